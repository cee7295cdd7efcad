/-
  NARROWER THAN 'FOR EVERY INPUT', by the rows' own cells (each row's printed sentence says how): FnExactProgramSize: laid · FnExactProgramFrom: laid · FnExactProgramText: laid · FnExactProgramNames: laid · FnExactProgramWants: laid · FnExactProgramLink: laid · FnExactProgramReach: laid · FnExactProgramTrim: laid · FnExactProgramRename: laid · FnExactProgramLoad: laid · FnExactBlockIdle: laid · FnExactProgramThin: laid.
  DERIVED. THE GIVEN ROWS OF THIS SEAT. 12 by the template 'for every input the law returns true; each argument reads behind the call as it read before'; 0 by the template 'total and deterministic' (their statements: YtnkjgoholocliaaGreatDoorTotals.lean).
  GIVEN WITH THE SEED: the statements are not yours to turn. If you find one false, say at which input.
  Laid BY PROGRAM, IN A SANDBOX (cutbox-rows.mjs): the forced cells as the released guide's own fill.sh prints them over the translation 32452d84ac0a10dc… (all of the seat's roots in one cut). By AI agents, Wed Nov 11 2026. No macro, syntax, notation, axiom, sorry.
-/
import Derived.Test.YtnkjgoholocliaaGreatDoorChecked
import GoSem.Claim
import GoSem.ClaimJoined
import GoSem.ClaimMapViews
import Derived.JoinedTies
import Derived.KernelRfl
namespace Go.Proofs.YtnkjgoholocliaaGreatDoor
/- THE CELL 'sum', in the pinned program and in every row, IS THE sha256 OF THE DUMP (.gsa) THAT YtnkjgoholocliaaGreatDoorProg.lean LOADS. Nothing in Lean hashes anything: it is a label: what it is worth is what the hold of that sum in a sandbox is worth. -/
noncomputable def Tryz.pinned : Pinned := { name := "ytnkjgoholocliaagreatdoor", sum := "32452d84ac0a10dcfc30b87b98ec0381442e8f4c6cc0c343698e05cbe90e9d6e", checked := Tryz.checked }
namespace Rows
def none {H : Type} : Left H := { results := [], args := [] }

/- WHAT THE LISTED PACKAGE-LEVEL VARIABLES READ AS WHEN THE CALL BEGINS. Each datum BY PROGRAM (the guide's laid-datum.mjs) off the statement by which the dump's own 'gosem.cut.vars' lays the variable. In a bare row this is a premise. The card (YtnkjgoholocliaaGreatDoorCards.lean) ties it to the program's text. -/
def laid_math_bits_deBruijn32tab {H : Type} : DataW H := .agg [.lit (.int .u8 0), .lit (.int .u8 1), .lit (.int .u8 28), .lit (.int .u8 2), .lit (.int .u8 29), .lit (.int .u8 14), .lit (.int .u8 24), .lit (.int .u8 3), .lit (.int .u8 30), .lit (.int .u8 22), .lit (.int .u8 20), .lit (.int .u8 15), .lit (.int .u8 25), .lit (.int .u8 17), .lit (.int .u8 4), .lit (.int .u8 8), .lit (.int .u8 31), .lit (.int .u8 27), .lit (.int .u8 13), .lit (.int .u8 23), .lit (.int .u8 21), .lit (.int .u8 19), .lit (.int .u8 16), .lit (.int .u8 7), .lit (.int .u8 26), .lit (.int .u8 12), .lit (.int .u8 18), .lit (.int .u8 6), .lit (.int .u8 11), .lit (.int .u8 5), .lit (.int .u8 10), .lit (.int .u8 9)]
def laid_math_bits_deBruijn64tab {H : Type} : DataW H := .agg [.lit (.int .u8 0), .lit (.int .u8 1), .lit (.int .u8 56), .lit (.int .u8 2), .lit (.int .u8 57), .lit (.int .u8 49), .lit (.int .u8 28), .lit (.int .u8 3), .lit (.int .u8 61), .lit (.int .u8 58), .lit (.int .u8 42), .lit (.int .u8 50), .lit (.int .u8 38), .lit (.int .u8 29), .lit (.int .u8 17), .lit (.int .u8 4), .lit (.int .u8 62), .lit (.int .u8 47), .lit (.int .u8 59), .lit (.int .u8 36), .lit (.int .u8 45), .lit (.int .u8 43), .lit (.int .u8 51), .lit (.int .u8 22), .lit (.int .u8 53), .lit (.int .u8 39), .lit (.int .u8 33), .lit (.int .u8 30), .lit (.int .u8 24), .lit (.int .u8 18), .lit (.int .u8 12), .lit (.int .u8 5), .lit (.int .u8 63), .lit (.int .u8 55), .lit (.int .u8 48), .lit (.int .u8 27), .lit (.int .u8 60), .lit (.int .u8 41), .lit (.int .u8 37), .lit (.int .u8 16), .lit (.int .u8 46), .lit (.int .u8 35), .lit (.int .u8 44), .lit (.int .u8 21), .lit (.int .u8 52), .lit (.int .u8 32), .lit (.int .u8 23), .lit (.int .u8 11), .lit (.int .u8 54), .lit (.int .u8 26), .lit (.int .u8 40), .lit (.int .u8 15), .lit (.int .u8 34), .lit (.int .u8 20), .lit (.int .u8 31), .lit (.int .u8 10), .lit (.int .u8 25), .lit (.int .u8 14), .lit (.int .u8 19), .lit (.int .u8 9), .lit (.int .u8 13), .lit (.int .u8 8), .lit (.int .u8 7), .lit (.int .u8 6)]
def laid_internal_strconv_uint64pow10 {H : Type} : DataW H := .agg [.lit (.int .u64 1), .lit (.int .u64 10), .lit (.int .u64 100), .lit (.int .u64 1000), .lit (.int .u64 10000), .lit (.int .u64 100000), .lit (.int .u64 1000000), .lit (.int .u64 10000000), .lit (.int .u64 100000000), .lit (.int .u64 1000000000), .lit (.int .u64 10000000000), .lit (.int .u64 100000000000), .lit (.int .u64 1000000000000), .lit (.int .u64 10000000000000), .lit (.int .u64 100000000000000), .lit (.int .u64 1000000000000000), .lit (.int .u64 10000000000000000), .lit (.int .u64 100000000000000000), .lit (.int .u64 1000000000000000000), .lit (.int .u64 10000000000000000000)]
def laid_strconv_ErrRange {H : Type} : DataW H := .iface "*errors.errorString" (.ptr (.agg [.lit (.string [118, 97, 108, 117, 101, 32, 111, 117, 116, 32, 111, 102, 32, 114, 97, 110, 103, 101])]))
def laid_strconv_ErrSyntax {H : Type} : DataW H := .iface "*errors.errorString" (.ptr (.agg [.lit (.string [105, 110, 118, 97, 108, 105, 100, 32, 115, 121, 110, 116, 97, 120])]))

/-- 'laws.FnExactProgramSize': WHATEVER THE INPUT: true; the input reads as it did. -/
def fnExactProgramSizeSpec : ChangeSpec := { name := "fnExactProgramSize", fn := fun _ => fun
  | [d] => { results := [.lit (.bool true)], args := [d] }
  | _ => none }
def fnExactProgramSizeRow : OpenClaim := { program := "ytnkjgoholocliaagreatdoor", sum := "32452d84ac0a10dcfc30b87b98ec0381442e8f4c6cc0c343698e05cbe90e9d6e", func := "loop.example/typedassembly/laws.FnExactProgramSize", spec := "fnExactProgramSize", inPlace := ["internal/abi.NoEscape", "internal/bytealg.MakeNoZero"], unfollowed := true, recurses := true, named := ["strconv.ErrSyntax", "strconv.ErrRange", "internal/strconv.uint64pow10", "math/bits.deBruijn32tab", "math/bits.deBruijn64tab"], apart := false, laid := [("math/bits.deBruijn32tab", laid_math_bits_deBruijn32tab), ("math/bits.deBruijn64tab", laid_math_bits_deBruijn64tab), ("internal/strconv.uint64pow10", laid_internal_strconv_uint64pow10), ("strconv.ErrRange", laid_strconv_ErrRange), ("strconv.ErrSyntax", laid_strconv_ErrSyntax)] }
def FnExactProgramSizeSaid : Prop := fnExactProgramSizeRow.holds Tryz.pinned (OpenSpec.ofChange fnExactProgramSizeSpec)

/-- ITS FALSE NEIGHBOUR: 'it returns false'. Refute it at one input. -/
def fnExactProgramSizeWrong : ChangeSpec := { name := "fnExactProgramSize", fn := fun _ => fun
  | [d] => { results := [.lit (.bool false)], args := [d] }
  | _ => none }
def FnExactProgramSizeWrongFalsely : Prop := fnExactProgramSizeRow.holds Tryz.pinned (OpenSpec.ofChange fnExactProgramSizeWrong)

/-- 'laws.FnExactProgramFrom': WHATEVER THE INPUT: true; the input reads as it did. -/
def fnExactProgramFromSpec : ChangeSpec := { name := "fnExactProgramFrom", fn := fun _ => fun
  | [d] => { results := [.lit (.bool true)], args := [d] }
  | _ => none }
def fnExactProgramFromRow : OpenClaim := { program := "ytnkjgoholocliaagreatdoor", sum := "32452d84ac0a10dcfc30b87b98ec0381442e8f4c6cc0c343698e05cbe90e9d6e", func := "loop.example/typedassembly/laws.FnExactProgramFrom", spec := "fnExactProgramFrom", inPlace := ["internal/abi.NoEscape", "internal/bytealg.MakeNoZero"], unfollowed := true, recurses := true, named := ["strconv.ErrSyntax", "strconv.ErrRange", "internal/strconv.uint64pow10", "math/bits.deBruijn32tab", "math/bits.deBruijn64tab"], apart := false, laid := [("math/bits.deBruijn32tab", laid_math_bits_deBruijn32tab), ("math/bits.deBruijn64tab", laid_math_bits_deBruijn64tab), ("internal/strconv.uint64pow10", laid_internal_strconv_uint64pow10), ("strconv.ErrRange", laid_strconv_ErrRange), ("strconv.ErrSyntax", laid_strconv_ErrSyntax)] }
def FnExactProgramFromSaid : Prop := fnExactProgramFromRow.holds Tryz.pinned (OpenSpec.ofChange fnExactProgramFromSpec)

/-- ITS FALSE NEIGHBOUR: 'it returns false'. Refute it at one input. -/
def fnExactProgramFromWrong : ChangeSpec := { name := "fnExactProgramFrom", fn := fun _ => fun
  | [d] => { results := [.lit (.bool false)], args := [d] }
  | _ => none }
def FnExactProgramFromWrongFalsely : Prop := fnExactProgramFromRow.holds Tryz.pinned (OpenSpec.ofChange fnExactProgramFromWrong)

/-- 'laws.FnExactProgramText': WHATEVER THE INPUT: true; the input reads as it did. -/
def fnExactProgramTextSpec : ChangeSpec := { name := "fnExactProgramText", fn := fun _ => fun
  | [d] => { results := [.lit (.bool true)], args := [d] }
  | _ => none }
def fnExactProgramTextRow : OpenClaim := { program := "ytnkjgoholocliaagreatdoor", sum := "32452d84ac0a10dcfc30b87b98ec0381442e8f4c6cc0c343698e05cbe90e9d6e", func := "loop.example/typedassembly/laws.FnExactProgramText", spec := "fnExactProgramText", inPlace := ["internal/abi.NoEscape", "internal/bytealg.MakeNoZero"], unfollowed := true, recurses := true, named := ["strconv.ErrSyntax", "strconv.ErrRange", "internal/strconv.uint64pow10", "math/bits.deBruijn32tab", "math/bits.deBruijn64tab"], apart := false, laid := [("math/bits.deBruijn32tab", laid_math_bits_deBruijn32tab), ("math/bits.deBruijn64tab", laid_math_bits_deBruijn64tab), ("internal/strconv.uint64pow10", laid_internal_strconv_uint64pow10), ("strconv.ErrRange", laid_strconv_ErrRange), ("strconv.ErrSyntax", laid_strconv_ErrSyntax)] }
def FnExactProgramTextSaid : Prop := fnExactProgramTextRow.holds Tryz.pinned (OpenSpec.ofChange fnExactProgramTextSpec)

/-- ITS FALSE NEIGHBOUR: 'it returns false'. Refute it at one input. -/
def fnExactProgramTextWrong : ChangeSpec := { name := "fnExactProgramText", fn := fun _ => fun
  | [d] => { results := [.lit (.bool false)], args := [d] }
  | _ => none }
def FnExactProgramTextWrongFalsely : Prop := fnExactProgramTextRow.holds Tryz.pinned (OpenSpec.ofChange fnExactProgramTextWrong)

/-- 'laws.FnExactProgramNames': WHATEVER THE INPUT: true; the input reads as it did. -/
def fnExactProgramNamesSpec : ChangeSpec := { name := "fnExactProgramNames", fn := fun _ => fun
  | [d] => { results := [.lit (.bool true)], args := [d] }
  | _ => none }
def fnExactProgramNamesRow : OpenClaim := { program := "ytnkjgoholocliaagreatdoor", sum := "32452d84ac0a10dcfc30b87b98ec0381442e8f4c6cc0c343698e05cbe90e9d6e", func := "loop.example/typedassembly/laws.FnExactProgramNames", spec := "fnExactProgramNames", inPlace := ["internal/abi.NoEscape", "internal/bytealg.MakeNoZero"], unfollowed := true, recurses := true, named := ["strconv.ErrSyntax", "strconv.ErrRange", "internal/strconv.uint64pow10", "math/bits.deBruijn32tab", "math/bits.deBruijn64tab"], apart := false, laid := [("math/bits.deBruijn32tab", laid_math_bits_deBruijn32tab), ("math/bits.deBruijn64tab", laid_math_bits_deBruijn64tab), ("internal/strconv.uint64pow10", laid_internal_strconv_uint64pow10), ("strconv.ErrRange", laid_strconv_ErrRange), ("strconv.ErrSyntax", laid_strconv_ErrSyntax)] }
def FnExactProgramNamesSaid : Prop := fnExactProgramNamesRow.holds Tryz.pinned (OpenSpec.ofChange fnExactProgramNamesSpec)

/-- ITS FALSE NEIGHBOUR: 'it returns false'. Refute it at one input. -/
def fnExactProgramNamesWrong : ChangeSpec := { name := "fnExactProgramNames", fn := fun _ => fun
  | [d] => { results := [.lit (.bool false)], args := [d] }
  | _ => none }
def FnExactProgramNamesWrongFalsely : Prop := fnExactProgramNamesRow.holds Tryz.pinned (OpenSpec.ofChange fnExactProgramNamesWrong)

/-- 'laws.FnExactProgramWants': WHATEVER THE INPUT: true; the input reads as it did. -/
def fnExactProgramWantsSpec : ChangeSpec := { name := "fnExactProgramWants", fn := fun _ => fun
  | [d] => { results := [.lit (.bool true)], args := [d] }
  | _ => none }
def fnExactProgramWantsRow : OpenClaim := { program := "ytnkjgoholocliaagreatdoor", sum := "32452d84ac0a10dcfc30b87b98ec0381442e8f4c6cc0c343698e05cbe90e9d6e", func := "loop.example/typedassembly/laws.FnExactProgramWants", spec := "fnExactProgramWants", inPlace := ["internal/abi.NoEscape", "internal/bytealg.MakeNoZero"], unfollowed := true, recurses := true, named := ["strconv.ErrSyntax", "strconv.ErrRange", "internal/strconv.uint64pow10", "math/bits.deBruijn32tab", "math/bits.deBruijn64tab"], apart := false, laid := [("math/bits.deBruijn32tab", laid_math_bits_deBruijn32tab), ("math/bits.deBruijn64tab", laid_math_bits_deBruijn64tab), ("internal/strconv.uint64pow10", laid_internal_strconv_uint64pow10), ("strconv.ErrRange", laid_strconv_ErrRange), ("strconv.ErrSyntax", laid_strconv_ErrSyntax)] }
def FnExactProgramWantsSaid : Prop := fnExactProgramWantsRow.holds Tryz.pinned (OpenSpec.ofChange fnExactProgramWantsSpec)

/-- ITS FALSE NEIGHBOUR: 'it returns false'. Refute it at one input. -/
def fnExactProgramWantsWrong : ChangeSpec := { name := "fnExactProgramWants", fn := fun _ => fun
  | [d] => { results := [.lit (.bool false)], args := [d] }
  | _ => none }
def FnExactProgramWantsWrongFalsely : Prop := fnExactProgramWantsRow.holds Tryz.pinned (OpenSpec.ofChange fnExactProgramWantsWrong)

/-- 'laws.FnExactProgramLink': WHATEVER THE INPUT: true; the input reads as it did. -/
def fnExactProgramLinkSpec : ChangeSpec := { name := "fnExactProgramLink", fn := fun _ => fun
  | [d1, d2] => { results := [.lit (.bool true)], args := [d1, d2] }
  | _ => none }
def fnExactProgramLinkRow : OpenClaim := { program := "ytnkjgoholocliaagreatdoor", sum := "32452d84ac0a10dcfc30b87b98ec0381442e8f4c6cc0c343698e05cbe90e9d6e", func := "loop.example/typedassembly/laws.FnExactProgramLink", spec := "fnExactProgramLink", inPlace := ["internal/abi.NoEscape", "internal/bytealg.MakeNoZero"], unfollowed := true, recurses := true, named := ["strconv.ErrSyntax", "strconv.ErrRange", "internal/strconv.uint64pow10", "math/bits.deBruijn32tab", "math/bits.deBruijn64tab"], apart := false, laid := [("math/bits.deBruijn32tab", laid_math_bits_deBruijn32tab), ("math/bits.deBruijn64tab", laid_math_bits_deBruijn64tab), ("internal/strconv.uint64pow10", laid_internal_strconv_uint64pow10), ("strconv.ErrRange", laid_strconv_ErrRange), ("strconv.ErrSyntax", laid_strconv_ErrSyntax)] }
def FnExactProgramLinkSaid : Prop := fnExactProgramLinkRow.holds Tryz.pinned (OpenSpec.ofChange fnExactProgramLinkSpec)

/-- ITS FALSE NEIGHBOUR: 'it returns false'. Refute it at one input. -/
def fnExactProgramLinkWrong : ChangeSpec := { name := "fnExactProgramLink", fn := fun _ => fun
  | [d1, d2] => { results := [.lit (.bool false)], args := [d1, d2] }
  | _ => none }
def FnExactProgramLinkWrongFalsely : Prop := fnExactProgramLinkRow.holds Tryz.pinned (OpenSpec.ofChange fnExactProgramLinkWrong)

/-- 'laws.FnExactProgramReach': WHATEVER THE INPUT: true; the input reads as it did. -/
def fnExactProgramReachSpec : ChangeSpec := { name := "fnExactProgramReach", fn := fun _ => fun
  | [d] => { results := [.lit (.bool true)], args := [d] }
  | _ => none }
def fnExactProgramReachRow : OpenClaim := { program := "ytnkjgoholocliaagreatdoor", sum := "32452d84ac0a10dcfc30b87b98ec0381442e8f4c6cc0c343698e05cbe90e9d6e", func := "loop.example/typedassembly/laws.FnExactProgramReach", spec := "fnExactProgramReach", inPlace := ["internal/abi.NoEscape", "internal/bytealg.MakeNoZero"], unfollowed := true, recurses := true, named := ["strconv.ErrSyntax", "strconv.ErrRange", "internal/strconv.uint64pow10", "math/bits.deBruijn32tab", "math/bits.deBruijn64tab"], apart := false, laid := [("math/bits.deBruijn32tab", laid_math_bits_deBruijn32tab), ("math/bits.deBruijn64tab", laid_math_bits_deBruijn64tab), ("internal/strconv.uint64pow10", laid_internal_strconv_uint64pow10), ("strconv.ErrRange", laid_strconv_ErrRange), ("strconv.ErrSyntax", laid_strconv_ErrSyntax)] }
def FnExactProgramReachSaid : Prop := fnExactProgramReachRow.holds Tryz.pinned (OpenSpec.ofChange fnExactProgramReachSpec)

/-- ITS FALSE NEIGHBOUR: 'it returns false'. Refute it at one input. -/
def fnExactProgramReachWrong : ChangeSpec := { name := "fnExactProgramReach", fn := fun _ => fun
  | [d] => { results := [.lit (.bool false)], args := [d] }
  | _ => none }
def FnExactProgramReachWrongFalsely : Prop := fnExactProgramReachRow.holds Tryz.pinned (OpenSpec.ofChange fnExactProgramReachWrong)

/-- 'laws.FnExactProgramTrim': WHATEVER THE INPUT: true; the input reads as it did. -/
def fnExactProgramTrimSpec : ChangeSpec := { name := "fnExactProgramTrim", fn := fun _ => fun
  | [d] => { results := [.lit (.bool true)], args := [d] }
  | _ => none }
def fnExactProgramTrimRow : OpenClaim := { program := "ytnkjgoholocliaagreatdoor", sum := "32452d84ac0a10dcfc30b87b98ec0381442e8f4c6cc0c343698e05cbe90e9d6e", func := "loop.example/typedassembly/laws.FnExactProgramTrim", spec := "fnExactProgramTrim", inPlace := ["internal/abi.NoEscape", "internal/bytealg.MakeNoZero"], unfollowed := true, recurses := true, named := ["strconv.ErrSyntax", "strconv.ErrRange", "internal/strconv.uint64pow10", "math/bits.deBruijn32tab", "math/bits.deBruijn64tab"], apart := false, laid := [("math/bits.deBruijn32tab", laid_math_bits_deBruijn32tab), ("math/bits.deBruijn64tab", laid_math_bits_deBruijn64tab), ("internal/strconv.uint64pow10", laid_internal_strconv_uint64pow10), ("strconv.ErrRange", laid_strconv_ErrRange), ("strconv.ErrSyntax", laid_strconv_ErrSyntax)] }
def FnExactProgramTrimSaid : Prop := fnExactProgramTrimRow.holds Tryz.pinned (OpenSpec.ofChange fnExactProgramTrimSpec)

/-- ITS FALSE NEIGHBOUR: 'it returns false'. Refute it at one input. -/
def fnExactProgramTrimWrong : ChangeSpec := { name := "fnExactProgramTrim", fn := fun _ => fun
  | [d] => { results := [.lit (.bool false)], args := [d] }
  | _ => none }
def FnExactProgramTrimWrongFalsely : Prop := fnExactProgramTrimRow.holds Tryz.pinned (OpenSpec.ofChange fnExactProgramTrimWrong)

/-- 'laws.FnExactProgramRename': WHATEVER THE INPUT: true; the input reads as it did. -/
def fnExactProgramRenameSpec : ChangeSpec := { name := "fnExactProgramRename", fn := fun _ => fun
  | [d1, d2, d3] => { results := [.lit (.bool true)], args := [d1, d2, d3] }
  | _ => none }
def fnExactProgramRenameRow : OpenClaim := { program := "ytnkjgoholocliaagreatdoor", sum := "32452d84ac0a10dcfc30b87b98ec0381442e8f4c6cc0c343698e05cbe90e9d6e", func := "loop.example/typedassembly/laws.FnExactProgramRename", spec := "fnExactProgramRename", inPlace := ["internal/abi.NoEscape", "internal/bytealg.MakeNoZero"], unfollowed := true, recurses := true, named := ["strconv.ErrSyntax", "strconv.ErrRange", "internal/strconv.uint64pow10", "math/bits.deBruijn32tab", "math/bits.deBruijn64tab"], apart := false, laid := [("math/bits.deBruijn32tab", laid_math_bits_deBruijn32tab), ("math/bits.deBruijn64tab", laid_math_bits_deBruijn64tab), ("internal/strconv.uint64pow10", laid_internal_strconv_uint64pow10), ("strconv.ErrRange", laid_strconv_ErrRange), ("strconv.ErrSyntax", laid_strconv_ErrSyntax)] }
def FnExactProgramRenameSaid : Prop := fnExactProgramRenameRow.holds Tryz.pinned (OpenSpec.ofChange fnExactProgramRenameSpec)

/-- ITS FALSE NEIGHBOUR: 'it returns false'. Refute it at one input. -/
def fnExactProgramRenameWrong : ChangeSpec := { name := "fnExactProgramRename", fn := fun _ => fun
  | [d1, d2, d3] => { results := [.lit (.bool false)], args := [d1, d2, d3] }
  | _ => none }
def FnExactProgramRenameWrongFalsely : Prop := fnExactProgramRenameRow.holds Tryz.pinned (OpenSpec.ofChange fnExactProgramRenameWrong)

/-- 'laws.FnExactProgramLoad': WHATEVER THE INPUT: true; the input reads as it did. -/
def fnExactProgramLoadSpec : ChangeSpec := { name := "fnExactProgramLoad", fn := fun _ => fun
  | [d] => { results := [.lit (.bool true)], args := [d] }
  | _ => none }
def fnExactProgramLoadRow : OpenClaim := { program := "ytnkjgoholocliaagreatdoor", sum := "32452d84ac0a10dcfc30b87b98ec0381442e8f4c6cc0c343698e05cbe90e9d6e", func := "loop.example/typedassembly/laws.FnExactProgramLoad", spec := "fnExactProgramLoad", inPlace := ["internal/abi.NoEscape", "internal/bytealg.MakeNoZero"], unfollowed := true, recurses := true, named := ["strconv.ErrSyntax", "strconv.ErrRange", "internal/strconv.uint64pow10", "math/bits.deBruijn32tab", "math/bits.deBruijn64tab"], apart := false, laid := [("math/bits.deBruijn32tab", laid_math_bits_deBruijn32tab), ("math/bits.deBruijn64tab", laid_math_bits_deBruijn64tab), ("internal/strconv.uint64pow10", laid_internal_strconv_uint64pow10), ("strconv.ErrRange", laid_strconv_ErrRange), ("strconv.ErrSyntax", laid_strconv_ErrSyntax)] }
def FnExactProgramLoadSaid : Prop := fnExactProgramLoadRow.holds Tryz.pinned (OpenSpec.ofChange fnExactProgramLoadSpec)

/-- ITS FALSE NEIGHBOUR: 'it returns false'. Refute it at one input. -/
def fnExactProgramLoadWrong : ChangeSpec := { name := "fnExactProgramLoad", fn := fun _ => fun
  | [d] => { results := [.lit (.bool false)], args := [d] }
  | _ => none }
def FnExactProgramLoadWrongFalsely : Prop := fnExactProgramLoadRow.holds Tryz.pinned (OpenSpec.ofChange fnExactProgramLoadWrong)

/-- 'laws.FnExactBlockIdle': WHATEVER THE INPUT: true; the input reads as it did. -/
def fnExactBlockIdleSpec : ChangeSpec := { name := "fnExactBlockIdle", fn := fun _ => fun
  | [d1, d2] => { results := [.lit (.bool true)], args := [d1, d2] }
  | _ => none }
def fnExactBlockIdleRow : OpenClaim := { program := "ytnkjgoholocliaagreatdoor", sum := "32452d84ac0a10dcfc30b87b98ec0381442e8f4c6cc0c343698e05cbe90e9d6e", func := "loop.example/typedassembly/laws.FnExactBlockIdle", spec := "fnExactBlockIdle", inPlace := ["internal/abi.NoEscape", "internal/bytealg.MakeNoZero"], unfollowed := true, recurses := true, named := ["strconv.ErrSyntax", "strconv.ErrRange", "internal/strconv.uint64pow10", "math/bits.deBruijn32tab", "math/bits.deBruijn64tab"], apart := false, laid := [("math/bits.deBruijn32tab", laid_math_bits_deBruijn32tab), ("math/bits.deBruijn64tab", laid_math_bits_deBruijn64tab), ("internal/strconv.uint64pow10", laid_internal_strconv_uint64pow10), ("strconv.ErrRange", laid_strconv_ErrRange), ("strconv.ErrSyntax", laid_strconv_ErrSyntax)] }
def FnExactBlockIdleSaid : Prop := fnExactBlockIdleRow.holds Tryz.pinned (OpenSpec.ofChange fnExactBlockIdleSpec)

/-- ITS FALSE NEIGHBOUR: 'it returns false'. Refute it at one input. -/
def fnExactBlockIdleWrong : ChangeSpec := { name := "fnExactBlockIdle", fn := fun _ => fun
  | [d1, d2] => { results := [.lit (.bool false)], args := [d1, d2] }
  | _ => none }
def FnExactBlockIdleWrongFalsely : Prop := fnExactBlockIdleRow.holds Tryz.pinned (OpenSpec.ofChange fnExactBlockIdleWrong)

/-- 'laws.FnExactProgramThin': WHATEVER THE INPUT: true; the input reads as it did. -/
def fnExactProgramThinSpec : ChangeSpec := { name := "fnExactProgramThin", fn := fun _ => fun
  | [d] => { results := [.lit (.bool true)], args := [d] }
  | _ => none }
def fnExactProgramThinRow : OpenClaim := { program := "ytnkjgoholocliaagreatdoor", sum := "32452d84ac0a10dcfc30b87b98ec0381442e8f4c6cc0c343698e05cbe90e9d6e", func := "loop.example/typedassembly/laws.FnExactProgramThin", spec := "fnExactProgramThin", inPlace := ["internal/abi.NoEscape", "internal/bytealg.MakeNoZero"], unfollowed := true, recurses := true, named := ["strconv.ErrSyntax", "strconv.ErrRange", "internal/strconv.uint64pow10", "math/bits.deBruijn32tab", "math/bits.deBruijn64tab"], apart := false, laid := [("math/bits.deBruijn32tab", laid_math_bits_deBruijn32tab), ("math/bits.deBruijn64tab", laid_math_bits_deBruijn64tab), ("internal/strconv.uint64pow10", laid_internal_strconv_uint64pow10), ("strconv.ErrRange", laid_strconv_ErrRange), ("strconv.ErrSyntax", laid_strconv_ErrSyntax)] }
def FnExactProgramThinSaid : Prop := fnExactProgramThinRow.holds Tryz.pinned (OpenSpec.ofChange fnExactProgramThinSpec)

/-- ITS FALSE NEIGHBOUR: 'it returns false'. Refute it at one input. -/
def fnExactProgramThinWrong : ChangeSpec := { name := "fnExactProgramThin", fn := fun _ => fun
  | [d] => { results := [.lit (.bool false)], args := [d] }
  | _ => none }
def FnExactProgramThinWrongFalsely : Prop := fnExactProgramThinRow.holds Tryz.pinned (OpenSpec.ofChange fnExactProgramThinWrong)

/- THE SECOND FORM. 'bulk': how many values and letters a reading holds, each counted each time it is reached (what is shared counts as often as it is met; a slice's spare places count too). A statement '..UptoSaid' is the law's where the arguments, and the package variables that the reading takes, are together of bulk at most 1048576: NARROWER than '..Said'. Prove '..Said' where nothing that the law and all that it calls make is longer than what came in: it says more and counts as full. Else prove '..UptoSaid'. A law counts once. -/
mutual
def uptoBulk {H : Type} : DataW H → Nat
  | .lit (.string bytes) => bytes.length + 1
  | .lit _ => 1
  | .nil => 1
  | .ptr d => uptoBulk d + 1
  | .slice elems spare => uptoBulkAll elems + uptoBulkAll spare + 1
  | .agg parts => uptoBulkAll parts + 1
  | .iface _ d => uptoBulk d + 1
  | .map entries => uptoBulkEntries entries + 1
  | .held _ => 1
def uptoBulkAll {H : Type} : List (DataW H) → Nat
  | [] => 0
  | d :: r => uptoBulk d + uptoBulkAll r
def uptoBulkEntries {H : Type} : List (Lit × DataW H) → Nat
  | [] => 0
  | x :: r => uptoBulkEntry x + uptoBulkEntries r
def uptoBulkEntry {H : Type} : Lit × DataW H → Nat
  | (.string bytes, d) => bytes.length + uptoBulk d + 1
  | (_, d) => uptoBulk d + 1
 end
def uptoSmall : (H : Type) → List (DataW H) → Bool := fun _ ds => decide (uptoBulkAll ds ≤ 1048576)
def OpenSpec.upto (s : _root_.Go.ChangeSpec) : _root_.Go.OpenSpec := { _root_.Go.OpenSpec.ofChange s with cond := some uptoSmall }

/-- 'laws.FnExactProgramSize', WHERE WHAT IT READS IS OF BULK AT MOST 1048576: true; the input reads as it did. -/
def fnExactProgramSizeUptoRow : OpenClaim := { program := "ytnkjgoholocliaagreatdoor", sum := "32452d84ac0a10dcfc30b87b98ec0381442e8f4c6cc0c343698e05cbe90e9d6e", func := "loop.example/typedassembly/laws.FnExactProgramSize", spec := "fnExactProgramSize", inPlace := ["internal/abi.NoEscape", "internal/bytealg.MakeNoZero"], unfollowed := true, recurses := true, named := ["strconv.ErrSyntax", "strconv.ErrRange", "internal/strconv.uint64pow10", "math/bits.deBruijn32tab", "math/bits.deBruijn64tab"], apart := false, laid := [("math/bits.deBruijn32tab", laid_math_bits_deBruijn32tab), ("math/bits.deBruijn64tab", laid_math_bits_deBruijn64tab), ("internal/strconv.uint64pow10", laid_internal_strconv_uint64pow10), ("strconv.ErrRange", laid_strconv_ErrRange), ("strconv.ErrSyntax", laid_strconv_ErrSyntax)], narrowed := true }
def FnExactProgramSizeUptoSaid : Prop := fnExactProgramSizeUptoRow.holds Tryz.pinned (OpenSpec.upto fnExactProgramSizeSpec)

/-- 'laws.FnExactProgramFrom', WHERE WHAT IT READS IS OF BULK AT MOST 1048576: true; the input reads as it did. -/
def fnExactProgramFromUptoRow : OpenClaim := { program := "ytnkjgoholocliaagreatdoor", sum := "32452d84ac0a10dcfc30b87b98ec0381442e8f4c6cc0c343698e05cbe90e9d6e", func := "loop.example/typedassembly/laws.FnExactProgramFrom", spec := "fnExactProgramFrom", inPlace := ["internal/abi.NoEscape", "internal/bytealg.MakeNoZero"], unfollowed := true, recurses := true, named := ["strconv.ErrSyntax", "strconv.ErrRange", "internal/strconv.uint64pow10", "math/bits.deBruijn32tab", "math/bits.deBruijn64tab"], apart := false, laid := [("math/bits.deBruijn32tab", laid_math_bits_deBruijn32tab), ("math/bits.deBruijn64tab", laid_math_bits_deBruijn64tab), ("internal/strconv.uint64pow10", laid_internal_strconv_uint64pow10), ("strconv.ErrRange", laid_strconv_ErrRange), ("strconv.ErrSyntax", laid_strconv_ErrSyntax)], narrowed := true }
def FnExactProgramFromUptoSaid : Prop := fnExactProgramFromUptoRow.holds Tryz.pinned (OpenSpec.upto fnExactProgramFromSpec)

/-- 'laws.FnExactProgramText', WHERE WHAT IT READS IS OF BULK AT MOST 1048576: true; the input reads as it did. -/
def fnExactProgramTextUptoRow : OpenClaim := { program := "ytnkjgoholocliaagreatdoor", sum := "32452d84ac0a10dcfc30b87b98ec0381442e8f4c6cc0c343698e05cbe90e9d6e", func := "loop.example/typedassembly/laws.FnExactProgramText", spec := "fnExactProgramText", inPlace := ["internal/abi.NoEscape", "internal/bytealg.MakeNoZero"], unfollowed := true, recurses := true, named := ["strconv.ErrSyntax", "strconv.ErrRange", "internal/strconv.uint64pow10", "math/bits.deBruijn32tab", "math/bits.deBruijn64tab"], apart := false, laid := [("math/bits.deBruijn32tab", laid_math_bits_deBruijn32tab), ("math/bits.deBruijn64tab", laid_math_bits_deBruijn64tab), ("internal/strconv.uint64pow10", laid_internal_strconv_uint64pow10), ("strconv.ErrRange", laid_strconv_ErrRange), ("strconv.ErrSyntax", laid_strconv_ErrSyntax)], narrowed := true }
def FnExactProgramTextUptoSaid : Prop := fnExactProgramTextUptoRow.holds Tryz.pinned (OpenSpec.upto fnExactProgramTextSpec)

/-- 'laws.FnExactProgramNames', WHERE WHAT IT READS IS OF BULK AT MOST 1048576: true; the input reads as it did. -/
def fnExactProgramNamesUptoRow : OpenClaim := { program := "ytnkjgoholocliaagreatdoor", sum := "32452d84ac0a10dcfc30b87b98ec0381442e8f4c6cc0c343698e05cbe90e9d6e", func := "loop.example/typedassembly/laws.FnExactProgramNames", spec := "fnExactProgramNames", inPlace := ["internal/abi.NoEscape", "internal/bytealg.MakeNoZero"], unfollowed := true, recurses := true, named := ["strconv.ErrSyntax", "strconv.ErrRange", "internal/strconv.uint64pow10", "math/bits.deBruijn32tab", "math/bits.deBruijn64tab"], apart := false, laid := [("math/bits.deBruijn32tab", laid_math_bits_deBruijn32tab), ("math/bits.deBruijn64tab", laid_math_bits_deBruijn64tab), ("internal/strconv.uint64pow10", laid_internal_strconv_uint64pow10), ("strconv.ErrRange", laid_strconv_ErrRange), ("strconv.ErrSyntax", laid_strconv_ErrSyntax)], narrowed := true }
def FnExactProgramNamesUptoSaid : Prop := fnExactProgramNamesUptoRow.holds Tryz.pinned (OpenSpec.upto fnExactProgramNamesSpec)

/-- 'laws.FnExactProgramWants', WHERE WHAT IT READS IS OF BULK AT MOST 1048576: true; the input reads as it did. -/
def fnExactProgramWantsUptoRow : OpenClaim := { program := "ytnkjgoholocliaagreatdoor", sum := "32452d84ac0a10dcfc30b87b98ec0381442e8f4c6cc0c343698e05cbe90e9d6e", func := "loop.example/typedassembly/laws.FnExactProgramWants", spec := "fnExactProgramWants", inPlace := ["internal/abi.NoEscape", "internal/bytealg.MakeNoZero"], unfollowed := true, recurses := true, named := ["strconv.ErrSyntax", "strconv.ErrRange", "internal/strconv.uint64pow10", "math/bits.deBruijn32tab", "math/bits.deBruijn64tab"], apart := false, laid := [("math/bits.deBruijn32tab", laid_math_bits_deBruijn32tab), ("math/bits.deBruijn64tab", laid_math_bits_deBruijn64tab), ("internal/strconv.uint64pow10", laid_internal_strconv_uint64pow10), ("strconv.ErrRange", laid_strconv_ErrRange), ("strconv.ErrSyntax", laid_strconv_ErrSyntax)], narrowed := true }
def FnExactProgramWantsUptoSaid : Prop := fnExactProgramWantsUptoRow.holds Tryz.pinned (OpenSpec.upto fnExactProgramWantsSpec)

/-- 'laws.FnExactProgramLink', WHERE WHAT IT READS IS OF BULK AT MOST 1048576: true; the input reads as it did. -/
def fnExactProgramLinkUptoRow : OpenClaim := { program := "ytnkjgoholocliaagreatdoor", sum := "32452d84ac0a10dcfc30b87b98ec0381442e8f4c6cc0c343698e05cbe90e9d6e", func := "loop.example/typedassembly/laws.FnExactProgramLink", spec := "fnExactProgramLink", inPlace := ["internal/abi.NoEscape", "internal/bytealg.MakeNoZero"], unfollowed := true, recurses := true, named := ["strconv.ErrSyntax", "strconv.ErrRange", "internal/strconv.uint64pow10", "math/bits.deBruijn32tab", "math/bits.deBruijn64tab"], apart := false, laid := [("math/bits.deBruijn32tab", laid_math_bits_deBruijn32tab), ("math/bits.deBruijn64tab", laid_math_bits_deBruijn64tab), ("internal/strconv.uint64pow10", laid_internal_strconv_uint64pow10), ("strconv.ErrRange", laid_strconv_ErrRange), ("strconv.ErrSyntax", laid_strconv_ErrSyntax)], narrowed := true }
def FnExactProgramLinkUptoSaid : Prop := fnExactProgramLinkUptoRow.holds Tryz.pinned (OpenSpec.upto fnExactProgramLinkSpec)

/-- 'laws.FnExactProgramReach', WHERE WHAT IT READS IS OF BULK AT MOST 1048576: true; the input reads as it did. -/
def fnExactProgramReachUptoRow : OpenClaim := { program := "ytnkjgoholocliaagreatdoor", sum := "32452d84ac0a10dcfc30b87b98ec0381442e8f4c6cc0c343698e05cbe90e9d6e", func := "loop.example/typedassembly/laws.FnExactProgramReach", spec := "fnExactProgramReach", inPlace := ["internal/abi.NoEscape", "internal/bytealg.MakeNoZero"], unfollowed := true, recurses := true, named := ["strconv.ErrSyntax", "strconv.ErrRange", "internal/strconv.uint64pow10", "math/bits.deBruijn32tab", "math/bits.deBruijn64tab"], apart := false, laid := [("math/bits.deBruijn32tab", laid_math_bits_deBruijn32tab), ("math/bits.deBruijn64tab", laid_math_bits_deBruijn64tab), ("internal/strconv.uint64pow10", laid_internal_strconv_uint64pow10), ("strconv.ErrRange", laid_strconv_ErrRange), ("strconv.ErrSyntax", laid_strconv_ErrSyntax)], narrowed := true }
def FnExactProgramReachUptoSaid : Prop := fnExactProgramReachUptoRow.holds Tryz.pinned (OpenSpec.upto fnExactProgramReachSpec)

/-- 'laws.FnExactProgramTrim', WHERE WHAT IT READS IS OF BULK AT MOST 1048576: true; the input reads as it did. -/
def fnExactProgramTrimUptoRow : OpenClaim := { program := "ytnkjgoholocliaagreatdoor", sum := "32452d84ac0a10dcfc30b87b98ec0381442e8f4c6cc0c343698e05cbe90e9d6e", func := "loop.example/typedassembly/laws.FnExactProgramTrim", spec := "fnExactProgramTrim", inPlace := ["internal/abi.NoEscape", "internal/bytealg.MakeNoZero"], unfollowed := true, recurses := true, named := ["strconv.ErrSyntax", "strconv.ErrRange", "internal/strconv.uint64pow10", "math/bits.deBruijn32tab", "math/bits.deBruijn64tab"], apart := false, laid := [("math/bits.deBruijn32tab", laid_math_bits_deBruijn32tab), ("math/bits.deBruijn64tab", laid_math_bits_deBruijn64tab), ("internal/strconv.uint64pow10", laid_internal_strconv_uint64pow10), ("strconv.ErrRange", laid_strconv_ErrRange), ("strconv.ErrSyntax", laid_strconv_ErrSyntax)], narrowed := true }
def FnExactProgramTrimUptoSaid : Prop := fnExactProgramTrimUptoRow.holds Tryz.pinned (OpenSpec.upto fnExactProgramTrimSpec)

/-- 'laws.FnExactProgramRename', WHERE WHAT IT READS IS OF BULK AT MOST 1048576: true; the input reads as it did. -/
def fnExactProgramRenameUptoRow : OpenClaim := { program := "ytnkjgoholocliaagreatdoor", sum := "32452d84ac0a10dcfc30b87b98ec0381442e8f4c6cc0c343698e05cbe90e9d6e", func := "loop.example/typedassembly/laws.FnExactProgramRename", spec := "fnExactProgramRename", inPlace := ["internal/abi.NoEscape", "internal/bytealg.MakeNoZero"], unfollowed := true, recurses := true, named := ["strconv.ErrSyntax", "strconv.ErrRange", "internal/strconv.uint64pow10", "math/bits.deBruijn32tab", "math/bits.deBruijn64tab"], apart := false, laid := [("math/bits.deBruijn32tab", laid_math_bits_deBruijn32tab), ("math/bits.deBruijn64tab", laid_math_bits_deBruijn64tab), ("internal/strconv.uint64pow10", laid_internal_strconv_uint64pow10), ("strconv.ErrRange", laid_strconv_ErrRange), ("strconv.ErrSyntax", laid_strconv_ErrSyntax)], narrowed := true }
def FnExactProgramRenameUptoSaid : Prop := fnExactProgramRenameUptoRow.holds Tryz.pinned (OpenSpec.upto fnExactProgramRenameSpec)

/-- 'laws.FnExactProgramLoad', WHERE WHAT IT READS IS OF BULK AT MOST 1048576: true; the input reads as it did. -/
def fnExactProgramLoadUptoRow : OpenClaim := { program := "ytnkjgoholocliaagreatdoor", sum := "32452d84ac0a10dcfc30b87b98ec0381442e8f4c6cc0c343698e05cbe90e9d6e", func := "loop.example/typedassembly/laws.FnExactProgramLoad", spec := "fnExactProgramLoad", inPlace := ["internal/abi.NoEscape", "internal/bytealg.MakeNoZero"], unfollowed := true, recurses := true, named := ["strconv.ErrSyntax", "strconv.ErrRange", "internal/strconv.uint64pow10", "math/bits.deBruijn32tab", "math/bits.deBruijn64tab"], apart := false, laid := [("math/bits.deBruijn32tab", laid_math_bits_deBruijn32tab), ("math/bits.deBruijn64tab", laid_math_bits_deBruijn64tab), ("internal/strconv.uint64pow10", laid_internal_strconv_uint64pow10), ("strconv.ErrRange", laid_strconv_ErrRange), ("strconv.ErrSyntax", laid_strconv_ErrSyntax)], narrowed := true }
def FnExactProgramLoadUptoSaid : Prop := fnExactProgramLoadUptoRow.holds Tryz.pinned (OpenSpec.upto fnExactProgramLoadSpec)

/-- 'laws.FnExactBlockIdle', WHERE WHAT IT READS IS OF BULK AT MOST 1048576: true; the input reads as it did. -/
def fnExactBlockIdleUptoRow : OpenClaim := { program := "ytnkjgoholocliaagreatdoor", sum := "32452d84ac0a10dcfc30b87b98ec0381442e8f4c6cc0c343698e05cbe90e9d6e", func := "loop.example/typedassembly/laws.FnExactBlockIdle", spec := "fnExactBlockIdle", inPlace := ["internal/abi.NoEscape", "internal/bytealg.MakeNoZero"], unfollowed := true, recurses := true, named := ["strconv.ErrSyntax", "strconv.ErrRange", "internal/strconv.uint64pow10", "math/bits.deBruijn32tab", "math/bits.deBruijn64tab"], apart := false, laid := [("math/bits.deBruijn32tab", laid_math_bits_deBruijn32tab), ("math/bits.deBruijn64tab", laid_math_bits_deBruijn64tab), ("internal/strconv.uint64pow10", laid_internal_strconv_uint64pow10), ("strconv.ErrRange", laid_strconv_ErrRange), ("strconv.ErrSyntax", laid_strconv_ErrSyntax)], narrowed := true }
def FnExactBlockIdleUptoSaid : Prop := fnExactBlockIdleUptoRow.holds Tryz.pinned (OpenSpec.upto fnExactBlockIdleSpec)

/-- 'laws.FnExactProgramThin', WHERE WHAT IT READS IS OF BULK AT MOST 1048576: true; the input reads as it did. -/
def fnExactProgramThinUptoRow : OpenClaim := { program := "ytnkjgoholocliaagreatdoor", sum := "32452d84ac0a10dcfc30b87b98ec0381442e8f4c6cc0c343698e05cbe90e9d6e", func := "loop.example/typedassembly/laws.FnExactProgramThin", spec := "fnExactProgramThin", inPlace := ["internal/abi.NoEscape", "internal/bytealg.MakeNoZero"], unfollowed := true, recurses := true, named := ["strconv.ErrSyntax", "strconv.ErrRange", "internal/strconv.uint64pow10", "math/bits.deBruijn32tab", "math/bits.deBruijn64tab"], apart := false, laid := [("math/bits.deBruijn32tab", laid_math_bits_deBruijn32tab), ("math/bits.deBruijn64tab", laid_math_bits_deBruijn64tab), ("internal/strconv.uint64pow10", laid_internal_strconv_uint64pow10), ("strconv.ErrRange", laid_strconv_ErrRange), ("strconv.ErrSyntax", laid_strconv_ErrSyntax)], narrowed := true }
def FnExactProgramThinUptoSaid : Prop := fnExactProgramThinUptoRow.holds Tryz.pinned (OpenSpec.upto fnExactProgramThinSpec)

end Rows
end Go.Proofs.YtnkjgoholocliaaGreatDoor
