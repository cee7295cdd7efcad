/-
  DERIVED. GIVEN WITH THE SEED: THE CARDS: each row of YtnkjgoholocliaaGreatDoorRows.lean that lists a variable, with what it lists TIED to the program's text (the seventh form; the later family's looks); each row that meets fmt, with fmt's text TOLD by the authors' own Lean function (tested against real Go, not proved from fmt's source: count such statements apart). THE CARD IS WHAT COUNTS. Prove the row's statement (the work); the ties are given (YtnkjgoholocliaaGreatDoorTie.lean); close each card by the builder's one call (the guide's Derived/Test/ToyasCard.lean, 'card_holds'). Laid BY PROGRAM, IN A SANDBOX (cutbox-door.mjs). By AI agents, Wed Nov 11 2026. No macro, syntax, notation, axiom, sorry.
-/
import Derived.Test.YtnkjgoholocliaaGreatDoorRows
import GoSem.ClaimSeven
namespace Go.Proofs.YtnkjgoholocliaaGreatDoor
namespace Rows

/-- THE TIED CARD OF 'laws.FnExactProgramSize'. -/
def fnExactProgramSizeCard : Claim7 := { stood := { row := fnExactProgramSizeRow, standIns := [], harness := (true, "b79b93e3c1d0c3aadcb06e404c7e50fe5c05f7da9d2039930bee87740d4b1eda"), looks := true }, kinds := [], alts := [], laidByText := true, laidKinds := [.data, .data, .data, .sentinel, .sentinel], laidTests := true, laidLooks := .later }
def FnExactProgramSizeCardSaid : Prop := Claim7.holds Tryz.pinned (.plain (OpenSpec.ofChange fnExactProgramSizeSpec)) fnExactProgramSizeCard

/-- THE TIED CARD OF 'laws.FnExactProgramFrom'. -/
def fnExactProgramFromCard : Claim7 := { stood := { row := fnExactProgramFromRow, standIns := [], harness := (true, "b79b93e3c1d0c3aadcb06e404c7e50fe5c05f7da9d2039930bee87740d4b1eda"), looks := true }, kinds := [], alts := [], laidByText := true, laidKinds := [.data, .data, .data, .sentinel, .sentinel], laidTests := true, laidLooks := .later }
def FnExactProgramFromCardSaid : Prop := Claim7.holds Tryz.pinned (.plain (OpenSpec.ofChange fnExactProgramFromSpec)) fnExactProgramFromCard

/-- THE TIED CARD OF 'laws.FnExactProgramText'. -/
def fnExactProgramTextCard : Claim7 := { stood := { row := fnExactProgramTextRow, standIns := [], harness := (true, "b79b93e3c1d0c3aadcb06e404c7e50fe5c05f7da9d2039930bee87740d4b1eda"), looks := true }, kinds := [], alts := [], laidByText := true, laidKinds := [.data, .data, .data, .sentinel, .sentinel], laidTests := true, laidLooks := .later }
def FnExactProgramTextCardSaid : Prop := Claim7.holds Tryz.pinned (.plain (OpenSpec.ofChange fnExactProgramTextSpec)) fnExactProgramTextCard

/-- THE TIED CARD OF 'laws.FnExactProgramNames'. -/
def fnExactProgramNamesCard : Claim7 := { stood := { row := fnExactProgramNamesRow, standIns := [], harness := (true, "b79b93e3c1d0c3aadcb06e404c7e50fe5c05f7da9d2039930bee87740d4b1eda"), looks := true }, kinds := [], alts := [], laidByText := true, laidKinds := [.data, .data, .data, .sentinel, .sentinel], laidTests := true, laidLooks := .later }
def FnExactProgramNamesCardSaid : Prop := Claim7.holds Tryz.pinned (.plain (OpenSpec.ofChange fnExactProgramNamesSpec)) fnExactProgramNamesCard

/-- THE TIED CARD OF 'laws.FnExactProgramWants'. -/
def fnExactProgramWantsCard : Claim7 := { stood := { row := fnExactProgramWantsRow, standIns := [], harness := (true, "b79b93e3c1d0c3aadcb06e404c7e50fe5c05f7da9d2039930bee87740d4b1eda"), looks := true }, kinds := [], alts := [], laidByText := true, laidKinds := [.data, .data, .data, .sentinel, .sentinel], laidTests := true, laidLooks := .later }
def FnExactProgramWantsCardSaid : Prop := Claim7.holds Tryz.pinned (.plain (OpenSpec.ofChange fnExactProgramWantsSpec)) fnExactProgramWantsCard

/-- THE TIED CARD OF 'laws.FnExactProgramLink'. -/
def fnExactProgramLinkCard : Claim7 := { stood := { row := fnExactProgramLinkRow, standIns := [], harness := (true, "b79b93e3c1d0c3aadcb06e404c7e50fe5c05f7da9d2039930bee87740d4b1eda"), looks := true }, kinds := [], alts := [], laidByText := true, laidKinds := [.data, .data, .data, .sentinel, .sentinel], laidTests := true, laidLooks := .later }
def FnExactProgramLinkCardSaid : Prop := Claim7.holds Tryz.pinned (.plain (OpenSpec.ofChange fnExactProgramLinkSpec)) fnExactProgramLinkCard

/-- THE TIED CARD OF 'laws.FnExactProgramReach'. -/
def fnExactProgramReachCard : Claim7 := { stood := { row := fnExactProgramReachRow, standIns := [], harness := (true, "b79b93e3c1d0c3aadcb06e404c7e50fe5c05f7da9d2039930bee87740d4b1eda"), looks := true }, kinds := [], alts := [], laidByText := true, laidKinds := [.data, .data, .data, .sentinel, .sentinel], laidTests := true, laidLooks := .later }
def FnExactProgramReachCardSaid : Prop := Claim7.holds Tryz.pinned (.plain (OpenSpec.ofChange fnExactProgramReachSpec)) fnExactProgramReachCard

/-- THE TIED CARD OF 'laws.FnExactProgramTrim'. -/
def fnExactProgramTrimCard : Claim7 := { stood := { row := fnExactProgramTrimRow, standIns := [], harness := (true, "b79b93e3c1d0c3aadcb06e404c7e50fe5c05f7da9d2039930bee87740d4b1eda"), looks := true }, kinds := [], alts := [], laidByText := true, laidKinds := [.data, .data, .data, .sentinel, .sentinel], laidTests := true, laidLooks := .later }
def FnExactProgramTrimCardSaid : Prop := Claim7.holds Tryz.pinned (.plain (OpenSpec.ofChange fnExactProgramTrimSpec)) fnExactProgramTrimCard

/-- THE TIED CARD OF 'laws.FnExactProgramRename'. -/
def fnExactProgramRenameCard : Claim7 := { stood := { row := fnExactProgramRenameRow, standIns := [], harness := (true, "b79b93e3c1d0c3aadcb06e404c7e50fe5c05f7da9d2039930bee87740d4b1eda"), looks := true }, kinds := [], alts := [], laidByText := true, laidKinds := [.data, .data, .data, .sentinel, .sentinel], laidTests := true, laidLooks := .later }
def FnExactProgramRenameCardSaid : Prop := Claim7.holds Tryz.pinned (.plain (OpenSpec.ofChange fnExactProgramRenameSpec)) fnExactProgramRenameCard

/-- THE TIED CARD OF 'laws.FnExactProgramLoad'. -/
def fnExactProgramLoadCard : Claim7 := { stood := { row := fnExactProgramLoadRow, standIns := [], harness := (true, "b79b93e3c1d0c3aadcb06e404c7e50fe5c05f7da9d2039930bee87740d4b1eda"), looks := true }, kinds := [], alts := [], laidByText := true, laidKinds := [.data, .data, .data, .sentinel, .sentinel], laidTests := true, laidLooks := .later }
def FnExactProgramLoadCardSaid : Prop := Claim7.holds Tryz.pinned (.plain (OpenSpec.ofChange fnExactProgramLoadSpec)) fnExactProgramLoadCard

/-- THE TIED CARD OF 'laws.FnExactBlockIdle'. -/
def fnExactBlockIdleCard : Claim7 := { stood := { row := fnExactBlockIdleRow, standIns := [], harness := (true, "b79b93e3c1d0c3aadcb06e404c7e50fe5c05f7da9d2039930bee87740d4b1eda"), looks := true }, kinds := [], alts := [], laidByText := true, laidKinds := [.data, .data, .data, .sentinel, .sentinel], laidTests := true, laidLooks := .later }
def FnExactBlockIdleCardSaid : Prop := Claim7.holds Tryz.pinned (.plain (OpenSpec.ofChange fnExactBlockIdleSpec)) fnExactBlockIdleCard

/-- THE TIED CARD OF 'laws.FnExactProgramThin'. -/
def fnExactProgramThinCard : Claim7 := { stood := { row := fnExactProgramThinRow, standIns := [], harness := (true, "b79b93e3c1d0c3aadcb06e404c7e50fe5c05f7da9d2039930bee87740d4b1eda"), looks := true }, kinds := [], alts := [], laidByText := true, laidKinds := [.data, .data, .data, .sentinel, .sentinel], laidTests := true, laidLooks := .later }
def FnExactProgramThinCardSaid : Prop := Claim7.holds Tryz.pinned (.plain (OpenSpec.ofChange fnExactProgramThinSpec)) fnExactProgramThinCard

/-- THE SECOND FORM's CARD OF 'laws.FnExactProgramSize'. -/
def fnExactProgramSizeUptoCard : Claim7 := { stood := { row := fnExactProgramSizeUptoRow, standIns := [], harness := (true, "b79b93e3c1d0c3aadcb06e404c7e50fe5c05f7da9d2039930bee87740d4b1eda"), looks := true }, kinds := [], alts := [], laidByText := true, laidKinds := [.data, .data, .data, .sentinel, .sentinel], laidTests := true, laidLooks := .later }
def FnExactProgramSizeUptoCardSaid : Prop := Claim7.holds Tryz.pinned (.plain (OpenSpec.upto fnExactProgramSizeSpec)) fnExactProgramSizeUptoCard

/-- THE SECOND FORM's CARD OF 'laws.FnExactProgramFrom'. -/
def fnExactProgramFromUptoCard : Claim7 := { stood := { row := fnExactProgramFromUptoRow, standIns := [], harness := (true, "b79b93e3c1d0c3aadcb06e404c7e50fe5c05f7da9d2039930bee87740d4b1eda"), looks := true }, kinds := [], alts := [], laidByText := true, laidKinds := [.data, .data, .data, .sentinel, .sentinel], laidTests := true, laidLooks := .later }
def FnExactProgramFromUptoCardSaid : Prop := Claim7.holds Tryz.pinned (.plain (OpenSpec.upto fnExactProgramFromSpec)) fnExactProgramFromUptoCard

/-- THE SECOND FORM's CARD OF 'laws.FnExactProgramText'. -/
def fnExactProgramTextUptoCard : Claim7 := { stood := { row := fnExactProgramTextUptoRow, standIns := [], harness := (true, "b79b93e3c1d0c3aadcb06e404c7e50fe5c05f7da9d2039930bee87740d4b1eda"), looks := true }, kinds := [], alts := [], laidByText := true, laidKinds := [.data, .data, .data, .sentinel, .sentinel], laidTests := true, laidLooks := .later }
def FnExactProgramTextUptoCardSaid : Prop := Claim7.holds Tryz.pinned (.plain (OpenSpec.upto fnExactProgramTextSpec)) fnExactProgramTextUptoCard

/-- THE SECOND FORM's CARD OF 'laws.FnExactProgramNames'. -/
def fnExactProgramNamesUptoCard : Claim7 := { stood := { row := fnExactProgramNamesUptoRow, standIns := [], harness := (true, "b79b93e3c1d0c3aadcb06e404c7e50fe5c05f7da9d2039930bee87740d4b1eda"), looks := true }, kinds := [], alts := [], laidByText := true, laidKinds := [.data, .data, .data, .sentinel, .sentinel], laidTests := true, laidLooks := .later }
def FnExactProgramNamesUptoCardSaid : Prop := Claim7.holds Tryz.pinned (.plain (OpenSpec.upto fnExactProgramNamesSpec)) fnExactProgramNamesUptoCard

/-- THE SECOND FORM's CARD OF 'laws.FnExactProgramWants'. -/
def fnExactProgramWantsUptoCard : Claim7 := { stood := { row := fnExactProgramWantsUptoRow, standIns := [], harness := (true, "b79b93e3c1d0c3aadcb06e404c7e50fe5c05f7da9d2039930bee87740d4b1eda"), looks := true }, kinds := [], alts := [], laidByText := true, laidKinds := [.data, .data, .data, .sentinel, .sentinel], laidTests := true, laidLooks := .later }
def FnExactProgramWantsUptoCardSaid : Prop := Claim7.holds Tryz.pinned (.plain (OpenSpec.upto fnExactProgramWantsSpec)) fnExactProgramWantsUptoCard

/-- THE SECOND FORM's CARD OF 'laws.FnExactProgramLink'. -/
def fnExactProgramLinkUptoCard : Claim7 := { stood := { row := fnExactProgramLinkUptoRow, standIns := [], harness := (true, "b79b93e3c1d0c3aadcb06e404c7e50fe5c05f7da9d2039930bee87740d4b1eda"), looks := true }, kinds := [], alts := [], laidByText := true, laidKinds := [.data, .data, .data, .sentinel, .sentinel], laidTests := true, laidLooks := .later }
def FnExactProgramLinkUptoCardSaid : Prop := Claim7.holds Tryz.pinned (.plain (OpenSpec.upto fnExactProgramLinkSpec)) fnExactProgramLinkUptoCard

/-- THE SECOND FORM's CARD OF 'laws.FnExactProgramReach'. -/
def fnExactProgramReachUptoCard : Claim7 := { stood := { row := fnExactProgramReachUptoRow, standIns := [], harness := (true, "b79b93e3c1d0c3aadcb06e404c7e50fe5c05f7da9d2039930bee87740d4b1eda"), looks := true }, kinds := [], alts := [], laidByText := true, laidKinds := [.data, .data, .data, .sentinel, .sentinel], laidTests := true, laidLooks := .later }
def FnExactProgramReachUptoCardSaid : Prop := Claim7.holds Tryz.pinned (.plain (OpenSpec.upto fnExactProgramReachSpec)) fnExactProgramReachUptoCard

/-- THE SECOND FORM's CARD OF 'laws.FnExactProgramTrim'. -/
def fnExactProgramTrimUptoCard : Claim7 := { stood := { row := fnExactProgramTrimUptoRow, standIns := [], harness := (true, "b79b93e3c1d0c3aadcb06e404c7e50fe5c05f7da9d2039930bee87740d4b1eda"), looks := true }, kinds := [], alts := [], laidByText := true, laidKinds := [.data, .data, .data, .sentinel, .sentinel], laidTests := true, laidLooks := .later }
def FnExactProgramTrimUptoCardSaid : Prop := Claim7.holds Tryz.pinned (.plain (OpenSpec.upto fnExactProgramTrimSpec)) fnExactProgramTrimUptoCard

/-- THE SECOND FORM's CARD OF 'laws.FnExactProgramRename'. -/
def fnExactProgramRenameUptoCard : Claim7 := { stood := { row := fnExactProgramRenameUptoRow, standIns := [], harness := (true, "b79b93e3c1d0c3aadcb06e404c7e50fe5c05f7da9d2039930bee87740d4b1eda"), looks := true }, kinds := [], alts := [], laidByText := true, laidKinds := [.data, .data, .data, .sentinel, .sentinel], laidTests := true, laidLooks := .later }
def FnExactProgramRenameUptoCardSaid : Prop := Claim7.holds Tryz.pinned (.plain (OpenSpec.upto fnExactProgramRenameSpec)) fnExactProgramRenameUptoCard

/-- THE SECOND FORM's CARD OF 'laws.FnExactProgramLoad'. -/
def fnExactProgramLoadUptoCard : Claim7 := { stood := { row := fnExactProgramLoadUptoRow, standIns := [], harness := (true, "b79b93e3c1d0c3aadcb06e404c7e50fe5c05f7da9d2039930bee87740d4b1eda"), looks := true }, kinds := [], alts := [], laidByText := true, laidKinds := [.data, .data, .data, .sentinel, .sentinel], laidTests := true, laidLooks := .later }
def FnExactProgramLoadUptoCardSaid : Prop := Claim7.holds Tryz.pinned (.plain (OpenSpec.upto fnExactProgramLoadSpec)) fnExactProgramLoadUptoCard

/-- THE SECOND FORM's CARD OF 'laws.FnExactBlockIdle'. -/
def fnExactBlockIdleUptoCard : Claim7 := { stood := { row := fnExactBlockIdleUptoRow, standIns := [], harness := (true, "b79b93e3c1d0c3aadcb06e404c7e50fe5c05f7da9d2039930bee87740d4b1eda"), looks := true }, kinds := [], alts := [], laidByText := true, laidKinds := [.data, .data, .data, .sentinel, .sentinel], laidTests := true, laidLooks := .later }
def FnExactBlockIdleUptoCardSaid : Prop := Claim7.holds Tryz.pinned (.plain (OpenSpec.upto fnExactBlockIdleSpec)) fnExactBlockIdleUptoCard

/-- THE SECOND FORM's CARD OF 'laws.FnExactProgramThin'. -/
def fnExactProgramThinUptoCard : Claim7 := { stood := { row := fnExactProgramThinUptoRow, standIns := [], harness := (true, "b79b93e3c1d0c3aadcb06e404c7e50fe5c05f7da9d2039930bee87740d4b1eda"), looks := true }, kinds := [], alts := [], laidByText := true, laidKinds := [.data, .data, .data, .sentinel, .sentinel], laidTests := true, laidLooks := .later }
def FnExactProgramThinUptoCardSaid : Prop := Claim7.holds Tryz.pinned (.plain (OpenSpec.upto fnExactProgramThinSpec)) fnExactProgramThinUptoCard
end Rows
end Go.Proofs.YtnkjgoholocliaaGreatDoor
