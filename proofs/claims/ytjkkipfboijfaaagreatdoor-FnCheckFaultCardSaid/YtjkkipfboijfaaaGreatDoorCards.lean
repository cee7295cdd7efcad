/-
  DERIVED. GIVEN WITH THE SEED: THE CARDS: each row of YtjkkipfboijfaaaGreatDoorRows.lean that lists a variable, with what it lists TIED to the program's text (the seventh form; the later family's looks); each row that meets fmt, with fmt's text TOLD by the authors' own Lean function (tested against real Go, not proved from fmt's source: count such statements apart). THE CARD IS WHAT COUNTS. Prove the row's statement (the work); the ties are given (YtjkkipfboijfaaaGreatDoorTie.lean); close each card by the builder's one call (the guide's Derived/Test/ToyasCard.lean, 'card_holds'). Laid BY PROGRAM, IN A SANDBOX (cutbox-door.mjs). By AI agents, Wed Nov 11 2026. No macro, syntax, notation, axiom, sorry.
-/
import Derived.Test.YtjkkipfboijfaaaGreatDoorRows
import GoSem.ClaimSeven
namespace Go.Proofs.YtjkkipfboijfaaaGreatDoor
namespace Rows

/-- THE TIED CARD OF 'laws.FnCheckType'. -/
def fnCheckTypeCard : Claim7 := { stood := { row := fnCheckTypeRow, standIns := [], harness := (true, "049d529f5b0e64755aadca6127fdb98dedc17ce0c44d4be5693fea0f4760d8cd"), looks := true }, kinds := [], alts := [], laidByText := true, laidKinds := [.data, .data, .data, .sentinel, .sentinel], laidTests := true, laidLooks := .later }
def FnCheckTypeCardSaid : Prop := Claim7.holds Tryz.pinned (.plain (OpenSpec.ofChange fnCheckTypeSpec)) fnCheckTypeCard

/-- THE TIED CARD OF 'laws.FnCheckBlock'. -/
def fnCheckBlockCard : Claim7 := { stood := { row := fnCheckBlockRow, standIns := [], harness := (true, "049d529f5b0e64755aadca6127fdb98dedc17ce0c44d4be5693fea0f4760d8cd"), looks := true }, kinds := [], alts := [], laidByText := true, laidKinds := [.data, .data, .data, .sentinel, .sentinel], laidTests := true, laidLooks := .later }
def FnCheckBlockCardSaid : Prop := Claim7.holds Tryz.pinned (.plain (OpenSpec.ofChange fnCheckBlockSpec)) fnCheckBlockCard

/-- THE TIED CARD OF 'laws.FnCheckFault'. -/
def fnCheckFaultCard : Claim7 := { stood := { row := fnCheckFaultRow, standIns := [], harness := (true, "049d529f5b0e64755aadca6127fdb98dedc17ce0c44d4be5693fea0f4760d8cd"), looks := true }, kinds := [], alts := [], laidByText := true, laidKinds := [.data, .data, .data, .sentinel, .sentinel], laidTests := true, laidLooks := .later }
def FnCheckFaultCardSaid : Prop := Claim7.holds Tryz.pinned (.plain (OpenSpec.ofChange fnCheckFaultSpec)) fnCheckFaultCard

/-- THE SECOND FORM's CARD OF 'laws.FnCheckType'. -/
def fnCheckTypeUptoCard : Claim7 := { stood := { row := fnCheckTypeUptoRow, standIns := [], harness := (true, "049d529f5b0e64755aadca6127fdb98dedc17ce0c44d4be5693fea0f4760d8cd"), looks := true }, kinds := [], alts := [], laidByText := true, laidKinds := [.data, .data, .data, .sentinel, .sentinel], laidTests := true, laidLooks := .later }
def FnCheckTypeUptoCardSaid : Prop := Claim7.holds Tryz.pinned (.plain (OpenSpec.upto fnCheckTypeSpec)) fnCheckTypeUptoCard

/-- THE SECOND FORM's CARD OF 'laws.FnCheckBlock'. -/
def fnCheckBlockUptoCard : Claim7 := { stood := { row := fnCheckBlockUptoRow, standIns := [], harness := (true, "049d529f5b0e64755aadca6127fdb98dedc17ce0c44d4be5693fea0f4760d8cd"), looks := true }, kinds := [], alts := [], laidByText := true, laidKinds := [.data, .data, .data, .sentinel, .sentinel], laidTests := true, laidLooks := .later }
def FnCheckBlockUptoCardSaid : Prop := Claim7.holds Tryz.pinned (.plain (OpenSpec.upto fnCheckBlockSpec)) fnCheckBlockUptoCard

/-- THE SECOND FORM's CARD OF 'laws.FnCheckFault'. -/
def fnCheckFaultUptoCard : Claim7 := { stood := { row := fnCheckFaultUptoRow, standIns := [], harness := (true, "049d529f5b0e64755aadca6127fdb98dedc17ce0c44d4be5693fea0f4760d8cd"), looks := true }, kinds := [], alts := [], laidByText := true, laidKinds := [.data, .data, .data, .sentinel, .sentinel], laidTests := true, laidLooks := .later }
def FnCheckFaultUptoCardSaid : Prop := Claim7.holds Tryz.pinned (.plain (OpenSpec.upto fnCheckFaultSpec)) fnCheckFaultUptoCard
end Rows
end Go.Proofs.YtjkkipfboijfaaaGreatDoor
