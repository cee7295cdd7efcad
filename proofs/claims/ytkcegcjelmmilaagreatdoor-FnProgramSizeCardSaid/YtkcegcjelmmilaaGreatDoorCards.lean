/-
  DERIVED. GIVEN WITH THE SEED: THE CARDS: each row of YtkcegcjelmmilaaGreatDoorRows.lean that lists a variable, with what it lists TIED to the program's text (the seventh form; the later family's looks); each row that meets fmt, with fmt's text TOLD by the authors' own Lean function (tested against real Go, not proved from fmt's source: count such statements apart). THE CARD IS WHAT COUNTS. Prove the row's statement (the work); the ties are given (YtkcegcjelmmilaaGreatDoorTie.lean); close each card by the builder's one call (the guide's Derived/Test/ToyasCard.lean, 'card_holds'). Laid BY PROGRAM, IN A SANDBOX (cutbox-door.mjs). By AI agents, Wed Nov 11 2026. No macro, syntax, notation, axiom, sorry.
-/
import Derived.Test.YtkcegcjelmmilaaGreatDoorRows
import GoSem.ClaimSeven
namespace Go.Proofs.YtkcegcjelmmilaaGreatDoor
namespace Rows

/-- THE TIED CARD OF 'laws.FnProgramSize'. -/
def fnProgramSizeCard : Claim7 := { stood := { row := fnProgramSizeRow, standIns := [], harness := (true, "8cf6ec4b5c0535602936fc9a5a3a00b31f8e23cd3d9fef377e8ba26a8870482f"), looks := true }, kinds := [], alts := [], laidByText := true, laidKinds := [.data, .data, .data, .sentinel, .sentinel], laidTests := true, laidLooks := .later }
def FnProgramSizeCardSaid : Prop := Claim7.holds Tryz.pinned (.plain (OpenSpec.ofChange fnProgramSizeSpec)) fnProgramSizeCard

/-- THE SECOND FORM's CARD OF 'laws.FnProgramSize'. -/
def fnProgramSizeUptoCard : Claim7 := { stood := { row := fnProgramSizeUptoRow, standIns := [], harness := (true, "8cf6ec4b5c0535602936fc9a5a3a00b31f8e23cd3d9fef377e8ba26a8870482f"), looks := true }, kinds := [], alts := [], laidByText := true, laidKinds := [.data, .data, .data, .sentinel, .sentinel], laidTests := true, laidLooks := .later }
def FnProgramSizeUptoCardSaid : Prop := Claim7.holds Tryz.pinned (.plain (OpenSpec.upto fnProgramSizeSpec)) fnProgramSizeUptoCard
end Rows
end Go.Proofs.YtkcegcjelmmilaaGreatDoor
