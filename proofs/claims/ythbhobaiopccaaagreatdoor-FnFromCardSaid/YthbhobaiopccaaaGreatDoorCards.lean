/-
  DERIVED. GIVEN WITH THE SEED: THE CARDS: each row of YthbhobaiopccaaaGreatDoorRows.lean that lists a variable, with what it lists TIED to the program's text (the seventh form; the later family's looks); each row that meets fmt, with fmt's text TOLD by the authors' own Lean function (tested against real Go, not proved from fmt's source: count such statements apart). THE CARD IS WHAT COUNTS. Prove the row's statement (the work); the ties are given (YthbhobaiopccaaaGreatDoorTie.lean); close each card by the builder's one call (the guide's Derived/Test/ToyasCard.lean, 'card_holds'). Laid BY PROGRAM, IN A SANDBOX (cutbox-door.mjs). By AI agents, Wed Nov 11 2026. No macro, syntax, notation, axiom, sorry.
-/
import Derived.Test.YthbhobaiopccaaaGreatDoorRows
import GoSem.ClaimSeven
namespace Go.Proofs.YthbhobaiopccaaaGreatDoor
namespace Rows

/-- THE TIED CARD OF 'laws.FnProgramSize'. -/
def fnProgramSizeCard : Claim7 := { stood := { row := fnProgramSizeRow, standIns := [], harness := (true, "11cc121be114b82c54ce4e6be40da035a0e47b7a30a856ed352bc20fea3a48b9"), looks := true }, kinds := [], alts := [], laidByText := true, laidKinds := [.data, .data, .data, .sentinel, .sentinel], laidTests := true, laidLooks := .later }
def FnProgramSizeCardSaid : Prop := Claim7.holds Tryz.pinned (.plain (OpenSpec.ofChange fnProgramSizeSpec)) fnProgramSizeCard

/-- THE TIED CARD OF 'laws.FnFrom'. -/
def fnFromCard : Claim7 := { stood := { row := fnFromRow, standIns := [], harness := (true, "11cc121be114b82c54ce4e6be40da035a0e47b7a30a856ed352bc20fea3a48b9"), looks := true }, kinds := [], alts := [], laidByText := true, laidKinds := [.data, .data, .data, .sentinel, .sentinel], laidTests := true, laidLooks := .later }
def FnFromCardSaid : Prop := Claim7.holds Tryz.pinned (.plain (OpenSpec.ofChange fnFromSpec)) fnFromCard

/-- THE TIED CARD OF 'laws.FnReach'. -/
def fnReachCard : Claim7 := { stood := { row := fnReachRow, standIns := [], harness := (true, "11cc121be114b82c54ce4e6be40da035a0e47b7a30a856ed352bc20fea3a48b9"), looks := true }, kinds := [], alts := [], laidByText := true, laidKinds := [.data, .data, .data, .sentinel, .sentinel], laidTests := true, laidLooks := .later }
def FnReachCardSaid : Prop := Claim7.holds Tryz.pinned (.plain (OpenSpec.ofChange fnReachSpec)) fnReachCard

/-- THE TIED CARD OF 'laws.FnStart'. -/
def fnStartCard : Claim7 := { stood := { row := fnStartRow, standIns := [], harness := (true, "11cc121be114b82c54ce4e6be40da035a0e47b7a30a856ed352bc20fea3a48b9"), looks := true }, kinds := [], alts := [], laidByText := true, laidKinds := [.data, .data, .data, .sentinel, .sentinel], laidTests := true, laidLooks := .later }
def FnStartCardSaid : Prop := Claim7.holds Tryz.pinned (.plain (OpenSpec.ofChange fnStartSpec)) fnStartCard

/-- THE SECOND FORM's CARD OF 'laws.FnProgramSize'. -/
def fnProgramSizeUptoCard : Claim7 := { stood := { row := fnProgramSizeUptoRow, standIns := [], harness := (true, "11cc121be114b82c54ce4e6be40da035a0e47b7a30a856ed352bc20fea3a48b9"), looks := true }, kinds := [], alts := [], laidByText := true, laidKinds := [.data, .data, .data, .sentinel, .sentinel], laidTests := true, laidLooks := .later }
def FnProgramSizeUptoCardSaid : Prop := Claim7.holds Tryz.pinned (.plain (OpenSpec.upto fnProgramSizeSpec)) fnProgramSizeUptoCard

/-- THE SECOND FORM's CARD OF 'laws.FnFrom'. -/
def fnFromUptoCard : Claim7 := { stood := { row := fnFromUptoRow, standIns := [], harness := (true, "11cc121be114b82c54ce4e6be40da035a0e47b7a30a856ed352bc20fea3a48b9"), looks := true }, kinds := [], alts := [], laidByText := true, laidKinds := [.data, .data, .data, .sentinel, .sentinel], laidTests := true, laidLooks := .later }
def FnFromUptoCardSaid : Prop := Claim7.holds Tryz.pinned (.plain (OpenSpec.upto fnFromSpec)) fnFromUptoCard

/-- THE SECOND FORM's CARD OF 'laws.FnReach'. -/
def fnReachUptoCard : Claim7 := { stood := { row := fnReachUptoRow, standIns := [], harness := (true, "11cc121be114b82c54ce4e6be40da035a0e47b7a30a856ed352bc20fea3a48b9"), looks := true }, kinds := [], alts := [], laidByText := true, laidKinds := [.data, .data, .data, .sentinel, .sentinel], laidTests := true, laidLooks := .later }
def FnReachUptoCardSaid : Prop := Claim7.holds Tryz.pinned (.plain (OpenSpec.upto fnReachSpec)) fnReachUptoCard

/-- THE SECOND FORM's CARD OF 'laws.FnStart'. -/
def fnStartUptoCard : Claim7 := { stood := { row := fnStartUptoRow, standIns := [], harness := (true, "11cc121be114b82c54ce4e6be40da035a0e47b7a30a856ed352bc20fea3a48b9"), looks := true }, kinds := [], alts := [], laidByText := true, laidKinds := [.data, .data, .data, .sentinel, .sentinel], laidTests := true, laidLooks := .later }
def FnStartUptoCardSaid : Prop := Claim7.holds Tryz.pinned (.plain (OpenSpec.upto fnStartSpec)) fnStartUptoCard
end Rows
end Go.Proofs.YthbhobaiopccaaaGreatDoor
