/-
  DERIVED. GIVEN WITH THE SEED: THE CARDS: each row of YtigijcjccmdmhaaGreatDoorRows.lean that lists a variable, with what it lists TIED to the program's text (the seventh form; the later family's looks); each row that meets fmt, with fmt's text TOLD by the authors' own Lean function (tested against real Go, not proved from fmt's source: count such statements apart). THE CARD IS WHAT COUNTS. Prove the row's statement (the work); the ties are given (YtigijcjccmdmhaaGreatDoorTie.lean); close each card by the builder's one call (the guide's Derived/Test/ToyasCard.lean, 'card_holds'). Laid BY PROGRAM, IN A SANDBOX (cutbox-door.mjs). By AI agents, Wed Nov 11 2026. No macro, syntax, notation, axiom, sorry.
-/
import Derived.Test.YtigijcjccmdmhaaGreatDoorRows
import GoSem.ClaimSeven
namespace Go.Proofs.YtigijcjccmdmhaaGreatDoor
namespace Rows

/-- THE TIED CARD OF 'laws.FnFind'. -/
def fnFindCard : Claim7 := { stood := { row := fnFindRow, standIns := [], harness := (true, "ed6b2bc1d4952f5e35729a510763a43720434c752e8136e8a6fb0aff96d0ed2c"), looks := true }, kinds := [], alts := [], laidByText := true, laidKinds := [.data, .data, .data, .sentinel, .sentinel], laidTests := true, laidLooks := .later }
def FnFindCardSaid : Prop := Claim7.holds Tryz.pinned (.plain (OpenSpec.ofChange fnFindSpec)) fnFindCard

/-- THE TIED CARD OF 'laws.FnProgram'. -/
def fnProgramCard : Claim7 := { stood := { row := fnProgramRow, standIns := [], harness := (true, "ed6b2bc1d4952f5e35729a510763a43720434c752e8136e8a6fb0aff96d0ed2c"), looks := true }, kinds := [], alts := [], laidByText := true, laidKinds := [.data, .data, .data, .sentinel, .sentinel], laidTests := true, laidLooks := .later }
def FnProgramCardSaid : Prop := Claim7.holds Tryz.pinned (.plain (OpenSpec.ofChange fnProgramSpec)) fnProgramCard

/-- THE TIED CARD OF 'laws.FnFrom'. -/
def fnFromCard : Claim7 := { stood := { row := fnFromRow, standIns := [], harness := (true, "ed6b2bc1d4952f5e35729a510763a43720434c752e8136e8a6fb0aff96d0ed2c"), looks := true }, kinds := [], alts := [], laidByText := true, laidKinds := [.data, .data, .data, .sentinel, .sentinel], laidTests := true, laidLooks := .later }
def FnFromCardSaid : Prop := Claim7.holds Tryz.pinned (.plain (OpenSpec.ofChange fnFromSpec)) fnFromCard

/-- THE TIED CARD OF 'laws.FnProgramText'. -/
def fnProgramTextCard : Claim7 := { stood := { row := fnProgramTextRow, standIns := [], harness := (true, "ed6b2bc1d4952f5e35729a510763a43720434c752e8136e8a6fb0aff96d0ed2c"), looks := true }, kinds := [], alts := [], laidByText := true, laidKinds := [.data, .data, .data, .sentinel, .sentinel], laidTests := true, laidLooks := .later }
def FnProgramTextCardSaid : Prop := Claim7.holds Tryz.pinned (.plain (OpenSpec.ofChange fnProgramTextSpec)) fnProgramTextCard

/-- THE SECOND FORM's CARD OF 'laws.FnFind'. -/
def fnFindUptoCard : Claim7 := { stood := { row := fnFindUptoRow, standIns := [], harness := (true, "ed6b2bc1d4952f5e35729a510763a43720434c752e8136e8a6fb0aff96d0ed2c"), looks := true }, kinds := [], alts := [], laidByText := true, laidKinds := [.data, .data, .data, .sentinel, .sentinel], laidTests := true, laidLooks := .later }
def FnFindUptoCardSaid : Prop := Claim7.holds Tryz.pinned (.plain (OpenSpec.upto fnFindSpec)) fnFindUptoCard

/-- THE SECOND FORM's CARD OF 'laws.FnProgram'. -/
def fnProgramUptoCard : Claim7 := { stood := { row := fnProgramUptoRow, standIns := [], harness := (true, "ed6b2bc1d4952f5e35729a510763a43720434c752e8136e8a6fb0aff96d0ed2c"), looks := true }, kinds := [], alts := [], laidByText := true, laidKinds := [.data, .data, .data, .sentinel, .sentinel], laidTests := true, laidLooks := .later }
def FnProgramUptoCardSaid : Prop := Claim7.holds Tryz.pinned (.plain (OpenSpec.upto fnProgramSpec)) fnProgramUptoCard

/-- THE SECOND FORM's CARD OF 'laws.FnFrom'. -/
def fnFromUptoCard : Claim7 := { stood := { row := fnFromUptoRow, standIns := [], harness := (true, "ed6b2bc1d4952f5e35729a510763a43720434c752e8136e8a6fb0aff96d0ed2c"), looks := true }, kinds := [], alts := [], laidByText := true, laidKinds := [.data, .data, .data, .sentinel, .sentinel], laidTests := true, laidLooks := .later }
def FnFromUptoCardSaid : Prop := Claim7.holds Tryz.pinned (.plain (OpenSpec.upto fnFromSpec)) fnFromUptoCard

/-- THE SECOND FORM's CARD OF 'laws.FnProgramText'. -/
def fnProgramTextUptoCard : Claim7 := { stood := { row := fnProgramTextUptoRow, standIns := [], harness := (true, "ed6b2bc1d4952f5e35729a510763a43720434c752e8136e8a6fb0aff96d0ed2c"), looks := true }, kinds := [], alts := [], laidByText := true, laidKinds := [.data, .data, .data, .sentinel, .sentinel], laidTests := true, laidLooks := .later }
def FnProgramTextUptoCardSaid : Prop := Claim7.holds Tryz.pinned (.plain (OpenSpec.upto fnProgramTextSpec)) fnProgramTextUptoCard
end Rows
end Go.Proofs.YtigijcjccmdmhaaGreatDoor
