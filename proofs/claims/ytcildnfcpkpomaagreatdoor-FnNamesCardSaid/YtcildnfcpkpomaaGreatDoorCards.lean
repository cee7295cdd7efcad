/-
  DERIVED. GIVEN WITH THE SEED: THE CARDS: each row of YtcildnfcpkpomaaGreatDoorRows.lean that lists a variable, with what it lists TIED to the program's text (the seventh form; the later family's looks); each row that meets fmt, with fmt's text TOLD by the authors' own Lean function (tested against real Go, not proved from fmt's source: count such statements apart). THE CARD IS WHAT COUNTS. Prove the row's statement (the work); the ties are given (YtcildnfcpkpomaaGreatDoorTie.lean); close each card by the builder's one call (the guide's Derived/Test/ToyasCard.lean, 'card_holds'). Laid BY PROGRAM, IN A SANDBOX (cutbox-door.mjs). By AI agents, Wed Nov 11 2026. No macro, syntax, notation, axiom, sorry.
-/
import Derived.Test.YtcildnfcpkpomaaGreatDoorRows
import GoSem.ClaimSeven
namespace Go.Proofs.YtcildnfcpkpomaaGreatDoor
namespace Rows

/-- THE TIED CARD OF 'laws.FnNames'. -/
def fnNamesCard : Claim7 := { stood := { row := fnNamesRow, standIns := [], harness := (true, "2bf57c8cdda30a03981c66d48bbf951741c89ad25f302ed353b461905072540f"), looks := true }, kinds := [], alts := [], laidByText := true, laidKinds := [.data, .data, .data, .sentinel, .sentinel], laidTests := true, laidLooks := .later }
def FnNamesCardSaid : Prop := Claim7.holds Tryz.pinned (.plain (OpenSpec.ofChange fnNamesSpec)) fnNamesCard

/-- THE TIED CARD OF 'laws.FnProgramText'. -/
def fnProgramTextCard : Claim7 := { stood := { row := fnProgramTextRow, standIns := [], harness := (true, "2bf57c8cdda30a03981c66d48bbf951741c89ad25f302ed353b461905072540f"), looks := true }, kinds := [], alts := [], laidByText := true, laidKinds := [.data, .data, .data, .sentinel, .sentinel], laidTests := true, laidLooks := .later }
def FnProgramTextCardSaid : Prop := Claim7.holds Tryz.pinned (.plain (OpenSpec.ofChange fnProgramTextSpec)) fnProgramTextCard

/-- THE TIED CARD OF 'laws.FnWants'. -/
def fnWantsCard : Claim7 := { stood := { row := fnWantsRow, standIns := [], harness := (true, "2bf57c8cdda30a03981c66d48bbf951741c89ad25f302ed353b461905072540f"), looks := true }, kinds := [], alts := [], laidByText := true, laidKinds := [.data, .data, .data, .sentinel, .sentinel], laidTests := true, laidLooks := .later }
def FnWantsCardSaid : Prop := Claim7.holds Tryz.pinned (.plain (OpenSpec.ofChange fnWantsSpec)) fnWantsCard

/-- THE TIED CARD OF 'laws.FnLink'. -/
def fnLinkCard : Claim7 := { stood := { row := fnLinkRow, standIns := [], harness := (true, "2bf57c8cdda30a03981c66d48bbf951741c89ad25f302ed353b461905072540f"), looks := true }, kinds := [], alts := [], laidByText := true, laidKinds := [.data, .data, .data, .sentinel, .sentinel], laidTests := true, laidLooks := .later }
def FnLinkCardSaid : Prop := Claim7.holds Tryz.pinned (.plain (OpenSpec.ofChange fnLinkSpec)) fnLinkCard

/-- THE SECOND FORM's CARD OF 'laws.FnNames'. -/
def fnNamesUptoCard : Claim7 := { stood := { row := fnNamesUptoRow, standIns := [], harness := (true, "2bf57c8cdda30a03981c66d48bbf951741c89ad25f302ed353b461905072540f"), looks := true }, kinds := [], alts := [], laidByText := true, laidKinds := [.data, .data, .data, .sentinel, .sentinel], laidTests := true, laidLooks := .later }
def FnNamesUptoCardSaid : Prop := Claim7.holds Tryz.pinned (.plain (OpenSpec.upto fnNamesSpec)) fnNamesUptoCard

/-- THE SECOND FORM's CARD OF 'laws.FnProgramText'. -/
def fnProgramTextUptoCard : Claim7 := { stood := { row := fnProgramTextUptoRow, standIns := [], harness := (true, "2bf57c8cdda30a03981c66d48bbf951741c89ad25f302ed353b461905072540f"), looks := true }, kinds := [], alts := [], laidByText := true, laidKinds := [.data, .data, .data, .sentinel, .sentinel], laidTests := true, laidLooks := .later }
def FnProgramTextUptoCardSaid : Prop := Claim7.holds Tryz.pinned (.plain (OpenSpec.upto fnProgramTextSpec)) fnProgramTextUptoCard

/-- THE SECOND FORM's CARD OF 'laws.FnWants'. -/
def fnWantsUptoCard : Claim7 := { stood := { row := fnWantsUptoRow, standIns := [], harness := (true, "2bf57c8cdda30a03981c66d48bbf951741c89ad25f302ed353b461905072540f"), looks := true }, kinds := [], alts := [], laidByText := true, laidKinds := [.data, .data, .data, .sentinel, .sentinel], laidTests := true, laidLooks := .later }
def FnWantsUptoCardSaid : Prop := Claim7.holds Tryz.pinned (.plain (OpenSpec.upto fnWantsSpec)) fnWantsUptoCard

/-- THE SECOND FORM's CARD OF 'laws.FnLink'. -/
def fnLinkUptoCard : Claim7 := { stood := { row := fnLinkUptoRow, standIns := [], harness := (true, "2bf57c8cdda30a03981c66d48bbf951741c89ad25f302ed353b461905072540f"), looks := true }, kinds := [], alts := [], laidByText := true, laidKinds := [.data, .data, .data, .sentinel, .sentinel], laidTests := true, laidLooks := .later }
def FnLinkUptoCardSaid : Prop := Claim7.holds Tryz.pinned (.plain (OpenSpec.upto fnLinkSpec)) fnLinkUptoCard
end Rows
end Go.Proofs.YtcildnfcpkpomaaGreatDoor
