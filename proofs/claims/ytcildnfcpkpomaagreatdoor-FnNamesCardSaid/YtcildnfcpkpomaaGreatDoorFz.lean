/-
  Named labels have blocks or are wanted (The package-level variables that the row lists hold what the program's text lays: the tied card.)
-/
import Derived.Test.YtcildnfcpkpomaaGreatDoorFm
import Derived.Test.YtcildnfcpkpomaaGreatDoorRows
import Derived.Test.YtcildnfcpkpomaaGreatDoorTie
import Derived.Test.YtcildnfcpkpomaaGreatDoorCards
import Derived.ProofKit
import Derived.LaidMore
import Derived.OpenShut
import Derived.Stop.Joined
import Derived.SevenTiedAt
import Derived.ChangeMaps5
import Derived.Carry
namespace Go.Proofs.YtcildnfcpkpomaaGreatDoor
open Go Go.ChangeMaps Go.ChangeShapes Go.WideShapes Go.ChangeAt Go.WideMaps Go.WideElems Go.RowKit

theorem own : ownKnob Tryz.prog.godebug = none := by kernel_rfl
theorem cells_u8 : Tryz.prog.cellsOf 5 = 1 := by kernel_rfl
theorem read_u8s : Tryz.prog.readableRec 22 = true := by kernel_rfl
theorem rows_u8s : 22 < Tryz.prog.types.size := by rw [show Tryz.prog.types.size = 262 from by kernel_rfl]; decide
theorem trodAll_mk1' {H : Type} {enc : TypeId × Value → H} {P : Program} {w : World} {base : Nat} {spare : Nat → Bool} {held : Bool} {t : TypeId} {v : Value} {d : DataW H} {ps : List MemPlace} (h : DataW.Trod enc P w base spare held t v d ps) : DataW.TrodAll enc P w base spare held [t] [v] [d] ps := ⟨ps, [], h, rfl, by simp⟩
def laidL : List (String × DataW Unit) := Rows.fnNamesRow.laid
theorem door_met (os : Os) (args : Array Value) : laidMetH Tryz.prog laidL ((World.doorLaid Tryz.prog 400 os).forCall (fun _ _ => 0) ⟨#[], args, []⟩).memory :=
  laidMetH_of_parts3 (fuel := 8) (laidMet_of_run' 8 (by kernel_rfl) (by kernel_rfl)) (by kernel_rfl) (by kernel_rfl)
theorem keptBut_of {w w' : World} (k : ak [] w w') (may : MemPlace → Prop) : w.keptBut w' may := by
  refine ⟨k.os, k.output, fun i hi => ?_⟩
  rw [k.block i hi (by simp)]
  cases w.heap[i]? with
  | none => rfl
  | some o => cases o <;> first | exact ⟨rfl, rfl, rfl, fun _ _ => rfl⟩ | exact .inr ⟨rfl, rfl⟩ | rfl

set_option maxRecDepth 100000 in
theorem names_lifted (os : Os) (started : os.Started) (H : Type) (enc : TypeId × Value → H) :
    ReturnsInHanded {} Tryz.checked os 3 .any (fun w args => (Rows.fnNamesSpec.pre enc Tryz.prog Tryz.f3 [] false w args ∧ laidMetH Tryz.prog laidL w) ∧ sizedMet enc Tryz.prog Tryz.f3 (OpenSpec.ofChange Rows.fnNamesSpec) false w args)
      (Rows.fnNamesSpec.post enc Tryz.prog Tryz.f3 false true false false) := by
  refine returnsInHanded_of_change_and (C := Tryz.checked) (X := fun w _ => laidMetH Tryz.prog laidL w) (fun _ _ _ hh h => h.of_heap hh) own started (by kernel_rfl) Tryz.func3
    (ChangeSpec.witness_shaped (enc := enc) (C := Tryz.checked) (os := os) (X := fun w _ => laidMetH Tryz.prog laidL w) false (World.doorLaid Tryz.prog 400 os) #[.slice none 0 0] 8 rfl (World.shaped_of_RefB (by kernel_rfl) (by kernel_rfl)) (by kernel_rfl) (by kernel_rfl) (by kernel_rfl) (door_met os _)) ?_
  intro W base args ds gs before hval0 hW _ _ _ _
  have aqL : ∀ (j : Nat) t v, Tryz.f3.params[j]? = some t → args[j]? = some v → Value.okWide Tryz.prog W .any base t v := hval0
  have hW' := hW
  obtain ⟨p, q, hA0, hV, rfl, hfz, jw⟩ := hW
  have hA : DataW.TrodAll enc Tryz.prog W 0 (fun _ => true) true Tryz.f3.params.toList args.toList ds p := hA0
  rw [Tryz.params3] at hA aqL
  obtain ⟨v0, d0, rfl, rfl, h0⟩ := trodAll_one hA
  obtain ⟨rfl, rfl⟩ := trodVars_none hV
  obtain ⟨a0, jW, cap0, rfl⟩ := okWide_slice Tryz.underlying22 (aqL 0 22 v0 rfl rfl)
  have h0k := h0
  obtain ⟨fuel, hf⟩ := h0
  obtain ⟨a, len, cap, bs, cD, hR⟩ := avz Tryz.underlying22 Tryz.underlying5 cells_u8 hf
  simp only [Value.cells, List.cons.injEq, and_true] at cD
  cases cD
  have e1 : Rows.fnNamesSpec.fn H ([d0] ++ []) = { results := [.lit (.bool true)], args := [d0] } := by simp [Rows.fnNamesSpec]
  have hret := (awN bs _ W hR).2
  refine hret.mono fun e W' ⟨v, he, hv, hk⟩ => ?_
  subst he; subst hv
  refine ⟨_, rfl, _, _, _, [], p, [], hW', ?_, ?_, ?_, keptBut_of hk _, fun h => by cases h⟩
  · rw [e1]; exact trodAll_mk1 (shut_bool Tryz.underlying4 true)
  · rw [e1]; exact trodAll_mk1' (Below.trod awP read_u8s rows_u8s h0k (hk.below (Nat.le_refl _) (by simp)) (fun x hx => DataW.Whole.lt hW' x (by simp [hx])))
  · rw [e1]; rfl

theorem and_t {a b : Bool} (h : a = true) (k : b = true) : (a && b) = true := by rw [h, k]; rfl
set_option maxRecDepth 100000 in
theorem fnNames_facts : joinedFacts Tryz.pinned.checked.prog 3 Tryz.f3 Rows.fnNamesSpec Rows.fnNamesRow = true := (and_t (and_t (and_t (and_t (and_t (and_t (and_t (and_t (and_t (and_t (and_t (and_t (and_t (and_t (and_t (and_t (and_t (and_t (and_t (and_t (and_t (and_t (and_t (and_t (and_t (and_t (and_t (and_t (and_t (and_t (and_t awO awP) awQ) awR) awS) awT) awU) awV) awW) awX) awY) awZ) aw0) aw1) aw2) aw3) aw4) aw5) aw6) aw7) aw8) aw9) axa) axf) axg) axh) axi) axj) axk) axl) axm) axn)

theorem names_row : Rows.FnNamesSaid :=
  OpenClaim.holds_of_wide 3 Tryz.f3 rfl rfl rfl rfl rfl rfl rfl ⟨rfl, rfl, rfl, rfl, rfl⟩ rfl rfl rfl rfl rfl axb Tryz.func3 fnNames_facts
    axc axd (fun os started H enc _ => names_lifted os started H enc)

theorem names_card : Rows.FnNamesCardSaid :=
  Claim7.holds_tied_plain_at .later [] [.data, .data, .data, .sentinel, .sentinel] true (true, "2bf57c8cdda30a03981c66d48bbf951741c89ad25f302ed353b461905072540f") true
    names_row (fun _ h => by cases h) axe (fun _ h => by cases h) fnNames_row_tie rfl ⟨rfl, rfl⟩ axo rfl
    (fun f fn hf QI => by
      obtain rfl : f = 3 := Option.some.inj (axb.symm.trans hf) |>.symm
      obtain rfl : fn = Tryz.f3 := (Option.some.inj (Tryz.func3.symm.trans QI)).symm
      exact ⟨axp, fun j t ht => by
        rw [Tryz.params3] at ht
        have h3 : t = 22 := by
          rcases j with _ | j
          · simpa using ht.symm
          · simp at ht
        subst h3
        exact axq⟩)
    axr
#print axioms names_card
end Go.Proofs.YtcildnfcpkpomaaGreatDoor
