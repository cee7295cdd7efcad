/-
  What is wanted is not there (The package-level variables that the row lists hold what the program's text lays: the tied card.)
-/
import Derived.Test.YtcildnfcpkpomaaGreatDoorGm
import Derived.Test.YtcildnfcpkpomaaGreatDoorRows
import Derived.Test.YtcildnfcpkpomaaGreatDoorTie
import Derived.Test.YtcildnfcpkpomaaGreatDoorCards
import Derived.ProofKit
import Derived.LaidMore
import Derived.OpenShut
import Derived.Stop.Joined
import Derived.SevenTiedAt
import Derived.ChangeMaps5
import Derived.Carry
namespace Go.Proofs.YtcildnfcpkpomaaGreatDoor
open Go Go.ChangeMaps Go.ChangeShapes Go.WideShapes Go.ChangeAt Go.WideMaps Go.WideElems Go.RowKit

theorem own : ownKnob Tryz.prog.godebug = none := by kernel_rfl
theorem cells_u8 : Tryz.prog.cellsOf 5 = 1 := by kernel_rfl
theorem read_u8s : Tryz.prog.readableRec 22 = true := by kernel_rfl
theorem rows_u8s : 22 < Tryz.prog.types.size := by rw [show Tryz.prog.types.size = 262 from by kernel_rfl]; decide
theorem trodAll_mk1' {H : Type} {enc : TypeId × Value → H} {P : Program} {w : World} {base : Nat} {spare : Nat → Bool} {held : Bool} {t : TypeId} {v : Value} {d : DataW H} {ps : List MemPlace} (h : DataW.Trod enc P w base spare held t v d ps) : DataW.TrodAll enc P w base spare held [t] [v] [d] ps := ⟨ps, [], h, rfl, by simp⟩
def laidL : List (String × DataW Unit) := Rows.fnWantsRow.laid
theorem door_met (os : Os) (args : Array Value) : laidMetH Tryz.prog laidL ((World.doorLaid Tryz.prog 400 os).forCall (fun _ _ => 0) ⟨#[], args, []⟩).memory :=
  laidMetH_of_parts3 (fuel := 8) (laidMet_of_run' 8 (by kernel_rfl) (by kernel_rfl)) (by kernel_rfl) (by kernel_rfl)
theorem keptBut_of {w w' : World} (k : ak [] w w') (may : MemPlace → Prop) : w.keptBut w' may := by
  refine ⟨k.os, k.output, fun i hi => ?_⟩
  rw [k.block i hi (by simp)]
  cases w.heap[i]? with
  | none => rfl
  | some o => cases o <;> first | exact ⟨rfl, rfl, rfl, fun _ _ => rfl⟩ | exact .inr ⟨rfl, rfl⟩ | rfl

set_option maxRecDepth 100000 in
theorem wants_lifted (os : Os) (started : os.Started) (H : Type) (enc : TypeId × Value → H) :
    ReturnsInHanded {} Tryz.checked os 5 .any (fun w args => (Rows.fnWantsSpec.pre enc Tryz.prog Tryz.f5 [] false w args ∧ laidMetH Tryz.prog laidL w) ∧ sizedMet enc Tryz.prog Tryz.f5 (OpenSpec.ofChange Rows.fnWantsSpec) false w args)
      (Rows.fnWantsSpec.post enc Tryz.prog Tryz.f5 false true false false) := by
  refine returnsInHanded_of_change_and (C := Tryz.checked) (X := fun w _ => laidMetH Tryz.prog laidL w) (fun _ _ _ hh h => h.of_heap hh) own started (by kernel_rfl) Tryz.func5
    (ChangeSpec.witness_shaped (enc := enc) (C := Tryz.checked) (os := os) (X := fun w _ => laidMetH Tryz.prog laidL w) false (World.doorLaid Tryz.prog 400 os) #[.slice none 0 0] 8 rfl (World.shaped_of_RefB (by kernel_rfl) (by kernel_rfl)) (by kernel_rfl) (by kernel_rfl) (by kernel_rfl) (door_met os _)) ?_
  intro W base args ds gs before hval0 hW _ _ _ _
  have arL : ∀ (j : Nat) t v, Tryz.f5.params[j]? = some t → args[j]? = some v → Value.okWide Tryz.prog W .any base t v := hval0
  have hW' := hW
  obtain ⟨p, q, hA0, hV, rfl, hfz, jw⟩ := hW
  have hA : DataW.TrodAll enc Tryz.prog W 0 (fun _ => true) true Tryz.f5.params.toList args.toList ds p := hA0
  rw [Tryz.params5] at hA arL
  obtain ⟨v0, d0, rfl, rfl, h0⟩ := trodAll_one hA
  obtain ⟨rfl, rfl⟩ := trodVars_none hV
  obtain ⟨a0, j8, cap0, rfl⟩ := okWide_slice Tryz.underlying22 (arL 0 22 v0 rfl rfl)
  have h0k := h0
  obtain ⟨fuel, hf⟩ := h0
  obtain ⟨a, len, cap, bs, cC, hR⟩ := awO Tryz.underlying22 Tryz.underlying5 cells_u8 hf
  simp only [Value.cells, List.cons.injEq, and_true] at cC
  cases cC
  have e1 : Rows.fnWantsSpec.fn H ([d0] ++ []) = { results := [.lit (.bool true)], args := [d0] } := by simp [Rows.fnWantsSpec]
  have hret := (ax3 bs _ W hR).2
  refine hret.mono fun e W' ⟨v, he, hv, hk⟩ => ?_
  subst he; subst hv
  refine ⟨_, rfl, _, _, _, [], p, [], hW', ?_, ?_, ?_, keptBut_of hk _, fun h => by cases h⟩
  · rw [e1]; exact trodAll_mk1 (shut_bool Tryz.underlying4 true)
  · rw [e1]; exact trodAll_mk1' (Below.trod ax9 read_u8s rows_u8s h0k (hk.below (Nat.le_refl _) (by simp)) (fun x hx => DataW.Whole.lt hW' x (by simp [hx])))
  · rw [e1]; rfl

theorem and_t {a b : Bool} (h : a = true) (k : b = true) : (a && b) = true := by rw [h, k]; rfl
set_option maxRecDepth 100000 in
theorem fnWants_facts : joinedFacts Tryz.pinned.checked.prog 5 Tryz.f5 Rows.fnWantsSpec Rows.fnWantsRow = true := (and_t (and_t (and_t (and_t (and_t (and_t (and_t (and_t (and_t (and_t (and_t (and_t (and_t (and_t (and_t (and_t (and_t (and_t (and_t (and_t (and_t (and_t (and_t (and_t (and_t (and_t (and_t (and_t (and_t (and_t (and_t ax8 ax9) aya) ayb) ayc) ayd) aye) ayf) ayg) ayh) ayi) ayj) ayk) ayl) aym) ayn) ayo) ayp) ayq) ayr) ays) ayt) ayu) ayz) ayA) ayB) ayC) ayD) ayE) ayF) ayG) ayH)

theorem wants_row : Rows.FnWantsSaid :=
  OpenClaim.holds_of_wide 5 Tryz.f5 rfl rfl rfl rfl rfl rfl rfl ⟨rfl, rfl, rfl, rfl, rfl⟩ rfl rfl rfl rfl rfl ayv Tryz.func5 fnWants_facts
    ayw ayx (fun os started H enc _ => wants_lifted os started H enc)

theorem wants_card : Rows.FnWantsCardSaid :=
  Claim7.holds_tied_plain_at .later [] [.data, .data, .data, .sentinel, .sentinel] true (true, "2bf57c8cdda30a03981c66d48bbf951741c89ad25f302ed353b461905072540f") true
    wants_row (fun _ h => by cases h) ayy (fun _ h => by cases h) fnWants_row_tie rfl ⟨rfl, rfl⟩ ayI rfl
    (fun f fn hf Rh => by
      obtain rfl : f = 5 := Option.some.inj (ayv.symm.trans hf) |>.symm
      obtain rfl : fn = Tryz.f5 := (Option.some.inj (Tryz.func5.symm.trans Rh)).symm
      exact ⟨ayJ, fun j t ht => by
        rw [Tryz.params5] at ht
        have h3 : t = 22 := by
          rcases j with _ | j
          · simpa using ht.symm
          · simp at ht
        subst h3
        exact ayK⟩)
    ayL
#print axioms wants_card
end Go.Proofs.YtcildnfcpkpomaaGreatDoor
