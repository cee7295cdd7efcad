/-
  The law FnCheckFault holds for all codes: a fault is the first instruction that does not have what it needs. No conditions. (The package-level variables that the row lists hold what the program's text lays: the tied card.)
-/
import Derived.Test.YtjkkipfboijfaaaGreatDoorJn
import Derived.Test.YtjkkipfboijfaaaGreatDoorRows
import Derived.Test.YtjkkipfboijfaaaGreatDoorTie
import Derived.Test.YtjkkipfboijfaaaGreatDoorCards
import Derived.ProofKit
import Derived.LaidMore
import Derived.OpenShut
import Derived.Stop.Joined
import Derived.SevenTiedAt
import Derived.ChangeMaps5
import Derived.Carry
namespace Go.Proofs.YtjkkipfboijfaaaGreatDoor
open Go Go.ChangeMaps Go.ChangeShapes Go.WideShapes Go.ChangeAt Go.WideMaps Go.WideElems Go.RowKit

theorem own : ownKnob Tryz.prog.godebug = none := by kernel_rfl
theorem cells_u8 : Tryz.prog.cellsOf 5 = 1 := by kernel_rfl
theorem read_u8s : Tryz.prog.readableRec 22 = true := by kernel_rfl
theorem rows_u8s : 22 < Tryz.prog.types.size := by rw [show Tryz.prog.types.size = 257 from by kernel_rfl]; decide
theorem trodAll_mk1' {H : Type} {enc : TypeId × Value → H} {P : Program} {w : World} {base : Nat} {spare : Nat → Bool} {held : Bool} {t : TypeId} {v : Value} {d : DataW H} {ps : List MemPlace} (h : DataW.Trod enc P w base spare held t v d ps) : DataW.TrodAll enc P w base spare held [t] [v] [d] ps := ⟨ps, [], h, rfl, by simp⟩
def laidL : List (String × DataW Unit) := Rows.fnCheckFaultRow.laid
theorem door_met (os : Os) (args : Array Value) : laidMetH Tryz.prog laidL ((World.doorLaid Tryz.prog 400 os).forCall (fun _ _ => 0) ⟨#[], args, []⟩).memory :=
  laidMetH_of_parts3 (fuel := 8) (laidMet_of_run' 8 (by kernel_rfl) (by kernel_rfl)) (by kernel_rfl) (by kernel_rfl)
theorem keptBut_of {w w' : World} (k : ak [] w w') (may : MemPlace → Prop) : w.keptBut w' may := by
  refine ⟨k.os, k.output, fun i hi => ?_⟩
  rw [k.block i hi (by simp)]
  cases w.heap[i]? with
  | none => rfl
  | some o => cases o <;> first | exact ⟨rfl, rfl, rfl, fun _ _ => rfl⟩ | exact .inr ⟨rfl, rfl⟩ | rfl

set_option maxRecDepth 100000 in
theorem checkfault_lifted (os : Os) (started : os.Started) (H : Type) (enc : TypeId × Value → H) :
    ReturnsInHanded {} Tryz.checked os 5 .any (fun w args => (Rows.fnCheckFaultSpec.pre enc Tryz.prog Tryz.f5 [] false w args ∧ laidMetH Tryz.prog laidL w) ∧ sizedMet enc Tryz.prog Tryz.f5 (OpenSpec.ofChange Rows.fnCheckFaultSpec) false w args)
      (Rows.fnCheckFaultSpec.post enc Tryz.prog Tryz.f5 false true false false) := by
  refine returnsInHanded_of_change_and (C := Tryz.checked) (X := fun w _ => laidMetH Tryz.prog laidL w) (fun _ _ _ hh h => h.of_heap hh) own started (by kernel_rfl) Tryz.func5
    (ChangeSpec.witness_shaped (enc := enc) (C := Tryz.checked) (os := os) (X := fun w _ => laidMetH Tryz.prog laidL w) false (World.doorLaid Tryz.prog 400 os) #[.slice none 0 0] 8 rfl (World.shaped_of_RefB (by kernel_rfl) (by kernel_rfl)) (by kernel_rfl) (by kernel_rfl) (by kernel_rfl) (door_met os _)) ?_
  intro W base args ds gs before hval0 hW _ _ _ _
  have auw : ∀ (j : Nat) t v, Tryz.f5.params[j]? = some t → args[j]? = some v → Value.okWide Tryz.prog W .any base t v := hval0
  have hW' := hW
  obtain ⟨p, q, hA0, hV, rfl, hfz, kM⟩ := hW
  have hA : DataW.TrodAll enc Tryz.prog W 0 (fun _ => true) true Tryz.f5.params.toList args.toList ds p := hA0
  rw [Tryz.params5] at hA auw
  obtain ⟨v0, d0, rfl, rfl, h0⟩ := trodAll_one hA
  obtain ⟨rfl, rfl⟩ := trodVars_none hV
  obtain ⟨a0, ke, cap0, rfl⟩ := okWide_slice Tryz.underlying22 (auw 0 22 v0 rfl rfl)
  have h0k := h0
  obtain ⟨fuel, hf⟩ := h0
  obtain ⟨a, len, cap, bs, cO, hR⟩ := axK Tryz.underlying22 Tryz.underlying5 cells_u8 hf
  simp only [Value.cells, List.cons.injEq, and_true] at cO
  cases cO
  have e1 : Rows.fnCheckFaultSpec.fn H ([d0] ++ []) = { results := [.lit (.bool true)], args := [d0] } := by simp [Rows.fnCheckFaultSpec]
  have hret := (azs bs _ W hR).2
  refine hret.mono fun e W' ⟨v, he, hv, hk⟩ => ?_
  subst he; subst hv
  refine ⟨_, rfl, _, _, _, [], p, [], hW', ?_, ?_, ?_, keptBut_of hk _, fun h => by cases h⟩
  · rw [e1]; exact trodAll_mk1 (shut_bool Tryz.underlying4 true)
  · rw [e1]; exact trodAll_mk1' (Below.trod azv read_u8s rows_u8s h0k (hk.below (Nat.le_refl _) (by simp)) (fun x hx => DataW.Whole.lt hW' x (by simp [hx])))
  · rw [e1]; rfl

theorem and_t {a b : Bool} (h : a = true) (k : b = true) : (a && b) = true := by rw [h, k]; rfl
set_option maxRecDepth 100000 in
theorem fnCheckFault_facts : joinedFacts Tryz.pinned.checked.prog 5 Tryz.f5 Rows.fnCheckFaultSpec Rows.fnCheckFaultRow = true := (and_t (and_t (and_t (and_t (and_t (and_t (and_t (and_t (and_t (and_t (and_t (and_t (and_t (and_t (and_t (and_t (and_t (and_t (and_t (and_t (and_t (and_t (and_t (and_t (and_t (and_t (and_t (and_t (and_t (and_t (and_t azu azv) azw) azx) azy) azz) azA) azB) azC) azD) azE) azF) azG) azH) azI) azJ) azK) azL) azM) azN) azO) azP) azQ) azV) azW) azX) azY) azZ) az0) az1) az2) az3)

theorem checkfault_row : Rows.FnCheckFaultSaid :=
  OpenClaim.holds_of_wide 5 Tryz.f5 rfl rfl rfl rfl rfl rfl rfl ⟨rfl, rfl, rfl, rfl, rfl⟩ rfl rfl rfl rfl rfl azR Tryz.func5 fnCheckFault_facts
    azS azT (fun os started H enc _ => checkfault_lifted os started H enc)

theorem checkfault_card : Rows.FnCheckFaultCardSaid :=
  Claim7.holds_tied_plain_at .later [] [.data, .data, .data, .sentinel, .sentinel] true (true, "049d529f5b0e64755aadca6127fdb98dedc17ce0c44d4be5693fea0f4760d8cd") true
    checkfault_row (fun _ h => by cases h) azU (fun _ h => by cases h) fnCheckFault_row_tie rfl ⟨rfl, rfl⟩ az4 rfl
    (fun f fn hf RO => by
      obtain rfl : f = 5 := Option.some.inj (azR.symm.trans hf) |>.symm
      obtain rfl : fn = Tryz.f5 := (Option.some.inj (Tryz.func5.symm.trans RO)).symm
      exact ⟨az5, fun j t ht => by
        rw [Tryz.params5] at ht
        have h3 : t = 22 := by
          rcases j with _ | j
          · simpa using ht.symm
          · simp at ht
        subst h3
        exact az6⟩)
    az7
#print axioms checkfault_card
end Go.Proofs.YtjkkipfboijfaaaGreatDoor
