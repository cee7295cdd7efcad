/-
  The program's ProgramLoad answers, for every input, what the reference's answers: the law returns true whatever the input. (The package-level variables that the row lists hold what the program's text lays: the tied card.)
-/
import Derived.Test.YtnkjgoholocliaaGreatDoorOn
import Derived.Test.YtnkjgoholocliaaGreatDoorUn
import Derived.Test.YtnkjgoholocliaaGreatDoorUo
import Derived.Test.YtnkjgoholocliaaGreatDoorUp
import Derived.Test.YtnkjgoholocliaaGreatDoorUq
import Derived.Test.YtnkjgoholocliaaGreatDoorUr
import Derived.Test.YtnkjgoholocliaaGreatDoorRows
import Derived.Test.YtnkjgoholocliaaGreatDoorTie
import Derived.Test.YtnkjgoholocliaaGreatDoorCards
import Derived.ProofKit
import Derived.LaidMore
import Derived.OpenShut
import Derived.Stop.Joined
import Derived.SevenTiedAt
import Derived.ChangeMaps5
import Derived.Carry
namespace Go.Proofs.YtnkjgoholocliaaGreatDoor
open Go Go.ChangeMaps Go.ChangeShapes Go.WideShapes Go.ChangeAt Go.WideMaps Go.WideElems Go.RowKit

theorem own : ownKnob Tryz.prog.godebug = none := by kernel_rfl
def laidL : List (String × DataW Unit) := Rows.fnExactProgramLoadRow.laid
theorem door_met (os : Os) (args : Array Value) : laidMetH Tryz.prog laidL ((World.doorLaid Tryz.prog 400 os).forCall (fun _ _ => 0) ⟨#[], args, []⟩).memory :=
  laidMetH_of_parts3 (fuel := 8) (laidMet_of_run' 8 (by kernel_rfl) (by kernel_rfl)) (by kernel_rfl) (by kernel_rfl)
theorem keptBut_of {w w' : World} (k : Keep [] w w') (may : MemPlace → Prop) : w.keptBut w' may := by
  refine ⟨k.os, k.output, fun i hi => ?_⟩
  rw [k.block i hi (by simp)]
  cases w.heap[i]? with
  | none => rfl
  | some o => cases o <;> first | exact ⟨rfl, rfl, rfl, fun _ _ => rfl⟩ | exact .inr ⟨rfl, rfl⟩ | rfl

set_option maxRecDepth 100000 in
theorem load_lifted (os : Os) (started : os.Started) (H : Type) (enc : TypeId × Value → H) :
    ReturnsInHanded {} Tryz.checked os 12 .any (fun w args => (Rows.fnExactProgramLoadSpec.pre enc Tryz.prog Tryz.f12 [] false w args ∧ laidMetH Tryz.prog laidL w) ∧ sizedMet enc Tryz.prog Tryz.f12 (OpenSpec.ofChange Rows.fnExactProgramLoadSpec) false w args)
      (Rows.fnExactProgramLoadSpec.post enc Tryz.prog Tryz.f12 false true false false) := by
  refine returnsInHanded_of_change_and (C := Tryz.checked) (X := fun w _ => laidMetH Tryz.prog laidL w) (fun _ _ _ hh h => h.of_heap hh) own started (by kernel_rfl) Tryz.func12
    (ChangeSpec.witness_shaped (enc := enc) (C := Tryz.checked) (os := os) (X := fun w _ => laidMetH Tryz.prog laidL w) false (World.doorLaid Tryz.prog 400 os) #[.string ⟨#[]⟩] 8 rfl (World.shaped_of_RefB (by kernel_rfl) (by kernel_rfl)) (by kernel_rfl) (by kernel_rfl) (by kernel_rfl) (door_met os _)) ?_
  intro W base args ds gs before hval0 hW _ _ _ _
  have hval : ∀ (j : Nat) t v, Tryz.f12.params[j]? = some t → args[j]? = some v → Value.okWide Tryz.prog W .any base t v := hval0
  have hW' := hW
  obtain ⟨p, q, hA0, hV, rfl, hfz, hnd⟩ := hW
  have hA : DataW.TrodAll enc Tryz.prog W 0 (fun _ => true) true Tryz.f12.params.toList args.toList ds p := hA0
  rw [Tryz.params12] at hA hval
  obtain ⟨v0, d0, rfl, rfl, h0⟩ := trodAll_one hA
  obtain ⟨rfl, rfl⟩ := trodVars_none hV
  obtain ⟨s, rfl, rfl, rfl, hs⟩ := open_string Tryz.underlying9 (hval 0 9 v0 rfl rfl) h0
  have hstr : Value.string s = str s.data.toList := by simp [str]
  have e1 : Rows.fnExactProgramLoadSpec.fn H ([.lit (.string s.data.toList)] ++ []) = { results := [.lit (.bool true)], args := [.lit (.string s.data.toList)] } := by simp [Rows.fnExactProgramLoadSpec]
  have hret := (lawLoad_ret s.data.toList W).2
  rw [← hstr] at hret
  refine hret.mono fun e W' ⟨v, he, hv, hk⟩ => ?_
  subst he; subst hv
  refine ⟨_, rfl, _, _, _, [], [], [], hW', ?_, ?_, ?_, keptBut_of hk _, fun h => by cases h⟩
  · rw [e1]; exact trodAll_mk1 (shut_bool Tryz.underlying4 true)
  · rw [e1]; exact trodAll_mk1 (shut_string Tryz.underlying9 hs)
  · rw [e1]; rfl

theorem and_t {a b : Bool} (h : a = true) (k : b = true) : (a && b) = true := by rw [h, k]; rfl
set_option maxRecDepth 100000 in
theorem fnExactProgramLoad_facts : joinedFacts Tryz.pinned.checked.prog 12 Tryz.f12 Rows.fnExactProgramLoadSpec Rows.fnExactProgramLoadRow = true := (and_t (and_t (and_t (and_t (and_t (and_t (and_t (and_t (and_t (and_t (and_t (and_t (and_t (and_t (and_t (and_t (and_t (and_t (and_t (and_t (and_t (and_t (and_t (and_t (and_t (and_t (and_t (and_t (and_t (and_t (and_t fnExactProgramLoad_fact0 fnExactProgramLoad_fact1) fnExactProgramLoad_fact2) fnExactProgramLoad_fact3) fnExactProgramLoad_fact4) fnExactProgramLoad_fact5) fnExactProgramLoad_fact6) fnExactProgramLoad_fact7) fnExactProgramLoad_fact8) fnExactProgramLoad_fact9) fnExactProgramLoad_fact10) fnExactProgramLoad_fact11) fnExactProgramLoad_fact12) fnExactProgramLoad_fact13) fnExactProgramLoad_fact14) fnExactProgramLoad_fact15) fnExactProgramLoad_fact16) fnExactProgramLoad_fact17) fnExactProgramLoad_fact18) fnExactProgramLoad_fact19) fnExactProgramLoad_fact20) fnExactProgramLoad_fact21) fnExactProgramLoad_fact22) fnExactProgramLoad_fact23) fnExactProgramLoad_fact24) fnExactProgramLoad_fact25) fnExactProgramLoad_fact26) fnExactProgramLoad_fact27) fnExactProgramLoad_fact28) fnExactProgramLoad_fact29) fnExactProgramLoad_fact30) fnExactProgramLoad_fact31)

theorem load_row : Rows.FnExactProgramLoadSaid :=
  OpenClaim.holds_of_wide 12 Tryz.f12 rfl rfl rfl rfl rfl rfl rfl ⟨rfl, rfl, rfl, rfl, rfl⟩ rfl rfl rfl rfl rfl fnExactProgramLoad_named Tryz.func12 fnExactProgramLoad_facts
    fnExactProgramLoad_inst fnExactProgramLoad_wrap (fun os started H enc _ => load_lifted os started H enc)

theorem load_card : Rows.FnExactProgramLoadCardSaid :=
  Claim7.holds_tied_plain_at .later [] [.data, .data, .data, .sentinel, .sentinel] true (true, "b79b93e3c1d0c3aadcb06e404c7e50fe5c05f7da9d2039930bee87740d4b1eda") true
    load_row (fun _ h => by cases h) fnExactProgramLoad_wf (fun _ h => by cases h) fnExactProgramLoad_row_tie rfl ⟨rfl, rfl⟩ fnExactProgramLoad_main rfl
    (fun f fn hf hfn => by
      obtain rfl : f = 12 := Option.some.inj (fnExactProgramLoad_named.symm.trans hf) |>.symm
      obtain rfl : fn = Tryz.f12 := (Option.some.inj (Tryz.func12.symm.trans hfn)).symm
      exact ⟨fnExactProgramLoad_looks, fun j t ht => by
        rw [Tryz.params12] at ht
        have h3 : t = 9 := by
          rcases j with _ | j
          · simpa using ht.symm
          · simp at ht
        subst h3
        exact fnExactProgramLoad_want0⟩)
    fnExactProgramLoad_goes
#print axioms load_card
end Go.Proofs.YtnkjgoholocliaaGreatDoor
