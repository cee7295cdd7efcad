/-
  The program's ProgramFrom answers, for every text, what the reference's answers: the law returns true whatever the input. (The package-level variables that the row lists hold what the program's text lays: the tied card.)
-/
import Derived.Test.YtnkjgoholocliaaGreatDoorMj
import Derived.Test.YtnkjgoholocliaaGreatDoorTe
import Derived.Test.YtnkjgoholocliaaGreatDoorTf
import Derived.Test.YtnkjgoholocliaaGreatDoorTg
import Derived.Test.YtnkjgoholocliaaGreatDoorTh
import Derived.Test.YtnkjgoholocliaaGreatDoorTi
import Derived.Test.YtnkjgoholocliaaGreatDoorRows
import Derived.Test.YtnkjgoholocliaaGreatDoorTie
import Derived.Test.YtnkjgoholocliaaGreatDoorCards
import Derived.ProofKit
import Derived.LaidMore
import Derived.OpenShut
import Derived.Stop.Joined
import Derived.SevenTiedAt
import Derived.ChangeMaps5
namespace Go.Proofs.YtnkjgoholocliaaGreatDoor
open Go Go.ChangeMaps Go.ChangeShapes Go.WideShapes Go.ChangeAt Go.WideMaps Go.WideElems Go.RowKit

theorem own : ownKnob Tryz.prog.godebug = none := by kernel_rfl
def laidL : List (String × DataW Unit) := Rows.fnExactProgramFromRow.laid
theorem door_met (os : Os) (args : Array Value) : laidMetH Tryz.prog laidL ((World.doorLaid Tryz.prog 400 os).forCall (fun _ _ => 0) ⟨#[], args, []⟩).memory :=
  laidMetH_of_parts3 (fuel := 8) (laidMet_of_run' 8 (by kernel_rfl) (by kernel_rfl)) (by kernel_rfl) (by kernel_rfl)
theorem keptBut_of {w w' : World} (k : Keep [] w w') (may : MemPlace → Prop) : w.keptBut w' may := by
  refine ⟨k.os, k.output, fun i hi => ?_⟩
  rw [k.block i hi (by simp)]
  cases w.heap[i]? with
  | none => rfl
  | some o => cases o <;> first | exact ⟨rfl, rfl, rfl, fun _ _ => rfl⟩ | exact .inr ⟨rfl, rfl⟩ | rfl

set_option maxRecDepth 100000 in
theorem from_lifted (os : Os) (started : os.Started) (H : Type) (enc : TypeId × Value → H) :
    ReturnsInHanded {} Tryz.checked os 4 .any (fun w args => (Rows.fnExactProgramFromSpec.pre enc Tryz.prog Tryz.f4 [] false w args ∧ laidMetH Tryz.prog laidL w) ∧ sizedMet enc Tryz.prog Tryz.f4 (OpenSpec.ofChange Rows.fnExactProgramFromSpec) false w args)
      (Rows.fnExactProgramFromSpec.post enc Tryz.prog Tryz.f4 false true false false) := by
  refine returnsInHanded_of_change_and (C := Tryz.checked) (X := fun w _ => laidMetH Tryz.prog laidL w) (fun _ _ _ hh h => h.of_heap hh) own started (by kernel_rfl) Tryz.func4
    (ChangeSpec.witness_shaped (enc := enc) (C := Tryz.checked) (os := os) (X := fun w _ => laidMetH Tryz.prog laidL w) false (World.doorLaid Tryz.prog 400 os) #[.string ⟨#[]⟩] 8 rfl (World.shaped_of_RefB (by kernel_rfl) (by kernel_rfl)) (by kernel_rfl) (by kernel_rfl) (by kernel_rfl) (door_met os _)) ?_
  intro W base args ds gs before hval0 hW _ _ _ _
  have hval : ∀ (j : Nat) t v, Tryz.f4.params[j]? = some t → args[j]? = some v → Value.okWide Tryz.prog W .any base t v := hval0
  have hW' := hW
  obtain ⟨p, q, hA0, hV, rfl, hfz, hnd⟩ := hW
  have hA : DataW.TrodAll enc Tryz.prog W 0 (fun _ => true) true Tryz.f4.params.toList args.toList ds p := hA0
  rw [Tryz.params4] at hA hval
  obtain ⟨v0, d0, rfl, rfl, h0⟩ := trodAll_one hA
  obtain ⟨rfl, rfl⟩ := trodVars_none hV
  obtain ⟨s, rfl, rfl, rfl, hs⟩ := open_string Tryz.underlying9 (hval 0 9 v0 rfl rfl) h0
  have hstr : Value.string s = str s.data.toList := by simp [str]
  have e1 : Rows.fnExactProgramFromSpec.fn H ([.lit (.string s.data.toList)] ++ []) = { results := [.lit (.bool true)], args := [.lit (.string s.data.toList)] } := by simp [Rows.fnExactProgramFromSpec]
  have hret := (lawFrom_ret s.data.toList W).2
  rw [← hstr] at hret
  refine hret.mono fun e W' ⟨v, he, hv, hk⟩ => ?_
  subst he; subst hv
  refine ⟨_, rfl, _, _, _, [], [], [], hW', ?_, ?_, ?_, keptBut_of hk _, fun h => by cases h⟩
  · rw [e1]; exact trodAll_mk1 (shut_bool Tryz.underlying4 true)
  · rw [e1]; exact trodAll_mk1 (shut_string Tryz.underlying9 hs)
  · rw [e1]; rfl

theorem and_t {a b : Bool} (h : a = true) (k : b = true) : (a && b) = true := by rw [h, k]; rfl
set_option maxRecDepth 100000 in
theorem fnExactProgramFrom_facts : joinedFacts Tryz.pinned.checked.prog 4 Tryz.f4 Rows.fnExactProgramFromSpec Rows.fnExactProgramFromRow = true := (and_t (and_t (and_t (and_t (and_t (and_t (and_t (and_t (and_t (and_t (and_t (and_t (and_t (and_t (and_t (and_t (and_t (and_t (and_t (and_t (and_t (and_t (and_t (and_t (and_t (and_t (and_t (and_t (and_t (and_t (and_t fnExactProgramFrom_fact0 fnExactProgramFrom_fact1) fnExactProgramFrom_fact2) fnExactProgramFrom_fact3) fnExactProgramFrom_fact4) fnExactProgramFrom_fact5) fnExactProgramFrom_fact6) fnExactProgramFrom_fact7) fnExactProgramFrom_fact8) fnExactProgramFrom_fact9) fnExactProgramFrom_fact10) fnExactProgramFrom_fact11) fnExactProgramFrom_fact12) fnExactProgramFrom_fact13) fnExactProgramFrom_fact14) fnExactProgramFrom_fact15) fnExactProgramFrom_fact16) fnExactProgramFrom_fact17) fnExactProgramFrom_fact18) fnExactProgramFrom_fact19) fnExactProgramFrom_fact20) fnExactProgramFrom_fact21) fnExactProgramFrom_fact22) fnExactProgramFrom_fact23) fnExactProgramFrom_fact24) fnExactProgramFrom_fact25) fnExactProgramFrom_fact26) fnExactProgramFrom_fact27) fnExactProgramFrom_fact28) fnExactProgramFrom_fact29) fnExactProgramFrom_fact30) fnExactProgramFrom_fact31)

theorem from_row : Rows.FnExactProgramFromSaid :=
  OpenClaim.holds_of_wide 4 Tryz.f4 rfl rfl rfl rfl rfl rfl rfl ⟨rfl, rfl, rfl, rfl, rfl⟩ rfl rfl rfl rfl rfl fnExactProgramFrom_named Tryz.func4 fnExactProgramFrom_facts
    fnExactProgramFrom_inst fnExactProgramFrom_wrap (fun os started H enc _ => from_lifted os started H enc)

theorem from_card : Rows.FnExactProgramFromCardSaid :=
  Claim7.holds_tied_plain_at .later [] [.data, .data, .data, .sentinel, .sentinel] true (true, "b79b93e3c1d0c3aadcb06e404c7e50fe5c05f7da9d2039930bee87740d4b1eda") true
    from_row (fun _ h => by cases h) fnExactProgramFrom_wf (fun _ h => by cases h) fnExactProgramFrom_row_tie rfl ⟨rfl, rfl⟩ fnExactProgramFrom_main rfl
    (fun f fn hf hfn => by
      obtain rfl : f = 4 := Option.some.inj (fnExactProgramFrom_named.symm.trans hf) |>.symm
      obtain rfl : fn = Tryz.f4 := (Option.some.inj (Tryz.func4.symm.trans hfn)).symm
      exact ⟨fnExactProgramFrom_looks, fun j t ht => by
        rw [Tryz.params4] at ht
        have h3 : t = 9 := by
          rcases j with _ | j
          · simpa using ht.symm
          · simp at ht
        subst h3
        exact fnExactProgramFrom_want0⟩)
    fnExactProgramFrom_goes
#print axioms from_card
end Go.Proofs.YtnkjgoholocliaaGreatDoor
