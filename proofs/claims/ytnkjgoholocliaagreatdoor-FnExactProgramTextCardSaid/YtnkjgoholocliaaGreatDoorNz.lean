/-
  The program's ProgramText answers, for every input, what the reference's answers: the law returns true whatever the input. (The package-level variables that the row lists hold what the program's text lays: the tied card.)
-/
import Derived.Test.YtnkjgoholocliaaGreatDoorNj
import Derived.Test.YtnkjgoholocliaaGreatDoorTp
import Derived.Test.YtnkjgoholocliaaGreatDoorTq
import Derived.Test.YtnkjgoholocliaaGreatDoorTr
import Derived.Test.YtnkjgoholocliaaGreatDoorTt
import Derived.Test.YtnkjgoholocliaaGreatDoorTu
import Derived.Test.YtnkjgoholocliaaGreatDoorRows
import Derived.Test.YtnkjgoholocliaaGreatDoorTie
import Derived.Test.YtnkjgoholocliaaGreatDoorCards
import Derived.ProofKit
import Derived.LaidMore
import Derived.OpenShut
import Derived.Stop.Joined
import Derived.SevenTiedAt
import Derived.ChangeMaps5
import Derived.Carry
namespace Go.Proofs.YtnkjgoholocliaaGreatDoor
open Go Go.ChangeMaps Go.ChangeShapes Go.WideShapes Go.ChangeAt Go.WideMaps Go.WideElems Go.RowKit

theorem own : ownKnob Tryz.prog.godebug = none := by kernel_rfl
theorem cells_blk : Tryz.prog.cellsOf 53 = 3 := by kernel_rfl
theorem cells_str : Tryz.prog.cellsOf 9 = 1 := by kernel_rfl
theorem cells_strs : Tryz.prog.cellsOf 35 = 1 := by kernel_rfl
theorem read_blks : Tryz.prog.readableRec 22 = true := by kernel_rfl
theorem rows_blks : 22 < Tryz.prog.types.size := by rw [show Tryz.prog.types.size = 230 from by kernel_rfl]; decide
theorem trodAll_mk1' {H : Type} {enc : TypeId × Value → H} {P : Program} {w : World} {base : Nat} {spare : Nat → Bool} {held : Bool} {t : TypeId} {v : Value} {d : DataW H} {ps : List MemPlace} (h : DataW.Trod enc P w base spare held t v d ps) : DataW.TrodAll enc P w base spare held [t] [v] [d] ps := ⟨ps, [], h, rfl, by simp⟩
def laidL : List (String × DataW Unit) := Rows.fnExactProgramTextRow.laid
theorem door_met (os : Os) (args : Array Value) : laidMetH Tryz.prog laidL ((World.doorLaid Tryz.prog 400 os).forCall (fun _ _ => 0) ⟨#[], args, []⟩).memory :=
  laidMetH_of_parts3 (fuel := 8) (laidMet_of_run' 8 (by kernel_rfl) (by kernel_rfl)) (by kernel_rfl) (by kernel_rfl)
theorem keptBut_of {w w' : World} (k : Keep [] w w') (may : MemPlace → Prop) : w.keptBut w' may := by
  refine ⟨k.os, k.output, fun i hi => ?_⟩
  rw [k.block i hi (by simp)]
  cases w.heap[i]? with
  | none => rfl
  | some o => cases o <;> first | exact ⟨rfl, rfl, rfl, fun _ _ => rfl⟩ | exact .inr ⟨rfl, rfl⟩ | rfl

set_option maxRecDepth 100000 in
theorem text_lifted (os : Os) (started : os.Started) (H : Type) (enc : TypeId × Value → H) :
    ReturnsInHanded {} Tryz.checked os 5 .any (fun w args => (Rows.fnExactProgramTextSpec.pre enc Tryz.prog Tryz.f5 [] false w args ∧ laidMetH Tryz.prog laidL w) ∧ sizedMet enc Tryz.prog Tryz.f5 (OpenSpec.ofChange Rows.fnExactProgramTextSpec) false w args)
      (Rows.fnExactProgramTextSpec.post enc Tryz.prog Tryz.f5 false true false false) := by
  refine returnsInHanded_of_change_and (C := Tryz.checked) (X := fun w _ => laidMetH Tryz.prog laidL w) (fun _ _ _ hh h => h.of_heap hh) own started (by kernel_rfl) Tryz.func5
    (ChangeSpec.witness_shaped (enc := enc) (C := Tryz.checked) (os := os) (X := fun w _ => laidMetH Tryz.prog laidL w) false (World.doorLaid Tryz.prog 400 os) #[.slice none 0 0] 8 rfl (World.shaped_of_RefB (by kernel_rfl) (by kernel_rfl)) (by kernel_rfl) (by kernel_rfl) (by kernel_rfl) (door_met os _)) ?_
  intro W base args ds gs before hval0 hW _ _ _ _
  have hval : ∀ (j : Nat) t v, Tryz.f5.params[j]? = some t → args[j]? = some v → Value.okWide Tryz.prog W .any base t v := hval0
  have hW' := hW
  obtain ⟨p, q, hA0, hV, rfl, hfz, hnd⟩ := hW
  have hA : DataW.TrodAll enc Tryz.prog W 0 (fun _ => true) true Tryz.f5.params.toList args.toList ds p := hA0
  rw [Tryz.params5] at hA hval
  obtain ⟨v0, d0, rfl, rfl, h0⟩ := trodAll_one hA
  obtain ⟨rfl, rfl⟩ := trodVars_none hV
  obtain ⟨a0, len0, cap0, rfl⟩ := okWide_slice Tryz.underlying22 (hval 0 22 v0 rfl rfl)
  have h0k := h0
  obtain ⟨fuel, hf⟩ := h0
  obtain ⟨a, len, cap, bs, hcs, hR, hF⟩ := open_blksR Tryz.underlying22 Tryz.underlying53 cells_blk ⟨rfl, rfl⟩ ⟨rfl, rfl⟩ ⟨rfl, rfl⟩ Tryz.underlying9 cells_str Tryz.underlying35 cells_strs hf
  simp only [Value.cells, List.cons.injEq, and_true] at hcs
  cases hcs
  have e1 : Rows.fnExactProgramTextSpec.fn H ([d0] ++ []) = { results := [.lit (.bool true)], args := [d0] } := by simp [Rows.fnExactProgramTextSpec]
  have hret := (lawText_ret bs hF _ [] W hR).2
  refine hret.mono fun e W' ⟨v, he, hv, hk⟩ => ?_
  subst he; subst hv
  refine ⟨_, rfl, _, _, _, [], p, [], hW', ?_, ?_, ?_, keptBut_of hk _, fun h => by cases h⟩
  · rw [e1]; exact trodAll_mk1 (shut_bool Tryz.underlying4 true)
  · rw [e1]; exact trodAll_mk1' (Below.trod fnExactProgramText_fact1 read_blks rows_blks h0k (hk.below (Nat.le_refl _) (by simp)) (fun x hx => DataW.Whole.lt hW' x (by simp [hx])))
  · rw [e1]; rfl

theorem and_t {a b : Bool} (h : a = true) (k : b = true) : (a && b) = true := by rw [h, k]; rfl
set_option maxRecDepth 100000 in
theorem fnExactProgramText_facts : joinedFacts Tryz.pinned.checked.prog 5 Tryz.f5 Rows.fnExactProgramTextSpec Rows.fnExactProgramTextRow = true := (and_t (and_t (and_t (and_t (and_t (and_t (and_t (and_t (and_t (and_t (and_t (and_t (and_t (and_t (and_t (and_t (and_t (and_t (and_t (and_t (and_t (and_t (and_t (and_t (and_t (and_t (and_t (and_t (and_t (and_t (and_t fnExactProgramText_fact0 fnExactProgramText_fact1) fnExactProgramText_fact2) fnExactProgramText_fact3) fnExactProgramText_fact4) fnExactProgramText_fact5) fnExactProgramText_fact6) fnExactProgramText_fact7) fnExactProgramText_fact8) fnExactProgramText_fact9) fnExactProgramText_fact10) fnExactProgramText_fact11) fnExactProgramText_fact12) fnExactProgramText_fact13) fnExactProgramText_fact14) fnExactProgramText_fact15) fnExactProgramText_fact16) fnExactProgramText_fact17) fnExactProgramText_fact18) fnExactProgramText_fact19) fnExactProgramText_fact20) fnExactProgramText_fact21) fnExactProgramText_fact22) fnExactProgramText_fact23) fnExactProgramText_fact24) fnExactProgramText_fact25) fnExactProgramText_fact26) fnExactProgramText_fact27) fnExactProgramText_fact28) fnExactProgramText_fact29) fnExactProgramText_fact30) fnExactProgramText_fact31)

theorem text_row : Rows.FnExactProgramTextSaid :=
  OpenClaim.holds_of_wide 5 Tryz.f5 rfl rfl rfl rfl rfl rfl rfl ⟨rfl, rfl, rfl, rfl, rfl⟩ rfl rfl rfl rfl rfl fnExactProgramText_named Tryz.func5 fnExactProgramText_facts
    fnExactProgramText_inst fnExactProgramText_wrap (fun os started H enc _ => text_lifted os started H enc)

theorem text_card : Rows.FnExactProgramTextCardSaid :=
  Claim7.holds_tied_plain_at .later [] [.data, .data, .data, .sentinel, .sentinel] true (true, "b79b93e3c1d0c3aadcb06e404c7e50fe5c05f7da9d2039930bee87740d4b1eda") true
    text_row (fun _ h => by cases h) fnExactProgramText_wf (fun _ h => by cases h) fnExactProgramText_row_tie rfl ⟨rfl, rfl⟩ fnExactProgramText_main rfl
    (fun f fn hf hfn => by
      obtain rfl : f = 5 := Option.some.inj (fnExactProgramText_named.symm.trans hf) |>.symm
      obtain rfl : fn = Tryz.f5 := (Option.some.inj (Tryz.func5.symm.trans hfn)).symm
      exact ⟨fnExactProgramText_looks, fun j t ht => by
        rw [Tryz.params5] at ht
        have h3 : t = 22 := by
          rcases j with _ | j
          · simpa using ht.symm
          · simp at ht
        subst h3
        exact fnExactProgramText_want0⟩)
    fnExactProgramText_goes
#print axioms text_card
end Go.Proofs.YtnkjgoholocliaaGreatDoor
