/-
  Lemmas for the law of ProgramLoad, no statement of their own: walks of the program's ProgramFrom and of what the law does.
-/
import Derived.Test.YtnkjgoholocliaaGreatDoorOi
import Derived.Test.YtnkjgoholocliaaGreatDoorOd
import Derived.Test.YtnkjgoholocliaaGreatDoorOy
import Derived.Test.YtnkjgoholocliaaGreatDoorOb
import Derived.Test.YtnkjgoholocliaaGreatDoorOf
namespace Go.Proofs.YtnkjgoholocliaaGreatDoor
open Go

def OwnProg (B : Nat) (bs : List Bk) (v : Value) (w : World) : Prop := ∃ g gss vss, OBks w 55 9 v g gss vss bs ∧ ∀ x, x ∈ g.toList ++ allG gss → B ≤ x
theorem ownProg_nil {B : Nat} {w : World} : OwnProg B [] (.slice none 0 0) w := ⟨none, [], [], OBks.nil, by simp [allG]⟩
def OwnTxt (B : Nat) (ts : List Tree) (v : Value) (w : World) : Prop := ∃ a n c g, v = .slice a n c ∧ OStr w 9 (.slice a n c) g (ts.map Tree.text) ∧ (∀ b, g = some b → B ≤ b) ∧ (ts = [] → g = none)
theorem OwnTxt.ext {B : Nat} {ts : List Tree} {v : Value} {w w' : World} (h : OwnTxt B ts v w) (k : Keep [] w w') : OwnTxt B ts v w' := by
  obtain ⟨a, n, c, g, e, h1, h2⟩ := h; exact ⟨a, n, c, g, e, h1.ext k, h2⟩
def TwoTxt (B : Nat) (l : Bytes) (ts us : List Tree) (v : Value) (w : World) : Prop := ∃ a1 n1 c1 g1 a2 n2 c2 g2, v = .agg #[str l, .slice a1 n1 c1, .slice a2 n2 c2] ∧
  (OStr w 9 (.slice a1 n1 c1) g1 (ts.map Tree.text) ∧ (∀ b, g1 = some b → B ≤ b) ∧ (ts = [] → g1 = none)) ∧ (OStr w 9 (.slice a2 n2 c2) g2 (us.map Tree.text) ∧ (∀ b, g2 = some b → B ≤ b) ∧ (us = [] → g2 = none))
theorem TwoTxt.ext {B : Nat} {l : Bytes} {ts us : List Tree} {v : Value} {w w' : World} (h : TwoTxt B l ts us v w) (k : Keep [] w w') : TwoTxt B l ts us v w' := by
  obtain ⟨a1, n1, c1, g1, a2, n2, c2, g2, e, h1, h2⟩ := h; exact ⟨a1, n1, c1, g1, a2, n2, c2, g2, e, ⟨h1.1.ext k, h1.2⟩, h2.1.ext k, h2.2⟩
def OneRow (B : Nat) (l : Bytes) (ts us : List Tree) (v : Value) (w : World) : Prop := ∃ b a1 n1 c1 g1 a2 n2 c2 g2, v = .slice (some ⟨b, 0, none⟩) 1 1 ∧ Blk w b [str l, .slice a1 n1 c1, .slice a2 n2 c2].toArray 55 ∧
  (OStr w 9 (.slice a1 n1 c1) g1 (ts.map Tree.text) ∧ (∀ b, g1 = some b → B ≤ b) ∧ (ts = [] → g1 = none)) ∧ (OStr w 9 (.slice a2 n2 c2) g2 (us.map Tree.text) ∧ (∀ b, g2 = some b → B ≤ b) ∧ (us = [] → g2 = none))
theorem OneRow.ext {B : Nat} {l : Bytes} {ts us : List Tree} {v : Value} {w w' : World} (h : OneRow B l ts us v w) (k : Keep [] w w') : OneRow B l ts us v w' := by
  obtain ⟨b, a1, n1, c1, g1, a2, n2, c2, g2, e, hb, h1, h2⟩ := h; exact ⟨b, a1, n1, c1, g1, a2, n2, c2, g2, e, hb.ext k, ⟨h1.1.ext k, h1.2⟩, h2.1.ext k, h2.2⟩

theorem isBlkI_z {u : Tree} : ((!(decide ((u.parts.length : Int) = 4) && decide (headOf u = [98, 108, 111, 99, 107])) || decide (headOf (nth u.parts 2) ≠ [114, 101, 103, 115])) || decide (headOf (nth u.parts 3) ≠ [99, 111, 100, 101])) = !isBlkT u := by
  rw [← isBlkT_z rfl, Bool.not_and, ← decide_not, ← decide_not, Bool.or_comm (decide ¬((u.parts.length : Int) = 4))]
theorem IFrom_ret (s : Bytes) (w : World) :
    Ret Tryz.prog 21 [str s] w fun r w' => (∃ a n c, r = .tuple #[.slice a n c, .bool (fromP s).isSome] ∧ OwnProg w.heap.size ((fromP s).getD []) (.slice a n c) w') ∧ Keep [] w w' := by
  have hK := Keep.refl [] w
  refine ret_of [.tmp 2, .tmp 3] 76 Tryz.func21 rfl nm21 rfl rfl ?_
  refine zr <| zA <| zA <| ow_nil <| zr <| zm <| ow_call rfl rfl (read_ret s [] w (by simp)) ?_
  rintro v1 w1 ⟨hv1, hk1⟩
  have hs1 := hk1.size
  have hK := hK.ext hk1
  obtain ⟨t, tv, rfl, ht, hp⟩ := hv1
  obtain ⟨pa, pn, pc, rfl, hpn, hps⟩ := rtree_cases ht
  subst hpn
  refine zm <| zx (i := 0) rfl rfl <| zx (i := 1) rfl rfl <| ow_allocA tI73 rfl rfl rfl ?_
  intro w2 hk2 hb4 hz2
  have hK := hK.grow; have hK := hK.ext hk2; have ht := ht.grow; have ht := ht.ext hk2
  refine ow_storeA tI73 rfl rfl rfl rfl rfl hb4 rfl ?_
  intro w3 hk3 hb4 hz3
  have hK := hK.sto hk3 (by simp <;> omega); have ht := ht.sto hk3 (by simp <;> omega)
  refine zA <| ow_nil <| cw_seq <| zr <| zm <| ow_not rfl rfl rfl <| zm ?_
  apply ow_or 4 16 20 [16, 17, 18, 19, 20] (Keep [] w3) rfl
  intro h1
  replace h1 := tst h1
  have hJ16 := Keep.refl [] w3
  refine zs <| zs <| zs <| zp rfl <| ow_nil ?_
  exact ⟨by repeat (first | with_reducible exact agree_refl | refine agree_upd rfl ?_ | refine agree_hav rfl ?_), rfl, hJ16⟩
  intro h1
  replace h1 := tst h1
  have hJ16 := Keep.refl [] w3
  have hwf := (isSome_wf hp (by simpa using h1)).1
  refine zL tAgg73 tI73 rfl hb4.all rfl <| ow_call rfl rfl (headI_ret t hwf _ _ w3 ht) ?_
  rintro v4 w4 ⟨hv4, hk4⟩
  have hs4 := hk4.size
  have hJ16 := hJ16.ext hk4
  obtain rfl := hv4
  refine ow_sneq rfl rfl rfl rfl <| zp rfl <| ow_nil ?_
  exact ⟨by repeat (first | with_reducible exact agree_refl | refine agree_upd rfl ?_ | refine agree_hav rfl ?_), rfl, hJ16⟩
  intro xx w5 hk5
  have hK := hK.ext hk5; have ht := ht.ext hk5; have hb4 := hb4.ext hk5
  refine ow_nil <| zc rfl (fun h2 => ?_) (fun h2 => ?_)
  have hq := fromP_bad hp h2
  refine zr <| zA <| zA <| ow_nil <| cw_ret ?_
  exact ⟨_, rfl, ⟨_, _, _, by rw [hq]; rfl, by rw [hq]; exact ownProg_nil⟩, hK⟩
  obtain ⟨hpt, hfr, hpos⟩ := fromP_good hp h2
  have hfine := fine_parse hpt
  have hgood := (parse_good hpt).1
  have hpl := parts_le t
  have hsz0 := hfine.size
  have hps0 := rtree_parts ht
  have hs5 := hK.size
  obtain ⟨b0, off0, _, _, _, rfl, _, _, _⟩ := rtrees_get hps0 (nth_get (ps := t.parts) (i := 0) hpos)
  refine cw_skip <| zr <| zA <| ow_nil <| cw_seq <| zr <| zf tF73_1 rfl <| zl tOne61 rfl (hb4.at rfl) <| ow_slice_from (l := 1) tSl61 tI73 rfl rfl rfl rfl (by omega) hps0 ?_
  intro vs1 hvs
  have hvs : RTrees [] w5 vs1 (t.parts.drop 1) := RTrees.weak (by rw [RTrees, encs_drop]; exact hvs) (by simp)
  obtain ⟨a1, c1, rfl⟩ := rtrees_cases hvs
  have hdl : (t.parts.drop 1).length = t.parts.length - 1 := List.length_drop
  have hKs := Keep.refl [] w5
  refine ow_len tSl61 rfl rfl rfl <| zm <| ow_nil <| cw_block ?_
  refine cw_loop (fun q : Nat × Option Addr × Nat × Option Nat × List (Option Nat × Option Nat) × List (List Value) => [(6, .slice q.2.1 (((t.parts.drop 1).take q.1).map bkOf?).length q.2.2.1), (23, .slice a1 (t.parts.drop 1).length c1), (24, .int .i64 ((t.parts.drop 1).length : Int)), (25, .int .i64 (q.1 : Int))]) (fun q w' => Keep [] w w' ∧ Keep [] w5 w' ∧ PBks w5.heap.size w' 55 9 (.slice q.2.1 (((t.parts.drop 1).take q.1).map bkOf?).length q.2.2.1) q.2.2.2.1 q.2.2.2.2.1 q.2.2.2.2.2 (((t.parts.drop 1).take q.1).map bkOf?) ∧ q.1 ≤ (t.parts.drop 1).length) (fun q => (t.parts.drop 1).length - q.1) ((0, none, 0, none, [], [])) (⟨rfl, rfl, rfl, rfl⟩) (⟨hK, hKs, PBks.nil (Nat.le_refl _), by simp⟩) ?_
  intro gg w6 e6 hI
  obtain ⟨i, a3, cc, g, gss, vss⟩ := gg
  dsimp only at hI ⊢
  obtain ⟨hK, hKs, hO, hk⟩ := hI
  have hsz := hK.size
  have hszs := hKs.size
  have hKl := Keep.refl [] w6
  refine zr <| ow_lss rfl rfl rfl rfl rfl <| ow_nil <| cw_seq <| zc rfl (fun h3 => ?_) (fun h3 => ?_)
  have hgd := drop_get (t := t) (k := i) (by omega)
  have hgt := nth_get (ps := t.parts) (i := i + 1) (by omega)
  obtain ⟨b1, off1, qa, qn, qc, rfl, hcc, hqn, hqq⟩ := rtrees_get hvs hgd
  subst hqn
  have hfu := hfine.nth (i := i + 1) hgood (by omega)
  have hgu := hgood.nth (i := i + 1) (by omega)
  refine cw_skip <| cw_seq <| cw_block <| zr <| zi tSl61 tI73 rfl rfl (by omega) <| zL tAgg73 tI73 rfl (hcc.ext hKs) (rfl) <| ow_allocA tI73 rfl rfl rfl ?_
  intro w7 hk7 hb8 hz7
  have hK := hK.grow; have hK := hK.ext hk7; have hKs := hKs.grow; have hKs := hKs.ext hk7; have hKl := hKl.grow; have hKl := hKl.ext hk7
  refine ow_storeA tI73 rfl rfl rfl rfl rfl hb8 rfl ?_
  intro w8 hk8 hb8 hz8
  have hK := hK.sto hk8 (by simp <;> omega); have hKs := hKs.sto hk8 (by simp <;> omega); have hKl := hKl.sto hk8 (by simp <;> omega)
  refine ow_nil <| cw_seq <| zr <| zL tAgg73 tI73 rfl hb8.all rfl <| ow_call rfl rfl (isI_ret (nth t.parts (i + 1)) hfu.wf _ _ _ _ w8 (RTree.ext (rtree_of hqq) hKs)) ?_
  rintro v9 w9 ⟨hv9, hk9⟩
  have hs9 := hk9.size
  have hK := hK.ext hk9; have hKs := hKs.ext hk9; have hKl := hKl.ext hk9; have hb8 := hb8.ext hk9
  obtain rfl := hv9
  refine ow_not rfl rfl rfl <| zm ?_
  apply ow_or 7 32 39 [32, 33, 34, 35, 36, 37, 38, 39] (Keep [] w9) rfl
  intro h4
  replace h4 := tst h4
  have hJ32 := Keep.refl [] w9
  refine zs <| zs <| zs <| zs <| zs <| zs <| zp rfl <| ow_nil ?_
  exact ⟨by repeat (first | with_reducible exact agree_refl | refine agree_upd rfl ?_ | refine agree_hav rfl ?_), rfl, hJ32⟩
  intro h4
  replace h4 := tst h4
  have hJ32 := Keep.refl [] w9
  have h4 : (nth t.parts (i + 1)).parts.length = 4 := by simp at h4; omega
  obtain ⟨b2, off2, q2a, q2n, q2c, rfl, hc2, hq2n, hq2⟩ := rtrees_get hqq (nth_get (ps := (nth t.parts (i + 1)).parts) (i := 2) (by omega))
  refine zf tF73_1 rfl <| zl tOne61 rfl (hb8.at rfl) <| zi (i := 2) tSl61 tI73 rfl rfl (by omega) <| zL tAgg73 tI73 rfl (hc2.ext hKs) (rfl) <| ow_call rfl rfl (headI_ret (nth (nth t.parts (i + 1)).parts 2) (hfu.wf.nth (by omega)) _ _ w9 (RTree.ext (rtree_of hq2) hKs)) ?_
  rintro v10 w10 ⟨hv10, hk10⟩
  have hs10 := hk10.size
  have hJ32 := hJ32.ext hk10
  obtain rfl := hv10
  refine ow_sneq rfl rfl rfl rfl <| zp rfl <| ow_nil ?_
  exact ⟨by repeat (first | with_reducible exact agree_refl | refine agree_upd rfl ?_ | refine agree_hav rfl ?_), rfl, hJ32⟩
  intro xx w11 hk11
  have hK := hK.ext hk11; have hKs := hKs.ext hk11; have hKl := hKl.ext hk11; have hb8 := hb8.ext hk11
  refine zm ?_
  apply ow_or 7 40 47 [40, 41, 42, 43, 44, 45, 46, 47] (Keep [] w11) rfl
  intro h5
  replace h5 := tst h5
  have hJ40 := Keep.refl [] w11
  refine zs <| zs <| zs <| zs <| zs <| zs <| zp rfl <| ow_nil ?_
  exact ⟨by repeat (first | with_reducible exact agree_refl | refine agree_upd rfl ?_ | refine agree_hav rfl ?_), rfl, hJ40⟩
  intro h5
  replace h5 := tst h5
  have hJ40 := Keep.refl [] w11
  have h4 : (nth t.parts (i + 1)).parts.length = 4 := by simp at h5; omega
  obtain ⟨b3, off3, q3a, q3n, q3c, rfl, hc3, hq3n, hq3⟩ := rtrees_get hqq (nth_get (ps := (nth t.parts (i + 1)).parts) (i := 3) (by omega))
  refine zf tF73_1 rfl <| zl tOne61 rfl (hb8.at rfl) <| zi (i := 3) tSl61 tI73 rfl rfl (by omega) <| zL tAgg73 tI73 rfl (hc3.ext hKs) (rfl) <| ow_call rfl rfl (headI_ret (nth (nth t.parts (i + 1)).parts 3) (hfu.wf.nth (by omega)) _ _ w11 (RTree.ext (rtree_of hq3) hKs)) ?_
  rintro v12 w12 ⟨hv12, hk12⟩
  have hs12 := hk12.size
  have hJ40 := hJ40.ext hk12
  obtain rfl := hv12
  refine ow_sneq rfl rfl rfl rfl <| zp rfl <| ow_nil ?_
  exact ⟨by repeat (first | with_reducible exact agree_refl | refine agree_upd rfl ?_ | refine agree_hav rfl ?_), rfl, hJ40⟩
  intro xx w13 hk13
  have hK := hK.ext hk13; have hKs := hKs.ext hk13; have hKl := hKl.ext hk13; have hb8 := hb8.ext hk13
  refine ow_nil <| zc rfl (fun h6 => ?_) (fun h6 => ?_)
  rw [isBlkI_z] at h6
  have hq : fromP s = none := by rw [hfr, if_neg (by rw [from_bad (i := i) (by omega) (by simpa using h6)]; simp)]
  refine zr <| zA <| zA <| ow_nil <| cw_ret ?_
  exact ⟨_, rfl, ⟨_, _, _, by rw [hq]; rfl, by rw [hq]; exact ownProg_nil⟩, hK⟩
  rw [isBlkI_z] at h6
  have hb : isBlkT (nth t.parts (i + 1)) = true := by simpa using h6
  have h4 := isBlkT_len hb
  clear h6
  generalize hu : nth t.parts (i + 1) = u at *
  obtain ⟨b, off, q1a, q1n, q1c, rfl, hc1, hq1n, hq1⟩ := rtrees_get hqq (nth_get (ps := u.parts) (i := 1) (by omega))
  obtain ⟨b2, off2, q2a, q2n, q2c, he2, hc2, hq2n, hq2⟩ := rtrees_get hqq (nth_get (ps := u.parts) (i := 2) (by omega))
  cases he2
  obtain ⟨b3, off3, q3a, q3n, q3c, he3, hc3, hq3n, hq3⟩ := rtrees_get hqq (nth_get (ps := u.parts) (i := 3) (by omega))
  cases he3
  have hd2 : headOf (nth u.parts 2) = [114, 101, 103, 115] := by unfold isBlkT at hb; simp only [Bool.and_eq_true, decide_eq_true_eq] at hb; exact hb.1.2
  have hd3 : headOf (nth u.parts 3) = [99, 111, 100, 101] := by unfold isBlkT at hb; simp only [Bool.and_eq_true, decide_eq_true_eq] at hb; exact hb.2
  have hp2 : 0 < (nth u.parts 2).parts.length := Nat.pos_of_ne_zero fun h => by rw [headOf_no (.inr (List.length_eq_zero_iff.1 h))] at hd2; cases hd2
  have hp3 : 0 < (nth u.parts 3).parts.length := Nat.pos_of_ne_zero fun h => by rw [headOf_no (.inr (List.length_eq_zero_iff.1 h))] at hd3; cases hd3
  obtain ⟨b4, off4, _, _, _, rfl, _, _, _⟩ := rtrees_get hq2 (nth_get (ps := (nth u.parts 2).parts) (i := 0) hp2)
  obtain ⟨b5, off5, _, _, _, rfl, _, _, _⟩ := rtrees_get hq3 (nth_get (ps := (nth u.parts 3).parts) (i := 0) hp3)
  have hS2 := slim_drop (hfu.nth (i := 2) hgu (by omega)) (hgu.nth (i := 2) (by omega)) 1
  have hS3 := slim_drop (hfu.nth (i := 3) hgu (by omega)) (hgu.nth (i := 3) (by omega)) 1
  refine cw_skip ?_
  refine cw_draw tMixed kept_new 22 [48, 49, 50, 51, 52, 53, 54, 55, 56, 57, 58, 59, 60, 61, 62, 63, 64, 65, 66, 67, 68, 69] [48, 49, 50, 51, 52, 53, 54, 55, 56, 57, 58, 59, 60, 61, 62, 63, 64, 65, 66, 67, 68, 69] [[], [], [1], [2], [3], [4], [], [6], [7], [8], [9], [10], [11], [], [13], [14], [15], [16], [17], [18], [5, 12, 19], [20]] [fun v _ => v = (.slice a3 (((t.parts.drop 1).take i).map bkOf?).length cc), fun v _ => v = (.pointer (some ⟨w6.heap.size, 0 + 1, none⟩)), fun v _ => v = (.slice (some ⟨b, off, none⟩) u.parts.length qc), fun v _ => v = (.pointer (some ⟨b, off + 1 * 2, none⟩)), fun v _ => v = (.pointer (some ⟨b, off + 1 * 2 + 0, none⟩)), fun v _ => v = (str (nth u.parts 1).atom), fun v _ => v = (.pointer (some ⟨w6.heap.size, 0 + 1, none⟩)), fun v _ => v = (.slice (some ⟨b, off, none⟩) u.parts.length qc), fun v _ => v = (.pointer (some ⟨b, off + 2 * 2, none⟩)), fun v _ => v = (.pointer (some ⟨b, off + 2 * 2 + 1, none⟩)), fun v _ => v = (.slice (some ⟨b4, off4, none⟩) q2n q2c), fun (v : Value) (ww : World) => RTrees [] ww v ((nth u.parts 2).parts.drop 1), fun (v : Value) (ww : World) => OwnTxt w6.heap.size ((nth u.parts 2).parts.drop 1) v ww, fun v _ => v = (.pointer (some ⟨w6.heap.size, 0 + 1, none⟩)), fun v _ => v = (.slice (some ⟨b, off, none⟩) u.parts.length qc), fun v _ => v = (.pointer (some ⟨b, off + 3 * 2, none⟩)), fun v _ => v = (.pointer (some ⟨b, off + 3 * 2 + 1, none⟩)), fun v _ => v = (.slice (some ⟨b5, off5, none⟩) q3n q3c), fun (v : Value) (ww : World) => RTrees [] ww v ((nth u.parts 3).parts.drop 1), fun (v : Value) (ww : World) => OwnTxt w6.heap.size ((nth u.parts 3).parts.drop 1) v ww, fun (v : Value) (ww : World) => TwoTxt w6.heap.size (nth u.parts 1).atom ((nth u.parts 2).parts.drop 1) ((nth u.parts 3).parts.drop 1) v ww, fun (v : Value) (ww : World) => OneRow w6.heap.size (nth u.parts 1).atom ((nth u.parts 2).parts.drop 1) ((nth u.parts 3).parts.drop 1) v ww] (by decide) (stab_eq (stab_eq (stab_eq (stab_eq (stab_eq (stab_eq (stab_eq (stab_eq (stab_eq (stab_eq (stab_eq (stab_gen (fun v w w' h k => RTrees.ext h k) (stab_gen (fun v w w' h k => OwnTxt.ext h k) (stab_eq (stab_eq (stab_eq (stab_eq (stab_eq (stab_gen (fun v w w' h k => RTrees.ext h k) (stab_gen (fun v w w' h k => OwnTxt.ext h k) (stab_gen (fun v w w' h k => TwoTxt.ext h k) (stab_gen (fun v w w' h k => OneRow.ext h k) trivial)))))))))))))))))))))) (fun wd hkd => ?_) ?_
  refine certs_cons ?_ ?_
  intro x vs w14 e hk14 hd he
  replace hk14 := kept_new.trans hkd hk14
  replace he : e = over (havoc _ x _) [] := he
  subst he
  refine zm <| ow_nil ?_
  exact ⟨kept_new.refl _, rfl, by first | exact agree_put | exact agree_refl⟩
  refine certs_cons ?_ ?_
  intro x vs w14 e hk14 hd he
  replace hk14 := kept_new.trans hkd hk14
  replace he : e = over (havoc _ x _) [] := he
  subst he
  refine zf tF73_1 rfl <| ow_nil ?_
  exact ⟨kept_new.refl _, rfl, by first | exact agree_put | exact agree_refl⟩
  refine certs_cons ?_ ?_
  intro x vs w14 e hk14 hd he
  have d1 : vs 1 = (.pointer (some ⟨w6.heap.size, 0 + 1, none⟩)) := hd
  replace hk14 := kept_new.trans hkd hk14
  have hb8 := hb8.ext hk14
  replace he : e = over (havoc _ x _) [(49, vs 1)] := he
  rw [d1] at he
  subst he
  refine zl tOne61 rfl (hb8.at rfl) <| ow_nil ?_
  exact ⟨kept_new.refl _, rfl, by first | exact agree_put | exact agree_refl⟩
  refine certs_cons ?_ ?_
  intro x vs w14 e hk14 hd he
  have d2 : vs 2 = (.slice (some ⟨b, off, none⟩) u.parts.length qc) := hd
  replace hk14 := kept_new.trans hkd hk14
  replace he : e = over (havoc _ x _) [(50, vs 2)] := he
  rw [d2] at he
  subst he
  refine zi (i := 1) tSl61 tI73 rfl rfl (by omega) <| ow_nil ?_
  exact ⟨kept_new.refl _, rfl, by first | exact agree_put | exact agree_refl⟩
  refine certs_cons ?_ ?_
  intro x vs w14 e hk14 hd he
  have d3 : vs 3 = (.pointer (some ⟨b, off + 1 * 2, none⟩)) := hd
  replace hk14 := kept_new.trans hkd hk14
  replace he : e = over (havoc _ x _) [(51, vs 3)] := he
  rw [d3] at he
  subst he
  refine zf tF73_0 rfl <| ow_nil ?_
  exact ⟨kept_new.refl _, rfl, by first | exact agree_put | exact agree_refl⟩
  refine certs_cons ?_ ?_
  intro x vs w14 e hk14 hd he
  have d4 : vs 4 = (.pointer (some ⟨b, off + 1 * 2 + 0, none⟩)) := hd
  replace hk14 := kept_new.trans hkd hk14
  have hKs := hKs.ext hk14
  replace he : e = over (havoc _ x _) [(52, vs 4)] := he
  rw [d4] at he
  subst he
  refine zl tOne9 rfl (hc1.ext hKs 0 _ rfl) <| ow_nil ?_
  exact ⟨kept_new.refl _, rfl, by first | exact agree_put | exact agree_refl⟩
  refine certs_cons ?_ ?_
  intro x vs w14 e hk14 hd he
  replace hk14 := kept_new.trans hkd hk14
  replace he : e = over (havoc _ x _) [] := he
  subst he
  refine zf tF73_1 rfl <| ow_nil ?_
  exact ⟨kept_new.refl _, rfl, by first | exact agree_put | exact agree_refl⟩
  refine certs_cons ?_ ?_
  intro x vs w14 e hk14 hd he
  have d6 : vs 6 = (.pointer (some ⟨w6.heap.size, 0 + 1, none⟩)) := hd
  replace hk14 := kept_new.trans hkd hk14
  have hb8 := hb8.ext hk14
  replace he : e = over (havoc _ x _) [(54, vs 6)] := he
  rw [d6] at he
  subst he
  refine zl tOne61 rfl (hb8.at rfl) <| ow_nil ?_
  exact ⟨kept_new.refl _, rfl, by first | exact agree_put | exact agree_refl⟩
  refine certs_cons ?_ ?_
  intro x vs w14 e hk14 hd he
  have d7 : vs 7 = (.slice (some ⟨b, off, none⟩) u.parts.length qc) := hd
  replace hk14 := kept_new.trans hkd hk14
  replace he : e = over (havoc _ x _) [(55, vs 7)] := he
  rw [d7] at he
  subst he
  refine zi (i := 2) tSl61 tI73 rfl rfl (by omega) <| ow_nil ?_
  exact ⟨kept_new.refl _, rfl, by first | exact agree_put | exact agree_refl⟩
  refine certs_cons ?_ ?_
  intro x vs w14 e hk14 hd he
  have d8 : vs 8 = (.pointer (some ⟨b, off + 2 * 2, none⟩)) := hd
  replace hk14 := kept_new.trans hkd hk14
  replace he : e = over (havoc _ x _) [(56, vs 8)] := he
  rw [d8] at he
  subst he
  refine zf tF73_1 rfl <| ow_nil ?_
  exact ⟨kept_new.refl _, rfl, by first | exact agree_put | exact agree_refl⟩
  refine certs_cons ?_ ?_
  intro x vs w14 e hk14 hd he
  have d9 : vs 9 = (.pointer (some ⟨b, off + 2 * 2 + 1, none⟩)) := hd
  replace hk14 := kept_new.trans hkd hk14
  have hKs := hKs.ext hk14
  replace he : e = over (havoc _ x _) [(57, vs 9)] := he
  rw [d9] at he
  subst he
  refine zl tOne61 rfl (hc2.ext hKs 1 _ rfl) <| ow_nil ?_
  exact ⟨kept_new.refl _, rfl, by first | exact agree_put | exact agree_refl⟩
  refine certs_cons ?_ ?_
  intro x vs w14 e hk14 hd he
  have d10 : vs 10 = (.slice (some ⟨b4, off4, none⟩) q2n q2c) := hd
  replace hk14 := kept_new.trans hkd hk14
  have hKs := hKs.ext hk14
  replace he : e = over (havoc _ x _) [(58, vs 10)] := he
  rw [d10] at he
  subst he
  refine ow_slice_from (l := 1) tSl61 tI73 rfl rfl rfl rfl (by omega) (RTrees.ext hq2 hKs) ?_
  intro vs1 hvs
  refine ow_nil ?_
  exact ⟨kept_new.refl _, (show RTrees [] _ vs1 _ from by rw [RTrees, encs_drop]; exact hvs), by first | exact agree_put | exact agree_refl⟩
  refine certs_cons ?_ ?_
  intro x vs w14 e hk14 hd he
  have d11 : (fun (v : Value) (ww : World) => RTrees [] ww v ((nth u.parts 2).parts.drop 1)) (vs 11) w14 := hd
  replace hk14 := kept_new.trans hkd hk14
  have hKl := hKl.ext hk14
  replace he : e = over (havoc _ x _) [(59, vs 11)] := he
  subst he
  have hbase := hKl.size
  refine ow_call rfl rfl (texts_ret _ hS2 _ _ w14 d11) ?_
  rintro v15 w15 ⟨hv15, hk15⟩
  have hs15 := hk15.size
  obtain ⟨a7, n7, c7, g7, rfl, hn7, hs7, hg7, hz7⟩ := hv15
  refine ow_nil ?_
  exact ⟨kept_new.of hk15, ⟨a7, n7, c7, g7, rfl, hs7, fun b hb => Nat.le_trans hbase (hg7 b hb), hz7⟩, by first | exact agree_put | exact agree_refl⟩
  refine certs_cons ?_ ?_
  intro x vs w14 e hk14 hd he
  replace hk14 := kept_new.trans hkd hk14
  replace he : e = over (havoc _ x _) [] := he
  subst he
  refine zf tF73_1 rfl <| ow_nil ?_
  exact ⟨kept_new.refl _, rfl, by first | exact agree_put | exact agree_refl⟩
  refine certs_cons ?_ ?_
  intro x vs w14 e hk14 hd he
  have d13 : vs 13 = (.pointer (some ⟨w6.heap.size, 0 + 1, none⟩)) := hd
  replace hk14 := kept_new.trans hkd hk14
  have hb8 := hb8.ext hk14
  replace he : e = over (havoc _ x _) [(61, vs 13)] := he
  rw [d13] at he
  subst he
  refine zl tOne61 rfl (hb8.at rfl) <| ow_nil ?_
  exact ⟨kept_new.refl _, rfl, by first | exact agree_put | exact agree_refl⟩
  refine certs_cons ?_ ?_
  intro x vs w14 e hk14 hd he
  have d14 : vs 14 = (.slice (some ⟨b, off, none⟩) u.parts.length qc) := hd
  replace hk14 := kept_new.trans hkd hk14
  replace he : e = over (havoc _ x _) [(62, vs 14)] := he
  rw [d14] at he
  subst he
  refine zi (i := 3) tSl61 tI73 rfl rfl (by omega) <| ow_nil ?_
  exact ⟨kept_new.refl _, rfl, by first | exact agree_put | exact agree_refl⟩
  refine certs_cons ?_ ?_
  intro x vs w14 e hk14 hd he
  have d15 : vs 15 = (.pointer (some ⟨b, off + 3 * 2, none⟩)) := hd
  replace hk14 := kept_new.trans hkd hk14
  replace he : e = over (havoc _ x _) [(63, vs 15)] := he
  rw [d15] at he
  subst he
  refine zf tF73_1 rfl <| ow_nil ?_
  exact ⟨kept_new.refl _, rfl, by first | exact agree_put | exact agree_refl⟩
  refine certs_cons ?_ ?_
  intro x vs w14 e hk14 hd he
  have d16 : vs 16 = (.pointer (some ⟨b, off + 3 * 2 + 1, none⟩)) := hd
  replace hk14 := kept_new.trans hkd hk14
  have hKs := hKs.ext hk14
  replace he : e = over (havoc _ x _) [(64, vs 16)] := he
  rw [d16] at he
  subst he
  refine zl tOne61 rfl (hc3.ext hKs 1 _ rfl) <| ow_nil ?_
  exact ⟨kept_new.refl _, rfl, by first | exact agree_put | exact agree_refl⟩
  refine certs_cons ?_ ?_
  intro x vs w14 e hk14 hd he
  have d17 : vs 17 = (.slice (some ⟨b5, off5, none⟩) q3n q3c) := hd
  replace hk14 := kept_new.trans hkd hk14
  have hKs := hKs.ext hk14
  replace he : e = over (havoc _ x _) [(65, vs 17)] := he
  rw [d17] at he
  subst he
  refine ow_slice_from (l := 1) tSl61 tI73 rfl rfl rfl rfl (by omega) (RTrees.ext hq3 hKs) ?_
  intro vs1 hvs
  refine ow_nil ?_
  exact ⟨kept_new.refl _, (show RTrees [] _ vs1 _ from by rw [RTrees, encs_drop]; exact hvs), by first | exact agree_put | exact agree_refl⟩
  refine certs_cons ?_ ?_
  intro x vs w14 e hk14 hd he
  have d18 : (fun (v : Value) (ww : World) => RTrees [] ww v ((nth u.parts 3).parts.drop 1)) (vs 18) w14 := hd
  replace hk14 := kept_new.trans hkd hk14
  have hKl := hKl.ext hk14
  replace he : e = over (havoc _ x _) [(66, vs 18)] := he
  subst he
  have hbase := hKl.size
  refine ow_call rfl rfl (texts_ret _ hS3 _ _ w14 d18) ?_
  rintro v15 w15 ⟨hv15, hk15⟩
  have hs15 := hk15.size
  obtain ⟨a7, n7, c7, g7, rfl, hn7, hs7, hg7, hz7⟩ := hv15
  refine ow_nil ?_
  exact ⟨kept_new.of hk15, ⟨a7, n7, c7, g7, rfl, hs7, fun b hb => Nat.le_trans hbase (hg7 b hb), hz7⟩, by first | exact agree_put | exact agree_refl⟩
  refine certs_cons ?_ ?_
  intro x vs w14 e hk14 hd he
  obtain ⟨d5, d12, d19⟩ : (vs 5 = (str (nth u.parts 1).atom)) ∧ ((fun (v : Value) (ww : World) => OwnTxt w6.heap.size ((nth u.parts 2).parts.drop 1) v ww) (vs 12) w14) ∧ ((fun (v : Value) (ww : World) => OwnTxt w6.heap.size ((nth u.parts 3).parts.drop 1) v ww) (vs 19) w14) := hd
  replace hk14 := kept_new.trans hkd hk14
  replace he : e = over (havoc _ x _) [(53, vs 5), (60, vs 12), (67, vs 19)] := he
  rw [d5] at he
  obtain ⟨a7, n7, c7, g7, e7, h7⟩ := d12
  obtain ⟨a8, n8, c8, g8, e8, h8⟩ := d19
  rw [e7, e8] at he
  subst he
  refine ow_build (tB55_0_1_2 _ _ _ _ _ _ _ _) rfl rfl <| ow_nil ?_
  exact ⟨kept_new.refl _, ⟨a7, n7, c7, g7, a8, n8, c8, g8, rfl, h7, h8⟩, by first | exact agree_put | exact agree_refl⟩
  refine certs_cons ?_ ?_
  intro x vs w14 e hk14 hd he
  have d20 : (fun (v : Value) (ww : World) => TwoTxt w6.heap.size (nth u.parts 1).atom ((nth u.parts 2).parts.drop 1) ((nth u.parts 3).parts.drop 1) v ww) (vs 20) w14 := hd
  replace hk14 := kept_new.trans hkd hk14
  replace he : e = over (havoc _ x _) [(68, vs 20)] := he
  obtain ⟨a7, n7, c7, g7, a8, n8, c8, g8, e7, h7, h8⟩ := d20
  rw [e7] at he
  subst he
  refine ow_buildSlice1 tSl25 tI55 rfl rfl rfl rfl rfl rfl rfl rfl ?_
  intro w15 hk15 hb69 hz15
  refine ow_nil ?_
  exact ⟨kept_new.of hk15, ⟨_, a7, n7, c7, g7, a8, n8, c8, g8, rfl, hb69, ⟨h7.1.ext hk15, h7.2⟩, ⟨h8.1.ext hk15, h8.2⟩⟩, by first | exact agree_put | exact agree_refl⟩
  exact trivial
  intro x vs w53 hk53 hdraw
  have d0 : vs 0 = (.slice a3 (((t.parts.drop 1).take i).map bkOf?).length cc) := hdraw 0 (by decide)
  have d1 : vs 1 = (.pointer (some ⟨w6.heap.size, 0 + 1, none⟩)) := hdraw 1 (by decide)
  have d2 : vs 2 = (.slice (some ⟨b, off, none⟩) u.parts.length qc) := hdraw 2 (by decide)
  have d3 : vs 3 = (.pointer (some ⟨b, off + 1 * 2, none⟩)) := hdraw 3 (by decide)
  have d4 : vs 4 = (.pointer (some ⟨b, off + 1 * 2 + 0, none⟩)) := hdraw 4 (by decide)
  have d5 : vs 5 = (str (nth u.parts 1).atom) := hdraw 5 (by decide)
  have d6 : vs 6 = (.pointer (some ⟨w6.heap.size, 0 + 1, none⟩)) := hdraw 6 (by decide)
  have d7 : vs 7 = (.slice (some ⟨b, off, none⟩) u.parts.length qc) := hdraw 7 (by decide)
  have d8 : vs 8 = (.pointer (some ⟨b, off + 2 * 2, none⟩)) := hdraw 8 (by decide)
  have d9 : vs 9 = (.pointer (some ⟨b, off + 2 * 2 + 1, none⟩)) := hdraw 9 (by decide)
  have d10 : vs 10 = (.slice (some ⟨b4, off4, none⟩) q2n q2c) := hdraw 10 (by decide)
  have d11 : (fun (v : Value) (ww : World) => RTrees [] ww v ((nth u.parts 2).parts.drop 1)) (vs 11) w53 := hdraw 11 (by decide)
  have d12 : (fun (v : Value) (ww : World) => OwnTxt w6.heap.size ((nth u.parts 2).parts.drop 1) v ww) (vs 12) w53 := hdraw 12 (by decide)
  have d13 : vs 13 = (.pointer (some ⟨w6.heap.size, 0 + 1, none⟩)) := hdraw 13 (by decide)
  have d14 : vs 14 = (.slice (some ⟨b, off, none⟩) u.parts.length qc) := hdraw 14 (by decide)
  have d15 : vs 15 = (.pointer (some ⟨b, off + 3 * 2, none⟩)) := hdraw 15 (by decide)
  have d16 : vs 16 = (.pointer (some ⟨b, off + 3 * 2 + 1, none⟩)) := hdraw 16 (by decide)
  have d17 : vs 17 = (.slice (some ⟨b5, off5, none⟩) q3n q3c) := hdraw 17 (by decide)
  have d18 : (fun (v : Value) (ww : World) => RTrees [] ww v ((nth u.parts 3).parts.drop 1)) (vs 18) w53 := hdraw 18 (by decide)
  have d19 : (fun (v : Value) (ww : World) => OwnTxt w6.heap.size ((nth u.parts 3).parts.drop 1) v ww) (vs 19) w53 := hdraw 19 (by decide)
  have d20 : (fun (v : Value) (ww : World) => TwoTxt w6.heap.size (nth u.parts 1).atom ((nth u.parts 2).parts.drop 1) ((nth u.parts 3).parts.drop 1) v ww) (vs 20) w53 := hdraw 20 (by decide)
  have d21 : (fun (v : Value) (ww : World) => OneRow w6.heap.size (nth u.parts 1).atom ((nth u.parts 2).parts.drop 1) ((nth u.parts 3).parts.drop 1) v ww) (vs 21) w53 := hdraw 21 (by decide)
  have hK := hK.ext hk53; have hKs := hKs.ext hk53; have hKl := hKl.ext hk53
  change OW _ _ _ _ _ (over (havoc _ x _) [(48, vs 0), (49, vs 1), (50, vs 2), (51, vs 3), (52, vs 4), (53, vs 5), (54, vs 6), (55, vs 7), (56, vs 8), (57, vs 9), (58, vs 10), (59, vs 11), (60, vs 12), (61, vs 13), (62, vs 14), (63, vs 15), (64, vs 16), (65, vs 17), (66, vs 18), (67, vs 19), (68, vs 20), (69, vs 21)]) _
  rw [d0, d1, d2, d3, d4, d5, d6, d7, d8, d9, d10, d13, d14, d15, d16, d17]
  obtain ⟨nb, a7, n7, c7, g7, a8, n8, c8, g8, e7, hbn, h7, h8⟩ := d21
  rw [e7]
  refine ow_growP (f := bkOf u) (gs := (g7, g8)) tSl25 tI55 rfl rfl rfl rfl rfl rfl (hO.ext hKl) hbn h7.1 h8.1 ?_ ⟨fun h => h7.2.2 (List.map_eq_nil_iff.1 h), fun h => h8.2.2 (List.map_eq_nil_iff.1 h)⟩ (by rw [map_take_len _ hk]; omega) ?_
  intro x hx; have hxb : w6.heap.size ≤ x := by { simp only [twoL, List.mem_append] at hx; rcases hx with hx | hx; exact h7.2.1 x (by simpa using hx); exact h8.2.1 x (by simpa using hx) }; refine ⟨by omega, fun hx2 => ?_⟩; rcases List.mem_append.1 hx2 with h | h; have := hO.own.lt x (by simpa using h); omega; have := hO.lt x h; omega
  intro a4 cc4 g4 w54 hO3 hk54
  have hlow : ∀ b, g = some b → w5.heap.size ≤ b := fun b hb => hO.low b (by simp [hb])
  have hK := Keep.older (by omega) hlow hK hk54
  have hKs := Keep.older (Nat.le_refl _) hlow hKs hk54
  rw [← bkOf?_yes hb, map_take_snoc bkOf? hgd] at hO3 ⊢
  refine zA <| ow_nil <| cw_region <| ow_add rfl rfl rfl rfl rfl (wrap_i64 _ (by omega) (by omega)) <| zm <| ow_nil ?_
  exact ⟨(i + 1, a4, cc4, g4, _, _), ⟨rfl, rfl, rfl, rfl⟩, ⟨hK, hKs, hO3, by dsimp only; omega⟩, by dsimp only; omega⟩
  have hall : ((t.parts.drop 1).take i).map bkOf? = fromT t := map_take_all bkOf? (by omega)
  rw [hall] at hO ⊢
  refine cw_exit <| x_hit rfl <| cw_seq <| zr <| zm <| ow_call rfl rfl (ProgramValidI_ret (fromT t) (smalls_from hfine hgood) _ _ w6 hO.rep) ?_
  rintro v7 w7 ⟨hv7, hk7⟩
  have hs7 := hk7.size
  have hK := hK.ext hk7; have hKl := hKl.ext hk7
  obtain rfl := hv7
  rw [progI_from hfine hgood]
  refine ow_not rfl rfl rfl <| ow_nil <| zc rfl (fun h7 => ?_) (fun h7 => ?_)
  have hq : fromP s = none := by rw [hfr, if_neg (by simpa using h7)]
  refine zr <| zA <| zA <| ow_nil <| cw_ret ?_
  exact ⟨_, rfl, ⟨_, _, _, by rw [hq]; rfl, by rw [hq]; exact ownProg_nil⟩, hK⟩
  have hpb : progB (fromT t) = true := by simpa using h7
  have hq : fromP s = some (fromT t) := by rw [hfr, if_pos hpb]
  refine cw_skip <| zr <| zm <| zA <| zA <| ow_nil <| cw_ret ?_
  exact ⟨_, rfl, ⟨_, _, _, by rw [hq]; rfl, by rw [hq]; exact ⟨g, gss, vss, (hO.ext hKl).full hpb, fun x hx => Nat.le_trans (by omega) (hO.low x hx)⟩⟩, hK⟩
end Go.Proofs.YtnkjgoholocliaaGreatDoor

namespace Go.Proofs.YtnkjgoholocliaaGreatDoor
open Go

theorem eqStr_ret (xs : List Bytes) (hx : xs.length < 1000000000000) (va vb : Value) (La Lb : List Nat) (w : World) (ha : RStrs La w va xs) (hb : RStrs Lb w vb xs) : Ret Tryz.prog 28 [va, vb] w fun r w' => r = .bool true ∧ Keep [] w w' := by
  obtain ⟨a1, n1, c1, rfl, hn1⟩ := rstrs_cases ha
  obtain ⟨a2, n2, c2, rfl, hn2⟩ := rstrs_cases hb
  subst hn1 hn2
  have hK := Keep.refl [] w
  refine ret_of [.tmp 4] 26 Tryz.func28 rfl nm28 rfl rfl ?_
  refine zr <| zA <| ow_nil <| cw_seq <| zr <| zm <| ow_len tSl35 rfl rfl rfl <| zm <| ow_len tSl35 rfl rfl rfl <| ow_neq rfl rfl rfl rfl rfl <| ow_nil <| zc rfl (fun h1 => ?_) (fun h1 => ?_)
  exact absurd rfl h1
  skip
  refine cw_skip <| cw_seq <| zr <| zA <| ow_nil <| cw_block ?_
  refine cw_loop (fun k : Nat => [(0, .slice a1 xs.length c1), (1, .slice a2 xs.length c2), (5, .int .i64 (k : Int))]) (fun k w' => Keep [] w w' ∧ k ≤ xs.length) (fun k => xs.length - k) (0) (⟨rfl, rfl, rfl⟩) (⟨hK, by omega⟩) ?_
  intro gg w1 e1 hI
  obtain ⟨hK, hk⟩ := hI
  refine cw_seq <| zr <| zm <| zm <| ow_len tSl35 rfl rfl rfl <| ow_lss rfl rfl rfl rfl rfl <| ow_nil <| zc rfl (fun h2 => ?_) (fun h2 => ?_)
  have hg := sth_get (xs := xs) (i := gg) (by omega)
  obtain ⟨b1, off1, rfl, hc1⟩ := rstrs_get ha hg
  obtain ⟨b2, off2, rfl, hc2⟩ := rstrs_get hb hg
  refine cw_skip <| cw_seq <| cw_block <| cw_seq ?_
  refine cw_draw tMixed kept_new 9 [17, 18, 19, 20, 21, 22, 23, 24, 25] [17, 18, 19, 20, 21, 22, 23, 24, 25] [[], [], [0, 1], [2], [], [], [4, 5], [6], [3, 7]] [fun v _ => v = (.slice (some ⟨b1, off1, none⟩) xs.length c1), fun v _ => v = (.int .i64 (gg : Int)), fun v _ => v = (.pointer (some ⟨b1, off1 + gg * 1, none⟩)), fun v _ => v = (str (sth xs gg)), fun v _ => v = (.slice (some ⟨b2, off2, none⟩) xs.length c2), fun v _ => v = (.int .i64 (gg : Int)), fun v _ => v = (.pointer (some ⟨b2, off2 + gg * 1, none⟩)), fun v _ => v = (str (sth xs gg)), fun v _ => v = (.bool (decide (sth xs gg ≠ sth xs gg)))] (by decide) (stab_eq (stab_eq (stab_eq (stab_eq (stab_eq (stab_eq (stab_eq (stab_eq (stab_eq trivial))))))))) (fun wd hkd => ?_) ?_
  refine certs_cons ?_ ?_
  intro x vs w2 e hk2 hd he
  replace hk2 := kept_new.trans hkd hk2
  replace he : e = over (havoc _ x _) [] := he
  subst he
  refine zm <| ow_nil ?_
  exact ⟨kept_new.refl _, rfl, by first | exact agree_put | exact agree_refl⟩
  refine certs_cons ?_ ?_
  intro x vs w2 e hk2 hd he
  replace hk2 := kept_new.trans hkd hk2
  replace he : e = over (havoc _ x _) [] := he
  subst he
  refine zm <| ow_nil ?_
  exact ⟨kept_new.refl _, rfl, by first | exact agree_put | exact agree_refl⟩
  refine certs_cons ?_ ?_
  intro x vs w2 e hk2 hd he
  obtain ⟨d0, d1⟩ : (vs 0 = (.slice (some ⟨b1, off1, none⟩) xs.length c1)) ∧ (vs 1 = (.int .i64 (gg : Int))) := hd
  replace hk2 := kept_new.trans hkd hk2
  replace he : e = over (havoc _ x _) [(17, vs 0), (18, vs 1)] := he
  rw [d0, d1] at he
  subst he
  refine zi tSl35 tI9 rfl rfl (by omega) <| ow_nil ?_
  exact ⟨kept_new.refl _, rfl, by first | exact agree_put | exact agree_refl⟩
  refine certs_cons ?_ ?_
  intro x vs w2 e hk2 hd he
  have d2 : vs 2 = (.pointer (some ⟨b1, off1 + gg * 1, none⟩)) := hd
  replace hk2 := kept_new.trans hkd hk2
  have hK := hK.ext hk2
  replace he : e = over (havoc _ x _) [(19, vs 2)] := he
  rw [d2] at he
  subst he
  refine zl tOne9 rfl (hc1.ext hK 0 _ rfl) <| ow_nil ?_
  exact ⟨kept_new.refl _, rfl, by first | exact agree_put | exact agree_refl⟩
  refine certs_cons ?_ ?_
  intro x vs w2 e hk2 hd he
  replace hk2 := kept_new.trans hkd hk2
  replace he : e = over (havoc _ x _) [] := he
  subst he
  refine zm <| ow_nil ?_
  exact ⟨kept_new.refl _, rfl, by first | exact agree_put | exact agree_refl⟩
  refine certs_cons ?_ ?_
  intro x vs w2 e hk2 hd he
  replace hk2 := kept_new.trans hkd hk2
  replace he : e = over (havoc _ x _) [] := he
  subst he
  refine zm <| ow_nil ?_
  exact ⟨kept_new.refl _, rfl, by first | exact agree_put | exact agree_refl⟩
  refine certs_cons ?_ ?_
  intro x vs w2 e hk2 hd he
  obtain ⟨d4, d5⟩ : (vs 4 = (.slice (some ⟨b2, off2, none⟩) xs.length c2)) ∧ (vs 5 = (.int .i64 (gg : Int))) := hd
  replace hk2 := kept_new.trans hkd hk2
  replace he : e = over (havoc _ x _) [(21, vs 4), (22, vs 5)] := he
  rw [d4, d5] at he
  subst he
  refine zi tSl35 tI9 rfl rfl (by omega) <| ow_nil ?_
  exact ⟨kept_new.refl _, rfl, by first | exact agree_put | exact agree_refl⟩
  refine certs_cons ?_ ?_
  intro x vs w2 e hk2 hd he
  have d6 : vs 6 = (.pointer (some ⟨b2, off2 + gg * 1, none⟩)) := hd
  replace hk2 := kept_new.trans hkd hk2
  have hK := hK.ext hk2
  replace he : e = over (havoc _ x _) [(23, vs 6)] := he
  rw [d6] at he
  subst he
  refine zl tOne9 rfl (hc2.ext hK 0 _ rfl) <| ow_nil ?_
  exact ⟨kept_new.refl _, rfl, by first | exact agree_put | exact agree_refl⟩
  refine certs_cons ?_ ?_
  intro x vs w2 e hk2 hd he
  obtain ⟨d3, d7⟩ : (vs 3 = (str (sth xs gg))) ∧ (vs 7 = (str (sth xs gg))) := hd
  replace hk2 := kept_new.trans hkd hk2
  replace he : e = over (havoc _ x _) [(20, vs 3), (24, vs 7)] := he
  rw [d3, d7] at he
  subst he
  refine ow_sneq rfl rfl rfl rfl <| ow_nil ?_
  exact ⟨kept_new.refl _, rfl, by first | exact agree_put | exact agree_refl⟩
  exact trivial
  intro x vs w41 hk41 hdraw
  have d0 : vs 0 = (.slice (some ⟨b1, off1, none⟩) xs.length c1) := hdraw 0 (by decide)
  have d1 : vs 1 = (.int .i64 (gg : Int)) := hdraw 1 (by decide)
  have d2 : vs 2 = (.pointer (some ⟨b1, off1 + gg * 1, none⟩)) := hdraw 2 (by decide)
  have d3 : vs 3 = (str (sth xs gg)) := hdraw 3 (by decide)
  have d4 : vs 4 = (.slice (some ⟨b2, off2, none⟩) xs.length c2) := hdraw 4 (by decide)
  have d5 : vs 5 = (.int .i64 (gg : Int)) := hdraw 5 (by decide)
  have d6 : vs 6 = (.pointer (some ⟨b2, off2 + gg * 1, none⟩)) := hdraw 6 (by decide)
  have d7 : vs 7 = (str (sth xs gg)) := hdraw 7 (by decide)
  have d8 : vs 8 = (.bool (decide (sth xs gg ≠ sth xs gg))) := hdraw 8 (by decide)
  have hK := hK.ext hk41
  change OW _ _ _ _ [] (over (havoc _ x _) [(17, vs 0), (18, vs 1), (19, vs 2), (20, vs 3), (21, vs 4), (22, vs 5), (23, vs 6), (24, vs 7), (25, vs 8)]) _
  rw [d0, d1, d2, d3, d4, d5, d6, d7, d8]
  refine ow_nil <| zc rfl (fun h3 => ?_) (fun h3 => ?_)
  exact absurd rfl h3
  skip
  refine cw_skip <| cw_region <| zm <| ow_add rfl rfl rfl rfl rfl (wrap_i64 _ (by omega) (by omega)) <| zA <| ow_nil ?_
  exact ⟨gg + 1, ⟨rfl, rfl, rfl⟩, ⟨hK, by omega⟩, by omega⟩
  skip
  refine cw_exit <| x_hit rfl <| zr <| zA <| ow_nil <| cw_ret ?_
  exact ⟨_, rfl, rfl, hK⟩

theorem eqBlock_ret (k : Bk) (hs : k.small) (va vb : Value) (La Lb : List Nat) (w : World) (ha : RBk La w va k) (hb : RBk Lb w vb k) : Ret Tryz.prog 54 [va, vb] w fun r w' => r = .bool true ∧ Keep [] w w' := by
  obtain ⟨a1, n1, c1, a2, n2, c2, rfl, he1, he2, hs1, hs2⟩ := rbk_cases ha
  obtain ⟨a3, n3, c3, a4, n4, c4, rfl, he3, he4, hs3, hs4⟩ := rbk_cases hb
  have hK := Keep.refl [] w
  have hsm := hs.2.1
  have hsm2 := hs.2.2
  refine ret_of [.tmp 4] 22 Tryz.func54 rfl nm54 rfl rfl ?_
  refine zr <| ow_boxA rfl rfl rfl ?_
  intro w1 hk1 hb2 hz1
  have hK := hK.ext hk1
  refine ow_boxA rfl rfl rfl ?_
  intro w2 hk2 hb3 hz2
  have hK := hK.ext hk2; have hb2 := hb2.ext hk2
  refine zA <| ow_nil <| cw_seq <| zr <| zf tF55_0 rfl <| zl tOne9 rfl (hb2.at rfl) <| zf tF55_0 rfl <| zl tOne9 rfl (hb3.at rfl) <| ow_sneq rfl rfl rfl rfl <| ow_nil <| zc rfl (fun h1 => ?_) (fun h1 => ?_)
  exact absurd rfl h1
  skip
  refine cw_skip <| cw_seq <| zr <| zf tF55_1 rfl <| zl tOne35 rfl (hb2.at rfl) <| zf tF55_1 rfl <| zl tOne35 rfl (hb3.at rfl) <| ow_call rfl rfl (eqStr_ret k.needs (by omega) _ _ La Lb w2 (hs1.ext hK) (hs3.ext hK)) ?_
  rintro v3 w3 ⟨hv3, hk3⟩
  have hs3 := hk3.size
  have hK := hK.ext hk3; have hb2 := hb2.ext hk3; have hb3 := hb3.ext hk3
  obtain rfl := hv3
  refine ow_not rfl rfl rfl <| ow_nil <| zc rfl (fun h2 => ?_) (fun h2 => ?_)
  cases h2
  skip
  refine cw_skip <| cw_seq <| zr <| zf tF55_2 rfl <| zl tOne35 rfl (hb2.at rfl) <| zf tF55_2 rfl <| zl tOne35 rfl (hb3.at rfl) <| ow_call rfl rfl (eqStr_ret k.code (by omega) _ _ La Lb w3 (hs2.ext hK) (hs4.ext hK)) ?_
  rintro v4 w4 ⟨hv4, hk4⟩
  have hs4 := hk4.size
  have hK := hK.ext hk4
  obtain rfl := hv4
  refine ow_not rfl rfl rfl <| ow_nil <| zc rfl (fun h3 => ?_) (fun h3 => ?_)
  cases h3
  skip
  refine cw_skip <| zr <| zA <| ow_nil <| cw_ret ?_
  exact ⟨_, rfl, rfl, hK⟩

theorem eqBlockS_ret (bs : List Bk) (hs : Smalls bs) (va vb : Value) (La Lb : List Nat) (w : World) (ha : RBks La w va bs) (hb : RBks Lb w vb bs) : Ret Tryz.prog 19 [va, vb] w fun r w' => r = .bool true ∧ Keep [] w w' := by
  obtain ⟨a1, n1, c1, rfl, hn1⟩ := rbks_cases ha
  obtain ⟨a2, n2, c2, rfl, hn2⟩ := rbks_cases hb
  subst hn1 hn2
  have hK := Keep.refl [] w
  have hsl := hs.1
  refine ret_of [.tmp 4] 27 Tryz.func19 rfl nm19 rfl rfl ?_
  refine zr <| zA <| ow_nil <| cw_seq <| zr <| zm <| ow_len tSl25 rfl rfl rfl <| zm <| ow_len tSl25 rfl rfl rfl <| ow_neq rfl rfl rfl rfl rfl <| ow_nil <| zc rfl (fun h1 => ?_) (fun h1 => ?_)
  exact absurd rfl h1
  skip
  refine cw_skip <| cw_seq <| zr <| zA <| ow_nil <| cw_block ?_
  refine cw_loop (fun k : Nat => [(0, .slice a1 bs.length c1), (1, .slice a2 bs.length c2), (5, .int .i64 (k : Int))]) (fun k w' => Keep [] w w' ∧ k ≤ bs.length) (fun k => bs.length - k) (0) (⟨rfl, rfl, rfl⟩) (⟨hK, by omega⟩) ?_
  intro gg w1 e1 hI
  obtain ⟨hK, hk⟩ := hI
  refine cw_seq <| zr <| zm <| zm <| ow_len tSl25 rfl rfl rfl <| ow_lss rfl rfl rfl rfl rfl <| ow_nil <| zc rfl (fun h2 => ?_) (fun h2 => ?_)
  have hg := bth_get (bs := bs) (i := gg) (by omega)
  obtain ⟨b1, off1, r1, rn1, rc1, r2, rn2, rc2, rfl, hc1, _, _, hs1, hs2⟩ := rbks_get ha hg
  obtain ⟨b2, off2, r3, rn3, rc3, r4, rn4, rc4, rfl, hc2, _, _, hs3, hs4⟩ := rbks_get hb hg
  refine cw_skip <| cw_seq <| cw_block <| cw_seq ?_
  refine cw_draw tMixed kept_new 10 [17, 18, 19, 20, 21, 22, 23, 24, 25, 26] [17, 18, 19, 20, 21, 22, 23, 24, 25, 26] [[], [], [0, 1], [2], [], [], [4, 5], [6], [3, 7], [8]] [fun v _ => v = (.slice (some ⟨b1, off1, none⟩) bs.length c1), fun v _ => v = (.int .i64 (gg : Int)), fun v _ => v = (.pointer (some ⟨b1, off1 + gg * 3, none⟩)), fun v _ => v = (.agg #[str (bth bs gg).label, .slice r1 rn1 rc1, .slice r2 rn2 rc2]), fun v _ => v = (.slice (some ⟨b2, off2, none⟩) bs.length c2), fun v _ => v = (.int .i64 (gg : Int)), fun v _ => v = (.pointer (some ⟨b2, off2 + gg * 3, none⟩)), fun v _ => v = (.agg #[str (bth bs gg).label, .slice r3 rn3 rc3, .slice r4 rn4 rc4]), fun v _ => v = (.bool true), fun v _ => v = (.bool (!true))] (by decide) (stab_eq (stab_eq (stab_eq (stab_eq (stab_eq (stab_eq (stab_eq (stab_eq (stab_eq (stab_eq trivial)))))))))) (fun wd hkd => ?_) ?_
  refine certs_cons ?_ ?_
  intro x vs w2 e hk2 hd he
  replace hk2 := kept_new.trans hkd hk2
  replace he : e = over (havoc _ x _) [] := he
  subst he
  refine zm <| ow_nil ?_
  exact ⟨kept_new.refl _, rfl, by first | exact agree_put | exact agree_refl⟩
  refine certs_cons ?_ ?_
  intro x vs w2 e hk2 hd he
  replace hk2 := kept_new.trans hkd hk2
  replace he : e = over (havoc _ x _) [] := he
  subst he
  refine zm <| ow_nil ?_
  exact ⟨kept_new.refl _, rfl, by first | exact agree_put | exact agree_refl⟩
  refine certs_cons ?_ ?_
  intro x vs w2 e hk2 hd he
  obtain ⟨d0, d1⟩ : (vs 0 = (.slice (some ⟨b1, off1, none⟩) bs.length c1)) ∧ (vs 1 = (.int .i64 (gg : Int))) := hd
  replace hk2 := kept_new.trans hkd hk2
  replace he : e = over (havoc _ x _) [(17, vs 0), (18, vs 1)] := he
  rw [d0, d1] at he
  subst he
  refine zi tSl25 tI55 rfl rfl (by omega) <| ow_nil ?_
  exact ⟨kept_new.refl _, rfl, by first | exact agree_put | exact agree_refl⟩
  refine certs_cons ?_ ?_
  intro x vs w2 e hk2 hd he
  have d2 : vs 2 = (.pointer (some ⟨b1, off1 + gg * 3, none⟩)) := hd
  replace hk2 := kept_new.trans hkd hk2
  have hK := hK.ext hk2
  replace he : e = over (havoc _ x _) [(19, vs 2)] := he
  rw [d2] at he
  subst he
  refine zL tAgg55 tI55 rfl (hc1.ext hK) (rfl) <| ow_nil ?_
  exact ⟨kept_new.refl _, rfl, by first | exact agree_put | exact agree_refl⟩
  refine certs_cons ?_ ?_
  intro x vs w2 e hk2 hd he
  replace hk2 := kept_new.trans hkd hk2
  replace he : e = over (havoc _ x _) [] := he
  subst he
  refine zm <| ow_nil ?_
  exact ⟨kept_new.refl _, rfl, by first | exact agree_put | exact agree_refl⟩
  refine certs_cons ?_ ?_
  intro x vs w2 e hk2 hd he
  replace hk2 := kept_new.trans hkd hk2
  replace he : e = over (havoc _ x _) [] := he
  subst he
  refine zm <| ow_nil ?_
  exact ⟨kept_new.refl _, rfl, by first | exact agree_put | exact agree_refl⟩
  refine certs_cons ?_ ?_
  intro x vs w2 e hk2 hd he
  obtain ⟨d4, d5⟩ : (vs 4 = (.slice (some ⟨b2, off2, none⟩) bs.length c2)) ∧ (vs 5 = (.int .i64 (gg : Int))) := hd
  replace hk2 := kept_new.trans hkd hk2
  replace he : e = over (havoc _ x _) [(21, vs 4), (22, vs 5)] := he
  rw [d4, d5] at he
  subst he
  refine zi tSl25 tI55 rfl rfl (by omega) <| ow_nil ?_
  exact ⟨kept_new.refl _, rfl, by first | exact agree_put | exact agree_refl⟩
  refine certs_cons ?_ ?_
  intro x vs w2 e hk2 hd he
  have d6 : vs 6 = (.pointer (some ⟨b2, off2 + gg * 3, none⟩)) := hd
  replace hk2 := kept_new.trans hkd hk2
  have hK := hK.ext hk2
  replace he : e = over (havoc _ x _) [(23, vs 6)] := he
  rw [d6] at he
  subst he
  refine zL tAgg55 tI55 rfl (hc2.ext hK) (rfl) <| ow_nil ?_
  exact ⟨kept_new.refl _, rfl, by first | exact agree_put | exact agree_refl⟩
  refine certs_cons ?_ ?_
  intro x vs w2 e hk2 hd he
  obtain ⟨d3, d7⟩ : (vs 3 = (.agg #[str (bth bs gg).label, .slice r1 rn1 rc1, .slice r2 rn2 rc2])) ∧ (vs 7 = (.agg #[str (bth bs gg).label, .slice r3 rn3 rc3, .slice r4 rn4 rc4])) := hd
  replace hk2 := kept_new.trans hkd hk2
  have hK := hK.ext hk2
  replace he : e = over (havoc _ x _) [(20, vs 3), (24, vs 7)] := he
  rw [d3, d7] at he
  subst he
  refine ow_call rfl rfl (eqBlock_ret (bth bs gg) (hs.2 gg (by omega)) _ _ La Lb w2 (RBk.ext (rbk_of hs1 hs2) hK) (RBk.ext (rbk_of hs3 hs4) hK)) ?_
  rintro v3 w3 ⟨hv3, hk3⟩
  have hs3 := hk3.size
  obtain rfl := hv3
  refine ow_nil ?_
  exact ⟨kept_new.of hk3, rfl, by first | exact agree_put | exact agree_refl⟩
  refine certs_cons ?_ ?_
  intro x vs w2 e hk2 hd he
  have d8 : vs 8 = (.bool true) := hd
  replace hk2 := kept_new.trans hkd hk2
  replace he : e = over (havoc _ x _) [(25, vs 8)] := he
  rw [d8] at he
  subst he
  refine ow_not rfl rfl rfl <| ow_nil ?_
  exact ⟨kept_new.refl _, rfl, by first | exact agree_put | exact agree_refl⟩
  exact trivial
  intro x vs w41 hk41 hdraw
  have d0 : vs 0 = (.slice (some ⟨b1, off1, none⟩) bs.length c1) := hdraw 0 (by decide)
  have d1 : vs 1 = (.int .i64 (gg : Int)) := hdraw 1 (by decide)
  have d2 : vs 2 = (.pointer (some ⟨b1, off1 + gg * 3, none⟩)) := hdraw 2 (by decide)
  have d3 : vs 3 = (.agg #[str (bth bs gg).label, .slice r1 rn1 rc1, .slice r2 rn2 rc2]) := hdraw 3 (by decide)
  have d4 : vs 4 = (.slice (some ⟨b2, off2, none⟩) bs.length c2) := hdraw 4 (by decide)
  have d5 : vs 5 = (.int .i64 (gg : Int)) := hdraw 5 (by decide)
  have d6 : vs 6 = (.pointer (some ⟨b2, off2 + gg * 3, none⟩)) := hdraw 6 (by decide)
  have d7 : vs 7 = (.agg #[str (bth bs gg).label, .slice r3 rn3 rc3, .slice r4 rn4 rc4]) := hdraw 7 (by decide)
  have d8 : vs 8 = (.bool true) := hdraw 8 (by decide)
  have d9 : vs 9 = (.bool (!true)) := hdraw 9 (by decide)
  have hK := hK.ext hk41
  change OW _ _ _ _ [] (over (havoc _ x _) [(17, vs 0), (18, vs 1), (19, vs 2), (20, vs 3), (21, vs 4), (22, vs 5), (23, vs 6), (24, vs 7), (25, vs 8), (26, vs 9)]) _
  rw [d0, d1, d2, d3, d4, d5, d6, d7, d8, d9]
  refine ow_nil <| zc rfl (fun h3 => ?_) (fun h3 => ?_)
  cases h3
  skip
  refine cw_skip <| cw_region <| zm <| ow_add rfl rfl rfl rfl rfl (wrap_i64 _ (by omega) (by omega)) <| zA <| ow_nil ?_
  exact ⟨gg + 1, ⟨rfl, rfl, rfl⟩, ⟨hK, by omega⟩, by omega⟩
  skip
  refine cw_exit <| x_hit rfl <| zr <| zA <| ow_nil <| cw_ret ?_
  exact ⟨_, rfl, rfl, hK⟩

end Go.Proofs.YtnkjgoholocliaaGreatDoor

namespace Go.Proofs.YtnkjgoholocliaaGreatDoor
open Go

theorem markText_ret (k : Nat) (hk : k ≤ 100000000000000) (w : World) : Ret Tryz.prog 63 [.int .i64 (k : Int)] w fun r w' => r = str (mtB k) ∧ Keep [] w w' := by
  have hK := Keep.refl [] w
  refine ret_of [.tmp 2] 20 Tryz.func63 rfl nm63 rfl rfl ?_
  refine zr <| zA <| ow_nil <| cw_seq <| zr <| zm <| ow_leq rfl rfl rfl rfl rfl <| ow_nil <| zc rfl (fun h1 => ?_) (fun h1 => ?_)
  have hz : k = 0 := by omega
  refine zr <| zA <| ow_nil <| cw_ret ?_
  exact ⟨_, rfl, by rw [hz]; rfl, hK⟩
  have hpos : 0 < k := by omega
  refine cw_skip <| zr <| zA <| ow_nil <| cw_seq <| cw_block ?_
  refine cw_loop (fun q : Nat × Bytes => [(0, .int .i64 (q.1 : Int)), (3, str q.2)]) (fun q w' => Keep [] w w' ∧ q.1 ≤ k ∧ Dig k q.1 q.2) (fun q => q.1) ((k, [])) (⟨rfl, rfl⟩) (⟨hK, Nat.le_refl _, .inr ⟨hpos, by simp⟩⟩) ?_
  intro gg w1 e1 hI
  obtain ⟨kk, out⟩ := gg
  dsimp only at hI ⊢
  obtain ⟨hK, hkk, hD⟩ := hI
  refine cw_seq <| zr <| zm <| ow_gtr rfl rfl rfl rfl rfl <| ow_nil <| zc rfl (fun h2 => ?_) (fun h2 => ?_)
  have hkp : 0 < kk := by omega
  have hD2 := hD.step hkp
  have hl := hD2.le
  simp only [List.length_append, List.length_cons, List.length_nil] at hl
  refine cw_skip <| cw_block <| zr <| zm <| ow_rem (b := 10) rfl rfl rfl rfl rfl (by omega) <| ow_add rfl rfl rfl rfl rfl (wrap_i64 _ (by omega) (by omega)) <| ow_conv_int tInt3 tInt5 rfl rfl rfl (wrap_u8 _ (by omega) (by omega)) <| ow_buildSlice1 tSl114 tI5 rfl rfl rfl rfl rfl rfl rfl rfl ?_
  intro w2 hk2 hb12 hz2
  have hK := hK.ext hk2
  refine ow_bytesStr1 tSl114 tInt5 tStr9 rfl rfl rfl hb12 (dig_byte kk) <| zm <| ow_sadd rfl rfl rfl rfl (by simp only [List.length_cons, List.length_nil]; omega) <| zA <| ow_nil <| cw_region <| zm <| ow_quo (b := 10) rfl rfl rfl rfl rfl (by omega) (wrap_i64 _ (by omega) (by omega)) <| zA <| ow_nil ?_
  exact ⟨(kk / 10, [UInt8.ofNat (48 + kk % 10)] ++ out), ⟨rfl, rfl⟩, ⟨hK, by dsimp only; omega, hD2⟩, by dsimp only; omega⟩
  have hkz : kk = 0 := by omega
  have hl := hD.le
  have ho : out = decB k := by rcases hD with ⟨_, h⟩ | ⟨h, _⟩; exact h; omega
  refine cw_exit <| x_hit rfl <| zr <| zm <| ow_sadd rfl rfl rfl rfl (by simp only [List.length_cons, List.length_nil]; omega) <| zA <| ow_nil <| cw_ret <| ⟨_, rfl, show str _ = str _ from congrArg _ ?_, hK⟩
  rw [ho]
  unfold mtB
  rw [if_neg (by omega)]
  rfl

theorem heldStringS_ret (k n : Nat) (hk : k + n ≤ 100000000000000) (v : Value) (L : List Nat) (w : World) (hv : RStrs L w v (marksS k n)) : Ret Tryz.prog 30 [v, .int .i64 (k : Int)] w fun r w' => r = .int .i64 ((k + n : Nat) : Int) ∧ Keep [] w w' := by
  obtain ⟨a1, n1, c1, rfl, hn1⟩ := rstrs_cases hv
  rw [marksS_len] at hn1
  subst hn1
  have hK := Keep.refl [] w
  refine ret_of [.tmp 4] 22 Tryz.func30 rfl nm30 rfl rfl ?_
  refine zr <| zA <| ow_nil <| cw_seq <| zr <| zA <| ow_nil <| cw_block ?_
  refine cw_loop (fun i : Nat => [(0, .slice a1 n1 c1), (1, .int .i64 ((k + i : Nat) : Int)), (5, .int .i64 (i : Int))]) (fun i w' => Keep [] w w' ∧ i ≤ n1) (fun i => n1 - i) (0) (⟨rfl, rfl, rfl⟩) (⟨hK, by omega⟩) ?_
  intro gg w1 e1 hI
  obtain ⟨hK, hi⟩ := hI
  refine cw_seq <| zr <| zm <| zm <| ow_len tSl35 rfl rfl rfl <| ow_lss rfl rfl rfl rfl rfl <| ow_nil <| zc rfl (fun h1 => ?_) (fun h1 => ?_)
  have hg := sth_get (xs := marksS k n1) (i := gg) (by rw [marksS_len]; omega)
  obtain ⟨b1, off1, rfl, hc1⟩ := rstrs_get hv hg
  refine cw_skip <| cw_seq <| cw_block <| cw_seq <| cw_seq ?_
  refine cw_draw tMixed kept_new 7 [12, 13, 14, 15, 16, 17, 18] [12, 13, 14, 15, 16, 17, 18] [[], [], [0, 1], [2], [], [4], [3, 5]] [fun v _ => v = (.slice (some ⟨b1, off1, none⟩) n1 c1), fun v _ => v = (.int .i64 (gg : Int)), fun v _ => v = (.pointer (some ⟨b1, off1 + gg * 1, none⟩)), fun v _ => v = (str (sth (marksS k n1) gg)), fun v _ => v = (.int .i64 ((k + gg : Nat) : Int)), fun v _ => v = (str (mtB (k + gg))), fun v _ => v = (.bool (decide (sth (marksS k n1) gg ≠ mtB (k + gg))))] (by decide) (stab_eq (stab_eq (stab_eq (stab_eq (stab_eq (stab_eq (stab_eq trivial))))))) (fun wd hkd => ?_) ?_
  refine certs_cons ?_ ?_
  intro x vs w2 e hk2 hd he
  replace hk2 := kept_new.trans hkd hk2
  replace he : e = over (havoc _ x _) [] := he
  subst he
  refine zm <| ow_nil ?_
  exact ⟨kept_new.refl _, rfl, by first | exact agree_put | exact agree_refl⟩
  refine certs_cons ?_ ?_
  intro x vs w2 e hk2 hd he
  replace hk2 := kept_new.trans hkd hk2
  replace he : e = over (havoc _ x _) [] := he
  subst he
  refine zm <| ow_nil ?_
  exact ⟨kept_new.refl _, rfl, by first | exact agree_put | exact agree_refl⟩
  refine certs_cons ?_ ?_
  intro x vs w2 e hk2 hd he
  obtain ⟨d0, d1⟩ : (vs 0 = (.slice (some ⟨b1, off1, none⟩) n1 c1)) ∧ (vs 1 = (.int .i64 (gg : Int))) := hd
  replace hk2 := kept_new.trans hkd hk2
  replace he : e = over (havoc _ x _) [(12, vs 0), (13, vs 1)] := he
  rw [d0, d1] at he
  subst he
  refine zi tSl35 tI9 rfl rfl (by omega) <| ow_nil ?_
  exact ⟨kept_new.refl _, rfl, by first | exact agree_put | exact agree_refl⟩
  refine certs_cons ?_ ?_
  intro x vs w2 e hk2 hd he
  have d2 : vs 2 = (.pointer (some ⟨b1, off1 + gg * 1, none⟩)) := hd
  replace hk2 := kept_new.trans hkd hk2
  have hK := hK.ext hk2
  replace he : e = over (havoc _ x _) [(14, vs 2)] := he
  rw [d2] at he
  subst he
  refine zl tOne9 rfl (hc1.ext hK 0 _ rfl) <| ow_nil ?_
  exact ⟨kept_new.refl _, rfl, by first | exact agree_put | exact agree_refl⟩
  refine certs_cons ?_ ?_
  intro x vs w2 e hk2 hd he
  replace hk2 := kept_new.trans hkd hk2
  replace he : e = over (havoc _ x _) [] := he
  subst he
  refine zm <| ow_nil ?_
  exact ⟨kept_new.refl _, rfl, by first | exact agree_put | exact agree_refl⟩
  refine certs_cons ?_ ?_
  intro x vs w2 e hk2 hd he
  have d4 : vs 4 = (.int .i64 ((k + gg : Nat) : Int)) := hd
  replace hk2 := kept_new.trans hkd hk2
  replace he : e = over (havoc _ x _) [(16, vs 4)] := he
  rw [d4] at he
  subst he
  refine ow_call rfl rfl (markText_ret (k + gg) (by omega) w2) ?_
  rintro v3 w3 ⟨hv3, hk3⟩
  have hs3 := hk3.size
  obtain rfl := hv3
  refine ow_nil ?_
  exact ⟨kept_new.of hk3, rfl, by first | exact agree_put | exact agree_refl⟩
  refine certs_cons ?_ ?_
  intro x vs w2 e hk2 hd he
  obtain ⟨d3, d5⟩ : (vs 3 = (str (sth (marksS k n1) gg))) ∧ (vs 5 = (str (mtB (k + gg)))) := hd
  replace hk2 := kept_new.trans hkd hk2
  replace he : e = over (havoc _ x _) [(15, vs 3), (17, vs 5)] := he
  rw [d3, d5] at he
  subst he
  refine ow_sneq rfl rfl rfl rfl <| ow_nil ?_
  exact ⟨kept_new.refl _, rfl, by first | exact agree_put | exact agree_refl⟩
  exact trivial
  intro x vs w41 hk41 hdraw
  have d0 : vs 0 = (.slice (some ⟨b1, off1, none⟩) n1 c1) := hdraw 0 (by decide)
  have d1 : vs 1 = (.int .i64 (gg : Int)) := hdraw 1 (by decide)
  have d2 : vs 2 = (.pointer (some ⟨b1, off1 + gg * 1, none⟩)) := hdraw 2 (by decide)
  have d3 : vs 3 = (str (sth (marksS k n1) gg)) := hdraw 3 (by decide)
  have d4 : vs 4 = (.int .i64 ((k + gg : Nat) : Int)) := hdraw 4 (by decide)
  have d5 : vs 5 = (str (mtB (k + gg))) := hdraw 5 (by decide)
  have d6 : vs 6 = (.bool (decide (sth (marksS k n1) gg ≠ mtB (k + gg)))) := hdraw 6 (by decide)
  have hK := hK.ext hk41
  change OW _ _ _ _ [] (over (havoc _ x _) [(12, vs 0), (13, vs 1), (14, vs 2), (15, vs 3), (16, vs 4), (17, vs 5), (18, vs 6)]) _
  rw [d0, d1, d2, d3, d4, d5, d6]
  refine ow_nil <| zc rfl (fun h2 => ?_) (fun h2 => ?_)
  exact absurd (marksS_get (by omega)) h2
  skip
  refine cw_skip <| cw_region <| zm <| ow_add rfl rfl rfl rfl rfl (wrap_i64 _ (by omega) (by omega)) <| zA <| ow_nil <| cw_region <| zm <| ow_add rfl rfl rfl rfl rfl (wrap_i64 _ (by omega) (by omega)) <| zA <| ow_nil ?_
  exact ⟨gg + 1, ⟨rfl, rfl, rfl⟩, ⟨hK, by omega⟩, by omega⟩
  have he : gg = n1 := by omega
  refine cw_exit <| x_hit rfl <| zr <| zm <| zA <| ow_nil <| cw_ret ?_
  exact ⟨_, rfl, by rw [he]; rfl, hK⟩

theorem markStringS_ret (xs : List Bytes) (k : Nat) (hk : k + xs.length ≤ 100000000000000) (v : Value) (g : Option Nat) (w : World) (hv : OStr w 9 v g xs) : Ret Tryz.prog 29 [v, .int .i64 (k : Int)] w fun r w' => r = .int .i64 ((k + xs.length : Nat) : Int) ∧ OStr w' 9 v g (marksS k xs.length) ∧ Keep g.toList w w' := by
  obtain ⟨a, c, rfl⟩ := OStr.cases hv
  have hK := Keep.refl g.toList w
  refine ret_of [.tmp 4] 20 Tryz.func29 rfl nm29 rfl rfl ?_
  refine zr <| zA <| ow_nil <| cw_seq <| zr <| zA <| ow_nil <| cw_block ?_
  refine cw_loop (fun i : Nat => [(0, .slice a xs.length c), (1, .int .i64 ((k + i : Nat) : Int)), (5, .int .i64 (i : Int))]) (fun i w' => Keep g.toList w w' ∧ OStr w' 9 (.slice a xs.length c) g (curS k xs i) ∧ i ≤ xs.length) (fun i => xs.length - i) (0) (⟨rfl, rfl, rfl⟩) (⟨hK, by rw [curS_zero]; exact hv, by omega⟩) ?_
  intro gg w1 e1 hI
  obtain ⟨hK, hO, hi⟩ := hI
  refine cw_seq <| zr <| zm <| zm <| ow_len tSl35 rfl rfl rfl <| ow_lss rfl rfl rfl rfl rfl <| ow_nil <| zc rfl (fun h1 => ?_) (fun h1 => ?_)
  obtain ⟨b, rfl, hgb⟩ := OStr.form hO (by rw [curS_len]; omega)
  refine cw_skip <| cw_seq <| cw_block <| zr <| zm <| zm <| zm <| ow_call rfl rfl (markText_ret (k + gg) (by omega) w1) ?_
  rintro v2 w2 ⟨hv2, hk2⟩
  have hs2 := hk2.size
  have hK := hK.ext hk2; have hO := hO.ext hk2
  obtain rfl := hv2
  refine zi tSl35 tI9 rfl rfl (by omega) <| ow_storeO (i := gg) tI9 rfl rfl rfl (by omega) hO (by rw [curS_len]; omega) ?_
  intro w3 hk3 hO hz9
  have hK := hK.trans hk3
  rw [curS_set (by omega)] at hO
  refine ow_nil <| cw_region <| zm <| ow_add rfl rfl rfl rfl rfl (wrap_i64 _ (by omega) (by omega)) <| zA <| ow_nil <| cw_region <| zm <| ow_add rfl rfl rfl rfl rfl (wrap_i64 _ (by omega) (by omega)) <| zA <| ow_nil ?_
  exact ⟨gg + 1, ⟨rfl, rfl, rfl⟩, ⟨hK, hO, by omega⟩, by omega⟩
  have he : gg = xs.length := by omega
  rw [curS_all k xs (by omega)] at hO
  refine cw_exit <| x_hit rfl <| zr <| zm <| zA <| ow_nil <| cw_ret ?_
  exact ⟨_, rfl, by rw [he]; rfl, hO, hK⟩
end Go.Proofs.YtnkjgoholocliaaGreatDoor

namespace Go.Proofs.YtnkjgoholocliaaGreatDoor
open Go

theorem bth_set {bs : List Bk} {i : Nat} (h : i < bs.length) (f : Bk) : bth (bs.set i f) i = f := by simp [bth, List.getD, h]
theorem bth_cur {bs : List Bk} {k i : Nat} (h : i < bs.length) : bth (curBs bs k i) i = bth bs i := by
  have := curBs_get (bs := bs) (k := k) (i := i) (j := i) h
  rw [if_neg (Nat.lt_irrefl i)] at this
  simp [bth, List.getD, this]
theorem set_set {bs : List Bk} {i : Nat} (f f' : Bk) : (bs.set i f).set i f' = bs.set i f' := by simp
theorem heldBlockS_ret (bs : List Bk) (k : Nat) (hM : ∀ i, i ≤ bs.length → kAt bs k i ≤ 100000000000000) (hl : bs.length < 1000000000) (v : Value) (L : List Nat) (w : World) (hv : RBks L w v (curBs bs k bs.length)) :
    Ret Tryz.prog 23 [v, .int .i64 (k : Int)] w fun r w' => r = .int .i64 ((kAt bs k bs.length : Nat) : Int) ∧ Keep [] w w' := by
  obtain ⟨a1, n1, c1, rfl, hn1⟩ := rbks_cases hv
  rw [curBs_len] at hn1
  subst hn1
  have hK := Keep.refl [] w
  refine ret_of [.tmp 4] 41 Tryz.func23 rfl nm23 rfl rfl ?_
  refine zr <| zA <| ow_nil <| cw_seq <| zr <| zA <| ow_nil <| cw_block ?_
  refine cw_loop (fun i : Nat => [(0, .slice a1 bs.length c1), (1, .int .i64 ((kAt bs k i : Nat) : Int)), (5, .int .i64 (i : Int))]) (fun i w' => Keep [] w w' ∧ i ≤ bs.length) (fun i => bs.length - i) (0) (⟨rfl, rfl, rfl⟩) (⟨hK, by omega⟩) ?_
  intro gg w1 e1 hI
  obtain ⟨hK, hi⟩ := hI
  refine cw_seq <| zr <| zm <| zm <| ow_len tSl25 rfl rfl rfl <| ow_lss rfl rfl rfl rfl rfl <| ow_nil <| zc rfl (fun h1 => ?_) (fun h1 => ?_)
  have hg := curBs_all (bs := bs) (k := k) (Nat.le_refl _) (j := gg) (by omega)
  obtain ⟨b1, off1, r1, rn1, rc1, r2, rn2, rc2, rfl, hc1, hr1, hr2, hs1, hs2⟩ := rbks_get hv hg
  have hm := hM (gg + 1) (by omega)
  have hkk : kAt bs k (gg + 1) = kAt bs k gg + 1 + (bth bs gg).needs.length + (bth bs gg).code.length := rfl
  generalize kAt bs k gg = kk at *
  refine cw_skip <| cw_seq <| cw_block <| cw_seq <| cw_seq ?_
  refine cw_draw tMixed kept_new 8 [12, 13, 14, 15, 16, 17, 18, 19] [12, 13, 14, 15, 16, 17, 18, 19] [[], [], [0, 1], [2], [3], [], [5], [4, 6]] [fun v _ => v = (.slice (some ⟨b1, off1, none⟩) bs.length c1), fun v _ => v = (.int .i64 (gg : Int)), fun v _ => v = (.pointer (some ⟨b1, off1 + gg * 3, none⟩)), fun v _ => v = (.pointer (some ⟨b1, off1 + gg * 3 + 0, none⟩)), fun v _ => v = (str (mtB kk)), fun v _ => v = (.int .i64 (kk : Int)), fun v _ => v = (str (mtB kk)), fun v _ => v = (.bool (decide (mtB kk ≠ mtB kk)))] (by decide) (stab_eq (stab_eq (stab_eq (stab_eq (stab_eq (stab_eq (stab_eq (stab_eq trivial)))))))) (fun wd hkd => ?_) ?_
  refine certs_cons ?_ ?_
  intro x vs w2 e hk2 hd he
  replace hk2 := kept_new.trans hkd hk2
  replace he : e = over (havoc _ x _) [] := he
  subst he
  refine zm <| ow_nil ?_
  exact ⟨kept_new.refl _, rfl, by first | exact agree_put | exact agree_refl⟩
  refine certs_cons ?_ ?_
  intro x vs w2 e hk2 hd he
  replace hk2 := kept_new.trans hkd hk2
  replace he : e = over (havoc _ x _) [] := he
  subst he
  refine zm <| ow_nil ?_
  exact ⟨kept_new.refl _, rfl, by first | exact agree_put | exact agree_refl⟩
  refine certs_cons ?_ ?_
  intro x vs w2 e hk2 hd he
  obtain ⟨d0, d1⟩ : (vs 0 = (.slice (some ⟨b1, off1, none⟩) bs.length c1)) ∧ (vs 1 = (.int .i64 (gg : Int))) := hd
  replace hk2 := kept_new.trans hkd hk2
  replace he : e = over (havoc _ x _) [(12, vs 0), (13, vs 1)] := he
  rw [d0, d1] at he
  subst he
  refine zi tSl25 tI55 rfl rfl (by omega) <| ow_nil ?_
  exact ⟨kept_new.refl _, rfl, by first | exact agree_put | exact agree_refl⟩
  refine certs_cons ?_ ?_
  intro x vs w2 e hk2 hd he
  have d2 : vs 2 = (.pointer (some ⟨b1, off1 + gg * 3, none⟩)) := hd
  replace hk2 := kept_new.trans hkd hk2
  replace he : e = over (havoc _ x _) [(14, vs 2)] := he
  rw [d2] at he
  subst he
  refine zf tF55_0 rfl <| ow_nil ?_
  exact ⟨kept_new.refl _, rfl, by first | exact agree_put | exact agree_refl⟩
  refine certs_cons ?_ ?_
  intro x vs w2 e hk2 hd he
  have d3 : vs 3 = (.pointer (some ⟨b1, off1 + gg * 3 + 0, none⟩)) := hd
  replace hk2 := kept_new.trans hkd hk2
  have hK := hK.ext hk2
  replace he : e = over (havoc _ x _) [(15, vs 3)] := he
  rw [d3] at he
  subst he
  refine zl tOne9 rfl (hc1.ext hK 0 _ rfl) <| ow_nil ?_
  exact ⟨kept_new.refl _, rfl, by first | exact agree_put | exact agree_refl⟩
  refine certs_cons ?_ ?_
  intro x vs w2 e hk2 hd he
  replace hk2 := kept_new.trans hkd hk2
  replace he : e = over (havoc _ x _) [] := he
  subst he
  refine zm <| ow_nil ?_
  exact ⟨kept_new.refl _, rfl, by first | exact agree_put | exact agree_refl⟩
  refine certs_cons ?_ ?_
  intro x vs w2 e hk2 hd he
  have d5 : vs 5 = (.int .i64 (kk : Int)) := hd
  replace hk2 := kept_new.trans hkd hk2
  replace he : e = over (havoc _ x _) [(17, vs 5)] := he
  rw [d5] at he
  subst he
  refine ow_call rfl rfl (markText_ret kk (by omega) w2) ?_
  rintro v3 w3 ⟨hv3, hk3⟩
  have hs3 := hk3.size
  obtain rfl := hv3
  refine ow_nil ?_
  exact ⟨kept_new.of hk3, rfl, by first | exact agree_put | exact agree_refl⟩
  refine certs_cons ?_ ?_
  intro x vs w2 e hk2 hd he
  obtain ⟨d4, d6⟩ : (vs 4 = (str (mtB kk))) ∧ (vs 6 = (str (mtB kk))) := hd
  replace hk2 := kept_new.trans hkd hk2
  replace he : e = over (havoc _ x _) [(16, vs 4), (18, vs 6)] := he
  rw [d4, d6] at he
  subst he
  refine ow_sneq rfl rfl rfl rfl <| ow_nil ?_
  exact ⟨kept_new.refl _, rfl, by first | exact agree_put | exact agree_refl⟩
  exact trivial
  intro x vs w41 hk41 hdraw
  have d0 : vs 0 = (.slice (some ⟨b1, off1, none⟩) bs.length c1) := hdraw 0 (by decide)
  have d1 : vs 1 = (.int .i64 (gg : Int)) := hdraw 1 (by decide)
  have d2 : vs 2 = (.pointer (some ⟨b1, off1 + gg * 3, none⟩)) := hdraw 2 (by decide)
  have d3 : vs 3 = (.pointer (some ⟨b1, off1 + gg * 3 + 0, none⟩)) := hdraw 3 (by decide)
  have d4 : vs 4 = (str (mtB kk)) := hdraw 4 (by decide)
  have d5 : vs 5 = (.int .i64 (kk : Int)) := hdraw 5 (by decide)
  have d6 : vs 6 = (str (mtB kk)) := hdraw 6 (by decide)
  have d7 : vs 7 = (.bool (decide (mtB kk ≠ mtB kk))) := hdraw 7 (by decide)
  have hK := hK.ext hk41
  change OW _ _ _ _ [] (over (havoc _ x _) [(12, vs 0), (13, vs 1), (14, vs 2), (15, vs 3), (16, vs 4), (17, vs 5), (18, vs 6), (19, vs 7)]) _
  rw [d0, d1, d2, d3, d4, d5, d6, d7]
  refine ow_nil <| zc rfl (fun h2 => ?_) (fun h2 => ?_)
  exact absurd rfl h2
  skip
  refine cw_skip <| zr <| zm <| ow_add rfl rfl rfl rfl rfl (wrap_i64 _ (by omega) (by omega)) <| zA <| ow_nil <| zr <| zm <| zm <| zi tSl25 tI55 rfl rfl (by omega) <| zf tF55_1 rfl <| zl tOne35 rfl (hc1.ext hK 1 _ rfl) <| zm <| ow_call rfl rfl (heldStringS_ret (kk + 1) (bth bs gg).needs.length (by omega) _ L w41 (RStrs.ext hs1 hK)) ?_
  rintro v42 w42 ⟨hv42, hk42⟩
  have hs42 := hk42.size
  have hK := hK.ext hk42
  obtain rfl := hv42
  refine zA <| ow_nil <| cw_seq <| zr <| zm <| ow_lss rfl rfl rfl rfl rfl <| ow_nil <| zc rfl (fun h3 => ?_) (fun h3 => ?_)
  exfalso
  omega
  skip
  refine cw_skip <| zr <| zm <| zm <| zi tSl25 tI55 rfl rfl (by omega) <| zf tF55_2 rfl <| zl tOne35 rfl (hc1.ext hK 2 _ rfl) <| zm <| ow_call rfl rfl (heldStringS_ret (kk + 1 + (bth bs gg).needs.length) (bth bs gg).code.length (by omega) _ L w42 (RStrs.ext hs2 hK)) ?_
  rintro v43 w43 ⟨hv43, hk43⟩
  have hs43 := hk43.size
  have hK := hK.ext hk43
  obtain rfl := hv43
  refine zA <| ow_nil <| zr <| zm <| ow_lss rfl rfl rfl rfl rfl <| ow_nil <| zc rfl (fun h4 => ?_) (fun h4 => ?_)
  exfalso
  omega
  skip
  refine cw_skip <| cw_region <| zm <| ow_add rfl rfl rfl rfl rfl (wrap_i64 _ (by omega) (by omega)) <| zA <| ow_nil ?_
  exact ⟨gg + 1, ⟨rfl, by rw [hkk]; rfl, rfl⟩, ⟨hK, by omega⟩, by omega⟩
  have he : gg = bs.length := by omega
  refine cw_exit <| x_hit rfl <| zr <| zm <| zA <| ow_nil <| cw_ret ?_
  exact ⟨_, rfl, by rw [he]; rfl, hK⟩

theorem markBlockS_ret (bs : List Bk) (k : Nat) (hM : ∀ i, i ≤ bs.length → kAt bs k i ≤ 100000000000000) (hl : bs.length < 1000000000) (v : Value) (g : Option Nat) (gss : List (Option Nat × Option Nat)) (vss : List (List Value)) (w : World) (hv : OBks w 55 9 v g gss vss bs) :
    Ret Tryz.prog 22 [v, .int .i64 (k : Int)] w fun r w' => r = .int .i64 ((kAt bs k bs.length : Nat) : Int) ∧ (∃ vss', OBks w' 55 9 v g gss vss' (curBs bs k bs.length)) ∧ Keep (g.toList ++ allG gss) w w' := by
  obtain ⟨a, c, rfl⟩ := hv.own.len
  have hK := Keep.refl (g.toList ++ allG gss) w
  refine ret_of [.tmp 4] 35 Tryz.func22 rfl nm22 rfl rfl ?_
  refine zr <| zA <| ow_nil <| cw_seq <| zr <| zA <| ow_nil <| cw_block ?_
  refine cw_loop (fun q : Nat × List (List Value) => [(0, .slice a bs.length c), (1, .int .i64 ((kAt bs k q.1 : Nat) : Int)), (5, .int .i64 (q.1 : Int))]) (fun q w' => Keep (g.toList ++ allG gss) w w' ∧ OBks w' 55 9 (.slice a bs.length c) g gss q.2 (curBs bs k q.1) ∧ q.1 ≤ bs.length) (fun q => bs.length - q.1) ((0, vss)) (⟨rfl, rfl, rfl⟩) (⟨hK, by rw [curBs_zero]; exact hv, by simp⟩) ?_
  intro gg w1 e1 hI
  obtain ⟨i, vs0⟩ := gg
  dsimp only at hI ⊢
  obtain ⟨hK, hO, hi⟩ := hI
  refine cw_seq <| zr <| zm <| zm <| ow_len tSl25 rfl rfl rfl <| ow_lss rfl rfl rfl rfl rfl <| ow_nil <| zc rfl (fun h1 => ?_) (fun h1 => ?_)
  have hil : i < bs.length := by omega
  have hic : i < (curBs bs k i).length := by rw [curBs_len]; exact hil
  obtain ⟨b, _, _, _, _, _, rfl, hgb, _⟩ := hO.get hic
  have hm := hM (i + 1) (by omega)
  have hkk : kAt bs k (i + 1) = kAt bs k i + 1 + (bth bs i).needs.length + (bth bs i).code.length := rfl
  refine cw_skip <| cw_seq <| cw_block <| zr <| zm <| zm <| zm <| ow_call rfl rfl (markText_ret (kAt bs k i) (by omega) w1) ?_
  rintro v2 w2 ⟨hv2, hk2⟩
  have hs2 := hk2.size
  have hK := hK.ext hk2; have hO := hO.ext hk2
  obtain rfl := hv2
  refine zi tSl25 tI55 rfl rfl (by omega) <| zf tF55_0 rfl <| ow_storeL (i := i) tI9 rfl rfl rfl (by omega) hO hic ?_
  intro w3 vs1 hk3 hO hz9
  have hK := hK.trans (hk3.mono (by intro x hx; simp only [List.mem_append]; exact .inl hx))
  rw [bth_cur hil] at hO
  obtain ⟨b', gs, a1, c1, a2, c2, hab, hgb', hbl, hbn, hgs, hvs, hcell, hs1, hs2, hsep⟩ := hO.get (i := i) (by rw [List.length_set]; exact hic)
  cases hab
  rw [bth_set hic] at hvs hcell hs1 hs2
  simp only at hvs hcell hs1 hs2
  refine ow_nil <| zr <| zm <| ow_add rfl rfl rfl rfl rfl (wrap_i64 _ (by omega) (by omega)) <| zA <| ow_nil <| zr <| zm <| zm <| zi tSl25 tI55 rfl rfl (by omega) <| zf tF55_1 rfl <| zl tOne35 rfl (hcell 1 _ rfl) <| zm <| ow_call rfl rfl (markStringS_ret (bth bs i).needs (kAt bs k i + 1) (by omega) _ gs.1 w3 hs1) ?_
  rintro _ w4 ⟨rfl, hs1, hk1⟩
  have hcell := hcell.sto hk1 hbl (fun hx => hbn (by simp only [twoL, List.mem_append]; exact .inl hx))
  have hs2 := hs2.keep hk1 (fun x hx hx2 => hsep x (by simpa using hx2) hx)
  refine zA <| ow_nil <| cw_region <| zm <| zm <| zi tSl25 tI55 rfl rfl (by omega) <| zf tF55_2 rfl <| zl tOne35 rfl (hcell 2 _ rfl) <| zm <| ow_call rfl rfl (markStringS_ret (bth bs i).code (kAt bs k i + 1 + (bth bs i).needs.length) (by omega) _ gs.2 w4 hs2) ?_
  rintro _ w5 ⟨rfl, hs2, hk2⟩
  have hs1 := hs1.keep hk2 (fun x hx hx2 => hsep x hx (by simpa using hx2))
  have hk3 : Keep (twoL gs) _ _ := (hk1.mono (L' := twoL gs) (by intro x hx; simp only [twoL, List.mem_append]; exact .inl hx)).trans (hk2.mono (by intro x hx; simp only [twoL, List.mem_append]; exact .inr hx))
  have hO := hO.row hgs hvs hk3 (fun x hx => hx) (f := markBk (bth bs i) (kAt bs k i)) ⟨_, _, rfl, hs1, hs2⟩
  rw [set_set, curBs_set hil] at hO
  have hK := hK.trans (hk3.mono (by intro x hx; simp only [List.mem_append]; exact .inr (allG_mem hgs hx)))
  refine zA <| ow_nil <| cw_region <| zm <| ow_add rfl rfl rfl rfl rfl (wrap_i64 _ (by omega) (by omega)) <| zA <| ow_nil ?_
  exact ⟨(i + 1, vs1), ⟨rfl, by rw [hkk]; rfl, rfl⟩, ⟨hK, hO, by dsimp only; omega⟩, by dsimp only; omega⟩
  have he : i = bs.length := by omega
  refine cw_exit <| x_hit rfl <| zr <| zm <| zA <| ow_nil <| cw_ret ?_
  exact ⟨_, rfl, by rw [he]; rfl, ⟨vs0, (show curBs bs k i = curBs bs k bs.length by rw [he]) ▸ hO⟩, hK⟩
end Go.Proofs.YtnkjgoholocliaaGreatDoor

namespace Go.Proofs.YtnkjgoholocliaaGreatDoor
open Go

theorem l6tList_ret (h : Bytes) (ps : List Bytes) (hl : (listS h ps).length ≤ 1000000000) (v : Value) (L : List Nat) (w : World) (hv : RStrs L w v ps) : Ret Tryz.prog 81 [str h, v] w fun r w' => r = str (listS h ps) ∧ Keep [] w w' := by
  obtain ⟨a, n, c, rfl, hn⟩ := rstrs_cases hv
  subst hn
  have hK := Keep.refl [] w
  have hh := fun k => listTo_le (h := h) (ps := ps) k
  have h00 : (listTo h ps 0).length = h.length + 1 := by simp [listTo, joinB]
  have h01 := hh 0
  have hpl : ps.length ≤ (listS h ps).length := by simp only [listS, List.length_cons, List.length_append, joinB_len, szS]; omega
  refine ret_of [.tmp 4] 24 Tryz.func81 rfl nm81 rfl rfl ?_
  refine zr <| zA <| ow_nil <| zr <| zm <| ow_sadd rfl rfl rfl rfl (by simp only [List.length_cons, List.length_nil]; omega) <| zA <| ow_nil <| cw_seq <| zr <| zA <| ow_nil <| cw_block ?_
  refine cw_loop (fun k : Nat => [(1, .slice a ps.length c), (5, str (listTo h ps k)), (6, .int .i64 (k : Int))]) (fun k w' => Keep [] w w' ∧ k ≤ ps.length) (fun k => ps.length - k) (0) (⟨rfl, show str _ = str _ from congrArg _ (by simp [listTo, joinB]), rfl⟩) (⟨hK, by omega⟩) ?_
  intro gg w1 e1 hI
  obtain ⟨hK, hk⟩ := hI
  refine cw_seq <| zr <| zm <| zm <| ow_len tSl35 rfl rfl rfl <| ow_lss rfl rfl rfl rfl rfl <| ow_nil <| zc rfl (fun h1 => ?_) (fun h1 => ?_)
  have hg := sth_get (xs := ps) (i := gg) (by omega)
  obtain ⟨b1, off1, rfl, hc1⟩ := rstrs_get hv hg
  have hst := listTo_step (h := h) (ps := ps) (k := gg) (by omega)
  have hlen := congrArg List.length hst
  simp only [List.length_append, List.length_cons, List.length_nil] at hlen
  have hle := hh (gg + 1)
  refine cw_skip <| cw_seq <| cw_block <| cw_region <| zm <| ow_sadd rfl rfl rfl rfl (by simp only [List.length_cons, List.length_nil]; omega) <| zm <| zm <| zi tSl35 tI9 rfl rfl (by omega) <| zl tOne9 rfl (hc1.ext hK 0 _ rfl) <| ow_sadd rfl rfl rfl rfl (by simp only [List.length_append, List.length_cons, List.length_nil]; omega) <| zA <| ow_nil <| cw_region <| zm <| ow_add rfl rfl rfl rfl rfl (wrap_i64 _ (by omega) (by omega)) <| zA <| ow_nil ?_
  exact ⟨gg + 1, ⟨rfl, show str _ = str _ from congrArg _ hst.symm, rfl⟩, ⟨hK, by omega⟩, by omega⟩
  have hle := hh gg
  refine cw_exit <| x_hit rfl <| zr <| zm <| ow_sadd rfl rfl rfl rfl (by simp only [List.length_cons, List.length_nil]; omega) <| zA <| ow_nil <| cw_ret ?_
  exact ⟨_, rfl, show str _ = str _ from congrArg _ (listTo_all (by omega)), hK⟩

theorem FormValid_ret (s : Bytes) (w : World) : Ret Tryz.prog 64 [str s] w fun r w' => r = .bool (parse s).isSome ∧ Keep [] w w' := by
  have hK := Keep.refl [] w
  refine ret_of [.tmp 2] 11 Tryz.func64 rfl nm64 rfl rfl ?_
  refine zr <| zA <| ow_nil <| zr <| zm <| ow_call rfl rfl (l1Parse_ret s [] w (by simp)) ?_
  rintro v1 w1 ⟨hv1, hk1⟩
  have hs1 := hk1.size
  have hK := hK.ext hk1
  obtain ⟨t, tv, rfl, ht, hp⟩ := hv1
  obtain ⟨pa, pn, pc, rfl, hpn, hps⟩ := rtree_cases ht
  subst hpn
  refine zm <| zx (i := 0) rfl rfl <| zx (i := 1) rfl rfl <| ow_allocA tI67 rfl rfl rfl ?_
  intro w2 hk2 hb3 hz2
  have hK := hK.grow; have hK := hK.ext hk2
  refine ow_storeA tI67 rfl rfl rfl rfl rfl hb3 rfl ?_
  intro w3 hk3 hb3 hz3
  have hK := hK.sto hk3 (by simp <;> omega)
  refine zA <| ow_nil <| zr <| zm <| zA <| ow_nil <| cw_ret ?_
  exact ⟨_, rfl, rfl, hK⟩

end Go.Proofs.YtnkjgoholocliaaGreatDoor

namespace Go.Proofs.YtnkjgoholocliaaGreatDoor
open Go

theorem depth_ret : ∀ (m : Nat) (t : Tree), t.size ≤ m → t.size ≤ 1000000000 → ∀ (v : Value) (L : List Nat) (w : World), RTree L w v t →
    Ret Tryz.prog 106 [v] w fun r w' => r = .int .i64 (t.depth : Int) ∧ Keep [] w w' := by
  intro m
  induction m with
  | zero => intro t h; have := atom_lt t; omega
  | succ m ih =>
    intro t hm hts v L w hv
    have hv0 := hv
    obtain ⟨a, n, c, rfl, hn, hps⟩ := rtree_cases hv
    subst hn
    have hpl := parts_le t
    have hK := Keep.refl [] w
    have hmx := fun k => maxD_lt (t := t) (k := k)
    refine ret_of [.tmp 2] 22 Tryz.func106 rfl nm106 rfl rfl ?_
    refine zr <| ow_boxA rfl rfl rfl ?_
    intro w1 hk1 hb1 hz1
    have hK := hK.ext hk1
    refine zA <| ow_nil <| cw_seq <| zr <| zL tAgg73 tI73 rfl hb1.all rfl <| ow_call rfl rfl (isAtom_ret t _ L w1 (hv0.ext hK)) ?_
    rintro v2 w2 ⟨hv2, hk2⟩
    have hs2 := hk2.size
    have hK := hK.ext hk2; have hb1 := hb1.ext hk2
    obtain rfl := hv2
    refine ow_nil <| zc rfl (fun h1 => ?_) (fun h1 => ?_)
    have hd := depth_leaf h1
    refine zr <| zA <| ow_nil <| cw_ret ?_
    exact ⟨_, rfl, by rw [hd]; rfl, hK⟩
    have hd := depth_max h1
    refine cw_skip <| zr <| zA <| ow_nil <| cw_seq <| zr <| zf tF73_1 rfl <| zl tOne61 rfl (hb1.at rfl) <| ow_len tSl61 rfl rfl rfl <| zm <| ow_nil <| cw_block ?_
    refine cw_loop (fun k : Nat => [(3, .int .i64 (maxD (t.parts.take k) : Int)), (9, .slice a t.parts.length c), (10, .int .i64 (t.parts.length : Int)), (11, .int .i64 (k : Int))]) (fun k w' => Keep [] w w' ∧ k ≤ t.parts.length) (fun k => t.parts.length - k) (0) (⟨rfl, rfl, rfl, rfl⟩) (⟨hK, by omega⟩) ?_
    intro gg w3 e3 hI
    obtain ⟨hK, hk⟩ := hI
    have hsz := hK.size
    have hm1 := hmx gg
    refine zr <| ow_lss rfl rfl rfl rfl rfl <| ow_nil <| cw_seq <| zc rfl (fun h2 => ?_) (fun h2 => ?_)
    have hgt := nth_get (ps := t.parts) (i := gg) (by omega)
    obtain ⟨b1, off1, pa, pn, pc, rfl, hcc, hpn, hpp⟩ := rtrees_get hps hgt
    subst hpn
    have hsp := nth_size (t := t) (i := gg) (by omega)
    have hst := maxD_step (ps := t.parts) (k := gg) (by omega)
    refine cw_skip <| cw_seq <| cw_block <| zr <| zi tSl61 tI73 rfl rfl (by omega) <| zL tAgg73 tI73 rfl (hcc.ext hK) (rfl) <| ow_allocA tI73 rfl rfl rfl ?_
    intro w4 hk4 hb5 hz4
    have hK := hK.grow; have hK := hK.ext hk4
    refine ow_storeA tI73 rfl rfl rfl rfl rfl hb5 rfl ?_
    intro w5 hk5 hb5 hz5
    have hK := hK.sto hk5 (by simp <;> omega)
    refine ow_nil <| cw_region <| zm <| zL tAgg73 tI73 rfl hb5.all rfl <| ow_call rfl rfl (ih (nth t.parts gg) (by omega) (by omega) _ L w5 ((rtree_of hpp).ext hK)) ?_
    rintro v6 w6 ⟨hv6, hk6⟩
    have hs6 := hk6.size
    have hK := hK.ext hk6
    obtain rfl := hv6
    refine ow_max rfl rfl rfl rfl (show (if ((maxD (t.parts.take gg) : Nat) : Int) < ((nth t.parts gg).depth : Int) then ((nth t.parts gg).depth : Int) else ((maxD (t.parts.take gg) : Nat) : Int)) = ((maxD (t.parts.take (gg + 1)) : Nat) : Int) from by rw [hst]; split <;> omega) <| zA <| ow_nil <| cw_region <| ow_add rfl rfl rfl rfl rfl (wrap_i64 _ (by omega) (by omega)) <| zm <| ow_nil ?_
    exact ⟨gg + 1, ⟨rfl, rfl, rfl, rfl⟩, ⟨hK, by omega⟩, by omega⟩
    have hgl : gg = t.parts.length := by omega
    subst hgl
    refine cw_exit <| x_hit rfl <| zr <| zm <| ow_add rfl rfl rfl rfl rfl (wrap_i64 _ (by omega) (by omega)) <| zA <| ow_nil <| cw_ret ?_
    exact ⟨_, rfl, by rw [hd]; rfl, hK⟩

theorem length_ret : ∀ (m : Nat) (t : Tree), t.size ≤ m → t.size ≤ 1000000000 → t.len ≤ 1000000000 → ∀ (v : Value) (L : List Nat) (w : World), RTree L w v t →
    Ret Tryz.prog 107 [v] w fun r w' => r = .int .i64 (t.len : Int) ∧ Keep [] w w' := by
  intro m
  induction m with
  | zero => intro t h; have := atom_lt t; omega
  | succ m ih =>
    intro t hm hts htl v L w hv
    have hv0 := hv
    obtain ⟨a, n, c, rfl, hn, hps⟩ := rtree_cases hv
    subst hn
    have hpl := parts_le t
    have hK := Keep.refl [] w
    refine ret_of [.tmp 2] 25 Tryz.func107 rfl nm107 rfl rfl ?_
    refine zr <| ow_boxA rfl rfl rfl ?_
    intro w1 hk1 hb1 hz1
    have hK := hK.ext hk1
    refine zA <| ow_nil <| cw_seq <| zr <| zL tAgg73 tI73 rfl hb1.all rfl <| ow_call rfl rfl (isAtom_ret t _ L w1 (hv0.ext hK)) ?_
    rintro v2 w2 ⟨hv2, hk2⟩
    have hs2 := hk2.size
    have hK := hK.ext hk2; have hb1 := hb1.ext hk2
    obtain rfl := hv2
    refine ow_nil <| zc rfl (fun h1 => ?_) (fun h1 => ?_)
    have hd := len_leaf h1
    refine zr <| zf tF73_0 rfl <| zl tOne9 rfl (hb1.at rfl) <| ow_lenS tStr9 rfl rfl rfl <| zA <| ow_nil <| cw_ret ?_
    exact ⟨_, rfl, by rw [hd]; rfl, hK⟩
    have hd := len_node h1
    have hle := fun k => lens_le (k := k) h1
    refine cw_skip <| zr <| zA <| ow_nil <| cw_seq <| zr <| zf tF73_1 rfl <| zl tOne61 rfl (hb1.at rfl) <| ow_len tSl61 rfl rfl rfl <| zm <| ow_nil <| cw_block ?_
    refine cw_loop (fun k : Nat => [(3, .int .i64 ((1 + Tree.len.lens (t.parts.take k) : Nat) : Int)), (12, .slice a t.parts.length c), (13, .int .i64 (t.parts.length : Int)), (14, .int .i64 (k : Int))]) (fun k w' => Keep [] w w' ∧ k ≤ t.parts.length) (fun k => t.parts.length - k) (0) (⟨rfl, rfl, rfl, rfl⟩) (⟨hK, by omega⟩) ?_
    intro gg w3 e3 hI
    obtain ⟨hK, hk⟩ := hI
    have hsz := hK.size
    refine zr <| ow_lss rfl rfl rfl rfl rfl <| ow_nil <| cw_seq <| zc rfl (fun h2 => ?_) (fun h2 => ?_)
    have hgt := nth_get (ps := t.parts) (i := gg) (by omega)
    obtain ⟨b1, off1, pa, pn, pc, rfl, hcc, hpn, hpp⟩ := rtrees_get hps hgt
    subst hpn
    have hsp := nth_size (t := t) (i := gg) (by omega)
    have hst := lens_step (ps := t.parts) (k := gg) (by omega)
    have hl1 := hle (gg + 1)
    refine cw_skip <| cw_seq <| cw_block <| zr <| zi tSl61 tI73 rfl rfl (by omega) <| zL tAgg73 tI73 rfl (hcc.ext hK) (rfl) <| ow_allocA tI73 rfl rfl rfl ?_
    intro w4 hk4 hb5 hz4
    have hK := hK.grow; have hK := hK.ext hk4
    refine ow_storeA tI73 rfl rfl rfl rfl rfl hb5 rfl ?_
    intro w5 hk5 hb5 hz5
    have hK := hK.sto hk5 (by simp <;> omega)
    refine ow_nil <| cw_region <| zm <| zL tAgg73 tI73 rfl hb5.all rfl <| ow_call rfl rfl (ih (nth t.parts gg) (by omega) (by omega) (by omega) _ L w5 ((rtree_of hpp).ext hK)) ?_
    rintro v6 w6 ⟨hv6, hk6⟩
    have hs6 := hk6.size
    have hK := hK.ext hk6
    obtain rfl := hv6
    refine ow_add rfl rfl rfl rfl rfl (wrap_i64 _ (by omega) (by omega)) <| ow_add rfl rfl rfl rfl rfl (wrap_i64 _ (by omega) (by omega)) <| zA <| ow_nil <| cw_region <| ow_add rfl rfl rfl rfl rfl (wrap_i64 _ (by omega) (by omega)) <| zm <| ow_nil ?_
    exact ⟨gg + 1, ⟨congrArg (Value.int .i64) (by omega), rfl, rfl, rfl⟩, ⟨hK, by omega⟩, by omega⟩
    have hgl : gg = t.parts.length := by omega
    subst hgl
    refine cw_exit <| x_hit rfl <| zr <| zm <| zA <| ow_nil <| cw_ret ?_
    exact ⟨_, rfl, by rw [hd]; rfl, hK⟩

theorem fits_ret (t : Tree) (hq1 : t.size ≤ 1000000000) (hq2 : t.len ≤ 1000000000) (v : Value) (L : List Nat) (w : World) (hv : RTree L w v t) :
    Ret Tryz.prog 67 [v] w fun r w' => r = .bool (fitsB t) ∧ Keep [] w w' := by
  have hv0 := hv
  obtain ⟨a, n, c, rfl, hn, hps⟩ := rtree_cases hv
  have hK := Keep.refl [] w
  refine ret_of [.tmp 2] 11 Tryz.func67 rfl nm67 rfl rfl ?_
  refine zr <| ow_boxA rfl rfl rfl ?_
  intro w1 hk1 hb1 hz1
  have hK := hK.ext hk1; have hv0 := hv0.ext hk1
  refine zA <| ow_nil <| zr <| zL tAgg73 tI73 rfl hb1.all rfl <| ow_call rfl rfl (depth_ret t.size t (Nat.le_refl _) hq1 _ L w1 hv0) ?_
  rintro v2 w2 ⟨hv2, hk2⟩
  have hs2 := hk2.size
  have hK := hK.ext hk2; have hv0 := hv0.ext hk2; have hb1 := hb1.ext hk2
  obtain rfl := hv2
  refine ow_leq rfl rfl rfl rfl rfl <| zm ?_
  apply ow_and 4 6 10 [6, 7, 8, 9, 10] (Keep [] w2) rfl
  intro h1
  replace h1 := tst h1
  have hJ6 := Keep.refl [] w2
  refine zL tAgg73 tI73 rfl hb1.all rfl <| ow_call rfl rfl (length_ret t.size t (Nat.le_refl _) hq1 hq2 _ L w2 hv0) ?_
  rintro v3 w3 ⟨hv3, hk3⟩
  have hs3 := hk3.size
  have hJ6 := hJ6.ext hk3
  obtain rfl := hv3
  refine ow_leq rfl rfl rfl rfl rfl <| zp rfl <| ow_nil ?_
  exact ⟨by repeat (first | with_reducible exact agree_refl | refine agree_upd rfl ?_ | refine agree_hav rfl ?_), rfl, hJ6⟩
  intro h1
  replace h1 := tst h1
  have hJ6 := Keep.refl [] w2
  refine zs <| zs <| zs <| zp rfl <| ow_nil ?_
  exact ⟨by repeat (first | with_reducible exact agree_refl | refine agree_upd rfl ?_ | refine agree_hav rfl ?_), rfl, hJ6⟩
  intro xx w3 hk3
  have hK := hK.ext hk3
  refine zA <| ow_nil <| cw_ret ?_
  exact ⟨_, rfl, congrArg Value.bool (by unfold fitsB; rw [show decide ((t.depth : Int) ≤ 60) = decide (t.depth ≤ 60) from decide_eq_decide.2 (by omega), show decide ((t.len : Int) ≤ 12000) = decide (t.len ≤ 12000) from decide_eq_decide.2 (by omega)]), hK⟩

theorem atomF_ret (s : Bytes) (w : World) : Ret Tryz.prog 85 [str s] w fun r w' => r = .agg #[str s, .slice none 0 0] ∧ Keep [] w w' := by
  have hK := Keep.refl [] w
  refine ret_gen [.cell 2 73] 5 Tryz.func85 rfl nm85 rfl rfl rfl ?_
  refine zr <| ow_allocA tI73 rfl rfl rfl ?_
  intro w1 hk1 hb2 hz1
  have hK := hK.grow; have hK := hK.ext hk1
  refine ow_nil <| zr <| zm <| ow_build (tB73_0 _ _) rfl rfl <| ow_storeA tI73 rfl rfl rfl rfl rfl hb2 rfl ?_
  intro w2 hk2 hb2 hz2
  have hK := hK.sto hk2 (by simp <;> omega)
  refine ow_nil <| cw_ret ?_
  exact ⟨[_], resultAt_blk tAgg73 tI73 rfl hb2 rfl, rfl, hK⟩

def HeadedPost (B : Nat) (L : List Nat) (h : Bytes) (ts : List Tree) (v : Value) (w : World) : Prop := ∃ a c g, v = .agg #[str [], .slice a (atomT h :: ts).length c] ∧ Gr B L w 73 2 (.slice a (atomT h :: ts).length c) g (encs (atomT h :: ts))
theorem HeadedPost.tree {B : Nat} {L : List Nat} {h : Bytes} {ts : List Tree} {v : Value} {w : World} (hp : HeadedPost B L h ts v w) : RTree L w v (listT h ts) := by
  obtain ⟨a, c, g, rfl, hO⟩ := hp; exact rtree_mk hO.trees
theorem headed_ret (h : Bytes) (ts : List Tree) (hn : ts.length ≤ 1000000) (v : Value) (L : List Nat) (w : World) (hv : RTrees L w v ts) (hL : ∀ x, x ∈ L → x < w.heap.size) :
    Ret Tryz.prog 84 [str h, v] w fun r w' => HeadedPost w.heap.size L h ts r w' ∧ Keep [] w w' := by
  obtain ⟨a, c, rfl⟩ := trees_cases hv
  have hK := Keep.refl [] w
  refine ret_gen [.cell 4 73] 11 Tryz.func84 rfl nm84 rfl rfl rfl ?_
  refine zr <| ow_allocA tI73 rfl rfl rfl ?_
  intro w1 hk1 hb4 hz1
  have hK := hK.grow; have hK := hK.ext hk1; have hv := hv.grow; have hv := hv.ext hk1
  refine ow_nil <| zr <| zm <| ow_call rfl rfl (atomF_ret h w1) ?_
  rintro v2 w2 ⟨hv2, hk2⟩
  have hs2 := hk2.size
  have hK := hK.ext hk2; have hv := hv.ext hk2; have hb4 := hb4.ext hk2
  obtain rfl := hv2
  have hvf := Rep.fresh hv (grow_mem (w := w2))
  refine ow_buildSlice1 tSl61 tI73 rfl rfl rfl rfl rfl rfl rfl rfl ?_
  intro w3 hk3 hb7 hz3
  have hK := hK.ext hk3; have hb4 := hb4.ext hk3; have hvf := hvf.ext hk3
  refine zm ?_
  have hq2 := hk2.size
  have hsz := hK.size
  have hbl4 := hb4.lt
  have hO := gr_blk (B := w.heap.size) (L := w.heap.size :: L) (sz := 2) (N := 1) (rows := encs [atomT h]) hb7 ⟨.val _, .nil _ _ _, trivial⟩ (encs_row _) rfl (by omega) (by omega) (by intro hx; simp at hx; rcases hx with hx | hx; omega; have := hL _ hx; omega) (by intro x hx; simp at hx; rcases hx with rfl | hx; omega; have := hL x hx; omega)
  refine ow_growAll tSl61 tI73 rfl rfl rfl rfl rfl rfl hO (Rep.weaken hvf (by simp)) encs_one (by rw [encs_length, encs_length]; simp; omega) ?_
  intro a4 cc4 g4 w4 hO3 hk4
  have hb4 := hb4.sto hk4 (hO.sepL (by simp))
  have hK := hO.since hK hk4
  rw [show (encs [atomT h]).length + (encs ts).length = (atomT h :: ts).length from by simp [encs_length, Nat.add_comm]] at hO3 ⊢
  rw [show encs [atomT h] ++ encs ts = encs (atomT h :: ts) from by simp [encs]] at hO3
  refine ow_build (tB73_1 _ _ _ _) rfl rfl <| ow_storeA tI73 rfl rfl rfl rfl rfl hb4 rfl ?_
  intro w5 hk5 hb4 hz5
  have hK := hK.sto hk5 (by simp <;> omega); have hO3 := hO3.sto hk5 (by simp <;> omega)
  refine ow_nil <| cw_ret ?_
  exact ⟨[_], resultAt_blk tAgg73 tI73 rfl hb4 rfl, ⟨a4, cc4, g4, rfl, hO3.weak (L' := L) (fun x hx => by simp [hx])⟩, hK⟩
end Go.Proofs.YtnkjgoholocliaaGreatDoor
