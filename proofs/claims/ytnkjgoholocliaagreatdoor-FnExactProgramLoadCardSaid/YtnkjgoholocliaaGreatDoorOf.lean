/-
  Lemmas for the law of ProgramLoad, no statement of their own: walks of the reference's ProgramValid.
-/
import Derived.Test.YtnkjgoholocliaaGreatDoorOe
import Derived.Test.YtnkjgoholocliaaGreatDoorOb
namespace Go.Proofs.YtnkjgoholocliaaGreatDoor
open Go

theorem l6tInstr_ret (t : Tree) (hs : t.size ≤ 100000) (hwf : WF t) (v : Value) (L : List Nat) (w : World) (hv : RTree L w v t) :
    Ret Tryz.prog 157 [v] w fun r w' => r = .bool (instrB t) ∧ Keep [] w w' := by
  have hv0 := hv
  obtain ⟨a, n, c, rfl, hn, hps⟩ := rtree_cases hv
  have hK := Keep.refl [] w
  have hal := parts_le t
  have hsl := shape_len (headOf t)
  refine ret_of [.tmp 2] 67 Tryz.func157 rfl nm157 rfl rfl ?_
  refine zr <| ow_boxA rfl rfl rfl ?_
  intro w1 hk1 hb1 hz1
  have hK := hK.ext hk1; have hps := hps.ext hk1; have hv0 := hv0.ext hk1
  refine zA <| ow_nil <| zr <| zL tAgg67 tI67 rfl hb1.all rfl <| ow_call rfl rfl (l4Head_ret t _ L w1 hv0) ?_
  rintro v2 w2 ⟨hv2, hk2⟩
  have hs2 := hk2.size
  have hK := hK.ext hk2; have hps := hps.ext hk2; have hb1 := hb1.ext hk2
  obtain rfl := hv2
  refine ow_call rfl rfl (l6tShape_ret _ _) ?_
  rintro _ _ ⟨rfl, rfl⟩
  refine zA <| ow_nil <| cw_seq <| zr <| zm <| ow_seql rfl rfl rfl rfl <| ow_nil <| zc rfl (fun h1 => ?_) (fun h1 => ?_)
  refine zr <| zA <| ow_nil <| cw_ret ?_
  exact ⟨_, rfl, by rw [instrB_shape h1]; rfl, hK⟩
  have hne := h1
  refine cw_skip <| cw_seq <| zr <| zm <| ow_sneq rfl rfl rfl rfl <| zm ?_
  apply ow_and 8 14 22 [14, 15, 16, 17, 18, 19, 20, 21, 22] (fun w' => w2 = w') rfl
  intro h2
  replace h2 := tst h2
  skip
  refine zf tF67_1 rfl <| zl tOne65 rfl (hb1.at rfl) <| ow_len tSl65 rfl rfl rfl <| zm <| ow_lenS tStr9 rfl rfl rfl <| ow_add rfl rfl rfl rfl rfl (wrap_i64 _ (by omega) (by omega)) <| ow_neq rfl rfl rfl rfl rfl <| zp rfl <| ow_nil ?_
  exact ⟨by repeat (first | with_reducible exact agree_refl | refine agree_upd rfl ?_ | refine agree_hav rfl ?_), rfl, rfl⟩
  intro h2
  replace h2 := tst h2
  refine zs <| zs <| zs <| zs <| zs <| zs <| zs <| zp rfl <| ow_nil ?_
  exact ⟨by repeat (first | with_reducible exact agree_refl | refine agree_upd rfl ?_ | refine agree_hav rfl ?_), rfl, rfl⟩
  rintro xx _ rfl
  refine zm ?_
  apply ow_or 5 23 28 [23, 24, 25, 26, 27, 28] (fun w' => w2 = w') rfl
  intro h3
  replace h3 := tst h3
  refine zs <| zs <| zs <| zs <| zp rfl <| ow_nil ?_
  exact ⟨by repeat (first | with_reducible exact agree_refl | refine agree_upd rfl ?_ | refine agree_hav rfl ?_), rfl, rfl⟩
  intro h3
  replace h3 := tst h3
  skip
  refine zf tF67_1 rfl <| zl tOne65 rfl (hb1.at rfl) <| ow_len tSl65 rfl rfl rfl <| ow_lss rfl rfl rfl rfl rfl <| zp rfl <| ow_nil ?_
  exact ⟨by repeat (first | with_reducible exact agree_refl | refine agree_upd rfl ?_ | refine agree_hav rfl ?_), rfl, rfl⟩
  rintro xx _ rfl
  refine ow_nil <| zc rfl (fun h4 => ?_) (fun h4 => ?_)
  have hb := (lenB_z hn).symm.trans h4
  refine zr <| zA <| ow_nil <| cw_ret ?_
  exact ⟨_, rfl, by rw [instrB_len hb]; rfl, hK⟩
  have hb := (lenB_z hn).symm.trans h4
  have h2 := lenB_two hb
  have hhd := headOf_atom hne
  refine cw_skip <| cw_seq <| zr <| zA <| ow_nil <| cw_block ?_
  refine cw_loop (fun k : Nat => [(1, .pointer (some ⟨w.heap.size, 0, none⟩)), (3, str (shapeOf (headOf t))), (4, .int .i64 (k : Int))]) (fun k w' => Keep [] w w' ∧ Keep [] w2 w' ∧ 1 ≤ k ∧ k ≤ t.parts.length ∧ ∀ i, i < k → 1 ≤ i → partsB t i = true) (fun k => t.parts.length - k) (1) (⟨rfl, rfl, rfl⟩) (⟨hK, Keep.refl [] _, by omega, by omega, by intro i hi h1; omega⟩) ?_
  intro gg w3 e3 hI
  obtain ⟨hK, hk1, hk, hkl, hall⟩ := hI
  have hps := hps.ext hk1; have hb1 := hb1.ext hk1
  refine cw_seq <| zr <| zm <| zf tF67_1 rfl <| zl tOne65 rfl (hb1.at rfl) <| ow_len tSl65 rfl rfl rfl <| ow_lss rfl rfl rfl rfl rfl <| ow_nil <| zc rfl (fun h5 => ?_) (fun h5 => ?_)
  have hp := nth_get (ps := t.parts) (i := gg) (by omega)
  obtain ⟨b, off, pa, pn, pc, rfl, hc, hpn, hpp⟩ := rtrees_get hps hp
  have hsp := List.length_pos_iff.2 hne
  refine cw_skip <| cw_seq <| cw_block <| cw_seq ?_
  refine cw_draw tMixed kept_new 14 [36, 37, 38, 39, 40, 41, 42, 43, 44, 45, 46, 47, 48, 49] [36, 37, 38, 39, 40, 41, 42, 43, 44, 45, 46, 47, 48, 49] [[], [0], [], [1, 2], [3], [], [], [], [7], [6, 8], [9], [5, 10], [4, 11], [12]] [fun v _ => v = (.pointer (some ⟨w.heap.size, 0 + 1, none⟩)), fun v _ => v = (.slice (some ⟨b, off, none⟩) n c), fun v _ => v = (.int .i64 (gg : Int)), fun v _ => v = (.pointer (some ⟨b, off + gg * 2, none⟩)), fun v _ => v = (.agg #[str (nth t.parts gg).atom, .slice pa pn pc]), fun v _ => v = (str (shapeOf (headOf t))), fun v _ => v = (.int .i64 (gg : Int)), fun v _ => v = (str (shapeOf (headOf t))), fun v _ => v = (.int .i64 ((shapeOf (headOf t)).length : Int)), fun v _ => v = (.int .i64 ((min gg (shapeOf (headOf t)).length : Nat) : Int)), fun v _ => v = (.int .i64 ((min gg (shapeOf (headOf t)).length - 1 : Nat) : Int)), fun v _ => v = (.int .u8 (kindAt (shapeOf (headOf t)) gg)), fun v _ => v = (.bool (partsB t gg)), fun v _ => v = (.bool (!partsB t gg))] (by decide) (stab_eq (stab_eq (stab_eq (stab_eq (stab_eq (stab_eq (stab_eq (stab_eq (stab_eq (stab_eq (stab_eq (stab_eq (stab_eq (stab_eq trivial)))))))))))))) (fun wd hkd => ?_) ?_
  refine certs_cons ?_ ?_
  intro x vs w4 e hk4 hd he
  replace hk4 := kept_new.trans hkd hk4
  replace he : e = over (havoc _ x _) [] := he
  subst he
  refine zf tF67_1 rfl <| ow_nil ?_
  exact ⟨kept_new.refl _, rfl, by first | exact agree_put | exact agree_refl⟩
  refine certs_cons ?_ ?_
  intro x vs w4 e hk4 hd he
  have d0 : vs 0 = (.pointer (some ⟨w.heap.size, 0 + 1, none⟩)) := hd
  replace hk4 := kept_new.trans hkd hk4
  have hb1 := hb1.ext hk4
  replace he : e = over (havoc _ x _) [(36, vs 0)] := he
  rw [d0] at he
  subst he
  refine zl tOne65 rfl (hb1.at rfl) <| ow_nil ?_
  exact ⟨kept_new.refl _, rfl, by first | exact agree_put | exact agree_refl⟩
  refine certs_cons ?_ ?_
  intro x vs w4 e hk4 hd he
  replace hk4 := kept_new.trans hkd hk4
  replace he : e = over (havoc _ x _) [] := he
  subst he
  refine zm <| ow_nil ?_
  exact ⟨kept_new.refl _, rfl, by first | exact agree_put | exact agree_refl⟩
  refine certs_cons ?_ ?_
  intro x vs w4 e hk4 hd he
  obtain ⟨d1, d2⟩ : (vs 1 = (.slice (some ⟨b, off, none⟩) n c)) ∧ (vs 2 = (.int .i64 (gg : Int))) := hd
  replace hk4 := kept_new.trans hkd hk4
  replace he : e = over (havoc _ x _) [(37, vs 1), (38, vs 2)] := he
  rw [d1, d2] at he
  subst he
  refine zi tSl65 tI67 rfl rfl (by omega) <| ow_nil ?_
  exact ⟨kept_new.refl _, rfl, by first | exact agree_put | exact agree_refl⟩
  refine certs_cons ?_ ?_
  intro x vs w4 e hk4 hd he
  have d3 : vs 3 = (.pointer (some ⟨b, off + gg * 2, none⟩)) := hd
  replace hk4 := kept_new.trans hkd hk4
  have hc := hc.ext hk4
  replace he : e = over (havoc _ x _) [(39, vs 3)] := he
  rw [d3] at he
  subst he
  refine zL tAgg67 tI67 rfl (hc) (rfl) <| ow_nil ?_
  exact ⟨kept_new.refl _, rfl, by first | exact agree_put | exact agree_refl⟩
  refine certs_cons ?_ ?_
  intro x vs w4 e hk4 hd he
  replace hk4 := kept_new.trans hkd hk4
  replace he : e = over (havoc _ x _) [] := he
  subst he
  refine zm <| ow_nil ?_
  exact ⟨kept_new.refl _, rfl, by first | exact agree_put | exact agree_refl⟩
  refine certs_cons ?_ ?_
  intro x vs w4 e hk4 hd he
  replace hk4 := kept_new.trans hkd hk4
  replace he : e = over (havoc _ x _) [] := he
  subst he
  refine zm <| ow_nil ?_
  exact ⟨kept_new.refl _, rfl, by first | exact agree_put | exact agree_refl⟩
  refine certs_cons ?_ ?_
  intro x vs w4 e hk4 hd he
  replace hk4 := kept_new.trans hkd hk4
  replace he : e = over (havoc _ x _) [] := he
  subst he
  refine zm <| ow_nil ?_
  exact ⟨kept_new.refl _, rfl, by first | exact agree_put | exact agree_refl⟩
  refine certs_cons ?_ ?_
  intro x vs w4 e hk4 hd he
  have d7 : vs 7 = (str (shapeOf (headOf t))) := hd
  replace hk4 := kept_new.trans hkd hk4
  replace he : e = over (havoc _ x _) [(43, vs 7)] := he
  rw [d7] at he
  subst he
  refine ow_lenS tStr9 rfl rfl rfl <| ow_nil ?_
  exact ⟨kept_new.refl _, rfl, by first | exact agree_put | exact agree_refl⟩
  refine certs_cons ?_ ?_
  intro x vs w4 e hk4 hd he
  obtain ⟨d6, d8⟩ : (vs 6 = (.int .i64 (gg : Int))) ∧ (vs 8 = (.int .i64 ((shapeOf (headOf t)).length : Int))) := hd
  replace hk4 := kept_new.trans hkd hk4
  replace he : e = over (havoc _ x _) [(42, vs 6), (44, vs 8)] := he
  rw [d6, d8] at he
  subst he
  refine ow_min rfl rfl rfl rfl (show (if ((shapeOf (headOf t)).length : Int) < (gg : Int) then ((shapeOf (headOf t)).length : Int) else (gg : Int)) = ((min gg (shapeOf (headOf t)).length : Nat) : Int) from by split <;> omega) <| ow_nil ?_
  exact ⟨kept_new.refl _, rfl, by first | exact agree_put | exact agree_refl⟩
  refine certs_cons ?_ ?_
  intro x vs w4 e hk4 hd he
  have d9 : vs 9 = (.int .i64 ((min gg (shapeOf (headOf t)).length : Nat) : Int)) := hd
  replace hk4 := kept_new.trans hkd hk4
  replace he : e = over (havoc _ x _) [(45, vs 9)] := he
  rw [d9] at he
  subst he
  refine ow_sub rfl rfl rfl rfl rfl (show IntKind.i64.wrap (((min gg (shapeOf (headOf t)).length : Nat) : Int) - 1) = ((min gg (shapeOf (headOf t)).length - 1 : Nat) : Int) from by rw [wrap_i64 _ (by omega) (by omega)]; omega) <| ow_nil ?_
  exact ⟨kept_new.refl _, rfl, by first | exact agree_put | exact agree_refl⟩
  refine certs_cons ?_ ?_
  intro x vs w4 e hk4 hd he
  obtain ⟨d5, d10⟩ : (vs 5 = (str (shapeOf (headOf t)))) ∧ (vs 10 = (.int .i64 ((min gg (shapeOf (headOf t)).length - 1 : Nat) : Int))) := hd
  replace hk4 := kept_new.trans hkd hk4
  replace he : e = over (havoc _ x _) [(41, vs 5), (46, vs 10)] := he
  rw [d5, d10] at he
  subst he
  refine ow_sindex tStr9 rfl rfl rfl rfl (get_getD (by omega)) <| ow_nil ?_
  exact ⟨kept_new.refl _, rfl, by first | exact agree_put | exact agree_refl⟩
  refine certs_cons ?_ ?_
  intro x vs w4 e hk4 hd he
  obtain ⟨d4, d11⟩ : (vs 4 = (.agg #[str (nth t.parts gg).atom, .slice pa pn pc])) ∧ (vs 11 = (.int .u8 (kindAt (shapeOf (headOf t)) gg))) := hd
  replace hk4 := kept_new.trans hkd hk4
  have hpp := hpp.ext hk4
  replace he : e = over (havoc _ x _) [(40, vs 4), (47, vs 11)] := he
  rw [d4, d11] at he
  subst he
  refine ow_call rfl rfl (l6tPart_ret (nth t.parts gg) (by have := nth_size (t := t) (i := gg) (by omega); omega) (hwf.nth (by omega)) _ _ L w4 (rtree_of hpp)) ?_
  rintro v5 w5 ⟨hv5, hk5⟩
  have hs5 := hk5.size
  obtain rfl := hv5
  refine ow_nil ?_
  exact ⟨kept_new.of hk5, rfl, by first | exact agree_put | exact agree_refl⟩
  refine certs_cons ?_ ?_
  intro x vs w4 e hk4 hd he
  have d12 : vs 12 = (.bool (partsB t gg)) := hd
  replace hk4 := kept_new.trans hkd hk4
  replace he : e = over (havoc _ x _) [(48, vs 12)] := he
  rw [d12] at he
  subst he
  refine ow_not rfl rfl rfl <| ow_nil ?_
  exact ⟨kept_new.refl _, rfl, by first | exact agree_put | exact agree_refl⟩
  exact trivial
  intro x vs w43 hk43 hdraw
  have d0 : vs 0 = (.pointer (some ⟨w.heap.size, 0 + 1, none⟩)) := hdraw 0 (by decide)
  have d1 : vs 1 = (.slice (some ⟨b, off, none⟩) n c) := hdraw 1 (by decide)
  have d2 : vs 2 = (.int .i64 (gg : Int)) := hdraw 2 (by decide)
  have d3 : vs 3 = (.pointer (some ⟨b, off + gg * 2, none⟩)) := hdraw 3 (by decide)
  have d4 : vs 4 = (.agg #[str (nth t.parts gg).atom, .slice pa pn pc]) := hdraw 4 (by decide)
  have d5 : vs 5 = (str (shapeOf (headOf t))) := hdraw 5 (by decide)
  have d6 : vs 6 = (.int .i64 (gg : Int)) := hdraw 6 (by decide)
  have d7 : vs 7 = (str (shapeOf (headOf t))) := hdraw 7 (by decide)
  have d8 : vs 8 = (.int .i64 ((shapeOf (headOf t)).length : Int)) := hdraw 8 (by decide)
  have d9 : vs 9 = (.int .i64 ((min gg (shapeOf (headOf t)).length : Nat) : Int)) := hdraw 9 (by decide)
  have d10 : vs 10 = (.int .i64 ((min gg (shapeOf (headOf t)).length - 1 : Nat) : Int)) := hdraw 10 (by decide)
  have d11 : vs 11 = (.int .u8 (kindAt (shapeOf (headOf t)) gg)) := hdraw 11 (by decide)
  have d12 : vs 12 = (.bool (partsB t gg)) := hdraw 12 (by decide)
  have d13 : vs 13 = (.bool (!partsB t gg)) := hdraw 13 (by decide)
  have hK := hK.ext hk43; have hk1 := hk1.ext hk43
  change OW _ _ _ _ [] (over (havoc _ x _) [(36, vs 0), (37, vs 1), (38, vs 2), (39, vs 3), (40, vs 4), (41, vs 5), (42, vs 6), (43, vs 7), (44, vs 8), (45, vs 9), (46, vs 10), (47, vs 11), (48, vs 12), (49, vs 13)]) _
  rw [d0, d1, d2, d3, d4, d5, d6, d7, d8, d9, d10, d11, d12, d13]
  refine ow_nil <| zc rfl (fun h6 => ?_) (fun h6 => ?_)
  have hq : partsB t gg = false := by simpa using h6
  refine zr <| zA <| ow_nil <| cw_ret ?_
  exact ⟨_, rfl, by rw [instrB_part (by omega) hk hq]; rfl, hK⟩
  have hq : partsB t gg = true := by simpa using h6
  refine cw_skip <| cw_region <| zm <| ow_add rfl rfl rfl rfl rfl (wrap_i64 _ (by omega) (by omega)) <| zA <| ow_nil ?_
  exact ⟨gg + 1, ⟨rfl, rfl, rfl⟩, ⟨hK, hk1, by omega, by omega, by intro i hi h1; rcases Nat.lt_or_ge i gg with h | h; exact hall i h h1; rw [show i = gg by omega]; exact hq⟩, by omega⟩
  have hb2 := instrB_all hne hb (fun i hi => hall i (by omega))
  have hp0 := nth_get hhd.2.1
  obtain ⟨b, off, pa, pn, pc, rfl, hc0, hpn, hpp⟩ := rtrees_get hps hp0
  refine cw_exit <| x_hit rfl <| cw_seq <| zr <| zf tF67_1 rfl <| zl tOne65 rfl (hb1.at rfl) <| zi (i := 0) tSl65 tI67 rfl rfl (by rw [hn]; exact hhd.2.1) <| zf tF67_0 rfl <| zl tOne9 rfl (hc0 0 _ rfl) <| ow_seql rfl rfl rfl rfl <| ow_nil <| zc rfl (fun h7 => ?_) (fun h7 => ?_)
  have hg : headOf t = [103, 101, 116] := hhd.2.2.trans h7
  have hl4 := lenB_get hb hg
  have hp3 := nth_get (ps := t.parts) (i := 3) (by omega)
  obtain ⟨b1, off1, pa1, pn1, pc1, hbb, hc1, hpn1, hpp1⟩ := rtrees_get hps hp3
  cases hbb
  refine zr <| zf tF67_1 rfl <| zl tOne65 rfl (hb1.at rfl) <| zi (i := 3) tSl65 tI67 rfl rfl (by omega) <| zf tF67_0 rfl <| zl tOne9 rfl (hc1 0 _ rfl) <| ow_call rfl rfl (l2Number_ret _ _) ?_
  rintro _ _ ⟨rfl, rfl⟩
  refine zm <| zx (i := 0) rfl rfl <| zx (i := 1) rfl rfl <| zA <| zA <| ow_nil <| zr <| zm <| ow_geq rfl rfl rfl rfl rfl <| zA <| ow_nil <| cw_ret ?_
  exact ⟨_, rfl, show Value.bool _ = Value.bool _ from congrArg _ (by rw [hb2, show decide (headOf t ≠ [103, 101, 116]) = false from decide_eq_false (fun h => h hg), Bool.false_or]), hK⟩
  have hg : headOf t ≠ [103, 101, 116] := fun h => h7 (hhd.2.2.symm.trans h)
  refine cw_skip <| zr <| zA <| ow_nil <| cw_ret ?_
  exact ⟨_, rfl, by rw [hb2, decide_eq_true hg]; rfl, hK⟩
end Go.Proofs.YtnkjgoholocliaaGreatDoor

namespace Go.Proofs.YtnkjgoholocliaaGreatDoor
open Go

theorem TargetValid_ret (s : Bytes) (w : World) : Ret Tryz.prog 131 [str s] w fun r w' => r = .bool (targetS s) ∧ Keep [] w w' := by
  have hK := Keep.refl [] w
  refine ret_of [.tmp 2] 15 Tryz.func131 rfl nm131 rfl rfl ?_
  refine zr <| zA <| ow_nil <| zr <| zm <| ow_call rfl rfl (l1Parse_ret s [] w (by simp)) ?_
  rintro v1 w1 ⟨hv1, hk1⟩
  have hs1 := hk1.size
  have hK := hK.ext hk1
  obtain ⟨t, tv, rfl, ht, hpt⟩ := hv1
  obtain ⟨pa, pn, pc, rfl, hpn, hps⟩ := rtree_cases ht
  refine zm <| zx (i := 0) rfl rfl <| zx (i := 1) rfl rfl <| ow_allocA tI67 rfl rfl rfl ?_
  intro w2 hk2 hb3 hz2
  have hK := hK.grow; have hK := hK.ext hk2; have ht := ht.grow; have ht := ht.ext hk2
  refine ow_storeA tI67 rfl rfl rfl rfl rfl hb3 rfl ?_
  intro w3 hk3 hb3 hz3
  have hK := hK.sto hk3 (by simp <;> omega); have ht := ht.sto hk3 (by simp <;> omega)
  refine zA <| ow_nil <| zr <| zm <| zm ?_
  apply ow_and 3 11 14 [11, 12, 13, 14] (Keep [] w3) rfl
  intro h1
  replace h1 := tst h1
  have hJ11 := Keep.refl [] w3
  obtain ⟨t', ht'⟩ := Option.isSome_iff_exists.1 h1
  have htt := hpt t' ht'
  have hwf := wf_parse ht'
  have hsz := size_parse ht'
  rw [← htt] at hwf hsz
  refine zL tAgg67 tI67 rfl hb3.all rfl <| ow_call rfl rfl (l6tType_ret t.size t (Nat.le_refl _) (by omega) hwf false _ _ w3 ht) ?_
  rintro v4 w4 ⟨hv4, hk4⟩
  have hs4 := hk4.size
  have hJ11 := hJ11.ext hk4
  obtain rfl := hv4
  refine zp rfl <| ow_nil ?_
  exact ⟨by repeat (first | with_reducible exact agree_refl | refine agree_upd rfl ?_ | refine agree_hav rfl ?_), rfl, hJ11⟩
  intro h1
  replace h1 := tst h1
  have hJ11 := Keep.refl [] w3
  refine zs <| zs <| zp rfl <| ow_nil ?_
  exact ⟨by repeat (first | with_reducible exact agree_refl | refine agree_upd rfl ?_ | refine agree_hav rfl ?_), rfl, hJ11⟩
  intro xx w4 hk4
  have hK := hK.ext hk4
  refine zA <| ow_nil <| cw_ret ?_
  exact ⟨_, rfl, show Value.bool _ = Value.bool _ from congrArg _ (seen_eq hpt), hK⟩

theorem InstrValid_ret (s : Bytes) (w : World) : Ret Tryz.prog 132 [str s] w fun r w' => r = .bool (instrS s) ∧ Keep [] w w' := by
  have hK := Keep.refl [] w
  refine ret_of [.tmp 2] 15 Tryz.func132 rfl nm132 rfl rfl ?_
  refine zr <| zA <| ow_nil <| zr <| zm <| ow_call rfl rfl (l1Parse_ret s [] w (by simp)) ?_
  rintro v1 w1 ⟨hv1, hk1⟩
  have hs1 := hk1.size
  have hK := hK.ext hk1
  obtain ⟨t, tv, rfl, ht, hpt⟩ := hv1
  obtain ⟨pa, pn, pc, rfl, hpn, hps⟩ := rtree_cases ht
  refine zm <| zx (i := 0) rfl rfl <| zx (i := 1) rfl rfl <| ow_allocA tI67 rfl rfl rfl ?_
  intro w2 hk2 hb3 hz2
  have hK := hK.grow; have hK := hK.ext hk2; have ht := ht.grow; have ht := ht.ext hk2
  refine ow_storeA tI67 rfl rfl rfl rfl rfl hb3 rfl ?_
  intro w3 hk3 hb3 hz3
  have hK := hK.sto hk3 (by simp <;> omega); have ht := ht.sto hk3 (by simp <;> omega)
  refine zA <| ow_nil <| zr <| zm <| zm ?_
  apply ow_and 3 11 14 [11, 12, 13, 14] (Keep [] w3) rfl
  intro h1
  replace h1 := tst h1
  have hJ11 := Keep.refl [] w3
  obtain ⟨t', ht'⟩ := Option.isSome_iff_exists.1 h1
  have htt := hpt t' ht'
  have hwf := wf_parse ht'
  have hsz := size_parse ht'
  rw [← htt] at hwf hsz
  refine zL tAgg67 tI67 rfl hb3.all rfl <| ow_call rfl rfl (l6tInstr_ret t (by omega) hwf _ _ w3 ht) ?_
  rintro v4 w4 ⟨hv4, hk4⟩
  have hs4 := hk4.size
  have hJ11 := hJ11.ext hk4
  obtain rfl := hv4
  refine zp rfl <| ow_nil ?_
  exact ⟨by repeat (first | with_reducible exact agree_refl | refine agree_upd rfl ?_ | refine agree_hav rfl ?_), rfl, hJ11⟩
  intro h1
  replace h1 := tst h1
  have hJ11 := Keep.refl [] w3
  refine zs <| zs <| zp rfl <| ow_nil ?_
  exact ⟨by repeat (first | with_reducible exact agree_refl | refine agree_upd rfl ?_ | refine agree_hav rfl ?_), rfl, hJ11⟩
  intro xx w4 hk4
  have hK := hK.ext hk4
  refine zA <| ow_nil <| cw_ret ?_
  exact ⟨_, rfl, show Value.bool _ = Value.bool _ from congrArg _ (seen_eq hpt), hK⟩

theorem InstrLast_ret (s : Bytes) (w : World) : Ret Tryz.prog 133 [str s] w fun r w' => r = .bool (lastS s) ∧ Keep [] w w' := by
  have hK := Keep.refl [] w
  refine ret_of [.tmp 2] 31 Tryz.func133 rfl nm133 rfl rfl ?_
  refine zr <| zA <| ow_nil <| zr <| zm <| ow_call rfl rfl (l1Parse_ret s [] w (by simp)) ?_
  rintro v1 w1 ⟨hv1, hk1⟩
  have hs1 := hk1.size
  have hK := hK.ext hk1
  obtain ⟨t, tv, rfl, ht, hpt⟩ := hv1
  obtain ⟨pa, pn, pc, rfl, hpn, hps⟩ := rtree_cases ht
  refine zm <| zx (i := 0) rfl rfl <| zx (i := 1) rfl rfl <| ow_allocA tI67 rfl rfl rfl ?_
  intro w2 hk2 hb3 hz2
  have hK := hK.grow; have hK := hK.ext hk2; have ht := ht.grow; have ht := ht.ext hk2; have hps := hps.grow; have hps := hps.ext hk2
  refine ow_storeA tI67 rfl rfl rfl rfl rfl hb3 rfl ?_
  intro w3 hk3 hb3 hz3
  have hK := hK.sto hk3 (by simp <;> omega); have ht := ht.sto hk3 (by simp <;> omega); have hps := hps.sto hk3 (by simp <;> omega)
  refine zA <| ow_nil <| zr <| zm <| zm ?_
  apply ow_and 3 11 14 [11, 12, 13, 14] (Keep [] w3) rfl
  intro h1
  replace h1 := tst h1
  have hJ11 := Keep.refl [] w3
  obtain ⟨t', ht'⟩ := Option.isSome_iff_exists.1 h1
  have htt := hpt t' ht'
  have hwf := wf_parse ht'
  have hsz := size_parse ht'
  rw [← htt] at hwf hsz
  refine zL tAgg67 tI67 rfl hb3.all rfl <| ow_call rfl rfl (l6tInstr_ret t (by omega) hwf _ _ w3 ht) ?_
  rintro v4 w4 ⟨hv4, hk4⟩
  have hs4 := hk4.size
  have hJ11 := hJ11.ext hk4
  obtain rfl := hv4
  refine zp rfl <| ow_nil ?_
  exact ⟨by repeat (first | with_reducible exact agree_refl | refine agree_upd rfl ?_ | refine agree_hav rfl ?_), rfl, hJ11⟩
  intro h1
  replace h1 := tst h1
  have hJ11 := Keep.refl [] w3
  refine zs <| zs <| zp rfl <| ow_nil ?_
  exact ⟨by repeat (first | with_reducible exact agree_refl | refine agree_upd rfl ?_ | refine agree_hav rfl ?_), rfl, hJ11⟩
  intro xx w4 hk4
  have hK := hK.ext hk4; have hps := hps.ext hk4; have hb3 := hb3.ext hk4
  refine zm ?_
  apply ow_and 15 15 30 [15, 16, 17, 18, 19, 20, 21, 22, 23, 24, 25, 26, 27, 28, 29, 30] (fun w' => w4 = w') rfl
  intro h2
  replace h2 := tst h2
  simp only [Bool.and_eq_true] at h2
  have hq := instrB_head h2.2
  have hp0 := nth_get hq
  obtain ⟨b, off, pa0, pn0, pc0, rfl, hc0, hpn0, hpp⟩ := rtrees_get hps hp0
  refine zf tF67_1 rfl <| zl tOne65 rfl (hb3.at rfl) <| zi (i := 0) tSl65 tI67 rfl rfl (by rw [hpn]; exact hq) <| zf tF67_0 rfl <| zl tOne9 rfl (hc0 0 _ rfl) <| ow_seql rfl rfl rfl rfl <| zm ?_
  apply ow_or 7 22 29 [22, 23, 24, 25, 26, 27, 28, 29] (fun w' => w4 = w') rfl
  intro h3
  replace h3 := tst h3
  refine zs <| zs <| zs <| zs <| zs <| zs <| zp rfl <| ow_nil ?_
  exact ⟨by repeat (first | with_reducible exact agree_refl | refine agree_upd rfl ?_ | refine agree_hav rfl ?_), rfl, rfl⟩
  intro h3
  replace h3 := tst h3
  refine zf tF67_1 rfl <| zl tOne65 rfl (hb3.at rfl) <| zi (i := 0) tSl65 tI67 rfl rfl (by rw [hpn]; exact hq) <| zf tF67_0 rfl <| zl tOne9 rfl (hc0 0 _ rfl) <| ow_seql rfl rfl rfl rfl <| zp rfl <| ow_nil ?_
  exact ⟨by repeat (first | with_reducible exact agree_refl | refine agree_upd rfl ?_ | refine agree_hav rfl ?_), rfl, rfl⟩
  rintro xx _ rfl
  refine zp rfl <| ow_nil ?_
  exact ⟨by repeat (first | with_reducible exact agree_refl | refine agree_upd rfl ?_ | refine agree_hav rfl ?_), rfl, rfl⟩
  intro h2
  replace h2 := tst h2
  refine zs <| zs <| zs <| zs <| zs <| zs <| zs <| zs <| zs <| zs <| zs <| zs <| zs <| zs <| zp rfl <| ow_nil ?_
  exact ⟨by repeat (first | with_reducible exact agree_refl | refine agree_upd rfl ?_ | refine agree_hav rfl ?_), rfl, rfl⟩
  rintro xx _ rfl
  refine zA <| ow_nil <| cw_ret ?_
  exact ⟨_, rfl, show Value.bool _ = Value.bool _ from congrArg _ (by rw [Bool.and_assoc]; exact seen_eq (f := lastB) hpt), hK⟩
end Go.Proofs.YtnkjgoholocliaaGreatDoor

namespace Go.Proofs.YtnkjgoholocliaaGreatDoor
open Go

theorem l6tFind_ret (bs : List Bk) (hb : bs.length < 9223372036854775807) (l : Bytes) (v : Value) (L : List Nat) (w : World) (hv : RBks L w v bs) :
    Ret Tryz.prog 71 [v, str l] w fun r w' => r = .int .i64 (findZ bs l) ∧ w = w' := by
  obtain ⟨a, n, c, rfl, hn⟩ := rbks_cases hv
  refine ret_of [.tmp 4] 20 Tryz.func71 rfl nm71 rfl rfl ?_
  refine zr <| zA <| ow_nil <| cw_seq <| zr <| zA <| ow_nil <| cw_block ?_
  refine cw_loop (fun k : Nat => [(0, .slice a n c), (1, str l), (5, .int .i64 (k : Int))]) (fun k w' => w' = w ∧ k ≤ bs.length ∧ ∀ i, i < k → (bth bs i).label ≠ l) (fun k => bs.length - k) (0) (⟨rfl, rfl, rfl⟩) (⟨rfl, by omega, by intro i hi; omega⟩) ?_
  intro gg w1 e1 hI
  obtain ⟨rfl, hk, hall⟩ := hI
  refine cw_seq <| zr <| zm <| zm <| ow_len tSl25 rfl rfl rfl <| ow_lss rfl rfl rfl rfl rfl <| ow_nil <| zc rfl (fun h1 => ?_) (fun h1 => ?_)
  have hg := bth_get (bs := bs) (i := gg) (by omega)
  obtain ⟨b, off, a1, n1, c1, a2, n2, c2, rfl, hc, hn1, hn2, hs1, hs2⟩ := rbks_get hv hg
  refine cw_skip <| cw_seq <| cw_block <| zr <| zm <| zm <| zi tSl25 tI55 rfl rfl (by omega) <| zf tF55_0 rfl <| zl tOne9 rfl (hc 0 _ rfl) <| zm <| ow_seql rfl rfl rfl rfl <| ow_nil <| zc rfl (fun h2 => ?_) (fun h2 => ?_)
  have hf := findZ_at (by omega) hall h2
  refine zr <| zm <| zA <| ow_nil <| cw_ret ?_
  exact ⟨_, rfl, by rw [hf]; rfl, rfl⟩
  refine cw_skip <| cw_region <| zm <| ow_add rfl rfl rfl rfl rfl (wrap_i64 _ (by omega) (by omega)) <| zA <| ow_nil ?_
  exact ⟨gg + 1, ⟨rfl, rfl, rfl⟩, ⟨rfl, by omega, by intro i hi; rcases Nat.lt_or_ge i gg with h | h; exact hall i h; rw [show i = gg by omega]; exact h2⟩, by omega⟩
  have hf := findZ_no (fun i hi => hall i (by omega))
  refine cw_exit <| x_hit rfl <| zr <| zA <| ow_nil <| cw_ret ?_
  exact ⟨_, rfl, by rw [hf]; rfl, rfl⟩

theorem BlockValid_ret (k : Bk) (hl : k.label.length < 1000000000) (hn1 : k.needs.length < 1000000000) (hn2 : k.code.length < 1000000000) (v : Value) (L : List Nat) (w : World) (hv : RBk L w v k) :
    Ret Tryz.prog 97 [v] w fun r w' => r = .bool (blockB k) ∧ Keep [] w w' := by
  obtain ⟨a1, n1, c1, a2, n2, c2, rfl, he1, he2, hs1, hs2⟩ := rbk_cases hv
  have hK := Keep.refl [] w
  refine ret_of [.tmp 2] 65 Tryz.func97 rfl nm97 rfl rfl ?_
  refine zr <| ow_boxA rfl rfl rfl ?_
  intro w1 hk1 hb1 hz1
  have hK := hK.ext hk1; have hs1 := hs1.ext hk1; have hs2 := hs2.ext hk1
  refine zA <| ow_nil <| cw_seq <| zr <| zf tF55_0 rfl <| zl tOne9 rfl (hb1.at rfl) <| ow_call rfl rfl (l6tLabel_ret _ (by omega) _) ?_
  rintro _ _ ⟨rfl, rfl⟩
  refine ow_not rfl rfl rfl <| zm ?_
  apply ow_or 5 9 14 [9, 10, 11, 12, 13, 14] (fun w' => w1 = w') rfl
  intro h1
  replace h1 := tst h1
  refine zs <| zs <| zs <| zs <| zp rfl <| ow_nil ?_
  exact ⟨by repeat (first | with_reducible exact agree_refl | refine agree_upd rfl ?_ | refine agree_hav rfl ?_), rfl, rfl⟩
  intro h1
  replace h1 := tst h1
  refine zf tF55_1 rfl <| zl tOne35 rfl (hb1.at rfl) <| ow_len tSl35 rfl rfl rfl <| ow_gtr rfl rfl rfl rfl rfl <| zp rfl <| ow_nil ?_
  exact ⟨by repeat (first | with_reducible exact agree_refl | refine agree_upd rfl ?_ | refine agree_hav rfl ?_), rfl, rfl⟩
  rintro xx _ rfl
  refine zm ?_
  apply ow_or 6 15 21 [15, 16, 17, 18, 19, 20, 21] (fun w' => w1 = w') rfl
  intro h2
  replace h2 := tst h2
  refine zs <| zs <| zs <| zs <| zs <| zp rfl <| ow_nil ?_
  exact ⟨by repeat (first | with_reducible exact agree_refl | refine agree_upd rfl ?_ | refine agree_hav rfl ?_), rfl, rfl⟩
  intro h2
  replace h2 := tst h2
  refine zf tF55_2 rfl <| zl tOne35 rfl (hb1.at rfl) <| ow_len tSl35 rfl rfl rfl <| ow_call rfl rfl (l6In_ret _ _ _ _) ?_
  rintro _ _ ⟨rfl, rfl⟩
  refine ow_not rfl rfl rfl <| zp rfl <| ow_nil ?_
  exact ⟨by repeat (first | with_reducible exact agree_refl | refine agree_upd rfl ?_ | refine agree_hav rfl ?_), rfl, rfl⟩
  rintro xx _ rfl
  refine ow_nil <| zc rfl (fun h3 => ?_) (fun h3 => ?_)
  rw [blockB_z he1 he2] at h3
  have hb := blockB_head (b := k) (notb_t h3)
  refine zr <| zA <| ow_nil <| cw_ret ?_
  exact ⟨_, rfl, by rw [hb]; rfl, hK⟩
  rw [blockB_z he1 he2] at h3
  have hb : (isLabel k.label && decide (k.needs.length ≤ 40) && (decide (1 ≤ k.code.length) && decide (k.code.length ≤ 80))) = true := notb_f h3
  refine cw_skip <| cw_seq <| zr <| zA <| ow_nil <| cw_block ?_
  refine cw_loop (fun i : Nat => [(1, .pointer (some ⟨w.heap.size, 0, none⟩)), (3, .int .i64 (i : Int))]) (fun i w' => Keep [] w w' ∧ Keep [] w1 w' ∧ i ≤ k.needs.length ∧ ∀ j, j < i → targetS (sth k.needs j) = true) (fun i => k.needs.length - i) (0) (⟨rfl, rfl⟩) (⟨hK, Keep.refl [] _, by omega, by intro i hi; omega⟩) ?_
  intro gg w2 e2 hI
  obtain ⟨hK, hk1, hk, hall⟩ := hI
  have hs1 := hs1.ext hk1; have hs2 := hs2.ext hk1; have hb1 := hb1.ext hk1
  refine cw_seq <| zr <| zm <| zf tF55_1 rfl <| zl tOne35 rfl (hb1.at rfl) <| ow_len tSl35 rfl rfl rfl <| ow_lss rfl rfl rfl rfl rfl <| ow_nil <| zc rfl (fun h4 => ?_) (fun h4 => ?_)
  have hg := sth_get (xs := k.needs) (i := gg) (by omega)
  obtain ⟨b, off, rfl, hc⟩ := rstrs_get hs1 hg
  refine cw_skip <| cw_seq <| cw_block <| zr <| zf tF55_1 rfl <| zl tOne35 rfl (hb1.at rfl) <| zm <| zi tSl35 tI9 rfl rfl (by omega) <| zl tOne9 rfl (hc 0 _ rfl) <| ow_call rfl rfl (TargetValid_ret _ w2) ?_
  rintro v3 w3 ⟨hv3, hk3⟩
  have hs3 := hk3.size
  have hK := hK.ext hk3; have hk1 := hk1.ext hk3
  obtain rfl := hv3
  refine ow_not rfl rfl rfl <| ow_nil <| zc rfl (fun h5 => ?_) (fun h5 => ?_)
  have hq := blockB_need (b := k) (i := gg) (by omega) (by simpa using h5)
  refine zr <| zA <| ow_nil <| cw_ret ?_
  exact ⟨_, rfl, by rw [hq]; rfl, hK⟩
  refine cw_skip <| cw_region <| zm <| ow_add rfl rfl rfl rfl rfl (wrap_i64 _ (by omega) (by omega)) <| zA <| ow_nil ?_
  exact ⟨gg + 1, ⟨rfl, rfl⟩, ⟨hK, hk1, by omega, by intro i hi; rcases Nat.lt_or_ge i gg with h | h; exact hall i h; rw [show i = gg by omega]; simpa using h5⟩, by omega⟩
  have hall1 : ∀ i, i < k.needs.length → targetS (sth k.needs i) = true := fun i hi => hall i (by omega)
  clear hall hk1 hk
  refine cw_exit <| x_hit rfl <| cw_seq <| zr <| zA <| ow_nil <| cw_block ?_
  refine cw_loop (fun i : Nat => [(1, .pointer (some ⟨w.heap.size, 0, none⟩)), (4, .int .i64 (i : Int))]) (fun i w' => Keep [] w w' ∧ Keep [] w2 w' ∧ i ≤ k.code.length ∧ ∀ j, j < i → lineB k.code j = true) (fun i => k.code.length - i) (0) (⟨rfl, rfl⟩) (⟨hK, Keep.refl [] _, by omega, by intro i hi; omega⟩) ?_
  intro gg w3 e3 hI
  obtain ⟨hK, hk1, hk, hall⟩ := hI
  have hs2 := hs2.ext hk1; have hb1 := hb1.ext hk1
  refine cw_seq <| zr <| zm <| zf tF55_2 rfl <| zl tOne35 rfl (hb1.at rfl) <| ow_len tSl35 rfl rfl rfl <| ow_lss rfl rfl rfl rfl rfl <| ow_nil <| zc rfl (fun h6 => ?_) (fun h6 => ?_)
  have hg := sth_get (xs := k.code) (i := gg) (by omega)
  obtain ⟨b, off, rfl, hc⟩ := rstrs_get hs2 hg
  refine cw_skip <| cw_seq <| cw_block <| cw_seq ?_
  refine cw_draw tMixed kept_new 22 [43, 44, 45, 46, 47, 48, 49, 50, 51, 52, 53, 54, 55, 56, 57, 58, 59, 60, 61, 62, 63, 64] [43, 44, 45, 46, 47, 48, 49, 50, 51, 52, 53, 54, 55, 56, 57, 58, 59, 60, 61, 62, 63, 64] [[], [0], [], [1, 2], [3], [4], [5], [6], [7], [7, 8], [7], [7, 9, 10], [7, 11], [7, 12], [7], [7], [7, 15], [7, 16], [7, 17], [7, 14, 18], [7, 13, 19], [7, 20]] [fun v _ => v = (.pointer (some ⟨w.heap.size, 0 + 2, none⟩)), fun v _ => v = (.slice (some ⟨b, off, none⟩) n2 c2), fun v _ => v = (.int .i64 (gg : Int)), fun v _ => v = (.pointer (some ⟨b, off + gg * 1, none⟩)), fun v _ => v = (str (sth k.code gg)), fun v _ => v = (.bool (instrS (sth k.code gg))), fun v _ => v = (.bool (!instrS (sth k.code gg))), fun v _ => v = (.bool (!instrS (sth k.code gg))), fun v _ => (!instrS (sth k.code gg)) = false → v = (.pointer (some ⟨w.heap.size, 0 + 2, none⟩)), fun v _ => (!instrS (sth k.code gg)) = false → v = (.slice (some ⟨b, off, none⟩) n2 c2), fun v _ => (!instrS (sth k.code gg)) = false → v = (.int .i64 (gg : Int)), fun v _ => (!instrS (sth k.code gg)) = false → v = (.pointer (some ⟨b, off + gg * 1, none⟩)), fun v _ => (!instrS (sth k.code gg)) = false → v = (str (sth k.code gg)), fun v _ => (!instrS (sth k.code gg)) = false → v = (.bool (lastS (sth k.code gg))), fun v _ => (!instrS (sth k.code gg)) = false → v = (.int .i64 (gg : Int)), fun v _ => (!instrS (sth k.code gg)) = false → v = (.pointer (some ⟨w.heap.size, 0 + 2, none⟩)), fun v _ => (!instrS (sth k.code gg)) = false → v = (.slice (some ⟨b, off, none⟩) n2 c2), fun v _ => (!instrS (sth k.code gg)) = false → v = (.int .i64 (n2 : Int)), fun v _ => (!instrS (sth k.code gg)) = false → v = (.int .i64 ((n2 : Int) - 1)), fun v _ => (!instrS (sth k.code gg)) = false → v = (.bool (decide ((gg : Int) = (n2 : Int) - 1))), fun v _ => (!instrS (sth k.code gg)) = false → v = (.bool (lastS (sth k.code gg) != decide ((gg : Int) = (n2 : Int) - 1))), fun v _ => v = (.bool (!instrS (sth k.code gg) || (lastS (sth k.code gg) != decide ((gg : Int) = (n2 : Int) - 1))))] (by decide) (stab_eq (stab_eq (stab_eq (stab_eq (stab_eq (stab_eq (stab_eq (stab_eq (stab_if (stab_if (stab_if (stab_if (stab_if (stab_if (stab_if (stab_if (stab_if (stab_if (stab_if (stab_if (stab_if (stab_eq trivial)))))))))))))))))))))) (fun wd hkd => ?_) ?_
  refine certs_cons ?_ ?_
  intro x vs w4 e hk4 hd he
  replace hk4 := kept_new.trans hkd hk4
  replace he : e = over (havoc _ x _) [] := he
  subst he
  refine zf tF55_2 rfl <| ow_nil ?_
  exact ⟨kept_new.refl _, rfl, by first | exact agree_put | exact agree_refl⟩
  refine certs_cons ?_ ?_
  intro x vs w4 e hk4 hd he
  have d0 : vs 0 = (.pointer (some ⟨w.heap.size, 0 + 2, none⟩)) := hd
  replace hk4 := kept_new.trans hkd hk4
  have hb1 := hb1.ext hk4
  replace he : e = over (havoc _ x _) [(43, vs 0)] := he
  rw [d0] at he
  subst he
  refine zl tOne35 rfl (hb1.at rfl) <| ow_nil ?_
  exact ⟨kept_new.refl _, rfl, by first | exact agree_put | exact agree_refl⟩
  refine certs_cons ?_ ?_
  intro x vs w4 e hk4 hd he
  replace hk4 := kept_new.trans hkd hk4
  replace he : e = over (havoc _ x _) [] := he
  subst he
  refine zm <| ow_nil ?_
  exact ⟨kept_new.refl _, rfl, by first | exact agree_put | exact agree_refl⟩
  refine certs_cons ?_ ?_
  intro x vs w4 e hk4 hd he
  obtain ⟨d1, d2⟩ : (vs 1 = (.slice (some ⟨b, off, none⟩) n2 c2)) ∧ (vs 2 = (.int .i64 (gg : Int))) := hd
  replace hk4 := kept_new.trans hkd hk4
  replace he : e = over (havoc _ x _) [(44, vs 1), (45, vs 2)] := he
  rw [d1, d2] at he
  subst he
  refine zi tSl35 tI9 rfl rfl (by omega) <| ow_nil ?_
  exact ⟨kept_new.refl _, rfl, by first | exact agree_put | exact agree_refl⟩
  refine certs_cons ?_ ?_
  intro x vs w4 e hk4 hd he
  have d3 : vs 3 = (.pointer (some ⟨b, off + gg * 1, none⟩)) := hd
  replace hk4 := kept_new.trans hkd hk4
  have hc := hc.ext hk4
  replace he : e = over (havoc _ x _) [(46, vs 3)] := he
  rw [d3] at he
  subst he
  refine zl tOne9 rfl (hc 0 _ rfl) <| ow_nil ?_
  exact ⟨kept_new.refl _, rfl, by first | exact agree_put | exact agree_refl⟩
  refine certs_cons ?_ ?_
  intro x vs w4 e hk4 hd he
  have d4 : vs 4 = (str (sth k.code gg)) := hd
  replace hk4 := kept_new.trans hkd hk4
  replace he : e = over (havoc _ x _) [(47, vs 4)] := he
  rw [d4] at he
  subst he
  refine ow_call rfl rfl (InstrValid_ret _ w4) ?_
  rintro v5 w5 ⟨hv5, hk5⟩
  have hs5 := hk5.size
  obtain rfl := hv5
  refine ow_nil ?_
  exact ⟨kept_new.of hk5, rfl, by first | exact agree_put | exact agree_refl⟩
  refine certs_cons ?_ ?_
  intro x vs w4 e hk4 hd he
  have d5 : vs 5 = (.bool (instrS (sth k.code gg))) := hd
  replace hk4 := kept_new.trans hkd hk4
  replace he : e = over (havoc _ x _) [(48, vs 5)] := he
  rw [d5] at he
  subst he
  refine ow_not rfl rfl rfl <| ow_nil ?_
  exact ⟨kept_new.refl _, rfl, by first | exact agree_put | exact agree_refl⟩
  refine certs_cons ?_ ?_
  intro x vs w4 e hk4 hd he
  have d6 : vs 6 = (.bool (!instrS (sth k.code gg))) := hd
  replace hk4 := kept_new.trans hkd hk4
  replace he : e = over (havoc _ x _) [(49, vs 6)] := he
  rw [d6] at he
  subst he
  refine zm <| ow_nil ?_
  exact ⟨kept_new.refl _, rfl, by first | exact agree_put | exact agree_refl⟩
  refine certs_cons ?_ ?_
  intro x vs w4 e hk4 hd he
  have d7 : vs 7 = (.bool (!instrS (sth k.code gg))) := hd
  replace hk4 := kept_new.trans hkd hk4
  rcases Bool.eq_false_or_eq_true (!instrS (sth k.code gg)) with hg | hg
  rw [hg] at d7
  replace he : e = over (havoc _ x _) [(50, vs 7)] := he
  rw [d7] at he
  subst he
  refine zs <| ow_nil ?_
  exact ⟨kept_new.refl _, (show (!instrS (sth k.code gg)) = false → _ = (_ : Value) from fun hh => nomatch hg.symm.trans hh), by first | exact agree_put | exact agree_refl⟩
  rw [hg] at d7
  replace he : e = over (havoc _ x _) [(50, vs 7)] := he
  rw [d7] at he
  subst he
  refine zf tF55_2 rfl <| ow_nil ?_
  exact ⟨kept_new.refl _, (show (!instrS (sth k.code gg)) = false → _ = ((.pointer (some ⟨w.heap.size, 0 + 2, none⟩)) : Value) from fun _ => rfl), by first | exact agree_put | exact agree_refl⟩
  refine certs_cons ?_ ?_
  intro x vs w4 e hk4 hd he
  obtain ⟨d7, d8⟩ : (vs 7 = (.bool (!instrS (sth k.code gg)))) ∧ ((!instrS (sth k.code gg)) = false → vs 8 = (.pointer (some ⟨w.heap.size, 0 + 2, none⟩))) := hd
  replace hk4 := kept_new.trans hkd hk4
  have hb1 := hb1.ext hk4
  rcases Bool.eq_false_or_eq_true (!instrS (sth k.code gg)) with hg | hg
  rw [hg] at d7
  replace he : e = over (havoc _ x _) [(50, vs 7), (51, vs 8)] := he
  rw [d7] at he
  subst he
  refine zs <| ow_nil ?_
  exact ⟨kept_new.refl _, (show (!instrS (sth k.code gg)) = false → _ = (_ : Value) from fun hh => nomatch hg.symm.trans hh), by first | exact agree_put | exact agree_refl⟩
  rw [hg] at d7
  replace d8 := d8 hg
  replace he : e = over (havoc _ x _) [(50, vs 7), (51, vs 8)] := he
  rw [d7, d8] at he
  subst he
  refine zl tOne35 rfl (hb1.at rfl) <| ow_nil ?_
  exact ⟨kept_new.refl _, (show (!instrS (sth k.code gg)) = false → _ = ((.slice (some ⟨b, off, none⟩) n2 c2) : Value) from fun _ => rfl), by first | exact agree_put | exact agree_refl⟩
  refine certs_cons ?_ ?_
  intro x vs w4 e hk4 hd he
  have d7 : vs 7 = (.bool (!instrS (sth k.code gg))) := hd
  replace hk4 := kept_new.trans hkd hk4
  rcases Bool.eq_false_or_eq_true (!instrS (sth k.code gg)) with hg | hg
  rw [hg] at d7
  replace he : e = over (havoc _ x _) [(50, vs 7)] := he
  rw [d7] at he
  subst he
  refine zs <| ow_nil ?_
  exact ⟨kept_new.refl _, (show (!instrS (sth k.code gg)) = false → _ = (_ : Value) from fun hh => nomatch hg.symm.trans hh), by first | exact agree_put | exact agree_refl⟩
  rw [hg] at d7
  replace he : e = over (havoc _ x _) [(50, vs 7)] := he
  rw [d7] at he
  subst he
  refine zm <| ow_nil ?_
  exact ⟨kept_new.refl _, (show (!instrS (sth k.code gg)) = false → _ = ((.int .i64 (gg : Int)) : Value) from fun _ => rfl), by first | exact agree_put | exact agree_refl⟩
  refine certs_cons ?_ ?_
  intro x vs w4 e hk4 hd he
  obtain ⟨d7, d9, d10⟩ : (vs 7 = (.bool (!instrS (sth k.code gg)))) ∧ ((!instrS (sth k.code gg)) = false → vs 9 = (.slice (some ⟨b, off, none⟩) n2 c2)) ∧ ((!instrS (sth k.code gg)) = false → vs 10 = (.int .i64 (gg : Int))) := hd
  replace hk4 := kept_new.trans hkd hk4
  rcases Bool.eq_false_or_eq_true (!instrS (sth k.code gg)) with hg | hg
  rw [hg] at d7
  replace he : e = over (havoc _ x _) [(50, vs 7), (52, vs 9), (53, vs 10)] := he
  rw [d7] at he
  subst he
  refine zs <| ow_nil ?_
  exact ⟨kept_new.refl _, (show (!instrS (sth k.code gg)) = false → _ = (_ : Value) from fun hh => nomatch hg.symm.trans hh), by first | exact agree_put | exact agree_refl⟩
  rw [hg] at d7
  replace d9 := d9 hg
  replace d10 := d10 hg
  replace he : e = over (havoc _ x _) [(50, vs 7), (52, vs 9), (53, vs 10)] := he
  rw [d7, d9, d10] at he
  subst he
  refine zi tSl35 tI9 rfl rfl (by omega) <| ow_nil ?_
  exact ⟨kept_new.refl _, (show (!instrS (sth k.code gg)) = false → _ = ((.pointer (some ⟨b, off + gg * 1, none⟩)) : Value) from fun _ => rfl), by first | exact agree_put | exact agree_refl⟩
  refine certs_cons ?_ ?_
  intro x vs w4 e hk4 hd he
  obtain ⟨d7, d11⟩ : (vs 7 = (.bool (!instrS (sth k.code gg)))) ∧ ((!instrS (sth k.code gg)) = false → vs 11 = (.pointer (some ⟨b, off + gg * 1, none⟩))) := hd
  replace hk4 := kept_new.trans hkd hk4
  have hc := hc.ext hk4
  rcases Bool.eq_false_or_eq_true (!instrS (sth k.code gg)) with hg | hg
  rw [hg] at d7
  replace he : e = over (havoc _ x _) [(50, vs 7), (54, vs 11)] := he
  rw [d7] at he
  subst he
  refine zs <| ow_nil ?_
  exact ⟨kept_new.refl _, (show (!instrS (sth k.code gg)) = false → _ = (_ : Value) from fun hh => nomatch hg.symm.trans hh), by first | exact agree_put | exact agree_refl⟩
  rw [hg] at d7
  replace d11 := d11 hg
  replace he : e = over (havoc _ x _) [(50, vs 7), (54, vs 11)] := he
  rw [d7, d11] at he
  subst he
  refine zl tOne9 rfl (hc 0 _ rfl) <| ow_nil ?_
  exact ⟨kept_new.refl _, (show (!instrS (sth k.code gg)) = false → _ = ((str (sth k.code gg)) : Value) from fun _ => rfl), by first | exact agree_put | exact agree_refl⟩
  refine certs_cons ?_ ?_
  intro x vs w4 e hk4 hd he
  obtain ⟨d7, d12⟩ : (vs 7 = (.bool (!instrS (sth k.code gg)))) ∧ ((!instrS (sth k.code gg)) = false → vs 12 = (str (sth k.code gg))) := hd
  replace hk4 := kept_new.trans hkd hk4
  rcases Bool.eq_false_or_eq_true (!instrS (sth k.code gg)) with hg | hg
  rw [hg] at d7
  replace he : e = over (havoc _ x _) [(50, vs 7), (55, vs 12)] := he
  rw [d7] at he
  subst he
  refine zs <| ow_nil ?_
  exact ⟨kept_new.refl _, (show (!instrS (sth k.code gg)) = false → _ = (_ : Value) from fun hh => nomatch hg.symm.trans hh), by first | exact agree_put | exact agree_refl⟩
  rw [hg] at d7
  replace d12 := d12 hg
  replace he : e = over (havoc _ x _) [(50, vs 7), (55, vs 12)] := he
  rw [d7, d12] at he
  subst he
  refine ow_call rfl rfl (InstrLast_ret _ w4) ?_
  rintro v5 w5 ⟨hv5, hk5⟩
  have hs5 := hk5.size
  obtain rfl := hv5
  refine ow_nil ?_
  exact ⟨kept_new.of hk5, (show (!instrS (sth k.code gg)) = false → _ = ((.bool (lastS (sth k.code gg))) : Value) from fun _ => rfl), by first | exact agree_put | exact agree_refl⟩
  refine certs_cons ?_ ?_
  intro x vs w4 e hk4 hd he
  have d7 : vs 7 = (.bool (!instrS (sth k.code gg))) := hd
  replace hk4 := kept_new.trans hkd hk4
  rcases Bool.eq_false_or_eq_true (!instrS (sth k.code gg)) with hg | hg
  rw [hg] at d7
  replace he : e = over (havoc _ x _) [(50, vs 7)] := he
  rw [d7] at he
  subst he
  refine zs <| ow_nil ?_
  exact ⟨kept_new.refl _, (show (!instrS (sth k.code gg)) = false → _ = (_ : Value) from fun hh => nomatch hg.symm.trans hh), by first | exact agree_put | exact agree_refl⟩
  rw [hg] at d7
  replace he : e = over (havoc _ x _) [(50, vs 7)] := he
  rw [d7] at he
  subst he
  refine zm <| ow_nil ?_
  exact ⟨kept_new.refl _, (show (!instrS (sth k.code gg)) = false → _ = ((.int .i64 (gg : Int)) : Value) from fun _ => rfl), by first | exact agree_put | exact agree_refl⟩
  refine certs_cons ?_ ?_
  intro x vs w4 e hk4 hd he
  have d7 : vs 7 = (.bool (!instrS (sth k.code gg))) := hd
  replace hk4 := kept_new.trans hkd hk4
  rcases Bool.eq_false_or_eq_true (!instrS (sth k.code gg)) with hg | hg
  rw [hg] at d7
  replace he : e = over (havoc _ x _) [(50, vs 7)] := he
  rw [d7] at he
  subst he
  refine zs <| ow_nil ?_
  exact ⟨kept_new.refl _, (show (!instrS (sth k.code gg)) = false → _ = (_ : Value) from fun hh => nomatch hg.symm.trans hh), by first | exact agree_put | exact agree_refl⟩
  rw [hg] at d7
  replace he : e = over (havoc _ x _) [(50, vs 7)] := he
  rw [d7] at he
  subst he
  refine zf tF55_2 rfl <| ow_nil ?_
  exact ⟨kept_new.refl _, (show (!instrS (sth k.code gg)) = false → _ = ((.pointer (some ⟨w.heap.size, 0 + 2, none⟩)) : Value) from fun _ => rfl), by first | exact agree_put | exact agree_refl⟩
  refine certs_cons ?_ ?_
  intro x vs w4 e hk4 hd he
  obtain ⟨d7, d15⟩ : (vs 7 = (.bool (!instrS (sth k.code gg)))) ∧ ((!instrS (sth k.code gg)) = false → vs 15 = (.pointer (some ⟨w.heap.size, 0 + 2, none⟩))) := hd
  replace hk4 := kept_new.trans hkd hk4
  have hb1 := hb1.ext hk4
  rcases Bool.eq_false_or_eq_true (!instrS (sth k.code gg)) with hg | hg
  rw [hg] at d7
  replace he : e = over (havoc _ x _) [(50, vs 7), (58, vs 15)] := he
  rw [d7] at he
  subst he
  refine zs <| ow_nil ?_
  exact ⟨kept_new.refl _, (show (!instrS (sth k.code gg)) = false → _ = (_ : Value) from fun hh => nomatch hg.symm.trans hh), by first | exact agree_put | exact agree_refl⟩
  rw [hg] at d7
  replace d15 := d15 hg
  replace he : e = over (havoc _ x _) [(50, vs 7), (58, vs 15)] := he
  rw [d7, d15] at he
  subst he
  refine zl tOne35 rfl (hb1.at rfl) <| ow_nil ?_
  exact ⟨kept_new.refl _, (show (!instrS (sth k.code gg)) = false → _ = ((.slice (some ⟨b, off, none⟩) n2 c2) : Value) from fun _ => rfl), by first | exact agree_put | exact agree_refl⟩
  refine certs_cons ?_ ?_
  intro x vs w4 e hk4 hd he
  obtain ⟨d7, d16⟩ : (vs 7 = (.bool (!instrS (sth k.code gg)))) ∧ ((!instrS (sth k.code gg)) = false → vs 16 = (.slice (some ⟨b, off, none⟩) n2 c2)) := hd
  replace hk4 := kept_new.trans hkd hk4
  rcases Bool.eq_false_or_eq_true (!instrS (sth k.code gg)) with hg | hg
  rw [hg] at d7
  replace he : e = over (havoc _ x _) [(50, vs 7), (59, vs 16)] := he
  rw [d7] at he
  subst he
  refine zs <| ow_nil ?_
  exact ⟨kept_new.refl _, (show (!instrS (sth k.code gg)) = false → _ = (_ : Value) from fun hh => nomatch hg.symm.trans hh), by first | exact agree_put | exact agree_refl⟩
  rw [hg] at d7
  replace d16 := d16 hg
  replace he : e = over (havoc _ x _) [(50, vs 7), (59, vs 16)] := he
  rw [d7, d16] at he
  subst he
  refine ow_len tSl35 rfl rfl rfl <| ow_nil ?_
  exact ⟨kept_new.refl _, (show (!instrS (sth k.code gg)) = false → _ = ((.int .i64 (n2 : Int)) : Value) from fun _ => rfl), by first | exact agree_put | exact agree_refl⟩
  refine certs_cons ?_ ?_
  intro x vs w4 e hk4 hd he
  obtain ⟨d7, d17⟩ : (vs 7 = (.bool (!instrS (sth k.code gg)))) ∧ ((!instrS (sth k.code gg)) = false → vs 17 = (.int .i64 (n2 : Int))) := hd
  replace hk4 := kept_new.trans hkd hk4
  rcases Bool.eq_false_or_eq_true (!instrS (sth k.code gg)) with hg | hg
  rw [hg] at d7
  replace he : e = over (havoc _ x _) [(50, vs 7), (60, vs 17)] := he
  rw [d7] at he
  subst he
  refine zs <| ow_nil ?_
  exact ⟨kept_new.refl _, (show (!instrS (sth k.code gg)) = false → _ = (_ : Value) from fun hh => nomatch hg.symm.trans hh), by first | exact agree_put | exact agree_refl⟩
  rw [hg] at d7
  replace d17 := d17 hg
  replace he : e = over (havoc _ x _) [(50, vs 7), (60, vs 17)] := he
  rw [d7, d17] at he
  subst he
  refine ow_sub rfl rfl rfl rfl rfl (wrap_i64 _ (by omega) (by omega)) <| ow_nil ?_
  exact ⟨kept_new.refl _, (show (!instrS (sth k.code gg)) = false → _ = ((.int .i64 ((n2 : Int) - 1)) : Value) from fun _ => rfl), by first | exact agree_put | exact agree_refl⟩
  refine certs_cons ?_ ?_
  intro x vs w4 e hk4 hd he
  obtain ⟨d7, d14, d18⟩ : (vs 7 = (.bool (!instrS (sth k.code gg)))) ∧ ((!instrS (sth k.code gg)) = false → vs 14 = (.int .i64 (gg : Int))) ∧ ((!instrS (sth k.code gg)) = false → vs 18 = (.int .i64 ((n2 : Int) - 1))) := hd
  replace hk4 := kept_new.trans hkd hk4
  rcases Bool.eq_false_or_eq_true (!instrS (sth k.code gg)) with hg | hg
  rw [hg] at d7
  replace he : e = over (havoc _ x _) [(50, vs 7), (57, vs 14), (61, vs 18)] := he
  rw [d7] at he
  subst he
  refine zs <| ow_nil ?_
  exact ⟨kept_new.refl _, (show (!instrS (sth k.code gg)) = false → _ = (_ : Value) from fun hh => nomatch hg.symm.trans hh), by first | exact agree_put | exact agree_refl⟩
  rw [hg] at d7
  replace d14 := d14 hg
  replace d18 := d18 hg
  replace he : e = over (havoc _ x _) [(50, vs 7), (57, vs 14), (61, vs 18)] := he
  rw [d7, d14, d18] at he
  subst he
  refine ow_eql rfl rfl rfl rfl rfl <| ow_nil ?_
  exact ⟨kept_new.refl _, (show (!instrS (sth k.code gg)) = false → _ = ((.bool (decide ((gg : Int) = (n2 : Int) - 1))) : Value) from fun _ => rfl), by first | exact agree_put | exact agree_refl⟩
  refine certs_cons ?_ ?_
  intro x vs w4 e hk4 hd he
  obtain ⟨d7, d13, d19⟩ : (vs 7 = (.bool (!instrS (sth k.code gg)))) ∧ ((!instrS (sth k.code gg)) = false → vs 13 = (.bool (lastS (sth k.code gg)))) ∧ ((!instrS (sth k.code gg)) = false → vs 19 = (.bool (decide ((gg : Int) = (n2 : Int) - 1)))) := hd
  replace hk4 := kept_new.trans hkd hk4
  rcases Bool.eq_false_or_eq_true (!instrS (sth k.code gg)) with hg | hg
  rw [hg] at d7
  replace he : e = over (havoc _ x _) [(50, vs 7), (56, vs 13), (62, vs 19)] := he
  rw [d7] at he
  subst he
  refine zs <| ow_nil ?_
  exact ⟨kept_new.refl _, (show (!instrS (sth k.code gg)) = false → _ = (_ : Value) from fun hh => nomatch hg.symm.trans hh), by first | exact agree_put | exact agree_refl⟩
  rw [hg] at d7
  replace d13 := d13 hg
  replace d19 := d19 hg
  replace he : e = over (havoc _ x _) [(50, vs 7), (56, vs 13), (62, vs 19)] := he
  rw [d7, d13, d19] at he
  subst he
  refine ow_bneq tBool4 rfl rfl rfl rfl <| ow_nil ?_
  exact ⟨kept_new.refl _, (show (!instrS (sth k.code gg)) = false → _ = ((.bool (lastS (sth k.code gg) != decide ((gg : Int) = (n2 : Int) - 1))) : Value) from fun _ => rfl), by first | exact agree_put | exact agree_refl⟩
  refine certs_cons ?_ ?_
  intro x vs w4 e hk4 hd he
  obtain ⟨d7, d20⟩ : (vs 7 = (.bool (!instrS (sth k.code gg)))) ∧ ((!instrS (sth k.code gg)) = false → vs 20 = (.bool (lastS (sth k.code gg) != decide ((gg : Int) = (n2 : Int) - 1)))) := hd
  replace hk4 := kept_new.trans hkd hk4
  rcases Bool.eq_false_or_eq_true (!instrS (sth k.code gg)) with hg | hg
  rw [hg] at d7
  replace he : e = over (havoc _ x _) [(50, vs 7), (63, vs 20)] := he
  rw [d7] at he
  subst he
  refine zp rfl <| ow_nil ?_
  exact ⟨kept_new.refl _, by first | rfl | (rw [hg]; rfl), by first | exact agree_put | exact agree_refl⟩
  rw [hg] at d7
  replace d20 := d20 hg
  replace he : e = over (havoc _ x _) [(50, vs 7), (63, vs 20)] := he
  rw [d7, d20] at he
  subst he
  refine zp rfl <| ow_nil ?_
  exact ⟨kept_new.refl _, by first | rfl | (rw [hg]; rfl), by first | exact agree_put | exact agree_refl⟩
  exact trivial
  intro x vs w43 hk43 hdraw
  have d0 : vs 0 = (.pointer (some ⟨w.heap.size, 0 + 2, none⟩)) := hdraw 0 (by decide)
  have d1 : vs 1 = (.slice (some ⟨b, off, none⟩) n2 c2) := hdraw 1 (by decide)
  have d2 : vs 2 = (.int .i64 (gg : Int)) := hdraw 2 (by decide)
  have d3 : vs 3 = (.pointer (some ⟨b, off + gg * 1, none⟩)) := hdraw 3 (by decide)
  have d4 : vs 4 = (str (sth k.code gg)) := hdraw 4 (by decide)
  have d5 : vs 5 = (.bool (instrS (sth k.code gg))) := hdraw 5 (by decide)
  have d6 : vs 6 = (.bool (!instrS (sth k.code gg))) := hdraw 6 (by decide)
  have d7 : vs 7 = (.bool (!instrS (sth k.code gg))) := hdraw 7 (by decide)
  have d8 : (!instrS (sth k.code gg)) = false → vs 8 = (.pointer (some ⟨w.heap.size, 0 + 2, none⟩)) := hdraw 8 (by decide)
  have d9 : (!instrS (sth k.code gg)) = false → vs 9 = (.slice (some ⟨b, off, none⟩) n2 c2) := hdraw 9 (by decide)
  have d10 : (!instrS (sth k.code gg)) = false → vs 10 = (.int .i64 (gg : Int)) := hdraw 10 (by decide)
  have d11 : (!instrS (sth k.code gg)) = false → vs 11 = (.pointer (some ⟨b, off + gg * 1, none⟩)) := hdraw 11 (by decide)
  have d12 : (!instrS (sth k.code gg)) = false → vs 12 = (str (sth k.code gg)) := hdraw 12 (by decide)
  have d13 : (!instrS (sth k.code gg)) = false → vs 13 = (.bool (lastS (sth k.code gg))) := hdraw 13 (by decide)
  have d14 : (!instrS (sth k.code gg)) = false → vs 14 = (.int .i64 (gg : Int)) := hdraw 14 (by decide)
  have d15 : (!instrS (sth k.code gg)) = false → vs 15 = (.pointer (some ⟨w.heap.size, 0 + 2, none⟩)) := hdraw 15 (by decide)
  have d16 : (!instrS (sth k.code gg)) = false → vs 16 = (.slice (some ⟨b, off, none⟩) n2 c2) := hdraw 16 (by decide)
  have d17 : (!instrS (sth k.code gg)) = false → vs 17 = (.int .i64 (n2 : Int)) := hdraw 17 (by decide)
  have d18 : (!instrS (sth k.code gg)) = false → vs 18 = (.int .i64 ((n2 : Int) - 1)) := hdraw 18 (by decide)
  have d19 : (!instrS (sth k.code gg)) = false → vs 19 = (.bool (decide ((gg : Int) = (n2 : Int) - 1))) := hdraw 19 (by decide)
  have d20 : (!instrS (sth k.code gg)) = false → vs 20 = (.bool (lastS (sth k.code gg) != decide ((gg : Int) = (n2 : Int) - 1))) := hdraw 20 (by decide)
  have d21 : vs 21 = (.bool (!instrS (sth k.code gg) || (lastS (sth k.code gg) != decide ((gg : Int) = (n2 : Int) - 1)))) := hdraw 21 (by decide)
  have hK := hK.ext hk43; have hk1 := hk1.ext hk43
  change OW _ _ _ _ [] (over (havoc _ x _) [(43, vs 0), (44, vs 1), (45, vs 2), (46, vs 3), (47, vs 4), (48, vs 5), (49, vs 6), (50, vs 7), (51, vs 8), (52, vs 9), (53, vs 10), (54, vs 11), (55, vs 12), (56, vs 13), (57, vs 14), (58, vs 15), (59, vs 16), (60, vs 17), (61, vs 18), (62, vs 19), (63, vs 20), (64, vs 21)]) _
  rw [d0, d1, d2, d3, d4, d5, d6, d7, d21]
  refine ow_nil <| zc rfl (fun h7 => ?_) (fun h7 => ?_)
  rw [lineB_z he2 (by omega)] at h7
  have hq := blockB_line (b := k) (i := gg) (by omega) (by simpa using h7)
  refine zr <| zA <| ow_nil <| cw_ret ?_
  exact ⟨_, rfl, by rw [hq]; rfl, hK⟩
  rw [lineB_z he2 (by omega)] at h7
  refine cw_skip <| cw_region <| zm <| ow_add rfl rfl rfl rfl rfl (wrap_i64 _ (by omega) (by omega)) <| zA <| ow_nil ?_
  exact ⟨gg + 1, ⟨rfl, rfl⟩, ⟨hK, hk1, by omega, by intro i hi; rcases Nat.lt_or_ge i gg with h | h; exact hall i h; rw [show i = gg by omega]; simpa using h7⟩, by omega⟩
  have hq := blockB_yes hb hall1 (fun i hi => hall i (by omega))
  refine cw_exit <| x_hit rfl <| zr <| zA <| ow_nil <| cw_ret ?_
  exact ⟨_, rfl, by rw [hq]; rfl, hK⟩
end Go.Proofs.YtnkjgoholocliaaGreatDoor

namespace Go.Proofs.YtnkjgoholocliaaGreatDoor
open Go

theorem ProgramValid_ret (bs : List Bk) (hb : Smalls bs) (v : Value) (L : List Nat) (w : World) (hv : RBks L w v bs) :
    Ret Tryz.prog 51 [v] w fun r w' => r = .bool (progB bs) ∧ Keep [] w w' := by
  obtain ⟨a, n, c, rfl, hn⟩ := rbks_cases hv
  have hK := Keep.refl [] w
  have hbl := hb.1
  refine ret_of [.tmp 2] 45 Tryz.func51 rfl nm51 rfl rfl ?_
  refine zr <| zA <| ow_nil <| cw_seq <| zr <| zA <| ow_nil <| cw_block ?_
  refine cw_loop (fun i : Nat => [(0, .slice a n c), (3, .int .i64 (i : Int))]) (fun i w' => Keep [] w w' ∧ i ≤ bs.length ∧ ∀ j, j < i → blockB (bth bs j) = true ∧ findZ bs (bth bs j).label = (j : Int)) (fun i => bs.length - i) (0) (⟨rfl, rfl⟩) (⟨hK, by omega, by intro i hi; omega⟩) ?_
  intro gg w1 e1 hI
  obtain ⟨hK, hk, hall⟩ := hI
  have hv := hv.ext hK
  refine cw_seq <| zr <| zm <| zm <| ow_len tSl25 rfl rfl rfl <| ow_lss rfl rfl rfl rfl rfl <| ow_nil <| zc rfl (fun h1 => ?_) (fun h1 => ?_)
  have hg := bth_get (bs := bs) (i := gg) (by omega)
  obtain ⟨b, off, a1, n1, c1, a2, n2, c2, rfl, hc, hn1, hn2, hs1, hs2⟩ := rbks_get hv hg
  have hsm := hb.2 gg (by omega)
  refine cw_skip <| cw_seq <| cw_block <| zr <| zm <| zm <| zi tSl25 tI55 rfl rfl (by omega) <| zL tAgg55 tI55 rfl (hc) (rfl) <| ow_call rfl rfl (BlockValid_ret (bth bs gg) hsm.1 hsm.2.1 hsm.2.2 _ _ w1 (rbk_of hs1 hs2)) ?_
  rintro v2 w2 ⟨hv2, hk2⟩
  have hs2 := hk2.size
  have hK := hK.ext hk2; have hv := hv.ext hk2; have hc := hc.ext hk2
  obtain rfl := hv2
  refine ow_not rfl rfl rfl <| zm ?_
  apply ow_or 10 16 26 [16, 17, 18, 19, 20, 21, 22, 23, 24, 25, 26] (fun w' => w2 = w') rfl
  intro h2
  replace h2 := tst h2
  refine zs <| zs <| zs <| zs <| zs <| zs <| zs <| zs <| zs <| zp rfl <| ow_nil ?_
  exact ⟨by repeat (first | with_reducible exact agree_refl | refine agree_upd rfl ?_ | refine agree_hav rfl ?_), rfl, rfl⟩
  intro h2
  replace h2 := tst h2
  refine zm <| zm <| zm <| zi tSl25 tI55 rfl rfl (by omega) <| zf tF55_0 rfl <| zl tOne9 rfl (hc 0 _ rfl) <| ow_call rfl rfl (l6tFind_ret bs (by omega) _ _ _ _ hv) ?_
  rintro _ _ ⟨rfl, rfl⟩
  refine zm <| ow_neq rfl rfl rfl rfl rfl <| zp rfl <| ow_nil ?_
  exact ⟨by repeat (first | with_reducible exact agree_refl | refine agree_upd rfl ?_ | refine agree_hav rfl ?_), rfl, rfl⟩
  rintro xx _ rfl
  refine ow_nil <| zc rfl (fun h3 => ?_) (fun h3 => ?_)
  have hq := progB_block (bs := bs) (i := gg) (by omega) (fun hh => by rw [hh.1, hh.2] at h3; simp at h3)
  refine zr <| zA <| ow_nil <| cw_ret ?_
  exact ⟨_, rfl, by rw [hq]; rfl, hK⟩
  simp only [Bool.or_eq_false_iff, Bool.not_eq_false', decide_eq_false_iff_not, ne_eq, Classical.not_not] at h3
  refine cw_skip <| cw_region <| zm <| ow_add rfl rfl rfl rfl rfl (wrap_i64 _ (by omega) (by omega)) <| zA <| ow_nil ?_
  exact ⟨gg + 1, ⟨rfl, rfl⟩, ⟨hK, by omega, by intro i hi; rcases Nat.lt_or_ge i gg with h | h; exact hall i h; rw [show i = gg by omega]; exact h3⟩, by omega⟩
  have hq := progB_all (fun i hi => hall i (by omega))
  clear hall
  refine cw_exit <| x_hit rfl <| zr <| zm <| ow_len tSl25 rfl rfl rfl <| ow_call rfl rfl (l6In_ret _ _ _ _) ?_
  rintro _ _ ⟨rfl, rfl⟩
  refine zm ?_
  apply ow_and 6 30 36 [30, 31, 32, 33, 34, 35, 36] (fun w' => w1 = w') rfl
  intro h4
  replace h4 := tst h4
  simp at h4
  have h0 := bth_get (bs := bs) (i := 0) (by omega)
  obtain ⟨b, off, a1, n1, c1, a2, n2, c2, rfl, hc, hn1, hn2, hs1, hs2⟩ := rbks_get hv h0
  refine zm <| zi (i := 0) tSl25 tI55 rfl rfl (by omega) <| zf tF55_0 rfl <| zl tOne9 rfl (hc 0 _ rfl) <| ow_seql rfl rfl rfl rfl <| zp rfl <| ow_nil ?_
  exact ⟨by repeat (first | with_reducible exact agree_refl | refine agree_upd rfl ?_ | refine agree_hav rfl ?_), rfl, rfl⟩
  intro h4
  replace h4 := tst h4
  refine zs <| zs <| zs <| zs <| zs <| zp rfl <| ow_nil ?_
  exact ⟨by repeat (first | with_reducible exact agree_refl | refine agree_upd rfl ?_ | refine agree_hav rfl ?_), rfl, rfl⟩
  rintro xx _ rfl
  refine zm ?_
  apply ow_and 7 37 44 [37, 38, 39, 40, 41, 42, 43, 44] (fun w' => w1 = w') rfl
  intro h5
  replace h5 := tst h5
  simp at h5
  have h0 := bth_get (bs := bs) (i := 0) (by omega)
  obtain ⟨b, off, a1, n1, c1, a2, n2, c2, rfl, hc, hn1, hn2, hs1, hs2⟩ := rbks_get hv h0
  subst hn1
  refine zm <| zi (i := 0) tSl25 tI55 rfl rfl (by omega) <| zf tF55_1 rfl <| zl tOne35 rfl (hc 1 _ rfl) <| ow_len tSl35 rfl rfl rfl <| ow_eql rfl rfl rfl rfl rfl <| zp rfl <| ow_nil ?_
  exact ⟨by repeat (first | with_reducible exact agree_refl | refine agree_upd rfl ?_ | refine agree_hav rfl ?_), rfl, rfl⟩
  intro h5
  replace h5 := tst h5
  refine zs <| zs <| zs <| zs <| zs <| zs <| zp rfl <| ow_nil ?_
  exact ⟨by repeat (first | with_reducible exact agree_refl | refine agree_upd rfl ?_ | refine agree_hav rfl ?_), rfl, rfl⟩
  rintro xx _ rfl
  refine zA <| ow_nil <| cw_ret ?_
  exact ⟨_, rfl, show Value.bool _ = Value.bool _ from congrArg _ (by rw [hq]; exact progB_z hn (fun _ => rfl)), hK⟩

end Go.Proofs.YtnkjgoholocliaaGreatDoor
