/-
  Lemmas for the law of ProgramText, no statement of their own: walks of ProgramText and of the law.
-/
import Derived.Test.YtnkjgoholocliaaGreatDoorNd
import Derived.Test.YtnkjgoholocliaaGreatDoorNy
import Derived.Test.YtnkjgoholocliaaGreatDoorNb
import Derived.Test.YtnkjgoholocliaaGreatDoorNc
import Derived.Test.YtnkjgoholocliaaGreatDoorNf
import Derived.Test.YtnkjgoholocliaaGreatDoorNi
namespace Go.Proofs.YtnkjgoholocliaaGreatDoor
open Go

theorem eqStr_ret (xs : List Bytes) (hx : xs.length < 1000000000000) (va vb : Value) (La Lb : List Nat) (w : World) (ha : RStrs La w va xs) (hb : RStrs Lb w vb xs) : Ret Tryz.prog 28 [va, vb] w fun r w' => r = .bool true ∧ Keep [] w w' := by
  obtain ⟨a1, n1, c1, rfl, hn1⟩ := rstrs_cases ha
  obtain ⟨a2, n2, c2, rfl, hn2⟩ := rstrs_cases hb
  subst hn1 hn2
  have hK := Keep.refl [] w
  refine ret_of [.tmp 4] 26 Tryz.func28 rfl nm28 rfl rfl ?_
  refine cw_seq ?_
  refine cw_region ?_
  refine ow_assign rfl rfl ?_
  refine ow_nil ?_
  refine cw_seq ?_
  refine cw_seq ?_
  refine cw_region ?_
  refine ow_move rfl rfl ?_
  refine ow_len tSl35 rfl rfl rfl ?_
  refine ow_move rfl rfl ?_
  refine ow_len tSl35 rfl rfl rfl ?_
  refine ow_neq rfl rfl rfl rfl rfl ?_
  refine ow_nil ?_
  refine cw_cond rfl (fun h1 => ?_) (fun h1 => ?_)
  · first | replace h1 := test_t h1 | replace h1 := test_f h1 | replace h1 := test_nt h1 | replace h1 := test_nf h1 | skip
    exact absurd rfl h1
  · first | replace h1 := test_t h1 | replace h1 := test_f h1 | replace h1 := test_nt h1 | replace h1 := test_nf h1 | skip
    skip
    refine cw_skip ?_
    refine cw_seq ?_
    refine cw_seq ?_
    refine cw_region ?_
    refine ow_assign rfl rfl ?_
    refine ow_nil ?_
    refine cw_block ?_
    refine cw_loop (fun k : Nat => [(0, .slice a1 xs.length c1), (1, .slice a2 xs.length c2), (5, .int .i64 (k : Int))]) (fun k w' => Keep [] w w' ∧ k ≤ xs.length) (fun k => xs.length - k) (0) (⟨rfl, rfl, rfl⟩) (⟨hK, by omega⟩) ?_
    intro gg w1 e1 hI
    obtain ⟨hK, hk⟩ := hI
    refine cw_seq ?_
    refine cw_seq ?_
    refine cw_region ?_
    refine ow_move rfl rfl ?_
    refine ow_move rfl rfl ?_
    refine ow_len tSl35 rfl rfl rfl ?_
    refine ow_lss rfl rfl rfl rfl rfl ?_
    refine ow_nil ?_
    refine cw_cond rfl (fun h2 => ?_) (fun h2 => ?_)
    · first | replace h2 := test_t h2 | replace h2 := test_f h2 | replace h2 := test_nt h2 | replace h2 := test_nf h2 | skip
      have hg := sth_get (xs := xs) (i := gg) (by omega)
      obtain ⟨b1, off1, rfl, hc1⟩ := rstrs_get ha hg
      obtain ⟨b2, off2, rfl, hc2⟩ := rstrs_get hb hg
      refine cw_skip ?_
      refine cw_seq ?_
      refine cw_block ?_
      refine cw_seq ?_
      refine cw_draw tMixed kept_new 9 [17, 18, 19, 20, 21, 22, 23, 24, 25] [17, 18, 19, 20, 21, 22, 23, 24, 25] [[], [], [0, 1], [2], [], [], [4, 5], [6], [3, 7]] [fun v _ => v = (.slice (some ⟨b1, off1, none⟩) xs.length c1), fun v _ => v = (.int .i64 (gg : Int)), fun v _ => v = (.pointer (some ⟨b1, off1 + gg * 1, none⟩)), fun v _ => v = (str (sth xs gg)), fun v _ => v = (.slice (some ⟨b2, off2, none⟩) xs.length c2), fun v _ => v = (.int .i64 (gg : Int)), fun v _ => v = (.pointer (some ⟨b2, off2 + gg * 1, none⟩)), fun v _ => v = (str (sth xs gg)), fun v _ => v = (.bool (decide (sth xs gg ≠ sth xs gg)))] (by decide) (stab_eq (stab_eq (stab_eq (stab_eq (stab_eq (stab_eq (stab_eq (stab_eq (stab_eq trivial))))))))) (fun wd hkd => ?_) ?_
      ·
        refine certs_cons ?_ ?_
        ·
          intro x vs w2 e hk2 hd he
          replace hk2 := kept_new.trans hkd hk2
          have hK := hK.ext hk2
          replace he : e = over (havoc _ x _) [] := he
          subst he
          refine ow_move rfl rfl ?_
          refine ow_nil ?_
          exact ⟨kept_new.refl _, rfl, by first | exact agree_put | exact agree_refl⟩
        refine certs_cons ?_ ?_
        ·
          intro x vs w2 e hk2 hd he
          replace hk2 := kept_new.trans hkd hk2
          have hK := hK.ext hk2
          replace he : e = over (havoc _ x _) [] := he
          subst he
          refine ow_move rfl rfl ?_
          refine ow_nil ?_
          exact ⟨kept_new.refl _, rfl, by first | exact agree_put | exact agree_refl⟩
        refine certs_cons ?_ ?_
        ·
          intro x vs w2 e hk2 hd he
          obtain ⟨d0, d1⟩ : (vs 0 = (.slice (some ⟨b1, off1, none⟩) xs.length c1)) ∧ (vs 1 = (.int .i64 (gg : Int))) := hd
          replace hk2 := kept_new.trans hkd hk2
          have hK := hK.ext hk2
          replace he : e = over (havoc _ x _) [(17, vs 0), (18, vs 1)] := he
          rw [d0, d1] at he
          subst he
          refine ow_indexAddr tSl35 tI9 rfl rfl rfl rfl (by omega) ?_
          refine ow_nil ?_
          exact ⟨kept_new.refl _, rfl, by first | exact agree_put | exact agree_refl⟩
        refine certs_cons ?_ ?_
        ·
          intro x vs w2 e hk2 hd he
          have d2 : vs 2 = (.pointer (some ⟨b1, off1 + gg * 1, none⟩)) := hd
          replace hk2 := kept_new.trans hkd hk2
          have hK := hK.ext hk2
          replace he : e = over (havoc _ x _) [(19, vs 2)] := he
          rw [d2] at he
          subst he
          refine ow_load tOne9 rfl rfl rfl (hc1.ext hK 0 _ rfl) ?_
          refine ow_nil ?_
          exact ⟨kept_new.refl _, rfl, by first | exact agree_put | exact agree_refl⟩
        refine certs_cons ?_ ?_
        ·
          intro x vs w2 e hk2 hd he
          replace hk2 := kept_new.trans hkd hk2
          have hK := hK.ext hk2
          replace he : e = over (havoc _ x _) [] := he
          subst he
          refine ow_move rfl rfl ?_
          refine ow_nil ?_
          exact ⟨kept_new.refl _, rfl, by first | exact agree_put | exact agree_refl⟩
        refine certs_cons ?_ ?_
        ·
          intro x vs w2 e hk2 hd he
          replace hk2 := kept_new.trans hkd hk2
          have hK := hK.ext hk2
          replace he : e = over (havoc _ x _) [] := he
          subst he
          refine ow_move rfl rfl ?_
          refine ow_nil ?_
          exact ⟨kept_new.refl _, rfl, by first | exact agree_put | exact agree_refl⟩
        refine certs_cons ?_ ?_
        ·
          intro x vs w2 e hk2 hd he
          obtain ⟨d4, d5⟩ : (vs 4 = (.slice (some ⟨b2, off2, none⟩) xs.length c2)) ∧ (vs 5 = (.int .i64 (gg : Int))) := hd
          replace hk2 := kept_new.trans hkd hk2
          have hK := hK.ext hk2
          replace he : e = over (havoc _ x _) [(21, vs 4), (22, vs 5)] := he
          rw [d4, d5] at he
          subst he
          refine ow_indexAddr tSl35 tI9 rfl rfl rfl rfl (by omega) ?_
          refine ow_nil ?_
          exact ⟨kept_new.refl _, rfl, by first | exact agree_put | exact agree_refl⟩
        refine certs_cons ?_ ?_
        ·
          intro x vs w2 e hk2 hd he
          have d6 : vs 6 = (.pointer (some ⟨b2, off2 + gg * 1, none⟩)) := hd
          replace hk2 := kept_new.trans hkd hk2
          have hK := hK.ext hk2
          replace he : e = over (havoc _ x _) [(23, vs 6)] := he
          rw [d6] at he
          subst he
          refine ow_load tOne9 rfl rfl rfl (hc2.ext hK 0 _ rfl) ?_
          refine ow_nil ?_
          exact ⟨kept_new.refl _, rfl, by first | exact agree_put | exact agree_refl⟩
        refine certs_cons ?_ ?_
        ·
          intro x vs w2 e hk2 hd he
          obtain ⟨d3, d7⟩ : (vs 3 = (str (sth xs gg))) ∧ (vs 7 = (str (sth xs gg))) := hd
          replace hk2 := kept_new.trans hkd hk2
          have hK := hK.ext hk2
          replace he : e = over (havoc _ x _) [(20, vs 3), (24, vs 7)] := he
          rw [d3, d7] at he
          subst he
          refine ow_sneq rfl rfl rfl rfl ?_
          refine ow_nil ?_
          exact ⟨kept_new.refl _, rfl, by first | exact agree_put | exact agree_refl⟩
        exact trivial
      · intro x vs w41 hk41 hdraw
        have d0 : vs 0 = (.slice (some ⟨b1, off1, none⟩) xs.length c1) := hdraw 0 (by decide)
        have d1 : vs 1 = (.int .i64 (gg : Int)) := hdraw 1 (by decide)
        have d2 : vs 2 = (.pointer (some ⟨b1, off1 + gg * 1, none⟩)) := hdraw 2 (by decide)
        have d3 : vs 3 = (str (sth xs gg)) := hdraw 3 (by decide)
        have d4 : vs 4 = (.slice (some ⟨b2, off2, none⟩) xs.length c2) := hdraw 4 (by decide)
        have d5 : vs 5 = (.int .i64 (gg : Int)) := hdraw 5 (by decide)
        have d6 : vs 6 = (.pointer (some ⟨b2, off2 + gg * 1, none⟩)) := hdraw 6 (by decide)
        have d7 : vs 7 = (str (sth xs gg)) := hdraw 7 (by decide)
        have d8 : vs 8 = (.bool (decide (sth xs gg ≠ sth xs gg))) := hdraw 8 (by decide)
        have hK := hK.ext hk41
        change OW _ _ _ _ [] (over (havoc _ x _) [(17, vs 0), (18, vs 1), (19, vs 2), (20, vs 3), (21, vs 4), (22, vs 5), (23, vs 6), (24, vs 7), (25, vs 8)]) _
        rw [d0, d1, d2, d3, d4, d5, d6, d7, d8]
        refine ow_nil ?_
        refine cw_cond rfl (fun h3 => ?_) (fun h3 => ?_)
        · first | replace h3 := test_t h3 | replace h3 := test_f h3 | replace h3 := test_nt h3 | replace h3 := test_nf h3 | skip
          exact absurd rfl h3
        · first | replace h3 := test_t h3 | replace h3 := test_f h3 | replace h3 := test_nt h3 | replace h3 := test_nf h3 | skip
          skip
          refine cw_skip ?_
          refine cw_region ?_
          refine ow_move rfl rfl ?_
          refine ow_add rfl rfl rfl rfl rfl (wrap_i64 _ (by omega) (by omega)) ?_
          refine ow_assign rfl rfl ?_
          refine ow_nil ?_
          exact ⟨gg + 1, ⟨rfl, rfl, rfl⟩, ⟨hK, by omega⟩, by omega⟩
    · first | replace h2 := test_t h2 | replace h2 := test_f h2 | replace h2 := test_nt h2 | replace h2 := test_nf h2 | skip
      skip
      refine cw_exit ?_
      refine x_hit rfl ?_
      refine cw_seq ?_
      refine cw_region ?_
      refine ow_assign rfl rfl ?_
      refine ow_nil ?_
      refine cw_ret ?_
      exact ⟨_, rfl, rfl, hK⟩

theorem eqBlock_ret (k : Bk) (hs : k.small) (va vb : Value) (La Lb : List Nat) (w : World) (ha : RBk La w va k) (hb : RBk Lb w vb k) : Ret Tryz.prog 54 [va, vb] w fun r w' => r = .bool true ∧ Keep [] w w' := by
  obtain ⟨a1, n1, c1, a2, n2, c2, rfl, he1, he2, hs1, hs2⟩ := rbk_cases ha
  obtain ⟨a3, n3, c3, a4, n4, c4, rfl, he3, he4, hs3, hs4⟩ := rbk_cases hb
  have hK := Keep.refl [] w
  have hsm := hs.2.1
  have hsm2 := hs.2.2
  refine ret_of [.tmp 4] 22 Tryz.func54 rfl nm54 rfl rfl ?_
  refine cw_seq ?_
  refine cw_region ?_
  refine ow_boxA rfl rfl rfl ?_
  intro w1 hk1 hb2 hz1
  have hK := hK.ext hk1
  refine ow_boxA rfl rfl rfl ?_
  intro w2 hk2 hb3 hz2
  have hK := hK.ext hk2
  have hb2 := hb2.ext hk2
  refine ow_assign rfl rfl ?_
  refine ow_nil ?_
  refine cw_seq ?_
  refine cw_seq ?_
  refine cw_region ?_
  refine ow_fieldAddr tF55_0 rfl rfl rfl ?_
  refine ow_load tOne9 rfl rfl rfl (hb2.at rfl) ?_
  refine ow_fieldAddr tF55_0 rfl rfl rfl ?_
  refine ow_load tOne9 rfl rfl rfl (hb3.at rfl) ?_
  refine ow_sneq rfl rfl rfl rfl ?_
  refine ow_nil ?_
  refine cw_cond rfl (fun h1 => ?_) (fun h1 => ?_)
  · first | replace h1 := test_t h1 | replace h1 := test_f h1 | replace h1 := test_nt h1 | replace h1 := test_nf h1 | skip
    exact absurd rfl h1
  · first | replace h1 := test_t h1 | replace h1 := test_f h1 | replace h1 := test_nt h1 | replace h1 := test_nf h1 | skip
    skip
    refine cw_skip ?_
    refine cw_seq ?_
    refine cw_seq ?_
    refine cw_region ?_
    refine ow_fieldAddr tF55_1 rfl rfl rfl ?_
    refine ow_load tOne35 rfl rfl rfl (hb2.at rfl) ?_
    refine ow_fieldAddr tF55_1 rfl rfl rfl ?_
    refine ow_load tOne35 rfl rfl rfl (hb3.at rfl) ?_
    refine ow_call rfl rfl (eqStr_ret k.needs (by omega) _ _ La Lb w2 (hs1.ext hK) (hs3.ext hK)) ?_
    rintro v3 w3 ⟨hv3, hk3⟩
    have hs3 := hk3.size
    have hK := hK.ext hk3
    have hb2 := hb2.ext hk3
    have hb3 := hb3.ext hk3
    obtain rfl := hv3
    refine ow_not rfl rfl rfl ?_
    refine ow_nil ?_
    refine cw_cond rfl (fun h2 => ?_) (fun h2 => ?_)
    · first | replace h2 := test_t h2 | replace h2 := test_f h2 | replace h2 := test_nt h2 | replace h2 := test_nf h2 | skip
      cases h2
    · first | replace h2 := test_t h2 | replace h2 := test_f h2 | replace h2 := test_nt h2 | replace h2 := test_nf h2 | skip
      skip
      refine cw_skip ?_
      refine cw_seq ?_
      refine cw_seq ?_
      refine cw_region ?_
      refine ow_fieldAddr tF55_2 rfl rfl rfl ?_
      refine ow_load tOne35 rfl rfl rfl (hb2.at rfl) ?_
      refine ow_fieldAddr tF55_2 rfl rfl rfl ?_
      refine ow_load tOne35 rfl rfl rfl (hb3.at rfl) ?_
      refine ow_call rfl rfl (eqStr_ret k.code (by omega) _ _ La Lb w3 (hs2.ext hK) (hs4.ext hK)) ?_
      rintro v4 w4 ⟨hv4, hk4⟩
      have hs4 := hk4.size
      have hK := hK.ext hk4
      have hb2 := hb2.ext hk4
      have hb3 := hb3.ext hk4
      obtain rfl := hv4
      refine ow_not rfl rfl rfl ?_
      refine ow_nil ?_
      refine cw_cond rfl (fun h3 => ?_) (fun h3 => ?_)
      · first | replace h3 := test_t h3 | replace h3 := test_f h3 | replace h3 := test_nt h3 | replace h3 := test_nf h3 | skip
        cases h3
      · first | replace h3 := test_t h3 | replace h3 := test_f h3 | replace h3 := test_nt h3 | replace h3 := test_nf h3 | skip
        skip
        refine cw_skip ?_
        refine cw_seq ?_
        refine cw_region ?_
        refine ow_assign rfl rfl ?_
        refine ow_nil ?_
        refine cw_ret ?_
        exact ⟨_, rfl, rfl, hK⟩

theorem eqBlockS_ret (bs : List Bk) (hs : Smalls bs) (va vb : Value) (La Lb : List Nat) (w : World) (ha : RBks La w va bs) (hb : RBks Lb w vb bs) : Ret Tryz.prog 19 [va, vb] w fun r w' => r = .bool true ∧ Keep [] w w' := by
  obtain ⟨a1, n1, c1, rfl, hn1⟩ := rbks_cases ha
  obtain ⟨a2, n2, c2, rfl, hn2⟩ := rbks_cases hb
  subst hn1 hn2
  have hK := Keep.refl [] w
  have hsl := hs.1
  refine ret_of [.tmp 4] 27 Tryz.func19 rfl nm19 rfl rfl ?_
  refine cw_seq ?_
  refine cw_region ?_
  refine ow_assign rfl rfl ?_
  refine ow_nil ?_
  refine cw_seq ?_
  refine cw_seq ?_
  refine cw_region ?_
  refine ow_move rfl rfl ?_
  refine ow_len tSl25 rfl rfl rfl ?_
  refine ow_move rfl rfl ?_
  refine ow_len tSl25 rfl rfl rfl ?_
  refine ow_neq rfl rfl rfl rfl rfl ?_
  refine ow_nil ?_
  refine cw_cond rfl (fun h1 => ?_) (fun h1 => ?_)
  · first | replace h1 := test_t h1 | replace h1 := test_f h1 | replace h1 := test_nt h1 | replace h1 := test_nf h1 | skip
    exact absurd rfl h1
  · first | replace h1 := test_t h1 | replace h1 := test_f h1 | replace h1 := test_nt h1 | replace h1 := test_nf h1 | skip
    skip
    refine cw_skip ?_
    refine cw_seq ?_
    refine cw_seq ?_
    refine cw_region ?_
    refine ow_assign rfl rfl ?_
    refine ow_nil ?_
    refine cw_block ?_
    refine cw_loop (fun k : Nat => [(0, .slice a1 bs.length c1), (1, .slice a2 bs.length c2), (5, .int .i64 (k : Int))]) (fun k w' => Keep [] w w' ∧ k ≤ bs.length) (fun k => bs.length - k) (0) (⟨rfl, rfl, rfl⟩) (⟨hK, by omega⟩) ?_
    intro gg w1 e1 hI
    obtain ⟨hK, hk⟩ := hI
    refine cw_seq ?_
    refine cw_seq ?_
    refine cw_region ?_
    refine ow_move rfl rfl ?_
    refine ow_move rfl rfl ?_
    refine ow_len tSl25 rfl rfl rfl ?_
    refine ow_lss rfl rfl rfl rfl rfl ?_
    refine ow_nil ?_
    refine cw_cond rfl (fun h2 => ?_) (fun h2 => ?_)
    · first | replace h2 := test_t h2 | replace h2 := test_f h2 | replace h2 := test_nt h2 | replace h2 := test_nf h2 | skip
      have hg := bth_get (bs := bs) (i := gg) (by omega)
      obtain ⟨b1, off1, r1, rn1, rc1, r2, rn2, rc2, rfl, hc1, _, _, hs1, hs2⟩ := rbks_get ha hg
      obtain ⟨b2, off2, r3, rn3, rc3, r4, rn4, rc4, rfl, hc2, _, _, hs3, hs4⟩ := rbks_get hb hg
      refine cw_skip ?_
      refine cw_seq ?_
      refine cw_block ?_
      refine cw_seq ?_
      refine cw_draw tMixed kept_new 10 [17, 18, 19, 20, 21, 22, 23, 24, 25, 26] [17, 18, 19, 20, 21, 22, 23, 24, 25, 26] [[], [], [0, 1], [2], [], [], [4, 5], [6], [3, 7], [8]] [fun v _ => v = (.slice (some ⟨b1, off1, none⟩) bs.length c1), fun v _ => v = (.int .i64 (gg : Int)), fun v _ => v = (.pointer (some ⟨b1, off1 + gg * 3, none⟩)), fun v _ => v = (.agg #[str (bth bs gg).label, .slice r1 rn1 rc1, .slice r2 rn2 rc2]), fun v _ => v = (.slice (some ⟨b2, off2, none⟩) bs.length c2), fun v _ => v = (.int .i64 (gg : Int)), fun v _ => v = (.pointer (some ⟨b2, off2 + gg * 3, none⟩)), fun v _ => v = (.agg #[str (bth bs gg).label, .slice r3 rn3 rc3, .slice r4 rn4 rc4]), fun v _ => v = (.bool true), fun v _ => v = (.bool (!true))] (by decide) (stab_eq (stab_eq (stab_eq (stab_eq (stab_eq (stab_eq (stab_eq (stab_eq (stab_eq (stab_eq trivial)))))))))) (fun wd hkd => ?_) ?_
      ·
        refine certs_cons ?_ ?_
        ·
          intro x vs w2 e hk2 hd he
          replace hk2 := kept_new.trans hkd hk2
          have hK := hK.ext hk2
          replace he : e = over (havoc _ x _) [] := he
          subst he
          refine ow_move rfl rfl ?_
          refine ow_nil ?_
          exact ⟨kept_new.refl _, rfl, by first | exact agree_put | exact agree_refl⟩
        refine certs_cons ?_ ?_
        ·
          intro x vs w2 e hk2 hd he
          replace hk2 := kept_new.trans hkd hk2
          have hK := hK.ext hk2
          replace he : e = over (havoc _ x _) [] := he
          subst he
          refine ow_move rfl rfl ?_
          refine ow_nil ?_
          exact ⟨kept_new.refl _, rfl, by first | exact agree_put | exact agree_refl⟩
        refine certs_cons ?_ ?_
        ·
          intro x vs w2 e hk2 hd he
          obtain ⟨d0, d1⟩ : (vs 0 = (.slice (some ⟨b1, off1, none⟩) bs.length c1)) ∧ (vs 1 = (.int .i64 (gg : Int))) := hd
          replace hk2 := kept_new.trans hkd hk2
          have hK := hK.ext hk2
          replace he : e = over (havoc _ x _) [(17, vs 0), (18, vs 1)] := he
          rw [d0, d1] at he
          subst he
          refine ow_indexAddr tSl25 tI55 rfl rfl rfl rfl (by omega) ?_
          refine ow_nil ?_
          exact ⟨kept_new.refl _, rfl, by first | exact agree_put | exact agree_refl⟩
        refine certs_cons ?_ ?_
        ·
          intro x vs w2 e hk2 hd he
          have d2 : vs 2 = (.pointer (some ⟨b1, off1 + gg * 3, none⟩)) := hd
          replace hk2 := kept_new.trans hkd hk2
          have hK := hK.ext hk2
          replace he : e = over (havoc _ x _) [(19, vs 2)] := he
          rw [d2] at he
          subst he
          refine ow_loads tAgg55 tI55 rfl rfl rfl (hc1.ext hK) (rfl) ?_
          refine ow_nil ?_
          exact ⟨kept_new.refl _, rfl, by first | exact agree_put | exact agree_refl⟩
        refine certs_cons ?_ ?_
        ·
          intro x vs w2 e hk2 hd he
          replace hk2 := kept_new.trans hkd hk2
          have hK := hK.ext hk2
          replace he : e = over (havoc _ x _) [] := he
          subst he
          refine ow_move rfl rfl ?_
          refine ow_nil ?_
          exact ⟨kept_new.refl _, rfl, by first | exact agree_put | exact agree_refl⟩
        refine certs_cons ?_ ?_
        ·
          intro x vs w2 e hk2 hd he
          replace hk2 := kept_new.trans hkd hk2
          have hK := hK.ext hk2
          replace he : e = over (havoc _ x _) [] := he
          subst he
          refine ow_move rfl rfl ?_
          refine ow_nil ?_
          exact ⟨kept_new.refl _, rfl, by first | exact agree_put | exact agree_refl⟩
        refine certs_cons ?_ ?_
        ·
          intro x vs w2 e hk2 hd he
          obtain ⟨d4, d5⟩ : (vs 4 = (.slice (some ⟨b2, off2, none⟩) bs.length c2)) ∧ (vs 5 = (.int .i64 (gg : Int))) := hd
          replace hk2 := kept_new.trans hkd hk2
          have hK := hK.ext hk2
          replace he : e = over (havoc _ x _) [(21, vs 4), (22, vs 5)] := he
          rw [d4, d5] at he
          subst he
          refine ow_indexAddr tSl25 tI55 rfl rfl rfl rfl (by omega) ?_
          refine ow_nil ?_
          exact ⟨kept_new.refl _, rfl, by first | exact agree_put | exact agree_refl⟩
        refine certs_cons ?_ ?_
        ·
          intro x vs w2 e hk2 hd he
          have d6 : vs 6 = (.pointer (some ⟨b2, off2 + gg * 3, none⟩)) := hd
          replace hk2 := kept_new.trans hkd hk2
          have hK := hK.ext hk2
          replace he : e = over (havoc _ x _) [(23, vs 6)] := he
          rw [d6] at he
          subst he
          refine ow_loads tAgg55 tI55 rfl rfl rfl (hc2.ext hK) (rfl) ?_
          refine ow_nil ?_
          exact ⟨kept_new.refl _, rfl, by first | exact agree_put | exact agree_refl⟩
        refine certs_cons ?_ ?_
        ·
          intro x vs w2 e hk2 hd he
          obtain ⟨d3, d7⟩ : (vs 3 = (.agg #[str (bth bs gg).label, .slice r1 rn1 rc1, .slice r2 rn2 rc2])) ∧ (vs 7 = (.agg #[str (bth bs gg).label, .slice r3 rn3 rc3, .slice r4 rn4 rc4])) := hd
          replace hk2 := kept_new.trans hkd hk2
          have hK := hK.ext hk2
          replace he : e = over (havoc _ x _) [(20, vs 3), (24, vs 7)] := he
          rw [d3, d7] at he
          subst he
          refine ow_call rfl rfl (eqBlock_ret (bth bs gg) (hs.2 gg (by omega)) _ _ La Lb w2 (RBk.ext (rbk_of hs1 hs2) hK) (RBk.ext (rbk_of hs3 hs4) hK)) ?_
          rintro v3 w3 ⟨hv3, hk3⟩
          have hs3 := hk3.size
          have hK := hK.ext hk3
          obtain rfl := hv3
          refine ow_nil ?_
          exact ⟨kept_new.of hk3, rfl, by first | exact agree_put | exact agree_refl⟩
        refine certs_cons ?_ ?_
        ·
          intro x vs w2 e hk2 hd he
          have d8 : vs 8 = (.bool true) := hd
          replace hk2 := kept_new.trans hkd hk2
          have hK := hK.ext hk2
          replace he : e = over (havoc _ x _) [(25, vs 8)] := he
          rw [d8] at he
          subst he
          refine ow_not rfl rfl rfl ?_
          refine ow_nil ?_
          exact ⟨kept_new.refl _, rfl, by first | exact agree_put | exact agree_refl⟩
        exact trivial
      · intro x vs w41 hk41 hdraw
        have d0 : vs 0 = (.slice (some ⟨b1, off1, none⟩) bs.length c1) := hdraw 0 (by decide)
        have d1 : vs 1 = (.int .i64 (gg : Int)) := hdraw 1 (by decide)
        have d2 : vs 2 = (.pointer (some ⟨b1, off1 + gg * 3, none⟩)) := hdraw 2 (by decide)
        have d3 : vs 3 = (.agg #[str (bth bs gg).label, .slice r1 rn1 rc1, .slice r2 rn2 rc2]) := hdraw 3 (by decide)
        have d4 : vs 4 = (.slice (some ⟨b2, off2, none⟩) bs.length c2) := hdraw 4 (by decide)
        have d5 : vs 5 = (.int .i64 (gg : Int)) := hdraw 5 (by decide)
        have d6 : vs 6 = (.pointer (some ⟨b2, off2 + gg * 3, none⟩)) := hdraw 6 (by decide)
        have d7 : vs 7 = (.agg #[str (bth bs gg).label, .slice r3 rn3 rc3, .slice r4 rn4 rc4]) := hdraw 7 (by decide)
        have d8 : vs 8 = (.bool true) := hdraw 8 (by decide)
        have d9 : vs 9 = (.bool (!true)) := hdraw 9 (by decide)
        have hK := hK.ext hk41
        change OW _ _ _ _ [] (over (havoc _ x _) [(17, vs 0), (18, vs 1), (19, vs 2), (20, vs 3), (21, vs 4), (22, vs 5), (23, vs 6), (24, vs 7), (25, vs 8), (26, vs 9)]) _
        rw [d0, d1, d2, d3, d4, d5, d6, d7, d8, d9]
        refine ow_nil ?_
        refine cw_cond rfl (fun h3 => ?_) (fun h3 => ?_)
        · first | replace h3 := test_t h3 | replace h3 := test_f h3 | replace h3 := test_nt h3 | replace h3 := test_nf h3 | skip
          cases h3
        · first | replace h3 := test_t h3 | replace h3 := test_f h3 | replace h3 := test_nt h3 | replace h3 := test_nf h3 | skip
          skip
          refine cw_skip ?_
          refine cw_region ?_
          refine ow_move rfl rfl ?_
          refine ow_add rfl rfl rfl rfl rfl (wrap_i64 _ (by omega) (by omega)) ?_
          refine ow_assign rfl rfl ?_
          refine ow_nil ?_
          exact ⟨gg + 1, ⟨rfl, rfl, rfl⟩, ⟨hK, by omega⟩, by omega⟩
    · first | replace h2 := test_t h2 | replace h2 := test_f h2 | replace h2 := test_nt h2 | replace h2 := test_nf h2 | skip
      skip
      refine cw_exit ?_
      refine x_hit rfl ?_
      refine cw_seq ?_
      refine cw_region ?_
      refine ow_assign rfl rfl ?_
      refine ow_nil ?_
      refine cw_ret ?_
      exact ⟨_, rfl, rfl, hK⟩

end Go.Proofs.YtnkjgoholocliaaGreatDoor

namespace Go.Proofs.YtnkjgoholocliaaGreatDoor
open Go

theorem szS_ret (xs : List Bytes) (left : Nat) (hl : left ≤ 1048576) (hf : Fit xs) (v : Value) (L : List Nat) (w : World) (hv : RStrs L w v xs) : Ret Tryz.prog 96 [v, .int .i64 (left : Int)] w fun r w' => r = .int .i64 (lft (szS xs) left) ∧ Keep [] w w' := by
  obtain ⟨a, n, c, rfl, hn⟩ := rstrs_cases hv
  subst hn
  have hK := Keep.refl [] w
  have hx := hf.1
  have h0 := szSto_le xs 0
  have h00 : szSto xs 0 = xs.length := by simp [szSto]
  refine ret_of [.tmp 4] 28 Tryz.func96 rfl nm96 rfl rfl ?_
  refine cw_seq ?_
  refine cw_region ?_
  refine ow_assign rfl rfl ?_
  refine ow_nil ?_
  refine cw_seq ?_
  refine cw_region ?_
  refine ow_move rfl rfl ?_
  refine ow_move rfl rfl ?_
  refine ow_len tSl35 rfl rfl rfl ?_
  refine ow_sub rfl rfl rfl rfl rfl (wrap_i64 _ (by omega) (by omega)) ?_
  refine ow_assign rfl rfl ?_
  refine ow_nil ?_
  refine cw_seq ?_
  refine cw_seq ?_
  refine cw_region ?_
  refine ow_move rfl rfl ?_
  refine ow_lss rfl rfl rfl rfl rfl ?_
  refine ow_nil ?_
  refine cw_cond rfl (fun h1 => ?_) (fun h1 => ?_)
  · first | replace h1 := test_t h1 | replace h1 := test_f h1 | replace h1 := test_nt h1 | replace h1 := test_nf h1 | skip
    have hq := lft_no (n := szS xs) (left := left) (by omega)
    refine cw_seq ?_
    refine cw_region ?_
    refine ow_assign rfl rfl ?_
    refine ow_nil ?_
    refine cw_ret ?_
    exact ⟨_, rfl, by rw [hq]; rfl, hK⟩
  · first | replace h1 := test_t h1 | replace h1 := test_f h1 | replace h1 := test_nt h1 | replace h1 := test_nf h1 | skip
    skip
    refine cw_skip ?_
    refine cw_seq ?_
    refine cw_seq ?_
    refine cw_region ?_
    refine ow_assign rfl rfl ?_
    refine ow_nil ?_
    refine cw_block ?_
    refine cw_loop (fun k : Nat => [(0, .slice a xs.length c), (1, .int .i64 ((left - szSto xs k : Nat) : Int)), (5, .int .i64 (k : Int))]) (fun k w' => Keep [] w w' ∧ k ≤ xs.length ∧ szSto xs k ≤ left) (fun k => xs.length - k) (0) (⟨rfl, congrArg (Value.int .i64) (by omega), rfl⟩) (⟨hK, by omega, by omega⟩) ?_
    intro gg w1 e1 hI
    obtain ⟨hK, hk, hle⟩ := hI
    refine cw_seq ?_
    refine cw_seq ?_
    refine cw_region ?_
    refine ow_move rfl rfl ?_
    refine ow_move rfl rfl ?_
    refine ow_len tSl35 rfl rfl rfl ?_
    refine ow_lss rfl rfl rfl rfl rfl ?_
    refine ow_nil ?_
    refine cw_cond rfl (fun h2 => ?_) (fun h2 => ?_)
    · first | replace h2 := test_t h2 | replace h2 := test_f h2 | replace h2 := test_nt h2 | replace h2 := test_nf h2 | skip
      have hg := sth_get (xs := xs) (i := gg) (by omega)
      obtain ⟨b1, off1, rfl, hc1⟩ := rstrs_get hv hg
      have hsl := hf.2 gg (by omega)
      have hst := szSto_step (xs := xs) (k := gg) (by omega)
      have hsl2 := szSto_le xs (gg + 1)
      refine cw_skip ?_
      refine cw_seq ?_
      refine cw_block ?_
      refine cw_seq ?_
      refine cw_region ?_
      refine ow_move rfl rfl ?_
      refine ow_move rfl rfl ?_
      refine ow_move rfl rfl ?_
      refine ow_indexAddr tSl35 tI9 rfl rfl rfl rfl (by omega) ?_
      refine ow_load tOne9 rfl rfl rfl (hc1.ext hK 0 _ rfl) ?_
      refine ow_lenS tStr9 rfl rfl rfl ?_
      refine ow_sub rfl rfl rfl rfl rfl (wrap_i64 _ (by omega) (by omega)) ?_
      refine ow_assign rfl rfl ?_
      refine ow_nil ?_
      refine cw_seq ?_
      refine cw_region ?_
      refine ow_move rfl rfl ?_
      refine ow_lss rfl rfl rfl rfl rfl ?_
      refine ow_nil ?_
      refine cw_cond rfl (fun h3 => ?_) (fun h3 => ?_)
      · first | replace h3 := test_t h3 | replace h3 := test_f h3 | replace h3 := test_nt h3 | replace h3 := test_nf h3 | skip
        have hq := lft_no (n := szS xs) (left := left) (by omega)
        refine cw_seq ?_
        refine cw_region ?_
        refine ow_assign rfl rfl ?_
        refine ow_nil ?_
        refine cw_ret ?_
        exact ⟨_, rfl, by rw [hq]; rfl, hK⟩
      · first | replace h3 := test_t h3 | replace h3 := test_f h3 | replace h3 := test_nt h3 | replace h3 := test_nf h3 | skip
        skip
        refine cw_skip ?_
        refine cw_region ?_
        refine ow_move rfl rfl ?_
        refine ow_add rfl rfl rfl rfl rfl (wrap_i64 _ (by omega) (by omega)) ?_
        refine ow_assign rfl rfl ?_
        refine ow_nil ?_
        exact ⟨gg + 1, ⟨rfl, congrArg (Value.int .i64) (by omega), rfl⟩, ⟨hK, by omega, by omega⟩, by omega⟩
    · first | replace h2 := test_t h2 | replace h2 := test_f h2 | replace h2 := test_nt h2 | replace h2 := test_nf h2 | skip
      have hq := szSto_all (xs := xs) (k := gg) (by omega)
      refine cw_exit ?_
      refine x_hit rfl ?_
      refine cw_seq ?_
      refine cw_region ?_
      refine ow_move rfl rfl ?_
      refine ow_assign rfl rfl ?_
      refine ow_nil ?_
      refine cw_ret ?_
      exact ⟨_, rfl, by rw [lft_yes (by omega), ← hq]; rfl, hK⟩

theorem szBk_ret (k : Bk) (left : Nat) (hl : left ≤ 1048576) (hf : FitB k) (v : Value) (L : List Nat) (w : World) (hv : RBk L w v k) : Ret Tryz.prog 50 [v, .int .i64 (left : Int)] w fun r w' => r = .int .i64 (lft (szB k) left) ∧ Keep [] w w' := by
  obtain ⟨a1, n1, c1, a2, n2, c2, rfl, he1, he2, hq1, hq2⟩ := rbk_cases hv
  have hK := Keep.refl [] w
  have hx := hf.1
  have hsz : szB k = k.label.length + szS k.needs + szS k.code := rfl
  refine ret_of [.tmp 4] 25 Tryz.func50 rfl nm50 rfl rfl ?_
  refine cw_seq ?_
  refine cw_region ?_
  refine ow_boxA rfl rfl rfl ?_
  intro w1 hk1 hb2 hz1
  have hK := hK.ext hk1
  refine ow_assign rfl rfl ?_
  refine ow_nil ?_
  refine cw_seq ?_
  refine cw_region ?_
  refine ow_move rfl rfl ?_
  refine ow_fieldAddr tF53_0 rfl rfl rfl ?_
  refine ow_load tOne9 rfl rfl rfl (hb2.at rfl) ?_
  refine ow_lenS tStr9 rfl rfl rfl ?_
  refine ow_sub rfl rfl rfl rfl rfl (wrap_i64 _ (by omega) (by omega)) ?_
  refine ow_assign rfl rfl ?_
  refine ow_nil ?_
  refine cw_seq ?_
  refine cw_seq ?_
  refine cw_region ?_
  refine ow_move rfl rfl ?_
  refine ow_lss rfl rfl rfl rfl rfl ?_
  refine ow_nil ?_
  refine cw_cond rfl (fun h1 => ?_) (fun h1 => ?_)
  · first | replace h1 := test_t h1 | replace h1 := test_f h1 | replace h1 := test_nt h1 | replace h1 := test_nf h1 | skip
    have hq := lft_no (n := szB k) (left := left) (by omega)
    refine cw_seq ?_
    refine cw_region ?_
    refine ow_assign rfl rfl ?_
    refine ow_nil ?_
    refine cw_ret ?_
    exact ⟨_, rfl, by rw [hq]; rfl, hK⟩
  · first | replace h1 := test_t h1 | replace h1 := test_f h1 | replace h1 := test_nt h1 | replace h1 := test_nf h1 | skip
    have e1 : (left : Int) - (k.label.length : Int) = ((left - k.label.length : Nat) : Int) := by omega
    refine cw_skip ?_
    refine cw_seq ?_
    refine cw_region ?_
    refine ow_fieldAddr tF53_1 rfl rfl rfl ?_
    refine ow_load tOne35 rfl rfl rfl (hb2.at rfl) ?_
    refine ow_move rfl rfl ?_
    rw [e1]
    refine ow_call rfl rfl (szS_ret k.needs (left - k.label.length) (by omega) hf.2.1 _ L w1 (hq1.ext hK)) ?_
    rintro v2 w2 ⟨hv2, hk2⟩
    have hs2 := hk2.size
    have hK := hK.ext hk2
    have hb2 := hb2.ext hk2
    obtain rfl := hv2
    refine ow_assign rfl rfl ?_
    refine ow_nil ?_
    refine cw_seq ?_
    refine cw_seq ?_
    refine cw_region ?_
    refine ow_move rfl rfl ?_
    refine ow_lss rfl rfl rfl rfl rfl ?_
    refine ow_nil ?_
    refine cw_cond rfl (fun h2 => ?_) (fun h2 => ?_)
    · first | replace h2 := test_t h2 | replace h2 := test_f h2 | replace h2 := test_nt h2 | replace h2 := test_nf h2 | skip
      have hq := lft_no (n := szB k) (left := left) (by have := lft_neg h2; omega)
      refine cw_seq ?_
      refine cw_region ?_
      refine ow_assign rfl rfl ?_
      refine ow_nil ?_
      refine cw_ret ?_
      exact ⟨_, rfl, by rw [hq]; rfl, hK⟩
    · first | replace h2 := test_t h2 | replace h2 := test_f h2 | replace h2 := test_nt h2 | replace h2 := test_nf h2 | skip
      have h2 := lft_pos h2
      rw [lft_yes h2]
      refine cw_skip ?_
      refine cw_seq ?_
      refine cw_region ?_
      refine ow_fieldAddr tF53_2 rfl rfl rfl ?_
      refine ow_load tOne35 rfl rfl rfl (hb2.at rfl) ?_
      refine ow_move rfl rfl ?_
      refine ow_call rfl rfl (szS_ret k.code (left - k.label.length - szS k.needs) (by omega) hf.2.2 _ L w2 (hq2.ext hK)) ?_
      rintro v3 w3 ⟨hv3, hk3⟩
      have hs3 := hk3.size
      have hK := hK.ext hk3
      have hb2 := hb2.ext hk3
      obtain rfl := hv3
      refine ow_assign rfl rfl ?_
      refine ow_nil ?_
      refine cw_seq ?_
      refine cw_seq ?_
      refine cw_region ?_
      refine ow_move rfl rfl ?_
      refine ow_lss rfl rfl rfl rfl rfl ?_
      refine ow_nil ?_
      refine cw_cond rfl (fun h3 => ?_) (fun h3 => ?_)
      · first | replace h3 := test_t h3 | replace h3 := test_f h3 | replace h3 := test_nt h3 | replace h3 := test_nf h3 | skip
        have hq := lft_no (n := szB k) (left := left) (by have := lft_neg h3; omega)
        refine cw_seq ?_
        refine cw_region ?_
        refine ow_assign rfl rfl ?_
        refine ow_nil ?_
        refine cw_ret ?_
        exact ⟨_, rfl, by rw [hq]; rfl, hK⟩
      · first | replace h3 := test_t h3 | replace h3 := test_f h3 | replace h3 := test_nt h3 | replace h3 := test_nf h3 | skip
        have h3 := lft_pos h3
        rw [lft_yes h3]
        refine cw_skip ?_
        refine cw_seq ?_
        refine cw_region ?_
        refine ow_move rfl rfl ?_
        refine ow_assign rfl rfl ?_
        refine ow_nil ?_
        refine cw_ret ?_
        exact ⟨_, rfl, congrArg (Value.int .i64) (by rw [lft_yes (by omega)]; omega), hK⟩

theorem szP_ret (bs : List Bk) (left : Nat) (hl : left ≤ 1048576) (hf : FitP bs) (v : Value) (L : List Nat) (w : World) (hv : RBks L w v bs) : Ret Tryz.prog 15 [v, .int .i64 (left : Int)] w fun r w' => r = .int .i64 (lft (szP bs) left) ∧ Keep [] w w' := by
  obtain ⟨a, n, c, rfl, hn⟩ := rbks_cases hv
  subst hn
  have hK := Keep.refl [] w
  have hx := hf.1
  have h0 := szPto_le bs 0
  have h00 : szPto bs 0 = bs.length := by simp [szPto]
  refine ret_of [.tmp 4] 27 Tryz.func15 rfl nm15 rfl rfl ?_
  refine cw_seq ?_
  refine cw_region ?_
  refine ow_assign rfl rfl ?_
  refine ow_nil ?_
  refine cw_seq ?_
  refine cw_region ?_
  refine ow_move rfl rfl ?_
  refine ow_move rfl rfl ?_
  refine ow_len tSl22 rfl rfl rfl ?_
  refine ow_sub rfl rfl rfl rfl rfl (wrap_i64 _ (by omega) (by omega)) ?_
  refine ow_assign rfl rfl ?_
  refine ow_nil ?_
  refine cw_seq ?_
  refine cw_seq ?_
  refine cw_region ?_
  refine ow_move rfl rfl ?_
  refine ow_lss rfl rfl rfl rfl rfl ?_
  refine ow_nil ?_
  refine cw_cond rfl (fun h1 => ?_) (fun h1 => ?_)
  · first | replace h1 := test_t h1 | replace h1 := test_f h1 | replace h1 := test_nt h1 | replace h1 := test_nf h1 | skip
    have hq := lft_no (n := szP bs) (left := left) (by omega)
    refine cw_seq ?_
    refine cw_region ?_
    refine ow_assign rfl rfl ?_
    refine ow_nil ?_
    refine cw_ret ?_
    exact ⟨_, rfl, by rw [hq]; rfl, hK⟩
  · first | replace h1 := test_t h1 | replace h1 := test_f h1 | replace h1 := test_nt h1 | replace h1 := test_nf h1 | skip
    skip
    refine cw_skip ?_
    refine cw_seq ?_
    refine cw_seq ?_
    refine cw_region ?_
    refine ow_assign rfl rfl ?_
    refine ow_nil ?_
    refine cw_block ?_
    refine cw_loop (fun k : Nat => [(0, .slice a bs.length c), (1, .int .i64 ((left - szPto bs k : Nat) : Int)), (5, .int .i64 (k : Int))]) (fun k w' => Keep [] w w' ∧ k ≤ bs.length ∧ szPto bs k ≤ left) (fun k => bs.length - k) (0) (⟨rfl, congrArg (Value.int .i64) (by omega), rfl⟩) (⟨hK, by omega, by omega⟩) ?_
    intro gg w1 e1 hI
    obtain ⟨hK, hk, hle⟩ := hI
    refine cw_seq ?_
    refine cw_seq ?_
    refine cw_region ?_
    refine ow_move rfl rfl ?_
    refine ow_move rfl rfl ?_
    refine ow_len tSl22 rfl rfl rfl ?_
    refine ow_lss rfl rfl rfl rfl rfl ?_
    refine ow_nil ?_
    refine cw_cond rfl (fun h2 => ?_) (fun h2 => ?_)
    · first | replace h2 := test_t h2 | replace h2 := test_f h2 | replace h2 := test_nt h2 | replace h2 := test_nf h2 | skip
      have hg := bth_get (bs := bs) (i := gg) (by omega)
      obtain ⟨b1, off1, r1, rn1, rc1, r2, rn2, rc2, rfl, hc1, _, _, hs1, hs2⟩ := rbks_get hv hg
      have hst := szPto_step (bs := bs) (k := gg) (by omega)
      have hsl2 := szPto_le bs (gg + 1)
      refine cw_skip ?_
      refine cw_seq ?_
      refine cw_block ?_
      refine cw_seq ?_
      refine cw_region ?_
      refine ow_move rfl rfl ?_
      refine ow_move rfl rfl ?_
      refine ow_indexAddr tSl22 tI53 rfl rfl rfl rfl (by omega) ?_
      refine ow_loads tAgg53 tI53 rfl rfl rfl (hc1.ext hK) (rfl) ?_
      refine ow_move rfl rfl ?_
      refine ow_call rfl rfl (szBk_ret (bth bs gg) (left - szPto bs gg) (by omega) (hf.2 gg (by omega)) _ L w1 (RBk.ext (rbk_of hs1 hs2) hK)) ?_
      rintro v2 w2 ⟨hv2, hk2⟩
      have hs2 := hk2.size
      have hK := hK.ext hk2
      obtain rfl := hv2
      refine ow_assign rfl rfl ?_
      refine ow_nil ?_
      refine cw_seq ?_
      refine cw_region ?_
      refine ow_move rfl rfl ?_
      refine ow_lss rfl rfl rfl rfl rfl ?_
      refine ow_nil ?_
      refine cw_cond rfl (fun h3 => ?_) (fun h3 => ?_)
      · first | replace h3 := test_t h3 | replace h3 := test_f h3 | replace h3 := test_nt h3 | replace h3 := test_nf h3 | skip
        have hq := lft_no (n := szP bs) (left := left) (by have := lft_neg h3; omega)
        refine cw_seq ?_
        refine cw_region ?_
        refine ow_assign rfl rfl ?_
        refine ow_nil ?_
        refine cw_ret ?_
        exact ⟨_, rfl, by rw [hq]; rfl, hK⟩
      · first | replace h3 := test_t h3 | replace h3 := test_f h3 | replace h3 := test_nt h3 | replace h3 := test_nf h3 | skip
        have h2 := lft_pos h3
        rw [lft_yes h2]
        refine cw_skip ?_
        refine cw_region ?_
        refine ow_move rfl rfl ?_
        refine ow_add rfl rfl rfl rfl rfl (wrap_i64 _ (by omega) (by omega)) ?_
        refine ow_assign rfl rfl ?_
        refine ow_nil ?_
        exact ⟨gg + 1, ⟨rfl, congrArg (Value.int .i64) (by omega), rfl⟩, ⟨hK, by omega, by omega⟩, by omega⟩
    · first | replace h2 := test_t h2 | replace h2 := test_f h2 | replace h2 := test_nt h2 | replace h2 := test_nf h2 | skip
      have hq := szPto_all (bs := bs) (k := gg) (by omega)
      refine cw_exit ?_
      refine x_hit rfl ?_
      refine cw_seq ?_
      refine cw_region ?_
      refine ow_move rfl rfl ?_
      refine ow_assign rfl rfl ?_
      refine ow_nil ?_
      refine cw_ret ?_
      exact ⟨_, rfl, by rw [lft_yes (by omega), ← hq]; rfl, hK⟩

theorem toS_ret (xs : List Bytes) (hx : xs.length ≤ 1000000000) (v : Value) (La L : List Nat) (w : World) (hv : RStrs La w v xs) (hL : ∀ x, x ∈ L → x < w.heap.size) : Ret Tryz.prog 99 [v] w fun r w' => (∃ a c, r = .slice a xs.length c ∧ RStrs L w' r xs) ∧ Keep [] w w' := by
  obtain ⟨a, n, c, rfl, hn⟩ := rstrs_cases hv
  subst hn
  have hK := Keep.refl [] w
  refine ret_of [.tmp 2] 22 Tryz.func99 rfl nm99 rfl rfl ?_
  refine cw_seq ?_
  refine cw_region ?_
  refine ow_assign rfl rfl ?_
  refine ow_nil ?_
  refine cw_seq ?_
  refine cw_region ?_
  refine ow_move rfl rfl ?_
  refine ow_len tSl35 rfl rfl rfl ?_
  refine ow_makeSlice (zs := [str []]) (row := [.val (str [])]) w.heap.size xs.length L tSl35 tI9 rfl rfl rfl rfl rfl rfl rfl rfl rfl (by omega) (fun _ _ => ⟨.val _, trivial⟩) (Nat.le_refl _) hL ?_
  intro w1 hk1 hz1 hO
  have hK := hK.ext hk1
  rw [show List.replicate xs.length [C.val (str [])] = strsC (fill [] xs 0) from by rw [fill_zero]; simp [strsC]] at hO
  refine ow_assign rfl rfl ?_
  refine ow_nil ?_
  refine cw_seq ?_
  refine cw_seq ?_
  refine cw_region ?_
  refine ow_assign rfl rfl ?_
  refine ow_nil ?_
  refine cw_block ?_
  refine cw_loop (fun k : Nat => [(0, .slice a xs.length c), (3, .slice (some ⟨w.heap.size, 0, none⟩) xs.length xs.length), (4, .int .i64 (k : Int))]) (fun k w' => Keep [] w w' ∧ Gr w.heap.size L w' 9 1 (.slice (some ⟨w.heap.size, 0, none⟩) xs.length xs.length) (some w.heap.size) (strsC (fill [] xs k)) ∧ k ≤ xs.length) (fun k => xs.length - k) (0) (⟨rfl, rfl, rfl⟩) (⟨hK, hO, by omega⟩) ?_
  intro gg w2 e2 hI
  obtain ⟨hK, hO, hk⟩ := hI
  refine cw_seq ?_
  refine cw_seq ?_
  refine cw_region ?_
  refine ow_move rfl rfl ?_
  refine ow_move rfl rfl ?_
  refine ow_len tSl35 rfl rfl rfl ?_
  refine ow_lss rfl rfl rfl rfl rfl ?_
  refine ow_nil ?_
  refine cw_cond rfl (fun h1 => ?_) (fun h1 => ?_)
  · first | replace h1 := test_t h1 | replace h1 := test_f h1 | replace h1 := test_nt h1 | replace h1 := test_nf h1 | skip
    have hg := sth_get (xs := xs) (i := gg) (by omega)
    obtain ⟨b1, off1, rfl, hc1⟩ := rstrs_get hv hg
    refine cw_skip ?_
    refine cw_seq ?_
    refine cw_block ?_
    refine cw_region ?_
    refine ow_move rfl rfl ?_
    refine ow_move rfl rfl ?_
    refine ow_move rfl rfl ?_
    refine ow_move rfl rfl ?_
    refine ow_indexAddr tSl35 tI9 rfl rfl rfl rfl (by omega) ?_
    refine ow_load tOne9 rfl rfl rfl (hc1.ext hK 0 _ rfl) ?_
    refine ow_indexAddr tSl35 tI9 rfl rfl rfl rfl (by omega) ?_
    refine ow_storeG (i := gg) (vs := [str (sth xs gg)]) (row := [.val (str (sth xs gg))]) tI9 rfl rfl rfl rfl (by omega) hO (by rw [strsC_length, fill_len _ _ hk]; omega) rfl rfl ⟨.val _, trivial⟩ ?_
    intro w3 hk3 hz9 hO
    have hK := hK.since hk3 (by simp)
    rw [show (strsC (fill [] xs gg)).set gg [C.val (str (sth xs gg))] = strsC (fill [] xs (gg + 1)) from by rw [← fill_set [] hg]; simp only [strsC, List.map_set]] at hO
    refine ow_nil ?_
    refine cw_region ?_
    refine ow_move rfl rfl ?_
    refine ow_add rfl rfl rfl rfl rfl (wrap_i64 _ (by omega) (by omega)) ?_
    refine ow_assign rfl rfl ?_
    refine ow_nil ?_
    exact ⟨gg + 1, ⟨rfl, rfl, rfl⟩, ⟨hK, hO, by omega⟩, by omega⟩
  · first | replace h1 := test_t h1 | replace h1 := test_f h1 | replace h1 := test_nt h1 | replace h1 := test_nf h1 | skip
    rw [fill_all [] (by omega)] at hO
    refine cw_exit ?_
    refine x_hit rfl ?_
    refine cw_seq ?_
    refine cw_region ?_
    refine ow_move rfl rfl ?_
    refine ow_assign rfl rfl ?_
    refine ow_nil ?_
    refine cw_ret ?_
    exact ⟨_, rfl, ⟨_, _, rfl, hO.done⟩, hK⟩

theorem toBk_ret (k : Bk) (hs : k.small) (v : Value) (La L : List Nat) (w : World) (hv : RBk La w v k) (hL : ∀ x, x ∈ L → x < w.heap.size) : Ret Tryz.prog 52 [v] w fun r w' => RBk L w' r k ∧ Keep [] w w' := by
  obtain ⟨a1, n1, c1, a2, n2, c2, rfl, he1, he2, hq1, hq2⟩ := rbk_cases hv
  subst he1 he2
  have hK := Keep.refl [] w
  have hsm := hs.2.1
  have hsm2 := hs.2.2
  refine ret_gen [.cell 2 55] 16 Tryz.func52 rfl nm52 rfl rfl rfl ?_
  refine cw_seq ?_
  refine cw_region ?_
  refine ow_boxA rfl rfl rfl ?_
  intro w1 hk1 hb1 hz1
  have hK := hK.ext hk1
  refine ow_allocA tI55 rfl rfl rfl ?_
  intro w2 hk2 hb2 hz2
  have hK := hK.grow
  have hK := hK.ext hk2
  have hb1 := hb1.grow
  have hb1 := hb1.ext hk2
  refine ow_nil ?_
  refine cw_seq ?_
  refine cw_region ?_
  refine ow_allocA tI55 rfl rfl rfl ?_
  intro w3 hk3 hb3 hz3
  have hK := hK.grow
  have hK := hK.ext hk3
  have hb1 := hb1.grow
  have hb1 := hb1.ext hk3
  have hb2 := hb2.grow
  have hb2 := hb2.ext hk3
  refine ow_nil ?_
  refine cw_seq ?_
  refine cw_region ?_
  refine ow_fieldAddr tF53_0 rfl rfl rfl ?_
  refine ow_load tOne9 rfl rfl rfl (hb1.at rfl) ?_
  refine ow_fieldAddr tF55_0 rfl rfl rfl ?_
  refine ow_storeB tI9 rfl rfl rfl rfl hb3 rfl ?_
  intro w4 hk4 hb3 hz4
  have hK := hK.sto hk4 (by simp <;> omega)
  have hb1 := hb1.sto hk4 (by simp <;> omega)
  have hb2 := hb2.sto hk4 (by simp <;> omega)
  refine ow_nil ?_
  refine cw_seq ?_
  refine cw_region ?_
  refine ow_fieldAddr tF53_1 rfl rfl rfl ?_
  refine ow_load tOne35 rfl rfl rfl (hb1.at rfl) ?_
  refine ow_call rfl rfl (toS_ret k.needs (by omega) _ La (w1.heap.size :: w2.heap.size :: L) w4 (hq1.ext hK) (by intro x hx; have := hK.size; simp at hx; rcases hx with rfl | rfl | hx; omega; omega; have := hL x hx; omega)) ?_
  rintro v5 w5 ⟨hv5, hk5⟩
  have hs5 := hk5.size
  have hK := hK.ext hk5
  have hb1 := hb1.ext hk5
  have hb2 := hb2.ext hk5
  have hb3 := hb3.ext hk5
  obtain ⟨a3, c3, rfl, hr1⟩ := hv5
  refine ow_fieldAddr tF55_1 rfl rfl rfl ?_
  refine ow_storeB tI35 rfl rfl rfl rfl hb3 rfl ?_
  intro w6 hk6 hb3 hz6
  have hK := hK.sto hk6 (by simp <;> omega)
  have hb1 := hb1.sto hk6 (by simp <;> omega)
  have hb2 := hb2.sto hk6 (by simp <;> omega)
  have hr1 := hr1.sto hk6 (by simp <;> omega)
  refine ow_nil ?_
  refine cw_seq ?_
  refine cw_region ?_
  refine ow_fieldAddr tF53_2 rfl rfl rfl ?_
  refine ow_load tOne35 rfl rfl rfl (hb1.at rfl) ?_
  refine ow_call rfl rfl (toS_ret k.code (by omega) _ La (w1.heap.size :: w2.heap.size :: L) w6 (hq2.ext hK) (by intro x hx; have := hK.size; simp at hx; rcases hx with rfl | rfl | hx; omega; omega; have := hL x hx; omega)) ?_
  rintro v7 w7 ⟨hv7, hk7⟩
  have hs7 := hk7.size
  have hK := hK.ext hk7
  have hb1 := hb1.ext hk7
  have hb2 := hb2.ext hk7
  have hb3 := hb3.ext hk7
  have hr1 := hr1.ext hk7
  obtain ⟨a4, c4, rfl, hr2⟩ := hv7
  refine ow_fieldAddr tF55_2 rfl rfl rfl ?_
  refine ow_storeB tI35 rfl rfl rfl rfl hb3 rfl ?_
  intro w8 hk8 hb3 hz8
  have hK := hK.sto hk8 (by simp <;> omega)
  have hb1 := hb1.sto hk8 (by simp <;> omega)
  have hb2 := hb2.sto hk8 (by simp <;> omega)
  have hr1 := hr1.sto hk8 (by simp <;> omega)
  have hr2 := hr2.sto hk8 (by simp <;> omega)
  refine ow_nil ?_
  refine cw_seq ?_
  refine cw_region ?_
  refine ow_loads tAgg55 tI55 rfl rfl rfl hb3.all rfl ?_
  refine ow_storeA tI55 rfl rfl rfl rfl rfl hb2 rfl ?_
  intro w9 hk9 hb2 hz9
  have hK := hK.sto hk9 (by simp <;> omega)
  have hb1 := hb1.sto hk9 (by simp <;> omega)
  have hb3 := hb3.sto hk9 (by simp <;> omega)
  have hr1 := hr1.sto hk9 (by simp <;> omega)
  have hr2 := hr2.sto hk9 (by simp <;> omega)
  refine ow_nil ?_
  refine cw_ret ?_
  exact ⟨[_], resultAt_blk tAgg55 tI55 rfl hb2 rfl, rbk_of (b := k) (Rep.weaken hr1 (fun x hx => by simp [hx])) (Rep.weaken hr2 (fun x hx => by simp [hx])), hK⟩

theorem toP_ret (bs : List Bk) (hs : Smalls bs) (v : Value) (La L : List Nat) (w : World) (hv : RBks La w v bs) (hL : ∀ x, x ∈ L → x < w.heap.size) : Ret Tryz.prog 17 [v] w fun r w' => RBks L w' r bs ∧ Keep [] w w' := by
  obtain ⟨a, n, c, rfl, hn⟩ := rbks_cases hv
  subst hn
  have hK := Keep.refl [] w
  have hsl := hs.1
  refine ret_of [.tmp 2] 23 Tryz.func17 rfl nm17 rfl rfl ?_
  refine cw_seq ?_
  refine cw_region ?_
  refine ow_assign rfl rfl ?_
  refine ow_nil ?_
  refine cw_seq ?_
  refine cw_region ?_
  refine ow_move rfl rfl ?_
  refine ow_len tSl22 rfl rfl rfl ?_
  refine ow_makeSlice (zs := [str [], .slice none 0 0, .slice none 0 0]) (row := nob.enc) w.heap.size bs.length L tSl25 tI55 rfl rfl rfl rfl rfl rfl rfl rfl rfl (by omega) (fun _ _ => ⟨.val _, rstrs_nil, rstrs_nil, trivial⟩) (Nat.le_refl _) hL ?_
  intro w1 hk1 hz1 hO
  have hK := hK.ext hk1
  rw [show List.replicate bs.length nob.enc = (fill nob bs 0).map Bk.enc from by rw [fill_zero]; simp] at hO
  refine ow_assign rfl rfl ?_
  refine ow_nil ?_
  refine cw_seq ?_
  refine cw_seq ?_
  refine cw_region ?_
  refine ow_assign rfl rfl ?_
  refine ow_nil ?_
  refine cw_block ?_
  refine cw_loop (fun k : Nat => [(0, .slice a bs.length c), (3, .slice (some ⟨w.heap.size, 0, none⟩) bs.length bs.length), (4, .int .i64 (k : Int))]) (fun k w' => Keep [] w w' ∧ Gr w.heap.size L w' 55 3 (.slice (some ⟨w.heap.size, 0, none⟩) bs.length bs.length) (some w.heap.size) ((fill nob bs k).map Bk.enc) ∧ k ≤ bs.length) (fun k => bs.length - k) (0) (⟨rfl, rfl, rfl⟩) (⟨hK, hO, by omega⟩) ?_
  intro gg w2 e2 hI
  obtain ⟨hK, hO, hk⟩ := hI
  refine cw_seq ?_
  refine cw_seq ?_
  refine cw_region ?_
  refine ow_move rfl rfl ?_
  refine ow_move rfl rfl ?_
  refine ow_len tSl22 rfl rfl rfl ?_
  refine ow_lss rfl rfl rfl rfl rfl ?_
  refine ow_nil ?_
  refine cw_cond rfl (fun h1 => ?_) (fun h1 => ?_)
  · first | replace h1 := test_t h1 | replace h1 := test_f h1 | replace h1 := test_nt h1 | replace h1 := test_nf h1 | skip
    have hg := bth_get (bs := bs) (i := gg) (by omega)
    obtain ⟨b1, off1, r1, rn1, rc1, r2, rn2, rc2, rfl, hc1, _, _, hs1, hs2⟩ := rbks_get hv hg
    refine cw_skip ?_
    refine cw_seq ?_
    refine cw_block ?_
    refine cw_region ?_
    refine ow_move rfl rfl ?_
    refine ow_move rfl rfl ?_
    refine ow_move rfl rfl ?_
    refine ow_move rfl rfl ?_
    refine ow_indexAddr tSl22 tI53 rfl rfl rfl rfl (by omega) ?_
    refine ow_loads tAgg53 tI53 rfl rfl rfl (hc1.ext hK) (rfl) ?_
    refine ow_call rfl rfl (toBk_ret (bth bs gg) (hs.2 gg (by omega)) _ La (w.heap.size :: L) w2 (RBk.ext (rbk_of hs1 hs2) hK) (by intro x hx; have := hO.bsz; have := hO.lt w.heap.size (by simp); simp at hx; rcases hx with rfl | hx; omega; exact hO.lim x hx)) ?_
    rintro v3 w3 ⟨hv3, hk3⟩
    have hs3 := hk3.size
    have hK := hK.ext hk3
    have hO := hO.ext hk3
    obtain ⟨a3, n3, c3, a4, n4, c4, rfl, _, _, _, _⟩ := rbk_cases hv3
    have hrv := hv3
    refine ow_indexAddr tSl25 tI55 rfl rfl rfl rfl (by omega) ?_
    refine ow_storeG (i := gg) (vs := [str (bth bs gg).label, .slice a3 n3 c3, .slice a4 n4 c4]) (row := (bth bs gg).enc) tI55 rfl rfl rfl rfl (by omega) hO (by rw [List.length_map, fill_len _ _ hk]; omega) rfl rfl (RBk.repl hrv) ?_
    intro w4 hk4 hz9 hO
    have hK := hK.since hk4 (by simp)
    rw [← List.map_set, fill_set nob hg] at hO
    refine ow_nil ?_
    refine cw_region ?_
    refine ow_move rfl rfl ?_
    refine ow_add rfl rfl rfl rfl rfl (wrap_i64 _ (by omega) (by omega)) ?_
    refine ow_assign rfl rfl ?_
    refine ow_nil ?_
    exact ⟨gg + 1, ⟨rfl, rfl, rfl⟩, ⟨hK, hO, by omega⟩, by omega⟩
  · first | replace h1 := test_t h1 | replace h1 := test_f h1 | replace h1 := test_nt h1 | replace h1 := test_nf h1 | skip
    rw [fill_all nob (by omega)] at hO
    refine cw_exit ?_
    refine x_hit rfl ?_
    refine cw_seq ?_
    refine cw_region ?_
    refine ow_move rfl rfl ?_
    refine ow_assign rfl rfl ?_
    refine ow_nil ?_
    refine cw_ret ?_
    exact ⟨_, rfl, hO.bks, hK⟩
end Go.Proofs.YtnkjgoholocliaaGreatDoor

namespace Go.Proofs.YtnkjgoholocliaaGreatDoor
open Go

theorem l6tList_ret (h : Bytes) (ps : List Bytes) (hl : (listS h ps).length ≤ 1000000000) (v : Value) (L : List Nat) (w : World) (hv : RStrs L w v ps) : Ret Tryz.prog 81 [str h, v] w fun r w' => r = str (listS h ps) ∧ Keep [] w w' := by
  obtain ⟨a, n, c, rfl, hn⟩ := rstrs_cases hv
  subst hn
  have hK := Keep.refl [] w
  have hh := fun k => listTo_le (h := h) (ps := ps) k
  have h00 : (listTo h ps 0).length = h.length + 1 := by simp [listTo, joinB]
  have h01 := hh 0
  have hpl : ps.length ≤ (listS h ps).length := by simp only [listS, List.length_cons, List.length_append, joinB_len, szS]; omega
  refine ret_of [.tmp 4] 24 Tryz.func81 rfl nm81 rfl rfl ?_
  refine cw_seq ?_
  refine cw_region ?_
  refine ow_assign rfl rfl ?_
  refine ow_nil ?_
  refine cw_seq ?_
  refine cw_region ?_
  refine ow_move rfl rfl ?_
  refine ow_sadd rfl rfl rfl rfl (by simp only [List.length_cons, List.length_nil]; omega) ?_
  refine ow_assign rfl rfl ?_
  refine ow_nil ?_
  refine cw_seq ?_
  refine cw_seq ?_
  refine cw_region ?_
  refine ow_assign rfl rfl ?_
  refine ow_nil ?_
  refine cw_block ?_
  refine cw_loop (fun k : Nat => [(1, .slice a ps.length c), (5, str (listTo h ps k)), (6, .int .i64 (k : Int))]) (fun k w' => Keep [] w w' ∧ k ≤ ps.length) (fun k => ps.length - k) (0) (⟨rfl, show str _ = str _ from congrArg _ (by simp [listTo, joinB]), rfl⟩) (⟨hK, by omega⟩) ?_
  intro gg w1 e1 hI
  obtain ⟨hK, hk⟩ := hI
  refine cw_seq ?_
  refine cw_seq ?_
  refine cw_region ?_
  refine ow_move rfl rfl ?_
  refine ow_move rfl rfl ?_
  refine ow_len tSl35 rfl rfl rfl ?_
  refine ow_lss rfl rfl rfl rfl rfl ?_
  refine ow_nil ?_
  refine cw_cond rfl (fun h1 => ?_) (fun h1 => ?_)
  · first | replace h1 := test_t h1 | replace h1 := test_f h1 | replace h1 := test_nt h1 | replace h1 := test_nf h1 | skip
    have hg := sth_get (xs := ps) (i := gg) (by omega)
    obtain ⟨b1, off1, rfl, hc1⟩ := rstrs_get hv hg
    have hst := listTo_step (h := h) (ps := ps) (k := gg) (by omega)
    have hlen := congrArg List.length hst
    simp only [List.length_append, List.length_cons, List.length_nil] at hlen
    have hle := hh (gg + 1)
    refine cw_skip ?_
    refine cw_seq ?_
    refine cw_block ?_
    refine cw_region ?_
    refine ow_move rfl rfl ?_
    refine ow_sadd rfl rfl rfl rfl (by simp only [List.length_cons, List.length_nil]; omega) ?_
    refine ow_move rfl rfl ?_
    refine ow_move rfl rfl ?_
    refine ow_indexAddr tSl35 tI9 rfl rfl rfl rfl (by omega) ?_
    refine ow_load tOne9 rfl rfl rfl (hc1.ext hK 0 _ rfl) ?_
    refine ow_sadd rfl rfl rfl rfl (by simp only [List.length_append, List.length_cons, List.length_nil]; omega) ?_
    refine ow_assign rfl rfl ?_
    refine ow_nil ?_
    refine cw_region ?_
    refine ow_move rfl rfl ?_
    refine ow_add rfl rfl rfl rfl rfl (wrap_i64 _ (by omega) (by omega)) ?_
    refine ow_assign rfl rfl ?_
    refine ow_nil ?_
    exact ⟨gg + 1, ⟨rfl, show str _ = str _ from congrArg _ hst.symm, rfl⟩, ⟨hK, by omega⟩, by omega⟩
  · first | replace h1 := test_t h1 | replace h1 := test_f h1 | replace h1 := test_nt h1 | replace h1 := test_nf h1 | skip
    have hle := hh gg
    refine cw_exit ?_
    refine x_hit rfl ?_
    refine cw_seq ?_
    refine cw_region ?_
    refine ow_move rfl rfl ?_
    refine ow_sadd rfl rfl rfl rfl (by simp only [List.length_cons, List.length_nil]; omega) ?_
    refine ow_assign rfl rfl ?_
    refine ow_nil ?_
    refine cw_ret ?_
    exact ⟨_, rfl, show str _ = str _ from congrArg _ (listTo_all (by omega)), hK⟩

theorem l9Text_ret (bs : List Bk) (hs : Smalls bs) (hl : (progS bs).length ≤ 50000000) (v : Value) (La : List Nat) (w : World) (hv : RBks La w v bs) : Ret Tryz.prog 65 [v] w fun r w' => r = str (progS bs) ∧ Keep [] w w' := by
  obtain ⟨a, n, c, rfl, hn⟩ := rbks_cases hv
  subst hn
  have hK := Keep.refl [] w
  have hsl := hs.1
  have hpl : bs.length ≤ (progS bs).length := by unfold progS listS; rw [List.length_cons, List.length_append, List.length_append, joinB_len]; unfold szS; rw [List.length_map]; omega
  refine ret_of [.tmp 2] 32 Tryz.func65 rfl nm65 rfl rfl ?_
  refine cw_seq ?_
  refine cw_region ?_
  refine ow_assign rfl rfl ?_
  refine ow_nil ?_
  refine cw_seq ?_
  refine cw_region ?_
  refine ow_buildSlice0 w.heap.size [] tSl35 tI9 rfl rfl (Nat.le_refl _) (by simp) ?_
  intro w1 hk1 hz1 hO
  have hK := hK.ext hk1
  refine ow_assign rfl rfl ?_
  refine ow_nil ?_
  refine cw_seq ?_
  refine cw_seq ?_
  refine cw_region ?_
  refine ow_assign rfl rfl ?_
  refine ow_nil ?_
  refine cw_block ?_
  refine cw_loop (fun q : Nat × Option Addr × Nat × Option Nat => [(0, .slice a bs.length c), (3, .slice q.2.1 ((bs.take q.1).map bkS).length q.2.2.1), (4, .int .i64 (q.1 : Int))]) (fun q w' => Keep [] w w' ∧ Gr w.heap.size [] w' 9 1 (.slice q.2.1 ((bs.take q.1).map bkS).length q.2.2.1) q.2.2.2 (strsC ((bs.take q.1).map bkS)) ∧ q.1 ≤ bs.length) (fun q => bs.length - q.1) ((0, _, _, _)) (⟨rfl, rfl, rfl⟩) (⟨hK, hO, by simp⟩) ?_
  intro gg w2 e2 hI
  obtain ⟨i, a3, cc, g⟩ := gg
  dsimp only at hI ⊢
  obtain ⟨hK, hO, hk⟩ := hI
  have hsz := hK.size
  refine cw_seq ?_
  refine cw_seq ?_
  refine cw_region ?_
  refine ow_move rfl rfl ?_
  refine ow_move rfl rfl ?_
  refine ow_len tSl25 rfl rfl rfl ?_
  refine ow_lss rfl rfl rfl rfl rfl ?_
  refine ow_nil ?_
  refine cw_cond rfl (fun h1 => ?_) (fun h1 => ?_)
  · first | replace h1 := test_t h1 | replace h1 := test_f h1 | replace h1 := test_nt h1 | replace h1 := test_nf h1 | skip
    have hgt := bth_get (bs := bs) (i := i) (by omega)
    obtain ⟨b1, off1, r1, rn1, rc1, r2, rn2, rc2, rfl, hc1, _, _, hq1, hq2⟩ := rbks_get hv hgt
    have hle := bkS_le (bth_mem (bs := bs) (i := i) (by omega))
    have hl1 := bkS_regs (bth bs i)
    have hl2 := bkS_code (bth bs i)
    refine cw_skip ?_
    refine cw_seq ?_
    refine cw_block ?_
    refine cw_seq ?_
    refine cw_region ?_
    refine ow_move rfl rfl ?_
    refine ow_move rfl rfl ?_
    refine ow_indexAddr tSl25 tI55 rfl rfl rfl rfl (by omega) ?_
    refine ow_loads tAgg55 tI55 rfl rfl rfl (hc1.ext hK) (rfl) ?_
    refine ow_allocA tI55 rfl rfl rfl ?_
    intro w3 hk3 hb5 hz3
    have hK := hK.grow
    have hK := hK.ext hk3
    have hO := hO.alloc hk3 hz3
    refine ow_storeA tI55 rfl rfl rfl rfl rfl hb5 rfl ?_
    intro w4 hk4 hb5 hz4
    have hK := hK.sto hk4 (by simp <;> omega)
    have hO := hO.sto hk4 (by simp <;> omega)
    refine ow_nil ?_
    refine cw_draw tMixed kept_new 12 [17, 18, 19, 20, 21, 22, 23, 24, 25, 26, 27, 28] [17, 18, 19, 20, 21, 22, 23, 24, 25, 26, 27, 28] [[], [], [1], [], [3], [4], [], [6], [7], [2, 5, 8], [9], [10]] [fun v _ => v = (.slice a3 ((bs.take i).map bkS).length cc), fun v _ => v = (.pointer (some ⟨w2.heap.size, 0 + 0, none⟩)), fun v _ => v = (str (bth bs i).label), fun v _ => v = (.pointer (some ⟨w2.heap.size, 0 + 1, none⟩)), fun v _ => v = (.slice r1 rn1 rc1), fun v _ => v = (str (listS [114, 101, 103, 115] (bth bs i).needs)), fun v _ => v = (.pointer (some ⟨w2.heap.size, 0 + 2, none⟩)), fun v _ => v = (.slice r2 rn2 rc2), fun v _ => v = (str (listS [99, 111, 100, 101] (bth bs i).code)), fun (v : Value) (ww : World) => RStrs [] ww v [(bth bs i).label, listS [114, 101, 103, 115] (bth bs i).needs, listS [99, 111, 100, 101] (bth bs i).code], fun v _ => v = (str (bkS (bth bs i))), fun (v : Value) (ww : World) => ∃ b, v = .slice (some ⟨b, 0, none⟩) 1 1 ∧ Blk ww b [str (bkS (bth bs i))].toArray 9] (by decide) (stab_eq (stab_eq (stab_eq (stab_eq (stab_eq (stab_eq (stab_eq (stab_eq (stab_eq (stab_gen (fun v w w' h k => RStrs.ext h k) (stab_eq (stab_gen (fun v w w' ⟨b, e, h⟩ k => ⟨b, e, h.ext k⟩) trivial)))))))))))) (fun wd hkd => ?_) ?_
    ·
      refine certs_cons ?_ ?_
      ·
        intro x vs w5 e hk5 hd he
        replace hk5 := kept_new.trans hkd hk5
        have hK := hK.ext hk5
        have hO := hO.ext hk5
        have hb5 := hb5.ext hk5
        replace he : e = over (havoc _ x _) [] := he
        subst he
        refine ow_move rfl rfl ?_
        refine ow_nil ?_
        exact ⟨kept_new.refl _, rfl, by first | exact agree_put | exact agree_refl⟩
      refine certs_cons ?_ ?_
      ·
        intro x vs w5 e hk5 hd he
        replace hk5 := kept_new.trans hkd hk5
        have hK := hK.ext hk5
        have hO := hO.ext hk5
        have hb5 := hb5.ext hk5
        replace he : e = over (havoc _ x _) [] := he
        subst he
        refine ow_fieldAddr tF55_0 rfl rfl rfl ?_
        refine ow_nil ?_
        exact ⟨kept_new.refl _, rfl, by first | exact agree_put | exact agree_refl⟩
      refine certs_cons ?_ ?_
      ·
        intro x vs w5 e hk5 hd he
        have d1 : vs 1 = (.pointer (some ⟨w2.heap.size, 0 + 0, none⟩)) := hd
        replace hk5 := kept_new.trans hkd hk5
        have hK := hK.ext hk5
        have hO := hO.ext hk5
        have hb5 := hb5.ext hk5
        replace he : e = over (havoc _ x _) [(18, vs 1)] := he
        rw [d1] at he
        subst he
        refine ow_load tOne9 rfl rfl rfl (hb5.at rfl) ?_
        refine ow_nil ?_
        exact ⟨kept_new.refl _, rfl, by first | exact agree_put | exact agree_refl⟩
      refine certs_cons ?_ ?_
      ·
        intro x vs w5 e hk5 hd he
        replace hk5 := kept_new.trans hkd hk5
        have hK := hK.ext hk5
        have hO := hO.ext hk5
        have hb5 := hb5.ext hk5
        replace he : e = over (havoc _ x _) [] := he
        subst he
        refine ow_fieldAddr tF55_1 rfl rfl rfl ?_
        refine ow_nil ?_
        exact ⟨kept_new.refl _, rfl, by first | exact agree_put | exact agree_refl⟩
      refine certs_cons ?_ ?_
      ·
        intro x vs w5 e hk5 hd he
        have d3 : vs 3 = (.pointer (some ⟨w2.heap.size, 0 + 1, none⟩)) := hd
        replace hk5 := kept_new.trans hkd hk5
        have hK := hK.ext hk5
        have hO := hO.ext hk5
        have hb5 := hb5.ext hk5
        replace he : e = over (havoc _ x _) [(20, vs 3)] := he
        rw [d3] at he
        subst he
        refine ow_load tOne35 rfl rfl rfl (hb5.at rfl) ?_
        refine ow_nil ?_
        exact ⟨kept_new.refl _, rfl, by first | exact agree_put | exact agree_refl⟩
      refine certs_cons ?_ ?_
      ·
        intro x vs w5 e hk5 hd he
        have d4 : vs 4 = (.slice r1 rn1 rc1) := hd
        replace hk5 := kept_new.trans hkd hk5
        have hK := hK.ext hk5
        have hO := hO.ext hk5
        have hb5 := hb5.ext hk5
        replace he : e = over (havoc _ x _) [(21, vs 4)] := he
        rw [d4] at he
        subst he
        refine ow_call rfl rfl (l6tList_ret [114, 101, 103, 115] (bth bs i).needs (by omega) _ La w5 (hq1.ext hK)) ?_
        rintro v6 w6 ⟨hv6, hk6⟩
        have hs6 := hk6.size
        have hK := hK.ext hk6
        have hO := hO.ext hk6
        have hb5 := hb5.ext hk6
        obtain rfl := hv6
        refine ow_nil ?_
        exact ⟨kept_new.of hk6, rfl, by first | exact agree_put | exact agree_refl⟩
      refine certs_cons ?_ ?_
      ·
        intro x vs w5 e hk5 hd he
        replace hk5 := kept_new.trans hkd hk5
        have hK := hK.ext hk5
        have hO := hO.ext hk5
        have hb5 := hb5.ext hk5
        replace he : e = over (havoc _ x _) [] := he
        subst he
        refine ow_fieldAddr tF55_2 rfl rfl rfl ?_
        refine ow_nil ?_
        exact ⟨kept_new.refl _, rfl, by first | exact agree_put | exact agree_refl⟩
      refine certs_cons ?_ ?_
      ·
        intro x vs w5 e hk5 hd he
        have d6 : vs 6 = (.pointer (some ⟨w2.heap.size, 0 + 2, none⟩)) := hd
        replace hk5 := kept_new.trans hkd hk5
        have hK := hK.ext hk5
        have hO := hO.ext hk5
        have hb5 := hb5.ext hk5
        replace he : e = over (havoc _ x _) [(23, vs 6)] := he
        rw [d6] at he
        subst he
        refine ow_load tOne35 rfl rfl rfl (hb5.at rfl) ?_
        refine ow_nil ?_
        exact ⟨kept_new.refl _, rfl, by first | exact agree_put | exact agree_refl⟩
      refine certs_cons ?_ ?_
      ·
        intro x vs w5 e hk5 hd he
        have d7 : vs 7 = (.slice r2 rn2 rc2) := hd
        replace hk5 := kept_new.trans hkd hk5
        have hK := hK.ext hk5
        have hO := hO.ext hk5
        have hb5 := hb5.ext hk5
        replace he : e = over (havoc _ x _) [(24, vs 7)] := he
        rw [d7] at he
        subst he
        refine ow_call rfl rfl (l6tList_ret [99, 111, 100, 101] (bth bs i).code (by omega) _ La w5 (hq2.ext hK)) ?_
        rintro v6 w6 ⟨hv6, hk6⟩
        have hs6 := hk6.size
        have hK := hK.ext hk6
        have hO := hO.ext hk6
        have hb5 := hb5.ext hk6
        obtain rfl := hv6
        refine ow_nil ?_
        exact ⟨kept_new.of hk6, rfl, by first | exact agree_put | exact agree_refl⟩
      refine certs_cons ?_ ?_
      ·
        intro x vs w5 e hk5 hd he
        obtain ⟨d2, d5, d8⟩ : (vs 2 = (str (bth bs i).label)) ∧ (vs 5 = (str (listS [114, 101, 103, 115] (bth bs i).needs))) ∧ (vs 8 = (str (listS [99, 111, 100, 101] (bth bs i).code))) := hd
        replace hk5 := kept_new.trans hkd hk5
        have hK := hK.ext hk5
        have hO := hO.ext hk5
        have hb5 := hb5.ext hk5
        replace he : e = over (havoc _ x _) [(19, vs 2), (22, vs 5), (25, vs 8)] := he
        rw [d2, d5, d8] at he
        subst he
        refine ow_buildSliceN [.tmp 19, .tmp 22, .tmp 25] [[str (bth bs i).label], [str (listS [114, 101, 103, 115] (bth bs i).needs)], [str (listS [99, 111, 100, 101] (bth bs i).code)]] tSl35 tI9 rfl rfl rfl rfl rfl rfl rfl rfl rfl ?_
        intro w6 hk6 hb9 hz9
        refine ow_nil ?_
        exact ⟨kept_new.of hk6, (rstrs_blk (xs := [(bth bs i).label, listS [114, 101, 103, 115] (bth bs i).needs, listS [99, 111, 100, 101] (bth bs i).code]) hb9 (by simp) (by simp)), by first | exact agree_put | exact agree_refl⟩
      refine certs_cons ?_ ?_
      ·
        intro x vs w5 e hk5 hd he
        have d9 : (fun (v : Value) (ww : World) => RStrs [] ww v [(bth bs i).label, listS [114, 101, 103, 115] (bth bs i).needs, listS [99, 111, 100, 101] (bth bs i).code]) (vs 9) w5 := hd
        replace hk5 := kept_new.trans hkd hk5
        have hK := hK.ext hk5
        have hO := hO.ext hk5
        have hb5 := hb5.ext hk5
        replace he : e = over (havoc _ x _) [(26, vs 9)] := he
        subst he
        refine ow_call rfl rfl (l6tList_ret [98, 108, 111, 99, 107] [(bth bs i).label, listS [114, 101, 103, 115] (bth bs i).needs, listS [99, 111, 100, 101] (bth bs i).code] (show (bkS (bth bs i)).length ≤ _ by omega) _ [] w5 d9) ?_
        rintro v6 w6 ⟨hv6, hk6⟩
        have hs6 := hk6.size
        have hK := hK.ext hk6
        have hO := hO.ext hk6
        have hb5 := hb5.ext hk6
        obtain rfl := hv6
        refine ow_nil ?_
        exact ⟨kept_new.of hk6, rfl, by first | exact agree_put | exact agree_refl⟩
      refine certs_cons ?_ ?_
      ·
        intro x vs w5 e hk5 hd he
        have d10 : vs 10 = (str (bkS (bth bs i))) := hd
        replace hk5 := kept_new.trans hkd hk5
        have hK := hK.ext hk5
        have hO := hO.ext hk5
        have hb5 := hb5.ext hk5
        replace he : e = over (havoc _ x _) [(27, vs 10)] := he
        rw [d10] at he
        subst he
        refine ow_buildSlice1 tSl35 tI9 rfl rfl rfl rfl rfl rfl rfl rfl ?_
        intro w6 hk6 hb28 hz6
        have hK := hK.ext hk6
        have hO := hO.ext hk6
        have hb5 := hb5.ext hk6
        refine ow_nil ?_
        exact ⟨kept_new.of hk6, ⟨_, rfl, hb28⟩, by first | exact agree_put | exact agree_refl⟩
      exact trivial
    · intro x vs w44 hk44 hdraw
      have d0 : vs 0 = (.slice a3 ((bs.take i).map bkS).length cc) := hdraw 0 (by decide)
      have d1 : vs 1 = (.pointer (some ⟨w2.heap.size, 0 + 0, none⟩)) := hdraw 1 (by decide)
      have d2 : vs 2 = (str (bth bs i).label) := hdraw 2 (by decide)
      have d3 : vs 3 = (.pointer (some ⟨w2.heap.size, 0 + 1, none⟩)) := hdraw 3 (by decide)
      have d4 : vs 4 = (.slice r1 rn1 rc1) := hdraw 4 (by decide)
      have d5 : vs 5 = (str (listS [114, 101, 103, 115] (bth bs i).needs)) := hdraw 5 (by decide)
      have d6 : vs 6 = (.pointer (some ⟨w2.heap.size, 0 + 2, none⟩)) := hdraw 6 (by decide)
      have d7 : vs 7 = (.slice r2 rn2 rc2) := hdraw 7 (by decide)
      have d8 : vs 8 = (str (listS [99, 111, 100, 101] (bth bs i).code)) := hdraw 8 (by decide)
      have d9 : (fun (v : Value) (ww : World) => RStrs [] ww v [(bth bs i).label, listS [114, 101, 103, 115] (bth bs i).needs, listS [99, 111, 100, 101] (bth bs i).code]) (vs 9) w44 := hdraw 9 (by decide)
      have d10 : vs 10 = (str (bkS (bth bs i))) := hdraw 10 (by decide)
      have d11 : (fun (v : Value) (ww : World) => ∃ b, v = .slice (some ⟨b, 0, none⟩) 1 1 ∧ Blk ww b [str (bkS (bth bs i))].toArray 9) (vs 11) w44 := hdraw 11 (by decide)
      have hK := hK.ext hk44
      have hO := hO.ext hk44
      have hb5 := hb5.ext hk44
      change OW _ _ _ _ _ (over (havoc _ x _) [(17, vs 0), (18, vs 1), (19, vs 2), (20, vs 3), (21, vs 4), (22, vs 5), (23, vs 6), (24, vs 7), (25, vs 8), (26, vs 9), (27, vs 10), (28, vs 11)]) _
      rw [d0, d1, d2, d3, d4, d5, d6, d7, d8, d10]
      obtain ⟨nb, e7, hbn⟩ := d11
      rw [e7]
      refine ow_growS tSl35 tI9 rfl rfl rfl rfl rfl rfl hO hbn (by rw [map_take_len _ hk]; omega) ?_
      intro a4 cc4 g4 w45 hO3 hk45
      have hK := hO.since hK hk45
      rw [map_take_snoc bkS hgt] at hO3 ⊢
      refine ow_assign rfl rfl ?_
      refine ow_nil ?_
      refine cw_region ?_
      refine ow_move rfl rfl ?_
      refine ow_add rfl rfl rfl rfl rfl (wrap_i64 _ (by omega) (by omega)) ?_
      refine ow_assign rfl rfl ?_
      refine ow_nil ?_
      exact ⟨(i + 1, a4, cc4, g4), ⟨rfl, rfl, rfl⟩, ⟨hK, hO3.weak (by simp), by dsimp only; omega⟩, by dsimp only; omega⟩
  · first | replace h1 := test_t h1 | replace h1 := test_f h1 | replace h1 := test_nt h1 | replace h1 := test_nf h1 | skip
    rw [map_take_all bkS (by omega)] at hO ⊢
    refine cw_exit ?_
    refine x_hit rfl ?_
    refine cw_seq ?_
    refine cw_region ?_
    refine ow_move rfl rfl ?_
    refine ow_call rfl rfl (l6tList_ret [112, 114, 111, 103, 114, 97, 109] (bs.map bkS) (Nat.le_trans hl (by decide)) _ [] w2 hO.done) ?_
    rintro v3 w3 ⟨hv3, hk3⟩
    have hs3 := hk3.size
    have hK := hK.ext hk3
    have hO := hO.ext hk3
    obtain rfl := hv3
    refine ow_assign rfl rfl ?_
    refine ow_nil ?_
    refine cw_ret ?_
    exact ⟨_, rfl, rfl, hK⟩

theorem FormValid_ret (s : Bytes) (w : World) : Ret Tryz.prog 64 [str s] w fun r w' => r = .bool (parse s).isSome ∧ Keep [] w w' := by
  have hK := Keep.refl [] w
  refine ret_of [.tmp 2] 11 Tryz.func64 rfl nm64 rfl rfl ?_
  refine cw_seq ?_
  refine cw_region ?_
  refine ow_assign rfl rfl ?_
  refine ow_nil ?_
  refine cw_seq ?_
  refine cw_region ?_
  refine ow_move rfl rfl ?_
  refine ow_call rfl rfl (l1Parse_ret s [] w (by simp)) ?_
  rintro v1 w1 ⟨hv1, hk1⟩
  have hs1 := hk1.size
  have hK := hK.ext hk1
  obtain ⟨t, tv, rfl, ht, hp⟩ := hv1
  obtain ⟨pa, pn, pc, rfl, hpn, hps⟩ := rtree_cases ht
  subst hpn
  refine ow_move rfl rfl ?_
  refine ow_extract (i := 0) rfl rfl rfl rfl ?_
  refine ow_extract (i := 1) rfl rfl rfl rfl ?_
  refine ow_allocA tI67 rfl rfl rfl ?_
  intro w2 hk2 hb3 hz2
  have hK := hK.grow
  have hK := hK.ext hk2
  refine ow_storeA tI67 rfl rfl rfl rfl rfl hb3 rfl ?_
  intro w3 hk3 hb3 hz3
  have hK := hK.sto hk3 (by simp <;> omega)
  refine ow_assign rfl rfl ?_
  refine ow_nil ?_
  refine cw_seq ?_
  refine cw_region ?_
  refine ow_move rfl rfl ?_
  refine ow_assign rfl rfl ?_
  refine ow_nil ?_
  refine cw_ret ?_
  exact ⟨_, rfl, rfl, hK⟩

theorem textP_no {bs : List Bk} (h : (!progB bs || !(parse (progS bs)).isSome) = true) : textP bs = none := by
  unfold textP
  rw [if_neg (by intro hh; rw [Bool.and_eq_true] at hh; rw [hh.1, hh.2] at h; cases h)]
theorem textP_yes {bs : List Bk} (h : (!progB bs || !(parse (progS bs)).isSome) = false) : textP bs = some (progS bs) := by
  unfold textP
  rw [Bool.or_eq_false_iff] at h
  rw [if_pos (by rw [Bool.and_eq_true]; exact ⟨by simpa using h.1, by simpa using h.2⟩)]
theorem SText_ret (bs : List Bk) (hs : Smalls bs) (hl : (progS bs).length ≤ 50000000) (v : Value) (La : List Nat) (w : World) (hv : RBks La w v bs) :
    Ret Tryz.prog 24 [v] w fun r w' => r = .tuple #[str ((textP bs).getD []), .bool (textP bs).isSome] ∧ Keep [] w w' := by
  have hK := Keep.refl [] w
  refine ret_of [.tmp 2, .tmp 3] 15 Tryz.func24 rfl nm24 rfl rfl ?_
  refine cw_seq ?_
  refine cw_region ?_
  refine ow_assign rfl rfl ?_
  refine ow_assign rfl rfl ?_
  refine ow_nil ?_
  refine cw_seq ?_
  refine cw_seq ?_
  refine cw_region ?_
  refine ow_move rfl rfl ?_
  refine ow_call rfl rfl (ProgramValid_ret bs hs _ La w hv) ?_
  rintro v1 w1 ⟨hv1, hk1⟩
  have hs1 := hk1.size
  have hK := hK.ext hk1
  obtain rfl := hv1
  refine ow_not rfl rfl rfl ?_
  refine ow_move rfl rfl ?_
  apply ow_or 5 7 12 [7, 8, 9, 10, 11, 12] (Keep [] w1) rfl
  · intro h1
    first | replace h1 := test_t h1 | replace h1 := test_f h1 | replace h1 := test_nt h1 | replace h1 := test_nf h1 | skip
    have hJ7 := Keep.refl [] w1
    refine ow_skip rfl rfl ?_
    refine ow_skip rfl rfl ?_
    refine ow_skip rfl rfl ?_
    refine ow_skip rfl rfl ?_
    refine ow_pick rfl rfl rfl ?_
    refine ow_nil ?_
    exact ⟨by repeat (first | with_reducible exact agree_refl | refine agree_upd rfl ?_ | refine agree_hav rfl ?_), rfl, hJ7⟩
  · intro h1
    first | replace h1 := test_t h1 | replace h1 := test_f h1 | replace h1 := test_nt h1 | replace h1 := test_nf h1 | skip
    have hJ7 := Keep.refl [] w1
    refine ow_move rfl rfl ?_
    refine ow_call rfl rfl (l9Text_ret bs hs hl _ La w1 (hv.ext hK)) ?_
    rintro v2 w2 ⟨hv2, hk2⟩
    have hs2 := hk2.size
    have hK := hK.ext hk2
    have hJ7 := hJ7.ext hk2
    obtain rfl := hv2
    refine ow_call rfl rfl (FormValid_ret (progS bs) w2) ?_
    rintro v3 w3 ⟨hv3, hk3⟩
    have hs3 := hk3.size
    have hK := hK.ext hk3
    have hJ7 := hJ7.ext hk3
    obtain rfl := hv3
    refine ow_not rfl rfl rfl ?_
    refine ow_pick rfl rfl rfl ?_
    refine ow_nil ?_
    exact ⟨by repeat (first | with_reducible exact agree_refl | refine agree_upd rfl ?_ | refine agree_hav rfl ?_), rfl, hJ7⟩
  · intro xx w4 hk4
    have hK := hK.ext hk4
    refine ow_nil ?_
    refine cw_cond rfl (fun h2 => ?_) (fun h2 => ?_)
    · first | replace h2 := test_t h2 | replace h2 := test_f h2 | replace h2 := test_nt h2 | replace h2 := test_nf h2 | skip
      have hq := textP_no h2
      refine cw_seq ?_
      refine cw_region ?_
      refine ow_assign rfl rfl ?_
      refine ow_assign rfl rfl ?_
      refine ow_nil ?_
      refine cw_ret ?_
      exact ⟨_, rfl, by rw [hq]; rfl, hK⟩
    · first | replace h2 := test_t h2 | replace h2 := test_f h2 | replace h2 := test_nt h2 | replace h2 := test_nf h2 | skip
      have hq := textP_yes h2
      refine cw_skip ?_
      refine cw_seq ?_
      refine cw_region ?_
      refine ow_move rfl rfl ?_
      refine ow_call rfl rfl (l9Text_ret bs hs hl _ La w4 (hv.ext hK)) ?_
      rintro v5 w5 ⟨hv5, hk5⟩
      have hs5 := hk5.size
      have hK := hK.ext hk5
      obtain rfl := hv5
      refine ow_assign rfl rfl ?_
      refine ow_assign rfl rfl ?_
      refine ow_nil ?_
      refine cw_ret ?_
      exact ⟨_, rfl, by rw [hq]; rfl, hK⟩
end Go.Proofs.YtnkjgoholocliaaGreatDoor

namespace Go.Proofs.YtnkjgoholocliaaGreatDoor
open Go

theorem depth_ret : ∀ (m : Nat) (t : Tree), t.size ≤ m → t.size ≤ 1000000000 → ∀ (v : Value) (L : List Nat) (w : World), RTree L w v t →
    Ret Tryz.prog 106 [v] w fun r w' => r = .int .i64 (t.depth : Int) ∧ Keep [] w w' := by
  intro m
  induction m with
  | zero => intro t h; have := atom_lt t; omega
  | succ m ih =>
    intro t hm hts v L w hv
    have hv0 := hv
    obtain ⟨a, n, c, rfl, hn, hps⟩ := rtree_cases hv
    subst hn
    have hpl := parts_le t
    have hK := Keep.refl [] w
    have hmx := fun k => maxD_lt (t := t) (k := k)
    refine ret_of [.tmp 2] 22 Tryz.func106 rfl nm106 rfl rfl ?_
    refine cw_seq ?_
    refine cw_region ?_
    refine ow_boxA rfl rfl rfl ?_
    intro w1 hk1 hb1 hz1
    have hK := hK.ext hk1
    refine ow_assign rfl rfl ?_
    refine ow_nil ?_
    refine cw_seq ?_
    refine cw_seq ?_
    refine cw_region ?_
    refine ow_loads tAgg73 tI73 rfl rfl rfl hb1.all rfl ?_
    refine ow_call rfl rfl (isAtom_ret t _ L w1 (hv0.ext hK)) ?_
    rintro v2 w2 ⟨hv2, hk2⟩
    have hs2 := hk2.size
    have hK := hK.ext hk2
    have hb1 := hb1.ext hk2
    obtain rfl := hv2
    refine ow_nil ?_
    refine cw_cond rfl (fun h1 => ?_) (fun h1 => ?_)
    · first | replace h1 := test_t h1 | replace h1 := test_f h1 | replace h1 := test_nt h1 | replace h1 := test_nf h1 | skip
      have hd := depth_leaf h1
      refine cw_seq ?_
      refine cw_region ?_
      refine ow_assign rfl rfl ?_
      refine ow_nil ?_
      refine cw_ret ?_
      exact ⟨_, rfl, by rw [hd]; rfl, hK⟩
    · first | replace h1 := test_t h1 | replace h1 := test_f h1 | replace h1 := test_nt h1 | replace h1 := test_nf h1 | skip
      have hd := depth_max h1
      refine cw_skip ?_
      refine cw_seq ?_
      refine cw_region ?_
      refine ow_assign rfl rfl ?_
      refine ow_nil ?_
      refine cw_seq ?_
      refine cw_seq ?_
      refine cw_region ?_
      refine ow_fieldAddr tF73_1 rfl rfl rfl ?_
      refine ow_load tOne61 rfl rfl rfl (hb1.at rfl) ?_
      refine ow_len tSl61 rfl rfl rfl ?_
      refine ow_move rfl rfl ?_
      refine ow_nil ?_
      refine cw_block ?_
      refine cw_loop (fun k : Nat => [(3, .int .i64 (maxD (t.parts.take k) : Int)), (9, .slice a t.parts.length c), (10, .int .i64 (t.parts.length : Int)), (11, .int .i64 (k : Int))]) (fun k w' => Keep [] w w' ∧ k ≤ t.parts.length) (fun k => t.parts.length - k) (0) (⟨rfl, rfl, rfl, rfl⟩) (⟨hK, by omega⟩) ?_
      intro gg w3 e3 hI
      obtain ⟨hK, hk⟩ := hI
      have hsz := hK.size
      have hm1 := hmx gg
      refine cw_seq ?_
      refine cw_region ?_
      refine ow_lss rfl rfl rfl rfl rfl ?_
      refine ow_nil ?_
      refine cw_seq ?_
      refine cw_cond rfl (fun h2 => ?_) (fun h2 => ?_)
      · first | replace h2 := test_t h2 | replace h2 := test_f h2 | replace h2 := test_nt h2 | replace h2 := test_nf h2 | skip
        have hgt := nth_get (ps := t.parts) (i := gg) (by omega)
        obtain ⟨b1, off1, pa, pn, pc, rfl, hcc, hpn, hpp⟩ := rtrees_get hps hgt
        subst hpn
        have hsp := nth_size (t := t) (i := gg) (by omega)
        have hst := maxD_step (ps := t.parts) (k := gg) (by omega)
        refine cw_skip ?_
        refine cw_seq ?_
        refine cw_block ?_
        refine cw_seq ?_
        refine cw_region ?_
        refine ow_indexAddr tSl61 tI73 rfl rfl rfl rfl (by omega) ?_
        refine ow_loads tAgg73 tI73 rfl rfl rfl (hcc.ext hK) (rfl) ?_
        refine ow_allocA tI73 rfl rfl rfl ?_
        intro w4 hk4 hb5 hz4
        have hK := hK.grow
        have hK := hK.ext hk4
        refine ow_storeA tI73 rfl rfl rfl rfl rfl hb5 rfl ?_
        intro w5 hk5 hb5 hz5
        have hK := hK.sto hk5 (by simp <;> omega)
        refine ow_nil ?_
        refine cw_region ?_
        refine ow_move rfl rfl ?_
        refine ow_loads tAgg73 tI73 rfl rfl rfl hb5.all rfl ?_
        refine ow_call rfl rfl (ih (nth t.parts gg) (by omega) (by omega) _ L w5 ((rtree_of hpp).ext hK)) ?_
        rintro v6 w6 ⟨hv6, hk6⟩
        have hs6 := hk6.size
        have hK := hK.ext hk6
        have hb5 := hb5.ext hk6
        obtain rfl := hv6
        refine ow_max rfl rfl rfl rfl (show (if ((maxD (t.parts.take gg) : Nat) : Int) < ((nth t.parts gg).depth : Int) then ((nth t.parts gg).depth : Int) else ((maxD (t.parts.take gg) : Nat) : Int)) = ((maxD (t.parts.take (gg + 1)) : Nat) : Int) from by rw [hst]; split <;> omega) ?_
        refine ow_assign rfl rfl ?_
        refine ow_nil ?_
        refine cw_region ?_
        refine ow_add rfl rfl rfl rfl rfl (wrap_i64 _ (by omega) (by omega)) ?_
        refine ow_move rfl rfl ?_
        refine ow_nil ?_
        exact ⟨gg + 1, ⟨rfl, rfl, rfl, rfl⟩, ⟨hK, by omega⟩, by omega⟩
      · first | replace h2 := test_t h2 | replace h2 := test_f h2 | replace h2 := test_nt h2 | replace h2 := test_nf h2 | skip
        have hgl : gg = t.parts.length := by omega
        subst hgl
        refine cw_exit ?_
        refine x_hit rfl ?_
        refine cw_seq ?_
        refine cw_region ?_
        refine ow_move rfl rfl ?_
        refine ow_add rfl rfl rfl rfl rfl (wrap_i64 _ (by omega) (by omega)) ?_
        refine ow_assign rfl rfl ?_
        refine ow_nil ?_
        refine cw_ret ?_
        exact ⟨_, rfl, by rw [hd]; rfl, hK⟩

theorem length_ret : ∀ (m : Nat) (t : Tree), t.size ≤ m → t.size ≤ 1000000000 → t.len ≤ 1000000000 → ∀ (v : Value) (L : List Nat) (w : World), RTree L w v t →
    Ret Tryz.prog 107 [v] w fun r w' => r = .int .i64 (t.len : Int) ∧ Keep [] w w' := by
  intro m
  induction m with
  | zero => intro t h; have := atom_lt t; omega
  | succ m ih =>
    intro t hm hts htl v L w hv
    have hv0 := hv
    obtain ⟨a, n, c, rfl, hn, hps⟩ := rtree_cases hv
    subst hn
    have hpl := parts_le t
    have hK := Keep.refl [] w
    refine ret_of [.tmp 2] 25 Tryz.func107 rfl nm107 rfl rfl ?_
    refine cw_seq ?_
    refine cw_region ?_
    refine ow_boxA rfl rfl rfl ?_
    intro w1 hk1 hb1 hz1
    have hK := hK.ext hk1
    refine ow_assign rfl rfl ?_
    refine ow_nil ?_
    refine cw_seq ?_
    refine cw_seq ?_
    refine cw_region ?_
    refine ow_loads tAgg73 tI73 rfl rfl rfl hb1.all rfl ?_
    refine ow_call rfl rfl (isAtom_ret t _ L w1 (hv0.ext hK)) ?_
    rintro v2 w2 ⟨hv2, hk2⟩
    have hs2 := hk2.size
    have hK := hK.ext hk2
    have hb1 := hb1.ext hk2
    obtain rfl := hv2
    refine ow_nil ?_
    refine cw_cond rfl (fun h1 => ?_) (fun h1 => ?_)
    · first | replace h1 := test_t h1 | replace h1 := test_f h1 | replace h1 := test_nt h1 | replace h1 := test_nf h1 | skip
      have hd := len_leaf h1
      refine cw_seq ?_
      refine cw_region ?_
      refine ow_fieldAddr tF73_0 rfl rfl rfl ?_
      refine ow_load tOne9 rfl rfl rfl (hb1.at rfl) ?_
      refine ow_lenS tStr9 rfl rfl rfl ?_
      refine ow_assign rfl rfl ?_
      refine ow_nil ?_
      refine cw_ret ?_
      exact ⟨_, rfl, by rw [hd]; rfl, hK⟩
    · first | replace h1 := test_t h1 | replace h1 := test_f h1 | replace h1 := test_nt h1 | replace h1 := test_nf h1 | skip
      have hd := len_node h1
      have hle := fun k => lens_le (k := k) h1
      refine cw_skip ?_
      refine cw_seq ?_
      refine cw_region ?_
      refine ow_assign rfl rfl ?_
      refine ow_nil ?_
      refine cw_seq ?_
      refine cw_seq ?_
      refine cw_region ?_
      refine ow_fieldAddr tF73_1 rfl rfl rfl ?_
      refine ow_load tOne61 rfl rfl rfl (hb1.at rfl) ?_
      refine ow_len tSl61 rfl rfl rfl ?_
      refine ow_move rfl rfl ?_
      refine ow_nil ?_
      refine cw_block ?_
      refine cw_loop (fun k : Nat => [(3, .int .i64 ((1 + Tree.len.lens (t.parts.take k) : Nat) : Int)), (12, .slice a t.parts.length c), (13, .int .i64 (t.parts.length : Int)), (14, .int .i64 (k : Int))]) (fun k w' => Keep [] w w' ∧ k ≤ t.parts.length) (fun k => t.parts.length - k) (0) (⟨rfl, rfl, rfl, rfl⟩) (⟨hK, by omega⟩) ?_
      intro gg w3 e3 hI
      obtain ⟨hK, hk⟩ := hI
      have hsz := hK.size
      refine cw_seq ?_
      refine cw_region ?_
      refine ow_lss rfl rfl rfl rfl rfl ?_
      refine ow_nil ?_
      refine cw_seq ?_
      refine cw_cond rfl (fun h2 => ?_) (fun h2 => ?_)
      · first | replace h2 := test_t h2 | replace h2 := test_f h2 | replace h2 := test_nt h2 | replace h2 := test_nf h2 | skip
        have hgt := nth_get (ps := t.parts) (i := gg) (by omega)
        obtain ⟨b1, off1, pa, pn, pc, rfl, hcc, hpn, hpp⟩ := rtrees_get hps hgt
        subst hpn
        have hsp := nth_size (t := t) (i := gg) (by omega)
        have hst := lens_step (ps := t.parts) (k := gg) (by omega)
        have hl1 := hle (gg + 1)
        refine cw_skip ?_
        refine cw_seq ?_
        refine cw_block ?_
        refine cw_seq ?_
        refine cw_region ?_
        refine ow_indexAddr tSl61 tI73 rfl rfl rfl rfl (by omega) ?_
        refine ow_loads tAgg73 tI73 rfl rfl rfl (hcc.ext hK) (rfl) ?_
        refine ow_allocA tI73 rfl rfl rfl ?_
        intro w4 hk4 hb5 hz4
        have hK := hK.grow
        have hK := hK.ext hk4
        refine ow_storeA tI73 rfl rfl rfl rfl rfl hb5 rfl ?_
        intro w5 hk5 hb5 hz5
        have hK := hK.sto hk5 (by simp <;> omega)
        refine ow_nil ?_
        refine cw_region ?_
        refine ow_move rfl rfl ?_
        refine ow_loads tAgg73 tI73 rfl rfl rfl hb5.all rfl ?_
        refine ow_call rfl rfl (ih (nth t.parts gg) (by omega) (by omega) (by omega) _ L w5 ((rtree_of hpp).ext hK)) ?_
        rintro v6 w6 ⟨hv6, hk6⟩
        have hs6 := hk6.size
        have hK := hK.ext hk6
        have hb5 := hb5.ext hk6
        obtain rfl := hv6
        refine ow_add rfl rfl rfl rfl rfl (wrap_i64 _ (by omega) (by omega)) ?_
        refine ow_add rfl rfl rfl rfl rfl (wrap_i64 _ (by omega) (by omega)) ?_
        refine ow_assign rfl rfl ?_
        refine ow_nil ?_
        refine cw_region ?_
        refine ow_add rfl rfl rfl rfl rfl (wrap_i64 _ (by omega) (by omega)) ?_
        refine ow_move rfl rfl ?_
        refine ow_nil ?_
        exact ⟨gg + 1, ⟨congrArg (Value.int .i64) (by omega), rfl, rfl, rfl⟩, ⟨hK, by omega⟩, by omega⟩
      · first | replace h2 := test_t h2 | replace h2 := test_f h2 | replace h2 := test_nt h2 | replace h2 := test_nf h2 | skip
        have hgl : gg = t.parts.length := by omega
        subst hgl
        refine cw_exit ?_
        refine x_hit rfl ?_
        refine cw_seq ?_
        refine cw_region ?_
        refine ow_move rfl rfl ?_
        refine ow_assign rfl rfl ?_
        refine ow_nil ?_
        refine cw_ret ?_
        exact ⟨_, rfl, by rw [hd]; rfl, hK⟩

theorem fits_ret (t : Tree) (hq1 : t.size ≤ 1000000000) (hq2 : t.len ≤ 1000000000) (v : Value) (L : List Nat) (w : World) (hv : RTree L w v t) :
    Ret Tryz.prog 67 [v] w fun r w' => r = .bool (fitsB t) ∧ Keep [] w w' := by
  have hv0 := hv
  obtain ⟨a, n, c, rfl, hn, hps⟩ := rtree_cases hv
  have hK := Keep.refl [] w
  refine ret_of [.tmp 2] 11 Tryz.func67 rfl nm67 rfl rfl ?_
  refine cw_seq ?_
  refine cw_region ?_
  refine ow_boxA rfl rfl rfl ?_
  intro w1 hk1 hb1 hz1
  have hK := hK.ext hk1
  have hv0 := hv0.ext hk1
  refine ow_assign rfl rfl ?_
  refine ow_nil ?_
  refine cw_seq ?_
  refine cw_region ?_
  refine ow_loads tAgg73 tI73 rfl rfl rfl hb1.all rfl ?_
  refine ow_call rfl rfl (depth_ret t.size t (Nat.le_refl _) hq1 _ L w1 hv0) ?_
  rintro v2 w2 ⟨hv2, hk2⟩
  have hs2 := hk2.size
  have hK := hK.ext hk2
  have hv0 := hv0.ext hk2
  have hb1 := hb1.ext hk2
  obtain rfl := hv2
  refine ow_leq rfl rfl rfl rfl rfl ?_
  refine ow_move rfl rfl ?_
  apply ow_and 4 6 10 [6, 7, 8, 9, 10] (Keep [] w2) rfl
  · intro h1
    first | replace h1 := test_t h1 | replace h1 := test_f h1 | replace h1 := test_nt h1 | replace h1 := test_nf h1 | skip
    have hJ6 := Keep.refl [] w2
    refine ow_loads tAgg73 tI73 rfl rfl rfl hb1.all rfl ?_
    refine ow_call rfl rfl (length_ret t.size t (Nat.le_refl _) hq1 hq2 _ L w2 hv0) ?_
    rintro v3 w3 ⟨hv3, hk3⟩
    have hs3 := hk3.size
    have hK := hK.ext hk3
    have hv0 := hv0.ext hk3
    have hb1 := hb1.ext hk3
    have hJ6 := hJ6.ext hk3
    obtain rfl := hv3
    refine ow_leq rfl rfl rfl rfl rfl ?_
    refine ow_pick rfl rfl rfl ?_
    refine ow_nil ?_
    exact ⟨by repeat (first | with_reducible exact agree_refl | refine agree_upd rfl ?_ | refine agree_hav rfl ?_), rfl, hJ6⟩
  · intro h1
    first | replace h1 := test_t h1 | replace h1 := test_f h1 | replace h1 := test_nt h1 | replace h1 := test_nf h1 | skip
    have hJ6 := Keep.refl [] w2
    refine ow_skip rfl rfl ?_
    refine ow_skip rfl rfl ?_
    refine ow_skip rfl rfl ?_
    refine ow_pick rfl rfl rfl ?_
    refine ow_nil ?_
    exact ⟨by repeat (first | with_reducible exact agree_refl | refine agree_upd rfl ?_ | refine agree_hav rfl ?_), rfl, hJ6⟩
  · intro xx w3 hk3
    have hK := hK.ext hk3
    have hv0 := hv0.ext hk3
    have hb1 := hb1.ext hk3
    refine ow_assign rfl rfl ?_
    refine ow_nil ?_
    refine cw_ret ?_
    exact ⟨_, rfl, congrArg Value.bool (by unfold fitsB; rw [show decide ((t.depth : Int) ≤ 60) = decide (t.depth ≤ 60) from decide_eq_decide.2 (by omega), show decide ((t.len : Int) ≤ 12000) = decide (t.len ≤ 12000) from decide_eq_decide.2 (by omega)]), hK⟩

theorem atomF_ret (s : Bytes) (w : World) : Ret Tryz.prog 85 [str s] w fun r w' => r = .agg #[str s, .slice none 0 0] ∧ Keep [] w w' := by
  have hK := Keep.refl [] w
  refine ret_gen [.cell 2 73] 5 Tryz.func85 rfl nm85 rfl rfl rfl ?_
  refine cw_seq ?_
  refine cw_region ?_
  refine ow_allocA tI73 rfl rfl rfl ?_
  intro w1 hk1 hb2 hz1
  have hK := hK.grow
  have hK := hK.ext hk1
  refine ow_nil ?_
  refine cw_seq ?_
  refine cw_region ?_
  refine ow_move rfl rfl ?_
  refine ow_build (tB73_0 _ _) rfl rfl ?_
  refine ow_storeA tI73 rfl rfl rfl rfl rfl hb2 rfl ?_
  intro w2 hk2 hb2 hz2
  have hK := hK.sto hk2 (by simp <;> omega)
  refine ow_nil ?_
  refine cw_ret ?_
  exact ⟨[_], resultAt_blk tAgg73 tI73 rfl hb2 rfl, rfl, hK⟩

def HeadedPost (B : Nat) (L : List Nat) (h : Bytes) (ts : List Tree) (v : Value) (w : World) : Prop := ∃ a c g, v = .agg #[str [], .slice a (atomT h :: ts).length c] ∧ Gr B L w 73 2 (.slice a (atomT h :: ts).length c) g (encs (atomT h :: ts))
theorem HeadedPost.tree {B : Nat} {L : List Nat} {h : Bytes} {ts : List Tree} {v : Value} {w : World} (hp : HeadedPost B L h ts v w) : RTree L w v (listT h ts) := by
  obtain ⟨a, c, g, rfl, hO⟩ := hp; exact rtree_mk hO.trees
theorem headed_ret (h : Bytes) (ts : List Tree) (hn : ts.length ≤ 1000000) (v : Value) (L : List Nat) (w : World) (hv : RTrees L w v ts) (hL : ∀ x, x ∈ L → x < w.heap.size) :
    Ret Tryz.prog 84 [str h, v] w fun r w' => HeadedPost w.heap.size L h ts r w' ∧ Keep [] w w' := by
  obtain ⟨a, c, rfl⟩ := trees_cases hv
  have hK := Keep.refl [] w
  refine ret_gen [.cell 4 73] 11 Tryz.func84 rfl nm84 rfl rfl rfl ?_
  refine cw_seq ?_
  refine cw_region ?_
  refine ow_allocA tI73 rfl rfl rfl ?_
  intro w1 hk1 hb4 hz1
  have hK := hK.grow
  have hK := hK.ext hk1
  have hv := hv.grow
  have hv := hv.ext hk1
  refine ow_nil ?_
  refine cw_seq ?_
  refine cw_region ?_
  refine ow_move rfl rfl ?_
  refine ow_call rfl rfl (atomF_ret h w1) ?_
  rintro v2 w2 ⟨hv2, hk2⟩
  have hs2 := hk2.size
  have hK := hK.ext hk2
  have hv := hv.ext hk2
  have hb4 := hb4.ext hk2
  obtain rfl := hv2
  have hvf := Rep.fresh hv (grow_mem (w := w2))
  refine ow_buildSlice1 tSl61 tI73 rfl rfl rfl rfl rfl rfl rfl rfl ?_
  intro w3 hk3 hb7 hz3
  have hK := hK.ext hk3
  have hv := hv.ext hk3
  have hb4 := hb4.ext hk3
  have hvf := hvf.ext hk3
  refine ow_move rfl rfl ?_
  have hq2 := hk2.size
  have hsz := hK.size
  have hbl4 := hb4.lt
  have hO := gr_blk (B := w.heap.size) (L := w.heap.size :: L) (sz := 2) (N := 1) (rows := encs [atomT h]) hb7 ⟨.val _, .nil _ _ _, trivial⟩ (encs_row _) rfl (by omega) (by omega) (by intro hx; simp at hx; rcases hx with hx | hx; omega; have := hL _ hx; omega) (by intro x hx; simp at hx; rcases hx with rfl | hx; omega; have := hL x hx; omega)
  refine ow_growAll tSl61 tI73 rfl rfl rfl rfl rfl rfl hO (Rep.weaken hvf (by simp)) encs_one (by rw [encs_length, encs_length]; simp; omega) ?_
  intro a4 cc4 g4 w4 hO3 hk4
  have hb4 := hb4.sto hk4 (hO.sepL (by simp))
  have hK := hO.since hK hk4
  rw [show (encs [atomT h]).length + (encs ts).length = (atomT h :: ts).length from by simp [encs_length, Nat.add_comm]] at hO3 ⊢
  rw [show encs [atomT h] ++ encs ts = encs (atomT h :: ts) from by simp [encs]] at hO3
  refine ow_build (tB73_1 _ _ _ _) rfl rfl ?_
  refine ow_storeA tI73 rfl rfl rfl rfl rfl hb4 rfl ?_
  intro w5 hk5 hb4 hz5
  have hK := hK.sto hk5 (by simp <;> omega)
  have hO3 := hO3.sto hk5 (by simp <;> omega)
  refine ow_nil ?_
  refine cw_ret ?_
  exact ⟨[_], resultAt_blk tAgg73 tI73 rfl hb4 rfl, ⟨a4, cc4, g4, rfl, hO3.weak (L' := L) (fun x hx => by simp [hx])⟩, hK⟩
end Go.Proofs.YtnkjgoholocliaaGreatDoor

namespace Go.Proofs.YtnkjgoholocliaaGreatDoor
open Go

theorem blkT_cons (p : Bytes) (ps : List IBk) {k : Nat} (hk : k < ps.length) : atomT p :: (ps.take (k + 1)).map blkT = (atomT p :: (ps.take k).map blkT) ++ [blkT (ith ps k)] := by
  rw [List.take_succ_eq_append_getElem hk, ith_elem hk, List.map_append]; rfl
theorem form_ret (ps : List IBk) (hps : ps.length ≤ 1000000) (hbs : ∀ i, i < ps.length → (ith ps i).regs.length ≤ 1000000 ∧ (ith ps i).code.length ≤ 1000000) (v : Value) (La : List Nat) (w : World) (hv : RProg La w v ps) :
    Ret Tryz.prog 66 [v] w fun r w' => RTree [] w' r (progT ps) ∧ Keep [] w w' := by
  obtain ⟨a, c, rfl⟩ := rprog_cases hv
  have hK := Keep.refl [] w
  refine ret_gen [.cell 2 73] 31 Tryz.func66 rfl nm66 rfl rfl rfl ?_
  refine cw_seq ?_
  refine cw_region ?_
  refine ow_allocA tI73 rfl rfl rfl ?_
  intro w1 hk1 hb2 hz1
  have hK := hK.grow
  have hK := hK.ext hk1
  refine ow_nil ?_
  refine cw_seq ?_
  refine cw_region ?_
  refine ow_call rfl rfl (headed_ret [112, 114, 111, 103, 114, 97, 109] [] (by simp) _ [w.heap.size] w1 rtrees_nil (by simp; omega)) ?_
  rintro v2 w2 ⟨hv2, hk2⟩
  have hs2 := hk2.size
  have hK := hK.ext hk2
  have hb2 := hb2.ext hk2
  obtain ⟨a1, c1, g1, rfl, hO⟩ := hv2
  refine ow_allocA tI73 rfl rfl rfl ?_
  intro w3 hk3 hb3 hz3
  have hK := hK.grow
  have hK := hK.ext hk3
  have hb2 := hb2.grow
  have hb2 := hb2.ext hk3
  have hO := hO.alloc hk3 hz3
  refine ow_storeA tI73 rfl rfl rfl rfl rfl hb3 rfl ?_
  intro w4 hk4 hb3 hz4
  have hK := hK.sto hk4 (by simp <;> omega)
  have hb2 := hb2.sto hk4 (by simp <;> omega)
  have hO := hO.sto hk4 (by simp <;> omega)
  refine ow_nil ?_
  refine cw_seq ?_
  refine cw_seq ?_
  refine cw_region ?_
  refine ow_move rfl rfl ?_
  refine ow_len tSl58 rfl rfl rfl ?_
  refine ow_move rfl rfl ?_
  refine ow_nil ?_
  refine cw_block ?_
  refine cw_loop (fun q : Nat × Option Addr × Nat × Option Nat => [(2, .pointer (some ⟨w.heap.size, 0, none⟩)), (3, .pointer (some ⟨w2.heap.size, 0, none⟩)), (7, .slice a ps.length c), (8, .int .i64 (ps.length : Int)), (9, .int .i64 (q.1 : Int))]) (fun q w' => Keep [] w w' ∧ Blk w' w.heap.size [str [], .slice none 0 0].toArray 73 ∧ Blk w' w2.heap.size [str [], .slice q.2.1 (atomT [112, 114, 111, 103, 114, 97, 109] :: (ps.take q.1).map blkT).length q.2.2.1].toArray 73 ∧ Gr w1.heap.size [w2.heap.size, w.heap.size] w' 73 2 (.slice q.2.1 (atomT [112, 114, 111, 103, 114, 97, 109] :: (ps.take q.1).map blkT).length q.2.2.1) q.2.2.2 (encs (atomT [112, 114, 111, 103, 114, 97, 109] :: (ps.take q.1).map blkT)) ∧ q.1 ≤ ps.length) (fun q => ps.length - q.1) ((0, a1, c1, g1)) (⟨rfl, rfl, rfl, rfl, rfl⟩) (⟨hK, hb2, hb3, hO, by simp⟩) ?_
  intro gg w5 e5 hI
  obtain ⟨i, a3, cc, g⟩ := gg
  dsimp only at hI ⊢
  obtain ⟨hK, hb2, hb3, hO, hk⟩ := hI
  have hsz := hK.size
  have hbl2 := hb2.lt
  have hbl3 := hb3.lt
  refine cw_seq ?_
  refine cw_region ?_
  refine ow_lss rfl rfl rfl rfl rfl ?_
  refine ow_nil ?_
  refine cw_seq ?_
  refine cw_cond rfl (fun h1 => ?_) (fun h1 => ?_)
  · first | replace h1 := test_t h1 | replace h1 := test_f h1 | replace h1 := test_nt h1 | replace h1 := test_nf h1 | skip
    have hgt := ith_get (ps := ps) (i := i) (by omega)
    have hvL : RProg (g.toList ++ [w2.heap.size, w.heap.size]) w5 _ ps := RProg.ext (Rep.fresh hv (by intro x hx; right; rcases List.mem_append.1 hx with hx | hx; (· have := hO.low x (by simpa using hx); omega); (· simp at hx; omega))) hK
    obtain ⟨b1, off1, r1, rc1, r2, rc2, rfl, hc1, hq1, hq2⟩ := rprog_get hvL hgt
    obtain ⟨hn1, hn2⟩ := hbs i (by omega)
    refine cw_skip ?_
    refine cw_seq ?_
    refine cw_block ?_
    refine cw_seq ?_
    refine cw_region ?_
    refine ow_indexAddr tSl58 tI63 rfl rfl rfl rfl (by omega) ?_
    refine ow_loads tAgg63 tI63 rfl rfl rfl (hc1) (rfl) ?_
    refine ow_allocA tI63 rfl rfl rfl ?_
    intro w6 hk6 hb5 hz6
    have hK := hK.grow
    have hK := hK.ext hk6
    have hb2 := hb2.grow
    have hb2 := hb2.ext hk6
    have hb3 := hb3.grow
    have hb3 := hb3.ext hk6
    have hO := hO.alloc hk6 hz6
    have hq1 := hq1.grow
    have hq1 := hq1.ext hk6
    have hq2 := hq2.grow
    have hq2 := hq2.ext hk6
    refine ow_storeA tI63 rfl rfl rfl rfl rfl hb5 rfl ?_
    intro w7 hk7 hb5 hz7
    have hK := hK.sto hk7 (by simp <;> omega)
    have hb2 := hb2.sto hk7 (by simp <;> omega)
    have hb3 := hb3.sto hk7 (by simp <;> omega)
    have hO := hO.sto hk7 (by simp <;> omega)
    have hq1 := hq1.sto hk7 (by simp <;> omega)
    have hq2 := hq2.sto hk7 (by simp <;> omega)
    refine ow_nil ?_
    refine cw_draw tMixed kept_new 14 [13, 14, 15, 16, 17, 18, 19, 20, 21, 22, 23, 24, 25, 26] [13, 14, 15, 16, 17, 18, 19, 20, 21, 22, 23, 24, 25, 26] [[], [0], [], [2], [3], [], [5], [6], [], [8], [9], [4, 7, 10], [11], [12]] [fun v _ => v = (.pointer (some ⟨w2.heap.size, 0 + 1, none⟩)), fun v _ => v = (.slice a3 (atomT [112, 114, 111, 103, 114, 97, 109] :: (ps.take i).map blkT).length cc), fun v _ => v = (.pointer (some ⟨w5.heap.size, 0 + 0, none⟩)), fun v _ => v = (str (ith ps i).label), fun v _ => v = (.agg #[str (ith ps i).label, .slice none 0 0]), fun v _ => v = (.pointer (some ⟨w5.heap.size, 0 + 1, none⟩)), fun v _ => v = (.slice r1 (ith ps i).regs.length rc1), fun (v : Value) (ww : World) => RTree (g.toList ++ [w5.heap.size, w2.heap.size, w.heap.size]) ww v (listT [114, 101, 103, 115] (ith ps i).regs), fun v _ => v = (.pointer (some ⟨w5.heap.size, 0 + 2, none⟩)), fun v _ => v = (.slice r2 (ith ps i).code.length rc2), fun (v : Value) (ww : World) => RTree (g.toList ++ [w5.heap.size, w2.heap.size, w.heap.size]) ww v (listT [99, 111, 100, 101] (ith ps i).code), fun (v : Value) (ww : World) => RTrees (g.toList ++ [w5.heap.size, w2.heap.size, w.heap.size]) ww v [atomT (ith ps i).label, listT [114, 101, 103, 115] (ith ps i).regs, listT [99, 111, 100, 101] (ith ps i).code], fun (v : Value) (ww : World) => RTree (g.toList ++ [w5.heap.size, w2.heap.size, w.heap.size]) ww v (blkT (ith ps i)), fun (v : Value) (ww : World) => ∃ b u1 u2, v = .slice (some ⟨b, 0, none⟩) 1 1 ∧ Blk ww b [u1, u2].toArray 73 ∧ RTree (g.toList ++ [w5.heap.size, w2.heap.size, w.heap.size]) ww (.agg #[u1, u2]) (blkT (ith ps i))] (by decide) (stab_eq (stab_eq (stab_eq (stab_eq (stab_eq (stab_eq (stab_eq (stab_gen (fun v w w' h k => RTree.ext h k) (stab_eq (stab_eq (stab_gen (fun v w w' h k => RTree.ext h k) (stab_gen (fun v w w' h k => RTrees.ext h k) (stab_gen (fun v w w' h k => RTree.ext h k) (stab_gen (fun v w w' ⟨b, u1, u2, e, h1, h2⟩ k => ⟨b, u1, u2, e, h1.ext k, RTree.ext h2 k⟩) trivial)))))))))))))) (fun wd hkd => ?_) ?_
    ·
      refine certs_cons ?_ ?_
      ·
        intro x vs w8 e hk8 hd he
        replace hk8 := kept_new.trans hkd hk8
        have hK := hK.ext hk8
        have hb2 := hb2.ext hk8
        have hb3 := hb3.ext hk8
        have hO := hO.ext hk8
        have hq1 := hq1.ext hk8
        have hq2 := hq2.ext hk8
        have hb5 := hb5.ext hk8
        replace he : e = over (havoc _ x _) [] := he
        subst he
        refine ow_fieldAddr tF73_1 rfl rfl rfl ?_
        refine ow_nil ?_
        exact ⟨kept_new.refl _, rfl, by first | exact agree_put | exact agree_refl⟩
      refine certs_cons ?_ ?_
      ·
        intro x vs w8 e hk8 hd he
        have d0 : vs 0 = (.pointer (some ⟨w2.heap.size, 0 + 1, none⟩)) := hd
        replace hk8 := kept_new.trans hkd hk8
        have hK := hK.ext hk8
        have hb2 := hb2.ext hk8
        have hb3 := hb3.ext hk8
        have hO := hO.ext hk8
        have hq1 := hq1.ext hk8
        have hq2 := hq2.ext hk8
        have hb5 := hb5.ext hk8
        replace he : e = over (havoc _ x _) [(13, vs 0)] := he
        rw [d0] at he
        subst he
        refine ow_load tOne61 rfl rfl rfl (hb3.at rfl) ?_
        refine ow_nil ?_
        exact ⟨kept_new.refl _, rfl, by first | exact agree_put | exact agree_refl⟩
      refine certs_cons ?_ ?_
      ·
        intro x vs w8 e hk8 hd he
        replace hk8 := kept_new.trans hkd hk8
        have hK := hK.ext hk8
        have hb2 := hb2.ext hk8
        have hb3 := hb3.ext hk8
        have hO := hO.ext hk8
        have hq1 := hq1.ext hk8
        have hq2 := hq2.ext hk8
        have hb5 := hb5.ext hk8
        replace he : e = over (havoc _ x _) [] := he
        subst he
        refine ow_fieldAddr tF63_0 rfl rfl rfl ?_
        refine ow_nil ?_
        exact ⟨kept_new.refl _, rfl, by first | exact agree_put | exact agree_refl⟩
      refine certs_cons ?_ ?_
      ·
        intro x vs w8 e hk8 hd he
        have d2 : vs 2 = (.pointer (some ⟨w5.heap.size, 0 + 0, none⟩)) := hd
        replace hk8 := kept_new.trans hkd hk8
        have hK := hK.ext hk8
        have hb2 := hb2.ext hk8
        have hb3 := hb3.ext hk8
        have hO := hO.ext hk8
        have hq1 := hq1.ext hk8
        have hq2 := hq2.ext hk8
        have hb5 := hb5.ext hk8
        replace he : e = over (havoc _ x _) [(15, vs 2)] := he
        rw [d2] at he
        subst he
        refine ow_load tOne9 rfl rfl rfl (hb5.at rfl) ?_
        refine ow_nil ?_
        exact ⟨kept_new.refl _, rfl, by first | exact agree_put | exact agree_refl⟩
      refine certs_cons ?_ ?_
      ·
        intro x vs w8 e hk8 hd he
        have d3 : vs 3 = (str (ith ps i).label) := hd
        replace hk8 := kept_new.trans hkd hk8
        have hK := hK.ext hk8
        have hb2 := hb2.ext hk8
        have hb3 := hb3.ext hk8
        have hO := hO.ext hk8
        have hq1 := hq1.ext hk8
        have hq2 := hq2.ext hk8
        have hb5 := hb5.ext hk8
        replace he : e = over (havoc _ x _) [(16, vs 3)] := he
        rw [d3] at he
        subst he
        refine ow_call rfl rfl (atomF_ret (ith ps i).label w8) ?_
        rintro v9 w9 ⟨hv9, hk9⟩
        have hs9 := hk9.size
        have hK := hK.ext hk9
        have hb2 := hb2.ext hk9
        have hb3 := hb3.ext hk9
        have hO := hO.ext hk9
        have hq1 := hq1.ext hk9
        have hq2 := hq2.ext hk9
        have hb5 := hb5.ext hk9
        obtain rfl := hv9
        refine ow_nil ?_
        exact ⟨kept_new.of hk9, rfl, by first | exact agree_put | exact agree_refl⟩
      refine certs_cons ?_ ?_
      ·
        intro x vs w8 e hk8 hd he
        replace hk8 := kept_new.trans hkd hk8
        have hK := hK.ext hk8
        have hb2 := hb2.ext hk8
        have hb3 := hb3.ext hk8
        have hO := hO.ext hk8
        have hq1 := hq1.ext hk8
        have hq2 := hq2.ext hk8
        have hb5 := hb5.ext hk8
        replace he : e = over (havoc _ x _) [] := he
        subst he
        refine ow_fieldAddr tF63_1 rfl rfl rfl ?_
        refine ow_nil ?_
        exact ⟨kept_new.refl _, rfl, by first | exact agree_put | exact agree_refl⟩
      refine certs_cons ?_ ?_
      ·
        intro x vs w8 e hk8 hd he
        have d5 : vs 5 = (.pointer (some ⟨w5.heap.size, 0 + 1, none⟩)) := hd
        replace hk8 := kept_new.trans hkd hk8
        have hK := hK.ext hk8
        have hb2 := hb2.ext hk8
        have hb3 := hb3.ext hk8
        have hO := hO.ext hk8
        have hq1 := hq1.ext hk8
        have hq2 := hq2.ext hk8
        have hb5 := hb5.ext hk8
        replace he : e = over (havoc _ x _) [(18, vs 5)] := he
        rw [d5] at he
        subst he
        refine ow_load tOne61 rfl rfl rfl (hb5.at rfl) ?_
        refine ow_nil ?_
        exact ⟨kept_new.refl _, rfl, by first | exact agree_put | exact agree_refl⟩
      refine certs_cons ?_ ?_
      ·
        intro x vs w8 e hk8 hd he
        have d6 : vs 6 = (.slice r1 (ith ps i).regs.length rc1) := hd
        replace hk8 := kept_new.trans hkd hk8
        have hK := hK.ext hk8
        have hb2 := hb2.ext hk8
        have hb3 := hb3.ext hk8
        have hO := hO.ext hk8
        have hq1 := hq1.ext hk8
        have hq2 := hq2.ext hk8
        have hb5 := hb5.ext hk8
        replace he : e = over (havoc _ x _) [(19, vs 6)] := he
        rw [d6] at he
        subst he
        refine ow_call rfl rfl (headed_ret [114, 101, 103, 115] (ith ps i).regs hn1 _ (g.toList ++ [w5.heap.size, w2.heap.size, w.heap.size]) w8 (RTrees.weak hq1 (by intro x hx; simp at hx ⊢; rcases hx with h | h | h | h <;> simp [h])) hO.all) ?_
        rintro v9 w9 ⟨hv9, hk9⟩
        have hs9 := hk9.size
        have hK := hK.ext hk9
        have hb2 := hb2.ext hk9
        have hb3 := hb3.ext hk9
        have hO := hO.ext hk9
        have hq1 := hq1.ext hk9
        have hq2 := hq2.ext hk9
        have hb5 := hb5.ext hk9
        have hq := HeadedPost.tree hv9
        refine ow_nil ?_
        exact ⟨kept_new.of hk9, hq, by first | exact agree_put | exact agree_refl⟩
      refine certs_cons ?_ ?_
      ·
        intro x vs w8 e hk8 hd he
        replace hk8 := kept_new.trans hkd hk8
        have hK := hK.ext hk8
        have hb2 := hb2.ext hk8
        have hb3 := hb3.ext hk8
        have hO := hO.ext hk8
        have hq1 := hq1.ext hk8
        have hq2 := hq2.ext hk8
        have hb5 := hb5.ext hk8
        replace he : e = over (havoc _ x _) [] := he
        subst he
        refine ow_fieldAddr tF63_2 rfl rfl rfl ?_
        refine ow_nil ?_
        exact ⟨kept_new.refl _, rfl, by first | exact agree_put | exact agree_refl⟩
      refine certs_cons ?_ ?_
      ·
        intro x vs w8 e hk8 hd he
        have d8 : vs 8 = (.pointer (some ⟨w5.heap.size, 0 + 2, none⟩)) := hd
        replace hk8 := kept_new.trans hkd hk8
        have hK := hK.ext hk8
        have hb2 := hb2.ext hk8
        have hb3 := hb3.ext hk8
        have hO := hO.ext hk8
        have hq1 := hq1.ext hk8
        have hq2 := hq2.ext hk8
        have hb5 := hb5.ext hk8
        replace he : e = over (havoc _ x _) [(21, vs 8)] := he
        rw [d8] at he
        subst he
        refine ow_load tOne61 rfl rfl rfl (hb5.at rfl) ?_
        refine ow_nil ?_
        exact ⟨kept_new.refl _, rfl, by first | exact agree_put | exact agree_refl⟩
      refine certs_cons ?_ ?_
      ·
        intro x vs w8 e hk8 hd he
        have d9 : vs 9 = (.slice r2 (ith ps i).code.length rc2) := hd
        replace hk8 := kept_new.trans hkd hk8
        have hK := hK.ext hk8
        have hb2 := hb2.ext hk8
        have hb3 := hb3.ext hk8
        have hO := hO.ext hk8
        have hq1 := hq1.ext hk8
        have hq2 := hq2.ext hk8
        have hb5 := hb5.ext hk8
        replace he : e = over (havoc _ x _) [(22, vs 9)] := he
        rw [d9] at he
        subst he
        refine ow_call rfl rfl (headed_ret [99, 111, 100, 101] (ith ps i).code hn2 _ (g.toList ++ [w5.heap.size, w2.heap.size, w.heap.size]) w8 (RTrees.weak hq2 (by intro x hx; simp at hx ⊢; rcases hx with h | h | h | h <;> simp [h])) hO.all) ?_
        rintro v9 w9 ⟨hv9, hk9⟩
        have hs9 := hk9.size
        have hK := hK.ext hk9
        have hb2 := hb2.ext hk9
        have hb3 := hb3.ext hk9
        have hO := hO.ext hk9
        have hq1 := hq1.ext hk9
        have hq2 := hq2.ext hk9
        have hb5 := hb5.ext hk9
        have hq := HeadedPost.tree hv9
        refine ow_nil ?_
        exact ⟨kept_new.of hk9, hq, by first | exact agree_put | exact agree_refl⟩
      refine certs_cons ?_ ?_
      ·
        intro x vs w8 e hk8 hd he
        obtain ⟨d4, d7, d10⟩ : (vs 4 = (.agg #[str (ith ps i).label, .slice none 0 0])) ∧ ((fun (v : Value) (ww : World) => RTree (g.toList ++ [w5.heap.size, w2.heap.size, w.heap.size]) ww v (listT [114, 101, 103, 115] (ith ps i).regs)) (vs 7) w8) ∧ ((fun (v : Value) (ww : World) => RTree (g.toList ++ [w5.heap.size, w2.heap.size, w.heap.size]) ww v (listT [99, 111, 100, 101] (ith ps i).code)) (vs 10) w8) := hd
        replace hk8 := kept_new.trans hkd hk8
        have hK := hK.ext hk8
        have hb2 := hb2.ext hk8
        have hb3 := hb3.ext hk8
        have hO := hO.ext hk8
        have hq1 := hq1.ext hk8
        have hq2 := hq2.ext hk8
        have hb5 := hb5.ext hk8
        replace he : e = over (havoc _ x _) [(17, vs 4), (20, vs 7), (23, vs 10)] := he
        rw [d4] at he
        obtain ⟨a7, n7, c7, e7, _, _⟩ := rtree_cases d7
        obtain ⟨a8, n8, c8, e8, _, _⟩ := rtree_cases d10
        rw [e7, e8] at he
        rw [e7] at d7
        rw [e8] at d10
        subst he
        refine ow_buildSliceN [.tmp 17, .tmp 20, .tmp 23] [[str (ith ps i).label, .slice none 0 0], [str [], .slice a7 n7 c7], [str [], .slice a8 n8 c8]] tSl61 tI73 rfl rfl rfl rfl rfl rfl rfl rfl rfl ?_
        intro w9 hk9 hb11 hz11
        refine ow_nil ?_
        exact ⟨kept_new.of hk9, (trees_blk3 hb11 (rtree_mk rtrees_nil) (RTree.ext d7 hk9) (RTree.ext d10 hk9) (fun hx => absurd (hO.all _ hx) (by omega))), by first | exact agree_put | exact agree_refl⟩
      refine certs_cons ?_ ?_
      ·
        intro x vs w8 e hk8 hd he
        have d11 : (fun (v : Value) (ww : World) => RTrees (g.toList ++ [w5.heap.size, w2.heap.size, w.heap.size]) ww v [atomT (ith ps i).label, listT [114, 101, 103, 115] (ith ps i).regs, listT [99, 111, 100, 101] (ith ps i).code]) (vs 11) w8 := hd
        replace hk8 := kept_new.trans hkd hk8
        have hK := hK.ext hk8
        have hb2 := hb2.ext hk8
        have hb3 := hb3.ext hk8
        have hO := hO.ext hk8
        have hq1 := hq1.ext hk8
        have hq2 := hq2.ext hk8
        have hb5 := hb5.ext hk8
        replace he : e = over (havoc _ x _) [(24, vs 11)] := he
        subst he
        refine ow_call rfl rfl (headed_ret [98, 108, 111, 99, 107] [atomT (ith ps i).label, listT [114, 101, 103, 115] (ith ps i).regs, listT [99, 111, 100, 101] (ith ps i).code] (by simp) _ (g.toList ++ [w5.heap.size, w2.heap.size, w.heap.size]) w8 d11 hO.all) ?_
        rintro v9 w9 ⟨hv9, hk9⟩
        have hs9 := hk9.size
        have hK := hK.ext hk9
        have hb2 := hb2.ext hk9
        have hb3 := hb3.ext hk9
        have hO := hO.ext hk9
        have hq1 := hq1.ext hk9
        have hq2 := hq2.ext hk9
        have hb5 := hb5.ext hk9
        have hq := HeadedPost.tree hv9
        refine ow_nil ?_
        exact ⟨kept_new.of hk9, (show RTree _ _ _ (blkT (ith ps i)) from hq), by first | exact agree_put | exact agree_refl⟩
      refine certs_cons ?_ ?_
      ·
        intro x vs w8 e hk8 hd he
        have d12 : (fun (v : Value) (ww : World) => RTree (g.toList ++ [w5.heap.size, w2.heap.size, w.heap.size]) ww v (blkT (ith ps i))) (vs 12) w8 := hd
        replace hk8 := kept_new.trans hkd hk8
        have hK := hK.ext hk8
        have hb2 := hb2.ext hk8
        have hb3 := hb3.ext hk8
        have hO := hO.ext hk8
        have hq1 := hq1.ext hk8
        have hq2 := hq2.ext hk8
        have hb5 := hb5.ext hk8
        replace he : e = over (havoc _ x _) [(25, vs 12)] := he
        obtain ⟨a7, n7, c7, e7, _, _⟩ := rtree_cases d12
        rw [e7] at he
        rw [e7] at d12
        subst he
        refine ow_buildSlice1 tSl61 tI73 rfl rfl rfl rfl rfl rfl rfl rfl ?_
        intro w9 hk9 hb26 hz9
        have hK := hK.ext hk9
        have hb2 := hb2.ext hk9
        have hb3 := hb3.ext hk9
        have hO := hO.ext hk9
        have hq1 := hq1.ext hk9
        have hq2 := hq2.ext hk9
        have hb5 := hb5.ext hk9
        refine ow_nil ?_
        exact ⟨kept_new.of hk9, ⟨_, _, _, rfl, hb26, RTree.ext d12 hk9⟩, by first | exact agree_put | exact agree_refl⟩
      exact trivial
    · intro x vs w47 hk47 hdraw
      have d0 : vs 0 = (.pointer (some ⟨w2.heap.size, 0 + 1, none⟩)) := hdraw 0 (by decide)
      have d1 : vs 1 = (.slice a3 (atomT [112, 114, 111, 103, 114, 97, 109] :: (ps.take i).map blkT).length cc) := hdraw 1 (by decide)
      have d2 : vs 2 = (.pointer (some ⟨w5.heap.size, 0 + 0, none⟩)) := hdraw 2 (by decide)
      have d3 : vs 3 = (str (ith ps i).label) := hdraw 3 (by decide)
      have d4 : vs 4 = (.agg #[str (ith ps i).label, .slice none 0 0]) := hdraw 4 (by decide)
      have d5 : vs 5 = (.pointer (some ⟨w5.heap.size, 0 + 1, none⟩)) := hdraw 5 (by decide)
      have d6 : vs 6 = (.slice r1 (ith ps i).regs.length rc1) := hdraw 6 (by decide)
      have d7 : (fun (v : Value) (ww : World) => RTree (g.toList ++ [w5.heap.size, w2.heap.size, w.heap.size]) ww v (listT [114, 101, 103, 115] (ith ps i).regs)) (vs 7) w47 := hdraw 7 (by decide)
      have d8 : vs 8 = (.pointer (some ⟨w5.heap.size, 0 + 2, none⟩)) := hdraw 8 (by decide)
      have d9 : vs 9 = (.slice r2 (ith ps i).code.length rc2) := hdraw 9 (by decide)
      have d10 : (fun (v : Value) (ww : World) => RTree (g.toList ++ [w5.heap.size, w2.heap.size, w.heap.size]) ww v (listT [99, 111, 100, 101] (ith ps i).code)) (vs 10) w47 := hdraw 10 (by decide)
      have d11 : (fun (v : Value) (ww : World) => RTrees (g.toList ++ [w5.heap.size, w2.heap.size, w.heap.size]) ww v [atomT (ith ps i).label, listT [114, 101, 103, 115] (ith ps i).regs, listT [99, 111, 100, 101] (ith ps i).code]) (vs 11) w47 := hdraw 11 (by decide)
      have d12 : (fun (v : Value) (ww : World) => RTree (g.toList ++ [w5.heap.size, w2.heap.size, w.heap.size]) ww v (blkT (ith ps i))) (vs 12) w47 := hdraw 12 (by decide)
      have d13 : (fun (v : Value) (ww : World) => ∃ b u1 u2, v = .slice (some ⟨b, 0, none⟩) 1 1 ∧ Blk ww b [u1, u2].toArray 73 ∧ RTree (g.toList ++ [w5.heap.size, w2.heap.size, w.heap.size]) ww (.agg #[u1, u2]) (blkT (ith ps i))) (vs 13) w47 := hdraw 13 (by decide)
      have hK := hK.ext hk47
      have hb2 := hb2.ext hk47
      have hb3 := hb3.ext hk47
      have hO := hO.ext hk47
      have hq1 := hq1.ext hk47
      have hq2 := hq2.ext hk47
      have hb5 := hb5.ext hk47
      change OW _ _ _ _ _ (over (havoc _ x _) [(13, vs 0), (14, vs 1), (15, vs 2), (16, vs 3), (17, vs 4), (18, vs 5), (19, vs 6), (20, vs 7), (21, vs 8), (22, vs 9), (23, vs 10), (24, vs 11), (25, vs 12), (26, vs 13)]) _
      rw [d0, d1, d2, d3, d4, d5, d6, d8, d9]
      obtain ⟨nb, u1, u2, e7, hbn, ht⟩ := d13
      rw [e7]
      refine ow_growT tSl61 tI73 rfl rfl rfl rfl rfl rfl hO hbn ht (by simp; omega) ?_
      intro a2 cc2 g2 w48 hO2 hk48
      have hK := Keep.older (by omega) hO.low hK hk48
      have hb2 := hb2.sto hk48 (hO.sepL (by simp))
      have hb3 := hb3.sto hk48 (hO.sepL (by simp))
      rw [← blkT_cons _ _ (by omega)] at hO2 ⊢
      refine ow_fieldAddr tF73_1 rfl rfl rfl ?_
      refine ow_storeB tI61 rfl rfl rfl rfl hb3 rfl ?_
      intro w49 hk49 hb3 hz49
      have hK := hK.sto hk49 (by simp <;> omega)
      have hb2 := hb2.sto hk49 (by simp <;> omega)
      have hO2 := hO2.sto hk49 (by simp <;> omega)
      refine ow_nil ?_
      refine cw_region ?_
      refine ow_add rfl rfl rfl rfl rfl (wrap_i64 _ (by omega) (by omega)) ?_
      refine ow_move rfl rfl ?_
      refine ow_nil ?_
      exact ⟨(i + 1, a2, cc2, g2), ⟨rfl, rfl, rfl, rfl, rfl⟩, ⟨hK, hb2, hb3, hO2.weak (by intro x hx; simp at hx ⊢; rcases hx with h | h <;> simp [h]), by dsimp only; omega⟩, by dsimp only; omega⟩
  · first | replace h1 := test_t h1 | replace h1 := test_f h1 | replace h1 := test_nt h1 | replace h1 := test_nf h1 | skip
    have hall : ps.take i = ps := List.take_of_length_le (by omega)
    rw [hall] at hO hb3
    refine cw_exit ?_
    refine x_hit rfl ?_
    refine cw_seq ?_
    refine cw_region ?_
    refine ow_loads tAgg73 tI73 rfl rfl rfl hb3.all rfl ?_
    refine ow_storeA tI73 rfl rfl rfl rfl rfl hb2 rfl ?_
    intro w6 hk6 hb2 hz6
    have hK := hK.sto hk6 (by simp <;> omega)
    have hb3 := hb3.sto hk6 (by simp <;> omega)
    have hO := hO.sto hk6 (by simp <;> omega)
    refine ow_nil ?_
    refine cw_ret ?_
    exact ⟨[_], resultAt_blk tAgg73 tI73 rfl hb2 rfl, rtree_mk (hO.trees.weak (by simp)), hK⟩

theorem blockB_lens {b : Bk} (h : blockB b = true) : b.needs.length ≤ 1000000 ∧ b.code.length ≤ 1000000 := by
  unfold blockB at h
  simp only [Bool.and_eq_true, decide_eq_true_eq] at h
  omega
theorem textPI_no {bs : List Bk} (h : (progI bs && fitsB (progT (bs.map bkI))) = false) : textP bs = none := by rw [← textP_eq]; unfold textPI; rw [h]; rfl
theorem textPI_yes {bs : List Bk} (h : (progI bs && fitsB (progT (bs.map bkI))) = true) : textP bs = some (progT (bs.map bkI)).text := by rw [← textP_eq]; unfold textPI; rw [if_pos h]
theorem IText_ret (bs : List Bk) (hs : Smalls bs) (hl : (progS bs).length ≤ 50000000) (v : Value) (La : List Nat) (w : World) (hv : RBks La w v bs) :
    Ret Tryz.prog 25 [v] w fun r w' => r = .tuple #[str ((textP bs).getD []), .bool (textP bs).isSome] ∧ Keep [] w w' := by
  have hK := Keep.refl [] w
  refine ret_of [.tmp 2, .tmp 3] 21 Tryz.func25 rfl nm25 rfl rfl ?_
  refine cw_seq ?_
  refine cw_region ?_
  refine ow_assign rfl rfl ?_
  refine ow_assign rfl rfl ?_
  refine ow_nil ?_
  refine cw_seq ?_
  refine cw_region ?_
  refine ow_move rfl rfl ?_
  refine ow_call rfl rfl (readProgram_ret bs hs _ La [] w hv (by simp)) ?_
  rintro v1 w1 ⟨hv1, hk1⟩
  have hs1 := hk1.size
  have hK := hK.ext hk1
  obtain ⟨ps, pv, rfl, hp, hpe⟩ := hv1
  refine ow_move rfl rfl ?_
  refine ow_extract (i := 0) rfl rfl rfl rfl ?_
  refine ow_extract (i := 1) rfl rfl rfl rfl ?_
  refine ow_assign rfl rfl ?_
  refine ow_assign rfl rfl ?_
  refine ow_nil ?_
  refine cw_seq ?_
  refine cw_seq ?_
  refine cw_region ?_
  refine ow_move rfl rfl ?_
  refine ow_not rfl rfl rfl ?_
  refine ow_nil ?_
  refine cw_cond rfl (fun h1 => ?_) (fun h1 => ?_)
  · first | replace h1 := test_t h1 | replace h1 := test_f h1 | replace h1 := test_nt h1 | replace h1 := test_nf h1 | skip
    have hq := textPI_no (bs := bs) (by rw [show progI bs = false by simpa using h1]; rfl)
    refine cw_seq ?_
    refine cw_region ?_
    refine ow_assign rfl rfl ?_
    refine ow_assign rfl rfl ?_
    refine ow_nil ?_
    refine cw_ret ?_
    exact ⟨_, rfl, by rw [hq]; rfl, hK⟩
  · first | replace h1 := test_t h1 | replace h1 := test_f h1 | replace h1 := test_nt h1 | replace h1 := test_nf h1 | skip
    have hpi : progI bs = true := by simpa using h1
    obtain rfl := hpe hpi
    have hpb : progB bs = true := by unfold progI at hpi; rw [Bool.and_eq_true] at hpi; exact hpi.1
    obtain ⟨ht1, ht2, ht3⟩ := progT_size hpb hl
    have ht4 := len_text ht1
    have hbl := progB_block_of hpb
    have hbs : ∀ i, i < (bs.map bkI).length → (ith (bs.map bkI) i).regs.length ≤ 1000000 ∧ (ith (bs.map bkI) i).code.length ≤ 1000000 := by { intro i hi; have hib : i < bs.length := (by simpa using hi); have e0 : ith (bs.map bkI) i = bkI (bth bs i) := (by simp [List.getElem?_eq_getElem hib]); rw [e0]; have := blockB_lens (hbl _ (bth_mem hib)); simpa [bkI] using this }
    have hbn : bs.length ≤ 1000000 := by { unfold progB at hpb; simp only [Bool.and_eq_true, decide_eq_true_eq] at hpb; omega }
    refine cw_skip ?_
    refine cw_seq ?_
    refine cw_region ?_
    refine ow_move rfl rfl ?_
    refine ow_call rfl rfl (form_ret (bs.map bkI) (by simpa using hbn) hbs _ _ w1 hp) ?_
    rintro v2 w2 ⟨hv2, hk2⟩
    have hs2 := hk2.size
    have hK := hK.ext hk2
    have hp := hp.ext hk2
    obtain ⟨fa, fn, fc, rfl, hfn, _⟩ := rtree_cases hv2
    have ht := hv2
    refine ow_allocA tI73 rfl rfl rfl ?_
    intro w3 hk3 hb6 hz3
    have hK := hK.grow
    have hK := hK.ext hk3
    have hp := hp.grow
    have hp := hp.ext hk3
    have ht := ht.grow
    have ht := ht.ext hk3
    refine ow_storeA tI73 rfl rfl rfl rfl rfl hb6 rfl ?_
    intro w4 hk4 hb6 hz4
    have hK := hK.sto hk4 (by simp <;> omega)
    have hp := hp.sto hk4 (by simp <;> omega)
    have ht := ht.sto hk4 (by simp <;> omega)
    refine ow_nil ?_
    refine cw_seq ?_
    refine cw_seq ?_
    refine cw_region ?_
    refine ow_loads tAgg73 tI73 rfl rfl rfl hb6.all rfl ?_
    refine ow_call rfl rfl (fits_ret _ (by omega) (by omega) _ _ w4 ht) ?_
    rintro v5 w5 ⟨hv5, hk5⟩
    have hs5 := hk5.size
    have hK := hK.ext hk5
    have hp := hp.ext hk5
    have ht := ht.ext hk5
    have hb6 := hb6.ext hk5
    obtain rfl := hv5
    refine ow_not rfl rfl rfl ?_
    refine ow_nil ?_
    refine cw_cond rfl (fun h2 => ?_) (fun h2 => ?_)
    · first | replace h2 := test_t h2 | replace h2 := test_f h2 | replace h2 := test_nt h2 | replace h2 := test_nf h2 | skip
      have hq := textPI_no (bs := bs) (by rw [hpi]; simpa using h2)
      refine cw_seq ?_
      refine cw_region ?_
      refine ow_assign rfl rfl ?_
      refine ow_assign rfl rfl ?_
      refine ow_nil ?_
      refine cw_ret ?_
      exact ⟨_, rfl, by rw [hq]; rfl, hK⟩
    · first | replace h2 := test_t h2 | replace h2 := test_f h2 | replace h2 := test_nt h2 | replace h2 := test_nf h2 | skip
      have hq := textPI_yes (bs := bs) (by rw [hpi]; simpa using h2)
      refine cw_skip ?_
      refine cw_seq ?_
      refine cw_region ?_
      refine ow_loads tAgg73 tI73 rfl rfl rfl hb6.all rfl ?_
      refine ow_call rfl rfl (text_ret _ ht1 (by omega) (by omega) _ _ w5 ht) ?_
      rintro v6 w6 ⟨hv6, hk6⟩
      have hs6 := hk6.size
      have hK := hK.ext hk6
      have hp := hp.ext hk6
      have ht := ht.ext hk6
      have hb6 := hb6.ext hk6
      obtain rfl := hv6
      refine ow_assign rfl rfl ?_
      refine ow_assign rfl rfl ?_
      refine ow_nil ?_
      refine cw_ret ?_
      exact ⟨_, rfl, by rw [hq]; rfl, hK⟩
end Go.Proofs.YtnkjgoholocliaaGreatDoor

namespace Go.Proofs.YtnkjgoholocliaaGreatDoor
open Go

theorem lawText_ret (bs : List Bk) (hf : FitP bs) (v : Value) (La : List Nat) (w : World) (hv0 : RBks La w v bs) : Ret Tryz.prog 5 [v] w fun r w' => r = .bool true ∧ Keep [] w w' := by
  have hK := Keep.refl [] w
  refine ret_of [.tmp 2] 40 Tryz.func5 rfl nm5 rfl rfl ?_
  refine cw_seq ?_
  refine cw_region ?_
  refine ow_assign rfl rfl ?_
  refine ow_nil ?_
  refine cw_seq ?_
  refine cw_region ?_
  refine ow_assign rfl rfl ?_
  refine ow_nil ?_
  refine cw_seq ?_
  refine cw_region ?_
  refine ow_move rfl rfl ?_
  refine ow_move rfl rfl ?_
  refine ow_call rfl rfl (szP_ret bs 1048576 (by omega) hf _ La w (hv0.ext hK)) ?_
  rintro v1 w1 ⟨hv1, hk1⟩
  have hs1 := hk1.size
  have hK := hK.ext hk1
  obtain rfl := hv1
  refine ow_assign rfl rfl ?_
  refine ow_nil ?_
  refine cw_seq ?_
  refine cw_seq ?_
  refine cw_region ?_
  refine ow_move rfl rfl ?_
  refine ow_lss rfl rfl rfl rfl rfl ?_
  refine ow_nil ?_
  refine cw_cond rfl (fun h1 => ?_) (fun h1 => ?_)
  · first | replace h1 := test_t h1 | replace h1 := test_f h1 | replace h1 := test_nt h1 | replace h1 := test_nf h1 | skip
    skip
    refine cw_seq ?_
    refine cw_region ?_
    refine ow_assign rfl rfl ?_
    refine ow_nil ?_
    refine cw_ret ?_
    exact ⟨_, rfl, rfl, hK⟩
  · first | replace h1 := test_t h1 | replace h1 := test_f h1 | replace h1 := test_nt h1 | replace h1 := test_nf h1 | skip
    have hle := lft_pos h1
    have hs := szP_small hle
    have hpl := progS_len bs
    refine cw_skip ?_
    refine cw_seq ?_
    refine cw_region ?_
    refine ow_move rfl rfl ?_
    refine ow_call rfl rfl (toP_ret bs hs _ La [] w1 (hv0.ext hK) (by simp)) ?_
    rintro v2 w2 ⟨hv2, hk2⟩
    have hs2 := hk2.size
    have hK := hK.ext hk2
    have hr0 := hv2
    refine ow_call rfl rfl (SText_ret bs hs (by omega) _ [] w2 hr0) ?_
    rintro v3 w3 ⟨hv3, hk3⟩
    have hs3 := hk3.size
    have hK := hK.ext hk3
    obtain rfl := hv3
    refine ow_move rfl rfl ?_
    refine ow_extract (i := 0) rfl rfl rfl rfl ?_
    refine ow_extract (i := 1) rfl rfl rfl rfl ?_
    refine ow_assign rfl rfl ?_
    refine ow_assign rfl rfl ?_
    refine ow_nil ?_
    refine cw_seq ?_
    refine cw_region ?_
    refine ow_move rfl rfl ?_
    refine ow_call rfl rfl (toP_ret bs hs _ La [] w3 (hv0.ext hK) (by simp)) ?_
    rintro v4 w4 ⟨hv4, hk4⟩
    have hs4 := hk4.size
    have hK := hK.ext hk4
    have hr1 := hv4
    refine ow_assign rfl rfl ?_
    refine ow_nil ?_
    refine cw_seq ?_
    refine cw_region ?_
    refine ow_move rfl rfl ?_
    refine ow_call rfl rfl (IText_ret bs hs (by omega) _ [] w4 hr1) ?_
    rintro v5 w5 ⟨hv5, hk5⟩
    have hs5 := hk5.size
    have hK := hK.ext hk5
    have hr1 := hr1.ext hk5
    obtain rfl := hv5
    refine ow_move rfl rfl ?_
    refine ow_extract (i := 0) rfl rfl rfl rfl ?_
    refine ow_extract (i := 1) rfl rfl rfl rfl ?_
    refine ow_assign rfl rfl ?_
    refine ow_assign rfl rfl ?_
    refine ow_nil ?_
    refine cw_seq ?_
    refine cw_seq ?_
    refine cw_region ?_
    refine ow_move rfl rfl ?_
    refine ow_move rfl rfl ?_
    refine ow_sneq rfl rfl rfl rfl ?_
    refine ow_move rfl rfl ?_
    apply ow_or 4 30 34 [30, 31, 32, 33, 34] (fun w' => w5 = w') rfl
    · intro h2
      first | replace h2 := test_t h2 | replace h2 := test_f h2 | replace h2 := test_nt h2 | replace h2 := test_nf h2 | skip
      refine ow_skip rfl rfl ?_
      refine ow_skip rfl rfl ?_
      refine ow_skip rfl rfl ?_
      refine ow_pick rfl rfl rfl ?_
      refine ow_nil ?_
      exact ⟨by repeat (first | with_reducible exact agree_refl | refine agree_upd rfl ?_ | refine agree_hav rfl ?_), rfl, rfl⟩
    · intro h2
      first | replace h2 := test_t h2 | replace h2 := test_f h2 | replace h2 := test_nt h2 | replace h2 := test_nf h2 | skip
      skip
      refine ow_move rfl rfl ?_
      refine ow_move rfl rfl ?_
      refine ow_bneq tBool4 rfl rfl rfl rfl ?_
      refine ow_pick rfl rfl rfl ?_
      refine ow_nil ?_
      exact ⟨by repeat (first | with_reducible exact agree_refl | refine agree_upd rfl ?_ | refine agree_hav rfl ?_), rfl, rfl⟩
    · rintro xx _ rfl
      refine ow_nil ?_
      refine cw_cond rfl (fun h3 => ?_) (fun h3 => ?_)
      · first | replace h3 := test_t h3 | replace h3 := test_f h3 | replace h3 := test_nt h3 | replace h3 := test_nf h3 | skip
        simp at h3
      · first | replace h3 := test_t h3 | replace h3 := test_f h3 | replace h3 := test_nt h3 | replace h3 := test_nf h3 | skip
        skip
        refine cw_skip ?_
        refine cw_seq ?_
        refine cw_seq ?_
        refine cw_region ?_
        refine ow_move rfl rfl ?_
        refine ow_move rfl rfl ?_
        refine ow_call rfl rfl (toP_ret bs hs _ La [] w5 (hv0.ext hK) (by simp)) ?_
        rintro v6 w6 ⟨hv6, hk6⟩
        have hs6 := hk6.size
        have hK := hK.ext hk6
        have hr1 := hr1.ext hk6
        have hr2 := hv6
        refine ow_call rfl rfl (eqBlockS_ret bs hs _ _ [] [] w6 hr1 hr2) ?_
        rintro v7 w7 ⟨hv7, hk7⟩
        have hs7 := hk7.size
        have hK := hK.ext hk7
        have hr1 := hr1.ext hk7
        obtain rfl := hv7
        refine ow_not rfl rfl rfl ?_
        refine ow_nil ?_
        refine cw_cond rfl (fun h4 => ?_) (fun h4 => ?_)
        · first | replace h4 := test_t h4 | replace h4 := test_f h4 | replace h4 := test_nt h4 | replace h4 := test_nf h4 | skip
          cases h4
        · first | replace h4 := test_t h4 | replace h4 := test_f h4 | replace h4 := test_nt h4 | replace h4 := test_nf h4 | skip
          skip
          refine cw_skip ?_
          refine cw_seq ?_
          refine cw_region ?_
          refine ow_assign rfl rfl ?_
          refine ow_nil ?_
          refine cw_ret ?_
          exact ⟨_, rfl, rfl, hK⟩
end Go.Proofs.YtnkjgoholocliaaGreatDoor
