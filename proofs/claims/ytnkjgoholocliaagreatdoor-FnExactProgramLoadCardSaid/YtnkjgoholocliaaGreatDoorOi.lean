/-
  Lemmas for the law of ProgramLoad, no statement of their own: walks of texts and of the reference's ProgramFrom.
-/
import Derived.Test.YtnkjgoholocliaaGreatDoorOh
import Derived.Test.YtnkjgoholocliaaGreatDoorOc
import Derived.Lib.OthersKept
namespace Go.Proofs.YtnkjgoholocliaaGreatDoor
open Go

theorem findB1_ret (k : IBk) (l : Bytes) (b1 : Nat) (v : Value) (L : List Nat) (w : World) (hv : RIBk L w v k) (hb1 : Blk w b1 [str l].toArray 9) :
    Ret Tryz.prog 113 [v, .pointer (some ⟨b1, 0, none⟩)] w fun r w' => r = .bool (decide (k.label = l)) ∧ Keep [] w w' := by
  obtain ⟨a1, c1, a2, c2, rfl, hr1, hr2⟩ := ribk_cases hv
  have hK := Keep.refl [] w
  refine ret_of [.tmp 3] 8 Tryz.func113 rfl nm113 rfl rfl ?_
  refine zr <| ow_boxA rfl rfl rfl ?_
  intro w1 hk1 hb2 hz1
  have hK := hK.ext hk1; have hb1 := hb1.ext hk1
  refine zA <| ow_nil <| zr <| zf tF63_0 rfl <| zl tOne9 rfl (hb2.at rfl) <| zl tOne9 rfl (hb1.at rfl) <| ow_seql rfl rfl rfl rfl <| zA <| ow_nil <| cw_ret ?_
  exact ⟨_, rfl, rfl, hK⟩

theorem IndexFuncB_ret (ps : List IBk) (hlen : ps.length < 1000000000) (g : IBk → Bool) (f : FuncId) (caps : List Value) (v : Value) (L : List Nat) (w : World) (hv : RProg L w v ps)
    (hf : ∀ i, i < ps.length → ∀ (u : Value) (w' : World), Keep [] w w' → RIBk L w' u (ith ps i) → Ret Tryz.prog f (u :: caps) w' fun r w'' => r = .bool (g (ith ps i)) ∧ Keep [] w' w'') :
    Ret Tryz.prog 112 [v, .func (.func f) #[] caps.toArray] w fun r w' => r = .int .i64 (idxI ps g) ∧ Keep [] w w' := by
  obtain ⟨a, c, rfl⟩ := rprog_cases hv
  have hK := Keep.refl [] w
  refine ret_of [.tmp 4] 19 Tryz.func112 rfl nm112 rfl rfl ?_
  refine zr <| zA <| ow_nil <| cw_seq <| zr <| zm <| ow_len tSl58 rfl rfl rfl <| zm <| ow_nil <| cw_block ?_
  refine cw_loop (fun k : Nat => [(0, .slice a ps.length c), (1, .func (.func f) #[] caps.toArray), (7, .int .i64 (ps.length : Int)), (8, .int .i64 (k : Int))]) (fun k w' => Keep [] w w' ∧ k ≤ ps.length ∧ ∀ i, i < k → g (ith ps i) = false) (fun k => ps.length - k) (0) (⟨rfl, rfl, rfl, rfl⟩) (⟨hK, by omega, by intro i hi; omega⟩) ?_
  intro gg w1 e1 hI
  obtain ⟨hK, hk, hall⟩ := hI
  have hv := hv.ext hK
  refine zr <| ow_lss rfl rfl rfl rfl rfl <| ow_nil <| cw_seq <| zc rfl (fun h1 => ?_) (fun h1 => ?_)
  have hp := ith_get (ps := ps) (i := gg) (by omega)
  obtain ⟨b, off, a1, c1, a2, c2, rfl, hc, hp1, hp2⟩ := rprog_get hv hp
  refine cw_skip <| cw_seq <| cw_block <| zr <| zm <| zA <| ow_nil <| zr <| zm <| zm <| zm <| zi tSl58 tI63 rfl rfl (by omega) <| zL tAgg63 tI63 rfl (hc) (rfl) <| ow_callv rfl rfl rfl (hf gg (by omega) _ w1 hK (ribk_of hp1 hp2)) ?_
  rintro v2 w2 ⟨hv2, hk2⟩
  have hs2 := hk2.size
  have hK := hK.ext hk2
  obtain rfl := hv2
  refine ow_nil <| zc rfl (fun h2 => ?_) (fun h2 => ?_)
  have hq := idxI_at (by omega) hall h2
  refine zr <| zm <| zA <| ow_nil <| cw_ret ?_
  exact ⟨_, rfl, by rw [hq]; rfl, hK⟩
  refine cw_skip <| cw_region <| ow_add rfl rfl rfl rfl rfl (wrap_i64 _ (by omega) (by omega)) <| zm <| ow_nil ?_
  exact ⟨gg + 1, ⟨rfl, rfl, rfl, rfl⟩, ⟨hK, by omega, by intro i hi; rcases Nat.lt_or_ge i gg with h | h; exact hall i h; rw [show i = gg by omega]; exact h2⟩, by omega⟩
  have hq := idxI_no (fun i hi => hall i (by omega))
  refine cw_exit <| x_hit rfl <| zr <| zA <| ow_nil <| cw_ret ?_
  exact ⟨_, rfl, by rw [hq]; rfl, hK⟩

theorem findP_ret (ps : List IBk) (hlen : ps.length < 1000000000) (l : Bytes) (v : Value) (L : List Nat) (w : World) (hv : RProg L w v ps) :
    Ret Tryz.prog 74 [v, str l] w fun r w' => r = .int .i64 (findI ps l) ∧ Keep [] w w' := by
  have hK := Keep.refl [] w
  refine ret_of [.tmp 4] 8 Tryz.func74 rfl nm74 rfl rfl ?_
  refine zr <| ow_box1 rfl rfl rfl ?_
  intro w1 hk1 hb3 hz1
  have hK := hK.ext hk1; have hv := hv.ext hk1
  refine zA <| ow_nil <| zr <| zm <| ow_makeFunc (vs := [.pointer (some ⟨w.heap.size, 0, none⟩)]) rfl rfl rfl <| ow_call rfl rfl (IndexFuncB_ret ps hlen (fun b => decide (b.label = l)) 113 [.pointer (some ⟨w.heap.size, 0, none⟩)] _ L w1 hv (fun i hi u w' k hu => findB1_ret (ith ps i) l _ _ L _ hu (hb3.ext k))) ?_
  rintro v2 w2 ⟨hv2, hk2⟩
  have hs2 := hk2.size
  have hK := hK.ext hk2
  obtain rfl := hv2
  refine zA <| ow_nil <| cw_ret ?_
  exact ⟨_, rfl, rfl, hK⟩

def ProgPost (L : List Nat) (bs : List Bk) (v : Value) (w : World) : Prop := ∃ ps pv, v = .tuple #[pv, .bool (progI bs)] ∧ RProg L w pv ps ∧ (progI bs = true → ps = bs.map bkI)
theorem readProgram_ret (bs : List Bk) (hb : Smalls bs) (v : Value) (Li L : List Nat) (w : World) (hv : RBks Li w v bs) (hL : ∀ x, x ∈ L → x < w.heap.size) :
    Ret Tryz.prog 53 [v] w fun r w' => ProgPost L bs r w' ∧ Keep [] w w' := by
  obtain ⟨a, n, c, rfl, hn⟩ := rbks_cases hv
  have hK := Keep.refl [] w
  have hbl := hb.1
  refine ret_of [.tmp 2, .tmp 3] 52 Tryz.func53 rfl nm53 rfl rfl ?_
  refine zr <| zA <| zA <| ow_nil <| cw_seq <| zr <| zm <| ow_len tSl25 rfl rfl rfl <| ow_call rfl rfl (within_ret _ _ _ _) ?_
  rintro _ _ ⟨rfl, rfl⟩
  refine ow_not rfl rfl rfl <| ow_nil <| zc rfl (fun h1 => ?_) (fun h1 => ?_)
  have hq : progI bs = false := progI_len (fun h => by rw [decide_eq_true (p := (1 : Int) ≤ (n : Int)) (by omega), decide_eq_true (p := (n : Int) ≤ 40) (by omega)] at h1; exact absurd h1 (by decide))
  refine zr <| zA <| zA <| ow_nil <| cw_ret ?_
  exact ⟨_, rfl, ⟨[], _, by rw [hq]; rfl, rprog_nil, by rw [hq]; intro h; cases h⟩, hK⟩
  have hn40 : 1 ≤ bs.length ∧ bs.length ≤ 40 := by have := h1; simp only [Bool.and_eq_true, decide_eq_true_eq] at this; omega
  refine cw_skip <| zr <| zA <| ow_nil <| cw_seq <| zr <| zm <| ow_len tSl25 rfl rfl rfl <| zm <| ow_nil <| cw_block ?_
  refine cw_loop (fun q : Nat × Option Addr × Nat × Option Nat => [(0, .slice a n c), (4, .slice q.2.1 ((bs.take q.1).map bkI).length q.2.2.1), (13, .slice a n c), (14, .int .i64 (n : Int)), (15, .int .i64 (q.1 : Int))]) (fun q w' => Keep [] w w' ∧ Gr w.heap.size L w' 63 3 (.slice q.2.1 ((bs.take q.1).map bkI).length q.2.2.1) q.2.2.2 (((bs.take q.1).map bkI).map IBk.enc) ∧ q.1 ≤ bs.length ∧ ∀ i, i < q.1 → blockI (bth bs i) = true ∧ findZ bs (bth bs i).label = i) (fun q => bs.length - q.1) ((0, none, 0, none)) (⟨rfl, rfl, rfl, rfl, rfl⟩) (⟨hK, Gr.nil hL (by omega), by simp, by intro i hi; simp at hi⟩) ?_
  intro gg w1 e1 hI
  obtain ⟨i, a1, cc, g⟩ := gg
  dsimp only at hI ⊢
  obtain ⟨hK, hO, hk, hall⟩ := hI
  have hsz := hK.size
  refine zr <| ow_lss rfl rfl rfl rfl rfl <| ow_nil <| cw_seq <| zc rfl (fun h2 => ?_) (fun h2 => ?_)
  have hgt := bth_get (bs := bs) (i := i) (by omega)
  obtain ⟨b, off, ra, rn, rc, ca, cn, c3, rfl, hc, hrn, hcn, hs1, hs2⟩ := rbks_get hv hgt
  have hsm := hb.2 i (by omega)
  refine cw_skip <| cw_seq <| cw_block <| zr <| zi tSl25 tI55 rfl rfl (by omega) <| zL tAgg55 tI55 rfl (hc.ext hK) (rfl) <| ow_allocA tI55 rfl rfl rfl ?_
  intro w2 hk2 hb6 hz2
  have hK := hK.grow; have hK := hK.ext hk2; have hO := hO.alloc hk2 hz2
  refine ow_storeA tI55 rfl rfl rfl rfl rfl hb6 rfl ?_
  intro w3 hk3 hb6 hz3
  have hK := hK.sto hk3 (by simp <;> omega); have hO := hO.sto hk3 (by simp <;> omega)
  refine ow_nil <| zr <| zL tAgg55 tI55 rfl hb6.all rfl <| ow_call rfl rfl (readBlock_ret (bth bs i) hsm.1 hsm.2.1 hsm.2.2 _ _ (g.toList ++ (w1.heap.size :: L)) w3 (RBk.ext (rbk_of hs1 hs2) hK) hO.all) ?_
  rintro v4 w4 ⟨hv4, hk4⟩
  have hs4 := hk4.size
  have hK := hK.ext hk4; have hO := hO.ext hk4
  obtain ⟨ib, bv, rfl, ht, hp⟩ := hv4
  obtain ⟨b1a, b1c, b2a, b2c, rfl, _, _⟩ := ribk_cases ht
  refine zm <| zx (i := 0) rfl rfl <| zx (i := 1) rfl rfl <| ow_allocA tI63 rfl rfl rfl ?_
  intro w5 hk5 hb7 hz5
  have hK := hK.grow; have hK := hK.ext hk5; have hO := hO.alloc hk5 hz5; have ht := ht.grow; have ht := ht.ext hk5
  refine ow_storeA tI63 rfl rfl rfl rfl rfl hb7 rfl ?_
  intro w6 hk6 hb7 hz6
  have hK := hK.sto hk6 (by simp <;> omega); have hO := hO.sto hk6 (by simp <;> omega); have ht := ht.sto hk6 (by simp <;> omega)
  refine zA <| ow_nil <| cw_seq <| zr <| zm <| ow_not rfl rfl rfl <| zm ?_
  apply ow_or 6 26 32 [26, 27, 28, 29, 30, 31, 32] (Keep [] w6) rfl
  intro h3
  replace h3 := tst h3
  have hJ26 := Keep.refl [] w6
  refine zs <| zs <| zs <| zs <| zs <| zp rfl <| ow_nil ?_
  exact ⟨by repeat (first | with_reducible exact agree_refl | refine agree_upd rfl ?_ | refine agree_hav rfl ?_), rfl, hJ26⟩
  intro h3
  replace h3 := tst h3
  have hJ26 := Keep.refl [] w6
  have hbi : blockI (bth bs i) = true := by simpa using h3
  have hib := hp hbi
  subst hib
  refine zm <| zf tF63_0 rfl <| zl tOne9 rfl (hb7.at rfl) <| ow_call rfl rfl (findP_ret ((bs.take i).map bkI) (by rw [map_take_len _ hk]; omega) (bth bs i).label _ L w6 (hO.prog.weak (fun x hx => by simp [hx]))) ?_
  rintro v7 w7 ⟨hv7, hk7⟩
  have hs7 := hk7.size
  have hJ26 := hJ26.ext hk7
  obtain rfl := hv7
  refine ow_geq rfl rfl rfl rfl rfl <| zp rfl <| ow_nil ?_
  exact ⟨by repeat (first | with_reducible exact agree_refl | refine agree_upd rfl ?_ | refine agree_hav rfl ?_), rfl, hJ26⟩
  intro xx w8 hk8
  have hK := hK.ext hk8; have hO := hO.ext hk8; have ht := ht.ext hk8; have hb7 := hb7.ext hk8
  refine ow_nil <| zc rfl (fun h4 => ?_) (fun h4 => ?_)
  have hq : progI bs = false := progI_block (i := i) (by omega) (by simp only [Bool.or_eq_true, Bool.not_eq_true'] at h4; rcases h4 with h | h; exact .inl h; rw [findI_neg (by omega)] at h; exact .inr (of_decide_eq_true h))
  refine zr <| zA <| zA <| ow_nil <| cw_ret ?_
  exact ⟨_, rfl, ⟨[], _, by rw [hq]; rfl, rprog_nil, by rw [hq]; intro h; cases h⟩, hK⟩
  have hbi : blockI (bth bs i) = true ∧ findZ bs (bth bs i).label = i := by simp only [Bool.or_eq_false_iff, Bool.not_eq_false'] at h4; rw [findI_neg (by omega)] at h4; exact ⟨h4.1, Classical.byContradiction (of_decide_eq_false h4.2)⟩
  refine cw_skip <| cw_region <| zm <| zL tAgg63 tI63 rfl hb7.all rfl <| ow_buildSlice1 tSl58 tI63 rfl rfl rfl rfl rfl rfl rfl rfl ?_
  intro w9 hk9 hb35 hz9
  have hK := hK.ext hk9; have hO := hO.ext hk9; have ht := ht.ext hk9
  refine ow_growB tSl58 tI63 rfl rfl rfl rfl rfl rfl hO hb35 (ht.weak (fun x hx => by simp at hx ⊢; rcases hx with h | h | h <;> simp [h])) (by rw [map_take_len _ hk]; omega) ?_
  intro a3 cc3 g3 w10 hO3 hk10
  have hs1z := hk10.size
  have hK := hO.since hK hk10
  rw [hp hbi.1, map_take_snoc bkI hgt] at hO3 ⊢
  refine zA <| ow_nil <| cw_region <| ow_add rfl rfl rfl rfl rfl (wrap_i64 _ (by omega) (by omega)) <| zm <| ow_nil ?_
  exact ⟨(i + 1, a3, cc3, g3), ⟨rfl, rfl, rfl, rfl, rfl⟩, ⟨hK, hO3.weak (fun x hx => by simp [hx]), by dsimp only; omega, by intro i2 hj; rcases Nat.lt_or_ge i2 i with h | h; exact hall i2 h; rw [show i2 = i by dsimp only at hj; omega]; exact hbi⟩, by dsimp only; omega⟩
  have hq := progI_all (fun j hj => hall j (by omega))
  rw [map_take_all bkI (by omega)] at hO ⊢
  obtain ⟨b, off, r1, rc1, r2, rc2, rfl, hc, hr1, hr2⟩ := rprog_get hO.prog (ith_get (ps := bs.map bkI) (i := 0) (by simp; omega))
  have e0 : ith (bs.map bkI) 0 = bkI (bth bs 0) := by simp [List.getElem?_eq_getElem (show 0 < bs.length by omega)]
  rw [e0] at hc hr1 hr2
  refine cw_exit <| x_hit rfl <| cw_seq ?_
  refine cw_draw tMixed kept_new 16 [38, 39, 40, 41, 42, 43, 44, 45, 46, 47, 48, 49, 50, 51, 2, 3] [38, 39, 40, 41, 42, 43, 44, 45, 46, 47, 48, 49, 50, 51, 2, 3] [[], [], [1], [2], [3], [4], [5], [6], [6, 7], [6, 8], [6, 9], [6, 10], [6, 11], [6, 12], [0], [13]] [fun v _ => v = (.slice (some ⟨b, off, none⟩) (bs.map bkI).length cc), fun v _ => v = (.slice (some ⟨b, off, none⟩) (bs.map bkI).length cc), fun v _ => v = (.pointer (some ⟨b, off + 0 * 3, none⟩)), fun v _ => v = (.pointer (some ⟨b, off + 0 * 3 + 0, none⟩)), fun v _ => v = (str (bth bs 0).label), fun v _ => v = (.bool (decide ((bth bs 0).label = [109, 97, 105, 110]))), fun v _ => v = (.bool (decide ((bth bs 0).label = [109, 97, 105, 110]))), fun v _ => (decide ((bth bs 0).label = [109, 97, 105, 110])) = true → v = (.slice (some ⟨b, off, none⟩) (bs.map bkI).length cc), fun v _ => (decide ((bth bs 0).label = [109, 97, 105, 110])) = true → v = (.pointer (some ⟨b, off + 0 * 3, none⟩)), fun v _ => (decide ((bth bs 0).label = [109, 97, 105, 110])) = true → v = (.pointer (some ⟨b, off + 0 * 3 + 1, none⟩)), fun v _ => (decide ((bth bs 0).label = [109, 97, 105, 110])) = true → v = (.slice r1 (bkI (bth bs 0)).regs.length rc1), fun v _ => (decide ((bth bs 0).label = [109, 97, 105, 110])) = true → v = (.int .i64 ((bkI (bth bs 0)).regs.length : Int)), fun v _ => (decide ((bth bs 0).label = [109, 97, 105, 110])) = true → v = (.bool (decide (((bkI (bth bs 0)).regs.length : Int) = 0))), fun v _ => v = (.bool (decide ((bth bs 0).label = [109, 97, 105, 110]) && decide (((bkI (bth bs 0)).regs.length : Int) = 0))), fun v _ => v = (.slice (some ⟨b, off, none⟩) (bs.map bkI).length cc), fun v _ => v = (.bool (decide ((bth bs 0).label = [109, 97, 105, 110]) && decide (((bkI (bth bs 0)).regs.length : Int) = 0)))] (by decide) (stab_eq (stab_eq (stab_eq (stab_eq (stab_eq (stab_eq (stab_eq (stab_if (stab_if (stab_if (stab_if (stab_if (stab_if (stab_eq (stab_eq (stab_eq trivial)))))))))))))))) (fun wd hkd => ?_) ?_
  refine certs_cons ?_ ?_
  intro x vs w2 e hk2 hd he
  replace hk2 := kept_new.trans hkd hk2
  replace he : e = over (havoc _ x _) [] := he
  subst he
  refine zm <| ow_nil ?_
  exact ⟨kept_new.refl _, rfl, by first | exact agree_put | exact agree_refl⟩
  refine certs_cons ?_ ?_
  intro x vs w2 e hk2 hd he
  replace hk2 := kept_new.trans hkd hk2
  replace he : e = over (havoc _ x _) [] := he
  subst he
  refine zm <| ow_nil ?_
  exact ⟨kept_new.refl _, rfl, by first | exact agree_put | exact agree_refl⟩
  refine certs_cons ?_ ?_
  intro x vs w2 e hk2 hd he
  have d1 : vs 1 = (.slice (some ⟨b, off, none⟩) (bs.map bkI).length cc) := hd
  replace hk2 := kept_new.trans hkd hk2
  replace he : e = over (havoc _ x _) [(39, vs 1)] := he
  rw [d1] at he
  subst he
  refine zi (i := 0) tSl58 tI63 rfl rfl (by simp; omega) <| ow_nil ?_
  exact ⟨kept_new.refl _, rfl, by first | exact agree_put | exact agree_refl⟩
  refine certs_cons ?_ ?_
  intro x vs w2 e hk2 hd he
  have d2 : vs 2 = (.pointer (some ⟨b, off + 0 * 3, none⟩)) := hd
  replace hk2 := kept_new.trans hkd hk2
  replace he : e = over (havoc _ x _) [(40, vs 2)] := he
  rw [d2] at he
  subst he
  refine zf tF63_0 rfl <| ow_nil ?_
  exact ⟨kept_new.refl _, rfl, by first | exact agree_put | exact agree_refl⟩
  refine certs_cons ?_ ?_
  intro x vs w2 e hk2 hd he
  have d3 : vs 3 = (.pointer (some ⟨b, off + 0 * 3 + 0, none⟩)) := hd
  replace hk2 := kept_new.trans hkd hk2
  have hc := hc.ext hk2
  replace he : e = over (havoc _ x _) [(41, vs 3)] := he
  rw [d3] at he
  subst he
  refine zl tOne9 rfl (hc 0 _ rfl) <| ow_nil ?_
  exact ⟨kept_new.refl _, rfl, by first | exact agree_put | exact agree_refl⟩
  refine certs_cons ?_ ?_
  intro x vs w2 e hk2 hd he
  have d4 : vs 4 = (str (bth bs 0).label) := hd
  replace hk2 := kept_new.trans hkd hk2
  replace he : e = over (havoc _ x _) [(42, vs 4)] := he
  rw [d4] at he
  subst he
  refine ow_seql rfl rfl rfl rfl <| ow_nil ?_
  exact ⟨kept_new.refl _, rfl, by first | exact agree_put | exact agree_refl⟩
  refine certs_cons ?_ ?_
  intro x vs w2 e hk2 hd he
  have d5 : vs 5 = (.bool (decide ((bth bs 0).label = [109, 97, 105, 110]))) := hd
  replace hk2 := kept_new.trans hkd hk2
  replace he : e = over (havoc _ x _) [(43, vs 5)] := he
  rw [d5] at he
  subst he
  refine zm <| ow_nil ?_
  exact ⟨kept_new.refl _, rfl, by first | exact agree_put | exact agree_refl⟩
  refine certs_cons ?_ ?_
  intro x vs w2 e hk2 hd he
  have d6 : vs 6 = (.bool (decide ((bth bs 0).label = [109, 97, 105, 110]))) := hd
  replace hk2 := kept_new.trans hkd hk2
  rcases Bool.eq_false_or_eq_true (decide ((bth bs 0).label = [109, 97, 105, 110])) with hg | hg
  rw [hg] at d6
  replace he : e = over (havoc _ x _) [(44, vs 6)] := he
  rw [d6] at he
  subst he
  refine zm <| ow_nil ?_
  exact ⟨kept_new.refl _, (show (decide ((bth bs 0).label = [109, 97, 105, 110])) = true → _ = ((.slice (some ⟨b, off, none⟩) (bs.map bkI).length cc) : Value) from fun _ => rfl), by first | exact agree_put | exact agree_refl⟩
  rw [hg] at d6
  replace he : e = over (havoc _ x _) [(44, vs 6)] := he
  rw [d6] at he
  subst he
  refine zs <| ow_nil ?_
  exact ⟨kept_new.refl _, (show (decide ((bth bs 0).label = [109, 97, 105, 110])) = true → _ = (_ : Value) from fun hh => nomatch hg.symm.trans hh), by first | exact agree_put | exact agree_refl⟩
  refine certs_cons ?_ ?_
  intro x vs w2 e hk2 hd he
  obtain ⟨d6, d7⟩ : (vs 6 = (.bool (decide ((bth bs 0).label = [109, 97, 105, 110])))) ∧ ((decide ((bth bs 0).label = [109, 97, 105, 110])) = true → vs 7 = (.slice (some ⟨b, off, none⟩) (bs.map bkI).length cc)) := hd
  replace hk2 := kept_new.trans hkd hk2
  rcases Bool.eq_false_or_eq_true (decide ((bth bs 0).label = [109, 97, 105, 110])) with hg | hg
  rw [hg] at d6
  replace d7 := d7 hg
  replace he : e = over (havoc _ x _) [(44, vs 6), (45, vs 7)] := he
  rw [d6, d7] at he
  subst he
  refine zi (i := 0) tSl58 tI63 rfl rfl (by simp; omega) <| ow_nil ?_
  exact ⟨kept_new.refl _, (show (decide ((bth bs 0).label = [109, 97, 105, 110])) = true → _ = ((.pointer (some ⟨b, off + 0 * 3, none⟩)) : Value) from fun _ => rfl), by first | exact agree_put | exact agree_refl⟩
  rw [hg] at d6
  replace he : e = over (havoc _ x _) [(44, vs 6), (45, vs 7)] := he
  rw [d6] at he
  subst he
  refine zs <| ow_nil ?_
  exact ⟨kept_new.refl _, (show (decide ((bth bs 0).label = [109, 97, 105, 110])) = true → _ = (_ : Value) from fun hh => nomatch hg.symm.trans hh), by first | exact agree_put | exact agree_refl⟩
  refine certs_cons ?_ ?_
  intro x vs w2 e hk2 hd he
  obtain ⟨d6, d8⟩ : (vs 6 = (.bool (decide ((bth bs 0).label = [109, 97, 105, 110])))) ∧ ((decide ((bth bs 0).label = [109, 97, 105, 110])) = true → vs 8 = (.pointer (some ⟨b, off + 0 * 3, none⟩))) := hd
  replace hk2 := kept_new.trans hkd hk2
  rcases Bool.eq_false_or_eq_true (decide ((bth bs 0).label = [109, 97, 105, 110])) with hg | hg
  rw [hg] at d6
  replace d8 := d8 hg
  replace he : e = over (havoc _ x _) [(44, vs 6), (46, vs 8)] := he
  rw [d6, d8] at he
  subst he
  refine zf tF63_1 rfl <| ow_nil ?_
  exact ⟨kept_new.refl _, (show (decide ((bth bs 0).label = [109, 97, 105, 110])) = true → _ = ((.pointer (some ⟨b, off + 0 * 3 + 1, none⟩)) : Value) from fun _ => rfl), by first | exact agree_put | exact agree_refl⟩
  rw [hg] at d6
  replace he : e = over (havoc _ x _) [(44, vs 6), (46, vs 8)] := he
  rw [d6] at he
  subst he
  refine zs <| ow_nil ?_
  exact ⟨kept_new.refl _, (show (decide ((bth bs 0).label = [109, 97, 105, 110])) = true → _ = (_ : Value) from fun hh => nomatch hg.symm.trans hh), by first | exact agree_put | exact agree_refl⟩
  refine certs_cons ?_ ?_
  intro x vs w2 e hk2 hd he
  obtain ⟨d6, d9⟩ : (vs 6 = (.bool (decide ((bth bs 0).label = [109, 97, 105, 110])))) ∧ ((decide ((bth bs 0).label = [109, 97, 105, 110])) = true → vs 9 = (.pointer (some ⟨b, off + 0 * 3 + 1, none⟩))) := hd
  replace hk2 := kept_new.trans hkd hk2
  have hc := hc.ext hk2
  rcases Bool.eq_false_or_eq_true (decide ((bth bs 0).label = [109, 97, 105, 110])) with hg | hg
  rw [hg] at d6
  replace d9 := d9 hg
  replace he : e = over (havoc _ x _) [(44, vs 6), (47, vs 9)] := he
  rw [d6, d9] at he
  subst he
  refine zl tOne61 rfl (hc 1 _ rfl) <| ow_nil ?_
  exact ⟨kept_new.refl _, (show (decide ((bth bs 0).label = [109, 97, 105, 110])) = true → _ = ((.slice r1 (bkI (bth bs 0)).regs.length rc1) : Value) from fun _ => rfl), by first | exact agree_put | exact agree_refl⟩
  rw [hg] at d6
  replace he : e = over (havoc _ x _) [(44, vs 6), (47, vs 9)] := he
  rw [d6] at he
  subst he
  refine zs <| ow_nil ?_
  exact ⟨kept_new.refl _, (show (decide ((bth bs 0).label = [109, 97, 105, 110])) = true → _ = (_ : Value) from fun hh => nomatch hg.symm.trans hh), by first | exact agree_put | exact agree_refl⟩
  refine certs_cons ?_ ?_
  intro x vs w2 e hk2 hd he
  obtain ⟨d6, d10⟩ : (vs 6 = (.bool (decide ((bth bs 0).label = [109, 97, 105, 110])))) ∧ ((decide ((bth bs 0).label = [109, 97, 105, 110])) = true → vs 10 = (.slice r1 (bkI (bth bs 0)).regs.length rc1)) := hd
  replace hk2 := kept_new.trans hkd hk2
  rcases Bool.eq_false_or_eq_true (decide ((bth bs 0).label = [109, 97, 105, 110])) with hg | hg
  rw [hg] at d6
  replace d10 := d10 hg
  replace he : e = over (havoc _ x _) [(44, vs 6), (48, vs 10)] := he
  rw [d6, d10] at he
  subst he
  refine ow_len tSl61 rfl rfl rfl <| ow_nil ?_
  exact ⟨kept_new.refl _, (show (decide ((bth bs 0).label = [109, 97, 105, 110])) = true → _ = ((.int .i64 ((bkI (bth bs 0)).regs.length : Int)) : Value) from fun _ => rfl), by first | exact agree_put | exact agree_refl⟩
  rw [hg] at d6
  replace he : e = over (havoc _ x _) [(44, vs 6), (48, vs 10)] := he
  rw [d6] at he
  subst he
  refine zs <| ow_nil ?_
  exact ⟨kept_new.refl _, (show (decide ((bth bs 0).label = [109, 97, 105, 110])) = true → _ = (_ : Value) from fun hh => nomatch hg.symm.trans hh), by first | exact agree_put | exact agree_refl⟩
  refine certs_cons ?_ ?_
  intro x vs w2 e hk2 hd he
  obtain ⟨d6, d11⟩ : (vs 6 = (.bool (decide ((bth bs 0).label = [109, 97, 105, 110])))) ∧ ((decide ((bth bs 0).label = [109, 97, 105, 110])) = true → vs 11 = (.int .i64 ((bkI (bth bs 0)).regs.length : Int))) := hd
  replace hk2 := kept_new.trans hkd hk2
  rcases Bool.eq_false_or_eq_true (decide ((bth bs 0).label = [109, 97, 105, 110])) with hg | hg
  rw [hg] at d6
  replace d11 := d11 hg
  replace he : e = over (havoc _ x _) [(44, vs 6), (49, vs 11)] := he
  rw [d6, d11] at he
  subst he
  refine ow_eql rfl rfl rfl rfl rfl <| ow_nil ?_
  exact ⟨kept_new.refl _, (show (decide ((bth bs 0).label = [109, 97, 105, 110])) = true → _ = ((.bool (decide (((bkI (bth bs 0)).regs.length : Int) = 0))) : Value) from fun _ => rfl), by first | exact agree_put | exact agree_refl⟩
  rw [hg] at d6
  replace he : e = over (havoc _ x _) [(44, vs 6), (49, vs 11)] := he
  rw [d6] at he
  subst he
  refine zs <| ow_nil ?_
  exact ⟨kept_new.refl _, (show (decide ((bth bs 0).label = [109, 97, 105, 110])) = true → _ = (_ : Value) from fun hh => nomatch hg.symm.trans hh), by first | exact agree_put | exact agree_refl⟩
  refine certs_cons ?_ ?_
  intro x vs w2 e hk2 hd he
  obtain ⟨d6, d12⟩ : (vs 6 = (.bool (decide ((bth bs 0).label = [109, 97, 105, 110])))) ∧ ((decide ((bth bs 0).label = [109, 97, 105, 110])) = true → vs 12 = (.bool (decide (((bkI (bth bs 0)).regs.length : Int) = 0)))) := hd
  replace hk2 := kept_new.trans hkd hk2
  rcases Bool.eq_false_or_eq_true (decide ((bth bs 0).label = [109, 97, 105, 110])) with hg | hg
  rw [hg] at d6
  replace d12 := d12 hg
  replace he : e = over (havoc _ x _) [(44, vs 6), (50, vs 12)] := he
  rw [d6, d12] at he
  subst he
  refine zp rfl <| ow_nil ?_
  exact ⟨kept_new.refl _, by first | rfl | (rw [hg]; rfl), by first | exact agree_put | exact agree_refl⟩
  rw [hg] at d6
  replace he : e = over (havoc _ x _) [(44, vs 6), (50, vs 12)] := he
  rw [d6] at he
  subst he
  refine zp rfl <| ow_nil ?_
  exact ⟨kept_new.refl _, by first | rfl | (rw [hg]; rfl), by first | exact agree_put | exact agree_refl⟩
  refine certs_cons ?_ ?_
  intro x vs w2 e hk2 hd he
  have d0 : vs 0 = (.slice (some ⟨b, off, none⟩) (bs.map bkI).length cc) := hd
  replace hk2 := kept_new.trans hkd hk2
  replace he : e = over (havoc _ x _) [(38, vs 0)] := he
  rw [d0] at he
  subst he
  refine zA <| ow_nil ?_
  exact ⟨kept_new.refl _, rfl, by first | exact agree_put | exact agree_refl⟩
  refine certs_cons ?_ ?_
  intro x vs w2 e hk2 hd he
  have d13 : vs 13 = (.bool (decide ((bth bs 0).label = [109, 97, 105, 110]) && decide (((bkI (bth bs 0)).regs.length : Int) = 0))) := hd
  replace hk2 := kept_new.trans hkd hk2
  replace he : e = over (havoc _ x _) [(51, vs 13)] := he
  rw [d13] at he
  subst he
  refine zA <| ow_nil ?_
  exact ⟨kept_new.refl _, rfl, by first | exact agree_put | exact agree_refl⟩
  exact trivial
  intro x vs w41 hk41 hdraw
  have d0 : vs 0 = (.slice (some ⟨b, off, none⟩) (bs.map bkI).length cc) := hdraw 0 (by decide)
  have d1 : vs 1 = (.slice (some ⟨b, off, none⟩) (bs.map bkI).length cc) := hdraw 1 (by decide)
  have d2 : vs 2 = (.pointer (some ⟨b, off + 0 * 3, none⟩)) := hdraw 2 (by decide)
  have d3 : vs 3 = (.pointer (some ⟨b, off + 0 * 3 + 0, none⟩)) := hdraw 3 (by decide)
  have d4 : vs 4 = (str (bth bs 0).label) := hdraw 4 (by decide)
  have d5 : vs 5 = (.bool (decide ((bth bs 0).label = [109, 97, 105, 110]))) := hdraw 5 (by decide)
  have d6 : vs 6 = (.bool (decide ((bth bs 0).label = [109, 97, 105, 110]))) := hdraw 6 (by decide)
  have d7 : (decide ((bth bs 0).label = [109, 97, 105, 110])) = true → vs 7 = (.slice (some ⟨b, off, none⟩) (bs.map bkI).length cc) := hdraw 7 (by decide)
  have d8 : (decide ((bth bs 0).label = [109, 97, 105, 110])) = true → vs 8 = (.pointer (some ⟨b, off + 0 * 3, none⟩)) := hdraw 8 (by decide)
  have d9 : (decide ((bth bs 0).label = [109, 97, 105, 110])) = true → vs 9 = (.pointer (some ⟨b, off + 0 * 3 + 1, none⟩)) := hdraw 9 (by decide)
  have d10 : (decide ((bth bs 0).label = [109, 97, 105, 110])) = true → vs 10 = (.slice r1 (bkI (bth bs 0)).regs.length rc1) := hdraw 10 (by decide)
  have d11 : (decide ((bth bs 0).label = [109, 97, 105, 110])) = true → vs 11 = (.int .i64 ((bkI (bth bs 0)).regs.length : Int)) := hdraw 11 (by decide)
  have d12 : (decide ((bth bs 0).label = [109, 97, 105, 110])) = true → vs 12 = (.bool (decide (((bkI (bth bs 0)).regs.length : Int) = 0))) := hdraw 12 (by decide)
  have d13 : vs 13 = (.bool (decide ((bth bs 0).label = [109, 97, 105, 110]) && decide (((bkI (bth bs 0)).regs.length : Int) = 0))) := hdraw 13 (by decide)
  have d14 : vs 14 = (.slice (some ⟨b, off, none⟩) (bs.map bkI).length cc) := hdraw 14 (by decide)
  have d15 : vs 15 = (.bool (decide ((bth bs 0).label = [109, 97, 105, 110]) && decide (((bkI (bth bs 0)).regs.length : Int) = 0))) := hdraw 15 (by decide)
  have hK := hK.ext hk41; have hO := hO.ext hk41
  change OW _ _ _ _ [] (over (havoc _ x _) [(38, vs 0), (39, vs 1), (40, vs 2), (41, vs 3), (42, vs 4), (43, vs 5), (44, vs 6), (45, vs 7), (46, vs 8), (47, vs 9), (48, vs 10), (49, vs 11), (50, vs 12), (51, vs 13), (2, vs 14), (3, vs 15)]) _
  rw [d0, d1, d2, d3, d4, d5, d6, d13, d14, d15]
  refine ow_nil <| cw_ret <| ⟨_, rfl, ⟨bs.map bkI, _, ?_, hO.prog.weak (fun x hx => by simp [hx]), fun _ => rfl⟩, hK⟩
  rw [hq, decide_eq_true hn40.1, decide_eq_true hn40.2, show decide (((bkI (bth bs 0)).regs.length : Int) = 0) = decide ((bth bs 0).needs.length = 0) from decide_eq_decide.2 (by have : (bkI (bth bs 0)).regs.length = (bth bs 0).needs.length := List.length_map _; omega)]
  rfl

theorem ProgramValidI_ret (bs : List Bk) (hb : Smalls bs) (v : Value) (Li : List Nat) (w : World) (hv : RBks Li w v bs) :
    Ret Tryz.prog 62 [v] w fun r w' => r = .bool (progI bs) ∧ Keep [] w w' := by
  have hK := Keep.refl [] w
  refine ret_of [.tmp 2] 11 Tryz.func62 rfl nm62 rfl rfl ?_
  refine zr <| zA <| ow_nil <| zr <| zm <| ow_call rfl rfl (readProgram_ret bs hb _ Li [] w hv (by simp)) ?_
  rintro v1 w1 ⟨hv1, hk1⟩
  have hs1 := hk1.size
  have hK := hK.ext hk1
  obtain ⟨ps, pv, rfl, hp, hpe⟩ := hv1
  refine zm <| zx (i := 0) rfl rfl <| zx (i := 1) rfl rfl <| zA <| zA <| ow_nil <| zr <| zm <| zA <| ow_nil <| cw_ret ?_
  exact ⟨_, rfl, rfl, hK⟩
end Go.Proofs.YtnkjgoholocliaaGreatDoor

namespace Go.Proofs.YtnkjgoholocliaaGreatDoor
open Go

/-- A builder of this call's own. -/
def Bd (B b : Nat) (l : Bytes) (w : World) : Prop := Lib.IsBuilderF 118 5 B b (Lib.byteCells l) w
theorem Bd.ext {B b : Nat} {l : Bytes} {w w' : World} (h : Bd B b l w) (k : Keep [] w w') : Bd B b l w' := by
  have cell : ∀ {i : Nat} {o : Obj}, w.heap[i]? = some o → w'.heap[i]? = some o := fun {i o} hi => (k.block i (Array.getElem?_eq_some_iff.1 hi).1 (by simp)).trans hi
  have key : ∀ p, Lib.BuilderAtF 118 5 B b p (Lib.byteCells l) w → Lib.BuilderAtF 118 5 B b p (Lib.byteCells l) w' := by
    rintro p ⟨hB, v, hb, hown, hne⟩
    refine ⟨hB, v, cell hb, ⟨hown.1, ?_⟩, hne⟩
    rcases hown.2 with h | ⟨g, cap, cur, fz, h1, h2, h3, h4⟩
    · exact .inl h
    · exact .inr ⟨g, cap, cur, fz, h1, h2, cell h3, h4⟩
  exact h.imp (key _) (key _)
/-- What a builder's work leaves alone. -/
structure Fr (B b : Nat) (w w' : World) : Prop where
  below : RowKit.Below B w w'
  others : Lib.OthersKept 5 (some b) w w'
theorem Fr.trans {B b : Nat} {w w' w'' : World} (h : Fr B b w w') (k : Fr B b w' w'') : Fr B b w w'' := ⟨h.below.trans k.below, h.others.trans k.others⟩
theorem Fr.of {B b : Nat} {w w' : World} (h : Keep [] w w') (hB : B ≤ w.heap.size) : Fr B b w w' :=
  ⟨h.below hB (by simp), fun k o hk _ _ => (h.block k (Array.getElem?_eq_some_iff.1 hk).1 (by simp)).trans hk⟩
theorem Fr.keep {w0 w w' : World} {b : Nat} (k : Fr w0.heap.size b w w') (h : Keep [] w0 w) : Keep [] w0 w' := keep_of_below h k.below
theorem Blk.others {w w' : World} {B b c : Nat} {cs : Array Value} {T : TypeId} (h : Blk w c cs T) (k : Fr B b w w') (hc : c ≠ b) (hT : T ≠ 5) : Blk w' c cs T :=
  k.others c _ h (by simpa using hc) (by intro c' fz he; cases he; exact hT rfl)
theorem writeS_ret (B b : Nat) (l s : Bytes) (w : World) (h : Bd B b l w) (hlen : l.length + s.length ≤ 140737488355328) (hBw : B ≤ w.heap.size) :
    Ret Tryz.prog 141 [.pointer (some ⟨b, 0, none⟩), str s] w fun _ w' => Bd B b (l ++ s) w' ∧ Fr B b w w' :=
  ⟨Callable.mk' Tryz.func141 rfl nm141, Calls.mono (Tryz.Builder_WriteString_k B b _ ⟨s.toArray⟩ w h (by rw [Lib.byteCells_length]; simpa [ByteArray.size] using hlen) hBw) fun _ _ ⟨he, hb, hk, ho⟩ => ⟨_, he, .inr (by have e1 : Lib.byteCells (l ++ s) = Lib.byteCells l ++ Lib.strCells ⟨s.toArray⟩ := by { simp [Lib.byteCells, Lib.strCells] }; rw [e1]; exact hb), hk, ho⟩⟩
theorem writeB_ret (B b : Nat) (l : Bytes) (c : Nat) (hc : c < 256) (w : World) (h : Bd B b l w) (hlen : l.length + 1 ≤ 140737488355328) (hBw : B ≤ w.heap.size) :
    Ret Tryz.prog 142 [.pointer (some ⟨b, 0, none⟩), .int .u8 (c : Int)] w fun _ w' => Bd B b (l ++ [UInt8.ofNat c]) w' ∧ Fr B b w w' :=
  ⟨Callable.mk' Tryz.func142 rfl nm142, Calls.mono (Tryz.Builder_WriteByte_k B b _ (c : Int) w h (by rw [Lib.byteCells_length]; exact hlen) hBw) fun _ _ ⟨he, hb, hk, ho⟩ => ⟨_, he, .inr (by have e1 : Lib.byteCells (l ++ [UInt8.ofNat c]) = Lib.byteCells l ++ [.int .u8 (c : Int)] := by { simp [Lib.byteCells]; omega }; rw [e1]; exact hb), hk, ho⟩⟩
theorem bString_ret (B b : Nat) (l : Bytes) (w : World) (h : Bd B b l w) (hBw : B ≤ w.heap.size) :
    Ret Tryz.prog 109 [.pointer (some ⟨b, 0, none⟩)] w fun v w' => v = str l ∧ RowKit.Below B w w' :=
  ⟨Callable.mk' Tryz.func109 rfl nm109, Calls.mono (Tryz.Builder_String_any_f B b l w h hBw) fun _ _ ⟨he, hb, hk⟩ => ⟨_, he, rfl, hk⟩⟩

theorem write_ret : ∀ (m : Nat) (t : Tree), t.size ≤ m → WF t → ∀ (v : Value) (L : List Nat) (w0 w : World) (b : Nat) (l : Bytes), RTree L w0 v t → Keep [] w0 w → b < w.heap.size → Bd w0.heap.size b l w → l.length + t.text.length ≤ 1000000000 → t.size ≤ 1000000000 →
    Ret Tryz.prog 108 [v, .pointer (some ⟨b, 0, none⟩)] w fun r w' => r = .tuple #[] ∧ Bd w0.heap.size b (l ++ t.text) w' ∧ Fr w0.heap.size b w w' := by
  intro m
  induction m with
  | zero => intro t h hwf; have := wf_size hwf; omega
  | succ m ih =>
    intro t hm hwf v L w0 w b l hv hK hbw hBd hlen hts
    have hv0 := hv
    obtain ⟨a, n, c, rfl, hn, hps⟩ := rtree_cases hv
    subst hn
    have hpl := parts_le t
    have hKl := Keep.refl [] w
    have hbs := hK.size
    refine ret_of [] 32 Tryz.func108 rfl nm108 rfl rfl ?_
    refine zr <| ow_boxA rfl rfl rfl ?_
    intro w1 hk1 hb2 hz1
    have hK := hK.ext hk1; have hKl := hKl.ext hk1
    refine ow_nil <| cw_seq <| zr <| zL tAgg73 tI73 rfl hb2.all rfl <| ow_call rfl rfl (isAtom_ret t _ L w1 (hv0.ext hK)) ?_
    rintro v2 w2 ⟨hv2, hk2⟩
    have hs2 := hk2.size
    have hK := hK.ext hk2; have hKl := hKl.ext hk2; have hb2 := hb2.ext hk2
    obtain rfl := hv2
    refine ow_nil <| zc rfl (fun h1 => ?_) (fun h1 => ?_)
    have hte := text_leaf hwf h1
    refine zr <| zm <| zf tF73_0 rfl <| zl tOne9 rfl (hb2.at rfl) <| ow_call rfl rfl (writeS_ret w0.heap.size b l t.atom w2 (hBd.ext hKl) (by rw [← hte]; omega) (by have := hK.size; omega)) ?_
    rintro _ w3 ⟨hBd2, hF⟩
    refine ow_nil <| cw_ret ?_
    exact ⟨_, rfl, rfl, by rw [hte]; exact hBd2, (Fr.of hKl hbs).trans hF⟩
    have hbd2 := hBd.ext hKl
    have hF := Fr.of (b := b) hKl hbs
    have hb2n : w.heap.size ≠ b := by omega
    refine cw_skip <| cw_seq <| zr <| zf tF73_1 rfl <| zl tOne61 rfl (hb2.at rfl) <| ow_len tSl61 rfl rfl rfl <| zm <| ow_nil <| cw_block ?_
    refine cw_loop (fun k : Nat => [(1, .pointer (some ⟨b, 0, none⟩)), (2, .pointer (some ⟨w.heap.size, 0, none⟩)), (13, .slice a t.parts.length c), (14, .int .i64 (t.parts.length : Int)), (15, .int .i64 (k : Int))]) (fun k w' => Keep [] w0 w' ∧ Bd w0.heap.size b (l ++ pre (t.parts.take k)) w' ∧ Fr w0.heap.size b w w' ∧ k ≤ t.parts.length ∧ w.heap.size ≤ w'.heap.size) (fun k => t.parts.length - k) (0) (⟨rfl, rfl, rfl, rfl, rfl⟩) (⟨hK, by simpa [pre] using hbd2, hF, by omega, hKl.size⟩) ?_
    intro gg w3 e3 hI
    obtain ⟨hK, hBd, hF, hk, hsz⟩ := hI
    clear hKl hbd2
    refine zr <| ow_lss rfl rfl rfl rfl rfl <| ow_nil <| cw_seq <| zc rfl (fun h2 => ?_) (fun h2 => ?_)
    have hgt := nth_get (ps := t.parts) (i := gg) (by omega)
    obtain ⟨b1, off1, pa, pn, pc, rfl, hcc, hpn, hpp⟩ := rtrees_get hps hgt
    subst hpn
    have hwp := hwf.nth (i := gg) (by omega)
    have hsp := nth_size (t := t) (i := gg) (by omega)
    have hple := pre_le hwf hk
    have hple2 := pre_le hwf (k := gg + 1) (by omega)
    have hps2 := pre_step (ps := t.parts) (k := gg) (by omega)
    have hll := congrArg List.length hps2
    rw [List.length_append, List.length_cons] at hll
    refine cw_skip <| cw_seq <| cw_block <| zr <| zm ?_
    have hKl := Keep.refl [] w3
    refine zi tSl61 tI73 rfl rfl (by omega) <| zL tAgg73 tI73 rfl (hcc.ext hK) (rfl) <| ow_allocA tI73 rfl rfl rfl ?_
    intro w4 hk4 hb5 hz4
    have hK := hK.grow; have hK := hK.ext hk4; have hKl := hKl.grow; have hKl := hKl.ext hk4
    refine zA <| ow_storeA tI73 rfl rfl rfl rfl rfl hb5 rfl ?_
    intro w5 hk5 hb5 hz5
    have hK := hK.sto hk5 (by simp <;> omega); have hKl := hKl.sto hk5 (by simp <;> omega)
    refine ow_nil <| cw_seq <| zr <| zm <| ow_eql rfl rfl rfl rfl rfl <| ow_nil ?_
    refine cw_cut (fun _ : Unit => [(1, .pointer (some ⟨b, 0, none⟩)), (2, .pointer (some ⟨w.heap.size, 0, none⟩)), (5, .pointer (some ⟨w3.heap.size, 0, none⟩)), (13, .slice (some ⟨b1, off1, none⟩) t.parts.length c), (14, .int .i64 (t.parts.length : Int)), (15, .int .i64 (gg : Int))]) (fun _ w' => Keep [] w0 w' ∧ Bd w0.heap.size b (l ++ pre (t.parts.take gg) ++ [if gg = 0 then 40 else 32]) w' ∧ Fr w0.heap.size b w w' ∧ w.heap.size ≤ w'.heap.size ∧ Blk w' w3.heap.size [str (nth t.parts gg).atom, .slice pa (nth t.parts gg).parts.length pc].toArray 73) ?_ ?_
    refine zc rfl (fun h3 => ?_) (fun h3 => ?_)
    have hg0 : gg = 0 := by omega
    refine cw_region <| zm <| ow_call rfl rfl (writeB_ret w0.heap.size b _ 40 (by decide) w5 (hBd.ext hKl) (by simp; omega) (by have := hK.size; omega)) ?_
    rintro _ w6 ⟨hBd2, hF2⟩
    have hs2 := hF2.below.size
    refine ow_nil ?_
    exact ⟨(), ⟨rfl, rfl, rfl, rfl, rfl, rfl⟩, hF2.keep hK, by rw [if_pos hg0]; exact hBd2, (hF.trans (Fr.of hKl (by have := hF.below.size; omega))).trans hF2, by have := hKl.size; omega, hb5.others hF2 (by omega) (by decide)⟩
    have hg0 : ¬ gg = 0 := by omega
    refine cw_region <| zm <| ow_call rfl rfl (writeB_ret w0.heap.size b _ 32 (by decide) w5 (hBd.ext hKl) (by simp; omega) (by have := hK.size; omega)) ?_
    rintro _ w6 ⟨hBd2, hF2⟩
    have hs2 := hF2.below.size
    refine ow_nil ?_
    exact ⟨(), ⟨rfl, rfl, rfl, rfl, rfl, rfl⟩, hF2.keep hK, by rw [if_neg hg0]; exact hBd2, (hF.trans (Fr.of hKl (by have := hF.below.size; omega))).trans hF2, by have := hKl.size; omega, hb5.others hF2 (by omega) (by decide)⟩
    intro gu w7 e7 hI
    clear hK hBd hF hb5 hKl
    obtain ⟨hK, hBd, hF, hsz2, hb5⟩ := hI
    refine cw_region <| zL tAgg73 tI73 rfl hb5.all rfl <| zm <| ow_call rfl rfl (ih (nth t.parts gg) (by omega) hwp _ L w0 w7 b _ (rtree_of hpp) hK (by omega) hBd (by simp; omega) (by omega)) ?_
    rintro _ w8 ⟨rfl, hBd2, hF2⟩
    have hs2 := hF2.below.size
    have hK := hF2.keep hK
    refine ow_nil <| cw_region <| ow_add rfl rfl rfl rfl rfl (wrap_i64 _ (by omega) (by omega)) <| zm <| ow_nil ?_
    exact ⟨gg + 1, ⟨rfl, rfl, rfl, rfl, rfl⟩, ⟨hK, by rw [hps2]; simpa using hBd2, hF.trans hF2, by omega, by omega⟩, by omega⟩
    have hgl : gg = t.parts.length := by omega
    have hfin := pre_all hwf (by omega)
    have hfl := congrArg List.length hfin
    rw [List.length_append] at hfl
    subst hgl
    refine cw_exit <| x_hit rfl <| cw_region <| zm <| ow_call rfl rfl (writeB_ret w0.heap.size b _ 41 (by decide) w3 hBd (by simp at hfl ⊢; omega) (by have := hK.size; omega)) ?_
    rintro _ w4 ⟨hBd2, hF2⟩
    refine ow_nil ?_
    exact ⟨_, rfl, rfl, by rw [← hfin, ← List.append_assoc]; exact hBd2, hF.trans hF2⟩
end Go.Proofs.YtnkjgoholocliaaGreatDoor

namespace Go.Proofs.YtnkjgoholocliaaGreatDoor
open Go

theorem text_ret (t : Tree) (hwf : WF t) (hts : t.size ≤ 100000000) (hl : t.text.length ≤ 100000000) (v : Value) (L : List Nat) (w : World) (hv : RTree L w v t) :
    Ret Tryz.prog 68 [v] w fun r w' => r = str t.text ∧ Keep [] w w' := by
  have hv0 := hv
  obtain ⟨a, n, c, rfl, hn, hps⟩ := rtree_cases hv
  have hK := Keep.refl [] w
  refine ret_of [.tmp 2] 7 Tryz.func68 rfl nm68 rfl rfl ?_
  refine zr <| ow_boxA rfl rfl rfl ?_
  intro w1 hk1 hb1 hz1
  refine zA <| ow_nil <| zr <| ow_allocA tI118 rfl rfl rfl ?_
  intro w2 hk2 hb3 hz2
  have hb1 := hb1.ext hk2
  refine ow_nil <| zr <| zL tAgg73 tI73 rfl hb1.all rfl <| ow_call rfl rfl (write_ret t.size t (Nat.le_refl _) hwf _ L w1 w2 w1.heap.size [] (hv0.ext hk1) hk2 (by omega) (.inl ⟨Nat.le_refl _, _, hb3, ⟨rfl, .inl ⟨rfl, rfl⟩⟩, by simp [Value.ownBlock]⟩) (by simp; omega) (by omega)) ?_
  rintro _ w3 ⟨rfl, hBd, hF⟩
  refine ow_nil <| zr <| ow_call rfl rfl (bString_ret w1.heap.size w1.heap.size _ w3 hBd (by have := hF.below.size; omega)) ?_
  rintro _ w4 ⟨rfl, hk4⟩
  refine zA <| ow_nil <| cw_ret ?_
  exact ⟨_, rfl, rfl, hk1.trans (keep_of_below (hF.keep hk2) hk4)⟩

theorem texts_ret (ts : List Tree) (h : Slim ts) (v : Value) (L : List Nat) (w : World) (hv : RTrees L w v ts) :
    Ret Tryz.prog 61 [v] w fun r w' => (∃ a n c g, r = .slice a n c ∧ n = ts.length ∧ OStr w' 9 (.slice a n c) g (ts.map Tree.text) ∧ (∀ b, g = some b → w.heap.size ≤ b) ∧ (ts = [] → g = none)) ∧ Keep [] w w' := by
  obtain ⟨a, c, rfl⟩ := rtrees_cases hv
  have hK := Keep.refl [] w
  have hl := h.1
  refine ret_of [.tmp 2] 19 Tryz.func61 rfl nm61 rfl rfl ?_
  refine zr <| zA <| ow_nil <| zr <| zA <| ow_nil <| cw_seq <| zr <| zm <| ow_len tSl61 rfl rfl rfl <| zm <| ow_nil <| cw_block ?_
  refine cw_loop (fun q : Nat × Option Addr × Nat × Option Nat => [(3, .slice q.2.1 ((ts.take q.1).map Tree.text).length q.2.2.1), (6, .slice a ts.length c), (7, .int .i64 (ts.length : Int)), (8, .int .i64 (q.1 : Int))]) (fun q w' => Keep [] w w' ∧ Gr w.heap.size [] w' 9 1 (.slice q.2.1 ((ts.take q.1).map Tree.text).length q.2.2.1) q.2.2.2 (strsC ((ts.take q.1).map Tree.text)) ∧ q.1 ≤ ts.length ∧ (q.1 = 0 → q.2.2.2 = none)) (fun q => ts.length - q.1) ((0, none, 0, none)) (⟨rfl, rfl, rfl, rfl⟩) (⟨hK, Gr.nil (by simp) (by omega), by simp, fun _ => rfl⟩) ?_
  intro gg w1 e1 hI
  obtain ⟨i, a3, cc, g⟩ := gg
  dsimp only at hI ⊢
  obtain ⟨hK, hO, hk, hg0⟩ := hI
  have hsz := hK.size
  refine zr <| ow_lss rfl rfl rfl rfl rfl <| ow_nil <| cw_seq <| zc rfl (fun h1 => ?_) (fun h1 => ?_)
  have hgt := nth_get (ps := ts) (i := i) (by omega)
  obtain ⟨b1, off1, pa, pn, pc, rfl, hcc, hpn, hpp⟩ := rtrees_get hv hgt
  obtain ⟨hwf, hs1, hs2⟩ := h.2 (nth ts i) (List.mem_of_getElem? hgt)
  refine cw_skip <| cw_seq <| cw_block <| zr <| zi tSl61 tI73 rfl rfl (by omega) <| zL tAgg73 tI73 rfl (hcc.ext hK) (rfl) <| ow_allocA tI73 rfl rfl rfl ?_
  intro w2 hk2 hb5 hz2
  have hK := hK.grow; have hK := hK.ext hk2; have hO := hO.alloc hk2 hz2
  refine ow_storeA tI73 rfl rfl rfl rfl rfl hb5 rfl ?_
  intro w3 hk3 hb5 hz3
  have hK := hK.sto hk3 (by simp <;> omega); have hO := hO.sto hk3 (by simp <;> omega)
  refine ow_nil <| cw_region <| zm <| zL tAgg73 tI73 rfl hb5.all rfl <| ow_call rfl rfl (text_ret (nth ts i) hwf hs1 hs2 _ L w3 ((rtree_of hpp).ext hK)) ?_
  rintro v4 w4 ⟨hv4, hk4⟩
  have hs4 := hk4.size
  have hK := hK.ext hk4; have hO := hO.ext hk4
  obtain rfl := hv4
  refine ow_buildSlice1 tSl35 tI9 rfl rfl rfl rfl rfl rfl rfl rfl ?_
  intro w5 hk5 hb15 hz5
  have hK := hK.ext hk5; have hO := hO.ext hk5
  refine ow_growS tSl35 tI9 rfl rfl rfl rfl rfl rfl hO hb15 (by rw [map_take_len _ hk]; omega) ?_
  intro a4 cc4 g4 w6 hO3 hk6
  have hK := hO.since hK hk6
  rw [map_take_snoc Tree.text hgt] at hO3 ⊢
  refine zA <| ow_nil <| cw_region <| ow_add rfl rfl rfl rfl rfl (wrap_i64 _ (by omega) (by omega)) <| zm <| ow_nil ?_
  exact ⟨(i + 1, a4, cc4, g4), ⟨rfl, rfl, rfl, rfl⟩, ⟨hK, hO3.weak (by simp), by dsimp only; omega, by dsimp only; intro h; omega⟩, by dsimp only; omega⟩
  rw [map_take_all Tree.text (by omega)] at hO ⊢
  refine cw_exit <| x_hit rfl <| zr <| zm <| zA <| ow_nil <| cw_ret ?_
  exact ⟨_, rfl, ⟨_, _, _, g, rfl, List.length_map _, hO.ostr, hO.low, fun h => hg0 (by rw [h] at hk; simp at hk; omega)⟩, hK⟩
end Go.Proofs.YtnkjgoholocliaaGreatDoor

namespace Go.Proofs.YtnkjgoholocliaaGreatDoor
open Go

theorem l1Text_ret : ∀ (m : Nat) (t : Tree), t.size ≤ m → WF t → t.size ≤ 100000000 → t.text.length ≤ 100000000 → ∀ (v : Value) (L : List Nat) (w : World), RTree L w v t →
    Ret Tryz.prog 139 [v] w fun r w' => r = str t.text ∧ Keep [] w w' := by
  intro m
  induction m with
  | zero => intro t h hwf; have := wf_size hwf; omega
  | succ m ih =>
    intro t hm hwf hts htl v L w hv
    obtain ⟨a, n, c, rfl, hn, hps⟩ := rtree_cases hv
    subst hn
    have hpl := parts_le t
    have hK := Keep.refl [] w
    refine ret_of [.tmp 2] 31 Tryz.func139 rfl nm139 rfl rfl ?_
    refine zr <| ow_boxA rfl rfl rfl ?_
    intro w1 hk1 hb1 hz1
    have hK := hK.ext hk1
    refine zA <| ow_nil <| cw_seq <| zr <| zf tF67_0 rfl <| zl tOne9 rfl (hb1.at rfl) <| ow_sneq rfl rfl rfl rfl <| ow_nil <| zc rfl (fun h1 => ?_) (fun h1 => ?_)
    have ht := text_leaf hwf (by rw [hwf.leaf h1]; rfl)
    refine zr <| zf tF67_0 rfl <| zl tOne9 rfl (hb1.at rfl) <| zA <| ow_nil <| cw_ret ?_
    exact ⟨_, rfl, show str _ = str _ from congrArg _ ht.symm, hK⟩
    have ha : t.atom = [] := Classical.not_not.1 h1
    refine cw_skip <| zr <| zA <| ow_nil <| cw_seq <| zr <| zA <| ow_nil <| cw_block ?_
    refine cw_loop (fun k : Nat => [(1, .pointer (some ⟨w.heap.size, 0, none⟩)), (3, str (pre2 (t.parts.take k))), (4, .int .i64 (k : Int))]) (fun k w' => Keep [] w w' ∧ Blk w' w.heap.size [str t.atom, .slice a t.parts.length c].toArray 67 ∧ k ≤ t.parts.length) (fun k => t.parts.length - k) (0) (⟨rfl, rfl, rfl⟩) (⟨hK, hb1, by omega⟩) ?_
    intro gg w2 e2 hI
    obtain ⟨hK, hb1, hk⟩ := hI
    refine cw_seq <| zr <| zm <| zf tF67_1 rfl <| zl tOne65 rfl (hb1.at rfl) <| ow_len tSl65 rfl rfl rfl <| ow_lss rfl rfl rfl rfl rfl <| ow_nil <| zc rfl (fun h2 => ?_) (fun h2 => ?_)
    have hgt := nth_get (ps := t.parts) (i := gg) (by omega)
    obtain ⟨b1, off1, pa, pn, pc, rfl, hcc, hpn, hpp⟩ := rtrees_get hps hgt
    subst hpn
    have hwp := hwf.nth (i := gg) (by omega)
    have hsp := nth_size (t := t) (i := gg) (by omega)
    have hp1 := pre2_le hwf ha hk
    have hp2 := pre2_le hwf ha (k := gg + 1) (by omega)
    have hst := pre2_step (ps := t.parts) (k := gg) (by omega)
    have hlen := congrArg List.length hst
    rw [List.length_append] at hlen
    refine cw_skip <| cw_seq <| cw_block <| cw_seq <| zr <| zm <| ow_gtr rfl rfl rfl rfl rfl <| ow_nil ?_
    refine cw_cut (fun _ : Unit => [(1, .pointer (some ⟨w.heap.size, 0, none⟩)), (3, str (pre2 (t.parts.take gg) ++ (if gg = 0 then [] else [32]))), (4, .int .i64 (gg : Int))]) (fun _ w' => w' = w2) ?_ ?_
    refine zc rfl (fun h3 => ?_) (fun h3 => ?_)
    have hg0 : ¬ gg = 0 := by omega
    refine cw_region <| zm <| ow_sadd rfl rfl rfl rfl (by simp; omega) <| zA <| ow_nil ?_
    exact ⟨(), ⟨rfl, by rw [if_neg hg0]; rfl, rfl⟩, rfl⟩
    have hg0 : gg = 0 := by omega
    refine cw_skip ?_
    exact ⟨(), ⟨rfl, by rw [if_pos hg0, List.append_nil]; rfl, rfl⟩, rfl⟩
    intro gu w3 e3 hI
    obtain rfl := hI
    refine cw_region <| zm <| zf tF67_1 rfl <| zl tOne65 rfl (hb1.at rfl) <| zm <| zi tSl65 tI67 rfl rfl (by omega) <| zL tAgg67 tI67 rfl (hcc.ext hK) (rfl) <| ow_call rfl rfl (ih (nth t.parts gg) (by omega) hwp (by omega) (by omega) _ L w3 ((rtree_of hpp).ext hK)) ?_
    rintro v4 w4 ⟨hv4, hk4⟩
    have hs4 := hk4.size
    have hK := hK.ext hk4; have hb1 := hb1.ext hk4
    obtain rfl := hv4
    refine ow_sadd rfl rfl rfl rfl (by omega) <| zA <| ow_nil <| cw_region <| zm <| ow_add rfl rfl rfl rfl rfl (wrap_i64 _ (by omega) (by omega)) <| zA <| ow_nil ?_
    exact ⟨gg + 1, ⟨rfl, by rw [hst]; rfl, rfl⟩, ⟨hK, hb1, by omega⟩, by omega⟩
    have hgl : gg = t.parts.length := by omega
    have hfin := pre2_all hwf ha
    have hp1 := pre2_le hwf ha hk
    subst hgl
    refine cw_exit <| x_hit rfl <| zr <| zm <| ow_sadd rfl rfl rfl rfl (by simp at hp1 ⊢; omega) <| zA <| ow_nil <| cw_ret ?_
    exact ⟨_, rfl, show str _ = str _ from congrArg _ hfin, hK⟩

theorem l6tWords_ret (ts : List Tree) (h : Slim ts) (v : Value) (L Lr : List Nat) (w : World) (hv : RTrees L w v ts) (hL : ∀ x, x ∈ Lr → x < w.heap.size) :
    Ret Tryz.prog 103 [v] w fun r w' => (∃ a n c, r = .slice a n c ∧ RStrs Lr w' (.slice a n c) (ts.map Tree.text)) ∧ Keep [] w w' := by
  obtain ⟨a, c, rfl⟩ := rtrees_cases hv
  have hK := Keep.refl [] w
  have hl := h.1
  refine ret_of [.tmp 2] 21 Tryz.func103 rfl nm103 rfl rfl ?_
  refine zr <| zA <| ow_nil <| zr <| ow_buildSlice0 w.heap.size Lr tSl35 tI9 rfl rfl (Nat.le_refl _) hL ?_
  intro w1 hk1 hz1 hO
  refine zA <| ow_nil <| cw_seq <| zr <| zA <| ow_nil <| cw_block ?_
  have hK := hK.ext hk1
  refine cw_loop (fun q : Nat × Option Addr × Nat × Option Nat => [(0, .slice a ts.length c), (3, .slice q.2.1 ((ts.take q.1).map Tree.text).length q.2.2.1), (4, .int .i64 (q.1 : Int))]) (fun q w' => Keep [] w w' ∧ Gr w.heap.size Lr w' 9 1 (.slice q.2.1 ((ts.take q.1).map Tree.text).length q.2.2.1) q.2.2.2 (strsC ((ts.take q.1).map Tree.text)) ∧ q.1 ≤ ts.length) (fun q => ts.length - q.1) ((0, _, _, _)) (⟨rfl, rfl, rfl⟩) (⟨hK, hO, by simp⟩) ?_
  intro gg w2 e2 hI
  obtain ⟨i, a3, cc, g⟩ := gg
  dsimp only at hI ⊢
  obtain ⟨hK, hO, hk⟩ := hI
  have hsz := hK.size
  refine cw_seq <| zr <| zm <| zm <| ow_len tSl65 rfl rfl rfl <| ow_lss rfl rfl rfl rfl rfl <| ow_nil <| zc rfl (fun h1 => ?_) (fun h1 => ?_)
  have hgt := nth_get (ps := ts) (i := i) (by omega)
  obtain ⟨b1, off1, pa, pn, pc, rfl, hcc, hpn, hpp⟩ := rtrees_get hv hgt
  obtain ⟨hwf, hs1, hs2⟩ := h.2 (nth ts i) (List.mem_of_getElem? hgt)
  refine cw_skip <| cw_seq <| cw_block <| cw_region <| zm <| zm <| zm <| zi tSl65 tI67 rfl rfl (by omega) <| zL tAgg67 tI67 rfl (hcc.ext hK) (rfl) <| ow_call rfl rfl (l1Text_ret (nth ts i).size (nth ts i) (Nat.le_refl _) hwf hs1 hs2 _ L w2 ((rtree_of hpp).ext hK)) ?_
  rintro v3 w3 ⟨hv3, hk3⟩
  have hs3 := hk3.size
  have hK := hK.ext hk3; have hO := hO.ext hk3
  obtain rfl := hv3
  refine ow_buildSlice1 tSl35 tI9 rfl rfl rfl rfl rfl rfl rfl rfl ?_
  intro w4 hk4 hb18 hz4
  have hK := hK.ext hk4; have hO := hO.ext hk4
  refine ow_growS tSl35 tI9 rfl rfl rfl rfl rfl rfl hO hb18 (by rw [map_take_len _ hk]; omega) ?_
  intro a4 cc4 g4 w5 hO3 hk5
  have hK := hO.since hK hk5
  rw [map_take_snoc Tree.text hgt] at hO3 ⊢
  refine zA <| ow_nil <| cw_region <| zm <| ow_add rfl rfl rfl rfl rfl (wrap_i64 _ (by omega) (by omega)) <| zA <| ow_nil ?_
  exact ⟨(i + 1, a4, cc4, g4), ⟨rfl, rfl, rfl⟩, ⟨hK, hO3, by dsimp only; omega⟩, by dsimp only; omega⟩
  rw [map_take_all Tree.text (by omega)] at hO ⊢
  refine cw_exit <| x_hit rfl <| zr <| zm <| zA <| ow_nil <| cw_ret ?_
  exact ⟨_, rfl, ⟨_, _, _, rfl, hO.done⟩, hK⟩

theorem l9Block_ret (u : Tree) (hf : Fine u) (hg : Good u) (v : Value) (L Lr : List Nat) (w : World) (hv : RTree L w v u) (hL : ∀ x, x ∈ Lr → x < w.heap.size) :
    Ret Tryz.prog 57 [v] w fun r w' => RBk Lr w' r (bkOf? u) ∧ Keep [] w w' := by
  have hv0 := hv
  obtain ⟨a, n, c, rfl, hn, hps⟩ := rtree_cases hv
  have hK := Keep.refl [] w
  refine ret_gen [.cell 2 55] 49 Tryz.func57 rfl nm57 rfl rfl rfl ?_
  refine zr <| ow_boxA rfl rfl rfl ?_
  intro w1 hk1 hb1 hz1
  have hK := hK.ext hk1; have hv0 := hv0.ext hk1
  refine ow_allocA tI55 rfl rfl rfl ?_
  intro w2 hk2 hb2 hz2
  have hK := hK.grow; have hK := hK.ext hk2; have hv0 := hv0.grow; have hv0 := hv0.ext hk2; have hb1 := hb1.grow; have hb1 := hb1.ext hk2
  refine ow_nil <| cw_seq <| zr <| zL tAgg67 tI67 rfl hb1.all rfl <| ow_call rfl rfl (l4Head_ret u _ _ w2 hv0) ?_
  rintro v3 w3 ⟨hv3, hk3⟩
  have hs3 := hk3.size
  have hK := hK.ext hk3; have hb1 := hb1.ext hk3; have hb2 := hb2.ext hk3
  obtain rfl := hv3
  refine ow_sneq rfl rfl rfl rfl <| zm ?_
  apply ow_or 5 6 11 [6, 7, 8, 9, 10, 11] (fun w' => w3 = w') rfl
  intro h1
  replace h1 := tst h1
  refine zs <| zs <| zs <| zs <| zp rfl <| ow_nil ?_
  exact ⟨by repeat (first | with_reducible exact agree_refl | refine agree_upd rfl ?_ | refine agree_hav rfl ?_), rfl, rfl⟩
  intro h1
  replace h1 := tst h1
  skip
  refine zf tF67_1 rfl <| zl tOne65 rfl (hb1.at rfl) <| ow_len tSl65 rfl rfl rfl <| ow_neq rfl rfl rfl rfl rfl <| zp rfl <| ow_nil ?_
  exact ⟨by repeat (first | with_reducible exact agree_refl | refine agree_upd rfl ?_ | refine agree_hav rfl ?_), rfl, rfl⟩
  rintro xx _ rfl
  refine zm ?_
  apply ow_or 7 12 19 [12, 13, 14, 15, 16, 17, 18, 19] (Keep [] w3) rfl
  intro h2
  replace h2 := tst h2
  have hJ12 := Keep.refl [] w3
  refine zs <| zs <| zs <| zs <| zs <| zs <| zp rfl <| ow_nil ?_
  exact ⟨by repeat (first | with_reducible exact agree_refl | refine agree_upd rfl ?_ | refine agree_hav rfl ?_), rfl, hJ12⟩
  intro h2
  replace h2 := tst h2
  have hJ12 := Keep.refl [] w3
  have hn4 : n = 4 := by simp at h2; omega
  obtain ⟨b, off, q2a, q2n, q2c, rfl, hc2, hq2n, hq2⟩ := rtrees_get hps (nth_get (ps := u.parts) (i := 2) (by omega))
  refine zf tF67_1 rfl <| zl tOne65 rfl (hb1.at rfl) <| zi (i := 2) tSl65 tI67 rfl rfl (by omega) <| zL tAgg67 tI67 rfl (hc2.ext hK) (rfl) <| ow_call rfl rfl (l4Head_ret (nth u.parts 2) _ L w3 (RTree.ext (rtree_of hq2) hK)) ?_
  rintro v4 w4 ⟨hv4, hk4⟩
  have hs4 := hk4.size
  have hJ12 := hJ12.ext hk4
  obtain rfl := hv4
  refine ow_sneq rfl rfl rfl rfl <| zp rfl <| ow_nil ?_
  exact ⟨by repeat (first | with_reducible exact agree_refl | refine agree_upd rfl ?_ | refine agree_hav rfl ?_), rfl, hJ12⟩
  intro xx w5 hk5
  have hK := hK.ext hk5; have hb1 := hb1.ext hk5; have hb2 := hb2.ext hk5
  refine zm ?_
  apply ow_or 7 20 27 [20, 21, 22, 23, 24, 25, 26, 27] (Keep [] w5) rfl
  intro h3
  replace h3 := tst h3
  have hJ20 := Keep.refl [] w5
  refine zs <| zs <| zs <| zs <| zs <| zs <| zp rfl <| ow_nil ?_
  exact ⟨by repeat (first | with_reducible exact agree_refl | refine agree_upd rfl ?_ | refine agree_hav rfl ?_), rfl, hJ20⟩
  intro h3
  replace h3 := tst h3
  have hJ20 := Keep.refl [] w5
  have hn4 : n = 4 := by simp at h3; omega
  obtain ⟨b, off, q3a, q3n, q3c, rfl, hc3, hq3n, hq3⟩ := rtrees_get hps (nth_get (ps := u.parts) (i := 3) (by omega))
  refine zf tF67_1 rfl <| zl tOne65 rfl (hb1.at rfl) <| zi (i := 3) tSl65 tI67 rfl rfl (by omega) <| zL tAgg67 tI67 rfl (hc3.ext hK) (rfl) <| ow_call rfl rfl (l4Head_ret (nth u.parts 3) _ L w5 (RTree.ext (rtree_of hq3) hK)) ?_
  rintro v6 w6 ⟨hv6, hk6⟩
  have hs6 := hk6.size
  have hJ20 := hJ20.ext hk6
  obtain rfl := hv6
  refine ow_sneq rfl rfl rfl rfl <| zp rfl <| ow_nil ?_
  exact ⟨by repeat (first | with_reducible exact agree_refl | refine agree_upd rfl ?_ | refine agree_hav rfl ?_), rfl, hJ20⟩
  intro xx w7 hk7
  have hK := hK.ext hk7; have hb1 := hb1.ext hk7; have hb2 := hb2.ext hk7
  refine ow_nil <| zc rfl (fun h4 => ?_) (fun h4 => ?_)
  rw [isBlkT_z hn] at h4
  have hb : isBlkT u = false := by simpa using h4
  refine zr <| ow_build (tB55_ _) rfl rfl <| ow_storeA tI55 rfl rfl rfl rfl rfl hb2 rfl ?_
  intro w8 hk8 hb2 hz8
  have hK := hK.sto hk8 (by simp <;> omega)
  refine ow_nil <| cw_ret ?_
  exact ⟨[_], resultAt_blk tAgg55 tI55 rfl hb2 rfl, by rw [bkOf?_no hb]; exact rbk_of (b := nob) rstrs_nil rstrs_nil, hK⟩
  rw [isBlkT_z hn] at h4
  have hb : isBlkT u = true := by simpa using h4
  have h4 := isBlkT_len hb
  subst hn
  obtain ⟨b, off, q1a, q1n, q1c, rfl, hc1, hq1n, hq1⟩ := rtrees_get hps (nth_get (ps := u.parts) (i := 1) (by omega))
  obtain ⟨b2, off2, q2a, q2n, q2c, he2, hc2, hq2n, hq2⟩ := rtrees_get hps (nth_get (ps := u.parts) (i := 2) (by omega))
  cases he2
  obtain ⟨b3, off3, q3a, q3n, q3c, he3, hc3, hq3n, hq3⟩ := rtrees_get hps (nth_get (ps := u.parts) (i := 3) (by omega))
  cases he3
  have hd2 : headOf (nth u.parts 2) = [114, 101, 103, 115] := by unfold isBlkT at hb; simp only [Bool.and_eq_true, decide_eq_true_eq] at hb; exact hb.1.2
  have hd3 : headOf (nth u.parts 3) = [99, 111, 100, 101] := by unfold isBlkT at hb; simp only [Bool.and_eq_true, decide_eq_true_eq] at hb; exact hb.2
  have hp2 : 0 < (nth u.parts 2).parts.length := Nat.pos_of_ne_zero fun h => by rw [headOf_no (.inr (List.length_eq_zero_iff.1 h))] at hd2; cases hd2
  have hp3 : 0 < (nth u.parts 3).parts.length := Nat.pos_of_ne_zero fun h => by rw [headOf_no (.inr (List.length_eq_zero_iff.1 h))] at hd3; cases hd3
  obtain ⟨b4, off4, _, _, _, rfl, _, _, _⟩ := rtrees_get hq2 (nth_get (ps := (nth u.parts 2).parts) (i := 0) hp2)
  obtain ⟨b5, off5, _, _, _, rfl, _, _, _⟩ := rtrees_get hq3 (nth_get (ps := (nth u.parts 3).parts) (i := 0) hp3)
  have hS2 := slim_drop (hf.nth (i := 2) hg (by omega)) (hg.nth (i := 2) (by omega)) 1
  have hS3 := slim_drop (hf.nth (i := 3) hg (by omega)) (hg.nth (i := 3) (by omega)) 1
  refine cw_skip <| cw_seq ?_
  refine cw_draw tMixed kept_new 20 [29, 30, 31, 32, 33, 34, 35, 36, 37, 38, 39, 40, 41, 42, 43, 44, 45, 46, 47, 48] [29, 30, 31, 32, 33, 34, 35, 36, 37, 38, 39, 40, 41, 42, 43, 44, 45, 46, 47, 48] [[], [0], [1], [2], [3], [], [5], [6], [7], [8], [9], [10], [], [12], [13], [14], [15], [16], [17], [4, 11, 18]] [fun v _ => v = (.pointer (some ⟨w.heap.size, 0 + 1, none⟩)), fun v _ => v = (.slice (some ⟨b, off, none⟩) u.parts.length c), fun v _ => v = (.pointer (some ⟨b, off + 1 * 2, none⟩)), fun v _ => v = (.pointer (some ⟨b, off + 1 * 2 + 0, none⟩)), fun v _ => v = (str (nth u.parts 1).atom), fun v _ => v = (.pointer (some ⟨w.heap.size, 0 + 1, none⟩)), fun v _ => v = (.slice (some ⟨b, off, none⟩) u.parts.length c), fun v _ => v = (.pointer (some ⟨b, off + 2 * 2, none⟩)), fun v _ => v = (.pointer (some ⟨b, off + 2 * 2 + 1, none⟩)), fun v _ => v = (.slice (some ⟨b4, off4, none⟩) q2n q2c), fun (v : Value) (ww : World) => RTrees L ww v ((nth u.parts 2).parts.drop 1), fun (v : Value) (ww : World) => ∃ a n c, v = .slice a n c ∧ RStrs (w1.heap.size :: Lr) ww (.slice a n c) (((nth u.parts 2).parts.drop 1).map Tree.text), fun v _ => v = (.pointer (some ⟨w.heap.size, 0 + 1, none⟩)), fun v _ => v = (.slice (some ⟨b, off, none⟩) u.parts.length c), fun v _ => v = (.pointer (some ⟨b, off + 3 * 2, none⟩)), fun v _ => v = (.pointer (some ⟨b, off + 3 * 2 + 1, none⟩)), fun v _ => v = (.slice (some ⟨b5, off5, none⟩) q3n q3c), fun (v : Value) (ww : World) => RTrees L ww v ((nth u.parts 3).parts.drop 1), fun (v : Value) (ww : World) => ∃ a n c, v = .slice a n c ∧ RStrs (w1.heap.size :: Lr) ww (.slice a n c) (((nth u.parts 3).parts.drop 1).map Tree.text), fun (v : Value) (ww : World) => ∃ a1 n1 c1 a2 n2 c2, v = .agg #[str (nth u.parts 1).atom, .slice a1 n1 c1, .slice a2 n2 c2] ∧ RStrs (w1.heap.size :: Lr) ww (.slice a1 n1 c1) (((nth u.parts 2).parts.drop 1).map Tree.text) ∧ RStrs (w1.heap.size :: Lr) ww (.slice a2 n2 c2) (((nth u.parts 3).parts.drop 1).map Tree.text)] (by decide) (stab_eq (stab_eq (stab_eq (stab_eq (stab_eq (stab_eq (stab_eq (stab_eq (stab_eq (stab_eq (stab_gen (fun v w w' h k => RTrees.ext h k) (stab_gen (fun v w w' ⟨a, n, c, e, h⟩ k => ⟨a, n, c, e, RStrs.ext h k⟩) (stab_eq (stab_eq (stab_eq (stab_eq (stab_eq (stab_gen (fun v w w' h k => RTrees.ext h k) (stab_gen (fun v w w' ⟨a, n, c, e, h⟩ k => ⟨a, n, c, e, RStrs.ext h k⟩) (stab_gen (fun v w w' ⟨a1, n1, c1, a2, n2, c2, e, h1, h2⟩ k => ⟨a1, n1, c1, a2, n2, c2, e, RStrs.ext h1 k, RStrs.ext h2 k⟩) trivial)))))))))))))))))))) (fun wd hkd => ?_) ?_
  refine certs_cons ?_ ?_
  intro x vs w8 e hk8 hd he
  replace hk8 := kept_new.trans hkd hk8
  replace he : e = over (havoc _ x _) [] := he
  subst he
  refine zf tF67_1 rfl <| ow_nil ?_
  exact ⟨kept_new.refl _, rfl, by first | exact agree_put | exact agree_refl⟩
  refine certs_cons ?_ ?_
  intro x vs w8 e hk8 hd he
  have d0 : vs 0 = (.pointer (some ⟨w.heap.size, 0 + 1, none⟩)) := hd
  replace hk8 := kept_new.trans hkd hk8
  have hb1 := hb1.ext hk8
  replace he : e = over (havoc _ x _) [(29, vs 0)] := he
  rw [d0] at he
  subst he
  refine zl tOne65 rfl (hb1.at rfl) <| ow_nil ?_
  exact ⟨kept_new.refl _, rfl, by first | exact agree_put | exact agree_refl⟩
  refine certs_cons ?_ ?_
  intro x vs w8 e hk8 hd he
  have d1 : vs 1 = (.slice (some ⟨b, off, none⟩) u.parts.length c) := hd
  replace hk8 := kept_new.trans hkd hk8
  replace he : e = over (havoc _ x _) [(30, vs 1)] := he
  rw [d1] at he
  subst he
  refine zi (i := 1) tSl65 tI67 rfl rfl (by omega) <| ow_nil ?_
  exact ⟨kept_new.refl _, rfl, by first | exact agree_put | exact agree_refl⟩
  refine certs_cons ?_ ?_
  intro x vs w8 e hk8 hd he
  have d2 : vs 2 = (.pointer (some ⟨b, off + 1 * 2, none⟩)) := hd
  replace hk8 := kept_new.trans hkd hk8
  replace he : e = over (havoc _ x _) [(31, vs 2)] := he
  rw [d2] at he
  subst he
  refine zf tF67_0 rfl <| ow_nil ?_
  exact ⟨kept_new.refl _, rfl, by first | exact agree_put | exact agree_refl⟩
  refine certs_cons ?_ ?_
  intro x vs w8 e hk8 hd he
  have d3 : vs 3 = (.pointer (some ⟨b, off + 1 * 2 + 0, none⟩)) := hd
  replace hk8 := kept_new.trans hkd hk8
  have hK := hK.ext hk8
  replace he : e = over (havoc _ x _) [(32, vs 3)] := he
  rw [d3] at he
  subst he
  refine zl tOne9 rfl (hc1.ext hK 0 _ rfl) <| ow_nil ?_
  exact ⟨kept_new.refl _, rfl, by first | exact agree_put | exact agree_refl⟩
  refine certs_cons ?_ ?_
  intro x vs w8 e hk8 hd he
  replace hk8 := kept_new.trans hkd hk8
  replace he : e = over (havoc _ x _) [] := he
  subst he
  refine zf tF67_1 rfl <| ow_nil ?_
  exact ⟨kept_new.refl _, rfl, by first | exact agree_put | exact agree_refl⟩
  refine certs_cons ?_ ?_
  intro x vs w8 e hk8 hd he
  have d5 : vs 5 = (.pointer (some ⟨w.heap.size, 0 + 1, none⟩)) := hd
  replace hk8 := kept_new.trans hkd hk8
  have hb1 := hb1.ext hk8
  replace he : e = over (havoc _ x _) [(34, vs 5)] := he
  rw [d5] at he
  subst he
  refine zl tOne65 rfl (hb1.at rfl) <| ow_nil ?_
  exact ⟨kept_new.refl _, rfl, by first | exact agree_put | exact agree_refl⟩
  refine certs_cons ?_ ?_
  intro x vs w8 e hk8 hd he
  have d6 : vs 6 = (.slice (some ⟨b, off, none⟩) u.parts.length c) := hd
  replace hk8 := kept_new.trans hkd hk8
  replace he : e = over (havoc _ x _) [(35, vs 6)] := he
  rw [d6] at he
  subst he
  refine zi (i := 2) tSl65 tI67 rfl rfl (by omega) <| ow_nil ?_
  exact ⟨kept_new.refl _, rfl, by first | exact agree_put | exact agree_refl⟩
  refine certs_cons ?_ ?_
  intro x vs w8 e hk8 hd he
  have d7 : vs 7 = (.pointer (some ⟨b, off + 2 * 2, none⟩)) := hd
  replace hk8 := kept_new.trans hkd hk8
  replace he : e = over (havoc _ x _) [(36, vs 7)] := he
  rw [d7] at he
  subst he
  refine zf tF67_1 rfl <| ow_nil ?_
  exact ⟨kept_new.refl _, rfl, by first | exact agree_put | exact agree_refl⟩
  refine certs_cons ?_ ?_
  intro x vs w8 e hk8 hd he
  have d8 : vs 8 = (.pointer (some ⟨b, off + 2 * 2 + 1, none⟩)) := hd
  replace hk8 := kept_new.trans hkd hk8
  have hK := hK.ext hk8
  replace he : e = over (havoc _ x _) [(37, vs 8)] := he
  rw [d8] at he
  subst he
  refine zl tOne65 rfl (hc2.ext hK 1 _ rfl) <| ow_nil ?_
  exact ⟨kept_new.refl _, rfl, by first | exact agree_put | exact agree_refl⟩
  refine certs_cons ?_ ?_
  intro x vs w8 e hk8 hd he
  have d9 : vs 9 = (.slice (some ⟨b4, off4, none⟩) q2n q2c) := hd
  replace hk8 := kept_new.trans hkd hk8
  have hK := hK.ext hk8
  replace he : e = over (havoc _ x _) [(38, vs 9)] := he
  rw [d9] at he
  subst he
  refine ow_slice_from (l := 1) tSl65 tI67 rfl rfl rfl rfl (by omega) (RTrees.ext hq2 hK) ?_
  intro vs1 hvs
  refine ow_nil ?_
  exact ⟨kept_new.refl _, (show RTrees L _ vs1 _ from by rw [RTrees, encs_drop]; exact hvs), by first | exact agree_put | exact agree_refl⟩
  refine certs_cons ?_ ?_
  intro x vs w8 e hk8 hd he
  have d10 : (fun (v : Value) (ww : World) => RTrees L ww v ((nth u.parts 2).parts.drop 1)) (vs 10) w8 := hd
  replace hk8 := kept_new.trans hkd hk8
  have hK := hK.ext hk8; have hb2 := hb2.ext hk8
  replace he : e = over (havoc _ x _) [(39, vs 10)] := he
  subst he
  refine ow_call rfl rfl (l6tWords_ret _ hS2 _ L (w1.heap.size :: Lr) w8 d10 (by intro x hx; rcases List.mem_cons.1 hx with rfl | hx; exact hb2.lt; have := hL x hx; have := hK.size; omega)) ?_
  rintro v9 w9 ⟨hv9, hk9⟩
  have hs9 := hk9.size
  obtain ⟨a7, n7, c7, rfl, hs7⟩ := hv9
  refine ow_nil ?_
  exact ⟨kept_new.of hk9, ⟨a7, n7, c7, rfl, hs7⟩, by first | exact agree_put | exact agree_refl⟩
  refine certs_cons ?_ ?_
  intro x vs w8 e hk8 hd he
  replace hk8 := kept_new.trans hkd hk8
  replace he : e = over (havoc _ x _) [] := he
  subst he
  refine zf tF67_1 rfl <| ow_nil ?_
  exact ⟨kept_new.refl _, rfl, by first | exact agree_put | exact agree_refl⟩
  refine certs_cons ?_ ?_
  intro x vs w8 e hk8 hd he
  have d12 : vs 12 = (.pointer (some ⟨w.heap.size, 0 + 1, none⟩)) := hd
  replace hk8 := kept_new.trans hkd hk8
  have hb1 := hb1.ext hk8
  replace he : e = over (havoc _ x _) [(41, vs 12)] := he
  rw [d12] at he
  subst he
  refine zl tOne65 rfl (hb1.at rfl) <| ow_nil ?_
  exact ⟨kept_new.refl _, rfl, by first | exact agree_put | exact agree_refl⟩
  refine certs_cons ?_ ?_
  intro x vs w8 e hk8 hd he
  have d13 : vs 13 = (.slice (some ⟨b, off, none⟩) u.parts.length c) := hd
  replace hk8 := kept_new.trans hkd hk8
  replace he : e = over (havoc _ x _) [(42, vs 13)] := he
  rw [d13] at he
  subst he
  refine zi (i := 3) tSl65 tI67 rfl rfl (by omega) <| ow_nil ?_
  exact ⟨kept_new.refl _, rfl, by first | exact agree_put | exact agree_refl⟩
  refine certs_cons ?_ ?_
  intro x vs w8 e hk8 hd he
  have d14 : vs 14 = (.pointer (some ⟨b, off + 3 * 2, none⟩)) := hd
  replace hk8 := kept_new.trans hkd hk8
  replace he : e = over (havoc _ x _) [(43, vs 14)] := he
  rw [d14] at he
  subst he
  refine zf tF67_1 rfl <| ow_nil ?_
  exact ⟨kept_new.refl _, rfl, by first | exact agree_put | exact agree_refl⟩
  refine certs_cons ?_ ?_
  intro x vs w8 e hk8 hd he
  have d15 : vs 15 = (.pointer (some ⟨b, off + 3 * 2 + 1, none⟩)) := hd
  replace hk8 := kept_new.trans hkd hk8
  have hK := hK.ext hk8
  replace he : e = over (havoc _ x _) [(44, vs 15)] := he
  rw [d15] at he
  subst he
  refine zl tOne65 rfl (hc3.ext hK 1 _ rfl) <| ow_nil ?_
  exact ⟨kept_new.refl _, rfl, by first | exact agree_put | exact agree_refl⟩
  refine certs_cons ?_ ?_
  intro x vs w8 e hk8 hd he
  have d16 : vs 16 = (.slice (some ⟨b5, off5, none⟩) q3n q3c) := hd
  replace hk8 := kept_new.trans hkd hk8
  have hK := hK.ext hk8
  replace he : e = over (havoc _ x _) [(45, vs 16)] := he
  rw [d16] at he
  subst he
  refine ow_slice_from (l := 1) tSl65 tI67 rfl rfl rfl rfl (by omega) (RTrees.ext hq3 hK) ?_
  intro vs1 hvs
  refine ow_nil ?_
  exact ⟨kept_new.refl _, (show RTrees L _ vs1 _ from by rw [RTrees, encs_drop]; exact hvs), by first | exact agree_put | exact agree_refl⟩
  refine certs_cons ?_ ?_
  intro x vs w8 e hk8 hd he
  have d17 : (fun (v : Value) (ww : World) => RTrees L ww v ((nth u.parts 3).parts.drop 1)) (vs 17) w8 := hd
  replace hk8 := kept_new.trans hkd hk8
  have hK := hK.ext hk8; have hb2 := hb2.ext hk8
  replace he : e = over (havoc _ x _) [(46, vs 17)] := he
  subst he
  refine ow_call rfl rfl (l6tWords_ret _ hS3 _ L (w1.heap.size :: Lr) w8 d17 (by intro x hx; rcases List.mem_cons.1 hx with rfl | hx; exact hb2.lt; have := hL x hx; have := hK.size; omega)) ?_
  rintro v9 w9 ⟨hv9, hk9⟩
  have hs9 := hk9.size
  obtain ⟨a7, n7, c7, rfl, hs7⟩ := hv9
  refine ow_nil ?_
  exact ⟨kept_new.of hk9, ⟨a7, n7, c7, rfl, hs7⟩, by first | exact agree_put | exact agree_refl⟩
  refine certs_cons ?_ ?_
  intro x vs w8 e hk8 hd he
  obtain ⟨d4, d11, d18⟩ : (vs 4 = (str (nth u.parts 1).atom)) ∧ ((fun (v : Value) (ww : World) => ∃ a n c, v = .slice a n c ∧ RStrs (w1.heap.size :: Lr) ww (.slice a n c) (((nth u.parts 2).parts.drop 1).map Tree.text)) (vs 11) w8) ∧ ((fun (v : Value) (ww : World) => ∃ a n c, v = .slice a n c ∧ RStrs (w1.heap.size :: Lr) ww (.slice a n c) (((nth u.parts 3).parts.drop 1).map Tree.text)) (vs 18) w8) := hd
  replace hk8 := kept_new.trans hkd hk8
  replace he : e = over (havoc _ x _) [(33, vs 4), (40, vs 11), (47, vs 18)] := he
  rw [d4] at he
  obtain ⟨a7, n7, c7, e7, hs7⟩ := d11
  obtain ⟨a8, n8, c8, e8, hs8⟩ := d18
  rw [e7, e8] at he
  subst he
  refine ow_build (tB55_0_1_2 _ _ _ _ _ _ _ _) rfl rfl <| ow_nil ?_
  exact ⟨kept_new.refl _, ⟨a7, n7, c7, a8, n8, c8, rfl, hs7, hs8⟩, by first | exact agree_put | exact agree_refl⟩
  exact trivial
  intro x vs w47 hk47 hdraw
  have d0 : vs 0 = (.pointer (some ⟨w.heap.size, 0 + 1, none⟩)) := hdraw 0 (by decide)
  have d1 : vs 1 = (.slice (some ⟨b, off, none⟩) u.parts.length c) := hdraw 1 (by decide)
  have d2 : vs 2 = (.pointer (some ⟨b, off + 1 * 2, none⟩)) := hdraw 2 (by decide)
  have d3 : vs 3 = (.pointer (some ⟨b, off + 1 * 2 + 0, none⟩)) := hdraw 3 (by decide)
  have d4 : vs 4 = (str (nth u.parts 1).atom) := hdraw 4 (by decide)
  have d5 : vs 5 = (.pointer (some ⟨w.heap.size, 0 + 1, none⟩)) := hdraw 5 (by decide)
  have d6 : vs 6 = (.slice (some ⟨b, off, none⟩) u.parts.length c) := hdraw 6 (by decide)
  have d7 : vs 7 = (.pointer (some ⟨b, off + 2 * 2, none⟩)) := hdraw 7 (by decide)
  have d8 : vs 8 = (.pointer (some ⟨b, off + 2 * 2 + 1, none⟩)) := hdraw 8 (by decide)
  have d9 : vs 9 = (.slice (some ⟨b4, off4, none⟩) q2n q2c) := hdraw 9 (by decide)
  have d10 : (fun (v : Value) (ww : World) => RTrees L ww v ((nth u.parts 2).parts.drop 1)) (vs 10) w47 := hdraw 10 (by decide)
  have d11 : (fun (v : Value) (ww : World) => ∃ a n c, v = .slice a n c ∧ RStrs (w1.heap.size :: Lr) ww (.slice a n c) (((nth u.parts 2).parts.drop 1).map Tree.text)) (vs 11) w47 := hdraw 11 (by decide)
  have d12 : vs 12 = (.pointer (some ⟨w.heap.size, 0 + 1, none⟩)) := hdraw 12 (by decide)
  have d13 : vs 13 = (.slice (some ⟨b, off, none⟩) u.parts.length c) := hdraw 13 (by decide)
  have d14 : vs 14 = (.pointer (some ⟨b, off + 3 * 2, none⟩)) := hdraw 14 (by decide)
  have d15 : vs 15 = (.pointer (some ⟨b, off + 3 * 2 + 1, none⟩)) := hdraw 15 (by decide)
  have d16 : vs 16 = (.slice (some ⟨b5, off5, none⟩) q3n q3c) := hdraw 16 (by decide)
  have d17 : (fun (v : Value) (ww : World) => RTrees L ww v ((nth u.parts 3).parts.drop 1)) (vs 17) w47 := hdraw 17 (by decide)
  have d18 : (fun (v : Value) (ww : World) => ∃ a n c, v = .slice a n c ∧ RStrs (w1.heap.size :: Lr) ww (.slice a n c) (((nth u.parts 3).parts.drop 1).map Tree.text)) (vs 18) w47 := hdraw 18 (by decide)
  have d19 : (fun (v : Value) (ww : World) => ∃ a1 n1 c1 a2 n2 c2, v = .agg #[str (nth u.parts 1).atom, .slice a1 n1 c1, .slice a2 n2 c2] ∧ RStrs (w1.heap.size :: Lr) ww (.slice a1 n1 c1) (((nth u.parts 2).parts.drop 1).map Tree.text) ∧ RStrs (w1.heap.size :: Lr) ww (.slice a2 n2 c2) (((nth u.parts 3).parts.drop 1).map Tree.text)) (vs 19) w47 := hdraw 19 (by decide)
  have hK := hK.ext hk47; have hb2 := hb2.ext hk47
  change OW _ _ _ _ _ (over (havoc _ x _) [(29, vs 0), (30, vs 1), (31, vs 2), (32, vs 3), (33, vs 4), (34, vs 5), (35, vs 6), (36, vs 7), (37, vs 8), (38, vs 9), (39, vs 10), (40, vs 11), (41, vs 12), (42, vs 13), (43, vs 14), (44, vs 15), (45, vs 16), (46, vs 17), (47, vs 18), (48, vs 19)]) _
  rw [d0, d1, d2, d3, d4, d5, d6, d7, d8, d9, d12, d13, d14, d15, d16]
  obtain ⟨a7, n7, c7, a8, n8, c8, e7, hs7, hs8⟩ := d19
  rw [e7]
  refine ow_storeA tI55 rfl rfl rfl rfl rfl hb2 rfl ?_
  intro w48 hk48 hb2 hz48
  have hK := hK.sto hk48 (by simp <;> omega); have hs7 := hs7.sto hk48 (by simp <;> omega); have hs8 := hs8.sto hk48 (by simp <;> omega)
  refine ow_nil <| cw_ret ?_
  exact ⟨[_], resultAt_blk tAgg55 tI55 rfl hb2 rfl, by rw [bkOf?_yes hb]; exact rbk_of (b := bkOf u) (Rep.weaken hs7 (fun x hx => by simp [hx])) (Rep.weaken hs8 (fun x hx => by simp [hx])), hK⟩
end Go.Proofs.YtnkjgoholocliaaGreatDoor

namespace Go.Proofs.YtnkjgoholocliaaGreatDoor
open Go

theorem rtree_parts {L : List Nat} {w : World} {a v : Value} {t : Tree} (h : RTree L w (.agg #[a, v]) t) : RTrees L w v t.parts := by
  obtain ⟨a', n, c, he, hn, hp⟩ := rtree_cases h
  have : v = .slice a' n c := by
    have := congrArg (fun v => match v with | Value.agg x => x.toList | _ => []) he
    simp at this; exact this.2
  rw [this]; exact hp
theorem SFrom_ret (s : Bytes) (w : World) :
    Ret Tryz.prog 20 [str s] w fun r w' => (∃ a n c, r = .tuple #[.slice a n c, .bool (fromP s).isSome] ∧ RBks [] w' (.slice a n c) ((fromP s).getD [])) ∧ Keep [] w w' := by
  have hK := Keep.refl [] w
  refine ret_of [.tmp 2, .tmp 3] 43 Tryz.func20 rfl nm20 rfl rfl ?_
  refine zr <| zA <| zA <| ow_nil <| zr <| zm <| ow_call rfl rfl (l1Parse_ret s [] w (by simp)) ?_
  rintro v1 w1 ⟨hv1, hk1⟩
  have hs1 := hk1.size
  have hK := hK.ext hk1
  obtain ⟨t, tv, rfl, ht, hp⟩ := hv1
  obtain ⟨pa, pn, pc, rfl, hpn, hps⟩ := rtree_cases ht
  subst hpn
  refine zm <| zx (i := 0) rfl rfl <| zx (i := 1) rfl rfl <| ow_allocA tI67 rfl rfl rfl ?_
  intro w2 hk2 hb4 hz2
  have hK := hK.grow; have hK := hK.ext hk2; have ht := ht.grow; have ht := ht.ext hk2
  refine ow_storeA tI67 rfl rfl rfl rfl rfl hb4 rfl ?_
  intro w3 hk3 hb4 hz3
  have hK := hK.sto hk3 (by simp <;> omega); have ht := ht.sto hk3 (by simp <;> omega)
  refine zA <| ow_nil <| zr <| ow_buildSlice0 w3.heap.size [] tSl25 tI55 rfl rfl (by omega) (by simp) ?_
  intro w4 hk4 hz1 hO
  have hps0 := rtree_parts ht
  have hKs := hk4
  have hs3 := hK.size
  have hK := hK.ext hk4; have ht := ht.ext hk4; have hb4 := hb4.ext hk4
  refine zA <| ow_nil <| cw_seq <| zr <| zm <| ow_not rfl rfl rfl <| zm ?_
  apply ow_or 4 16 20 [16, 17, 18, 19, 20] (Keep [] w4) rfl
  intro h1
  replace h1 := tst h1
  have hJ16 := Keep.refl [] w4
  refine zs <| zs <| zs <| zp rfl <| ow_nil ?_
  exact ⟨by repeat (first | with_reducible exact agree_refl | refine agree_upd rfl ?_ | refine agree_hav rfl ?_), rfl, hJ16⟩
  intro h1
  replace h1 := tst h1
  have hJ16 := Keep.refl [] w4
  refine zL tAgg67 tI67 rfl hb4.all rfl <| ow_call rfl rfl (l4Head_ret t _ _ w4 ht) ?_
  rintro v5 w5 ⟨hv5, hk5⟩
  have hs5 := hk5.size
  have hJ16 := hJ16.ext hk5
  obtain rfl := hv5
  refine ow_sneq rfl rfl rfl rfl <| zp rfl <| ow_nil ?_
  exact ⟨by repeat (first | with_reducible exact agree_refl | refine agree_upd rfl ?_ | refine agree_hav rfl ?_), rfl, hJ16⟩
  intro xx w6 hk6
  have hK := hK.ext hk6; have hb4 := hb4.ext hk6; have hO := hO.ext hk6; have hKs := hKs.ext hk6
  refine ow_nil <| zc rfl (fun h2 => ?_) (fun h2 => ?_)
  have hq := fromP_bad hp h2
  refine zr <| zm <| zA <| zA <| ow_nil <| cw_ret ?_
  exact ⟨_, rfl, ⟨_, _, _, by rw [hq]; rfl, by rw [hq]; exact Gr.bks (bs := []) hO⟩, hK⟩
  obtain ⟨hpt, hfr, hpos⟩ := fromP_good hp h2
  have hfine := fine_parse hpt
  have hgood := (parse_good hpt).1
  have hpl := parts_le t
  have hsz0 := hfine.size
  refine cw_skip <| cw_seq <| zr <| zA <| ow_nil <| cw_block ?_
  refine cw_loop (fun q : Nat × Option Addr × Nat × Option Nat => [(4, .pointer (some ⟨w1.heap.size, 0, none⟩)), (6, .slice q.2.1 (((t.parts.drop 1).take q.1).map bkOf?).length q.2.2.1), (7, .int .i64 ((q.1 + 1 : Nat) : Int))]) (fun q w' => Keep [] w w' ∧ Keep [] w3 w' ∧ Blk w' w1.heap.size [str t.atom, .slice pa t.parts.length pc].toArray 67 ∧ Gr w3.heap.size [] w' 55 3 (.slice q.2.1 (((t.parts.drop 1).take q.1).map bkOf?).length q.2.2.1) q.2.2.2 ((((t.parts.drop 1).take q.1).map bkOf?).map Bk.enc) ∧ q.1 + 1 ≤ t.parts.length) (fun q => t.parts.length - q.1) ((0, _, _, _)) (⟨rfl, rfl, rfl⟩) (⟨hK, hKs, hb4, hO, by simp only; omega⟩) ?_
  intro gg w7 e7 hI
  obtain ⟨i, a3, cc, g⟩ := gg
  dsimp only at hI ⊢
  obtain ⟨hK, hKs, hb4, hO, hk⟩ := hI
  have hsz := hK.size
  have hbl := hb4.lt
  refine cw_seq <| zr <| zm <| zf tF67_1 rfl <| zl tOne65 rfl (hb4.at rfl) <| ow_len tSl65 rfl rfl rfl <| ow_lss rfl rfl rfl rfl rfl <| ow_nil <| zc rfl (fun h3 => ?_) (fun h3 => ?_)
  have hgt := nth_get (ps := t.parts) (i := i + 1) (by omega)
  obtain ⟨b1, off1, qa, qn, qc, rfl, hcc, hqn, hqq⟩ := rtrees_get hps0 hgt
  have hgd := drop_get (t := t) (k := i) (by omega)
  refine cw_skip <| cw_seq <| cw_block <| cw_region <| zm <| zf tF67_1 rfl <| zl tOne65 rfl (hb4.at rfl) <| zm <| zi tSl65 tI67 rfl rfl (by omega) <| zL tAgg67 tI67 rfl (hcc.ext hKs) (rfl) <| ow_call rfl rfl (l9Block_ret (nth t.parts (i + 1)) (hfine.nth hgood (by omega)) (hgood.nth (by omega)) _ _ (g.toList ++ []) w7 (RTree.ext (rtree_of hqq) hKs) hO.all) ?_
  rintro v8 w8 ⟨hv8, hk8⟩
  have hs8 := hk8.size
  have hK := hK.ext hk8; have hKs := hKs.ext hk8; have hb4 := hb4.ext hk8; have hO := hO.ext hk8
  obtain ⟨a1, n1, c1, a2, n2, c2, rfl, _, _, _, _⟩ := rbk_cases hv8
  have hbv := hv8
  refine ow_buildSlice1 tSl25 tI55 rfl rfl rfl rfl rfl rfl rfl rfl ?_
  intro w9 hk9 hb36 hz9
  have hK := hK.ext hk9; have hKs := hKs.ext hk9; have hb4 := hb4.ext hk9; have hO := hO.ext hk9; have hbv := hbv.ext hk9
  refine ow_growK tSl25 tI55 rfl rfl rfl rfl rfl rfl hO hb36 hbv (by rw [map_take_len _ (by simp; omega)]; omega) ?_
  intro a4 cc4 g4 w10 hO3 hk10
  have hK := Keep.older (by omega) hO.low hK hk10
  have hKs := hO.since hKs hk10
  have hb4 := hb4.sto hk10 (hO.sepB (by omega))
  rw [map_take_snoc bkOf? hgd] at hO3 ⊢
  refine zA <| ow_nil <| cw_region <| zm <| ow_add rfl rfl rfl rfl rfl (wrap_i64 _ (by omega) (by omega)) <| zA <| ow_nil ?_
  exact ⟨(i + 1, a4, cc4, g4), ⟨rfl, rfl, rfl⟩, ⟨hK, hKs, hb4, hO3, by dsimp only; omega⟩, by dsimp only; omega⟩
  have hall : ((t.parts.drop 1).take i).map bkOf? = fromT t := map_take_all bkOf? (by simp; omega)
  rw [hall] at hO ⊢
  refine cw_exit <| x_hit rfl <| cw_seq <| zr <| zm <| ow_call rfl rfl (ProgramValid_ret (fromT t) (smalls_from hfine hgood) _ _ w7 hO.bks) ?_
  rintro v8 w8 ⟨hv8, hk8⟩
  have hs8 := hk8.size
  have hK := hK.ext hk8; have hO := hO.ext hk8
  obtain rfl := hv8
  refine ow_not rfl rfl rfl <| ow_nil <| zc rfl (fun h4 => ?_) (fun h4 => ?_)
  have hq : fromP s = none := by rw [hfr, if_neg (by simpa using h4)]
  refine zr <| ow_buildSlice0 w.heap.size [] tSl25 tI55 rfl rfl (by have := hK.size; omega) (by simp) ?_
  intro w9 hk9 hz9 hO9
  have hK := hK.ext hk9
  refine zA <| zA <| ow_nil <| cw_ret ?_
  exact ⟨_, rfl, ⟨_, _, _, by rw [hq]; rfl, by rw [hq]; exact Gr.bks (bs := []) hO9⟩, hK⟩
  have hq : fromP s = some (fromT t) := by rw [hfr, if_pos (by simpa using h4)]
  refine cw_skip <| zr <| zm <| zA <| zA <| ow_nil <| cw_ret ?_
  exact ⟨_, rfl, ⟨_, _, _, by rw [hq]; rfl, by rw [hq]; exact hO.bks⟩, hK⟩
end Go.Proofs.YtnkjgoholocliaaGreatDoor
