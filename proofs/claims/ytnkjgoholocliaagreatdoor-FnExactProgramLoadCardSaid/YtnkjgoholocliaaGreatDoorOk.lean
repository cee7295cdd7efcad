/-
  Lemmas for the law of ProgramLoad, no statement of their own: walks of the program's checker, small functions.
-/
import Derived.Test.YtnkjgoholocliaaGreatDoorOj
import Derived.Test.YtnkjgoholocliaaGreatDoorOd
import Derived.Test.YtnkjgoholocliaaGreatDoorOi
namespace Go.Proofs.YtnkjgoholocliaaGreatDoor
open Go

mutual
def eqT : Tree → Tree → Bool
  | .mk a ps, .mk b qs => decide (a = b) && eqTs ps qs
def eqTs : List Tree → List Tree → Bool
  | [], [] => true
  | p :: ps, q :: qs => eqT p q && eqTs ps qs
  | [], _ :: _ => false
  | _ :: _, [] => false
end
mutual
theorem eqT_iff : ∀ x y : Tree, eqT x y = true ↔ x = y
  | .mk a ps, .mk b qs => by rw [eqT, Bool.and_eq_true, decide_eq_true_eq, eqTs_iff ps qs, Tree.mk.injEq]
theorem eqTs_iff : ∀ ps qs : List Tree, eqTs ps qs = true ↔ ps = qs
  | [], [] => by simp [eqTs]
  | p :: ps, q :: qs => by rw [eqTs, Bool.and_eq_true, eqT_iff p q, eqTs_iff ps qs, List.cons.injEq]
  | [], _ :: _ => by simp [eqTs]
  | _ :: _, [] => by simp [eqTs]
end
theorem eqT_eq (x y : Tree) : eqT x y = (decide (x.atom = y.atom) && eqTs x.parts y.parts) := by cases x; cases y; rw [eqT]; rfl
theorem eqTs_len {ps qs : List Tree} (h : ps.length ≠ qs.length) : eqTs ps qs = false := by
  cases hq : eqTs ps qs with
  | false => rfl
  | true => rw [(eqTs_iff ps qs).1 hq] at h; exact absurd rfl h
theorem eqTs_no {ps qs : List Tree} {i : Nat} (h1 : i < ps.length) (hl : ps.length = qs.length) (h : eqT (nth ps i) (nth qs i) = false) : eqTs ps qs = false := by
  cases hq : eqTs ps qs with
  | false => rfl
  | true => rw [(eqTs_iff ps qs).1 hq, (eqT_iff _ _).2 rfl] at h; cases h
theorem eqTs_yes {ps qs : List Tree} (hl : ps.length = qs.length) (h : ∀ i, i < ps.length → eqT (nth ps i) (nth qs i) = true) : eqTs ps qs = true :=
  (eqTs_iff ps qs).2 (List.ext_getElem hl fun i h1 h2 => by
    have := (eqT_iff _ _).1 (h i h1)
    rwa [nth_elem h1, nth_elem h2] at this)

theorem EqualFunc_ret (ps qs : List Tree) (hlen : ps.length < 1000000000) (f : FuncId) (v1 v2 : Value) (L1 L2 : List Nat) (w : World) (hv1 : RTrees L1 w v1 ps) (hv2 : RTrees L2 w v2 qs)
    (hf : ∀ i, i < ps.length → i < qs.length → ∀ (u1 u2 : Value) (w' : World), Keep [] w w' → RTree L1 w' u1 (nth ps i) → RTree L2 w' u2 (nth qs i) → Ret Tryz.prog f [u1, u2] w' fun r w'' => r = .bool (eqT (nth ps i) (nth qs i)) ∧ Keep [] w' w'') :
    Ret Tryz.prog 167 [v1, v2, .func (.func f) #[] #[]] w fun r w' => r = .bool (eqTs ps qs) ∧ Keep [] w w' := by
  obtain ⟨a1, c1, rfl⟩ := trees_cases hv1
  obtain ⟨a2, c2, rfl⟩ := trees_cases hv2
  have hK := Keep.refl [] w
  refine ret_of [.tmp 6] 32 Tryz.func167 rfl nm167 rfl rfl ?_
  refine zr <| zA <| ow_nil <| cw_seq <| zr <| zm <| ow_len tSl61 rfl rfl rfl <| zm <| ow_len tSl61 rfl rfl rfl <| ow_neq rfl rfl rfl rfl rfl <| ow_nil <| zc rfl (fun h1 => ?_) (fun h1 => ?_)
  have hq := eqTs_len (ps := ps) (qs := qs) (by omega)
  refine zr <| zA <| ow_nil <| cw_ret ?_
  exact ⟨_, rfl, by rw [hq]; rfl, hK⟩
  have hlq : ps.length = qs.length := by omega
  refine cw_skip <| cw_seq <| zr <| zm <| ow_len tSl61 rfl rfl rfl <| zm <| ow_nil <| cw_block ?_
  refine cw_loop (fun k : Nat => [(1, .slice a2 qs.length c2), (2, .func (.func f) #[] #[]), (15, .slice a1 ps.length c1), (16, .int .i64 (ps.length : Int)), (17, .int .i64 (k : Int))]) (fun k w' => Keep [] w w' ∧ k ≤ ps.length ∧ ∀ i, i < k → eqT (nth ps i) (nth qs i) = true) (fun k => ps.length - k) (0) (⟨rfl, rfl, rfl, rfl, rfl⟩) (⟨hK, by omega, by intro i hi; omega⟩) ?_
  intro gg w1 e1 hI
  obtain ⟨hK, hk, hall⟩ := hI
  have hsz := hK.size
  refine zr <| ow_lss rfl rfl rfl rfl rfl <| ow_nil <| cw_seq <| zc rfl (fun h2 => ?_) (fun h2 => ?_)
  have hg1 := nth_get (ps := ps) (i := gg) (by omega)
  have hg2 := nth_get (ps := qs) (i := gg) (by omega)
  obtain ⟨b1, off1, pa, pn, pc, rfl, hc1, hpn1, hp1⟩ := rtrees_get (hv1.ext hK) hg1
  obtain ⟨b2, off2, qa, qn, qc, rfl, hc2, hpn2, hp2⟩ := rtrees_get (hv2.ext hK) hg2
  have hu1 := rtree_of hp1
  have hu2 := rtree_of hp2
  have hK0 := hK
  have hKe := Keep.refl [] w1
  refine cw_skip <| cw_seq <| cw_block <| zr <| zm <| zi tSl61 tI73 rfl rfl (by omega) <| zL tAgg73 tI73 rfl (hc1) (rfl) <| ow_allocA tI73 rfl rfl rfl ?_
  intro w2 hk2 hb8 hz2
  have hK := hK.grow; have hK := hK.ext hk2; have hKe := hKe.grow; have hKe := hKe.ext hk2
  refine zA <| ow_storeA tI73 rfl rfl rfl rfl rfl hb8 rfl ?_
  intro w3 hk3 hb8 hz3
  have hK := hK.sto hk3 (by simp <;> omega); have hKe := hKe.sto hk3 (by simp <;> omega)
  refine ow_nil <| zr <| zm <| zm <| zi tSl61 tI73 rfl rfl (by omega) <| zL tAgg73 tI73 rfl (hc2.ext hKe) (rfl) <| ow_allocA tI73 rfl rfl rfl ?_
  intro w4 hk4 hb9 hz4
  have hK := hK.grow; have hK := hK.ext hk4; have hKe := hKe.grow; have hKe := hKe.ext hk4; have hb8 := hb8.grow; have hb8 := hb8.ext hk4
  refine ow_storeA tI73 rfl rfl rfl rfl rfl hb9 rfl ?_
  intro w5 hk5 hb9 hz5
  have hK := hK.sto hk5 (by simp <;> omega); have hKe := hKe.sto hk5 (by simp <;> omega); have hb8 := hb8.sto hk5 (by simp <;> omega)
  refine ow_nil <| zr <| zm <| zL tAgg73 tI73 rfl hb8.all rfl <| zL tAgg73 tI73 rfl hb9.all rfl <| ow_callv rfl rfl rfl (hf gg (by omega) (by omega) _ _ w5 hK (RTree.ext hu1 hKe) (RTree.ext hu2 hKe)) ?_
  rintro v6 w6 ⟨hv6, hk6⟩
  have hs6 := hk6.size
  have hK := hK.ext hk6
  obtain rfl := hv6
  refine ow_not rfl rfl rfl <| ow_nil <| zc rfl (fun h3 => ?_) (fun h3 => ?_)
  have hq := eqTs_no (ps := ps) (qs := qs) (i := gg) (by omega) hlq (by simpa using h3)
  refine zr <| zA <| ow_nil <| cw_ret ?_
  exact ⟨_, rfl, by rw [hq]; rfl, hK⟩
  have hyes : eqT (nth ps gg) (nth qs gg) = true := by simpa using h3
  refine cw_skip <| cw_region <| ow_add rfl rfl rfl rfl rfl (wrap_i64 _ (by omega) (by omega)) <| zm <| ow_nil ?_
  exact ⟨gg + 1, ⟨rfl, rfl, rfl, rfl, rfl⟩, ⟨hK, by omega, by intro i hi; rcases Nat.lt_or_ge i gg with h | h; exact hall i h; rw [show i = gg by omega]; exact hyes⟩, by omega⟩
  have hq := eqTs_yes hlq (fun i hi => hall i (by omega))
  refine cw_exit <| x_hit rfl <| zr <| zA <| ow_nil <| cw_ret ?_
  exact ⟨_, rfl, by rw [hq]; rfl, hK⟩

theorem same_ret : ∀ (m : Nat) (x : Tree), x.size ≤ m → x.size ≤ 1000000000 → ∀ (y : Tree) (v1 v2 : Value) (L1 L2 : List Nat) (w : World), RTree L1 w v1 x → RTree L2 w v2 y →
    Ret Tryz.prog 149 [v1, v2] w fun r w' => r = .bool (eqT x y) ∧ Keep [] w w' := by
  intro m
  induction m with
  | zero => intro x h; have := atom_lt x; omega
  | succ m ih =>
    intro x hm hxs y v1 v2 L1 L2 w hv1 hv2
    obtain ⟨a1, n1, c1, rfl, hn1, hps1⟩ := rtree_cases hv1
    obtain ⟨a2, n2, c2, rfl, hn2, hps2⟩ := rtree_cases hv2
    have hpl := parts_le x
    have hK := Keep.refl [] w
    refine ret_of [.tmp 4] 17 Tryz.func149 rfl nm149 rfl rfl ?_
    refine zr <| ow_boxA rfl rfl rfl ?_
    intro w1 hk1 hb2 hz1
    have hK := hK.ext hk1
    refine ow_boxA rfl rfl rfl ?_
    intro w2 hk2 hb3 hz2
    have hK := hK.ext hk2; have hb2 := hb2.ext hk2
    refine zA <| ow_nil <| zr <| zf tF73_0 rfl <| zl tOne9 rfl (hb2.at rfl) <| zf tF73_0 rfl <| zl tOne9 rfl (hb3.at rfl) <| ow_seql rfl rfl rfl rfl <| zm ?_
    apply ow_and 6 10 16 [10, 11, 12, 13, 14, 15, 16] (Keep [] w2) rfl
    intro h1
    replace h1 := tst h1
    have hJ10 := Keep.refl [] w2
    refine zf tF73_1 rfl <| zl tOne61 rfl (hb2.at rfl) <| zf tF73_1 rfl <| zl tOne61 rfl (hb3.at rfl) <| ow_call rfl rfl (EqualFunc_ret x.parts y.parts (by omega) 149 _ _ L1 L2 w2 (hps1.ext hK) (hps2.ext hK) (fun i hi _ u1 u2 w' _ hu1 hu2 => ih (nth x.parts i) (by have := nth_size (t := x) (i := i) hi; omega) (by have := nth_size (t := x) (i := i) hi; omega) _ u1 u2 L1 L2 w' hu1 hu2)) ?_
    rintro v3 w3 ⟨hv3, hk3⟩
    have hs3 := hk3.size
    have hJ10 := hJ10.ext hk3
    obtain rfl := hv3
    refine zp rfl <| ow_nil ?_
    exact ⟨by repeat (first | with_reducible exact agree_refl | refine agree_upd rfl ?_ | refine agree_hav rfl ?_), rfl, hJ10⟩
    intro h1
    replace h1 := tst h1
    have hJ10 := Keep.refl [] w2
    refine zs <| zs <| zs <| zs <| zs <| zp rfl <| ow_nil ?_
    exact ⟨by repeat (first | with_reducible exact agree_refl | refine agree_upd rfl ?_ | refine agree_hav rfl ?_), rfl, hJ10⟩
    intro xx w3 hk3
    have hK := hK.ext hk3
    refine zA <| ow_nil <| cw_ret ?_
    exact ⟨_, rfl, congrArg Value.bool (eqT_eq x y).symm, hK⟩
end Go.Proofs.YtnkjgoholocliaaGreatDoor

namespace Go.Proofs.YtnkjgoholocliaaGreatDoor
open Go

theorem putT_eq (y t : Tree) : putT y t = if t.atom = [118] then y else if t.atom ≠ [] ∨ headA t.parts = [101] then t else .mk [] (t.parts.map (putT y)) := by
  cases t with
  | mk a ps => rw [putT, putL_map]; rfl
theorem put_v {y t : Tree} (h : (decide (t.parts.length = 0) && decide (t.atom = [118])) = true) : putT y t = y := by
  rw [Bool.and_eq_true, decide_eq_true_eq, decide_eq_true_eq] at h
  rw [putT_eq, if_pos h.2]
theorem put_same {y t : Tree} (hwf : WF t) (h1 : (decide (t.parts.length = 0) && decide (t.atom = [118])) = false) (h : (decide (t.parts.length = 0) || decide (headOf t = [101])) = true) : putT y t = t := by
  rw [Bool.or_eq_true, decide_eq_true_eq, decide_eq_true_eq] at h
  rw [putT_eq]
  cases hwf with
  | atom a ha =>
    have hv : ¬ a = [118] := by intro hv; subst hv; simp [Tree.parts, Tree.atom] at h1
    rw [if_neg (show ¬ (Tree.mk a []).atom = [118] from hv), if_pos (.inl ha)]
  | list ps hp _ =>
    rw [if_neg (by intro h; cases h)]
    rcases h with h | h
    · exact absurd (List.length_eq_zero_iff.1 h) hp
    · rw [headOf_mk] at h; rw [if_pos (.inr h)]
theorem put_node {y t : Tree} (hwf : WF t) (h : (decide (t.parts.length = 0) || decide (headOf t = [101])) = false) : putT y t = .mk [] (t.parts.map (putT y)) := by
  rw [Bool.or_eq_false_iff, decide_eq_false_iff_not, decide_eq_false_iff_not] at h
  rw [putT_eq]
  cases hwf with
  | atom a ha => exact absurd rfl h.1
  | list ps hp _ => rw [if_neg (by intro h; cases h), if_neg (by rintro (hh | hh); (· exact hh rfl); (· rw [headOf_mk] at h; exact h.2 hh))]

theorem opened_ret (y : Tree) : ∀ (m : Nat) (t : Tree), t.size ≤ m → t.size ≤ 10000000 → WF t → ∀ (v vy : Value) (L : List Nat) (w : World), RTree L w v t → RTree L w vy y → (∀ x, x ∈ L → x < w.heap.size) →
    Ret Tryz.prog 150 [v, vy] w fun r w' => RTree L w' r (putT y t) ∧ Keep [] w w' := by
  intro m
  induction m with
  | zero => intro t h; have := atom_lt t; omega
  | succ m ih =>
    intro t hm hts hwf v vy L w hv hy hL
    have hv0 := hv
    have hy0 := hy
    have hyk := hy
    obtain ⟨a, n, c, rfl, hn, hps⟩ := rtree_cases hv
    obtain ⟨ya, yn, yc, rfl, hyn, hyp⟩ := rtree_cases hy
    subst hn
    have hpl := parts_le t
    have hK := Keep.refl [] w
    refine ret_gen [.cell 4 73] 43 Tryz.func150 rfl nm150 rfl rfl rfl ?_
    refine zr <| ow_boxA rfl rfl rfl ?_
    intro w1 hk1 hb2 hz1
    have hK := hK.ext hk1; have hv0 := hv0.ext hk1; have hy0 := hy0.ext hk1
    refine ow_boxA rfl rfl rfl ?_
    intro w2 hk2 hb3 hz2
    have hK := hK.ext hk2; have hv0 := hv0.ext hk2; have hy0 := hy0.ext hk2; have hb2 := hb2.ext hk2
    refine ow_allocA tI73 rfl rfl rfl ?_
    intro w3 hk3 hb4 hz3
    have hK := hK.grow; have hK := hK.ext hk3; have hv0 := hv0.grow; have hv0 := hv0.ext hk3; have hy0 := hy0.grow; have hy0 := hy0.ext hk3; have hb2 := hb2.grow; have hb2 := hb2.ext hk3; have hb3 := hb3.grow; have hb3 := hb3.ext hk3
    refine ow_nil <| cw_seq <| cw_block <| zr <| zL tAgg73 tI73 rfl hb2.all rfl <| ow_call rfl rfl (isAtom_ret t _ _ w3 hv0) ?_
    rintro v4 w4 ⟨hv4, hk4⟩
    have hs4 := hk4.size
    have hK := hK.ext hk4; have hv0 := hv0.ext hk4; have hy0 := hy0.ext hk4; have hb2 := hb2.ext hk4; have hb3 := hb3.ext hk4; have hb4 := hb4.ext hk4
    obtain rfl := hv4
    refine zm ?_
    apply ow_and 4 11 15 [11, 12, 13, 14, 15] (fun w' => w4 = w') rfl
    intro h1
    replace h1 := tst h1
    skip
    refine zf tF73_0 rfl <| zl tOne9 rfl (hb2.at rfl) <| ow_seql rfl rfl rfl rfl <| zp rfl <| ow_nil ?_
    exact ⟨by repeat (first | with_reducible exact agree_refl | refine agree_upd rfl ?_ | refine agree_hav rfl ?_), rfl, rfl⟩
    intro h1
    replace h1 := tst h1
    refine zs <| zs <| zs <| zp rfl <| ow_nil ?_
    exact ⟨by repeat (first | with_reducible exact agree_refl | refine agree_upd rfl ?_ | refine agree_hav rfl ?_), rfl, rfl⟩
    rintro xx _ rfl
    refine zA <| ow_nil <| zc rfl (fun h2 => ?_) (fun h2 => ?_)
    have hq := put_v (y := y) h2
    refine zr <| zL tAgg73 tI73 rfl hb3.all rfl <| ow_storeA tI73 rfl rfl rfl rfl rfl hb4 rfl ?_
    intro w5 hk5 hb4 hz5
    have hK := hK.sto hk5 (by simp <;> omega); have hy0 := hy0.sto hk5 (by simp <;> omega)
    refine ow_nil <| cw_ret ?_
    exact ⟨[_], resultAt_blk tAgg73 tI73 rfl hb4 rfl, by rw [hq]; exact RTree.weak hy0 (fun x hx => by simp [hx]), hK⟩
    have hno := h2
    refine zr <| zL tAgg73 tI73 rfl hb2.all rfl <| ow_call rfl rfl (isAtom_ret t _ _ w4 hv0) ?_
    rintro v5 w5 ⟨hv5, hk5⟩
    have hs5 := hk5.size
    have hK := hK.ext hk5; have hv0 := hv0.ext hk5; have hb2 := hb2.ext hk5; have hb3 := hb3.ext hk5; have hb4 := hb4.ext hk5
    obtain rfl := hv5
    refine zm ?_
    apply ow_or 4 20 24 [20, 21, 22, 23, 24] (Keep [] w5) rfl
    intro h3
    replace h3 := tst h3
    have hJ20 := Keep.refl [] w5
    refine zs <| zs <| zs <| zp rfl <| ow_nil ?_
    exact ⟨by repeat (first | with_reducible exact agree_refl | refine agree_upd rfl ?_ | refine agree_hav rfl ?_), rfl, hJ20⟩
    intro h3
    replace h3 := tst h3
    have hJ20 := Keep.refl [] w5
    refine zL tAgg73 tI73 rfl hb2.all rfl <| ow_call rfl rfl (headI_ret t hwf _ _ w5 hv0) ?_
    rintro v6 w6 ⟨hv6, hk6⟩
    have hs6 := hk6.size
    have hJ20 := hJ20.ext hk6
    obtain rfl := hv6
    refine ow_seql rfl rfl rfl rfl <| zp rfl <| ow_nil ?_
    exact ⟨by repeat (first | with_reducible exact agree_refl | refine agree_upd rfl ?_ | refine agree_hav rfl ?_), rfl, hJ20⟩
    intro xx w7 hk7
    have hK := hK.ext hk7; have hv0 := hv0.ext hk7; have hb2 := hb2.ext hk7; have hb3 := hb3.ext hk7; have hb4 := hb4.ext hk7
    refine zA <| ow_nil <| zc rfl (fun h4 => ?_) (fun h4 => ?_)
    have hq := put_same (y := y) hwf hno h4
    refine zr <| zL tAgg73 tI73 rfl hb2.all rfl <| ow_storeA tI73 rfl rfl rfl rfl rfl hb4 rfl ?_
    intro w8 hk8 hb4 hz8
    have hK := hK.sto hk8 (by simp <;> omega); have hv0 := hv0.sto hk8 (by simp <;> omega)
    refine ow_nil <| cw_ret ?_
    exact ⟨[_], resultAt_blk tAgg73 tI73 rfl hb4 rfl, by rw [hq]; exact RTree.weak hv0 (fun x hx => by simp [hx]), hK⟩
    have hq := put_node (y := y) hwf h4
    have hq7 := hK.size
    have hl3 := hb3.lt
    have hl4 := hb4.lt
    refine cw_skip <| zr <| ow_allocA tI73 rfl rfl rfl ?_
    intro w8 hk8 hb5 hz8
    have hK := hK.grow; have hK := hK.ext hk8; have hb2 := hb2.grow; have hb2 := hb2.ext hk8; have hb3 := hb3.grow; have hb3 := hb3.ext hk8; have hb4 := hb4.grow; have hb4 := hb4.ext hk8
    refine ow_nil <| cw_seq <| zr <| zf tF73_1 rfl <| zl tOne61 rfl (hb2.at rfl) <| ow_len tSl61 rfl rfl rfl <| zm <| ow_nil <| cw_block ?_
    refine cw_loop (fun q : Nat × Option Addr × Nat × Option Nat => [(3, .pointer (some ⟨w1.heap.size, 0, none⟩)), (4, .pointer (some ⟨w2.heap.size, 0, none⟩)), (5, .pointer (some ⟨w7.heap.size, 0, none⟩)), (27, .slice a t.parts.length c), (28, .int .i64 (t.parts.length : Int)), (29, .int .i64 (q.1 : Int))]) (fun q w' => Keep [] w w' ∧ Blk w' w1.heap.size [str y.atom, .slice ya yn yc].toArray 73 ∧ Blk w' w2.heap.size [str [], .slice none 0 0].toArray 73 ∧ Blk w' w7.heap.size [str [], .slice q.2.1 ((t.parts.take q.1).map (putT y)).length q.2.2.1].toArray 73 ∧ Gr w7.heap.size (w7.heap.size :: w2.heap.size :: L) w' 73 2 (.slice q.2.1 ((t.parts.take q.1).map (putT y)).length q.2.2.1) q.2.2.2 (encs ((t.parts.take q.1).map (putT y))) ∧ q.1 ≤ t.parts.length) (fun q => t.parts.length - q.1) ((0, none, 0, none)) (⟨rfl, rfl, rfl, rfl, rfl, rfl⟩) (⟨hK, hb3, hb4, hb5, Gr.nil (by intro x hx; have := hK.size; simp at hx; rcases hx with rfl | rfl | hx; omega; omega; have := hL x hx; omega) (by omega), by simp⟩) ?_
    intro gg w9 e9 hI
    obtain ⟨i, a3, cc, g⟩ := gg
    dsimp only at hI ⊢
    obtain ⟨hK, hb3, hb4, hb5, hO, hk⟩ := hI
    have hsz := hK.size
    have hbl3 := hb3.lt
    have hbl4 := hb4.lt
    have hbl5 := hb5.lt
    refine zr <| ow_lss rfl rfl rfl rfl rfl <| ow_nil <| cw_seq <| zc rfl (fun h5 => ?_) (fun h5 => ?_)
    have hgt := nth_get (ps := t.parts) (i := i) (by omega)
    have hmw : ∀ x, x ∈ g.toList ++ (w7.heap.size :: w2.heap.size :: L) → x ∈ L ∨ w.heap.size ≤ x := by { intro x hx; rcases List.mem_append.1 hx with hx | hx; (· right; have := hO.low x (by simpa using hx); omega); (· simp at hx; rcases hx with rfl | rfl | hx; (· right; omega); (· right; omega); (· exact .inl hx)) }
    have hpsL : RTrees (g.toList ++ (w7.heap.size :: w2.heap.size :: L)) w9 _ t.parts := RTrees.ext (Rep.fresh hps hmw) hK
    have hY : RTree (g.toList ++ (w7.heap.size :: w2.heap.size :: L)) w9 _ y := RTree.ext (RepA.fresh hyk hmw) hK
    obtain ⟨b1, off1, pa, pn, pc, rfl, hcc, hpn, hpp⟩ := rtrees_get hpsL hgt
    subst hpn
    have hT := rtree_of hpp
    have hsp := nth_size (t := t) (i := i) (by omega)
    refine cw_skip <| cw_seq <| cw_block <| zr <| zi tSl61 tI73 rfl rfl (by omega) <| zL tAgg73 tI73 rfl (hcc) (rfl) <| ow_allocA tI73 rfl rfl rfl ?_
    intro w10 hk10 hb7 hz10
    have hK := hK.grow; have hK := hK.ext hk10; have hb3 := hb3.grow; have hb3 := hb3.ext hk10; have hb4 := hb4.grow; have hb4 := hb4.ext hk10; have hb5 := hb5.grow; have hb5 := hb5.ext hk10; have hO := hO.alloc hk10 hz10; have hT := hT.grow; have hT := hT.ext hk10; have hY := hY.grow; have hY := hY.ext hk10
    refine ow_storeA tI73 rfl rfl rfl rfl rfl hb7 rfl ?_
    intro w11 hk11 hb7 hz11
    have hK := hK.sto hk11 (by simp <;> omega); have hb3 := hb3.sto hk11 (by simp <;> omega); have hb4 := hb4.sto hk11 (by simp <;> omega); have hb5 := hb5.sto hk11 (by simp <;> omega); have hO := hO.sto hk11 (by simp <;> omega); have hT := hT.sto hk11 (by simp <;> omega); have hY := hY.sto hk11 (by simp <;> omega)
    refine ow_nil ?_
    refine cw_draw tMixed kept_new 6 [33, 34, 35, 36, 37, 38] [33, 34, 35, 36, 37, 38] [[], [0], [], [], [2, 3], [4]] [fun v _ => v = (.pointer (some ⟨w7.heap.size, 0 + 1, none⟩)), fun v _ => v = (.slice a3 ((t.parts.take i).map (putT y)).length cc), fun v _ => v = (.agg #[str (nth t.parts i).atom, .slice pa (nth t.parts i).parts.length pc]), fun v _ => v = (.agg #[str y.atom, .slice ya yn yc]), fun (v : Value) (ww : World) => RTree (g.toList ++ (w9.heap.size :: w7.heap.size :: w2.heap.size :: L)) ww v (putT y (nth t.parts i)), fun (v : Value) (ww : World) => ∃ b u1 u2, v = .slice (some ⟨b, 0, none⟩) 1 1 ∧ Blk ww b [u1, u2].toArray 73 ∧ RTree (g.toList ++ (w9.heap.size :: w7.heap.size :: w2.heap.size :: L)) ww (.agg #[u1, u2]) (putT y (nth t.parts i))] (by decide) (stab_eq (stab_eq (stab_eq (stab_eq (stab_gen (fun v w w' h k => RTree.ext h k) (stab_gen (fun v w w' ⟨b, u1, u2, e, h1, h2⟩ k => ⟨b, u1, u2, e, h1.ext k, RTree.ext h2 k⟩) trivial)))))) (fun wd hkd => ?_) ?_
    refine certs_cons ?_ ?_
    intro x vs w12 e hk12 hd he
    replace hk12 := kept_new.trans hkd hk12
    replace he : e = over (havoc _ x _) [] := he
    subst he
    refine zf tF73_1 rfl <| ow_nil ?_
    exact ⟨kept_new.refl _, rfl, by first | exact agree_put | exact agree_refl⟩
    refine certs_cons ?_ ?_
    intro x vs w12 e hk12 hd he
    have d0 : vs 0 = (.pointer (some ⟨w7.heap.size, 0 + 1, none⟩)) := hd
    replace hk12 := kept_new.trans hkd hk12
    have hb5 := hb5.ext hk12
    replace he : e = over (havoc _ x _) [(33, vs 0)] := he
    rw [d0] at he
    subst he
    refine zl tOne61 rfl (hb5.at rfl) <| ow_nil ?_
    exact ⟨kept_new.refl _, rfl, by first | exact agree_put | exact agree_refl⟩
    refine certs_cons ?_ ?_
    intro x vs w12 e hk12 hd he
    replace hk12 := kept_new.trans hkd hk12
    have hb7 := hb7.ext hk12
    replace he : e = over (havoc _ x _) [] := he
    subst he
    refine zL tAgg73 tI73 rfl hb7.all rfl <| ow_nil ?_
    exact ⟨kept_new.refl _, rfl, by first | exact agree_put | exact agree_refl⟩
    refine certs_cons ?_ ?_
    intro x vs w12 e hk12 hd he
    replace hk12 := kept_new.trans hkd hk12
    have hb3 := hb3.ext hk12
    replace he : e = over (havoc _ x _) [] := he
    subst he
    refine zL tAgg73 tI73 rfl hb3.all rfl <| ow_nil ?_
    exact ⟨kept_new.refl _, rfl, by first | exact agree_put | exact agree_refl⟩
    refine certs_cons ?_ ?_
    intro x vs w12 e hk12 hd he
    obtain ⟨d2, d3⟩ : (vs 2 = (.agg #[str (nth t.parts i).atom, .slice pa (nth t.parts i).parts.length pc])) ∧ (vs 3 = (.agg #[str y.atom, .slice ya yn yc])) := hd
    replace hk12 := kept_new.trans hkd hk12
    have hO := hO.ext hk12; have hT := hT.ext hk12; have hY := hY.ext hk12
    replace he : e = over (havoc _ x _) [(35, vs 2), (36, vs 3)] := he
    rw [d2, d3] at he
    subst he
    refine ow_call rfl rfl (ih (nth t.parts i) (by omega) (by omega) (hwf.nth (by omega)) _ _ (g.toList ++ (w9.heap.size :: w7.heap.size :: w2.heap.size :: L)) w12 (RTree.weak hT (by intro x hx; simp at hx ⊢; rcases hx with h | h | h | h | h <;> simp [h])) (RTree.weak hY (by intro x hx; simp at hx ⊢; rcases hx with h | h | h | h | h <;> simp [h])) hO.all) ?_
    rintro v13 w13 ⟨hv13, hk13⟩
    have hs13 := hk13.size
    have hq9 := hv13
    refine ow_nil ?_
    exact ⟨kept_new.of hk13, hq9, by first | exact agree_put | exact agree_refl⟩
    refine certs_cons ?_ ?_
    intro x vs w12 e hk12 hd he
    have d4 : (fun (v : Value) (ww : World) => RTree (g.toList ++ (w9.heap.size :: w7.heap.size :: w2.heap.size :: L)) ww v (putT y (nth t.parts i))) (vs 4) w12 := hd
    replace hk12 := kept_new.trans hkd hk12
    replace he : e = over (havoc _ x _) [(37, vs 4)] := he
    obtain ⟨a7, n7, c7, e7, _, _⟩ := rtree_cases d4
    rw [e7] at he
    rw [e7] at d4
    subst he
    refine ow_buildSlice1 tSl61 tI73 rfl rfl rfl rfl rfl rfl rfl rfl ?_
    intro w13 hk13 hb38 hz13
    refine ow_nil ?_
    exact ⟨kept_new.of hk13, ⟨_, _, _, rfl, hb38, RTree.ext d4 hk13⟩, by first | exact agree_put | exact agree_refl⟩
    exact trivial
    intro x vs w51 hk51 hdraw
    have d0 : vs 0 = (.pointer (some ⟨w7.heap.size, 0 + 1, none⟩)) := hdraw 0 (by decide)
    have d1 : vs 1 = (.slice a3 ((t.parts.take i).map (putT y)).length cc) := hdraw 1 (by decide)
    have d2 : vs 2 = (.agg #[str (nth t.parts i).atom, .slice pa (nth t.parts i).parts.length pc]) := hdraw 2 (by decide)
    have d3 : vs 3 = (.agg #[str y.atom, .slice ya yn yc]) := hdraw 3 (by decide)
    have d4 : (fun (v : Value) (ww : World) => RTree (g.toList ++ (w9.heap.size :: w7.heap.size :: w2.heap.size :: L)) ww v (putT y (nth t.parts i))) (vs 4) w51 := hdraw 4 (by decide)
    have d5 : (fun (v : Value) (ww : World) => ∃ b u1 u2, v = .slice (some ⟨b, 0, none⟩) 1 1 ∧ Blk ww b [u1, u2].toArray 73 ∧ RTree (g.toList ++ (w9.heap.size :: w7.heap.size :: w2.heap.size :: L)) ww (.agg #[u1, u2]) (putT y (nth t.parts i))) (vs 5) w51 := hdraw 5 (by decide)
    have hK := hK.ext hk51; have hb3 := hb3.ext hk51; have hb4 := hb4.ext hk51; have hb5 := hb5.ext hk51; have hO := hO.ext hk51
    change OW _ _ _ _ _ (over (havoc _ x _) [(33, vs 0), (34, vs 1), (35, vs 2), (36, vs 3), (37, vs 4), (38, vs 5)]) _
    rw [d0, d1, d2, d3]
    obtain ⟨nb, u1, u2, e7, hbn, ht⟩ := d5
    rw [e7]
    refine ow_growT tSl61 tI73 rfl rfl rfl rfl rfl rfl hO hbn ht (by rw [map_take_len _ hk]; omega) ?_
    intro a4 cc4 g4 w52 hO3 hk52
    have hK := Keep.older (by omega) hO.low hK hk52
    have hb3 := hb3.sto hk52 (hO.sepB (by omega)); have hb4 := hb4.sto hk52 (hO.sepL (by simp)); have hb5 := hb5.sto hk52 (hO.sepL (by simp))
    rw [map_take_snoc (putT y) hgt] at hO3 ⊢
    refine zf tF73_1 rfl <| ow_storeB tI61 rfl rfl rfl rfl hb5 rfl ?_
    intro w53 hk53 hb5 hz53
    have hK := hK.sto hk53 (by simp <;> omega); have hb3 := hb3.sto hk53 (by simp <;> omega); have hb4 := hb4.sto hk53 (by simp <;> omega); have hO3 := hO3.sto hk53 (by simp <;> omega)
    refine ow_nil <| cw_region <| ow_add rfl rfl rfl rfl rfl (wrap_i64 _ (by omega) (by omega)) <| zm <| ow_nil ?_
    exact ⟨(i + 1, a4, cc4, g4), ⟨rfl, rfl, rfl, rfl, rfl, rfl⟩, ⟨hK, hb3, hb4, hb5, hO3.weak (fun x hx => List.mem_cons_of_mem _ hx), by dsimp only; omega⟩, by dsimp only; omega⟩
    rw [map_take_all (putT y) (by omega)] at hb5 hO
    refine cw_exit <| x_hit rfl <| zr <| zL tAgg73 tI73 rfl hb5.all rfl <| ow_storeA tI73 rfl rfl rfl rfl rfl hb4 rfl ?_
    intro w10 hk10 hb4 hz10
    have hK := hK.sto hk10 (by simp <;> omega); have hO := hO.sto hk10 (by simp <;> omega)
    refine ow_nil <| cw_ret ?_
    exact ⟨[_], resultAt_blk tAgg73 tI73 rfl hb4 rfl, by rw [hq]; exact rtree_mk (hO.trees.weak (fun x hx => by simp [hx])), hK⟩
end Go.Proofs.YtnkjgoholocliaaGreatDoor

namespace Go.Proofs.YtnkjgoholocliaaGreatDoor
open Go

theorem isReg_cases {s : Bytes} (h : isReg s = true) : ∃ r : Nat, r < 40 ∧ numeral s = some (r : Int) ∧ regN s = r := by
  have h0 : 0 ≤ regZ s := of_decide_eq_true h
  cases hn : numeral s with
  | none => unfold regZ at h0; rw [hn] at h0; simp at h0
  | some z =>
    have e : regZ s = if 0 ≤ z ∧ z ≤ 39 then z else -1 := by unfold regZ; rw [hn]
    by_cases hz : 0 ≤ z ∧ z ≤ 39
    · rw [if_pos hz] at e
      exact ⟨z.toNat, by omega, by rw [Int.toNat_of_nonneg hz.1], by unfold regN; rw [e]⟩
    · rw [if_neg hz] at e; omega
theorem findI_cases (l : Bytes) : ∀ ps : List IBk, (findI ps l = -1 ∧ regsOf ps l = none) ∨ ∃ k, k < ps.length ∧ findI ps l = (k : Int) ∧ regsOf ps l = some (ith ps k).regs := by
  intro ps
  have key : ∀ ps : List IBk, (ps.findIdx? (fun b => decide (b.label = l)) = none ∧ regsOf ps l = none) ∨ ∃ k, k < ps.length ∧ ps.findIdx? (fun b => decide (b.label = l)) = some k ∧ regsOf ps l = some (ith ps k).regs := by
    intro ps
    induction ps with
    | nil => exact .inl ⟨rfl, rfl⟩
    | cons b ps ih =>
      unfold regsOf at ih ⊢
      rw [List.findIdx?_cons, List.find?_cons]
      by_cases h : b.label = l
      · rw [if_pos (decide_eq_true h)]
        refine .inr ⟨0, by simp, rfl, ?_⟩
        rw [decide_eq_true h]; simp
      · rw [if_neg (by simpa using h), decide_eq_false h]
        rcases ih with ⟨h1, h2⟩ | ⟨k, hk, h1, h2⟩
        · exact .inl ⟨by rw [h1]; rfl, h2⟩
        · refine .inr ⟨k + 1, by simpa using hk, by rw [h1]; rfl, ?_⟩
          simp only [h2]; simp
  unfold findI
  rcases key ps with ⟨h1, h2⟩ | ⟨k, hk, h1, h2⟩
  · exact .inl ⟨by rw [h1], h2⟩
  · exact .inr ⟨k, hk, by rw [h1], h2⟩

theorem regs_ret (ps : List IBk) (hlen : ps.length < 1000000000) (l : Bytes) (v : Value) (L : List Nat) (w : World) (hv : RProg L w v ps) :
    Ret Tryz.prog 122 [v, str l] w fun r w' => (∃ a c, r = .tuple #[.slice a ((regsOf ps l).getD []).length c, .bool (regsOf ps l).isSome] ∧ RTrees L w' (.slice a ((regsOf ps l).getD []).length c) ((regsOf ps l).getD [])) ∧ Keep [] w w' := by
  obtain ⟨a, c, rfl⟩ := rprog_cases hv
  have hK := Keep.refl [] w
  refine ret_of [.tmp 4, .tmp 5] 17 Tryz.func122 rfl nm122 rfl rfl ?_
  refine zr <| zA <| zA <| ow_nil <| zr <| zm <| zm <| ow_call rfl rfl (findP_ret ps hlen l _ L w (hv.ext hK)) ?_
  rintro v1 w1 ⟨hv1, hk1⟩
  have hs1 := hk1.size
  have hK := hK.ext hk1
  obtain rfl := hv1
  refine zA <| ow_nil <| cw_seq <| zr <| zm <| ow_lss rfl rfl rfl rfl rfl <| ow_nil <| zc rfl (fun h1 => ?_) (fun h1 => ?_)
  have hq : regsOf ps l = none := by rcases findI_cases l ps with ⟨_, h2⟩ | ⟨k, _, h1, _⟩; exact h2; omega
  refine zr <| zA <| zA <| ow_nil <| cw_ret ?_
  rw [hq]
  exact ⟨_, rfl, ⟨_, _, rfl, rtrees_nil⟩, hK⟩
  obtain ⟨k, hk, h1, hq⟩ : ∃ k, k < ps.length ∧ findI ps l = (k : Int) ∧ regsOf ps l = some (ith ps k).regs := by rcases findI_cases l ps with ⟨h1, _⟩ | h; omega; exact h
  rw [h1]
  obtain ⟨b, off, r1, rc1, r2, rc2, rfl, hc, hr1, hr2⟩ := rprog_get (hv.ext hK) (ith_get hk)
  refine cw_skip <| zr <| zm <| zm <| zi tSl58 tI63 rfl rfl (by omega) <| zf tF63_1 rfl <| zl tOne61 rfl (hc 1 _ rfl) <| zA <| zA <| ow_nil <| cw_ret ?_
  rw [hq]
  exact ⟨_, rfl, ⟨_, _, rfl, hr1⟩, hK⟩

theorem reg_ret (s : Bytes) (hs : isReg s = true) (L : List Nat) (b : Nat) (st : TS) (opens : Nat) (fv : Value) (w : World) (hC : Chk L w b 153 st opens fv) :
    Ret Tryz.prog 147 [.pointer (some ⟨b, 0, none⟩), str s] w fun r w' => (∃ t tv, r = .tuple #[tv, .bool (regT st s).isSome] ∧ RTree (b :: L) w' tv t ∧ ∀ t', regT st s = some t' → t = t') ∧ Keep [] w w' := by
  obtain ⟨r, hr, hn, hrn⟩ := isReg_cases hs
  have hK := Keep.refl [] w
  have hreg : regT st s = st.getD r none := by unfold regT; rw [hrn]
  rw [hreg]
  refine ret_gen [.cell 4 73, .tmp 5] 21 Tryz.func147 rfl nm147 rfl rfl rfl ?_
  refine zr <| ow_allocA tI73 rfl rfl rfl ?_
  intro w1 hk1 hb4 hz1
  have hK := hK.grow; have hK := hK.ext hk1; have hC := hC.grow; have hC := hC.ext hk1
  refine zA <| ow_nil <| zr <| zm <| ow_call rfl rfl (number_ret s hn w1) ?_
  rintro v2 w2 ⟨hv2, hk2⟩
  have hs2 := hk2.size
  have hK := hK.ext hk2; have hC := hC.ext hk2; have hb4 := hb4.ext hk2
  obtain rfl := hv2
  refine zA <| ow_nil <| cw_seq ?_
  obtain ⟨t, a, c, hR, ht⟩ := hC.regAt hr
  refine cw_draw tMixed (kept_ks (w.heap.size) ([str t.atom, .slice a t.parts.length c]) 73) 13 [9, 10, 11, 12, 13, 14, 15, 16, 17, 18, 19, 20, 100012] [9, 10, 11, 12, 13, 14, 15, 16, 17, 18, 19, 20, 100012] [[], [], [0], [2], [1, 3], [4], [], [], [6], [8], [7, 9], [10], [5]] [fun v _ => v = (.pointer (some ⟨b, 0, none⟩)), fun v _ => v = (.int .i64 (r : Int)), fun v _ => v = (.pointer (some ⟨b, 0, none⟩)), fun v _ => v = (.pointer (some ⟨b, 0 + 0, none⟩)), fun v _ => v = (.pointer (some ⟨b, 0 + 0 + r * 2, none⟩)), fun v _ => v = (.agg #[str t.atom, .slice a t.parts.length c]), fun v _ => v = (.pointer (some ⟨b, 0, none⟩)), fun v _ => v = (.int .i64 (r : Int)), fun v _ => v = (.pointer (some ⟨b, 0, none⟩)), fun v _ => v = (.pointer (some ⟨b, 0 + 80, none⟩)), fun v _ => v = (.pointer (some ⟨b, 0 + 80 + r * 1, none⟩)), fun v _ => v = (.bool (st.getD r none).isSome), fun _ ww => Blk ww (w.heap.size) ([str t.atom, .slice a t.parts.length c]).toArray 73] (by decide) (stab_eq (stab_eq (stab_eq (stab_eq (stab_eq (stab_eq (stab_eq (stab_eq (stab_eq (stab_eq (stab_eq (stab_eq (stab_sto trivial))))))))))))) (fun wd hkd => ?_) ?_
  refine certs_cons ?_ ?_
  intro x vs w3 e hk3 hd he
  replace hk3 := (kept_ks (w.heap.size) ([str t.atom, .slice a t.parts.length c]) 73).trans hkd hk3
  replace he : e = over (havoc _ x _) [] := he
  subst he
  refine zm <| ow_nil ?_
  exact ⟨(kept_ks (w.heap.size) ([str t.atom, .slice a t.parts.length c]) 73).refl _, rfl, by first | exact agree_put | exact agree_refl⟩
  refine certs_cons ?_ ?_
  intro x vs w3 e hk3 hd he
  replace hk3 := (kept_ks (w.heap.size) ([str t.atom, .slice a t.parts.length c]) 73).trans hkd hk3
  replace he : e = over (havoc _ x _) [] := he
  subst he
  refine zm <| ow_nil ?_
  exact ⟨(kept_ks (w.heap.size) ([str t.atom, .slice a t.parts.length c]) 73).refl _, rfl, by first | exact agree_put | exact agree_refl⟩
  refine certs_cons ?_ ?_
  intro x vs w3 e hk3 hd he
  have d0 : vs 0 = (.pointer (some ⟨b, 0, none⟩)) := hd
  replace hk3 := (kept_ks (w.heap.size) ([str t.atom, .slice a t.parts.length c]) 73).trans hkd hk3
  replace he : e = over (havoc _ x _) [(9, vs 0)] := he
  rw [d0] at he
  subst he
  refine ow_nilCheck rfl rfl rfl <| ow_nil ?_
  exact ⟨(kept_ks (w.heap.size) ([str t.atom, .slice a t.parts.length c]) 73).refl _, rfl, by first | exact agree_put | exact agree_refl⟩
  refine certs_cons ?_ ?_
  intro x vs w3 e hk3 hd he
  have d2 : vs 2 = (.pointer (some ⟨b, 0, none⟩)) := hd
  replace hk3 := (kept_ks (w.heap.size) ([str t.atom, .slice a t.parts.length c]) 73).trans hkd hk3
  replace he : e = over (havoc _ x _) [(11, vs 2)] := he
  rw [d2] at he
  subst he
  refine zf tF153_0 rfl <| ow_nil ?_
  exact ⟨(kept_ks (w.heap.size) ([str t.atom, .slice a t.parts.length c]) 73).refl _, rfl, by first | exact agree_put | exact agree_refl⟩
  refine certs_cons ?_ ?_
  intro x vs w3 e hk3 hd he
  obtain ⟨d1, d3⟩ : (vs 1 = (.int .i64 (r : Int))) ∧ (vs 3 = (.pointer (some ⟨b, 0 + 0, none⟩))) := hd
  replace hk3 := (kept_ks (w.heap.size) ([str t.atom, .slice a t.parts.length c]) 73).trans hkd hk3
  replace he : e = over (havoc _ x _) [(10, vs 1), (12, vs 3)] := he
  rw [d1, d3] at he
  subst he
  refine ow_indexAddrA tAr151 tI73 rfl rfl rfl rfl (by omega) <| ow_nil ?_
  exact ⟨(kept_ks (w.heap.size) ([str t.atom, .slice a t.parts.length c]) 73).refl _, rfl, by first | exact agree_put | exact agree_refl⟩
  refine certs_cons ?_ ?_
  intro x vs w3 e hk3 hd he
  have d4 : vs 4 = (.pointer (some ⟨b, 0 + 0 + r * 2, none⟩)) := hd
  replace hk3 := (kept_ks (w.heap.size) ([str t.atom, .slice a t.parts.length c]) 73).trans hkd hk3
  have hR := hR.sto hk3.1 (by simp <;> omega)
  replace he : e = over (havoc _ x _) [(13, vs 4)] := he
  rw [d4] at he
  subst he
  refine zL tAgg73 tI73 rfl (hR.c1) (rfl) <| ow_nil ?_
  exact ⟨(kept_ks (w.heap.size) ([str t.atom, .slice a t.parts.length c]) 73).refl _, rfl, by first | exact agree_put | exact agree_refl⟩
  refine certs_cons ?_ ?_
  intro x vs w3 e hk3 hd he
  replace hk3 := (kept_ks (w.heap.size) ([str t.atom, .slice a t.parts.length c]) 73).trans hkd hk3
  replace he : e = over (havoc _ x _) [] := he
  subst he
  refine zm <| ow_nil ?_
  exact ⟨(kept_ks (w.heap.size) ([str t.atom, .slice a t.parts.length c]) 73).refl _, rfl, by first | exact agree_put | exact agree_refl⟩
  refine certs_cons ?_ ?_
  intro x vs w3 e hk3 hd he
  replace hk3 := (kept_ks (w.heap.size) ([str t.atom, .slice a t.parts.length c]) 73).trans hkd hk3
  replace he : e = over (havoc _ x _) [] := he
  subst he
  refine zm <| ow_nil ?_
  exact ⟨(kept_ks (w.heap.size) ([str t.atom, .slice a t.parts.length c]) 73).refl _, rfl, by first | exact agree_put | exact agree_refl⟩
  refine certs_cons ?_ ?_
  intro x vs w3 e hk3 hd he
  have d6 : vs 6 = (.pointer (some ⟨b, 0, none⟩)) := hd
  replace hk3 := (kept_ks (w.heap.size) ([str t.atom, .slice a t.parts.length c]) 73).trans hkd hk3
  replace he : e = over (havoc _ x _) [(15, vs 6)] := he
  rw [d6] at he
  subst he
  refine ow_nilCheck rfl rfl rfl <| ow_nil ?_
  exact ⟨(kept_ks (w.heap.size) ([str t.atom, .slice a t.parts.length c]) 73).refl _, rfl, by first | exact agree_put | exact agree_refl⟩
  refine certs_cons ?_ ?_
  intro x vs w3 e hk3 hd he
  have d8 : vs 8 = (.pointer (some ⟨b, 0, none⟩)) := hd
  replace hk3 := (kept_ks (w.heap.size) ([str t.atom, .slice a t.parts.length c]) 73).trans hkd hk3
  replace he : e = over (havoc _ x _) [(17, vs 8)] := he
  rw [d8] at he
  subst he
  refine zf tF153_1 rfl <| ow_nil ?_
  exact ⟨(kept_ks (w.heap.size) ([str t.atom, .slice a t.parts.length c]) 73).refl _, rfl, by first | exact agree_put | exact agree_refl⟩
  refine certs_cons ?_ ?_
  intro x vs w3 e hk3 hd he
  obtain ⟨d7, d9⟩ : (vs 7 = (.int .i64 (r : Int))) ∧ (vs 9 = (.pointer (some ⟨b, 0 + 80, none⟩))) := hd
  replace hk3 := (kept_ks (w.heap.size) ([str t.atom, .slice a t.parts.length c]) 73).trans hkd hk3
  replace he : e = over (havoc _ x _) [(16, vs 7), (18, vs 9)] := he
  rw [d7, d9] at he
  subst he
  refine ow_indexAddrA tAr137 tI4 rfl rfl rfl rfl (by omega) <| ow_nil ?_
  exact ⟨(kept_ks (w.heap.size) ([str t.atom, .slice a t.parts.length c]) 73).refl _, rfl, by first | exact agree_put | exact agree_refl⟩
  refine certs_cons ?_ ?_
  intro x vs w3 e hk3 hd he
  have d10 : vs 10 = (.pointer (some ⟨b, 0 + 80 + r * 1, none⟩)) := hd
  replace hk3 := (kept_ks (w.heap.size) ([str t.atom, .slice a t.parts.length c]) 73).trans hkd hk3
  have hR := hR.sto hk3.1 (by simp <;> omega)
  replace he : e = over (havoc _ x _) [(19, vs 10)] := he
  rw [d10] at he
  subst he
  refine zl tOne4 rfl (hR.c2 0 _ rfl) <| ow_nil ?_
  exact ⟨(kept_ks (w.heap.size) ([str t.atom, .slice a t.parts.length c]) 73).refl _, rfl, by first | exact agree_put | exact agree_refl⟩
  refine certs_cons ?_ ?_
  intro x vs w3 e hk3 hd he
  have d5 : vs 5 = (.agg #[str t.atom, .slice a t.parts.length c]) := hd
  replace hk3 := (kept_ks (w.heap.size) ([str t.atom, .slice a t.parts.length c]) 73).trans hkd hk3
  obtain ⟨us, hus, hbu⟩ := hk3.2.2 ⟨_, (by rfl), hb4⟩
  replace he : e = over (havoc _ x _) [(14, vs 5)] := he
  rw [d5] at he
  subst he
  refine ow_storeA tI73 rfl rfl rfl rfl rfl hbu (by rw [hus]; rfl) ?_
  intro w4 hk4 hb hz4
  refine ow_nil ?_
  exact ⟨⟨hk4, fun _ => hb, fun _ => ⟨_, rfl, hb⟩⟩, hb, by first | exact agree_put | exact agree_refl⟩
  exact trivial
  intro x vs w42 hk42 hdraw
  have d0 : vs 0 = (.pointer (some ⟨b, 0, none⟩)) := hdraw 0 (by decide)
  have d1 : vs 1 = (.int .i64 (r : Int)) := hdraw 1 (by decide)
  have d2 : vs 2 = (.pointer (some ⟨b, 0, none⟩)) := hdraw 2 (by decide)
  have d3 : vs 3 = (.pointer (some ⟨b, 0 + 0, none⟩)) := hdraw 3 (by decide)
  have d4 : vs 4 = (.pointer (some ⟨b, 0 + 0 + r * 2, none⟩)) := hdraw 4 (by decide)
  have d5 : vs 5 = (.agg #[str t.atom, .slice a t.parts.length c]) := hdraw 5 (by decide)
  have d6 : vs 6 = (.pointer (some ⟨b, 0, none⟩)) := hdraw 6 (by decide)
  have d7 : vs 7 = (.int .i64 (r : Int)) := hdraw 7 (by decide)
  have d8 : vs 8 = (.pointer (some ⟨b, 0, none⟩)) := hdraw 8 (by decide)
  have d9 : vs 9 = (.pointer (some ⟨b, 0 + 80, none⟩)) := hdraw 9 (by decide)
  have d10 : vs 10 = (.pointer (some ⟨b, 0 + 80 + r * 1, none⟩)) := hdraw 10 (by decide)
  have d11 : vs 11 = (.bool (st.getD r none).isSome) := hdraw 11 (by decide)
  have d12 : Blk w42 (w.heap.size) ([str t.atom, .slice a t.parts.length c]).toArray 73 := hdraw 12 (by decide)
  have hK := hK.sto hk42.1 (by simp <;> omega); have hR := hR.sto hk42.1 (by simp <;> omega)
  have hb4 := d12
  change OW _ _ _ _ _ (over (havoc _ x _) [(9, vs 0), (10, vs 1), (11, vs 2), (12, vs 3), (13, vs 4), (14, vs 5), (15, vs 6), (16, vs 7), (17, vs 8), (18, vs 9), (19, vs 10), (20, vs 11), (100012, vs 12)]) _
  rw [d0, d1, d2, d3, d4, d5, d6, d7, d8, d9, d10, d11]
  refine zA <| ow_nil <| cw_ret ?_
  exact ⟨[_, _], ⟨resultAt_blk tAgg73 tI73 rfl hb4 rfl, rfl⟩, ⟨t, _, rfl, RTree.weak hR.tree (by intro x hx; simp at hx ⊢; rcases hx with h | h <;> simp [h]), ht⟩, hK⟩
end Go.Proofs.YtnkjgoholocliaaGreatDoor

namespace Go.Proofs.YtnkjgoholocliaaGreatDoor
open Go

theorem give_ret (s : Bytes) (hs : isReg s = true) (L : List Nat) (b : Nat) (st : TS) (opens : Nat) (fv : Value) (w : World) (hC : Chk L w b 153 st opens fv) (t : Tree) (hq1 : t.size ≤ 1000000000) (hq2 : t.len ≤ 1000000000) (vt : Value) (ht : RTree (b :: L) w vt t) :
    Ret Tryz.prog 148 [.pointer (some ⟨b, 0, none⟩), str s, vt] w fun v w' => v = .bool (setT st (regN s) (some t)).isSome ∧ Chk L w' b 153 ((setT st (regN s) (some t)).getD st) opens fv ∧ Keep [b] w w' := by
  obtain ⟨r, hr, hn, hrn⟩ := isReg_cases hs
  rw [hrn]
  have ht0 := ht
  obtain ⟨pa, pn, pc, rfl, hpn, hps⟩ := rtree_cases ht
  subst hpn
  have hK := Keep.refl [] w
  have hlt := hC.lt
  refine ret_of [.tmp 6] 24 Tryz.func148 rfl nm148 rfl rfl ?_
  refine zr <| ow_boxA rfl rfl rfl ?_
  intro w1 hk1 hb5 hz1
  have hK := hK.ext hk1; have hC := hC.ext hk1; have ht0 := ht0.ext hk1
  refine zA <| ow_nil <| cw_seq <| zr <| zL tAgg73 tI73 rfl hb5.all rfl <| ow_call rfl rfl (fits_ret t hq1 hq2 _ _ w1 ht0) ?_
  rintro v2 w2 ⟨hv2, hk2⟩
  have hs2 := hk2.size
  have hK := hK.ext hk2; have hC := hC.ext hk2; have ht0 := ht0.ext hk2; have hb5 := hb5.ext hk2
  obtain rfl := hv2
  refine ow_not rfl rfl rfl <| ow_nil <| zc rfl (fun h1 => ?_) (fun h1 => ?_)
  have hq : setT st r (some t) = none := by simp only [setT, Option.bind_some]; rw [if_neg (by simpa using h1)]
  refine zr <| zA <| ow_nil <| cw_ret ?_
  exact ⟨_, rfl, by rw [hq]; rfl, by rw [hq]; exact hC, hK.any⟩
  have hq : setT st r (some t) = some (st.set r (some t)) := by simp only [setT, Option.bind_some]; rw [if_pos (by simpa using h1)]
  refine cw_skip <| zr <| zm <| ow_call rfl rfl (number_ret s hn w2) ?_
  rintro v3 w3 ⟨hv3, hk3⟩
  have hs3 := hk3.size
  have hK := hK.ext hk3; have hC := hC.ext hk3; have ht0 := ht0.ext hk3; have hb5 := hb5.ext hk3
  obtain rfl := hv3
  have hKw := hK
  have hCw := hC
  have htw := ht0
  refine zA <| ow_nil <| cw_seq ?_
  have hkept := (kept_kw b 153 (rowAt (0 + 0 + r * 2) [str t.atom, .slice pa t.parts.length pc]))
  refine cw_draw tMixed hkept 12 [13, 14, 15, 16, 17, 18, 19, 20, 100008, 21, 22, 23] [13, 14, 15, 16, 17, 18, 19, 20, 100008, 21, 22, 23] [[], [], [], [], [], [0], [5], [1, 6], [4, 7], [2], [9], [3, 10]] [fun v _ => v = (.pointer (some ⟨b, 0, none⟩)), fun v _ => v = (.int .i64 (r : Int)), fun v _ => v = (.pointer (some ⟨b, 0, none⟩)), fun v _ => v = (.int .i64 (r : Int)), fun v _ => v = (.agg #[str t.atom, .slice pa t.parts.length pc]), fun v _ => v = (.pointer (some ⟨b, 0, none⟩)), fun v _ => v = (.pointer (some ⟨b, 0 + 0, none⟩)), fun v _ => v = (.pointer (some ⟨b, 0 + 0 + r * 2, none⟩)), fun _ ww => PutC b 153 (rowAt (0 + 0 + r * 2) [str t.atom, .slice pa t.parts.length pc]) ww, fun v _ => v = (.pointer (some ⟨b, 0, none⟩)), fun v _ => v = (.pointer (some ⟨b, 0 + 80, none⟩)), fun v _ => v = (.pointer (some ⟨b, 0 + 80 + r * 1, none⟩))] (by decide) (stab_eq (stab_eq (stab_eq (stab_eq (stab_eq (stab_eq (stab_eq (stab_eq (stab_gen (fun v w w' h k => PutC.stab (rowAt_fun _ _) h k) (stab_eq (stab_eq (stab_eq trivial)))))))))))) (fun wd hkd => ?_) ?_
  refine certs_cons ?_ ?_
  intro x vs w4 e hk4 hd he
  replace hk4 := hkept.trans hkd hk4
  replace he : e = over (havoc _ x _) [] := he
  subst he
  refine zm <| ow_nil ?_
  exact ⟨hkept.refl _, rfl, by first | exact agree_put | exact agree_refl⟩
  refine certs_cons ?_ ?_
  intro x vs w4 e hk4 hd he
  replace hk4 := hkept.trans hkd hk4
  replace he : e = over (havoc _ x _) [] := he
  subst he
  refine zm <| ow_nil ?_
  exact ⟨hkept.refl _, rfl, by first | exact agree_put | exact agree_refl⟩
  refine certs_cons ?_ ?_
  intro x vs w4 e hk4 hd he
  replace hk4 := hkept.trans hkd hk4
  replace he : e = over (havoc _ x _) [] := he
  subst he
  refine zm <| ow_nil ?_
  exact ⟨hkept.refl _, rfl, by first | exact agree_put | exact agree_refl⟩
  refine certs_cons ?_ ?_
  intro x vs w4 e hk4 hd he
  replace hk4 := hkept.trans hkd hk4
  replace he : e = over (havoc _ x _) [] := he
  subst he
  refine zm <| ow_nil ?_
  exact ⟨hkept.refl _, rfl, by first | exact agree_put | exact agree_refl⟩
  refine certs_cons ?_ ?_
  intro x vs w4 e hk4 hd he
  replace hk4 := hkept.trans hkd hk4
  have hb5 := hb5.sto hk4.1 (by simp <;> omega)
  replace he : e = over (havoc _ x _) [] := he
  subst he
  refine zL tAgg73 tI73 rfl hb5.all rfl <| ow_nil ?_
  exact ⟨hkept.refl _, rfl, by first | exact agree_put | exact agree_refl⟩
  refine certs_cons ?_ ?_
  intro x vs w4 e hk4 hd he
  have d0 : vs 0 = (.pointer (some ⟨b, 0, none⟩)) := hd
  replace hk4 := hkept.trans hkd hk4
  replace he : e = over (havoc _ x _) [(13, vs 0)] := he
  rw [d0] at he
  subst he
  refine ow_nilCheck rfl rfl rfl <| ow_nil ?_
  exact ⟨hkept.refl _, rfl, by first | exact agree_put | exact agree_refl⟩
  refine certs_cons ?_ ?_
  intro x vs w4 e hk4 hd he
  have d5 : vs 5 = (.pointer (some ⟨b, 0, none⟩)) := hd
  replace hk4 := hkept.trans hkd hk4
  replace he : e = over (havoc _ x _) [(18, vs 5)] := he
  rw [d5] at he
  subst he
  refine zf tF153_0 rfl <| ow_nil ?_
  exact ⟨hkept.refl _, rfl, by first | exact agree_put | exact agree_refl⟩
  refine certs_cons ?_ ?_
  intro x vs w4 e hk4 hd he
  obtain ⟨d1, d6⟩ : (vs 1 = (.int .i64 (r : Int))) ∧ (vs 6 = (.pointer (some ⟨b, 0 + 0, none⟩))) := hd
  replace hk4 := hkept.trans hkd hk4
  replace he : e = over (havoc _ x _) [(14, vs 1), (19, vs 6)] := he
  rw [d1, d6] at he
  subst he
  refine ow_indexAddrA tAr151 tI73 rfl rfl rfl rfl (by omega) <| ow_nil ?_
  exact ⟨hkept.refl _, rfl, by first | exact agree_put | exact agree_refl⟩
  refine certs_cons ?_ ?_
  intro x vs w4 e hk4 hd he
  obtain ⟨d4, d7⟩ : (vs 4 = (.agg #[str t.atom, .slice pa t.parts.length pc])) ∧ (vs 7 = (.pointer (some ⟨b, 0 + 0 + r * 2, none⟩))) := hd
  replace hk4 := hkept.trans hkd hk4
  replace he : e = over (havoc _ x _) [(17, vs 4), (20, vs 7)] := he
  rw [d4, d7] at he
  subst he
  obtain ⟨cs0, hbk0, hcc0⟩ := hCw.ex
  obtain ⟨cs1, hbk1, hsz1, _⟩ := hk4.2 cs0 hbk0
  have hcz := hcc0.size
  refine ow_storeM tI73 rfl rfl rfl rfl rfl rfl hbk1 (by simp only [List.length_cons, List.length_nil]; omega) ?_
  intro w5 hk5 hbk2 hkw hz9
  refine ow_nil ?_
  exact ⟨hkw, putC_of hbk2 (by simp only [List.length_cons, List.length_nil]; omega), by first | exact agree_put | exact agree_refl⟩
  refine certs_cons ?_ ?_
  intro x vs w4 e hk4 hd he
  have d2 : vs 2 = (.pointer (some ⟨b, 0, none⟩)) := hd
  replace hk4 := hkept.trans hkd hk4
  replace he : e = over (havoc _ x _) [(15, vs 2)] := he
  rw [d2] at he
  subst he
  refine ow_nilCheck rfl rfl rfl <| ow_nil ?_
  exact ⟨hkept.refl _, rfl, by first | exact agree_put | exact agree_refl⟩
  refine certs_cons ?_ ?_
  intro x vs w4 e hk4 hd he
  have d9 : vs 9 = (.pointer (some ⟨b, 0, none⟩)) := hd
  replace hk4 := hkept.trans hkd hk4
  replace he : e = over (havoc _ x _) [(21, vs 9)] := he
  rw [d9] at he
  subst he
  refine zf tF153_1 rfl <| ow_nil ?_
  exact ⟨hkept.refl _, rfl, by first | exact agree_put | exact agree_refl⟩
  refine certs_cons ?_ ?_
  intro x vs w4 e hk4 hd he
  obtain ⟨d3, d10⟩ : (vs 3 = (.int .i64 (r : Int))) ∧ (vs 10 = (.pointer (some ⟨b, 0 + 80, none⟩))) := hd
  replace hk4 := hkept.trans hkd hk4
  replace he : e = over (havoc _ x _) [(16, vs 3), (22, vs 10)] := he
  rw [d3, d10] at he
  subst he
  refine ow_indexAddrA tAr137 tI4 rfl rfl rfl rfl (by omega) <| ow_nil ?_
  exact ⟨hkept.refl _, rfl, by first | exact agree_put | exact agree_refl⟩
  exact trivial
  intro x vs w43 hk43 hdraw
  have d0 : vs 0 = (.pointer (some ⟨b, 0, none⟩)) := hdraw 0 (by decide)
  have d1 : vs 1 = (.int .i64 (r : Int)) := hdraw 1 (by decide)
  have d2 : vs 2 = (.pointer (some ⟨b, 0, none⟩)) := hdraw 2 (by decide)
  have d3 : vs 3 = (.int .i64 (r : Int)) := hdraw 3 (by decide)
  have d4 : vs 4 = (.agg #[str t.atom, .slice pa t.parts.length pc]) := hdraw 4 (by decide)
  have d5 : vs 5 = (.pointer (some ⟨b, 0, none⟩)) := hdraw 5 (by decide)
  have d6 : vs 6 = (.pointer (some ⟨b, 0 + 0, none⟩)) := hdraw 6 (by decide)
  have d7 : vs 7 = (.pointer (some ⟨b, 0 + 0 + r * 2, none⟩)) := hdraw 7 (by decide)
  have d8 : (fun _ ww => PutC b 153 (rowAt (0 + 0 + r * 2) [str t.atom, .slice pa t.parts.length pc]) ww) (vs 8) w43 := hdraw 8 (by decide)
  have d9 : vs 9 = (.pointer (some ⟨b, 0, none⟩)) := hdraw 9 (by decide)
  have d10 : vs 10 = (.pointer (some ⟨b, 0 + 80, none⟩)) := hdraw 10 (by decide)
  have d11 : vs 11 = (.pointer (some ⟨b, 0 + 80 + r * 1, none⟩)) := hdraw 11 (by decide)
  change OW _ _ _ _ _ (over (havoc _ x _) [(13, vs 0), (14, vs 1), (15, vs 2), (16, vs 3), (17, vs 4), (18, vs 5), (19, vs 6), (20, vs 7), (100008, vs 8), (21, vs 9), (22, vs 10), (23, vs 11)]) _
  rw [d0, d1, d2, d3, d4, d5, d6, d7, d9, d10, d11]
  obtain ⟨cs0, hbk0, hcc0⟩ := hCw.ex
  obtain ⟨cs1, hbk1, hsz1, _⟩ := hk43.2 cs0 hbk0
  have hcz := hcc0.size
  have hkd9 := hk43
  refine ow_storeM tI4 rfl rfl rfl rfl rfl rfl hbk1 (by simp only [List.length_cons, List.length_nil]; omega) ?_
  intro w44 hk44 hbk2 hkw hz9
  refine ow_nil <| zr <| zA <| ow_nil <| cw_ret ?_
  exact ⟨_, rfl, by rw [hq]; rfl, by rw [hq]; exact hCw.put hr hkd9 d8 (fun cs1' h => by cases blk_inj h hbk1; exact ⟨hkw.1, hbk2⟩) htw, (hKw.any.trans hkd9.1).trans hkw.1⟩
end Go.Proofs.YtnkjgoholocliaaGreatDoor

namespace Go.Proofs.YtnkjgoholocliaaGreatDoor
open Go

def startSt (ts : List Tree) (k : Nat) : TS := (List.range 40).map fun i => if i < k then some (nth ts i) else none
theorem startSt_zero (ts : List Tree) : startSt ts 0 = List.replicate 40 none := by
  refine List.ext_getElem? fun i => ?_
  rw [startSt, List.getElem?_map, List.getElem?_replicate]
  by_cases h : i < 40
  · rw [List.getElem?_range h, if_pos h]; rfl
  · rw [List.getElem?_eq_none (by simpa using h), if_neg h]; rfl
theorem startSt_set (ts : List Tree) {k : Nat} (hk : k < 40) : (startSt ts k).set k (some (nth ts k)) = startSt ts (k + 1) := by
  refine List.ext_getElem (by simp [startSt]) fun i h1 h2 => ?_
  rw [List.getElem_set]
  simp only [startSt, List.getElem_map, List.getElem_range]
  by_cases h : k = i
  · subst h; rw [if_pos rfl, if_pos (by omega)]
  · rw [if_neg h]
    by_cases h3 : i < k
    · rw [if_pos h3, if_pos (by omega)]
    · rw [if_neg h3, if_neg (by omega)]

theorem newChecking_ret (ts : List Tree) (h40 : ts.length ≤ 40) (fn : Fn) (xa xb : Array Value) (v : Value) (L : List Nat) (w : World) (hv : RTrees L w v ts) (hL : ∀ x, x ∈ L → x < w.heap.size) :
    Ret Tryz.prog 121 [v, .func fn xa xb] w fun r w' => (∃ b, r = .pointer (some ⟨b, 0, none⟩) ∧ w.heap.size ≤ b ∧ Chk L w' b 153 (startSt ts ts.length) 0 (.func fn xa xb)) ∧ Keep [] w w' := by
  obtain ⟨a, c, rfl⟩ := trees_cases hv
  have hK := Keep.refl [] w
  have hvb : RTrees (w.heap.size :: L) w _ ts := Rep.fresh hv grow_mem
  refine ret_of [.tmp 4] 31 Tryz.func121 rfl nm121 rfl rfl ?_
  refine zr <| zA <| ow_nil <| zr <| zm <| ow_build (tB153_3 _ _ _ _) rfl rfl <| ow_boxA rfl rfl rfl ?_
  intro w1 hk1 hb10 hz1
  have hK := hK.ext hk1
  refine zA <| ow_nil <| cw_seq <| zr <| zm <| ow_len tSl61 rfl rfl rfl <| zm <| ow_nil <| cw_block ?_
  have hC := chk_zero (L := L) hb10 (fun hx => by have := hL _ hx; omega) rfl
  rw [← startSt_zero ts] at hC
  refine cw_loop (fun k : Nat => [(5, .pointer (some ⟨w.heap.size, 0, none⟩)), (11, .slice a ts.length c), (12, .int .i64 (ts.length : Int)), (13, .int .i64 (k : Int))]) (fun k w' => Keep [] w w' ∧ Chk L w' w.heap.size 153 (startSt ts k) 0 (.func fn xa xb) ∧ k ≤ ts.length) (fun k => ts.length - k) (0) (⟨rfl, rfl, rfl, rfl⟩) (⟨hK, hC, by omega⟩) ?_
  intro gg w2 e2 hI
  obtain ⟨hK, hC, hk⟩ := hI
  have hsz := hK.size
  have hlt := hC.lt
  refine zr <| ow_lss rfl rfl rfl rfl rfl <| ow_nil <| cw_seq <| zc rfl (fun h1 => ?_) (fun h1 => ?_)
  have hgt := nth_get (ps := ts) (i := gg) (by omega)
  obtain ⟨b1, off1, pa, pn, pc, rfl, hcc, hpn, hpp⟩ := rtrees_get (hvb.ext hK) hgt
  subst hpn
  have hT := rtree_of hpp
  refine cw_skip <| cw_seq <| cw_block <| zr <| zm <| zi tSl61 tI73 rfl rfl (by omega) <| zL tAgg73 tI73 rfl (hcc) (rfl) <| ow_allocA tI73 rfl rfl rfl ?_
  intro w3 hk3 hb7 hz3
  have hK := hK.grow; have hK := hK.ext hk3; have hC := hC.grow; have hC := hC.ext hk3; have hT := hT.grow; have hT := hT.ext hk3
  refine zA <| ow_storeA tI73 rfl rfl rfl rfl rfl hb7 rfl ?_
  intro w4 hk4 hb7 hz4
  have hK := hK.sto hk4 (by simp <;> omega); have hC := hC.sto hk4 (by simp <;> omega); have hT := hT.sto hk4 (by simp <;> omega)
  refine ow_nil ?_
  have hKw := hK
  have hCw := hC
  have hTw := hT
  have hkept := (kept_kw w.heap.size 153 (rowAt (0 + 0 + gg * 2) [str (nth ts gg).atom, .slice pa (nth ts gg).parts.length pc]))
  refine cw_draw tMixed hkept 12 [18, 19, 20, 21, 22, 23, 24, 25, 100008, 26, 27, 28] [18, 19, 20, 21, 22, 23, 24, 25, 100008, 26, 27, 28] [[], [], [], [], [], [0], [5], [1, 6], [4, 7], [2], [9], [3, 10]] [fun v _ => v = (.pointer (some ⟨w.heap.size, 0, none⟩)), fun v _ => v = (.int .i64 (gg : Int)), fun v _ => v = (.pointer (some ⟨w.heap.size, 0, none⟩)), fun v _ => v = (.int .i64 (gg : Int)), fun v _ => v = (.agg #[str (nth ts gg).atom, .slice pa (nth ts gg).parts.length pc]), fun v _ => v = (.pointer (some ⟨w.heap.size, 0, none⟩)), fun v _ => v = (.pointer (some ⟨w.heap.size, 0 + 0, none⟩)), fun v _ => v = (.pointer (some ⟨w.heap.size, 0 + 0 + gg * 2, none⟩)), fun _ ww => PutC w.heap.size 153 (rowAt (0 + 0 + gg * 2) [str (nth ts gg).atom, .slice pa (nth ts gg).parts.length pc]) ww, fun v _ => v = (.pointer (some ⟨w.heap.size, 0, none⟩)), fun v _ => v = (.pointer (some ⟨w.heap.size, 0 + 80, none⟩)), fun v _ => v = (.pointer (some ⟨w.heap.size, 0 + 80 + gg * 1, none⟩))] (by decide) (stab_eq (stab_eq (stab_eq (stab_eq (stab_eq (stab_eq (stab_eq (stab_eq (stab_gen (fun v w w' h k => PutC.stab (rowAt_fun _ _) h k) (stab_eq (stab_eq (stab_eq trivial)))))))))))) (fun wd hkd => ?_) ?_
  refine certs_cons ?_ ?_
  intro x vs w5 e hk5 hd he
  replace hk5 := hkept.trans hkd hk5
  replace he : e = over (havoc _ x _) [] := he
  subst he
  refine zm <| ow_nil ?_
  exact ⟨hkept.refl _, rfl, by first | exact agree_put | exact agree_refl⟩
  refine certs_cons ?_ ?_
  intro x vs w5 e hk5 hd he
  replace hk5 := hkept.trans hkd hk5
  replace he : e = over (havoc _ x _) [] := he
  subst he
  refine zm <| ow_nil ?_
  exact ⟨hkept.refl _, rfl, by first | exact agree_put | exact agree_refl⟩
  refine certs_cons ?_ ?_
  intro x vs w5 e hk5 hd he
  replace hk5 := hkept.trans hkd hk5
  replace he : e = over (havoc _ x _) [] := he
  subst he
  refine zm <| ow_nil ?_
  exact ⟨hkept.refl _, rfl, by first | exact agree_put | exact agree_refl⟩
  refine certs_cons ?_ ?_
  intro x vs w5 e hk5 hd he
  replace hk5 := hkept.trans hkd hk5
  replace he : e = over (havoc _ x _) [] := he
  subst he
  refine zm <| ow_nil ?_
  exact ⟨hkept.refl _, rfl, by first | exact agree_put | exact agree_refl⟩
  refine certs_cons ?_ ?_
  intro x vs w5 e hk5 hd he
  replace hk5 := hkept.trans hkd hk5
  have hb7 := hb7.sto hk5.1 (by simp <;> omega)
  replace he : e = over (havoc _ x _) [] := he
  subst he
  refine zL tAgg73 tI73 rfl hb7.all rfl <| ow_nil ?_
  exact ⟨hkept.refl _, rfl, by first | exact agree_put | exact agree_refl⟩
  refine certs_cons ?_ ?_
  intro x vs w5 e hk5 hd he
  have d0 : vs 0 = (.pointer (some ⟨w.heap.size, 0, none⟩)) := hd
  replace hk5 := hkept.trans hkd hk5
  replace he : e = over (havoc _ x _) [(18, vs 0)] := he
  rw [d0] at he
  subst he
  refine ow_nilCheck rfl rfl rfl <| ow_nil ?_
  exact ⟨hkept.refl _, rfl, by first | exact agree_put | exact agree_refl⟩
  refine certs_cons ?_ ?_
  intro x vs w5 e hk5 hd he
  have d5 : vs 5 = (.pointer (some ⟨w.heap.size, 0, none⟩)) := hd
  replace hk5 := hkept.trans hkd hk5
  replace he : e = over (havoc _ x _) [(23, vs 5)] := he
  rw [d5] at he
  subst he
  refine zf tF153_0 rfl <| ow_nil ?_
  exact ⟨hkept.refl _, rfl, by first | exact agree_put | exact agree_refl⟩
  refine certs_cons ?_ ?_
  intro x vs w5 e hk5 hd he
  obtain ⟨d1, d6⟩ : (vs 1 = (.int .i64 (gg : Int))) ∧ (vs 6 = (.pointer (some ⟨w.heap.size, 0 + 0, none⟩))) := hd
  replace hk5 := hkept.trans hkd hk5
  replace he : e = over (havoc _ x _) [(19, vs 1), (24, vs 6)] := he
  rw [d1, d6] at he
  subst he
  refine ow_indexAddrA tAr151 tI73 rfl rfl rfl rfl (by omega) <| ow_nil ?_
  exact ⟨hkept.refl _, rfl, by first | exact agree_put | exact agree_refl⟩
  refine certs_cons ?_ ?_
  intro x vs w5 e hk5 hd he
  obtain ⟨d4, d7⟩ : (vs 4 = (.agg #[str (nth ts gg).atom, .slice pa (nth ts gg).parts.length pc])) ∧ (vs 7 = (.pointer (some ⟨w.heap.size, 0 + 0 + gg * 2, none⟩))) := hd
  replace hk5 := hkept.trans hkd hk5
  replace he : e = over (havoc _ x _) [(22, vs 4), (25, vs 7)] := he
  rw [d4, d7] at he
  subst he
  obtain ⟨cs0, hbk0, hcc0⟩ := hCw.ex
  obtain ⟨cs1, hbk1, hsz1, _⟩ := hk5.2 cs0 hbk0
  have hcz := hcc0.size
  refine ow_storeM tI73 rfl rfl rfl rfl rfl rfl hbk1 (by simp only [List.length_cons, List.length_nil]; omega) ?_
  intro w6 hk6 hbk2 hkw hz9
  refine ow_nil ?_
  exact ⟨hkw, putC_of hbk2 (by simp only [List.length_cons, List.length_nil]; omega), by first | exact agree_put | exact agree_refl⟩
  refine certs_cons ?_ ?_
  intro x vs w5 e hk5 hd he
  have d2 : vs 2 = (.pointer (some ⟨w.heap.size, 0, none⟩)) := hd
  replace hk5 := hkept.trans hkd hk5
  replace he : e = over (havoc _ x _) [(20, vs 2)] := he
  rw [d2] at he
  subst he
  refine ow_nilCheck rfl rfl rfl <| ow_nil ?_
  exact ⟨hkept.refl _, rfl, by first | exact agree_put | exact agree_refl⟩
  refine certs_cons ?_ ?_
  intro x vs w5 e hk5 hd he
  have d9 : vs 9 = (.pointer (some ⟨w.heap.size, 0, none⟩)) := hd
  replace hk5 := hkept.trans hkd hk5
  replace he : e = over (havoc _ x _) [(26, vs 9)] := he
  rw [d9] at he
  subst he
  refine zf tF153_1 rfl <| ow_nil ?_
  exact ⟨hkept.refl _, rfl, by first | exact agree_put | exact agree_refl⟩
  refine certs_cons ?_ ?_
  intro x vs w5 e hk5 hd he
  obtain ⟨d3, d10⟩ : (vs 3 = (.int .i64 (gg : Int))) ∧ (vs 10 = (.pointer (some ⟨w.heap.size, 0 + 80, none⟩))) := hd
  replace hk5 := hkept.trans hkd hk5
  replace he : e = over (havoc _ x _) [(21, vs 3), (27, vs 10)] := he
  rw [d3, d10] at he
  subst he
  refine ow_indexAddrA tAr137 tI4 rfl rfl rfl rfl (by omega) <| ow_nil ?_
  exact ⟨hkept.refl _, rfl, by first | exact agree_put | exact agree_refl⟩
  exact trivial
  intro x vs w44 hk44 hdraw
  have d0 : vs 0 = (.pointer (some ⟨w.heap.size, 0, none⟩)) := hdraw 0 (by decide)
  have d1 : vs 1 = (.int .i64 (gg : Int)) := hdraw 1 (by decide)
  have d2 : vs 2 = (.pointer (some ⟨w.heap.size, 0, none⟩)) := hdraw 2 (by decide)
  have d3 : vs 3 = (.int .i64 (gg : Int)) := hdraw 3 (by decide)
  have d4 : vs 4 = (.agg #[str (nth ts gg).atom, .slice pa (nth ts gg).parts.length pc]) := hdraw 4 (by decide)
  have d5 : vs 5 = (.pointer (some ⟨w.heap.size, 0, none⟩)) := hdraw 5 (by decide)
  have d6 : vs 6 = (.pointer (some ⟨w.heap.size, 0 + 0, none⟩)) := hdraw 6 (by decide)
  have d7 : vs 7 = (.pointer (some ⟨w.heap.size, 0 + 0 + gg * 2, none⟩)) := hdraw 7 (by decide)
  have d8 : (fun _ ww => PutC w.heap.size 153 (rowAt (0 + 0 + gg * 2) [str (nth ts gg).atom, .slice pa (nth ts gg).parts.length pc]) ww) (vs 8) w44 := hdraw 8 (by decide)
  have d9 : vs 9 = (.pointer (some ⟨w.heap.size, 0, none⟩)) := hdraw 9 (by decide)
  have d10 : vs 10 = (.pointer (some ⟨w.heap.size, 0 + 80, none⟩)) := hdraw 10 (by decide)
  have d11 : vs 11 = (.pointer (some ⟨w.heap.size, 0 + 80 + gg * 1, none⟩)) := hdraw 11 (by decide)
  change OW _ _ _ _ _ (over (havoc _ x _) [(18, vs 0), (19, vs 1), (20, vs 2), (21, vs 3), (22, vs 4), (23, vs 5), (24, vs 6), (25, vs 7), (100008, vs 8), (26, vs 9), (27, vs 10), (28, vs 11)]) _
  rw [d0, d1, d2, d3, d4, d5, d6, d7, d9, d10, d11]
  obtain ⟨cs0, hbk0, hcc0⟩ := hCw.ex
  obtain ⟨cs1, hbk1, hsz1, _⟩ := hk44.2 cs0 hbk0
  have hcz := hcc0.size
  have hkd9 := hk44
  refine ow_storeM tI4 rfl rfl rfl rfl rfl rfl hbk1 (by simp only [List.length_cons, List.length_nil]; omega) ?_
  intro w45 hk45 hbk2 hkw hz9
  refine ow_nil <| cw_region <| ow_add rfl rfl rfl rfl rfl (wrap_i64 _ (by omega) (by omega)) <| zm <| ow_nil ?_
  exact ⟨gg + 1, ⟨rfl, rfl, rfl, rfl⟩, ⟨(hKw.since hkd9.1 (fun x hx => .inr (by simp at hx; omega))).since hkw.1 (fun x hx => .inr (by simp at hx; omega)), by rw [← startSt_set ts (by omega)]; exact (hCw.put (by omega) hkd9 d8 (fun cs1' h => by cases blk_inj h hbk1; exact ⟨hkw.1, hbk2⟩) (RTree.weak hTw (by intro x hx; simp at hx ⊢; rcases hx with h | h | h <;> simp [h]))).weak (fun x hx => List.mem_cons_of_mem _ hx), by omega⟩, by omega⟩
  have he : gg = ts.length := by omega
  subst he
  refine cw_exit <| x_hit rfl <| zr <| zm <| zA <| ow_nil <| cw_ret ?_
  exact ⟨_, rfl, ⟨_, rfl, Nat.le_refl _, hC⟩, hK⟩

/-! ### What stands -/
def FitTS (st : TS) : Prop := ∀ i t, st.getD i none = some t → Good t ∧ fitsB t = true
theorem fits_size {t : Tree} (hg : Good t) (h : fitsB t = true) : t.size ≤ 24000 ∧ t.len ≤ 12000 ∧ t.text.length ≤ 12000 := by
  unfold fitsB at h
  rw [Bool.and_eq_true, decide_eq_true_eq, decide_eq_true_eq] at h
  have h1 := size_text hg
  have h2 := len_text hg.wf
  omega
theorem eqT_same {x y : Tree} (hx : Good x) (hy : Good y) : eqT x y = sameT x y := by
  unfold sameT
  by_cases h : x = y
  · subst h; rw [(eqT_iff x x).2 rfl, decide_eq_true rfl]
  · rw [decide_eq_false (fun e => h (text_inj hx hy e))]
    cases hq : eqT x y with
    | false => rfl
    | true => exact absurd ((eqT_iff x y).1 hq) h
theorem ts_out {st : TS} (hl : st.length = 40) {i : Nat} (h : 40 ≤ i) : st.getD i none = none := by
  rw [List.getD_eq_getElem?_getD, List.getElem?_eq_none (by omega)]; rfl
theorem is_z {st : TS} {i : Nat} {t y : Tree} (hl : st.length = 40) (hF : FitTS st) (hy : Good y) (ht : ∀ t', st.getD (min i 39) none = some t' → t = t') :
    ((decide ((40 : Int) ≤ (i : Int)) || !(st.getD (min i 39) none).isSome) || !eqT t y) = !is? (st.getD i none) y := by
  by_cases h : 40 ≤ i
  · rw [ts_out hl h, decide_eq_true (show (40 : Int) ≤ (i : Int) by omega)]; rfl
  · rw [show min i 39 = i from by omega] at ht ⊢
    rw [decide_eq_false (show ¬ (40 : Int) ≤ (i : Int) by omega), Bool.false_or]
    cases ho : st.getD i none with
    | none => rfl
    | some t' =>
      rw [ht t' ho, eqT_same (hF i t' ho).1 hy]; rfl
theorem RegAt.at1 {L : List Nat} {w : World} {b r i : Nat} {o : Bool} {t : Tree} {a : Option Addr} {c : Nat} (h : RegAt L w b r o t a c) (e : r = i) : CellsAt w b (0 + 0 + i * 2) [str t.atom, .slice a t.parts.length c] := e ▸ h.c1
theorem RegAt.at2 {L : List Nat} {w : World} {b r i : Nat} {o : Bool} {t : Tree} {a : Option Addr} {c : Nat} (h : RegAt L w b r o t a c) (e : r = i) : CellsAt w b (0 + 80 + i * 1) [.bool o] := e ▸ h.c2

theorem stands_ret (need : List Tree) (hlen : need.length < 1000000000) (hG : ∀ i, i < need.length → Good (nth need i)) (L : List Nat) (b : Nat) (st : TS) (opens : Nat) (fv : Value) (w : World) (hC : Chk L w b 153 st opens fv) (hF : FitTS st) (vt : Value) (La : List Nat) (ht : RTrees La w vt need) :
    Ret Tryz.prog 152 [.pointer (some ⟨b, 0, none⟩), vt] w fun v w' => v = .bool (meets st need) ∧ Keep [] w w' := by
  obtain ⟨a, c, rfl⟩ := trees_cases ht
  have hK := Keep.refl [] w
  have hl40 : st.length = 40 := by obtain ⟨_, _, h⟩ := hC.ex; exact h.len
  refine ret_of [.tmp 4] 37 Tryz.func152 rfl nm152 rfl rfl ?_
  refine zr <| zA <| ow_nil <| cw_seq <| zr <| zm <| ow_len tSl61 rfl rfl rfl <| zm <| ow_nil <| cw_block ?_
  refine cw_loop (fun k : Nat => [(0, .pointer (some ⟨b, 0, none⟩)), (7, .slice a need.length c), (8, .int .i64 (need.length : Int)), (9, .int .i64 (k : Int))]) (fun k w' => Keep [] w w' ∧ Chk L w' b 153 st opens fv ∧ k ≤ need.length ∧ ∀ i, i < k → is? (st.getD i none) (nth need i) = true) (fun k => need.length - k) (0) (⟨rfl, rfl, rfl, rfl⟩) (⟨hK, hC, by omega, by intro i hi; omega⟩) ?_
  intro gg w1 e1 hI
  obtain ⟨hK, hC, hk, hall⟩ := hI
  have hsz := hK.size
  refine zr <| ow_lss rfl rfl rfl rfl rfl <| ow_nil <| cw_seq <| zc rfl (fun h1 => ?_) (fun h1 => ?_)
  have hgt := nth_get (ps := need) (i := gg) (by omega)
  obtain ⟨b1, off1, pa, pn, pc, rfl, hcc, hpn, hpp⟩ := rtrees_get (ht.ext hK) hgt
  subst hpn
  have hT := rtree_of hpp
  obtain ⟨t0, a0, c0, hR, ht0⟩ := hC.regAt (r := min gg 39) (by omega)
  refine cw_skip <| cw_seq <| cw_block <| zr <| zm <| zi tSl61 tI73 rfl rfl (by omega) <| zL tAgg73 tI73 rfl (hcc) (rfl) <| ow_allocA tI73 rfl rfl rfl ?_
  intro w2 hk2 hb6 hz2
  have hK := hK.grow; have hK := hK.ext hk2; have hC := hC.grow; have hC := hC.ext hk2; have hT := hT.grow; have hT := hT.ext hk2; have hR := hR.grow; have hR := hR.ext hk2
  refine zA <| ow_storeA tI73 rfl rfl rfl rfl rfl hb6 rfl ?_
  intro w3 hk3 hb6 hz3
  have hK := hK.sto hk3 (by simp <;> omega); have hC := hC.sto hk3 (by simp <;> omega); have hT := hT.sto hk3 (by simp <;> omega); have hR := hR.sto hk3 (by simp <;> omega)
  refine ow_nil <| cw_seq ?_
  refine cw_draw tMixed kept_new 22 [14, 15, 16, 17, 18, 19, 20, 21, 22, 23, 24, 25, 26, 27, 28, 29, 30, 31, 32, 33, 34, 35] [14, 15, 16, 17, 18, 19, 20, 21, 22, 23, 24, 25, 26, 27, 28, 29, 30, 31, 32, 33, 34, 35] [[], [0], [1], [2], [2], [2, 3], [2, 5], [2, 4, 6], [2, 7], [2, 8], [2, 9], [10], [11], [11], [11, 12], [11, 14], [11, 13, 15], [11, 16], [11], [11, 17, 18], [11, 19], [11, 20]] [fun v _ => v = (.int .i64 (gg : Int)), fun v _ => v = (.bool (decide ((40 : Int) ≤ (gg : Int)))), fun v _ => v = (.bool (decide ((40 : Int) ≤ (gg : Int)))), fun v _ => (decide ((40 : Int) ≤ (gg : Int))) = false → v = (.pointer (some ⟨b, 0, none⟩)), fun v _ => (decide ((40 : Int) ≤ (gg : Int))) = false → v = (.int .i64 (gg : Int)), fun v _ => (decide ((40 : Int) ≤ (gg : Int))) = false → v = (.pointer (some ⟨b, 0, none⟩)), fun v _ => (decide ((40 : Int) ≤ (gg : Int))) = false → v = (.pointer (some ⟨b, 0 + 80, none⟩)), fun v _ => (decide ((40 : Int) ≤ (gg : Int))) = false → v = (.pointer (some ⟨b, 0 + 80 + gg * 1, none⟩)), fun v _ => (decide ((40 : Int) ≤ (gg : Int))) = false → v = (.bool (st.getD (min gg 39) none).isSome), fun v _ => (decide ((40 : Int) ≤ (gg : Int))) = false → v = (.bool (!(st.getD (min gg 39) none).isSome)), fun v _ => v = (.bool (decide ((40 : Int) ≤ (gg : Int)) || !(st.getD (min gg 39) none).isSome)), fun v _ => v = (.bool (decide ((40 : Int) ≤ (gg : Int)) || !(st.getD (min gg 39) none).isSome)), fun v _ => (decide ((40 : Int) ≤ (gg : Int)) || !(st.getD (min gg 39) none).isSome) = false → v = (.pointer (some ⟨b, 0, none⟩)), fun v _ => (decide ((40 : Int) ≤ (gg : Int)) || !(st.getD (min gg 39) none).isSome) = false → v = (.int .i64 (gg : Int)), fun v _ => (decide ((40 : Int) ≤ (gg : Int)) || !(st.getD (min gg 39) none).isSome) = false → v = (.pointer (some ⟨b, 0, none⟩)), fun v _ => (decide ((40 : Int) ≤ (gg : Int)) || !(st.getD (min gg 39) none).isSome) = false → v = (.pointer (some ⟨b, 0 + 0, none⟩)), fun v _ => (decide ((40 : Int) ≤ (gg : Int)) || !(st.getD (min gg 39) none).isSome) = false → v = (.pointer (some ⟨b, 0 + 0 + gg * 2, none⟩)), fun v _ => (decide ((40 : Int) ≤ (gg : Int)) || !(st.getD (min gg 39) none).isSome) = false → v = (.agg #[str t0.atom, .slice a0 t0.parts.length c0]), fun v _ => (decide ((40 : Int) ≤ (gg : Int)) || !(st.getD (min gg 39) none).isSome) = false → v = (.agg #[str (nth need gg).atom, .slice pa (nth need gg).parts.length pc]), fun v _ => (decide ((40 : Int) ≤ (gg : Int)) || !(st.getD (min gg 39) none).isSome) = false → v = (.bool (eqT t0 (nth need gg))), fun v _ => (decide ((40 : Int) ≤ (gg : Int)) || !(st.getD (min gg 39) none).isSome) = false → v = (.bool (!eqT t0 (nth need gg))), fun v _ => v = (.bool ((decide ((40 : Int) ≤ (gg : Int)) || !(st.getD (min gg 39) none).isSome) || !eqT t0 (nth need gg)))] (by decide) (stab_eq (stab_eq (stab_eq (stab_if (stab_if (stab_if (stab_if (stab_if (stab_if (stab_if (stab_eq (stab_eq (stab_if (stab_if (stab_if (stab_if (stab_if (stab_if (stab_if (stab_if (stab_if (stab_eq trivial)))))))))))))))))))))) (fun wd hkd => ?_) ?_
  refine certs_cons ?_ ?_
  intro x vs w4 e hk4 hd he
  replace hk4 := kept_new.trans hkd hk4
  replace he : e = over (havoc _ x _) [] := he
  subst he
  refine zm <| ow_nil ?_
  exact ⟨kept_new.refl _, rfl, by first | exact agree_put | exact agree_refl⟩
  refine certs_cons ?_ ?_
  intro x vs w4 e hk4 hd he
  have d0 : vs 0 = (.int .i64 (gg : Int)) := hd
  replace hk4 := kept_new.trans hkd hk4
  replace he : e = over (havoc _ x _) [(14, vs 0)] := he
  rw [d0] at he
  subst he
  refine ow_geq rfl rfl rfl rfl rfl <| ow_nil ?_
  exact ⟨kept_new.refl _, rfl, by first | exact agree_put | exact agree_refl⟩
  refine certs_cons ?_ ?_
  intro x vs w4 e hk4 hd he
  have d1 : vs 1 = (.bool (decide ((40 : Int) ≤ (gg : Int)))) := hd
  replace hk4 := kept_new.trans hkd hk4
  replace he : e = over (havoc _ x _) [(15, vs 1)] := he
  rw [d1] at he
  subst he
  refine zm <| ow_nil ?_
  exact ⟨kept_new.refl _, rfl, by first | exact agree_put | exact agree_refl⟩
  refine certs_cons ?_ ?_
  intro x vs w4 e hk4 hd he
  have d2 : vs 2 = (.bool (decide ((40 : Int) ≤ (gg : Int)))) := hd
  replace hk4 := kept_new.trans hkd hk4
  rcases Bool.eq_false_or_eq_true (decide ((40 : Int) ≤ (gg : Int))) with hg | hg
  rw [hg] at d2
  replace he : e = over (havoc _ x _) [(16, vs 2)] := he
  rw [d2] at he
  subst he
  refine zs <| ow_nil ?_
  exact ⟨kept_new.refl _, (show (decide ((40 : Int) ≤ (gg : Int))) = false → _ = (_ : Value) from fun hh => nomatch hg.symm.trans hh), by first | exact agree_put | exact agree_refl⟩
  rw [hg] at d2
  replace he : e = over (havoc _ x _) [(16, vs 2)] := he
  rw [d2] at he
  subst he
  refine zm <| ow_nil ?_
  exact ⟨kept_new.refl _, (show (decide ((40 : Int) ≤ (gg : Int))) = false → _ = ((.pointer (some ⟨b, 0, none⟩)) : Value) from fun _ => rfl), by first | exact agree_put | exact agree_refl⟩
  refine certs_cons ?_ ?_
  intro x vs w4 e hk4 hd he
  have d2 : vs 2 = (.bool (decide ((40 : Int) ≤ (gg : Int)))) := hd
  replace hk4 := kept_new.trans hkd hk4
  rcases Bool.eq_false_or_eq_true (decide ((40 : Int) ≤ (gg : Int))) with hg | hg
  rw [hg] at d2
  replace he : e = over (havoc _ x _) [(16, vs 2)] := he
  rw [d2] at he
  subst he
  refine zs <| ow_nil ?_
  exact ⟨kept_new.refl _, (show (decide ((40 : Int) ≤ (gg : Int))) = false → _ = (_ : Value) from fun hh => nomatch hg.symm.trans hh), by first | exact agree_put | exact agree_refl⟩
  rw [hg] at d2
  replace he : e = over (havoc _ x _) [(16, vs 2)] := he
  rw [d2] at he
  subst he
  refine zm <| ow_nil ?_
  exact ⟨kept_new.refl _, (show (decide ((40 : Int) ≤ (gg : Int))) = false → _ = ((.int .i64 (gg : Int)) : Value) from fun _ => rfl), by first | exact agree_put | exact agree_refl⟩
  refine certs_cons ?_ ?_
  intro x vs w4 e hk4 hd he
  obtain ⟨d2, d3⟩ : (vs 2 = (.bool (decide ((40 : Int) ≤ (gg : Int))))) ∧ ((decide ((40 : Int) ≤ (gg : Int))) = false → vs 3 = (.pointer (some ⟨b, 0, none⟩))) := hd
  replace hk4 := kept_new.trans hkd hk4
  rcases Bool.eq_false_or_eq_true (decide ((40 : Int) ≤ (gg : Int))) with hg | hg
  rw [hg] at d2
  replace he : e = over (havoc _ x _) [(16, vs 2), (17, vs 3)] := he
  rw [d2] at he
  subst he
  refine zs <| ow_nil ?_
  exact ⟨kept_new.refl _, (show (decide ((40 : Int) ≤ (gg : Int))) = false → _ = (_ : Value) from fun hh => nomatch hg.symm.trans hh), by first | exact agree_put | exact agree_refl⟩
  rw [hg] at d2
  replace d3 := d3 hg
  replace he : e = over (havoc _ x _) [(16, vs 2), (17, vs 3)] := he
  rw [d2, d3] at he
  subst he
  refine ow_nilCheck rfl rfl rfl <| ow_nil ?_
  exact ⟨kept_new.refl _, (show (decide ((40 : Int) ≤ (gg : Int))) = false → _ = ((.pointer (some ⟨b, 0, none⟩)) : Value) from fun _ => rfl), by first | exact agree_put | exact agree_refl⟩
  refine certs_cons ?_ ?_
  intro x vs w4 e hk4 hd he
  obtain ⟨d2, d5⟩ : (vs 2 = (.bool (decide ((40 : Int) ≤ (gg : Int))))) ∧ ((decide ((40 : Int) ≤ (gg : Int))) = false → vs 5 = (.pointer (some ⟨b, 0, none⟩))) := hd
  replace hk4 := kept_new.trans hkd hk4
  rcases Bool.eq_false_or_eq_true (decide ((40 : Int) ≤ (gg : Int))) with hg | hg
  rw [hg] at d2
  replace he : e = over (havoc _ x _) [(16, vs 2), (19, vs 5)] := he
  rw [d2] at he
  subst he
  refine zs <| ow_nil ?_
  exact ⟨kept_new.refl _, (show (decide ((40 : Int) ≤ (gg : Int))) = false → _ = (_ : Value) from fun hh => nomatch hg.symm.trans hh), by first | exact agree_put | exact agree_refl⟩
  rw [hg] at d2
  replace d5 := d5 hg
  replace he : e = over (havoc _ x _) [(16, vs 2), (19, vs 5)] := he
  rw [d2, d5] at he
  subst he
  refine zf tF153_1 rfl <| ow_nil ?_
  exact ⟨kept_new.refl _, (show (decide ((40 : Int) ≤ (gg : Int))) = false → _ = ((.pointer (some ⟨b, 0 + 80, none⟩)) : Value) from fun _ => rfl), by first | exact agree_put | exact agree_refl⟩
  refine certs_cons ?_ ?_
  intro x vs w4 e hk4 hd he
  obtain ⟨d2, d4, d6⟩ : (vs 2 = (.bool (decide ((40 : Int) ≤ (gg : Int))))) ∧ ((decide ((40 : Int) ≤ (gg : Int))) = false → vs 4 = (.int .i64 (gg : Int))) ∧ ((decide ((40 : Int) ≤ (gg : Int))) = false → vs 6 = (.pointer (some ⟨b, 0 + 80, none⟩))) := hd
  replace hk4 := kept_new.trans hkd hk4
  rcases Bool.eq_false_or_eq_true (decide ((40 : Int) ≤ (gg : Int))) with hg | hg
  rw [hg] at d2
  replace he : e = over (havoc _ x _) [(16, vs 2), (18, vs 4), (20, vs 6)] := he
  rw [d2] at he
  subst he
  refine zs <| ow_nil ?_
  exact ⟨kept_new.refl _, (show (decide ((40 : Int) ≤ (gg : Int))) = false → _ = (_ : Value) from fun hh => nomatch hg.symm.trans hh), by first | exact agree_put | exact agree_refl⟩
  rw [hg] at d2
  replace d4 := d4 hg
  replace d6 := d6 hg
  replace he : e = over (havoc _ x _) [(16, vs 2), (18, vs 4), (20, vs 6)] := he
  rw [d2, d4, d6] at he
  subst he
  refine ow_indexAddrA tAr137 tI4 rfl rfl rfl rfl (by simp at hg; omega) <| ow_nil ?_
  exact ⟨kept_new.refl _, (show (decide ((40 : Int) ≤ (gg : Int))) = false → _ = ((.pointer (some ⟨b, 0 + 80 + gg * 1, none⟩)) : Value) from fun _ => rfl), by first | exact agree_put | exact agree_refl⟩
  refine certs_cons ?_ ?_
  intro x vs w4 e hk4 hd he
  obtain ⟨d2, d7⟩ : (vs 2 = (.bool (decide ((40 : Int) ≤ (gg : Int))))) ∧ ((decide ((40 : Int) ≤ (gg : Int))) = false → vs 7 = (.pointer (some ⟨b, 0 + 80 + gg * 1, none⟩))) := hd
  replace hk4 := kept_new.trans hkd hk4
  have hR := hR.ext hk4
  rcases Bool.eq_false_or_eq_true (decide ((40 : Int) ≤ (gg : Int))) with hg | hg
  rw [hg] at d2
  replace he : e = over (havoc _ x _) [(16, vs 2), (21, vs 7)] := he
  rw [d2] at he
  subst he
  refine zs <| ow_nil ?_
  exact ⟨kept_new.refl _, (show (decide ((40 : Int) ≤ (gg : Int))) = false → _ = (_ : Value) from fun hh => nomatch hg.symm.trans hh), by first | exact agree_put | exact agree_refl⟩
  rw [hg] at d2
  replace d7 := d7 hg
  replace he : e = over (havoc _ x _) [(16, vs 2), (21, vs 7)] := he
  rw [d2, d7] at he
  subst he
  refine zl tOne4 rfl (hR.at2 (by simp at hg; omega) 0 _ rfl) <| ow_nil ?_
  exact ⟨kept_new.refl _, (show (decide ((40 : Int) ≤ (gg : Int))) = false → _ = ((.bool (st.getD (min gg 39) none).isSome) : Value) from fun _ => rfl), by first | exact agree_put | exact agree_refl⟩
  refine certs_cons ?_ ?_
  intro x vs w4 e hk4 hd he
  obtain ⟨d2, d8⟩ : (vs 2 = (.bool (decide ((40 : Int) ≤ (gg : Int))))) ∧ ((decide ((40 : Int) ≤ (gg : Int))) = false → vs 8 = (.bool (st.getD (min gg 39) none).isSome)) := hd
  replace hk4 := kept_new.trans hkd hk4
  rcases Bool.eq_false_or_eq_true (decide ((40 : Int) ≤ (gg : Int))) with hg | hg
  rw [hg] at d2
  replace he : e = over (havoc _ x _) [(16, vs 2), (22, vs 8)] := he
  rw [d2] at he
  subst he
  refine zs <| ow_nil ?_
  exact ⟨kept_new.refl _, (show (decide ((40 : Int) ≤ (gg : Int))) = false → _ = (_ : Value) from fun hh => nomatch hg.symm.trans hh), by first | exact agree_put | exact agree_refl⟩
  rw [hg] at d2
  replace d8 := d8 hg
  replace he : e = over (havoc _ x _) [(16, vs 2), (22, vs 8)] := he
  rw [d2, d8] at he
  subst he
  refine ow_not rfl rfl rfl <| ow_nil ?_
  exact ⟨kept_new.refl _, (show (decide ((40 : Int) ≤ (gg : Int))) = false → _ = ((.bool (!(st.getD (min gg 39) none).isSome)) : Value) from fun _ => rfl), by first | exact agree_put | exact agree_refl⟩
  refine certs_cons ?_ ?_
  intro x vs w4 e hk4 hd he
  obtain ⟨d2, d9⟩ : (vs 2 = (.bool (decide ((40 : Int) ≤ (gg : Int))))) ∧ ((decide ((40 : Int) ≤ (gg : Int))) = false → vs 9 = (.bool (!(st.getD (min gg 39) none).isSome))) := hd
  replace hk4 := kept_new.trans hkd hk4
  rcases Bool.eq_false_or_eq_true (decide ((40 : Int) ≤ (gg : Int))) with hg | hg
  rw [hg] at d2
  replace he : e = over (havoc _ x _) [(16, vs 2), (23, vs 9)] := he
  rw [d2] at he
  subst he
  refine zp rfl <| ow_nil ?_
  exact ⟨kept_new.refl _, by first | rfl | (rw [hg]; rfl), by first | exact agree_put | exact agree_refl⟩
  rw [hg] at d2
  replace d9 := d9 hg
  replace he : e = over (havoc _ x _) [(16, vs 2), (23, vs 9)] := he
  rw [d2, d9] at he
  subst he
  refine zp rfl <| ow_nil ?_
  exact ⟨kept_new.refl _, by first | rfl | (rw [hg]; rfl), by first | exact agree_put | exact agree_refl⟩
  refine certs_cons ?_ ?_
  intro x vs w4 e hk4 hd he
  have d10 : vs 10 = (.bool (decide ((40 : Int) ≤ (gg : Int)) || !(st.getD (min gg 39) none).isSome)) := hd
  replace hk4 := kept_new.trans hkd hk4
  replace he : e = over (havoc _ x _) [(24, vs 10)] := he
  rw [d10] at he
  subst he
  refine zm <| ow_nil ?_
  exact ⟨kept_new.refl _, rfl, by first | exact agree_put | exact agree_refl⟩
  refine certs_cons ?_ ?_
  intro x vs w4 e hk4 hd he
  have d11 : vs 11 = (.bool (decide ((40 : Int) ≤ (gg : Int)) || !(st.getD (min gg 39) none).isSome)) := hd
  replace hk4 := kept_new.trans hkd hk4
  rcases Bool.eq_false_or_eq_true (decide ((40 : Int) ≤ (gg : Int)) || !(st.getD (min gg 39) none).isSome) with hg | hg
  rw [hg] at d11
  replace he : e = over (havoc _ x _) [(25, vs 11)] := he
  rw [d11] at he
  subst he
  refine zs <| ow_nil ?_
  exact ⟨kept_new.refl _, (show (decide ((40 : Int) ≤ (gg : Int)) || !(st.getD (min gg 39) none).isSome) = false → _ = (_ : Value) from fun hh => nomatch hg.symm.trans hh), by first | exact agree_put | exact agree_refl⟩
  rw [hg] at d11
  replace he : e = over (havoc _ x _) [(25, vs 11)] := he
  rw [d11] at he
  subst he
  refine zm <| ow_nil ?_
  exact ⟨kept_new.refl _, (show (decide ((40 : Int) ≤ (gg : Int)) || !(st.getD (min gg 39) none).isSome) = false → _ = ((.pointer (some ⟨b, 0, none⟩)) : Value) from fun _ => rfl), by first | exact agree_put | exact agree_refl⟩
  refine certs_cons ?_ ?_
  intro x vs w4 e hk4 hd he
  have d11 : vs 11 = (.bool (decide ((40 : Int) ≤ (gg : Int)) || !(st.getD (min gg 39) none).isSome)) := hd
  replace hk4 := kept_new.trans hkd hk4
  rcases Bool.eq_false_or_eq_true (decide ((40 : Int) ≤ (gg : Int)) || !(st.getD (min gg 39) none).isSome) with hg | hg
  rw [hg] at d11
  replace he : e = over (havoc _ x _) [(25, vs 11)] := he
  rw [d11] at he
  subst he
  refine zs <| ow_nil ?_
  exact ⟨kept_new.refl _, (show (decide ((40 : Int) ≤ (gg : Int)) || !(st.getD (min gg 39) none).isSome) = false → _ = (_ : Value) from fun hh => nomatch hg.symm.trans hh), by first | exact agree_put | exact agree_refl⟩
  rw [hg] at d11
  replace he : e = over (havoc _ x _) [(25, vs 11)] := he
  rw [d11] at he
  subst he
  refine zm <| ow_nil ?_
  exact ⟨kept_new.refl _, (show (decide ((40 : Int) ≤ (gg : Int)) || !(st.getD (min gg 39) none).isSome) = false → _ = ((.int .i64 (gg : Int)) : Value) from fun _ => rfl), by first | exact agree_put | exact agree_refl⟩
  refine certs_cons ?_ ?_
  intro x vs w4 e hk4 hd he
  obtain ⟨d11, d12⟩ : (vs 11 = (.bool (decide ((40 : Int) ≤ (gg : Int)) || !(st.getD (min gg 39) none).isSome))) ∧ ((decide ((40 : Int) ≤ (gg : Int)) || !(st.getD (min gg 39) none).isSome) = false → vs 12 = (.pointer (some ⟨b, 0, none⟩))) := hd
  replace hk4 := kept_new.trans hkd hk4
  rcases Bool.eq_false_or_eq_true (decide ((40 : Int) ≤ (gg : Int)) || !(st.getD (min gg 39) none).isSome) with hg | hg
  rw [hg] at d11
  replace he : e = over (havoc _ x _) [(25, vs 11), (26, vs 12)] := he
  rw [d11] at he
  subst he
  refine zs <| ow_nil ?_
  exact ⟨kept_new.refl _, (show (decide ((40 : Int) ≤ (gg : Int)) || !(st.getD (min gg 39) none).isSome) = false → _ = (_ : Value) from fun hh => nomatch hg.symm.trans hh), by first | exact agree_put | exact agree_refl⟩
  rw [hg] at d11
  replace d12 := d12 hg
  replace he : e = over (havoc _ x _) [(25, vs 11), (26, vs 12)] := he
  rw [d11, d12] at he
  subst he
  refine ow_nilCheck rfl rfl rfl <| ow_nil ?_
  exact ⟨kept_new.refl _, (show (decide ((40 : Int) ≤ (gg : Int)) || !(st.getD (min gg 39) none).isSome) = false → _ = ((.pointer (some ⟨b, 0, none⟩)) : Value) from fun _ => rfl), by first | exact agree_put | exact agree_refl⟩
  refine certs_cons ?_ ?_
  intro x vs w4 e hk4 hd he
  obtain ⟨d11, d14⟩ : (vs 11 = (.bool (decide ((40 : Int) ≤ (gg : Int)) || !(st.getD (min gg 39) none).isSome))) ∧ ((decide ((40 : Int) ≤ (gg : Int)) || !(st.getD (min gg 39) none).isSome) = false → vs 14 = (.pointer (some ⟨b, 0, none⟩))) := hd
  replace hk4 := kept_new.trans hkd hk4
  rcases Bool.eq_false_or_eq_true (decide ((40 : Int) ≤ (gg : Int)) || !(st.getD (min gg 39) none).isSome) with hg | hg
  rw [hg] at d11
  replace he : e = over (havoc _ x _) [(25, vs 11), (28, vs 14)] := he
  rw [d11] at he
  subst he
  refine zs <| ow_nil ?_
  exact ⟨kept_new.refl _, (show (decide ((40 : Int) ≤ (gg : Int)) || !(st.getD (min gg 39) none).isSome) = false → _ = (_ : Value) from fun hh => nomatch hg.symm.trans hh), by first | exact agree_put | exact agree_refl⟩
  rw [hg] at d11
  replace d14 := d14 hg
  replace he : e = over (havoc _ x _) [(25, vs 11), (28, vs 14)] := he
  rw [d11, d14] at he
  subst he
  refine zf tF153_0 rfl <| ow_nil ?_
  exact ⟨kept_new.refl _, (show (decide ((40 : Int) ≤ (gg : Int)) || !(st.getD (min gg 39) none).isSome) = false → _ = ((.pointer (some ⟨b, 0 + 0, none⟩)) : Value) from fun _ => rfl), by first | exact agree_put | exact agree_refl⟩
  refine certs_cons ?_ ?_
  intro x vs w4 e hk4 hd he
  obtain ⟨d11, d13, d15⟩ : (vs 11 = (.bool (decide ((40 : Int) ≤ (gg : Int)) || !(st.getD (min gg 39) none).isSome))) ∧ ((decide ((40 : Int) ≤ (gg : Int)) || !(st.getD (min gg 39) none).isSome) = false → vs 13 = (.int .i64 (gg : Int))) ∧ ((decide ((40 : Int) ≤ (gg : Int)) || !(st.getD (min gg 39) none).isSome) = false → vs 15 = (.pointer (some ⟨b, 0 + 0, none⟩))) := hd
  replace hk4 := kept_new.trans hkd hk4
  rcases Bool.eq_false_or_eq_true (decide ((40 : Int) ≤ (gg : Int)) || !(st.getD (min gg 39) none).isSome) with hg | hg
  rw [hg] at d11
  replace he : e = over (havoc _ x _) [(25, vs 11), (27, vs 13), (29, vs 15)] := he
  rw [d11] at he
  subst he
  refine zs <| ow_nil ?_
  exact ⟨kept_new.refl _, (show (decide ((40 : Int) ≤ (gg : Int)) || !(st.getD (min gg 39) none).isSome) = false → _ = (_ : Value) from fun hh => nomatch hg.symm.trans hh), by first | exact agree_put | exact agree_refl⟩
  rw [hg] at d11
  replace d13 := d13 hg
  replace d15 := d15 hg
  replace he : e = over (havoc _ x _) [(25, vs 11), (27, vs 13), (29, vs 15)] := he
  rw [d11, d13, d15] at he
  subst he
  refine ow_indexAddrA tAr151 tI73 rfl rfl rfl rfl (by simp at hg; omega) <| ow_nil ?_
  exact ⟨kept_new.refl _, (show (decide ((40 : Int) ≤ (gg : Int)) || !(st.getD (min gg 39) none).isSome) = false → _ = ((.pointer (some ⟨b, 0 + 0 + gg * 2, none⟩)) : Value) from fun _ => rfl), by first | exact agree_put | exact agree_refl⟩
  refine certs_cons ?_ ?_
  intro x vs w4 e hk4 hd he
  obtain ⟨d11, d16⟩ : (vs 11 = (.bool (decide ((40 : Int) ≤ (gg : Int)) || !(st.getD (min gg 39) none).isSome))) ∧ ((decide ((40 : Int) ≤ (gg : Int)) || !(st.getD (min gg 39) none).isSome) = false → vs 16 = (.pointer (some ⟨b, 0 + 0 + gg * 2, none⟩))) := hd
  replace hk4 := kept_new.trans hkd hk4
  have hR := hR.ext hk4
  rcases Bool.eq_false_or_eq_true (decide ((40 : Int) ≤ (gg : Int)) || !(st.getD (min gg 39) none).isSome) with hg | hg
  rw [hg] at d11
  replace he : e = over (havoc _ x _) [(25, vs 11), (30, vs 16)] := he
  rw [d11] at he
  subst he
  refine zs <| ow_nil ?_
  exact ⟨kept_new.refl _, (show (decide ((40 : Int) ≤ (gg : Int)) || !(st.getD (min gg 39) none).isSome) = false → _ = (_ : Value) from fun hh => nomatch hg.symm.trans hh), by first | exact agree_put | exact agree_refl⟩
  rw [hg] at d11
  replace d16 := d16 hg
  replace he : e = over (havoc _ x _) [(25, vs 11), (30, vs 16)] := he
  rw [d11, d16] at he
  subst he
  refine zL tAgg73 tI73 rfl (hR.at1 (by simp at hg; omega)) (rfl) <| ow_nil ?_
  exact ⟨kept_new.refl _, (show (decide ((40 : Int) ≤ (gg : Int)) || !(st.getD (min gg 39) none).isSome) = false → _ = ((.agg #[str t0.atom, .slice a0 t0.parts.length c0]) : Value) from fun _ => rfl), by first | exact agree_put | exact agree_refl⟩
  refine certs_cons ?_ ?_
  intro x vs w4 e hk4 hd he
  have d11 : vs 11 = (.bool (decide ((40 : Int) ≤ (gg : Int)) || !(st.getD (min gg 39) none).isSome)) := hd
  replace hk4 := kept_new.trans hkd hk4
  have hb6 := hb6.ext hk4
  rcases Bool.eq_false_or_eq_true (decide ((40 : Int) ≤ (gg : Int)) || !(st.getD (min gg 39) none).isSome) with hg | hg
  rw [hg] at d11
  replace he : e = over (havoc _ x _) [(25, vs 11)] := he
  rw [d11] at he
  subst he
  refine zs <| ow_nil ?_
  exact ⟨kept_new.refl _, (show (decide ((40 : Int) ≤ (gg : Int)) || !(st.getD (min gg 39) none).isSome) = false → _ = (_ : Value) from fun hh => nomatch hg.symm.trans hh), by first | exact agree_put | exact agree_refl⟩
  rw [hg] at d11
  replace he : e = over (havoc _ x _) [(25, vs 11)] := he
  rw [d11] at he
  subst he
  refine zL tAgg73 tI73 rfl hb6.all rfl <| ow_nil ?_
  exact ⟨kept_new.refl _, (show (decide ((40 : Int) ≤ (gg : Int)) || !(st.getD (min gg 39) none).isSome) = false → _ = ((.agg #[str (nth need gg).atom, .slice pa (nth need gg).parts.length pc]) : Value) from fun _ => rfl), by first | exact agree_put | exact agree_refl⟩
  refine certs_cons ?_ ?_
  intro x vs w4 e hk4 hd he
  obtain ⟨d11, d17, d18⟩ : (vs 11 = (.bool (decide ((40 : Int) ≤ (gg : Int)) || !(st.getD (min gg 39) none).isSome))) ∧ ((decide ((40 : Int) ≤ (gg : Int)) || !(st.getD (min gg 39) none).isSome) = false → vs 17 = (.agg #[str t0.atom, .slice a0 t0.parts.length c0])) ∧ ((decide ((40 : Int) ≤ (gg : Int)) || !(st.getD (min gg 39) none).isSome) = false → vs 18 = (.agg #[str (nth need gg).atom, .slice pa (nth need gg).parts.length pc])) := hd
  replace hk4 := kept_new.trans hkd hk4
  have hT := hT.ext hk4; have hR := hR.ext hk4
  rcases Bool.eq_false_or_eq_true (decide ((40 : Int) ≤ (gg : Int)) || !(st.getD (min gg 39) none).isSome) with hg | hg
  rw [hg] at d11
  replace he : e = over (havoc _ x _) [(25, vs 11), (31, vs 17), (32, vs 18)] := he
  rw [d11] at he
  subst he
  refine zs <| ow_nil ?_
  exact ⟨kept_new.refl _, (show (decide ((40 : Int) ≤ (gg : Int)) || !(st.getD (min gg 39) none).isSome) = false → _ = (_ : Value) from fun hh => nomatch hg.symm.trans hh), by first | exact agree_put | exact agree_refl⟩
  rw [hg] at d11
  replace d17 := d17 hg
  replace d18 := d18 hg
  replace he : e = over (havoc _ x _) [(25, vs 11), (31, vs 17), (32, vs 18)] := he
  rw [d11, d17, d18] at he
  subst he
  refine ow_call rfl rfl (same_ret t0.size t0 (Nat.le_refl _) (by rw [Bool.or_eq_false_iff] at hg; cases ho : st.getD (min gg 39) none with | none => rw [ho] at hg; simp at hg | some t' => rw [ht0 t' ho]; have h9 := hF _ t' ho; have := fits_size h9.1 h9.2; omega) (nth need gg) _ _ _ _ w4 hR.tree hT) ?_
  rintro v5 w5 ⟨hv5, hk5⟩
  have hs5 := hk5.size
  obtain rfl := hv5
  refine ow_nil ?_
  exact ⟨kept_new.of hk5, (show (decide ((40 : Int) ≤ (gg : Int)) || !(st.getD (min gg 39) none).isSome) = false → _ = ((.bool (eqT t0 (nth need gg))) : Value) from fun _ => rfl), by first | exact agree_put | exact agree_refl⟩
  refine certs_cons ?_ ?_
  intro x vs w4 e hk4 hd he
  obtain ⟨d11, d19⟩ : (vs 11 = (.bool (decide ((40 : Int) ≤ (gg : Int)) || !(st.getD (min gg 39) none).isSome))) ∧ ((decide ((40 : Int) ≤ (gg : Int)) || !(st.getD (min gg 39) none).isSome) = false → vs 19 = (.bool (eqT t0 (nth need gg)))) := hd
  replace hk4 := kept_new.trans hkd hk4
  rcases Bool.eq_false_or_eq_true (decide ((40 : Int) ≤ (gg : Int)) || !(st.getD (min gg 39) none).isSome) with hg | hg
  rw [hg] at d11
  replace he : e = over (havoc _ x _) [(25, vs 11), (33, vs 19)] := he
  rw [d11] at he
  subst he
  refine zs <| ow_nil ?_
  exact ⟨kept_new.refl _, (show (decide ((40 : Int) ≤ (gg : Int)) || !(st.getD (min gg 39) none).isSome) = false → _ = (_ : Value) from fun hh => nomatch hg.symm.trans hh), by first | exact agree_put | exact agree_refl⟩
  rw [hg] at d11
  replace d19 := d19 hg
  replace he : e = over (havoc _ x _) [(25, vs 11), (33, vs 19)] := he
  rw [d11, d19] at he
  subst he
  refine ow_not rfl rfl rfl <| ow_nil ?_
  exact ⟨kept_new.refl _, (show (decide ((40 : Int) ≤ (gg : Int)) || !(st.getD (min gg 39) none).isSome) = false → _ = ((.bool (!eqT t0 (nth need gg))) : Value) from fun _ => rfl), by first | exact agree_put | exact agree_refl⟩
  refine certs_cons ?_ ?_
  intro x vs w4 e hk4 hd he
  obtain ⟨d11, d20⟩ : (vs 11 = (.bool (decide ((40 : Int) ≤ (gg : Int)) || !(st.getD (min gg 39) none).isSome))) ∧ ((decide ((40 : Int) ≤ (gg : Int)) || !(st.getD (min gg 39) none).isSome) = false → vs 20 = (.bool (!eqT t0 (nth need gg)))) := hd
  replace hk4 := kept_new.trans hkd hk4
  rcases Bool.eq_false_or_eq_true (decide ((40 : Int) ≤ (gg : Int)) || !(st.getD (min gg 39) none).isSome) with hg | hg
  rw [hg] at d11
  replace he : e = over (havoc _ x _) [(25, vs 11), (34, vs 20)] := he
  rw [d11] at he
  subst he
  refine zp rfl <| ow_nil ?_
  exact ⟨kept_new.refl _, by first | rfl | (rw [hg]; rfl), by first | exact agree_put | exact agree_refl⟩
  rw [hg] at d11
  replace d20 := d20 hg
  replace he : e = over (havoc _ x _) [(25, vs 11), (34, vs 20)] := he
  rw [d11, d20] at he
  subst he
  refine zp rfl <| ow_nil ?_
  exact ⟨kept_new.refl _, by first | rfl | (rw [hg]; rfl), by first | exact agree_put | exact agree_refl⟩
  exact trivial
  intro x vs w43 hk43 hdraw
  have d0 : vs 0 = (.int .i64 (gg : Int)) := hdraw 0 (by decide)
  have d1 : vs 1 = (.bool (decide ((40 : Int) ≤ (gg : Int)))) := hdraw 1 (by decide)
  have d2 : vs 2 = (.bool (decide ((40 : Int) ≤ (gg : Int)))) := hdraw 2 (by decide)
  have d3 : (decide ((40 : Int) ≤ (gg : Int))) = false → vs 3 = (.pointer (some ⟨b, 0, none⟩)) := hdraw 3 (by decide)
  have d4 : (decide ((40 : Int) ≤ (gg : Int))) = false → vs 4 = (.int .i64 (gg : Int)) := hdraw 4 (by decide)
  have d5 : (decide ((40 : Int) ≤ (gg : Int))) = false → vs 5 = (.pointer (some ⟨b, 0, none⟩)) := hdraw 5 (by decide)
  have d6 : (decide ((40 : Int) ≤ (gg : Int))) = false → vs 6 = (.pointer (some ⟨b, 0 + 80, none⟩)) := hdraw 6 (by decide)
  have d7 : (decide ((40 : Int) ≤ (gg : Int))) = false → vs 7 = (.pointer (some ⟨b, 0 + 80 + gg * 1, none⟩)) := hdraw 7 (by decide)
  have d8 : (decide ((40 : Int) ≤ (gg : Int))) = false → vs 8 = (.bool (st.getD (min gg 39) none).isSome) := hdraw 8 (by decide)
  have d9 : (decide ((40 : Int) ≤ (gg : Int))) = false → vs 9 = (.bool (!(st.getD (min gg 39) none).isSome)) := hdraw 9 (by decide)
  have d10 : vs 10 = (.bool (decide ((40 : Int) ≤ (gg : Int)) || !(st.getD (min gg 39) none).isSome)) := hdraw 10 (by decide)
  have d11 : vs 11 = (.bool (decide ((40 : Int) ≤ (gg : Int)) || !(st.getD (min gg 39) none).isSome)) := hdraw 11 (by decide)
  have d12 : (decide ((40 : Int) ≤ (gg : Int)) || !(st.getD (min gg 39) none).isSome) = false → vs 12 = (.pointer (some ⟨b, 0, none⟩)) := hdraw 12 (by decide)
  have d13 : (decide ((40 : Int) ≤ (gg : Int)) || !(st.getD (min gg 39) none).isSome) = false → vs 13 = (.int .i64 (gg : Int)) := hdraw 13 (by decide)
  have d14 : (decide ((40 : Int) ≤ (gg : Int)) || !(st.getD (min gg 39) none).isSome) = false → vs 14 = (.pointer (some ⟨b, 0, none⟩)) := hdraw 14 (by decide)
  have d15 : (decide ((40 : Int) ≤ (gg : Int)) || !(st.getD (min gg 39) none).isSome) = false → vs 15 = (.pointer (some ⟨b, 0 + 0, none⟩)) := hdraw 15 (by decide)
  have d16 : (decide ((40 : Int) ≤ (gg : Int)) || !(st.getD (min gg 39) none).isSome) = false → vs 16 = (.pointer (some ⟨b, 0 + 0 + gg * 2, none⟩)) := hdraw 16 (by decide)
  have d17 : (decide ((40 : Int) ≤ (gg : Int)) || !(st.getD (min gg 39) none).isSome) = false → vs 17 = (.agg #[str t0.atom, .slice a0 t0.parts.length c0]) := hdraw 17 (by decide)
  have d18 : (decide ((40 : Int) ≤ (gg : Int)) || !(st.getD (min gg 39) none).isSome) = false → vs 18 = (.agg #[str (nth need gg).atom, .slice pa (nth need gg).parts.length pc]) := hdraw 18 (by decide)
  have d19 : (decide ((40 : Int) ≤ (gg : Int)) || !(st.getD (min gg 39) none).isSome) = false → vs 19 = (.bool (eqT t0 (nth need gg))) := hdraw 19 (by decide)
  have d20 : (decide ((40 : Int) ≤ (gg : Int)) || !(st.getD (min gg 39) none).isSome) = false → vs 20 = (.bool (!eqT t0 (nth need gg))) := hdraw 20 (by decide)
  have d21 : vs 21 = (.bool ((decide ((40 : Int) ≤ (gg : Int)) || !(st.getD (min gg 39) none).isSome) || !eqT t0 (nth need gg))) := hdraw 21 (by decide)
  have hK := hK.ext hk43; have hC := hC.ext hk43
  change OW _ _ _ _ [] (over (havoc _ x _) [(14, vs 0), (15, vs 1), (16, vs 2), (17, vs 3), (18, vs 4), (19, vs 5), (20, vs 6), (21, vs 7), (22, vs 8), (23, vs 9), (24, vs 10), (25, vs 11), (26, vs 12), (27, vs 13), (28, vs 14), (29, vs 15), (30, vs 16), (31, vs 17), (32, vs 18), (33, vs 19), (34, vs 20), (35, vs 21)]) _
  rw [d0, d1, d2, d10, d11, d21]
  refine ow_nil <| zc rfl (fun h2 => ?_) (fun h2 => ?_)
  rw [is_z hl40 hF (hG gg (by omega)) ht0] at h2
  have hq : meets st need = false := decide_eq_false (fun hh => by rw [hh gg (by omega)] at h2; cases h2)
  refine zr <| zA <| ow_nil <| cw_ret ?_
  exact ⟨_, rfl, by rw [hq]; rfl, hK⟩
  rw [is_z hl40 hF (hG gg (by omega)) ht0] at h2
  have hyes : is? (st.getD gg none) (nth need gg) = true := by simpa using h2
  refine cw_skip <| cw_region <| ow_add rfl rfl rfl rfl rfl (wrap_i64 _ (by omega) (by omega)) <| zm <| ow_nil ?_
  exact ⟨gg + 1, ⟨rfl, rfl, rfl, rfl⟩, ⟨hK, hC.weak (fun x hx => List.mem_cons_of_mem _ hx), by omega, by intro i hi; rcases Nat.lt_or_ge i gg with h | h; exact hall i h; rw [show i = gg by omega]; exact hyes⟩, by omega⟩
  have hq : meets st need = true := decide_eq_true (fun i hi => hall i (by omega))
  refine cw_exit <| x_hit rfl <| zr <| zA <| ow_nil <| cw_ret ?_
  exact ⟨_, rfl, by rw [hq]; rfl, hK⟩

/-- Given twice is given once. -/
theorem give2_ret (s : Bytes) (hs : isReg s = true) (L : List Nat) (b : Nat) (st : TS) (opens : Nat) (fv : Value) (w : World) (t : Tree) (hC : Chk L w b 153 st opens fv ∨ Chk L w b 153 ((setT st (regN s) (some t)).getD st) opens fv) (hq1 : t.size ≤ 1000000000) (hq2 : t.len ≤ 1000000000) (vt : Value) (ht : RTree (b :: L) w vt t) :
    Ret Tryz.prog 148 [.pointer (some ⟨b, 0, none⟩), str s, vt] w fun v w' => v = .bool (setT st (regN s) (some t)).isSome ∧ Chk L w' b 153 ((setT st (regN s) (some t)).getD st) opens fv ∧ Keep [b] w w' := by
  rcases hC with hC | hC
  · exact give_ret s hs L b st opens fv w hC t hq1 hq2 vt ht
  · have := give_ret s hs L b _ opens fv w hC t hq1 hq2 vt ht
    have e : (setT ((setT st (regN s) (some t)).getD st) (regN s) (some t)).isSome = (setT st (regN s) (some t)).isSome ∧ (setT ((setT st (regN s) (some t)).getD st) (regN s) (some t)).getD ((setT st (regN s) (some t)).getD st) = (setT st (regN s) (some t)).getD st := by
      unfold setT
      simp only [Option.bind_some]
      by_cases hf : fitsB t = true
      · simp [hf]
      · simp [hf]
    rw [e.1, e.2] at this
    exact this
end Go.Proofs.YtnkjgoholocliaaGreatDoor
