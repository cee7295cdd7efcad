/-
  Lemmas for the law of ProgramLoad, no statement of their own: walks of the reference's checker, small functions.
-/
import Derived.Test.YtnkjgoholocliaaGreatDoorOj
import Derived.Test.YtnkjgoholocliaaGreatDoorOi
import Derived.Test.YtnkjgoholocliaaGreatDoorOd
import Derived.Test.YtnkjgoholocliaaGreatDoorOc
namespace Go.Proofs.YtnkjgoholocliaaGreatDoor
open Go

theorem l1Read0_ret (w : World) : Ret Tryz.prog 102 [str [], .int .i64 0, .int .i64 0] w fun r w' => r = .tuple #[.agg #[str [], .slice none 0 0], .int .i64 (-1)] ∧ Keep [] w w' := by
  have hK := Keep.refl [] w
  refine ret_gen [.cell 6 67, .tmp 7] 87 Tryz.func102 rfl nm102 rfl rfl rfl ?_
  refine zr <| ow_allocA tI67 rfl rfl rfl ?_
  intro w1 hk1 hb6 hz1
  have hK := hK.grow; have hK := hK.ext hk1
  refine zA <| ow_nil <| zr <| ow_build (tB67_ _) rfl rfl <| ow_allocA tI67 rfl rfl rfl ?_
  intro w2 hk2 hb8 hz2
  have hK := hK.grow; have hK := hK.ext hk2; have hb6 := hb6.grow; have hb6 := hb6.ext hk2
  refine ow_storeA tI67 rfl rfl rfl rfl rfl hb8 rfl ?_
  intro w3 hk3 hb8 hz3
  have hK := hK.sto hk3 (by simp <;> omega); have hb6 := hb6.sto hk3 (by simp <;> omega)
  refine ow_nil <| cw_seq <| zr <| zm <| ow_gtr rfl rfl rfl rfl rfl <| zm ?_
  apply ow_or 5 15 20 [15, 16, 17, 18, 19, 20] (fun w' => w3 = w') rfl
  intro h1
  replace h1 := tst h1
  refine zs <| zs <| zs <| zs <| zp rfl <| ow_nil ?_
  exact ⟨by repeat (first | with_reducible exact agree_refl | refine agree_upd rfl ?_ | refine agree_hav rfl ?_), rfl, rfl⟩
  intro h1
  replace h1 := tst h1
  refine zm <| zm <| ow_lenS tStr9 rfl rfl rfl <| ow_geq rfl rfl rfl rfl rfl <| zp rfl <| ow_nil ?_
  exact ⟨by repeat (first | with_reducible exact agree_refl | refine agree_upd rfl ?_ | refine agree_hav rfl ?_), rfl, rfl⟩
  rintro xx _ rfl
  refine ow_nil <| zc rfl (fun h2 => ?_) (fun h2 => ?_)
  skip
  refine zr <| zL tAgg67 tI67 rfl hb8.all rfl <| ow_storeA tI67 rfl rfl rfl rfl rfl hb6 rfl ?_
  intro w4 hk4 hb6 hz4
  have hK := hK.sto hk4 (by simp <;> omega)
  refine zA <| ow_nil <| cw_ret ?_
  exact ⟨[_, _], ⟨resultAt_blk tAgg67 tI67 rfl hb6 rfl, rfl⟩, rfl, hK⟩
  simp at h2

theorem l1Parse2_ret (s : Bytes) (L : List Nat) (w : World) (hL : ∀ x, x ∈ L → x < w.heap.size) :
    Ret Tryz.prog 55 [str s] w fun v w' => (∃ t tv, v = .tuple #[tv, .bool (parse s).isSome] ∧ RTree L w' tv t ∧ KeptT s t) ∧ Keep [] w w' := by
  by_cases hs : s = []
  · subst hs
    have hK := Keep.refl [] w
    refine ret_gen [.cell 2 67, .tmp 3] 20 Tryz.func55 rfl nm55 rfl rfl rfl ?_
    refine zr <| ow_allocA tI67 rfl rfl rfl ?_
    intro w1 hk1 hb2 hz1
    have hK := hK.grow; have hK := hK.ext hk1
    refine zA <| ow_nil <| cw_seq <| zr <| zm <| ow_lenS tStr9 rfl rfl rfl <| ow_gtr rfl rfl rfl rfl rfl <| ow_nil <| zc rfl (fun h1 => ?_) (fun h1 => ?_)
    simp at h1
    skip
    refine cw_skip <| zr <| zm <| ow_call rfl rfl (l1Read0_ret w1) ?_
    rintro v2 w2 ⟨hv2, hk2⟩
    have hs2 := hk2.size
    have hK := hK.ext hk2; have hb2 := hb2.ext hk2
    obtain rfl := hv2
    refine zm <| zx (i := 0) rfl rfl <| zx (i := 1) rfl rfl <| ow_allocA tI67 rfl rfl rfl ?_
    intro w3 hk3 hb4 hz3
    have hK := hK.grow; have hK := hK.ext hk3; have hb2 := hb2.grow; have hb2 := hb2.ext hk3
    refine ow_storeA tI67 rfl rfl rfl rfl rfl hb4 rfl ?_
    intro w4 hk4 hb4 hz4
    have hK := hK.sto hk4 (by simp <;> omega); have hb2 := hb2.sto hk4 (by simp <;> omega)
    refine zA <| ow_nil <| zr <| zL tAgg67 tI67 rfl hb4.all rfl <| zm <| zm <| ow_lenS tStr9 rfl rfl rfl <| ow_eql rfl rfl rfl rfl rfl <| ow_storeA tI67 rfl rfl rfl rfl rfl hb2 rfl ?_
    intro w5 hk5 hb2 hz5
    have hK := hK.sto hk5 (by simp <;> omega)
    refine zA <| ow_nil <| cw_ret ?_
    exact ⟨[_, _], ⟨resultAt_blk tAgg67 tI67 rfl hb2 rfl, rfl⟩, ⟨.mk [] [], _, by rw [parse_nil]; rfl, rtree_mk rtrees_nil, fun t' h => (by rw [parse_nil] at h; cases h), fun _ => rfl⟩, hK⟩
  · obtain ⟨h1, h2⟩ := l1Parse_ret s L w hL
    exact ⟨h1, Calls.mono h2 fun e w' ⟨v, he, ⟨t, tv, hv, ht, hp⟩, hk⟩ => ⟨v, he, ⟨t, tv, hv, ht, hp, fun e => absurd e hs⟩, hk⟩⟩

theorem l6tTypes_ret (k : Bk) (hn : k.needs.length ≤ 40) (v : Value) (La : List Nat) (w : World) (hv : RBk La w v k) : Ret Tryz.prog 143 [v] w fun r w' => RStrs [] w' r (typesS k.needs k.needs.length) ∧ Keep [] w w' := by
  obtain ⟨a1, n1, c1, a2, n2, c2, rfl, he1, he2, hq1, hq2⟩ := rbk_cases hv
  subst he1
  have hK := Keep.refl [] w
  refine ret_of [.tmp 2] 22 Tryz.func143 rfl nm143 rfl rfl ?_
  refine zr <| ow_boxA rfl rfl rfl ?_
  intro w1 hk1 hb1 hz1
  have hK := hK.ext hk1
  refine zA <| ow_nil <| zr <| ow_makeSlice (zs := [str []]) (row := [.val (str [])]) w.heap.size 40 [] tSl35 tI9 rfl rfl rfl rfl rfl rfl rfl rfl rfl (by omega) (fun _ _ => ⟨.val _, trivial⟩) hK.size (by simp) ?_
  intro w2 hk2 hz1 hO
  have hK := hK.ext hk2; have hb1 := hb1.ext hk2
  rw [show List.replicate 40 [C.val (str [])] = strsC (typesS k.needs 0) from by rw [typesS_zero]; unfold strsC; rw [List.map_replicate]] at hO
  refine zA <| ow_nil <| cw_seq <| zr <| zA <| ow_nil <| cw_block ?_
  refine cw_loop (fun j : Nat => [(1, .pointer (some ⟨w.heap.size, 0, none⟩)), (3, .slice (some ⟨w1.heap.size, 0, none⟩) 40 40), (4, .int .i64 (j : Int))]) (fun j w' => Keep [] w w' ∧ Blk w' w.heap.size [str k.label, .slice a1 k.needs.length c1, .slice a2 n2 c2].toArray 55 ∧ Gr w.heap.size [] w' 9 1 (.slice (some ⟨w1.heap.size, 0, none⟩) 40 40) (some w1.heap.size) (strsC (typesS k.needs j)) ∧ j ≤ k.needs.length) (fun j => k.needs.length - j) (0) (⟨rfl, rfl, rfl⟩) (⟨hK, hb1, hO, by omega⟩) ?_
  intro gg w3 e3 hI
  obtain ⟨hK, hb1, hO, hk⟩ := hI
  refine cw_seq <| zr <| zm <| zf tF55_1 rfl <| zl tOne35 rfl (hb1.at rfl) <| ow_len tSl35 rfl rfl rfl <| ow_lss rfl rfl rfl rfl rfl <| ow_nil <| zc rfl (fun h1 => ?_) (fun h1 => ?_)
  have hg := sth_get (xs := k.needs) (i := gg) (by omega)
  obtain ⟨b1, off1, rfl, hc1⟩ := rstrs_get hq1 hg
  refine cw_skip <| cw_seq <| cw_block <| cw_region <| zm <| zm <| zf tF55_1 rfl <| zl tOne35 rfl (hb1.at rfl) <| zm <| zi tSl35 tI9 rfl rfl (by omega) <| zl tOne9 rfl (hc1.ext hK 0 _ rfl) <| zi tSl35 tI9 rfl rfl (by omega) <| ow_storeG (i := gg) (vs := [str (sth k.needs gg)]) (row := [.val (str (sth k.needs gg))]) tI9 rfl rfl rfl rfl (by omega) hO (by rw [strsC_length]; simp [typesS]; omega) rfl rfl ⟨.val _, trivial⟩ ?_
  intro w4 hk4 hz9 hO
  have hK := hK.since hk4 (by simp; omega)
  have hb1 := hb1.sto hk4 (by simp; omega)
  rw [show (strsC (typesS k.needs gg)).set gg [C.val (str (sth k.needs gg))] = strsC (typesS k.needs (gg + 1)) from by rw [← typesS_set k.needs (by omega)]; simp only [strsC, List.map_set]] at hO
  refine ow_nil <| cw_region <| zm <| ow_add rfl rfl rfl rfl rfl (wrap_i64 _ (by omega) (by omega)) <| zA <| ow_nil ?_
  exact ⟨gg + 1, ⟨rfl, rfl, rfl⟩, ⟨hK, hb1, hO, by omega⟩, by omega⟩
  have he : gg = k.needs.length := by omega
  subst he
  refine cw_exit <| x_hit rfl <| zr <| zm <| zA <| ow_nil <| cw_ret ?_
  exact ⟨_, rfl, hO.done, hK⟩

theorem Gr.form {B : Nat} {L : List Nat} {w : World} {T : TypeId} {sz : Nat} {a : Option Addr} {n c : Nat} {g : Option Nat} {rows : List (List C)} (h : Gr B L w T sz (.slice a n c) g rows) (hp : 0 < rows.length) : ∃ b, a = some ⟨b, 0, none⟩ ∧ g = some b := by
  obtain ⟨xs, hx⟩ := h.own
  rcases hx.own.2 with ⟨_, h0, _⟩ | ⟨b, _, _, e, hv, _⟩
  · omega
  · cases hv; exact ⟨b, rfl, e⟩
theorem l6tSet_ret (xs : List Bytes) (hx : xs.length ≤ 1000) (d : Nat) (hd : d < xs.length) (s : Bytes) (v : Value) (w : World) (hv : RStrs [] w v xs) :
    Ret Tryz.prog 164 [v, .int .i64 (d : Int), str s] w fun r w' => (∃ a c, r = .tuple #[.slice a xs.length c, .bool (parse s).isSome] ∧ RStrs [] w' (.slice a xs.length c) (xs.set d s)) ∧ Keep [] w w' := by
  obtain ⟨a, n, c, rfl, hn⟩ := rstrs_cases hv
  subst hn
  have hK := Keep.refl [] w
  refine ret_of [.tmp 6, .tmp 7] 19 Tryz.func164 rfl nm164 rfl rfl ?_
  refine zr <| zA <| zA <| ow_nil <| zr <| ow_buildSlice0 w.heap.size [] tSl35 tI9 rfl rfl (Nat.le_refl _) (by simp) ?_
  intro w1 hk1 hz1 hO
  have hvf := Rep.ext (Rep.fresh hv (L' := [w.heap.size]) (by intro x hx; simp at hx; subst hx; exact .inr (Nat.le_refl _))) hk1
  have hK := hK.ext hk1
  refine zm <| ow_growAll tSl35 tI9 rfl rfl rfl rfl rfl rfl hO (Rep.weaken hvf (by simp)) (by intro row hr; simp only [strsC, List.mem_map] at hr; obtain ⟨x, _, rfl⟩ := hr; intro c hc u hu; simp only [List.mem_cons, List.not_mem_nil, or_false] at hc; subst hc; cases hu; rfl) (by rw [strsC_length]; simp; omega) ?_
  intro a4 cc4 g4 w2 hO3 hk2
  have hK := hO.since hK hk2
  rw [show ([] : List (List C)).length + (strsC xs).length = xs.length from by rw [strsC_length]; simp] at hO3 ⊢
  rw [List.nil_append] at hO3
  refine zA <| ow_nil <| zr <| zm <| zm <| zm ?_
  obtain ⟨nb, rfl, rfl⟩ := hO3.form (by rw [strsC_length]; omega)
  refine zi tSl35 tI9 rfl rfl (by omega) <| ow_storeG (i := d) (vs := [str s]) (row := [.val (str s)]) tI9 rfl rfl rfl rfl (by omega) hO3 (by rw [strsC_length]; exact hd) rfl rfl ⟨.val _, trivial⟩ ?_
  intro w3 hk3 hz9 hO
  have hK := hK.since hk3 (by intro x hx; simp at hx; subst hx; exact .inr (hO3.low _ rfl))
  rw [show (strsC xs).set d [C.val (str s)] = strsC (xs.set d s) from by simp only [strsC, List.map_set]] at hO
  refine ow_nil <| zr <| zm <| zm <| ow_call rfl rfl (FormValid_ret s w3) ?_
  rintro v4 w4 ⟨hv4, hk4⟩
  have hs4 := hk4.size
  have hK := hK.ext hk4; have hO := hO.ext hk4
  obtain rfl := hv4
  refine zA <| zA <| ow_nil <| cw_ret ?_
  exact ⟨_, rfl, ⟨_, _, rfl, hO.done⟩, hK⟩

theorem l6tFits_ret (ps : List Bytes) (hl : szS ps ≤ 1000000000) (v : Value) (L : List Nat) (w : World) (hv : RStrs L w v ps) : Ret Tryz.prog 163 [v] w fun r w' => r = .bool (fitsS ps) ∧ Keep [] w w' := by
  obtain ⟨a, n, c, rfl, hn⟩ := rstrs_cases hv
  subst hn
  have hK := Keep.refl [] w
  have hto := fun k => szSto_le ps k
  have hpl : ps.length ≤ szS ps := by unfold szS; omega
  have ht0 : szSto ps 0 = ps.length := by simp [szSto]
  refine ret_of [.tmp 2] 21 Tryz.func163 rfl nm163 rfl rfl ?_
  refine zr <| zA <| ow_nil <| zr <| zA <| ow_nil <| cw_seq <| zr <| zA <| ow_nil <| cw_block ?_
  refine cw_loop (fun k : Nat => [(0, .slice a ps.length c), (3, .int .i64 ((3 + k + (szSto ps k - ps.length) : Nat) : Int)), (4, .int .i64 (k : Int))]) (fun k w' => Keep [] w w' ∧ k ≤ ps.length) (fun k => ps.length - k) (0) (⟨rfl, congrArg (Value.int .i64) (by omega), rfl⟩) (⟨hK, by omega⟩) ?_
  intro gg w1 e1 hI
  obtain ⟨hK, hk⟩ := hI
  refine cw_seq <| zr <| zm <| zm <| ow_len tSl35 rfl rfl rfl <| ow_lss rfl rfl rfl rfl rfl <| ow_nil <| zc rfl (fun h1 => ?_) (fun h1 => ?_)
  have hg := sth_get (xs := ps) (i := gg) (by omega)
  obtain ⟨b1, off1, rfl, hc1⟩ := rstrs_get hv hg
  have hst := szSto_step (xs := ps) (k := gg) (by omega)
  have h1 := hto (gg + 1)
  have h2 : ps.length ≤ szSto ps gg := (by unfold szSto; omega)
  refine cw_skip <| cw_seq <| cw_block <| cw_region <| zm <| ow_add rfl rfl rfl rfl rfl (wrap_i64 _ (by omega) (by omega)) <| zm <| zm <| zi tSl35 tI9 rfl rfl (by omega) <| zl tOne9 rfl (hc1.ext hK 0 _ rfl) <| ow_lenS tStr9 rfl rfl rfl <| ow_add rfl rfl rfl rfl rfl (wrap_i64 _ (by omega) (by omega)) <| zA <| ow_nil <| cw_region <| zm <| ow_add rfl rfl rfl rfl rfl (wrap_i64 _ (by omega) (by omega)) <| zA <| ow_nil ?_
  exact ⟨gg + 1, ⟨rfl, congrArg (Value.int .i64) (by omega), rfl⟩, ⟨hK, by omega⟩, by omega⟩
  have he : gg = ps.length := by omega
  subst he
  have h3 := szSto_all (xs := ps) (Nat.le_refl _)
  refine cw_exit <| x_hit rfl <| zr <| zm <| ow_leq rfl rfl rfl rfl rfl <| zA <| ow_nil <| cw_ret ?_
  exact ⟨_, rfl, congrArg Value.bool (by unfold fitsS; exact decide_eq_decide.2 (by omega)), hK⟩

theorem l1Has_ret (ps : List Bytes) (hl : ps.length ≤ 1000000000) (s : Bytes) (v : Value) (L : List Nat) (w : World) (hv : RStrs L w v ps) : Ret Tryz.prog 79 [v, str s] w fun r w' => r = .bool (decide (s ∈ ps)) ∧ Keep [] w w' := by
  obtain ⟨a, n, c, rfl, hn⟩ := rstrs_cases hv
  subst hn
  have hK := Keep.refl [] w
  refine ret_of [.tmp 4] 18 Tryz.func79 rfl nm79 rfl rfl ?_
  refine zr <| zA <| ow_nil <| cw_seq <| zr <| zA <| ow_nil <| cw_block ?_
  refine cw_loop (fun k : Nat => [(0, .slice a ps.length c), (1, str s), (5, .int .i64 (k : Int))]) (fun k w' => Keep [] w w' ∧ k ≤ ps.length ∧ ∀ i, i < k → sth ps i ≠ s) (fun k => ps.length - k) (0) (⟨rfl, rfl, rfl⟩) (⟨hK, by omega, by intro i hi; omega⟩) ?_
  intro gg w1 e1 hI
  obtain ⟨hK, hk, hall⟩ := hI
  refine cw_seq <| zr <| zm <| zm <| ow_len tSl35 rfl rfl rfl <| ow_lss rfl rfl rfl rfl rfl <| ow_nil <| zc rfl (fun h1 => ?_) (fun h1 => ?_)
  have hg := sth_get (xs := ps) (i := gg) (by omega)
  obtain ⟨b1, off1, rfl, hc1⟩ := rstrs_get hv hg
  refine cw_skip <| cw_seq <| cw_block <| zr <| zm <| zm <| zi tSl35 tI9 rfl rfl (by omega) <| zl tOne9 rfl (hc1.ext hK 0 _ rfl) <| zm <| ow_seql rfl rfl rfl rfl <| ow_nil <| zc rfl (fun h2 => ?_) (fun h2 => ?_)
  have hq : s ∈ ps := (by rw [← h2]; exact List.mem_of_getElem? hg)
  refine zr <| zA <| ow_nil <| cw_ret ?_
  exact ⟨_, rfl, by rw [decide_eq_true hq]; rfl, hK⟩
  have hne := h2
  refine cw_skip <| cw_region <| zm <| ow_add rfl rfl rfl rfl rfl (wrap_i64 _ (by omega) (by omega)) <| zA <| ow_nil ?_
  exact ⟨gg + 1, ⟨rfl, rfl, rfl⟩, ⟨hK, by omega, by intro i hi; rcases Nat.lt_or_ge i gg with h | h; exact hall i h; rw [show i = gg by omega]; exact hne⟩, by omega⟩
  have hq : ¬ s ∈ ps := (fun hm => by obtain ⟨i, hi, e⟩ := List.getElem_of_mem hm; exact hall i (by omega) (by simp [sth, List.getElem?_eq_getElem hi, e]))
  refine cw_exit <| x_hit rfl <| zr <| zA <| ow_nil <| cw_ret ?_
  exact ⟨_, rfl, by rw [decide_eq_false hq]; rfl, hK⟩

theorem l6tMeets_ret (xs need : List Bytes) (hl : need.length ≤ 1000000000) (hl2 : xs.length ≤ 1000000000) (v1 v2 : Value) (L1 L2 : List Nat) (w : World) (hv1 : RStrs L1 w v1 xs) (hv2 : RStrs L2 w v2 need) : Ret Tryz.prog 162 [v1, v2] w fun r w' => r = .bool (meetsS xs need) ∧ Keep [] w w' := by
  obtain ⟨a1, n1, c1, rfl, hn1⟩ := rstrs_cases hv1
  obtain ⟨a2, n2, c2, rfl, hn2⟩ := rstrs_cases hv2
  subst hn1 hn2
  have hK := Keep.refl [] w
  refine ret_of [.tmp 4] 27 Tryz.func162 rfl nm162 rfl rfl ?_
  refine zr <| zA <| ow_nil <| cw_seq <| zr <| zA <| ow_nil <| cw_block ?_
  refine cw_loop (fun k : Nat => [(0, .slice a1 xs.length c1), (1, .slice a2 need.length c2), (5, .int .i64 (k : Int))]) (fun k w' => Keep [] w w' ∧ k ≤ need.length ∧ ∀ i, i < k → i < xs.length ∧ sth xs i = sth need i) (fun k => need.length - k) (0) (⟨rfl, rfl, rfl⟩) (⟨hK, by omega, by intro i hi; omega⟩) ?_
  intro gg w1 e1 hI
  obtain ⟨hK, hk, hall⟩ := hI
  refine cw_seq <| zr <| zm <| zm <| ow_len tSl35 rfl rfl rfl <| ow_lss rfl rfl rfl rfl rfl <| ow_nil <| zc rfl (fun h1 => ?_) (fun h1 => ?_)
  have hg2 := sth_get (xs := need) (i := gg) (by omega)
  obtain ⟨b2, off2, rfl, hc2⟩ := rstrs_get hv2 hg2
  have hx1 : ∃ b1 off1, gg < xs.length → (a1 = some ⟨b1, off1, none⟩ ∧ CellsAt w b1 (off1 + gg * 1) [str (sth xs gg)]) := (by by_cases h : gg < xs.length; (· obtain ⟨b1, off1, e, hc⟩ := rstrs_get hv1 (sth_get h); exact ⟨b1, off1, fun _ => ⟨e, hc⟩⟩); (· exact ⟨0, 0, fun h2 => absurd h2 h⟩))
  obtain ⟨b1, off1, hx1⟩ := hx1
  refine cw_skip <| cw_seq <| cw_block <| cw_seq ?_
  refine cw_draw tMixed kept_new 15 [12, 13, 14, 15, 16, 17, 18, 19, 20, 21, 22, 23, 24, 25, 26] [12, 13, 14, 15, 16, 17, 18, 19, 20, 21, 22, 23, 24, 25, 26] [[], [], [1], [0, 2], [3], [4], [4], [4, 5, 6], [4, 7], [4], [4], [4, 9, 10], [4, 11], [4, 8, 12], [4, 13]] [fun v _ => v = (.int .i64 (gg : Int)), fun v _ => v = (.slice a1 xs.length c1), fun v _ => v = (.int .i64 (xs.length : Int)), fun v _ => v = (.bool (decide ((xs.length : Int) ≤ (gg : Int)))), fun v _ => v = (.bool (decide ((xs.length : Int) ≤ (gg : Int)))), fun v _ => (decide ((xs.length : Int) ≤ (gg : Int))) = false → v = (.slice (some ⟨b1, off1, none⟩) xs.length c1), fun v _ => (decide ((xs.length : Int) ≤ (gg : Int))) = false → v = (.int .i64 (gg : Int)), fun v _ => (decide ((xs.length : Int) ≤ (gg : Int))) = false → v = (.pointer (some ⟨b1, off1 + gg * 1, none⟩)), fun v _ => (decide ((xs.length : Int) ≤ (gg : Int))) = false → v = (str (sth xs gg)), fun v _ => (decide ((xs.length : Int) ≤ (gg : Int))) = false → v = (.slice (some ⟨b2, off2, none⟩) need.length c2), fun v _ => (decide ((xs.length : Int) ≤ (gg : Int))) = false → v = (.int .i64 (gg : Int)), fun v _ => (decide ((xs.length : Int) ≤ (gg : Int))) = false → v = (.pointer (some ⟨b2, off2 + gg * 1, none⟩)), fun v _ => (decide ((xs.length : Int) ≤ (gg : Int))) = false → v = (str (sth need gg)), fun v _ => (decide ((xs.length : Int) ≤ (gg : Int))) = false → v = (.bool (decide (sth xs gg ≠ sth need gg))), fun v _ => v = (.bool (decide ((xs.length : Int) ≤ (gg : Int)) || decide (sth xs gg ≠ sth need gg)))] (by decide) (stab_eq (stab_eq (stab_eq (stab_eq (stab_eq (stab_if (stab_if (stab_if (stab_if (stab_if (stab_if (stab_if (stab_if (stab_if (stab_eq trivial))))))))))))))) (fun wd hkd => ?_) ?_
  refine certs_cons ?_ ?_
  intro x vs w2 e hk2 hd he
  replace hk2 := kept_new.trans hkd hk2
  replace he : e = over (havoc _ x _) [] := he
  subst he
  refine zm <| ow_nil ?_
  exact ⟨kept_new.refl _, rfl, by first | exact agree_put | exact agree_refl⟩
  refine certs_cons ?_ ?_
  intro x vs w2 e hk2 hd he
  replace hk2 := kept_new.trans hkd hk2
  replace he : e = over (havoc _ x _) [] := he
  subst he
  refine zm <| ow_nil ?_
  exact ⟨kept_new.refl _, rfl, by first | exact agree_put | exact agree_refl⟩
  refine certs_cons ?_ ?_
  intro x vs w2 e hk2 hd he
  have d1 : vs 1 = (.slice a1 xs.length c1) := hd
  replace hk2 := kept_new.trans hkd hk2
  replace he : e = over (havoc _ x _) [(13, vs 1)] := he
  rw [d1] at he
  subst he
  refine ow_len tSl35 rfl rfl rfl <| ow_nil ?_
  exact ⟨kept_new.refl _, rfl, by first | exact agree_put | exact agree_refl⟩
  refine certs_cons ?_ ?_
  intro x vs w2 e hk2 hd he
  obtain ⟨d0, d2⟩ : (vs 0 = (.int .i64 (gg : Int))) ∧ (vs 2 = (.int .i64 (xs.length : Int))) := hd
  replace hk2 := kept_new.trans hkd hk2
  replace he : e = over (havoc _ x _) [(12, vs 0), (14, vs 2)] := he
  rw [d0, d2] at he
  subst he
  refine ow_geq rfl rfl rfl rfl rfl <| ow_nil ?_
  exact ⟨kept_new.refl _, rfl, by first | exact agree_put | exact agree_refl⟩
  refine certs_cons ?_ ?_
  intro x vs w2 e hk2 hd he
  have d3 : vs 3 = (.bool (decide ((xs.length : Int) ≤ (gg : Int)))) := hd
  replace hk2 := kept_new.trans hkd hk2
  replace he : e = over (havoc _ x _) [(15, vs 3)] := he
  rw [d3] at he
  subst he
  refine zm <| ow_nil ?_
  exact ⟨kept_new.refl _, rfl, by first | exact agree_put | exact agree_refl⟩
  refine certs_cons ?_ ?_
  intro x vs w2 e hk2 hd he
  have d4 : vs 4 = (.bool (decide ((xs.length : Int) ≤ (gg : Int)))) := hd
  replace hk2 := kept_new.trans hkd hk2
  rcases Bool.eq_false_or_eq_true (decide ((xs.length : Int) ≤ (gg : Int))) with hg | hg
  rw [hg] at d4
  replace he : e = over (havoc _ x _) [(16, vs 4)] := he
  rw [d4] at he
  subst he
  refine zs <| ow_nil ?_
  exact ⟨kept_new.refl _, (show (decide ((xs.length : Int) ≤ (gg : Int))) = false → _ = (_ : Value) from fun hh => nomatch hg.symm.trans hh), by first | exact agree_put | exact agree_refl⟩
  rw [hg] at d4
  replace he : e = over (havoc _ x _) [(16, vs 4)] := he
  rw [d4] at he
  subst he
  refine zm <| ow_nil ?_
  exact ⟨kept_new.refl _, (show (decide ((xs.length : Int) ≤ (gg : Int))) = false → _ = ((.slice (some ⟨b1, off1, none⟩) xs.length c1) : Value) from fun _ => (show _ = ((.slice (some ⟨b1, off1, none⟩) xs.length c1) : Value) from by exact (show Value.slice a1 xs.length c1 = .slice (some ⟨b1, off1, none⟩) xs.length c1 from by rw [(hx1 (by simp at hg; omega)).1]))), by first | exact agree_put | exact agree_refl⟩
  refine certs_cons ?_ ?_
  intro x vs w2 e hk2 hd he
  have d4 : vs 4 = (.bool (decide ((xs.length : Int) ≤ (gg : Int)))) := hd
  replace hk2 := kept_new.trans hkd hk2
  rcases Bool.eq_false_or_eq_true (decide ((xs.length : Int) ≤ (gg : Int))) with hg | hg
  rw [hg] at d4
  replace he : e = over (havoc _ x _) [(16, vs 4)] := he
  rw [d4] at he
  subst he
  refine zs <| ow_nil ?_
  exact ⟨kept_new.refl _, (show (decide ((xs.length : Int) ≤ (gg : Int))) = false → _ = (_ : Value) from fun hh => nomatch hg.symm.trans hh), by first | exact agree_put | exact agree_refl⟩
  rw [hg] at d4
  replace he : e = over (havoc _ x _) [(16, vs 4)] := he
  rw [d4] at he
  subst he
  refine zm <| ow_nil ?_
  exact ⟨kept_new.refl _, (show (decide ((xs.length : Int) ≤ (gg : Int))) = false → _ = ((.int .i64 (gg : Int)) : Value) from fun _ => rfl), by first | exact agree_put | exact agree_refl⟩
  refine certs_cons ?_ ?_
  intro x vs w2 e hk2 hd he
  obtain ⟨d4, d5, d6⟩ : (vs 4 = (.bool (decide ((xs.length : Int) ≤ (gg : Int))))) ∧ ((decide ((xs.length : Int) ≤ (gg : Int))) = false → vs 5 = (.slice (some ⟨b1, off1, none⟩) xs.length c1)) ∧ ((decide ((xs.length : Int) ≤ (gg : Int))) = false → vs 6 = (.int .i64 (gg : Int))) := hd
  replace hk2 := kept_new.trans hkd hk2
  rcases Bool.eq_false_or_eq_true (decide ((xs.length : Int) ≤ (gg : Int))) with hg | hg
  rw [hg] at d4
  replace he : e = over (havoc _ x _) [(16, vs 4), (17, vs 5), (18, vs 6)] := he
  rw [d4] at he
  subst he
  refine zs <| ow_nil ?_
  exact ⟨kept_new.refl _, (show (decide ((xs.length : Int) ≤ (gg : Int))) = false → _ = (_ : Value) from fun hh => nomatch hg.symm.trans hh), by first | exact agree_put | exact agree_refl⟩
  rw [hg] at d4
  replace d5 := d5 hg
  replace d6 := d6 hg
  replace he : e = over (havoc _ x _) [(16, vs 4), (17, vs 5), (18, vs 6)] := he
  rw [d4, d5, d6] at he
  subst he
  refine zi tSl35 tI9 rfl rfl (by simp at hg; omega) <| ow_nil ?_
  exact ⟨kept_new.refl _, (show (decide ((xs.length : Int) ≤ (gg : Int))) = false → _ = ((.pointer (some ⟨b1, off1 + gg * 1, none⟩)) : Value) from fun _ => rfl), by first | exact agree_put | exact agree_refl⟩
  refine certs_cons ?_ ?_
  intro x vs w2 e hk2 hd he
  obtain ⟨d4, d7⟩ : (vs 4 = (.bool (decide ((xs.length : Int) ≤ (gg : Int))))) ∧ ((decide ((xs.length : Int) ≤ (gg : Int))) = false → vs 7 = (.pointer (some ⟨b1, off1 + gg * 1, none⟩))) := hd
  replace hk2 := kept_new.trans hkd hk2
  have hK := hK.ext hk2
  rcases Bool.eq_false_or_eq_true (decide ((xs.length : Int) ≤ (gg : Int))) with hg | hg
  rw [hg] at d4
  replace he : e = over (havoc _ x _) [(16, vs 4), (19, vs 7)] := he
  rw [d4] at he
  subst he
  refine zs <| ow_nil ?_
  exact ⟨kept_new.refl _, (show (decide ((xs.length : Int) ≤ (gg : Int))) = false → _ = (_ : Value) from fun hh => nomatch hg.symm.trans hh), by first | exact agree_put | exact agree_refl⟩
  rw [hg] at d4
  replace d7 := d7 hg
  replace he : e = over (havoc _ x _) [(16, vs 4), (19, vs 7)] := he
  rw [d4, d7] at he
  subst he
  refine zl tOne9 rfl ((hx1 (by simp at hg; omega)).2.ext hK 0 _ rfl) <| ow_nil ?_
  exact ⟨kept_new.refl _, (show (decide ((xs.length : Int) ≤ (gg : Int))) = false → _ = ((str (sth xs gg)) : Value) from fun _ => rfl), by first | exact agree_put | exact agree_refl⟩
  refine certs_cons ?_ ?_
  intro x vs w2 e hk2 hd he
  have d4 : vs 4 = (.bool (decide ((xs.length : Int) ≤ (gg : Int)))) := hd
  replace hk2 := kept_new.trans hkd hk2
  rcases Bool.eq_false_or_eq_true (decide ((xs.length : Int) ≤ (gg : Int))) with hg | hg
  rw [hg] at d4
  replace he : e = over (havoc _ x _) [(16, vs 4)] := he
  rw [d4] at he
  subst he
  refine zs <| ow_nil ?_
  exact ⟨kept_new.refl _, (show (decide ((xs.length : Int) ≤ (gg : Int))) = false → _ = (_ : Value) from fun hh => nomatch hg.symm.trans hh), by first | exact agree_put | exact agree_refl⟩
  rw [hg] at d4
  replace he : e = over (havoc _ x _) [(16, vs 4)] := he
  rw [d4] at he
  subst he
  refine zm <| ow_nil ?_
  exact ⟨kept_new.refl _, (show (decide ((xs.length : Int) ≤ (gg : Int))) = false → _ = ((.slice (some ⟨b2, off2, none⟩) need.length c2) : Value) from fun _ => rfl), by first | exact agree_put | exact agree_refl⟩
  refine certs_cons ?_ ?_
  intro x vs w2 e hk2 hd he
  have d4 : vs 4 = (.bool (decide ((xs.length : Int) ≤ (gg : Int)))) := hd
  replace hk2 := kept_new.trans hkd hk2
  rcases Bool.eq_false_or_eq_true (decide ((xs.length : Int) ≤ (gg : Int))) with hg | hg
  rw [hg] at d4
  replace he : e = over (havoc _ x _) [(16, vs 4)] := he
  rw [d4] at he
  subst he
  refine zs <| ow_nil ?_
  exact ⟨kept_new.refl _, (show (decide ((xs.length : Int) ≤ (gg : Int))) = false → _ = (_ : Value) from fun hh => nomatch hg.symm.trans hh), by first | exact agree_put | exact agree_refl⟩
  rw [hg] at d4
  replace he : e = over (havoc _ x _) [(16, vs 4)] := he
  rw [d4] at he
  subst he
  refine zm <| ow_nil ?_
  exact ⟨kept_new.refl _, (show (decide ((xs.length : Int) ≤ (gg : Int))) = false → _ = ((.int .i64 (gg : Int)) : Value) from fun _ => rfl), by first | exact agree_put | exact agree_refl⟩
  refine certs_cons ?_ ?_
  intro x vs w2 e hk2 hd he
  obtain ⟨d4, d9, d10⟩ : (vs 4 = (.bool (decide ((xs.length : Int) ≤ (gg : Int))))) ∧ ((decide ((xs.length : Int) ≤ (gg : Int))) = false → vs 9 = (.slice (some ⟨b2, off2, none⟩) need.length c2)) ∧ ((decide ((xs.length : Int) ≤ (gg : Int))) = false → vs 10 = (.int .i64 (gg : Int))) := hd
  replace hk2 := kept_new.trans hkd hk2
  rcases Bool.eq_false_or_eq_true (decide ((xs.length : Int) ≤ (gg : Int))) with hg | hg
  rw [hg] at d4
  replace he : e = over (havoc _ x _) [(16, vs 4), (21, vs 9), (22, vs 10)] := he
  rw [d4] at he
  subst he
  refine zs <| ow_nil ?_
  exact ⟨kept_new.refl _, (show (decide ((xs.length : Int) ≤ (gg : Int))) = false → _ = (_ : Value) from fun hh => nomatch hg.symm.trans hh), by first | exact agree_put | exact agree_refl⟩
  rw [hg] at d4
  replace d9 := d9 hg
  replace d10 := d10 hg
  replace he : e = over (havoc _ x _) [(16, vs 4), (21, vs 9), (22, vs 10)] := he
  rw [d4, d9, d10] at he
  subst he
  refine zi tSl35 tI9 rfl rfl (by omega) <| ow_nil ?_
  exact ⟨kept_new.refl _, (show (decide ((xs.length : Int) ≤ (gg : Int))) = false → _ = ((.pointer (some ⟨b2, off2 + gg * 1, none⟩)) : Value) from fun _ => rfl), by first | exact agree_put | exact agree_refl⟩
  refine certs_cons ?_ ?_
  intro x vs w2 e hk2 hd he
  obtain ⟨d4, d11⟩ : (vs 4 = (.bool (decide ((xs.length : Int) ≤ (gg : Int))))) ∧ ((decide ((xs.length : Int) ≤ (gg : Int))) = false → vs 11 = (.pointer (some ⟨b2, off2 + gg * 1, none⟩))) := hd
  replace hk2 := kept_new.trans hkd hk2
  have hK := hK.ext hk2
  rcases Bool.eq_false_or_eq_true (decide ((xs.length : Int) ≤ (gg : Int))) with hg | hg
  rw [hg] at d4
  replace he : e = over (havoc _ x _) [(16, vs 4), (23, vs 11)] := he
  rw [d4] at he
  subst he
  refine zs <| ow_nil ?_
  exact ⟨kept_new.refl _, (show (decide ((xs.length : Int) ≤ (gg : Int))) = false → _ = (_ : Value) from fun hh => nomatch hg.symm.trans hh), by first | exact agree_put | exact agree_refl⟩
  rw [hg] at d4
  replace d11 := d11 hg
  replace he : e = over (havoc _ x _) [(16, vs 4), (23, vs 11)] := he
  rw [d4, d11] at he
  subst he
  refine zl tOne9 rfl (hc2.ext hK 0 _ rfl) <| ow_nil ?_
  exact ⟨kept_new.refl _, (show (decide ((xs.length : Int) ≤ (gg : Int))) = false → _ = ((str (sth need gg)) : Value) from fun _ => rfl), by first | exact agree_put | exact agree_refl⟩
  refine certs_cons ?_ ?_
  intro x vs w2 e hk2 hd he
  obtain ⟨d4, d8, d12⟩ : (vs 4 = (.bool (decide ((xs.length : Int) ≤ (gg : Int))))) ∧ ((decide ((xs.length : Int) ≤ (gg : Int))) = false → vs 8 = (str (sth xs gg))) ∧ ((decide ((xs.length : Int) ≤ (gg : Int))) = false → vs 12 = (str (sth need gg))) := hd
  replace hk2 := kept_new.trans hkd hk2
  rcases Bool.eq_false_or_eq_true (decide ((xs.length : Int) ≤ (gg : Int))) with hg | hg
  rw [hg] at d4
  replace he : e = over (havoc _ x _) [(16, vs 4), (20, vs 8), (24, vs 12)] := he
  rw [d4] at he
  subst he
  refine zs <| ow_nil ?_
  exact ⟨kept_new.refl _, (show (decide ((xs.length : Int) ≤ (gg : Int))) = false → _ = (_ : Value) from fun hh => nomatch hg.symm.trans hh), by first | exact agree_put | exact agree_refl⟩
  rw [hg] at d4
  replace d8 := d8 hg
  replace d12 := d12 hg
  replace he : e = over (havoc _ x _) [(16, vs 4), (20, vs 8), (24, vs 12)] := he
  rw [d4, d8, d12] at he
  subst he
  refine ow_sneq rfl rfl rfl rfl <| ow_nil ?_
  exact ⟨kept_new.refl _, (show (decide ((xs.length : Int) ≤ (gg : Int))) = false → _ = ((.bool (decide (sth xs gg ≠ sth need gg))) : Value) from fun _ => rfl), by first | exact agree_put | exact agree_refl⟩
  refine certs_cons ?_ ?_
  intro x vs w2 e hk2 hd he
  obtain ⟨d4, d13⟩ : (vs 4 = (.bool (decide ((xs.length : Int) ≤ (gg : Int))))) ∧ ((decide ((xs.length : Int) ≤ (gg : Int))) = false → vs 13 = (.bool (decide (sth xs gg ≠ sth need gg)))) := hd
  replace hk2 := kept_new.trans hkd hk2
  rcases Bool.eq_false_or_eq_true (decide ((xs.length : Int) ≤ (gg : Int))) with hg | hg
  rw [hg] at d4
  replace he : e = over (havoc _ x _) [(16, vs 4), (25, vs 13)] := he
  rw [d4] at he
  subst he
  refine zp rfl <| ow_nil ?_
  exact ⟨kept_new.refl _, by first | rfl | (rw [hg]; rfl), by first | exact agree_put | exact agree_refl⟩
  rw [hg] at d4
  replace d13 := d13 hg
  replace he : e = over (havoc _ x _) [(16, vs 4), (25, vs 13)] := he
  rw [d4, d13] at he
  subst he
  refine zp rfl <| ow_nil ?_
  exact ⟨kept_new.refl _, by first | rfl | (rw [hg]; rfl), by first | exact agree_put | exact agree_refl⟩
  exact trivial
  intro x vs w41 hk41 hdraw
  have d0 : vs 0 = (.int .i64 (gg : Int)) := hdraw 0 (by decide)
  have d1 : vs 1 = (.slice a1 xs.length c1) := hdraw 1 (by decide)
  have d2 : vs 2 = (.int .i64 (xs.length : Int)) := hdraw 2 (by decide)
  have d3 : vs 3 = (.bool (decide ((xs.length : Int) ≤ (gg : Int)))) := hdraw 3 (by decide)
  have d4 : vs 4 = (.bool (decide ((xs.length : Int) ≤ (gg : Int)))) := hdraw 4 (by decide)
  have d5 : (decide ((xs.length : Int) ≤ (gg : Int))) = false → vs 5 = (.slice (some ⟨b1, off1, none⟩) xs.length c1) := hdraw 5 (by decide)
  have d6 : (decide ((xs.length : Int) ≤ (gg : Int))) = false → vs 6 = (.int .i64 (gg : Int)) := hdraw 6 (by decide)
  have d7 : (decide ((xs.length : Int) ≤ (gg : Int))) = false → vs 7 = (.pointer (some ⟨b1, off1 + gg * 1, none⟩)) := hdraw 7 (by decide)
  have d8 : (decide ((xs.length : Int) ≤ (gg : Int))) = false → vs 8 = (str (sth xs gg)) := hdraw 8 (by decide)
  have d9 : (decide ((xs.length : Int) ≤ (gg : Int))) = false → vs 9 = (.slice (some ⟨b2, off2, none⟩) need.length c2) := hdraw 9 (by decide)
  have d10 : (decide ((xs.length : Int) ≤ (gg : Int))) = false → vs 10 = (.int .i64 (gg : Int)) := hdraw 10 (by decide)
  have d11 : (decide ((xs.length : Int) ≤ (gg : Int))) = false → vs 11 = (.pointer (some ⟨b2, off2 + gg * 1, none⟩)) := hdraw 11 (by decide)
  have d12 : (decide ((xs.length : Int) ≤ (gg : Int))) = false → vs 12 = (str (sth need gg)) := hdraw 12 (by decide)
  have d13 : (decide ((xs.length : Int) ≤ (gg : Int))) = false → vs 13 = (.bool (decide (sth xs gg ≠ sth need gg))) := hdraw 13 (by decide)
  have d14 : vs 14 = (.bool (decide ((xs.length : Int) ≤ (gg : Int)) || decide (sth xs gg ≠ sth need gg))) := hdraw 14 (by decide)
  have hK := hK.ext hk41
  change OW _ _ _ _ [] (over (havoc _ x _) [(12, vs 0), (13, vs 1), (14, vs 2), (15, vs 3), (16, vs 4), (17, vs 5), (18, vs 6), (19, vs 7), (20, vs 8), (21, vs 9), (22, vs 10), (23, vs 11), (24, vs 12), (25, vs 13), (26, vs 14)]) _
  rw [d0, d1, d2, d3, d4, d14]
  refine ow_nil <| zc rfl (fun h2 => ?_) (fun h2 => ?_)
  have hq : meetsS xs need = false := decide_eq_false (fun hh => by obtain ⟨q1, q2⟩ := hh gg (by omega); simp only [Bool.or_eq_true, decide_eq_true_eq] at h2; rcases h2 with h | h; (· omega); (· exact h q2))
  refine zr <| zA <| ow_nil <| cw_ret ?_
  exact ⟨_, rfl, by rw [hq]; rfl, hK⟩
  have hyes : gg < xs.length ∧ sth xs gg = sth need gg := (by simp only [Bool.or_eq_false_iff, decide_eq_false_iff_not] at h2; exact ⟨by omega, Classical.not_not.1 h2.2⟩)
  refine cw_skip <| cw_region <| zm <| ow_add rfl rfl rfl rfl rfl (wrap_i64 _ (by omega) (by omega)) <| zA <| ow_nil ?_
  exact ⟨gg + 1, ⟨rfl, rfl, rfl⟩, ⟨hK, by omega, by intro i hi; rcases Nat.lt_or_ge i gg with h | h; exact hall i h; rw [show i = gg by omega]; exact hyes⟩, by omega⟩
  have hq : meetsS xs need = true := decide_eq_true (fun i hi => hall i (by omega))
  refine cw_exit <| x_hit rfl <| zr <| zA <| ow_nil <| cw_ret ?_
  exact ⟨_, rfl, by rw [hq]; rfl, hK⟩

theorem dig_byte1 {n : Nat} (h : n < 10) : (48 : Int) + (n : Int) = ((UInt8.ofNat (48 + n)).toNat : Int) := by
  have := dig_byte n
  rwa [Nat.mod_eq_of_lt h] at this
theorem decB_len4 (n : Nat) (h : n ≤ 1000) : (decB n).length ≤ 4 := by
  have h1 : ∀ k, k < 10 → (decB k).length = 1 := fun k hk => by unfold decB; rw [if_pos hk]; rfl
  have h2 : ∀ k, k < 100 → (decB k).length ≤ 2 := fun k hk => by
    unfold decB
    split
    · simp
    · have := h1 (k / 10) (by omega)
      simp; omega
  have h3 : ∀ k, k < 1000 → (decB k).length ≤ 3 := fun k hk => by
    unfold decB
    split
    · simp
    · have := h2 (k / 10) (by omega)
      simp; omega
  unfold decB
  split
  · simp
  · have := h3 (n / 10) (by omega)
    simp; omega
def OneByte (z : Int) (v : Value) (w : World) : Prop := ∃ b, v = .slice (some ⟨b, 0, none⟩) 1 1 ∧ Blk w b [.int .u8 z].toArray 5
theorem OneByte.ext {z : Int} {v : Value} {w w' : World} (h : OneByte z v w) (k : Keep [] w w') : OneByte z v w' := by
  obtain ⟨b, e, h⟩ := h
  exact ⟨b, e, h.ext k⟩
theorem l6Dec_ret : ∀ (m n : Nat), n < m → n ≤ 1000 → ∀ w : World, Ret Tryz.prog 184 [.int .i64 (n : Int)] w fun r w' => r = str (decB n) ∧ Keep [] w w' := by
  intro m
  induction m with
  | zero => intro n hn; omega
  | succ m ih =>
    intro n hn h9 w
    have hK := Keep.refl [] w
    have hl := decB_len4 (n / 10) (by omega)
    refine ret_of [.tmp 2] 28 Tryz.func184 rfl nm184 rfl rfl ?_
    refine zr <| zA <| ow_nil <| cw_seq <| zr <| zm <| ow_lss rfl rfl rfl rfl rfl <| ow_nil <| zc rfl (fun h1 => ?_) (fun h1 => ?_)
    omega
    skip
    refine cw_skip <| cw_seq <| zr <| zm <| ow_lss rfl rfl rfl rfl rfl <| ow_nil <| zc rfl (fun h2 => ?_) (fun h2 => ?_)
    omega
    skip
    refine cw_skip <| cw_seq <| zr <| zm <| ow_lss rfl rfl rfl rfl rfl <| ow_nil <| zc rfl (fun h3 => ?_) (fun h3 => ?_)
    refine zr <| zm <| ow_add rfl rfl rfl rfl rfl (wrap_i64 _ (by omega) (by omega)) <| ow_conv_int tInt3 tInt5 rfl rfl rfl (wrap_u8 _ (by omega) (by omega)) <| ow_buildSlice1 tSl114 tI5 rfl rfl rfl rfl rfl rfl rfl rfl ?_
    intro w1 hk1 hb16 hz1
    have hK := hK.ext hk1
    refine ow_bytesStr1 tSl114 tInt5 tStr9 rfl rfl rfl hb16 (dig_byte1 (by omega)) <| zA <| ow_nil <| cw_ret ?_
    exact ⟨_, rfl, congrArg str (show [UInt8.ofNat (48 + n)] = decB n from by rw [decB, if_pos (by omega)]), hK⟩
    have h10 : ¬ n < 10 := by omega
    refine cw_skip <| cw_seq ?_
    refine cw_draw tMixed kept_new 10 [18, 19, 20, 21, 22, 23, 24, 25, 26, 27] [18, 19, 20, 21, 22, 23, 24, 25, 26, 27] [[], [0], [1], [], [3], [4], [5], [6], [7], [2, 8]] [fun v _ => v = (.int .i64 (n : Int)), fun v _ => v = (.int .i64 ((n / 10 : Nat) : Int)), fun v _ => v = (str (decB (n / 10))), fun v _ => v = (.int .i64 (n : Int)), fun v _ => v = (.int .i64 ((n % 10 : Nat) : Int)), fun v _ => v = (.int .i64 ((48 : Int) + ((n % 10 : Nat) : Int))), fun v _ => v = (.int .u8 ((48 : Int) + ((n % 10 : Nat) : Int))), fun (v : Value) (ww : World) => OneByte ((48 : Int) + ((n % 10 : Nat) : Int)) v ww, fun v _ => v = (str [UInt8.ofNat (48 + n % 10)]), fun v _ => v = (str (decB (n / 10) ++ [UInt8.ofNat (48 + n % 10)]))] (by decide) (stab_eq (stab_eq (stab_eq (stab_eq (stab_eq (stab_eq (stab_eq (stab_gen (fun v w w' h k => OneByte.ext h k) (stab_eq (stab_eq trivial)))))))))) (fun wd hkd => ?_) ?_
    refine certs_cons ?_ ?_
    intro x vs w1 e hk1 hd he
    replace hk1 := kept_new.trans hkd hk1
    replace he : e = over (havoc _ x _) [] := he
    subst he
    refine zm <| ow_nil ?_
    exact ⟨kept_new.refl _, rfl, by first | exact agree_put | exact agree_refl⟩
    refine certs_cons ?_ ?_
    intro x vs w1 e hk1 hd he
    have d0 : vs 0 = (.int .i64 (n : Int)) := hd
    replace hk1 := kept_new.trans hkd hk1
    replace he : e = over (havoc _ x _) [(18, vs 0)] := he
    rw [d0] at he
    subst he
    refine ow_quo (b := 10) rfl rfl rfl rfl rfl (by omega) (wrap_i64 _ (by omega) (by omega)) <| ow_nil ?_
    exact ⟨kept_new.refl _, rfl, by first | exact agree_put | exact agree_refl⟩
    refine certs_cons ?_ ?_
    intro x vs w1 e hk1 hd he
    have d1 : vs 1 = (.int .i64 ((n / 10 : Nat) : Int)) := hd
    replace hk1 := kept_new.trans hkd hk1
    replace he : e = over (havoc _ x _) [(19, vs 1)] := he
    rw [d1] at he
    subst he
    refine ow_call rfl rfl (ih (n / 10) (by omega) (by omega) w1) ?_
    rintro v2 w2 ⟨hv2, hk2⟩
    have hs2 := hk2.size
    obtain rfl := hv2
    refine ow_nil ?_
    exact ⟨kept_new.of hk2, rfl, by first | exact agree_put | exact agree_refl⟩
    refine certs_cons ?_ ?_
    intro x vs w1 e hk1 hd he
    replace hk1 := kept_new.trans hkd hk1
    replace he : e = over (havoc _ x _) [] := he
    subst he
    refine zm <| ow_nil ?_
    exact ⟨kept_new.refl _, rfl, by first | exact agree_put | exact agree_refl⟩
    refine certs_cons ?_ ?_
    intro x vs w1 e hk1 hd he
    have d3 : vs 3 = (.int .i64 (n : Int)) := hd
    replace hk1 := kept_new.trans hkd hk1
    replace he : e = over (havoc _ x _) [(21, vs 3)] := he
    rw [d3] at he
    subst he
    refine ow_rem (b := 10) rfl rfl rfl rfl rfl (by omega) <| ow_nil ?_
    exact ⟨kept_new.refl _, rfl, by first | exact agree_put | exact agree_refl⟩
    refine certs_cons ?_ ?_
    intro x vs w1 e hk1 hd he
    have d4 : vs 4 = (.int .i64 ((n % 10 : Nat) : Int)) := hd
    replace hk1 := kept_new.trans hkd hk1
    replace he : e = over (havoc _ x _) [(22, vs 4)] := he
    rw [d4] at he
    subst he
    refine ow_add rfl rfl rfl rfl rfl (wrap_i64 _ (by omega) (by omega)) <| ow_nil ?_
    exact ⟨kept_new.refl _, rfl, by first | exact agree_put | exact agree_refl⟩
    refine certs_cons ?_ ?_
    intro x vs w1 e hk1 hd he
    have d5 : vs 5 = (.int .i64 ((48 : Int) + ((n % 10 : Nat) : Int))) := hd
    replace hk1 := kept_new.trans hkd hk1
    replace he : e = over (havoc _ x _) [(23, vs 5)] := he
    rw [d5] at he
    subst he
    refine ow_conv_int tInt3 tInt5 rfl rfl rfl (wrap_u8 _ (by omega) (by omega)) <| ow_nil ?_
    exact ⟨kept_new.refl _, rfl, by first | exact agree_put | exact agree_refl⟩
    refine certs_cons ?_ ?_
    intro x vs w1 e hk1 hd he
    have d6 : vs 6 = (.int .u8 ((48 : Int) + ((n % 10 : Nat) : Int))) := hd
    replace hk1 := kept_new.trans hkd hk1
    replace he : e = over (havoc _ x _) [(24, vs 6)] := he
    rw [d6] at he
    subst he
    refine ow_buildSlice1 tSl114 tI5 rfl rfl rfl rfl rfl rfl rfl rfl ?_
    intro w2 hk2 hb25 hz2
    refine ow_nil ?_
    exact ⟨kept_new.of hk2, ⟨_, rfl, hb25⟩, by first | exact agree_put | exact agree_refl⟩
    refine certs_cons ?_ ?_
    intro x vs w1 e hk1 hd he
    have d7 : (fun (v : Value) (ww : World) => OneByte ((48 : Int) + ((n % 10 : Nat) : Int)) v ww) (vs 7) w1 := hd
    replace hk1 := kept_new.trans hkd hk1
    replace he : e = over (havoc _ x _) [(25, vs 7)] := he
    obtain ⟨b7, e7, hb25⟩ := d7
    rw [e7] at he
    subst he
    refine ow_bytesStr1 tSl114 tInt5 tStr9 rfl rfl rfl hb25 (dig_byte n) <| ow_nil ?_
    exact ⟨kept_new.refl _, rfl, by first | exact agree_put | exact agree_refl⟩
    refine certs_cons ?_ ?_
    intro x vs w1 e hk1 hd he
    obtain ⟨d2, d8⟩ : (vs 2 = (str (decB (n / 10)))) ∧ (vs 8 = (str [UInt8.ofNat (48 + n % 10)])) := hd
    replace hk1 := kept_new.trans hkd hk1
    replace he : e = over (havoc _ x _) [(20, vs 2), (26, vs 8)] := he
    rw [d2, d8] at he
    subst he
    refine ow_sadd rfl rfl rfl rfl (by simp; omega) <| ow_nil ?_
    exact ⟨kept_new.refl _, rfl, by first | exact agree_put | exact agree_refl⟩
    exact trivial
    intro x vs w40 hk40 hdraw
    have d0 : vs 0 = (.int .i64 (n : Int)) := hdraw 0 (by decide)
    have d1 : vs 1 = (.int .i64 ((n / 10 : Nat) : Int)) := hdraw 1 (by decide)
    have d2 : vs 2 = (str (decB (n / 10))) := hdraw 2 (by decide)
    have d3 : vs 3 = (.int .i64 (n : Int)) := hdraw 3 (by decide)
    have d4 : vs 4 = (.int .i64 ((n % 10 : Nat) : Int)) := hdraw 4 (by decide)
    have d5 : vs 5 = (.int .i64 ((48 : Int) + ((n % 10 : Nat) : Int))) := hdraw 5 (by decide)
    have d6 : vs 6 = (.int .u8 ((48 : Int) + ((n % 10 : Nat) : Int))) := hdraw 6 (by decide)
    have d7 : (fun (v : Value) (ww : World) => OneByte ((48 : Int) + ((n % 10 : Nat) : Int)) v ww) (vs 7) w40 := hdraw 7 (by decide)
    have d8 : vs 8 = (str [UInt8.ofNat (48 + n % 10)]) := hdraw 8 (by decide)
    have d9 : vs 9 = (str (decB (n / 10) ++ [UInt8.ofNat (48 + n % 10)])) := hdraw 9 (by decide)
    have hK := hK.ext hk40
    change OW _ _ _ _ _ (over (havoc _ x _) [(18, vs 0), (19, vs 1), (20, vs 2), (21, vs 3), (22, vs 4), (23, vs 5), (24, vs 6), (25, vs 7), (26, vs 8), (27, vs 9)]) _
    rw [d0, d1, d2, d3, d4, d5, d6, d8, d9]
    refine zA <| ow_nil <| cw_ret ?_
    exact ⟨_, rfl, congrArg str (show decB (n / 10) ++ [UInt8.ofNat (48 + n % 10)] = decB n from by conv => (rhs; rw [decB, if_neg h10])), hK⟩

theorem l1Atom_ret (s : Bytes) (w : World) : Ret Tryz.prog 183 [str s] w fun r w' => r = .agg #[str s, .slice none 0 0] ∧ Keep [] w w' := by
  have hK := Keep.refl [] w
  refine ret_gen [.cell 2 67] 5 Tryz.func183 rfl nm183 rfl rfl rfl ?_
  refine zr <| ow_allocA tI67 rfl rfl rfl ?_
  intro w1 hk1 hb2 hz1
  have hK := hK.grow; have hK := hK.ext hk1
  refine ow_nil <| zr <| zm <| ow_build (tB67_0 _ _) rfl rfl <| ow_storeA tI67 rfl rfl rfl rfl rfl hb2 rfl ?_
  intro w2 hk2 hb2 hz2
  have hK := hK.sto hk2 (by simp <;> omega)
  refine ow_nil <| cw_ret ?_
  exact ⟨[_], resultAt_blk tAgg67 tI67 rfl hb2 rfl, rfl, hK⟩
end Go.Proofs.YtnkjgoholocliaaGreatDoor

namespace Go.Proofs.YtnkjgoholocliaaGreatDoor
open Go

theorem ptT_eq (y t : Tree) : putT y t = if t.atom = [118] then y else if t.atom ≠ [] ∨ headA t.parts = [101] then t else .mk [] (t.parts.map (putT y)) := by
  cases t with
  | mk a ps => rw [putT, putL_map]; rfl
theorem holes_eq (t : Tree) : holes t = if t.atom = [118] then 1 else if t.atom ≠ [] ∨ headA t.parts = [101] then 0 else holesL t.parts := by
  cases t with
  | mk a ps => rw [holes]; rfl
theorem headOf_no2 {t : Tree} (ha : t.atom = []) : headOf t = headA t.parts := by
  cases t with
  | mk a ps => cases ha; exact headOf_mk ps
theorem headA_nth {ps : List Tree} (h : 0 < ps.length) : headA ps = (nth ps 0).atom := by
  cases ps with
  | nil => simp at h
  | cons p ps => rfl
theorem holesL_app : ∀ (xs ys : List Tree), holesL (xs ++ ys) = holesL xs + holesL ys
  | [], ys => by simp [holesL]
  | x :: xs, ys => by simp [holesL, holesL_app xs ys]; omega
theorem holesL_snoc {ps : List Tree} {i : Nat} {p : Tree} (h : ps[i]? = some p) : holesL (ps.take (i + 1)) = holesL (ps.take i) + holes p := by
  rw [List.take_add_one, h, holesL_app]
  simp [holesL]
mutual
theorem holes_le : ∀ t : Tree, holes t ≤ t.size
  | .mk a ps => by
    have := holesL_le ps
    unfold holes
    simp only [Tree.size]
    split
    · omega
    · split <;> omega
theorem holesL_le : ∀ ps : List Tree, holesL ps ≤ Tree.size.sizes ps
  | [] => by simp [holesL]
  | t :: ts => by
    have h1 := holes_le t
    have h2 := holesL_le ts
    simp only [holesL, Tree.size.sizes]; omega
end
theorem holesL_take {ps : List Tree} (i : Nat) : holesL (ps.take i) ≤ holesL ps := by
  conv => rhs; rw [← List.take_append_drop i ps, holesL_app]
  omega
theorem holesL_size (t : Tree) : holesL t.parts ≤ t.size := by
  cases t with
  | mk a ps => have := holesL_le ps; simp only [Tree.size, Tree.parts]; omega

theorem l6tHoles_ret : ∀ (m : Nat) (t : Tree), t.size ≤ m → t.size ≤ 10000000 → WF t → ∀ (v : Value) (L : List Nat) (w : World), RTree L w v t →
    Ret Tryz.prog 197 [v] w fun r w' => r = .int .i64 (holes t : Int) ∧ Keep [] w w' := by
  intro m
  induction m with
  | zero => intro t h; have := atom_lt t; omega
  | succ m ih =>
    intro t hm hts hwf v L w hv
    have hv0 := hv
    obtain ⟨a, n, c, rfl, hn, hps⟩ := rtree_cases hv
    subst hn
    have hpl := parts_le t
    have hhs := holesL_size t
    have hK := Keep.refl [] w
    refine ret_of [.tmp 2] 32 Tryz.func197 rfl nm197 rfl rfl ?_
    refine zr <| ow_boxA rfl rfl rfl ?_
    intro w1 hk1 hb1 hz1
    have hK := hK.ext hk1; have hv0 := hv0.ext hk1
    refine zA <| ow_nil <| cw_seq <| zr <| zf tF67_0 rfl <| zl tOne9 rfl (hb1.at rfl) <| ow_seql rfl rfl rfl rfl <| ow_nil <| zc rfl (fun h1 => ?_) (fun h1 => ?_)
    have hq : holes t = 1 := by rw [holes_eq, if_pos h1]
    refine zr <| zA <| ow_nil <| cw_ret ?_
    exact ⟨_, rfl, by rw [hq]; rfl, hK⟩
    have hno := h1
    refine cw_skip <| cw_seq <| zr <| zf tF67_0 rfl <| zl tOne9 rfl (hb1.at rfl) <| ow_sneq rfl rfl rfl rfl <| zm ?_
    apply ow_or 4 11 15 [11, 12, 13, 14, 15] (Keep [] w1) rfl
    intro h2
    replace h2 := tst h2
    have hJ11 := Keep.refl [] w1
    refine zs <| zs <| zs <| zp rfl <| ow_nil ?_
    exact ⟨by repeat (first | with_reducible exact agree_refl | refine agree_upd rfl ?_ | refine agree_hav rfl ?_), rfl, hJ11⟩
    intro h2
    replace h2 := tst h2
    have hJ11 := Keep.refl [] w1
    refine zL tAgg67 tI67 rfl hb1.all rfl <| ow_call rfl rfl (l4Head_ret t _ _ w1 hv0) ?_
    rintro v2 w2 ⟨hv2, hk2⟩
    have hs2 := hk2.size
    have hJ11 := hJ11.ext hk2
    obtain rfl := hv2
    refine ow_seql rfl rfl rfl rfl <| zp rfl <| ow_nil ?_
    exact ⟨by repeat (first | with_reducible exact agree_refl | refine agree_upd rfl ?_ | refine agree_hav rfl ?_), rfl, hJ11⟩
    intro xx w3 hk3
    have hK := hK.ext hk3; have hb1 := hb1.ext hk3
    refine ow_nil <| zc rfl (fun h3 => ?_) (fun h3 => ?_)
    have hq : holes t = 0 := (by simp only [Bool.or_eq_true, decide_eq_true_eq] at h3; rw [holes_eq, if_neg hno]; by_cases ha : t.atom = []; (· rw [headOf_no2 ha] at h3; rw [if_pos h3]); (· rw [if_pos (.inl ha)]))
    refine zr <| zA <| ow_nil <| cw_ret ?_
    exact ⟨_, rfl, by rw [hq]; rfl, hK⟩
    have hq : holes t = holesL t.parts := (by simp only [Bool.or_eq_false_iff, decide_eq_false_iff_not] at h3; obtain ⟨q1, q2⟩ := h3; rw [headOf_no2 (Classical.not_not.1 q1)] at q2; rw [holes_eq, if_neg hno, if_neg (by rintro (h | h); (· exact q1 h); (· exact q2 h))])
    refine cw_skip <| zr <| zA <| ow_nil <| cw_seq <| zr <| zA <| ow_nil <| cw_block ?_
    refine cw_loop (fun k : Nat => [(1, .pointer (some ⟨w.heap.size, 0, none⟩)), (3, .int .i64 ((holesL (t.parts.take k) : Nat) : Int)), (4, .int .i64 (k : Int))]) (fun k w' => Keep [] w w' ∧ Blk w' w.heap.size [str t.atom, .slice a t.parts.length c].toArray 67 ∧ k ≤ t.parts.length) (fun k => t.parts.length - k) (0) (⟨rfl, rfl, rfl⟩) (⟨hK, hb1, by omega⟩) ?_
    intro gg w4 e4 hI
    obtain ⟨hK, hb1, hk⟩ := hI
    refine cw_seq <| zr <| zm <| zf tF67_1 rfl <| zl tOne65 rfl (hb1.at rfl) <| ow_len tSl65 rfl rfl rfl <| ow_lss rfl rfl rfl rfl rfl <| ow_nil <| zc rfl (fun h4 => ?_) (fun h4 => ?_)
    have hgt := nth_get (ps := t.parts) (i := gg) (by omega)
    obtain ⟨b1, off1, pa, pn, pc, rfl, hcc, hpn, hpp⟩ := rtrees_get hps hgt
    subst hpn
    have hwp := hwf.nth (i := gg) (by omega)
    have hsp := nth_size (t := t) (i := gg) (by omega)
    have hst := holesL_snoc hgt
    have hle := holesL_take (ps := t.parts) (gg + 1)
    refine cw_skip <| cw_seq <| cw_block <| cw_region <| zm <| zf tF67_1 rfl <| zl tOne65 rfl (hb1.at rfl) <| zm <| zi tSl65 tI67 rfl rfl (by omega) <| zL tAgg67 tI67 rfl (hcc.ext hK) (rfl) <| ow_call rfl rfl (ih (nth t.parts gg) (by omega) (by omega) hwp _ L w4 ((rtree_of hpp).ext hK)) ?_
    rintro v5 w5 ⟨hv5, hk5⟩
    have hs5 := hk5.size
    have hK := hK.ext hk5; have hb1 := hb1.ext hk5
    obtain rfl := hv5
    refine ow_add rfl rfl rfl rfl rfl (wrap_i64 _ (by omega) (by omega)) <| zA <| ow_nil <| cw_region <| zm <| ow_add rfl rfl rfl rfl rfl (wrap_i64 _ (by omega) (by omega)) <| zA <| ow_nil ?_
    exact ⟨gg + 1, ⟨rfl, congrArg (Value.int .i64) (by omega), rfl⟩, ⟨hK, hb1, by omega⟩, by omega⟩
    have hgl : gg = t.parts.length := by omega
    subst hgl
    refine cw_exit <| x_hit rfl <| zr <| zm <| zA <| ow_nil <| cw_ret ?_
    exact ⟨_, rfl, by rw [hq, List.take_length]; rfl, hK⟩

theorem l6tPut_ret (y : Tree) : ∀ (m : Nat) (t : Tree), t.size ≤ m → t.size ≤ 10000000 → WF t → ∀ (v vy : Value) (L : List Nat) (w : World), RTree L w v t → RTree L w vy y → (∀ x, x ∈ L → x < w.heap.size) →
    Ret Tryz.prog 198 [v, vy] w fun r w' => RTree L w' r (putT y t) ∧ Keep [] w w' := by
  intro m
  induction m with
  | zero => intro t h; have := atom_lt t; omega
  | succ m ih =>
    intro t hm hts hwf v vy L w hv hy hL
    have hv0 := hv
    have hy0 := hy
    have hyk := hy
    obtain ⟨a, n, c, rfl, hn, hps⟩ := rtree_cases hv
    obtain ⟨ya, yn, yc, rfl, hyn, hyp⟩ := rtree_cases hy
    subst hn
    have hpl := parts_le t
    have hK := Keep.refl [] w
    refine ret_gen [.cell 4 67] 44 Tryz.func198 rfl nm198 rfl rfl rfl ?_
    refine zr <| ow_boxA rfl rfl rfl ?_
    intro w1 hk1 hb2 hz1
    have hK := hK.ext hk1; have hv0 := hv0.ext hk1; have hy0 := hy0.ext hk1
    refine ow_boxA rfl rfl rfl ?_
    intro w2 hk2 hb3 hz2
    have hK := hK.ext hk2; have hv0 := hv0.ext hk2; have hy0 := hy0.ext hk2; have hb2 := hb2.ext hk2
    refine ow_allocA tI67 rfl rfl rfl ?_
    intro w3 hk3 hb4 hz3
    have hK := hK.grow; have hK := hK.ext hk3; have hv0 := hv0.grow; have hv0 := hv0.ext hk3; have hy0 := hy0.grow; have hy0 := hy0.ext hk3; have hb2 := hb2.grow; have hb2 := hb2.ext hk3; have hb3 := hb3.grow; have hb3 := hb3.ext hk3
    refine ow_nil <| cw_seq <| zr <| zf tF67_0 rfl <| zl tOne9 rfl (hb2.at rfl) <| ow_seql rfl rfl rfl rfl <| ow_nil <| zc rfl (fun h1 => ?_) (fun h1 => ?_)
    have hq : putT y t = y := by rw [ptT_eq, if_pos h1]
    refine zr <| zL tAgg67 tI67 rfl hb3.all rfl <| ow_storeA tI67 rfl rfl rfl rfl rfl hb4 rfl ?_
    intro w4 hk4 hb4 hz4
    have hK := hK.sto hk4 (by simp <;> omega); have hy0 := hy0.sto hk4 (by simp <;> omega)
    refine ow_nil <| cw_ret ?_
    exact ⟨[_], resultAt_blk tAgg67 tI67 rfl hb4 rfl, by rw [hq]; exact RTree.weak hy0 (fun x hx => by simp [hx]), hK⟩
    have hno := h1
    refine cw_skip <| cw_seq <| zr <| zf tF67_0 rfl <| zl tOne9 rfl (hb2.at rfl) <| ow_sneq rfl rfl rfl rfl <| zm ?_
    apply ow_or 7 14 21 [14, 15, 16, 17, 18, 19, 20, 21] (fun w' => w3 = w') rfl
    intro h2
    replace h2 := tst h2
    refine zs <| zs <| zs <| zs <| zs <| zs <| zp rfl <| ow_nil ?_
    exact ⟨by repeat (first | with_reducible exact agree_refl | refine agree_upd rfl ?_ | refine agree_hav rfl ?_), rfl, rfl⟩
    intro h2
    replace h2 := tst h2
    have ha0 : t.atom = [] := Classical.not_not.1 h2
    have hp0 := hwf.pos ha0
    obtain ⟨b0, off0, qa, qn, qc, rfl, hc0, _, _⟩ := rtrees_get hps (nth_get hp0)
    refine zf tF67_1 rfl <| zl tOne65 rfl (hb2.at rfl) <| zi (i := 0) tSl65 tI67 rfl rfl (by omega) <| zf tF67_0 rfl <| zl tOne9 rfl (hc0.ext hK 0 _ rfl) <| ow_seql rfl rfl rfl rfl <| zp rfl <| ow_nil ?_
    exact ⟨by repeat (first | with_reducible exact agree_refl | refine agree_upd rfl ?_ | refine agree_hav rfl ?_), rfl, rfl⟩
    rintro xx _ rfl
    refine ow_nil <| zc rfl (fun h3 => ?_) (fun h3 => ?_)
    have hq : putT y t = t := (by simp only [Bool.or_eq_true, decide_eq_true_eq] at h3; rw [ptT_eq, if_neg hno]; by_cases ha : t.atom = []; (· rw [← headA_nth (hwf.pos ha)] at h3; rw [if_pos h3]); (· rw [if_pos (.inl ha)]))
    refine zr <| zL tAgg67 tI67 rfl hb2.all rfl <| ow_storeA tI67 rfl rfl rfl rfl rfl hb4 rfl ?_
    intro w4 hk4 hb4 hz4
    have hK := hK.sto hk4 (by simp <;> omega); have hv0 := hv0.sto hk4 (by simp <;> omega)
    refine ow_nil <| cw_ret ?_
    exact ⟨[_], resultAt_blk tAgg67 tI67 rfl hb4 rfl, by rw [hq]; exact RTree.weak hv0 (fun x hx => by simp [hx]), hK⟩
    have hq : putT y t = .mk [] (t.parts.map (putT y)) := (by simp only [Bool.or_eq_false_iff, decide_eq_false_iff_not] at h3; obtain ⟨q1, q2⟩ := h3; rw [← headA_nth (hwf.pos (Classical.not_not.1 q1))] at q2; rw [ptT_eq, if_neg hno, if_neg (by rintro (h | h); (· exact q1 h); (· exact q2 h))])
    have hq7 := hK.size
    have hl3 := hb3.lt
    have hl4 := hb4.lt
    refine cw_skip <| zr <| ow_build (tB67_ _) rfl rfl <| ow_allocA tI67 rfl rfl rfl ?_
    intro w4 hk4 hb5 hz4
    have hK := hK.grow; have hK := hK.ext hk4; have hb2 := hb2.grow; have hb2 := hb2.ext hk4; have hb3 := hb3.grow; have hb3 := hb3.ext hk4; have hb4 := hb4.grow; have hb4 := hb4.ext hk4
    refine ow_storeA tI67 rfl rfl rfl rfl rfl hb5 rfl ?_
    intro w5 hk5 hb5 hz5
    have hK := hK.sto hk5 (by simp <;> omega); have hb2 := hb2.sto hk5 (by simp <;> omega); have hb3 := hb3.sto hk5 (by simp <;> omega); have hb4 := hb4.sto hk5 (by simp <;> omega)
    refine ow_nil <| cw_seq <| zr <| zA <| ow_nil <| cw_block ?_
    refine cw_loop (fun q : Nat × Option Addr × Nat × Option Nat => [(2, .pointer (some ⟨w.heap.size, 0, none⟩)), (3, .pointer (some ⟨w1.heap.size, 0, none⟩)), (4, .pointer (some ⟨w2.heap.size, 0, none⟩)), (5, .pointer (some ⟨w3.heap.size, 0, none⟩)), (6, .int .i64 (q.1 : Int))]) (fun q w' => Keep [] w w' ∧ Blk w' w.heap.size [str t.atom, .slice a t.parts.length c].toArray 67 ∧ Blk w' w1.heap.size [str y.atom, .slice ya yn yc].toArray 67 ∧ Blk w' w2.heap.size [str [], .slice none 0 0].toArray 67 ∧ Blk w' w3.heap.size [str [], .slice q.2.1 ((t.parts.take q.1).map (putT y)).length q.2.2.1].toArray 67 ∧ Gr w3.heap.size (w3.heap.size :: w2.heap.size :: L) w' 67 2 (.slice q.2.1 ((t.parts.take q.1).map (putT y)).length q.2.2.1) q.2.2.2 (encs ((t.parts.take q.1).map (putT y))) ∧ q.1 ≤ t.parts.length) (fun q => t.parts.length - q.1) ((0, none, 0, none)) (⟨rfl, rfl, rfl, rfl, rfl⟩) (⟨hK, hb2, hb3, hb4, hb5, Gr.nil (by intro x hx; have := hK.size; simp at hx; rcases hx with rfl | rfl | hx; omega; omega; have := hL x hx; omega) (by omega), by simp⟩) ?_
    intro gg w6 e6 hI
    obtain ⟨i, a3, cc, g⟩ := gg
    dsimp only at hI ⊢
    obtain ⟨hK, hb2, hb3, hb4, hb5, hO, hk⟩ := hI
    have hsz := hK.size
    have hbl2 := hb2.lt
    have hbl3 := hb3.lt
    have hbl4 := hb4.lt
    have hbl5 := hb5.lt
    refine cw_seq <| zr <| zm <| zf tF67_1 rfl <| zl tOne65 rfl (hb2.at rfl) <| ow_len tSl65 rfl rfl rfl <| ow_lss rfl rfl rfl rfl rfl <| ow_nil <| zc rfl (fun h4 => ?_) (fun h4 => ?_)
    have hgt := nth_get (ps := t.parts) (i := i) (by omega)
    have hmw : ∀ x, x ∈ g.toList ++ (w3.heap.size :: w2.heap.size :: L) → x ∈ L ∨ w.heap.size ≤ x := by { intro x hx; rcases List.mem_append.1 hx with hx | hx; (· right; have := hO.low x (by simpa using hx); omega); (· simp at hx; rcases hx with rfl | rfl | hx; (· right; omega); (· right; omega); (· exact .inl hx)) }
    have hpsL : RTrees (g.toList ++ (w3.heap.size :: w2.heap.size :: L)) w6 _ t.parts := RTrees.ext (Rep.fresh hps hmw) hK
    have hY : RTree (g.toList ++ (w3.heap.size :: w2.heap.size :: L)) w6 _ y := RTree.ext (RepA.fresh hyk hmw) hK
    obtain ⟨b1, off1, pa, pn, pc, rfl, hcc, hpn, hpp⟩ := rtrees_get hpsL hgt
    subst hpn
    have hT := rtree_of hpp
    have hsp := nth_size (t := t) (i := i) (by omega)
    refine cw_skip <| cw_seq <| cw_block ?_
    refine cw_draw tMixed kept_new 10 [31, 32, 33, 34, 35, 36, 37, 38, 39, 40] [31, 32, 33, 34, 35, 36, 37, 38, 39, 40] [[], [0], [], [2], [], [3, 4], [5], [], [6, 7], [8]] [fun v _ => v = (.pointer (some ⟨w3.heap.size, 0 + 1, none⟩)), fun v _ => v = (.slice a3 ((t.parts.take i).map (putT y)).length cc), fun v _ => v = (.pointer (some ⟨w.heap.size, 0 + 1, none⟩)), fun v _ => v = (.slice (some ⟨b1, off1, none⟩) t.parts.length c), fun v _ => v = (.int .i64 (i : Int)), fun v _ => v = (.pointer (some ⟨b1, off1 + i * 2, none⟩)), fun v _ => v = (.agg #[str (nth t.parts i).atom, .slice pa (nth t.parts i).parts.length pc]), fun v _ => v = (.agg #[str y.atom, .slice ya yn yc]), fun (v : Value) (ww : World) => RTree (g.toList ++ (w3.heap.size :: w2.heap.size :: L)) ww v (putT y (nth t.parts i)), fun (v : Value) (ww : World) => ∃ b u1 u2, v = .slice (some ⟨b, 0, none⟩) 1 1 ∧ Blk ww b [u1, u2].toArray 67 ∧ RTree (g.toList ++ (w3.heap.size :: w2.heap.size :: L)) ww (.agg #[u1, u2]) (putT y (nth t.parts i))] (by decide) (stab_eq (stab_eq (stab_eq (stab_eq (stab_eq (stab_eq (stab_eq (stab_eq (stab_gen (fun v w w' h k => RTree.ext h k) (stab_gen (fun v w w' ⟨b, u1, u2, e, h1, h2⟩ k => ⟨b, u1, u2, e, h1.ext k, RTree.ext h2 k⟩) trivial)))))))))) (fun wd hkd => ?_) ?_
    refine certs_cons ?_ ?_
    intro x vs w7 e hk7 hd he
    replace hk7 := kept_new.trans hkd hk7
    replace he : e = over (havoc _ x _) [] := he
    subst he
    refine zf tF67_1 rfl <| ow_nil ?_
    exact ⟨kept_new.refl _, rfl, by first | exact agree_put | exact agree_refl⟩
    refine certs_cons ?_ ?_
    intro x vs w7 e hk7 hd he
    have d0 : vs 0 = (.pointer (some ⟨w3.heap.size, 0 + 1, none⟩)) := hd
    replace hk7 := kept_new.trans hkd hk7
    have hb5 := hb5.ext hk7
    replace he : e = over (havoc _ x _) [(31, vs 0)] := he
    rw [d0] at he
    subst he
    refine zl tOne65 rfl (hb5.at rfl) <| ow_nil ?_
    exact ⟨kept_new.refl _, rfl, by first | exact agree_put | exact agree_refl⟩
    refine certs_cons ?_ ?_
    intro x vs w7 e hk7 hd he
    replace hk7 := kept_new.trans hkd hk7
    replace he : e = over (havoc _ x _) [] := he
    subst he
    refine zf tF67_1 rfl <| ow_nil ?_
    exact ⟨kept_new.refl _, rfl, by first | exact agree_put | exact agree_refl⟩
    refine certs_cons ?_ ?_
    intro x vs w7 e hk7 hd he
    have d2 : vs 2 = (.pointer (some ⟨w.heap.size, 0 + 1, none⟩)) := hd
    replace hk7 := kept_new.trans hkd hk7
    have hb2 := hb2.ext hk7
    replace he : e = over (havoc _ x _) [(33, vs 2)] := he
    rw [d2] at he
    subst he
    refine zl tOne65 rfl (hb2.at rfl) <| ow_nil ?_
    exact ⟨kept_new.refl _, rfl, by first | exact agree_put | exact agree_refl⟩
    refine certs_cons ?_ ?_
    intro x vs w7 e hk7 hd he
    replace hk7 := kept_new.trans hkd hk7
    replace he : e = over (havoc _ x _) [] := he
    subst he
    refine zm <| ow_nil ?_
    exact ⟨kept_new.refl _, rfl, by first | exact agree_put | exact agree_refl⟩
    refine certs_cons ?_ ?_
    intro x vs w7 e hk7 hd he
    obtain ⟨d3, d4⟩ : (vs 3 = (.slice (some ⟨b1, off1, none⟩) t.parts.length c)) ∧ (vs 4 = (.int .i64 (i : Int))) := hd
    replace hk7 := kept_new.trans hkd hk7
    replace he : e = over (havoc _ x _) [(34, vs 3), (35, vs 4)] := he
    rw [d3, d4] at he
    subst he
    refine zi tSl65 tI67 rfl rfl (by omega) <| ow_nil ?_
    exact ⟨kept_new.refl _, rfl, by first | exact agree_put | exact agree_refl⟩
    refine certs_cons ?_ ?_
    intro x vs w7 e hk7 hd he
    have d5 : vs 5 = (.pointer (some ⟨b1, off1 + i * 2, none⟩)) := hd
    replace hk7 := kept_new.trans hkd hk7
    have hcc := hcc.ext hk7
    replace he : e = over (havoc _ x _) [(36, vs 5)] := he
    rw [d5] at he
    subst he
    refine zL tAgg67 tI67 rfl (hcc) (rfl) <| ow_nil ?_
    exact ⟨kept_new.refl _, rfl, by first | exact agree_put | exact agree_refl⟩
    refine certs_cons ?_ ?_
    intro x vs w7 e hk7 hd he
    replace hk7 := kept_new.trans hkd hk7
    have hb3 := hb3.ext hk7
    replace he : e = over (havoc _ x _) [] := he
    subst he
    refine zL tAgg67 tI67 rfl hb3.all rfl <| ow_nil ?_
    exact ⟨kept_new.refl _, rfl, by first | exact agree_put | exact agree_refl⟩
    refine certs_cons ?_ ?_
    intro x vs w7 e hk7 hd he
    obtain ⟨d6, d7⟩ : (vs 6 = (.agg #[str (nth t.parts i).atom, .slice pa (nth t.parts i).parts.length pc])) ∧ (vs 7 = (.agg #[str y.atom, .slice ya yn yc])) := hd
    replace hk7 := kept_new.trans hkd hk7
    have hO := hO.ext hk7; have hT := hT.ext hk7; have hY := hY.ext hk7
    replace he : e = over (havoc _ x _) [(37, vs 6), (38, vs 7)] := he
    rw [d6, d7] at he
    subst he
    refine ow_call rfl rfl (ih (nth t.parts i) (by omega) (by omega) (hwf.nth (by omega)) _ _ (g.toList ++ (w3.heap.size :: w2.heap.size :: L)) w7 hT hY hO.all) ?_
    rintro v8 w8 ⟨hv8, hk8⟩
    have hs8 := hk8.size
    have hq9 := hv8
    refine ow_nil ?_
    exact ⟨kept_new.of hk8, hq9, by first | exact agree_put | exact agree_refl⟩
    refine certs_cons ?_ ?_
    intro x vs w7 e hk7 hd he
    have d8 : (fun (v : Value) (ww : World) => RTree (g.toList ++ (w3.heap.size :: w2.heap.size :: L)) ww v (putT y (nth t.parts i))) (vs 8) w7 := hd
    replace hk7 := kept_new.trans hkd hk7
    replace he : e = over (havoc _ x _) [(39, vs 8)] := he
    obtain ⟨a7, n7, c7, e7, _, _⟩ := rtree_cases d8
    rw [e7] at he
    rw [e7] at d8
    subst he
    refine ow_buildSlice1 tSl65 tI67 rfl rfl rfl rfl rfl rfl rfl rfl ?_
    intro w8 hk8 hb40 hz8
    refine ow_nil ?_
    exact ⟨kept_new.of hk8, ⟨_, _, _, rfl, hb40, RTree.ext d8 hk8⟩, by first | exact agree_put | exact agree_refl⟩
    exact trivial
    intro x vs w46 hk46 hdraw
    have d0 : vs 0 = (.pointer (some ⟨w3.heap.size, 0 + 1, none⟩)) := hdraw 0 (by decide)
    have d1 : vs 1 = (.slice a3 ((t.parts.take i).map (putT y)).length cc) := hdraw 1 (by decide)
    have d2 : vs 2 = (.pointer (some ⟨w.heap.size, 0 + 1, none⟩)) := hdraw 2 (by decide)
    have d3 : vs 3 = (.slice (some ⟨b1, off1, none⟩) t.parts.length c) := hdraw 3 (by decide)
    have d4 : vs 4 = (.int .i64 (i : Int)) := hdraw 4 (by decide)
    have d5 : vs 5 = (.pointer (some ⟨b1, off1 + i * 2, none⟩)) := hdraw 5 (by decide)
    have d6 : vs 6 = (.agg #[str (nth t.parts i).atom, .slice pa (nth t.parts i).parts.length pc]) := hdraw 6 (by decide)
    have d7 : vs 7 = (.agg #[str y.atom, .slice ya yn yc]) := hdraw 7 (by decide)
    have d8 : (fun (v : Value) (ww : World) => RTree (g.toList ++ (w3.heap.size :: w2.heap.size :: L)) ww v (putT y (nth t.parts i))) (vs 8) w46 := hdraw 8 (by decide)
    have d9 : (fun (v : Value) (ww : World) => ∃ b u1 u2, v = .slice (some ⟨b, 0, none⟩) 1 1 ∧ Blk ww b [u1, u2].toArray 67 ∧ RTree (g.toList ++ (w3.heap.size :: w2.heap.size :: L)) ww (.agg #[u1, u2]) (putT y (nth t.parts i))) (vs 9) w46 := hdraw 9 (by decide)
    have hK := hK.ext hk46; have hb2 := hb2.ext hk46; have hb3 := hb3.ext hk46; have hb4 := hb4.ext hk46; have hb5 := hb5.ext hk46; have hO := hO.ext hk46
    change OW _ _ _ _ _ (over (havoc _ x _) [(31, vs 0), (32, vs 1), (33, vs 2), (34, vs 3), (35, vs 4), (36, vs 5), (37, vs 6), (38, vs 7), (39, vs 8), (40, vs 9)]) _
    rw [d0, d1, d2, d3, d4, d5, d6, d7]
    obtain ⟨nb, u1, u2, e7, hbn, ht⟩ := d9
    rw [e7]
    refine ow_growT tSl65 tI67 rfl rfl rfl rfl rfl rfl hO hbn ht (by rw [map_take_len _ hk]; omega) ?_
    intro a4 cc4 g4 w47 hO3 hk47
    have hK := Keep.older (by omega) hO.low hK hk47
    have hb2 := hb2.sto hk47 (hO.sepB (by omega)); have hb3 := hb3.sto hk47 (hO.sepB (by omega)); have hb4 := hb4.sto hk47 (hO.sepL (by simp)); have hb5 := hb5.sto hk47 (hO.sepL (by simp))
    rw [map_take_snoc (putT y) hgt] at hO3 ⊢
    refine zf tF67_1 rfl <| ow_storeB tI65 rfl rfl rfl rfl hb5 rfl ?_
    intro w48 hk48 hb5 hz48
    have hK := hK.sto hk48 (by simp <;> omega); have hb2 := hb2.sto hk48 (by simp <;> omega); have hb3 := hb3.sto hk48 (by simp <;> omega); have hb4 := hb4.sto hk48 (by simp <;> omega); have hO3 := hO3.sto hk48 (by simp <;> omega)
    refine ow_nil <| cw_region <| zm <| ow_add rfl rfl rfl rfl rfl (wrap_i64 _ (by omega) (by omega)) <| zA <| ow_nil ?_
    exact ⟨(i + 1, a4, cc4, g4), ⟨rfl, rfl, rfl, rfl, rfl⟩, ⟨hK, hb2, hb3, hb4, hb5, hO3.weak (fun x hx => by simpa using hx), by dsimp only; omega⟩, by dsimp only; omega⟩
    rw [map_take_all (putT y) (by omega)] at hb5 hO
    refine cw_exit <| x_hit rfl <| zr <| zL tAgg67 tI67 rfl hb5.all rfl <| ow_storeA tI67 rfl rfl rfl rfl rfl hb4 rfl ?_
    intro w7 hk7 hb4 hz7
    have hK := hK.sto hk7 (by simp <;> omega); have hO := hO.sto hk7 (by simp <;> omega)
    refine ow_nil <| cw_ret ?_
    exact ⟨[_], resultAt_blk tAgg67 tI67 rfl hb4 rfl, by rw [hq]; exact rtree_mk (hO.trees.weak (fun x hx => by simp [hx])), hK⟩

theorem l6tPutText_ret (t y : Tree) (hg : Good t) (hy : Good y) (hts : t.size ≤ 10000000) (hyl : y.text.length ≤ 12000) (hys : y.size ≤ 100000) (htl : t.text.length ≤ 12000) (v vy : Value) (L : List Nat) (w : World) (hv : RTree L w v t) (hvy : RTree L w vy y) (hL : ∀ x, x ∈ L → x < w.heap.size) :
    Ret Tryz.prog 182 [v, vy] w fun r w' => r = str (gS (some (putT y t))) ∧ Keep [] w w' := by
  have hv0 := hv
  have hy0 := hvy
  obtain ⟨a, n, c, rfl, hn, hps⟩ := rtree_cases hv
  obtain ⟨ya, yn, yc, rfl, hyn, hyp⟩ := rtree_cases hvy
  have hK := Keep.refl [] w
  have hlen := put_len (y := y) hg
  have hhl := holes_le t
  have hy1 : 1 ≤ y.text.length := by obtain ⟨c, r, e⟩ := text_pos hy; rw [e]; simp
  have hm : holes t * (y.text.length - 1) ≤ 10000000 * 12000 := Nat.mul_le_mul (by omega) (by omega)
  have hmz : (holes t : Int) * ((y.text.length : Int) - 1) = ((holes t * (y.text.length - 1) : Nat) : Int) := by rw [Int.natCast_mul]; congr 1; omega
  rw [hmz] at hlen
  refine ret_of [.tmp 4] 23 Tryz.func182 rfl nm182 rfl rfl ?_
  refine zr <| ow_boxA rfl rfl rfl ?_
  intro w1 hk1 hb2 hz1
  have hK := hK.ext hk1; have hv0 := hv0.ext hk1; have hy0 := hy0.ext hk1
  refine ow_boxA rfl rfl rfl ?_
  intro w2 hk2 hb3 hz2
  have hK := hK.ext hk2; have hv0 := hv0.ext hk2; have hy0 := hy0.ext hk2; have hb2 := hb2.ext hk2
  refine zA <| ow_nil <| zr <| zL tAgg67 tI67 rfl hb2.all rfl <| ow_call rfl rfl (l6tHoles_ret t.size t (Nat.le_refl _) hts hg.wf _ _ w2 hv0) ?_
  rintro v3 w3 ⟨hv3, hk3⟩
  have hs3 := hk3.size
  have hK := hK.ext hk3; have hv0 := hv0.ext hk3; have hy0 := hy0.ext hk3; have hb2 := hb2.ext hk3; have hb3 := hb3.ext hk3
  obtain rfl := hv3
  refine zA <| ow_nil <| cw_seq <| cw_seq ?_
  refine cw_draw tMixed kept_new 11 [8, 9, 10, 11, 12, 13, 14, 15, 16, 17, 18] [8, 9, 10, 11, 12, 13, 14, 15, 16, 17, 18] [[], [0], [1], [], [], [4], [5], [6], [3, 7], [2, 8], [9]] [fun v _ => v = (.agg #[str t.atom, .slice a n c]), fun v _ => v = (str t.text), fun v _ => v = (.int .i64 (t.text.length : Int)), fun v _ => v = (.int .i64 (holes t : Int)), fun v _ => v = (.agg #[str y.atom, .slice ya yn yc]), fun v _ => v = (str y.text), fun v _ => v = (.int .i64 (y.text.length : Int)), fun v _ => v = (.int .i64 ((y.text.length : Int) - 1)), fun v _ => v = (.int .i64 ((holes t * (y.text.length - 1) : Nat) : Int)), fun v _ => v = (.int .i64 ((t.text.length : Int) + ((holes t * (y.text.length - 1) : Nat) : Int))), fun v _ => v = (.bool (decide ((12000 : Int) < (t.text.length : Int) + ((holes t * (y.text.length - 1) : Nat) : Int))))] (by decide) (stab_eq (stab_eq (stab_eq (stab_eq (stab_eq (stab_eq (stab_eq (stab_eq (stab_eq (stab_eq (stab_eq trivial))))))))))) (fun wd hkd => ?_) ?_
  refine certs_cons ?_ ?_
  intro x vs w4 e hk4 hd he
  replace hk4 := kept_new.trans hkd hk4
  have hb2 := hb2.ext hk4
  replace he : e = over (havoc _ x _) [] := he
  subst he
  refine zL tAgg67 tI67 rfl hb2.all rfl <| ow_nil ?_
  exact ⟨kept_new.refl _, rfl, by first | exact agree_put | exact agree_refl⟩
  refine certs_cons ?_ ?_
  intro x vs w4 e hk4 hd he
  have d0 : vs 0 = (.agg #[str t.atom, .slice a n c]) := hd
  replace hk4 := kept_new.trans hkd hk4
  have hv0 := hv0.ext hk4
  replace he : e = over (havoc _ x _) [(8, vs 0)] := he
  rw [d0] at he
  subst he
  refine ow_call rfl rfl (l1Text_ret t.size t (Nat.le_refl _) hg.wf (by omega) (by omega) _ _ w4 hv0) ?_
  rintro v5 w5 ⟨hv5, hk5⟩
  have hs5 := hk5.size
  obtain rfl := hv5
  refine ow_nil ?_
  exact ⟨kept_new.of hk5, rfl, by first | exact agree_put | exact agree_refl⟩
  refine certs_cons ?_ ?_
  intro x vs w4 e hk4 hd he
  have d1 : vs 1 = (str t.text) := hd
  replace hk4 := kept_new.trans hkd hk4
  replace he : e = over (havoc _ x _) [(9, vs 1)] := he
  rw [d1] at he
  subst he
  refine ow_lenS tStr9 rfl rfl rfl <| ow_nil ?_
  exact ⟨kept_new.refl _, rfl, by first | exact agree_put | exact agree_refl⟩
  refine certs_cons ?_ ?_
  intro x vs w4 e hk4 hd he
  replace hk4 := kept_new.trans hkd hk4
  replace he : e = over (havoc _ x _) [] := he
  subst he
  refine zm <| ow_nil ?_
  exact ⟨kept_new.refl _, rfl, by first | exact agree_put | exact agree_refl⟩
  refine certs_cons ?_ ?_
  intro x vs w4 e hk4 hd he
  replace hk4 := kept_new.trans hkd hk4
  have hb3 := hb3.ext hk4
  replace he : e = over (havoc _ x _) [] := he
  subst he
  refine zL tAgg67 tI67 rfl hb3.all rfl <| ow_nil ?_
  exact ⟨kept_new.refl _, rfl, by first | exact agree_put | exact agree_refl⟩
  refine certs_cons ?_ ?_
  intro x vs w4 e hk4 hd he
  have d4 : vs 4 = (.agg #[str y.atom, .slice ya yn yc]) := hd
  replace hk4 := kept_new.trans hkd hk4
  have hy0 := hy0.ext hk4
  replace he : e = over (havoc _ x _) [(12, vs 4)] := he
  rw [d4] at he
  subst he
  refine ow_call rfl rfl (l1Text_ret y.size y (Nat.le_refl _) hy.wf (by omega) (by omega) _ _ w4 hy0) ?_
  rintro v5 w5 ⟨hv5, hk5⟩
  have hs5 := hk5.size
  obtain rfl := hv5
  refine ow_nil ?_
  exact ⟨kept_new.of hk5, rfl, by first | exact agree_put | exact agree_refl⟩
  refine certs_cons ?_ ?_
  intro x vs w4 e hk4 hd he
  have d5 : vs 5 = (str y.text) := hd
  replace hk4 := kept_new.trans hkd hk4
  replace he : e = over (havoc _ x _) [(13, vs 5)] := he
  rw [d5] at he
  subst he
  refine ow_lenS tStr9 rfl rfl rfl <| ow_nil ?_
  exact ⟨kept_new.refl _, rfl, by first | exact agree_put | exact agree_refl⟩
  refine certs_cons ?_ ?_
  intro x vs w4 e hk4 hd he
  have d6 : vs 6 = (.int .i64 (y.text.length : Int)) := hd
  replace hk4 := kept_new.trans hkd hk4
  replace he : e = over (havoc _ x _) [(14, vs 6)] := he
  rw [d6] at he
  subst he
  refine ow_sub rfl rfl rfl rfl rfl (wrap_i64 _ (by omega) (by omega)) <| ow_nil ?_
  exact ⟨kept_new.refl _, rfl, by first | exact agree_put | exact agree_refl⟩
  refine certs_cons ?_ ?_
  intro x vs w4 e hk4 hd he
  obtain ⟨d3, d7⟩ : (vs 3 = (.int .i64 (holes t : Int))) ∧ (vs 7 = (.int .i64 ((y.text.length : Int) - 1))) := hd
  replace hk4 := kept_new.trans hkd hk4
  replace he : e = over (havoc _ x _) [(11, vs 3), (15, vs 7)] := he
  rw [d3, d7] at he
  subst he
  refine ow_mul rfl rfl rfl rfl rfl ((congrArg IntKind.i64.wrap hmz).trans (wrap_i64 _ (by omega) (by omega))) <| ow_nil ?_
  exact ⟨kept_new.refl _, rfl, by first | exact agree_put | exact agree_refl⟩
  refine certs_cons ?_ ?_
  intro x vs w4 e hk4 hd he
  obtain ⟨d2, d8⟩ : (vs 2 = (.int .i64 (t.text.length : Int))) ∧ (vs 8 = (.int .i64 ((holes t * (y.text.length - 1) : Nat) : Int))) := hd
  replace hk4 := kept_new.trans hkd hk4
  replace he : e = over (havoc _ x _) [(10, vs 2), (16, vs 8)] := he
  rw [d2, d8] at he
  subst he
  refine ow_add rfl rfl rfl rfl rfl (wrap_i64 _ (by omega) (by omega)) <| ow_nil ?_
  exact ⟨kept_new.refl _, rfl, by first | exact agree_put | exact agree_refl⟩
  refine certs_cons ?_ ?_
  intro x vs w4 e hk4 hd he
  have d9 : vs 9 = (.int .i64 ((t.text.length : Int) + ((holes t * (y.text.length - 1) : Nat) : Int))) := hd
  replace hk4 := kept_new.trans hkd hk4
  replace he : e = over (havoc _ x _) [(17, vs 9)] := he
  rw [d9] at he
  subst he
  refine ow_gtr rfl rfl rfl rfl rfl <| ow_nil ?_
  exact ⟨kept_new.refl _, rfl, by first | exact agree_put | exact agree_refl⟩
  exact trivial
  intro x vs w43 hk43 hdraw
  have d0 : vs 0 = (.agg #[str t.atom, .slice a n c]) := hdraw 0 (by decide)
  have d1 : vs 1 = (str t.text) := hdraw 1 (by decide)
  have d2 : vs 2 = (.int .i64 (t.text.length : Int)) := hdraw 2 (by decide)
  have d3 : vs 3 = (.int .i64 (holes t : Int)) := hdraw 3 (by decide)
  have d4 : vs 4 = (.agg #[str y.atom, .slice ya yn yc]) := hdraw 4 (by decide)
  have d5 : vs 5 = (str y.text) := hdraw 5 (by decide)
  have d6 : vs 6 = (.int .i64 (y.text.length : Int)) := hdraw 6 (by decide)
  have d7 : vs 7 = (.int .i64 ((y.text.length : Int) - 1)) := hdraw 7 (by decide)
  have d8 : vs 8 = (.int .i64 ((holes t * (y.text.length - 1) : Nat) : Int)) := hdraw 8 (by decide)
  have d9 : vs 9 = (.int .i64 ((t.text.length : Int) + ((holes t * (y.text.length - 1) : Nat) : Int))) := hdraw 9 (by decide)
  have d10 : vs 10 = (.bool (decide ((12000 : Int) < (t.text.length : Int) + ((holes t * (y.text.length - 1) : Nat) : Int)))) := hdraw 10 (by decide)
  have hK := hK.ext hk43; have hv0 := hv0.ext hk43; have hy0 := hy0.ext hk43; have hb2 := hb2.ext hk43; have hb3 := hb3.ext hk43
  change OW _ _ _ _ [] (over (havoc _ x _) [(8, vs 0), (9, vs 1), (10, vs 2), (11, vs 3), (12, vs 4), (13, vs 5), (14, vs 6), (15, vs 7), (16, vs 8), (17, vs 9), (18, vs 10)]) _
  rw [d0, d1, d2, d3, d4, d5, d6, d7, d8, d9, d10]
  refine ow_nil <| zc rfl (fun h1 => ?_) (fun h1 => ?_)
  have hbig : ¬ (putT y t).text.length ≤ 12000 := by omega
  refine zr <| zA <| ow_nil <| cw_ret ?_
  exact ⟨_, rfl, by rw [gS_some, if_neg hbig]; rfl, hK⟩
  have hsm : (putT y t).text.length ≤ 12000 := by omega
  have hpg := put_good hy hg
  have hps := size_text hpg
  refine cw_skip <| zr <| zL tAgg67 tI67 rfl hb2.all rfl <| zL tAgg67 tI67 rfl hb3.all rfl <| ow_call rfl rfl (l6tPut_ret y t.size t (Nat.le_refl _) hts hg.wf _ _ L w43 hv0 hy0 (fun x hx => by have := hK.size; have := hL x hx; omega)) ?_
  rintro v44 w44 ⟨hv44, hk44⟩
  have hs44 := hk44.size
  have hK := hK.ext hk44
  have hpt := hv44
  refine ow_call rfl rfl (l1Text_ret (putT y t).size (putT y t) (Nat.le_refl _) hpg.wf (by omega) (by omega) _ _ w44 hpt) ?_
  rintro v45 w45 ⟨hv45, hk45⟩
  have hs45 := hk45.size
  have hK := hK.ext hk45
  obtain rfl := hv45
  refine zA <| ow_nil <| cw_ret ?_
  exact ⟨_, rfl, congrArg str (show (putT y t).text = gS (some (putT y t)) from (if_pos hsm).symm), hK⟩
end Go.Proofs.YtnkjgoholocliaaGreatDoor

namespace Go.Proofs.YtnkjgoholocliaaGreatDoor
open Go

theorem numeral_le {s : Bytes} {z : Int} (h : numeral s = some z) : z < 1000 := by
  unfold numeral at h
  split at h
  · cases h; omega
  · split at h
    · cases h
    · rename_i hb
      split at h
      · rename_i ha
        have h1 := val_bound _ ha
        have h2 : (dgs s).length ≤ 3 := by omega
        have h3 : 10 ^ (dgs s).length ≤ 10 ^ 3 := Nat.pow_le_pow_right (by omega) h2
        cases h
        have h4 : sgn s = 1 ∨ sgn s = -1 := by unfold sgn; split <;> simp
        rcases h4 with h4 | h4 <;> rw [h4] <;> omega
      · cases h
theorem numeral_getD (s : Bytes) : (numeral s).getD 0 < 1000 := by
  cases h : numeral s with
  | none => decide
  | some z => exact numeral_le h
theorem regZ_cases (a : Bytes) : (∃ r : Nat, r < 40 ∧ regZ a = (r : Int) ∧ regN a = r) ∨ (regZ a = -1 ∧ isReg a = false) := by
  unfold regN isReg
  have e : regZ a = -1 ∨ (0 ≤ regZ a ∧ regZ a ≤ 39) := by
    unfold regZ
    cases numeral a with
    | none => exact .inl rfl
    | some z => dsimp only; split <;> omega
  rcases e with e | ⟨h1, h2⟩
  · right; rw [e]; exact ⟨rfl, rfl⟩
  · left; exact ⟨(regZ a).toNat, by omega, by omega, rfl⟩
theorem regZ_is {a : Bytes} (h : isReg a = true) : ∃ r : Nat, r < 40 ∧ regZ a = (r : Int) ∧ regN a = r := by
  rcases regZ_cases a with h1 | ⟨_, h1⟩
  · exact h1
  · rw [h1] at h; cases h
theorem regS_some {st : TS} {a : Bytes} {r : Nat} (h : regZ a = (r : Int)) (hn : regN a = r) : regS st a = sth (stS st) r := by
  unfold regS; rw [if_pos (by omega), hn]
theorem regS_none {st : TS} {a : Bytes} (h : ¬ 0 ≤ regZ a) : regS st a = [] := if_neg h
theorem decB_lt {n : Nat} (h : n ≤ 1000) : (97 :: decB n).length ≤ 5 := by have := decB_len4 n h; simp; omega
theorem unknown_size {n : Nat} (h : n ≤ 1000) : (atomT (97 :: decB n)).size ≤ 100 ∧ (atomT (97 :: decB n)).text = 97 :: decB n := by
  have h1 := decB_lt h
  exact ⟨by simp only [atomT, Tree.size, Tree.size.sizes]; omega, by rw [atomT, text_atom (by simp)]⟩

theorem sum_most {m : Nat} : ∀ xs : List Bytes, (∀ s, s ∈ xs → s.length ≤ m) → (xs.map List.length).sum ≤ xs.length * m
  | [], _ => by simp
  | x :: xs, h => by
    have h1 := h x (by simp)
    have h2 := sum_most xs (fun s hs => h s (by simp [hs]))
    simp only [List.map_cons, List.sum_cons, List.length_cons, Nat.add_mul]; omega
theorem szS_needs {b : Bk} (h : blockB b = true) : szS b.needs ≤ 1000000 ∧ b.needs.length ≤ 40 := by
  have hp := (blockB_parts h).2.1
  have h1 := sum_most (m := 12000) b.needs (fun s hs => by obtain ⟨t, ht, _⟩ := hp s hs; exact (parse_good ht).2.2.2)
  have h2 : b.needs.length ≤ 40 := by
    unfold blockB at h
    simp only [Bool.and_eq_true, decide_eq_true_eq] at h; omega
  have h3 : b.needs.length * 12000 ≤ 40 * 12000 := Nat.mul_le_mul h2 (Nat.le_refl _)
  unfold szS; omega
theorem l6tGive_ret (bs : List Bk) (hP : progB bs = true) (hbs : Smalls bs) (st : TS) (hS : OkTS st) (hl : st.length = 40) (t : Tree) (hf : Fine t) (hg : Good t) (hI : GiveOK t) (o : Nat) (ho : o ≤ 1000)
    (vp vt vi : Value) (L : List Nat) (w : World) (hvp : RBks L w vp bs) (hvt : RStrs L w vt (stS st)) (hvi : RTree L w vi t) (hL : ∀ x, x ∈ L → x < w.heap.size) :
    Ret Tryz.prog 165 [vp, vt, vi, .int .i64 (o : Int)] w fun r w' => r = str (gS (giveT (bs.map bkI) st o t)) ∧ Keep [] w w' := by
  obtain ⟨pa, pn, pc, rfl, hpn⟩ := rbks_cases hvp
  obtain ⟨ta, tn, tc, rfl, htn⟩ := rstrs_cases hvt
  subst hpn htn
  have hb1 : 1 ≤ bs.length := by
    unfold progB at hP
    simp only [Bool.and_eq_true, decide_eq_true_eq] at hP; omega
  have hb2 := hbs.1
  obtain ⟨pb, poff, _, _, _, _, _, _, rfl, _⟩ := rbks_get hvp (bth_get (bs := bs) (i := 0) (by omega))
  have hsl := stS_len st
  have hv0 := hvi
  obtain ⟨a, n, c, rfl, hn, hps⟩ := rtree_cases hvi
  subst hn
  have h3 := hI.three
  have hpl := parts_le t
  have hfs := hf.size
  have hta : t.atom = [] := by
    by_cases ha : t.atom = []
    · exact ha
    · have := hf.wf.leaf ha; rw [this] at h3; simp at h3
  have hh : headOf t = (nth t.parts 0).atom := (headOf_no2 hta).trans (headA_nth (by omega))
  obtain ⟨b0, off0, qa0, qn0, qc0, rfl, hc0, hqn0, hq0⟩ := rtrees_get hps (nth_get (ps := t.parts) (i := 0) (by omega))
  obtain ⟨b2, off2, qa2, qn2, qc2, e2, hc2, hqn2, hq2⟩ := rtrees_get hps (nth_get (ps := t.parts) (i := 2) (by omega))
  cases e2
  have hK := Keep.refl [] w
  refine ret_of [.tmp 8] 147 Tryz.func165 rfl nm165 rfl rfl ?_
  refine zr <| ow_boxA rfl rfl rfl ?_
  intro w1 hk1 hb6 hz1
  have hK := hK.ext hk1
  refine zA <| ow_nil <| zr <| zf tF67_1 rfl <| zl tOne65 rfl (hb6.at rfl) <| zA <| ow_nil <| zr <| zA <| ow_nil <| zr <| zm <| zi (i := 2) tSl65 tI67 rfl rfl (by omega) <| zL tAgg67 tI67 rfl (hc2.ext hK) (rfl) <| ow_call rfl rfl (l6tReg_ret (nth t.parts 2) _ L w1 ((rtree_of hq2).ext hK)) ?_
  rintro v2 w2 ⟨hv2, hk2⟩
  have hs2 := hk2.size
  have hK := hK.ext hk2
  obtain rfl := hv2
  refine zA <| ow_nil <| cw_seq <| zr <| zm <| ow_geq rfl rfl rfl rfl rfl <| ow_nil ?_
  refine cw_cut (fun _ : Unit => [(0, .slice (some ⟨pb, poff, none⟩) bs.length pc), (1, .slice ta (stS st).length tc), (3, .int .i64 (o : Int)), (6, .pointer (some ⟨w.heap.size, 0, none⟩)), (9, .slice (some ⟨b0, off0, none⟩) t.parts.length c), (10, str (regS st (nth t.parts 2).atom))]) (fun _ w' => w' = w2) ?_ ?_
  refine zc rfl (fun h1 => ?_) (fun h1 => ?_)
  obtain ⟨r, hr, hrz, hrn⟩ : ∃ r : Nat, r < 40 ∧ regZ (nth t.parts 2).atom = (r : Int) ∧ regN (nth t.parts 2).atom = r := (by rcases regZ_cases (nth t.parts 2).atom with h | ⟨h, _⟩; (· exact h); (· rw [h] at h1; omega))
  obtain ⟨tb, toff, rfl, htc⟩ := rstrs_get hvt (sth_get (xs := stS st) (i := r) (by omega))
  rw [hrz]
  refine cw_region <| zm <| zm <| zi tSl35 tI9 rfl rfl (by omega) <| zl tOne9 rfl (htc.ext hK 0 _ rfl) <| zA <| ow_nil ?_
  exact ⟨(), ⟨rfl, rfl, rfl, rfl, rfl, congrArg str (regS_some hrz hrn).symm⟩, rfl⟩
  skip
  refine cw_skip ?_
  exact ⟨(), ⟨rfl, rfl, rfl, rfl, rfl, congrArg str (regS_none h1).symm⟩, rfl⟩
  intro gu w3 e3 hI
  obtain rfl := hI
  refine zr <| zm <| ow_call rfl rfl (l1Parse2_ret (regS st (nth t.parts 2).atom) L w3 (fun x hx => by have := hK.size; have := hL x hx; omega)) ?_
  rintro v4 w4 ⟨hv4, hk4⟩
  have hs4 := hk4.size
  have hK := hK.ext hk4
  obtain ⟨kt, kv, rfl, hkt, hkk⟩ := hv4
  obtain ⟨ka, kn, kc, rfl, hkn, hkp⟩ := rtree_cases hkt
  subst hkn
  refine zm <| zx (i := 0) rfl rfl <| zx (i := 1) rfl rfl <| ow_allocA tI67 rfl rfl rfl ?_
  intro w5 hk5 hb12 hz5
  have hK := hK.grow; have hK := hK.ext hk5; have hkt := hkt.grow; have hkt := hkt.ext hk5; have hkp := hkp.grow; have hkp := hkp.ext hk5
  refine ow_storeA tI67 rfl rfl rfl rfl rfl hb12 rfl ?_
  intro w6 hk6 hb12 hz6
  have hK := hK.sto hk6 (by simp <;> omega); have hkt := hkt.sto hk6 (by simp <;> omega); have hkp := hkp.sto hk6 (by simp <;> omega)
  refine zA <| ow_nil <| cw_seq <| zr <| zm <| zi (i := 0) tSl65 tI67 rfl rfl (by omega) <| zf tF67_0 rfl <| zl tOne9 rfl (hc0.ext hK 0 _ rfl) <| ow_nil <| cw_block <| zr <| ow_seql rfl rfl rfl rfl <| zA <| ow_nil <| zc rfl (fun h2 => ?_) (fun h2 => ?_)
  have hq : headOf t = [99, 111, 110, 115, 116] := hh.trans h2
  have hG := giveS_const (p := bs.map bkI) (st := st) (o := o) hq
  refine zr <| zA <| ow_nil <| cw_ret ?_
  exact ⟨_, rfl, congrArg str hG.symm, hK⟩
  have c1 : headOf t ≠ [99, 111, 110, 115, 116] := fun e => h2 (hh.symm.trans e)
  refine zr <| ow_seql rfl rfl rfl rfl <| zA <| ow_nil <| zc rfl (fun h3 => ?_) (fun h3 => ?_)
  have hq : headOf t = [109, 111, 118] := hh.trans h3
  have hG := giveS_mov (p := bs.map bkI) (o := o) hS hq (hI.mov hq)
  refine zr <| zm <| zA <| ow_nil <| cw_ret ?_
  exact ⟨_, rfl, congrArg str hG.symm, hK⟩
  have c2 : headOf t ≠ [109, 111, 118] := fun e => h3 (hh.symm.trans e)
  refine cw_seq <| zr <| ow_seql rfl rfl rfl rfl <| zA <| ow_nil ?_
  refine cw_cut (fun _ : Unit => [(0, .slice (some ⟨pb, poff, none⟩) bs.length pc), (1, .slice ta (stS st).length tc), (3, .int .i64 (o : Int)), (9, .slice (some ⟨b0, off0, none⟩) t.parts.length c), (10, str (regS st (nth t.parts 2).atom)), (12, .pointer (some ⟨w4.heap.size, 0, none⟩)), (37, str (nth t.parts 0).atom), (43, .bool (decide ((nth t.parts 0).atom = [97, 100, 100]) || decide ((nth t.parts 0).atom = [115, 117, 98]) || decide ((nth t.parts 0).atom = [109, 117, 108])))]) (fun _ w' => w' = w6) ?_ ?_
  refine zc rfl (fun h4 => ?_) (fun h4 => ?_)
  refine cw_skip ?_
  exact ⟨(), ⟨rfl, rfl, rfl, rfl, rfl, rfl, rfl, congrArg Value.bool (or3_1 h4)⟩, rfl⟩
  have hn1 := h4
  refine zr <| ow_seql rfl rfl rfl rfl <| zA <| ow_nil <| zc rfl (fun h5 => ?_) (fun h5 => ?_)
  refine cw_skip ?_
  exact ⟨(), ⟨rfl, rfl, rfl, rfl, rfl, rfl, rfl, congrArg Value.bool (or3_2 hn1 h5)⟩, rfl⟩
  refine cw_region <| ow_seql rfl rfl rfl rfl <| zA <| ow_nil ?_
  exact ⟨(), ⟨rfl, rfl, rfl, rfl, rfl, rfl, rfl, congrArg Value.bool (or3_3 hn1 h5)⟩, rfl⟩
  intro gu w7 e7 hI
  obtain rfl := hI
  refine zc rfl (fun h6 => ?_) (fun h6 => ?_)
  have hq : headOf t = [97, 100, 100] ∨ headOf t = [115, 117, 98] ∨ headOf t = [109, 117, 108] := by rw [hh]; exact or3_t h6
  obtain ⟨g1, g2, g3⟩ := hI.add hq
  obtain ⟨b3, off3, qa3, qn3, qc3, e3, hc3, hqn3, hq3⟩ := rtrees_get hps (nth_get (ps := t.parts) (i := 3) (by omega))
  cases e3
  have hG := giveS_add (p := bs.map bkI) (o := o) hS hq g1 g2
  obtain ⟨r3, hr3, hrz3, hrn3⟩ := regZ_is g2
  obtain ⟨tb, toff, rfl, htc⟩ := rstrs_get hvt (sth_get (xs := stS st) (i := r3) (by omega))
  rw [hrn3] at hG
  refine zr <| zm <| ow_seql rfl rfl rfl rfl <| zm ?_
  apply ow_and 9 49 58 [49, 50, 51, 52, 53, 54, 55, 56, 57, 58] (Keep [] w7) rfl
  intro h7
  replace h7 := tst h7
  have hJ49 := Keep.refl [] w7
  refine zm <| zm <| zi (i := 3) tSl65 tI67 rfl rfl (by omega) <| zL tAgg67 tI67 rfl (hc3.ext hK) (rfl) <| ow_call rfl rfl (l6tReg_ret (nth t.parts 3) _ L w7 ((rtree_of hq3).ext hK)) ?_
  rintro v8 w8 ⟨hv8, hk8⟩
  have hs8 := hk8.size
  have hK := hK.ext hk8; have hJ49 := hJ49.ext hk8
  obtain rfl := hv8
  rw [hrz3]
  refine zi tSl35 tI9 rfl rfl (by omega) <| zl tOne9 rfl (htc.ext hK 0 _ rfl) <| ow_seql rfl rfl rfl rfl <| zp rfl <| ow_nil ?_
  exact ⟨by repeat (first | with_reducible exact agree_refl | refine agree_upd rfl ?_ | refine agree_hav rfl ?_), rfl, hJ49⟩
  intro h7
  replace h7 := tst h7
  have hJ49 := Keep.refl [] w7
  refine zs <| zs <| zs <| zs <| zs <| zs <| zs <| zs <| zp rfl <| ow_nil ?_
  exact ⟨by repeat (first | with_reducible exact agree_refl | refine agree_upd rfl ?_ | refine agree_hav rfl ?_), rfl, hJ49⟩
  intro xx w8 hk8
  have hK := hK.ext hk8
  refine ow_nil <| zc rfl (fun h8 => ?_) (fun h8 => ?_)
  rw [if_pos h8] at hG
  refine zr <| zA <| ow_nil <| cw_ret ?_
  exact ⟨_, rfl, congrArg str hG.symm, hK⟩
  rw [if_neg (fun hx => by rw [hx] at h8; cases h8)] at hG
  refine cw_skip <| zr <| zA <| ow_nil <| cw_ret ?_
  exact ⟨_, rfl, congrArg str hG.symm, hK⟩
  have c3 : ¬ (headOf t = [97, 100, 100] ∨ headOf t = [115, 117, 98] ∨ headOf t = [109, 117, 108]) := by rw [hh]; exact or3_f h6
  refine zr <| ow_seql rfl rfl rfl rfl <| zA <| ow_nil <| zc rfl (fun h9 => ?_) (fun h9 => ?_)
  have hq : headOf t = [103, 101, 116] := hh.trans h9
  obtain ⟨g1, g2, g3, g4⟩ := hI.get hq
  obtain ⟨b3, off3, qa3, qn3, qc3, e3, hc3, hqn3, hq3⟩ := rtrees_get hps (nth_get (ps := t.parts) (i := 3) (by omega))
  cases e3
  obtain ⟨kok, hG⟩ := giveS_get (p := bs.map bkI) (o := o) hS hq g1 g4 hkk
  have hz9 := numeral_getD (nth t.parts 3).atom
  obtain ⟨z, hz⟩ : ∃ z : Nat, numZ (nth t.parts 3).atom = (z : Int) := ⟨_, (Int.toNat_of_nonneg g4).symm⟩
  rw [hz, show ((z : Int) + 1).toNat = z + 1 from by omega] at hG
  have hz8 : (numeral (nth t.parts 3).atom).getD 0 = (z : Int) := hz
  refine zr <| zm <| zi (i := 3) tSl65 tI67 rfl rfl (by omega) <| zf tF67_0 rfl <| zl tOne9 rfl (hc3.ext hK 0 _ rfl) <| ow_call rfl rfl (l2Number_ret _ _) ?_
  rintro _ _ ⟨rfl, rfl⟩
  refine zm <| zx (i := 0) rfl rfl <| zx (i := 1) rfl rfl <| zA <| zA <| ow_nil <| zr <| zL tAgg67 tI67 rfl hb12.all rfl ?_
  rw [show numV (nth t.parts 3).atom = .tuple #[.int .i64 (z : Int), .bool (numeral (nth t.parts 3).atom).isSome] from by unfold numV; rw [hz8]]
  refine ow_call rfl rfl (l4Head_ret kt _ _ w7 hkt) ?_
  rintro v8 w8 ⟨hv8, hk8⟩
  have hs8 := hk8.size
  have hK := hK.ext hk8; have hkp := hkp.ext hk8; have hb12 := hb12.ext hk8
  obtain rfl := hv8
  refine ow_seql rfl rfl rfl rfl <| zm ?_
  apply ow_and 7 72 79 [72, 73, 74, 75, 76, 77, 78, 79] (fun w' => w8 = w') rfl
  intro h10
  replace h10 := tst h10
  refine zm <| ow_add rfl rfl rfl rfl rfl (wrap_i64 _ (by omega) (by omega)) <| zf tF67_1 rfl <| zl tOne65 rfl (hb12.at rfl) <| ow_len tSl65 rfl rfl rfl <| ow_lss rfl rfl rfl rfl rfl <| zp rfl <| ow_nil ?_
  exact ⟨by repeat (first | with_reducible exact agree_refl | refine agree_upd rfl ?_ | refine agree_hav rfl ?_), rfl, rfl⟩
  intro h10
  replace h10 := tst h10
  refine zs <| zs <| zs <| zs <| zs <| zs <| zp rfl <| ow_nil ?_
  exact ⟨by repeat (first | with_reducible exact agree_refl | refine agree_upd rfl ?_ | refine agree_hav rfl ?_), rfl, rfl⟩
  rintro xx _ rfl
  refine ow_nil <| zc rfl (fun h11 => ?_) (fun h11 => ?_)
  simp only [Bool.and_eq_true, decide_eq_true_eq] at h11
  rw [hz8] at h11 ⊢
  have hkok := kok h11.1
  rw [if_pos h11] at hG
  obtain ⟨kb, koff, ea, en, ec, rfl, hce, hen, hep⟩ := rtrees_get hkp (nth_get (ps := kt.parts) (i := z + 1) (by omega))
  have hnok := hkok.nth (i := z + 1) (by omega)
  have hnz := hnok.size
  have hnt := hnok.short
  refine zr <| zf tF67_1 rfl <| zl tOne65 rfl (hb12.at rfl) <| zm <| ow_add rfl rfl rfl rfl rfl ((show IntKind.i64.wrap ((z : Int) + 1) = ((z + 1 : Nat) : Int) from wrap_i64 _ (by omega) (by omega))) <| zi tSl65 tI67 rfl rfl (by omega) <| zL tAgg67 tI67 rfl (hce) (rfl) <| ow_call rfl rfl (l1Text_ret (nth kt.parts (z + 1)).size _ (Nat.le_refl _) hnok.good.wf (by omega) (by omega) _ _ w8 (rtree_of hep)) ?_
  rintro v9 w9 ⟨hv9, hk9⟩
  have hs9 := hk9.size
  have hK := hK.ext hk9
  obtain rfl := hv9
  refine zA <| ow_nil <| cw_ret ?_
  exact ⟨_, rfl, congrArg str hG.symm, hK⟩
  simp only [Bool.and_eq_false_iff, decide_eq_false_iff_not] at h11
  rw [hz8] at h11
  rw [if_neg (fun hx => by rcases h11 with h | h; exact h hx.1; exact h hx.2)] at hG
  refine cw_skip <| zr <| zA <| ow_nil <| cw_ret ?_
  exact ⟨_, rfl, congrArg str hG.symm, hK⟩
  have c4 : headOf t ≠ [103, 101, 116] := fun e => h9 (hh.symm.trans e)
  refine zr <| ow_seql rfl rfl rfl rfl <| zA <| ow_nil <| zc rfl (fun h12 => ?_) (fun h12 => ?_)
  have hq : headOf t = [108, 97, 98] := hh.trans h12
  have hG := giveS_lab (st := st) (o := o) hP hq
  obtain ⟨k, hk⟩ : ∃ k, k = (findZ bs (nth t.parts 2).atom).toNat := ⟨_, rfl⟩
  rw [← hk] at hG
  have hfr := (regsOf_find (bs := bs) (l := (nth t.parts 2).atom)).1
  refine zr <| zm <| zm <| zi (i := 2) tSl65 tI67 rfl rfl (by omega) <| zf tF67_0 rfl <| zl tOne9 rfl (hc2.ext hK 0 _ rfl) <| ow_call rfl rfl (l6tFind_ret bs (by omega) (nth t.parts 2).atom _ L _ (hvp.ext hK)) ?_
  rintro _ _ ⟨rfl, rfl⟩
  refine zA <| ow_nil <| zr <| zm <| ow_geq rfl rfl rfl rfl rfl <| zm ?_
  apply ow_and 7 97 104 [97, 98, 99, 100, 101, 102, 103, 104] (Keep [] w7) rfl
  intro h13
  replace h13 := tst h13
  have hJ97 := Keep.refl [] w7
  have hkb := (hfr h13).1
  have hfk : findZ bs (nth t.parts 2).atom = (k : Int) := by omega
  rw [← hk] at hkb
  have hbb := progB_block_of hP _ (bth_in hkb)
  obtain ⟨hz1, hz2⟩ := szS_needs hbb
  obtain ⟨_, _, na, nn, nc, _, _, _, e8, hbc, hn1, _, hnr, _⟩ := rbks_get hvp (bth_get hkb)
  cases e8
  subst hn1
  rw [hfk]
  refine zm <| zm <| zi tSl25 tI55 rfl rfl (by omega) <| zf tF55_1 rfl <| zl tOne35 rfl (hbc.ext hK 1 _ rfl) <| ow_call rfl rfl (l6tFits_ret (bth bs k).needs (by omega) _ L w7 (hnr.ext hK)) ?_
  rintro v8 w8 ⟨hv8, hk8⟩
  have hs8 := hk8.size
  have hJ97 := hJ97.ext hk8
  obtain rfl := hv8
  refine zp rfl <| ow_nil ?_
  exact ⟨by repeat (first | with_reducible exact agree_refl | refine agree_upd rfl ?_ | refine agree_hav rfl ?_), rfl, hJ97⟩
  intro h13
  replace h13 := tst h13
  have hJ97 := Keep.refl [] w7
  refine zs <| zs <| zs <| zs <| zs <| zs <| zp rfl <| ow_nil ?_
  exact ⟨by repeat (first | with_reducible exact agree_refl | refine agree_upd rfl ?_ | refine agree_hav rfl ?_), rfl, hJ97⟩
  intro xx w8 hk8
  have hK := hK.ext hk8
  refine ow_nil <| zc rfl (fun h14 => ?_) (fun h14 => ?_)
  simp only [Bool.and_eq_true, decide_eq_true_eq] at h14
  rw [if_pos h14] at hG
  have hkb := (hfr h14.1).1
  have hfk : findZ bs (nth t.parts 2).atom = (k : Int) := by omega
  rw [← hk] at hkb
  have hbb := progB_block_of hP _ (bth_in hkb)
  obtain ⟨hz1, hz2⟩ := szS_needs hbb
  obtain ⟨_, _, na, nn, nc, _, _, _, e8, hbc, hn1, _, hnr, _⟩ := rbks_get hvp (bth_get hkb)
  cases e8
  subst hn1
  rw [hfk]
  have hfl := fitsS_len 99 (bth bs k).needs
  refine zr <| zm <| zm <| zi tSl25 tI55 rfl rfl (by omega) <| zf tF55_1 rfl <| zl tOne35 rfl (hbc.ext hK 1 _ rfl) <| ow_call rfl rfl (l6tList_ret [99] (bth bs k).needs (by omega) _ L w8 (hnr.ext hK)) ?_
  rintro v9 w9 ⟨hv9, hk9⟩
  have hs9 := hk9.size
  have hK := hK.ext hk9
  obtain rfl := hv9
  refine zA <| ow_nil <| cw_ret ?_
  exact ⟨_, rfl, congrArg str hG.symm, hK⟩
  rw [if_neg (fun hx => by rw [decide_eq_true hx.1, hx.2] at h14; cases h14)] at hG
  refine cw_skip <| zr <| zA <| ow_nil <| cw_ret ?_
  exact ⟨_, rfl, congrArg str hG.symm, hK⟩
  have c5 : headOf t ≠ [108, 97, 98] := fun e => h12 (hh.symm.trans e)
  refine zr <| ow_seql rfl rfl rfl rfl <| zA <| ow_nil <| zc rfl (fun h15 => ?_) (fun h15 => ?_)
  have hq : headOf t = [112, 97, 99, 107] := hh.trans h15
  obtain ⟨g1, g2, g3⟩ := hI.pack hq
  have hf3 := hf.nth (i := 3) hg (by omega)
  have hf4 := hf.nth (i := 4) hg (by omega)
  have hg3 := hg.nth (i := 3) (by omega)
  have hg4 := hg.nth (i := 4) (by omega)
  have hf31 := hf3.nth (i := 1) hg3 (by omega)
  have hg31 := hg3.nth (i := 1) (by omega)
  have hs31 := hf31.size
  have ht31 := hf31.text
  have hs4 := hf4.size
  have ht4 := hf4.text
  have hs3 := hf3.size
  have ht3 := hf3.text
  have hG := giveS_pack (p := bs.map bkI) (o := o) hS hq g1 hf3.text
  obtain ⟨b3, off3, qa3, qn3, qc3, e3, hc3, hqn3, hq3⟩ := rtrees_get hps (nth_get (ps := t.parts) (i := 3) (by omega))
  cases e3
  obtain ⟨b4, off4, qa4, qn4, qc4, e4, hc4, hqn4, hq4⟩ := rtrees_get hps (nth_get (ps := t.parts) (i := 4) (by omega))
  cases e4
  subst hqn3 hqn4
  obtain ⟨b31, off31, qa31, qn31, qc31, rfl, hc31, hqn31, hq31⟩ := rtrees_get hq3 (nth_get (ps := (nth t.parts 3).parts) (i := 1) (by omega))
  subst hqn31
  refine cw_seq ?_
  refine cw_draw tMixed kept_new 16 [113, 114, 115, 116, 117, 118, 119, 120, 121, 122, 123, 124, 125, 126, 127, 128] [113, 114, 115, 116, 117, 118, 119, 120, 121, 122, 123, 124, 125, 126, 127, 128] [[], [0], [1], [2], [2], [2, 4], [2, 5], [2, 6], [2, 7], [2, 8], [2], [2, 10], [2, 11], [2, 9, 12], [2, 3, 13], [2, 14]] [fun v _ => v = (str (regS st (nth t.parts 2).atom)), fun v _ => v = (.bool (decide (regS st (nth t.parts 2).atom ≠ []))), fun v _ => v = (.bool (decide (regS st (nth t.parts 2).atom ≠ []))), fun v _ => (decide (regS st (nth t.parts 2).atom ≠ [])) = true → v = (str (regS st (nth t.parts 2).atom)), fun v _ => (decide (regS st (nth t.parts 2).atom ≠ [])) = true → v = (.slice (some ⟨b0, off0, none⟩) t.parts.length c), fun v _ => (decide (regS st (nth t.parts 2).atom ≠ [])) = true → v = (.pointer (some ⟨b0, off0 + 3 * 2, none⟩)), fun v _ => (decide (regS st (nth t.parts 2).atom ≠ [])) = true → v = (.pointer (some ⟨b0, off0 + 3 * 2 + 1, none⟩)), fun v _ => (decide (regS st (nth t.parts 2).atom ≠ [])) = true → v = (.slice (some ⟨b31, off31, none⟩) (nth t.parts 3).parts.length qc3), fun v _ => (decide (regS st (nth t.parts 2).atom ≠ [])) = true → v = (.pointer (some ⟨b31, off31 + 1 * 2, none⟩)), fun v _ => (decide (regS st (nth t.parts 2).atom ≠ [])) = true → v = (.agg #[str (nth (nth t.parts 3).parts 1).atom, .slice qa31 (nth (nth t.parts 3).parts 1).parts.length qc31]), fun v _ => (decide (regS st (nth t.parts 2).atom ≠ [])) = true → v = (.slice (some ⟨b0, off0, none⟩) t.parts.length c), fun v _ => (decide (regS st (nth t.parts 2).atom ≠ [])) = true → v = (.pointer (some ⟨b0, off0 + 4 * 2, none⟩)), fun v _ => (decide (regS st (nth t.parts 2).atom ≠ [])) = true → v = (.agg #[str (nth t.parts 4).atom, .slice qa4 (nth t.parts 4).parts.length qc4]), fun v _ => (decide (regS st (nth t.parts 2).atom ≠ [])) = true → v = (str (gS (some (putT (nth t.parts 4) (nth (nth t.parts 3).parts 1))))), fun v _ => (decide (regS st (nth t.parts 2).atom ≠ [])) = true → v = (.bool (decide (regS st (nth t.parts 2).atom = gS (some (putT (nth t.parts 4) (nth (nth t.parts 3).parts 1)))))), fun v _ => v = (.bool (decide (regS st (nth t.parts 2).atom ≠ []) && decide (regS st (nth t.parts 2).atom = gS (some (putT (nth t.parts 4) (nth (nth t.parts 3).parts 1))))))] (by decide) (stab_eq (stab_eq (stab_eq (stab_if (stab_if (stab_if (stab_if (stab_if (stab_if (stab_if (stab_if (stab_if (stab_if (stab_if (stab_if (stab_eq trivial)))))))))))))))) (fun wd hkd => ?_) ?_
  refine certs_cons ?_ ?_
  intro x vs w8 e hk8 hd he
  replace hk8 := kept_new.trans hkd hk8
  replace he : e = over (havoc _ x _) [] := he
  subst he
  refine zm <| ow_nil ?_
  exact ⟨kept_new.refl _, rfl, by first | exact agree_put | exact agree_refl⟩
  refine certs_cons ?_ ?_
  intro x vs w8 e hk8 hd he
  have d0 : vs 0 = (str (regS st (nth t.parts 2).atom)) := hd
  replace hk8 := kept_new.trans hkd hk8
  replace he : e = over (havoc _ x _) [(113, vs 0)] := he
  rw [d0] at he
  subst he
  refine ow_sneq rfl rfl rfl rfl <| ow_nil ?_
  exact ⟨kept_new.refl _, rfl, by first | exact agree_put | exact agree_refl⟩
  refine certs_cons ?_ ?_
  intro x vs w8 e hk8 hd he
  have d1 : vs 1 = (.bool (decide (regS st (nth t.parts 2).atom ≠ []))) := hd
  replace hk8 := kept_new.trans hkd hk8
  replace he : e = over (havoc _ x _) [(114, vs 1)] := he
  rw [d1] at he
  subst he
  refine zm <| ow_nil ?_
  exact ⟨kept_new.refl _, rfl, by first | exact agree_put | exact agree_refl⟩
  refine certs_cons ?_ ?_
  intro x vs w8 e hk8 hd he
  have d2 : vs 2 = (.bool (decide (regS st (nth t.parts 2).atom ≠ []))) := hd
  replace hk8 := kept_new.trans hkd hk8
  rcases Bool.eq_false_or_eq_true (decide (regS st (nth t.parts 2).atom ≠ [])) with hg | hg
  rw [hg] at d2
  replace he : e = over (havoc _ x _) [(115, vs 2)] := he
  rw [d2] at he
  subst he
  refine zm <| ow_nil ?_
  exact ⟨kept_new.refl _, (show (decide (regS st (nth t.parts 2).atom ≠ [])) = true → _ = ((str (regS st (nth t.parts 2).atom)) : Value) from fun _ => rfl), by first | exact agree_put | exact agree_refl⟩
  rw [hg] at d2
  replace he : e = over (havoc _ x _) [(115, vs 2)] := he
  rw [d2] at he
  subst he
  refine zs <| ow_nil ?_
  exact ⟨kept_new.refl _, (show (decide (regS st (nth t.parts 2).atom ≠ [])) = true → _ = (_ : Value) from fun hh => nomatch hg.symm.trans hh), by first | exact agree_put | exact agree_refl⟩
  refine certs_cons ?_ ?_
  intro x vs w8 e hk8 hd he
  have d2 : vs 2 = (.bool (decide (regS st (nth t.parts 2).atom ≠ []))) := hd
  replace hk8 := kept_new.trans hkd hk8
  rcases Bool.eq_false_or_eq_true (decide (regS st (nth t.parts 2).atom ≠ [])) with hg | hg
  rw [hg] at d2
  replace he : e = over (havoc _ x _) [(115, vs 2)] := he
  rw [d2] at he
  subst he
  refine zm <| ow_nil ?_
  exact ⟨kept_new.refl _, (show (decide (regS st (nth t.parts 2).atom ≠ [])) = true → _ = ((.slice (some ⟨b0, off0, none⟩) t.parts.length c) : Value) from fun _ => rfl), by first | exact agree_put | exact agree_refl⟩
  rw [hg] at d2
  replace he : e = over (havoc _ x _) [(115, vs 2)] := he
  rw [d2] at he
  subst he
  refine zs <| ow_nil ?_
  exact ⟨kept_new.refl _, (show (decide (regS st (nth t.parts 2).atom ≠ [])) = true → _ = (_ : Value) from fun hh => nomatch hg.symm.trans hh), by first | exact agree_put | exact agree_refl⟩
  refine certs_cons ?_ ?_
  intro x vs w8 e hk8 hd he
  obtain ⟨d2, d4⟩ : (vs 2 = (.bool (decide (regS st (nth t.parts 2).atom ≠ [])))) ∧ ((decide (regS st (nth t.parts 2).atom ≠ [])) = true → vs 4 = (.slice (some ⟨b0, off0, none⟩) t.parts.length c)) := hd
  replace hk8 := kept_new.trans hkd hk8
  rcases Bool.eq_false_or_eq_true (decide (regS st (nth t.parts 2).atom ≠ [])) with hg | hg
  rw [hg] at d2
  replace d4 := d4 hg
  replace he : e = over (havoc _ x _) [(115, vs 2), (117, vs 4)] := he
  rw [d2, d4] at he
  subst he
  refine zi (i := 3) tSl65 tI67 rfl rfl (by omega) <| ow_nil ?_
  exact ⟨kept_new.refl _, (show (decide (regS st (nth t.parts 2).atom ≠ [])) = true → _ = ((.pointer (some ⟨b0, off0 + 3 * 2, none⟩)) : Value) from fun _ => rfl), by first | exact agree_put | exact agree_refl⟩
  rw [hg] at d2
  replace he : e = over (havoc _ x _) [(115, vs 2), (117, vs 4)] := he
  rw [d2] at he
  subst he
  refine zs <| ow_nil ?_
  exact ⟨kept_new.refl _, (show (decide (regS st (nth t.parts 2).atom ≠ [])) = true → _ = (_ : Value) from fun hh => nomatch hg.symm.trans hh), by first | exact agree_put | exact agree_refl⟩
  refine certs_cons ?_ ?_
  intro x vs w8 e hk8 hd he
  obtain ⟨d2, d5⟩ : (vs 2 = (.bool (decide (regS st (nth t.parts 2).atom ≠ [])))) ∧ ((decide (regS st (nth t.parts 2).atom ≠ [])) = true → vs 5 = (.pointer (some ⟨b0, off0 + 3 * 2, none⟩))) := hd
  replace hk8 := kept_new.trans hkd hk8
  rcases Bool.eq_false_or_eq_true (decide (regS st (nth t.parts 2).atom ≠ [])) with hg | hg
  rw [hg] at d2
  replace d5 := d5 hg
  replace he : e = over (havoc _ x _) [(115, vs 2), (118, vs 5)] := he
  rw [d2, d5] at he
  subst he
  refine zf tF67_1 rfl <| ow_nil ?_
  exact ⟨kept_new.refl _, (show (decide (regS st (nth t.parts 2).atom ≠ [])) = true → _ = ((.pointer (some ⟨b0, off0 + 3 * 2 + 1, none⟩)) : Value) from fun _ => rfl), by first | exact agree_put | exact agree_refl⟩
  rw [hg] at d2
  replace he : e = over (havoc _ x _) [(115, vs 2), (118, vs 5)] := he
  rw [d2] at he
  subst he
  refine zs <| ow_nil ?_
  exact ⟨kept_new.refl _, (show (decide (regS st (nth t.parts 2).atom ≠ [])) = true → _ = (_ : Value) from fun hh => nomatch hg.symm.trans hh), by first | exact agree_put | exact agree_refl⟩
  refine certs_cons ?_ ?_
  intro x vs w8 e hk8 hd he
  obtain ⟨d2, d6⟩ : (vs 2 = (.bool (decide (regS st (nth t.parts 2).atom ≠ [])))) ∧ ((decide (regS st (nth t.parts 2).atom ≠ [])) = true → vs 6 = (.pointer (some ⟨b0, off0 + 3 * 2 + 1, none⟩))) := hd
  replace hk8 := kept_new.trans hkd hk8
  have hK := hK.ext hk8
  rcases Bool.eq_false_or_eq_true (decide (regS st (nth t.parts 2).atom ≠ [])) with hg | hg
  rw [hg] at d2
  replace d6 := d6 hg
  replace he : e = over (havoc _ x _) [(115, vs 2), (119, vs 6)] := he
  rw [d2, d6] at he
  subst he
  refine zl tOne65 rfl (hc3.ext hK 1 _ rfl) <| ow_nil ?_
  exact ⟨kept_new.refl _, (show (decide (regS st (nth t.parts 2).atom ≠ [])) = true → _ = ((.slice (some ⟨b31, off31, none⟩) (nth t.parts 3).parts.length qc3) : Value) from fun _ => rfl), by first | exact agree_put | exact agree_refl⟩
  rw [hg] at d2
  replace he : e = over (havoc _ x _) [(115, vs 2), (119, vs 6)] := he
  rw [d2] at he
  subst he
  refine zs <| ow_nil ?_
  exact ⟨kept_new.refl _, (show (decide (regS st (nth t.parts 2).atom ≠ [])) = true → _ = (_ : Value) from fun hh => nomatch hg.symm.trans hh), by first | exact agree_put | exact agree_refl⟩
  refine certs_cons ?_ ?_
  intro x vs w8 e hk8 hd he
  obtain ⟨d2, d7⟩ : (vs 2 = (.bool (decide (regS st (nth t.parts 2).atom ≠ [])))) ∧ ((decide (regS st (nth t.parts 2).atom ≠ [])) = true → vs 7 = (.slice (some ⟨b31, off31, none⟩) (nth t.parts 3).parts.length qc3)) := hd
  replace hk8 := kept_new.trans hkd hk8
  rcases Bool.eq_false_or_eq_true (decide (regS st (nth t.parts 2).atom ≠ [])) with hg | hg
  rw [hg] at d2
  replace d7 := d7 hg
  replace he : e = over (havoc _ x _) [(115, vs 2), (120, vs 7)] := he
  rw [d2, d7] at he
  subst he
  refine zi (i := 1) tSl65 tI67 rfl rfl (by omega) <| ow_nil ?_
  exact ⟨kept_new.refl _, (show (decide (regS st (nth t.parts 2).atom ≠ [])) = true → _ = ((.pointer (some ⟨b31, off31 + 1 * 2, none⟩)) : Value) from fun _ => rfl), by first | exact agree_put | exact agree_refl⟩
  rw [hg] at d2
  replace he : e = over (havoc _ x _) [(115, vs 2), (120, vs 7)] := he
  rw [d2] at he
  subst he
  refine zs <| ow_nil ?_
  exact ⟨kept_new.refl _, (show (decide (regS st (nth t.parts 2).atom ≠ [])) = true → _ = (_ : Value) from fun hh => nomatch hg.symm.trans hh), by first | exact agree_put | exact agree_refl⟩
  refine certs_cons ?_ ?_
  intro x vs w8 e hk8 hd he
  obtain ⟨d2, d8⟩ : (vs 2 = (.bool (decide (regS st (nth t.parts 2).atom ≠ [])))) ∧ ((decide (regS st (nth t.parts 2).atom ≠ [])) = true → vs 8 = (.pointer (some ⟨b31, off31 + 1 * 2, none⟩))) := hd
  replace hk8 := kept_new.trans hkd hk8
  have hK := hK.ext hk8
  rcases Bool.eq_false_or_eq_true (decide (regS st (nth t.parts 2).atom ≠ [])) with hg | hg
  rw [hg] at d2
  replace d8 := d8 hg
  replace he : e = over (havoc _ x _) [(115, vs 2), (121, vs 8)] := he
  rw [d2, d8] at he
  subst he
  refine zL tAgg67 tI67 rfl (hc31.ext hK) (rfl) <| ow_nil ?_
  exact ⟨kept_new.refl _, (show (decide (regS st (nth t.parts 2).atom ≠ [])) = true → _ = ((.agg #[str (nth (nth t.parts 3).parts 1).atom, .slice qa31 (nth (nth t.parts 3).parts 1).parts.length qc31]) : Value) from fun _ => rfl), by first | exact agree_put | exact agree_refl⟩
  rw [hg] at d2
  replace he : e = over (havoc _ x _) [(115, vs 2), (121, vs 8)] := he
  rw [d2] at he
  subst he
  refine zs <| ow_nil ?_
  exact ⟨kept_new.refl _, (show (decide (regS st (nth t.parts 2).atom ≠ [])) = true → _ = (_ : Value) from fun hh => nomatch hg.symm.trans hh), by first | exact agree_put | exact agree_refl⟩
  refine certs_cons ?_ ?_
  intro x vs w8 e hk8 hd he
  have d2 : vs 2 = (.bool (decide (regS st (nth t.parts 2).atom ≠ []))) := hd
  replace hk8 := kept_new.trans hkd hk8
  rcases Bool.eq_false_or_eq_true (decide (regS st (nth t.parts 2).atom ≠ [])) with hg | hg
  rw [hg] at d2
  replace he : e = over (havoc _ x _) [(115, vs 2)] := he
  rw [d2] at he
  subst he
  refine zm <| ow_nil ?_
  exact ⟨kept_new.refl _, (show (decide (regS st (nth t.parts 2).atom ≠ [])) = true → _ = ((.slice (some ⟨b0, off0, none⟩) t.parts.length c) : Value) from fun _ => rfl), by first | exact agree_put | exact agree_refl⟩
  rw [hg] at d2
  replace he : e = over (havoc _ x _) [(115, vs 2)] := he
  rw [d2] at he
  subst he
  refine zs <| ow_nil ?_
  exact ⟨kept_new.refl _, (show (decide (regS st (nth t.parts 2).atom ≠ [])) = true → _ = (_ : Value) from fun hh => nomatch hg.symm.trans hh), by first | exact agree_put | exact agree_refl⟩
  refine certs_cons ?_ ?_
  intro x vs w8 e hk8 hd he
  obtain ⟨d2, d10⟩ : (vs 2 = (.bool (decide (regS st (nth t.parts 2).atom ≠ [])))) ∧ ((decide (regS st (nth t.parts 2).atom ≠ [])) = true → vs 10 = (.slice (some ⟨b0, off0, none⟩) t.parts.length c)) := hd
  replace hk8 := kept_new.trans hkd hk8
  rcases Bool.eq_false_or_eq_true (decide (regS st (nth t.parts 2).atom ≠ [])) with hg | hg
  rw [hg] at d2
  replace d10 := d10 hg
  replace he : e = over (havoc _ x _) [(115, vs 2), (123, vs 10)] := he
  rw [d2, d10] at he
  subst he
  refine zi (i := 4) tSl65 tI67 rfl rfl (by omega) <| ow_nil ?_
  exact ⟨kept_new.refl _, (show (decide (regS st (nth t.parts 2).atom ≠ [])) = true → _ = ((.pointer (some ⟨b0, off0 + 4 * 2, none⟩)) : Value) from fun _ => rfl), by first | exact agree_put | exact agree_refl⟩
  rw [hg] at d2
  replace he : e = over (havoc _ x _) [(115, vs 2), (123, vs 10)] := he
  rw [d2] at he
  subst he
  refine zs <| ow_nil ?_
  exact ⟨kept_new.refl _, (show (decide (regS st (nth t.parts 2).atom ≠ [])) = true → _ = (_ : Value) from fun hh => nomatch hg.symm.trans hh), by first | exact agree_put | exact agree_refl⟩
  refine certs_cons ?_ ?_
  intro x vs w8 e hk8 hd he
  obtain ⟨d2, d11⟩ : (vs 2 = (.bool (decide (regS st (nth t.parts 2).atom ≠ [])))) ∧ ((decide (regS st (nth t.parts 2).atom ≠ [])) = true → vs 11 = (.pointer (some ⟨b0, off0 + 4 * 2, none⟩))) := hd
  replace hk8 := kept_new.trans hkd hk8
  have hK := hK.ext hk8
  rcases Bool.eq_false_or_eq_true (decide (regS st (nth t.parts 2).atom ≠ [])) with hg | hg
  rw [hg] at d2
  replace d11 := d11 hg
  replace he : e = over (havoc _ x _) [(115, vs 2), (124, vs 11)] := he
  rw [d2, d11] at he
  subst he
  refine zL tAgg67 tI67 rfl (hc4.ext hK) (rfl) <| ow_nil ?_
  exact ⟨kept_new.refl _, (show (decide (regS st (nth t.parts 2).atom ≠ [])) = true → _ = ((.agg #[str (nth t.parts 4).atom, .slice qa4 (nth t.parts 4).parts.length qc4]) : Value) from fun _ => rfl), by first | exact agree_put | exact agree_refl⟩
  rw [hg] at d2
  replace he : e = over (havoc _ x _) [(115, vs 2), (124, vs 11)] := he
  rw [d2] at he
  subst he
  refine zs <| ow_nil ?_
  exact ⟨kept_new.refl _, (show (decide (regS st (nth t.parts 2).atom ≠ [])) = true → _ = (_ : Value) from fun hh => nomatch hg.symm.trans hh), by first | exact agree_put | exact agree_refl⟩
  refine certs_cons ?_ ?_
  intro x vs w8 e hk8 hd he
  obtain ⟨d2, d9, d12⟩ : (vs 2 = (.bool (decide (regS st (nth t.parts 2).atom ≠ [])))) ∧ ((decide (regS st (nth t.parts 2).atom ≠ [])) = true → vs 9 = (.agg #[str (nth (nth t.parts 3).parts 1).atom, .slice qa31 (nth (nth t.parts 3).parts 1).parts.length qc31])) ∧ ((decide (regS st (nth t.parts 2).atom ≠ [])) = true → vs 12 = (.agg #[str (nth t.parts 4).atom, .slice qa4 (nth t.parts 4).parts.length qc4])) := hd
  replace hk8 := kept_new.trans hkd hk8
  have hK := hK.ext hk8
  rcases Bool.eq_false_or_eq_true (decide (regS st (nth t.parts 2).atom ≠ [])) with hg | hg
  rw [hg] at d2
  replace d9 := d9 hg
  replace d12 := d12 hg
  replace he : e = over (havoc _ x _) [(115, vs 2), (122, vs 9), (125, vs 12)] := he
  rw [d2, d9, d12] at he
  subst he
  refine ow_call rfl rfl (l6tPutText_ret (nth (nth t.parts 3).parts 1) (nth t.parts 4) hg31 hg4 (by omega) ht4 (by omega) ht31 _ _ L w8 ((rtree_of hq31).ext hK) ((rtree_of hq4).ext hK) (fun x hx => by have := hK.size; have := hL x hx; omega)) ?_
  rintro v9 w9 ⟨hv9, hk9⟩
  have hs9 := hk9.size
  obtain rfl := hv9
  refine ow_nil ?_
  exact ⟨kept_new.of hk9, (show (decide (regS st (nth t.parts 2).atom ≠ [])) = true → _ = ((str (gS (some (putT (nth t.parts 4) (nth (nth t.parts 3).parts 1))))) : Value) from fun _ => rfl), by first | exact agree_put | exact agree_refl⟩
  rw [hg] at d2
  replace he : e = over (havoc _ x _) [(115, vs 2), (122, vs 9), (125, vs 12)] := he
  rw [d2] at he
  subst he
  refine zs <| ow_nil ?_
  exact ⟨kept_new.refl _, (show (decide (regS st (nth t.parts 2).atom ≠ [])) = true → _ = (_ : Value) from fun hh => nomatch hg.symm.trans hh), by first | exact agree_put | exact agree_refl⟩
  refine certs_cons ?_ ?_
  intro x vs w8 e hk8 hd he
  obtain ⟨d2, d3, d13⟩ : (vs 2 = (.bool (decide (regS st (nth t.parts 2).atom ≠ [])))) ∧ ((decide (regS st (nth t.parts 2).atom ≠ [])) = true → vs 3 = (str (regS st (nth t.parts 2).atom))) ∧ ((decide (regS st (nth t.parts 2).atom ≠ [])) = true → vs 13 = (str (gS (some (putT (nth t.parts 4) (nth (nth t.parts 3).parts 1)))))) := hd
  replace hk8 := kept_new.trans hkd hk8
  rcases Bool.eq_false_or_eq_true (decide (regS st (nth t.parts 2).atom ≠ [])) with hg | hg
  rw [hg] at d2
  replace d3 := d3 hg
  replace d13 := d13 hg
  replace he : e = over (havoc _ x _) [(115, vs 2), (116, vs 3), (126, vs 13)] := he
  rw [d2, d3, d13] at he
  subst he
  refine ow_seql rfl rfl rfl rfl <| ow_nil ?_
  exact ⟨kept_new.refl _, (show (decide (regS st (nth t.parts 2).atom ≠ [])) = true → _ = ((.bool (decide (regS st (nth t.parts 2).atom = gS (some (putT (nth t.parts 4) (nth (nth t.parts 3).parts 1)))))) : Value) from fun _ => rfl), by first | exact agree_put | exact agree_refl⟩
  rw [hg] at d2
  replace he : e = over (havoc _ x _) [(115, vs 2), (116, vs 3), (126, vs 13)] := he
  rw [d2] at he
  subst he
  refine zs <| ow_nil ?_
  exact ⟨kept_new.refl _, (show (decide (regS st (nth t.parts 2).atom ≠ [])) = true → _ = (_ : Value) from fun hh => nomatch hg.symm.trans hh), by first | exact agree_put | exact agree_refl⟩
  refine certs_cons ?_ ?_
  intro x vs w8 e hk8 hd he
  obtain ⟨d2, d14⟩ : (vs 2 = (.bool (decide (regS st (nth t.parts 2).atom ≠ [])))) ∧ ((decide (regS st (nth t.parts 2).atom ≠ [])) = true → vs 14 = (.bool (decide (regS st (nth t.parts 2).atom = gS (some (putT (nth t.parts 4) (nth (nth t.parts 3).parts 1))))))) := hd
  replace hk8 := kept_new.trans hkd hk8
  rcases Bool.eq_false_or_eq_true (decide (regS st (nth t.parts 2).atom ≠ [])) with hg | hg
  rw [hg] at d2
  replace d14 := d14 hg
  replace he : e = over (havoc _ x _) [(115, vs 2), (127, vs 14)] := he
  rw [d2, d14] at he
  subst he
  refine zp rfl <| ow_nil ?_
  exact ⟨kept_new.refl _, by first | rfl | (rw [hg]; rfl), by first | exact agree_put | exact agree_refl⟩
  rw [hg] at d2
  replace he : e = over (havoc _ x _) [(115, vs 2), (127, vs 14)] := he
  rw [d2] at he
  subst he
  refine zp rfl <| ow_nil ?_
  exact ⟨kept_new.refl _, by first | rfl | (rw [hg]; rfl), by first | exact agree_put | exact agree_refl⟩
  exact trivial
  intro x vs w47 hk47 hdraw
  have d0 : vs 0 = (str (regS st (nth t.parts 2).atom)) := hdraw 0 (by decide)
  have d1 : vs 1 = (.bool (decide (regS st (nth t.parts 2).atom ≠ []))) := hdraw 1 (by decide)
  have d2 : vs 2 = (.bool (decide (regS st (nth t.parts 2).atom ≠ []))) := hdraw 2 (by decide)
  have d3 : (decide (regS st (nth t.parts 2).atom ≠ [])) = true → vs 3 = (str (regS st (nth t.parts 2).atom)) := hdraw 3 (by decide)
  have d4 : (decide (regS st (nth t.parts 2).atom ≠ [])) = true → vs 4 = (.slice (some ⟨b0, off0, none⟩) t.parts.length c) := hdraw 4 (by decide)
  have d5 : (decide (regS st (nth t.parts 2).atom ≠ [])) = true → vs 5 = (.pointer (some ⟨b0, off0 + 3 * 2, none⟩)) := hdraw 5 (by decide)
  have d6 : (decide (regS st (nth t.parts 2).atom ≠ [])) = true → vs 6 = (.pointer (some ⟨b0, off0 + 3 * 2 + 1, none⟩)) := hdraw 6 (by decide)
  have d7 : (decide (regS st (nth t.parts 2).atom ≠ [])) = true → vs 7 = (.slice (some ⟨b31, off31, none⟩) (nth t.parts 3).parts.length qc3) := hdraw 7 (by decide)
  have d8 : (decide (regS st (nth t.parts 2).atom ≠ [])) = true → vs 8 = (.pointer (some ⟨b31, off31 + 1 * 2, none⟩)) := hdraw 8 (by decide)
  have d9 : (decide (regS st (nth t.parts 2).atom ≠ [])) = true → vs 9 = (.agg #[str (nth (nth t.parts 3).parts 1).atom, .slice qa31 (nth (nth t.parts 3).parts 1).parts.length qc31]) := hdraw 9 (by decide)
  have d10 : (decide (regS st (nth t.parts 2).atom ≠ [])) = true → vs 10 = (.slice (some ⟨b0, off0, none⟩) t.parts.length c) := hdraw 10 (by decide)
  have d11 : (decide (regS st (nth t.parts 2).atom ≠ [])) = true → vs 11 = (.pointer (some ⟨b0, off0 + 4 * 2, none⟩)) := hdraw 11 (by decide)
  have d12 : (decide (regS st (nth t.parts 2).atom ≠ [])) = true → vs 12 = (.agg #[str (nth t.parts 4).atom, .slice qa4 (nth t.parts 4).parts.length qc4]) := hdraw 12 (by decide)
  have d13 : (decide (regS st (nth t.parts 2).atom ≠ [])) = true → vs 13 = (str (gS (some (putT (nth t.parts 4) (nth (nth t.parts 3).parts 1))))) := hdraw 13 (by decide)
  have d14 : (decide (regS st (nth t.parts 2).atom ≠ [])) = true → vs 14 = (.bool (decide (regS st (nth t.parts 2).atom = gS (some (putT (nth t.parts 4) (nth (nth t.parts 3).parts 1)))))) := hdraw 14 (by decide)
  have d15 : vs 15 = (.bool (decide (regS st (nth t.parts 2).atom ≠ []) && decide (regS st (nth t.parts 2).atom = gS (some (putT (nth t.parts 4) (nth (nth t.parts 3).parts 1)))))) := hdraw 15 (by decide)
  have hK := hK.ext hk47
  change OW _ _ _ _ [] (over (havoc _ x _) [(113, vs 0), (114, vs 1), (115, vs 2), (116, vs 3), (117, vs 4), (118, vs 5), (119, vs 6), (120, vs 7), (121, vs 8), (122, vs 9), (123, vs 10), (124, vs 11), (125, vs 12), (126, vs 13), (127, vs 14), (128, vs 15)]) _
  rw [d0, d1, d2, d15]
  refine ow_nil <| zc rfl (fun h16 => ?_) (fun h16 => ?_)
  rw [if_pos h16] at hG
  refine zr <| zm <| zi (i := 3) tSl65 tI67 rfl rfl (by omega) <| zL tAgg67 tI67 rfl (hc3.ext hK) (rfl) <| ow_call rfl rfl (l1Text_ret (nth t.parts 3).size _ (Nat.le_refl _) hg3.wf (by omega) (by omega) _ L w47 ((rtree_of hq3).ext hK)) ?_
  rintro v48 w48 ⟨hv48, hk48⟩
  have hs48 := hk48.size
  have hK := hK.ext hk48
  obtain rfl := hv48
  refine zA <| ow_nil <| cw_ret ?_
  exact ⟨_, rfl, congrArg str hG.symm, hK⟩
  rw [if_neg (fun hx => by rw [hx] at h16; cases h16)] at hG
  refine cw_skip <| zr <| zA <| ow_nil <| cw_ret ?_
  exact ⟨_, rfl, congrArg str hG.symm, hK⟩
  have c6 : headOf t ≠ [112, 97, 99, 107] := fun e => h15 (hh.symm.trans e)
  refine zr <| ow_seql rfl rfl rfl rfl <| zA <| ow_nil <| zc rfl (fun h17 => ?_) (fun h17 => ?_)
  have hq : headOf t = [111, 112, 101, 110] := hh.trans h17
  obtain ⟨hG1, hG2⟩ := giveS_open (p := bs.map bkI) (o := o) hS hq (hI.opn hq) hkk
  refine zr <| zL tAgg67 tI67 rfl hb12.all rfl <| ow_call rfl rfl (l4Head_ret kt _ _ w7 hkt) ?_
  rintro v8 w8 ⟨hv8, hk8⟩
  have hs8 := hk8.size
  have hK := hK.ext hk8; have hkp := hkp.ext hk8; have hb12 := hb12.ext hk8
  obtain rfl := hv8
  refine ow_seql rfl rfl rfl rfl <| ow_nil <| zc rfl (fun h18 => ?_) (fun h18 => ?_)
  obtain ⟨hkok, hG⟩ := hG1 h18
  have hk2 := hkok.eok.two h18
  obtain ⟨kb, koff, ea, en, ec, rfl, hce, hen, hep⟩ := rtrees_get hkp (nth_get (ps := kt.parts) (i := 1) (by omega))
  subst hen
  have hnok := hkok.nth (i := 1) (by omega)
  have hnz := hnok.size
  have hnt := hnok.short
  have hun := unknown_size ho
  have hul := decB_lt ho
  have hun2 : (atomT (97 :: decB o)).text.length ≤ 5 := (by rw [hun.2]; exact hul)
  simp only [List.length_cons] at hul
  refine cw_seq ?_
  refine cw_draw tMixed kept_new 9 [138, 139, 140, 141, 142, 143, 144, 145, 146] [138, 139, 140, 141, 142, 143, 144, 145, 146] [[], [0], [1], [2], [], [4], [5], [6], [3, 7]] [fun v _ => v = (.pointer (some ⟨w4.heap.size, 0 + 1, none⟩)), fun v _ => v = (.slice (some ⟨kb, koff, none⟩) kt.parts.length kc), fun v _ => v = (.pointer (some ⟨kb, koff + 1 * 2, none⟩)), fun v _ => v = (.agg #[str (nth kt.parts 1).atom, .slice ea (nth kt.parts 1).parts.length ec]), fun v _ => v = (.int .i64 (o : Int)), fun v _ => v = (str (decB o)), fun v _ => v = (str ([97] ++ decB o)), fun v _ => v = (.agg #[str (97 :: decB o), .slice none 0 0]), fun v _ => v = (str (gS (some (putT (atomT (97 :: decB o)) (nth kt.parts 1)))))] (by decide) (stab_eq (stab_eq (stab_eq (stab_eq (stab_eq (stab_eq (stab_eq (stab_eq (stab_eq trivial))))))))) (fun wd hkd => ?_) ?_
  refine certs_cons ?_ ?_
  intro x vs w9 e hk9 hd he
  replace hk9 := kept_new.trans hkd hk9
  replace he : e = over (havoc _ x _) [] := he
  subst he
  refine zf tF67_1 rfl <| ow_nil ?_
  exact ⟨kept_new.refl _, rfl, by first | exact agree_put | exact agree_refl⟩
  refine certs_cons ?_ ?_
  intro x vs w9 e hk9 hd he
  have d0 : vs 0 = (.pointer (some ⟨w4.heap.size, 0 + 1, none⟩)) := hd
  replace hk9 := kept_new.trans hkd hk9
  have hb12 := hb12.ext hk9
  replace he : e = over (havoc _ x _) [(138, vs 0)] := he
  rw [d0] at he
  subst he
  refine zl tOne65 rfl (hb12.at rfl) <| ow_nil ?_
  exact ⟨kept_new.refl _, rfl, by first | exact agree_put | exact agree_refl⟩
  refine certs_cons ?_ ?_
  intro x vs w9 e hk9 hd he
  have d1 : vs 1 = (.slice (some ⟨kb, koff, none⟩) kt.parts.length kc) := hd
  replace hk9 := kept_new.trans hkd hk9
  replace he : e = over (havoc _ x _) [(139, vs 1)] := he
  rw [d1] at he
  subst he
  refine zi (i := 1) tSl65 tI67 rfl rfl (by omega) <| ow_nil ?_
  exact ⟨kept_new.refl _, rfl, by first | exact agree_put | exact agree_refl⟩
  refine certs_cons ?_ ?_
  intro x vs w9 e hk9 hd he
  have d2 : vs 2 = (.pointer (some ⟨kb, koff + 1 * 2, none⟩)) := hd
  replace hk9 := kept_new.trans hkd hk9
  have hce := hce.ext hk9
  replace he : e = over (havoc _ x _) [(140, vs 2)] := he
  rw [d2] at he
  subst he
  refine zL tAgg67 tI67 rfl (hce) (rfl) <| ow_nil ?_
  exact ⟨kept_new.refl _, rfl, by first | exact agree_put | exact agree_refl⟩
  refine certs_cons ?_ ?_
  intro x vs w9 e hk9 hd he
  replace hk9 := kept_new.trans hkd hk9
  replace he : e = over (havoc _ x _) [] := he
  subst he
  refine zm <| ow_nil ?_
  exact ⟨kept_new.refl _, rfl, by first | exact agree_put | exact agree_refl⟩
  refine certs_cons ?_ ?_
  intro x vs w9 e hk9 hd he
  have d4 : vs 4 = (.int .i64 (o : Int)) := hd
  replace hk9 := kept_new.trans hkd hk9
  replace he : e = over (havoc _ x _) [(142, vs 4)] := he
  rw [d4] at he
  subst he
  refine ow_call rfl rfl (l6Dec_ret (o + 1) o (by omega) ho w9) ?_
  rintro v10 w10 ⟨hv10, hk10⟩
  have hs10 := hk10.size
  obtain rfl := hv10
  refine ow_nil ?_
  exact ⟨kept_new.of hk10, rfl, by first | exact agree_put | exact agree_refl⟩
  refine certs_cons ?_ ?_
  intro x vs w9 e hk9 hd he
  have d5 : vs 5 = (str (decB o)) := hd
  replace hk9 := kept_new.trans hkd hk9
  replace he : e = over (havoc _ x _) [(143, vs 5)] := he
  rw [d5] at he
  subst he
  refine ow_sadd rfl rfl rfl rfl (by simp; omega) <| ow_nil ?_
  exact ⟨kept_new.refl _, rfl, by first | exact agree_put | exact agree_refl⟩
  refine certs_cons ?_ ?_
  intro x vs w9 e hk9 hd he
  have d6 : vs 6 = (str ([97] ++ decB o)) := hd
  replace hk9 := kept_new.trans hkd hk9
  replace he : e = over (havoc _ x _) [(144, vs 6)] := he
  rw [d6] at he
  subst he
  refine ow_call rfl rfl (l1Atom_ret (97 :: decB o) w9) ?_
  rintro v10 w10 ⟨hv10, hk10⟩
  have hs10 := hk10.size
  obtain rfl := hv10
  refine ow_nil ?_
  exact ⟨kept_new.of hk10, rfl, by first | exact agree_put | exact agree_refl⟩
  refine certs_cons ?_ ?_
  intro x vs w9 e hk9 hd he
  obtain ⟨d3, d7⟩ : (vs 3 = (.agg #[str (nth kt.parts 1).atom, .slice ea (nth kt.parts 1).parts.length ec])) ∧ (vs 7 = (.agg #[str (97 :: decB o), .slice none 0 0])) := hd
  replace hk9 := kept_new.trans hkd hk9
  have hK := hK.ext hk9; have hep := hep.ext hk9
  replace he : e = over (havoc _ x _) [(141, vs 3), (145, vs 7)] := he
  rw [d3, d7] at he
  subst he
  refine ow_call rfl rfl (l6tPutText_ret (nth kt.parts 1) (atomT (97 :: decB o)) hnok.good (unknown_good o) (by omega) (by omega) (by omega) hnt _ _ L w9 (RTree.weak (rtree_of hep) (fun x hx => by simp [hx])) (rtree_mk (L := L) (a := 97 :: decB o) (ps := []) rtrees_nil) (fun x hx => by have := hK.size; have := hL x hx; omega)) ?_
  rintro v10 w10 ⟨hv10, hk10⟩
  have hs10 := hk10.size
  obtain rfl := hv10
  refine ow_nil ?_
  exact ⟨kept_new.of hk10, rfl, by first | exact agree_put | exact agree_refl⟩
  exact trivial
  intro x vs w48 hk48 hdraw
  have d0 : vs 0 = (.pointer (some ⟨w4.heap.size, 0 + 1, none⟩)) := hdraw 0 (by decide)
  have d1 : vs 1 = (.slice (some ⟨kb, koff, none⟩) kt.parts.length kc) := hdraw 1 (by decide)
  have d2 : vs 2 = (.pointer (some ⟨kb, koff + 1 * 2, none⟩)) := hdraw 2 (by decide)
  have d3 : vs 3 = (.agg #[str (nth kt.parts 1).atom, .slice ea (nth kt.parts 1).parts.length ec]) := hdraw 3 (by decide)
  have d4 : vs 4 = (.int .i64 (o : Int)) := hdraw 4 (by decide)
  have d5 : vs 5 = (str (decB o)) := hdraw 5 (by decide)
  have d6 : vs 6 = (str ([97] ++ decB o)) := hdraw 6 (by decide)
  have d7 : vs 7 = (.agg #[str (97 :: decB o), .slice none 0 0]) := hdraw 7 (by decide)
  have d8 : vs 8 = (str (gS (some (putT (atomT (97 :: decB o)) (nth kt.parts 1))))) := hdraw 8 (by decide)
  have hK := hK.ext hk48
  change OW _ _ _ _ _ (over (havoc _ x _) [(138, vs 0), (139, vs 1), (140, vs 2), (141, vs 3), (142, vs 4), (143, vs 5), (144, vs 6), (145, vs 7), (146, vs 8)]) _
  rw [d0, d1, d2, d3, d4, d5, d6, d7, d8]
  refine zA <| ow_nil <| cw_ret ?_
  exact ⟨_, rfl, congrArg str hG.symm, hK⟩
  have hG := hG2 h18
  refine cw_skip <| zr <| zA <| ow_nil <| cw_ret ?_
  exact ⟨_, rfl, congrArg str hG.symm, hK⟩
  have c7 : headOf t ≠ [111, 112, 101, 110] := fun e => h17 (hh.symm.trans e)
  have hG := giveS_other (p := bs.map bkI) (st := st) (o := o) c1 c2 c3 c4 c5 c6 c7
  refine cw_skip <| zr <| zA <| ow_nil <| cw_ret ?_
  exact ⟨_, rfl, congrArg str hG.symm, hK⟩
end Go.Proofs.YtnkjgoholocliaaGreatDoor
