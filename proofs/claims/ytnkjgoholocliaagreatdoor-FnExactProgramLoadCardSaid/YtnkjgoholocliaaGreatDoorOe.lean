/-
  Lemmas for the law of ProgramLoad, no statement of their own: walks of the reference's reader.
-/
import Derived.Test.YtnkjgoholocliaaGreatDoorOy
import Derived.Test.YtnkjgoholocliaaGreatDoorOb
namespace Go.Proofs.YtnkjgoholocliaaGreatDoor
open Go

theorem l6In_ret (a b c : Int) (w : World) : Ret Tryz.prog 98 [.int .i64 a, .int .i64 b, .int .i64 c] w fun v w' => v = .bool (decide (b ≤ a) && decide (a ≤ c)) ∧ w = w' := by
  refine ret_of [.tmp 6] 15 Tryz.func98 rfl nm98 rfl rfl ?_
  refine zr <| zA <| ow_nil <| zr <| zm <| zm <| ow_geq rfl rfl rfl rfl rfl <| zm ?_
  apply ow_and 4 10 14 [10, 11, 12, 13, 14] (fun w' => w = w') rfl
  intro h1
  replace h1 := tst h1
  refine zm <| zm <| ow_leq rfl rfl rfl rfl rfl <| zp rfl <| ow_nil ?_
  exact ⟨by repeat (first | with_reducible exact agree_refl | refine agree_upd rfl ?_ | refine agree_hav rfl ?_), rfl, rfl⟩
  intro h1
  replace h1 := tst h1
  refine zs <| zs <| zs <| zp rfl <| ow_nil ?_
  exact ⟨by repeat (first | with_reducible exact agree_refl | refine agree_upd rfl ?_ | refine agree_hav rfl ?_), rfl, rfl⟩
  rintro xx _ rfl
  refine zA <| ow_nil <| cw_ret ?_
  exact ⟨_, rfl, rfl, rfl⟩

theorem l1Byte_ret (c : UInt8) (w : World) : Ret Tryz.prog 138 [.int .u8 c.toNat] w fun v w' => v = .bool (atomByte c) ∧ w = w' := by
  refine ret_of [.tmp 2] 33 Tryz.func138 rfl nm138 rfl rfl ?_
  refine zr <| zA <| ow_nil <| zr <| zm <| ow_geq rfl rfl rfl rfl rfl <| zm ?_
  apply ow_and 3 5 8 [5, 6, 7, 8] (fun w' => w = w') rfl
  intro h1
  replace h1 := tst h1
  refine zm <| ow_leq rfl rfl rfl rfl rfl <| zp rfl <| ow_nil ?_
  exact ⟨by repeat (first | with_reducible exact agree_refl | refine agree_upd rfl ?_ | refine agree_hav rfl ?_), rfl, rfl⟩
  intro h1
  replace h1 := tst h1
  refine zs <| zs <| zp rfl <| ow_nil ?_
  exact ⟨by repeat (first | with_reducible exact agree_refl | refine agree_upd rfl ?_ | refine agree_hav rfl ?_), rfl, rfl⟩
  rintro xx _ rfl
  refine zm ?_
  apply ow_or 7 9 16 [9, 10, 11, 12, 13, 14, 15, 16] (fun w' => w = w') rfl
  intro h2
  replace h2 := tst h2
  refine zs <| zs <| zs <| zs <| zs <| zs <| zp rfl <| ow_nil ?_
  exact ⟨by repeat (first | with_reducible exact agree_refl | refine agree_upd rfl ?_ | refine agree_hav rfl ?_), rfl, rfl⟩
  intro h2
  replace h2 := tst h2
  refine zm <| ow_geq rfl rfl rfl rfl rfl <| zm ?_
  apply ow_and 3 12 15 [12, 13, 14, 15] (fun w' => w = w') rfl
  intro h3
  replace h3 := tst h3
  refine zm <| ow_leq rfl rfl rfl rfl rfl <| zp rfl <| ow_nil ?_
  exact ⟨by repeat (first | with_reducible exact agree_refl | refine agree_upd rfl ?_ | refine agree_hav rfl ?_), rfl, rfl⟩
  intro h3
  replace h3 := tst h3
  refine zs <| zs <| zp rfl <| ow_nil ?_
  exact ⟨by repeat (first | with_reducible exact agree_refl | refine agree_upd rfl ?_ | refine agree_hav rfl ?_), rfl, rfl⟩
  rintro xx _ rfl
  refine zp rfl <| ow_nil ?_
  exact ⟨by repeat (first | with_reducible exact agree_refl | refine agree_upd rfl ?_ | refine agree_hav rfl ?_), rfl, rfl⟩
  rintro xx _ rfl
  refine zm ?_
  apply ow_or 3 17 20 [17, 18, 19, 20] (fun w' => w = w') rfl
  intro h4
  replace h4 := tst h4
  refine zs <| zs <| zp rfl <| ow_nil ?_
  exact ⟨by repeat (first | with_reducible exact agree_refl | refine agree_upd rfl ?_ | refine agree_hav rfl ?_), rfl, rfl⟩
  intro h4
  replace h4 := tst h4
  refine zm <| ow_eql rfl rfl rfl rfl rfl <| zp rfl <| ow_nil ?_
  exact ⟨by repeat (first | with_reducible exact agree_refl | refine agree_upd rfl ?_ | refine agree_hav rfl ?_), rfl, rfl⟩
  rintro xx _ rfl
  refine zm ?_
  apply ow_or 3 21 24 [21, 22, 23, 24] (fun w' => w = w') rfl
  intro h5
  replace h5 := tst h5
  refine zs <| zs <| zp rfl <| ow_nil ?_
  exact ⟨by repeat (first | with_reducible exact agree_refl | refine agree_upd rfl ?_ | refine agree_hav rfl ?_), rfl, rfl⟩
  intro h5
  replace h5 := tst h5
  refine zm <| ow_eql rfl rfl rfl rfl rfl <| zp rfl <| ow_nil ?_
  exact ⟨by repeat (first | with_reducible exact agree_refl | refine agree_upd rfl ?_ | refine agree_hav rfl ?_), rfl, rfl⟩
  rintro xx _ rfl
  refine zm ?_
  apply ow_or 3 25 28 [25, 26, 27, 28] (fun w' => w = w') rfl
  intro h6
  replace h6 := tst h6
  refine zs <| zs <| zp rfl <| ow_nil ?_
  exact ⟨by repeat (first | with_reducible exact agree_refl | refine agree_upd rfl ?_ | refine agree_hav rfl ?_), rfl, rfl⟩
  intro h6
  replace h6 := tst h6
  refine zm <| ow_eql rfl rfl rfl rfl rfl <| zp rfl <| ow_nil ?_
  exact ⟨by repeat (first | with_reducible exact agree_refl | refine agree_upd rfl ?_ | refine agree_hav rfl ?_), rfl, rfl⟩
  rintro xx _ rfl
  refine zm ?_
  apply ow_or 3 29 32 [29, 30, 31, 32] (fun w' => w = w') rfl
  intro h7
  replace h7 := tst h7
  refine zs <| zs <| zp rfl <| ow_nil ?_
  exact ⟨by repeat (first | with_reducible exact agree_refl | refine agree_upd rfl ?_ | refine agree_hav rfl ?_), rfl, rfl⟩
  intro h7
  replace h7 := tst h7
  refine zm <| ow_eql rfl rfl rfl rfl rfl <| zp rfl <| ow_nil ?_
  exact ⟨by repeat (first | with_reducible exact agree_refl | refine agree_upd rfl ?_ | refine agree_hav rfl ?_), rfl, rfl⟩
  rintro xx _ rfl
  refine zA <| ow_nil <| cw_ret ?_
  exact ⟨_, rfl, congrArg Value.bool (atomByte_z c), rfl⟩

/-- What 'l1Read' hands back. -/
def ReadPost (L : List Nat) (s : Bytes) (d i : Nat) (v : Value) (w : World) : Prop :=
  ∃ t tv en, v = .tuple #[tv, .int .i64 en] ∧ RTree L w tv t ∧ ReadEnd s.length (rT d (s.drop i)) t en

theorem l1Read_ret (s : Bytes) (hs : s.length ≤ 12000) : ∀ (d i : Nat) (L : List Nat) (w : World), d ≤ 61 → i ≤ s.length → (∀ x, x ∈ L → x < w.heap.size) →
    Ret Tryz.prog 102 [str s, .int .i64 (i : Int), .int .i64 ((61 : Int) - (d : Int))] w fun v w' => ReadPost L s d i v w' ∧ Keep [] w w' := by
  intro d
  induction d with
  | zero =>
    intro i L w hd hi hL
    have hK := Keep.refl [] w
    refine ret_gen [.cell 6 67, .tmp 7] 87 Tryz.func102 rfl nm102 rfl rfl rfl ?_
    refine zr <| ow_allocA tI67 rfl rfl rfl ?_
    intro w1 hk1 hb6 hz1
    have hK := hK.grow; have hK := hK.ext hk1
    refine zA <| ow_nil <| zr <| ow_build (tB67_ _) rfl rfl <| ow_allocA tI67 rfl rfl rfl ?_
    intro w2 hk2 hb8 hz2
    have hK := hK.grow; have hK := hK.ext hk2; have hb6 := hb6.grow; have hb6 := hb6.ext hk2
    refine ow_storeA tI67 rfl rfl rfl rfl rfl hb8 rfl ?_
    intro w3 hk3 hb8 hz3
    have hK := hK.sto hk3 (by simp <;> omega); have hb6 := hb6.sto hk3 (by simp <;> omega)
    refine ow_nil <| cw_seq <| zr <| zm <| ow_gtr rfl rfl rfl rfl rfl <| zm ?_
    apply ow_or 5 15 20 [15, 16, 17, 18, 19, 20] (fun w' => w3 = w') rfl
    intro h1
    replace h1 := tst h1
    refine zs <| zs <| zs <| zs <| zp rfl <| ow_nil ?_
    exact ⟨by repeat (first | with_reducible exact agree_refl | refine agree_upd rfl ?_ | refine agree_hav rfl ?_), rfl, rfl⟩
    intro h1
    replace h1 := tst h1
    refine zm <| zm <| ow_lenS tStr9 rfl rfl rfl <| ow_geq rfl rfl rfl rfl rfl <| zp rfl <| ow_nil ?_
    exact ⟨by repeat (first | with_reducible exact agree_refl | refine agree_upd rfl ?_ | refine agree_hav rfl ?_), rfl, rfl⟩
    rintro xx _ rfl
    refine ow_nil <| zc rfl (fun h2 => ?_) (fun h2 => ?_)
    skip
    refine zr <| zL tAgg67 tI67 rfl hb8.all rfl <| ow_storeA tI67 rfl rfl rfl rfl rfl hb6 rfl ?_
    intro w4 hk4 hb6 hz4
    have hK := hK.sto hk4 (by simp <;> omega)
    refine zA <| ow_nil <| cw_ret ?_
    exact ⟨[_, _], ⟨resultAt_blk tAgg67 tI67 rfl hb6 rfl, rfl⟩, ⟨.mk [] [], _, _, rfl, rtree_mk rtrees_nil, rfl⟩, hK⟩
    exfalso
    simp at h2
  | succ d ih =>
    intro i L w hd hi hL
    have hK := Keep.refl [] w
    by_cases hil : i < s.length
    · have hdr := drop_cons (get_getD hil)
      have hTl := takeWhile_le atomByte (s.drop i)
      rw [List.length_drop] at hTl
      refine ret_gen [.cell 6 67, .tmp 7] 87 Tryz.func102 rfl nm102 rfl rfl rfl ?_
      refine zr <| ow_allocA tI67 rfl rfl rfl ?_
      intro w1 hk1 hb6 hz1
      have hK := hK.grow; have hK := hK.ext hk1
      refine zA <| ow_nil <| zr <| ow_build (tB67_ _) rfl rfl <| ow_allocA tI67 rfl rfl rfl ?_
      intro w2 hk2 hb8 hz2
      have hK := hK.grow; have hK := hK.ext hk2; have hb6 := hb6.grow; have hb6 := hb6.ext hk2
      refine ow_storeA tI67 rfl rfl rfl rfl rfl hb8 rfl ?_
      intro w3 hk3 hb8 hz3
      have hK := hK.sto hk3 (by simp <;> omega); have hb6 := hb6.sto hk3 (by simp <;> omega)
      refine ow_nil <| cw_seq <| zr <| zm <| ow_gtr rfl rfl rfl rfl rfl <| zm ?_
      apply ow_or 5 15 20 [15, 16, 17, 18, 19, 20] (fun w' => w3 = w') rfl
      intro h1
      replace h1 := tst h1
      refine zs <| zs <| zs <| zs <| zp rfl <| ow_nil ?_
      exact ⟨by repeat (first | with_reducible exact agree_refl | refine agree_upd rfl ?_ | refine agree_hav rfl ?_), rfl, rfl⟩
      intro h1
      replace h1 := tst h1
      refine zm <| zm <| ow_lenS tStr9 rfl rfl rfl <| ow_geq rfl rfl rfl rfl rfl <| zp rfl <| ow_nil ?_
      exact ⟨by repeat (first | with_reducible exact agree_refl | refine agree_upd rfl ?_ | refine agree_hav rfl ?_), rfl, rfl⟩
      rintro xx _ rfl
      refine ow_nil <| zc rfl (fun h2 => ?_) (fun h2 => ?_)
      exfalso
      simp at h2
      omega
      refine cw_skip <| cw_seq <| zr <| zm <| zm <| ow_sindex tStr9 rfl rfl rfl rfl (get_getD hil) <| ow_neq rfl rfl rfl rfl rfl <| ow_nil <| zc rfl (fun h3 => ?_) (fun h3 => ?_)
      have hne : s.getD i 0 ≠ 40 := fun h => h3 (by rw [h]; rfl)
      refine zr <| zm <| zA <| ow_nil <| cw_seq <| cw_block ?_
      refine cw_loop (fun k : Nat => [(0, str s), (1, .int .i64 (k : Int)), (6, .pointer (some ⟨w.heap.size, 0, none⟩)), (8, .pointer (some ⟨w1.heap.size, 0, none⟩)), (9, .int .i64 (i : Int))]) (fun k w' => w' = w3 ∧ i ≤ k ∧ k - i ≤ ((s.drop i).takeWhile atomByte).length) (fun k => s.length - k) (i) (⟨rfl, rfl, rfl, rfl, rfl⟩) (⟨rfl, Nat.le_refl _, by omega⟩) ?_
      intro gg w4 e4 hI
      obtain ⟨rfl, hik, hkT⟩ := hI
      have htw := tw_at s hik hkT
      refine cw_seq <| zr <| zm <| zm <| ow_lenS tStr9 rfl rfl rfl <| ow_lss rfl rfl rfl rfl rfl <| zm ?_
      apply ow_and 5 31 36 [31, 32, 33, 34, 35, 36] (fun w' => w4 = w') rfl
      intro h4
      replace h4 := tst h4
      refine zm <| zm <| ow_sindex tStr9 rfl rfl rfl rfl (get_getD (by omega)) <| ow_call rfl rfl (l1Byte_ret _ _) ?_
      rintro _ _ ⟨rfl, rfl⟩
      refine zp rfl <| ow_nil ?_
      exact ⟨by repeat (first | with_reducible exact agree_refl | refine agree_upd rfl ?_ | refine agree_hav rfl ?_), rfl, rfl⟩
      intro h4
      replace h4 := tst h4
      refine zs <| zs <| zs <| zs <| zp rfl <| ow_nil ?_
      exact ⟨by repeat (first | with_reducible exact agree_refl | refine agree_upd rfl ?_ | refine agree_hav rfl ?_), rfl, rfl⟩
      rintro xx _ rfl
      refine ow_nil <| zc rfl (fun h5 => ?_) (fun h5 => ?_)
      have hlt := htw.2 (by simpa using h5)
      refine cw_skip <| cw_block <| cw_region <| zm <| ow_add rfl rfl rfl rfl rfl (wrap_i64 _ (by omega) (by omega)) <| zA <| ow_nil ?_
      exact ⟨gg + 1, ⟨rfl, rfl, rfl, rfl, rfl⟩, ⟨rfl, by omega, by omega⟩, by omega⟩
      have hgT : gg - i = ((s.drop i).takeWhile atomByte).length := Nat.le_antisymm hkT (Nat.le_of_not_lt (fun hh => by have hx := htw.1 hh; rw [hx.2, Bool.and_true, decide_eq_false_iff_not] at h5; omega))
      refine cw_exit <| x_hit rfl <| zr <| zm <| zm <| zm <| ow_sslice tStr9 rfl rfl rfl (.inr ⟨_, rfl⟩) (.inr ⟨_, rfl⟩) (by omega) (by omega) <| zf tF67_0 rfl <| ow_storeB tI9 rfl rfl rfl rfl hb8 rfl ?_
      intro w5 hk5 hb8 hz5
      have hK := hK.sto hk5 (by simp <;> omega); have hb6 := hb6.sto hk5 (by simp <;> omega)
      refine ow_nil <| cw_seq <| zr <| zf tF67_0 rfl <| zl tOne9 rfl (hb8.at rfl) <| ow_seql rfl rfl rfl rfl <| ow_nil <| zc rfl (fun h6 => ?_) (fun h6 => ?_)
      have hR : rT (d + 1) (s.drop i) = none := by rw [hgT, takeWhile_take] at h6; show readT d _ = none; rw [hdr, readT_atom _ _ _ hne, ← hdr, if_pos h6]
      refine zr <| zL tAgg67 tI67 rfl hb8.all rfl <| ow_storeA tI67 rfl rfl rfl rfl rfl hb6 rfl ?_
      intro w6 hk6 hb6 hz6
      have hK := hK.sto hk6 (by simp <;> omega)
      refine zA <| ow_nil <| cw_ret ?_
      exact ⟨[_, _], ⟨resultAt_blk tAgg67 tI67 rfl hb6 rfl, rfl⟩, ⟨.mk _ [], _, _, rfl, rtree_mk rtrees_nil, by rw [hR]; rfl⟩, hK⟩
      have hR : rT (d + 1) (s.drop i) = some (.mk ((s.drop i).takeWhile atomByte) [], (s.drop i).dropWhile atomByte) := by rw [hgT, takeWhile_take] at h6; show readT d _ = _; rw [hdr, readT_atom _ _ _ hne, ← hdr, if_neg h6]
      refine cw_skip <| zr <| zL tAgg67 tI67 rfl hb8.all rfl <| zm <| ow_storeA tI67 rfl rfl rfl rfl rfl hb6 rfl ?_
      intro w6 hk6 hb6 hz6
      have hK := hK.sto hk6 (by simp <;> omega)
      refine zA <| ow_nil <| cw_ret <| ⟨[_, _], ⟨resultAt_blk tAgg67 tI67 rfl hb6 rfl, rfl⟩, ⟨.mk _ [], _, _, rfl, rtree_mk rtrees_nil, ?_⟩, hK⟩
      rw [hR]
      refine ⟨by rw [hgT, takeWhile_take], ?_⟩
      rw [dropWhile_drop, List.length_drop, List.length_drop]
      show (gg : Int) = _
      omega
      have hc40 : s.getD i 0 = 40 := UInt8.toNat_inj.1 (by have h40 : (40 : UInt8).toNat = 40 := rfl; rw [h40]; omega)
      refine cw_skip <| cw_block ?_
      refine cw_loop (fun q : List Tree × Nat × Option Addr × Nat × Option Nat × List Value => [(0, str s), (1, .int .i64 (q.2.1 : Int)), (2, .int .i64 ((61 : Int) - ((d + 1 : Nat) : Int))), (6, .pointer (some ⟨w.heap.size, 0, none⟩)), (8, .pointer (some ⟨w1.heap.size, 0, none⟩))]) (fun q w' => Keep [] w w' ∧ Blk w' w.heap.size [str [], .slice none 0 0].toArray 67 ∧ Blk w' w1.heap.size [str [], .slice q.2.2.1 q.1.length q.2.2.2.1].toArray 67 ∧ OwnR (w.heap.size :: w1.heap.size :: L) w' 67 2 (.slice q.2.2.1 q.1.length q.2.2.2.1) q.2.2.2.2.1 (encs q.1) q.2.2.2.2.2 ∧ (∀ b, q.2.2.2.2.1 = some b → w.heap.size ≤ b) ∧ q.2.1 < s.length ∧ i ≤ q.2.1 ∧ q.1.length ≤ q.2.1 ∧ w1.heap.size < w'.heap.size ∧ partsFrom d (s.drop (i + 1)) = (partsFrom d (s.drop (q.2.1 + 1))).map (fun p => (q.1 ++ p.1, p.2))) (fun q => s.length - q.2.1) (([], i, none, 0, none, [])) (⟨rfl, rfl, rfl, rfl, rfl⟩) (⟨hK, hb6, hb8, OwnR.nil _ _ _ _, by simp, hil, Nat.le_refl _, by simp, by omega, by simp⟩) ?_
      intro gg w4 e4 hI
      obtain ⟨acc, k, a, cc, g, xs⟩ := gg
      dsimp only at hI ⊢
      obtain ⟨hK, hb6, hb8, hO, hg, hk, hik, hak, hwz, hpf⟩ := hI
      have hLx : ∀ x, x ∈ g.toList ++ (w.heap.size :: w1.heap.size :: L) → x < w4.heap.size := by intro x hx; simp at hx; rcases hx with hx | rfl | rfl | hx; exact hO.own.lt x hx; omega; omega; have h1 := hL x hx; have h2 := hK.size; omega
      refine cw_block <| zr <| zm <| zm <| ow_add rfl rfl rfl rfl rfl (wrap_i64 _ (by omega) (by omega)) <| zm <| ow_add rfl rfl rfl rfl rfl (show IntKind.i64.wrap ((61 : Int) - ((d + 1 : Nat) : Int) + 1) = (61 : Int) - (d : Int) by rw [wrap_i64 _ (by omega) (by omega)]; omega) <| ow_call rfl rfl (ih (k + 1) (g.toList ++ (w.heap.size :: w1.heap.size :: L)) w4 (by omega) (by omega) hLx) ?_
      rintro v5 w5 ⟨hv5, hk5⟩
      have hs5 := hk5.size
      have hK := hK.ext hk5; have hb6 := hb6.ext hk5; have hb8 := hb8.ext hk5; have hO := hO.ext hk5
      obtain ⟨t, tv, en, rfl, ht, hm⟩ := hv5
      obtain ⟨pa, pn, pc, rfl, hpn, hps⟩ := rtree_cases ht
      subst hpn
      refine zm <| zx (i := 0) rfl rfl <| zx (i := 1) rfl rfl <| ow_allocA tI67 rfl rfl rfl ?_
      intro w6 hk6 hb10 hz6
      have hK := hK.grow; have hK := hK.ext hk6; have hb6 := hb6.grow; have hb6 := hb6.ext hk6; have hb8 := hb8.grow; have hb8 := hb8.ext hk6; have hO := hO.alloc hk6 hz6; have ht := ht.grow; have ht := ht.ext hk6
      refine ow_storeA tI67 rfl rfl rfl rfl rfl hb10 rfl ?_
      intro w7 hk7 hb10 hz7
      have hK := hK.sto hk7 (by simp <;> omega); have hb6 := hb6.sto hk7 (by simp <;> omega); have hb8 := hb8.sto hk7 (by simp <;> omega); have hO := hO.sto hk7 (by simp <;> omega); have ht := ht.sto hk7 (by simp <;> omega)
      refine zA <| ow_nil <| cw_seq <| zr <| zm <| ow_lss rfl rfl rfl rfl rfl <| zm ?_
      apply ow_or 5 61 66 [61, 62, 63, 64, 65, 66] (fun w' => w7 = w') rfl
      intro h7
      replace h7 := tst h7
      refine zs <| zs <| zs <| zs <| zp rfl <| ow_nil ?_
      exact ⟨by repeat (first | with_reducible exact agree_refl | refine agree_upd rfl ?_ | refine agree_hav rfl ?_), rfl, rfl⟩
      intro h7
      replace h7 := tst h7
      refine zm <| zm <| ow_lenS tStr9 rfl rfl rfl <| ow_geq rfl rfl rfl rfl rfl <| zp rfl <| ow_nil ?_
      exact ⟨by repeat (first | with_reducible exact agree_refl | refine agree_upd rfl ?_ | refine agree_hav rfl ?_), rfl, rfl⟩
      rintro xx _ rfl
      refine ow_nil <| zc rfl (fun h8 => ?_) (fun h8 => ?_)
      have hR : rT (d + 1) (s.drop i) = none := by show readT d _ = none; rw [hdr, hc40, readT_open, hpf, parts_stop hm (by simpa using h8) (by omega)]; rfl
      refine zr <| zL tAgg67 tI67 rfl hb8.all rfl <| ow_storeA tI67 rfl rfl rfl rfl rfl hb6 rfl ?_
      intro w8 hk8 hb6 hz8
      have hK := hK.sto hk8 (by simp <;> omega); have hO := hO.sto hk8 (by simp <;> omega)
      refine zA <| ow_nil <| cw_ret ?_
      exact ⟨[_, _], ⟨resultAt_blk tAgg67 tI67 rfl hb6 rfl, rfl⟩, ⟨.mk [] acc, _, _, rfl, rtree_mk (hO.done.weaken (fun x hx => by simp [hx])), by rw [hR]; rfl⟩, hK⟩
      simp at h8
      obtain ⟨m, rfl, hkm, hmn, hpp⟩ := parts_go hm h8.1 (by omega)
      refine cw_skip <| zr <| zf tF67_1 rfl <| zl tOne65 rfl (hb8.at rfl) <| zL tAgg67 tI67 rfl hb10.all rfl <| ow_buildSlice1 tSl65 tI67 rfl rfl rfl rfl rfl rfl rfl rfl ?_
      intro w8 hk8 hb71 hz8
      have hK := hK.ext hk8; have hb6 := hb6.ext hk8; have hb8 := hb8.ext hk8; have hO := hO.ext hk8; have ht := ht.ext hk8
      refine ow_app1 tSl65 tI67 rfl rfl rfl rfl rfl hO (enc_length t) hb71.all (by simp [Value.oneCell']) (ht.repl.fresh (fun x hx => .inl (mem_mid x hx))) ?_ ?_ ?_
      intro x hx; simp at hx; rcases hx with rfl | rfl | rfl | hx; (· omega); (· omega); (· omega); (· have h1 := hL x hx; have h2 := hK.size; omega)
      rw [encs_length]; omega
      intro a2 cc2 g2 w9 hO2 hk9 hg2
      have e1 : (encs acc).length + 1 = (acc ++ [t]).length := by simp [encs_length]
      have e2 : encs acc ++ [t.enc] = encs (acc ++ [t]) := by simp [encs_append, encs]
      rw [e1] at hO2 ⊢
      rw [e2] at hO2
      have hs1 := hk9.size
      have hg3 : ∀ b, g2 = some b → w.heap.size ≤ b := by intro b hb; rcases hg2 with h | h; (· rw [h] at hb; exact hg b hb); (· rw [h] at hb; cases hb; omega)
      have hK := hK.sto hk9 (fun x hx => .inr (hg x (by simpa using hx))); have hb6 := hb6.sto hk9 (hO.sep (by simp)); have hb8 := hb8.sto hk9 (hO.sep (by simp))
      refine zf tF67_1 rfl <| ow_storeB tI65 rfl rfl rfl rfl hb8 rfl ?_
      intro w10 hk10 hb8 hz10
      have hK := hK.sto hk10 (by simp <;> omega); have hb6 := hb6.sto hk10 (by simp <;> omega); have hO2 := hO2.sto hk10 (by simp <;> omega)
      refine ow_nil <| zr <| zm <| zA <| ow_nil <| cw_seq <| zr <| zm <| zm <| ow_sindex tStr9 rfl rfl rfl rfl (get_getD hmn) <| ow_eql rfl rfl rfl rfl rfl <| ow_nil <| zc rfl (fun h9 => ?_) (fun h9 => ?_)
      have hc41 : s.getD m 0 = 41 := UInt8.toNat_inj.1 (by have h40 : (41 : UInt8).toNat = 41 := rfl; rw [h40]; omega)
      have hR : rT (d + 1) (s.drop i) = some (.mk [] (acc ++ [t]), s.drop (m + 1)) := by show readT d _ = _; rw [hdr, hc40, readT_open, hpf, hpp, if_pos hc41]; rfl
      refine zr <| zL tAgg67 tI67 rfl hb8.all rfl <| zm <| ow_add rfl rfl rfl rfl rfl (wrap_i64 _ (by omega) (by omega)) <| ow_storeA tI67 rfl rfl rfl rfl rfl hb6 rfl ?_
      intro w11 hk11 hb6 hz11
      have hK := hK.sto hk11 (by simp <;> omega); have hO2 := hO2.sto hk11 (by simp <;> omega)
      refine zA <| ow_nil <| cw_ret ?_
      exact ⟨[_, _], ⟨resultAt_blk tAgg67 tI67 rfl hb6 rfl, rfl⟩, ⟨.mk [] (acc ++ [t]), _, _, rfl, rtree_mk (hO2.done.weaken (fun x hx => by simp [hx])), by rw [hR]; exact ⟨rfl, by rw [List.length_drop]; omega⟩⟩, hK⟩
      have hc41 : s.getD m 0 ≠ 41 := fun h => h9 (by rw [h]; rfl)
      refine cw_skip <| zr <| zm <| zm <| ow_sindex tStr9 rfl rfl rfl rfl (get_getD hmn) <| ow_neq rfl rfl rfl rfl rfl <| ow_nil <| zc rfl (fun h10 => ?_) (fun h10 => ?_)
      have hc32 : s.getD m 0 ≠ 32 := fun h => h10 (by rw [h]; rfl)
      have hR : rT (d + 1) (s.drop i) = none := by show readT d _ = _; rw [hdr, hc40, readT_open, hpf, hpp, if_neg hc41, if_neg hc32]; rfl
      refine zr <| zL tAgg67 tI67 rfl hb8.all rfl <| ow_storeA tI67 rfl rfl rfl rfl rfl hb6 rfl ?_
      intro w11 hk11 hb6 hz11
      have hK := hK.sto hk11 (by simp <;> omega); have hO2 := hO2.sto hk11 (by simp <;> omega)
      refine zA <| ow_nil <| cw_ret ?_
      exact ⟨[_, _], ⟨resultAt_blk tAgg67 tI67 rfl hb6 rfl, rfl⟩, ⟨.mk [] (acc ++ [t]), _, _, rfl, rtree_mk (hO2.done.weaken (fun x hx => by simp [hx])), by rw [hR]; rfl⟩, hK⟩
      have hc32 : s.getD m 0 = 32 := UInt8.toNat_inj.1 (by have h40 : (32 : UInt8).toNat = 32 := rfl; rw [h40]; omega)
      refine cw_skip ?_
      exact ⟨(acc ++ [t], m, a2, cc2, g2, _), ⟨rfl, rfl, rfl, rfl, rfl⟩, ⟨hK, hb6, hb8, hO2.more (by intro x hx; exact .inl (by simp at hx ⊢; rcases hx with hx | hx | hx <;> simp [hx])), hg3, hmn, by dsimp only; omega, by simp; omega, by omega, by rw [hpf, hpp, if_neg hc41, if_pos hc32, map_append]⟩, by dsimp only; omega⟩
    refine ret_gen [.cell 6 67, .tmp 7] 87 Tryz.func102 rfl nm102 rfl rfl rfl ?_
    refine zr <| ow_allocA tI67 rfl rfl rfl ?_
    intro w1 hk1 hb6 hz1
    have hK := hK.grow; have hK := hK.ext hk1
    refine zA <| ow_nil <| zr <| ow_build (tB67_ _) rfl rfl <| ow_allocA tI67 rfl rfl rfl ?_
    intro w2 hk2 hb8 hz2
    have hK := hK.grow; have hK := hK.ext hk2; have hb6 := hb6.grow; have hb6 := hb6.ext hk2
    refine ow_storeA tI67 rfl rfl rfl rfl rfl hb8 rfl ?_
    intro w3 hk3 hb8 hz3
    have hK := hK.sto hk3 (by simp <;> omega); have hb6 := hb6.sto hk3 (by simp <;> omega)
    refine ow_nil <| cw_seq <| zr <| zm <| ow_gtr rfl rfl rfl rfl rfl <| zm ?_
    apply ow_or 5 15 20 [15, 16, 17, 18, 19, 20] (fun w' => w3 = w') rfl
    intro h1
    replace h1 := tst h1
    refine zs <| zs <| zs <| zs <| zp rfl <| ow_nil ?_
    exact ⟨by repeat (first | with_reducible exact agree_refl | refine agree_upd rfl ?_ | refine agree_hav rfl ?_), rfl, rfl⟩
    intro h1
    replace h1 := tst h1
    refine zm <| zm <| ow_lenS tStr9 rfl rfl rfl <| ow_geq rfl rfl rfl rfl rfl <| zp rfl <| ow_nil ?_
    exact ⟨by repeat (first | with_reducible exact agree_refl | refine agree_upd rfl ?_ | refine agree_hav rfl ?_), rfl, rfl⟩
    rintro xx _ rfl
    refine ow_nil <| zc rfl (fun h2 => ?_) (fun h2 => ?_)
    have hR : rT (d + 1) (s.drop i) = none := by rw [List.drop_of_length_le (by omega)]; exact readT_nil d
    refine zr <| zL tAgg67 tI67 rfl hb8.all rfl <| ow_storeA tI67 rfl rfl rfl rfl rfl hb6 rfl ?_
    intro w4 hk4 hb6 hz4
    have hK := hK.sto hk4 (by simp <;> omega)
    refine zA <| ow_nil <| cw_ret ?_
    exact ⟨[_, _], ⟨resultAt_blk tAgg67 tI67 rfl hb6 rfl, rfl⟩, ⟨.mk [] [], _, _, rfl, rtree_mk rtrees_nil, by rw [hR]; rfl⟩, hK⟩
    exfalso
    simp at h2
    omega
end Go.Proofs.YtnkjgoholocliaaGreatDoor

namespace Go.Proofs.YtnkjgoholocliaaGreatDoor
open Go

theorem l1Parse_ret (s : Bytes) (L : List Nat) (w : World) (hL : ∀ x, x ∈ L → x < w.heap.size) :
    Ret Tryz.prog 55 [str s] w fun v w' => (∃ t tv, v = .tuple #[tv, .bool (parse s).isSome] ∧ RTree L w' tv t ∧ ∀ t', parse s = some t' → t = t') ∧ Keep [] w w' := by
  have hK := Keep.refl [] w
  refine ret_gen [.cell 2 67, .tmp 3] 20 Tryz.func55 rfl nm55 rfl rfl rfl ?_
  refine zr <| ow_allocA tI67 rfl rfl rfl ?_
  intro w1 hk1 hb2 hz1
  have hK := hK.grow; have hK := hK.ext hk1
  refine zA <| ow_nil <| cw_seq <| zr <| zm <| ow_lenS tStr9 rfl rfl rfl <| ow_gtr rfl rfl rfl rfl rfl <| ow_nil <| zc rfl (fun h1 => ?_) (fun h1 => ?_)
  have hp : parse s = none := by unfold parse; rw [if_pos (by omega)]
  refine zr <| ow_build (tB67_ _) rfl rfl <| ow_storeA tI67 rfl rfl rfl rfl rfl hb2 rfl ?_
  intro w2 hk2 hb2 hz2
  have hK := hK.sto hk2 (by simp <;> omega)
  refine zA <| ow_nil <| cw_ret ?_
  exact ⟨[_, _], ⟨resultAt_blk tAgg67 tI67 rfl hb2 rfl, rfl⟩, ⟨.mk [] [], _, by rw [hp]; rfl, rtree_mk rtrees_nil, fun t' h => by rw [hp] at h; cases h⟩, hK⟩
  refine cw_skip <| zr <| zm <| ow_call rfl rfl (l1Read_ret s (by omega) 61 0 (w.heap.size :: L) w1 (by omega) (by omega) (by intro x hx; rcases List.mem_cons.1 hx with rfl | hx; (· omega); (· have := hL x hx; omega))) ?_
  rintro v2 w2 ⟨hv2, hk2⟩
  have hs2 := hk2.size
  have hK := hK.ext hk2; have hb2 := hb2.ext hk2
  obtain ⟨t, tv, en, rfl, ht, hm⟩ := hv2
  obtain ⟨pa, pn, pc, rfl, hpn, hps⟩ := rtree_cases ht
  refine zm <| zx (i := 0) rfl rfl <| zx (i := 1) rfl rfl <| ow_allocA tI67 rfl rfl rfl ?_
  intro w3 hk3 hb4 hz3
  have hK := hK.grow; have hK := hK.ext hk3; have hb2 := hb2.grow; have hb2 := hb2.ext hk3; have ht := ht.grow; have ht := ht.ext hk3
  refine ow_storeA tI67 rfl rfl rfl rfl rfl hb4 rfl ?_
  intro w4 hk4 hb4 hz4
  have hK := hK.sto hk4 (by simp <;> omega); have hb2 := hb2.sto hk4 (by simp <;> omega); have ht := ht.sto hk4 (by simp <;> omega)
  refine zA <| ow_nil <| zr <| zL tAgg67 tI67 rfl hb4.all rfl <| zm <| zm <| ow_lenS tStr9 rfl rfl rfl <| ow_eql rfl rfl rfl rfl rfl <| ow_storeA tI67 rfl rfl rfl rfl rfl hb2 rfl ?_
  intro w5 hk5 hb2 hz5
  have hK := hK.sto hk5 (by simp <;> omega); have ht := ht.sto hk5 (by simp <;> omega)
  refine zA <| ow_nil <| cw_ret ?_
  have hpo := parse_of (by omega) hm
  exact ⟨[_, _], ⟨resultAt_blk tAgg67 tI67 rfl hb2 rfl, rfl⟩, ⟨t, _, by rw [← hpo.1]; rfl, RepA.fresh ht (fun x hx => .inl (by simp [hx])), hpo.2⟩, hK⟩

theorem l4Head_ret (t : Tree) (v : Value) (L : List Nat) (w : World) (hv : RTree L w v t) : Ret Tryz.prog 56 [v] w fun r w' => r = str (headOf t) ∧ Keep [] w w' := by
  obtain ⟨a, n, c, rfl, hn, hps⟩ := rtree_cases hv
  have hK := Keep.refl [] w
  refine ret_of [.tmp 2] 17 Tryz.func56 rfl nm56 rfl rfl ?_
  refine zr <| ow_boxA rfl rfl rfl ?_
  intro w1 hk1 hb1 hz1
  have hK := hK.ext hk1; have hps := hps.ext hk1
  refine zA <| ow_nil <| cw_seq <| zr <| zf tF67_0 rfl <| zl tOne9 rfl (hb1.at rfl) <| ow_sneq rfl rfl rfl rfl <| zm ?_
  apply ow_or 5 6 11 [6, 7, 8, 9, 10, 11] (fun w' => w1 = w') rfl
  intro h1
  replace h1 := tst h1
  refine zs <| zs <| zs <| zs <| zp rfl <| ow_nil ?_
  exact ⟨by repeat (first | with_reducible exact agree_refl | refine agree_upd rfl ?_ | refine agree_hav rfl ?_), rfl, rfl⟩
  intro h1
  replace h1 := tst h1
  refine zf tF67_1 rfl <| zl tOne65 rfl (hb1.at rfl) <| ow_len tSl65 rfl rfl rfl <| ow_eql rfl rfl rfl rfl rfl <| zp rfl <| ow_nil ?_
  exact ⟨by repeat (first | with_reducible exact agree_refl | refine agree_upd rfl ?_ | refine agree_hav rfl ?_), rfl, rfl⟩
  rintro xx _ rfl
  refine ow_nil <| zc rfl (fun h2 => ?_) (fun h2 => ?_)
  have hh : headOf t = [] := headOf_no (by simp at h2; rcases h2 with h | h; (· exact .inl h); (· right; subst hn; simpa using h))
  refine zr <| zA <| ow_nil <| cw_ret ?_
  exact ⟨_, rfl, by rw [hh]; rfl, hK⟩
  simp at h2
  have h0 := h2.2
  obtain ⟨p0, hp0⟩ : ∃ p0, t.parts[0]? = some p0 := ⟨t.parts[0]'(by omega), List.getElem?_eq_getElem (by omega)⟩
  obtain ⟨b, off, pa, pn, pc, rfl, hc0, hpn, hpp⟩ := rtrees_get hps hp0
  have hh : headOf t = p0.atom := headOf_cons h2.1 hp0
  refine cw_skip <| zr <| zf tF67_1 rfl <| zl tOne65 rfl (hb1.at rfl) <| zi (i := 0) tSl65 tI67 rfl rfl (by rw [hn]; exact (List.getElem?_eq_some_iff.1 hp0).1) ?_
  refine zf tF67_0 rfl <| zl tOne9 rfl (hc0 0 _ rfl) <| zA <| ow_nil <| cw_ret ?_
  exact ⟨_, rfl, by rw [hh]; rfl, hK⟩

theorem l6tLabel_ret (s : Bytes) (hs : s.length < 9223372036854775807) (w : World) : Ret Tryz.prog 130 [str s] w fun r w' => r = .bool (isLabel s) ∧ w = w' := by
  refine ret_of [.tmp 2] 39 Tryz.func130 rfl nm130 rfl rfl ?_
  refine zr <| zA <| ow_nil <| cw_seq <| zr <| zA <| ow_nil <| cw_block ?_
  refine cw_loop (fun k : Nat => [(0, str s), (3, .int .i64 (k : Int))]) (fun k w' => w' = w ∧ k ≤ s.length ∧ ∀ j, j < k → labelAt s j = true) (fun k => s.length - k) (0) (⟨rfl, rfl⟩) (⟨rfl, by omega, by intro j hj; omega⟩) ?_
  intro gg w1 e1 hI
  obtain ⟨rfl, hk, hall⟩ := hI
  refine cw_seq <| zr <| zm <| zm <| ow_lenS tStr9 rfl rfl rfl <| ow_lss rfl rfl rfl rfl rfl <| ow_nil <| zc rfl (fun h1 => ?_) (fun h1 => ?_)
  skip
  refine cw_skip <| cw_seq <| cw_block <| zr <| zm <| zm <| ow_sindex tStr9 rfl rfl rfl rfl (get_getD (by omega)) <| ow_geq rfl rfl rfl rfl rfl <| zm ?_
  apply ow_and 5 14 19 [14, 15, 16, 17, 18, 19] (fun w' => w1 = w') rfl
  intro h2
  replace h2 := tst h2
  refine zm <| zm <| ow_sindex tStr9 rfl rfl rfl rfl (get_getD (by omega)) <| ow_leq rfl rfl rfl rfl rfl <| zp rfl <| ow_nil ?_
  exact ⟨by repeat (first | with_reducible exact agree_refl | refine agree_upd rfl ?_ | refine agree_hav rfl ?_), rfl, rfl⟩
  intro h2
  replace h2 := tst h2
  refine zs <| zs <| zs <| zs <| zp rfl <| ow_nil ?_
  exact ⟨by repeat (first | with_reducible exact agree_refl | refine agree_upd rfl ?_ | refine agree_hav rfl ?_), rfl, rfl⟩
  rintro xx _ rfl
  refine zm ?_
  apply ow_or 15 20 35 [20, 21, 22, 23, 24, 25, 26, 27, 28, 29, 30, 31, 32, 33, 34, 35] (fun w' => w1 = w') rfl
  intro h3
  replace h3 := tst h3
  refine zs <| zs <| zs <| zs <| zs <| zs <| zs <| zs <| zs <| zs <| zs <| zs <| zs <| zs <| zp rfl <| ow_nil ?_
  exact ⟨by repeat (first | with_reducible exact agree_refl | refine agree_upd rfl ?_ | refine agree_hav rfl ?_), rfl, rfl⟩
  intro h3
  replace h3 := tst h3
  refine zm <| ow_gtr rfl rfl rfl rfl rfl <| zm ?_
  apply ow_and 5 23 28 [23, 24, 25, 26, 27, 28] (fun w' => w1 = w') rfl
  intro h4
  replace h4 := tst h4
  refine zm <| zm <| ow_sindex tStr9 rfl rfl rfl rfl (get_getD (by omega)) <| ow_geq rfl rfl rfl rfl rfl <| zp rfl <| ow_nil ?_
  exact ⟨by repeat (first | with_reducible exact agree_refl | refine agree_upd rfl ?_ | refine agree_hav rfl ?_), rfl, rfl⟩
  intro h4
  replace h4 := tst h4
  refine zs <| zs <| zs <| zs <| zp rfl <| ow_nil ?_
  exact ⟨by repeat (first | with_reducible exact agree_refl | refine agree_upd rfl ?_ | refine agree_hav rfl ?_), rfl, rfl⟩
  rintro xx _ rfl
  refine zm ?_
  apply ow_and 5 29 34 [29, 30, 31, 32, 33, 34] (fun w' => w1 = w') rfl
  intro h5
  replace h5 := tst h5
  refine zm <| zm <| ow_sindex tStr9 rfl rfl rfl rfl (get_getD (by omega)) <| ow_leq rfl rfl rfl rfl rfl <| zp rfl <| ow_nil ?_
  exact ⟨by repeat (first | with_reducible exact agree_refl | refine agree_upd rfl ?_ | refine agree_hav rfl ?_), rfl, rfl⟩
  intro h5
  replace h5 := tst h5
  refine zs <| zs <| zs <| zs <| zp rfl <| ow_nil ?_
  exact ⟨by repeat (first | with_reducible exact agree_refl | refine agree_upd rfl ?_ | refine agree_hav rfl ?_), rfl, rfl⟩
  rintro xx _ rfl
  refine zp rfl <| ow_nil ?_
  exact ⟨by repeat (first | with_reducible exact agree_refl | refine agree_upd rfl ?_ | refine agree_hav rfl ?_), rfl, rfl⟩
  rintro xx _ rfl
  refine ow_not rfl rfl rfl <| ow_nil <| zc rfl (fun h6 => ?_) (fun h6 => ?_)
  rw [label_z] at h6
  refine zr <| zA <| ow_nil <| cw_ret ?_
  exact ⟨_, rfl, by rw [isLabel_no (by omega) h6]; rfl, rfl⟩
  rw [label_z] at h6
  refine cw_skip <| cw_region <| zm <| ow_add rfl rfl rfl rfl rfl (wrap_i64 _ (by omega) (by omega)) <| zA <| ow_nil ?_
  exact ⟨gg + 1, ⟨rfl, rfl⟩, ⟨rfl, by omega, all_upto hall h6⟩, by omega⟩
  skip
  refine cw_exit <| x_hit rfl <| zr <| zm <| ow_sneq rfl rfl rfl rfl <| zA <| ow_nil <| cw_ret ?_
  exact ⟨_, rfl, by rw [isLabel_yes (fun j hj => hall j (by omega))]; rfl, rfl⟩
end Go.Proofs.YtnkjgoholocliaaGreatDoor

namespace Go.Proofs.YtnkjgoholocliaaGreatDoor
open Go

/-- What 'l2Number' hands back. -/
def numV (s : Bytes) : Value := .tuple #[.int .i64 ((numeral s).getD 0), .bool (numeral s).isSome]

theorem l2Number_ret (s : Bytes) (w : World) : Ret Tryz.prog 166 [str s] w fun v w' => v = numV s ∧ w = w' := by
  refine ret_of [.tmp 2, .tmp 3] 57 Tryz.func166 rfl nm166 rfl rfl ?_
  refine zr <| zA <| zA <| ow_nil <| zr <| zA <| ow_nil <| zr <| zm <| zA <| ow_nil <| cw_seq <| zr <| zm <| ow_lenS tStr9 rfl rfl rfl <| ow_gtr rfl rfl rfl rfl rfl <| zm ?_
  apply ow_and 4 12 16 [12, 13, 14, 15, 16] (fun w' => w = w') rfl
  intro h1
  replace h1 := tst h1
  refine zm <| ow_sindex (i := 0) tStr9 rfl rfl rfl rfl (get_getD (by omega)) <| ow_eql rfl rfl rfl rfl rfl <| zp rfl <| ow_nil ?_
  exact ⟨by repeat (first | with_reducible exact agree_refl | refine agree_upd rfl ?_ | refine agree_hav rfl ?_), rfl, rfl⟩
  intro h1
  replace h1 := tst h1
  refine zs <| zs <| zs <| zp rfl <| ow_nil ?_
  exact ⟨by repeat (first | with_reducible exact agree_refl | refine agree_upd rfl ?_ | refine agree_hav rfl ?_), rfl, rfl⟩
  rintro xx _ rfl
  refine ow_nil ?_
  refine cw_cut (fun _ : Unit => [(0, str s), (4, .int .i64 (sgn s)), (5, str (dgs s))]) (fun _ w' => w' = w) ?_ ?_
  refine zc rfl (fun h2 => ?_) (fun h2 => ?_)
  have hm : 0 < s.length ∧ s.getD 0 0 = 45 := by have h45 := eq_z 45 (s.getD 0 0); simp only [show ((45 : UInt8).toNat : Int) = 45 from rfl] at h45; rw [h45] at h2; simpa using h2
  refine zr <| zA <| ow_nil <| cw_region <| zm <| ow_sslice (l := 1) tStr9 rfl rfl rfl (.inr ⟨_, rfl⟩) (.inl ⟨rfl, rfl⟩) (by omega) (by omega) <| zA <| ow_nil ?_
  exact ⟨(), ⟨rfl, by rw [sgn, if_pos hm]; rfl, by have h1 : dgs s = (s.drop 1).take (s.length - 1) := by { rw [dgs, if_pos hm, List.take_of_length_le (by simp)] }; rw [h1]; exact rfl⟩, rfl⟩
  have hm : ¬ (0 < s.length ∧ s.getD 0 0 = 45) := by have h45 := eq_z 45 (s.getD 0 0); simp only [show ((45 : UInt8).toNat : Int) = 45 from rfl] at h45; rw [h45] at h2; simpa using h2
  refine cw_skip ?_
  exact ⟨(), ⟨rfl, by rw [sgn, if_neg hm]; rfl, by rw [dgs, if_neg hm]; exact rfl⟩, rfl⟩
  intro gu w1 e1 hI
  obtain rfl := hI
  refine cw_seq <| zr <| zm <| ow_seql rfl rfl rfl rfl <| ow_nil <| zc rfl (fun h3 => ?_) (fun h3 => ?_)
  have hn : numeral s = some 0 := by unfold numeral; rw [if_pos h3]
  refine zr <| zA <| zA <| ow_nil <| cw_ret ?_
  exact ⟨_, rfl, by unfold numV; rw [hn]; rfl, rfl⟩
  have hs0 := h3
  refine cw_skip <| cw_seq <| zr <| zm <| ow_lenS tStr9 rfl rfl rfl <| ow_call rfl rfl (l6In_ret _ _ _ _) ?_
  rintro _ _ ⟨rfl, rfl⟩
  refine ow_not rfl rfl rfl <| zm ?_
  apply ow_or 4 25 29 [25, 26, 27, 28, 29] (fun w' => w1 = w') rfl
  intro h4
  replace h4 := tst h4
  refine zs <| zs <| zs <| zp rfl <| ow_nil ?_
  exact ⟨by repeat (first | with_reducible exact agree_refl | refine agree_upd rfl ?_ | refine agree_hav rfl ?_), rfl, rfl⟩
  intro h4
  replace h4 := tst h4
  simp at h4
  refine zm <| ow_sindex (i := 0) tStr9 rfl rfl rfl rfl (get_getD (by omega)) <| ow_eql rfl rfl rfl rfl rfl <| zp rfl <| ow_nil ?_
  exact ⟨by repeat (first | with_reducible exact agree_refl | refine agree_upd rfl ?_ | refine agree_hav rfl ?_), rfl, rfl⟩
  rintro xx _ rfl
  refine ow_nil <| zc rfl (fun h5 => ?_) (fun h5 => ?_)
  have hn : numeral s = none := numeral_bad hs0 (dgs_bad h5)
  refine zr <| zA <| zA <| ow_nil <| cw_ret ?_
  exact ⟨_, rfl, by unfold numV; rw [hn]; rfl, rfl⟩
  have hd := dgs_good h5
  refine cw_skip <| zr <| zA <| ow_nil <| cw_seq <| zr <| zA <| ow_nil <| cw_block ?_
  refine cw_loop (fun k : Nat => [(4, .int .i64 (sgn s)), (5, str (dgs s)), (6, .int .i64 (val ((dgs s).take k) : Nat)), (7, .int .i64 (k : Int))]) (fun k w' => w' = w1 ∧ k ≤ (dgs s).length ∧ ((dgs s).take k).all dig = true) (fun k => (dgs s).length - k) (0) (⟨rfl, rfl, rfl, rfl⟩) (⟨rfl, by omega, by simp⟩) ?_
  intro gg w2 e2 hI
  obtain ⟨rfl, hk, hall⟩ := hI
  refine cw_seq <| zr <| zm <| zm <| ow_lenS tStr9 rfl rfl rfl <| ow_lss rfl rfl rfl rfl rfl <| ow_nil <| zc rfl (fun h6 => ?_) (fun h6 => ?_)
  have hlt : gg < (dgs s).length := by omega
  have hv := val_bound _ hall
  have hv2 : val ((dgs s).take gg) < 100 := Nat.lt_of_lt_of_le hv (Nat.le_trans (Nat.pow_le_pow_right (by omega) (show ((dgs s).take gg).length ≤ 2 by simp; omega)) (by decide))
  clear hv
  refine cw_skip <| cw_seq <| cw_block <| cw_seq <| zr <| zm <| zm <| ow_sindex tStr9 rfl rfl rfl rfl (get_getD hlt) <| ow_lss rfl rfl rfl rfl rfl <| zm ?_
  apply ow_or 5 40 45 [40, 41, 42, 43, 44, 45] (fun w' => w2 = w') rfl
  intro h7
  replace h7 := tst h7
  refine zs <| zs <| zs <| zs <| zp rfl <| ow_nil ?_
  exact ⟨by repeat (first | with_reducible exact agree_refl | refine agree_upd rfl ?_ | refine agree_hav rfl ?_), rfl, rfl⟩
  intro h7
  replace h7 := tst h7
  refine zm <| zm <| ow_sindex tStr9 rfl rfl rfl rfl (get_getD hlt) <| ow_gtr rfl rfl rfl rfl rfl <| zp rfl <| ow_nil ?_
  exact ⟨by repeat (first | with_reducible exact agree_refl | refine agree_upd rfl ?_ | refine agree_hav rfl ?_), rfl, rfl⟩
  rintro xx _ rfl
  refine ow_nil <| zc rfl (fun h8 => ?_) (fun h8 => ?_)
  have hn : numeral s = none := numeral_nondig hs0 hlt (dig_no h8)
  refine zr <| zA <| zA <| ow_nil <| cw_ret ?_
  exact ⟨_, rfl, by unfold numV; rw [hn]; rfl, rfl⟩
  have hc := dig_yes h8
  have hc1 := hc.1
  have hc2 := hc.2.1
  refine cw_skip <| cw_region <| zm <| ow_mul rfl rfl rfl rfl rfl (wrap_i64 _ (by omega) (by omega)) <| zm <| zm <| ow_sindex tStr9 rfl rfl rfl rfl (get_getD hlt) <| ow_sub rfl rfl rfl rfl rfl (wrap_u8 _ (by omega) (by omega)) <| ow_conv_int tInt5 tInt3 rfl rfl rfl (wrap_i64 _ (by omega) (by omega)) <| ow_add rfl rfl rfl rfl rfl (wrap_i64 _ (by omega) (by omega)) <| zA <| ow_nil <| cw_region <| zm <| ow_add rfl rfl rfl rfl rfl (wrap_i64 _ (by omega) (by omega)) <| zA <| ow_nil ?_
  exact ⟨gg + 1, ⟨rfl, rfl, by rw [take_snoc hlt, val_snoc]; show Value.int _ _ = Value.int _ _; congr 1; omega, rfl⟩, ⟨rfl, by omega, by rw [take_snoc hlt, List.all_append, hall]; simp only [List.all_cons, hc.2.2]; rfl⟩, by omega⟩
  have hgl : (dgs s).take gg = dgs s := List.take_of_length_le (by omega)
  rw [hgl] at hall
  have hv := val_bound _ hall
  have hv2 : val (dgs s) < 1000 := Nat.lt_of_lt_of_le hv (Nat.le_trans (Nat.pow_le_pow_right (by omega) hd.2.1) (by decide))
  clear hv
  rw [hgl]
  have hs1 := sgn_one s
  have hmul : -1000 < sgn s * (val (dgs s) : Int) ∧ sgn s * (val (dgs s) : Int) < 1000 := by rcases hs1 with h | h <;> rw [h] <;> omega
  refine cw_exit <| x_hit rfl <| zr <| zm <| zm <| ow_mul rfl rfl rfl rfl rfl (wrap_i64 _ (by omega) (by omega)) <| zA <| zA <| ow_nil <| cw_ret ?_
  exact ⟨_, rfl, by unfold numV; rw [numeral_ok hs0 hd hall]; rfl, rfl⟩
end Go.Proofs.YtnkjgoholocliaaGreatDoor

namespace Go.Proofs.YtnkjgoholocliaaGreatDoor
open Go

theorem l6tReg_ret (t : Tree) (v : Value) (L : List Nat) (w : World) (hv : RTree L w v t) : Ret Tryz.prog 145 [v] w fun r w' => r = .int .i64 (regZ t.atom) ∧ Keep [] w w' := by
  obtain ⟨a, n, c, rfl, hn, hps⟩ := rtree_cases hv
  have hK := Keep.refl [] w
  refine ret_of [.tmp 2] 19 Tryz.func145 rfl nm145 rfl rfl ?_
  refine zr <| ow_boxA rfl rfl rfl ?_
  intro w1 hk1 hb1 hz1
  have hK := hK.ext hk1
  refine zA <| ow_nil <| zr <| zf tF67_0 rfl <| zl tOne9 rfl (hb1.at rfl) <| ow_call rfl rfl (l2Number_ret _ _) ?_
  rintro _ _ ⟨rfl, rfl⟩
  refine zm <| zx (i := 0) rfl rfl <| zx (i := 1) rfl rfl <| zA <| zA <| ow_nil <| cw_seq <| zr <| zm <| ow_not rfl rfl rfl <| zm ?_
  apply ow_or 4 13 17 [13, 14, 15, 16, 17] (fun w' => w1 = w') rfl
  intro h1
  replace h1 := tst h1
  refine zs <| zs <| zs <| zp rfl <| ow_nil ?_
  exact ⟨by repeat (first | with_reducible exact agree_refl | refine agree_upd rfl ?_ | refine agree_hav rfl ?_), rfl, rfl⟩
  intro h1
  replace h1 := tst h1
  refine zm <| ow_call rfl rfl (l6In_ret _ _ _ _) ?_
  rintro _ _ ⟨rfl, rfl⟩
  refine ow_not rfl rfl rfl <| zp rfl <| ow_nil ?_
  exact ⟨by repeat (first | with_reducible exact agree_refl | refine agree_upd rfl ?_ | refine agree_hav rfl ?_), rfl, rfl⟩
  rintro xx _ rfl
  refine ow_nil <| zc rfl (fun h2 => ?_) (fun h2 => ?_)
  have hr : regZ t.atom = -1 := by unfold regZ; cases hn : numeral t.atom with | none => rfl | some k => rw [hn] at h2; simp at h2; exact if_neg (by omega)
  refine zr <| zA <| ow_nil <| cw_ret ?_
  exact ⟨_, rfl, by rw [hr]; rfl, hK⟩
  have hr : regZ t.atom = (numeral t.atom).getD 0 := by unfold regZ; cases hn : numeral t.atom with | none => rw [hn] at h2; simp at h2 | some k => rw [hn] at h2; simp at h2; exact if_pos (by omega)
  refine cw_skip <| zr <| zm <| zA <| ow_nil <| cw_ret ?_
  exact ⟨_, rfl, by rw [hr]; rfl, hK⟩

theorem l6tType_ret : ∀ (m : Nat) (t : Tree), t.size ≤ m → t.size ≤ 100000 → WF t → ∀ (hidden : Bool) (v : Value) (L : List Nat) (w : World), RTree L w v t →
    Ret Tryz.prog 156 [v, .bool hidden, .bool false] w fun r w' => r = .bool (targetB hidden t) ∧ Keep [] w w' := by
  intro m
  induction m with
  | zero => intro t h; cases t; simp [Tree.size] at h
  | succ m ih =>
    intro t hm hm2 hwf hidden v L w hv
    obtain ⟨a, n, c, rfl, hn, hps⟩ := rtree_cases hv
    have hK := Keep.refl [] w
    have hpl := parts_le t
    refine ret_of [.tmp 6] 72 Tryz.func156 rfl nm156 rfl rfl ?_
    refine zr <| ow_boxA rfl rfl rfl ?_
    intro w1 hk1 hb3 hz1
    have hK := hK.ext hk1; have hps := hps.ext hk1
    refine zA <| ow_nil <| cw_seq <| zr <| zf tF67_0 rfl <| zl tOne9 rfl (hb3.at rfl) <| ow_sneq rfl rfl rfl rfl <| ow_nil <| zc rfl (fun h1 => ?_) (fun h1 => ?_)
    refine zr <| zf tF67_0 rfl <| zl tOne9 rfl (hb3.at rfl) <| ow_seql rfl rfl rfl rfl <| zm ?_
    apply ow_or 7 15 22 [15, 16, 17, 18, 19, 20, 21, 22] (fun w' => w1 = w') rfl
    intro h2
    replace h2 := tst h2
    refine zs <| zs <| zs <| zs <| zs <| zs <| zp rfl <| ow_nil ?_
    exact ⟨by repeat (first | with_reducible exact agree_refl | refine agree_upd rfl ?_ | refine agree_hav rfl ?_), rfl, rfl⟩
    intro h2
    replace h2 := tst h2
    skip
    refine zm <| zm ?_
    apply ow_and 4 17 21 [17, 18, 19, 20, 21] (fun w' => w1 = w') rfl
    intro h3
    replace h3 := tst h3
    skip
    refine zf tF67_0 rfl <| zl tOne9 rfl (hb3.at rfl) <| ow_seql rfl rfl rfl rfl <| zp rfl <| ow_nil ?_
    exact ⟨by repeat (first | with_reducible exact agree_refl | refine agree_upd rfl ?_ | refine agree_hav rfl ?_), rfl, rfl⟩
    intro h3
    replace h3 := tst h3
    refine zs <| zs <| zs <| zp rfl <| ow_nil ?_
    exact ⟨by repeat (first | with_reducible exact agree_refl | refine agree_upd rfl ?_ | refine agree_hav rfl ?_), rfl, rfl⟩
    rintro xx _ rfl
    refine zp rfl <| ow_nil ?_
    exact ⟨by repeat (first | with_reducible exact agree_refl | refine agree_upd rfl ?_ | refine agree_hav rfl ?_), rfl, rfl⟩
    rintro xx _ rfl
    refine zm ?_
    apply ow_or 7 23 30 [23, 24, 25, 26, 27, 28, 29, 30] (fun w' => w1 = w') rfl
    intro h4
    replace h4 := tst h4
    refine zs <| zs <| zs <| zs <| zs <| zs <| zp rfl <| ow_nil ?_
    exact ⟨by repeat (first | with_reducible exact agree_refl | refine agree_upd rfl ?_ | refine agree_hav rfl ?_), rfl, rfl⟩
    intro h4
    replace h4 := tst h4
    skip
    refine zm <| zm <| ow_known (t := 25) (b := false) (rfl) <| zs <| zs <| zs <| zp rfl <| zp rfl <| ow_nil ?_
    exact ⟨by repeat (first | with_reducible exact agree_refl | refine agree_upd rfl ?_ | refine agree_hav rfl ?_), rfl, rfl⟩
    rintro xx _ rfl
    refine zA <| ow_nil <| cw_ret ?_
    exact ⟨_, rfl, show Value.bool _ = Value.bool _ from congrArg _ (by rw [targetB_atom h1, Bool.or_false]), hK⟩
    have ha : t.atom = [] := Classical.not_not.1 h1
    have hpos := hwf.pos ha
    have hp0 := nth_get hpos
    obtain ⟨b, off, pa, pn, pc, rfl, hc0, hpn, hpp⟩ := rtrees_get hps hp0
    refine cw_skip <| zr <| zf tF67_1 rfl <| zl tOne65 rfl (hb3.at rfl) <| zi (i := 0) tSl65 tI67 rfl rfl (by rw [hn]; exact hpos) <| zf tF67_0 rfl <| zl tOne9 rfl (hc0 0 _ rfl) <| zA <| ow_nil <| cw_seq <| zr <| zm <| ow_seql rfl rfl rfl rfl <| ow_nil <| zc rfl (fun h5 => ?_) (fun h5 => ?_)
    refine zr <| zf tF67_1 rfl <| zl tOne65 rfl (hb3.at rfl) <| ow_len tSl65 rfl rfl rfl <| ow_eql rfl rfl rfl rfl rfl <| zm ?_
    apply ow_and 7 42 49 [42, 43, 44, 45, 46, 47, 48, 49] (Keep [] w1) rfl
    intro h6
    replace h6 := tst h6
    have hJ42 := Keep.refl [] w1
    have hlen : t.parts.length = 2 := by omega
    have hp1 := nth_get (ps := t.parts) (i := 1) (by omega)
    obtain ⟨b1, off1, pa1, pn1, pc1, hb1, hc1, hpn1, hpp1⟩ := rtrees_get hps hp1
    cases hb1
    refine zf tF67_1 rfl <| zl tOne65 rfl (hb3.at rfl) <| zi (i := 1) tSl65 tI67 rfl rfl (by omega) <| zL tAgg67 tI67 rfl (hc1) (rfl) <| zm <| ow_call rfl rfl (ih (nth t.parts 1) (by have := nth_size (t := t) (i := 1) (by omega); omega) (by have := nth_size (t := t) (i := 1) (by omega); omega) (hwf.nth (by omega)) true _ L w1 (rtree_of hpp1)) ?_
    rintro v2 w2 ⟨hv2, hk2⟩
    have hs2 := hk2.size
    have hJ42 := hJ42.ext hk2
    obtain rfl := hv2
    refine zp rfl <| ow_nil ?_
    exact ⟨by repeat (first | with_reducible exact agree_refl | refine agree_upd rfl ?_ | refine agree_hav rfl ?_), rfl, hJ42⟩
    intro h6
    replace h6 := tst h6
    have hJ42 := Keep.refl [] w1
    refine zs <| zs <| zs <| zs <| zs <| zs <| zp rfl <| ow_nil ?_
    exact ⟨by repeat (first | with_reducible exact agree_refl | refine agree_upd rfl ?_ | refine agree_hav rfl ?_), rfl, hJ42⟩
    intro xx w2 hk2
    have hK := hK.ext hk2
    refine zA <| ow_nil <| cw_ret <| ⟨_, rfl, show Value.bool _ = Value.bool _ from congrArg _ ?_, hK⟩
    rw [targetB_e ha hpos h5]
    congr 1
    exact decide_eq_decide.2 (by omega)
    have hne := h5
    refine cw_skip <| cw_seq <| zr <| zm <| ow_sneq rfl rfl rfl rfl <| zm ?_
    apply ow_and 3 52 55 [52, 53, 54, 55] (fun w' => w1 = w') rfl
    intro h7
    replace h7 := tst h7
    skip
    refine zm <| ow_sneq rfl rfl rfl rfl <| zp rfl <| ow_nil ?_
    exact ⟨by repeat (first | with_reducible exact agree_refl | refine agree_upd rfl ?_ | refine agree_hav rfl ?_), rfl, rfl⟩
    intro h7
    replace h7 := tst h7
    refine zs <| zs <| zp rfl <| ow_nil ?_
    exact ⟨by repeat (first | with_reducible exact agree_refl | refine agree_upd rfl ?_ | refine agree_hav rfl ?_), rfl, rfl⟩
    rintro xx _ rfl
    refine ow_nil <| zc rfl (fun h8 => ?_) (fun h8 => ?_)
    have hb := targetB_no ha hpos hne (ne2_t h8)
    refine zr <| zA <| ow_nil <| cw_ret ?_
    exact ⟨_, rfl, by rw [hb]; rfl, hK⟩
    have htc : (nth t.parts 0).atom = [116] ∨ (nth t.parts 0).atom = [99] := ne2_f h8
    refine cw_skip <| cw_seq <| zr <| zA <| ow_nil <| cw_block ?_
    refine cw_loop (fun k : Nat => [(3, .pointer (some ⟨w.heap.size, 0, none⟩)), (1, .bool hidden), (2, .bool false), (8, .int .i64 (k : Int))]) (fun k w' => Keep [] w w' ∧ Keep [] w1 w' ∧ 1 ≤ k ∧ k ≤ t.parts.length ∧ (t.parts.drop 1).all (targetB hidden) = (t.parts.drop k).all (targetB hidden)) (fun k => t.parts.length - k) (1) (⟨rfl, rfl, rfl, rfl⟩) (⟨hK, Keep.refl [] _, by omega, by omega, rfl⟩) ?_
    intro gg w2 e2 hI
    obtain ⟨hK, hk1, hk, hkl, hall⟩ := hI
    have hps := hps.ext hk1; have hb3 := hb3.ext hk1
    refine cw_seq <| zr <| zm <| zf tF67_1 rfl <| zl tOne65 rfl (hb3.at rfl) <| ow_len tSl65 rfl rfl rfl <| ow_lss rfl rfl rfl rfl rfl <| ow_nil <| zc rfl (fun h9 => ?_) (fun h9 => ?_)
    have hp := nth_get (ps := t.parts) (i := gg) (by omega)
    obtain ⟨b1, off1, pa1, pn1, pc1, hb1, hc1, hpn1, hpp1⟩ := rtrees_get hps hp
    cases hb1
    refine cw_skip <| cw_seq <| cw_block <| zr <| zf tF67_1 rfl <| zl tOne65 rfl (hb3.at rfl) <| zm <| zi tSl65 tI67 rfl rfl (by omega) <| zL tAgg67 tI67 rfl (hc1) (rfl) <| zm <| zm <| ow_call rfl rfl (ih (nth t.parts gg) (by have := nth_size (t := t) (i := gg) (by omega); omega) (by have := nth_size (t := t) (i := gg) (by omega); omega) (hwf.nth (by omega)) hidden _ L w2 (rtree_of hpp1)) ?_
    rintro v3 w3 ⟨hv3, hk3⟩
    have hs3 := hk3.size
    have hK := hK.ext hk3; have hk1 := hk1.ext hk3
    obtain rfl := hv3
    refine ow_not rfl rfl rfl <| ow_nil <| zc rfl (fun h10 => ?_) (fun h10 => ?_)
    have hb : targetB hidden t = false := by rw [targetB_tc ha hpos htc, hall, all_drop_step (by omega), h10]; rfl
    refine zr <| zA <| ow_nil <| cw_ret ?_
    exact ⟨_, rfl, by rw [hb]; rfl, hK⟩
    refine cw_skip <| cw_region <| zm <| ow_add rfl rfl rfl rfl rfl (wrap_i64 _ (by omega) (by omega)) <| zA <| ow_nil ?_
    exact ⟨gg + 1, ⟨rfl, rfl, rfl, rfl⟩, ⟨hK, hk1, by omega, by omega, by rw [hall, all_drop_step (by omega), h10]; rfl⟩, by omega⟩
    have hb : targetB hidden t = true := by rw [targetB_tc ha hpos htc, hall, List.drop_of_length_le (by omega)]; rfl
    refine cw_exit <| x_hit rfl <| zr <| zA <| ow_nil <| cw_ret ?_
    exact ⟨_, rfl, by rw [hb]; rfl, hK⟩
end Go.Proofs.YtnkjgoholocliaaGreatDoor

namespace Go.Proofs.YtnkjgoholocliaaGreatDoor
open Go

end Go.Proofs.YtnkjgoholocliaaGreatDoor

namespace Go.Proofs.YtnkjgoholocliaaGreatDoor
open Go

theorem l6tPart_ret (t : Tree) (hs : t.size ≤ 100000) (hwf : WF t) (z : Int) (v : Value) (L : List Nat) (w : World) (hv : RTree L w v t) :
    Ret Tryz.prog 175 [v, .int .u8 z] w fun r w' => r = .bool (partZ z t) ∧ Keep [] w w' := by
  have hv0 := hv
  obtain ⟨a, n, c, rfl, hn, hps⟩ := rtree_cases hv
  have hK := Keep.refl [] w
  have hal := atom_lt t
  refine ret_of [.tmp 4] 39 Tryz.func175 rfl nm175 rfl rfl ?_
  refine zr <| ow_boxA rfl rfl rfl ?_
  intro w1 hk1 hb2 hz1
  have hK := hK.ext hk1; have hv0 := hv0.ext hk1
  refine zA <| ow_nil <| cw_seq <| zr <| zm <| ow_nil <| cw_block <| cw_seq <| zr <| ow_eql rfl rfl rfl rfl rfl <| zA <| ow_nil ?_
  refine cw_cut (fun _ : Unit => [(2, .pointer (some ⟨w.heap.size, 0, none⟩)), (7, .int .u8 z), (8, .bool (decide (z = 114) || decide (z = 42)))]) (fun _ w' => w' = w1) ?_ ?_
  refine zc rfl (fun h1 => ?_) (fun h1 => ?_)
  refine cw_skip ?_
  exact ⟨(), ⟨rfl, rfl, congrArg Value.bool (or_tt h1)⟩, rfl⟩
  refine cw_region <| ow_eql rfl rfl rfl rfl rfl <| zA <| ow_nil ?_
  exact ⟨(), ⟨rfl, rfl, congrArg Value.bool (or_ff h1)⟩, rfl⟩
  intro gu w2 e2 hI
  obtain rfl := hI
  refine zc rfl (fun h2 => ?_) (fun h2 => ?_)
  have hc := or_t h2
  refine zr <| zL tAgg67 tI67 rfl hb2.all rfl <| ow_call rfl rfl (l6tReg_ret t _ L w2 hv0) ?_
  rintro v3 w3 ⟨hv3, hk3⟩
  have hs3 := hk3.size
  have hK := hK.ext hk3
  obtain rfl := hv3
  refine ow_geq rfl rfl rfl rfl rfl <| zA <| ow_nil <| cw_ret ?_
  exact ⟨_, rfl, show Value.bool _ = Value.bool _ from congrArg _ (by rw [partZ, if_pos hc]; rfl), hK⟩
  have hc := or_f h2
  refine zr <| ow_eql rfl rfl rfl rfl rfl <| zA <| ow_nil <| zc rfl (fun h3 => ?_) (fun h3 => ?_)
  have hc1 := h3
  refine zr <| zf tF67_0 rfl <| zl tOne9 rfl (hb2.at rfl) <| ow_call rfl rfl (l2Number_ret _ _) ?_
  rintro _ _ ⟨rfl, rfl⟩
  refine zm <| zx (i := 0) rfl rfl <| zx (i := 1) rfl rfl <| zA <| zA <| ow_nil <| zr <| zm <| zA <| ow_nil <| cw_ret ?_
  exact ⟨_, rfl, show Value.bool _ = Value.bool _ from congrArg _ (by rw [partZ, if_neg hc, if_pos hc1]), hK⟩
  have hc1 := h3
  refine zr <| ow_eql rfl rfl rfl rfl rfl <| zA <| ow_nil <| zc rfl (fun h4 => ?_) (fun h4 => ?_)
  have hc2 := h4
  refine zr <| zf tF67_0 rfl <| zl tOne9 rfl (hb2.at rfl) <| ow_call rfl rfl (l6tLabel_ret _ (by omega) _) ?_
  rintro _ _ ⟨rfl, rfl⟩
  refine zA <| ow_nil <| cw_ret ?_
  exact ⟨_, rfl, show Value.bool _ = Value.bool _ from congrArg _ (by rw [partZ, if_neg hc, if_neg hc1, if_pos hc2]), hK⟩
  have hc2 := h4
  refine zr <| ow_eql rfl rfl rfl rfl rfl <| zA <| ow_nil <| zc rfl (fun h5 => ?_) (fun h5 => ?_)
  have hc3 := h5
  refine zr <| zL tAgg67 tI67 rfl hb2.all rfl <| ow_call rfl rfl (l4Head_ret t _ L w2 hv0) ?_
  rintro v3 w3 ⟨hv3, hk3⟩
  have hs3 := hk3.size
  have hK := hK.ext hk3; have hv0 := hv0.ext hk3; have hb2 := hb2.ext hk3
  obtain rfl := hv3
  refine ow_seql rfl rfl rfl rfl <| zm ?_
  apply ow_and 3 33 36 [33, 34, 35, 36] (Keep [] w3) rfl
  intro h6
  replace h6 := tst h6
  have hJ33 := Keep.refl [] w3
  refine zL tAgg67 tI67 rfl hb2.all rfl <| ow_call rfl rfl (l6tType_ret t.size t (Nat.le_refl _) hs hwf false _ L w3 hv0) ?_
  rintro v4 w4 ⟨hv4, hk4⟩
  have hs4 := hk4.size
  have hJ33 := hJ33.ext hk4
  obtain rfl := hv4
  refine zp rfl <| ow_nil ?_
  exact ⟨by repeat (first | with_reducible exact agree_refl | refine agree_upd rfl ?_ | refine agree_hav rfl ?_), rfl, hJ33⟩
  intro h6
  replace h6 := tst h6
  have hJ33 := Keep.refl [] w3
  refine zs <| zs <| zp rfl <| ow_nil ?_
  exact ⟨by repeat (first | with_reducible exact agree_refl | refine agree_upd rfl ?_ | refine agree_hav rfl ?_), rfl, hJ33⟩
  intro xx w4 hk4
  have hK := hK.ext hk4
  refine zA <| ow_nil <| cw_ret ?_
  exact ⟨_, rfl, show Value.bool _ = Value.bool _ from congrArg _ (by rw [partZ, if_neg hc, if_neg hc1, if_neg hc2, if_pos hc3]), hK⟩
  have hc3 := h5
  refine cw_skip <| zr <| zL tAgg67 tI67 rfl hb2.all rfl <| ow_call rfl rfl (l6tType_ret t.size t (Nat.le_refl _) hs hwf false _ L w2 hv0) ?_
  rintro v3 w3 ⟨hv3, hk3⟩
  have hs3 := hk3.size
  have hK := hK.ext hk3
  obtain rfl := hv3
  refine zA <| ow_nil <| cw_ret ?_
  exact ⟨_, rfl, show Value.bool _ = Value.bool _ from congrArg _ (by rw [partZ, if_neg hc, if_neg hc1, if_neg hc2, if_neg hc3]), hK⟩

theorem l6tShape_ret (h : Bytes) (w : World) : Ret Tryz.prog 146 [str h] w fun r w' => r = str (shapeOf h) ∧ w = w' := by
  refine ret_of [.tmp 2] 25 Tryz.func146 rfl nm146 rfl rfl ?_
  refine zr <| zA <| ow_nil <| cw_seq <| zr <| zm <| ow_nil <| cw_block <| zr <| ow_seql rfl rfl rfl rfl <| zA <| ow_nil <| zc rfl (fun h1 => ?_) (fun h1 => ?_)
  have hc := h1
  refine zr <| zA <| ow_nil <| cw_ret ?_
  exact ⟨_, rfl, show str _ = str _ from congrArg _ (by rw [shapeOf, if_pos hc]), rfl⟩
  have hc := h1
  refine cw_seq <| zr <| ow_seql rfl rfl rfl rfl <| zA <| ow_nil ?_
  refine cw_cut (fun _ : Unit => [(3, str h), (6, .bool (decide (h = [109, 111, 118]) || decide (h = [111, 112, 101, 110])))]) (fun _ w' => w' = w) ?_ ?_
  refine zc rfl (fun h2 => ?_) (fun h2 => ?_)
  refine cw_skip ?_
  exact ⟨(), ⟨rfl, congrArg Value.bool (or_tt h2)⟩, rfl⟩
  refine cw_region <| ow_seql rfl rfl rfl rfl <| zA <| ow_nil ?_
  exact ⟨(), ⟨rfl, congrArg Value.bool (or_ff h2)⟩, rfl⟩
  intro gu w1 e1 hI
  obtain rfl := hI
  refine zc rfl (fun h3 => ?_) (fun h3 => ?_)
  have hc1 := or_t h3
  refine zr <| zA <| ow_nil <| cw_ret ?_
  exact ⟨_, rfl, show str _ = str _ from congrArg _ (by rw [shapeOf, if_neg hc, if_pos hc1]), rfl⟩
  have hc1 := or_f h3
  refine cw_seq <| zr <| ow_seql rfl rfl rfl rfl <| zA <| ow_nil ?_
  refine cw_cut (fun _ : Unit => [(3, str h), (9, .bool (decide (h = [97, 100, 100]) || decide (h = [115, 117, 98]) || decide (h = [109, 117, 108])))]) (fun _ w' => w' = w1) ?_ ?_
  refine zc rfl (fun h4 => ?_) (fun h4 => ?_)
  refine cw_skip ?_
  exact ⟨(), ⟨rfl, congrArg Value.bool (or3_1 h4)⟩, rfl⟩
  have hn1 := h4
  refine zr <| ow_seql rfl rfl rfl rfl <| zA <| ow_nil <| zc rfl (fun h5 => ?_) (fun h5 => ?_)
  refine cw_skip ?_
  exact ⟨(), ⟨rfl, congrArg Value.bool (or3_2 hn1 h5)⟩, rfl⟩
  refine cw_region <| ow_seql rfl rfl rfl rfl <| zA <| ow_nil ?_
  exact ⟨(), ⟨rfl, congrArg Value.bool (or3_3 hn1 h5)⟩, rfl⟩
  intro gu w2 e2 hI
  obtain rfl := hI
  refine zc rfl (fun h6 => ?_) (fun h6 => ?_)
  have hc2 := or3_t h6
  refine zr <| zA <| ow_nil <| cw_ret ?_
  exact ⟨_, rfl, show str _ = str _ from congrArg _ (by rw [shapeOf, if_neg hc, if_neg hc1, if_pos hc2]), rfl⟩
  have hc2 := or3_f h6
  refine zr <| ow_seql rfl rfl rfl rfl <| zA <| ow_nil <| zc rfl (fun h7 => ?_) (fun h7 => ?_)
  have hc3 := h7
  refine zr <| zA <| ow_nil <| cw_ret ?_
  exact ⟨_, rfl, show str _ = str _ from congrArg _ (by rw [shapeOf, if_neg hc, if_neg hc1, if_neg hc2, if_pos hc3]), rfl⟩
  have hc3 := h7
  refine zr <| ow_seql rfl rfl rfl rfl <| zA <| ow_nil <| zc rfl (fun h8 => ?_) (fun h8 => ?_)
  have hc4 := h8
  refine zr <| zA <| ow_nil <| cw_ret ?_
  exact ⟨_, rfl, show str _ = str _ from congrArg _ (by rw [shapeOf, if_neg hc, if_neg hc1, if_neg hc2, if_neg hc3, if_pos hc4]), rfl⟩
  have hc4 := h8
  refine cw_seq <| zr <| ow_seql rfl rfl rfl rfl <| zA <| ow_nil ?_
  refine cw_cut (fun _ : Unit => [(3, str h), (17, .bool (decide (h = [108, 97, 98]) || decide (h = [122, 101, 114, 111])))]) (fun _ w' => w' = w2) ?_ ?_
  refine zc rfl (fun h9 => ?_) (fun h9 => ?_)
  refine cw_skip ?_
  exact ⟨(), ⟨rfl, congrArg Value.bool (or_tt h9)⟩, rfl⟩
  refine cw_region <| ow_seql rfl rfl rfl rfl <| zA <| ow_nil ?_
  exact ⟨(), ⟨rfl, congrArg Value.bool (or_ff h9)⟩, rfl⟩
  intro gu w3 e3 hI
  obtain rfl := hI
  refine zc rfl (fun h10 => ?_) (fun h10 => ?_)
  have hc5 := or_t h10
  refine zr <| zA <| ow_nil <| cw_ret ?_
  exact ⟨_, rfl, show str _ = str _ from congrArg _ (by rw [shapeOf, if_neg hc, if_neg hc1, if_neg hc2, if_neg hc3, if_neg hc4, if_pos hc5]), rfl⟩
  have hc5 := or_f h10
  refine zr <| ow_seql rfl rfl rfl rfl <| zA <| ow_nil <| zc rfl (fun h11 => ?_) (fun h11 => ?_)
  have hc6 := h11
  refine zr <| zA <| ow_nil <| cw_ret ?_
  exact ⟨_, rfl, show str _ = str _ from congrArg _ (by rw [shapeOf, if_neg hc, if_neg hc1, if_neg hc2, if_neg hc3, if_neg hc4, if_neg hc5, if_pos hc6]), rfl⟩
  have hc6 := h11
  refine cw_seq <| zr <| ow_seql rfl rfl rfl rfl <| zA <| ow_nil ?_
  refine cw_cut (fun _ : Unit => [(3, str h), (22, .bool (decide (h = [106, 117, 109, 112]) || decide (h = [104, 97, 108, 116])))]) (fun _ w' => w' = w3) ?_ ?_
  refine zc rfl (fun h12 => ?_) (fun h12 => ?_)
  refine cw_skip ?_
  exact ⟨(), ⟨rfl, congrArg Value.bool (or_tt h12)⟩, rfl⟩
  refine cw_region <| ow_seql rfl rfl rfl rfl <| zA <| ow_nil ?_
  exact ⟨(), ⟨rfl, congrArg Value.bool (or_ff h12)⟩, rfl⟩
  intro gu w4 e4 hI
  obtain rfl := hI
  refine zc rfl (fun h13 => ?_) (fun h13 => ?_)
  have hc7 := or_t h13
  refine zr <| zA <| ow_nil <| cw_ret ?_
  exact ⟨_, rfl, show str _ = str _ from congrArg _ (by rw [shapeOf, if_neg hc, if_neg hc1, if_neg hc2, if_neg hc3, if_neg hc4, if_neg hc5, if_neg hc6, if_pos hc7]), rfl⟩
  have hc7 := or_f h13
  refine cw_skip <| zr <| zA <| ow_nil <| cw_ret ?_
  exact ⟨_, rfl, show str _ = str _ from congrArg _ (by rw [shapeOf, if_neg hc, if_neg hc1, if_neg hc2, if_neg hc3, if_neg hc4, if_neg hc5, if_neg hc6, if_neg hc7]), rfl⟩
end Go.Proofs.YtnkjgoholocliaaGreatDoor
