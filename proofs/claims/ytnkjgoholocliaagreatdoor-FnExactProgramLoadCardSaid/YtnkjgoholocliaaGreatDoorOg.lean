/-
  Lemmas for the law of ProgramLoad, no statement of their own: walks of the program's small functions.
-/
import Derived.Test.YtnkjgoholocliaaGreatDoorOf
import Derived.Test.YtnkjgoholocliaaGreatDoorOs
import Derived.Test.YtnkjgoholocliaaGreatDoorOc
import Derived.Test.YtnkjgoholocliaaGreatDoorOd
namespace Go.Proofs.YtnkjgoholocliaaGreatDoor
open Go

theorem hasPrefix_ret (s p : Bytes) (w : World) : Ret Tryz.prog 125 [str s, str p] w fun v w' => v = .bool (Lib.hasPrefix s p) ∧ w = w' :=
  ⟨Callable.mk' Tryz.func125 rfl nm125, Calls.mono (Tryz.strings_HasPrefix ⟨s.toArray⟩ ⟨p.toArray⟩ w) fun e w' ⟨he, hw⟩ => ⟨_, he, by simp, hw.symm⟩⟩
theorem trimPrefix_ret (s p : Bytes) (w : World) : Ret Tryz.prog 179 [str s, str p] w fun v w' => v = str (Lib.trimPrefix s p) ∧ w = w' :=
  ⟨Callable.mk' Tryz.func179 rfl nm179, Calls.mono (Tryz.strings_TrimPrefix ⟨s.toArray⟩ ⟨p.toArray⟩ w) fun e w' ⟨he, hw⟩ => ⟨_, he, by simp [str], hw.symm⟩⟩
theorem keep_freeze (w : World) (o : Obj) (a : Addr) (n : Nat) (ha : a.block = w.heap.size) : Keep [] w ((w.alloc o).freeze a n) := by
  unfold World.freeze
  split
  · exact Keep.alloc [] w o
  · refine ⟨rfl, rfl, rfl, ?_, fun k hk _ => ?_⟩
    · show w.heap.size ≤ Array.size (Array.modify (w.alloc o).heap _ _)
      rw [Array.size_modify]; exact (Keep.alloc [] w o).size
    · show (Array.modify (w.alloc o).heap _ _)[k]? = _
      rw [Array.getElem?_modify, if_neg (by rw [ha]; omega)]; exact (Keep.alloc [] w o).block k hk (by simp)
theorem keep_bytesWorld (w : World) (e : TypeId) (s : ByteArray) : Keep [] w (Lib.bytesWorld w e s) :=
  (Keep.drew [] w).trans (keep_freeze _ _ _ _ rfl)
theorem atoi_ret (s : Bytes) {z : Int} (h : numeral s = some z) (w : World) : Ret Tryz.prog 155 [str s] w fun v w' => v = .tuple #[.int .i64 z, .nilIface] ∧ Keep [] w w' :=
  ⟨Callable.mk' Tryz.func155 rfl nm155, Calls.mono (Tryz.strconv_Atoi ⟨s.toArray⟩ z (by have := numeral_short h; simp [ByteArray.size]; omega) (by simpa using atoi_numeral h) w) fun e w' ⟨he, t, hw⟩ => ⟨_, he, rfl, by rw [hw]; exact keep_bytesWorld _ _ _⟩⟩

theorem within_ret (a b c : Int) (w : World) : Ret Tryz.prog 100 [.int .i64 a, .int .i64 b, .int .i64 c] w fun v w' => v = .bool (decide (b ≤ a) && decide (a ≤ c)) ∧ w = w' := by
  refine ret_of [.tmp 6] 15 Tryz.func100 rfl nm100 rfl rfl ?_
  refine zr <| zA <| ow_nil <| zr <| zm <| zm <| ow_leq rfl rfl rfl rfl rfl <| zm ?_
  apply ow_and 4 10 14 [10, 11, 12, 13, 14] (fun w' => w = w') rfl
  intro h1
  replace h1 := tst h1
  refine zm <| zm <| ow_leq rfl rfl rfl rfl rfl <| zp rfl <| ow_nil ?_
  exact ⟨by repeat (first | with_reducible exact agree_refl | refine agree_upd rfl ?_ | refine agree_hav rfl ?_), rfl, rfl⟩
  intro h1
  replace h1 := tst h1
  refine zs <| zs <| zs <| zp rfl <| ow_nil ?_
  exact ⟨by repeat (first | with_reducible exact agree_refl | refine agree_upd rfl ?_ | refine agree_hav rfl ?_), rfl, rfl⟩
  rintro xx _ rfl
  refine zA <| ow_nil <| cw_ret ?_
  exact ⟨_, rfl, rfl, rfl⟩

theorem isAtomByte_ret (c : UInt8) (w : World) : Ret Tryz.prog 140 [.int .u8 c.toNat] w fun v w' => v = .bool (atomByte c) ∧ w = w' := by
  refine ret_of [.tmp 2] 33 Tryz.func140 rfl nm140 rfl rfl ?_
  refine zr <| zA <| ow_nil <| zr <| zm <| ow_geq rfl rfl rfl rfl rfl <| zm ?_
  apply ow_and 3 5 8 [5, 6, 7, 8] (fun w' => w = w') rfl
  intro h1
  replace h1 := tst h1
  refine zm <| ow_leq rfl rfl rfl rfl rfl <| zp rfl <| ow_nil ?_
  exact ⟨by repeat (first | with_reducible exact agree_refl | refine agree_upd rfl ?_ | refine agree_hav rfl ?_), rfl, rfl⟩
  intro h1
  replace h1 := tst h1
  refine zs <| zs <| zp rfl <| ow_nil ?_
  exact ⟨by repeat (first | with_reducible exact agree_refl | refine agree_upd rfl ?_ | refine agree_hav rfl ?_), rfl, rfl⟩
  rintro xx _ rfl
  refine zm ?_
  apply ow_or 7 9 16 [9, 10, 11, 12, 13, 14, 15, 16] (fun w' => w = w') rfl
  intro h2
  replace h2 := tst h2
  refine zs <| zs <| zs <| zs <| zs <| zs <| zp rfl <| ow_nil ?_
  exact ⟨by repeat (first | with_reducible exact agree_refl | refine agree_upd rfl ?_ | refine agree_hav rfl ?_), rfl, rfl⟩
  intro h2
  replace h2 := tst h2
  refine zm <| ow_geq rfl rfl rfl rfl rfl <| zm ?_
  apply ow_and 3 12 15 [12, 13, 14, 15] (fun w' => w = w') rfl
  intro h3
  replace h3 := tst h3
  refine zm <| ow_leq rfl rfl rfl rfl rfl <| zp rfl <| ow_nil ?_
  exact ⟨by repeat (first | with_reducible exact agree_refl | refine agree_upd rfl ?_ | refine agree_hav rfl ?_), rfl, rfl⟩
  intro h3
  replace h3 := tst h3
  refine zs <| zs <| zp rfl <| ow_nil ?_
  exact ⟨by repeat (first | with_reducible exact agree_refl | refine agree_upd rfl ?_ | refine agree_hav rfl ?_), rfl, rfl⟩
  rintro xx _ rfl
  refine zp rfl <| ow_nil ?_
  exact ⟨by repeat (first | with_reducible exact agree_refl | refine agree_upd rfl ?_ | refine agree_hav rfl ?_), rfl, rfl⟩
  rintro xx _ rfl
  refine zm ?_
  apply ow_or 3 17 20 [17, 18, 19, 20] (fun w' => w = w') rfl
  intro h4
  replace h4 := tst h4
  refine zs <| zs <| zp rfl <| ow_nil ?_
  exact ⟨by repeat (first | with_reducible exact agree_refl | refine agree_upd rfl ?_ | refine agree_hav rfl ?_), rfl, rfl⟩
  intro h4
  replace h4 := tst h4
  refine zm <| ow_eql rfl rfl rfl rfl rfl <| zp rfl <| ow_nil ?_
  exact ⟨by repeat (first | with_reducible exact agree_refl | refine agree_upd rfl ?_ | refine agree_hav rfl ?_), rfl, rfl⟩
  rintro xx _ rfl
  refine zm ?_
  apply ow_or 3 21 24 [21, 22, 23, 24] (fun w' => w = w') rfl
  intro h5
  replace h5 := tst h5
  refine zs <| zs <| zp rfl <| ow_nil ?_
  exact ⟨by repeat (first | with_reducible exact agree_refl | refine agree_upd rfl ?_ | refine agree_hav rfl ?_), rfl, rfl⟩
  intro h5
  replace h5 := tst h5
  refine zm <| ow_eql rfl rfl rfl rfl rfl <| zp rfl <| ow_nil ?_
  exact ⟨by repeat (first | with_reducible exact agree_refl | refine agree_upd rfl ?_ | refine agree_hav rfl ?_), rfl, rfl⟩
  rintro xx _ rfl
  refine zm ?_
  apply ow_or 3 25 28 [25, 26, 27, 28] (fun w' => w = w') rfl
  intro h6
  replace h6 := tst h6
  refine zs <| zs <| zp rfl <| ow_nil ?_
  exact ⟨by repeat (first | with_reducible exact agree_refl | refine agree_upd rfl ?_ | refine agree_hav rfl ?_), rfl, rfl⟩
  intro h6
  replace h6 := tst h6
  refine zm <| ow_eql rfl rfl rfl rfl rfl <| zp rfl <| ow_nil ?_
  exact ⟨by repeat (first | with_reducible exact agree_refl | refine agree_upd rfl ?_ | refine agree_hav rfl ?_), rfl, rfl⟩
  rintro xx _ rfl
  refine zm ?_
  apply ow_or 3 29 32 [29, 30, 31, 32] (fun w' => w = w') rfl
  intro h7
  replace h7 := tst h7
  refine zs <| zs <| zp rfl <| ow_nil ?_
  exact ⟨by repeat (first | with_reducible exact agree_refl | refine agree_upd rfl ?_ | refine agree_hav rfl ?_), rfl, rfl⟩
  intro h7
  replace h7 := tst h7
  refine zm <| ow_eql rfl rfl rfl rfl rfl <| zp rfl <| ow_nil ?_
  exact ⟨by repeat (first | with_reducible exact agree_refl | refine agree_upd rfl ?_ | refine agree_hav rfl ?_), rfl, rfl⟩
  rintro xx _ rfl
  refine zA <| ow_nil <| cw_ret ?_
  exact ⟨_, rfl, congrArg Value.bool (atomByte_z c), rfl⟩

theorem areDigits_ret (s : Bytes) (hs : s.length < 9223372036854775807) (w : World) : Ret Tryz.prog 180 [str s] w fun v w' => v = .bool (s.all dig) ∧ w = w' := by
  refine ret_of [.tmp 2] 20 Tryz.func180 rfl nm180 rfl rfl ?_
  refine zr <| zA <| ow_nil <| cw_seq <| zr <| zm <| ow_lenS tStr9 rfl rfl rfl <| zm <| ow_nil <| cw_block ?_
  refine cw_loop (fun k : Nat => [(0, str s), (5, .int .i64 (s.length : Int)), (6, .int .i64 (k : Int))]) (fun k w' => w' = w ∧ k ≤ s.length ∧ (s.take k).all dig = true) (fun k => s.length - k) (0) (⟨rfl, rfl, rfl⟩) (⟨rfl, by omega, by simp⟩) ?_
  intro gg w1 e1 hI
  obtain ⟨rfl, hk, hall⟩ := hI
  refine zr <| ow_lss rfl rfl rfl rfl rfl <| ow_nil <| cw_seq <| zc rfl (fun h1 => ?_) (fun h1 => ?_)
  have hlt : gg < s.length := by omega
  refine cw_skip <| cw_seq <| cw_block <| zr <| zm <| zA <| ow_nil <| zr <| zm <| zm <| ow_sindex tStr9 rfl rfl rfl rfl (get_getD hlt) <| ow_lss rfl rfl rfl rfl rfl <| zm ?_
  apply ow_or 5 13 18 [13, 14, 15, 16, 17, 18] (fun w' => w1 = w') rfl
  intro h2
  replace h2 := tst h2
  refine zs <| zs <| zs <| zs <| zp rfl <| ow_nil ?_
  exact ⟨by repeat (first | with_reducible exact agree_refl | refine agree_upd rfl ?_ | refine agree_hav rfl ?_), rfl, rfl⟩
  intro h2
  replace h2 := tst h2
  skip
  refine zm <| zm <| ow_sindex tStr9 rfl rfl rfl rfl (get_getD hlt) <| ow_gtr rfl rfl rfl rfl rfl <| zp rfl <| ow_nil ?_
  exact ⟨by repeat (first | with_reducible exact agree_refl | refine agree_upd rfl ?_ | refine agree_hav rfl ?_), rfl, rfl⟩
  rintro xx _ rfl
  refine ow_nil <| zc rfl (fun h3 => ?_) (fun h3 => ?_)
  have hq : s.all dig = false := all_no hlt (dig_no h3)
  refine zr <| zA <| ow_nil <| cw_ret ?_
  exact ⟨_, rfl, by rw [hq]; rfl, rfl⟩
  have hc := dig_yes h3
  refine cw_skip <| cw_region <| ow_add rfl rfl rfl rfl rfl (wrap_i64 _ (by omega) (by omega)) <| zm <| ow_nil ?_
  exact ⟨gg + 1, ⟨rfl, rfl, rfl⟩, ⟨rfl, by omega, by rw [take_snoc hlt, List.all_append, hall]; simp only [List.all_cons, hc.2.2]; rfl⟩, by omega⟩
  have hq : s.all dig = true := by rw [List.take_of_length_le (by omega)] at hall; exact hall
  refine cw_exit <| x_hit rfl <| zr <| zA <| ow_nil <| cw_ret ?_
  exact ⟨_, rfl, by rw [hq]; rfl, rfl⟩

theorem isNumeral_ret (s : Bytes) (hs : s.length < 9223372036854775807) (w : World) : Ret Tryz.prog 160 [str s] w fun v w' => v = .bool (numeral s).isSome ∧ w = w' := by
  have hl : (dgs s).length ≤ s.length := by unfold dgs; split <;> simp
  refine ret_of [.tmp 2] 22 Tryz.func160 rfl nm160 rfl rfl ?_
  refine zr <| zA <| ow_nil <| zr <| zm <| ow_call rfl rfl (trimPrefix_ret _ _ _) ?_
  rintro _ _ ⟨rfl, rfl⟩
  refine zA <| ow_nil <| zr <| zm <| ow_seql rfl rfl rfl rfl <| zm ?_
  rw [trim_dgs]
  apply ow_or 13 8 21 [8, 9, 10, 11, 12, 13, 14, 15, 16, 17, 18, 19, 20, 21] (fun w' => w = w') rfl
  intro h1
  replace h1 := tst h1
  refine zs <| zs <| zs <| zs <| zs <| zs <| zs <| zs <| zs <| zs <| zs <| zs <| zp rfl <| ow_nil ?_
  exact ⟨by repeat (first | with_reducible exact agree_refl | refine agree_upd rfl ?_ | refine agree_hav rfl ?_), rfl, rfl⟩
  intro h1
  replace h1 := tst h1
  refine zm <| ow_lenS tStr9 rfl rfl rfl <| ow_call rfl rfl (within_ret _ _ _ _) ?_
  rintro _ _ ⟨rfl, rfl⟩
  refine zm ?_
  apply ow_and 3 12 15 [12, 13, 14, 15] (fun w' => w = w') rfl
  intro h2
  replace h2 := tst h2
  skip
  refine zm <| ow_call rfl rfl (areDigits_ret _ (by omega) _) ?_
  rintro _ _ ⟨rfl, rfl⟩
  refine zp rfl <| ow_nil ?_
  exact ⟨by repeat (first | with_reducible exact agree_refl | refine agree_upd rfl ?_ | refine agree_hav rfl ?_), rfl, rfl⟩
  intro h2
  replace h2 := tst h2
  refine zs <| zs <| zp rfl <| ow_nil ?_
  exact ⟨by repeat (first | with_reducible exact agree_refl | refine agree_upd rfl ?_ | refine agree_hav rfl ?_), rfl, rfl⟩
  rintro xx _ rfl
  refine zm ?_
  apply ow_and 4 16 20 [16, 17, 18, 19, 20] (fun w' => w = w') rfl
  intro h3
  replace h3 := tst h3
  simp at h3
  refine zm <| ow_sindex (i := 0) tStr9 rfl rfl rfl rfl (get_getD (by omega)) <| ow_neq rfl rfl rfl rfl rfl <| zp rfl <| ow_nil ?_
  exact ⟨by repeat (first | with_reducible exact agree_refl | refine agree_upd rfl ?_ | refine agree_hav rfl ?_), rfl, rfl⟩
  intro h3
  replace h3 := tst h3
  refine zs <| zs <| zs <| zp rfl <| ow_nil ?_
  exact ⟨by repeat (first | with_reducible exact agree_refl | refine agree_upd rfl ?_ | refine agree_hav rfl ?_), rfl, rfl⟩
  rintro xx _ rfl
  refine zp rfl <| ow_nil ?_
  exact ⟨by repeat (first | with_reducible exact agree_refl | refine agree_upd rfl ?_ | refine agree_hav rfl ?_), rfl, rfl⟩
  rintro xx _ rfl
  refine zA <| ow_nil <| cw_ret ?_
  exact ⟨_, rfl, show Value.bool _ = Value.bool _ from congrArg _ (numeral_z s), rfl⟩

theorem number_ret (s : Bytes) {z : Int} (h : numeral s = some z) (w : World) : Ret Tryz.prog 127 [str s] w fun v w' => v = .int .i64 z ∧ Keep [] w w' := by
  have hK := Keep.refl [] w
  refine ret_of [.tmp 2] 11 Tryz.func127 rfl nm127 rfl rfl ?_
  refine zr <| zA <| ow_nil <| zr <| zm <| ow_call rfl rfl (atoi_ret s h w) ?_
  rintro v1 w1 ⟨hv1, hk1⟩
  have hs1 := hk1.size
  have hK := hK.ext hk1
  obtain rfl := hv1
  refine zm <| zx (i := 0) rfl rfl <| zx (i := 1) rfl rfl <| zA <| zA <| ow_nil <| zr <| zm <| zA <| ow_nil <| cw_ret ?_
  exact ⟨_, rfl, rfl, hK⟩

theorem isReg_ret (s : Bytes) (hs : s.length < 9223372036854775807) (w : World) : Ret Tryz.prog 159 [str s] w fun v w' => v = .bool (isReg s) ∧ Keep [] w w' := by
  have hK := Keep.refl [] w
  refine ret_of [.tmp 2] 10 Tryz.func159 rfl nm159 rfl rfl ?_
  refine zr <| zA <| ow_nil <| zr <| zm <| ow_call rfl rfl (isNumeral_ret s hs _) ?_
  rintro _ _ ⟨rfl, rfl⟩
  refine zm ?_
  apply ow_and 4 5 9 [5, 6, 7, 8, 9] (Keep [] w) rfl
  intro h1
  replace h1 := tst h1
  have hJ5 := Keep.refl [] w
  obtain ⟨z, hz⟩ := Option.isSome_iff_exists.1 h1
  have hzz : z = (numeral s).getD 0 := by rw [hz]; rfl
  refine zm <| ow_call rfl rfl (number_ret s hz w) ?_
  rintro v1 w1 ⟨hv1, hk1⟩
  have hs1 := hk1.size
  have hJ5 := hJ5.ext hk1
  obtain rfl := hv1
  rw [hzz]
  refine ow_call rfl rfl (within_ret _ _ _ _) ?_
  rintro _ _ ⟨rfl, rfl⟩
  refine zp rfl <| ow_nil ?_
  exact ⟨by repeat (first | with_reducible exact agree_refl | refine agree_upd rfl ?_ | refine agree_hav rfl ?_), rfl, hJ5⟩
  intro h1
  replace h1 := tst h1
  have hJ5 := Keep.refl [] w
  refine zs <| zs <| zs <| zp rfl <| ow_nil ?_
  exact ⟨by repeat (first | with_reducible exact agree_refl | refine agree_upd rfl ?_ | refine agree_hav rfl ?_), rfl, hJ5⟩
  intro xx w1 hk1
  have hK := hK.ext hk1
  refine zA <| ow_nil <| cw_ret ?_
  exact ⟨_, rfl, show Value.bool _ = Value.bool _ from congrArg _ (isReg_eq s), hK⟩

theorem isLabelI_ret (s : Bytes) (hs : s.length < 9223372036854775807) (w : World) : Ret Tryz.prog 134 [str s] w fun r w' => r = .bool (isLabel s) ∧ w = w' := by
  refine ret_of [.tmp 2] 35 Tryz.func134 rfl nm134 rfl rfl ?_
  refine zr <| zA <| ow_nil <| cw_seq <| zr <| zm <| ow_lenS tStr9 rfl rfl rfl <| zm <| ow_nil <| cw_block ?_
  refine cw_loop (fun k : Nat => [(0, str s), (6, .int .i64 (s.length : Int)), (7, .int .i64 (k : Int))]) (fun k w' => w' = w ∧ k ≤ s.length ∧ ∀ j, j < k → labelAt s j = true) (fun k => s.length - k) (0) (⟨rfl, rfl, rfl⟩) (⟨rfl, by omega, by intro j hj; omega⟩) ?_
  intro gg w1 e1 hI
  obtain ⟨rfl, hk, hall⟩ := hI
  refine zr <| ow_lss rfl rfl rfl rfl rfl <| ow_nil <| cw_seq <| zc rfl (fun h1 => ?_) (fun h1 => ?_)
  refine cw_skip <| cw_seq <| cw_block <| zr <| zm <| zA <| ow_nil <| zr <| zm <| zm <| ow_sindex tStr9 rfl rfl rfl rfl (get_getD (by omega)) <| zA <| ow_nil <| zr <| zm <| ow_geq rfl rfl rfl rfl rfl <| zm ?_
  apply ow_and 3 15 18 [15, 16, 17, 18] (fun w' => w1 = w') rfl
  intro h2
  replace h2 := tst h2
  refine zm <| ow_leq rfl rfl rfl rfl rfl <| zp rfl <| ow_nil ?_
  exact ⟨by repeat (first | with_reducible exact agree_refl | refine agree_upd rfl ?_ | refine agree_hav rfl ?_), rfl, rfl⟩
  intro h2
  replace h2 := tst h2
  refine zs <| zs <| zp rfl <| ow_nil ?_
  exact ⟨by repeat (first | with_reducible exact agree_refl | refine agree_upd rfl ?_ | refine agree_hav rfl ?_), rfl, rfl⟩
  rintro xx _ rfl
  refine zm ?_
  apply ow_or 11 19 30 [19, 20, 21, 22, 23, 24, 25, 26, 27, 28, 29, 30] (fun w' => w1 = w') rfl
  intro h3
  replace h3 := tst h3
  refine zs <| zs <| zs <| zs <| zs <| zs <| zs <| zs <| zs <| zs <| zp rfl <| ow_nil ?_
  exact ⟨by repeat (first | with_reducible exact agree_refl | refine agree_upd rfl ?_ | refine agree_hav rfl ?_), rfl, rfl⟩
  intro h3
  replace h3 := tst h3
  refine zm <| ow_gtr rfl rfl rfl rfl rfl <| zm ?_
  apply ow_and 3 22 25 [22, 23, 24, 25] (fun w' => w1 = w') rfl
  intro h4
  replace h4 := tst h4
  refine zm <| ow_geq rfl rfl rfl rfl rfl <| zp rfl <| ow_nil ?_
  exact ⟨by repeat (first | with_reducible exact agree_refl | refine agree_upd rfl ?_ | refine agree_hav rfl ?_), rfl, rfl⟩
  intro h4
  replace h4 := tst h4
  refine zs <| zs <| zp rfl <| ow_nil ?_
  exact ⟨by repeat (first | with_reducible exact agree_refl | refine agree_upd rfl ?_ | refine agree_hav rfl ?_), rfl, rfl⟩
  rintro xx _ rfl
  refine zm ?_
  apply ow_and 3 26 29 [26, 27, 28, 29] (fun w' => w1 = w') rfl
  intro h5
  replace h5 := tst h5
  refine zm <| ow_leq rfl rfl rfl rfl rfl <| zp rfl <| ow_nil ?_
  exact ⟨by repeat (first | with_reducible exact agree_refl | refine agree_upd rfl ?_ | refine agree_hav rfl ?_), rfl, rfl⟩
  intro h5
  replace h5 := tst h5
  refine zs <| zs <| zp rfl <| ow_nil ?_
  exact ⟨by repeat (first | with_reducible exact agree_refl | refine agree_upd rfl ?_ | refine agree_hav rfl ?_), rfl, rfl⟩
  rintro xx _ rfl
  refine zp rfl <| ow_nil ?_
  exact ⟨by repeat (first | with_reducible exact agree_refl | refine agree_upd rfl ?_ | refine agree_hav rfl ?_), rfl, rfl⟩
  rintro xx _ rfl
  refine ow_not rfl rfl rfl <| ow_nil <| zc rfl (fun h6 => ?_) (fun h6 => ?_)
  rw [label_z] at h6
  refine zr <| zA <| ow_nil <| cw_ret ?_
  exact ⟨_, rfl, by rw [isLabel_no (by omega) h6]; rfl, rfl⟩
  rw [label_z] at h6
  refine cw_skip <| cw_region <| ow_add rfl rfl rfl rfl rfl (wrap_i64 _ (by omega) (by omega)) <| zm <| ow_nil ?_
  exact ⟨gg + 1, ⟨rfl, rfl, rfl⟩, ⟨rfl, by omega, all_upto hall h6⟩, by omega⟩
  refine cw_exit <| x_hit rfl <| zr <| zm <| ow_sneq rfl rfl rfl rfl <| zA <| ow_nil <| cw_ret ?_
  exact ⟨_, rfl, by rw [isLabel_yes (fun j hj => hall j (by omega))]; rfl, rfl⟩
end Go.Proofs.YtnkjgoholocliaaGreatDoor

namespace Go.Proofs.YtnkjgoholocliaaGreatDoor
open Go

theorem isAtom_ret (t : Tree) (v : Value) (L : List Nat) (w : World) (hv : RTree L w v t) : Ret Tryz.prog 105 [v] w fun r w' => r = .bool (decide (t.parts.length = 0)) ∧ Keep [] w w' := by
  obtain ⟨a, n, c, rfl, hn, hps⟩ := rtree_cases hv
  have hK := Keep.refl [] w
  refine ret_of [.tmp 2] 7 Tryz.func105 rfl nm105 rfl rfl ?_
  refine zr <| ow_boxA rfl rfl rfl ?_
  intro w1 hk1 hb1 hz1
  have hK := hK.ext hk1
  refine zA <| ow_nil <| zr <| zf tF73_1 rfl <| zl tOne61 rfl (hb1.at rfl) <| ow_len tSl61 rfl rfl rfl <| ow_eql rfl rfl rfl rfl rfl <| zA <| ow_nil <| cw_ret ?_
  exact ⟨_, rfl, show Value.bool _ = Value.bool _ from congrArg _ (decide_eq_decide.2 (by omega)), hK⟩

theorem headI_ret (t : Tree) (hwf : WF t) (v : Value) (L : List Nat) (w : World) (hv : RTree L w v t) : Ret Tryz.prog 59 [v] w fun r w' => r = str (headOf t) ∧ Keep [] w w' := by
  have hv0 := hv
  obtain ⟨a, n, c, rfl, hn, hps⟩ := rtree_cases hv
  have hK := Keep.refl [] w
  refine ret_of [.tmp 2] 10 Tryz.func59 rfl nm59 rfl rfl ?_
  refine zr <| ow_boxA rfl rfl rfl ?_
  intro w1 hk1 hb1 hz1
  have hK := hK.ext hk1; have hps := hps.ext hk1; have hv0 := hv0.ext hk1
  refine zA <| ow_nil <| cw_seq <| zr <| zL tAgg73 tI73 rfl hb1.all rfl <| ow_call rfl rfl (isAtom_ret t _ L w1 hv0) ?_
  rintro v2 w2 ⟨hv2, hk2⟩
  have hs2 := hk2.size
  have hK := hK.ext hk2; have hps := hps.ext hk2; have hb1 := hb1.ext hk2
  obtain rfl := hv2
  refine ow_nil <| zc rfl (fun h1 => ?_) (fun h1 => ?_)
  have hh : headOf t = [] := headOf_no (.inr (List.length_eq_zero_iff.1 h1))
  refine zr <| zA <| ow_nil <| cw_ret ?_
  exact ⟨_, rfl, by rw [hh]; rfl, hK⟩
  have hpos : 0 < t.parts.length := by omega
  have ha : t.atom = [] := Classical.byContradiction (fun h => by have := hwf.leaf h; rw [this] at hpos; exact absurd hpos (by decide))
  have hp0 := nth_get hpos
  have hh : headOf t = (nth t.parts 0).atom := headOf_cons ha hp0
  obtain ⟨b, off, pa, pn, pc, rfl, hc0, hpn, hpp⟩ := rtrees_get hps hp0
  refine cw_skip <| zr <| zf tF73_1 rfl <| zl tOne61 rfl (hb1.at rfl) <| zi (i := 0) tSl61 tI73 rfl rfl (by rw [hn]; exact hpos) <| zf tF73_0 rfl <| zl tOne9 rfl (hc0 0 _ rfl) <| zA <| ow_nil <| cw_ret ?_
  exact ⟨_, rfl, by rw [hh]; rfl, hK⟩

theorem isI_ret (t : Tree) (hwf : WF t) (h : Bytes) (k : Int) (v : Value) (L : List Nat) (w : World) (hv : RTree L w v t) :
    Ret Tryz.prog 60 [v, str h, .int .i64 k] w fun r w' => r = .bool (decide ((t.parts.length : Int) = k) && decide (headOf t = h)) ∧ Keep [] w w' := by
  have hv0 := hv
  obtain ⟨a, n, c, rfl, hn, hps⟩ := rtree_cases hv
  have hK := Keep.refl [] w
  subst hn
  refine ret_of [.tmp 6] 18 Tryz.func60 rfl nm60 rfl rfl ?_
  refine zr <| ow_boxA rfl rfl rfl ?_
  intro w1 hk1 hb3 hz1
  have hK := hK.ext hk1; have hv0 := hv0.ext hk1
  refine zA <| ow_nil <| zr <| zf tF73_1 rfl <| zl tOne61 rfl (hb3.at rfl) <| ow_len tSl61 rfl rfl rfl <| zm <| ow_eql rfl rfl rfl rfl rfl <| zm ?_
  apply ow_and 5 12 17 [12, 13, 14, 15, 16, 17] (Keep [] w1) rfl
  intro h1
  replace h1 := tst h1
  have hJ12 := Keep.refl [] w1
  refine zL tAgg73 tI73 rfl hb3.all rfl <| ow_call rfl rfl (headI_ret t hwf _ L w1 hv0) ?_
  rintro v2 w2 ⟨hv2, hk2⟩
  have hs2 := hk2.size
  have hJ12 := hJ12.ext hk2
  obtain rfl := hv2
  refine zm <| ow_seql rfl rfl rfl rfl <| zp rfl <| ow_nil ?_
  exact ⟨by repeat (first | with_reducible exact agree_refl | refine agree_upd rfl ?_ | refine agree_hav rfl ?_), rfl, hJ12⟩
  intro h1
  replace h1 := tst h1
  have hJ12 := Keep.refl [] w1
  refine zs <| zs <| zs <| zs <| zp rfl <| ow_nil ?_
  exact ⟨by repeat (first | with_reducible exact agree_refl | refine agree_upd rfl ?_ | refine agree_hav rfl ?_), rfl, hJ12⟩
  intro xx w2 hk2
  have hK := hK.ext hk2
  refine zA <| ow_nil <| cw_ret ?_
  exact ⟨_, rfl, rfl, hK⟩
end Go.Proofs.YtnkjgoholocliaaGreatDoor

namespace Go.Proofs.YtnkjgoholocliaaGreatDoor
open Go

theorem IndexFuncF_ret (ts : List Tree) (hlen : ts.length < 1000000000) (g : Tree → Bool) (f : FuncId) (caps : List Value) (v : Value) (L : List Nat) (w : World) (hv : RTrees L w v ts)
    (hf : ∀ i, i < ts.length → ∀ (u : Value) (w' : World), Keep [] w w' → RTree L w' u (nth ts i) → Ret Tryz.prog f (u :: caps) w' fun r w'' => r = .bool (g (nth ts i)) ∧ Keep [] w' w'') :
    Ret Tryz.prog 195 [v, .func (.func f) #[] caps.toArray] w fun r w' => r = .int .i64 (idxZ ts g) ∧ Keep [] w w' := by
  obtain ⟨a, c, rfl, hlc⟩ := rep_len hv
  have hnl : (encs ts).length = ts.length := encs_length ts
  have hK := Keep.refl [] w
  refine ret_of [.tmp 4] 19 Tryz.func195 rfl nm195 rfl rfl ?_
  refine zr <| zA <| ow_nil <| cw_seq <| zr <| zm <| ow_len tSl61 rfl rfl rfl <| zm <| ow_nil <| cw_block ?_
  refine cw_loop (fun k : Nat => [(0, .slice a (encs ts).length c), (1, .func (.func f) #[] caps.toArray), (7, .int .i64 ((encs ts).length : Int)), (8, .int .i64 (k : Int))]) (fun k w' => Keep [] w w' ∧ k ≤ ts.length ∧ ∀ i, i < k → g (nth ts i) = false) (fun k => ts.length - k) (0) (⟨rfl, rfl, rfl, rfl⟩) (⟨hK, by omega, by intro i hi; omega⟩) ?_
  intro gg w1 e1 hI
  obtain ⟨hK, hk, hall⟩ := hI
  have hv := hv.ext hK
  refine zr <| ow_lss rfl rfl rfl rfl rfl <| ow_nil <| cw_seq <| zc rfl (fun h1 => ?_) (fun h1 => ?_)
  have hp := nth_get (ps := ts) (i := gg) (by omega)
  obtain ⟨b, off, pa, pn, pc, rfl, hc, hpn, hpp⟩ := rtrees_get hv hp
  refine cw_skip <| cw_seq <| cw_block <| zr <| zm <| zA <| ow_nil <| zr <| zm <| zm <| zm <| zi tSl61 tI73 rfl rfl (by omega) <| zL tAgg73 tI73 rfl (hc) (rfl) <| ow_callv rfl rfl rfl (hf gg (by omega) _ w1 hK (rtree_of hpp)) ?_
  rintro v2 w2 ⟨hv2, hk2⟩
  have hs2 := hk2.size
  have hK := hK.ext hk2
  obtain rfl := hv2
  refine ow_nil <| zc rfl (fun h2 => ?_) (fun h2 => ?_)
  have hq := idxZ_at (by omega) hall h2
  refine zr <| zm <| zA <| ow_nil <| cw_ret ?_
  exact ⟨_, rfl, by rw [hq]; rfl, hK⟩
  refine cw_skip <| cw_region <| ow_add rfl rfl rfl rfl rfl (wrap_i64 _ (by omega) (by omega)) <| zm <| ow_nil ?_
  exact ⟨gg + 1, ⟨rfl, rfl, rfl, rfl⟩, ⟨hK, by omega, by intro i hi; rcases Nat.lt_or_ge i gg with h | h; exact hall i h; rw [show i = gg by omega]; exact h2⟩, by omega⟩
  have hq := idxZ_no (fun i hi => hall i (by omega))
  refine cw_exit <| x_hit rfl <| zr <| zA <| ow_nil <| cw_ret ?_
  exact ⟨_, rfl, by rw [hq]; rfl, hK⟩

theorem ContainsFuncF_ret (ts : List Tree) (hlen : ts.length < 1000000000) (g : Tree → Bool) (f : FuncId) (caps : List Value) (v : Value) (L : List Nat) (w : World) (hv : RTrees L w v ts)
    (hf : ∀ i, i < ts.length → ∀ (u : Value) (w' : World), Keep [] w w' → RTree L w' u (nth ts i) → Ret Tryz.prog f (u :: caps) w' fun r w'' => r = .bool (g (nth ts i)) ∧ Keep [] w' w'') :
    Ret Tryz.prog 177 [v, .func (.func f) #[] caps.toArray] w fun r w' => r = .bool (ts.any g) ∧ Keep [] w w' := by
  have hK := Keep.refl [] w
  refine ret_of [.tmp 4] 9 Tryz.func177 rfl nm177 rfl rfl ?_
  refine zr <| zA <| ow_nil <| zr <| zm <| zm <| ow_call rfl rfl (IndexFuncF_ret ts hlen g f caps _ L w hv hf) ?_
  rintro v1 w1 ⟨hv1, hk1⟩
  have hs1 := hk1.size
  have hK := hK.ext hk1
  obtain rfl := hv1
  refine ow_geq rfl rfl rfl rfl rfl <| zA <| ow_nil <| cw_ret ?_
  exact ⟨_, rfl, congrArg Value.bool (idxZ_any ts g), hK⟩
end Go.Proofs.YtnkjgoholocliaaGreatDoor

namespace Go.Proofs.YtnkjgoholocliaaGreatDoor
open Go

/-- 'isTarget' of forms below some size. -/
def TargetBelow (m : Nat) : Prop := ∀ (t : Tree), t.size ≤ m → t.size ≤ 100000 → WF t → ∀ (hidden : Bool) (v : Value) (L : List Nat) (w : World), RTree L w v t →
    Ret Tryz.prog 158 [v, .bool hidden, .bool false] w fun r w' => r = .bool (targetB hidden t) ∧ Keep [] w w'

theorem isTarget1_ret {m : Nat} (ih : TargetBelow m) (t : Tree) (h : t.size ≤ m) (h2 : t.size ≤ 100000) (hwf : WF t) (hidden : Bool) (b1 b2 : Nat) (v : Value) (L : List Nat) (w : World) (hv : RTree L w v t)
    (hb1 : Blk w b1 #[.bool hidden] 4) (hb2 : Blk w b2 #[.bool false] 4) :
    Ret Tryz.prog 178 [v, .pointer (some ⟨b1, 0, none⟩), .pointer (some ⟨b2, 0, none⟩)] w fun r w' => r = .bool (!targetB hidden t) ∧ Keep [] w w' := by
  have hv0 := hv
  obtain ⟨a, n, c, rfl, hn, hps⟩ := rtree_cases hv
  have hK := Keep.refl [] w
  refine ret_of [.tmp 4] 10 Tryz.func178 rfl nm178 rfl rfl ?_
  refine zr <| ow_boxA rfl rfl rfl ?_
  intro w1 hk1 hb3 hz1
  have hK := hK.ext hk1; have hv0 := hv0.ext hk1; have hb1 := hb1.ext hk1; have hb2 := hb2.ext hk1
  refine zA <| ow_nil <| zr <| zL tAgg73 tI73 rfl hb3.all rfl <| zl tOne4 rfl (hb1.at rfl) <| zl tOne4 rfl (hb2.at rfl) <| ow_call rfl rfl (ih t h h2 hwf hidden _ L w1 hv0) ?_
  rintro v2 w2 ⟨hv2, hk2⟩
  have hs2 := hk2.size
  have hK := hK.ext hk2
  obtain rfl := hv2
  refine ow_not rfl rfl rfl <| zA <| ow_nil <| cw_ret ?_
  exact ⟨_, rfl, rfl, hK⟩
end Go.Proofs.YtnkjgoholocliaaGreatDoor

namespace Go.Proofs.YtnkjgoholocliaaGreatDoor
open Go

theorem part_if {L : List Nat} {w : World} {b off n c : Nat} {ts : List Tree} (h : RTrees L w (.slice (some ⟨b, off, none⟩) n c) ts) (k : Nat) (p : Prop) (hp : p → k < ts.length) :
    ∃ qa qn qc, IfCells p w b (off + k * 2) [str (nth ts k).atom, .slice qa qn qc] ∧ IfTrees p L w (.slice qa qn qc) (nth ts k).parts := by
  by_cases h2 : p
  · obtain ⟨b', off', qa, qn, qc, hbb, hq, hqn, hqp⟩ := rtrees_get h (nth_get (hp h2))
    cases hbb
    exact ⟨qa, qn, qc, fun _ => hq, fun _ => hqp⟩
  · exact ⟨none, 0, 0, fun hh => absurd hh h2, fun hh => absurd hh h2⟩

theorem nth_drop (ts : List Tree) (k i : Nat) : nth (ts.drop k) i = nth ts (i + k) := by
  simp [nth, List.getD, List.getElem?_drop, Nat.add_comm]
theorem not_any_not (ts : List Tree) (f : Tree → Bool) : (!ts.any fun u => !f u) = ts.all f := by
  induction ts with
  | nil => rfl
  | cons t r ih => simp only [List.any_cons, List.all_cons, Bool.not_or, Bool.not_not, ih]

theorem isTarget_ret : ∀ m, TargetBelow m := by
  intro m
  induction m with
  | zero => intro t h; have := parts_le t; omega
  | succ m ih =>
    intro t hm hm2 hwf hidden v L w hv
    have hv0 := hv
    obtain ⟨a, n, c, rfl, hn, hps⟩ := rtree_cases hv
    have hK := Keep.refl [] w
    have hpl := parts_le t
    refine ret_of [.tmp 6] 53 Tryz.func158 rfl nm158 rfl rfl ?_
    refine zr <| ow_boxA rfl rfl rfl ?_
    intro w1 hk1 hb3 hz1
    have hK := hK.ext hk1; have hps := hps.ext hk1; have hv0 := hv0.ext hk1
    refine ow_box1 rfl rfl rfl ?_
    intro w2 hk2 hb4 hz2
    have hK := hK.ext hk2; have hps := hps.ext hk2; have hv0 := hv0.ext hk2; have hb3 := hb3.ext hk2
    refine ow_box1 rfl rfl rfl ?_
    intro w3 hk3 hb5 hz3
    have hK := hK.ext hk3; have hps := hps.ext hk3; have hv0 := hv0.ext hk3; have hb3 := hb3.ext hk3; have hb4 := hb4.ext hk3
    refine zA <| ow_nil <| cw_seq <| zr <| zL tAgg73 tI73 rfl hb3.all rfl <| ow_call rfl rfl (isAtom_ret t _ L w3 hv0) ?_
    rintro v4 w4 ⟨hv4, hk4⟩
    have hs4 := hk4.size
    have hK := hK.ext hk4; have hps := hps.ext hk4; have hv0 := hv0.ext hk4; have hb3 := hb3.ext hk4; have hb4 := hb4.ext hk4; have hb5 := hb5.ext hk4
    obtain rfl := hv4
    refine ow_nil <| zc rfl (fun h1 => ?_) (fun h1 => ?_)
    have ha : t.atom ≠ [] := fun h => by have := hwf.pos h; omega
    refine zr <| zf tF73_0 rfl <| zl tOne9 rfl (hb3.at rfl) <| ow_seql rfl rfl rfl rfl <| zm ?_
    apply ow_or 7 12 19 [12, 13, 14, 15, 16, 17, 18, 19] (fun w' => w4 = w') rfl
    intro h2
    replace h2 := tst h2
    refine zs <| zs <| zs <| zs <| zs <| zs <| zp rfl <| ow_nil ?_
    exact ⟨by repeat (first | with_reducible exact agree_refl | refine agree_upd rfl ?_ | refine agree_hav rfl ?_), rfl, rfl⟩
    intro h2
    replace h2 := tst h2
    skip
    refine zl tOne4 rfl (hb4.at rfl) <| zm ?_
    apply ow_and 4 14 18 [14, 15, 16, 17, 18] (fun w' => w4 = w') rfl
    intro h3
    replace h3 := tst h3
    skip
    refine zf tF73_0 rfl <| zl tOne9 rfl (hb3.at rfl) <| ow_seql rfl rfl rfl rfl <| zp rfl <| ow_nil ?_
    exact ⟨by repeat (first | with_reducible exact agree_refl | refine agree_upd rfl ?_ | refine agree_hav rfl ?_), rfl, rfl⟩
    intro h3
    replace h3 := tst h3
    refine zs <| zs <| zs <| zp rfl <| ow_nil ?_
    exact ⟨by repeat (first | with_reducible exact agree_refl | refine agree_upd rfl ?_ | refine agree_hav rfl ?_), rfl, rfl⟩
    rintro xx _ rfl
    refine zp rfl <| ow_nil ?_
    exact ⟨by repeat (first | with_reducible exact agree_refl | refine agree_upd rfl ?_ | refine agree_hav rfl ?_), rfl, rfl⟩
    rintro xx _ rfl
    refine zm ?_
    apply ow_or 7 20 27 [20, 21, 22, 23, 24, 25, 26, 27] (fun w' => w4 = w') rfl
    intro h4
    replace h4 := tst h4
    refine zs <| zs <| zs <| zs <| zs <| zs <| zp rfl <| ow_nil ?_
    exact ⟨by repeat (first | with_reducible exact agree_refl | refine agree_upd rfl ?_ | refine agree_hav rfl ?_), rfl, rfl⟩
    intro h4
    replace h4 := tst h4
    skip
    refine zl tOne4 rfl (hb5.at rfl) <| zm <| ow_known (t := 22) (b := false) (rfl) <| zs <| zs <| zs <| zp rfl <| zp rfl <| ow_nil ?_
    exact ⟨by repeat (first | with_reducible exact agree_refl | refine agree_upd rfl ?_ | refine agree_hav rfl ?_), rfl, rfl⟩
    rintro xx _ rfl
    refine zA <| ow_nil <| cw_ret ?_
    exact ⟨_, rfl, show Value.bool _ = Value.bool _ from congrArg _ (by rw [targetB_atom ha, Bool.or_false]), hK⟩
    have hpos : 0 < t.parts.length := by omega
    have ha : t.atom = [] := Classical.byContradiction (fun h => by have := hwf.leaf h; rw [this] at hpos; exact absurd hpos (by decide))
    have hp0 := nth_get hpos
    have hh : headOf t = (nth t.parts 0).atom := headOf_cons ha hp0
    refine cw_skip <| cw_seq <| zr <| zL tAgg73 tI73 rfl hb3.all rfl <| ow_call rfl rfl (headI_ret t hwf _ L w4 hv0) ?_
    rintro v5 w5 ⟨hv5, hk5⟩
    have hs5 := hk5.size
    have hK := hK.ext hk5; have hps := hps.ext hk5; have hb3 := hb3.ext hk5; have hb4 := hb4.ext hk5; have hb5 := hb5.ext hk5
    obtain rfl := hv5
    obtain ⟨b, off, pa, pn, pc, rfl, hc0, hpn, hpp⟩ := rtrees_get hps hp0
    refine ow_nil <| cw_block <| zr <| ow_seql rfl rfl rfl rfl <| zA <| ow_nil <| zc rfl (fun h5 => ?_) (fun h5 => ?_)
    have he : (nth t.parts 0).atom = [101] := hh.symm.trans h5
    have hb5 : Blk w5 w2.heap.size #[.bool false] 4 := hb5
    obtain ⟨qa, qn, qc, hcc, hqq⟩ := part_if hps 1 ((n : Int) = 2) (fun h => by omega)
    refine cw_seq ?_
    refine cw_draw tMixed kept_new 13 [32, 33, 34, 35, 36, 37, 38, 39, 40, 41, 42, 43, 6] [32, 33, 34, 35, 36, 37, 38, 39, 40, 41, 42, 43, 6] [[], [0], [1], [2], [3], [4], [4, 5], [4, 6], [4, 7], [4], [4, 8, 9], [4, 10], [11]] [fun v _ => v = (.pointer (some ⟨w.heap.size, 0 + 1, none⟩)), fun v _ => v = (.slice (some ⟨b, off, none⟩) n c), fun v _ => v = (.int .i64 (n : Int)), fun v _ => v = (.bool (decide ((n : Int) = 2))), fun v _ => v = (.bool (decide ((n : Int) = 2))), fun v _ => (decide ((n : Int) = 2)) = true → v = (.pointer (some ⟨w.heap.size, 0 + 1, none⟩)), fun v _ => (decide ((n : Int) = 2)) = true → v = (.slice (some ⟨b, off, none⟩) n c), fun v _ => (decide ((n : Int) = 2)) = true → v = (.pointer (some ⟨b, off + 1 * 2, none⟩)), fun v _ => (decide ((n : Int) = 2)) = true → v = (.agg #[str (nth t.parts 1).atom, .slice qa qn qc]), fun v _ => (decide ((n : Int) = 2)) = true → v = (.bool false), fun v _ => (decide ((n : Int) = 2)) = true → v = (.bool (targetB true (nth t.parts 1))), fun v _ => v = (.bool (decide ((n : Int) = 2) && targetB true (nth t.parts 1))), fun v _ => v = (.bool (decide ((n : Int) = 2) && targetB true (nth t.parts 1)))] (by decide) (stab_eq (stab_eq (stab_eq (stab_eq (stab_eq (stab_if (stab_if (stab_if (stab_if (stab_if (stab_if (stab_eq (stab_eq trivial))))))))))))) (fun wd hkd => ?_) ?_
    refine certs_cons ?_ ?_
    intro x vs w6 e hk6 hd he
    replace hk6 := kept_new.trans hkd hk6
    replace he : e = over (havoc _ x _) [] := he
    subst he
    refine zf tF73_1 rfl <| ow_nil ?_
    exact ⟨kept_new.refl _, rfl, by first | exact agree_put | exact agree_refl⟩
    refine certs_cons ?_ ?_
    intro x vs w6 e hk6 hd he
    have d0 : vs 0 = (.pointer (some ⟨w.heap.size, 0 + 1, none⟩)) := hd
    replace hk6 := kept_new.trans hkd hk6
    have hb3 := hb3.ext hk6
    replace he : e = over (havoc _ x _) [(32, vs 0)] := he
    rw [d0] at he
    subst he
    refine zl tOne61 rfl (hb3.at rfl) <| ow_nil ?_
    exact ⟨kept_new.refl _, rfl, by first | exact agree_put | exact agree_refl⟩
    refine certs_cons ?_ ?_
    intro x vs w6 e hk6 hd he
    have d1 : vs 1 = (.slice (some ⟨b, off, none⟩) n c) := hd
    replace hk6 := kept_new.trans hkd hk6
    replace he : e = over (havoc _ x _) [(33, vs 1)] := he
    rw [d1] at he
    subst he
    refine ow_len tSl61 rfl rfl rfl <| ow_nil ?_
    exact ⟨kept_new.refl _, rfl, by first | exact agree_put | exact agree_refl⟩
    refine certs_cons ?_ ?_
    intro x vs w6 e hk6 hd he
    have d2 : vs 2 = (.int .i64 (n : Int)) := hd
    replace hk6 := kept_new.trans hkd hk6
    replace he : e = over (havoc _ x _) [(34, vs 2)] := he
    rw [d2] at he
    subst he
    refine ow_eql rfl rfl rfl rfl rfl <| ow_nil ?_
    exact ⟨kept_new.refl _, rfl, by first | exact agree_put | exact agree_refl⟩
    refine certs_cons ?_ ?_
    intro x vs w6 e hk6 hd he
    have d3 : vs 3 = (.bool (decide ((n : Int) = 2))) := hd
    replace hk6 := kept_new.trans hkd hk6
    replace he : e = over (havoc _ x _) [(35, vs 3)] := he
    rw [d3] at he
    subst he
    refine zm <| ow_nil ?_
    exact ⟨kept_new.refl _, rfl, by first | exact agree_put | exact agree_refl⟩
    refine certs_cons ?_ ?_
    intro x vs w6 e hk6 hd he
    have d4 : vs 4 = (.bool (decide ((n : Int) = 2))) := hd
    replace hk6 := kept_new.trans hkd hk6
    rcases Bool.eq_false_or_eq_true (decide ((n : Int) = 2)) with hg | hg
    rw [hg] at d4
    replace he : e = over (havoc _ x _) [(36, vs 4)] := he
    rw [d4] at he
    subst he
    refine zf tF73_1 rfl <| ow_nil ?_
    exact ⟨kept_new.refl _, (show (decide ((n : Int) = 2)) = true → _ = ((.pointer (some ⟨w.heap.size, 0 + 1, none⟩)) : Value) from fun _ => rfl), by first | exact agree_put | exact agree_refl⟩
    rw [hg] at d4
    replace he : e = over (havoc _ x _) [(36, vs 4)] := he
    rw [d4] at he
    subst he
    refine zs <| ow_nil ?_
    exact ⟨kept_new.refl _, (show (decide ((n : Int) = 2)) = true → _ = (_ : Value) from fun hh => nomatch hg.symm.trans hh), by first | exact agree_put | exact agree_refl⟩
    refine certs_cons ?_ ?_
    intro x vs w6 e hk6 hd he
    obtain ⟨d4, d5⟩ : (vs 4 = (.bool (decide ((n : Int) = 2)))) ∧ ((decide ((n : Int) = 2)) = true → vs 5 = (.pointer (some ⟨w.heap.size, 0 + 1, none⟩))) := hd
    replace hk6 := kept_new.trans hkd hk6
    have hb3 := hb3.ext hk6
    rcases Bool.eq_false_or_eq_true (decide ((n : Int) = 2)) with hg | hg
    rw [hg] at d4
    replace d5 := d5 hg
    replace he : e = over (havoc _ x _) [(36, vs 4), (37, vs 5)] := he
    rw [d4, d5] at he
    subst he
    refine zl tOne61 rfl (hb3.at rfl) <| ow_nil ?_
    exact ⟨kept_new.refl _, (show (decide ((n : Int) = 2)) = true → _ = ((.slice (some ⟨b, off, none⟩) n c) : Value) from fun _ => rfl), by first | exact agree_put | exact agree_refl⟩
    rw [hg] at d4
    replace he : e = over (havoc _ x _) [(36, vs 4), (37, vs 5)] := he
    rw [d4] at he
    subst he
    refine zs <| ow_nil ?_
    exact ⟨kept_new.refl _, (show (decide ((n : Int) = 2)) = true → _ = (_ : Value) from fun hh => nomatch hg.symm.trans hh), by first | exact agree_put | exact agree_refl⟩
    refine certs_cons ?_ ?_
    intro x vs w6 e hk6 hd he
    obtain ⟨d4, d6⟩ : (vs 4 = (.bool (decide ((n : Int) = 2)))) ∧ ((decide ((n : Int) = 2)) = true → vs 6 = (.slice (some ⟨b, off, none⟩) n c)) := hd
    replace hk6 := kept_new.trans hkd hk6
    rcases Bool.eq_false_or_eq_true (decide ((n : Int) = 2)) with hg | hg
    rw [hg] at d4
    replace d6 := d6 hg
    replace he : e = over (havoc _ x _) [(36, vs 4), (38, vs 6)] := he
    rw [d4, d6] at he
    subst he
    refine zi (i := 1) tSl61 tI73 rfl rfl (by have := of_decide_eq_true hg; omega) <| ow_nil ?_
    exact ⟨kept_new.refl _, (show (decide ((n : Int) = 2)) = true → _ = ((.pointer (some ⟨b, off + 1 * 2, none⟩)) : Value) from fun _ => rfl), by first | exact agree_put | exact agree_refl⟩
    rw [hg] at d4
    replace he : e = over (havoc _ x _) [(36, vs 4), (38, vs 6)] := he
    rw [d4] at he
    subst he
    refine zs <| ow_nil ?_
    exact ⟨kept_new.refl _, (show (decide ((n : Int) = 2)) = true → _ = (_ : Value) from fun hh => nomatch hg.symm.trans hh), by first | exact agree_put | exact agree_refl⟩
    refine certs_cons ?_ ?_
    intro x vs w6 e hk6 hd he
    obtain ⟨d4, d7⟩ : (vs 4 = (.bool (decide ((n : Int) = 2)))) ∧ ((decide ((n : Int) = 2)) = true → vs 7 = (.pointer (some ⟨b, off + 1 * 2, none⟩))) := hd
    replace hk6 := kept_new.trans hkd hk6
    have hcc := hcc.ext hk6
    rcases Bool.eq_false_or_eq_true (decide ((n : Int) = 2)) with hg | hg
    rw [hg] at d4
    replace d7 := d7 hg
    replace he : e = over (havoc _ x _) [(36, vs 4), (39, vs 7)] := he
    rw [d4, d7] at he
    subst he
    refine zL tAgg73 tI73 rfl (hcc (of_decide_eq_true hg)) (rfl) <| ow_nil ?_
    exact ⟨kept_new.refl _, (show (decide ((n : Int) = 2)) = true → _ = ((.agg #[str (nth t.parts 1).atom, .slice qa qn qc]) : Value) from fun _ => rfl), by first | exact agree_put | exact agree_refl⟩
    rw [hg] at d4
    replace he : e = over (havoc _ x _) [(36, vs 4), (39, vs 7)] := he
    rw [d4] at he
    subst he
    refine zs <| ow_nil ?_
    exact ⟨kept_new.refl _, (show (decide ((n : Int) = 2)) = true → _ = (_ : Value) from fun hh => nomatch hg.symm.trans hh), by first | exact agree_put | exact agree_refl⟩
    refine certs_cons ?_ ?_
    intro x vs w6 e hk6 hd he
    have d4 : vs 4 = (.bool (decide ((n : Int) = 2))) := hd
    replace hk6 := kept_new.trans hkd hk6
    have hb5 := hb5.ext hk6
    rcases Bool.eq_false_or_eq_true (decide ((n : Int) = 2)) with hg | hg
    rw [hg] at d4
    replace he : e = over (havoc _ x _) [(36, vs 4)] := he
    rw [d4] at he
    subst he
    refine zl tOne4 rfl (hb5.at rfl) <| ow_nil ?_
    exact ⟨kept_new.refl _, (show (decide ((n : Int) = 2)) = true → _ = ((.bool false) : Value) from fun _ => rfl), by first | exact agree_put | exact agree_refl⟩
    rw [hg] at d4
    replace he : e = over (havoc _ x _) [(36, vs 4)] := he
    rw [d4] at he
    subst he
    refine zs <| ow_nil ?_
    exact ⟨kept_new.refl _, (show (decide ((n : Int) = 2)) = true → _ = (_ : Value) from fun hh => nomatch hg.symm.trans hh), by first | exact agree_put | exact agree_refl⟩
    refine certs_cons ?_ ?_
    intro x vs w6 e hk6 hd he
    obtain ⟨d4, d8, d9⟩ : (vs 4 = (.bool (decide ((n : Int) = 2)))) ∧ ((decide ((n : Int) = 2)) = true → vs 8 = (.agg #[str (nth t.parts 1).atom, .slice qa qn qc])) ∧ ((decide ((n : Int) = 2)) = true → vs 9 = (.bool false)) := hd
    replace hk6 := kept_new.trans hkd hk6
    have hqq := hqq.ext hk6
    rcases Bool.eq_false_or_eq_true (decide ((n : Int) = 2)) with hg | hg
    rw [hg] at d4
    replace d8 := d8 hg
    replace d9 := d9 hg
    replace he : e = over (havoc _ x _) [(36, vs 4), (40, vs 8), (41, vs 9)] := he
    rw [d4, d8, d9] at he
    subst he
    refine ow_call rfl rfl (ih (nth t.parts 1) (by have := of_decide_eq_true hg; have := nth_size (t := t) (i := 1) (by omega); omega) (by have := of_decide_eq_true hg; have := nth_size (t := t) (i := 1) (by omega); omega) (hwf.nth (by have := of_decide_eq_true hg; omega)) true _ L w6 (rtree_of (hqq (of_decide_eq_true hg)))) ?_
    rintro v7 w7 ⟨hv7, hk7⟩
    have hs7 := hk7.size
    obtain rfl := hv7
    refine ow_nil ?_
    exact ⟨kept_new.of hk7, (show (decide ((n : Int) = 2)) = true → _ = ((.bool (targetB true (nth t.parts 1))) : Value) from fun _ => rfl), by first | exact agree_put | exact agree_refl⟩
    rw [hg] at d4
    replace he : e = over (havoc _ x _) [(36, vs 4), (40, vs 8), (41, vs 9)] := he
    rw [d4] at he
    subst he
    refine zs <| ow_nil ?_
    exact ⟨kept_new.refl _, (show (decide ((n : Int) = 2)) = true → _ = (_ : Value) from fun hh => nomatch hg.symm.trans hh), by first | exact agree_put | exact agree_refl⟩
    refine certs_cons ?_ ?_
    intro x vs w6 e hk6 hd he
    obtain ⟨d4, d10⟩ : (vs 4 = (.bool (decide ((n : Int) = 2)))) ∧ ((decide ((n : Int) = 2)) = true → vs 10 = (.bool (targetB true (nth t.parts 1)))) := hd
    replace hk6 := kept_new.trans hkd hk6
    rcases Bool.eq_false_or_eq_true (decide ((n : Int) = 2)) with hg | hg
    rw [hg] at d4
    replace d10 := d10 hg
    replace he : e = over (havoc _ x _) [(36, vs 4), (42, vs 10)] := he
    rw [d4, d10] at he
    subst he
    refine zp rfl <| ow_nil ?_
    exact ⟨kept_new.refl _, by first | rfl | (rw [hg]; rfl), by first | exact agree_put | exact agree_refl⟩
    rw [hg] at d4
    replace he : e = over (havoc _ x _) [(36, vs 4), (42, vs 10)] := he
    rw [d4] at he
    subst he
    refine zp rfl <| ow_nil ?_
    exact ⟨kept_new.refl _, by first | rfl | (rw [hg]; rfl), by first | exact agree_put | exact agree_refl⟩
    refine certs_cons ?_ ?_
    intro x vs w6 e hk6 hd he
    have d11 : vs 11 = (.bool (decide ((n : Int) = 2) && targetB true (nth t.parts 1))) := hd
    replace hk6 := kept_new.trans hkd hk6
    replace he : e = over (havoc _ x _) [(43, vs 11)] := he
    rw [d11] at he
    subst he
    refine zA <| ow_nil ?_
    exact ⟨kept_new.refl _, rfl, by first | exact agree_put | exact agree_refl⟩
    exact trivial
    intro x vs w45 hk45 hdraw
    have d0 : vs 0 = (.pointer (some ⟨w.heap.size, 0 + 1, none⟩)) := hdraw 0 (by decide)
    have d1 : vs 1 = (.slice (some ⟨b, off, none⟩) n c) := hdraw 1 (by decide)
    have d2 : vs 2 = (.int .i64 (n : Int)) := hdraw 2 (by decide)
    have d3 : vs 3 = (.bool (decide ((n : Int) = 2))) := hdraw 3 (by decide)
    have d4 : vs 4 = (.bool (decide ((n : Int) = 2))) := hdraw 4 (by decide)
    have d5 : (decide ((n : Int) = 2)) = true → vs 5 = (.pointer (some ⟨w.heap.size, 0 + 1, none⟩)) := hdraw 5 (by decide)
    have d6 : (decide ((n : Int) = 2)) = true → vs 6 = (.slice (some ⟨b, off, none⟩) n c) := hdraw 6 (by decide)
    have d7 : (decide ((n : Int) = 2)) = true → vs 7 = (.pointer (some ⟨b, off + 1 * 2, none⟩)) := hdraw 7 (by decide)
    have d8 : (decide ((n : Int) = 2)) = true → vs 8 = (.agg #[str (nth t.parts 1).atom, .slice qa qn qc]) := hdraw 8 (by decide)
    have d9 : (decide ((n : Int) = 2)) = true → vs 9 = (.bool false) := hdraw 9 (by decide)
    have d10 : (decide ((n : Int) = 2)) = true → vs 10 = (.bool (targetB true (nth t.parts 1))) := hdraw 10 (by decide)
    have d11 : vs 11 = (.bool (decide ((n : Int) = 2) && targetB true (nth t.parts 1))) := hdraw 11 (by decide)
    have d12 : vs 12 = (.bool (decide ((n : Int) = 2) && targetB true (nth t.parts 1))) := hdraw 12 (by decide)
    have hK := hK.ext hk45
    change OW _ _ _ _ [] (over (havoc _ x _) [(32, vs 0), (33, vs 1), (34, vs 2), (35, vs 3), (36, vs 4), (37, vs 5), (38, vs 6), (39, vs 7), (40, vs 8), (41, vs 9), (42, vs 10), (43, vs 11), (6, vs 12)]) _
    rw [d0, d1, d2, d3, d4, d11, d12]
    refine ow_nil <| cw_ret <| ⟨_, rfl, show Value.bool _ = Value.bool _ from congrArg _ ?_, hK⟩
    rw [targetB_e ha hpos he]
    congr 1
    exact decide_eq_decide.2 (by omega)
    have hne : (nth t.parts 0).atom ≠ [101] := fun h => h5 (hh.trans h)
    refine cw_seq <| zr <| ow_seql rfl rfl rfl rfl <| zA <| ow_nil ?_
    refine cw_cut (fun _ : Unit => [(3, .pointer (some ⟨w.heap.size, 0, none⟩)), (4, .pointer (some ⟨w1.heap.size, 0, none⟩)), (5, .pointer (some ⟨w2.heap.size, 0, none⟩)), (44, .bool (decide (headOf t = [116]) || decide (headOf t = [99])))]) (fun _ w' => w' = w5) ?_ ?_
    refine zc rfl (fun h6 => ?_) (fun h6 => ?_)
    refine cw_skip ?_
    exact ⟨(), ⟨rfl, rfl, rfl, congrArg Value.bool (or_tt h6)⟩, rfl⟩
    refine cw_region <| ow_seql rfl rfl rfl rfl <| zA <| ow_nil ?_
    exact ⟨(), ⟨rfl, rfl, rfl, congrArg Value.bool (or_ff h6)⟩, rfl⟩
    intro gu w6 e6 hI
    obtain rfl := hI
    refine zc rfl (fun h7 => ?_) (fun h7 => ?_)
    have htc := or_t h7
    rw [hh] at htc
    refine zr <| zf tF73_1 rfl <| zl tOne61 rfl (hb3.at rfl) <| ow_slice_from (l := 1) tSl61 tI73 rfl rfl rfl rfl (by omega) hps ?_
    intro vs1 hvs
    have hvs : RTrees L w6 vs1 (t.parts.drop 1) := by rw [RTrees, encs_drop]; exact hvs
    refine ow_makeFunc (vs := [.pointer (some ⟨w1.heap.size, 0, none⟩), .pointer (some ⟨w2.heap.size, 0, none⟩)]) rfl rfl rfl ?_
    refine ow_call rfl rfl (ContainsFuncF_ret (t.parts.drop 1) (by rw [List.length_drop]; omega) (fun u => !targetB hidden u) 178 [.pointer (some ⟨w1.heap.size, 0, none⟩), .pointer (some ⟨w2.heap.size, 0, none⟩)] _ L w6 hvs (fun i hi u w' k hu => by rw [List.length_drop] at hi; rw [nth_drop] at hu ⊢; exact isTarget1_ret ih (nth t.parts (i + 1)) (by have := nth_size (t := t) (i := i + 1) (by omega); omega) (by have := nth_size (t := t) (i := i + 1) (by omega); omega) (hwf.nth (by omega)) hidden _ _ _ L _ hu (hb4.ext k) (hb5.ext k))) ?_
    rintro v7 w7 ⟨hv7, hk7⟩
    have hs7 := hk7.size
    have hK := hK.ext hk7
    obtain rfl := hv7
    refine ow_not rfl rfl rfl <| zA <| ow_nil <| cw_ret ?_
    exact ⟨_, rfl, show Value.bool _ = Value.bool _ from congrArg _ (by rw [targetB_tc ha hpos htc, not_any_not]), hK⟩
    have htc := or_f h7
    rw [hh] at htc
    refine cw_skip <| zr <| zA <| ow_nil <| cw_ret ?_
    exact ⟨_, rfl, by rw [targetB_no ha hpos hne htc]; rfl, hK⟩
end Go.Proofs.YtnkjgoholocliaaGreatDoor

namespace Go.Proofs.YtnkjgoholocliaaGreatDoor
open Go

theorem keep_of_below {w a b : World} (h : Keep [] w a) (k : RowKit.Below w.heap.size a b) : Keep [] w b :=
  ⟨k.os.trans h.os, k.tape.trans h.tape, k.output.trans h.output, Nat.le_trans h.size k.size, fun i hi hl => (k.block i hi).trans (h.block i hi hl)⟩
theorem mul_ret (x y : Nat) (h : x * y < 18446744073709551616) (hx : x < 18446744073709551616) (hy : y < 18446744073709551616) (w : World) :
    Ret Tryz.prog 169 [.int .u64 x, .int .u64 y] w fun v w' => v = .tuple #[.int .u64 0, .int .u64 ((x * y : Nat) : Int)] ∧ w = w' :=
  ⟨Callable.mk' Tryz.func169 rfl nm169, Calls.mono (Tryz.bits_Mul x y hx hy w) fun _ _ ⟨he, hw⟩ => ⟨_, he, by rw [Nat.div_eq_of_lt h, Nat.mod_eq_of_lt h]; rfl, hw.symm⟩⟩
theorem builderGrow_ret (B b n : Nat) (w : World) (hB : B ≤ b) (hbk : Blk w b #[.pointer none, .slice none 0 0] 118) (hBw : B ≤ w.heap.size) (hn : n ≤ 281474976710656) :
    Ret Tryz.prog 170 [.pointer (some ⟨b, 0, none⟩), .int .i64 n] w fun v w' => v = .tuple #[] ∧ Lib.IsBuilderF 118 5 B b (Lib.byteCells []) w' ∧ RowKit.Below B w w' :=
  ⟨Callable.mk' Tryz.func170 rfl nm170, Calls.mono (Tryz.Builder_Grow_fresh B b n w hB hbk hBw hn) fun _ _ ⟨he, hb, hk⟩ => ⟨_, he, rfl, .inr (Lib.BuilderAtF.of hb), hk⟩⟩
theorem builderWrite_ret (B b : Nat) (l s : Bytes) (w : World) (h : Lib.IsBuilderF 118 5 B b (Lib.byteCells l) w) (hlen : l.length + s.length ≤ 140737488355328) (hBw : B ≤ w.heap.size) :
    Ret Tryz.prog 141 [.pointer (some ⟨b, 0, none⟩), str s] w fun v w' => (∃ u, v = u) ∧ Lib.IsBuilderF 118 5 B b (Lib.byteCells (l ++ s)) w' ∧ RowKit.Below B w w' :=
  ⟨Callable.mk' Tryz.func141 rfl nm141, Calls.mono (Tryz.Builder_WriteString_f B b _ ⟨s.toArray⟩ w h (by rw [Lib.byteCells_length]; simpa [ByteArray.size] using hlen) hBw) fun _ _ ⟨he, hb, hk⟩ => ⟨_, he, ⟨_, rfl⟩, .inr (by have e1 : Lib.byteCells (l ++ s) = Lib.byteCells l ++ Lib.strCells ⟨s.toArray⟩ := by { simp [Lib.byteCells, Lib.strCells] }; rw [e1]; exact hb), hk⟩⟩
theorem builderLen_ret (B b : Nat) (l : Bytes) (w : World) (h : Lib.IsBuilderF 118 5 B b (Lib.byteCells l) w) :
    Ret Tryz.prog 171 [.pointer (some ⟨b, 0, none⟩)] w fun v w' => v = .int .i64 (l.length : Int) ∧ w = w' :=
  ⟨Callable.mk' Tryz.func171 rfl nm171, Calls.mono (Tryz.Builder_Len_f B b _ w h) fun _ _ ⟨he, hw⟩ => ⟨_, he, by rw [Lib.byteCells_length], hw.symm⟩⟩
theorem builderString_ret (B b : Nat) (l : Bytes) (h0 : l ≠ []) (w : World) (h : Lib.IsBuilderF 118 5 B b (Lib.byteCells l) w) :
    Ret Tryz.prog 109 [.pointer (some ⟨b, 0, none⟩)] w fun v w' => v = str l ∧ Lib.IsBuilderF 118 5 B b (Lib.byteCells l) w' ∧ RowKit.Below B w w' :=
  ⟨Callable.mk' Tryz.func109 rfl nm109, Calls.mono (Tryz.Builder_String_f B b l w h h0) fun _ _ ⟨he, hb, hk⟩ => ⟨_, he, rfl, hb, hk⟩⟩

theorem repeat_ret (c : Nat) (hc : c ≤ 8192) (w : World) : Ret Tryz.prog 154 [str [115], .int .i64 (c : Int)] w fun v w' => v = str (List.replicate c 115) ∧ Keep [] w w' := by
  have hK := Keep.refl [] w
  refine ret_of [.tmp 4] 125 Tryz.func154 rfl nm154 rfl rfl ?_
  refine zr <| zA <| ow_nil <| cw_seq <| zr <| zm <| ow_nil <| cw_block <| zr <| ow_eql rfl rfl rfl rfl rfl <| zA <| ow_nil <| zc rfl (fun h1 => ?_) (fun h1 => ?_)
  have hc0 : c = 0 := by omega
  refine zr <| zA <| ow_nil <| cw_ret ?_
  exact ⟨_, rfl, by rw [hc0]; rfl, hK⟩
  refine zr <| ow_eql rfl rfl rfl rfl rfl <| zA <| ow_nil <| zc rfl (fun h2 => ?_) (fun h2 => ?_)
  have hc1 : c = 1 := by omega
  refine zr <| zm <| zA <| ow_nil <| cw_ret ?_
  exact ⟨_, rfl, by rw [hc1]; rfl, hK⟩
  skip
  refine cw_skip <| cw_seq <| zr <| zm <| ow_lss rfl rfl rfl rfl rfl <| ow_nil <| zc rfl (fun h3 => ?_) (fun h3 => ?_)
  exfalso
  omega
  skip
  refine cw_skip <| zr <| zm <| ow_lenS tStr9 rfl rfl rfl <| ow_conv_int tInt3 tInt168 rfl rfl rfl (show IntKind.u64.wrap (([115] : Bytes).length : Int) = ((1 : Nat) : Int) from by decide) <| zm <| ow_conv_int tInt3 tInt168 rfl rfl rfl (show IntKind.u64.wrap (c : Int) = ((c : Nat) : Int) from by rw [wrap_u64 _ (by omega) (by omega)]) <| ow_call rfl rfl (mul_ret 1 c (by omega) (by omega) (by omega) _) ?_
  rintro _ _ ⟨rfl, rfl⟩
  refine zm <| zx (i := 0) rfl rfl <| zx (i := 1) rfl rfl <| zA <| zA <| ow_nil <| cw_seq <| zr <| zm <| ow_gtr rfl rfl rfl rfl rfl <| zm ?_
  apply ow_or 3 31 34 [31, 32, 33, 34] (fun w' => w = w') rfl
  intro h4
  replace h4 := tst h4
  refine zs <| zs <| zp rfl <| ow_nil ?_
  exact ⟨by repeat (first | with_reducible exact agree_refl | refine agree_upd rfl ?_ | refine agree_hav rfl ?_), rfl, rfl⟩
  intro h4
  replace h4 := tst h4
  skip
  refine zm <| ow_gtr rfl rfl rfl rfl rfl <| zp rfl <| ow_nil ?_
  exact ⟨by repeat (first | with_reducible exact agree_refl | refine agree_upd rfl ?_ | refine agree_hav rfl ?_), rfl, rfl⟩
  rintro xx _ rfl
  refine ow_nil <| zc rfl (fun h5 => ?_) (fun h5 => ?_)
  exfalso
  simp at h5
  omega
  skip
  refine cw_skip <| zr <| zm <| ow_conv_int tInt168 tInt3 rfl rfl rfl (show IntKind.i64.wrap ((1 * c : Nat) : Int) = (c : Int) from by rw [wrap_i64 _ (by omega) (by omega)]; omega) <| zA <| ow_nil <| cw_seq <| zr <| zm <| ow_lenS tStr9 rfl rfl rfl <| ow_eql rfl rfl rfl rfl rfl <| ow_nil <| zc rfl (fun h6 => ?_) (fun h6 => ?_)
  exact absurd h6 (by decide)
  skip
  refine cw_skip <| cw_seq <| zr <| zm <| ow_sindex (i := 0) tStr9 rfl rfl rfl rfl (get_getD (by decide)) <| ow_nil <| cw_block <| cw_seq <| zr <| ow_eql rfl rfl rfl rfl rfl <| zA <| ow_nil <| zc rfl (fun h7 => ?_) (fun h7 => ?_)
  exact absurd h7 (by decide)
  skip
  refine zr <| ow_eql rfl rfl rfl rfl rfl <| zA <| ow_nil <| zc rfl (fun h8 => ?_) (fun h8 => ?_)
  exact absurd h8 (by decide)
  skip
  refine zr <| ow_eql rfl rfl rfl rfl rfl <| zA <| ow_nil <| zc rfl (fun h9 => ?_) (fun h9 => ?_)
  exact absurd h9 (by decide)
  skip
  refine zr <| ow_eql rfl rfl rfl rfl rfl <| zA <| ow_nil <| zc rfl (fun h10 => ?_) (fun h10 => ?_)
  exact absurd h10 (by decide)
  skip
  refine cw_region <| ow_eql rfl rfl rfl rfl rfl <| zA <| ow_nil <| zc rfl (fun h11 => ?_) (fun h11 => ?_)
  exact absurd h11 (by decide)
  skip
  refine cw_skip <| zr <| zm <| zA <| ow_nil <| cw_seq <| zr <| zm <| ow_gtr rfl rfl rfl rfl rfl <| ow_nil <| zc rfl (fun h12 => ?_) (fun h12 => ?_)
  exfalso
  omega
  skip
  refine cw_skip <| zr <| ow_allocA tI118 rfl rfl rfl ?_
  intro w1 hk1 hb9 hz1
  have hK := hK.ext hk1
  refine ow_nil <| zr <| zm <| ow_call rfl rfl (builderGrow_ret w.heap.size w.heap.size c w1 (Nat.le_refl _) hb9 (by omega) (by omega)) ?_
  rintro _ w2 ⟨rfl, hB, hkB⟩
  have hK := keep_of_below hK hkB
  refine ow_nil <| zr <| zm <| ow_call rfl rfl (builderWrite_ret w.heap.size w.heap.size [] [115] w2 hB (by simp) (by have := hK.size; omega)) ?_
  rintro _ w3 ⟨_, hB, hkB⟩
  have hK := keep_of_below hK hkB
  refine ow_nil <| cw_seq <| cw_block ?_
  refine cw_loop (fun k : Nat => [(0, str [115]), (7, .int .i64 (c : Int)), (8, .int .i64 (c : Int)), (9, .pointer (some ⟨w.heap.size, 0, none⟩))]) (fun k w' => Keep [] w w' ∧ Lib.IsBuilderF 118 5 w.heap.size w.heap.size (Lib.byteCells (List.replicate k 115)) w' ∧ 1 ≤ k ∧ k ≤ c) (fun k => c - k) (1) (⟨rfl, rfl, rfl, rfl⟩) (⟨hK, hB, by omega, by omega⟩) ?_
  intro gg w4 e4 hI
  obtain ⟨hK, hB, hk, hkc⟩ := hI
  have hsz := hK.size
  refine cw_seq <| zr <| ow_call rfl rfl (builderLen_ret _ _ _ _ hB) ?_
  rintro _ _ ⟨rfl, rfl⟩
  rw [List.length_replicate]
  refine zm <| ow_lss rfl rfl rfl rfl rfl <| ow_nil <| zc rfl (fun h13 => ?_) (fun h13 => ?_)
  have hlt : gg < c := by omega
  refine cw_skip <| cw_block <| zr <| zm <| ow_call rfl rfl (builderLen_ret _ _ _ _ hB) ?_
  rintro _ _ ⟨rfl, rfl⟩
  rw [List.length_replicate]
  refine ow_sub rfl rfl rfl rfl rfl (wrap_i64 _ (by omega) (by omega)) <| ow_call rfl rfl (builderLen_ret _ _ _ _ hB) ?_
  rintro _ _ ⟨rfl, rfl⟩
  rw [List.length_replicate]
  refine zm <| ow_min3 rfl rfl rfl rfl rfl (show (if (c : Int) < (if (gg : Int) < (c : Int) - gg then (gg : Int) else (c : Int) - gg) then (c : Int) else (if (gg : Int) < (c : Int) - gg then (gg : Int) else (c : Int) - gg)) = ((min gg (c - gg) : Nat) : Int) from by repeat' split <;> omega) <| zA <| ow_nil <| cw_region <| ow_call rfl rfl (builderString_ret _ _ _ (by intro h; have := congrArg List.length h; simp at this; omega) w4 hB) ?_
  rintro _ w5 ⟨rfl, hB, hkB⟩
  have hK := keep_of_below hK hkB
  refine zm <| ow_sslice tStr9 rfl rfl rfl (.inl ⟨rfl, rfl⟩) (.inr ⟨_, rfl⟩) (by omega) (by rw [List.length_replicate]; omega) <| ow_call rfl rfl (builderWrite_ret w.heap.size w.heap.size _ _ w5 hB (by simp; omega) (by have := hK.size; omega)) ?_
  rintro _ w6 ⟨_, hB, hkB⟩
  have hK := keep_of_below hK hkB
  refine ow_nil ?_
  exact ⟨gg + min gg (c - gg), ⟨rfl, rfl, rfl, rfl⟩, ⟨hK, by have e1 : List.replicate gg 115 ++ ((List.replicate gg (115 : UInt8)).drop 0).take (min gg (c - gg) - 0) = List.replicate (gg + min gg (c - gg)) 115 := by { rw [List.drop_zero, Nat.sub_zero, List.take_replicate, List.replicate_append_replicate]; congr 1; omega }; rw [← e1]; exact hB, by omega, by omega⟩, by omega⟩
  have he : gg = c := by omega
  refine cw_exit <| x_hit rfl <| zr <| ow_call rfl rfl (builderString_ret _ _ _ (by intro h; have := congrArg List.length h; simp at this; omega) w4 hB) ?_
  rintro _ w5 ⟨rfl, hB, hkB⟩
  have hK := keep_of_below hK hkB
  refine zA <| ow_nil <| cw_ret ?_
  exact ⟨_, rfl, by rw [← he]; rfl, hK⟩
end Go.Proofs.YtnkjgoholocliaaGreatDoor

namespace Go.Proofs.YtnkjgoholocliaaGreatDoor
open Go

theorem shape_ret (h : Bytes) (n : Nat) (hn : n ≤ 8000) (w : World) : Ret Tryz.prog 126 [str h, .int .i64 (n : Int)] w fun r w' => r = str (shapeI h n) ∧ Keep [] w w' := by
  have hK := Keep.refl [] w
  refine ret_of [.tmp 4] 33 Tryz.func126 rfl nm126 rfl rfl ?_
  refine zr <| zA <| ow_nil <| cw_seq <| zr <| zm <| ow_nil <| cw_block <| zr <| ow_seql rfl rfl rfl rfl <| zA <| ow_nil <| zc rfl (fun h1 => ?_) (fun h1 => ?_)
  have hc0 := h1
  refine zr <| zA <| ow_nil <| cw_ret ?_
  exact ⟨_, rfl, show str _ = str _ from congrArg _ (by rw [shapeI, if_pos hc0]), hK⟩
  have hc0 := h1
  refine cw_seq <| zr <| ow_seql rfl rfl rfl rfl <| zA <| ow_nil ?_
  refine cw_cut (fun _ : Unit => [(1, .int .i64 (n : Int)), (5, str h), (8, .bool (decide (h = [109, 111, 118]) || decide (h = [111, 112, 101, 110])))]) (fun _ w' => w' = w) ?_ ?_
  refine zc rfl (fun h2 => ?_) (fun h2 => ?_)
  refine cw_skip ?_
  exact ⟨(), ⟨rfl, rfl, congrArg Value.bool (or_tt h2)⟩, rfl⟩
  refine cw_region <| ow_seql rfl rfl rfl rfl <| zA <| ow_nil ?_
  exact ⟨(), ⟨rfl, rfl, congrArg Value.bool (or_ff h2)⟩, rfl⟩
  intro gu w1 e1 hI
  obtain rfl := hI
  refine zc rfl (fun h3 => ?_) (fun h3 => ?_)
  have hc1 := or_t h3
  refine zr <| zA <| ow_nil <| cw_ret ?_
  exact ⟨_, rfl, show str _ = str _ from congrArg _ (by rw [shapeI, if_neg hc0, if_pos hc1]), hK⟩
  have hc1 := or_f h3
  refine cw_seq <| zr <| ow_seql rfl rfl rfl rfl <| zA <| ow_nil ?_
  refine cw_cut (fun _ : Unit => [(1, .int .i64 (n : Int)), (5, str h), (11, .bool (decide (h = [97, 100, 100]) || decide (h = [115, 117, 98]) || decide (h = [109, 117, 108])))]) (fun _ w' => w' = w1) ?_ ?_
  refine zc rfl (fun h4 => ?_) (fun h4 => ?_)
  refine cw_skip ?_
  exact ⟨(), ⟨rfl, rfl, congrArg Value.bool (or3_1 h4)⟩, rfl⟩
  have hn1 := h4
  refine zr <| ow_seql rfl rfl rfl rfl <| zA <| ow_nil <| zc rfl (fun h5 => ?_) (fun h5 => ?_)
  refine cw_skip ?_
  exact ⟨(), ⟨rfl, rfl, congrArg Value.bool (or3_2 hn1 h5)⟩, rfl⟩
  refine cw_region <| ow_seql rfl rfl rfl rfl <| zA <| ow_nil ?_
  exact ⟨(), ⟨rfl, rfl, congrArg Value.bool (or3_3 hn1 h5)⟩, rfl⟩
  intro gu w2 e2 hI
  obtain rfl := hI
  refine zc rfl (fun h6 => ?_) (fun h6 => ?_)
  have hc2 := or3_t h6
  refine zr <| zA <| ow_nil <| cw_ret ?_
  exact ⟨_, rfl, show str _ = str _ from congrArg _ (by rw [shapeI, if_neg hc0, if_neg hc1, if_pos hc2]), hK⟩
  have hc2 := or3_f h6
  refine zr <| ow_seql rfl rfl rfl rfl <| zA <| ow_nil <| zc rfl (fun h7 => ?_) (fun h7 => ?_)
  have hc3 := h7
  refine zr <| zm <| ow_sub rfl rfl rfl rfl rfl (wrap_i64 _ (by omega) (by omega)) <| ow_max rfl rfl rfl rfl (show (if (0 : Int) < (n : Int) - 2 then (n : Int) - 2 else 0) = ((n - 2 : Nat) : Int) from by split <;> omega) <| ow_call rfl rfl (repeat_ret (n - 2) (by omega) w2) ?_
  rintro v3 w3 ⟨hv3, hk3⟩
  have hs3 := hk3.size
  have hK := hK.ext hk3
  obtain rfl := hv3
  refine ow_sadd rfl rfl rfl rfl (by simp; omega) <| zA <| ow_nil <| cw_ret ?_
  exact ⟨_, rfl, show str _ = str _ from congrArg _ (by rw [shapeI, if_neg hc0, if_neg hc1, if_neg hc2, if_pos hc3]), hK⟩
  have hc3 := h7
  refine zr <| ow_seql rfl rfl rfl rfl <| zA <| ow_nil <| zc rfl (fun h8 => ?_) (fun h8 => ?_)
  have hc4 := h8
  refine zr <| zA <| ow_nil <| cw_ret ?_
  exact ⟨_, rfl, show str _ = str _ from congrArg _ (by rw [shapeI, if_neg hc0, if_neg hc1, if_neg hc2, if_neg hc3, if_pos hc4]), hK⟩
  have hc4 := h8
  refine zr <| ow_seql rfl rfl rfl rfl <| zA <| ow_nil <| zc rfl (fun h9 => ?_) (fun h9 => ?_)
  have hc5 := h9
  refine zr <| zA <| ow_nil <| cw_ret ?_
  exact ⟨_, rfl, show str _ = str _ from congrArg _ (by rw [shapeI, if_neg hc0, if_neg hc1, if_neg hc2, if_neg hc3, if_neg hc4, if_pos hc5]), hK⟩
  have hc5 := h9
  refine zr <| ow_seql rfl rfl rfl rfl <| zA <| ow_nil <| zc rfl (fun h10 => ?_) (fun h10 => ?_)
  have hc6 := h10
  refine zr <| zA <| ow_nil <| cw_ret ?_
  exact ⟨_, rfl, show str _ = str _ from congrArg _ (by rw [shapeI, if_neg hc0, if_neg hc1, if_neg hc2, if_neg hc3, if_neg hc4, if_neg hc5, if_pos hc6]), hK⟩
  have hc6 := h10
  refine zr <| ow_seql rfl rfl rfl rfl <| zA <| ow_nil <| zc rfl (fun h11 => ?_) (fun h11 => ?_)
  have hc7 := h11
  refine zr <| zA <| ow_nil <| cw_ret ?_
  exact ⟨_, rfl, show str _ = str _ from congrArg _ (by rw [shapeI, if_neg hc0, if_neg hc1, if_neg hc2, if_neg hc3, if_neg hc4, if_neg hc5, if_neg hc6, if_pos hc7]), hK⟩
  have hc7 := h11
  refine cw_seq <| zr <| ow_seql rfl rfl rfl rfl <| zA <| ow_nil ?_
  refine cw_cut (fun _ : Unit => [(5, str h), (30, .bool (decide (h = [106, 117, 109, 112]) || decide (h = [104, 97, 108, 116])))]) (fun _ w' => w' = w2) ?_ ?_
  refine zc rfl (fun h12 => ?_) (fun h12 => ?_)
  refine cw_skip ?_
  exact ⟨(), ⟨rfl, congrArg Value.bool (or_tt h12)⟩, rfl⟩
  refine cw_region <| ow_seql rfl rfl rfl rfl <| zA <| ow_nil ?_
  exact ⟨(), ⟨rfl, congrArg Value.bool (or_ff h12)⟩, rfl⟩
  intro gu w3 e3 hI
  obtain rfl := hI
  refine zc rfl (fun h13 => ?_) (fun h13 => ?_)
  have hc8 := or_t h13
  refine zr <| zA <| ow_nil <| cw_ret ?_
  exact ⟨_, rfl, show str _ = str _ from congrArg _ (by rw [shapeI, if_neg hc0, if_neg hc1, if_neg hc2, if_neg hc3, if_neg hc4, if_neg hc5, if_neg hc6, if_neg hc7, if_pos hc8]), hK⟩
  have hc8 := or_f h13
  refine cw_skip <| zr <| zA <| ow_nil <| cw_ret ?_
  exact ⟨_, rfl, show str _ = str _ from congrArg _ (by rw [shapeI, if_neg hc0, if_neg hc1, if_neg hc2, if_neg hc3, if_neg hc4, if_neg hc5, if_neg hc6, if_neg hc7, if_neg hc8]), hK⟩
end Go.Proofs.YtnkjgoholocliaaGreatDoor

namespace Go.Proofs.YtnkjgoholocliaaGreatDoor
open Go

theorem rtrees_cases {L : List Nat} {w : World} {v : Value} {ts : List Tree} (h : RTrees L w v ts) : ∃ a c, v = .slice a ts.length c := by
  obtain ⟨a, c, rfl, _⟩ := rep_len h
  exact ⟨a, c, by rw [encs_length]⟩
theorem isInstr_ret (t : Tree) (hs : t.size ≤ 12001) (hwf : WF t) (v : Value) (L : List Nat) (w : World) (hv : RTree L w v t) :
    Ret Tryz.prog 136 [v] w fun r w' => r = .bool (instrI t) ∧ Keep [] w w' := by
  have hv0 := hv
  obtain ⟨a, n, c, rfl, hn, hps⟩ := rtree_cases hv
  have hK := Keep.refl [] w
  have hn8 := half_size hwf
  subst hn
  have hσ := shapeI_len (headOf t) t.parts.length
  refine ret_of [.tmp 2] 78 Tryz.func136 rfl nm136 rfl rfl ?_
  refine zr <| ow_boxA rfl rfl rfl ?_
  intro w1 hk1 hb1 hz1
  have hK := hK.ext hk1; have hps := hps.ext hk1; have hv0 := hv0.ext hk1
  refine zA <| ow_nil <| cw_seq ?_
  refine cw_draw tMixed kept_new 7 [7, 8, 9, 10, 11, 12, 3] [7, 8, 9, 10, 11, 12, 3] [[], [0], [], [2], [3], [1, 4], [5]] [fun v _ => v = (.agg #[str t.atom, .slice a t.parts.length c]), fun v _ => v = (str (headOf t)), fun v _ => v = (.pointer (some ⟨w.heap.size, 0 + 1, none⟩)), fun v _ => v = (.slice a t.parts.length c), fun v _ => v = (.int .i64 (t.parts.length : Int)), fun v _ => v = (str (shapeI (headOf t) t.parts.length)), fun v _ => v = (str (shapeI (headOf t) t.parts.length))] (by decide) (stab_eq (stab_eq (stab_eq (stab_eq (stab_eq (stab_eq (stab_eq trivial))))))) (fun wd hkd => ?_) ?_
  refine certs_cons ?_ ?_
  intro x vs w2 e hk2 hd he
  replace hk2 := kept_new.trans hkd hk2
  have hb1 := hb1.ext hk2
  replace he : e = over (havoc _ x _) [] := he
  subst he
  refine zL tAgg73 tI73 rfl hb1.all rfl <| ow_nil ?_
  exact ⟨kept_new.refl _, rfl, by first | exact agree_put | exact agree_refl⟩
  refine certs_cons ?_ ?_
  intro x vs w2 e hk2 hd he
  have d0 : vs 0 = (.agg #[str t.atom, .slice a t.parts.length c]) := hd
  replace hk2 := kept_new.trans hkd hk2
  have hv0 := hv0.ext hk2
  replace he : e = over (havoc _ x _) [(7, vs 0)] := he
  rw [d0] at he
  subst he
  refine ow_call rfl rfl (headI_ret t hwf _ L w2 hv0) ?_
  rintro v3 w3 ⟨hv3, hk3⟩
  have hs3 := hk3.size
  obtain rfl := hv3
  refine ow_nil ?_
  exact ⟨kept_new.of hk3, rfl, by first | exact agree_put | exact agree_refl⟩
  refine certs_cons ?_ ?_
  intro x vs w2 e hk2 hd he
  replace hk2 := kept_new.trans hkd hk2
  replace he : e = over (havoc _ x _) [] := he
  subst he
  refine zf tF73_1 rfl <| ow_nil ?_
  exact ⟨kept_new.refl _, rfl, by first | exact agree_put | exact agree_refl⟩
  refine certs_cons ?_ ?_
  intro x vs w2 e hk2 hd he
  have d2 : vs 2 = (.pointer (some ⟨w.heap.size, 0 + 1, none⟩)) := hd
  replace hk2 := kept_new.trans hkd hk2
  have hb1 := hb1.ext hk2
  replace he : e = over (havoc _ x _) [(9, vs 2)] := he
  rw [d2] at he
  subst he
  refine zl tOne61 rfl (hb1.at rfl) <| ow_nil ?_
  exact ⟨kept_new.refl _, rfl, by first | exact agree_put | exact agree_refl⟩
  refine certs_cons ?_ ?_
  intro x vs w2 e hk2 hd he
  have d3 : vs 3 = (.slice a t.parts.length c) := hd
  replace hk2 := kept_new.trans hkd hk2
  replace he : e = over (havoc _ x _) [(10, vs 3)] := he
  rw [d3] at he
  subst he
  refine ow_len tSl61 rfl rfl rfl <| ow_nil ?_
  exact ⟨kept_new.refl _, rfl, by first | exact agree_put | exact agree_refl⟩
  refine certs_cons ?_ ?_
  intro x vs w2 e hk2 hd he
  obtain ⟨d1, d4⟩ : (vs 1 = (str (headOf t))) ∧ (vs 4 = (.int .i64 (t.parts.length : Int))) := hd
  replace hk2 := kept_new.trans hkd hk2
  replace he : e = over (havoc _ x _) [(8, vs 1), (11, vs 4)] := he
  rw [d1, d4] at he
  subst he
  refine ow_call rfl rfl (shape_ret (headOf t) t.parts.length (by omega) w2) ?_
  rintro v3 w3 ⟨hv3, hk3⟩
  have hs3 := hk3.size
  obtain rfl := hv3
  refine ow_nil ?_
  exact ⟨kept_new.of hk3, rfl, by first | exact agree_put | exact agree_refl⟩
  refine certs_cons ?_ ?_
  intro x vs w2 e hk2 hd he
  have d5 : vs 5 = (str (shapeI (headOf t) t.parts.length)) := hd
  replace hk2 := kept_new.trans hkd hk2
  replace he : e = over (havoc _ x _) [(12, vs 5)] := he
  rw [d5] at he
  subst he
  refine zA <| ow_nil ?_
  exact ⟨kept_new.refl _, rfl, by first | exact agree_put | exact agree_refl⟩
  exact trivial
  intro x vs w41 hk41 hdraw
  have d0 : vs 0 = (.agg #[str t.atom, .slice a t.parts.length c]) := hdraw 0 (by decide)
  have d1 : vs 1 = (str (headOf t)) := hdraw 1 (by decide)
  have d2 : vs 2 = (.pointer (some ⟨w.heap.size, 0 + 1, none⟩)) := hdraw 2 (by decide)
  have d3 : vs 3 = (.slice a t.parts.length c) := hdraw 3 (by decide)
  have d4 : vs 4 = (.int .i64 (t.parts.length : Int)) := hdraw 4 (by decide)
  have d5 : vs 5 = (str (shapeI (headOf t) t.parts.length)) := hdraw 5 (by decide)
  have d6 : vs 6 = (str (shapeI (headOf t) t.parts.length)) := hdraw 6 (by decide)
  have hK := hK.ext hk41; have hps := hps.ext hk41; have hb1 := hb1.ext hk41
  change OW _ _ _ _ [] (over (havoc _ x _) [(7, vs 0), (8, vs 1), (9, vs 2), (10, vs 3), (11, vs 4), (12, vs 5), (3, vs 6)]) _
  rw [d0, d1, d2, d3, d4, d5, d6]
  refine ow_nil <| cw_seq <| zr <| zm <| ow_seql rfl rfl rfl rfl <| zm ?_
  apply ow_or 8 15 23 [15, 16, 17, 18, 19, 20, 21, 22, 23] (fun w' => w41 = w') rfl
  intro h1
  replace h1 := tst h1
  refine zs <| zs <| zs <| zs <| zs <| zs <| zs <| zp rfl <| ow_nil ?_
  exact ⟨by repeat (first | with_reducible exact agree_refl | refine agree_upd rfl ?_ | refine agree_hav rfl ?_), rfl, rfl⟩
  intro h1
  replace h1 := tst h1
  refine zf tF73_1 rfl <| zl tOne61 rfl (hb1.at rfl) <| ow_len tSl61 rfl rfl rfl <| zm <| ow_lenS tStr9 rfl rfl rfl <| ow_add rfl rfl rfl rfl rfl (wrap_i64 _ (by omega) (by omega)) <| ow_neq rfl rfl rfl rfl rfl <| zp rfl <| ow_nil ?_
  exact ⟨by repeat (first | with_reducible exact agree_refl | refine agree_upd rfl ?_ | refine agree_hav rfl ?_), rfl, rfl⟩
  rintro xx _ rfl
  refine ow_nil <| zc rfl (fun h2 => ?_) (fun h2 => ?_)
  have hb : shapeI (headOf t) t.parts.length = [] ∨ t.parts.length ≠ (shapeI (headOf t) t.parts.length).length + 1 := by simp only [Bool.or_eq_true, decide_eq_true_eq] at h2; rcases h2 with h | h; exact .inl h; exact .inr (by omega)
  refine zr <| zA <| ow_nil <| cw_ret ?_
  exact ⟨_, rfl, by rw [instrI_no hb]; rfl, hK⟩
  have hb : ¬ (shapeI (headOf t) t.parts.length = [] ∨ t.parts.length ≠ (shapeI (headOf t) t.parts.length).length + 1) := by simp only [Bool.or_eq_false_iff, decide_eq_false_iff_not] at h2; rintro (h | h); exact h2.1 h; exact h2.2 (by omega)
  have hne := List.length_pos_iff.2 (fun h => hb (.inl h))
  have hl : t.parts.length = (shapeI (headOf t) t.parts.length).length + 1 := Classical.byContradiction fun h => hb (.inr h)
  obtain ⟨b0, off0, _, _, _, rfl, _, _, _⟩ := rtrees_get hps (nth_get (ps := t.parts) (i := 0) (by omega))
  refine cw_skip <| cw_seq <| zr <| zf tF73_1 rfl <| zl tOne61 rfl (hb1.at rfl) <| ow_slice_from (l := 1) tSl61 tI73 rfl rfl rfl rfl (by omega) hps ?_
  intro vs1 hvs
  have hvs : RTrees L w41 vs1 (t.parts.drop 1) := by rw [RTrees, encs_drop]; exact hvs
  obtain ⟨a1, c1, rfl⟩ := rtrees_cases hvs
  have hdl : (t.parts.drop 1).length = t.parts.length - 1 := List.length_drop
  generalize hσe : shapeI (headOf t) t.parts.length = σ at *
  refine ow_len tSl61 rfl rfl rfl <| zm <| ow_nil <| cw_block ?_
  refine cw_loop (fun k : Nat => [(1, .pointer (some ⟨w.heap.size, 0, none⟩)), (3, str σ), (26, .slice a1 (t.parts.drop 1).length c1), (27, .int .i64 ((t.parts.drop 1).length : Int)), (28, .int .i64 (k : Int))]) (fun k w' => Keep [] w w' ∧ Keep [] w41 w' ∧ k ≤ (t.parts.drop 1).length ∧ ∀ i, i < k → partI ((σ.getD i 0).toNat : Int) (nth t.parts (i + 1)) = true) (fun k => (t.parts.drop 1).length - k) (0) (⟨rfl, rfl, rfl, rfl, rfl⟩) (⟨hK, Keep.refl [] _, by omega, by intro i hi; omega⟩) ?_
  intro gg w42 e42 hI
  obtain ⟨hK, hk1, hk, hall⟩ := hI
  have hvs := hvs.ext hk1; have hb1 := hb1.ext hk1
  have hsz := hK.size
  have hsz1 := hk1.size
  have hbl := hb1.lt
  refine zr <| ow_lss rfl rfl rfl rfl rfl <| ow_nil <| cw_seq <| zc rfl (fun h3 => ?_) (fun h3 => ?_)
  have hp := nth_get (ps := t.parts.drop 1) (i := gg) (by omega)
  obtain ⟨b1, off1, pa, pn, pc, rfl, hcc, hpn, hpp⟩ := rtrees_get hvs hp
  rw [nth_drop] at hcc hpn hpp
  have hwp := hwf.nth (i := gg + 1) (by omega)
  have hsp := nth_size (t := t) (i := gg + 1) (by omega)
  have hal := atom_lt (nth t.parts (gg + 1))
  refine cw_skip <| cw_seq <| cw_block <| zr <| zm <| zi tSl61 tI73 rfl rfl (by omega) <| zL tAgg73 tI73 rfl (hcc) (rfl) <| ow_allocA tI73 rfl rfl rfl ?_
  intro w43 hk43 hb5 hz43
  have hK := hK.grow; have hK := hK.ext hk43; have hk1 := hk1.grow; have hk1 := hk1.ext hk43; have hpp := hpp.grow; have hpp := hpp.ext hk43
  refine zA <| ow_storeA tI73 rfl rfl rfl rfl rfl hb5 rfl ?_
  intro w44 hk44 hb5 hz44
  have hK := hK.sto hk44 (by simp <;> omega); have hk1 := hk1.sto hk44 (by simp <;> omega); have hpp := hpp.sto hk44 (by simp <;> omega)
  refine ow_nil <| zr <| zA <| ow_nil <| cw_seq <| zr <| zm <| zm ?_
  have hKc := Keep.refl [] w44
  refine ow_sindex tStr9 rfl rfl rfl rfl (get_getD (by omega)) <| ow_nil <| cw_block <| cw_seq <| zr <| ow_eql rfl rfl rfl rfl rfl <| zA <| ow_nil ?_
  refine cw_cut (fun _ : Unit => [(1, .pointer (some ⟨w.heap.size, 0, none⟩)), (3, str σ), (5, .pointer (some ⟨w42.heap.size, 0, none⟩)), (6, .bool false), (26, .slice (some ⟨b1, off1, none⟩) (t.parts.drop 1).length c1), (27, .int .i64 ((t.parts.drop 1).length : Int)), (28, .int .i64 (gg : Int)), (35, .int .u8 ((σ.getD gg 0).toNat : Int)), (36, .bool (decide (((σ.getD gg 0).toNat : Int) = 100) || decide (((σ.getD gg 0).toNat : Int) = 115)))]) (fun _ w' => w' = w44) ?_ ?_
  refine zc rfl (fun h4 => ?_) (fun h4 => ?_)
  refine cw_skip ?_
  exact ⟨(), ⟨rfl, rfl, rfl, rfl, rfl, rfl, rfl, rfl, congrArg Value.bool (or_tt h4)⟩, rfl⟩
  refine cw_region <| ow_eql rfl rfl rfl rfl rfl <| zA <| ow_nil ?_
  exact ⟨(), ⟨rfl, rfl, rfl, rfl, rfl, rfl, rfl, rfl, congrArg Value.bool (or_ff h4)⟩, rfl⟩
  intro gu w45 e45 hI
  obtain rfl := hI
  refine cw_cut (fun _ : Unit => [(1, .pointer (some ⟨w.heap.size, 0, none⟩)), (3, str σ), (6, .bool (partI ((σ.getD gg 0).toNat : Int) (nth t.parts (gg + 1)))), (26, .slice (some ⟨b1, off1, none⟩) (t.parts.drop 1).length c1), (27, .int .i64 ((t.parts.drop 1).length : Int)), (28, .int .i64 (gg : Int))]) (fun _ w' => Keep [] w45 w') ?_ ?_
  refine zc rfl (fun h5 => ?_) (fun h5 => ?_)
  have hz := or_t h5
  refine cw_region <| zf tF73_0 rfl <| zl tOne9 rfl (hb5.at rfl) <| ow_call rfl rfl (isReg_ret _ (by omega) w45) ?_
  rintro v46 w46 ⟨hv46, hk46⟩
  have hs46 := hk46.size
  have hKc := hKc.ext hk46
  obtain rfl := hv46
  refine zA <| ow_nil ?_
  exact ⟨(), ⟨rfl, rfl, by rw [partI, if_pos hz]; rfl, rfl, rfl, rfl⟩, hKc⟩
  have hz := or_f h5
  refine zr <| ow_eql rfl rfl rfl rfl rfl <| zA <| ow_nil <| zc rfl (fun h6 => ?_) (fun h6 => ?_)
  skip
  refine cw_region <| zf tF73_0 rfl <| zl tOne9 rfl (hb5.at rfl) <| ow_call rfl rfl (isNumeral_ret _ (by omega) _) ?_
  rintro _ _ ⟨rfl, rfl⟩
  refine zA <| ow_nil ?_
  exact ⟨(), ⟨rfl, rfl, by rw [partI, if_neg hz, if_pos h6]; rfl, rfl, rfl, rfl⟩, hKc⟩
  have hz1 := h6
  refine zr <| ow_eql rfl rfl rfl rfl rfl <| zA <| ow_nil <| zc rfl (fun h7 => ?_) (fun h7 => ?_)
  have hz2 := h7
  refine cw_region <| zf tF73_0 rfl <| zl tOne9 rfl (hb5.at rfl) <| ow_call rfl rfl (isNumeral_ret _ (by omega) _) ?_
  rintro _ _ ⟨rfl, rfl⟩
  refine zm ?_
  apply ow_and 5 52 57 [52, 53, 54, 55, 56, 57] (Keep [] w45) rfl
  intro h8
  replace h8 := tst h8
  have hJ52 := Keep.refl [] w45
  obtain ⟨z, hz0⟩ := Option.isSome_iff_exists.1 h8
  have hzz : z = (numeral (nth t.parts (gg + 1)).atom).getD 0 := by rw [hz0]; rfl
  refine zf tF73_0 rfl <| zl tOne9 rfl (hb5.at rfl) <| ow_call rfl rfl (number_ret _ hz0 w45) ?_
  rintro v46 w46 ⟨hv46, hk46⟩
  have hs46 := hk46.size
  have hJ52 := hJ52.ext hk46
  obtain rfl := hv46
  rw [hzz]
  refine ow_geq rfl rfl rfl rfl rfl <| zp rfl <| ow_nil ?_
  exact ⟨by repeat (first | with_reducible exact agree_refl | refine agree_upd rfl ?_ | refine agree_hav rfl ?_), rfl, hJ52⟩
  intro h8
  replace h8 := tst h8
  have hJ52 := Keep.refl [] w45
  refine zs <| zs <| zs <| zs <| zp rfl <| ow_nil ?_
  exact ⟨by repeat (first | with_reducible exact agree_refl | refine agree_upd rfl ?_ | refine agree_hav rfl ?_), rfl, hJ52⟩
  intro xx w46 hk46
  have hKc := hKc.ext hk46
  refine zA <| ow_nil ?_
  exact ⟨(), ⟨rfl, rfl, by rw [partI, if_neg hz, if_neg hz1, if_pos hz2]; rfl, rfl, rfl, rfl⟩, hKc⟩
  have hz2 := h7
  refine zr <| ow_eql rfl rfl rfl rfl rfl <| zA <| ow_nil <| zc rfl (fun h9 => ?_) (fun h9 => ?_)
  skip
  refine cw_region <| zf tF73_0 rfl <| zl tOne9 rfl (hb5.at rfl) <| ow_call rfl rfl (isLabelI_ret _ (by omega) _) ?_
  rintro _ _ ⟨rfl, rfl⟩
  refine zA <| ow_nil ?_
  exact ⟨(), ⟨rfl, rfl, by rw [partI, if_neg hz, if_neg hz1, if_neg hz2, if_pos h9]; rfl, rfl, rfl, rfl⟩, hKc⟩
  have hz3 := h9
  refine zr <| ow_eql rfl rfl rfl rfl rfl <| zA <| ow_nil <| zc rfl (fun h10 => ?_) (fun h10 => ?_)
  have hz4 := h10
  refine cw_region <| zL tAgg73 tI73 rfl hb5.all rfl <| ow_call rfl rfl (isI_ret (nth t.parts (gg + 1)) hwp [101] 2 _ _ w45 (rtree_of hpp)) ?_
  rintro v46 w46 ⟨hv46, hk46⟩
  have hs46 := hk46.size
  have hpp := hpp.ext hk46; have hb5 := hb5.ext hk46; have hKc := hKc.ext hk46
  obtain rfl := hv46
  refine zm ?_
  apply ow_and 3 67 70 [67, 68, 69, 70] (Keep [] w46) rfl
  intro h11
  replace h11 := tst h11
  have hJ67 := Keep.refl [] w46
  refine zL tAgg73 tI73 rfl hb5.all rfl <| ow_call rfl rfl (isTarget_ret (nth t.parts (gg + 1)).size (nth t.parts (gg + 1)) (Nat.le_refl _) (by omega) hwp false _ _ w46 (rtree_of hpp)) ?_
  rintro v47 w47 ⟨hv47, hk47⟩
  have hs47 := hk47.size
  have hJ67 := hJ67.ext hk47
  obtain rfl := hv47
  refine zp rfl <| ow_nil ?_
  exact ⟨by repeat (first | with_reducible exact agree_refl | refine agree_upd rfl ?_ | refine agree_hav rfl ?_), rfl, hJ67⟩
  intro h11
  replace h11 := tst h11
  have hJ67 := Keep.refl [] w46
  refine zs <| zs <| zp rfl <| ow_nil ?_
  exact ⟨by repeat (first | with_reducible exact agree_refl | refine agree_upd rfl ?_ | refine agree_hav rfl ?_), rfl, hJ67⟩
  intro xx w47 hk47
  have hKc := hKc.ext hk47
  refine zA <| ow_nil ?_
  exact ⟨(), ⟨rfl, rfl, by rw [partI, if_neg hz, if_neg hz1, if_neg hz2, if_neg hz3, if_pos hz4, show decide ((nth t.parts (gg + 1)).parts.length = 2) = decide (((nth t.parts (gg + 1)).parts.length : Int) = 2) from decide_eq_decide.2 (by omega)]; rfl, rfl, rfl, rfl⟩, hKc⟩
  have hz4 := h10
  refine zr <| ow_eql rfl rfl rfl rfl rfl <| zA <| ow_nil <| zc rfl (fun h12 => ?_) (fun h12 => ?_)
  have hz5 := h12
  refine cw_region <| zL tAgg73 tI73 rfl hb5.all rfl <| ow_call rfl rfl (isTarget_ret (nth t.parts (gg + 1)).size (nth t.parts (gg + 1)) (Nat.le_refl _) (by omega) hwp false _ _ w45 (rtree_of hpp)) ?_
  rintro v46 w46 ⟨hv46, hk46⟩
  have hs46 := hk46.size
  have hKc := hKc.ext hk46
  obtain rfl := hv46
  refine zA <| ow_nil ?_
  exact ⟨(), ⟨rfl, rfl, by rw [partI, if_neg hz, if_neg hz1, if_neg hz2, if_neg hz3, if_neg hz4, if_pos hz5]; rfl, rfl, rfl, rfl⟩, hKc⟩
  have hz5 := h12
  refine cw_skip ?_
  exact ⟨(), ⟨rfl, rfl, by rw [partI, if_neg hz, if_neg hz1, if_neg hz2, if_neg hz3, if_neg hz4, if_neg hz5]; rfl, rfl, rfl, rfl⟩, hKc⟩
  intro gu w46 e46 hI
  have hK := hK.ext hI; have hk1 := hk1.ext hI
  refine zr <| zm <| ow_not rfl rfl rfl <| ow_nil <| zc rfl (fun h13 => ?_) (fun h13 => ?_)
  subst hσe
  have hq : partI (((shapeI (headOf t) t.parts.length).getD gg 0).toNat : Int) (nth t.parts (gg + 1)) = false := by simpa using h13
  refine zr <| zA <| ow_nil <| cw_ret ?_
  exact ⟨_, rfl, by rw [instrI_part (by omega) hq]; rfl, hK⟩
  have hq : partI ((σ.getD gg 0).toNat : Int) (nth t.parts (gg + 1)) = true := by simpa using h13
  refine cw_skip <| cw_region <| ow_add rfl rfl rfl rfl rfl (wrap_i64 _ (by omega) (by omega)) <| zm <| ow_nil ?_
  exact ⟨gg + 1, ⟨rfl, rfl, rfl, rfl, rfl⟩, ⟨hK, hk1, by omega, by intro i hi; rcases Nat.lt_or_ge i gg with h | h; exact hall i h; rw [show i = gg by omega]; exact hq⟩, by omega⟩
  subst hσe
  have hq := instrI_yes hb (fun i hi => hall i (by omega))
  refine cw_exit <| x_hit rfl <| zr <| zA <| ow_nil <| cw_ret ?_
  exact ⟨_, rfl, by rw [hq]; rfl, hK⟩
end Go.Proofs.YtnkjgoholocliaaGreatDoor
