/-
  Lemmas for the law of ProgramLoad, no statement of their own: walks of the program's reader.
-/
import Derived.Test.YtnkjgoholocliaaGreatDoorOg
import Derived.Test.YtnkjgoholocliaaGreatDoorOc
import Derived.Test.YtnkjgoholocliaaGreatDoorOd
namespace Go.Proofs.YtnkjgoholocliaaGreatDoor
open Go

theorem isLast_ret (t : Tree) (hwf : WF t) (v : Value) (L : List Nat) (w : World) (hv : RTree L w v t) :
    Ret Tryz.prog 137 [v] w fun r w' => r = .bool (lastI t) ∧ Keep [] w w' := by
  have hv0 := hv
  obtain ⟨a, n, c, rfl, hn, hps⟩ := rtree_cases hv
  have hK := Keep.refl [] w
  refine ret_of [.tmp 2] 11 Tryz.func137 rfl nm137 rfl rfl ?_
  refine zr <| ow_boxA rfl rfl rfl ?_
  intro w1 hk1 hb1 hz1
  have hK := hK.ext hk1; have hv0 := hv0.ext hk1
  refine zA <| ow_nil <| zr <| zL tAgg73 tI73 rfl hb1.all rfl <| ow_call rfl rfl (headI_ret t hwf _ L w1 hv0) ?_
  rintro v2 w2 ⟨hv2, hk2⟩
  have hs2 := hk2.size
  have hK := hK.ext hk2; have hv0 := hv0.ext hk2; have hb1 := hb1.ext hk2
  obtain rfl := hv2
  refine ow_seql rfl rfl rfl rfl <| zm ?_
  apply ow_or 4 6 10 [6, 7, 8, 9, 10] (Keep [] w2) rfl
  intro h1
  replace h1 := tst h1
  have hJ6 := Keep.refl [] w2
  refine zs <| zs <| zs <| zp rfl <| ow_nil ?_
  exact ⟨by repeat (first | with_reducible exact agree_refl | refine agree_upd rfl ?_ | refine agree_hav rfl ?_), rfl, hJ6⟩
  intro h1
  replace h1 := tst h1
  have hJ6 := Keep.refl [] w2
  refine zL tAgg73 tI73 rfl hb1.all rfl <| ow_call rfl rfl (headI_ret t hwf _ L w2 hv0) ?_
  rintro v3 w3 ⟨hv3, hk3⟩
  have hs3 := hk3.size
  have hJ6 := hJ6.ext hk3
  obtain rfl := hv3
  refine ow_seql rfl rfl rfl rfl <| zp rfl <| ow_nil ?_
  exact ⟨by repeat (first | with_reducible exact agree_refl | refine agree_upd rfl ?_ | refine agree_hav rfl ?_), rfl, hJ6⟩
  intro xx w4 hk4
  have hK := hK.ext hk4
  refine zA <| ow_nil <| cw_ret ?_
  exact ⟨_, rfl, rfl, hK⟩

def FormPost (L : List Nat) (d : Nat) (s : Bytes) (v : Value) (w : World) : Prop :=
  ∃ t tv r ok, v = .tuple #[tv, str r, .bool ok] ∧ RTree L w tv t ∧ ReadI d s t r ok

theorem readForm_ret : ∀ (d : Nat) (s : Bytes) (L : List Nat) (w : World), d ≤ 60 → s.length ≤ 12000 → (∀ x, x ∈ L → x < w.heap.size) →
    Ret Tryz.prog 104 [str s, .int .i64 ((60 : Int) - (d : Int))] w fun v w' => FormPost L d s v w' ∧ Keep [] w w' := by
  intro d
  induction d using Nat.strongRecOn with
  | _ d ih =>
  intro s L w hd hs hL
  have hK := Keep.refl [] w
  refine ret_gen [.cell 4 73, .tmp 5, .tmp 6] 78 Tryz.func104 rfl nm104 rfl rfl rfl ?_
  refine zr <| ow_allocA tI73 rfl rfl rfl ?_
  intro w1 hk1 hb4 hz1
  have hK := hK.grow; have hK := hK.ext hk1
  refine zA <| zA <| ow_nil <| cw_seq <| zr <| zm <| ow_call rfl rfl (hasPrefix_ret _ _ _) ?_
  rintro _ _ ⟨rfl, rfl⟩
  refine ow_not rfl rfl rfl <| ow_nil <| zc rfl (fun h1 => ?_) (fun h1 => ?_)
  have hno := h1
  refine zr <| zA <| ow_nil <| cw_seq <| cw_block ?_
  refine cw_loop (fun k : Nat => [(0, str s), (1, .int .i64 ((60 : Int) - (d : Int))), (4, .pointer (some ⟨w.heap.size, 0, none⟩)), (7, .int .i64 (k : Int))]) (fun k w' => w' = w1 ∧ k ≤ (s.takeWhile atomByte).length) (fun k => s.length - k) (0) (⟨rfl, rfl, rfl, rfl⟩) (⟨rfl, by omega⟩) ?_
  intro gg w2 e2 hI
  obtain ⟨rfl, hkT⟩ := hI
  have htw := tw_lt atomByte s gg hkT
  have htl := takeWhile_le atomByte s
  refine cw_seq <| zr <| zm <| zm <| ow_lenS tStr9 rfl rfl rfl <| ow_lss rfl rfl rfl rfl rfl <| zm ?_
  apply ow_and 5 19 24 [19, 20, 21, 22, 23, 24] (fun w' => w2 = w') rfl
  intro h2
  replace h2 := tst h2
  skip
  refine zm <| zm <| ow_sindex tStr9 rfl rfl rfl rfl (get_getD (by omega)) <| ow_call rfl rfl (isAtomByte_ret _ _) ?_
  rintro _ _ ⟨rfl, rfl⟩
  refine zp rfl <| ow_nil ?_
  exact ⟨by repeat (first | with_reducible exact agree_refl | refine agree_upd rfl ?_ | refine agree_hav rfl ?_), rfl, rfl⟩
  intro h2
  replace h2 := tst h2
  refine zs <| zs <| zs <| zs <| zp rfl <| ow_nil ?_
  exact ⟨by repeat (first | with_reducible exact agree_refl | refine agree_upd rfl ?_ | refine agree_hav rfl ?_), rfl, rfl⟩
  rintro xx _ rfl
  refine ow_nil <| zc rfl (fun h3 => ?_) (fun h3 => ?_)
  have hlt := htw.2 (by simpa using h3)
  refine cw_skip <| cw_block <| cw_region <| zm <| ow_add rfl rfl rfl rfl rfl (wrap_i64 _ (by omega) (by omega)) <| zA <| ow_nil ?_
  exact ⟨gg + 1, ⟨rfl, rfl, rfl, rfl⟩, ⟨rfl, by omega⟩, by omega⟩
  have hgT : gg = (s.takeWhile atomByte).length := Nat.le_antisymm hkT (Nat.le_of_not_lt (fun hh => by have hx := htw.1 hh; rw [hx.2, Bool.and_true, decide_eq_false_iff_not] at h3; omega))
  refine cw_exit <| x_hit rfl <| cw_seq ?_
  refine cw_draw tMixed (kept_ks (w.heap.size) ([str ((s.drop 0).take (gg - 0)), .slice none 0 0]) 73) 12 [27, 28, 29, 30, 31, 32, 33, 34, 35, 100009, 5, 6] [27, 28, 29, 30, 31, 32, 33, 34, 35, 100009, 5, 6] [[], [], [0, 1], [2], [], [], [4, 5], [], [7], [3], [6], [8]] [fun v _ => v = (str s), fun v _ => v = (.int .i64 (gg : Int)), fun v _ => v = (str ((s.drop 0).take (gg - 0))), fun v _ => v = (.agg #[str ((s.drop 0).take (gg - 0)), .slice none 0 0]), fun v _ => v = (str s), fun v _ => v = (.int .i64 (gg : Int)), fun v _ => v = (str ((s.drop gg).take (s.length - gg))), fun v _ => v = (.int .i64 (gg : Int)), fun v _ => v = (.bool (decide ((0 : Int) < (gg : Int)))), fun _ ww => Blk ww (w.heap.size) ([str ((s.drop 0).take (gg - 0)), .slice none 0 0]).toArray 73, fun v _ => v = (str ((s.drop gg).take (s.length - gg))), fun v _ => v = (.bool (decide ((0 : Int) < (gg : Int))))] (by decide) (stab_eq (stab_eq (stab_eq (stab_eq (stab_eq (stab_eq (stab_eq (stab_eq (stab_eq (stab_sto (stab_eq (stab_eq trivial)))))))))))) (fun wd hkd => ?_) ?_
  refine certs_cons ?_ ?_
  intro x vs w3 e hk3 hd he
  replace hk3 := (kept_ks (w.heap.size) ([str ((s.drop 0).take (gg - 0)), .slice none 0 0]) 73).trans hkd hk3
  replace he : e = over (havoc _ x _) [] := he
  subst he
  refine zm <| ow_nil ?_
  exact ⟨(kept_ks (w.heap.size) ([str ((s.drop 0).take (gg - 0)), .slice none 0 0]) 73).refl _, rfl, by first | exact agree_put | exact agree_refl⟩
  refine certs_cons ?_ ?_
  intro x vs w3 e hk3 hd he
  replace hk3 := (kept_ks (w.heap.size) ([str ((s.drop 0).take (gg - 0)), .slice none 0 0]) 73).trans hkd hk3
  replace he : e = over (havoc _ x _) [] := he
  subst he
  refine zm <| ow_nil ?_
  exact ⟨(kept_ks (w.heap.size) ([str ((s.drop 0).take (gg - 0)), .slice none 0 0]) 73).refl _, rfl, by first | exact agree_put | exact agree_refl⟩
  refine certs_cons ?_ ?_
  intro x vs w3 e hk3 hd he
  obtain ⟨d0, d1⟩ : (vs 0 = (str s)) ∧ (vs 1 = (.int .i64 (gg : Int))) := hd
  replace hk3 := (kept_ks (w.heap.size) ([str ((s.drop 0).take (gg - 0)), .slice none 0 0]) 73).trans hkd hk3
  replace he : e = over (havoc _ x _) [(27, vs 0), (28, vs 1)] := he
  rw [d0, d1] at he
  subst he
  refine ow_sslice tStr9 rfl rfl rfl (.inl ⟨rfl, rfl⟩) (.inr ⟨_, rfl⟩) (by omega) (by omega) <| ow_nil ?_
  exact ⟨(kept_ks (w.heap.size) ([str ((s.drop 0).take (gg - 0)), .slice none 0 0]) 73).refl _, rfl, by first | exact agree_put | exact agree_refl⟩
  refine certs_cons ?_ ?_
  intro x vs w3 e hk3 hd he
  have d2 : vs 2 = (str ((s.drop 0).take (gg - 0))) := hd
  replace hk3 := (kept_ks (w.heap.size) ([str ((s.drop 0).take (gg - 0)), .slice none 0 0]) 73).trans hkd hk3
  replace he : e = over (havoc _ x _) [(29, vs 2)] := he
  rw [d2] at he
  subst he
  refine ow_build (tB73_0 _ _) rfl rfl <| ow_nil ?_
  exact ⟨(kept_ks (w.heap.size) ([str ((s.drop 0).take (gg - 0)), .slice none 0 0]) 73).refl _, rfl, by first | exact agree_put | exact agree_refl⟩
  refine certs_cons ?_ ?_
  intro x vs w3 e hk3 hd he
  replace hk3 := (kept_ks (w.heap.size) ([str ((s.drop 0).take (gg - 0)), .slice none 0 0]) 73).trans hkd hk3
  replace he : e = over (havoc _ x _) [] := he
  subst he
  refine zm <| ow_nil ?_
  exact ⟨(kept_ks (w.heap.size) ([str ((s.drop 0).take (gg - 0)), .slice none 0 0]) 73).refl _, rfl, by first | exact agree_put | exact agree_refl⟩
  refine certs_cons ?_ ?_
  intro x vs w3 e hk3 hd he
  replace hk3 := (kept_ks (w.heap.size) ([str ((s.drop 0).take (gg - 0)), .slice none 0 0]) 73).trans hkd hk3
  replace he : e = over (havoc _ x _) [] := he
  subst he
  refine zm <| ow_nil ?_
  exact ⟨(kept_ks (w.heap.size) ([str ((s.drop 0).take (gg - 0)), .slice none 0 0]) 73).refl _, rfl, by first | exact agree_put | exact agree_refl⟩
  refine certs_cons ?_ ?_
  intro x vs w3 e hk3 hd he
  obtain ⟨d4, d5⟩ : (vs 4 = (str s)) ∧ (vs 5 = (.int .i64 (gg : Int))) := hd
  replace hk3 := (kept_ks (w.heap.size) ([str ((s.drop 0).take (gg - 0)), .slice none 0 0]) 73).trans hkd hk3
  replace he : e = over (havoc _ x _) [(31, vs 4), (32, vs 5)] := he
  rw [d4, d5] at he
  subst he
  refine ow_sslice tStr9 rfl rfl rfl (.inr ⟨_, rfl⟩) (.inl ⟨rfl, rfl⟩) (by omega) (by omega) <| ow_nil ?_
  exact ⟨(kept_ks (w.heap.size) ([str ((s.drop 0).take (gg - 0)), .slice none 0 0]) 73).refl _, rfl, by first | exact agree_put | exact agree_refl⟩
  refine certs_cons ?_ ?_
  intro x vs w3 e hk3 hd he
  replace hk3 := (kept_ks (w.heap.size) ([str ((s.drop 0).take (gg - 0)), .slice none 0 0]) 73).trans hkd hk3
  replace he : e = over (havoc _ x _) [] := he
  subst he
  refine zm <| ow_nil ?_
  exact ⟨(kept_ks (w.heap.size) ([str ((s.drop 0).take (gg - 0)), .slice none 0 0]) 73).refl _, rfl, by first | exact agree_put | exact agree_refl⟩
  refine certs_cons ?_ ?_
  intro x vs w3 e hk3 hd he
  have d7 : vs 7 = (.int .i64 (gg : Int)) := hd
  replace hk3 := (kept_ks (w.heap.size) ([str ((s.drop 0).take (gg - 0)), .slice none 0 0]) 73).trans hkd hk3
  replace he : e = over (havoc _ x _) [(34, vs 7)] := he
  rw [d7] at he
  subst he
  refine ow_gtr rfl rfl rfl rfl rfl <| ow_nil ?_
  exact ⟨(kept_ks (w.heap.size) ([str ((s.drop 0).take (gg - 0)), .slice none 0 0]) 73).refl _, rfl, by first | exact agree_put | exact agree_refl⟩
  refine certs_cons ?_ ?_
  intro x vs w3 e hk3 hd he
  have d3 : vs 3 = (.agg #[str ((s.drop 0).take (gg - 0)), .slice none 0 0]) := hd
  replace hk3 := (kept_ks (w.heap.size) ([str ((s.drop 0).take (gg - 0)), .slice none 0 0]) 73).trans hkd hk3
  obtain ⟨us, hus, hbu⟩ := hk3.2.2 ⟨_, (by rfl), hb4⟩
  replace he : e = over (havoc _ x _) [(30, vs 3)] := he
  rw [d3] at he
  subst he
  refine ow_storeA tI73 rfl rfl rfl rfl rfl hbu (by rw [hus]; rfl) ?_
  intro w4 hk4 hb hz4
  refine ow_nil ?_
  exact ⟨⟨hk4, fun _ => hb, fun _ => ⟨_, rfl, hb⟩⟩, hb, by first | exact agree_put | exact agree_refl⟩
  refine certs_cons ?_ ?_
  intro x vs w3 e hk3 hd he
  have d6 : vs 6 = (str ((s.drop gg).take (s.length - gg))) := hd
  replace hk3 := (kept_ks (w.heap.size) ([str ((s.drop 0).take (gg - 0)), .slice none 0 0]) 73).trans hkd hk3
  replace he : e = over (havoc _ x _) [(33, vs 6)] := he
  rw [d6] at he
  subst he
  refine zA <| ow_nil ?_
  exact ⟨(kept_ks (w.heap.size) ([str ((s.drop 0).take (gg - 0)), .slice none 0 0]) 73).refl _, rfl, by first | exact agree_put | exact agree_refl⟩
  refine certs_cons ?_ ?_
  intro x vs w3 e hk3 hd he
  have d8 : vs 8 = (.bool (decide ((0 : Int) < (gg : Int)))) := hd
  replace hk3 := (kept_ks (w.heap.size) ([str ((s.drop 0).take (gg - 0)), .slice none 0 0]) 73).trans hkd hk3
  replace he : e = over (havoc _ x _) [(35, vs 8)] := he
  rw [d8] at he
  subst he
  refine zA <| ow_nil ?_
  exact ⟨(kept_ks (w.heap.size) ([str ((s.drop 0).take (gg - 0)), .slice none 0 0]) 73).refl _, rfl, by first | exact agree_put | exact agree_refl⟩
  exact trivial
  intro x vs w42 hk42 hdraw
  have d0 : vs 0 = (str s) := hdraw 0 (by decide)
  have d1 : vs 1 = (.int .i64 (gg : Int)) := hdraw 1 (by decide)
  have d2 : vs 2 = (str ((s.drop 0).take (gg - 0))) := hdraw 2 (by decide)
  have d3 : vs 3 = (.agg #[str ((s.drop 0).take (gg - 0)), .slice none 0 0]) := hdraw 3 (by decide)
  have d4 : vs 4 = (str s) := hdraw 4 (by decide)
  have d5 : vs 5 = (.int .i64 (gg : Int)) := hdraw 5 (by decide)
  have d6 : vs 6 = (str ((s.drop gg).take (s.length - gg))) := hdraw 6 (by decide)
  have d7 : vs 7 = (.int .i64 (gg : Int)) := hdraw 7 (by decide)
  have d8 : vs 8 = (.bool (decide ((0 : Int) < (gg : Int)))) := hdraw 8 (by decide)
  have d9 : Blk w42 (w.heap.size) ([str ((s.drop 0).take (gg - 0)), .slice none 0 0]).toArray 73 := hdraw 9 (by decide)
  have d10 : vs 10 = (str ((s.drop gg).take (s.length - gg))) := hdraw 10 (by decide)
  have d11 : vs 11 = (.bool (decide ((0 : Int) < (gg : Int)))) := hdraw 11 (by decide)
  have hK := hK.sto hk42.1 (by simp <;> omega)
  have hb4 := d9
  change OW _ _ _ _ [] (over (havoc _ x _) [(27, vs 0), (28, vs 1), (29, vs 2), (30, vs 3), (31, vs 4), (32, vs 5), (33, vs 6), (34, vs 7), (35, vs 8), (100009, vs 9), (5, vs 10), (6, vs 11)]) _
  rw [d0, d1, d2, d3, d4, d5, d6, d7, d8, d10, d11]
  refine ow_nil <| cw_ret <| ⟨[_, _, _], ⟨resultAt_blk tAgg73 tI73 rfl hb4 rfl, rfl, rfl⟩, ⟨.mk (s.takeWhile atomByte) [], _, s.dropWhile atomByte, _, by rw [List.drop_zero, Nat.sub_zero, hgT, takeWhile_take, take_all, dropWhile_drop]; rfl, rtree_mk rtrees_nil, ?_⟩, hK⟩
  unfold ReadI
  rw [readT_noOpen hno]
  by_cases hz : s.takeWhile atomByte = []
  rw [if_pos hz]; exact .inr ⟨rfl, by simp [hz]⟩
  rw [if_neg hz]; refine .inl ⟨rfl, decide_eq_true ?_⟩; have := List.length_pos_iff.2 hz; omega
  obtain ⟨r0, rfl⟩ := hasOpen h1
  refine cw_skip <| cw_seq <| zr <| zm <| ow_eql rfl rfl rfl rfl rfl <| ow_nil <| zc rfl (fun h4 => ?_) (fun h4 => ?_)
  have hd0 : d = 0 := by omega
  refine zr <| ow_build (tB73_ _) rfl rfl <| ow_storeA tI73 rfl rfl rfl rfl rfl hb4 rfl ?_
  intro w2 hk2 hb4 hz2
  have hK := hK.sto hk2 (by simp <;> omega)
  refine zA <| zA <| ow_nil <| cw_ret ?_
  exact ⟨[_, _, _], ⟨resultAt_blk tAgg73 tI73 rfl hb4 rfl, rfl, rfl⟩, ⟨.mk [] [], _, [], _, rfl, rtree_mk rtrees_nil, .inr ⟨by rw [hd0]; simp [readT], rfl⟩⟩, hK⟩
  obtain ⟨d', rfl⟩ : ∃ d', d = d' + 1 := ⟨d - 1, by omega⟩
  refine cw_skip <| zr <| ow_allocA tI73 rfl rfl rfl ?_
  intro w2 hk2 hb8 hz2
  have hK := hK.grow; have hK := hK.ext hk2; have hb4 := hb4.grow; have hb4 := hb4.ext hk2
  refine ow_nil <| cw_block ?_
  have hb4L := hb4.lt
  refine cw_loop (fun q : List Tree × Bytes × Option Addr × Nat × Option Nat => [(0, str q.2.1), (1, .int .i64 ((60 : Int) - ((d' + 1 : Nat) : Int))), (4, .pointer (some ⟨w.heap.size, 0, none⟩)), (8, .pointer (some ⟨w1.heap.size, 0, none⟩))]) (fun q w' => Keep [] w w' ∧ Blk w' w.heap.size [str [], .slice none 0 0].toArray 73 ∧ Blk w' w1.heap.size [str [], .slice q.2.2.1 q.1.length q.2.2.2.1].toArray 73 ∧ Gr w.heap.size (w.heap.size :: w1.heap.size :: L) w' 73 2 (.slice q.2.2.1 q.1.length q.2.2.2.1) q.2.2.2.2 (encs q.1) ∧ 0 < q.2.1.length ∧ q.2.1.length + q.1.length ≤ 12000 ∧ partsFrom (d' + 1) r0 = (partsFrom (d' + 1) (q.2.1.drop 1)).map (fun p => (q.1 ++ p.1, p.2))) (fun q => q.2.1.length) (([], 40 :: r0, none, 0, none)) (⟨rfl, rfl, rfl, rfl⟩) (⟨hK, hb4, hb8, Gr.nil (by intro x hx; simp at hx; rcases hx with rfl | rfl | hx; omega; omega; have := hL x hx; omega) (by omega), by simp, by simp at hs ⊢; omega, by simp⟩) ?_
  intro gg w3 e3 hI
  obtain ⟨acc, sc, a, cc, g⟩ := gg
  dsimp only at hI ⊢
  obtain ⟨hK, hb4, hb8, hO, hsc, hacc, hpf⟩ := hI
  have hsz := hK.size
  have hbl4 := hb4.lt
  have hbl8 := hb8.lt
  refine cw_block <| zr <| zm <| ow_sslice (l := 1) tStr9 rfl rfl rfl (.inr ⟨_, rfl⟩) (.inl ⟨rfl, rfl⟩) (by omega) (by omega) <| zm <| ow_add rfl rfl rfl rfl rfl (show IntKind.i64.wrap ((60 : Int) - ((d' + 1 : Nat) : Int) + 1) = (60 : Int) - (d' : Int) by rw [wrap_i64 _ (by omega) (by omega)]; omega) ?_
  rw [take_all]
  refine ow_call rfl rfl (ih d' (by omega) (sc.drop 1) (g.toList ++ (w.heap.size :: w1.heap.size :: L)) w3 (by omega) (by simp; omega) hO.all) ?_
  rintro v4 w4 ⟨hv4, hk4⟩
  have hs4 := hk4.size
  have hK := hK.ext hk4; have hb4 := hb4.ext hk4; have hb8 := hb8.ext hk4; have hO := hO.ext hk4
  obtain ⟨t, tv, r, ok, rfl, ht, hm⟩ := hv4
  obtain ⟨pa, pn, pc, rfl, hpn, hps⟩ := rtree_cases ht
  subst hpn
  refine zm <| zx (i := 0) rfl rfl <| zx (i := 1) rfl rfl <| zx (i := 2) rfl rfl <| ow_allocA tI73 rfl rfl rfl ?_
  intro w5 hk5 hb9 hz5
  have hK := hK.grow; have hK := hK.ext hk5; have hb4 := hb4.grow; have hb4 := hb4.ext hk5; have hb8 := hb8.grow; have hb8 := hb8.ext hk5; have hO := hO.alloc hk5 hz5; have ht := ht.grow; have ht := ht.ext hk5
  refine ow_storeA tI73 rfl rfl rfl rfl rfl hb9 rfl ?_
  intro w6 hk6 hb9 hz6
  have hK := hK.sto hk6 (by simp <;> omega); have hb4 := hb4.sto hk6 (by simp <;> omega); have hb8 := hb8.sto hk6 (by simp <;> omega); have hO := hO.sto hk6 (by simp <;> omega); have ht := ht.sto hk6 (by simp <;> omega)
  refine zA <| zA <| ow_nil <| cw_seq <| zr <| zm <| ow_not rfl rfl rfl <| zm ?_
  apply ow_or 3 50 53 [50, 51, 52, 53] (fun w' => w6 = w') rfl
  intro h5
  replace h5 := tst h5
  refine zs <| zs <| zp rfl <| ow_nil ?_
  exact ⟨by repeat (first | with_reducible exact agree_refl | refine agree_upd rfl ?_ | refine agree_hav rfl ?_), rfl, rfl⟩
  intro h5
  replace h5 := tst h5
  skip
  refine zm <| ow_seql rfl rfl rfl rfl <| zp rfl <| ow_nil ?_
  exact ⟨by repeat (first | with_reducible exact agree_refl | refine agree_upd rfl ?_ | refine agree_hav rfl ?_), rfl, rfl⟩
  rintro xx _ rfl
  refine zm ?_
  apply ow_or 9 54 63 [54, 55, 56, 57, 58, 59, 60, 61, 62, 63] (fun w' => w6 = w') rfl
  intro h6
  replace h6 := tst h6
  refine zs <| zs <| zs <| zs <| zs <| zs <| zs <| zs <| zp rfl <| ow_nil ?_
  exact ⟨by repeat (first | with_reducible exact agree_refl | refine agree_upd rfl ?_ | refine agree_hav rfl ?_), rfl, rfl⟩
  intro h6
  replace h6 := tst h6
  simp at h6
  have hrl := List.length_pos_iff.2 h6.2
  refine zm <| ow_sindex (i := 0) tStr9 rfl rfl rfl rfl (get_getD hrl) <| ow_neq rfl rfl rfl rfl rfl <| zm ?_
  apply ow_and 4 58 62 [58, 59, 60, 61, 62] (fun w' => w6 = w') rfl
  intro h7
  replace h7 := tst h7
  skip
  refine zm <| ow_sindex (i := 0) tStr9 rfl rfl rfl rfl (get_getD hrl) <| ow_neq rfl rfl rfl rfl rfl <| zp rfl <| ow_nil ?_
  exact ⟨by repeat (first | with_reducible exact agree_refl | refine agree_upd rfl ?_ | refine agree_hav rfl ?_), rfl, rfl⟩
  intro h7
  replace h7 := tst h7
  refine zs <| zs <| zs <| zp rfl <| ow_nil ?_
  exact ⟨by repeat (first | with_reducible exact agree_refl | refine agree_upd rfl ?_ | refine agree_hav rfl ?_), rfl, rfl⟩
  rintro xx _ rfl
  refine zp rfl <| ow_nil ?_
  exact ⟨by repeat (first | with_reducible exact agree_refl | refine agree_upd rfl ?_ | refine agree_hav rfl ?_), rfl, rfl⟩
  rintro xx _ rfl
  refine ow_nil <| zc rfl (fun h8 => ?_) (fun h8 => ?_)
  have hR : readT (d' + 1) (40 :: r0) = none := by rw [readT_open, hpf, stop_no hm h8]; rfl
  refine zr <| ow_build (tB73_ _) rfl rfl <| ow_storeA tI73 rfl rfl rfl rfl rfl hb4 rfl ?_
  intro w7 hk7 hb4 hz7
  have hK := hK.sto hk7 (by simp <;> omega)
  refine zA <| zA <| ow_nil <| cw_ret ?_
  exact ⟨[_, _, _], ⟨resultAt_blk tAgg73 tI73 rfl hb4 rfl, rfl, rfl⟩, ⟨.mk [] [], _, [], _, rfl, rtree_mk rtrees_nil, .inr ⟨hR, rfl⟩⟩, hK⟩
  obtain ⟨hr0, hrl, hpp⟩ := stop_yes hm h8
  refine cw_skip <| zr <| zf tF73_1 rfl <| zl tOne61 rfl (hb8.at rfl) <| zL tAgg73 tI73 rfl hb9.all rfl <| ow_buildSlice1 tSl61 tI73 rfl rfl rfl rfl rfl rfl rfl rfl ?_
  intro w7 hk7 hb68 hz7
  have hK := hK.ext hk7; have hb4 := hb4.ext hk7; have hb8 := hb8.ext hk7; have hO := hO.ext hk7; have ht := ht.ext hk7
  refine ow_growT tSl61 tI73 rfl rfl rfl rfl rfl rfl hO hb68 ht.mid (by omega) ?_
  intro a2 cc2 g2 w8 hO2 hk8
  have hs1 := hk8.size
  have hK := hO.since hK hk8
  have hb4 := hb4.sto hk8 (hO.sepL (by simp)); have hb8 := hb8.sto hk8 (hO.sepL (by simp))
  refine zf tF73_1 rfl <| ow_storeB tI61 rfl rfl rfl rfl hb8 rfl ?_
  intro w9 hk9 hb8 hz9
  have hK := hK.sto hk9 (by simp <;> omega); have hb4 := hb4.sto hk9 (by simp <;> omega); have hO2 := hO2.sto hk9 (by simp <;> omega)
  refine ow_nil <| zr <| zm <| zA <| ow_nil <| zr <| zm <| ow_sindex (i := 0) tStr9 rfl rfl rfl rfl (get_getD hr0) <| ow_eql rfl rfl rfl rfl rfl <| ow_nil <| zc rfl (fun h9 => ?_) (fun h9 => ?_)
  have hc41 : r.getD 0 0 = 41 := UInt8.toNat_inj.1 (by have h40 : (41 : UInt8).toNat = 41 := rfl; rw [h40]; omega)
  have hR : readT (d' + 1) (40 :: r0) = some (.mk [] (acc ++ [t]), r.drop 1) := by rw [readT_open, hpf, hpp, if_pos hc41]; rfl
  refine cw_seq ?_
  refine cw_draw tMixed (kept_ks (w.heap.size) ([str [], .slice a2 (acc ++ [t]).length cc2]) 73) 6 [75, 76, 77, 100003, 5, 6] [75, 76, 77, 100003, 5, 6] [[], [], [1], [0], [2], []] [fun v _ => v = (.agg #[str [], .slice a2 (acc ++ [t]).length cc2]), fun v _ => v = (str r), fun v _ => v = (str ((r.drop 1).take (r.length - 1))), fun _ ww => Blk ww (w.heap.size) ([str [], .slice a2 (acc ++ [t]).length cc2]).toArray 73, fun v _ => v = (str ((r.drop 1).take (r.length - 1))), fun v _ => v = (.bool true)] (by decide) (stab_eq (stab_eq (stab_eq (stab_sto (stab_eq (stab_eq trivial)))))) (fun wd hkd => ?_) ?_
  refine certs_cons ?_ ?_
  intro x vs w10 e hk10 hd he
  replace hk10 := (kept_ks (w.heap.size) ([str [], .slice a2 (acc ++ [t]).length cc2]) 73).trans hkd hk10
  have hb8 := hb8.sto hk10.1 (by simp <;> omega)
  replace he : e = over (havoc _ x _) [] := he
  subst he
  refine zL tAgg73 tI73 rfl hb8.all rfl <| ow_nil ?_
  exact ⟨(kept_ks (w.heap.size) ([str [], .slice a2 (acc ++ [t]).length cc2]) 73).refl _, rfl, by first | exact agree_put | exact agree_refl⟩
  refine certs_cons ?_ ?_
  intro x vs w10 e hk10 hd he
  replace hk10 := (kept_ks (w.heap.size) ([str [], .slice a2 (acc ++ [t]).length cc2]) 73).trans hkd hk10
  replace he : e = over (havoc _ x _) [] := he
  subst he
  refine zm <| ow_nil ?_
  exact ⟨(kept_ks (w.heap.size) ([str [], .slice a2 (acc ++ [t]).length cc2]) 73).refl _, rfl, by first | exact agree_put | exact agree_refl⟩
  refine certs_cons ?_ ?_
  intro x vs w10 e hk10 hd he
  have d1 : vs 1 = (str r) := hd
  replace hk10 := (kept_ks (w.heap.size) ([str [], .slice a2 (acc ++ [t]).length cc2]) 73).trans hkd hk10
  replace he : e = over (havoc _ x _) [(76, vs 1)] := he
  rw [d1] at he
  subst he
  refine ow_sslice (l := 1) tStr9 rfl rfl rfl (.inr ⟨_, rfl⟩) (.inl ⟨rfl, rfl⟩) (by omega) (by omega) <| ow_nil ?_
  exact ⟨(kept_ks (w.heap.size) ([str [], .slice a2 (acc ++ [t]).length cc2]) 73).refl _, rfl, by first | exact agree_put | exact agree_refl⟩
  refine certs_cons ?_ ?_
  intro x vs w10 e hk10 hd he
  have d0 : vs 0 = (.agg #[str [], .slice a2 (acc ++ [t]).length cc2]) := hd
  replace hk10 := (kept_ks (w.heap.size) ([str [], .slice a2 (acc ++ [t]).length cc2]) 73).trans hkd hk10
  obtain ⟨us, hus, hbu⟩ := hk10.2.2 ⟨_, (by rfl), hb4⟩
  replace he : e = over (havoc _ x _) [(75, vs 0)] := he
  rw [d0] at he
  subst he
  refine ow_storeA tI73 rfl rfl rfl rfl rfl hbu (by rw [hus]; rfl) ?_
  intro w11 hk11 hb hz11
  refine ow_nil ?_
  exact ⟨⟨hk11, fun _ => hb, fun _ => ⟨_, rfl, hb⟩⟩, hb, by first | exact agree_put | exact agree_refl⟩
  refine certs_cons ?_ ?_
  intro x vs w10 e hk10 hd he
  have d2 : vs 2 = (str ((r.drop 1).take (r.length - 1))) := hd
  replace hk10 := (kept_ks (w.heap.size) ([str [], .slice a2 (acc ++ [t]).length cc2]) 73).trans hkd hk10
  replace he : e = over (havoc _ x _) [(77, vs 2)] := he
  rw [d2] at he
  subst he
  refine zA <| ow_nil ?_
  exact ⟨(kept_ks (w.heap.size) ([str [], .slice a2 (acc ++ [t]).length cc2]) 73).refl _, rfl, by first | exact agree_put | exact agree_refl⟩
  refine certs_cons ?_ ?_
  intro x vs w10 e hk10 hd he
  replace hk10 := (kept_ks (w.heap.size) ([str [], .slice a2 (acc ++ [t]).length cc2]) 73).trans hkd hk10
  replace he : e = over (havoc _ x _) [] := he
  subst he
  refine zA <| ow_nil ?_
  exact ⟨(kept_ks (w.heap.size) ([str [], .slice a2 (acc ++ [t]).length cc2]) 73).refl _, rfl, by first | exact agree_put | exact agree_refl⟩
  exact trivial
  intro x vs w49 hk49 hdraw
  have d0 : vs 0 = (.agg #[str [], .slice a2 (acc ++ [t]).length cc2]) := hdraw 0 (by decide)
  have d1 : vs 1 = (str r) := hdraw 1 (by decide)
  have d2 : vs 2 = (str ((r.drop 1).take (r.length - 1))) := hdraw 2 (by decide)
  have d3 : Blk w49 (w.heap.size) ([str [], .slice a2 (acc ++ [t]).length cc2]).toArray 73 := hdraw 3 (by decide)
  have d4 : vs 4 = (str ((r.drop 1).take (r.length - 1))) := hdraw 4 (by decide)
  have d5 : vs 5 = (.bool true) := hdraw 5 (by decide)
  have hK := hK.sto hk49.1 (by simp <;> omega); have hO2 := hO2.sto hk49.1 (by simp <;> omega)
  have hb4 := d3
  change OW _ _ _ _ [] (over (havoc _ x _) [(75, vs 0), (76, vs 1), (77, vs 2), (100003, vs 3), (5, vs 4), (6, vs 5)]) _
  rw [d0, d1, d2, d4, d5]
  refine ow_nil <| cw_ret ?_
  exact ⟨[_, _, _], ⟨resultAt_blk tAgg73 tI73 rfl hb4 rfl, rfl, rfl⟩, ⟨.mk [] (acc ++ [t]), _, r.drop 1, _, by rw [take_all]; rfl, rtree_mk (hO2.trees.weak (fun x hx => by simp [hx])), .inl ⟨hR, rfl⟩⟩, hK⟩
  have hc41 : r.getD 0 0 ≠ 41 := fun h => h9 (by rw [h]; rfl)
  refine cw_skip ?_
  exact ⟨(acc ++ [t], r, a2, cc2, g2), ⟨rfl, rfl, rfl, rfl⟩, ⟨hK, hb4, hb8, hO2.weak (fun x hx => List.mem_cons_of_mem _ hx), hr0, by simp at hrl ⊢; omega, by rw [hpf, hpp, if_neg hc41, map_append]⟩, by simp at hrl; dsimp only; omega⟩
end Go.Proofs.YtnkjgoholocliaaGreatDoor

namespace Go.Proofs.YtnkjgoholocliaaGreatDoor
open Go

theorem parse_long {s : Bytes} (h : 12000 < s.length) : parse s = none := by unfold parse; rw [if_pos h]
def ReadPostI (L : List Nat) (s : Bytes) (v : Value) (w : World) : Prop := ∃ t tv, v = .tuple #[tv, .bool (parse s).isSome] ∧ RTree L w tv t ∧ ∀ t', parse s = some t' → t = t'
theorem read_ret (s : Bytes) (L : List Nat) (w : World) (hL : ∀ x, x ∈ L → x < w.heap.size) : Ret Tryz.prog 58 [str s] w fun r w' => ReadPostI L s r w' ∧ Keep [] w w' := by
  have hK := Keep.refl [] w
  refine ret_gen [.cell 2 73, .tmp 3] 23 Tryz.func58 rfl nm58 rfl rfl rfl ?_
  refine zr <| ow_allocA tI73 rfl rfl rfl ?_
  intro w1 hk1 hb2 hz1
  have hK := hK.grow; have hK := hK.ext hk1
  refine zA <| ow_nil <| cw_seq <| zr <| zm <| ow_lenS tStr9 rfl rfl rfl <| ow_gtr rfl rfl rfl rfl rfl <| ow_nil <| zc rfl (fun h1 => ?_) (fun h1 => ?_)
  have hp := parse_long (s := s) (by omega)
  refine zr <| ow_build (tB73_ _) rfl rfl <| ow_storeA tI73 rfl rfl rfl rfl rfl hb2 rfl ?_
  intro w2 hk2 hb2 hz2
  have hK := hK.sto hk2 (by simp <;> omega)
  refine zA <| ow_nil <| cw_ret ?_
  exact ⟨[_, _], ⟨resultAt_blk tAgg73 tI73 rfl hb2 rfl, rfl⟩, ⟨.mk [] [], _, by rw [hp]; rfl, rtree_mk rtrees_nil, by rw [hp]; intro t' h; cases h⟩, hK⟩
  have hle : s.length ≤ 12000 := by omega
  have hL1 : ∀ x, x ∈ w.heap.size :: L → x < w1.heap.size := by intro x hx; rcases List.mem_cons.1 hx with rfl | hx; omega; have := hL x hx; omega
  refine cw_skip <| zr <| zm <| ow_call rfl rfl (readForm_ret 60 s (w.heap.size :: L) w1 (by omega) hle hL1) ?_
  rintro v2 w2 ⟨hv2, hk2⟩
  have hs2 := hk2.size
  have hK := hK.ext hk2; have hb2 := hb2.ext hk2
  obtain ⟨t, tv, r, ok, rfl, ht, hm⟩ := hv2
  obtain ⟨pa, pn, pc, rfl, hpn, hps⟩ := rtree_cases ht
  subst hpn
  refine zm <| zx (i := 0) rfl rfl <| zx (i := 1) rfl rfl <| zx (i := 2) rfl rfl <| ow_allocA tI73 rfl rfl rfl ?_
  intro w3 hk3 hb4 hz3
  have hK := hK.grow; have hK := hK.ext hk3; have hb2 := hb2.grow; have hb2 := hb2.ext hk3; have ht := ht.grow; have ht := ht.ext hk3
  refine ow_storeA tI73 rfl rfl rfl rfl rfl hb4 rfl ?_
  intro w4 hk4 hb4 hz4
  have hK := hK.sto hk4 (by simp <;> omega); have hb2 := hb2.sto hk4 (by simp <;> omega); have ht := ht.sto hk4 (by simp <;> omega)
  refine zA <| zA <| ow_nil <| zr <| zL tAgg73 tI73 rfl hb4.all rfl <| zm <| zm ?_
  apply ow_and 3 19 22 [19, 20, 21, 22] (fun w' => w4 = w') rfl
  intro h2
  replace h2 := tst h2
  skip
  refine zm <| ow_seql rfl rfl rfl rfl <| zp rfl <| ow_nil ?_
  exact ⟨by repeat (first | with_reducible exact agree_refl | refine agree_upd rfl ?_ | refine agree_hav rfl ?_), rfl, rfl⟩
  intro h2
  replace h2 := tst h2
  refine zs <| zs <| zp rfl <| ow_nil ?_
  exact ⟨by repeat (first | with_reducible exact agree_refl | refine agree_upd rfl ?_ | refine agree_hav rfl ?_), rfl, rfl⟩
  rintro xx _ rfl
  refine ow_storeA tI73 rfl rfl rfl rfl rfl hb2 rfl ?_
  intro w5 hk5 hb2 hz5
  have hK := hK.sto hk5 (by simp <;> omega); have ht := ht.sto hk5 (by simp <;> omega)
  refine zA <| ow_nil <| cw_ret ?_
  obtain ⟨hp1, hp2⟩ := read_parse hle hm
  exact ⟨[_, _], ⟨resultAt_blk tAgg73 tI73 rfl hb2 rfl, rfl⟩, ⟨t, _, by rw [← hp1]; rfl, ht.weak (fun x hx => by simp [hx]), hp2⟩, hK⟩

def TargetPostI (L : List Nat) (s : Bytes) (v : Value) (w : World) : Prop := ∃ t tv, v = .tuple #[tv, .bool (targetS s)] ∧ RTree L w tv t ∧ ∀ t', parse s = some t' → t = t'
theorem readTarget_ret (s : Bytes) (L : List Nat) (w : World) (hL : ∀ x, x ∈ L → x < w.heap.size) : Ret Tryz.prog 135 [str s] w fun r w' => TargetPostI L s r w' ∧ Keep [] w w' := by
  have hK := Keep.refl [] w
  refine ret_gen [.cell 2 73, .tmp 3] 17 Tryz.func135 rfl nm135 rfl rfl rfl ?_
  refine zr <| ow_allocA tI73 rfl rfl rfl ?_
  intro w1 hk1 hb2 hz1
  have hK := hK.grow; have hK := hK.ext hk1
  refine zA <| ow_nil <| zr <| zm <| ow_call rfl rfl (read_ret s (w.heap.size :: L) w1 (by intro x hx; rcases List.mem_cons.1 hx with rfl | hx; omega; have := hL x hx; omega)) ?_
  rintro v2 w2 ⟨hv2, hk2⟩
  have hs2 := hk2.size
  have hK := hK.ext hk2; have hb2 := hb2.ext hk2
  obtain ⟨t, tv, rfl, ht, hp⟩ := hv2
  obtain ⟨pa, pn, pc, rfl, hpn, hps⟩ := rtree_cases ht
  subst hpn
  have hwf := fun h => isSome_wf hp h
  refine zm <| zx (i := 0) rfl rfl <| zx (i := 1) rfl rfl <| ow_allocA tI73 rfl rfl rfl ?_
  intro w3 hk3 hb4 hz3
  have hK := hK.grow; have hK := hK.ext hk3; have hb2 := hb2.grow; have hb2 := hb2.ext hk3; have ht := ht.grow; have ht := ht.ext hk3
  refine ow_storeA tI73 rfl rfl rfl rfl rfl hb4 rfl ?_
  intro w4 hk4 hb4 hz4
  have hK := hK.sto hk4 (by simp <;> omega); have hb2 := hb2.sto hk4 (by simp <;> omega); have ht := ht.sto hk4 (by simp <;> omega)
  refine zA <| ow_nil <| cw_seq ?_
  refine cw_draw tMixed (kept_ks (w.heap.size) ([str t.atom, .slice pa t.parts.length pc]) 73) 8 [11, 12, 13, 14, 15, 16, 100006, 3] [11, 12, 13, 14, 15, 16, 100006, 3] [[], [], [1], [2], [2, 3], [2, 4], [0], [5]] [fun v _ => v = (.agg #[str t.atom, .slice pa t.parts.length pc]), fun v _ => v = (.bool ((parse s).isSome)), fun v _ => v = (.bool ((parse s).isSome)), fun v _ => ((parse s).isSome) = true → v = (.agg #[str t.atom, .slice pa t.parts.length pc]), fun v _ => ((parse s).isSome) = true → v = (.bool (targetB false t)), fun v _ => v = (.bool ((parse s).isSome && targetB false t)), fun _ ww => Blk ww (w.heap.size) ([str t.atom, .slice pa t.parts.length pc]).toArray 73, fun v _ => v = (.bool ((parse s).isSome && targetB false t))] (by decide) (stab_eq (stab_eq (stab_eq (stab_if (stab_if (stab_eq (stab_sto (stab_eq trivial)))))))) (fun wd hkd => ?_) ?_
  refine certs_cons ?_ ?_
  intro x vs w5 e hk5 hd he
  replace hk5 := (kept_ks (w.heap.size) ([str t.atom, .slice pa t.parts.length pc]) 73).trans hkd hk5
  have hb4 := hb4.sto hk5.1 (by simp <;> omega)
  replace he : e = over (havoc _ x _) [] := he
  subst he
  refine zL tAgg73 tI73 rfl hb4.all rfl <| ow_nil ?_
  exact ⟨(kept_ks (w.heap.size) ([str t.atom, .slice pa t.parts.length pc]) 73).refl _, rfl, by first | exact agree_put | exact agree_refl⟩
  refine certs_cons ?_ ?_
  intro x vs w5 e hk5 hd he
  replace hk5 := (kept_ks (w.heap.size) ([str t.atom, .slice pa t.parts.length pc]) 73).trans hkd hk5
  replace he : e = over (havoc _ x _) [] := he
  subst he
  refine zm <| ow_nil ?_
  exact ⟨(kept_ks (w.heap.size) ([str t.atom, .slice pa t.parts.length pc]) 73).refl _, rfl, by first | exact agree_put | exact agree_refl⟩
  refine certs_cons ?_ ?_
  intro x vs w5 e hk5 hd he
  have d1 : vs 1 = (.bool ((parse s).isSome)) := hd
  replace hk5 := (kept_ks (w.heap.size) ([str t.atom, .slice pa t.parts.length pc]) 73).trans hkd hk5
  replace he : e = over (havoc _ x _) [(12, vs 1)] := he
  rw [d1] at he
  subst he
  refine zm <| ow_nil ?_
  exact ⟨(kept_ks (w.heap.size) ([str t.atom, .slice pa t.parts.length pc]) 73).refl _, rfl, by first | exact agree_put | exact agree_refl⟩
  refine certs_cons ?_ ?_
  intro x vs w5 e hk5 hd he
  have d2 : vs 2 = (.bool ((parse s).isSome)) := hd
  replace hk5 := (kept_ks (w.heap.size) ([str t.atom, .slice pa t.parts.length pc]) 73).trans hkd hk5
  have hb4 := hb4.sto hk5.1 (by simp <;> omega)
  rcases Bool.eq_false_or_eq_true ((parse s).isSome) with hg | hg
  rw [hg] at d2
  replace he : e = over (havoc _ x _) [(13, vs 2)] := he
  rw [d2] at he
  subst he
  refine zL tAgg73 tI73 rfl hb4.all rfl <| ow_nil ?_
  exact ⟨(kept_ks (w.heap.size) ([str t.atom, .slice pa t.parts.length pc]) 73).refl _, (show ((parse s).isSome) = true → _ = ((.agg #[str t.atom, .slice pa t.parts.length pc]) : Value) from fun _ => rfl), by first | exact agree_put | exact agree_refl⟩
  rw [hg] at d2
  replace he : e = over (havoc _ x _) [(13, vs 2)] := he
  rw [d2] at he
  subst he
  refine zs <| ow_nil ?_
  exact ⟨(kept_ks (w.heap.size) ([str t.atom, .slice pa t.parts.length pc]) 73).refl _, (show ((parse s).isSome) = true → _ = (_ : Value) from fun hh => nomatch hg.symm.trans hh), by first | exact agree_put | exact agree_refl⟩
  refine certs_cons ?_ ?_
  intro x vs w5 e hk5 hd he
  obtain ⟨d2, d3⟩ : (vs 2 = (.bool ((parse s).isSome))) ∧ (((parse s).isSome) = true → vs 3 = (.agg #[str t.atom, .slice pa t.parts.length pc])) := hd
  replace hk5 := (kept_ks (w.heap.size) ([str t.atom, .slice pa t.parts.length pc]) 73).trans hkd hk5
  have ht := ht.sto hk5.1 (by simp <;> omega)
  rcases Bool.eq_false_or_eq_true ((parse s).isSome) with hg | hg
  rw [hg] at d2
  replace d3 := d3 hg
  replace he : e = over (havoc _ x _) [(13, vs 2), (14, vs 3)] := he
  rw [d2, d3] at he
  subst he
  refine ow_call rfl rfl (isTarget_ret t.size t (Nat.le_refl _) (by have := (hwf hg).2; omega) (hwf hg).1 false _ _ w5 ht) ?_
  rintro v6 w6 ⟨hv6, hk6⟩
  have hs6 := hk6.size
  obtain rfl := hv6
  refine ow_nil ?_
  exact ⟨(kept_ks (w.heap.size) ([str t.atom, .slice pa t.parts.length pc]) 73).of hk6, (show ((parse s).isSome) = true → _ = ((.bool (targetB false t)) : Value) from fun _ => rfl), by first | exact agree_put | exact agree_refl⟩
  rw [hg] at d2
  replace he : e = over (havoc _ x _) [(13, vs 2), (14, vs 3)] := he
  rw [d2] at he
  subst he
  refine zs <| ow_nil ?_
  exact ⟨(kept_ks (w.heap.size) ([str t.atom, .slice pa t.parts.length pc]) 73).refl _, (show ((parse s).isSome) = true → _ = (_ : Value) from fun hh => nomatch hg.symm.trans hh), by first | exact agree_put | exact agree_refl⟩
  refine certs_cons ?_ ?_
  intro x vs w5 e hk5 hd he
  obtain ⟨d2, d4⟩ : (vs 2 = (.bool ((parse s).isSome))) ∧ (((parse s).isSome) = true → vs 4 = (.bool (targetB false t))) := hd
  replace hk5 := (kept_ks (w.heap.size) ([str t.atom, .slice pa t.parts.length pc]) 73).trans hkd hk5
  rcases Bool.eq_false_or_eq_true ((parse s).isSome) with hg | hg
  rw [hg] at d2
  replace d4 := d4 hg
  replace he : e = over (havoc _ x _) [(13, vs 2), (15, vs 4)] := he
  rw [d2, d4] at he
  subst he
  refine zp rfl <| ow_nil ?_
  exact ⟨(kept_ks (w.heap.size) ([str t.atom, .slice pa t.parts.length pc]) 73).refl _, by first | rfl | (rw [hg]; rfl), by first | exact agree_put | exact agree_refl⟩
  rw [hg] at d2
  replace he : e = over (havoc _ x _) [(13, vs 2), (15, vs 4)] := he
  rw [d2] at he
  subst he
  refine zp rfl <| ow_nil ?_
  exact ⟨(kept_ks (w.heap.size) ([str t.atom, .slice pa t.parts.length pc]) 73).refl _, by first | rfl | (rw [hg]; rfl), by first | exact agree_put | exact agree_refl⟩
  refine certs_cons ?_ ?_
  intro x vs w5 e hk5 hd he
  have d0 : vs 0 = (.agg #[str t.atom, .slice pa t.parts.length pc]) := hd
  replace hk5 := (kept_ks (w.heap.size) ([str t.atom, .slice pa t.parts.length pc]) 73).trans hkd hk5
  obtain ⟨us, hus, hbu⟩ := hk5.2.2 ⟨_, (by rfl), hb2⟩
  replace he : e = over (havoc _ x _) [(11, vs 0)] := he
  rw [d0] at he
  subst he
  refine ow_storeA tI73 rfl rfl rfl rfl rfl hbu (by rw [hus]; rfl) ?_
  intro w6 hk6 hb hz6
  refine ow_nil ?_
  exact ⟨⟨hk6, fun _ => hb, fun _ => ⟨_, rfl, hb⟩⟩, hb, by first | exact agree_put | exact agree_refl⟩
  refine certs_cons ?_ ?_
  intro x vs w5 e hk5 hd he
  have d5 : vs 5 = (.bool ((parse s).isSome && targetB false t)) := hd
  replace hk5 := (kept_ks (w.heap.size) ([str t.atom, .slice pa t.parts.length pc]) 73).trans hkd hk5
  replace he : e = over (havoc _ x _) [(16, vs 5)] := he
  rw [d5] at he
  subst he
  refine zA <| ow_nil ?_
  exact ⟨(kept_ks (w.heap.size) ([str t.atom, .slice pa t.parts.length pc]) 73).refl _, rfl, by first | exact agree_put | exact agree_refl⟩
  exact trivial
  intro x vs w44 hk44 hdraw
  have d0 : vs 0 = (.agg #[str t.atom, .slice pa t.parts.length pc]) := hdraw 0 (by decide)
  have d1 : vs 1 = (.bool ((parse s).isSome)) := hdraw 1 (by decide)
  have d2 : vs 2 = (.bool ((parse s).isSome)) := hdraw 2 (by decide)
  have d3 : ((parse s).isSome) = true → vs 3 = (.agg #[str t.atom, .slice pa t.parts.length pc]) := hdraw 3 (by decide)
  have d4 : ((parse s).isSome) = true → vs 4 = (.bool (targetB false t)) := hdraw 4 (by decide)
  have d5 : vs 5 = (.bool ((parse s).isSome && targetB false t)) := hdraw 5 (by decide)
  have d6 : Blk w44 (w.heap.size) ([str t.atom, .slice pa t.parts.length pc]).toArray 73 := hdraw 6 (by decide)
  have d7 : vs 7 = (.bool ((parse s).isSome && targetB false t)) := hdraw 7 (by decide)
  have hK := hK.sto hk44.1 (by simp <;> omega); have ht := ht.sto hk44.1 (by simp <;> omega)
  have hb2 := d6
  change OW _ _ _ _ [] (over (havoc _ x _) [(11, vs 0), (12, vs 1), (13, vs 2), (14, vs 3), (15, vs 4), (16, vs 5), (100006, vs 6), (3, vs 7)]) _
  rw [d0, d1, d2, d5, d7]
  refine ow_nil <| cw_ret ?_
  exact ⟨[_, _], ⟨resultAt_blk tAgg73 tI73 rfl hb2 rfl, rfl⟩, ⟨t, _, by rw [seen_eq (f := targetB false) hp]; rfl, ht.weak (fun x hx => by simp [hx]), hp⟩, hK⟩

def BlkPost (L : List Nat) (b : Bk) (v : Value) (w : World) : Prop := ∃ ib bv, v = .tuple #[bv, .bool (blockI b)] ∧ RIBk L w bv ib ∧ (blockI b = true → ib = bkI b)
theorem blk_no {L : List Nat} {b : Bk} {w : World} (h : blockI b = false) : BlkPost L b (.tuple #[.agg #[str [], .slice none 0 0, .slice none 0 0], .bool false]) w :=
  ⟨⟨[], [], []⟩, _, by rw [h], ribk_of rtrees_nil rtrees_nil, by rw [h]; intro h; cases h⟩
theorem readBlock_ret (k : Bk) (hl : k.label.length < 1000000000) (hn1 : k.needs.length < 1000000000) (hn2 : k.code.length < 1000000000) (v : Value) (Li L : List Nat) (w : World) (hv : RBk Li w v k) (hL : ∀ x, x ∈ L → x < w.heap.size) :
    Ret Tryz.prog 101 [v] w fun r w' => BlkPost L k r w' ∧ Keep [] w w' := by
  obtain ⟨a1, n1, c1, a2, n2, c2, rfl, he1, he2, hs1, hs2⟩ := rbk_cases hv
  have hK := Keep.refl [] w
  refine ret_gen [.cell 2 63, .tmp 3] 102 Tryz.func101 rfl nm101 rfl rfl rfl ?_
  refine zr <| ow_boxA rfl rfl rfl ?_
  intro w1 hk1 hb1 hz1
  have hK := hK.ext hk1
  refine ow_allocA tI63 rfl rfl rfl ?_
  intro w2 hk2 hb2 hz2
  have hK := hK.grow; have hK := hK.ext hk2; have hb1 := hb1.grow; have hb1 := hb1.ext hk2
  refine zA <| ow_nil <| cw_seq <| zr <| zf tF55_0 rfl <| zl tOne9 rfl (hb1.at rfl) <| ow_call rfl rfl (isLabelI_ret _ (by omega) _) ?_
  rintro _ _ ⟨rfl, rfl⟩
  refine ow_not rfl rfl rfl <| zm ?_
  apply ow_or 5 17 22 [17, 18, 19, 20, 21, 22] (fun w' => w2 = w') rfl
  intro h1
  replace h1 := tst h1
  refine zs <| zs <| zs <| zs <| zp rfl <| ow_nil ?_
  exact ⟨by repeat (first | with_reducible exact agree_refl | refine agree_upd rfl ?_ | refine agree_hav rfl ?_), rfl, rfl⟩
  intro h1
  replace h1 := tst h1
  skip
  refine zf tF55_0 rfl <| zl tOne9 rfl (hb1.at rfl) <| ow_lenS tStr9 rfl rfl rfl <| ow_gtr rfl rfl rfl rfl rfl <| zp rfl <| ow_nil ?_
  exact ⟨by repeat (first | with_reducible exact agree_refl | refine agree_upd rfl ?_ | refine agree_hav rfl ?_), rfl, rfl⟩
  rintro xx _ rfl
  refine zm ?_
  apply ow_or 5 23 28 [23, 24, 25, 26, 27, 28] (fun w' => w2 = w') rfl
  intro h2
  replace h2 := tst h2
  refine zs <| zs <| zs <| zs <| zp rfl <| ow_nil ?_
  exact ⟨by repeat (first | with_reducible exact agree_refl | refine agree_upd rfl ?_ | refine agree_hav rfl ?_), rfl, rfl⟩
  intro h2
  replace h2 := tst h2
  skip
  refine zf tF55_1 rfl <| zl tOne35 rfl (hb1.at rfl) <| ow_len tSl35 rfl rfl rfl <| ow_gtr rfl rfl rfl rfl rfl <| zp rfl <| ow_nil ?_
  exact ⟨by repeat (first | with_reducible exact agree_refl | refine agree_upd rfl ?_ | refine agree_hav rfl ?_), rfl, rfl⟩
  rintro xx _ rfl
  refine zm ?_
  apply ow_or 6 29 35 [29, 30, 31, 32, 33, 34, 35] (fun w' => w2 = w') rfl
  intro h3
  replace h3 := tst h3
  refine zs <| zs <| zs <| zs <| zs <| zp rfl <| ow_nil ?_
  exact ⟨by repeat (first | with_reducible exact agree_refl | refine agree_upd rfl ?_ | refine agree_hav rfl ?_), rfl, rfl⟩
  intro h3
  replace h3 := tst h3
  skip
  refine zf tF55_2 rfl <| zl tOne35 rfl (hb1.at rfl) <| ow_len tSl35 rfl rfl rfl <| ow_call rfl rfl (within_ret _ _ _ _) ?_
  rintro _ _ ⟨rfl, rfl⟩
  refine ow_not rfl rfl rfl <| zp rfl <| ow_nil ?_
  exact ⟨by repeat (first | with_reducible exact agree_refl | refine agree_upd rfl ?_ | refine agree_hav rfl ?_), rfl, rfl⟩
  rintro xx _ rfl
  refine ow_nil <| zc rfl (fun h4 => ?_) (fun h4 => ?_)
  have hq := blockI_head he1 he2 h4
  refine zr <| ow_build (tB63_ _) rfl rfl <| ow_storeA tI63 rfl rfl rfl rfl rfl hb2 rfl ?_
  intro w3 hk3 hb2 hz3
  have hK := hK.sto hk3 (by simp <;> omega)
  refine zA <| ow_nil <| cw_ret ?_
  exact ⟨[_, _], ⟨resultAt_blk tAgg63 tI63 rfl hb2 rfl, rfl⟩, blk_no hq, hK⟩
  obtain ⟨hhd, hsl⟩ := blockI_head' he1 he2 h4
  have hbn : k.needs.length ≤ 40 ∧ k.code.length ≤ 80 := by simp only [Bool.and_eq_true, decide_eq_true_eq] at hhd; exact ⟨hhd.1.2, hhd.2.2⟩
  refine cw_skip <| zr <| zf tF55_0 rfl <| zl tOne9 rfl (hb1.at rfl) <| ow_build (tB63_0 _ _) rfl rfl <| ow_allocA tI63 rfl rfl rfl ?_
  intro w3 hk3 hb4 hz3
  have hK := hK.grow; have hK := hK.ext hk3; have hb1 := hb1.grow; have hb1 := hb1.ext hk3; have hb2 := hb2.grow; have hb2 := hb2.ext hk3
  refine ow_storeA tI63 rfl rfl rfl rfl rfl hb4 rfl ?_
  intro w4 hk4 hb4 hz4
  have hK := hK.sto hk4 (by simp <;> omega); have hb1 := hb1.sto hk4 (by simp <;> omega); have hb2 := hb2.sto hk4 (by simp <;> omega)
  refine ow_nil <| cw_seq <| zr <| zf tF55_1 rfl <| zl tOne35 rfl (hb1.at rfl) <| ow_len tSl35 rfl rfl rfl <| zm <| ow_nil <| cw_block ?_
  refine cw_loop (fun q : Nat × Option Addr × Nat × Option Nat => [(1, .pointer (some ⟨w.heap.size, 0, none⟩)), (2, .pointer (some ⟨w1.heap.size, 0, none⟩)), (4, .pointer (some ⟨w2.heap.size, 0, none⟩)), (41, .slice a1 n1 c1), (42, .int .i64 (n1 : Int)), (43, .int .i64 (q.1 : Int))]) (fun q w' => Keep [] w w' ∧ Blk w' w.heap.size [str k.label, .slice a1 n1 c1, .slice a2 n2 c2].toArray 55 ∧ Blk w' w1.heap.size [str [], .slice none 0 0, .slice none 0 0].toArray 63 ∧ Blk w' w2.heap.size [str k.label, .slice q.2.1 ((k.needs.take q.1).map tr).length q.2.2.1, .slice none 0 0].toArray 63 ∧ Gr w1.heap.size (w1.heap.size :: w2.heap.size :: L) w' 73 2 (.slice q.2.1 ((k.needs.take q.1).map tr).length q.2.2.1) q.2.2.2 (encs ((k.needs.take q.1).map tr)) ∧ q.1 ≤ k.needs.length ∧ ∀ i, i < q.1 → targetS (sth k.needs i) = true) (fun q => k.needs.length - q.1) ((0, none, 0, none)) (⟨rfl, rfl, rfl, rfl, rfl, rfl⟩) (⟨hK, hb1, hb2, hb4, Gr.nil (by intro x hx; simp at hx; rcases hx with rfl | rfl | hx; omega; omega; have := hL x hx; omega) (by omega), by simp, by intro i hi; simp at hi⟩) ?_
  intro gg w5 e5 hI
  obtain ⟨i, a, cc, g⟩ := gg
  dsimp only at hI ⊢
  obtain ⟨hK, hb1, hb2, hb4, hO, hk, hall⟩ := hI
  have hsz := hK.size
  have hbl1 := hb1.lt
  have hbl2 := hb2.lt
  have hbl4 := hb4.lt
  refine zr <| ow_lss rfl rfl rfl rfl rfl <| ow_nil <| cw_seq <| zc rfl (fun h5 => ?_) (fun h5 => ?_)
  have hgt := sth_get (xs := k.needs) (i := i) (by omega)
  obtain ⟨b, off, rfl, hc⟩ := rstrs_get (hs1.ext hK) hgt
  refine cw_skip <| cw_seq <| cw_block <| zr <| zi tSl35 tI9 rfl rfl (by omega) <| zl tOne9 rfl (hc 0 _ rfl) <| zA <| ow_nil <| zr <| zm <| ow_call rfl rfl (readTarget_ret (sth k.needs i) (g.toList ++ (w1.heap.size :: w2.heap.size :: L)) w5 hO.all) ?_
  rintro v6 w6 ⟨hv6, hk6⟩
  have hs6 := hk6.size
  have hK := hK.ext hk6; have hb1 := hb1.ext hk6; have hb2 := hb2.ext hk6; have hb4 := hb4.ext hk6; have hO := hO.ext hk6
  obtain ⟨t, tv, rfl, ht, hp⟩ := hv6
  obtain ⟨pa, pn, pc, rfl, hpn, hps⟩ := rtree_cases ht
  subst hpn
  refine zm <| zx (i := 0) rfl rfl <| zx (i := 1) rfl rfl <| ow_allocA tI73 rfl rfl rfl ?_
  intro w7 hk7 hb7 hz7
  have hK := hK.grow; have hK := hK.ext hk7; have hb1 := hb1.grow; have hb1 := hb1.ext hk7; have hb2 := hb2.grow; have hb2 := hb2.ext hk7; have hb4 := hb4.grow; have hb4 := hb4.ext hk7; have hO := hO.alloc hk7 hz7; have ht := ht.grow; have ht := ht.ext hk7
  refine ow_storeA tI73 rfl rfl rfl rfl rfl hb7 rfl ?_
  intro w8 hk8 hb7 hz8
  have hK := hK.sto hk8 (by simp <;> omega); have hb1 := hb1.sto hk8 (by simp <;> omega); have hb2 := hb2.sto hk8 (by simp <;> omega); have hb4 := hb4.sto hk8 (by simp <;> omega); have hO := hO.sto hk8 (by simp <;> omega); have ht := ht.sto hk8 (by simp <;> omega)
  refine zA <| ow_nil <| cw_seq <| zr <| zm <| ow_not rfl rfl rfl <| ow_nil <| zc rfl (fun h6 => ?_) (fun h6 => ?_)
  have hq := blockI_need (b := k) (i := i) (by omega) (by simpa using h6)
  refine zr <| ow_build (tB63_ _) rfl rfl <| ow_storeA tI63 rfl rfl rfl rfl rfl hb2 rfl ?_
  intro w9 hk9 hb2 hz9
  have hK := hK.sto hk9 (by simp <;> omega)
  refine zA <| ow_nil <| cw_ret ?_
  exact ⟨[_, _], ⟨resultAt_blk tAgg63 tI63 rfl hb2 rfl, rfl⟩, blk_no hq, hK⟩
  have hts : targetS (sth k.needs i) = true := by simpa using h6
  refine cw_skip <| cw_region <| zf tF63_1 rfl <| zl tOne61 rfl (hb4.at rfl) <| zL tAgg73 tI73 rfl hb7.all rfl <| ow_buildSlice1 tSl61 tI73 rfl rfl rfl rfl rfl rfl rfl rfl ?_
  intro w9 hk9 hb58 hz9
  have hK := hK.ext hk9; have hb1 := hb1.ext hk9; have hb2 := hb2.ext hk9; have hb4 := hb4.ext hk9; have hO := hO.ext hk9; have ht := ht.ext hk9
  refine ow_growT tSl61 tI73 rfl rfl rfl rfl rfl rfl hO hb58 ht.mid (by rw [map_take_len _ hk]; omega) ?_
  intro a3 cc3 g3 w10 hO3 hk10
  have hs1z := hk10.size
  have hK := Keep.older (by omega) hO.low hK hk10
  have hb1 := hb1.sto hk10 (hO.sepB (by omega)); have hb2 := hb2.sto hk10 (hO.sepL (by simp)); have hb4 := hb4.sto hk10 (hO.sepL (by simp))
  rw [target_tr hts hp, map_take_snoc tr hgt] at hO3 ⊢
  refine zf tF63_1 rfl <| ow_storeB tI61 rfl rfl rfl rfl hb4 rfl ?_
  intro w11 hk11 hb4 hz11
  have hK := hK.sto hk11 (by simp <;> omega); have hb1 := hb1.sto hk11 (by simp <;> omega); have hb2 := hb2.sto hk11 (by simp <;> omega); have hO3 := hO3.sto hk11 (by simp <;> omega)
  refine ow_nil <| cw_region <| ow_add rfl rfl rfl rfl rfl (wrap_i64 _ (by omega) (by omega)) <| zm <| ow_nil ?_
  exact ⟨(i + 1, a3, cc3, g3), ⟨rfl, rfl, rfl, rfl, rfl, rfl⟩, ⟨hK, hb1, hb2, hb4, hO3.weak (fun x hx => List.mem_cons_of_mem _ hx), by dsimp only; omega, by intro j hj; rcases Nat.lt_or_ge j i with h | h; exact hall j h; rw [show j = i by dsimp only at hj; omega]; exact hts⟩, by dsimp only; omega⟩
  have hall1 : ∀ j, j < k.needs.length → targetS (sth k.needs j) = true := fun j hj => hall j (by omega)
  rw [map_take_all tr (by omega)] at hb4 hO
  have hRs := hO.trees
  have hKs := Keep.refl [w1.heap.size, w2.heap.size] w5
  clear hall hO
  refine cw_exit <| x_hit rfl <| cw_seq <| zr <| zf tF55_2 rfl <| zl tOne35 rfl (hb1.at rfl) <| ow_len tSl35 rfl rfl rfl <| zm <| ow_nil <| cw_block ?_
  refine cw_loop (fun q : Nat × Option Addr × Nat × Option Nat => [(1, .pointer (some ⟨w.heap.size, 0, none⟩)), (2, .pointer (some ⟨w1.heap.size, 0, none⟩)), (4, .pointer (some ⟨w2.heap.size, 0, none⟩)), (63, .slice a2 n2 c2), (64, .int .i64 (n2 : Int)), (65, .int .i64 (q.1 : Int))]) (fun q w' => Keep [] w w' ∧ Keep [w1.heap.size, w2.heap.size] w5 w' ∧ Blk w' w.heap.size [str k.label, .slice a1 n1 c1, .slice a2 n2 c2].toArray 55 ∧ Blk w' w1.heap.size [str [], .slice none 0 0, .slice none 0 0].toArray 63 ∧ Blk w' w2.heap.size [str k.label, .slice a (k.needs.map tr).length cc, .slice q.2.1 ((k.code.take q.1).map tr).length q.2.2.1].toArray 63 ∧ Gr w5.heap.size (w1.heap.size :: w2.heap.size :: L) w' 73 2 (.slice q.2.1 ((k.code.take q.1).map tr).length q.2.2.1) q.2.2.2 (encs ((k.code.take q.1).map tr)) ∧ q.1 ≤ k.code.length ∧ ∀ i, i < q.1 → lineB k.code i = true) (fun q => k.code.length - q.1) ((0, none, 0, none)) (⟨rfl, rfl, rfl, rfl, rfl, rfl⟩) (⟨hK, hKs, hb1, hb2, hb4, Gr.nil (by intro x hx; simp at hx; rcases hx with rfl | rfl | hx; omega; omega; have := hL x hx; omega) (by omega), by simp, by intro i hi; simp at hi⟩) ?_
  intro gg w6 e6 hI
  obtain ⟨j, a5, cc5, g⟩ := gg
  dsimp only at hI ⊢
  obtain ⟨hK, hKs, hb1, hb2, hb4, hO, hk2, hall⟩ := hI
  have hsz := hK.size
  have hszs := hKs.size
  have hbl1 := hb1.lt
  have hbl2 := hb2.lt
  have hbl4 := hb4.lt
  refine zr <| ow_lss rfl rfl rfl rfl rfl <| ow_nil <| cw_seq <| zc rfl (fun h7 => ?_) (fun h7 => ?_)
  have hgt := sth_get (xs := k.code) (i := j) (by omega)
  obtain ⟨b, off, rfl, hc⟩ := rstrs_get (hs2.ext hK) hgt
  refine cw_skip <| cw_seq <| cw_block <| zr <| zm <| zi tSl35 tI9 rfl rfl (by omega) <| zl tOne9 rfl (hc 0 _ rfl) <| zA <| zA <| ow_nil <| zr <| zm <| ow_call rfl rfl (read_ret (sth k.code j) (g.toList ++ (w1.heap.size :: w2.heap.size :: L)) w6 hO.all) ?_
  rintro v7 w7 ⟨hv7, hk7⟩
  have hs7 := hk7.size
  have hK := hK.ext hk7; have hKs := hKs.ext hk7; have hb1 := hb1.ext hk7; have hb2 := hb2.ext hk7; have hb4 := hb4.ext hk7; have hO := hO.ext hk7
  obtain ⟨t, tv, rfl, ht, hp⟩ := hv7
  obtain ⟨pa, pn, pc, rfl, hpn, hps⟩ := rtree_cases ht
  subst hpn
  have hwf := fun h => isSome_wf hp h
  refine zm <| zx (i := 0) rfl rfl <| zx (i := 1) rfl rfl <| ow_allocA tI73 rfl rfl rfl ?_
  intro w8 hk8 hb11 hz8
  have hK := hK.grow; have hK := hK.ext hk8; have hKs := hKs.grow; have hKs := hKs.ext hk8; have hb1 := hb1.grow; have hb1 := hb1.ext hk8; have hb2 := hb2.grow; have hb2 := hb2.ext hk8; have hb4 := hb4.grow; have hb4 := hb4.ext hk8; have hO := hO.alloc hk8 hz8; have ht := ht.grow; have ht := ht.ext hk8
  refine ow_storeA tI73 rfl rfl rfl rfl rfl hb11 rfl ?_
  intro w9 hk9 hb11 hz9
  have hK := hK.sto hk9 (by simp <;> omega); have hKs := hKs.sto hk9 (by simp <;> omega); have hb1 := hb1.sto hk9 (by simp <;> omega); have hb2 := hb2.sto hk9 (by simp <;> omega); have hb4 := hb4.sto hk9 (by simp <;> omega); have hO := hO.sto hk9 (by simp <;> omega); have ht := ht.sto hk9 (by simp <;> omega)
  refine zA <| ow_nil <| cw_seq <| cw_seq ?_
  refine cw_draw tMixed kept_new 18 [75, 76, 77, 78, 79, 80, 81, 82, 83, 84, 85, 86, 87, 88, 89, 90, 91, 92] [75, 76, 77, 78, 79, 80, 81, 82, 83, 84, 85, 86, 87, 88, 89, 90, 91, 92] [[], [0], [1], [2], [2, 3], [2, 4], [2, 5], [6], [7], [7, 8], [7], [7], [7, 11], [7, 12], [7, 13], [7, 10, 14], [7, 9, 15], [7, 16]] [fun v _ => v = (.bool ((parse (sth k.code j)).isSome)), fun v _ => v = (.bool (!(parse (sth k.code j)).isSome)), fun v _ => v = (.bool (!(parse (sth k.code j)).isSome)), fun v _ => (!(parse (sth k.code j)).isSome) = false → v = (.agg #[str t.atom, .slice pa t.parts.length pc]), fun v _ => (!(parse (sth k.code j)).isSome) = false → v = (.bool (instrI t)), fun v _ => (!(parse (sth k.code j)).isSome) = false → v = (.bool (!instrI t)), fun v _ => v = (.bool (!(parse (sth k.code j)).isSome || !instrI t)), fun v _ => v = (.bool (!(parse (sth k.code j)).isSome || !instrI t)), fun v _ => (!(parse (sth k.code j)).isSome || !instrI t) = false → v = (.agg #[str t.atom, .slice pa t.parts.length pc]), fun v _ => (!(parse (sth k.code j)).isSome || !instrI t) = false → v = (.bool (lastI t)), fun v _ => (!(parse (sth k.code j)).isSome || !instrI t) = false → v = (.int .i64 (j : Int)), fun v _ => (!(parse (sth k.code j)).isSome || !instrI t) = false → v = (.pointer (some ⟨w.heap.size, 0 + 2, none⟩)), fun v _ => (!(parse (sth k.code j)).isSome || !instrI t) = false → v = (.slice (some ⟨b, off, none⟩) n2 c2), fun v _ => (!(parse (sth k.code j)).isSome || !instrI t) = false → v = (.int .i64 (n2 : Int)), fun v _ => (!(parse (sth k.code j)).isSome || !instrI t) = false → v = (.int .i64 ((n2 : Int) - 1)), fun v _ => (!(parse (sth k.code j)).isSome || !instrI t) = false → v = (.bool (decide ((j : Int) = (n2 : Int) - 1))), fun v _ => (!(parse (sth k.code j)).isSome || !instrI t) = false → v = (.bool (lastI t != decide ((j : Int) = (n2 : Int) - 1))), fun v _ => v = (.bool ((!(parse (sth k.code j)).isSome || !instrI t) || (lastI t != decide ((j : Int) = (n2 : Int) - 1))))] (by decide) (stab_eq (stab_eq (stab_eq (stab_if (stab_if (stab_if (stab_eq (stab_eq (stab_if (stab_if (stab_if (stab_if (stab_if (stab_if (stab_if (stab_if (stab_if (stab_eq trivial)))))))))))))))))) (fun wd hkd => ?_) ?_
  refine certs_cons ?_ ?_
  intro x vs w10 e hk10 hd he
  replace hk10 := kept_new.trans hkd hk10
  replace he : e = over (havoc _ x _) [] := he
  subst he
  refine zm <| ow_nil ?_
  exact ⟨kept_new.refl _, rfl, by first | exact agree_put | exact agree_refl⟩
  refine certs_cons ?_ ?_
  intro x vs w10 e hk10 hd he
  have d0 : vs 0 = (.bool ((parse (sth k.code j)).isSome)) := hd
  replace hk10 := kept_new.trans hkd hk10
  replace he : e = over (havoc _ x _) [(75, vs 0)] := he
  rw [d0] at he
  subst he
  refine ow_not rfl rfl rfl <| ow_nil ?_
  exact ⟨kept_new.refl _, rfl, by first | exact agree_put | exact agree_refl⟩
  refine certs_cons ?_ ?_
  intro x vs w10 e hk10 hd he
  have d1 : vs 1 = (.bool (!(parse (sth k.code j)).isSome)) := hd
  replace hk10 := kept_new.trans hkd hk10
  replace he : e = over (havoc _ x _) [(76, vs 1)] := he
  rw [d1] at he
  subst he
  refine zm <| ow_nil ?_
  exact ⟨kept_new.refl _, rfl, by first | exact agree_put | exact agree_refl⟩
  refine certs_cons ?_ ?_
  intro x vs w10 e hk10 hd he
  have d2 : vs 2 = (.bool (!(parse (sth k.code j)).isSome)) := hd
  replace hk10 := kept_new.trans hkd hk10
  have hb11 := hb11.ext hk10
  rcases Bool.eq_false_or_eq_true (!(parse (sth k.code j)).isSome) with hg | hg
  rw [hg] at d2
  replace he : e = over (havoc _ x _) [(77, vs 2)] := he
  rw [d2] at he
  subst he
  refine zs <| ow_nil ?_
  exact ⟨kept_new.refl _, (show (!(parse (sth k.code j)).isSome) = false → _ = (_ : Value) from fun hh => nomatch hg.symm.trans hh), by first | exact agree_put | exact agree_refl⟩
  rw [hg] at d2
  replace he : e = over (havoc _ x _) [(77, vs 2)] := he
  rw [d2] at he
  subst he
  refine zL tAgg73 tI73 rfl hb11.all rfl <| ow_nil ?_
  exact ⟨kept_new.refl _, (show (!(parse (sth k.code j)).isSome) = false → _ = ((.agg #[str t.atom, .slice pa t.parts.length pc]) : Value) from fun _ => rfl), by first | exact agree_put | exact agree_refl⟩
  refine certs_cons ?_ ?_
  intro x vs w10 e hk10 hd he
  obtain ⟨d2, d3⟩ : (vs 2 = (.bool (!(parse (sth k.code j)).isSome))) ∧ ((!(parse (sth k.code j)).isSome) = false → vs 3 = (.agg #[str t.atom, .slice pa t.parts.length pc])) := hd
  replace hk10 := kept_new.trans hkd hk10
  have ht := ht.ext hk10
  rcases Bool.eq_false_or_eq_true (!(parse (sth k.code j)).isSome) with hg | hg
  rw [hg] at d2
  replace he : e = over (havoc _ x _) [(77, vs 2), (78, vs 3)] := he
  rw [d2] at he
  subst he
  refine zs <| ow_nil ?_
  exact ⟨kept_new.refl _, (show (!(parse (sth k.code j)).isSome) = false → _ = (_ : Value) from fun hh => nomatch hg.symm.trans hh), by first | exact agree_put | exact agree_refl⟩
  rw [hg] at d2
  replace d3 := d3 hg
  replace he : e = over (havoc _ x _) [(77, vs 2), (78, vs 3)] := he
  rw [d2, d3] at he
  subst he
  refine ow_call rfl rfl (isInstr_ret t (hwf (by simpa using hg)).2 (hwf (by simpa using hg)).1 _ _ w10 ht) ?_
  rintro v11 w11 ⟨hv11, hk11⟩
  have hs11 := hk11.size
  obtain rfl := hv11
  refine ow_nil ?_
  exact ⟨kept_new.of hk11, (show (!(parse (sth k.code j)).isSome) = false → _ = ((.bool (instrI t)) : Value) from fun _ => rfl), by first | exact agree_put | exact agree_refl⟩
  refine certs_cons ?_ ?_
  intro x vs w10 e hk10 hd he
  obtain ⟨d2, d4⟩ : (vs 2 = (.bool (!(parse (sth k.code j)).isSome))) ∧ ((!(parse (sth k.code j)).isSome) = false → vs 4 = (.bool (instrI t))) := hd
  replace hk10 := kept_new.trans hkd hk10
  rcases Bool.eq_false_or_eq_true (!(parse (sth k.code j)).isSome) with hg | hg
  rw [hg] at d2
  replace he : e = over (havoc _ x _) [(77, vs 2), (79, vs 4)] := he
  rw [d2] at he
  subst he
  refine zs <| ow_nil ?_
  exact ⟨kept_new.refl _, (show (!(parse (sth k.code j)).isSome) = false → _ = (_ : Value) from fun hh => nomatch hg.symm.trans hh), by first | exact agree_put | exact agree_refl⟩
  rw [hg] at d2
  replace d4 := d4 hg
  replace he : e = over (havoc _ x _) [(77, vs 2), (79, vs 4)] := he
  rw [d2, d4] at he
  subst he
  refine ow_not rfl rfl rfl <| ow_nil ?_
  exact ⟨kept_new.refl _, (show (!(parse (sth k.code j)).isSome) = false → _ = ((.bool (!instrI t)) : Value) from fun _ => rfl), by first | exact agree_put | exact agree_refl⟩
  refine certs_cons ?_ ?_
  intro x vs w10 e hk10 hd he
  obtain ⟨d2, d5⟩ : (vs 2 = (.bool (!(parse (sth k.code j)).isSome))) ∧ ((!(parse (sth k.code j)).isSome) = false → vs 5 = (.bool (!instrI t))) := hd
  replace hk10 := kept_new.trans hkd hk10
  rcases Bool.eq_false_or_eq_true (!(parse (sth k.code j)).isSome) with hg | hg
  rw [hg] at d2
  replace he : e = over (havoc _ x _) [(77, vs 2), (80, vs 5)] := he
  rw [d2] at he
  subst he
  refine zp rfl <| ow_nil ?_
  exact ⟨kept_new.refl _, by first | rfl | (rw [hg]; rfl), by first | exact agree_put | exact agree_refl⟩
  rw [hg] at d2
  replace d5 := d5 hg
  replace he : e = over (havoc _ x _) [(77, vs 2), (80, vs 5)] := he
  rw [d2, d5] at he
  subst he
  refine zp rfl <| ow_nil ?_
  exact ⟨kept_new.refl _, by first | rfl | (rw [hg]; rfl), by first | exact agree_put | exact agree_refl⟩
  refine certs_cons ?_ ?_
  intro x vs w10 e hk10 hd he
  have d6 : vs 6 = (.bool (!(parse (sth k.code j)).isSome || !instrI t)) := hd
  replace hk10 := kept_new.trans hkd hk10
  replace he : e = over (havoc _ x _) [(81, vs 6)] := he
  rw [d6] at he
  subst he
  refine zm <| ow_nil ?_
  exact ⟨kept_new.refl _, rfl, by first | exact agree_put | exact agree_refl⟩
  refine certs_cons ?_ ?_
  intro x vs w10 e hk10 hd he
  have d7 : vs 7 = (.bool (!(parse (sth k.code j)).isSome || !instrI t)) := hd
  replace hk10 := kept_new.trans hkd hk10
  have hb11 := hb11.ext hk10
  rcases Bool.eq_false_or_eq_true (!(parse (sth k.code j)).isSome || !instrI t) with hg | hg
  rw [hg] at d7
  replace he : e = over (havoc _ x _) [(82, vs 7)] := he
  rw [d7] at he
  subst he
  refine zs <| ow_nil ?_
  exact ⟨kept_new.refl _, (show (!(parse (sth k.code j)).isSome || !instrI t) = false → _ = (_ : Value) from fun hh => nomatch hg.symm.trans hh), by first | exact agree_put | exact agree_refl⟩
  rw [hg] at d7
  replace he : e = over (havoc _ x _) [(82, vs 7)] := he
  rw [d7] at he
  subst he
  refine zL tAgg73 tI73 rfl hb11.all rfl <| ow_nil ?_
  exact ⟨kept_new.refl _, (show (!(parse (sth k.code j)).isSome || !instrI t) = false → _ = ((.agg #[str t.atom, .slice pa t.parts.length pc]) : Value) from fun _ => rfl), by first | exact agree_put | exact agree_refl⟩
  refine certs_cons ?_ ?_
  intro x vs w10 e hk10 hd he
  obtain ⟨d7, d8⟩ : (vs 7 = (.bool (!(parse (sth k.code j)).isSome || !instrI t))) ∧ ((!(parse (sth k.code j)).isSome || !instrI t) = false → vs 8 = (.agg #[str t.atom, .slice pa t.parts.length pc])) := hd
  replace hk10 := kept_new.trans hkd hk10
  have ht := ht.ext hk10
  rcases Bool.eq_false_or_eq_true (!(parse (sth k.code j)).isSome || !instrI t) with hg | hg
  rw [hg] at d7
  replace he : e = over (havoc _ x _) [(82, vs 7), (83, vs 8)] := he
  rw [d7] at he
  subst he
  refine zs <| ow_nil ?_
  exact ⟨kept_new.refl _, (show (!(parse (sth k.code j)).isSome || !instrI t) = false → _ = (_ : Value) from fun hh => nomatch hg.symm.trans hh), by first | exact agree_put | exact agree_refl⟩
  rw [hg] at d7
  replace d8 := d8 hg
  replace he : e = over (havoc _ x _) [(82, vs 7), (83, vs 8)] := he
  rw [d7, d8] at he
  subst he
  refine ow_call rfl rfl (isLast_ret t (hwf (by rw [Bool.or_eq_false_iff] at hg; simpa using hg.1)).1 _ _ w10 ht) ?_
  rintro v11 w11 ⟨hv11, hk11⟩
  have hs11 := hk11.size
  obtain rfl := hv11
  refine ow_nil ?_
  exact ⟨kept_new.of hk11, (show (!(parse (sth k.code j)).isSome || !instrI t) = false → _ = ((.bool (lastI t)) : Value) from fun _ => rfl), by first | exact agree_put | exact agree_refl⟩
  refine certs_cons ?_ ?_
  intro x vs w10 e hk10 hd he
  have d7 : vs 7 = (.bool (!(parse (sth k.code j)).isSome || !instrI t)) := hd
  replace hk10 := kept_new.trans hkd hk10
  rcases Bool.eq_false_or_eq_true (!(parse (sth k.code j)).isSome || !instrI t) with hg | hg
  rw [hg] at d7
  replace he : e = over (havoc _ x _) [(82, vs 7)] := he
  rw [d7] at he
  subst he
  refine zs <| ow_nil ?_
  exact ⟨kept_new.refl _, (show (!(parse (sth k.code j)).isSome || !instrI t) = false → _ = (_ : Value) from fun hh => nomatch hg.symm.trans hh), by first | exact agree_put | exact agree_refl⟩
  rw [hg] at d7
  replace he : e = over (havoc _ x _) [(82, vs 7)] := he
  rw [d7] at he
  subst he
  refine zm <| ow_nil ?_
  exact ⟨kept_new.refl _, (show (!(parse (sth k.code j)).isSome || !instrI t) = false → _ = ((.int .i64 (j : Int)) : Value) from fun _ => rfl), by first | exact agree_put | exact agree_refl⟩
  refine certs_cons ?_ ?_
  intro x vs w10 e hk10 hd he
  have d7 : vs 7 = (.bool (!(parse (sth k.code j)).isSome || !instrI t)) := hd
  replace hk10 := kept_new.trans hkd hk10
  rcases Bool.eq_false_or_eq_true (!(parse (sth k.code j)).isSome || !instrI t) with hg | hg
  rw [hg] at d7
  replace he : e = over (havoc _ x _) [(82, vs 7)] := he
  rw [d7] at he
  subst he
  refine zs <| ow_nil ?_
  exact ⟨kept_new.refl _, (show (!(parse (sth k.code j)).isSome || !instrI t) = false → _ = (_ : Value) from fun hh => nomatch hg.symm.trans hh), by first | exact agree_put | exact agree_refl⟩
  rw [hg] at d7
  replace he : e = over (havoc _ x _) [(82, vs 7)] := he
  rw [d7] at he
  subst he
  refine zf tF55_2 rfl <| ow_nil ?_
  exact ⟨kept_new.refl _, (show (!(parse (sth k.code j)).isSome || !instrI t) = false → _ = ((.pointer (some ⟨w.heap.size, 0 + 2, none⟩)) : Value) from fun _ => rfl), by first | exact agree_put | exact agree_refl⟩
  refine certs_cons ?_ ?_
  intro x vs w10 e hk10 hd he
  obtain ⟨d7, d11⟩ : (vs 7 = (.bool (!(parse (sth k.code j)).isSome || !instrI t))) ∧ ((!(parse (sth k.code j)).isSome || !instrI t) = false → vs 11 = (.pointer (some ⟨w.heap.size, 0 + 2, none⟩))) := hd
  replace hk10 := kept_new.trans hkd hk10
  have hb1 := hb1.ext hk10
  rcases Bool.eq_false_or_eq_true (!(parse (sth k.code j)).isSome || !instrI t) with hg | hg
  rw [hg] at d7
  replace he : e = over (havoc _ x _) [(82, vs 7), (86, vs 11)] := he
  rw [d7] at he
  subst he
  refine zs <| ow_nil ?_
  exact ⟨kept_new.refl _, (show (!(parse (sth k.code j)).isSome || !instrI t) = false → _ = (_ : Value) from fun hh => nomatch hg.symm.trans hh), by first | exact agree_put | exact agree_refl⟩
  rw [hg] at d7
  replace d11 := d11 hg
  replace he : e = over (havoc _ x _) [(82, vs 7), (86, vs 11)] := he
  rw [d7, d11] at he
  subst he
  refine zl tOne35 rfl (hb1.at rfl) <| ow_nil ?_
  exact ⟨kept_new.refl _, (show (!(parse (sth k.code j)).isSome || !instrI t) = false → _ = ((.slice (some ⟨b, off, none⟩) n2 c2) : Value) from fun _ => rfl), by first | exact agree_put | exact agree_refl⟩
  refine certs_cons ?_ ?_
  intro x vs w10 e hk10 hd he
  obtain ⟨d7, d12⟩ : (vs 7 = (.bool (!(parse (sth k.code j)).isSome || !instrI t))) ∧ ((!(parse (sth k.code j)).isSome || !instrI t) = false → vs 12 = (.slice (some ⟨b, off, none⟩) n2 c2)) := hd
  replace hk10 := kept_new.trans hkd hk10
  rcases Bool.eq_false_or_eq_true (!(parse (sth k.code j)).isSome || !instrI t) with hg | hg
  rw [hg] at d7
  replace he : e = over (havoc _ x _) [(82, vs 7), (87, vs 12)] := he
  rw [d7] at he
  subst he
  refine zs <| ow_nil ?_
  exact ⟨kept_new.refl _, (show (!(parse (sth k.code j)).isSome || !instrI t) = false → _ = (_ : Value) from fun hh => nomatch hg.symm.trans hh), by first | exact agree_put | exact agree_refl⟩
  rw [hg] at d7
  replace d12 := d12 hg
  replace he : e = over (havoc _ x _) [(82, vs 7), (87, vs 12)] := he
  rw [d7, d12] at he
  subst he
  refine ow_len tSl35 rfl rfl rfl <| ow_nil ?_
  exact ⟨kept_new.refl _, (show (!(parse (sth k.code j)).isSome || !instrI t) = false → _ = ((.int .i64 (n2 : Int)) : Value) from fun _ => rfl), by first | exact agree_put | exact agree_refl⟩
  refine certs_cons ?_ ?_
  intro x vs w10 e hk10 hd he
  obtain ⟨d7, d13⟩ : (vs 7 = (.bool (!(parse (sth k.code j)).isSome || !instrI t))) ∧ ((!(parse (sth k.code j)).isSome || !instrI t) = false → vs 13 = (.int .i64 (n2 : Int))) := hd
  replace hk10 := kept_new.trans hkd hk10
  rcases Bool.eq_false_or_eq_true (!(parse (sth k.code j)).isSome || !instrI t) with hg | hg
  rw [hg] at d7
  replace he : e = over (havoc _ x _) [(82, vs 7), (88, vs 13)] := he
  rw [d7] at he
  subst he
  refine zs <| ow_nil ?_
  exact ⟨kept_new.refl _, (show (!(parse (sth k.code j)).isSome || !instrI t) = false → _ = (_ : Value) from fun hh => nomatch hg.symm.trans hh), by first | exact agree_put | exact agree_refl⟩
  rw [hg] at d7
  replace d13 := d13 hg
  replace he : e = over (havoc _ x _) [(82, vs 7), (88, vs 13)] := he
  rw [d7, d13] at he
  subst he
  refine ow_sub rfl rfl rfl rfl rfl (wrap_i64 _ (by omega) (by omega)) <| ow_nil ?_
  exact ⟨kept_new.refl _, (show (!(parse (sth k.code j)).isSome || !instrI t) = false → _ = ((.int .i64 ((n2 : Int) - 1)) : Value) from fun _ => rfl), by first | exact agree_put | exact agree_refl⟩
  refine certs_cons ?_ ?_
  intro x vs w10 e hk10 hd he
  obtain ⟨d7, d10, d14⟩ : (vs 7 = (.bool (!(parse (sth k.code j)).isSome || !instrI t))) ∧ ((!(parse (sth k.code j)).isSome || !instrI t) = false → vs 10 = (.int .i64 (j : Int))) ∧ ((!(parse (sth k.code j)).isSome || !instrI t) = false → vs 14 = (.int .i64 ((n2 : Int) - 1))) := hd
  replace hk10 := kept_new.trans hkd hk10
  rcases Bool.eq_false_or_eq_true (!(parse (sth k.code j)).isSome || !instrI t) with hg | hg
  rw [hg] at d7
  replace he : e = over (havoc _ x _) [(82, vs 7), (85, vs 10), (89, vs 14)] := he
  rw [d7] at he
  subst he
  refine zs <| ow_nil ?_
  exact ⟨kept_new.refl _, (show (!(parse (sth k.code j)).isSome || !instrI t) = false → _ = (_ : Value) from fun hh => nomatch hg.symm.trans hh), by first | exact agree_put | exact agree_refl⟩
  rw [hg] at d7
  replace d10 := d10 hg
  replace d14 := d14 hg
  replace he : e = over (havoc _ x _) [(82, vs 7), (85, vs 10), (89, vs 14)] := he
  rw [d7, d10, d14] at he
  subst he
  refine ow_eql rfl rfl rfl rfl rfl <| ow_nil ?_
  exact ⟨kept_new.refl _, (show (!(parse (sth k.code j)).isSome || !instrI t) = false → _ = ((.bool (decide ((j : Int) = (n2 : Int) - 1))) : Value) from fun _ => rfl), by first | exact agree_put | exact agree_refl⟩
  refine certs_cons ?_ ?_
  intro x vs w10 e hk10 hd he
  obtain ⟨d7, d9, d15⟩ : (vs 7 = (.bool (!(parse (sth k.code j)).isSome || !instrI t))) ∧ ((!(parse (sth k.code j)).isSome || !instrI t) = false → vs 9 = (.bool (lastI t))) ∧ ((!(parse (sth k.code j)).isSome || !instrI t) = false → vs 15 = (.bool (decide ((j : Int) = (n2 : Int) - 1)))) := hd
  replace hk10 := kept_new.trans hkd hk10
  rcases Bool.eq_false_or_eq_true (!(parse (sth k.code j)).isSome || !instrI t) with hg | hg
  rw [hg] at d7
  replace he : e = over (havoc _ x _) [(82, vs 7), (84, vs 9), (90, vs 15)] := he
  rw [d7] at he
  subst he
  refine zs <| ow_nil ?_
  exact ⟨kept_new.refl _, (show (!(parse (sth k.code j)).isSome || !instrI t) = false → _ = (_ : Value) from fun hh => nomatch hg.symm.trans hh), by first | exact agree_put | exact agree_refl⟩
  rw [hg] at d7
  replace d9 := d9 hg
  replace d15 := d15 hg
  replace he : e = over (havoc _ x _) [(82, vs 7), (84, vs 9), (90, vs 15)] := he
  rw [d7, d9, d15] at he
  subst he
  refine ow_bneq tBool4 rfl rfl rfl rfl <| ow_nil ?_
  exact ⟨kept_new.refl _, (show (!(parse (sth k.code j)).isSome || !instrI t) = false → _ = ((.bool (lastI t != decide ((j : Int) = (n2 : Int) - 1))) : Value) from fun _ => rfl), by first | exact agree_put | exact agree_refl⟩
  refine certs_cons ?_ ?_
  intro x vs w10 e hk10 hd he
  obtain ⟨d7, d16⟩ : (vs 7 = (.bool (!(parse (sth k.code j)).isSome || !instrI t))) ∧ ((!(parse (sth k.code j)).isSome || !instrI t) = false → vs 16 = (.bool (lastI t != decide ((j : Int) = (n2 : Int) - 1)))) := hd
  replace hk10 := kept_new.trans hkd hk10
  rcases Bool.eq_false_or_eq_true (!(parse (sth k.code j)).isSome || !instrI t) with hg | hg
  rw [hg] at d7
  replace he : e = over (havoc _ x _) [(82, vs 7), (91, vs 16)] := he
  rw [d7] at he
  subst he
  refine zp rfl <| ow_nil ?_
  exact ⟨kept_new.refl _, by first | rfl | (rw [hg]; rfl), by first | exact agree_put | exact agree_refl⟩
  rw [hg] at d7
  replace d16 := d16 hg
  replace he : e = over (havoc _ x _) [(82, vs 7), (91, vs 16)] := he
  rw [d7, d16] at he
  subst he
  refine zp rfl <| ow_nil ?_
  exact ⟨kept_new.refl _, by first | rfl | (rw [hg]; rfl), by first | exact agree_put | exact agree_refl⟩
  exact trivial
  intro x vs w49 hk49 hdraw
  have d0 : vs 0 = (.bool ((parse (sth k.code j)).isSome)) := hdraw 0 (by decide)
  have d1 : vs 1 = (.bool (!(parse (sth k.code j)).isSome)) := hdraw 1 (by decide)
  have d2 : vs 2 = (.bool (!(parse (sth k.code j)).isSome)) := hdraw 2 (by decide)
  have d3 : (!(parse (sth k.code j)).isSome) = false → vs 3 = (.agg #[str t.atom, .slice pa t.parts.length pc]) := hdraw 3 (by decide)
  have d4 : (!(parse (sth k.code j)).isSome) = false → vs 4 = (.bool (instrI t)) := hdraw 4 (by decide)
  have d5 : (!(parse (sth k.code j)).isSome) = false → vs 5 = (.bool (!instrI t)) := hdraw 5 (by decide)
  have d6 : vs 6 = (.bool (!(parse (sth k.code j)).isSome || !instrI t)) := hdraw 6 (by decide)
  have d7 : vs 7 = (.bool (!(parse (sth k.code j)).isSome || !instrI t)) := hdraw 7 (by decide)
  have d8 : (!(parse (sth k.code j)).isSome || !instrI t) = false → vs 8 = (.agg #[str t.atom, .slice pa t.parts.length pc]) := hdraw 8 (by decide)
  have d9 : (!(parse (sth k.code j)).isSome || !instrI t) = false → vs 9 = (.bool (lastI t)) := hdraw 9 (by decide)
  have d10 : (!(parse (sth k.code j)).isSome || !instrI t) = false → vs 10 = (.int .i64 (j : Int)) := hdraw 10 (by decide)
  have d11 : (!(parse (sth k.code j)).isSome || !instrI t) = false → vs 11 = (.pointer (some ⟨w.heap.size, 0 + 2, none⟩)) := hdraw 11 (by decide)
  have d12 : (!(parse (sth k.code j)).isSome || !instrI t) = false → vs 12 = (.slice (some ⟨b, off, none⟩) n2 c2) := hdraw 12 (by decide)
  have d13 : (!(parse (sth k.code j)).isSome || !instrI t) = false → vs 13 = (.int .i64 (n2 : Int)) := hdraw 13 (by decide)
  have d14 : (!(parse (sth k.code j)).isSome || !instrI t) = false → vs 14 = (.int .i64 ((n2 : Int) - 1)) := hdraw 14 (by decide)
  have d15 : (!(parse (sth k.code j)).isSome || !instrI t) = false → vs 15 = (.bool (decide ((j : Int) = (n2 : Int) - 1))) := hdraw 15 (by decide)
  have d16 : (!(parse (sth k.code j)).isSome || !instrI t) = false → vs 16 = (.bool (lastI t != decide ((j : Int) = (n2 : Int) - 1))) := hdraw 16 (by decide)
  have d17 : vs 17 = (.bool ((!(parse (sth k.code j)).isSome || !instrI t) || (lastI t != decide ((j : Int) = (n2 : Int) - 1)))) := hdraw 17 (by decide)
  have hK := hK.ext hk49; have hKs := hKs.ext hk49; have hb1 := hb1.ext hk49; have hb2 := hb2.ext hk49; have hb4 := hb4.ext hk49; have hO := hO.ext hk49; have ht := ht.ext hk49; have hb11 := hb11.ext hk49
  change OW _ _ _ _ [] (over (havoc _ x _) [(75, vs 0), (76, vs 1), (77, vs 2), (78, vs 3), (79, vs 4), (80, vs 5), (81, vs 6), (82, vs 7), (83, vs 8), (84, vs 9), (85, vs 10), (86, vs 11), (87, vs 12), (88, vs 13), (89, vs 14), (90, vs 15), (91, vs 16), (92, vs 17)]) _
  rw [d0, d1, d2, d6, d7, d17]
  refine ow_nil <| zc rfl (fun h8 => ?_) (fun h8 => ?_)
  rw [lineI_z he2 (by omega) hp] at h8
  have hq := blockI_line (b := k) (i := j) (by omega) (by simpa using h8)
  refine zr <| ow_build (tB63_ _) rfl rfl <| ow_storeA tI63 rfl rfl rfl rfl rfl hb2 rfl ?_
  intro w50 hk50 hb2 hz50
  have hK := hK.sto hk50 (by simp <;> omega)
  refine zA <| ow_nil <| cw_ret ?_
  exact ⟨[_, _], ⟨resultAt_blk tAgg63 tI63 rfl hb2 rfl, rfl⟩, blk_no hq, hK⟩
  rw [lineI_z he2 (by omega) hp] at h8
  have hts : lineB k.code j = true := by simpa using h8
  refine cw_skip <| cw_region <| zf tF63_2 rfl <| zl tOne61 rfl (hb4.at rfl) <| zL tAgg73 tI73 rfl hb11.all rfl <| ow_buildSlice1 tSl61 tI73 rfl rfl rfl rfl rfl rfl rfl rfl ?_
  intro w50 hk50 hb97 hz50
  have hK := hK.ext hk50; have hKs := hKs.ext hk50; have hb1 := hb1.ext hk50; have hb2 := hb2.ext hk50; have hb4 := hb4.ext hk50; have hO := hO.ext hk50; have ht := ht.ext hk50
  refine ow_growT tSl61 tI73 rfl rfl rfl rfl rfl rfl hO hb97 ht.mid (by rw [map_take_len _ hk2]; omega) ?_
  intro a3 cc3 g3 w51 hO3 hk51
  have hs1z := hk51.size
  have hK := Keep.older (by omega) hO.low hK hk51
  have hKs := hO.since hKs hk51
  have hb1 := hb1.sto hk51 (hO.sepB (by omega)); have hb2 := hb2.sto hk51 (hO.sepL (by simp)); have hb4 := hb4.sto hk51 (hO.sepL (by simp))
  rw [line_tr hts hp, map_take_snoc tr hgt] at hO3 ⊢
  refine zf tF63_2 rfl <| ow_storeB tI61 rfl rfl rfl rfl hb4 rfl ?_
  intro w52 hk52 hb4 hz52
  have hK := hK.sto hk52 (by simp <;> omega); have hKs := hKs.sto hk52 (by simp <;> omega); have hb1 := hb1.sto hk52 (by simp <;> omega); have hb2 := hb2.sto hk52 (by simp <;> omega); have hO3 := hO3.sto hk52 (by simp <;> omega)
  refine ow_nil <| cw_region <| ow_add rfl rfl rfl rfl rfl (wrap_i64 _ (by omega) (by omega)) <| zm <| ow_nil ?_
  exact ⟨(j + 1, a3, cc3, g3), ⟨rfl, rfl, rfl, rfl, rfl, rfl⟩, ⟨hK, hKs, hb1, hb2, hb4, hO3.weak (fun x hx => List.mem_cons_of_mem _ hx), by dsimp only; omega, by intro i2 hj; rcases Nat.lt_or_ge i2 j with h | h; exact hall i2 h; rw [show i2 = j by dsimp only at hj; omega]; exact hts⟩, by dsimp only; omega⟩
  have hq := blockB_yes hhd hall1 (fun i hi => hall i (by omega))
  have hqI : blockI k = true := by unfold blockI; rw [hq, hsl]; rfl
  rw [map_take_all tr (by omega)] at hb4 hO
  refine cw_exit <| x_hit rfl <| zr <| zL tAgg63 tI63 rfl hb4.all rfl <| ow_storeA tI63 rfl rfl rfl rfl rfl hb2 rfl ?_
  intro w7 hk7 hb2 hz7
  have hK := hK.sto hk7 (by simp <;> omega); have hKs := hKs.sto hk7 (by simp <;> omega); have hO := hO.sto hk7 (by simp <;> omega)
  refine zA <| ow_nil <| cw_ret ?_
  exact ⟨[_, _], ⟨resultAt_blk tAgg63 tI63 rfl hb2 rfl, rfl⟩, ⟨bkI k, _, by rw [hqI]; rfl, ribk_of (l := k.label) ((hRs.sto hKs (by simp)).weak (fun x hx => by simp [hx])) (hO.trees.weak (fun x hx => by simp [hx])), fun _ => rfl⟩, hK⟩
end Go.Proofs.YtnkjgoholocliaaGreatDoor
