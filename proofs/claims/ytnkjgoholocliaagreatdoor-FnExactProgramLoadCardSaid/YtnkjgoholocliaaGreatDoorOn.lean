/-
  Lemmas for the law of ProgramLoad, no statement of their own: walks of the reference's checker and of the law.
-/
import Derived.Test.YtnkjgoholocliaaGreatDoorOm
import Derived.Test.YtnkjgoholocliaaGreatDoorOj
import Derived.Test.YtnkjgoholocliaaGreatDoorOi
import Derived.Test.YtnkjgoholocliaaGreatDoorOc
import Derived.Test.YtnkjgoholocliaaGreatDoorOf
import Derived.Test.YtnkjgoholocliaaGreatDoorOl
namespace Go.Proofs.YtnkjgoholocliaaGreatDoor
open Go

theorem slim_ok {k : Tree} (h : OkT k) (j : Nat) : Slim (k.parts.drop j) := by
  have hp := parts_le k
  have hs := h.size
  refine ⟨by simp; omega, fun t ht => ?_⟩
  obtain ⟨i, hi, rfl⟩ := List.getElem_of_mem (List.mem_of_mem_drop ht)
  have hn := h.nth hi
  rw [nth_elem hi] at hn
  exact ⟨hn.good.wf, by have := hn.size; omega, by have := hn.short; omega⟩
theorem newS_snoc (st : TS) {us : List Tree} {i : Nat} (h : i < us.length) : newS st (us.take i) ++ [oS (regT st (nth us i).atom)] = newS st (us.take (i + 1)) := by
  unfold newS; exact map_take_snoc (fun u => oS (regT st u.atom)) (nth_get h)
theorem newS_len (st : TS) (us : List Tree) : (newS st us).length = us.length := by simp [newS]
theorem newS_sz {st : TS} (hS : OkTS st) (us : List Tree) : szS (newS st us) ≤ us.length * 12001 := by
  have h1 := sum_most (m := 12000) (newS st us) (fun s hs => by
    obtain ⟨u, _, rfl⟩ := List.mem_map.1 hs
    exact oS_short hS)
  rw [newS_len] at h1
  unfold szS; rw [newS_len]; omega
def StepPost (ps : List IBk) (st : TS) (o : Nat) (t : Tree) (r : Value) (w' : World) : Prop :=
  ∃ a n c, r = .tuple #[.slice a n c, .bool (stepT ps st o t).isSome] ∧ ∀ st', stepT ps st o t = some st' → RStrs [] w' (.slice a n c) (stS st')
theorem step_same {ps : List IBk} {st : TS} {o : Nat} {t : Tree} {a : Option Addr} {n c : Nat} {w' : World} {b : Bool} (h : (stepT ps st o t).isSome = b ∧ ∀ st', stepT ps st o t = some st' → st' = st) (hr : RStrs [] w' (.slice a n c) (stS st)) : StepPost ps st o t (.tuple #[.slice a n c, .bool b]) w' :=
  ⟨a, n, c, by rw [h.1], fun st' e => by rw [h.2 st' e]; exact hr⟩
theorem step_no {ps : List IBk} {st : TS} {o : Nat} {t : Tree} {a : Option Addr} {n c : Nat} {w' : World} (h : stepT ps st o t = none) : StepPost ps st o t (.tuple #[.slice a n c, .bool false]) w' :=
  ⟨a, n, c, by rw [h]; rfl, fun st' e => (by rw [h] at e; cases e)⟩
theorem step_put {ps : List IBk} {st : TS} {o : Nat} {t : Tree} {a : Option Addr} {n c d : Nat} {s : Bytes} {w' : World} (h : (parse s).isSome = (stepT ps st o t).isSome ∧ ∀ st', stepT ps st o t = some st' → stS st' = (stS st).set d s) (hr : RStrs [] w' (.slice a n c) ((stS st).set d s)) : StepPost ps st o t (.tuple #[.slice a n c, .bool (parse s).isSome]) w' :=
  ⟨a, n, c, by rw [h.1], fun st' e => by rw [h.2 st' e]; exact hr⟩

def SetR (xs : List Bytes) (d : Nat) (s : Bytes) (v : Value) (w : World) : Prop := ∃ a c, v = .tuple #[.slice a xs.length c, .bool (parse s).isSome] ∧ RStrs [] w (.slice a xs.length c) (xs.set d s)
theorem SetR.ext {xs : List Bytes} {d : Nat} {s : Bytes} {v : Value} {w w' : World} (h : SetR xs d s v w) (k : Keep [] w w') : SetR xs d s v w' := by
  obtain ⟨a, c, e, h⟩ := h
  exact ⟨a, c, e, h.ext k⟩
def SetV (xs : List Bytes) (d : Nat) (s : Bytes) (v : Value) (w : World) : Prop := ∃ a c, v = .slice a xs.length c ∧ RStrs [] w (.slice a xs.length c) (xs.set d s)
theorem SetV.ext {xs : List Bytes} {d : Nat} {s : Bytes} {v : Value} {w w' : World} (h : SetV xs d s v w) (k : Keep [] w w') : SetV xs d s v w' := by
  obtain ⟨a, c, e, h⟩ := h
  exact ⟨a, c, e, h.ext k⟩
theorem nth_drop2 {ts : List Tree} {i : Nat} : nth (ts.drop 2) i = nth ts (i + 2) := by
  simp [nth, List.getD_eq_getElem?_getD, List.getElem?_drop, Nat.add_comm]

set_option maxHeartbeats 4000000 in
theorem l6tStep_ret (bs : List Bk) (hP : progB bs = true) (hbs : Smalls bs) (st : TS) (hS : OkTS st) (hl : st.length = 40) (t : Tree) (hf : Fine t) (hg : Good t) (hI : StepOK t) (o : Nat) (ho : o ≤ 1000)
    (vp vt vi : Value) (w : World) (hvp : RBks [] w vp bs) (hvt : RStrs [] w vt (stS st)) (hvi : RTree [] w vi t) :
    Ret Tryz.prog 144 [vp, vt, vi, .int .i64 (o : Int)] w fun r w' => StepPost (bs.map bkI) st o t r w' ∧ Keep [] w w' := by
  obtain ⟨pa, pn, pc, rfl, hpn⟩ := rbks_cases hvp
  obtain ⟨ta, tn, tc, rfl, htn⟩ := rstrs_cases hvt
  subst hpn htn
  have hb1 : 1 ≤ bs.length := by
    unfold progB at hP
    simp only [Bool.and_eq_true, decide_eq_true_eq] at hP; omega
  have hb2 := hbs.1
  obtain ⟨pb, poff, _, _, _, _, _, _, rfl, _⟩ := rbks_get hvp (bth_get (bs := bs) (i := 0) (by omega))
  have hsl := stS_len st
  obtain ⟨a, n, c, rfl, hn, hps⟩ := rtree_cases hvi
  subst hn
  have h3 := hI.two
  have hpl := parts_le t
  have hfs := hf.size
  have hta : t.atom = [] := by
    by_cases ha : t.atom = []
    · exact ha
    · have := hf.wf.leaf ha; rw [this] at h3; simp at h3
  have hh : headOf t = (nth t.parts 0).atom := (headOf_no2 hta).trans (headA_nth (by omega))
  obtain ⟨b0, off0, qa0, qn0, qc0, rfl, hc0, hqn0, hq0⟩ := rtrees_get hps (nth_get (ps := t.parts) (i := 0) (by omega))
  obtain ⟨b1, off1, qa1, qn1, qc1, e1, hc1, hqn1, hq1⟩ := rtrees_get hps (nth_get (ps := t.parts) (i := 1) (by omega))
  cases e1
  subst hqn1
  obtain ⟨r1, hr1, hrz1, hrn1⟩ := regZ_is hI.reg1
  obtain ⟨tb, toff, rfl, htc⟩ := rstrs_get hvt (sth_get (xs := stS st) (i := r1) (by omega))
  have hsr : sth (stS st) r1 = oS (regT st (nth t.parts 1).atom) := by rw [← hrn1]; exact regS_at hI.reg1
  rw [hsr] at htc
  have hK := Keep.refl [] w
  refine ret_of [.tmp 8, .tmp 9] 129 Tryz.func144 rfl nm144 rfl rfl ?_
  refine zr <| ow_boxA rfl rfl rfl ?_
  intro w1 hk1 hb6 hz1
  have hK := hK.ext hk1
  refine zA <| zA <| ow_nil <| zr <| zf tF67_1 rfl <| zl tOne65 rfl (hb6.at rfl) <| zA <| ow_nil <| zr <| zm <| zm <| zi (i := 1) tSl65 tI67 rfl rfl (by omega) <| zL tAgg67 tI67 rfl (hc1.ext hK) (rfl) <| ow_call rfl rfl (l6tReg_ret (nth t.parts 1) _ [] w1 ((rtree_of hq1).ext hK)) ?_
  rintro v2 w2 ⟨hv2, hk2⟩
  have hs2 := hk2.size
  have hK := hK.ext hk2; have hb6 := hb6.ext hk2
  obtain rfl := hv2
  rw [hrz1]
  refine zi tSl35 tI9 rfl rfl (by omega) <| zl tOne9 rfl (htc.ext hK 0 _ rfl) <| zA <| ow_nil <| zr <| zm <| ow_call rfl rfl (l1Parse2_ret (oS (regT st (nth t.parts 1).atom)) [] w2 (by simp)) ?_
  rintro v3 w3 ⟨hv3, hk3⟩
  have hs3 := hk3.size
  have hK := hK.ext hk3; have hb6 := hb6.ext hk3
  obtain ⟨kt, kv, rfl, hkt, hkk⟩ := hv3
  obtain ⟨ka, kn, kc, rfl, hkn, hkp⟩ := rtree_cases hkt
  subst hkn
  refine zm <| zx (i := 0) rfl rfl <| zx (i := 1) rfl rfl <| ow_allocA tI67 rfl rfl rfl ?_
  intro w4 hk4 hb12 hz4
  have hK := hK.grow; have hK := hK.ext hk4; have hb6 := hb6.grow; have hb6 := hb6.ext hk4; have hkt := hkt.grow; have hkt := hkt.ext hk4; have hkp := hkp.grow; have hkp := hkp.ext hk4
  refine ow_storeA tI67 rfl rfl rfl rfl rfl hb12 rfl ?_
  intro w5 hk5 hb12 hz5
  have hK := hK.sto hk5 (by simp <;> omega); have hb6 := hb6.sto hk5 (by simp <;> omega); have hkt := hkt.sto hk5 (by simp <;> omega); have hkp := hkp.sto hk5 (by simp <;> omega)
  refine zA <| ow_nil <| cw_seq <| zr <| zm <| zi (i := 0) tSl65 tI67 rfl rfl (by omega) <| zf tF67_0 rfl <| zl tOne9 rfl (hc0.ext hK 0 _ rfl) <| ow_nil <| cw_block <| zr <| ow_seql rfl rfl rfl rfl <| zA <| ow_nil <| zc rfl (fun h1 => ?_) (fun h1 => ?_)
  have hq : headOf t = [104, 97, 108, 116] := hh.trans h1
  have hG := stepS_halt (p := bs.map bkI) (o := o) hS hq
  refine zr <| zm <| zm <| ow_sneq rfl rfl rfl rfl <| zA <| zA <| ow_nil <| cw_ret ?_
  exact ⟨_, rfl, step_same hG (hvt.ext hK), hK⟩
  have c1 : headOf t ≠ [104, 97, 108, 116] := fun e => h1 (hh.symm.trans e)
  refine zr <| ow_seql rfl rfl rfl rfl <| zA <| ow_nil <| zc rfl (fun h2 => ?_) (fun h2 => ?_)
  have hq : headOf t = [106, 117, 109, 112] := hh.trans h2
  obtain ⟨kok, hG⟩ := stepS_jump (p := bs.map bkI) (o := o) hS hq hkk
  refine zr <| zm <| zL tAgg67 tI67 rfl hb12.all rfl <| ow_call rfl rfl (l4Head_ret kt _ _ w5 hkt) ?_
  rintro v6 w6 ⟨hv6, hk6⟩
  have hs6 := hk6.size
  have hK := hK.ext hk6; have hkt := hkt.ext hk6; have hkp := hkp.ext hk6; have hb12 := hb12.ext hk6
  obtain rfl := hv6
  refine ow_seql rfl rfl rfl rfl <| zm ?_
  apply ow_and 7 46 53 [46, 47, 48, 49, 50, 51, 52, 53] (Keep [] w6) rfl
  intro h3
  replace h3 := tst h3
  have hJ46 := Keep.refl [] w6
  have hkok := kok h3
  have hkpl := parts_le kt
  have hslim := slim_ok hkok 1
  have hkp1 : 1 ≤ kt.parts.length := (by refine Nat.pos_of_ne_zero fun hz => ?_; rw [headOf_no (.inr (List.length_eq_zero_iff.1 hz))] at h3; cases h3)
  obtain ⟨kb0, koff0, _, _, _, rfl, _, _, _⟩ := rtrees_get hkp (nth_get (ps := kt.parts) (i := 0) hkp1)
  refine zm <| zf tF67_1 rfl <| zl tOne65 rfl (hb12.at rfl) <| ow_slice_from (l := 1) tSl65 tI67 rfl rfl rfl rfl (by omega) (rtree_parts hkt) ?_
  intro vs1 hvs
  have hvs : RTrees _ w6 vs1 (kt.parts.drop 1) := (show RTrees _ _ vs1 _ from by rw [RTrees, encs_drop]; exact hvs)
  refine ow_call rfl rfl (l6tWords_ret (kt.parts.drop 1) hslim _ _ [] w6 hvs (by simp)) ?_
  rintro v7 w7 ⟨hv7, hk7⟩
  have hs7 := hk7.size
  have hK := hK.ext hk7; have hJ46 := hJ46.ext hk7
  obtain ⟨wa, wn, wc, rfl, hww⟩ := hv7
  refine ow_call rfl rfl (l6tMeets_ret (stS st) ((kt.parts.drop 1).map Tree.text) (by have := hslim.1; simp only [List.length_map]; omega) (by omega) _ _ _ _ w7 (hvt.ext hK) hww) ?_
  rintro v8 w8 ⟨hv8, hk8⟩
  have hs8 := hk8.size
  have hJ46 := hJ46.ext hk8
  obtain rfl := hv8
  refine zp rfl <| ow_nil ?_
  exact ⟨by repeat (first | with_reducible exact agree_refl | refine agree_upd rfl ?_ | refine agree_hav rfl ?_), rfl, hJ46⟩
  intro h3
  replace h3 := tst h3
  have hJ46 := Keep.refl [] w6
  refine zs <| zs <| zs <| zs <| zs <| zs <| zp rfl <| ow_nil ?_
  exact ⟨by repeat (first | with_reducible exact agree_refl | refine agree_upd rfl ?_ | refine agree_hav rfl ?_), rfl, hJ46⟩
  intro xx w7 hk7
  have hK := hK.ext hk7
  refine zA <| zA <| ow_nil <| cw_ret ?_
  exact ⟨_, rfl, step_same hG (hvt.ext hK), hK⟩
  have c2 : headOf t ≠ [106, 117, 109, 112] := fun e => h2 (hh.symm.trans e)
  refine zr <| ow_seql rfl rfl rfl rfl <| zA <| ow_nil <| zc rfl (fun h4 => ?_) (fun h4 => ?_)
  have hq : headOf t = [122, 101, 114, 111] := hh.trans h4
  have hG := stepS_zero (o := o) hP hS hq
  have h33 := hI.zero hq
  obtain ⟨b2, off2, qa2, qn2, qc2, e2, hc2, hqn2, hq2⟩ := rtrees_get hps (nth_get (ps := t.parts) (i := 2) (by omega))
  cases e2
  obtain ⟨k, hk⟩ : ∃ k, k = (findZ bs (nth t.parts 2).atom).toNat := ⟨_, rfl⟩
  rw [← hk] at hG
  have hfr := (regsOf_find (bs := bs) (l := (nth t.parts 2).atom)).1
  refine zr <| zm <| zm <| zi (i := 2) tSl65 tI67 rfl rfl (by omega) <| zf tF67_0 rfl <| zl tOne9 rfl (hc2.ext hK 0 _ rfl) <| ow_call rfl rfl (l6tFind_ret bs (by omega) (nth t.parts 2).atom _ [] _ (hvp.ext hK)) ?_
  rintro _ _ ⟨rfl, rfl⟩
  refine zA <| ow_nil <| zr <| zm <| zm <| ow_seql rfl rfl rfl rfl <| zm ?_
  apply ow_and 3 65 68 [65, 66, 67, 68] (fun w' => w5 = w') rfl
  intro h5
  replace h5 := tst h5
  skip
  refine zm <| ow_geq rfl rfl rfl rfl rfl <| zp rfl <| ow_nil ?_
  exact ⟨by repeat (first | with_reducible exact agree_refl | refine agree_upd rfl ?_ | refine agree_hav rfl ?_), rfl, rfl⟩
  intro h5
  replace h5 := tst h5
  refine zs <| zs <| zp rfl <| ow_nil ?_
  exact ⟨by repeat (first | with_reducible exact agree_refl | refine agree_upd rfl ?_ | refine agree_hav rfl ?_), rfl, rfl⟩
  rintro xx _ rfl
  refine zm ?_
  apply ow_and 8 69 77 [69, 70, 71, 72, 73, 74, 75, 76, 77] (Keep [] w5) rfl
  intro h6
  replace h6 := tst h6
  have hJ69 := Keep.refl [] w5
  have hz0 : 0 ≤ findZ bs (nth t.parts 2).atom := (by simp only [Bool.and_eq_true, decide_eq_true_eq] at h6; exact h6.2)
  have hkb := (hfr hz0).1
  have hfk : findZ bs (nth t.parts 2).atom = (k : Int) := by omega
  rw [← hk] at hkb
  have hbb := progB_block_of hP _ (bth_in hkb)
  obtain ⟨hz1, hz2⟩ := szS_needs hbb
  obtain ⟨_, _, na, nn, nc, _, _, _, e8, hbc, hn1, _, hnr, _⟩ := rbks_get hvp (bth_get hkb)
  cases e8
  subst hn1
  refine zm <| zm <| zm <| zi tSl25 tI55 rfl (congrArg (Value.int .i64) hfk) (by omega) <| zf tF55_1 rfl <| zl tOne35 rfl (hbc.ext hK 1 _ rfl) <| ow_call rfl rfl (l6tMeets_ret (stS st) (bth bs k).needs (by omega) (by omega) _ _ _ _ w5 (hvt.ext hK) (hnr.ext hK)) ?_
  rintro v6 w6 ⟨hv6, hk6⟩
  have hs6 := hk6.size
  have hJ69 := hJ69.ext hk6
  obtain rfl := hv6
  refine zp rfl <| ow_nil ?_
  exact ⟨by repeat (first | with_reducible exact agree_refl | refine agree_upd rfl ?_ | refine agree_hav rfl ?_), rfl, hJ69⟩
  intro h6
  replace h6 := tst h6
  have hJ69 := Keep.refl [] w5
  refine zs <| zs <| zs <| zs <| zs <| zs <| zs <| zp rfl <| ow_nil ?_
  exact ⟨by repeat (first | with_reducible exact agree_refl | refine agree_upd rfl ?_ | refine agree_hav rfl ?_), rfl, hJ69⟩
  intro xx w6 hk6
  have hK := hK.ext hk6
  refine zA <| zA <| ow_nil <| cw_ret ?_
  exact ⟨_, rfl, step_same hG (hvt.ext hK), hK⟩
  have c3 : headOf t ≠ [122, 101, 114, 111] := fun e => h4 (hh.symm.trans e)
  refine zr <| ow_seql rfl rfl rfl rfl <| zA <| ow_nil <| zc rfl (fun h7 => ?_) (fun h7 => ?_)
  have hq : headOf t = [110, 101, 119] := hh.trans h7
  have hnew := hI.new hq
  have hus : (t.parts.drop 2).length = t.parts.length - 2 := List.length_drop
  have hnl := newS_len st (t.parts.drop 2)
  have hnz := newS_sz hS (t.parts.drop 2)
  have hfl := fitsS_len 116 (newS st (t.parts.drop 2))
  refine zr <| ow_buildSlice0 w.heap.size [] tSl35 tI9 rfl rfl hK.size (by simp) ?_
  intro w6 hk6 hz1 hO
  have hK := hK.ext hk6
  refine zA <| ow_nil <| cw_seq <| zr <| zA <| ow_nil <| cw_block ?_
  refine cw_loop (fun q : Nat × Option Addr × Nat × Option Nat => [(0, .slice (some ⟨pb, poff, none⟩) bs.length pc), (1, .slice (some ⟨tb, toff, none⟩) (stS st).length tc), (10, .slice (some ⟨b0, off0, none⟩) t.parts.length c), (15, .slice q.2.1 (newS st ((t.parts.drop 2).take q.1)).length q.2.2.1), (16, .int .i64 ((q.1 + 2 : Nat) : Int))]) (fun q w' => Keep [] w w' ∧ Gr w.heap.size [] w' 9 1 (.slice q.2.1 (newS st ((t.parts.drop 2).take q.1)).length q.2.2.1) q.2.2.2 (strsC (newS st ((t.parts.drop 2).take q.1))) ∧ q.1 + 2 ≤ t.parts.length) (fun q => t.parts.length - q.1) ((0, _, _, _)) (⟨rfl, rfl, rfl, rfl, rfl⟩) (⟨hK, hO, by omega⟩) ?_
  intro gg w7 e7 hI
  obtain ⟨i, a3, cc, g⟩ := gg
  dsimp only at hI ⊢
  obtain ⟨hK, hO, hk⟩ := hI
  have hsz := hK.size
  refine cw_seq <| zr <| zm <| zm <| ow_len tSl65 rfl rfl rfl <| ow_lss rfl rfl rfl rfl rfl <| ow_nil <| zc rfl (fun h8 => ?_) (fun h8 => ?_)
  obtain ⟨b5, off5, qa5, qn5, qc5, e5, hc5, hqn5, hq5⟩ := rtrees_get hps (nth_get (ps := t.parts) (i := i + 2) (by omega))
  cases e5
  have hr5 := hnew (i + 2) (by omega) (by omega)
  obtain ⟨r5, hrl5, hrz5, hrn5⟩ := regZ_is hr5
  obtain ⟨_, _, e6, htc5⟩ := rstrs_get hvt (sth_get (xs := stS st) (i := r5) (by omega))
  cases e6
  have hsr5 : sth (stS st) r5 = oS (regT st (nth t.parts (i + 2)).atom) := (by rw [← hrn5]; exact regS_at hr5)
  rw [hsr5] at htc5
  have hsn := newS_snoc st (us := t.parts.drop 2) (i := i) (by omega)
  rw [nth_drop2] at hsn
  have hil : (newS st ((t.parts.drop 2).take i)).length = i := (by rw [newS_len, List.length_take]; omega)
  refine cw_skip <| cw_seq <| cw_block <| cw_region <| zm <| zm <| zm <| zm <| zi tSl65 tI67 rfl rfl (by omega) <| zL tAgg67 tI67 rfl (hc5.ext hK) (rfl) <| ow_call rfl rfl (l6tReg_ret (nth t.parts (i + 2)) _ [] w7 ((rtree_of hq5).ext hK)) ?_
  rintro v8 w8 ⟨hv8, hk8⟩
  have hs8 := hk8.size
  have hK := hK.ext hk8; have hO := hO.ext hk8
  obtain rfl := hv8
  rw [hrz5]
  refine zi tSl35 tI9 rfl rfl (by omega) <| zl tOne9 rfl (htc5.ext hK 0 _ rfl) <| ow_buildSlice1 tSl35 tI9 rfl rfl rfl rfl rfl rfl rfl rfl ?_
  intro w9 hk9 hb96 hz9
  have hK := hK.ext hk9; have hO := hO.ext hk9
  refine ow_growS tSl35 tI9 rfl rfl rfl rfl rfl rfl hO hb96 (by omega) ?_
  intro a4 cc4 g4 w10 hO3 hk10
  have hK := hO.since hK hk10
  rw [hsn] at hO3 ⊢
  refine zA <| ow_nil <| cw_region <| zm <| ow_add rfl rfl rfl rfl rfl (wrap_i64 _ (by omega) (by omega)) <| zA <| ow_nil ?_
  exact ⟨(i + 1, a4, cc4, g4), ⟨rfl, rfl, rfl, rfl, congrArg (Value.int .i64) (by omega)⟩, ⟨hK, hO3, by dsimp only; omega⟩, by dsimp only; omega⟩
  rw [List.take_of_length_le (by omega)] at hO ⊢
  refine cw_exit <| x_hit rfl <| cw_seq <| zr <| zm <| ow_call rfl rfl (l1Has_ret (newS st (t.parts.drop 2)) (by omega) [] _ _ w7 hO.done) ?_
  rintro v8 w8 ⟨hv8, hk8⟩
  have hs8 := hk8.size
  have hK := hK.ext hk8; have hO := hO.ext hk8
  obtain rfl := hv8
  refine zm ?_
  apply ow_or 4 100 104 [100, 101, 102, 103, 104] (Keep [] w8) rfl
  intro h9
  replace h9 := tst h9
  have hJ100 := Keep.refl [] w8
  refine zs <| zs <| zs <| zp rfl <| ow_nil ?_
  exact ⟨by repeat (first | with_reducible exact agree_refl | refine agree_upd rfl ?_ | refine agree_hav rfl ?_), rfl, hJ100⟩
  intro h9
  replace h9 := tst h9
  have hJ100 := Keep.refl [] w8
  refine zm <| ow_call rfl rfl (l6tFits_ret (newS st (t.parts.drop 2)) (by omega) _ _ w8 hO.done) ?_
  rintro v9 w9 ⟨hv9, hk9⟩
  have hs9 := hk9.size
  have hJ100 := hJ100.ext hk9
  obtain rfl := hv9
  refine ow_not rfl rfl rfl <| zp rfl <| ow_nil ?_
  exact ⟨by repeat (first | with_reducible exact agree_refl | refine agree_upd rfl ?_ | refine agree_hav rfl ?_), rfl, hJ100⟩
  intro xx w10 hk10
  have hK := hK.ext hk10; have hO := hO.ext hk10
  refine ow_nil <| zc rfl (fun h10 => ?_) (fun h10 => ?_)
  have hno := stepS_new_no (p := bs.map bkI) (o := o) hS hq h10
  refine zr <| zm <| zA <| zA <| ow_nil <| cw_ret ?_
  exact ⟨_, rfl, step_no hno, hK⟩
  have hG := stepS_new (p := bs.map bkI) (o := o) hS hq h10
  rw [hrn1] at hG
  refine cw_skip <| zr <| zm <| zm <| zi (i := 1) tSl65 tI67 rfl rfl (by omega) <| zL tAgg67 tI67 rfl (hc1.ext hK) (rfl) <| ow_call rfl rfl (l6tReg_ret (nth t.parts 1) _ [] w10 ((rtree_of hq1).ext hK)) ?_
  rintro v11 w11 ⟨hv11, hk11⟩
  have hs11 := hk11.size
  have hK := hK.ext hk11; have hO := hO.ext hk11
  obtain rfl := hv11
  rw [hrz1]
  refine zm <| ow_call rfl rfl (l6tList_ret [116] (newS st (t.parts.drop 2)) (by omega) _ _ w11 hO.done) ?_
  rintro v12 w12 ⟨hv12, hk12⟩
  have hs12 := hk12.size
  have hK := hK.ext hk12
  obtain rfl := hv12
  refine ow_call rfl rfl (l6tSet_ret (stS st) (by omega) r1 (by omega) (listS [116] (newS st (t.parts.drop 2))) _ w12 (hvt.ext hK)) ?_
  rintro v13 w13 ⟨hv13, hk13⟩
  have hs13 := hk13.size
  have hK := hK.ext hk13
  obtain ⟨ga, gc, rfl, hgr⟩ := hv13
  refine zx (i := 0) rfl rfl <| zx (i := 1) rfl rfl <| zA <| zA <| ow_nil <| cw_ret ?_
  exact ⟨_, rfl, step_put hG hgr, hK⟩
  have c4 : headOf t ≠ [110, 101, 119] := fun e => h7 (hh.symm.trans e)
  have hGI := hI.give c1 c2 c3 c4
  have hG := stepS_give (o := o) (okP_of hP).1 hS hg hGI c1 c2 c3 c4
  rw [hrn1] at hG
  refine cw_skip <| cw_seq ?_
  refine cw_draw tMixed kept_new 13 [116, 117, 118, 119, 120, 121, 122, 123, 124, 125, 126, 127, 128] [116, 117, 118, 119, 120, 121, 122, 123, 124, 125, 126, 127, 128] [[], [], [1], [2], [3], [], [], [], [], [5, 6, 7, 8], [0, 4, 9], [10], [10]] [fun v _ => v = (.slice (some ⟨tb, toff, none⟩) (stS st).length tc), fun v _ => v = (.slice (some ⟨b0, off0, none⟩) t.parts.length c), fun v _ => v = (.pointer (some ⟨b0, off0 + 1 * 2, none⟩)), fun v _ => v = (.agg #[str (nth t.parts 1).atom, .slice qa1 (nth t.parts 1).parts.length qc1]), fun v _ => v = (.int .i64 (regZ (nth t.parts 1).atom)), fun v _ => v = (.slice (some ⟨pb, poff, none⟩) bs.length pc), fun v _ => v = (.slice (some ⟨tb, toff, none⟩) (stS st).length tc), fun v _ => v = (.agg #[str t.atom, .slice (some ⟨b0, off0, none⟩) t.parts.length c]), fun v _ => v = (.int .i64 (o : Int)), fun v _ => v = (str (gS (giveT (bs.map bkI) st o t))), fun (v : Value) (ww : World) => SetR (stS st) r1 (gS (giveT (bs.map bkI) st o t)) v ww, fun (v : Value) (ww : World) => SetV (stS st) r1 (gS (giveT (bs.map bkI) st o t)) v ww, fun v _ => v = (.bool (parse (gS (giveT (bs.map bkI) st o t))).isSome)] (by decide) (stab_eq (stab_eq (stab_eq (stab_eq (stab_eq (stab_eq (stab_eq (stab_eq (stab_eq (stab_eq (stab_gen (fun v w w' h k => SetR.ext h k) (stab_gen (fun v w w' h k => SetV.ext h k) (stab_eq trivial))))))))))))) (fun wd hkd => ?_) ?_
  refine certs_cons ?_ ?_
  intro x vs w6 e hk6 hd he
  replace hk6 := kept_new.trans hkd hk6
  replace he : e = over (havoc _ x _) [] := he
  subst he
  refine zm <| ow_nil ?_
  exact ⟨kept_new.refl _, rfl, by first | exact agree_put | exact agree_refl⟩
  refine certs_cons ?_ ?_
  intro x vs w6 e hk6 hd he
  replace hk6 := kept_new.trans hkd hk6
  replace he : e = over (havoc _ x _) [] := he
  subst he
  refine zm <| ow_nil ?_
  exact ⟨kept_new.refl _, rfl, by first | exact agree_put | exact agree_refl⟩
  refine certs_cons ?_ ?_
  intro x vs w6 e hk6 hd he
  have d1 : vs 1 = (.slice (some ⟨b0, off0, none⟩) t.parts.length c) := hd
  replace hk6 := kept_new.trans hkd hk6
  replace he : e = over (havoc _ x _) [(117, vs 1)] := he
  rw [d1] at he
  subst he
  refine zi (i := 1) tSl65 tI67 rfl rfl (by omega) <| ow_nil ?_
  exact ⟨kept_new.refl _, rfl, by first | exact agree_put | exact agree_refl⟩
  refine certs_cons ?_ ?_
  intro x vs w6 e hk6 hd he
  have d2 : vs 2 = (.pointer (some ⟨b0, off0 + 1 * 2, none⟩)) := hd
  replace hk6 := kept_new.trans hkd hk6
  have hK := hK.ext hk6
  replace he : e = over (havoc _ x _) [(118, vs 2)] := he
  rw [d2] at he
  subst he
  refine zL tAgg67 tI67 rfl (hc1.ext hK) (rfl) <| ow_nil ?_
  exact ⟨kept_new.refl _, rfl, by first | exact agree_put | exact agree_refl⟩
  refine certs_cons ?_ ?_
  intro x vs w6 e hk6 hd he
  have d3 : vs 3 = (.agg #[str (nth t.parts 1).atom, .slice qa1 (nth t.parts 1).parts.length qc1]) := hd
  replace hk6 := kept_new.trans hkd hk6
  have hK := hK.ext hk6
  replace he : e = over (havoc _ x _) [(119, vs 3)] := he
  rw [d3] at he
  subst he
  refine ow_call rfl rfl (l6tReg_ret (nth t.parts 1) _ [] w6 ((rtree_of hq1).ext hK)) ?_
  rintro v7 w7 ⟨hv7, hk7⟩
  have hs7 := hk7.size
  obtain rfl := hv7
  refine ow_nil ?_
  exact ⟨kept_new.of hk7, rfl, by first | exact agree_put | exact agree_refl⟩
  refine certs_cons ?_ ?_
  intro x vs w6 e hk6 hd he
  replace hk6 := kept_new.trans hkd hk6
  replace he : e = over (havoc _ x _) [] := he
  subst he
  refine zm <| ow_nil ?_
  exact ⟨kept_new.refl _, rfl, by first | exact agree_put | exact agree_refl⟩
  refine certs_cons ?_ ?_
  intro x vs w6 e hk6 hd he
  replace hk6 := kept_new.trans hkd hk6
  replace he : e = over (havoc _ x _) [] := he
  subst he
  refine zm <| ow_nil ?_
  exact ⟨kept_new.refl _, rfl, by first | exact agree_put | exact agree_refl⟩
  refine certs_cons ?_ ?_
  intro x vs w6 e hk6 hd he
  replace hk6 := kept_new.trans hkd hk6
  have hb6 := hb6.ext hk6
  replace he : e = over (havoc _ x _) [] := he
  subst he
  refine zL tAgg67 tI67 rfl hb6.all rfl <| ow_nil ?_
  exact ⟨kept_new.refl _, rfl, by first | exact agree_put | exact agree_refl⟩
  refine certs_cons ?_ ?_
  intro x vs w6 e hk6 hd he
  replace hk6 := kept_new.trans hkd hk6
  replace he : e = over (havoc _ x _) [] := he
  subst he
  refine zm <| ow_nil ?_
  exact ⟨kept_new.refl _, rfl, by first | exact agree_put | exact agree_refl⟩
  refine certs_cons ?_ ?_
  intro x vs w6 e hk6 hd he
  obtain ⟨d5, d6, d7, d8⟩ : (vs 5 = (.slice (some ⟨pb, poff, none⟩) bs.length pc)) ∧ (vs 6 = (.slice (some ⟨tb, toff, none⟩) (stS st).length tc)) ∧ (vs 7 = (.agg #[str t.atom, .slice (some ⟨b0, off0, none⟩) t.parts.length c])) ∧ (vs 8 = (.int .i64 (o : Int))) := hd
  replace hk6 := kept_new.trans hkd hk6
  have hK := hK.ext hk6
  replace he : e = over (havoc _ x _) [(121, vs 5), (122, vs 6), (123, vs 7), (124, vs 8)] := he
  rw [d5, d6, d7, d8] at he
  subst he
  refine ow_call rfl rfl (l6tGive_ret bs hP hbs st hS hl t hf hg hGI o ho _ _ _ [] w6 (hvp.ext hK) (hvt.ext hK) (hvi.ext hK) (by simp)) ?_
  rintro v7 w7 ⟨hv7, hk7⟩
  have hs7 := hk7.size
  obtain rfl := hv7
  refine ow_nil ?_
  exact ⟨kept_new.of hk7, rfl, by first | exact agree_put | exact agree_refl⟩
  refine certs_cons ?_ ?_
  intro x vs w6 e hk6 hd he
  obtain ⟨d0, d4, d9⟩ : (vs 0 = (.slice (some ⟨tb, toff, none⟩) (stS st).length tc)) ∧ (vs 4 = (.int .i64 (regZ (nth t.parts 1).atom))) ∧ (vs 9 = (str (gS (giveT (bs.map bkI) st o t)))) := hd
  replace hk6 := kept_new.trans hkd hk6
  have hK := hK.ext hk6
  replace he : e = over (havoc _ x _) [(116, vs 0), (120, vs 4), (125, vs 9)] := he
  rw [d0, d4, d9] at he
  rw [hrz1] at he
  subst he
  refine ow_call rfl rfl (l6tSet_ret (stS st) (by omega) r1 (by omega) (gS (giveT (bs.map bkI) st o t)) _ w6 (hvt.ext hK)) ?_
  rintro v7 w7 ⟨hv7, hk7⟩
  have hs7 := hk7.size
  have hq9 := hv7
  refine ow_nil ?_
  exact ⟨kept_new.of hk7, hq9, by first | exact agree_put | exact agree_refl⟩
  refine certs_cons ?_ ?_
  intro x vs w6 e hk6 hd he
  have d10 : (fun (v : Value) (ww : World) => SetR (stS st) r1 (gS (giveT (bs.map bkI) st o t)) v ww) (vs 10) w6 := hd
  replace hk6 := kept_new.trans hkd hk6
  replace he : e = over (havoc _ x _) [(126, vs 10)] := he
  obtain ⟨sa, sc, es, hss⟩ := d10
  rw [es] at he
  subst he
  refine zx (i := 0) rfl rfl <| ow_nil ?_
  exact ⟨kept_new.refl _, ⟨_, _, rfl, hss⟩, by first | exact agree_put | exact agree_refl⟩
  refine certs_cons ?_ ?_
  intro x vs w6 e hk6 hd he
  have d10 : (fun (v : Value) (ww : World) => SetR (stS st) r1 (gS (giveT (bs.map bkI) st o t)) v ww) (vs 10) w6 := hd
  replace hk6 := kept_new.trans hkd hk6
  replace he : e = over (havoc _ x _) [(126, vs 10)] := he
  obtain ⟨sa, sc, es, hss⟩ := d10
  rw [es] at he
  subst he
  refine zx (i := 1) rfl rfl <| ow_nil ?_
  exact ⟨kept_new.refl _, rfl, by first | exact agree_put | exact agree_refl⟩
  exact trivial
  intro x vs w45 hk45 hdraw
  have d0 : vs 0 = (.slice (some ⟨tb, toff, none⟩) (stS st).length tc) := hdraw 0 (by decide)
  have d1 : vs 1 = (.slice (some ⟨b0, off0, none⟩) t.parts.length c) := hdraw 1 (by decide)
  have d2 : vs 2 = (.pointer (some ⟨b0, off0 + 1 * 2, none⟩)) := hdraw 2 (by decide)
  have d3 : vs 3 = (.agg #[str (nth t.parts 1).atom, .slice qa1 (nth t.parts 1).parts.length qc1]) := hdraw 3 (by decide)
  have d4 : vs 4 = (.int .i64 (regZ (nth t.parts 1).atom)) := hdraw 4 (by decide)
  have d5 : vs 5 = (.slice (some ⟨pb, poff, none⟩) bs.length pc) := hdraw 5 (by decide)
  have d6 : vs 6 = (.slice (some ⟨tb, toff, none⟩) (stS st).length tc) := hdraw 6 (by decide)
  have d7 : vs 7 = (.agg #[str t.atom, .slice (some ⟨b0, off0, none⟩) t.parts.length c]) := hdraw 7 (by decide)
  have d8 : vs 8 = (.int .i64 (o : Int)) := hdraw 8 (by decide)
  have d9 : vs 9 = (str (gS (giveT (bs.map bkI) st o t))) := hdraw 9 (by decide)
  have d10 : (fun (v : Value) (ww : World) => SetR (stS st) r1 (gS (giveT (bs.map bkI) st o t)) v ww) (vs 10) w45 := hdraw 10 (by decide)
  have d11 : (fun (v : Value) (ww : World) => SetV (stS st) r1 (gS (giveT (bs.map bkI) st o t)) v ww) (vs 11) w45 := hdraw 11 (by decide)
  have d12 : vs 12 = (.bool (parse (gS (giveT (bs.map bkI) st o t))).isSome) := hdraw 12 (by decide)
  have hK := hK.ext hk45
  change OW _ _ _ _ _ (over (havoc _ x _) [(116, vs 0), (117, vs 1), (118, vs 2), (119, vs 3), (120, vs 4), (121, vs 5), (122, vs 6), (123, vs 7), (124, vs 8), (125, vs 9), (126, vs 10), (127, vs 11), (128, vs 12)]) _
  rw [d0, d1, d2, d3, d4, d5, d6, d7, d8, d9, d12]
  obtain ⟨sa, sc, es, hss⟩ := d11
  rw [es]
  refine zA <| zA <| ow_nil <| cw_ret ?_
  exact ⟨_, rfl, step_put hG hss, hK⟩
end Go.Proofs.YtnkjgoholocliaaGreatDoor

namespace Go.Proofs.YtnkjgoholocliaaGreatDoor
open Go

theorem code_tr {b : Bk} (h : blockB b = true) {i : Nat} (hi : i < b.code.length) : parse (sth b.code i) = some (nth (bkI b).code i) ∧ i < (bkI b).code.length := by
  have hm : b.code[i] ∈ b.code := List.getElem_mem hi
  obtain ⟨t, ht, _⟩ := (blockB_parts h).2.2 _ hm
  have e1 : sth b.code i = b.code[i] := by simp [sth, List.getElem?_eq_getElem hi]
  have e2 : nth (bkI b).code i = tr b.code[i] := by simp [nth, bkI, List.getD_eq_getElem?_getD, List.getElem?_map, List.getElem?_eq_getElem hi]
  rw [e1, e2, tr_eq ht]
  exact ⟨ht, by simp [bkI]; omega⟩
theorem l6tThrough_ret (bs : List Bk) (hP : progB bs = true) (hbs : Smalls bs) (b : Bk) (hb : b ∈ bs) (vp vb : Value) (w : World) (hvp : RBks [] w vp bs) (hvb : RBk [] w vb b) :
    Ret Tryz.prog 117 [vp, vb, .int .i64 (b.code.length : Int)] w fun r w' => (∃ v, r = .tuple #[v, .int .i64 (((throughT (bs.map bkI) (startT (bkI b)) 0 (bkI b).code).2 : Nat) : Int)]) ∧ Keep [] w w' := by
  have hbb := progB_block_of hP b hb
  obtain ⟨hOP, hOB⟩ := okP_of hP
  have hB := hOB _ (List.mem_map.2 ⟨b, hb, rfl⟩)
  have hst := startT_ok hB
  have hnl := (szS_needs hbb).2
  have hcl : b.code.length = (bkI b).code.length := by simp [bkI]
  have hc80 := hB.code
  have hvb0 := hvb
  obtain ⟨a1, n1, c1, a2, n2, c2, rfl, he1, he2, hq1, hq2⟩ := rbk_cases hvb
  subst he1 he2
  have hK := Keep.refl [] w
  have hft := through_le (p := bs.map bkI) (bkI b).code (startT (bkI b)) 0
  generalize hF : (throughT (bs.map bkI) (startT (bkI b)) 0 (bkI b).code).2 = F at *
  refine ret_of [.tmp 6, .tmp 7] 54 Tryz.func117 rfl nm117 rfl rfl ?_
  refine zr <| ow_boxA rfl rfl rfl ?_
  intro w1 hk1 hb4 hz1
  have hK := hK.ext hk1
  refine zA <| zA <| ow_nil <| zr <| zL tAgg55 tI55 rfl hb4.all rfl <| ow_call rfl rfl (l6tTypes_ret b hnl _ _ w1 (hvb0.ext hK)) ?_
  rintro v2 w2 ⟨hv2, hk2⟩
  have hs2 := hk2.size
  have hK := hK.ext hk2; have hb4 := hb4.ext hk2
  rw [typesS_start hbb] at hv2
  have hty := hv2
  obtain ⟨ta, tn, tc, rfl, htn⟩ := rstrs_cases hty
  refine zA <| ow_nil <| zr <| zA <| ow_nil <| cw_seq <| zr <| zA <| ow_nil <| cw_block ?_
  refine cw_loop (fun q : Nat × TS × Nat × Option Addr × Nat × Nat => [(0, vp), (2, .int .i64 (b.code.length : Int)), (4, .pointer (some ⟨w.heap.size, 0, none⟩)), (8, .slice q.2.2.2.1 q.2.2.2.2.1 q.2.2.2.2.2), (9, .int .i64 (q.2.2.1 : Int)), (10, .int .i64 (q.1 : Int))]) (fun q w' => Keep [] w w' ∧ Blk w' w.heap.size [str b.label, .slice a1 b.needs.length c1, .slice a2 b.code.length c2].toArray 55 ∧ RStrs [] w' (.slice q.2.2.2.1 q.2.2.2.2.1 q.2.2.2.2.2) (stS q.2.1) ∧ OkTS q.2.1 ∧ q.2.1.length = 40 ∧ q.2.2.1 ≤ q.1 ∧ q.1 ≤ b.code.length ∧ F = q.1 + (throughT (bs.map bkI) q.2.1 q.2.2.1 ((bkI b).code.drop q.1)).2) (fun q => b.code.length - q.1) ((0, startT (bkI b), 0, ta, tn, tc)) (⟨rfl, rfl, rfl, rfl, rfl, rfl⟩) (⟨hK, hb4, hty, hst.1, hst.2, by simp, by simp, by rw [← hF]; simp only [List.drop_zero, Nat.zero_add]⟩) ?_
  intro gg w3 e3 hI
  obtain ⟨i, st, o, ta, tn, tc⟩ := gg
  dsimp only at hI ⊢
  obtain ⟨hK, hb4, hty, hS, hl40, ho, hi, hq⟩ := hI
  have hsz := hK.size
  have hbl4 := hb4.lt
  refine cw_seq <| zr <| zm <| zm <| ow_lss rfl rfl rfl rfl rfl <| ow_nil <| zc rfl (fun h1 => ?_) (fun h1 => ?_)
  obtain ⟨hpt, hil⟩ := code_tr hbb (i := i) (by omega)
  obtain ⟨cb, coff, rfl, hcc⟩ := rstrs_get hq2 (sth_get (xs := b.code) (i := i) (by omega))
  have hgt := nth_get hil
  obtain ⟨hf, hg, hin⟩ := hB.cok _ (List.mem_of_getElem? hgt)
  rw [drop_nth hil] at hq
  have hsok := stepOK_of hin
  refine cw_skip <| cw_seq <| cw_block <| zr <| zf tF55_2 rfl <| zl tOne35 rfl (hb4.at rfl) <| zm <| zi tSl35 tI9 rfl rfl (by omega) <| zl tOne9 rfl (hcc.ext hK 0 _ rfl) <| ow_call rfl rfl (l1Parse_ret (sth b.code i) [] w3 (by simp)) ?_
  rintro v4 w4 ⟨hv4, hk4⟩
  have hs4 := hk4.size
  have hK := hK.ext hk4; have hb4 := hb4.ext hk4; have hty := hty.ext hk4
  obtain ⟨t, tv, rfl, ht, hp⟩ := hv4
  obtain rfl := hp _ hpt
  have htok := ht
  obtain ⟨xa, xn, xc, rfl, hxn, hxp⟩ := rtree_cases ht
  subst hxn
  have ht0 := ht
  refine zm <| zx (i := 0) rfl rfl <| zx (i := 1) rfl rfl <| ow_allocA tI67 rfl rfl rfl ?_
  intro w5 hk5 hb11 hz5
  have hK := hK.grow; have hK := hK.ext hk5; have hb4 := hb4.grow; have hb4 := hb4.ext hk5; have hty := hty.grow; have hty := hty.ext hk5; have ht0 := ht0.grow; have ht0 := ht0.ext hk5
  refine ow_storeA tI67 rfl rfl rfl rfl rfl hb11 rfl ?_
  intro w6 hk6 hb11 hz6
  have hK := hK.sto hk6 (by simp <;> omega); have hb4 := hb4.sto hk6 (by simp <;> omega); have hty := hty.sto hk6 (by simp <;> omega); have ht0 := ht0.sto hk6 (by simp <;> omega)
  refine zA <| ow_nil <| zr <| zm <| zm <| zL tAgg67 tI67 rfl hb11.all rfl <| zm <| ow_call rfl rfl (l6tStep_ret bs hP hbs st hS hl40 (nth (bkI b).code i) hf hg hsok o (by omega) _ _ _ w6 (hvp.ext hK) (Rep.weaken hty (by simp)) (RTree.weak ht0 (by simp))) ?_
  rintro v7 w7 ⟨hv7, hk7⟩
  have hs7 := hk7.size
  have hK := hK.ext hk7; have hb4 := hb4.ext hk7; have ht0 := ht0.ext hk7; have hb11 := hb11.ext hk7
  obtain ⟨na, nn, nc, rfl, hnx⟩ := hv7
  refine zm <| zx (i := 0) rfl rfl <| zx (i := 1) rfl rfl <| zA <| zA <| ow_nil <| cw_seq <| zr <| zm <| ow_not rfl rfl rfl <| ow_nil <| zc rfl (fun h2 => ?_) (fun h2 => ?_)
  have hno : stepT (bs.map bkI) st o (nth (bkI b).code i) = none := (by simpa using h2)
  rw [through_none hno] at hq
  refine zr <| zm <| zm <| zA <| zA <| ow_nil <| cw_ret ?_
  exact ⟨_, rfl, ⟨_, by rw [hq]; rfl⟩, hK⟩
  obtain ⟨st', hst'⟩ : ∃ st', stepT (bs.map bkI) st o (nth (bkI b).code i) = some st' := (by cases hx : stepT (bs.map bkI) st o (nth (bkI b).code i) with | none => rw [hx] at h2; simp at h2 | some y => exact ⟨y, rfl⟩)
  rw [through_some hst'] at hq
  have hty2 := hnx st' hst'
  obtain ⟨hS2, hl2⟩ := step_ok hOP hS hl40 hg hin hst'
  have ho2 : opens1 o (nth (bkI b).code i) ≤ i + 1 := (by unfold opens1; split <;> omega)
  have htwo := hsok.two
  obtain ⟨yb, yoff, _, _, _, rfl, hyc, _, _⟩ := rtrees_get (rtree_parts ht0) (nth_get (ps := (nth (bkI b).code i).parts) (i := 0) (by omega))
  have hta : (nth (bkI b).code i).atom = [] := (by by_cases ha : (nth (bkI b).code i).atom = []; (· exact ha); (· have := hf.wf.leaf ha; rw [this] at htwo; simp at htwo))
  have hh : headOf (nth (bkI b).code i) = (nth (nth (bkI b).code i).parts 0).atom := (headOf_no2 hta).trans (headA_nth (by omega))
  refine cw_skip <| zr <| zm <| zA <| ow_nil <| zr <| zf tF67_1 rfl <| zl tOne65 rfl (hb11.at rfl) <| zi (i := 0) tSl65 tI67 rfl rfl (by omega) <| zf tF67_0 rfl <| zl tOne9 rfl (hyc 0 _ rfl) <| ow_seql rfl rfl rfl rfl <| ow_nil <| zc rfl (fun h3 => ?_) (fun h3 => ?_)
  have ho3 : opens1 o (nth (bkI b).code i) = o + 1 := if_pos (hh.trans h3)
  rw [ho3] at hq
  refine cw_region <| zm <| ow_add rfl rfl rfl rfl rfl (wrap_i64 _ (by omega) (by omega)) <| zA <| ow_nil <| cw_region <| zm <| ow_add rfl rfl rfl rfl rfl (wrap_i64 _ (by omega) (by omega)) <| zA <| ow_nil ?_
  exact ⟨(i + 1, st', o + 1, na, nn, nc), ⟨rfl, rfl, rfl, rfl, rfl, rfl⟩, ⟨hK, hb4, hty2, hS2, hl2, by dsimp only; omega, by dsimp only; omega, by dsimp only; omega⟩, by dsimp only; omega⟩
  have ho3 : opens1 o (nth (bkI b).code i) = o := if_neg (fun e => h3 (hh.symm.trans e))
  rw [ho3] at hq
  refine cw_skip <| cw_region <| zm <| ow_add rfl rfl rfl rfl rfl (wrap_i64 _ (by omega) (by omega)) <| zA <| ow_nil ?_
  exact ⟨(i + 1, st', o, na, nn, nc), ⟨rfl, rfl, rfl, rfl, rfl, rfl⟩, ⟨hK, hb4, hty2, hS2, hl2, by dsimp only; omega, by dsimp only; omega, by dsimp only; omega⟩, by dsimp only; omega⟩
  have hie : i = (bkI b).code.length := by omega
  rw [hie, List.drop_length] at hq
  have hq3 : F = b.code.length := (by rw [hq, hcl]; rfl)
  refine cw_exit <| x_hit rfl <| zr <| zm <| zm <| zA <| zA <| ow_nil <| cw_ret ?_
  exact ⟨_, rfl, ⟨_, by rw [hq3]; rfl⟩, hK⟩

theorem l6tBlock_ret (bs : List Bk) (hbs : Smalls bs) (k : Nat) (hk : k < bs.length) (v : Value) (w : World) (hv : RBks [] w v bs) : Ret Tryz.prog 116 [v, .int .i64 (k : Int)] w fun r w' => r = .bool (progB bs) ∧ Keep [] w w' := by
  have hv0 := hv
  obtain ⟨a, n, c, rfl, hn⟩ := rbks_cases hv
  subst hn
  have hb2 := hbs.1
  have hK := Keep.refl [] w
  refine ret_of [.tmp 4] 14 Tryz.func116 rfl nm116 rfl rfl ?_
  refine zr <| zA <| ow_nil <| zr <| zm <| ow_call rfl rfl (ProgramValid_ret bs hbs _ [] w (hv0.ext hK)) ?_
  rintro v1 w1 ⟨hv1, hk1⟩
  have hs1 := hk1.size
  have hK := hK.ext hk1
  obtain rfl := hv1
  refine zm ?_
  apply ow_and 6 7 13 [7, 8, 9, 10, 11, 12, 13] (fun w' => w1 = w') rfl
  intro h1
  replace h1 := tst h1
  skip
  refine zm <| zm <| ow_len tSl25 rfl rfl rfl <| ow_sub rfl rfl rfl rfl rfl (wrap_i64 _ (by omega) (by omega)) <| ow_call rfl rfl (l6In_ret _ _ _ _) ?_
  rintro _ _ ⟨rfl, rfl⟩
  refine zp rfl <| ow_nil ?_
  exact ⟨by repeat (first | with_reducible exact agree_refl | refine agree_upd rfl ?_ | refine agree_hav rfl ?_), rfl, rfl⟩
  intro h1
  replace h1 := tst h1
  refine zs <| zs <| zs <| zs <| zs <| zp rfl <| ow_nil ?_
  exact ⟨by repeat (first | with_reducible exact agree_refl | refine agree_upd rfl ?_ | refine agree_hav rfl ?_), rfl, rfl⟩
  rintro xx _ rfl
  refine zA <| ow_nil <| cw_ret ?_
  exact ⟨_, rfl, congrArg Value.bool (by rw [decide_eq_true (show (0 : Int) ≤ (k : Int) by omega), decide_eq_true (show (k : Int) ≤ (bs.length : Int) - 1 by omega), Bool.and_true, Bool.and_true]), hK⟩

theorem CheckBlock_ret (bs : List Bk) (hbs : Smalls bs) (k : Nat) (hk : k < bs.length) (v : Value) (w : World) (hv : RBks [] w v bs) : Ret Tryz.prog 88 [v, .int .i64 (k : Int)] w fun r w' => r = .bool (progB bs && checksT (bs.map bkI) (bkI (bth bs k))) ∧ Keep [] w w' := by
  have hv0 := hv
  obtain ⟨a, n, c, rfl, hn⟩ := rbks_cases hv
  subst hn
  have hb2 := hbs.1
  obtain ⟨pb, poff, ra, rn, rc, ca, cn, cc, rfl, hc, hrn, hcn, hrr, hcr⟩ := rbks_get hv (bth_get hk)
  subst hrn hcn
  have hbm := bth_in hk
  have hK := Keep.refl [] w
  refine ret_of [.tmp 4] 34 Tryz.func88 rfl nm88 rfl rfl ?_
  refine zr <| zA <| ow_nil <| cw_seq <| zr <| zm <| zm <| ow_call rfl rfl (l6tBlock_ret bs hbs k hk _ w (hv0.ext hK)) ?_
  rintro v1 w1 ⟨hv1, hk1⟩
  have hs1 := hk1.size
  have hK := hK.ext hk1
  obtain rfl := hv1
  refine ow_not rfl rfl rfl <| ow_nil <| zc rfl (fun h1 => ?_) (fun h1 => ?_)
  have hq : progB bs = false := by simpa using h1
  refine zr <| zA <| ow_nil <| cw_ret ?_
  exact ⟨_, rfl, by rw [hq]; rfl, hK⟩
  have hP : progB bs = true := by simpa using h1
  refine cw_skip <| cw_seq ?_
  refine cw_draw tMixed kept_new 17 [12, 13, 14, 15, 16, 17, 18, 19, 20, 21, 22, 23, 11, 24, 25, 5, 6] [12, 13, 14, 15, 16, 17, 18, 19, 20, 21, 22, 23, 11, 24, 25, 5, 6] [[], [], [], [1, 2], [3], [], [], [5, 6], [7], [8], [9], [0, 4, 10], [11], [12], [12], [13], [14]] [fun v _ => v = (.slice (some ⟨pb, poff, none⟩) bs.length c), fun v _ => v = (.slice (some ⟨pb, poff, none⟩) bs.length c), fun v _ => v = (.int .i64 (k : Int)), fun v _ => v = (.pointer (some ⟨pb, poff + k * 3, none⟩)), fun v _ => v = (.agg #[str (bth bs k).label, .slice ra (bth bs k).needs.length rc, .slice ca (bth bs k).code.length cc]), fun v _ => v = (.slice (some ⟨pb, poff, none⟩) bs.length c), fun v _ => v = (.int .i64 (k : Int)), fun v _ => v = (.pointer (some ⟨pb, poff + k * 3, none⟩)), fun v _ => v = (.pointer (some ⟨pb, poff + k * 3 + 2, none⟩)), fun v _ => v = (.slice ca (bth bs k).code.length cc), fun v _ => v = (.int .i64 ((bth bs k).code.length : Int)), fun (v : Value) (ww : World) => ∃ u, v = .tuple #[u, .int .i64 ((faultT (bs.map bkI) (bkI (bth bs k)) : Nat) : Int)], fun (v : Value) (ww : World) => ∃ u, v = .tuple #[u, .int .i64 ((faultT (bs.map bkI) (bkI (bth bs k)) : Nat) : Int)], fun _ _ => True, fun v _ => v = (.int .i64 ((faultT (bs.map bkI) (bkI (bth bs k)) : Nat) : Int)), fun _ _ => True, fun v _ => v = (.int .i64 ((faultT (bs.map bkI) (bkI (bth bs k)) : Nat) : Int))] (by decide) (stab_eq (stab_eq (stab_eq (stab_eq (stab_eq (stab_eq (stab_eq (stab_eq (stab_eq (stab_eq (stab_eq (stab_gen (fun v w w' h k => h) (stab_gen (fun v w w' h k => h) (stab_any (stab_eq (stab_any (stab_eq trivial))))))))))))))))) (fun wd hkd => ?_) ?_
  refine certs_cons ?_ ?_
  intro x vs w2 e hk2 hd he
  replace hk2 := kept_new.trans hkd hk2
  replace he : e = over (havoc _ x _) [] := he
  subst he
  refine zm <| ow_nil ?_
  exact ⟨kept_new.refl _, rfl, by first | exact agree_put | exact agree_refl⟩
  refine certs_cons ?_ ?_
  intro x vs w2 e hk2 hd he
  replace hk2 := kept_new.trans hkd hk2
  replace he : e = over (havoc _ x _) [] := he
  subst he
  refine zm <| ow_nil ?_
  exact ⟨kept_new.refl _, rfl, by first | exact agree_put | exact agree_refl⟩
  refine certs_cons ?_ ?_
  intro x vs w2 e hk2 hd he
  replace hk2 := kept_new.trans hkd hk2
  replace he : e = over (havoc _ x _) [] := he
  subst he
  refine zm <| ow_nil ?_
  exact ⟨kept_new.refl _, rfl, by first | exact agree_put | exact agree_refl⟩
  refine certs_cons ?_ ?_
  intro x vs w2 e hk2 hd he
  obtain ⟨d1, d2⟩ : (vs 1 = (.slice (some ⟨pb, poff, none⟩) bs.length c)) ∧ (vs 2 = (.int .i64 (k : Int))) := hd
  replace hk2 := kept_new.trans hkd hk2
  replace he : e = over (havoc _ x _) [(13, vs 1), (14, vs 2)] := he
  rw [d1, d2] at he
  subst he
  refine zi tSl25 tI55 rfl rfl (by omega) <| ow_nil ?_
  exact ⟨kept_new.refl _, rfl, by first | exact agree_put | exact agree_refl⟩
  refine certs_cons ?_ ?_
  intro x vs w2 e hk2 hd he
  have d3 : vs 3 = (.pointer (some ⟨pb, poff + k * 3, none⟩)) := hd
  replace hk2 := kept_new.trans hkd hk2
  have hK := hK.ext hk2
  replace he : e = over (havoc _ x _) [(15, vs 3)] := he
  rw [d3] at he
  subst he
  refine zL tAgg55 tI55 rfl (hc.ext hK) (rfl) <| ow_nil ?_
  exact ⟨kept_new.refl _, rfl, by first | exact agree_put | exact agree_refl⟩
  refine certs_cons ?_ ?_
  intro x vs w2 e hk2 hd he
  replace hk2 := kept_new.trans hkd hk2
  replace he : e = over (havoc _ x _) [] := he
  subst he
  refine zm <| ow_nil ?_
  exact ⟨kept_new.refl _, rfl, by first | exact agree_put | exact agree_refl⟩
  refine certs_cons ?_ ?_
  intro x vs w2 e hk2 hd he
  replace hk2 := kept_new.trans hkd hk2
  replace he : e = over (havoc _ x _) [] := he
  subst he
  refine zm <| ow_nil ?_
  exact ⟨kept_new.refl _, rfl, by first | exact agree_put | exact agree_refl⟩
  refine certs_cons ?_ ?_
  intro x vs w2 e hk2 hd he
  obtain ⟨d5, d6⟩ : (vs 5 = (.slice (some ⟨pb, poff, none⟩) bs.length c)) ∧ (vs 6 = (.int .i64 (k : Int))) := hd
  replace hk2 := kept_new.trans hkd hk2
  replace he : e = over (havoc _ x _) [(17, vs 5), (18, vs 6)] := he
  rw [d5, d6] at he
  subst he
  refine zi tSl25 tI55 rfl rfl (by omega) <| ow_nil ?_
  exact ⟨kept_new.refl _, rfl, by first | exact agree_put | exact agree_refl⟩
  refine certs_cons ?_ ?_
  intro x vs w2 e hk2 hd he
  have d7 : vs 7 = (.pointer (some ⟨pb, poff + k * 3, none⟩)) := hd
  replace hk2 := kept_new.trans hkd hk2
  replace he : e = over (havoc _ x _) [(19, vs 7)] := he
  rw [d7] at he
  subst he
  refine zf tF55_2 rfl <| ow_nil ?_
  exact ⟨kept_new.refl _, rfl, by first | exact agree_put | exact agree_refl⟩
  refine certs_cons ?_ ?_
  intro x vs w2 e hk2 hd he
  have d8 : vs 8 = (.pointer (some ⟨pb, poff + k * 3 + 2, none⟩)) := hd
  replace hk2 := kept_new.trans hkd hk2
  have hK := hK.ext hk2
  replace he : e = over (havoc _ x _) [(20, vs 8)] := he
  rw [d8] at he
  subst he
  refine zl tOne35 rfl (hc.ext hK 2 _ rfl) <| ow_nil ?_
  exact ⟨kept_new.refl _, rfl, by first | exact agree_put | exact agree_refl⟩
  refine certs_cons ?_ ?_
  intro x vs w2 e hk2 hd he
  have d9 : vs 9 = (.slice ca (bth bs k).code.length cc) := hd
  replace hk2 := kept_new.trans hkd hk2
  replace he : e = over (havoc _ x _) [(21, vs 9)] := he
  rw [d9] at he
  subst he
  refine ow_len tSl35 rfl rfl rfl <| ow_nil ?_
  exact ⟨kept_new.refl _, rfl, by first | exact agree_put | exact agree_refl⟩
  refine certs_cons ?_ ?_
  intro x vs w2 e hk2 hd he
  obtain ⟨d0, d4, d10⟩ : (vs 0 = (.slice (some ⟨pb, poff, none⟩) bs.length c)) ∧ (vs 4 = (.agg #[str (bth bs k).label, .slice ra (bth bs k).needs.length rc, .slice ca (bth bs k).code.length cc])) ∧ (vs 10 = (.int .i64 ((bth bs k).code.length : Int))) := hd
  replace hk2 := kept_new.trans hkd hk2
  have hK := hK.ext hk2
  replace he : e = over (havoc _ x _) [(12, vs 0), (16, vs 4), (22, vs 10)] := he
  rw [d0, d4, d10] at he
  subst he
  refine ow_call rfl rfl (l6tThrough_ret bs hP hbs (bth bs k) hbm _ _ w2 (hv0.ext hK) ((rbk_of hrr hcr).ext hK)) ?_
  rintro v3 w3 ⟨hv3, hk3⟩
  have hs3 := hk3.size
  have hq9 := hv3
  refine ow_nil ?_
  exact ⟨kept_new.of hk3, hq9, by first | exact agree_put | exact agree_refl⟩
  refine certs_cons ?_ ?_
  intro x vs w2 e hk2 hd he
  have d11 : (fun (v : Value) (ww : World) => ∃ u, v = .tuple #[u, .int .i64 ((faultT (bs.map bkI) (bkI (bth bs k)) : Nat) : Int)]) (vs 11) w2 := hd
  replace hk2 := kept_new.trans hkd hk2
  replace he : e = over (havoc _ x _) [(23, vs 11)] := he
  obtain ⟨u, eu⟩ := d11
  rw [eu] at he
  subst he
  refine zm <| ow_nil ?_
  exact ⟨kept_new.refl _, ⟨_, rfl⟩, by first | exact agree_put | exact agree_refl⟩
  refine certs_cons ?_ ?_
  intro x vs w2 e hk2 hd he
  have d12 : (fun (v : Value) (ww : World) => ∃ u, v = .tuple #[u, .int .i64 ((faultT (bs.map bkI) (bkI (bth bs k)) : Nat) : Int)]) (vs 12) w2 := hd
  replace hk2 := kept_new.trans hkd hk2
  replace he : e = over (havoc _ x _) [(11, vs 12)] := he
  obtain ⟨u, eu⟩ := d12
  rw [eu] at he
  subst he
  refine zx (i := 0) rfl rfl <| ow_nil ?_
  exact ⟨kept_new.refl _, trivial, by first | exact agree_put | exact agree_refl⟩
  refine certs_cons ?_ ?_
  intro x vs w2 e hk2 hd he
  have d12 : (fun (v : Value) (ww : World) => ∃ u, v = .tuple #[u, .int .i64 ((faultT (bs.map bkI) (bkI (bth bs k)) : Nat) : Int)]) (vs 12) w2 := hd
  replace hk2 := kept_new.trans hkd hk2
  replace he : e = over (havoc _ x _) [(11, vs 12)] := he
  obtain ⟨u, eu⟩ := d12
  rw [eu] at he
  subst he
  refine zx (i := 1) rfl rfl <| ow_nil ?_
  exact ⟨kept_new.refl _, rfl, by first | exact agree_put | exact agree_refl⟩
  refine certs_cons ?_ ?_
  intro x vs w2 e hk2 hd he
  have d13 : True := hd
  replace hk2 := kept_new.trans hkd hk2
  replace he : e = over (havoc _ x _) [(24, vs 13)] := he
  subst he
  refine zA <| ow_nil ?_
  exact ⟨kept_new.refl _, trivial, by first | exact agree_put | exact agree_refl⟩
  refine certs_cons ?_ ?_
  intro x vs w2 e hk2 hd he
  have d14 : vs 14 = (.int .i64 ((faultT (bs.map bkI) (bkI (bth bs k)) : Nat) : Int)) := hd
  replace hk2 := kept_new.trans hkd hk2
  replace he : e = over (havoc _ x _) [(25, vs 14)] := he
  rw [d14] at he
  subst he
  refine zA <| ow_nil ?_
  exact ⟨kept_new.refl _, rfl, by first | exact agree_put | exact agree_refl⟩
  exact trivial
  intro x vs w41 hk41 hdraw
  have d0 : vs 0 = (.slice (some ⟨pb, poff, none⟩) bs.length c) := hdraw 0 (by decide)
  have d1 : vs 1 = (.slice (some ⟨pb, poff, none⟩) bs.length c) := hdraw 1 (by decide)
  have d2 : vs 2 = (.int .i64 (k : Int)) := hdraw 2 (by decide)
  have d3 : vs 3 = (.pointer (some ⟨pb, poff + k * 3, none⟩)) := hdraw 3 (by decide)
  have d4 : vs 4 = (.agg #[str (bth bs k).label, .slice ra (bth bs k).needs.length rc, .slice ca (bth bs k).code.length cc]) := hdraw 4 (by decide)
  have d5 : vs 5 = (.slice (some ⟨pb, poff, none⟩) bs.length c) := hdraw 5 (by decide)
  have d6 : vs 6 = (.int .i64 (k : Int)) := hdraw 6 (by decide)
  have d7 : vs 7 = (.pointer (some ⟨pb, poff + k * 3, none⟩)) := hdraw 7 (by decide)
  have d8 : vs 8 = (.pointer (some ⟨pb, poff + k * 3 + 2, none⟩)) := hdraw 8 (by decide)
  have d9 : vs 9 = (.slice ca (bth bs k).code.length cc) := hdraw 9 (by decide)
  have d10 : vs 10 = (.int .i64 ((bth bs k).code.length : Int)) := hdraw 10 (by decide)
  have d11 : (fun (v : Value) (ww : World) => ∃ u, v = .tuple #[u, .int .i64 ((faultT (bs.map bkI) (bkI (bth bs k)) : Nat) : Int)]) (vs 11) w41 := hdraw 11 (by decide)
  have d12 : (fun (v : Value) (ww : World) => ∃ u, v = .tuple #[u, .int .i64 ((faultT (bs.map bkI) (bkI (bth bs k)) : Nat) : Int)]) (vs 12) w41 := hdraw 12 (by decide)
  have d14 : vs 14 = (.int .i64 ((faultT (bs.map bkI) (bkI (bth bs k)) : Nat) : Int)) := hdraw 14 (by decide)
  have d16 : vs 16 = (.int .i64 ((faultT (bs.map bkI) (bkI (bth bs k)) : Nat) : Int)) := hdraw 16 (by decide)
  have hK := hK.ext hk41
  change OW _ _ _ _ [] (over (havoc _ x _) [(12, vs 0), (13, vs 1), (14, vs 2), (15, vs 3), (16, vs 4), (17, vs 5), (18, vs 6), (19, vs 7), (20, vs 8), (21, vs 9), (22, vs 10), (23, vs 11), (11, vs 12), (24, vs 13), (25, vs 14), (5, vs 15), (6, vs 16)]) _
  rw [d0, d1, d2, d3, d4, d5, d6, d7, d8, d9, d10, d14, d16]
  refine ow_nil <| zr <| zm <| zm <| zm <| zi tSl25 tI55 rfl rfl (by omega) <| zf tF55_2 rfl <| zl tOne35 rfl (hc.ext hK 2 _ rfl) <| ow_len tSl35 rfl rfl rfl <| ow_eql rfl rfl rfl rfl rfl <| zA <| ow_nil <| cw_ret ?_
  exact ⟨_, rfl, congrArg Value.bool (by rw [hP, Bool.true_and]; unfold checksT; exact decide_eq_decide.2 (by simp [bkI]; omega)), hK⟩

theorem SCheck_ret (bs : List Bk) (hbs : Smalls bs) (v : Value) (w : World) (hv : RBks [] w v bs) : Ret Tryz.prog 86 [v] w fun r w' => r = .bool (progB bs && (bs.map bkI).all (checksT (bs.map bkI))) ∧ Keep [] w w' := by
  have hv0 := hv
  obtain ⟨a, n, c, rfl, hn⟩ := rbks_cases hv
  subst hn
  have hb2 := hbs.1
  have hK := Keep.refl [] w
  have key : ∀ k, k < bs.length → (progB bs && checksT (bs.map bkI) (bkI (bth bs k))) = false → (progB bs && (bs.map bkI).all (checksT (bs.map bkI))) = false := fun k hk h => by
    cases hx : (progB bs && (bs.map bkI).all (checksT (bs.map bkI))) with
    | false => rfl
    | true =>
      rw [Bool.and_eq_true] at hx
      have := List.all_eq_true.1 hx.2 _ (List.mem_map.2 ⟨_, bth_in hk, rfl⟩)
      rw [hx.1, this] at h; cases h
  refine ret_of [.tmp 2] 16 Tryz.func86 rfl nm86 rfl rfl ?_
  refine zr <| zA <| ow_nil <| cw_seq <| zr <| zA <| ow_nil <| cw_block ?_
  refine cw_loop (fun k : Nat => [(0, .slice a bs.length c), (3, .int .i64 (k : Int))]) (fun k w' => Keep [] w w' ∧ k ≤ bs.length ∧ ∀ i, i < k → (progB bs && checksT (bs.map bkI) (bkI (bth bs i))) = true) (fun k => bs.length - k) (0) (⟨rfl, rfl⟩) (⟨hK, by omega, by intro i hi; omega⟩) ?_
  intro gg w1 e1 hI
  obtain ⟨hK, hk, hall⟩ := hI
  refine cw_seq <| zr <| zm <| zm <| ow_len tSl25 rfl rfl rfl <| ow_lss rfl rfl rfl rfl rfl <| ow_nil <| zc rfl (fun h1 => ?_) (fun h1 => ?_)
  skip
  refine cw_skip <| cw_seq <| cw_block <| zr <| zm <| zm <| ow_call rfl rfl (CheckBlock_ret bs hbs gg (by omega) _ w1 (hv0.ext hK)) ?_
  rintro v2 w2 ⟨hv2, hk2⟩
  have hs2 := hk2.size
  have hK := hK.ext hk2
  obtain rfl := hv2
  refine ow_not rfl rfl rfl <| ow_nil <| zc rfl (fun h2 => ?_) (fun h2 => ?_)
  have hq := key gg (by omega) (by simpa using h2)
  refine zr <| zA <| ow_nil <| cw_ret ?_
  exact ⟨_, rfl, by rw [hq]; rfl, hK⟩
  have hyes : (progB bs && checksT (bs.map bkI) (bkI (bth bs gg))) = true := by simpa using h2
  refine cw_skip <| cw_region <| zm <| ow_add rfl rfl rfl rfl rfl (wrap_i64 _ (by omega) (by omega)) <| zA <| ow_nil ?_
  exact ⟨gg + 1, ⟨rfl, rfl⟩, ⟨hK, by omega, by intro i hi; rcases Nat.lt_or_ge i gg with h | h; exact hall i h; rw [show i = gg by omega]; exact hyes⟩, by omega⟩
  have hq : progB bs = true → (bs.map bkI).all (checksT (bs.map bkI)) = true := (fun hp => List.all_eq_true.2 (fun b hb => by obtain ⟨u, hu, rfl⟩ := List.mem_map.1 hb; obtain ⟨i, hi, rfl⟩ := List.getElem_of_mem hu; have := hall i (by omega); rw [hp, Bool.true_and] at this; have e : bth bs i = bs[i] := (by simp [bth, List.getElem?_eq_getElem hi]); rw [e] at this; exact this))
  refine cw_exit <| x_hit rfl <| zr <| zm <| ow_call rfl rfl (ProgramValid_ret bs hbs _ [] w1 (hv0.ext hK)) ?_
  rintro v2 w2 ⟨hv2, hk2⟩
  have hs2 := hk2.size
  have hK := hK.ext hk2
  obtain rfl := hv2
  refine zA <| ow_nil <| cw_ret ?_
  exact ⟨_, rfl, congrArg Value.bool (by cases hp : progB bs with | false => rfl | true => rw [hq hp]; rfl), hK⟩
end Go.Proofs.YtnkjgoholocliaaGreatDoor

namespace Go.Proofs.YtnkjgoholocliaaGreatDoor
open Go

theorem from_progI {s : Bytes} {bs : List Bk} (h : fromP s = some bs) : progB bs = true ∧ progI bs = true := by
  unfold fromP at h
  cases hp : parse s with
  | none => rw [hp] at h; cases h
  | some t =>
    rw [hp] at h
    simp only at h
    split at h
    · rename_i hc
      cases h
      rw [Bool.and_eq_true] at hc
      refine ⟨hc.2, ?_⟩
      unfold progI
      rw [hc.2, Bool.true_and, List.all_eq_true]
      intro b hb
      obtain ⟨u, hu, rfl⟩ := List.mem_map.1 hb
      obtain ⟨i, hi, rfl⟩ := List.getElem_of_mem (List.mem_of_mem_drop hu)
      have hf := (fine_parse hp).part (parse_good hp).1 (List.getElem?_eq_getElem hi)
      have hg := (parse_good hp).1.part (List.getElem?_eq_getElem hi)
      unfold shortL bkOf?
      split
      · rename_i hb
        have h4 := isBlkT_len hb
        have f1 := hf.nth (i := 1) hg (by omega)
        have a1 := atom_lt (nth t.parts[i].parts 1)
        have := f1.size
        exact decide_eq_true (show (nth t.parts[i].parts 1).atom.length ≤ 12000 by omega)
      · exact decide_eq_true (show nob.label.length ≤ 12000 by decide)
    · cases h
theorem load_no {s : Bytes} {p : List Bk → Bool} (hpp : ∀ bs, fromP s = some bs → p bs = true) (h : (!(fromP s).isSome || !(p ((fromP s).getD []) && (((fromP s).getD []).map bkI).all (checksT (((fromP s).getD []).map bkI)))) = true) : loadP s = none := by
  unfold loadP
  cases hf : fromP s with
  | none => rfl
  | some bs =>
    rw [hf] at h
    simp only [Option.isSome_some, Bool.not_true, Bool.false_or, Option.getD_some] at h
    rw [hpp bs hf, Bool.true_and] at h
    simp only
    rw [if_neg]
    intro hh
    rw [hh] at h; cases h
theorem load_yes {s : Bytes} {p : List Bk → Bool} (h : (!(fromP s).isSome || !(p ((fromP s).getD []) && (((fromP s).getD []).map bkI).all (checksT (((fromP s).getD []).map bkI)))) = false) : loadP s = fromP s ∧ (loadP s).isSome = true := by
  unfold loadP
  cases hf : fromP s with
  | none => rw [hf] at h; cases h
  | some bs =>
    rw [hf] at h
    simp only [Option.isSome_some, Bool.not_true, Bool.false_or, Option.getD_some] at h
    have h2 : (p bs && (bs.map bkI).all (checksT (bs.map bkI))) = true := by
      cases hx : (p bs && (bs.map bkI).all (checksT (bs.map bkI))) with
      | true => rfl
      | false => rw [hx] at h; cases h
    rw [Bool.and_eq_true] at h2
    simp only
    rw [if_pos h2.2]
    exact ⟨rfl, rfl⟩
theorem load_cases (s : Bytes) : loadP s = none ∨ loadP s = fromP s := by
  unfold loadP
  cases fromP s with
  | none => exact .inl rfl
  | some bs =>
    simp only
    split
    · exact .inr rfl
    · exact .inl rfl
theorem load_small (s : Bytes) : Smalls ((loadP s).getD []) ∧ ((loadP s).getD []).length ≤ 12001 := by
  rcases load_cases s with h | h
  · rw [h]; exact ⟨⟨by simp, fun i hi => by simp at hi⟩, by simp⟩
  · rw [h]; exact from_small s
theorem load_mark (s : Bytes) : ∀ i, i ≤ ((loadP s).getD []).length → kAt ((loadP s).getD []) 1 i ≤ 100000000000000 := by
  rcases load_cases s with h | h
  · rw [h]
    intro i hi
    have : i = 0 := by simpa using hi
    subst this
    show kAt ([] : List Bk) 1 0 ≤ 100000000000000
    decide
  · rw [h]; exact from_mark s

theorem SLoad_ret (s : Bytes) (w : World) :
    Ret Tryz.prog 41 [str s] w fun r w' => (∃ a n c, r = .tuple #[.slice a n c, .bool (loadP s).isSome] ∧ RBks [] w' (.slice a n c) ((loadP s).getD [])) ∧ Keep [] w w' := by
  have hK := Keep.refl [] w
  obtain ⟨hsm, hbl⟩ := from_small s
  refine ret_of [.tmp 2, .tmp 3] 20 Tryz.func41 rfl nm41 rfl rfl ?_
  refine zr <| zA <| zA <| ow_nil <| zr <| zm <| ow_call rfl rfl (SFrom_ret s w) ?_
  rintro v1 w1 ⟨hv1, hk1⟩
  have hs1 := hk1.size
  have hK := hK.ext hk1
  obtain ⟨a, n, c, rfl, hv0⟩ := hv1
  refine zm <| zx (i := 0) rfl rfl <| zx (i := 1) rfl rfl <| zA <| zA <| ow_nil <| cw_seq <| zr <| zm <| ow_not rfl rfl rfl <| zm ?_
  apply ow_or 4 13 17 [13, 14, 15, 16, 17] (Keep [] w1) rfl
  intro h1
  replace h1 := tst h1
  have hJ13 := Keep.refl [] w1
  refine zs <| zs <| zs <| zp rfl <| ow_nil ?_
  exact ⟨by repeat (first | with_reducible exact agree_refl | refine agree_upd rfl ?_ | refine agree_hav rfl ?_), rfl, hJ13⟩
  intro h1
  replace h1 := tst h1
  have hJ13 := Keep.refl [] w1
  skip
  refine zm <| ow_call rfl rfl (SCheck_ret ((fromP s).getD []) hsm _ w1 hv0) ?_
  rintro v2 w2 ⟨hv2, hk2⟩
  have hs2 := hk2.size
  have hJ13 := hJ13.ext hk2
  obtain rfl := hv2
  refine ow_not rfl rfl rfl <| zp rfl <| ow_nil ?_
  exact ⟨by repeat (first | with_reducible exact agree_refl | refine agree_upd rfl ?_ | refine agree_hav rfl ?_), rfl, hJ13⟩
  intro xx w3 hk3
  have hK := hK.ext hk3; have hv0 := hv0.ext hk3
  refine ow_nil <| zc rfl (fun h2 => ?_) (fun h2 => ?_)
  have hq := load_no (p := progB) (fun bs h => (from_progI h).1) h2
  refine zr <| ow_buildSlice0 w.heap.size [] tSl25 tI55 rfl rfl hK.size (by simp) ?_
  intro w4 hk4 hz1 hO
  have hK := hK.ext hk4
  refine zA <| zA <| ow_nil <| cw_ret ?_
  exact ⟨_, rfl, ⟨_, _, _, by rw [hq]; rfl, by rw [hq]; exact hO.done⟩, hK⟩
  obtain ⟨hq1, hq2⟩ := load_yes h2
  refine cw_skip <| zr <| zm <| zA <| zA <| ow_nil <| cw_ret ?_
  exact ⟨_, rfl, ⟨_, _, _, by rw [hq2]; rfl, by rw [hq1]; exact hv0⟩, hK⟩

theorem OwnProg.ext {B : Nat} {bs : List Bk} {v : Value} {w w' : World} (h : OwnProg B bs v w) (k : Keep [] w w') : OwnProg B bs v w' := by
  obtain ⟨g, gss, vss, h1, h2⟩ := h
  exact ⟨g, gss, vss, h1.ext k, h2⟩
theorem OwnProg.rep {B : Nat} {bs : List Bk} {v : Value} {w : World} (h : OwnProg B bs v w) : RBks [] w v bs := by
  obtain ⟨g, gss, vss, h1, _⟩ := h
  exact h1.rep (by simp)
theorem ILoad_ret (s : Bytes) (w : World) :
    Ret Tryz.prog 42 [str s] w fun r w' => (∃ a n c, r = .tuple #[.slice a n c, .bool (loadP s).isSome] ∧ OwnProg w.heap.size ((loadP s).getD []) (.slice a n c) w') ∧ Keep [] w w' := by
  have hK := Keep.refl [] w
  obtain ⟨hsm, hbl⟩ := from_small s
  refine ret_of [.tmp 2, .tmp 3] 19 Tryz.func42 rfl nm42 rfl rfl ?_
  refine zr <| zA <| zA <| ow_nil <| zr <| zm <| ow_call rfl rfl (IFrom_ret s w) ?_
  rintro v1 w1 ⟨hv1, hk1⟩
  have hs1 := hk1.size
  have hK := hK.ext hk1
  obtain ⟨a, n, c, rfl, hv0⟩ := hv1
  refine zm <| zx (i := 0) rfl rfl <| zx (i := 1) rfl rfl <| zA <| zA <| ow_nil <| cw_seq <| zr <| zm <| ow_not rfl rfl rfl <| zm ?_
  apply ow_or 4 13 17 [13, 14, 15, 16, 17] (Keep [] w1) rfl
  intro h1
  replace h1 := tst h1
  have hJ13 := Keep.refl [] w1
  refine zs <| zs <| zs <| zp rfl <| ow_nil ?_
  exact ⟨by repeat (first | with_reducible exact agree_refl | refine agree_upd rfl ?_ | refine agree_hav rfl ?_), rfl, hJ13⟩
  intro h1
  replace h1 := tst h1
  have hJ13 := Keep.refl [] w1
  skip
  refine zm <| ow_call rfl rfl (ICheck_ret ((fromP s).getD []) hsm _ [] w1 hv0.rep) ?_
  rintro v2 w2 ⟨hv2, hk2⟩
  have hs2 := hk2.size
  have hJ13 := hJ13.ext hk2
  obtain rfl := hv2
  refine ow_not rfl rfl rfl <| zp rfl <| ow_nil ?_
  exact ⟨by repeat (first | with_reducible exact agree_refl | refine agree_upd rfl ?_ | refine agree_hav rfl ?_), rfl, hJ13⟩
  intro xx w3 hk3
  have hK := hK.ext hk3; have hv0 := hv0.ext hk3
  refine ow_nil <| zc rfl (fun h2 => ?_) (fun h2 => ?_)
  have hq := load_no (p := progI) (fun bs h => (from_progI h).2) h2
  refine zr <| zA <| zA <| ow_nil <| cw_ret ?_
  exact ⟨_, rfl, ⟨_, _, _, by rw [hq]; rfl, by rw [hq]; exact ownProg_nil⟩, hK⟩
  obtain ⟨hq1, hq2⟩ := load_yes h2
  refine cw_skip <| zr <| zm <| zA <| zA <| ow_nil <| cw_ret ?_
  exact ⟨_, rfl, ⟨_, _, _, by rw [hq2]; rfl, by rw [hq1]; exact hv0⟩, hK⟩

theorem lawLoad_ret (s : Bytes) (w : World) : Ret Tryz.prog 12 [str s] w fun r w' => r = .bool true ∧ Keep [] w w' := by
  have hK := Keep.refl [] w
  obtain ⟨hsm, hbl⟩ := load_small s
  have hM := load_mark s
  generalize hbs : (loadP s).getD [] = bs at *
  refine ret_of [.tmp 2] 66 Tryz.func12 rfl nm12 rfl rfl ?_
  refine zr <| zA <| ow_nil <| cw_seq <| zr <| zm <| ow_lenS tStr9 rfl rfl rfl <| ow_gtr rfl rfl rfl rfl rfl <| ow_nil <| zc rfl (fun h1 => ?_) (fun h1 => ?_)
  skip
  refine zr <| zA <| ow_nil <| cw_ret ?_
  exact ⟨_, rfl, rfl, hK⟩
  skip
  refine cw_skip <| zr <| zm <| ow_call rfl rfl (SLoad_ret s w) ?_
  rintro v1 w1 ⟨hv1, hk1⟩
  have hs1 := hk1.size
  have hK := hK.ext hk1
  obtain ⟨a, n, c, rfl, hv0⟩ := hv1
  rw [hbs] at hv0
  have hK1 := Keep.refl [] w1
  have hsz1 := hk1.size
  refine zm <| zx (i := 0) rfl rfl <| zx (i := 1) rfl rfl <| zA <| zA <| ow_nil <| zr <| zm <| ow_call rfl rfl (ILoad_ret s w1) ?_
  rintro v2 w2 ⟨hv2, hk2⟩
  have hs2 := hk2.size
  have hK := hK.ext hk2; have hK1 := hK1.ext hk2
  obtain ⟨a1, n1, c1, rfl, g, gss, vss, hO, hlow⟩ := hv2
  rw [hbs] at hO
  refine zm <| zx (i := 0) rfl rfl <| zx (i := 1) rfl rfl <| zA <| zA <| ow_nil <| cw_seq <| zr <| zm <| zm <| ow_call rfl rfl (eqBlockS_ret bs hsm _ _ [] [] w2 (hO.rep (by simp)) (hv0.ext hK1)) ?_
  rintro v3 w3 ⟨hv3, hk3⟩
  have hs3 := hk3.size
  have hK := hK.ext hk3; have hK1 := hK1.ext hk3; have hO := hO.ext hk3
  obtain rfl := hv3
  refine ow_not rfl rfl rfl <| zm ?_
  apply ow_or 4 28 32 [28, 29, 30, 31, 32] (fun w' => w3 = w') rfl
  intro h2
  replace h2 := tst h2
  refine zs <| zs <| zs <| zp rfl <| ow_nil ?_
  exact ⟨by repeat (first | with_reducible exact agree_refl | refine agree_upd rfl ?_ | refine agree_hav rfl ?_), rfl, rfl⟩
  intro h2
  replace h2 := tst h2
  skip
  refine zm <| zm <| ow_bneq tBool4 rfl rfl rfl rfl <| zp rfl <| ow_nil ?_
  exact ⟨by repeat (first | with_reducible exact agree_refl | refine agree_upd rfl ?_ | refine agree_hav rfl ?_), rfl, rfl⟩
  rintro xx _ rfl
  refine ow_nil <| zc rfl (fun h3 => ?_) (fun h3 => ?_)
  simp at h3
  skip
  refine cw_skip <| zr <| zA <| ow_nil <| zr <| zm <| zm <| ow_call rfl rfl (markBlockS_ret bs 1 hM (by omega) _ g gss vss w3 hO) ?_
  rintro _ w4 ⟨rfl, ⟨vss2, hO⟩, hkm⟩
  have hK := hK.since hkm (fun x hx => .inr (by have := hlow x hx; omega))
  have hK1 := hK1.since hkm (fun x hx => .inr (hlow x hx))
  refine zA <| ow_nil <| zr <| zA <| ow_nil <| zr <| zm <| zm <| ow_call rfl rfl (heldBlockS_ret bs 1 hM (by omega) _ [] w4 (hO.rep (by simp))) ?_
  rintro v5 w5 ⟨hv5, hk5⟩
  have hs5 := hk5.size
  have hK := hK.ext hk5; have hK1 := hK1.ext hk5; have hO := hO.ext hk5
  obtain rfl := hv5
  refine zA <| ow_nil <| cw_seq <| zr <| zm <| ow_lss rfl rfl rfl rfl rfl <| ow_nil <| zc rfl (fun h4 => ?_) (fun h4 => ?_)
  exfalso
  omega
  skip
  refine cw_skip <| cw_seq <| zr <| zm <| zm <| ow_neq rfl rfl rfl rfl rfl <| ow_nil <| zc rfl (fun h5 => ?_) (fun h5 => ?_)
  exact absurd rfl h5
  skip
  refine cw_skip <| zr <| zm <| ow_call rfl rfl (ILoad_ret s w5) ?_
  rintro v6 w6 ⟨hv6, hk6⟩
  have hs6 := hk6.size
  have hK := hK.ext hk6; have hK1 := hK1.ext hk6; have hO := hO.ext hk6
  obtain ⟨a2, n2, c2, rfl, g2, gss2, vss3, hO2, hlow2⟩ := hv6
  rw [hbs] at hO2
  refine zm <| zx (i := 0) rfl rfl <| zx (i := 1) rfl rfl <| zA <| zA <| ow_nil <| cw_seq <| zr <| zm <| zm <| ow_call rfl rfl (eqBlockS_ret bs hsm _ _ [] [] w6 (hO2.rep (by simp)) (hv0.ext hK1)) ?_
  rintro v7 w7 ⟨hv7, hk7⟩
  have hs7 := hk7.size
  have hK := hK.ext hk7; have hO := hO.ext hk7
  obtain rfl := hv7
  refine ow_not rfl rfl rfl <| zm ?_
  apply ow_or 4 53 57 [53, 54, 55, 56, 57] (fun w' => w7 = w') rfl
  intro h6
  replace h6 := tst h6
  refine zs <| zs <| zs <| zp rfl <| ow_nil ?_
  exact ⟨by repeat (first | with_reducible exact agree_refl | refine agree_upd rfl ?_ | refine agree_hav rfl ?_), rfl, rfl⟩
  intro h6
  replace h6 := tst h6
  skip
  refine zm <| zm <| ow_bneq tBool4 rfl rfl rfl rfl <| zp rfl <| ow_nil ?_
  exact ⟨by repeat (first | with_reducible exact agree_refl | refine agree_upd rfl ?_ | refine agree_hav rfl ?_), rfl, rfl⟩
  rintro xx _ rfl
  refine ow_nil <| zc rfl (fun h7 => ?_) (fun h7 => ?_)
  simp at h7
  skip
  refine cw_skip <| zr <| zA <| ow_nil <| zr <| zm <| zm <| ow_call rfl rfl (heldBlockS_ret bs 1 hM (by omega) _ [] w7 (hO.rep (by simp))) ?_
  rintro v8 w8 ⟨hv8, hk8⟩
  have hs8 := hk8.size
  have hK := hK.ext hk8
  obtain rfl := hv8
  refine zA <| ow_nil <| cw_seq <| zr <| zm <| ow_lss rfl rfl rfl rfl rfl <| ow_nil <| zc rfl (fun h8 => ?_) (fun h8 => ?_)
  exfalso
  omega
  skip
  refine cw_skip <| cw_seq <| zr <| zm <| zm <| ow_neq rfl rfl rfl rfl rfl <| ow_nil <| zc rfl (fun h9 => ?_) (fun h9 => ?_)
  exact absurd rfl h9
  skip
  refine cw_skip <| zr <| zA <| ow_nil <| cw_ret ?_
  exact ⟨_, rfl, rfl, hK⟩
end Go.Proofs.YtnkjgoholocliaaGreatDoor
