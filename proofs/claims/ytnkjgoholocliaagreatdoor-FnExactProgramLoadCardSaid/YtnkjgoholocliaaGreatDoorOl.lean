/-
  Lemmas for the law of ProgramLoad, no statement of their own: walks of the program's checker.
-/
import Derived.Test.YtnkjgoholocliaaGreatDoorOk
import Derived.Test.YtnkjgoholocliaaGreatDoorOc
import Derived.Test.YtnkjgoholocliaaGreatDoorOg
import Derived.Test.YtnkjgoholocliaaGreatDoorOi
namespace Go.Proofs.YtnkjgoholocliaaGreatDoor
open Go

theorem shape_first {h : Bytes} {n : Nat} (hn : shapeI h n ≠ []) : (shapeI h n).getD 0 0 = 100 ∨ (shapeI h n).getD 0 0 = 115 := by
  unfold shapeI at hn ⊢
  repeat' split
  all_goals first | (left; rfl) | (right; rfl) | simp_all
theorem instr_reg1 {t : Tree} (hi : instrI t = true) : isReg (nth t.parts 1).atom = true := by
  obtain ⟨hne, hlen, hp⟩ := instrI_facts hi
  have := hp 0 (List.length_pos_iff.2 hne)
  rcases shape_first hne with h | h
  · rw [h] at this; rw [← pI_d]; exact this
  · rw [h] at this; rw [← pI_s]; exact this
theorem have_ds {st : TS} {ps xs : List Tree} (h : haveK st [100, 115] ps 2 = some xs) : ∃ x, xs = [x] ∧ regT st (nth ps 2).atom = some x := by
  cases h2 : regT st (nth ps 2).atom with
  | none => simp [haveK, h2] at h
  | some x => simp [haveK, h2] at h; exact ⟨x, h.symm, rfl⟩
theorem have_dsm {st : TS} {ps xs : List Tree} (h : haveK st [100, 115, 109] ps 3 = some xs) : ∃ x, xs = [x] ∧ regT st (nth ps 2).atom = some x := by
  cases h2 : regT st (nth ps 2).atom with
  | none => simp [haveK, h2] at h
  | some x => simp [haveK, h2] at h; exact ⟨x, h.symm, rfl⟩
theorem have_dsEW {st : TS} {ps xs : List Tree} (h : haveK st [100, 115, 69, 87] ps 4 = some xs) : ∃ x, xs = [x] ∧ regT st (nth ps 2).atom = some x := by
  cases h2 : regT st (nth ps 2).atom with
  | none => simp [haveK, h2] at h
  | some x => simp [haveK, h2] at h; exact ⟨x, h.symm, rfl⟩
theorem have_dss {st : TS} {ps xs : List Tree} (h : haveK st [100, 115, 115] ps 3 = some xs) : ∃ x y, xs = [x, y] ∧ regT st (nth ps 2).atom = some x ∧ regT st (nth ps 3).atom = some y := by
  cases h2 : regT st (nth ps 2).atom with
  | none => simp [haveK, h2] at h
  | some x =>
    cases h3 : regT st (nth ps 3).atom with
    | none => simp [haveK, h2, h3] at h
    | some y => simp [haveK, h2, h3] at h; exact ⟨x, y, h.symm, rfl, rfl⟩
theorem have_sl {st : TS} {ps xs : List Tree} (h : haveK st [115, 108] ps 2 = some xs) : ∃ x, xs = [x] ∧ regT st (nth ps 1).atom = some x := by
  cases h2 : regT st (nth ps 1).atom with
  | none => simp [haveK, h2] at h
  | some x => simp [haveK, h2] at h; exact ⟨x, h.symm, rfl⟩
theorem have_s {st : TS} {ps xs : List Tree} (h : haveK st [115] ps 1 = some xs) : ∃ x, xs = [x] ∧ regT st (nth ps 1).atom = some x := by
  cases h2 : regT st (nth ps 1).atom with
  | none => simp [haveK, h2] at h
  | some x => simp [haveK, h2] at h; exact ⟨x, h.symm, rfl⟩

abbrev regsFn (pv : Value) : Value := .func (.func 122) #[pv] #[]
def DoPost (ps : List IBk) (L : List Nat) (b : Nat) (st : TS) (opens : Nat) (pv : Value) (t : Tree) (w : World) (r : Value) (w' : World) : Prop :=
  r = .bool (stepT ps st opens t).isSome ∧ (∀ st', stepT ps st opens t = some st' → Chk L w' b 153 st' (opens1 opens t) (regsFn pv)) ∧ Keep [b] w w'
theorem do_fail {ps : List IBk} {L : List Nat} {b : Nat} {st : TS} {opens : Nat} {pv : Value} {t : Tree} {w w' : World} (h : stepT ps st opens t = none) (k : Keep [b] w w') : DoPost ps L b st opens pv t w (.bool false) w' :=
  ⟨by rw [h]; rfl, fun st' e => (by rw [h] at e; cases e), k⟩
theorem do_set {ps : List IBk} {L : List Nat} {b : Nat} {st : TS} {opens : Nat} {pv : Value} {t : Tree} {w w' : World} {d : Nat} {o : Option Tree} (h : stepT ps st opens t = setT st d o) (hC : Chk L w' b 153 ((setT st d o).getD st) (opens1 opens t) (regsFn pv)) (k : Keep [b] w w') :
    DoPost ps L b st opens pv t w (.bool (setT st d o).isSome) w' :=
  ⟨by rw [h], fun st' e => (by rw [← h, e] at hC; exact hC), k⟩
theorem do_same {ps : List IBk} {L : List Nat} {b : Nat} {st : TS} {opens : Nat} {pv : Value} {t : Tree} {w w' : World} (h : stepT ps st opens t = some st) (hC : Chk L w' b 153 st (opens1 opens t) (regsFn pv)) (k : Keep [b] w w') : DoPost ps L b st opens pv t w (.bool true) w' :=
  ⟨by rw [h]; rfl, fun st' e => (by rw [h] at e; cases e; exact hC), k⟩
theorem num_cases {a : Bytes} (h : ((numeral a).isSome && decide (0 ≤ (numeral a).getD 0)) = true) : ∃ z : Nat, numeral a = some (z : Int) ∧ numZ a = (z : Int) := by
  cases hn : numeral a with
  | none => rw [hn] at h; cases h
  | some z =>
    rw [hn] at h
    simp only [Option.isSome_some, Bool.true_and, Option.getD_some, decide_eq_true_eq] at h
    exact ⟨z.toNat, by rw [Int.toNat_of_nonneg h], by unfold numZ; rw [hn, Int.toNat_of_nonneg h]; rfl⟩
theorem decB_all (n : Nat) : (decB n).all atomByte = true := by
  induction n using Nat.strongRecOn with
  | _ n ih =>
    have hd : ∀ k, k < 10 → atomByte (UInt8.ofNat (48 + k)) = true := by decide
    unfold decB
    by_cases h : n < 10
    · rw [if_pos h, List.all_cons, hd n h]; rfl
    · rw [if_neg h, List.all_append, ih (n / 10) (by omega), List.all_cons, hd (n % 10) (by omega)]; rfl
theorem decB_short (n : Nat) : (decB n).length ≤ n + 1 := by
  induction n using Nat.strongRecOn with
  | _ n ih =>
    unfold decB
    split
    · simp
    · rw [List.length_append]
      have := ih (n / 10) (by omega)
      simp only [List.length_cons, List.length_nil]; omega
theorem unknown_ok {n : Nat} (h : n ≤ 90) : Good (atomT (97 :: decB n)) ∧ (atomT (97 :: decB n)).size ≤ 100 := by
  have h1 := decB_short n
  exact ⟨.atom _ (by simp) (by simp [decB_all]; decide), by simp only [atomT, Tree.size, Tree.size.sizes, List.length_cons]; omega⟩
theorem need_good {ps : List IBk} (hP : OkP ps) (l : Bytes) : ((regsOf ps l).getD []).length < 1000000000 ∧ ∀ i, i < ((regsOf ps l).getD []).length → Good (nth ((regsOf ps l).getD []) i) := by
  cases h : regsOf ps l with
  | none => exact ⟨by simp, fun i hi => by simp at hi⟩
  | some need =>
    obtain ⟨h1, h2⟩ := regsOf_ok hP h
    simp only [Option.getD_some]
    exact ⟨by omega, fun i hi => (h2 _ (List.mem_of_getElem? (nth_get hi))).good⟩
theorem zero_z {ps : List IBk} {st : TS} {o : Nat} {t x : Tree} (hh : headOf t = [122, 101, 114, 111]) (hx : regT st (nth t.parts 1).atom = some x) (hg : Good x) :
    stepT ps st o t = if (eqT x iT && (regsOf ps (nth t.parts 2).atom).isSome) && meets st ((regsOf ps (nth t.parts 2).atom).getD []) then some st else none := by
  rw [step_zero hh hx, eqT_same hg ok_iT.good]
  cases regsOf ps (nth t.parts 2).atom with
  | none => simp
  | some need => simp
theorem jump_z {ps : List IBk} {st : TS} {o : Nat} {t x : Tree} (hh : headOf t = [106, 117, 109, 112]) (hx : regT st (nth t.parts 1).atom = some x) :
    stepT ps st o t = if (decide (headOf x = [99]) && meets st (x.parts.drop 1)) then some st else none := by
  rw [step_jump hh hx]
  by_cases h : headOf x = [99] <;> simp [h]
theorem do_if {ps : List IBk} {L : List Nat} {b : Nat} {st : TS} {opens : Nat} {pv : Value} {t : Tree} {w w' : World} {d : Nat} {o : Option Tree} {c : Bool} (h : stepT ps st opens t = if c then setT st d o else none) (hC : c = true → Chk L w' b 153 ((setT st d o).getD st) (opens1 opens t) (regsFn pv)) (k : Keep [b] w w') :
    DoPost ps L b st opens pv t w (.bool (c && (setT st d o).isSome)) w' := by
  cases c with
  | false => exact do_fail h k
  | true => rw [Bool.true_and]; exact do_set h (hC rfl) k
theorem do_keep {ps : List IBk} {L : List Nat} {b : Nat} {st : TS} {opens : Nat} {pv : Value} {t : Tree} {w w' : World} {c : Bool} (h : stepT ps st opens t = if c then some st else none) (hC : Chk L w' b 153 st (opens1 opens t) (regsFn pv)) (k : Keep [b] w w') : DoPost ps L b st opens pv t w (.bool c) w' := by
  cases c with
  | false => exact do_fail h k
  | true => exact do_same h hC k
theorem eqT_comm (x y : Tree) : eqT x y = eqT y x := by
  cases h : eqT x y with
  | true => have := (eqT_iff x y).1 h; subst this; exact h.symm
  | false =>
    cases h2 : eqT y x with
    | false => rfl
    | true => have := (eqT_iff y x).1 h2; subst this; rw [h2] at h; cases h
theorem decB_itoa (n : Nat) : Lib.decDigits n = decB n := by
  induction n using Nat.strongRecOn with
  | _ n ih =>
    unfold Lib.decDigits decB
    by_cases h : n < 10
    · rw [dif_pos h, if_pos h]
    · rw [dif_neg h, if_neg h, ih (n / 10) (by omega)]
theorem itoa_ret (n : Nat) (hn : n < 100) (w : World) : Ret Tryz.prog 151 [.int .i64 (n : Int)] w fun v w' => v = str (decB n) ∧ Keep [] w w' :=
  ⟨Callable.mk' Tryz.func151 rfl nm151, Calls.mono (Tryz.strconv_Itoa_small n hn w) fun _ _ ⟨he, hw⟩ => ⟨_, he, by rw [← decB_itoa], hw ▸ Keep.refl _ _⟩⟩
theorem opens1_no {opens : Nat} {t : Tree} (h : headOf t ≠ [111, 112, 101, 110]) : opens1 opens t = opens := if_neg h

set_option maxHeartbeats 4000000 in
theorem do_ret (ps : List IBk) (hP : OkP ps) (pv : Value) (L : List Nat) (b : Nat) (st : TS) (hS : OkTS st) (opens : Nat) (hop : opens ≤ 90) (w : World) (hC : Chk L w b 153 st opens (regsFn pv)) (hpv : RProg (b :: L) w pv ps) (hL : ∀ x, x ∈ L → x < w.heap.size) (t : Tree) (hfine : Fine t) (hgood : Good t) (hi : instrI t = true) (vt : Value) (hv : RTree (b :: L) w vt t) :
    Ret Tryz.prog 124 [.pointer (some ⟨b, 0, none⟩), vt] w fun r w' => DoPost ps L b st opens pv t w r w' := by
  have hv0 := hv
  obtain ⟨a, n, c, rfl, hn, hps⟩ := rtree_cases hv
  subst hn
  have hK := Keep.refl [] w
  have hwf := hgood.wf
  have hn8 := half_size hwf
  have hsz := hfine.size
  have hblt := hC.lt
  obtain ⟨hne, hlen, hpart⟩ := instrI_facts hi
  have hr1 := instr_reg1 hi
  obtain ⟨σ, hσ⟩ : ∃ σ, σ = shapeI (headOf t) t.parts.length := ⟨_, rfl⟩
  rw [← hσ] at hne hlen hpart
  have hσ1 := List.length_pos_iff.2 hne
  obtain ⟨b0, off0, _, _, _, rfl, _, _, _⟩ := rtrees_get hps (nth_get (ps := t.parts) (i := 0) (by omega))
  have hFT : FitTS st := fun i x hx => ⟨(hS i x hx).good, (hS i x hx).fits⟩
  refine ret_of [.tmp 4] 263 Tryz.func124 rfl nm124 rfl rfl ?_
  refine zr <| ow_boxA rfl rfl rfl ?_
  intro w1 hk1 hb3 hz1
  have hK := hK.ext hk1; have hC := hC.ext hk1; have hv0 := hv0.ext hk1; have hpv := hpv.ext hk1
  refine zA <| ow_nil <| cw_seq ?_
  refine cw_draw tMixed kept_new 7 [19, 20, 21, 22, 23, 24, 5] [19, 20, 21, 22, 23, 24, 5] [[], [0], [], [2], [3], [1, 4], [5]] [fun v _ => v = (.agg #[str t.atom, .slice (some ⟨b0, off0, none⟩) t.parts.length c]), fun v _ => v = (str (headOf t)), fun v _ => v = (.pointer (some ⟨w.heap.size, 0 + 1, none⟩)), fun v _ => v = (.slice (some ⟨b0, off0, none⟩) t.parts.length c), fun v _ => v = (.int .i64 (t.parts.length : Int)), fun v _ => v = (str σ), fun v _ => v = (str σ)] (by decide) (stab_eq (stab_eq (stab_eq (stab_eq (stab_eq (stab_eq (stab_eq trivial))))))) (fun wd hkd => ?_) ?_
  refine certs_cons ?_ ?_
  intro x vs w2 e hk2 hd he
  replace hk2 := kept_new.trans hkd hk2
  have hb3 := hb3.ext hk2
  replace he : e = over (havoc _ x _) [] := he
  subst he
  refine zL tAgg73 tI73 rfl hb3.all rfl <| ow_nil ?_
  exact ⟨kept_new.refl _, rfl, by first | exact agree_put | exact agree_refl⟩
  refine certs_cons ?_ ?_
  intro x vs w2 e hk2 hd he
  have d0 : vs 0 = (.agg #[str t.atom, .slice (some ⟨b0, off0, none⟩) t.parts.length c]) := hd
  replace hk2 := kept_new.trans hkd hk2
  have hv0 := hv0.ext hk2
  replace he : e = over (havoc _ x _) [(19, vs 0)] := he
  rw [d0] at he
  subst he
  refine ow_call rfl rfl (headI_ret t hwf _ _ w2 hv0) ?_
  rintro v3 w3 ⟨hv3, hk3⟩
  have hs3 := hk3.size
  obtain rfl := hv3
  refine ow_nil ?_
  exact ⟨kept_new.of hk3, rfl, by first | exact agree_put | exact agree_refl⟩
  refine certs_cons ?_ ?_
  intro x vs w2 e hk2 hd he
  replace hk2 := kept_new.trans hkd hk2
  replace he : e = over (havoc _ x _) [] := he
  subst he
  refine zf tF73_1 rfl <| ow_nil ?_
  exact ⟨kept_new.refl _, rfl, by first | exact agree_put | exact agree_refl⟩
  refine certs_cons ?_ ?_
  intro x vs w2 e hk2 hd he
  have d2 : vs 2 = (.pointer (some ⟨w.heap.size, 0 + 1, none⟩)) := hd
  replace hk2 := kept_new.trans hkd hk2
  have hb3 := hb3.ext hk2
  replace he : e = over (havoc _ x _) [(21, vs 2)] := he
  rw [d2] at he
  subst he
  refine zl tOne61 rfl (hb3.at rfl) <| ow_nil ?_
  exact ⟨kept_new.refl _, rfl, by first | exact agree_put | exact agree_refl⟩
  refine certs_cons ?_ ?_
  intro x vs w2 e hk2 hd he
  have d3 : vs 3 = (.slice (some ⟨b0, off0, none⟩) t.parts.length c) := hd
  replace hk2 := kept_new.trans hkd hk2
  replace he : e = over (havoc _ x _) [(22, vs 3)] := he
  rw [d3] at he
  subst he
  refine ow_len tSl61 rfl rfl rfl <| ow_nil ?_
  exact ⟨kept_new.refl _, rfl, by first | exact agree_put | exact agree_refl⟩
  refine certs_cons ?_ ?_
  intro x vs w2 e hk2 hd he
  obtain ⟨d1, d4⟩ : (vs 1 = (str (headOf t))) ∧ (vs 4 = (.int .i64 (t.parts.length : Int))) := hd
  replace hk2 := kept_new.trans hkd hk2
  replace he : e = over (havoc _ x _) [(20, vs 1), (23, vs 4)] := he
  rw [d1, d4] at he
  subst he
  refine ow_call rfl rfl (shape_ret (headOf t) t.parts.length (by omega) w2) ?_
  rintro v3 w3 ⟨hv3, hk3⟩
  have hs3 := hk3.size
  obtain rfl := hv3
  rw [← hσ]
  refine ow_nil ?_
  exact ⟨kept_new.of hk3, rfl, by first | exact agree_put | exact agree_refl⟩
  refine certs_cons ?_ ?_
  intro x vs w2 e hk2 hd he
  have d5 : vs 5 = (str σ) := hd
  replace hk2 := kept_new.trans hkd hk2
  replace he : e = over (havoc _ x _) [(24, vs 5)] := he
  rw [d5] at he
  subst he
  refine zA <| ow_nil ?_
  exact ⟨kept_new.refl _, rfl, by first | exact agree_put | exact agree_refl⟩
  exact trivial
  intro x vs w41 hk41 hdraw
  have d0 : vs 0 = (.agg #[str t.atom, .slice (some ⟨b0, off0, none⟩) t.parts.length c]) := hdraw 0 (by decide)
  have d1 : vs 1 = (str (headOf t)) := hdraw 1 (by decide)
  have d2 : vs 2 = (.pointer (some ⟨w.heap.size, 0 + 1, none⟩)) := hdraw 2 (by decide)
  have d3 : vs 3 = (.slice (some ⟨b0, off0, none⟩) t.parts.length c) := hdraw 3 (by decide)
  have d4 : vs 4 = (.int .i64 (t.parts.length : Int)) := hdraw 4 (by decide)
  have d5 : vs 5 = (str σ) := hdraw 5 (by decide)
  have d6 : vs 6 = (str σ) := hdraw 6 (by decide)
  have hK := hK.ext hk41; have hC := hC.ext hk41; have hv0 := hv0.ext hk41; have hpv := hpv.ext hk41; have hb3 := hb3.ext hk41
  change OW _ _ _ _ [] (over (havoc _ x _) [(19, vs 0), (20, vs 1), (21, vs 2), (22, vs 3), (23, vs 4), (24, vs 5), (5, vs 6)]) _
  rw [d0, d1, d2, d3, d4, d5, d6]
  refine ow_nil <| zr <| zA <| ow_nil <| cw_seq <| zr <| zf tF73_1 rfl <| zl tOne61 rfl (hb3.at rfl) <| ow_slice_from (l := 1) tSl61 tI73 rfl rfl rfl rfl (by omega) (rtree_parts hv0) ?_
  intro vs1 hvs
  have hvs : RTrees (b :: L) w41 vs1 (t.parts.drop 1) := (show RTrees (b :: L) _ vs1 _ from by rw [RTrees, encs_drop]; exact hvs)
  obtain ⟨a1, c1, rfl⟩ := trees_cases hvs
  have hdl : (t.parts.drop 1).length = t.parts.length - 1 := List.length_drop
  refine ow_len tSl61 rfl rfl rfl <| zm <| ow_nil <| cw_block ?_
  have hC0 := hC
  have hv1 := hv0
  have hpv1 := hpv
  have hs41 := hK.size
  have hl41 := hb3.lt
  refine cw_loop (fun q : Nat × Option Addr × Nat × Option Nat × List Tree => [(0, .pointer (some ⟨b, 0, none⟩)), (3, .pointer (some ⟨w.heap.size, 0, none⟩)), (5, str σ), (6, .slice q.2.1 q.2.2.2.2.length q.2.2.1), (27, .slice a1 (t.parts.drop 1).length c1), (28, .int .i64 ((t.parts.drop 1).length : Int)), (29, .int .i64 (q.1 : Int))]) (fun q w' => Keep [] w w' ∧ Keep [] w41 w' ∧ Blk w' w.heap.size [str t.atom, .slice (some ⟨b0, off0, none⟩) t.parts.length c].toArray 73 ∧ Gr w41.heap.size (b :: L) w' 73 2 (.slice q.2.1 q.2.2.2.2.length q.2.2.1) q.2.2.2.1 (encs q.2.2.2.2) ∧ haveK st σ t.parts q.1 = some q.2.2.2.2 ∧ q.1 ≤ (t.parts.drop 1).length ∧ (∀ x, x ∈ q.2.2.2.2 → OkT x) ∧ q.2.2.2.2.length ≤ q.1) (fun q => (t.parts.drop 1).length - q.1) ((0, none, 0, none, [])) (⟨rfl, rfl, rfl, rfl, rfl, rfl, rfl⟩) (⟨hK, Keep.refl _ _, hb3, Gr.nil (by intro x hx; simp at hx; rcases hx with rfl | hx; omega; have := hL x hx; omega) (Nat.le_refl _), rfl, by simp, by intro x hx; simp at hx, by simp⟩) ?_
  intro gg w42 e42 hI
  obtain ⟨i, a3, cc, g, xs⟩ := gg
  dsimp only at hI ⊢
  obtain ⟨hK, hKs, hb3, hO, hxs, hk, hxok, hxl⟩ := hI
  have hsz2 := hKs.size
  have hbl3 := hb3.lt
  refine zr <| ow_lss rfl rfl rfl rfl rfl <| ow_nil <| cw_seq <| zc rfl (fun h1 => ?_) (fun h1 => ?_)
  have hgt := drop_get (t := t) (k := i) (by omega)
  have hCg : Chk (g.toList ++ L) w42 b 153 st opens (regsFn pv) := (hC0.fresh (by intro x hx; rcases List.mem_append.1 hx with hx | hx; (· right; exact hO.low x (by simpa using hx)); (· exact .inl hx))).ext hKs
  obtain ⟨b2, off2, pa, pn, pc, rfl, hcc, hpn, hpp⟩ := rtrees_get hvs hgt
  subst hpn
  refine cw_skip <| cw_seq <| cw_block <| zr <| zm <| zi tSl61 tI73 rfl rfl (by omega) <| zL tAgg73 tI73 rfl (hcc.ext hKs) (rfl) <| ow_allocA tI73 rfl rfl rfl ?_
  intro w43 hk43 hb8 hz43
  have hK := hK.grow; have hK := hK.ext hk43; have hKs := hKs.grow; have hKs := hKs.ext hk43; have hb3 := hb3.grow; have hb3 := hb3.ext hk43; have hO := hO.alloc hk43 hz43; have hCg := hCg.grow; have hCg := hCg.ext hk43
  refine zA <| ow_storeA tI73 rfl rfl rfl rfl rfl hb8 rfl ?_
  intro w44 hk44 hb8 hz44
  have hK := hK.sto hk44 (by simp <;> omega); have hKs := hKs.sto hk44 (by simp <;> omega); have hb3 := hb3.sto hk44 (by simp <;> omega); have hO := hO.sto hk44 (by simp <;> omega); have hCg := hCg.sto hk44 (by simp <;> omega)
  refine ow_nil <| cw_seq <| zr <| zm <| zm <| ow_sindex tStr9 rfl rfl rfl rfl (get_getD (by omega)) <| ow_neq rfl rfl rfl rfl rfl <| ow_nil <| zc rfl (fun h2 => ?_) (fun h2 => ?_)
  have h115 : σ.getD i 0 ≠ 115 := fun hh => h2 (by rw [hh]; rfl)
  refine cw_exit <| x_hit rfl <| cw_region <| ow_add rfl rfl rfl rfl rfl (wrap_i64 _ (by omega) (by omega)) <| zm <| ow_nil ?_
  exact ⟨(i + 1, a3, cc, g, xs), ⟨rfl, rfl, rfl, rfl, rfl, rfl, rfl⟩, ⟨hK, hKs, hb3, hO.weak (fun x hx => by simp at hx ⊢; rcases hx with h | h <;> simp [h]), haveK_skip hxs h115, by dsimp only; omega, hxok, by dsimp only; omega⟩, by dsimp only; omega⟩
  have h115 : σ.getD i 0 = 115 := UInt8.toNat_inj.1 (by have h40 : (115 : UInt8).toNat = 115 := rfl; rw [h40]; omega)
  have hrg : isReg (nth t.parts (i + 1)).atom = true := by { have := hpart i (by omega); rw [h115] at this; rw [← pI_s]; exact this }
  refine cw_skip <| zr <| zm <| zf tF73_0 rfl <| zl tOne9 rfl (hb8.at rfl) <| ow_call rfl rfl (reg_ret (nth t.parts (i + 1)).atom hrg _ b st opens _ w44 hCg) ?_
  rintro v45 w45 ⟨hv45, hk45⟩
  have hs45 := hk45.size
  have hK := hK.ext hk45; have hKs := hKs.ext hk45; have hb3 := hb3.ext hk45; have hO := hO.ext hk45
  obtain ⟨x, xv, rfl, hx, hxe⟩ := hv45
  obtain ⟨xa, xn, xc, rfl, hxn, _⟩ := rtree_cases hx
  subst hxn
  refine zm <| zx (i := 0) rfl rfl <| zx (i := 1) rfl rfl <| ow_allocA tI73 rfl rfl rfl ?_
  intro w46 hk46 hb9 hz46
  have hK := hK.grow; have hK := hK.ext hk46; have hKs := hKs.grow; have hKs := hKs.ext hk46; have hb3 := hb3.grow; have hb3 := hb3.ext hk46; have hO := hO.alloc hk46 hz46; have hx := hx.grow; have hx := hx.ext hk46
  refine ow_storeA tI73 rfl rfl rfl rfl rfl hb9 rfl ?_
  intro w47 hk47 hb9 hz47
  have hK := hK.sto hk47 (by simp <;> omega); have hKs := hKs.sto hk47 (by simp <;> omega); have hb3 := hb3.sto hk47 (by simp <;> omega); have hO := hO.sto hk47 (by simp <;> omega); have hx := hx.sto hk47 (by simp <;> omega)
  refine zA <| ow_nil <| cw_seq <| zr <| zm <| ow_not rfl rfl rfl <| ow_nil <| zc rfl (fun h3 => ?_) (fun h3 => ?_)
  have hq := step_none (p := ps) (st := st) (o := opens) hi (by rw [← hσ]; exact haveK_none (haveK_no hxs h115 (by cases ho : regT st (nth t.parts (i + 1)).atom with | none => rfl | some y => rw [ho] at h3; simp at h3)) _ (by omega))
  refine zr <| zA <| ow_nil <| cw_ret ?_
  exact ⟨_, rfl, do_fail hq hK.any⟩
  have hrx : regT st (nth t.parts (i + 1)).atom = some x := by { cases ho : regT st (nth t.parts (i + 1)).atom with | none => rw [ho] at h3; simp at h3 | some y => rw [hxe y ho] }
  refine cw_skip <| cw_region <| zm <| zL tAgg73 tI73 rfl hb9.all rfl <| ow_buildSlice1 tSl61 tI73 rfl rfl rfl rfl rfl rfl rfl rfl ?_
  intro w48 hk48 hb49 hz48
  have hK := hK.ext hk48; have hKs := hKs.ext hk48; have hb3 := hb3.ext hk48; have hO := hO.ext hk48; have hx := hx.ext hk48
  refine ow_growT tSl61 tI73 rfl rfl rfl rfl rfl rfl hO hb49 (RTree.weak hx (by intro x hx; simp at hx ⊢; rcases hx with h | h | h | h | h <;> simp [h])) (by omega) ?_
  intro a4 cc4 g4 w49 hO3 hk49
  have hK := Keep.older (by omega) hO.low hK hk49
  have hKs := hO.since hKs hk49
  have hb3 := hb3.sto hk49 (hO.sepB (by omega))
  refine zA <| ow_nil <| cw_region <| ow_add rfl rfl rfl rfl rfl (wrap_i64 _ (by omega) (by omega)) <| zm <| ow_nil ?_
  exact ⟨(i + 1, a4, cc4, g4, xs ++ [x]), ⟨rfl, rfl, rfl, rfl, rfl, rfl, rfl⟩, ⟨hK, hKs, hb3, hO3.weak (fun x hx => by simp at hx ⊢; rcases hx with h | h <;> simp [h]), haveK_some hxs h115 hrx, by dsimp only; omega, by intro y hy; rcases List.mem_append.1 hy with h | h; exact hxok y h; simp at h; rw [h]; exact regT_ok hS hrx, by simp; omega⟩, by dsimp only; omega⟩
  have hil : i = σ.length := by omega
  subst hil
  have hC := hC0.ext hKs
  have hv0 := hv1.ext hKs
  have hpv := hpv1.ext hKs
  have hbl42 := hC.lt
  obtain ⟨_, _, pa1, pc1, he1, hp1⟩ := rtrees_el (rtree_parts hv0) (nth_get (ps := t.parts) (i := 1) (by omega))
  cases he1
  refine cw_exit <| x_hit rfl <| zr <| ow_call rfl rfl (atomF_ret [105] w42) ?_
  rintro v43 w43 ⟨hv43, hk43⟩
  have hs43 := hk43.size
  have hK := hK.ext hk43; have hb3 := hb3.ext hk43; have hO := hO.ext hk43; have hC := hC.ext hk43; have hv0 := hv0.ext hk43; have hpv := hpv.ext hk43; have hp1 := hp1.ext hk43
  obtain rfl := hv43
  refine ow_allocA tI73 rfl rfl rfl ?_
  intro w44 hk44 hb11 hz44
  have hK := hK.grow; have hK := hK.ext hk44; have hb3 := hb3.grow; have hb3 := hb3.ext hk44; have hO := hO.alloc hk44 hz44; have hC := hC.grow; have hC := hC.ext hk44; have hv0 := hv0.grow; have hv0 := hv0.ext hk44; have hpv := hpv.grow; have hpv := hpv.ext hk44; have hp1 := hp1.grow; have hp1 := hp1.ext hk44
  refine ow_storeA tI73 rfl rfl rfl rfl rfl hb11 rfl ?_
  intro w45 hk45 hb11 hz45
  have hK := hK.sto hk45 (by simp <;> omega); have hb3 := hb3.sto hk45 (by simp <;> omega); have hO := hO.sto hk45 (by simp <;> omega); have hC := hC.sto hk45 (by simp <;> omega); have hv0 := hv0.sto hk45 (by simp <;> omega); have hpv := hpv.sto hk45 (by simp <;> omega); have hp1 := hp1.sto hk45 (by simp <;> omega)
  refine ow_nil <| zr <| zf tF73_1 rfl <| zl tOne61 rfl (hb3.at rfl) <| zi (i := 1) tSl61 tI73 rfl rfl (by omega) <| zf tF73_0 rfl <| zl tOne9 rfl (hp1.c 0 _ rfl) <| zA <| ow_nil <| cw_seq <| zr <| zL tAgg73 tI73 rfl hb3.all rfl <| ow_call rfl rfl (headI_ret t hwf _ _ w45 hv0) ?_
  rintro v46 w46 ⟨hv46, hk46⟩
  have hs46 := hk46.size
  have hK := hK.ext hk46; have hb3 := hb3.ext hk46; have hO := hO.ext hk46; have hC := hC.ext hk46; have hv0 := hv0.ext hk46; have hpv := hpv.ext hk46; have hb11 := hb11.ext hk46
  obtain rfl := hv46
  refine ow_nil <| cw_block <| zr <| ow_seql rfl rfl rfl rfl <| zA <| ow_nil <| zc rfl (fun h4 => ?_) (fun h4 => ?_)
  have hh := h4
  refine zr <| zm <| zm <| zL tAgg73 tI73 rfl hb11.all rfl <| ow_call rfl rfl (give_ret (nth t.parts 1).atom hr1 _ b st opens _ w46 hC iT iT_size.1 iT_size.2 _ (rtree_mk (ps := []) rtrees_nil)) ?_
  rintro _ w47 ⟨rfl, hC2, hk2⟩
  refine zA <| ow_nil <| cw_ret ?_
  exact ⟨_, rfl, do_set (step_const hh) (by rw [opens1_no (by rw [hh]; decide)]; exact hC2.weak (fun x hx => List.mem_cons_of_mem _ hx)) (hK.any.trans hk2)⟩
  have hc1 := h4
  refine zr <| ow_seql rfl rfl rfl rfl <| zA <| ow_nil <| zc rfl (fun h5 => ?_) (fun h5 => ?_)
  have hh := h5
  have hs1 : σ = [100, 115] := by rw [hσ]; simp [shapeI, h5]
  rw [hs1] at hxs
  obtain ⟨tx, rfl, hrx⟩ := have_ds hxs
  have hxk := hxok tx (by simp)
  have hxz := fits_size hxk.good hxk.fits
  have hxpl := parts_le tx
  obtain ⟨bh, offh, xa, xc, rfl, hx1⟩ := rtrees_el hO.trees (i := 0) rfl
  refine zr <| zm <| zm <| zm <| zi (i := 0) tSl61 tI73 rfl rfl (by simp) <| zL tAgg73 tI73 rfl (hx1.c) (rfl) <| ow_call rfl rfl (give_ret (nth t.parts 1).atom hr1 _ b st opens _ w46 hC tx (by omega) (by omega) _ (RTree.weak hx1.tree (fun x hx => by simp at hx ⊢; rcases hx with h | h | h <;> simp [h]))) ?_
  rintro _ w47 ⟨rfl, hC2, hk2⟩
  refine zA <| ow_nil <| cw_ret ?_
  exact ⟨_, rfl, do_set (step_mov hh hrx) (by rw [opens1_no (by rw [hh]; decide)]; exact hC2.weak (fun x hx => List.mem_cons_of_mem _ hx)) (hK.any.trans hk2)⟩
  have hc2 := h5
  refine cw_seq <| zr <| ow_seql rfl rfl rfl rfl <| zA <| ow_nil ?_
  refine cw_cut (fun _ : Unit => [(0, .pointer (some ⟨b, 0, none⟩)), (3, .pointer (some ⟨w.heap.size, 0, none⟩)), (6, .slice a3 xs.length cc), (11, .pointer (some ⟨w43.heap.size, 0, none⟩)), (12, str (nth t.parts 1).atom), (59, str (headOf t)), (74, .bool (decide (headOf t = [97, 100, 100]) || decide (headOf t = [115, 117, 98]) || decide (headOf t = [109, 117, 108])))]) (fun _ w' => w' = w46) ?_ ?_
  refine zc rfl (fun h6 => ?_) (fun h6 => ?_)
  refine cw_skip ?_
  exact ⟨(), ⟨rfl, rfl, rfl, rfl, rfl, rfl, congrArg Value.bool (or3_1 h6)⟩, rfl⟩
  have hn1 := h6
  refine zr <| ow_seql rfl rfl rfl rfl <| zA <| ow_nil <| zc rfl (fun h7 => ?_) (fun h7 => ?_)
  refine cw_skip ?_
  exact ⟨(), ⟨rfl, rfl, rfl, rfl, rfl, rfl, congrArg Value.bool (or3_2 hn1 h7)⟩, rfl⟩
  refine cw_region <| ow_seql rfl rfl rfl rfl <| zA <| ow_nil ?_
  exact ⟨(), ⟨rfl, rfl, rfl, rfl, rfl, rfl, congrArg Value.bool (or3_3 hn1 h7)⟩, rfl⟩
  intro gu w47 e47 hI
  obtain rfl := hI
  refine zc rfl (fun h8 => ?_) (fun h8 => ?_)
  have hh := or3_t h8
  have hs1 : σ = [100, 115, 115] := by { rw [hσ]; rcases hh with hh | hh | hh <;> simp [shapeI, hh] }
  rw [hs1] at hxs
  obtain ⟨tx, ty, rfl, hrx, hry⟩ := have_dss hxs
  have hxk := hxok tx (by simp)
  have hyk := hxok ty (by simp)
  have hxz := fits_size hxk.good hxk.fits
  have hyz := fits_size hyk.good hyk.fits
  obtain ⟨bh, offh, xa, xc, rfl, hx1⟩ := rtrees_el hO.trees (i := 0) rfl
  obtain ⟨_, _, ya, yc, he9, hy1⟩ := rtrees_el hO.trees (i := 1) rfl
  cases he9
  have hCw := hC
  have hKw := hK
  refine cw_seq ?_
  have hkept := (kept_kg (b := b) (A := fun ww => Chk (w43.heap.size :: L) ww b 153 st opens (regsFn pv)) (B := fun ww => Chk (w43.heap.size :: L) ww b 153 ((setT st (regN (nth t.parts 1).atom) (some iT)).getD st) opens (regsFn pv)) (fun _ _ h k => h.ext k) (fun _ _ h k => h.ext k))
  refine cw_draw tMixed hkept 18 [78, 79, 80, 81, 82, 83, 84, 85, 86, 87, 88, 89, 90, 91, 92, 93, 94, 95] [78, 79, 80, 81, 82, 83, 84, 85, 86, 87, 88, 89, 90, 91, 92, 93, 94, 95] [[], [0], [1], [], [2, 3], [4], [5], [5, 6], [5, 7], [5], [5, 8, 9], [5, 10], [11], [12], [12], [12], [12, 13, 14, 15], [12, 16]] [fun v _ => v = (.slice (some ⟨bh, offh, none⟩) [tx, ty].length cc), fun v _ => v = (.pointer (some ⟨bh, offh + 0 * 2, none⟩)), fun v _ => v = (.agg #[str tx.atom, .slice xa tx.parts.length xc]), fun v _ => v = (.agg #[str [105], .slice none 0 0]), fun v _ => v = (.bool (eqT tx iT)), fun v _ => v = (.bool (eqT tx iT)), fun v _ => (eqT tx iT) = true → v = (.slice (some ⟨bh, offh, none⟩) [tx, ty].length cc), fun v _ => (eqT tx iT) = true → v = (.pointer (some ⟨bh, offh + 1 * 2, none⟩)), fun v _ => (eqT tx iT) = true → v = (.agg #[str ty.atom, .slice ya ty.parts.length yc]), fun v _ => (eqT tx iT) = true → v = (.agg #[str [105], .slice none 0 0]), fun v _ => (eqT tx iT) = true → v = (.bool (eqT ty iT)), fun v _ => v = (.bool (eqT tx iT && eqT ty iT)), fun v _ => v = (.bool (eqT tx iT && eqT ty iT)), fun v _ => (eqT tx iT && eqT ty iT) = true → v = (.pointer (some ⟨b, 0, none⟩)), fun v _ => (eqT tx iT && eqT ty iT) = true → v = (str (nth t.parts 1).atom), fun v _ => (eqT tx iT && eqT ty iT) = true → v = (.agg #[str [105], .slice none 0 0]), fun (v : Value) (ww : World) => (eqT tx iT && eqT ty iT) = true → v = (.bool (setT st (regN (nth t.parts 1).atom) (some iT)).isSome) ∧ (fun ww => Chk (w43.heap.size :: L) ww b 153 ((setT st (regN (nth t.parts 1).atom) (some iT)).getD st) opens (regsFn pv)) ww, fun v _ => v = (.bool ((eqT tx iT && eqT ty iT) && (setT st (regN (nth t.parts 1).atom) (some iT)).isSome))] (by decide) (stab_eq (stab_eq (stab_eq (stab_eq (stab_eq (stab_eq (stab_if (stab_if (stab_if (stab_if (stab_if (stab_eq (stab_eq (stab_if (stab_if (stab_if (stab_gen (fun v w w' h k hc => ⟨(h hc).1, k.2.2 (h hc).2⟩) (stab_eq trivial)))))))))))))))))) (fun wd hkd => ?_) ?_
  refine certs_cons ?_ ?_
  intro x vs w48 e hk48 hd he
  replace hk48 := hkept.trans hkd hk48
  replace he : e = over (havoc _ x _) [] := he
  subst he
  refine zm <| ow_nil ?_
  exact ⟨hkept.refl _, rfl, by first | exact agree_put | exact agree_refl⟩
  refine certs_cons ?_ ?_
  intro x vs w48 e hk48 hd he
  have d0 : vs 0 = (.slice (some ⟨bh, offh, none⟩) [tx, ty].length cc) := hd
  replace hk48 := hkept.trans hkd hk48
  replace he : e = over (havoc _ x _) [(78, vs 0)] := he
  rw [d0] at he
  subst he
  refine zi (i := 0) tSl61 tI73 rfl rfl (by simp) <| ow_nil ?_
  exact ⟨hkept.refl _, rfl, by first | exact agree_put | exact agree_refl⟩
  refine certs_cons ?_ ?_
  intro x vs w48 e hk48 hd he
  have d1 : vs 1 = (.pointer (some ⟨bh, offh + 0 * 2, none⟩)) := hd
  replace hk48 := hkept.trans hkd hk48
  have hx1 := hx1.sto hk48.1 (by simp <;> omega)
  replace he : e = over (havoc _ x _) [(79, vs 1)] := he
  rw [d1] at he
  subst he
  refine zL tAgg73 tI73 rfl (hx1.c) (rfl) <| ow_nil ?_
  exact ⟨hkept.refl _, rfl, by first | exact agree_put | exact agree_refl⟩
  refine certs_cons ?_ ?_
  intro x vs w48 e hk48 hd he
  replace hk48 := hkept.trans hkd hk48
  have hb11 := hb11.sto hk48.1 (by simp <;> omega)
  replace he : e = over (havoc _ x _) [] := he
  subst he
  refine zL tAgg73 tI73 rfl hb11.all rfl <| ow_nil ?_
  exact ⟨hkept.refl _, rfl, by first | exact agree_put | exact agree_refl⟩
  refine certs_cons ?_ ?_
  intro x vs w48 e hk48 hd he
  obtain ⟨d2, d3⟩ : (vs 2 = (.agg #[str tx.atom, .slice xa tx.parts.length xc])) ∧ (vs 3 = (.agg #[str [105], .slice none 0 0])) := hd
  replace hk48 := hkept.trans hkd hk48
  have hx1 := hx1.sto hk48.1 (by simp <;> omega)
  replace he : e = over (havoc _ x _) [(80, vs 2), (81, vs 3)] := he
  rw [d2, d3] at he
  subst he
  refine ow_call rfl rfl (same_ret tx.size tx (Nat.le_refl _) (by omega) iT _ _ _ _ w48 hx1.tree (rtree_mk (L := []) (ps := []) rtrees_nil)) ?_
  rintro v49 w49 ⟨hv49, hk49⟩
  have hs49 := hk49.size
  obtain rfl := hv49
  refine ow_nil ?_
  exact ⟨hkept.of hk49, rfl, by first | exact agree_put | exact agree_refl⟩
  refine certs_cons ?_ ?_
  intro x vs w48 e hk48 hd he
  have d4 : vs 4 = (.bool (eqT tx iT)) := hd
  replace hk48 := hkept.trans hkd hk48
  replace he : e = over (havoc _ x _) [(82, vs 4)] := he
  rw [d4] at he
  subst he
  refine zm <| ow_nil ?_
  exact ⟨hkept.refl _, rfl, by first | exact agree_put | exact agree_refl⟩
  refine certs_cons ?_ ?_
  intro x vs w48 e hk48 hd he
  have d5 : vs 5 = (.bool (eqT tx iT)) := hd
  replace hk48 := hkept.trans hkd hk48
  rcases Bool.eq_false_or_eq_true (eqT tx iT) with hg | hg
  rw [hg] at d5
  replace he : e = over (havoc _ x _) [(83, vs 5)] := he
  rw [d5] at he
  subst he
  refine zm <| ow_nil ?_
  exact ⟨hkept.refl _, (show (eqT tx iT) = true → _ = ((.slice (some ⟨bh, offh, none⟩) [tx, ty].length cc) : Value) from fun _ => rfl), by first | exact agree_put | exact agree_refl⟩
  rw [hg] at d5
  replace he : e = over (havoc _ x _) [(83, vs 5)] := he
  rw [d5] at he
  subst he
  refine zs <| ow_nil ?_
  exact ⟨hkept.refl _, (show (eqT tx iT) = true → _ = (_ : Value) from fun hh => nomatch hg.symm.trans hh), by first | exact agree_put | exact agree_refl⟩
  refine certs_cons ?_ ?_
  intro x vs w48 e hk48 hd he
  obtain ⟨d5, d6⟩ : (vs 5 = (.bool (eqT tx iT))) ∧ ((eqT tx iT) = true → vs 6 = (.slice (some ⟨bh, offh, none⟩) [tx, ty].length cc)) := hd
  replace hk48 := hkept.trans hkd hk48
  rcases Bool.eq_false_or_eq_true (eqT tx iT) with hg | hg
  rw [hg] at d5
  replace d6 := d6 hg
  replace he : e = over (havoc _ x _) [(83, vs 5), (84, vs 6)] := he
  rw [d5, d6] at he
  subst he
  refine zi (i := 1) tSl61 tI73 rfl rfl (by simp) <| ow_nil ?_
  exact ⟨hkept.refl _, (show (eqT tx iT) = true → _ = ((.pointer (some ⟨bh, offh + 1 * 2, none⟩)) : Value) from fun _ => rfl), by first | exact agree_put | exact agree_refl⟩
  rw [hg] at d5
  replace he : e = over (havoc _ x _) [(83, vs 5), (84, vs 6)] := he
  rw [d5] at he
  subst he
  refine zs <| ow_nil ?_
  exact ⟨hkept.refl _, (show (eqT tx iT) = true → _ = (_ : Value) from fun hh => nomatch hg.symm.trans hh), by first | exact agree_put | exact agree_refl⟩
  refine certs_cons ?_ ?_
  intro x vs w48 e hk48 hd he
  obtain ⟨d5, d7⟩ : (vs 5 = (.bool (eqT tx iT))) ∧ ((eqT tx iT) = true → vs 7 = (.pointer (some ⟨bh, offh + 1 * 2, none⟩))) := hd
  replace hk48 := hkept.trans hkd hk48
  have hy1 := hy1.sto hk48.1 (by simp <;> omega)
  rcases Bool.eq_false_or_eq_true (eqT tx iT) with hg | hg
  rw [hg] at d5
  replace d7 := d7 hg
  replace he : e = over (havoc _ x _) [(83, vs 5), (85, vs 7)] := he
  rw [d5, d7] at he
  subst he
  refine zL tAgg73 tI73 rfl (hy1.c) (rfl) <| ow_nil ?_
  exact ⟨hkept.refl _, (show (eqT tx iT) = true → _ = ((.agg #[str ty.atom, .slice ya ty.parts.length yc]) : Value) from fun _ => rfl), by first | exact agree_put | exact agree_refl⟩
  rw [hg] at d5
  replace he : e = over (havoc _ x _) [(83, vs 5), (85, vs 7)] := he
  rw [d5] at he
  subst he
  refine zs <| ow_nil ?_
  exact ⟨hkept.refl _, (show (eqT tx iT) = true → _ = (_ : Value) from fun hh => nomatch hg.symm.trans hh), by first | exact agree_put | exact agree_refl⟩
  refine certs_cons ?_ ?_
  intro x vs w48 e hk48 hd he
  have d5 : vs 5 = (.bool (eqT tx iT)) := hd
  replace hk48 := hkept.trans hkd hk48
  have hb11 := hb11.sto hk48.1 (by simp <;> omega)
  rcases Bool.eq_false_or_eq_true (eqT tx iT) with hg | hg
  rw [hg] at d5
  replace he : e = over (havoc _ x _) [(83, vs 5)] := he
  rw [d5] at he
  subst he
  refine zL tAgg73 tI73 rfl hb11.all rfl <| ow_nil ?_
  exact ⟨hkept.refl _, (show (eqT tx iT) = true → _ = ((.agg #[str [105], .slice none 0 0]) : Value) from fun _ => rfl), by first | exact agree_put | exact agree_refl⟩
  rw [hg] at d5
  replace he : e = over (havoc _ x _) [(83, vs 5)] := he
  rw [d5] at he
  subst he
  refine zs <| ow_nil ?_
  exact ⟨hkept.refl _, (show (eqT tx iT) = true → _ = (_ : Value) from fun hh => nomatch hg.symm.trans hh), by first | exact agree_put | exact agree_refl⟩
  refine certs_cons ?_ ?_
  intro x vs w48 e hk48 hd he
  obtain ⟨d5, d8, d9⟩ : (vs 5 = (.bool (eqT tx iT))) ∧ ((eqT tx iT) = true → vs 8 = (.agg #[str ty.atom, .slice ya ty.parts.length yc])) ∧ ((eqT tx iT) = true → vs 9 = (.agg #[str [105], .slice none 0 0])) := hd
  replace hk48 := hkept.trans hkd hk48
  have hy1 := hy1.sto hk48.1 (by simp <;> omega)
  rcases Bool.eq_false_or_eq_true (eqT tx iT) with hg | hg
  rw [hg] at d5
  replace d8 := d8 hg
  replace d9 := d9 hg
  replace he : e = over (havoc _ x _) [(83, vs 5), (86, vs 8), (87, vs 9)] := he
  rw [d5, d8, d9] at he
  subst he
  refine ow_call rfl rfl (same_ret ty.size ty (Nat.le_refl _) (by omega) iT _ _ _ _ w48 hy1.tree (rtree_mk (L := []) (ps := []) rtrees_nil)) ?_
  rintro v49 w49 ⟨hv49, hk49⟩
  have hs49 := hk49.size
  obtain rfl := hv49
  refine ow_nil ?_
  exact ⟨hkept.of hk49, (show (eqT tx iT) = true → _ = ((.bool (eqT ty iT)) : Value) from fun _ => rfl), by first | exact agree_put | exact agree_refl⟩
  rw [hg] at d5
  replace he : e = over (havoc _ x _) [(83, vs 5), (86, vs 8), (87, vs 9)] := he
  rw [d5] at he
  subst he
  refine zs <| ow_nil ?_
  exact ⟨hkept.refl _, (show (eqT tx iT) = true → _ = (_ : Value) from fun hh => nomatch hg.symm.trans hh), by first | exact agree_put | exact agree_refl⟩
  refine certs_cons ?_ ?_
  intro x vs w48 e hk48 hd he
  obtain ⟨d5, d10⟩ : (vs 5 = (.bool (eqT tx iT))) ∧ ((eqT tx iT) = true → vs 10 = (.bool (eqT ty iT))) := hd
  replace hk48 := hkept.trans hkd hk48
  rcases Bool.eq_false_or_eq_true (eqT tx iT) with hg | hg
  rw [hg] at d5
  replace d10 := d10 hg
  replace he : e = over (havoc _ x _) [(83, vs 5), (88, vs 10)] := he
  rw [d5, d10] at he
  subst he
  refine zp rfl <| ow_nil ?_
  exact ⟨hkept.refl _, by first | rfl | (rw [hg]; rfl), by first | exact agree_put | exact agree_refl⟩
  rw [hg] at d5
  replace he : e = over (havoc _ x _) [(83, vs 5), (88, vs 10)] := he
  rw [d5] at he
  subst he
  refine zp rfl <| ow_nil ?_
  exact ⟨hkept.refl _, by first | rfl | (rw [hg]; rfl), by first | exact agree_put | exact agree_refl⟩
  refine certs_cons ?_ ?_
  intro x vs w48 e hk48 hd he
  have d11 : vs 11 = (.bool (eqT tx iT && eqT ty iT)) := hd
  replace hk48 := hkept.trans hkd hk48
  replace he : e = over (havoc _ x _) [(89, vs 11)] := he
  rw [d11] at he
  subst he
  refine zm <| ow_nil ?_
  exact ⟨hkept.refl _, rfl, by first | exact agree_put | exact agree_refl⟩
  refine certs_cons ?_ ?_
  intro x vs w48 e hk48 hd he
  have d12 : vs 12 = (.bool (eqT tx iT && eqT ty iT)) := hd
  replace hk48 := hkept.trans hkd hk48
  rcases Bool.eq_false_or_eq_true (eqT tx iT && eqT ty iT) with hg | hg
  rw [hg] at d12
  replace he : e = over (havoc _ x _) [(90, vs 12)] := he
  rw [d12] at he
  subst he
  refine zm <| ow_nil ?_
  exact ⟨hkept.refl _, (show (eqT tx iT && eqT ty iT) = true → _ = ((.pointer (some ⟨b, 0, none⟩)) : Value) from fun _ => rfl), by first | exact agree_put | exact agree_refl⟩
  rw [hg] at d12
  replace he : e = over (havoc _ x _) [(90, vs 12)] := he
  rw [d12] at he
  subst he
  refine zs <| ow_nil ?_
  exact ⟨hkept.refl _, (show (eqT tx iT && eqT ty iT) = true → _ = (_ : Value) from fun hh => nomatch hg.symm.trans hh), by first | exact agree_put | exact agree_refl⟩
  refine certs_cons ?_ ?_
  intro x vs w48 e hk48 hd he
  have d12 : vs 12 = (.bool (eqT tx iT && eqT ty iT)) := hd
  replace hk48 := hkept.trans hkd hk48
  rcases Bool.eq_false_or_eq_true (eqT tx iT && eqT ty iT) with hg | hg
  rw [hg] at d12
  replace he : e = over (havoc _ x _) [(90, vs 12)] := he
  rw [d12] at he
  subst he
  refine zm <| ow_nil ?_
  exact ⟨hkept.refl _, (show (eqT tx iT && eqT ty iT) = true → _ = ((str (nth t.parts 1).atom) : Value) from fun _ => rfl), by first | exact agree_put | exact agree_refl⟩
  rw [hg] at d12
  replace he : e = over (havoc _ x _) [(90, vs 12)] := he
  rw [d12] at he
  subst he
  refine zs <| ow_nil ?_
  exact ⟨hkept.refl _, (show (eqT tx iT && eqT ty iT) = true → _ = (_ : Value) from fun hh => nomatch hg.symm.trans hh), by first | exact agree_put | exact agree_refl⟩
  refine certs_cons ?_ ?_
  intro x vs w48 e hk48 hd he
  have d12 : vs 12 = (.bool (eqT tx iT && eqT ty iT)) := hd
  replace hk48 := hkept.trans hkd hk48
  have hb11 := hb11.sto hk48.1 (by simp <;> omega)
  rcases Bool.eq_false_or_eq_true (eqT tx iT && eqT ty iT) with hg | hg
  rw [hg] at d12
  replace he : e = over (havoc _ x _) [(90, vs 12)] := he
  rw [d12] at he
  subst he
  refine zL tAgg73 tI73 rfl hb11.all rfl <| ow_nil ?_
  exact ⟨hkept.refl _, (show (eqT tx iT && eqT ty iT) = true → _ = ((.agg #[str [105], .slice none 0 0]) : Value) from fun _ => rfl), by first | exact agree_put | exact agree_refl⟩
  rw [hg] at d12
  replace he : e = over (havoc _ x _) [(90, vs 12)] := he
  rw [d12] at he
  subst he
  refine zs <| ow_nil ?_
  exact ⟨hkept.refl _, (show (eqT tx iT && eqT ty iT) = true → _ = (_ : Value) from fun hh => nomatch hg.symm.trans hh), by first | exact agree_put | exact agree_refl⟩
  refine certs_cons ?_ ?_
  intro x vs w48 e hk48 hd he
  obtain ⟨d12, d13, d14, d15⟩ : (vs 12 = (.bool (eqT tx iT && eqT ty iT))) ∧ ((eqT tx iT && eqT ty iT) = true → vs 13 = (.pointer (some ⟨b, 0, none⟩))) ∧ ((eqT tx iT && eqT ty iT) = true → vs 14 = (str (nth t.parts 1).atom)) ∧ ((eqT tx iT && eqT ty iT) = true → vs 15 = (.agg #[str [105], .slice none 0 0])) := hd
  replace hk48 := hkept.trans hkd hk48
  rcases Bool.eq_false_or_eq_true (eqT tx iT && eqT ty iT) with hg | hg
  rw [hg] at d12
  replace d13 := d13 hg
  replace d14 := d14 hg
  replace d15 := d15 hg
  replace he : e = over (havoc _ x _) [(90, vs 12), (91, vs 13), (92, vs 14), (93, vs 15)] := he
  rw [d12, d13, d14, d15] at he
  subst he
  have hAB := hk48.2.1 (.inl hCw)
  refine ow_call rfl rfl (give2_ret (nth t.parts 1).atom hr1 _ b st opens _ w48 iT hAB iT_size.1 iT_size.2 _ (rtree_mk (ps := []) rtrees_nil)) ?_
  rintro _ w49 ⟨rfl, hB9, hkb9⟩
  refine ow_nil ?_
  exact ⟨⟨hkb9, fun _ => .inr hB9, fun _ => hB9⟩, fun _ => ⟨rfl, hB9⟩, by first | exact agree_put | exact agree_refl⟩
  rw [hg] at d12
  replace he : e = over (havoc _ x _) [(90, vs 12), (91, vs 13), (92, vs 14), (93, vs 15)] := he
  rw [d12] at he
  subst he
  refine zs <| ow_nil ?_
  exact ⟨hkept.refl _, (fun hh => nomatch hg.symm.trans hh), by first | exact agree_put | exact agree_refl⟩
  refine certs_cons ?_ ?_
  intro x vs w48 e hk48 hd he
  obtain ⟨d12, d16⟩ : (vs 12 = (.bool (eqT tx iT && eqT ty iT))) ∧ ((fun (v : Value) (ww : World) => (eqT tx iT && eqT ty iT) = true → v = (.bool (setT st (regN (nth t.parts 1).atom) (some iT)).isSome) ∧ (fun ww => Chk (w43.heap.size :: L) ww b 153 ((setT st (regN (nth t.parts 1).atom) (some iT)).getD st) opens (regsFn pv)) ww) (vs 16) w48) := hd
  replace hk48 := hkept.trans hkd hk48
  rcases Bool.eq_false_or_eq_true (eqT tx iT && eqT ty iT) with hg | hg
  rw [hg] at d12
  replace d16 := d16 hg
  replace he : e = over (havoc _ x _) [(90, vs 12), (94, vs 16)] := he
  rw [d12, d16.1] at he
  subst he
  refine zp rfl <| ow_nil ?_
  exact ⟨hkept.refl _, by first | rfl | (rw [hg]; rfl), by first | exact agree_put | exact agree_refl⟩
  rw [hg] at d12
  replace he : e = over (havoc _ x _) [(90, vs 12), (94, vs 16)] := he
  rw [d12] at he
  subst he
  refine zp rfl <| ow_nil ?_
  exact ⟨hkept.refl _, by first | rfl | (rw [hg]; rfl), by first | exact agree_put | exact agree_refl⟩
  exact trivial
  intro x vs w87 hk87 hdraw
  have d0 : vs 0 = (.slice (some ⟨bh, offh, none⟩) [tx, ty].length cc) := hdraw 0 (by decide)
  have d1 : vs 1 = (.pointer (some ⟨bh, offh + 0 * 2, none⟩)) := hdraw 1 (by decide)
  have d2 : vs 2 = (.agg #[str tx.atom, .slice xa tx.parts.length xc]) := hdraw 2 (by decide)
  have d3 : vs 3 = (.agg #[str [105], .slice none 0 0]) := hdraw 3 (by decide)
  have d4 : vs 4 = (.bool (eqT tx iT)) := hdraw 4 (by decide)
  have d5 : vs 5 = (.bool (eqT tx iT)) := hdraw 5 (by decide)
  have d6 : (eqT tx iT) = true → vs 6 = (.slice (some ⟨bh, offh, none⟩) [tx, ty].length cc) := hdraw 6 (by decide)
  have d7 : (eqT tx iT) = true → vs 7 = (.pointer (some ⟨bh, offh + 1 * 2, none⟩)) := hdraw 7 (by decide)
  have d8 : (eqT tx iT) = true → vs 8 = (.agg #[str ty.atom, .slice ya ty.parts.length yc]) := hdraw 8 (by decide)
  have d9 : (eqT tx iT) = true → vs 9 = (.agg #[str [105], .slice none 0 0]) := hdraw 9 (by decide)
  have d10 : (eqT tx iT) = true → vs 10 = (.bool (eqT ty iT)) := hdraw 10 (by decide)
  have d11 : vs 11 = (.bool (eqT tx iT && eqT ty iT)) := hdraw 11 (by decide)
  have d12 : vs 12 = (.bool (eqT tx iT && eqT ty iT)) := hdraw 12 (by decide)
  have d13 : (eqT tx iT && eqT ty iT) = true → vs 13 = (.pointer (some ⟨b, 0, none⟩)) := hdraw 13 (by decide)
  have d14 : (eqT tx iT && eqT ty iT) = true → vs 14 = (str (nth t.parts 1).atom) := hdraw 14 (by decide)
  have d15 : (eqT tx iT && eqT ty iT) = true → vs 15 = (.agg #[str [105], .slice none 0 0]) := hdraw 15 (by decide)
  have d16 : (fun (v : Value) (ww : World) => (eqT tx iT && eqT ty iT) = true → v = (.bool (setT st (regN (nth t.parts 1).atom) (some iT)).isSome) ∧ (fun ww => Chk (w43.heap.size :: L) ww b 153 ((setT st (regN (nth t.parts 1).atom) (some iT)).getD st) opens (regsFn pv)) ww) (vs 16) w87 := hdraw 16 (by decide)
  have d17 : vs 17 = (.bool ((eqT tx iT && eqT ty iT) && (setT st (regN (nth t.parts 1).atom) (some iT)).isSome)) := hdraw 17 (by decide)
  change OW _ _ _ _ _ (over (havoc _ x _) [(78, vs 0), (79, vs 1), (80, vs 2), (81, vs 3), (82, vs 4), (83, vs 5), (84, vs 6), (85, vs 7), (86, vs 8), (87, vs 9), (88, vs 10), (89, vs 11), (90, vs 12), (91, vs 13), (92, vs 14), (93, vs 15), (94, vs 16), (95, vs 17)]) _
  rw [d0, d1, d2, d3, d4, d5, d11, d12, d17]
  have hkd9 := hk87
  refine zA <| ow_nil <| cw_ret ?_
  exact ⟨_, rfl, do_if (by rw [step_add hh hrx hry, eqT_same hxk.good ok_iT.good, eqT_same hyk.good ok_iT.good]) (fun hc => by rw [opens1_no (by rcases hh with hh | hh | hh <;> rw [hh] <;> decide)]; exact ((d16 hc).2).weak (fun x hx => List.mem_cons_of_mem _ hx)) (hKw.any.trans hkd9.1)⟩
  have hc3 := or3_f h8
  refine zr <| ow_seql rfl rfl rfl rfl <| zA <| ow_nil <| zc rfl (fun h9 => ?_) (fun h9 => ?_)
  have hh := h9
  have hs1 : σ = [100] ++ List.replicate (t.parts.length - 2) 115 := by rw [hσ]; simp [shapeI, h9]
  have hm2 : t.parts.length = (t.parts.length - 2) + 2 := (by rw [hs1] at hlen; simp at hlen; omega)
  have hall : allT st (t.parts.drop 2) = some xs := (by have h1 := haveK_new (st := st) hm2 (t.parts.length - 2) (Nat.le_refl _); rw [← hs1, show t.parts.length - 2 + 1 = σ.length from by rw [hs1]; simp [Nat.add_comm], hxs, List.take_of_length_le (by simp)] at h1; exact h1.symm)
  obtain ⟨hlg, hls, hll⟩ := list_size (c := 116) (by decide) hxok (by omega)
  refine zr <| zm <| zm <| zm <| ow_call rfl rfl (headed_ret [116] xs (by omega) _ (w43.heap.size :: b :: L) w47 hO.trees hO.lim) ?_
  rintro v48 w48 ⟨hv48, hk48⟩
  have hs48 := hk48.size
  have hK := hK.ext hk48; have hC := hC.ext hk48
  have hT9 := HeadedPost.tree hv48
  obtain ⟨fa, fn, fc, rfl, _, _⟩ := rtree_cases hT9
  refine ow_call rfl rfl (give_ret (nth t.parts 1).atom hr1 _ b st opens _ w48 hC (listT [116] xs) (hls) (hll) _ (RTree.weak hT9 (fun x hx => by simp at hx ⊢; rcases hx with h | h | h <;> simp [h]))) ?_
  rintro _ w49 ⟨rfl, hC2, hk2⟩
  refine zA <| ow_nil <| cw_ret ?_
  exact ⟨_, rfl, do_set (step_new hh hall) (by rw [opens1_no (by rw [hh]; decide)]; exact hC2.weak (fun x hx => List.mem_cons_of_mem _ hx)) (hK.any.trans hk2)⟩
  have hc4 := h9
  refine zr <| ow_seql rfl rfl rfl rfl <| zA <| ow_nil <| zc rfl (fun h10 => ?_) (fun h10 => ?_)
  have hh := h10
  have hs1 : σ = [100, 115, 109] := by rw [hσ]; simp [shapeI, h10]
  rw [hs1] at hxs
  obtain ⟨tx, rfl, hrx⟩ := have_dsm hxs
  have hxk := hxok tx (by simp)
  have hxz := fits_size hxk.good hxk.fits
  have hxpl := parts_le tx
  obtain ⟨bh, offh, xa, xc, rfl, hx1⟩ := rtrees_el hO.trees (i := 0) rfl
  have hl4 : t.parts.length = 4 := by rw [hlen, hs1]; rfl
  have hpm := hpart 2 (by rw [hs1]; decide)
  rw [hs1] at hpm
  have hpm2 : ((numeral (nth t.parts 3).atom).isSome && decide (0 ≤ (numeral (nth t.parts 3).atom).getD 0)) = true := (by rw [← pI_m]; exact hpm)
  obtain ⟨z, hz, hnz⟩ := num_cases hpm2
  obtain ⟨_, _, pa3, pc3, he3, hp3⟩ := rtrees_el (rtree_parts hv0) (nth_get (ps := t.parts) (i := 3) (by omega))
  cases he3
  refine zr <| zf tF73_1 rfl <| zl tOne61 rfl (hb3.at rfl) <| zi (i := 3) tSl61 tI73 rfl rfl (by omega) <| zf tF73_0 rfl <| zl tOne9 rfl (hp3.c 0 _ rfl) <| ow_call rfl rfl (number_ret (nth t.parts 3).atom hz w47) ?_
  rintro v48 w48 ⟨hv48, hk48⟩
  have hs48 := hk48.size
  have hK := hK.ext hk48; have hC := hC.ext hk48; have hx1 := hx1.ext hk48
  obtain rfl := hv48
  refine zA <| ow_nil <| zr <| zm <| zi (i := 0) tSl61 tI73 rfl rfl (by simp) <| zL tAgg73 tI73 rfl (hx1.c) (rfl) <| ow_call rfl rfl (headI_ret tx hxk.good.wf _ _ w48 hx1.tree) ?_
  rintro v49 w49 ⟨hv49, hk49⟩
  have hs49 := hk49.size
  have hK := hK.ext hk49; have hC := hC.ext hk49; have hx1 := hx1.ext hk49
  obtain rfl := hv49
  refine ow_seql rfl rfl rfl rfl <| zm ?_
  apply ow_and 9 116 125 [116, 117, 118, 119, 120, 121, 122, 123, 124, 125] (fun w' => w49 = w') rfl
  intro h11
  replace h11 := tst h11
  skip
  refine zm <| zm <| zi (i := 0) tSl61 tI73 rfl rfl (by simp) <| zf tF73_1 rfl <| zl tOne61 rfl (hx1.c 1 _ rfl) <| ow_len tSl61 rfl rfl rfl <| ow_sub rfl rfl rfl rfl rfl (wrap_i64 _ (by omega) (by omega)) <| ow_lss rfl rfl rfl rfl rfl <| zp rfl <| ow_nil ?_
  exact ⟨by repeat (first | with_reducible exact agree_refl | refine agree_upd rfl ?_ | refine agree_hav rfl ?_), rfl, rfl⟩
  intro h11
  replace h11 := tst h11
  refine zs <| zs <| zs <| zs <| zs <| zs <| zs <| zs <| zp rfl <| ow_nil ?_
  exact ⟨by repeat (first | with_reducible exact agree_refl | refine agree_upd rfl ?_ | refine agree_hav rfl ?_), rfl, rfl⟩
  rintro xx _ rfl
  refine zm <| ow_split (t := 126) rfl (fun h12 => ?_) (fun h12 => ?_)
  replace h12 := tst h12
  have hq := h12
  simp only [Bool.and_eq_true, decide_eq_true_eq] at hq
  obtain ⟨_, _, qa, qc, he8, hy1⟩ := rtrees_el (rtree_parts hx1.tree) (nth_get (ps := tx.parts) (i := z + 1) (by omega))
  cases he8
  refine zm <| zm <| zm <| zi (i := 0) tSl61 tI73 rfl rfl (by simp) <| zf tF73_1 rfl <| zl tOne61 rfl (hx1.c 1 _ rfl) <| zm <| ow_add rfl rfl rfl rfl rfl (show IntKind.i64.wrap ((z : Int) + 1) = ((z + 1 : Nat) : Int) from by rw [wrap_i64 _ (by omega) (by omega)]; omega) <| zi tSl61 tI73 rfl rfl (by omega) <| zL tAgg73 tI73 rfl (hy1.c) (rfl) ?_
  refine ow_call rfl rfl (give_ret (nth t.parts 1).atom hr1 _ b st opens _ w49 hC (nth tx.parts (z + 1)) (by have := (hxk.nth (i := z + 1) (by omega)).size; omega) (by have h9 := hxk.nth (i := z + 1) (by omega); have := fits_size h9.good h9.fits; omega) _ (RTree.weak hy1.tree (fun x hx => by simp at hx ⊢; rcases hx with h | h | h <;> simp [h]))) ?_
  rintro _ w50 ⟨rfl, hC2, hk2⟩
  refine zp rfl <| zA <| ow_nil <| cw_ret ?_
  exact ⟨_, rfl, do_set (by rw [step_get hh hrx, hnz, if_pos ⟨hq.1, by omega⟩, show ((z : Int) + 1).toNat = z + 1 from by omega]) (by rw [opens1_no (by rw [hh]; decide)]; exact hC2.weak (fun x hx => List.mem_cons_of_mem _ hx)) (hK.any.trans hk2)⟩
  replace h12 := tst h12
  have hq := h12
  refine zs <| zs <| zs <| zs <| zs <| zs <| zs <| zs <| zs <| zs <| zs <| zp rfl <| zA <| ow_nil <| cw_ret ?_
  exact ⟨_, rfl, do_fail (by rw [step_get hh hrx, hnz, if_neg (fun hc => by rw [decide_eq_true hc.1, decide_eq_true (show (z : Int) < (tx.parts.length : Int) - 1 by have := hc.2; omega)] at hq; cases hq)]) hK.any⟩
  have hc5 := h10
  refine zr <| ow_seql rfl rfl rfl rfl <| zA <| ow_nil <| zc rfl (fun h13 => ?_) (fun h13 => ?_)
  have hh := h13
  have hs1 : σ = [100, 108] := by rw [hσ]; simp [shapeI, h13]
  have hl3 : t.parts.length = 3 := (by rw [hlen, hs1]; rfl)
  obtain ⟨_, _, pa2, pc2, he2, hp2⟩ := rtrees_el (rtree_parts hv0) (nth_get (ps := t.parts) (i := 2) (by omega))
  cases he2
  refine cw_seq ?_
  refine cw_draw tMixed kept_new 14 [142, 143, 144, 145, 146, 147, 148, 149, 150, 151, 141, 152, 153, 14] [142, 143, 144, 145, 146, 147, 148, 149, 150, 151, 141, 152, 153, 14] [[], [0], [1], [2], [], [4], [5], [6], [7], [3, 8], [9], [10], [10], [11]] [fun v _ => v = (.pointer (some ⟨b, 0, none⟩)), fun v _ => v = (.pointer (some ⟨b, 0, none⟩)), fun v _ => v = (.pointer (some ⟨b, 0 + 121, none⟩)), fun v _ => v = (regsFn pv), fun v _ => v = (.pointer (some ⟨w.heap.size, 0 + 1, none⟩)), fun v _ => v = (.slice (some ⟨b0, off0, none⟩) t.parts.length c), fun v _ => v = (.pointer (some ⟨b0, off0 + 2 * 2, none⟩)), fun v _ => v = (.pointer (some ⟨b0, off0 + 2 * 2 + 0, none⟩)), fun v _ => v = (str (nth t.parts 2).atom), fun (v : Value) (ww : World) => ∃ a c, v = .tuple #[.slice a ((regsOf ps (nth t.parts 2).atom).getD []).length c, .bool (regsOf ps (nth t.parts 2).atom).isSome] ∧ RTrees (w43.heap.size :: b :: L) ww (.slice a ((regsOf ps (nth t.parts 2).atom).getD []).length c) ((regsOf ps (nth t.parts 2).atom).getD []), fun (v : Value) (ww : World) => ∃ a c, v = .tuple #[.slice a ((regsOf ps (nth t.parts 2).atom).getD []).length c, .bool (regsOf ps (nth t.parts 2).atom).isSome] ∧ RTrees (w43.heap.size :: b :: L) ww (.slice a ((regsOf ps (nth t.parts 2).atom).getD []).length c) ((regsOf ps (nth t.parts 2).atom).getD []), fun (v : Value) (ww : World) => ∃ a c, v = .slice a ((regsOf ps (nth t.parts 2).atom).getD []).length c ∧ RTrees (w43.heap.size :: b :: L) ww (.slice a ((regsOf ps (nth t.parts 2).atom).getD []).length c) ((regsOf ps (nth t.parts 2).atom).getD []), fun v _ => v = (.bool (regsOf ps (nth t.parts 2).atom).isSome), fun (v : Value) (ww : World) => ∃ a c, v = .slice a ((regsOf ps (nth t.parts 2).atom).getD []).length c ∧ RTrees (w43.heap.size :: b :: L) ww (.slice a ((regsOf ps (nth t.parts 2).atom).getD []).length c) ((regsOf ps (nth t.parts 2).atom).getD [])] (by decide) (stab_eq (stab_eq (stab_eq (stab_eq (stab_eq (stab_eq (stab_eq (stab_eq (stab_eq (stab_gen (fun v w w' ⟨a, c, e, h⟩ k => ⟨a, c, e, RTrees.ext h k⟩) (stab_gen (fun v w w' ⟨a, c, e, h⟩ k => ⟨a, c, e, RTrees.ext h k⟩) (stab_gen (fun v w w' ⟨a, c, e, h⟩ k => ⟨a, c, e, RTrees.ext h k⟩) (stab_eq (stab_gen (fun v w w' ⟨a, c, e, h⟩ k => ⟨a, c, e, RTrees.ext h k⟩) trivial)))))))))))))) (fun wd hkd => ?_) ?_
  refine certs_cons ?_ ?_
  intro x vs w48 e hk48 hd he
  replace hk48 := kept_new.trans hkd hk48
  replace he : e = over (havoc _ x _) [] := he
  subst he
  refine zm <| ow_nil ?_
  exact ⟨kept_new.refl _, rfl, by first | exact agree_put | exact agree_refl⟩
  refine certs_cons ?_ ?_
  intro x vs w48 e hk48 hd he
  have d0 : vs 0 = (.pointer (some ⟨b, 0, none⟩)) := hd
  replace hk48 := kept_new.trans hkd hk48
  replace he : e = over (havoc _ x _) [(142, vs 0)] := he
  rw [d0] at he
  subst he
  refine ow_nilCheck rfl rfl rfl <| ow_nil ?_
  exact ⟨kept_new.refl _, rfl, by first | exact agree_put | exact agree_refl⟩
  refine certs_cons ?_ ?_
  intro x vs w48 e hk48 hd he
  have d1 : vs 1 = (.pointer (some ⟨b, 0, none⟩)) := hd
  replace hk48 := kept_new.trans hkd hk48
  replace he : e = over (havoc _ x _) [(143, vs 1)] := he
  rw [d1] at he
  subst he
  refine zf tF153_3 rfl <| ow_nil ?_
  exact ⟨kept_new.refl _, rfl, by first | exact agree_put | exact agree_refl⟩
  refine certs_cons ?_ ?_
  intro x vs w48 e hk48 hd he
  have d2 : vs 2 = (.pointer (some ⟨b, 0 + 121, none⟩)) := hd
  replace hk48 := kept_new.trans hkd hk48
  have hC := hC.ext hk48
  replace he : e = over (havoc _ x _) [(144, vs 2)] := he
  rw [d2] at he
  subst he
  refine zl tOne133 rfl (hC.fnAt 0 _ rfl) <| ow_nil ?_
  exact ⟨kept_new.refl _, rfl, by first | exact agree_put | exact agree_refl⟩
  refine certs_cons ?_ ?_
  intro x vs w48 e hk48 hd he
  replace hk48 := kept_new.trans hkd hk48
  replace he : e = over (havoc _ x _) [] := he
  subst he
  refine zf tF73_1 rfl <| ow_nil ?_
  exact ⟨kept_new.refl _, rfl, by first | exact agree_put | exact agree_refl⟩
  refine certs_cons ?_ ?_
  intro x vs w48 e hk48 hd he
  have d4 : vs 4 = (.pointer (some ⟨w.heap.size, 0 + 1, none⟩)) := hd
  replace hk48 := kept_new.trans hkd hk48
  have hb3 := hb3.ext hk48
  replace he : e = over (havoc _ x _) [(146, vs 4)] := he
  rw [d4] at he
  subst he
  refine zl tOne61 rfl (hb3.at rfl) <| ow_nil ?_
  exact ⟨kept_new.refl _, rfl, by first | exact agree_put | exact agree_refl⟩
  refine certs_cons ?_ ?_
  intro x vs w48 e hk48 hd he
  have d5 : vs 5 = (.slice (some ⟨b0, off0, none⟩) t.parts.length c) := hd
  replace hk48 := kept_new.trans hkd hk48
  replace he : e = over (havoc _ x _) [(147, vs 5)] := he
  rw [d5] at he
  subst he
  refine zi (i := 2) tSl61 tI73 rfl rfl (by omega) <| ow_nil ?_
  exact ⟨kept_new.refl _, rfl, by first | exact agree_put | exact agree_refl⟩
  refine certs_cons ?_ ?_
  intro x vs w48 e hk48 hd he
  have d6 : vs 6 = (.pointer (some ⟨b0, off0 + 2 * 2, none⟩)) := hd
  replace hk48 := kept_new.trans hkd hk48
  replace he : e = over (havoc _ x _) [(148, vs 6)] := he
  rw [d6] at he
  subst he
  refine zf tF73_0 rfl <| ow_nil ?_
  exact ⟨kept_new.refl _, rfl, by first | exact agree_put | exact agree_refl⟩
  refine certs_cons ?_ ?_
  intro x vs w48 e hk48 hd he
  have d7 : vs 7 = (.pointer (some ⟨b0, off0 + 2 * 2 + 0, none⟩)) := hd
  replace hk48 := kept_new.trans hkd hk48
  have hp2 := hp2.ext hk48
  replace he : e = over (havoc _ x _) [(149, vs 7)] := he
  rw [d7] at he
  subst he
  refine zl tOne9 rfl (hp2.c 0 _ rfl) <| ow_nil ?_
  exact ⟨kept_new.refl _, rfl, by first | exact agree_put | exact agree_refl⟩
  refine certs_cons ?_ ?_
  intro x vs w48 e hk48 hd he
  obtain ⟨d3, d8⟩ : (vs 3 = (regsFn pv)) ∧ (vs 8 = (str (nth t.parts 2).atom)) := hd
  replace hk48 := kept_new.trans hkd hk48
  have hpv := hpv.ext hk48
  replace he : e = over (havoc _ x _) [(145, vs 3), (150, vs 8)] := he
  rw [d3, d8] at he
  subst he
  refine ow_callvF rfl rfl rfl (regs_ret ps (by have := hP.1; omega) (nth t.parts 2).atom pv (w43.heap.size :: b :: L) w48 hpv) ?_
  rintro v49 w49 ⟨hv49, hk49⟩
  have hs49 := hk49.size
  obtain ⟨ra, rc, rfl, hrr⟩ := hv49
  refine ow_nil ?_
  exact ⟨kept_new.of hk49, ⟨_, _, rfl, hrr⟩, by first | exact agree_put | exact agree_refl⟩
  refine certs_cons ?_ ?_
  intro x vs w48 e hk48 hd he
  have d9 : (fun (v : Value) (ww : World) => ∃ a c, v = .tuple #[.slice a ((regsOf ps (nth t.parts 2).atom).getD []).length c, .bool (regsOf ps (nth t.parts 2).atom).isSome] ∧ RTrees (w43.heap.size :: b :: L) ww (.slice a ((regsOf ps (nth t.parts 2).atom).getD []).length c) ((regsOf ps (nth t.parts 2).atom).getD [])) (vs 9) w48 := hd
  replace hk48 := kept_new.trans hkd hk48
  replace he : e = over (havoc _ x _) [(151, vs 9)] := he
  obtain ⟨ra, rc, e9, hrr⟩ := d9
  rw [e9] at he
  subst he
  refine zm <| ow_nil ?_
  exact ⟨kept_new.refl _, ⟨_, _, rfl, hrr⟩, by first | exact agree_put | exact agree_refl⟩
  refine certs_cons ?_ ?_
  intro x vs w48 e hk48 hd he
  have d10 : (fun (v : Value) (ww : World) => ∃ a c, v = .tuple #[.slice a ((regsOf ps (nth t.parts 2).atom).getD []).length c, .bool (regsOf ps (nth t.parts 2).atom).isSome] ∧ RTrees (w43.heap.size :: b :: L) ww (.slice a ((regsOf ps (nth t.parts 2).atom).getD []).length c) ((regsOf ps (nth t.parts 2).atom).getD [])) (vs 10) w48 := hd
  replace hk48 := kept_new.trans hkd hk48
  replace he : e = over (havoc _ x _) [(141, vs 10)] := he
  obtain ⟨ra, rc, e9, hrr⟩ := d10
  rw [e9] at he
  subst he
  refine zx (i := 0) rfl rfl <| ow_nil ?_
  exact ⟨kept_new.refl _, ⟨_, _, rfl, hrr⟩, by first | exact agree_put | exact agree_refl⟩
  refine certs_cons ?_ ?_
  intro x vs w48 e hk48 hd he
  have d10 : (fun (v : Value) (ww : World) => ∃ a c, v = .tuple #[.slice a ((regsOf ps (nth t.parts 2).atom).getD []).length c, .bool (regsOf ps (nth t.parts 2).atom).isSome] ∧ RTrees (w43.heap.size :: b :: L) ww (.slice a ((regsOf ps (nth t.parts 2).atom).getD []).length c) ((regsOf ps (nth t.parts 2).atom).getD [])) (vs 10) w48 := hd
  replace hk48 := kept_new.trans hkd hk48
  replace he : e = over (havoc _ x _) [(141, vs 10)] := he
  obtain ⟨ra, rc, e9, hrr⟩ := d10
  rw [e9] at he
  subst he
  refine zx (i := 1) rfl rfl <| ow_nil ?_
  exact ⟨kept_new.refl _, rfl, by first | exact agree_put | exact agree_refl⟩
  refine certs_cons ?_ ?_
  intro x vs w48 e hk48 hd he
  have d11 : (fun (v : Value) (ww : World) => ∃ a c, v = .slice a ((regsOf ps (nth t.parts 2).atom).getD []).length c ∧ RTrees (w43.heap.size :: b :: L) ww (.slice a ((regsOf ps (nth t.parts 2).atom).getD []).length c) ((regsOf ps (nth t.parts 2).atom).getD [])) (vs 11) w48 := hd
  replace hk48 := kept_new.trans hkd hk48
  replace he : e = over (havoc _ x _) [(152, vs 11)] := he
  obtain ⟨ra, rc, e9, hrr⟩ := d11
  rw [e9] at he
  subst he
  refine zA <| ow_nil ?_
  exact ⟨kept_new.refl _, ⟨_, _, rfl, hrr⟩, by first | exact agree_put | exact agree_refl⟩
  exact trivial
  intro x vs w87 hk87 hdraw
  have d0 : vs 0 = (.pointer (some ⟨b, 0, none⟩)) := hdraw 0 (by decide)
  have d1 : vs 1 = (.pointer (some ⟨b, 0, none⟩)) := hdraw 1 (by decide)
  have d2 : vs 2 = (.pointer (some ⟨b, 0 + 121, none⟩)) := hdraw 2 (by decide)
  have d3 : vs 3 = (regsFn pv) := hdraw 3 (by decide)
  have d4 : vs 4 = (.pointer (some ⟨w.heap.size, 0 + 1, none⟩)) := hdraw 4 (by decide)
  have d5 : vs 5 = (.slice (some ⟨b0, off0, none⟩) t.parts.length c) := hdraw 5 (by decide)
  have d6 : vs 6 = (.pointer (some ⟨b0, off0 + 2 * 2, none⟩)) := hdraw 6 (by decide)
  have d7 : vs 7 = (.pointer (some ⟨b0, off0 + 2 * 2 + 0, none⟩)) := hdraw 7 (by decide)
  have d8 : vs 8 = (str (nth t.parts 2).atom) := hdraw 8 (by decide)
  have d9 : (fun (v : Value) (ww : World) => ∃ a c, v = .tuple #[.slice a ((regsOf ps (nth t.parts 2).atom).getD []).length c, .bool (regsOf ps (nth t.parts 2).atom).isSome] ∧ RTrees (w43.heap.size :: b :: L) ww (.slice a ((regsOf ps (nth t.parts 2).atom).getD []).length c) ((regsOf ps (nth t.parts 2).atom).getD [])) (vs 9) w87 := hdraw 9 (by decide)
  have d10 : (fun (v : Value) (ww : World) => ∃ a c, v = .tuple #[.slice a ((regsOf ps (nth t.parts 2).atom).getD []).length c, .bool (regsOf ps (nth t.parts 2).atom).isSome] ∧ RTrees (w43.heap.size :: b :: L) ww (.slice a ((regsOf ps (nth t.parts 2).atom).getD []).length c) ((regsOf ps (nth t.parts 2).atom).getD [])) (vs 10) w87 := hdraw 10 (by decide)
  have d11 : (fun (v : Value) (ww : World) => ∃ a c, v = .slice a ((regsOf ps (nth t.parts 2).atom).getD []).length c ∧ RTrees (w43.heap.size :: b :: L) ww (.slice a ((regsOf ps (nth t.parts 2).atom).getD []).length c) ((regsOf ps (nth t.parts 2).atom).getD [])) (vs 11) w87 := hdraw 11 (by decide)
  have d12 : vs 12 = (.bool (regsOf ps (nth t.parts 2).atom).isSome) := hdraw 12 (by decide)
  have d13 : (fun (v : Value) (ww : World) => ∃ a c, v = .slice a ((regsOf ps (nth t.parts 2).atom).getD []).length c ∧ RTrees (w43.heap.size :: b :: L) ww (.slice a ((regsOf ps (nth t.parts 2).atom).getD []).length c) ((regsOf ps (nth t.parts 2).atom).getD [])) (vs 13) w87 := hdraw 13 (by decide)
  have hK := hK.ext hk87; have hO := hO.ext hk87; have hC := hC.ext hk87
  change OW _ _ _ _ _ (over (havoc _ x _) [(142, vs 0), (143, vs 1), (144, vs 2), (145, vs 3), (146, vs 4), (147, vs 5), (148, vs 6), (149, vs 7), (150, vs 8), (151, vs 9), (141, vs 10), (152, vs 11), (153, vs 12), (14, vs 13)]) _
  rw [d0, d1, d2, d3, d4, d5, d6, d7, d8, d12]
  obtain ⟨ra, rc, e9, hrr⟩ := d13
  rw [e9]
  refine zA <| ow_nil <| zr <| zm <| zm <| ow_split (t := 155) rfl (fun h14 => ?_) (fun h14 => ?_)
  replace h14 := tst h14
  obtain ⟨need, hneed⟩ := Option.isSome_iff_exists.1 h14
  have hgd : (regsOf ps (nth t.parts 2).atom).getD [] = need := (by rw [hneed]; rfl)
  rw [hgd] at hrr ⊢
  obtain ⟨hnl, hnok⟩ := regsOf_ok hP hneed
  obtain ⟨hlg, hls, hll⟩ := list_size (c := 99) (by decide) hnok (by omega)
  refine zm <| zm <| zm <| ow_call rfl rfl (headed_ret [99] need (by omega) _ (w43.heap.size :: b :: L) w87 hrr hO.lim) ?_
  rintro v88 w88 ⟨hv88, hk88⟩
  have hs88 := hk88.size
  have hK := hK.ext hk88; have hC := hC.ext hk88
  have hT9 := HeadedPost.tree hv88
  obtain ⟨fa, fn, fc, rfl, _, _⟩ := rtree_cases hT9
  refine ow_call rfl rfl (give_ret (nth t.parts 1).atom hr1 _ b st opens _ w88 hC (listT [99] need) (hls) (hll) _ (RTree.weak hT9 (fun x hx => by simp at hx ⊢; rcases hx with h | h | h <;> simp [h]))) ?_
  rintro _ w89 ⟨rfl, hC2, hk2⟩
  refine zp rfl <| zA <| ow_nil <| cw_ret ?_
  exact ⟨_, rfl, do_set (step_lab hh hneed) (by rw [opens1_no (by rw [hh]; decide)]; exact hC2.weak (fun x hx => List.mem_cons_of_mem _ hx)) (hK.any.trans hk2)⟩
  replace h14 := tst h14
  have hq : regsOf ps (nth t.parts 2).atom = none := Option.not_isSome_iff_eq_none.1 (by rw [h14]; decide)
  refine zs <| zs <| zs <| zs <| zs <| zp rfl <| zA <| ow_nil <| cw_ret ?_
  exact ⟨_, rfl, do_fail (step_lab hh hq) hK.any⟩
  have hc6 := h13
  refine zr <| ow_seql rfl rfl rfl rfl <| zA <| ow_nil <| zc rfl (fun h15 => ?_) (fun h15 => ?_)
  have hh := h15
  have hs1 : σ = [100, 115, 69, 87] := by rw [hσ]; simp [shapeI, h15]
  have hpm := hpart 2 (by rw [hs1]; decide)
  rw [hs1] at hpm hxs
  obtain ⟨tx, rfl, hrx⟩ := have_dsEW hxs
  have hxk := hxok tx (by simp)
  have hxz := fits_size hxk.good hxk.fits
  have hxpl := parts_le tx
  obtain ⟨bh, offh, xa, xc, rfl, hx1⟩ := rtrees_el hO.trees (i := 0) rfl
  have hl5 : t.parts.length = 5 := (by rw [hlen, hs1]; rfl)
  obtain ⟨_, _, pa3, pc3, he3, hp3⟩ := rtrees_el (rtree_parts hv0) (nth_get (ps := t.parts) (i := 3) (by omega))
  cases he3
  obtain ⟨_, _, pa4, pc4, he4, hp4⟩ := rtrees_el (rtree_parts hv0) (nth_get (ps := t.parts) (i := 4) (by omega))
  cases he4
  have hpe : ((decide ((nth t.parts 3).parts.length = 2) && decide (headOf (nth t.parts 3) = [101])) && targetB false (nth t.parts 3)) = true := (by rw [← pI_E]; exact hpm)
  rw [Bool.and_eq_true, Bool.and_eq_true, decide_eq_true_eq] at hpe
  have he2 : (nth t.parts 3).parts.length = 2 := hpe.1.1
  obtain ⟨qb, qoff, qa, qc, he8, hy1⟩ := rtrees_el (rtree_parts hp3.tree) (nth_get (ps := (nth t.parts 3).parts) (i := 1) (by omega))
  cases he8
  have hf3 := hfine.nth (i := 3) hgood (by omega)
  have hf4 := hfine.nth (i := 4) hgood (by omega)
  have hg3 := hgood.nth (i := 3) (by omega)
  have hg4 := hgood.nth (i := 4) (by omega)
  have hf31 := hf3.nth (i := 1) hg3 (by omega)
  have hg31 := hg3.nth (i := 1) (by omega)
  refine zr <| zf tF73_1 rfl <| zl tOne61 rfl (hb3.at rfl) <| zi (i := 3) tSl61 tI73 rfl rfl (by omega) <| zL tAgg73 tI73 rfl (hp3.c) (rfl) <| ow_allocA tI73 rfl rfl rfl ?_
  intro w48 hk48 hb16 hz48
  have hK := hK.grow; have hK := hK.ext hk48; have hb3 := hb3.grow; have hb3 := hb3.ext hk48; have hO := hO.alloc hk48 hz48; have hC := hC.grow; have hC := hC.ext hk48; have hp3 := hp3.grow; have hp3 := hp3.ext hk48; have hp4 := hp4.grow; have hp4 := hp4.ext hk48; have hy1 := hy1.grow; have hy1 := hy1.ext hk48; have hx1 := hx1.grow; have hx1 := hx1.ext hk48
  refine ow_storeA tI73 rfl rfl rfl rfl rfl hb16 rfl ?_
  intro w49 hk49 hb16 hz49
  have hK := hK.sto hk49 (by simp <;> omega); have hb3 := hb3.sto hk49 (by simp <;> omega); have hO := hO.sto hk49 (by simp <;> omega); have hC := hC.sto hk49 (by simp <;> omega); have hp3 := hp3.sto hk49 (by simp <;> omega); have hp4 := hp4.sto hk49 (by simp <;> omega); have hy1 := hy1.sto hk49 (by simp <;> omega); have hx1 := hx1.sto hk49 (by simp <;> omega)
  refine ow_nil <| cw_seq ?_
  have hCw := hC
  have hKw := hK
  have hkept := (kept_kg (b := b) (A := fun ww => Chk (w47.heap.size :: w43.heap.size :: L) ww b 153 st opens (regsFn pv)) (B := fun ww => Chk (w47.heap.size :: w43.heap.size :: L) ww b 153 ((setT st (regN (nth t.parts 1).atom) (some (nth t.parts 3))).getD st) opens (regsFn pv)) (fun _ _ h k => h.ext k) (fun _ _ h k => h.ext k))
  refine cw_draw tMixed hkept 19 [168, 169, 170, 171, 172, 173, 174, 175, 176, 177, 178, 179, 180, 181, 182, 183, 184, 185, 186] [168, 169, 170, 171, 172, 173, 174, 175, 176, 177, 178, 179, 180, 181, 182, 183, 184, 185, 186] [[], [0], [1], [2], [], [4], [5], [6], [3, 7], [], [9], [10], [8, 11], [12], [13], [13], [13], [13, 14, 15, 16], [13, 17]] [fun v _ => v = (.pointer (some ⟨w47.heap.size, 0 + 1, none⟩)), fun v _ => v = (.slice (some ⟨qb, qoff, none⟩) (nth t.parts 3).parts.length pc3), fun v _ => v = (.pointer (some ⟨qb, qoff + 1 * 2, none⟩)), fun v _ => v = (.agg #[str (nth (nth t.parts 3).parts 1).atom, .slice qa (nth (nth t.parts 3).parts 1).parts.length qc]), fun v _ => v = (.pointer (some ⟨w.heap.size, 0 + 1, none⟩)), fun v _ => v = (.slice (some ⟨b0, off0, none⟩) t.parts.length c), fun v _ => v = (.pointer (some ⟨b0, off0 + 4 * 2, none⟩)), fun v _ => v = (.agg #[str (nth t.parts 4).atom, .slice pa4 (nth t.parts 4).parts.length pc4]), fun (v : Value) (ww : World) => RTree [b] ww v (putT (nth t.parts 4) (nth (nth t.parts 3).parts 1)), fun v _ => v = (.slice (some ⟨bh, offh, none⟩) [tx].length cc), fun v _ => v = (.pointer (some ⟨bh, offh + 0 * 2, none⟩)), fun v _ => v = (.agg #[str tx.atom, .slice xa tx.parts.length xc]), fun v _ => v = (.bool (eqT (putT (nth t.parts 4) (nth (nth t.parts 3).parts 1)) tx)), fun v _ => v = (.bool (eqT (putT (nth t.parts 4) (nth (nth t.parts 3).parts 1)) tx)), fun v _ => (eqT (putT (nth t.parts 4) (nth (nth t.parts 3).parts 1)) tx) = true → v = (.pointer (some ⟨b, 0, none⟩)), fun v _ => (eqT (putT (nth t.parts 4) (nth (nth t.parts 3).parts 1)) tx) = true → v = (str (nth t.parts 1).atom), fun v _ => (eqT (putT (nth t.parts 4) (nth (nth t.parts 3).parts 1)) tx) = true → v = (.agg #[str (nth t.parts 3).atom, .slice (some ⟨qb, qoff, none⟩) (nth t.parts 3).parts.length pc3]), fun (v : Value) (ww : World) => (eqT (putT (nth t.parts 4) (nth (nth t.parts 3).parts 1)) tx) = true → v = (.bool (setT st (regN (nth t.parts 1).atom) (some (nth t.parts 3))).isSome) ∧ (fun ww => Chk (w47.heap.size :: w43.heap.size :: L) ww b 153 ((setT st (regN (nth t.parts 1).atom) (some (nth t.parts 3))).getD st) opens (regsFn pv)) ww, fun v _ => v = (.bool (eqT (putT (nth t.parts 4) (nth (nth t.parts 3).parts 1)) tx && (setT st (regN (nth t.parts 1).atom) (some (nth t.parts 3))).isSome))] (by decide) (stab_eq (stab_eq (stab_eq (stab_eq (stab_eq (stab_eq (stab_eq (stab_eq (stab_gen (fun v w w' h k => RepA.keep h k.1) (stab_eq (stab_eq (stab_eq (stab_eq (stab_eq (stab_if (stab_if (stab_if (stab_gen (fun v w w' h k hc => ⟨(h hc).1, k.2.2 (h hc).2⟩) (stab_eq trivial))))))))))))))))))) (fun wd hkd => ?_) ?_
  refine certs_cons ?_ ?_
  intro x vs w50 e hk50 hd he
  replace hk50 := hkept.trans hkd hk50
  replace he : e = over (havoc _ x _) [] := he
  subst he
  refine zf tF73_1 rfl <| ow_nil ?_
  exact ⟨hkept.refl _, rfl, by first | exact agree_put | exact agree_refl⟩
  refine certs_cons ?_ ?_
  intro x vs w50 e hk50 hd he
  have d0 : vs 0 = (.pointer (some ⟨w47.heap.size, 0 + 1, none⟩)) := hd
  replace hk50 := hkept.trans hkd hk50
  have hb16 := hb16.sto hk50.1 (by simp <;> omega)
  replace he : e = over (havoc _ x _) [(168, vs 0)] := he
  rw [d0] at he
  subst he
  refine zl tOne61 rfl (hb16.at rfl) <| ow_nil ?_
  exact ⟨hkept.refl _, rfl, by first | exact agree_put | exact agree_refl⟩
  refine certs_cons ?_ ?_
  intro x vs w50 e hk50 hd he
  have d1 : vs 1 = (.slice (some ⟨qb, qoff, none⟩) (nth t.parts 3).parts.length pc3) := hd
  replace hk50 := hkept.trans hkd hk50
  replace he : e = over (havoc _ x _) [(169, vs 1)] := he
  rw [d1] at he
  subst he
  refine zi (i := 1) tSl61 tI73 rfl rfl (by omega) <| ow_nil ?_
  exact ⟨hkept.refl _, rfl, by first | exact agree_put | exact agree_refl⟩
  refine certs_cons ?_ ?_
  intro x vs w50 e hk50 hd he
  have d2 : vs 2 = (.pointer (some ⟨qb, qoff + 1 * 2, none⟩)) := hd
  replace hk50 := hkept.trans hkd hk50
  have hy1 := hy1.sto hk50.1 (by simp <;> omega)
  replace he : e = over (havoc _ x _) [(170, vs 2)] := he
  rw [d2] at he
  subst he
  refine zL tAgg73 tI73 rfl (hy1.c) (rfl) <| ow_nil ?_
  exact ⟨hkept.refl _, rfl, by first | exact agree_put | exact agree_refl⟩
  refine certs_cons ?_ ?_
  intro x vs w50 e hk50 hd he
  replace hk50 := hkept.trans hkd hk50
  replace he : e = over (havoc _ x _) [] := he
  subst he
  refine zf tF73_1 rfl <| ow_nil ?_
  exact ⟨hkept.refl _, rfl, by first | exact agree_put | exact agree_refl⟩
  refine certs_cons ?_ ?_
  intro x vs w50 e hk50 hd he
  have d4 : vs 4 = (.pointer (some ⟨w.heap.size, 0 + 1, none⟩)) := hd
  replace hk50 := hkept.trans hkd hk50
  have hb3 := hb3.sto hk50.1 (by simp <;> omega)
  replace he : e = over (havoc _ x _) [(172, vs 4)] := he
  rw [d4] at he
  subst he
  refine zl tOne61 rfl (hb3.at rfl) <| ow_nil ?_
  exact ⟨hkept.refl _, rfl, by first | exact agree_put | exact agree_refl⟩
  refine certs_cons ?_ ?_
  intro x vs w50 e hk50 hd he
  have d5 : vs 5 = (.slice (some ⟨b0, off0, none⟩) t.parts.length c) := hd
  replace hk50 := hkept.trans hkd hk50
  replace he : e = over (havoc _ x _) [(173, vs 5)] := he
  rw [d5] at he
  subst he
  refine zi (i := 4) tSl61 tI73 rfl rfl (by omega) <| ow_nil ?_
  exact ⟨hkept.refl _, rfl, by first | exact agree_put | exact agree_refl⟩
  refine certs_cons ?_ ?_
  intro x vs w50 e hk50 hd he
  have d6 : vs 6 = (.pointer (some ⟨b0, off0 + 4 * 2, none⟩)) := hd
  replace hk50 := hkept.trans hkd hk50
  have hp4 := hp4.sto hk50.1 (by simp <;> omega)
  replace he : e = over (havoc _ x _) [(174, vs 6)] := he
  rw [d6] at he
  subst he
  refine zL tAgg73 tI73 rfl (hp4.c) (rfl) <| ow_nil ?_
  exact ⟨hkept.refl _, rfl, by first | exact agree_put | exact agree_refl⟩
  refine certs_cons ?_ ?_
  intro x vs w50 e hk50 hd he
  obtain ⟨d3, d7⟩ : (vs 3 = (.agg #[str (nth (nth t.parts 3).parts 1).atom, .slice qa (nth (nth t.parts 3).parts 1).parts.length qc])) ∧ (vs 7 = (.agg #[str (nth t.parts 4).atom, .slice pa4 (nth t.parts 4).parts.length pc4])) := hd
  replace hk50 := hkept.trans hkd hk50
  have hO := hO.sto hk50.1 (by simp <;> omega); have hp4 := hp4.sto hk50.1 (by simp <;> omega); have hy1 := hy1.sto hk50.1 (by simp <;> omega)
  replace he : e = over (havoc _ x _) [(171, vs 3), (175, vs 7)] := he
  rw [d3, d7] at he
  subst he
  refine ow_call rfl rfl (opened_ret (nth t.parts 4) (nth (nth t.parts 3).parts 1).size _ (Nat.le_refl _) (by have := hf31.size; omega) hg31.wf _ _ [b] w50 (RTree.weak hy1.tree (by intro x hx; simp at hx; subst hx; simp)) (RTree.weak hp4.tree (by intro x hx; simp at hx; subst hx; simp)) (by intro x hx; have := hO.bsz; simp at hx; omega)) ?_
  rintro v51 w51 ⟨hv51, hk51⟩
  have hs51 := hk51.size
  have hq9 := hv51
  refine ow_nil ?_
  exact ⟨hkept.of hk51, hq9, by first | exact agree_put | exact agree_refl⟩
  refine certs_cons ?_ ?_
  intro x vs w50 e hk50 hd he
  replace hk50 := hkept.trans hkd hk50
  replace he : e = over (havoc _ x _) [] := he
  subst he
  refine zm <| ow_nil ?_
  exact ⟨hkept.refl _, rfl, by first | exact agree_put | exact agree_refl⟩
  refine certs_cons ?_ ?_
  intro x vs w50 e hk50 hd he
  have d9 : vs 9 = (.slice (some ⟨bh, offh, none⟩) [tx].length cc) := hd
  replace hk50 := hkept.trans hkd hk50
  replace he : e = over (havoc _ x _) [(177, vs 9)] := he
  rw [d9] at he
  subst he
  refine zi (i := 0) tSl61 tI73 rfl rfl (by simp) <| ow_nil ?_
  exact ⟨hkept.refl _, rfl, by first | exact agree_put | exact agree_refl⟩
  refine certs_cons ?_ ?_
  intro x vs w50 e hk50 hd he
  have d10 : vs 10 = (.pointer (some ⟨bh, offh + 0 * 2, none⟩)) := hd
  replace hk50 := hkept.trans hkd hk50
  have hx1 := hx1.sto hk50.1 (by simp <;> omega)
  replace he : e = over (havoc _ x _) [(178, vs 10)] := he
  rw [d10] at he
  subst he
  refine zL tAgg73 tI73 rfl (hx1.c) (rfl) <| ow_nil ?_
  exact ⟨hkept.refl _, rfl, by first | exact agree_put | exact agree_refl⟩
  refine certs_cons ?_ ?_
  intro x vs w50 e hk50 hd he
  obtain ⟨d8, d11⟩ : ((fun (v : Value) (ww : World) => RTree [b] ww v (putT (nth t.parts 4) (nth (nth t.parts 3).parts 1))) (vs 8) w50) ∧ (vs 11 = (.agg #[str tx.atom, .slice xa tx.parts.length xc])) := hd
  replace hk50 := hkept.trans hkd hk50
  have hx1 := hx1.sto hk50.1 (by simp <;> omega)
  replace he : e = over (havoc _ x _) [(176, vs 8), (179, vs 11)] := he
  rw [d11] at he
  subst he
  refine ow_call rfl rfl (same_ret (putT (nth t.parts 4) (nth (nth t.parts 3).parts 1)).size _ (Nat.le_refl _) (by have h1 := put_size (nth t.parts 4) hg31; have h2 := Nat.mul_le_mul hf31.size hf4.size; omega) tx _ _ _ _ w50 d8 hx1.tree) ?_
  rintro v51 w51 ⟨hv51, hk51⟩
  have hs51 := hk51.size
  obtain rfl := hv51
  refine ow_nil ?_
  exact ⟨hkept.of hk51, rfl, by first | exact agree_put | exact agree_refl⟩
  refine certs_cons ?_ ?_
  intro x vs w50 e hk50 hd he
  have d12 : vs 12 = (.bool (eqT (putT (nth t.parts 4) (nth (nth t.parts 3).parts 1)) tx)) := hd
  replace hk50 := hkept.trans hkd hk50
  replace he : e = over (havoc _ x _) [(180, vs 12)] := he
  rw [d12] at he
  subst he
  refine zm <| ow_nil ?_
  exact ⟨hkept.refl _, rfl, by first | exact agree_put | exact agree_refl⟩
  refine certs_cons ?_ ?_
  intro x vs w50 e hk50 hd he
  have d13 : vs 13 = (.bool (eqT (putT (nth t.parts 4) (nth (nth t.parts 3).parts 1)) tx)) := hd
  replace hk50 := hkept.trans hkd hk50
  rcases Bool.eq_false_or_eq_true (eqT (putT (nth t.parts 4) (nth (nth t.parts 3).parts 1)) tx) with hg | hg
  rw [hg] at d13
  replace he : e = over (havoc _ x _) [(181, vs 13)] := he
  rw [d13] at he
  subst he
  refine zm <| ow_nil ?_
  exact ⟨hkept.refl _, (show (eqT (putT (nth t.parts 4) (nth (nth t.parts 3).parts 1)) tx) = true → _ = ((.pointer (some ⟨b, 0, none⟩)) : Value) from fun _ => rfl), by first | exact agree_put | exact agree_refl⟩
  rw [hg] at d13
  replace he : e = over (havoc _ x _) [(181, vs 13)] := he
  rw [d13] at he
  subst he
  refine zs <| ow_nil ?_
  exact ⟨hkept.refl _, (show (eqT (putT (nth t.parts 4) (nth (nth t.parts 3).parts 1)) tx) = true → _ = (_ : Value) from fun hh => nomatch hg.symm.trans hh), by first | exact agree_put | exact agree_refl⟩
  refine certs_cons ?_ ?_
  intro x vs w50 e hk50 hd he
  have d13 : vs 13 = (.bool (eqT (putT (nth t.parts 4) (nth (nth t.parts 3).parts 1)) tx)) := hd
  replace hk50 := hkept.trans hkd hk50
  rcases Bool.eq_false_or_eq_true (eqT (putT (nth t.parts 4) (nth (nth t.parts 3).parts 1)) tx) with hg | hg
  rw [hg] at d13
  replace he : e = over (havoc _ x _) [(181, vs 13)] := he
  rw [d13] at he
  subst he
  refine zm <| ow_nil ?_
  exact ⟨hkept.refl _, (show (eqT (putT (nth t.parts 4) (nth (nth t.parts 3).parts 1)) tx) = true → _ = ((str (nth t.parts 1).atom) : Value) from fun _ => rfl), by first | exact agree_put | exact agree_refl⟩
  rw [hg] at d13
  replace he : e = over (havoc _ x _) [(181, vs 13)] := he
  rw [d13] at he
  subst he
  refine zs <| ow_nil ?_
  exact ⟨hkept.refl _, (show (eqT (putT (nth t.parts 4) (nth (nth t.parts 3).parts 1)) tx) = true → _ = (_ : Value) from fun hh => nomatch hg.symm.trans hh), by first | exact agree_put | exact agree_refl⟩
  refine certs_cons ?_ ?_
  intro x vs w50 e hk50 hd he
  have d13 : vs 13 = (.bool (eqT (putT (nth t.parts 4) (nth (nth t.parts 3).parts 1)) tx)) := hd
  replace hk50 := hkept.trans hkd hk50
  have hb16 := hb16.sto hk50.1 (by simp <;> omega)
  rcases Bool.eq_false_or_eq_true (eqT (putT (nth t.parts 4) (nth (nth t.parts 3).parts 1)) tx) with hg | hg
  rw [hg] at d13
  replace he : e = over (havoc _ x _) [(181, vs 13)] := he
  rw [d13] at he
  subst he
  refine zL tAgg73 tI73 rfl hb16.all rfl <| ow_nil ?_
  exact ⟨hkept.refl _, (show (eqT (putT (nth t.parts 4) (nth (nth t.parts 3).parts 1)) tx) = true → _ = ((.agg #[str (nth t.parts 3).atom, .slice (some ⟨qb, qoff, none⟩) (nth t.parts 3).parts.length pc3]) : Value) from fun _ => rfl), by first | exact agree_put | exact agree_refl⟩
  rw [hg] at d13
  replace he : e = over (havoc _ x _) [(181, vs 13)] := he
  rw [d13] at he
  subst he
  refine zs <| ow_nil ?_
  exact ⟨hkept.refl _, (show (eqT (putT (nth t.parts 4) (nth (nth t.parts 3).parts 1)) tx) = true → _ = (_ : Value) from fun hh => nomatch hg.symm.trans hh), by first | exact agree_put | exact agree_refl⟩
  refine certs_cons ?_ ?_
  intro x vs w50 e hk50 hd he
  obtain ⟨d13, d14, d15, d16⟩ : (vs 13 = (.bool (eqT (putT (nth t.parts 4) (nth (nth t.parts 3).parts 1)) tx))) ∧ ((eqT (putT (nth t.parts 4) (nth (nth t.parts 3).parts 1)) tx) = true → vs 14 = (.pointer (some ⟨b, 0, none⟩))) ∧ ((eqT (putT (nth t.parts 4) (nth (nth t.parts 3).parts 1)) tx) = true → vs 15 = (str (nth t.parts 1).atom)) ∧ ((eqT (putT (nth t.parts 4) (nth (nth t.parts 3).parts 1)) tx) = true → vs 16 = (.agg #[str (nth t.parts 3).atom, .slice (some ⟨qb, qoff, none⟩) (nth t.parts 3).parts.length pc3])) := hd
  replace hk50 := hkept.trans hkd hk50
  have hp3 := hp3.sto hk50.1 (by simp <;> omega)
  rcases Bool.eq_false_or_eq_true (eqT (putT (nth t.parts 4) (nth (nth t.parts 3).parts 1)) tx) with hg | hg
  rw [hg] at d13
  replace d14 := d14 hg
  replace d15 := d15 hg
  replace d16 := d16 hg
  replace he : e = over (havoc _ x _) [(181, vs 13), (182, vs 14), (183, vs 15), (184, vs 16)] := he
  rw [d13, d14, d15, d16] at he
  subst he
  have hAB := hk50.2.1 (.inl hCw)
  refine ow_call rfl rfl (give2_ret (nth t.parts 1).atom hr1 _ b st opens _ w50 (nth t.parts 3) hAB (by have := hf3.size; omega) (by have := len_text hf3.wf; have := hf3.text; omega) _ (RTree.weak hp3.tree (by intro x hx; simp at hx ⊢; rcases hx with h | h | h | h <;> simp [h]))) ?_
  rintro _ w51 ⟨rfl, hB9, hkb9⟩
  refine ow_nil ?_
  exact ⟨⟨hkb9, fun _ => .inr hB9, fun _ => hB9⟩, fun _ => ⟨rfl, hB9⟩, by first | exact agree_put | exact agree_refl⟩
  rw [hg] at d13
  replace he : e = over (havoc _ x _) [(181, vs 13), (182, vs 14), (183, vs 15), (184, vs 16)] := he
  rw [d13] at he
  subst he
  refine zs <| ow_nil ?_
  exact ⟨hkept.refl _, (fun hh => nomatch hg.symm.trans hh), by first | exact agree_put | exact agree_refl⟩
  refine certs_cons ?_ ?_
  intro x vs w50 e hk50 hd he
  obtain ⟨d13, d17⟩ : (vs 13 = (.bool (eqT (putT (nth t.parts 4) (nth (nth t.parts 3).parts 1)) tx))) ∧ ((fun (v : Value) (ww : World) => (eqT (putT (nth t.parts 4) (nth (nth t.parts 3).parts 1)) tx) = true → v = (.bool (setT st (regN (nth t.parts 1).atom) (some (nth t.parts 3))).isSome) ∧ (fun ww => Chk (w47.heap.size :: w43.heap.size :: L) ww b 153 ((setT st (regN (nth t.parts 1).atom) (some (nth t.parts 3))).getD st) opens (regsFn pv)) ww) (vs 17) w50) := hd
  replace hk50 := hkept.trans hkd hk50
  rcases Bool.eq_false_or_eq_true (eqT (putT (nth t.parts 4) (nth (nth t.parts 3).parts 1)) tx) with hg | hg
  rw [hg] at d13
  replace d17 := d17 hg
  replace he : e = over (havoc _ x _) [(181, vs 13), (185, vs 17)] := he
  rw [d13, d17.1] at he
  subst he
  refine zp rfl <| ow_nil ?_
  exact ⟨hkept.refl _, by first | rfl | (rw [hg]; rfl), by first | exact agree_put | exact agree_refl⟩
  rw [hg] at d13
  replace he : e = over (havoc _ x _) [(181, vs 13), (185, vs 17)] := he
  rw [d13] at he
  subst he
  refine zp rfl <| ow_nil ?_
  exact ⟨hkept.refl _, by first | rfl | (rw [hg]; rfl), by first | exact agree_put | exact agree_refl⟩
  exact trivial
  intro x vs w89 hk89 hdraw
  have d0 : vs 0 = (.pointer (some ⟨w47.heap.size, 0 + 1, none⟩)) := hdraw 0 (by decide)
  have d1 : vs 1 = (.slice (some ⟨qb, qoff, none⟩) (nth t.parts 3).parts.length pc3) := hdraw 1 (by decide)
  have d2 : vs 2 = (.pointer (some ⟨qb, qoff + 1 * 2, none⟩)) := hdraw 2 (by decide)
  have d3 : vs 3 = (.agg #[str (nth (nth t.parts 3).parts 1).atom, .slice qa (nth (nth t.parts 3).parts 1).parts.length qc]) := hdraw 3 (by decide)
  have d4 : vs 4 = (.pointer (some ⟨w.heap.size, 0 + 1, none⟩)) := hdraw 4 (by decide)
  have d5 : vs 5 = (.slice (some ⟨b0, off0, none⟩) t.parts.length c) := hdraw 5 (by decide)
  have d6 : vs 6 = (.pointer (some ⟨b0, off0 + 4 * 2, none⟩)) := hdraw 6 (by decide)
  have d7 : vs 7 = (.agg #[str (nth t.parts 4).atom, .slice pa4 (nth t.parts 4).parts.length pc4]) := hdraw 7 (by decide)
  have d8 : (fun (v : Value) (ww : World) => RTree [b] ww v (putT (nth t.parts 4) (nth (nth t.parts 3).parts 1))) (vs 8) w89 := hdraw 8 (by decide)
  have d9 : vs 9 = (.slice (some ⟨bh, offh, none⟩) [tx].length cc) := hdraw 9 (by decide)
  have d10 : vs 10 = (.pointer (some ⟨bh, offh + 0 * 2, none⟩)) := hdraw 10 (by decide)
  have d11 : vs 11 = (.agg #[str tx.atom, .slice xa tx.parts.length xc]) := hdraw 11 (by decide)
  have d12 : vs 12 = (.bool (eqT (putT (nth t.parts 4) (nth (nth t.parts 3).parts 1)) tx)) := hdraw 12 (by decide)
  have d13 : vs 13 = (.bool (eqT (putT (nth t.parts 4) (nth (nth t.parts 3).parts 1)) tx)) := hdraw 13 (by decide)
  have d14 : (eqT (putT (nth t.parts 4) (nth (nth t.parts 3).parts 1)) tx) = true → vs 14 = (.pointer (some ⟨b, 0, none⟩)) := hdraw 14 (by decide)
  have d15 : (eqT (putT (nth t.parts 4) (nth (nth t.parts 3).parts 1)) tx) = true → vs 15 = (str (nth t.parts 1).atom) := hdraw 15 (by decide)
  have d16 : (eqT (putT (nth t.parts 4) (nth (nth t.parts 3).parts 1)) tx) = true → vs 16 = (.agg #[str (nth t.parts 3).atom, .slice (some ⟨qb, qoff, none⟩) (nth t.parts 3).parts.length pc3]) := hdraw 16 (by decide)
  have d17 : (fun (v : Value) (ww : World) => (eqT (putT (nth t.parts 4) (nth (nth t.parts 3).parts 1)) tx) = true → v = (.bool (setT st (regN (nth t.parts 1).atom) (some (nth t.parts 3))).isSome) ∧ (fun ww => Chk (w47.heap.size :: w43.heap.size :: L) ww b 153 ((setT st (regN (nth t.parts 1).atom) (some (nth t.parts 3))).getD st) opens (regsFn pv)) ww) (vs 17) w89 := hdraw 17 (by decide)
  have d18 : vs 18 = (.bool (eqT (putT (nth t.parts 4) (nth (nth t.parts 3).parts 1)) tx && (setT st (regN (nth t.parts 1).atom) (some (nth t.parts 3))).isSome)) := hdraw 18 (by decide)
  change OW _ _ _ _ _ (over (havoc _ x _) [(168, vs 0), (169, vs 1), (170, vs 2), (171, vs 3), (172, vs 4), (173, vs 5), (174, vs 6), (175, vs 7), (176, vs 8), (177, vs 9), (178, vs 10), (179, vs 11), (180, vs 12), (181, vs 13), (182, vs 14), (183, vs 15), (184, vs 16), (185, vs 17), (186, vs 18)]) _
  rw [d0, d1, d2, d3, d4, d5, d6, d7, d9, d10, d11, d12, d13, d18]
  have hkd9 := hk89
  refine zA <| ow_nil <| cw_ret ?_
  exact ⟨_, rfl, do_if (by rw [step_pack hh hrx, eqT_comm, eqT_same hxk.good (put_good hg4 hg31)]) (fun hc => by rw [opens1_no (by rw [hh]; decide)]; exact ((d17 hc).2).weak (fun x hx => by simp [hx])) (hKw.any.trans hkd9.1)⟩
  have hc7 := h15
  refine zr <| ow_seql rfl rfl rfl rfl <| zA <| ow_nil <| zc rfl (fun h16 => ?_) (fun h16 => ?_)
  have hh := h16
  have hs1 : σ = [100, 115] := by rw [hσ]; simp [shapeI, h16]
  rw [hs1] at hxs
  obtain ⟨tx, rfl, hrx⟩ := have_ds hxs
  have hxk := hxok tx (by simp)
  have hxz := fits_size hxk.good hxk.fits
  have hxpl := parts_le tx
  obtain ⟨bh, offh, xa, xc, rfl, hx1⟩ := rtrees_el hO.trees (i := 0) rfl
  have hl3 : t.parts.length = 3 := (by rw [hlen, hs1]; rfl)
  refine cw_seq <| zr <| zm <| zi (i := 0) tSl61 tI73 rfl rfl (by simp) <| zL tAgg73 tI73 rfl (hx1.c) (rfl) <| ow_call rfl rfl (headI_ret tx hxk.good.wf _ _ w47 hx1.tree) ?_
  rintro v48 w48 ⟨hv48, hk48⟩
  have hs48 := hk48.size
  have hK := hK.ext hk48; have hO := hO.ext hk48; have hC := hC.ext hk48; have hx1 := hx1.ext hk48
  obtain rfl := hv48
  refine ow_sneq rfl rfl rfl rfl <| ow_nil <| zc rfl (fun h17 => ?_) (fun h17 => ?_)
  skip
  refine zr <| zA <| ow_nil <| cw_ret ?_
  exact ⟨_, rfl, do_fail (by rw [step_open hh hrx, if_neg h17]) hK.any⟩
  have he := Classical.not_not.1 h17
  have h2p := hxk.eok.two he
  obtain ⟨qb, qoff, qa, qc, he8, hy1⟩ := rtrees_el (rtree_parts hx1.tree) (nth_get (ps := tx.parts) (i := 1) (by omega))
  cases he8
  have hk1 := hxk.nth (i := 1) (by omega)
  have hz1 := hk1.size
  obtain ⟨hug, hus⟩ := unknown_ok (n := opens) (by omega)
  refine cw_skip <| zr <| zm <| ow_nilCheck rfl rfl rfl <| zf tF153_2 rfl <| zl tOne3 rfl (hC.opAt 0 _ rfl) <| ow_add rfl rfl rfl rfl rfl (show IntKind.i64.wrap ((opens : Int) + 1) = ((opens + 1 : Nat) : Int) from by rw [wrap_i64 _ (by omega) (by omega)]; omega) <| ow_nilCheck rfl rfl rfl <| zf tF153_2 rfl ?_
  have hCw := hC
  have hKw := hK
  obtain ⟨cs0, hbk0, hcc0⟩ := hCw.ex
  have hcz := hcc0.size
  refine ow_storeM tI3 rfl rfl rfl rfl rfl rfl hbk0 (by simp only [List.length_cons, List.length_nil]; omega) ?_
  intro w49 hk49 hbk2 hkw hz9
  have hC := hCw.open1 (fun cs1' h _ => by cases blk_inj h hbk0; exact ⟨hkw.1, hbk2⟩)
  have hKb := hKw.any.trans hkw.1
  have hO := hO.sto hk49 (by simp); have hx1 := hx1.sto hk49 (by simp); have hy1 := hy1.sto hk49 (by simp)
  refine ow_nil <| cw_seq ?_
  refine cw_draw tMixed kept_new 17 [201, 202, 203, 204, 205, 206, 207, 208, 209, 210, 211, 212, 213, 214, 215, 216, 217] [201, 202, 203, 204, 205, 206, 207, 208, 209, 210, 211, 212, 213, 214, 215, 216, 217] [[], [], [], [2], [3], [4], [5], [6], [], [8], [9], [10], [11], [12], [13], [14], [7, 15]] [fun v _ => v = (.pointer (some ⟨b, 0, none⟩)), fun v _ => v = (str (nth t.parts 1).atom), fun v _ => v = (.slice (some ⟨bh, offh, none⟩) [tx].length cc), fun v _ => v = (.pointer (some ⟨bh, offh + 0 * 2, none⟩)), fun v _ => v = (.pointer (some ⟨bh, offh + 0 * 2 + 1, none⟩)), fun v _ => v = (.slice (some ⟨qb, qoff, none⟩) tx.parts.length xc), fun v _ => v = (.pointer (some ⟨qb, qoff + 1 * 2, none⟩)), fun v _ => v = (.agg #[str (nth tx.parts 1).atom, .slice qa (nth tx.parts 1).parts.length qc]), fun v _ => v = (.pointer (some ⟨b, 0, none⟩)), fun v _ => v = (.pointer (some ⟨b, 0, none⟩)), fun v _ => v = (.pointer (some ⟨b, 0 + 120, none⟩)), fun v _ => v = (.int .i64 ((opens + 1 : Nat) : Int)), fun v _ => v = (.int .i64 (opens : Int)), fun v _ => v = (str (decB opens)), fun v _ => v = (str (97 :: decB opens)), fun v _ => v = (.agg #[str (97 :: decB opens), .slice none 0 0]), fun (v : Value) (ww : World) => RTree (b :: w43.heap.size :: L) ww v (putT (atomT (97 :: decB opens)) (nth tx.parts 1))] (by decide) (stab_eq (stab_eq (stab_eq (stab_eq (stab_eq (stab_eq (stab_eq (stab_eq (stab_eq (stab_eq (stab_eq (stab_eq (stab_eq (stab_eq (stab_eq (stab_eq (stab_gen (fun v w w' h k => RTree.ext h k) trivial))))))))))))))))) (fun wd hkd => ?_) ?_
  refine certs_cons ?_ ?_
  intro x vs w50 e hk50 hd he
  replace hk50 := kept_new.trans hkd hk50
  replace he : e = over (havoc _ x _) [] := he
  subst he
  refine zm <| ow_nil ?_
  exact ⟨kept_new.refl _, rfl, by first | exact agree_put | exact agree_refl⟩
  refine certs_cons ?_ ?_
  intro x vs w50 e hk50 hd he
  replace hk50 := kept_new.trans hkd hk50
  replace he : e = over (havoc _ x _) [] := he
  subst he
  refine zm <| ow_nil ?_
  exact ⟨kept_new.refl _, rfl, by first | exact agree_put | exact agree_refl⟩
  refine certs_cons ?_ ?_
  intro x vs w50 e hk50 hd he
  replace hk50 := kept_new.trans hkd hk50
  replace he : e = over (havoc _ x _) [] := he
  subst he
  refine zm <| ow_nil ?_
  exact ⟨kept_new.refl _, rfl, by first | exact agree_put | exact agree_refl⟩
  refine certs_cons ?_ ?_
  intro x vs w50 e hk50 hd he
  have d2 : vs 2 = (.slice (some ⟨bh, offh, none⟩) [tx].length cc) := hd
  replace hk50 := kept_new.trans hkd hk50
  replace he : e = over (havoc _ x _) [(203, vs 2)] := he
  rw [d2] at he
  subst he
  refine zi (i := 0) tSl61 tI73 rfl rfl (by simp) <| ow_nil ?_
  exact ⟨kept_new.refl _, rfl, by first | exact agree_put | exact agree_refl⟩
  refine certs_cons ?_ ?_
  intro x vs w50 e hk50 hd he
  have d3 : vs 3 = (.pointer (some ⟨bh, offh + 0 * 2, none⟩)) := hd
  replace hk50 := kept_new.trans hkd hk50
  replace he : e = over (havoc _ x _) [(204, vs 3)] := he
  rw [d3] at he
  subst he
  refine zf tF73_1 rfl <| ow_nil ?_
  exact ⟨kept_new.refl _, rfl, by first | exact agree_put | exact agree_refl⟩
  refine certs_cons ?_ ?_
  intro x vs w50 e hk50 hd he
  have d4 : vs 4 = (.pointer (some ⟨bh, offh + 0 * 2 + 1, none⟩)) := hd
  replace hk50 := kept_new.trans hkd hk50
  have hx1 := hx1.ext hk50
  replace he : e = over (havoc _ x _) [(205, vs 4)] := he
  rw [d4] at he
  subst he
  refine zl tOne61 rfl (hx1.c 1 _ rfl) <| ow_nil ?_
  exact ⟨kept_new.refl _, rfl, by first | exact agree_put | exact agree_refl⟩
  refine certs_cons ?_ ?_
  intro x vs w50 e hk50 hd he
  have d5 : vs 5 = (.slice (some ⟨qb, qoff, none⟩) tx.parts.length xc) := hd
  replace hk50 := kept_new.trans hkd hk50
  replace he : e = over (havoc _ x _) [(206, vs 5)] := he
  rw [d5] at he
  subst he
  refine zi (i := 1) tSl61 tI73 rfl rfl (by omega) <| ow_nil ?_
  exact ⟨kept_new.refl _, rfl, by first | exact agree_put | exact agree_refl⟩
  refine certs_cons ?_ ?_
  intro x vs w50 e hk50 hd he
  have d6 : vs 6 = (.pointer (some ⟨qb, qoff + 1 * 2, none⟩)) := hd
  replace hk50 := kept_new.trans hkd hk50
  have hy1 := hy1.ext hk50
  replace he : e = over (havoc _ x _) [(207, vs 6)] := he
  rw [d6] at he
  subst he
  refine zL tAgg73 tI73 rfl (hy1.c) (rfl) <| ow_nil ?_
  exact ⟨kept_new.refl _, rfl, by first | exact agree_put | exact agree_refl⟩
  refine certs_cons ?_ ?_
  intro x vs w50 e hk50 hd he
  replace hk50 := kept_new.trans hkd hk50
  replace he : e = over (havoc _ x _) [] := he
  subst he
  refine zm <| ow_nil ?_
  exact ⟨kept_new.refl _, rfl, by first | exact agree_put | exact agree_refl⟩
  refine certs_cons ?_ ?_
  intro x vs w50 e hk50 hd he
  have d8 : vs 8 = (.pointer (some ⟨b, 0, none⟩)) := hd
  replace hk50 := kept_new.trans hkd hk50
  replace he : e = over (havoc _ x _) [(209, vs 8)] := he
  rw [d8] at he
  subst he
  refine ow_nilCheck rfl rfl rfl <| ow_nil ?_
  exact ⟨kept_new.refl _, rfl, by first | exact agree_put | exact agree_refl⟩
  refine certs_cons ?_ ?_
  intro x vs w50 e hk50 hd he
  have d9 : vs 9 = (.pointer (some ⟨b, 0, none⟩)) := hd
  replace hk50 := kept_new.trans hkd hk50
  replace he : e = over (havoc _ x _) [(210, vs 9)] := he
  rw [d9] at he
  subst he
  refine zf tF153_2 rfl <| ow_nil ?_
  exact ⟨kept_new.refl _, rfl, by first | exact agree_put | exact agree_refl⟩
  refine certs_cons ?_ ?_
  intro x vs w50 e hk50 hd he
  have d10 : vs 10 = (.pointer (some ⟨b, 0 + 120, none⟩)) := hd
  replace hk50 := kept_new.trans hkd hk50
  have hC := hC.ext hk50
  replace he : e = over (havoc _ x _) [(211, vs 10)] := he
  rw [d10] at he
  subst he
  refine zl tOne3 rfl (hC.opAt 0 _ rfl) <| ow_nil ?_
  exact ⟨kept_new.refl _, rfl, by first | exact agree_put | exact agree_refl⟩
  refine certs_cons ?_ ?_
  intro x vs w50 e hk50 hd he
  have d11 : vs 11 = (.int .i64 ((opens + 1 : Nat) : Int)) := hd
  replace hk50 := kept_new.trans hkd hk50
  replace he : e = over (havoc _ x _) [(212, vs 11)] := he
  rw [d11] at he
  subst he
  refine ow_sub rfl rfl rfl rfl rfl (show IntKind.i64.wrap (((opens + 1 : Nat) : Int) - 1) = (opens : Int) from by rw [wrap_i64 _ (by omega) (by omega)]; omega) <| ow_nil ?_
  exact ⟨kept_new.refl _, rfl, by first | exact agree_put | exact agree_refl⟩
  refine certs_cons ?_ ?_
  intro x vs w50 e hk50 hd he
  have d12 : vs 12 = (.int .i64 (opens : Int)) := hd
  replace hk50 := kept_new.trans hkd hk50
  replace he : e = over (havoc _ x _) [(213, vs 12)] := he
  rw [d12] at he
  subst he
  refine ow_call rfl rfl (itoa_ret opens (by omega) w50) ?_
  rintro v51 w51 ⟨hv51, hk51⟩
  have hs51 := hk51.size
  obtain rfl := hv51
  refine ow_nil ?_
  exact ⟨kept_new.of hk51, rfl, by first | exact agree_put | exact agree_refl⟩
  refine certs_cons ?_ ?_
  intro x vs w50 e hk50 hd he
  have d13 : vs 13 = (str (decB opens)) := hd
  replace hk50 := kept_new.trans hkd hk50
  replace he : e = over (havoc _ x _) [(214, vs 13)] := he
  rw [d13] at he
  subst he
  refine ow_sadd rfl rfl rfl rfl (by have := decB_short opens; simp only [List.length_cons, List.length_nil]; omega) <| ow_nil ?_
  exact ⟨kept_new.refl _, rfl, by first | exact agree_put | exact agree_refl⟩
  refine certs_cons ?_ ?_
  intro x vs w50 e hk50 hd he
  have d14 : vs 14 = (str (97 :: decB opens)) := hd
  replace hk50 := kept_new.trans hkd hk50
  replace he : e = over (havoc _ x _) [(215, vs 14)] := he
  rw [d14] at he
  subst he
  refine ow_call rfl rfl (atomF_ret (97 :: decB opens) w50) ?_
  rintro v51 w51 ⟨hv51, hk51⟩
  have hs51 := hk51.size
  obtain rfl := hv51
  refine ow_nil ?_
  exact ⟨kept_new.of hk51, rfl, by first | exact agree_put | exact agree_refl⟩
  refine certs_cons ?_ ?_
  intro x vs w50 e hk50 hd he
  obtain ⟨d7, d15⟩ : (vs 7 = (.agg #[str (nth tx.parts 1).atom, .slice qa (nth tx.parts 1).parts.length qc])) ∧ (vs 15 = (.agg #[str (97 :: decB opens), .slice none 0 0])) := hd
  replace hk50 := kept_new.trans hkd hk50
  have hO := hO.ext hk50; have hy1 := hy1.ext hk50
  replace he : e = over (havoc _ x _) [(208, vs 7), (216, vs 15)] := he
  rw [d7, d15] at he
  subst he
  refine ow_call rfl rfl (opened_ret (atomT (97 :: decB opens)) (nth tx.parts 1).size _ (Nat.le_refl _) (by omega) hk1.good.wf _ _ (b :: w43.heap.size :: L) w50 (RTree.weak hy1.tree (fun x hx => by simp at hx ⊢; rcases hx with h | h | h <;> simp [h])) (rtree_mk (ps := []) rtrees_nil) (by intro x hx; refine hO.lim x ?_; simp at hx ⊢; rcases hx with h | h | h <;> simp [h])) ?_
  rintro v51 w51 ⟨hv51, hk51⟩
  have hs51 := hk51.size
  have hq9 := hv51
  refine ow_nil ?_
  exact ⟨kept_new.of hk51, hq9, by first | exact agree_put | exact agree_refl⟩
  exact trivial
  intro x vs w89 hk89 hdraw
  have d0 : vs 0 = (.pointer (some ⟨b, 0, none⟩)) := hdraw 0 (by decide)
  have d1 : vs 1 = (str (nth t.parts 1).atom) := hdraw 1 (by decide)
  have d2 : vs 2 = (.slice (some ⟨bh, offh, none⟩) [tx].length cc) := hdraw 2 (by decide)
  have d3 : vs 3 = (.pointer (some ⟨bh, offh + 0 * 2, none⟩)) := hdraw 3 (by decide)
  have d4 : vs 4 = (.pointer (some ⟨bh, offh + 0 * 2 + 1, none⟩)) := hdraw 4 (by decide)
  have d5 : vs 5 = (.slice (some ⟨qb, qoff, none⟩) tx.parts.length xc) := hdraw 5 (by decide)
  have d6 : vs 6 = (.pointer (some ⟨qb, qoff + 1 * 2, none⟩)) := hdraw 6 (by decide)
  have d7 : vs 7 = (.agg #[str (nth tx.parts 1).atom, .slice qa (nth tx.parts 1).parts.length qc]) := hdraw 7 (by decide)
  have d8 : vs 8 = (.pointer (some ⟨b, 0, none⟩)) := hdraw 8 (by decide)
  have d9 : vs 9 = (.pointer (some ⟨b, 0, none⟩)) := hdraw 9 (by decide)
  have d10 : vs 10 = (.pointer (some ⟨b, 0 + 120, none⟩)) := hdraw 10 (by decide)
  have d11 : vs 11 = (.int .i64 ((opens + 1 : Nat) : Int)) := hdraw 11 (by decide)
  have d12 : vs 12 = (.int .i64 (opens : Int)) := hdraw 12 (by decide)
  have d13 : vs 13 = (str (decB opens)) := hdraw 13 (by decide)
  have d14 : vs 14 = (str (97 :: decB opens)) := hdraw 14 (by decide)
  have d15 : vs 15 = (.agg #[str (97 :: decB opens), .slice none 0 0]) := hdraw 15 (by decide)
  have d16 : (fun (v : Value) (ww : World) => RTree (b :: w43.heap.size :: L) ww v (putT (atomT (97 :: decB opens)) (nth tx.parts 1))) (vs 16) w89 := hdraw 16 (by decide)
  have hC := hC.ext hk89; have hKb := hKb.ext hk89
  change OW _ _ _ _ _ (over (havoc _ x _) [(201, vs 0), (202, vs 1), (203, vs 2), (204, vs 3), (205, vs 4), (206, vs 5), (207, vs 6), (208, vs 7), (209, vs 8), (210, vs 9), (211, vs 10), (212, vs 11), (213, vs 12), (214, vs 13), (215, vs 14), (216, vs 15), (217, vs 16)]) _
  rw [d0, d1, d2, d3, d4, d5, d6, d7, d8, d9, d10, d11, d12, d13, d14, d15]
  obtain ⟨za, zn, zc, e16, _, _⟩ := rtree_cases d16
  rw [e16] at d16 ⊢
  refine ow_call rfl rfl (give_ret (nth t.parts 1).atom hr1 _ b st (opens + 1) _ w89 hC (putT (atomT (97 :: decB opens)) (nth tx.parts 1)) (by have h1 := put_size (atomT (97 :: decB opens)) hk1.good; have h3 := Nat.mul_le_mul hz1 hus; omega) (by have h1 := put_size (atomT (97 :: decB opens)) hk1.good; have h3 := Nat.mul_le_mul hz1 hus; have h4 := len_size (put_good hug hk1.good).wf; omega) _ d16) ?_
  rintro _ w90 ⟨rfl, hC2, hk2⟩
  refine zA <| ow_nil <| cw_ret ?_
  exact ⟨_, rfl, do_set (by rw [step_open hh hrx, if_pos he]) (by rw [show opens1 opens t = opens + 1 from if_pos hh]; exact hC2.weak (fun x hx => List.mem_cons_of_mem _ hx)) (hKb.trans hk2)⟩
  have hc8 := h16
  refine zr <| ow_seql rfl rfl rfl rfl <| zA <| ow_nil <| zc rfl (fun h18 => ?_) (fun h18 => ?_)
  have hh := h18
  have hs1 : σ = [115, 108] := by rw [hσ]; simp [shapeI, h18]
  rw [hs1] at hxs
  obtain ⟨tx, rfl, hrx⟩ := have_sl hxs
  have hxk := hxok tx (by simp)
  have hxz := fits_size hxk.good hxk.fits
  have hxpl := parts_le tx
  obtain ⟨bh, offh, xa, xc, rfl, hx1⟩ := rtrees_el hO.trees (i := 0) rfl
  have hl3 : t.parts.length = 3 := (by rw [hlen, hs1]; rfl)
  obtain ⟨_, _, pa2, pc2, he2, hp2⟩ := rtrees_el (rtree_parts hv0) (nth_get (ps := t.parts) (i := 2) (by omega))
  cases he2
  refine cw_seq ?_
  refine cw_draw tMixed kept_new 14 [222, 223, 224, 225, 226, 227, 228, 229, 230, 231, 221, 232, 233, 17] [222, 223, 224, 225, 226, 227, 228, 229, 230, 231, 221, 232, 233, 17] [[], [0], [1], [2], [], [4], [5], [6], [7], [3, 8], [9], [10], [10], [11]] [fun v _ => v = (.pointer (some ⟨b, 0, none⟩)), fun v _ => v = (.pointer (some ⟨b, 0, none⟩)), fun v _ => v = (.pointer (some ⟨b, 0 + 121, none⟩)), fun v _ => v = (regsFn pv), fun v _ => v = (.pointer (some ⟨w.heap.size, 0 + 1, none⟩)), fun v _ => v = (.slice (some ⟨b0, off0, none⟩) t.parts.length c), fun v _ => v = (.pointer (some ⟨b0, off0 + 2 * 2, none⟩)), fun v _ => v = (.pointer (some ⟨b0, off0 + 2 * 2 + 0, none⟩)), fun v _ => v = (str (nth t.parts 2).atom), fun (v : Value) (ww : World) => ∃ a c, v = .tuple #[.slice a ((regsOf ps (nth t.parts 2).atom).getD []).length c, .bool (regsOf ps (nth t.parts 2).atom).isSome] ∧ RTrees (w43.heap.size :: b :: L) ww (.slice a ((regsOf ps (nth t.parts 2).atom).getD []).length c) ((regsOf ps (nth t.parts 2).atom).getD []), fun (v : Value) (ww : World) => ∃ a c, v = .tuple #[.slice a ((regsOf ps (nth t.parts 2).atom).getD []).length c, .bool (regsOf ps (nth t.parts 2).atom).isSome] ∧ RTrees (w43.heap.size :: b :: L) ww (.slice a ((regsOf ps (nth t.parts 2).atom).getD []).length c) ((regsOf ps (nth t.parts 2).atom).getD []), fun (v : Value) (ww : World) => ∃ a c, v = .slice a ((regsOf ps (nth t.parts 2).atom).getD []).length c ∧ RTrees (w43.heap.size :: b :: L) ww (.slice a ((regsOf ps (nth t.parts 2).atom).getD []).length c) ((regsOf ps (nth t.parts 2).atom).getD []), fun v _ => v = (.bool (regsOf ps (nth t.parts 2).atom).isSome), fun (v : Value) (ww : World) => ∃ a c, v = .slice a ((regsOf ps (nth t.parts 2).atom).getD []).length c ∧ RTrees (w43.heap.size :: b :: L) ww (.slice a ((regsOf ps (nth t.parts 2).atom).getD []).length c) ((regsOf ps (nth t.parts 2).atom).getD [])] (by decide) (stab_eq (stab_eq (stab_eq (stab_eq (stab_eq (stab_eq (stab_eq (stab_eq (stab_eq (stab_gen (fun v w w' ⟨a, c, e, h⟩ k => ⟨a, c, e, RTrees.ext h k⟩) (stab_gen (fun v w w' ⟨a, c, e, h⟩ k => ⟨a, c, e, RTrees.ext h k⟩) (stab_gen (fun v w w' ⟨a, c, e, h⟩ k => ⟨a, c, e, RTrees.ext h k⟩) (stab_eq (stab_gen (fun v w w' ⟨a, c, e, h⟩ k => ⟨a, c, e, RTrees.ext h k⟩) trivial)))))))))))))) (fun wd hkd => ?_) ?_
  refine certs_cons ?_ ?_
  intro x vs w48 e hk48 hd he
  replace hk48 := kept_new.trans hkd hk48
  replace he : e = over (havoc _ x _) [] := he
  subst he
  refine zm <| ow_nil ?_
  exact ⟨kept_new.refl _, rfl, by first | exact agree_put | exact agree_refl⟩
  refine certs_cons ?_ ?_
  intro x vs w48 e hk48 hd he
  have d0 : vs 0 = (.pointer (some ⟨b, 0, none⟩)) := hd
  replace hk48 := kept_new.trans hkd hk48
  replace he : e = over (havoc _ x _) [(222, vs 0)] := he
  rw [d0] at he
  subst he
  refine ow_nilCheck rfl rfl rfl <| ow_nil ?_
  exact ⟨kept_new.refl _, rfl, by first | exact agree_put | exact agree_refl⟩
  refine certs_cons ?_ ?_
  intro x vs w48 e hk48 hd he
  have d1 : vs 1 = (.pointer (some ⟨b, 0, none⟩)) := hd
  replace hk48 := kept_new.trans hkd hk48
  replace he : e = over (havoc _ x _) [(223, vs 1)] := he
  rw [d1] at he
  subst he
  refine zf tF153_3 rfl <| ow_nil ?_
  exact ⟨kept_new.refl _, rfl, by first | exact agree_put | exact agree_refl⟩
  refine certs_cons ?_ ?_
  intro x vs w48 e hk48 hd he
  have d2 : vs 2 = (.pointer (some ⟨b, 0 + 121, none⟩)) := hd
  replace hk48 := kept_new.trans hkd hk48
  have hC := hC.ext hk48
  replace he : e = over (havoc _ x _) [(224, vs 2)] := he
  rw [d2] at he
  subst he
  refine zl tOne133 rfl (hC.fnAt 0 _ rfl) <| ow_nil ?_
  exact ⟨kept_new.refl _, rfl, by first | exact agree_put | exact agree_refl⟩
  refine certs_cons ?_ ?_
  intro x vs w48 e hk48 hd he
  replace hk48 := kept_new.trans hkd hk48
  replace he : e = over (havoc _ x _) [] := he
  subst he
  refine zf tF73_1 rfl <| ow_nil ?_
  exact ⟨kept_new.refl _, rfl, by first | exact agree_put | exact agree_refl⟩
  refine certs_cons ?_ ?_
  intro x vs w48 e hk48 hd he
  have d4 : vs 4 = (.pointer (some ⟨w.heap.size, 0 + 1, none⟩)) := hd
  replace hk48 := kept_new.trans hkd hk48
  have hb3 := hb3.ext hk48
  replace he : e = over (havoc _ x _) [(226, vs 4)] := he
  rw [d4] at he
  subst he
  refine zl tOne61 rfl (hb3.at rfl) <| ow_nil ?_
  exact ⟨kept_new.refl _, rfl, by first | exact agree_put | exact agree_refl⟩
  refine certs_cons ?_ ?_
  intro x vs w48 e hk48 hd he
  have d5 : vs 5 = (.slice (some ⟨b0, off0, none⟩) t.parts.length c) := hd
  replace hk48 := kept_new.trans hkd hk48
  replace he : e = over (havoc _ x _) [(227, vs 5)] := he
  rw [d5] at he
  subst he
  refine zi (i := 2) tSl61 tI73 rfl rfl (by omega) <| ow_nil ?_
  exact ⟨kept_new.refl _, rfl, by first | exact agree_put | exact agree_refl⟩
  refine certs_cons ?_ ?_
  intro x vs w48 e hk48 hd he
  have d6 : vs 6 = (.pointer (some ⟨b0, off0 + 2 * 2, none⟩)) := hd
  replace hk48 := kept_new.trans hkd hk48
  replace he : e = over (havoc _ x _) [(228, vs 6)] := he
  rw [d6] at he
  subst he
  refine zf tF73_0 rfl <| ow_nil ?_
  exact ⟨kept_new.refl _, rfl, by first | exact agree_put | exact agree_refl⟩
  refine certs_cons ?_ ?_
  intro x vs w48 e hk48 hd he
  have d7 : vs 7 = (.pointer (some ⟨b0, off0 + 2 * 2 + 0, none⟩)) := hd
  replace hk48 := kept_new.trans hkd hk48
  have hp2 := hp2.ext hk48
  replace he : e = over (havoc _ x _) [(229, vs 7)] := he
  rw [d7] at he
  subst he
  refine zl tOne9 rfl (hp2.c 0 _ rfl) <| ow_nil ?_
  exact ⟨kept_new.refl _, rfl, by first | exact agree_put | exact agree_refl⟩
  refine certs_cons ?_ ?_
  intro x vs w48 e hk48 hd he
  obtain ⟨d3, d8⟩ : (vs 3 = (regsFn pv)) ∧ (vs 8 = (str (nth t.parts 2).atom)) := hd
  replace hk48 := kept_new.trans hkd hk48
  have hpv := hpv.ext hk48
  replace he : e = over (havoc _ x _) [(225, vs 3), (230, vs 8)] := he
  rw [d3, d8] at he
  subst he
  refine ow_callvF rfl rfl rfl (regs_ret ps (by have := hP.1; omega) (nth t.parts 2).atom pv (w43.heap.size :: b :: L) w48 hpv) ?_
  rintro v49 w49 ⟨hv49, hk49⟩
  have hs49 := hk49.size
  obtain ⟨ra, rc, rfl, hrr⟩ := hv49
  refine ow_nil ?_
  exact ⟨kept_new.of hk49, ⟨_, _, rfl, hrr⟩, by first | exact agree_put | exact agree_refl⟩
  refine certs_cons ?_ ?_
  intro x vs w48 e hk48 hd he
  have d9 : (fun (v : Value) (ww : World) => ∃ a c, v = .tuple #[.slice a ((regsOf ps (nth t.parts 2).atom).getD []).length c, .bool (regsOf ps (nth t.parts 2).atom).isSome] ∧ RTrees (w43.heap.size :: b :: L) ww (.slice a ((regsOf ps (nth t.parts 2).atom).getD []).length c) ((regsOf ps (nth t.parts 2).atom).getD [])) (vs 9) w48 := hd
  replace hk48 := kept_new.trans hkd hk48
  replace he : e = over (havoc _ x _) [(231, vs 9)] := he
  obtain ⟨ra, rc, e9, hrr⟩ := d9
  rw [e9] at he
  subst he
  refine zm <| ow_nil ?_
  exact ⟨kept_new.refl _, ⟨_, _, rfl, hrr⟩, by first | exact agree_put | exact agree_refl⟩
  refine certs_cons ?_ ?_
  intro x vs w48 e hk48 hd he
  have d10 : (fun (v : Value) (ww : World) => ∃ a c, v = .tuple #[.slice a ((regsOf ps (nth t.parts 2).atom).getD []).length c, .bool (regsOf ps (nth t.parts 2).atom).isSome] ∧ RTrees (w43.heap.size :: b :: L) ww (.slice a ((regsOf ps (nth t.parts 2).atom).getD []).length c) ((regsOf ps (nth t.parts 2).atom).getD [])) (vs 10) w48 := hd
  replace hk48 := kept_new.trans hkd hk48
  replace he : e = over (havoc _ x _) [(221, vs 10)] := he
  obtain ⟨ra, rc, e9, hrr⟩ := d10
  rw [e9] at he
  subst he
  refine zx (i := 0) rfl rfl <| ow_nil ?_
  exact ⟨kept_new.refl _, ⟨_, _, rfl, hrr⟩, by first | exact agree_put | exact agree_refl⟩
  refine certs_cons ?_ ?_
  intro x vs w48 e hk48 hd he
  have d10 : (fun (v : Value) (ww : World) => ∃ a c, v = .tuple #[.slice a ((regsOf ps (nth t.parts 2).atom).getD []).length c, .bool (regsOf ps (nth t.parts 2).atom).isSome] ∧ RTrees (w43.heap.size :: b :: L) ww (.slice a ((regsOf ps (nth t.parts 2).atom).getD []).length c) ((regsOf ps (nth t.parts 2).atom).getD [])) (vs 10) w48 := hd
  replace hk48 := kept_new.trans hkd hk48
  replace he : e = over (havoc _ x _) [(221, vs 10)] := he
  obtain ⟨ra, rc, e9, hrr⟩ := d10
  rw [e9] at he
  subst he
  refine zx (i := 1) rfl rfl <| ow_nil ?_
  exact ⟨kept_new.refl _, rfl, by first | exact agree_put | exact agree_refl⟩
  refine certs_cons ?_ ?_
  intro x vs w48 e hk48 hd he
  have d11 : (fun (v : Value) (ww : World) => ∃ a c, v = .slice a ((regsOf ps (nth t.parts 2).atom).getD []).length c ∧ RTrees (w43.heap.size :: b :: L) ww (.slice a ((regsOf ps (nth t.parts 2).atom).getD []).length c) ((regsOf ps (nth t.parts 2).atom).getD [])) (vs 11) w48 := hd
  replace hk48 := kept_new.trans hkd hk48
  replace he : e = over (havoc _ x _) [(232, vs 11)] := he
  obtain ⟨ra, rc, e9, hrr⟩ := d11
  rw [e9] at he
  subst he
  refine zA <| ow_nil ?_
  exact ⟨kept_new.refl _, ⟨_, _, rfl, hrr⟩, by first | exact agree_put | exact agree_refl⟩
  exact trivial
  intro x vs w87 hk87 hdraw
  have d0 : vs 0 = (.pointer (some ⟨b, 0, none⟩)) := hdraw 0 (by decide)
  have d1 : vs 1 = (.pointer (some ⟨b, 0, none⟩)) := hdraw 1 (by decide)
  have d2 : vs 2 = (.pointer (some ⟨b, 0 + 121, none⟩)) := hdraw 2 (by decide)
  have d3 : vs 3 = (regsFn pv) := hdraw 3 (by decide)
  have d4 : vs 4 = (.pointer (some ⟨w.heap.size, 0 + 1, none⟩)) := hdraw 4 (by decide)
  have d5 : vs 5 = (.slice (some ⟨b0, off0, none⟩) t.parts.length c) := hdraw 5 (by decide)
  have d6 : vs 6 = (.pointer (some ⟨b0, off0 + 2 * 2, none⟩)) := hdraw 6 (by decide)
  have d7 : vs 7 = (.pointer (some ⟨b0, off0 + 2 * 2 + 0, none⟩)) := hdraw 7 (by decide)
  have d8 : vs 8 = (str (nth t.parts 2).atom) := hdraw 8 (by decide)
  have d9 : (fun (v : Value) (ww : World) => ∃ a c, v = .tuple #[.slice a ((regsOf ps (nth t.parts 2).atom).getD []).length c, .bool (regsOf ps (nth t.parts 2).atom).isSome] ∧ RTrees (w43.heap.size :: b :: L) ww (.slice a ((regsOf ps (nth t.parts 2).atom).getD []).length c) ((regsOf ps (nth t.parts 2).atom).getD [])) (vs 9) w87 := hdraw 9 (by decide)
  have d10 : (fun (v : Value) (ww : World) => ∃ a c, v = .tuple #[.slice a ((regsOf ps (nth t.parts 2).atom).getD []).length c, .bool (regsOf ps (nth t.parts 2).atom).isSome] ∧ RTrees (w43.heap.size :: b :: L) ww (.slice a ((regsOf ps (nth t.parts 2).atom).getD []).length c) ((regsOf ps (nth t.parts 2).atom).getD [])) (vs 10) w87 := hdraw 10 (by decide)
  have d11 : (fun (v : Value) (ww : World) => ∃ a c, v = .slice a ((regsOf ps (nth t.parts 2).atom).getD []).length c ∧ RTrees (w43.heap.size :: b :: L) ww (.slice a ((regsOf ps (nth t.parts 2).atom).getD []).length c) ((regsOf ps (nth t.parts 2).atom).getD [])) (vs 11) w87 := hdraw 11 (by decide)
  have d12 : vs 12 = (.bool (regsOf ps (nth t.parts 2).atom).isSome) := hdraw 12 (by decide)
  have d13 : (fun (v : Value) (ww : World) => ∃ a c, v = .slice a ((regsOf ps (nth t.parts 2).atom).getD []).length c ∧ RTrees (w43.heap.size :: b :: L) ww (.slice a ((regsOf ps (nth t.parts 2).atom).getD []).length c) ((regsOf ps (nth t.parts 2).atom).getD [])) (vs 13) w87 := hdraw 13 (by decide)
  have hK := hK.ext hk87; have hC := hC.ext hk87; have hb11 := hb11.ext hk87; have hx1 := hx1.ext hk87
  change OW _ _ _ _ _ (over (havoc _ x _) [(222, vs 0), (223, vs 1), (224, vs 2), (225, vs 3), (226, vs 4), (227, vs 5), (228, vs 6), (229, vs 7), (230, vs 8), (231, vs 9), (221, vs 10), (232, vs 11), (233, vs 12), (17, vs 13)]) _
  rw [d0, d1, d2, d3, d4, d5, d6, d7, d8, d12]
  obtain ⟨ra, rc, e9, hrr⟩ := d13
  rw [e9]
  refine zA <| ow_nil <| cw_seq ?_
  refine cw_draw tMixed kept_new 13 [234, 235, 236, 237, 238, 239, 240, 241, 242, 243, 244, 245, 246] [234, 235, 236, 237, 238, 239, 240, 241, 242, 243, 244, 245, 246] [[], [0], [1], [], [2, 3], [4], [5], [5, 6], [7], [8], [8], [8, 9, 10], [8, 11]] [fun v _ => v = (.slice (some ⟨bh, offh, none⟩) [tx].length cc), fun v _ => v = (.pointer (some ⟨bh, offh + 0 * 2, none⟩)), fun v _ => v = (.agg #[str tx.atom, .slice xa tx.parts.length xc]), fun v _ => v = (.agg #[str [105], .slice none 0 0]), fun v _ => v = (.bool (eqT tx iT)), fun v _ => v = (.bool (eqT tx iT)), fun v _ => (eqT tx iT) = true → v = (.bool (regsOf ps (nth t.parts 2).atom).isSome), fun v _ => v = (.bool (eqT tx iT && (regsOf ps (nth t.parts 2).atom).isSome)), fun v _ => v = (.bool (eqT tx iT && (regsOf ps (nth t.parts 2).atom).isSome)), fun v _ => (eqT tx iT && (regsOf ps (nth t.parts 2).atom).isSome) = true → v = (.pointer (some ⟨b, 0, none⟩)), fun v _ => (eqT tx iT && (regsOf ps (nth t.parts 2).atom).isSome) = true → v = (.slice ra ((regsOf ps (nth t.parts 2).atom).getD []).length rc), fun v _ => (eqT tx iT && (regsOf ps (nth t.parts 2).atom).isSome) = true → v = (.bool (meets st ((regsOf ps (nth t.parts 2).atom).getD []))), fun v _ => v = (.bool ((eqT tx iT && (regsOf ps (nth t.parts 2).atom).isSome) && meets st ((regsOf ps (nth t.parts 2).atom).getD [])))] (by decide) (stab_eq (stab_eq (stab_eq (stab_eq (stab_eq (stab_eq (stab_if (stab_eq (stab_eq (stab_if (stab_if (stab_if (stab_eq trivial))))))))))))) (fun wd hkd => ?_) ?_
  refine certs_cons ?_ ?_
  intro x vs w88 e hk88 hd he
  replace hk88 := kept_new.trans hkd hk88
  replace he : e = over (havoc _ x _) [] := he
  subst he
  refine zm <| ow_nil ?_
  exact ⟨kept_new.refl _, rfl, by first | exact agree_put | exact agree_refl⟩
  refine certs_cons ?_ ?_
  intro x vs w88 e hk88 hd he
  have d0 : vs 0 = (.slice (some ⟨bh, offh, none⟩) [tx].length cc) := hd
  replace hk88 := kept_new.trans hkd hk88
  replace he : e = over (havoc _ x _) [(234, vs 0)] := he
  rw [d0] at he
  subst he
  refine zi (i := 0) tSl61 tI73 rfl rfl (by simp) <| ow_nil ?_
  exact ⟨kept_new.refl _, rfl, by first | exact agree_put | exact agree_refl⟩
  refine certs_cons ?_ ?_
  intro x vs w88 e hk88 hd he
  have d1 : vs 1 = (.pointer (some ⟨bh, offh + 0 * 2, none⟩)) := hd
  replace hk88 := kept_new.trans hkd hk88
  have hx1 := hx1.ext hk88
  replace he : e = over (havoc _ x _) [(235, vs 1)] := he
  rw [d1] at he
  subst he
  refine zL tAgg73 tI73 rfl (hx1.c) (rfl) <| ow_nil ?_
  exact ⟨kept_new.refl _, rfl, by first | exact agree_put | exact agree_refl⟩
  refine certs_cons ?_ ?_
  intro x vs w88 e hk88 hd he
  replace hk88 := kept_new.trans hkd hk88
  have hb11 := hb11.ext hk88
  replace he : e = over (havoc _ x _) [] := he
  subst he
  refine zL tAgg73 tI73 rfl hb11.all rfl <| ow_nil ?_
  exact ⟨kept_new.refl _, rfl, by first | exact agree_put | exact agree_refl⟩
  refine certs_cons ?_ ?_
  intro x vs w88 e hk88 hd he
  obtain ⟨d2, d3⟩ : (vs 2 = (.agg #[str tx.atom, .slice xa tx.parts.length xc])) ∧ (vs 3 = (.agg #[str [105], .slice none 0 0])) := hd
  replace hk88 := kept_new.trans hkd hk88
  have hx1 := hx1.ext hk88
  replace he : e = over (havoc _ x _) [(236, vs 2), (237, vs 3)] := he
  rw [d2, d3] at he
  subst he
  refine ow_call rfl rfl (same_ret tx.size tx (Nat.le_refl _) (by omega) iT _ _ _ _ w88 hx1.tree (rtree_mk (L := []) (ps := []) rtrees_nil)) ?_
  rintro v89 w89 ⟨hv89, hk89⟩
  have hs89 := hk89.size
  obtain rfl := hv89
  refine ow_nil ?_
  exact ⟨kept_new.of hk89, rfl, by first | exact agree_put | exact agree_refl⟩
  refine certs_cons ?_ ?_
  intro x vs w88 e hk88 hd he
  have d4 : vs 4 = (.bool (eqT tx iT)) := hd
  replace hk88 := kept_new.trans hkd hk88
  replace he : e = over (havoc _ x _) [(238, vs 4)] := he
  rw [d4] at he
  subst he
  refine zm <| ow_nil ?_
  exact ⟨kept_new.refl _, rfl, by first | exact agree_put | exact agree_refl⟩
  refine certs_cons ?_ ?_
  intro x vs w88 e hk88 hd he
  have d5 : vs 5 = (.bool (eqT tx iT)) := hd
  replace hk88 := kept_new.trans hkd hk88
  rcases Bool.eq_false_or_eq_true (eqT tx iT) with hg | hg
  rw [hg] at d5
  replace he : e = over (havoc _ x _) [(239, vs 5)] := he
  rw [d5] at he
  subst he
  refine zm <| ow_nil ?_
  exact ⟨kept_new.refl _, (show (eqT tx iT) = true → _ = ((.bool (regsOf ps (nth t.parts 2).atom).isSome) : Value) from fun _ => rfl), by first | exact agree_put | exact agree_refl⟩
  rw [hg] at d5
  replace he : e = over (havoc _ x _) [(239, vs 5)] := he
  rw [d5] at he
  subst he
  refine zs <| ow_nil ?_
  exact ⟨kept_new.refl _, (show (eqT tx iT) = true → _ = (_ : Value) from fun hh => nomatch hg.symm.trans hh), by first | exact agree_put | exact agree_refl⟩
  refine certs_cons ?_ ?_
  intro x vs w88 e hk88 hd he
  obtain ⟨d5, d6⟩ : (vs 5 = (.bool (eqT tx iT))) ∧ ((eqT tx iT) = true → vs 6 = (.bool (regsOf ps (nth t.parts 2).atom).isSome)) := hd
  replace hk88 := kept_new.trans hkd hk88
  rcases Bool.eq_false_or_eq_true (eqT tx iT) with hg | hg
  rw [hg] at d5
  replace d6 := d6 hg
  replace he : e = over (havoc _ x _) [(239, vs 5), (240, vs 6)] := he
  rw [d5, d6] at he
  subst he
  refine zp rfl <| ow_nil ?_
  exact ⟨kept_new.refl _, by first | rfl | (rw [hg]; rfl), by first | exact agree_put | exact agree_refl⟩
  rw [hg] at d5
  replace he : e = over (havoc _ x _) [(239, vs 5), (240, vs 6)] := he
  rw [d5] at he
  subst he
  refine zp rfl <| ow_nil ?_
  exact ⟨kept_new.refl _, by first | rfl | (rw [hg]; rfl), by first | exact agree_put | exact agree_refl⟩
  refine certs_cons ?_ ?_
  intro x vs w88 e hk88 hd he
  have d7 : vs 7 = (.bool (eqT tx iT && (regsOf ps (nth t.parts 2).atom).isSome)) := hd
  replace hk88 := kept_new.trans hkd hk88
  replace he : e = over (havoc _ x _) [(241, vs 7)] := he
  rw [d7] at he
  subst he
  refine zm <| ow_nil ?_
  exact ⟨kept_new.refl _, rfl, by first | exact agree_put | exact agree_refl⟩
  refine certs_cons ?_ ?_
  intro x vs w88 e hk88 hd he
  have d8 : vs 8 = (.bool (eqT tx iT && (regsOf ps (nth t.parts 2).atom).isSome)) := hd
  replace hk88 := kept_new.trans hkd hk88
  rcases Bool.eq_false_or_eq_true (eqT tx iT && (regsOf ps (nth t.parts 2).atom).isSome) with hg | hg
  rw [hg] at d8
  replace he : e = over (havoc _ x _) [(242, vs 8)] := he
  rw [d8] at he
  subst he
  refine zm <| ow_nil ?_
  exact ⟨kept_new.refl _, (show (eqT tx iT && (regsOf ps (nth t.parts 2).atom).isSome) = true → _ = ((.pointer (some ⟨b, 0, none⟩)) : Value) from fun _ => rfl), by first | exact agree_put | exact agree_refl⟩
  rw [hg] at d8
  replace he : e = over (havoc _ x _) [(242, vs 8)] := he
  rw [d8] at he
  subst he
  refine zs <| ow_nil ?_
  exact ⟨kept_new.refl _, (show (eqT tx iT && (regsOf ps (nth t.parts 2).atom).isSome) = true → _ = (_ : Value) from fun hh => nomatch hg.symm.trans hh), by first | exact agree_put | exact agree_refl⟩
  refine certs_cons ?_ ?_
  intro x vs w88 e hk88 hd he
  have d8 : vs 8 = (.bool (eqT tx iT && (regsOf ps (nth t.parts 2).atom).isSome)) := hd
  replace hk88 := kept_new.trans hkd hk88
  rcases Bool.eq_false_or_eq_true (eqT tx iT && (regsOf ps (nth t.parts 2).atom).isSome) with hg | hg
  rw [hg] at d8
  replace he : e = over (havoc _ x _) [(242, vs 8)] := he
  rw [d8] at he
  subst he
  refine zm <| ow_nil ?_
  exact ⟨kept_new.refl _, (show (eqT tx iT && (regsOf ps (nth t.parts 2).atom).isSome) = true → _ = ((.slice ra ((regsOf ps (nth t.parts 2).atom).getD []).length rc) : Value) from fun _ => rfl), by first | exact agree_put | exact agree_refl⟩
  rw [hg] at d8
  replace he : e = over (havoc _ x _) [(242, vs 8)] := he
  rw [d8] at he
  subst he
  refine zs <| ow_nil ?_
  exact ⟨kept_new.refl _, (show (eqT tx iT && (regsOf ps (nth t.parts 2).atom).isSome) = true → _ = (_ : Value) from fun hh => nomatch hg.symm.trans hh), by first | exact agree_put | exact agree_refl⟩
  refine certs_cons ?_ ?_
  intro x vs w88 e hk88 hd he
  obtain ⟨d8, d9, d10⟩ : (vs 8 = (.bool (eqT tx iT && (regsOf ps (nth t.parts 2).atom).isSome))) ∧ ((eqT tx iT && (regsOf ps (nth t.parts 2).atom).isSome) = true → vs 9 = (.pointer (some ⟨b, 0, none⟩))) ∧ ((eqT tx iT && (regsOf ps (nth t.parts 2).atom).isSome) = true → vs 10 = (.slice ra ((regsOf ps (nth t.parts 2).atom).getD []).length rc)) := hd
  replace hk88 := kept_new.trans hkd hk88
  have hC := hC.ext hk88; have hrr := hrr.ext hk88
  rcases Bool.eq_false_or_eq_true (eqT tx iT && (regsOf ps (nth t.parts 2).atom).isSome) with hg | hg
  rw [hg] at d8
  replace d9 := d9 hg
  replace d10 := d10 hg
  replace he : e = over (havoc _ x _) [(242, vs 8), (243, vs 9), (244, vs 10)] := he
  rw [d8, d9, d10] at he
  subst he
  refine ow_call rfl rfl (stands_ret ((regsOf ps (nth t.parts 2).atom).getD []) (need_good hP _).1 (need_good hP _).2 _ b st opens _ w88 hC hFT _ _ hrr) ?_
  rintro v89 w89 ⟨hv89, hk89⟩
  have hs89 := hk89.size
  obtain rfl := hv89
  refine ow_nil ?_
  exact ⟨kept_new.of hk89, (show (eqT tx iT && (regsOf ps (nth t.parts 2).atom).isSome) = true → _ = ((.bool (meets st ((regsOf ps (nth t.parts 2).atom).getD []))) : Value) from fun _ => rfl), by first | exact agree_put | exact agree_refl⟩
  rw [hg] at d8
  replace he : e = over (havoc _ x _) [(242, vs 8), (243, vs 9), (244, vs 10)] := he
  rw [d8] at he
  subst he
  refine zs <| ow_nil ?_
  exact ⟨kept_new.refl _, (show (eqT tx iT && (regsOf ps (nth t.parts 2).atom).isSome) = true → _ = (_ : Value) from fun hh => nomatch hg.symm.trans hh), by first | exact agree_put | exact agree_refl⟩
  refine certs_cons ?_ ?_
  intro x vs w88 e hk88 hd he
  obtain ⟨d8, d11⟩ : (vs 8 = (.bool (eqT tx iT && (regsOf ps (nth t.parts 2).atom).isSome))) ∧ ((eqT tx iT && (regsOf ps (nth t.parts 2).atom).isSome) = true → vs 11 = (.bool (meets st ((regsOf ps (nth t.parts 2).atom).getD [])))) := hd
  replace hk88 := kept_new.trans hkd hk88
  rcases Bool.eq_false_or_eq_true (eqT tx iT && (regsOf ps (nth t.parts 2).atom).isSome) with hg | hg
  rw [hg] at d8
  replace d11 := d11 hg
  replace he : e = over (havoc _ x _) [(242, vs 8), (245, vs 11)] := he
  rw [d8, d11] at he
  subst he
  refine zp rfl <| ow_nil ?_
  exact ⟨kept_new.refl _, by first | rfl | (rw [hg]; rfl), by first | exact agree_put | exact agree_refl⟩
  rw [hg] at d8
  replace he : e = over (havoc _ x _) [(242, vs 8), (245, vs 11)] := he
  rw [d8] at he
  subst he
  refine zp rfl <| ow_nil ?_
  exact ⟨kept_new.refl _, by first | rfl | (rw [hg]; rfl), by first | exact agree_put | exact agree_refl⟩
  exact trivial
  intro x vs w127 hk127 hdraw
  have d0 : vs 0 = (.slice (some ⟨bh, offh, none⟩) [tx].length cc) := hdraw 0 (by decide)
  have d1 : vs 1 = (.pointer (some ⟨bh, offh + 0 * 2, none⟩)) := hdraw 1 (by decide)
  have d2 : vs 2 = (.agg #[str tx.atom, .slice xa tx.parts.length xc]) := hdraw 2 (by decide)
  have d3 : vs 3 = (.agg #[str [105], .slice none 0 0]) := hdraw 3 (by decide)
  have d4 : vs 4 = (.bool (eqT tx iT)) := hdraw 4 (by decide)
  have d5 : vs 5 = (.bool (eqT tx iT)) := hdraw 5 (by decide)
  have d6 : (eqT tx iT) = true → vs 6 = (.bool (regsOf ps (nth t.parts 2).atom).isSome) := hdraw 6 (by decide)
  have d7 : vs 7 = (.bool (eqT tx iT && (regsOf ps (nth t.parts 2).atom).isSome)) := hdraw 7 (by decide)
  have d8 : vs 8 = (.bool (eqT tx iT && (regsOf ps (nth t.parts 2).atom).isSome)) := hdraw 8 (by decide)
  have d9 : (eqT tx iT && (regsOf ps (nth t.parts 2).atom).isSome) = true → vs 9 = (.pointer (some ⟨b, 0, none⟩)) := hdraw 9 (by decide)
  have d10 : (eqT tx iT && (regsOf ps (nth t.parts 2).atom).isSome) = true → vs 10 = (.slice ra ((regsOf ps (nth t.parts 2).atom).getD []).length rc) := hdraw 10 (by decide)
  have d11 : (eqT tx iT && (regsOf ps (nth t.parts 2).atom).isSome) = true → vs 11 = (.bool (meets st ((regsOf ps (nth t.parts 2).atom).getD []))) := hdraw 11 (by decide)
  have d12 : vs 12 = (.bool ((eqT tx iT && (regsOf ps (nth t.parts 2).atom).isSome) && meets st ((regsOf ps (nth t.parts 2).atom).getD []))) := hdraw 12 (by decide)
  have hK := hK.ext hk127; have hC := hC.ext hk127
  change OW _ _ _ _ _ (over (havoc _ x _) [(234, vs 0), (235, vs 1), (236, vs 2), (237, vs 3), (238, vs 4), (239, vs 5), (240, vs 6), (241, vs 7), (242, vs 8), (243, vs 9), (244, vs 10), (245, vs 11), (246, vs 12)]) _
  rw [d0, d1, d2, d3, d4, d5, d7, d8, d12]
  refine zA <| ow_nil <| cw_ret ?_
  exact ⟨_, rfl, do_keep (zero_z hh hrx hxk.good) (by rw [opens1_no (by rw [hh]; decide)]; exact hC.weak (fun x hx => List.mem_cons_of_mem _ hx)) hK.any⟩
  have hc9 := h18
  refine zr <| ow_seql rfl rfl rfl rfl <| zA <| ow_nil <| zc rfl (fun h19 => ?_) (fun h19 => ?_)
  have hh := h19
  have hs1 : σ = [115] := by rw [hσ]; simp [shapeI, h19]
  rw [hs1] at hxs
  obtain ⟨tx, rfl, hrx⟩ := have_s hxs
  have hxk := hxok tx (by simp)
  have hxz := fits_size hxk.good hxk.fits
  have hxpl := parts_le tx
  obtain ⟨bh, offh, xa, xc, rfl, hx1⟩ := rtrees_el hO.trees (i := 0) rfl
  refine zr <| zm <| zi (i := 0) tSl61 tI73 rfl rfl (by simp) <| zL tAgg73 tI73 rfl (hx1.c) (rfl) <| ow_call rfl rfl (headI_ret tx hxk.good.wf _ _ w47 hx1.tree) ?_
  rintro v48 w48 ⟨hv48, hk48⟩
  have hs48 := hk48.size
  have hK := hK.ext hk48; have hC := hC.ext hk48; have hx1 := hx1.ext hk48
  obtain rfl := hv48
  refine ow_seql rfl rfl rfl rfl <| zm ?_
  apply ow_and 8 254 262 [254, 255, 256, 257, 258, 259, 260, 261, 262] (Keep [] w48) rfl
  intro h20
  replace h20 := tst h20
  have hJ254 := Keep.refl [] w48
  have hcq : headOf tx = [99] := (by simpa using h20)
  have hpos : 0 < tx.parts.length := Nat.pos_of_ne_zero (fun h => by rw [headOf_no (.inr (List.length_eq_zero_iff.1 h))] at hcq; cases hcq)
  obtain ⟨qb, qoff, qa, qc, he8, hy1⟩ := rtrees_el (rtree_parts hx1.tree) (nth_get (ps := tx.parts) (i := 0) hpos)
  cases he8
  refine zm <| zm <| zi (i := 0) tSl61 tI73 rfl rfl (by simp) <| zf tF73_1 rfl <| zl tOne61 rfl (hx1.c 1 _ rfl) <| ow_slice_from (l := 1) tSl61 tI73 rfl rfl rfl rfl (by omega) (rtree_parts hx1.tree) ?_
  intro vs2 hvs2
  have hvs2 : RTrees _ w48 vs2 (tx.parts.drop 1) := (show RTrees _ _ vs2 _ from by rw [RTrees, encs_drop]; exact hvs2)
  refine ow_call rfl rfl (stands_ret (tx.parts.drop 1) (by simp; omega) (fun i hi => by obtain ⟨j, hj, e⟩ := List.getElem_of_mem (List.mem_of_mem_drop (List.mem_of_getElem? (nth_get hi))); rw [← e]; exact hxk.good.part (List.getElem?_eq_getElem hj)) _ b st opens _ w48 hC hFT _ _ hvs2) ?_
  rintro v49 w49 ⟨hv49, hk49⟩
  have hs49 := hk49.size
  have hJ254 := hJ254.ext hk49
  obtain rfl := hv49
  refine zp rfl <| ow_nil ?_
  exact ⟨by repeat (first | with_reducible exact agree_refl | refine agree_upd rfl ?_ | refine agree_hav rfl ?_), rfl, hJ254⟩
  intro h20
  replace h20 := tst h20
  have hJ254 := Keep.refl [] w48
  refine zs <| zs <| zs <| zs <| zs <| zs <| zs <| zp rfl <| ow_nil ?_
  exact ⟨by repeat (first | with_reducible exact agree_refl | refine agree_upd rfl ?_ | refine agree_hav rfl ?_), rfl, hJ254⟩
  intro xx w49 hk49
  have hK := hK.ext hk49; have hC := hC.ext hk49
  refine zA <| ow_nil <| cw_ret ?_
  exact ⟨_, rfl, do_keep (jump_z hh hrx) (by rw [opens1_no (by rw [hh]; decide)]; exact hC.weak (fun x hx => List.mem_cons_of_mem _ hx)) hK.any⟩
  have hc10 := h19
  have hhalt : headOf t = [104, 97, 108, 116] := Classical.byContradiction (fun hn => hne (by rw [hσ]; simp [shapeI, hc1, hc2, hc3, hc4, hc5, hc6, hc7, hc8, hc9, hc10, hn]))
  have hs1 : σ = [115] := (by rw [hσ]; simp [shapeI, hhalt])
  rw [hs1] at hxs
  obtain ⟨tx, rfl, hrx⟩ := have_s hxs
  refine cw_skip <| zr <| zA <| ow_nil <| cw_ret ?_
  exact ⟨_, rfl, do_same (by rw [step_halt hhalt, hrx]; rfl) (by rw [opens1_no (by rw [hhalt]; decide)]; exact hC.weak (fun x hx => List.mem_cons_of_mem _ hx)) hK.any⟩
end Go.Proofs.YtnkjgoholocliaaGreatDoor

namespace Go.Proofs.YtnkjgoholocliaaGreatDoor
open Go

theorem startSt_eq (b : IBk) : startSt b.regs b.regs.length = startT b := rfl
theorem fault_ret (ps : List IBk) (hP : OkP ps) (k : Nat) (hk : k < ps.length) (hB : OkB (ith ps k)) (v : Value) (L : List Nat) (w : World) (hv : RProg L w v ps) :
    Ret Tryz.prog 120 [v, .int .i64 (k : Int)] w fun r w' => r = .int .i64 (faultT ps (ith ps k) : Int) ∧ Keep [] w w' := by
  obtain ⟨a, c, rfl⟩ := rprog_cases hv
  have hK := Keep.refl [] w
  have hlen := hP.1
  obtain ⟨b0, off0, r1, rc1, r2, rc2, rfl, hc0, hr1, hr2⟩ := rprog_get hv (ith_get hk)
  have hcl := hB.code
  have hst := startT_ok hB
  have hft : faultT ps (ith ps k) = (throughT ps (startT (ith ps k)) 0 (ith ps k).code).2 := rfl
  refine ret_of [.tmp 4] 39 Tryz.func120 rfl nm120 rfl rfl ?_
  refine zr <| zA <| ow_nil <| zr <| zm <| zm <| zi tSl58 tI63 rfl rfl (by omega) <| zf tF63_1 rfl <| zl tOne61 rfl (hc0.ext hK 1 _ rfl) <| zm <| ow_makeFuncF (vs := [.slice (some ⟨b0, off0, none⟩) ps.length c]) rfl rfl rfl <| ow_call rfl rfl (newChecking_ret (ith ps k).regs hB.regs _ _ _ _ [] w (RTrees.weak (hr1.ext hK) (by simp)) (by simp)) ?_
  rintro v1 w1 ⟨hv1, hk1⟩
  have hs1 := hk1.size
  have hK := hK.ext hk1
  obtain ⟨bc, rfl, hbc, hC⟩ := hv1
  rw [startSt_eq] at hC
  have hpv : RProg [bc] w1 _ ps := RProg.ext (Rep.fresh hv (L' := [bc]) (by intro x hx; simp at hx; subst hx; exact .inr hbc)) hK
  have hcode : RTrees [bc] w1 _ (ith ps k).code := RTrees.ext (Rep.fresh hr2 (L' := [bc]) (by intro x hx; simp at hx; subst hx; exact .inr hbc)) hK
  refine zA <| ow_nil <| cw_seq <| zr <| zm <| zm <| zi tSl58 tI63 rfl rfl (by omega) <| zf tF63_2 rfl <| zl tOne61 rfl (hc0.ext hK 2 _ rfl) <| ow_len tSl61 rfl rfl rfl <| zm <| ow_nil <| cw_block ?_
  have hKs0 := Keep.refl [bc] w1
  have hs0 := hK.size
  refine cw_loop (fun q : Nat × TS × Nat => [(0, .slice (some ⟨b0, off0, none⟩) ps.length c), (1, .int .i64 (k : Int)), (5, .pointer (some ⟨bc, 0, none⟩)), (20, .slice r2 (ith ps k).code.length rc2), (21, .int .i64 ((ith ps k).code.length : Int)), (22, .int .i64 (q.1 : Int))]) (fun q w' => Keep [] w w' ∧ Keep [bc] w1 w' ∧ Chk [] w' bc 153 q.2.1 q.2.2 (regsFn (.slice (some ⟨b0, off0, none⟩) ps.length c)) ∧ OkTS q.2.1 ∧ q.2.1.length = 40 ∧ q.2.2 ≤ q.1 ∧ q.1 ≤ (ith ps k).code.length ∧ faultT ps (ith ps k) = q.1 + (throughT ps q.2.1 q.2.2 ((ith ps k).code.drop q.1)).2) (fun q => (ith ps k).code.length - q.1) ((0, startT (ith ps k), 0)) (⟨rfl, rfl, rfl, rfl, rfl, rfl⟩) (⟨hK, hKs0, hC, hst.1, hst.2, by simp, by simp, by rw [hft]; simp only [List.drop_zero, Nat.zero_add]⟩) ?_
  intro gg w2 e2 hI
  obtain ⟨i, st, o⟩ := gg
  dsimp only at hI ⊢
  obtain ⟨hK, hKs, hC, hS, hl40, ho, hi, hq⟩ := hI
  have hsz := hK.size
  have hszs := hKs.size
  refine zr <| ow_lss rfl rfl rfl rfl rfl <| ow_nil <| cw_seq <| zc rfl (fun h1 => ?_) (fun h1 => ?_)
  have hgt := nth_get (ps := (ith ps k).code) (i := i) (by omega)
  obtain ⟨_, _, pa, pc, rfl, hE⟩ := rtrees_el (RTrees.sto hcode hKs (by simp)) hgt
  have hpv2 := RProg.sto hpv hKs (by simp)
  obtain ⟨hf, hg, hin⟩ := hB.cok _ (List.mem_of_getElem? hgt)
  rw [drop_nth (show i < (ith ps k).code.length by omega)] at hq
  refine cw_skip <| cw_seq <| cw_block <| zr <| zm <| zi tSl61 tI73 rfl rfl (by omega) <| zL tAgg73 tI73 rfl (hE.c) (rfl) <| ow_allocA tI73 rfl rfl rfl ?_
  intro w3 hk3 hb7 hz3
  have hK := hK.grow; have hK := hK.ext hk3; have hKs := hKs.grow; have hKs := hKs.ext hk3; have hC := hC.grow; have hC := hC.ext hk3; have hE := hE.grow; have hE := hE.ext hk3; have hpv2 := hpv2.grow; have hpv2 := hpv2.ext hk3
  refine zA <| ow_storeA tI73 rfl rfl rfl rfl rfl hb7 rfl ?_
  intro w4 hk4 hb7 hz4
  have hK := hK.sto hk4 (by simp <;> omega); have hKs := hKs.sto hk4 (by simp <;> omega); have hC := hC.sto hk4 (by simp <;> omega); have hE := hE.sto hk4 (by simp <;> omega); have hpv2 := hpv2.sto hk4 (by simp <;> omega)
  refine ow_nil <| zr <| zm <| zL tAgg73 tI73 rfl hb7.all rfl <| ow_call rfl rfl (do_ret ps hP _ _ bc st hS o (by omega) w4 hC (RProg.weak hpv2 (by intro x hx; simp at hx ⊢; rcases hx with h | h <;> simp [h])) (by intro x hx; simp at hx; subst hx; exact hb7.lt) (nth (ith ps k).code i) hf hg hin _ (RTree.weak hE.tree (by intro x hx; simp at hx ⊢; rcases hx with h | h <;> simp [h]))) ?_
  rintro _ w5 ⟨rfl, hC2, hkb⟩
  have hK := hK.since hkb (by intro x hx; simp at hx; subst hx; exact .inr hbc)
  have hKs := hKs.trans hkb
  refine ow_not rfl rfl rfl <| ow_nil <| zc rfl (fun h2 => ?_) (fun h2 => ?_)
  have hno : stepT ps st o (nth (ith ps k).code i) = none := (by simpa using h2)
  rw [through_none hno] at hq
  refine zr <| zm <| zA <| ow_nil <| cw_ret ?_
  exact ⟨_, rfl, by rw [hq]; rfl, hK⟩
  obtain ⟨st', hst'⟩ : ∃ st', stepT ps st o (nth (ith ps k).code i) = some st' := (by cases hx : stepT ps st o (nth (ith ps k).code i) with | none => rw [hx] at h2; simp at h2 | some y => exact ⟨y, rfl⟩)
  rw [through_some hst'] at hq
  have hC3 := hC2 st' hst'
  obtain ⟨hS2, hl2⟩ := step_ok hP hS hl40 hg hin hst'
  have ho2 : opens1 o (nth (ith ps k).code i) ≤ i + 1 := (by unfold opens1; split <;> omega)
  refine cw_skip <| cw_region <| ow_add rfl rfl rfl rfl rfl (wrap_i64 _ (by omega) (by omega)) <| zm <| ow_nil ?_
  exact ⟨(i + 1, st', opens1 o (nth (ith ps k).code i)), ⟨rfl, rfl, rfl, rfl, rfl, rfl⟩, ⟨hK, hKs, hC3.weak (by simp), hS2, hl2, ho2, by dsimp only; omega, by dsimp only; omega⟩, by dsimp only; omega⟩
  have hie : i = (ith ps k).code.length := by omega
  rw [hie, List.drop_length] at hq
  have hq2 : faultT ps (ith ps k) = (ith ps k).code.length := (by rw [hq]; rfl)
  refine cw_exit <| x_hit rfl <| zr <| zm <| zm <| zi tSl58 tI63 rfl rfl (by omega) <| zf tF63_2 rfl <| zl tOne61 rfl (hc0.ext hK 2 _ rfl) <| ow_len tSl61 rfl rfl rfl <| zA <| ow_nil <| cw_ret ?_
  exact ⟨_, rfl, by rw [hq2]; rfl, hK⟩

theorem checks_ret (ps : List IBk) (hP : OkP ps) (k : Nat) (hk : k < ps.length) (hB : OkB (ith ps k)) (v : Value) (L : List Nat) (w : World) (hv : RProg L w v ps) :
    Ret Tryz.prog 91 [v, .int .i64 (k : Int)] w fun r w' => r = .bool (checksT ps (ith ps k)) ∧ Keep [] w w' := by
  have hv0 := hv
  obtain ⟨a, c, rfl⟩ := rprog_cases hv
  have hK := Keep.refl [] w
  have hlen := hP.1
  obtain ⟨b0, off0, r1, rc1, r2, rc2, rfl, hc0, hr1, hr2⟩ := rprog_get hv (ith_get hk)
  have hcl := hB.code
  have hKl := Keep.refl [] w
  refine ret_of [.tmp 4] 15 Tryz.func91 rfl nm91 rfl rfl ?_
  refine zr <| zA <| ow_nil <| cw_seq ?_
  refine cw_draw tMixed kept_new 10 [5, 6, 7, 8, 9, 10, 11, 12, 13, 14] [5, 6, 7, 8, 9, 10, 11, 12, 13, 14] [[], [], [0, 1], [], [], [3, 4], [5], [6], [7], [2, 8]] [fun v _ => v = (.slice (some ⟨b0, off0, none⟩) ps.length c), fun v _ => v = (.int .i64 (k : Int)), fun v _ => v = (.int .i64 (faultT ps (ith ps k) : Int)), fun v _ => v = (.slice (some ⟨b0, off0, none⟩) ps.length c), fun v _ => v = (.int .i64 (k : Int)), fun v _ => v = (.pointer (some ⟨b0, off0 + k * 3, none⟩)), fun v _ => v = (.pointer (some ⟨b0, off0 + k * 3 + 2, none⟩)), fun v _ => v = (.slice r2 (ith ps k).code.length rc2), fun v _ => v = (.int .i64 ((ith ps k).code.length : Int)), fun v _ => v = (.bool (decide ((faultT ps (ith ps k) : Int) = ((ith ps k).code.length : Int))))] (by decide) (stab_eq (stab_eq (stab_eq (stab_eq (stab_eq (stab_eq (stab_eq (stab_eq (stab_eq (stab_eq trivial)))))))))) (fun wd hkd => ?_) ?_
  refine certs_cons ?_ ?_
  intro x vs w1 e hk1 hd he
  replace hk1 := kept_new.trans hkd hk1
  replace he : e = over (havoc _ x _) [] := he
  subst he
  refine zm <| ow_nil ?_
  exact ⟨kept_new.refl _, rfl, by first | exact agree_put | exact agree_refl⟩
  refine certs_cons ?_ ?_
  intro x vs w1 e hk1 hd he
  replace hk1 := kept_new.trans hkd hk1
  replace he : e = over (havoc _ x _) [] := he
  subst he
  refine zm <| ow_nil ?_
  exact ⟨kept_new.refl _, rfl, by first | exact agree_put | exact agree_refl⟩
  refine certs_cons ?_ ?_
  intro x vs w1 e hk1 hd he
  obtain ⟨d0, d1⟩ : (vs 0 = (.slice (some ⟨b0, off0, none⟩) ps.length c)) ∧ (vs 1 = (.int .i64 (k : Int))) := hd
  replace hk1 := kept_new.trans hkd hk1
  have hKl := hKl.ext hk1
  replace he : e = over (havoc _ x _) [(5, vs 0), (6, vs 1)] := he
  rw [d0, d1] at he
  subst he
  refine ow_call rfl rfl (fault_ret ps hP k hk hB _ L w1 (hv0.ext hKl)) ?_
  rintro v2 w2 ⟨hv2, hk2⟩
  have hs2 := hk2.size
  obtain rfl := hv2
  refine ow_nil ?_
  exact ⟨kept_new.of hk2, rfl, by first | exact agree_put | exact agree_refl⟩
  refine certs_cons ?_ ?_
  intro x vs w1 e hk1 hd he
  replace hk1 := kept_new.trans hkd hk1
  replace he : e = over (havoc _ x _) [] := he
  subst he
  refine zm <| ow_nil ?_
  exact ⟨kept_new.refl _, rfl, by first | exact agree_put | exact agree_refl⟩
  refine certs_cons ?_ ?_
  intro x vs w1 e hk1 hd he
  replace hk1 := kept_new.trans hkd hk1
  replace he : e = over (havoc _ x _) [] := he
  subst he
  refine zm <| ow_nil ?_
  exact ⟨kept_new.refl _, rfl, by first | exact agree_put | exact agree_refl⟩
  refine certs_cons ?_ ?_
  intro x vs w1 e hk1 hd he
  obtain ⟨d3, d4⟩ : (vs 3 = (.slice (some ⟨b0, off0, none⟩) ps.length c)) ∧ (vs 4 = (.int .i64 (k : Int))) := hd
  replace hk1 := kept_new.trans hkd hk1
  replace he : e = over (havoc _ x _) [(8, vs 3), (9, vs 4)] := he
  rw [d3, d4] at he
  subst he
  refine zi tSl58 tI63 rfl rfl (by omega) <| ow_nil ?_
  exact ⟨kept_new.refl _, rfl, by first | exact agree_put | exact agree_refl⟩
  refine certs_cons ?_ ?_
  intro x vs w1 e hk1 hd he
  have d5 : vs 5 = (.pointer (some ⟨b0, off0 + k * 3, none⟩)) := hd
  replace hk1 := kept_new.trans hkd hk1
  replace he : e = over (havoc _ x _) [(10, vs 5)] := he
  rw [d5] at he
  subst he
  refine zf tF63_2 rfl <| ow_nil ?_
  exact ⟨kept_new.refl _, rfl, by first | exact agree_put | exact agree_refl⟩
  refine certs_cons ?_ ?_
  intro x vs w1 e hk1 hd he
  have d6 : vs 6 = (.pointer (some ⟨b0, off0 + k * 3 + 2, none⟩)) := hd
  replace hk1 := kept_new.trans hkd hk1
  have hKl := hKl.ext hk1
  replace he : e = over (havoc _ x _) [(11, vs 6)] := he
  rw [d6] at he
  subst he
  refine zl tOne61 rfl (hc0.ext hKl 2 _ rfl) <| ow_nil ?_
  exact ⟨kept_new.refl _, rfl, by first | exact agree_put | exact agree_refl⟩
  refine certs_cons ?_ ?_
  intro x vs w1 e hk1 hd he
  have d7 : vs 7 = (.slice r2 (ith ps k).code.length rc2) := hd
  replace hk1 := kept_new.trans hkd hk1
  replace he : e = over (havoc _ x _) [(12, vs 7)] := he
  rw [d7] at he
  subst he
  refine ow_len tSl61 rfl rfl rfl <| ow_nil ?_
  exact ⟨kept_new.refl _, rfl, by first | exact agree_put | exact agree_refl⟩
  refine certs_cons ?_ ?_
  intro x vs w1 e hk1 hd he
  obtain ⟨d2, d8⟩ : (vs 2 = (.int .i64 (faultT ps (ith ps k) : Int))) ∧ (vs 8 = (.int .i64 ((ith ps k).code.length : Int))) := hd
  replace hk1 := kept_new.trans hkd hk1
  replace he : e = over (havoc _ x _) [(7, vs 2), (13, vs 8)] := he
  rw [d2, d8] at he
  subst he
  refine ow_eql rfl rfl rfl rfl rfl <| ow_nil ?_
  exact ⟨kept_new.refl _, rfl, by first | exact agree_put | exact agree_refl⟩
  exact trivial
  intro x vs w40 hk40 hdraw
  have d0 : vs 0 = (.slice (some ⟨b0, off0, none⟩) ps.length c) := hdraw 0 (by decide)
  have d1 : vs 1 = (.int .i64 (k : Int)) := hdraw 1 (by decide)
  have d2 : vs 2 = (.int .i64 (faultT ps (ith ps k) : Int)) := hdraw 2 (by decide)
  have d3 : vs 3 = (.slice (some ⟨b0, off0, none⟩) ps.length c) := hdraw 3 (by decide)
  have d4 : vs 4 = (.int .i64 (k : Int)) := hdraw 4 (by decide)
  have d5 : vs 5 = (.pointer (some ⟨b0, off0 + k * 3, none⟩)) := hdraw 5 (by decide)
  have d6 : vs 6 = (.pointer (some ⟨b0, off0 + k * 3 + 2, none⟩)) := hdraw 6 (by decide)
  have d7 : vs 7 = (.slice r2 (ith ps k).code.length rc2) := hdraw 7 (by decide)
  have d8 : vs 8 = (.int .i64 ((ith ps k).code.length : Int)) := hdraw 8 (by decide)
  have d9 : vs 9 = (.bool (decide ((faultT ps (ith ps k) : Int) = ((ith ps k).code.length : Int)))) := hdraw 9 (by decide)
  have hK := hK.ext hk40
  change OW _ _ _ _ _ (over (havoc _ x _) [(5, vs 0), (6, vs 1), (7, vs 2), (8, vs 3), (9, vs 4), (10, vs 5), (11, vs 6), (12, vs 7), (13, vs 8), (14, vs 9)]) _
  rw [d0, d1, d2, d3, d4, d5, d6, d7, d8, d9]
  refine zA <| ow_nil <| cw_ret ?_
  exact ⟨_, rfl, congrArg Value.bool (by unfold checksT; exact decide_eq_decide.2 (by omega)), hK⟩

theorem allCheck_ret (ps : List IBk) (hP : OkP ps) (hB : ∀ b, b ∈ ps → OkB b) (v : Value) (L : List Nat) (w : World) (hv : RProg L w v ps) :
    Ret Tryz.prog 94 [v] w fun r w' => r = .bool (ps.all (checksT ps)) ∧ Keep [] w w' := by
  have hv0 := hv
  obtain ⟨a, c, rfl⟩ := rprog_cases hv
  have hK := Keep.refl [] w
  have hlen := hP.1
  refine ret_of [.tmp 2] 14 Tryz.func94 rfl nm94 rfl rfl ?_
  refine zr <| zA <| ow_nil <| cw_seq <| zr <| zm <| ow_len tSl58 rfl rfl rfl <| zm <| ow_nil <| cw_block ?_
  refine cw_loop (fun k : Nat => [(0, .slice a ps.length c), (5, .int .i64 (ps.length : Int)), (6, .int .i64 (k : Int))]) (fun k w' => Keep [] w w' ∧ k ≤ ps.length ∧ ∀ i, i < k → checksT ps (ith ps i) = true) (fun k => ps.length - k) (0) (⟨rfl, rfl, rfl⟩) (⟨hK, by omega, by intro i hi; omega⟩) ?_
  intro gg w1 e1 hI
  obtain ⟨hK, hk, hall⟩ := hI
  refine zr <| ow_lss rfl rfl rfl rfl rfl <| ow_nil <| cw_seq <| zc rfl (fun h1 => ?_) (fun h1 => ?_)
  have hgm := List.mem_of_getElem? (ith_get (ps := ps) (i := gg) (by omega))
  refine cw_skip <| cw_seq <| cw_block <| zr <| zm <| zA <| ow_nil <| zr <| zm <| zm <| ow_call rfl rfl (checks_ret ps hP gg (by omega) (hB _ hgm) _ L w1 (hv0.ext hK)) ?_
  rintro v2 w2 ⟨hv2, hk2⟩
  have hs2 := hk2.size
  have hK := hK.ext hk2
  obtain rfl := hv2
  refine ow_not rfl rfl rfl <| ow_nil <| zc rfl (fun h2 => ?_) (fun h2 => ?_)
  have hq : ps.all (checksT ps) = false := (by cases hx : ps.all (checksT ps) with | false => rfl | true => rw [List.all_eq_true] at hx; have := hx _ hgm; rw [this] at h2; cases h2)
  refine zr <| zA <| ow_nil <| cw_ret ?_
  exact ⟨_, rfl, by rw [hq]; rfl, hK⟩
  have hyes : checksT ps (ith ps gg) = true := by simpa using h2
  refine cw_skip <| cw_region <| ow_add rfl rfl rfl rfl rfl (wrap_i64 _ (by omega) (by omega)) <| zm <| ow_nil ?_
  exact ⟨gg + 1, ⟨rfl, rfl, rfl⟩, ⟨hK, by omega, by intro i hi; rcases Nat.lt_or_ge i gg with h | h; exact hall i h; rw [show i = gg by omega]; exact hyes⟩, by omega⟩
  have hq : ps.all (checksT ps) = true := List.all_eq_true.2 (fun b hb => by obtain ⟨i, hi, rfl⟩ := List.getElem_of_mem hb; rw [← ith_elem hi]; exact hall i (by omega))
  refine cw_exit <| x_hit rfl <| zr <| zA <| ow_nil <| cw_ret ?_
  exact ⟨_, rfl, by rw [hq]; rfl, hK⟩

theorem ICheck_ret (bs : List Bk) (hs : Smalls bs) (v : Value) (La : List Nat) (w : World) (hv : RBks La w v bs) :
    Ret Tryz.prog 87 [v] w fun r w' => r = .bool (progI bs && (bs.map bkI).all (checksT (bs.map bkI))) ∧ Keep [] w w' := by
  have hK := Keep.refl [] w
  refine ret_of [.tmp 2] 15 Tryz.func87 rfl nm87 rfl rfl ?_
  refine zr <| zA <| ow_nil <| zr <| zm <| ow_call rfl rfl (readProgram_ret bs hs _ La [] w hv (by simp)) ?_
  rintro v1 w1 ⟨hv1, hk1⟩
  have hs1 := hk1.size
  have hK := hK.ext hk1
  obtain ⟨ps, pv, rfl, hp, hpe⟩ := hv1
  refine zm <| zx (i := 0) rfl rfl <| zx (i := 1) rfl rfl <| zA <| zA <| ow_nil <| zr <| zm <| zm <| ow_split (t := 11) rfl (fun h1 => ?_) (fun h1 => ?_)
  replace h1 := tst h1
  have hpi := h1
  obtain rfl := hpe hpi
  have hpb : progB bs = true := (by unfold progI at hpi; rw [Bool.and_eq_true] at hpi; exact hpi.1)
  obtain ⟨hP, hB⟩ := okP_of hpb
  refine zm <| ow_call rfl rfl (allCheck_ret (bs.map bkI) hP hB _ _ w1 hp) ?_
  rintro v2 w2 ⟨hv2, hk2⟩
  have hs2 := hk2.size
  have hK := hK.ext hk2
  obtain rfl := hv2
  refine zp rfl <| zA <| ow_nil <| cw_ret ?_
  exact ⟨_, rfl, by rw [hpi]; rfl, hK⟩
  replace h1 := tst h1
  have hpi := h1
  refine zs <| zs <| zp rfl <| zA <| ow_nil <| cw_ret ?_
  exact ⟨_, rfl, by rw [hpi]; rfl, hK⟩

/-- What 'ProgramLoad' answers. -/
def loadP (s : Bytes) : Option (List Bk) := match fromP s with
  | none => none
  | some bs => if (bs.map bkI).all (checksT (bs.map bkI)) then some bs else none
end Go.Proofs.YtnkjgoholocliaaGreatDoor
