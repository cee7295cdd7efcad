/-
  Lemmas for the law of ProgramLoad, no statement of their own: plain facts on forms, texts, instructions and programs.
-/
import Derived.Test.YtnkjgoholocliaaGreatDoorOb
import Derived.Lib.Atoi
import Derived.Lib.Strings
namespace Go.Proofs.YtnkjgoholocliaaGreatDoor
open Go

theorem trim_dgs (s : Bytes) : Lib.trimPrefix s [45] = dgs s := by
  unfold Lib.trimPrefix Lib.hasPrefix dgs
  cases s with
  | nil => simp
  | cons c r =>
    by_cases h : c = 45
    · subst h; simp
    · have h2 : ((45 : UInt8) == c) = false := by simpa using fun he => h he.symm
      simp [List.isPrefixOf, h2, h]
theorem decFrom_val : ∀ (l : Bytes) (n : Nat), l.all dig = true → Lib.decFrom n l = some (l.foldl (fun n c => 10 * n + (c.toNat - 48)) n)
  | [], n, _ => rfl
  | c :: r, n, h => by
    simp only [List.all_cons, Bool.and_eq_true] at h
    have hc := (dig_iff c).1 h.1
    have hd : Lib.digitVal c = some (c.toNat - 48) := by unfold Lib.digitVal; rw [if_pos hc]
    simp only [Lib.decFrom, hd, List.foldl_cons]
    rw [show n * 10 + (c.toNat - 48) = 10 * n + (c.toNat - 48) from by omega]
    exact decFrom_val r _ h.2
theorem decNat_val {l : Bytes} (hl : l ≠ []) (h : l.all dig = true) : Lib.decNat l = some (val l) := by
  unfold Lib.decNat
  rw [if_neg (by simpa using hl)]
  exact decFrom_val l 0 h
theorem atoi_numeral {s : Bytes} {z : Int} (h : numeral s = some z) : Lib.atoi s = some z := by
  unfold numeral at h
  by_cases h0 : s = [48]
  · rw [if_pos h0] at h; subst h0; rw [← h]; decide
  · rw [if_neg h0] at h
    by_cases h1 : (dgs s).length < 1 ∨ 3 < (dgs s).length ∨ (dgs s).getD 0 0 = 48
    · rw [if_pos h1] at h; cases h
    · rw [if_neg h1] at h
      by_cases h2 : (dgs s).all dig = true
      · rw [if_pos h2] at h
        have hne : dgs s ≠ [] := fun he => h1 (.inl (by rw [he]; simp))
        have hv := decNat_val hne h2
        cases s with
        | nil => exact absurd (by unfold dgs; simp) hne
        | cons c r =>
          by_cases hc : c = 45
          · subst hc
            have hd : dgs (45 :: r) = r := by unfold dgs; simp
            have hs : sgn (45 :: r) = -1 := by unfold sgn; simp
            rw [hd] at hv h
            rw [hs] at h
            simp only [Lib.atoi, hv, beq_self_eq_true, if_true, Option.map_some]
            rw [← h]; simp
          · have hd : dgs (c :: r) = c :: r := by unfold dgs; simp [hc]
            have hs : sgn (c :: r) = 1 := by unfold sgn; simp [hc]
            rw [hd] at hv h h2
            rw [hs] at h
            have hcd := (dig_iff c).1 (by simp only [List.all_cons, Bool.and_eq_true] at h2; exact h2.1)
            have e1 : (c == 45) = false := by simpa using hc
            have e2 : (c == 43) = false := by
              have : c ≠ 43 := fun he => by rw [he] at hcd; exact absurd hcd.1 (by decide)
              simpa using this
            simp only [Lib.atoi, e1, e2, hv, Bool.false_eq_true, if_false, Option.map_some]
            rw [← h]; simp
      · rw [if_neg h2] at h; cases h
theorem numeral_short {s : Bytes} {z : Int} (h : numeral s = some z) : s.length ≤ 4 := by
  unfold numeral at h
  by_cases h0 : s = [48]
  · rw [h0]; simp
  · rw [if_neg h0] at h
    by_cases h1 : (dgs s).length < 1 ∨ 3 < (dgs s).length ∨ (dgs s).getD 0 0 = 48
    · rw [if_pos h1] at h; cases h
    · have : s.length ≤ (dgs s).length + 1 := by unfold dgs; split <;> simp <;> omega
      omega
theorem numeral_some (s : Bytes) : (decide (s = [48]) || (decide (1 ≤ (dgs s).length) && decide ((dgs s).length ≤ 3) && (dgs s).all dig && decide ((dgs s).getD 0 0 ≠ 48))) = (numeral s).isSome := by
  unfold numeral
  by_cases h0 : s = [48]
  · rw [if_pos h0, decide_eq_true h0]; rfl
  · rw [if_neg h0, decide_eq_false h0, Bool.false_or]
    by_cases h1 : (dgs s).length < 1 ∨ 3 < (dgs s).length ∨ (dgs s).getD 0 0 = 48
    · rw [if_pos h1]
      rcases h1 with h | h | h
      · rw [decide_eq_false (p := 1 ≤ (dgs s).length) (by omega)]; rfl
      · rw [decide_eq_false (p := (dgs s).length ≤ 3) (by omega)]; simp
      · rw [decide_eq_false (p := (dgs s).getD 0 0 ≠ 48) (fun hh => hh h)]; simp
    · rw [if_neg h1]
      rw [decide_eq_true (p := 1 ≤ (dgs s).length) (by omega), decide_eq_true (p := (dgs s).length ≤ 3) (by omega), decide_eq_true (p := (dgs s).getD 0 0 ≠ 48) (fun hh => h1 (.inr (.inr hh)))]
      cases h2 : (dgs s).all dig <;> simp
theorem isReg_eq (s : Bytes) : ((numeral s).isSome && (decide (0 ≤ (numeral s).getD 0) && decide ((numeral s).getD 0 ≤ 39))) = isReg s := by
  unfold isReg regZ
  cases h : numeral s with
  | none => simp
  | some n =>
    simp only [Option.isSome_some, Bool.true_and, Option.getD_some]
    rw [← Bool.decide_and]
    exact decide_eq_decide.2 (by split <;> omega)
theorem all_no {s : Bytes} {k : Nat} (hk : k < s.length) (h : dig (s.getD k 0) = false) : s.all dig = false := by
  cases ha : s.all dig with
  | false => rfl
  | true =>
    have := List.all_eq_true.1 ha (s.getD k 0) (by rw [List.getD_eq_getElem?_getD, List.getElem?_eq_getElem hk]; exact List.getElem_mem hk)
    rw [h] at this; cases this
theorem numeral_z (s : Bytes) : (decide (s = [48]) || (decide ((1 : Int) ≤ ((dgs s).length : Int)) && decide (((dgs s).length : Int) ≤ 3) && (dgs s).all dig && decide ((((dgs s).getD 0 0).toNat : Int) ≠ 48))) = (numeral s).isSome := by
  rw [← numeral_some, show decide ((1 : Int) ≤ ((dgs s).length : Int)) = decide (1 ≤ (dgs s).length) from decide_eq_decide.2 (by omega), show decide (((dgs s).length : Int) ≤ 3) = decide ((dgs s).length ≤ 3) from decide_eq_decide.2 (by omega),
    show decide ((((dgs s).getD 0 0).toNat : Int) ≠ 48) = decide ((dgs s).getD 0 0 ≠ 48) from decide_eq_decide.2 (by
      have h48 : (48 : UInt8).toNat = 48 := rfl
      constructor
      · intro h h2; exact h (by rw [h2]; rfl)
      · intro h h2; exact h (UInt8.toNat_inj.1 (by omega)))]
def idxZ (ts : List Tree) (g : Tree → Bool) : Int := match ts.findIdx? g with
  | some i => (i : Int)
  | none => -1
theorem nth_elem {ts : List Tree} {i : Nat} (h : i < ts.length) : nth ts i = ts[i] := by simp [nth, List.getD, List.getElem?_eq_getElem h]
theorem idxZ_at {ts : List Tree} {g : Tree → Bool} {k : Nat} (hk : k < ts.length) (h : ∀ i, i < k → g (nth ts i) = false) (hl : g (nth ts k) = true) : idxZ ts g = (k : Int) := by
  have : ts.findIdx? g = some k := by
    rw [List.findIdx?_eq_some_iff_getElem]
    refine ⟨hk, by rw [← nth_elem hk]; exact hl, fun j hj => ?_⟩
    have := h j hj
    rw [nth_elem (Nat.lt_trans hj hk)] at this
    simpa using this
  unfold idxZ; rw [this]
theorem idxZ_no {ts : List Tree} {g : Tree → Bool} (h : ∀ i, i < ts.length → g (nth ts i) = false) : idxZ ts g = -1 := by
  have : ts.findIdx? g = none := by
    rw [List.findIdx?_eq_none_iff]
    intro b hb
    obtain ⟨i, hi, rfl⟩ := List.getElem_of_mem hb
    have := h i hi
    rw [nth_elem hi] at this
    simpa using this
  unfold idxZ; rw [this]
theorem idxZ_any (ts : List Tree) (g : Tree → Bool) : decide (0 ≤ idxZ ts g) = ts.any g := by
  unfold idxZ
  cases h : ts.findIdx? g with
  | none =>
    rw [List.findIdx?_eq_none_iff] at h
    have : ts.any g = false := by rw [List.any_eq_false]; intro x hx; simpa using h x hx
    rw [this]; rfl
  | some i =>
    rw [List.findIdx?_eq_some_iff_getElem] at h
    obtain ⟨hi, hg, _⟩ := h
    have : ts.any g = true := List.any_eq_true.2 ⟨_, List.getElem_mem hi, hg⟩
    rw [this]; exact decide_eq_true (Int.natCast_nonneg i)
/-- The kinds of parts as the program has them, for a form of n parts. -/
def shapeI (h : Bytes) (n : Nat) : Bytes :=
  if h = [99, 111, 110, 115, 116] then [100, 110]
  else if h = [109, 111, 118] ∨ h = [111, 112, 101, 110] then [100, 115]
  else if h = [97, 100, 100] ∨ h = [115, 117, 98] ∨ h = [109, 117, 108] then [100, 115, 115]
  else if h = [110, 101, 119] then [100] ++ List.replicate (n - 2) 115
  else if h = [103, 101, 116] then [100, 115, 109]
  else if h = [108, 97, 98] then [100, 108]
  else if h = [112, 97, 99, 107] then [100, 115, 69, 87]
  else if h = [122, 101, 114, 111] then [115, 108]
  else if h = [106, 117, 109, 112] ∨ h = [104, 97, 108, 116] then [115]
  else []
end Go.Proofs.YtnkjgoholocliaaGreatDoor

namespace Go.Proofs.YtnkjgoholocliaaGreatDoor

/-- A part of an instruction, by the program's letter. -/
def partI (z : Int) (t : Tree) : Bool :=
  if z = 100 ∨ z = 115 then isReg t.atom else if z = 110 then (numeral t.atom).isSome
  else if z = 109 then (numeral t.atom).isSome && decide (0 ≤ (numeral t.atom).getD 0)
  else if z = 108 then isLabel t.atom else if z = 69 then (decide (t.parts.length = 2) && decide (headOf t = [101])) && targetB false t
  else if z = 87 then targetB false t else false
def instrI (t : Tree) : Bool :=
  if shapeI (headOf t) t.parts.length = [] ∨ t.parts.length ≠ (shapeI (headOf t) t.parts.length).length + 1 then false
  else decide (∀ i, i < (shapeI (headOf t) t.parts.length).length → partI (((shapeI (headOf t) t.parts.length).getD i 0).toNat : Int) (nth t.parts (i + 1)) = true)

theorem instrI_no {t : Tree} (h : shapeI (headOf t) t.parts.length = [] ∨ t.parts.length ≠ (shapeI (headOf t) t.parts.length).length + 1) : instrI t = false := by
  unfold instrI; rw [if_pos h]
theorem instrI_part {t : Tree} {i : Nat} (hi : i < (shapeI (headOf t) t.parts.length).length) (h : partI (((shapeI (headOf t) t.parts.length).getD i 0).toNat : Int) (nth t.parts (i + 1)) = false) : instrI t = false := by
  unfold instrI; split
  · rfl
  · exact decide_eq_false (fun hh => by have := hh i hi; rw [h] at this; cases this)
theorem instrI_yes {t : Tree} (h : ¬ (shapeI (headOf t) t.parts.length = [] ∨ t.parts.length ≠ (shapeI (headOf t) t.parts.length).length + 1))
    (ha : ∀ i, i < (shapeI (headOf t) t.parts.length).length → partI (((shapeI (headOf t) t.parts.length).getD i 0).toNat : Int) (nth t.parts (i + 1)) = true) : instrI t = true := by
  unfold instrI; rw [if_neg h, decide_eq_true ha]

theorem shift {n : Nat} {P Q : Nat → Prop} (h : ∀ i, i < n → (P i ↔ Q (i + 1))) : (∀ i, i < n → P i) ↔ (∀ i, i < n + 1 → 1 ≤ i → Q i) := by
  constructor
  · intro hp i hi h1
    have := (h (i - 1) (by omega)).1 (hp (i - 1) (by omega))
    rwa [show i - 1 + 1 = i from by omega] at this
  · intro hq i hi
    exact (h i hi).2 (hq (i + 1) (by omega) (by omega))

theorem instr_fix {t : Tree} (σ τ : Bytes) (ex : Nat → Tree → Bool) (h1 : shapeI (headOf t) t.parts.length = σ) (h2 : shapeOf (headOf t) = τ) (hl : σ.length = τ.length) (hne : τ ≠ []) (hstar : τ ≠ [114, 42])
    (hp : ∀ i u, i < τ.length → partI ((σ.getD i 0).toNat : Int) u = (partZ ((τ.getD i 0).toNat : Int) u && ex i u))
    (hx : t.parts.length = τ.length + 1 → (decide (headOf t ≠ [103, 101, 116]) || decide (0 ≤ (numeral (nth t.parts 3).atom).getD 0)) = decide (∀ i, i < τ.length → ex i (nth t.parts (i + 1)) = true)) : instrI t = instrB t := by
  have hτ : 1 ≤ τ.length := List.length_pos_iff.2 hne
  have hσ : σ ≠ [] := fun h => by rw [h] at hl; simp at hl; omega
  by_cases hn : t.parts.length = τ.length + 1
  · unfold instrI instrB lenB
    rw [h1, h2, if_neg (by rw [hl]; rintro (h | h); exact hσ h; exact h hn), if_neg hne, hx hn]
    rw [if_neg (by rw [decide_eq_false (p := t.parts.length ≠ τ.length + 1) (by omega), decide_eq_false (p := t.parts.length < 2) (by omega)]; simp), ← Bool.decide_and, decide_eq_decide, hl, hn]
    rw [← shift (P := fun i => partZ ((τ.getD i 0).toNat : Int) (nth t.parts (i + 1)) = true) (fun i hi => by
      unfold partsB kindAt
      rw [h2, show min (i + 1) τ.length - 1 = i from by omega])]
    constructor
    · intro h
      refine ⟨fun i hi => ?_, fun i hi => ?_⟩ <;>
      · have := h i hi
        rw [hp i _ hi, Bool.and_eq_true] at this
        first | exact this.1 | exact this.2
    · rintro ⟨ha, hb⟩ i hi
      rw [hp i _ hi, ha i hi, hb i hi]; rfl
  · rw [instrI_no (.inr (by rw [h1, hl]; exact hn)), instrB_len]
    unfold lenB
    rw [h2, decide_eq_true hstar, decide_eq_true hn]; rfl

theorem decide_all_true (n : Nat) (u : Nat → Tree) : decide (∀ i, i < n → (fun (_ : Nat) (_ : Tree) => true) i (u i) = true) = true := decide_eq_true (fun _ _ => rfl)
theorem partE_eq (u : Tree) : ((decide (u.parts.length = 2) && decide (headOf u = [101])) && targetB false u) = (decide (headOf u = [101]) && targetB false u) := by
  by_cases he : headOf u = [101]
  · rw [decide_eq_true he, Bool.and_true, Bool.true_and]
    have ha : u.atom = [] := Classical.byContradiction fun h => by rw [headOf_no (.inl h)] at he; cases he
    rcases Nat.eq_zero_or_pos u.parts.length with hz | hz
    · rw [headOf_no (.inr (List.length_eq_zero_iff.1 hz))] at he; cases he
    · have h0 := headOf_cons ha (nth_get hz)
      rw [targetB_e ha hz (by rw [← h0]; exact he), ← Bool.and_assoc, Bool.and_self]
  · rw [decide_eq_false he]; simp

theorem two_cases {n : Nat} {P : Nat → Prop} (h : n ≤ 4) (h0 : P 0) (h1 : 2 ≤ n → P 1) (h2 : 3 ≤ n → P 2) (h3 : 4 ≤ n → P 3) : ∀ i, i < n → P i := by
  intro i hi
  match i, hi with
  | 0, _ => exact h0
  | 1, hi => exact h1 (by omega)
  | 2, hi => exact h2 (by omega)
  | 3, hi => exact h3 (by omega)
  | i + 4, hi => omega

theorem hp_of {σ τ : Bytes} {ex : Nat → Tree → Bool} (hl : τ.length ≤ 4) (h0 : ∀ u, partI ((σ.getD 0 0).toNat : Int) u = (partZ ((τ.getD 0 0).toNat : Int) u && ex 0 u)) (h1 : ∀ u, 2 ≤ τ.length → partI ((σ.getD 1 0).toNat : Int) u = (partZ ((τ.getD 1 0).toNat : Int) u && ex 1 u))
    (h2 : ∀ u, 3 ≤ τ.length → partI ((σ.getD 2 0).toNat : Int) u = (partZ ((τ.getD 2 0).toNat : Int) u && ex 2 u)) (h3 : ∀ u, 4 ≤ τ.length → partI ((σ.getD 3 0).toNat : Int) u = (partZ ((τ.getD 3 0).toNat : Int) u && ex 3 u)) :
    ∀ i u, i < τ.length → partI ((σ.getD i 0).toNat : Int) u = (partZ ((τ.getD i 0).toNat : Int) u && ex i u) := fun i u =>
  two_cases (P := fun i => partI ((σ.getD i 0).toNat : Int) u = (partZ ((τ.getD i 0).toNat : Int) u && ex i u)) hl (h0 u) (h1 u) (h2 u) (h3 u) i

theorem pI_d (u : Tree) : partI 100 u = isReg u.atom := by simp [partI]
theorem pI_s (u : Tree) : partI 115 u = isReg u.atom := by simp [partI]
theorem pI_n (u : Tree) : partI 110 u = (numeral u.atom).isSome := by simp [partI]
theorem pI_m (u : Tree) : partI 109 u = ((numeral u.atom).isSome && decide (0 ≤ (numeral u.atom).getD 0)) := by simp [partI]
theorem pI_l (u : Tree) : partI 108 u = isLabel u.atom := by simp [partI]
theorem pI_E (u : Tree) : partI 69 u = ((decide (u.parts.length = 2) && decide (headOf u = [101])) && targetB false u) := by simp [partI]
theorem pI_W (u : Tree) : partI 87 u = targetB false u := by simp [partI]
theorem pZ_r (u : Tree) : partZ 114 u = isReg u.atom := by simp [partZ]
theorem pZ_st (u : Tree) : partZ 42 u = isReg u.atom := by simp [partZ]
theorem pZ_n (u : Tree) : partZ 110 u = (numeral u.atom).isSome := by simp [partZ]
theorem pZ_l (u : Tree) : partZ 108 u = isLabel u.atom := by simp [partZ]
theorem pZ_e (u : Tree) : partZ 101 u = (decide (headOf u = [101]) && targetB false u) := by simp [partZ]
theorem pZ_w (u : Tree) : partZ 119 u = targetB false u := by simp [partZ]
theorem q_dr (u : Tree) : partI 100 u = (partZ 114 u && true) := by rw [pI_d, pZ_r, Bool.and_true]
theorem q_sr (u : Tree) : partI 115 u = (partZ 114 u && true) := by rw [pI_s, pZ_r, Bool.and_true]
theorem q_nn (u : Tree) : partI 110 u = (partZ 110 u && true) := by rw [pI_n, pZ_n, Bool.and_true]
theorem q_mn (u : Tree) : partI 109 u = (partZ 110 u && decide (0 ≤ (numeral u.atom).getD 0)) := by rw [pI_m, pZ_n]
theorem q_ll (u : Tree) : partI 108 u = (partZ 108 u && true) := by rw [pI_l, pZ_l, Bool.and_true]
theorem q_Ee (u : Tree) : partI 69 u = (partZ 101 u && true) := by rw [pI_E, pZ_e, Bool.and_true, partE_eq]
theorem q_Ww (u : Tree) : partI 87 u = (partZ 119 u && true) := by rw [pI_W, pZ_w, Bool.and_true]

theorem instr_new {t : Tree} (h : headOf t = [110, 101, 119]) : instrI t = instrB t := by
  have h1 : shapeI (headOf t) t.parts.length = [100] ++ List.replicate (t.parts.length - 2) 115 := by rw [h]; rfl
  have h2 : shapeOf (headOf t) = [114, 42] := by rw [h]; rfl
  have hl : (shapeI (headOf t) t.parts.length).length = t.parts.length - 2 + 1 := by rw [h1]; simp
  by_cases hn : 2 ≤ t.parts.length
  · unfold instrI instrB lenB
    rw [if_neg (by rw [hl]; rintro (hh | hh); (· rw [h1] at hh; simp at hh); (· omega)), h2, if_neg (by decide),
      if_neg (by rw [decide_eq_false (p := t.parts.length < 2) (by omega)]; simp), decide_eq_true (p := headOf t ≠ [103, 101, 116]) (by rw [h]; decide), Bool.true_or, Bool.and_true, decide_eq_decide, hl]
    rw [show (∀ i, i < t.parts.length → 1 ≤ i → partsB t i = true) ↔ (∀ i, i < (t.parts.length - 2 + 1) + 1 → 1 ≤ i → partsB t i = true) from by rw [show t.parts.length - 2 + 1 + 1 = t.parts.length from by omega]]
    refine shift fun i hi => ?_
    have e1 : partI (((shapeI (headOf t) t.parts.length).getD i 0).toNat : Int) (nth t.parts (i + 1)) = isReg (nth t.parts (i + 1)).atom := by
      rw [h1]
      cases i with
      | zero => exact pI_d _
      | succ i =>
        have : ([100] ++ List.replicate (t.parts.length - 2) (115 : UInt8)).getD (i + 1) 0 = 115 := by
          simp [List.getD, show i < t.parts.length - 2 from by omega]
        rw [this]; exact pI_s _
    have e2 : partsB t (i + 1) = isReg (nth t.parts (i + 1)).atom := by
      unfold partsB kindAt
      rw [h2]
      cases i with
      | zero => exact pZ_r _
      | succ i => rw [show min (i + 1 + 1) ([114, 42] : Bytes).length - 1 = 1 from by simp]; exact pZ_st _
    rw [e1, e2]
  · rw [instrI_no (.inr (by rw [hl]; omega)), instrB_len]
    unfold lenB; rw [decide_eq_true (p := t.parts.length < 2) (by omega), Bool.or_true]

theorem instrI_eq (t : Tree) : instrI t = instrB t := by
  have nog : ∀ {τ : Bytes}, headOf t ≠ [103, 101, 116] → (t.parts.length = τ.length + 1 → (decide (headOf t ≠ [103, 101, 116]) || decide (0 ≤ (numeral (nth t.parts 3).atom).getD 0)) = decide (∀ i, i < τ.length → (fun (_ : Nat) (_ : Tree) => true) i (nth t.parts (i + 1)) = true)) := by
    intro τ h _; rw [decide_all_true _ (fun i => nth t.parts (i + 1)), decide_eq_true h]; rfl
  by_cases c1 : headOf t = [99, 111, 110, 115, 116]
  · exact instr_fix [100, 110] [114, 110] (fun _ _ => true) (by rw [c1]; rfl) (by rw [c1]; rfl) rfl (by decide) (by decide)
      (hp_of (by decide) (fun u => q_dr u) (fun u _ => q_nn u) (fun _ h => absurd h (by decide)) (fun _ h => absurd h (by decide))) (nog (by rw [c1]; decide))
  by_cases c2 : headOf t = [109, 111, 118] ∨ headOf t = [111, 112, 101, 110]
  · exact instr_fix [100, 115] [114, 114] (fun _ _ => true) (by rcases c2 with c | c <;> rw [c] <;> rfl) (by rcases c2 with c | c <;> rw [c] <;> rfl) rfl (by decide) (by decide)
      (hp_of (by decide) (fun u => q_dr u) (fun u _ => q_sr u) (fun _ h => absurd h (by decide)) (fun _ h => absurd h (by decide))) (nog (by rcases c2 with c | c <;> rw [c] <;> decide))
  by_cases c3 : headOf t = [97, 100, 100] ∨ headOf t = [115, 117, 98] ∨ headOf t = [109, 117, 108]
  · exact instr_fix [100, 115, 115] [114, 114, 114] (fun _ _ => true) (by rcases c3 with c | c | c <;> rw [c] <;> rfl) (by rcases c3 with c | c | c <;> rw [c] <;> rfl) rfl (by decide) (by decide)
      (hp_of (by decide) (fun u => q_dr u) (fun u _ => q_sr u) (fun u _ => q_sr u) (fun _ h => absurd h (by decide))) (nog (by rcases c3 with c | c | c <;> rw [c] <;> decide))
  by_cases c4 : headOf t = [110, 101, 119]
  · exact instr_new c4
  by_cases c5 : headOf t = [103, 101, 116]
  · refine instr_fix [100, 115, 109] [114, 114, 110] (fun i u => if i = 2 then decide (0 ≤ (numeral u.atom).getD 0) else true) (by rw [c5]; rfl) (by rw [c5]; rfl) rfl (by decide) (by decide)
      (hp_of (by decide) (fun u => q_dr u) (fun u _ => q_sr u) (fun u _ => q_mn u) (fun _ h => absurd h (by decide))) (fun _ => ?_)
    rw [show decide (headOf t ≠ [103, 101, 116]) = false from decide_eq_false (fun h => h c5), Bool.false_or]
    refine decide_eq_decide.2 ⟨fun h => two_cases (by decide) rfl (fun _ => rfl) (fun _ => by simpa using h) (fun h => by simp at h), fun h => by simpa using h 2 (by decide)⟩
  by_cases c6 : headOf t = [108, 97, 98]
  · exact instr_fix [100, 108] [114, 108] (fun _ _ => true) (by rw [c6]; rfl) (by rw [c6]; rfl) rfl (by decide) (by decide)
      (hp_of (by decide) (fun u => q_dr u) (fun u _ => q_ll u) (fun _ h => absurd h (by decide)) (fun _ h => absurd h (by decide))) (nog (by rw [c6]; decide))
  by_cases c7 : headOf t = [112, 97, 99, 107]
  · exact instr_fix [100, 115, 69, 87] [114, 114, 101, 119] (fun _ _ => true) (by rw [c7]; rfl) (by rw [c7]; rfl) rfl (by decide) (by decide)
      (hp_of (by decide) (fun u => q_dr u) (fun u _ => q_sr u) (fun u _ => q_Ee u) (fun u _ => q_Ww u)) (nog (by rw [c7]; decide))
  by_cases c8 : headOf t = [122, 101, 114, 111]
  · exact instr_fix [115, 108] [114, 108] (fun _ _ => true) (by rw [c8]; rfl) (by rw [c8]; rfl) rfl (by decide) (by decide)
      (hp_of (by decide) (fun u => q_sr u) (fun u _ => q_ll u) (fun _ h => absurd h (by decide)) (fun _ h => absurd h (by decide))) (nog (by rw [c8]; decide))
  by_cases c9 : headOf t = [106, 117, 109, 112] ∨ headOf t = [104, 97, 108, 116]
  · exact instr_fix [115] [114] (fun _ _ => true) (by rcases c9 with c | c <;> rw [c] <;> rfl) (by rcases c9 with c | c <;> rw [c] <;> rfl) rfl (by decide) (by decide)
      (hp_of (by decide) (fun u => q_sr u) (fun _ h => absurd h (by decide)) (fun _ h => absurd h (by decide)) (fun _ h => absurd h (by decide))) (nog (by rcases c9 with c | c <;> rw [c] <;> decide))
  · have e1 : shapeI (headOf t) t.parts.length = [] := by unfold shapeI; rw [if_neg c1, if_neg c2, if_neg c3, if_neg c4, if_neg c5, if_neg c6, if_neg c7, if_neg c8, if_neg c9]
    have e2 : shapeOf (headOf t) = [] := by unfold shapeOf; rw [if_neg c1, if_neg c2, if_neg c3, if_neg c4, if_neg c5, if_neg (fun h => by rcases h with h | h; exact c6 h; exact c8 h), if_neg c7, if_neg c9]
    rw [instrI_no (.inl e1), instrB_shape e2]

theorem shapeI_len (h : Bytes) (n : Nat) : (shapeI h n).length ≤ n + 4 := by
  unfold shapeI
  repeat' split
  all_goals simp
  all_goals omega
theorem wf_size {t : Tree} (h : WF t) : 2 ≤ t.size := by
  cases h with
  | atom a ha => have := List.length_pos_iff.2 ha; simp only [Tree.size]; omega
  | list ps hp hw =>
    cases ps with
    | nil => exact absurd rfl hp
    | cons q r => cases q; simp only [Tree.size, Tree.size.sizes]; omega
theorem half_sizes : ∀ {ps : List Tree}, (∀ p, p ∈ ps → WF p) → 2 * ps.length ≤ Tree.size.sizes ps
  | [], _ => by simp [Tree.size.sizes]
  | q :: ps, h => by
    have h1 := wf_size (h q (by simp))
    have h2 := half_sizes (ps := ps) (fun p hp => h p (by simp [hp]))
    simp only [Tree.size.sizes, List.length_cons]; omega
theorem half_size {t : Tree} (h : WF t) : 2 * t.parts.length + 1 ≤ t.size := by
  cases h with
  | atom a ha => simp [Tree.parts, Tree.size]; omega
  | list ps hp hw => have := half_sizes hw; simp only [Tree.parts, Tree.size]; omega
/-- An instruction that goes away. -/
def lastI (t : Tree) : Bool := decide (headOf t = [106, 117, 109, 112]) || decide (headOf t = [104, 97, 108, 116])
theorem instrB_headOf {t : Tree} (h : instrB t = true) : headOf t = (nth t.parts 0).atom := by
  unfold instrB at h
  split at h
  · cases h
  · rename_i hne; exact (headOf_atom hne).2.2
theorem lastB_eq {t : Tree} (h : instrB t = true) : lastB t = lastI t := by
  unfold lastB lastI; rw [h, instrB_headOf h]; rfl
end Go.Proofs.YtnkjgoholocliaaGreatDoor

namespace Go.Proofs.YtnkjgoholocliaaGreatDoor

/-- Well made, of bytes of atoms. -/
inductive Good : Tree → Prop
  | atom (a : Bytes) (h : a ≠ []) (hb : a.all atomByte = true) : Good (.mk a [])
  | list (ps : List Tree) (h : ps ≠ []) (hp : ∀ p, p ∈ ps → Good p) : Good (.mk [] ps)
theorem Good.wf {t : Tree} (h : Good t) : WF t := by
  induction h with
  | atom a h _ => exact .atom a h
  | list ps h _ ih => exact .list ps h ih
theorem Good.part {t p : Tree} {i : Nat} (h : Good t) (hp : t.parts[i]? = some p) : Good p := by
  cases h with
  | atom a _ _ => simp [Tree.parts] at hp
  | list ps _ hw => exact hw p (List.mem_of_getElem? hp)
theorem Good.nth {t : Tree} {i : Nat} (h : Good t) (hi : i < t.parts.length) : Good (nth t.parts i) := h.part (nth_get hi)

def Tree.depth : Tree → Nat
  | .mk _ ps => deeps ps
where deeps : List Tree → Nat
  | [] => 0
  | t :: ts => max (t.depth + 1) (deeps ts)
theorem deep_part {ps : List Tree} : ∀ {p : Tree}, p ∈ ps → p.depth + 1 ≤ Tree.depth.deeps ps := by
  induction ps with
  | nil => intro p h; simp at h
  | cons q ps ih =>
    intro p h
    rcases List.mem_cons.1 h with rfl | h
    · simp only [Tree.depth.deeps]; omega
    · have := ih h; simp only [Tree.depth.deeps]; omega
theorem deeps_le {d : Nat} : ∀ {ps : List Tree}, (∀ p, p ∈ ps → p.depth + 1 ≤ d) → Tree.depth.deeps ps ≤ d
  | [], _ => by simp [Tree.depth.deeps]
  | q :: ps, h => by
    have h1 := h q (by simp)
    have h2 := deeps_le (ps := ps) (fun p hp => h p (by simp [hp]))
    simp only [Tree.depth.deeps]; omega

theorem text_atom {a : Bytes} {ps : List Tree} (h : a ≠ []) : (Tree.mk a ps).text = a := by simp [Tree.text, h]
theorem text_list (ps : List Tree) : (Tree.mk [] ps).text = 40 :: (textsOf ps ++ [41]) := by simp [Tree.text]
theorem textsOf_one (t : Tree) : textsOf [t] = t.text := by simp [textsOf]
theorem textsOf_cons (t u : Tree) (r : List Tree) : textsOf (t :: u :: r) = t.text ++ 32 :: textsOf (u :: r) := by simp [textsOf]

theorem text_parts {rd : Bytes → Option (Tree × Bytes)} (hrd : ∀ s t r, rd s = some (t, r) → s = t.text ++ r) : ∀ n s ts r, partsLoop rd n s = some (ts, r) → ts ≠ [] ∧ s = textsOf ts ++ 41 :: r
  | 0, _, _, _, h => by simp [partsLoop] at h
  | n + 1, s, ts, r, h => by
    unfold partsLoop at h
    cases hr : rd s with
    | none => simp [hr] at h
    | some q =>
      obtain ⟨t, r1⟩ := q
      have ht := hrd s t r1 hr
      simp only [hr] at h
      cases r1 with
      | nil => simp at h
      | cons c r' =>
        simp only at h
        by_cases h1 : c = 41
        · rw [if_pos h1] at h
          simp at h
          obtain ⟨rfl, rfl⟩ := h
          exact ⟨by simp, by rw [ht, h1, textsOf_one]⟩
        · rw [if_neg h1] at h
          by_cases h2 : c = 32
          · rw [if_pos h2] at h
            cases hp : partsLoop rd n r' with
            | none => simp [hp] at h
            | some q =>
              obtain ⟨ts', r''⟩ := q
              simp [hp] at h
              obtain ⟨rfl, rfl⟩ := h
              obtain ⟨h4, h5⟩ := text_parts hrd n r' ts' r'' hp
              cases ts' with
              | nil => exact absurd rfl h4
              | cons u us => exact ⟨by simp, by rw [ht, h2, textsOf_cons, h5]; simp⟩
          · rw [if_neg h2] at h; cases h
theorem text_readT : ∀ d s t r, readT d s = some (t, r) → s = t.text ++ r := by
  have leaf : ∀ (s : Bytes) (t : Tree) (r : Bytes), (if s.takeWhile atomByte = [] then none else some (Tree.mk (s.takeWhile atomByte) [], s.dropWhile atomByte)) = some (t, r) → s = t.text ++ r := by
    intro s t r h
    split at h
    · cases h
    · rename_i hn
      simp only [Option.some.injEq, Prod.mk.injEq] at h
      rw [← h.1, ← h.2, text_atom hn, List.takeWhile_append_dropWhile]
  intro d
  induction d with
  | zero =>
    intro s t r h
    cases s with
    | nil => simp [readT] at h
    | cons c s =>
      simp only [readT] at h
      by_cases h1 : c = 40
      · rw [if_pos h1] at h; cases h
      · rw [if_neg h1] at h; exact leaf _ _ _ h
  | succ d ih =>
    intro s t r h
    cases s with
    | nil => simp [readT] at h
    | cons c s =>
      simp only [readT] at h
      by_cases h1 : c = 40
      · rw [if_pos h1] at h
        cases hp : partsLoop (readT d) (s.length + 1) s with
        | none => simp [hp] at h
        | some q =>
          obtain ⟨ts', r''⟩ := q
          simp [hp] at h
          obtain ⟨h3, h4⟩ := text_parts ih _ _ _ _ hp
          rw [← h.1, ← h.2, text_list, h1, h4]; simp
      · rw [if_neg h1] at h; exact leaf _ _ _ h

theorem good_parts {rd : Bytes → Option (Tree × Bytes)} (d : Nat) (hrd : ∀ s t r, rd s = some (t, r) → Good t ∧ t.depth ≤ d) : ∀ n s ts r, partsLoop rd n s = some (ts, r) → ts ≠ [] ∧ ∀ p, p ∈ ts → Good p ∧ p.depth ≤ d
  | 0, _, _, _, h => by simp [partsLoop] at h
  | n + 1, s, ts, r, h => by
    unfold partsLoop at h
    cases hr : rd s with
    | none => simp [hr] at h
    | some q =>
      obtain ⟨t, r1⟩ := q
      have ht := hrd s t r1 hr
      simp only [hr] at h
      cases r1 with
      | nil => simp at h
      | cons c r' =>
        simp only at h
        by_cases h1 : c = 41
        · rw [if_pos h1] at h
          simp at h
          obtain ⟨rfl, _⟩ := h
          exact ⟨by simp, by intro p hp; simp at hp; subst hp; exact ht⟩
        · rw [if_neg h1] at h
          by_cases h2 : c = 32
          · rw [if_pos h2] at h
            cases hp : partsLoop rd n r' with
            | none => simp [hp] at h
            | some q =>
              obtain ⟨ts', r''⟩ := q
              simp [hp] at h
              obtain ⟨rfl, _⟩ := h
              obtain ⟨_, h4⟩ := good_parts d hrd n r' ts' r'' hp
              exact ⟨by simp, by intro p hp; rcases List.mem_cons.1 hp with rfl | hp; exact ht; exact h4 p hp⟩
          · rw [if_neg h2] at h; cases h
theorem all_takeWhile (p : UInt8 → Bool) : ∀ s : Bytes, (s.takeWhile p).all p = true
  | [] => rfl
  | c :: s => by
    by_cases h : p c = true
    · simp only [List.takeWhile, h, List.all_cons, all_takeWhile p s]; rfl
    · simp [List.takeWhile, h]
theorem good_readT : ∀ d s t r, readT d s = some (t, r) → Good t ∧ t.depth ≤ d := by
  have leaf : ∀ (d : Nat) (s : Bytes) (t : Tree) (r : Bytes), (if s.takeWhile atomByte = [] then none else some (Tree.mk (s.takeWhile atomByte) [], s.dropWhile atomByte)) = some (t, r) → Good t ∧ t.depth ≤ d := by
    intro d s t r h
    split at h
    · cases h
    · rename_i hn
      simp only [Option.some.injEq, Prod.mk.injEq] at h
      rw [← h.1]; exact ⟨.atom _ hn (all_takeWhile _ _), by simp [Tree.depth, Tree.depth.deeps]⟩
  intro d
  induction d with
  | zero =>
    intro s t r h
    cases s with
    | nil => simp [readT] at h
    | cons c s =>
      simp only [readT] at h
      by_cases h1 : c = 40
      · rw [if_pos h1] at h; cases h
      · rw [if_neg h1] at h; exact leaf _ _ _ _ h
  | succ d ih =>
    intro s t r h
    cases s with
    | nil => simp [readT] at h
    | cons c s =>
      simp only [readT] at h
      by_cases h1 : c = 40
      · rw [if_pos h1] at h
        cases hp : partsLoop (readT d) (s.length + 1) s with
        | none => simp [hp] at h
        | some q =>
          obtain ⟨ts', r''⟩ := q
          simp [hp] at h
          obtain ⟨h3, h4⟩ := good_parts d ih _ _ _ _ hp
          rw [← h.1]
          exact ⟨.list _ h3 (fun p hp => (h4 p hp).1), deeps_le (fun p hp => by have := (h4 p hp).2; omega)⟩
      · rw [if_neg h1] at h; exact leaf _ _ _ _ h

/-- Behind a form there is nothing, or no byte of an atom. -/
def Stop (r : Bytes) : Prop := ∀ c, r[0]? = some c → atomByte c = false
theorem takeWhile_stop {p : UInt8 → Bool} : ∀ {a r : Bytes}, a.all p = true → (∀ c, r[0]? = some c → p c = false) → (a ++ r).takeWhile p = a ∧ (a ++ r).dropWhile p = r
  | [], [], _, _ => ⟨rfl, rfl⟩
  | [], c :: r, _, h => by have := h c rfl; simp [this]
  | c :: a, r, ha, h => by
    simp only [List.all_cons, Bool.and_eq_true] at ha
    obtain ⟨h1, h2⟩ := takeWhile_stop (a := a) ha.2 h
    simp [ha.1, h1, h2]
theorem text_pos {t : Tree} (h : Good t) : ∃ c r, t.text = c :: r := by
  cases h with
  | atom a ha _ =>
    rw [text_atom ha]
    cases a with
    | nil => exact absurd rfl ha
    | cons c r => exact ⟨c, r, rfl⟩
  | list ps _ _ => exact ⟨_, _, text_list ps⟩
theorem parts_text {rd : Bytes → Option (Tree × Bytes)} : ∀ (ts : List Tree) (n : Nat) (r : Bytes), ts ≠ [] → ts.length ≤ n → (∀ t, t ∈ ts → ∀ r, Stop r → rd (t.text ++ r) = some (t, r)) → partsLoop rd n (textsOf ts ++ 41 :: r) = some (ts, r)
  | [], _, _, h, _, _ => absurd rfl h
  | [t], n, r, _, hn, h => by
    cases n with
    | zero => simp at hn
    | succ n =>
      unfold partsLoop
      rw [textsOf_one, h t (by simp) (41 :: r) (by intro c hc; simp at hc; subst hc; decide)]
      simp
  | t :: u :: us, n, r, _, hn, h => by
    cases n with
    | zero => simp at hn
    | succ n =>
      unfold partsLoop
      rw [textsOf_cons, List.append_assoc, List.cons_append, h t (by simp) (32 :: (textsOf (u :: us) ++ 41 :: r)) (by intro c hc; simp at hc; subst hc; decide)]
      have := parts_text (rd := rd) (u :: us) n r (by simp) (by simp at hn ⊢; omega) (fun t ht => h t (by simp at ht ⊢; exact .inr ht))
      simp [this]
theorem texts_len : ∀ ts : List Tree, (∀ t, t ∈ ts → Good t) → ts.length ≤ (textsOf ts).length
  | [], _ => by simp
  | [t], h => by obtain ⟨c, r, e⟩ := text_pos (h t (by simp)); rw [textsOf_one, e]; simp
  | t :: u :: us, h => by
    have := texts_len (u :: us) (fun t ht => h t (by simp at ht ⊢; exact .inr ht))
    rw [textsOf_cons]; simp at this ⊢; omega
theorem readT_text : ∀ (d : Nat) (t : Tree) (r : Bytes), Good t → t.depth ≤ d → Stop r → readT d (t.text ++ r) = some (t, r) := by
  intro d
  induction d with
  | zero =>
    intro t r hg hd hr
    cases hg with
    | atom a ha hb =>
      obtain ⟨c, a', rfl⟩ : ∃ c a', a = c :: a' := by cases a with | nil => exact absurd rfl ha | cons c r => exact ⟨c, r, rfl⟩
      rw [text_atom ha, List.cons_append, readT_atom 0 c _ (by rintro rfl; simp at hb; exact absurd hb.1 (by decide))]
      obtain ⟨h1, h2⟩ := takeWhile_stop hb hr
      rw [List.cons_append] at h1 h2
      rw [h1, h2, if_neg (by simp)]
    | list ps hp hw =>
      cases ps with
      | nil => exact absurd rfl hp
      | cons q ps => simp [Tree.depth, Tree.depth.deeps] at hd
  | succ d ih =>
    intro t r hg hd hr
    cases hg with
    | atom a ha hb =>
      obtain ⟨c, a', rfl⟩ : ∃ c a', a = c :: a' := by cases a with | nil => exact absurd rfl ha | cons c r => exact ⟨c, r, rfl⟩
      rw [text_atom ha, List.cons_append, readT_atom (d + 1) c _ (by rintro rfl; simp at hb; exact absurd hb.1 (by decide))]
      obtain ⟨h1, h2⟩ := takeWhile_stop hb hr
      rw [List.cons_append] at h1 h2
      rw [h1, h2, if_neg (by simp)]
    | list ps hp hw =>
      rw [text_list, List.cons_append, readT_open]
      have := parts_text (rd := readT d) ps ((textsOf ps ++ [41] ++ r).length + 1) r hp (by have := texts_len ps hw; simp at this ⊢; omega)
        (fun t ht r hr => ih t r (hw t ht) (by have := deep_part ht; simp only [Tree.depth] at hd; omega) hr)
      unfold partsFrom
      rw [show rT (d + 1) = readT d from funext fun _ => rfl]
      rw [show textsOf ps ++ [41] ++ r = textsOf ps ++ 41 :: r from by simp] at this ⊢
      rw [this]; rfl
theorem text_inj {t u : Tree} (h : Good t) (k : Good u) (e : t.text = u.text) : t = u := by
  have h1 := readT_text (max t.depth u.depth) t [] h (by omega) (by intro c hc; simp at hc)
  have h2 := readT_text (max t.depth u.depth) u [] k (by omega) (by intro c hc; simp at hc)
  rw [e, h2] at h1
  simp at h1; exact h1.symm
theorem parse_good {s : Bytes} {t : Tree} (h : parse s = some t) : Good t ∧ t.depth ≤ 60 ∧ t.text = s ∧ s.length ≤ 12000 := by
  have hs := parse_short h
  unfold parse at h
  split at h
  · cases h
  · cases hr : readT 60 s with
    | none => rw [hr] at h; cases h
    | some q =>
      obtain ⟨t', r⟩ := q
      rw [hr] at h
      cases r with
      | nil =>
        simp at h; subst h
        have h1 := good_readT _ _ _ _ hr
        have h2 := text_readT _ _ _ _ hr
        exact ⟨h1.1, h1.2, by rw [h2]; simp, hs⟩
      | cons c r => cases h
theorem parse_text {t : Tree} (h : Good t) : parse t.text = if t.depth ≤ 60 ∧ t.text.length ≤ 12000 then some t else none := by
  split
  · rename_i hc
    unfold parse
    have := readT_text 60 t [] h hc.1 (by intro c hc; simp at hc)
    rw [List.append_nil] at this
    rw [if_neg (by omega), this]
  · rename_i hc
    cases hp : parse t.text with
    | none => rfl
    | some u =>
      obtain ⟨h1, h2, h3, h4⟩ := parse_good hp
      have := text_inj h1 h h3
      subst this
      exact absurd ⟨h2, h4⟩ hc
theorem parse_fits {t : Tree} (h : Good t) (hd : t.depth ≤ 60) (hl : t.text.length ≤ 12000) : parse t.text = some t := by rw [parse_text h, if_pos ⟨hd, hl⟩]
theorem texts_part {ps : List Tree} : ∀ {p : Tree}, p ∈ ps → p.text.length ≤ (textsOf ps).length := by
  induction ps with
  | nil => intro p h; simp at h
  | cons q ps ih =>
    intro p h
    cases ps with
    | nil => simp at h; subst h; rw [textsOf_one]; exact Nat.le_refl _
    | cons u us =>
      rw [textsOf_cons]
      rcases List.mem_cons.1 h with rfl | h
      · simp
      · have := ih h; simp at this ⊢; omega
theorem Good.sub {t p : Tree} {i : Nat} (h : Good t) (hp : t.parts[i]? = some p) : Good p ∧ p.depth + 1 ≤ t.depth ∧ p.text.length + 2 ≤ t.text.length := by
  refine ⟨h.part hp, ?_, ?_⟩
  · cases t with
    | mk a ps => exact deep_part (List.mem_of_getElem? hp)
  · cases h with
    | atom a _ _ => simp [Tree.parts] at hp
    | list ps _ hw => have := texts_part (List.mem_of_getElem? hp); rw [text_list]; simp; exact this
/-- The number of bytes, as the program counts it. -/
def Tree.len : Tree → Nat
  | .mk a ps => if ps = [] then a.length else 1 + lens ps
where lens : List Tree → Nat
  | [] => 0
  | t :: ts => t.len + 1 + lens ts
theorem textsOf_len : ∀ ps : List Tree, ps ≠ [] → (∀ p, p ∈ ps → p.len = p.text.length) → Tree.len.lens ps = (textsOf ps).length + 1
  | [], h, _ => absurd rfl h
  | [t], _, h => by rw [textsOf_one]; simp only [Tree.len.lens, h t (by simp)]
  | t :: u :: us, _, h => by
    have := textsOf_len (u :: us) (by simp) (fun p hp => h p (by simp at hp ⊢; exact .inr hp))
    rw [textsOf_cons]
    simp only [Tree.len.lens, h t (by simp), List.length_append, List.length_cons] at this ⊢
    omega
theorem len_text {t : Tree} (h : WF t) : t.len = t.text.length := by
  induction h with
  | atom a ha => rw [text_atom ha]; simp [Tree.len]
  | list ps hp _ ih =>
    rw [text_list]
    simp only [Tree.len, hp, if_false, textsOf_len ps hp ih, List.length_cons, List.length_append, List.length_nil]
    omega
end Go.Proofs.YtnkjgoholocliaaGreatDoor

namespace Go.Proofs.YtnkjgoholocliaaGreatDoor

/-- A block that has been read. -/
structure IBk where
  label : Bytes
  regs : List Tree
  code : List Tree
def tr (s : Bytes) : Tree := (parse s).getD (.mk [] [])
theorem tr_eq {s : Bytes} {t : Tree} (h : parse s = some t) : tr s = t := by unfold tr; rw [h]; rfl
def bkI (b : Bk) : IBk := ⟨b.label, b.needs.map tr, b.code.map tr⟩
def shortL (b : Bk) : Bool := decide (b.label.length ≤ 12000)
def blockI (b : Bk) : Bool := blockB b && shortL b
def progI (bs : List Bk) : Bool := progB bs && bs.all shortL

def atomT (a : Bytes) : Tree := .mk a []
def listT (h : Bytes) (ts : List Tree) : Tree := .mk [] (atomT h :: ts)
/-- '(head part part ..)'. -/
def joinB (ps : List Bytes) : Bytes := ps.flatMap fun p => 32 :: p
def listS (h : Bytes) (ps : List Bytes) : Bytes := 40 :: (h ++ joinB ps ++ [41])
theorem textsOf_join (t : Tree) : ∀ ts : List Tree, textsOf (t :: ts) = t.text ++ joinB (ts.map Tree.text)
  | [] => by rw [textsOf_one]; simp [joinB]
  | u :: us => by rw [textsOf_cons, textsOf_join u us]; simp [joinB]
theorem listT_text {h : Bytes} (hh : h ≠ []) (ts : List Tree) : (listT h ts).text = listS h (ts.map Tree.text) := by
  unfold listT listS
  rw [text_list, textsOf_join]; simp [atomT, text_atom hh]
theorem good_listT {h : Bytes} (h1 : h ≠ []) (h2 : h.all atomByte = true) {ts : List Tree} (hp : ∀ t, t ∈ ts → Good t) : Good (listT h ts) := by
  refine .list _ (by simp) fun p hp' => ?_
  rcases List.mem_cons.1 hp' with rfl | hp'
  · exact .atom _ h1 h2
  · exact hp p hp'

theorem blockB_parts {b : Bk} (h : blockB b = true) : isLabel b.label = true ∧ (∀ s, s ∈ b.needs → ∃ t, parse s = some t ∧ targetB false t = true) ∧ ∀ s, s ∈ b.code → ∃ t, parse s = some t ∧ instrB t = true := by
  unfold blockB at h
  simp only [Bool.and_eq_true, decide_eq_true_eq] at h
  obtain ⟨⟨⟨⟨h1, _⟩, _⟩, h2⟩, h3⟩ := h
  refine ⟨h1, fun s hs => ?_, fun s hs => ?_⟩
  · obtain ⟨i, hi, rfl⟩ := List.getElem_of_mem hs
    have := h2 i hi
    rw [sth, List.getD_eq_getElem?_getD, List.getElem?_eq_getElem hi] at this
    simp only [Option.getD_some] at this
    unfold targetS seen at this
    cases hp : parse b.needs[i] with
    | none => rw [hp] at this; cases this
    | some t => rw [hp] at this; exact ⟨t, rfl, this⟩
  · obtain ⟨i, hi, rfl⟩ := List.getElem_of_mem hs
    have := h3 i hi
    unfold lineB at this
    rw [Bool.and_eq_true] at this
    have := this.1
    rw [sth, List.getD_eq_getElem?_getD, List.getElem?_eq_getElem hi] at this
    simp only [Option.getD_some] at this
    unfold instrS seen at this
    cases hp : parse b.code[i] with
    | none => rw [hp] at this; cases this
    | some t => rw [hp] at this; exact ⟨t, rfl, this⟩
theorem progB_block_of {bs : List Bk} (h : progB bs = true) : ∀ b, b ∈ bs → blockB b = true := by
  intro b hb
  obtain ⟨i, hi, rfl⟩ := List.getElem_of_mem hb
  unfold progB at h
  simp only [Bool.and_eq_true, decide_eq_true_eq] at h
  have := (h.1 i hi).1
  rw [bth, List.getD_eq_getElem?_getD, List.getElem?_eq_getElem hi] at this
  exact this
def fitsB (t : Tree) : Bool := decide (t.depth ≤ 60) && decide (t.len ≤ 12000)
/-- What 'ProgramFrom' answers. -/
def isBlkT (u : Tree) : Bool := decide (headOf u = [98, 108, 111, 99, 107]) && decide (u.parts.length = 4) && decide (headOf (nth u.parts 2) = [114, 101, 103, 115]) && decide (headOf (nth u.parts 3) = [99, 111, 100, 101])
def bkOf (u : Tree) : Bk := ⟨(nth u.parts 1).atom, ((nth u.parts 2).parts.drop 1).map Tree.text, ((nth u.parts 3).parts.drop 1).map Tree.text⟩
def bkOf? (u : Tree) : Bk := if isBlkT u then bkOf u else nob
def fromT (t : Tree) : List Bk := (t.parts.drop 1).map bkOf?
def fromP (s : Bytes) : Option (List Bk) := match parse s with
  | none => none
  | some t => if decide (headOf t = [112, 114, 111, 103, 114, 97, 109]) && progB (fromT t) then some (fromT t) else none
theorem nob_bad : blockB nob = false := by decide
theorem progB_nob {bs : List Bk} (h : nob ∈ bs) : progB bs = false := by
  cases hp : progB bs with
  | false => rfl
  | true => have := progB_block_of hp nob h; rw [nob_bad] at this; cases this
end Go.Proofs.YtnkjgoholocliaaGreatDoor

namespace Go.Proofs.YtnkjgoholocliaaGreatDoor

def headA : List Tree → Bytes
  | [] => []
  | h :: _ => h.atom
mutual
/-- A type put for v. -/
def putT (y : Tree) : Tree → Tree
  | .mk a ps => if a = [118] then y else if a ≠ [] ∨ headA ps = [101] then .mk a ps else .mk [] (putL y ps)
def putL (y : Tree) : List Tree → List Tree
  | [] => []
  | t :: ts => putT y t :: putL y ts
end
theorem putL_map (y : Tree) : ∀ ps, putL y ps = ps.map (putT y)
  | [] => by simp [putL]
  | t :: ts => by simp [putL, putL_map y ts]
mutual
def holes : Tree → Nat
  | .mk a ps => if a = [118] then 1 else if a ≠ [] ∨ headA ps = [101] then 0 else holesL ps
def holesL : List Tree → Nat
  | [] => 0
  | t :: ts => holes t + holesL ts
end
theorem headOf_mk (ps : List Tree) : headOf (.mk [] ps) = headA ps := by
  cases ps <;> simp [headOf, headA, Tree.atom, Tree.parts]
theorem put_good {y : Tree} (hy : Good y) {t : Tree} (h : Good t) : Good (putT y t) := by
  induction h with
  | atom a ha hb =>
    unfold putT
    split
    · exact hy
    · rw [if_pos (.inl ha)]; exact .atom a ha hb
  | list ps hp hw ih =>
    unfold putT
    rw [if_neg (by decide)]
    split
    · exact .list ps hp hw
    · rw [putL_map]
      refine .list _ (by simpa using hp) fun p hp' => ?_
      obtain ⟨q, hq, rfl⟩ := List.mem_map.1 hp'
      exact ih q hq
theorem put_lens {y : Tree} : ∀ {ps : List Tree}, (∀ p, p ∈ ps → ((putT y p).text.length : Int) = p.text.length + holes p * ((y.text.length : Int) - 1)) → ps ≠ [] → ((textsOf (putL y ps)).length : Int) = (textsOf ps).length + holesL ps * ((y.text.length : Int) - 1)
  | [], _, h => absurd rfl h
  | [t], h, _ => by
    have := h t (by simp)
    simp only [putL, textsOf_one, holesL, Nat.add_zero, this]
  | t :: u :: us, h, _ => by
    have h1 := h t (by simp)
    have h2 := put_lens (ps := u :: us) (fun p hp => h p (by simp at hp ⊢; exact .inr hp)) (by simp)
    have e : putL y (t :: u :: us) = putT y t :: putT y u :: putL y us := by simp [putL]
    have e2 : putL y (u :: us) = putT y u :: putL y us := by simp [putL]
    rw [e, textsOf_cons, textsOf_cons, ← e2]
    have e3 : holesL (t :: u :: us) = holes t + holesL (u :: us) := by simp [holesL]
    rw [e3]
    simp only [List.length_append, List.length_cons]
    push_cast
    rw [h1, h2, Int.add_mul]
    omega
theorem put_len {y : Tree} {t : Tree} (h : Good t) : ((putT y t).text.length : Int) = t.text.length + holes t * ((y.text.length : Int) - 1) := by
  induction h with
  | atom a ha hb =>
    unfold putT holes
    by_cases hv : a = [118]
    · rw [if_pos hv, if_pos hv, hv, text_atom (by decide)]; simp; omega
    · rw [if_neg hv, if_neg hv, if_pos (.inl ha), if_pos (.inl ha)]; simp
  | list ps hp hw ih =>
    have hv : ¬ ([] : Bytes) = [118] := by decide
    unfold putT holes
    by_cases he : ([] : Bytes) ≠ [] ∨ headA ps = [101]
    · simp only [hv, if_false, if_pos he]; simp
    · simp only [hv, if_false, if_neg he]
      rw [text_list, text_list]
      have := put_lens ih hp
      simp only [List.length_cons, List.length_append, List.length_nil]
      push_cast
      omega

/-! ### States -/
abbrev TS := List (Option Tree)
def iT : Tree := atomT [105]
def regN (a : Bytes) : Nat := (regZ a).toNat
def regT (st : TS) (a : Bytes) : Option Tree := st.getD (regN a) none
def sameT (x y : Tree) : Bool := decide (x.text = y.text)
def is? (o : Option Tree) (y : Tree) : Bool := match o with
  | some x => sameT x y
  | none => false
def meets (st : TS) (need : List Tree) : Bool := decide (∀ i, i < need.length → is? (st.getD i none) (nth need i) = true)
def regsOf (p : List IBk) (l : Bytes) : Option (List Tree) := (p.find? fun b => decide (b.label = l)).map IBk.regs
def numZ (a : Bytes) : Int := (numeral a).getD 0
/-- Digits of a number. -/
def decB (n : Nat) : Bytes := if n < 10 then [UInt8.ofNat (48 + n)] else decB (n / 10) ++ [UInt8.ofNat (48 + n % 10)]
termination_by n
def giveT (p : List IBk) (st : TS) (opens : Nat) (t : Tree) : Option Tree :=
  let h := headOf t
  let a (i : Nat) := (nth t.parts i).atom
  if h = [99, 111, 110, 115, 116] then some iT
  else if h = [109, 111, 118] then regT st (a 2)
  else if h = [97, 100, 100] ∨ h = [115, 117, 98] ∨ h = [109, 117, 108] then (if is? (regT st (a 2)) iT && is? (regT st (a 3)) iT then some iT else none)
  else if h = [103, 101, 116] then (regT st (a 2)).bind fun k => if headOf k = [116] ∧ numZ (a 3) + 1 < k.parts.length then some (nth k.parts (numZ (a 3) + 1).toNat) else none
  else if h = [108, 97, 98] then (regsOf p (a 2)).map (listT [99])
  else if h = [112, 97, 99, 107] then (regT st (a 2)).bind fun x => if sameT x (putT (nth t.parts 4) (nth (nth t.parts 3).parts 1)) then some (nth t.parts 3) else none
  else if h = [111, 112, 101, 110] then (regT st (a 2)).bind fun k => if headOf k = [101] then some (putT (atomT (97 :: decB opens)) (nth k.parts 1)) else none
  else none
def setT (st : TS) (d : Nat) (o : Option Tree) : Option TS := o.bind fun t => if fitsB t then some (st.set d (some t)) else none
def allT (st : TS) : List Tree → Option (List Tree)
  | [] => some []
  | u :: us => (regT st u.atom).bind fun x => (allT st us).map fun xs => x :: xs
/-- One instruction. -/
def stepT (p : List IBk) (st : TS) (opens : Nat) (t : Tree) : Option TS :=
  let h := headOf t
  let a1 := (nth t.parts 1).atom
  if h = [104, 97, 108, 116] then (regT st a1).map fun _ => st
  else if h = [106, 117, 109, 112] then (regT st a1).bind fun k => if headOf k = [99] ∧ meets st (k.parts.drop 1) = true then some st else none
  else if h = [122, 101, 114, 111] then (regsOf p (nth t.parts 2).atom).bind fun need => if is? (regT st a1) iT && meets st need then some st else none
  else if h = [110, 101, 119] then setT st (regN a1) ((allT st (t.parts.drop 2)).map (listT [116]))
  else setT st (regN a1) (giveT p st opens t)
def opens1 (opens : Nat) (t : Tree) : Nat := if headOf t = [111, 112, 101, 110] then opens + 1 else opens
/-- Instructions, until one fails: how many went well. -/
def throughT (p : List IBk) (st : TS) (opens : Nat) : List Tree → TS × Nat
  | [] => (st, 0)
  | t :: ts => match stepT p st opens t with
    | none => (st, 0)
    | some st' => ((throughT p st' (opens1 opens t) ts).1, (throughT p st' (opens1 opens t) ts).2 + 1)
def startT (b : IBk) : TS := (List.range 40).map fun i => if i < b.regs.length then some (nth b.regs i) else none
def faultT (p : List IBk) (b : IBk) : Nat := (throughT p (startT b) 0 b.code).2
def checksT (p : List IBk) (b : IBk) : Bool := decide (faultT p b = b.code.length)
end Go.Proofs.YtnkjgoholocliaaGreatDoor

namespace Go.Proofs.YtnkjgoholocliaaGreatDoor
open Go

theorem hasOpen {s : Bytes} (h : Lib.hasPrefix s [40] = true) : ∃ r, s = 40 :: r := by
  cases s with
  | nil => simp [Lib.hasPrefix, List.isPrefixOf] at h
  | cons c r => simp [Lib.hasPrefix, List.isPrefixOf] at h; exact ⟨r, by rw [h]⟩
theorem noOpen {s : Bytes} (h : Lib.hasPrefix s [40] = false) : ∀ c r, s = c :: r → c ≠ 40 := by
  rintro c r rfl rfl
  simp [Lib.hasPrefix, List.isPrefixOf] at h
/-- An atom at the beginning, or nothing. -/
theorem readT_noOpen {s : Bytes} (h : Lib.hasPrefix s [40] = false) (d : Nat) : readT d s = if s.takeWhile atomByte = [] then none else some (.mk (s.takeWhile atomByte) [], s.dropWhile atomByte) := by
  cases s with
  | nil => rw [readT_nil]; simp
  | cons c r => rw [readT_atom d c r (noOpen h c r rfl)]
theorem parts_bad {d : Nat} {s : Bytes} (h : readT d s = none) : partsFrom (d + 1) s = none := by rw [partsFrom_eq]; show (match readT d s with | none => none | some (t, r) => _) = none; rw [h]
theorem parts_end {d : Nat} {s : Bytes} {t : Tree} (h : readT d s = some (t, [])) : partsFrom (d + 1) s = none := by rw [partsFrom_eq]; show (match readT d s with | none => none | some (t, r) => _) = none; rw [h]
theorem parts_step {d : Nat} {s : Bytes} {t : Tree} {c : UInt8} {r : Bytes} (h : readT d s = some (t, c :: r)) : partsFrom (d + 1) s = if c = 41 then some ([t], r) else if c = 32 then (partsFrom (d + 1) r).map fun p => (t :: p.1, p.2) else none := by
  rw [partsFrom_eq]; show (match readT d s with | none => none | some (t, r) => _) = _; rw [h]
theorem take_all {s : Bytes} {k : Nat} : (s.drop k).take (s.length - k) = s.drop k := List.take_of_length_le (by simp)
theorem byte_ne {c : UInt8} {k : Nat} (hk : k < 256) : decide ((c.toNat : Int) ≠ (k : Int)) = decide (c ≠ UInt8.ofNat k) := decide_eq_decide.2 (by
  have e : (UInt8.ofNat k).toNat = k := by simp; omega
  constructor
  · intro h h2; rw [h2, e] at h; exact h rfl
  · intro h h2; exact h (UInt8.toNat_inj.1 (by rw [e]; omega)))
/-- What the program's reader hands back. -/
def ReadI (d : Nat) (s : Bytes) (t : Tree) (r : Bytes) (ok : Bool) : Prop := (readT d s = some (t, r) ∧ ok = true) ∨ (readT d s = none ∧ ok = false)
theorem ReadI.le {d : Nat} {s r : Bytes} {t : Tree} {ok : Bool} (h : ReadI d s t r ok) (ho : ok = true) : readT d s = some (t, r) ∧ r.length < s.length := by
  rcases h with ⟨h, _⟩ | ⟨_, h⟩
  · obtain ⟨k, h1, h2, rfl⟩ := eats_readT d s t r h
    exact ⟨h, by simp; omega⟩
  · rw [ho] at h; cases h
theorem stop_no {d : Nat} {s r : Bytes} {t : Tree} {ok : Bool} (hm : ReadI d s t r ok) (h : ((!ok || decide (r = [])) || (decide (((r.getD 0 0).toNat : Int) ≠ 32) && decide (((r.getD 0 0).toNat : Int) ≠ 41))) = true) : partsFrom (d + 1) s = none := by
  rcases hm with ⟨hr, rfl⟩ | ⟨hr, rfl⟩
  · cases r with
    | nil => exact parts_end hr
    | cons c r =>
      rw [parts_step hr]
      simp only [Bool.not_true, Bool.false_or, List.getD_cons_zero, show decide (c :: r = []) = false from by simp] at h
      rw [show (32 : Int) = ((32 : Nat) : Int) from rfl, show (41 : Int) = ((41 : Nat) : Int) from rfl, byte_ne (by decide), byte_ne (by decide), Bool.and_eq_true] at h
      have h1 : ¬ c = 32 := of_decide_eq_true h.1
      have h2 : ¬ c = 41 := of_decide_eq_true h.2
      rw [if_neg h2, if_neg h1]
  · exact parts_bad hr
theorem stop_yes {d : Nat} {s r : Bytes} {t : Tree} {ok : Bool} (hm : ReadI d s t r ok) (h : ((!ok || decide (r = [])) || (decide (((r.getD 0 0).toNat : Int) ≠ 32) && decide (((r.getD 0 0).toNat : Int) ≠ 41))) = false) :
    0 < r.length ∧ r.length < s.length ∧ partsFrom (d + 1) s = if r.getD 0 0 = 41 then some ([t], r.drop 1) else (partsFrom (d + 1) (r.drop 1)).map fun p => (t :: p.1, p.2) := by
  simp only [Bool.or_eq_false_iff, Bool.not_eq_false', decide_eq_false_iff_not] at h
  obtain ⟨⟨h1, h2⟩, h3⟩ := h
  obtain ⟨hr, hl⟩ := hm.le h1
  cases r with
  | nil => exact absurd rfl h2
  | cons c r =>
    refine ⟨by simp, hl, ?_⟩
    rw [parts_step hr]
    simp only [List.getD_cons_zero, List.drop_one, List.tail_cons] at h3 ⊢
    by_cases h41 : c = 41
    · rw [if_pos h41, if_pos h41]
    · rw [if_neg h41, if_neg h41]
      rw [show (32 : Int) = ((32 : Nat) : Int) from rfl, show (41 : Int) = ((41 : Nat) : Int) from rfl, byte_ne (by decide), byte_ne (by decide), Bool.and_eq_false_iff] at h3
      rcases h3 with h3 | h3
      · rw [if_pos (by simpa using h3)]
      · exact absurd (by simpa using h3) h41
theorem read_parse {s r : Bytes} {t : Tree} {ok : Bool} (hl : s.length ≤ 12000) (hm : ReadI 60 s t r ok) : (ok && decide (r = [])) = (parse s).isSome ∧ ∀ t', parse s = some t' → t = t' := by
  unfold parse
  rw [if_neg (by omega)]
  rcases hm with ⟨hr, rfl⟩ | ⟨hr, rfl⟩
  · rw [hr]
    cases r with
    | nil => simp
    | cons c r => simp
  · rw [hr]; simp
end Go.Proofs.YtnkjgoholocliaaGreatDoor

namespace Go.Proofs.YtnkjgoholocliaaGreatDoor

theorem blockI_head {b : Bk} {n1 n2 : Nat} (h1 : n1 = b.needs.length) (h2 : n2 = b.code.length)
    (h : (((!isLabel b.label || decide ((12000 : Int) < (b.label.length : Int))) || decide ((40 : Int) < (n1 : Int))) || !(decide ((1 : Int) ≤ (n2 : Int)) && decide ((n2 : Int) ≤ 80))) = true) : blockI b = false := by
  subst h1 h2
  unfold blockI shortL
  by_cases hs : b.label.length ≤ 12000
  · rw [decide_eq_true hs, Bool.and_true]
    refine blockB_head ?_
    rw [decide_eq_false (p := (12000 : Int) < (b.label.length : Int)) (by omega), Bool.or_false, blockB_z rfl rfl] at h
    exact notb_t h
  · rw [decide_eq_false hs, Bool.and_false]
theorem blockI_head' {b : Bk} {n1 n2 : Nat} (h1 : n1 = b.needs.length) (h2 : n2 = b.code.length)
    (h : (((!isLabel b.label || decide ((12000 : Int) < (b.label.length : Int))) || decide ((40 : Int) < (n1 : Int))) || !(decide ((1 : Int) ≤ (n2 : Int)) && decide ((n2 : Int) ≤ 80))) = false) :
    (isLabel b.label && decide (b.needs.length ≤ 40) && (decide (1 ≤ b.code.length) && decide (b.code.length ≤ 80))) = true ∧ shortL b = true := by
  subst h1 h2
  have hs : shortL b = true := by
    unfold shortL
    simp only [Bool.or_eq_false_iff, decide_eq_false_iff_not] at h
    exact decide_eq_true (by omega)
  refine ⟨?_, hs⟩
  have hs' : ¬ (12000 : Int) < (b.label.length : Int) := by have := of_decide_eq_true hs; omega
  rw [decide_eq_false hs', Bool.or_false, blockB_z rfl rfl] at h
  exact notb_f h
theorem blockI_need {b : Bk} {i : Nat} (hi : i < b.needs.length) (h : targetS (sth b.needs i) = false) : blockI b = false := by
  unfold blockI; rw [blockB_need hi h]; rfl
theorem blockI_line {b : Bk} {i : Nat} (hi : i < b.code.length) (h : lineB b.code i = false) : blockI b = false := by
  unfold blockI; rw [blockB_line hi h]; rfl
theorem target_tr {s : Bytes} {t : Tree} (h : targetS s = true) (ht : ∀ t', parse s = some t' → t = t') : t = tr s := by
  unfold targetS seen at h
  cases hp : parse s with
  | none => rw [hp] at h; cases h
  | some t' => rw [tr_eq hp]; exact ht t' hp
theorem lineI_z {code : List Bytes} {i n : Nat} {t : Tree} (hn : n = code.length) (hi : i < n) (ht : ∀ t', parse (sth code i) = some t' → t = t') :
    ((!(parse (sth code i)).isSome || !instrI t) || (lastI t != decide ((i : Int) = (n : Int) - 1))) = !lineB code i := by
  rw [← lineB_z hn hi, instrI_eq]
  unfold instrS lastS seen
  cases hp : parse (sth code i) with
  | none => simp
  | some t' =>
    have := ht t' hp
    subst this
    simp only [Option.isSome_some, Bool.not_true, Bool.false_or]
    cases hI : instrB t with
    | false => simp
    | true => rw [lastB_eq hI]
theorem line_tr {code : List Bytes} {i : Nat} {t : Tree} (h : lineB code i = true) (ht : ∀ t', parse (sth code i) = some t' → t = t') : t = tr (sth code i) := by
  unfold lineB at h
  rw [Bool.and_eq_true] at h
  have h := h.1
  unfold instrS seen at h
  cases hp : parse (sth code i) with
  | none => rw [hp] at h; cases h
  | some t' => rw [tr_eq hp]; exact ht t' hp
theorem map_take_snoc {α β : Type} (f : α → β) {xs : List α} {i : Nat} {x : α} (h : xs[i]? = some x) : (xs.take i).map f ++ [f x] = (xs.take (i + 1)).map f := by
  obtain ⟨hl, he⟩ := List.getElem?_eq_some_iff.1 h
  rw [List.take_succ_eq_append_getElem hl, List.map_append, he]; rfl
theorem map_take_all {α β : Type} (f : α → β) {xs : List α} {i : Nat} (h : xs.length ≤ i) : (xs.take i).map f = xs.map f := by rw [List.take_of_length_le h]
theorem map_take_len {α β : Type} (f : α → β) {xs : List α} {i : Nat} (h : i ≤ xs.length) : ((xs.take i).map f).length = i := by simp; omega
theorem isSome_wf {s : Bytes} {t : Tree} (ht : ∀ t', parse s = some t' → t = t') (h : (parse s).isSome = true) : WF t ∧ t.size ≤ 12001 := by
  obtain ⟨t', hp⟩ := Option.isSome_iff_exists.1 h
  rw [ht t' hp]; exact ⟨wf_parse hp, size_parse hp⟩

/-- The place of a block with a label. -/
def findI (ps : List IBk) (l : Bytes) : Int := match ps.findIdx? (fun b => decide (b.label = l)) with
  | some i => (i : Int)
  | none => -1
abbrev ith (ps : List IBk) (i : Nat) : IBk := ps.getD i ⟨[], [], []⟩
theorem ith_get {ps : List IBk} {i : Nat} (h : i < ps.length) : ps[i]? = some (ith ps i) := by simp [List.getElem?_eq_getElem h]
def idxI (ps : List IBk) (g : IBk → Bool) : Int := match ps.findIdx? g with
  | some i => (i : Int)
  | none => -1
theorem ith_elem {ps : List IBk} {i : Nat} (h : i < ps.length) : ith ps i = ps[i] := by simp [List.getElem?_eq_getElem h]
theorem idxI_at {ts : List IBk} {g : IBk → Bool} {k : Nat} (hk : k < ts.length) (h : ∀ i, i < k → g (ith ts i) = false) (hl : g (ith ts k) = true) : idxI ts g = (k : Int) := by
  have : ts.findIdx? g = some k := by
    rw [List.findIdx?_eq_some_iff_getElem]
    refine ⟨hk, by rw [← ith_elem hk]; exact hl, fun j hj => ?_⟩
    have := h j hj
    rw [ith_elem (Nat.lt_trans hj hk)] at this
    simpa using this
  unfold idxI; rw [this]
theorem idxI_no {ts : List IBk} {g : IBk → Bool} (h : ∀ i, i < ts.length → g (ith ts i) = false) : idxI ts g = -1 := by
  have : ts.findIdx? g = none := by
    rw [List.findIdx?_eq_none_iff]
    intro b hb
    obtain ⟨i, hi, rfl⟩ := List.getElem_of_mem hb
    have := h i hi
    rw [ith_elem hi] at this
    simpa using this
  unfold idxI; rw [this]
theorem bth_elem {bs : List Bk} {i : Nat} (h : i < bs.length) : bth bs i = bs[i] := by simp [List.getElem?_eq_getElem h]
theorem findI_neg {bs : List Bk} {k : Nat} (hk : k < bs.length) : decide ((0 : Int) ≤ findI ((bs.take k).map bkI) (bth bs k).label) = decide (findZ bs (bth bs k).label ≠ (k : Int)) := by
  refine decide_eq_decide.2 ?_
  by_cases hex : ∃ j, j < k ∧ (bth bs j).label = (bth bs k).label
  · obtain ⟨j, hj, hl⟩ := hex
    have h1 : findZ bs (bth bs k).label ≠ k := by
      intro h
      unfold findZ at h
      cases hf : bs.findIdx? (fun b => decide (b.label = (bth bs k).label)) with
      | none => rw [hf] at h; simp at h
      | some i =>
        rw [hf] at h
        have hik : i = k := Int.ofNat.inj h
        subst hik
        rw [List.findIdx?_eq_some_iff_getElem] at hf
        obtain ⟨_, _, hall⟩ := hf
        have := hall j hj
        rw [← bth_elem] at this
        simp only [decide_eq_true_eq] at this
        exact this hl
    have h2 : 0 ≤ findI ((bs.take k).map bkI) (bth bs k).label := by
      unfold findI
      cases hf : ((bs.take k).map bkI).findIdx? (fun b => decide (b.label = (bth bs k).label)) with
      | some i => simp
      | none =>
        rw [List.findIdx?_eq_none_iff] at hf
        have := hf (bkI (bth bs j)) (List.mem_map.2 ⟨bth bs j, by rw [List.mem_take_iff_getElem]; exact ⟨j, by omega, by simp [List.getElem?_eq_getElem (show j < bs.length by omega)]⟩, rfl⟩)
        exact absurd hl (of_decide_eq_false this)
    exact ⟨fun _ => h1, fun _ => h2⟩
  · have h1 : findZ bs (bth bs k).label = k := findZ_at hk (fun j hj hl => hex ⟨j, hj, hl⟩) rfl
    have h2 : findI ((bs.take k).map bkI) (bth bs k).label = -1 := by
      unfold findI
      have : ((bs.take k).map bkI).findIdx? (fun b => decide (b.label = (bth bs k).label)) = none := by
        rw [List.findIdx?_eq_none_iff]
        intro x hx
        obtain ⟨b, hb, rfl⟩ := List.mem_map.1 hx
        obtain ⟨j, hj, rfl⟩ := List.mem_take_iff_getElem.1 hb
        refine decide_eq_false fun hl => hex ⟨j, by omega, ?_⟩
        rw [bth, List.getD_eq_getElem?_getD, List.getElem?_eq_getElem (by omega)]
        exact hl
      rw [this]
    rw [h1, h2]; constructor
    · intro h; omega
    · intro h; exact absurd rfl h
theorem progI_block {bs : List Bk} {i : Nat} (hi : i < bs.length) (h : blockI (bth bs i) = false ∨ findZ bs (bth bs i).label ≠ i) : progI bs = false := by
  unfold progI
  cases hp : progB bs with
  | false => rfl
  | true =>
    rw [Bool.true_and]
    rcases h with h | h
    · have hm : bth bs i ∈ bs := List.mem_of_getElem? (bth_get hi)
      have hb := progB_block_of hp _ hm
      unfold blockI at h
      rw [hb, Bool.true_and] at h
      exact List.all_eq_false.2 ⟨_, hm, by rw [h]; decide⟩
    · rw [progB_block hi (fun hh => h hh.2)] at hp; cases hp
theorem progI_all {bs : List Bk} (h : ∀ i, i < bs.length → blockI (bth bs i) = true ∧ findZ bs (bth bs i).label = i) :
    progI bs = (decide (1 ≤ bs.length) && decide (bs.length ≤ 40) && decide ((bth bs 0).label = [109, 97, 105, 110]) && decide ((bth bs 0).needs.length = 0)) := by
  unfold progI
  rw [progB_all (fun i hi => ⟨by have := (h i hi).1; unfold blockI at this; rw [Bool.and_eq_true] at this; exact this.1, (h i hi).2⟩), show bs.all shortL = true from ?_, Bool.and_true]
  refine List.all_eq_true.2 fun b hb => ?_
  obtain ⟨i, hi, rfl⟩ := List.getElem_of_mem hb
  have := (h i hi).1
  unfold blockI at this
  rw [Bool.and_eq_true] at this
  rw [bth, List.getD_eq_getElem?_getD, List.getElem?_eq_getElem hi] at this
  exact this.2
theorem progI_len {bs : List Bk} (h : ¬ (1 ≤ bs.length ∧ bs.length ≤ 40)) : progI bs = false := by
  unfold progI progB
  by_cases h1 : 1 ≤ bs.length
  · rw [decide_eq_false (p := bs.length ≤ 40) (fun h2 => h ⟨h1, h2⟩)]; simp
  · rw [decide_eq_false h1]; simp
end Go.Proofs.YtnkjgoholocliaaGreatDoor

namespace Go.Proofs.YtnkjgoholocliaaGreatDoor

theorem textsOf_snoc : ∀ (ts : List Tree) (t : Tree), ts ≠ [] → textsOf (ts ++ [t]) = textsOf ts ++ 32 :: t.text
  | [], _, h => absurd rfl h
  | [u], t, _ => by rw [List.cons_append, List.nil_append, textsOf_cons, textsOf_one, textsOf_one]
  | u :: v :: r, t, _ => by
    have := textsOf_snoc (v :: r) t (by simp)
    rw [List.cons_append, List.cons_append, textsOf_cons, ← List.cons_append, this, textsOf_cons]; simp
/-- What is written ahead of the closing parenthesis. -/
def pre (ts : List Tree) : Bytes := if ts = [] then [] else 40 :: textsOf ts
theorem pre_step {ps : List Tree} {k : Nat} (hk : k < ps.length) : pre (ps.take (k + 1)) = pre (ps.take k) ++ ((if k = 0 then 40 else 32) :: (nth ps k).text) := by
  have e : ps.take (k + 1) = ps.take k ++ [nth ps k] := by rw [List.take_succ_eq_append_getElem hk, nth_elem hk]
  rw [e]
  by_cases h0 : k = 0
  · subst h0; simp [pre, textsOf_one]
  · have hne : ps.take k ≠ [] := by intro h; have := congrArg List.length h; rw [List.length_take] at this; simp only [List.length_nil] at this; omega
    unfold pre
    rw [if_neg (by simp), if_neg hne, textsOf_snoc _ _ hne, if_neg h0]; simp
theorem pre_all {t : Tree} (hwf : WF t) (h : t.parts.length ≠ 0) : pre (t.parts.take t.parts.length) ++ [41] = t.text := by
  cases hwf with
  | atom a _ => simp [Tree.parts] at h
  | list ps hp _ =>
    rw [text_list]
    show pre (ps.take ps.length) ++ [41] = _
    rw [List.take_length]
    unfold pre; rw [if_neg hp]; simp
theorem text_leaf {t : Tree} (hwf : WF t) (h : t.parts.length = 0) : t.text = t.atom := by
  cases hwf with
  | atom a ha => exact text_atom ha
  | list ps hp _ => exact absurd (List.length_eq_zero_iff.1 h) hp
theorem pre_le {t : Tree} (hwf : WF t) {k : Nat} (hk : k ≤ t.parts.length) : (pre (t.parts.take k)).length ≤ t.text.length := by
  by_cases h : t.parts.length = 0
  · rw [show k = 0 from by omega]; simp [pre]
  · rw [← pre_all hwf h, List.length_append]
    have mono : ∀ j, k ≤ j → j ≤ t.parts.length → (pre (t.parts.take k)).length ≤ (pre (t.parts.take j)).length := by
      intro j hj
      induction j with
      | zero => intro _; rw [show k = 0 from by omega]; exact Nat.le_refl _
      | succ j ih =>
        intro hjl
        rcases Nat.lt_or_ge k (j + 1) with h | h
        · have := ih (by omega) (by omega)
          rw [pre_step (by omega), List.length_append]; omega
        · rw [show k = j + 1 from by omega]; exact Nat.le_refl _
    have := mono _ hk (Nat.le_refl _)
    omega
/-- As the reference builds it. -/
def pre2 (ts : List Tree) : Bytes := 40 :: textsOf ts
theorem pre2_step {ps : List Tree} {k : Nat} (hk : k < ps.length) : pre2 (ps.take (k + 1)) = (pre2 (ps.take k) ++ (if k = 0 then [] else [32])) ++ (nth ps k).text := by
  have e : ps.take (k + 1) = ps.take k ++ [nth ps k] := by rw [List.take_succ_eq_append_getElem hk, nth_elem hk]
  rw [e]
  by_cases h0 : k = 0
  · subst h0; simp [pre2, textsOf_one, textsOf]
  · have hne : ps.take k ≠ [] := by intro h; have := congrArg List.length h; rw [List.length_take] at this; simp only [List.length_nil] at this; omega
    unfold pre2
    rw [textsOf_snoc _ _ hne, if_neg h0]; simp
theorem pre2_all {t : Tree} (hwf : WF t) (h : t.atom = []) : pre2 (t.parts.take t.parts.length) ++ [41] = t.text := by
  cases hwf with
  | atom a ha => exact absurd h ha
  | list ps hp _ =>
    rw [text_list]
    show pre2 (ps.take ps.length) ++ [41] = _
    rw [List.take_length]; rfl
theorem pre2_le {t : Tree} (hwf : WF t) (ha : t.atom = []) {k : Nat} (hk : k ≤ t.parts.length) : (pre2 (t.parts.take k)).length ≤ t.text.length := by
  rw [← pre2_all hwf ha, List.length_append]
  have mono : ∀ j, k ≤ j → j ≤ t.parts.length → (pre2 (t.parts.take k)).length ≤ (pre2 (t.parts.take j)).length := by
    intro j hj
    induction j with
    | zero => intro _; rw [show k = 0 from by omega]; exact Nat.le_refl _
    | succ j ih =>
      intro hjl
      rcases Nat.lt_or_ge k (j + 1) with h | h
      · have := ih (by omega) (by omega)
        rw [pre2_step (by omega), List.length_append, List.length_append]; omega
      · rw [show k = j + 1 from by omega]; exact Nat.le_refl _
  have := mono _ hk (Nat.le_refl _)
  omega
theorem bkOf?_no {u : Tree} (h : isBlkT u = false) : bkOf? u = nob := by unfold bkOf?; rw [h]; rfl
theorem bkOf?_yes {u : Tree} (h : isBlkT u = true) : bkOf? u = bkOf u := by unfold bkOf?; rw [h]; rfl
theorem isBlkT_z {u : Tree} {n : Nat} (hn : n = u.parts.length) : ((((decide (headOf u ≠ [98, 108, 111, 99, 107]) || decide ((n : Int) ≠ 4)) || decide (headOf (nth u.parts 2) ≠ [114, 101, 103, 115])) || decide (headOf (nth u.parts 3) ≠ [99, 111, 100, 101]))) = !isBlkT u := by
  subst hn
  unfold isBlkT
  rw [show decide ((u.parts.length : Int) ≠ 4) = decide (u.parts.length ≠ 4) from decide_eq_decide.2 (by omega)]
  simp only [decide_not, Bool.not_and]
/-- A list of the parts of a form that was read. -/
theorem isBlkT_len {u : Tree} (h : isBlkT u = true) : u.parts.length = 4 := by
  unfold isBlkT at h
  simp only [Bool.and_eq_true, decide_eq_true_eq] at h; exact h.1.1.2
/-- Read forms, so their parts, are small. -/
structure Fine (t : Tree) : Prop where
  wf : WF t
  size : t.size ≤ 12001
  text : t.text.length ≤ 12000
theorem Fine.part {t p : Tree} {i : Nat} (h : Fine t) (hg : Good t) (hp : t.parts[i]? = some p) : Fine p := by
  obtain ⟨_, _, h3⟩ := hg.sub hp
  exact ⟨h.wf.part hp, by have := size_lt hp; have := h.size; omega, by have := h.text; omega⟩
theorem fine_parse {s : Bytes} {t : Tree} (h : parse s = some t) : Fine t := by
  obtain ⟨h1, h2, h3, h4⟩ := parse_good h
  exact ⟨h1.wf, size_parse h, by rw [h3]; exact h4⟩
theorem Fine.nth {t : Tree} {i : Nat} (h : Fine t) (hg : Good t) (hi : i < t.parts.length) : Fine (nth t.parts i) := h.part hg (nth_get hi)
theorem fromP_bad {s : Bytes} {t : Tree} (hp : ∀ t', parse s = some t' → t = t') (h : (!(parse s).isSome || decide (headOf t ≠ [112, 114, 111, 103, 114, 97, 109])) = true) : fromP s = none := by
  unfold fromP
  cases hq : parse s with
  | none => rfl
  | some t' =>
    rw [← hp t' hq]
    rw [hq] at h
    simp only [Option.isSome_some, Bool.not_true, Bool.false_or] at h
    simp only
    rw [decide_eq_false (of_decide_eq_true h)]; rfl
theorem fromP_good {s : Bytes} {t : Tree} (hp : ∀ t', parse s = some t' → t = t') (h : (!(parse s).isSome || decide (headOf t ≠ [112, 114, 111, 103, 114, 97, 109])) = false) : parse s = some t ∧ fromP s = (if progB (fromT t) then some (fromT t) else none) ∧ 0 < t.parts.length := by
  unfold fromP
  cases hq : parse s with
  | none => rw [hq] at h; simp at h
  | some t' =>
    have ht := hp t' hq
    subst ht
    rw [hq] at h
    simp only [Option.isSome_some, Bool.not_true, Bool.false_or, decide_eq_false_iff_not, Classical.not_not] at h
    refine ⟨rfl, by simp only; rw [decide_eq_true h, Bool.true_and], Nat.pos_of_ne_zero fun hz => ?_⟩
    rw [headOf_no (.inr (List.length_eq_zero_iff.1 hz))] at h; cases h
theorem drop_get {t : Tree} {k : Nat} (h : k + 1 < t.parts.length) : (t.parts.drop 1)[k]? = some (nth t.parts (k + 1)) := by
  rw [List.getElem?_drop, show 1 + k = k + 1 from by omega, nth_get h]
/-- Trees that are small enough. -/
def Slim (ts : List Tree) : Prop := ts.length < 1000000 ∧ ∀ t, t ∈ ts → WF t ∧ t.size ≤ 100000000 ∧ t.text.length ≤ 100000000
theorem slim_drop {u : Tree} (h : Fine u) (hg : Good u) (k : Nat) : Slim (u.parts.drop k) := by
  have hp := parts_le u
  have hs := h.size
  refine ⟨by simp; omega, fun t ht => ?_⟩
  obtain ⟨i, hi, rfl⟩ := List.getElem_of_mem (List.mem_of_mem_drop ht)
  have := h.part hg (List.getElem?_eq_getElem hi)
  exact ⟨this.wf, by have := this.size; omega, by have := this.text; omega⟩
theorem small_bk {u : Tree} (h : Fine u) (hg : Good u) : (bkOf? u).small := by
  unfold bkOf?
  split
  · rename_i hb
    have h4 := isBlkT_len hb
    have f1 := h.nth (i := 1) hg (by omega)
    have f2 := h.nth (i := 2) hg (by omega)
    have f3 := h.nth (i := 3) hg (by omega)
    have a1 := atom_lt (nth u.parts 1)
    have p2 := parts_le (nth u.parts 2)
    have p3 := parts_le (nth u.parts 3)
    have := f1.size
    have := f2.size
    have := f3.size
    refine ⟨?_, ?_, ?_⟩
    · show (nth u.parts 1).atom.length < _; omega
    · show (((nth u.parts 2).parts.drop 1).map Tree.text).length < _; simp; omega
    · show (((nth u.parts 3).parts.drop 1).map Tree.text).length < _; simp; omega
  · exact ⟨by decide, by decide, by decide⟩
theorem smalls_from {t : Tree} (h : Fine t) (hg : Good t) : Smalls (fromT t) := by
  have hp := parts_le t
  have hs := h.size
  have hl : (fromT t).length = t.parts.length - 1 := by simp [fromT]
  refine ⟨by omega, fun i hi => ?_⟩
  have e : bth (fromT t) i = bkOf? (nth t.parts (i + 1)) := by
    simp [fromT, bth, List.getD, List.getElem?_eq_getElem (show i + 1 < t.parts.length by omega), nth]
  rw [e]
  exact small_bk (h.nth hg (by omega)) (hg.nth (by omega))
end Go.Proofs.YtnkjgoholocliaaGreatDoor

namespace Go.Proofs.YtnkjgoholocliaaGreatDoor

/-! ### Depth and length, part by part -/
def maxD : List Tree → Nat
  | [] => 0
  | t :: ts => max t.depth (maxD ts)
theorem maxD_append : ∀ (a b : List Tree), maxD (a ++ b) = max (maxD a) (maxD b)
  | [], b => by simp [maxD]
  | t :: ts, b => by rw [List.cons_append, maxD, maxD, maxD_append ts b]; omega
theorem maxD_step {ps : List Tree} {k : Nat} (hk : k < ps.length) : maxD (ps.take (k + 1)) = max (maxD (ps.take k)) (nth ps k).depth := by
  rw [List.take_succ_eq_append_getElem hk, maxD_append, nth_elem hk]; simp [maxD]
theorem deeps_max : ∀ {ps : List Tree}, ps ≠ [] → Tree.depth.deeps ps = maxD ps + 1
  | [], h => absurd rfl h
  | [t], _ => by simp [Tree.depth.deeps, maxD]
  | t :: u :: us, _ => by
    have := deeps_max (ps := u :: us) (by simp)
    simp only [Tree.depth.deeps, maxD] at this ⊢; omega
theorem depth_eq (t : Tree) : t.depth = Tree.depth.deeps t.parts := by cases t; simp [Tree.depth, Tree.parts]
theorem depth_leaf {t : Tree} (h : t.parts.length = 0) : t.depth = 0 := by rw [depth_eq, List.length_eq_zero_iff.1 h]; rfl
theorem depth_max {t : Tree} (h : t.parts.length ≠ 0) : t.depth = maxD (t.parts.take t.parts.length) + 1 := by
  rw [depth_eq, List.take_length, deeps_max (fun hh => h (by rw [hh]; rfl))]
theorem depth_lt {m : Nat} : ∀ t : Tree, t.size ≤ m → t.depth < t.size := by
  induction m with
  | zero => intro t h; have := atom_lt t; omega
  | succ m ih =>
    intro t h
    have h1 := parts_le t
    have h2 : Tree.depth.deeps t.parts ≤ t.size - 1 := deeps_le fun p hp => by
      obtain ⟨i, hi, rfl⟩ := List.getElem_of_mem hp
      have h3 := size_lt (t := t) (List.getElem?_eq_getElem hi)
      have := ih _ (by omega : t.parts[i].size ≤ m)
      omega
    rw [depth_eq]; omega
theorem maxD_lt {t : Tree} {k : Nat} : maxD (t.parts.take k) < t.size := by
  have key : ∀ (ps : List Tree) (d : Nat), 0 < d → (∀ p, p ∈ ps → p.depth < d) → maxD ps < d := by
    intro ps
    induction ps with
    | nil => intro d hd _; simpa [maxD] using hd
    | cons p ps ih =>
      intro d hd h
      have h1 := h p (by simp)
      have h2 := ih d hd (fun q hq => h q (by simp [hq]))
      rw [maxD]; omega
  refine key _ _ (by have := atom_lt t; omega) fun p hp => ?_
  obtain ⟨i, hi, rfl⟩ := List.getElem_of_mem (List.mem_of_mem_take hp)
  have h3 := size_lt (t := t) (List.getElem?_eq_getElem hi)
  have := depth_lt _ (Nat.le_refl (t.parts[i]).size)
  omega
theorem lens_append : ∀ (a b : List Tree), Tree.len.lens (a ++ b) = Tree.len.lens a + Tree.len.lens b
  | [], b => by simp [Tree.len.lens]
  | t :: ts, b => by rw [List.cons_append, Tree.len.lens, Tree.len.lens, lens_append ts b]; omega
theorem lens_step {ps : List Tree} {k : Nat} (hk : k < ps.length) : Tree.len.lens (ps.take (k + 1)) = Tree.len.lens (ps.take k) + ((nth ps k).len + 1) := by
  rw [List.take_succ_eq_append_getElem hk, lens_append, nth_elem hk]; simp [Tree.len.lens]
theorem len_leaf {t : Tree} (h : t.parts.length = 0) : t.len = t.atom.length := by
  cases t with
  | mk a ps => simp only [Tree.parts] at h; have := List.length_eq_zero_iff.1 h; subst this; simp [Tree.len, Tree.atom]
theorem len_node {t : Tree} (h : t.parts.length ≠ 0) : t.len = 1 + Tree.len.lens (t.parts.take t.parts.length) := by
  cases t with
  | mk a ps =>
    have : ps ≠ [] := fun hh => h (by rw [hh]; rfl)
    simp [Tree.len, Tree.parts, this]
theorem lens_le {t : Tree} {k : Nat} (h : t.parts.length ≠ 0) : 1 + Tree.len.lens (t.parts.take k) ≤ t.len := by
  rw [len_node h, List.take_length]
  have := lens_append (t.parts.take k) (t.parts.drop k)
  rw [List.take_append_drop] at this
  omega
theorem size_text {t : Tree} (h : Good t) : t.size ≤ 2 * t.text.length := by
  induction h with
  | atom a ha hb =>
    have := List.length_pos_iff.2 ha
    rw [text_atom ha]
    simp only [Tree.size, Tree.size.sizes]; omega
  | list ps hp hw ih =>
    have key : ∀ qs : List Tree, (∀ p, p ∈ qs → p.size ≤ 2 * p.text.length) → Tree.size.sizes qs ≤ 2 * (textsOf qs).length := by
      intro qs
      induction qs with
      | nil => intro _; simp [Tree.size.sizes]
      | cons q qs ih2 =>
        intro h
        have h1 := h q (by simp)
        have h2 := ih2 (fun p hp => h p (by simp [hp]))
        cases qs with
        | nil => rw [textsOf_one]; simp only [Tree.size.sizes]; omega
        | cons u us =>
          rw [textsOf_cons]
          simp only [Tree.size.sizes, List.length_append, List.length_cons] at h2 ⊢; omega
    have := key ps ih
    rw [text_list]
    simp only [Tree.size, List.length_cons, List.length_append, List.length_nil]; omega

/-! ### Texts joined -/
theorem joinB_append (a b : List Bytes) : joinB (a ++ b) = joinB a ++ joinB b := by simp [joinB]
/-- What is written ahead of the closing parenthesis. -/
def listTo (h : Bytes) (ps : List Bytes) (k : Nat) : Bytes := 40 :: (h ++ joinB (ps.take k))
theorem listTo_step {h : Bytes} {ps : List Bytes} {k : Nat} (hk : k < ps.length) : listTo h ps (k + 1) = (listTo h ps k ++ [32]) ++ sth ps k := by
  unfold listTo
  rw [List.take_succ_eq_append_getElem hk, joinB_append]
  simp [joinB, sth, List.getElem?_eq_getElem hk]
theorem listTo_all {h : Bytes} {ps : List Bytes} {k : Nat} (hk : ps.length ≤ k) : listTo h ps k ++ [41] = listS h ps := by
  unfold listTo listS; rw [List.take_of_length_le hk]; simp
theorem listTo_le {h : Bytes} {ps : List Bytes} (k : Nat) : (listTo h ps k).length + 1 ≤ (listS h ps).length := by
  have : (joinB (ps.take k)).length ≤ (joinB ps).length := by
    have := joinB_append (ps.take k) (ps.drop k)
    rw [List.take_append_drop] at this
    rw [this, List.length_append]; omega
  simp [listTo, listS]; omega
/-! ### What the laws count -/
def szS (xs : List Bytes) : Nat := xs.length + (xs.map List.length).sum
theorem sum_take {α : Type} (f : α → Nat) {xs : List α} {k : Nat} (hk : k < xs.length) : ((xs.take (k + 1)).map f).sum = ((xs.take k).map f).sum + f xs[k] := by
  rw [List.take_succ_eq_append_getElem hk, List.map_append, List.sum_append]; simp
theorem sum_take_le {α : Type} (f : α → Nat) (xs : List α) (k : Nat) : ((xs.take k).map f).sum ≤ (xs.map f).sum := by
  have := congrArg (fun l => (l.map f).sum) (List.take_append_drop k xs)
  simp only [List.map_append, List.sum_append] at this; omega
def szSto (xs : List Bytes) (k : Nat) : Nat := xs.length + ((xs.take k).map List.length).sum
theorem szSto_step {xs : List Bytes} {k : Nat} (hk : k < xs.length) : szSto xs (k + 1) = szSto xs k + (sth xs k).length := by
  unfold szSto; rw [sum_take _ hk, show sth xs k = xs[k] from by simp [sth, List.getElem?_eq_getElem hk]]; omega
theorem szSto_le (xs : List Bytes) (k : Nat) : szSto xs k ≤ szS xs := by unfold szSto szS; have := sum_take_le List.length xs k; omega
theorem szSto_all {xs : List Bytes} {k : Nat} (hk : xs.length ≤ k) : szSto xs k = szS xs := by unfold szSto szS; rw [List.take_of_length_le hk]
theorem joinB_len (ps : List Bytes) : (joinB ps).length = szS ps := by
  unfold szS
  induction ps with
  | nil => simp [joinB]
  | cons p ps ih => simp [joinB] at ih ⊢; omega
end Go.Proofs.YtnkjgoholocliaaGreatDoor

namespace Go.Proofs.YtnkjgoholocliaaGreatDoor

/-! ### Packages have two parts -/
inductive EOK : Tree → Prop
  | atom (a : Bytes) : EOK (.mk a [])
  | list (ps : List Tree) (h : headA ps = [101] → ps.length = 2) (hp : ∀ p, p ∈ ps → EOK p) : EOK (.mk [] ps)
theorem EOK.part {t p : Tree} {i : Nat} (h : EOK t) (hp : t.parts[i]? = some p) : EOK p := by
  cases h with
  | atom a => simp [Tree.parts] at hp
  | list ps _ hw => exact hw p (List.mem_of_getElem? hp)
theorem EOK.nth {t : Tree} {i : Nat} (h : EOK t) (hi : i < t.parts.length) : EOK (nth t.parts i) := h.part (nth_get hi)
theorem EOK.two {t : Tree} (h : EOK t) (he : headOf t = [101]) : t.parts.length = 2 := by
  cases h with
  | atom a => rw [headOf_no (.inr rfl)] at he; cases he
  | list ps h2 _ => rw [headOf_mk] at he; exact h2 he
theorem eok_target {t : Tree} (hwf : WF t) : ∀ h, targetB h t = true → EOK t := by
  induction hwf with
  | atom a _ => intro _ _; exact .atom a
  | list ps hp hw ih =>
    intro h ht
    cases ps with
    | nil => exact absurd rfl hp
    | cons hd rest =>
      have hhd : ∀ a, hd.atom = a → a ≠ [] → EOK hd := fun a ha hne => by
        have := hw hd (by simp)
        cases this with
        | atom b _ => exact .atom b
        | list qs _ _ => exact absurd ha.symm hne
      unfold targetB at ht
      simp only [ne_eq, not_true, if_false] at ht
      by_cases he : hd.atom = [101]
      · rw [if_pos he] at ht
        cases rest with
        | nil => simp [targetB.oneT] at ht
        | cons x r2 =>
          cases r2 with
          | nil =>
            refine .list _ (fun _ => rfl) fun p hp' => ?_
            simp only [List.mem_cons, List.not_mem_nil, or_false] at hp'
            rcases hp' with rfl | rfl
            · exact hhd _ he (by decide)
            · exact ih p (by simp) true ht
          | cons y r3 => simp [targetB.oneT] at ht
      · rw [if_neg he] at ht
        by_cases htc : hd.atom = [116] ∨ hd.atom = [99]
        · rw [if_pos htc, allT_eq, List.all_eq_true] at ht
          refine .list _ (fun h => absurd h he) fun p hp' => ?_
          rcases List.mem_cons.1 hp' with rfl | hp'
          · rcases htc with h | h
            · exact hhd _ h (by decide)
            · exact hhd _ h (by decide)
          · exact ih p (by simp [hp']) h (ht p hp')
        · rw [if_neg htc] at ht; cases ht
theorem eok_listT {h : Bytes} (hh : h ≠ [101]) {ts : List Tree} (hp : ∀ t, t ∈ ts → EOK t) : EOK (listT h ts) :=
  .list _ (fun he => absurd he hh) fun p hp' => by
    rcases List.mem_cons.1 hp' with rfl | hp'
    · exact .atom _
    · exact hp p hp'
theorem eok_put {y : Tree} (hy : EOK y) (hya : y.atom ≠ [101]) {t : Tree} (h : EOK t) : EOK (putT y t) := by
  induction h with
  | atom a =>
    unfold putT
    split
    · exact hy
    · split
      · exact .atom a
      · simp only [putL]; exact .list _ (by simp [headA]) (by simp)
  | list ps h2 hp ih =>
    unfold putT
    rw [if_neg (by decide)]
    by_cases he : ([] : Bytes) ≠ [] ∨ headA ps = [101]
    · rw [if_pos he]; exact .list ps h2 hp
    · rw [if_neg he, putL_map]
      refine .list _ (fun hh => ?_) fun p hp' => ?_
      · cases ps with
        | nil => simp [headA] at hh
        | cons q qs =>
          exfalso
          have hq : (putT y q).atom = [101] := hh
          cases q with
          | mk a rs =>
            unfold putT at hq
            by_cases h1 : a = [118]
            · rw [if_pos h1] at hq; exact hya hq
            · rw [if_neg h1] at hq
              by_cases h3 : a ≠ [] ∨ headA rs = [101]
              · rw [if_pos h3] at hq; exact he (.inr hq)
              · rw [if_neg h3] at hq; cases hq
      · obtain ⟨q, hq, rfl⟩ := List.mem_map.1 hp'
        exact ih q hq

/-! ### States -/
structure OkT (t : Tree) : Prop where
  good : Good t
  fits : fitsB t = true
  eok : EOK t
def OkTS (st : TS) : Prop := ∀ i t, st.getD i none = some t → OkT t
theorem ok_iT : OkT iT := ⟨.atom _ (by decide) (by decide), by decide, .atom _⟩
theorem fits_part {t : Tree} (hg : Good t) (h : fitsB t = true) {i : Nat} (hi : i < t.parts.length) : fitsB (nth t.parts i) = true := by
  unfold fitsB at h ⊢
  rw [Bool.and_eq_true, decide_eq_true_eq, decide_eq_true_eq] at h ⊢
  obtain ⟨h1, h2, h3⟩ := hg.sub (nth_get hi)
  rw [len_text hg.wf] at h
  rw [len_text h1.wf]
  omega
theorem OkT.nth {t : Tree} (h : OkT t) {i : Nat} (hi : i < t.parts.length) : OkT (nth t.parts i) := ⟨h.good.nth hi, fits_part h.good h.fits hi, h.eok.nth hi⟩
theorem ts_set {st : TS} {r i : Nat} {o : Option Tree} (hr : r < st.length) : (st.set r o).getD i none = if i = r then o else st.getD i none := by
  rw [List.getD_eq_getElem?_getD, List.getElem?_set, List.getD_eq_getElem?_getD]
  by_cases h : r = i
  · subst h; rw [if_pos rfl, if_pos hr, if_pos rfl]; rfl
  · rw [if_neg h, if_neg (fun hh => h hh.symm)]
theorem okTS_set {st : TS} (h : OkTS st) {d : Nat} (hd : d < st.length) {o : Option Tree} (ho : ∀ t, o = some t → Good t ∧ EOK t) {st' : TS} (hs : setT st d o = some st') : OkTS st' ∧ st'.length = st.length := by
  unfold setT at hs
  cases o with
  | none => cases hs
  | some t =>
    simp only [Option.bind_some] at hs
    by_cases hf : fitsB t = true
    · rw [if_pos hf] at hs
      cases hs
      refine ⟨fun i t' ht => ?_, by simp⟩
      rw [ts_set hd] at ht
      split at ht
      · cases ht; exact ⟨(ho t rfl).1, hf, (ho t rfl).2⟩
      · exact h i t' ht
    · rw [if_neg hf] at hs; cases hs
theorem regT_ok {st : TS} (h : OkTS st) {a : Bytes} {t : Tree} (ht : regT st a = some t) : OkT t := h _ t ht
def OkP (p : List IBk) : Prop := p.length ≤ 1000000 ∧ ∀ b, b ∈ p → b.regs.length ≤ 40 ∧ ∀ t, t ∈ b.regs → OkT t
theorem regsOf_ok {p : List IBk} (h : OkP p) {l : Bytes} {need : List Tree} (hn : regsOf p l = some need) : need.length ≤ 40 ∧ ∀ t, t ∈ need → OkT t := by
  unfold regsOf at hn
  cases hf : p.find? (fun b => decide (b.label = l)) with
  | none => rw [hf] at hn; cases hn
  | some b => rw [hf] at hn; cases hn; exact h.2 b (List.mem_of_find?_eq_some hf)
theorem allT_ok {st : TS} (h : OkTS st) : ∀ {us xs : List Tree}, allT st us = some xs → xs.length = us.length ∧ ∀ t, t ∈ xs → OkT t
  | [], xs, hx => by cases hx; simp
  | u :: us, xs, hx => by
    unfold allT at hx
    cases hr : regT st u.atom with
    | none => rw [hr] at hx; cases hx
    | some x =>
      rw [hr] at hx
      simp only [Option.bind_some] at hx
      cases ha : allT st us with
      | none => rw [ha] at hx; cases hx
      | some ys =>
        rw [ha] at hx
        cases hx
        obtain ⟨h1, h2⟩ := allT_ok h ha
        refine ⟨by simp [h1], fun t ht => ?_⟩
        rcases List.mem_cons.1 ht with rfl | ht
        · exact regT_ok h hr
        · exact h2 t ht
theorem allT_snoc {st : TS} : ∀ (us : List Tree) (u : Tree), allT st (us ++ [u]) = (allT st us).bind fun xs => (regT st u.atom).map fun x => xs ++ [x]
  | [], u => by
    show (regT st u.atom).bind (fun x => (allT st []).map fun xs => x :: xs) = _
    cases regT st u.atom <;> rfl
  | v :: us, u => by
    show (regT st v.atom).bind (fun x => (allT st (us ++ [u])).map fun xs => x :: xs) = ((regT st v.atom).bind fun x => (allT st us).map fun xs => x :: xs).bind _
    rw [allT_snoc us u]
    cases regT st v.atom with
    | none => rfl
    | some x =>
      cases allT st us with
      | none => rfl
      | some xs => cases regT st u.atom <;> rfl

/-! ### What an instruction has -/
def haveK (st : TS) (σ : Bytes) (ps : List Tree) : Nat → Option (List Tree)
  | 0 => some []
  | k + 1 => (haveK st σ ps k).bind fun xs => if σ.getD k 0 = 115 then (regT st (nth ps (k + 1)).atom).map fun x => xs ++ [x] else some xs
theorem haveK_none {st : TS} {σ : Bytes} {ps : List Tree} {k : Nat} (h : haveK st σ ps k = none) : ∀ n, k ≤ n → haveK st σ ps n = none := by
  intro n hn
  induction n with
  | zero => rw [show k = 0 from by omega] at h; exact h
  | succ n ih =>
    rcases Nat.lt_or_ge k (n + 1) with hl | hl
    · unfold haveK; rw [ih (by omega)]; rfl
    · rw [show k = n + 1 from by omega] at h; exact h
theorem haveK_skip {st : TS} {σ : Bytes} {ps : List Tree} {k : Nat} {xs : List Tree} (h : haveK st σ ps k = some xs) (hs : σ.getD k 0 ≠ 115) : haveK st σ ps (k + 1) = some xs := by
  unfold haveK; rw [h, Option.bind_some, if_neg hs]
theorem haveK_some {st : TS} {σ : Bytes} {ps : List Tree} {k : Nat} {xs : List Tree} {x : Tree} (h : haveK st σ ps k = some xs) (hs : σ.getD k 0 = 115) (hx : regT st (nth ps (k + 1)).atom = some x) : haveK st σ ps (k + 1) = some (xs ++ [x]) := by
  unfold haveK; rw [h, Option.bind_some, if_pos hs, hx]; rfl
theorem haveK_no {st : TS} {σ : Bytes} {ps : List Tree} {k : Nat} {xs : List Tree} (h : haveK st σ ps k = some xs) (hs : σ.getD k 0 = 115) (hx : regT st (nth ps (k + 1)).atom = none) : haveK st σ ps (k + 1) = none := by
  unfold haveK; rw [h, Option.bind_some, if_pos hs, hx]; rfl
theorem haveK_new {st : TS} {ps : List Tree} {m : Nat} (hm : ps.length = m + 2) : ∀ k, k ≤ m → haveK st ([100] ++ List.replicate m 115) ps (k + 1) = allT st ((ps.drop 2).take k)
  | 0, _ => by simp [haveK, allT]
  | k + 1, hk => by
    have ih := haveK_new (st := st) hm k (by omega)
    have hs : ([100] ++ List.replicate m 115 : Bytes).getD (k + 1) 0 = 115 := by
      rw [List.getD_eq_getElem?_getD, List.getElem?_append_right (by simp), List.getElem?_replicate, if_pos (by simp; omega)]; rfl
    have hd : k < (ps.drop 2).length := by simp; omega
    have e : (ps.drop 2).take (k + 1) = (ps.drop 2).take k ++ [nth ps (k + 2)] := by
      rw [List.take_succ_eq_append_getElem hd, List.getElem_drop, nth_elem (show k + 2 < ps.length by omega)]
      simp [Nat.add_comm]
    rw [e, allT_snoc, ← ih]
    conv => lhs; unfold haveK
    simp only [hs, if_true]

/-- What holds of an instruction's parts. -/
theorem instrI_facts {t : Tree} (h : instrI t = true) : shapeI (headOf t) t.parts.length ≠ [] ∧ t.parts.length = (shapeI (headOf t) t.parts.length).length + 1 ∧
    ∀ i, i < (shapeI (headOf t) t.parts.length).length → partI (((shapeI (headOf t) t.parts.length).getD i 0).toNat : Int) (nth t.parts (i + 1)) = true := by
  unfold instrI at h
  split at h
  · cases h
  · rename_i hn
    exact ⟨fun h => hn (.inl h), Classical.not_not.1 fun h => hn (.inr h), of_decide_eq_true h⟩

/-! ### What it gives -/
section
variable {p : List IBk} {st : TS} {o : Nat} {t : Tree}
theorem step_const (hh : headOf t = [99, 111, 110, 115, 116]) : stepT p st o t = setT st (regN (nth t.parts 1).atom) (some iT) := by
  simp [stepT, giveT, hh]
theorem step_mov {x : Tree} (hh : headOf t = [109, 111, 118]) (hx : regT st (nth t.parts 2).atom = some x) : stepT p st o t = setT st (regN (nth t.parts 1).atom) (some x) := by
  simp [stepT, giveT, hh, hx]
theorem step_add {x y : Tree} (hh : headOf t = [97, 100, 100] ∨ headOf t = [115, 117, 98] ∨ headOf t = [109, 117, 108]) (hx : regT st (nth t.parts 2).atom = some x) (hy : regT st (nth t.parts 3).atom = some y) :
    stepT p st o t = if sameT x iT && sameT y iT then setT st (regN (nth t.parts 1).atom) (some iT) else none := by
  rcases hh with hh | hh | hh <;> simp only [stepT, giveT, hh, hx, hy, is?] <;> cases (sameT x iT && sameT y iT) <;> simp [setT]
theorem step_new {xs : List Tree} (hh : headOf t = [110, 101, 119]) (hx : allT st (t.parts.drop 2) = some xs) : stepT p st o t = setT st (regN (nth t.parts 1).atom) (some (listT [116] xs)) := by
  simp [stepT, hh, hx]
theorem step_new_no (hh : headOf t = [110, 101, 119]) (hx : allT st (t.parts.drop 2) = none) : stepT p st o t = none := by
  simp [stepT, hh, hx, setT]
theorem step_get {x : Tree} (hh : headOf t = [103, 101, 116]) (hx : regT st (nth t.parts 2).atom = some x) :
    stepT p st o t = if headOf x = [116] ∧ numZ (nth t.parts 3).atom + 1 < x.parts.length then setT st (regN (nth t.parts 1).atom) (some (nth x.parts (numZ (nth t.parts 3).atom + 1).toNat)) else none := by
  have e : giveT p st o t = (if headOf x = [116] ∧ numZ (nth t.parts 3).atom + 1 < x.parts.length then some (nth x.parts (numZ (nth t.parts 3).atom + 1).toNat) else none) := by simp [giveT, hh, hx]
  have e2 : stepT p st o t = setT st (regN (nth t.parts 1).atom) (giveT p st o t) := by simp [stepT, hh]
  rw [e2, e]
  by_cases hc : headOf x = [116] ∧ numZ (nth t.parts 3).atom + 1 < x.parts.length
  · rw [if_pos hc, if_pos hc]
  · rw [if_neg hc, if_neg hc]; rfl
theorem step_lab {l : Option (List Tree)} (hh : headOf t = [108, 97, 98]) (hl : regsOf p (nth t.parts 2).atom = l) : stepT p st o t = setT st (regN (nth t.parts 1).atom) (l.map (listT [99])) := by
  subst hl; simp [stepT, giveT, hh]
theorem step_pack {x : Tree} (hh : headOf t = [112, 97, 99, 107]) (hx : regT st (nth t.parts 2).atom = some x) :
    stepT p st o t = if sameT x (putT (nth t.parts 4) (nth (nth t.parts 3).parts 1)) then setT st (regN (nth t.parts 1).atom) (some (nth t.parts 3)) else none := by
  simp only [stepT, giveT, hh, hx, Option.bind_some]
  cases sameT x (putT (nth t.parts 4) (nth (nth t.parts 3).parts 1)) <;> simp [setT]
theorem step_open {x : Tree} (hh : headOf t = [111, 112, 101, 110]) (hx : regT st (nth t.parts 2).atom = some x) :
    stepT p st o t = if headOf x = [101] then setT st (regN (nth t.parts 1).atom) (some (putT (atomT (97 :: decB o)) (nth x.parts 1))) else none := by
  have e : giveT p st o t = (if headOf x = [101] then some (putT (atomT (97 :: decB o)) (nth x.parts 1)) else none) := by simp [giveT, hh, hx]
  have e2 : stepT p st o t = setT st (regN (nth t.parts 1).atom) (giveT p st o t) := by simp [stepT, hh]
  rw [e2, e]
  by_cases hc : headOf x = [101]
  · rw [if_pos hc, if_pos hc]
  · rw [if_neg hc, if_neg hc]; rfl
theorem step_zero {x : Tree} (hh : headOf t = [122, 101, 114, 111]) (hx : regT st (nth t.parts 1).atom = some x) :
    stepT p st o t = (regsOf p (nth t.parts 2).atom).bind fun need => if sameT x iT && meets st need then some st else none := by
  simp [stepT, hh, hx, is?]
theorem step_jump {x : Tree} (hh : headOf t = [106, 117, 109, 112]) (hx : regT st (nth t.parts 1).atom = some x) :
    stepT p st o t = if headOf x = [99] ∧ meets st (x.parts.drop 1) = true then some st else none := by
  simp [stepT, hh, hx]
theorem step_halt (hh : headOf t = [104, 97, 108, 116]) : stepT p st o t = (regT st (nth t.parts 1).atom).map fun _ => st := by
  simp [stepT, hh]
/-- A register that is asked has no type: the instruction fails. -/
theorem step_none (hi : instrI t = true) (h : haveK st (shapeI (headOf t) t.parts.length) t.parts (shapeI (headOf t) t.parts.length).length = none) : stepT p st o t = none := by
  obtain ⟨hne, hlen, _⟩ := instrI_facts hi
  have r2 : ∀ {q : Nat}, regT st (nth t.parts q).atom = none ∨ ∃ x, regT st (nth t.parts q).atom = some x := fun {q} => by cases regT st (nth t.parts q).atom <;> simp
  unfold shapeI at h hne hlen
  by_cases c1 : headOf t = [99, 111, 110, 115, 116]
  · rw [if_pos c1] at h; simp [haveK] at h
  rw [if_neg c1] at h hne hlen
  by_cases c2 : headOf t = [109, 111, 118] ∨ headOf t = [111, 112, 101, 110]
  · rw [if_pos c2] at h
    have hn : regT st (nth t.parts 2).atom = none := by
      rcases r2 (q := 2) with h2 | ⟨x, h2⟩
      · exact h2
      · simp [haveK, h2] at h
    rcases c2 with hh | hh <;> simp [stepT, giveT, hh, hn, setT]
  rw [if_neg c2] at h hne hlen
  by_cases c3 : headOf t = [97, 100, 100] ∨ headOf t = [115, 117, 98] ∨ headOf t = [109, 117, 108]
  · rw [if_pos c3] at h
    have hn : regT st (nth t.parts 2).atom = none ∨ regT st (nth t.parts 3).atom = none := by
      rcases r2 (q := 2) with h2 | ⟨x, h2⟩
      · exact .inl h2
      · rcases r2 (q := 3) with h3 | ⟨y, h3⟩
        · exact .inr h3
        · simp [haveK, h2, h3] at h
    rcases hn with hn | hn <;> rcases c3 with hh | hh | hh <;> simp [stepT, giveT, hh, hn, setT, is?]
  rw [if_neg c3] at h hne hlen
  by_cases c4 : headOf t = [110, 101, 119]
  · rw [if_pos c4] at h hlen
    refine step_new_no c4 ?_
    have hl2 : t.parts.length = (t.parts.length - 2) + 2 := by simp at hlen; omega
    have := haveK_new (st := st) hl2 (t.parts.length - 2) (Nat.le_refl _)
    rw [show ([100] ++ List.replicate (t.parts.length - 2) 115 : Bytes).length = t.parts.length - 2 + 1 from by simp [Nat.add_comm]] at h
    rw [h, List.take_of_length_le (by simp)] at this
    exact this.symm
  rw [if_neg c4] at h hne hlen
  by_cases c5 : headOf t = [103, 101, 116]
  · rw [if_pos c5] at h
    have hn : regT st (nth t.parts 2).atom = none := by
      rcases r2 (q := 2) with h2 | ⟨x, h2⟩
      · exact h2
      · simp [haveK, h2] at h
    simp [stepT, giveT, c5, hn, setT]
  rw [if_neg c5] at h hne hlen
  by_cases c6 : headOf t = [108, 97, 98]
  · rw [if_pos c6] at h; simp [haveK] at h
  rw [if_neg c6] at h hne hlen
  by_cases c7 : headOf t = [112, 97, 99, 107]
  · rw [if_pos c7] at h
    have hn : regT st (nth t.parts 2).atom = none := by
      rcases r2 (q := 2) with h2 | ⟨x, h2⟩
      · exact h2
      · simp [haveK, h2] at h
    simp [stepT, giveT, c7, hn, setT]
  rw [if_neg c7] at h hne hlen
  by_cases c8 : headOf t = [122, 101, 114, 111]
  · rw [if_pos c8] at h
    have hn : regT st (nth t.parts 1).atom = none := by
      rcases r2 (q := 1) with h2 | ⟨x, h2⟩
      · exact h2
      · simp [haveK, h2] at h
    simp [stepT, c8, hn, is?]
  rw [if_neg c8] at h hne hlen
  by_cases c9 : headOf t = [106, 117, 109, 112] ∨ headOf t = [104, 97, 108, 116]
  · rw [if_pos c9] at h
    have hn : regT st (nth t.parts 1).atom = none := by
      rcases r2 (q := 1) with h2 | ⟨x, h2⟩
      · exact h2
      · simp [haveK, h2] at h
    rcases c9 with hh | hh <;> simp [stepT, hh, hn]
  rw [if_neg c9] at hne
  exact absurd rfl hne
end

/-! ### Sizes of what is given -/
theorem size_pos (t : Tree) : 1 ≤ t.size := by have := atom_lt t; omega
theorem put_size (y : Tree) {t : Tree} (h : Good t) : (putT y t).size ≤ t.size * y.size := by
  have hy := size_pos y
  induction h with
  | atom a ha hb =>
    unfold putT
    split
    · have := size_pos (Tree.mk a []); exact Nat.le_mul_of_pos_left _ this
    · rw [if_pos (.inl ha)]; exact Nat.le_mul_of_pos_right _ hy
  | list ps hp hw ih =>
    unfold putT
    rw [if_neg (by decide)]
    split
    · exact Nat.le_mul_of_pos_right _ hy
    · have key : ∀ qs : List Tree, (∀ p, p ∈ qs → (putT y p).size ≤ p.size * y.size) → Tree.size.sizes (putL y qs) ≤ Tree.size.sizes qs * y.size := by
        intro qs
        induction qs with
        | nil => intro _; simp [putL, Tree.size.sizes]
        | cons q qs ih2 =>
          intro h
          have h1 := h q (by simp)
          have h2 := ih2 (fun p hp => h p (by simp [hp]))
          simp only [putL, Tree.size.sizes, Nat.add_mul]; omega
      have := key ps ih
      simp only [Tree.size, List.length_nil, Nat.add_mul]; omega
theorem text_size (t : Tree) : ∀ m, t.size ≤ m → WF t → t.text.length + 1 ≤ 2 * t.size := by
  intro m
  induction m generalizing t with
  | zero => intro h; have := size_pos t; omega
  | succ m ih =>
    intro hm hwf
    cases hwf with
    | atom a ha => rw [text_atom ha]; simp only [Tree.size, Tree.size.sizes]; omega
    | list ps hp hw =>
      rw [text_list]
      have e : (Tree.mk [] ps).size = 1 + Tree.size.sizes ps := by simp [Tree.size]
      rw [e]
      have key2 : ∀ qs : List Tree, qs ≠ [] → (∀ p, p ∈ qs → p.text.length + 1 ≤ 2 * p.size) → (textsOf qs).length + 1 ≤ 2 * Tree.size.sizes qs := by
        intro qs
        induction qs with
        | nil => intro h; exact absurd rfl h
        | cons q qs ih2 =>
          intro _ h
          have h1 := h q (by simp)
          cases qs with
          | nil => rw [textsOf_one]; simp only [Tree.size.sizes]; omega
          | cons u us =>
            have h2 := ih2 (by simp) (fun p hp => h p (by simp [hp]))
            rw [textsOf_cons]; simp only [Tree.size.sizes, List.length_append, List.length_cons] at h2 ⊢; omega
      have hk2 := key2 ps hp (fun p hp' => by
        obtain ⟨i, hi, rfl⟩ := List.getElem_of_mem hp'
        have h3 := size_lt (t := .mk [] ps) (p := ps[i]) (i := i) (List.getElem?_eq_getElem hi)
        exact ih _ (by omega) (hw _ hp'))
      simp only [List.length_cons, List.length_append, List.length_nil]; omega
theorem len_size {t : Tree} (h : WF t) : t.len ≤ 2 * t.size := by
  have := text_size t _ (Nat.le_refl _) h
  rw [len_text h]; omega
theorem OkT.size {t : Tree} (h : OkT t) : t.size ≤ 24000 := by
  have := h.fits
  unfold fitsB at this
  rw [Bool.and_eq_true, decide_eq_true_eq, decide_eq_true_eq] at this
  have h1 := size_text h.good
  have h2 := len_text h.good.wf
  omega
theorem sizes_le {m : Nat} : ∀ ts : List Tree, (∀ t, t ∈ ts → t.size ≤ m) → Tree.size.sizes ts ≤ ts.length * m
  | [], _ => by simp [Tree.size.sizes]
  | t :: ts, h => by
    have h1 := h t (by simp)
    have h2 := sizes_le ts (fun u hu => h u (by simp [hu]))
    simp only [Tree.size.sizes, List.length_cons, Nat.add_mul]; omega
theorem list_size {c : UInt8} (hc : atomByte c = true) {ts : List Tree} (h : ∀ t, t ∈ ts → OkT t) (hl : ts.length ≤ 8000) : Good (listT [c] ts) ∧ (listT [c] ts).size ≤ 1000000000 ∧ (listT [c] ts).len ≤ 1000000000 := by
  have hg : Good (listT [c] ts) := good_listT (by simp) (by simp [hc]) fun t ht => (h t ht).good
  have hs := sizes_le ts (fun t ht => (h t ht).size)
  have h1 : ts.length * 24000 ≤ 8000 * 24000 := Nat.mul_le_mul_right _ hl
  have e : (listT [c] ts).size = 1 + (2 + Tree.size.sizes ts) := by simp [listT, atomT, Tree.size, Tree.size.sizes]
  have h2 := len_size hg.wf
  refine ⟨hg, by omega, by omega⟩
theorem iT_size : iT.size ≤ 1000000000 ∧ iT.len ≤ 1000000000 := by decide
end Go.Proofs.YtnkjgoholocliaaGreatDoor

namespace Go.Proofs.YtnkjgoholocliaaGreatDoor

theorem decB_byte (n : Nat) : (decB n).all atomByte = true := by
  induction n using Nat.strongRecOn with
  | _ n ih =>
    have hd : ∀ k, k < 10 → atomByte (UInt8.ofNat (48 + k)) = true := by decide
    unfold decB
    by_cases h : n < 10
    · rw [if_pos h, List.all_cons, hd n h]; rfl
    · rw [if_neg h, List.all_append, ih (n / 10) (by omega), List.all_cons, hd (n % 10) (by omega)]; rfl
theorem unknown_good (n : Nat) : Good (atomT (97 :: decB n)) := .atom _ (by simp) (by rw [List.all_cons, decB_byte]; decide)
section
variable {p : List IBk} {st : TS} {o : Nat} {t : Tree}
/-- An instruction that has what it needs leads from types to types. -/
theorem step_ok (hP : OkP p) (hS : OkTS st) (hl : st.length = 40) (hg : Good t) (hi : instrI t = true) {st' : TS} (h : stepT p st o t = some st') : OkTS st' ∧ st'.length = 40 := by
  obtain ⟨hne, hlen, hpart⟩ := instrI_facts hi
  have hd : regN (nth t.parts 1).atom < st.length := by
    rw [hl]
    unfold regN regZ
    cases numeral (nth t.parts 1).atom with
    | none => decide
    | some z =>
      by_cases hz : 0 ≤ z ∧ z ≤ 39
      · simp only [hz, and_self, if_true]; omega
      · simp only [hz, if_false]; decide
  have set : ∀ {u : Option Tree}, (∀ y, u = some y → Good y ∧ EOK y) → setT st (regN (nth t.parts 1).atom) u = some st' → OkTS st' ∧ st'.length = 40 := fun {u} hu hs => by
    obtain ⟨h1, h2⟩ := okTS_set hS hd hu hs
    exact ⟨h1, h2.trans hl⟩
  have same : some st = some st' → OkTS st' ∧ st'.length = 40 := fun e => by cases e; exact ⟨hS, hl⟩
  have r2 : ∀ {q : Nat}, regT st (nth t.parts q).atom = none ∨ ∃ x, regT st (nth t.parts q).atom = some x := fun {q} => by cases regT st (nth t.parts q).atom <;> simp
  cases hk : haveK st (shapeI (headOf t) t.parts.length) t.parts (shapeI (headOf t) t.parts.length).length with
  | none => rw [step_none hi hk] at h; cases h
  | some xs =>
    by_cases c1 : headOf t = [99, 111, 110, 115, 116]
    · rw [step_const c1] at h; exact set (fun y e => by cases e; exact ⟨ok_iT.good, ok_iT.eok⟩) h
    by_cases c2 : headOf t = [109, 111, 118]
    · rcases r2 (q := 2) with hx | ⟨x, hx⟩
      · simp [stepT, giveT, c2, hx, setT] at h
      · rw [step_mov c2 hx] at h; exact set (fun y e => by cases e; exact ⟨(regT_ok hS hx).good, (regT_ok hS hx).eok⟩) h
    by_cases c3 : headOf t = [97, 100, 100] ∨ headOf t = [115, 117, 98] ∨ headOf t = [109, 117, 108]
    · rcases r2 (q := 2) with hx | ⟨x, hx⟩
      · rcases c3 with hh | hh | hh <;> simp [stepT, giveT, hh, hx, setT, is?] at h
      · rcases r2 (q := 3) with hy | ⟨y, hy⟩
        · rcases c3 with hh | hh | hh <;> simp [stepT, giveT, hh, hx, hy, setT, is?] at h
        · rw [step_add c3 hx hy] at h
          split at h
          · exact set (fun y e => by cases e; exact ⟨ok_iT.good, ok_iT.eok⟩) h
          · cases h
    by_cases c4 : headOf t = [110, 101, 119]
    · cases ha : allT st (t.parts.drop 2) with
      | none => rw [step_new_no c4 ha] at h; cases h
      | some ys =>
        rw [step_new c4 ha] at h
        have hok := (allT_ok hS ha).2
        exact set (fun y e => by cases e; exact ⟨good_listT (by decide) (by decide) fun t ht => (hok t ht).good, eok_listT (by decide) fun t ht => (hok t ht).eok⟩) h
    by_cases c5 : headOf t = [103, 101, 116]
    · rcases r2 (q := 2) with hx | ⟨x, hx⟩
      · simp [stepT, giveT, c5, hx, setT] at h
      · rw [step_get c5 hx] at h
        split at h
        · rename_i hc
          have hz : 0 ≤ numZ (nth t.parts 3).atom := by
            have h3 := hpart 2 (by simp [shapeI, c5])
            rw [show (shapeI (headOf t) t.parts.length).getD 2 0 = 109 from by simp [shapeI, c5]] at h3
            have h4 : ((numeral (nth t.parts 3).atom).isSome && decide (0 ≤ (numeral (nth t.parts 3).atom).getD 0)) = true := by rw [← pI_m]; exact h3
            rw [Bool.and_eq_true, decide_eq_true_eq] at h4
            exact h4.2
          have hxk := regT_ok hS hx
          have hq := hxk.nth (i := (numZ (nth t.parts 3).atom + 1).toNat) (by omega)
          exact set (fun y e => by cases e; exact ⟨hq.good, hq.eok⟩) h
        · cases h
    by_cases c6 : headOf t = [108, 97, 98]
    · cases hn : regsOf p (nth t.parts 2).atom with
      | none => rw [step_lab c6 hn] at h; cases h
      | some need =>
        rw [step_lab c6 hn] at h
        have hok := (regsOf_ok hP hn).2
        exact set (fun y e => by cases e; exact ⟨good_listT (by decide) (by decide) fun t ht => (hok t ht).good, eok_listT (by decide) fun t ht => (hok t ht).eok⟩) h
    by_cases c7 : headOf t = [112, 97, 99, 107]
    · rcases r2 (q := 2) with hx | ⟨x, hx⟩
      · simp [stepT, giveT, c7, hx, setT] at h
      · rw [step_pack c7 hx] at h
        split at h
        · have hl5 : t.parts.length = 5 := by rw [hlen]; simp [shapeI, c7]
          have h3 := hpart 2 (by simp [shapeI, c7])
          rw [show (shapeI (headOf t) t.parts.length).getD 2 0 = 69 from by simp [shapeI, c7]] at h3
          have h4 : ((decide ((nth t.parts 3).parts.length = 2) && decide (headOf (nth t.parts 3) = [101])) && targetB false (nth t.parts 3)) = true := by rw [← pI_E]; exact h3
          rw [Bool.and_eq_true] at h4
          have hg3 := hg.nth (i := 3) (by omega)
          exact set (fun y e => by cases e; exact ⟨hg3, eok_target hg3.wf _ h4.2⟩) h
        · cases h
    by_cases c8 : headOf t = [111, 112, 101, 110]
    · rcases r2 (q := 2) with hx | ⟨x, hx⟩
      · simp [stepT, giveT, c8, hx, setT] at h
      · rw [step_open c8 hx] at h
        split at h
        · rename_i hc
          have hxk := regT_ok hS hx
          have h2 := hxk.eok.two hc
          have hq := hxk.nth (i := 1) (by omega)
          exact set (fun y e => by cases e; exact ⟨put_good (unknown_good o) hq.good, eok_put (.atom _) (by intro h; cases h) hq.eok⟩) h
        · cases h
    by_cases c9 : headOf t = [122, 101, 114, 111]
    · rcases r2 (q := 1) with hx | ⟨x, hx⟩
      · simp [stepT, c9, hx, is?] at h
      · rw [step_zero c9 hx] at h
        cases hn : regsOf p (nth t.parts 2).atom with
        | none => rw [hn] at h; cases h
        | some need =>
          rw [hn, Option.bind_some] at h
          split at h
          · exact same h
          · cases h
    by_cases c10 : headOf t = [106, 117, 109, 112]
    · rcases r2 (q := 1) with hx | ⟨x, hx⟩
      · simp [stepT, c10, hx] at h
      · rw [step_jump c10 hx] at h
        split at h
        · exact same h
        · cases h
    have c11 : headOf t = [104, 97, 108, 116] := Classical.byContradiction (fun hn => hne (by simp [shapeI, c1, c2, c3, c4, c5, c6, c7, c8, c9, c10, hn]))
    rw [step_halt c11] at h
    rcases r2 (q := 1) with hx | ⟨x, hx⟩
    · rw [hx] at h; cases h
    · rw [hx] at h; exact same h
end

/-! ### Blocks -/
structure OkB (b : IBk) : Prop where
  regs : b.regs.length ≤ 40
  rok : ∀ t, t ∈ b.regs → OkT t
  code : b.code.length ≤ 80
  cok : ∀ t, t ∈ b.code → Fine t ∧ Good t ∧ instrI t = true
theorem okT_parse {s : Bytes} {t : Tree} (h : parse s = some t) (ht : targetB false t = true) : OkT t := by
  obtain ⟨h1, h2, h3, h4⟩ := parse_good h
  refine ⟨h1, ?_, eok_target h1.wf _ ht⟩
  unfold fitsB
  rw [Bool.and_eq_true, decide_eq_true_eq, decide_eq_true_eq, len_text h1.wf, h3]
  exact ⟨h2, h4⟩
theorem okB_of {b : Bk} (h : blockB b = true) : OkB (bkI b) := by
  obtain ⟨_, h2, h3⟩ := blockB_parts h
  unfold blockB at h
  simp only [Bool.and_eq_true, decide_eq_true_eq] at h
  refine ⟨by simp [bkI]; omega, fun t ht => ?_, by simp [bkI]; omega, fun t ht => ?_⟩
  · obtain ⟨s, hs, rfl⟩ := List.mem_map.1 ht
    obtain ⟨u, hu, hq⟩ := h2 s hs
    rw [tr_eq hu]; exact okT_parse hu hq
  · obtain ⟨s, hs, rfl⟩ := List.mem_map.1 ht
    obtain ⟨u, hu, hq⟩ := h3 s hs
    rw [tr_eq hu]; exact ⟨fine_parse hu, (parse_good hu).1, by rw [instrI_eq]; exact hq⟩
theorem okP_of {bs : List Bk} (h : progB bs = true) : OkP (bs.map bkI) ∧ ∀ b, b ∈ bs.map bkI → OkB b := by
  have hb := progB_block_of h
  have hall : ∀ b, b ∈ bs.map bkI → OkB b := fun b hm => by
    obtain ⟨k, hk, rfl⟩ := List.mem_map.1 hm
    exact okB_of (hb k hk)
  refine ⟨⟨?_, fun b hm => ⟨(hall b hm).regs, (hall b hm).rok⟩⟩, hall⟩
  unfold progB at h
  simp only [Bool.and_eq_true, decide_eq_true_eq] at h
  simp; omega
theorem startT_ok {b : IBk} (h : OkB b) : OkTS (startT b) ∧ (startT b).length = 40 := by
  refine ⟨fun i t ht => ?_, by simp [startT]⟩
  unfold startT at ht
  rw [List.getD_eq_getElem?_getD, List.getElem?_map] at ht
  by_cases hi : i < 40
  · rw [List.getElem?_range hi] at ht
    simp only [Option.map_some, Option.getD_some] at ht
    split at ht
    · rename_i hb
      cases ht
      exact h.rok _ (List.mem_of_getElem? (nth_get hb))
    · cases ht
  · rw [List.getElem?_eq_none (by simpa using hi)] at ht; cases ht
theorem through_none {p : List IBk} {st : TS} {o : Nat} {t : Tree} {ts : List Tree} (h : stepT p st o t = none) : (throughT p st o (t :: ts)).2 = 0 := by
  unfold throughT; rw [h]
theorem through_some {p : List IBk} {st st' : TS} {o : Nat} {t : Tree} {ts : List Tree} (h : stepT p st o t = some st') : (throughT p st o (t :: ts)).2 = (throughT p st' (opens1 o t) ts).2 + 1 := by
  conv => lhs; unfold throughT
  rw [h]
theorem drop_nth {ts : List Tree} {i : Nat} (h : i < ts.length) : ts.drop i = nth ts i :: ts.drop (i + 1) := by
  rw [nth_elem h, List.drop_eq_getElem_cons h]
theorem through_le {p : List IBk} : ∀ (ts : List Tree) (st : TS) (o : Nat), (throughT p st o ts).2 ≤ ts.length
  | [], _, _ => by simp [throughT]
  | t :: ts, st, o => by
    cases h : stepT p st o t with
    | none => rw [through_none h]; omega
    | some st' => rw [through_some h]; have := through_le (p := p) ts st' (opens1 o t); simp; omega
end Go.Proofs.YtnkjgoholocliaaGreatDoor

namespace Go.Proofs.YtnkjgoholocliaaGreatDoor

def oS : Option Tree → Bytes
  | some t => t.text
  | none => []
def stS (st : TS) : List Bytes := st.map oS
theorem stS_len (st : TS) : (stS st).length = st.length := by simp [stS]
theorem stS_get {st : TS} {i : Nat} : sth (stS st) i = oS (st.getD i none) := by
  unfold sth stS
  rw [List.getD_eq_getElem?_getD, List.getElem?_map, List.getD_eq_getElem?_getD]
  cases st[i]? <;> rfl
theorem stS_set {st : TS} {i : Nat} {t : Tree} : (stS st).set i t.text = stS (st.set i (some t)) := by unfold stS; rw [List.map_set]; rfl
theorem text_ne {t : Tree} (h : Good t) : t.text ≠ [] := by
  obtain ⟨c, r, e⟩ := text_pos h
  rw [e]; simp
theorem OkT.parse {t : Tree} (h : OkT t) : parse t.text = some t := by
  have := h.fits
  unfold fitsB at this
  rw [Bool.and_eq_true, decide_eq_true_eq, decide_eq_true_eq, len_text h.good.wf] at this
  exact parse_fits h.good this.1 this.2
theorem OkT.short {t : Tree} (h : OkT t) : t.text.length ≤ 12000 := by
  have := h.fits
  unfold fitsB at this
  rw [Bool.and_eq_true, decide_eq_true_eq, decide_eq_true_eq, len_text h.good.wf] at this
  exact this.2
/-- The text of what was asked for, or none. -/
def regS (st : TS) (a : Bytes) : Bytes := if 0 ≤ regZ a then sth (stS st) (regN a) else []
theorem regS_eq {st : TS} {a : Bytes} (h : isReg a = true) : regS st a = oS (regT st a) := by
  unfold regS
  rw [if_pos (show 0 ≤ regZ a from of_decide_eq_true h), stS_get]; rfl
theorem oS_short {st : TS} (h : OkTS st) {a : Bytes} : (oS (regT st a)).length ≤ 12000 := by
  cases hx : regT st a with
  | none => simp [oS]
  | some x => exact (regT_ok h hx).short
theorem is_text {st : TS} (h : OkTS st) {a : Bytes} {y : Tree} (hy : Good y) : decide (oS (regT st a) = y.text) = is? (regT st a) y := by
  cases hx : regT st a with
  | none =>
    rw [decide_eq_false (fun e => text_ne hy e.symm)]; rfl
  | some x => rfl
theorem iT_text : iT.text = [105] := by simp [iT, atomT, text_atom]
/-- What a text says: the tree that is read from it. -/
structure KeptT (s : Bytes) (t : Tree) : Prop where
  some : ∀ t', parse s = some t' → t = t'
  none : s = [] → headOf t = []
theorem kept_reg {st : TS} (h : OkTS st) {a : Bytes} {t : Tree} (hk : KeptT (oS (regT st a)) t) : (∃ x, regT st a = some x ∧ t = x) ∨ (regT st a = none ∧ headOf t = []) := by
  cases hx : regT st a with
  | none => rw [hx] at hk; exact .inr ⟨rfl, hk.none rfl⟩
  | some x => rw [hx] at hk; exact .inl ⟨x, rfl, hk.some x (regT_ok h hx).parse⟩
def fitsS (ps : List Bytes) : Bool := decide (szS ps + 3 ≤ 12000)
theorem fitsS_len (c : UInt8) (ps : List Bytes) : (listS [c] ps).length = szS ps + 3 := by
  simp only [listS, List.length_cons, List.length_append, List.length_nil, joinB_len]; omega
/-- What 'Give' answers. -/
def gS : Option Tree → Bytes
  | some y => if y.text.length ≤ 12000 then y.text else []
  | none => []
theorem gS_some (y : Tree) : gS (some y) = if y.text.length ≤ 12000 then y.text else [] := rfl
theorem gS_ok {y : Tree} (h : OkT y) : gS (some y) = y.text := if_pos h.short
theorem parse_nil : parse [] = none := by decide
theorem gS_parse {o : Option Tree} (ho : ∀ t, o = some t → Good t) (st : TS) (d : Nat) : (parse (gS o)).isSome = (setT st d o).isSome ∧ ∀ st', setT st d o = some st' → stS st' = (stS st).set d (gS o) := by
  cases o with
  | none => exact ⟨by rw [gS, parse_nil]; rfl, fun st' h => by cases h⟩
  | some y =>
    have hg := ho y rfl
    rw [gS_some]
    by_cases hl : y.text.length ≤ 12000
    · rw [if_pos hl, parse_text hg]
      have e : fitsB y = decide (y.depth ≤ 60 ∧ y.text.length ≤ 12000) := by unfold fitsB; rw [len_text hg.wf, ← Bool.decide_and]
      unfold setT
      simp only [Option.bind_some, e, decide_eq_true_eq]
      by_cases hc : y.depth ≤ 60 ∧ y.text.length ≤ 12000
      · rw [if_pos hc, if_pos hc]
        refine ⟨rfl, fun st' h => ?_⟩
        cases h; exact stS_set.symm
      · rw [if_neg hc, if_neg hc]
        exact ⟨rfl, fun st' h => by cases h⟩
    · rw [if_neg hl, parse_nil]
      have e : fitsB y = false := by
        unfold fitsB; rw [len_text hg.wf, decide_eq_false hl, Bool.and_false]
      unfold setT
      simp only [Option.bind_some, e]
      exact ⟨rfl, fun st' h => by cases h⟩
/-- What 'Meets' answers. -/
def meetsS (xs need : List Bytes) : Bool := decide (∀ i, i < need.length → i < xs.length ∧ sth xs i = sth need i)
theorem meets_text {st : TS} {need : List Tree} (h : ∀ t, t ∈ need → Good t) : meetsS (stS st) (need.map Tree.text) = meets st need := by
  unfold meetsS meets
  refine decide_eq_decide.2 ⟨fun hh i hi => ?_, fun hh i hi => ?_⟩
  · have hm : nth need i ∈ need := List.mem_of_getElem? (nth_get hi)
    obtain ⟨_, h2⟩ := hh i (by simpa using hi)
    rw [stS_get] at h2
    have e : sth (need.map Tree.text) i = (nth need i).text := by simp [sth, nth, List.getElem?_eq_getElem hi]
    rw [e] at h2
    cases ho : st.getD i none with
    | none => rw [ho] at h2; exact absurd h2.symm (text_ne (h _ hm))
    | some x => rw [ho] at h2; exact decide_eq_true h2
  · have hi' : i < need.length := by simpa using hi
    have h2 := hh i hi'
    have e : sth (need.map Tree.text) i = (nth need i).text := by simp [sth, nth, List.getElem?_eq_getElem hi']
    rw [e, stS_get, stS_len]
    cases ho : st.getD i none with
    | none => rw [ho] at h2; cases h2
    | some x =>
      rw [ho] at h2
      refine ⟨?_, of_decide_eq_true h2⟩
      refine Nat.lt_of_not_le fun hge => ?_
      rw [List.getD_eq_getElem?_getD, List.getElem?_eq_none hge] at ho; cases ho
/-- The texts of all that are asked. -/
theorem allT_texts {st : TS} (h : OkTS st) : ∀ us : List Tree, (decide ([] ∈ us.map (fun u => oS (regT st u.atom))) = !(allT st us).isSome) ∧ ∀ xs, allT st us = some xs → us.map (fun u => oS (regT st u.atom)) = xs.map Tree.text
  | [] => ⟨rfl, fun xs e => by cases e; rfl⟩
  | u :: us => by
    obtain ⟨h1, h2⟩ := allT_texts h us
    unfold allT
    cases hr : regT st u.atom with
    | none => simp [oS, hr]
    | some x =>
      have hne := text_ne (regT_ok h hr).good
      simp only [List.map_cons, hr, oS, List.mem_cons, Option.bind_some, Option.isSome_map]
      refine ⟨?_, fun xs e => ?_⟩
      · rw [← h1]; exact decide_eq_decide.2 ⟨fun hh => hh.resolve_left (fun e => hne e.symm), .inr⟩
      · cases ha : allT st us with
        | none => rw [ha] at e; cases e
        | some ys => rw [ha] at e; cases e; rw [List.map_cons, ← h2 ys ha]; rfl
/-- The types at the beginning. -/
def typesS (needs : List Bytes) (k : Nat) : List Bytes := (List.range 40).map fun i => if i < k then sth needs i else []
theorem typesS_zero (needs : List Bytes) : typesS needs 0 = List.replicate 40 [] := by
  refine List.ext_getElem? fun i => ?_
  rw [typesS, List.getElem?_map, List.getElem?_replicate]
  by_cases h : i < 40
  · rw [List.getElem?_range h, if_pos h]; rfl
  · rw [List.getElem?_eq_none (by simpa using h), if_neg h]; rfl
theorem typesS_set (needs : List Bytes) {k : Nat} (hk : k < 40) : (typesS needs k).set k (sth needs k) = typesS needs (k + 1) := by
  refine List.ext_getElem (by simp [typesS]) fun i h1 h2 => ?_
  rw [List.getElem_set]
  simp only [typesS, List.getElem_map, List.getElem_range]
  by_cases h : k = i
  · subst h; rw [if_pos rfl, if_pos (by omega)]
  · rw [if_neg h]
    by_cases h3 : i < k
    · rw [if_pos h3, if_pos (by omega)]
    · rw [if_neg h3, if_neg (by omega)]
theorem typesS_start {b : Bk} (h : blockB b = true) : typesS b.needs b.needs.length = stS (startT (bkI b)) := by
  have hp := (blockB_parts h).2.1
  unfold typesS stS startT
  rw [List.map_map]
  refine List.map_congr_left fun i hi => ?_
  have hrl : (bkI b).regs.length = b.needs.length := by simp [bkI]
  simp only [Function.comp, hrl]
  by_cases hk : i < b.needs.length
  · rw [if_pos hk, if_pos hk]
    have hm : b.needs[i] ∈ b.needs := List.getElem_mem hk
    obtain ⟨t, ht, _⟩ := hp _ hm
    have e : nth (bkI b).regs i = t := by
      simp only [nth, bkI, List.getD_eq_getElem?_getD, List.getElem?_map, List.getElem?_eq_getElem hk, Option.map_some, Option.getD_some]
      exact tr_eq ht
    rw [e, oS, (parse_good ht).2.2.1]
    simp [sth, hk]
  · rw [if_neg hk, if_neg hk]; rfl
end Go.Proofs.YtnkjgoholocliaaGreatDoor

namespace Go.Proofs.YtnkjgoholocliaaGreatDoor

theorem gS_oS {st : TS} (h : OkTS st) {a : Bytes} : gS (regT st a) = oS (regT st a) := by
  cases hx : regT st a with
  | none => rfl
  | some x => exact gS_ok (regT_ok h hx)
section
variable {p : List IBk} {st : TS} {o : Nat} {t : Tree}
theorem giveS_const (hh : headOf t = [99, 111, 110, 115, 116]) : gS (giveT p st o t) = [105] := by
  simp only [giveT, hh, if_true]
  rw [gS_ok ok_iT, iT_text]
theorem giveS_mov (hS : OkTS st) (hh : headOf t = [109, 111, 118]) (hr : isReg (nth t.parts 2).atom = true) : gS (giveT p st o t) = regS st (nth t.parts 2).atom := by
  have e : giveT p st o t = regT st (nth t.parts 2).atom := by simp [giveT, hh]
  rw [e, gS_oS hS, regS_eq hr]
theorem regS_at {a : Bytes} (hr : isReg a = true) : sth (stS st) (regN a) = oS (regT st a) := by
  rw [← regS_eq hr]; unfold regS; rw [if_pos (show 0 ≤ regZ a from of_decide_eq_true hr)]
theorem giveS_add (hS : OkTS st) (hh : headOf t = [97, 100, 100] ∨ headOf t = [115, 117, 98] ∨ headOf t = [109, 117, 108]) (hr : isReg (nth t.parts 2).atom = true) (hr3 : isReg (nth t.parts 3).atom = true) :
    gS (giveT p st o t) = if (decide (regS st (nth t.parts 2).atom = [105]) && decide (sth (stS st) (regN (nth t.parts 3).atom) = [105])) = true then [105] else [] := by
  have e : giveT p st o t = if is? (regT st (nth t.parts 2).atom) iT && is? (regT st (nth t.parts 3).atom) iT then some iT else none := by
    rcases hh with hh | hh | hh <;> simp [giveT, hh]
  rw [e, ← is_text hS ok_iT.good, ← is_text hS ok_iT.good, iT_text, regS_eq hr, regS_at hr3]
  split
  · rw [gS_ok ok_iT, iT_text]
  · rfl
theorem giveS_get (hS : OkTS st) (hh : headOf t = [103, 101, 116]) (hr : isReg (nth t.parts 2).atom = true) (hz : 0 ≤ numZ (nth t.parts 3).atom) {k : Tree} (hk : KeptT (regS st (nth t.parts 2).atom) k) :
    (headOf k = [116] → OkT k) ∧ gS (giveT p st o t) = if headOf k = [116] ∧ numZ (nth t.parts 3).atom + 1 < k.parts.length then (nth k.parts (numZ (nth t.parts 3).atom + 1).toNat).text else [] := by
  rw [regS_eq hr] at hk
  have e : giveT p st o t = (regT st (nth t.parts 2).atom).bind fun k => if headOf k = [116] ∧ numZ (nth t.parts 3).atom + 1 < k.parts.length then some (nth k.parts (numZ (nth t.parts 3).atom + 1).toNat) else none := by simp [giveT, hh]
  rcases kept_reg hS hk with ⟨x, hx, rfl⟩ | ⟨hx, hk0⟩
  · have hok := regT_ok hS hx
    refine ⟨fun _ => hok, ?_⟩
    rw [e, hx, Option.bind_some]
    split
    · exact gS_ok (hok.nth (by omega))
    · rfl
  · rw [e, hx, hk0]
    refine ⟨fun h => (by cases h), ?_⟩
    rw [if_neg (by intro h; cases h.1)]; rfl
theorem giveS_pack (hS : OkTS st) (hh : headOf t = [112, 97, 99, 107]) (hr : isReg (nth t.parts 2).atom = true) (h3 : (nth t.parts 3).text.length ≤ 12000) :
    gS (giveT p st o t) = if (decide (regS st (nth t.parts 2).atom ≠ []) && decide (regS st (nth t.parts 2).atom = gS (some (putT (nth t.parts 4) (nth (nth t.parts 3).parts 1))))) = true then (nth t.parts 3).text else [] := by
  have e : giveT p st o t = (regT st (nth t.parts 2).atom).bind fun x => if sameT x (putT (nth t.parts 4) (nth (nth t.parts 3).parts 1)) then some (nth t.parts 3) else none := by simp [giveT, hh]
  rw [e, regS_eq hr]
  cases hx : regT st (nth t.parts 2).atom with
  | none => simp [oS, gS]
  | some x =>
    have hok := regT_ok hS hx
    have hne := text_ne hok.good
    have hsh := hok.short
    have h3' : gS (some (nth t.parts 3)) = (nth t.parts 3).text := if_pos h3
    rw [Option.bind_some, decide_eq_true (show oS (some x) ≠ [] from hne), Bool.true_and]
    have hq : decide (oS (some x) = gS (some (putT (nth t.parts 4) (nth (nth t.parts 3).parts 1)))) = sameT x (putT (nth t.parts 4) (nth (nth t.parts 3).parts 1)) := by
      unfold sameT
      refine decide_eq_decide.2 ?_
      rw [gS_some]
      show x.text = _ ↔ _
      split
      · rfl
      · rename_i hb
        exact ⟨fun h => absurd h hne, fun h => absurd (h ▸ hsh) hb⟩
    rw [hq]
    split
    · exact h3'
    · rfl
theorem giveS_open (hS : OkTS st) (hh : headOf t = [111, 112, 101, 110]) (hr : isReg (nth t.parts 2).atom = true) {k : Tree} (hk : KeptT (regS st (nth t.parts 2).atom) k) :
    (headOf k = [101] → OkT k ∧ gS (giveT p st o t) = gS (some (putT (atomT (97 :: decB o)) (nth k.parts 1)))) ∧ (headOf k ≠ [101] → gS (giveT p st o t) = []) := by
  rw [regS_eq hr] at hk
  have e : giveT p st o t = (regT st (nth t.parts 2).atom).bind fun k => if headOf k = [101] then some (putT (atomT (97 :: decB o)) (nth k.parts 1)) else none := by simp [giveT, hh]
  rcases kept_reg hS hk with ⟨x, hx, rfl⟩ | ⟨hx, hk0⟩
  · have hok := regT_ok hS hx
    refine ⟨fun h => ⟨hok, ?_⟩, fun h => ?_⟩
    · rw [e, hx, Option.bind_some, if_pos h]
    · rw [e, hx, Option.bind_some, if_neg h]; rfl
  · refine ⟨fun h => (by rw [hk0] at h; cases h), fun h => ?_⟩
    rw [e, hx]; rfl
theorem giveS_other (h1 : headOf t ≠ [99, 111, 110, 115, 116]) (h2 : headOf t ≠ [109, 111, 118]) (h3 : ¬ (headOf t = [97, 100, 100] ∨ headOf t = [115, 117, 98] ∨ headOf t = [109, 117, 108])) (h4 : headOf t ≠ [103, 101, 116]) (h5 : headOf t ≠ [108, 97, 98]) (h6 : headOf t ≠ [112, 97, 99, 107]) (h7 : headOf t ≠ [111, 112, 101, 110]) : gS (giveT p st o t) = [] := by
  simp only [giveT]
  rw [if_neg h1, if_neg h2, if_neg h3, if_neg h4, if_neg h5, if_neg h6, if_neg h7]; rfl
end
/-! ### Labels -/
theorem regsOf_find {bs : List Bk} {l : Bytes} : (0 ≤ findZ bs l → (findZ bs l).toNat < bs.length ∧ regsOf (bs.map bkI) l = some ((bth bs (findZ bs l).toNat).needs.map tr)) ∧ (¬ 0 ≤ findZ bs l → regsOf (bs.map bkI) l = none) := by
  have key : regsOf (bs.map bkI) l = (bs.find? fun b => decide (b.label = l)).map fun b => b.needs.map tr := by
    unfold regsOf
    rw [List.find?_map]
    show ((bs.find? fun b => decide ((bkI b).label = l)).map bkI).map IBk.regs = _
    rw [Option.map_map]; rfl
  unfold findZ
  rw [key]
  cases hf : bs.findIdx? (fun b => decide (b.label = l)) with
  | none =>
    refine ⟨fun h => absurd h (by decide), fun _ => ?_⟩
    have : bs.find? (fun b => decide (b.label = l)) = none := by
      rw [List.findIdx?_eq_none_iff] at hf
      rw [List.find?_eq_none]
      intro b hb hq
      rw [hf b hb] at hq; cases hq
    rw [this]; rfl
  | some i =>
    refine ⟨fun _ => ?_, fun h => absurd (show (0 : Int) ≤ (i : Int) by omega) h⟩
    rw [List.findIdx?_eq_some_iff_getElem] at hf
    obtain ⟨hi, h1, h2⟩ := hf
    refine ⟨hi, ?_⟩
    have e : bs.find? (fun b => decide (b.label = l)) = some bs[i] := by
      rw [List.find?_eq_some_iff_getElem]
      exact ⟨h1, i, hi, rfl, fun j hj => by have := h2 j hj; simpa using this⟩
    rw [e]
    have e2 : bth bs ((i : Int)).toNat = bs[i] := by simp [bth, List.getElem?_eq_getElem hi]
    show some _ = some _
    rw [e2]
theorem needs_text {b : Bk} (h : blockB b = true) : (b.needs.map tr).map Tree.text = b.needs := by
  have hp := (blockB_parts h).2.1
  rw [List.map_map]
  conv => rhs; rw [← List.map_id b.needs]
  refine List.map_congr_left fun s hs => ?_
  obtain ⟨t, ht, _⟩ := hp s hs
  show (tr s).text = s
  rw [tr_eq ht, (parse_good ht).2.2.1]
theorem bth_in {bs : List Bk} {i : Nat} (h : i < bs.length) : bth bs i ∈ bs := by simp [bth, List.getElem?_eq_getElem h]
theorem giveS_lab {bs : List Bk} {st : TS} {o : Nat} {t : Tree} (hP : progB bs = true) (hh : headOf t = [108, 97, 98]) : gS (giveT (bs.map bkI) st o t) = if 0 ≤ findZ bs (nth t.parts 2).atom ∧ fitsS (bth bs (findZ bs (nth t.parts 2).atom).toNat).needs = true then listS [99] (bth bs (findZ bs (nth t.parts 2).atom).toNat).needs else [] := by
  have e : giveT (bs.map bkI) st o t = (regsOf (bs.map bkI) (nth t.parts 2).atom).map (listT [99]) := by simp [giveT, hh]
  rw [e]
  obtain ⟨h1, h2⟩ := regsOf_find (bs := bs) (l := (nth t.parts 2).atom)
  by_cases hz : 0 ≤ findZ bs (nth t.parts 2).atom
  · obtain ⟨hi, hr⟩ := h1 hz
    have hb := progB_block_of hP _ (bth_in hi)
    rw [hr, Option.map_some, gS_some, listT_text (by decide), needs_text hb]
    have hf := fitsS_len 99 (bth bs (findZ bs (nth t.parts 2).atom).toNat).needs
    by_cases hl : (listS [99] (bth bs (findZ bs (nth t.parts 2).atom).toNat).needs).length ≤ 12000
    · rw [if_pos hl, if_pos ⟨hz, decide_eq_true (by omega)⟩]
    · rw [if_neg hl, if_neg (fun h => hl (by have := of_decide_eq_true h.2; omega))]
  · rw [h2 hz, if_neg (fun h => hz h.1)]; rfl
end Go.Proofs.YtnkjgoholocliaaGreatDoor

namespace Go.Proofs.YtnkjgoholocliaaGreatDoor

/-- What holds of an instruction that gives a type. -/
structure GiveOK (t : Tree) : Prop where
  three : 3 ≤ t.parts.length
  mov : headOf t = [109, 111, 118] → isReg (nth t.parts 2).atom = true
  add : headOf t = [97, 100, 100] ∨ headOf t = [115, 117, 98] ∨ headOf t = [109, 117, 108] → isReg (nth t.parts 2).atom = true ∧ isReg (nth t.parts 3).atom = true ∧ t.parts.length = 4
  get : headOf t = [103, 101, 116] → isReg (nth t.parts 2).atom = true ∧ t.parts.length = 4 ∧ (numeral (nth t.parts 3).atom).isSome = true ∧ 0 ≤ numZ (nth t.parts 3).atom
  pack : headOf t = [112, 97, 99, 107] → isReg (nth t.parts 2).atom = true ∧ t.parts.length = 5 ∧ (nth t.parts 3).parts.length = 2
  opn : headOf t = [111, 112, 101, 110] → isReg (nth t.parts 2).atom = true
/-- What holds of an instruction. -/
structure StepOK (t : Tree) : Prop where
  two : 2 ≤ t.parts.length
  reg1 : isReg (nth t.parts 1).atom = true
  zero : headOf t = [122, 101, 114, 111] → 3 ≤ t.parts.length
  new : headOf t = [110, 101, 119] → ∀ i, 2 ≤ i → i < t.parts.length → isReg (nth t.parts i).atom = true
  give : headOf t ≠ [104, 97, 108, 116] → headOf t ≠ [106, 117, 109, 112] → headOf t ≠ [122, 101, 114, 111] → headOf t ≠ [110, 101, 119] → GiveOK t
theorem stepOK_of {t : Tree} (hi : instrI t = true) : StepOK t := by
  obtain ⟨hne, hlen, hp⟩ := instrI_facts hi
  have kind : ∀ {σ : Bytes}, shapeI (headOf t) t.parts.length = σ → t.parts.length = σ.length + 1 ∧ ∀ i, i < σ.length → partI ((σ.getD i 0).toNat : Int) (nth t.parts (i + 1)) = true := fun e => by
    rw [e] at hlen hp; exact ⟨hlen, hp⟩
  have dd : ∀ {u : Tree}, partI (((100 : UInt8)).toNat : Int) u = true → isReg u.atom = true := fun h => by rw [← pI_d]; exact h
  have ss : ∀ {u : Tree}, partI (((115 : UInt8)).toNat : Int) u = true → isReg u.atom = true := fun h => by rw [← pI_s]; exact h
  by_cases c1 : headOf t = [99, 111, 110, 115, 116]
  · obtain ⟨k1, k2⟩ := kind (σ := [100, 110]) (by simp [shapeI, c1])
    simp only [List.length_cons, List.length_nil] at k1 k2
    refine ⟨by omega, dd (k2 0 (by omega)), fun h => (by rw [c1] at h; cases h), fun h => (by rw [c1] at h; cases h), fun _ _ _ _ => ⟨by omega, fun h => (by rw [c1] at h; cases h), fun h => (by rw [c1] at h; rcases h with h | h | h <;> cases h), fun h => (by rw [c1] at h; cases h), fun h => (by rw [c1] at h; cases h), fun h => (by rw [c1] at h; cases h)⟩⟩
  by_cases c2 : headOf t = [109, 111, 118] ∨ headOf t = [111, 112, 101, 110]
  · obtain ⟨k1, k2⟩ := kind (σ := [100, 115]) (by rcases c2 with c2 | c2 <;> simp [shapeI, c2])
    simp only [List.length_cons, List.length_nil] at k1 k2
    refine ⟨by omega, dd (k2 0 (by omega)), fun h => by omega, fun h => by (rcases c2 with c2 | c2 <;> (rw [c2] at h; cases h)), fun _ _ _ _ => ⟨by omega, fun h => ss (k2 1 (by omega)), fun h => ?_, fun h => ?_, fun h => ?_, fun h => ss (k2 1 (by omega))⟩⟩
    · rcases c2 with c2 | c2 <;> (rw [c2] at h; rcases h with h | h | h <;> cases h)
    · rcases c2 with c2 | c2 <;> (rw [c2] at h; cases h)
    · rcases c2 with c2 | c2 <;> (rw [c2] at h; cases h)
  by_cases c3 : headOf t = [97, 100, 100] ∨ headOf t = [115, 117, 98] ∨ headOf t = [109, 117, 108]
  · obtain ⟨k1, k2⟩ := kind (σ := [100, 115, 115]) (by rcases c3 with c | c | c <;> simp [shapeI, c])
    simp only [List.length_cons, List.length_nil] at k1 k2
    refine ⟨by omega, dd (k2 0 (by omega)), fun h => by omega, fun h => ?_, fun _ _ _ _ => ⟨by omega, fun h => ss (k2 1 (by omega)), fun h => ⟨ss (k2 1 (by omega)), ss (k2 2 (by omega)), by omega⟩, fun h => ?_, fun h => ?_, fun h => ss (k2 1 (by omega))⟩⟩
    · rcases c3 with c | c | c <;> (rw [c] at h; cases h)
    · rcases c3 with c | c | c <;> (rw [c] at h; cases h)
    · rcases c3 with c | c | c <;> (rw [c] at h; cases h)
  by_cases c4 : headOf t = [110, 101, 119]
  · obtain ⟨k1, k2⟩ := kind (σ := [100] ++ List.replicate (t.parts.length - 2) 115) (by simp [shapeI, c4])
    have h2 : 2 ≤ t.parts.length := by simp at k1; omega
    simp only [List.length_append, List.length_cons, List.length_nil, List.length_replicate] at k2
    refine ⟨h2, dd (k2 0 (by omega)), fun h => (by rw [c4] at h; cases h), fun _ i hi1 hi2 => ?_, fun _ _ _ h => absurd c4 h⟩
    have h3 := k2 (i - 1) (by omega)
    rw [show i - 1 + 1 = i from by omega] at h3
    refine ss ?_
    have hs : ([100] ++ List.replicate (t.parts.length - 2) 115 : Bytes).getD (i - 1) 0 = 115 := by
      rw [List.getD_eq_getElem?_getD, List.getElem?_append_right (by simp; omega), List.getElem?_replicate, if_pos (by simp; omega)]; rfl
    rw [hs] at h3; exact h3
  by_cases c5 : headOf t = [103, 101, 116]
  · obtain ⟨k1, k2⟩ := kind (σ := [100, 115, 109]) (by simp [shapeI, c5])
    simp only [List.length_cons, List.length_nil] at k1 k2
    have h3 := k2 2 (by omega)
    have h4 : ((numeral (nth t.parts 3).atom).isSome && decide (0 ≤ (numeral (nth t.parts 3).atom).getD 0)) = true := by rw [← pI_m]; exact h3
    rw [Bool.and_eq_true, decide_eq_true_eq] at h4
    exact ⟨by omega, dd (k2 0 (by omega)), fun h => by omega, fun h => (by rw [c5] at h; cases h), fun _ _ _ _ => ⟨by omega, fun h => ss (k2 1 (by omega)), fun h => (by rw [c5] at h; rcases h with h | h | h <;> cases h), fun h => ⟨ss (k2 1 (by omega)), by omega, h4.1, h4.2⟩, fun h => (by rw [c5] at h; cases h), fun h => ss (k2 1 (by omega))⟩⟩
  by_cases c6 : headOf t = [108, 97, 98]
  · obtain ⟨k1, k2⟩ := kind (σ := [100, 108]) (by simp [shapeI, c6])
    simp only [List.length_cons, List.length_nil] at k1 k2
    exact ⟨by omega, dd (k2 0 (by omega)), fun h => by omega, fun h => (by rw [c6] at h; cases h), fun _ _ _ _ => ⟨by omega, fun h => (by rw [c6] at h; cases h), fun h => (by rw [c6] at h; rcases h with h | h | h <;> cases h), fun h => (by rw [c6] at h; cases h), fun h => (by rw [c6] at h; cases h), fun h => (by rw [c6] at h; cases h)⟩⟩
  by_cases c7 : headOf t = [112, 97, 99, 107]
  · obtain ⟨k1, k2⟩ := kind (σ := [100, 115, 69, 87]) (by simp [shapeI, c7])
    simp only [List.length_cons, List.length_nil] at k1 k2
    have h3 := k2 2 (by omega)
    have h4 : ((decide ((nth t.parts 3).parts.length = 2) && decide (headOf (nth t.parts 3) = [101])) && targetB false (nth t.parts 3)) = true := by rw [← pI_E]; exact h3
    rw [Bool.and_eq_true, Bool.and_eq_true, decide_eq_true_eq] at h4
    exact ⟨by omega, dd (k2 0 (by omega)), fun h => by omega, fun h => (by rw [c7] at h; cases h), fun _ _ _ _ => ⟨by omega, fun h => ss (k2 1 (by omega)), fun h => (by rw [c7] at h; rcases h with h | h | h <;> cases h), fun h => (by rw [c7] at h; cases h), fun h => ⟨ss (k2 1 (by omega)), by omega, h4.1.1⟩, fun h => ss (k2 1 (by omega))⟩⟩
  by_cases c8 : headOf t = [122, 101, 114, 111]
  · obtain ⟨k1, k2⟩ := kind (σ := [115, 108]) (by simp [shapeI, c8])
    simp only [List.length_cons, List.length_nil] at k1 k2
    exact ⟨by omega, ss (k2 0 (by omega)), fun h => by omega, fun h => (by rw [c8] at h; cases h), fun _ _ h _ => absurd c8 h⟩
  by_cases c9 : headOf t = [106, 117, 109, 112] ∨ headOf t = [104, 97, 108, 116]
  · obtain ⟨k1, k2⟩ := kind (σ := [115]) (by rcases c9 with c | c <;> simp [shapeI, c])
    simp only [List.length_cons, List.length_nil] at k1 k2
    refine ⟨by omega, ss (k2 0 (by omega)), fun h => ?_, fun h => ?_, fun h1 h2 _ _ => absurd c9 (fun h => h.elim h2 h1)⟩
    · rcases c9 with c | c <;> (rw [c] at h; cases h)
    · rcases c9 with c | c <;> (rw [c] at h; cases h)
  exact absurd (by simp only [shapeI, if_neg c1, if_neg c2, if_neg c3, if_neg c4, if_neg c5, if_neg c6, if_neg c7, if_neg c8, if_neg c9]) hne

section
variable {p : List IBk} {st : TS} {o : Nat} {t : Tree}
theorem giveT_good (hP : OkP p) (hS : OkTS st) (hg : Good t) (hI : GiveOK t) {y : Tree} (h : giveT p st o t = some y) : Good y := by
  simp only [giveT] at h
  split at h
  · cases h; exact ok_iT.good
  · split at h
    · exact (regT_ok hS h).good
    · split at h
      · split at h
        · cases h; exact ok_iT.good
        · cases h
      · split at h
        · rename_i c5
          obtain ⟨_, _, _, hz⟩ := hI.get c5
          cases hx : regT st (nth t.parts 2).atom with
          | none => rw [hx] at h; cases h
          | some x =>
            rw [hx, Option.bind_some] at h
            split at h
            · rename_i hc
              cases h
              exact ((regT_ok hS hx).nth (by omega)).good
            · cases h
        · split at h
          · cases hn : regsOf p (nth t.parts 2).atom with
            | none => rw [hn] at h; cases h
            | some need =>
              rw [hn] at h
              cases h
              have hok := (regsOf_ok hP hn).2
              exact good_listT (by decide) (by decide) fun t ht => (hok t ht).good
          · split at h
            · rename_i c7
              obtain ⟨_, h5, _⟩ := hI.pack c7
              cases hx : regT st (nth t.parts 2).atom with
              | none => rw [hx] at h; cases h
              | some x =>
                rw [hx, Option.bind_some] at h
                split at h
                · cases h; exact hg.nth (by omega)
                · cases h
            · split at h
              · cases hx : regT st (nth t.parts 2).atom with
                | none => rw [hx] at h; cases h
                | some x =>
                  rw [hx, Option.bind_some] at h
                  split at h
                  · rename_i hc
                    cases h
                    have hok := regT_ok hS hx
                    have h2 := hok.eok.two hc
                    exact put_good (unknown_good o) (hok.nth (i := 1) (by omega)).good
                  · cases h
              · cases h
theorem oS_ne (hS : OkTS st) {a : Bytes} : decide (oS (regT st a) ≠ []) = (regT st a).isSome := by
  cases hx : regT st a with
  | none => rfl
  | some x => exact decide_eq_true (text_ne (regT_ok hS hx).good)
theorem stepS_halt (hS : OkTS st) (hh : headOf t = [104, 97, 108, 116]) : (stepT p st o t).isSome = decide (oS (regT st (nth t.parts 1).atom) ≠ []) ∧ ∀ st', stepT p st o t = some st' → st' = st := by
  rw [step_halt hh, oS_ne hS]
  cases regT st (nth t.parts 1).atom with
  | none => exact ⟨rfl, fun st' h => by cases h⟩
  | some x => exact ⟨rfl, fun st' h => by cases h; rfl⟩
theorem stepS_jump (hS : OkTS st) (hh : headOf t = [106, 117, 109, 112]) {k : Tree} (hk : KeptT (oS (regT st (nth t.parts 1).atom)) k) :
    (headOf k = [99] → OkT k) ∧ (stepT p st o t).isSome = (decide (headOf k = [99]) && meetsS (stS st) ((k.parts.drop 1).map Tree.text)) ∧ ∀ st', stepT p st o t = some st' → st' = st := by
  rcases kept_reg hS hk with ⟨x, hx, rfl⟩ | ⟨hx, hk0⟩
  · have hok := regT_ok hS hx
    have hm : meetsS (stS st) ((k.parts.drop 1).map Tree.text) = meets st (k.parts.drop 1) := meets_text fun t ht => by
      obtain ⟨i, hi, rfl⟩ := List.getElem_of_mem (List.mem_of_mem_drop ht)
      exact hok.good.part (List.getElem?_eq_getElem hi)
    rw [step_jump hh hx, hm]
    refine ⟨fun _ => hok, ?_⟩
    by_cases hc : headOf k = [99] ∧ meets st (k.parts.drop 1) = true
    · rw [if_pos hc, decide_eq_true hc.1, hc.2]; exact ⟨rfl, fun st' h => by cases h; rfl⟩
    · rw [if_neg hc]
      refine ⟨?_, fun st' h => by cases h⟩
      cases hb : (decide (headOf k = [99]) && meets st (k.parts.drop 1)) with
      | false => rfl
      | true => rw [Bool.and_eq_true, decide_eq_true_eq] at hb; exact absurd hb hc
  · have e : stepT p st o t = none := by simp [stepT, hh, hx]
    rw [e, hk0]
    exact ⟨fun h => (by cases h), rfl, fun st' h => by cases h⟩
theorem stepS_zero {bs : List Bk} (hP : progB bs = true) (hS : OkTS st) (hh : headOf t = [122, 101, 114, 111]) :
    (stepT (bs.map bkI) st o t).isSome = ((decide (oS (regT st (nth t.parts 1).atom) = [105]) && decide (0 ≤ findZ bs (nth t.parts 2).atom)) && meetsS (stS st) (bth bs (findZ bs (nth t.parts 2).atom).toNat).needs) ∧ ∀ st', stepT (bs.map bkI) st o t = some st' → st' = st := by
  have e : stepT (bs.map bkI) st o t = (regsOf (bs.map bkI) (nth t.parts 2).atom).bind fun need => if is? (regT st (nth t.parts 1).atom) iT && meets st need then some st else none := by simp [stepT, hh]
  obtain ⟨h1, h2⟩ := regsOf_find (bs := bs) (l := (nth t.parts 2).atom)
  rw [e, ← is_text hS ok_iT.good, iT_text]
  by_cases hz : 0 ≤ findZ bs (nth t.parts 2).atom
  · obtain ⟨hi, hr⟩ := h1 hz
    have hb := progB_block_of hP _ (bth_in hi)
    have hm : meetsS (stS st) (bth bs (findZ bs (nth t.parts 2).atom).toNat).needs = meets st ((bth bs (findZ bs (nth t.parts 2).atom).toNat).needs.map tr) := by
      rw [← meets_text, needs_text hb]
      intro t ht
      obtain ⟨s, hs, rfl⟩ := List.mem_map.1 ht
      obtain ⟨u, hu, _⟩ := (blockB_parts hb).2.1 s hs
      rw [tr_eq hu]; exact (parse_good hu).1
    rw [hr, Option.bind_some, hm, decide_eq_true hz, Bool.and_true]
    split
    · rename_i hc; rw [hc]; exact ⟨rfl, fun st' h => by cases h; rfl⟩
    · rename_i hc
      refine ⟨?_, fun st' h => by cases h⟩
      cases hb : (decide (oS (regT st (nth t.parts 1).atom) = [105]) && meets st ((bth bs (findZ bs (nth t.parts 2).atom).toNat).needs.map tr)) with
      | false => rfl
      | true => exact absurd hb hc
  · rw [h2 hz, decide_eq_false hz, Bool.and_false, Bool.false_and]
    exact ⟨rfl, fun st' h => by cases h⟩
def newS (st : TS) (us : List Tree) : List Bytes := us.map fun u => oS (regT st u.atom)
theorem stepS_new_no (hS : OkTS st) (hh : headOf t = [110, 101, 119]) (h : (decide ([] ∈ newS st (t.parts.drop 2)) || !fitsS (newS st (t.parts.drop 2))) = true) : stepT p st o t = none := by
  obtain ⟨h1, h2⟩ := allT_texts hS (t.parts.drop 2)
  cases ha : allT st (t.parts.drop 2) with
  | none => exact step_new_no hh ha
  | some xs =>
    have hx := allT_ok hS ha
    have e : newS st (t.parts.drop 2) = xs.map Tree.text := h2 xs ha
    have hm : decide ([] ∈ newS st (t.parts.drop 2)) = false := by unfold newS; rw [h1, ha]; rfl
    rw [hm, Bool.false_or, e] at h
    rw [step_new hh ha]
    have hg : Good (listT [116] xs) := good_listT (by decide) (by decide) fun t ht => (hx.2 t ht).good
    have hl := fitsS_len 116 (xs.map Tree.text)
    rw [← listT_text (by decide)] at hl
    have hb : ¬ (listT [116] xs).text.length ≤ 12000 := fun hle => by
      unfold fitsS at h
      rw [decide_eq_true (by omega)] at h; cases h
    have e2 : fitsB (listT [116] xs) = false := by
      unfold fitsB; rw [len_text hg.wf, decide_eq_false hb, Bool.and_false]
    unfold setT
    simp only [Option.bind_some, e2]; rfl
theorem stepS_new (hS : OkTS st) (hh : headOf t = [110, 101, 119]) (h : (decide ([] ∈ newS st (t.parts.drop 2)) || !fitsS (newS st (t.parts.drop 2))) = false) :
    (parse (listS [116] (newS st (t.parts.drop 2)))).isSome = (stepT p st o t).isSome ∧ ∀ st', stepT p st o t = some st' → stS st' = (stS st).set (regN (nth t.parts 1).atom) (listS [116] (newS st (t.parts.drop 2))) := by
  obtain ⟨h1, h2⟩ := allT_texts hS (t.parts.drop 2)
  rw [Bool.or_eq_false_iff, Bool.not_eq_false'] at h
  obtain ⟨hm, hf⟩ := h
  cases ha : allT st (t.parts.drop 2) with
  | none => unfold newS at hm; rw [h1, ha] at hm; cases hm
  | some xs =>
    have hx := allT_ok hS ha
    have e : newS st (t.parts.drop 2) = xs.map Tree.text := h2 xs ha
    rw [e] at hf ⊢
    rw [step_new hh ha]
    have hg : Good (listT [116] xs) := good_listT (by decide) (by decide) fun t ht => (hx.2 t ht).good
    have hl := fitsS_len 116 (xs.map Tree.text)
    have hle : (listT [116] xs).text.length ≤ 12000 := by
      rw [listT_text (by decide)]
      have := of_decide_eq_true hf; omega
    have e3 : gS (some (listT [116] xs)) = listS [116] (xs.map Tree.text) := (if_pos hle).trans (listT_text (by decide) xs)
    have := gS_parse (o := some (listT [116] xs)) (fun t ht => by cases ht; exact hg) st (regN (nth t.parts 1).atom)
    rw [e3] at this; exact this
theorem stepS_give (hP : OkP p) (hS : OkTS st) (hg : Good t) (hI : GiveOK t) (c1 : headOf t ≠ [104, 97, 108, 116]) (c2 : headOf t ≠ [106, 117, 109, 112]) (c3 : headOf t ≠ [122, 101, 114, 111]) (c4 : headOf t ≠ [110, 101, 119]) :
    (parse (gS (giveT p st o t))).isSome = (stepT p st o t).isSome ∧ ∀ st', stepT p st o t = some st' → stS st' = (stS st).set (regN (nth t.parts 1).atom) (gS (giveT p st o t)) := by
  have e : stepT p st o t = setT st (regN (nth t.parts 1).atom) (giveT p st o t) := by
    simp only [stepT]
    rw [if_neg c1, if_neg c2, if_neg c3, if_neg c4]
  rw [e]
  exact gS_parse (fun t ht => giveT_good hP hS hg hI ht) st _
end
end Go.Proofs.YtnkjgoholocliaaGreatDoor
