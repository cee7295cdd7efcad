/-
  Lemmas for the law of ProgramLoad, no statement of their own: forms, numerals, blocks, and how they lie in memory.
-/
import Derived.Test.YtnkjgoholocliaaGreatDoorOa
namespace Go.Proofs.YtnkjgoholocliaaGreatDoor

abbrev Bytes := List UInt8
inductive Tree where
  | mk (atom : Bytes) (parts : List Tree)
def Tree.atom : Tree → Bytes | .mk a _ => a
def Tree.parts : Tree → List Tree | .mk _ p => p

def atomByte (c : UInt8) : Bool := (97 ≤ c && c ≤ 122) || (48 ≤ c && c ≤ 57) || c == 43 || c == 45 || c == 42 || c == 62
theorem atomByte_z (c : UInt8) : ((((((decide ((97 : Int) ≤ c.toNat) && decide ((c.toNat : Int) ≤ 122)) || (decide ((48 : Int) ≤ c.toNat) && decide ((c.toNat : Int) ≤ 57))) || decide ((c.toNat : Int) = 43)) || decide ((c.toNat : Int) = 45)) || decide ((c.toNat : Int) = 42)) || decide ((c.toNat : Int) = 62)) = atomByte c := by
  have e1 : ∀ k : UInt8, decide (k ≤ c) = decide ((k.toNat : Int) ≤ c.toNat) := fun k => by simp [UInt8.le_iff_toNat_le]
  have e2 : ∀ k : UInt8, decide (c ≤ k) = decide ((c.toNat : Int) ≤ k.toNat) := fun k => by simp [UInt8.le_iff_toNat_le]
  have e3 : ∀ k : UInt8, (c == k) = decide ((c.toNat : Int) = k.toNat) := fun k => by
    rw [Bool.eq_iff_iff]; simp [← UInt8.toNat_inj]; omega
  unfold atomByte
  rw [e1, e2, e1, e2, e3, e3, e3, e3]
  rfl

/-- Parts, one behind the other, each read by 'rd': up to the closing parenthesis. -/
def partsLoop (rd : Bytes → Option (Tree × Bytes)) : Nat → Bytes → Option (List Tree × Bytes)
  | 0, _ => none
  | n + 1, s => match rd s with
    | none => none
    | some (t, r) => match r with
      | [] => none
      | c :: r' => if c = 41 then some ([t], r') else if c = 32 then (partsLoop rd n r').map fun p => (t :: p.1, p.2) else none

/-- A form at the beginning of a text, of at most this depth; what is behind it. -/
def readT : Nat → Bytes → Option (Tree × Bytes)
  | 0, s => match s with
    | [] => none
    | c :: _ => if c = 40 then none else if s.takeWhile atomByte = [] then none else some (.mk (s.takeWhile atomByte) [], s.dropWhile atomByte)
  | d + 1, s => match s with
    | [] => none
    | c :: r => if c = 40 then (partsLoop (readT d) (r.length + 1) r).map fun p => (.mk [] p.1, p.2)
      else if s.takeWhile atomByte = [] then none else some (.mk (s.takeWhile atomByte) [], s.dropWhile atomByte)

/-- A reader that takes at least one byte away, from the front. -/
def Eats (rd : Bytes → Option (Tree × Bytes)) : Prop := ∀ s t r, rd s = some (t, r) → ∃ k, 0 < k ∧ k ≤ s.length ∧ r = s.drop k

theorem dropWhile_drop (p : UInt8 → Bool) : ∀ s : Bytes, s.dropWhile p = s.drop (s.takeWhile p).length
  | [] => rfl
  | c :: s => by
    by_cases h : p c = true
    · simp [List.dropWhile, List.takeWhile, h, dropWhile_drop p s]
    · simp [List.dropWhile, List.takeWhile, h]
theorem takeWhile_le (p : UInt8 → Bool) (s : Bytes) : (s.takeWhile p).length ≤ s.length := by
  induction s with
  | nil => simp
  | cons c s ih => by_cases h : p c = true <;> simp [List.takeWhile, h] <;> omega

theorem eats_parts {rd : Bytes → Option (Tree × Bytes)} (hrd : Eats rd) : ∀ n s ts r, partsLoop rd n s = some (ts, r) → ∃ k, 0 < k ∧ k ≤ s.length ∧ r = s.drop k ∧ ts.length ≤ k
  | 0, _, _, _, h => by simp [partsLoop] at h
  | n + 1, s, ts, r, h => by
    unfold partsLoop at h
    cases hr : rd s with
    | none => simp [hr] at h
    | some p =>
      obtain ⟨t, r1⟩ := p
      obtain ⟨k, hk0, hkl, rfl⟩ := hrd s t r1 hr
      simp only [hr] at h
      cases hd : s.drop k with
      | nil => simp [hd] at h
      | cons c r' =>
        simp only [hd] at h
        have hr' : r' = s.drop (k + 1) := by rw [← List.drop_drop, hd]; rfl
        have hkl' : k + 1 ≤ s.length := by
          have := congrArg List.length hd
          simp at this; omega
        by_cases h1 : c = 41
        · rw [if_pos h1] at h
          simp at h
          exact ⟨k + 1, by omega, hkl', by rw [← h.2, hr'], by rw [← h.1]; simp⟩
        · rw [if_neg h1] at h
          by_cases h2 : c = 32
          · rw [if_pos h2] at h
            cases hp : partsLoop rd n r' with
            | none => simp [hp] at h
            | some q =>
              obtain ⟨ts', r''⟩ := q
              simp [hp] at h
              obtain ⟨k', h0', hl', he', ht'⟩ := eats_parts hrd n r' ts' r'' hp
              refine ⟨k + 1 + k', by omega, ?_, ?_, ?_⟩
              · have := congrArg List.length hr'
                simp at this; omega
              · rw [← h.2, he', hr', List.drop_drop]
              · rw [← h.1]; simp; omega
          · rw [if_neg h2] at h; cases h
theorem eats_readT : ∀ d, Eats (readT d)
  | 0, s, t, r, h => by
    cases s with
    | nil => simp [readT] at h
    | cons c s =>
      simp only [readT] at h
      by_cases h1 : c = 40
      · rw [if_pos h1] at h; cases h
      · rw [if_neg h1] at h
        by_cases h2 : (c :: s).takeWhile atomByte = []
        · rw [if_pos h2] at h; cases h
        · rw [if_neg h2] at h
          simp only [Option.some.injEq, Prod.mk.injEq] at h
          refine ⟨((c :: s).takeWhile atomByte).length, ?_, takeWhile_le _ _, by rw [← h.2, dropWhile_drop]⟩
          exact List.length_pos_iff.2 h2
  | d + 1, s, t, r, h => by
    cases s with
    | nil => simp [readT] at h
    | cons c s =>
      simp only [readT] at h
      by_cases h1 : c = 40
      · rw [if_pos h1] at h
        cases hp : partsLoop (readT d) (s.length + 1) s with
        | none => simp [hp] at h
        | some q =>
          obtain ⟨ts', r''⟩ := q
          simp [hp] at h
          obtain ⟨k', h0', hl', he', _⟩ := eats_parts (eats_readT d) _ s ts' r'' hp
          exact ⟨k' + 1, by omega, by simp; omega, by rw [← h.2, he']; rfl⟩
      · rw [if_neg h1] at h
        by_cases h2 : (c :: s).takeWhile atomByte = []
        · rw [if_pos h2] at h; cases h
        · rw [if_neg h2] at h
          simp only [Option.some.injEq, Prod.mk.injEq] at h
          refine ⟨((c :: s).takeWhile atomByte).length, ?_, takeWhile_le _ _, by rw [← h.2, dropWhile_drop]⟩
          exact List.length_pos_iff.2 h2

/-- More fuel than bytes: it makes no difference how much. -/
theorem parts_fuel {rd : Bytes → Option (Tree × Bytes)} (hrd : Eats rd) : ∀ n m s, s.length < n → s.length < m → partsLoop rd n s = partsLoop rd m s
  | 0, _, _, h, _ => by omega
  | _ + 1, 0, _, _, h => by omega
  | n + 1, m + 1, s, hn, hm => by
    unfold partsLoop
    cases hr : rd s with
    | none => rfl
    | some p =>
      obtain ⟨t, r1⟩ := p
      obtain ⟨k, hk0, hkl, rfl⟩ := hrd s t r1 hr
      simp only
      cases hd : s.drop k with
      | nil => rfl
      | cons c r' =>
        simp only
        have hl : r'.length + 1 + k = s.length := by
          have := congrArg List.length hd
          simp at this; omega
        rw [parts_fuel hrd n m r' (by omega) (by omega)]
/-- A reader at a depth one less: at 0 there is none. -/
def rT (d : Nat) (s : Bytes) : Option (Tree × Bytes) := match d with
  | 0 => none
  | d + 1 => readT d s
theorem eats_rT : ∀ d, Eats (rT d)
  | 0 => fun s t r h => by simp [rT] at h
  | d + 1 => eats_readT d
/-- The parts from here on. -/
def partsFrom (d : Nat) (s : Bytes) : Option (List Tree × Bytes) := partsLoop (rT d) (s.length + 1) s
theorem partsFrom_eq (d : Nat) (s : Bytes) : partsFrom d s = match rT d s with
    | none => none
    | some (t, r) => match r with
      | [] => none
      | c :: r' => if c = 41 then some ([t], r') else if c = 32 then (partsFrom d r').map fun p => (t :: p.1, p.2) else none := by
  unfold partsFrom
  conv => lhs; unfold partsLoop
  cases hr : rT d s with
  | none => rfl
  | some p =>
    obtain ⟨t, r1⟩ := p
    obtain ⟨k, hk0, hkl, rfl⟩ := eats_rT d s t r1 hr
    simp only
    cases hd : s.drop k with
    | nil => rfl
    | cons c r' =>
      simp only
      have hl : r'.length + 1 + k = s.length := by
        have := congrArg List.length hd
        simp at this; omega
      rw [parts_fuel (eats_rT d) s.length (r'.length + 1) r' (by omega) (by omega)]
theorem parts_none : ∀ n s, partsLoop (rT 0) n s = none
  | 0, _ => rfl
  | n + 1, s => by simp [partsLoop, rT]
theorem readT_open (d : Nat) (r : Bytes) : readT d (40 :: r) = (partsFrom d r).map fun p => (.mk [] p.1, p.2) := by
  cases d with
  | zero => simp [readT, partsFrom, parts_none]
  | succ d => simp [readT, partsFrom]; rfl
theorem readT_atom (d : Nat) (c : UInt8) (r : Bytes) (h : c ≠ 40) : readT d (c :: r) = if (c :: r).takeWhile atomByte = [] then none else some (.mk ((c :: r).takeWhile atomByte) [], (c :: r).dropWhile atomByte) := by
  cases d <;> simp [readT, h]
theorem readT_nil (d : Nat) : readT d [] = none := by cases d <;> rfl
theorem drop_cons {α : Type} {s : List α} {i : Nat} {c : α} (h : s[i]? = some c) : s.drop i = c :: s.drop (i + 1) := by
  obtain ⟨hl, he⟩ := List.getElem?_eq_some_iff.1 h
  rw [List.drop_eq_getElem_cons hl, he]
theorem tw_lt (p : UInt8 → Bool) : ∀ (s : Bytes) (k : Nat), k ≤ (s.takeWhile p).length → (k < (s.takeWhile p).length ↔ k < s.length ∧ p (s.getD k 0) = true)
  | [], k, h => by simp
  | c :: s, 0, h => by
    by_cases hc : p c = true
    · simp [List.takeWhile, hc]
    · simp [List.takeWhile, hc]
  | c :: s, k + 1, h => by
    by_cases hc : p c = true
    · simp only [List.takeWhile, hc, List.length_cons] at h ⊢
      have := tw_lt p s k (by omega)
      rw [List.getD_cons_succ, Nat.add_lt_add_iff_right, Nat.add_lt_add_iff_right]
      exact this
    · simp [List.takeWhile, hc] at h
theorem get_getD {s : Bytes} {k : Nat} (h : k < s.length) : s[k]? = some (s.getD k 0) := by
  rw [List.getD_eq_getElem?_getD, List.getElem?_eq_getElem h]; rfl
theorem takeWhile_take (p : UInt8 → Bool) (s : Bytes) : s.take (s.takeWhile p).length = s.takeWhile p := by
  induction s with
  | nil => rfl
  | cons c s ih => by_cases hc : p c = true <;> simp [List.takeWhile, hc, ih]

theorem getD_drop (s : Bytes) (i k : Nat) : (s.drop i).getD k 0 = s.getD (i + k) 0 := by
  simp [List.getD_eq_getElem?_getD, List.getElem?_drop]
theorem tw_at (s : Bytes) {i k : Nat} (hik : i ≤ k) (h : k - i ≤ ((s.drop i).takeWhile atomByte).length) : k - i < ((s.drop i).takeWhile atomByte).length ↔ k < s.length ∧ atomByte (s.getD k 0) = true := by
  have := tw_lt atomByte (s.drop i) (k - i) h
  rw [getD_drop, List.length_drop, show i + (k - i) = k from by omega] at this
  rw [this]
  constructor
  · rintro ⟨h1, h2⟩; exact ⟨by omega, h2⟩
  · rintro ⟨h1, h2⟩; exact ⟨by omega, h2⟩

/-- What one call of the reader tells of the parts from here on. -/
def ReadEnd (n : Nat) (o : Option (Tree × Bytes)) (t : Tree) (en : Int) : Prop := match o with
  | some (t', r) => t = t' ∧ en = ((n - r.length : Nat) : Int)
  | none => en = -1
theorem parts_stop {s : Bytes} {d k : Nat} {t : Tree} {en : Int} (hm : ReadEnd s.length (rT d (s.drop k)) t en) (he : en < 0 ∨ (s.length : Int) ≤ en) (hs : 0 < s.length) : partsFrom d (s.drop k) = none := by
  rw [partsFrom_eq]
  unfold ReadEnd at hm
  cases hr : rT d (s.drop k) with
  | none => rfl
  | some p =>
    obtain ⟨t', r⟩ := p
    rw [hr] at hm
    obtain ⟨_, h2⟩ := hm
    cases r with
    | nil => rfl
    | cons c r' => simp only [List.length_cons] at h2; omega
theorem parts_go {s : Bytes} {d k : Nat} {t : Tree} {en : Int} (hm : ReadEnd s.length (rT d (s.drop k)) t en) (h0 : 0 ≤ en) (h1 : en < s.length) :
    ∃ m : Nat, en = m ∧ k < m ∧ m < s.length ∧ partsFrom d (s.drop k) = (if s.getD m 0 = 41 then some ([t], s.drop (m + 1)) else if s.getD m 0 = 32 then (partsFrom d (s.drop (m + 1))).map fun p => (t :: p.1, p.2) else none) := by
  rw [partsFrom_eq]
  unfold ReadEnd at hm
  cases hr : rT d (s.drop k) with
  | none => rw [hr] at hm; omega
  | some p =>
    obtain ⟨t', r⟩ := p
    rw [hr] at hm
    obtain ⟨rfl, h2⟩ := hm
    obtain ⟨j, hj0, hjl, rfl⟩ := eats_rT d _ _ _ hr
    rw [List.length_drop] at hjl
    rw [List.drop_drop, List.length_drop] at h2
    have hlt : k + j < s.length := by omega
    refine ⟨k + j, by omega, by omega, hlt, ?_⟩
    simp only [List.drop_drop]
    rw [drop_cons (get_getD hlt)]
theorem map_append {o : Option (List Tree × Bytes)} {a : List Tree} {t : Tree} : (o.map fun p => (t :: p.1, p.2)).map (fun p => (a ++ p.1, p.2)) = o.map fun p => ((a ++ [t]) ++ p.1, p.2) := by
  cases o <;> simp

def parse (s : Bytes) : Option Tree :=
  if 12000 < s.length then none else match readT 60 s with
    | some (t, []) => some t
    | _ => none

theorem parse_of {s : Bytes} {t : Tree} {en : Int} (hl : s.length ≤ 12000) (hm : ReadEnd s.length (rT 61 (s.drop 0)) t en) : decide (en = (s.length : Int)) = (parse s).isSome ∧ ∀ t', parse s = some t' → t = t' := by
  have e : rT 61 (s.drop 0) = readT 60 s := rfl
  rw [e] at hm
  unfold ReadEnd at hm
  unfold parse
  rw [if_neg (by omega)]
  cases hr : readT 60 s with
  | none =>
    rw [hr] at hm
    refine ⟨?_, fun t' h => by cases h⟩
    simp only [Option.isSome_none, decide_eq_false_iff_not]
    simp only at hm; omega
  | some p =>
    obtain ⟨t', r⟩ := p
    rw [hr] at hm
    obtain ⟨rfl, h2⟩ := hm
    obtain ⟨k, hk0, hkl, hrk⟩ := eats_readT 60 s _ _ hr
    cases r with
    | nil =>
      refine ⟨?_, fun t' h => by simpa using h⟩
      simp at h2 ⊢; exact h2
    | cons c r' =>
      refine ⟨?_, fun t' h => by cases h⟩
      have hlen := congrArg List.length hrk
      simp only [List.length_cons, List.length_drop] at hlen h2
      simp only [Option.isSome_none, decide_eq_false_iff_not]
      omega

mutual
def Tree.text : Tree → Bytes
  | .mk a ps => if a = [] then 40 :: (textsOf ps ++ [41]) else a
def textsOf : List Tree → Bytes
  | [] => []
  | t :: ts => match ts with
    | [] => t.text
    | _ :: _ => t.text ++ 32 :: textsOf ts
end
end Go.Proofs.YtnkjgoholocliaaGreatDoor

namespace Go.Proofs.YtnkjgoholocliaaGreatDoor

def dig (c : UInt8) : Bool := 48 ≤ c && c ≤ 57
theorem dig_iff (c : UInt8) : dig c = true ↔ 48 ≤ c.toNat ∧ c.toNat ≤ 57 := by
  simp [dig, UInt8.le_iff_toNat_le]
def sgn (s : Bytes) : Int := if 0 < s.length ∧ s.getD 0 0 = 45 then -1 else 1
def dgs (s : Bytes) : Bytes := if 0 < s.length ∧ s.getD 0 0 = 45 then s.drop 1 else s
def val (ds : Bytes) : Nat := ds.foldl (fun n c => 10 * n + (c.toNat - 48)) 0
def numeral (s : Bytes) : Option Int :=
  if s = [48] then some 0
  else if (dgs s).length < 1 ∨ 3 < (dgs s).length ∨ (dgs s).getD 0 0 = 48 then none
  else if (dgs s).all dig = true then some (sgn s * val (dgs s)) else none
theorem val_snoc (ds : Bytes) (c : UInt8) : val (ds ++ [c]) = 10 * val ds + (c.toNat - 48) := by simp [val]
theorem val_bound : ∀ (ds : Bytes), ds.all dig = true → val ds < 10 ^ ds.length := by
  intro ds
  have key : ∀ (l : Bytes) (n k : Nat), l.all dig = true → n < 10 ^ k → l.foldl (fun n c => 10 * n + (c.toNat - 48)) n < 10 ^ (k + l.length) := by
    intro l
    induction l with
    | nil => intro n k _ h; simpa using h
    | cons c l ih =>
      intro n k hl h
      simp only [List.all_cons, Bool.and_eq_true] at hl
      have hc := (dig_iff c).1 hl.1
      simp only [List.foldl_cons, List.length_cons]
      have := ih (10 * n + (c.toNat - 48)) (k + 1) hl.2 (by rw [Nat.pow_succ]; omega)
      rw [show k + (l.length + 1) = k + 1 + l.length from by omega]; exact this
  intro h
  have := key ds 0 0 h (by simp)
  simpa [val] using this
theorem take_snoc {s : Bytes} {k : Nat} (h : k < s.length) : s.take (k + 1) = s.take k ++ [s.getD k 0] := by
  rw [List.take_succ_eq_append_getElem h, List.getD_eq_getElem?_getD, List.getElem?_eq_getElem h]; rfl

def headOf (t : Tree) : Bytes := if t.atom ≠ [] ∨ t.parts = [] then [] else match t.parts with
  | [] => []
  | p :: _ => p.atom
def lowB (c : UInt8) : Bool := 97 ≤ c && c ≤ 122
/-- A label: letters and digits, a letter first. -/
def labelAt (s : Bytes) (i : Nat) : Bool := lowB (s.getD i 0) || (decide (0 < i) && dig (s.getD i 0))
def isLabel (s : Bytes) : Bool := (List.range s.length).all (labelAt s) && decide (s ≠ [])
theorem le_z (k c : UInt8) : decide ((k.toNat : Int) ≤ c.toNat) = decide (k ≤ c) := by simp [UInt8.le_iff_toNat_le]
theorem eq_z (k c : UInt8) : decide ((c.toNat : Int) = k.toNat) = (c == k) := by
  rw [Bool.eq_iff_iff]; simp [← UInt8.toNat_inj]; omega
theorem label_z (s : Bytes) (k : Nat) : ((decide ((97 : Int) ≤ (s.getD k 0).toNat) && decide (((s.getD k 0).toNat : Int) ≤ 122)) || ((decide ((0 : Int) < (k : Int)) && decide ((48 : Int) ≤ (s.getD k 0).toNat)) && decide (((s.getD k 0).toNat : Int) ≤ 57))) = labelAt s k := by
  have a := le_z 97 (s.getD k 0)
  have b := le_z (s.getD k 0) 122
  have c := le_z 48 (s.getD k 0)
  have d := le_z (s.getD k 0) 57
  simp only [show ((97 : UInt8).toNat : Int) = 97 from rfl, show ((122 : UInt8).toNat : Int) = 122 from rfl, show ((48 : UInt8).toNat : Int) = 48 from rfl, show ((57 : UInt8).toNat : Int) = 57 from rfl] at a b c d
  rw [a, b, c, d]
  unfold labelAt lowB dig
  rw [show decide ((0 : Int) < (k : Int)) = decide (0 < k) from by simp, Bool.and_assoc]
theorem isLabel_no {s : Bytes} {j : Nat} (hj : j < s.length) (h : labelAt s j = false) : isLabel s = false := by
  unfold isLabel
  rw [Bool.and_eq_false_iff]; left
  rw [List.all_eq_false]
  exact ⟨j, List.mem_range.2 hj, by simp [h]⟩
theorem isLabel_yes {s : Bytes} (h : ∀ j, j < s.length → labelAt s j = true) : isLabel s = decide (s ≠ []) := by
  unfold isLabel
  rw [List.all_eq_true.2 (fun j hj => h j (List.mem_range.1 hj)), Bool.true_and]
theorem all_upto {P : Nat → Prop} {k : Nat} (h : ∀ j, j < k → P j) (hk : P k) : ∀ j, j < k + 1 → P j := fun j hj => by
  rcases Nat.lt_or_ge j k with h1 | h1
  · exact h j h1
  · rw [show j = k from by omega]; exact hk
theorem headOf_cons {t p : Tree} (ha : t.atom = []) (hp : t.parts[0]? = some p) : headOf t = p.atom := by
  unfold headOf
  cases h : t.parts with
  | nil => rw [h] at hp; simp at hp
  | cons q r => rw [h] at hp; simp at hp; subst hp; simp [ha]
theorem headOf_no {t : Tree} (h : t.atom ≠ [] ∨ t.parts = []) : headOf t = [] := by unfold headOf; rw [if_pos h]
theorem numeral_bad {s : Bytes} (h0 : s ≠ [48]) (h : (dgs s).length < 1 ∨ 3 < (dgs s).length ∨ (dgs s).getD 0 0 = 48) : numeral s = none := by
  unfold numeral; rw [if_neg h0, if_pos h]
theorem numeral_nondig {s : Bytes} {k : Nat} (h0 : s ≠ [48]) (hk : k < (dgs s).length) (h : dig ((dgs s).getD k 0) = false) : numeral s = none := by
  unfold numeral
  rw [if_neg h0]
  split
  · rfl
  · rw [if_neg]
    intro hall
    have := List.all_eq_true.1 hall ((dgs s).getD k 0) (by rw [List.getD_eq_getElem?_getD, List.getElem?_eq_getElem hk]; simp)
    rw [this] at h; cases h
theorem numeral_ok {s : Bytes} (h0 : s ≠ [48]) (h : 1 ≤ (dgs s).length ∧ (dgs s).length ≤ 3 ∧ (dgs s).getD 0 0 ≠ 48) (hall : (dgs s).all dig = true) : numeral s = some (sgn s * val (dgs s)) := by
  unfold numeral
  rw [if_neg h0, if_neg (by rintro (h1 | h1 | h1); omega; omega; exact h.2.2 h1), if_pos hall]
theorem sgn_one (s : Bytes) : sgn s = 1 ∨ sgn s = -1 := by unfold sgn; split <;> simp
theorem dgs_bad {ds : Bytes} (h : (!(decide ((1 : Int) ≤ (ds.length : Int)) && decide ((ds.length : Int) ≤ 3)) || decide (((ds.getD 0 0).toNat : Int) = 48)) = true) : ds.length < 1 ∨ 3 < ds.length ∨ ds.getD 0 0 = 48 := by
  simp only [Bool.or_eq_true, Bool.not_eq_true', Bool.and_eq_false_iff, decide_eq_false_iff_not, decide_eq_true_eq] at h
  rcases h with (h | h) | h
  · left; omega
  · right; left; omega
  · right; right; exact UInt8.toNat_inj.1 (by have : (48 : UInt8).toNat = 48 := rfl; rw [this]; omega)
theorem dgs_good {ds : Bytes} (h : (!(decide ((1 : Int) ≤ (ds.length : Int)) && decide ((ds.length : Int) ≤ 3)) || decide (((ds.getD 0 0).toNat : Int) = 48)) = false) : 1 ≤ ds.length ∧ ds.length ≤ 3 ∧ ds.getD 0 0 ≠ 48 := by
  simp only [Bool.or_eq_false_iff, Bool.not_eq_false', Bool.and_eq_true, decide_eq_false_iff_not, decide_eq_true_eq] at h
  refine ⟨by omega, by omega, fun h48 => h.2 (by rw [h48]; rfl)⟩
theorem dig_no {c : UInt8} (h : (decide ((c.toNat : Int) < 48) || decide ((57 : Int) < c.toNat)) = true) : dig c = false := by
  cases hd : dig c with
  | false => rfl
  | true =>
    have := (dig_iff c).1 hd
    simp only [Bool.or_eq_true, decide_eq_true_eq] at h
    omega
theorem dig_yes {c : UInt8} (h : (decide ((c.toNat : Int) < 48) || decide ((57 : Int) < c.toNat)) = false) : 48 ≤ c.toNat ∧ c.toNat ≤ 57 ∧ dig c = true := by
  simp only [Bool.or_eq_false_iff, decide_eq_false_iff_not] at h
  exact ⟨by omega, by omega, (dig_iff c).2 ⟨by omega, by omega⟩⟩
end Go.Proofs.YtnkjgoholocliaaGreatDoor

namespace Go.Proofs.YtnkjgoholocliaaGreatDoor

def Tree.size : Tree → Nat
  | .mk a ps => 1 + a.length + sizes ps
where sizes : List Tree → Nat
  | [] => 0
  | t :: ts => t.size + sizes ts
theorem size_part {ps : List Tree} : ∀ {i : Nat} {p : Tree}, ps[i]? = some p → p.size ≤ Tree.size.sizes ps := by
  induction ps with
  | nil => intro i p h; simp at h
  | cons q ps ih =>
    intro i p h
    cases i with
    | zero => simp at h; subst h; simp only [Tree.size.sizes]; omega
    | succ i => have := ih (by simpa using h); simp only [Tree.size.sizes]; omega
theorem size_lt {t p : Tree} {i : Nat} (h : t.parts[i]? = some p) : p.size < t.size := by
  cases t with
  | mk a ps => have := size_part (ps := ps) h; simp only [Tree.size]; omega

theorem parts_le : ∀ t : Tree, t.parts.length < t.size
  | .mk a ps => by
    have : ∀ l : List Tree, l.length ≤ Tree.size.sizes l := by
      intro l
      induction l with
      | nil => simp [Tree.size.sizes]
      | cons q r ih => cases q; simp only [Tree.size.sizes, Tree.size, List.length_cons]; omega
    have := this ps
    simp only [Tree.parts, Tree.size]; omega
/-- Well made: an atom without parts, or parts without an atom. -/
inductive WF : Tree → Prop
  | atom (a : Bytes) (h : a ≠ []) : WF (.mk a [])
  | list (ps : List Tree) (h : ps ≠ []) (hp : ∀ p, p ∈ ps → WF p) : WF (.mk [] ps)
theorem WF.part {t p : Tree} {i : Nat} (h : WF t) (hp : t.parts[i]? = some p) : WF p := by
  cases h with
  | atom a _ => simp [Tree.parts] at hp
  | list ps _ hw => exact hw p (List.mem_of_getElem? hp)
theorem WF.first {t : Tree} (h : WF t) (ha : t.atom = []) : ∃ p, t.parts[0]? = some p := by
  cases h with
  | atom a hn => exact absurd ha hn
  | list ps hn _ =>
    cases ps with
    | nil => exact absurd rfl hn
    | cons q r => exact ⟨q, rfl⟩
theorem WF.leaf {t : Tree} (h : WF t) (ha : t.atom ≠ []) : t.parts = [] := by
  cases h with
  | atom a _ => rfl
  | list ps _ _ => exact absurd rfl ha

theorem wf_parts {rd : Bytes → Option (Tree × Bytes)} (hrd : ∀ s t r, rd s = some (t, r) → WF t) : ∀ n s ts r, partsLoop rd n s = some (ts, r) → ts ≠ [] ∧ ∀ p, p ∈ ts → WF p
  | 0, _, _, _, h => by simp [partsLoop] at h
  | n + 1, s, ts, r, h => by
    unfold partsLoop at h
    cases hr : rd s with
    | none => simp [hr] at h
    | some q =>
      obtain ⟨t, r1⟩ := q
      have ht := hrd s t r1 hr
      simp only [hr] at h
      cases r1 with
      | nil => simp at h
      | cons c r' =>
        simp only at h
        by_cases h1 : c = 41
        · rw [if_pos h1] at h
          simp at h
          obtain ⟨rfl, _⟩ := h
          exact ⟨by simp, by intro p hp; simp at hp; subst hp; exact ht⟩
        · rw [if_neg h1] at h
          by_cases h2 : c = 32
          · rw [if_pos h2] at h
            cases hp : partsLoop rd n r' with
            | none => simp [hp] at h
            | some q =>
              obtain ⟨ts', r''⟩ := q
              simp [hp] at h
              obtain ⟨rfl, _⟩ := h
              obtain ⟨_, h4⟩ := wf_parts hrd n r' ts' r'' hp
              exact ⟨by simp, by intro p hp; rcases List.mem_cons.1 hp with rfl | hp; exact ht; exact h4 p hp⟩
          · rw [if_neg h2] at h; cases h
theorem wf_readT : ∀ d s t r, readT d s = some (t, r) → WF t := by
  have leaf : ∀ (s : Bytes) (t : Tree) (r : Bytes), (if s.takeWhile atomByte = [] then none else some (Tree.mk (s.takeWhile atomByte) [], s.dropWhile atomByte)) = some (t, r) → WF t := by
    intro s t r h
    split at h
    · cases h
    · rename_i hn
      simp only [Option.some.injEq, Prod.mk.injEq] at h
      rw [← h.1]; exact .atom _ hn
  intro d
  induction d with
  | zero =>
    intro s t r h
    cases s with
    | nil => simp [readT] at h
    | cons c s =>
      simp only [readT] at h
      by_cases h1 : c = 40
      · rw [if_pos h1] at h; cases h
      · rw [if_neg h1] at h; exact leaf _ _ _ h
  | succ d ih =>
    intro s t r h
    cases s with
    | nil => simp [readT] at h
    | cons c s =>
      simp only [readT] at h
      by_cases h1 : c = 40
      · rw [if_pos h1] at h
        cases hp : partsLoop (readT d) (s.length + 1) s with
        | none => simp [hp] at h
        | some q =>
          obtain ⟨ts', r''⟩ := q
          simp [hp] at h
          obtain ⟨h3, h4⟩ := wf_parts ih _ _ _ _ hp
          rw [← h.1]; exact .list _ h3 h4
      · rw [if_neg h1] at h; exact leaf _ _ _ h
theorem wf_parse {s : Bytes} {t : Tree} (h : parse s = some t) : WF t := by
  unfold parse at h
  split at h
  · cases h
  · cases hr : readT 60 s with
    | none => rw [hr] at h; cases h
    | some q =>
      obtain ⟨t', r⟩ := q
      rw [hr] at h
      cases r with
      | nil => simp at h; subst h; exact wf_readT _ _ _ _ hr
      | cons c r => cases h

theorem size_parts {rd : Bytes → Option (Tree × Bytes)} (hrd : ∀ s t r, rd s = some (t, r) → t.size + r.length ≤ s.length + 1) : ∀ n s ts r, partsLoop rd n s = some (ts, r) → Tree.size.sizes ts + r.length ≤ s.length
  | 0, _, _, _, h => by simp [partsLoop] at h
  | n + 1, s, ts, r, h => by
    unfold partsLoop at h
    cases hr : rd s with
    | none => simp [hr] at h
    | some q =>
      obtain ⟨t, r1⟩ := q
      have ht := hrd s t r1 hr
      simp only [hr] at h
      cases r1 with
      | nil => simp at h
      | cons c r' =>
        simp only at h
        rw [List.length_cons] at ht
        by_cases h1 : c = 41
        · rw [if_pos h1] at h
          simp at h
          obtain ⟨rfl, rfl⟩ := h
          simp only [Tree.size.sizes]; omega
        · rw [if_neg h1] at h
          by_cases h2 : c = 32
          · rw [if_pos h2] at h
            cases hp : partsLoop rd n r' with
            | none => simp [hp] at h
            | some q =>
              obtain ⟨ts', r''⟩ := q
              simp [hp] at h
              obtain ⟨rfl, rfl⟩ := h
              have h4 := size_parts hrd n r' ts' r'' hp
              simp only [Tree.size.sizes]; omega
          · rw [if_neg h2] at h; cases h
theorem size_readT : ∀ d s t r, readT d s = some (t, r) → t.size + r.length ≤ s.length + 1 := by
  have leaf : ∀ (s : Bytes) (t : Tree) (r : Bytes), (if s.takeWhile atomByte = [] then none else some (Tree.mk (s.takeWhile atomByte) [], s.dropWhile atomByte)) = some (t, r) → t.size + r.length ≤ s.length + 1 := by
    intro s t r h
    split at h
    · cases h
    · simp only [Option.some.injEq, Prod.mk.injEq] at h
      obtain ⟨rfl, rfl⟩ := h
      have h1 := takeWhile_le atomByte s
      rw [dropWhile_drop, List.length_drop]
      simp only [Tree.size, Tree.size.sizes]; omega
  intro d
  induction d with
  | zero =>
    intro s t r h
    cases s with
    | nil => simp [readT] at h
    | cons c s =>
      simp only [readT] at h
      by_cases h1 : c = 40
      · rw [if_pos h1] at h; cases h
      · rw [if_neg h1] at h; exact leaf _ _ _ h
  | succ d ih =>
    intro s t r h
    cases s with
    | nil => simp [readT] at h
    | cons c s =>
      simp only [readT] at h
      by_cases h1 : c = 40
      · rw [if_pos h1] at h
        cases hp : partsLoop (readT d) (s.length + 1) s with
        | none => simp [hp] at h
        | some q =>
          obtain ⟨ts', r''⟩ := q
          simp [hp] at h
          have h3 := size_parts ih _ _ _ _ hp
          obtain ⟨rfl, rfl⟩ := h
          simp only [Tree.size, List.length_cons, List.length_nil]; omega
      · rw [if_neg h1] at h; exact leaf _ _ _ h
theorem parse_short {s : Bytes} {t : Tree} (h : parse s = some t) : s.length ≤ 12000 := by
  unfold parse at h
  split at h
  · cases h
  · omega
theorem size_parse {s : Bytes} {t : Tree} (h : parse s = some t) : t.size ≤ 12001 := by
  have hs := parse_short h
  unfold parse at h
  split at h
  · cases h
  · cases hr : readT 60 s with
    | none => rw [hr] at h; cases h
    | some q =>
      obtain ⟨t', r⟩ := q
      rw [hr] at h
      cases r with
      | nil => simp at h; subst h; have := size_readT _ _ _ _ hr; simp at this; omega
      | cons c r => cases h
theorem atom_lt : ∀ t : Tree, t.atom.length < t.size
  | .mk a ps => by simp only [Tree.atom, Tree.size]; omega

/-- A target type; whether v may stand in it. -/
def targetB (hidden : Bool) : Tree → Bool
  | .mk a ps => if a ≠ [] then decide (a = [105]) || (hidden && decide (a = [118])) else match ps with
    | [] => false
    | h :: rest => if h.atom = [101] then oneT rest else if h.atom = [116] ∨ h.atom = [99] then allT hidden rest else false
where
  oneT : List Tree → Bool
    | [] => false
    | [t] => targetB true t
    | _ :: _ :: _ => false
  allT (hidden : Bool) : List Tree → Bool
    | [] => true
    | t :: ts => targetB hidden t && allT hidden ts
theorem allT_eq (hidden : Bool) : ∀ ts, targetB.allT hidden ts = ts.all (targetB hidden)
  | [] => rfl
  | t :: ts => by simp [targetB.allT, allT_eq hidden ts]

/-- Part i (a form without anything where there is none). -/
def nth (ps : List Tree) (i : Nat) : Tree := ps.getD i (.mk [] [])
theorem nth_get {ps : List Tree} {i : Nat} (h : i < ps.length) : ps[i]? = some (nth ps i) := by
  simp [nth, List.getD, List.getElem?_eq_getElem h]
theorem nth_size {t : Tree} {i : Nat} (h : i < t.parts.length) : (nth t.parts i).size < t.size := size_lt (nth_get h)
theorem WF.nth {t : Tree} {i : Nat} (h : WF t) (hi : i < t.parts.length) : WF (nth t.parts i) := h.part (nth_get hi)
theorem WF.pos {t : Tree} (h : WF t) (ha : t.atom = []) : 0 < t.parts.length := by
  obtain ⟨p, hp⟩ := h.first ha
  exact (List.getElem?_eq_some_iff.1 hp).1
theorem targetB_atom {t : Tree} (h : t.atom ≠ []) (hidden : Bool) : targetB hidden t = (decide (t.atom = [105]) || (hidden && decide (t.atom = [118]))) := by
  cases t with
  | mk a ps => unfold targetB; exact if_pos h
theorem targetB_e {t : Tree} (ha : t.atom = []) (hp : 0 < t.parts.length) (he : (nth t.parts 0).atom = [101]) (hidden : Bool) : targetB hidden t = (decide (t.parts.length = 2) && targetB true (nth t.parts 1)) := by
  cases t with
  | mk a ps =>
    simp only [Tree.atom] at ha
    subst ha
    cases ps with
    | nil => simp [Tree.parts] at hp
    | cons h rest =>
      have he' : h.atom = [101] := he
      simp only [targetB, he', Tree.parts, ne_eq, not_true_eq_false, if_false, if_true]
      match rest with
      | [] => simp [targetB.oneT]
      | [p] => simp [targetB.oneT, _root_.Go.Proofs.YtnkjgoholocliaaGreatDoor.nth]
      | p :: q :: r => simp [targetB.oneT]
theorem targetB_tc {t : Tree} (ha : t.atom = []) (hp : 0 < t.parts.length) (he : (nth t.parts 0).atom = [116] ∨ (nth t.parts 0).atom = [99]) (hidden : Bool) : targetB hidden t = (t.parts.drop 1).all (targetB hidden) := by
  cases t with
  | mk a ps =>
    simp only [Tree.atom] at ha
    subst ha
    cases ps with
    | nil => simp [Tree.parts] at hp
    | cons h rest =>
      have he' : h.atom = [116] ∨ h.atom = [99] := he
      have hne : h.atom ≠ [101] := by rcases he' with h | h <;> rw [h] <;> decide
      simp only [targetB, hne, he', Tree.parts, ne_eq, not_true_eq_false, if_false, if_true, allT_eq, List.drop_one, List.tail_cons]
theorem targetB_no {t : Tree} (ha : t.atom = []) (hp : 0 < t.parts.length) (h1 : (nth t.parts 0).atom ≠ [101]) (h2 : ¬ ((nth t.parts 0).atom = [116] ∨ (nth t.parts 0).atom = [99])) (hidden : Bool) : targetB hidden t = false := by
  cases t with
  | mk a ps =>
    simp only [Tree.atom] at ha
    subst ha
    cases ps with
    | nil => simp [Tree.parts] at hp
    | cons h rest =>
      have h1' : h.atom ≠ [101] := h1
      have h2' : ¬ (h.atom = [116] ∨ h.atom = [99]) := h2
      simp only [targetB, h1', h2', ne_eq, not_true_eq_false, if_false]
theorem all_drop_step {ps : List Tree} {f : Tree → Bool} {i : Nat} (hi : i < ps.length) : (ps.drop i).all f = (f (nth ps i) && (ps.drop (i + 1)).all f) := by
  rw [List.drop_eq_getElem_cons hi, List.all_cons]
  simp [nth, List.getD, List.getElem?_eq_getElem hi]

theorem ne2_f {a x y : Bytes} (h : (decide (a ≠ x) && decide (a ≠ y)) = false) : a = x ∨ a = y := by
  simp only [Bool.and_eq_false_iff, decide_eq_false_iff_not, Classical.not_not] at h; exact h
theorem ne2_t {a x y : Bytes} (h : (decide (a ≠ x) && decide (a ≠ y)) = true) : ¬ (a = x ∨ a = y) := by
  simp only [Bool.and_eq_true, decide_eq_true_eq] at h; exact fun hh => hh.elim h.1 h.2

def regZ (a : Bytes) : Int := match numeral a with
  | some n => if 0 ≤ n ∧ n ≤ 39 then n else -1
  | none => -1
def isReg (a : Bytes) : Bool := decide (0 ≤ regZ a)

/-- A part of an instruction, by its kind. -/
def partZ (z : Int) (t : Tree) : Bool :=
  if z = 114 ∨ z = 42 then isReg t.atom else if z = 110 then (numeral t.atom).isSome else if z = 108 then isLabel t.atom
  else if z = 101 then decide (headOf t = [101]) && targetB false t else targetB false t
theorem notb_f {b : Bool} (h : (!b) = false) : b = true := by cases b; cases h; rfl
theorem notb_t {b : Bool} (h : (!b) = true) : b = false := by cases b; rfl; cases h
theorem or_tt {a b : Prop} [Decidable a] [Decidable b] (h : a) : decide a = (decide a || decide b) := by rw [decide_eq_true h]; rfl
theorem or_ff {a b : Prop} [Decidable a] [Decidable b] (h : ¬ a) : decide b = (decide a || decide b) := by rw [decide_eq_false h]; rfl
theorem or3_1 {a b c : Prop} [Decidable a] [Decidable b] [Decidable c] (h : a) : decide a = (decide a || decide b || decide c) := by rw [decide_eq_true h]; rfl
theorem or3_2 {a b c : Prop} [Decidable a] [Decidable b] [Decidable c] (h : ¬ a) (h2 : b) : decide b = (decide a || decide b || decide c) := by rw [decide_eq_false h, decide_eq_true h2]; rfl
theorem or3_3 {a b c : Prop} [Decidable a] [Decidable b] [Decidable c] (h : ¬ a) (h2 : ¬ b) : decide c = (decide a || decide b || decide c) := by rw [decide_eq_false h, decide_eq_false h2]; rfl
theorem or_t {a b : Prop} [Decidable a] [Decidable b] (h : (decide a || decide b) = true) : a ∨ b := by simpa using h
theorem or_f {a b : Prop} [Decidable a] [Decidable b] (h : (decide a || decide b) = false) : ¬ (a ∨ b) := by simpa using h
theorem or3_t {a b c : Prop} [Decidable a] [Decidable b] [Decidable c] (h : (decide a || decide b || decide c) = true) : a ∨ b ∨ c := by simpa [or_assoc] using h
theorem or3_f {a b c : Prop} [Decidable a] [Decidable b] [Decidable c] (h : (decide a || decide b || decide c) = false) : ¬ (a ∨ b ∨ c) := by
  simp only [Bool.or_eq_false_iff, decide_eq_false_iff_not] at h
  exact fun hh => by rcases hh with hh | hh | hh; exact h.1.1 hh; exact h.1.2 hh; exact h.2 hh
/-- The kinds of an instruction's parts. -/
def shapeOf (h : Bytes) : Bytes :=
  if h = [99, 111, 110, 115, 116] then [114, 110]
  else if h = [109, 111, 118] ∨ h = [111, 112, 101, 110] then [114, 114]
  else if h = [97, 100, 100] ∨ h = [115, 117, 98] ∨ h = [109, 117, 108] then [114, 114, 114]
  else if h = [110, 101, 119] then [114, 42]
  else if h = [103, 101, 116] then [114, 114, 110]
  else if h = [108, 97, 98] ∨ h = [122, 101, 114, 111] then [114, 108]
  else if h = [112, 97, 99, 107] then [114, 114, 101, 119]
  else if h = [106, 117, 109, 112] ∨ h = [104, 97, 108, 116] then [114]
  else []

/-- The kind of part i. -/
def kindAt (h : Bytes) (i : Nat) : Int := ((h.getD (min i h.length - 1) 0).toNat : Int)
/-- Whether the number of parts is right. -/
def lenB (t : Tree) : Bool := (decide (shapeOf (headOf t) ≠ [114, 42]) && decide (t.parts.length ≠ (shapeOf (headOf t)).length + 1)) || decide (t.parts.length < 2)
def partsB (t : Tree) (i : Nat) : Bool := partZ (kindAt (shapeOf (headOf t)) i) (nth t.parts i)
def instrB (t : Tree) : Bool := if shapeOf (headOf t) = [] then false else if lenB t then false
  else decide (∀ i, i < t.parts.length → 1 ≤ i → partsB t i = true) && (decide (headOf t ≠ [103, 101, 116]) || decide (0 ≤ (numeral (nth t.parts 3).atom).getD 0))
theorem shape_get {h : Bytes} (hh : h = [103, 101, 116]) : shapeOf h = [114, 114, 110] := by rw [hh]; decide
theorem lenB_get {t : Tree} (h : lenB t = false) (hh : headOf t = [103, 101, 116]) : t.parts.length = 4 := by
  unfold lenB at h
  rw [shape_get hh] at h
  simp only [Bool.or_eq_false_iff, Bool.and_eq_false_iff, decide_eq_false_iff_not] at h
  rcases h.1 with h | h
  · exact absurd (by decide) h
  · simpa using h
theorem lenB_two {t : Tree} (h : lenB t = false) : 2 ≤ t.parts.length := by
  unfold lenB at h
  simp only [Bool.or_eq_false_iff, decide_eq_false_iff_not] at h
  omega
theorem headOf_atom {t : Tree} (h : shapeOf (headOf t) ≠ []) : t.atom = [] ∧ 0 < t.parts.length ∧ headOf t = (nth t.parts 0).atom := by
  have hne : headOf t ≠ [] := fun hh => by rw [hh] at h; exact h (by decide)
  by_cases ha : t.atom = []
  · rcases Nat.eq_zero_or_pos t.parts.length with hz | hz
    · exact absurd (headOf_no (.inr (List.length_eq_zero_iff.1 hz))) hne
    · exact ⟨ha, hz, headOf_cons ha (nth_get hz)⟩
  · exact absurd (headOf_no (.inl ha)) hne
theorem shape_len (h : Bytes) : (shapeOf h).length ≤ 4 := by
  unfold shapeOf
  repeat' split
  all_goals decide
theorem lenB_z {t : Tree} {n : Nat} (hn : n = t.parts.length) : ((decide (shapeOf (headOf t) ≠ [114, 42]) && decide ((n : Int) ≠ ((shapeOf (headOf t)).length : Int) + 1)) || decide ((n : Int) < 2)) = lenB t := by
  unfold lenB
  subst hn
  congr 1
  · congr 1
    exact decide_eq_decide.2 (by omega)
  · exact decide_eq_decide.2 (by omega)
theorem instrB_shape {t : Tree} (h : shapeOf (headOf t) = []) : instrB t = false := by unfold instrB; rw [if_pos h]
theorem instrB_len {t : Tree} (h : lenB t = true) : instrB t = false := by
  unfold instrB; rw [if_pos h]; split <;> rfl
theorem instrB_part {t : Tree} {i : Nat} (hi : i < t.parts.length) (h1 : 1 ≤ i) (h : partsB t i = false) : instrB t = false := by
  unfold instrB; split
  · rfl
  · split
    · rfl
    · rw [decide_eq_false (fun hh => by have := hh i hi h1; rw [h] at this; cases this)]; rfl
theorem instrB_all {t : Tree} (h1 : shapeOf (headOf t) ≠ []) (h2 : lenB t = false) (h : ∀ i, i < t.parts.length → 1 ≤ i → partsB t i = true) :
    instrB t = (decide (headOf t ≠ [103, 101, 116]) || decide (0 ≤ (numeral (nth t.parts 3).atom).getD 0)) := by
  unfold instrB; rw [if_neg h1, if_neg (by rw [h2]; simp), decide_eq_true h]; rfl
theorem instrB_head {t : Tree} (h : instrB t = true) : 0 < t.parts.length := by
  unfold instrB at h
  split at h
  · cases h
  · rename_i hne; exact (headOf_atom hne).2.1
/-- Said of a text: that it reads, and what is said of its form. -/
def seen (f : Tree → Bool) (s : Bytes) : Bool := match parse s with
  | some t => f t
  | none => false
theorem seen_eq {f : Tree → Bool} {s : Bytes} {t : Tree} (h : ∀ t', parse s = some t' → t = t') : ((parse s).isSome && f t) = seen f s := by
  unfold seen
  cases hp : parse s with
  | none => rfl
  | some t' => rw [h t' hp]; rfl
def lastB (t : Tree) : Bool := instrB t && (decide ((nth t.parts 0).atom = [106, 117, 109, 112]) || decide ((nth t.parts 0).atom = [104, 97, 108, 116]))
abbrev targetS (s : Bytes) : Bool := seen (targetB false) s
abbrev instrS (s : Bytes) : Bool := seen instrB s
abbrev lastS (s : Bytes) : Bool := seen lastB s
end Go.Proofs.YtnkjgoholocliaaGreatDoor

namespace Go.Proofs.YtnkjgoholocliaaGreatDoor
open Go

mutual
def Tree.enc : Tree → List C
  | .mk a ps => [.val (str a), .sl 2 (encs ps)]
def encs : List Tree → List (List C)
  | [] => []
  | t :: ts => t.enc :: encs ts
end
theorem encs_eq : ∀ ps, encs ps = ps.map Tree.enc
  | [] => by simp [encs]
  | t :: ts => by simp [encs, encs_eq ts]
theorem encs_length (ps : List Tree) : (encs ps).length = ps.length := by simp [encs_eq]
theorem enc_length : ∀ t : Tree, t.enc.length = 2
  | .mk _ _ => by simp [Tree.enc]
theorem encs_row (ps : List Tree) : ∀ row, row ∈ encs ps → row.length = 2 := by
  intro row h
  rw [encs_eq] at h
  obtain ⟨t, _, rfl⟩ := List.mem_map.1 h
  exact enc_length t
theorem encs_append (a b : List Tree) : encs (a ++ b) = encs a ++ encs b := by simp [encs_eq]
theorem encs_get {ps : List Tree} {i : Nat} {t : Tree} (h : ps[i]? = some t) : (encs ps)[i]? = some t.enc := by
  rw [encs_eq, List.getElem?_map, h]; rfl
theorem encs_drop (ps : List Tree) (i : Nat) : encs (ps.drop i) = (encs ps).drop i := by simp [encs_eq, List.map_drop]

/-- A tree's value: a struct of a string and a slice. -/
def RTree (L : List Nat) (w : World) (v : Value) (t : Tree) : Prop := RepA L w v t.enc
theorem RTree.ext {L : List Nat} {w w' : World} {v : Value} {t : Tree} (h : RTree L w v t) (k : Keep [] w w') : RTree L w' v t := RepA.ext h k
def RTrees (L : List Nat) (w : World) (v : Value) (ts : List Tree) : Prop := Rep L w v (.sl 2 (encs ts))
theorem RTrees.ext {L : List Nat} {w w' : World} {v : Value} {t : List Tree} (h : RTrees L w v t) (k : Keep [] w w') : RTrees L w' v t := Rep.ext h k

theorem rtree_cases {L : List Nat} {w : World} {v : Value} {t : Tree} (h : RTree L w v t) : ∃ a n c, v = .agg #[str t.atom, .slice a n c] ∧ n = t.parts.length ∧ RTrees L w (.slice a n c) t.parts := by
  obtain ⟨vs, rfl, hr⟩ := h
  cases t with
  | mk at_ ps =>
    rw [Tree.enc] at hr
    match vs, hr with
    | [v0, v1], hr =>
      obtain ⟨h0, h1, _⟩ := hr
      cases h0
      obtain ⟨a, c, rfl, hc⟩ := rep_len h1
      exact ⟨a, _, c, rfl, encs_length ps, h1⟩
    | [], hr => exact hr.elim
    | [_], hr => exact hr.2.elim
    | _ :: _ :: _ :: _, hr => exact hr.2.2.elim
theorem rtree_mk {L : List Nat} {w : World} {a : Bytes} {v : Value} {ps : List Tree} (h : RTrees L w v ps) : RTree L w (.agg #[str a, v]) (.mk a ps) :=
  ⟨[str a, v], rfl, by rw [Tree.enc]; exact ⟨.val _, h, trivial⟩⟩
theorem rtree_of {L : List Nat} {w : World} {v : Value} {t : Tree} (h : RTrees L w v t.parts) : RTree L w (.agg #[str t.atom, v]) t := by
  cases t; exact rtree_mk h
theorem rtrees_nil {L : List Nat} {w : World} : RTrees L w (.slice none 0 0) [] := by unfold RTrees; rw [encs]; exact .nil _ _ _
/-- Element i. -/
theorem rtrees_get {L : List Nat} {w : World} {a : Option Addr} {n c i : Nat} {ts : List Tree} {t : Tree} (h : RTrees L w (.slice a n c) ts) (hi : ts[i]? = some t) :
    ∃ b off pa pn pc, a = some ⟨b, off, none⟩ ∧ CellsAt w b (off + i * 2) [str t.atom, .slice pa pn pc] ∧ pn = t.parts.length ∧ RTrees L w (.slice pa pn pc) t.parts := by
  obtain ⟨b, off, vs, ha, hb, hL, hl, hc, hr⟩ := rep_get h (encs_get hi)
  obtain ⟨pa, pn, pc, he, hn, hp⟩ := rtree_cases (t := t) ⟨vs, rfl, hr⟩
  have hv : vs = [str t.atom, .slice pa pn pc] := by
    have := congrArg (fun v => match v with | Value.agg x => x.toList | _ => []) he
    simpa using this
  subst hv
  exact ⟨b, off, pa, pn, pc, ha, hc, hn, hp⟩
end Go.Proofs.YtnkjgoholocliaaGreatDoor

namespace Go.Proofs.YtnkjgoholocliaaGreatDoor
open Go

theorem Blk.sto {w w' : World} {b : Nat} {cs : Array Value} {T : TypeId} {L : List Nat} (h : Blk w b cs T) (k : Keep L w w') (hb : b ∉ L) : Blk w' b cs T := h.keep k hb
theorem Rep.sto {L L' : List Nat} {w w' : World} {v : Value} {c : C} (h : Rep L w v c) (k : Keep L' w w') (hL : ∀ x, x ∈ L' → x ∈ L) : Rep L w' v c := h.keep (k.mono hL)
theorem RTree.sto {L L' : List Nat} {w w' : World} {v : Value} {t : Tree} (h : RTree L w v t) (k : Keep L' w w') (hL : ∀ x, x ∈ L' → x ∈ L) : RTree L w' v t := RepA.keep h (k.mono hL)
theorem RTrees.sto {L L' : List Nat} {w w' : World} {v : Value} {t : List Tree} (h : RTrees L w v t) (k : Keep L' w w') (hL : ∀ x, x ∈ L' → x ∈ L) : RTrees L w' v t := Rep.keep h (k.mono hL)
theorem OwnR.sto {L L' : List Nat} {w w' : World} {T : TypeId} {sz : Nat} {v : Value} {g : Option Nat} {rows : List (List C)} {xs : List Value} (h : OwnR L w T sz v g rows xs) (k : Keep L' w w') (hL : ∀ x, x ∈ L' → x ∈ L) : OwnR L w' T sz v g rows xs := h.keep k hL
theorem Keep.sto {w0 w w' : World} {L L' : List Nat} (h : Keep L w0 w) (k : Keep L' w w') (hL : ∀ x, x ∈ L' → x ∈ L ∨ w0.heap.size ≤ x) : Keep L w0 w' := h.since k hL

theorem grow_mem {w : World} {L : List Nat} : ∀ x, x ∈ w.heap.size :: L → x ∈ L ∨ w.heap.size ≤ x := by
  intro x hx
  rcases List.mem_cons.1 hx with rfl | hx
  · exact .inr (Nat.le_refl _)
  · exact .inl hx
theorem Blk.grow {w : World} {b : Nat} {cs : Array Value} {T : TypeId} (h : Blk w b cs T) : Blk w b cs T := h
theorem Keep.grow {L : List Nat} {w w' : World} (h : Keep L w w') : Keep L w w' := h
theorem Rep.grow {L : List Nat} {w : World} {v : Value} {c : C} (h : Rep L w v c) : Rep (w.heap.size :: L) w v c := h.fresh grow_mem
theorem RTree.grow {L : List Nat} {w : World} {v : Value} {t : Tree} (h : RTree L w v t) : RTree (w.heap.size :: L) w v t := RepA.fresh h grow_mem
theorem RTrees.grow {L : List Nat} {w : World} {v : Value} {t : List Tree} (h : RTrees L w v t) : RTrees (w.heap.size :: L) w v t := Rep.fresh h grow_mem
theorem OwnR.grow {L : List Nat} {w : World} {T : TypeId} {sz : Nat} {v : Value} {g : Option Nat} {rows : List (List C)} {xs : List Value} (h : OwnR L w T sz v g rows xs) : OwnR (w.heap.size :: L) w T sz v g rows xs := h.more grow_mem
theorem OwnR.alloc {L : List Nat} {w w' : World} {T : TypeId} {sz : Nat} {v : Value} {g : Option Nat} {rows : List (List C)} {xs : List Value} (h : OwnR L w T sz v g rows xs) (k : Keep [] w w') (_ : w'.heap.size = w.heap.size + 1) : OwnR (w.heap.size :: L) w' T sz v g rows xs := h.grow.ext k
theorem RTree.repl {L : List Nat} {w : World} {x y : Value} {t : Tree} (h : RTree L w (.agg #[x, y]) t) : RepL L w [x, y] t.enc := by
  obtain ⟨vs, he, hr⟩ := h
  have hv : vs = [x, y] := by
    have := congrArg (fun v => match v with | Value.agg x => x.toList | _ => []) he
    simpa using this.symm
  rw [← hv]; exact hr
theorem mem_mid {A B : List Nat} {b : Nat} : ∀ x, x ∈ A ++ (b :: B) → x ∈ b :: (A ++ B) := by
  intro x hx
  rcases List.mem_append.1 hx with h | h
  · simp [h]
  · rcases List.mem_cons.1 h with h | h <;> simp [h]

section
variable {P : Program} {n : Nat} {ops : Array Oper} {K : Env → World → Prop} {rest : List Oper} {e : Env} {w w' : World}
  {dst : Option Nat} {ty : TypeId} {pos : String} {after : Array Edge} {g : Option (Nat × Bool)} {T : TypeId} {x y : Operand}

/-- A store into one cell of a box of one's own. -/
theorem ow_storeB {bytes : Nat} {z : Value} {b o : Nat} {v : Value} {vs : List Value} {U : TypeId} (hTI : TI P T 1 bytes z) (hg : gate ops e g = true) (hx : ev e x = .pointer (some ⟨b, o, none⟩)) (hy : ev e y = v)
    (h1 : v.oneCell' = true) (hb : Blk w b vs.toArray U) (ho : Nat.blt o vs.length = true)
    (k : ∀ w', Keep [b] w w' → Blk w' b (vs.set o v).toArray U → w'.heap.size = w.heap.size → OW P n ops K rest e w') : OW P n ops K (⟨none, .store T x y, ty, pos, after, g⟩ :: rest) e w :=
  ow_store hTI rfl hg hx hy h1 hb (by simpa [Nat.blt_eq] using ho) (fun w' hk hb' hz => k w' hk (by simpa using hb') hz)
theorem ow_storeA {sz bytes : Nat} {z : Value} {b : Nat} {vs us : List Value} {U : TypeId} (hTI : TI P T sz bytes z) (hg : gate ops e g = true)
    (hx : ev e x = .pointer (some ⟨b, 0, none⟩)) (hy : ev e y = .agg vs.toArray) (hl : Nat.beq vs.length sz = true) (h1 : vs.all Value.oneCell' = true) (hb : Blk w b us.toArray U) (hcs : Nat.beq us.length sz = true)
    (k : ∀ w', Keep [b] w w' → Blk w' b vs.toArray U → w'.heap.size = w.heap.size → OW P n ops K rest e w') : OW P n ops K (⟨none, .store T x y, ty, pos, after, g⟩ :: rest) e w :=
  ow_stores hTI hg hx hy (Nat.eq_of_beq_eq_true hl) (fun u hu => List.all_eq_true.1 h1 u hu) hb (by simpa using Nat.eq_of_beq_eq_true hcs) k

/-- '[]T{x}' of one element. -/
theorem run_buildSlice1 {E sz bytes : Nat} {z : Value} {vs : List Value} {v : Value} (hT : P.underlying T = some (.slice E)) (hE : TI P E sz bytes z) (_hz : z.cells.size = sz) (hs0 : 0 < sz) (hs1 : sz ≤ 16777216)
    (hv : v.cells = vs.toArray) (hl : vs.length = sz) : (Instr.buildSlice T 1 #[(0, v)]).run P w = .ok (.slice (some ⟨w.heap.size, 0, none⟩) 1 1) (w.alloc (.cells vs.toArray E)) := by
  have h0 : ¬ sz = 0 := by omega
  have hb : ¬ (16777216 < sz) := by omega
  have hfill : Instr.fill (fun i => some (i * sz, sz)) ((Array.range (1 * sz)).map (z.cells[· % z.cells.size]!)) [(0, v)] = some vs.toArray := by
    simp only [Instr.fill, Nat.zero_mul, hv, Nat.zero_add]
    rw [if_neg (by simp [hl])]
    congr 1
    have key : ∀ (us : List Value) (i : Nat) (pre : List Value) (cs : Array Value), cs.size = pre.length + us.length → cs.toList.take i = pre → i = pre.length →
        ((us.zipIdx i).foldl (fun (cs : Array Value) (p : Value × Nat) => cs.setIfInBounds (0 + p.2) p.1) cs) = (pre ++ us).toArray := by
      intro us
      induction us with
      | nil =>
        intro i pre cs hs ht hi
        apply Array.ext'
        simp only [List.zipIdx_nil, List.foldl_nil, List.append_nil]
        rw [← ht, List.take_of_length_le (by simp at hs ⊢; omega)]
      | cons u us ih =>
        intro i pre cs hs ht hi
        rw [List.zipIdx_cons, List.foldl_cons]
        simp only [List.length_cons] at hs
        have := ih (i + 1) (pre ++ [u]) (cs.setIfInBounds (0 + i) u) (by simp; omega) (by
          rw [Nat.zero_add, Array.toList_setIfInBounds, List.take_add_one, List.getElem?_set_self (by simp; omega), List.take_set_of_le (Nat.le_refl i), ht]; simp) (by simp; omega)
        rw [this]; simp
    have := key vs 0 [] ((Array.range (1 * sz)).map (z.cells[· % z.cells.size]!)) (by simp [hl]) (by simp) rfl
    simpa using this
  simp only [Instr.buildSlice, Sem.run_bind, run_underlying hT, Result.andThen_ok, hE.run_size, Nat.one_mul]
  rw [Nat.one_mul] at hfill
  simp [hb, h0, hE.run_zero, hfill, newRow]
theorem ow_buildSlice1 {E sz bytes : Nat} {z : Value} {vs : List Value} {v : Value} {q : Operand} (hT : P.underlying T = some (.slice E)) (hE : TI P E sz bytes z) (hg : gate ops e g = true) (hd : okDst n dst = true) (hz : Nat.beq z.cells.size sz = true) (hs0 : Nat.blt 0 sz = true) (hs1 : Nat.ble sz 16777216 = true)
    (hq : ev e q = v) (hv : v.cells = vs.toArray) (hl : Nat.beq vs.length sz = true)
    (k : ∀ w', Keep [] w w' → Blk w' w.heap.size vs.toArray E → w'.heap.size = w.heap.size + 1 → OW P n ops K rest (put? e dst (.slice (some ⟨w.heap.size, 0, none⟩) 1 1)) w') :
    OW P n ops K (⟨dst, .buildSlice T 1 #[(0, q)], ty, pos, after, g⟩ :: rest) e w :=
  ow_val hg hd (w' := w.alloc (.cells vs.toArray E)) (by
    have := run_buildSlice1 (P := P) (w := w) (vs := vs) (v := v) hT hE (Nat.eq_of_beq_eq_true hz) (by simpa [Nat.blt_eq] using hs0) (Nat.le_of_ble_eq_true hs1) hv (Nat.eq_of_beq_eq_true hl)
    simp [execOp, hq, this]) (k _ (Keep.alloc _ _ _) (Blk.alloc _ _ _) (by simp))

/-- append of new rows to a slice of one's own. -/
theorem ow_app {L : List Nat} {t E sz bytes : Nat} {z : Value} {v : Value} {gb : Option Nat} {rows new : List (List C)} {xs news : List Value} {b o m c : Nat} (hT : P.underlying t = some (.slice E)) (hE : TI P E sz bytes z) (hg : gate ops e g = true) (hd : okDst n dst = true) (hz : Nat.beq z.cells.size sz = true)
    (hx : ev e x = v) (hown : OwnR L w E sz v gb rows xs) (hy : ev e y = .slice (some ⟨b, o, none⟩) m c) (hm : new.length = m) (hm0 : 0 < m) (hrow : ∀ row, row ∈ new → row.length = sz) (hc : CellsAt w b o news) (h1 : ∀ u ∈ news, u.oneCell' = true)
    (hr : RepL (gb.toList ++ L) w news new.flatten) (hL : ∀ x, x ∈ L → x < w.heap.size) (hb : (rows.length + m) * (bytes + 1) ≤ 140737488355328)
    (k : ∀ a' cap' g' w', OwnR L w' E sz (.slice a' (rows.length + m) cap') g' (rows ++ new) (xs ++ news) → Keep gb.toList w w' → (g' = gb ∨ g' = some w.heap.size) → OW P n ops K rest (put? e dst (.slice a' (rows.length + m) cap')) w') :
    OW P n ops K (⟨dst, .call { callee := .builtin .append, args := #[x, y], argTypes := #[t, t] }, ty, pos, after, g⟩ :: rest) e w := by
  obtain ⟨i, hi, hz', hsz, hby⟩ := hE.get
  obtain ⟨v', g', w', hrun, hown', hk, hg'⟩ := OwnR.app (P := P) (ty := ty) hT hi hz' hsz hby (Nat.eq_of_beq_eq_true hz) hown b o m c new news hm hm0 hrow hc h1 hr hL hb
  obtain ⟨a', cap', he⟩ := hown'.len
  rw [List.length_append, hm] at he
  subst he
  exact ow_val hg hd (w' := w') (by
    simp only [execOp, resolve, invoke, builtin, Sem.run_bind, Sem.run_pure, Result.andThen_ok, List.map_toArray, List.map_cons, List.map_nil, hx, hy, hrun]) (k a' cap' g' w' hown' hk hg')
end

theorem OwnR.sep {L : List Nat} {w : World} {T : TypeId} {sz : Nat} {v : Value} {g : Option Nat} {rows : List (List C)} {xs : List Value} (h : OwnR L w T sz v g rows xs) {b : Nat} (hb : b ∈ L) : b ∉ g.toList := by
  intro hx
  exact h.out b (by simpa using hx) hb
/-- One row. -/
theorem ow_app1 {P : Program} {n : Nat} {ops : Array Oper} {K : Env → World → Prop} {rest : List Oper} {e : Env} {w : World}
    {dst : Option Nat} {ty : TypeId} {pos : String} {after : Array Edge} {g : Option (Nat × Bool)} {x y : Operand}
    {L : List Nat} {t E sz bytes : Nat} {z : Value} {v : Value} {gb : Option Nat} {rows : List (List C)} {row : List C} {xs news : List Value} {b o c : Nat} (hT : P.underlying t = some (.slice E)) (hE : TI P E sz bytes z) (hg : gate ops e g = true) (hd : okDst n dst = true) (hz : Nat.beq z.cells.size sz = true)
    (hx : ev e x = v) (hy : ev e y = .slice (some ⟨b, o, none⟩) 1 c) (hown : OwnR L w E sz v gb rows xs) (hrow : row.length = sz) (hc : CellsAt w b o news) (h1 : ∀ u ∈ news, u.oneCell' = true)
    (hr : RepL (gb.toList ++ L) w news row) (hL : ∀ x, x ∈ L → x < w.heap.size) (hb : (rows.length + 1) * (bytes + 1) ≤ 140737488355328)
    (k : ∀ a' cap' g' w', OwnR L w' E sz (.slice a' (rows.length + 1) cap') g' (rows ++ [row]) (xs ++ news) → Keep gb.toList w w' → (g' = gb ∨ g' = some w.heap.size) → OW P n ops K rest (put? e dst (.slice a' (rows.length + 1) cap')) w') :
    OW P n ops K (⟨dst, .call { callee := .builtin .append, args := #[x, y], argTypes := #[t, t] }, ty, pos, after, g⟩ :: rest) e w :=
  ow_app (new := [row]) (m := 1) hT hE hg hd hz hx hown hy rfl (by decide) (by intro r h; simp at h; rw [h]; exact hrow) hc h1 (by simpa using hr) hL hb k
theorem RepL.allOne {L : List Nat} {w : World} : ∀ {vs : List Value} {cs : List C}, RepL L w vs cs → (∀ c, c ∈ cs → ∀ v, c = .val v → v.oneCell' = true) → ∀ u ∈ vs, u.oneCell' = true
  | [], [], _, _, u, hu => by simp at hu
  | v :: vs, c :: cs, h, hc, u, hu => by
    rcases List.mem_cons.1 hu with rfl | hu
    · cases h.1 with
      | val => exact hc _ (by simp) _ rfl
      | nil => rfl
      | sl => rfl
    · exact RepL.allOne h.2 (fun c hc' v hv => hc c (by simp [hc']) v hv) u hu
end Go.Proofs.YtnkjgoholocliaaGreatDoor

namespace Go.Proofs.YtnkjgoholocliaaGreatDoor
open Go

def resOne (P : Program) (e : Env) (w : World) : ResultVar → Value → Prop
  | .tmp t, v => e t = v
  | .cell t ty, v => resultAt P e t ty v w
def resVals (P : Program) (e : Env) (w : World) : List ResultVar → List Value → Prop
  | [], [] => True
  | [r], [v] => resOne P e w r v
  | r :: rs, v :: vs => resOne P e w r v ∧ resVals P e w rs vs
  | _, _ => False
def resPack : List Value → Value
  | [v] => v
  | vs => .tuple vs.toArray

def resF (tmps : Array Value) : ResultVar → Sem Value
  | .tmp t => pure (tmps.getD t undef)
  | .cell a t => do loadVar t (← asAddr (tmps.getD a undef))
theorem results_eq (fn : Func) (tmps : Array Value) : results fn tmps = (do let vs ← fn.results.mapM (resF tmps); pure (if h : vs.size = 1 then vs[0] else .tuple vs)) := rfl
theorem run_resOne {P : Program} {e : Env} {w : World} {tmps : Array Value} (hg : ∀ t, tmps.getD t undef = e t) {r : ResultVar} {v : Value} (h : resOne P e w r v) : (resF tmps r).run P w = .ok v w := by
  cases r with
  | tmp t => simp only [resOne] at h; simp only [resF, hg, h]; rfl
  | cell t ty =>
    obtain ⟨a, ha, hl⟩ := h
    simp only [resF, hg, ha, asAddr, Sem.run_bind, Sem.run_pure, Result.andThen_ok, hl]

theorem results_gen {fn : Func} {rs : List ResultVar} (hr : fn.results = rs.toArray) {tmps : Array Value} {e : Env} (hg : ∀ t, tmps.getD t undef = e t) {vs : List Value} {P : Program} {w : World} (h : resVals P e w rs vs) (hl : rs.length ≤ 4) :
    (results fn tmps).run P w = .ok (resPack vs) w := by
  match rs, vs, h with
  | [], [], _ => simp [results_eq, hr, resPack]
  | [r], [v], h =>
    have h1 := run_resOne (tmps := tmps) hg (show resOne P e w r v from h)
    simp [results_eq, hr, resPack, h1]
  | [r, r2], [v, v2], h =>
    have h1 := run_resOne (tmps := tmps) hg h.1
    have h2 := run_resOne (tmps := tmps) hg (show resOne P e w r2 v2 from h.2)
    simp [results_eq, hr, resPack, h1, h2]
  | [r, r2, r3], [v, v2, v3], h =>
    have h1 := run_resOne (tmps := tmps) hg h.1
    have h2 := run_resOne (tmps := tmps) hg h.2.1
    have h3 := run_resOne (tmps := tmps) hg (show resOne P e w r3 v3 from h.2.2)
    simp [results_eq, hr, resPack, h1, h2, h3]
  | [r, r2, r3, r4], [v, v2, v3, v4], h =>
    have h1 := run_resOne (tmps := tmps) hg h.1
    have h2 := run_resOne (tmps := tmps) hg h.2.1
    have h3 := run_resOne (tmps := tmps) hg h.2.2.1
    have h4 := run_resOne (tmps := tmps) hg (show resOne P e w r4 v4 from h.2.2.2)
    simp [results_eq, hr, resPack, h1, h2, h3, h4]
  | _ :: _ :: _ :: _ :: _ :: _, _, _ => simp at hl

/-- A function is proved by a walk through its body. -/
theorem ret_gen {P : Program} {f : FuncId} {fn : Func} {c : Code} {args : List Value} {w : World} {S : Value → World → Prop} (rs : List ResultVar) (n : Nat)
    (hf : P.funcs[f]? = some fn) (hb : fn.body = some c) (hn : (fn.name == "runtime.NumGoroutine") = false) (hr : fn.results = rs.toArray) (hsz : args.length + (fn.ntmps - args.length) = n) (hl : Nat.ble rs.length 4 = true)
    (h : CW P n c (fun e w' => ∃ vs, resVals P e w' rs vs ∧ S (resPack vs) w') (fun e w' => ∃ vs, resVals P e w' rs vs ∧ S (resPack vs) w') (fun _ _ _ => False) (start args) w) : Ret P f args w S := by
  refine ⟨⟨fn, hf, by rw [hb]; rfl, hn⟩, calls_of_wp hf hb (wp_mono (h _ ?_) fun x a w' hq => ?_)⟩
  · rw [← hsz]; simpa using fits_start args (fn.ntmps - args.length)
  · cases x <;> simp only [exits] at hq
    · obtain ⟨e, hfit, vs, hv, hs⟩ := hq
      exact bodyPost_end (results_gen hr hfit.get hv (Nat.le_of_ble_eq_true hl)) hfit.defers ⟨_, rfl, hs⟩
    · obtain ⟨e, hfit, hs⟩ := hq; exact hs.elim
    · obtain ⟨e, hfit, vs, hv, hs⟩ := hq
      exact bodyPost_ret (results_gen hr hfit.get hv (Nat.le_of_ble_eq_true hl)) hfit.defers ⟨_, rfl, hs⟩
end Go.Proofs.YtnkjgoholocliaaGreatDoor

namespace Go.Proofs.YtnkjgoholocliaaGreatDoor
open Go
section
variable {P : Program} {n : Nat} {ops : Array Oper} {K : Env → World → Prop} {rest : List Oper} {e : Env} {w : World}
  {dst : Option Nat} {ty : TypeId} {pos : String} {after : Array Edge} {g : Option (Nat × Bool)}

theorem ow_min {at_ : Array TypeId} {x y : Operand} {i j z : Int} {k : IntKind} (hg : gate ops e g = true) (hd : okDst n dst = true) (hx : ev e x = .int k i) (hy : ev e y = .int k j) (hz : (if j < i then j else i) = z)
    (kk : OW P n ops K rest (put? e dst (.int k z)) w) : OW P n ops K (⟨dst, .call { callee := .builtin .min, args := #[x, y], argTypes := at_ }, ty, pos, after, g⟩ :: rest) e w :=
  ow_val hg hd (by
    simp [execOp, resolve, invoke, builtin, hx, hy, Builtin.min_, Builtin.min2, hz]) kk
theorem ow_min3 {at_ : Array TypeId} {x y y2 : Operand} {i j j2 z : Int} {k : IntKind} (hg : gate ops e g = true) (hd : okDst n dst = true) (hx : ev e x = .int k i) (hy : ev e y = .int k j) (hy2 : ev e y2 = .int k j2) (hz : (if j2 < (if j < i then j else i) then j2 else (if j < i then j else i)) = z)
    (kk : OW P n ops K rest (put? e dst (.int k z)) w) : OW P n ops K (⟨dst, .call { callee := .builtin .min, args := #[x, y, y2], argTypes := at_ }, ty, pos, after, g⟩ :: rest) e w :=
  ow_val hg hd (by
    simp [execOp, resolve, invoke, builtin, hx, hy, hy2, Builtin.min_, Builtin.min2, hz]) kk
theorem ow_max {at_ : Array TypeId} {x y : Operand} {i j z : Int} {k : IntKind} (hg : gate ops e g = true) (hd : okDst n dst = true) (hx : ev e x = .int k i) (hy : ev e y = .int k j) (hz : (if i < j then j else i) = z)
    (kk : OW P n ops K rest (put? e dst (.int k z)) w) : OW P n ops K (⟨dst, .call { callee := .builtin .max, args := #[x, y], argTypes := at_ }, ty, pos, after, g⟩ :: rest) e w :=
  ow_val hg hd (by
    simp [execOp, resolve, invoke, builtin, hx, hy, Builtin.max_, Builtin.max2, hz]) kk
theorem ow_makeFunc {fn : Fn} {xs : List Operand} {vs : List Value} (hg : gate ops e g = true) (hd : okDst n dst = true) (hv : xs.map (ev e) = vs)
    (kk : OW P n ops K rest (put? e dst (.func fn #[] vs.toArray)) w) : OW P n ops K (⟨dst, .makeFunc fn #[] xs.toArray, ty, pos, after, g⟩ :: rest) e w :=
  ow_val hg hd (by subst hv; simp [execOp, Instr.makeFunc]) kk
/-- A call of a function value: what it has captured stands behind the arguments. -/
theorem ow_callv {c : Operand} {f : FuncId} {caps : List Value} {xs : List Operand} {ats : Array TypeId} {S : Value → World → Prop} (hg : gate ops e g = true) (hd : okDst n dst = true) (hc : ev e c = .func (.func f) #[] caps.toArray) (h : Ret P f (xs.map (ev e) ++ caps) w S)
    (k : ∀ v w', S v w' → OW P n ops K rest (put? e dst v) w') : OW P n ops K (⟨dst, .call { callee := .value c, args := xs.toArray, argTypes := ats }, ty, pos, after, g⟩ :: rest) e w := fun a ha Q => by
  unfold wpList
  rw [if_pos (by rw [gate_ok ha]; exact hg)]
  refine .inl ?_
  unfold Oper.wp
  have hrun : (execOp (ev e) ⟨dst, .call { callee := .value c, args := xs.toArray, argTypes := ats }, ty, pos, after, g⟩).run P w = .ok (.enter f (xs.map (ev e) ++ caps).toArray) w := by
    simp only [execOp, resolve, hc, Deferred.ofValue, Sem.run_bind, Sem.run_pure, Result.andThen_ok, invoke]
    simp [run_call h.1]
  rw [ha.eval, hrun, Oper.upon_enter]
  exact Calls.mono h.2 fun x w' ⟨v, hx, hs⟩ => by subst hx; exact k v w' hs _ (ha.put? hd v) Q
end
end Go.Proofs.YtnkjgoholocliaaGreatDoor

namespace Go.Proofs.YtnkjgoholocliaaGreatDoor
open Go

def strsC (xs : List Bytes) : List (List C) := xs.map fun x => [.val (str x)]
theorem strsC_length (xs : List Bytes) : (strsC xs).length = xs.length := by simp [strsC]
theorem strsC_get {xs : List Bytes} {i : Nat} {x : Bytes} (h : xs[i]? = some x) : (strsC xs)[i]? = some [.val (str x)] := by simp [strsC, h]
def RStrs (L : List Nat) (w : World) (v : Value) (xs : List Bytes) : Prop := Rep L w v (.sl 1 (strsC xs))
theorem RStrs.ext {L : List Nat} {w w' : World} {v : Value} {xs : List Bytes} (h : RStrs L w v xs) (k : Keep [] w w') : RStrs L w' v xs := Rep.ext h k
theorem RStrs.sto {L L' : List Nat} {w w' : World} {v : Value} {xs : List Bytes} (h : RStrs L w v xs) (k : Keep L' w w') (hL : ∀ x, x ∈ L' → x ∈ L) : RStrs L w' v xs := Rep.keep h (k.mono hL)
theorem rstrs_nil {L : List Nat} {w : World} : RStrs L w (.slice none 0 0) [] := .nil _ _ _
theorem rstrs_cases {L : List Nat} {w : World} {v : Value} {xs : List Bytes} (h : RStrs L w v xs) : ∃ a n c, v = .slice a n c ∧ n = xs.length := by
  obtain ⟨a, c, rfl, _⟩ := rep_len h
  exact ⟨a, _, c, rfl, strsC_length xs⟩
theorem repL_one {L : List Nat} {w : World} {vs : List Value} {x : Bytes} (h : RepL L w vs [.val (str x)]) : vs = [str x] := by
  match vs, h with
  | [v], h => obtain ⟨h1, _⟩ := h; cases h1; rfl
  | [], h => exact h.elim
  | _ :: _ :: _, h => exact h.2.elim
theorem rstrs_get {L : List Nat} {w : World} {a : Option Addr} {n c i : Nat} {xs : List Bytes} {x : Bytes} (h : RStrs L w (.slice a n c) xs) (hi : xs[i]? = some x) :
    ∃ b off, a = some ⟨b, off, none⟩ ∧ CellsAt w b (off + i * 1) [str x] := by
  obtain ⟨b, off, vs, ha, hb, hL, hl, hc, hr⟩ := rep_get h (strsC_get hi)
  rw [repL_one hr] at hc
  exact ⟨b, off, ha, hc⟩
abbrev sth (xs : List Bytes) (i : Nat) : Bytes := xs.getD i []
theorem sth_get {xs : List Bytes} {i : Nat} (h : i < xs.length) : xs[i]? = some (sth xs i) := by
  simp [List.getElem?_eq_getElem h]
/-- A block of a program. -/
structure Bk where
  label : Bytes
  needs : List Bytes
  code : List Bytes
def Bk.enc (b : Bk) : List C := [.val (str b.label), .sl 1 (strsC b.needs), .sl 1 (strsC b.code)]
def RBk (L : List Nat) (w : World) (v : Value) (b : Bk) : Prop := RepA L w v b.enc
theorem RBk.ext {L : List Nat} {w w' : World} {v : Value} {b : Bk} (h : RBk L w v b) (k : Keep [] w w') : RBk L w' v b := RepA.ext h k
theorem repL_bk {L : List Nat} {w : World} {vs : List Value} {b : Bk} (h : RepL L w vs b.enc) : ∃ v1 v2, vs = [str b.label, v1, v2] ∧ RStrs L w v1 b.needs ∧ RStrs L w v2 b.code := by
  rw [Bk.enc] at h
  match vs, h with
  | [v0, v1, v2], h => obtain ⟨h0, h1, h2, _⟩ := h; cases h0; exact ⟨v1, v2, rfl, h1, h2⟩
  | [], h => exact h.elim
  | [_], h => exact h.2.elim
  | [_, _], h => exact h.2.2.elim
  | _ :: _ :: _ :: _ :: _, h => exact h.2.2.2.elim
theorem rbk_cases {L : List Nat} {w : World} {v : Value} {b : Bk} (h : RBk L w v b) : ∃ a1 n1 c1 a2 n2 c2, v = .agg #[str b.label, .slice a1 n1 c1, .slice a2 n2 c2] ∧
    n1 = b.needs.length ∧ n2 = b.code.length ∧ RStrs L w (.slice a1 n1 c1) b.needs ∧ RStrs L w (.slice a2 n2 c2) b.code := by
  obtain ⟨vs, rfl, hr⟩ := h
  obtain ⟨v1, v2, rfl, h1, h2⟩ := repL_bk hr
  obtain ⟨a1, n1, c1, rfl, hn1⟩ := rstrs_cases h1
  obtain ⟨a2, n2, c2, rfl, hn2⟩ := rstrs_cases h2
  exact ⟨a1, n1, c1, a2, n2, c2, rfl, hn1, hn2, h1, h2⟩
theorem rbk_of {L : List Nat} {w : World} {b : Bk} {v1 v2 : Value} (h1 : RStrs L w v1 b.needs) (h2 : RStrs L w v2 b.code) : RBk L w (.agg #[str b.label, v1, v2]) b :=
  ⟨[str b.label, v1, v2], rfl, .val _, h1, h2, trivial⟩
def RBks (L : List Nat) (w : World) (v : Value) (bs : List Bk) : Prop := Rep L w v (.sl 3 (bs.map Bk.enc))
theorem RBks.ext {L : List Nat} {w w' : World} {v : Value} {bs : List Bk} (h : RBks L w v bs) (k : Keep [] w w') : RBks L w' v bs := Rep.ext h k
theorem rbks_cases {L : List Nat} {w : World} {v : Value} {bs : List Bk} (h : RBks L w v bs) : ∃ a n c, v = .slice a n c ∧ n = bs.length := by
  obtain ⟨a, c, rfl, _⟩ := rep_len h
  exact ⟨a, _, c, rfl, by simp⟩
theorem rbks_get {L : List Nat} {w : World} {a : Option Addr} {n c i : Nat} {bs : List Bk} {k : Bk} (h : RBks L w (.slice a n c) bs) (hi : bs[i]? = some k) :
    ∃ b off a1 n1 c1 a2 n2 c2, a = some ⟨b, off, none⟩ ∧ CellsAt w b (off + i * 3) [str k.label, .slice a1 n1 c1, .slice a2 n2 c2] ∧
      n1 = k.needs.length ∧ n2 = k.code.length ∧ RStrs L w (.slice a1 n1 c1) k.needs ∧ RStrs L w (.slice a2 n2 c2) k.code := by
  obtain ⟨b, off, vs, ha, hb, hL, hl, hc, hr⟩ := rep_get h (show (bs.map Bk.enc)[i]? = some k.enc by simp [hi])
  obtain ⟨v1, v2, rfl, h1, h2⟩ := repL_bk hr
  obtain ⟨a1, n1, c1, rfl, hn1⟩ := rstrs_cases h1
  obtain ⟨a2, n2, c2, rfl, hn2⟩ := rstrs_cases h2
  exact ⟨b, off, a1, n1, c1, a2, n2, c2, ha, hc, hn1, hn2, h1, h2⟩

/-- Facts of memory under a condition. -/
def IfCells (p : Prop) (w : World) (b off : Nat) (vs : List Value) : Prop := p → CellsAt w b off vs
theorem IfCells.ext {p : Prop} {w w' : World} {b off : Nat} {vs : List Value} (h : IfCells p w b off vs) (k : Keep [] w w') : IfCells p w' b off vs := fun hp => (h hp).ext k
def IfTrees (p : Prop) (L : List Nat) (w : World) (v : Value) (ts : List Tree) : Prop := p → RTrees L w v ts
theorem IfTrees.ext {p : Prop} {L : List Nat} {w w' : World} {v : Value} {ts : List Tree} (h : IfTrees p L w v ts) (k : Keep [] w w') : IfTrees p L w' v ts := fun hp => (h hp).ext k
end Go.Proofs.YtnkjgoholocliaaGreatDoor

namespace Go.Proofs.YtnkjgoholocliaaGreatDoor

def nob : Bk := ⟨[], [], []⟩
abbrev bth (bs : List Bk) (i : Nat) : Bk := bs.getD i nob
theorem bth_get {bs : List Bk} {i : Nat} (h : i < bs.length) : bs[i]? = some (bth bs i) := by
  simp [List.getElem?_eq_getElem h]
def findZ (bs : List Bk) (l : Bytes) : Int := match bs.findIdx? (fun b => decide (b.label = l)) with
  | some i => (i : Int)
  | none => -1
theorem findZ_at {bs : List Bk} {l : Bytes} {k : Nat} (hk : k < bs.length) (h : ∀ i, i < k → (bth bs i).label ≠ l) (hl : (bth bs k).label = l) : findZ bs l = (k : Int) := by
  have : bs.findIdx? (fun b => decide (b.label = l)) = some k := by
    rw [List.findIdx?_eq_some_iff_getElem]
    refine ⟨hk, by simpa [List.getElem?_eq_getElem hk] using hl, fun j hj => ?_⟩
    have := h j hj
    simpa [List.getElem?_eq_getElem (Nat.lt_trans hj hk)] using this
  unfold findZ; rw [this]
theorem findZ_no {bs : List Bk} {l : Bytes} (h : ∀ i, i < bs.length → (bth bs i).label ≠ l) : findZ bs l = -1 := by
  have : bs.findIdx? (fun b => decide (b.label = l)) = none := by
    rw [List.findIdx?_eq_none_iff]
    intro b hb
    obtain ⟨i, hi, rfl⟩ := List.getElem_of_mem hb
    have := h i hi
    simpa [List.getElem?_eq_getElem hi] using this
  unfold findZ; rw [this]
/-- One line of a block: an instruction, that goes away where it is the last one. -/
def lineB (code : List Bytes) (i : Nat) : Bool := instrS (sth code i) && (lastS (sth code i) == decide (i + 1 = code.length))
def blockB (b : Bk) : Bool := isLabel b.label && decide (b.needs.length ≤ 40) && (decide (1 ≤ b.code.length) && decide (b.code.length ≤ 80)) &&
  decide (∀ i, i < b.needs.length → targetS (sth b.needs i) = true) && decide (∀ i, i < b.code.length → lineB b.code i = true)
def progB (bs : List Bk) : Bool := decide (∀ i, i < bs.length → blockB (bth bs i) = true ∧ findZ bs (bth bs i).label = i) &&
  (decide (1 ≤ bs.length) && decide (bs.length ≤ 40) && decide ((bth bs 0).label = [109, 97, 105, 110]) && decide ((bth bs 0).needs.length = 0))
theorem blockB_head {b : Bk} (h : (isLabel b.label && decide (b.needs.length ≤ 40) && (decide (1 ≤ b.code.length) && decide (b.code.length ≤ 80))) = false) : blockB b = false := by
  unfold blockB; rw [h]; rfl
theorem blockB_need {b : Bk} {i : Nat} (hi : i < b.needs.length) (h : targetS (sth b.needs i) = false) : blockB b = false := by
  unfold blockB
  rw [decide_eq_false (p := ∀ i, i < b.needs.length → _) (fun hh => by have := hh i hi; rw [h] at this; cases this)]
  simp
theorem blockB_line {b : Bk} {i : Nat} (hi : i < b.code.length) (h : lineB b.code i = false) : blockB b = false := by
  unfold blockB
  rw [decide_eq_false (p := ∀ i, i < b.code.length → _) (fun hh => by have := hh i hi; rw [h] at this; cases this)]
  simp
theorem blockB_yes {b : Bk} (h : (isLabel b.label && decide (b.needs.length ≤ 40) && (decide (1 ≤ b.code.length) && decide (b.code.length ≤ 80))) = true) (h1 : ∀ i, i < b.needs.length → targetS (sth b.needs i) = true)
    (h2 : ∀ i, i < b.code.length → lineB b.code i = true) : blockB b = true := by
  unfold blockB; rw [h, decide_eq_true h1, decide_eq_true h2]; rfl
theorem progB_block {bs : List Bk} {i : Nat} (hi : i < bs.length) (h : ¬ (blockB (bth bs i) = true ∧ findZ bs (bth bs i).label = i)) : progB bs = false := by
  unfold progB
  rw [decide_eq_false (p := ∀ i : Nat, i < bs.length → blockB (bth bs i) = true ∧ findZ bs (bth bs i).label = i) (fun hh => h (hh i hi))]
  rfl
theorem progB_all {bs : List Bk} (h : ∀ i, i < bs.length → blockB (bth bs i) = true ∧ findZ bs (bth bs i).label = i) :
    progB bs = (decide (1 ≤ bs.length) && decide (bs.length ≤ 40) && decide ((bth bs 0).label = [109, 97, 105, 110]) && decide ((bth bs 0).needs.length = 0)) := by
  unfold progB; rw [decide_eq_true h]; rfl
theorem blockB_z {b : Bk} {n1 n2 : Nat} (h1 : n1 = b.needs.length) (h2 : n2 = b.code.length) : (!isLabel b.label || decide ((40 : Int) < n1) || !(decide ((1 : Int) ≤ n2) && decide ((n2 : Int) ≤ 80))) =
    !(isLabel b.label && decide (b.needs.length ≤ 40) && (decide (1 ≤ b.code.length) && decide (b.code.length ≤ 80))) := by
  subst h1 h2
  rw [show decide ((40 : Int) < (b.needs.length : Nat)) = !decide (b.needs.length ≤ 40) from by rw [← decide_not]; exact decide_eq_decide.2 (by omega),
    show decide ((1 : Int) ≤ (b.code.length : Nat)) = decide (1 ≤ b.code.length) from decide_eq_decide.2 (by omega), show decide (((b.code.length : Nat) : Int) ≤ 80) = decide (b.code.length ≤ 80) from decide_eq_decide.2 (by omega)]
  simp only [Bool.not_and]
theorem lineB_z {code : List Bytes} {i n : Nat} (hn : n = code.length) (hi : i < n) : (!instrS (sth code i) || (lastS (sth code i) != decide ((i : Int) = (n : Int) - 1))) = !lineB code i := by
  subst hn
  unfold lineB
  rw [show decide ((i : Int) = ((code.length : Nat) : Int) - 1) = decide (i + 1 = code.length) from decide_eq_decide.2 (by omega), Bool.not_and]
  rfl
def Bk.small (b : Bk) : Prop := b.label.length < 1000000000 ∧ b.needs.length < 1000000000 ∧ b.code.length < 1000000000
def Smalls (bs : List Bk) : Prop := bs.length < 1000000000 ∧ ∀ i, i < bs.length → (bth bs i).small
theorem progB_z {bs : List Bk} {n n1 : Nat} (hn : n = bs.length) (hn1 : 0 < bs.length → n1 = (bth bs 0).needs.length) :
    ((decide ((1 : Int) ≤ n) && decide ((n : Int) ≤ 40)) && decide ((bth bs 0).label = [109, 97, 105, 110]) && decide ((n1 : Int) = 0)) = (decide (1 ≤ bs.length) && decide (bs.length ≤ 40) && decide ((bth bs 0).label = [109, 97, 105, 110]) && decide ((bth bs 0).needs.length = 0)) := by
  subst hn
  rw [show decide ((1 : Int) ≤ (bs.length : Nat)) = decide (1 ≤ bs.length) from decide_eq_decide.2 (by omega), show decide (((bs.length : Nat) : Int) ≤ 40) = decide (bs.length ≤ 40) from decide_eq_decide.2 (by omega)]
  by_cases h : 0 < bs.length
  · rw [hn1 h, show decide (((bth bs 0).needs.length : Int) = 0) = decide ((bth bs 0).needs.length = 0) from decide_eq_decide.2 (by omega)]
  · rw [decide_eq_false (p := 1 ≤ bs.length) (by omega)]; simp
end Go.Proofs.YtnkjgoholocliaaGreatDoor
