/-
  Lemmas for the law of ProgramLoad, no statement of their own: a logic over the kit's semantics, no conditions.
-/
import Derived.Calls
import Derived.Tactics
import Derived.Orders
import Derived.Laws.AppendOwn
import Derived.Below
import Derived.Laws.Strings
import Derived.Laws.Slices
import Derived.IntWalk
import Derived.Laws.Strings2
import Derived.Laws.Small
namespace Go.Proofs.YtnkjgoholocliaaGreatDoor
open Go

/-- The temporaries as a function. -/
abbrev Env := Nat → Value
def upd (e : Env) (d : Nat) (v : Value) : Env := fun t => bif Nat.beq t d then v else e t

theorem upd_same (e : Env) (d : Nat) (v : Value) : upd e d v d = v := by simp [upd, Nat.beq_refl]
theorem upd_ne (e : Env) {d t : Nat} (v : Value) (h : t ≠ d) : upd e d v t = e t := by
  have hb : Nat.beq t d = false := by
    cases hx : Nat.beq t d with
    | true => exact absurd (Nat.eq_of_beq_eq_true hx) h
    | false => rfl
  simp [upd, hb]

structure Fits (n : Nat) (e : Env) (a : Act) : Prop where
  defers : a.defers = []
  size : a.tmps.size = n
  get : ∀ t, a.tmps.getD t undef = e t

def ev (e : Env) : Operand → Value
  | .tmp t => e t
  | .const v => v
  | .global g => .pointer (some ⟨g, 0, none⟩)
  | .func f => .func (.func f) #[] #[]

theorem Fits.eval {n : Nat} {e : Env} {a : Act} (h : Fits n e a) : a.eval = ev e := by
  funext x
  cases x <;> simp [Act.eval, ev]
  rw [← h.get, Array.getD_eq_getD_getElem?]

theorem getD_set (xs : Array Value) (d t : Nat) (v u : Value) (hd : d < xs.size) : (xs.setIfInBounds d v).getD t u = if t = d then v else xs.getD t u := by
  simp only [Array.getD_eq_getD_getElem?, Array.getElem?_setIfInBounds]
  by_cases h : t = d
  · subst h; simp [hd]
  · have : ¬ d = t := fun e => h e.symm
    simp [h, this]

theorem Fits.put {n : Nat} {e : Env} {a : Act} (h : Fits n e a) {d : Nat} (hd : Nat.blt d n = true) (v : Value) : Fits n (upd e d v) (a.put (some d) v) := by
  have hd' : d < n := by simpa [Nat.blt_eq] using hd
  refine ⟨h.defers, by simp [Act.put, h.size], fun t => ?_⟩
  simp only [Act.put]
  rw [getD_set _ _ _ _ _ (by rw [h.size]; exact hd'), h.get]
  by_cases ht : t = d
  · subst ht; simp [upd_same]
  · rw [upd_ne _ _ ht, if_neg ht]

/-- Where a value is put that an operation yields: nowhere, or into a slot. -/
@[reducible] def put? (e : Env) : Option Nat → Value → Env
  | some d, v => upd e d v
  | none, _ => e
def okDst (n : Nat) : Option Nat → Bool
  | some d => Nat.blt d n
  | none => true
theorem Fits.put? {n : Nat} {e : Env} {a : Act} (h : Fits n e a) {d : Option Nat} (hd : okDst n d = true) (v : Value) : Fits n (put? e d v) (a.put d v) := by
  cases d with
  | none => exact h
  | some d => exact h.put hd v

/-- What is asked behind a region: it goes on. -/
def thenA (n : Nat) (K : Env → World → Prop) (Q : Exit → Act → World → Prop) : Exit → Act → World → Prop
  | .normal, a, w => ∃ e, Fits n e a ∧ K e w
  | x, a, w => Q x a w

/-- A list of operations, in this order; behind it K. -/
def OW (P : Program) (n : Nat) (ops : Array Oper) (K : Env → World → Prop) (l : List Oper) (e : Env) (w : World) : Prop :=
  ∀ a, Fits n e a → ∀ Q, wpList P ops (thenA n K Q) l a w

/-- The three ways out of a code: on ('N'), back ('R'), out of a block ('X'). -/
def exits (n : Nat) (N R : Env → World → Prop) (X : Nat → Env → World → Prop) : Exit → Act → World → Prop
  | .normal, a, w => ∃ e, Fits n e a ∧ N e w
  | .ret, a, w => ∃ e, Fits n e a ∧ R e w
  | .exit i, a, w => ∃ e, Fits n e a ∧ X i e w
  | _, _, _ => False

def CW (P : Program) (n : Nat) (c : Code) (N R : Env → World → Prop) (X : Nat → Env → World → Prop) (e : Env) (w : World) : Prop :=
  ∀ a, Fits n e a → c.wp P (exits n N R X) a w

section
variable {P : Program} {n : Nat} {N R : Env → World → Prop} {X : Nat → Env → World → Prop} {e : Env} {w : World}

theorem CW.mono {c : Code} {N' R' : Env → World → Prop} {X' : Nat → Env → World → Prop} (h : CW P n c N R X e w)
    (hN : ∀ e w, N e w → N' e w) (hR : ∀ e w, R e w → R' e w) (hX : ∀ i e w, X i e w → X' i e w) : CW P n c N' R' X' e w := fun a ha =>
  wp_mono (h a ha) fun x a w hq => by
    cases x <;> simp only [exits] at hq ⊢
    · obtain ⟨e, hf, hk⟩ := hq; exact ⟨e, hf, hN _ _ hk⟩
    · obtain ⟨e, hf, hk⟩ := hq; exact ⟨e, hf, hX _ _ _ hk⟩
    · obtain ⟨e, hf, hk⟩ := hq; exact ⟨e, hf, hR _ _ hk⟩

theorem cw_seq {x y : Code} (h : CW P n x (fun e w => CW P n y N R X e w) R X e w) : CW P n (x.seq y) N R X e w := fun a ha =>
  wp_seq (wp_mono (h a ha) fun ex a w hq => by
    cases ex <;> simp only [exits] at hq <;> simp only [Exit.then] <;> first | exact hq | skip
    obtain ⟨e, hf, hk⟩ := hq
    exact hk a hf)

theorem cw_skip (h : N e w) : CW P n .skip N R X e w := fun _ ha => wp_skip ⟨e, ha, h⟩
theorem cw_ret (h : R e w) : CW P n .ret N R X e w := fun _ ha => wp_ret ⟨e, ha, h⟩
theorem cw_exit {i : Nat} (h : X i e w) : CW P n (.exit i) N R X e w := fun _ ha => wp_exit ⟨e, ha, h⟩

theorem cw_block {i : Nat} {c : Code} (h : CW P n c N R (fun j e w => bif Nat.beq j i then N e w else X j e w) e w) : CW P n (.block i c) N R X e w := fun a ha =>
  wp_block (wp_mono (h a ha) fun ex a w hq => by
    cases ex <;> simp only [exits] at hq <;> simp only [Exit.inBlock] <;> first | exact hq | skip
    rename_i j
    obtain ⟨e, hf, hk⟩ := hq
    by_cases hj : j = i
    · subst hj
      simp only [if_true, exits]
      rw [Nat.beq_refl] at hk
      exact ⟨e, hf, hk⟩
    · have hb : Nat.beq j i = false := by
        cases hx : Nat.beq j i with
        | true => exact absurd (Nat.eq_of_beq_eq_true hx) hj
        | false => rfl
      rw [hb] at hk
      simp only [hj, if_false, exits]
      exact ⟨e, hf, hk⟩)
theorem x_hit {j i : Nat} {A B : Prop} (h : Nat.beq j i = true) (k : A) : (bif Nat.beq j i then A else B) := by rw [h]; exact k
theorem cw_cond {c : Operand} {x y : Code} {t : Bool} (hc : ev e c = .bool t) (hx : t = true → CW P n x N R X e w) (hy : t = false → CW P n y N R X e w) :
    CW P n (.cond c x y) N R X e w := fun a ha =>
  wp_cond_split (t := t) (by rw [ha.eval]; exact hc) (fun h => hx h a ha) (fun h => hy h a ha)
theorem cw_region {id : Nat} {l : List Oper} (h : OW P n l.toArray N l e w) : CW P n (.region id l.toArray false) N R X e w := fun a ha =>
  wp_mono (wp_region_lit (h a ha (fun _ _ _ => False))) fun ex a w hq => by
    cases ex <;> simp only [thenA] at hq <;> simp only [exits] <;> exact hq

/-- Slots with their values. -/
def Holds : List (Nat × Value) → Env → Prop
  | [], _ => True
  | [p], e => e p.1 = p.2
  | p :: r, e => e p.1 = p.2 ∧ Holds r e
def over (e : Env) : List (Nat × Value) → Env
  | [] => e
  | p :: r => upd (over e r) p.1 p.2
theorem holds_cons {p : Nat × Value} {r : List (Nat × Value)} (h : Holds (p :: r) e) : e p.1 = p.2 ∧ Holds r e := by
  cases r with
  | nil => exact ⟨h, trivial⟩
  | cons q r => exact h
theorem over_of_holds : ∀ {l : List (Nat × Value)}, Holds l e → over e l = e
  | [], _ => rfl
  | p :: r, h => by
    obtain ⟨h1, h2⟩ := holds_cons h
    simp only [over, over_of_holds h2]
    funext t
    by_cases ht : t = p.1
    · subst ht; rw [upd_same, h1]
    · rw [upd_ne _ _ ht]

/-- A loop: a ghost g tells the slots of a list and what holds of the world; a measure falls. -/
theorem cw_loop {c : Code} {G : Type} (L : G → List (Nat × Value)) (I : G → World → Prop) (μ : G → Nat) (g0 : G) (h0 : Holds (L g0) e) (hI : I g0 w)
    (round : ∀ g w e0, I g w → CW P n c (fun e' w' => ∃ g', Holds (L g') e' ∧ I g' w' ∧ μ g' < μ g) R X (over e0 (L g)) w) :
    CW P n (.loop c) N R X e w := by
  intro a ha b k cs
  have key : ∀ m (g : G) (e : Env) (a : Act) (w : World), μ g = m → Fits n e a → Holds (L g) e → I g w →
      ∃ x a' w', exits n N R X x a' w' ∧ Arrives P (lone (b.at a (.code c :: .inLoop c :: k)) cs w) b k cs x a' w' := by
    intro m
    induction m using Nat.strongRecOn with
    | _ m ih =>
      intro g e a w hm hf hh hi
      have hr := round g w e hi
      rw [over_of_holds hh] at hr
      obtain ⟨x, a₁, w₁, hq, harr⟩ := hr a hf b (.inLoop c :: k) cs
      cases x with
      | normal =>
        obtain ⟨e₁, hf₁, g', hh', hi', hlt⟩ := hq
        obtain ⟨x₂, a₂, w₂, hq₂, harr₂⟩ := ih (μ g') (hm ▸ hlt) g' e₁ a₁ w₁ rfl hf₁ hh' hi'
        exact ⟨x₂, a₂, w₂, hq₂, .of_steps (Steps.trans harr (.one step_inLoop)) harr₂⟩
      | exit id => exact ⟨_, a₁, w₁, by simpa only [exits] using hq, .pass (x := .inLoop c) rfl (fun _ _ => .inl (by simp)) harr⟩
      | goto l => simp [exits] at hq
      | ret => exact ⟨_, a₁, w₁, by simpa only [exits] using hq, .pass (x := .inLoop c) rfl (fun _ _ => .inl (by simp)) harr⟩
      | panic ch => simp [exits] at hq
      | outgrown => simp [exits] at hq
  obtain ⟨x, a', w', hq, harr⟩ := key _ g0 e a w rfl ha h0 hI
  exact ⟨x, a', w', hq, .of_steps (.one step_loop) harr⟩

/-- The ways through a code meet again: what is known is a ghost with slots and the world. -/
theorem cw_cut {c : Code} {G : Type} (L : G → List (Nat × Value)) (I : G → World → Prop)
    (h : CW P n c (fun e' w' => ∃ g, Holds (L g) e' ∧ I g w') R X e w) (k : ∀ g w' e0, I g w' → N (over e0 (L g)) w') : CW P n c N R X e w :=
  h.mono (fun e' w' ⟨g, hh, hi⟩ => by have := k g w' e' hi; rwa [over_of_holds hh] at this) (fun _ _ h => h) (fun _ _ _ h => h)
end

/-! ### A function -/
/-- Function f can be called: it has a body, and it is none of the model's own. -/
def Callable (P : Program) (f : FuncId) : Prop := ∃ fn, P.funcs[f]? = some fn ∧ fn.body.isNone = false ∧ (fn.name == "runtime.NumGoroutine") = false
theorem Callable.mk' {P : Program} {f : FuncId} {fn : Func} (h : P.funcs[f]? = some fn) (hb : fn.body.isNone = false) (hn : (fn.name == "runtime.NumGoroutine") = false) : Callable P f := ⟨fn, h, hb, hn⟩

/-- The call returns, with a value and a world of which S holds. -/
def Ret (P : Program) (f : FuncId) (args : List Value) (w : World) (S : Value → World → Prop) : Prop :=
  Callable P f ∧ Calls P f args.toArray w fun e w' => ∃ v, e = .returned v ∧ S v w'
/-- What a function hands back, by its list of results. -/
def resultOf (e : Env) : List ResultVar → Option Value
  | [.tmp t] => some (e t)
  | [.tmp t, .tmp u] => some (.tuple #[e t, e u])
  | [.tmp t, .tmp u, .tmp x] => some (.tuple #[e t, e u, e x])
  | [] => some (.tuple #[])
  | _ => none

theorem results_of {fn : Func} {rs : List ResultVar} (hr : fn.results = rs.toArray) {tmps : Array Value} {e : Env} (hg : ∀ t, tmps.getD t undef = e t) {v : Value} (h : resultOf e rs = some v) (P : Program) (w : World) :
    (results fn tmps).run P w = .ok v w := by
  match rs, h with
  | [.tmp t], h => simp only [resultOf, Option.some.injEq] at h; subst h; rw [← hg]; exact results_tmp hr _ _ _
  | [.tmp t, .tmp u], h => simp only [resultOf, Option.some.injEq] at h; subst h; rw [← hg, ← hg]; exact results_tmp2 hr _ _ _
  | [.tmp t, .tmp u, .tmp x], h =>
    simp only [resultOf, Option.some.injEq] at h; subst h; rw [← hg, ← hg, ← hg]
    simp [results, hr]
  | [], h => simp only [resultOf, Option.some.injEq] at h; subst h; exact results_none hr _ _ _

/-- The slots at the start: the arguments, then nothing. -/
def start (args : List Value) : Env := fun t => args.getD t undef

theorem fits_start (args : List Value) (m : Nat) : Fits (args.length + m) (start args) { tmps := args.toArray ++ Array.replicate m undef, defers := [] } := by
  refine ⟨rfl, by simp, fun t => ?_⟩
  simp only [start, Array.getD_eq_getD_getElem?, List.getD_eq_getElem?_getD, Array.getElem?_append, List.size_toArray, List.getElem?_toArray]
  by_cases h : t < args.length
  · rw [if_pos h]
  · rw [if_neg h, List.getElem?_eq_none (by omega)]
    by_cases h2 : t - args.length < m <;> simp [h2]

/-- A function is proved by a walk through its body, whose results lie in temporaries. -/
theorem ret_of {P : Program} {f : FuncId} {fn : Func} {c : Code} {args : List Value} {w : World} {S : Value → World → Prop} (rs : List ResultVar) (n : Nat)
    (hf : P.funcs[f]? = some fn) (hb : fn.body = some c) (hn : (fn.name == "runtime.NumGoroutine") = false) (hr : fn.results = rs.toArray) (hsz : args.length + (fn.ntmps - args.length) = n)
    (h : CW P n c (fun e w' => ∃ v, resultOf e rs = some v ∧ S v w') (fun e w' => ∃ v, resultOf e rs = some v ∧ S v w') (fun _ _ _ => False) (start args) w) : Ret P f args w S := by
  refine ⟨⟨fn, hf, by rw [hb]; rfl, hn⟩, calls_of_wp hf hb (wp_mono (h _ ?_) fun x a w' hq => ?_)⟩
  · rw [← hsz]; simpa using fits_start args (fn.ntmps - args.length)
  · cases x <;> simp only [exits] at hq
    · obtain ⟨e, hfit, v, hv, hs⟩ := hq
      exact bodyPost_end (results_of hr hfit.get hv P w') hfit.defers ⟨v, rfl, hs⟩
    · obtain ⟨e, hfit, hs⟩ := hq; exact hs.elim
    · obtain ⟨e, hfit, v, hv, hs⟩ := hq
      exact bodyPost_ret (results_of hr hfit.get hv P w') hfit.defers ⟨v, rfl, hs⟩

/-- The result lies in memory: 'ResultVar.cell': the walk tells what the load gives. -/
def resultAt (P : Program) (e : Env) (t ty : Nat) (v : Value) (w : World) : Prop := ∃ a, e t = .pointer (some a) ∧ (loadVar ty a).run P w = .ok v w

end Go.Proofs.YtnkjgoholocliaaGreatDoor

namespace Go.Proofs.YtnkjgoholocliaaGreatDoor
open Go

/-- Blocks outside the list L are as they were; the streams, too. -/
structure Keep (L : List Nat) (w w' : World) : Prop where
  os : w'.os = w.os
  tape : w'.tape = w.tape
  output : w'.output = w.output
  size : w.heap.size ≤ w'.heap.size
  block : ∀ k, k < w.heap.size → k ∉ L → w'.heap[k]? = w.heap[k]?

theorem Keep.refl (L : List Nat) (w : World) : Keep L w w := ⟨rfl, rfl, rfl, Nat.le_refl _, fun _ _ _ => rfl⟩
theorem Keep.trans {L : List Nat} {a b c : World} (h : Keep L a b) (k : Keep L b c) : Keep L a c :=
  ⟨k.os.trans h.os, k.tape.trans h.tape, k.output.trans h.output, Nat.le_trans h.size k.size, fun i hi hl => (k.block i (Nat.lt_of_lt_of_le hi h.size) hl).trans (h.block i hi hl)⟩
theorem Keep.mono {L L' : List Nat} {a b : World} (h : Keep L a b) (hL : ∀ x, x ∈ L → x ∈ L') : Keep L' a b :=
  ⟨h.os, h.tape, h.output, h.size, fun k hk hl => h.block k hk (fun hx => hl (hL k hx))⟩
theorem Keep.any {L : List Nat} {a b : World} (h : Keep [] a b) : Keep L a b := h.mono (by simp)
theorem Keep.drew (L : List Nat) (w : World) : Keep L w { w with drawn := w.drawn + 1 } := ⟨rfl, rfl, rfl, Nat.le_refl _, fun _ _ _ => rfl⟩
theorem Keep.alloc (L : List Nat) (w : World) (o : Obj) : Keep L w (w.alloc o) := ⟨rfl, rfl, rfl, by simp, fun k hk _ => heap_alloc_old w o k hk⟩
/-- What was written lies from block B on: so old memory is as it was. -/
theorem Keep.below {L : List Nat} {a b : World} (h : Keep L a b) {B : Nat} (hB : B ≤ a.heap.size) (hL : ∀ x, x ∈ L → B ≤ x) : Go.RowKit.Below B a b :=
  ⟨h.os, h.tape, h.output, h.size, fun k hk => h.block k (by omega) (fun hx => by have := hL k hx; omega)⟩
/-- Seen from an elder world: blocks that are new since then do not count. -/
theorem Keep.since {L L' : List Nat} {a b c : World} (h : Keep L a b) (k : Keep L' b c) (hL : ∀ x, x ∈ L' → x ∈ L ∨ a.heap.size ≤ x) : Keep L a c :=
  ⟨k.os.trans h.os, k.tape.trans h.tape, k.output.trans h.output, Nat.le_trans h.size k.size, fun i hi hl =>
    (k.block i (Nat.lt_of_lt_of_le hi h.size) (fun hx => by rcases hL i hx with h1 | h1; exact hl h1; omega)).trans (h.block i hi hl)⟩
/-- Block b is a row of cells, known whole, not frozen. -/
def Blk (w : World) (b : Nat) (cs : Array Value) (T : TypeId) : Prop := w.heap[b]? = some (.cells cs T (0, 0))
theorem Blk.keep {w w' : World} {b : Nat} {cs : Array Value} {T : TypeId} {L : List Nat} (h : Blk w b cs T) (k : Keep L w w') (hb : b ∉ L) : Blk w' b cs T :=
  (k.block b (Array.getElem?_eq_some_iff.1 h).1 hb).trans h
theorem Blk.lt {w : World} {b : Nat} {cs : Array Value} {T : TypeId} (h : Blk w b cs T) : b < w.heap.size := (Array.getElem?_eq_some_iff.1 h).1
theorem Blk.cell {w : World} {b : Nat} {cs : Array Value} {T : TypeId} (h : Blk w b cs T) (i : Nat) : w.cell? ⟨b, i, none⟩ = cs[i]? := cell_of_row w b i cs T (0, 0) h
theorem Blk.frozen {w : World} {b : Nat} {cs : Array Value} {T : TypeId} (h : Blk w b cs T) (i : Nat) : w.frozen? ⟨b, i, none⟩ = false := by
  simp only [World.frozen?]; rw [show w.heap[b]? = _ from h]; simp
theorem Blk.alloc (w : World) (cs : Array Value) (T : TypeId) : Blk (w.alloc (.cells cs T)) w.heap.size cs T := heap_alloc_new w _
theorem Blk.set {w : World} {b : Nat} {cs : Array Value} {T : TypeId} (h : Blk w b cs T) (i : Nat) (v : Value) : Blk (w.setCell ⟨b, i, none⟩ v) b (cs.setIfInBounds i v) T := by
  unfold Blk at *
  simp only [World.setCell, Array.getElem?_modify, if_true, h]
  simp
theorem Keep.setCell (w : World) (b i : Nat) (v : Value) : Keep [b] w (w.setCell ⟨b, i, none⟩ v) :=
  ⟨rfl, rfl, rfl, by simp [World.setCell], fun k _ hl => Go.RowKit.Below.heap_setCell w _ v k (by simpa using hl)⟩

/-- Data: one cell's content. -/
inductive C where
  | val (v : Value)
  | sl (size : Nat) (rows : List (List C))

/-- The value reads as the data; what is read on the way lies outside the blocks of L. -/
inductive Rep (L : List Nat) (w : World) : Value → C → Prop
  | val (v : Value) : Rep L w v (.val v)
  | nil (a : Option Addr) (cap size : Nat) : Rep L w (.slice a 0 cap) (.sl size [])
  | sl (b off len cap size : Nat) (rows : List (List C)) (f : Nat → Nat → Value) (hl : rows.length = len) (hc : len ≤ cap) (hb : b < w.heap.size) (hL : b ∉ L)
      (hs : ∀ row, row ∈ rows → row.length = size)
      (hcell : ∀ i j, i < len → j < size → w.cell? ⟨b, off + i * size + j, none⟩ = some (f i j))
      (hrep : ∀ i j row c, rows[i]? = some row → row[j]? = some c → Rep L w (f i j) c) : Rep L w (.slice (some ⟨b, off, none⟩) len cap) (.sl size rows)

theorem Rep.keep {L : List Nat} {w w' : World} {v : Value} {c : C} (h : Rep L w v c) (k : Keep L w w') : Rep L w' v c := by
  induction h with
  | val v => exact .val v
  | nil a c s => exact .nil a c s
  | sl b off len cap size rows f hl hc hb hL hs hcell _ ih =>
    exact .sl b off len cap size rows f hl hc (Nat.lt_of_lt_of_le hb k.size) hL hs
      (fun i j hi hj => (World.cell?_of_block (k.block b hb hL)).trans (hcell i j hi hj)) ih
theorem Rep.fresh {L L' : List Nat} {w : World} {v : Value} {c : C} (h : Rep L w v c) (hL : ∀ x, x ∈ L' → x ∈ L ∨ w.heap.size ≤ x) : Rep L' w v c := by
  induction h with
  | val v => exact .val v
  | nil a c s => exact .nil a c s
  | sl b off len cap size rows f hl hc hb hb' hs hcell _ ih =>
    exact .sl b off len cap size rows f hl hc hb (fun hx => by rcases hL b hx with h1 | h1; exact hb' h1; omega) hs hcell ih
theorem Rep.weaken {L L' : List Nat} {w : World} {v : Value} {c : C} (h : Rep L w v c) (hL : ∀ x, x ∈ L' → x ∈ L) : Rep L' w v c := h.fresh fun x hx => .inl (hL x hx)
/-- A row of cells reads as a row of data. -/
def RepL (L : List Nat) (w : World) : List Value → List C → Prop
  | [], [] => True
  | v :: vs, c :: cs => Rep L w v c ∧ RepL L w vs cs
  | _, _ => False
theorem RepL.length {L : List Nat} {w : World} : ∀ {vs : List Value} {cs : List C}, RepL L w vs cs → vs.length = cs.length
  | [], [], _ => rfl
  | _ :: _, _ :: _, h => by simp [RepL.length h.2]
theorem RepL.get {L : List Nat} {w : World} : ∀ {vs : List Value} {cs : List C}, RepL L w vs cs → ∀ {j : Nat} {v : Value} {c : C}, vs[j]? = some v → cs[j]? = some c → Rep L w v c
  | _ :: _, _ :: _, h, 0, _, _, hv, hc => by simp at hv hc; subst hv; subst hc; exact h.1
  | _ :: _, _ :: _, h, j + 1, _, _, hv, hc => RepL.get h.2 (j := j) (by simpa using hv) (by simpa using hc)
theorem RepL.of {L : List Nat} {w : World} : ∀ {vs : List Value} {cs : List C}, vs.length = cs.length → (∀ (j : Nat) (v : Value) (c : C), vs[j]? = some v → cs[j]? = some c → Rep L w v c) → RepL L w vs cs
  | [], [], _, _ => trivial
  | v :: vs, c :: cs, hl, h => ⟨h 0 v c rfl rfl, RepL.of (by simpa using hl) fun j v' c' hv hc => h (j + 1) v' c' (by simpa using hv) (by simpa using hc)⟩
theorem RepL.keep {L : List Nat} {w w' : World} {vs : List Value} {cs : List C} (h : RepL L w vs cs) (k : Keep L w w') : RepL L w' vs cs := RepL.of h.length fun _ _ _ hv hc => (h.get hv hc).keep k
theorem RepL.fresh {L L' : List Nat} {w : World} {vs : List Value} {cs : List C} (h : RepL L w vs cs) (hL : ∀ x, x ∈ L' → x ∈ L ∨ w.heap.size ≤ x) : RepL L' w vs cs := RepL.of h.length fun _ _ _ hv hc => (h.get hv hc).fresh hL
theorem RepL.append {L : List Nat} {w : World} : ∀ {vs : List Value} {cs : List C} {vs' : List Value} {cs' : List C}, RepL L w vs cs → RepL L w vs' cs' → RepL L w (vs ++ vs') (cs ++ cs')
  | [], [], _, _, _, h' => h'
  | _ :: _, _ :: _, _, _, h, h' => ⟨h.1, RepL.append h.2 h'⟩

/-- A struct's value. -/
def RepA (L : List Nat) (w : World) (v : Value) (cs : List C) : Prop := ∃ vs : List Value, v = .agg vs.toArray ∧ RepL L w vs cs
theorem RepA.keep {L : List Nat} {w w' : World} {v : Value} {cs : List C} (h : RepA L w v cs) (k : Keep L w w') : RepA L w' v cs :=
  let ⟨vs, e, h⟩ := h; ⟨vs, e, h.keep k⟩
theorem RepA.fresh {L L' : List Nat} {w : World} {v : Value} {cs : List C} (h : RepA L w v cs) (hL : ∀ x, x ∈ L' → x ∈ L ∨ w.heap.size ≤ x) : RepA L' w v cs :=
  let ⟨vs, e, h⟩ := h; ⟨vs, e, h.fresh hL⟩

/-- Cells from an address on. -/
def CellsAt (w : World) (b off : Nat) (vs : List Value) : Prop := ∀ (j : Nat) (v : Value), vs[j]? = some v → w.cell? ⟨b, off + j, none⟩ = some v

theorem rep_len {L : List Nat} {w : World} {v : Value} {size : Nat} {rows : List (List C)} (h : Rep L w v (.sl size rows)) : ∃ a cap, v = .slice a rows.length cap ∧ rows.length ≤ cap := by
  cases h with
  | nil a c s => exact ⟨a, c, rfl, Nat.zero_le _⟩
  | sl b off len cap size rows f hl hc => exact ⟨_, cap, by rw [hl], by omega⟩

/-- Element i of a slice. -/
theorem rep_get {L : List Nat} {w : World} {a : Option Addr} {len cap size : Nat} {rows : List (List C)} (h : Rep L w (.slice a len cap) (.sl size rows)) {i : Nat} {row : List C} (hi : rows[i]? = some row) :
    ∃ b off vs, a = some ⟨b, off, none⟩ ∧ b < w.heap.size ∧ b ∉ L ∧ vs.length = size ∧ CellsAt w b (off + i * size) vs ∧ RepL L w vs row := by
  cases h with
  | nil => simp at hi
  | sl b off len cap size rows f hl hc hb hL hs hcell hrep =>
    have hil : i < rows.length := (List.getElem?_eq_some_iff.1 hi).1
    have hrow : row.length = size := hs row (List.mem_of_getElem? hi)
    refine ⟨b, off, (List.range size).map (f i), rfl, hb, hL, by simp, fun j v hj => ?_, RepL.of (by simp [hrow]) fun j v c hv hc' => ?_⟩
    · have hjs : j < size := by have := (List.getElem?_eq_some_iff.1 hj).1; simpa using this
      have e : f i j = v := by simpa [List.getElem?_map, hjs] using hj
      rw [← e]; exact hcell i j (by omega) hjs
    · have hjs : j < size := by have := (List.getElem?_eq_some_iff.1 hv).1; simpa using this
      have e : f i j = v := by simpa [List.getElem?_map, hjs] using hv
      rw [← e]; exact hrep i j row c hi hc'

/-- A part of a slice. -/
theorem rep_drop {L : List Nat} {w : World} {b off len cap size : Nat} {rows : List (List C)} (h : Rep L w (.slice (some ⟨b, off, none⟩) len cap) (.sl size rows)) (i : Nat) (hi : i ≤ len) (a : Option Addr)
    (ha : i < cap → a = some ⟨b, off + i * size, none⟩) (ha' : i = cap → a = some ⟨b, off, none⟩) : Rep L w (.slice a (len - i) (cap - i)) (.sl size (rows.drop i)) := by
  cases h with
  | nil => rw [List.drop_nil, show i = 0 from by omega]; exact .nil _ _ _
  | sl b off len cap size rows f hl hc hb hL hs hcell hrep =>
    by_cases hic : i < cap
    · rw [ha hic]
      refine .sl b (off + i * size) (len - i) (cap - i) size (rows.drop i) (fun k j => f (i + k) j) (by simp [hl]) (by omega) hb hL (fun row hr => hs row (List.mem_of_mem_drop hr)) (fun k j hk hj => ?_) (fun k j row c hk hj => ?_)
      · have := hcell (i + k) j (by omega) hj
        rw [← this]; congr 2; rw [Nat.add_mul]; omega
      · exact hrep (i + k) j row c (by simpa using hk) hj
    · have : i = cap := by omega
      subst this
      rw [ha' rfl]
      have hli : len = i := by omega
      have hr : rows.drop i = [] := by apply List.drop_of_length_le; omega
      rw [hr]
      have := Rep.sl (L := L) (w := w) b off 0 0 size [] f rfl (Nat.le_refl _) hb hL (by simp) (by omega) (by simp)
      simpa [hli] using this
end Go.Proofs.YtnkjgoholocliaaGreatDoor

namespace Go.Proofs.YtnkjgoholocliaaGreatDoor
open Go

/-- The slice value v owns the cells xs: it is nil, or it begins at the head of block g. -/
def Own (w : World) (T : TypeId) (sz : Nat) (v : Value) (g : Option Nat) (n : Nat) (xs : List Value) : Prop :=
  xs.length = n * sz ∧
  ((v = .slice none 0 0 ∧ n = 0 ∧ g = none) ∨
   ∃ b cap cur, g = some b ∧ v = .slice (some ⟨b, 0, none⟩) n cap ∧ Blk w b cur T ∧ n ≤ cap ∧ cap ≤ maxLen ∧ cur.size = cap * sz ∧ cur.toList.take (n * sz) = xs)

theorem Own.nil (w : World) (T : TypeId) (sz : Nat) : Own w T sz (.slice none 0 0) none 0 [] := ⟨by simp, .inl ⟨rfl, rfl, rfl⟩⟩
theorem Own.keep {w w' : World} {T : TypeId} {sz : Nat} {v : Value} {g : Option Nat} {n : Nat} {xs : List Value} {L : List Nat} (h : Own w T sz v g n xs) (k : Keep L w w') (hg : ∀ b, g = some b → b ∉ L) : Own w' T sz v g n xs := by
  refine ⟨h.1, ?_⟩
  rcases h.2 with h | ⟨b, cap, cur, e, hv, hb, r⟩
  · exact .inl h
  · exact .inr ⟨b, cap, cur, e, hv, hb.keep k (hg b e), r⟩
theorem Own.lt {w : World} {T : TypeId} {sz : Nat} {v : Value} {g : Option Nat} {n : Nat} {xs : List Value} (h : Own w T sz v g n xs) : ∀ b, g = some b → b < w.heap.size := by
  intro b e
  rcases h.2 with ⟨_, _, h⟩ | ⟨b', cap, cur, e', hv, hb, r⟩
  · rw [e] at h; cases h
  · rw [e] at e'; cases e'; exact hb.lt
theorem Own.len {w : World} {T : TypeId} {sz : Nat} {v : Value} {g : Option Nat} {n : Nat} {xs : List Value} (h : Own w T sz v g n xs) : ∃ a cap, v = .slice a n cap := by
  rcases h.2 with ⟨rfl, rfl, _⟩ | ⟨b', cap, cur, e', rfl, hb, r⟩ <;> exact ⟨_, _, rfl⟩

section
variable {P : Program} {w : World}
theorem run_app {t ty T : TypeId} {i : TypeInfo} {z : Value} {sz bytes : Nat} (ht : P.underlying t = some (.slice T)) (hi : P.info? T = some i) (hz : i.zero = some z)
    (hsize : i.size = sz) (hby : i.bytes = bytes) (hzs : z.cells.size = sz)
    {v : Value} {g : Option Nat} {n : Nat} {xs : List Value} (hown : Own w T sz v g n xs)
    (ab aoff m c : Nat) (news : List Value) (hl : news.length = m * sz) (hnews : CellsAt w ab aoff news) (h1 : ∀ u ∈ news, u.oneCell' = true) (hm : 0 < m)
    (h63 : n + m ≤ maxLen) (hbytes : (n + m) * bytes ≤ 140737488355328) :
    ∃ v' g' w', (Builtin.append_ #[t, t] ty #[v, .slice (some ⟨ab, aoff, none⟩) m c]).run P w = .ok v' w' ∧ Own w' T sz v' g' (n + m) (xs ++ news) ∧ Keep g.toList w w' ∧
      (g' = g ∨ g' = some w.heap.size) := by
  subst hsize
  subst hby
  have hsmall : n + m ≤ 9223372036854775807 := by simp only [maxLen] at h63; omega
  have hlen : (xs ++ news).length = (n + m) * i.size := by rw [List.length_append, hown.1, hl, Nat.add_mul]
  have hadd : ∀ b o j : Nat, (⟨b, o, none⟩ : Addr).add j = ⟨b, o + j, none⟩ := fun b o j => by unfold Addr.add; split <;> simp_all
  have hnews' : ∀ j u, news[j]? = some u → w.cell? ((⟨ab, aoff, none⟩ : Addr).add j) = some u := fun j u hu => by rw [hadd]; exact hnews j u hu
  have grown : ∀ (old : Nat), old < n + m →
      Own (w.drew.alloc (.cells (xs.toArray ++ news.toArray ++ Builtin.zeroCells z.cells (grownCap w (n + m) old T - (n + m))) T)) T i.size
        (.slice (some ⟨w.heap.size, 0, none⟩) (n + m) (grownCap w (n + m) old T)) (some w.heap.size) (n + m) (xs ++ news) ∧
      Keep g.toList w (w.drew.alloc (.cells (xs.toArray ++ news.toArray ++ Builtin.zeroCells z.cells (grownCap w (n + m) old T - (n + m))) T)) := by
    intro old ho
    have hge := grownCap_ge w (n + m) old T
    have hcm : grownCap w (n + m) old T ≤ maxLen := grownCap_le_maxLen w (n + m) old T h63
    refine ⟨⟨hlen, .inr ⟨w.heap.size, _, _, rfl, rfl, heap_alloc_new w.drew _, hge, hcm, ?_, ?_⟩⟩, ⟨rfl, rfl, rfl, by simp, fun k hk _ => heap_alloc_old w.drew _ k hk⟩⟩
    · simp only [Array.size_append, List.size_toArray, size_zeroCells, hzs, hown.1, hl, ← Nat.add_mul]
      congr 1
      omega
    · simp only [Array.toList_append, List.append_assoc]
      rw [← List.append_assoc, ← hlen]
      exact List.take_left
  rcases hown.2 with ⟨rfl, rfl, rfl⟩ | ⟨b, cap, cur, rfl, rfl, hb, hnc, hcm, hcs, htake⟩
  · have hx : xs = [] := List.eq_nil_of_length_eq_zero (by simpa using hown.1)
    subst hx
    have hr := run_append_nil (P := P) w t ty T i z ht hi hz ⟨ab, aoff, none⟩ m c news hl hnews' hm (by omega) (by have hb := hbytes; simp only [Nat.zero_add] at hb; omega)
    have hgr := grown 0 (by omega)
    simp only [Nat.zero_add, List.nil_append, Array.empty_append] at hgr ⊢
    exact ⟨_, _, _, hr, hgr.1, hgr.2, .inr rfl⟩
  · by_cases hroom : n + m ≤ cap
    · have hfit : n * i.size + news.length ≤ cur.size := by rw [hl, hcs, ← Nat.add_mul]; exact Nat.mul_le_mul_right _ hroom
      have hr := run_append_room (P := P) w t ty T i ht hi b n cap cur hb ⟨ab, aoff, none⟩ m c news hl hnews' h1 hroom hfit
      refine ⟨_, some b, _, hr, ⟨hlen, .inr ⟨b, cap, _, rfl, rfl, setRow_heap w b cur _ T _ hb, hroom, hcm, ?_, ?_⟩⟩, ⟨rfl, rfl, rfl, by simp, fun k _ hk => setRow_other w b k _ (by simpa using hk)⟩, .inl rfl⟩
      · simp only [List.size_toArray, List.length_append, List.length_take, List.length_drop, Array.length_toList]
        omega
      · rw [htake, ← hlen]
        exact List.take_left
    · have holds : ∀ j u, xs[j]? = some u → w.cell? ((⟨b, 0, none⟩ : Addr).add j) = some u := fun j u hu => by
        rw [hadd, hb.cell]
        rw [← htake, List.getElem?_take] at hu
        split at hu
        · simpa using hu
        · cases hu
      have hr := run_append_grow (P := P) w t ty T i z ht hi hz ⟨b, 0, none⟩ n cap xs hown.1 holds ⟨ab, aoff, none⟩ m c news hl hnews' (by omega) (by omega) (growslice_fits (by omega) hbytes)
      have hgr := grown cap (by omega)
      exact ⟨_, _, _, hr, hgr.1, hgr.2, .inr rfl⟩
end

/-- The owned slice's rows read as data; L: the blocks that others may write. -/
structure OwnR (L : List Nat) (w : World) (T : TypeId) (sz : Nat) (v : Value) (g : Option Nat) (rows : List (List C)) (xs : List Value) : Prop where
  own : Own w T sz v g rows.length xs
  rep : RepL (g.toList ++ L) w xs rows.flatten
  row : ∀ row, row ∈ rows → row.length = sz
  out : ∀ b, g = some b → b ∉ L

theorem OwnR.nil (L : List Nat) (w : World) (T : TypeId) (sz : Nat) : OwnR L w T sz (.slice none 0 0) none [] [] :=
  ⟨Own.nil _ _ _, trivial, by simp, by simp⟩
theorem OwnR.keep {L L' : List Nat} {w w' : World} {T : TypeId} {sz : Nat} {v : Value} {g : Option Nat} {rows : List (List C)} {xs : List Value} (h : OwnR L w T sz v g rows xs) (k : Keep L' w w')
    (hL : ∀ x, x ∈ L' → x ∈ L) : OwnR L w' T sz v g rows xs :=
  ⟨h.own.keep k (fun b e hx => h.out b e (hL b hx)), h.rep.keep (k.mono fun x hx => by simp [hL x hx]), h.row, h.out⟩
/-- One more block that others may write: a new one, or one that this slice does not read. -/
theorem OwnR.more {L L' : List Nat} {w : World} {T : TypeId} {sz : Nat} {v : Value} {g : Option Nat} {rows : List (List C)} {xs : List Value} (h : OwnR L w T sz v g rows xs)
    (hL : ∀ x, x ∈ L' → x ∈ L ∨ w.heap.size ≤ x) : OwnR L' w T sz v g rows xs :=
  ⟨h.own, h.rep.fresh (fun x hx => by
      rcases List.mem_append.1 hx with hx | hx
      · exact .inl (by simp [hx])
      · rcases hL x hx with h1 | h1
        · exact .inl (by simp [h1])
        · exact .inr h1), h.row, fun b e hx => by rcases hL b hx with h1 | h1; exact h.out b e h1; have := h.own.lt b e; omega⟩
theorem OwnR.len {L : List Nat} {w : World} {T : TypeId} {sz : Nat} {v : Value} {g : Option Nat} {rows : List (List C)} {xs : List Value} (h : OwnR L w T sz v g rows xs) : ∃ a cap, v = .slice a rows.length cap := h.own.len

theorem flatten_get {α : Type} {sz : Nat} : ∀ {rows : List (List α)}, (∀ row, row ∈ rows → row.length = sz) → ∀ {i j : Nat} {row : List α} {c : α}, rows[i]? = some row → row[j]? = some c → rows.flatten[i * sz + j]? = some c
  | r :: rows, h, 0, j, row, c, hi, hj => by
    simp only [List.getElem?_cons_zero, Option.some.injEq] at hi
    subst hi
    simp only [List.flatten_cons, Nat.zero_mul, Nat.zero_add]
    rw [List.getElem?_append_left (List.getElem?_eq_some_iff.1 hj).1]; exact hj
  | r :: rows, h, i + 1, j, row, c, hi, hj => by
    have hr : r.length = sz := h r (by simp)
    have := flatten_get (rows := rows) (fun row hr => h row (by simp [hr])) (i := i) (by simpa using hi) hj
    rw [List.flatten_cons, List.getElem?_append_right (by rw [hr, Nat.add_mul]; omega), hr]
    rw [← this]; congr 1; rw [Nat.add_mul]; omega
theorem flatten_len {α : Type} {sz : Nat} : ∀ {rows : List (List α)}, (∀ row, row ∈ rows → row.length = sz) → rows.flatten.length = rows.length * sz
  | [], _ => by simp
  | r :: rows, h => by
    rw [List.flatten_cons, List.length_append, h r (by simp), flatten_len (fun row hr => h row (by simp [hr])), List.length_cons, Nat.add_mul]; omega

/-- When it is done with, it reads as data like any other. -/
theorem OwnR.done {L : List Nat} {w : World} {T : TypeId} {sz : Nat} {v : Value} {g : Option Nat} {rows : List (List C)} {xs : List Value} (h : OwnR L w T sz v g rows xs) : Rep L w v (.sl sz rows) := by
  have hrep := h.rep.fresh (L' := L) (fun x hx => .inl (by simp [hx]))
  rcases h.own.2 with ⟨rfl, hn, _⟩ | ⟨b, cap, cur, e, rfl, hb, hnc, hcm, hcs, htake⟩
  · rw [List.length_eq_zero_iff.1 hn]; exact .nil _ _ _
  · have hxl := h.own.1
    refine .sl b 0 rows.length cap sz rows (fun i j => xs.getD (i * sz + j) undef) rfl hnc hb.lt (h.out b e) h.row (fun i j hi hj => ?_) (fun i j row c hi hj => ?_)
    · have hlt : i * sz + j < xs.length := by
        rw [hxl]
        have : (i + 1) * sz ≤ rows.length * sz := Nat.mul_le_mul_right _ hi
        rw [Nat.add_mul] at this; omega
      rw [Nat.zero_add, hb.cell, List.getD_eq_getElem?_getD, List.getElem?_eq_getElem hlt]
      simp only [Option.getD_some]
      have h2 : xs[i * sz + j]? = some xs[i * sz + j] := List.getElem?_eq_getElem hlt
      rw [← h2, ← htake, List.getElem?_take, if_pos (by rw [← hxl]; exact hlt)]
      simp
    · have hf := flatten_get h.row hi hj
      have hlt : i * sz + j < xs.length := by rw [hrep.length]; exact (List.getElem?_eq_some_iff.1 hf).1
      have h2 : xs[i * sz + j]? = some xs[i * sz + j] := List.getElem?_eq_getElem hlt
      have := hrep.get h2 hf
      rw [List.getD_eq_getElem?_getD, h2]; exact this

/-- append of one row. -/
theorem OwnR.app {P : Program} {L : List Nat} {w : World} {t ty T : TypeId} {i : TypeInfo} {z : Value} {sz bytes : Nat} (ht : P.underlying t = some (.slice T)) (hi : P.info? T = some i) (hz : i.zero = some z)
    (hsize : i.size = sz) (hby : i.bytes = bytes) (hzs : z.cells.size = sz)
    {v : Value} {g : Option Nat} {rows : List (List C)} {xs : List Value} (h : OwnR L w T sz v g rows xs)
    (ab aoff m c : Nat) (new : List (List C)) (news : List Value) (hm : new.length = m) (hm0 : 0 < m) (hrow : ∀ row, row ∈ new → row.length = sz) (hnews : CellsAt w ab aoff news) (h1 : ∀ u ∈ news, u.oneCell' = true)
    (hr : RepL (g.toList ++ L) w news new.flatten) (hL : ∀ x, x ∈ L → x < w.heap.size)
    (hb : (rows.length + m) * (bytes + 1) ≤ 140737488355328) :
    ∃ v' g' w', (Builtin.append_ #[t, t] ty #[v, .slice (some ⟨ab, aoff, none⟩) m c]).run P w = .ok v' w' ∧ OwnR L w' T sz v' g' (rows ++ new) (xs ++ news) ∧ Keep g.toList w w' ∧
      (g' = g ∨ g' = some w.heap.size) := by
  have hnl : news.length = m * sz := by rw [hr.length, flatten_len hrow, hm]
  have hb1 : (rows.length + m) * bytes + (rows.length + m) ≤ 140737488355328 := by rw [Nat.mul_add, Nat.mul_one] at hb; exact hb
  obtain ⟨v', g', w', hrun, hown, hk, hg⟩ := run_app (P := P) (w := w) (ty := ty) ht hi hz hsize hby hzs h.own ab aoff m c news hnl hnews h1 hm0 (by unfold maxLen; omega) (by omega)
  refine ⟨v', g', w', hrun, ⟨by rw [List.length_append, hm]; exact hown, ?_, ?_, ?_⟩, hk, hg⟩
  · have h2 := (h.rep.append hr).keep (hk.mono (L' := g.toList ++ L) fun x hx => by simp [hx])
    rw [List.flatten_append]
    have h3 : RepL (g.toList ++ L) w (xs ++ news) (rows.flatten ++ new.flatten) := h.rep.append hr
    rcases hg with rfl | rfl
    · exact h2
    · exact (h3.fresh (L' := (some w.heap.size).toList ++ (g.toList ++ L)) (fun x hx => by
        rcases List.mem_append.1 hx with hx | hx
        · right; simp at hx; omega
        · exact .inl hx)).keep (hk.mono fun x hx => by simp [hx]) |>.fresh (fun x hx => .inl (by
        rcases List.mem_append.1 hx with hx | hx
        · exact List.mem_append_left _ hx
        · exact List.mem_append_right _ (List.mem_append_right _ hx)))
  · intro row hx
    rcases List.mem_append.1 hx with hx | hx
    · exact h.row row hx
    · exact hrow row hx
  · intro b e hx
    rcases hg with rfl | rfl
    · exact h.out b e hx
    · have := hL b hx
      simp at e; omega
end Go.Proofs.YtnkjgoholocliaaGreatDoor

namespace Go.Proofs.YtnkjgoholocliaaGreatDoor
open Go

/-- The guard of an operation: it stands, or it does not. -/
def gate (ops : Array Oper) (e : Env) : Option (Nat × Bool) → Bool
  | none => true
  | some (j, want) => match (ops.toList[j]?).bind (·.dst) with
    | some t => match e t with
      | .bool b => b == want
      | _ => false
    | none => false

theorem gate_ok {n : Nat} {ops : Array Oper} {e : Env} {a : Act} (h : Fits n e a) (o : Oper) : Region.wanted o (yielded ops a.tmps) = gate ops e o.guard := by
  unfold Region.wanted gate
  cases hg : o.guard with
  | none => rfl
  | some p =>
    obtain ⟨j, want⟩ := p
    simp only [yielded]
    have hj : ops.toList[j]? = ops[j]? := by simp
    rw [hj]
    cases hd : (ops[j]?).bind (·.dst) with
    | none => cases want <;> rfl
    | some t =>
      simp only [Option.bind_some]
      have hget := h.get t
      rw [Array.getD_eq_getD_getElem?] at hget
      cases hx : a.tmps[t]? with
      | none =>
        rw [hx] at hget
        simp only [Option.getD_none] at hget
        rw [← hget]
        cases want <;> simp [undef]
      | some v =>
        rw [hx] at hget
        simp only [Option.getD_some] at hget
        rw [← hget]
        cases v <;> cases want <;> first | rfl | (rename_i b; cases b <;> rfl)

section
variable {P : Program} {n : Nat} {ops : Array Oper} {K : Env → World → Prop} {rest : List Oper} {e : Env} {w w' : World}
  {dst : Option Nat} {ty : TypeId} {pos : String} {after : Array Edge} {g : Option (Nat × Bool)}

theorem ow_nil (h : K e w) : OW P n ops K [] e w := fun _ ha _ => ⟨e, ha, h⟩

/-- An operation that yields a value. -/
theorem ow_val {op : Op} {v : Value} (hg : gate ops e g = true) (hd : okDst n dst = true) (hrun : (execOp (ev e) ⟨dst, op, ty, pos, after, g⟩).run P w = .ok (.value v) w')
    (k : OW P n ops K rest (put? e dst v) w') : OW P n ops K (⟨dst, op, ty, pos, after, g⟩ :: rest) e w := fun a ha Q => by
  unfold wpList
  rw [if_pos (by rw [gate_ok ha]; exact hg)]
  refine .inl ?_
  unfold Oper.wp
  rw [ha.eval, hrun, Oper.upon_value]
  exact k _ (ha.put? hd v) Q
theorem ow_unit {op : Op} (hg : gate ops e g = true) (hrun : (execOp (ev e) ⟨none, op, ty, pos, after, g⟩).run P w = .ok .skip w')
    (k : OW P n ops K rest e w') : OW P n ops K (⟨none, op, ty, pos, after, g⟩ :: rest) e w := fun a ha Q => by
  unfold wpList
  rw [if_pos (by rw [gate_ok ha]; exact hg)]
  refine .inl ?_
  unfold Oper.wp
  rw [ha.eval, hrun, Oper.upon_skip]
  exact k _ (ha.put? (d := none) rfl undef) Q
/-- An operation whose guard says no. -/
theorem ow_skip {op : Op} (hg : gate ops e g = false) (hd : okDst n dst = true) (k : OW P n ops K rest (put? e dst undef) w) : OW P n ops K (⟨dst, op, ty, pos, after, g⟩ :: rest) e w := fun a ha Q => by
  unfold wpList
  rw [if_neg (by rw [gate_ok ha]; simp [hg])]
  exact k _ (ha.put? hd undef) Q

theorem run_call {f : FuncId} {args : List Value} (h : Callable P f) : (callFunc f args.toArray).run P w = .ok (.enter f args.toArray) w := by
  obtain ⟨fn, hf, hb, hn⟩ := h
  have hn' : ¬ fn.name = "runtime.NumGoroutine" := by simpa using hn
  have hb' : ¬ fn.body = none := by intro h; simp [h] at hb
  simp [callFunc, hf, hb', hn']

/-- A call of a function that returns. -/
theorem ow_call {f : FuncId} {xs : List Operand} {ats : Array TypeId} {S : Value → World → Prop} (hg : gate ops e g = true) (hd : okDst n dst = true) (h : Ret P f (xs.map (ev e)) w S)
    (k : ∀ v w', S v w' → OW P n ops K rest (put? e dst v) w') : OW P n ops K (⟨dst, .call { callee := .value (.func f), args := xs.toArray, argTypes := ats }, ty, pos, after, g⟩ :: rest) e w := fun a ha Q => by
  unfold wpList
  rw [if_pos (by rw [gate_ok ha]; exact hg)]
  refine .inl ?_
  unfold Oper.wp
  have hrun : (execOp (ev e) ⟨dst, .call { callee := .value (.func f), args := xs.toArray, argTypes := ats }, ty, pos, after, g⟩).run P w = .ok (.enter f (xs.map (ev e)).toArray) w := by
    simp only [execOp, resolve, ev, Deferred.ofValue, Sem.run_bind, Sem.run_pure, Result.andThen_ok, invoke]
    simp [run_call h.1]
  rw [ha.eval, hrun, Oper.upon_enter]
  exact Calls.mono h.2 fun x w' ⟨v, hx, hs⟩ => by subst hx; exact k v w' hs _ (ha.put? hd v) Q

theorem ow_move {x : Operand} (hg : gate ops e g = true) (hd : okDst n dst = true) (k : OW P n ops K rest (put? e dst (ev e x)) w) : OW P n ops K (⟨dst, .move x, ty, pos, after, g⟩ :: rest) e w :=
  ow_val hg hd (by simp [execOp]) k
theorem ow_assign {x : Operand} (hg : gate ops e g = true) (hd : okDst n dst = true) (k : OW P n ops K rest (put? e dst (ev e x)) w) : OW P n ops K (⟨dst, .assign x, ty, pos, after, g⟩ :: rest) e w :=
  ow_val hg hd (by simp [execOp]) k
theorem ow_pick {c x y : Operand} {t : Bool} (hg : gate ops e g = true) (hd : okDst n dst = true) (hc : ev e c = .bool t) (k : OW P n ops K rest (put? e dst (bif t then ev e x else ev e y)) w) :
    OW P n ops K (⟨dst, .pick c x y, ty, pos, after, g⟩ :: rest) e w :=
  ow_val hg hd (by cases t <;> simp [execOp, hc, asBool]) k
theorem ow_nilCheck {x : Operand} {a : Addr} (hg : gate ops e g = true) (hd : okDst n dst = true) (hx : ev e x = .pointer (some a)) (k : OW P n ops K rest (put? e dst (.pointer (some a))) w) :
    OW P n ops K (⟨dst, .nilCheck x, ty, pos, after, g⟩ :: rest) e w :=
  ow_val hg hd (by simp [execOp, hx]) k

/-! ### New blocks -/
theorem ow_box {T : TypeId} {x : Operand} {cs : Array Value} (hg : gate ops e g = true) (hd : okDst n dst = true) (hx : (ev e x).cells = cs)
    (k : ∀ w', Keep [] w w' → Blk w' w.heap.size cs T → w'.heap.size = w.heap.size + 1 → OW P n ops K rest (put? e dst (.pointer (some ⟨w.heap.size, 0, none⟩))) w') :
    OW P n ops K (⟨dst, .box T x, ty, pos, after, g⟩ :: rest) e w :=
  ow_val hg hd (w' := w.alloc (.cells cs T)) (by simp [execOp, Instr.box, newVar, newRow, hx]) (k _ (Keep.alloc _ _ _) (Blk.alloc _ _ _) (by simp))

/-- What the table of types says of a type: its zero value, its cells, its bytes. -/
def TI (P : Program) (T : TypeId) (sz bytes : Nat) (z : Value) : Prop := (P.info? T).map (fun i => (i.zero, i.size, i.bytes)) = some (some z, sz, bytes)
theorem TI.get {T : TypeId} {sz bytes : Nat} {z : Value} (h : TI P T sz bytes z) : ∃ i, P.info? T = some i ∧ i.zero = some z ∧ i.size = sz ∧ i.bytes = bytes := by
  unfold TI at h
  cases hi : P.info? T with
  | none => simp [hi] at h
  | some i => simp [hi] at h; exact ⟨i, rfl, h.1, h.2.1, h.2.2⟩
theorem TI.run_size {T : TypeId} {sz bytes : Nat} {z : Value} (h : TI P T sz bytes z) (w : World) : (sizeOf T).run P w = .ok sz w := by
  obtain ⟨i, hi, hz, hs, hb⟩ := h.get
  simp [sizeOf, typeInfo, hi, hs]
theorem TI.run_zero {T : TypeId} {sz bytes : Nat} {z : Value} (h : TI P T sz bytes z) (w : World) : (zeroValue T).run P w = .ok z w := by
  obtain ⟨i, hi, hz, hs, hb⟩ := h.get
  simp [zeroValue, typeInfo, hi, hz]

theorem ow_alloc {T : TypeId} {sz bytes : Nat} {z : Value} {cs : Array Value} (hT : TI P T sz bytes z) (hg : gate ops e g = true) (hd : okDst n dst = true) (hx : z.cells = cs)
    (k : ∀ w', Keep [] w w' → Blk w' w.heap.size cs T → w'.heap.size = w.heap.size + 1 → OW P n ops K rest (put? e dst (.pointer (some ⟨w.heap.size, 0, none⟩))) w') :
    OW P n ops K (⟨dst, .alloc T, ty, pos, after, g⟩ :: rest) e w :=
  ow_val hg hd (w' := w.alloc (.cells cs T)) (by simp [execOp, Instr.alloc, hT.run_zero, newVar, newRow, hx]) (k _ (Keep.alloc _ _ _) (Blk.alloc _ _ _) (by simp))

/-! ### Addresses, loads, stores -/
def oneB (P : Program) (T : TypeId) : Bool := match P.underlying T with
  | some (.struct _) | some (.array _ _) | none => false
  | _ => true
theorem run_isAgg_one {T : TypeId} (h : oneB P T = true) (w : World) : (isAgg T).run P w = .ok false w := by
  unfold oneB at h
  cases hu : P.underlying T with
  | none => simp [hu] at h
  | some d => cases d <;> simp [hu] at h <;> simp [isAgg, underlying, hu]
def aggB (P : Program) (T : TypeId) : Bool := match P.underlying T with
  | some (.struct _) | some (.array _ _) => true
  | _ => false
theorem run_isAgg_agg {T : TypeId} (h : aggB P T = true) (w : World) : (isAgg T).run P w = .ok true w := by
  unfold aggB at h
  cases hu : P.underlying T with
  | none => simp [hu] at h
  | some d => cases d <;> simp [hu] at h <;> simp [isAgg, underlying, hu]

theorem add_mk (b o j : Nat) : (⟨b, o, none⟩ : Addr).add j = ⟨b, o + j, none⟩ := by unfold Addr.add; split <;> simp_all

theorem ow_load {T : TypeId} {x : Operand} {a : Addr} {v : Value} (hT : oneB P T = true) (hg : gate ops e g = true) (hd : okDst n dst = true) (hx : ev e x = .pointer (some a)) (hc : w.cell? a = some v)
    (k : OW P n ops K rest (put? e dst v) w) : OW P n ops K (⟨dst, .load T x, ty, pos, after, g⟩ :: rest) e w :=
  ow_val hg hd (by simp [execOp, Instr.loadAt, Instr.sureAddr, hx, loadVar, run_isAgg_one hT, hc]) k
theorem ow_loads {T : TypeId} {sz bytes : Nat} {z : Value} {x : Operand} {b o : Nat} {vs : List Value} (hT : aggB P T = true) (hTI : TI P T sz bytes z) (hg : gate ops e g = true) (hd : okDst n dst = true)
    (hx : ev e x = .pointer (some ⟨b, o, none⟩)) (hc : CellsAt w b o vs) (hl : vs.length = sz)
    (k : OW P n ops K rest (put? e dst (.agg vs.toArray)) w) : OW P n ops K (⟨dst, .load T x, ty, pos, after, g⟩ :: rest) e w :=
  ow_val hg hd (by
    have := run_loadCells_list (P := P) w ⟨b, o, none⟩ vs (fun j v hv => by rw [add_mk]; exact hc j v hv)
    rw [hl] at this
    simp [execOp, Instr.loadAt, Instr.sureAddr, hx, loadVar, run_isAgg_agg hT, hTI.run_size, this]) k

theorem run_store1 {b o : Nat} {v u : Value} (h1 : v.oneCell' = true) (hc : w.cell? ⟨b, o, none⟩ = some u) (hf : w.frozen? ⟨b, o, none⟩ = false) : (storeCells ⟨b, o, none⟩ [v]).run P w = .ok () (w.setCell ⟨b, o, none⟩ v) := by
  simp [storeCells, add_mk, run_store P w _ v _ h1, hc, hf]
theorem ow_store {T : TypeId} {sz bytes : Nat} {z : Value} {x y : Operand} {b o : Nat} {v : Value} {cs : Array Value} {U : TypeId} (hTI : TI P T sz bytes z) (hsz : sz = 1) (hg : gate ops e g = true)
    (hx : ev e x = .pointer (some ⟨b, o, none⟩)) (hy : ev e y = v) (h1 : v.oneCell' = true) (hb : Blk w b cs U) (ho : o < cs.size)
    (k : ∀ w', Keep [b] w w' → Blk w' b (cs.setIfInBounds o v) U → w'.heap.size = w.heap.size → OW P n ops K rest e w') : OW P n ops K (⟨none, .store T x y, ty, pos, after, g⟩ :: rest) e w :=
  ow_unit hg (w' := w.setCell ⟨b, o, none⟩ v) (by
    have hc : v.cells = #[v] := by cases v <;> first | rfl | (simp [Value.oneCell'] at h1)
    have hs := run_store1 (P := P) (w := w) (b := b) (o := o) (v := v) (u := cs[o]) h1 (by rw [hb.cell, Array.getElem?_eq_getElem ho]) (hb.frozen o)
    subst hsz
    simp [execOp, Instr.storeAt, Instr.sureAddr, hx, hy, storeVar, hc, hTI.run_size, hs]) (k _ (Keep.setCell _ _ _ _) (hb.set o v) (by simp [World.setCell]))

/-- A whole struct is stored over a block of its own. -/
theorem run_storeAll : ∀ (vs : List Value) (i : Nat) (pre : List Value) (w : World) (b : Nat) (U : TypeId) (cs : Array Value), Blk w b cs U → cs.size = pre.length + vs.length → i = pre.length → cs.toList.take i = pre → (∀ u ∈ vs, u.oneCell' = true) →
    ∃ w', (storeCells ⟨b, 0, none⟩ vs i).run P w = .ok () w' ∧ Keep [b] w w' ∧ Blk w' b (pre ++ vs).toArray U ∧ w'.heap.size = w.heap.size
  | [], i, pre, w, b, U, cs, hb, hs, hi, ht, _ => by
    refine ⟨w, rfl, Keep.refl _ _, ?_, rfl⟩
    have : cs = (pre ++ []).toArray := by
      apply Array.ext'
      simp only [List.append_nil] at *
      rw [← ht, List.take_of_length_le (by simp; simp at hs; omega)]
    rw [← this]; exact hb
  | v :: vs, i, pre, w, b, U, cs, hb, hs, hi, ht, h1 => by
    have hil : i < cs.size := by simp at hs; omega
    have hst : (store ((⟨b, 0, none⟩ : Addr).add i) v).run P w = .ok () (w.setCell ⟨b, i, none⟩ v) := by
      rw [add_mk, Nat.zero_add, run_store P w _ v _ (h1 v (by simp)), hb.cell, Array.getElem?_eq_getElem hil, hb.frozen]
      simp
    obtain ⟨w', hr, hk, hb', hz⟩ := run_storeAll vs (i + 1) (pre ++ [v]) (w.setCell ⟨b, i, none⟩ v) b U (cs.setIfInBounds i v) (hb.set i v) (by simp at hs ⊢; omega) (by simp; omega)
      (by
        rw [Array.toList_setIfInBounds, List.take_add_one, List.getElem?_set_self (by simpa using hil), List.take_set_of_le (Nat.le_refl i), ht]; simp)
      (fun u hu => h1 u (by simp [hu]))
    refine ⟨w', ?_, (Keep.setCell w b i v).trans hk, by simpa using hb', by rw [hz]; simp [World.setCell]⟩
    simp only [storeCells, Sem.run_bind, hst, Result.andThen_ok]
    exact hr
theorem ow_stores {T : TypeId} {sz bytes : Nat} {z : Value} {x y : Operand} {b : Nat} {vs : List Value} {cs : Array Value} {U : TypeId} (hTI : TI P T sz bytes z) (hg : gate ops e g = true)
    (hx : ev e x = .pointer (some ⟨b, 0, none⟩)) (hy : ev e y = .agg vs.toArray) (hl : vs.length = sz) (h1 : ∀ u ∈ vs, u.oneCell' = true) (hb : Blk w b cs U) (hcs : cs.size = sz)
    (k : ∀ w', Keep [b] w w' → Blk w' b vs.toArray U → w'.heap.size = w.heap.size → OW P n ops K rest e w') : OW P n ops K (⟨none, .store T x y, ty, pos, after, g⟩ :: rest) e w := by
  obtain ⟨w', hr, hk, hb', hz⟩ := run_storeAll (P := P) vs 0 [] w b U cs hb (by simp; omega) rfl (by simp) h1
  exact ow_unit hg (w' := w') (by
    simp [execOp, Instr.storeAt, Instr.sureAddr, hx, hy, storeVar, Value.cells, hTI.run_size, hl, hr]) (k _ hk (by simpa using hb') hz)

/-- The place of a field: its cell, where its type is not of size 0. -/
def fieldOff (P : Program) (S i : Nat) : Option Nat := match P.underlying S with
  | some (.struct fs) => match fs[i]? with
    | some f => match P.info? f.type with
      | some t => if t.size = 0 then none else some f.offset
      | none => none
    | none => none
  | _ => none
theorem run_fieldAt {S i off b o : Nat} (h : fieldOff P S i = some off) : (Instr.fieldAt S (.pointer (some ⟨b, o, none⟩)) i).run P w = .ok (.pointer (some ⟨b, o + off, none⟩)) w := by
  unfold fieldOff at h
  cases hu : P.underlying S with
  | none => simp [hu] at h
  | some d =>
    cases d <;> simp [hu] at h
    rename_i fs
    cases hf : fs[i]? with
    | none => simp [hf] at h
    | some f =>
      simp only [hf] at h
      cases hi : P.info? f.type with
      | none => simp [hi] at h
      | some t =>
        simp only [hi] at h
        by_cases hz : t.size = 0
        · simp [hz] at h
        · simp [hz] at h
          simp [Instr.fieldAt, run_underlying hu, hf, Instr.sureAddr, fieldPlace, sizeOf, typeInfo, hi, hz, add_mk, h]
theorem ow_fieldAddr {S i off : Nat} {x : Operand} {b o : Nat} (hS : fieldOff P S i = some off) (hg : gate ops e g = true) (hd : okDst n dst = true) (hx : ev e x = .pointer (some ⟨b, o, none⟩))
    (k : OW P n ops K rest (put? e dst (.pointer (some ⟨b, o + off, none⟩))) w) : OW P n ops K (⟨dst, .fieldAddr S x i, ty, pos, after, g⟩ :: rest) e w :=
  ow_val hg hd (by simp [execOp, hx, run_fieldAt hS]) k

theorem ow_indexAddr {T E : TypeId} {sz bytes : Nat} {z : Value} {x y : Operand} {b o len cap i : Nat} {ki : IntKind} (hT : P.underlying T = some (.slice E)) (hE : TI P E sz bytes z) (hg : gate ops e g = true) (hd : okDst n dst = true)
    (hx : ev e x = .slice (some ⟨b, o, none⟩) len cap) (hy : ev e y = .int ki (i : Int)) (hi : i < len)
    (k : OW P n ops K rest (put? e dst (.pointer (some ⟨b, o + i * sz, none⟩))) w) : OW P n ops K (⟨dst, .indexAddr T x y, ty, pos, after, g⟩ :: rest) e w :=
  ow_val hg hd (by
    have h2 : ¬ len ≤ i := by omega
    simp [execOp, Instr.indexAt, hx, hy, asIntOf, run_underlying hT, h2, hE.run_size, add_mk]) k

theorem ow_len {T E : TypeId} {x : Operand} {a : Option Addr} {m cap : Nat} (hT : P.underlying T = some (.slice E)) (hg : gate ops e g = true) (hd : okDst n dst = true) (hx : ev e x = .slice a m cap)
    (k : OW P n ops K rest (put? e dst (.int .i64 m)) w) : OW P n ops K (⟨dst, .call { callee := .builtin .len, args := #[x], argTypes := #[T] }, ty, pos, after, g⟩ :: rest) e w :=
  ow_val hg hd (by
    simp [execOp, resolve, invoke, builtin, hx, Builtin.len_, run_underlying hT, goInt]) k
theorem ow_lens {T : TypeId} {x : Operand} {s : ByteArray} {m : Nat} (hT : P.underlying T = some .string) (hg : gate ops e g = true) (hd : okDst n dst = true) (hx : ev e x = .string s) (hm : s.size = m)
    (k : OW P n ops K rest (put? e dst (.int .i64 m)) w) : OW P n ops K (⟨dst, .call { callee := .builtin .len, args := #[x], argTypes := #[T] }, ty, pos, after, g⟩ :: rest) e w :=
  ow_val hg hd (by
    simp [execOp, resolve, invoke, builtin, hx, Builtin.len_, run_underlying hT, goInt, hm]) k
theorem ow_extract {x : Operand} {i : Nat} {vs : List Value} {v : Value} (hg : gate ops e g = true) (hd : okDst n dst = true) (hx : ev e x = .tuple vs.toArray) (hi : vs[i]? = some v)
    (k : OW P n ops K rest (put? e dst v) w) : OW P n ops K (⟨dst, .extract x i, ty, pos, after, g⟩ :: rest) e w :=
  ow_val hg hd (by simp [execOp, Instr.extract, hx, hi]) k
end
end Go.Proofs.YtnkjgoholocliaaGreatDoor

namespace Go.Proofs.YtnkjgoholocliaaGreatDoor
open Go

/-- A Go string, as the list of its bytes. -/
abbrev str (l : List UInt8) : Value := .string ⟨l.toArray⟩

section
variable {P : Program} {n : Nat} {ops : Array Oper} {K : Env → World → Prop} {rest : List Oper} {e : Env} {w w' : World}
  {dst : Option Nat} {ty : TypeId} {pos : String} {after : Array Edge} {g : Option (Nat × Bool)} {T T' : TypeId} {x y : Operand}

theorem ow_lss {k k' : IntKind} {a b : Int} (hg : gate ops e g = true) (hd : okDst n dst = true) (hx : ev e x = .int k a) (hy : ev e y = .int k' b) (hk : k = k' := by rfl)
    (c : OW P n ops K rest (put? e dst (.bool (decide (a < b)))) w) : OW P n ops K (⟨dst, .binOp .lss T x y T', ty, pos, after, g⟩ :: rest) e w :=
  ow_val hg hd (by subst hk; cases k <;> simp [execOp, eqGuard, hx, hy, binOp, Op.intCmp]) c
theorem ow_leq {k k' : IntKind} {a b : Int} (hg : gate ops e g = true) (hd : okDst n dst = true) (hx : ev e x = .int k a) (hy : ev e y = .int k' b) (hk : k = k' := by rfl)
    (c : OW P n ops K rest (put? e dst (.bool (decide (a ≤ b)))) w) : OW P n ops K (⟨dst, .binOp .leq T x y T', ty, pos, after, g⟩ :: rest) e w :=
  ow_val hg hd (by subst hk; cases k <;> simp [execOp, eqGuard, hx, hy, binOp, Op.intCmp]) c
theorem ow_gtr {k k' : IntKind} {a b : Int} (hg : gate ops e g = true) (hd : okDst n dst = true) (hx : ev e x = .int k a) (hy : ev e y = .int k' b) (hk : k = k' := by rfl)
    (c : OW P n ops K rest (put? e dst (.bool (decide (b < a)))) w) : OW P n ops K (⟨dst, .binOp .gtr T x y T', ty, pos, after, g⟩ :: rest) e w :=
  ow_val hg hd (by subst hk; cases k <;> simp [execOp, eqGuard, hx, hy, binOp, Op.intCmp]) c
theorem ow_geq {k k' : IntKind} {a b : Int} (hg : gate ops e g = true) (hd : okDst n dst = true) (hx : ev e x = .int k a) (hy : ev e y = .int k' b) (hk : k = k' := by rfl)
    (c : OW P n ops K rest (put? e dst (.bool (decide (b ≤ a)))) w) : OW P n ops K (⟨dst, .binOp .geq T x y T', ty, pos, after, g⟩ :: rest) e w :=
  ow_val hg hd (by subst hk; cases k <;> simp [execOp, eqGuard, hx, hy, binOp, Op.intCmp]) c
theorem ow_eql {k k' : IntKind} {a b : Int} (hg : gate ops e g = true) (hd : okDst n dst = true) (hx : ev e x = .int k a) (hy : ev e y = .int k' b) (hk : k = k' := by rfl)
    (c : OW P n ops K rest (put? e dst (.bool (decide (a = b)))) w) : OW P n ops K (⟨dst, .binOp .eql T x y T', ty, pos, after, g⟩ :: rest) e w :=
  ow_val hg hd (by
    have h : (a == b) = decide (a = b) := by by_cases h : a = b <;> simp [h]
    subst hk; cases k <;> simp [execOp, eqGuard, hx, hy, binOp, Op.intCmp, h]) c
theorem ow_neq {k k' : IntKind} {a b : Int} (hg : gate ops e g = true) (hd : okDst n dst = true) (hx : ev e x = .int k a) (hy : ev e y = .int k' b) (hk : k = k' := by rfl)
    (c : OW P n ops K rest (put? e dst (.bool (decide (a ≠ b)))) w) : OW P n ops K (⟨dst, .binOp .neq T x y T', ty, pos, after, g⟩ :: rest) e w :=
  ow_val hg hd (by
    have h : (a != b) = decide (a ≠ b) := by by_cases h : a = b <;> simp [h]
    subst hk; cases k <;> simp [execOp, eqGuard, hx, hy, binOp, Op.intCmp, h]) c

theorem ow_add {k k' : IntKind} {a b c : Int} (hg : gate ops e g = true) (hd : okDst n dst = true) (hx : ev e x = .int k a) (hy : ev e y = .int k' b) (hk : k = k' := by rfl) (hc : k.wrap (a + b) = c)
    (c' : OW P n ops K rest (put? e dst (.int k c)) w) : OW P n ops K (⟨dst, .binOp .add T x y T', ty, pos, after, g⟩ :: rest) e w :=
  ow_val hg hd (by subst hk; cases k <;> simp [execOp, eqGuard, hx, hy, binOp, Op.intArith, hc]) c'
theorem ow_sub {k k' : IntKind} {a b c : Int} (hg : gate ops e g = true) (hd : okDst n dst = true) (hx : ev e x = .int k a) (hy : ev e y = .int k' b) (hk : k = k' := by rfl) (hc : k.wrap (a - b) = c)
    (c' : OW P n ops K rest (put? e dst (.int k c)) w) : OW P n ops K (⟨dst, .binOp .sub T x y T', ty, pos, after, g⟩ :: rest) e w :=
  ow_val hg hd (by subst hk; cases k <;> simp [execOp, eqGuard, hx, hy, binOp, Op.intArith, hc]) c'
theorem ow_mul {k k' : IntKind} {a b c : Int} (hg : gate ops e g = true) (hd : okDst n dst = true) (hx : ev e x = .int k a) (hy : ev e y = .int k' b) (hk : k = k' := by rfl) (hc : k.wrap (a * b) = c)
    (c' : OW P n ops K rest (put? e dst (.int k c)) w) : OW P n ops K (⟨dst, .binOp .mul T x y T', ty, pos, after, g⟩ :: rest) e w :=
  ow_val hg hd (by subst hk; cases k <;> simp [execOp, eqGuard, hx, hy, binOp, Op.intArith, hc]) c'
/-- Quotient and remainder by a positive number, of a number that is not negative. -/
theorem ow_quo {k k' : IntKind} {a b : Nat} {c : Int} (hg : gate ops e g = true) (hd : okDst n dst = true) (hx : ev e x = .int k (a : Int)) (hy : ev e y = .int k' (b : Int)) (hk : k = k' := by rfl) (hb : 0 < b) (hc : k.wrap ((a / b : Nat) : Int) = c)
    (c' : OW P n ops K rest (put? e dst (.int k c)) w) : OW P n ops K (⟨dst, .binOp .quo T x y T', ty, pos, after, g⟩ :: rest) e w :=
  ow_val hg hd (by
    have h1 : ¬ b = 0 := by omega
    subst hk
    cases k <;> simp [execOp, eqGuard, hx, hy, binOp, Op.intDiv, h1] <;> (try rw [← hc]) <;> (try simp)) c'
theorem ow_rem {k k' : IntKind} {a b : Nat} (hg : gate ops e g = true) (hd : okDst n dst = true) (hx : ev e x = .int k (a : Int)) (hy : ev e y = .int k' (b : Int)) (hk : k = k' := by rfl) (hb : 0 < b)
    (c' : OW P n ops K rest (put? e dst (.int k ((a % b : Nat) : Int))) w) : OW P n ops K (⟨dst, .binOp .rem T x y T', ty, pos, after, g⟩ :: rest) e w :=
  ow_val hg hd (by
    have h1 : ¬ b = 0 := by omega
    have h2 : (a : Int).tmod (b : Int) = ((a : Int) % (b : Int)) := Int.tmod_eq_emod_of_nonneg (by omega)
    subst hk
    cases k <;> simp [execOp, eqGuard, hx, hy, binOp, Op.intDiv, h1, h2]) c'

theorem ow_not {b : Bool} (hg : gate ops e g = true) (hd : okDst n dst = true) (hx : ev e x = .bool b) (c : OW P n ops K rest (put? e dst (.bool (!b))) w) :
    OW P n ops K (⟨dst, .unOp .not T x, ty, pos, after, g⟩ :: rest) e w :=
  ow_val hg hd (by simp [execOp, Op.unary, hx]) c
theorem ow_bneq {a b : Bool} (hT : P.underlying T = some .bool) (hg : gate ops e g = true) (hd : okDst n dst = true) (hx : ev e x = .bool a) (hy : ev e y = .bool b)
    (c : OW P n ops K rest (put? e dst (.bool (!(a == b)))) w) : OW P n ops K (⟨dst, .binOp .neq T x y T', ty, pos, after, g⟩ :: rest) e w :=
  ow_val hg hd (by simp [execOp, eqGuard, hx, hy, run_neq_bool w T a b hT]) c

/-! ### Strings -/
theorem ow_sadd {a b : List UInt8} (hg : gate ops e g = true) (hd : okDst n dst = true) (hx : ev e x = str a) (hy : ev e y = str b) (hs : a.length + b.length ≤ 9223372036854775807)
    (c : OW P n ops K rest (put? e dst (str (a ++ b))) w) : OW P n ops K (⟨dst, .binOp .add T x y T', ty, pos, after, g⟩ :: rest) e w :=
  ow_val hg hd (by
    have h1 : ¬ (IntKind.i64.max < (a.length : Int) + (b.length : Int)) := by
      have : IntKind.i64.max = 9223372036854775807 := by decide
      omega
    have h2 : (⟨a.toArray⟩ : ByteArray) ++ ⟨b.toArray⟩ = ⟨(a ++ b).toArray⟩ := by
      apply ByteArray.ext; simp
    simp [execOp, eqGuard, hx, hy, binOp, Op.stringOp, ByteArray.size, h2]
    omega) c
theorem ow_seql {a b : List UInt8} (hg : gate ops e g = true) (hd : okDst n dst = true) (hx : ev e x = str a) (hy : ev e y = str b)
    (c : OW P n ops K rest (put? e dst (.bool (decide (a = b)))) w) : OW P n ops K (⟨dst, .binOp .eql T x y T', ty, pos, after, g⟩ :: rest) e w :=
  ow_val hg hd (by
    have h : (a == b) = decide (a = b) := by by_cases h : a = b <;> simp [h]
    simp [execOp, eqGuard, hx, hy, binOp, Op.stringOp, h]) c
theorem ow_sneq {a b : List UInt8} (hg : gate ops e g = true) (hd : okDst n dst = true) (hx : ev e x = str a) (hy : ev e y = str b)
    (c : OW P n ops K rest (put? e dst (.bool (decide (a ≠ b)))) w) : OW P n ops K (⟨dst, .binOp .neq T x y T', ty, pos, after, g⟩ :: rest) e w :=
  ow_val hg hd (by
    have h : (a == b) = decide (a = b) := by by_cases h : a = b <;> simp [h]
    simp [execOp, eqGuard, hx, hy, binOp, Op.stringOp, h]) c
theorem ow_sindex {a : List UInt8} {i : Nat} {k : IntKind} {b : UInt8} (hT : P.underlying T = some .string) (hg : gate ops e g = true) (hd : okDst n dst = true) (hx : ev e x = str a) (hy : ev e y = .int k (i : Int)) (hi : a[i]? = some b)
    (c : OW P n ops K rest (put? e dst (.int .u8 b.toNat)) w) : OW P n ops K (⟨dst, .index T x y, ty, pos, after, g⟩ :: rest) e w :=
  ow_val hg hd (by
    obtain ⟨hl, he⟩ := List.getElem?_eq_some_iff.1 hi
    have hr := run_index_string (P := P) w T ⟨a.toArray⟩ k (i : Int) hT
    have hsz : (⟨a.toArray⟩ : ByteArray).size = a.length := by simp [ByteArray.size]
    rw [dif_pos (by rw [hsz]; omega)] at hr
    simp only [execOp, hx, hy, Sem.run_bind, hr]
    simp only [Result.andThen_ok, Sem.run_pure, Int.toNat_natCast]
    rw [← he]; rfl) c
/-- A string's slice, both bounds given, or one. -/
theorem run_sslice {a : List UInt8} {lo hi : Option Value} {l h : Nat} (hT : P.underlying T = some .string)
    (hlo : (lo = none ∧ l = 0) ∨ ∃ k, lo = some (.int k (l : Int))) (hhi : (hi = none ∧ h = a.length) ∨ ∃ k, hi = some (.int k (h : Int))) (h1 : l ≤ h) (h2 : h ≤ a.length) :
    (Instr.sliceAt T (str a) lo hi none).run P w = .ok (str ((a.drop l).take (h - l))) w := by
  have e1 : (⟨a.toArray⟩ : ByteArray).extract l h = ⟨((a.drop l).take (h - l)).toArray⟩ := ByteArray.extract_mk a l h
  have e2 : (⟨a.toArray⟩ : ByteArray).size = a.length := by simp [ByteArray.size]
  rcases hlo with ⟨rfl, rfl⟩ | ⟨k, rfl⟩ <;> rcases hhi with ⟨rfl, rfl⟩ | ⟨k', rfl⟩ <;>
    simp [Instr.sliceAt, Instr.slice, run_underlying hT, Instr.sliceBounds, Instr.sliceBound, asIntOf, e2, h1, h2, e1]
theorem ow_sslice {a : List UInt8} {lo hi : Option Operand} {l h : Nat} (hT : P.underlying T = some .string) (hg : gate ops e g = true) (hd : okDst n dst = true) (hx : ev e x = str a)
    (hlo : (lo.map (ev e) = none ∧ l = 0) ∨ ∃ k, lo.map (ev e) = some (.int k (l : Int))) (hhi : (hi.map (ev e) = none ∧ h = a.length) ∨ ∃ k, hi.map (ev e) = some (.int k (h : Int))) (h1 : l ≤ h) (h2 : h ≤ a.length)
    (c : OW P n ops K rest (put? e dst (str ((a.drop l).take (h - l)))) w) : OW P n ops K (⟨dst, .slice T x lo hi none, ty, pos, after, g⟩ :: rest) e w :=
  ow_val hg hd (by simp only [execOp, hx, Option.map_none, Sem.run_bind, run_sslice hT hlo hhi h1 h2]; rfl) c

/-- 's[l:]' of a slice that reads as data. -/
theorem ow_slice_from {L : List Nat} {E : TypeId} {sz bytes : Nat} {z : Value} {lo : Operand} {b off len cap l : Nat} {k : IntKind} (hT : P.underlying T = some (.slice E)) (hE : TI P E sz bytes z) (hg : gate ops e g = true) (hd : okDst n dst = true)
    (hx : ev e x = .slice (some ⟨b, off, none⟩) len cap) (hlo : ev e lo = .int k (l : Int)) (hl : l ≤ len) {rows : List (List C)} (hr : Rep L w (.slice (some ⟨b, off, none⟩) len cap) (.sl sz rows))
    (c : ∀ v, Rep L w v (.sl sz (rows.drop l)) → OW P n ops K rest (put? e dst v) w) : OW P n ops K (⟨dst, .slice T x (some lo) none none, ty, pos, after, g⟩ :: rest) e w := by
  have hcap : len ≤ cap := by cases hr with | nil => exact Nat.zero_le _ | sl _ _ _ _ _ _ _ hl hc => exact hc
  refine ow_val hg hd (v := .slice (if cap = l then some ⟨b, off, none⟩ else some ⟨b, off + l * sz, none⟩) (len - l) (cap - l)) (w' := w) ?_ (c _ (rep_drop hr l hl _ (fun h => if_neg (by omega)) (fun h => if_pos (by omega))))
  simp [execOp, Instr.sliceAt, Instr.slice, hx, hlo, run_underlying hT, Instr.sliceBounds, Instr.sliceBound, asIntOf, hl, hE.run_size, add_mk]

theorem ow_conv_int {S D : TypeId} {k k' : IntKind} {d : TypeDesc} {a c : Int} (hS : P.underlying S = some d) (hD : P.underlying D = some (.int k')) (hg : gate ops e g = true) (hd : okDst n dst = true) (hx : ev e x = .int k a) (hc : k'.wrap a = c)
    (c' : OW P n ops K rest (put? e dst (.int k' c)) w) : OW P n ops K (⟨dst, .convert S D x, ty, pos, after, g⟩ :: rest) e w :=
  ow_val hg hd (by simp [execOp, convert, hx, run_underlying hS, run_underlying hD, Conv.intToInt, hc]) c'
end
end Go.Proofs.YtnkjgoholocliaaGreatDoor

namespace Go.Proofs.YtnkjgoholocliaaGreatDoor
open Go

theorem Blk.ext {w w' : World} {b : Nat} {cs : Array Value} {T : TypeId} (h : Blk w b cs T) (k : Keep [] w w') : Blk w' b cs T := h.keep k (by simp)
theorem Rep.ext {L : List Nat} {w w' : World} {v : Value} {c : C} (h : Rep L w v c) (k : Keep [] w w') : Rep L w' v c := h.keep k.any
theorem RepA.ext {L : List Nat} {w w' : World} {v : Value} {cs : List C} (h : RepA L w v cs) (k : Keep [] w w') : RepA L w' v cs := h.keep k.any
theorem OwnR.ext {L : List Nat} {w w' : World} {T : TypeId} {sz : Nat} {v : Value} {g : Option Nat} {rows : List (List C)} {xs : List Value} (h : OwnR L w T sz v g rows xs) (k : Keep [] w w') : OwnR L w' T sz v g rows xs := h.keep k (by simp)
theorem Keep.ext {w0 w w' : World} {L : List Nat} (h : Keep L w0 w) (k : Keep [] w w') : Keep L w0 w' := h.trans k.any
theorem CellsAt.ext {w w' : World} {b off : Nat} {vs : List Value} (h : CellsAt w b off vs) (k : Keep [] w w') : CellsAt w' b off vs := fun j v hj => by
  have h1 := h j v hj
  have hb : b < w.heap.size := World.block_lt_of_cell? w ⟨b, off + j, none⟩ h1
  exact (World.cell?_of_block (k.block b hb (by simp))).trans h1

theorem Blk.at {w : World} {b : Nat} {vs : List Value} {T : TypeId} (h : Blk w b vs.toArray T) {i : Nat} {v : Value} (hv : vs[i]? = some v) : w.cell? ⟨b, i, none⟩ = some v := by
  rw [h.cell]; simpa using hv
theorem Blk.all {w : World} {b : Nat} {vs : List Value} {T : TypeId} (h : Blk w b vs.toArray T) : CellsAt w b 0 vs := fun j v hj => by
  rw [Nat.zero_add]; exact h.at hj

theorem wrap_i64 (x : Int) (h1 : -9223372036854775808 ≤ x) (h2 : x ≤ 9223372036854775807) : IntKind.i64.wrap x = x := by
  simp only [IntKind.wrap, IntKind.bits, IntKind.signed]; simp; omega
theorem wrap_u8 (x : Int) (h1 : 0 ≤ x) (h2 : x ≤ 255) : IntKind.u8.wrap x = x := by
  simp only [IntKind.wrap, IntKind.bits, IntKind.signed]; simp; omega
theorem wrap_u64 (x : Int) (h1 : 0 ≤ x) (h2 : x ≤ 18446744073709551615) : IntKind.u64.wrap x = x := by
  simp only [IntKind.wrap, IntKind.bits, IntKind.signed]; simp; omega
section
variable {P : Program} {n : Nat} {ops : Array Oper} {K : Env → World → Prop} {rest : List Oper} {e : Env} {w w' : World}
  {dst : Option Nat} {ty : TypeId} {pos : String} {after : Array Edge} {g : Option (Nat × Bool)} {T : TypeId} {x : Operand}

theorem ow_boxA {vs : List Value} (hg : gate ops e g = true) (hd : okDst n dst = true) (hx : ev e x = .agg vs.toArray)
    (k : ∀ w', Keep [] w w' → Blk w' w.heap.size vs.toArray T → w'.heap.size = w.heap.size + 1 → OW P n ops K rest (put? e dst (.pointer (some ⟨w.heap.size, 0, none⟩))) w') :
    OW P n ops K (⟨dst, .box T x, ty, pos, after, g⟩ :: rest) e w := ow_box hg hd (by rw [hx]; rfl) k
theorem ow_box1 {v : Value} (hg : gate ops e g = true) (hd : okDst n dst = true) (hx : (ev e x).cells = [v].toArray)
    (k : ∀ w', Keep [] w w' → Blk w' w.heap.size [v].toArray T → w'.heap.size = w.heap.size + 1 → OW P n ops K rest (put? e dst (.pointer (some ⟨w.heap.size, 0, none⟩))) w') :
    OW P n ops K (⟨dst, .box T x, ty, pos, after, g⟩ :: rest) e w := ow_box hg hd hx k
theorem ow_allocA {sz bytes : Nat} {vs : List Value} (hT : TI P T sz bytes (.agg vs.toArray)) (hg : gate ops e g = true) (hd : okDst n dst = true) (_ : vs = vs)
    (k : ∀ w', Keep [] w w' → Blk w' w.heap.size vs.toArray T → w'.heap.size = w.heap.size + 1 → OW P n ops K rest (put? e dst (.pointer (some ⟨w.heap.size, 0, none⟩))) w') :
    OW P n ops K (⟨dst, .alloc T, ty, pos, after, g⟩ :: rest) e w := ow_alloc hT hg hd rfl k
theorem upd_eq {t : Nat} {v : Value} (h : e t = v) : upd e t v = e := by
  funext u
  by_cases hu : u = t
  · subst hu; rw [upd_same, h]
  · rw [upd_ne _ _ hu]
/-- A guard's value is looked at: two ways. -/
theorem ow_split {l : List Oper} {t : Nat} {b : Bool} (ht : e t = .bool b) (h1 : b = true → OW P n ops K l (upd e t (.bool true)) w) (h0 : b = false → OW P n ops K l (upd e t (.bool false)) w) : OW P n ops K l e w := by
  cases b
  · have := h0 rfl; rwa [upd_eq ht] at this
  · have := h1 rfl; rwa [upd_eq ht] at this
theorem ow_known {l : List Oper} {t : Nat} {b : Bool} (ht : e t = .bool b) (h : OW P n ops K l (upd e t (.bool b)) w) : OW P n ops K l e w := by
  rwa [upd_eq ht] at h

/-- The slots of D hold anything. -/
def havoc (D : List Nat) (x e : Env) : Env := fun t => bif D.contains t then x t else e t
def Agree (D : List Nat) (e e' : Env) : Prop := ∀ t, D.contains t = false → e' t = e t
theorem agree_refl {D : List Nat} {e : Env} : Agree D e e := fun _ _ => rfl
theorem agree_upd {D : List Nat} {e e' : Env} {d : Nat} {v : Value} (hd : D.contains d = true) (h : Agree D e e') : Agree D e (upd e' d v) := fun t ht => by
  have hne : t ≠ d := fun he => by subst he; rw [hd] at ht; cases ht
  rw [upd_ne _ _ hne]; exact h t ht
theorem agree_hav {D D2 : List Nat} {e e' x : Env} (hd : D2.all D.contains = true) (h : Agree D e e') : Agree D e (havoc D2 x e') := fun t ht => by
  unfold havoc
  cases hc : D2.contains t with
  | false => exact h t ht
  | true =>
    have := List.all_eq_true.1 hd t (by simpa using hc)
    rw [ht] at this; cases this
/-- What a branch knows, of a test. -/
theorem test_t {p : Prop} [Decidable p] (h : decide p = true) : p := of_decide_eq_true h
theorem test_f {p : Prop} [Decidable p] (h : decide p = false) : ¬ p := of_decide_eq_false h
theorem test_nt {b : Bool} (h : (!b) = true) : b = false := by simpa using h
theorem test_nf {b : Bool} (h : (!b) = false) : b = true := by simpa using h
theorem agree_havoc {D : List Nat} {e e' : Env} (h : Agree D e e') : havoc D e' e = e' := by
  funext t
  unfold havoc
  cases hc : D.contains t with
  | true => rfl
  | false => simp only [cond_false]; exact (h t hc).symm

theorem Oper.wp_monoQ {o : Oper} {a : Act} {w : World} {H H' : Act → World → Prop} {Q Q' : Exit → Act → World → Prop} (h : ∀ a w, H a w → H' a w)
    (hp : ∀ c a w, Q (.panic c) a w → Q' (.panic c) a w) (ho : LetsOut Q → LetsOut Q') (hh : o.wp P a w H Q) : o.wp P a w H' Q' := by
  unfold Oper.wp at *
  generalize (execOp a.eval o).run P w = r at *
  cases r with
  | ok n w' =>
    cases n <;> simp only [Oper.upon] at hh ⊢ <;>
      first
        | exact h _ _ hh
        | exact Calls.mono hh (fun e w'' he => by cases e <;> first | exact h _ _ he | exact hp _ _ _ he | exact ho he)
        | exact Rows.mono hh (fun _ _ he => h _ _ he)
  | halt x w' => cases x <;> simp only [Oper.upon] at hh ⊢ <;> first | exact hp _ _ _ hh | exact hh

theorem wpList_app {N : Env → World → Prop} {Q : Exit → Act → World → Prop} {l2 : List Oper} (k : ∀ e' a' w', Fits n e' a' → N e' w' → wpList P ops (thenA n K Q) l2 a' w') :
    ∀ (l1 : List Oper) (a : Act) (w : World), wpList P ops (thenA n N Q) l1 a w → wpList P ops (thenA n K Q) (l1 ++ l2) a w
  | [], a, w, h => by
    simp only [wpList, thenA] at h
    obtain ⟨e', hf, hn⟩ := h
    exact k e' a w hf hn
  | o :: l, a, w, h => by
    have hl : LetsOut (thenA n N Q) → LetsOut (thenA n K Q) := fun ⟨a, w, hq⟩ => ⟨a, w, hq⟩
    simp only [List.cons_append]
    unfold wpList at h ⊢
    by_cases hw : Region.wanted o (yielded ops a.tmps) = true
    · rw [if_pos hw] at h ⊢
      rcases h with h | ⟨h1, h2⟩
      · exact .inl (Oper.wp_monoQ (fun a' w' h' => wpList_app k l a' w' h') (fun _ _ _ h => h) hl h)
      · exact .inr ⟨h1, hl h2⟩
    · rw [if_neg hw] at h ⊢
      exact wpList_app k l _ w h
theorem ow_append {l1 l2 : List Oper} {N : Env → World → Prop} (h : OW P n ops N l1 e w) (k : ∀ e' w', N e' w' → OW P n ops K l2 e' w') : OW P n ops K (l1 ++ l2) e w := fun a ha Q =>
  wpList_app (fun e' a' w' hf hn => k e' w' hn a' hf Q) l1 a w (h a ha Q)

/-- 'a && b' with a guarded part of m operations, the last of which picks: the two ways meet again. -/
theorem ow_and {l : List Oper} (m tc tp : Nat) (D : List Nat) {c r : Bool} (J : World → Prop) (ht : e tc = .bool c)
    (h1 : c = true → OW P n ops (fun e' w' => Agree D e e' ∧ e' tp = .bool r ∧ J w') (l.take m) (upd e tc (.bool true)) w)
    (h0 : c = false → OW P n ops (fun e' w' => Agree D e e' ∧ e' tp = .bool false ∧ J w') (l.take m) (upd e tc (.bool false)) w)
    (k : ∀ x w', J w' → OW P n ops K (l.drop m) (upd (havoc D x e) tp (.bool (c && r))) w') : OW P n ops K l e w := by
  rw [← List.take_append_drop m l]
  cases c with
  | true =>
    have h := h1 rfl
    rw [upd_eq ht] at h
    refine ow_append h fun e' w' ⟨ha, hp, hj⟩ => ?_
    have := k e' w' hj
    rw [agree_havoc ha, Bool.true_and, upd_eq hp] at this
    exact this
  | false =>
    have h := h0 rfl
    rw [upd_eq ht] at h
    refine ow_append h fun e' w' ⟨ha, hp, hj⟩ => ?_
    have := k e' w' hj
    rw [agree_havoc ha, Bool.false_and, upd_eq hp] at this
    exact this
theorem ow_or {l : List Oper} (m tc tp : Nat) (D : List Nat) {c r : Bool} (J : World → Prop) (ht : e tc = .bool c)
    (h1 : c = true → OW P n ops (fun e' w' => Agree D e e' ∧ e' tp = .bool true ∧ J w') (l.take m) (upd e tc (.bool true)) w)
    (h0 : c = false → OW P n ops (fun e' w' => Agree D e e' ∧ e' tp = .bool r ∧ J w') (l.take m) (upd e tc (.bool false)) w)
    (k : ∀ x w', J w' → OW P n ops K (l.drop m) (upd (havoc D x e) tp (.bool (c || r))) w') : OW P n ops K l e w := by
  rw [← List.take_append_drop m l]
  cases c with
  | true =>
    have h := h1 rfl
    rw [upd_eq ht] at h
    refine ow_append h fun e' w' ⟨ha, hp, hj⟩ => ?_
    have := k e' w' hj
    rw [agree_havoc ha, Bool.true_or, upd_eq hp] at this
    exact this
  | false =>
    have h := h0 rfl
    rw [upd_eq ht] at h
    refine ow_append h fun e' w' ⟨ha, hp, hj⟩ => ?_
    have := k e' w' hj
    rw [agree_havoc ha, Bool.false_or, upd_eq hp] at this
    exact this

theorem ow_lenS {a : List UInt8} (hT : P.underlying T = some .string) (hg : gate ops e g = true) (hd : okDst n dst = true) (hx : ev e x = str a)
    (k : OW P n ops K rest (put? e dst (.int .i64 (a.length : Nat))) w) : OW P n ops K (⟨dst, .call { callee := .builtin .len, args := #[x], argTypes := #[T] }, ty, pos, after, g⟩ :: rest) e w :=
  ow_lens hT hg hd hx (by simp [ByteArray.size]) k

theorem ow_build {l : List (Nat × Operand)} {v : Value} (hb : (Instr.build T (l.map fun p => (p.1, ev e p.2)).toArray).run P w = .ok v w) (hg : gate ops e g = true) (hd : okDst n dst = true)
    (k : OW P n ops K rest (put? e dst v) w) : OW P n ops K (⟨dst, .build T l.toArray, ty, pos, after, g⟩ :: rest) e w :=
  ow_val hg hd (by simp only [execOp, List.map_toArray, Sem.run_bind, hb]; rfl) k
end

theorem resultAt_blk {P : Program} {e : Env} {t ty b : Nat} {w : World} {vs : List Value} {T : TypeId} {sz bytes : Nat} {z : Value} (hA : aggB P ty = true) (hTI : TI P ty sz bytes z) (he : e t = .pointer (some ⟨b, 0, none⟩)) (hb : Blk w b vs.toArray T) (hl : vs.length = sz) :
    resultAt P e t ty (.agg vs.toArray) w := by
  refine ⟨⟨b, 0, none⟩, he, ?_⟩
  have := run_loadCells_list (P := P) w ⟨b, 0, none⟩ vs (fun j v hv => by rw [add_mk]; exact hb.all j v hv)
  rw [hl] at this
  simp [loadVar, run_isAgg_agg hA, hTI.run_size, this]
end Go.Proofs.YtnkjgoholocliaaGreatDoor

namespace Go.Proofs.YtnkjgoholocliaaGreatDoor
open Go

def phi (F : List (Value → World → Prop)) (i : Nat) : Value → World → Prop := F.getD i (fun _ _ => True)
def depsHold (F : List (Value → World → Prop)) (vs : Nat → Value) (w : World) : List Nat → Prop
  | [] => True
  | [j] => phi F j (vs j) w
  | j :: r => phi F j (vs j) w ∧ depsHold F vs w r
theorem depsHold_of {F : List (Value → World → Prop)} {vs : Nat → Value} {w : World} : ∀ {l : List Nat}, (∀ j, j ∈ l → phi F j (vs j) w) → depsHold F vs w l
  | [], _ => trivial
  | [j], h => h j (by simp)
  | j :: k :: r, h => ⟨h j (by simp), depsHold_of (l := k :: r) fun i hi => h i (by simp at hi ⊢; right; exact hi)⟩
def depEnv (ds : List Nat) (vs : Nat → Value) : List Nat → List (Nat × Value)
  | [] => []
  | j :: r => (ds.getD j 0, vs j) :: depEnv ds vs r

/-- What the operations of a region may do to the world: as much as new memory, or more. -/
structure Kept (KK : World → World → Prop) : Prop where
  refl : ∀ w, KK w w
  trans : ∀ {a b c}, KK a b → KK b c → KK a c
  of : ∀ {a b}, Keep [] a b → KK a b
theorem kept_new : Kept (Keep []) := ⟨Keep.refl _, Keep.trans, id⟩
/-- One block is written, whole. -/
def KS (b : Nat) (cs : List Value) (T : TypeId) (w w' : World) : Prop := Keep [b] w w' ∧ (Blk w b cs.toArray T → Blk w' b cs.toArray T) ∧
  ((∃ us : List Value, us.length = cs.length ∧ Blk w b us.toArray T) → ∃ us : List Value, us.length = cs.length ∧ Blk w' b us.toArray T)
theorem kept_ks (b : Nat) (cs : List Value) (T : TypeId) : Kept (KS b cs T) :=
  ⟨fun _ => ⟨Keep.refl _ _, id, id⟩, fun h k => ⟨h.1.trans k.1, fun x => k.2.1 (h.2.1 x), fun x => k.2.2 (h.2.2 x)⟩,
   fun h => ⟨h.any, fun x => x.keep h (by simp), fun ⟨us, hl, x⟩ => ⟨us, hl, x.keep h (by simp)⟩⟩⟩
def stab (KK : World → World → Prop) : List (Value → World → Prop) → Prop
  | [] => True
  | f :: r => (∀ v w w', f v w → KK w w' → f v w') ∧ stab KK r
theorem stab_all {KK : World → World → Prop} : ∀ {F : List (Value → World → Prop)}, stab KK F → ∀ f, f ∈ F → ∀ v w w', f v w → KK w w' → f v w'
  | [], _, _, h => by cases h
  | g :: r, h, f, hf => by
    rcases List.mem_cons.1 hf with rfl | hf
    · exact h.1
    · exact stab_all h.2 f hf
theorem stab_eq {KK : World → World → Prop} {V : Value} {r : List (Value → World → Prop)} (h : stab KK r) : stab KK ((fun v _ => v = V) :: r) := ⟨fun _ _ _ h _ => h, h⟩
theorem stab_if {KK : World → World → Prop} {c : Prop} {V : Value} {r : List (Value → World → Prop)} (h : stab KK r) : stab KK ((fun v _ => c → v = V) :: r) := ⟨fun _ _ _ h _ => h, h⟩
theorem stab_any {KK : World → World → Prop} {r : List (Value → World → Prop)} (h : stab KK r) : stab KK ((fun _ _ => True) :: r) := ⟨fun _ _ _ h _ => h, h⟩
theorem stab_sto {b : Nat} {cs : List Value} {T : TypeId} {r : List (Value → World → Prop)} (h : stab (KS b cs T) r) : stab (KS b cs T) ((fun _ w => Blk w b cs.toArray T) :: r) := ⟨fun _ _ _ h k => k.2.1 h, h⟩

theorem stab_gen {KK : World → World → Prop} {f : Value → World → Prop} {r : List (Value → World → Prop)} (hf : ∀ v w w', f v w → KK w w' → f v w') (h : stab KK r) : stab KK (f :: r) := ⟨hf, h⟩
theorem agree_put {e : Env} {d : Nat} {v : Value} : Agree [d] e (put? e (some d) v) := agree_upd (by simp) agree_refl
/-- Operation k, alone. -/
def cert1 (KK : World → World → Prop) (P : Program) (n : Nat) (ops : Array Oper) (W ds : List Nat) (F : List (Value → World → Prop)) (e0 : Env) (w0 : World) (k : Nat) (o : Oper) (deps : List Nat) : Prop :=
  ∀ (x : Env) (vs : Nat → Value) (w : World) (e : Env), KK w0 w → depsHold F vs w deps → e = over (havoc W x e0) (depEnv ds vs deps) →
    OW P n ops (fun e' w' => KK w w' ∧ phi F k (e' (ds.getD k 0)) w' ∧ Agree [ds.getD k 0] e e') [o] e w
def certs (KK : World → World → Prop) (P : Program) (n : Nat) (ops : Array Oper) (W ds : List Nat) (F : List (Value → World → Prop)) (e0 : Env) (w0 : World) : Nat → List Oper → List (List Nat) → Prop
  | _, [], _ => True
  | _, _ :: _, [] => True
  | k, o :: l, d :: r => cert1 KK P n ops W ds F e0 w0 k o d ∧ certs KK P n ops W ds F e0 w0 (k + 1) l r

/-- What a look at the region says: the first m operations write the slots ds, all different, each waits for what it hangs on; each later one waits for all before it. -/
def waits (o : Oper) (j : Nat) : Bool := o.after.toList.any fun e => Region.binds .any e && e.on == j
def drawB (l : List Oper) (m : Nat) (W ds : List Nat) (deps : List (List Nat)) : Bool :=
  decide (m ≤ l.length) && decide (ds.length = m) && decide (deps.length = m) && decide (ds.Nodup) &&
  (List.range l.length).all (fun k => match l[k]? with
    | some o => o.after.toList.all (fun e => !Region.binds .any e || decide (e.on < k)) &&
      (if k < m then W.contains (ds.getD k 0) && (deps.getD k []).all (fun j => waits o j && decide (j < m)) else (List.range k).all (fun j => (List.range (k + 1)).any fun x => decide (j < x) && (match l[x]? with | some o' => waits o' j | none => false)))
    | none => false)

theorem certs_cons {KK : World → World → Prop} {P : Program} {n : Nat} {ops : Array Oper} {W ds : List Nat} {F : List (Value → World → Prop)} {e0 : Env} {w0 : World} {k : Nat} {o : Oper} {l : List Oper} {d : List Nat} {r : List (List Nat)}
    (h : cert1 KK P n ops W ds F e0 w0 k o d) (hr : certs KK P n ops W ds F e0 w0 (k + 1) l r) : certs KK P n ops W ds F e0 w0 k (o :: l) (d :: r) := ⟨h, hr⟩
theorem certs_get {KK : World → World → Prop} {P : Program} {n : Nat} {ops : Array Oper} {W ds : List Nat} {F : List (Value → World → Prop)} {e0 : Env} {w0 : World} : ∀ (l : List Oper) (deps : List (List Nat)) (k : Nat), certs KK P n ops W ds F e0 w0 k l deps →
    ∀ (i : Nat) (o : Oper) (d : List Nat), l[i]? = some o → deps[i]? = some d → cert1 KK P n ops W ds F e0 w0 (k + i) o d
  | [], _, _, _, i, o, d, hi, _ => by simp at hi
  | _ :: _, [], _, _, i, o, d, _, hd => by simp at hd
  | o' :: l, d' :: r, k, h, i, o, d, hi, hd => by
    cases i with
    | zero => simp at hi hd; subst hi; subst hd; exact h.1
    | succ i =>
      have := certs_get l r (k + 1) h.2 i o d (by simpa using hi) (by simpa using hd)
      rw [show k + 1 + i = k + (i + 1) from by omega] at this; exact this

theorem over_get {e : Env} : ∀ {l : List (Nat × Value)}, (∀ p, p ∈ l → e p.1 = p.2) → over e l = e
  | [], _ => rfl
  | p :: r, h => by
    simp only [over, over_get (e := e) (l := r) (fun q hq => h q (by simp [hq]))]
    exact upd_eq (h p (by simp))

theorem phi_keep {KK : World → World → Prop} {F : List (Value → World → Prop)} (hF : ∀ f, f ∈ F → ∀ v w w', f v w → KK w w' → f v w') (i : Nat) {v : Value} {w w' : World} (h : phi F i v w) (k : KK w w') : phi F i v w' := by
  unfold phi at *
  rw [List.getD_eq_getElem?_getD] at *
  cases hf : F[i]? with
  | none => simp
  | some f =>
    simp only [hf, Option.getD_some] at h ⊢
    exact hF f (List.mem_of_getElem? hf) v w w' h k

section
variable {P : Program} {n : Nat} {l : List Oper} {m : Nat} {W ds : List Nat} {deps : List (List Nat)}

theorem drawB_spec (hB : drawB l m W ds deps = true) : m ≤ l.length ∧ ds.length = m ∧ deps.length = m ∧ ds.Nodup ∧
    ∀ k o, l[k]? = some o → (∀ e ∈ o.after, Region.binds .any e = true → e.on < k) ∧
      (k < m → W.contains (ds.getD k 0) = true ∧ ∀ j ∈ deps.getD k [], waits o j = true ∧ j < m) ∧ (m ≤ k → ∀ j, j < k → ∃ x o', j < x ∧ x ≤ k ∧ l[x]? = some o' ∧ waits o' j = true) := by
  simp only [drawB, Bool.and_eq_true, decide_eq_true_eq] at hB
  obtain ⟨⟨⟨⟨h1, h2⟩, h3⟩, h4⟩, h5⟩ := hB
  refine ⟨h1, h2, h3, h4, fun k o hk => ?_⟩
  have hkl : k < l.length := (List.getElem?_eq_some_iff.1 hk).1
  have := List.all_eq_true.1 h5 k (List.mem_range.2 hkl)
  simp only [hk, Bool.and_eq_true] at this
  obtain ⟨ha, hb⟩ := this
  refine ⟨fun e he hbd => ?_, fun hlt => ?_, fun hle j hj => ?_⟩
  · have := List.all_eq_true.1 ha e (by simpa using he)
    simpa [hbd] using this
  · rw [if_pos hlt] at hb
    simp only [Bool.and_eq_true, List.all_eq_true, decide_eq_true_eq] at hb
    exact ⟨hb.1, fun j hj => hb.2 j hj⟩
  · rw [if_neg (by omega)] at hb
    have := List.all_eq_true.1 hb j (List.mem_range.2 hj)
    obtain ⟨x, hx, hx2⟩ := List.any_eq_true.1 this
    rw [List.mem_range] at hx
    simp only [Bool.and_eq_true, decide_eq_true_eq] at hx2
    cases ho : l[x]? with
    | none => rw [ho] at hx2; cases hx2.2
    | some o' => rw [ho] at hx2; exact ⟨x, o', hx2.1, by omega, ho, hx2.2⟩

theorem waits_spec {o : Oper} {j : Nat} (h : waits o j = true) : ∃ e ∈ o.after, Region.binds .any e = true ∧ e.on = j := by
  simp only [waits, List.any_eq_true, Bool.and_eq_true, beq_iff_eq] at h
  obtain ⟨e, he, hb, hj⟩ := h
  exact ⟨e, by simpa using he, hb, hj⟩

/-- What is done has what it waits for behind it. -/
def Closed (l : List Oper) (listed : Array Bool) : Prop := ∀ j o, l[j]? = some o → listed.getD j false = true → ∀ e ∈ o.after, Region.binds .any e = true → listed.getD e.on false = true
theorem closed_all {k : Nat} {o : Oper} {listed : Array Bool} (hcl : Closed l listed) (ho : l[k]? = some o) (hr : ∀ e ∈ o.after, Region.binds .any e = true → listed.getD e.on false = true)
    (hw : ∀ j, j < k → ∃ x o', j < x ∧ x ≤ k ∧ l[x]? = some o' ∧ waits o' j = true) : ∀ d j, j + d = k → 0 < d → listed.getD j false = true := by
  intro d
  induction d using Nat.strongRecOn with
  | _ d ih =>
    intro j hj hd
    obtain ⟨x, o', h1, h2, h3, h4⟩ := hw j (by omega)
    obtain ⟨e, he, hb, hon⟩ := waits_spec h4
    rcases Nat.lt_or_ge x k with hx | hx
    · have := ih (k - x) (by omega) x (by omega) (by omega)
      rw [← hon]; exact hcl x o' h3 this e he hb
    · have hxk : x = k := by omega
      subst hxk
      rw [ho] at h3; cases h3
      rw [← hon]; exact hr e he hb

theorem wpAny_seq (hB : drawB l m W ds deps = true) {Q : Exit → Act → World → Prop} : ∀ (fuel k : Nat) (listed : Array Bool) (a : Act) (w : World), m ≤ k → k + fuel = l.length → listed.size = l.length →
    (∀ j, j < l.length → (listed.getD j true = false ↔ k ≤ j)) → wpList P l.toArray Q (l.drop k) a w → wpAny P .any l.toArray Q fuel listed a w := by
  obtain ⟨_, _, _, _, hsp⟩ := drawB_spec hB
  intro fuel
  induction fuel with
  | zero =>
    intro k listed a w hmk hk hs hl h
    have hkl : k = l.length := by omega
    refine ⟨?_, ?_⟩
    · cases hr : Region.ready .any l.toArray listed with
      | nil => rfl
      | cons i is =>
        have hi : i ∈ Region.ready .any l.toArray listed := by rw [hr]; simp
        obtain ⟨hu, o, ho, _⟩ := mem_ready.1 hi
        have hil : i < l.length := by simpa using (Array.getElem?_eq_some_iff.1 ho).1
        have := (hl i hil).1 hu
        omega
    · rw [hkl, List.drop_length] at h; exact h
  | succ fuel ih =>
    intro k listed a w hmk hk hs hl h
    have hkl : k < l.length := by omega
    obtain ⟨o, ho⟩ : ∃ o, l[k]? = some o := ⟨l[k], List.getElem?_eq_getElem hkl⟩
    have hlist : ∀ j, j < k → listed.getD j false = true := fun j hj => by
      have h1 : ¬ listed.getD j true = false := fun hh => by have := (hl j (by omega)).1 hh; omega
      rw [Array.getD_eq_getD_getElem?] at h1 ⊢
      have : j < listed.size := by omega
      rw [Array.getElem?_eq_getElem this] at h1 ⊢
      simpa using h1
    have hready : k ∈ Region.ready .any l.toArray listed := mem_ready.2 ⟨(hl k hkl).2 (Nat.le_refl _), o, by simpa using ho, fun e he hb => hlist _ ((hsp k o ho).1 e he hb)⟩
    have honly : ∀ i, i ∈ Region.ready .any l.toArray listed → i = k := fun i hi => by
      obtain ⟨hu, oi, hoi, hall⟩ := mem_ready.1 hi
      have hil : i < l.length := by simpa using (Array.getElem?_eq_some_iff.1 hoi).1
      have hki := (hl i hil).1 hu
      rcases Nat.eq_or_lt_of_le hki with he | hlt
      · exact he.symm
      · have hcl : Closed l listed := fun j o ho hj e he hb => by
          have hjk : j < k := by
            rcases Nat.lt_or_ge j k with h | h
            · exact h
            · have hjl := (List.getElem?_eq_some_iff.1 ho).1
              have h2 := (hl j hjl).2 h
              rw [Array.getD_eq_getD_getElem?, Array.getElem?_eq_getElem (by omega)] at hj h2
              simp at hj h2
              rw [h2] at hj; cases hj
          have := (hsp j o ho).1 e he hb
          exact hlist _ (by omega)
        have := closed_all hcl (by simpa using hoi) hall ((hsp i oi (by simpa using hoi)).2.2 (by omega)) (i - k) k (by omega) (by omega)
        have h2 := (hl k hkl).2 (Nat.le_refl _)
        rw [Array.getD_eq_getD_getElem?] at this h2
        have hks : k < listed.size := by omega
        rw [Array.getElem?_eq_getElem hks] at this h2
        simp at this h2
        rw [h2] at this; cases this
    refine ⟨fun hr => (by rw [hr] at hready; cases hready), fun i hi => ?_⟩
    have := honly i hi
    subst this
    have hd : l.drop i = o :: l.drop (i + 1) := by
      rw [List.drop_eq_getElem_cons hkl]
      congr 1
      exact (List.getElem?_eq_some_iff.1 ho).2
    rw [hd] at h
    have hset : ∀ j, j < l.length → ((listed.setIfInBounds i true).getD j true = false ↔ i + 1 ≤ j) := fun j hj => by
      by_cases hij : i = j
      · subst hij
        have : i < listed.size := by omega
        simp [Array.getD_eq_getD_getElem?, this]
      · rw [getD_set_ne true hij, hl j hj]; omega
    unfold wpOp
    have ho' : l.toArray[i]? = some o := by simpa using ho
    simp only [ho']
    unfold wpList at h
    by_cases hw : Region.wanted o (yielded l.toArray a.tmps) = true
    · rw [if_pos hw] at h ⊢
      exact h.imp (fun h => Oper.wp_mono (fun a' w' h' => ih (i + 1) _ a' w' (by omega) (by omega) (by simpa using hs) hset h') h) id
    · rw [if_neg hw] at h ⊢
      exact ih (i + 1) _ _ w (by omega) (by omega) (by simpa using hs) hset h

theorem wpAny_draw {KK : World → World → Prop} (hKK : Kept KK) {N : Env → World → Prop} {F : List (Value → World → Prop)} {e0 : Env} {w0 : World} (hB : drawB l m W ds deps = true) (hF : ∀ f, f ∈ F → ∀ v w w', f v w → KK w w' → f v w')
    (hc : certs KK P n l.toArray W ds F e0 w0 0 (l.take m) deps)
    (tail : ∀ (x : Env) (vs : Nat → Value) (w : World), KK w0 w → (∀ i, i < m → phi F i (vs i) w) → OW P n l.toArray N (l.drop m) (over (havoc W x e0) (depEnv ds vs (List.range m))) w) (Q : Exit → Act → World → Prop) :
    ∀ (fuel : Nat) (listed : Array Bool) (e : Env) (a : Act) (w : World), Fits n e a → KK w0 w → Agree W e0 e → listed.size = l.length →
      ((List.range l.length).filter fun j => !listed.getD j true).length = fuel →
      (∀ j, m ≤ j → j < l.length → listed.getD j true = false) → (∀ j, j < m → listed.getD j true = true → phi F j (e (ds.getD j 0)) w) → Closed l listed →
      wpAny P .any l.toArray (thenA n N Q) fuel listed a w := by
  obtain ⟨hml, hdl, hdpl, hnd, hsp⟩ := drawB_spec hB
  have hlist : ∀ (listed : Array Bool) (j : Nat), listed.size = l.length → j < l.length → ¬ listed.getD j true = false → listed.getD j false = true := fun listed j hs hj h1 => by
    rw [Array.getD_eq_getD_getElem?] at h1 ⊢
    rw [Array.getElem?_eq_getElem (by omega)] at h1 ⊢
    simpa using h1
  have hlist' : ∀ (listed : Array Bool) (j : Nat), listed.size = l.length → j < l.length → listed.getD j false = true → listed.getD j true = true := fun listed j hs hj h1 => by
    rw [Array.getD_eq_getD_getElem?] at h1 ⊢
    rw [Array.getElem?_eq_getElem (by omega)] at h1 ⊢
    simpa using h1
  intro fuel
  induction fuel with
  | zero =>
    intro listed e a w hf hk ha hs hcount htl hph hcl
    have hall : ∀ j, j < l.length → listed.getD j true = true := fun j hj => by
      cases hg : listed.getD j true with
      | true => rfl
      | false =>
        have : j ∈ (List.range l.length).filter fun j => !listed.getD j true := by rw [List.mem_filter, List.mem_range]; exact ⟨hj, by rw [hg]; rfl⟩
        rw [List.length_eq_zero_iff.1 hcount] at this; cases this
    have hm : m = l.length := by
      rcases Nat.lt_or_ge m l.length with h | h
      · have := htl m (Nat.le_refl _) h; rw [hall m h] at this; cases this
      · omega
    have ht := tail e (fun i => e (ds.getD i 0)) w hk (fun i hi => hph i hi (hall i (by omega)))
    rw [agree_havoc ha, over_get (by
      intro p hp
      have : ∀ (r : List Nat), p ∈ depEnv ds (fun i => e (ds.getD i 0)) r → e p.1 = p.2 := by
        intro r
        induction r with
        | nil => intro h; cases h
        | cons j r ih =>
          intro h
          rcases List.mem_cons.1 h with h | h
          · subst h; rfl
          · exact ih h
      exact this _ hp)] at ht
    have h2 := ht a hf Q
    exact wpAny_seq hB 0 m listed a w (Nat.le_refl _) (by omega) hs (fun j hj => ⟨fun h => (by rw [hall j hj] at h; cases h), fun h => (by omega)⟩) h2
  | succ fuel ih =>
    intro listed e a w hf hk ha hs hcount htl hph hcl
    by_cases hpre : ∀ j, j < m → listed.getD j true = true
    · have ht := tail e (fun i => e (ds.getD i 0)) w hk (fun i hi => hph i hi (hpre i hi))
      rw [agree_havoc ha, over_get (by
        intro p hp
        have : ∀ (r : List Nat), p ∈ depEnv ds (fun i => e (ds.getD i 0)) r → e p.1 = p.2 := by
          intro r
          induction r with
          | nil => intro h; cases h
          | cons j r ih =>
            intro h
            rcases List.mem_cons.1 h with h | h
            · subst h; rfl
            · exact ih h
        exact this _ hp)] at ht
      have h2 := ht a hf Q
      have hiff : ∀ j, j < l.length → (listed.getD j true = false ↔ m ≤ j) := fun j hj => by
        constructor
        · intro h
          rcases Nat.lt_or_ge j m with h' | h'
          · rw [hpre j h'] at h; cases h
          · exact h'
        · intro h; exact htl j h hj
      have hcnt : m + (fuel + 1) = l.length := by
        rw [← hcount]
        have : ∀ k, k ≤ l.length → m ≤ k → ((List.range k).filter fun j => !listed.getD j true).length = k - m := by
          intro k
          induction k with
          | zero => intro _ h; simp
          | succ k ihk =>
            intro hkl hmk
            rw [List.range_succ, List.filter_append, List.length_append]
            rcases Nat.lt_or_ge k m with h' | h'
            · have hkm : k + 1 = m := by omega
              have hz : ((List.range k).filter fun j => !listed.getD j true) = [] := by
                rw [List.filter_eq_nil_iff]
                intro j hj
                rw [List.mem_range] at hj
                rw [hpre j (by omega)]; simp
              have e1 : (!listed.getD k true) = false := by rw [hpre k h']; rfl
              simp only [hz, List.filter_cons, e1, List.filter_nil, List.length_nil]
              simp; omega
            · rw [ihk (by omega) h']
              have e1 : (!listed.getD k true) = true := by rw [(hiff k (by omega)).2 h']; rfl
              simp only [List.filter_cons, e1, List.filter_nil, if_true, List.length_cons, List.length_nil]
              omega
        have := this l.length (Nat.le_refl _) hml
        omega
      exact wpAny_seq hB (fuel + 1) m listed a w (Nat.le_refl _) hcnt hs hiff h2
    · have hex : ∃ j, j < m ∧ listed.getD j true = false ∧ ∀ i, i < j → listed.getD i true = true := by
        have : ∀ k, (∃ j, j < k ∧ listed.getD j true = false ∧ ∀ i, i < j → listed.getD i true = true) ∨ ∀ j, j < k → listed.getD j true = true := by
          intro k
          induction k with
          | zero => right; intro j hj; omega
          | succ k ihk =>
            rcases ihk with ⟨j, hj, h1, h2⟩ | h
            · exact .inl ⟨j, by omega, h1, h2⟩
            · cases hg : listed.getD k true with
              | false => exact .inl ⟨k, by omega, hg, h⟩
              | true =>
                right
                intro j hj
                rcases Nat.lt_or_ge j k with h' | h'
                · exact h j h'
                · rw [show j = k from by omega]; exact hg
        rcases this m with h | h
        · exact h
        · exact absurd h hpre
      obtain ⟨j0, hj0, hu0, hmin⟩ := hex
      obtain ⟨o0, ho0⟩ : ∃ o, l[j0]? = some o := ⟨l[j0]'(by omega), List.getElem?_eq_getElem (by omega)⟩
      have hr0 : j0 ∈ Region.ready .any l.toArray listed := mem_ready.2 ⟨hu0, o0, by simpa using ho0, fun ed he hb => by
        have hlt := (hsp j0 o0 ho0).1 ed he hb
        exact hlist listed _ hs (by omega) (by rw [hmin _ hlt]; simp)⟩
      refine ⟨fun hr => (by rw [hr] at hr0; cases hr0), fun i hi => ?_⟩
      obtain ⟨hu, o, ho, hall⟩ := mem_ready.1 hi
      have hil : i < l.length := by simpa using (Array.getElem?_eq_some_iff.1 ho).1
      have ho' : l[i]? = some o := by simpa using ho
      have him : i < m := by
        rcases Nat.lt_or_ge i m with h | h
        · exact h
        · have := hlist' listed j0 hs (by omega) (closed_all hcl ho' hall ((hsp i o ho').2.2 h) (i - j0) j0 (by omega) (by omega))
          rw [hu0] at this; cases this
      obtain ⟨hW, hdeps⟩ := (hsp i o ho').2.1 him
      obtain ⟨dp, hdp⟩ : ∃ d, deps[i]? = some d := ⟨deps[i]'(by omega), List.getElem?_eq_getElem (by omega)⟩
      have hgd : deps.getD i [] = dp := by rw [List.getD_eq_getElem?_getD, hdp]; rfl
      rw [hgd] at hdeps
      have hcert := certs_get (l.take m) deps 0 hc i o dp (by rw [List.getElem?_take, if_pos him]; exact ho') hdp
      rw [Nat.zero_add] at hcert
      have h1 := hcert e (fun j => e (ds.getD j 0)) w _ hk (depsHold_of fun j hj => by
        obtain ⟨hwj, hjm⟩ := hdeps j hj
        obtain ⟨ed, he, hb, hej⟩ := waits_spec hwj
        exact hph j hjm (hlist' listed j hs (by omega) (by rw [← hej]; exact hall ed he hb))) rfl
      rw [agree_havoc ha, over_get (by
        intro p hp
        have : ∀ (r : List Nat), p ∈ depEnv ds (fun i => e (ds.getD i 0)) r → e p.1 = p.2 := by
          intro r
          induction r with
          | nil => intro h; cases h
          | cons j r ih =>
            intro h
            rcases List.mem_cons.1 h with h | h
            · subst h; rfl
            · exact ih h
        exact this _ hp)] at h1
      have h2 := h1 a hf Q
      have next : ∀ (a' : Act) (w' : World), thenA n (fun e' w' => KK w w' ∧ phi F i (e' (ds.getD i 0)) w' ∧ Agree [ds.getD i 0] e e') Q .normal a' w' →
          wpAny P .any l.toArray (thenA n N Q) fuel (listed.setIfInBounds i true) a' w' := fun a' w' hq => by
        obtain ⟨e', hf', hk', hphi, hag⟩ := hq
        refine ih _ e' a' w' hf' (hKK.trans hk hk') ?_ (by simpa using hs) ?_ ?_ ?_ ?_
        · intro t ht
          have hne : t ≠ ds.getD i 0 := fun he => by rw [he, hW] at ht; cases ht
          rw [hag t (by simpa using hne)]; exact ha t ht
        · have hcnt : ∀ k, k ≤ l.length → ((List.range k).filter fun j => !(listed.setIfInBounds i true).getD j true).length + (if i < k then 1 else 0) = ((List.range k).filter fun j => !listed.getD j true).length := by
            intro k
            induction k with
            | zero => simp
            | succ k ihk =>
              intro hkl
              have ih2 := ihk (by omega)
              rw [List.range_succ, List.filter_append, List.length_append, List.filter_append, List.length_append]
              by_cases hik : i = k
              · subst hik
                rw [if_neg (by omega)] at ih2
                have hlt : i < listed.size := by omega
                have e1 : (listed.setIfInBounds i true).getD i true = true := by simp [Array.getD_eq_getD_getElem?, hlt]
                rw [if_pos (by omega)]
                simp only [List.filter_cons, e1, hu, List.filter_nil, Bool.not_true, Bool.not_false, if_true, Bool.false_eq_true, if_false, List.length_cons, List.length_nil]
                omega
              · have e1 : (listed.setIfInBounds i true).getD k true = listed.getD k true := getD_set_ne true hik
                simp only [List.filter_cons, e1, List.filter_nil]
                have hii : (i < k + 1) ↔ (i < k) := by omega
                by_cases hc' : i < k
                · have c1 : i < k + 1 := by omega
                  rw [if_pos hc'] at ih2; rw [if_pos c1]; split <;> simp only [List.length_cons, List.length_nil] <;> omega
                · have c1 : ¬ i < k + 1 := by omega
                  rw [if_neg hc'] at ih2; rw [if_neg c1]; split <;> simp only [List.length_cons, List.length_nil] <;> omega
          have := hcnt l.length (Nat.le_refl _)
          rw [if_pos hil] at this
          omega
        · intro j hmj hjl
          rw [getD_set_ne true (by omega)]; exact htl j hmj hjl
        · intro j hjm hj
          by_cases hij : i = j
          · subst hij; exact hphi
          · rw [getD_set_ne true hij] at hj
            have hne : ds.getD j 0 ≠ ds.getD i 0 := by
              rw [List.getD_eq_getElem?_getD, List.getD_eq_getElem?_getD, List.getElem?_eq_getElem (by omega), List.getElem?_eq_getElem (by omega)]
              simp only [Option.getD_some]
              intro he
              exact hij ((List.getElem_inj hnd).1 he.symm)
            rw [hag _ (by simpa using hne)]
            exact phi_keep hF j (hph j hjm hj) hk'
        · intro j oj hoj hj e2 he2 hb2
          have hup : ∀ x, listed.getD x false = true → (listed.setIfInBounds i true).getD x false = true := fun x hx => by
            by_cases hix : i = x
            · subst hix
              have : i < listed.size := by omega
              simp [Array.getD_eq_getD_getElem?, this]
            · rw [getD_set_ne false hix]; exact hx
          by_cases hij : i = j
          · subst hij
            rw [ho'] at hoj; cases hoj
            exact hup _ (hall e2 he2 hb2)
          · rw [getD_set_ne false hij] at hj
            exact hup _ (hcl j oj hoj hj e2 he2 hb2)
      unfold wpOp
      simp only [ho]
      unfold wpList at h2
      by_cases hw : Region.wanted o (yielded l.toArray a.tmps) = true
      · rw [if_pos hw] at h2 ⊢
        rcases h2 with h2 | ⟨h2, h3⟩
        · refine .inl (Oper.wp_monoQ (fun a' w' h' => next a' w' h') (fun _ _ _ h => h) (fun ⟨a, w, hq⟩ => ⟨a, w, hq⟩) h2)
        · exact .inr ⟨h2, by obtain ⟨a', w', hq⟩ := h3; exact ⟨a', w', hq⟩⟩
      · rw [if_neg hw] at h2 ⊢
        exact next _ _ h2

/-- A region that draws its order. -/
theorem cw_draw {N R : Env → World → Prop} {X : Nat → Env → World → Prop} {id : Nat} {e0 : Env} {w0 : World} (hm : P.follows .mixedOrders = true) {KK : World → World → Prop} (hKK : Kept KK) (m : Nat) (W ds : List Nat) (deps : List (List Nat)) (F : List (Value → World → Prop))
    (hB : drawB l m W ds deps = true) (hF : stab KK F)
    (hc : ∀ wd, KK w0 wd → certs KK P n l.toArray W ds F e0 wd 0 (l.take m) deps)
    (tail : ∀ (x : Env) (vs : Nat → Value) (w : World), KK w0 w → (∀ i, i < m → phi F i (vs i) w) → OW P n l.toArray N (l.drop m) (over (havoc W x e0) (depEnv ds vs (List.range m))) w) :
    CW P n (.region id l.toArray true) N R X e0 w0 := fun a ha => by
  refine wp_region_any hm ?_
  have hk0 : Keep [] w0 { w0 with drawn := w0.drawn + 1 } := Keep.drew _ _
  have := wpAny_draw hKK (N := N) (e0 := e0) (w0 := { w0 with drawn := w0.drawn + 1 }) hB (stab_all hF) (hc _ (hKK.of hk0)) (fun x vs w hk => tail x vs w (hKK.trans (hKK.of hk0) hk)) (exits n N R X) l.length (Array.replicate l.length false) e0 a _ ha (hKK.refl _) agree_refl (by simp)
    (by
      have : ((List.range l.length).filter fun j => !(Array.replicate l.length false).getD j true) = List.range l.length := by
        rw [List.filter_eq_self]
        intro j hj
        rw [List.mem_range] at hj
        simp [Array.getD_eq_getD_getElem?, hj]
      rw [this]; simp)
    (by intro j _ hj; simp [Array.getD_eq_getD_getElem?, hj])
    (by
      intro j hj h
      have := (drawB_spec hB).1
      have hj' : j < l.length := by omega
      simp [Array.getD_eq_getD_getElem?, hj'] at h)
    (by
      intro j o ho hj
      have hj' : j < l.length := (List.getElem?_eq_some_iff.1 ho).1
      simp [Array.getD_eq_getD_getElem?, hj'] at hj)
  have e1 : thenA n N (exits n N R X) = exits n N R X := by
    funext x a w; cases x <;> rfl
  rw [e1] at this
  simpa using this
end
end Go.Proofs.YtnkjgoholocliaaGreatDoor

namespace Go.Proofs.YtnkjgoholocliaaGreatDoor
open Go

/-- What a test says, in plain words. -/
class Tst (p : Prop) (q : outParam Prop) : Prop where
  imp : p → q
instance (priority := low) {p : Prop} : Tst p p := ⟨id⟩
instance {p : Prop} {i : Decidable p} : Tst (@decide p i = true) p := ⟨of_decide_eq_true⟩
instance {p : Prop} {i : Decidable p} : Tst (@decide p i = false) (¬ p) := ⟨of_decide_eq_false⟩
instance {b : Bool} : Tst ((!b) = true) (b = false) := ⟨fun h => by simpa using h⟩
instance {b : Bool} : Tst ((!b) = false) (b = true) := ⟨fun h => by simpa using h⟩
theorem tst {p q : Prop} [t : Tst p q] (h : p) : q := t.imp h

section
variable {P : Program} {n : Nat} {N R : Env → World → Prop} {X : Nat → Env → World → Prop} {e : Env} {w : World}
theorem zc {c : Operand} {x y : Code} {t : Bool} (hc : ev e c = .bool t) {p q : Prop} [hp : Tst (t = true) p] [hq : Tst (t = false) q] (hx : p → CW P n x N R X e w) (hy : q → CW P n y N R X e w) : CW P n (.cond c x y) N R X e w :=
  cw_cond hc (fun h => hx (hp.imp h)) (fun h => hy (hq.imp h))
theorem zr {id : Nat} {l : List Oper} {y : Code} (h : OW P n l.toArray (fun e w => CW P n y N R X e w) l e w) : CW P n ((Code.region id l.toArray false).seq y) N R X e w := cw_seq (cw_region h)
end
section
variable {P : Program} {n : Nat} {ops : Array Oper} {K : Env → World → Prop} {rest : List Oper} {e : Env} {w : World}
  {dst : Option Nat} {ty : TypeId} {pos : String} {after : Array Edge} {g : Option (Nat × Bool)} {x y : Operand} {T T' : TypeId}
theorem zm (k : OW P n ops K rest (put? e dst (ev e x)) w) (hg : gate ops e g = true := by rfl) (hd : okDst n dst = true := by rfl) : OW P n ops K (⟨dst, .move x, ty, pos, after, g⟩ :: rest) e w := ow_move hg hd k
theorem zA (k : OW P n ops K rest (put? e dst (ev e x)) w) (hg : gate ops e g = true := by rfl) (hd : okDst n dst = true := by rfl) : OW P n ops K (⟨dst, .assign x, ty, pos, after, g⟩ :: rest) e w := ow_assign hg hd k
theorem zs {op : Op} (k : OW P n ops K rest (put? e dst undef) w) (hg : gate ops e g = false := by rfl) (hd : okDst n dst = true := by rfl) : OW P n ops K (⟨dst, op, ty, pos, after, g⟩ :: rest) e w := ow_skip hg hd k
theorem zp {c : Operand} {t : Bool} (hc : ev e c = .bool t) (k : OW P n ops K rest (put? e dst (bif t then ev e x else ev e y)) w) (hg : gate ops e g = true := by rfl) (hd : okDst n dst = true := by rfl) : OW P n ops K (⟨dst, .pick c x y, ty, pos, after, g⟩ :: rest) e w := ow_pick hg hd hc k
theorem zf {S i off : Nat} {b o : Nat} (hS : fieldOff P S i = some off) (hx : ev e x = .pointer (some ⟨b, o, none⟩)) (k : OW P n ops K rest (put? e dst (.pointer (some ⟨b, o + off, none⟩))) w) (hg : gate ops e g = true := by rfl) (hd : okDst n dst = true := by rfl) :
    OW P n ops K (⟨dst, .fieldAddr S x i, ty, pos, after, g⟩ :: rest) e w := ow_fieldAddr hS hg hd hx k
theorem zl {a : Addr} {v : Value} (hT : oneB P T = true) (hx : ev e x = .pointer (some a)) (hc : w.cell? a = some v) (k : OW P n ops K rest (put? e dst v) w) (hg : gate ops e g = true := by rfl) (hd : okDst n dst = true := by rfl) :
    OW P n ops K (⟨dst, .load T x, ty, pos, after, g⟩ :: rest) e w := ow_load hT hg hd hx hc k
theorem zL {sz bytes : Nat} {z : Value} {b o : Nat} {vs : List Value} (hT : aggB P T = true) (hTI : TI P T sz bytes z) (hx : ev e x = .pointer (some ⟨b, o, none⟩)) (hc : CellsAt w b o vs) (hl : vs.length = sz) (k : OW P n ops K rest (put? e dst (.agg vs.toArray)) w) (hg : gate ops e g = true := by rfl) (hd : okDst n dst = true := by rfl) :
    OW P n ops K (⟨dst, .load T x, ty, pos, after, g⟩ :: rest) e w := ow_loads hT hTI hg hd hx hc hl k
theorem zi {T E : TypeId} {sz bytes : Nat} {z : Value} {b o len cap i : Nat} {ki : IntKind} (hT : P.underlying T = some (.slice E)) (hE : TI P E sz bytes z) (hx : ev e x = .slice (some ⟨b, o, none⟩) len cap) (hy : ev e y = .int ki (i : Int)) (hi : i < len)
    (k : OW P n ops K rest (put? e dst (.pointer (some ⟨b, o + i * sz, none⟩))) w) (hg : gate ops e g = true := by rfl) (hd : okDst n dst = true := by rfl) : OW P n ops K (⟨dst, .indexAddr T x y, ty, pos, after, g⟩ :: rest) e w := ow_indexAddr hT hE hg hd hx hy hi k
theorem zx {i : Nat} {vs : List Value} {v : Value} (hx : ev e x = .tuple vs.toArray) (hi : vs[i]? = some v) (k : OW P n ops K rest (put? e dst v) w) (hg : gate ops e g = true := by rfl) (hd : okDst n dst = true := by rfl) :
    OW P n ops K (⟨dst, .extract x i, ty, pos, after, g⟩ :: rest) e w := ow_extract hg hd hx hi k
end
end Go.Proofs.YtnkjgoholocliaaGreatDoor
