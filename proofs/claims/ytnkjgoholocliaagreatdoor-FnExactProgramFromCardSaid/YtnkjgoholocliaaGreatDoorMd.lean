/-
  Lemmas for the law of ProgramFrom, no statement of their own: slices that grow, and what a call owns.
-/
import Derived.Test.YtnkjgoholocliaaGreatDoorMb
import Derived.Test.YtnkjgoholocliaaGreatDoorMc
import Derived.Laws.IdiomStrings
namespace Go.Proofs.YtnkjgoholocliaaGreatDoor
open Go

/-- The slice v is one's own: its block g lies from B on; its rows read as data outside the blocks of L (those of boxes that are written). -/
structure Gr (B : Nat) (L : List Nat) (w : World) (T : TypeId) (sz : Nat) (v : Value) (g : Option Nat) (rows : List (List C)) : Prop where
  own : ∃ xs, OwnR L w T sz v g rows xs
  low : ∀ b, g = some b → B ≤ b
  lim : ∀ x, x ∈ L → x < w.heap.size
  bsz : B ≤ w.heap.size

theorem Gr.nil {B : Nat} {L : List Nat} {w : World} {T : TypeId} {sz : Nat} (hL : ∀ x, x ∈ L → x < w.heap.size) (hB : B ≤ w.heap.size) : Gr B L w T sz (.slice none 0 0) none [] :=
  ⟨⟨[], OwnR.nil _ _ _ _⟩, by simp, hL, hB⟩
theorem Gr.keep {B : Nat} {L L' : List Nat} {w w' : World} {T : TypeId} {sz : Nat} {v : Value} {g : Option Nat} {rows : List (List C)} (h : Gr B L w T sz v g rows) (k : Keep L' w w') (hL : ∀ x, x ∈ L' → x ∈ L) : Gr B L w' T sz v g rows :=
  ⟨h.own.imp fun _ h => h.keep k hL, h.low, fun x hx => Nat.lt_of_lt_of_le (h.lim x hx) k.size, Nat.le_trans h.bsz k.size⟩
theorem Gr.ext {B : Nat} {L : List Nat} {w w' : World} {T : TypeId} {sz : Nat} {v : Value} {g : Option Nat} {rows : List (List C)} (h : Gr B L w T sz v g rows) (k : Keep [] w w') : Gr B L w' T sz v g rows := h.keep k (by simp)
theorem Gr.sto {B : Nat} {L L' : List Nat} {w w' : World} {T : TypeId} {sz : Nat} {v : Value} {g : Option Nat} {rows : List (List C)} (h : Gr B L w T sz v g rows) (k : Keep L' w w') (hL : ∀ x, x ∈ L' → x ∈ L) : Gr B L w' T sz v g rows := h.keep k hL
/-- A box more, that is written. -/
theorem Gr.alloc {B : Nat} {L : List Nat} {w w' : World} {T : TypeId} {sz : Nat} {v : Value} {g : Option Nat} {rows : List (List C)} (h : Gr B L w T sz v g rows) (k : Keep [] w w') (hz : w'.heap.size = w.heap.size + 1) : Gr B (w.heap.size :: L) w' T sz v g rows :=
  ⟨h.own.imp fun _ h => (h.more grow_mem).keep k (by simp), h.low, fun x hx => by rcases List.mem_cons.1 hx with rfl | hx; omega; have := h.lim x hx; omega, Nat.le_trans h.bsz k.size⟩
theorem Gr.weak {B : Nat} {L L' : List Nat} {w : World} {T : TypeId} {sz : Nat} {v : Value} {g : Option Nat} {rows : List (List C)} (h : Gr B L w T sz v g rows) (hL : ∀ x, x ∈ L' → x ∈ L) : Gr B L' w T sz v g rows :=
  ⟨h.own.imp fun _ h => h.more fun x hx => .inl (hL x hx), h.low, fun x hx => h.lim x (hL x hx), h.bsz⟩
theorem Gr.done {B : Nat} {L : List Nat} {w : World} {T : TypeId} {sz : Nat} {v : Value} {g : Option Nat} {rows : List (List C)} (h : Gr B L w T sz v g rows) : Rep L w v (.sl sz rows) := by
  obtain ⟨_, h⟩ := h.own; exact h.done
theorem Gr.sepL {B : Nat} {L : List Nat} {w : World} {T : TypeId} {sz : Nat} {v : Value} {g : Option Nat} {rows : List (List C)} (h : Gr B L w T sz v g rows) {b : Nat} (hb : b ∈ L) : b ∉ g.toList := by
  obtain ⟨_, h⟩ := h.own; exact h.sep hb
theorem Gr.sepB {B : Nat} {L : List Nat} {w : World} {T : TypeId} {sz : Nat} {v : Value} {g : Option Nat} {rows : List (List C)} (h : Gr B L w T sz v g rows) {b : Nat} (hb : b < B) : b ∉ g.toList := by
  intro hx; have := h.low b (by simpa using hx); omega
theorem Gr.lt {B : Nat} {L : List Nat} {w : World} {T : TypeId} {sz : Nat} {v : Value} {g : Option Nat} {rows : List (List C)} (h : Gr B L w T sz v g rows) : ∀ x, x ∈ g.toList → x < w.heap.size := by
  obtain ⟨_, h⟩ := h.own; intro x hx; exact h.own.lt x (by simpa using hx)
theorem Gr.all {B : Nat} {L : List Nat} {w : World} {T : TypeId} {sz : Nat} {v : Value} {g : Option Nat} {rows : List (List C)} (h : Gr B L w T sz v g rows) : ∀ x, x ∈ g.toList ++ L → x < w.heap.size := by
  intro x hx
  rcases List.mem_append.1 hx with hx | hx
  · exact h.lt x hx
  · exact h.lim x hx
/-- What was so in the world at which the slice begins stays so while it grows. -/
theorem Gr.since {L L' : List Nat} {w0 w w' : World} {T : TypeId} {sz : Nat} {v : Value} {g : Option Nat} {rows : List (List C)} (h : Gr w0.heap.size L w T sz v g rows) (k0 : Keep L' w0 w) (k : Keep g.toList w w') : Keep L' w0 w' :=
  k0.since k fun x hx => .inr (h.low x (by simpa using hx))
theorem Keep.older {L' : List Nat} {w0 w w' : World} {B : Nat} {g : Option Nat} (hB : w0.heap.size ≤ B) (hl : ∀ b, g = some b → B ≤ b) (k0 : Keep L' w0 w) (k : Keep g.toList w w') : Keep L' w0 w' :=
  k0.since k fun x hx => .inr (Nat.le_trans hB (hl x (by simpa using hx)))

section
variable {P : Program} {n : Nat} {ops : Array Oper} {K : Env → World → Prop} {rest : List Oper} {e : Env} {w : World}
  {dst : Option Nat} {ty : TypeId} {pos : String} {after : Array Edge} {g : Option (Nat × Bool)} {x y : Operand}
theorem ow_grow {B : Nat} {L : List Nat} {t E sz bytes : Nat} {z : Value} {v : Value} {gb : Option Nat} {rows : List (List C)} {row : List C} {news : List Value} {b U : Nat} (hT : P.underlying t = some (.slice E)) (hE : TI P E sz bytes z) (hg : gate ops e g = true) (hd : okDst n dst = true) (hz : Nat.beq z.cells.size sz = true) (hby : Nat.ble bytes 1000 = true)
    (hx : ev e x = v) (hy : ev e y = .slice (some ⟨b, 0, none⟩) 1 1) (hO : Gr B L w E sz v gb rows) (hb : Blk w b news.toArray U) (hrow : row.length = sz) (h1 : news.all Value.oneCell' = true)
    (hr : RepL (gb.toList ++ L) w news row) (hn : rows.length < 100000000)
    (k : ∀ a' cap' g' w', Gr B L w' E sz (.slice a' (rows.length + 1) cap') g' (rows ++ [row]) → Keep gb.toList w w' → OW P n ops K rest (put? e dst (.slice a' (rows.length + 1) cap')) w') :
    OW P n ops K (⟨dst, .call { callee := .builtin .append, args := #[x, y], argTypes := #[t, t] }, ty, pos, after, g⟩ :: rest) e w := by
  obtain ⟨xs, hR⟩ := hO.own
  have hby' : bytes ≤ 1000 := Nat.le_of_ble_eq_true hby
  refine ow_app1 hT hE hg hd hz hx hy hR hrow hb.all (fun u hu => List.all_eq_true.1 h1 u hu) hr hO.lim (Nat.le_trans (Nat.mul_le_mul (show rows.length + 1 ≤ 100000000 by omega) (show bytes + 1 ≤ 1001 by omega)) (by decide)) ?_
  intro a' cap' g' w' hO' hk hg'
  refine k a' cap' g' w' ⟨⟨_, hO'⟩, fun b hb => ?_, fun x hx => Nat.lt_of_lt_of_le (hO.lim x hx) hk.size, Nat.le_trans hO.bsz hk.size⟩ hk
  rcases hg' with h | h
  · rw [h] at hb; exact hO.low b hb
  · rw [h] at hb; cases hb; exact hO.bsz
/-- A form behind others. -/
theorem ow_growT {B : Nat} {L : List Nat} {t E bytes : Nat} {z : Value} {v u1 u2 : Value} {gb : Option Nat} {ts : List Tree} {f : Tree} {b U : Nat} (hT : P.underlying t = some (.slice E)) (hE : TI P E 2 bytes z) (hg : gate ops e g = true) (hd : okDst n dst = true) (hz : Nat.beq z.cells.size 2 = true) (hby : Nat.ble bytes 1000 = true)
    (hx : ev e x = v) (hy : ev e y = .slice (some ⟨b, 0, none⟩) 1 1) (hO : Gr B L w E 2 v gb (encs ts)) (hb : Blk w b [u1, u2].toArray U)
    (hr : RTree (gb.toList ++ L) w (.agg #[u1, u2]) f) (hn : ts.length < 100000000)
    (k : ∀ a' cap' g' w', Gr B L w' E 2 (.slice a' (ts ++ [f]).length cap') g' (encs (ts ++ [f])) → Keep gb.toList w w' → OW P n ops K rest (put? e dst (.slice a' (ts ++ [f]).length cap')) w') :
    OW P n ops K (⟨dst, .call { callee := .builtin .append, args := #[x, y], argTypes := #[t, t] }, ty, pos, after, g⟩ :: rest) e w := by
  refine ow_grow hT hE hg hd hz hby hx hy hO hb (enc_length f) ?_ hr.repl (by rw [encs_length]; exact hn) ?_
  · rw [List.all_eq_true]
    refine fun u hu => RepL.allOne hr.repl (fun c hc v hv => ?_) u hu
    cases f; rw [Tree.enc] at hc
    simp only [List.mem_cons, List.not_mem_nil, or_false] at hc
    rcases hc with h | h
    · rw [h] at hv; cases hv; rfl
    · rw [h] at hv; cases hv
  · intro a' cap' g' w' hO' hk
    have e1 : (encs ts).length + 1 = (ts ++ [f]).length := by simp [encs_length]
    have e2 : encs ts ++ [f.enc] = encs (ts ++ [f]) := by simp [encs_append, encs]
    rw [e1] at hO' ⊢
    rw [e2] at hO'
    exact k a' cap' g' w' hO' hk
/-- A text behind others. -/
theorem ow_growS {B : Nat} {L : List Nat} {t E bytes : Nat} {z : Value} {v : Value} {gb : Option Nat} {ss : List Bytes} {s : Bytes} {b U : Nat} (hT : P.underlying t = some (.slice E)) (hE : TI P E 1 bytes z) (hg : gate ops e g = true) (hd : okDst n dst = true) (hz : Nat.beq z.cells.size 1 = true) (hby : Nat.ble bytes 1000 = true)
    (hx : ev e x = v) (hy : ev e y = .slice (some ⟨b, 0, none⟩) 1 1) (hO : Gr B L w E 1 v gb (strsC ss)) (hb : Blk w b [str s].toArray U) (hn : ss.length < 100000000)
    (k : ∀ a' cap' g' w', Gr B L w' E 1 (.slice a' (ss ++ [s]).length cap') g' (strsC (ss ++ [s])) → Keep gb.toList w w' → OW P n ops K rest (put? e dst (.slice a' (ss ++ [s]).length cap')) w') :
    OW P n ops K (⟨dst, .call { callee := .builtin .append, args := #[x, y], argTypes := #[t, t] }, ty, pos, after, g⟩ :: rest) e w := by
  refine ow_grow (row := [.val (str s)]) hT hE hg hd hz hby hx hy hO hb rfl rfl ⟨.val _, trivial⟩ (by rw [strsC_length]; exact hn) ?_
  intro a' cap' g' w' hO' hk
  have e1 : (strsC ss).length + 1 = (ss ++ [s]).length := by simp [strsC_length]
  have e2 : strsC ss ++ [[.val (str s)]] = strsC (ss ++ [s]) := by simp [strsC]
  rw [e1] at hO' ⊢
  rw [e2] at hO'
  exact k a' cap' g' w' hO' hk
end

/-- 'T{}' of no element. -/
theorem run_buildSlice0 {P : Program} {w : World} {T E sz bytes : Nat} {z : Value} (hT : P.underlying T = some (.slice E)) (hE : TI P E sz bytes z) : (Instr.buildSlice T 0 #[]).run P w = .ok (.slice (some ⟨w.heap.size, 0, none⟩) 0 0) (w.alloc (.cells #[] E)) := by
  simp [Instr.buildSlice, Sem.run_bind, run_underlying hT, Result.andThen_ok, hE.run_size, Instr.fill, newRow]; congr 2; apply Array.ext <;> simp
theorem ow_buildSlice0 {P : Program} {n : Nat} {ops : Array Oper} {K : Env → World → Prop} {rest : List Oper} {e : Env} {w : World} {dst : Option Nat} {ty : TypeId} {pos : String} {after : Array Edge} {g : Option (Nat × Bool)}
    {T E sz bytes : Nat} {z : Value} (B : Nat) (L : List Nat) (hT : P.underlying T = some (.slice E)) (hE : TI P E sz bytes z) (hg : gate ops e g = true) (hd : okDst n dst = true) (hB : B ≤ w.heap.size) (hL : ∀ x, x ∈ L → x < w.heap.size)
    (k : ∀ w', Keep [] w w' → w'.heap.size = w.heap.size + 1 → Gr B L w' E sz (.slice (some ⟨w.heap.size, 0, none⟩) 0 0) (some w.heap.size) [] → OW P n ops K rest (put? e dst (.slice (some ⟨w.heap.size, 0, none⟩) 0 0)) w') :
    OW P n ops K (⟨dst, .buildSlice T 0 #[], ty, pos, after, g⟩ :: rest) e w :=
  ow_val hg hd (w' := w.alloc (.cells #[] E)) (by simp [execOp, run_buildSlice0 (P := P) (w := w) hT hE])
    (k _ (Keep.alloc _ _ _) (by simp) ⟨⟨[], ⟨by simp, .inr ⟨w.heap.size, 0, #[], rfl, rfl, Blk.alloc _ _ _, Nat.le_refl _, by decide, by simp, by simp⟩⟩, trivial, by simp, by intro b hb hx; cases hb; have := hL _ hx; omega⟩,
      by intro b hb; cases hb; exact hB, fun x hx => by have := hL x hx; simp; omega, by simp; omega⟩)
/-- A block of a program behind others. -/
theorem RBk.repl {L : List Nat} {w : World} {x y z : Value} {b : Bk} (h : RBk L w (.agg #[x, y, z]) b) : RepL L w [x, y, z] b.enc := by
  obtain ⟨vs, he, hr⟩ := h
  have hv : vs = [x, y, z] := by
    have := congrArg (fun v => match v with | Value.agg x => x.toList | _ => []) he
    simpa using this.symm
  rw [← hv]; exact hr
theorem ow_growK {P : Program} {n : Nat} {ops : Array Oper} {K : Env → World → Prop} {rest : List Oper} {e : Env} {w : World} {dst : Option Nat} {ty : TypeId} {pos : String} {after : Array Edge} {g : Option (Nat × Bool)} {x y : Operand}
    {B : Nat} {L : List Nat} {t E bytes : Nat} {z : Value} {v u1 u2 u3 : Value} {gb : Option Nat} {ts : List Bk} {f : Bk} {b U : Nat} (hT : P.underlying t = some (.slice E)) (hE : TI P E 3 bytes z) (hg : gate ops e g = true) (hd : okDst n dst = true) (hz : Nat.beq z.cells.size 3 = true) (hby : Nat.ble bytes 1000 = true)
    (hx : ev e x = v) (hy : ev e y = .slice (some ⟨b, 0, none⟩) 1 1) (hO : Gr B L w E 3 v gb (ts.map Bk.enc)) (hb : Blk w b [u1, u2, u3].toArray U)
    (hr : RBk (gb.toList ++ L) w (.agg #[u1, u2, u3]) f) (hn : ts.length < 100000000)
    (k : ∀ a' cap' g' w', Gr B L w' E 3 (.slice a' (ts ++ [f]).length cap') g' ((ts ++ [f]).map Bk.enc) → Keep gb.toList w w' → OW P n ops K rest (put? e dst (.slice a' (ts ++ [f]).length cap')) w') :
    OW P n ops K (⟨dst, .call { callee := .builtin .append, args := #[x, y], argTypes := #[t, t] }, ty, pos, after, g⟩ :: rest) e w := by
  refine ow_grow hT hE hg hd hz hby hx hy hO hb rfl ?_ hr.repl (by simpa using hn) ?_
  · rw [List.all_eq_true]
    refine fun u hu => RepL.allOne hr.repl (fun c hc v hv => ?_) u hu
    rw [Bk.enc] at hc
    simp only [List.mem_cons, List.not_mem_nil, or_false] at hc
    rcases hc with h | h | h
    · rw [h] at hv; cases hv; rfl
    · rw [h] at hv; cases hv
    · rw [h] at hv; cases hv
  · intro a' cap' g' w' hO' hk
    have e1 : (ts.map Bk.enc).length + 1 = (ts ++ [f]).length := by simp
    have e2 : ts.map Bk.enc ++ [f.enc] = (ts ++ [f]).map Bk.enc := by simp
    rw [e1] at hO' ⊢
    rw [e2] at hO'
    exact k a' cap' g' w' hO' hk
theorem Gr.bks {B : Nat} {L : List Nat} {w : World} {T : TypeId} {v : Value} {g : Option Nat} {bs : List Bk} (h : Gr B L w T 3 v g (bs.map Bk.enc)) : RBks L w v bs := h.done

/-! ### Owned lists of texts, owned programs -/
/-- A list of texts whose block one may write. -/
def OStr (w : World) (T : TypeId) (v : Value) (g : Option Nat) (xs : List Bytes) : Prop := Own w T 1 v g xs.length (xs.map fun x => str x)
theorem repL_strs {L : List Nat} {w : World} : ∀ {xs : List Bytes} {vs : List Value}, RepL L w vs (strsC xs).flatten → vs = xs.map fun x => str x
  | [], vs, h => by
    cases vs with
    | nil => rfl
    | cons v vs => exact h.elim
  | x :: xs, vs, h => by
    cases vs with
    | nil => exact h.elim
    | cons v vs =>
      obtain ⟨h1, h2⟩ := h
      cases h1
      rw [List.map_cons, ← repL_strs (xs := xs) h2]
theorem strs_repL {L : List Nat} {w : World} : ∀ xs : List Bytes, RepL L w (xs.map fun x => str x) (strsC xs).flatten
  | [] => trivial
  | _ :: xs => ⟨.val _, strs_repL xs⟩
theorem Gr.ostr {B : Nat} {L : List Nat} {w : World} {T : TypeId} {v : Value} {g : Option Nat} {xs : List Bytes} (h : Gr B L w T 1 v g (strsC xs)) : OStr w T v g xs := by
  obtain ⟨vs, h⟩ := h.own
  have := h.own
  rw [repL_strs h.rep, strsC_length] at this
  exact this
theorem OStr.ownR {L : List Nat} {w : World} {T : TypeId} {v : Value} {g : Option Nat} {xs : List Bytes} (h : OStr w T v g xs) (hL : ∀ b, g = some b → b ∉ L) : OwnR L w T 1 v g (strsC xs) (xs.map fun x => str x) :=
  ⟨by rw [strsC_length]; exact h, strs_repL xs, by intro row hr; simp [strsC] at hr; obtain ⟨_, _, rfl⟩ := hr; rfl, hL⟩
theorem OStr.rep {L : List Nat} {w : World} {T : TypeId} {v : Value} {g : Option Nat} {xs : List Bytes} (h : OStr w T v g xs) (hL : ∀ b, g = some b → b ∉ L) : RStrs L w v xs := (h.ownR hL).done
theorem OStr.keep {L : List Nat} {w w' : World} {T : TypeId} {v : Value} {g : Option Nat} {xs : List Bytes} (h : OStr w T v g xs) (k : Keep L w w') (hL : ∀ b, g = some b → b ∉ L) : OStr w' T v g xs := Own.keep h k hL
theorem OStr.ext {w w' : World} {T : TypeId} {v : Value} {g : Option Nat} {xs : List Bytes} (h : OStr w T v g xs) (k : Keep [] w w') : OStr w' T v g xs := h.keep k (by simp)
theorem OStr.nil {w : World} {T : TypeId} : OStr w T (.slice none 0 0) none [] := Own.nil _ _ _

/-- A block of a program, its lists one's own. -/
def OBk (w : World) (T : TypeId) (gs : Option Nat × Option Nat) (vs : List Value) (b : Bk) : Prop :=
  ∃ v1 v2, vs = [str b.label, v1, v2] ∧ OStr w T v1 gs.1 b.needs ∧ OStr w T v2 gs.2 b.code
def twoL (gs : Option Nat × Option Nat) : List Nat := gs.1.toList ++ gs.2.toList
def allG (gss : List (Option Nat × Option Nat)) : List Nat := gss.flatMap twoL
theorem OBk.keep {L : List Nat} {w w' : World} {T : TypeId} {gs : Option Nat × Option Nat} {vs : List Value} {b : Bk} (h : OBk w T gs vs b) (k : Keep L w w') (hL : ∀ x, x ∈ twoL gs → x ∉ L) : OBk w' T gs vs b := by
  obtain ⟨v1, v2, e, h1, h2⟩ := h
  exact ⟨v1, v2, e, h1.keep k (fun b hb => hL b (by simp [twoL, hb])), h2.keep k (fun b hb => hL b (by simp [twoL, hb]))⟩
def OBkL (w : World) (T : TypeId) : List (Option Nat × Option Nat) → List (List Value) → List Bk → Prop
  | [], [], [] => True
  | g :: gs, v :: vs, b :: bs => OBk w T g v b ∧ OBkL w T gs vs bs
  | _, _, _ => False
theorem OBkL.keep {L : List Nat} {w w' : World} {T : TypeId} (k : Keep L w w') : ∀ {gss : List (Option Nat × Option Nat)} {vss : List (List Value)} {bs : List Bk}, OBkL w T gss vss bs → (∀ x, x ∈ allG gss → x ∉ L) → OBkL w' T gss vss bs
  | [], [], [], _, _ => trivial
  | g :: gs, v :: vs, b :: bs, h, hL => ⟨h.1.keep k (fun x hx => hL x (by simp [allG, hx])), OBkL.keep k h.2 (fun x hx => hL x (by simp [allG] at hx ⊢; exact .inr hx))⟩
theorem OBkL.snoc {w : World} {T : TypeId} : ∀ {gss : List (Option Nat × Option Nat)} {vss : List (List Value)} {bs : List Bk} {g : Option Nat × Option Nat} {v : List Value} {b : Bk}, OBkL w T gss vss bs → OBk w T g v b → OBkL w T (gss ++ [g]) (vss ++ [v]) (bs ++ [b])
  | [], [], [], _, _, _, _, h => ⟨h, trivial⟩
  | _ :: _, _ :: _, _ :: _, _, _, _, h, k => ⟨h.1, OBkL.snoc h.2 k⟩
theorem OBkL.lens {w : World} {T : TypeId} : ∀ {gss : List (Option Nat × Option Nat)} {vss : List (List Value)} {bs : List Bk}, OBkL w T gss vss bs → gss.length = bs.length ∧ vss.length = bs.length ∧ ∀ row, row ∈ vss → row.length = 3
  | [], [], [], _ => by simp
  | g :: gs, v :: vs, b :: bs, h => by
    obtain ⟨h1, h2, h3⟩ := OBkL.lens h.2
    refine ⟨by simp [h1], by simp [h2], fun row hr => ?_⟩
    rcases List.mem_cons.1 hr with rfl | hr
    · obtain ⟨v1, v2, rfl, _⟩ := h.1; rfl
    · exact h3 row hr
theorem OBkL.get {w : World} {T : TypeId} : ∀ {gss : List (Option Nat × Option Nat)} {vss : List (List Value)} {bs : List Bk}, OBkL w T gss vss bs → ∀ {i : Nat} {b : Bk}, bs[i]? = some b → ∃ g v, gss[i]? = some g ∧ vss[i]? = some v ∧ OBk w T g v b
  | _ :: _, _ :: _, _ :: _, h, 0, b, hb => by simp at hb; subst hb; exact ⟨_, _, rfl, rfl, h.1⟩
  | _ :: gs, _ :: vs, _ :: bs, h, i + 1, b, hb => by
    obtain ⟨g, v, h1, h2, h3⟩ := OBkL.get h.2 (i := i) (by simpa using hb)
    exact ⟨g, v, by simpa using h1, by simpa using h2, h3⟩
  | [], [], [], _, i, b, hb => by simp at hb
theorem OBkL.repL {L : List Nat} {w : World} {T : TypeId} : ∀ {gss : List (Option Nat × Option Nat)} {vss : List (List Value)} {bs : List Bk}, OBkL w T gss vss bs → (∀ x, x ∈ allG gss → x ∉ L) → RepL L w vss.flatten (bs.map Bk.enc).flatten
  | [], [], [], _, _ => trivial
  | g :: gs, v :: vs, b :: bs, h, hL => by
    obtain ⟨v1, v2, rfl, h1, h2⟩ := h.1
    refine ⟨.val _, h1.rep (fun b hb => hL b (by simp [allG, twoL, hb])), h2.rep (fun b hb => hL b (by simp [allG, twoL, hb])), ?_⟩
    exact OBkL.repL h.2 (fun x hx => hL x (by simp [allG] at hx ⊢; exact .inr hx))

/-- A program that one may write: no block of it is reached on two ways. -/
structure OBks (w : World) (TB TS : TypeId) (v : Value) (g : Option Nat) (gss : List (Option Nat × Option Nat)) (vss : List (List Value)) (bs : List Bk) : Prop where
  own : Own w TB 3 v g bs.length vss.flatten
  rows : OBkL w TS gss vss bs
  nodup : (g.toList ++ allG gss).Nodup
  lt : ∀ x, x ∈ allG gss → x < w.heap.size
theorem OBks.keep {L : List Nat} {w w' : World} {TB TS : TypeId} {v : Value} {g : Option Nat} {gss : List (Option Nat × Option Nat)} {vss : List (List Value)} {bs : List Bk} (h : OBks w TB TS v g gss vss bs) (k : Keep L w w') (hL : ∀ x, x ∈ g.toList ++ allG gss → x ∉ L) : OBks w' TB TS v g gss vss bs :=
  ⟨h.own.keep k (fun b hb => hL b (by simp [hb])), h.rows.keep k (fun x hx => hL x (by simp [hx])), h.nodup, fun x hx => Nat.lt_of_lt_of_le (h.lt x hx) k.size⟩
theorem OBks.ext {w w' : World} {TB TS : TypeId} {v : Value} {g : Option Nat} {gss : List (Option Nat × Option Nat)} {vss : List (List Value)} {bs : List Bk} (h : OBks w TB TS v g gss vss bs) (k : Keep [] w w') : OBks w' TB TS v g gss vss bs := h.keep k (by simp)
theorem OBks.rep {L : List Nat} {w : World} {TB TS : TypeId} {v : Value} {g : Option Nat} {gss : List (Option Nat × Option Nat)} {vss : List (List Value)} {bs : List Bk} (h : OBks w TB TS v g gss vss bs) (hL : ∀ x, x ∈ g.toList ++ allG gss → x ∉ L) : RBks L w v bs := by
  have hd := (List.nodup_append.1 h.nodup).2.2
  refine OwnR.done (L := L) (w := w) (T := TB) (g := g) (xs := vss.flatten) ⟨by simpa using h.own, h.rows.repL fun x hx => ?_, ?_, fun b hb => hL b (by simp [hb])⟩
  · intro hc
    rcases List.mem_append.1 hc with hc | hc
    · exact hd x hc x hx rfl
    · exact hL x (by simp [hx]) hc
  · intro row hr
    obtain ⟨b, _, rfl⟩ := List.mem_map.1 hr
    rfl
theorem OBks.nil {w : World} {TB TS : TypeId} : OBks w TB TS (.slice none 0 0) none [] [] [] := ⟨Own.nil _ _ _, trivial, by simp [allG], by simp [allG]⟩
theorem RTree.mid {A B : List Nat} {b : Nat} {w : World} {v : Value} {t : Tree} (h : RTree (b :: (A ++ B)) w v t) : RTree (A ++ (b :: B)) w v t := RepA.fresh h fun x hx => .inl (mem_mid x hx)
theorem RTree.weak {L L' : List Nat} {w : World} {v : Value} {t : Tree} (h : RTree L w v t) (hL : ∀ x, x ∈ L' → x ∈ L) : RTree L' w v t := RepA.fresh h fun x hx => .inl (hL x hx)
theorem RTrees.weak {L L' : List Nat} {w : World} {v : Value} {t : List Tree} (h : RTrees L w v t) (hL : ∀ x, x ∈ L' → x ∈ L) : RTrees L' w v t := Rep.fresh h fun x hx => .inl (hL x hx)
theorem Gr.trees {B : Nat} {L : List Nat} {w : World} {T : TypeId} {v : Value} {g : Option Nat} {ts : List Tree} (h : Gr B L w T 2 v g (encs ts)) : RTrees L w v ts := h.done
end Go.Proofs.YtnkjgoholocliaaGreatDoor

namespace Go.Proofs.YtnkjgoholocliaaGreatDoor
open Go

def IBk.enc (b : IBk) : List C := [.val (str b.label), .sl 2 (encs b.regs), .sl 2 (encs b.code)]
def RIBk (L : List Nat) (w : World) (v : Value) (b : IBk) : Prop := RepA L w v b.enc
theorem RIBk.ext {L : List Nat} {w w' : World} {v : Value} {b : IBk} (h : RIBk L w v b) (k : Keep [] w w') : RIBk L w' v b := RepA.ext h k
theorem RIBk.grow {L : List Nat} {w : World} {v : Value} {b : IBk} (h : RIBk L w v b) : RIBk (w.heap.size :: L) w v b := RepA.fresh h grow_mem
theorem RIBk.sto {L L' : List Nat} {w w' : World} {v : Value} {b : IBk} (h : RIBk L w v b) (k : Keep L' w w') (hL : ∀ x, x ∈ L' → x ∈ L) : RIBk L w' v b := RepA.keep h (k.mono hL)
theorem RIBk.weak {L L' : List Nat} {w : World} {v : Value} {b : IBk} (h : RIBk L w v b) (hL : ∀ x, x ∈ L' → x ∈ L) : RIBk L' w v b := RepA.fresh h fun x hx => .inl (hL x hx)
theorem repL_ibk {L : List Nat} {w : World} {vs : List Value} {b : IBk} (h : RepL L w vs b.enc) : ∃ v1 v2, vs = [str b.label, v1, v2] ∧ RTrees L w v1 b.regs ∧ RTrees L w v2 b.code := by
  rw [IBk.enc] at h
  match vs, h with
  | [v0, v1, v2], h => obtain ⟨h0, h1, h2, _⟩ := h; cases h0; exact ⟨v1, v2, rfl, h1, h2⟩
  | [], h => exact h.elim
  | [_], h => exact h.2.elim
  | [_, _], h => exact h.2.2.elim
  | _ :: _ :: _ :: _ :: _, h => exact h.2.2.2.elim
theorem trees_cases {L : List Nat} {w : World} {v : Value} {ts : List Tree} (h : RTrees L w v ts) : ∃ a c, v = .slice a ts.length c := by
  obtain ⟨a, c, rfl, _⟩ := rep_len h
  exact ⟨a, c, by rw [encs_length]⟩
theorem ribk_cases {L : List Nat} {w : World} {v : Value} {b : IBk} (h : RIBk L w v b) : ∃ a1 c1 a2 c2, v = .agg #[str b.label, .slice a1 b.regs.length c1, .slice a2 b.code.length c2] ∧
    RTrees L w (.slice a1 b.regs.length c1) b.regs ∧ RTrees L w (.slice a2 b.code.length c2) b.code := by
  obtain ⟨vs, rfl, hr⟩ := h
  obtain ⟨v1, v2, rfl, h1, h2⟩ := repL_ibk hr
  obtain ⟨a1, c1, rfl⟩ := trees_cases h1
  obtain ⟨a2, c2, rfl⟩ := trees_cases h2
  exact ⟨a1, c1, a2, c2, rfl, h1, h2⟩
theorem ribk_of {L : List Nat} {w : World} {l : Bytes} {r c : List Tree} {v1 v2 : Value} (h1 : RTrees L w v1 r) (h2 : RTrees L w v2 c) : RIBk L w (.agg #[str l, v1, v2]) ⟨l, r, c⟩ :=
  ⟨[str l, v1, v2], rfl, .val _, h1, h2, trivial⟩
theorem RIBk.repl {L : List Nat} {w : World} {x y z : Value} {b : IBk} (h : RIBk L w (.agg #[x, y, z]) b) : RepL L w [x, y, z] b.enc := by
  obtain ⟨vs, he, hr⟩ := h
  have hv : vs = [x, y, z] := by
    have := congrArg (fun v => match v with | Value.agg x => x.toList | _ => []) he
    simpa using this.symm
  rw [← hv]; exact hr
def RProg (L : List Nat) (w : World) (v : Value) (ps : List IBk) : Prop := Rep L w v (.sl 3 (ps.map IBk.enc))
theorem RProg.ext {L : List Nat} {w w' : World} {v : Value} {ps : List IBk} (h : RProg L w v ps) (k : Keep [] w w') : RProg L w' v ps := Rep.ext h k
theorem RProg.grow {L : List Nat} {w : World} {v : Value} {b : List IBk} (h : RProg L w v b) : RProg (w.heap.size :: L) w v b := Rep.fresh h grow_mem
theorem RProg.sto {L L' : List Nat} {w w' : World} {v : Value} {b : List IBk} (h : RProg L w v b) (k : Keep L' w w') (hL : ∀ x, x ∈ L' → x ∈ L) : RProg L w' v b := Rep.keep h (k.mono hL)
theorem RProg.weak {L L' : List Nat} {w : World} {v : Value} {b : List IBk} (h : RProg L w v b) (hL : ∀ x, x ∈ L' → x ∈ L) : RProg L' w v b := Rep.fresh h fun x hx => .inl (hL x hx)
theorem rprog_nil {L : List Nat} {w : World} : RProg L w (.slice none 0 0) [] := .nil _ _ _
theorem rprog_cases {L : List Nat} {w : World} {v : Value} {ps : List IBk} (h : RProg L w v ps) : ∃ a c, v = .slice a ps.length c := by
  obtain ⟨a, c, rfl, _⟩ := rep_len h
  exact ⟨a, c, by simp⟩
theorem rprog_get {L : List Nat} {w : World} {a : Option Addr} {n c i : Nat} {ps : List IBk} {k : IBk} (h : RProg L w (.slice a n c) ps) (hi : ps[i]? = some k) :
    ∃ b off a1 c1 a2 c2, a = some ⟨b, off, none⟩ ∧ CellsAt w b (off + i * 3) [str k.label, .slice a1 k.regs.length c1, .slice a2 k.code.length c2] ∧ RTrees L w (.slice a1 k.regs.length c1) k.regs ∧ RTrees L w (.slice a2 k.code.length c2) k.code := by
  obtain ⟨b, off, vs, ha, hb, hL, hl, hc, hr⟩ := rep_get h (show (ps.map IBk.enc)[i]? = some k.enc by simp [hi])
  obtain ⟨v1, v2, rfl, h1, h2⟩ := repL_ibk hr
  obtain ⟨a1, c1, rfl⟩ := trees_cases h1
  obtain ⟨a2, c2, rfl⟩ := trees_cases h2
  exact ⟨b, off, a1, c1, a2, c2, ha, hc, h1, h2⟩
theorem Gr.prog {B : Nat} {L : List Nat} {w : World} {T : TypeId} {v : Value} {g : Option Nat} {ps : List IBk} (h : Gr B L w T 3 v g (ps.map IBk.enc)) : RProg L w v ps := h.done
section
variable {P : Program} {n : Nat} {ops : Array Oper} {K : Env → World → Prop} {rest : List Oper} {e : Env} {w : World}
  {dst : Option Nat} {ty : TypeId} {pos : String} {after : Array Edge} {g : Option (Nat × Bool)} {x y : Operand}
/-- A block behind others. -/
theorem ow_growB {B : Nat} {L : List Nat} {t E bytes : Nat} {z : Value} {v u1 u2 u3 : Value} {gb : Option Nat} {ts : List IBk} {f : IBk} {b U : Nat} (hT : P.underlying t = some (.slice E)) (hE : TI P E 3 bytes z) (hg : gate ops e g = true) (hd : okDst n dst = true) (hz : Nat.beq z.cells.size 3 = true) (hby : Nat.ble bytes 1000 = true)
    (hx : ev e x = v) (hy : ev e y = .slice (some ⟨b, 0, none⟩) 1 1) (hO : Gr B L w E 3 v gb (ts.map IBk.enc)) (hb : Blk w b [u1, u2, u3].toArray U)
    (hr : RIBk (gb.toList ++ L) w (.agg #[u1, u2, u3]) f) (hn : ts.length < 100000000)
    (k : ∀ a' cap' g' w', Gr B L w' E 3 (.slice a' (ts ++ [f]).length cap') g' ((ts ++ [f]).map IBk.enc) → Keep gb.toList w w' → OW P n ops K rest (put? e dst (.slice a' (ts ++ [f]).length cap')) w') :
    OW P n ops K (⟨dst, .call { callee := .builtin .append, args := #[x, y], argTypes := #[t, t] }, ty, pos, after, g⟩ :: rest) e w := by
  refine ow_grow hT hE hg hd hz hby hx hy hO hb rfl ?_ hr.repl (by simpa using hn) ?_
  · rw [List.all_eq_true]
    refine fun u hu => RepL.allOne hr.repl (fun c hc v hv => ?_) u hu
    rw [IBk.enc] at hc
    simp only [List.mem_cons, List.not_mem_nil, or_false] at hc
    rcases hc with h | h | h
    · rw [h] at hv; cases hv; rfl
    · rw [h] at hv; cases hv
    · rw [h] at hv; cases hv
  · intro a' cap' g' w' hO' hk
    have e1 : (ts.map IBk.enc).length + 1 = (ts ++ [f]).length := by simp
    have e2 : ts.map IBk.enc ++ [f.enc] = (ts ++ [f]).map IBk.enc := by simp
    rw [e1] at hO' ⊢
    rw [e2] at hO'
    exact k a' cap' g' w' hO' hk
end
end Go.Proofs.YtnkjgoholocliaaGreatDoor

namespace Go.Proofs.YtnkjgoholocliaaGreatDoor
open Go

theorem target_instr {t : Tree} (h : targetB false t = true) : instrB t = false := by
  refine instrB_shape ?_
  by_cases ha : t.atom = []
  · rcases Nat.eq_zero_or_pos t.parts.length with hz | hp
    · rw [headOf_no (.inr (List.length_eq_zero_iff.1 hz))]; rfl
    · have hh := headOf_cons ha (nth_get hp)
      by_cases he : (nth t.parts 0).atom = [101]
      · rw [hh, he]; rfl
      · by_cases htc : (nth t.parts 0).atom = [116] ∨ (nth t.parts 0).atom = [99]
        · rcases htc with h | h <;> rw [hh, h] <;> rfl
        · rw [targetB_no ha hp he htc] at h; cases h
  · rw [headOf_no (.inl ha)]; rfl

def nilOk : List (Option Nat × Option Nat) → List Bk → Prop
  | [], [] => True
  | g :: gs, b :: bs => ((b.needs = [] → g.1 = none) ∧ (b.code = [] → g.2 = none)) ∧ nilOk gs bs
  | _, _ => False
theorem nilOk_snoc : ∀ {gss : List (Option Nat × Option Nat)} {bs : List Bk} {g : Option Nat × Option Nat} {b : Bk}, nilOk gss bs → ((b.needs = [] → g.1 = none) ∧ (b.code = [] → g.2 = none)) → nilOk (gss ++ [g]) (bs ++ [b])
  | [], [], _, _, _, h => ⟨h, trivial⟩
  | _ :: _, _ :: _, _, _, h, k => ⟨h.1, nilOk_snoc h.2 k⟩
/-- Rows of different blocks of memory. -/
def apart : List (Option Nat × Option Nat) → Prop
  | [] => True
  | g :: gs => (∀ x, x ∈ twoL g → x ∉ allG gs) ∧ apart gs
theorem allG_cons (g : Option Nat × Option Nat) (gs : List (Option Nat × Option Nat)) : allG (g :: gs) = twoL g ++ allG gs := by simp [allG]
theorem allG_snoc (gs : List (Option Nat × Option Nat)) (g : Option Nat × Option Nat) : allG (gs ++ [g]) = allG gs ++ twoL g := by simp [allG]
theorem apart_snoc : ∀ {gss : List (Option Nat × Option Nat)} {g : Option Nat × Option Nat}, apart gss → (∀ x, x ∈ twoL g → x ∉ allG gss) → apart (gss ++ [g])
  | [], _, _, _ => ⟨by simp [allG], trivial⟩
  | p :: gs, g, h, k => by
    refine ⟨fun x hx hx2 => ?_, apart_snoc h.2 fun x hx hx2 => k x hx (by rw [allG_cons]; simp [hx2])⟩
    change x ∈ allG (gs ++ [g]) at hx2
    rw [allG_snoc, List.mem_append] at hx2
    rcases hx2 with hx2 | hx2
    · exact h.1 x hx hx2
    · exact k x hx2 (by rw [allG_cons]; simp [hx])

structure PBks (B : Nat) (w : World) (TB TS : TypeId) (v : Value) (g : Option Nat) (gss : List (Option Nat × Option Nat)) (vss : List (List Value)) (bs : List Bk) : Prop where
  own : Own w TB 3 v g bs.length vss.flatten
  rows : OBkL w TS gss vss bs
  sep : ∀ b, g = some b → b ∉ allG gss
  low : ∀ x, x ∈ g.toList ++ allG gss → B ≤ x
  lt : ∀ x, x ∈ allG gss → x < w.heap.size
  apart : apart gss
  nils : nilOk gss bs
  bsz : B ≤ w.heap.size
theorem PBks.nil {B : Nat} {w : World} {TB TS : TypeId} (h : B ≤ w.heap.size) : PBks B w TB TS (.slice none 0 0) none [] [] [] :=
  ⟨Own.nil _ _ _, trivial, by simp, by simp [allG], by simp [allG], trivial, trivial, h⟩
theorem PBks.keep {B : Nat} {L : List Nat} {w w' : World} {TB TS : TypeId} {v : Value} {g : Option Nat} {gss : List (Option Nat × Option Nat)} {vss : List (List Value)} {bs : List Bk} (h : PBks B w TB TS v g gss vss bs) (k : Keep L w w') (hL : ∀ x, x ∈ L → x < B ∨ w.heap.size ≤ x) : PBks B w' TB TS v g gss vss bs := by
  have hx : ∀ x, x ∈ g.toList ++ allG gss → x ∉ L := fun x hx hl => by
    have h1 := h.low x hx
    have h2 : x < w.heap.size := by
      rcases List.mem_append.1 hx with hx | hx
      · exact h.own.lt x (by simpa using hx)
      · exact h.lt x hx
    rcases hL x hl with h | h <;> omega
  exact ⟨h.own.keep k (fun b hb => hx b (by simp [hb])), h.rows.keep k (fun x h => hx x (by simp [h])), h.sep, h.low, fun x hx => Nat.lt_of_lt_of_le (h.lt x hx) k.size, h.apart, h.nils, Nat.le_trans h.bsz k.size⟩
theorem PBks.ext {B : Nat} {w w' : World} {TB TS : TypeId} {v : Value} {g : Option Nat} {gss : List (Option Nat × Option Nat)} {vss : List (List Value)} {bs : List Bk} (h : PBks B w TB TS v g gss vss bs) (k : Keep [] w w') : PBks B w' TB TS v g gss vss bs := h.keep k (by simp)
/-- A box made and filled: a world later. -/
theorem PBks.alloc {B : Nat} {w w' : World} {TB TS : TypeId} {v : Value} {g : Option Nat} {gss : List (Option Nat × Option Nat)} {vss : List (List Value)} {bs : List Bk} (h : PBks B w TB TS v g gss vss bs) (k : Keep [] w w') (_ : w'.heap.size = w.heap.size + 1) : PBks B w' TB TS v g gss vss bs := h.ext k
theorem PBks.rep {B : Nat} {w : World} {TB TS : TypeId} {v : Value} {g : Option Nat} {gss : List (Option Nat × Option Nat)} {vss : List (List Value)} {bs : List Bk} (h : PBks B w TB TS v g gss vss bs) : RBks [] w v bs := by
  refine OwnR.done (L := []) (w := w) (T := TB) (g := g) (xs := vss.flatten) ⟨by simpa using h.own, h.rows.repL fun x hx hc => ?_, ?_, by simp⟩
  · simp at hc; exact h.sep x hc hx
  · intro row hr
    obtain ⟨b, _, rfl⟩ := List.mem_map.1 hr
    rfl
theorem OStr.head {w : World} {T : TypeId} {v : Value} {b : Nat} {xs : List Bytes} (h : OStr w T v (some b) xs) (hne : xs ≠ []) : ∃ cur, Blk w b cur T ∧ cur[0]? = some (str (xs.headD [])) := by
  rcases h.2 with ⟨_, _, h⟩ | ⟨b', cap, cur, e, _, hb, hnc, _, hcs, ht⟩
  · cases h
  · cases e
    refine ⟨cur, hb, ?_⟩
    cases xs with
    | nil => exact absurd rfl hne
    | cons x r =>
      have h1 := congrArg (fun l => l[0]?) ht
      simp only [List.map_cons, List.getElem?_cons_zero] at h1
      rw [List.getElem?_take, if_pos (by simp)] at h1
      simpa using h1
theorem row_nodup {w : World} {T : TypeId} {g : Option Nat × Option Nat} {vs : List Value} {b : Bk} (h : OBk w T g vs b) (hb : blockB b = true) (hn : (b.needs = [] → g.1 = none) ∧ (b.code = [] → g.2 = none)) : (twoL g).Nodup := by
  obtain ⟨v1, v2, _, h1, h2⟩ := h
  obtain ⟨g1, g2⟩ := g
  cases g1 with
  | none => cases g2 <;> simp [twoL]
  | some x =>
    cases g2 with
    | none => simp [twoL]
    | some y =>
      have hxy : x ≠ y := by
        rintro rfl
        have e1 : b.needs ≠ [] := fun h => by have := hn.1 h; cases this
        have e2 : b.code ≠ [] := fun h => by have := hn.2 h; cases this
        obtain ⟨c1, hb1, hc1⟩ := OStr.head h1 e1
        obtain ⟨c2, hb2, hc2⟩ := OStr.head h2 e2
        have : c1 = c2 := by
          unfold Blk at hb1 hb2
          rw [hb1] at hb2; injection hb2 with h; injection h
        subst this
        rw [hc1] at hc2
        have hs : b.needs.headD [] = b.code.headD [] := by
          injection hc2 with h; injection h with h; injection h with h
          simpa using congrArg Array.toList h
        obtain ⟨_, p1, p2⟩ := blockB_parts hb
        obtain ⟨t1, ht1, hq1⟩ := p1 (b.needs.headD []) (by cases hnn : b.needs with | nil => exact absurd hnn e1 | cons a r => simp)
        obtain ⟨t2, ht2, hq2⟩ := p2 (b.code.headD []) (by cases hnn : b.code with | nil => exact absurd hnn e2 | cons a r => simp)
        rw [hs, ht2] at ht1
        cases ht1
        rw [target_instr hq1] at hq2; cases hq2
      simp [twoL, hxy]
theorem allG_nodup {w : World} {T : TypeId} : ∀ {gss : List (Option Nat × Option Nat)} {vss : List (List Value)} {bs : List Bk}, OBkL w T gss vss bs → apart gss → nilOk gss bs → (∀ b, b ∈ bs → blockB b = true) → (allG gss).Nodup
  | [], [], [], _, _, _, _ => by simp [allG]
  | g :: gs, v :: vs, b :: bs, h, ha, hn, hb => by
    rw [allG_cons, List.nodup_append]
    refine ⟨row_nodup h.1 (hb b (by simp)) hn.1, allG_nodup h.2 ha.2 hn.2 (fun b h => hb b (by simp [h])), fun x hx y hy e => ?_⟩
    subst e; exact ha.1 x hx hy
theorem PBks.full {B : Nat} {w : World} {TB TS : TypeId} {v : Value} {g : Option Nat} {gss : List (Option Nat × Option Nat)} {vss : List (List Value)} {bs : List Bk} (h : PBks B w TB TS v g gss vss bs) (hp : progB bs = true) : OBks w TB TS v g gss vss bs :=
  ⟨h.own, h.rows, by
    rw [List.nodup_append]
    refine ⟨by cases g <;> simp, allG_nodup h.rows h.apart h.nils (progB_block_of hp), fun x hx y hy e => ?_⟩
    subst e; exact h.sep x (by simpa using hx) hy, h.lt⟩
theorem PBks.cases {B : Nat} {w : World} {TB TS : TypeId} {v : Value} {g : Option Nat} {gss : List (Option Nat × Option Nat)} {vss : List (List Value)} {bs : List Bk} (h : PBks B w TB TS v g gss vss bs) : ∃ a c, v = .slice a bs.length c := h.own.len

section
variable {P : Program} {n : Nat} {ops : Array Oper} {K : Env → World → Prop} {rest : List Oper} {e : Env} {w : World}
  {dst : Option Nat} {ty : TypeId} {pos : String} {after : Array Edge} {g : Option (Nat × Bool)} {x y : Operand}
theorem ow_growP {B : Nat} {t E TS bytes : Nat} {z : Value} {v : Value} {gb : Option Nat} {gss : List (Option Nat × Option Nat)} {vss : List (List Value)} {bs : List Bk} {f : Bk} {gs : Option Nat × Option Nat} {a1 a2 : Option Addr} {n1 c1 n2 c2 : Nat} {b U : Nat} (hT : P.underlying t = some (.slice E)) (hE : TI P E 3 bytes z) (hg : gate ops e g = true) (hd : okDst n dst = true) (hz : Nat.beq z.cells.size 3 = true) (hby : Nat.ble bytes 1000 = true)
    (hx : ev e x = v) (hy : ev e y = .slice (some ⟨b, 0, none⟩) 1 1) (hP : PBks B w E TS v gb gss vss bs) (hb : Blk w b [str f.label, .slice a1 n1 c1, .slice a2 n2 c2].toArray U)
    (h1 : OStr w TS (.slice a1 n1 c1) gs.1 f.needs) (h2 : OStr w TS (.slice a2 n2 c2) gs.2 f.code) (hnew : ∀ x, x ∈ twoL gs → B ≤ x ∧ x ∉ gb.toList ++ allG gss) (hnil : (f.needs = [] → gs.1 = none) ∧ (f.code = [] → gs.2 = none)) (hn : bs.length < 100000000)
    (k : ∀ a' cap' g' w', PBks B w' E TS (.slice a' (bs ++ [f]).length cap') g' (gss ++ [gs]) (vss ++ [[str f.label, .slice a1 n1 c1, .slice a2 n2 c2]]) (bs ++ [f]) → Keep gb.toList w w' → OW P n ops K rest (put? e dst (.slice a' (bs ++ [f]).length cap')) w') :
    OW P n ops K (⟨dst, .call { callee := .builtin .append, args := #[x, y], argTypes := #[t, t] }, ty, pos, after, g⟩ :: rest) e w := by
  obtain ⟨i, hi, hz', hsz, hbi⟩ := hE.get
  have hby' : bytes ≤ 1000 := Nat.le_of_ble_eq_true hby
  have hsmall : (bs.length + 1) * bytes ≤ 140737488355328 := Nat.le_trans (Nat.mul_le_mul (show bs.length + 1 ≤ 100000000 by omega) hby') (by decide)
  obtain ⟨v', g', w', hrun, hown, hk, hg'⟩ := run_app (P := P) (w := w) (ty := ty) hT hi hz' hsz hbi (Nat.eq_of_beq_eq_true hz) hP.own b 0 1 1 [str f.label, .slice a1 n1 c1, .slice a2 n2 c2] rfl (by have := hb.all; simpa using this)
    (by intro u hu; simp at hu; rcases hu with rfl | rfl | rfl <;> rfl) (by decide) (by unfold maxLen; omega) hsmall
  have hown' : Own w' E 3 v' g' (bs ++ [f]).length (vss ++ [[str f.label, .slice a1 n1 c1, .slice a2 n2 c2]]).flatten := by
    simpa using hown
  obtain ⟨a', cap', he⟩ := hown'.len
  subst he
  have hlt1 : ∀ x, x ∈ twoL gs → x < w.heap.size := fun x hx => by
    simp only [twoL, List.mem_append] at hx
    rcases hx with hx | hx
    · exact Own.lt h1 x (by simpa using hx)
    · exact Own.lt h2 x (by simpa using hx)
  refine ow_val hg hd (w' := w') (by
    simp only [execOp, resolve, invoke, builtin, Sem.run_bind, Sem.run_pure, Result.andThen_ok, List.map_toArray, List.map_cons, List.map_nil, hx, hy, hrun]) (k a' cap' g' w' ⟨hown', ?_, ?_, ?_, ?_, ?_, ?_, ?_⟩ hk)
  · refine OBkL.snoc (hP.rows.keep hk fun x hx hg => hP.sep x (by simpa using hg) hx) ⟨_, _, rfl, h1.keep hk fun b hb hx => ?_, h2.keep hk fun b hb hx => ?_⟩
    · exact (hnew b (by simp [twoL, hb])).2 (by simp at hx; simp [hx])
    · exact (hnew b (by simp [twoL, hb])).2 (by simp at hx; simp [hx])
  · intro b hb hx
    rw [allG_snoc, List.mem_append] at hx
    rcases hg' with h | h
    · rw [h] at hb
      rcases hx with hx | hx
      · exact hP.sep b hb hx
      · exact (hnew b hx).2 (by simp [hb])
    · rw [h] at hb; cases hb
      rcases hx with hx | hx
      · have := hP.lt _ hx; omega
      · have := hlt1 _ hx; omega
  · intro x hx
    rw [allG_snoc] at hx
    simp only [List.mem_append] at hx
    rcases hx with hx | hx | hx
    · rcases hg' with h | h
      · rw [h] at hx; exact hP.low x (by simp only [List.mem_append]; exact .inl hx)
      · rw [h] at hx; simp at hx; have := hP.bsz; omega
    · exact hP.low x (by simp only [List.mem_append]; exact .inr hx)
    · exact (hnew x hx).1
  · intro x hx
    rw [allG_snoc, List.mem_append] at hx
    rcases hx with hx | hx
    · exact Nat.lt_of_lt_of_le (hP.lt x hx) hk.size
    · exact Nat.lt_of_lt_of_le (hlt1 x hx) hk.size
  · exact apart_snoc hP.apart fun x hx hx2 => (hnew x hx).2 (by simp [hx2])
  · exact nilOk_snoc hP.nils hnil
  · exact Nat.le_trans hP.bsz hk.size
end
theorem progI_from {t : Tree} (h : Fine t) (hg : Good t) : progI (fromT t) = progB (fromT t) := by
  unfold progI
  rw [show (fromT t).all shortL = true from ?_, Bool.and_true]
  refine List.all_eq_true.2 fun b hb => ?_
  obtain ⟨u, hu, rfl⟩ := List.mem_map.1 hb
  obtain ⟨i, hi, rfl⟩ := List.getElem_of_mem (List.mem_of_mem_drop hu)
  have hfu := h.part hg (List.getElem?_eq_getElem hi)
  have hgu := hg.part (List.getElem?_eq_getElem hi)
  unfold shortL
  refine decide_eq_true ?_
  unfold bkOf?
  split
  · rename_i hbk
    have h4 := isBlkT_len hbk
    have f1 := hfu.nth (i := 1) hgu (by omega)
    have f2 := f1.size
    have := atom_lt (nth t.parts[i].parts 1)
    show (nth t.parts[i].parts 1).atom.length ≤ 12000
    omega
  · simp [nob]
theorem from_bad {t : Tree} {i : Nat} (hi : i + 1 < t.parts.length) (h : isBlkT (nth t.parts (i + 1)) = false) : progB (fromT t) = false := by
  refine progB_nob ?_
  refine List.mem_map.2 ⟨nth t.parts (i + 1), List.mem_of_getElem? (drop_get hi), bkOf?_no h⟩
end Go.Proofs.YtnkjgoholocliaaGreatDoor

namespace Go.Proofs.YtnkjgoholocliaaGreatDoor
open Go

/-! ### Plain: marks -/
theorem decB_len (n : Nat) : (decB n).length ≤ n + 1 := by
  induction n using Nat.strongRecOn with
  | _ n ih =>
    unfold decB
    split
    · simp
    · rw [List.length_append]
      have := ih (n / 10) (by omega)
      simp only [List.length_cons, List.length_nil]; omega
def mtB (n : Nat) : Bytes := if n = 0 then [109, 48] else 109 :: decB n
def marksS (k n : Nat) : List Bytes := (List.range n).map fun i => mtB (k + i)
theorem marksS_len (k n : Nat) : (marksS k n).length = n := by simp [marksS]
theorem marksS_get {k n i : Nat} (h : i < n) : sth (marksS k n) i = mtB (k + i) := by simp [marksS, sth, h]
def nextK (b : Bk) (k : Nat) : Nat := k + 1 + b.needs.length + b.code.length
def markBk (b : Bk) (k : Nat) : Bk := ⟨mtB k, marksS (k + 1) b.needs.length, marksS (k + 1 + b.needs.length) b.code.length⟩
/-- The number ahead of block i. -/
def kAt (bs : List Bk) (k : Nat) : Nat → Nat
  | 0 => k
  | i + 1 => nextK (bth bs i) (kAt bs k i)
/-- The program with i blocks marked. -/
def curBs (bs : List Bk) (k i : Nat) : List Bk := (List.range bs.length).map fun j => if j < i then markBk (bth bs j) (kAt bs k j) else bth bs j
theorem curBs_len (bs : List Bk) (k i : Nat) : (curBs bs k i).length = bs.length := by simp [curBs]
theorem curBs_zero (bs : List Bk) (k : Nat) : curBs bs k 0 = bs := by
  refine List.ext_getElem (by simp [curBs]) fun j h1 h2 => ?_
  simp [curBs, List.getElem?_eq_getElem h2]
theorem curBs_get {bs : List Bk} {k i j : Nat} (h : j < bs.length) : (curBs bs k i)[j]? = some (if j < i then markBk (bth bs j) (kAt bs k j) else bth bs j) := by
  simp [curBs, h]
theorem curBs_set {bs : List Bk} {k i : Nat} (_ : i < bs.length) : (curBs bs k i).set i (markBk (bth bs i) (kAt bs k i)) = curBs bs k (i + 1) := by
  refine List.ext_getElem (by simp [curBs]) fun j h1 h2 => ?_
  rw [List.getElem_set]
  simp only [curBs, List.getElem_map, List.getElem_range]
  by_cases hij : i = j
  · subst hij; simp
  · rw [if_neg hij]
    by_cases h3 : j < i
    · rw [if_pos h3, if_pos (by omega)]
    · rw [if_neg h3, if_neg (by omega)]
def Mids (bs : List Bk) (k : Nat) : Prop := ∀ i, i ≤ bs.length → kAt bs k i ≤ 1000000000000
theorem kAt_le {bs : List Bk} (h : Smalls bs) (k : Nat) : ∀ i, i ≤ bs.length → kAt bs k i ≤ k + 2000000001 * i
  | 0, _ => by simp [kAt]
  | i + 1, hi => by
    have := kAt_le h k i (by omega)
    have h2 := h.2 i (by omega)
    have a := h2.2.1
    have b := h2.2.2
    simp only [kAt, nextK]; omega

/-! ### Operations -/
section
variable {P : Program} {n : Nat} {ops : Array Oper} {K : Env → World → Prop} {rest : List Oper} {e : Env} {w : World}
  {dst : Option Nat} {ty : TypeId} {pos : String} {after : Array Edge} {g : Option (Nat × Bool)} {x y : Operand}
/-- 'string([]byte{c})'. -/
theorem ow_bytesStr1 {S D E b cap : Nat} {z : Int} {c : UInt8} {U : TypeId} (hS : P.underlying S = some (.slice E)) (hE : P.underlying E = some (.int .u8)) (hD : P.underlying D = some .string) (hg : gate ops e g = true) (hd : okDst n dst = true)
    (hx : ev e x = .slice (some ⟨b, 0, none⟩) 1 cap) (hb : Blk w b [.int .u8 z].toArray U) (hz : z = (c.toNat : Int)) (k : OW P n ops K rest (put? e dst (str [c])) w) : OW P n ops K (⟨dst, .convert S D x, ty, pos, after, g⟩ :: rest) e w := by
  have hrun := run_convert_bytes_back (P := P) w S D E ⟨b, 0, none⟩ cap [c] hS hE hD (by
    intro j hj
    have : j = 0 := by simpa using hj
    subst this
    have := hb.cell 0
    simpa [Addr.add, hz] using this)
  exact ow_val hg hd (v := str [c]) (w' := w) (by
    have hx' : ev e x = .slice (some ⟨b, 0, none⟩) ([c] : List UInt8).length cap := hx
    simp only [execOp, hx', Sem.run_bind, hrun, Result.andThen_ok, Sem.run_pure]) k
/-- A text is put in the place of another one. -/
theorem ow_storeO {T TS bytes : Nat} {z : Value} {gb : Option Nat} {xs : List Bytes} {s : Bytes} {b o nn c i : Nat} (hTI : TI P T 1 bytes z) (hg : gate ops e g = true) (hx : ev e x = .pointer (some ⟨b, o, none⟩)) (hy : ev e y = str s) (ho : o = i)
    (hO : OStr w TS (.slice (some ⟨b, 0, none⟩) nn c) gb xs) (hi : i < xs.length)
    (k : ∀ w', Keep gb.toList w w' → OStr w' TS (.slice (some ⟨b, 0, none⟩) nn c) gb (xs.set i s) → w'.heap.size = w.heap.size → OW P n ops K rest e w') : OW P n ops K (⟨none, .store T x y, ty, pos, after, g⟩ :: rest) e w := by
  subst ho
  obtain ⟨hl, h | ⟨b', cap, cur, hgb, hv, hb, hnc, hcm, hcs, ht⟩⟩ := hO
  · obtain ⟨h, _⟩ := h; cases h
  · cases hv
    subst hgb
    refine ow_store hTI rfl hg hx hy rfl hb (by rw [hcs]; omega) fun w' hk hb' hz => ?_
    refine k w' (by simpa using hk) ⟨by simp, .inr ⟨b, _, _, rfl, by simp, hb', by simpa using hnc, hcm, by simpa using hcs, ?_⟩⟩ hz
    rw [Array.toList_setIfInBounds, List.length_set, List.take_set, ht, List.map_set]
end
theorem flatten_set {α : Type} {sz : Nat} : ∀ {rows : List (List α)} {i j : Nat} {a : α} {row : List α}, (∀ row, row ∈ rows → row.length = sz) → rows[i]? = some row → j < sz → rows.flatten.set (i * sz + j) a = (rows.set i (row.set j a)).flatten
  | r :: rows, 0, j, a, row, h, hi, hj => by
    simp only [List.getElem?_cons_zero, Option.some.injEq] at hi
    subst hi
    have hr : r.length = sz := h r (by simp)
    rw [List.flatten_cons, Nat.zero_mul, Nat.zero_add, List.set_cons_zero, List.flatten_cons, List.set_append_left _ _ (by omega)]
  | r :: rows, i + 1, j, a, row, h, hi, hj => by
    have hr : r.length = sz := h r (by simp)
    have := flatten_set (rows := rows) (a := a) (fun row hr => h row (by simp [hr])) (by simpa using hi) hj
    rw [List.flatten_cons, List.set_cons_succ, List.flatten_cons, List.set_append_right _ _ (by rw [hr, Nat.add_mul]; omega), hr, ← this]
    congr 2
    rw [Nat.add_mul]; omega
/-- Row i gets another block. -/
theorem OBkL.set {w w' : World} {T : TypeId} : ∀ {gss : List (Option Nat × Option Nat)} {vss : List (List Value)} {bs : List Bk} {i : Nat} {g : Option Nat × Option Nat} {v : List Value} {f : Bk}, OBkL w T gss vss bs → gss[i]? = some g → OBk w' T g v f →
    (∀ (j : Nat) (g2 : Option Nat × Option Nat) (v2 : List Value) (b2 : Bk), j ≠ i → gss[j]? = some g2 → OBk w T g2 v2 b2 → OBk w' T g2 v2 b2) → OBkL w' T gss (vss.set i v) (bs.set i f)
  | [], [], [], i, g, v, f, _, hg, _, _ => by simp at hg
  | g0 :: gs, v0 :: vs, b0 :: bs, 0, g, v, f, h, hg, hf, hk => by
    simp only [List.getElem?_cons_zero, Option.some.injEq] at hg
    subst hg
    refine ⟨hf, ?_⟩
    have key : ∀ {gs : List (Option Nat × Option Nat)} {vs : List (List Value)} {bs : List Bk}, (∀ (j : Nat) (g2 : Option Nat × Option Nat) (v2 : List Value) (b2 : Bk), gs[j]? = some g2 → OBk w T g2 v2 b2 → OBk w' T g2 v2 b2) → OBkL w T gs vs bs → OBkL w' T gs vs bs := by
      intro gs
      induction gs with
      | nil => intro vs bs _ h; cases vs <;> cases bs <;> first | trivial | exact h.elim
      | cons g gs ih =>
        intro vs bs hk h
        cases vs with
        | nil => cases bs <;> exact h.elim
        | cons v vs =>
          cases bs with
          | nil => exact h.elim
          | cons b bs => exact ⟨hk 0 _ _ _ rfl h.1, ih (fun j g2 v2 b2 hj => hk (j + 1) g2 v2 b2 (by simpa using hj)) h.2⟩
    exact key (fun j g2 v2 b2 hj ho => hk (j + 1) g2 v2 b2 (by omega) (by simpa using hj) ho) h.2
  | g0 :: gs, v0 :: vs, b0 :: bs, i + 1, g, v, f, h, hg, hf, hk =>
    ⟨hk 0 _ _ _ (by omega) rfl h.1, OBkL.set h.2 (by simpa using hg) hf fun j g2 v2 b2 hj hg2 ho => hk (j + 1) g2 v2 b2 (by omega) (by simpa using hg2) ho⟩
theorem allG_mem {gss : List (Option Nat × Option Nat)} {i : Nat} {g : Option Nat × Option Nat} {x : Nat} (hg : gss[i]? = some g) (hx : x ∈ twoL g) : x ∈ allG gss := by
  simp only [allG, List.mem_flatMap]
  exact ⟨g, List.mem_of_getElem? hg, hx⟩
theorem allG_ne : ∀ {gss : List (Option Nat × Option Nat)} {i j : Nat} {g g2 : Option Nat × Option Nat} {x : Nat}, (allG gss).Nodup → i ≠ j → gss[i]? = some g → gss[j]? = some g2 → x ∈ twoL g → x ∉ twoL g2
  | g0 :: gs, 0, 0, _, _, _, _, h, _, _, _ => absurd rfl h
  | g0 :: gs, 0, j + 1, g, g2, x, hn, _, hg, hg2, hx => by
    simp only [List.getElem?_cons_zero, Option.some.injEq] at hg
    subst hg
    rw [allG_cons, List.nodup_append] at hn
    intro hx2
    exact hn.2.2 x hx x (allG_mem (by simpa using hg2) hx2) rfl
  | g0 :: gs, i + 1, 0, g, g2, x, hn, _, hg, hg2, hx => by
    simp only [List.getElem?_cons_zero, Option.some.injEq] at hg2
    subst hg2
    rw [allG_cons, List.nodup_append] at hn
    intro hx2
    exact hn.2.2 x hx2 x (allG_mem (by simpa using hg) hx) rfl
  | g0 :: gs, i + 1, j + 1, g, g2, x, hn, hij, hg, hg2, hx => by
    rw [allG_cons, List.nodup_append] at hn
    exact allG_ne (i := i) (j := j) hn.2.1 (by omega) (by simpa using hg) (by simpa using hg2) hx
/-- The lists of one row change, in their own memory. -/
theorem OBks.row {w w' : World} {TB TS : TypeId} {v : Value} {g : Option Nat} {gss : List (Option Nat × Option Nat)} {vss : List (List Value)} {bs : List Bk} {i : Nat} {gs : Option Nat × Option Nat} {vs : List Value} {f : Bk} {L : List Nat}
    (h : OBks w TB TS v g gss vss bs) (hg : gss[i]? = some gs) (hv : vss[i]? = some vs) (hk : Keep L w w') (hL : ∀ x, x ∈ L → x ∈ twoL gs) (hf : OBk w' TS gs vs f) : OBks w' TB TS v g gss vss (bs.set i f) := by
  have hd := (List.nodup_append.1 h.nodup)
  have hset : vss.set i vs = vss := by
    refine List.ext_getElem (by simp) fun j h1 h2 => ?_
    rw [List.getElem_set]
    split
    · rename_i hij; subst hij
      rw [List.getElem?_eq_getElem h2] at hv; simpa using hv.symm
    · rfl
  have hr := OBkL.set (w' := w') h.rows hg hf (fun j g2 v2 b2 hj hg2 ho => ho.keep hk fun x hx hxl => allG_ne hd.2.1 hj hg2 hg hx (hL x hxl))
  rw [hset] at hr
  exact ⟨by rw [List.length_set]; exact h.own.keep hk (fun b hb hx => hd.2.2 b (by simp [hb]) b (allG_mem hg (hL b hx)) rfl), hr, h.nodup, fun x hx => Nat.lt_of_lt_of_le (h.lt x hx) hk.size⟩
section
variable {P : Program} {n : Nat} {ops : Array Oper} {K : Env → World → Prop} {rest : List Oper} {e : Env} {w : World}
  {dst : Option Nat} {ty : TypeId} {pos : String} {after : Array Edge} {g : Option (Nat × Bool)} {x y : Operand}
/-- A label is put in the place of another one. -/
theorem ow_storeL {T TB TS bytes : Nat} {z : Value} {gb : Option Nat} {gss : List (Option Nat × Option Nat)} {vss : List (List Value)} {bs : List Bk} {s : Bytes} {b o nn c i : Nat} (hTI : TI P T 1 bytes z) (hg : gate ops e g = true) (hx : ev e x = .pointer (some ⟨b, o, none⟩)) (hy : ev e y = str s) (ho : o = i * 3)
    (hO : OBks w TB TS (.slice (some ⟨b, 0, none⟩) nn c) gb gss vss bs) (hi : i < bs.length)
    (k : ∀ w' vss', Keep gb.toList w w' → OBks w' TB TS (.slice (some ⟨b, 0, none⟩) nn c) gb gss vss' (bs.set i { bth bs i with label := s }) → w'.heap.size = w.heap.size → OW P n ops K rest e w') : OW P n ops K (⟨none, .store T x y, ty, pos, after, g⟩ :: rest) e w := by
  subst ho
  have hd := List.nodup_append.1 hO.nodup
  have hown := hO.own
  obtain ⟨gs, vs, hgs, hvs, v1, v2, hvv, hs1, hs2⟩ := hO.rows.get (bth_get hi)
  obtain ⟨hl1, hl2, hl3⟩ := hO.rows.lens
  obtain ⟨hl, h | ⟨b', cap, cur, hgb, hv, hb, hnc, hcm, hcs, ht⟩⟩ := hown
  · obtain ⟨h, _⟩ := h; cases h
  · cases hv
    subst hgb
    refine ow_store hTI rfl hg hx hy rfl hb (by rw [hcs]; omega) fun w' hk hb' hz => ?_
    have hfl : (vss.set i [str s, v1, v2]).flatten = vss.flatten.set (i * 3) (str s) := by
      have := flatten_set (a := str s) (j := 0) hl3 hvs (by decide)
      rw [Nat.add_zero] at this
      rw [this, hvv]; rfl
    refine k w' (vss.set i [str s, v1, v2]) (by simpa using hk) ⟨⟨?_, .inr ⟨b, _, _, rfl, by simp, hb', by simpa using hnc, hcm, by simpa using hcs, ?_⟩⟩, ?_, hO.nodup, fun x hx => Nat.lt_of_lt_of_le (hO.lt x hx) hk.size⟩ hz
    · rw [hfl, List.length_set, hl, List.length_set]
    · rw [Array.toList_setIfInBounds, List.length_set, List.take_set, ht, hfl]
    · have hb0 : ∀ x, x ∈ allG gss → x ∉ [b] := fun q hq h => by simp at h; subst h; exact hd.2.2 q (by simp) q hq rfl
      refine OBkL.set (w' := w') hO.rows hgs ⟨v1, v2, rfl, hs1.keep hk (fun b hb => hb0 b (allG_mem hgs (by simp [twoL, hb]))), hs2.keep hk (fun b hb => hb0 b (allG_mem hgs (by simp [twoL, hb])))⟩ (fun j g2 v2 b2 _ hg2 ho => ho.keep hk fun x hx => hb0 x (allG_mem hg2 hx))
end

/-- A list of texts with i marks. -/
def curS (k : Nat) (xs : List Bytes) (i : Nat) : List Bytes := (List.range xs.length).map fun j => if j < i then mtB (k + j) else sth xs j
theorem curS_len (k : Nat) (xs : List Bytes) (i : Nat) : (curS k xs i).length = xs.length := by simp [curS]
theorem curS_zero (k : Nat) (xs : List Bytes) : curS k xs 0 = xs := by
  refine List.ext_getElem (by simp [curS]) fun j h1 h2 => ?_
  simp [curS, sth, List.getElem?_eq_getElem h2]
theorem curS_all (k : Nat) (xs : List Bytes) {i : Nat} (h : xs.length ≤ i) : curS k xs i = marksS k xs.length := by
  unfold curS marksS
  refine List.map_congr_left fun j hj => ?_
  rw [List.mem_range] at hj
  rw [if_pos (by omega)]
theorem curS_set {k : Nat} {xs : List Bytes} {i : Nat} (_ : i < xs.length) : (curS k xs i).set i (mtB (k + i)) = curS k xs (i + 1) := by
  refine List.ext_getElem (by simp [curS]) fun j h1 h2 => ?_
  rw [List.getElem_set]
  simp only [curS, List.getElem_map, List.getElem_range]
  by_cases hij : i = j
  · subst hij; simp
  · rw [if_neg hij]
    by_cases h3 : j < i
    · rw [if_pos h3, if_pos (by omega)]
    · rw [if_neg h3, if_neg (by omega)]
theorem curBs_all {bs : List Bk} {k i j : Nat} (hi : bs.length ≤ i) (h : j < bs.length) : (curBs bs k i)[j]? = some (markBk (bth bs j) (kAt bs k j)) := by
  rw [curBs_get h, if_pos (by omega)]
theorem decB_step {k : Nat} (h : 10 ≤ k) : decB k = decB (k / 10) ++ [UInt8.ofNat (48 + k % 10)] := by
  conv => lhs; unfold decB
  rw [if_neg (by omega)]
theorem decB_low {k : Nat} (h : k < 10) : decB k = [UInt8.ofNat (48 + k % 10)] := by
  unfold decB; rw [if_pos h, Nat.mod_eq_of_lt h]
theorem dig_byte (k : Nat) : (48 : Int) + ((k % 10 : Nat) : Int) = ((UInt8.ofNat (48 + k % 10)).toNat : Int) := by
  have : (48 + k % 10) % 256 = 48 + k % 10 := Nat.mod_eq_of_lt (by omega)
  simp only [UInt8.toNat_ofNat', Nat.reducePow]
  omega
/-- The marks' digits, from the last one on. -/
def Dig (n k : Nat) (out : Bytes) : Prop := (k = 0 ∧ out = decB n) ∨ (0 < k ∧ decB n = decB k ++ out)
theorem Dig.step {n k : Nat} {out : Bytes} (h : Dig n k out) (hk : 0 < k) : Dig n (k / 10) ([UInt8.ofNat (48 + k % 10)] ++ out) := by
  rcases h with ⟨h, _⟩ | ⟨_, h⟩
  · omega
  · by_cases h10 : 10 ≤ k
    · exact .inr ⟨by omega, by rw [h, decB_step h10]; simp⟩
    · exact .inl ⟨by omega, by rw [h, decB_low (by omega)]⟩
theorem Dig.le {n k : Nat} {out : Bytes} (h : Dig n k out) : out.length ≤ n + 1 := by
  have := decB_len n
  rcases h with ⟨_, h⟩ | ⟨_, h⟩
  · rw [h]; exact this
  · rw [h, List.length_append] at this; omega
theorem OStr.form {w : World} {T : TypeId} {a : Option Addr} {n c : Nat} {g : Option Nat} {xs : List Bytes} (h : OStr w T (.slice a n c) g xs) (hx : 0 < xs.length) : ∃ b, a = some ⟨b, 0, none⟩ ∧ g = some b := by
  rcases h.2 with ⟨_, h, _⟩ | ⟨b, _, _, e, hv, _⟩
  · omega
  · cases hv; exact ⟨b, rfl, e⟩
theorem OStr.cases {w : World} {T : TypeId} {v : Value} {g : Option Nat} {xs : List Bytes} (h : OStr w T v g xs) : ∃ a c, v = .slice a xs.length c := Own.len h
theorem CellsAt.sto {w w' : World} {b off : Nat} {vs : List Value} {L : List Nat} (h : CellsAt w b off vs) (k : Keep L w w') (hb : b < w.heap.size) (hL : b ∉ L) : CellsAt w' b off vs := fun j v hj => (World.cell?_of_block (k.block b hb hL)).trans (h j v hj)
/-- Row i of a program that one owns. -/
theorem OBks.get {w : World} {TB TS : TypeId} {a : Option Addr} {n c : Nat} {g : Option Nat} {gss : List (Option Nat × Option Nat)} {vss : List (List Value)} {bs : List Bk} {i : Nat} (h : OBks w TB TS (.slice a n c) g gss vss bs) (hi : i < bs.length) :
    ∃ b gs a1 c1 a2 c2, a = some ⟨b, 0, none⟩ ∧ g = some b ∧ b < w.heap.size ∧ b ∉ twoL gs ∧ gss[i]? = some gs ∧ vss[i]? = some [str (bth bs i).label, .slice a1 (bth bs i).needs.length c1, .slice a2 (bth bs i).code.length c2] ∧
      CellsAt w b (0 + i * 3) [str (bth bs i).label, .slice a1 (bth bs i).needs.length c1, .slice a2 (bth bs i).code.length c2] ∧
      OStr w TS (.slice a1 (bth bs i).needs.length c1) gs.1 (bth bs i).needs ∧ OStr w TS (.slice a2 (bth bs i).code.length c2) gs.2 (bth bs i).code ∧ (∀ x, gs.1 = some x → gs.2 = some x → False) := by
  have hd := List.nodup_append.1 h.nodup
  obtain ⟨hl1, hl2, hl3⟩ := h.rows.lens
  obtain ⟨gs, vs, hgs, hvs, v1, v2, rfl, hs1, hs2⟩ := h.rows.get (bth_get hi)
  obtain ⟨a1, c1, rfl⟩ := OStr.cases hs1
  obtain ⟨a2, c2, rfl⟩ := OStr.cases hs2
  obtain ⟨hl, hz | ⟨b, cap, cur, hgb, hv, hb, hnc, hcm, hcs, ht⟩⟩ := h.own
  · obtain ⟨_, hz, _⟩ := hz; omega
  · cases hv
    subst hgb
    refine ⟨b, gs, a1, c1, a2, c2, rfl, rfl, hb.lt, fun hx => hd.2.2 b (by simp) b (allG_mem hgs hx) rfl, hgs, hvs, fun j v hj => ?_, hs1, hs2, fun x h1 h2 => ?_⟩
    · have hf := flatten_get hl3 hvs hj
      have hlt : i * 3 + j < vss.flatten.length := (List.getElem?_eq_some_iff.1 hf).1
      rw [hb.cell, Nat.zero_add]
      have h2 := ht
      have : (cur.toList.take (bs.length * 3))[i * 3 + j]? = some v := by rw [ht]; exact hf
      rw [List.getElem?_take] at this
      split at this
      · simpa using this
      · cases this
    · have hn : (twoL gs).Nodup := by
        have : ∀ {gss : List (Option Nat × Option Nat)} {i : Nat}, (allG gss).Nodup → gss[i]? = some gs → (twoL gs).Nodup := by
          intro gss
          induction gss with
          | nil => intro i _ h; simp at h
          | cons p q ih =>
            intro i hn hg
            rw [allG_cons, List.nodup_append] at hn
            cases i with
            | zero => simp at hg; subst hg; exact hn.1
            | succ i => exact ih hn.2.1 (by simpa using hg)
        exact this hd.2.1 hgs
      simp [twoL, h1, h2] at hn

theorem from_small (s : Bytes) : Smalls ((fromP s).getD []) ∧ ((fromP s).getD []).length ≤ 12001 := by
  unfold fromP
  cases hp : parse s with
  | none => exact ⟨⟨by simp, by intro i hi; simp at hi⟩, by simp⟩
  | some t =>
    simp only
    split
    · have hf := fine_parse hp
      refine ⟨smalls_from hf (parse_good hp).1, ?_⟩
      have h1 := parts_le t
      have h2 := hf.size
      simp [fromT]; omega
    · exact ⟨⟨by simp, by intro i hi; simp at hi⟩, by simp⟩
theorem from_mark (s : Bytes) : ∀ i, i ≤ ((fromP s).getD []).length → kAt ((fromP s).getD []) 1 i ≤ 100000000000000 := by
  intro i hi
  obtain ⟨h1, h2⟩ := from_small s
  have := kAt_le h1 1 i hi
  omega
end Go.Proofs.YtnkjgoholocliaaGreatDoor
