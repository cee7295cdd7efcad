/-
  Lemmas for the law of ProgramText, no statement of their own: slices that grow, and what came in.
-/
import Derived.Test.YtnkjgoholocliaaGreatDoorNb
import Derived.Test.YtnkjgoholocliaaGreatDoorNc
import Derived.Laws.MakeOwn
import Derived.Deep.Strs
namespace Go.Proofs.YtnkjgoholocliaaGreatDoor
open Go

/-- The slice v is one's own: its block g lies from B on; its rows read as data outside the blocks of L (those of boxes that are written). -/
structure Gr (B : Nat) (L : List Nat) (w : World) (T : TypeId) (sz : Nat) (v : Value) (g : Option Nat) (rows : List (List C)) : Prop where
  own : ∃ xs, OwnR L w T sz v g rows xs
  low : ∀ b, g = some b → B ≤ b
  lim : ∀ x, x ∈ L → x < w.heap.size
  bsz : B ≤ w.heap.size

theorem Gr.nil {B : Nat} {L : List Nat} {w : World} {T : TypeId} {sz : Nat} (hL : ∀ x, x ∈ L → x < w.heap.size) (hB : B ≤ w.heap.size) : Gr B L w T sz (.slice none 0 0) none [] :=
  ⟨⟨[], OwnR.nil _ _ _ _⟩, by simp, hL, hB⟩
theorem Gr.keep {B : Nat} {L L' : List Nat} {w w' : World} {T : TypeId} {sz : Nat} {v : Value} {g : Option Nat} {rows : List (List C)} (h : Gr B L w T sz v g rows) (k : Keep L' w w') (hL : ∀ x, x ∈ L' → x ∈ L) : Gr B L w' T sz v g rows :=
  ⟨h.own.imp fun _ h => h.keep k hL, h.low, fun x hx => Nat.lt_of_lt_of_le (h.lim x hx) k.size, Nat.le_trans h.bsz k.size⟩
theorem Gr.ext {B : Nat} {L : List Nat} {w w' : World} {T : TypeId} {sz : Nat} {v : Value} {g : Option Nat} {rows : List (List C)} (h : Gr B L w T sz v g rows) (k : Keep [] w w') : Gr B L w' T sz v g rows := h.keep k (by simp)
theorem Gr.sto {B : Nat} {L L' : List Nat} {w w' : World} {T : TypeId} {sz : Nat} {v : Value} {g : Option Nat} {rows : List (List C)} (h : Gr B L w T sz v g rows) (k : Keep L' w w') (hL : ∀ x, x ∈ L' → x ∈ L) : Gr B L w' T sz v g rows := h.keep k hL
/-- A box more, that is written. -/
theorem Gr.alloc {B : Nat} {L : List Nat} {w w' : World} {T : TypeId} {sz : Nat} {v : Value} {g : Option Nat} {rows : List (List C)} (h : Gr B L w T sz v g rows) (k : Keep [] w w') (hz : w'.heap.size = w.heap.size + 1) : Gr B (w.heap.size :: L) w' T sz v g rows :=
  ⟨h.own.imp fun _ h => (h.more grow_mem).keep k (by simp), h.low, fun x hx => by rcases List.mem_cons.1 hx with rfl | hx; omega; have := h.lim x hx; omega, Nat.le_trans h.bsz k.size⟩
theorem Gr.weak {B : Nat} {L L' : List Nat} {w : World} {T : TypeId} {sz : Nat} {v : Value} {g : Option Nat} {rows : List (List C)} (h : Gr B L w T sz v g rows) (hL : ∀ x, x ∈ L' → x ∈ L) : Gr B L' w T sz v g rows :=
  ⟨h.own.imp fun _ h => h.more fun x hx => .inl (hL x hx), h.low, fun x hx => h.lim x (hL x hx), h.bsz⟩
theorem Gr.done {B : Nat} {L : List Nat} {w : World} {T : TypeId} {sz : Nat} {v : Value} {g : Option Nat} {rows : List (List C)} (h : Gr B L w T sz v g rows) : Rep L w v (.sl sz rows) := by
  obtain ⟨_, h⟩ := h.own; exact h.done
theorem Gr.sepL {B : Nat} {L : List Nat} {w : World} {T : TypeId} {sz : Nat} {v : Value} {g : Option Nat} {rows : List (List C)} (h : Gr B L w T sz v g rows) {b : Nat} (hb : b ∈ L) : b ∉ g.toList := by
  obtain ⟨_, h⟩ := h.own; exact h.sep hb
theorem Gr.sepB {B : Nat} {L : List Nat} {w : World} {T : TypeId} {sz : Nat} {v : Value} {g : Option Nat} {rows : List (List C)} (h : Gr B L w T sz v g rows) {b : Nat} (hb : b < B) : b ∉ g.toList := by
  intro hx; have := h.low b (by simpa using hx); omega
theorem Gr.lt {B : Nat} {L : List Nat} {w : World} {T : TypeId} {sz : Nat} {v : Value} {g : Option Nat} {rows : List (List C)} (h : Gr B L w T sz v g rows) : ∀ x, x ∈ g.toList → x < w.heap.size := by
  obtain ⟨_, h⟩ := h.own; intro x hx; exact h.own.lt x (by simpa using hx)
theorem Gr.all {B : Nat} {L : List Nat} {w : World} {T : TypeId} {sz : Nat} {v : Value} {g : Option Nat} {rows : List (List C)} (h : Gr B L w T sz v g rows) : ∀ x, x ∈ g.toList ++ L → x < w.heap.size := by
  intro x hx
  rcases List.mem_append.1 hx with hx | hx
  · exact h.lt x hx
  · exact h.lim x hx
/-- What was so in the world at which the slice begins stays so while it grows. -/
theorem Gr.since {L L' : List Nat} {w0 w w' : World} {T : TypeId} {sz : Nat} {v : Value} {g : Option Nat} {rows : List (List C)} (h : Gr w0.heap.size L w T sz v g rows) (k0 : Keep L' w0 w) (k : Keep g.toList w w') : Keep L' w0 w' :=
  k0.since k fun x hx => .inr (h.low x (by simpa using hx))
theorem Keep.older {L' : List Nat} {w0 w w' : World} {B : Nat} {g : Option Nat} (hB : w0.heap.size ≤ B) (hl : ∀ b, g = some b → B ≤ b) (k0 : Keep L' w0 w) (k : Keep g.toList w w') : Keep L' w0 w' :=
  k0.since k fun x hx => .inr (Nat.le_trans hB (hl x (by simpa using hx)))

section
variable {P : Program} {n : Nat} {ops : Array Oper} {K : Env → World → Prop} {rest : List Oper} {e : Env} {w : World}
  {dst : Option Nat} {ty : TypeId} {pos : String} {after : Array Edge} {g : Option (Nat × Bool)} {x y : Operand}
theorem ow_grow {B : Nat} {L : List Nat} {t E sz bytes : Nat} {z : Value} {v : Value} {gb : Option Nat} {rows : List (List C)} {row : List C} {news : List Value} {b U : Nat} (hT : P.underlying t = some (.slice E)) (hE : TI P E sz bytes z) (hg : gate ops e g = true) (hd : okDst n dst = true) (hz : Nat.beq z.cells.size sz = true) (hby : Nat.ble bytes 1000 = true)
    (hx : ev e x = v) (hy : ev e y = .slice (some ⟨b, 0, none⟩) 1 1) (hO : Gr B L w E sz v gb rows) (hb : Blk w b news.toArray U) (hrow : row.length = sz) (h1 : news.all Value.oneCell' = true)
    (hr : RepL (gb.toList ++ L) w news row) (hn : rows.length < 100000000)
    (k : ∀ a' cap' g' w', Gr B L w' E sz (.slice a' (rows.length + 1) cap') g' (rows ++ [row]) → Keep gb.toList w w' → OW P n ops K rest (put? e dst (.slice a' (rows.length + 1) cap')) w') :
    OW P n ops K (⟨dst, .call { callee := .builtin .append, args := #[x, y], argTypes := #[t, t] }, ty, pos, after, g⟩ :: rest) e w := by
  obtain ⟨xs, hR⟩ := hO.own
  have hby' : bytes ≤ 1000 := Nat.le_of_ble_eq_true hby
  refine ow_app1 hT hE hg hd hz hx hy hR hrow hb.all (fun u hu => List.all_eq_true.1 h1 u hu) hr hO.lim (Nat.le_trans (Nat.mul_le_mul (show rows.length + 1 ≤ 100000000 by omega) (show bytes + 1 ≤ 1001 by omega)) (by decide)) ?_
  intro a' cap' g' w' hO' hk hg'
  refine k a' cap' g' w' ⟨⟨_, hO'⟩, fun b hb => ?_, fun x hx => Nat.lt_of_lt_of_le (hO.lim x hx) hk.size, Nat.le_trans hO.bsz hk.size⟩ hk
  rcases hg' with h | h
  · rw [h] at hb; exact hO.low b hb
  · rw [h] at hb; cases hb; exact hO.bsz
/-- A form behind others. -/
theorem ow_growT {B : Nat} {L : List Nat} {t E bytes : Nat} {z : Value} {v u1 u2 : Value} {gb : Option Nat} {ts : List Tree} {f : Tree} {b U : Nat} (hT : P.underlying t = some (.slice E)) (hE : TI P E 2 bytes z) (hg : gate ops e g = true) (hd : okDst n dst = true) (hz : Nat.beq z.cells.size 2 = true) (hby : Nat.ble bytes 1000 = true)
    (hx : ev e x = v) (hy : ev e y = .slice (some ⟨b, 0, none⟩) 1 1) (hO : Gr B L w E 2 v gb (encs ts)) (hb : Blk w b [u1, u2].toArray U)
    (hr : RTree (gb.toList ++ L) w (.agg #[u1, u2]) f) (hn : ts.length < 100000000)
    (k : ∀ a' cap' g' w', Gr B L w' E 2 (.slice a' (ts ++ [f]).length cap') g' (encs (ts ++ [f])) → Keep gb.toList w w' → OW P n ops K rest (put? e dst (.slice a' (ts ++ [f]).length cap')) w') :
    OW P n ops K (⟨dst, .call { callee := .builtin .append, args := #[x, y], argTypes := #[t, t] }, ty, pos, after, g⟩ :: rest) e w := by
  refine ow_grow hT hE hg hd hz hby hx hy hO hb (enc_length f) ?_ hr.repl (by rw [encs_length]; exact hn) ?_
  · rw [List.all_eq_true]
    refine fun u hu => RepL.allOne hr.repl (fun c hc v hv => ?_) u hu
    cases f; rw [Tree.enc] at hc
    simp only [List.mem_cons, List.not_mem_nil, or_false] at hc
    rcases hc with h | h
    · rw [h] at hv; cases hv; rfl
    · rw [h] at hv; cases hv
  · intro a' cap' g' w' hO' hk
    have e1 : (encs ts).length + 1 = (ts ++ [f]).length := by simp [encs_length]
    have e2 : encs ts ++ [f.enc] = encs (ts ++ [f]) := by simp [encs_append, encs]
    rw [e1] at hO' ⊢
    rw [e2] at hO'
    exact k a' cap' g' w' hO' hk
/-- A text behind others. -/
theorem ow_growS {B : Nat} {L : List Nat} {t E bytes : Nat} {z : Value} {v : Value} {gb : Option Nat} {ss : List Bytes} {s : Bytes} {b U : Nat} (hT : P.underlying t = some (.slice E)) (hE : TI P E 1 bytes z) (hg : gate ops e g = true) (hd : okDst n dst = true) (hz : Nat.beq z.cells.size 1 = true) (hby : Nat.ble bytes 1000 = true)
    (hx : ev e x = v) (hy : ev e y = .slice (some ⟨b, 0, none⟩) 1 1) (hO : Gr B L w E 1 v gb (strsC ss)) (hb : Blk w b [str s].toArray U) (hn : ss.length < 100000000)
    (k : ∀ a' cap' g' w', Gr B L w' E 1 (.slice a' (ss ++ [s]).length cap') g' (strsC (ss ++ [s])) → Keep gb.toList w w' → OW P n ops K rest (put? e dst (.slice a' (ss ++ [s]).length cap')) w') :
    OW P n ops K (⟨dst, .call { callee := .builtin .append, args := #[x, y], argTypes := #[t, t] }, ty, pos, after, g⟩ :: rest) e w := by
  refine ow_grow (row := [.val (str s)]) hT hE hg hd hz hby hx hy hO hb rfl rfl ⟨.val _, trivial⟩ (by rw [strsC_length]; exact hn) ?_
  intro a' cap' g' w' hO' hk
  have e1 : (strsC ss).length + 1 = (ss ++ [s]).length := by simp [strsC_length]
  have e2 : strsC ss ++ [[.val (str s)]] = strsC (ss ++ [s]) := by simp [strsC]
  rw [e1] at hO' ⊢
  rw [e2] at hO'
  exact k a' cap' g' w' hO' hk
end

/-- 'T{}' of no element. -/
theorem run_buildSlice0 {P : Program} {w : World} {T E sz bytes : Nat} {z : Value} (hT : P.underlying T = some (.slice E)) (hE : TI P E sz bytes z) : (Instr.buildSlice T 0 #[]).run P w = .ok (.slice (some ⟨w.heap.size, 0, none⟩) 0 0) (w.alloc (.cells #[] E)) := by
  simp [Instr.buildSlice, Sem.run_bind, run_underlying hT, Result.andThen_ok, hE.run_size, Instr.fill, newRow]; congr 2; apply Array.ext <;> simp
theorem ow_buildSlice0 {P : Program} {n : Nat} {ops : Array Oper} {K : Env → World → Prop} {rest : List Oper} {e : Env} {w : World} {dst : Option Nat} {ty : TypeId} {pos : String} {after : Array Edge} {g : Option (Nat × Bool)}
    {T E sz bytes : Nat} {z : Value} (B : Nat) (L : List Nat) (hT : P.underlying T = some (.slice E)) (hE : TI P E sz bytes z) (hg : gate ops e g = true) (hd : okDst n dst = true) (hB : B ≤ w.heap.size) (hL : ∀ x, x ∈ L → x < w.heap.size)
    (k : ∀ w', Keep [] w w' → w'.heap.size = w.heap.size + 1 → Gr B L w' E sz (.slice (some ⟨w.heap.size, 0, none⟩) 0 0) (some w.heap.size) [] → OW P n ops K rest (put? e dst (.slice (some ⟨w.heap.size, 0, none⟩) 0 0)) w') :
    OW P n ops K (⟨dst, .buildSlice T 0 #[], ty, pos, after, g⟩ :: rest) e w :=
  ow_val hg hd (w' := w.alloc (.cells #[] E)) (by simp [execOp, run_buildSlice0 (P := P) (w := w) hT hE])
    (k _ (Keep.alloc _ _ _) (by simp) ⟨⟨[], ⟨by simp, .inr ⟨w.heap.size, 0, #[], rfl, rfl, Blk.alloc _ _ _, Nat.le_refl _, by decide, by simp, by simp⟩⟩, trivial, by simp, by intro b hb hx; cases hb; have := hL _ hx; omega⟩,
      by intro b hb; cases hb; exact hB, fun x hx => by have := hL x hx; simp; omega, by simp; omega⟩)
/-- A block of a program behind others. -/
theorem RBk.repl {L : List Nat} {w : World} {x y z : Value} {b : Bk} (h : RBk L w (.agg #[x, y, z]) b) : RepL L w [x, y, z] b.enc := by
  obtain ⟨vs, he, hr⟩ := h
  have hv : vs = [x, y, z] := by
    have := congrArg (fun v => match v with | Value.agg x => x.toList | _ => []) he
    simpa using this.symm
  rw [← hv]; exact hr
theorem ow_growK {P : Program} {n : Nat} {ops : Array Oper} {K : Env → World → Prop} {rest : List Oper} {e : Env} {w : World} {dst : Option Nat} {ty : TypeId} {pos : String} {after : Array Edge} {g : Option (Nat × Bool)} {x y : Operand}
    {B : Nat} {L : List Nat} {t E bytes : Nat} {z : Value} {v u1 u2 u3 : Value} {gb : Option Nat} {ts : List Bk} {f : Bk} {b U : Nat} (hT : P.underlying t = some (.slice E)) (hE : TI P E 3 bytes z) (hg : gate ops e g = true) (hd : okDst n dst = true) (hz : Nat.beq z.cells.size 3 = true) (hby : Nat.ble bytes 1000 = true)
    (hx : ev e x = v) (hy : ev e y = .slice (some ⟨b, 0, none⟩) 1 1) (hO : Gr B L w E 3 v gb (ts.map Bk.enc)) (hb : Blk w b [u1, u2, u3].toArray U)
    (hr : RBk (gb.toList ++ L) w (.agg #[u1, u2, u3]) f) (hn : ts.length < 100000000)
    (k : ∀ a' cap' g' w', Gr B L w' E 3 (.slice a' (ts ++ [f]).length cap') g' ((ts ++ [f]).map Bk.enc) → Keep gb.toList w w' → OW P n ops K rest (put? e dst (.slice a' (ts ++ [f]).length cap')) w') :
    OW P n ops K (⟨dst, .call { callee := .builtin .append, args := #[x, y], argTypes := #[t, t] }, ty, pos, after, g⟩ :: rest) e w := by
  refine ow_grow hT hE hg hd hz hby hx hy hO hb rfl ?_ hr.repl (by simpa using hn) ?_
  · rw [List.all_eq_true]
    refine fun u hu => RepL.allOne hr.repl (fun c hc v hv => ?_) u hu
    rw [Bk.enc] at hc
    simp only [List.mem_cons, List.not_mem_nil, or_false] at hc
    rcases hc with h | h | h
    · rw [h] at hv; cases hv; rfl
    · rw [h] at hv; cases hv
    · rw [h] at hv; cases hv
  · intro a' cap' g' w' hO' hk
    have e1 : (ts.map Bk.enc).length + 1 = (ts ++ [f]).length := by simp
    have e2 : ts.map Bk.enc ++ [f.enc] = (ts ++ [f]).map Bk.enc := by simp
    rw [e1] at hO' ⊢
    rw [e2] at hO'
    exact k a' cap' g' w' hO' hk
theorem Gr.bks {B : Nat} {L : List Nat} {w : World} {T : TypeId} {v : Value} {g : Option Nat} {bs : List Bk} (h : Gr B L w T 3 v g (bs.map Bk.enc)) : RBks L w v bs := h.done

/-! ### Owned lists of texts, owned programs -/
/-- A list of texts whose block one may write. -/
def OStr (w : World) (T : TypeId) (v : Value) (g : Option Nat) (xs : List Bytes) : Prop := Own w T 1 v g xs.length (xs.map fun x => str x)
theorem repL_strs {L : List Nat} {w : World} : ∀ {xs : List Bytes} {vs : List Value}, RepL L w vs (strsC xs).flatten → vs = xs.map fun x => str x
  | [], vs, h => by
    cases vs with
    | nil => rfl
    | cons v vs => exact h.elim
  | x :: xs, vs, h => by
    cases vs with
    | nil => exact h.elim
    | cons v vs =>
      obtain ⟨h1, h2⟩ := h
      cases h1
      rw [List.map_cons, ← repL_strs (xs := xs) h2]
theorem strs_repL {L : List Nat} {w : World} : ∀ xs : List Bytes, RepL L w (xs.map fun x => str x) (strsC xs).flatten
  | [] => trivial
  | _ :: xs => ⟨.val _, strs_repL xs⟩
theorem Gr.ostr {B : Nat} {L : List Nat} {w : World} {T : TypeId} {v : Value} {g : Option Nat} {xs : List Bytes} (h : Gr B L w T 1 v g (strsC xs)) : OStr w T v g xs := by
  obtain ⟨vs, h⟩ := h.own
  have := h.own
  rw [repL_strs h.rep, strsC_length] at this
  exact this
theorem OStr.ownR {L : List Nat} {w : World} {T : TypeId} {v : Value} {g : Option Nat} {xs : List Bytes} (h : OStr w T v g xs) (hL : ∀ b, g = some b → b ∉ L) : OwnR L w T 1 v g (strsC xs) (xs.map fun x => str x) :=
  ⟨by rw [strsC_length]; exact h, strs_repL xs, by intro row hr; simp [strsC] at hr; obtain ⟨_, _, rfl⟩ := hr; rfl, hL⟩
theorem OStr.rep {L : List Nat} {w : World} {T : TypeId} {v : Value} {g : Option Nat} {xs : List Bytes} (h : OStr w T v g xs) (hL : ∀ b, g = some b → b ∉ L) : RStrs L w v xs := (h.ownR hL).done
theorem OStr.keep {L : List Nat} {w w' : World} {T : TypeId} {v : Value} {g : Option Nat} {xs : List Bytes} (h : OStr w T v g xs) (k : Keep L w w') (hL : ∀ b, g = some b → b ∉ L) : OStr w' T v g xs := Own.keep h k hL
theorem OStr.ext {w w' : World} {T : TypeId} {v : Value} {g : Option Nat} {xs : List Bytes} (h : OStr w T v g xs) (k : Keep [] w w') : OStr w' T v g xs := h.keep k (by simp)
theorem OStr.nil {w : World} {T : TypeId} : OStr w T (.slice none 0 0) none [] := Own.nil _ _ _

/-- A block of a program, its lists one's own. -/
def OBk (w : World) (T : TypeId) (gs : Option Nat × Option Nat) (vs : List Value) (b : Bk) : Prop :=
  ∃ v1 v2, vs = [str b.label, v1, v2] ∧ OStr w T v1 gs.1 b.needs ∧ OStr w T v2 gs.2 b.code
def twoL (gs : Option Nat × Option Nat) : List Nat := gs.1.toList ++ gs.2.toList
def allG (gss : List (Option Nat × Option Nat)) : List Nat := gss.flatMap twoL
theorem OBk.keep {L : List Nat} {w w' : World} {T : TypeId} {gs : Option Nat × Option Nat} {vs : List Value} {b : Bk} (h : OBk w T gs vs b) (k : Keep L w w') (hL : ∀ x, x ∈ twoL gs → x ∉ L) : OBk w' T gs vs b := by
  obtain ⟨v1, v2, e, h1, h2⟩ := h
  exact ⟨v1, v2, e, h1.keep k (fun b hb => hL b (by simp [twoL, hb])), h2.keep k (fun b hb => hL b (by simp [twoL, hb]))⟩
def OBkL (w : World) (T : TypeId) : List (Option Nat × Option Nat) → List (List Value) → List Bk → Prop
  | [], [], [] => True
  | g :: gs, v :: vs, b :: bs => OBk w T g v b ∧ OBkL w T gs vs bs
  | _, _, _ => False
theorem OBkL.keep {L : List Nat} {w w' : World} {T : TypeId} (k : Keep L w w') : ∀ {gss : List (Option Nat × Option Nat)} {vss : List (List Value)} {bs : List Bk}, OBkL w T gss vss bs → (∀ x, x ∈ allG gss → x ∉ L) → OBkL w' T gss vss bs
  | [], [], [], _, _ => trivial
  | g :: gs, v :: vs, b :: bs, h, hL => ⟨h.1.keep k (fun x hx => hL x (by simp [allG, hx])), OBkL.keep k h.2 (fun x hx => hL x (by simp [allG] at hx ⊢; exact .inr hx))⟩
theorem OBkL.snoc {w : World} {T : TypeId} : ∀ {gss : List (Option Nat × Option Nat)} {vss : List (List Value)} {bs : List Bk} {g : Option Nat × Option Nat} {v : List Value} {b : Bk}, OBkL w T gss vss bs → OBk w T g v b → OBkL w T (gss ++ [g]) (vss ++ [v]) (bs ++ [b])
  | [], [], [], _, _, _, _, h => ⟨h, trivial⟩
  | _ :: _, _ :: _, _ :: _, _, _, _, h, k => ⟨h.1, OBkL.snoc h.2 k⟩
theorem OBkL.lens {w : World} {T : TypeId} : ∀ {gss : List (Option Nat × Option Nat)} {vss : List (List Value)} {bs : List Bk}, OBkL w T gss vss bs → gss.length = bs.length ∧ vss.length = bs.length ∧ ∀ row, row ∈ vss → row.length = 3
  | [], [], [], _ => by simp
  | g :: gs, v :: vs, b :: bs, h => by
    obtain ⟨h1, h2, h3⟩ := OBkL.lens h.2
    refine ⟨by simp [h1], by simp [h2], fun row hr => ?_⟩
    rcases List.mem_cons.1 hr with rfl | hr
    · obtain ⟨v1, v2, rfl, _⟩ := h.1; rfl
    · exact h3 row hr
theorem OBkL.get {w : World} {T : TypeId} : ∀ {gss : List (Option Nat × Option Nat)} {vss : List (List Value)} {bs : List Bk}, OBkL w T gss vss bs → ∀ {i : Nat} {b : Bk}, bs[i]? = some b → ∃ g v, gss[i]? = some g ∧ vss[i]? = some v ∧ OBk w T g v b
  | _ :: _, _ :: _, _ :: _, h, 0, b, hb => by simp at hb; subst hb; exact ⟨_, _, rfl, rfl, h.1⟩
  | _ :: gs, _ :: vs, _ :: bs, h, i + 1, b, hb => by
    obtain ⟨g, v, h1, h2, h3⟩ := OBkL.get h.2 (i := i) (by simpa using hb)
    exact ⟨g, v, by simpa using h1, by simpa using h2, h3⟩
  | [], [], [], _, i, b, hb => by simp at hb
theorem OBkL.repL {L : List Nat} {w : World} {T : TypeId} : ∀ {gss : List (Option Nat × Option Nat)} {vss : List (List Value)} {bs : List Bk}, OBkL w T gss vss bs → (∀ x, x ∈ allG gss → x ∉ L) → RepL L w vss.flatten (bs.map Bk.enc).flatten
  | [], [], [], _, _ => trivial
  | g :: gs, v :: vs, b :: bs, h, hL => by
    obtain ⟨v1, v2, rfl, h1, h2⟩ := h.1
    refine ⟨.val _, h1.rep (fun b hb => hL b (by simp [allG, twoL, hb])), h2.rep (fun b hb => hL b (by simp [allG, twoL, hb])), ?_⟩
    exact OBkL.repL h.2 (fun x hx => hL x (by simp [allG] at hx ⊢; exact .inr hx))

/-- A program that one may write: no block of it is reached on two ways. -/
structure OBks (w : World) (TB TS : TypeId) (v : Value) (g : Option Nat) (gss : List (Option Nat × Option Nat)) (vss : List (List Value)) (bs : List Bk) : Prop where
  own : Own w TB 3 v g bs.length vss.flatten
  rows : OBkL w TS gss vss bs
  nodup : (g.toList ++ allG gss).Nodup
  lt : ∀ x, x ∈ allG gss → x < w.heap.size
theorem OBks.keep {L : List Nat} {w w' : World} {TB TS : TypeId} {v : Value} {g : Option Nat} {gss : List (Option Nat × Option Nat)} {vss : List (List Value)} {bs : List Bk} (h : OBks w TB TS v g gss vss bs) (k : Keep L w w') (hL : ∀ x, x ∈ g.toList ++ allG gss → x ∉ L) : OBks w' TB TS v g gss vss bs :=
  ⟨h.own.keep k (fun b hb => hL b (by simp [hb])), h.rows.keep k (fun x hx => hL x (by simp [hx])), h.nodup, fun x hx => Nat.lt_of_lt_of_le (h.lt x hx) k.size⟩
theorem OBks.ext {w w' : World} {TB TS : TypeId} {v : Value} {g : Option Nat} {gss : List (Option Nat × Option Nat)} {vss : List (List Value)} {bs : List Bk} (h : OBks w TB TS v g gss vss bs) (k : Keep [] w w') : OBks w' TB TS v g gss vss bs := h.keep k (by simp)
theorem OBks.rep {L : List Nat} {w : World} {TB TS : TypeId} {v : Value} {g : Option Nat} {gss : List (Option Nat × Option Nat)} {vss : List (List Value)} {bs : List Bk} (h : OBks w TB TS v g gss vss bs) (hL : ∀ x, x ∈ g.toList ++ allG gss → x ∉ L) : RBks L w v bs := by
  have hd := (List.nodup_append.1 h.nodup).2.2
  refine OwnR.done (L := L) (w := w) (T := TB) (g := g) (xs := vss.flatten) ⟨by simpa using h.own, h.rows.repL fun x hx => ?_, ?_, fun b hb => hL b (by simp [hb])⟩
  · intro hc
    rcases List.mem_append.1 hc with hc | hc
    · exact hd x hc x hx rfl
    · exact hL x (by simp [hx]) hc
  · intro row hr
    obtain ⟨b, _, rfl⟩ := List.mem_map.1 hr
    rfl
theorem OBks.nil {w : World} {TB TS : TypeId} : OBks w TB TS (.slice none 0 0) none [] [] [] := ⟨Own.nil _ _ _, trivial, by simp [allG], by simp [allG]⟩
theorem RTree.mid {A B : List Nat} {b : Nat} {w : World} {v : Value} {t : Tree} (h : RTree (b :: (A ++ B)) w v t) : RTree (A ++ (b :: B)) w v t := RepA.fresh h fun x hx => .inl (mem_mid x hx)
theorem RTree.weak {L L' : List Nat} {w : World} {v : Value} {t : Tree} (h : RTree L w v t) (hL : ∀ x, x ∈ L' → x ∈ L) : RTree L' w v t := RepA.fresh h fun x hx => .inl (hL x hx)
theorem RTrees.weak {L L' : List Nat} {w : World} {v : Value} {t : List Tree} (h : RTrees L w v t) (hL : ∀ x, x ∈ L' → x ∈ L) : RTrees L' w v t := Rep.fresh h fun x hx => .inl (hL x hx)
theorem Gr.trees {B : Nat} {L : List Nat} {w : World} {T : TypeId} {v : Value} {g : Option Nat} {ts : List Tree} (h : Gr B L w T 2 v g (encs ts)) : RTrees L w v ts := h.done
end Go.Proofs.YtnkjgoholocliaaGreatDoor

namespace Go.Proofs.YtnkjgoholocliaaGreatDoor
open Go

def IBk.enc (b : IBk) : List C := [.val (str b.label), .sl 2 (encs b.regs), .sl 2 (encs b.code)]
def RIBk (L : List Nat) (w : World) (v : Value) (b : IBk) : Prop := RepA L w v b.enc
theorem RIBk.ext {L : List Nat} {w w' : World} {v : Value} {b : IBk} (h : RIBk L w v b) (k : Keep [] w w') : RIBk L w' v b := RepA.ext h k
theorem RIBk.grow {L : List Nat} {w : World} {v : Value} {b : IBk} (h : RIBk L w v b) : RIBk (w.heap.size :: L) w v b := RepA.fresh h grow_mem
theorem RIBk.sto {L L' : List Nat} {w w' : World} {v : Value} {b : IBk} (h : RIBk L w v b) (k : Keep L' w w') (hL : ∀ x, x ∈ L' → x ∈ L) : RIBk L w' v b := RepA.keep h (k.mono hL)
theorem RIBk.weak {L L' : List Nat} {w : World} {v : Value} {b : IBk} (h : RIBk L w v b) (hL : ∀ x, x ∈ L' → x ∈ L) : RIBk L' w v b := RepA.fresh h fun x hx => .inl (hL x hx)
theorem repL_ibk {L : List Nat} {w : World} {vs : List Value} {b : IBk} (h : RepL L w vs b.enc) : ∃ v1 v2, vs = [str b.label, v1, v2] ∧ RTrees L w v1 b.regs ∧ RTrees L w v2 b.code := by
  rw [IBk.enc] at h
  match vs, h with
  | [v0, v1, v2], h => obtain ⟨h0, h1, h2, _⟩ := h; cases h0; exact ⟨v1, v2, rfl, h1, h2⟩
  | [], h => exact h.elim
  | [_], h => exact h.2.elim
  | [_, _], h => exact h.2.2.elim
  | _ :: _ :: _ :: _ :: _, h => exact h.2.2.2.elim
theorem trees_cases {L : List Nat} {w : World} {v : Value} {ts : List Tree} (h : RTrees L w v ts) : ∃ a c, v = .slice a ts.length c := by
  obtain ⟨a, c, rfl, _⟩ := rep_len h
  exact ⟨a, c, by rw [encs_length]⟩
theorem ribk_cases {L : List Nat} {w : World} {v : Value} {b : IBk} (h : RIBk L w v b) : ∃ a1 c1 a2 c2, v = .agg #[str b.label, .slice a1 b.regs.length c1, .slice a2 b.code.length c2] ∧
    RTrees L w (.slice a1 b.regs.length c1) b.regs ∧ RTrees L w (.slice a2 b.code.length c2) b.code := by
  obtain ⟨vs, rfl, hr⟩ := h
  obtain ⟨v1, v2, rfl, h1, h2⟩ := repL_ibk hr
  obtain ⟨a1, c1, rfl⟩ := trees_cases h1
  obtain ⟨a2, c2, rfl⟩ := trees_cases h2
  exact ⟨a1, c1, a2, c2, rfl, h1, h2⟩
theorem ribk_of {L : List Nat} {w : World} {l : Bytes} {r c : List Tree} {v1 v2 : Value} (h1 : RTrees L w v1 r) (h2 : RTrees L w v2 c) : RIBk L w (.agg #[str l, v1, v2]) ⟨l, r, c⟩ :=
  ⟨[str l, v1, v2], rfl, .val _, h1, h2, trivial⟩
theorem RIBk.repl {L : List Nat} {w : World} {x y z : Value} {b : IBk} (h : RIBk L w (.agg #[x, y, z]) b) : RepL L w [x, y, z] b.enc := by
  obtain ⟨vs, he, hr⟩ := h
  have hv : vs = [x, y, z] := by
    have := congrArg (fun v => match v with | Value.agg x => x.toList | _ => []) he
    simpa using this.symm
  rw [← hv]; exact hr
def RProg (L : List Nat) (w : World) (v : Value) (ps : List IBk) : Prop := Rep L w v (.sl 3 (ps.map IBk.enc))
theorem RProg.ext {L : List Nat} {w w' : World} {v : Value} {ps : List IBk} (h : RProg L w v ps) (k : Keep [] w w') : RProg L w' v ps := Rep.ext h k
theorem RProg.grow {L : List Nat} {w : World} {v : Value} {b : List IBk} (h : RProg L w v b) : RProg (w.heap.size :: L) w v b := Rep.fresh h grow_mem
theorem RProg.sto {L L' : List Nat} {w w' : World} {v : Value} {b : List IBk} (h : RProg L w v b) (k : Keep L' w w') (hL : ∀ x, x ∈ L' → x ∈ L) : RProg L w' v b := Rep.keep h (k.mono hL)
theorem RProg.weak {L L' : List Nat} {w : World} {v : Value} {b : List IBk} (h : RProg L w v b) (hL : ∀ x, x ∈ L' → x ∈ L) : RProg L' w v b := Rep.fresh h fun x hx => .inl (hL x hx)
theorem rprog_nil {L : List Nat} {w : World} : RProg L w (.slice none 0 0) [] := .nil _ _ _
theorem rprog_cases {L : List Nat} {w : World} {v : Value} {ps : List IBk} (h : RProg L w v ps) : ∃ a c, v = .slice a ps.length c := by
  obtain ⟨a, c, rfl, _⟩ := rep_len h
  exact ⟨a, c, by simp⟩
theorem rprog_get {L : List Nat} {w : World} {a : Option Addr} {n c i : Nat} {ps : List IBk} {k : IBk} (h : RProg L w (.slice a n c) ps) (hi : ps[i]? = some k) :
    ∃ b off a1 c1 a2 c2, a = some ⟨b, off, none⟩ ∧ CellsAt w b (off + i * 3) [str k.label, .slice a1 k.regs.length c1, .slice a2 k.code.length c2] ∧ RTrees L w (.slice a1 k.regs.length c1) k.regs ∧ RTrees L w (.slice a2 k.code.length c2) k.code := by
  obtain ⟨b, off, vs, ha, hb, hL, hl, hc, hr⟩ := rep_get h (show (ps.map IBk.enc)[i]? = some k.enc by simp [hi])
  obtain ⟨v1, v2, rfl, h1, h2⟩ := repL_ibk hr
  obtain ⟨a1, c1, rfl⟩ := trees_cases h1
  obtain ⟨a2, c2, rfl⟩ := trees_cases h2
  exact ⟨b, off, a1, c1, a2, c2, ha, hc, h1, h2⟩
theorem Gr.prog {B : Nat} {L : List Nat} {w : World} {T : TypeId} {v : Value} {g : Option Nat} {ps : List IBk} (h : Gr B L w T 3 v g (ps.map IBk.enc)) : RProg L w v ps := h.done
section
variable {P : Program} {n : Nat} {ops : Array Oper} {K : Env → World → Prop} {rest : List Oper} {e : Env} {w : World}
  {dst : Option Nat} {ty : TypeId} {pos : String} {after : Array Edge} {g : Option (Nat × Bool)} {x y : Operand}
/-- A block behind others. -/
theorem ow_growB {B : Nat} {L : List Nat} {t E bytes : Nat} {z : Value} {v u1 u2 u3 : Value} {gb : Option Nat} {ts : List IBk} {f : IBk} {b U : Nat} (hT : P.underlying t = some (.slice E)) (hE : TI P E 3 bytes z) (hg : gate ops e g = true) (hd : okDst n dst = true) (hz : Nat.beq z.cells.size 3 = true) (hby : Nat.ble bytes 1000 = true)
    (hx : ev e x = v) (hy : ev e y = .slice (some ⟨b, 0, none⟩) 1 1) (hO : Gr B L w E 3 v gb (ts.map IBk.enc)) (hb : Blk w b [u1, u2, u3].toArray U)
    (hr : RIBk (gb.toList ++ L) w (.agg #[u1, u2, u3]) f) (hn : ts.length < 100000000)
    (k : ∀ a' cap' g' w', Gr B L w' E 3 (.slice a' (ts ++ [f]).length cap') g' ((ts ++ [f]).map IBk.enc) → Keep gb.toList w w' → OW P n ops K rest (put? e dst (.slice a' (ts ++ [f]).length cap')) w') :
    OW P n ops K (⟨dst, .call { callee := .builtin .append, args := #[x, y], argTypes := #[t, t] }, ty, pos, after, g⟩ :: rest) e w := by
  refine ow_grow hT hE hg hd hz hby hx hy hO hb rfl ?_ hr.repl (by simpa using hn) ?_
  · rw [List.all_eq_true]
    refine fun u hu => RepL.allOne hr.repl (fun c hc v hv => ?_) u hu
    rw [IBk.enc] at hc
    simp only [List.mem_cons, List.not_mem_nil, or_false] at hc
    rcases hc with h | h | h
    · rw [h] at hv; cases hv; rfl
    · rw [h] at hv; cases hv
    · rw [h] at hv; cases hv
  · intro a' cap' g' w' hO' hk
    have e1 : (ts.map IBk.enc).length + 1 = (ts ++ [f]).length := by simp
    have e2 : ts.map IBk.enc ++ [f.enc] = (ts ++ [f]).map IBk.enc := by simp
    rw [e1] at hO' ⊢
    rw [e2] at hO'
    exact k a' cap' g' w' hO' hk
end
end Go.Proofs.YtnkjgoholocliaaGreatDoor

namespace Go.Proofs.YtnkjgoholocliaaGreatDoor
open Go

/-! ### Rows of zero values -/
theorem madeCells_rows (z : Array Value) : ∀ n : Nat, (madeCells z (n * z.size)).toList = (List.replicate n z.toList).flatten
  | 0 => by simp [madeCells]
  | n + 1 => by
    have ih := madeCells_rows z n
    have e : (madeCells z (n * z.size)).toList = (List.range (n * z.size)).map fun i => z[i % z.size]! := by simp [madeCells]
    have e2 : (madeCells z ((n + 1) * z.size)).toList = (List.range ((n + 1) * z.size)).map fun i => z[i % z.size]! := by simp [madeCells]
    rw [e2, Nat.add_mul, Nat.one_mul, Nat.add_comm, List.range_add, List.map_append, List.replicate_succ, List.flatten_cons, ← ih, e]
    congr 1
    · refine List.ext_getElem (by simp) fun i h1 h2 => ?_
      have hi : i < z.size := by simpa using h1
      simp [Nat.mod_eq_of_lt hi, hi]
    · rw [List.map_map]
      refine List.map_congr_left fun i _ => ?_
      simp
theorem repL_replicate {L : List Nat} {w : World} {zs : List Value} {row : List C} (h : RepL L w zs row) : ∀ n : Nat, RepL L w (List.replicate n zs).flatten (List.replicate n row).flatten
  | 0 => trivial
  | n + 1 => by rw [List.replicate_succ, List.replicate_succ, List.flatten_cons, List.flatten_cons]; exact h.append (repL_replicate h n)

section
variable {P : Program} {n : Nat} {ops : Array Oper} {K : Env → World → Prop} {rest : List Oper} {e : Env} {w : World}
  {dst : Option Nat} {ty : TypeId} {pos : String} {after : Array Edge} {g : Option (Nat × Bool)} {x y : Operand}
/-- 'make([]T, n)'. -/
theorem ow_makeSlice {t E sz bytes : Nat} {z : Value} {zs : List Value} {row : List C} {kl kc : IntKind} {i1 i2 : Int} (B N : Nat) (L : List Nat) (hT : P.underlying t = some (.slice E)) (hE : TI P E sz bytes z) (hg : gate ops e g = true) (hd : okDst n dst = true)
    (hz : z.cells = zs.toArray) (hzl : Nat.beq zs.length sz = true) (hby : Nat.ble bytes 1000 = true) (hx : ev e x = .int kl i1) (hy : ev e y = .int kc i2) (h1 : i1 = (N : Int)) (h2 : i2 = (N : Int)) (hN : N ≤ 100000000000)
    (hrow : ∀ L w, RepL L w zs row) (hB : B ≤ w.heap.size) (hL : ∀ x, x ∈ L → x < w.heap.size)
    (k : ∀ w', Keep [] w w' → w'.heap.size = w.heap.size + 1 → Gr B L w' E sz (.slice (some ⟨w.heap.size, 0, none⟩) N N) (some w.heap.size) (List.replicate N row) → OW P n ops K rest (put? e dst (.slice (some ⟨w.heap.size, 0, none⟩) N N)) w') :
    OW P n ops K (⟨dst, .makeSlice t x y, ty, pos, after, g⟩ :: rest) e w := by
  subst h1 h2
  obtain ⟨i, hi, hz', hsz, hbi⟩ := hE.get
  have hby' : bytes ≤ 1000 := Nat.le_of_ble_eq_true hby
  have hzl' : zs.length = sz := Nat.eq_of_beq_eq_true hzl
  have hzs : z.cells.size = sz := by rw [hz]; simpa using hzl'
  have hb : (i.bytes : Int) * (N : Int) ≤ 281474976710656 := by
    have : i.bytes * N ≤ 1000 * 100000000000 := Nat.mul_le_mul (by omega) hN
    have h : ((i.bytes * N : Nat) : Int) ≤ 281474976710656 := by omega
    rwa [Int.natCast_mul] at h
  have hr := run_make (P := P) w t E i z hT hi hz' kl kc (N : Int) (N : Int) (by omega) (Int.le_refl _) hb (by omega)
  simp only [Int.toNat_natCast] at hr
  have hml := madeCells_rows z.cells N
  rw [hzs] at hml
  have hzt : z.cells.toList = zs := by rw [hz]
  rw [hzt] at hml
  have hrl : row.length = sz := by rw [← (hrow [] w).length, hzl']
  refine ow_val hg hd (w' := w.alloc (.cells (madeCells z.cells (N * sz)) E)) (by rw [hsz] at hr; simp [execOp, hx, hy, hr]) (k _ (Keep.alloc _ _ _) (by simp) ⟨⟨(List.replicate N zs).flatten, ⟨?_, ?_, ?_, ?_⟩⟩, ?_, ?_, ?_⟩)
  · rw [List.length_replicate]
    refine ⟨by rw [← hml]; simp [size_madeCells], .inr ⟨w.heap.size, N, _, rfl, rfl, Blk.alloc _ _ _, Nat.le_refl _, by unfold maxLen; omega, size_madeCells _ _, ?_⟩⟩
    rw [← hml, List.take_of_length_le (by simp [size_madeCells])]
  · exact repL_replicate (hrow _ _) N
  · intro r hr; rw [(List.mem_replicate.1 hr).2]; exact hrl
  · intro b hb hx; cases hb; have := hL _ hx; omega
  · intro b hb; cases hb; exact hB
  · intro x hx; have := hL x hx; simp; omega
  · simp; omega

/-! ### Elements that are stored -/
/-- Cells put one behind the other. -/
def setAt (cs : Array Value) (k : Nat) : List Value → Array Value
  | [] => cs
  | v :: vs => setAt (cs.setIfInBounds k v) (k + 1) vs
theorem setAt_size : ∀ (vs : List Value) (cs : Array Value) (k : Nat), (setAt cs k vs).size = cs.size
  | [], _, _ => rfl
  | v :: vs, cs, k => by unfold setAt; rw [setAt_size vs]; simp
theorem setAt_list : ∀ (vs : List Value) (cs : Array Value) (k : Nat), k + vs.length ≤ cs.size → (setAt cs k vs).toList = cs.toList.take k ++ (vs ++ cs.toList.drop (k + vs.length))
  | [], cs, k, _ => by simp [setAt]
  | v :: vs, cs, k, h => by
    unfold setAt
    simp only [List.length_cons] at h
    rw [setAt_list vs _ _ (by simp; omega), Array.toList_setIfInBounds]
    have hk : k < cs.toList.length := by simp; omega
    rw [List.take_add_one, List.getElem?_set_self hk, List.take_set_of_le (Nat.le_refl k)]
    rw [List.drop_set_of_lt (by omega)]
    simp only [Option.toList_some, List.append_assoc, List.cons_append, List.nil_append, List.length_cons]
    rw [show k + 1 + vs.length = k + (vs.length + 1) from by omega]
theorem run_storeMid : ∀ (vs : List Value) (i : Nat) (w : World) (b o : Nat) (U : TypeId) (cs : Array Value), Blk w b cs U → o + i + vs.length ≤ cs.size → (∀ u ∈ vs, u.oneCell' = true) →
    ∃ w', (storeCells ⟨b, o, none⟩ vs i).run P w = .ok () w' ∧ Keep [b] w w' ∧ Blk w' b (setAt cs (o + i) vs) U ∧ w'.heap.size = w.heap.size
  | [], i, w, b, o, U, cs, hb, _, _ => ⟨w, rfl, Keep.refl _ _, hb, rfl⟩
  | v :: vs, i, w, b, o, U, cs, hb, hs, h1 => by
    simp only [List.length_cons] at hs
    have hil : o + i < cs.size := by omega
    have hst : (store ((⟨b, o, none⟩ : Addr).add i) v).run P w = .ok () (w.setCell ⟨b, o + i, none⟩ v) := by
      rw [add_mk, run_store P w _ v _ (h1 v (by simp)), hb.cell, Array.getElem?_eq_getElem hil, hb.frozen]
      simp
    obtain ⟨w', hr, hk, hb', hz⟩ := run_storeMid vs (i + 1) (w.setCell ⟨b, o + i, none⟩ v) b o U (cs.setIfInBounds (o + i) v) (hb.set (o + i) v) (by simp; omega) (fun u hu => h1 u (by simp [hu]))
    refine ⟨w', ?_, (Keep.setCell w b (o + i) v).trans hk, hb', by rw [hz]; simp [World.setCell]⟩
    simp only [storeCells, Sem.run_bind, hst, Result.andThen_ok]
    exact hr
theorem flatten_set_row {α : Type} {sz : Nat} : ∀ {rows : List (List α)} {i : Nat} {row : List α}, (∀ r, r ∈ rows → r.length = sz) → i < rows.length → row.length = sz → (rows.set i row).flatten = rows.flatten.take (i * sz) ++ (row ++ rows.flatten.drop (i * sz + sz))
  | r :: rows, 0, row, h, _, hr => by
    have h0 : r.length = sz := h r (by simp)
    simp [← h0]
  | r :: rows, i + 1, row, h, hi, hr => by
    have h0 : r.length = sz := h r (by simp)
    have ih := flatten_set_row (rows := rows) (i := i) (row := row) (fun r hr => h r (by simp [hr])) (by simpa using hi) hr
    rw [List.set_cons_succ, List.flatten_cons, List.flatten_cons, ih]
    have e1 : (i + 1) * sz = r.length + i * sz := by rw [h0, Nat.add_mul]; omega
    have e2 : (i + 1) * sz + sz = r.length + (i * sz + sz) := by omega
    rw [e2, e1, List.take_length_add_append, List.drop_length_add_append, List.append_assoc]
theorem RepL.take {L : List Nat} {w : World} : ∀ {k : Nat} {vs : List Value} {cs : List C}, RepL L w vs cs → RepL L w (vs.take k) (cs.take k)
  | 0, _, _, _ => by simp [RepL]
  | _ + 1, [], [], _ => trivial
  | _ + 1, _ :: _, _ :: _, h => ⟨h.1, RepL.take h.2⟩
theorem RepL.drop {L : List Nat} {w : World} : ∀ {k : Nat} {vs : List Value} {cs : List C}, RepL L w vs cs → RepL L w (vs.drop k) (cs.drop k)
  | 0, _, _, h => h
  | _ + 1, [], [], _ => trivial
  | k + 1, _ :: _, _ :: _, h => RepL.drop (k := k) h.2
/-- An element is stored. -/
theorem ow_storeG {T sz bytes : Nat} {z v : Value} {vs : List Value} {row : List C} {B : Nat} {L : List Nat} {E gb : Nat} {N c : Nat} {rows : List (List C)} {b o i : Nat} (hTI : TI P T sz bytes z) (hg : gate ops e g = true)
    (hx : ev e x = .pointer (some ⟨b, o, none⟩)) (hy : ev e y = v) (hv : v.cells = vs.toArray) (ho : o = i * sz) (hO : Gr B L w E sz (.slice (some ⟨b, 0, none⟩) N c) (some gb) rows) (hi : i < rows.length) (h1 : vs.all Value.oneCell' = true)
    (hrl : row.length = sz) (hr : RepL (gb :: L) w vs row)
    (k : ∀ w', Keep [gb] w w' → w'.heap.size = w.heap.size → Gr B L w' E sz (.slice (some ⟨b, 0, none⟩) N c) (some gb) (rows.set i row) → OW P n ops K rest e w') :
    OW P n ops K (⟨none, .store T x y, ty, pos, after, g⟩ :: rest) e w := by
  subst ho
  obtain ⟨xs, ⟨⟨hxl, h | ⟨b', cap, cur, hgb, hvv, hb, hnc, hcm, hcs, ht⟩⟩, hrep, hrow, hout⟩⟩ := hO.own
  · obtain ⟨h, _⟩ := h; cases h
  · cases hvv; cases hgb
    have hvl : vs.length = sz := by rw [hr.length, hrl]
    have hle : (i + 1) * sz ≤ rows.length * sz := Nat.mul_le_mul_right _ hi
    have hle2 : rows.length * sz ≤ c * sz := Nat.mul_le_mul_right _ hnc
    rw [Nat.add_mul, Nat.one_mul] at hle
    obtain ⟨w', hrun, hk, hb', hz⟩ := run_storeMid (P := P) vs 0 w gb (i * sz) E cur hb (by rw [hcs, hvl]; omega) (fun u hu => List.all_eq_true.1 h1 u hu)
    rw [Nat.add_zero] at hb'
    refine ow_unit hg (w' := w') (by
      simp [execOp, Instr.storeAt, Instr.sureAddr, hx, hy, storeVar, hv, hTI.run_size, hvl, hrun]) (k w' hk hz ⟨⟨xs.take (i * sz) ++ (vs ++ xs.drop (i * sz + sz)), ⟨⟨?_, .inr ⟨gb, c, _, rfl, by simp, hb', by simpa using hnc, hcm, by rw [setAt_size]; exact hcs, ?_⟩⟩, ?_, ?_, hout⟩⟩, hO.low, fun x hx => by rw [hz]; exact hO.lim x hx, by rw [hz]; exact hO.bsz⟩)
    · rw [List.length_append, List.length_append, List.length_take, List.length_drop, List.length_set, hxl, hvl]; omega
    · rw [setAt_list _ _ _ (by rw [hcs, hvl]; omega), List.length_set, ← ht, hvl, List.take_append, List.take_append]
      simp only [List.length_take, Array.length_toList, hcs, hvl, List.take_take, List.drop_take]
      rw [Nat.min_eq_right (show i * sz ≤ rows.length * sz by omega), Nat.min_eq_left (show i * sz ≤ rows.length * sz by omega), Nat.min_eq_left (show i * sz ≤ c * sz by omega), List.take_of_length_le (l := vs) (by omega)]
      rw [show rows.length * sz - i * sz - sz = rows.length * sz - (i * sz + sz) from by omega]
    · rw [flatten_set_row hrow hi hrl]
      refine RepL.append (RepL.keep hrep.take (hk.mono (by simp))) (RepL.append (hr.keep (hk.mono (by simp))) (RepL.keep hrep.drop (hk.mono (by simp))))
    · intro r hr'
      rcases List.mem_or_eq_of_mem_set hr' with h | h
      · exact hrow r h
      · rw [h]; exact hrl

/-! ### Slices that are built of several parts -/
theorem fold_put (off : Nat) : ∀ (us : List Value) (i : Nat) (cs : Array Value), ((us.zipIdx i).foldl (fun (cs : Array Value) (p : Value × Nat) => cs.setIfInBounds (off + p.2) p.1) cs) = setAt cs (off + i) us
  | [], _, _ => rfl
  | u :: us, i, cs => by rw [List.zipIdx_cons, List.foldl_cons, fold_put off us]; rfl
theorem fill_rows {sz : Nat} : ∀ (us : List Value) (vss : List (List Value)) (k : Nat) (cs : Array Value), us.map Value.cells = vss.map List.toArray → (∀ vs, vs ∈ vss → vs.length = sz) → cs.size = (k + us.length) * sz →
    ∃ cs', Instr.fill (fun i => some (i * sz, sz)) cs ((us.zipIdx k).map fun p => (p.2, p.1)) = some cs' ∧ cs'.toList = cs.toList.take (k * sz) ++ vss.flatten
  | [], [], k, cs, _, _, hs => ⟨cs, rfl, by simp only [List.length_nil, Nat.add_zero] at hs; simp only [List.flatten_nil, List.append_nil]; rw [List.take_of_length_le (by simp [hs])]⟩
  | [], _ :: _, _, _, h, _, _ => by simp at h
  | _ :: _, [], _, _, h, _, _ => by simp at h
  | u :: us, vs :: vss, k, cs, h, hl, hs => by
    simp only [List.map_cons, List.cons.injEq] at h
    have hvl : vs.length = sz := hl vs (by simp)
    simp only [List.length_cons] at hs
    have e : (k + (us.length + 1)) * sz = k * sz + sz + us.length * sz := by rw [Nat.add_mul, Nat.add_mul, Nat.one_mul]; omega
    rw [List.zipIdx_cons, List.map_cons]
    obtain ⟨cs', h1, h2⟩ := fill_rows us vss (k + 1) (setAt cs (k * sz) vs) h.2 (fun v hv => hl v (by simp [hv])) (by rw [setAt_size, hs]; congr 1; omega)
    refine ⟨cs', ?_, ?_⟩
    · unfold Instr.fill
      simp only [h.1]
      rw [if_neg (by simp [hvl]; omega)]
      have h3 := fold_put (k * sz) vs 0 cs
      simp only [Nat.add_zero] at h3
      have h4 : Array.foldl (fun (cs : Array Value) (p : Value × Nat) => cs.setIfInBounds (k * sz + p.2) p.1) cs vs.toArray.zipIdx = setAt cs (k * sz) vs := by rw [← h3]; simp
      rw [h4]; exact h1
    · have e2 : (k + 1) * sz = k * sz + sz := by rw [Nat.add_mul, Nat.one_mul]
      have hmin : min (k * sz) cs.size = k * sz := Nat.min_eq_left (by omega)
      rw [h2, setAt_list _ _ _ (by rw [hvl]; omega), e2, List.flatten_cons, List.take_append, List.take_append]
      simp only [List.length_take, Array.length_toList, hmin, hvl, List.take_take]
      rw [Nat.min_eq_right (show k * sz ≤ k * sz + sz by omega), show k * sz + sz - k * sz = sz from by omega, List.take_of_length_le (l := vs) (by omega), Nat.sub_self, List.take_zero, List.append_nil, List.append_assoc]
theorem run_buildSliceN {E sz bytes : Nat} {z : Value} {T : TypeId} {us : List Value} {vss : List (List Value)} (hT : P.underlying T = some (.slice E)) (hE : TI P E sz bytes z) (hs0 : 0 < sz) (hn0 : 0 < us.length) (hs1 : us.length * sz ≤ 16777216)
    (hv : us.map Value.cells = vss.map List.toArray) (hl : ∀ vs, vs ∈ vss → vs.length = sz) : (Instr.buildSlice T us.length ((us.zipIdx 0).map fun p => (p.2, p.1)).toArray).run P w = .ok (.slice (some ⟨w.heap.size, 0, none⟩) us.length us.length) (w.alloc (.cells vss.flatten.toArray E)) := by
  have h0 : ¬ us.length * sz = 0 := by
    have : 0 < us.length * sz := Nat.mul_pos hn0 hs0
    omega
  have hb : ¬ (16777216 < us.length * sz) := by omega
  obtain ⟨cs', hf, hcs⟩ := fill_rows us vss 0 ((Array.range (us.length * sz)).map (z.cells[· % z.cells.size]!)) hv hl (by simp)
  have he : cs' = vss.flatten.toArray := by apply Array.ext'; simpa using hcs
  subst he
  simp [Instr.buildSlice, Sem.run_bind, run_underlying hT, Result.andThen_ok, hE.run_size, hb, h0, hE.run_zero, hf, newRow]
theorem ow_buildSliceN {E sz bytes m : Nat} {z : Value} {T : TypeId} {parts : Array (Nat × Operand)} (qs : List Operand) (vss : List (List Value)) (hT : P.underlying T = some (.slice E)) (hE : TI P E sz bytes z) (hg : gate ops e g = true) (hd : okDst n dst = true)
    (hp : parts = ((qs.zipIdx 0).map fun p => (p.2, p.1)).toArray) (hm : m = qs.length) (hs0 : Nat.blt 0 sz = true) (hn0 : Nat.blt 0 qs.length = true) (hs1 : Nat.ble (qs.length * sz) 16777216 = true)
    (hv : qs.map (fun q => (ev e q).cells) = vss.map List.toArray) (hl : vss.all (fun vs => Nat.beq vs.length sz) = true)
    (k : ∀ w', Keep [] w w' → Blk w' w.heap.size vss.flatten.toArray E → w'.heap.size = w.heap.size + 1 → OW P n ops K rest (put? e dst (.slice (some ⟨w.heap.size, 0, none⟩) m m)) w') :
    OW P n ops K (⟨dst, .buildSlice T m parts, ty, pos, after, g⟩ :: rest) e w := by
  subst hp hm
  have hlu : (qs.map (ev e)).length = qs.length := by simp
  have hr := run_buildSliceN (P := P) (w := w) (us := qs.map (ev e)) (vss := vss) hT hE (by simpa [Nat.blt_eq] using hs0) (by simpa [Nat.blt_eq] using hn0) (by rw [hlu]; exact Nat.le_of_ble_eq_true hs1) (by rw [List.map_map]; exact hv) (fun vs h => Nat.eq_of_beq_eq_true (List.all_eq_true.1 hl vs h))
  rw [hlu] at hr
  have hmap : ((qs.zipIdx 0).map fun p => (p.2, p.1)).toArray.map (fun (p : Nat × Operand) => (p.1, ev e p.2)) = (((qs.map (ev e)).zipIdx 0).map fun p => (p.2, p.1)).toArray := by
    rw [List.map_toArray, List.map_map]
    congr 1
    have : ∀ (qs : List Operand) (i : Nat), (qs.zipIdx i).map ((fun (p : Nat × Operand) => (p.1, ev e p.2)) ∘ fun p => (p.2, p.1)) = ((qs.map (ev e)).zipIdx i).map fun p => (p.2, p.1) := by
      intro qs
      induction qs with
      | nil => intro i; rfl
      | cons q qs ih => intro i; simp only [List.zipIdx_cons, List.map_cons, List.map, ih]; rfl
    exact this qs 0
  exact ow_val hg hd (w' := w.alloc (.cells vss.flatten.toArray E)) (by
    have hm2 : (Array.map (fun x => (x.fst, ev e x.snd)) ((qs.zipIdx 0).map fun p => (p.2, p.1)).toArray) = (((qs.map (ev e)).zipIdx 0).map fun p => (p.2, p.1)).toArray := hmap
    simp only [execOp]
    rw [hm2, Sem.run_bind, hr]; simp) (k _ (Keep.alloc _ _ _) (Blk.alloc _ _ _) (by simp))

/-! ### Slices that are appended whole -/
theorem repL_flat {L : List Nat} {w : World} : ∀ {rows : List (List C)} {f : Nat → List Value}, (∀ i row, rows[i]? = some row → RepL L w (f i) row) → RepL L w ((List.range rows.length).map f).flatten rows.flatten
  | [], _, _ => trivial
  | r :: rows, f, h => by
    rw [List.length_cons, List.range_succ_eq_map, List.map_cons, List.map_map, List.flatten_cons, List.flatten_cons]
    exact (h 0 r rfl).append (repL_flat (f := f ∘ Nat.succ) fun i row hi => h (i + 1) row (by simpa using hi))
theorem cellsAt_append {w : World} {b off : Nat} {xs ys : List Value} (h : CellsAt w b off xs) (k : CellsAt w b (off + xs.length) ys) : CellsAt w b off (xs ++ ys) := fun j v hj => by
  rcases Nat.lt_or_ge j xs.length with hl | hl
  · exact h j v (by rwa [List.getElem?_append_left hl] at hj)
  · rw [List.getElem?_append_right hl] at hj
    have := k (j - xs.length) v hj
    rwa [show off + xs.length + (j - xs.length) = off + j from by omega] at this
theorem cellsAt_flat {w : World} {b sz : Nat} : ∀ {n off : Nat} {f : Nat → List Value}, (∀ i, i < n → (f i).length = sz ∧ CellsAt w b (off + i * sz) (f i)) → CellsAt w b off ((List.range n).map f).flatten
  | 0, _, _, _ => fun j v hj => by simp at hj
  | n + 1, off, f, h => by
    rw [List.range_succ_eq_map, List.map_cons, List.map_map, List.flatten_cons]
    obtain ⟨h1, h2⟩ := h 0 (by omega)
    rw [Nat.zero_mul, Nat.add_zero] at h2
    refine cellsAt_append h2 (cellsAt_flat (sz := sz) fun i hi => ?_)
    obtain ⟨h3, h4⟩ := h (i + 1) (by omega)
    refine ⟨h3, ?_⟩
    rw [h1]
    rwa [show off + (i + 1) * sz = off + sz + i * sz from by rw [Nat.add_mul]; omega] at h4
/-- All cells of a slice. -/
theorem rep_cells {L : List Nat} {w : World} {a : Option Addr} {len cap size : Nat} {rows : List (List C)} (h : Rep L w (.slice a len cap) (.sl size rows)) (hp : 0 < rows.length) :
    ∃ b off vs, a = some ⟨b, off, none⟩ ∧ b < w.heap.size ∧ b ∉ L ∧ CellsAt w b off vs ∧ RepL L w vs rows.flatten ∧ len = rows.length ∧ ∀ row, row ∈ rows → row.length = size := by
  cases h with
  | nil => simp at hp
  | sl b off len cap size rows f hl hc hb hL hs hcell hrep =>
    refine ⟨b, off, ((List.range rows.length).map fun i => (List.range size).map (f i)).flatten, rfl, hb, hL, cellsAt_flat (sz := size) fun i hi => ⟨by simp, fun j v hj => ?_⟩, repL_flat fun i row hi => ?_, hl.symm, hs⟩
    · have hjs : j < size := by have := (List.getElem?_eq_some_iff.1 hj).1; simpa using this
      have e : f i j = v := by simpa [List.getElem?_map, hjs] using hj
      rw [← e]; exact hcell i j (by omega) hjs
    · have hrow := hs row (List.mem_of_getElem? hi)
      refine RepL.of (by simp [hrow]) fun j v c hv hc' => ?_
      have hjs : j < size := by have := (List.getElem?_eq_some_iff.1 hv).1; simpa using this
      have e : f i j = v := by simpa [List.getElem?_map, hjs] using hv
      rw [← e]; exact hrep i j row c hi hc'
theorem run_append0 {t ty T : TypeId} {i : TypeInfo} (ht : P.underlying t = some (.slice T)) (hi : P.info? T = some i)
    {a : Option Addr} {m cap : Nat} (h : m ≤ cap) {a2 : Option Addr} {c2 : Nat} :
    (Builtin.append_ #[t, t] ty #[.slice a m cap, .slice a2 0 c2]).run P w = .ok (.slice a m cap) w := by
  have hf : (Builtin.firstCells i.size 0 (.slice a2 0 c2)).run P w = .ok #[] w := by
    cases a2 with
    | none => simp [Builtin.firstCells]
    | some b => exact run_firstCells_some (P := P) (w := w) i.size 0 b 0 c2 [] (by simp) (by simp)
  cases a <;> simp [Builtin.append_, run_underlying ht, sizeOf, typeInfo, hi, Builtin.lenOf, h, hf, storeCells]
/-- A whole slice behind others. -/
theorem ow_growAll {B : Nat} {L : List Nat} {t E sz bytes : Nat} {z : Value} {v : Value} {gb : Option Nat} {rows new : List (List C)} {a2 : Option Addr} {n2 c2 : Nat} (hT : P.underlying t = some (.slice E)) (hE : TI P E sz bytes z) (hg : gate ops e g = true) (hd : okDst n dst = true) (hz : Nat.beq z.cells.size sz = true) (hby : Nat.ble bytes 1000 = true)
    (hx : ev e x = v) (hy : ev e y = .slice a2 n2 c2) (hO : Gr B L w E sz v gb rows) (hr : Rep (gb.toList ++ L) w (.slice a2 n2 c2) (.sl sz new)) (h1 : ∀ row, row ∈ new → ∀ c, c ∈ row → ∀ v, c = .val v → v.oneCell' = true)
    (hn : rows.length + new.length < 100000000)
    (k : ∀ a' cap' g' w', Gr B L w' E sz (.slice a' (rows.length + new.length) cap') g' (rows ++ new) → Keep gb.toList w w' → OW P n ops K rest (put? e dst (.slice a' (rows.length + new.length) cap')) w') :
    OW P n ops K (⟨dst, .call { callee := .builtin .append, args := #[x, y], argTypes := #[t, t] }, ty, pos, after, g⟩ :: rest) e w := by
  obtain ⟨xs, hR⟩ := hO.own
  have hby' : bytes ≤ 1000 := Nat.le_of_ble_eq_true hby
  by_cases hp : 0 < new.length
  · obtain ⟨b, off, vs, rfl, hb, hbL, hc, hrv, rfl, hrow⟩ := rep_cells hr hp
    refine ow_app hT hE hg hd hz hx hR hy rfl hp hrow hc ?_ hrv hO.lim (Nat.le_trans (Nat.mul_le_mul (show rows.length + new.length ≤ 100000000 by omega) (show bytes + 1 ≤ 1001 by omega)) (by decide)) ?_
    · refine RepL.allOne hrv fun c hc v hv => ?_
      obtain ⟨row, h2, h3⟩ := List.mem_flatten.1 hc
      exact h1 row h2 c h3 v hv
    · intro a' cap' g' w' hO' hk hg'
      refine k a' cap' g' w' ⟨⟨_, hO'⟩, fun b hb => ?_, fun x hx => Nat.lt_of_lt_of_le (hO.lim x hx) hk.size, Nat.le_trans hO.bsz hk.size⟩ hk
      rcases hg' with h | h
      · rw [h] at hb; exact hO.low b hb
      · rw [h] at hb; cases hb; exact hO.bsz
  · have hnew : new = [] := List.length_eq_zero_iff.1 (by omega)
    subst hnew
    obtain ⟨a, cap, rfl⟩ := hR.len
    have h20 : n2 = 0 := by
      obtain ⟨_, _, he, _⟩ := rep_len hr
      cases he; rfl
    subst h20
    have hcap : rows.length ≤ cap := by
      rcases hR.own.2 with ⟨h, h2, _⟩ | ⟨_, _, _, _, h, _, h2, _⟩
      · rw [h2]; omega
      · cases h; exact h2
    obtain ⟨i, hi, _, _, _⟩ := hE.get
    have hrun := run_append0 (P := P) (w := w) (t := t) (ty := ty) hT hi (a := a) (m := rows.length) (cap := cap) hcap (a2 := a2) (c2 := c2)
    refine ow_val hg hd (v := .slice a rows.length cap) (w' := w) (by
      simp only [execOp, resolve, invoke, builtin, Sem.run_bind, Sem.run_pure, Result.andThen_ok, List.map_toArray, List.map_cons, List.map_nil, hx, hy, hrun]) ?_
    have := k a cap gb w (by simpa using hO) (Keep.refl _ _)
    simpa using this
end
end Go.Proofs.YtnkjgoholocliaaGreatDoor

namespace Go.Proofs.YtnkjgoholocliaaGreatDoor
open Go

theorem own_blk {w : World} {b T sz N : Nat} {xs : List Value} (hb : Blk w b xs.toArray T) (hl : xs.length = N * sz) (hN : N ≤ 100000000) : Own w T sz (.slice (some ⟨b, 0, none⟩) N N) (some b) N xs :=
  ⟨hl, .inr ⟨b, N, _, rfl, rfl, hb, Nat.le_refl _, by unfold maxLen; omega, by simpa using hl, by rw [← hl]; simp⟩⟩
theorem rstrs_blk {L : List Nat} {w : World} {b T : Nat} {xs : List Bytes} (hb : Blk w b (xs.map fun x => str x).toArray T) (hN : xs.length ≤ 100000000) (hL : b ∉ L) : RStrs L w (.slice (some ⟨b, 0, none⟩) xs.length xs.length) xs :=
  OStr.rep (T := T) (g := some b) (own_blk hb (by simp) hN) (fun x hx => by cases hx; exact hL)
theorem gr_blk {B : Nat} {L : List Nat} {w : World} {b T sz N : Nat} {rows : List (List C)} {xs : List Value} (hb : Blk w b xs.toArray T) (hr : RepL (b :: L) w xs rows.flatten) (hrow : ∀ r, r ∈ rows → r.length = sz) (hN : N = rows.length) (hm : N ≤ 100000000) (hB : B ≤ b) (hbL : b ∉ L) (hL : ∀ x, x ∈ L → x < w.heap.size) :
    Gr B L w T sz (.slice (some ⟨b, 0, none⟩) N N) (some b) rows := by
  subst hN
  refine ⟨⟨xs, ⟨own_blk hb (by rw [hr.length, flatten_len hrow]) hm, hr, hrow, fun x hx => by cases hx; exact hbL⟩⟩, fun x hx => by cases hx; exact hB, hL, Nat.le_trans hB (Nat.le_of_lt hb.lt)⟩
theorem encs_one {ts : List Tree} : ∀ row, row ∈ encs ts → ∀ c, c ∈ row → ∀ v, c = C.val v → v.oneCell' = true := by
  intro row hr c hc v hv
  rw [encs_eq] at hr
  obtain ⟨t, _, rfl⟩ := List.mem_map.1 hr
  cases t
  rw [Tree.enc] at hc
  simp only [List.mem_cons, List.not_mem_nil, or_false] at hc
  rcases hc with h | h
  · rw [h] at hv; cases hv; rfl
  · rw [h] at hv; cases hv
/-- Three forms in a row. -/
theorem trees_blk3 {L : List Nat} {w : World} {b T : Nat} {u1 u2 u3 u4 u5 u6 : Value} {t1 t2 t3 : Tree} (hb : Blk w b [u1, u2, u3, u4, u5, u6].toArray T) (h1 : RTree L w (.agg #[u1, u2]) t1) (h2 : RTree L w (.agg #[u3, u4]) t2) (h3 : RTree L w (.agg #[u5, u6]) t3) (hL : b ∉ L) :
    RTrees L w (.slice (some ⟨b, 0, none⟩) 3 3) [t1, t2, t3] := by
  have hrow := encs_row [t1, t2, t3]
  have hr : RepL L w [u1, u2, u3, u4, u5, u6] (encs [t1, t2, t3]).flatten := by
    have e : (encs [t1, t2, t3]).flatten = t1.enc ++ (t2.enc ++ t3.enc) := by simp [encs]
    rw [e]
    exact RepL.append (vs := [u1, u2]) h1.repl (RepL.append (vs := [u3, u4]) h2.repl h3.repl)
  refine rep_sl b 0 3 2 (encs [t1, t2, t3]) [[u1, u2], [u3, u4], [u5, u6]] (by simp [encs_length]) (by simp [encs_length]) hb.lt hL hrow (fun i vs hi => ?_) (fun i vs row hi hrow' => ?_)
  · intro j v hj
    rw [hb.cell]
    match i, hi with
    | 0, hi => simp at hi; subst hi; match j, hj with
      | 0, hj => simpa using hj
      | 1, hj => simpa using hj
      | j + 2, hj => simp at hj
    | 1, hi => simp at hi; subst hi; match j, hj with
      | 0, hj => simpa using hj
      | 1, hj => simpa using hj
      | j + 2, hj => simp at hj
    | 2, hi => simp at hi; subst hi; match j, hj with
      | 0, hj => simpa using hj
      | 1, hj => simpa using hj
      | j + 2, hj => simp at hj
    | i + 3, hi => simp at hi
  · match i, hi with
    | 0, hi => simp at hi; subst hi; simp [encs] at hrow'; subst hrow'; exact h1.repl
    | 1, hi => simp at hi; subst hi; simp [encs] at hrow'; subst hrow'; exact h2.repl
    | 2, hi => simp at hi; subst hi; simp [encs] at hrow'; subst hrow'; exact h3.repl
    | i + 3, hi => simp at hi
theorem bkS_le {bs : List Bk} {b : Bk} (h : b ∈ bs) : (bkS b).length ≤ (progS bs).length := listS_mem (List.mem_map.2 ⟨b, h, rfl⟩)
theorem bkS_regs (b : Bk) : (listS [114, 101, 103, 115] b.needs).length ≤ (bkS b).length := listS_mem (by simp)
theorem bkS_code (b : Bk) : (listS [99, 111, 100, 101] b.code).length ≤ (bkS b).length := listS_mem (by simp)
theorem bth_mem {bs : List Bk} {i : Nat} (h : i < bs.length) : bth bs i ∈ bs := by simp [bth, List.getElem?_eq_getElem h]
end Go.Proofs.YtnkjgoholocliaaGreatDoor

namespace Go.Proofs.YtnkjgoholocliaaGreatDoor
open Go Go.ChangeShapes Go.WideShapes

theorem cell_spot {w : World} {a : Addr} {v : Value} (h : w.cell? a = some v) : a = ⟨a.block, a.off, none⟩ ∧ a.block < w.heap.size := by
  obtain ⟨b, o, s⟩ := a
  unfold World.cell? at h
  split at h
  · rename_i c _ _ he
    cases s with
    | some s => simp at h
    | none => exact ⟨rfl, (Array.getElem?_eq_some_iff.1 he).1⟩
  · cases h
theorem add_at {a : Addr} (h : a = ⟨a.block, a.off, none⟩) (i : Nat) : a.add i = ⟨a.block, a.off + i, none⟩ := by rw [h]; exact add_mk _ _ _
theorem str_of (s : ByteArray) : Value.string s = str s.data.toList := by simp [str]

section
variable {H : Type} {enc : TypeId × Value → H} {P : Program} {w : World} {held : Bool}
theorem open_strsR {t e : TypeId} {fuel : Nat} {cs : List Value} {x : DataW H × List MemPlace} (ht : P.underlying t = some (.slice e)) (he : P.underlying e = some .string) (hc : P.cellsOf e = 1)
    (h : DataW.trod enc P w 0 (fun _ => true) held fuel t cs = some x) : ∃ a len cap xs, cs = [.slice a len cap] ∧ RStrs [] w (.slice a len cap) xs ∧ Fit xs := by
  rcases Deep.open_strs ht he hc h with ⟨rfl, _⟩ | ⟨a, len, cap, m, Sx, rfl, _, hl, hm, hmm, _, hx⟩
  · exact ⟨none, 0, 0, [], rfl, rstrs_nil, by simp, by simp⟩
  · simp only [if_true] at hmm
    subst hmm
    have hmax : maxLen = 9223372036854775807 := rfl
    rcases Nat.eq_zero_or_pos len with h0 | hp
    · subst h0
      exact ⟨some a, 0, m, [], rfl, .nil _ _ _, by simp, by simp⟩
    · have h0 := (hx 0 (by omega)).1
      rw [show a.add 0 = a from by simp [Addr.add]] at h0
      obtain ⟨ha, hb⟩ := cell_spot h0
      refine ⟨some a, len, m, (List.range len).map fun i => (Sx i).data.toList, rfl, ?_, by simp; omega, fun i hi => ?_⟩
      · have hr := rep_sl (L := []) (w := w) a.block a.off m 1 (strsC ((List.range len).map fun i => (Sx i).data.toList)) ((List.range len).map fun i => [.string (Sx i)]) (by simp [strsC]) (by simp [strsC]; omega) hb (by simp)
          (by intro row hr; simp only [strsC, List.mem_map] at hr; obtain ⟨_, _, rfl⟩ := hr; rfl)
          (fun i vs hi => by
            rw [List.getElem?_map] at hi
            obtain ⟨j, hj, rfl⟩ := Option.map_eq_some_iff.1 hi
            obtain ⟨hjl, rfl⟩ := List.getElem?_eq_some_iff.1 hj
            simp only [List.length_range] at hjl
            intro k v hk
            match k, hk with
            | 0, hk =>
              simp only [List.getElem?_cons_zero, Option.some.injEq, List.getElem_range] at hk
              subst hk
              have := (hx i (by omega)).1
              rw [add_at ha] at this
              simpa using this
            | k + 1, hk => simp at hk)
          (fun i vs row hi hrow => by
            simp only [strsC, List.map_map, List.getElem?_map] at hi hrow
            obtain ⟨j, hj, rfl⟩ := Option.map_eq_some_iff.1 hi
            rw [hj] at hrow
            simp only [Option.map_some, Option.some.injEq, Function.comp] at hrow
            subst hrow
            rw [str_of]
            exact ⟨.val _, trivial⟩)
        rw [strsC_length, List.length_map, List.length_range, ← ha] at hr
        exact hr
      · simp only [List.length_map, List.length_range] at hi
        have := (hx i (by omega)).2
        have e1 : sth ((List.range len).map fun i => (Sx i).data.toList) i = (Sx i).data.toList := by simp [sth, hi]
        rw [e1, Array.length_toList]
        have h2 : (Sx i).data.size = (Sx i).size := rfl
        omega
theorem one_cell {cs : List Value} {v : Value} (h : cs = [v]) : cs = [v] := h
/-- A program that came in. -/
theorem open_blksR {t e ts tt : TypeId} {f0 f1 f2 : Field} {fuel : Nat} {cs : List Value} {x : DataW H × List MemPlace} (ht : P.underlying t = some (.slice e)) (he : P.underlying e = some (.struct #[f0, f1, f2])) (hc : P.cellsOf e = 3)
    (h0 : f0.type = ts ∧ f0.offset = 0) (h1 : f1.type = tt ∧ f1.offset = 1) (h2 : f2.type = tt ∧ f2.offset = 2) (hs : P.underlying ts = some .string) (hcs : P.cellsOf ts = 1) (htt : P.underlying tt = some (.slice ts)) (hct : P.cellsOf tt = 1)
    (h : DataW.trod enc P w 0 (fun _ => true) held fuel t cs = some x) : ∃ a len cap bs, cs = [.slice a len cap] ∧ RBks [] w (.slice a len cap) bs ∧ FitP bs := by
  rcases Deep.open_slice ht h with ⟨rfl, _⟩ | ⟨a, len, cap, m, n, D, Pl, rfl, _, hl, hm, hmm, _, hx⟩
  · exact ⟨none, 0, 0, [], rfl, .nil _ _ _, by simp, by simp⟩
  · simp only [if_true] at hmm
    subst hmm
    have hmax : maxLen = 9223372036854775807 := rfl
    have each : ∀ i, i < m → ∃ bv : Bk × List Value, (∃ u, w.cell? (a.add (i * 3)) = some u) ∧ (∀ j v, bv.2[j]? = some v → w.cell? ((a.add (i * 3)).add j) = some v) ∧ RepL [] w bv.2 bv.1.enc ∧ FitB bv.1 := fun i hi => by
      obtain ⟨cs', hcell, htrod⟩ := hx i hi
      rw [hc] at hcell
      obtain ⟨_, hlen, hget⟩ := World.cells?_some hcell
      obtain ⟨y0, y1, y2, n', _, _, t0, t1, t2⟩ := Deep.trod_struct3 he htrod
      match cs', hlen with
      | [c0, c1, c2], _ =>
        rw [h0.1, h0.2, hcs] at t0
        rw [h1.1, h1.2, hct] at t1
        rw [h2.1, h2.2, hct] at t2
        simp only [List.drop_zero, List.drop_succ_cons, List.take_succ_cons, List.take_zero] at t0 t1 t2
        obtain ⟨s, e0, _, hsz⟩ := DataW.trod_string hs t0
        obtain ⟨a1, l1, k1, xs1, e1, hr1, hf1⟩ := open_strsR htt hs hcs t1
        obtain ⟨a2, l2, k2, xs2, e2, hr2, hf2⟩ := open_strsR htt hs hcs t2
        simp only [List.cons.injEq, and_true] at e0 e1 e2
        subst e0 e1 e2
        have g0 := hget 0 (by omega)
        rw [show (a.add (i * 3)).add 0 = a.add (i * 3) from by simp [Addr.add]] at g0
        have h9 : s.data.size = s.size := rfl
        refine ⟨(⟨s.data.toList, xs1, xs2⟩, [.string s, .slice a1 l1 k1, .slice a2 l2 k2]), ⟨_, g0⟩, fun j v hj => ?_, ?_, ?_, hf1, hf2⟩
        · have hjl := (List.getElem?_eq_some_iff.1 hj).1
          rw [hget j (by simpa using hjl)]; exact hj
        · rw [str_of]; exact ⟨.val _, hr1, hr2, trivial⟩
        · show s.data.toList.length ≤ _; rw [Array.length_toList]; omega
    rcases Nat.eq_zero_or_pos len with hz | hp
    · subst hz
      exact ⟨some a, 0, m, [], rfl, .nil _ _ _, by simp, by simp⟩
    · obtain ⟨_, ⟨u, hu⟩, _⟩ := each 0 (by omega)
      rw [show a.add (0 * 3) = a from by simp [Addr.add]] at hu
      obtain ⟨ha, hb⟩ := cell_spot hu
      haveI : Inhabited (Bk × List Value) := ⟨(⟨[], [], []⟩, [])⟩
      obtain ⟨F, hF⟩ := Deep.choose_lt each
      refine ⟨some a, len, m, (List.range len).map fun i => (F i).1, rfl, ?_, by simp; omega, fun i hi => ?_⟩
      · have hr := rep_sl (L := []) (w := w) a.block a.off m 3 (((List.range len).map fun i => (F i).1).map Bk.enc) ((List.range len).map fun i => (F i).2) (by simp) (by simp; omega) hb (by simp)
          (by intro row hr; simp only [List.mem_map] at hr; obtain ⟨_, _, rfl⟩ := hr; rfl)
          (fun i vs hi => by
            rw [List.getElem?_map] at hi
            obtain ⟨j, hj, rfl⟩ := Option.map_eq_some_iff.1 hi
            obtain ⟨hjl, rfl⟩ := List.getElem?_eq_some_iff.1 hj
            simp only [List.length_range] at hjl
            intro k v hk
            rw [List.getElem_range] at hk
            have := (hF i (by omega)).2.1 k v hk
            rw [add_at ha, add_mk] at this
            exact this)
          (fun i vs row hi hrow => by
            simp only [List.map_map, List.getElem?_map] at hi hrow
            obtain ⟨j, hj, rfl⟩ := Option.map_eq_some_iff.1 hi
            rw [hj] at hrow
            simp only [Option.map_some, Option.some.injEq, Function.comp] at hrow
            subst hrow
            obtain ⟨hjl, rfl⟩ := List.getElem?_eq_some_iff.1 hj
            simp only [List.length_range] at hjl
            rw [List.getElem_range]
            exact (hF i (by omega)).2.2.1)
        simp only [List.length_map, List.length_range] at hr
        rw [← ha] at hr
        exact hr
      · simp only [List.length_map, List.length_range] at hi
        have e1 : bth ((List.range len).map fun i => (F i).1) i = (F i).1 := by simp [bth, hi]
        rw [e1]
        exact (hF i (by omega)).2.2.2
end
end Go.Proofs.YtnkjgoholocliaaGreatDoor
