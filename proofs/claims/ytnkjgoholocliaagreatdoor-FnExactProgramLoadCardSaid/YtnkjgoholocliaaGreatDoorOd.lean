/-
  Lemmas for the law of ProgramLoad, no statement of their own: slices that grow, and what came in.
-/
import Derived.Test.YtnkjgoholocliaaGreatDoorOb
import Derived.Test.YtnkjgoholocliaaGreatDoorOc
import Derived.Laws.IdiomStrings
import Derived.Laws.MakeOwn
namespace Go.Proofs.YtnkjgoholocliaaGreatDoor
open Go

/-- The slice v is one's own: its block g lies from B on; its rows read as data outside the blocks of L (those of boxes that are written). -/
structure Gr (B : Nat) (L : List Nat) (w : World) (T : TypeId) (sz : Nat) (v : Value) (g : Option Nat) (rows : List (List C)) : Prop where
  own : ∃ xs, OwnR L w T sz v g rows xs
  low : ∀ b, g = some b → B ≤ b
  lim : ∀ x, x ∈ L → x < w.heap.size
  bsz : B ≤ w.heap.size

theorem Gr.nil {B : Nat} {L : List Nat} {w : World} {T : TypeId} {sz : Nat} (hL : ∀ x, x ∈ L → x < w.heap.size) (hB : B ≤ w.heap.size) : Gr B L w T sz (.slice none 0 0) none [] :=
  ⟨⟨[], OwnR.nil _ _ _ _⟩, by simp, hL, hB⟩
theorem Gr.keep {B : Nat} {L L' : List Nat} {w w' : World} {T : TypeId} {sz : Nat} {v : Value} {g : Option Nat} {rows : List (List C)} (h : Gr B L w T sz v g rows) (k : Keep L' w w') (hL : ∀ x, x ∈ L' → x ∈ L) : Gr B L w' T sz v g rows :=
  ⟨h.own.imp fun _ h => h.keep k hL, h.low, fun x hx => Nat.lt_of_lt_of_le (h.lim x hx) k.size, Nat.le_trans h.bsz k.size⟩
theorem Gr.ext {B : Nat} {L : List Nat} {w w' : World} {T : TypeId} {sz : Nat} {v : Value} {g : Option Nat} {rows : List (List C)} (h : Gr B L w T sz v g rows) (k : Keep [] w w') : Gr B L w' T sz v g rows := h.keep k (by simp)
theorem Gr.sto {B : Nat} {L L' : List Nat} {w w' : World} {T : TypeId} {sz : Nat} {v : Value} {g : Option Nat} {rows : List (List C)} (h : Gr B L w T sz v g rows) (k : Keep L' w w') (hL : ∀ x, x ∈ L' → x ∈ L) : Gr B L w' T sz v g rows := h.keep k hL
/-- A box more, that is written. -/
theorem Gr.alloc {B : Nat} {L : List Nat} {w w' : World} {T : TypeId} {sz : Nat} {v : Value} {g : Option Nat} {rows : List (List C)} (h : Gr B L w T sz v g rows) (k : Keep [] w w') (hz : w'.heap.size = w.heap.size + 1) : Gr B (w.heap.size :: L) w' T sz v g rows :=
  ⟨h.own.imp fun _ h => (h.more grow_mem).keep k (by simp), h.low, fun x hx => by rcases List.mem_cons.1 hx with rfl | hx; omega; have := h.lim x hx; omega, Nat.le_trans h.bsz k.size⟩
theorem Gr.weak {B : Nat} {L L' : List Nat} {w : World} {T : TypeId} {sz : Nat} {v : Value} {g : Option Nat} {rows : List (List C)} (h : Gr B L w T sz v g rows) (hL : ∀ x, x ∈ L' → x ∈ L) : Gr B L' w T sz v g rows :=
  ⟨h.own.imp fun _ h => h.more fun x hx => .inl (hL x hx), h.low, fun x hx => h.lim x (hL x hx), h.bsz⟩
theorem Gr.done {B : Nat} {L : List Nat} {w : World} {T : TypeId} {sz : Nat} {v : Value} {g : Option Nat} {rows : List (List C)} (h : Gr B L w T sz v g rows) : Rep L w v (.sl sz rows) := by
  obtain ⟨_, h⟩ := h.own; exact h.done
theorem Gr.sepL {B : Nat} {L : List Nat} {w : World} {T : TypeId} {sz : Nat} {v : Value} {g : Option Nat} {rows : List (List C)} (h : Gr B L w T sz v g rows) {b : Nat} (hb : b ∈ L) : b ∉ g.toList := by
  obtain ⟨_, h⟩ := h.own; exact h.sep hb
theorem Gr.sepB {B : Nat} {L : List Nat} {w : World} {T : TypeId} {sz : Nat} {v : Value} {g : Option Nat} {rows : List (List C)} (h : Gr B L w T sz v g rows) {b : Nat} (hb : b < B) : b ∉ g.toList := by
  intro hx; have := h.low b (by simpa using hx); omega
theorem Gr.lt {B : Nat} {L : List Nat} {w : World} {T : TypeId} {sz : Nat} {v : Value} {g : Option Nat} {rows : List (List C)} (h : Gr B L w T sz v g rows) : ∀ x, x ∈ g.toList → x < w.heap.size := by
  obtain ⟨_, h⟩ := h.own; intro x hx; exact h.own.lt x (by simpa using hx)
theorem Gr.all {B : Nat} {L : List Nat} {w : World} {T : TypeId} {sz : Nat} {v : Value} {g : Option Nat} {rows : List (List C)} (h : Gr B L w T sz v g rows) : ∀ x, x ∈ g.toList ++ L → x < w.heap.size := by
  intro x hx
  rcases List.mem_append.1 hx with hx | hx
  · exact h.lt x hx
  · exact h.lim x hx
/-- What was so in the world at which the slice begins stays so while it grows. -/
theorem Gr.since {L L' : List Nat} {w0 w w' : World} {T : TypeId} {sz : Nat} {v : Value} {g : Option Nat} {rows : List (List C)} (h : Gr w0.heap.size L w T sz v g rows) (k0 : Keep L' w0 w) (k : Keep g.toList w w') : Keep L' w0 w' :=
  k0.since k fun x hx => .inr (h.low x (by simpa using hx))
theorem Keep.older {L' : List Nat} {w0 w w' : World} {B : Nat} {g : Option Nat} (hB : w0.heap.size ≤ B) (hl : ∀ b, g = some b → B ≤ b) (k0 : Keep L' w0 w) (k : Keep g.toList w w') : Keep L' w0 w' :=
  k0.since k fun x hx => .inr (Nat.le_trans hB (hl x (by simpa using hx)))

section
variable {P : Program} {n : Nat} {ops : Array Oper} {K : Env → World → Prop} {rest : List Oper} {e : Env} {w : World}
  {dst : Option Nat} {ty : TypeId} {pos : String} {after : Array Edge} {g : Option (Nat × Bool)} {x y : Operand}
theorem ow_grow {B : Nat} {L : List Nat} {t E sz bytes : Nat} {z : Value} {v : Value} {gb : Option Nat} {rows : List (List C)} {row : List C} {news : List Value} {b U : Nat} (hT : P.underlying t = some (.slice E)) (hE : TI P E sz bytes z) (hg : gate ops e g = true) (hd : okDst n dst = true) (hz : Nat.beq z.cells.size sz = true) (hby : Nat.ble bytes 1000 = true)
    (hx : ev e x = v) (hy : ev e y = .slice (some ⟨b, 0, none⟩) 1 1) (hO : Gr B L w E sz v gb rows) (hb : Blk w b news.toArray U) (hrow : row.length = sz) (h1 : news.all Value.oneCell' = true)
    (hr : RepL (gb.toList ++ L) w news row) (hn : rows.length < 100000000)
    (k : ∀ a' cap' g' w', Gr B L w' E sz (.slice a' (rows.length + 1) cap') g' (rows ++ [row]) → Keep gb.toList w w' → OW P n ops K rest (put? e dst (.slice a' (rows.length + 1) cap')) w') :
    OW P n ops K (⟨dst, .call { callee := .builtin .append, args := #[x, y], argTypes := #[t, t] }, ty, pos, after, g⟩ :: rest) e w := by
  obtain ⟨xs, hR⟩ := hO.own
  have hby' : bytes ≤ 1000 := Nat.le_of_ble_eq_true hby
  refine ow_app1 hT hE hg hd hz hx hy hR hrow hb.all (fun u hu => List.all_eq_true.1 h1 u hu) hr hO.lim (Nat.le_trans (Nat.mul_le_mul (show rows.length + 1 ≤ 100000000 by omega) (show bytes + 1 ≤ 1001 by omega)) (by decide)) ?_
  intro a' cap' g' w' hO' hk hg'
  refine k a' cap' g' w' ⟨⟨_, hO'⟩, fun b hb => ?_, fun x hx => Nat.lt_of_lt_of_le (hO.lim x hx) hk.size, Nat.le_trans hO.bsz hk.size⟩ hk
  rcases hg' with h | h
  · rw [h] at hb; exact hO.low b hb
  · rw [h] at hb; cases hb; exact hO.bsz
/-- A form behind others. -/
theorem ow_growT {B : Nat} {L : List Nat} {t E bytes : Nat} {z : Value} {v u1 u2 : Value} {gb : Option Nat} {ts : List Tree} {f : Tree} {b U : Nat} (hT : P.underlying t = some (.slice E)) (hE : TI P E 2 bytes z) (hg : gate ops e g = true) (hd : okDst n dst = true) (hz : Nat.beq z.cells.size 2 = true) (hby : Nat.ble bytes 1000 = true)
    (hx : ev e x = v) (hy : ev e y = .slice (some ⟨b, 0, none⟩) 1 1) (hO : Gr B L w E 2 v gb (encs ts)) (hb : Blk w b [u1, u2].toArray U)
    (hr : RTree (gb.toList ++ L) w (.agg #[u1, u2]) f) (hn : ts.length < 100000000)
    (k : ∀ a' cap' g' w', Gr B L w' E 2 (.slice a' (ts ++ [f]).length cap') g' (encs (ts ++ [f])) → Keep gb.toList w w' → OW P n ops K rest (put? e dst (.slice a' (ts ++ [f]).length cap')) w') :
    OW P n ops K (⟨dst, .call { callee := .builtin .append, args := #[x, y], argTypes := #[t, t] }, ty, pos, after, g⟩ :: rest) e w := by
  refine ow_grow hT hE hg hd hz hby hx hy hO hb (enc_length f) ?_ hr.repl (by rw [encs_length]; exact hn) ?_
  · rw [List.all_eq_true]
    refine fun u hu => RepL.allOne hr.repl (fun c hc v hv => ?_) u hu
    cases f; rw [Tree.enc] at hc
    simp only [List.mem_cons, List.not_mem_nil, or_false] at hc
    rcases hc with h | h
    · rw [h] at hv; cases hv; rfl
    · rw [h] at hv; cases hv
  · intro a' cap' g' w' hO' hk
    have e1 : (encs ts).length + 1 = (ts ++ [f]).length := by simp [encs_length]
    have e2 : encs ts ++ [f.enc] = encs (ts ++ [f]) := by simp [encs_append, encs]
    rw [e1] at hO' ⊢
    rw [e2] at hO'
    exact k a' cap' g' w' hO' hk
/-- A text behind others. -/
theorem ow_growS {B : Nat} {L : List Nat} {t E bytes : Nat} {z : Value} {v : Value} {gb : Option Nat} {ss : List Bytes} {s : Bytes} {b U : Nat} (hT : P.underlying t = some (.slice E)) (hE : TI P E 1 bytes z) (hg : gate ops e g = true) (hd : okDst n dst = true) (hz : Nat.beq z.cells.size 1 = true) (hby : Nat.ble bytes 1000 = true)
    (hx : ev e x = v) (hy : ev e y = .slice (some ⟨b, 0, none⟩) 1 1) (hO : Gr B L w E 1 v gb (strsC ss)) (hb : Blk w b [str s].toArray U) (hn : ss.length < 100000000)
    (k : ∀ a' cap' g' w', Gr B L w' E 1 (.slice a' (ss ++ [s]).length cap') g' (strsC (ss ++ [s])) → Keep gb.toList w w' → OW P n ops K rest (put? e dst (.slice a' (ss ++ [s]).length cap')) w') :
    OW P n ops K (⟨dst, .call { callee := .builtin .append, args := #[x, y], argTypes := #[t, t] }, ty, pos, after, g⟩ :: rest) e w := by
  refine ow_grow (row := [.val (str s)]) hT hE hg hd hz hby hx hy hO hb rfl rfl ⟨.val _, trivial⟩ (by rw [strsC_length]; exact hn) ?_
  intro a' cap' g' w' hO' hk
  have e1 : (strsC ss).length + 1 = (ss ++ [s]).length := by simp [strsC_length]
  have e2 : strsC ss ++ [[.val (str s)]] = strsC (ss ++ [s]) := by simp [strsC]
  rw [e1] at hO' ⊢
  rw [e2] at hO'
  exact k a' cap' g' w' hO' hk
end

/-- 'T{}' of no element. -/
theorem run_buildSlice0 {P : Program} {w : World} {T E sz bytes : Nat} {z : Value} (hT : P.underlying T = some (.slice E)) (hE : TI P E sz bytes z) : (Instr.buildSlice T 0 #[]).run P w = .ok (.slice (some ⟨w.heap.size, 0, none⟩) 0 0) (w.alloc (.cells #[] E)) := by
  simp [Instr.buildSlice, Sem.run_bind, run_underlying hT, Result.andThen_ok, hE.run_size, Instr.fill, newRow]; congr 2; apply Array.ext <;> simp
theorem ow_buildSlice0 {P : Program} {n : Nat} {ops : Array Oper} {K : Env → World → Prop} {rest : List Oper} {e : Env} {w : World} {dst : Option Nat} {ty : TypeId} {pos : String} {after : Array Edge} {g : Option (Nat × Bool)}
    {T E sz bytes : Nat} {z : Value} (B : Nat) (L : List Nat) (hT : P.underlying T = some (.slice E)) (hE : TI P E sz bytes z) (hg : gate ops e g = true) (hd : okDst n dst = true) (hB : B ≤ w.heap.size) (hL : ∀ x, x ∈ L → x < w.heap.size)
    (k : ∀ w', Keep [] w w' → w'.heap.size = w.heap.size + 1 → Gr B L w' E sz (.slice (some ⟨w.heap.size, 0, none⟩) 0 0) (some w.heap.size) [] → OW P n ops K rest (put? e dst (.slice (some ⟨w.heap.size, 0, none⟩) 0 0)) w') :
    OW P n ops K (⟨dst, .buildSlice T 0 #[], ty, pos, after, g⟩ :: rest) e w :=
  ow_val hg hd (w' := w.alloc (.cells #[] E)) (by simp [execOp, run_buildSlice0 (P := P) (w := w) hT hE])
    (k _ (Keep.alloc _ _ _) (by simp) ⟨⟨[], ⟨by simp, .inr ⟨w.heap.size, 0, #[], rfl, rfl, Blk.alloc _ _ _, Nat.le_refl _, by decide, by simp, by simp⟩⟩, trivial, by simp, by intro b hb hx; cases hb; have := hL _ hx; omega⟩,
      by intro b hb; cases hb; exact hB, fun x hx => by have := hL x hx; simp; omega, by simp; omega⟩)
/-- A block of a program behind others. -/
theorem RBk.repl {L : List Nat} {w : World} {x y z : Value} {b : Bk} (h : RBk L w (.agg #[x, y, z]) b) : RepL L w [x, y, z] b.enc := by
  obtain ⟨vs, he, hr⟩ := h
  have hv : vs = [x, y, z] := by
    have := congrArg (fun v => match v with | Value.agg x => x.toList | _ => []) he
    simpa using this.symm
  rw [← hv]; exact hr
theorem ow_growK {P : Program} {n : Nat} {ops : Array Oper} {K : Env → World → Prop} {rest : List Oper} {e : Env} {w : World} {dst : Option Nat} {ty : TypeId} {pos : String} {after : Array Edge} {g : Option (Nat × Bool)} {x y : Operand}
    {B : Nat} {L : List Nat} {t E bytes : Nat} {z : Value} {v u1 u2 u3 : Value} {gb : Option Nat} {ts : List Bk} {f : Bk} {b U : Nat} (hT : P.underlying t = some (.slice E)) (hE : TI P E 3 bytes z) (hg : gate ops e g = true) (hd : okDst n dst = true) (hz : Nat.beq z.cells.size 3 = true) (hby : Nat.ble bytes 1000 = true)
    (hx : ev e x = v) (hy : ev e y = .slice (some ⟨b, 0, none⟩) 1 1) (hO : Gr B L w E 3 v gb (ts.map Bk.enc)) (hb : Blk w b [u1, u2, u3].toArray U)
    (hr : RBk (gb.toList ++ L) w (.agg #[u1, u2, u3]) f) (hn : ts.length < 100000000)
    (k : ∀ a' cap' g' w', Gr B L w' E 3 (.slice a' (ts ++ [f]).length cap') g' ((ts ++ [f]).map Bk.enc) → Keep gb.toList w w' → OW P n ops K rest (put? e dst (.slice a' (ts ++ [f]).length cap')) w') :
    OW P n ops K (⟨dst, .call { callee := .builtin .append, args := #[x, y], argTypes := #[t, t] }, ty, pos, after, g⟩ :: rest) e w := by
  refine ow_grow hT hE hg hd hz hby hx hy hO hb rfl ?_ hr.repl (by simpa using hn) ?_
  · rw [List.all_eq_true]
    refine fun u hu => RepL.allOne hr.repl (fun c hc v hv => ?_) u hu
    rw [Bk.enc] at hc
    simp only [List.mem_cons, List.not_mem_nil, or_false] at hc
    rcases hc with h | h | h
    · rw [h] at hv; cases hv; rfl
    · rw [h] at hv; cases hv
    · rw [h] at hv; cases hv
  · intro a' cap' g' w' hO' hk
    have e1 : (ts.map Bk.enc).length + 1 = (ts ++ [f]).length := by simp
    have e2 : ts.map Bk.enc ++ [f.enc] = (ts ++ [f]).map Bk.enc := by simp
    rw [e1] at hO' ⊢
    rw [e2] at hO'
    exact k a' cap' g' w' hO' hk
theorem Gr.bks {B : Nat} {L : List Nat} {w : World} {T : TypeId} {v : Value} {g : Option Nat} {bs : List Bk} (h : Gr B L w T 3 v g (bs.map Bk.enc)) : RBks L w v bs := h.done

/-! ### Owned lists of texts, owned programs -/
/-- A list of texts whose block one may write. -/
def OStr (w : World) (T : TypeId) (v : Value) (g : Option Nat) (xs : List Bytes) : Prop := Own w T 1 v g xs.length (xs.map fun x => str x)
theorem repL_strs {L : List Nat} {w : World} : ∀ {xs : List Bytes} {vs : List Value}, RepL L w vs (strsC xs).flatten → vs = xs.map fun x => str x
  | [], vs, h => by
    cases vs with
    | nil => rfl
    | cons v vs => exact h.elim
  | x :: xs, vs, h => by
    cases vs with
    | nil => exact h.elim
    | cons v vs =>
      obtain ⟨h1, h2⟩ := h
      cases h1
      rw [List.map_cons, ← repL_strs (xs := xs) h2]
theorem strs_repL {L : List Nat} {w : World} : ∀ xs : List Bytes, RepL L w (xs.map fun x => str x) (strsC xs).flatten
  | [] => trivial
  | _ :: xs => ⟨.val _, strs_repL xs⟩
theorem Gr.ostr {B : Nat} {L : List Nat} {w : World} {T : TypeId} {v : Value} {g : Option Nat} {xs : List Bytes} (h : Gr B L w T 1 v g (strsC xs)) : OStr w T v g xs := by
  obtain ⟨vs, h⟩ := h.own
  have := h.own
  rw [repL_strs h.rep, strsC_length] at this
  exact this
theorem OStr.ownR {L : List Nat} {w : World} {T : TypeId} {v : Value} {g : Option Nat} {xs : List Bytes} (h : OStr w T v g xs) (hL : ∀ b, g = some b → b ∉ L) : OwnR L w T 1 v g (strsC xs) (xs.map fun x => str x) :=
  ⟨by rw [strsC_length]; exact h, strs_repL xs, by intro row hr; simp [strsC] at hr; obtain ⟨_, _, rfl⟩ := hr; rfl, hL⟩
theorem OStr.rep {L : List Nat} {w : World} {T : TypeId} {v : Value} {g : Option Nat} {xs : List Bytes} (h : OStr w T v g xs) (hL : ∀ b, g = some b → b ∉ L) : RStrs L w v xs := (h.ownR hL).done
theorem OStr.keep {L : List Nat} {w w' : World} {T : TypeId} {v : Value} {g : Option Nat} {xs : List Bytes} (h : OStr w T v g xs) (k : Keep L w w') (hL : ∀ b, g = some b → b ∉ L) : OStr w' T v g xs := Own.keep h k hL
theorem OStr.ext {w w' : World} {T : TypeId} {v : Value} {g : Option Nat} {xs : List Bytes} (h : OStr w T v g xs) (k : Keep [] w w') : OStr w' T v g xs := h.keep k (by simp)
/-- A block of a program, its lists one's own. -/
def OBk (w : World) (T : TypeId) (gs : Option Nat × Option Nat) (vs : List Value) (b : Bk) : Prop :=
  ∃ v1 v2, vs = [str b.label, v1, v2] ∧ OStr w T v1 gs.1 b.needs ∧ OStr w T v2 gs.2 b.code
def twoL (gs : Option Nat × Option Nat) : List Nat := gs.1.toList ++ gs.2.toList
def allG (gss : List (Option Nat × Option Nat)) : List Nat := gss.flatMap twoL
theorem OBk.keep {L : List Nat} {w w' : World} {T : TypeId} {gs : Option Nat × Option Nat} {vs : List Value} {b : Bk} (h : OBk w T gs vs b) (k : Keep L w w') (hL : ∀ x, x ∈ twoL gs → x ∉ L) : OBk w' T gs vs b := by
  obtain ⟨v1, v2, e, h1, h2⟩ := h
  exact ⟨v1, v2, e, h1.keep k (fun b hb => hL b (by simp [twoL, hb])), h2.keep k (fun b hb => hL b (by simp [twoL, hb]))⟩
def OBkL (w : World) (T : TypeId) : List (Option Nat × Option Nat) → List (List Value) → List Bk → Prop
  | [], [], [] => True
  | g :: gs, v :: vs, b :: bs => OBk w T g v b ∧ OBkL w T gs vs bs
  | _, _, _ => False
theorem OBkL.keep {L : List Nat} {w w' : World} {T : TypeId} (k : Keep L w w') : ∀ {gss : List (Option Nat × Option Nat)} {vss : List (List Value)} {bs : List Bk}, OBkL w T gss vss bs → (∀ x, x ∈ allG gss → x ∉ L) → OBkL w' T gss vss bs
  | [], [], [], _, _ => trivial
  | g :: gs, v :: vs, b :: bs, h, hL => ⟨h.1.keep k (fun x hx => hL x (by simp [allG, hx])), OBkL.keep k h.2 (fun x hx => hL x (by simp [allG] at hx ⊢; exact .inr hx))⟩
theorem OBkL.snoc {w : World} {T : TypeId} : ∀ {gss : List (Option Nat × Option Nat)} {vss : List (List Value)} {bs : List Bk} {g : Option Nat × Option Nat} {v : List Value} {b : Bk}, OBkL w T gss vss bs → OBk w T g v b → OBkL w T (gss ++ [g]) (vss ++ [v]) (bs ++ [b])
  | [], [], [], _, _, _, _, h => ⟨h, trivial⟩
  | _ :: _, _ :: _, _ :: _, _, _, _, h, k => ⟨h.1, OBkL.snoc h.2 k⟩
theorem OBkL.lens {w : World} {T : TypeId} : ∀ {gss : List (Option Nat × Option Nat)} {vss : List (List Value)} {bs : List Bk}, OBkL w T gss vss bs → gss.length = bs.length ∧ vss.length = bs.length ∧ ∀ row, row ∈ vss → row.length = 3
  | [], [], [], _ => by simp
  | g :: gs, v :: vs, b :: bs, h => by
    obtain ⟨h1, h2, h3⟩ := OBkL.lens h.2
    refine ⟨by simp [h1], by simp [h2], fun row hr => ?_⟩
    rcases List.mem_cons.1 hr with rfl | hr
    · obtain ⟨v1, v2, rfl, _⟩ := h.1; rfl
    · exact h3 row hr
theorem OBkL.get {w : World} {T : TypeId} : ∀ {gss : List (Option Nat × Option Nat)} {vss : List (List Value)} {bs : List Bk}, OBkL w T gss vss bs → ∀ {i : Nat} {b : Bk}, bs[i]? = some b → ∃ g v, gss[i]? = some g ∧ vss[i]? = some v ∧ OBk w T g v b
  | _ :: _, _ :: _, _ :: _, h, 0, b, hb => by simp at hb; subst hb; exact ⟨_, _, rfl, rfl, h.1⟩
  | _ :: gs, _ :: vs, _ :: bs, h, i + 1, b, hb => by
    obtain ⟨g, v, h1, h2, h3⟩ := OBkL.get h.2 (i := i) (by simpa using hb)
    exact ⟨g, v, by simpa using h1, by simpa using h2, h3⟩
  | [], [], [], _, i, b, hb => by simp at hb
theorem OBkL.repL {L : List Nat} {w : World} {T : TypeId} : ∀ {gss : List (Option Nat × Option Nat)} {vss : List (List Value)} {bs : List Bk}, OBkL w T gss vss bs → (∀ x, x ∈ allG gss → x ∉ L) → RepL L w vss.flatten (bs.map Bk.enc).flatten
  | [], [], [], _, _ => trivial
  | g :: gs, v :: vs, b :: bs, h, hL => by
    obtain ⟨v1, v2, rfl, h1, h2⟩ := h.1
    refine ⟨.val _, h1.rep (fun b hb => hL b (by simp [allG, twoL, hb])), h2.rep (fun b hb => hL b (by simp [allG, twoL, hb])), ?_⟩
    exact OBkL.repL h.2 (fun x hx => hL x (by simp [allG] at hx ⊢; exact .inr hx))

/-- A program that one may write: no block of it is reached on two ways. -/
structure OBks (w : World) (TB TS : TypeId) (v : Value) (g : Option Nat) (gss : List (Option Nat × Option Nat)) (vss : List (List Value)) (bs : List Bk) : Prop where
  own : Own w TB 3 v g bs.length vss.flatten
  rows : OBkL w TS gss vss bs
  nodup : (g.toList ++ allG gss).Nodup
  lt : ∀ x, x ∈ allG gss → x < w.heap.size
theorem OBks.keep {L : List Nat} {w w' : World} {TB TS : TypeId} {v : Value} {g : Option Nat} {gss : List (Option Nat × Option Nat)} {vss : List (List Value)} {bs : List Bk} (h : OBks w TB TS v g gss vss bs) (k : Keep L w w') (hL : ∀ x, x ∈ g.toList ++ allG gss → x ∉ L) : OBks w' TB TS v g gss vss bs :=
  ⟨h.own.keep k (fun b hb => hL b (by simp [hb])), h.rows.keep k (fun x hx => hL x (by simp [hx])), h.nodup, fun x hx => Nat.lt_of_lt_of_le (h.lt x hx) k.size⟩
theorem OBks.ext {w w' : World} {TB TS : TypeId} {v : Value} {g : Option Nat} {gss : List (Option Nat × Option Nat)} {vss : List (List Value)} {bs : List Bk} (h : OBks w TB TS v g gss vss bs) (k : Keep [] w w') : OBks w' TB TS v g gss vss bs := h.keep k (by simp)
theorem OBks.rep {L : List Nat} {w : World} {TB TS : TypeId} {v : Value} {g : Option Nat} {gss : List (Option Nat × Option Nat)} {vss : List (List Value)} {bs : List Bk} (h : OBks w TB TS v g gss vss bs) (hL : ∀ x, x ∈ g.toList ++ allG gss → x ∉ L) : RBks L w v bs := by
  have hd := (List.nodup_append.1 h.nodup).2.2
  refine OwnR.done (L := L) (w := w) (T := TB) (g := g) (xs := vss.flatten) ⟨by simpa using h.own, h.rows.repL fun x hx => ?_, ?_, fun b hb => hL b (by simp [hb])⟩
  · intro hc
    rcases List.mem_append.1 hc with hc | hc
    · exact hd x hc x hx rfl
    · exact hL x (by simp [hx]) hc
  · intro row hr
    obtain ⟨b, _, rfl⟩ := List.mem_map.1 hr
    rfl
theorem OBks.nil {w : World} {TB TS : TypeId} : OBks w TB TS (.slice none 0 0) none [] [] [] := ⟨Own.nil _ _ _, trivial, by simp [allG], by simp [allG]⟩
theorem RTree.mid {A B : List Nat} {b : Nat} {w : World} {v : Value} {t : Tree} (h : RTree (b :: (A ++ B)) w v t) : RTree (A ++ (b :: B)) w v t := RepA.fresh h fun x hx => .inl (mem_mid x hx)
theorem RTree.weak {L L' : List Nat} {w : World} {v : Value} {t : Tree} (h : RTree L w v t) (hL : ∀ x, x ∈ L' → x ∈ L) : RTree L' w v t := RepA.fresh h fun x hx => .inl (hL x hx)
theorem RTrees.weak {L L' : List Nat} {w : World} {v : Value} {t : List Tree} (h : RTrees L w v t) (hL : ∀ x, x ∈ L' → x ∈ L) : RTrees L' w v t := Rep.fresh h fun x hx => .inl (hL x hx)
theorem Gr.trees {B : Nat} {L : List Nat} {w : World} {T : TypeId} {v : Value} {g : Option Nat} {ts : List Tree} (h : Gr B L w T 2 v g (encs ts)) : RTrees L w v ts := h.done
end Go.Proofs.YtnkjgoholocliaaGreatDoor

namespace Go.Proofs.YtnkjgoholocliaaGreatDoor
open Go

def IBk.enc (b : IBk) : List C := [.val (str b.label), .sl 2 (encs b.regs), .sl 2 (encs b.code)]
def RIBk (L : List Nat) (w : World) (v : Value) (b : IBk) : Prop := RepA L w v b.enc
theorem RIBk.ext {L : List Nat} {w w' : World} {v : Value} {b : IBk} (h : RIBk L w v b) (k : Keep [] w w') : RIBk L w' v b := RepA.ext h k
theorem RIBk.grow {L : List Nat} {w : World} {v : Value} {b : IBk} (h : RIBk L w v b) : RIBk (w.heap.size :: L) w v b := RepA.fresh h grow_mem
theorem RIBk.sto {L L' : List Nat} {w w' : World} {v : Value} {b : IBk} (h : RIBk L w v b) (k : Keep L' w w') (hL : ∀ x, x ∈ L' → x ∈ L) : RIBk L w' v b := RepA.keep h (k.mono hL)
theorem RIBk.weak {L L' : List Nat} {w : World} {v : Value} {b : IBk} (h : RIBk L w v b) (hL : ∀ x, x ∈ L' → x ∈ L) : RIBk L' w v b := RepA.fresh h fun x hx => .inl (hL x hx)
theorem repL_ibk {L : List Nat} {w : World} {vs : List Value} {b : IBk} (h : RepL L w vs b.enc) : ∃ v1 v2, vs = [str b.label, v1, v2] ∧ RTrees L w v1 b.regs ∧ RTrees L w v2 b.code := by
  rw [IBk.enc] at h
  match vs, h with
  | [v0, v1, v2], h => obtain ⟨h0, h1, h2, _⟩ := h; cases h0; exact ⟨v1, v2, rfl, h1, h2⟩
  | [], h => exact h.elim
  | [_], h => exact h.2.elim
  | [_, _], h => exact h.2.2.elim
  | _ :: _ :: _ :: _ :: _, h => exact h.2.2.2.elim
theorem trees_cases {L : List Nat} {w : World} {v : Value} {ts : List Tree} (h : RTrees L w v ts) : ∃ a c, v = .slice a ts.length c := by
  obtain ⟨a, c, rfl, _⟩ := rep_len h
  exact ⟨a, c, by rw [encs_length]⟩
theorem ribk_cases {L : List Nat} {w : World} {v : Value} {b : IBk} (h : RIBk L w v b) : ∃ a1 c1 a2 c2, v = .agg #[str b.label, .slice a1 b.regs.length c1, .slice a2 b.code.length c2] ∧
    RTrees L w (.slice a1 b.regs.length c1) b.regs ∧ RTrees L w (.slice a2 b.code.length c2) b.code := by
  obtain ⟨vs, rfl, hr⟩ := h
  obtain ⟨v1, v2, rfl, h1, h2⟩ := repL_ibk hr
  obtain ⟨a1, c1, rfl⟩ := trees_cases h1
  obtain ⟨a2, c2, rfl⟩ := trees_cases h2
  exact ⟨a1, c1, a2, c2, rfl, h1, h2⟩
theorem ribk_of {L : List Nat} {w : World} {l : Bytes} {r c : List Tree} {v1 v2 : Value} (h1 : RTrees L w v1 r) (h2 : RTrees L w v2 c) : RIBk L w (.agg #[str l, v1, v2]) ⟨l, r, c⟩ :=
  ⟨[str l, v1, v2], rfl, .val _, h1, h2, trivial⟩
theorem RIBk.repl {L : List Nat} {w : World} {x y z : Value} {b : IBk} (h : RIBk L w (.agg #[x, y, z]) b) : RepL L w [x, y, z] b.enc := by
  obtain ⟨vs, he, hr⟩ := h
  have hv : vs = [x, y, z] := by
    have := congrArg (fun v => match v with | Value.agg x => x.toList | _ => []) he
    simpa using this.symm
  rw [← hv]; exact hr
def RProg (L : List Nat) (w : World) (v : Value) (ps : List IBk) : Prop := Rep L w v (.sl 3 (ps.map IBk.enc))
theorem RProg.ext {L : List Nat} {w w' : World} {v : Value} {ps : List IBk} (h : RProg L w v ps) (k : Keep [] w w') : RProg L w' v ps := Rep.ext h k
theorem RProg.grow {L : List Nat} {w : World} {v : Value} {b : List IBk} (h : RProg L w v b) : RProg (w.heap.size :: L) w v b := Rep.fresh h grow_mem
theorem RProg.sto {L L' : List Nat} {w w' : World} {v : Value} {b : List IBk} (h : RProg L w v b) (k : Keep L' w w') (hL : ∀ x, x ∈ L' → x ∈ L) : RProg L w' v b := Rep.keep h (k.mono hL)
theorem RProg.weak {L L' : List Nat} {w : World} {v : Value} {b : List IBk} (h : RProg L w v b) (hL : ∀ x, x ∈ L' → x ∈ L) : RProg L' w v b := Rep.fresh h fun x hx => .inl (hL x hx)
theorem rprog_nil {L : List Nat} {w : World} : RProg L w (.slice none 0 0) [] := .nil _ _ _
theorem rprog_cases {L : List Nat} {w : World} {v : Value} {ps : List IBk} (h : RProg L w v ps) : ∃ a c, v = .slice a ps.length c := by
  obtain ⟨a, c, rfl, _⟩ := rep_len h
  exact ⟨a, c, by simp⟩
theorem rprog_get {L : List Nat} {w : World} {a : Option Addr} {n c i : Nat} {ps : List IBk} {k : IBk} (h : RProg L w (.slice a n c) ps) (hi : ps[i]? = some k) :
    ∃ b off a1 c1 a2 c2, a = some ⟨b, off, none⟩ ∧ CellsAt w b (off + i * 3) [str k.label, .slice a1 k.regs.length c1, .slice a2 k.code.length c2] ∧ RTrees L w (.slice a1 k.regs.length c1) k.regs ∧ RTrees L w (.slice a2 k.code.length c2) k.code := by
  obtain ⟨b, off, vs, ha, hb, hL, hl, hc, hr⟩ := rep_get h (show (ps.map IBk.enc)[i]? = some k.enc by simp [hi])
  obtain ⟨v1, v2, rfl, h1, h2⟩ := repL_ibk hr
  obtain ⟨a1, c1, rfl⟩ := trees_cases h1
  obtain ⟨a2, c2, rfl⟩ := trees_cases h2
  exact ⟨b, off, a1, c1, a2, c2, ha, hc, h1, h2⟩
theorem Gr.prog {B : Nat} {L : List Nat} {w : World} {T : TypeId} {v : Value} {g : Option Nat} {ps : List IBk} (h : Gr B L w T 3 v g (ps.map IBk.enc)) : RProg L w v ps := h.done
section
variable {P : Program} {n : Nat} {ops : Array Oper} {K : Env → World → Prop} {rest : List Oper} {e : Env} {w : World}
  {dst : Option Nat} {ty : TypeId} {pos : String} {after : Array Edge} {g : Option (Nat × Bool)} {x y : Operand}
/-- A block behind others. -/
theorem ow_growB {B : Nat} {L : List Nat} {t E bytes : Nat} {z : Value} {v u1 u2 u3 : Value} {gb : Option Nat} {ts : List IBk} {f : IBk} {b U : Nat} (hT : P.underlying t = some (.slice E)) (hE : TI P E 3 bytes z) (hg : gate ops e g = true) (hd : okDst n dst = true) (hz : Nat.beq z.cells.size 3 = true) (hby : Nat.ble bytes 1000 = true)
    (hx : ev e x = v) (hy : ev e y = .slice (some ⟨b, 0, none⟩) 1 1) (hO : Gr B L w E 3 v gb (ts.map IBk.enc)) (hb : Blk w b [u1, u2, u3].toArray U)
    (hr : RIBk (gb.toList ++ L) w (.agg #[u1, u2, u3]) f) (hn : ts.length < 100000000)
    (k : ∀ a' cap' g' w', Gr B L w' E 3 (.slice a' (ts ++ [f]).length cap') g' ((ts ++ [f]).map IBk.enc) → Keep gb.toList w w' → OW P n ops K rest (put? e dst (.slice a' (ts ++ [f]).length cap')) w') :
    OW P n ops K (⟨dst, .call { callee := .builtin .append, args := #[x, y], argTypes := #[t, t] }, ty, pos, after, g⟩ :: rest) e w := by
  refine ow_grow hT hE hg hd hz hby hx hy hO hb rfl ?_ hr.repl (by simpa using hn) ?_
  · rw [List.all_eq_true]
    refine fun u hu => RepL.allOne hr.repl (fun c hc v hv => ?_) u hu
    rw [IBk.enc] at hc
    simp only [List.mem_cons, List.not_mem_nil, or_false] at hc
    rcases hc with h | h | h
    · rw [h] at hv; cases hv; rfl
    · rw [h] at hv; cases hv
    · rw [h] at hv; cases hv
  · intro a' cap' g' w' hO' hk
    have e1 : (ts.map IBk.enc).length + 1 = (ts ++ [f]).length := by simp
    have e2 : ts.map IBk.enc ++ [f.enc] = (ts ++ [f]).map IBk.enc := by simp
    rw [e1] at hO' ⊢
    rw [e2] at hO'
    exact k a' cap' g' w' hO' hk
end
end Go.Proofs.YtnkjgoholocliaaGreatDoor

namespace Go.Proofs.YtnkjgoholocliaaGreatDoor
open Go

theorem target_instr {t : Tree} (h : targetB false t = true) : instrB t = false := by
  refine instrB_shape ?_
  by_cases ha : t.atom = []
  · rcases Nat.eq_zero_or_pos t.parts.length with hz | hp
    · rw [headOf_no (.inr (List.length_eq_zero_iff.1 hz))]; rfl
    · have hh := headOf_cons ha (nth_get hp)
      by_cases he : (nth t.parts 0).atom = [101]
      · rw [hh, he]; rfl
      · by_cases htc : (nth t.parts 0).atom = [116] ∨ (nth t.parts 0).atom = [99]
        · rcases htc with h | h <;> rw [hh, h] <;> rfl
        · rw [targetB_no ha hp he htc] at h; cases h
  · rw [headOf_no (.inl ha)]; rfl

def nilOk : List (Option Nat × Option Nat) → List Bk → Prop
  | [], [] => True
  | g :: gs, b :: bs => ((b.needs = [] → g.1 = none) ∧ (b.code = [] → g.2 = none)) ∧ nilOk gs bs
  | _, _ => False
theorem nilOk_snoc : ∀ {gss : List (Option Nat × Option Nat)} {bs : List Bk} {g : Option Nat × Option Nat} {b : Bk}, nilOk gss bs → ((b.needs = [] → g.1 = none) ∧ (b.code = [] → g.2 = none)) → nilOk (gss ++ [g]) (bs ++ [b])
  | [], [], _, _, _, h => ⟨h, trivial⟩
  | _ :: _, _ :: _, _, _, h, k => ⟨h.1, nilOk_snoc h.2 k⟩
/-- Rows of different blocks of memory. -/
def apart : List (Option Nat × Option Nat) → Prop
  | [] => True
  | g :: gs => (∀ x, x ∈ twoL g → x ∉ allG gs) ∧ apart gs
theorem allG_cons (g : Option Nat × Option Nat) (gs : List (Option Nat × Option Nat)) : allG (g :: gs) = twoL g ++ allG gs := by simp [allG]
theorem allG_snoc (gs : List (Option Nat × Option Nat)) (g : Option Nat × Option Nat) : allG (gs ++ [g]) = allG gs ++ twoL g := by simp [allG]
theorem apart_snoc : ∀ {gss : List (Option Nat × Option Nat)} {g : Option Nat × Option Nat}, apart gss → (∀ x, x ∈ twoL g → x ∉ allG gss) → apart (gss ++ [g])
  | [], _, _, _ => ⟨by simp [allG], trivial⟩
  | p :: gs, g, h, k => by
    refine ⟨fun x hx hx2 => ?_, apart_snoc h.2 fun x hx hx2 => k x hx (by rw [allG_cons]; simp [hx2])⟩
    change x ∈ allG (gs ++ [g]) at hx2
    rw [allG_snoc, List.mem_append] at hx2
    rcases hx2 with hx2 | hx2
    · exact h.1 x hx hx2
    · exact k x hx2 (by rw [allG_cons]; simp [hx])

structure PBks (B : Nat) (w : World) (TB TS : TypeId) (v : Value) (g : Option Nat) (gss : List (Option Nat × Option Nat)) (vss : List (List Value)) (bs : List Bk) : Prop where
  own : Own w TB 3 v g bs.length vss.flatten
  rows : OBkL w TS gss vss bs
  sep : ∀ b, g = some b → b ∉ allG gss
  low : ∀ x, x ∈ g.toList ++ allG gss → B ≤ x
  lt : ∀ x, x ∈ allG gss → x < w.heap.size
  apart : apart gss
  nils : nilOk gss bs
  bsz : B ≤ w.heap.size
theorem PBks.nil {B : Nat} {w : World} {TB TS : TypeId} (h : B ≤ w.heap.size) : PBks B w TB TS (.slice none 0 0) none [] [] [] :=
  ⟨Own.nil _ _ _, trivial, by simp, by simp [allG], by simp [allG], trivial, trivial, h⟩
theorem PBks.keep {B : Nat} {L : List Nat} {w w' : World} {TB TS : TypeId} {v : Value} {g : Option Nat} {gss : List (Option Nat × Option Nat)} {vss : List (List Value)} {bs : List Bk} (h : PBks B w TB TS v g gss vss bs) (k : Keep L w w') (hL : ∀ x, x ∈ L → x < B ∨ w.heap.size ≤ x) : PBks B w' TB TS v g gss vss bs := by
  have hx : ∀ x, x ∈ g.toList ++ allG gss → x ∉ L := fun x hx hl => by
    have h1 := h.low x hx
    have h2 : x < w.heap.size := by
      rcases List.mem_append.1 hx with hx | hx
      · exact h.own.lt x (by simpa using hx)
      · exact h.lt x hx
    rcases hL x hl with h | h <;> omega
  exact ⟨h.own.keep k (fun b hb => hx b (by simp [hb])), h.rows.keep k (fun x h => hx x (by simp [h])), h.sep, h.low, fun x hx => Nat.lt_of_lt_of_le (h.lt x hx) k.size, h.apart, h.nils, Nat.le_trans h.bsz k.size⟩
theorem PBks.ext {B : Nat} {w w' : World} {TB TS : TypeId} {v : Value} {g : Option Nat} {gss : List (Option Nat × Option Nat)} {vss : List (List Value)} {bs : List Bk} (h : PBks B w TB TS v g gss vss bs) (k : Keep [] w w') : PBks B w' TB TS v g gss vss bs := h.keep k (by simp)
theorem PBks.rep {B : Nat} {w : World} {TB TS : TypeId} {v : Value} {g : Option Nat} {gss : List (Option Nat × Option Nat)} {vss : List (List Value)} {bs : List Bk} (h : PBks B w TB TS v g gss vss bs) : RBks [] w v bs := by
  refine OwnR.done (L := []) (w := w) (T := TB) (g := g) (xs := vss.flatten) ⟨by simpa using h.own, h.rows.repL fun x hx hc => ?_, ?_, by simp⟩
  · simp at hc; exact h.sep x hc hx
  · intro row hr
    obtain ⟨b, _, rfl⟩ := List.mem_map.1 hr
    rfl
theorem OStr.head {w : World} {T : TypeId} {v : Value} {b : Nat} {xs : List Bytes} (h : OStr w T v (some b) xs) (hne : xs ≠ []) : ∃ cur, Blk w b cur T ∧ cur[0]? = some (str (xs.headD [])) := by
  rcases h.2 with ⟨_, _, h⟩ | ⟨b', cap, cur, e, _, hb, hnc, _, hcs, ht⟩
  · cases h
  · cases e
    refine ⟨cur, hb, ?_⟩
    cases xs with
    | nil => exact absurd rfl hne
    | cons x r =>
      have h1 := congrArg (fun l => l[0]?) ht
      simp only [List.map_cons, List.getElem?_cons_zero] at h1
      rw [List.getElem?_take, if_pos (by simp)] at h1
      simpa using h1
theorem row_nodup {w : World} {T : TypeId} {g : Option Nat × Option Nat} {vs : List Value} {b : Bk} (h : OBk w T g vs b) (hb : blockB b = true) (hn : (b.needs = [] → g.1 = none) ∧ (b.code = [] → g.2 = none)) : (twoL g).Nodup := by
  obtain ⟨v1, v2, _, h1, h2⟩ := h
  obtain ⟨g1, g2⟩ := g
  cases g1 with
  | none => cases g2 <;> simp [twoL]
  | some x =>
    cases g2 with
    | none => simp [twoL]
    | some y =>
      have hxy : x ≠ y := by
        rintro rfl
        have e1 : b.needs ≠ [] := fun h => by have := hn.1 h; cases this
        have e2 : b.code ≠ [] := fun h => by have := hn.2 h; cases this
        obtain ⟨c1, hb1, hc1⟩ := OStr.head h1 e1
        obtain ⟨c2, hb2, hc2⟩ := OStr.head h2 e2
        have : c1 = c2 := by
          unfold Blk at hb1 hb2
          rw [hb1] at hb2; injection hb2 with h; injection h
        subst this
        rw [hc1] at hc2
        have hs : b.needs.headD [] = b.code.headD [] := by
          injection hc2 with h; injection h with h; injection h with h
          simpa using congrArg Array.toList h
        obtain ⟨_, p1, p2⟩ := blockB_parts hb
        obtain ⟨t1, ht1, hq1⟩ := p1 (b.needs.headD []) (by cases hnn : b.needs with | nil => exact absurd hnn e1 | cons a r => simp)
        obtain ⟨t2, ht2, hq2⟩ := p2 (b.code.headD []) (by cases hnn : b.code with | nil => exact absurd hnn e2 | cons a r => simp)
        rw [hs, ht2] at ht1
        cases ht1
        rw [target_instr hq1] at hq2; cases hq2
      simp [twoL, hxy]
theorem allG_nodup {w : World} {T : TypeId} : ∀ {gss : List (Option Nat × Option Nat)} {vss : List (List Value)} {bs : List Bk}, OBkL w T gss vss bs → apart gss → nilOk gss bs → (∀ b, b ∈ bs → blockB b = true) → (allG gss).Nodup
  | [], [], [], _, _, _, _ => by simp [allG]
  | g :: gs, v :: vs, b :: bs, h, ha, hn, hb => by
    rw [allG_cons, List.nodup_append]
    refine ⟨row_nodup h.1 (hb b (by simp)) hn.1, allG_nodup h.2 ha.2 hn.2 (fun b h => hb b (by simp [h])), fun x hx y hy e => ?_⟩
    subst e; exact ha.1 x hx hy
theorem PBks.full {B : Nat} {w : World} {TB TS : TypeId} {v : Value} {g : Option Nat} {gss : List (Option Nat × Option Nat)} {vss : List (List Value)} {bs : List Bk} (h : PBks B w TB TS v g gss vss bs) (hp : progB bs = true) : OBks w TB TS v g gss vss bs :=
  ⟨h.own, h.rows, by
    rw [List.nodup_append]
    refine ⟨by cases g <;> simp, allG_nodup h.rows h.apart h.nils (progB_block_of hp), fun x hx y hy e => ?_⟩
    subst e; exact h.sep x (by simpa using hx) hy, h.lt⟩
section
variable {P : Program} {n : Nat} {ops : Array Oper} {K : Env → World → Prop} {rest : List Oper} {e : Env} {w : World}
  {dst : Option Nat} {ty : TypeId} {pos : String} {after : Array Edge} {g : Option (Nat × Bool)} {x y : Operand}
theorem ow_growP {B : Nat} {t E TS bytes : Nat} {z : Value} {v : Value} {gb : Option Nat} {gss : List (Option Nat × Option Nat)} {vss : List (List Value)} {bs : List Bk} {f : Bk} {gs : Option Nat × Option Nat} {a1 a2 : Option Addr} {n1 c1 n2 c2 : Nat} {b U : Nat} (hT : P.underlying t = some (.slice E)) (hE : TI P E 3 bytes z) (hg : gate ops e g = true) (hd : okDst n dst = true) (hz : Nat.beq z.cells.size 3 = true) (hby : Nat.ble bytes 1000 = true)
    (hx : ev e x = v) (hy : ev e y = .slice (some ⟨b, 0, none⟩) 1 1) (hP : PBks B w E TS v gb gss vss bs) (hb : Blk w b [str f.label, .slice a1 n1 c1, .slice a2 n2 c2].toArray U)
    (h1 : OStr w TS (.slice a1 n1 c1) gs.1 f.needs) (h2 : OStr w TS (.slice a2 n2 c2) gs.2 f.code) (hnew : ∀ x, x ∈ twoL gs → B ≤ x ∧ x ∉ gb.toList ++ allG gss) (hnil : (f.needs = [] → gs.1 = none) ∧ (f.code = [] → gs.2 = none)) (hn : bs.length < 100000000)
    (k : ∀ a' cap' g' w', PBks B w' E TS (.slice a' (bs ++ [f]).length cap') g' (gss ++ [gs]) (vss ++ [[str f.label, .slice a1 n1 c1, .slice a2 n2 c2]]) (bs ++ [f]) → Keep gb.toList w w' → OW P n ops K rest (put? e dst (.slice a' (bs ++ [f]).length cap')) w') :
    OW P n ops K (⟨dst, .call { callee := .builtin .append, args := #[x, y], argTypes := #[t, t] }, ty, pos, after, g⟩ :: rest) e w := by
  obtain ⟨i, hi, hz', hsz, hbi⟩ := hE.get
  have hby' : bytes ≤ 1000 := Nat.le_of_ble_eq_true hby
  have hsmall : (bs.length + 1) * bytes ≤ 140737488355328 := Nat.le_trans (Nat.mul_le_mul (show bs.length + 1 ≤ 100000000 by omega) hby') (by decide)
  obtain ⟨v', g', w', hrun, hown, hk, hg'⟩ := run_app (P := P) (w := w) (ty := ty) hT hi hz' hsz hbi (Nat.eq_of_beq_eq_true hz) hP.own b 0 1 1 [str f.label, .slice a1 n1 c1, .slice a2 n2 c2] rfl (by have := hb.all; simpa using this)
    (by intro u hu; simp at hu; rcases hu with rfl | rfl | rfl <;> rfl) (by decide) (by unfold maxLen; omega) hsmall
  have hown' : Own w' E 3 v' g' (bs ++ [f]).length (vss ++ [[str f.label, .slice a1 n1 c1, .slice a2 n2 c2]]).flatten := by
    simpa using hown
  obtain ⟨a', cap', he⟩ := hown'.len
  subst he
  have hlt1 : ∀ x, x ∈ twoL gs → x < w.heap.size := fun x hx => by
    simp only [twoL, List.mem_append] at hx
    rcases hx with hx | hx
    · exact Own.lt h1 x (by simpa using hx)
    · exact Own.lt h2 x (by simpa using hx)
  refine ow_val hg hd (w' := w') (by
    simp only [execOp, resolve, invoke, builtin, Sem.run_bind, Sem.run_pure, Result.andThen_ok, List.map_toArray, List.map_cons, List.map_nil, hx, hy, hrun]) (k a' cap' g' w' ⟨hown', ?_, ?_, ?_, ?_, ?_, ?_, ?_⟩ hk)
  · refine OBkL.snoc (hP.rows.keep hk fun x hx hg => hP.sep x (by simpa using hg) hx) ⟨_, _, rfl, h1.keep hk fun b hb hx => ?_, h2.keep hk fun b hb hx => ?_⟩
    · exact (hnew b (by simp [twoL, hb])).2 (by simp at hx; simp [hx])
    · exact (hnew b (by simp [twoL, hb])).2 (by simp at hx; simp [hx])
  · intro b hb hx
    rw [allG_snoc, List.mem_append] at hx
    rcases hg' with h | h
    · rw [h] at hb
      rcases hx with hx | hx
      · exact hP.sep b hb hx
      · exact (hnew b hx).2 (by simp [hb])
    · rw [h] at hb; cases hb
      rcases hx with hx | hx
      · have := hP.lt _ hx; omega
      · have := hlt1 _ hx; omega
  · intro x hx
    rw [allG_snoc] at hx
    simp only [List.mem_append] at hx
    rcases hx with hx | hx | hx
    · rcases hg' with h | h
      · rw [h] at hx; exact hP.low x (by simp only [List.mem_append]; exact .inl hx)
      · rw [h] at hx; simp at hx; have := hP.bsz; omega
    · exact hP.low x (by simp only [List.mem_append]; exact .inr hx)
    · exact (hnew x hx).1
  · intro x hx
    rw [allG_snoc, List.mem_append] at hx
    rcases hx with hx | hx
    · exact Nat.lt_of_lt_of_le (hP.lt x hx) hk.size
    · exact Nat.lt_of_lt_of_le (hlt1 x hx) hk.size
  · exact apart_snoc hP.apart fun x hx hx2 => (hnew x hx).2 (by simp [hx2])
  · exact nilOk_snoc hP.nils hnil
  · exact Nat.le_trans hP.bsz hk.size
end
theorem progI_from {t : Tree} (h : Fine t) (hg : Good t) : progI (fromT t) = progB (fromT t) := by
  unfold progI
  rw [show (fromT t).all shortL = true from ?_, Bool.and_true]
  refine List.all_eq_true.2 fun b hb => ?_
  obtain ⟨u, hu, rfl⟩ := List.mem_map.1 hb
  obtain ⟨i, hi, rfl⟩ := List.getElem_of_mem (List.mem_of_mem_drop hu)
  have hfu := h.part hg (List.getElem?_eq_getElem hi)
  have hgu := hg.part (List.getElem?_eq_getElem hi)
  unfold shortL
  refine decide_eq_true ?_
  unfold bkOf?
  split
  · rename_i hbk
    have h4 := isBlkT_len hbk
    have f1 := hfu.nth (i := 1) hgu (by omega)
    have f2 := f1.size
    have := atom_lt (nth t.parts[i].parts 1)
    show (nth t.parts[i].parts 1).atom.length ≤ 12000
    omega
  · simp [nob]
theorem from_bad {t : Tree} {i : Nat} (hi : i + 1 < t.parts.length) (h : isBlkT (nth t.parts (i + 1)) = false) : progB (fromT t) = false := by
  refine progB_nob ?_
  refine List.mem_map.2 ⟨nth t.parts (i + 1), List.mem_of_getElem? (drop_get hi), bkOf?_no h⟩
end Go.Proofs.YtnkjgoholocliaaGreatDoor

namespace Go.Proofs.YtnkjgoholocliaaGreatDoor
open Go

/-! ### Plain: marks -/
theorem decB_len (n : Nat) : (decB n).length ≤ n + 1 := by
  induction n using Nat.strongRecOn with
  | _ n ih =>
    unfold decB
    split
    · simp
    · rw [List.length_append]
      have := ih (n / 10) (by omega)
      simp only [List.length_cons, List.length_nil]; omega
def mtB (n : Nat) : Bytes := if n = 0 then [109, 48] else 109 :: decB n
def marksS (k n : Nat) : List Bytes := (List.range n).map fun i => mtB (k + i)
theorem marksS_len (k n : Nat) : (marksS k n).length = n := by simp [marksS]
theorem marksS_get {k n i : Nat} (h : i < n) : sth (marksS k n) i = mtB (k + i) := by simp [marksS, sth, h]
def nextK (b : Bk) (k : Nat) : Nat := k + 1 + b.needs.length + b.code.length
def markBk (b : Bk) (k : Nat) : Bk := ⟨mtB k, marksS (k + 1) b.needs.length, marksS (k + 1 + b.needs.length) b.code.length⟩
/-- The number ahead of block i. -/
def kAt (bs : List Bk) (k : Nat) : Nat → Nat
  | 0 => k
  | i + 1 => nextK (bth bs i) (kAt bs k i)
/-- The program with i blocks marked. -/
def curBs (bs : List Bk) (k i : Nat) : List Bk := (List.range bs.length).map fun j => if j < i then markBk (bth bs j) (kAt bs k j) else bth bs j
theorem curBs_len (bs : List Bk) (k i : Nat) : (curBs bs k i).length = bs.length := by simp [curBs]
theorem curBs_zero (bs : List Bk) (k : Nat) : curBs bs k 0 = bs := by
  refine List.ext_getElem (by simp [curBs]) fun j h1 h2 => ?_
  simp [curBs, List.getElem?_eq_getElem h2]
theorem curBs_get {bs : List Bk} {k i j : Nat} (h : j < bs.length) : (curBs bs k i)[j]? = some (if j < i then markBk (bth bs j) (kAt bs k j) else bth bs j) := by
  simp [curBs, h]
theorem curBs_set {bs : List Bk} {k i : Nat} (_ : i < bs.length) : (curBs bs k i).set i (markBk (bth bs i) (kAt bs k i)) = curBs bs k (i + 1) := by
  refine List.ext_getElem (by simp [curBs]) fun j h1 h2 => ?_
  rw [List.getElem_set]
  simp only [curBs, List.getElem_map, List.getElem_range]
  by_cases hij : i = j
  · subst hij; simp
  · rw [if_neg hij]
    by_cases h3 : j < i
    · rw [if_pos h3, if_pos (by omega)]
    · rw [if_neg h3, if_neg (by omega)]
theorem kAt_le {bs : List Bk} (h : Smalls bs) (k : Nat) : ∀ i, i ≤ bs.length → kAt bs k i ≤ k + 2000000001 * i
  | 0, _ => by simp [kAt]
  | i + 1, hi => by
    have := kAt_le h k i (by omega)
    have h2 := h.2 i (by omega)
    have a := h2.2.1
    have b := h2.2.2
    simp only [kAt, nextK]; omega

/-! ### Operations -/
section
variable {P : Program} {n : Nat} {ops : Array Oper} {K : Env → World → Prop} {rest : List Oper} {e : Env} {w : World}
  {dst : Option Nat} {ty : TypeId} {pos : String} {after : Array Edge} {g : Option (Nat × Bool)} {x y : Operand}
/-- 'string([]byte{c})'. -/
theorem ow_bytesStr1 {S D E b cap : Nat} {z : Int} {c : UInt8} {U : TypeId} (hS : P.underlying S = some (.slice E)) (hE : P.underlying E = some (.int .u8)) (hD : P.underlying D = some .string) (hg : gate ops e g = true) (hd : okDst n dst = true)
    (hx : ev e x = .slice (some ⟨b, 0, none⟩) 1 cap) (hb : Blk w b [.int .u8 z].toArray U) (hz : z = (c.toNat : Int)) (k : OW P n ops K rest (put? e dst (str [c])) w) : OW P n ops K (⟨dst, .convert S D x, ty, pos, after, g⟩ :: rest) e w := by
  have hrun := run_convert_bytes_back (P := P) w S D E ⟨b, 0, none⟩ cap [c] hS hE hD (by
    intro j hj
    have : j = 0 := by simpa using hj
    subst this
    have := hb.cell 0
    simpa [Addr.add, hz] using this)
  exact ow_val hg hd (v := str [c]) (w' := w) (by
    have hx' : ev e x = .slice (some ⟨b, 0, none⟩) ([c] : List UInt8).length cap := hx
    simp only [execOp, hx', Sem.run_bind, hrun, Result.andThen_ok, Sem.run_pure]) k
/-- A text is put in the place of another one. -/
theorem ow_storeO {T TS bytes : Nat} {z : Value} {gb : Option Nat} {xs : List Bytes} {s : Bytes} {b o nn c i : Nat} (hTI : TI P T 1 bytes z) (hg : gate ops e g = true) (hx : ev e x = .pointer (some ⟨b, o, none⟩)) (hy : ev e y = str s) (ho : o = i)
    (hO : OStr w TS (.slice (some ⟨b, 0, none⟩) nn c) gb xs) (hi : i < xs.length)
    (k : ∀ w', Keep gb.toList w w' → OStr w' TS (.slice (some ⟨b, 0, none⟩) nn c) gb (xs.set i s) → w'.heap.size = w.heap.size → OW P n ops K rest e w') : OW P n ops K (⟨none, .store T x y, ty, pos, after, g⟩ :: rest) e w := by
  subst ho
  obtain ⟨hl, h | ⟨b', cap, cur, hgb, hv, hb, hnc, hcm, hcs, ht⟩⟩ := hO
  · obtain ⟨h, _⟩ := h; cases h
  · cases hv
    subst hgb
    refine ow_store hTI rfl hg hx hy rfl hb (by rw [hcs]; omega) fun w' hk hb' hz => ?_
    refine k w' (by simpa using hk) ⟨by simp, .inr ⟨b, _, _, rfl, by simp, hb', by simpa using hnc, hcm, by simpa using hcs, ?_⟩⟩ hz
    rw [Array.toList_setIfInBounds, List.length_set, List.take_set, ht, List.map_set]
end
theorem flatten_set {α : Type} {sz : Nat} : ∀ {rows : List (List α)} {i j : Nat} {a : α} {row : List α}, (∀ row, row ∈ rows → row.length = sz) → rows[i]? = some row → j < sz → rows.flatten.set (i * sz + j) a = (rows.set i (row.set j a)).flatten
  | r :: rows, 0, j, a, row, h, hi, hj => by
    simp only [List.getElem?_cons_zero, Option.some.injEq] at hi
    subst hi
    have hr : r.length = sz := h r (by simp)
    rw [List.flatten_cons, Nat.zero_mul, Nat.zero_add, List.set_cons_zero, List.flatten_cons, List.set_append_left _ _ (by omega)]
  | r :: rows, i + 1, j, a, row, h, hi, hj => by
    have hr : r.length = sz := h r (by simp)
    have := flatten_set (rows := rows) (a := a) (fun row hr => h row (by simp [hr])) (by simpa using hi) hj
    rw [List.flatten_cons, List.set_cons_succ, List.flatten_cons, List.set_append_right _ _ (by rw [hr, Nat.add_mul]; omega), hr, ← this]
    congr 2
    rw [Nat.add_mul]; omega
/-- Row i gets another block. -/
theorem OBkL.set {w w' : World} {T : TypeId} : ∀ {gss : List (Option Nat × Option Nat)} {vss : List (List Value)} {bs : List Bk} {i : Nat} {g : Option Nat × Option Nat} {v : List Value} {f : Bk}, OBkL w T gss vss bs → gss[i]? = some g → OBk w' T g v f →
    (∀ (j : Nat) (g2 : Option Nat × Option Nat) (v2 : List Value) (b2 : Bk), j ≠ i → gss[j]? = some g2 → OBk w T g2 v2 b2 → OBk w' T g2 v2 b2) → OBkL w' T gss (vss.set i v) (bs.set i f)
  | [], [], [], i, g, v, f, _, hg, _, _ => by simp at hg
  | g0 :: gs, v0 :: vs, b0 :: bs, 0, g, v, f, h, hg, hf, hk => by
    simp only [List.getElem?_cons_zero, Option.some.injEq] at hg
    subst hg
    refine ⟨hf, ?_⟩
    have key : ∀ {gs : List (Option Nat × Option Nat)} {vs : List (List Value)} {bs : List Bk}, (∀ (j : Nat) (g2 : Option Nat × Option Nat) (v2 : List Value) (b2 : Bk), gs[j]? = some g2 → OBk w T g2 v2 b2 → OBk w' T g2 v2 b2) → OBkL w T gs vs bs → OBkL w' T gs vs bs := by
      intro gs
      induction gs with
      | nil => intro vs bs _ h; cases vs <;> cases bs <;> first | trivial | exact h.elim
      | cons g gs ih =>
        intro vs bs hk h
        cases vs with
        | nil => cases bs <;> exact h.elim
        | cons v vs =>
          cases bs with
          | nil => exact h.elim
          | cons b bs => exact ⟨hk 0 _ _ _ rfl h.1, ih (fun j g2 v2 b2 hj => hk (j + 1) g2 v2 b2 (by simpa using hj)) h.2⟩
    exact key (fun j g2 v2 b2 hj ho => hk (j + 1) g2 v2 b2 (by omega) (by simpa using hj) ho) h.2
  | g0 :: gs, v0 :: vs, b0 :: bs, i + 1, g, v, f, h, hg, hf, hk =>
    ⟨hk 0 _ _ _ (by omega) rfl h.1, OBkL.set h.2 (by simpa using hg) hf fun j g2 v2 b2 hj hg2 ho => hk (j + 1) g2 v2 b2 (by omega) (by simpa using hg2) ho⟩
theorem allG_mem {gss : List (Option Nat × Option Nat)} {i : Nat} {g : Option Nat × Option Nat} {x : Nat} (hg : gss[i]? = some g) (hx : x ∈ twoL g) : x ∈ allG gss := by
  simp only [allG, List.mem_flatMap]
  exact ⟨g, List.mem_of_getElem? hg, hx⟩
theorem allG_ne : ∀ {gss : List (Option Nat × Option Nat)} {i j : Nat} {g g2 : Option Nat × Option Nat} {x : Nat}, (allG gss).Nodup → i ≠ j → gss[i]? = some g → gss[j]? = some g2 → x ∈ twoL g → x ∉ twoL g2
  | g0 :: gs, 0, 0, _, _, _, _, h, _, _, _ => absurd rfl h
  | g0 :: gs, 0, j + 1, g, g2, x, hn, _, hg, hg2, hx => by
    simp only [List.getElem?_cons_zero, Option.some.injEq] at hg
    subst hg
    rw [allG_cons, List.nodup_append] at hn
    intro hx2
    exact hn.2.2 x hx x (allG_mem (by simpa using hg2) hx2) rfl
  | g0 :: gs, i + 1, 0, g, g2, x, hn, _, hg, hg2, hx => by
    simp only [List.getElem?_cons_zero, Option.some.injEq] at hg2
    subst hg2
    rw [allG_cons, List.nodup_append] at hn
    intro hx2
    exact hn.2.2 x hx2 x (allG_mem (by simpa using hg) hx) rfl
  | g0 :: gs, i + 1, j + 1, g, g2, x, hn, hij, hg, hg2, hx => by
    rw [allG_cons, List.nodup_append] at hn
    exact allG_ne (i := i) (j := j) hn.2.1 (by omega) (by simpa using hg) (by simpa using hg2) hx
/-- The lists of one row change, in their own memory. -/
theorem OBks.row {w w' : World} {TB TS : TypeId} {v : Value} {g : Option Nat} {gss : List (Option Nat × Option Nat)} {vss : List (List Value)} {bs : List Bk} {i : Nat} {gs : Option Nat × Option Nat} {vs : List Value} {f : Bk} {L : List Nat}
    (h : OBks w TB TS v g gss vss bs) (hg : gss[i]? = some gs) (hv : vss[i]? = some vs) (hk : Keep L w w') (hL : ∀ x, x ∈ L → x ∈ twoL gs) (hf : OBk w' TS gs vs f) : OBks w' TB TS v g gss vss (bs.set i f) := by
  have hd := (List.nodup_append.1 h.nodup)
  have hset : vss.set i vs = vss := by
    refine List.ext_getElem (by simp) fun j h1 h2 => ?_
    rw [List.getElem_set]
    split
    · rename_i hij; subst hij
      rw [List.getElem?_eq_getElem h2] at hv; simpa using hv.symm
    · rfl
  have hr := OBkL.set (w' := w') h.rows hg hf (fun j g2 v2 b2 hj hg2 ho => ho.keep hk fun x hx hxl => allG_ne hd.2.1 hj hg2 hg hx (hL x hxl))
  rw [hset] at hr
  exact ⟨by rw [List.length_set]; exact h.own.keep hk (fun b hb hx => hd.2.2 b (by simp [hb]) b (allG_mem hg (hL b hx)) rfl), hr, h.nodup, fun x hx => Nat.lt_of_lt_of_le (h.lt x hx) hk.size⟩
section
variable {P : Program} {n : Nat} {ops : Array Oper} {K : Env → World → Prop} {rest : List Oper} {e : Env} {w : World}
  {dst : Option Nat} {ty : TypeId} {pos : String} {after : Array Edge} {g : Option (Nat × Bool)} {x y : Operand}
/-- A label is put in the place of another one. -/
theorem ow_storeL {T TB TS bytes : Nat} {z : Value} {gb : Option Nat} {gss : List (Option Nat × Option Nat)} {vss : List (List Value)} {bs : List Bk} {s : Bytes} {b o nn c i : Nat} (hTI : TI P T 1 bytes z) (hg : gate ops e g = true) (hx : ev e x = .pointer (some ⟨b, o, none⟩)) (hy : ev e y = str s) (ho : o = i * 3)
    (hO : OBks w TB TS (.slice (some ⟨b, 0, none⟩) nn c) gb gss vss bs) (hi : i < bs.length)
    (k : ∀ w' vss', Keep gb.toList w w' → OBks w' TB TS (.slice (some ⟨b, 0, none⟩) nn c) gb gss vss' (bs.set i { bth bs i with label := s }) → w'.heap.size = w.heap.size → OW P n ops K rest e w') : OW P n ops K (⟨none, .store T x y, ty, pos, after, g⟩ :: rest) e w := by
  subst ho
  have hd := List.nodup_append.1 hO.nodup
  have hown := hO.own
  obtain ⟨gs, vs, hgs, hvs, v1, v2, hvv, hs1, hs2⟩ := hO.rows.get (bth_get hi)
  obtain ⟨hl1, hl2, hl3⟩ := hO.rows.lens
  obtain ⟨hl, h | ⟨b', cap, cur, hgb, hv, hb, hnc, hcm, hcs, ht⟩⟩ := hown
  · obtain ⟨h, _⟩ := h; cases h
  · cases hv
    subst hgb
    refine ow_store hTI rfl hg hx hy rfl hb (by rw [hcs]; omega) fun w' hk hb' hz => ?_
    have hfl : (vss.set i [str s, v1, v2]).flatten = vss.flatten.set (i * 3) (str s) := by
      have := flatten_set (a := str s) (j := 0) hl3 hvs (by decide)
      rw [Nat.add_zero] at this
      rw [this, hvv]; rfl
    refine k w' (vss.set i [str s, v1, v2]) (by simpa using hk) ⟨⟨?_, .inr ⟨b, _, _, rfl, by simp, hb', by simpa using hnc, hcm, by simpa using hcs, ?_⟩⟩, ?_, hO.nodup, fun x hx => Nat.lt_of_lt_of_le (hO.lt x hx) hk.size⟩ hz
    · rw [hfl, List.length_set, hl, List.length_set]
    · rw [Array.toList_setIfInBounds, List.length_set, List.take_set, ht, hfl]
    · have hb0 : ∀ x, x ∈ allG gss → x ∉ [b] := fun q hq h => by simp at h; subst h; exact hd.2.2 q (by simp) q hq rfl
      refine OBkL.set (w' := w') hO.rows hgs ⟨v1, v2, rfl, hs1.keep hk (fun b hb => hb0 b (allG_mem hgs (by simp [twoL, hb]))), hs2.keep hk (fun b hb => hb0 b (allG_mem hgs (by simp [twoL, hb])))⟩ (fun j g2 v2 b2 _ hg2 ho => ho.keep hk fun x hx => hb0 x (allG_mem hg2 hx))
end

/-- A list of texts with i marks. -/
def curS (k : Nat) (xs : List Bytes) (i : Nat) : List Bytes := (List.range xs.length).map fun j => if j < i then mtB (k + j) else sth xs j
theorem curS_len (k : Nat) (xs : List Bytes) (i : Nat) : (curS k xs i).length = xs.length := by simp [curS]
theorem curS_zero (k : Nat) (xs : List Bytes) : curS k xs 0 = xs := by
  refine List.ext_getElem (by simp [curS]) fun j h1 h2 => ?_
  simp [curS, sth, List.getElem?_eq_getElem h2]
theorem curS_all (k : Nat) (xs : List Bytes) {i : Nat} (h : xs.length ≤ i) : curS k xs i = marksS k xs.length := by
  unfold curS marksS
  refine List.map_congr_left fun j hj => ?_
  rw [List.mem_range] at hj
  rw [if_pos (by omega)]
theorem curS_set {k : Nat} {xs : List Bytes} {i : Nat} (_ : i < xs.length) : (curS k xs i).set i (mtB (k + i)) = curS k xs (i + 1) := by
  refine List.ext_getElem (by simp [curS]) fun j h1 h2 => ?_
  rw [List.getElem_set]
  simp only [curS, List.getElem_map, List.getElem_range]
  by_cases hij : i = j
  · subst hij; simp
  · rw [if_neg hij]
    by_cases h3 : j < i
    · rw [if_pos h3, if_pos (by omega)]
    · rw [if_neg h3, if_neg (by omega)]
theorem curBs_all {bs : List Bk} {k i j : Nat} (hi : bs.length ≤ i) (h : j < bs.length) : (curBs bs k i)[j]? = some (markBk (bth bs j) (kAt bs k j)) := by
  rw [curBs_get h, if_pos (by omega)]
theorem decB_step {k : Nat} (h : 10 ≤ k) : decB k = decB (k / 10) ++ [UInt8.ofNat (48 + k % 10)] := by
  conv => lhs; unfold decB
  rw [if_neg (by omega)]
theorem decB_low {k : Nat} (h : k < 10) : decB k = [UInt8.ofNat (48 + k % 10)] := by
  unfold decB; rw [if_pos h, Nat.mod_eq_of_lt h]
theorem dig_byte (k : Nat) : (48 : Int) + ((k % 10 : Nat) : Int) = ((UInt8.ofNat (48 + k % 10)).toNat : Int) := by
  have : (48 + k % 10) % 256 = 48 + k % 10 := Nat.mod_eq_of_lt (by omega)
  simp only [UInt8.toNat_ofNat', Nat.reducePow]
  omega
/-- The marks' digits, from the last one on. -/
def Dig (n k : Nat) (out : Bytes) : Prop := (k = 0 ∧ out = decB n) ∨ (0 < k ∧ decB n = decB k ++ out)
theorem Dig.step {n k : Nat} {out : Bytes} (h : Dig n k out) (hk : 0 < k) : Dig n (k / 10) ([UInt8.ofNat (48 + k % 10)] ++ out) := by
  rcases h with ⟨h, _⟩ | ⟨_, h⟩
  · omega
  · by_cases h10 : 10 ≤ k
    · exact .inr ⟨by omega, by rw [h, decB_step h10]; simp⟩
    · exact .inl ⟨by omega, by rw [h, decB_low (by omega)]⟩
theorem Dig.le {n k : Nat} {out : Bytes} (h : Dig n k out) : out.length ≤ n + 1 := by
  have := decB_len n
  rcases h with ⟨_, h⟩ | ⟨_, h⟩
  · rw [h]; exact this
  · rw [h, List.length_append] at this; omega
theorem OStr.form {w : World} {T : TypeId} {a : Option Addr} {n c : Nat} {g : Option Nat} {xs : List Bytes} (h : OStr w T (.slice a n c) g xs) (hx : 0 < xs.length) : ∃ b, a = some ⟨b, 0, none⟩ ∧ g = some b := by
  rcases h.2 with ⟨_, h, _⟩ | ⟨b, _, _, e, hv, _⟩
  · omega
  · cases hv; exact ⟨b, rfl, e⟩
theorem OStr.cases {w : World} {T : TypeId} {v : Value} {g : Option Nat} {xs : List Bytes} (h : OStr w T v g xs) : ∃ a c, v = .slice a xs.length c := Own.len h
theorem CellsAt.sto {w w' : World} {b off : Nat} {vs : List Value} {L : List Nat} (h : CellsAt w b off vs) (k : Keep L w w') (hb : b < w.heap.size) (hL : b ∉ L) : CellsAt w' b off vs := fun j v hj => (World.cell?_of_block (k.block b hb hL)).trans (h j v hj)
/-- Row i of a program that one owns. -/
theorem OBks.get {w : World} {TB TS : TypeId} {a : Option Addr} {n c : Nat} {g : Option Nat} {gss : List (Option Nat × Option Nat)} {vss : List (List Value)} {bs : List Bk} {i : Nat} (h : OBks w TB TS (.slice a n c) g gss vss bs) (hi : i < bs.length) :
    ∃ b gs a1 c1 a2 c2, a = some ⟨b, 0, none⟩ ∧ g = some b ∧ b < w.heap.size ∧ b ∉ twoL gs ∧ gss[i]? = some gs ∧ vss[i]? = some [str (bth bs i).label, .slice a1 (bth bs i).needs.length c1, .slice a2 (bth bs i).code.length c2] ∧
      CellsAt w b (0 + i * 3) [str (bth bs i).label, .slice a1 (bth bs i).needs.length c1, .slice a2 (bth bs i).code.length c2] ∧
      OStr w TS (.slice a1 (bth bs i).needs.length c1) gs.1 (bth bs i).needs ∧ OStr w TS (.slice a2 (bth bs i).code.length c2) gs.2 (bth bs i).code ∧ (∀ x, gs.1 = some x → gs.2 = some x → False) := by
  have hd := List.nodup_append.1 h.nodup
  obtain ⟨hl1, hl2, hl3⟩ := h.rows.lens
  obtain ⟨gs, vs, hgs, hvs, v1, v2, rfl, hs1, hs2⟩ := h.rows.get (bth_get hi)
  obtain ⟨a1, c1, rfl⟩ := OStr.cases hs1
  obtain ⟨a2, c2, rfl⟩ := OStr.cases hs2
  obtain ⟨hl, hz | ⟨b, cap, cur, hgb, hv, hb, hnc, hcm, hcs, ht⟩⟩ := h.own
  · obtain ⟨_, hz, _⟩ := hz; omega
  · cases hv
    subst hgb
    refine ⟨b, gs, a1, c1, a2, c2, rfl, rfl, hb.lt, fun hx => hd.2.2 b (by simp) b (allG_mem hgs hx) rfl, hgs, hvs, fun j v hj => ?_, hs1, hs2, fun x h1 h2 => ?_⟩
    · have hf := flatten_get hl3 hvs hj
      have hlt : i * 3 + j < vss.flatten.length := (List.getElem?_eq_some_iff.1 hf).1
      rw [hb.cell, Nat.zero_add]
      have h2 := ht
      have : (cur.toList.take (bs.length * 3))[i * 3 + j]? = some v := by rw [ht]; exact hf
      rw [List.getElem?_take] at this
      split at this
      · simpa using this
      · cases this
    · have hn : (twoL gs).Nodup := by
        have : ∀ {gss : List (Option Nat × Option Nat)} {i : Nat}, (allG gss).Nodup → gss[i]? = some gs → (twoL gs).Nodup := by
          intro gss
          induction gss with
          | nil => intro i _ h; simp at h
          | cons p q ih =>
            intro i hn hg
            rw [allG_cons, List.nodup_append] at hn
            cases i with
            | zero => simp at hg; subst hg; exact hn.1
            | succ i => exact ih hn.2.1 (by simpa using hg)
        exact this hd.2.1 hgs
      simp [twoL, h1, h2] at hn

theorem from_small (s : Bytes) : Smalls ((fromP s).getD []) ∧ ((fromP s).getD []).length ≤ 12001 := by
  unfold fromP
  cases hp : parse s with
  | none => exact ⟨⟨by simp, by intro i hi; simp at hi⟩, by simp⟩
  | some t =>
    simp only
    split
    · have hf := fine_parse hp
      refine ⟨smalls_from hf (parse_good hp).1, ?_⟩
      have h1 := parts_le t
      have h2 := hf.size
      simp [fromT]; omega
    · exact ⟨⟨by simp, by intro i hi; simp at hi⟩, by simp⟩
theorem from_mark (s : Bytes) : ∀ i, i ≤ ((fromP s).getD []).length → kAt ((fromP s).getD []) 1 i ≤ 100000000000000 := by
  intro i hi
  obtain ⟨h1, h2⟩ := from_small s
  have := kAt_le h1 1 i hi
  omega
end Go.Proofs.YtnkjgoholocliaaGreatDoor

namespace Go.Proofs.YtnkjgoholocliaaGreatDoor
open Go

/-! ### Rows of zero values -/
theorem madeCells_rows (z : Array Value) : ∀ n : Nat, (madeCells z (n * z.size)).toList = (List.replicate n z.toList).flatten
  | 0 => by simp [madeCells]
  | n + 1 => by
    have ih := madeCells_rows z n
    have e : (madeCells z (n * z.size)).toList = (List.range (n * z.size)).map fun i => z[i % z.size]! := by simp [madeCells]
    have e2 : (madeCells z ((n + 1) * z.size)).toList = (List.range ((n + 1) * z.size)).map fun i => z[i % z.size]! := by simp [madeCells]
    rw [e2, Nat.add_mul, Nat.one_mul, Nat.add_comm, List.range_add, List.map_append, List.replicate_succ, List.flatten_cons, ← ih, e]
    congr 1
    · refine List.ext_getElem (by simp) fun i h1 h2 => ?_
      have hi : i < z.size := by simpa using h1
      simp [Nat.mod_eq_of_lt hi, hi]
    · rw [List.map_map]
      refine List.map_congr_left fun i _ => ?_
      simp
theorem repL_replicate {L : List Nat} {w : World} {zs : List Value} {row : List C} (h : RepL L w zs row) : ∀ n : Nat, RepL L w (List.replicate n zs).flatten (List.replicate n row).flatten
  | 0 => trivial
  | n + 1 => by rw [List.replicate_succ, List.replicate_succ, List.flatten_cons, List.flatten_cons]; exact h.append (repL_replicate h n)

section
variable {P : Program} {n : Nat} {ops : Array Oper} {K : Env → World → Prop} {rest : List Oper} {e : Env} {w : World}
  {dst : Option Nat} {ty : TypeId} {pos : String} {after : Array Edge} {g : Option (Nat × Bool)} {x y : Operand}
/-- 'make([]T, n)'. -/
theorem ow_makeSlice {t E sz bytes : Nat} {z : Value} {zs : List Value} {row : List C} {kl kc : IntKind} {i1 i2 : Int} (B N : Nat) (L : List Nat) (hT : P.underlying t = some (.slice E)) (hE : TI P E sz bytes z) (hg : gate ops e g = true) (hd : okDst n dst = true)
    (hz : z.cells = zs.toArray) (hzl : Nat.beq zs.length sz = true) (hby : Nat.ble bytes 1000 = true) (hx : ev e x = .int kl i1) (hy : ev e y = .int kc i2) (h1 : i1 = (N : Int)) (h2 : i2 = (N : Int)) (hN : N ≤ 100000000000)
    (hrow : ∀ L w, RepL L w zs row) (hB : B ≤ w.heap.size) (hL : ∀ x, x ∈ L → x < w.heap.size)
    (k : ∀ w', Keep [] w w' → w'.heap.size = w.heap.size + 1 → Gr B L w' E sz (.slice (some ⟨w.heap.size, 0, none⟩) N N) (some w.heap.size) (List.replicate N row) → OW P n ops K rest (put? e dst (.slice (some ⟨w.heap.size, 0, none⟩) N N)) w') :
    OW P n ops K (⟨dst, .makeSlice t x y, ty, pos, after, g⟩ :: rest) e w := by
  subst h1 h2
  obtain ⟨i, hi, hz', hsz, hbi⟩ := hE.get
  have hby' : bytes ≤ 1000 := Nat.le_of_ble_eq_true hby
  have hzl' : zs.length = sz := Nat.eq_of_beq_eq_true hzl
  have hzs : z.cells.size = sz := by rw [hz]; simpa using hzl'
  have hb : (i.bytes : Int) * (N : Int) ≤ 281474976710656 := by
    have : i.bytes * N ≤ 1000 * 100000000000 := Nat.mul_le_mul (by omega) hN
    have h : ((i.bytes * N : Nat) : Int) ≤ 281474976710656 := by omega
    rwa [Int.natCast_mul] at h
  have hr := run_make (P := P) w t E i z hT hi hz' kl kc (N : Int) (N : Int) (by omega) (Int.le_refl _) hb (by omega)
  simp only [Int.toNat_natCast] at hr
  have hml := madeCells_rows z.cells N
  rw [hzs] at hml
  have hzt : z.cells.toList = zs := by rw [hz]
  rw [hzt] at hml
  have hrl : row.length = sz := by rw [← (hrow [] w).length, hzl']
  refine ow_val hg hd (w' := w.alloc (.cells (madeCells z.cells (N * sz)) E)) (by rw [hsz] at hr; simp [execOp, hx, hy, hr]) (k _ (Keep.alloc _ _ _) (by simp) ⟨⟨(List.replicate N zs).flatten, ⟨?_, ?_, ?_, ?_⟩⟩, ?_, ?_, ?_⟩)
  · rw [List.length_replicate]
    refine ⟨by rw [← hml]; simp [size_madeCells], .inr ⟨w.heap.size, N, _, rfl, rfl, Blk.alloc _ _ _, Nat.le_refl _, by unfold maxLen; omega, size_madeCells _ _, ?_⟩⟩
    rw [← hml, List.take_of_length_le (by simp [size_madeCells])]
  · exact repL_replicate (hrow _ _) N
  · intro r hr; rw [(List.mem_replicate.1 hr).2]; exact hrl
  · intro b hb hx; cases hb; have := hL _ hx; omega
  · intro b hb; cases hb; exact hB
  · intro x hx; have := hL x hx; simp; omega
  · simp; omega

/-! ### Elements that are stored -/
/-- Cells put one behind the other. -/
def setAt (cs : Array Value) (k : Nat) : List Value → Array Value
  | [] => cs
  | v :: vs => setAt (cs.setIfInBounds k v) (k + 1) vs
theorem setAt_size : ∀ (vs : List Value) (cs : Array Value) (k : Nat), (setAt cs k vs).size = cs.size
  | [], _, _ => rfl
  | v :: vs, cs, k => by unfold setAt; rw [setAt_size vs]; simp
theorem setAt_list : ∀ (vs : List Value) (cs : Array Value) (k : Nat), k + vs.length ≤ cs.size → (setAt cs k vs).toList = cs.toList.take k ++ (vs ++ cs.toList.drop (k + vs.length))
  | [], cs, k, _ => by simp [setAt]
  | v :: vs, cs, k, h => by
    unfold setAt
    simp only [List.length_cons] at h
    rw [setAt_list vs _ _ (by simp; omega), Array.toList_setIfInBounds]
    have hk : k < cs.toList.length := by simp; omega
    rw [List.take_add_one, List.getElem?_set_self hk, List.take_set_of_le (Nat.le_refl k)]
    rw [List.drop_set_of_lt (by omega)]
    simp only [Option.toList_some, List.append_assoc, List.cons_append, List.nil_append, List.length_cons]
    rw [show k + 1 + vs.length = k + (vs.length + 1) from by omega]
theorem run_storeMid : ∀ (vs : List Value) (i : Nat) (w : World) (b o : Nat) (U : TypeId) (cs : Array Value), Blk w b cs U → o + i + vs.length ≤ cs.size → (∀ u ∈ vs, u.oneCell' = true) →
    ∃ w', (storeCells ⟨b, o, none⟩ vs i).run P w = .ok () w' ∧ Keep [b] w w' ∧ Blk w' b (setAt cs (o + i) vs) U ∧ w'.heap.size = w.heap.size
  | [], i, w, b, o, U, cs, hb, _, _ => ⟨w, rfl, Keep.refl _ _, hb, rfl⟩
  | v :: vs, i, w, b, o, U, cs, hb, hs, h1 => by
    simp only [List.length_cons] at hs
    have hil : o + i < cs.size := by omega
    have hst : (store ((⟨b, o, none⟩ : Addr).add i) v).run P w = .ok () (w.setCell ⟨b, o + i, none⟩ v) := by
      rw [add_mk, run_store P w _ v _ (h1 v (by simp)), hb.cell, Array.getElem?_eq_getElem hil, hb.frozen]
      simp
    obtain ⟨w', hr, hk, hb', hz⟩ := run_storeMid vs (i + 1) (w.setCell ⟨b, o + i, none⟩ v) b o U (cs.setIfInBounds (o + i) v) (hb.set (o + i) v) (by simp; omega) (fun u hu => h1 u (by simp [hu]))
    refine ⟨w', ?_, (Keep.setCell w b (o + i) v).trans hk, hb', by rw [hz]; simp [World.setCell]⟩
    simp only [storeCells, Sem.run_bind, hst, Result.andThen_ok]
    exact hr
theorem flatten_set_row {α : Type} {sz : Nat} : ∀ {rows : List (List α)} {i : Nat} {row : List α}, (∀ r, r ∈ rows → r.length = sz) → i < rows.length → row.length = sz → (rows.set i row).flatten = rows.flatten.take (i * sz) ++ (row ++ rows.flatten.drop (i * sz + sz))
  | r :: rows, 0, row, h, _, hr => by
    have h0 : r.length = sz := h r (by simp)
    simp [← h0]
  | r :: rows, i + 1, row, h, hi, hr => by
    have h0 : r.length = sz := h r (by simp)
    have ih := flatten_set_row (rows := rows) (i := i) (row := row) (fun r hr => h r (by simp [hr])) (by simpa using hi) hr
    rw [List.set_cons_succ, List.flatten_cons, List.flatten_cons, ih]
    have e1 : (i + 1) * sz = r.length + i * sz := by rw [h0, Nat.add_mul]; omega
    have e2 : (i + 1) * sz + sz = r.length + (i * sz + sz) := by omega
    rw [e2, e1, List.take_length_add_append, List.drop_length_add_append, List.append_assoc]
theorem RepL.take {L : List Nat} {w : World} : ∀ {k : Nat} {vs : List Value} {cs : List C}, RepL L w vs cs → RepL L w (vs.take k) (cs.take k)
  | 0, _, _, _ => by simp [RepL]
  | _ + 1, [], [], _ => trivial
  | _ + 1, _ :: _, _ :: _, h => ⟨h.1, RepL.take h.2⟩
theorem RepL.drop {L : List Nat} {w : World} : ∀ {k : Nat} {vs : List Value} {cs : List C}, RepL L w vs cs → RepL L w (vs.drop k) (cs.drop k)
  | 0, _, _, h => h
  | _ + 1, [], [], _ => trivial
  | k + 1, _ :: _, _ :: _, h => RepL.drop (k := k) h.2
/-- An element is stored. -/
theorem ow_storeG {T sz bytes : Nat} {z v : Value} {vs : List Value} {row : List C} {B : Nat} {L : List Nat} {E gb : Nat} {N c : Nat} {rows : List (List C)} {b o i : Nat} (hTI : TI P T sz bytes z) (hg : gate ops e g = true)
    (hx : ev e x = .pointer (some ⟨b, o, none⟩)) (hy : ev e y = v) (hv : v.cells = vs.toArray) (ho : o = i * sz) (hO : Gr B L w E sz (.slice (some ⟨b, 0, none⟩) N c) (some gb) rows) (hi : i < rows.length) (h1 : vs.all Value.oneCell' = true)
    (hrl : row.length = sz) (hr : RepL (gb :: L) w vs row)
    (k : ∀ w', Keep [gb] w w' → w'.heap.size = w.heap.size → Gr B L w' E sz (.slice (some ⟨b, 0, none⟩) N c) (some gb) (rows.set i row) → OW P n ops K rest e w') :
    OW P n ops K (⟨none, .store T x y, ty, pos, after, g⟩ :: rest) e w := by
  subst ho
  obtain ⟨xs, ⟨⟨hxl, h | ⟨b', cap, cur, hgb, hvv, hb, hnc, hcm, hcs, ht⟩⟩, hrep, hrow, hout⟩⟩ := hO.own
  · obtain ⟨h, _⟩ := h; cases h
  · cases hvv; cases hgb
    have hvl : vs.length = sz := by rw [hr.length, hrl]
    have hle : (i + 1) * sz ≤ rows.length * sz := Nat.mul_le_mul_right _ hi
    have hle2 : rows.length * sz ≤ c * sz := Nat.mul_le_mul_right _ hnc
    rw [Nat.add_mul, Nat.one_mul] at hle
    obtain ⟨w', hrun, hk, hb', hz⟩ := run_storeMid (P := P) vs 0 w gb (i * sz) E cur hb (by rw [hcs, hvl]; omega) (fun u hu => List.all_eq_true.1 h1 u hu)
    rw [Nat.add_zero] at hb'
    refine ow_unit hg (w' := w') (by
      simp [execOp, Instr.storeAt, Instr.sureAddr, hx, hy, storeVar, hv, hTI.run_size, hvl, hrun]) (k w' hk hz ⟨⟨xs.take (i * sz) ++ (vs ++ xs.drop (i * sz + sz)), ⟨⟨?_, .inr ⟨gb, c, _, rfl, by simp, hb', by simpa using hnc, hcm, by rw [setAt_size]; exact hcs, ?_⟩⟩, ?_, ?_, hout⟩⟩, hO.low, fun x hx => by rw [hz]; exact hO.lim x hx, by rw [hz]; exact hO.bsz⟩)
    · rw [List.length_append, List.length_append, List.length_take, List.length_drop, List.length_set, hxl, hvl]; omega
    · rw [setAt_list _ _ _ (by rw [hcs, hvl]; omega), List.length_set, ← ht, hvl, List.take_append, List.take_append]
      simp only [List.length_take, Array.length_toList, hcs, hvl, List.take_take, List.drop_take]
      rw [Nat.min_eq_right (show i * sz ≤ rows.length * sz by omega), Nat.min_eq_left (show i * sz ≤ rows.length * sz by omega), Nat.min_eq_left (show i * sz ≤ c * sz by omega), List.take_of_length_le (l := vs) (by omega)]
      rw [show rows.length * sz - i * sz - sz = rows.length * sz - (i * sz + sz) from by omega]
    · rw [flatten_set_row hrow hi hrl]
      refine RepL.append (RepL.keep hrep.take (hk.mono (by simp))) (RepL.append (hr.keep (hk.mono (by simp))) (RepL.keep hrep.drop (hk.mono (by simp))))
    · intro r hr'
      rcases List.mem_or_eq_of_mem_set hr' with h | h
      · exact hrow r h
      · rw [h]; exact hrl

/-! ### Slices that are appended whole -/
theorem repL_flat {L : List Nat} {w : World} : ∀ {rows : List (List C)} {f : Nat → List Value}, (∀ i row, rows[i]? = some row → RepL L w (f i) row) → RepL L w ((List.range rows.length).map f).flatten rows.flatten
  | [], _, _ => trivial
  | r :: rows, f, h => by
    rw [List.length_cons, List.range_succ_eq_map, List.map_cons, List.map_map, List.flatten_cons, List.flatten_cons]
    exact (h 0 r rfl).append (repL_flat (f := f ∘ Nat.succ) fun i row hi => h (i + 1) row (by simpa using hi))
theorem cellsAt_append {w : World} {b off : Nat} {xs ys : List Value} (h : CellsAt w b off xs) (k : CellsAt w b (off + xs.length) ys) : CellsAt w b off (xs ++ ys) := fun j v hj => by
  rcases Nat.lt_or_ge j xs.length with hl | hl
  · exact h j v (by rwa [List.getElem?_append_left hl] at hj)
  · rw [List.getElem?_append_right hl] at hj
    have := k (j - xs.length) v hj
    rwa [show off + xs.length + (j - xs.length) = off + j from by omega] at this
theorem cellsAt_flat {w : World} {b sz : Nat} : ∀ {n off : Nat} {f : Nat → List Value}, (∀ i, i < n → (f i).length = sz ∧ CellsAt w b (off + i * sz) (f i)) → CellsAt w b off ((List.range n).map f).flatten
  | 0, _, _, _ => fun j v hj => by simp at hj
  | n + 1, off, f, h => by
    rw [List.range_succ_eq_map, List.map_cons, List.map_map, List.flatten_cons]
    obtain ⟨h1, h2⟩ := h 0 (by omega)
    rw [Nat.zero_mul, Nat.add_zero] at h2
    refine cellsAt_append h2 (cellsAt_flat (sz := sz) fun i hi => ?_)
    obtain ⟨h3, h4⟩ := h (i + 1) (by omega)
    refine ⟨h3, ?_⟩
    rw [h1]
    rwa [show off + (i + 1) * sz = off + sz + i * sz from by rw [Nat.add_mul]; omega] at h4
/-- All cells of a slice. -/
theorem rep_cells {L : List Nat} {w : World} {a : Option Addr} {len cap size : Nat} {rows : List (List C)} (h : Rep L w (.slice a len cap) (.sl size rows)) (hp : 0 < rows.length) :
    ∃ b off vs, a = some ⟨b, off, none⟩ ∧ b < w.heap.size ∧ b ∉ L ∧ CellsAt w b off vs ∧ RepL L w vs rows.flatten ∧ len = rows.length ∧ ∀ row, row ∈ rows → row.length = size := by
  cases h with
  | nil => simp at hp
  | sl b off len cap size rows f hl hc hb hL hs hcell hrep =>
    refine ⟨b, off, ((List.range rows.length).map fun i => (List.range size).map (f i)).flatten, rfl, hb, hL, cellsAt_flat (sz := size) fun i hi => ⟨by simp, fun j v hj => ?_⟩, repL_flat fun i row hi => ?_, hl.symm, hs⟩
    · have hjs : j < size := by have := (List.getElem?_eq_some_iff.1 hj).1; simpa using this
      have e : f i j = v := by simpa [List.getElem?_map, hjs] using hj
      rw [← e]; exact hcell i j (by omega) hjs
    · have hrow := hs row (List.mem_of_getElem? hi)
      refine RepL.of (by simp [hrow]) fun j v c hv hc' => ?_
      have hjs : j < size := by have := (List.getElem?_eq_some_iff.1 hv).1; simpa using this
      have e : f i j = v := by simpa [List.getElem?_map, hjs] using hv
      rw [← e]; exact hrep i j row c hi hc'
theorem run_append0 {t ty T : TypeId} {i : TypeInfo} (ht : P.underlying t = some (.slice T)) (hi : P.info? T = some i)
    {a : Option Addr} {m cap : Nat} (h : m ≤ cap) {a2 : Option Addr} {c2 : Nat} :
    (Builtin.append_ #[t, t] ty #[.slice a m cap, .slice a2 0 c2]).run P w = .ok (.slice a m cap) w := by
  have hf : (Builtin.firstCells i.size 0 (.slice a2 0 c2)).run P w = .ok #[] w := by
    cases a2 with
    | none => simp [Builtin.firstCells]
    | some b => exact run_firstCells_some (P := P) (w := w) i.size 0 b 0 c2 [] (by simp) (by simp)
  cases a <;> simp [Builtin.append_, run_underlying ht, sizeOf, typeInfo, hi, Builtin.lenOf, h, hf, storeCells]
/-- A whole slice behind others. -/
theorem ow_growAll {B : Nat} {L : List Nat} {t E sz bytes : Nat} {z : Value} {v : Value} {gb : Option Nat} {rows new : List (List C)} {a2 : Option Addr} {n2 c2 : Nat} (hT : P.underlying t = some (.slice E)) (hE : TI P E sz bytes z) (hg : gate ops e g = true) (hd : okDst n dst = true) (hz : Nat.beq z.cells.size sz = true) (hby : Nat.ble bytes 1000 = true)
    (hx : ev e x = v) (hy : ev e y = .slice a2 n2 c2) (hO : Gr B L w E sz v gb rows) (hr : Rep (gb.toList ++ L) w (.slice a2 n2 c2) (.sl sz new)) (h1 : ∀ row, row ∈ new → ∀ c, c ∈ row → ∀ v, c = .val v → v.oneCell' = true)
    (hn : rows.length + new.length < 100000000)
    (k : ∀ a' cap' g' w', Gr B L w' E sz (.slice a' (rows.length + new.length) cap') g' (rows ++ new) → Keep gb.toList w w' → OW P n ops K rest (put? e dst (.slice a' (rows.length + new.length) cap')) w') :
    OW P n ops K (⟨dst, .call { callee := .builtin .append, args := #[x, y], argTypes := #[t, t] }, ty, pos, after, g⟩ :: rest) e w := by
  obtain ⟨xs, hR⟩ := hO.own
  have hby' : bytes ≤ 1000 := Nat.le_of_ble_eq_true hby
  by_cases hp : 0 < new.length
  · obtain ⟨b, off, vs, rfl, hb, hbL, hc, hrv, rfl, hrow⟩ := rep_cells hr hp
    refine ow_app hT hE hg hd hz hx hR hy rfl hp hrow hc ?_ hrv hO.lim (Nat.le_trans (Nat.mul_le_mul (show rows.length + new.length ≤ 100000000 by omega) (show bytes + 1 ≤ 1001 by omega)) (by decide)) ?_
    · refine RepL.allOne hrv fun c hc v hv => ?_
      obtain ⟨row, h2, h3⟩ := List.mem_flatten.1 hc
      exact h1 row h2 c h3 v hv
    · intro a' cap' g' w' hO' hk hg'
      refine k a' cap' g' w' ⟨⟨_, hO'⟩, fun b hb => ?_, fun x hx => Nat.lt_of_lt_of_le (hO.lim x hx) hk.size, Nat.le_trans hO.bsz hk.size⟩ hk
      rcases hg' with h | h
      · rw [h] at hb; exact hO.low b hb
      · rw [h] at hb; cases hb; exact hO.bsz
  · have hnew : new = [] := List.length_eq_zero_iff.1 (by omega)
    subst hnew
    obtain ⟨a, cap, rfl⟩ := hR.len
    have h20 : n2 = 0 := by
      obtain ⟨_, _, he, _⟩ := rep_len hr
      cases he; rfl
    subst h20
    have hcap : rows.length ≤ cap := by
      rcases hR.own.2 with ⟨h, h2, _⟩ | ⟨_, _, _, _, h, _, h2, _⟩
      · rw [h2]; omega
      · cases h; exact h2
    obtain ⟨i, hi, _, _, _⟩ := hE.get
    have hrun := run_append0 (P := P) (w := w) (t := t) (ty := ty) hT hi (a := a) (m := rows.length) (cap := cap) hcap (a2 := a2) (c2 := c2)
    refine ow_val hg hd (v := .slice a rows.length cap) (w' := w) (by
      simp only [execOp, resolve, invoke, builtin, Sem.run_bind, Sem.run_pure, Result.andThen_ok, List.map_toArray, List.map_cons, List.map_nil, hx, hy, hrun]) ?_
    have := k a cap gb w (by simpa using hO) (Keep.refl _ _)
    simpa using this
end
end Go.Proofs.YtnkjgoholocliaaGreatDoor

namespace Go.Proofs.YtnkjgoholocliaaGreatDoor
open Go

theorem own_blk {w : World} {b T sz N : Nat} {xs : List Value} (hb : Blk w b xs.toArray T) (hl : xs.length = N * sz) (hN : N ≤ 100000000) : Own w T sz (.slice (some ⟨b, 0, none⟩) N N) (some b) N xs :=
  ⟨hl, .inr ⟨b, N, _, rfl, rfl, hb, Nat.le_refl _, by unfold maxLen; omega, by simpa using hl, by rw [← hl]; simp⟩⟩
theorem gr_blk {B : Nat} {L : List Nat} {w : World} {b T sz N : Nat} {rows : List (List C)} {xs : List Value} (hb : Blk w b xs.toArray T) (hr : RepL (b :: L) w xs rows.flatten) (hrow : ∀ r, r ∈ rows → r.length = sz) (hN : N = rows.length) (hm : N ≤ 100000000) (hB : B ≤ b) (hbL : b ∉ L) (hL : ∀ x, x ∈ L → x < w.heap.size) :
    Gr B L w T sz (.slice (some ⟨b, 0, none⟩) N N) (some b) rows := by
  subst hN
  refine ⟨⟨xs, ⟨own_blk hb (by rw [hr.length, flatten_len hrow]) hm, hr, hrow, fun x hx => by cases hx; exact hbL⟩⟩, fun x hx => by cases hx; exact hB, hL, Nat.le_trans hB (Nat.le_of_lt hb.lt)⟩
theorem encs_one {ts : List Tree} : ∀ row, row ∈ encs ts → ∀ c, c ∈ row → ∀ v, c = C.val v → v.oneCell' = true := by
  intro row hr c hc v hv
  rw [encs_eq] at hr
  obtain ⟨t, _, rfl⟩ := List.mem_map.1 hr
  cases t
  rw [Tree.enc] at hc
  simp only [List.mem_cons, List.not_mem_nil, or_false] at hc
  rcases hc with h | h
  · rw [h] at hv; cases hv; rfl
  · rw [h] at hv; cases hv
end Go.Proofs.YtnkjgoholocliaaGreatDoor

namespace Go.Proofs.YtnkjgoholocliaaGreatDoor
open Go

/-! ### Cells of one block that are written -/
def KW (b : Nat) (T : TypeId) (ws : List (Nat × Value)) (w w' : World) : Prop := Keep [b] w w' ∧ ∀ cs, Blk w b cs T → ∃ cs', Blk w' b cs' T ∧ cs'.size = cs.size ∧ ∀ j : Nat, cs'[j]? = cs[j]? ∨ ∃ v, (j, v) ∈ ws ∧ cs'[j]? = some v
theorem kept_kw (b : Nat) (T : TypeId) (ws : List (Nat × Value)) : Kept (KW b T ws) :=
  ⟨fun _ => ⟨Keep.refl _ _, fun cs h => ⟨cs, h, rfl, fun _ => .inl rfl⟩⟩,
   fun h k => ⟨h.1.trans k.1, fun cs hb => by
     obtain ⟨cs', h1, h2, h3⟩ := h.2 cs hb
     obtain ⟨cs2, k1, k2, k3⟩ := k.2 cs' h1
     exact ⟨cs2, k1, k2.trans h2, fun j => by
       rcases k3 j with e | e
       · rcases h3 j with e2 | ⟨v, hv, e2⟩
         · exact .inl (e.trans e2)
         · exact .inr ⟨v, hv, e.trans e2⟩
       · exact .inr e⟩⟩,
   fun h => ⟨h.any, fun cs hb => ⟨cs, hb.keep h (by simp), rfl, fun _ => .inl rfl⟩⟩⟩
def PutC (b : Nat) (T : TypeId) (ws : List (Nat × Value)) (w : World) : Prop := ∃ cs, Blk w b cs T ∧ ∀ j v, (j, v) ∈ ws → cs[j]? = some v
def Functional (ws : List (Nat × Value)) : Prop := ∀ j v v', (j, v) ∈ ws → (j, v') ∈ ws → v = v'
theorem PutC.stab {b : Nat} {T : TypeId} {ws : List (Nat × Value)} (hf : Functional ws) {w w' : World} (h : PutC b T ws w) (k : KW b T ws w w') : PutC b T ws w' := by
  obtain ⟨cs, hb, hc⟩ := h
  obtain ⟨cs', h1, _, h3⟩ := k.2 cs hb
  refine ⟨cs', h1, fun j v hj => ?_⟩
  rcases h3 j with e | ⟨v', hv', e⟩
  · rw [e]; exact hc j v hj
  · rw [e, hf j v v' hj hv']
theorem setAt_get {cs : Array Value} {k : Nat} {vs : List Value} (h : k + vs.length ≤ cs.size) (j : Nat) : (setAt cs k vs)[j]? = if k ≤ j ∧ j < k + vs.length then vs[j - k]? else cs[j]? := by
  rw [← Array.getElem?_toList, setAt_list _ _ _ h, List.getElem?_append, List.getElem?_append, List.getElem?_take, List.getElem?_drop, List.length_take, Array.length_toList, Nat.min_eq_left (by omega)]
  by_cases h1 : j < k
  · rw [if_pos h1, if_pos h1, if_neg (by omega)]; simp
  · rw [if_neg h1]
    by_cases h2 : j < k + vs.length
    · rw [if_pos (by omega), if_pos ⟨by omega, h2⟩]
    · rw [if_neg (by omega), if_neg (by omega)]
      have : k + vs.length + (j - k - vs.length) = j := by omega
      rw [this]; simp
/-- What is written by a row of values from cell o on. -/
def rowAt (o : Nat) : List Value → List (Nat × Value)
  | [] => []
  | v :: vs => (o, v) :: rowAt (o + 1) vs
theorem rowAt_mem : ∀ {vs : List Value} {o j : Nat} {v : Value}, (j, v) ∈ rowAt o vs ↔ o ≤ j ∧ vs[j - o]? = some v
  | [], o, j, v => by simp [rowAt]
  | u :: us, o, j, v => by
    rw [rowAt, List.mem_cons, rowAt_mem]
    constructor
    · rintro (h | ⟨h1, h2⟩)
      · cases h; simp
      · refine ⟨by omega, ?_⟩
        rw [show j - o = (j - (o + 1)) + 1 from by omega]; simpa using h2
    · rintro ⟨h1, h2⟩
      rcases Nat.eq_or_lt_of_le h1 with h | h
      · subst h; left; simp at h2; rw [h2]
      · right
        refine ⟨h, ?_⟩
        rw [show j - o = (j - (o + 1)) + 1 from by omega] at h2; simpa using h2
theorem rowAt_fun (o : Nat) (vs : List Value) : Functional (rowAt o vs) := fun j v v' h h' => by
  have h1 := (rowAt_mem.1 h).2
  have h2 := (rowAt_mem.1 h').2
  rw [h1] at h2; injection h2
theorem putC_of {b : Nat} {T : TypeId} {o : Nat} {vs : List Value} {cs : Array Value} {w : World} (h : Blk w b (setAt cs o vs) T) (ho : o + vs.length ≤ cs.size) : PutC b T (rowAt o vs) w :=
  ⟨_, h, fun j v hj => by
    obtain ⟨h1, h2⟩ := rowAt_mem.1 hj
    have hl := (List.getElem?_eq_some_iff.1 h2).1
    rw [setAt_get ho, if_pos ⟨h1, by omega⟩]; exact h2⟩
theorem blk_inj {w : World} {b : Nat} {T : TypeId} {cs cs' : Array Value} (h : Blk w b cs T) (h' : Blk w b cs' T) : cs = cs' := by
  unfold Blk at h h'
  rw [h] at h'
  injection h' with e; injection e
section
variable {P : Program} {n : Nat} {ops : Array Oper} {K : Env → World → Prop} {rest : List Oper} {e : Env} {w : World}
  {dst : Option Nat} {ty : TypeId} {pos : String} {after : Array Edge} {g : Option (Nat × Bool)} {x y : Operand}
/-- A row of values is stored somewhere in a block. -/
theorem ow_storeM {T U sz bytes : Nat} {z v : Value} {vs : List Value} {b o : Nat} {cs : Array Value} (hTI : TI P T sz bytes z) (hg : gate ops e g = true) (hx : ev e x = .pointer (some ⟨b, o, none⟩)) (hy : ev e y = v) (hv : v.cells = vs.toArray) (hl : Nat.beq vs.length sz = true) (h1 : vs.all Value.oneCell' = true)
    (hb : Blk w b cs U) (ho : o + vs.length ≤ cs.size)
    (k : ∀ w', Keep [b] w w' → Blk w' b (setAt cs o vs) U → KW b U (rowAt o vs) w w' → w'.heap.size = w.heap.size → OW P n ops K rest e w') :
    OW P n ops K (⟨none, .store T x y, ty, pos, after, g⟩ :: rest) e w := by
  have hvl : vs.length = sz := Nat.eq_of_beq_eq_true hl
  obtain ⟨w', hrun, hk, hb', hz⟩ := run_storeMid (P := P) vs 0 w b o U cs hb (by omega) (fun u hu => List.all_eq_true.1 h1 u hu)
  rw [Nat.add_zero] at hb'
  refine ow_unit hg (w' := w') (by
    simp [execOp, Instr.storeAt, Instr.sureAddr, hx, hy, storeVar, hv, hTI.run_size, hvl, hrun]) (k w' hk hb' ⟨hk, fun cs2 h2 => ?_⟩ hz)
  have e : cs2 = cs := by
    unfold Blk at h2 hb
    rw [h2] at hb
    injection hb with h; injection h
  subst e
  refine ⟨_, hb', setAt_size _ _ _, fun j => ?_⟩
  rw [setAt_get ho]
  split
  · rename_i h
    obtain ⟨v, hv⟩ : ∃ v, vs[j - o]? = some v := ⟨vs[j - o]'(by omega), List.getElem?_eq_getElem (by omega)⟩
    exact .inr ⟨v, rowAt_mem.2 ⟨h.1, hv⟩, hv⟩
  · exact .inl rfl
/-- Element i of an array. -/
theorem ow_indexAddrA {T E : TypeId} {N sz bytes : Nat} {z : Value} {b o i : Nat} {ki : IntKind} (hT : P.underlying T = some (.array N E)) (hE : TI P E sz bytes z) (hg : gate ops e g = true) (hd : okDst n dst = true)
    (hx : ev e x = .pointer (some ⟨b, o, none⟩)) (hy : ev e y = .int ki (i : Int)) (hi : i < N)
    (k : OW P n ops K rest (put? e dst (.pointer (some ⟨b, o + i * sz, none⟩))) w) : OW P n ops K (⟨dst, .indexAddr T x y, ty, pos, after, g⟩ :: rest) e w :=
  ow_val hg hd (by
    have h2 : ¬ N ≤ i := by omega
    simp [execOp, Instr.indexAt, hx, hy, asIntOf, run_underlying hT, Instr.sureAddr, h2, hE.run_size, add_mk]) k
end

section
variable {P : Program} {n : Nat} {ops : Array Oper} {K : Env → World → Prop} {rest : List Oper} {e : Env} {w : World}
  {dst : Option Nat} {ty : TypeId} {pos : String} {after : Array Edge} {g : Option (Nat × Bool)} {x y : Operand}
/-- A bound method. -/
theorem ow_makeFuncF {f : FuncId} {xs : List Operand} {vs : List Value} (hg : gate ops e g = true) (hd : okDst n dst = true) (hv : xs.map (ev e) = vs)
    (kk : OW P n ops K rest (put? e dst (.func (.func f) vs.toArray #[])) w) : OW P n ops K (⟨dst, .makeFunc (.func f) xs.toArray #[], ty, pos, after, g⟩ :: rest) e w :=
  ow_val hg hd (by subst hv; simp [execOp, Instr.makeFunc]) kk
/-- A call of a bound method: what it is bound to stands ahead of the arguments. -/
theorem ow_callvF {c : Operand} {f : FuncId} {first : List Value} {xs : List Operand} {ats : Array TypeId} {S : Value → World → Prop} (hg : gate ops e g = true) (hd : okDst n dst = true) (hc : ev e c = .func (.func f) first.toArray #[]) (h : Ret P f (first ++ xs.map (ev e)) w S)
    (k : ∀ v w', S v w' → OW P n ops K rest (put? e dst v) w') : OW P n ops K (⟨dst, .call { callee := .value c, args := xs.toArray, argTypes := ats }, ty, pos, after, g⟩ :: rest) e w := fun a ha Q => by
  unfold wpList
  rw [if_pos (by rw [gate_ok ha]; exact hg)]
  refine .inl ?_
  unfold Oper.wp
  have hrun : (execOp (ev e) ⟨dst, .call { callee := .value c, args := xs.toArray, argTypes := ats }, ty, pos, after, g⟩).run P w = .ok (.enter f (first ++ xs.map (ev e)).toArray) w := by
    simp only [execOp, resolve, hc, Deferred.ofValue, Sem.run_bind, Sem.run_pure, Result.andThen_ok, invoke]
    simp [run_call h.1]
  rw [ha.eval, hrun, Oper.upon_enter]
  exact Calls.mono h.2 fun x w' ⟨v, hx, hs⟩ => by subst hx; exact k v w' hs _ (ha.put? hd v) Q
end

/-! ### A step that leads from one state of memory to another, once or more often -/
def KG (b : Nat) (A B : World → Prop) (w w' : World) : Prop := Keep [b] w w' ∧ (A w ∨ B w → A w' ∨ B w') ∧ (B w → B w')
theorem kept_kg {b : Nat} {A B : World → Prop} (hA : ∀ w w', A w → Keep [] w w' → A w') (hB : ∀ w w', B w → Keep [] w w' → B w') : Kept (KG b A B) :=
  ⟨fun _ => ⟨Keep.refl _ _, id, id⟩, fun h k => ⟨h.1.trans k.1, fun x => k.2.1 (h.2.1 x), fun x => k.2.2 (h.2.2 x)⟩,
   fun h => ⟨h.any, fun x => x.imp (fun x => hA _ _ x h) (fun x => hB _ _ x h), fun x => hB _ _ x h⟩⟩

/-! ### The checker's block -/
structure ChkC (L : List Nat) (w : World) (cs : Array Value) (st : TS) (opens : Nat) (fv : Value) : Prop where
  size : cs.size = 122
  len : st.length = 40
  op : cs[120]? = some (.int .i64 (opens : Int))
  fn : cs[121]? = some fv
  has : ∀ r, r < 40 → cs[80 + r]? = some (.bool (st.getD r none).isSome)
  ty : ∀ r, r < 40 → ∃ t a c, cs[r * 2]? = some (str t.atom) ∧ cs[r * 2 + 1]? = some (.slice a t.parts.length c) ∧ RTree L w (.agg #[str t.atom, .slice a t.parts.length c]) t ∧ ∀ t', st.getD r none = some t' → t = t'
structure Chk (L : List Nat) (w : World) (b : Nat) (T : TypeId) (st : TS) (opens : Nat) (fv : Value) : Prop where
  ex : ∃ cs : Array Value, Blk w b cs T ∧ ChkC (b :: L) w cs st opens fv
  out : b ∉ L
theorem ChkC.keep {L L' : List Nat} {w w' : World} {cs : Array Value} {st : TS} {opens : Nat} {fv : Value} (h : ChkC L w cs st opens fv) (k : Keep L' w w') (hL : ∀ x, x ∈ L' → x ∈ L) : ChkC L w' cs st opens fv :=
  ⟨h.size, h.len, h.op, h.fn, h.has, fun r hr => by obtain ⟨t, a, c, h1, h2, h3, h4⟩ := h.ty r hr; exact ⟨t, a, c, h1, h2, RepA.keep h3 (k.mono hL), h4⟩⟩
theorem Chk.sto {L L' : List Nat} {w w' : World} {b : Nat} {T : TypeId} {st : TS} {opens : Nat} {fv : Value} (h : Chk L w b T st opens fv) (k : Keep L' w w') (hL : ∀ x, x ∈ L' → x ∈ L) : Chk L w' b T st opens fv := by
  obtain ⟨cs, hb, hc⟩ := h.ex
  exact ⟨⟨cs, hb.keep k (fun hx => h.out (hL b hx)), hc.keep k (fun x hx => by simp [hL x hx])⟩, h.out⟩
theorem Chk.ext {L : List Nat} {w w' : World} {b : Nat} {T : TypeId} {st : TS} {opens : Nat} {fv : Value} (h : Chk L w b T st opens fv) (k : Keep [] w w') : Chk L w' b T st opens fv := h.sto k (by simp)
theorem Chk.lt {L : List Nat} {w : World} {b : Nat} {T : TypeId} {st : TS} {opens : Nat} {fv : Value} (h : Chk L w b T st opens fv) : b < w.heap.size := by obtain ⟨cs, hb, _⟩ := h.ex; exact hb.lt
theorem Chk.fresh {L L' : List Nat} {w : World} {b : Nat} {T : TypeId} {st : TS} {opens : Nat} {fv : Value} (h : Chk L w b T st opens fv) (hL : ∀ x, x ∈ L' → x ∈ L ∨ w.heap.size ≤ x) : Chk L' w b T st opens fv := by
  obtain ⟨cs, hb, hc⟩ := h.ex
  refine ⟨⟨cs, hb, hc.size, hc.len, hc.op, hc.fn, hc.has, fun r hr => ?_⟩, fun hx => ?_⟩
  · obtain ⟨t, a, c, h1, h2, h3, h4⟩ := hc.ty r hr
    exact ⟨t, a, c, h1, h2, RepA.fresh h3 (fun x hx => by
      rcases List.mem_cons.1 hx with rfl | hx
      · exact .inl (by simp)
      · rcases hL x hx with h | h
        · exact .inl (by simp [h])
        · exact .inr h), h4⟩
  · rcases hL b hx with h1 | h1
    · exact h.out h1
    · have := hb.lt; omega
theorem Chk.grow {L : List Nat} {w : World} {b : Nat} {T : TypeId} {st : TS} {opens : Nat} {fv : Value} (h : Chk L w b T st opens fv) : Chk (w.heap.size :: L) w b T st opens fv := h.fresh grow_mem
theorem Chk.weak {L L' : List Nat} {w : World} {b : Nat} {T : TypeId} {st : TS} {opens : Nat} {fv : Value} (h : Chk L w b T st opens fv) (hL : ∀ x, x ∈ L' → x ∈ L) : Chk L' w b T st opens fv := h.fresh fun x hx => .inl (hL x hx)
/-- What a register holds. -/
theorem Chk.reg {L : List Nat} {w : World} {b : Nat} {T : TypeId} {st : TS} {opens : Nat} {fv : Value} (h : Chk L w b T st opens fv) {r : Nat} (hr : r < 40) :
    ∃ t a c, CellsAt w b (0 + 0 + r * 2) [str t.atom, .slice a t.parts.length c] ∧ CellsAt w b (0 + 80 + r * 1) [.bool (st.getD r none).isSome] ∧ RTree (b :: L) w (.agg #[str t.atom, .slice a t.parts.length c]) t ∧ ∀ t', st.getD r none = some t' → t = t' := by
  obtain ⟨cs, hb, hc⟩ := h.ex
  obtain ⟨t, a, c, h1, h2, h3, h4⟩ := hc.ty r hr
  refine ⟨t, a, c, fun j v hj => ?_, fun j v hj => ?_, h3, h4⟩
  · rw [hb.cell]
    match j, hj with
    | 0, hj => simp only [List.getElem?_cons_zero, Option.some.injEq] at hj; subst hj; rw [← h1]; congr 1; omega
    | 1, hj => simp only [List.getElem?_cons_succ, List.getElem?_cons_zero, Option.some.injEq] at hj; subst hj; rw [← h2]; congr 1; omega
    | j + 2, hj => simp at hj
  · rw [hb.cell]
    match j, hj with
    | 0, hj => simp only [List.getElem?_cons_zero, Option.some.injEq] at hj; subst hj; rw [← hc.has r hr]; congr 1; omega
    | j + 1, hj => simp at hj
/-- One register, as it lies in memory. -/
structure RegAt (L : List Nat) (w : World) (b r : Nat) (o : Bool) (t : Tree) (a : Option Addr) (c : Nat) : Prop where
  c1 : CellsAt w b (0 + 0 + r * 2) [str t.atom, .slice a t.parts.length c]
  c2 : CellsAt w b (0 + 80 + r * 1) [.bool o]
  tree : RTree (b :: L) w (.agg #[str t.atom, .slice a t.parts.length c]) t
  out : b ∉ L
  lt : b < w.heap.size
theorem Chk.regAt {L : List Nat} {w : World} {b : Nat} {T : TypeId} {st : TS} {opens : Nat} {fv : Value} (h : Chk L w b T st opens fv) {r : Nat} (hr : r < 40) :
    ∃ t a c, RegAt L w b r (st.getD r none).isSome t a c ∧ ∀ t', st.getD r none = some t' → t = t' := by
  obtain ⟨t, a, c, h1, h2, h3, h4⟩ := h.reg hr
  exact ⟨t, a, c, ⟨h1, h2, h3, h.out, h.lt⟩, h4⟩
theorem RegAt.sto {L L' : List Nat} {w w' : World} {b r : Nat} {o : Bool} {t : Tree} {a : Option Addr} {c : Nat} (h : RegAt L w b r o t a c) (k : Keep L' w w') (hL : ∀ x, x ∈ L' → x ∈ L) : RegAt L w' b r o t a c :=
  have hb : b ∉ L' := fun hx => h.out (hL b hx)
  ⟨fun j v hj => (World.cell?_of_block (k.block b h.lt hb)).trans (h.c1 j v hj), fun j v hj => (World.cell?_of_block (k.block b h.lt hb)).trans (h.c2 j v hj), RepA.keep h.tree (k.mono fun x hx => by simp [hL x hx]), h.out, Nat.lt_of_lt_of_le h.lt k.size⟩
theorem RegAt.ext {L : List Nat} {w w' : World} {b r : Nat} {o : Bool} {t : Tree} {a : Option Addr} {c : Nat} (h : RegAt L w b r o t a c) (k : Keep [] w w') : RegAt L w' b r o t a c := h.sto k (by simp)
theorem RegAt.grow {L : List Nat} {w : World} {b r : Nat} {o : Bool} {t : Tree} {a : Option Addr} {c : Nat} (h : RegAt L w b r o t a c) : RegAt (w.heap.size :: L) w b r o t a c :=
  ⟨h.c1, h.c2, RepA.fresh h.tree (fun x hx => by
    rcases List.mem_cons.1 hx with rfl | hx
    · exact .inl (by simp)
    · rcases List.mem_cons.1 hx with rfl | hx
      · exact .inr (Nat.le_refl _)
      · exact .inl (by simp [hx])), fun hx => by
    rcases List.mem_cons.1 hx with h1 | h1
    · have := h.lt; omega
    · exact h.out h1, h.lt⟩
theorem Chk.opAt {L : List Nat} {w : World} {b : Nat} {T : TypeId} {st : TS} {opens : Nat} {fv : Value} (h : Chk L w b T st opens fv) : CellsAt w b (0 + 120) [.int .i64 (opens : Int)] := by
  obtain ⟨cs, hb, hc⟩ := h.ex
  intro j v hj
  rw [hb.cell]
  match j, hj with
  | 0, hj => simp only [List.getElem?_cons_zero, Option.some.injEq] at hj; subst hj; exact hc.op
  | j + 1, hj => simp at hj
theorem Chk.fnAt {L : List Nat} {w : World} {b : Nat} {T : TypeId} {st : TS} {opens : Nat} {fv : Value} (h : Chk L w b T st opens fv) : CellsAt w b (0 + 121) [fv] := by
  obtain ⟨cs, hb, hc⟩ := h.ex
  intro j v hj
  rw [hb.cell]
  match j, hj with
  | 0, hj => simp only [List.getElem?_cons_zero, Option.some.injEq] at hj; subst hj; exact hc.fn
  | j + 1, hj => simp at hj
theorem ts_get_set {st : TS} {r i : Nat} {o : Option Tree} (hl : st.length = 40) (hr : r < 40) : (st.set r o).getD i none = if i = r then o else st.getD i none := by
  rw [List.getD_eq_getElem?_getD, List.getElem?_set, List.getD_eq_getElem?_getD]
  by_cases h : r = i
  · subst h; rw [if_pos rfl, if_pos (by omega), if_pos rfl]; rfl
  · rw [if_neg h, if_neg (fun hh => h hh.symm)]
/-- A register has been given a type. -/
theorem Chk.put {L : List Nat} {w w1 w2 : World} {b : Nat} {T : TypeId} {st : TS} {opens : Nat} {fv : Value} {r : Nat} {t : Tree} {a : Option Addr} {c : Nat} (h : Chk L w b T st opens fv) (hr : r < 40)
    (hk : KW b T (rowAt (0 + 0 + r * 2) [str t.atom, .slice a t.parts.length c]) w w1) (hp : PutC b T (rowAt (0 + 0 + r * 2) [str t.atom, .slice a t.parts.length c]) w1)
    (h2 : ∀ cs1, Blk w1 b cs1 T → Keep [b] w1 w2 ∧ Blk w2 b (setAt cs1 (0 + 80 + r * 1) [.bool true]) T) (ht : RTree (b :: L) w (.agg #[str t.atom, .slice a t.parts.length c]) t) : Chk L w2 b T (st.set r (some t)) opens fv := by
  obtain ⟨cs, hb, hc⟩ := h.ex
  obtain ⟨cs1, hb1, hs1, hj1⟩ := hk.2 cs hb
  obtain ⟨cs1', hb1', hp1⟩ := hp
  have e : cs1' = cs1 := by
    unfold Blk at hb1 hb1'
    rw [hb1'] at hb1
    injection hb1 with h; injection h
  subst e
  obtain ⟨k2, hb2⟩ := h2 _ hb1
  have hK : Keep [b] w w2 := hk.1.trans k2
  have hsz := hc.size
  have old : ∀ j, j ≠ r * 2 → j ≠ r * 2 + 1 → cs1'[j]? = cs[j]? := fun j h1 h2 => by
    rcases hj1 j with e | ⟨v, hv, _⟩
    · exact e
    · have := rowAt_mem.1 hv
      have hl := (List.getElem?_eq_some_iff.1 this.2).1
      simp only [List.length_cons, List.length_nil] at hl
      omega
  have new0 : cs1'[r * 2]? = some (str t.atom) := hp1 _ _ (rowAt_mem.2 ⟨by omega, by rw [show r * 2 - (0 + 0 + r * 2) = 0 from by omega]; rfl⟩)
  have new1 : cs1'[r * 2 + 1]? = some (.slice a t.parts.length c) := hp1 _ _ (rowAt_mem.2 ⟨by omega, by rw [show r * 2 + 1 - (0 + 0 + r * 2) = 1 from by omega]; rfl⟩)
  have g2 : ∀ j, (setAt cs1' (0 + 80 + r * 1) [.bool true])[j]? = if j = 80 + r then some (.bool true) else cs1'[j]? := fun j => by
    rw [setAt_get (by simp; omega)]
    by_cases h : j = 80 + r
    · subst h; rw [if_pos (by simp), if_pos rfl, show 80 + r - (0 + 80 + r * 1) = 0 from by omega]; rfl
    · rw [if_neg h, if_neg (by simp; omega)]
  refine ⟨⟨_, hb2, ?_, by rw [List.length_set]; exact hc.len, ?_, ?_, fun i hi => ?_, fun i hi => ?_⟩, h.out⟩
  · rw [setAt_size]; omega
  · rw [g2, if_neg (by omega), old _ (by omega) (by omega)]; exact hc.op
  · rw [g2, if_neg (by omega), old _ (by omega) (by omega)]; exact hc.fn
  · rw [ts_get_set hc.len hr, g2]
    by_cases h : i = r
    · subst h; rw [if_pos rfl, if_pos rfl]; rfl
    · rw [if_neg h, if_neg (by omega), old _ (by omega) (by omega)]; exact hc.has i hi
  · rw [ts_get_set hc.len hr]
    by_cases h : i = r
    · subst h
      refine ⟨t, a, c, by rw [g2, if_neg (by omega)]; exact new0, by rw [g2, if_neg (by omega)]; exact new1, RepA.keep ht (hK.mono (by simp)), fun t' e => ?_⟩
      rw [if_pos rfl] at e; cases e; rfl
    · obtain ⟨t0, a0, c0, h1, h3, h4, h5⟩ := hc.ty i hi
      refine ⟨t0, a0, c0, by rw [g2, if_neg (by omega), old _ (by omega) (by omega)]; exact h1, by rw [g2, if_neg (by omega), old _ (by omega) (by omega)]; exact h3, RepA.keep h4 (hK.mono (by simp)), ?_⟩
      rw [if_neg h]; exact h5
/-- One package more has been opened. -/
theorem Chk.open1 {L : List Nat} {w w2 : World} {b : Nat} {T : TypeId} {st : TS} {opens : Nat} {fv : Value} (h : Chk L w b T st opens fv)
    (h2 : ∀ cs1, Blk w b cs1 T → cs1.size = 122 → Keep [b] w w2 ∧ Blk w2 b (setAt cs1 (0 + 120) [.int .i64 ((opens + 1 : Nat) : Int)]) T) : Chk L w2 b T st (opens + 1) fv := by
  obtain ⟨cs, hb, hc⟩ := h.ex
  obtain ⟨hK, hb2⟩ := h2 cs hb hc.size
  have hsz := hc.size
  have g2 : ∀ j, (setAt cs (0 + 120) [.int .i64 ((opens + 1 : Nat) : Int)])[j]? = if j = 120 then some (.int .i64 ((opens + 1 : Nat) : Int)) else cs[j]? := fun j => by
    rw [setAt_get (by simp; omega)]
    by_cases h : j = 120
    · subst h; rw [if_pos (by simp), if_pos rfl]; rfl
    · rw [if_neg h, if_neg (by simp; omega)]
  refine ⟨⟨_, hb2, by rw [setAt_size]; exact hsz, hc.len, by rw [g2, if_pos rfl], by rw [g2, if_neg (by omega)]; exact hc.fn, fun i hi => by rw [g2, if_neg (by omega)]; exact hc.has i hi, fun i hi => ?_⟩, h.out⟩
  obtain ⟨t0, a0, c0, h1, h3, h4, h5⟩ := hc.ty i hi
  exact ⟨t0, a0, c0, by rw [g2, if_neg (by omega)]; exact h1, by rw [g2, if_neg (by omega)]; exact h3, RepA.keep h4 (hK.mono (by simp)), h5⟩
/-- The block at the beginning. -/
theorem chk_zero {L : List Nat} {w : World} {b : Nat} {T : TypeId} {fv : Value} {cs : List Value} (hb : Blk w b cs.toArray T) (hL : b ∉ L)
    (hcs : cs = (List.replicate 40 [str [], Value.slice none 0 0]).flatten ++ (List.replicate 40 (.bool false) ++ [.int .i64 0, fv])) : Chk L w b T (List.replicate 40 none) 0 fv := by
  subst hcs
  have hg : ∀ {α : Type} {x : α} {r : Nat}, r < 40 → (List.replicate 40 x)[r]? = some x := fun {α x r} hr => by rw [List.getElem?_replicate, if_pos hr]
  have hrl : ∀ row, row ∈ List.replicate 40 [str [], Value.slice none 0 0] → row.length = 2 := fun row hr => by rw [(List.mem_replicate.1 hr).2]; rfl
  have hfl : ((List.replicate 40 [str [], Value.slice none 0 0]).flatten).length = 80 := by rw [flatten_len hrl, List.length_replicate]
  have hll : (List.replicate 40 (Value.bool false)).length = 40 := List.length_replicate
  have hnone : ∀ r, (List.replicate 40 (none : Option Tree)).getD r none = none := fun r => by
    rw [List.getD_eq_getElem?_getD, List.getElem?_replicate]; split <;> rfl
  refine ⟨⟨_, hb, ?_, List.length_replicate, ?_, ?_, fun r hr => ?_, fun r hr => ?_⟩, hL⟩
  · rw [List.size_toArray, List.length_append, List.length_append, hfl, hll]; rfl
  · rw [List.getElem?_toArray, List.getElem?_append_right (by omega), hfl, List.getElem?_append_right (by omega), hll]; rfl
  · rw [List.getElem?_toArray, List.getElem?_append_right (by omega), hfl, List.getElem?_append_right (by omega), hll]; rfl
  · rw [List.getElem?_toArray, List.getElem?_append_right (by rw [hfl]; omega), hfl, show 80 + r - 80 = r from by omega, List.getElem?_append_left (by omega), hg hr, hnone]; rfl
  · refine ⟨.mk [] [], none, 0, ?_, ?_, rtree_mk rtrees_nil, fun t' h => ?_⟩
    · rw [List.getElem?_toArray, List.getElem?_append_left (by rw [hfl]; omega)]
      have := flatten_get (sz := 2) hrl (i := r) (j := 0) (hg hr) rfl
      rw [Nat.add_zero] at this
      exact this
    · rw [List.getElem?_toArray, List.getElem?_append_left (by rw [hfl]; omega)]
      exact flatten_get (sz := 2) hrl (i := r) (j := 1) (hg hr) rfl
    · rw [hnone] at h; cases h

/-- A form that is an element, as it lies in memory. -/
structure El2 (L : List Nat) (w : World) (b off : Nat) (t : Tree) (pa : Option Addr) (pc : Nat) : Prop where
  c : CellsAt w b off [str t.atom, .slice pa t.parts.length pc]
  tree : RTree L w (.agg #[str t.atom, .slice pa t.parts.length pc]) t
  out : b ∉ L
  lt : b < w.heap.size
theorem El2.sto {L L' : List Nat} {w w' : World} {b off : Nat} {t : Tree} {pa : Option Addr} {pc : Nat} (h : El2 L w b off t pa pc) (k : Keep L' w w') (hL : ∀ x, x ∈ L' → x ∈ L) : El2 L w' b off t pa pc :=
  have hb : b ∉ L' := fun hx => h.out (hL b hx)
  ⟨fun j v hj => (World.cell?_of_block (k.block b h.lt hb)).trans (h.c j v hj), RepA.keep h.tree (k.mono hL), h.out, Nat.lt_of_lt_of_le h.lt k.size⟩
theorem El2.ext {L : List Nat} {w w' : World} {b off : Nat} {t : Tree} {pa : Option Addr} {pc : Nat} (h : El2 L w b off t pa pc) (k : Keep [] w w') : El2 L w' b off t pa pc := h.sto k (by simp)
theorem El2.grow {L : List Nat} {w : World} {b off : Nat} {t : Tree} {pa : Option Addr} {pc : Nat} (h : El2 L w b off t pa pc) : El2 (w.heap.size :: L) w b off t pa pc :=
  ⟨h.c, RepA.fresh h.tree grow_mem, fun hx => by
    rcases List.mem_cons.1 hx with h1 | h1
    · have := h.lt; omega
    · exact h.out h1, h.lt⟩
theorem rtrees_el {L : List Nat} {w : World} {a : Option Addr} {n c i : Nat} {ts : List Tree} {t : Tree} (h : RTrees L w (.slice a n c) ts) (hi : ts[i]? = some t) : ∃ b off pa pc, a = some ⟨b, off, none⟩ ∧ El2 L w b (off + i * 2) t pa pc := by
  obtain ⟨b, off, vs, ha, hb, hL, hl, hc, hr⟩ := rep_get h (encs_get hi)
  obtain ⟨pa, pn, pc, he, hn, hp⟩ := rtree_cases (t := t) ⟨vs, rfl, hr⟩
  subst hn
  have hv : vs = [str t.atom, .slice pa t.parts.length pc] := by
    have := congrArg (fun v => match v with | Value.agg x => x.toList | _ => []) he
    simpa using this
  subst hv
  exact ⟨b, off, pa, pc, ha, hc, ⟨_, rfl, hr⟩, hL, hb⟩
end Go.Proofs.YtnkjgoholocliaaGreatDoor
