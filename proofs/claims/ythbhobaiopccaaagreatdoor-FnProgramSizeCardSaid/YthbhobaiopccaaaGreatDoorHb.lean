/- Lemmas for the law FnProgramSize, no statement of their own: no conditions. -/
import Derived.Test.YthbhobaiopccaaaGreatDoorHa
import Derived.KernelRfl
import Derived.Lib.Atoi
import Derived.Lib.Strings
import Derived.Test.YthbhobaiopccaaaGreatDoorProg
set_option maxHeartbeats 4000000
set_option linter.unusedVariables false
set_option linter.unusedSimpArgs false
namespace Go.Proofs.YthbhobaiopccaaaGreatDoor
open Go
variable {B E U bytes d i k n1 n2 sz:Nat} {L L':List Nat} {w w':World} {v z:Value} {g gb:Option Nat} {rows:List (List C)} {b:Bk} {p t:aq} {ps ts:List aq} {h l r s x:ai} {P:Program} {bs:List Bk} {xs:List ai} {a c:Prop}
structure Gr (B:Nat) (L:List Nat) (w:World) (T:TypeId) (sz:Nat) (v:Value) (g:Option Nat) (rows:List (List C)):Prop where
 own:∃xs,gO L w T sz v g rows xs
 low:∀b,g=some b->B<=b
 cC:∀x,x∈L->x<w.heap.size
 bsz:B<=w.heap.size
theorem Gr.nil {T:TypeId} (hL:∀x,x∈L->x<w.heap.size) (hB:B<=w.heap.size):Gr B L w T sz (.slice none 0 0) none []:=
 ⟨⟨[],gO.nil _ _ _ _⟩,sm,hL,hB⟩
theorem Gr.aF {T:TypeId} (h:Gr B L w T sz v g rows) (k:aj L' w w') (hL:∀x,x∈L'->x∈L):Gr B L w' T sz v g rows:=
 ⟨h.own.imp λ_ h=>h.aF k hL,h.low,λx hx=>lL (h.cC x hx) k.size,Nat.le_trans h.bsz k.size⟩
theorem Gr.ext {T:TypeId} (h:Gr B L w T sz v g rows) (k:aj [] w w'):Gr B L w' T sz v g rows:=h.aF k sm
theorem Gr.aD {T:TypeId} (h:Gr B L w T sz v g rows) (k:aj L' w w') (hL:∀x,x∈L'->x∈L):Gr B L w' T sz v g rows:=h.aF k hL
theorem Gr.alloc {T:TypeId} (h:Gr B L w T sz v g rows) (k:aj [] w w') (hz:w'.heap.size=w.heap.size+1):Gr B (w.heap.size::L) w' T sz v g rows:=
 ⟨h.own.imp λ_ h=>(h.more zD).aF k sm,h.low,λx hx=>by rcases mC.1 hx with rfl|hx;omega;have:=h.cC x hx;omega,Nat.le_trans h.bsz k.size⟩
theorem Gr.gP {T:TypeId} (h:Gr B L w T sz v g rows) (hL:∀x,x∈L'->x∈L):Gr B L' w T sz v g rows:=
 ⟨h.own.imp λ_ h=>h.more λx hx=>.inl (hL x hx),h.low,λx hx=>h.cC x (hL x hx),h.bsz⟩
theorem Gr.done {T:TypeId} (h:Gr B L w T sz v g rows):bQ L w v (.sl sz rows):=by
 obtain⟨_,h⟩:=h.own;exact h.done
theorem Gr.DL {T:TypeId} (h:Gr B L w T sz v g rows) {b:Nat} (hb:b∈L):b∉g.toList:=by
 obtain⟨_,h⟩:=h.own;exact h.sep hb
theorem Gr.QC {T:TypeId} (h:Gr B L w T sz v g rows) {b:Nat} (hb:b<B):b∉g.toList:=by
 intro hx;have:=h.low b (by simpa using hx);omega
theorem Gr.lt {T:TypeId} (h:Gr B L w T sz v g rows):∀x,x∈g.toList->x<w.heap.size:=by
 obtain⟨_,h⟩:=h.own;intro x hx;exact h.own.lt x (by simpa using hx)
theorem Gr.all {T:TypeId} (h:Gr B L w T sz v g rows):∀x,x∈g.toList++L->x<w.heap.size:=by
 intro x hx
 rcases mA.1 hx with hx|hx
 ·exact h.lt x hx
 ·exact h.cC x hx
theorem Gr.since {w0:World} {T:TypeId} (h:Gr w0.heap.size L w T sz v g rows) (k0:aj L' w0 w) (k:aj g.toList w w'):aj L' w0 w':=
 k0.since k λx hx=>.inr (h.low x (by simpa using hx))
theorem aj.Lk {w0:World} (hB:w0.heap.size<=B) (hl:∀b,g=some b->B<=b) (k0:aj L' w0 w) (k:aj g.toList w w'):aj L' w0 w':=
 k0.since k λx hx=>.inr (Nat.le_trans hB (hl x (by simpa using hx)))
section
variable {P:Program} {n:Nat} {ops:Array Oper} {K:Env->World->Prop} {rest:List Oper} {e:Env} {w:World}
 {dst:Option Nat} {ty:TypeId} {pos:String} {after:Array Edge} {g:Option (Nat×Bool)} {x y:Operand}
theorem DM {B:Nat} {L:List Nat} {t:Nat} {v:Value} {gb:Option Nat} {rows:List (List C)} {row:List C} {news:List Value} {b U:Nat} (hT:P.underlying t=some (.slice E)) (hE:TI P E sz bytes z) (hg:gate ops e g=true) (hd:bV n dst=true) (hz:Nat.beq z.cells.size sz=true) (fK:Nat.ble bytes 1000=true) 
  (hx:ev e x=v) (hy:ev e y= .slice (some ⟨b,0,none⟩) 1 1) (hO:Gr B L w E sz v gb rows) (hb:aJ w b news.toArray U) (gZ:row.length=sz) (h1:news.all Value.oneCell'=true)
  (hr:cS (gb.toList++L) w news row) (hn:rows.length<100000000)
  (k:∀a' cap' g' w',Gr B L w' E sz (.slice a' (rows.length+1) cap') g' (rows++[row])->aj gb.toList w w'->OW P n ops K rest (bM e dst (.slice a' (rows.length+1) cap')) w'):
  OW P n ops K (⟨dst,.call {callee:=.builtin .append,args:=#[x,y],argTypes:=#[t,t]},ty,pos,after,g⟩::rest) e w:=by
 obtain⟨xs,hR⟩:=hO.own
 have zH:bytes<=1000:=Nat.le_of_ble_eq_true fK
 refine Qv hT hE hg hd hz hx hy hR gZ hb.all (λu hu=>List.all_eq_true.1 h1 u hu) hr hO.cC (Nat.le_trans (Nat.mul_le_mul (show rows.length+1<=100000000 by omega) (show bytes+1<=1001 by omega)) de) ?_
 intro a' cap' g' w' iT hk kz
 refine k a' cap' g' w' ⟨⟨_,iT⟩,λb hb=>?_,λx hx=>lL (hO.cC x hx) hk.size,Nat.le_trans hO.bsz hk.size⟩ hk
 rcases kz with h|h
 ·rw[h] at hb;exact hO.low b hb
 ·rw[h] at hb;cases hb;exact hO.bsz
theorem Ll {B:Nat} {L:List Nat} {t:Nat} {v u1 u2:Value} {gb:Option Nat} {ts:List aq} {f:aq} {b U:Nat} (hT:P.underlying t=some (.slice E)) (hE:TI P E 2 bytes z) (hg:gate ops e g=true) (hd:bV n dst=true) (hz:Nat.beq z.cells.size 2=true) (fK:Nat.ble bytes 1000=true) 
  (hx:ev e x=v) (hy:ev e y= .slice (some ⟨b,0,none⟩) 1 1) (hO:Gr B L w E 2 v gb (cT ts)) (hb:aJ w b [u1,u2].toArray U)
  (hr:bB (gb.toList++L) w (.agg #[u1,u2]) f) (hn:ts.length<100000000)
  (k:∀a' cap' g' w',Gr B L w' E 2 (.slice a' (ts++[f]).length cap') g' (cT (ts++[f]))->aj gb.toList w w'->OW P n ops K rest (bM e dst (.slice a' (ts++[f]).length cap')) w'):
  OW P n ops K (⟨dst,.call {callee:=.builtin .append,args:=#[x,y],argTypes:=#[t,t]},ty,pos,after,g⟩::rest) e w:=by
 refine DM hT hE hg hd hz fK hx hy hO hb (oG f) ?_ hr.kj (by rw[ia];exact hn) ?_
 ·rw[List.all_eq_true]
  refine λu hu=>cS.FL hr.kj (λc hc v hv=>?_) u hu
  cases f;rw[aq.enc] at hc
  simp only[mC,List.not_mem_nil,or_false] at hc
  rcases hc with h|h
  ·rw[h] at hv;cases hv;rfl
  ·rw[h] at hv;cases hv
 ·intro a' cap' g' w' iT hk
  have e1:(cT ts).length+1=(ts++[f]).length:=by simp[ia]
  have e2:cT ts++[f.enc]=cT (ts++[f]):=by simp[Lh,cT]
  rw[e1] at iT⊢
  rw[e2] at iT
  exact k a' cap' g' w' iT hk
theorem QD {B:Nat} {L:List Nat} {t:Nat} {v:Value} {gb:Option Nat} {ss:List ai} {s:ai} {b U:Nat} (hT:P.underlying t=some (.slice E)) (hE:TI P E 1 bytes z) (hg:gate ops e g=true) (hd:bV n dst=true) (hz:Nat.beq z.cells.size 1=true) (fK:Nat.ble bytes 1000=true) 
  (hx:ev e x=v) (hy:ev e y= .slice (some ⟨b,0,none⟩) 1 1) (hO:Gr B L w E 1 v gb (fU ss)) (hb:aJ w b [str s].toArray U) (hn:ss.length<100000000)
  (k:∀a' cap' g' w',Gr B L w' E 1 (.slice a' (ss++[s]).length cap') g' (fU (ss++[s]))->aj gb.toList w w'->OW P n ops K rest (bM e dst (.slice a' (ss++[s]).length cap')) w'):
  OW P n ops K (⟨dst,.call {callee:=.builtin .append,args:=#[x,y],argTypes:=#[t,t]},ty,pos,after,g⟩::rest) e w:=by
 refine DM (row:=[.val (str s)]) hT hE hg hd hz fK hx hy hO hb rfl rfl ⟨.val _,trivial⟩ (by rw[qb];exact hn) ?_
 intro a' cap' g' w' iT hk
 have e1:(fU ss).length+1=(ss++[s]).length:=by simp[qb]
 have e2:fU ss++[[.val (str s)]]=fU (ss++[s]):=by simp[fU]
 rw[e1] at iT⊢
 rw[e2] at iT
 exact k a' cap' g' w' iT hk
end
theorem QE {P:Program} {T:Nat} (hT:P.underlying T=some (.slice E)) (hE:TI P E sz bytes z):(Instr.buildSlice T 0 #[]).run P w= .ok (.slice (some ⟨w.heap.size,0,none⟩) 0 0) (w.alloc (.cells #[] E)):=by
 simp[Instr.buildSlice,Sem.run_bind,run_underlying hT,Result.andThen_ok,hE.rD,Instr.fill,newRow];congr 2;apply Array.ext<;>simp
theorem zI {P:Program} {n:Nat} {ops:Array Oper} {K:Env->World->Prop} {rest:List Oper} {e:Env} {w:World} {dst:Option Nat} {ty:TypeId} {pos:String} {after:Array Edge} {g:Option (Nat×Bool)} 
  {T E sz bytes:Nat} {z:Value} (B:Nat) (L:List Nat) (hT:P.underlying T=some (.slice E)) (hE:TI P E sz bytes z) (hg:gate ops e g=true) (hd:bV n dst=true) (hB:B<=w.heap.size) (hL:∀x,x∈L->x<w.heap.size)
  (k:∀w',aj [] w w'->w'.heap.size=w.heap.size+1->Gr B L w' E sz (.slice (some ⟨w.heap.size,0,none⟩) 0 0) (some w.heap.size) []->OW P n ops K rest (bM e dst (.slice (some ⟨w.heap.size,0,none⟩) 0 0)) w'):
  OW P n ops K (⟨dst,.buildSlice T 0 #[],ty,pos,after,g⟩::rest) e w:=
 eQ hg hd (w':=w.alloc (.cells #[] E)) (by simp[execOp,QE (P:=P) (w:=w) hT hE])
  (k _ (aj.alloc _ _ _) sm ⟨⟨[],⟨by simp,.inr ⟨w.heap.size,0,#[],rfl,rfl,aJ.alloc _ _ _,lR _,by decide,sm,sm⟩⟩,trivial,sm,by intro b hb hx;cases hb;have:=hL _ hx;omega⟩,
   by intro b hb;cases hb;exact hB,λx hx=>by have:=hL x hx;simp;omega,by simp;omega⟩)
theorem qP.kj {x y:Value} (h:qP L w (.agg #[x,y,z]) b):cS L w [x,y,z] b.enc:=by
 obtain⟨vs,he,hr⟩:=h
 have hv:vs=[x,y,z]:=by
  have:=congrArg (λv=>match v with|Value.agg x=>x.toList|_=>[]) he
  simpa using this.symm
 rw[<-hv];exact hr
theorem QF {P:Program} {n:Nat} {ops:Array Oper} {K:Env->World->Prop} {rest:List Oper} {e:Env} {w:World} {dst:Option Nat} {ty:TypeId} {pos:String} {after:Array Edge} {g:Option (Nat×Bool)} {x y:Operand} 
  {B:Nat} {L:List Nat} {t E bytes:Nat} {z:Value} {v u1 u2 u3:Value} {gb:Option Nat} {ts:List Bk} {f:Bk} {b U:Nat} (hT:P.underlying t=some (.slice E)) (hE:TI P E 3 bytes z) (hg:gate ops e g=true) (hd:bV n dst=true) (hz:Nat.beq z.cells.size 3=true) (fK:Nat.ble bytes 1000=true)
  (hx:ev e x=v) (hy:ev e y= .slice (some ⟨b,0,none⟩) 1 1) (hO:Gr B L w E 3 v gb (ts.map Bk.enc)) (hb:aJ w b [u1,u2,u3].toArray U)
  (hr:qP (gb.toList++L) w (.agg #[u1,u2,u3]) f) (hn:ts.length<100000000)
  (k:∀a' cap' g' w',Gr B L w' E 3 (.slice a' (ts++[f]).length cap') g' ((ts++[f]).map Bk.enc)->aj gb.toList w w'->OW P n ops K rest (bM e dst (.slice a' (ts++[f]).length cap')) w'):
  OW P n ops K (⟨dst,.call {callee:=.builtin .append,args:=#[x,y],argTypes:=#[t,t]},ty,pos,after,g⟩::rest) e w:=by
 refine DM hT hE hg hd hz fK hx hy hO hb rfl ?_ hr.kj (by simpa using hn) ?_
 ·rw[List.all_eq_true]
  refine λu hu=>cS.FL hr.kj (λc hc v hv=>?_) u hu
  rw[Bk.enc] at hc
  simp only[mC,List.not_mem_nil,or_false] at hc
  rcases hc with h|h|h
  ·rw[h] at hv;cases hv;rfl
  ·rw[h] at hv;cases hv
  ·rw[h] at hv;cases hv
 ·intro a' cap' g' w' iT hk
  have e1:(ts.map Bk.enc).length+1=(ts++[f]).length:=by simp
  have e2:ts.map Bk.enc++[f.enc]=(ts++[f]).map Bk.enc:=by simp
  rw[e1] at iT⊢
  rw[e2] at iT
  exact k a' cap' g' w' iT hk
theorem Gr.tF {T:TypeId} (h:Gr B L w T 3 v g (bs.map Bk.enc)):nR L w v bs:=h.done
/-! ### Owned lists of texts,owned programs -/
def cG (w:World) (T:TypeId) (v:Value) (g:Option Nat) (xs:List ai):Prop:=iH w T 1 v g xs.length (xs.map λx=>str x)
theorem QG:∀{xs:List ai} {vs:List Value},cS L w vs (fU xs).flatten->vs=xs.map λx=>str x
 |[],vs,h=>by
  cases vs with
  |nil=>rfl
  |cons v vs=>exact h.elim
 |x::xs,vs,h=>by
  cases vs with
  |nil=>exact h.elim
  |cons v vs=>
   obtain⟨h1,h2⟩:=h
   cases h1
   rw[List.map_cons,<-QG (xs:=xs) h2]
theorem QH:∀xs:List ai,cS L w (xs.map λx=>str x) (fU xs).flatten
 |[]=>trivial
 |_::xs=>⟨.val _,QH xs⟩
theorem Gr.uP {T:TypeId} (h:Gr B L w T 1 v g (fU xs)):cG w T v g xs:=by
 obtain⟨vs,h⟩:=h.own
 have:=h.own
 rw[QG h.rep,qb] at this
 exact this
theorem cG.Y7 {T:TypeId} (h:cG w T v g xs) (hL:∀b,g=some b->b∉L):gO L w T 1 v g (fU xs) (xs.map λx=>str x):=
 ⟨by rw[qb];exact h,QH xs,by intro row hr;simp[fU] at hr;obtain⟨_,_,rfl⟩:=hr;rfl,hL⟩
theorem cG.rep {T:TypeId} (h:cG w T v g xs) (hL:∀b,g=some b->b∉L):bc L w v xs:=(h.Y7 hL).done
theorem cG.aF {T:TypeId} (h:cG w T v g xs) (k:aj L w w') (hL:∀b,g=some b->b∉L):cG w' T v g xs:=iH.aF h k hL
theorem cG.ext {T:TypeId} (h:cG w T v g xs) (k:aj [] w w'):cG w' T v g xs:=h.aF k sm
def qd (w:World) (T:TypeId) (gs:Option Nat×Option Nat) (vs:List Value) (b:Bk):Prop:=
 ∃v1 v2,vs=[str b.aM,v1,v2]∧cG w T v1 gs.1 b.bY∧cG w T v2 gs.2 b.code
def iU (gs:Option Nat×Option Nat):List Nat:=gs.1.toList++gs.2.toList
def gx (gss:List (Option Nat×Option Nat)):List Nat:=gss.flatMap iU
theorem qd.aF {T:TypeId} {gs:Option Nat×Option Nat} {vs:List Value} (h:qd w T gs vs b) (k:aj L w w') (hL:∀x,x∈iU gs->x∉L):qd w' T gs vs b:=by
 obtain⟨v1,v2,e,h1,h2⟩:=h
 exact⟨v1,v2,e,h1.aF k (λb hb=>hL b (by simp[iU,hb])),h2.aF k (λb hb=>hL b (by simp[iU,hb]))⟩
def iK (w:World) (T:TypeId):List (Option Nat×Option Nat)->List (List Value)->List Bk->Prop
 |[],[],[]=>True
 |g::gs,v::vs,b::bs=>qd w T g v b∧iK w T gs vs bs
 |_,_,_=>False
theorem iK.aF {T:TypeId} (k:aj L w w'):∀{gss:List (Option Nat×Option Nat)} {vss:List (List Value)} {bs:List Bk},iK w T gss vss bs->(∀x,x∈gx gss->x∉L)->iK w' T gss vss bs
 |[],[],[],_,_=>trivial
 |g::gs,v::vs,b::bs,h,hL=>⟨h.1.aF k (λx hx=>hL x (by simp[gx,hx])),iK.aF k h.2 (λx hx=>hL x (by simp[gx] at hx⊢;exact .inr hx))⟩
theorem iK.snoc {T:TypeId}:∀{gss:List (Option Nat×Option Nat)} {vss:List (List Value)} {bs:List Bk} {g:Option Nat×Option Nat} {v:List Value} {b:Bk},iK w T gss vss bs->qd w T g v b->iK w T (gss++[g]) (vss++[v]) (bs++[b])
 |[],[],[],_,_,_,_,h=>⟨h,trivial⟩
 |_::_,_::_,_::_,_,_,_,h,k=>⟨h.1,iK.snoc h.2 k⟩
theorem iK.lens {T:TypeId}:∀{gss:List (Option Nat×Option Nat)} {vss:List (List Value)} {bs:List Bk},iK w T gss vss bs->gss.length=bs.length∧vss.length=bs.length∧∀row,row∈vss->row.length=3
 |[],[],[],_=>by simp
 |g::gs,v::vs,b::bs,h=>by
  obtain⟨h1,h2,h3⟩:=iK.lens h.2
  refine⟨by simp[h1],by simp[h2],λrow hr=>?_⟩
  rcases mC.1 hr with rfl|hr
  ·obtain⟨v1,v2,rfl,_⟩:=h.1;rfl
  ·exact h3 row hr
theorem iK.get {T:TypeId}:∀{gss:List (Option Nat×Option Nat)} {vss:List (List Value)} {bs:List Bk},iK w T gss vss bs->∀{i:Nat} {b:Bk},bs[i]?=some b->∃g v,gss[i]?=some g∧vss[i]?=some v∧qd w T g v b
 |_::_,_::_,_::_,h,0,b,hb=>by simp at hb;subst hb;exact⟨_,_,rfl,rfl,h.1⟩
 |_::gs,_::vs,_::bs,h,i+1,b,hb=>by
  obtain⟨g,v,h1,h2,h3⟩:=iK.get h.2 (i:=i) (by simpa using hb)
  exact⟨g,v,by simpa using h1,by simpa using h2,h3⟩
 |[],[],[],_,i,b,hb=>by simp at hb
theorem iK.BR {T:TypeId}:∀{gss:List (Option Nat×Option Nat)} {vss:List (List Value)} {bs:List Bk},iK w T gss vss bs->(∀x,x∈gx gss->x∉L)->cS L w vss.flatten (bs.map Bk.enc).flatten
 |[],[],[],_,_=>trivial
 |g::gs,v::vs,b::bs,h,hL=>by
  obtain⟨v1,v2,rfl,h1,h2⟩:=h.1
  refine⟨.val _,h1.rep (λb hb=>hL b (by simp[gx,iU,hb])),h2.rep (λb hb=>hL b (by simp[gx,iU,hb])),?_⟩
  exact iK.BR h.2 (λx hx=>hL x (by simp[gx] at hx⊢;exact .inr hx))
structure lY (w:World) (TB TS:TypeId) (v:Value) (g:Option Nat) (gss:List (Option Nat×Option Nat)) (vss:List (List Value)) (bs:List Bk):Prop where
 own:iH w TB 3 v g bs.length vss.flatten
 rows:iK w TS gss vss bs
 nodup:(g.toList++gx gss).Nodup
 lt:∀x,x∈gx gss->x<w.heap.size
theorem lY.aF {TB TS:TypeId} {gss:List (Option Nat×Option Nat)} {vss:List (List Value)} (h:lY w TB TS v g gss vss bs) (k:aj L w w') (hL:∀x,x∈g.toList++gx gss->x∉L):lY w' TB TS v g gss vss bs:=
 ⟨h.own.aF k (λb hb=>hL b (by simp[hb])),h.rows.aF k (λx hx=>hL x (by simp[hx])),h.nodup,λx hx=>lL (h.lt x hx) k.size⟩
theorem lY.ext {TB TS:TypeId} {gss:List (Option Nat×Option Nat)} {vss:List (List Value)} (h:lY w TB TS v g gss vss bs) (k:aj [] w w'):lY w' TB TS v g gss vss bs:=h.aF k sm
theorem bB.Lm {A B:List Nat} {b:Nat} (h:bB (b::(A++B)) w v t):bB (A++(b::B)) w v t:=j1.fresh h λx hx=>.inl (Qr x hx)
theorem bB.gP (h:bB L w v t) (hL:∀x,x∈L'->x∈L):bB L' w v t:=j1.fresh h λx hx=>.inl (hL x hx)
theorem eM.gP {t:List aq} (h:eM L w v t) (hL:∀x,x∈L'->x∈L):eM L' w v t:=bQ.fresh h λx hx=>.inl (hL x hx)
theorem Gr.trees {T:TypeId} (h:Gr B L w T 2 v g (cT ts)):eM L w v ts:=h.done
def gW (c:UInt8):Bool:=48<=c&&c<=57
theorem BS (c:UInt8):gW c=true↔48<=c.toNat∧c.toNat<=57:=by
 simp[gW,UInt8.le_iff_toNat_le]
def qQ (s:ai):Int:=if 0<s.length∧s.getD 0 0=45 then -1 else 1
def er (s:ai):ai:=if 0<s.length∧s.getD 0 0=45 then s.drop 1 else s
def val (ds:ai):Nat:=ds.foldl (λn c=>10*n+(c.toNat-48)) 0
def numeral (s:ai):Option Int:=
 if s=[48] then some 0
 else if(er s).length<1∨3<(er s).length∨(er s).getD 0 0=48 then none
 else if(er s).all gW=true then some (qQ s*val (er s)) else none
theorem QI (ds:ai) (c:UInt8):val (ds++[c])=10*val ds+(c.toNat-48):=by simp[val]
theorem QJ:∀(ds:ai),ds.all gW=true->val ds<10^ds.length:=by
 intro ds
 have key:∀(l:ai) (n k:Nat),l.all gW=true->n<10^k->l.foldl (λn c=>10*n+(c.toNat-48)) n<10^(k+l.length):=by
  intro l
  induction l with
  |nil=>intro n k _ h;simpa using h
  |cons c l ih=>
   intro n k hl h
   simp only[List.all_cons,aE] at hl
   have hc:=(BS c).1 hl.1
   simp only[List.foldl_cons,lC]
   have:=ih (10*n+(c.toNat-48)) (k+1) hl.2 (by rw[Nat.pow_succ];omega)
   rw[show k+(l.length+1)=k+1+l.length from by omega];exact this
 intro h
 have:=key ds 0 0 h sm
 simpa[val] using this
theorem Ln (h:k<s.length):s.take (k+1)=s.take k++[s.getD k 0]:=by simp_all
def cw (t:aq):ai:=if t.aw≠[]∨t.ak=[] then[] else match t.ak with
 |[]=>[]
 |p::_=>p.aw
def QK (c:UInt8):Bool:=97<=c&&c<=122
def BT (s:ai) (i:Nat):Bool:=QK (s.getD i 0)||(decide (0<i)&&gW (s.getD i 0))
def ni (s:ai):Bool:=(List.range s.length).all (BT s)&&decide (s≠[])
theorem FN (k c:UInt8):decide ((k.toNat:Int)<=c.toNat)=decide (k<=c):=by simp[UInt8.le_iff_toNat_le]
theorem QL (k c:UInt8):decide ((c.toNat:Int)=k.toNat)=(c==k):=by
 rw[Bool.eq_iff_iff];simp[<-UInt8.toNat_inj];omega
theorem Ir (s:ai) (k:Nat):((decide ((97:Int)<=(s.getD k 0).toNat)&&decide (((s.getD k 0).toNat:Int)<=122))||((decide ((0:Int)<(k:Int))&&decide ((48:Int)<=(s.getD k 0).toNat))&&decide (((s.getD k 0).toNat:Int)<=57)))=BT s k:=by
 have a:=FN 97 (s.getD k 0)
 have b:=FN (s.getD k 0) 122
 have c:=FN 48 (s.getD k 0)
 have d:=FN (s.getD k 0) 57
 simp only[show((97:UInt8).toNat:Int)=97 from rfl,show((122:UInt8).toNat:Int)=122 from rfl,show((48:UInt8).toNat:Int)=48 from rfl,show((57:UInt8).toNat:Int)=57 from rfl] at a b c d
 rw[a,b,c,d]
 unfold BT QK gW
 rw[show decide ((0:Int)<(k:Int))=decide (0<k) from by simp,Bool.and_assoc]
theorem QM {j:Nat} (hj:j<s.length) (h:BT s j=false):ni s=false:=by grind [ni]
theorem QN (h:∀j,j<s.length->BT s j=true):ni s=decide (s≠[]):=by grind [ni]
theorem QO {P:Nat->Prop} (h:∀j,j<k->P j) (hk:P k):∀j,j<k+1->P j:=by grind
theorem FP (ha:t.aw=[]) (hp:t.ak[0]?=some p):cw t=p.aw:=by grind [aq.ak,cw]
theorem FQ (h:t.aw≠[]∨t.ak=[]):cw t=[]:=by unfold cw;rw[iP h]
theorem Y8 (h0:s≠[48]) (h:(er s).length<1∨3<(er s).length∨(er s).getD 0 0=48):numeral s=none:=by grind [numeral]
theorem Y9 (h0:s≠[48]) (hk:k<(er s).length) (h:gW ((er s).getD k 0)=false):numeral s=none:=by grind [numeral,er]
theorem Za (h0:s≠[48]) (h:1<=(er s).length∧(er s).length<=3∧(er s).getD 0 0≠48) (cL:(er s).all gW=true):numeral s=some (qQ s*val (er s)):=by grind [numeral]
theorem Zb (s:ai):qQ s=1∨qQ s= -1:=by grind [qQ]
theorem Zc {ds:ai} (h:(!(decide ((1:Int)<=(ds.length:Int))&&decide ((ds.length:Int)<=3))||decide (((ds.getD 0 0).toNat:Int)=48))=true):ds.length<1∨3<ds.length∨ds.getD 0 0=48:=by
 simp only[oE,Bool.not_eq_true',Bool.and_eq_false_iff,decide_eq_false_iff_not,dE] at h
 rcases h with(h|h)|h
 ·left;omega
 ·right;left;omega
 ·right;right;exact UInt8.toNat_inj.1 (by have:(48:UInt8).toNat=48:=rfl;rw[this];omega)
theorem Zd {ds:ai} (h:(!(decide ((1:Int)<=(ds.length:Int))&&decide ((ds.length:Int)<=3))||decide (((ds.getD 0 0).toNat:Int)=48))=false):1<=ds.length∧ds.length<=3∧ds.getD 0 0≠48:=by
 simp only[Bool.or_eq_false_iff,Bool.not_eq_false',aE,decide_eq_false_iff_not,dE] at h
 refine⟨by omega,om,λQP=>h.2 (by rw[QP];rfl)⟩
theorem QQ {c:UInt8} (h:(decide ((c.toNat:Int)<48)||decide ((57:Int)<c.toNat))=true):gW c=false:=by grind [BS]
theorem QR {c:UInt8} (h:(decide ((c.toNat:Int)<48)||decide ((57:Int)<c.toNat))=false):48<=c.toNat∧c.toNat<=57∧gW c=true:=by grind [BS]
def aq.size:aq->Nat
 | .mk a ps=>1+a.length+sizes ps
 where sizes:List aq->Nat
 |[]=>0
 |t::ts=>t.size+sizes ts
theorem Ze {ps:List aq}:∀{i:Nat} {p:aq},ps[i]?=some p->p.size<=aq.size.sizes ps:=by
 induction ps with
 |nil=>intro i p h;simp at h
 |cons q ps ih=>
  intro i p h
  cases i with
  |zero=>simp at h;subst h;simp only[aq.size.sizes];omega
  |succ i=>have:=ih (by simpa using h);simp only[aq.size.sizes];omega
theorem QS {t:aq} (h:t.ak[i]?=some p):p.size<t.size:=by
 cases t with
 |mk a ps=>have:=Ze (ps:=ps) h;simp only[aq.size];omega
theorem wj:∀t:aq,t.ak.length<t.size
 | .mk a ps=>by
  have:∀l:List aq,l.length<=aq.size.sizes l:=by
   intro l
   induction l with
   |nil=>simp[aq.size.sizes]
   |cons q r ih=>cases q;simp only[aq.size.sizes,aq.size,lC];omega
  have:=this ps
  simp only[aq.ak,aq.size];omega
inductive WF:aq->Prop
 |aw (a:ai) (h:a≠[]):WF (.mk a [])
 |list (ps:List aq) (h:ps≠[]) (hp:∀p,p∈ps->WF p):WF (.mk [] ps)
theorem WF.part (h:WF t) (hp:t.ak[i]?=some p):WF p:=by cases h<;>grind [aq.ak]
theorem WF.first (h:WF t) (ha:t.aw=[]):∃p,t.ak[0]?=some p:=by
 cases h with
 |aw a hn=>exact absurd ha hn
 |list ps hn _=>
  cases ps with
  |nil=>exact absurd rfl hn
  |cons q r=>exact⟨q,rfl⟩
theorem WF.leaf (h:WF t) (ha:t.aw≠[]):t.ak=[]:=by
 cases h with
 |aw a _=>rfl
 |list ps _ _=>exact absurd rfl ha
theorem QT {rd:ai->Option (aq×ai)} (eI:∀s t r,rd s=some (t,r)->WF t):∀n s ts r,iu rd n s=some (ts,r)->ts≠[]∧∀p,p∈ts->WF p
 |0,_,_,_,h=>by simp[iu] at h
 |n+1,s,ts,r,h=>by
  unfold iu at h
  cases hr:rd s with
  |none=>simp[hr] at h
  |some q=>
   obtain⟨t,r1⟩:=q
   have ht:=eI s t r1 hr
   simp only[hr] at h
   cases r1 with
   |nil=>simp at h
   |cons c r'=>
    simp only at h
    by_cases h1:c=41
    ·rw[iP h1] at h
     simp at h
     obtain⟨rfl,_⟩:=h
     exact⟨by simp,by intro p hp;simp at hp;subst hp;exact ht⟩
    ·rw[iN h1] at h
     by_cases h2:c=32
     ·rw[iP h2] at h
      cases hp:iu rd n r' with
      |none=>simp[hp] at h
      |some q=>
       obtain⟨ts',r''⟩:=q
       simp[hp] at h
       obtain⟨rfl,_⟩:=h
       obtain⟨_,h4⟩:=QT eI n r' ts' r'' hp
       exact⟨by simp,by intro p hp;rcases mC.1 hp with rfl|hp;exact ht;exact h4 p hp⟩
     ·rw[iN h2] at h;cases h
theorem Zf:∀d s t r,ei d s=some (t,r)->WF t:=by
 have leaf:∀(s:ai) (t:aq) (r:ai),(if s.takeWhile eT=[] then none else some (aq.mk (s.takeWhile eT) [],s.dropWhile eT))=some (t,r)->WF t:=by
  intro s t r h
  split at h
  ·cases h
  ·rename_i hn
   simp only[Option.some.injEq,Prod.mk.injEq] at h
   rw[<-h.1];exact .aw _ hn
 intro d
 induction d with
 |zero=>
  intro s t r h
  cases s with
  |nil=>simp[ei] at h
  |cons c s=>
   simp only[ei] at h
   by_cases h1:c=40
   ·rw[iP h1] at h;cases h
   ·rw[iN h1] at h;exact leaf _ _ _ h
 |succ d ih=>
  intro s t r h
  cases s with
  |nil=>simp[ei] at h
  |cons c s=>
   simp only[ei] at h
   by_cases h1:c=40
   ·rw[iP h1] at h
    cases hp:iu (ei d) (s.length+1) s with
    |none=>simp[hp] at h
    |some q=>
     obtain⟨ts',r''⟩:=q
     simp[hp] at h
     obtain⟨h3,h4⟩:=QT ih _ _ _ _ hp
     rw[<-h.1];exact .list _ h3 h4
   ·rw[iN h1] at h;exact leaf _ _ _ h
theorem tG (h:bA s=some t):WF t:=by grind [bA,ei,Zf]
theorem QU {rd:ai->Option (aq×ai)} (eI:∀s t r,rd s=some (t,r)->t.size+r.length<=s.length+1):∀n s ts r,iu rd n s=some (ts,r)->aq.size.sizes ts+r.length<=s.length
 |0,_,_,_,h=>by simp[iu] at h
 |n+1,s,ts,r,h=>by
  unfold iu at h
  cases hr:rd s with
  |none=>simp[hr] at h
  |some q=>
   obtain⟨t,r1⟩:=q
   have ht:=eI s t r1 hr
   simp only[hr] at h
   cases r1 with
   |nil=>simp at h
   |cons c r'=>
    simp only at h
    rw[lC] at ht
    by_cases h1:c=41
    ·rw[iP h1] at h
     simp at h
     obtain⟨rfl,rfl⟩:=h
     simp only[aq.size.sizes];omega
    ·rw[iN h1] at h
     by_cases h2:c=32
     ·rw[iP h2] at h
      cases hp:iu rd n r' with
      |none=>simp[hp] at h
      |some q=>
       obtain⟨ts',r''⟩:=q
       simp[hp] at h
       obtain⟨rfl,rfl⟩:=h
       have h4:=QU eI n r' ts' r'' hp
       simp only[aq.size.sizes];omega
     ·rw[iN h2] at h;cases h
theorem Zg:∀d s t r,ei d s=some (t,r)->t.size+r.length<=s.length+1:=by
 have leaf:∀(s:ai) (t:aq) (r:ai),(if s.takeWhile eT=[] then none else some (aq.mk (s.takeWhile eT) [],s.dropWhile eT))=some (t,r)->t.size+r.length<=s.length+1:=by
  intro s t r h
  split at h
  ·cases h
  ·simp only[Option.some.injEq,Prod.mk.injEq] at h
   obtain⟨rfl,rfl⟩:=h
   have h1:=FI eT s
   rw[FH,List.length_drop]
   simp only[aq.size,aq.size.sizes];omega
 intro d
 induction d with
 |zero=>
  intro s t r h
  cases s with
  |nil=>simp[ei] at h
  |cons c s=>
   simp only[ei] at h
   by_cases h1:c=40
   ·rw[iP h1] at h;cases h
   ·rw[iN h1] at h;exact leaf _ _ _ h
 |succ d ih=>
  intro s t r h
  cases s with
  |nil=>simp[ei] at h
  |cons c s=>
   simp only[ei] at h
   by_cases h1:c=40
   ·rw[iP h1] at h
    cases hp:iu (ei d) (s.length+1) s with
    |none=>simp[hp] at h
    |some q=>
     obtain⟨ts',r''⟩:=q
     simp[hp] at h
     have h3:=QU ih _ _ _ _ hp
     obtain⟨rfl,rfl⟩:=h
     simp only[aq.size,lC,List.length_nil];omega
   ·rw[iN h1] at h;exact leaf _ _ _ h
theorem Lo (h:bA s=some t):s.length<=12000:=by grind [bA]
theorem zJ (h:bA s=some t):t.size<=12001:=by
 have hs:=Lo h
 unfold bA at h
 split at h
 ·cases h
 ·cases hr:ei 60 s with
  |none=>rw[hr] at h;cases h
  |some q=>
   obtain⟨t',r⟩:=q
   rw[hr] at h
   cases r with
   |nil=>simp at h;subst h;have:=Zg _ _ _ _ hr;simp at this;omega
   |cons c r=>cases h
theorem xQ:∀t:aq,t.aw.length<t.size
 | .mk a ps=>by simp only[aq.aw,aq.size];omega
def fa (hidden:Bool):aq->Bool
 | .mk a ps=>if a≠[] then decide (a=[105])||(hidden&&decide (a=[118])) else match ps with
  |[]=>false
  |h::rest=>if h.aw=[101] then oneT rest else if h.aw=[116]∨h.aw=[99] then DN hidden rest else false
 where
 oneT:List aq->Bool
  |[]=>false
  |[t]=>fa true t
  |_::_::_=>false
 DN (hidden:Bool):List aq->Bool
  |[]=>true
  |t::ts=>fa hidden t&&DN hidden ts
theorem Lp (hidden:Bool):∀ts,fa.DN hidden ts=ts.all (fa hidden)
 |[]=>rfl
 |t::ts=>by simp[fa.DN,Lp hidden ts]
def nth (ps:List aq) (i:Nat):aq:=ps.getD i (.mk [] [])
theorem gh (h:i<ps.length):ps[i]?=some (nth ps i):=by grind [nth]
theorem kX (h:i<t.ak.length):(nth t.ak i).size<t.size:=QS (gh h)
theorem WF.nth (h:WF t) (hi:i<t.ak.length):WF (nth t.ak i):=h.part (gh hi)
theorem WF.pos (h:WF t) (ha:t.aw=[]):0<t.ak.length:=by grind [WF.first]
theorem QV (h:t.aw≠[]) (hidden:Bool):fa hidden t=(decide (t.aw=[105])||(hidden&&decide (t.aw=[118]))):=by
 cases t with
 |mk a ps=>unfold fa;exact iP h
theorem Lq (ha:t.aw=[]) (hp:0<t.ak.length) (he:(nth t.ak 0).aw=[101]) (hidden:Bool):fa hidden t=(decide (t.ak.length=2)&&fa true (nth t.ak 1)):=by
 cases t with
 |mk a ps=>
  simp only[aq.aw] at ha
  subst ha
  cases ps with
  |nil=>simp[aq.ak] at hp
  |cons h rest=>
   have uN:h.aw=[101]:=he
   simp only[fa,uN,aq.ak,ne_eq,not_true_eq_false,if_false,if_true]
   match rest with
   |[]=>simp[fa.oneT]
   |[p]=>simp[fa.oneT,_root_.Go.Proofs.YthbhobaiopccaaaGreatDoor.nth]
   |p::q::r=>simp[fa.oneT]
theorem Ls (ha:t.aw=[]) (hp:0<t.ak.length) (he:(nth t.ak 0).aw=[116]∨(nth t.ak 0).aw=[99]) (hidden:Bool):fa hidden t=(t.ak.drop 1).all (fa hidden):=by
 cases t with
 |mk a ps=>
  simp only[aq.aw] at ha
  subst ha
  cases ps with
  |nil=>simp[aq.ak] at hp
  |cons h rest=>
   have uN:h.aw=[116]∨h.aw=[99]:=he
   have dL:h.aw≠[101]:=by rcases uN with h|h<;>rw[h]<;>decide
   simp only[fa,dL,uN,aq.ak,ne_eq,not_true_eq_false,if_false,if_true,Lp,List.drop_one,List.tail_cons]
theorem QW (ha:t.aw=[]) (hp:0<t.ak.length) (h1:(nth t.ak 0).aw≠[101]) (h2:¬((nth t.ak 0).aw=[116]∨(nth t.ak 0).aw=[99])) (hidden:Bool):fa hidden t=false:=by
 cases t with
 |mk a ps=>
  simp only[aq.aw] at ha
  subst ha
  cases ps with
  |nil=>simp[aq.ak] at hp
  |cons h rest=>
   have Zh:h.aw≠[101]:=h1
   have Zi:¬(h.aw=[116]∨h.aw=[99]):=h2
   simp only[fa,Zh,Zi,ne_eq,not_true_eq_false,if_false]
theorem QX {f:aq->Bool} (hi:i<ps.length):(ps.drop i).all f=(f (nth ps i)&&(ps.drop (i+1)).all f):=by
 rw[List.drop_eq_getElem_cons hi,List.all_cons]
 simp[nth,List.getD,gE hi]
theorem Zj {a y:ai} (h:(decide (a≠x)&&decide (a≠y))=false):a=x∨a=y:=by grind
theorem Zk {a y:ai} (h:(decide (a≠x)&&decide (a≠y))=true):¬(a=x∨a=y):=by grind
def zK (a:ai):Int:=match numeral a with
 |some n=>if 0<=n∧n<=39 then n else -1
 |none=> -1
def uQ (a:ai):Bool:=decide (0<=zK a)
def iV (z:Int) (t:aq):Bool:=
 if z=114∨z=42 then uQ t.aw else if z=110 then(numeral t.aw).isSome else if z=108 then ni t.aw
 else if z=101 then decide (cw t=[101])&&fa false t else fa false t
theorem QY {b:Bool} (h:(!b)=false):b=true:=by grind
theorem QZ {b:Bool} (h:(!b)=true):b=false:=by grind
theorem zM {b:Prop} [Decidable a] [Decidable b] (h:a):decide a=(decide a||decide b):=by grind
theorem zN {b:Prop} [Decidable a] [Decidable b] (h:¬a):decide b=(decide a||decide b):=by grind
theorem Q0 {b:Prop} [Decidable a] [Decidable b] [Decidable c] (h:a):decide a=(decide a||decide b||decide c):=by grind
theorem Q1 {b:Prop} [Decidable a] [Decidable b] [Decidable c] (h:¬a) (h2:b):decide b=(decide a||decide b||decide c):=by grind
theorem Q2 {b:Prop} [Decidable a] [Decidable b] [Decidable c] (h:¬a) (h2:¬b):decide c=(decide a||decide b||decide c):=by grind
theorem zO {b:Prop} [Decidable a] [Decidable b] (h:(decide a||decide b)=true):a∨b:=by simpa using h
theorem zP {b:Prop} [Decidable a] [Decidable b] (h:(decide a||decide b)=false):¬(a∨b):=by simpa using h
theorem Q3 {b:Prop} [Decidable a] [Decidable b] [Decidable c] (h:(decide a||decide b||decide c)=true):a∨b∨c:=by grind
theorem Q4 {b:Prop} [Decidable a] [Decidable b] [Decidable c] (h:(decide a||decide b||decide c)=false):¬(a∨b∨c):=by grind
def shapeOf (h:ai):ai:=
 if h=[99,111,110,115,116] then[114,110]
 else if h=[109,111,118]∨h=[111,112,101,110] then[114,114]
 else if h=[97,100,100]∨h=[115,117,98]∨h=[109,117,108] then[114,114,114]
 else if h=[110,101,119] then[114,42]
 else if h=[103,101,116] then[114,114,110]
 else if h=[108,97,98]∨h=[122,101,114,111] then[114,108]
 else if h=[112,97,99,107] then[114,114,101,119]
 else if h=[106,117,109,112]∨h=[104,97,108,116] then[114]
 else[]
def Lt (h:ai) (i:Nat):Int:=((h.getD (min i h.length-1) 0).toNat:Int)
def sk (t:aq):Bool:=(decide (shapeOf (cw t)≠[114,42])&&decide (t.ak.length≠(shapeOf (cw t)).length+1))||decide (t.ak.length<2)
def tH (t:aq) (i:Nat):Bool:=iV (Lt (shapeOf (cw t)) i) (nth t.ak i)
def lr (t:aq):Bool:=if shapeOf (cw t)=[] then false else if sk t then false
 else decide (∀i,i<t.ak.length->1<=i->tH t i=true)&&(decide (cw t≠[103,101,116])||decide (0<=(numeral (nth t.ak 3).aw).getD 0))
theorem Zl (hh:h=[103,101,116]):shapeOf h=[114,114,110]:=by rw[hh];decide
theorem Zm (h:sk t=false) (hh:cw t=[103,101,116]):t.ak.length=4:=by grind [sk,Zl]
theorem Zn (h:sk t=false):2<=t.ak.length:=by grind [sk]
theorem Lu (h:shapeOf (cw t)≠[]):t.aw=[]∧0<t.ak.length∧cw t=(nth t.ak 0).aw:=by
 have dL:cw t≠[]:=λhh=>by rw[hh] at h;exact h de
 by_cases ha:t.aw=[]
 ·rcases Nat.eq_zero_or_pos t.ak.length with hz|hz
  ·exact absurd (FQ (.inr (List.length_eq_zero_iff.1 hz))) dL
  ·exact⟨ha,hz,FP ha (gh hz)⟩
 ·exact absurd (FQ (.inl ha)) dL
theorem Zo (h:ai):(shapeOf h).length<=4:=by grind [shapeOf]
theorem Q5 {n:Nat} (hn:n=t.ak.length):((decide (shapeOf (cw t)≠[114,42])&&decide ((n:Int)≠((shapeOf (cw t)).length:Int)+1))||decide ((n:Int)<2))=sk t:=by grind [sk]
theorem Q6 (h:shapeOf (cw t)=[]):lr t=false:=by unfold lr;rw[iP h]
theorem Lw (h:sk t=true):lr t=false:=by grind [lr]
theorem Zp (hi:i<t.ak.length) (h1:1<=i) (h:tH t i=false):lr t=false:=by grind [lr]
theorem Zq (h1:shapeOf (cw t)≠[]) (h2:sk t=false) (h:∀i,i<t.ak.length->1<=i->tH t i=true):
  lr t=(decide (cw t≠[103,101,116])||decide (0<=(numeral (nth t.ak 3).aw).getD 0)):=by grind [lr]
theorem Zr (h:lr t=true):0<t.ak.length:=by
 unfold lr at h
 split at h
 ·cases h
 ·rename_i dL;exact(Lu dL).2.1
def seen (f:aq->Bool) (s:ai):Bool:=match bA s with
 |some t=>f t
 |none=>false
theorem Is {f:aq->Bool} (h:∀t',bA s=some t'->t=t'):((bA s).isSome&&f t)=seen f s:=by grind [bA,seen]
def Iv (t:aq):Bool:=lr t&&(decide ((nth t.ak 0).aw=[106,117,109,112])||decide ((nth t.ak 0).aw=[104,97,108,116]))
abbrev sn (s:ai):Bool:=seen (fa false) s
abbrev sq (s:ai):Bool:=seen lr s
abbrev DO (s:ai):Bool:=seen Iv s
def Zs:Bk:=⟨[],[],[]⟩
abbrev bR (bs:List Bk) (i:Nat):Bk:=bs.getD i Zs
theorem pC (h:i<bs.length):bs[i]?=some (bR bs i):=by grind
def oI (bs:List Bk) (l:ai):Int:=match bs.findIdx? (λb=>decide (b.aM=l)) with
 |some i=>(i:Int)
 |none=> -1
theorem Q7 (hk:k<bs.length) (h:∀i,i<k->(bR bs i).aM≠l) (hl:(bR bs k).aM=l):oI bs l=(k:Int):=by
 have:bs.findIdx? (λb=>decide (b.aM=l))=some k:=by
  rw[List.findIdx?_eq_some_iff_getElem]
  refine⟨hk,by simpa[gE hk] using hl,λj hj=>?_⟩
  have:=h j hj
  simpa[gE (Nat.lt_trans hj hk)] using this
 unfold oI;rw[this]
theorem Zt (h:∀i,i<bs.length->(bR bs i).aM≠l):oI bs l= -1:=by
 have:bs.findIdx? (λb=>decide (b.aM=l))=none:=by
  rw[List.findIdx?_eq_none_iff]
  intro b hb
  obtain⟨i,hi,rfl⟩:=List.getElem_of_mem hb
  have:=h i hi
  simpa[gE hi] using this
 unfold oI;rw[this]
def rF (code:List ai) (i:Nat):Bool:=sq (bX code i)&&(DO (bX code i)==decide (i+1=code.length))
def lZ (b:Bk):Bool:=ni b.aM&&decide (b.bY.length<=40)&&(decide (1<=b.code.length)&&decide (b.code.length<=80))&&
 decide (∀i,i<b.bY.length->sn (bX b.bY i)=true)&&decide (∀i,i<b.code.length->rF b.code i=true)
def jt (bs:List Bk):Bool:=decide (∀i,i<bs.length->lZ (bR bs i)=true∧oI bs (bR bs i).aM=i)&&
 (decide (1<=bs.length)&&decide (bs.length<=40)&&decide ((bR bs 0).aM=[109,97,105,110])&&decide ((bR bs 0).bY.length=0))
def lines (bs:List Bk):Nat:=(bs.map λb=>b.code.length).sum
def BU (bs:List Bk):Int:=if jt bs then(lines bs:Int) else -1
theorem Q8 (h:(ni b.aM&&decide (b.bY.length<=40)&&(decide (1<=b.code.length)&&decide (b.code.length<=80)))=false):lZ b=false:=by
 unfold lZ;rw[h];rfl
theorem Q9 (hi:i<b.bY.length) (h:sn (bX b.bY i)=false):lZ b=false:=by grind [lZ]
theorem Ra (hi:i<b.code.length) (h:rF b.code i=false):lZ b=false:=by grind [rF,lZ]
theorem Rb (h:(ni b.aM&&decide (b.bY.length<=40)&&(decide (1<=b.code.length)&&decide (b.code.length<=80)))=true) (h1:∀i,i<b.bY.length->sn (bX b.bY i)=true) 
  (h2:∀i,i<b.code.length->rF b.code i=true):lZ b=true:=by grind [lZ]
theorem Rc (hi:i<bs.length) (h:¬(lZ (bR bs i)=true∧oI bs (bR bs i).aM=i)):jt bs=false:=by
 unfold jt
 rw[dF (p:=∀i:Nat,i<bs.length->lZ (bR bs i)=true∧oI bs (bR bs i).aM=i) (λhh=>h (hh i hi))]
 rfl
theorem Rd (h:∀i,i<bs.length->lZ (bR bs i)=true∧oI bs (bR bs i).aM=i):
  jt bs=(decide (1<=bs.length)&&decide (bs.length<=40)&&decide ((bR bs 0).aM=[109,97,105,110])&&decide ((bR bs 0).bY.length=0)):=by grind [jt]
theorem Iw (h1:n1=b.bY.length) (h2:n2=b.code.length):(!ni b.aM||decide ((40:Int)<n1)||!(decide ((1:Int)<=n2)&&decide ((n2:Int)<=80)))=
  !(ni b.aM&&decide (b.bY.length<=40)&&(decide (1<=b.code.length)&&decide (b.code.length<=80))):=by grind
theorem Ly {code:List ai} {n:Nat} (hn:n=code.length) (hi:i<n):(!sq (bX code i)||(DO (bX code i) !=decide ((i:Int)=(n:Int)-1)))=!rF code i:=by grind [rF]
def Bk.small (b:Bk):Prop:=b.aM.length<1000000000∧b.bY.length<1000000000∧b.code.length<1000000000
def tI (bs:List Bk):Prop:=bs.length<1000000000∧∀i,i<bs.length->(bR bs i).small
theorem Re (hk:k<bs.length):lines (bs.take (k+1))=lines (bs.take k)+(bR bs k).code.length:=by
 unfold lines
 rw[List.take_succ_eq_append_getElem hk,List.map_append,List.sum_append]
 simp[gE hk]
theorem Rf (h:tI bs):∀k,k<=bs.length->lines (bs.take k)<=1000000000*k
 |0,_=>by simp[lines]
 |k+1,hk=>by
  have:=Rf h k om
  have h2:=(h.2 k om).2.2
  rw[Re om];omega
theorem Zu {n:Nat} (hn:n=bs.length) (fx:0<bs.length->n1=(bR bs 0).bY.length):
  ((decide ((1:Int)<=n)&&decide ((n:Int)<=40))&&decide ((bR bs 0).aM=[109,97,105,110])&&decide ((n1:Int)=0))=(decide (1<=bs.length)&&decide (bs.length<=40)&&decide ((bR bs 0).aM=[109,97,105,110])&&decide ((bR bs 0).bY.length=0)):=by grind
theorem Zv (s:ai):Lib.trimPrefix s [45]=er s:=by
 unfold Lib.trimPrefix Lib.hasPrefix er
 cases s with
 |nil=>simp
 |cons c r=>
  by_cases h:c=45
  ·subst h;simp
  ·have h2:((45:UInt8)==c)=false:=by simpa using λhe=>h he.symm
   simp[List.isPrefixOf,h2,h]
theorem Rg:∀(l:ai) (n:Nat),l.all gW=true->Lib.decFrom n l=some (l.foldl (λn c=>10*n+(c.toNat-48)) n)
 |[],n,_=>rfl
 |c::r,n,h=>by
  simp only[List.all_cons,aE] at h
  have hc:=(BS c).1 h.1
  have hd:Lib.digitVal c=some (c.toNat-48):=by unfold Lib.digitVal;rw[iP hc]
  simp only[Lib.decFrom,hd,List.foldl_cons]
  rw[show n*10+(c.toNat-48)=10*n+(c.toNat-48) from by omega]
  exact Rg r _ h.2
theorem Zw (hl:l≠[]) (h:l.all gW=true):Lib.decNat l=some (val l):=by
 unfold Lib.decNat
 rw[iN (by simpa using hl)]
 exact Rg l 0 h
theorem Zx {z:Int} (h:numeral s=some z):Lib.atoi s=some z:=by
 unfold numeral at h
 by_cases h0:s=[48]
 ·rw[iP h0] at h;subst h0;rw[<-h];decide
 ·rw[iN h0] at h
  by_cases h1:(er s).length<1∨3<(er s).length∨(er s).getD 0 0=48
  ·rw[iP h1] at h;cases h
  ·rw[iN h1] at h
   by_cases h2:(er s).all gW=true
   ·rw[iP h2] at h
    have dL:er s≠[]:=λhe=>h1 (.inl (by rw[he];simp))
    have hv:=Zw dL h2
    cases s with
    |nil=>exact absurd (by unfold er;simp) dL
    |cons c r=>
     by_cases hc:c=45
     ·subst hc
      have hd:er (45::r)=r:=by unfold er;simp
      have hs:qQ (45::r)= -1:=by unfold qQ;simp
      rw[hd] at hv h
      rw[hs] at h
      simp only[Lib.atoi,hv,beq_self_eq_true,if_true,Option.map_some]
      rw[<-h];simp
     ·have hd:er (c::r)=c::r:=by unfold er;simp[hc]
      have hs:qQ (c::r)=1:=by unfold qQ;simp[hc]
      rw[hd] at hv h h2
      rw[hs] at h
      have Rh:=(BS c).1 (by simp only[List.all_cons,aE] at h2;exact h2.1)
      have e1:(c==45)=false:=by simpa using hc
      have e2:(c==43)=false:=by
       have:c≠43:=λhe=>by rw[he] at Rh;exact absurd Rh.1 de
       simpa using this
      simp only[Lib.atoi,e1,e2,hv,Bool.false_eq_true,if_false,Option.map_some]
      rw[<-h];simp
   ·rw[iN h2] at h;cases h
theorem Ri {z:Int} (h:numeral s=some z):s.length<=4:=by grind [numeral,er]
theorem Zy (s:ai):(decide (s=[48])||(decide (1<=(er s).length)&&decide ((er s).length<=3)&&(er s).all gW&&decide ((er s).getD 0 0≠48)))=(numeral s).isSome:=by grind [er,gW,numeral]
theorem Zz (s:ai):((numeral s).isSome&&(decide (0<=(numeral s).getD 0)&&decide ((numeral s).getD 0<=39)))=uQ s:=by grind [numeral,uQ,zK]
theorem ZA (hk:k<s.length) (h:gW (s.getD k 0)=false):s.all gW=false:=by grind
theorem ZB (s:ai):(decide (s=[48])||(decide ((1:Int)<=((er s).length:Int))&&decide (((er s).length:Int)<=3)&&(er s).all gW&&decide ((((er s).getD 0 0).toNat:Int)≠48)))=(numeral s).isSome:=by
 rw[<-Zy,show decide ((1:Int)<=((er s).length:Int))=decide (1<=(er s).length) from decide_eq_decide.2 om,show decide (((er s).length:Int)<=3)=decide ((er s).length<=3) from decide_eq_decide.2 om,
  show decide ((((er s).getD 0 0).toNat:Int)≠48)=decide ((er s).getD 0 0≠48) from decide_eq_decide.2 (by
   have QP:(48:UInt8).toNat=48:=rfl
   constructor
   ·intro h h2;exact h (by rw[h2];rfl)
   ·intro h h2;exact h (UInt8.toNat_inj.1 om))]
def BV (ts:List aq) (g:aq->Bool):Int:=match ts.findIdx? g with
 |some i=>(i:Int)
 |none=> -1
theorem FT (h:i<ts.length):nth ts i=ts[i]:=by grind [nth]
theorem ZC {g:aq->Bool} (hk:k<ts.length) (h:∀i,i<k->g (nth ts i)=false) (hl:g (nth ts k)=true):BV ts g=(k:Int):=by
 have:ts.findIdx? g=some k:=by
  rw[List.findIdx?_eq_some_iff_getElem]
  refine⟨hk,by rw[<-FT hk];exact hl,λj hj=>?_⟩
  have:=h j hj
  rw[FT (Nat.lt_trans hj hk)] at this
  simpa using this
 unfold BV;rw[this]
theorem ZD {g:aq->Bool} (h:∀i,i<ts.length->g (nth ts i)=false):BV ts g= -1:=by grind [FT,BV,List.findIdx?_eq_none_iff,List.getElem_of_mem]
theorem ZE (ts:List aq) (g:aq->Bool):decide (0<=BV ts g)=ts.any g:=by grind [BV]
def gi (h:ai) (n:Nat):ai:=
 if h=[99,111,110,115,116] then[100,110]
 else if h=[109,111,118]∨h=[111,112,101,110] then[100,115]
 else if h=[97,100,100]∨h=[115,117,98]∨h=[109,117,108] then[100,115,115]
 else if h=[110,101,119] then[100]++List.replicate (n-2) 115
 else if h=[103,101,116] then[100,115,109]
 else if h=[108,97,98] then[100,108]
 else if h=[112,97,99,107] then[100,115,69,87]
 else if h=[122,101,114,111] then[115,108]
 else if h=[106,117,109,112]∨h=[104,97,108,116] then[115]
 else[]
def gz (z:Int) (t:aq):Bool:=
 if z=100∨z=115 then uQ t.aw else if z=110 then(numeral t.aw).isSome
 else if z=109 then(numeral t.aw).isSome&&decide (0<=(numeral t.aw).getD 0)
 else if z=108 then ni t.aw else if z=69 then(decide (t.ak.length=2)&&decide (cw t=[101]))&&fa false t
 else if z=87 then fa false t else false
def nS (t:aq):Bool:=
 if gi (cw t) t.ak.length=[]∨t.ak.length≠(gi (cw t) t.ak.length).length+1 then false
 else decide (∀i,i<(gi (cw t) t.ak.length).length->gz (((gi (cw t) t.ak.length).getD i 0).toNat:Int) (nth t.ak (i+1))=true)
theorem Ix (h:gi (cw t) t.ak.length=[]∨t.ak.length≠(gi (cw t) t.ak.length).length+1):nS t=false:=by
 unfold nS;rw[iP h]
theorem ZF (hi:i<(gi (cw t) t.ak.length).length) (h:gz (((gi (cw t) t.ak.length).getD i 0).toNat:Int) (nth t.ak (i+1))=false):nS t=false:=by grind [nS]
theorem ZG (h:¬(gi (cw t) t.ak.length=[]∨t.ak.length≠(gi (cw t) t.ak.length).length+1)) 
  (ha:∀i,i<(gi (cw t) t.ak.length).length->gz (((gi (cw t) t.ak.length).getD i 0).toNat:Int) (nth t.ak (i+1))=true):nS t=true:=by grind [nS]
theorem shift {n:Nat} {P Q:Nat->Prop} (h:∀i,i<n->(P i↔Q (i+1))):(∀i,i<n->P i)↔(∀i,i<n+1->1<=i->Q i):=by
 constructor
 ·intro hp i hi h1
  have:=(h (i-1) om).1 (hp (i-1) om)
  rwa [show i-1+1=i from by omega] at this
 ·intro hq i hi
  exact(h i hi).2 (hq (i+1) om om)
theorem zQ (σ τ:ai) (ex:Nat->aq->Bool) (h1:gi (cw t) t.ak.length=σ) (h2:shapeOf (cw t)=τ) (hl:σ.length=τ.length) (dL:τ≠[]) (ZH:τ≠[114,42]) 
  (hp:∀i u,i<τ.length->gz ((σ.getD i 0).toNat:Int) u=(iV ((τ.getD i 0).toNat:Int) u&&ex i u))
  (hx:t.ak.length=τ.length+1->(decide (cw t≠[103,101,116])||decide (0<=(numeral (nth t.ak 3).aw).getD 0))=decide (∀i,i<τ.length->ex i (nth t.ak (i+1))=true)):nS t=lr t:=by
 have hτ:1<=τ.length:=List.length_pos_iff.2 dL
 have hσ:σ≠[]:=λh=>by rw[h] at hl;simp at hl;omega
 by_cases hn:t.ak.length=τ.length+1
 ·unfold nS lr sk
  rw[h1,h2,iN (by rw[hl];rintro(h|h);exact hσ h;exact h hn),iN dL,hx hn]
  rw[iN (by rw[dF (p:=t.ak.length≠τ.length+1) om,dF (p:=t.ak.length<2) om];simp),<-Bool.decide_and,decide_eq_decide,hl,hn]
  rw[<-shift (P:=λi=>iV ((τ.getD i 0).toNat:Int) (nth t.ak (i+1))=true) (λi hi=>by
   unfold tH Lt
   rw[h2,show min (i+1) τ.length-1=i from by omega])]
  constructor
  ·intro h
   refine⟨λi hi=>?_,λi hi=>?_⟩<;>
   ·have:=h i hi
    rw[hp i _ hi,aE] at this
    first|exact this.1|exact this.2
  ·rintro⟨ha,hb⟩ i hi
   rw[hp i _ hi,ha i hi,hb i hi];rfl
 ·rw[Ix (.inr (by rw[h1,hl];exact hn)),Lw]
  unfold sk
  rw[h2,dT ZH,dT hn];rfl
theorem ZI (n:Nat) (u:Nat->aq):decide (∀i,i<n->(fun(_:Nat) (_:aq)=>true) i (u i)=true)=true:=by grind
theorem ZJ (u:aq):((decide (u.ak.length=2)&&decide (cw u=[101]))&&fa false u)=(decide (cw u=[101])&&fa false u):=by grind [FQ,cS.length,FP,gh,Lq]
theorem ZK {n:Nat} {P:Nat->Prop} (h:n<=4) (h0:P 0) (h1:2<=n->P 1) (h2:3<=n->P 2) (h3:4<=n->P 3):∀i,i<n->P i:=by grind
theorem zR {σ τ:ai} {ex:Nat->aq->Bool} (hl:τ.length<=4) (h0:∀u,gz ((σ.getD 0 0).toNat:Int) u=(iV ((τ.getD 0 0).toNat:Int) u&&ex 0 u)) (h1:∀u,2<=τ.length->gz ((σ.getD 1 0).toNat:Int) u=(iV ((τ.getD 1 0).toNat:Int) u&&ex 1 u)) 
  (h2:∀u,3<=τ.length->gz ((σ.getD 2 0).toNat:Int) u=(iV ((τ.getD 2 0).toNat:Int) u&&ex 2 u)) (h3:∀u,4<=τ.length->gz ((σ.getD 3 0).toNat:Int) u=(iV ((τ.getD 3 0).toNat:Int) u&&ex 3 u)):
  ∀i u,i<τ.length->gz ((σ.getD i 0).toNat:Int) u=(iV ((τ.getD i 0).toNat:Int) u&&ex i u):=by grind
theorem Rj (u:aq):gz 100 u=uQ u.aw:=by simp[gz]
theorem Rk (u:aq):gz 115 u=uQ u.aw:=by simp[gz]
theorem ZL (u:aq):gz 110 u=(numeral u.aw).isSome:=by simp[gz]
theorem ZM (u:aq):gz 109 u=((numeral u.aw).isSome&&decide (0<=(numeral u.aw).getD 0)):=by simp[gz]
theorem ZN (u:aq):gz 108 u=ni u.aw:=by simp[gz]
theorem ZO (u:aq):gz 69 u=((decide (u.ak.length=2)&&decide (cw u=[101]))&&fa false u):=by simp[gz]
theorem ZP (u:aq):gz 87 u=fa false u:=by simp[gz]
theorem Lz (u:aq):iV 114 u=uQ u.aw:=by simp[iV]
theorem ZQ (u:aq):iV 42 u=uQ u.aw:=by simp[iV]
theorem Rl (u:aq):iV 110 u=(numeral u.aw).isSome:=by simp[iV]
theorem ZR (u:aq):iV 108 u=ni u.aw:=by simp[iV]
theorem ZS (u:aq):iV 101 u=(decide (cw u=[101])&&fa false u):=by simp[iV]
theorem ZT (u:aq):iV 119 u=fa false u:=by simp[iV]
theorem DP (u:aq):gz 100 u=(iV 114 u&&true):=by rw[Rj,Lz,Bool.and_true]
theorem BW (u:aq):gz 115 u=(iV 114 u&&true):=by rw[Rk,Lz,Bool.and_true]
theorem ZU (u:aq):gz 110 u=(iV 110 u&&true):=by rw[ZL,Rl,Bool.and_true]
theorem ZV (u:aq):gz 109 u=(iV 110 u&&decide (0<=(numeral u.aw).getD 0)):=by rw[ZM,Rl]
theorem Rm (u:aq):gz 108 u=(iV 108 u&&true):=by rw[ZN,ZR,Bool.and_true]
theorem ZW (u:aq):gz 69 u=(iV 101 u&&true):=by rw[ZO,ZS,Bool.and_true,ZJ]
theorem ZX (u:aq):gz 87 u=(iV 119 u&&true):=by rw[ZP,ZT,Bool.and_true]
theorem ZY (h:cw t=[110,101,119]):nS t=lr t:=by
 have h1:gi (cw t) t.ak.length=[100]++List.replicate (t.ak.length-2) 115:=by rw[h];rfl
 have h2:shapeOf (cw t)=[114,42]:=by rw[h];rfl
 have hl:(gi (cw t) t.ak.length).length=t.ak.length-2+1:=by rw[h1];simp
 by_cases hn:2<=t.ak.length
 ·unfold nS lr sk
  rw[iN (by rw[hl];rintro(hh|hh);(·rw[h1] at hh;simp at hh);(·omega)),h2,iN de,
   iN (by rw[dF (p:=t.ak.length<2) om];simp),dT (p:=cw t≠[103,101,116]) (by rw[h];decide),Bool.true_or,Bool.and_true,decide_eq_decide,hl]
  rw[show(∀i,i<t.ak.length->1<=i->tH t i=true)↔(∀i,i<(t.ak.length-2+1)+1->1<=i->tH t i=true) from by rw[show t.ak.length-2+1+1=t.ak.length from by omega]]
  refine shift λi hi=>?_
  have e1:gz (((gi (cw t) t.ak.length).getD i 0).toNat:Int) (nth t.ak (i+1))=uQ (nth t.ak (i+1)).aw:=by
   rw[h1]
   cases i with
   |zero=>exact Rj _
   |succ i=>
    have:([100]++List.replicate (t.ak.length-2) (115:UInt8)).getD (i+1) 0=115:=by
     simp[List.getD,show i<t.ak.length-2 from by omega]
    rw[this];exact Rk _
  have e2:tH t (i+1)=uQ (nth t.ak (i+1)).aw:=by
   unfold tH Lt
   rw[h2]
   cases i with
   |zero=>exact Lz _
   |succ i=>rw[show min (i+1+1) ([114,42]:ai).length-1=1 from by simp];exact ZQ _
  rw[e1,e2]
 ·rw[Ix (.inr (by rw[hl];omega)),Lw]
  unfold sk;rw[dT (p:=t.ak.length<2) om,Bool.or_true]
theorem Ro (t:aq):nS t=lr t:=by
 have nog:∀{τ:ai},cw t≠[103,101,116]->(t.ak.length=τ.length+1->(decide (cw t≠[103,101,116])||decide (0<=(numeral (nth t.ak 3).aw).getD 0))=decide (∀i,i<τ.length->(fun(_:Nat) (_:aq)=>true) i (nth t.ak (i+1))=true)):=by
  intro τ h _;rw[ZI _ (λi=>nth t.ak (i+1)),dT h];rfl
 by_cases c1:cw t=[99,111,110,115,116]
 ·exact zQ [100,110] [114,110] (λ_ _=>true) (by rw[c1];rfl) (by rw[c1];rfl) rfl de de
   (zR de (λu=>DP u) (λu _=>ZU u) (λ_ h=>absurd h de) (λ_ h=>absurd h de)) (nog (by rw[c1];decide))
 by_cases c2:cw t=[109,111,118]∨cw t=[111,112,101,110]
 ·exact zQ [100,115] [114,114] (λ_ _=>true) (by rcases c2 with c|c<;>rw[c]<;>rfl) (by rcases c2 with c|c<;>rw[c]<;>rfl) rfl de de
   (zR de (λu=>DP u) (λu _=>BW u) (λ_ h=>absurd h de) (λ_ h=>absurd h de)) (nog (by rcases c2 with c|c<;>rw[c]<;>decide))
 by_cases c3:cw t=[97,100,100]∨cw t=[115,117,98]∨cw t=[109,117,108]
 ·exact zQ [100,115,115] [114,114,114] (λ_ _=>true) (by rcases c3 with c|c|c<;>rw[c]<;>rfl) (by rcases c3 with c|c|c<;>rw[c]<;>rfl) rfl de de
   (zR de (λu=>DP u) (λu _=>BW u) (λu _=>BW u) (λ_ h=>absurd h de)) (nog (by rcases c3 with c|c|c<;>rw[c]<;>decide))
 by_cases c4:cw t=[110,101,119]
 ·exact ZY c4
 by_cases c5:cw t=[103,101,116]
 ·refine zQ [100,115,109] [114,114,110] (λi u=>if i=2 then decide (0<=(numeral u.aw).getD 0) else true) (by rw[c5];rfl) (by rw[c5];rfl) rfl de de
   (zR de (λu=>DP u) (λu _=>BW u) (λu _=>ZV u) (λ_ h=>absurd h de)) (λ_=>?_)
  rw[show decide (cw t≠[103,101,116])=false from dF (λh=>h c5),Bool.false_or]
  refine decide_eq_decide.2 ⟨λh=>ZK de rfl (λ_=>rfl) (λ_=>by simpa using h) (λh=>by simp at h),λh=>by simpa using h 2 de⟩
 by_cases c6:cw t=[108,97,98]
 ·exact zQ [100,108] [114,108] (λ_ _=>true) (by rw[c6];rfl) (by rw[c6];rfl) rfl de de
   (zR de (λu=>DP u) (λu _=>Rm u) (λ_ h=>absurd h de) (λ_ h=>absurd h de)) (nog (by rw[c6];decide))
 by_cases c7:cw t=[112,97,99,107]
 ·exact zQ [100,115,69,87] [114,114,101,119] (λ_ _=>true) (by rw[c7];rfl) (by rw[c7];rfl) rfl de de
   (zR de (λu=>DP u) (λu _=>BW u) (λu _=>ZW u) (λu _=>ZX u)) (nog (by rw[c7];decide))
 by_cases c8:cw t=[122,101,114,111]
 ·exact zQ [115,108] [114,108] (λ_ _=>true) (by rw[c8];rfl) (by rw[c8];rfl) rfl de de
   (zR de (λu=>BW u) (λu _=>Rm u) (λ_ h=>absurd h de) (λ_ h=>absurd h de)) (nog (by rw[c8];decide))
 by_cases c9:cw t=[106,117,109,112]∨cw t=[104,97,108,116]
 ·exact zQ [115] [114] (λ_ _=>true) (by rcases c9 with c|c<;>rw[c]<;>rfl) (by rcases c9 with c|c<;>rw[c]<;>rfl) rfl de de
   (zR de (λu=>BW u) (λ_ h=>absurd h de) (λ_ h=>absurd h de) (λ_ h=>absurd h de)) (nog (by rcases c9 with c|c<;>rw[c]<;>decide))
 ·have e1:gi (cw t) t.ak.length=[]:=by unfold gi;rw[iN c1,iN c2,iN c3,iN c4,iN c5,iN c6,iN c7,iN c8,iN c9]
  have e2:shapeOf (cw t)=[]:=by unfold shapeOf;rw[iN c1,iN c2,iN c3,iN c4,iN c5,iN (λh=>by rcases h with h|h;exact c6 h;exact c8 h),iN c7,iN c9]
  rw[Ix (.inl e1),Q6 e2]
theorem ZZ (h:ai) (n:Nat):(gi h n).length<=n+4:=by grind [gi]
theorem LA (h:WF t):2<=t.size:=by
 cases h with
 |aw a ha=>have:=List.length_pos_iff.2 ha;simp only[aq.size];omega
 |list ps hp hw=>
  cases ps with
  |nil=>exact absurd rfl hp
  |cons q r=>cases q;simp only[aq.size,aq.size.sizes];omega
theorem Rp:∀{ps:List aq},(∀p,p∈ps->WF p)->2*ps.length<=aq.size.sizes ps
 |[],_=>by simp[aq.size.sizes]
 |q::ps,h=>by
  have h1:=LA (h q sm)
  have h2:=Rp (ps:=ps) (λp hp=>h p (by simp[hp]))
  simp only[aq.size.sizes,lC];omega
theorem Z0 (h:WF t):2*t.ak.length+1<=t.size:=by cases h<;>grind [aq.ak,aq.size,Rp]
def FU (t:aq):Bool:=decide (cw t=[106,117,109,112])||decide (cw t=[104,97,108,116])
theorem Z1 (h:lr t=true):cw t=(nth t.ak 0).aw:=by grind [lr,cw,nth,aq.ak,Lu]
theorem Z2 (h:lr t=true):Iv t=FU t:=by
 unfold Iv FU;rw[h,Z1 h];rfl
inductive Good:aq->Prop
 |aw (a:ai) (h:a≠[]) (hb:a.all eT=true):Good (.mk a [])
 |list (ps:List aq) (h:ps≠[]) (hp:∀p,p∈ps->Good p):Good (.mk [] ps)
theorem Good.wf (h:Good t):WF t:=by
 induction h with
 |aw a h _=>exact .aw a h
 |list ps h _ ih=>exact .list ps h ih
def aq.depth:aq->Nat
 | .mk _ ps=>deeps ps
 where deeps:List aq->Nat
 |[]=>0
 |t::ts=>max (t.depth+1) (deeps ts)
theorem Z3:∀{p:aq},p∈ps->p.depth+1<=aq.depth.deeps ps:=by
 induction ps with
 |nil=>intro p h;simp at h
 |cons q ps ih=>
  intro p h
  rcases mC.1 h with rfl|h
  ·simp only[aq.depth.deeps];omega
  ·have:=ih h;simp only[aq.depth.deeps];omega
theorem LB:∀{ps:List aq},(∀p,p∈ps->p.depth+1<=d)->aq.depth.deeps ps<=d
 |[],_=>by simp[aq.depth.deeps]
 |q::ps,h=>by
  have h1:=h q sm
  have h2:=LB (ps:=ps) (λp hp=>h p (by simp[hp]))
  simp only[aq.depth.deeps];omega
theorem qR {a:ai} (h:a≠[]):(aq.mk a ps).text=a:=by simp[aq.text,h]
theorem sr (ps:List aq):(aq.mk [] ps).text=40::(kT ps++[41]):=by simp[aq.text]
theorem qS (t:aq):kT [t]=t.text:=by simp[kT]
theorem qT (t u:aq) (r:List aq):kT (t::u::r)=t.text++32::kT (u::r):=by simp[kT]
theorem Rq {rd:ai->Option (aq×ai)} (eI:∀s t r,rd s=some (t,r)->s=t.text++r):∀n s ts r,iu rd n s=some (ts,r)->ts≠[]∧s=kT ts++41::r
 |0,_,_,_,h=>by simp[iu] at h
 |n+1,s,ts,r,h=>by
  unfold iu at h
  cases hr:rd s with
  |none=>simp[hr] at h
  |some q=>
   obtain⟨t,r1⟩:=q
   have ht:=eI s t r1 hr
   simp only[hr] at h
   cases r1 with
   |nil=>simp at h
   |cons c r'=>
    simp only at h
    by_cases h1:c=41
    ·rw[iP h1] at h
     simp at h
     obtain⟨rfl,rfl⟩:=h
     exact⟨by simp,by rw[ht,h1,qS]⟩
    ·rw[iN h1] at h
     by_cases h2:c=32
     ·rw[iP h2] at h
      cases hp:iu rd n r' with
      |none=>simp[hp] at h
      |some q=>
       obtain⟨ts',r''⟩:=q
       simp[hp] at h
       obtain⟨rfl,rfl⟩:=h
       obtain⟨h4,h5⟩:=Rq eI n r' ts' r'' hp
       cases ts' with
       |nil=>exact absurd rfl h4
       |cons u us=>exact⟨by simp,by rw[ht,h2,qT,h5];simp⟩
     ·rw[iN h2] at h;cases h
theorem Z4:∀d s t r,ei d s=some (t,r)->s=t.text++r:=by
 have leaf:∀(s:ai) (t:aq) (r:ai),(if s.takeWhile eT=[] then none else some (aq.mk (s.takeWhile eT) [],s.dropWhile eT))=some (t,r)->s=t.text++r:=by
  intro s t r h
  split at h
  ·cases h
  ·rename_i hn
   simp only[Option.some.injEq,Prod.mk.injEq] at h
   rw[<-h.1,<-h.2,qR hn,List.takeWhile_append_dropWhile]
 intro d
 induction d with
 |zero=>
  intro s t r h
  cases s with
  |nil=>simp[ei] at h
  |cons c s=>
   simp only[ei] at h
   by_cases h1:c=40
   ·rw[iP h1] at h;cases h
   ·rw[iN h1] at h;exact leaf _ _ _ h
 |succ d ih=>
  intro s t r h
  cases s with
  |nil=>simp[ei] at h
  |cons c s=>
   simp only[ei] at h
   by_cases h1:c=40
   ·rw[iP h1] at h
    cases hp:iu (ei d) (s.length+1) s with
    |none=>simp[hp] at h
    |some q=>
     obtain⟨ts',r''⟩:=q
     simp[hp] at h
     obtain⟨h3,h4⟩:=Rq ih _ _ _ _ hp
     rw[<-h.1,<-h.2,sr,h1,h4];simp
   ·rw[iN h1] at h;exact leaf _ _ _ h
theorem Rr {rd:ai->Option (aq×ai)} (d:Nat) (eI:∀s t r,rd s=some (t,r)->Good t∧t.depth<=d):∀n s ts r,iu rd n s=some (ts,r)->ts≠[]∧∀p,p∈ts->Good p∧p.depth<=d
 |0,_,_,_,h=>by simp[iu] at h
 |n+1,s,ts,r,h=>by
  unfold iu at h
  cases hr:rd s with
  |none=>simp[hr] at h
  |some q=>
   obtain⟨t,r1⟩:=q
   have ht:=eI s t r1 hr
   simp only[hr] at h
   cases r1 with
   |nil=>simp at h
   |cons c r'=>
    simp only at h
    by_cases h1:c=41
    ·rw[iP h1] at h
     simp at h
     obtain⟨rfl,_⟩:=h
     exact⟨by simp,by intro p hp;simp at hp;subst hp;exact ht⟩
    ·rw[iN h1] at h
     by_cases h2:c=32
     ·rw[iP h2] at h
      cases hp:iu rd n r' with
      |none=>simp[hp] at h
      |some q=>
       obtain⟨ts',r''⟩:=q
       simp[hp] at h
       obtain⟨rfl,_⟩:=h
       obtain⟨_,h4⟩:=Rr d eI n r' ts' r'' hp
       exact⟨by simp,by intro p hp;rcases mC.1 hp with rfl|hp;exact ht;exact h4 p hp⟩
     ·rw[iN h2] at h;cases h
theorem all_takeWhile (p:UInt8->Bool):∀s:ai,(s.takeWhile p).all p=true:=by simp_all
theorem Z5:∀d s t r,ei d s=some (t,r)->Good t∧t.depth<=d:=by
 have leaf:∀(d:Nat) (s:ai) (t:aq) (r:ai),(if s.takeWhile eT=[] then none else some (aq.mk (s.takeWhile eT) [],s.dropWhile eT))=some (t,r)->Good t∧t.depth<=d:=by
  intro d s t r h
  split at h
  ·cases h
  ·rename_i hn
   simp only[Option.some.injEq,Prod.mk.injEq] at h
   rw[<-h.1];exact⟨.aw _ hn (all_takeWhile _ _),by simp[aq.depth,aq.depth.deeps]⟩
 intro d
 induction d with
 |zero=>
  intro s t r h
  cases s with
  |nil=>simp[ei] at h
  |cons c s=>
   simp only[ei] at h
   by_cases h1:c=40
   ·rw[iP h1] at h;cases h
   ·rw[iN h1] at h;exact leaf _ _ _ _ h
 |succ d ih=>
  intro s t r h
  cases s with
  |nil=>simp[ei] at h
  |cons c s=>
   simp only[ei] at h
   by_cases h1:c=40
   ·rw[iP h1] at h
    cases hp:iu (ei d) (s.length+1) s with
    |none=>simp[hp] at h
    |some q=>
     obtain⟨ts',r''⟩:=q
     simp[hp] at h
     obtain⟨h3,h4⟩:=Rr d ih _ _ _ _ hp
     rw[<-h.1]
     exact⟨.list _ h3 (λp hp=>(h4 p hp).1),LB (λp hp=>by have:=(h4 p hp).2;omega)⟩
   ·rw[iN h1] at h;exact leaf _ _ _ _ h
def Stop (r:ai):Prop:=∀c,r[0]?=some c->eT c=false
theorem LC {p:UInt8->Bool}:∀{a r:ai},a.all p=true->(∀c,r[0]?=some c->p c=false)->(a++r).takeWhile p=a∧(a++r).dropWhile p=r
 |[],[],_,_=>⟨rfl,rfl⟩
 |[],c::r,_,h=>by have:=h c rfl;simp[this]
 |c::a,r,ha,h=>by
  simp only[List.all_cons,aE] at ha
  obtain⟨h1,h2⟩:=LC (a:=a) ha.2 h
  simp[ha.1,h1,h2]
theorem Rs (h:Good t):∃c r,t.text=c::r:=by
 cases h with
 |aw a ha _=>
  rw[qR ha]
  cases a with
  |nil=>exact absurd rfl ha
  |cons c r=>exact⟨c,r,rfl⟩
 |list ps _ _=>exact⟨_,_,sr ps⟩
theorem Rt {rd:ai->Option (aq×ai)}:∀(ts:List aq) (n:Nat) (r:ai),ts≠[]->ts.length<=n->(∀t,t∈ts->∀r,Stop r->rd (t.text++r)=some (t,r))->iu rd n (kT ts++41::r)=some (ts,r)
 |[],_,_,h,_,_=>absurd rfl h
 |[t],n,r,_,hn,h=>by
  cases n with
  |zero=>simp at hn
  |succ n=>
   unfold iu
   rw[qS,h t sm (41::r) (by intro c hc;simp at hc;subst hc;decide)]
   simp
 |t::u::us,n,r,_,hn,h=>by
  cases n with
  |zero=>simp at hn
  |succ n=>
   unfold iu
   rw[qT,List.append_assoc,List.cons_append,h t sm (32::(kT (u::us)++41::r)) (by intro c hc;simp at hc;subst hc;decide)]
   have:=Rt (rd:=rd) (u::us) n r sm (by simp at hn⊢;omega) (λt ht=>h t (by simp at ht⊢;exact .inr ht))
   simp[this]
theorem Ru:∀ts:List aq,(∀t,t∈ts->Good t)->ts.length<=(kT ts).length
 |[],_=>by simp
 |[t],h=>by obtain⟨c,r,e⟩:=Rs (h t sm);rw[qS,e];simp
 |t::u::us,h=>by
  have:=Ru (u::us) (λt ht=>h t (by simp at ht⊢;exact .inr ht))
  rw[qT];simp at this⊢;omega
theorem LD:∀(d:Nat) (t:aq) (r:ai),Good t->t.depth<=d->Stop r->ei d (t.text++r)=some (t,r):=by
 intro d
 induction d with
 |zero=>
  intro t r hg hd hr
  cases hg with
  |aw a ha hb=>
   obtain⟨c,a',rfl⟩:∃c a',a=c::a':=by cases a with|nil=>exact absurd rfl ha|cons c r=>exact⟨c,r,rfl⟩
   rw[qR ha,List.cons_append,FK 0 c _ (by rintro rfl;simp at hb;exact absurd hb.1 de)]
   obtain⟨h1,h2⟩:=LC hb hr
   rw[List.cons_append] at h1 h2
   rw[h1,h2,iN sm]
  |list ps hp hw=>
   cases ps with
   |nil=>exact absurd rfl hp
   |cons q ps=>simp[aq.depth,aq.depth.deeps] at hd
 |succ d ih=>
  intro t r hg hd hr
  cases hg with
  |aw a ha hb=>
   obtain⟨c,a',rfl⟩:∃c a',a=c::a':=by cases a with|nil=>exact absurd rfl ha|cons c r=>exact⟨c,r,rfl⟩
   rw[qR ha,List.cons_append,FK (d+1) c _ (by rintro rfl;simp at hb;exact absurd hb.1 de)]
   obtain⟨h1,h2⟩:=LC hb hr
   rw[List.cons_append] at h1 h2
   rw[h1,h2,iN sm]
  |list ps hp hw=>
   rw[sr,List.cons_append,DJ]
   have:=Rt (rd:=ei d) ps ((kT ps++[41]++r).length+1) r hp (by have:=Ru ps hw;simp at this⊢;omega)
    (λt ht r hr=>ih t r (hw t ht) (by have:=Z3 ht;simp only[aq.depth] at hd;omega) hr)
   unfold mq
   rw[show rT (d+1)=ei d from funext λ_=>rfl]
   rw[show kT ps++[41]++r=kT ps++41::r from by simp] at this⊢
   rw[this];rfl
theorem LF {u:aq} (h:Good t) (k:Good u) (e:t.text=u.text):t=u:=by
 have h1:=LD (max t.depth u.depth) t [] h om (by intro c hc;simp at hc)
 have h2:=LD (max t.depth u.depth) u [] k om (by intro c hc;simp at hc)
 rw[e,h2] at h1
 simp at h1;exact h1.symm
theorem wk (h:bA s=some t):Good t∧t.depth<=60∧t.text=s∧s.length<=12000:=by
 have hs:=Lo h
 unfold bA at h
 split at h
 ·cases h
 ·cases hr:ei 60 s with
  |none=>rw[hr] at h;cases h
  |some q=>
   obtain⟨t',r⟩:=q
   rw[hr] at h
   cases r with
   |nil=>
    simp at h;subst h
    have h1:=Z5 _ _ _ _ hr
    have h2:=Z4 _ _ _ _ hr
    exact⟨h1.1,h1.2,by rw[h2];simp,hs⟩
   |cons c r=>cases h
theorem Z6 (h:Good t):bA t.text=if t.depth<=60∧t.text.length<=12000 then some t else none:=by
 split
 ·rename_i hc
  unfold bA
  have:=LD 60 t [] h hc.1 (by intro c hc;simp at hc)
  rw[List.append_nil] at this
  rw[iN om,this]
 ·rename_i hc
  cases hp:bA t.text with
  |none=>rfl
  |some u=>
   obtain⟨h1,h2,h3,h4⟩:=wk hp
   have:=LF h1 h h3
   subst this
   exact absurd ⟨h2,h4⟩ hc
theorem LG (h:Good t) (hd:t.depth<=60) (hl:t.text.length<=12000):bA t.text=some t:=by grind [Z6]
def aq.len:aq->Nat
 | .mk a ps=>if ps=[] then a.length else 1+lens ps
 where lens:List aq->Nat
 |[]=>0
 |t::ts=>t.len+1+lens ts
theorem Rv:∀ps:List aq,ps≠[]->(∀p,p∈ps->p.len=p.text.length)->aq.len.lens ps=(kT ps).length+1
 |[],h,_=>absurd rfl h
 |[t],_,h=>by rw[qS];simp only[aq.len.lens,h t sm]
 |t::u::us,_,h=>by
  have:=Rv (u::us) sm (λp hp=>h p (by simp at hp⊢;exact .inr hp))
  rw[qT]
  simp only[aq.len.lens,h t sm,lA,lC] at this⊢
  omega
theorem LH (h:WF t):t.len=t.text.length:=by
 induction h with
 |aw a ha=>rw[qR ha];simp[aq.len]
 |list ps hp _ ih=>
  rw[sr]
  simp only[aq.len,hp,if_false,Rv ps hp ih,lC,lA,List.length_nil]
  omega
structure dw where
 aM:ai
 regs:List aq
 code:List aq
def tr (s:ai):aq:=(bA s).getD (.mk [] [])
theorem Rw (h:bA s=some t):tr s=t:=by unfold tr;rw[h];rfl
def dQ (b:Bk):dw:=⟨b.aM,b.bY.map tr,b.code.map tr⟩
def BX (b:Bk):Bool:=decide (b.aM.length<=12000)
def nT (b:Bk):Bool:=lZ b&&BX b
def nj (bs:List Bk):Bool:=jt bs&&bs.all BX
def bJ (a:ai):aq:=.mk a []
def wm (h:ai) (ts:List aq):aq:=.mk [] (bJ h::ts)
def qe (ps:List ai):ai:=ps.flatMap λp=>32::p
def dR (h:ai) (ps:List ai):ai:=40::(h++qe ps++[41])
theorem Rx (t:aq):∀ts:List aq,kT (t::ts)=t.text++qe (ts.map aq.text)
 |[]=>by rw[qS];simp[qe]
 |u::us=>by rw[qT,Rx u us];simp[qe]
theorem Ry (hh:h≠[]) (ts:List aq):(wm h ts).text=dR h (ts.map aq.text):=by
 unfold wm dR
 rw[sr,Rx];simp[bJ,qR hh]
theorem Z7 (h1:h≠[]) (h2:h.all eT=true) (hp:∀t,t∈ts->Good t):Good (wm h ts):=by
 refine .list _ sm λp rG=>?_
 rcases mC.1 rG with rfl|rG
 ·exact .aw _ h1 h2
 ·exact hp p rG
theorem Rz (h:lZ b=true):ni b.aM=true∧(∀s,s∈b.bY->∃t,bA s=some t∧fa false t=true)∧∀s,s∈b.code->∃t,bA s=some t∧lr t=true:=by
 unfold lZ at h
 simp only[aE,dE] at h
 obtain⟨⟨⟨⟨h1,_⟩,_⟩,h2⟩,h3⟩:=h
 refine⟨h1,λs hs=>?_,λs hs=>?_⟩
 ·obtain⟨i,hi,rfl⟩:=List.getElem_of_mem hs
  have:=h2 i hi
  rw[bX,gG,gE hi] at this
  simp only[Option.getD_some] at this
  unfold sn seen at this
  cases hp:bA b.bY[i] with
  |none=>rw[hp] at this;cases this
  |some t=>rw[hp] at this;exact⟨t,rfl,this⟩
 ·obtain⟨i,hi,rfl⟩:=List.getElem_of_mem hs
  have:=h3 i hi
  unfold rF at this
  rw[aE] at this
  have:=this.1
  rw[bX,gG,gE hi] at this
  simp only[Option.getD_some] at this
  unfold sq seen at this
  cases hp:bA b.code[i] with
  |none=>rw[hp] at this;cases this
  |some t=>rw[hp] at this;exact⟨t,rfl,this⟩
theorem FV (h:jt bs=true):∀b,b∈bs->lZ b=true:=by grind [jt,List.getElem_of_mem,gE]
def Iy (t:aq):Bool:=decide (t.depth<=60)&&decide (t.len<=12000)
def RA:List aq->ai
 |[]=>[]
 |h::_=>h.aw
mutual
def FW (y:aq):aq->aq
 | .mk a ps=>if a=[118] then y else if a≠[]∨RA ps=[101] then .mk a ps else .mk [] (RB y ps)
def RB (y:aq):List aq->List aq
 |[]=>[]
 |t::ts=>FW y t::RB y ts
end
/-! ### States -/
abbrev TS:=List (Option aq)
def Z8 (a:ai):Nat:=(zK a).toNat
def Z9 (st:TS) (a:ai):Option aq:=st.getD (Z8 a) none
def aT (n:Nat):ai:=if n<10 then[UInt8.ofNat (48+n)] else aT (n/10)++[UInt8.ofNat (48+n%10)]
 termination_by n
def DN (st:TS):List aq->Option (List aq)
 |[]=>some []
 |u::us=>(Z9 st u.aw).bind λx=>(DN st us).map λxs=>x::xs
theorem aaa (h:Lib.hasPrefix s [40]=true):∃r,s=40::r:=by
 cases s with
 |nil=>simp[Lib.hasPrefix,List.isPrefixOf] at h
 |cons c r=>simp[Lib.hasPrefix,List.isPrefixOf] at h;exact⟨r,by rw[h]⟩
theorem aab (h:Lib.hasPrefix s [40]=false):∀c r,s=c::r->c≠40:=by
 rintro c r rfl rfl
 simp[Lib.hasPrefix,List.isPrefixOf] at h
theorem aac (h:Lib.hasPrefix s [40]=false) (d:Nat):ei d s=if s.takeWhile eT=[] then none else some (.mk (s.takeWhile eT) [],s.dropWhile eT):=by
 cases s with
 |nil=>rw[Qo];simp
 |cons c r=>rw[FK d c r (aab h c r rfl)]
theorem aad (h:ei d s=none):mq (d+1) s=none:=by rw[FJ];show(match ei d s with|none=>none|some (t,r)=>_)=none;rw[h]
theorem aae (h:ei d s=some (t,[])):mq (d+1) s=none:=by rw[FJ];show(match ei d s with|none=>none|some (t,r)=>_)=none;rw[h]
theorem RC {c:UInt8} (h:ei d s=some (t,c::r)):mq (d+1) s=if c=41 then some ([t],r) else if c=32 then(mq (d+1) r).map λp=>(t::p.1,p.2) else none:=by
 rw[FJ];show(match ei d s with|none=>none|some (t,r)=>_)=_;rw[h]
theorem LI:(s.drop k).take (s.length-k)=s.drop k:=List.take_of_length_le sm
theorem Iz {c:UInt8} (hk:k<256):decide ((c.toNat:Int)≠(k:Int))=decide (c≠UInt8.ofNat k):=decide_eq_decide.2 (by
 have e:(UInt8.ofNat k).toNat=k:=by simp;omega
 constructor
 ·intro h h2;rw[h2,e] at h;exact h rfl
 ·intro h h2;exact h (UInt8.toNat_inj.1 (by rw[e];omega)))
def zS (d:Nat) (s:ai) (t:aq) (r:ai) (ok:Bool):Prop:=(ei d s=some (t,r)∧ok=true)∨(ei d s=none∧ok=false)
theorem zS.le {ok:Bool} (h:zS d s t r ok) (ho:ok=true):ei d s=some (t,r)∧r.length<s.length:=by
 rcases h with⟨h,_⟩|⟨_,h⟩
 ·obtain⟨k,h1,h2,rfl⟩:=Ik d s t r h
  exact⟨h,by simp;omega⟩
 ·rw[ho] at h;cases h
theorem aaf {ok:Bool} (hm:zS d s t r ok) (h:((!ok||decide (r=[]))||(decide (((r.getD 0 0).toNat:Int)≠32)&&decide (((r.getD 0 0).toNat:Int)≠41)))=true):mq (d+1) s=none:=by
 rcases hm with⟨hr,rfl⟩|⟨hr,rfl⟩
 ·cases r with
  |nil=>exact aae hr
  |cons c r=>
   rw[RC hr]
   simp only[Bool.not_true,Bool.false_or,List.getD_cons_zero,show decide (c::r=[])=false from by simp] at h
   rw[show(32:Int)=((32:Nat):Int) from rfl,show(41:Int)=((41:Nat):Int) from rfl,Iz de,Iz de,aE] at h
   have h1:¬c=32:=of_decide_eq_true h.1
   have h2:¬c=41:=of_decide_eq_true h.2
   rw[iN h2,iN h1]
 ·exact aad hr
theorem aag {ok:Bool} (hm:zS d s t r ok) (h:((!ok||decide (r=[]))||(decide (((r.getD 0 0).toNat:Int)≠32)&&decide (((r.getD 0 0).toNat:Int)≠41)))=false):
  0<r.length∧r.length<s.length∧mq (d+1) s=if r.getD 0 0=41 then some ([t],r.drop 1) else(mq (d+1) (r.drop 1)).map λp=>(t::p.1,p.2):=by
 simp only[Bool.or_eq_false_iff,Bool.not_eq_false',decide_eq_false_iff_not] at h
 obtain⟨⟨h1,h2⟩,h3⟩:=h
 obtain⟨hr,hl⟩:=hm.le h1
 cases r with
 |nil=>exact absurd rfl h2
 |cons c r=>
  refine⟨by simp,hl,?_⟩
  rw[RC hr]
  simp only[List.getD_cons_zero,List.drop_one,List.tail_cons] at h3⊢
  by_cases FX:c=41
  ·rw[iP FX,iP FX]
  ·rw[iN FX,iN FX]
   rw[show(32:Int)=((32:Nat):Int) from rfl,show(41:Int)=((41:Nat):Int) from rfl,Iz de,Iz de,Bool.and_eq_false_iff] at h3
   rcases h3 with h3|h3
   ·rw[iP (by simpa using h3)]
   ·exact absurd (by simpa using h3) FX
theorem aah {ok:Bool} (hl:s.length<=12000) (hm:zS 60 s t r ok):(ok&&decide (r=[]))=(bA s).isSome∧∀t',bA s=some t'->t=t':=by grind [zS,bA]
theorem aai (h1:n1=b.bY.length) (h2:n2=b.code.length) 
  (h:(((!ni b.aM||decide ((12000:Int)<(b.aM.length:Int)))||decide ((40:Int)<(n1:Int)))||!(decide ((1:Int)<=(n2:Int))&&decide ((n2:Int)<=80)))=true):nT b=false:=by grind [nT,BX,cS.length,Q8,Iw,QZ]
theorem aaj (h1:n1=b.bY.length) (h2:n2=b.code.length) 
  (h:(((!ni b.aM||decide ((12000:Int)<(b.aM.length:Int)))||decide ((40:Int)<(n1:Int)))||!(decide ((1:Int)<=(n2:Int))&&decide ((n2:Int)<=80)))=false):
  (ni b.aM&&decide (b.bY.length<=40)&&(decide (1<=b.code.length)&&decide (b.code.length<=80)))=true∧BX b=true:=by grind [BX,cS.length,Iw,QY]
theorem aak (hi:i<b.bY.length) (h:sn (bX b.bY i)=false):nT b=false:=by
 unfold nT;rw[Q9 hi h];rfl
theorem aal (hi:i<b.code.length) (h:rF b.code i=false):nT b=false:=by
 unfold nT;rw[Ra hi h];rfl
theorem aam (h:sn s=true) (ht:∀t',bA s=some t'->t=t'):t=tr s:=by grind [bA,tr,seen]
theorem RD {code:List ai} {n:Nat} (hn:n=code.length) (hi:i<n) (ht:∀t',bA (bX code i)=some t'->t=t'):
  ((!(bA (bX code i)).isSome||!nS t)||(FU t !=decide ((i:Int)=(n:Int)-1)))=!rF code i:=by grind [Ly,Ro,seen,bA,lr,Z2]
theorem aan {code:List ai} (h:rF code i=true) (ht:∀t',bA (bX code i)=some t'->t=t'):t=tr (bX code i):=by grind [rF,bA,tr,seen]
theorem DQ {α β:Type} (f:α->β) {xs:List α} {x:α} (h:xs[i]?=some x):(xs.take i).map f++[f x]=(xs.take (i+1)).map f:=by grind [List.getElem?_eq_some_iff,List.take_succ_eq_append_getElem]
theorem FY {α β:Type} (f:α->β) {xs:List α} (h:xs.length<=i):(xs.take i).map f=xs.map f:=by rw[List.take_of_length_le h]
theorem DR {α β:Type} (f:α->β) {xs:List α} (h:i<=xs.length):((xs.take i).map f).length=i:=by simp;omega
theorem DS (ht:∀t',bA s=some t'->t=t') (h:(bA s).isSome=true):WF t∧t.size<=12001:=by grind [bA,aq.size,tG,zJ]
def uR (ps:List dw) (l:ai):Int:=match ps.findIdx? (λb=>decide (b.aM=l)) with
 |some i=>(i:Int)
 |none=> -1
abbrev eC (ps:List dw) (i:Nat):dw:=ps.getD i ⟨[],[],[]⟩
theorem su {ps:List dw} (h:i<ps.length):ps[i]?=some (eC ps i):=by grind
def F0 (ps:List dw) (g:dw->Bool):Int:=match ps.findIdx? g with
 |some i=>(i:Int)
 |none=> -1
theorem LJ {ps:List dw} (h:i<ps.length):eC ps i=ps[i]:=by grind
theorem aao {ts:List dw} {g:dw->Bool} (hk:k<ts.length) (h:∀i,i<k->g (eC ts i)=false) (hl:g (eC ts k)=true):F0 ts g=(k:Int):=by
 have:ts.findIdx? g=some k:=by
  rw[List.findIdx?_eq_some_iff_getElem]
  refine⟨hk,by rw[<-LJ hk];exact hl,λj hj=>?_⟩
  have:=h j hj
  rw[LJ (Nat.lt_trans hj hk)] at this
  simpa using this
 unfold F0;rw[this]
theorem aap {ts:List dw} {g:dw->Bool} (h:∀i,i<ts.length->g (eC ts i)=false):F0 ts g= -1:=by grind [LJ,F0,List.findIdx?_eq_none_iff,List.getElem_of_mem]
theorem aaq (h:i<bs.length):bR bs i=bs[i]:=by grind
theorem RE (hk:k<bs.length):decide ((0:Int)<=uR ((bs.take k).map dQ) (bR bs k).aM)=decide (oI bs (bR bs k).aM≠(k:Int)):=by
 refine decide_eq_decide.2 ?_
 by_cases hex:∃j,j<k∧(bR bs j).aM=(bR bs k).aM
 ·obtain⟨j,hj,hl⟩:=hex
  have h1:oI bs (bR bs k).aM≠k:=by
   intro h
   unfold oI at h
   cases hf:bs.findIdx? (λb=>decide (b.aM=(bR bs k).aM)) with
   |none=>rw[hf] at h;simp at h
   |some i=>
    rw[hf] at h
    have uM:i=k:=Int.ofNat.inj h
    subst uM
    rw[List.findIdx?_eq_some_iff_getElem] at hf
    obtain⟨_,_,cL⟩:=hf
    have:=cL j hj
    rw[<-aaq] at this
    simp only[dE] at this
    exact this hl
  have h2:0<=uR ((bs.take k).map dQ) (bR bs k).aM:=by
   unfold uR
   cases hf:((bs.take k).map dQ).findIdx? (λb=>decide (b.aM=(bR bs k).aM)) with
   |some i=>simp
   |none=>
    rw[List.findIdx?_eq_none_iff] at hf
    have:=hf (dQ (bR bs j)) (List.mem_map.2 ⟨bR bs j,by rw[List.mem_take_iff_getElem];exact⟨j,om,by simp[gE (show j<bs.length by omega)]⟩,rfl⟩)
    exact absurd hl (of_decide_eq_false this)
  exact⟨λ_=>h1,λ_=>h2⟩
 ·have h1:oI bs (bR bs k).aM=k:=Q7 hk (λj hj hl=>hex ⟨j,hj,hl⟩) rfl
  have h2:uR ((bs.take k).map dQ) (bR bs k).aM= -1:=by
   unfold uR
   have:((bs.take k).map dQ).findIdx? (λb=>decide (b.aM=(bR bs k).aM))=none:=by
    rw[List.findIdx?_eq_none_iff]
    intro x hx
    obtain⟨b,hb,rfl⟩:=List.mem_map.1 hx
    obtain⟨j,hj,rfl⟩:=List.mem_take_iff_getElem.1 hb
    refine dF λhl=>hex ⟨j,om,?_⟩
    rw[bR,gG,gE om]
    exact hl
   rw[this]
  rw[h1,h2];constructor
  ·intro h;omega
  ·intro h;exact absurd rfl h
theorem aar (hi:i<bs.length) (h:nT (bR bs i)=false∨oI bs (bR bs i).aM≠i):nj bs=false:=by grind [nj,jt,pC,FV,nT,Rc]
theorem aas (h:∀i,i<bs.length->nT (bR bs i)=true∧oI bs (bR bs i).aM=i):
  nj bs=(decide (1<=bs.length)&&decide (bs.length<=40)&&decide ((bR bs 0).aM=[109,97,105,110])&&decide ((bR bs 0).bY.length=0)):=by
 unfold nj
 rw[Rd (λi hi=>⟨by have:=(h i hi).1;unfold nT at this;rw[aE] at this;exact this.1,(h i hi).2⟩),show bs.all BX=true from ?_,Bool.and_true]
 refine List.all_eq_true.2 λb hb=>?_
 obtain⟨i,hi,rfl⟩:=List.getElem_of_mem hb
 have:=(h i hi).1
 unfold nT at this
 rw[aE] at this
 rw[bR,gG,gE hi] at this
 exact this.2
theorem aat (h:¬(1<=bs.length∧bs.length<=40)):nj bs=false:=by grind [nj,jt]
theorem LK:∀(ts:List aq) (t:aq),ts≠[]->kT (ts++[t])=kT ts++32::t.text
 |[],_,h=>absurd rfl h
 |[u],t,_=>by rw[List.cons_append,List.nil_append,qT,qS,qS]
 |u::v::r,t,_=>by
  have:=LK (v::r) t sm
  rw[List.cons_append,List.cons_append,qT,<-List.cons_append,this,qT];simp
def pre (ts:List aq):ai:=if ts=[] then[] else 40::kT ts
theorem RF (hk:k<ps.length):pre (ps.take (k+1))=pre (ps.take k)++((if k=0 then 40 else 32)::(nth ps k).text):=by
 have e:ps.take (k+1)=ps.take k++[nth ps k]:=by rw[List.take_succ_eq_append_getElem hk,FT hk]
 rw[e]
 by_cases h0:k=0
 ·subst h0;simp[pre,qS]
 ·have dL:ps.take k≠[]:=by intro h;have:=congrArg List.length h;rw[List.length_take] at this;simp only[List.length_nil] at this;omega
  unfold pre
  rw[iN sm,iN dL,LK _ _ dL,iN h0];simp
theorem RG (cm:WF t) (h:t.ak.length≠0):pre (t.ak.take t.ak.length)++[41]=t.text:=by
 cases cm with
 |aw a _=>simp[aq.ak] at h
 |list ps hp _=>
  rw[sr]
  show pre (ps.take ps.length)++[41]=_
  rw[List.take_length]
  unfold pre;rw[iN hp];simp
theorem RH (cm:WF t) (h:t.ak.length=0):t.text=t.aw:=by
 cases cm with
 |aw a ha=>exact qR ha
 |list ps hp _=>exact absurd (List.length_eq_zero_iff.1 h) hp
theorem RI (cm:WF t) (hk:k<=t.ak.length):(pre (t.ak.take k)).length<=t.text.length:=by
 by_cases h:t.ak.length=0
 ·rw[show k=0 from by omega];simp[pre]
 ·rw[<-RG cm h,lA]
  have mono:∀j,k<=j->j<=t.ak.length->(pre (t.ak.take k)).length<=(pre (t.ak.take j)).length:=by
   intro j hj
   induction j with
   |zero=>intro _;rw[show k=0 from by omega];exact lR _
   |succ j ih=>
    intro oz
    rcases Nat.lt_or_ge k (j+1) with h|h
    ·have:=ih om om
     rw[RF om,lA];omega
    ·rw[show k=j+1 from by omega];exact lR _
  have:=mono _ hk (lR _)
  omega
def uS (ts:List aq):ai:=40::kT ts
theorem RJ (hk:k<ps.length):uS (ps.take (k+1))=(uS (ps.take k)++(if k=0 then[] else[32]))++(nth ps k).text:=by
 have e:ps.take (k+1)=ps.take k++[nth ps k]:=by rw[List.take_succ_eq_append_getElem hk,FT hk]
 rw[e]
 by_cases h0:k=0
 ·subst h0;simp[uS,qS,kT]
 ·have dL:ps.take k≠[]:=by intro h;have:=congrArg List.length h;rw[List.length_take] at this;simp only[List.length_nil] at this;omega
  unfold uS
  rw[LK _ _ dL,iN h0];simp
theorem RK (cm:WF t) (h:t.aw=[]):uS (t.ak.take t.ak.length)++[41]=t.text:=by
 cases cm with
 |aw a ha=>exact absurd h ha
 |list ps hp _=>
  rw[sr]
  show uS (ps.take ps.length)++[41]=_
  rw[List.take_length];rfl
theorem LL (cm:WF t) (ha:t.aw=[]) (hk:k<=t.ak.length):(uS (t.ak.take k)).length<=t.text.length:=by
 rw[<-RK cm ha,lA]
 have mono:∀j,k<=j->j<=t.ak.length->(uS (t.ak.take k)).length<=(uS (t.ak.take j)).length:=by
  intro j hj
  induction j with
  |zero=>intro _;rw[show k=0 from by omega];exact lR _
  |succ j ih=>
   intro oz
   rcases Nat.lt_or_ge k (j+1) with h|h
   ·have:=ih om om
    rw[RJ om,lA,lA];omega
   ·rw[show k=j+1 from by omega];exact lR _
 have:=mono _ hk (lR _)
 omega
structure RL (t:aq):Prop where
 wf:WF t
 size:t.size<=12001
 text:t.text.length<=12000
theorem aau (h:bA s=some t):RL t:=by
 obtain⟨h1,h2,h3,h4⟩:=wk h
 exact⟨h1.wf,zJ h,by rw[h3];exact h4⟩
def DT (ts:List aq):Prop:=ts.length<1000000∧∀t,t∈ts->WF t∧t.size<=100000000∧t.text.length<=100000000
theorem aav (h:Good t):t.size<=2*t.text.length:=by
 induction h with
 |aw a ha hb=>
  have:=List.length_pos_iff.2 ha
  rw[qR ha]
  simp only[aq.size,aq.size.sizes];omega
 |list ps hp hw ih=>
  have key:∀qs:List aq,(∀p,p∈qs->p.size<=2*p.text.length)->aq.size.sizes qs<=2*(kT qs).length:=by
   intro qs
   induction qs with
   |nil=>intro _;simp[aq.size.sizes]
   |cons q qs uL=>
    intro h
    have h1:=h q sm
    have h2:=uL (λp hp=>h p (by simp[hp]))
    cases qs with
    |nil=>rw[qS];simp only[aq.size.sizes];omega
    |cons u us=>
     rw[qT]
     simp only[aq.size.sizes,lA,lC] at h2⊢;omega
  have:=key ps ih
  rw[sr]
  simp only[aq.size,lC,lA,List.length_nil];omega
/-! ### Texts joined -/
theorem RM (a b:List ai):qe (a++b)=qe a++qe b:=by simp[qe]
def uT (h:ai) (ps:List ai) (k:Nat):ai:=40::(h++qe (ps.take k))
theorem aaw {ps:List ai} (hk:k<ps.length):uT h ps (k+1)=(uT h ps k++[32])++bX ps k:=by
 unfold uT
 rw[List.take_succ_eq_append_getElem hk,RM]
 simp[qe,bX,gE hk]
theorem aax {ps:List ai} (hk:ps.length<=k):uT h ps k++[41]=dR h ps:=by
 unfold uT dR;rw[List.take_of_length_le hk];simp
theorem aay {ps:List ai} (k:Nat):(uT h ps k).length+1<=(dR h ps).length:=by
 have:(qe (ps.take k)).length<=(qe ps).length:=by
  have:=RM (ps.take k) (ps.drop k)
  rw[List.take_append_drop] at this
  rw[this,lA];omega
 simp[uT,dR];omega
/-! ### What the laws count -/
def ju (xs:List ai):Nat:=xs.length+(xs.map List.length).sum
theorem RO (ps:List ai):(qe ps).length=ju ps:=by induction ps<;>grind [qe,ju]
/-! ### A list that is filled -/
def fill {α:Type} (d:α) (xs:List α) (k:Nat):List α:=xs.take k++List.replicate (xs.length-k) d
theorem aaz:NG Tryz.f10:=ng
theorem aaA:NG Tryz.f100:=ng
theorem aaB:NG Tryz.f101:=ng
theorem aaC:NG Tryz.f102:=ng
theorem aaD:NG Tryz.f103:=ng
theorem aaE:NG Tryz.f106:=ng
theorem aaF:NG Tryz.f108:=ng
theorem aaG:NG Tryz.f109:=ng
theorem aaH:NG Tryz.f110:=ng
theorem RP:NG Tryz.f111:=ng
theorem aaI:NG Tryz.f112:=ng
theorem aaJ:NG Tryz.f113:=ng
theorem aaK:NG Tryz.f114:=ng
theorem RQ:NG Tryz.f116:=ng
theorem aaL:NG Tryz.f117:=ng
theorem aaM:NG Tryz.f118:=ng
theorem aaN:NG Tryz.f119:=ng
theorem aaO:NG Tryz.f120:=ng
theorem aaP:NG Tryz.f126:=ng
theorem aaQ:NG Tryz.f127:=ng
theorem aaR:NG Tryz.f128:=ng
theorem aaS:NG Tryz.f129:=ng
theorem aaT:NG Tryz.f130:=ng
theorem aaU:NG Tryz.f131:=ng
theorem RR:NG Tryz.f132:=ng
theorem aaV:NG Tryz.f133:=ng
theorem aaW:NG Tryz.f134:=ng
theorem aaX:NG Tryz.f135:=ng
theorem aaY:NG Tryz.f136:=ng
theorem aaZ:NG Tryz.f137:=ng
theorem aa0:NG Tryz.f138:=ng
theorem aa1:NG Tryz.f139:=ng
theorem aa2:NG Tryz.f142:=ng
theorem aa3:NG Tryz.f143:=ng
theorem aa4:NG Tryz.f144:=ng
theorem aa5:NG Tryz.f145:=ng
theorem aa6:NG Tryz.f146:=ng
theorem aa7:NG Tryz.f150:=ng
theorem aa8:NG Tryz.f151:=ng
theorem aa9:NG Tryz.f152:=ng
theorem aba:NG Tryz.f153:=ng
theorem abb:NG Tryz.f154:=ng
theorem abc:NG Tryz.f155:=ng
theorem abd:NG Tryz.f156:=ng
theorem abe:NG Tryz.f157:=ng
theorem abf:NG Tryz.f158:=ng
theorem abg:NG Tryz.f159:=ng
theorem abh:NG Tryz.f160:=ng
theorem abi:NG Tryz.f161:=ng
theorem abj:NG Tryz.f162:=ng
theorem abk:NG Tryz.f163:=ng
theorem abl:NG Tryz.f165:=ng
theorem abm:NG Tryz.f166:=ng
theorem abn:NG Tryz.f168:=ng
theorem abo:NG Tryz.f169:=ng
theorem abp:NG Tryz.f170:=ng
theorem abq:NG Tryz.f172:=ng
theorem abr:NG Tryz.f173:=ng
theorem abt:NG Tryz.f174:=ng
theorem abu:NG Tryz.f179:=ng
theorem abv:NG Tryz.f180:=ng
theorem abw:NG Tryz.f181:=ng
theorem abx:NG Tryz.f182:=ng
theorem aby:NG Tryz.f183:=ng
theorem abz:NG Tryz.f184:=ng
theorem abA:NG Tryz.f185:=ng
theorem abB:NG Tryz.f186:=ng
theorem abC:NG Tryz.f187:=ng
theorem abD:NG Tryz.f188:=ng
theorem abE:NG Tryz.f189:=ng
theorem abF:NG Tryz.f190:=ng
theorem abG:NG Tryz.f191:=ng
theorem abH:NG Tryz.f192:=ng
theorem abI:NG Tryz.f193:=ng
theorem abJ:NG Tryz.f194:=ng
theorem abK:NG Tryz.f195:=ng
theorem abL:NG Tryz.f196:=ng
theorem abM:NG Tryz.f197:=ng
theorem RS:NG Tryz.f198:=ng
theorem abN:NG Tryz.f199:=ng
theorem abO:NG Tryz.f200:=ng
theorem abP:NG Tryz.f201:=ng
theorem abQ:NG Tryz.f202:=ng
theorem abR:NG Tryz.f203:=ng
theorem abS:NG Tryz.f216:=ng
theorem abT:NG Tryz.f217:=ng
theorem abU:NG Tryz.f218:=ng
theorem abV:NG Tryz.f219:=ng
theorem abW:NG Tryz.f220:=ng
theorem abX:NG Tryz.f221:=ng
theorem abY:NG Tryz.f222:=ng
theorem abZ:NG Tryz.f223:=ng
theorem ab0:NG Tryz.f224:=ng
theorem ab1:NG Tryz.f225:=ng
theorem ab2:NG Tryz.f226:=ng
theorem ab3:NG Tryz.f227:=ng
theorem LM:NG Tryz.f228:=ng
theorem ab4:NG Tryz.f229:=ng
theorem ab5:NG Tryz.f239:=ng
theorem ab6:NG Tryz.f240:=ng
theorem ab7:NG Tryz.f241:=ng
theorem ab8:NG Tryz.f242:=ng
theorem ab9:NG Tryz.f243:=ng
theorem aca:NG Tryz.f244:=ng
theorem acb:NG Tryz.f249:=ng
theorem nm3:NG Tryz.f3:=ng
theorem ace:NG Tryz.f31:=ng
theorem acf:NG Tryz.f32:=ng
theorem acg:NG Tryz.f33:=ng
theorem ach:NG Tryz.f34:=ng
theorem aci:NG Tryz.f35:=ng
theorem acj:NG Tryz.f37:=ng
theorem ack:NG Tryz.f38:=ng
theorem acm:NG Tryz.f39:=ng
theorem acn:NG Tryz.f40:=ng
theorem aco:NG Tryz.f41:=ng
theorem RT:NG Tryz.f42:=ng
theorem acp:NG Tryz.f43:=ng
theorem acq:NG Tryz.f48:=ng
theorem acr:NG Tryz.f51:=ng
theorem acs:NG Tryz.f54:=ng
theorem acu:NG Tryz.f57:=ng
theorem acv:NG Tryz.f61:=ng
theorem acw:NG Tryz.f62:=ng
theorem acx:NG Tryz.f63:=ng
theorem acy:NG Tryz.f64:=ng
theorem acz:NG Tryz.f65:=ng
theorem acA:NG Tryz.f66:=ng
theorem acB:NG Tryz.f69:=ng
theorem nm7:NG Tryz.f7:=ng
theorem acD:NG Tryz.f70:=ng
theorem acE:NG Tryz.f71:=ng
theorem IA:NG Tryz.f72:=ng
theorem acF:NG Tryz.f78:=ng
theorem RU:NG Tryz.f79:=ng
theorem nm8:NG Tryz.f8:=ng
theorem acH:NG Tryz.f80:=ng
theorem acI:NG Tryz.f82:=ng
theorem acJ:NG Tryz.f83:=ng
theorem acK:NG Tryz.f84:=ng
theorem acL:NG Tryz.f85:=ng
theorem acM:NG Tryz.f87:=ng
theorem acN:NG Tryz.f88:=ng
theorem nm9:NG Tryz.f9:=ng
theorem acP:NG Tryz.f93:=ng
theorem acQ:NG Tryz.f94:=ng
theorem acR:NG Tryz.f95:=ng
theorem acS:NG Tryz.f96:=ng
theorem acT:NG Tryz.f97:=ng
theorem acU:NG Tryz.f98:=ng
theorem acV:NG Tryz.f99:=ng
theorem acW:sj Tryz.prog 152=true:=by kernel_rfl
theorem RV:sj Tryz.prog 166=true:=by kernel_rfl
theorem zT:sj Tryz.prog 56=true:=by kernel_rfl
theorem DU:sj Tryz.prog 58=true:=by kernel_rfl
theorem tJ:sj Tryz.prog 66=true:=by kernel_rfl
theorem eV:sj Tryz.prog 74=true:=by kernel_rfl
theorem acX:∀(x0a:Option Addr) (x0n x0c:Nat) (w:World),(Instr.build 102 #[(0,(.slice x0a x0n x0c))]).run Tryz.prog w= .ok (.agg #[.slice x0a x0n x0c,.int .i64 0]) w:=by intros;kernel_rfl
theorem LN:∀(x0a:Option Addr) (x0n x0c:Nat) (x1a:Option Addr) (x1n x1c:Nat) (w:World),(Instr.build 152 #[(0,(.slice x0a x0n x0c)),(1,(.slice x1a x1n x1c))]).run Tryz.prog w= .ok (.agg #[.slice x0a x0n x0c,.slice x1a x1n x1c]) w:=by intros;kernel_rfl
theorem acY:∀(x0a:Option Addr) (x0n x0c:Nat) (x1a:Option Addr) (x1n x1c:Nat) (w:World),(Instr.build 164 #[(0,(.slice x0a x0n x0c)),(1,(.slice x1a x1n x1c))]).run Tryz.prog w= .ok (.agg #[.slice x0a x0n x0c,.slice x1a x1n x1c,.int .i64 0,.bool false,.slice none 0 0,.slice none 0 0]) w:=by intros;kernel_rfl
theorem acZ:∀(x0a:Option Addr) (x0n x0c:Nat) (x1:Int) (x2a:Option Addr) (x2n x2c:Nat) (x3a:Option Addr) (x3n x3c:Nat) (w:World),(Instr.build 190 #[(0,(.slice x0a x0n x0c)),(1,(.int .i64 x1)),(2,(.slice x2a x2n x2c)),(3,(.slice x3a x3n x3c))]).run Tryz.prog w= .ok (.agg #[.slice x0a x0n x0c,.int .i64 x1,.slice x2a x2n x2c,.slice x3a x3n x3c]) w:=by intros;kernel_rfl
theorem ac0:∀(x0a:Option Addr) (x0n x0c:Nat) (x1:Int) (w:World),(Instr.build 228 #[(0,(.slice x0a x0n x0c)),(1,(.int .i64 x1))]).run Tryz.prog w= .ok (.agg #[.slice x0a x0n x0c,.int .i64 x1]) w:=by intros;kernel_rfl
theorem LO:∀(w:World),(Instr.build 56 #[]).run Tryz.prog w= .ok (.agg #[.string ⟨#[]⟩,.slice none 0 0,.slice none 0 0]) w:=by intros;kernel_rfl
theorem ac1:∀(x0:ByteArray) (w:World),(Instr.build 56 #[(0,(.string x0))]).run Tryz.prog w= .ok (.agg #[.string x0,.slice none 0 0,.slice none 0 0]) w:=by intros;kernel_rfl
theorem IB:∀(x0:ByteArray) (x1a:Option Addr) (x1n x1c:Nat) (x2a:Option Addr) (x2n x2c:Nat) (w:World),(Instr.build 58 #[(0,(.string x0)),(1,(.slice x1a x1n x1c)),(2,(.slice x2a x2n x2c))]).run Tryz.prog w= .ok (.agg #[.string x0,.slice x1a x1n x1c,.slice x2a x2n x2c]) w:=by intros;kernel_rfl
theorem LQ:∀(w:World),(Instr.build 66 #[]).run Tryz.prog w= .ok (.agg #[.string ⟨#[]⟩,.slice none 0 0]) w:=by intros;kernel_rfl
theorem ac2:∀(x0:ByteArray) (w:World),(Instr.build 66 #[(0,(.string x0))]).run Tryz.prog w= .ok (.agg #[.string x0,.slice none 0 0]) w:=by intros;kernel_rfl
theorem F2:∀(w:World),(Instr.build 74 #[]).run Tryz.prog w= .ok (.agg #[.string ⟨#[]⟩,.slice none 0 0]) w:=by intros;kernel_rfl
theorem ac3:∀(x0:ByteArray) (w:World),(Instr.build 74 #[(0,(.string x0))]).run Tryz.prog w= .ok (.agg #[.string x0,.slice none 0 0]) w:=by intros;kernel_rfl
theorem LR:∀(x1a:Option Addr) (x1n x1c:Nat) (w:World),(Instr.build 74 #[(1,(.slice x1a x1n x1c))]).run Tryz.prog w= .ok (.agg #[.string ⟨#[]⟩,.slice x1a x1n x1c]) w:=by intros;kernel_rfl
theorem ac4:Tryz.prog.underlying 4=some .bool:=by kernel_rfl
theorem ac5:gC Tryz.prog 102 0=some 0:=by kernel_rfl
theorem RW:gC Tryz.prog 102 1=some 1:=by kernel_rfl
theorem ac6:gC Tryz.prog 152 0=some 0:=by kernel_rfl
theorem ac7:gC Tryz.prog 152 1=some 1:=by kernel_rfl
theorem ac8:gC Tryz.prog 164 0=some 0:=by kernel_rfl
theorem ac9:gC Tryz.prog 164 1=some 1:=by kernel_rfl
theorem ada:gC Tryz.prog 164 2=some 2:=by kernel_rfl
theorem adb:gC Tryz.prog 164 3=some 3:=by kernel_rfl
theorem ade:gC Tryz.prog 164 4=some 4:=by kernel_rfl
theorem adf:gC Tryz.prog 164 5=some 5:=by kernel_rfl
theorem adg:gC Tryz.prog 166 0=some 0:=by kernel_rfl
theorem RX:gC Tryz.prog 166 1=some 1:=by kernel_rfl
theorem adh:gC Tryz.prog 166 10=some 11:=by kernel_rfl
theorem adi:gC Tryz.prog 166 2=some 2:=by kernel_rfl
theorem IC:gC Tryz.prog 166 3=some 3:=by kernel_rfl
theorem adj:gC Tryz.prog 166 4=some 4:=by kernel_rfl
theorem adk:gC Tryz.prog 166 5=some 5:=by kernel_rfl
theorem adl:gC Tryz.prog 166 6=some 6:=by kernel_rfl
theorem RY:gC Tryz.prog 166 7=some 7:=by kernel_rfl
theorem RZ:gC Tryz.prog 166 8=some 9:=by kernel_rfl
theorem adm:gC Tryz.prog 166 9=some 10:=by kernel_rfl
theorem adn:gC Tryz.prog 190 0=some 0:=by kernel_rfl
theorem ado:gC Tryz.prog 190 1=some 1:=by kernel_rfl
theorem adp:gC Tryz.prog 190 2=some 2:=by kernel_rfl
theorem adq:gC Tryz.prog 190 3=some 3:=by kernel_rfl
theorem adr:gC Tryz.prog 228 0=some 0:=by kernel_rfl
theorem ads:gC Tryz.prog 228 1=some 1:=by kernel_rfl
theorem adt:gC Tryz.prog 56 0=some 0:=by kernel_rfl
theorem R0:gC Tryz.prog 56 1=some 1:=by kernel_rfl
theorem R1:gC Tryz.prog 56 2=some 2:=by kernel_rfl
theorem LS:gC Tryz.prog 58 0=some 0:=by kernel_rfl
theorem LU:gC Tryz.prog 58 1=some 1:=by kernel_rfl
theorem zU:gC Tryz.prog 58 2=some 2:=by kernel_rfl
theorem adu:gC Tryz.prog 66 0=some 0:=by kernel_rfl
theorem R2:gC Tryz.prog 66 1=some 1:=by kernel_rfl
theorem kY:gC Tryz.prog 74 0=some 0:=by kernel_rfl
theorem jv:gC Tryz.prog 74 1=some 1:=by kernel_rfl
theorem LV:TI Tryz.prog 113 2 32 (.agg #[.pointer none,.slice none 0 0]):=by unfold TI;kernel_rfl
theorem BY:TI Tryz.prog 152 2 48 (.agg #[.slice none 0 0,.slice none 0 0]):=by unfold TI;kernel_rfl
theorem ID:TI Tryz.prog 162 1 24 (.slice none 0 0):=by unfold TI;kernel_rfl
theorem mr:TI Tryz.prog 166 12 216 (.agg #[.string ⟨#[]⟩,.slice none 0 0,.int .i64 0,.slice none 0 0,.slice none 0 0,.slice none 0 0,.slice none 0 0,.string ⟨#[]⟩,.slice none 0 0,.int .i64 0,.string ⟨#[]⟩,.int .i64 0]):=by unfold TI;kernel_rfl
theorem R3:TI Tryz.prog 23 1 24 (.slice none 0 0):=by unfold TI;kernel_rfl
theorem oJ:TI Tryz.prog 3 1 8 (.int .i64 0):=by unfold TI;kernel_rfl
theorem mu:TI Tryz.prog 35 1 24 (.slice none 0 0):=by unfold TI;kernel_rfl
theorem DV:TI Tryz.prog 4 1 1 (.bool false):=by unfold TI;kernel_rfl
theorem F3:TI Tryz.prog 5 1 1 (.int .u8 0):=by unfold TI;kernel_rfl
theorem IE:TI Tryz.prog 54 1 24 (.slice none 0 0):=by unfold TI;kernel_rfl
theorem jg:TI Tryz.prog 56 3 64 (.agg #[.string ⟨#[]⟩,.slice none 0 0,.slice none 0 0]):=by unfold TI;kernel_rfl
theorem fV:TI Tryz.prog 58 3 64 (.agg #[.string ⟨#[]⟩,.slice none 0 0,.slice none 0 0]):=by unfold TI;kernel_rfl
theorem fg:TI Tryz.prog 66 2 40 (.agg #[.string ⟨#[]⟩,.slice none 0 0]):=by unfold TI;kernel_rfl
theorem DW:TI Tryz.prog 72 1 24 (.slice none 0 0):=by unfold TI;kernel_rfl
theorem aL:TI Tryz.prog 74 2 40 (.agg #[.string ⟨#[]⟩,.slice none 0 0]):=by unfold TI;kernel_rfl
theorem bf:TI Tryz.prog 9 1 16 (.string ⟨#[]⟩):=by unfold TI;kernel_rfl
theorem R4:TI Tryz.prog 98 1 24 (.slice none 0 0):=by unfold TI;kernel_rfl
theorem IF:Tryz.prog.underlying 181=some (.int .u64):=by kernel_rfl
theorem wo:Tryz.prog.underlying 3=some (.int .i64):=by kernel_rfl
theorem xR:Tryz.prog.underlying 5=some (.int .u8):=by kernel_rfl
theorem dj:Tryz.prog.follows .mixedOrders=true:=by kernel_rfl
theorem adv:p8 Tryz.prog 162=true:=by kernel_rfl
theorem adw:p8 Tryz.prog 22=true:=by kernel_rfl
theorem adx:p8 Tryz.prog 23=true:=by kernel_rfl
theorem LW:p8 Tryz.prog 3=true:=by kernel_rfl
theorem tK:p8 Tryz.prog 35=true:=by kernel_rfl
theorem IG:p8 Tryz.prog 4=true:=by kernel_rfl
theorem ady:p8 Tryz.prog 5=true:=by kernel_rfl
theorem adz:p8 Tryz.prog 54=true:=by kernel_rfl
theorem iC:p8 Tryz.prog 72=true:=by kernel_rfl
theorem gD:p8 Tryz.prog 9=true:=by kernel_rfl
theorem adA:p8 Tryz.prog 98=true:=by kernel_rfl
theorem zW:Tryz.prog.underlying 162=some (.slice 166):=by kernel_rfl
theorem BZ:Tryz.prog.underlying 22=some (.slice 5):=by kernel_rfl
theorem iL:Tryz.prog.underlying 23=some (.slice 58):=by kernel_rfl
theorem bh:Tryz.prog.underlying 35=some (.slice 9):=by kernel_rfl
theorem wq:Tryz.prog.underlying 51=some (.slice 56):=by kernel_rfl
theorem sv:Tryz.prog.underlying 54=some (.slice 66):=by kernel_rfl
theorem IH:Tryz.prog.underlying 59=some (.slice 4):=by kernel_rfl
theorem cz:Tryz.prog.underlying 72=some (.slice 74):=by kernel_rfl
theorem uV:Tryz.prog.underlying 98=some (.slice 3):=by kernel_rfl
theorem il:Tryz.prog.underlying 9=some .string:=by kernel_rfl
/-! ### Packages have two ak -/
inductive DX:aq->Prop
 |aw (a:ai):DX (.mk a [])
 |list (ps:List aq) (h:RA ps=[101]->ps.length=2) (hp:∀p,p∈ps->DX p):DX (.mk [] ps)
theorem adB (cm:WF t):∀h,fa h t=true->DX t:=by
 induction cm with
 |aw a _=>intro _ _;exact .aw a
 |list ps hp hw ih=>
  intro h ht
  cases ps with
  |nil=>exact absurd rfl hp
  |cons hd rest=>
   have qf:∀a,hd.aw=a->a≠[]->DX hd:=λa ha dL=>by
    have:=hw hd sm
    cases this with
    |aw b _=>exact .aw b
    |list qs _ _=>exact absurd ha.symm dL
   unfold fa at ht
   simp only[ne_eq,not_true,if_false] at ht
   by_cases he:hd.aw=[101]
   ·rw[iP he] at ht
    cases rest with
    |nil=>simp[fa.oneT] at ht
    |cons x r2=>
     cases r2 with
     |nil=>
      refine .list _ (λ_=>rfl) λp rG=>?_
      simp only[mC,List.not_mem_nil,or_false] at rG
      rcases rG with rfl|rfl
      ·exact qf _ he de
      ·exact ih p sm true ht
     |cons y r3=>simp[fa.oneT] at ht
   ·rw[iN he] at ht
    by_cases tL:hd.aw=[116]∨hd.aw=[99]
    ·rw[iP tL,Lp,List.all_eq_true] at ht
     refine .list _ (λh=>absurd h he) λp rG=>?_
     rcases mC.1 rG with rfl|rG
     ·rcases tL with h|h
      ·exact qf _ h de
      ·exact qf _ h de
     ·exact ih p (by simp[rG]) h (ht p rG)
    ·rw[iN tL] at ht;cases ht
/-! ### States -/
structure B0 (t:aq):Prop where
 lu:Good t
 fits:Iy t=true
 eok:DX t
def OkP (p:List dw):Prop:=p.length<=1000000∧∀b,b∈p->b.regs.length<=40∧∀t,t∈b.regs->B0 t
theorem adD (h:nS t=true):gi (cw t) t.ak.length≠[]∧t.ak.length=(gi (cw t) t.ak.length).length+1∧
  ∀i,i<(gi (cw t) t.ak.length).length->gz (((gi (cw t) t.ak.length).getD i 0).toNat:Int) (nth t.ak (i+1))=true:=by
 unfold nS at h
 split at h
 ·cases h
 ·rename_i hn
  exact⟨λh=>hn (.inl h),Classical.not_not.1 λh=>hn (.inr h),of_decide_eq_true h⟩
/-! ### What it gives -/
section
variable {p:List dw} {st:TS} {o:Nat} {t:aq}
end
/-! ### Sizes of what is given -/
theorem size_pos (t:aq):1<=t.size:=by have:=xQ t;omega
theorem LX (t:aq):∀m,t.size<=m->WF t->t.text.length+1<=2*t.size:=by
 intro m
 induction m generalizing t with
 |zero=>intro h;have:=size_pos t;omega
 |succ m ih=>
  intro hm cm
  cases cm with
  |aw a ha=>rw[qR ha];simp only[aq.size,aq.size.sizes];omega
  |list ps hp hw=>
   rw[sr]
   have e:(aq.mk [] ps).size=1+aq.size.sizes ps:=by simp[aq.size]
   rw[e]
   have adE:∀qs:List aq,qs≠[]->(∀p,p∈qs->p.text.length+1<=2*p.size)->(kT qs).length+1<=2*aq.size.sizes qs:=by
    intro qs
    induction qs with
    |nil=>intro h;exact absurd rfl h
    |cons q qs uL=>
     intro _ h
     have h1:=h q sm
     cases qs with
     |nil=>rw[qS];simp only[aq.size.sizes];omega
     |cons u us=>
      have h2:=uL sm (λp hp=>h p (by simp[hp]))
      rw[qT];simp only[aq.size.sizes,lA,lC] at h2⊢;omega
   have az:=adE ps hp (λp rG=>by
    obtain⟨i,hi,rfl⟩:=List.getElem_of_mem rG
    have h3:=QS (t:=.mk [] ps) (p:=ps[i]) (i:=i) (gE hi)
    exact ih _ om (hw _ rG))
   simp only[lC,lA,List.length_nil];omega
theorem B0.size (h:B0 t):t.size<=24000:=by
 have:=h.fits
 unfold Iy at this
 rw[aE,dE,dE] at this
 have h1:=aav h.lu
 have h2:=LH h.lu.wf
 omega
section
variable {p:List dw} {st:TS} {o:Nat} {t:aq}
end
/-! ### Blocks -/
structure B1 (b:dw):Prop where
 regs:b.regs.length<=40
 rok:∀t,t∈b.regs->B0 t
 code:b.code.length<=80
 cok:∀t,t∈b.code->RL t∧Good t∧nS t=true
theorem adF (h:bA s=some t) (ht:fa false t=true):B0 t:=by
 obtain⟨h1,h2,h3,h4⟩:=wk h
 refine⟨h1,?_,adB h1.wf _ ht⟩
 unfold Iy
 rw[aE,dE,dE,LH h1.wf,h3]
 exact⟨h2,h4⟩
theorem adG (h:lZ b=true):B1 (dQ b):=by
 obtain⟨_,h2,h3⟩:=Rz h
 unfold lZ at h
 simp only[aE,dE] at h
 refine⟨by simp[dQ];omega,λt ht=>?_,by simp[dQ];omega,λt ht=>?_⟩
 ·obtain⟨s,hs,rfl⟩:=List.mem_map.1 ht
  obtain⟨u,hu,hq⟩:=h2 s hs
  rw[Rw hu];exact adF hu hq
 ·obtain⟨s,hs,rfl⟩:=List.mem_map.1 ht
  obtain⟨u,hu,hq⟩:=h3 s hs
  rw[Rw hu];exact⟨aau hu,(wk hu).1,by rw[Ro];exact hq⟩
theorem R5 (h:jt bs=true):OkP (bs.map dQ)∧∀b,b∈bs.map dQ->B1 b:=by
 have hb:=FV h
 have cL:∀b,b∈bs.map dQ->B1 b:=λb hm=>by
  obtain⟨k,hk,rfl⟩:=List.mem_map.1 hm
  exact adG (hb k hk)
 refine⟨⟨?_,λb hm=>⟨(cL b hm).regs,(cL b hm).rok⟩⟩,cL⟩
 unfold jt at h
 simp only[aE,dE] at h
 simp;omega
theorem adH (h:Good t):t.text≠[]:=by grind [Rs]
theorem B0.short (h:B0 t):t.text.length<=12000:=by
 have:=h.fits
 unfold Iy at this
 rw[aE,dE,dE,LH h.lu.wf] at this
 exact this.2
structure DY (s:ai) (t:aq):Prop where
 some:∀t',bA s=some t'->t=t'
 none:s=[]->cw t=[]
theorem R6:bA []=none:=by decide
/-! ### Types -/
inductive Ty where
 |i
 |op (f:Bool) (a b:Ty)
def jO (f:Bool):ai:=if f then[62] else[42]
def Ty.au:Ty->aq
 | .i=>bJ [105]
 | .op f a b=>.mk [] [bJ (jO f),a.au,b.au]
def Ty.text (t:Ty):ai:=t.au.text
def Ty.n:Ty->Nat
 | .i=>1
 | .op _ a b=>1+a.n+b.n
theorem adI (f:Bool):Good (bJ (jO f)):=by cases f<;>exact .aw _ de de
theorem Ty.lu (t:Ty):Good t.au:=by
 induction t with
 |i=>exact .aw _ de de
 |op f a b iha ihb=>
  refine .list _ sm λp hp=>?_
  simp only[mC,List.not_mem_nil,or_false] at hp
  rcases hp with rfl|rfl|rfl
  ·exact adI f
  ·exact iha
  ·exact ihb
theorem adJ (f:Bool):(bJ (jO f)).text=jO f:=by cases f<;>exact qR de
theorem Ty.LY:Ty.i.text=[105]:=qR de
theorem Ty.II (f:Bool) (a b:Ty):(Ty.op f a b).text=40::(jO f++32::(a.text++32::(b.text++[41]))):=by
 show(aq.mk [] [bJ (jO f),a.au,b.au]).text=_
 rw[sr,qT,qT,qS,adJ]
 simp[Ty.text]
theorem LZ (f:Bool):(jO f).length=1:=by cases f<;>rfl
theorem Ty.pos (t:Ty):1<=t.n:=by cases t<;>simp[Ty.n];omega
theorem Ty.len (t:Ty):t.text.length+3<=4*t.n:=by induction t<;>grind [Ty.LY,Ty.n,Ty.II,LZ]
theorem Ty.deep (t:Ty):t.au.depth+1<=t.n:=by
 induction t with
 |i=>simp[Ty.au,bJ,aq.depth,aq.depth.deeps,Ty.n]
 |op f a b iha ihb=>
  have h0:(bJ (jO f)).depth=0:=rfl
  have h1:=a.pos
  have h2:=b.pos
  show aq.depth.deeps [bJ (jO f),a.au,b.au]+1<=_
  simp only[aq.depth.deeps,h0,Ty.n]
  omega
theorem Ty.size (t:Ty):t.au.size<=5*t.n:=by
 induction t with
 |i=>simp[Ty.au,bJ,aq.size,aq.size.sizes,Ty.n]
 |op f a b iha ihb=>
  have h0:(bJ (jO f)).size=2:=by cases f<;>rfl
  show 1+0+aq.size.sizes [bJ (jO f),a.au,b.au]<=_
  simp only[aq.size.sizes,h0,Ty.n];omega
theorem Ty.bA {t:Ty} (h:t.n<=60):bA t.text=some t.au:=LG t.lu (by have:=t.deep;omega) (by have:=t.len;show t.text.length<=_;omega)
theorem Ty.ne (t:Ty):t.text≠[]:=adH t.lu
theorem F4:∀{t u:Ty},t.au=u.au->t=u
 | .i,.i,_=>rfl
 | .i,.op _ _ _,h=>by simp[Ty.au,bJ] at h
 | .op _ _ _,.i,h=>by simp[Ty.au,bJ] at h
 | .op f a b,.op g c d,h=>by
  simp only[Ty.au,aq.mk.injEq,true_and,List.cons.injEq,and_true] at h
  obtain⟨h1,h2,h3⟩:=h
  rw[F4 h2,F4 h3]
  cases f<;>cases g<;>first|rfl|(simp[bJ,jO] at h1)
theorem Ty.inj {t u:Ty} (h:t.text=u.text):t=u:=F4 (LF t.lu u.lu h)
/-! ### Forms that are types -/
mutual
def fh:aq->Nat
 | .mk a ps=>if a≠[] then 1 else jw ps
def jw:List aq->Nat
 |[]=>0
 |t::ts=>fh t+jw ts
end
theorem R7:∀(xs ys:List aq),jw (xs++ys)=jw xs+jw ys:=by intro x;induction x<;>grind [jw]
theorem Ma (t:aq):fh t=if t.aw≠[] then 1 else jw t.ak:=by cases t with|mk a ps=>rw[fh];rfl
theorem R8 (h:ps[i]?=some p):jw (ps.take (i+1))=jw (ps.take i)+fh p:=by
 rw[List.take_add_one,h,R7];simp[jw]
mutual
theorem adK:∀t:aq,fh t<=t.size
 | .mk a ps=>by
  have:=Mb ps
  unfold fh
  simp only[aq.size]
  split<;>omega
theorem Mb:∀ps:List aq,jw ps<=aq.size.sizes ps
 |[]=>by simp[jw]
 |t::ts=>by
  have h1:=adK t
  have h2:=Mb ts
  simp only[jw,aq.size.sizes];omega
end
theorem Mc {a:ai} (h:a≠[]):fh (bJ a)=1:=by simp[fh,bJ,h]
theorem Ty.fh (t:Ty):fh t.au=t.n:=by
 induction t with
 |i=>simp[Ty.au,Mc,Ty.n]
 |op f a b iha ihb=>
  have h0:Go.Proofs.YthbhobaiopccaaaGreatDoor.fh (bJ (jO f))=1:=Mc (by cases f<;>decide)
  show Go.Proofs.YthbhobaiopccaaaGreatDoor.fh (.mk [] [bJ (jO f),a.au,b.au])=_
  simp only[Go.Proofs.YthbhobaiopccaaaGreatDoor.fh,jw,h0,iha,ihb,Ty.n]
  simp;omega
mutual
def oK:aq->Bool
 | .mk a ps=>if a≠[] then decide (a=[105]) else sw ps
def sw:List aq->Bool
 |[h,x,y]=>(decide (h.aw=[62])||decide (h.aw=[42]))&&(oK x&&oK y)
 |_=>false
end
theorem R9 (t:aq):oK t=if t.aw≠[] then decide (t.aw=[105]) else sw t.ak:=by cases t with|mk a ps=>rw[oK];rfl
theorem adL (hw:WF t):oK t=true↔∃u:Ty,t=u.au:=by
 constructor
 ·intro h
  have key:∀m (t:aq),t.size<=m->WF t->oK t=true->∃u:Ty,t=u.au:=by
   intro m
   induction m with
   |zero=>intro t ht;have:=xQ t;omega
   |succ m ih=>
    intro t hm hw h
    cases hw with
    |aw a ha=>
     simp only[oK,iP ha,dE] at h
     exact⟨.i,by rw[h];rfl⟩
    |list ps hp hw=>
     simp only[oK] at h
     rw[iN de] at h
     match ps,h with
     |[hd,x,y],h=>
      simp only[sw,aE,oE,dE] at h
      obtain⟨hs,hx,hy⟩:=h
      simp only[aq.size,aq.size.sizes] at hm
      obtain⟨u,rfl⟩:=ih x om (hw x sm) hx
      obtain⟨v,rfl⟩:=ih y om (hw y sm) hy
      have qf:∀s:ai,s≠[]->hd.aw=s->hd=bJ s:=λs nQ e=>by
       have hwh:=hw hd sm
       cases hwh with
       |aw a ha=>cases e;rfl
       |list qs _ _=>exact absurd e.symm nQ
      rcases hs with hs|hs
      ·exact⟨.op true u v,by rw[qf _ de hs];rfl⟩
      ·exact⟨.op false u v,by rw[qf _ de hs];rfl⟩
  exact key t.size t (lR _) hw h
 ·rintro⟨u,rfl⟩
  induction u with
  |i=>rfl
  |op f a b iha ihb=>
   show oK (.mk [] [bJ (jO f),a.au,b.au])=true
   have:=iha a.lu.wf
   have:=ihb b.lu.wf
   simp only[oK,sw, *]
   cases f<;>simp[bJ,jO,aq.aw]
def jP (t:aq):Bool:=oK t&&decide (fh t<=16)
theorem zX (hw:WF t):jP t=true↔∃u:Ty,t=u.au∧u.n<=16:=by
 unfold jP
 rw[aE,dE,adL hw]
 constructor
 ·rintro⟨⟨u,rfl⟩,h⟩;exact⟨u,rfl,by rw[<-u.fh];exact h⟩
 ·rintro⟨u,rfl,h⟩;exact⟨⟨u,rfl⟩,by rw[u.fh];exact h⟩
/-! ### Names -/
def dN (s:ai):Bool:=decide (1<=s.length)&&decide (s.length<=4)&&(decide (97<=s.getD 0 0)&&decide (s.getD 0 0<=122))&&(s.drop 1).all gW
def qg (s:ai):Bool:=(numeral s).isSome||dN s
theorem uX (h:dN s=true):s≠[]:=by grind [dN]
/-! ### Expressions -/
inductive Ex where
 |at(s:ai)
 |un (h:ai) (a:Ex)
 |bi (h:ai) (a b:Ex)
 |ite (a b c:Ex)
 |lt (x:ai) (a b:Ex)
 |fn (f x:ai) (A B:Ty) (e:Ex)
abbrev gj:ai:=[105,102]
abbrev fW:ai:=[108,101,116]
abbrev gF:ai:=[102,117,110]
abbrev B2:ai:=[102,115,116]
abbrev qU:ai:=[115,110,100]
abbrev j4:ai:=[99,97,108,108]
abbrev xS:ai:=[112,97,105,114]
def Ex.au:Ex->aq
 | .at s=>bJ s
 | .un h a=>.mk [] [bJ h,a.au]
 | .bi h a b=>.mk [] [bJ h,a.au,b.au]
 | .ite a b c=>.mk [] [bJ gj,a.au,b.au,c.au]
 | .lt x a b=>.mk [] [bJ fW,bJ x,a.au,b.au]
 | .fn f x A B e=>.mk [] [bJ gF,bJ f,bJ x,A.au,B.au,e.au]
def fX (h:ai):Bool:=decide (h=B2)||decide (h=qU)
def gH (h:ai):Bool:=decide (h=[43])||decide (h=[45])||decide (h=[42])||decide (h=j4)||decide (h=xS)
def Ex.ok:Ex->Prop
 | .at s=>qg s=true
 | .un h a=>fX h=true∧a.ok
 | .bi h a b=>gH h=true∧a.ok∧b.ok
 | .ite a b c=>a.ok∧b.ok∧c.ok
 | .lt x a b=>dN x=true∧a.ok∧b.ok
 | .fn f x A B e=>dN f=true∧dN x=true∧f≠x∧A.n<=16∧B.n<=16∧e.ok
def Ex.n:Ex->Nat
 | .at _=>1
 | .un _ a=>1+a.n
 | .bi _ a b=>1+a.n+b.n
 | .ite a b c=>1+a.n+b.n+c.n
 | .lt _ a b=>2+a.n+b.n
 | .fn _ _ A B e=>3+A.n+B.n+e.n
mutual
def dx:aq->Bool
 | .mk a ps=>if a≠[] then qg a else nk ps
def nk:List aq->Bool
 |[h,a]=>fX h.aw&&dx a
 |[h,a,b]=>gH h.aw&&(dx a&&dx b)
 |[h,a,b,c]=>if h.aw=gj then dx a&&(dx b&&dx c) else if h.aw=fW then dN a.aw&&(dx b&&dx c) else false
 |[h,f,x,A,B,e]=>decide (h.aw=gF)&&(dN f.aw&&dN x.aw&&decide (f.aw≠x.aw)&&jP A&&jP B&&dx e)
 |_=>false
end
theorem zY (hw:WF t) (hs:s≠[]) (e:t.aw=s):t=bJ s:=by
 cases hw with
 |aw a ha=>cases e;rfl
 |list qs _ _=>exact absurd e.symm hs
theorem Sa (k:fX h=true):h≠[]:=by rintro rfl;cases k
theorem Sb (k:gH h=true):h≠[]:=by rintro rfl;cases k
theorem pD (k:qg s=true):s≠[]:=by rintro rfl;cases k
theorem adN (hw:WF t):dx t=true↔∃e:Ex,t=e.au∧e.ok:=by
 constructor
 ·intro h
  have key:∀m (t:aq),t.size<=m->WF t->dx t=true->∃e:Ex,t=e.au∧e.ok:=by
   intro m
   induction m with
   |zero=>intro t ht;have:=xQ t;omega
   |succ m ih=>
    intro t hm hw h
    cases hw with
    |aw a ha=>
     simp only[dx,iP ha] at h
     exact⟨.at a,rfl,h⟩
    |list ps hp hw=>
     simp only[dx] at h
     rw[iN de] at h
     match ps,h with
     |[hd,x],h=>
      simp only[nk,aE] at h
      simp only[aq.size,aq.size.sizes] at hm
      obtain⟨u,rfl,hu⟩:=ih x om (hw x sm) h.2
      exact⟨.un hd.aw u,by rw[zY (hw hd sm) (Sa h.1) rfl];rfl,h.1,hu⟩
     |[hd,x,y],h=>
      simp only[nk,aE] at h
      simp only[aq.size,aq.size.sizes] at hm
      obtain⟨u,rfl,hu⟩:=ih x om (hw x sm) h.2.1
      obtain⟨v,rfl,hv⟩:=ih y om (hw y sm) h.2.2
      exact⟨.bi hd.aw u v,by rw[zY (hw hd sm) (Sb h.1) rfl];rfl,h.1,hu,hv⟩
     |[hd,x,y,z],h=>
      simp only[nk] at h
      simp only[aq.size,aq.size.sizes] at hm
      split at h
      ·rename_i hh
       simp only[aE] at h
       obtain⟨u,rfl,hu⟩:=ih x om (hw x sm) h.1
       obtain⟨v,rfl,hv⟩:=ih y om (hw y sm) h.2.1
       obtain⟨q,rfl,hq⟩:=ih z om (hw z sm) h.2.2
       exact⟨.ite u v q,by rw[zY (hw hd sm) de hh];rfl,hu,hv,hq⟩
      ·split at h
       ·rename_i hh
        simp only[aE] at h
        obtain⟨v,rfl,hv⟩:=ih y om (hw y sm) h.2.1
        obtain⟨q,rfl,hq⟩:=ih z om (hw z sm) h.2.2
        exact⟨.lt x.aw v q,by rw[zY (hw hd sm) de hh,zY (hw x sm) (uX h.1) rfl];rfl,h.1,hv,hq⟩
       ·cases h
     |[hd,f,x,A,B,e],h=>
      simp only[nk,aE,dE] at h
      simp only[aq.size,aq.size.sizes] at hm
      obtain⟨hh,⟨⟨⟨⟨hf,hx⟩,dL⟩,hA⟩,hB⟩,he⟩:=h
      obtain⟨u,rfl,hu⟩:=ih e om (hw e sm) he
      obtain⟨tA,rfl,Sd⟩:=(zX (hw A sm)).1 hA
      obtain⟨tB,rfl,IJ⟩:=(zX (hw B sm)).1 hB
      exact⟨.fn f.aw x.aw tA tB u,by rw[zY (hw hd sm) de hh,zY (hw f sm) (uX hf) rfl,zY (hw x sm) (uX hx) rfl];rfl,hf,hx,dL,Sd,IJ,hu⟩
  exact key t.size t (lR _) hw h
 ·rintro⟨e,rfl,ba⟩
  clear hw
  induction e with
  |«at» s=>
   show dx (.mk s [])=true
   simp only[dx];rw[iP (pD ba)];exact ba
  |un h a iha=>
   show dx (.mk [] [bJ h,a.au])=true
   simp only[dx];rw[iN de]
   simp only[nk,aE]
   exact⟨ba.1,iha ba.2⟩
  |bi h a b iha ihb=>
   show dx (.mk [] [bJ h,a.au,b.au])=true
   simp only[dx];rw[iN de]
   simp only[nk,aE]
   exact⟨ba.1,iha ba.2.1,ihb ba.2.2⟩
  |ite a b c iha ihb ihc=>
   show dx (.mk [] [bJ gj,a.au,b.au,c.au])=true
   simp only[dx];rw[iN de]
   simp only[nk]
   rw[iP (show(bJ gj).aw=gj from rfl)]
   simp only[aE]
   exact⟨iha ba.1,ihb ba.2.1,ihc ba.2.2⟩
  |lt x a b iha ihb=>
   show dx (.mk [] [bJ fW,bJ x,a.au,b.au])=true
   simp only[dx];rw[iN de]
   simp only[nk]
   rw[iN (show¬(bJ fW).aw=gj by decide),iP (show(bJ fW).aw=fW from rfl)]
   simp only[aE]
   exact⟨ba.1,iha ba.2.1,ihb ba.2.2⟩
  |fn f x A B e ih=>
   show dx (.mk [] [bJ gF,bJ f,bJ x,A.au,B.au,e.au])=true
   obtain⟨hf,hx,dL,hA,hB,he⟩:=ba
   simp only[dx];rw[iN de]
   simp only[nk,aE,dE]
   exact⟨rfl,⟨⟨⟨⟨hf,hx⟩,dL⟩,(zX A.lu.wf).2 ⟨A,rfl,hA⟩⟩,(zX B.lu.wf).2 ⟨B,rfl,hB⟩⟩,ih he⟩
/-! ### Parts -/
def Ex.head:Ex->ai
 | .at _=>[]
 | .un h _=>h
 | .bi h _ _=>h
 | .ite _ _ _=>gj
 | .lt _ _ _=>fW
 | .fn _ _ _ _ _=>gF
def Ex.from:Ex->Nat
 | .lt _ _ _=>2
 | .fn _ _ _ _ _=>5
 |_=>1
def Ex.kids:Ex->List Ex
 | .at _=>[]
 | .un _ a=>[a]
 | .bi _ a b=>[a,b]
 | .ite a b c=>[a,b,c]
 | .lt _ a b=>[a,b]
 | .fn _ _ _ _ e=>[e]
def Ex.binds:Ex->Nat->List ai
 | .lt x _ _,3=>[x]
 | .fn f x _ _ _,_=>[f,x]
 |_,_=>[]
def Ex.iv:Ex->Bool
 | .at _=>true
 |_=>false
def fL (e:Ex) (j:Nat):Ex:=e.kids.getD j (.at [])
theorem Ex.wf {e:Ex} (h:e.ok):Good e.au:=by
 have num:∀s:ai,qg s=true->s.all eT=true:=λs hs=>by
  unfold qg at hs
  rw[oE] at hs
  have Md:∀c:UInt8,gW c=true->eT c=true:=λc hc=>by
   unfold gW at hc;unfold eT
   rw[hc];simp
  rcases hs with hs|hs
  ·cases hn:numeral s with
   |none=>rw[hn] at hs;cases hs
   |some z=>
    unfold numeral at hn
    split at hn
    ·rename_i e;rw[e];decide
    ·split at hn
     ·cases hn
     ·split at hn
      ·rename_i ha
       rw[List.all_eq_true] at ha⊢
       intro c hc
       unfold er at ha
       split at ha
       ·rename_i hm
        cases s with
        |nil=>simp at hm
        |cons d r=>
         simp only[List.getD_cons_zero,List.drop_succ_cons,List.drop_zero] at hm ha
         rcases mC.1 hc with rfl|hc
         ·rw[hm.2];decide
         ·exact Md c (ha c hc)
       ·exact Md c (ha c hc)
      ·cases hn
  ·cases s with
   |nil=>rfl
   |cons c r=>
    simp only[dN,aE,dE,List.getD_cons_zero,List.drop_succ_cons,List.drop_zero] at hs
    obtain⟨⟨_,h1,h2⟩,h3⟩:=hs
    rw[List.all_cons,aE]
    refine⟨?_,?_⟩
    ·unfold eT;simp[h1,h2]
    ·rw[List.all_eq_true] at h3⊢
     exact λd hd=>Md d (h3 d hd)
 have nm:∀s:ai,dN s=true->Good (bJ s):=λs hs=>.aw _ (uX hs) (num s (by unfold qg;rw[hs];simp))
 induction e with
 |«at» s=>exact .aw _ (pD h) (num s h)
 |un hd a iha=>
  refine .list _ sm λp hp=>?_
  simp only[mC,List.not_mem_nil,or_false] at hp
  rcases hp with rfl|rfl
  ·obtain⟨k,_⟩:=h
   simp only[fX,oE,dE] at k
   rcases k with k|k<;>(rw[k];exact .aw _ de de)
  ·exact iha h.2
 |bi hd a b iha ihb=>
  refine .list _ sm λp hp=>?_
  simp only[mC,List.not_mem_nil,or_false] at hp
  rcases hp with rfl|rfl|rfl
  ·obtain⟨k,_⟩:=h
   simp only[gH,oE,dE] at k
   rcases k with(((k|k)|k)|k)|k<;>(rw[k];exact .aw _ de de)
  ·exact iha h.2.1
  ·exact ihb h.2.2
 |ite a b c iha ihb ihc=>
  refine .list _ sm λp hp=>?_
  simp only[mC,List.not_mem_nil,or_false] at hp
  rcases hp with rfl|rfl|rfl|rfl
  ·exact .aw _ de de
  ·exact iha h.1
  ·exact ihb h.2.1
  ·exact ihc h.2.2
 |lt x a b iha ihb=>
  refine .list _ sm λp hp=>?_
  simp only[mC,List.not_mem_nil,or_false] at hp
  rcases hp with rfl|rfl|rfl|rfl
  ·exact .aw _ de de
  ·exact nm x h.1
  ·exact iha h.2.1
  ·exact ihb h.2.2
 |fn f x A B e ih=>
  refine .list _ sm λp hp=>?_
  simp only[mC,List.not_mem_nil,or_false] at hp
  obtain⟨hf,hx,_,_,_,he⟩:=h
  rcases hp with rfl|rfl|rfl|rfl|rfl|rfl
  ·exact .aw _ de de
  ·exact nm f hf
  ·exact nm x hx
  ·exact A.lu
  ·exact B.lu
  ·exact ih he
theorem Ex.ak {e:Ex} (h:e.iv=false):e.au.aw=[]∧e.au.ak.length=e.from+e.kids.length∧(nth e.au.ak 0).aw=e.head∧∀j,j<e.kids.length->nth e.au.ak (e.from+j)=(fL e j).au:=by
 cases e with
 |«at» s=>cases h
 |un hd a=>exact⟨rfl,rfl,rfl,λj hj=>by
  have:j=0:=by simp[Ex.kids] at hj;omega
  subst this;rfl⟩
 |bi hd a b=>
  refine⟨rfl,rfl,rfl,λj hj=>?_⟩
  simp only[Ex.kids,lC,List.length_nil] at hj
  rcases(show j=0∨j=1 by omega) with rfl|rfl<;>rfl
 |ite a b c=>
  refine⟨rfl,rfl,rfl,λj hj=>?_⟩
  simp only[Ex.kids,lC,List.length_nil] at hj
  rcases(show j=0∨j=1∨j=2 by omega) with rfl|rfl|rfl<;>rfl
 |lt x a b=>
  refine⟨rfl,rfl,rfl,λj hj=>?_⟩
  simp only[Ex.kids,lC,List.length_nil] at hj
  rcases(show j=0∨j=1 by omega) with rfl|rfl<;>rfl
 |fn f x A B e=>exact⟨rfl,rfl,rfl,λj hj=>by
  have:j=0:=by simp[Ex.kids] at hj;omega
  subst this;rfl⟩
theorem Ex.pos (e:Ex):1<=e.n:=by cases e<;>simp[Ex.n]<;>omega
theorem Ex.fh {e:Ex} (h:e.ok):fh e.au=e.n:=by
 have xT:∀s:ai,s≠[]->Go.Proofs.YthbhobaiopccaaaGreatDoor.fh (bJ s)=1:=λs hs=>Mc hs
 have nl:∀ps:List aq,Go.Proofs.YthbhobaiopccaaaGreatDoor.fh (.mk [] ps)=jw ps:=λps=>by simp[Go.Proofs.YthbhobaiopccaaaGreatDoor.fh]
 induction e with
 |«at» s=>exact xT s (pD h)
 |un hd a iha=>show Go.Proofs.YthbhobaiopccaaaGreatDoor.fh (.mk [] [bJ hd,a.au])=_;rw[nl];simp only[jw,xT hd (Sa h.1),iha h.2,Ex.n];omega
 |bi hd a b iha ihb=>show Go.Proofs.YthbhobaiopccaaaGreatDoor.fh (.mk [] [bJ hd,a.au,b.au])=_;rw[nl];simp only[jw,xT hd (Sb h.1),iha h.2.1,ihb h.2.2,Ex.n];omega
 |ite a b c iha ihb ihc=>show Go.Proofs.YthbhobaiopccaaaGreatDoor.fh (.mk [] [bJ gj,a.au,b.au,c.au])=_;rw[nl];simp only[jw,xT gj de,iha h.1,ihb h.2.1,ihc h.2.2,Ex.n];omega
 |lt x a b iha ihb=>show Go.Proofs.YthbhobaiopccaaaGreatDoor.fh (.mk [] [bJ fW,bJ x,a.au,b.au])=_;rw[nl];simp only[jw,xT fW de,xT x (uX h.1),iha h.2.1,ihb h.2.2,Ex.n];omega
 |fn f x A B e ih=>
  obtain⟨hf,hx,_,_,_,he⟩:=h
  show Go.Proofs.YthbhobaiopccaaaGreatDoor.fh (.mk [] [bJ gF,bJ f,bJ x,A.au,B.au,e.au])=_
  rw[nl];simp only[jw,xT gF de,xT f (uX hf),xT x (uX hx),A.fh,B.fh,ih he,Ex.n];omega
theorem F5 {e:Ex} (h:e.ok) {j:Nat} (hj:j<e.kids.length):(fL e j).ok∧(fL e j).n<e.n:=by cases e<;>grind [Ex.ok,fL,Ty.n,Ex.n,Ex.kids]
def dW (h:ai):Nat×Nat:=
 if gH h then(1,3) else if h=gj then(1,4) else if h=fW then(2,4) else if h=gF then(5,6) else if fX h then(1,2) else(0,0)
theorem Me {e:Ex} (h:e.ok) (ha:e.iv=false):dW e.head=(e.from,e.from+e.kids.length):=by
 cases e with
 |«at» s=>cases ha
 |un hd a=>
  obtain⟨k,_⟩:=h
  simp only[fX,oE,dE] at k
  rcases k with k|k<;>(subst k;rfl)
 |bi hd a b=>show dW hd=_;unfold dW;rw[h.1];rfl
 |ite a b c=>rfl
 |lt x a b=>rfl
 |fn f x A B e=>rfl
/-! ### Free aK -/
def Fv (x:ai):Ex->Prop
 | .at s=>s=x∧dN x=true
 | .un _ a=>Fv x a
 | .bi _ a b=>Fv x a∨Fv x b
 | .ite a b c=>Fv x a∨Fv x b∨Fv x c
 | .lt y a b=>Fv x a∨(x≠y∧Fv x b)
 | .fn f y _ _ e=>x≠f∧x≠y∧Fv x e
def cH:Ex->List ai->List ai->List ai
 | .at s,bd,l=>if(!dN s||decide (s∈bd)||decide (s∈l))=true then l else l++[s]
 | .un _ a,bd,l=>cH a bd l
 | .bi _ a b,bd,l=>cH b bd (cH a bd l)
 | .ite a b c,bd,l=>cH c bd (cH b bd (cH a bd l))
 | .lt x a b,bd,l=>cH b (bd++[x]) (cH a bd l)
 | .fn f x _ _ e,bd,l=>cH e (bd++[f,x]) l
theorem B3 (x:ai):∀(e:Ex) (bd l:List ai),x∈cH e bd l↔x∈l∨(Fv x e∧x∉bd):=by intro x;induction x<;>grind [cH,Fv,dN]
theorem adO:∀(e:Ex) (bd l:List ai),l.Nodup->(cH e bd l).Nodup:=by intro x;induction x<;>grind [cH]
theorem Mf:∀(e:Ex) (bd l:List ai),(cH e bd l).length<=l.length+e.n:=by intro x;induction x<;>grind [cH,Ty.n,Ex.n]
def qh (e:Ex) (bd l:List ai):Nat->List ai
 |0=>l
 |j+1=>cH (fL e j) (bd++e.binds (e.from+j)) (qh e bd l j)
theorem adP {e:Ex} (ha:e.iv=false) (bd l:List ai):cH e bd l=qh e bd l e.kids.length:=by cases e<;>simp_all[Ex.iv,cH,qh,Ex.kids,fL,Ex.binds,Ex.from]
def jQ (x:ai):Ex->Nat
 | .at s=>if s=x then 1 else 0
 | .un _ a=>jQ x a
 | .bi _ a b=>jQ x a+jQ x b
 | .ite a b c=>jQ x a+jQ x b+jQ x c
 | .lt y a b=>jQ x a+if x=y then 0 else jQ x b
 | .fn f y _ _ e=>if x=f∨x=y then 0 else jQ x e
theorem adQ (hx:dN x=true):∀e:Ex,0<jQ x e↔Fv x e:=by intro x;induction x<;>grind [dN,jQ,Fv]
theorem count_le (x:ai):∀e:Ex,jQ x e<=e.n:=by intro x;induction x<;>grind [jQ,Ty.n,Ex.n]
def z1 (x:ai) (e:Ex):Nat->Nat
 |0=>0
 |j+1=>z1 x e j+if x∈e.binds (e.from+j) then 0 else jQ x (fL e j)
theorem Se {e:Ex} (ha:e.iv=false) (x:ai):jQ x e=z1 x e e.kids.length:=by cases e<;>simp_all[Ex.iv,jQ,z1,Ex.kids,fL,Ex.binds,Ex.from]
/-! ### Types of expressions -/
abbrev Sc:=List (ai×Ty)
def look (Γ:Sc) (s:ai):Option Ty:=(Γ.reverse.find? λp=>decide (p.1=s)).map Prod.snd
theorem oL (Γ:Sc) (x s:ai) (T:Ty):look (Γ++[(x,T)]) s=if x=s then some T else look Γ s:=by grind [look]
theorem z6 (Γ:Sc) (f x s:ai) (T U:Ty):look (Γ++[(f,T),(x,U)]) s=if x=s then some U else if f=s then some T else look Γ s:=by grind [look]
def kA (a b:Ty):Bool:=decide (a.text=b.text)
theorem adR {a b:Ty}:kA a b=true↔a=b:=by grind [kA,Ty.inj]
def kB (h:ai):List Ty->Option Ty
 |[a]=>match a with
  | .op false c d=>if h=B2 then some c else if h=qU then some d else none
  |_=>none
 |[a,b]=>
  if h=j4 then match a with
   | .op true c d=>if kA c b then some d else none
   |_=>none
  else if h=xS then(if 1+a.n+b.n<=16 then some (.op false a b) else none)
  else if kA a .i&&kA b .i then some .i else none
 |[a,b,c]=>if kA a .i&&kA b c then some b else none
 |_=>none
def bw:Ex->Sc->Option Ty
 | .at s,Γ=>if dN s then look Γ s else some .i
 | .un h a,Γ=>(bw a Γ).bind λA=>kB h [A]
 | .bi h a b,Γ=>(bw a Γ).bind λA=>(bw b Γ).bind λB=>kB h [A,B]
 | .ite a b c,Γ=>(bw a Γ).bind λA=>(bw b Γ).bind λB=>(bw c Γ).bind λC=>kB gj [A,B,C]
 | .lt x a b,Γ=>(bw a Γ).bind λA=>bw b (Γ++[(x,A)])
 | .fn f x A B e,Γ=>if 1+A.n+B.n<=16 then(bw e (Γ++[(f,.op true A B),(x,A)])).bind λC=>if kA C B then some (.op true A B) else none else none
theorem qi:∀(e:Ex) (Γ Δ:Sc),(∀s,dN s=true->Fv s e->look Γ s=look Δ s)->bw e Γ=bw e Δ
 | .at s,Γ,Δ,h=>by
  unfold bw
  by_cases hn:dN s=true
  ·rw[iP hn,iP hn];exact h s hn ⟨rfl,hn⟩
  ·rw[iN hn,iN hn]
 | .un hd a,Γ,Δ,h=>by unfold bw;rw[qi a Γ Δ h]
 | .bi hd a b,Γ,Δ,h=>by unfold bw;rw[qi a Γ Δ λs hn hs=>h s hn (.inl hs),qi b Γ Δ λs hn hs=>h s hn (.inr hs)]
 | .ite a b c,Γ,Δ,h=>by unfold bw;rw[qi a Γ Δ λs hn hs=>h s hn (.inl hs),qi b Γ Δ λs hn hs=>h s hn (.inr (.inl hs)),qi c Γ Δ λs hn hs=>h s hn (.inr (.inr hs))]
 | .lt x a b,Γ,Δ,h=>by
  unfold bw
  rw[qi a Γ Δ λs hn hs=>h s hn (.inl hs)]
  cases bw a Δ with
  |none=>rfl
  |some A=>
   refine qi b _ _ λs hn hs=>?_
   rw[oL,oL]
   by_cases e:x=s
   ·rw[iP e,iP e]
   ·rw[iN e,iN e];exact h s hn (.inr ⟨λe'=>e e'.symm,hs⟩)
 | .fn f x A B e,Γ,Δ,h=>by
  unfold bw
  rw[qi e _ (Δ++[(f,.op true A B),(x,A)]) λs hn hs=>?_]
  rw[z6,z6]
  by_cases e1:x=s
  ·rw[iP e1,iP e1]
  ·by_cases e2:f=s
   ·rw[iN e1,iN e1,iP e2,iP e2]
   ·rw[iN e1,iN e1,iN e2,iN e2];exact h s hn ⟨λe'=>e2 e'.symm,λe'=>e1 e'.symm,hs⟩
def xU (Γ:Sc):Prop:=∀s T,look Γ s=some T->T.n<=16
theorem F6 {Γ:Sc} (h:xU Γ) {T:Ty} (hT:T.n<=16):xU (Γ++[(x,T)]):=by grind [xU,Ty.n,Ex.n,oL]
theorem Mg:∀{ks:List Ty} {T:Ty},(∀k,k∈ks->k.n<=16)->kB h ks=some T->T.n<=16
 |[],T,_,e=>by cases e
 |[a],T,hk,e=>by
  have ha:=hk a sm
  cases a with
  |i=>cases e
  |op f c d=>
   cases f with
   |true=>cases e
   |false=>
    simp only[Ty.n] at ha
    simp only[kB] at e
    split at e
    ·cases e;omega
    ·split at e
     ·cases e;omega
     ·cases e
 |[a,b],T,hk,e=>by
  have ha:=hk a sm
  have hb:=hk b sm
  simp only[kB] at e
  split at e
  ·cases a with
   |i=>cases e
   |op f c d=>
    cases f with
    |false=>cases e
    |true=>
     simp only at e
     split at e
     ·cases e;simp only[Ty.n] at ha;omega
     ·cases e
  ·split at e
   ·split at e
    ·rename_i hc;cases e;simpa[Ty.n] using hc
    ·cases e
   ·split at e
    ·cases e;decide
    ·cases e
 |[a,b,c],T,hk,e=>by
  simp only[kB] at e
  split at e
  ·cases e;exact hk b sm
  ·cases e
 |_::_::_::_::_,T,_,e=>by cases e
theorem lv:∀{e:Ex} {Γ:Sc} {T:Ty},xU Γ->bw e Γ=some T->T.n<=16
 | .at s,Γ,T,hΓ,h=>by
  unfold bw at h
  split at h
  ·exact hΓ s T h
  ·cases h;decide
 | .un hd a,Γ,T,hΓ,h=>by
  unfold bw at h
  cases ha:bw a Γ with
  |none=>rw[ha] at h;cases h
  |some A=>
   rw[ha,Option.bind_some] at h
   exact Mg (λk hk=>by simp at hk;rw[hk];exact lv hΓ ha) h
 | .bi hd a b,Γ,T,hΓ,h=>by
  unfold bw at h
  cases ha:bw a Γ with
  |none=>rw[ha] at h;cases h
  |some A=>
   cases hb:bw b Γ with
   |none=>rw[ha,hb] at h;cases h
   |some B=>
    rw[ha,hb,Option.bind_some,Option.bind_some] at h
    exact Mg (λk hk=>by simp at hk;rcases hk with rfl|rfl;exact lv hΓ ha;exact lv hΓ hb) h
 | .ite a b c,Γ,T,hΓ,h=>by
  unfold bw at h
  cases ha:bw a Γ with
  |none=>rw[ha] at h;cases h
  |some A=>
   cases hb:bw b Γ with
   |none=>rw[ha,hb] at h;cases h
   |some B=>
    cases hc:bw c Γ with
    |none=>rw[ha,hb,hc] at h;cases h
    |some C=>
     rw[ha,hb,hc,Option.bind_some,Option.bind_some,Option.bind_some] at h
     exact Mg (λk hk=>by simp at hk;rcases hk with rfl|rfl|rfl;exact lv hΓ ha;exact lv hΓ hb;exact lv hΓ hc) h
 | .lt x a b,Γ,T,hΓ,h=>by
  unfold bw at h
  cases ha:bw a Γ with
  |none=>rw[ha] at h;cases h
  |some A=>
   rw[ha,Option.bind_some] at h
   exact lv (F6 hΓ (lv hΓ ha)) h
 | .fn f x A B e,Γ,T,hΓ,h=>by
  unfold bw at h
  split at h
  ·rename_i hc
   cases he:bw e (Γ++[(f,.op true A B),(x,A)]) with
   |none=>rw[he] at h;cases h
   |some C=>
    rw[he,Option.bind_some] at h
    split at h
    ·cases h;simpa[Ty.n] using hc
    ·cases h
  ·cases h
end Go.Proofs.YthbhobaiopccaaaGreatDoor
