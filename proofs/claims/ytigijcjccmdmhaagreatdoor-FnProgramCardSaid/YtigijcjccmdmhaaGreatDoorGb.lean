/- Lemmas for the law FnProgram, no statement of their own: no conditions. -/
import Derived.Test.YtigijcjccmdmhaaGreatDoorGa
import Derived.Laws.IdiomStrings
import Derived.Laws.MakeOwn
import Derived.Lib.Atoi
import Derived.Lib.Strings
namespace Go.Proofs.YtigijcjccmdmhaaGreatDoor
open Go
variable {B E U b bytes c d i k m m' n2 off sz x:Nat} {G L L' L1 W:List Nat} {w w' w0 w1 w2:World} {v v1 v3 v4 v5 v6 v8 z:Value} {g gb:Option Nat} {rows:List (List C)} {p t:aA} {ps ts:List aA} {P:Program} {ops:Array Oper} {bs:List Bk} {xs ys:List aj} {vs:List Value} {gss:List (Option Nat×Option Nat)} {vss:List (List Value)} {h r s:aj} {a:Option Addr} {e0:Env} {o:Oper} {l:List Oper}
structure Gr (B:Nat) (L:List Nat) (w:World) (T:TypeId) (sz:Nat) (v:Value) (g:Option Nat) (rows:List (List C)):Prop where
 own:∃xs,iw L w T sz v g rows xs
 low:∀b,g=some b->B<=b
 cZ:∀x,x∈L->x<w.heap.size
 bsz:B<=w.heap.size
theorem Gr.nil {T:TypeId} (hL:∀x,x∈L->x<w.heap.size) (hB:B<=w.heap.size):Gr B L w T sz (.slice none 0 0) none []:=
 ⟨⟨[],iw.nil _ _ _ _⟩,sm,hL,hB⟩
theorem Gr.aO {T:TypeId} (h:Gr B L w T sz v g rows) (k:ak L' w w') (hL:∀x,x∈L'->x∈L):Gr B L w' T sz v g rows:=
 ⟨h.own.imp λ_ h=>h.aO k hL,h.low,λx hx=>lL (h.cZ x hx) k.size,Nat.le_trans h.bsz k.size⟩
theorem Gr.ext {T:TypeId} (h:Gr B L w T sz v g rows) (k:ak [] w w'):Gr B L w' T sz v g rows:=h.aO k sm
theorem Gr.aL {T:TypeId} (h:Gr B L w T sz v g rows) (k:ak L' w w') (hL:∀x,x∈L'->x∈L):Gr B L w' T sz v g rows:=h.aO k hL
theorem Gr.alloc {T:TypeId} (h:Gr B L w T sz v g rows) (k:ak [] w w') (hz:w'.heap.size=w.heap.size+1):Gr B (w.heap.size::L) w' T sz v g rows:=
 ⟨h.own.imp λ_ h=>(h.more zw).aO k sm,h.low,λx hx=>by rcases mC.1 hx with rfl|hx;omega;have:=h.cZ x hx;omega,Nat.le_trans h.bsz k.size⟩
theorem Gr.jj {T:TypeId} (h:Gr B L w T sz v g rows) (hL:∀x,x∈L'->x∈L):Gr B L' w T sz v g rows:=
 ⟨h.own.imp λ_ h=>h.more λx hx=>.inl (hL x hx),h.low,λx hx=>h.cZ x (hL x hx),h.bsz⟩
theorem Gr.done {T:TypeId} (h:Gr B L w T sz v g rows):cD L w v (.sl sz rows):=by
 obtain⟨_,h⟩:=h.own;exact h.done
theorem Gr.Dl {T:TypeId} (h:Gr B L w T sz v g rows) (hb:b∈L):b∉g.toList:=by
 obtain⟨_,h⟩:=h.own;exact h.sep hb
theorem Gr.QI {T:TypeId} (h:Gr B L w T sz v g rows) (hb:b<B):b∉g.toList:=by
 intro hx;have:=h.low b (by simpa using hx);omega
theorem Gr.lt {T:TypeId} (h:Gr B L w T sz v g rows):∀x,x∈g.toList->x<w.heap.size:=by
 obtain⟨_,h⟩:=h.own;intro x hx;exact h.own.lt x (by simpa using hx)
theorem Gr.all {T:TypeId} (h:Gr B L w T sz v g rows):∀x,x∈g.toList++L->x<w.heap.size:=by
 intro x hx
 rcases mA.1 hx with hx|hx
 ·exact h.lt x hx
 ·exact h.cZ x hx
theorem Gr.since {T:TypeId} (h:Gr w0.heap.size L w T sz v g rows) (k0:ak L' w0 w) (k:ak g.toList w w'):ak L' w0 w':=
 k0.since k λx hx=>.inr (h.low x (by simpa using hx))
theorem ak.QJ (hB:w0.heap.size<=B) (hl:∀b,g=some b->B<=b) (k0:ak L' w0 w) (k:ak g.toList w w'):ak L' w0 w':=
 k0.since k λx hx=>.inr (Nat.le_trans hB (hl x (by simpa using hx)))
section
variable {P:Program} {n:Nat} {ops:Array Oper} {K:Env->World->Prop} {rest:List Oper} {e:Env} {w:World}
 {dst:Option Nat} {ty:TypeId} {pos:String} {after:Array Edge} {g:Option (Nat×Bool)} {x y:Operand}
theorem HV {B:Nat} {L:List Nat} {t:Nat} {v:Value} {gb:Option Nat} {rows:List (List C)} {row:List C} {news:List Value} {b U:Nat} (hT:P.underlying t=some (.slice E)) (hE:TI P E sz bytes z) (hg:gate ops e g=true) (hd:dw n dst=true) (hz:Nat.beq z.cells.size sz=true) (ig:Nat.ble bytes 1000=true) 
  (hx:ev e x=v) (hy:ev e y= .slice (some ⟨b,0,none⟩) 1 1) (hO:Gr B L w E sz v gb rows) (hb:aY w b news.toArray U) (iI:row.length=sz) (h1:news.all Value.oneCell'=true)
  (hr:dQ (gb.toList++L) w news row) (hn:rows.length<100000000)
  (k:∀a' cap' g' w',Gr B L w' E sz (.slice a' (rows.length+1) cap') g' (rows++[row])->ak gb.toList w w'->OW P n ops K rest (cO e dst (.slice a' (rows.length+1) cap')) w'):
  OW P n ops K (⟨dst,.call {callee:=.builtin .append,args:=#[x,y],argTypes:=#[t,t]},ty,pos,after,g⟩::rest) e w:=by
 obtain⟨xs,hR⟩:=hO.own
 have Dm:bytes<=1000:=Nat.le_of_ble_eq_true ig
 refine PO hT hE hg hd hz hx hy hR iI hb.all (λu hu=>List.all_eq_true.1 h1 u hu) hr hO.cZ (Nat.le_trans (Nat.mul_le_mul (show rows.length+1<=100000000 by omega) (show bytes+1<=1001 by omega)) de) ?_
 intro a' cap' g' w' kn hk k7
 refine k a' cap' g' w' ⟨⟨_,kn⟩,λb hb=>?_,λx hx=>lL (hO.cZ x hx) hk.size,Nat.le_trans hO.bsz hk.size⟩ hk
 rcases k7 with h|h
 ·rw[h] at hb;exact hO.low b hb
 ·rw[h] at hb;cases hb;exact hO.bsz
theorem K7 {B:Nat} {L:List Nat} {t:Nat} {v u1 u2:Value} {gb:Option Nat} {ts:List aA} {f:aA} {b U:Nat} (hT:P.underlying t=some (.slice E)) (hE:TI P E 2 bytes z) (hg:gate ops e g=true) (hd:dw n dst=true) (hz:Nat.beq z.cells.size 2=true) (ig:Nat.ble bytes 1000=true) 
  (hx:ev e x=v) (hy:ev e y= .slice (some ⟨b,0,none⟩) 1 1) (hO:Gr B L w E 2 v gb (dG ts)) (hb:aY w b [u1,u2].toArray U)
  (hr:bS (gb.toList++L) w (.agg #[u1,u2]) f) (hn:ts.length<100000000)
  (k:∀a' cap' g' w',Gr B L w' E 2 (.slice a' (ts++[f]).length cap') g' (dG (ts++[f]))->ak gb.toList w w'->OW P n ops K rest (cO e dst (.slice a' (ts++[f]).length cap')) w'):
  OW P n ops K (⟨dst,.call {callee:=.builtin .append,args:=#[x,y],argTypes:=#[t,t]},ty,pos,after,g⟩::rest) e w:=by
 refine HV hT hE hg hd hz ig hx hy hO hb (oU f) ?_ hr.kO (by rw[iJ];exact hn) ?_
 ·rw[List.all_eq_true]
  refine λu hu=>dQ.EV hr.kO (λc hc v hv=>?_) u hu
  cases f;rw[aA.enc] at hc
  simp only[mC,List.not_mem_nil,or_false] at hc
  rcases hc with h|h
  ·rw[h] at hv;cases hv;rfl
  ·rw[h] at hv;cases hv
 ·intro a' cap' g' w' kn hk
  have e1:(dG ts).length+1=(ts++[f]).length:=by simp[iJ]
  have e2:dG ts++[f.enc]=dG (ts++[f]):=by simp[Kv,dG]
  rw[e1] at kn⊢
  rw[e2] at kn
  exact k a' cap' g' w' kn hk
end
theorem QK {P:Program} {T:Nat} (hT:P.underlying T=some (.slice E)) (hE:TI P E sz bytes z):(Instr.buildSlice T 0 #[]).run P w= .ok (.slice (some ⟨w.heap.size,0,none⟩) 0 0) (w.alloc (.cells #[] E)):=by
 simp[Instr.buildSlice,Sem.run_bind,run_underlying hT,Result.andThen_ok,hE.tj,Instr.fill,newRow];congr 2;apply Array.ext<;>simp
theorem zU {P:Program} {n:Nat} {ops:Array Oper} {K:Env->World->Prop} {rest:List Oper} {e:Env} {w:World} {dst:Option Nat} {ty:TypeId} {pos:String} {after:Array Edge} {g:Option (Nat×Bool)} 
  {T E sz bytes:Nat} {z:Value} (B:Nat) (L:List Nat) (hT:P.underlying T=some (.slice E)) (hE:TI P E sz bytes z) (hg:gate ops e g=true) (hd:dw n dst=true) (hB:B<=w.heap.size) (hL:∀x,x∈L->x<w.heap.size)
  (k:∀w',ak [] w w'->w'.heap.size=w.heap.size+1->Gr B L w' E sz (.slice (some ⟨w.heap.size,0,none⟩) 0 0) (some w.heap.size) []->OW P n ops K rest (cO e dst (.slice (some ⟨w.heap.size,0,none⟩) 0 0)) w'):
  OW P n ops K (⟨dst,.buildSlice T 0 #[],ty,pos,after,g⟩::rest) e w:=
 fT hg hd (w':=w.alloc (.cells #[] E)) (by simp[execOp,QK (P:=P) (w:=w) hT hE])
  (k _ (ak.alloc _ _ _) sm ⟨⟨[],⟨by simp,.inr ⟨w.heap.size,0,#[],rfl,rfl,aY.alloc _ _ _,lR _,by decide,sm,sm⟩⟩,trivial,sm,by intro b hb hx;cases hb;have:=hL _ hx;omega⟩,
   by intro b hb;cases hb;exact hB,λx hx=>by have:=hL x hx;simp;omega,by simp;omega⟩)
theorem qj.kO {x y:Value} {b:Bk} (h:qj L w (.agg #[x,y,z]) b):dQ L w [x,y,z] b.enc:=by
 obtain⟨vs,he,hr⟩:=h
 have hv:vs=[x,y,z]:=by
  have:=congrArg (λv=>match v with|Value.agg x=>x.toList|_=>[]) he
  simpa using this.symm
 rw[<-hv];exact hr
theorem QL {P:Program} {n:Nat} {ops:Array Oper} {K:Env->World->Prop} {rest:List Oper} {e:Env} {w:World} {dst:Option Nat} {ty:TypeId} {pos:String} {after:Array Edge} {g:Option (Nat×Bool)} {x y:Operand} 
  {B:Nat} {L:List Nat} {t E bytes:Nat} {z:Value} {v u1 u2 u3:Value} {gb:Option Nat} {ts:List Bk} {f:Bk} {b U:Nat} (hT:P.underlying t=some (.slice E)) (hE:TI P E 3 bytes z) (hg:gate ops e g=true) (hd:dw n dst=true) (hz:Nat.beq z.cells.size 3=true) (ig:Nat.ble bytes 1000=true)
  (hx:ev e x=v) (hy:ev e y= .slice (some ⟨b,0,none⟩) 1 1) (hO:Gr B L w E 3 v gb (ts.map Bk.enc)) (hb:aY w b [u1,u2,u3].toArray U)
  (hr:qj (gb.toList++L) w (.agg #[u1,u2,u3]) f) (hn:ts.length<100000000)
  (k:∀a' cap' g' w',Gr B L w' E 3 (.slice a' (ts++[f]).length cap') g' ((ts++[f]).map Bk.enc)->ak gb.toList w w'->OW P n ops K rest (cO e dst (.slice a' (ts++[f]).length cap')) w'):
  OW P n ops K (⟨dst,.call {callee:=.builtin .append,args:=#[x,y],argTypes:=#[t,t]},ty,pos,after,g⟩::rest) e w:=by
 refine HV hT hE hg hd hz ig hx hy hO hb rfl ?_ hr.kO (by simpa using hn) ?_
 ·rw[List.all_eq_true]
  refine λu hu=>dQ.EV hr.kO (λc hc v hv=>?_) u hu
  rw[Bk.enc] at hc
  simp only[mC,List.not_mem_nil,or_false] at hc
  rcases hc with h|h|h
  ·rw[h] at hv;cases hv;rfl
  ·rw[h] at hv;cases hv
  ·rw[h] at hv;cases hv
 ·intro a' cap' g' w' kn hk
  have e1:(ts.map Bk.enc).length+1=(ts++[f]).length:=by simp
  have e2:ts.map Bk.enc++[f.enc]=(ts++[f]).map Bk.enc:=by simp
  rw[e1] at kn⊢
  rw[e2] at kn
  exact k a' cap' g' w' kn hk
theorem Gr.wb {T:TypeId} (h:Gr B L w T 3 v g (bs.map Bk.enc)):qV L w v bs:=h.done
/-! ### Owned lists of texts,owned programs -/
def dh (w:World) (T:TypeId) (v:Value) (g:Option Nat) (xs:List aj):Prop:=jX w T 1 v g xs.length (xs.map λx=>str x)
theorem QM:∀{xs:List aj} {vs:List Value},dQ L w vs (ji xs).flatten->vs=xs.map λx=>str x
 |[],vs,h=>by
  cases vs with
  |nil=>rfl
  |cons v vs=>exact h.elim
 |x::xs,vs,h=>by
  cases vs with
  |nil=>exact h.elim
  |cons v vs=>
   obtain⟨h1,h2⟩:=h
   cases h1
   rw[List.map_cons,<-QM (xs:=xs) h2]
theorem QN:∀xs:List aj,dQ L w (xs.map λx=>str x) (ji xs).flatten
 |[]=>trivial
 |_::xs=>⟨.val _,QN xs⟩
theorem Gr.wc {T:TypeId} (h:Gr B L w T 1 v g (ji xs)):dh w T v g xs:=by
 obtain⟨vs,h⟩:=h.own
 have:=h.own
 rw[QM h.rep,rP] at this
 exact this
theorem dh.aaL {T:TypeId} (h:dh w T v g xs) (hL:∀b,g=some b->b∉L):iw L w T 1 v g (ji xs) (xs.map λx=>str x):=
 ⟨by rw[rP];exact h,QN xs,by intro row hr;simp[ji] at hr;obtain⟨_,_,rfl⟩:=hr;rfl,hL⟩
theorem dh.rep {T:TypeId} (h:dh w T v g xs) (hL:∀b,g=some b->b∉L):bI L w v xs:=(h.aaL hL).done
theorem dh.aO {T:TypeId} (h:dh w T v g xs) (k:ak L w w') (hL:∀b,g=some b->b∉L):dh w' T v g xs:=jX.aO h k hL
theorem dh.ext {T:TypeId} (h:dh w T v g xs) (k:ak [] w w'):dh w' T v g xs:=h.aO k sm
def qm (w:World) (T:TypeId) (gs:Option Nat×Option Nat) (vs:List Value) (b:Bk):Prop:=
 ∃v1 v2,vs=[str b.aP,v1,v2]∧dh w T v1 gs.1 b.cE∧dh w T v2 gs.2 b.code
def jL (gs:Option Nat×Option Nat):List Nat:=gs.1.toList++gs.2.toList
def ik (gss:List (Option Nat×Option Nat)):List Nat:=gss.flatMap jL
theorem qm.aO {T:TypeId} {gs:Option Nat×Option Nat} {b:Bk} (h:qm w T gs vs b) (k:ak L w w') (hL:∀x,x∈jL gs->x∉L):qm w' T gs vs b:=by
 obtain⟨v1,v2,e,h1,h2⟩:=h
 exact⟨v1,v2,e,h1.aO k (λb hb=>hL b (by simp[jL,hb])),h2.aO k (λb hb=>hL b (by simp[jL,hb]))⟩
def js (w:World) (T:TypeId):List (Option Nat×Option Nat)->List (List Value)->List Bk->Prop
 |[],[],[]=>True
 |g::gs,v::vs,b::bs=>qm w T g v b∧js w T gs vs bs
 |_,_,_=>False
theorem js.aO {T:TypeId} (k:ak L w w'):∀{gss:List (Option Nat×Option Nat)} {vss:List (List Value)} {bs:List Bk},js w T gss vss bs->(∀x,x∈ik gss->x∉L)->js w' T gss vss bs
 |[],[],[],_,_=>trivial
 |g::gs,v::vs,b::bs,h,hL=>⟨h.1.aO k (λx hx=>hL x (by simp[ik,hx])),js.aO k h.2 (λx hx=>hL x (by simp[ik] at hx⊢;exact .inr hx))⟩
theorem js.snoc {T:TypeId}:∀{gss:List (Option Nat×Option Nat)} {vss:List (List Value)} {bs:List Bk} {g:Option Nat×Option Nat} {v:List Value} {b:Bk},js w T gss vss bs->qm w T g v b->js w T (gss++[g]) (vss++[v]) (bs++[b])
 |[],[],[],_,_,_,_,h=>⟨h,trivial⟩
 |_::_,_::_,_::_,_,_,_,h,k=>⟨h.1,js.snoc h.2 k⟩
theorem js.lens {T:TypeId}:∀{gss:List (Option Nat×Option Nat)} {vss:List (List Value)} {bs:List Bk},js w T gss vss bs->gss.length=bs.length∧vss.length=bs.length∧∀row,row∈vss->row.length=3
 |[],[],[],_=>by simp
 |g::gs,v::vs,b::bs,h=>by
  obtain⟨h1,h2,h3⟩:=js.lens h.2
  refine⟨by simp[h1],by simp[h2],λrow hr=>?_⟩
  rcases mC.1 hr with rfl|hr
  ·obtain⟨v1,v2,rfl,_⟩:=h.1;rfl
  ·exact h3 row hr
theorem js.get {T:TypeId}:∀{gss:List (Option Nat×Option Nat)} {vss:List (List Value)} {bs:List Bk},js w T gss vss bs->∀{i:Nat} {b:Bk},bs[i]?=some b->∃g v,gss[i]?=some g∧vss[i]?=some v∧qm w T g v b
 |_::_,_::_,_::_,h,0,b,hb=>by simp at hb;subst hb;exact⟨_,_,rfl,rfl,h.1⟩
 |_::gs,_::vs,_::bs,h,i+1,b,hb=>by
  obtain⟨g,v,h1,h2,h3⟩:=js.get h.2 (i:=i) (by simpa using hb)
  exact⟨g,v,by simpa using h1,by simpa using h2,h3⟩
 |[],[],[],_,i,b,hb=>by simp at hb
theorem js.BC {T:TypeId}:∀{gss:List (Option Nat×Option Nat)} {vss:List (List Value)} {bs:List Bk},js w T gss vss bs->(∀x,x∈ik gss->x∉L)->dQ L w vss.flatten (bs.map Bk.enc).flatten
 |[],[],[],_,_=>trivial
 |g::gs,v::vs,b::bs,h,hL=>by
  obtain⟨v1,v2,rfl,h1,h2⟩:=h.1
  refine⟨.val _,h1.rep (λb hb=>hL b (by simp[ik,jL,hb])),h2.rep (λb hb=>hL b (by simp[ik,jL,hb])),?_⟩
  exact js.BC h.2 (λx hx=>hL x (by simp[ik] at hx⊢;exact .inr hx))
structure mv (w:World) (TB TS:TypeId) (v:Value) (g:Option Nat) (gss:List (Option Nat×Option Nat)) (vss:List (List Value)) (bs:List Bk):Prop where
 own:jX w TB 3 v g bs.length vss.flatten
 rows:js w TS gss vss bs
 nodup:(g.toList++ik gss).Nodup
 lt:∀x,x∈ik gss->x<w.heap.size
theorem mv.aO {TB TS:TypeId} (h:mv w TB TS v g gss vss bs) (k:ak L w w') (hL:∀x,x∈g.toList++ik gss->x∉L):mv w' TB TS v g gss vss bs:=
 ⟨h.own.aO k (λb hb=>hL b (by simp[hb])),h.rows.aO k (λx hx=>hL x (by simp[hx])),h.nodup,λx hx=>lL (h.lt x hx) k.size⟩
theorem mv.ext {TB TS:TypeId} (h:mv w TB TS v g gss vss bs) (k:ak [] w w'):mv w' TB TS v g gss vss bs:=h.aO k sm
theorem bS.K8 {A B:List Nat} (h:bS (b::(A++B)) w v t):bS (A++(b::B)) w v t:=kB.fresh h λx hx=>.inl (PL x hx)
theorem bS.jj (h:bS L w v t) (hL:∀x,x∈L'->x∈L):bS L' w v t:=kB.fresh h λx hx=>.inl (hL x hx)
theorem fG.jj {t:List aA} (h:fG L w v t) (hL:∀x,x∈L'->x∈L):fG L' w v t:=cD.fresh h λx hx=>.inl (hL x hx)
theorem Gr.trees {T:TypeId} (h:Gr B L w T 2 v g (dG ts)):fG L w v ts:=h.done
theorem aaM (s:aj):Lib.trimPrefix s [45]=eD s:=by
 unfold Lib.trimPrefix Lib.hasPrefix eD
 cases s with
 |nil=>simp
 |cons c r=>
  by_cases h:c=45
  ·subst h;simp
  ·have h2:((45:UInt8)==c)=false:=by simpa using λhe=>h he.symm
   simp[List.isPrefixOf,h2,h]
theorem QO:∀(l:aj) (n:Nat),l.all ij=true->Lib.decFrom n l=some (l.foldl (λn c=>10*n+(c.toNat-48)) n)
 |[],n,_=>rfl
 |c::r,n,h=>by
  simp only[List.all_cons,aE] at h
  have hc:=(Bw c).1 h.1
  have hd:Lib.digitVal c=some (c.toNat-48):=by unfold Lib.digitVal;rw[iP hc]
  simp only[Lib.decFrom,hd,List.foldl_cons]
  rw[show n*10+(c.toNat-48)=10*n+(c.toNat-48) from by omega]
  exact QO r _ h.2
theorem aaN {l:aj} (hl:l≠[]) (h:l.all ij=true):Lib.decNat l=some (val l):=by
 unfold Lib.decNat
 rw[iN (by simpa using hl)]
 exact QO l 0 h
theorem aaO {z:Int} (h:numeral s=some z):Lib.atoi s=some z:=by
 unfold numeral at h
 by_cases h0:s=[48]
 ·rw[iP h0] at h;subst h0;rw[<-h];decide
 ·rw[iN h0] at h
  by_cases h1:(eD s).length<1∨3<(eD s).length∨(eD s).getD 0 0=48
  ·rw[iP h1] at h;cases h
  ·rw[iN h1] at h
   by_cases h2:(eD s).all ij=true
   ·rw[iP h2] at h
    have eN:eD s≠[]:=λhe=>h1 (.inl (by rw[he];simp))
    have hv:=aaN eN h2
    cases s with
    |nil=>exact absurd (by unfold eD;simp) eN
    |cons c r=>
     by_cases hc:c=45
     ·subst hc
      have hd:eD (45::r)=r:=by unfold eD;simp
      have hs:qS (45::r)= -1:=by unfold qS;simp
      rw[hd] at hv h
      rw[hs] at h
      simp only[Lib.atoi,hv,beq_self_eq_true,if_true,Option.map_some]
      rw[<-h];simp
     ·have hd:eD (c::r)=c::r:=by unfold eD;simp[hc]
      have hs:qS (c::r)=1:=by unfold qS;simp[hc]
      rw[hd] at hv h h2
      rw[hs] at h
      have QP:=(Bw c).1 (by simp only[List.all_cons,aE] at h2;exact h2.1)
      have e1:(c==45)=false:=by simpa using hc
      have e2:(c==43)=false:=by
       have:c≠43:=λhe=>by rw[he] at QP;exact absurd QP.1 de
       simpa using this
      simp only[Lib.atoi,e1,e2,hv,Bool.false_eq_true,if_false,Option.map_some]
      rw[<-h];simp
   ·rw[iN h2] at h;cases h
theorem QQ {z:Int} (h:numeral s=some z):s.length<=4:=by
 unfold numeral at h
 by_cases h0:s=[48]
 ·rw[h0];simp
 ·rw[iN h0] at h
  by_cases h1:(eD s).length<1∨3<(eD s).length∨(eD s).getD 0 0=48
  ·rw[iP h1] at h;cases h
  ·have:s.length<=(eD s).length+1:=by unfold eD;split<;>simp<;>omega
   omega
theorem aaP (s:aj):(decide (s=[48])||(decide (1<=(eD s).length)&&decide ((eD s).length<=3)&&(eD s).all ij&&decide ((eD s).getD 0 0≠48)))=(numeral s).isSome:=by
 unfold numeral
 by_cases h0:s=[48]
 ·rw[iP h0,dT h0];rfl
 ·rw[iN h0,dF h0,Bool.false_or]
  by_cases h1:(eD s).length<1∨3<(eD s).length∨(eD s).getD 0 0=48
  ·rw[iP h1]
   rcases h1 with h|h|h
   ·rw[dF (p:=1<=(eD s).length) om];rfl
   ·rw[dF (p:=(eD s).length<=3) om];simp
   ·rw[dF (p:=(eD s).getD 0 0≠48) (λhh=>hh h)];simp
  ·rw[iN h1]
   rw[dT (p:=1<=(eD s).length) om,dT (p:=(eD s).length<=3) om,dT (p:=(eD s).getD 0 0≠48) (λhh=>h1 (.inr (.inr hh)))]
   cases h2:(eD s).all ij<;>simp
theorem aaQ (s:aj):((numeral s).isSome&&(decide (0<=(numeral s).getD 0)&&decide ((numeral s).getD 0<=39)))=uG s:=by
 unfold uG zM
 cases h:numeral s with
 |none=>simp
 |some n=>
  simp only[Option.isSome_some,Bool.true_and,Option.getD_some]
  rw[<-Bool.decide_and]
  exact decide_eq_decide.2 (by split<;>omega)
theorem aaR (hk:k<s.length) (h:ij (s.getD k 0)=false):s.all ij=false:=by
 cases ha:s.all ij with
 |false=>rfl
 |true=>
  have:=List.all_eq_true.1 ha (s.getD k 0) (by rw[gG,gE hk];exact List.getElem_mem hk)
  rw[h] at this;cases this
theorem aaS (s:aj):(decide (s=[48])||(decide ((1:Int)<=((eD s).length:Int))&&decide (((eD s).length:Int)<=3)&&(eD s).all ij&&decide ((((eD s).getD 0 0).toNat:Int)≠48)))=(numeral s).isSome:=by
 rw[<-aaP,show decide ((1:Int)<=((eD s).length:Int))=decide (1<=(eD s).length) from decide_eq_decide.2 om,show decide (((eD s).length:Int)<=3)=decide ((eD s).length<=3) from decide_eq_decide.2 om,
  show decide ((((eD s).getD 0 0).toNat:Int)≠48)=decide ((eD s).getD 0 0≠48) from decide_eq_decide.2 (by
   have Qd:(48:UInt8).toNat=48:=rfl
   constructor
   ·intro h h2;exact h (by rw[h2];rfl)
   ·intro h h2;exact h (UInt8.toNat_inj.1 om))]
def BD (ts:List aA) (g:aA->Bool):Int:=match ts.findIdx? g with
 |some i=>(i:Int)
 |none=> -1
theorem Fe (h:i<ts.length):nth ts i=ts[i]:=by simp[nth,List.getD,gE h]
theorem aaT {g:aA->Bool} (hk:k<ts.length) (h:∀i,i<k->g (nth ts i)=false) (hl:g (nth ts k)=true):BD ts g=(k:Int):=by
 have:ts.findIdx? g=some k:=by
  rw[List.findIdx?_eq_some_iff_getElem]
  refine⟨hk,by rw[<-Fe hk];exact hl,λj hj=>?_⟩
  have:=h j hj
  rw[Fe (Nat.lt_trans hj hk)] at this
  simpa using this
 unfold BD;rw[this]
theorem aaU {g:aA->Bool} (h:∀i,i<ts.length->g (nth ts i)=false):BD ts g= -1:=by
 have:ts.findIdx? g=none:=by
  rw[List.findIdx?_eq_none_iff]
  intro b hb
  obtain⟨i,hi,rfl⟩:=List.getElem_of_mem hb
  have:=h i hi
  rw[Fe hi] at this
  simpa using this
 unfold BD;rw[this]
theorem aaV (ts:List aA) (g:aA->Bool):decide (0<=BD ts g)=ts.any g:=by
 unfold BD
 cases h:ts.findIdx? g with
 |none=>
  rw[List.findIdx?_eq_none_iff] at h
  have:ts.any g=false:=by rw[List.any_eq_false];intro x hx;simpa using h x hx
  rw[this];rfl
 |some i=>
  rw[List.findIdx?_eq_some_iff_getElem] at h
  obtain⟨hi,hg,_⟩:=h
  have:ts.any g=true:=List.any_eq_true.2 ⟨_,List.getElem_mem hi,hg⟩
  rw[this];exact dT (Int.natCast_nonneg i)
def ia (h:aj) (n:Nat):aj:=
 if h=[99,111,110,115,116] then[100,110]
 else if h=[109,111,118]∨h=[111,112,101,110] then[100,115]
 else if h=[97,100,100]∨h=[115,117,98]∨h=[109,117,108] then[100,115,115]
 else if h=[110,101,119] then[100]++List.replicate (n-2) 115
 else if h=[103,101,116] then[100,115,109]
 else if h=[108,97,98] then[100,108]
 else if h=[112,97,99,107] then[100,115,69,87]
 else if h=[122,101,114,111] then[115,108]
 else if h=[106,117,109,112]∨h=[104,97,108,116] then[115]
 else[]
def ic (z:Int) (t:aA):Bool:=
 if z=100∨z=115 then uG t.az else if z=110 then(numeral t.az).isSome
 else if z=109 then(numeral t.az).isSome&&decide (0<=(numeral t.az).getD 0)
 else if z=108 then nO t.az else if z=69 then(decide (t.au.length=2)&&decide (cI t=[101]))&&fC false t
 else if z=87 then fC false t else false
def dJ (t:aA):Bool:=
 if ia (cI t) t.au.length=[]∨t.au.length≠(ia (cI t) t.au.length).length+1 then false
 else decide (∀i,i<(ia (cI t) t.au.length).length->ic (((ia (cI t) t.au.length).getD i 0).toNat:Int) (nth t.au (i+1))=true)
theorem HW (h:ia (cI t) t.au.length=[]∨t.au.length≠(ia (cI t) t.au.length).length+1):dJ t=false:=by
 unfold dJ;rw[iP h]
theorem aaW (hi:i<(ia (cI t) t.au.length).length) (h:ic (((ia (cI t) t.au.length).getD i 0).toNat:Int) (nth t.au (i+1))=false):dJ t=false:=by
 unfold dJ;split
 ·rfl
 ·exact dF (λhh=>by have:=hh i hi;rw[h] at this;cases this)
theorem aaX (h:¬(ia (cI t) t.au.length=[]∨t.au.length≠(ia (cI t) t.au.length).length+1)) 
  (ha:∀i,i<(ia (cI t) t.au.length).length->ic (((ia (cI t) t.au.length).getD i 0).toNat:Int) (nth t.au (i+1))=true):dJ t=true:=by
 unfold dJ;rw[iN h,dT ha]
theorem shift {n:Nat} {P Q:Nat->Prop} (h:∀i,i<n->(P i↔Q (i+1))):(∀i,i<n->P i)↔(∀i,i<n+1->1<=i->Q i):=by
 constructor
 ·intro hp i hi h1
  have:=(h (i-1) om).1 (hp (i-1) om)
  rwa [show i-1+1=i from by omega] at this
 ·intro hq i hi
  exact(h i hi).2 (hq (i+1) om om)
theorem zV (σ τ:aj) (ex:Nat->aA->Bool) (h1:ia (cI t) t.au.length=σ) (h2:shapeOf (cI t)=τ) (hl:σ.length=τ.length) (eN:τ≠[]) (aaY:τ≠[114,42]) 
  (hp:∀i u,i<τ.length->ic ((σ.getD i 0).toNat:Int) u=(jq ((τ.getD i 0).toNat:Int) u&&ex i u))
  (hx:t.au.length=τ.length+1->(decide (cI t≠[103,101,116])||decide (0<=(numeral (nth t.au 3).az).getD 0))=decide (∀i,i<τ.length->ex i (nth t.au (i+1))=true)):dJ t=lY t:=by
 have hτ:1<=τ.length:=List.length_pos_iff.2 eN
 have hσ:σ≠[]:=λh=>by rw[h] at hl;simp at hl;omega
 by_cases hn:t.au.length=τ.length+1
 ·unfold dJ lY su
  rw[h1,h2,iN (by rw[hl];rintro(h|h);exact hσ h;exact h hn),iN eN,hx hn]
  rw[iN (by rw[dF (p:=t.au.length≠τ.length+1) om,dF (p:=t.au.length<2) om];simp),<-Bool.decide_and,decide_eq_decide,hl,hn]
  rw[<-shift (P:=λi=>jq ((τ.getD i 0).toNat:Int) (nth t.au (i+1))=true) (λi hi=>by
   unfold qh Dj
   rw[h2,show min (i+1) τ.length-1=i from by omega])]
  constructor
  ·intro h
   refine⟨λi hi=>?_,λi hi=>?_⟩<;>
   ·have:=h i hi
    rw[hp i _ hi,aE] at this
    first|exact this.1|exact this.2
  ·rintro⟨ha,hb⟩ i hi
   rw[hp i _ hi,ha i hi,hb i hi];rfl
 ·rw[HW (.inr (by rw[h1,hl];exact hn)),K1]
  unfold su
  rw[h2,dT aaY,dT hn];rfl
theorem aaZ (n:Nat) (u:Nat->aA):decide (∀i,i<n->(fun(_:Nat) (_:aA)=>true) i (u i)=true)=true:=dT (λ_ _=>rfl)
theorem aa0 (u:aA):((decide (u.au.length=2)&&decide (cI u=[101]))&&fC false u)=(decide (cI u=[101])&&fC false u):=by
 by_cases he:cI u=[101]
 ·rw[dT he,Bool.and_true,Bool.true_and]
  have ha:u.az=[]:=Classical.byContradiction λh=>by rw[Dg (.inl h)] at he;cases he
  rcases Nat.eq_zero_or_pos u.au.length with hz|hz
  ·rw[Dg (.inr (List.length_eq_zero_iff.1 hz))] at he;cases he
  ·have h0:=E7 ha (iM hz)
   rw[KY ha hz (by rw[<-h0];exact he),<-Bool.and_assoc,Bool.and_self]
 ·rw[dF he];simp
theorem QR {n:Nat} {P:Nat->Prop} (h:n<=4) (h0:P 0) (h1:2<=n->P 1) (h2:3<=n->P 2) (h3:4<=n->P 3):∀i,i<n->P i:=by
 intro i hi
 match i,hi with
 |0,_=>exact h0
 |1,hi=>exact h1 om
 |2,hi=>exact h2 om
 |3,hi=>exact h3 om
 |i+4,hi=>omega
theorem zW {σ τ:aj} {ex:Nat->aA->Bool} (hl:τ.length<=4) (h0:∀u,ic ((σ.getD 0 0).toNat:Int) u=(jq ((τ.getD 0 0).toNat:Int) u&&ex 0 u)) (h1:∀u,2<=τ.length->ic ((σ.getD 1 0).toNat:Int) u=(jq ((τ.getD 1 0).toNat:Int) u&&ex 1 u)) 
  (h2:∀u,3<=τ.length->ic ((σ.getD 2 0).toNat:Int) u=(jq ((τ.getD 2 0).toNat:Int) u&&ex 2 u)) (h3:∀u,4<=τ.length->ic ((σ.getD 3 0).toNat:Int) u=(jq ((τ.getD 3 0).toNat:Int) u&&ex 3 u)):
  ∀i u,i<τ.length->ic ((σ.getD i 0).toNat:Int) u=(jq ((τ.getD i 0).toNat:Int) u&&ex i u):=λi u=>
 QR (P:=λi=>ic ((σ.getD i 0).toNat:Int) u=(jq ((τ.getD i 0).toNat:Int) u&&ex i u)) hl (h0 u) (h1 u) (h2 u) (h3 u) i
theorem QS (u:aA):ic 100 u=uG u.az:=by simp[ic]
theorem QT (u:aA):ic 115 u=uG u.az:=by simp[ic]
theorem aa1 (u:aA):ic 110 u=(numeral u.az).isSome:=by simp[ic]
theorem aa2 (u:aA):ic 109 u=((numeral u.az).isSome&&decide (0<=(numeral u.az).getD 0)):=by simp[ic]
theorem aa3 (u:aA):ic 108 u=nO u.az:=by simp[ic]
theorem aa4 (u:aA):ic 69 u=((decide (u.au.length=2)&&decide (cI u=[101]))&&fC false u):=by simp[ic]
theorem aa5 (u:aA):ic 87 u=fC false u:=by simp[ic]
theorem K9 (u:aA):jq 114 u=uG u.az:=by simp[jq]
theorem aa6 (u:aA):jq 42 u=uG u.az:=by simp[jq]
theorem QU (u:aA):jq 110 u=(numeral u.az).isSome:=by simp[jq]
theorem aa7 (u:aA):jq 108 u=nO u.az:=by simp[jq]
theorem aa8 (u:aA):jq 101 u=(decide (cI u=[101])&&fC false u):=by simp[jq]
theorem aa9 (u:aA):jq 119 u=fC false u:=by simp[jq]
theorem Dn (u:aA):ic 100 u=(jq 114 u&&true):=by rw[QS,K9,Bool.and_true]
theorem BE (u:aA):ic 115 u=(jq 114 u&&true):=by rw[QT,K9,Bool.and_true]
theorem aba (u:aA):ic 110 u=(jq 110 u&&true):=by rw[aa1,QU,Bool.and_true]
theorem abb (u:aA):ic 109 u=(jq 110 u&&decide (0<=(numeral u.az).getD 0)):=by rw[aa2,QU]
theorem QV (u:aA):ic 108 u=(jq 108 u&&true):=by rw[aa3,aa7,Bool.and_true]
theorem abc (u:aA):ic 69 u=(jq 101 u&&true):=by rw[aa4,aa8,Bool.and_true,aa0]
theorem abd (u:aA):ic 87 u=(jq 119 u&&true):=by rw[aa5,aa9,Bool.and_true]
theorem abe (h:cI t=[110,101,119]):dJ t=lY t:=by
 have h1:ia (cI t) t.au.length=[100]++List.replicate (t.au.length-2) 115:=by rw[h];rfl
 have h2:shapeOf (cI t)=[114,42]:=by rw[h];rfl
 have hl:(ia (cI t) t.au.length).length=t.au.length-2+1:=by rw[h1];simp
 by_cases hn:2<=t.au.length
 ·unfold dJ lY su
  rw[iN (by rw[hl];rintro(hh|hh);(·rw[h1] at hh;simp at hh);(·omega)),h2,iN de,
   iN (by rw[dF (p:=t.au.length<2) om];simp),dT (p:=cI t≠[103,101,116]) (by rw[h];decide),Bool.true_or,Bool.and_true,decide_eq_decide,hl]
  rw[show(∀i,i<t.au.length->1<=i->qh t i=true)↔(∀i,i<(t.au.length-2+1)+1->1<=i->qh t i=true) from by rw[show t.au.length-2+1+1=t.au.length from by omega]]
  refine shift λi hi=>?_
  have e1:ic (((ia (cI t) t.au.length).getD i 0).toNat:Int) (nth t.au (i+1))=uG (nth t.au (i+1)).az:=by
   rw[h1]
   cases i with
   |zero=>exact QS _
   |succ i=>
    have:([100]++List.replicate (t.au.length-2) (115:UInt8)).getD (i+1) 0=115:=by
     simp[List.getD,show i<t.au.length-2 from by omega]
    rw[this];exact QT _
  have e2:qh t (i+1)=uG (nth t.au (i+1)).az:=by
   unfold qh Dj
   rw[h2]
   cases i with
   |zero=>exact K9 _
   |succ i=>rw[show min (i+1+1) ([114,42]:aj).length-1=1 from by simp];exact aa6 _
  rw[e1,e2]
 ·rw[HW (.inr (by rw[hl];omega)),K1]
  unfold su;rw[dT (p:=t.au.length<2) om,Bool.or_true]
theorem abf (t:aA):dJ t=lY t:=by
 have nog:∀{τ:aj},cI t≠[103,101,116]->(t.au.length=τ.length+1->(decide (cI t≠[103,101,116])||decide (0<=(numeral (nth t.au 3).az).getD 0))=decide (∀i,i<τ.length->(fun(_:Nat) (_:aA)=>true) i (nth t.au (i+1))=true)):=by
  intro τ h _;rw[aaZ _ (λi=>nth t.au (i+1)),dT h];rfl
 by_cases c1:cI t=[99,111,110,115,116]
 ·exact zV [100,110] [114,110] (λ_ _=>true) (by rw[c1];rfl) (by rw[c1];rfl) rfl de de
   (zW de (λu=>Dn u) (λu _=>aba u) (λ_ h=>absurd h de) (λ_ h=>absurd h de)) (nog (by rw[c1];decide))
 by_cases c2:cI t=[109,111,118]∨cI t=[111,112,101,110]
 ·exact zV [100,115] [114,114] (λ_ _=>true) (by rcases c2 with c|c<;>rw[c]<;>rfl) (by rcases c2 with c|c<;>rw[c]<;>rfl) rfl de de
   (zW de (λu=>Dn u) (λu _=>BE u) (λ_ h=>absurd h de) (λ_ h=>absurd h de)) (nog (by rcases c2 with c|c<;>rw[c]<;>decide))
 by_cases c3:cI t=[97,100,100]∨cI t=[115,117,98]∨cI t=[109,117,108]
 ·exact zV [100,115,115] [114,114,114] (λ_ _=>true) (by rcases c3 with c|c|c<;>rw[c]<;>rfl) (by rcases c3 with c|c|c<;>rw[c]<;>rfl) rfl de de
   (zW de (λu=>Dn u) (λu _=>BE u) (λu _=>BE u) (λ_ h=>absurd h de)) (nog (by rcases c3 with c|c|c<;>rw[c]<;>decide))
 by_cases c4:cI t=[110,101,119]
 ·exact abe c4
 by_cases c5:cI t=[103,101,116]
 ·refine zV [100,115,109] [114,114,110] (λi u=>if i=2 then decide (0<=(numeral u.az).getD 0) else true) (by rw[c5];rfl) (by rw[c5];rfl) rfl de de
   (zW de (λu=>Dn u) (λu _=>BE u) (λu _=>abb u) (λ_ h=>absurd h de)) (λ_=>?_)
  rw[show decide (cI t≠[103,101,116])=false from dF (λh=>h c5),Bool.false_or]
  refine decide_eq_decide.2 ⟨λh=>QR de rfl (λ_=>rfl) (λ_=>by simpa using h) (λh=>by simp at h),λh=>by simpa using h 2 de⟩
 by_cases c6:cI t=[108,97,98]
 ·exact zV [100,108] [114,108] (λ_ _=>true) (by rw[c6];rfl) (by rw[c6];rfl) rfl de de
   (zW de (λu=>Dn u) (λu _=>QV u) (λ_ h=>absurd h de) (λ_ h=>absurd h de)) (nog (by rw[c6];decide))
 by_cases c7:cI t=[112,97,99,107]
 ·exact zV [100,115,69,87] [114,114,101,119] (λ_ _=>true) (by rw[c7];rfl) (by rw[c7];rfl) rfl de de
   (zW de (λu=>Dn u) (λu _=>BE u) (λu _=>abc u) (λu _=>abd u)) (nog (by rw[c7];decide))
 by_cases c8:cI t=[122,101,114,111]
 ·exact zV [115,108] [114,108] (λ_ _=>true) (by rw[c8];rfl) (by rw[c8];rfl) rfl de de
   (zW de (λu=>BE u) (λu _=>QV u) (λ_ h=>absurd h de) (λ_ h=>absurd h de)) (nog (by rw[c8];decide))
 by_cases c9:cI t=[106,117,109,112]∨cI t=[104,97,108,116]
 ·exact zV [115] [114] (λ_ _=>true) (by rcases c9 with c|c<;>rw[c]<;>rfl) (by rcases c9 with c|c<;>rw[c]<;>rfl) rfl de de
   (zW de (λu=>BE u) (λ_ h=>absurd h de) (λ_ h=>absurd h de) (λ_ h=>absurd h de)) (nog (by rcases c9 with c|c<;>rw[c]<;>decide))
 ·have e1:ia (cI t) t.au.length=[]:=by unfold ia;rw[iN c1,iN c2,iN c3,iN c4,iN c5,iN c6,iN c7,iN c8,iN c9]
  have e2:shapeOf (cI t)=[]:=by unfold shapeOf;rw[iN c1,iN c2,iN c3,iN c4,iN c5,iN (λh=>by rcases h with h|h;exact c6 h;exact c8 h),iN c7,iN c9]
  rw[HW (.inl e1),Qw e2]
theorem abg (h:aj) (n:Nat):(ia h n).length<=n+4:=by
 unfold ia
 repeat' split
 all_goals simp
 all_goals omega
theorem QW (h:WF t):2<=t.size:=by
 cases h with
 |az a ha=>have:=List.length_pos_iff.2 ha;simp only[aA.size];omega
 |list ps hp hw=>
  cases ps with
  |nil=>exact absurd rfl hp
  |cons q r=>cases q;simp only[aA.size,aA.size.sizes];omega
theorem QX:∀{ps:List aA},(∀p,p∈ps->WF p)->2*ps.length<=aA.size.sizes ps
 |[],_=>by simp[aA.size.sizes]
 |q::ps,h=>by
  have h1:=QW (h q sm)
  have h2:=QX (ps:=ps) (λp hp=>h p (by simp[hp]))
  simp only[aA.size.sizes,lC];omega
theorem abh (h:WF t):2*t.au.length+1<=t.size:=by
 cases h with
 |az a ha=>simp[aA.au,aA.size];omega
 |list ps hp hw=>have:=QX hw;simp only[aA.au,aA.size];omega
def rQ (t:aA):Bool:=decide (cI t=[106,117,109,112])||decide (cI t=[104,97,108,116])
theorem abi (h:lY t=true):cI t=(nth t.au 0).az:=by
 unfold lY at h
 split at h
 ·cases h
 ·rename_i eN;exact(K0 eN).2.2
theorem abj (h:lY t=true):HQ t=rQ t:=by
 unfold HQ rQ;rw[h,abi h];rfl
inductive Good:aA->Prop
 |az (a:aj) (h:a≠[]) (hb:a.all fB=true):Good (.mk a [])
 |list (ps:List aA) (h:ps≠[]) (hp:∀p,p∈ps->Good p):Good (.mk [] ps)
theorem Good.wf (h:Good t):WF t:=by
 induction h with
 |az a h _=>exact .az a h
 |list ps h _ ih=>exact .list ps h ih
def aA.depth:aA->Nat
 | .mk _ ps=>deeps ps
 where deeps:List aA->Nat
 |[]=>0
 |t::ts=>max (t.depth+1) (deeps ts)
theorem abk:∀{p:aA},p∈ps->p.depth+1<=aA.depth.deeps ps:=by
 induction ps with
 |nil=>intro p h;simp at h
 |cons q ps ih=>
  intro p h
  rcases mC.1 h with rfl|h
  ·simp only[aA.depth.deeps];omega
  ·have:=ih h;simp only[aA.depth.deeps];omega
theorem La:∀{ps:List aA},(∀p,p∈ps->p.depth+1<=d)->aA.depth.deeps ps<=d
 |[],_=>by simp[aA.depth.deeps]
 |q::ps,h=>by
  have h1:=h q sm
  have h2:=La (ps:=ps) (λp hp=>h p (by simp[hp]))
  simp only[aA.depth.deeps];omega
theorem sy {a:aj} (h:a≠[]):(aA.mk a ps).text=a:=by simp[aA.text,h]
theorem qW (ps:List aA):(aA.mk [] ps).text=40::(mr ps++[41]):=by simp[aA.text]
theorem pH (t:aA):mr [t]=t.text:=by simp[mr]
theorem l3 (t u:aA) (r:List aA):mr (t::u::r)=t.text++32::mr (u::r):=by simp[mr]
theorem QY {rd:aj->Option (aA×aj)} (fp:∀s t r,rd s=some (t,r)->s=t.text++r):∀n s ts r,iU rd n s=some (ts,r)->ts≠[]∧s=mr ts++41::r
 |0,_,_,_,h=>by simp[iU] at h
 |n+1,s,ts,r,h=>by
  unfold iU at h
  cases hr:rd s with
  |none=>simp[hr] at h
  |some q=>
   obtain⟨t,r1⟩:=q
   have ht:=fp s t r1 hr
   simp only[hr] at h
   cases r1 with
   |nil=>simp at h
   |cons c r'=>
    simp only at h
    by_cases h1:c=41
    ·rw[iP h1] at h
     simp at h
     obtain⟨rfl,rfl⟩:=h
     exact⟨by simp,by rw[ht,h1,pH]⟩
    ·rw[iN h1] at h
     by_cases h2:c=32
     ·rw[iP h2] at h
      cases hp:iU rd n r' with
      |none=>simp[hp] at h
      |some q=>
       obtain⟨ts',r''⟩:=q
       simp[hp] at h
       obtain⟨rfl,rfl⟩:=h
       obtain⟨h4,h5⟩:=QY fp n r' ts' r'' hp
       cases ts' with
       |nil=>exact absurd rfl h4
       |cons u us=>exact⟨by simp,by rw[ht,h2,l3,h5];simp⟩
     ·rw[iN h2] at h;cases h
theorem abl:∀d s t r,fa d s=some (t,r)->s=t.text++r:=by
 have leaf:∀(s:aj) (t:aA) (r:aj),(if s.takeWhile fB=[] then none else some (aA.mk (s.takeWhile fB) [],s.dropWhile fB))=some (t,r)->s=t.text++r:=by
  intro s t r h
  split at h
  ·cases h
  ·rename_i hn
   simp only[Option.some.injEq,Prod.mk.injEq] at h
   rw[<-h.1,<-h.2,sy hn,List.takeWhile_append_dropWhile]
 intro d
 induction d with
 |zero=>
  intro s t r h
  cases s with
  |nil=>simp[fa] at h
  |cons c s=>
   simp only[fa] at h
   by_cases h1:c=40
   ·rw[iP h1] at h;cases h
   ·rw[iN h1] at h;exact leaf _ _ _ h
 |succ d ih=>
  intro s t r h
  cases s with
  |nil=>simp[fa] at h
  |cons c s=>
   simp only[fa] at h
   by_cases h1:c=40
   ·rw[iP h1] at h
    cases hp:iU (fa d) (s.length+1) s with
    |none=>simp[hp] at h
    |some q=>
     obtain⟨ts',r''⟩:=q
     simp[hp] at h
     obtain⟨h3,h4⟩:=QY ih _ _ _ _ hp
     rw[<-h.1,<-h.2,qW,h1,h4];simp
   ·rw[iN h1] at h;exact leaf _ _ _ h
theorem QZ {rd:aj->Option (aA×aj)} (d:Nat) (fp:∀s t r,rd s=some (t,r)->Good t∧t.depth<=d):∀n s ts r,iU rd n s=some (ts,r)->ts≠[]∧∀p,p∈ts->Good p∧p.depth<=d
 |0,_,_,_,h=>by simp[iU] at h
 |n+1,s,ts,r,h=>by
  unfold iU at h
  cases hr:rd s with
  |none=>simp[hr] at h
  |some q=>
   obtain⟨t,r1⟩:=q
   have ht:=fp s t r1 hr
   simp only[hr] at h
   cases r1 with
   |nil=>simp at h
   |cons c r'=>
    simp only at h
    by_cases h1:c=41
    ·rw[iP h1] at h
     simp at h
     obtain⟨rfl,_⟩:=h
     exact⟨by simp,by intro p hp;simp at hp;subst hp;exact ht⟩
    ·rw[iN h1] at h
     by_cases h2:c=32
     ·rw[iP h2] at h
      cases hp:iU rd n r' with
      |none=>simp[hp] at h
      |some q=>
       obtain⟨ts',r''⟩:=q
       simp[hp] at h
       obtain⟨rfl,_⟩:=h
       obtain⟨_,h4⟩:=QZ d fp n r' ts' r'' hp
       exact⟨by simp,by intro p hp;rcases mC.1 hp with rfl|hp;exact ht;exact h4 p hp⟩
     ·rw[iN h2] at h;cases h
theorem all_takeWhile (p:UInt8->Bool):∀s:aj,(s.takeWhile p).all p=true
 |[]=>rfl
 |c::s=>by
  by_cases h:p c=true
  ·simp only[List.takeWhile,h,List.all_cons,all_takeWhile p s];rfl
  ·simp[List.takeWhile,h]
theorem abm:∀d s t r,fa d s=some (t,r)->Good t∧t.depth<=d:=by
 have leaf:∀(d:Nat) (s:aj) (t:aA) (r:aj),(if s.takeWhile fB=[] then none else some (aA.mk (s.takeWhile fB) [],s.dropWhile fB))=some (t,r)->Good t∧t.depth<=d:=by
  intro d s t r h
  split at h
  ·cases h
  ·rename_i hn
   simp only[Option.some.injEq,Prod.mk.injEq] at h
   rw[<-h.1];exact⟨.az _ hn (all_takeWhile _ _),by simp[aA.depth,aA.depth.deeps]⟩
 intro d
 induction d with
 |zero=>
  intro s t r h
  cases s with
  |nil=>simp[fa] at h
  |cons c s=>
   simp only[fa] at h
   by_cases h1:c=40
   ·rw[iP h1] at h;cases h
   ·rw[iN h1] at h;exact leaf _ _ _ _ h
 |succ d ih=>
  intro s t r h
  cases s with
  |nil=>simp[fa] at h
  |cons c s=>
   simp only[fa] at h
   by_cases h1:c=40
   ·rw[iP h1] at h
    cases hp:iU (fa d) (s.length+1) s with
    |none=>simp[hp] at h
    |some q=>
     obtain⟨ts',r''⟩:=q
     simp[hp] at h
     obtain⟨h3,h4⟩:=QZ d ih _ _ _ _ hp
     rw[<-h.1]
     exact⟨.list _ h3 (λp hp=>(h4 p hp).1),La (λp hp=>by have:=(h4 p hp).2;omega)⟩
   ·rw[iN h1] at h;exact leaf _ _ _ _ h
def Stop (r:aj):Prop:=∀c,r[0]?=some c->fB c=false
theorem Lb {p:UInt8->Bool}:∀{a r:aj},a.all p=true->(∀c,r[0]?=some c->p c=false)->(a++r).takeWhile p=a∧(a++r).dropWhile p=r
 |[],[],_,_=>⟨rfl,rfl⟩
 |[],c::r,_,h=>by have:=h c rfl;simp[this]
 |c::a,r,ha,h=>by
  simp only[List.all_cons,aE] at ha
  obtain⟨h1,h2⟩:=Lb (a:=a) ha.2 h
  simp[ha.1,h1,h2]
theorem Q0 (h:Good t):∃c r,t.text=c::r:=by
 cases h with
 |az a ha _=>
  rw[sy ha]
  cases a with
  |nil=>exact absurd rfl ha
  |cons c r=>exact⟨c,r,rfl⟩
 |list ps _ _=>exact⟨_,_,qW ps⟩
theorem Q1 {rd:aj->Option (aA×aj)}:∀(ts:List aA) (n:Nat) (r:aj),ts≠[]->ts.length<=n->(∀t,t∈ts->∀r,Stop r->rd (t.text++r)=some (t,r))->iU rd n (mr ts++41::r)=some (ts,r)
 |[],_,_,h,_,_=>absurd rfl h
 |[t],n,r,_,hn,h=>by
  cases n with
  |zero=>simp at hn
  |succ n=>
   unfold iU
   rw[pH,h t sm (41::r) (by intro c hc;simp at hc;subst hc;decide)]
   simp
 |t::u::us,n,r,_,hn,h=>by
  cases n with
  |zero=>simp at hn
  |succ n=>
   unfold iU
   rw[l3,List.append_assoc,List.cons_append,h t sm (32::(mr (u::us)++41::r)) (by intro c hc;simp at hc;subst hc;decide)]
   have:=Q1 (rd:=rd) (u::us) n r sm (by simp at hn⊢;omega) (λt ht=>h t (by simp at ht⊢;exact .inr ht))
   simp[this]
theorem Q2:∀ts:List aA,(∀t,t∈ts->Good t)->ts.length<=(mr ts).length
 |[],_=>by simp
 |[t],h=>by obtain⟨c,r,e⟩:=Q0 (h t sm);rw[pH,e];simp
 |t::u::us,h=>by
  have:=Q2 (u::us) (λt ht=>h t (by simp at ht⊢;exact .inr ht))
  rw[l3];simp at this⊢;omega
theorem Lc:∀(d:Nat) (t:aA) (r:aj),Good t->t.depth<=d->Stop r->fa d (t.text++r)=some (t,r):=by
 intro d
 induction d with
 |zero=>
  intro t r hg hd hr
  cases hg with
  |az a ha hb=>
   obtain⟨c,a',rfl⟩:∃c a',a=c::a':=by cases a with|nil=>exact absurd rfl ha|cons c r=>exact⟨c,r,rfl⟩
   rw[sy ha,List.cons_append,EU 0 c _ (by rintro rfl;simp at hb;exact absurd hb.1 de)]
   obtain⟨h1,h2⟩:=Lb hb hr
   rw[List.cons_append] at h1 h2
   rw[h1,h2,iN sm]
  |list ps hp hw=>
   cases ps with
   |nil=>exact absurd rfl hp
   |cons q ps=>simp[aA.depth,aA.depth.deeps] at hd
 |succ d ih=>
  intro t r hg hd hr
  cases hg with
  |az a ha hb=>
   obtain⟨c,a',rfl⟩:∃c a',a=c::a':=by cases a with|nil=>exact absurd rfl ha|cons c r=>exact⟨c,r,rfl⟩
   rw[sy ha,List.cons_append,EU (d+1) c _ (by rintro rfl;simp at hb;exact absurd hb.1 de)]
   obtain⟨h1,h2⟩:=Lb hb hr
   rw[List.cons_append] at h1 h2
   rw[h1,h2,iN sm]
  |list ps hp hw=>
   rw[qW,List.cons_append,C7]
   have:=Q1 (rd:=fa d) ps ((mr ps++[41]++r).length+1) r hp (by have:=Q2 ps hw;simp at this⊢;omega)
    (λt ht r hr=>ih t r (hw t ht) (by have:=abk ht;simp only[aA.depth] at hd;omega) hr)
   unfold mQ
   rw[show rT (d+1)=fa d from funext λ_=>rfl]
   rw[show mr ps++[41]++r=mr ps++41::r from by simp] at this⊢
   rw[this];rfl
theorem Ld {u:aA} (h:Good t) (k:Good u) (e:t.text=u.text):t=u:=by
 have h1:=Lc (max t.depth u.depth) t [] h om (by intro c hc;simp at hc)
 have h2:=Lc (max t.depth u.depth) u [] k om (by intro c hc;simp at hc)
 rw[e,h2] at h1
 simp at h1;exact h1.symm
theorem BF (h:ba s=some t):Good t∧t.depth<=60∧t.text=s∧s.length<=12000:=by
 have hs:=KX h
 unfold ba at h
 split at h
 ·cases h
 ·cases hr:fa 60 s with
  |none=>rw[hr] at h;cases h
  |some q=>
   obtain⟨t',r⟩:=q
   rw[hr] at h
   cases r with
   |nil=>
    simp at h;subst h
    have h1:=abm _ _ _ _ hr
    have h2:=abl _ _ _ _ hr
    exact⟨h1.1,h1.2,by rw[h2];simp,hs⟩
   |cons c r=>cases h
theorem abn (h:Good t):ba t.text=if t.depth<=60∧t.text.length<=12000 then some t else none:=by
 split
 ·rename_i hc
  unfold ba
  have:=Lc 60 t [] h hc.1 (by intro c hc;simp at hc)
  rw[List.append_nil] at this
  rw[iN om,this]
 ·rename_i hc
  cases hp:ba t.text with
  |none=>rfl
  |some u=>
   obtain⟨h1,h2,h3,h4⟩:=BF hp
   have:=Ld h1 h h3
   subst this
   exact absurd ⟨h2,h4⟩ hc
theorem Le (h:Good t) (hd:t.depth<=60) (hl:t.text.length<=12000):ba t.text=some t:=by rw[abn h,iP ⟨hd,hl⟩]
structure gB where
 aP:aj
 regs:List aA
 code:List aA
def tr (s:aj):aA:=(ba s).getD (.mk [] [])
theorem Q3 (h:ba s=some t):tr s=t:=by unfold tr;rw[h];rfl
def fV (b:Bk):gB:=⟨b.aP,b.cE.map tr,b.code.map tr⟩
def xP (b:Bk):Bool:=decide (b.aP.length<=12000)
def mw (b:Bk):Bool:=oz b&&xP b
def qX (bs:List Bk):Bool:=jK bs&&bs.all xP
def cj (a:aj):aA:=.mk a []
def we (h:aj) (ts:List aA):aA:=.mk [] (cj h::ts)
def pI (ps:List aj):aj:=ps.flatMap λp=>32::p
def bP (h:aj) (ps:List aj):aj:=40::(h++pI ps++[41])
theorem Q4 (t:aA):∀ts:List aA,mr (t::ts)=t.text++pI (ts.map aA.text)
 |[]=>by rw[pH];simp[pI]
 |u::us=>by rw[l3,Q4 u us];simp[pI]
theorem Q5 (hh:h≠[]) (ts:List aA):(we h ts).text=bP h (ts.map aA.text):=by
 unfold we bP
 rw[qW,Q4];simp[cj,sy hh]
theorem abo (h1:h≠[]) (h2:h.all fB=true) (hp:∀t,t∈ts->Good t):Good (we h ts):=by
 refine .list _ sm λp Dp=>?_
 rcases mC.1 Dp with rfl|Dp
 ·exact .az _ h1 h2
 ·exact hp p Dp
theorem abp {b:Bk} (h:oz b=true):nO b.aP=true∧(∀s,s∈b.cE->∃t,ba s=some t∧fC false t=true)∧∀s,s∈b.code->∃t,ba s=some t∧lY t=true:=by
 unfold oz at h
 simp only[aE,dE] at h
 obtain⟨⟨⟨⟨h1,_⟩,_⟩,h2⟩,h3⟩:=h
 refine⟨h1,λs hs=>?_,λs hs=>?_⟩
 ·obtain⟨i,hi,rfl⟩:=List.getElem_of_mem hs
  have:=h2 i hi
  rw[aF,gG,gE hi] at this
  simp only[Option.getD_some] at this
  unfold rN seen at this
  cases hp:ba b.cE[i] with
  |none=>rw[hp] at this;cases this
  |some t=>rw[hp] at this;exact⟨t,rfl,this⟩
 ·obtain⟨i,hi,rfl⟩:=List.getElem_of_mem hs
  have:=h3 i hi
  unfold sw at this
  rw[aE] at this
  have:=this.1
  rw[aF,gG,gE hi] at this
  simp only[Option.getD_some] at this
  unfold bH seen at this
  cases hp:ba b.code[i] with
  |none=>rw[hp] at this;cases this
  |some t=>rw[hp] at this;exact⟨t,rfl,this⟩
theorem HX (h:jK bs=true):∀b,b∈bs->oz b=true:=by
 intro b hb
 obtain⟨i,hi,rfl⟩:=List.getElem_of_mem hb
 unfold jK at h
 simp only[aE,dE] at h
 have:=(h.1 i hi).1
 rw[bz,gG,gE hi] at this
 exact this
def abq:List aA->aj
 |[]=>[]
 |h::_=>h.az
mutual
def Ff (y:aA):aA->aA
 | .mk a ps=>if a=[118] then y else if a≠[]∨abq ps=[101] then .mk a ps else .mk [] (Q6 y ps)
def Q6 (y:aA):List aA->List aA
 |[]=>[]
 |t::ts=>Ff y t::Q6 y ts
end
/-! ### States -/
abbrev TS:=List (Option aA)
def abr (a:aj):Nat:=(zM a).toNat
def abt (st:TS) (a:aj):Option aA:=st.getD (abr a) none
def bf (n:Nat):aj:=if n<10 then[UInt8.ofNat (48+n)] else bf (n/10)++[UInt8.ofNat (48+n%10)]
 termination_by n
def Di (st:TS):List aA->Option (List aA)
 |[]=>some []
 |u::us=>(abt st u.az).bind λx=>(Di st us).map λxs=>x::xs
theorem abu (h:Lib.hasPrefix s [40]=true):∃r,s=40::r:=by
 cases s with
 |nil=>simp[Lib.hasPrefix,List.isPrefixOf] at h
 |cons c r=>simp[Lib.hasPrefix,List.isPrefixOf] at h;exact⟨r,by rw[h]⟩
theorem abv (h:Lib.hasPrefix s [40]=false):∀c r,s=c::r->c≠40:=by
 rintro c r rfl rfl
 simp[Lib.hasPrefix,List.isPrefixOf] at h
theorem abw (h:Lib.hasPrefix s [40]=false) (d:Nat):fa d s=if s.takeWhile fB=[] then none else some (.mk (s.takeWhile fB) [],s.dropWhile fB):=by
 cases s with
 |nil=>rw[PJ];simp
 |cons c r=>rw[EU d c r (abv h c r rfl)]
theorem abx (h:fa d s=none):mQ (d+1) s=none:=by rw[ET];show(match fa d s with|none=>none|some (t,r)=>_)=none;rw[h]
theorem aby (h:fa d s=some (t,[])):mQ (d+1) s=none:=by rw[ET];show(match fa d s with|none=>none|some (t,r)=>_)=none;rw[h]
theorem Q7 {c:UInt8} (h:fa d s=some (t,c::r)):mQ (d+1) s=if c=41 then some ([t],r) else if c=32 then(mQ (d+1) r).map λp=>(t::p.1,p.2) else none:=by
 rw[ET];show(match fa d s with|none=>none|some (t,r)=>_)=_;rw[h]
theorem Lf:(s.drop k).take (s.length-k)=s.drop k:=List.take_of_length_le sm
theorem HY {c:UInt8} (hk:k<256):decide ((c.toNat:Int)≠(k:Int))=decide (c≠UInt8.ofNat k):=decide_eq_decide.2 (by
 have e:(UInt8.ofNat k).toNat=k:=by simp;omega
 constructor
 ·intro h h2;rw[h2,e] at h;exact h rfl
 ·intro h h2;exact h (UInt8.toNat_inj.1 (by rw[e];omega)))
def BG (d:Nat) (s:aj) (t:aA) (r:aj) (ok:Bool):Prop:=(fa d s=some (t,r)∧ok=true)∨(fa d s=none∧ok=false)
theorem BG.le {ok:Bool} (h:BG d s t r ok) (ho:ok=true):fa d s=some (t,r)∧r.length<s.length:=by
 rcases h with⟨h,_⟩|⟨_,h⟩
 ·obtain⟨k,h1,h2,rfl⟩:=HE d s t r h
  exact⟨h,by simp;omega⟩
 ·rw[ho] at h;cases h
theorem abz {ok:Bool} (hm:BG d s t r ok) (h:((!ok||decide (r=[]))||(decide (((r.getD 0 0).toNat:Int)≠32)&&decide (((r.getD 0 0).toNat:Int)≠41)))=true):mQ (d+1) s=none:=by
 rcases hm with⟨hr,rfl⟩|⟨hr,rfl⟩
 ·cases r with
  |nil=>exact aby hr
  |cons c r=>
   rw[Q7 hr]
   simp only[Bool.not_true,Bool.false_or,List.getD_cons_zero,show decide (c::r=[])=false from by simp] at h
   rw[show(32:Int)=((32:Nat):Int) from rfl,show(41:Int)=((41:Nat):Int) from rfl,HY de,HY de,aE] at h
   have h1:¬c=32:=of_decide_eq_true h.1
   have h2:¬c=41:=of_decide_eq_true h.2
   rw[iN h2,iN h1]
 ·exact abx hr
theorem abA {ok:Bool} (hm:BG d s t r ok) (h:((!ok||decide (r=[]))||(decide (((r.getD 0 0).toNat:Int)≠32)&&decide (((r.getD 0 0).toNat:Int)≠41)))=false):
  0<r.length∧r.length<s.length∧mQ (d+1) s=if r.getD 0 0=41 then some ([t],r.drop 1) else(mQ (d+1) (r.drop 1)).map λp=>(t::p.1,p.2):=by
 simp only[Bool.or_eq_false_iff,Bool.not_eq_false',decide_eq_false_iff_not] at h
 obtain⟨⟨h1,h2⟩,h3⟩:=h
 obtain⟨hr,hl⟩:=hm.le h1
 cases r with
 |nil=>exact absurd rfl h2
 |cons c r=>
  refine⟨by simp,hl,?_⟩
  rw[Q7 hr]
  simp only[List.getD_cons_zero,List.drop_one,List.tail_cons] at h3⊢
  by_cases Fg:c=41
  ·rw[iP Fg,iP Fg]
  ·rw[iN Fg,iN Fg]
   rw[show(32:Int)=((32:Nat):Int) from rfl,show(41:Int)=((41:Nat):Int) from rfl,HY de,HY de,Bool.and_eq_false_iff] at h3
   rcases h3 with h3|h3
   ·rw[iP (by simpa using h3)]
   ·exact absurd (by simpa using h3) Fg
theorem abB {ok:Bool} (hl:s.length<=12000) (hm:BG 60 s t r ok):(ok&&decide (r=[]))=(ba s).isSome∧∀t',ba s=some t'->t=t':=by
 unfold ba
 rw[iN om]
 rcases hm with⟨hr,rfl⟩|⟨hr,rfl⟩
 ·rw[hr]
  cases r with
  |nil=>simp
  |cons c r=>simp
 ·rw[hr];simp
theorem abC {b:Bk} {n1:Nat} (h1:n1=b.cE.length) (h2:n2=b.code.length) 
  (h:(((!nO b.aP||decide ((12000:Int)<(b.aP.length:Int)))||decide ((40:Int)<(n1:Int)))||!(decide ((1:Int)<=(n2:Int))&&decide ((n2:Int)<=80)))=true):mw b=false:=by
 subst h1 h2
 unfold mw xP
 by_cases hs:b.aP.length<=12000
 ·rw[dT hs,Bool.and_true]
  refine QB ?_
  rw[dF (p:=(12000:Int)<(b.aP.length:Int)) om,Bool.or_false,HU rfl rfl] at h
  exact Qp h
 ·rw[dF hs,Bool.and_false]
theorem abD {b:Bk} {n1:Nat} (h1:n1=b.cE.length) (h2:n2=b.code.length) 
  (h:(((!nO b.aP||decide ((12000:Int)<(b.aP.length:Int)))||decide ((40:Int)<(n1:Int)))||!(decide ((1:Int)<=(n2:Int))&&decide ((n2:Int)<=80)))=false):
  (nO b.aP&&decide (b.cE.length<=40)&&(decide (1<=b.code.length)&&decide (b.code.length<=80)))=true∧xP b=true:=by
 subst h1 h2
 have hs:xP b=true:=by
  unfold xP
  simp only[Bool.or_eq_false_iff,decide_eq_false_iff_not] at h
  exact dT om
 refine⟨?_,hs⟩
 have zX:¬(12000:Int)<(b.aP.length:Int):=by have:=of_decide_eq_true hs;omega
 rw[dF zX,Bool.or_false,HU rfl rfl] at h
 exact Qo h
theorem abE {b:Bk} (hi:i<b.cE.length) (h:rN (aF b.cE i)=false):mw b=false:=by
 unfold mw;rw[QC hi h];rfl
theorem abF {b:Bk} (hi:i<b.code.length) (h:sw b.code i=false):mw b=false:=by
 unfold mw;rw[QD hi h];rfl
theorem abG (h:rN s=true) (ht:∀t',ba s=some t'->t=t'):t=tr s:=by
 unfold rN seen at h
 cases hp:ba s with
 |none=>rw[hp] at h;cases h
 |some t'=>rw[Q3 hp];exact ht t' hp
theorem Q8 {code:List aj} {n:Nat} (hn:n=code.length) (hi:i<n) (ht:∀t',ba (aF code i)=some t'->t=t'):
  ((!(ba (aF code i)).isSome||!dJ t)||(rQ t !=decide ((i:Int)=(n:Int)-1)))=!sw code i:=by
 rw[<-K5 hn hi,abf]
 unfold bH jr seen
 cases hp:ba (aF code i) with
 |none=>simp
 |some t'=>
  have:=ht t' hp
  subst this
  simp only[Option.isSome_some,Bool.not_true,Bool.false_or]
  cases hI:lY t with
  |false=>simp
  |true=>rw[abj hI]
theorem abH {code:List aj} (h:sw code i=true) (ht:∀t',ba (aF code i)=some t'->t=t'):t=tr (aF code i):=by
 unfold sw at h
 rw[aE] at h
 have h:=h.1
 unfold bH seen at h
 cases hp:ba (aF code i) with
 |none=>rw[hp] at h;cases h
 |some t'=>rw[Q3 hp];exact ht t' hp
theorem Lg {α β:Type} (f:α->β) {xs:List α} {x:α} (h:xs[i]?=some x):(xs.take i).map f++[f x]=(xs.take (i+1)).map f:=by
 obtain⟨hl,he⟩:=List.getElem?_eq_some_iff.1 h
 rw[List.take_succ_eq_append_getElem hl,List.map_append,he];rfl
theorem Lh {α β:Type} (f:α->β) {xs:List α} (h:xs.length<=i):(xs.take i).map f=xs.map f:=by rw[List.take_of_length_le h]
theorem HZ {α β:Type} (f:α->β) {xs:List α} (h:i<=xs.length):((xs.take i).map f).length=i:=by simp;omega
theorem Dq (ht:∀t',ba s=some t'->t=t') (h:(ba s).isSome=true):WF t∧t.size<=12001:=by
 obtain⟨t',hp⟩:=Option.isSome_iff_exists.1 h
 rw[ht t' hp];exact⟨tu hp,By hp⟩
def zY (ps:List gB) (l:aj):Int:=match ps.findIdx? (λb=>decide (b.aP=l)) with
 |some i=>(i:Int)
 |none=> -1
abbrev wg (ps:List gB) (i:Nat):gB:=ps.getD i ⟨[],[],[]⟩
theorem Q9 {ps:List gB} (h:i<ps.length):ps[i]?=some (wg ps i):=by simp[gE h]
def Fh (ps:List gB) (g:gB->Bool):Int:=match ps.findIdx? g with
 |some i=>(i:Int)
 |none=> -1
theorem Lj {ps:List gB} (h:i<ps.length):wg ps i=ps[i]:=by simp[gE h]
theorem abI {ts:List gB} {g:gB->Bool} (hk:k<ts.length) (h:∀i,i<k->g (wg ts i)=false) (hl:g (wg ts k)=true):Fh ts g=(k:Int):=by
 have:ts.findIdx? g=some k:=by
  rw[List.findIdx?_eq_some_iff_getElem]
  refine⟨hk,by rw[<-Lj hk];exact hl,λj hj=>?_⟩
  have:=h j hj
  rw[Lj (Nat.lt_trans hj hk)] at this
  simpa using this
 unfold Fh;rw[this]
theorem abJ {ts:List gB} {g:gB->Bool} (h:∀i,i<ts.length->g (wg ts i)=false):Fh ts g= -1:=by
 have:ts.findIdx? g=none:=by
  rw[List.findIdx?_eq_none_iff]
  intro b hb
  obtain⟨i,hi,rfl⟩:=List.getElem_of_mem hb
  have:=h i hi
  rw[Lj hi] at this
  simpa using this
 unfold Fh;rw[this]
theorem abK (h:i<bs.length):bz bs i=bs[i]:=by simp[gE h]
theorem Ra (hk:k<bs.length):decide ((0:Int)<=zY ((bs.take k).map fV) (bz bs k).aP)=decide (l0 bs (bz bs k).aP≠(k:Int)):=by
 refine decide_eq_decide.2 ?_
 by_cases hex:∃j,j<k∧(bz bs j).aP=(bz bs k).aP
 ·obtain⟨j,hj,hl⟩:=hex
  have h1:l0 bs (bz bs k).aP≠k:=by
   intro h
   unfold l0 at h
   cases hf:bs.findIdx? (λb=>decide (b.aP=(bz bs k).aP)) with
   |none=>rw[hf] at h;simp at h
   |some i=>
    rw[hf] at h
    have uz:i=k:=Int.ofNat.inj h
    subst uz
    rw[List.findIdx?_eq_some_iff_getElem] at hf
    obtain⟨_,_,dA⟩:=hf
    have:=dA j hj
    rw[<-abK] at this
    simp only[dE] at this
    exact this hl
  have h2:0<=zY ((bs.take k).map fV) (bz bs k).aP:=by
   unfold zY
   cases hf:((bs.take k).map fV).findIdx? (λb=>decide (b.aP=(bz bs k).aP)) with
   |some i=>simp
   |none=>
    rw[List.findIdx?_eq_none_iff] at hf
    have:=hf (fV (bz bs j)) (List.mem_map.2 ⟨bz bs j,by rw[List.mem_take_iff_getElem];exact⟨j,om,by simp[gE (show j<bs.length by omega)]⟩,rfl⟩)
    exact absurd hl (of_decide_eq_false this)
  exact⟨λ_=>h1,λ_=>h2⟩
 ·have h1:l0 bs (bz bs k).aP=k:=K4 hk (λj hj hl=>hex ⟨j,hj,hl⟩) rfl
  have h2:zY ((bs.take k).map fV) (bz bs k).aP= -1:=by
   unfold zY
   have:((bs.take k).map fV).findIdx? (λb=>decide (b.aP=(bz bs k).aP))=none:=by
    rw[List.findIdx?_eq_none_iff]
    intro x hx
    obtain⟨b,hb,rfl⟩:=List.mem_map.1 hx
    obtain⟨j,hj,rfl⟩:=List.mem_take_iff_getElem.1 hb
    refine dF λhl=>hex ⟨j,om,?_⟩
    rw[bz,gG,gE om]
    exact hl
   rw[this]
  rw[h1,h2];constructor
  ·intro h;omega
  ·intro h;exact absurd rfl h
theorem abL (hi:i<bs.length) (h:mw (bz bs i)=false∨l0 bs (bz bs i).aP≠i):qX bs=false:=by
 unfold qX
 cases hp:jK bs with
 |false=>rfl
 |true=>
  rw[Bool.true_and]
  rcases h with h|h
  ·have hm:bz bs i∈bs:=List.mem_of_getElem? (o3 hi)
   have hb:=HX hp _ hm
   unfold mw at h
   rw[hb,Bool.true_and] at h
   exact List.all_eq_false.2 ⟨_,hm,by rw[h];decide⟩
  ·rw[QF hi (λhh=>h hh.2)] at hp;cases hp
theorem abM (h:∀i,i<bs.length->mw (bz bs i)=true∧l0 bs (bz bs i).aP=i):
  qX bs=(decide (1<=bs.length)&&decide (bs.length<=40)&&decide ((bz bs 0).aP=[109,97,105,110])&&decide ((bz bs 0).cE.length=0)):=by
 unfold qX
 rw[QG (λi hi=>⟨by have:=(h i hi).1;unfold mw at this;rw[aE] at this;exact this.1,(h i hi).2⟩),show bs.all xP=true from ?_,Bool.and_true]
 refine List.all_eq_true.2 λb hb=>?_
 obtain⟨i,hi,rfl⟩:=List.getElem_of_mem hb
 have:=(h i hi).1
 unfold mw at this
 rw[aE] at this
 rw[bz,gG,gE hi] at this
 exact this.2
theorem abN (h:¬(1<=bs.length∧bs.length<=40)):qX bs=false:=by
 unfold qX jK
 by_cases h1:1<=bs.length
 ·rw[dF (p:=bs.length<=40) (λh2=>h ⟨h1,h2⟩)];simp
 ·rw[dF h1];simp
def gB.enc (b:gB):List C:=[.val (str b.aP),.sl 2 (dG b.regs),.sl 2 (dG b.code)]
def nQ (L:List Nat) (w:World) (v:Value) (b:gB):Prop:=kB L w v b.enc
theorem nQ.ext {b:gB} (h:nQ L w v b) (k:ak [] w w'):nQ L w' v b:=kB.ext h k
theorem nQ.grow {b:gB} (h:nQ L w v b):nQ (w.heap.size::L) w v b:=kB.fresh h zw
theorem nQ.aL {b:gB} (h:nQ L w v b) (k:ak L' w w') (hL:∀x,x∈L'->x∈L):nQ L w' v b:=kB.aO h (k.mono hL)
theorem nQ.jj {b:gB} (h:nQ L w v b) (hL:∀x,x∈L'->x∈L):nQ L' w v b:=kB.fresh h λx hx=>.inl (hL x hx)
theorem Rb {b:gB} (h:dQ L w vs b.enc):∃v1 v2,vs=[str b.aP,v1,v2]∧fG L w v1 b.regs∧fG L w v2 b.code:=by
 rw[gB.enc] at h
 match vs,h with
 |[v0,v1,v2],h=>obtain⟨h0,h1,h2,_⟩:=h;cases h0;exact⟨v1,v2,rfl,h1,h2⟩
 |[],h=>exact h.elim
 |[_],h=>exact h.2.elim
 |[_,_],h=>exact h.2.2.elim
 |_::_::_::_::_,h=>exact h.2.2.2.elim
theorem H0 (h:fG L w v ts):∃a c,v= .slice a ts.length c:=by
 obtain⟨a,c,rfl,_⟩:=rK h
 exact⟨a,c,by rw[iJ]⟩
theorem Lk {b:gB} (h:nQ L w v b):∃a1 c1 a2 c2,v= .agg #[str b.aP,.slice a1 b.regs.length c1,.slice a2 b.code.length c2]∧
  fG L w (.slice a1 b.regs.length c1) b.regs∧fG L w (.slice a2 b.code.length c2) b.code:=by
 obtain⟨vs,rfl,hr⟩:=h
 obtain⟨v1,v2,rfl,h1,h2⟩:=Rb hr
 obtain⟨a1,c1,rfl⟩:=H0 h1
 obtain⟨a2,c2,rfl⟩:=H0 h2
 exact⟨a1,c1,a2,c2,rfl,h1,h2⟩
theorem Ll {l:aj} {r c:List aA} {v2:Value} (h1:fG L w v1 r) (h2:fG L w v2 c):nQ L w (.agg #[str l,v1,v2]) ⟨l,r,c⟩:=
 ⟨[str l,v1,v2],rfl,.val _,h1,h2,trivial⟩
theorem nQ.kO {x y:Value} {b:gB} (h:nQ L w (.agg #[x,y,z]) b):dQ L w [x,y,z] b.enc:=by
 obtain⟨vs,he,hr⟩:=h
 have hv:vs=[x,y,z]:=by
  have:=congrArg (λv=>match v with|Value.agg x=>x.toList|_=>[]) he
  simpa using this.symm
 rw[<-hv];exact hr
def sA (L:List Nat) (w:World) (v:Value) (ps:List gB):Prop:=cD L w v (.sl 3 (ps.map gB.enc))
theorem sA.ext {ps:List gB} (h:sA L w v ps) (k:ak [] w w'):sA L w' v ps:=cD.ext h k
theorem sA.jj {b:List gB} (h:sA L w v b) (hL:∀x,x∈L'->x∈L):sA L' w v b:=cD.fresh h λx hx=>.inl (hL x hx)
theorem Rc:sA L w (.slice none 0 0) []:=.nil _ _ _
theorem abO {ps:List gB} (h:sA L w v ps):∃a c,v= .slice a ps.length c:=by
 obtain⟨a,c,rfl,_⟩:=rK h
 exact⟨a,c,sm⟩
theorem Rd {n:Nat} {ps:List gB} {k:gB} (h:sA L w (.slice a n c) ps) (hi:ps[i]?=some k):
  ∃b off a1 c1 a2 c2,a=some ⟨b,off,none⟩∧iH w b (off+i*3) [str k.aP,.slice a1 k.regs.length c1,.slice a2 k.code.length c2]∧fG L w (.slice a1 k.regs.length c1) k.regs∧fG L w (.slice a2 k.code.length c2) k.code:=by
 obtain⟨b,off,vs,ha,hb,hL,hl,hc,hr⟩:=ze h (show(ps.map gB.enc)[i]?=some k.enc by simp[hi])
 obtain⟨v1,v2,rfl,h1,h2⟩:=Rb hr
 obtain⟨a1,c1,rfl⟩:=H0 h1
 obtain⟨a2,c2,rfl⟩:=H0 h2
 exact⟨b,off,a1,c1,a2,c2,ha,hc,h1,h2⟩
theorem Gr.prog {T:TypeId} {ps:List gB} (h:Gr B L w T 3 v g (ps.map gB.enc)):sA L w v ps:=h.done
section
variable {P:Program} {n:Nat} {ops:Array Oper} {K:Env->World->Prop} {rest:List Oper} {e:Env} {w:World}
 {dst:Option Nat} {ty:TypeId} {pos:String} {after:Array Edge} {g:Option (Nat×Bool)} {x y:Operand}
theorem abP {B:Nat} {L:List Nat} {t:Nat} {v u1 u2 u3:Value} {gb:Option Nat} {ts:List gB} {f:gB} {b U:Nat} (hT:P.underlying t=some (.slice E)) (hE:TI P E 3 bytes z) (hg:gate ops e g=true) (hd:dw n dst=true) (hz:Nat.beq z.cells.size 3=true) (ig:Nat.ble bytes 1000=true) 
  (hx:ev e x=v) (hy:ev e y= .slice (some ⟨b,0,none⟩) 1 1) (hO:Gr B L w E 3 v gb (ts.map gB.enc)) (hb:aY w b [u1,u2,u3].toArray U)
  (hr:nQ (gb.toList++L) w (.agg #[u1,u2,u3]) f) (hn:ts.length<100000000)
  (k:∀a' cap' g' w',Gr B L w' E 3 (.slice a' (ts++[f]).length cap') g' ((ts++[f]).map gB.enc)->ak gb.toList w w'->OW P n ops K rest (cO e dst (.slice a' (ts++[f]).length cap')) w'):
  OW P n ops K (⟨dst,.call {callee:=.builtin .append,args:=#[x,y],argTypes:=#[t,t]},ty,pos,after,g⟩::rest) e w:=by
 refine HV hT hE hg hd hz ig hx hy hO hb rfl ?_ hr.kO (by simpa using hn) ?_
 ·rw[List.all_eq_true]
  refine λu hu=>dQ.EV hr.kO (λc hc v hv=>?_) u hu
  rw[gB.enc] at hc
  simp only[mC,List.not_mem_nil,or_false] at hc
  rcases hc with h|h|h
  ·rw[h] at hv;cases hv;rfl
  ·rw[h] at hv;cases hv
  ·rw[h] at hv;cases hv
 ·intro a' cap' g' w' kn hk
  have e1:(ts.map gB.enc).length+1=(ts++[f]).length:=by simp
  have e2:ts.map gB.enc++[f.enc]=(ts++[f]).map gB.enc:=by simp
  rw[e1] at kn⊢
  rw[e2] at kn
  exact k a' cap' g' w' kn hk
end
theorem Lm:∀(ts:List aA) (t:aA),ts≠[]->mr (ts++[t])=mr ts++32::t.text
 |[],_,h=>absurd rfl h
 |[u],t,_=>by rw[List.cons_append,List.nil_append,l3,pH,pH]
 |u::v::r,t,_=>by
  have:=Lm (v::r) t sm
  rw[List.cons_append,List.cons_append,l3,<-List.cons_append,this,l3];simp
def pre (ts:List aA):aj:=if ts=[] then[] else 40::mr ts
theorem abQ (hk:k<ps.length):pre (ps.take (k+1))=pre (ps.take k)++((if k=0 then 40 else 32)::(nth ps k).text):=by
 have e:ps.take (k+1)=ps.take k++[nth ps k]:=by rw[List.take_succ_eq_append_getElem hk,Fe hk]
 rw[e]
 by_cases h0:k=0
 ·subst h0;simp[pre,pH]
 ·have eN:ps.take k≠[]:=by intro h;have:=congrArg List.length h;rw[List.length_take] at this;simp only[List.length_nil] at this;omega
  unfold pre
  rw[iN sm,iN eN,Lm _ _ eN,iN h0];simp
theorem abR (dx:WF t) (h:t.au.length≠0):pre (t.au.take t.au.length)++[41]=t.text:=by
 cases dx with
 |az a _=>simp[aA.au] at h
 |list ps hp _=>
  rw[qW]
  show pre (ps.take ps.length)++[41]=_
  rw[List.take_length]
  unfold pre;rw[iN hp];simp
theorem abS (dx:WF t) (h:t.au.length=0):t.text=t.az:=by
 cases dx with
 |az a ha=>exact sy ha
 |list ps hp _=>exact absurd (List.length_eq_zero_iff.1 h) hp
theorem alA (dx:WF t) (hk:k<=t.au.length):(pre (t.au.take k)).length<=t.text.length:=by
 by_cases h:t.au.length=0
 ·rw[show k=0 from by omega];simp[pre]
 ·rw[<-abR dx h,lA]
  have mono:∀j,k<=j->j<=t.au.length->(pre (t.au.take k)).length<=(pre (t.au.take j)).length:=by
   intro j hj
   induction j with
   |zero=>intro _;rw[show k=0 from by omega];exact lR _
   |succ j ih=>
    intro vQ
    rcases Nat.lt_or_ge k (j+1) with h|h
    ·have:=ih om om
     rw[abQ om,lA];omega
    ·rw[show k=j+1 from by omega];exact lR _
  have:=mono _ hk (lR _)
  omega
def uH (ts:List aA):aj:=40::mr ts
theorem Re {ps:List aA} (hk:k<ps.length):uH (ps.take (k+1))=(uH (ps.take k)++(if k=0 then[] else[32]))++(nth ps k).text:=by
 have e:ps.take (k+1)=ps.take k++[nth ps k]:=by rw[List.take_succ_eq_append_getElem hk,Fe hk]
 rw[e]
 by_cases h0:k=0
 ·subst h0;simp[uH,pH,mr]
 ·have eN:ps.take k≠[]:=by intro h;have:=congrArg List.length h;rw[List.length_take] at this;simp only[List.length_nil] at this;omega
  unfold uH
  rw[Lm _ _ eN,iN h0];simp
theorem Rf (dx:WF t) (h:t.az=[]):uH (t.au.take t.au.length)++[41]=t.text:=by
 cases dx with
 |az a ha=>exact absurd h ha
 |list ps hp _=>
  rw[qW]
  show uH (ps.take ps.length)++[41]=_
  rw[List.take_length];rfl
theorem Ln (dx:WF t) (ha:t.az=[]) (hk:k<=t.au.length):(uH (t.au.take k)).length<=t.text.length:=by
 rw[<-Rf dx ha,lA]
 have mono:∀j,k<=j->j<=t.au.length->(uH (t.au.take k)).length<=(uH (t.au.take j)).length:=by
  intro j hj
  induction j with
  |zero=>intro _;rw[show k=0 from by omega];exact lR _
  |succ j ih=>
   intro vQ
   rcases Nat.lt_or_ge k (j+1) with h|h
   ·have:=ih om om
    rw[Re om,lA,lA];omega
   ·rw[show k=j+1 from by omega];exact lR _
 have:=mono _ hk (lR _)
 omega
/-! ### Texts joined -/
theorem Rg (a b:List aj):pI (a++b)=pI a++pI b:=by simp[pI]
def uI (h:aj) (ps:List aj) (k:Nat):aj:=40::(h++pI (ps.take k))
theorem abT {h:aj} {ps:List aj} (hk:k<ps.length):uI h ps (k+1)=(uI h ps k++[32])++aF ps k:=by
 unfold uI
 rw[List.take_succ_eq_append_getElem hk,Rg]
 simp[pI,aF,gE hk]
theorem abU {ps:List aj} (hk:ps.length<=k):uI h ps k++[41]=bP h ps:=by
 unfold uI bP;rw[List.take_of_length_le hk];simp
theorem abV {h:aj} {ps:List aj} (k:Nat):(uI h ps k).length+1<=(bP h ps).length:=by
 have:(pI (ps.take k)).length<=(pI ps).length:=by
  have:=Rg (ps.take k) (ps.drop k)
  rw[List.take_append_drop] at this
  rw[this,lA];omega
 simp[uI,bP];omega
/-! ### What the laws count -/
def jZ (xs:List aj):Nat:=xs.length+(xs.map List.length).sum
theorem Rh (ps:List aj):(pI ps).length=jZ ps:=by
 unfold jZ
 induction ps with
 |nil=>simp[pI]
 |cons p ps ih=>simp[pI] at ih⊢;omega
/-! ### A list that is filled -/
def fill {α:Type} (d:α) (xs:List α) (k:Nat):List α:=xs.take k++List.replicate (xs.length-k) d
theorem tx:∀(m:Nat) (t:aA),t.size<=m->WF t->t.size<=100000000->t.text.length<=100000000->∀(v:Value) (L:List Nat) (w:World),bS L w v t->
  bZ Tryz.prog 96 [v] w λr w'=>r=str t.text∧ak [] w w':=by
 intro m
 induction m with
 |zero=>intro t h dx;have:=QW dx;omega
 |succ m ih=>
  intro t hm dx mW gw v L w hv
  obtain⟨a,n,c,rfl,hn,bc⟩:=dN hv
  subst hn
  have oX:=xI t
  have hK:=ak.refl [] w
  refine cU [.tmp 2] 31 Tryz.func96 rfl ZV rfl rfl ?_
  refine zr<|fA rfl ?_
  intro w1 aJ aU dV
  have hK:=hK.ext aJ
  refine zA<|ag<|aQ<|zr<|zf dB rfl<|zl cg rfl (aU.at rfl)<|jF rfl rfl rfl rfl<|ag<|zc rfl (λh1=>?_) (λh1=>?_)
  have ht:=abS dx (by rw[dx.leaf h1];rfl)
  refine zr<|zf dB rfl<|zl cg rfl (aU.at rfl)<|zA<|ag<|aV ?_
  exact⟨_,rfl,show str _=str _ from congrArg _ ht.symm,hK⟩
  have ha:t.az=[]:=Classical.not_not.1 h1
  refine bA<|zr<|zA<|ag<|aQ<|zr<|zA<|ag<|cP ?_
  refine fZ (λk:Nat=>[(1,.pointer (some ⟨w.heap.size,0,none⟩)),(3,str (uH (t.au.take k))),(4,.int .i64 (k:Int))]) (λk w'=>ak [] w w'∧aY w' w.heap.size [str t.az,.slice a t.au.length c].toArray 66∧k<=t.au.length) (λk=>t.au.length-k) (0) (⟨rfl,rfl,rfl⟩) (⟨hK,aU,om⟩) ?_
  intro gg w2 e2 hI
  obtain⟨hK,aU,hk⟩:=hI
  refine aQ<|zr<|zm<|zf cM rfl<|zl cK rfl (aU.at rfl)<|eh cw rfl<|fJ rfl rfl rfl<|ag<|zc rfl (λh2=>?_) (λh2=>?_)
  have gh:=iM (ps:=t.au) (i:=gg) om
  obtain⟨b1,ga,pa,pn,pc,rfl,kS,fR,iy⟩:=j8 bc gh
  subst fR
  have BH:=dx.nth (i:=gg) om
  have ow:=lX (t:=t) (i:=gg) om
  have qi:=Ln dx ha hk
  have uJ:=Ln dx ha (k:=gg+1) om
  have bg:=Re (ps:=t.au) (k:=gg) om
  have hlen:=congrArg List.length bg
  rw[lA] at hlen
  refine bA<|aQ<|cP<|aQ<|zr<|zm<|jx rfl rfl rfl rfl rfl<|ag ?_
  refine jh (λ_:Unit=>[(1,.pointer (some ⟨w.heap.size,0,none⟩)),(3,str (uH (t.au.take gg)++(if gg=0 then[] else[32]))),(4,.int .i64 (gg:Int))]) (λ_ w'=>w'=w2) ?_ ?_
  refine zc rfl (λh3=>?_) (λh3=>?_)
  have Lo:¬gg=0:=by omega
  refine db<|zm<|cm rfl rfl so<|zA<|ag ?_
  exact⟨(),⟨rfl,by rw[iN Lo];rfl,rfl⟩,rfl⟩
  have Lo:gg=0:=by omega
  refine bA ?_
  exact⟨(),⟨rfl,by rw[iP Lo,List.append_nil];rfl,rfl⟩,rfl⟩
  intro gu w3 e3 hI
  obtain rfl:=hI
  refine db<|zm<|zf cM rfl<|zl cK rfl (aU.at rfl)<|zm<|zi cw aH rfl rfl om<|zL bT aH rfl (kS.ext hK) rfl<|aC (ih (nth t.au gg) om BH om om _ L w3 ((mS iy).ext hK)) ?_
  rintro v4 w4 ⟨eJ,aD⟩
  have gK:=aD.size
  have hK:=hK.ext aD;have aU:=aU.ext aD
  obtain rfl:=eJ
  refine cm rfl rfl om<|zA<|ag<|db<|zm<|eE rfl rfl rfl (wrap_i64 _ om om)<|zA<|ag ?_
  exact⟨gg+1,⟨rfl,by rw[bg];rfl,rfl⟩,⟨hK,aU,om⟩,om⟩
  have gJ:gg=t.au.length:=by omega
  have Fi:=Rf dx ha
  have qi:=Ln dx ha hk
  subst gJ
  refine gF<|gH rfl<|zr<|zm<|cm rfl rfl (by simp at qi⊢;omega)<|zA<|ag<|aV ?_
  exact⟨_,rfl,show str _=str _ from congrArg _ Fi,hK⟩
section
variable {P:Program} {n:Nat} {ops:Array Oper} {K:Env->World->Prop} {rest:List Oper} {e:Env} {w:World}
 {dst:Option Nat} {ty:TypeId} {pos:String} {after:Array Edge} {g:Option (Nat×Bool)} {x y:Operand}
/-! ### Elements that are stored -/
def setAt (cs:Array Value) (k:Nat):List Value->Array Value
 |[]=>cs
 |v::vs=>setAt (cs.setIfInBounds k v) (k+1) vs
theorem H2:∀(vs:List Value) (cs:Array Value) (k:Nat),(setAt cs k vs).size=cs.size
 |[],_,_=>rfl
 |v::vs,cs,k=>by unfold setAt;rw[H2 vs];simp
theorem H3:∀(vs:List Value) (cs:Array Value) (k:Nat),k+vs.length<=cs.size->(setAt cs k vs).toList=cs.toList.take k++(vs++cs.toList.drop (k+vs.length))
 |[],cs,k,_=>by simp[setAt]
 |v::vs,cs,k,h=>by
  unfold setAt
  simp only[lC] at h
  rw[H3 vs _ _ so,Array.toList_setIfInBounds]
  have hk:k<cs.toList.length:=by simp;omega
  rw[List.take_add_one,List.getElem?_set_self hk,List.take_set_of_le (lR k)]
  rw[List.drop_set_of_lt om]
  simp only[Option.toList_some,List.append_assoc,List.cons_append,List.nil_append,lC]
  rw[show k+1+vs.length=k+(vs.length+1) from by omega]
theorem Lp:∀(vs:List Value) (i:Nat) (w:World) (b o:Nat) (U:TypeId) (cs:Array Value),aY w b cs U->o+i+vs.length<=cs.size->(∀u∈vs,u.oneCell'=true)->
  ∃w',(storeCells ⟨b,o,none⟩ vs i).run P w= .ok () w'∧ak [b] w w'∧aY w' b (setAt cs (o+i) vs) U∧w'.heap.size=w.heap.size
 |[],i,w,b,o,U,cs,hb,_,_=>⟨w,rfl,ak.refl _ _,hb,rfl⟩
 |v::vs,i,w,b,o,U,cs,hb,hs,h1=>by
  simp only[lC] at hs
  have mL:o+i<cs.size:=by omega
  have bg:(store ((⟨b,o,none⟩:Addr).add i) v).run P w= .ok () (w.setCell ⟨b,o+i,none⟩ v):=by
   rw[vS,run_store P w _ v _ (h1 v sm),hb.cell,Array.getElem?_eq_getElem mL,hb.frozen]
   simp
  obtain⟨w',hr,hk,gW,hz⟩:=Lp vs (i+1) (w.setCell ⟨b,o+i,none⟩ v) b o U (cs.setIfInBounds (o+i) v) (hb.set (o+i) v) so (λu hu=>h1 u (by simp[hu]))
  refine⟨w',?_,(ak.setCell w b (o+i) v).trans hk,gW,by rw[hz];simp[World.setCell]⟩
  simp only[storeCells,Sem.run_bind,bg,Result.andThen_ok]
  exact hr
theorem Ri {α:Type}:∀{rows:List (List α)} {i:Nat} {row:List α},(∀r,r∈rows->r.length=sz)->i<rows.length->row.length=sz->(rows.set i row).flatten=rows.flatten.take (i*sz)++(row++rows.flatten.drop (i*sz+sz))
 |r::rows,0,row,h,_,hr=>by
  have h0:r.length=sz:=h r sm
  simp[<-h0]
 |r::rows,i+1,row,h,hi,hr=>by
  have h0:r.length=sz:=h r sm
  have ih:=Ri (rows:=rows) (i:=i) (row:=row) (λr hr=>h r (by simp[hr])) (by simpa using hi) hr
  rw[List.set_cons_succ,List.flatten_cons,List.flatten_cons,ih]
  have e1:(i+1)*sz=r.length+i*sz:=by rw[h0,Nat.add_mul];omega
  have e2:(i+1)*sz+sz=r.length+(i*sz+sz):=by omega
  rw[e2,e1,List.take_length_add_append,List.drop_length_add_append,List.append_assoc]
theorem dQ.take {w:World}:∀{k:Nat} {vs:List Value} {cs:List C},dQ L w vs cs->dQ L w (vs.take k) (cs.take k)
 |0,_,_,_=>by simp[dQ]
 |_+1,[],[],_=>trivial
 |_+1,_::_,_::_,h=>⟨h.1,dQ.take h.2⟩
theorem dQ.drop {w:World}:∀{k:Nat} {vs:List Value} {cs:List C},dQ L w vs cs->dQ L w (vs.drop k) (cs.drop k)
 |0,_,_,h=>h
 |_+1,[],[],_=>trivial
 |k+1,_::_,_::_,h=>dQ.drop (k:=k) h.2
theorem abW {T:Nat} {v:Value} {vs:List Value} {row:List C} {B:Nat} {L:List Nat} {E gb:Nat} {N c:Nat} {rows:List (List C)} {b o i:Nat} (kK:TI P T sz bytes z) (hg:gate ops e g=true) 
  (hx:ev e x= .pointer (some ⟨b,o,none⟩)) (hy:ev e y=v) (hv:v.cells=vs.toArray) (ho:o=i*sz) (hO:Gr B L w E sz (.slice (some ⟨b,0,none⟩) N c) (some gb) rows) (hi:i<rows.length) (h1:vs.all Value.oneCell'=true)
  (oC:row.length=sz) (hr:dQ (gb::L) w vs row)
  (k:∀w',ak [gb] w w'->w'.heap.size=w.heap.size->Gr B L w' E sz (.slice (some ⟨b,0,none⟩) N c) (some gb) (rows.set i row)->OW P n ops K rest e w'):
  OW P n ops K (⟨none,.store T x y,ty,pos,after,g⟩::rest) e w:=by
 subst ho
 obtain⟨xs,⟨⟨mN,h|⟨b',cap,cur,oD,Lq,hb,mM,mo,cJ,ht⟩⟩,ie,iI,Rj⟩⟩:=hO.own
 ·obtain⟨h,_⟩:=h;cases h
 ·cases Lq;cases oD
  have gL:vs.length=sz:=by rw[hr.length,oC]
  have hle:(i+1)*sz<=rows.length*sz:=Nat.mul_le_mul_right _ hi
  have Rk:rows.length*sz<=c*sz:=Nat.mul_le_mul_right _ mM
  rw[Nat.add_mul,Nat.one_mul] at hle
  obtain⟨w',kl,hk,gW,hz⟩:=Lp (P:=P) vs 0 w gb (i*sz) E cur hb (by rw[cJ,gL];omega) (λu hu=>List.all_eq_true.1 h1 u hu)
  rw[Nat.add_zero] at gW
  refine Hz hg (w':=w') (by
   simp[execOp,Instr.storeAt,Instr.sureAddr,hx,hy,storeVar,hv,kK.tj,gL,kl]) (k w' hk hz ⟨⟨xs.take (i*sz)++(vs++xs.drop (i*sz+sz)),⟨⟨?_,.inr ⟨gb,c,_,rfl,sm,gW,by simpa using mM,mo,by rw[H2];exact cJ,?_⟩⟩,?_,?_,Rj⟩⟩,hO.low,λx hx=>by rw[hz];exact hO.cZ x hx,by rw[hz];exact hO.bsz⟩)
  ·rw[lA,lA,List.length_take,List.length_drop,List.length_set,mN,gL];omega
  ·rw[H3 _ _ _ (by rw[cJ,gL];omega),List.length_set,<-ht,gL,List.take_append,List.take_append]
   simp only[List.length_take,Array.length_toList,cJ,gL,List.take_take,List.drop_take]
   rw[Nat.min_eq_right (show i*sz<=rows.length*sz by omega),Nat.min_eq_left (show i*sz<=rows.length*sz by omega),Nat.min_eq_left (show i*sz<=c*sz by omega),List.take_of_length_le (l:=vs) om]
   rw[show rows.length*sz-i*sz-sz=rows.length*sz-(i*sz+sz) from by omega]
  ·rw[Ri iI hi oC]
   refine dQ.append (dQ.aO ie.take (hk.mono sm)) (dQ.append (hr.aO (hk.mono sm)) (dQ.aO ie.drop (hk.mono sm)))
  ·intro r rM
   rcases List.mem_or_eq_of_mem_set rM with h|h
   ·exact iI r h
   ·rw[h];exact oC
/-! ### Slices that are built of several au -/
theorem Rl (off:Nat):∀(us:List Value) (i:Nat) (cs:Array Value),((us.zipIdx i).foldl (fun(cs:Array Value) (p:Value×Nat)=>cs.setIfInBounds (off+p.2) p.1) cs)=setAt cs (off+i) us
 |[],_,_=>rfl
 |u::us,i,cs=>by rw[List.zipIdx_cons,List.foldl_cons,Rl off us];rfl
theorem Rm:∀(us:List Value) (vss:List (List Value)) (k:Nat) (cs:Array Value),us.map Value.cells=vss.map List.toArray->(∀vs,vs∈vss->vs.length=sz)->cs.size=(k+us.length)*sz->
  ∃cs',Instr.fill (λi=>some (i*sz,sz)) cs ((us.zipIdx k).map λp=>(p.2,p.1))=some cs'∧cs'.toList=cs.toList.take (k*sz)++vss.flatten
 |[],[],k,cs,_,_,hs=>⟨cs,rfl,by simp only[List.length_nil,Nat.add_zero] at hs;simp only[List.flatten_nil,List.append_nil];rw[List.take_of_length_le (by simp[hs])]⟩
 |[],_::_,_,_,h,_,_=>by simp at h
 |_::_,[],_,_,h,_,_=>by simp at h
 |u::us,vs::vss,k,cs,h,hl,hs=>by
  simp only[List.map_cons,List.cons.injEq] at h
  have gL:vs.length=sz:=hl vs sm
  simp only[lC] at hs
  have e:(k+(us.length+1))*sz=k*sz+sz+us.length*sz:=by rw[Nat.add_mul,Nat.add_mul,Nat.one_mul];omega
  rw[List.zipIdx_cons,List.map_cons]
  obtain⟨cs',h1,h2⟩:=Rm us vss (k+1) (setAt cs (k*sz) vs) h.2 (λv hv=>hl v (by simp[hv])) (by rw[H2,hs];congr 1;omega)
  refine⟨cs',?_,?_⟩
  ·unfold Instr.fill
   simp only[h.1]
   rw[iN (by simp[gL];omega)]
   have h3:=Rl (k*sz) vs 0 cs
   simp only[Nat.add_zero] at h3
   have h4:Array.foldl (fun(cs:Array Value) (p:Value×Nat)=>cs.setIfInBounds (k*sz+p.2) p.1) cs vs.toArray.zipIdx=setAt cs (k*sz) vs:=by rw[<-h3];simp
   rw[h4];exact h1
  ·have e2:(k+1)*sz=k*sz+sz:=by rw[Nat.add_mul,Nat.one_mul]
   have EN:min (k*sz) cs.size=k*sz:=Nat.min_eq_left om
   rw[h2,H3 _ _ _ (by rw[gL];omega),e2,List.flatten_cons,List.take_append,List.take_append]
   simp only[List.length_take,Array.length_toList,EN,gL,List.take_take]
   rw[Nat.min_eq_right (show k*sz<=k*sz+sz by omega),show k*sz+sz-k*sz=sz from by omega,List.take_of_length_le (l:=vs) om,Nat.sub_self,List.take_zero,List.append_nil,List.append_assoc]
theorem abX {T:TypeId} {us:List Value} {vss:List (List Value)} (hT:P.underlying T=some (.slice E)) (hE:TI P E sz bytes z) (oy:0<sz) (z1:0<us.length) (dy:us.length*sz<=16777216) 
  (hv:us.map Value.cells=vss.map List.toArray) (hl:∀vs,vs∈vss->vs.length=sz):(Instr.buildSlice T us.length ((us.zipIdx 0).map λp=>(p.2,p.1)).toArray).run P w= .ok (.slice (some ⟨w.heap.size,0,none⟩) us.length us.length) (w.alloc (.cells vss.flatten.toArray E)):=by
 have h0:¬us.length*sz=0:=by
  have:0<us.length*sz:=Nat.mul_pos z1 oy
  omega
 have hb:¬(16777216<us.length*sz):=by omega
 obtain⟨cs',hf,cJ⟩:=Rm us vss 0 ((Array.range (us.length*sz)).map (z.cells[·%z.cells.size]!)) hv hl sm
 have he:cs'=vss.flatten.toArray:=by apply Array.ext';simpa using cJ
 subst he
 simp[Instr.buildSlice,Sem.run_bind,run_underlying hT,Result.andThen_ok,hE.tj,hb,h0,hE.Ke,hf,newRow]
theorem sB {m:Nat} {T:TypeId} {au:Array (Nat×Operand)} (qs:List Operand) (vss:List (List Value)) (hT:P.underlying T=some (.slice E)) (hE:TI P E sz bytes z) (hg:gate ops e g=true) (hd:dw n dst=true) 
  (hp:au=((qs.zipIdx 0).map λp=>(p.2,p.1)).toArray) (hm:m=qs.length) (oy:Nat.blt 0 sz=true) (z1:Nat.blt 0 qs.length=true) (dy:Nat.ble (qs.length*sz) 16777216=true)
  (hv:qs.map (λq=>(ev e q).cells)=vss.map List.toArray) (hl:vss.all (λvs=>Nat.beq vs.length sz)=true)
  (k:∀w',ak [] w w'->aY w' w.heap.size vss.flatten.toArray E->w'.heap.size=w.heap.size+1->OW P n ops K rest (cO e dst (.slice (some ⟨w.heap.size,0,none⟩) m m)) w'):
  OW P n ops K (⟨dst,.buildSlice T m au,ty,pos,after,g⟩::rest) e w:=by
 subst hp hm
 have Ro:(qs.map (ev e)).length=qs.length:=by simp
 have hr:=abX (P:=P) (w:=w) (us:=qs.map (ev e)) (vss:=vss) hT hE (by simpa[Nat.blt_eq] using oy) (by simpa[Nat.blt_eq] using z1) (by rw[Ro];exact Nat.le_of_ble_eq_true dy) (by rw[List.map_map];exact hv) (λvs h=>Nat.eq_of_beq_eq_true (List.all_eq_true.1 hl vs h))
 rw[Ro] at hr
 have abY:((qs.zipIdx 0).map λp=>(p.2,p.1)).toArray.map (fun(p:Nat×Operand)=>(p.1,ev e p.2))=(((qs.map (ev e)).zipIdx 0).map λp=>(p.2,p.1)).toArray:=by
  rw[List.map_toArray,List.map_map]
  congr 1
  have:∀(qs:List Operand) (i:Nat),(qs.zipIdx i).map ((fun(p:Nat×Operand)=>(p.1,ev e p.2))∘λp=>(p.2,p.1))=((qs.map (ev e)).zipIdx i).map λp=>(p.2,p.1):=by
   intro qs
   induction qs with
   |nil=>intro i;rfl
   |cons q qs ih=>intro i;simp only[List.zipIdx_cons,List.map_cons,List.map,ih];rfl
  exact this qs 0
 exact fT hg hd (w':=w.alloc (.cells vss.flatten.toArray E)) (by
  have rO:(Array.map (λx=>(x.fst,ev e x.snd)) ((qs.zipIdx 0).map λp=>(p.2,p.1)).toArray)=(((qs.map (ev e)).zipIdx 0).map λp=>(p.2,p.1)).toArray:=abY
  simp only[execOp]
  rw[rO,Sem.run_bind,hr];simp) (k _ (ak.alloc _ _ _) (aY.alloc _ _ _) sm)
/-! ### Slices that are appended whole -/
theorem Rp {w:World}:∀{rows:List (List C)} {f:Nat->List Value},(∀i row,rows[i]?=some row->dQ L w (f i) row)->dQ L w ((List.range rows.length).map f).flatten rows.flatten
 |[],_,_=>trivial
 |r::rows,f,h=>by
  rw[lC,List.range_succ_eq_map,List.map_cons,List.map_map,List.flatten_cons,List.flatten_cons]
  exact(h 0 r rfl).append (Rp (f:=f∘Nat.succ) λi row hi=>h (i+1) row (by simpa using hi))
theorem abZ {w:World} {xs ys:List Value} (h:iH w b off xs) (k:iH w b (off+xs.length) ys):iH w b off (xs++ys):=λj v hj=>by
 rcases Nat.lt_or_ge j xs.length with hl|hl
 ·exact h j v (by rwa [List.getElem?_append_left hl] at hj)
 ·rw[List.getElem?_append_right hl] at hj
  have:=k (j-xs.length) v hj
  rwa [show off+xs.length+(j-xs.length)=off+j from by omega] at this
theorem Rq {w:World} {sz:Nat}:∀{n off:Nat} {f:Nat->List Value},(∀i,i<n->(f i).length=sz∧iH w b (off+i*sz) (f i))->iH w b off ((List.range n).map f).flatten
 |0,_,_,_=>λj v hj=>by simp at hj
 |n+1,off,f,h=>by
  rw[List.range_succ_eq_map,List.map_cons,List.map_map,List.flatten_cons]
  obtain⟨h1,h2⟩:=h 0 om
  rw[Nat.zero_mul,Nat.add_zero] at h2
  refine abZ h2 (Rq (sz:=sz) λi hi=>?_)
  obtain⟨h3,h4⟩:=h (i+1) om
  refine⟨h3,?_⟩
  rw[h1]
  rwa [show off+(i+1)*sz=off+sz+i*sz from by rw[Nat.add_mul];omega] at h4
theorem Rr {w:World} {len cap size:Nat} (h:cD L w (.slice a len cap) (.sl size rows)) (hp:0<rows.length):
  ∃b off vs,a=some ⟨b,off,none⟩∧b<w.heap.size∧b∉L∧iH w b off vs∧dQ L w vs rows.flatten∧len=rows.length∧∀row,row∈rows->row.length=size:=by
 cases h with
 |nil=>simp at hp
 |sl b off len cap size rows f hl hc hb hL hs kJ ie=>
  refine⟨b,off,((List.range rows.length).map λi=>(List.range size).map (f i)).flatten,rfl,hb,hL,Rq (sz:=size) λi hi=>⟨by simp,λj v hj=>?_⟩,Rp λi row hi=>?_,hl.symm,hs⟩
  ·have xr:j<size:=by have:=(List.getElem?_eq_some_iff.1 hj).1;simpa using this
   have e:f i j=v:=by simpa[List.getElem?_map,xr] using hj
   rw[<-e];exact kJ i j om xr
  ·have iI:=hs row (List.mem_of_getElem? hi)
   refine dQ.of (by simp[iI]) λj v c hv pD=>?_
   have xr:j<size:=by have:=(List.getElem?_eq_some_iff.1 hv).1;simpa using this
   have e:f i j=v:=by simpa[List.getElem?_map,xr] using hv
   rw[<-e];exact ie i j row c hi pD
theorem Rs {t ty T:TypeId} {i:TypeInfo} (ht:P.underlying t=some (.slice T)) (hi:P.info? T=some i) 
  {a:Option Addr} {m cap:Nat} (h:m<=cap) {a2:Option Addr} {c2:Nat}:
  (Builtin.append_ #[t,t] ty #[.slice a m cap,.slice a2 0 c2]).run P w= .ok (.slice a m cap) w:=by
 have hf:(Builtin.firstCells i.size 0 (.slice a2 0 c2)).run P w= .ok #[] w:=by
  cases a2 with
  |none=>simp[Builtin.firstCells]
  |some b=>exact run_firstCells_some (P:=P) (w:=w) i.size 0 b 0 c2 [] sm sm
 cases a<;>simp[Builtin.append_,run_underlying ht,sizeOf,typeInfo,hi,Builtin.lenOf,h,hf,storeCells]
theorem xQ {B:Nat} {L:List Nat} {t:Nat} {v:Value} {gb:Option Nat} {rows new:List (List C)} {a2:Option Addr} {n2 c2:Nat} (hT:P.underlying t=some (.slice E)) (hE:TI P E sz bytes z) (hg:gate ops e g=true) (hd:dw n dst=true) (hz:Nat.beq z.cells.size sz=true) (ig:Nat.ble bytes 1000=true) 
  (hx:ev e x=v) (hy:ev e y= .slice a2 n2 c2) (hO:Gr B L w E sz v gb rows) (hr:cD (gb.toList++L) w (.slice a2 n2 c2) (.sl sz new)) (h1:∀row,row∈new->∀c,c∈row->∀v,c= .val v->v.oneCell'=true)
  (hn:rows.length+new.length<100000000)
  (k:∀a' cap' g' w',Gr B L w' E sz (.slice a' (rows.length+new.length) cap') g' (rows++new)->ak gb.toList w w'->OW P n ops K rest (cO e dst (.slice a' (rows.length+new.length) cap')) w'):
  OW P n ops K (⟨dst,.call {callee:=.builtin .append,args:=#[x,y],argTypes:=#[t,t]},ty,pos,after,g⟩::rest) e w:=by
 obtain⟨xs,hR⟩:=hO.own
 have Dm:bytes<=1000:=Nat.le_of_ble_eq_true ig
 by_cases hp:0<new.length
 ·obtain⟨b,off,vs,rfl,hb,qY,hc,H4,rfl,iI⟩:=Rr hr hp
  refine PN hT hE hg hd hz hx hR hy rfl hp iI hc ?_ H4 hO.cZ (Nat.le_trans (Nat.mul_le_mul (show rows.length+new.length<=100000000 by omega) (show bytes+1<=1001 by omega)) de) ?_
  ·refine dQ.EV H4 λc hc v hv=>?_
   obtain⟨row,h2,h3⟩:=List.mem_flatten.1 hc
   exact h1 row h2 c h3 v hv
  ·intro a' cap' g' w' kn hk k7
   refine k a' cap' g' w' ⟨⟨_,kn⟩,λb hb=>?_,λx hx=>lL (hO.cZ x hx) hk.size,Nat.le_trans hO.bsz hk.size⟩ hk
   rcases k7 with h|h
   ·rw[h] at hb;exact hO.low b hb
   ·rw[h] at hb;cases hb;exact hO.bsz
 ·have nR:new=[]:=List.length_eq_zero_iff.1 om
  subst nR
  obtain⟨a,cap,rfl⟩:=hR.len
  have h20:n2=0:=by
   obtain⟨_,_,he,_⟩:=rK hr
   cases he;rfl
  subst h20
  have C1:rows.length<=cap:=by
   rcases hR.own.2 with⟨h,h2,_⟩|⟨_,_,_,_,h,_,h2,_⟩
   ·rw[h2];omega
   ·cases h;exact h2
  obtain⟨i,hi,_,_,_⟩:=hE.get
  have kl:=Rs (P:=P) (w:=w) (t:=t) (ty:=ty) hT hi (a:=a) (m:=rows.length) (cap:=cap) C1 (a2:=a2) (c2:=c2)
  refine fT hg hd (v:=.slice a rows.length cap) (w':=w) (by
   simp only[execOp,resolve,invoke,builtin,Sem.run_bind,Sem.run_pure,Result.andThen_ok,List.map_toArray,List.map_cons,List.map_nil,hx,hy,kl]) ?_
  have:=k a cap gb w (by simpa using hO) (ak.refl _ _)
  simpa using this
end

theorem xR (h:aj) (ps:List aj) (hl:(bP h ps).length<=1000000000) (v:Value) (L:List Nat) (w:World) (hv:bI L w v ps):bZ Tryz.prog 75 [str h,v] w λr w'=>r=str (bP h ps)∧ak [] w w':=by
 obtain⟨a,n,c,rfl,hn⟩:=eI hv
 subst hn
 have hK:=ak.refl [] w
 have hh:=λk=>abV (h:=h) (ps:=ps) k
 have Rt:(uI h ps 0).length=h.length+1:=by simp[uI,pI]
 have h01:=hh 0
 have oX:ps.length<=(bP h ps).length:=by simp only[bP,lC,lA,Rh,jZ];omega
 refine cU [.tmp 4] 24 Tryz.func75 rfl ZB rfl rfl ?_
 refine zr<|zA<|ag<|zr<|zm<|cm rfl rfl (by simp only[lC,List.length_nil];omega)<|zA<|ag<|aQ<|zr<|zA<|ag<|cP ?_
 refine fZ (λk:Nat=>[(1,.slice a ps.length c),(5,str (uI h ps k)),(6,.int .i64 (k:Int))]) (λk w'=>ak [] w w'∧k<=ps.length) (λk=>ps.length-k) (0) (⟨rfl,show str _=str _ from congrArg _ (by simp[uI,pI]),rfl⟩) (⟨hK,om⟩) ?_
 intro gg w1 e1 hI
 obtain⟨hK,hk⟩:=hI
 refine aQ<|zr<|zm<|zm<|eh bh rfl<|fJ rfl rfl rfl<|ag<|zc rfl (λh1=>?_) (λh1=>?_)
 have hg:=lj (xs:=ps) (i:=gg) om
 obtain⟨b1,ga,rfl,bC⟩:=qU hv hg
 have bg:=abT (h:=h) (ps:=ps) (k:=gg) om
 have hlen:=congrArg List.length bg
 simp only[lA,lC,List.length_nil] at hlen
 have hle:=hh (gg+1)
 refine bA<|aQ<|cP<|db<|zm<|cm rfl rfl (by simp only[lC,List.length_nil];omega)<|zm<|zm<|zi bh bB rfl rfl om<|zl cg rfl (bC.ext hK 0 _ rfl)<|cm rfl rfl (by simp only[lA,lC,List.length_nil];omega)<|zA<|ag<|db<|zm<|eE rfl rfl rfl (wrap_i64 _ om om)<|zA<|ag ?_
 exact⟨gg+1,⟨rfl,show str _=str _ from congrArg _ bg.symm,rfl⟩,⟨hK,om⟩,om⟩
 have hle:=hh gg
 refine gF<|gH rfl<|zr<|zm<|cm rfl rfl (by simp only[lC,List.length_nil];omega)<|zA<|ag<|aV ?_
 exact⟨_,rfl,show str _=str _ from congrArg _ (abU om),hK⟩
def apart:List (Option Nat×Option Nat)->Prop
 |[]=>True
 |g::gs=>(∀x,x∈jL g->x∉ik gs)∧apart gs
theorem BI (g:Option Nat×Option Nat) (gs:List (Option Nat×Option Nat)):ik (g::gs)=jL g++ik gs:=by simp[ik]
theorem Ls (gs:List (Option Nat×Option Nat)) (g:Option Nat×Option Nat):ik (gs++[g])=ik gs++jL g:=by simp[ik]
section
variable {P:Program} {n:Nat} {ops:Array Oper} {K:Env->World->Prop} {rest:List Oper} {e:Env} {w:World}
 {dst:Option Nat} {ty:TypeId} {pos:String} {after:Array Edge} {g:Option (Nat×Bool)} {x y:Operand}
end
/-! ### Operations -/
section
variable {P:Program} {n:Nat} {ops:Array Oper} {K:Env->World->Prop} {rest:List Oper} {e:Env} {w:World}
 {dst:Option Nat} {ty:TypeId} {pos:String} {after:Array Edge} {g:Option (Nat×Bool)} {x y:Operand}
theorem Ru {S D b cap:Nat} {z:Int} {c:UInt8} {U:TypeId} (hS:P.underlying S=some (.slice E)) (hE:P.underlying E=some (.int .u8)) (hD:P.underlying D=some .string) (hg:gate ops e g=true) (hd:dw n dst=true) 
  (hx:ev e x= .slice (some ⟨b,0,none⟩) 1 cap) (hb:aY w b [.int .u8 z].toArray U) (hz:z=(c.toNat:Int)) (k:OW P n ops K rest (cO e dst (str [c])) w):OW P n ops K (⟨dst,.convert S D x,ty,pos,after,g⟩::rest) e w:=by
 have kl:=run_convert_bytes_back (P:=P) w S D E ⟨b,0,none⟩ cap [c] hS hE hD (by
  intro j hj
  have:j=0:=by simpa using hj
  subst this
  have:=hb.cell 0
  simpa[Addr.add,hz] using this)
 exact fT hg hd (v:=str [c]) (w':=w) (by
  have uK:ev e x= .slice (some ⟨b,0,none⟩) ([c]:List UInt8).length cap:=hx
  simp only[execOp,uK,Sem.run_bind,kl,Result.andThen_ok,Sem.run_pure]) k
theorem Rv {T TS:Nat} {gb:Option Nat} {xs:List aj} {o nn c:Nat} (kK:TI P T 1 bytes z) (hg:gate ops e g=true) (hx:ev e x= .pointer (some ⟨b,o,none⟩)) (hy:ev e y=str s) (ho:o=i) 
  (hO:dh w TS (.slice (some ⟨b,0,none⟩) nn c) gb xs) (hi:i<xs.length)
  (k:∀w',ak gb.toList w w'->dh w' TS (.slice (some ⟨b,0,none⟩) nn c) gb (xs.set i s)->w'.heap.size=w.heap.size->OW P n ops K rest e w'):OW P n ops K (⟨none,.store T x y,ty,pos,after,g⟩::rest) e w:=by
 subst ho
 obtain⟨hl,h|⟨b',cap,cur,oD,hv,hb,mM,mo,cJ,ht⟩⟩:=hO
 ·obtain⟨h,_⟩:=h;cases h
 ·cases hv
  subst oD
  refine Kf kK rfl hg hx hy rfl hb (by rw[cJ];omega) λw' hk gW hz=>?_
  refine k w' (by simpa using hk) ⟨by simp,.inr ⟨b,_,_,rfl,sm,gW,by simpa using mM,mo,by simpa using cJ,?_⟩⟩ hz
  rw[Array.toList_setIfInBounds,List.length_set,List.take_set,ht,List.map_set]
end
theorem Rw {α:Type}:∀{rows:List (List α)} {i j:Nat} {a:α} {row:List α},(∀row,row∈rows->row.length=sz)->rows[i]?=some row->j<sz->rows.flatten.set (i*sz+j) a=(rows.set i (row.set j a)).flatten
 |r::rows,0,j,a,row,h,hi,hj=>by
  simp only[List.getElem?_cons_zero,Option.some.injEq] at hi
  subst hi
  have hr:r.length=sz:=h r sm
  rw[List.flatten_cons,Nat.zero_mul,Nat.zero_add,List.set_cons_zero,List.flatten_cons,List.set_append_left _ _ om]
 |r::rows,i+1,j,a,row,h,hi,hj=>by
  have hr:r.length=sz:=h r sm
  have:=Rw (rows:=rows) (a:=a) (λrow hr=>h row (by simp[hr])) (by simpa using hi) hj
  rw[List.flatten_cons,List.set_cons_succ,List.flatten_cons,List.set_append_right _ _ (by rw[hr,Nat.add_mul];omega),hr,<-this]
  congr 2
  rw[Nat.add_mul];omega
theorem js.set {T:TypeId}:∀{gss:List (Option Nat×Option Nat)} {vss:List (List Value)} {bs:List Bk} {i:Nat} {g:Option Nat×Option Nat} {v:List Value} {f:Bk},js w T gss vss bs->gss[i]?=some g->qm w' T g v f->
  (∀(j:Nat) (g2:Option Nat×Option Nat) (v2:List Value) (b2:Bk),j≠i->gss[j]?=some g2->qm w T g2 v2 b2->qm w' T g2 v2 b2)->js w' T gss (vss.set i v) (bs.set i f)
 |[],[],[],i,g,v,f,_,hg,_,_=>by simp at hg
 |g0::gs,v0::vs,b0::bs,0,g,v,f,h,hg,hf,hk=>by
  simp only[List.getElem?_cons_zero,Option.some.injEq] at hg
  subst hg
  refine⟨hf,?_⟩
  have key:∀{gs:List (Option Nat×Option Nat)} {vs:List (List Value)} {bs:List Bk},(∀(j:Nat) (g2:Option Nat×Option Nat) (v2:List Value) (b2:Bk),gs[j]?=some g2->qm w T g2 v2 b2->qm w' T g2 v2 b2)->js w T gs vs bs->js w' T gs vs bs:=by
   intro gs
   induction gs with
   |nil=>intro vs bs _ h;cases vs<;>cases bs<;>first|trivial|exact h.elim
   |cons g gs ih=>
    intro vs bs hk h
    cases vs with
    |nil=>cases bs<;>exact h.elim
    |cons v vs=>
     cases bs with
     |nil=>exact h.elim
     |cons b bs=>exact⟨hk 0 _ _ _ rfl h.1,ih (λj g2 v2 b2 hj=>hk (j+1) g2 v2 b2 (by simpa using hj)) h.2⟩
  exact key (λj g2 v2 b2 hj ho=>hk (j+1) g2 v2 b2 om (by simpa using hj) ho) h.2
 |g0::gs,v0::vs,b0::bs,i+1,g,v,f,h,hg,hf,hk=>
  ⟨hk 0 _ _ _ om rfl h.1,js.set h.2 (by simpa using hg) hf λj g2 v2 b2 hj iz ho=>hk (j+1) g2 v2 b2 om (by simpa using iz) ho⟩
theorem xS {g:Option Nat×Option Nat} (hg:gss[i]?=some g) (hx:x∈jL g):x∈ik gss:=by
 simp only[ik,List.mem_flatMap]
 exact⟨g,List.mem_of_getElem? hg,hx⟩
theorem Rx:∀{gss:List (Option Nat×Option Nat)} {i j:Nat} {g g2:Option Nat×Option Nat} {x:Nat},(ik gss).Nodup->i≠j->gss[i]?=some g->gss[j]?=some g2->x∈jL g->x∉jL g2
 |g0::gs,0,0,_,_,_,_,h,_,_,_=>absurd rfl h
 |g0::gs,0,j+1,g,g2,x,hn,_,hg,iz,hx=>by
  simp only[List.getElem?_cons_zero,Option.some.injEq] at hg
  subst hg
  rw[BI,List.nodup_append] at hn
  intro fF
  exact hn.2.2 x hx x (xS (by simpa using iz) fF) rfl
 |g0::gs,i+1,0,g,g2,x,hn,_,hg,iz,hx=>by
  simp only[List.getElem?_cons_zero,Option.some.injEq] at iz
  subst iz
  rw[BI,List.nodup_append] at hn
  intro fF
  exact hn.2.2 x fF x (xS (by simpa using hg) hx) rfl
 |g0::gs,i+1,j+1,g,g2,x,hn,lV,hg,iz,hx=>by
  rw[BI,List.nodup_append] at hn
  exact Rx (i:=i) (j:=j) hn.2.1 om (by simpa using hg) (by simpa using iz) hx
theorem mv.row {w w':World} {TB TS:TypeId} {v:Value} {g:Option Nat} {gss:List (Option Nat×Option Nat)} {vss:List (List Value)} {bs:List Bk} {i:Nat} {gs:Option Nat×Option Nat} {vs:List Value} {f:Bk} {L:List Nat} 
  (h:mv w TB TS v g gss vss bs) (hg:gss[i]?=some gs) (hv:vss[i]?=some vs) (hk:ak L w w') (hL:∀x,x∈L->x∈jL gs) (hf:qm w' TS gs vs f):mv w' TB TS v g gss vss (bs.set i f):=by
 have hd:=(List.nodup_append.1 h.nodup)
 have zk:vss.set i vs=vss:=by
  refine List.ext_getElem sm λj h1 h2=>?_
  rw[List.getElem_set]
  split
  ·rename_i lV;subst lV
   rw[gE h2] at hv;simpa using hv.symm
  ·rfl
 have hr:=js.set (w':=w') h.rows hg hf (λj g2 v2 b2 hj iz ho=>ho.aO hk λx hx mN=>Rx hd.2.1 hj iz hg hx (hL x mN))
 rw[zk] at hr
 exact⟨by rw[List.length_set];exact h.own.aO hk (λb hb hx=>hd.2.2 b (by simp[hb]) b (xS hg (hL b hx)) rfl),hr,h.nodup,λx hx=>lL (h.lt x hx) hk.size⟩
section
variable {P:Program} {n:Nat} {ops:Array Oper} {K:Env->World->Prop} {rest:List Oper} {e:Env} {w:World}
 {dst:Option Nat} {ty:TypeId} {pos:String} {after:Array Edge} {g:Option (Nat×Bool)} {x y:Operand}
end
theorem Ry (k:Nat):(48:Int)+((k%10:Nat):Int)=((UInt8.ofNat (48+k%10)).toNat:Int):=by
 have:(48+k%10)%256=48+k%10:=Nat.mod_eq_of_lt om
 simp only[UInt8.toNat_ofNat',Nat.reducePow]
 omega
theorem dh.form {T:TypeId} {n:Nat} (h:dh w T (.slice a n c) g xs) (hx:0<xs.length):∃b,a=some ⟨b,0,none⟩∧g=some b:=by
 rcases h.2 with⟨_,h,_⟩|⟨b,_,_,e,hv,_⟩
 ·omega
 ·cases hv;exact⟨b,rfl,e⟩
theorem dh.cases {T:TypeId} (h:dh w T v g xs):∃a c,v= .slice a xs.length c:=jX.len h
theorem mv.get {TB TS:TypeId} {n:Nat} (h:mv w TB TS (.slice a n c) g gss vss bs) (hi:i<bs.length):
  ∃b gs a1 c1 a2 c2,a=some ⟨b,0,none⟩∧g=some b∧b<w.heap.size∧b∉jL gs∧gss[i]?=some gs∧vss[i]?=some [str (bz bs i).aP,.slice a1 (bz bs i).cE.length c1,.slice a2 (bz bs i).code.length c2]∧
   iH w b (0+i*3) [str (bz bs i).aP,.slice a1 (bz bs i).cE.length c1,.slice a2 (bz bs i).code.length c2]∧
   dh w TS (.slice a1 (bz bs i).cE.length c1) gs.1 (bz bs i).cE∧dh w TS (.slice a2 (bz bs i).code.length c2) gs.2 (bz bs i).code∧(∀x,gs.1=some x->gs.2=some x->False):=by
 have hd:=List.nodup_append.1 h.nodup
 obtain⟨gi,iZ,wh⟩:=h.rows.lens
 obtain⟨gs,vs,jM,bo,v1,v2,rfl,dy,dR⟩:=h.rows.get (o3 hi)
 obtain⟨a1,c1,rfl⟩:=dh.cases dy
 obtain⟨a2,c2,rfl⟩:=dh.cases dR
 obtain⟨hl,hz|⟨b,cap,cur,oD,hv,hb,mM,mo,cJ,ht⟩⟩:=h.own
 ·obtain⟨_,hz,_⟩:=hz;omega
 ·cases hv
  subst oD
  refine⟨b,gs,a1,c1,a2,c2,rfl,rfl,hb.lt,λhx=>hd.2.2 b sm b (xS jM hx) rfl,jM,bo,λj v hj=>?_,dy,dR,λx h1 h2=>?_⟩
  ·have hf:=EC wh bo hj
   have eU:i*3+j<vss.flatten.length:=(List.getElem?_eq_some_iff.1 hf).1
   rw[hb.cell,Nat.zero_add]
   have h2:=ht
   have:(cur.toList.take (bs.length*3))[i*3+j]?=some v:=by rw[ht];exact hf
   rw[List.getElem?_take] at this
   split at this
   ·simpa using this
   ·cases this
  ·have hn:(jL gs).Nodup:=by
    have:∀{gss:List (Option Nat×Option Nat)} {i:Nat},(ik gss).Nodup->gss[i]?=some gs->(jL gs).Nodup:=by
     intro gss
     induction gss with
     |nil=>intro i _ h;simp at h
     |cons p q ih=>
      intro i hn hg
      rw[BI,List.nodup_append] at hn
      cases i with
      |zero=>simp at hg;subst hg;exact hn.1
      |succ i=>exact ih hn.2.1 (by simpa using hg)
    exact this hd.2.1 jM
   simp[jL,h1,h2] at hn
/-! ### What it gives -/
section
variable {p:List gB} {st:TS} {o:Nat} {t:aA}
end
/-! ### Sizes of what is given -/
theorem size_pos (t:aA):1<=t.size:=by have:=xJ t;omega
theorem Lt (t:aA):∀m,t.size<=m->WF t->t.text.length+1<=2*t.size:=by
 intro m
 induction m generalizing t with
 |zero=>intro h;have:=size_pos t;omega
 |succ m ih=>
  intro hm dx
  cases dx with
  |az a ha=>rw[sy ha];simp only[aA.size,aA.size.sizes];omega
  |list ps hp hw=>
   rw[qW]
   have e:(aA.mk [] ps).size=1+aA.size.sizes ps:=by simp[aA.size]
   rw[e]
   have ab1:∀qs:List aA,qs≠[]->(∀p,p∈qs->p.text.length+1<=2*p.size)->(mr qs).length+1<=2*aA.size.sizes qs:=by
    intro qs
    induction qs with
    |nil=>intro h;exact absurd rfl h
    |cons q qs xA=>
     intro _ h
     have h1:=h q sm
     cases qs with
     |nil=>rw[pH];simp only[aA.size.sizes];omega
     |cons u us=>
      have h2:=xA sm (λp hp=>h p (by simp[hp]))
      rw[l3];simp only[aA.size.sizes,lA,lC] at h2⊢;omega
   have aq:=ab1 ps hp (λp Dp=>by
    obtain⟨i,hi,rfl⟩:=List.getElem_of_mem Dp
    have h3:=Qh (t:=.mk [] ps) (p:=ps[i]) (i:=i) (gE hi)
    exact ih _ om (hw _ Dp))
   simp only[lC,lA,List.length_nil];omega
section
variable {p:List gB} {st:TS} {o:Nat} {t:aA}
end
theorem ab2 (h:Good t):t.text≠[]:=by
 obtain⟨c,r,e⟩:=Q0 h
 rw[e];simp
structure Dr (s:aj) (t:aA):Prop where
 some:∀t',ba s=some t'->t=t'
 none:s=[]->cI t=[]
theorem Rz:ba []=none:=by decide
theorem ab3 (w:World):bZ Tryz.prog 66 [str [],.int .i64 0,.int .i64 0] w λr w'=>r= .tuple #[.agg #[str [],.slice none 0 0],.int .i64 (-1)]∧ak [] w w':=by
 have hK:=ak.refl [] w
 refine lz [.cell 6 66,.tmp 7] 87 Tryz.func66 rfl HI rfl rfl rfl ?_
 refine zr<|eC aH rfl rfl rfl ?_
 intro w1 aJ bR dV
 have hK:=hK.grow;have hK:=hK.ext aJ
 refine zA<|ag<|zr<|j6 (EX _) rfl rfl<|eC aH rfl rfl rfl ?_
 intro w2 aq dv eK
 have hK:=hK.grow;have hK:=hK.ext aq;have bR:=bR.grow;have bR:=bR.ext aq
 refine dk aH rfl rfl rfl dv rfl ?_
 intro w3 aK dv iK
 have hK:=hK.aL aK sx;have bR:=bR.aL aK sx
 refine ag<|aQ<|zr<|zm<|jx rfl rfl rfl rfl rfl<|zm ?_
 apply fo 5 15 20 [15,16,17,18,19,20] (λw'=>w3=w') rfl
 intro h1
 replace h1:=bu h1
 refine zs<|zs<|zs<|zs<|zp rfl<|ag ?_
 exact mg rfl rfl
 intro h1
 replace h1:=bu h1
 refine zm<|zm<|kL fc rfl rfl rfl<|lU rfl rfl rfl rfl rfl<|zp rfl<|ag ?_
 exact mg rfl rfl
 rintro xx _ rfl
 refine ag<|zc rfl (λh2=>?_) (λh2=>?_)
 refine zr<|zL bT aH rfl dv.all rfl<|dk aH rfl rfl rfl bR rfl ?_
 intro w4 aD bR iL
 have hK:=hK.aL aD sx
 refine zA<|ag<|aV ?_
 exact⟨[_,_],⟨gR bT aH rfl bR rfl,rfl⟩,rfl,hK⟩
 simp at h2
theorem H5 (s:aj) (L:List Nat) (w:World) (hL:∀x,x∈L->x<w.heap.size):
  bZ Tryz.prog 38 [str s] w λv w'=>(∃t tv,v= .tuple #[tv,.bool (ba s).isSome]∧bS L w' tv t∧Dr s t)∧ak [] w w':=by
 by_cases hs:s=[]
 ·subst hs
  have hK:=ak.refl [] w
  refine lz [.cell 2 66,.tmp 3] 20 Tryz.func38 rfl PV rfl rfl rfl ?_
  refine zr<|eC aH rfl rfl rfl ?_
  intro w1 aJ aZ dV
  have hK:=hK.grow;have hK:=hK.ext aJ
  refine zA<|ag<|aQ<|zr<|zm<|kL fc rfl rfl rfl<|jx rfl rfl rfl rfl rfl<|ag<|zc rfl (λh1=>?_) (λh1=>?_)
  simp at h1
  refine bA<|zr<|zm<|aC (ab3 w1) ?_
  rintro v2 w2 ⟨dz,aq⟩
  have dR:=aq.size
  have hK:=hK.ext aq;have aZ:=aZ.ext aq
  obtain rfl:=dz
  refine zm<|zx (i:=0) rfl rfl<|zx (i:=1) rfl rfl<|eC aH rfl rfl rfl ?_
  intro w3 aK aI iK
  have hK:=hK.grow;have hK:=hK.ext aK;have aZ:=aZ.grow;have aZ:=aZ.ext aK
  refine dk aH rfl rfl rfl aI rfl ?_
  intro w4 aD aI iL
  have hK:=hK.aL aD sx;have aZ:=aZ.aL aD sx
  refine zA<|ag<|zr<|zL bT aH rfl aI.all rfl<|zm<|zm<|kL fc rfl rfl rfl<|dO rfl rfl rfl<|dk aH rfl rfl rfl aZ rfl ?_
  intro w5 aT aZ jo
  have hK:=hK.aL aT sx
  refine zA<|ag<|aV ?_
  exact⟨[_,_],⟨gR bT aH rfl aZ rfl,rfl⟩,⟨.mk [] [],_,by rw[Rz];rfl,ly oV,λt' h=>(by rw[Rz] at h;cases h),λ_=>rfl⟩,hK⟩
 ·obtain⟨h1,h2⟩:=zK s L w hL
  exact⟨h1,Calls.mono h2 λe w' ⟨v,he,⟨t,tv,hv,ht,hp⟩,hk⟩=>⟨v,he,⟨t,tv,hv,ht,hp,λe=>absurd e hs⟩,hk⟩⟩
theorem Gr.form {T:TypeId} {n:Nat} (h:Gr B L w T sz (.slice a n c) g rows) (hp:0<rows.length):∃b,a=some ⟨b,0,none⟩∧g=some b:=by
 obtain⟨xs,hx⟩:=h.own
 rcases hx.own.2 with⟨_,h0,_⟩|⟨b,_,_,e,hv,_⟩
 ·omega
 ·cases hv;exact⟨b,rfl,e⟩
theorem z6 (ps:List aj) (hl:ps.length<=1000000000) (s:aj) (v:Value) (L:List Nat) (w:World) (hv:bI L w v ps):bZ Tryz.prog 177 [v,str s] w λr w'=>r= .bool (decide (s∈ps))∧ak [] w w':=by
 obtain⟨a,n,c,rfl,hn⟩:=eI hv
 subst hn
 have hK:=ak.refl [] w
 refine cU [.tmp 4] 18 Tryz.func177 rfl YL rfl rfl ?_
 refine zr<|zA<|ag<|aQ<|zr<|zA<|ag<|cP ?_
 refine fZ (λk:Nat=>[(0,.slice a ps.length c),(1,str s),(5,.int .i64 (k:Int))]) (λk w'=>ak [] w w'∧k<=ps.length∧∀i,i<k->aF ps i≠s) (λk=>ps.length-k) (0) (⟨rfl,rfl,rfl⟩) (⟨hK,om,by intro i hi;omega⟩) ?_
 intro gg w1 e1 hI
 obtain⟨hK,hk,dA⟩:=hI
 refine aQ<|zr<|zm<|zm<|eh bh rfl<|fJ rfl rfl rfl<|ag<|zc rfl (λh1=>?_) (λh1=>?_)
 have hg:=lj (xs:=ps) (i:=gg) om
 obtain⟨b1,ga,rfl,bC⟩:=qU hv hg
 refine bA<|aQ<|cP<|zr<|zm<|zm<|zi bh bB rfl rfl om<|zl cg rfl (bC.ext hK 0 _ rfl)<|zm<|cW rfl rfl<|ag<|zc rfl (λh2=>?_) (λh2=>?_)
 have hq:s∈ps:=(by rw[<-h2];exact List.mem_of_getElem? hg)
 refine zr<|zA<|ag<|aV ?_
 exact⟨_,rfl,by rw[dT hq];rfl,hK⟩
 have eN:=h2
 refine bA<|db<|zm<|eE rfl rfl rfl (wrap_i64 _ om om)<|zA<|ag ?_
 exact⟨gg+1,⟨rfl,rfl,rfl⟩,⟨hK,om,by intro i hi;rcases Nat.lt_or_ge i gg with h|h;exact dA i h;rw[show i=gg by omega];exact eN⟩,om⟩
 have hq:¬s∈ps:=(λhm=>by obtain⟨i,hi,e⟩:=List.getElem_of_mem hm;exact dA i om (by simp[aF,gE hi,e]))
 refine gF<|gH rfl<|zr<|zA<|ag<|aV ?_
 exact⟨_,rfl,by rw[dF hq];rfl,hK⟩
theorem ab4 {n:Nat} (h:n<10):(48:Int)+(n:Int)=((UInt8.ofNat (48+n)).toNat:Int):=by
 have:=Ry n
 rwa [Nat.mod_eq_of_lt h] at this
def BJ (z:Int) (v:Value) (w:World):Prop:=∃b,v= .slice (some ⟨b,0,none⟩) 1 1∧aY w b [.int .u8 z].toArray 5
theorem BJ.ext {z:Int} (h:BJ z v w) (k:ak [] w w'):BJ z v w':=by
 obtain⟨b,e,h⟩:=h
 exact⟨b,e,h.ext k⟩
theorem Ds:∀(m n:Nat),n<=m->(bf n).length<=n+1
 |m,n,h=>by
  rw[bf]
  by_cases h9:n<10
  ·rw[iP h9];simp
  ·rw[iN h9]
   cases m with
   |zero=>omega
   |succ m=>have:=Ds m (n/10) om;simp only[lA,List.length_singleton];omega
theorem iS:∀(m n:Nat),n<m->n<=1000000->∀w:World,bZ Tryz.prog 104 [.int .i64 (n:Int)] w λr w'=>r=str (bf n)∧ak [] w w':=by
 intro m
 induction m with
 |zero=>intro n hn;omega
 |succ m ih=>
  intro n hn h9 w
  have hK:=ak.refl [] w
  have hl:=Ds _ (n/10) (lR _)
  refine cU [.tmp 2] 28 Tryz.func104 rfl XO rfl rfl ?_
  refine zr<|zA<|ag<|aQ<|zr<|zm<|fJ rfl rfl rfl<|ag<|zc rfl (λh1=>?_) (λh1=>?_)
  omega
  refine bA<|aQ<|zr<|zm<|fJ rfl rfl rfl<|ag<|zc rfl (λh2=>?_) (λh2=>?_)
  omega
  refine bA<|aQ<|zr<|zm<|fJ rfl rfl rfl<|ag<|zc rfl (λh3=>?_) (λh3=>?_)
  refine zr<|zm<|eE rfl rfl rfl (wrap_i64 _ om om)<|xw xF zH rfl rfl rfl (wrap_u8 _ om om)<|gA qR Dc rfl rfl ?_
  intro w1 aJ wi dV
  have hK:=hK.ext aJ
  refine Ru qR zH fc rfl rfl rfl wi (ab4 om)<|zA<|ag<|aV ?_
  exact⟨_,rfl,congrArg str (show[UInt8.ofNat (48+n)]=bf n from by rw[bf,iP om]),hK⟩
  have gI:¬n<10:=by omega
  refine bA<|aQ ?_
  refine qf eu aS 10 (rA 18 10) (rA 18 10) [[],[0],[1],[],[3],[4],[5],[6],[7],[2,8]] [λv _=>v=(.int .i64 (n:Int)),λv _=>v=(.int .i64 ((n/10:Nat):Int)),λv _=>v=(str (bf (n/10))),λv _=>v=(.int .i64 (n:Int)),λv _=>v=(.int .i64 ((n%10:Nat):Int)),λv _=>v=(.int .i64 ((48:Int)+((n%10:Nat):Int))),λv _=>v=(.int .u8 ((48:Int)+((n%10:Nat):Int))),fun(v:Value) (ww:World)=>BJ ((48:Int)+((n%10:Nat):Int)) v ww,λv _=>v=(str [UInt8.ofNat (48+n%10)]),λv _=>v=(str (bf (n/10)++[UInt8.ofNat (48+n%10)]))] de (cX (cX (cX (cX (cX (cX (cX (Xm (λv w w' h k=>BJ.ext h k) (cX (cX trivial)))))))))) (λwd aB=>?_) ?_
  refine bN ?_ ?_
  intro x vs w1 e aJ hd he
  replace aJ:=aS.trans aB aJ
  replace he:e=aM (aN _ x _) []:=he
  subst he
  refine zm<|ag ?_
  exact dn (aS.refl _) rfl
  refine bN ?_ ?_
  intro x vs w1 e aJ hd he
  have d0:vs 0=(.int .i64 (n:Int)):=hd
  replace aJ:=aS.trans aB aJ
  replace he:e=aM (aN _ x _) [(18,vs 0)]:=he
  rw[d0] at he
  subst he
  refine Kg (b:=10) rfl rfl rfl rfl rfl om (wrap_i64 _ om om)<|ag ?_
  exact dn (aS.refl _) rfl
  refine bN ?_ ?_
  intro x vs w1 e aJ hd he
  have d1:vs 1=(.int .i64 ((n/10:Nat):Int)):=hd
  replace aJ:=aS.trans aB aJ
  replace he:e=aM (aN _ x _) [(19,vs 1)]:=he
  rw[d1] at he
  subst he
  refine aC (ih (n/10) om om w1) ?_
  rintro v2 w2 ⟨dz,aq⟩
  have dR:=aq.size
  obtain rfl:=dz
  refine ag ?_
  exact dn (aS.of aq) rfl
  refine bN ?_ ?_
  intro x vs w1 e aJ hd he
  replace aJ:=aS.trans aB aJ
  replace he:e=aM (aN _ x _) []:=he
  subst he
  refine zm<|ag ?_
  exact dn (aS.refl _) rfl
  refine bN ?_ ?_
  intro x vs w1 e aJ hd he
  have d3:vs 3=(.int .i64 (n:Int)):=hd
  replace aJ:=aS.trans aB aJ
  replace he:e=aM (aN _ x _) [(21,vs 3)]:=he
  rw[d3] at he
  subst he
  refine EE (b:=10) rfl rfl rfl rfl rfl om<|ag ?_
  exact dn (aS.refl _) rfl
  refine bN ?_ ?_
  intro x vs w1 e aJ hd he
  have d4:vs 4=(.int .i64 ((n%10:Nat):Int)):=hd
  replace aJ:=aS.trans aB aJ
  replace he:e=aM (aN _ x _) [(22,vs 4)]:=he
  rw[d4] at he
  subst he
  refine eE rfl rfl rfl (wrap_i64 _ om om)<|ag ?_
  exact dn (aS.refl _) rfl
  refine bN ?_ ?_
  intro x vs w1 e aJ hd he
  have d5:vs 5=(.int .i64 ((48:Int)+((n%10:Nat):Int))):=hd
  replace aJ:=aS.trans aB aJ
  replace he:e=aM (aN _ x _) [(23,vs 5)]:=he
  rw[d5] at he
  subst he
  refine xw xF zH rfl rfl rfl (wrap_u8 _ om om)<|ag ?_
  exact dn (aS.refl _) rfl
  refine bN ?_ ?_
  intro x vs w1 e aJ hd he
  have d6:vs 6=(.int .u8 ((48:Int)+((n%10:Nat):Int))):=hd
  replace aJ:=aS.trans aB aJ
  replace he:e=aM (aN _ x _) [(24,vs 6)]:=he
  rw[d6] at he
  subst he
  refine gA qR Dc rfl rfl ?_
  intro w2 aq BK eK
  refine ag ?_
  exact dn (aS.of aq) ⟨_,rfl,BK⟩
  refine bN ?_ ?_
  intro x vs w1 e aJ hd he
  have d7:(fun(v:Value) (ww:World)=>BJ ((48:Int)+((n%10:Nat):Int)) v ww) (vs 7) w1:=hd
  replace aJ:=aS.trans aB aJ
  replace he:e=aM (aN _ x _) [(25,vs 7)]:=he
  obtain⟨b7,e7,BK⟩:=d7
  rw[e7] at he
  subst he
  refine Ru qR zH fc rfl rfl rfl BK (Ry n)<|ag ?_
  exact dn (aS.refl _) rfl
  refine bN ?_ ?_
  intro x vs w1 e aJ hd he
  have aR:(vs 2=(str (bf (n/10))))∧(vs 8=(str [UInt8.ofNat (48+n%10)])):=hd
  obtain⟨d2,d8⟩:=aR
  replace aJ:=aS.trans aB aJ
  replace he:e=aM (aN _ x _) [(20,vs 2),(26,vs 8)]:=he
  rw[d2,d8] at he
  subst he
  refine cm rfl rfl so<|ag ?_
  exact dn (aS.refl _) rfl
  exact trivial
  intro x vs Lu ab5 bJ
  have d0:vs 0=(.int .i64 (n:Int)):=bJ 0 de
  have d1:vs 1=(.int .i64 ((n/10:Nat):Int)):=bJ 1 de
  have d2:vs 2=(str (bf (n/10))):=bJ 2 de
  have d3:vs 3=(.int .i64 (n:Int)):=bJ 3 de
  have d4:vs 4=(.int .i64 ((n%10:Nat):Int)):=bJ 4 de
  have d5:vs 5=(.int .i64 ((48:Int)+((n%10:Nat):Int))):=bJ 5 de
  have d6:vs 6=(.int .u8 ((48:Int)+((n%10:Nat):Int))):=bJ 6 de
  have d7:(fun(v:Value) (ww:World)=>BJ ((48:Int)+((n%10:Nat):Int)) v ww) (vs 7) Lu:=bJ 7 de
  have d8:vs 8=(str [UInt8.ofNat (48+n%10)]):=bJ 8 de
  have d9:vs 9=(str (bf (n/10)++[UInt8.ofNat (48+n%10)])):=bJ 9 de
  have hK:=hK.ext ab5
  change OW _ _ _ _ _ (aM (aN _ x _) (zZ 18 [vs 0,vs 1,vs 2,vs 3,vs 4,vs 5,vs 6,vs 7,vs 8,vs 9])) _
  rw[d0,d1,d2,d3,d4,d5,d6,d8,d9]
  refine zA<|ag<|aV ?_
  exact⟨_,rfl,congrArg str (show bf (n/10)++[UInt8.ofNat (48+n%10)]=bf n from by conv=>(rhs;rw[bf,iN gI])),hK⟩
theorem z7 (s:aj) (w:World):bZ Tryz.prog 180 [str s] w λr w'=>r= .agg #[str s,.slice none 0 0]∧ak [] w w':=by
 have hK:=ak.refl [] w
 refine lz [.cell 2 66] 5 Tryz.func180 rfl YO rfl rfl rfl ?_
 refine zr<|eC aH rfl rfl rfl ?_
 intro w1 aJ aZ dV
 have hK:=hK.grow;have hK:=hK.ext aJ
 refine ag<|zr<|zm<|j6 (Z3 _ _) rfl rfl<|dk aH rfl rfl rfl aZ rfl ?_
 intro w2 aq aZ eK
 have hK:=hK.aL aq sx
 refine ag<|aV ?_
 exact⟨[_],gR bT aH rfl aZ rfl,rfl,hK⟩
/-! ### Types -/
inductive Ty where
 |i
 |op (f:Bool) (a b:Ty)
def ko (f:Bool):aj:=if f then[62] else[42]
def Ty.av:Ty->aA
 | .i=>cj [105]
 | .op f a b=>.mk [] [cj (ko f),a.av,b.av]
def Ty.text (t:Ty):aj:=t.av.text
def Ty.n:Ty->Nat
 | .i=>1
 | .op _ a b=>1+a.n+b.n
theorem ab6 (f:Bool):Good (cj (ko f)):=by cases f<;>exact .az _ de de
theorem Ty.oF (t:Ty):Good t.av:=by
 induction t with
 |i=>exact .az _ de de
 |op f a b iha ihb=>
  refine .list _ sm λp hp=>?_
  simp only[mC,List.not_mem_nil,or_false] at hp
  rcases hp with rfl|rfl|rfl
  ·exact ab6 f
  ·exact iha
  ·exact ihb
theorem ab7 (f:Bool):(cj (ko f)).text=ko f:=by cases f<;>exact sy de
theorem Ty.Lv:Ty.i.text=[105]:=sy de
theorem Ty.H6 (f:Bool) (a b:Ty):(Ty.op f a b).text=40::(ko f++32::(a.text++32::(b.text++[41]))):=by
 show(aA.mk [] [cj (ko f),a.av,b.av]).text=_
 rw[qW,l3,l3,pH,ab7]
 simp[Ty.text]
theorem Lw (f:Bool):(ko f).length=1:=by cases f<;>rfl
theorem Ty.pos (t:Ty):1<=t.n:=by cases t<;>simp[Ty.n];omega
theorem Ty.len (t:Ty):t.text.length+3<=4*t.n:=by
 induction t with
 |i=>rw[Ty.Lv];simp[Ty.n]
 |op f a b iha ihb=>
  rw[Ty.H6]
  simp only[lC,lA,List.length_nil,Lw,Ty.n]
  omega
theorem Ty.deep (t:Ty):t.av.depth+1<=t.n:=by
 induction t with
 |i=>simp[Ty.av,cj,aA.depth,aA.depth.deeps,Ty.n]
 |op f a b iha ihb=>
  have h0:(cj (ko f)).depth=0:=rfl
  have h1:=a.pos
  have h2:=b.pos
  show aA.depth.deeps [cj (ko f),a.av,b.av]+1<=_
  simp only[aA.depth.deeps,h0,Ty.n]
  omega
theorem Ty.size (t:Ty):t.av.size<=5*t.n:=by
 induction t with
 |i=>simp[Ty.av,cj,aA.size,aA.size.sizes,Ty.n]
 |op f a b iha ihb=>
  have h0:(cj (ko f)).size=2:=by cases f<;>rfl
  show 1+0+aA.size.sizes [cj (ko f),a.av,b.av]<=_
  simp only[aA.size.sizes,h0,Ty.n];omega
theorem Ty.ba {t:Ty} (h:t.n<=60):ba t.text=some t.av:=Le t.oF (by have:=t.deep;omega) (by have:=t.len;show t.text.length<=_;omega)
theorem Ty.ne (t:Ty):t.text≠[]:=ab2 t.oF
theorem Fj:∀{t u:Ty},t.av=u.av->t=u
 | .i,.i,_=>rfl
 | .i,.op _ _ _,h=>by simp[Ty.av,cj] at h
 | .op _ _ _,.i,h=>by simp[Ty.av,cj] at h
 | .op f a b,.op g c d,h=>by
  simp only[Ty.av,aA.mk.injEq,true_and,List.cons.injEq,and_true] at h
  obtain⟨h1,h2,h3⟩:=h
  rw[Fj h2,Fj h3]
  cases f<;>cases g<;>first|rfl|(simp[cj,ko] at h1)
theorem Ty.inj {t u:Ty} (h:t.text=u.text):t=u:=Fj (Ld t.oF u.oF h)
/-! ### Forms that are types -/
mutual
def fP:aA->Nat
 | .mk a ps=>if a≠[] then 1 else jN ps
def jN:List aA->Nat
 |[]=>0
 |t::ts=>fP t+jN ts
end
theorem Ly:∀(xs ys:List aA),jN (xs++ys)=jN xs+jN ys
 |[],ys=>by simp[jN]
 |x::xs,ys=>by simp[jN,Ly xs ys];omega
theorem Lz (t:aA):fP t=if t.az≠[] then 1 else jN t.au:=by cases t with|mk a ps=>rw[fP];rfl
theorem RA (h:ps[i]?=some p):jN (ps.take (i+1))=jN (ps.take i)+fP p:=by
 rw[List.take_add_one,h,Ly];simp[jN]
mutual
theorem ab8:∀t:aA,fP t<=t.size
 | .mk a ps=>by
  have:=LA ps
  unfold fP
  simp only[aA.size]
  split<;>omega
theorem LA:∀ps:List aA,jN ps<=aA.size.sizes ps
 |[]=>by simp[jN]
 |t::ts=>by
  have h1:=ab8 t
  have h2:=LA ts
  simp only[jN,aA.size.sizes];omega
end
theorem LB {a:aj} (h:a≠[]):fP (cj a)=1:=by simp[fP,cj,h]
theorem Ty.fP (t:Ty):fP t.av=t.n:=by
 induction t with
 |i=>simp[Ty.av,LB,Ty.n]
 |op f a b iha ihb=>
  have h0:Go.Proofs.YtigijcjccmdmhaaGreatDoor.fP (cj (ko f))=1:=LB (by cases f<;>decide)
  show Go.Proofs.YtigijcjccmdmhaaGreatDoor.fP (.mk [] [cj (ko f),a.av,b.av])=_
  simp only[Go.Proofs.YtigijcjccmdmhaaGreatDoor.fP,jN,h0,iha,ihb,Ty.n]
  simp;omega
mutual
def o4:aA->Bool
 | .mk a ps=>if a≠[] then decide (a=[105]) else sC ps
def sC:List aA->Bool
 |[h,x,y]=>(decide (h.az=[62])||decide (h.az=[42]))&&(o4 x&&o4 y)
 |_=>false
end
theorem RB (t:aA):o4 t=if t.az≠[] then decide (t.az=[105]) else sC t.au:=by cases t with|mk a ps=>rw[o4];rfl
theorem ab9 (hw:WF t):o4 t=true↔∃u:Ty,t=u.av:=by
 constructor
 ·intro h
  have key:∀m (t:aA),t.size<=m->WF t->o4 t=true->∃u:Ty,t=u.av:=by
   intro m
   induction m with
   |zero=>intro t ht;have:=xJ t;omega
   |succ m ih=>
    intro t hm hw h
    cases hw with
    |az a ha=>
     simp only[o4,iP ha,dE] at h
     exact⟨.i,by rw[h];rfl⟩
    |list ps hp hw=>
     simp only[o4] at h
     rw[iN de] at h
     match ps,h with
     |[hd,x,y],h=>
      simp only[sC,aE,oE,dE] at h
      obtain⟨hs,hx,hy⟩:=h
      simp only[aA.size,aA.size.sizes] at hm
      obtain⟨u,rfl⟩:=ih x om (hw x sm) hx
      obtain⟨v,rfl⟩:=ih y om (hw y sm) hy
      have tw:∀s:aj,s≠[]->hd.az=s->hd=cj s:=λs oy e=>by
       have hwh:=hw hd sm
       cases hwh with
       |az a ha=>cases e;rfl
       |list qs _ _=>exact absurd e.symm oy
      rcases hs with hs|hs
      ·exact⟨.op true u v,by rw[tw _ de hs];rfl⟩
      ·exact⟨.op false u v,by rw[tw _ de hs];rfl⟩
  exact key t.size t (lR _) hw h
 ·rintro⟨u,rfl⟩
  induction u with
  |i=>rfl
  |op f a b iha ihb=>
   show o4 (.mk [] [cj (ko f),a.av,b.av])=true
   have:=iha a.oF.wf
   have:=ihb b.oF.wf
   simp only[o4,sC, *]
   cases f<;>simp[cj,ko,aA.az]
def kq (t:aA):Bool:=o4 t&&decide (fP t<=16)
theorem xT (hw:WF t):kq t=true↔∃u:Ty,t=u.av∧u.n<=16:=by
 unfold kq
 rw[aE,dE,ab9 hw]
 constructor
 ·rintro⟨⟨u,rfl⟩,h⟩;exact⟨u,rfl,by rw[<-u.fP];exact h⟩
 ·rintro⟨u,rfl,h⟩;exact⟨⟨u,rfl⟩,by rw[u.fP];exact h⟩
/-! ### Names -/
def eP (s:aj):Bool:=decide (1<=s.length)&&decide (s.length<=4)&&(decide (97<=s.getD 0 0)&&decide (s.getD 0 0<=122))&&(s.drop 1).all ij
def qo (s:aj):Bool:=(numeral s).isSome||eP s
theorem uL (h:eP s=true):s≠[]:=by rintro rfl;simp[eP] at h
/-! ### Expressions -/
inductive Ex where
 |at(s:aj)
 |un (h:aj) (a:Ex)
 |bi (h:aj) (a b:Ex)
 |ite (a b c:Ex)
 |lt (x:aj) (a b:Ex)
 |fn (f x:aj) (A B:Ty) (e:Ex)
abbrev cC:aj:=[105,102]
abbrev gQ:aj:=[108,101,116]
abbrev il:aj:=[102,117,110]
abbrev BL:aj:=[102,115,116]
abbrev qZ:aj:=[115,110,100]
abbrev kD:aj:=[99,97,108,108]
abbrev xU:aj:=[112,97,105,114]
def Ex.av:Ex->aA
 | .at s=>cj s
 | .un h a=>.mk [] [cj h,a.av]
 | .bi h a b=>.mk [] [cj h,a.av,b.av]
 | .ite a b c=>.mk [] [cj cC,a.av,b.av,c.av]
 | .lt x a b=>.mk [] [cj gQ,cj x,a.av,b.av]
 | .fn f x A B e=>.mk [] [cj il,cj f,cj x,A.av,B.av,e.av]
def gT (h:aj):Bool:=decide (h=BL)||decide (h=qZ)
def iA (h:aj):Bool:=decide (h=[43])||decide (h=[45])||decide (h=[42])||decide (h=kD)||decide (h=xU)
def Ex.ok:Ex->Prop
 | .at s=>qo s=true
 | .un h a=>gT h=true∧a.ok
 | .bi h a b=>iA h=true∧a.ok∧b.ok
 | .ite a b c=>a.ok∧b.ok∧c.ok
 | .lt x a b=>eP x=true∧a.ok∧b.ok
 | .fn f x A B e=>eP f=true∧eP x=true∧f≠x∧A.n<=16∧B.n<=16∧e.ok
def Ex.n:Ex->Nat
 | .at _=>1
 | .un _ a=>1+a.n
 | .bi _ a b=>1+a.n+b.n
 | .ite a b c=>1+a.n+b.n+c.n
 | .lt _ a b=>2+a.n+b.n
 | .fn _ _ A B e=>3+A.n+B.n+e.n
mutual
def dU:aA->Bool
 | .mk a ps=>if a≠[] then qo a else nS ps
def nS:List aA->Bool
 |[h,a]=>gT h.az&&dU a
 |[h,a,b]=>iA h.az&&(dU a&&dU b)
 |[h,a,b,c]=>if h.az=cC then dU a&&(dU b&&dU c) else if h.az=gQ then eP a.az&&(dU b&&dU c) else false
 |[h,f,x,A,B,e]=>decide (h.az=il)&&(eP f.az&&eP x.az&&decide (f.az≠x.az)&&kq A&&kq B&&dU e)
 |_=>false
end
theorem z8 (hw:WF t) (hs:s≠[]) (e:t.az=s):t=cj s:=by
 cases hw with
 |az a ha=>cases e;rfl
 |list qs _ _=>exact absurd e.symm hs
theorem RC (k:gT h=true):h≠[]:=by rintro rfl;cases k
theorem RD (k:iA h=true):h≠[]:=by rintro rfl;cases k
theorem pJ (k:qo s=true):s≠[]:=by rintro rfl;cases k
theorem acb (hw:WF t):dU t=true↔∃e:Ex,t=e.av∧e.ok:=by
 constructor
 ·intro h
  have key:∀m (t:aA),t.size<=m->WF t->dU t=true->∃e:Ex,t=e.av∧e.ok:=by
   intro m
   induction m with
   |zero=>intro t ht;have:=xJ t;omega
   |succ m ih=>
    intro t hm hw h
    cases hw with
    |az a ha=>
     simp only[dU,iP ha] at h
     exact⟨.at a,rfl,h⟩
    |list ps hp hw=>
     simp only[dU] at h
     rw[iN de] at h
     match ps,h with
     |[hd,x],h=>
      simp only[nS,aE] at h
      simp only[aA.size,aA.size.sizes] at hm
      obtain⟨u,rfl,hu⟩:=ih x om (hw x sm) h.2
      exact⟨.un hd.az u,by rw[z8 (hw hd sm) (RC h.1) rfl];rfl,h.1,hu⟩
     |[hd,x,y],h=>
      simp only[nS,aE] at h
      simp only[aA.size,aA.size.sizes] at hm
      obtain⟨u,rfl,hu⟩:=ih x om (hw x sm) h.2.1
      obtain⟨v,rfl,hv⟩:=ih y om (hw y sm) h.2.2
      exact⟨.bi hd.az u v,by rw[z8 (hw hd sm) (RD h.1) rfl];rfl,h.1,hu,hv⟩
     |[hd,x,y,z],h=>
      simp only[nS] at h
      simp only[aA.size,aA.size.sizes] at hm
      split at h
      ·rename_i hh
       simp only[aE] at h
       obtain⟨u,rfl,hu⟩:=ih x om (hw x sm) h.1
       obtain⟨v,rfl,hv⟩:=ih y om (hw y sm) h.2.1
       obtain⟨q,rfl,hq⟩:=ih z om (hw z sm) h.2.2
       exact⟨.ite u v q,by rw[z8 (hw hd sm) de hh];rfl,hu,hv,hq⟩
      ·split at h
       ·rename_i hh
        simp only[aE] at h
        obtain⟨v,rfl,hv⟩:=ih y om (hw y sm) h.2.1
        obtain⟨q,rfl,hq⟩:=ih z om (hw z sm) h.2.2
        exact⟨.lt x.az v q,by rw[z8 (hw hd sm) de hh,z8 (hw x sm) (uL h.1) rfl];rfl,h.1,hv,hq⟩
       ·cases h
     |[hd,f,x,A,B,e],h=>
      simp only[nS,aE,dE] at h
      simp only[aA.size,aA.size.sizes] at hm
      obtain⟨hh,⟨⟨⟨⟨hf,hx⟩,eN⟩,hA⟩,hB⟩,he⟩:=h
      obtain⟨u,rfl,hu⟩:=ih e om (hw e sm) he
      obtain⟨tA,rfl,RE⟩:=(xT (hw A sm)).1 hA
      obtain⟨tB,rfl,H7⟩:=(xT (hw B sm)).1 hB
      exact⟨.fn f.az x.az tA tB u,by rw[z8 (hw hd sm) de hh,z8 (hw f sm) (uL hf) rfl,z8 (hw x sm) (uL hx) rfl];rfl,hf,hx,eN,RE,H7,hu⟩
  exact key t.size t (lR _) hw h
 ·rintro⟨e,rfl,bF⟩
  clear hw
  induction e with
  |«at» s=>
   show dU (.mk s [])=true
   simp only[dU];rw[iP (pJ bF)];exact bF
  |un h a iha=>
   show dU (.mk [] [cj h,a.av])=true
   simp only[dU];rw[iN de]
   simp only[nS,aE]
   exact⟨bF.1,iha bF.2⟩
  |bi h a b iha ihb=>
   show dU (.mk [] [cj h,a.av,b.av])=true
   simp only[dU];rw[iN de]
   simp only[nS,aE]
   exact⟨bF.1,iha bF.2.1,ihb bF.2.2⟩
  |ite a b c iha ihb ihc=>
   show dU (.mk [] [cj cC,a.av,b.av,c.av])=true
   simp only[dU];rw[iN de]
   simp only[nS]
   rw[iP (show(cj cC).az=cC from rfl)]
   simp only[aE]
   exact⟨iha bF.1,ihb bF.2.1,ihc bF.2.2⟩
  |lt x a b iha ihb=>
   show dU (.mk [] [cj gQ,cj x,a.av,b.av])=true
   simp only[dU];rw[iN de]
   simp only[nS]
   rw[iN (show¬(cj gQ).az=cC by decide),iP (show(cj gQ).az=gQ from rfl)]
   simp only[aE]
   exact⟨bF.1,iha bF.2.1,ihb bF.2.2⟩
  |fn f x A B e ih=>
   show dU (.mk [] [cj il,cj f,cj x,A.av,B.av,e.av])=true
   obtain⟨hf,hx,eN,hA,hB,he⟩:=bF
   simp only[dU];rw[iN de]
   simp only[nS,aE,dE]
   exact⟨rfl,⟨⟨⟨⟨hf,hx⟩,eN⟩,(xT A.oF.wf).2 ⟨A,rfl,hA⟩⟩,(xT B.oF.wf).2 ⟨B,rfl,hB⟩⟩,ih he⟩
/-! ### Parts -/
def Ex.head:Ex->aj
 | .at _=>[]
 | .un h _=>h
 | .bi h _ _=>h
 | .ite _ _ _=>cC
 | .lt _ _ _=>gQ
 | .fn _ _ _ _ _=>il
def Ex.from:Ex->Nat
 | .lt _ _ _=>2
 | .fn _ _ _ _ _=>5
 |_=>1
def Ex.kids:Ex->List Ex
 | .at _=>[]
 | .un _ a=>[a]
 | .bi _ a b=>[a,b]
 | .ite a b c=>[a,b,c]
 | .lt _ a b=>[a,b]
 | .fn _ _ _ _ e=>[e]
def Ex.binds:Ex->Nat->List aj
 | .lt x _ _,3=>[x]
 | .fn f x _ _ _,_=>[f,x]
 |_,_=>[]
def Ex.jk:Ex->Bool
 | .at _=>true
 |_=>false
def fL (e:Ex) (j:Nat):Ex:=e.kids.getD j (.at [])
theorem Ex.wf {e:Ex} (h:e.ok):Good e.av:=by
 have num:∀s:aj,qo s=true->s.all fB=true:=λs hs=>by
  unfold qo at hs
  rw[oE] at hs
  have LC:∀c:UInt8,ij c=true->fB c=true:=λc hc=>by
   unfold ij at hc;unfold fB
   rw[hc];simp
  rcases hs with hs|hs
  ·cases hn:numeral s with
   |none=>rw[hn] at hs;cases hs
   |some z=>
    unfold numeral at hn
    split at hn
    ·rename_i e;rw[e];decide
    ·split at hn
     ·cases hn
     ·split at hn
      ·rename_i ha
       rw[List.all_eq_true] at ha⊢
       intro c hc
       unfold eD at ha
       split at ha
       ·rename_i hm
        cases s with
        |nil=>simp at hm
        |cons d r=>
         simp only[List.getD_cons_zero,List.drop_succ_cons,List.drop_zero] at hm ha
         rcases mC.1 hc with rfl|hc
         ·rw[hm.2];decide
         ·exact LC c (ha c hc)
       ·exact LC c (ha c hc)
      ·cases hn
  ·cases s with
   |nil=>rfl
   |cons c r=>
    simp only[eP,aE,dE,List.getD_cons_zero,List.drop_succ_cons,List.drop_zero] at hs
    obtain⟨⟨_,h1,h2⟩,h3⟩:=hs
    rw[List.all_cons,aE]
    refine⟨?_,?_⟩
    ·unfold fB;simp[h1,h2]
    ·rw[List.all_eq_true] at h3⊢
     exact λd hd=>LC d (h3 d hd)
 have nm:∀s:aj,eP s=true->Good (cj s):=λs hs=>.az _ (uL hs) (num s (by unfold qo;rw[hs];simp))
 induction e with
 |«at» s=>exact .az _ (pJ h) (num s h)
 |un hd a iha=>
  refine .list _ sm λp hp=>?_
  simp only[mC,List.not_mem_nil,or_false] at hp
  rcases hp with rfl|rfl
  ·obtain⟨k,_⟩:=h
   simp only[gT,oE,dE] at k
   rcases k with k|k<;>(rw[k];exact .az _ de de)
  ·exact iha h.2
 |bi hd a b iha ihb=>
  refine .list _ sm λp hp=>?_
  simp only[mC,List.not_mem_nil,or_false] at hp
  rcases hp with rfl|rfl|rfl
  ·obtain⟨k,_⟩:=h
   simp only[iA,oE,dE] at k
   rcases k with(((k|k)|k)|k)|k<;>(rw[k];exact .az _ de de)
  ·exact iha h.2.1
  ·exact ihb h.2.2
 |ite a b c iha ihb ihc=>
  refine .list _ sm λp hp=>?_
  simp only[mC,List.not_mem_nil,or_false] at hp
  rcases hp with rfl|rfl|rfl|rfl
  ·exact .az _ de de
  ·exact iha h.1
  ·exact ihb h.2.1
  ·exact ihc h.2.2
 |lt x a b iha ihb=>
  refine .list _ sm λp hp=>?_
  simp only[mC,List.not_mem_nil,or_false] at hp
  rcases hp with rfl|rfl|rfl|rfl
  ·exact .az _ de de
  ·exact nm x h.1
  ·exact iha h.2.1
  ·exact ihb h.2.2
 |fn f x A B e ih=>
  refine .list _ sm λp hp=>?_
  simp only[mC,List.not_mem_nil,or_false] at hp
  obtain⟨hf,hx,_,_,_,he⟩:=h
  rcases hp with rfl|rfl|rfl|rfl|rfl|rfl
  ·exact .az _ de de
  ·exact nm f hf
  ·exact nm x hx
  ·exact A.oF
  ·exact B.oF
  ·exact ih he
theorem Ex.au {e:Ex} (h:e.jk=false):e.av.az=[]∧e.av.au.length=e.from+e.kids.length∧(nth e.av.au 0).az=e.head∧∀j,j<e.kids.length->nth e.av.au (e.from+j)=(fL e j).av:=by
 cases e with
 |«at» s=>cases h
 |un hd a=>exact⟨rfl,rfl,rfl,λj hj=>by
  have:j=0:=by simp[Ex.kids] at hj;omega
  subst this;rfl⟩
 |bi hd a b=>
  refine⟨rfl,rfl,rfl,λj hj=>?_⟩
  simp only[Ex.kids,lC,List.length_nil] at hj
  rcases(show j=0∨j=1 by omega) with rfl|rfl<;>rfl
 |ite a b c=>
  refine⟨rfl,rfl,rfl,λj hj=>?_⟩
  simp only[Ex.kids,lC,List.length_nil] at hj
  rcases(show j=0∨j=1∨j=2 by omega) with rfl|rfl|rfl<;>rfl
 |lt x a b=>
  refine⟨rfl,rfl,rfl,λj hj=>?_⟩
  simp only[Ex.kids,lC,List.length_nil] at hj
  rcases(show j=0∨j=1 by omega) with rfl|rfl<;>rfl
 |fn f x A B e=>exact⟨rfl,rfl,rfl,λj hj=>by
  have:j=0:=by simp[Ex.kids] at hj;omega
  subst this;rfl⟩
theorem Ex.pos (e:Ex):1<=e.n:=by cases e<;>simp[Ex.n]<;>omega
theorem Ex.fP {e:Ex} (h:e.ok):fP e.av=e.n:=by
 have xV:∀s:aj,s≠[]->Go.Proofs.YtigijcjccmdmhaaGreatDoor.fP (cj s)=1:=λs hs=>LB hs
 have nl:∀ps:List aA,Go.Proofs.YtigijcjccmdmhaaGreatDoor.fP (.mk [] ps)=jN ps:=λps=>by simp[Go.Proofs.YtigijcjccmdmhaaGreatDoor.fP]
 induction e with
 |«at» s=>exact xV s (pJ h)
 |un hd a iha=>show Go.Proofs.YtigijcjccmdmhaaGreatDoor.fP (.mk [] [cj hd,a.av])=_;rw[nl];simp only[jN,xV hd (RC h.1),iha h.2,Ex.n];omega
 |bi hd a b iha ihb=>show Go.Proofs.YtigijcjccmdmhaaGreatDoor.fP (.mk [] [cj hd,a.av,b.av])=_;rw[nl];simp only[jN,xV hd (RD h.1),iha h.2.1,ihb h.2.2,Ex.n];omega
 |ite a b c iha ihb ihc=>show Go.Proofs.YtigijcjccmdmhaaGreatDoor.fP (.mk [] [cj cC,a.av,b.av,c.av])=_;rw[nl];simp only[jN,xV cC de,iha h.1,ihb h.2.1,ihc h.2.2,Ex.n];omega
 |lt x a b iha ihb=>show Go.Proofs.YtigijcjccmdmhaaGreatDoor.fP (.mk [] [cj gQ,cj x,a.av,b.av])=_;rw[nl];simp only[jN,xV gQ de,xV x (uL h.1),iha h.2.1,ihb h.2.2,Ex.n];omega
 |fn f x A B e ih=>
  obtain⟨hf,hx,_,_,_,he⟩:=h
  show Go.Proofs.YtigijcjccmdmhaaGreatDoor.fP (.mk [] [cj il,cj f,cj x,A.av,B.av,e.av])=_
  rw[nl];simp only[jN,xV il de,xV f (uL hf),xV x (uL hx),A.fP,B.fP,ih he,Ex.n];omega
theorem Fk {e:Ex} (h:e.ok) {j:Nat} (hj:j<e.kids.length):(fL e j).ok∧(fL e j).n<e.n:=by
 cases e with
 |«at» s=>simp[Ex.kids] at hj
 |un hd a=>
  have:j=0:=by simp[Ex.kids] at hj;omega
  subst this;exact⟨h.2,by show a.n<_;simp only[Ex.n];omega⟩
 |bi hd a b=>
  simp only[Ex.kids,lC,List.length_nil] at hj
  rcases(show j=0∨j=1 by omega) with rfl|rfl
  ·exact⟨h.2.1,by show a.n<_;simp only[Ex.n];omega⟩
  ·exact⟨h.2.2,by show b.n<_;simp only[Ex.n];omega⟩
 |ite a b c=>
  simp only[Ex.kids,lC,List.length_nil] at hj
  rcases(show j=0∨j=1∨j=2 by omega) with rfl|rfl|rfl
  ·exact⟨h.1,by show a.n<_;simp only[Ex.n];omega⟩
  ·exact⟨h.2.1,by show b.n<_;simp only[Ex.n];omega⟩
  ·exact⟨h.2.2,by show c.n<_;simp only[Ex.n];omega⟩
 |lt x a b=>
  simp only[Ex.kids,lC,List.length_nil] at hj
  rcases(show j=0∨j=1 by omega) with rfl|rfl
  ·exact⟨h.2.1,by show a.n<_;simp only[Ex.n];omega⟩
  ·exact⟨h.2.2,by show b.n<_;simp only[Ex.n];omega⟩
 |fn f x A B e=>
  have:j=0:=by simp[Ex.kids] at hj;omega
  subst this;exact⟨h.2.2.2.2.2,by show e.n<_;simp only[Ex.n];omega⟩
def eX (h:aj):Nat×Nat:=
 if iA h then(1,3) else if h=cC then(1,4) else if h=gQ then(2,4) else if h=il then(5,6) else if gT h then(1,2) else(0,0)
theorem LD {e:Ex} (h:e.ok) (ha:e.jk=false):eX e.head=(e.from,e.from+e.kids.length):=by
 cases e with
 |«at» s=>cases ha
 |un hd a=>
  obtain⟨k,_⟩:=h
  simp only[gT,oE,dE] at k
  rcases k with k|k<;>(subst k;rfl)
 |bi hd a b=>show eX hd=_;unfold eX;rw[h.1];rfl
 |ite a b c=>rfl
 |lt x a b=>rfl
 |fn f x A B e=>rfl
/-! ### Free aX -/
def Fv (x:aj):Ex->Prop
 | .at s=>s=x∧eP x=true
 | .un _ a=>Fv x a
 | .bi _ a b=>Fv x a∨Fv x b
 | .ite a b c=>Fv x a∨Fv x b∨Fv x c
 | .lt y a b=>Fv x a∨(x≠y∧Fv x b)
 | .fn f y _ _ e=>x≠f∧x≠y∧Fv x e
def cF:Ex->List aj->List aj->List aj
 | .at s,bd,l=>if(!eP s||decide (s∈bd)||decide (s∈l))=true then l else l++[s]
 | .un _ a,bd,l=>cF a bd l
 | .bi _ a b,bd,l=>cF b bd (cF a bd l)
 | .ite a b c,bd,l=>cF c bd (cF b bd (cF a bd l))
 | .lt x a b,bd,l=>cF b (bd++[x]) (cF a bd l)
 | .fn f x _ _ e,bd,l=>cF e (bd++[f,x]) l
theorem qp (x:aj):∀(e:Ex) (bd l:List aj),x∈cF e bd l↔x∈l∨(Fv x e∧x∉bd)
 | .at s,bd,l=>by
  unfold cF Fv
  by_cases h:(!eP s||decide (s∈bd)||decide (s∈l))=true
  ·rw[iP h]
   simp only[oE,Bool.not_eq_true',dE] at h
   refine⟨.inl,λhh=>hh.elim id ?_⟩
   rintro⟨⟨rfl,hn⟩,hb⟩
   rcases h with(h|h)|h
   ·rw[hn] at h;cases h
   ·exact absurd h hb
   ·exact h
  ·rw[iN h]
   simp only[oE,Bool.not_eq_true',dE,not_or,Bool.not_eq_false] at h
   rw[mA,List.mem_singleton]
   refine⟨λhh=>hh.elim .inl (λe=>.inr ⟨⟨e.symm,by rw[e];exact h.1.1⟩,by rw[e];exact h.1.2⟩),λhh=>hh.elim .inl (λe=>.inr e.1.1.symm)⟩
 | .un _ a,bd,l=>qp x a bd l
 | .bi _ a b,bd,l=>by
  unfold cF Fv
  rw[qp x b,qp x a]
  constructor
  ·rintro((h|h)|h)
   ·exact .inl h
   ·exact .inr ⟨.inl h.1,h.2⟩
   ·exact .inr ⟨.inr h.1,h.2⟩
  ·rintro(h|⟨h|h,k⟩)
   ·exact .inl (.inl h)
   ·exact .inl (.inr ⟨h,k⟩)
   ·exact .inr ⟨h,k⟩
 | .ite a b c,bd,l=>by
  unfold cF Fv
  rw[qp x c,qp x b,qp x a]
  constructor
  ·rintro(((h|h)|h)|h)
   ·exact .inl h
   ·exact .inr ⟨.inl h.1,h.2⟩
   ·exact .inr ⟨.inr (.inl h.1),h.2⟩
   ·exact .inr ⟨.inr (.inr h.1),h.2⟩
  ·rintro(h|⟨h|h|h,k⟩)
   ·exact .inl (.inl (.inl h))
   ·exact .inl (.inl (.inr ⟨h,k⟩))
   ·exact .inl (.inr ⟨h,k⟩)
   ·exact .inr ⟨h,k⟩
 | .lt y a b,bd,l=>by
  unfold cF Fv
  rw[qp x b,qp x a]
  simp only[mA,List.mem_singleton,not_or]
  constructor
  ·rintro((h|h)|⟨h,k,k2⟩)
   ·exact .inl h
   ·exact .inr ⟨.inl h.1,h.2⟩
   ·exact .inr ⟨.inr ⟨k2,h⟩,k⟩
  ·rintro(h|⟨h|⟨h,h2⟩,k⟩)
   ·exact .inl (.inl h)
   ·exact .inl (.inr ⟨h,k⟩)
   ·exact .inr ⟨h2,k,h⟩
 | .fn f y _ _ e,bd,l=>by
  unfold cF Fv
  rw[qp x e]
  simp only[mA,mC,List.not_mem_nil,or_false,not_or]
  constructor
  ·rintro(h|⟨h,k,k2,k3⟩)
   ·exact .inl h
   ·exact .inr ⟨⟨k2,k3,h⟩,k⟩
  ·rintro(h|⟨⟨h,h2,h3⟩,k⟩)
   ·exact .inl h
   ·exact .inr ⟨h3,k,h,h2⟩
theorem wj:∀(e:Ex) (bd l:List aj),l.Nodup->(cF e bd l).Nodup
 | .at s,bd,l,hl=>by
  unfold cF
  split
  ·exact hl
  ·rename_i h
   simp only[oE,Bool.not_eq_true',dE,not_or,Bool.not_eq_false] at h
   rw[List.nodup_append]
   refine⟨hl,sm,λa ha b hb=>?_⟩
   rw[List.mem_singleton] at hb
   subst hb
   exact λe=>h.2 (e▸ha)
 | .un _ a,bd,l,hl=>wj a bd l hl
 | .bi _ a b,bd,l,hl=>wj b bd _ (wj a bd l hl)
 | .ite a b c,bd,l,hl=>wj c bd _ (wj b bd _ (wj a bd l hl))
 | .lt _ a b,bd,l,hl=>wj b _ _ (wj a bd l hl)
 | .fn _ _ _ _ e,bd,l,hl=>wj e _ l hl
theorem tC:∀(e:Ex) (bd l:List aj),(cF e bd l).length<=l.length+e.n
 | .at s,bd,l=>by unfold cF;split<;>simp[Ex.n]
 | .un _ a,bd,l=>by have:=tC a bd l;simp only[cF,Ex.n];omega
 | .bi _ a b,bd,l=>by have:=tC a bd l;have:=tC b bd (cF a bd l);simp only[cF,Ex.n];omega
 | .ite a b c,bd,l=>by have:=tC a bd l;have:=tC b bd (cF a bd l);have:=tC c bd (cF b bd (cF a bd l));simp only[cF,Ex.n];omega
 | .lt x a b,bd,l=>by have:=tC a bd l;have:=tC b (bd++[x]) (cF a bd l);simp only[cF,Ex.n];omega
 | .fn f x _ _ e,bd,l=>by have:=tC e (bd++[f,x]) l;simp only[cF,Ex.n];omega
def nT (e:Ex) (bd l:List aj):Nat->List aj
 |0=>l
 |j+1=>cF (fL e j) (bd++e.binds (e.from+j)) (nT e bd l j)
theorem acd {e:Ex} (ha:e.jk=false) (bd l:List aj):cF e bd l=nT e bd l e.kids.length:=by
 cases e with
 |«at» s=>cases ha
 |un hd a=>simp[Ex.kids,nT,cF,fL,Ex.binds]
 |bi hd a b=>simp[Ex.kids,nT,cF,fL,Ex.binds]
 |ite a b c=>simp[Ex.kids,nT,cF,fL,Ex.binds]
 |lt x a b=>simp[Ex.kids,nT,cF,fL,Ex.binds,Ex.from]
 |fn f x A B e=>simp[Ex.kids,nT,cF,fL,Ex.binds,Ex.from]
def im (x:aj):Ex->Nat
 | .at s=>if s=x then 1 else 0
 | .un _ a=>im x a
 | .bi _ a b=>im x a+im x b
 | .ite a b c=>im x a+im x b+im x c
 | .lt y a b=>im x a+if x=y then 0 else im x b
 | .fn f y _ _ e=>if x=f∨x=y then 0 else im x e
theorem wk {x:aj} (hx:eP x=true):∀e:Ex,0<im x e↔Fv x e
 | .at s=>by unfold im Fv;by_cases h:s=x<;>simp[h,hx]
 | .un _ a=>wk hx a
 | .bi _ a b=>by unfold im Fv;rw[<-wk hx a,<-wk hx b];omega
 | .ite a b c=>by unfold im Fv;rw[<-wk hx a,<-wk hx b,<-wk hx c];omega
 | .lt y a b=>by
  unfold im Fv
  rw[<-wk hx a,<-wk hx b]
  by_cases h:x=y
  ·rw[iP h];simp[h]
  ·rw[iN h];simp only[ne_eq,h,not_false_eq_true,true_and];omega
 | .fn f y _ _ e=>by
  have:=wk hx e
  unfold im Fv
  by_cases h:x=f∨x=y
  ·rw[iP h];refine⟨λh=>absurd h om,λhh=>?_⟩
   rcases h with h|h
   ·exact absurd h hh.1
   ·exact absurd h hh.2.1
  ·rw[iN h];rw[not_or] at h
   exact⟨λhh=>⟨h.1,h.2,this.1 hh⟩,λhh=>this.2 hh.2.2⟩
theorem count_le (x:aj):∀e:Ex,im x e<=e.n
 | .at s=>by unfold im;split<;>simp[Ex.n]
 | .un _ a=>by have:=count_le x a;simp only[im,Ex.n];omega
 | .bi _ a b=>by have:=count_le x a;have:=count_le x b;simp only[im,Ex.n];omega
 | .ite a b c=>by have:=count_le x a;have:=count_le x b;have:=count_le x c;simp only[im,Ex.n];omega
 | .lt y a b=>by have:=count_le x a;have:=count_le x b;simp only[im,Ex.n];split<;>omega
 | .fn f y _ _ e=>by have:=count_le x e;simp only[im,Ex.n];split<;>omega
def tE (x:aj) (e:Ex):Nat->Nat
 |0=>0
 |j+1=>tE x e j+if x∈e.binds (e.from+j) then 0 else im x (fL e j)
theorem RF {e:Ex} (ha:e.jk=false) (x:aj):im x e=tE x e e.kids.length:=by
 cases e with
 |«at» s=>cases ha
 |un hd a=>simp[Ex.kids,tE,im,fL,Ex.binds]
 |bi hd a b=>simp[Ex.kids,tE,im,fL,Ex.binds]
 |ite a b c=>simp[Ex.kids,tE,im,fL,Ex.binds]
 |lt y a b=>simp[Ex.kids,tE,im,fL,Ex.binds,Ex.from]
 |fn f y A B e=>simp[Ex.kids,tE,im,fL,Ex.binds]
/-! ### Types of expressions -/
abbrev Sc:=List (aj×Ty)
def look (Γ:Sc) (s:aj):Option Ty:=(Γ.reverse.find? λp=>decide (p.1=s)).map Prod.snd
theorem mX (Γ:Sc) (x s:aj) (T:Ty):look (Γ++[(x,T)]) s=if x=s then some T else look Γ s:=by
 unfold look
 rw[List.reverse_append]
 simp only[List.reverse_cons,List.reverse_nil,List.nil_append,List.cons_append,List.find?_cons]
 by_cases h:x=s
 ·simp[h]
 ·simp[h]
theorem Aa (Γ:Sc) (f x s:aj) (T U:Ty):look (Γ++[(f,T),(x,U)]) s=if x=s then some U else if f=s then some T else look Γ s:=by
 rw[show Γ++[(f,T),(x,U)]=(Γ++[(f,T)])++[(x,U)] from by simp,mX,mX]
def k9 (a b:Ty):Bool:=decide (a.text=b.text)
theorem ace {a b:Ty}:k9 a b=true↔a=b:=by
 unfold k9;rw[dE];exact⟨Ty.inj,λh=>by rw[h]⟩
def la (h:aj):List Ty->Option Ty
 |[a]=>match a with
  | .op false c d=>if h=BL then some c else if h=qZ then some d else none
  |_=>none
 |[a,b]=>
  if h=kD then match a with
   | .op true c d=>if k9 c b then some d else none
   |_=>none
  else if h=xU then(if 1+a.n+b.n<=16 then some (.op false a b) else none)
  else if k9 a .i&&k9 b .i then some .i else none
 |[a,b,c]=>if k9 a .i&&k9 b c then some b else none
 |_=>none
def bM:Ex->Sc->Option Ty
 | .at s,Γ=>if eP s then look Γ s else some .i
 | .un h a,Γ=>(bM a Γ).bind λA=>la h [A]
 | .bi h a b,Γ=>(bM a Γ).bind λA=>(bM b Γ).bind λB=>la h [A,B]
 | .ite a b c,Γ=>(bM a Γ).bind λA=>(bM b Γ).bind λB=>(bM c Γ).bind λC=>la cC [A,B,C]
 | .lt x a b,Γ=>(bM a Γ).bind λA=>bM b (Γ++[(x,A)])
 | .fn f x A B e,Γ=>if 1+A.n+B.n<=16 then(bM e (Γ++[(f,.op true A B),(x,A)])).bind λC=>if k9 C B then some (.op true A B) else none else none
theorem qq:∀(e:Ex) (Γ Δ:Sc),(∀s,eP s=true->Fv s e->look Γ s=look Δ s)->bM e Γ=bM e Δ
 | .at s,Γ,Δ,h=>by
  unfold bM
  by_cases hn:eP s=true
  ·rw[iP hn,iP hn];exact h s hn ⟨rfl,hn⟩
  ·rw[iN hn,iN hn]
 | .un hd a,Γ,Δ,h=>by unfold bM;rw[qq a Γ Δ h]
 | .bi hd a b,Γ,Δ,h=>by unfold bM;rw[qq a Γ Δ λs hn hs=>h s hn (.inl hs),qq b Γ Δ λs hn hs=>h s hn (.inr hs)]
 | .ite a b c,Γ,Δ,h=>by unfold bM;rw[qq a Γ Δ λs hn hs=>h s hn (.inl hs),qq b Γ Δ λs hn hs=>h s hn (.inr (.inl hs)),qq c Γ Δ λs hn hs=>h s hn (.inr (.inr hs))]
 | .lt x a b,Γ,Δ,h=>by
  unfold bM
  rw[qq a Γ Δ λs hn hs=>h s hn (.inl hs)]
  cases bM a Δ with
  |none=>rfl
  |some A=>
   refine qq b _ _ λs hn hs=>?_
   rw[mX,mX]
   by_cases e:x=s
   ·rw[iP e,iP e]
   ·rw[iN e,iN e];exact h s hn (.inr ⟨λe'=>e e'.symm,hs⟩)
 | .fn f x A B e,Γ,Δ,h=>by
  unfold bM
  rw[qq e _ (Δ++[(f,.op true A B),(x,A)]) λs hn hs=>?_]
  rw[Aa,Aa]
  by_cases e1:x=s
  ·rw[iP e1,iP e1]
  ·by_cases e2:f=s
   ·rw[iN e1,iN e1,iP e2,iP e2]
   ·rw[iN e1,iN e1,iN e2,iN e2];exact h s hn ⟨λe'=>e2 e'.symm,λe'=>e1 e'.symm,hs⟩
def Ab (Γ:Sc):Prop:=∀s T,look Γ s=some T->T.n<=16
theorem Fl {Γ:Sc} (h:Ab Γ) {x:aj} {T:Ty} (hT:T.n<=16):Ab (Γ++[(x,T)]):=λs U hU=>by
 rw[mX] at hU
 split at hU
 ·cases hU;exact hT
 ·exact h s U hU
theorem LF:∀{ks:List Ty} {T:Ty},(∀k,k∈ks->k.n<=16)->la h ks=some T->T.n<=16
 |[],T,_,e=>by cases e
 |[a],T,hk,e=>by
  have ha:=hk a sm
  cases a with
  |i=>cases e
  |op f c d=>
   cases f with
   |true=>cases e
   |false=>
    simp only[Ty.n] at ha
    simp only[la] at e
    split at e
    ·cases e;omega
    ·split at e
     ·cases e;omega
     ·cases e
 |[a,b],T,hk,e=>by
  have ha:=hk a sm
  have hb:=hk b sm
  simp only[la] at e
  split at e
  ·cases a with
   |i=>cases e
   |op f c d=>
    cases f with
    |false=>cases e
    |true=>
     simp only at e
     split at e
     ·cases e;simp only[Ty.n] at ha;omega
     ·cases e
  ·split at e
   ·split at e
    ·rename_i hc;cases e;simpa[Ty.n] using hc
    ·cases e
   ·split at e
    ·cases e;decide
    ·cases e
 |[a,b,c],T,hk,e=>by
  simp only[la] at e
  split at e
  ·cases e;exact hk b sm
  ·cases e
 |_::_::_::_::_,T,_,e=>by cases e
theorem l4:∀{e:Ex} {Γ:Sc} {T:Ty},Ab Γ->bM e Γ=some T->T.n<=16
 | .at s,Γ,T,hΓ,h=>by
  unfold bM at h
  split at h
  ·exact hΓ s T h
  ·cases h;decide
 | .un hd a,Γ,T,hΓ,h=>by
  unfold bM at h
  cases ha:bM a Γ with
  |none=>rw[ha] at h;cases h
  |some A=>
   rw[ha,Option.bind_some] at h
   exact LF (λk hk=>by simp at hk;rw[hk];exact l4 hΓ ha) h
 | .bi hd a b,Γ,T,hΓ,h=>by
  unfold bM at h
  cases ha:bM a Γ with
  |none=>rw[ha] at h;cases h
  |some A=>
   cases hb:bM b Γ with
   |none=>rw[ha,hb] at h;cases h
   |some B=>
    rw[ha,hb,Option.bind_some,Option.bind_some] at h
    exact LF (λk hk=>by simp at hk;rcases hk with rfl|rfl;exact l4 hΓ ha;exact l4 hΓ hb) h
 | .ite a b c,Γ,T,hΓ,h=>by
  unfold bM at h
  cases ha:bM a Γ with
  |none=>rw[ha] at h;cases h
  |some A=>
   cases hb:bM b Γ with
   |none=>rw[ha,hb] at h;cases h
   |some B=>
    cases hc:bM c Γ with
    |none=>rw[ha,hb,hc] at h;cases h
    |some C=>
     rw[ha,hb,hc,Option.bind_some,Option.bind_some,Option.bind_some] at h
     exact LF (λk hk=>by simp at hk;rcases hk with rfl|rfl|rfl;exact l4 hΓ ha;exact l4 hΓ hb;exact l4 hΓ hc) h
 | .lt x a b,Γ,T,hΓ,h=>by
  unfold bM at h
  cases ha:bM a Γ with
  |none=>rw[ha] at h;cases h
  |some A=>
   rw[ha,Option.bind_some] at h
   exact l4 (Fl hΓ (l4 hΓ ha)) h
 | .fn f x A B e,Γ,T,hΓ,h=>by
  unfold bM at h
  split at h
  ·rename_i hc
   cases he:bM e (Γ++[(f,.op true A B),(x,A)]) with
   |none=>rw[he] at h;cases h
   |some C=>
    rw[he,Option.bind_some] at h
    split at h
    ·cases h;simpa[Ty.n] using hc
    ·cases h
  ·cases h
/-! ### sq aX -/
theorem RG (n:Nat):val (bf n)=n:=by
 induction n using Nat.strongRecOn with
 |_ n ih=>
  have hd:∀k,k<10->(UInt8.ofNat (48+k)).toNat=48+k:=λk hk=>by
   rw[UInt8.toNat_ofNat'];exact Nat.mod_eq_of_lt om
  unfold bf
  by_cases h:n<10
  ·rw[iP h]
   show 10*0+((UInt8.ofNat (48+n)).toNat-48)=n
   rw[hd n h];omega
  ·rw[iN h,P6,ih (n/10) om,hd (n%10) om];omega
theorem acf {n:Nat} (h:bf n=bf m):n=m:=by rw[<-RG n,<-RG m,h]
def dj (c:UInt8) (k:Nat):aj:=c::bf k
theorem pK {c:UInt8} {j:Nat} (h:dj c k=dj c j):k=j:=acf (by unfold dj at h;simpa using h)
theorem LG {α:Type} [BEq α] [LawfulBEq α]:∀{l m:List α},l.Nodup->(∀x,x∈l->x∈m)->l.length<=m.length
 |[],m,_,_=>by simp
 |a::l,m,hn,hs=>by
  rw[List.nodup_cons] at hn
  have ha:=hs a sm
  have:=LG (l:=l) (m:=m.erase a) hn.2 λx hx=>(List.mem_erase_of_ne (fun(e:x=a)=>hn.1 (e▸hx))).2 (hs x (by simp[hx]))
  rw[List.length_erase_of_mem ha] at this
  have:=List.length_pos_of_mem ha
  simp only[lC];omega
def o5 (c:UInt8) (ai:List aj):Nat->Nat->Nat
 |0,n=>n
 |fuel+1,n=>if dj c n∈ai then o5 c ai fuel (n+1) else n
def bK (c:UInt8) (ai:List aj) (n:Nat):Nat:=o5 c ai (ai.length+1) n
theorem RH (c:UInt8) (ai:List aj):∀fuel n,n<=o5 c ai fuel n∧o5 c ai fuel n<=n+fuel
 |0,n=>by simp[o5]
 |fuel+1,n=>by
  unfold o5
  have:=RH c ai fuel (n+1)
  split<;>omega
theorem RI (c:UInt8) (ai:List aj):∀fuel n,dj c (o5 c ai fuel n)∉ai∨∀j,j<fuel->dj c (n+j)∈ai
 |0,n=>.inr λj hj=>by omega
 |fuel+1,n=>by
  unfold o5
  split
  ·rename_i h
   rcases RI c ai fuel (n+1) with h1|h1
   ·exact .inl h1
   ·refine .inr λj hj=>?_
    cases j with
    |zero=>exact h
    |succ j=>have:=h1 j om;rw[show n+(j+1)=n+1+j from by omega];exact this
  ·rename_i h;exact .inl h
theorem H8 (c:UInt8) (ai:List aj) (n:Nat):dj c (bK c ai n)∉ai:=by
 rcases RI c ai (ai.length+1) n with h|h
 ·exact h
 ·exfalso
  have hn:((List.range (ai.length+1)).map λj=>dj c (n+j)).Nodup:=by
   rw[List.nodup_iff_pairwise_ne,List.pairwise_map]
   refine List.Pairwise.imp ?_ (List.nodup_iff_pairwise_ne.1 List.nodup_range)
   intro a b H9 e
   exact H9 (by have:=pK e;omega)
  have:=LG hn (m:=ai) (λx hx=>by
   obtain⟨j,hj,rfl⟩:=List.mem_map.1 hx
   exact h j (List.mem_range.1 hj))
  simp at this;omega
theorem oG (c:UInt8) (ai:List aj) (n:Nat):n<=bK c ai n∧bK c ai n<=n+ai.length+1:=by
 have:=RH c ai (ai.length+1) n
 unfold bK;omega
theorem RJ {c:UInt8} {ai:List aj} {n:Nat} (h:dj c n∈ai):bK c ai n=bK c ai (n+1):=by
 have key:∀f g n,dj c (o5 c ai f n)∉ai->dj c (o5 c ai g n)∉ai->o5 c ai f n=o5 c ai g n:=by
  intro f
  induction f with
  |zero=>
   intro g n h1 h2
   cases g with
   |zero=>rfl
   |succ g=>unfold o5 at h1⊢;rw[iN h1]
  |succ f ih=>
   intro g n h1 h2
   cases g with
   |zero=>unfold o5 at h2⊢;rw[iN h2]
   |succ g=>
    unfold o5 at h1 h2⊢
    by_cases hh:dj c n∈ai
    ·rw[iP hh] at h1 h2⊢;rw[iP hh];exact ih g (n+1) h1 h2
    ·rw[iN hh,iN hh]
 have e:bK c ai n=o5 c ai ai.length (n+1):=by
  unfold bK
  conv=>lhs;unfold o5
  rw[iP h]
 have h1:=H8 c ai n
 rw[e] at h1⊢
 exact key _ _ _ h1 (H8 c ai (n+1))
theorem RK {c:UInt8} {ai:List aj} {n:Nat} (h:dj c n∉ai):bK c ai n=n:=by
 unfold bK o5;rw[iN h]
theorem Ac {c:UInt8} (hc:97<=c∧c<=122) (hk:k<1000):eP (dj c k)=true:=by
 have hd:∀k,(bf k).all ij=true:=λk=>by
  induction k using Nat.strongRecOn with
  |_ k ih=>
   have hd:∀j,j<10->ij (UInt8.ofNat (48+j))=true:=by decide
   unfold bf
   by_cases h:k<10
   ·rw[iP h,List.all_cons,hd k h];rfl
   ·rw[iN h,List.all_append,ih (k/10) om,List.all_cons,hd (k%10) om];rfl
 have h1:∀k,k<10->(bf k).length=1:=λk hk=>by unfold bf;rw[iP hk];rfl
 have h2:∀k,k<100->(bf k).length<=2:=λk hk=>by
  unfold bf
  split
  ·simp
  ·have:=h1 (k/10) om
   simp;omega
 have h3:(bf k).length<=3:=by
  unfold bf
  split
  ·simp
  ·have:=h2 (k/10) om
   simp;omega
 unfold eP dj
 simp only[lC,List.getD_cons_zero,List.drop_succ_cons,List.drop_zero,hd k,Bool.and_true,aE,dE]
 exact⟨⟨by omega,om⟩,hc⟩
/-! ### Bound aX renamed -/
abbrev Rn:=List (aj×aj)
def rb (ρ:Rn) (s:aj):aj:=((ρ.reverse.find? λp=>decide (p.1=s)).map Prod.snd).getD s
theorem Fm (ρ:Rn) (x y s:aj):rb (ρ++[(x,y)]) s=if x=s then y else rb ρ s:=by
 unfold rb
 rw[List.reverse_append]
 simp only[List.reverse_cons,List.reverse_nil,List.nil_append,List.cons_append,List.find?_cons]
 by_cases h:x=s
 ·simp[h]
 ·simp[h]
theorem RL (ρ:Rn) (f x s g y:aj):rb (ρ++[(f,g),(x,y)]) s=if x=s then y else if f=s then g else rb ρ s:=by
 rw[show ρ++[(f,g),(x,y)]=(ρ++[(f,g)])++[(x,y)] from by simp,Fm,Fm]
abbrev cx:UInt8:=120
def ck (ai:List aj):Ex->Rn->Nat->Ex×Nat
 | .at s,ρ,n=>(.at (if eP s then rb ρ s else s),n)
 | .un h a,ρ,n=>(.un h (ck ai a ρ n).1,(ck ai a ρ n).2)
 | .bi h a b,ρ,n=>(.bi h (ck ai a ρ n).1 (ck ai b ρ (ck ai a ρ n).2).1,(ck ai b ρ (ck ai a ρ n).2).2)
 | .ite a b c,ρ,n=>(.ite (ck ai a ρ n).1 (ck ai b ρ (ck ai a ρ n).2).1 (ck ai c ρ (ck ai b ρ (ck ai a ρ n).2).2).1,(ck ai c ρ (ck ai b ρ (ck ai a ρ n).2).2).2)
 | .lt x a b,ρ,n=>(.lt (dj cx (bK cx ai n)) (ck ai a ρ (bK cx ai n+1)).1 (ck ai b (ρ++[(x,dj cx (bK cx ai n))]) (ck ai a ρ (bK cx ai n+1)).2).1,
   (ck ai b (ρ++[(x,dj cx (bK cx ai n))]) (ck ai a ρ (bK cx ai n+1)).2).2)
 | .fn f x A B e,ρ,n=>(.fn (dj cx (bK cx ai n)) (dj cx (bK cx ai (bK cx ai n+1))) A B (ck ai e (ρ++[(f,dj cx (bK cx ai n)),(x,dj cx (bK cx ai (bK cx ai n+1)))]) (bK cx ai (bK cx ai n+1)+1)).1,
   (ck ai e (ρ++[(f,dj cx (bK cx ai n)),(x,dj cx (bK cx ai (bK cx ai n+1)))]) (bK cx ai (bK cx ai n+1)+1)).2)
theorem jz (ai:List aj):∀(e:Ex) (ρ:Rn) (n:Nat),n<=(ck ai e ρ n).2∧(ck ai e ρ n).2+(ai.length+2)<=n+(e.n)*(ai.length+2)+(ai.length+2)
 | .at s,ρ,n=>by simp only[ck,Ex.n];omega
 | .un h a,ρ,n=>by
  have:=jz ai a ρ n
  simp only[ck,Ex.n,Nat.add_mul];omega
 | .bi h a b,ρ,n=>by
  have:=jz ai a ρ n
  have:=jz ai b ρ (ck ai a ρ n).2
  simp only[ck,Ex.n,Nat.add_mul];omega
 | .ite a b c,ρ,n=>by
  have:=jz ai a ρ n
  have:=jz ai b ρ (ck ai a ρ n).2
  have:=jz ai c ρ (ck ai b ρ (ck ai a ρ n).2).2
  simp only[ck,Ex.n,Nat.add_mul];omega
 | .lt x a b,ρ,n=>by
  have h0:=oG cx ai n
  have:=jz ai a ρ (bK cx ai n+1)
  have:=jz ai b (ρ++[(x,dj cx (bK cx ai n))]) (ck ai a ρ (bK cx ai n+1)).2
  simp only[ck,Ex.n,Nat.add_mul];omega
 | .fn f x A B e,ρ,n=>by
  have h0:=oG cx ai n
  have h1:=oG cx ai (bK cx ai n+1)
  have:=jz ai e (ρ++[(f,dj cx (bK cx ai n)),(x,dj cx (bK cx ai (bK cx ai n+1)))]) (bK cx ai (bK cx ai n+1)+1)
  simp only[ck,Ex.n,Nat.add_mul];omega
theorem uM (ai:List aj):∀(e:Ex) (ρ:Rn) (n:Nat),(ck ai e ρ n).1.n=e.n
 | .at s,ρ,n=>rfl
 | .un h a,ρ,n=>by simp only[ck,Ex.n,uM ai a]
 | .bi h a b,ρ,n=>by simp only[ck,Ex.n,uM ai a,uM ai b]
 | .ite a b c,ρ,n=>by simp only[ck,Ex.n,uM ai a,uM ai b,uM ai c]
 | .lt x a b,ρ,n=>by simp only[ck,Ex.n,uM ai a,uM ai b]
 | .fn f x A B e,ρ,n=>by simp only[ck,Ex.n,uM ai e]
theorem wm (ai:List aj):∀(e:Ex) (ρ:Rn) (n:Nat),e.ok->(ck ai e ρ n).2<=1000->(∀s,eP s=true->Fv s e->eP (rb ρ s)=true)->(ck ai e ρ n).1.ok
 | .at s,ρ,n,h,_,hr=>by
  show qo _=true
  by_cases hn:eP s=true
  ·rw[iP hn];unfold qo;rw[hr s hn ⟨rfl,hn⟩];simp
  ·rw[iN hn];exact h
 | .un hd a,ρ,n,h,hm,hr=>⟨h.1,wm ai a ρ n h.2 hm hr⟩
 | .bi hd a b,ρ,n,h,hm,hr=>by
  have h2:=jz ai b ρ (ck ai a ρ n).2
  simp only[ck] at hm
  exact⟨h.1,wm ai a ρ n h.2.1 om λs hn hs=>hr s hn (.inl hs),wm ai b ρ _ h.2.2 hm λs hn hs=>hr s hn (.inr hs)⟩
 | .ite a b c,ρ,n,h,hm,hr=>by
  have h2:=jz ai b ρ (ck ai a ρ n).2
  have h3:=jz ai c ρ (ck ai b ρ (ck ai a ρ n).2).2
  simp only[ck] at hm
  exact⟨wm ai a ρ n h.1 om λs hn hs=>hr s hn (.inl hs),wm ai b ρ _ h.2.1 om λs hn hs=>hr s hn (.inr (.inl hs)),wm ai c ρ _ h.2.2 hm λs hn hs=>hr s hn (.inr (.inr hs))⟩
 | .lt x a b,ρ,n,h,hm,hr=>by
  have h1:=jz ai a ρ (bK cx ai n+1)
  have h2:=jz ai b (ρ++[(x,dj cx (bK cx ai n))]) (ck ai a ρ (bK cx ai n+1)).2
  simp only[ck] at hm
  have hk:eP (dj cx (bK cx ai n))=true:=Ac de om
  refine⟨hk,wm ai a ρ _ h.2.1 om λs hn hs=>hr s hn (.inl hs),wm ai b _ _ h.2.2 hm λs hn hs=>?_⟩
  rw[Fm]
  split
  ·exact hk
  ·rename_i e;exact hr s hn (.inr ⟨λe'=>e e'.symm,hs⟩)
 | .fn f x A B e,ρ,n,h,hm,hr=>by
  have h0:=oG cx ai n
  have h1:=oG cx ai (bK cx ai n+1)
  have h2:=jz ai e (ρ++[(f,dj cx (bK cx ai n)),(x,dj cx (bK cx ai (bK cx ai n+1)))]) (bK cx ai (bK cx ai n+1)+1)
  simp only[ck] at hm
  have hk:eP (dj cx (bK cx ai n))=true:=Ac de om
  have aq:eP (dj cx (bK cx ai (bK cx ai n+1)))=true:=Ac de om
  obtain⟨_,_,_,hA,hB,he⟩:=h
  refine⟨hk,aq,λe=>by have:=pK e;omega,hA,hB,wm ai e _ _ he hm λs hn hs=>?_⟩
  rw[RL]
  split
  ·exact aq
  ·rename_i e1
   split
   ·exact hk
   ·rename_i e2;exact hr s hn ⟨λe'=>e2 e'.symm,λe'=>e1 e'.symm,hs⟩
theorem wo (ai:List aj):∀(e:Ex) (ρ:Rn) (n:Nat) (Γ Δ:Sc),(ck ai e ρ n).2<=1000->(∀s,eP s=true->Fv s e->eP (rb ρ s)=true∧look Δ (rb ρ s)=look Γ s∧∀k,n<=k->rb ρ s≠dj cx k)->bM (ck ai e ρ n).1 Δ=bM e Γ
 | .at s,ρ,n,Γ,Δ,_,h=>by
  unfold ck bM
  by_cases hn:eP s=true
  ·obtain⟨h1,h2,_⟩:=h s hn ⟨rfl,hn⟩
   rw[iP hn,iP hn,iP h1,h2]
  ·rw[iN hn,iN hn,iN hn]
 | .un hd a,ρ,n,Γ,Δ,hm,h=>by
  unfold ck bM
  rw[wo ai a ρ n Γ Δ hm h]
 | .bi hd a b,ρ,n,Γ,Δ,hm,h=>by
  have h1:=jz ai a ρ n
  have h2:=jz ai b ρ (ck ai a ρ n).2
  simp only[ck] at hm
  unfold ck bM
  rw[wo ai a ρ n Γ Δ om λs hn hs=>h s hn (.inl hs),wo ai b ρ _ Γ Δ hm λs hn hs=>?_]
  obtain⟨q1,q2,q3⟩:=h s hn (.inr hs)
  exact⟨q1,q2,λk hk=>q3 k om⟩
 | .ite a b c,ρ,n,Γ,Δ,hm,h=>by
  have h1:=jz ai a ρ n
  have h2:=jz ai b ρ (ck ai a ρ n).2
  have h3:=jz ai c ρ (ck ai b ρ (ck ai a ρ n).2).2
  simp only[ck] at hm
  unfold ck bM
  rw[wo ai a ρ n Γ Δ om λs hn hs=>h s hn (.inl hs),wo ai b ρ _ Γ Δ om λs hn hs=>?_,wo ai c ρ _ Γ Δ hm λs hn hs=>?_]
  ·obtain⟨q1,q2,q3⟩:=h s hn (.inr (.inr hs))
   exact⟨q1,q2,λk hk=>q3 k om⟩
  ·obtain⟨q1,q2,q3⟩:=h s hn (.inr (.inl hs))
   exact⟨q1,q2,λk hk=>q3 k om⟩
 | .lt x a b,ρ,n,Γ,Δ,hm,h=>by
  have h0:=oG cx ai n
  have h1:=jz ai a ρ (bK cx ai n+1)
  have h2:=jz ai b (ρ++[(x,dj cx (bK cx ai n))]) (ck ai a ρ (bK cx ai n+1)).2
  simp only[ck] at hm
  have hk:eP (dj cx (bK cx ai n))=true:=Ac de om
  unfold ck bM
  rw[wo ai a ρ _ Γ Δ om λs hn hs=>?_]
  ·cases bM a Γ with
   |none=>rfl
   |some A=>
    refine wo ai b _ _ _ _ hm λs hn hs=>?_
    rw[Fm,mX Γ]
    by_cases e:x=s
    ·rw[iP e,iP e,mX,iP rfl]
     exact⟨hk,rfl,λk hk e=>by have:=pK e;omega⟩
    ·rw[iN e,iN e]
     obtain⟨q1,q2,q3⟩:=h s hn (.inr ⟨λe'=>e e'.symm,hs⟩)
     rw[mX,iN (λe=>q3 _ h0.1 e.symm)]
     exact⟨q1,q2,λk hk=>q3 k om⟩
  ·obtain⟨q1,q2,q3⟩:=h s hn (.inl hs)
   exact⟨q1,q2,λk hk=>q3 k om⟩
 | .fn f x A B e,ρ,n,Γ,Δ,hm,h=>by
  have h0:=oG cx ai n
  have h1:=oG cx ai (bK cx ai n+1)
  have h2:=jz ai e (ρ++[(f,dj cx (bK cx ai n)),(x,dj cx (bK cx ai (bK cx ai n+1)))]) (bK cx ai (bK cx ai n+1)+1)
  simp only[ck] at hm
  have hk:eP (dj cx (bK cx ai n))=true:=Ac de om
  have aq:eP (dj cx (bK cx ai (bK cx ai n+1)))=true:=Ac de om
  unfold ck bM
  rw[wo ai e _ _ (Γ++[(f,.op true A B),(x,A)]) _ hm λs hn hs=>?_]
  rw[RL,Aa Γ]
  by_cases e1:x=s
  ·rw[iP e1,iP e1,Aa,iP rfl]
   exact⟨aq,rfl,λk hk e=>by have:=pK e;omega⟩
  ·by_cases e2:f=s
   ·rw[iN e1,iN e1,iP e2,iP e2,Aa,iN (λe=>by have:=pK e;omega),iP rfl]
    exact⟨hk,rfl,λk hk e=>by have:=pK e;omega⟩
   ·rw[iN e1,iN e1,iN e2,iN e2]
    obtain⟨q1,q2,q3⟩:=h s hn ⟨λe'=>e2 e'.symm,λe'=>e1 e'.symm,hs⟩
    rw[Aa,iN (λe=>q3 _ om e.symm),iN (λe=>q3 _ h0.1 e.symm)]
    exact⟨q1,q2,λk hk=>q3 k om⟩
/-! ### The aX that are bound -/
def fQ:Ex->List aj
 | .at _=>[]
 | .un _ a=>fQ a
 | .bi _ a b=>fQ a++fQ b
 | .ite a b c=>fQ a++(fQ b++fQ c)
 | .lt x a b=>x::(fQ a++fQ b)
 | .fn f x _ _ e=>f::x::fQ e
theorem wq (ai:List aj):∀(e:Ex) (ρ:Rn) (n:Nat),(fQ (ck ai e ρ n).1).Nodup∧∀y,y∈fQ (ck ai e ρ n).1->∃k,y=dj cx k∧n<=k∧k<(ck ai e ρ n).2
 | .at s,ρ,n=>by simp[ck,fQ]
 | .un hd a,ρ,n=>wq ai a ρ n
 | .bi hd a b,ρ,n=>by
  have h1:=jz ai a ρ n
  have h2:=jz ai b ρ (ck ai a ρ n).2
  obtain⟨a1,a2⟩:=wq ai a ρ n
  obtain⟨b1,b2⟩:=wq ai b ρ (ck ai a ρ n).2
  simp only[ck,fQ]
  refine⟨List.nodup_append.2 ⟨a1,b1,λx hx y hy e=>?_⟩,λy hy=>?_⟩
  ·obtain⟨k,rfl,_,hk⟩:=a2 x hx
   obtain⟨j,rfl,hj,_⟩:=b2 y hy
   have:=pK e;omega
  ·rcases mA.1 hy with hy|hy
   ·obtain⟨k,e,p,q⟩:=a2 y hy;exact⟨k,e,p,om⟩
   ·obtain⟨k,e,p,q⟩:=b2 y hy;exact⟨k,e,om,q⟩
 | .ite a b c,ρ,n=>by
  have h1:=jz ai a ρ n
  have h2:=jz ai b ρ (ck ai a ρ n).2
  have h3:=jz ai c ρ (ck ai b ρ (ck ai a ρ n).2).2
  obtain⟨a1,a2⟩:=wq ai a ρ n
  obtain⟨b1,b2⟩:=wq ai b ρ (ck ai a ρ n).2
  obtain⟨c1,c2⟩:=wq ai c ρ (ck ai b ρ (ck ai a ρ n).2).2
  simp only[ck,fQ]
  refine⟨List.nodup_append.2 ⟨a1,List.nodup_append.2 ⟨b1,c1,λx hx y hy e=>?_⟩,λx hx y hy e=>?_⟩,λy hy=>?_⟩
  ·obtain⟨k,rfl,_,hk⟩:=b2 x hx
   obtain⟨j,rfl,hj,_⟩:=c2 y hy
   have:=pK e;omega
  ·obtain⟨k,rfl,_,hk⟩:=a2 x hx
   rcases mA.1 hy with hy|hy
   ·obtain⟨j,rfl,hj,_⟩:=b2 y hy
    have:=pK e;omega
   ·obtain⟨j,rfl,hj,_⟩:=c2 y hy
    have:=pK e;omega
  ·rcases mA.1 hy with hy|hy
   ·obtain⟨k,e,p,q⟩:=a2 y hy;exact⟨k,e,p,om⟩
   ·rcases mA.1 hy with hy|hy
    ·obtain⟨k,e,p,q⟩:=b2 y hy;exact⟨k,e,om,om⟩
    ·obtain⟨k,e,p,q⟩:=c2 y hy;exact⟨k,e,om,q⟩
 | .lt x a b,ρ,n=>by
  have h0:=oG cx ai n
  have h1:=jz ai a ρ (bK cx ai n+1)
  have h2:=jz ai b (ρ++[(x,dj cx (bK cx ai n))]) (ck ai a ρ (bK cx ai n+1)).2
  obtain⟨a1,a2⟩:=wq ai a ρ (bK cx ai n+1)
  obtain⟨b1,b2⟩:=wq ai b (ρ++[(x,dj cx (bK cx ai n))]) (ck ai a ρ (bK cx ai n+1)).2
  simp only[ck,fQ]
  refine⟨List.nodup_cons.2 ⟨λhx=>?_,List.nodup_append.2 ⟨a1,b1,λx hx y hy e=>?_⟩⟩,λy hy=>?_⟩
  ·rcases mA.1 hx with hx|hx
   ·obtain⟨k,e,p,q⟩:=a2 _ hx;have:=pK e;omega
   ·obtain⟨k,e,p,q⟩:=b2 _ hx;have:=pK e;omega
  ·obtain⟨k,rfl,_,hk⟩:=a2 x hx
   obtain⟨j,rfl,hj,_⟩:=b2 y hy
   have:=pK e;omega
  ·rcases mC.1 hy with rfl|hy
   ·exact⟨_,rfl,om,om⟩
   ·rcases mA.1 hy with hy|hy
    ·obtain⟨k,e,p,q⟩:=a2 y hy;exact⟨k,e,om,om⟩
    ·obtain⟨k,e,p,q⟩:=b2 y hy;exact⟨k,e,om,q⟩
 | .fn f x A B e,ρ,n=>by
  have h0:=oG cx ai n
  have h1:=oG cx ai (bK cx ai n+1)
  have h2:=jz ai e (ρ++[(f,dj cx (bK cx ai n)),(x,dj cx (bK cx ai (bK cx ai n+1)))]) (bK cx ai (bK cx ai n+1)+1)
  obtain⟨a1,a2⟩:=wq ai e (ρ++[(f,dj cx (bK cx ai n)),(x,dj cx (bK cx ai (bK cx ai n+1)))]) (bK cx ai (bK cx ai n+1)+1)
  simp only[ck,fQ]
  refine⟨List.nodup_cons.2 ⟨λhx=>?_,List.nodup_cons.2 ⟨λhx=>?_,a1⟩⟩,λy hy=>?_⟩
  ·rcases mC.1 hx with hx|hx
   ·have:=pK hx;omega
   ·obtain⟨k,e,p,q⟩:=a2 _ hx;have:=pK e;omega
  ·obtain⟨k,e,p,q⟩:=a2 _ hx;have:=pK e;omega
  ·rcases mC.1 hy with rfl|hy
   ·exact⟨_,rfl,om,om⟩
   ·rcases mC.1 hy with rfl|hy
    ·exact⟨_,rfl,om,om⟩
    ·obtain⟨k,e,p,q⟩:=a2 y hy;exact⟨k,e,om,q⟩
theorem pL:∀{e:Ex} {Γ:Sc} {T:Ty},bM e Γ=some T->Fv s e->(look Γ s).isSome=true
 | .at x,Γ,T,h,hs=>by
  obtain⟨rfl,hn⟩:=hs
  unfold bM at h;rw[iP hn] at h;rw[h];rfl
 | .un hd a,Γ,T,h,hs=>by
  unfold bM at h
  cases ha:bM a Γ with
  |none=>rw[ha] at h;cases h
  |some A=>exact pL ha hs
 | .bi hd a b,Γ,T,h,hs=>by
  unfold bM at h
  cases ha:bM a Γ with
  |none=>rw[ha] at h;cases h
  |some A=>
   cases hb:bM b Γ with
   |none=>rw[ha,hb] at h;cases h
   |some B=>exact hs.elim (pL ha) (pL hb)
 | .ite a b c,Γ,T,h,hs=>by
  unfold bM at h
  cases ha:bM a Γ with
  |none=>rw[ha] at h;cases h
  |some A=>
   cases hb:bM b Γ with
   |none=>rw[ha,hb] at h;cases h
   |some B=>
    cases hc:bM c Γ with
    |none=>rw[ha,hb,hc] at h;cases h
    |some C=>exact hs.elim (pL ha) λhs=>hs.elim (pL hb) (pL hc)
 | .lt x a b,Γ,T,h,hs=>by
  unfold bM at h
  cases ha:bM a Γ with
  |none=>rw[ha] at h;cases h
  |some A=>
   rw[ha,Option.bind_some] at h
   rcases hs with hs|⟨eN,hs⟩
   ·exact pL ha hs
   ·have:=pL h hs
    rw[mX,iN (λe=>eN e.symm)] at this;exact this
 | .fn f x A B e,Γ,T,h,hs=>by
  unfold bM at h
  split at h
  ·cases he:bM e (Γ++[(f,.op true A B),(x,A)]) with
   |none=>rw[he] at h;cases h
   |some C=>
    obtain⟨h1,h2,h3⟩:=hs
    have:=pL he h3
    rw[Aa,iN (λe=>h2 e.symm),iN (λe=>h1 e.symm)] at this;exact this
  ·cases h
abbrev Bs:=List (aj×Ex)
abbrev cy:UInt8:=121
def nest (bs:Bs) (e:Ex):Ex:=bs.foldr (λp e=>.lt p.1 p.2 e) e
def dW (ai:List aj) (r:Bs×Ex×Nat):Bs×Ex×Nat:=
 if r.2.1.jk=true then r else(r.1++[(dj cy (bK cy ai r.2.2),r.2.1)],.at (dj cy (bK cy ai r.2.2)),bK cy ai r.2.2+1)
def bw (ai:List aj):Ex->Nat->Bs×Ex×Nat
 | .at s,n=>([],.at s,n)
 | .un h a,n=>((dW ai (bw ai a n)).1,.un h (dW ai (bw ai a n)).2.1,(dW ai (bw ai a n)).2.2)
 | .bi h a b,n=>((dW ai (bw ai a n)).1++(dW ai (bw ai b (dW ai (bw ai a n)).2.2)).1,.bi h (dW ai (bw ai a n)).2.1 (dW ai (bw ai b (dW ai (bw ai a n)).2.2)).2.1,(dW ai (bw ai b (dW ai (bw ai a n)).2.2)).2.2)
 | .ite a b c,n=>((dW ai (bw ai a n)).1,.ite (dW ai (bw ai a n)).2.1 (nest (bw ai b (dW ai (bw ai a n)).2.2).1 (bw ai b (dW ai (bw ai a n)).2.2).2.1)
   (nest (bw ai c (bw ai b (dW ai (bw ai a n)).2.2).2.2).1 (bw ai c (bw ai b (dW ai (bw ai a n)).2.2).2.2).2.1),(bw ai c (bw ai b (dW ai (bw ai a n)).2.2).2.2).2.2)
 | .lt x a b,n=>((bw ai a n).1++(x,(bw ai a n).2.1)::(bw ai b (bw ai a n).2.2).1,(bw ai b (bw ai a n).2.2).2.1,(bw ai b (bw ai a n).2.2).2.2)
 | .fn f x A B e,n=>([],.fn f x A B (nest (bw ai e n).1 (bw ai e n).2.1),(bw ai e n).2.2)
def mY (ai:List aj) (e:Ex) (n:Nat):Ex:=nest (bw ai e n).1 (bw ai e n).2.1
/-! ### How many aX -/
theorem qt (ai:List aj) (r:Bs×Ex×Nat):r.2.2<=(dW ai r).2.2∧(dW ai r).2.2<=r.2.2+ai.length+2:=by
 unfold dW
 have:=oG cy ai r.2.2
 split
 ·omega
 ·dsimp only;omega
theorem iQ (ai:List aj):∀(e:Ex) (n:Nat),n<=(bw ai e n).2.2∧(bw ai e n).2.2+2*(ai.length+2)<=n+e.n*(2*(ai.length+2))
 | .at s,n=>⟨lR _,by simp only[bw,Ex.n];omega⟩
 | .un h a,n=>by
  have:=iQ ai a n
  have:=qt ai (bw ai a n)
  simp only[bw,Ex.n,Nat.add_mul];omega
 | .bi h a b,n=>by
  have:=iQ ai a n
  have:=qt ai (bw ai a n)
  have:=iQ ai b (dW ai (bw ai a n)).2.2
  have:=qt ai (bw ai b (dW ai (bw ai a n)).2.2)
  simp only[bw,Ex.n,Nat.add_mul];omega
 | .ite a b c,n=>by
  have:=iQ ai a n
  have:=qt ai (bw ai a n)
  have:=iQ ai b (dW ai (bw ai a n)).2.2
  have:=iQ ai c (bw ai b (dW ai (bw ai a n)).2.2).2.2
  simp only[bw,Ex.n,Nat.add_mul];omega
 | .lt x a b,n=>by
  have:=iQ ai a n
  have:=iQ ai b (bw ai a n).2.2
  simp only[bw,Ex.n,Nat.add_mul];omega
 | .fn f x A B e,n=>by
  have:=iQ ai e n
  simp only[bw,Ex.n,Nat.add_mul];omega
/-! ### Types -/
def rf:Bs->Sc->Option Sc
 |[],Γ=>some Γ
 |(x,s)::bs,Γ=>(bM s Γ).bind λT=>rf bs (Γ++[(x,T)])
theorem Ia (bs:Bs) (e:Ex) (Γ:Sc):bM (nest bs e) Γ=(rf bs Γ).bind (bM e):=by
 induction bs generalizing Γ with
 |nil=>rfl
 |cons p bs ih=>
  obtain⟨x,s⟩:=p
  show(bM s Γ).bind (λA=>bM (nest bs e) (Γ++[(x,A)]))=((bM s Γ).bind λT=>rf bs (Γ++[(x,T)])).bind (bM e)
  cases bM s Γ with
  |none=>rfl
  |some T=>exact ih _
theorem LH (bs cs:Bs) (Γ:Sc):rf (bs++cs) Γ=(rf bs Γ).bind (rf cs):=by
 induction bs generalizing Γ with
 |nil=>rfl
 |cons p bs ih=>
  obtain⟨x,s⟩:=p
  show(bM s Γ).bind (λT=>rf (bs++cs) (Γ++[(x,T)]))=((bM s Γ).bind λT=>rf bs (Γ++[(x,T)])).bind (rf cs)
  cases bM s Γ with
  |none=>rfl
  |some T=>exact ih _
def LI (Δ:Sc) (s:aj):Prop:=∀p,p∈Δ->p.1≠s
theorem Fo {Γ Δ:Sc} (h:LI Δ s):look (Γ++Δ) s=look Γ s:=by
 induction Δ generalizing Γ with
 |nil=>simp
 |cons p Δ ih=>
  obtain⟨x,T⟩:=p
  rw[show Γ++(x,T)::Δ=(Γ++[(x,T)])++Δ from by simp,ih λq hq=>h q (by simp[hq]),mX,iN (h (x,T) sm)]
def sq (ai:List aj) (e:Ex) (n m:Nat) (y:aj):Prop:=y∈fQ e∨∃k,y=dj cy k∧n<=k∧k<m∧y∉ai
structure Made (ai:List aj) (e:Ex) (n:Nat) (r:Bs×Ex×Nat) (Γ:Sc) (T:Ty) (Δ:Sc):Prop where
 binds:rf r.1 Γ=some (Γ++Δ)
 type:bM r.2.1 (Γ++Δ)=some T
 aX:∀p,p∈Δ->sq ai e n r.2.2 p.1
def Dt (ai:List aj) (e:Ex) (n:Nat) (r:Bs×Ex×Nat):Prop:=∀s,(Fv s r.2.1∨∃p,p∈r.1∧Fv s p.2)->Fv s e∨sq ai e n r.2.2 s
structure RM (ai:List aj) (e:Ex):Prop where
 nodup:(fQ e).Nodup
 nofree:∀x,x∈fQ e->¬Fv x e
 noted:∀x,x∈fQ e∨Fv x e->x∈ai
theorem sq.more {ai:List aj} {e e':Ex} {n n':Nat} {y:aj} (h:sq ai e n m y) (hb:∀x,x∈fQ e->x∈fQ e') (hn:n'<=n) (hm:m<=m'):sq ai e' n' m' y:=by
 rcases h with h|⟨k,e,p,q,r⟩
 ·exact .inl (hb y h)
 ·exact .inr ⟨k,e,om,om,r⟩
theorem Dt.az {ai:List aj} {e:Ex} {n:Nat} {r:Bs×Ex×Nat} (h:Dt ai e n r) (hn:n<=r.2.2):Dt ai e n (dW ai r):=by
 unfold dW
 have hf:=oG cy ai r.2.2
 have wu:=H8 cy ai r.2.2
 split
 ·exact h
 ·intro s hs
  have up:∀{s},Fv s e∨sq ai e n r.2.2 s->Fv s e∨sq ai e n (bK cy ai r.2.2+1) s:=λhh=>hh.imp id λhh=>hh.more (λx hx=>hx) (lR _) om
  rcases hs with⟨rfl,_⟩|⟨p,hp,hs⟩
  ·exact .inr (.inr ⟨_,rfl,om,by dsimp only;omega,wu⟩)
  ·rcases mA.1 hp with hp|hp
   ·exact up (h s (.inr ⟨p,hp,hs⟩))
   ·simp only[List.mem_singleton] at hp
    subst hp
    exact up (h s (.inl hs))
theorem Ib:∀(bs:Bs) (e:Ex) (s:aj),Fv s (nest bs e)->Fv s e∨∃p,p∈bs∧Fv s p.2
 |[],e,s,h=>.inl h
 |p::bs,e,s,h=>by
  rcases h with h|⟨_,h⟩
  ·exact .inr ⟨p,sm,h⟩
  ·rcases Ib bs e s h with h|⟨q,hq,h⟩
   ·exact .inl h
   ·exact .inr ⟨q,by simp[hq],h⟩
theorem Dt.sub {ai:List aj} {e e':Ex} {n n':Nat} {r:Bs×Ex×Nat} (h:Dt ai e n r) (hf:∀s,Fv s e->Fv s e'∨s∈fQ e') (hb:∀x,x∈fQ e->x∈fQ e') (hn:n'<=n) (hm:r.2.2<=m') (hs:Fv s r.2.1∨∃p,p∈r.1∧Fv s p.2):Fv s e'∨sq ai e' n' m' s:=by
 rcases h s hs with h|h
 ·exact(hf s h).imp id .inl
 ·exact .inr (h.more hb hn hm)
theorem wv (ai:List aj):∀(e:Ex) (n:Nat),Dt ai e n (bw ai e n)
 | .at s,n=>λs hs=>hs.elim .inl fun⟨p,hp,_⟩=>by simp[bw] at hp
 | .un hd a,n=>λs hs=>((wv ai a n).az (iQ ai a n).1).sub (λs h=>.inl h) (λx h=>h) (lR _) (lR _) hs
 | .bi hd a b,n=>λs hs=>by
  have h1:=iQ ai a n
  have h2:=qt ai (bw ai a n)
  have h3:=iQ ai b (dW ai (bw ai a n)).2.2
  have h4:=qt ai (bw ai b (dW ai (bw ai a n)).2.2)
  have ha:=((wv ai a n).az h1.1).sub (e':=.bi hd a b) (n':=n) (m':=(bw ai (.bi hd a b) n).2.2) (λs h=>.inl (.inl h)) (λx h=>mA.2 (.inl h)) (lR _) (by simp only[bw];omega) (s:=s)
  have hb:=((wv ai b (dW ai (bw ai a n)).2.2).az h3.1).sub (e':=.bi hd a b) (n':=n) (m':=(bw ai (.bi hd a b) n).2.2) (λs h=>.inl (.inr h)) (λx h=>mA.2 (.inr h)) om (by simp only[bw];omega) (s:=s)
  rcases hs with(hs|hs)|⟨p,hp,hs⟩
  ·exact ha (.inl hs)
  ·exact hb (.inl hs)
  ·rcases mA.1 hp with hp|hp
   ·exact ha (.inr ⟨p,hp,hs⟩)
   ·exact hb (.inr ⟨p,hp,hs⟩)
 | .ite a b c,n=>λs hs=>by
  have h1:=iQ ai a n
  have h2:=qt ai (bw ai a n)
  have h3:=iQ ai b (dW ai (bw ai a n)).2.2
  have h4:=iQ ai c (bw ai b (dW ai (bw ai a n)).2.2).2.2
  have ha:=((wv ai a n).az h1.1).sub (e':=.ite a b c) (n':=n) (m':=(bw ai (.ite a b c) n).2.2) (λs h=>.inl (.inl h)) (λx h=>mA.2 (.inl h)) (lR _) (by simp only[bw];omega) (s:=s)
  have hb:=(wv ai b (dW ai (bw ai a n)).2.2).sub (e':=.ite a b c) (n':=n) (m':=(bw ai (.ite a b c) n).2.2) (λs h=>.inl (.inr (.inl h))) (λx h=>mA.2 (.inr (mA.2 (.inl h)))) om (by simp only[bw];omega) (s:=s)
  have hc:=(wv ai c (bw ai b (dW ai (bw ai a n)).2.2).2.2).sub (e':=.ite a b c) (n':=n) (m':=(bw ai (.ite a b c) n).2.2) (λs h=>.inl (.inr (.inr h))) (λx h=>mA.2 (.inr (mA.2 (.inr h)))) om (by simp only[bw];omega) (s:=s)
  rcases hs with(hs|hs|hs)|⟨p,hp,hs⟩
  ·exact ha (.inl hs)
  ·exact hb (Ib _ _ _ hs)
  ·exact hc (Ib _ _ _ hs)
  ·exact ha (.inr ⟨p,hp,hs⟩)
 | .lt x a b,n=>λs hs=>by
  have h1:=iQ ai a n
  have h3:=iQ ai b (bw ai a n).2.2
  have ha:=(wv ai a n).sub (e':=.lt x a b) (n':=n) (m':=(bw ai (.lt x a b) n).2.2) (λs h=>.inl (.inl h)) (λy h=>mK _ (mA.2 (.inl h))) (lR _) (by simp only[bw];omega) (s:=s)
  have hb:=(wv ai b (bw ai a n).2.2).sub (e':=.lt x a b) (n':=n) (m':=(bw ai (.lt x a b) n).2.2) (λs h=>by
   by_cases e:s=x
   ·exact .inr (by rw[e];exact List.mem_cons_self ..)
   ·exact .inl (.inr ⟨e,h⟩)) (λy h=>mK _ (mA.2 (.inr h))) om (by simp only[bw];omega) (s:=s)
  rcases hs with hs|⟨p,hp,hs⟩
  ·exact hb (.inl hs)
  ·rcases mA.1 hp with hp|hp
   ·exact ha (.inr ⟨p,hp,hs⟩)
   ·rcases mC.1 hp with rfl|hp
    ·exact ha (.inl hs)
    ·exact hb (.inr ⟨p,hp,hs⟩)
 | .fn f x A B e,n=>λs hs=>by
  rcases hs with⟨h1,h2,hs⟩|⟨p,hp,_⟩
  ·rcases wv ai e n s (Ib _ _ _ hs) with h|h
   ·exact .inl ⟨h1,h2,h⟩
   ·exact .inr (h.more (λy hy=>mK _ (mK _ hy)) (lR _) (lR _))
  ·simp[bw] at hp
theorem Made.az {ai:List aj} {e:Ex} {n:Nat} {r:Bs×Ex×Nat} {Γ:Sc} {T:Ty} {Δ:Sc} (h:Made ai e n r Γ T Δ) (hn:n<=r.2.2) (LJ:(dW ai r).2.2<=1000):∃Δ',Made ai e n (dW ai r) Γ T Δ':=by
 unfold dW at LJ⊢
 have hf:=oG cy ai r.2.2
 have wu:=H8 cy ai r.2.2
 split
 ·exact⟨Δ,h⟩
 ·rename_i fx
  rw[iN fx] at LJ
  have hk:eP (dj cy (bK cy ai r.2.2))=true:=Ac de (by dsimp only at LJ;omega)
  refine⟨Δ++[(dj cy (bK cy ai r.2.2),T)],⟨?_,?_,?_⟩⟩
  ·rw[LH,h.binds,Option.bind_some]
   show(bM r.2.1 (Γ++Δ)).bind _=_
   rw[h.type,Option.bind_some,List.append_assoc];rfl
  ·show(if eP (dj cy (bK cy ai r.2.2))=true then look (Γ++(Δ++[(dj cy (bK cy ai r.2.2),T)])) (dj cy (bK cy ai r.2.2)) else some Ty.i)=some T
   rw[iP hk,<-List.append_assoc,mX,iP rfl]
  ·intro p hp
   rcases mA.1 hp with hp|hp
   ·exact(h.aX p hp).more (λx hx=>hx) (lR _) (by dsimp only;omega)
   ·simp only[List.mem_singleton] at hp
    subst hp
    exact .inr ⟨_,rfl,om,by dsimp only;omega,wu⟩
theorem Ic {ai:List aj} {a:Ex} {n:Nat} {Δ:Sc} (h:∀p,p∈Δ->sq ai a n m p.1) (h1:s∉fQ a) (h2:s∈ai):LI Δ s:=λp hp e=>by
 rcases h p hp with h|⟨k,_,_,_,hr⟩
 ·exact h1 (e▸h)
 ·exact hr (e▸h2)
theorem acg {ai:List aj} {a b:Ex} {n:Nat} {Δ:Sc} (hs:Fv s a∨sq ai a n m s) (h:∀p,p∈Δ->sq ai b m m' p.1) (h1:∀x,x∈fQ b->¬Fv x a) (h2:∀x,x∈fQ b->x∉fQ a) (h3:∀x,x∈fQ b->x∈ai) (h4:∀x,x∈fQ a∨Fv x a->x∈ai):LI Δ s:=λp hp e=>by
 rcases h p hp with hb|⟨k,ek,hk,_,hr⟩
 ·rw[e] at hb
  rcases hs with hs|hs|⟨j,ej,_,_,hj⟩
  ·exact h1 s hb hs
  ·exact h2 s hb hs
  ·exact hj (h3 s hb)
 ·rcases hs with hs|hs|⟨j,ej,_,zu,_⟩
  ·exact hr (e▸h4 s (.inr hs))
  ·exact hr (e▸h4 s (.inl hs))
  ·rw[e,ej] at ek
   have:=pK ek;omega
theorem made (ai:List aj):∀(e:Ex) (n:Nat) (Γ:Sc) (T:Ty),RM ai e->(bw ai e n).2.2<=1000->bM e Γ=some T->∃Δ,Made ai e n (bw ai e n) Γ T Δ
 | .at s,n,Γ,T,hu,hm,h=>⟨[],⟨by simp[bw,rf],by simpa[bw] using h,sm⟩⟩
 | .un hd a,n,Γ,T,hu,hm,h=>by
  have h1:=iQ ai a n
  have h2:=qt ai (bw ai a n)
  simp only[bw] at hm
  unfold bM at h
  cases ha:bM a Γ with
  |none=>rw[ha] at h;cases h
  |some A=>
   rw[ha,Option.bind_some] at h
   obtain⟨Δ,hΔ⟩:=made ai a n Γ A ⟨hu.nodup,hu.nofree,hu.noted⟩ om ha
   obtain⟨Δ',hΔ'⟩:=hΔ.az h1.1 hm
   refine⟨Δ',⟨hΔ'.binds,?_,hΔ'.aX⟩⟩
   show(bM (dW ai (bw ai a n)).2.1 (Γ++Δ')).bind (λA=>la hd [A])=some T
   rw[hΔ'.type,Option.bind_some];exact h
 | .bi hd a b,n,Γ,T,hu,hm,h=>by
  have h1:=iQ ai a n
  have h2:=qt ai (bw ai a n)
  have h3:=iQ ai b (dW ai (bw ai a n)).2.2
  have h4:=qt ai (bw ai b (dW ai (bw ai a n)).2.2)
  have o6:=(wv ai a n).az h1.1
  simp only[bw] at hm
  unfold bM at h
  cases ha:bM a Γ with
  |none=>rw[ha] at h;cases h
  |some A=>
   cases hb:bM b Γ with
   |none=>rw[ha,hb] at h;cases h
   |some B=>
    rw[ha,hb,Option.bind_some,Option.bind_some] at h
    have jy:=List.nodup_append.1 hu.nodup
    obtain⟨Δ1,hΔ1⟩:=made ai a n Γ A ⟨jy.1,λx hx hf=>hu.nofree x (mA.2 (.inl hx)) (.inl hf),λx hx=>hu.noted x (hx.imp (λh=>mA.2 (.inl h)) .inl)⟩ om ha
    obtain⟨Δ1',hΔ1'⟩:=hΔ1.az h1.1 om
    have gW:bM b (Γ++Δ1')=some B:=by
     rw[<-hb]
     refine qq b _ _ λs hn hs=>Fo (Ic hΔ1'.aX (λhx=>hu.nofree s (mA.2 (.inl hx)) (.inr hs)) (hu.noted s (.inr (.inr hs))))
    obtain⟨Δ2,hΔ2⟩:=made ai b (dW ai (bw ai a n)).2.2 (Γ++Δ1') B ⟨jy.2.1,λx hx hf=>hu.nofree x (mA.2 (.inr hx)) (.inr hf),λx hx=>hu.noted x (hx.imp (λh=>mA.2 (.inr h)) .inr)⟩ om gW
    obtain⟨Δ2',hΔ2'⟩:=hΔ2.az h3.1 hm
    refine⟨Δ1'++Δ2',⟨?_,?_,?_⟩⟩
    ·show rf (_++_) Γ=_
     rw[LH,hΔ1'.binds,Option.bind_some,hΔ2'.binds,List.append_assoc]
    ·show(bM (dW ai (bw ai a n)).2.1 (Γ++(Δ1'++Δ2'))).bind (λA=>(bM (dW ai (bw ai b (dW ai (bw ai a n)).2.2)).2.1 (Γ++(Δ1'++Δ2'))).bind λB=>la hd [A,B])=some T
     have e1:bM (dW ai (bw ai a n)).2.1 (Γ++(Δ1'++Δ2'))=some A:=by
      rw[<-hΔ1'.type,<-List.append_assoc]
      refine qq _ _ _ λs hn hs=>Fo (acg (o6 s (.inl hs)) hΔ2'.aX ?_ ?_ ?_ ?_)
      ·exact λx hx hf=>hu.nofree x (mA.2 (.inr hx)) (.inl hf)
      ·exact λx hx fF=>jy.2.2 x fF x hx rfl
      ·exact λx hx=>hu.noted x (.inl (mA.2 (.inr hx)))
      ·exact λx hx=>hu.noted x (hx.imp (λh=>mA.2 (.inl h)) .inl)
     rw[e1,Option.bind_some,<-List.append_assoc,hΔ2'.type,Option.bind_some];exact h
    ·intro p hp
     rcases mA.1 hp with hp|hp
     ·exact(hΔ1'.aX p hp).more (λx hx=>mA.2 (.inl hx)) (lR _) (by simp only[bw];omega)
     ·exact(hΔ2'.aX p hp).more (λx hx=>mA.2 (.inr hx)) om (by simp only[bw];omega)
 | .ite a b c,n,Γ,T,hu,hm,h=>by
  have h1:=iQ ai a n
  have h2:=qt ai (bw ai a n)
  have h3:=iQ ai b (dW ai (bw ai a n)).2.2
  have h4:=iQ ai c (bw ai b (dW ai (bw ai a n)).2.2).2.2
  simp only[bw] at hm
  unfold bM at h
  cases ha:bM a Γ with
  |none=>rw[ha] at h;cases h
  |some A=>
   cases hb:bM b Γ with
   |none=>rw[ha,hb] at h;cases h
   |some B=>
    cases hc:bM c Γ with
    |none=>rw[ha,hb,hc] at h;cases h
    |some C=>
     rw[ha,hb,hc,Option.bind_some,Option.bind_some,Option.bind_some] at h
     have jy:=List.nodup_append.1 hu.nodup
     have RO:=List.nodup_append.1 jy.2.1
     have inB:∀x,x∈fQ b->x∈fQ (.ite a b c):=λx hx=>mA.2 (.inr (mA.2 (.inl hx)))
     have inC:∀x,x∈fQ c->x∈fQ (.ite a b c):=λx hx=>mA.2 (.inr (mA.2 (.inr hx)))
     have inA:∀x,x∈fQ a->x∈fQ (.ite a b c):=λx hx=>mA.2 (.inl hx)
     obtain⟨Δ1,hΔ1⟩:=made ai a n Γ A ⟨jy.1,λx hx hf=>hu.nofree x (inA x hx) (.inl hf),λx hx=>hu.noted x (hx.imp (inA x) .inl)⟩ om ha
     obtain⟨Δ1',hΔ1'⟩:=hΔ1.az h1.1 om
     have gW:bM b (Γ++Δ1')=some B:=by
      rw[<-hb]
      refine qq b _ _ λs hn hs=>Fo (Ic hΔ1'.aX (λhx=>hu.nofree s (inA s hx) (.inr (.inl hs))) (hu.noted s (.inr (.inr (.inl hs)))))
     have pD:bM c (Γ++Δ1')=some C:=by
      rw[<-hc]
      refine qq c _ _ λs hn hs=>Fo (Ic hΔ1'.aX (λhx=>hu.nofree s (inA s hx) (.inr (.inr hs))) (hu.noted s (.inr (.inr (.inr hs)))))
     obtain⟨Δ2,hΔ2⟩:=made ai b (dW ai (bw ai a n)).2.2 (Γ++Δ1') B ⟨RO.1,λx hx hf=>hu.nofree x (inB x hx) (.inr (.inl hf)),λx hx=>hu.noted x (hx.imp (inB x) λh=>.inr (.inl h))⟩ om gW
     obtain⟨Δ3,hΔ3⟩:=made ai c (bw ai b (dW ai (bw ai a n)).2.2).2.2 (Γ++Δ1') C ⟨RO.2.1,λx hx hf=>hu.nofree x (inC x hx) (.inr (.inr hf)),λx hx=>hu.noted x (hx.imp (inC x) λh=>.inr (.inr h))⟩ hm pD
     refine⟨Δ1',⟨hΔ1'.binds,?_,?_⟩⟩
     ·show(bM (dW ai (bw ai a n)).2.1 (Γ++Δ1')).bind (λA=>(bM (nest _ _) (Γ++Δ1')).bind λB=>(bM (nest _ _) (Γ++Δ1')).bind λC=>la cC [A,B,C])=some T
      rw[hΔ1'.type,Ia,Ia,hΔ2.binds,hΔ3.binds,Option.bind_some,Option.bind_some,Option.bind_some,hΔ2.type,hΔ3.type,Option.bind_some,Option.bind_some];exact h
     ·exact λp hp=>(hΔ1'.aX p hp).more inA (lR _) (by simp only[bw];omega)
 | .lt x a b,n,Γ,T,hu,hm,h=>by
  have h1:=iQ ai a n
  have h3:=iQ ai b (bw ai a n).2.2
  simp only[bw] at hm
  unfold bM at h
  cases ha:bM a Γ with
  |none=>rw[ha] at h;cases h
  |some A=>
   rw[ha,Option.bind_some] at h
   have Fp:=List.nodup_cons.1 hu.nodup
   have jy:=List.nodup_append.1 Fp.2
   have inA:∀y,y∈fQ a->y∈fQ (.lt x a b):=λy hy=>mK _ (mA.2 (.inl hy))
   have inB:∀y,y∈fQ b->y∈fQ (.lt x a b):=λy hy=>mK _ (mA.2 (.inr hy))
   have RP:x∈fQ (.lt x a b):=List.mem_cons_self ..
   obtain⟨Δ1,hΔ1⟩:=made ai a n Γ A ⟨jy.1,λy hy hf=>hu.nofree y (inA y hy) (.inl hf),λy hy=>hu.noted y (hy.imp (inA y) .inl)⟩ om ha
   have gW:bM b (Γ++(Δ1++[(x,A)]))=some T:=by
    rw[<-h,<-List.append_assoc]
    refine qq b _ _ λs hn hs=>?_
    rw[mX,mX]
    by_cases e:x=s
    ·rw[iP e,iP e]
    ·rw[iN e,iN e]
     have zX:Fv s (.lt x a b):=.inr ⟨λe'=>e e'.symm,hs⟩
     exact Fo (Ic hΔ1.aX (λhx=>hu.nofree s (inA s hx) zX) (hu.noted s (.inr zX)))
   obtain⟨Δ2,hΔ2⟩:=made ai b (bw ai a n).2.2 (Γ++(Δ1++[(x,A)])) T ⟨jy.2.1,λy hy hf=>by
    by_cases e:y=x
    ·exact Fp.1 (e▸mA.2 (.inr hy))
    ·exact hu.nofree y (inB y hy) (.inr ⟨e,hf⟩),λy hy=>by
    by_cases e:y=x
    ·rw[e];exact hu.noted x (.inl RP)
    ·exact hu.noted y (hy.imp (inB y) λh=>.inr ⟨e,h⟩)⟩ hm gW
   refine⟨Δ1++(x,A)::Δ2,⟨?_,?_,?_⟩⟩
   ·show rf (_++(x,_)::_) Γ=_
    rw[LH,hΔ1.binds,Option.bind_some]
    show(bM (bw ai a n).2.1 (Γ++Δ1)).bind (λT=>rf _ ((Γ++Δ1)++[(x,T)]))=_
    rw[hΔ1.type,Option.bind_some,List.append_assoc,hΔ2.binds]
    simp
   ·show bM (bw ai b (bw ai a n).2.2).2.1 _=some T
    have:=hΔ2.type
    rw[show Γ++(Δ1++(x,A)::Δ2)=Γ++(Δ1++[(x,A)])++Δ2 from by simp];exact this
   ·intro p hp
    rcases mA.1 hp with hp|hp
    ·exact(hΔ1.aX p hp).more inA (lR _) (by simp only[bw];omega)
    ·rcases mC.1 hp with rfl|hp
     ·exact .inl RP
     ·exact(hΔ2.aX p hp).more inB om (by simp only[bw];omega)
 | .fn f x A B e,n,Γ,T,hu,hm,h=>by
  simp only[bw] at hm
  unfold bM at h
  split at h
  ·rename_i hc
   cases he:bM e (Γ++[(f,.op true A B),(x,A)]) with
   |none=>rw[he] at h;cases h
   |some C=>
    rw[he,Option.bind_some] at h
    have Fp:=List.nodup_cons.1 hu.nodup
    have jy:=List.nodup_cons.1 Fp.2
    have inE:∀y,y∈fQ e->y∈fQ (.fn f x A B e):=λy hy=>mK _ (mK _ hy)
    obtain⟨Δ1,hΔ1⟩:=made ai e n (Γ++[(f,.op true A B),(x,A)]) C ⟨jy.2,λy hy hf=>by
     by_cases e1:y=x
     ·exact jy.1 (e1▸hy)
     ·by_cases e2:y=f
      ·exact Fp.1 (e2▸mK _ hy)
      ·exact hu.nofree y (inE y hy) ⟨e2,e1,hf⟩,λy hy=>by
     by_cases e1:y=x
     ·rw[e1];exact hu.noted x (.inl (mK _ (List.mem_cons_self ..)))
     ·by_cases e2:y=f
      ·rw[e2];exact hu.noted f (.inl (List.mem_cons_self ..))
      ·exact hu.noted y (hy.imp (inE y) λh=>⟨e2,e1,h⟩)⟩ hm he
    refine⟨[],⟨by simp[bw,rf],?_,sm⟩⟩
    show(if 1+A.n+B.n<=16 then(bM (nest (bw ai e n).1 (bw ai e n).2.1) ((Γ++[])++[(f,.op true A B),(x,A)])).bind λC=>if k9 C B then some (.op true A B) else none else none)=some T
    rw[iP hc,List.append_nil,Ia,hΔ1.binds,Option.bind_some,hΔ1.type,Option.bind_some];exact h
  ·cases h
theorem ach {ai:List aj} {e:Ex} {n:Nat} {Γ:Sc} {T:Ty} (hu:RM ai e) (hm:(bw ai e n).2.2<=1000) (h:bM e Γ=some T):bM (mY ai e n) Γ=some T:=by
 obtain⟨Δ,hΔ⟩:=made ai e n Γ T hu hm h
 unfold mY
 rw[Ia,hΔ.binds,Option.bind_some,hΔ.type]
/-! ### Atoms of a form -/
mutual
def lF:aA->List aj->List aj
 | .mk a ps,l=>if a≠[] then(if a∈l then l else l++[a]) else o7 ps l
def o7:List aA->List aj->List aj
 |[],l=>l
 |t::ts,l=>o7 ts (lF t l)
end
theorem RQ (t:aA) (l:List aj):lF t l=if t.az≠[] then(if t.az∈l then l else l++[t.az]) else o7 t.au l:=by cases t with|mk a ps=>rw[lF];rfl
theorem RR:∀(xs ys:List aA) (l:List aj),o7 (xs++ys) l=o7 ys (o7 xs l)
 |[],ys,l=>rfl
 |x::xs,ys,l=>by simp only[List.cons_append,o7];exact RR xs ys _
theorem aci (h:ps[i]?=some p) (l:List aj):o7 (ps.take (i+1)) l=lF p (o7 (ps.take i) l):=by
 rw[List.take_add_one,h,RR];rfl
mutual
theorem acj {x:aj}:∀(t:aA) (l:List aj),x∈l->x∈lF t l
 | .mk a ps,l,h=>by
  unfold lF
  split
  ·split
   ·exact h
   ·exact mA.2 (.inl h)
  ·exact LK ps l h
theorem LK {x:aj}:∀(ps:List aA) (l:List aj),x∈l->x∈o7 ps l
 |[],l,h=>h
 |t::ts,l,h=>by unfold o7;exact LK ts _ (acj t l h)
end
mutual
theorem RS:∀(t:aA) (l:List aj),(lF t l).length<=l.length+fP t
 | .mk a ps,l=>by
  unfold lF fP
  split
  ·split
   ·omega
   ·simp
  ·exact LL ps l
theorem LL:∀(ps:List aA) (l:List aj),(o7 ps l).length<=l.length+jN ps
 |[],l=>by simp[o7,jN]
 |t::ts,l=>by
  have h1:=RS t l
  have h2:=LL ts (lF t l)
  unfold o7 jN;omega
end
theorem RT {x:aj}:∀{ps:List aA} {l:List aj} {p:aA},p∈ps->(∀l,x∈lF p l)->x∈o7 ps l
 |q::ps,l,p,hp,h=>by
  unfold o7
  rcases mC.1 hp with rfl|hp
  ·exact LK ps _ (h l)
  ·exact RT hp h
theorem Ig {x:aj} (hx:x≠[]) (l:List aj):x∈lF (cj x) l:=by
 unfold cj lF
 rw[iP hx]
 split
 ·assumption
 ·exact mA.2 (.inr (List.mem_singleton.2 rfl))
theorem tF {x:aj} {p:aA} (hp:p∈ps) (h:∀l,x∈lF p l) (l:List aj):x∈lF (.mk [] ps) l:=by
 unfold lF
 rw[iN de]
 exact RT hp h
theorem wy {x:aj}:∀{e:Ex},e.ok->(x∈fQ e∨Fv x e)->∀l,x∈lF e.av l
 | .at s,h,hx,l=>by
  rcases hx with hx|⟨rfl,_⟩
  ·simp[fQ] at hx
  ·exact Ig (pJ h) l
 | .un hd a,h,hx,l=>tF (p:=a.av) sm (wy h.2 hx) l
 | .bi hd a b,h,hx,l=>by
  have ha:(x∈fQ a∨Fv x a)∨(x∈fQ b∨Fv x b):=by
   rcases hx with hx|hx
   ·rcases mA.1 hx with h|h
    ·exact .inl (.inl h)
    ·exact .inr (.inl h)
   ·rcases hx with h|h
    ·exact .inl (.inr h)
    ·exact .inr (.inr h)
  rcases ha with ha|hb
  ·exact tF (p:=a.av) sm (wy h.2.1 ha) l
  ·exact tF (p:=b.av) sm (wy h.2.2 hb) l
 | .ite a b c,h,hx,l=>by
  have ha:(x∈fQ a∨Fv x a)∨(x∈fQ b∨Fv x b)∨(x∈fQ c∨Fv x c):=by
   rcases hx with hx|hx
   ·rcases mA.1 hx with h|h
    ·exact .inl (.inl h)
    ·rcases mA.1 h with h|h
     ·exact .inr (.inl (.inl h))
     ·exact .inr (.inr (.inl h))
   ·rcases hx with h|h|h
    ·exact .inl (.inr h)
    ·exact .inr (.inl (.inr h))
    ·exact .inr (.inr (.inr h))
  rcases ha with ha|hb|hc
  ·exact tF (p:=a.av) sm (wy h.1 ha) l
  ·exact tF (p:=b.av) sm (wy h.2.1 hb) l
  ·exact tF (p:=c.av) sm (wy h.2.2 hc) l
 | .lt y a b,h,hx,l=>by
  have ha:x=y∨(x∈fQ a∨Fv x a)∨(x∈fQ b∨Fv x b):=by
   rcases hx with hx|hx
   ·rcases mC.1 hx with h|h
    ·exact .inl h
    ·rcases mA.1 h with h|h
     ·exact .inr (.inl (.inl h))
     ·exact .inr (.inr (.inl h))
   ·rcases hx with h|⟨_,h⟩
    ·exact .inr (.inl (.inr h))
    ·exact .inr (.inr (.inr h))
  rcases ha with rfl|ha|hb
  ·exact tF (p:=cj x) sm (λl=>Ig (uL h.1) l) l
  ·exact tF (p:=a.av) sm (wy h.2.1 ha) l
  ·exact tF (p:=b.av) sm (wy h.2.2 hb) l
 | .fn f y A B e,h,hx,l=>by
  obtain⟨hf,hy,_,_,_,he⟩:=h
  have ha:x=f∨x=y∨(x∈fQ e∨Fv x e):=by
   rcases hx with hx|hx
   ·rcases mC.1 hx with h|h
    ·exact .inl h
    ·rcases mC.1 h with h|h
     ·exact .inr (.inl h)
     ·exact .inr (.inr (.inl h))
   ·exact .inr (.inr (.inr hx.2.2))
  rcases ha with rfl|rfl|ha
  ·exact tF (p:=cj x) sm (λl=>Ig (uL hf) l) l
  ·exact tF (p:=cj x) sm (λl=>Ig (uL hy) l) l
  ·exact tF (p:=e.av) sm (wy he ha) l
/-! ### Expressions stay expressions -/
structure Ih (r:Bs×Ex×Nat):Prop where
 out:r.2.1.ok
 bs:∀p,p∈r.1->eP p.1=true∧p.2.ok
theorem Ih.az {ai:List aj} {r:Bs×Ex×Nat} (h:Ih r) (hm:(dW ai r).2.2<=1000):Ih (dW ai r):=by
 unfold dW at hm⊢
 split
 ·exact h
 ·rename_i fx
  rw[iN fx] at hm
  have hk:eP (dj cy (bK cy ai r.2.2))=true:=Ac de (by dsimp only at hm;omega)
  refine⟨?_,λp hp=>?_⟩
  ·show qo _=true
   unfold qo;rw[hk];simp
  ·rcases mA.1 hp with hp|hp
   ·exact h.bs p hp
   ·simp only[List.mem_singleton] at hp
    subst hp
    exact⟨hk,h.out⟩
theorem Fq:∀{bs:Bs} {e:Ex},(∀p,p∈bs->eP p.1=true∧p.2.ok)->e.ok->(nest bs e).ok
 |[],e,_,h=>h
 |p::bs,e,hb,h=>⟨(hb p sm).1,(hb p sm).2,Fq (λq hq=>hb q (by simp[hq])) h⟩
theorem wA (ai:List aj):∀(e:Ex) (n:Nat),e.ok->(bw ai e n).2.2<=1000->Ih (bw ai e n)
 | .at s,n,h,_=>⟨h,by simp[bw]⟩
 | .un hd a,n,h,hm=>by
  have h1:=iQ ai a n
  have h2:=qt ai (bw ai a n)
  simp only[bw] at hm
  have ha:=(wA ai a n h.2 om).az hm
  exact⟨⟨h.1,ha.out⟩,ha.bs⟩
 | .bi hd a b,n,h,hm=>by
  have h1:=iQ ai a n
  have h2:=qt ai (bw ai a n)
  have h3:=iQ ai b (dW ai (bw ai a n)).2.2
  have h4:=qt ai (bw ai b (dW ai (bw ai a n)).2.2)
  simp only[bw] at hm
  have ha:=(wA ai a n h.2.1 om).az (ai:=ai) om
  have hb:=(wA ai b (dW ai (bw ai a n)).2.2 h.2.2 om).az (ai:=ai) hm
  exact⟨⟨h.1,ha.out,hb.out⟩,λp hp=>(mA.1 hp).elim (ha.bs p) (hb.bs p)⟩
 | .ite a b c,n,h,hm=>by
  have h1:=iQ ai a n
  have h2:=qt ai (bw ai a n)
  have h3:=iQ ai b (dW ai (bw ai a n)).2.2
  have h4:=iQ ai c (bw ai b (dW ai (bw ai a n)).2.2).2.2
  simp only[bw] at hm
  have ha:=(wA ai a n h.1 om).az (ai:=ai) om
  have hb:=wA ai b (dW ai (bw ai a n)).2.2 h.2.1 om
  have hc:=wA ai c (bw ai b (dW ai (bw ai a n)).2.2).2.2 h.2.2 hm
  exact⟨⟨ha.out,Fq hb.bs hb.out,Fq hc.bs hc.out⟩,ha.bs⟩
 | .lt x a b,n,h,hm=>by
  have h1:=iQ ai a n
  have h3:=iQ ai b (bw ai a n).2.2
  simp only[bw] at hm
  have ha:=wA ai a n h.2.1 om
  have hb:=wA ai b (bw ai a n).2.2 h.2.2 hm
  refine⟨hb.out,λp hp=>?_⟩
  rcases mA.1 hp with hp|hp
  ·exact ha.bs p hp
  ·rcases mC.1 hp with rfl|hp
   ·exact⟨h.1,ha.out⟩
   ·exact hb.bs p hp
 | .fn f x A B e,n,h,hm=>by
  obtain⟨hf,hx,eN,hA,hB,he⟩:=h
  simp only[bw] at hm
  have ha:=wA ai e n he hm
  exact⟨⟨hf,hx,eN,hA,hB,Fq ha.bs ha.out⟩,by simp[bw]⟩
def pM (bs:Bs):Nat:=(bs.map λp=>2+p.2.n).sum
theorem LM (a b:Bs):pM (a++b)=pM a+pM b:=by unfold pM;rw[List.map_append,List.sum_append]
theorem Ii (p:aj×Ex) (b:Bs):pM (p::b)=2+p.2.n+pM b:=by simp[pM]
theorem LN (bs:Bs) (e:Ex):(nest bs e).n=pM bs+e.n:=by
 induction bs with
 |nil=>simp[nest,pM]
 |cons p bs ih=>
  show(Ex.lt p.1 p.2 (nest bs e)).n=_
  rw[Ii];simp only[Ex.n,ih];omega
theorem Ij (ai:List aj) (r:Bs×Ex×Nat):pM (dW ai r).1+(dW ai r).2.1.n<=pM r.1+r.2.1.n+3:=by
 unfold dW
 split
 ·omega
 ·dsimp only;rw[LM,Ii];simp[pM,Ex.n];omega
theorem uN (ai:List aj):∀(e:Ex) (n:Nat),pM (bw ai e n).1+(bw ai e n).2.1.n+3<=4*e.n
 | .at s,n=>by simp[bw,pM,Ex.n]
 | .un hd a,n=>by
  have:=uN ai a n
  have:=Ij ai (bw ai a n)
  simp only[bw,Ex.n];omega
 | .bi hd a b,n=>by
  have:=uN ai a n
  have:=Ij ai (bw ai a n)
  have:=uN ai b (dW ai (bw ai a n)).2.2
  have:=Ij ai (bw ai b (dW ai (bw ai a n)).2.2)
  simp only[bw,Ex.n,LM];omega
 | .ite a b c,n=>by
  have:=uN ai a n
  have:=Ij ai (bw ai a n)
  have:=uN ai b (dW ai (bw ai a n)).2.2
  have:=uN ai c (bw ai b (dW ai (bw ai a n)).2.2).2.2
  simp only[bw,Ex.n,LN];omega
 | .lt x a b,n=>by
  have:=uN ai a n
  have:=uN ai b (bw ai a n).2.2
  simp only[bw,Ex.n,LM,Ii];omega
 | .fn f x A B e,n=>by
  have:=uN ai e n
  simp only[bw,Ex.n,LN]
  rw[show pM ([]:Bs)=0 from rfl];omega
/-! ### The normal form -/
def qu (e:Ex):Option Ex:=if(ck (cF e [] []) e [] 0).2<=100 then some (ck (cF e [] []) e [] 0).1 else none
def nU (e:Ex):Option Ex:=(qu e).bind λp=>if(bw (lF p.av []) p 0).2.2<=100 then some (mY (lF p.av []) p 0) else none
theorem LO {e p:Ex} (h:e.ok) (hp:qu e=some p):p.ok:=by
 unfold qu at hp
 split at hp
 ·cases hp
  exact wm _ e [] 0 h om λs hn _=>hn
 ·cases hp
theorem LQ {e q:Ex} (h:e.ok) (hq:nU e=some q):q.ok:=by
 unfold nU at hq
 cases hp:qu e with
 |none=>rw[hp] at hq;cases hq
 |some p=>
  rw[hp,Option.bind_some] at hq
  split at hq
  ·cases hq
   have:=wA (lF p.av []) p 0 (LO h hp) om
   exact Fq this.bs this.out
  ·cases hq
theorem RU {e q:Ex} {T:Ty} (h:e.ok) (ht:bM e []=some T) (hq:nU e=some q):bM q []=some T:=by
 unfold nU at hq
 cases hp:qu e with
 |none=>rw[hp] at hq;cases hq
 |some p=>
  have Dh:=LO h hp
  rw[hp,Option.bind_some] at hq
  split at hq
  ·rename_i hm
   cases hq
   unfold qu at hp
   split at hp
   ·rename_i rO
    cases hp
    have noFv:∀s,¬Fv s e:=λs hs=>by have:=pL ht hs;simp[look] at this
    have RV:bM (ck (cF e [] []) e [] 0).1 []=some T:=by
     rw[<-ht]
     exact wo _ e [] 0 [] [] om λs _ hs=>absurd hs (noFv s)
    have noFp:∀s,¬Fv s (ck (cF e [] []) e [] 0).1:=λs hs=>by have:=pL RV hs;simp[look] at this
    refine ach ⟨(wq _ e [] 0).1,λx _=>noFp x,λx hx=>wy Dh hx []⟩ om RV
   ·cases hp
  ·cases hq
/-! ### Target types -/
def Ad (x:aA):aA:=.mk [] [cj [101],.mk [] [cj [116],.mk [] [cj [99],cj [118],x],cj [118]]]
def pN:Ty->aA
 | .i=>cj [105]
 | .op false a b=>.mk [] [cj [116],pN a,pN b]
 | .op true a b=>.mk [] [cj [101],.mk [] [cj [116],.mk [] [cj [99],cj [118],pN a,Ad (pN b)],cj [118]]]
def bL (t:Ty):aj:=(pN t).text
def dX (s:aj):aj:=[40,101,32,40,116,32,40,99,32,118,32]++s++[41,32,118,41,41]
theorem tG (c:UInt8) (h:fB c=true):Good (cj [c]):=.az _ sm (by simp[h])
theorem RW {x:aA} (h:Good x):Good (Ad x):=by
 refine .list _ sm λp hp=>?_
 simp only[mC,List.not_mem_nil,or_false] at hp
 rcases hp with rfl|rfl
 ·exact tG _ de
 ·refine .list _ sm λp hp=>?_
  simp only[mC,List.not_mem_nil,or_false] at hp
  rcases hp with rfl|rfl|rfl
  ·exact tG _ de
  ·refine .list _ sm λp hp=>?_
   simp only[mC,List.not_mem_nil,or_false] at hp
   rcases hp with rfl|rfl|rfl
   ·exact tG _ de
   ·exact tG _ de
   ·exact h
  ·exact tG _ de
theorem RX (x:aA):(Ad x).text=dX x.text:=by
 have a1:∀c:UInt8,(cj [c]).text=[c]:=λc=>sy sm
 unfold Ad dX
 rw[qW,l3,pH,a1,qW,l3,l3,pH,a1,a1,qW,l3,l3,pH,a1,a1]
 simp
theorem LR (s:aj):(dX s).length=s.length+16:=by simp[dX]
theorem RY (x:aA):(Ad x).depth=max 3 (x.depth+3):=by
 have a0:∀c:UInt8,(cj [c]).depth=0:=λc=>rfl
 unfold Ad
 simp only[aA.depth,aA.depth.deeps,cj];omega
theorem Du:∀t:Ty,Good (pN t)
 | .i=>tG _ de
 | .op false a b=>by
  refine .list _ sm λp hp=>?_
  simp only[mC,List.not_mem_nil,or_false] at hp
  rcases hp with rfl|rfl|rfl
  ·exact tG _ de
  ·exact Du a
  ·exact Du b
 | .op true a b=>by
  refine .list _ sm λp hp=>?_
  simp only[mC,List.not_mem_nil,or_false] at hp
  rcases hp with rfl|rfl
  ·exact tG _ de
  ·refine .list _ sm λp hp=>?_
   simp only[mC,List.not_mem_nil,or_false] at hp
   rcases hp with rfl|rfl|rfl
   ·exact tG _ de
   ·refine .list _ sm λp hp=>?_
    simp only[mC,List.not_mem_nil,or_false] at hp
    rcases hp with rfl|rfl|rfl|rfl
    ·exact tG _ de
    ·exact tG _ de
    ·exact Du a
    ·exact RW (Du b)
   ·exact tG _ de
theorem RZ:bL .i=[105]:=sy sm
theorem R0 (a b:Ty):bL (.op false a b)=[40,116,32]++bL a++[32]++bL b++[41]:=by
 have a1:∀c:UInt8,(cj [c]).text=[c]:=λc=>sy sm
 show(aA.mk [] [cj [116],pN a,pN b]).text=_
 rw[qW,l3,l3,pH,a1]
 simp[bL]
theorem R1 (a b:Ty):bL (.op true a b)=[40,101,32,40,116,32,40,99,32,118,32]++bL a++[32]++dX (bL b)++[41,32,118,41,41]:=by
 have a1:∀c:UInt8,(cj [c]).text=[c]:=λc=>sy sm
 show(aA.mk [] [cj [101],.mk [] [cj [116],.mk [] [cj [99],cj [118],pN a,Ad (pN b)],cj [118]]]).text=_
 rw[qW,l3,pH,a1,qW,l3,l3,pH,a1,a1,qW,l3,l3,l3,pH,a1,a1,RX]
 simp[bL]
theorem BM:∀t:Ty,(bL t).length+16<=17*t.n
 | .i=>by rw[RZ];simp[Ty.n]
 | .op false a b=>by
  have:=BM a;have:=BM b
  rw[R0];simp only[lA,lC,List.length_nil,Ty.n];omega
 | .op true a b=>by
  have:=BM a;have:=BM b
  rw[R1];simp only[lA,lC,List.length_nil,Ty.n,LR];omega
theorem Dv:∀t:Ty,(pN t).depth+3<=3*t.n
 | .i=>by simp[pN,cj,aA.depth,aA.depth.deeps,Ty.n]
 | .op false a b=>by
  have:=Dv a;have:=Dv b
  have:=a.pos;have:=b.pos
  simp only[pN,aA.depth,aA.depth.deeps,cj,Ty.n];omega
 | .op true a b=>by
  have:=Dv a;have:=Dv b
  have:=a.pos;have:=b.pos
  have hn:=RY (pN b)
  simp only[pN,aA.depth,aA.depth.deeps,cj,Ty.n,hn];omega
/-! ### The maker's state -/
structure Tk where
 aP:aj
 regs:List aj
 loads:Nat
 self:List aj
 sc:List (aj×Nat×Ty)
 expr:Ex
 on:Nat
 bm:aj
 next:Nat
structure Mk where
 blocks:List Bk
 bW:List Tk
 count:Nat
 wide:Bool
 code:List aj
 types:List aj
abbrev da:=List (aj×Nat×Ty)
def fj (s:da):Sc:=s.map λp=>(p.1,p.2.2)
theorem Dw (s:da) (x:aj) (r:Nat) (T:Ty):fj (s++[(x,r,T)])=fj s++[(x,T)]:=by simp[fj]
def kT (s:da) (x:aj):Nat:=((s.reverse.find? λp=>decide (p.1=x)).map λp=>p.2.1).getD 0
def kE (s:da) (x:aj):Ty:=(look (fj s) x).getD .i
def Mk.dH (m:Mk) (kind:aj):Mk:={m with types:=m.types++[kind],wide:=m.wide||decide (40<m.types.length+1)}
def Mk.cY (m:Mk) (h:aj) (ps:List aj):Mk:={m with code:=m.code++[bP h ps]}
def Mk.lG (m:Mk):Mk:={m with count:=m.count+1}
def Mk.aP (m:Mk):aj:=98::bf m.count
abbrev Ik:aj:=[99,111,110,115,116]
abbrev l5:aj:=[110,101,119]
abbrev sD:aj:=[108,97,98]
abbrev sE:aj:=[112,97,99,107]
abbrev Ae:aj:=[111,112,101,110]
abbrev sF:aj:=[103,101,116]
abbrev nV:aj:=[109,111,118]
abbrev Af:aj:=[106,117,109,112]
abbrev Fs:aj:=[122,101,114,111]
abbrev BN:aj:=[109,97,105,110]
abbrev Ag:aj:=[101,110,100]
def Ex.az:Ex->aj
 | .at s=>s
 |_=>[]
theorem Ex.rh (e:Ex):e.av.az=e.az:=by cases e<;>rfl
def cG (m:Mk) (s:da) (a:aj):Mk×Nat:=if eP a then(m,kT s a) else((m.dH [105]).cY Ik [bf m.types.length,a],m.types.length)
structure Pk where
 m:Mk
 r:Nat
 w:aj
def o8 (m:Mk) (s:da) (ton:Nat) (aX:List aj) (on aP kind:aj) (cE:List aj):Pk:=
 let regs:=aX.map (λx=>bf (kT s x))++(if on≠[] then[bf ton] else[])
 let tys:=aX.map (λx=>bL (kE s x))++(if on≠[] then[on] else[])
 let w:=bP [116] tys
 let r:=m.types.length
 let code:=bP [99] (w::cE)
 ⟨(((((((m.dH w).cY l5 (bf r::regs)).dH code).cY sD [bf (r+1),aP]).dH (bP [116] [code,w])).cY l5 [bf (r+2),bf (r+1),bf r]).dH kind).cY sE [bf (r+3),bf (r+2),kind,w],r+3,w⟩
def iT (s:da) (k:Nat) (aX:List aj) (from_:da):da:=from_++(aX.zipIdx).map λp=>(p.1,k+p.2,kE s p.1)
def oH (m:Mk) (s:da) (f x:aj) (A B:Ty) (e:Ex):Pk:=o8 m.lG s 0 (cF (.fn f x A B e) [] []) [] m.aP (bL (.op true A B)) [bL A,dX (bL B)]
def Ah (s:da) (f x:aj) (A B:Ty) (e:Ex):da:=
 (if 0<im f e then iT s 3 (cF (.fn f x A B e) [] []) []++[(f,3+(cF (.fn f x A B e) [] []).length+2,.op true A B)] else iT s 3 (cF (.fn f x A B e) [] []) [])++[(x,1,A)]
def Ai (m:Mk) (s:da) (f x:aj) (A B:Ty) (e:Ex):Tk:=
 ⟨m.aP,[(oH m s f x A B e).w,bL A,dX (bL B)],(cF (.fn f x A B e) [] []).length,if 0<im f e then[bL (.op true A B),(oH m s f x A B e).w] else[],Ah s f x A B e,e,2,dX (bL B),3⟩
def Aj (m:Mk) (s:da) (f x:aj) (A B:Ty) (e:Ex):Mk×Nat:=
 ({(oH m s f x A B e).m with bW:=(oH m s f x A B e).m.bW++[Ai m s f x A B e]},(oH m s f x A B e).r)
def qv (h:aj):aj:=if h=[43] then[97,100,100] else if h=[45] then[115,117,98] else if h=[42] then[109,117,108] else l5
def mZ (m:Mk) (s:da) (kind:Ty):Ex->Mk×Nat
 | .at a=>cG m s a
 | .fn f x A B e=>Aj m s f x A B e
 | .un h a=>
  let p:=cG m s a.az
  ((p.1.dH (bL kind)).cY sF [bf p.1.types.length,bf p.2,if h=qZ then[49] else[48]],p.1.types.length)
 | .bi h a b=>
  let p:=cG m s a.az
  let q:=cG p.1 s b.az
  ((q.1.dH (bL kind)).cY (qv h) [bf q.1.types.length,bf p.2,bf q.2],q.1.types.length)
 | .ite a b _=>
  let p:=cG m s a.az
  let q:=cG p.1 s b.az
  ((q.1.dH (bL kind)).cY (qv cC) [bf q.1.types.length,bf p.2,bf q.2],q.1.types.length)
 | .lt x a _=>
  let p:=cG m s x
  let q:=cG p.1 s a.az
  ((q.1.dH (bL kind)).cY (qv gQ) [bf q.1.types.length,bf p.2,bf q.2],q.1.types.length)
def oI (m:Mk) (s:da) (ton:Nat) (bm name:aj) (kind:Ty) (rest:Ex):Pk:=o8 m.lG s ton (cF rest [name] []) bm m.aP (dX (bL kind)) [bL kind]
def Il (m:Mk) (s:da) (ton:Nat) (bm name:aj) (kind:Ty) (rest:Ex):Tk:=
 ⟨m.aP,[(oI m s ton bm name kind rest).w,bL kind],(cF rest [name] []).length+1,[],iT s 2 (cF rest [name] []) []++[(name,1,kind)],rest,2+(cF rest [name] []).length,bm,2⟩
def tH (m:Mk) (s:da) (ton:Nat) (bm name:aj) (kind:Ty) (rest:Ex):Mk×Nat×aj:=
 ({(oI m s ton bm name kind rest).m with bW:=(oI m s ton bm name kind rest).m.bW++[Il m s ton bm name kind rest]},(oI m s ton bm name kind rest).r,dX (bL kind))
def sG (m:Mk) (s:Nat):Mk:=
 let r:=m.types.length
 (((((m.dH []).cY Ae [bf r,bf s]).dH []).cY sF [bf (r+1),bf r,[48]]).dH []).cY sF [bf (r+2),bf r,[49]]
def xW (m:Mk) (f x:Nat) (on:Nat):Mk:=
 let r:=m.types.length
 ((((sG m f).cY nV [[48],bf (r+2)]).cY nV [[49],bf x]).cY nV [[50],bf on]).cY Af [bf (r+1)]
def xX (m:Mk) (on r:Nat):Mk:=
 let q:=m.types.length
 (((sG m on).cY nV [[48],bf (q+2)]).cY nV [[49],bf r]).cY Af [bf (q+1)]
structure Goal where
 name:aj
 s:Ex
 rest:Ex
def bV:Ex->Goal
 | .lt x a b=>⟨x,a,b⟩
 |e=>⟨[],e,e⟩
def nW (s:da) (e:Ex):Ty:=(bM e (fj s)).getD .i
structure At where
 m:Mk
 s:da
 on:Nat
 bm:aj
def Im (a:At) (g:Goal):At:=
 if g.name≠[] then let c:=tH a.m a.s a.on a.bm g.name (nW a.s g.s) g.rest;⟨c.1,a.s,c.2.1,c.2.2⟩ else a
def kF (a:At) (e:Ex):Mk ⊕ At×Ex:=
 let g:=bV e
 match g.s with
 | .bi h f x=>
  if h=kD then
   let p:=cG a.m a.s f.az
   let q:=cG p.1 a.s x.az
   let b:=Im {a with m:=q.1} g
   .inl (xW b.m p.2 q.2 b.on)
  else
   let p:=mZ a.m a.s (nW a.s g.s) g.s
   if g.name=[] then .inl (xX p.1 a.on p.2) else .inr ({a with m:=p.1,s:=a.s++[(g.name,p.2,nW a.s g.s)]},g.rest)
 | .ite c x y=>
  let p:=cG a.m a.s c.az
  let b:=Im {a with m:=p.1} g
  let aP:=b.m.aP
  let m1:=b.m.lG.cY Fs [bf p.2,aP]
  let br:Tk:=⟨aP,m1.types,0,[],a.s,x,b.on,b.bm,m1.types.length⟩
  .inr ({b with m:={m1 with bW:=m1.bW++[br]}},y)
 |s=>
  let p:=mZ a.m a.s (nW a.s s) s
  if g.name=[] then .inl (xX p.1 a.on p.2) else .inr ({a with m:=p.1,s:=a.s++[(g.name,p.2,nW a.s s)]},g.rest)
structure Fr (L:List Nat) (w:World) (L':List Nat) (w':World):Prop where
 aO:ak L w w'
 mem:∀x,x∈L'->x∈L∨w.heap.size<=x
theorem Fr.refl (L:List Nat) (w:World):Fr L w L w:=⟨ak.refl L w,λx hx=>.inl hx⟩
theorem Fr.go {L2:List Nat} (h:Fr L w L1 w1) (k:Fr L1 w1 L2 w2):Fr L w L2 w2:=
 ⟨h.aO.since k.aO h.mem,λx hx=>by
  rcases k.mem x hx with h1|h1
  ·exact h.mem x h1
  ·have:=h.aO.size;right;omega⟩
theorem Fr.ext (h:Fr L w L1 w1) (k:ak [] w1 w2):Fr L w L1 w2:=⟨h.aO.trans k.any,h.mem⟩
theorem Fr.aL (h:Fr L w L1 w1) (k:ak G w1 w2) (hG:∀x,x∈G->x∈L1):Fr L w L1 w2:=⟨h.aO.since (k.mono hG) h.mem,h.mem⟩
theorem Fr.of (k:ak G w w') (hG:∀x,x∈G->x∈L):Fr L w L w':=⟨k.mono hG,λx hx=>.inl hx⟩
theorem Fr.to {L2:List Nat} (h:Fr L w L1 w1) (hL:∀x,x∈L2->x∈L1∨w.heap.size<=x):Fr L w L2 w1:=⟨h.aO,λx hx=>by
 rcases hL x hx with h1|h1
 ·exact h.mem x h1
 ·exact .inr h1⟩
theorem Fr.grow (h:Fr L w L1 w1):Fr L w (w1.heap.size::L1) w1:=h.to λx hx=>by
 rcases mC.1 hx with rfl|hx
 ·exact .inr h.aO.size
 ·exact .inl hx
theorem cD.go {c:C} (h:cD L w v c) (k:Fr L w L' w'):cD L' w' v c:=by
 have h1:cD (L++L') w v c:=h.fresh λx hx=>by
  rcases mA.1 hx with hx|hx
  ·exact .inl hx
  ·exact k.mem x hx
 exact(h1.aO (k.aO.mono λx hx=>List.mem_append_left _ hx)).weaken λx hx=>mR _ hx
theorem dQ.go {cs:List C} (h:dQ L w vs cs) (k:Fr L w L' w'):dQ L' w' vs cs:=dQ.of h.length λ_ _ _ hv hc=>(h.get hv hc).go k
theorem kB.go {cs:List C} (h:kB L w v cs) (k:Fr L w L' w'):kB L' w' v cs:=let⟨vs,e,h⟩:=h;⟨vs,e,h.go k⟩
theorem bS.go (h:bS L w v t) (k:Fr L w L' w'):bS L' w' v t:=kB.go h k
theorem fG.go {t:List aA} (h:fG L w v t) (k:Fr L w L' w'):fG L' w' v t:=cD.go h k
theorem bI.go (h:bI L w v xs) (k:Fr L w L' w'):bI L' w' v xs:=cD.go h k
theorem bI.fresh (h:bI L w v xs) (hL:∀x,x∈L'->x∈L∨w.heap.size<=x):bI L' w v xs:=cD.fresh h hL
theorem bS.fresh (h:bS L w v t) (hL:∀x,x∈L'->x∈L∨w.heap.size<=x):bS L' w v t:=kB.fresh h hL
structure ja (L:List Nat) (w:World) (b off:Nat) (vs:List Value):Prop where
 cells:iH w b off vs
 lt:b<w.heap.size
 out:b∉L
theorem ja.go (h:ja L w b off vs) (k:Fr L w L' w'):ja L' w' b off vs:=
 ⟨λj v hj=>(World.cell?_of_block (k.aO.block b h.lt h.out)).trans (h.cells j v hj),lL h.lt k.aO.size,λhx=>by
  rcases k.mem b hx with h1|h1
  ·exact h.out h1
  ·have:=h.lt;omega⟩
theorem ja.ext (h:ja L w b off vs) (k:ak [] w w'):ja L w' b off vs:=h.go (Fr.of k sm)
theorem ja.aL (h:ja L w b off vs) (k:ak G w w') (hG:∀x,x∈G->x∈L):ja L w' b off vs:=h.go (Fr.of k hG)
/-! ### Tasks -/
def tI (xs:List Nat):List (List C):=xs.map λx:Nat=>[.val (.int .i64 (x:Int))]
def xY (L:List Nat) (w:World) (v:Value) (xs:List Nat):Prop:=cD L w v (.sl 1 (tI xs))
theorem xY.ext {xs:List Nat} (h:xY L w v xs) (k:ak [] w w'):xY L w' v xs:=cD.ext h k
theorem xY.go {xs:List Nat} (h:xY L w v xs) (k:Fr L w L' w'):xY L' w' v xs:=cD.go h k
theorem ack {n:Nat} {xs:List Nat} (h:xY L w (.slice a n c) xs) (hi:xs[i]?=some x):
  ∃b off,a=some ⟨b,off,none⟩∧iH w b (off+i*1) [.int .i64 (x:Int)]:=by
 obtain⟨b,off,vs,ha,hb,hL,hl,hc,hr⟩:=ze h (show(tI xs)[i]?=some [.val (.int .i64 (x:Int))] by simp[tI,hi])
 match vs,hr with
 |[v],hr=>obtain⟨h1,_⟩:=hr;cases h1;exact⟨b,off,ha,hc⟩
 |[],hr=>exact hr.elim
 |_::_::_,hr=>exact hr.2.elim
def ka (s:da):List aj:=s.map λp=>p.1
def wB (s:da):List Nat:=s.map λp=>p.2.1
def o9 (s:da):List aj:=s.map λp=>p.2.2.text
theorem acm (s:da) (x:aj) (r:Nat) (T:Ty):ka (s++[(x,r,T)])=ka s++[x]:=by simp[ka]
theorem acn (s:da) (x:aj) (r:Nat) (T:Ty):wB (s++[(x,r,T)])=wB s++[r]:=by simp[wB]
theorem aco (s:da) (x:aj) (r:Nat) (T:Ty):o9 (s++[(x,r,T)])=o9 s++[T.text]:=by simp[o9]
def Tk.enc (t:Tk):List C:=
 [.val (str t.aP),.sl 1 (ji t.regs),.val (.int .i64 (t.loads:Int)),.sl 1 (ji t.self),.sl 1 (ji (ka t.sc)),.sl 1 (tI (wB t.sc)),.sl 1 (ji (o9 t.sc)),.val (str t.expr.av.az),.sl 2 (dG t.expr.av.au),.val (.int .i64 (t.on:Int)),.val (str t.bm),.val (.int .i64 (t.next:Int))]
structure oJ (L:List Nat) (w:World) (t:Tk) (v1 v3 v4 v5 v6 v8:Value):Prop where
 regs:bI L w v1 t.regs
 self:bI L w v3 t.self
 aX:bI L w v4 (ka t.sc)
 at_:xY L w v5 (wB t.sc)
 types:bI L w v6 (o9 t.sc)
 au:fG L w v8 t.expr.av.au
def pO (t:Tk) (v1 v3 v4 v5 v6 v8:Value):List Value:=
 [str t.aP,v1,.int .i64 (t.loads:Int),v3,v4,v5,v6,str t.expr.av.az,v8,.int .i64 (t.on:Int),str t.bm,.int .i64 (t.next:Int)]
theorem acp {t:Tk} (h:dQ L w vs t.enc):∃v1 v3 v4 v5 v6 v8,vs=pO t v1 v3 v4 v5 v6 v8∧oJ L w t v1 v3 v4 v5 v6 v8:=by
 have hl:=h.length
 unfold Tk.enc at h hl
 match vs,hl,h with
 |[u0,u1,u2,u3,u4,u5,u6,u7,u8,u9,u10,u11],_,h=>
  obtain⟨h0,h1,h2,h3,h4,h5,h6,h7,h8,h9,gI,km,_⟩:=h
  cases h0;cases h2;cases h7;cases h9;cases gI;cases km
  exact⟨u1,u3,u4,u5,u6,u8,rfl,h1,h3,h4,h5,h6,h8⟩
theorem oJ.BC {t:Tk} (h:oJ L w t v1 v3 v4 v5 v6 v8):dQ L w (pO t v1 v3 v4 v5 v6 v8) t.enc:=
 ⟨.val _,h.regs,.val _,h.self,h.aX,h.at_,h.types,.val _,h.au,.val _,.val _,.val _,trivial⟩
theorem oJ.go {t:Tk} (h:oJ L w t v1 v3 v4 v5 v6 v8) (k:Fr L w L' w'):oJ L' w' t v1 v3 v4 v5 v6 v8:=
 ⟨h.regs.go k,h.self.go k,h.aX.go k,h.at_.go k,h.types.go k,h.au.go k⟩
theorem oJ.ext {t:Tk} (h:oJ L w t v1 v3 v4 v5 v6 v8) (k:ak [] w w'):oJ L w' t v1 v3 v4 v5 v6 v8:=h.go (Fr.of k sm)
theorem oJ.aL {t:Tk} (h:oJ L w t v1 v3 v4 v5 v6 v8) (k:ak G w w') (hG:∀x,x∈G->x∈L):oJ L w' t v1 v3 v4 v5 v6 v8:=h.go (Fr.of k hG)
theorem oJ.grow {t:Tk} (h:oJ L w t v1 v3 v4 v5 v6 v8):oJ (w.heap.size::L) w t v1 v3 v4 v5 v6 v8:=h.go ((Fr.refl L w).grow)
def iq (L:List Nat) (w:World) (T:TypeId) (b:Nat) (t:Tk):Prop:=∃v1 v3 v4 v5 v6 v8,aY w b (pO t v1 v3 v4 v5 v6 v8).toArray T∧oJ L w t v1 v3 v4 v5 v6 v8
theorem iq.ext {T:TypeId} {t:Tk} (h:iq L w T b t) (k:ak [] w w'):iq L w' T b t:=by
 obtain⟨v1,v3,v4,v5,v6,v8,hb,hc⟩:=h
 exact⟨v1,v3,v4,v5,v6,v8,hb.aO k sm,hc.ext k⟩
theorem iq.go {T:TypeId} {t:Tk} (h:iq L w T b t) (k:Fr L w L' w') (kg:ak G w w') (hb:b∉G):iq L' w' T b t:=by
 obtain⟨v1,v3,v4,v5,v6,v8,hB,hc⟩:=h
 exact⟨v1,v3,v4,v5,v6,v8,hB.aO kg hb,hc.go k⟩
/-! ### The maker -/
theorem dh.acq {T:TypeId} (h:dh w T v g xs):jX w T 1 v g (ji xs).length (xs.map λx=>str x):=by rw[rP];exact h
structure ey (L:List Nat) (w:World) (T:TypeId) (sz:Nat) (v:Value) (g:Option Nat) (rows:List (List C)):Prop where
 own:∃xs,jX w T sz v g rows.length xs∧dQ L w xs rows.flatten
 row:∀row,row∈rows->row.length=sz
theorem ey.aO {T:TypeId} (h:ey L w T sz v g rows) (k:Fr L w L' w') (kg:ak G w w') (hg:∀x,x∈g.toList->x∉G):ey L' w' T sz v g rows:=by
 obtain⟨xs,h1,h2⟩:=h.own
 exact⟨⟨xs,h1.aO kg (λb hb=>hg b (by simp[hb])),h2.go k⟩,h.row⟩
theorem ey.len {T:TypeId} (h:ey L w T sz v g rows):∃a cap,v= .slice a rows.length cap:=by
 obtain⟨xs,h1,_⟩:=h.own;exact h1.len
theorem ey.lt {T:TypeId} (h:ey L w T sz v g rows):∀x,x∈g.toList->x<w.heap.size:=by
 obtain⟨xs,h1,_⟩:=h.own;intro x hx;exact h1.lt x (by simpa using hx)
theorem ey.rep {T:TypeId} (h:ey L w T sz v g rows) (hL:∀x,x∈g.toList++L'->x∈L∨w.heap.size<=x) (hg:∀x,x∈g.toList->x∉L'):cD L' w v (.sl sz rows):=by
 obtain⟨xs,h1,h2⟩:=h.own
 exact iw.done (L:=L') ⟨h1,h2.fresh hL,h.row,λb hb=>hg b (by simp[hb])⟩
theorem ey.gr {T:TypeId} (h:ey L w T sz v g rows) (hL:∀x,x∈g.toList->x∈L) (hB:∀b,g=some b->B<=b) (hs:B<=w.heap.size):Gr B [] w T sz v g rows:=by
 obtain⟨xs,h1,h2⟩:=h.own
 exact⟨⟨xs,h1,h2.fresh (λx hx=>.inl (hL x (by simpa using hx))),h.row,sm⟩,hB,sm,hs⟩
theorem Gr.down {B':Nat} {T:TypeId} (h:Gr B L w T sz v g rows) (hB:B'<=B):Gr B' L w T sz v g rows:=
 ⟨h.own,λb hb=>Nat.le_trans hB (h.low b hb),h.cZ,Nat.le_trans hB h.bsz⟩
structure sH where
 M:TypeId
 B:TypeId
 T:TypeId
 S:TypeId
structure gU (τ:sH) (E L:List Nat) (w:World) (b:Nat) (o:Bool) (vb vt vc vy:Value) (gb gt gc gy:Option Nat) (m:Mk):Prop where
 bl:ey L w τ.B 3 vb gb (m.blocks.map Bk.enc)
 ta:ey L w τ.T 12 vt gt (m.bW.map Tk.enc)
 co:(o=true∧dh w τ.S vc gc m.code)∨(o=false∧gc=none∧bI L w vc m.code)
 ty:dh w τ.S vy gy m.types
 eL:L=E++b::(gb.toList++(gt.toList++(gc.toList++gy.toList)))
 nd:L.Nodup
 cZ:∀x,x∈L->x<w.heap.size
section
variable {τ:sH} {E L:List Nat} {w w':World} {b:Nat} {o:Bool} {vb vt vc vy:Value} {gb gt gc gy:Option Nat} {m:Mk}
theorem xZ {A B C D E:List Nat} {b:Nat}:x∈E++b::(A++(B++(C++D)))↔x∈E∨x=b∨x∈A∨x∈B∨x∈C∨x∈D:=by simp
theorem gU.mem (h:gU τ E L w b o vb vt vc vy gb gt gc gy m):x∈L↔x∈E∨x=b∨x∈gb.toList∨x∈gt.toList∨x∈gc.toList∨x∈gy.toList:=by
 rw[h.eL];exact xZ
theorem gU.apart (h:gU τ E L w b o vb vt vc vy gb gt gc gy m):E.Nodup∧b∉E∧
  (∀x,x∈gb.toList->x∉E∧x≠b)∧(∀x,x∈gt.toList->x∉E∧x≠b∧x∉gb.toList)∧(∀x,x∈gc.toList->x∉E∧x≠b∧x∉gb.toList∧x∉gt.toList)∧
  (∀x,x∈gy.toList->x∉E∧x≠b∧x∉gb.toList∧x∉gt.toList∧x∉gc.toList):=by
 have hn:=h.nd
 rw[h.eL] at hn
 rw[List.nodup_append] at hn
 obtain⟨h1,h2,h3⟩:=hn
 rw[List.nodup_cons] at h2
 obtain⟨h4,h5⟩:=h2
 rw[List.nodup_append] at h5
 obtain⟨h6,h7,h8⟩:=h5
 rw[List.nodup_append] at h7
 obtain⟨h9,gI,km⟩:=h7
 rw[List.nodup_append] at gI
 obtain⟨jJ,lD,uO⟩:=gI
 refine⟨h1,λhb=>h3 b hb b sm rfl,λx hx=>⟨λhe=>h3 x he x (by simp[hx]) rfl,λe=>h4 (by simp[<-e,hx])⟩,λx hx=>⟨λhe=>h3 x he x (by simp[hx]) rfl,λe=>h4 (by simp[<-e,hx]),λhy=>h8 x hy x (by simp[hx]) rfl⟩,
  λx hx=>⟨λhe=>h3 x he x (by simp[hx]) rfl,λe=>h4 (by simp[<-e,hx]),λhy=>h8 x hy x (by simp[hx]) rfl,λhy=>km x hy x (by simp[hx]) rfl⟩,
  λx hx=>⟨λhe=>h3 x he x (by simp[hx]) rfl,λe=>h4 (by simp[<-e,hx]),λhy=>h8 x hy x (by simp[hx]) rfl,λhy=>km x hy x (by simp[hx]) rfl,λhy=>uO x hy x hx rfl⟩⟩
theorem Ak (g:Option Nat):g.toList.Nodup:=by cases g<;>simp
theorem acr {A B C D:Option Nat} {F:List Nat} {b:Nat} (h1:F.Nodup) (h2:b∉F) (ha:∀x,x∈A.toList->x∉F∧x≠b) (hb:∀x,x∈B.toList->x∉F∧x≠b∧x∉A.toList) (hc:∀x,x∈C.toList->x∉F∧x≠b∧x∉A.toList∧x∉B.toList) 
  (hd:∀x,x∈D.toList->x∉F∧x≠b∧x∉A.toList∧x∉B.toList∧x∉C.toList):(F++b::(A.toList++(B.toList++(C.toList++D.toList)))).Nodup:=by
 rw[List.nodup_append,List.nodup_cons,List.nodup_append,List.nodup_append,List.nodup_append]
 refine⟨h1,⟨?_,Ak A,⟨Ak B,⟨Ak C,Ak D,?_⟩,?_⟩,?_⟩,?_⟩
 ·intro h
  simp only[mA] at h
  rcases h with h|h|h|h
  ·exact(ha b h).2 rfl
  ·exact(hb b h).2.1 rfl
  ·exact(hc b h).2.1 rfl
  ·exact(hd b h).2.1 rfl
 ·intro x hx y hy e
  exact(hd y hy).2.2.2.2 (e▸hx)
 ·intro x hx y hy e
  rcases mA.1 hy with hy|hy
  ·exact(hc y hy).2.2.2 (e▸hx)
  ·exact(hd y hy).2.2.2.1 (e▸hx)
 ·intro x hx y hy e
  simp only[mA] at hy
  rcases hy with hy|hy|hy
  ·exact(hb y hy).2.2 (e▸hx)
  ·exact(hc y hy).2.2.1 (e▸hx)
  ·exact(hd y hy).2.2.1 (e▸hx)
 ·intro x hx y hy e
  rcases mC.1 hy with hy|hy
  ·exact h2 (by rw[<-hy,<-e];exact hx)
  ·simp only[mA] at hy
   rcases hy with hy|hy|hy|hy
   ·exact(ha y hy).1 (e▸hx)
   ·exact(hb y hy).1 (e▸hx)
   ·exact(hc y hy).1 (e▸hx)
   ·exact(hd y hy).1 (e▸hx)
theorem gU.swap (h:gU τ E L w b o vb vt vc vy gb gt gc gy m) (k:ak G w w') (hG:∀x,x∈G->x∈L∧x≠b∧x∉E) {gb' gt' gc' gy':Option Nat} 
  (nb:∀x,x∈gb'.toList->x∈gb.toList∨w.heap.size<=x∧x∉gt'.toList∧x∉gc'.toList∧x∉gy'.toList) (nt:∀x,x∈gt'.toList->x∈gt.toList∨w.heap.size<=x∧x∉gb'.toList∧x∉gc'.toList∧x∉gy'.toList)
  (nc:∀x,x∈gc'.toList->x∈gc.toList∨w.heap.size<=x∧x∉gb'.toList∧x∉gt'.toList∧x∉gy'.toList) (ny:∀x,x∈gy'.toList->x∈gy.toList∨w.heap.size<=x∧x∉gb'.toList∧x∉gt'.toList∧x∉gc'.toList):
  Fr L w (E++b::(gb'.toList++(gt'.toList++(gc'.toList++gy'.toList)))) w'∧(E++b::(gb'.toList++(gt'.toList++(gc'.toList++gy'.toList)))).Nodup:=by
 obtain⟨a1,a2,a3,a4,a5,a6⟩:=h.apart
 have eU:∀x,x∈E∨x=b->x<w.heap.size:=λx hx=>h.cZ x (h.mem.2 (by rcases hx with hx|hx<;>simp[hx]))
 have nR:∀x,w.heap.size<=x->x∉E∧x≠b:=λx hx=>⟨λhe=>by have:=eU x (.inl he);omega,λe=>by have:=eU x (.inr e);omega⟩
 refine⟨⟨k.mono λx hx=>(hG x hx).1,λx hx=>?_⟩,acr a1 a2 (λx hx=>?_) (λx hx=>?_) (λx hx=>?_) (λx hx=>?_)⟩
 ·rw[xZ] at hx
  rcases hx with hx|hx|hx|hx|hx|hx
  ·exact .inl (h.mem.2 (.inl hx))
  ·exact .inl (h.mem.2 (.inr (.inl hx)))
  ·rcases nb x hx with h1|h1
   ·exact .inl (h.mem.2 (by simp[h1]))
   ·exact .inr h1.1
  ·rcases nt x hx with h1|h1
   ·exact .inl (h.mem.2 (by simp[h1]))
   ·exact .inr h1.1
  ·rcases nc x hx with h1|h1
   ·exact .inl (h.mem.2 (by simp[h1]))
   ·exact .inr h1.1
  ·rcases ny x hx with h1|h1
   ·exact .inl (h.mem.2 (by simp[h1]))
   ·exact .inr h1.1
 ·rcases nb x hx with h1|h1
  ·exact a3 x h1
  ·exact nR x h1.1
 ·rcases nt x hx with h1|h1
  ·refine⟨(a4 x h1).1,(a4 x h1).2.1,λhb=>?_⟩
   rcases nb x hb with h2|h2
   ·exact(a4 x h1).2.2 h2
   ·exact h2.2.1 hx
  ·exact⟨(nR x h1.1).1,(nR x h1.1).2,h1.2.1⟩
 ·rcases nc x hx with h1|h1
  ·refine⟨(a5 x h1).1,(a5 x h1).2.1,λhb=>?_,λhb=>?_⟩
   ·rcases nb x hb with h2|h2
    ·exact(a5 x h1).2.2.1 h2
    ·exact h2.2.2.1 hx
   ·rcases nt x hb with h2|h2
    ·exact(a5 x h1).2.2.2 h2
    ·exact h2.2.2.1 hx
  ·exact⟨(nR x h1.1).1,(nR x h1.1).2,h1.2.1,h1.2.2.1⟩
 ·rcases ny x hx with h1|h1
  ·refine⟨(a6 x h1).1,(a6 x h1).2.1,λhb=>?_,λhb=>?_,λhb=>?_⟩
   ·rcases nb x hb with h2|h2
    ·exact(a6 x h1).2.2.1 h2
    ·exact h2.2.2.2 hx
   ·rcases nt x hb with h2|h2
    ·exact(a6 x h1).2.2.2.1 h2
    ·exact h2.2.2.2 hx
   ·rcases nc x hb with h2|h2
    ·exact(a6 x h1).2.2.2.2 h2
    ·exact h2.2.2.2 hx
  ·exact⟨(nR x h1.1).1,(nR x h1.1).2,h1.2.1,h1.2.2.1,h1.2.2.2⟩
theorem gU.Io (h:gU τ E L w b o vb vt vc vy gb gt gc gy m) (hx:x∈gb.toList∨x∈gt.toList∨x∈gc.toList∨x∈gy.toList):x<w.heap.size:=h.cZ x (h.mem.2 (by simp only[hx,or_true]))
theorem dh.lt {w:World} {T:TypeId} (h:dh w T v g xs):∀x,x∈g.toList->x<w.heap.size:=λx hx=>jX.lt h x (by simpa using hx)
theorem gU.LS (h:gU τ E L w b o vb vt vc vy gb gt gc gy m) (hy:dh w' τ.S v g ys) (k:ak gy.toList w w') (hg:∀x,g=some x->gy=some x∨w.heap.size<=x):
  ∃L',gU τ E L' w' b o vb vt vc v gb gt gc g {m with types:=ys}∧Fr L w L' w':=by
 obtain⟨a1,a2,a3,a4,a5,a6⟩:=h.apart
 have k7:∀x,x∈g.toList->x∈gy.toList∨w.heap.size<=x∧x∉gb.toList∧x∉gt.toList∧x∉gc.toList:=λx hx=>by
  rcases hg x (by simpa using hx) with h1|h1
  ·exact .inl (by simp[h1])
  ·refine .inr ⟨h1,λhh=>?_,λhh=>?_,λhh=>?_⟩<;>have:=h.Io (x:=x) (by simp[hh])<;>omega
 obtain⟨hF,hN⟩:=h.swap k (λx hx=>⟨h.mem.2 (by simp[hx]),(a6 x hx).2.1,(a6 x hx).1⟩) (gb':=gb) (gt':=gt) (gc':=gc) (gy':=g) (λx hx=>.inl hx) (λx hx=>.inl hx) (λx hx=>.inl hx) k7
 refine⟨_,⟨h.bl.aO hF k (λx hx hy=>(a6 x hy).2.2.1 hx),h.ta.aO hF k (λx hx hy=>(a6 x hy).2.2.2.1 hx),?_,hy,rfl,hN,?_⟩,hF⟩
 ·rcases h.co with⟨ho,h1⟩|⟨ho,hn,h1⟩
  ·exact .inl ⟨ho,h1.aO k λx hx hy=>(a6 x hy).2.2.2.2 (by simp[hx])⟩
  ·exact .inr ⟨ho,hn,h1.go hF⟩
 ·intro x hx
  rw[xZ] at hx
  have hs:=k.size
  rcases hx with hx|hx|hx|hx|hx|hx
  ·exact lL (h.cZ x (h.mem.2 (by simp[hx]))) hs
  ·exact lL (h.cZ x (h.mem.2 (by simp[hx]))) hs
  ·exact lL (h.cZ x (h.mem.2 (by simp[hx]))) hs
  ·exact lL (h.cZ x (h.mem.2 (by simp[hx]))) hs
  ·exact lL (h.cZ x (h.mem.2 (by simp[hx]))) hs
  ·exact hy.lt x hx
theorem gU.Ip (h:gU τ E L w b o vb vt vc vy gb gt gc gy m) (hy:dh w' τ.S v g ys) (k:ak gc.toList w w') (hg:∀x,g=some x->gc=some x∨w.heap.size<=x):
  ∃L',gU τ E L' w' b true vb vt v vy gb gt g gy {m with code:=ys}∧Fr L w L' w':=by
 obtain⟨a1,a2,a3,a4,a5,a6⟩:=h.apart
 have k7:∀x,x∈g.toList->x∈gc.toList∨w.heap.size<=x∧x∉gb.toList∧x∉gt.toList∧x∉gy.toList:=λx hx=>by
  rcases hg x (by simpa using hx) with h1|h1
  ·exact .inl (by simp[h1])
  ·refine .inr ⟨h1,λhh=>?_,λhh=>?_,λhh=>?_⟩<;>have:=h.Io (x:=x) (by simp[hh])<;>omega
 obtain⟨hF,hN⟩:=h.swap k (λx hx=>⟨h.mem.2 (by simp[hx]),(a5 x hx).2.1,(a5 x hx).1⟩) (gb':=gb) (gt':=gt) (gc':=g) (gy':=gy) (λx hx=>.inl hx) (λx hx=>.inl hx) k7 (λx hx=>.inl hx)
 refine⟨_,⟨h.bl.aO hF k (λx hx hy=>(a5 x hy).2.2.1 hx),h.ta.aO hF k (λx hx hy=>(a5 x hy).2.2.2 hx),.inl ⟨rfl,hy⟩,h.ty.aO k λx hx hy=>(a6 x (by simp[hx])).2.2.2.2 hy,rfl,hN,?_⟩,hF⟩
 intro x hx
 rw[xZ] at hx
 have hs:=k.size
 rcases hx with hx|hx|hx|hx|hx|hx
 ·exact lL (h.cZ x (h.mem.2 (by simp[hx]))) hs
 ·exact lL (h.cZ x (h.mem.2 (by simp[hx]))) hs
 ·exact lL (h.cZ x (h.mem.2 (by simp[hx]))) hs
 ·exact lL (h.cZ x (h.mem.2 (by simp[hx]))) hs
 ·exact hy.lt x hx
 ·exact lL (h.cZ x (h.mem.2 (by simp[hx]))) hs
theorem acs (t:Tk) (h1:v1.oneCell'=true) (h3:v3.oneCell'=true) (h4:v4.oneCell'=true) (h5:v5.oneCell'=true) (h6:v6.oneCell'=true) (h8:v8.oneCell'=true):(pO t v1 v3 v4 v5 v6 v8).all Value.oneCell'=true:=by
 simp only[pO,List.all_cons,h1,h3,h4,h5,h6,h8];rfl
theorem Dx {L:List Nat} {w:World} (h:cD L w v (.sl sz rows)):v.oneCell'=true:=by cases h<;>rfl
theorem oJ.one {t:Tk} (h:oJ L w t v1 v3 v4 v5 v6 v8):(pO t v1 v3 v4 v5 v6 v8).all Value.oneCell'=true:=acs t (Dx h.regs) (Dx h.self) (Dx h.aX) (Dx h.at_) (Dx h.types) (Dx h.au)
theorem gU.aO (h:gU τ E L w b o vb vt vc vy gb gt gc gy m) (k:ak G w w') (hG:∀x,x∈G->x∈b::E):gU τ E L w' b o vb vt vc vy gb gt gc gy m:=by
 obtain⟨a1,a2,a3,a4,a5,a6⟩:=h.apart
 have rR:∀x,x∈G->x∈L:=λx hx=>h.mem.2 (by rcases mC.1 (hG x hx) with h1|h1<;>simp[h1])
 have hF:Fr L w L w':=Fr.of k rR
 have out:∀x,x∉E->x≠b->x∉G:=λx h1 h2 h3=>by
  rcases mC.1 (hG x h3) with h4|h4
  ·exact h2 h4
  ·exact h1 h4
 refine⟨h.bl.aO hF k (λx hx=>out x (a3 x hx).1 (a3 x hx).2),h.ta.aO hF k (λx hx=>out x (a4 x hx).1 (a4 x hx).2.1),?_,h.ty.aO k (λx hx=>out x (a6 x (by simp[hx])).1 (a6 x (by simp[hx])).2.1),h.eL,h.nd,λx hx=>lL (h.cZ x hx) k.size⟩
 rcases h.co with⟨ho,h1⟩|⟨ho,hn,h1⟩
 ·exact .inl ⟨ho,h1.aO k λx hx=>out x (a5 x (by simp[hx])).1 (a5 x (by simp[hx])).2.1⟩
 ·exact .inr ⟨ho,hn,h1.go hF⟩
theorem gU.ext (h:gU τ E L w b o vb vt vc vy gb gt gc gy m) (k:ak [] w w'):gU τ E L w' b o vb vt vc vy gb gt gc gy m:=h.aO k sm
theorem gU.drop (h:gU τ (x::E) L w b o vb vt vc vy gb gt gc gy m):∃L',L=x::L'∧gU τ E L' w b o vb vt vc vy gb gt gc gy m:=by
 have rR:∀y,y∈E++b::(gb.toList++(gt.toList++(gc.toList++gy.toList)))->y∈L:=λy hy=>by rw[h.eL];simp only[List.cons_append,mC];exact .inr hy
 have hF:Fr L w (E++b::(gb.toList++(gt.toList++(gc.toList++gy.toList)))) w:=(Fr.refl L w).to λy hy=>.inl (rR y hy)
 have jy:=h.nd
 rw[h.eL,List.cons_append,List.nodup_cons] at jy
 refine⟨_,h.eL,⟨h.bl.aO hF (ak.refl [] w) sm,h.ta.aO hF (ak.refl [] w) sm,?_,h.ty,rfl,jy.2,λy hy=>h.cZ y (rR y hy)⟩⟩
 rcases h.co with⟨ho,h1⟩|⟨ho,hn,h1⟩
 ·exact .inl ⟨ho,h1⟩
 ·exact .inr ⟨ho,hn,h1.go hF⟩
def mkV (m:Mk) (vb vt vc vy:Value):List Value:=[vb,vt,.int .i64 (m.count:Int),.bool m.wide,vc,vy]
def ei (τ:sH) (E L:List Nat) (w:World) (b:Nat) (o:Bool) (m:Mk):Prop:=∃vb vt vc vy gb gt gc gy,aY w b (mkV m vb vt vc vy).toArray τ.M∧gU τ E L w b o vb vt vc vy gb gt gc gy m
theorem ei.ext (h:ei τ E L w b o m) (k:ak [] w w'):ei τ E L w' b o m:=by
 obtain⟨vb,vt,vc,vy,gb,gt,gc,gy,h1,h2⟩:=h
 exact⟨vb,vt,vc,vy,gb,gt,gc,gy,h1.aO k sm,h2.ext k⟩
theorem ei.aO (h:ei τ E L w b o m) (k:ak G w w') (hG:∀x,x∈G->x∈E):ei τ E L w' b o m:=by
 obtain⟨vb,vt,vc,vy,gb,gt,gc,gy,h1,h2⟩:=h
 exact⟨vb,vt,vc,vy,gb,gt,gc,gy,h1.aO k (λhx=>h2.apart.2.1 (hG b hx)),h2.aO k (λx hx=>mK _ (hG x hx))⟩
theorem ei.drop (h:ei τ (x::E) L w b o m):∃L',L=x::L'∧ei τ E L' w b o m:=by
 obtain⟨vb,vt,vc,vy,gb,gt,gc,gy,h1,h2⟩:=h
 obtain⟨L',e,h3⟩:=h2.drop
 exact⟨L',e,vb,vt,vc,vy,gb,gt,gc,gy,h1,h3⟩
theorem ei.mem (h:ei τ E L w b o m):(∀x,x∈b::E->x∈L)∧E.Nodup∧b∉E∧∀x,x∈L->x<w.heap.size:=by
 obtain⟨vb,vt,vc,vy,gb,gt,gc,gy,h1,h2⟩:=h
 obtain⟨a1,a2,_⟩:=h2.apart
 exact⟨λx hx=>h2.mem.2 (by rcases mC.1 hx with h|h<;>simp[h]),a1,a2,h2.cZ⟩
end
theorem ey.sub {T:TypeId} (h:ey L w T sz v g rows) (hL:∀x,x∈L'->x∈L∨w.heap.size<=x):ey L' w T sz v g rows:=by
 obtain⟨xs,h1,h2⟩:=h.own
 exact⟨⟨xs,h1,h2.fresh hL⟩,h.row⟩
structure KA (L:List Nat) (T:TypeId) (sz:Nat) (g:Option Nat) (rows rows':List (List C)) (w w':World):Prop where
 aO:ak g.toList w w'
 old:∀v,ey (g.toList++L) w T sz v g rows->ey (g.toList++L) w' T sz v g rows
 new:∀v g',ey (g.toList++(g'.toList++L)) w T sz v g' rows'->ey (g.toList++(g'.toList++L)) w' T sz v g' rows'
theorem ey.any {T:TypeId} (h:ey L w T sz v g rows) (k:ak [] w w'):ey L w' T sz v g rows:=h.aO (Fr.of k sm) k sm
theorem R2 (L:List Nat) (T:TypeId) (sz:Nat) (g:Option Nat) (rows rows':List (List C)):Kept (KA L T sz g rows rows'):=
 ⟨λ_=>⟨ak.refl _ _,λ_ h=>h,λ_ _ h=>h⟩,λh k=>⟨h.aO.trans k.aO,λv x=>k.old v (h.old v x),λv g' x=>k.new v g' (h.new v g' x)⟩,
  λh=>⟨h.any,λ_ x=>x.any h,λ_ _ x=>x.any h⟩⟩
section
variable {P:Program} {w:World}
theorem acv {t ty T:TypeId} {i:TypeInfo} {sz bytes:Nat} (ht:P.underlying t=some (.slice T)) (hi:P.info? T=some i) (hz:i.zero=some z) 
  (Bc:i.size=sz) (ig:i.bytes=bytes) (xu:z.cells.size=sz) {L:List Nat}
  {v:Value} {g:Option Nat} {rows:List (List C)} {row:List C} (hO:ey (g.toList++L) w T sz v g rows)
  (ab c:Nat) (news:List Value) (iI:row.length=sz) (Bd:iH w ab 0 news) (h1:∀u∈news,u.oneCell'=true) (hr:dQ (g.toList++L) w news row)
  (hb:(rows.length+1)*(bytes+1)<=140737488355328):
  ∃v' g' w',(Builtin.append_ #[t,t] ty #[v,.slice (some ⟨ab,0,none⟩) 1 c]).run P w= .ok v' w'∧ey (g.toList++(g'.toList++L)) w' T sz v' g' (rows++[row])∧KA L T sz g rows (rows++[row]) w w'∧
   (g'=g∨g'=some w.heap.size):=by
 subst Bc
 subst ig
 obtain⟨xs,dY,BO⟩:=hO.own
 have aU:(rows.length+1)*i.bytes+(rows.length+1)<=140737488355328:=by rw[Nat.mul_add,Nat.mul_one] at hb;exact hb
 have zg:rows.length+1<=maxLen:=by unfold maxLen;omega
 have xv:(rows.length+1)*i.bytes<=140737488355328:=by omega
 have hl:news.length=1*i.size:=by rw[hr.length,iI,Nat.one_mul]
 have Hy:rows.length+1<=9223372036854775807:=by simp only[maxLen] at zg;omega
 have hlen:(xs++news).length=(rows.length+1)*i.size:=by rw[lA,dY.1,hl,Nat.add_mul]
 have vR:∀b o j:Nat,(⟨b,o,none⟩:Addr).add j=⟨b,o+j,none⟩:=λb o j=>by unfold Addr.add;split<;>simp_all
 have uq:∀j u,news[j]?=some u->w.cell? ((⟨ab,0,none⟩:Addr).add j)=some u:=λj u hu=>by rw[vR];exact Bd j u hu
 have R3:∀r,r∈rows++[row]->r.length=i.size:=λr hx=>by
  rcases mA.1 hx with hx|hx
  ·exact hO.row r hx
  ·simp at hx;rw[hx];exact iI
 have pb:(rows++[row]).flatten=rows.flatten++row:=by simp
 have grown:∀(old:Nat),old<rows.length+1->
   ey (g.toList++((some w.heap.size).toList++L)) (w.drew.alloc (.cells (xs.toArray++news.toArray++Builtin.zeroCells z.cells (grownCap w (rows.length+1) old T-(rows.length+1))) T)) T i.size
    (.slice (some ⟨w.heap.size,0,none⟩) (rows.length+1) (grownCap w (rows.length+1) old T)) (some w.heap.size) (rows++[row])∧
   ak [] w (w.drew.alloc (.cells (xs.toArray++news.toArray++Builtin.zeroCells z.cells (grownCap w (rows.length+1) old T-(rows.length+1))) T)):=by
  intro old ho
  have rL:=grownCap_ge w (rows.length+1) old T
  have mo:grownCap w (rows.length+1) old T<=maxLen:=grownCap_le_maxLen w (rows.length+1) old T zg
  have hk:ak [] w (w.drew.alloc (.cells (xs.toArray++news.toArray++Builtin.zeroCells z.cells (grownCap w (rows.length+1) old T-(rows.length+1))) T)):=⟨rfl,rfl,rfl,sm,λk hk _=>heap_alloc_old w.drew _ k hk⟩
  refine⟨⟨⟨xs++news,⟨by simpa using hlen,.inr ⟨w.heap.size,_,_,rfl,?_,heap_alloc_new w.drew _,?_,mo,?_,?_⟩⟩,?_⟩,R3⟩,hk⟩
  ·simp
  ·simpa using rL
  ·simp only[Array.size_append,List.size_toArray,size_zeroCells,xu,dY.1,hl,<-Nat.add_mul]
   congr 1
   omega
  ·simp only[Array.toList_append,List.append_assoc]
   rw[<-List.append_assoc,lA,List.length_singleton,<-hlen]
   exact List.take_left
  ·rw[pb]
   refine((BO.append hr).fresh (L':=g.toList++((some w.heap.size).toList++L)) λx hx=>?_).aO hk.any
   rcases mA.1 hx with hx|hx
   ·exact .inl (by simp[hx])
   ·rcases mA.1 hx with hx|hx
    ·right;simp at hx;omega
    ·exact .inl (by simp[hx])
 rcases dY.2 with⟨rfl,z1,rfl⟩|⟨b,cap,cur,rfl,rfl,hb,mM,mo,cJ,th⟩
 ·have hx:xs=[]:=List.eq_nil_of_length_eq_zero (by rw[dY.1,z1];simp)
  subst hx
  have hr:=run_append_nil (P:=P) w t ty T i z ht hi hz ⟨ab,0,none⟩ 1 c news hl uq om om (by rw[z1] at xv;simp only[Nat.zero_add] at xv;omega)
  have lx:=grown 0 om
  rw[z1] at lx
  simp only[Nat.zero_add,List.nil_append,Array.empty_append] at lx⊢
  exact⟨_,some w.heap.size,_,hr,lx.1,(R2 L T i.size none rows (rows++[row])).of lx.2,.inr rfl⟩
 ·by_cases sn:rows.length+1<=cap
  ·have lv:rows.length*i.size+news.length<=cur.size:=by rw[hl,cJ,<-Nat.add_mul];exact Nat.mul_le_mul_right _ sn
   have kl:=run_append_room (P:=P) w t ty T i ht hi b rows.length cap cur hb ⟨ab,0,none⟩ 1 c news hl uq h1 sn lv
   have Dy:ak [b] w (w.setRow b (cur.toList.take (rows.length*i.size)++news++cur.toList.drop (rows.length*i.size+news.length)).toArray):=⟨rfl,rfl,rfl,sm,λk _ hk=>setRow_other w b k _ (by simpa using hk)⟩
   have LU:aY (w.setRow b (cur.toList.take (rows.length*i.size)++news++cur.toList.drop (rows.length*i.size+news.length)).toArray) b (cur.toList.take (rows.length*i.size)++news++cur.toList.drop (rows.length*i.size+news.length)).toArray T:=setRow_heap w b cur _ T _ hb
   have iY:(cur.toList.take (rows.length*i.size)++news++cur.toList.drop (rows.length*i.size+news.length)).toArray.size=cap*i.size:=by
    simp only[List.size_toArray,lA,List.length_take,List.length_drop,Array.length_toList]
    omega
   have R4:(cur.toList.take (rows.length*i.size)++news++cur.toList.drop (rows.length*i.size+news.length)).take ((rows.length+1)*i.size)=xs++news:=by
    rw[th,<-hlen];exact List.take_left
   have acw:(cur.toList.take (rows.length*i.size)++news++cur.toList.drop (rows.length*i.size+news.length)).take (rows.length*i.size)=xs:=by
    rw[th,<-dY.1,List.append_assoc];exact List.take_left
   -- whoever owns block b,owns it with this size
   have cap_of:∀(v:Value) (n:Nat) (ys:List Value),jX w T i.size v (some b) n ys->∃cap',v= .slice (some ⟨b,0,none⟩) n cap'∧n<=cap'∧cap'<=maxLen∧cap'*i.size=cap*i.size∧ys=cur.toList.take (n*i.size):=by
    intro v n ys hv
    rcases hv.2 with⟨_,_,h⟩|⟨b',cap',cur',e',Ft,gW,CY,pD,zX,ox⟩
    ·cases h
    ·cases e'
     have:cur'=cur:=by have h2:=gW.symm.trans hb;simpa using h2
     subst this
     exact⟨cap',Ft,CY,pD,by rw[<-zX,cJ],ox.symm⟩
   have wr:∀(v:Value) (n:Nat),(∃cap',v=Value.slice (some ⟨b,0,none⟩) n cap'∧n<=cap'∧cap'<=maxLen∧cap'*i.size=cap*i.size)->∀ys:List Value,ys.length=n*i.size->(cur.toList.take (rows.length*i.size)++news++cur.toList.drop (rows.length*i.size+news.length)).take (n*i.size)=ys->
     jX (w.setRow b (cur.toList.take (rows.length*i.size)++news++cur.toList.drop (rows.length*i.size+news.length)).toArray) T i.size v (some b) n ys:=by
    rintro v n ⟨cap',Ft,CY,pD,zX⟩ ys hy fD
    exact⟨hy,.inr ⟨b,cap',_,rfl,Ft,LU,CY,pD,by rw[iY,zX],fD⟩⟩
   refine⟨_,some b,_,kl,⟨⟨xs++news,wr _ _ ⟨cap,sm,by simpa using sn,mo,rfl⟩ _ (by simpa using hlen) (by simpa using R4),?_⟩,R3⟩,⟨Dy,λv hv=>?_,λv g' hv=>?_⟩,.inl rfl⟩
   ·rw[pb]
    exact((BO.append hr).fresh λx hx=>.inl (by simp only[mA] at hx⊢;rcases hx with h|h|h;exact .inl h;exact .inl h;exact .inr h)).aO (Dy.mono λx hx=>by simp at hx;simp[hx])
   ·obtain⟨ys,h1,h2⟩:=hv.own
    obtain⟨cap',a1,a2,a3,a4,a5⟩:=cap_of _ _ _ h1
    refine⟨⟨ys,wr _ _ ⟨cap',a1,a2,a3,a4⟩ _ h1.1 ?_,h2.aO (Dy.mono λx hx=>by simp at hx;simp[hx])⟩,hv.row⟩
    rw[acw,a5,th]
   ·obtain⟨ys,h1,h2⟩:=hv.own
    by_cases Al:g'=some b
    ·subst Al
     obtain⟨cap',a1,a2,a3,a4,a5⟩:=cap_of _ _ _ h1
     refine⟨⟨xs++news,wr _ _ ⟨cap',a1,a2,a3,a4⟩ _ (by simpa using hlen) (by simpa using R4),?_⟩,hv.row⟩
     rw[pb]
     exact((BO.append hr).fresh λx hx=>.inl (by simp only[mA] at hx⊢;rcases hx with h|h|h;exact .inl h;exact .inl h;exact .inr h)).aO (Dy.mono λx hx=>by simp at hx;simp[hx])
    ·exact⟨⟨ys,h1.aO Dy (λx hx fF=>Al (by simp at fF;rw[hx,fF])),h2.aO (Dy.mono λx hx=>by simp at hx;simp[hx])⟩,hv.row⟩
  ·have holds:∀j u,xs[j]?=some u->w.cell? ((⟨b,0,none⟩:Addr).add j)=some u:=λj u hu=>by
    rw[vR,hb.cell]
    rw[<-th,List.getElem?_take] at hu
    split at hu
    ·simpa using hu
    ·cases hu
   have hr:=run_append_grow (P:=P) w t ty T i z ht hi hz ⟨b,0,none⟩ rows.length cap xs dY.1 holds ⟨ab,0,none⟩ 1 c news hl uq om om (growslice_fits om xv)
   have lx:=grown cap om
   exact⟨_,some w.heap.size,_,hr,lx.1,(R2 L T i.size (some b) rows (rows++[row])).of lx.2,.inr rfl⟩
end
section
variable {P:Program} {n:Nat} {ops:Array Oper} {K:Env->World->Prop} {rest:List Oper} {e:Env} {w:World}
 {dst:Option Nat} {ty:TypeId} {pos:String} {after:Array Edge} {g:Option (Nat×Bool)} {x y:Operand}
theorem BP {L:List Nat} {t:Nat} {v:Value} {gb:Option Nat} {rows:List (List C)} {row:List C} {news:List Value} {b c:Nat} (hT:P.underlying t=some (.slice E)) (hE:TI P E sz bytes z) (hg:gate ops e g=true) (hd:dw n dst=true) (hz:Nat.beq z.cells.size sz=true) (ig:Nat.ble bytes 1000=true) 
  (hx:ev e x=v) (hy:ev e y= .slice (some ⟨b,0,none⟩) 1 c) (hO:ey (gb.toList++L) w E sz v gb rows) (iI:row.length=sz) (hc:iH w b 0 news) (h1:∀u∈news,u.oneCell'=true)
  (hr:dQ (gb.toList++L) w news row) (hn:rows.length<100000000)
  (k:∀v' g' w',ey (gb.toList++(g'.toList++L)) w' E sz v' g' (rows++[row])->KA L E sz gb rows (rows++[row]) w w'->(g'=gb∨g'=some w.heap.size)->OW P n ops K rest (cO e dst v') w'):
  OW P n ops K (⟨dst,.call {callee:=.builtin .append,args:=#[x,y],argTypes:=#[t,t]},ty,pos,after,g⟩::rest) e w:=by
 obtain⟨i,hi,Bp,iY,LV⟩:=hE.get
 have Dm:bytes<=1000:=Nat.le_of_ble_eq_true ig
 obtain⟨v',g',w',kl,xC,hk,k7⟩:=acv (P:=P) (ty:=ty) hT hi Bp iY LV (Nat.eq_of_beq_eq_true hz) hO b c news iI hc h1 hr
  (Nat.le_trans (Nat.mul_le_mul (show rows.length+1<=100000000 by omega) (show bytes+1<=1001 by omega)) de)
 exact fT hg hd (w':=w') (by
  simp only[execOp,resolve,invoke,builtin,Sem.run_bind,Sem.run_pure,Result.andThen_ok,List.map_toArray,List.map_cons,List.map_nil,hx,hy,kl]) (k v' g' w' xC hk k7)
end
/-! ### Behind it -/
theorem LW:∀{vs:List Value} {xs:List aj},dQ L w vs (ji xs).flatten->vs=xs.map λx=>str x
 |[],[],_=>rfl
 |v::vs,x::xs,h=>by
  obtain⟨h1,h2⟩:=h
  cases h1
  rw[LW (xs:=xs) h2];rfl
theorem ey.wc {T:TypeId} (h:ey L w T 1 v g (ji xs)):dh w T v g xs:=by
 obtain⟨vs,h1,h2⟩:=h.own
 rw[rP,LW h2] at h1;exact h1
theorem R5 (L:List Nat) (w:World):∀xs:List aj,dQ L w (xs.map λx=>str x) (ji xs).flatten
 |[]=>trivial
 |_::xs=>⟨.val _,R5 L w xs⟩
theorem dh.R6 {T:TypeId} (h:dh w T v g xs) (L:List Nat):ey L w T 1 v g (ji xs):=
 ⟨⟨_,h.acq,R5 L w xs⟩,λrow hr=>by obtain⟨x,_,rfl⟩:=List.mem_map.1 hr;rfl⟩
theorem R7 (xs:List aj) (x:aj):ji xs++[[.val (str x)]]=ji (xs++[x]):=by simp[ji]
theorem acx (xs:List Nat) (x:Nat):tI xs++[[.val (.int .i64 (x:Int))]]=tI (xs++[x]):=by simp[tI]
section
variable {τ:sH} {E L:List Nat} {w w':World} {b:Nat} {o:Bool} {vb vt vc vy:Value} {gb gt gc gy:Option Nat} {m:Mk}
def pP (E:List Nat) (b:Nat) (gb gt gy:Option Nat):List Nat:=E++b::(gb.toList++(gt.toList++gy.toList))
theorem x4:x∈pP E b gb gt gy↔x∈E∨x=b∨x∈gb.toList∨x∈gt.toList∨x∈gy.toList:=by simp[pP]
theorem gU.LX (h:gU τ E L w b o vb vt vc vy gb gt gc gy m):bI (pP E b gb gt gy) w vc m.code:=by
 obtain⟨a1,a2,a3,a4,a5,a6⟩:=h.apart
 rcases h.co with⟨_,h1⟩|⟨_,hn,h1⟩
 ·refine h1.rep λx hx hh=>?_
  have uK:x∈gc.toList:=by simp[hx]
  rw[x4] at hh
  rcases hh with hh|hh|hh|hh|hh
  ·exact(a5 x uK).1 hh
  ·exact(a5 x uK).2.1 hh
  ·exact(a5 x uK).2.2.1 hh
  ·exact(a5 x uK).2.2.2 hh
  ·exact(a6 x hh).2.2.2.2 uK
 ·exact h1.fresh λx hx=>.inl (h.mem.2 (by rw[x4] at hx;rcases hx with h|h|h|h|h<;>simp[h]))
theorem gU.R8 (h:gU τ E L w b o vb vt vc vy gb gt gc gy m):∀x,x∈pP E b gb gt gy->x∈L:=λx hx=>h.mem.2 (by rw[x4] at hx;rcases hx with h|h|h|h|h<;>simp[h])
theorem gU.acy (h:gU τ E L w b o vb vt vc vy gb gt gc gy m) (hy:ey (gb.toList++(g.toList++pP E b gb gt gy)) w' τ.B 3 v g (bs.map Bk.enc)) (k:ak gb.toList w w') (hg:g=gb∨∃x,g=some x∧w.heap.size<=x):
  ∃L',gU τ E L' w' b false v vt vc vy g gt none gy {m with blocks:=bs}∧Fr L w L' w':=by
 obtain⟨a1,a2,a3,a4,a5,a6⟩:=h.apart
 have k7:∀x,x∈g.toList->x∈gb.toList∨w.heap.size<=x∧x∉gt.toList∧x∉(none:Option Nat).toList∧x∉gy.toList:=λx hx=>by
  rcases hg with rfl|⟨y,rfl,hy⟩
  ·exact .inl hx
  ·have hx:x=y:=by simpa using hx
   refine .inr ⟨by omega,λhh=>?_,sm,λhh=>?_⟩<;>have:=h.Io (x:=x) (by simp[hh])<;>omega
 obtain⟨hF,hN⟩:=h.swap k (λx hx=>⟨h.mem.2 (by simp[hx]),(a3 x hx).2,(a3 x hx).1⟩) (gb':=g) (gt':=gt) (gc':=none) (gy':=gy) k7 (λx hx=>.inl hx) (λx hx=>by simp at hx) (λx hx=>.inl hx)
 have hcr:bI (E++b::(g.toList++(gt.toList++((none:Option Nat).toList++gy.toList)))) w' vc m.code:=by
  have h1:bI (pP E b gb gt gy) w' vc m.code:=cD.aL h.LX k λx hx=>x4.2 (by simp[hx])
  have h2:bI (g.toList++pP E b gb gt gy) w' vc m.code:=by
   rcases hg with rfl|⟨y,rfl,hy⟩
   ·exact h1.fresh λx hx=>.inl (by rcases mA.1 hx with h|h;exact x4.2 (by simp[h]);exact h)
   ·exact cD.aL (h.LX.fresh (L':=(some y).toList++pP E b gb gt gy) λx hx=>by
     rcases mA.1 hx with h|h
     ·simp at h;right;omega
     ·exact .inl h) k λx hx=>mR _ (x4.2 (by simp[hx]))
  exact h2.fresh λx hx=>.inl (by
   rw[xZ] at hx
   rw[mA,x4]
   rcases hx with h|h|h|h|h|h
   ·simp[h]
   ·simp[h]
   ·simp[h]
   ·simp[h]
   ·simp at h
   ·simp[h])
 refine⟨_,⟨hy.sub λx hx=>.inl ?_,h.ta.aO hF k (λx hx hy=>(a4 x hx).2.2 hy),.inr ⟨rfl,rfl,hcr⟩,h.ty.aO k λx hx hy=>(a6 x (by simp[hx])).2.2.1 hy,rfl,hN,?_⟩,hF⟩
 ·rw[xZ] at hx
  rw[mA,mA,x4]
  rcases hx with h|h|h|h|h|h
  ·simp[h]
  ·simp[h]
  ·simp[h]
  ·simp[h]
  ·simp at h
  ·simp[h]
 ·intro x hx
  rw[xZ] at hx
  have hs:=k.size
  rcases hx with hx|hx|hx|hx|hx|hx
  ·exact lL (h.cZ x (h.mem.2 (by simp[hx]))) hs
  ·exact lL (h.cZ x (h.mem.2 (by simp[hx]))) hs
  ·exact hy.lt x hx
  ·exact lL (h.cZ x (h.mem.2 (by simp[hx]))) hs
  ·simp at hx
  ·exact lL (h.cZ x (h.mem.2 (by simp[hx]))) hs
theorem gU.Ff (h:gU τ E L w b o vb vt vc vy gb gt gc gy m) {ts:List Tk} (hy:ey (gt.toList++(g.toList++L)) w' τ.T 12 v g (ts.map Tk.enc)) (k:ak gt.toList w w') (hg:g=gt∨∃x,g=some x∧w.heap.size<=x):
  ∃L',gU τ E L' w' b o vb v vc vy gb g gc gy {m with bW:=ts}∧Fr L w L' w':=by
 obtain⟨a1,a2,a3,a4,a5,a6⟩:=h.apart
 have k7:∀x,x∈g.toList->x∈gt.toList∨w.heap.size<=x∧x∉gb.toList∧x∉gc.toList∧x∉gy.toList:=λx hx=>by
  rcases hg with rfl|⟨y,rfl,hy⟩
  ·exact .inl hx
  ·have hx:x=y:=by simpa using hx
   refine .inr ⟨by omega,λhh=>?_,λhh=>?_,λhh=>?_⟩<;>have:=h.Io (x:=x) (by simp[hh])<;>omega
 obtain⟨hF,hN⟩:=h.swap k (λx hx=>⟨h.mem.2 (by simp[hx]),(a4 x hx).2.1,(a4 x hx).1⟩) (gb':=gb) (gt':=g) (gc':=gc) (gy':=gy) (λx hx=>.inl hx) k7 (λx hx=>.inl hx) (λx hx=>.inl hx)
 refine⟨_,⟨h.bl.aO hF k (λx hx hy=>(a4 x hy).2.2 hx),hy.sub λx hx=>.inl ?_,?_,h.ty.aO k λx hx hy=>(a6 x (by simp[hx])).2.2.2.1 hy,rfl,hN,?_⟩,hF⟩
 ·rw[xZ] at hx
  rw[mA,mA,h.mem]
  rcases hx with h|h|h|h|h|h<;>simp[h]
 ·rcases h.co with⟨ho,h1⟩|⟨ho,hn,h1⟩
  ·exact .inl ⟨ho,h1.aO k λx hx hy=>(a5 x (by simp[hx])).2.2.2 hy⟩
  ·exact .inr ⟨ho,hn,h1.go hF⟩
 ·intro x hx
  rw[xZ] at hx
  have hs:=k.size
  rcases hx with hx|hx|hx|hx|hx|hx
  ·exact lL (h.cZ x (h.mem.2 (by simp[hx]))) hs
  ·exact lL (h.cZ x (h.mem.2 (by simp[hx]))) hs
  ·exact lL (h.cZ x (h.mem.2 (by simp[hx]))) hs
  ·exact hy.lt x hx
  ·exact lL (h.cZ x (h.mem.2 (by simp[hx]))) hs
  ·exact lL (h.cZ x (h.mem.2 (by simp[hx]))) hs
theorem gU.num (h:gU τ E L w b o vb vt vc vy gb gt gc gy m) (c:Nat) (q:Bool):gU τ E L w b o vb vt vc vy gb gt gc gy {m with count:=c,wide:=q}:=⟨h.bl,h.ta,h.co,h.ty,h.eL,h.nd,h.cZ⟩
end
theorem Fr.in {G':List Nat} (h:Fr G w G' w') (E:List Nat):Fr (E++G) w (E++G') w':=
 ⟨h.aO.mono λx hx=>mR _ hx,λx hx=>by
  rcases mA.1 hx with hx|hx
  ·exact .inl (List.mem_append_left _ hx)
  ·rcases h.mem x hx with h1|h1
   ·exact .inl (mR _ h1)
   ·exact .inr h1⟩
structure x5 where
 M:TypeId
 S:TypeId
 T:TypeId
structure jb (τ:x5) (E G:List Nat) (w:World) (b:Nat) (vt vn ve:Value) (gn ge:Option Nat) (ai aX:List aj) (exprs:List aA):Prop where
 ta:bI (E++G) w vt ai
 na:dh w τ.S vn gn aX
 ex:ey (E++G) w τ.T 2 ve ge (dG exprs)
 eG:G=b::(gn.toList++ge.toList)
 nd:(E++G).Nodup
 cZ:∀x,x∈E++G->x<w.heap.size
section
variable {τ:x5} {E G:List Nat} {w w':World} {b:Nat} {vt vn ve:Value} {gn ge:Option Nat} {ai aX:List aj} {exprs:List aA}
theorem jb.mem (h:jb τ E G w b vt vn ve gn ge ai aX exprs):x∈G↔x=b∨x∈gn.toList∨x∈ge.toList:=by rw[h.eG];simp
theorem jb.apart (h:jb τ E G w b vt vn ve gn ge ai aX exprs):E.Nodup∧b∉E∧(∀x,x∈gn.toList->x∉E∧x≠b)∧(∀x,x∈ge.toList->x∉E∧x≠b∧x∉gn.toList):=by
 have hn:=h.nd
 rw[h.eG,List.nodup_append,List.nodup_cons,List.nodup_append] at hn
 obtain⟨h1,⟨h2,h3,h4,h5⟩,h6⟩:=hn
 refine⟨h1,λhb=>h6 b hb b sm rfl,λx hx=>⟨λhe=>h6 x he x (by simp[hx]) rfl,λe=>h2 (by simp[<-e,hx])⟩,λx hx=>⟨λhe=>h6 x he x (by simp[hx]) rfl,λe=>h2 (by simp[<-e,hx]),λhy=>h5 x hy x hx rfl⟩⟩
theorem R9 {A B:Option Nat} {F:List Nat} {b:Nat} (h1:F.Nodup) (h2:b∉F) (ha:∀x,x∈A.toList->x∉F∧x≠b) (hb:∀x,x∈B.toList->x∉F∧x≠b∧x∉A.toList):(F++b::(A.toList++B.toList)).Nodup:=by
 rw[List.nodup_append,List.nodup_cons,List.nodup_append]
 refine⟨h1,⟨λh=>?_,Ak A,Ak B,λx hx y hy e=>(hb y hy).2.2 (e▸hx)⟩,λx hx y hy e=>?_⟩
 ·rcases mA.1 h with h|h
  ·exact(ha b h).2 rfl
  ·exact(hb b h).2.1 rfl
 ·rcases mC.1 hy with hy|hy
  ·exact h2 (by rw[<-hy,<-e];exact hx)
  ·rcases mA.1 hy with hy|hy
   ·exact(ha y hy).1 (e▸hx)
   ·exact(hb y hy).1 (e▸hx)
theorem jb.Sa (h:jb τ E G w b vt vn ve gn ge ai aX exprs) (hy:dh w' τ.S v g ys) (k:ak gn.toList w w') (hg:g=gn∨g=some w.heap.size):
  ∃G',jb τ E G' w' b vt v ve g ge ai ys exprs∧Fr G w G' w':=by
 obtain⟨a1,a2,a3,a4⟩:=h.apart
 have pd:∀x,x∈g.toList->x∈gn.toList∨x=w.heap.size:=λx hx=>by
  rcases hg with rfl|rfl
  ·exact .inl hx
  ·right;simpa using hx
 have eU:∀x,x∈E++G->x≠w.heap.size:=λx hx e=>by have:=h.cZ x hx;omega
 have hF:Fr G w (b::(g.toList++ge.toList)) w':=⟨k.mono λx hx=>h.mem.2 (by simp[hx]),λx hx=>by
  rcases mC.1 hx with rfl|hx
  ·exact .inl (h.mem.2 (.inl rfl))
  ·rcases mA.1 hx with hx|hx
   ·rcases pd x hx with h1|h1
    ·exact .inl (h.mem.2 (by simp[h1]))
    ·right;omega
   ·exact .inl (h.mem.2 (by simp[hx]))⟩
 have hN:(E++b::(g.toList++ge.toList)).Nodup:=R9 a1 a2 (λx hx=>by
  rcases pd x hx with h1|h1
  ·exact a3 x h1
  ·exact⟨λhe=>eU x (by simp[he]) h1,λe=>eU x (mR _ (h.mem.2 (.inl e))) h1⟩) (λx hx=>⟨(a4 x hx).1,(a4 x hx).2.1,λhy=>by
  rcases pd x hy with h1|h1
  ·exact(a4 x hx).2.2 h1
  ·exact eU x (mR _ (h.mem.2 (by simp[hx]))) h1⟩)
 refine⟨_,⟨h.ta.go (hF.in E),hy,h.ex.aO (hF.in E) k (λx hx hy=>(a4 x hx).2.2 hy),rfl,hN,λx hx=>?_⟩,hF⟩
 have hs:=k.size
 rcases mA.1 hx with hx|hx
 ·exact lL (h.cZ x (by simp[hx])) hs
 ·rcases mC.1 hx with rfl|hx
  ·exact lL (h.cZ x (mR _ (h.mem.2 (.inl rfl)))) hs
  ·rcases mA.1 hx with hx|hx
   ·exact hy.lt x hx
   ·exact lL (h.cZ x (mR _ (h.mem.2 (by simp[hx])))) hs
theorem jb.aO (h:jb τ E G w b vt vn ve gn ge ai aX exprs) {H:List Nat} (k:ak H w w') (hH:∀x,x∈H->x=b):jb τ E G w' b vt vn ve gn ge ai aX exprs:=by
 obtain⟨a1,a2,a3,a4⟩:=h.apart
 have hF:Fr (E++G) w (E++G) w':=Fr.of k λx hx=>mR _ (h.mem.2 (.inl (hH x hx)))
 exact⟨h.ta.go hF,h.na.aO k (λx hx hy=>(a3 x (by simp[hx])).2 (hH x hy)),h.ex.aO hF k (λx hx hy=>(a4 x hx).2.1 (hH x hy)),h.eG,h.nd,λx hx=>lL (h.cZ x hx) k.size⟩
theorem LY {w:World} {T:TypeId} (hx:aY w x #[] T):jX w T sz (.slice (some ⟨x,0,none⟩) 0 0) (some x) 0 []:=⟨by simp,.inr ⟨x,0,#[],rfl,rfl,hx,lR _,by decide,sm,sm⟩⟩
theorem Sb {w:World} {T:TypeId} (hx:aY w x #[] T):dh w T (.slice (some ⟨x,0,none⟩) 0 0) (some x) []:=LY hx
theorem LZ {w:World} {T:TypeId} (hx:aY w x #[] T):ey L w T sz (.slice (some ⟨x,0,none⟩) 0 0) (some x) []:=⟨⟨[],LY hx,trivial⟩,sm⟩
theorem jb.opened (h:jb τ E G w b vt vn ve gn ge ai aX exprs) (k:ak [b] w w') {y:Nat} (hx:aY w' x #[] τ.S) (hy:aY w' y #[] τ.T) (h1:w.heap.size<=x) (h2:x<y):
  jb τ (gn.toList++(ge.toList++E)) (b::[x,y]) w' b vt (.slice (some ⟨x,0,none⟩) 0 0) (.slice (some ⟨y,0,none⟩) 0 0) (some x) (some y) ai [] []∧
   dh w' τ.S vn gn aX∧ey (E++G) w' τ.T 2 ve ge (dG exprs)∧Fr G w (b::[x,y]) w':=by
 obtain⟨a1,a2,a3,a4⟩:=h.apart
 have eU:∀z,z∈E++G->z<w.heap.size:=h.cZ
 have hF:Fr (E++G) w ((gn.toList++(ge.toList++E))++(b::[x,y])) w':=⟨k.mono λz hz=>mR _ (h.mem.2 (.inl (by simpa using hz))),λz hz=>by
  simp only[mA,mC,List.not_mem_nil,or_false] at hz
  rcases hz with(hz|hz|hz)|hz|hz|hz
  ·exact .inl (mR _ (h.mem.2 (.inr (.inl hz))))
  ·exact .inl (mR _ (h.mem.2 (.inr (.inr hz))))
  ·exact .inl (List.mem_append_left _ hz)
  ·exact .inl (mR _ (h.mem.2 (.inl hz)))
  ·right;omega
  ·right;omega⟩
 have tJ:Fr (E++G) w (E++G) w':=Fr.of k λz hz=>mR _ (h.mem.2 (.inl (by simpa using hz)))
 have hb:b<w.heap.size:=eU b (mR _ (h.mem.2 (.inl rfl)))
 have pd:∀z,z∈gn.toList->z<w.heap.size:=λz hz=>eU z (mR _ (h.mem.2 (.inr (.inl hz))))
 have rL:∀z,z∈ge.toList->z<w.heap.size:=λz hz=>eU z (mR _ (h.mem.2 (.inr (.inr hz))))
 have hE:∀z,z∈E->z<w.heap.size:=λz hz=>eU z (List.mem_append_left _ hz)
 refine⟨⟨h.ta.go hF,Sb hx,LZ hy,rfl,?_,?_⟩,h.na.aO k (λz hz hy=>(a3 z (by simp[hz])).2 (by simpa using hy)),h.ex.aO tJ k (λz hz hy=>(a4 z hz).2.1 (by simpa using hy)),⟨k.mono λz hz=>h.mem.2 (.inl (by simpa using hz)),λz hz=>?_⟩⟩
 ·rw[List.nodup_append,List.nodup_append,List.nodup_append]
  refine⟨⟨Ak gn,⟨Ak ge,a1,λp hp q hq e=>(a4 p hp).1 (e▸hq)⟩,λp hp q hq e=>?_⟩,?_,λp hp q hq e=>?_⟩
  ·subst e
   rcases mA.1 hq with hq|hq
   ·exact(a4 p hq).2.2 hp
   ·exact(a3 p hp).1 hq
  ·simp only[List.nodup_cons,mC,List.not_mem_nil,or_false,not_false_eq_true,List.nodup_nil,and_true]
   omega
  ·subst e
   simp only[mC,List.not_mem_nil,or_false] at hq
   simp only[mA] at hp
   rcases hp with hp|hp|hp
   ·rcases hq with hq|hq|hq
    ·exact(a3 p hp).2 hq
    ·have:=pd p hp;omega
    ·have:=pd p hp;omega
   ·rcases hq with hq|hq|hq
    ·exact(a4 p hp).2.1 hq
    ·have:=rL p hp;omega
    ·have:=rL p hp;omega
   ·rcases hq with hq|hq|hq
    ·subst hq;exact a2 hp
    ·have:=hE p hp;omega
    ·have:=hE p hp;omega
 ·intro z hz
  simp only[mA,mC,List.not_mem_nil,or_false] at hz
  have hs:=k.size
  rcases hz with(hz|hz|hz)|hz|hz|hz
  ·have:=pd z hz;omega
  ·have:=rL z hz;omega
  ·have:=hE z hz;omega
  ·omega
  ·rw[hz];exact hx.lt
  ·rw[hz];exact hy.lt
 ·simp only[mC,List.not_mem_nil,or_false] at hz
  rcases hz with hz|hz|hz
  ·exact .inl (h.mem.2 (.inl hz))
  ·right;omega
  ·right;omega
theorem jb.closed {G2:List Nat} {BQ vn2 ve2:Value} {gn2 ge2:Option Nat} {acE:List aj} {acF:List aA} (h:jb τ E G w0 b vt vn ve gn ge ai aX exprs) 
  (h2:jb τ (gn.toList++(ge.toList++E)) G2 w b BQ vn2 ve2 gn2 ge2 ai acE acF) (hn:dh w τ.S vn gn aX) (he:ey (E++G) w τ.T 2 ve ge (dG exprs)) (hk:Fr G w0 G2 w) (k:ak [b] w w'):
  jb τ E G w' b BQ vn ve gn ge ai aX exprs∧Fr G w0 G w':=by
 obtain⟨a1,a2,a3,a4⟩:=h.apart
 have Fu:ak G w w':=k.mono λz hz=>h.mem.2 (.inl (by simpa using hz))
 have tJ:Fr (E++G) w (E++G) w':=Fr.of Fu λz hz=>mR _ hz
 have rR:∀z,z∈E++G->z∈(gn.toList++(ge.toList++E))++G2:=λz hz=>by
  rcases mA.1 hz with hz|hz
  ·simp[hz]
  ·rcases h.mem.1 hz with hz|hz|hz
   ·exact mR _ (h2.mem.2 (.inl hz))
   ·simp[hz]
   ·simp[hz]
 have x6:bI (E++G) w BQ ai:=h2.ta.fresh λz hz=>.inl (rR z hz)
 refine⟨⟨x6.go tJ,hn.aO k (λz hz hy=>(a3 z (by simp[hz])).2 (by simpa using hy)),he.aO tJ k (λz hz hy=>(a4 z hz).2.1 (by simpa using hy)),h.eG,h.nd,λz hz=>?_⟩,⟨hk.aO.since Fu λz hz=>.inl hz,λz hz=>.inl hz⟩⟩
 have:=h.cZ z hz
 have h3:=hk.aO.size
 have h4:=k.size
 omega
def m5V (n:Nat) (vt vn ve:Value):List Value:=[vt,.int .i64 (n:Int),vn,ve]
def M5 (τ:x5) (E G:List Nat) (w:World) (b:Nat) (ai:List aj) (n:Nat) (aX:List aj) (exprs:List aA):Prop:=∃vt vn ve gn ge,aY w b (m5V n vt vn ve).toArray τ.M∧jb τ E G w b vt vn ve gn ge ai aX exprs
theorem jb.ext (h:jb τ E G w b vt vn ve gn ge ai aX exprs) (k:ak [] w w'):jb τ E G w' b vt vn ve gn ge ai aX exprs:=h.aO k sm
theorem M5.ext {n:Nat} (h:M5 τ E G w b ai n aX exprs) (k:ak [] w w'):M5 τ E G w' b ai n aX exprs:=by
 obtain⟨vt,vn,ve,gn,ge,h1,h2⟩:=h
 exact⟨vt,vn,ve,gn,ge,h1.aO k sm,h2.ext k⟩
end
inductive It where
 |v (V:Value)
 |p (f:Value->World->Prop)
def It.F:It->Value->World->Prop
 | .v V=>λv _=>v=V
 | .p f=>f
def It.Iq:It->Bool
 | .v _=>true
 | .p _=>false
def dq (its:List It) (ds:List Nat) (w:World):List Nat->(List (Nat×Value)->Prop)->Prop
 |[],k=>k []
 |j::r,k=>match its.getD j (.p λ_ _=>True) with
  | .v V=>dq its ds w r λacc=>k ((ds.getD j 0,V)::acc)
  | .p f=>∀v,f v w->dq its ds w r λacc=>k ((ds.getD j 0,v)::acc)
theorem Ir {its:List It} {ds:List Nat} {vs:Nat->Value}:∀{deps:List Nat} {k:List (Nat×Value)->Prop},dq its ds w deps k->(∀j,j∈deps->qd (its.map It.F) j (vs j) w)->k (tn ds vs deps)
 |[],k,h,_=>h
 |j::r,k,h,hd=>by
  have hj:=hd j (List.mem_cons_self ..)
  unfold dq at h
  have hp:((its.getD j (.p λ_ _=>True)).F) (vs j) w:=by
   unfold qd at hj
   rw[gG] at hj⊢
   rw[List.getElem?_map] at hj
   cases e:its[j]? with
   |none=>trivial
   |some q=>rw[e] at hj;exact hj
  cases e:its.getD j (.p λ_ _=>True) with
  |v V=>
   rw[e] at h hp
   have hv:vs j=V:=hp
   subst hv
   exact Ir (deps:=r) h λi hi=>hd i (mK _ hi)
  |p f=>
   rw[e] at h hp
   exact Ir (deps:=r) (h _ hp) λi hi=>hd i (mK _ hi)
theorem Sd {F:List (Value->World->Prop)} {vs:Nat->Value}:∀{l:List Nat},HA F vs w l->∀j,j∈l->qd F j (vs j) w
 |[],_,j,h=>by cases h
 |[i],h,j,hj=>by rw[List.mem_singleton] at hj;subst hj;exact h
 |i::a::l,h,j,hj=>by
  rcases mC.1 hj with e|hj
  ·subst e;exact h.1
  ·exact Sd h.2 j hj
def Is (P:Program) (n:Nat) (ops:Array Oper) (W ds:List Nat) (its:List It) (e0:Env) (w0:World) (k:Nat) (o:Oper) (deps:List Nat):Prop:=
 ∀(x:Env) (w:World),ak [] w0 w->dq its ds w deps λacc=>OW P n ops (λe' w'=>ak [] w w'∧(its.getD k (.p λ_ _=>True)).F (e' (ds.getD k 0)) w'∧gv [ds.getD k 0] (aM (aN W x e0) acc) e') [o] (aM (aN W x e0) acc) w
def tK (P:Program) (n:Nat) (ops:Array Oper) (W ds:List Nat) (its:List It) (e0:Env) (w0:World):Nat->List Oper->List (List Nat)->Prop
 |_,[],_=>True
 |_,_::_,[]=>True
 |k,o::l,d::r=>Is P n ops W ds its e0 w0 k o d∧tK P n ops W ds its e0 w0 (k+1) l r
theorem vc {n:Nat} {ds:List Nat} {its:List It} {d:List Nat} {r:List (List Nat)} (h:Is P n ops W ds its e0 w0 k o d) (hr:tK P n ops W ds its e0 w0 (k+1) l r):tK P n ops W ds its e0 w0 k (o::l) (d::r):=⟨h,hr⟩
theorem Se {n:Nat} {ds:List Nat} {its:List It}:∀(l:List Oper) (deps:List (List Nat)) (k:Nat),tK P n ops W ds its e0 w0 k l deps->Bh (ak []) P n ops W ds (its.map It.F) e0 w0 k l deps
 |[],_,_,_=>trivial
 |_::_,[],_,_=>trivial
 |o::l,d::r,k,h=>by
  refine⟨λx vs w e hk hd he=>?_,Se l r (k+1) h.2⟩
  have:=Ir (h.1 x w hk) (vs:=vs) (Sd hd)
  subst he
  have e2:qd (its.map It.F) k=(its.getD k (.p λ_ _=>True)).F:=by
   unfold qd
   rw[gG,gG,List.getElem?_map]
   cases its[k]?<;>rfl
  rw[e2]
  exact this
def Fw:List It->Prop
 |[]=>True
 | .v _::r=>Fw r
 | .p f::r=>(∀v w w',f v w->ak [] w w'->f v w')∧Fw r
theorem Ma:∀{its:List It},Fw its->tq (ak []) (its.map It.F)
 |[],_=>trivial
 | .v _::r,h=>⟨λv w w' e _=>e,Ma (its:=r) h⟩
 | .p f::r,h=>⟨h.1,Ma (its:=r) h.2⟩
theorem Sf:∀{its:List It},its.all It.Iq=true->Fw its
 |[],_=>trivial
 | .v _::r,h=>Sf (its:=r) (by simpa[It.Iq] using h)
 | .p f::r,h=>by simp[It.Iq] at h
section
variable {P:Program} {n:Nat} {l:List Oper} {m:Nat} {W ds:List Nat} {deps:List (List Nat)}
theorem wC {N R:Env->World->Prop} {X:Nat->Env->World->Prop} {id:Nat} {e0:Env} {w0:World} (hm:P.follows .mixedOrders=true) (m:Nat) (W ds:List Nat) (deps:List (List Nat)) (its:List It) 
  (hB:vU l m W ds deps=true) (hS:Fw its)
  (hc:∀wd,ak [] w0 wd->tK P n l.toArray W ds its e0 wd 0 (l.take m) deps)
  (ht:∀(x:Env) (w:World),ak [] w0 w->dq its ds w (List.range m) λacc=>OW P n l.toArray N (l.drop m) (aM (aN W x e0) acc) w):
  CW P n (.region id l.toArray true) N R X e0 w0:=
 qf hm aS m W ds deps (its.map It.F) hB (Ma hS) (λwd hk=>Se _ _ _ (hc wd hk)) λx vs w hk Kr=>
  Ir (ht x w hk) (vs:=vs) λj hj=>Kr j (List.mem_range.1 hj)
theorem mx {N R:Env->World->Prop} {X:Nat->Env->World->Prop} {id:Nat} {e0:Env} {w0:World} (hm:P.follows .mixedOrders=true) (m:Nat) (W ds:List Nat) (deps:List (List Nat)) (its:List It) 
  (hB:vU l m W ds deps=true) (hS:its.all It.Iq=true)
  (hc:∀wd,ak [] w0 wd->tK P n l.toArray W ds its e0 wd 0 (l.take m) deps)
  (ht:∀(x:Env) (w:World),ak [] w0 w->dq its ds w (List.range m) λacc=>OW P n l.toArray N (l.drop m) (aM (aN W x e0) acc) w):
  CW P n (.region id l.toArray true) N R X e0 w0:=wC hm m W ds deps its hB (Sf hS) hc ht
end
section
variable {P:Program} {n:Nat} {ops:Array Oper} {e:Env} {w w':World}
theorem pv {V:Value} (h:v=V:=by rfl):OW P n ops (λe' w'=>ak [] w w'∧(It.v V).F (e' d) w'∧gv [d] e e') [] (cO e (some d) v) w:=
 ag ⟨ak.refl _ _,by subst h;exact nJ _ _ _,qO⟩
theorem pk {V:Value} (k:ak [] w w') (h:v=V:=by rfl):OW P n ops (λe' w'=>ak [] w w'∧(It.v V).F (e' d) w'∧gv [d] e e') [] (cO e (some d) v) w':=
 ag ⟨k,by subst h;exact nJ _ _ _,qO⟩
theorem pf {f:Value->World->Prop} (k:ak [] w w') (h:f v w'):OW P n ops (λe' w'=>ak [] w w'∧(It.p f).F (e' d) w'∧gv [d] e e') [] (cO e (some d) v) w':=
 ag ⟨k,by show f (kI e d v d) w';rw[nJ];exact h,qO⟩
end
theorem vk {n:Nat} {ds:List Nat} {its:List It} {wz:World} {d:List Nat} {r:List (List Nat)} (aB:ak [] wz w0) (h:∀(x:Env) (w:World),ak [] wz w->dq its ds w d λacc=>OW P n ops (λe' w'=>ak [] w w'∧(its.getD k (.p λ_ _=>True)).F (e' (ds.getD k 0)) w'∧gv [ds.getD k 0] (aM (aN W x e0) acc) e') [o] (aM (aN W x e0) acc) w) (hr:tK P n ops W ds its e0 w0 (k+1) l r):tK P n ops W ds its e0 w0 k (o::l) (d::r):=vc (λx w hk=>h x w (ak.trans aB hk)) hr
theorem eM {n:Nat} {ds:List Nat} {its:List It} {d:List Nat} {r:List (List Nat)} (hr:tK P n ops W ds its e0 w0 (k+1) l r) (h:Is P n ops W ds its e0 w0 k o d:=by exact λ_ _ _=>zm pv):tK P n ops W ds its e0 w0 k (o::l) (d::r):=⟨h,hr⟩
theorem vcs {n:Nat} {ds:List Nat} {its:List It} {d:List Nat} {r:List (List Nat)} (hr:tK P n ops W ds its e0 w0 (k+1) l r) (h:Is P n ops W ds its e0 w0 k o d:=by exact λ_ _ _=>Kd rfl rfl pv):tK P n ops W ds its e0 w0 k (o::l) (d::r):=⟨h,hr⟩
end Go.Proofs.YtigijcjccmdmhaaGreatDoor
