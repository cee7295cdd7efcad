/- Lemmas for the law FnFind, no statement of their own: no conditions. -/
import Derived.Test.YtigijcjccmdmhaaGreatDoorFa
import Derived.Laws.IdiomStrings
import Derived.Laws.MakeOwn
import Derived.Lib.Atoi
import Derived.Lib.Strings
namespace Go.Proofs.YtigijcjccmdmhaaGreatDoor
open Go
variable {B E U b bytes c d i k m m' n2 off sz x:Nat} {G L L' L1 W:List Nat} {w w' w0 w1 w2:World} {v v1 v3 v4 v5 v6 v8 z:Value} {g gb:Option Nat} {rows:List (List C)} {p t:aA} {ps ts:List aA} {P:Program} {ops:Array Oper} {bs:List Bk} {xs ys:List aj} {vs:List Value} {gss:List (Option Nat×Option Nat)} {vss:List (List Value)} {h r s:aj} {a:Option Addr} {e0:Env} {o:Oper} {l:List Oper}
structure Gr (B:Nat) (L:List Nat) (w:World) (T:TypeId) (sz:Nat) (v:Value) (g:Option Nat) (rows:List (List C)):Prop where
 own:∃xs,ig L w T sz v g rows xs
 low:∀b,g=some b->B<=b
 cZ:∀x,x∈L->x<w.heap.size
 bsz:B<=w.heap.size
theorem Gr.nil {T:TypeId} (hL:∀x,x∈L->x<w.heap.size) (hB:B<=w.heap.size):Gr B L w T sz (.slice none 0 0) none []:=
 ⟨⟨[],ig.nil _ _ _ _⟩,sm,hL,hB⟩
theorem Gr.aO {T:TypeId} (h:Gr B L w T sz v g rows) (k:ak L' w w') (hL:∀x,x∈L'->x∈L):Gr B L w' T sz v g rows:=
 ⟨h.own.imp λ_ h=>h.aO k hL,h.low,λx hx=>lL (h.cZ x hx) k.size,Nat.le_trans h.bsz k.size⟩
theorem Gr.ext {T:TypeId} (h:Gr B L w T sz v g rows) (k:ak [] w w'):Gr B L w' T sz v g rows:=h.aO k sm
theorem Gr.aL {T:TypeId} (h:Gr B L w T sz v g rows) (k:ak L' w w') (hL:∀x,x∈L'->x∈L):Gr B L w' T sz v g rows:=h.aO k hL
theorem Gr.alloc {T:TypeId} (h:Gr B L w T sz v g rows) (k:ak [] w w') (hz:w'.heap.size=w.heap.size+1):Gr B (w.heap.size::L) w' T sz v g rows:=
 ⟨h.own.imp λ_ h=>(h.more zg).aO k sm,h.low,λx hx=>by rcases mC.1 hx with rfl|hx;omega;have:=h.cZ x hx;omega,Nat.le_trans h.bsz k.size⟩
theorem Gr.ji {T:TypeId} (h:Gr B L w T sz v g rows) (hL:∀x,x∈L'->x∈L):Gr B L' w T sz v g rows:=
 ⟨h.own.imp λ_ h=>h.more λx hx=>.inl (hL x hx),h.low,λx hx=>h.cZ x (hL x hx),h.bsz⟩
theorem Gr.done {T:TypeId} (h:Gr B L w T sz v g rows):cD L w v (.sl sz rows):=by
 obtain⟨_,h⟩:=h.own;exact h.done
theorem Gr.Dk {T:TypeId} (h:Gr B L w T sz v g rows) (hb:b∈L):b∉g.toList:=by
 obtain⟨_,h⟩:=h.own;exact h.sep hb
theorem Gr.Qz {T:TypeId} (h:Gr B L w T sz v g rows) (hb:b<B):b∉g.toList:=by
 intro hx;have:=h.low b (by simpa using hx);omega
theorem Gr.lt {T:TypeId} (h:Gr B L w T sz v g rows):∀x,x∈g.toList->x<w.heap.size:=by
 obtain⟨_,h⟩:=h.own;intro x hx;exact h.own.lt x (by simpa using hx)
theorem Gr.all {T:TypeId} (h:Gr B L w T sz v g rows):∀x,x∈g.toList++L->x<w.heap.size:=by
 intro x hx
 rcases mA.1 hx with hx|hx
 ·exact h.lt x hx
 ·exact h.cZ x hx
theorem Gr.since {T:TypeId} (h:Gr w0.heap.size L w T sz v g rows) (k0:ak L' w0 w) (k:ak g.toList w w'):ak L' w0 w':=
 k0.since k λx hx=>.inr (h.low x (by simpa using hx))
theorem ak.QA (hB:w0.heap.size<=B) (hl:∀b,g=some b->B<=b) (k0:ak L' w0 w) (k:ak g.toList w w'):ak L' w0 w':=
 k0.since k λx hx=>.inr (Nat.le_trans hB (hl x (by simpa using hx)))
section
variable {P:Program} {n:Nat} {ops:Array Oper} {K:Env->World->Prop} {rest:List Oper} {e:Env} {w:World}
 {dst:Option Nat} {ty:TypeId} {pos:String} {after:Array Edge} {g:Option (Nat×Bool)} {x y:Operand}
theorem HO {B:Nat} {L:List Nat} {t:Nat} {v:Value} {gb:Option Nat} {rows:List (List C)} {row:List C} {news:List Value} {b U:Nat} (hT:P.underlying t=some (.slice E)) (hE:TI P E sz bytes z) (hg:gate ops e g=true) (hd:dw n dst=true) (hz:Nat.beq z.cells.size sz=true) (ie:Nat.ble bytes 1000=true) 
  (hx:ev e x=v) (hy:ev e y= .slice (some ⟨b,0,none⟩) 1 1) (hO:Gr B L w E sz v gb rows) (hb:aY w b news.toArray U) (iX:row.length=sz) (h1:news.all Value.oneCell'=true)
  (hr:dP (gb.toList++L) w news row) (hn:rows.length<100000000)
  (k:∀a' cap' g' w',Gr B L w' E sz (.slice a' (rows.length+1) cap') g' (rows++[row])->ak gb.toList w w'->OW P n ops K rest (cO e dst (.slice a' (rows.length+1) cap')) w'):
  OW P n ops K (⟨dst,.call {callee:=.builtin .append,args:=#[x,y],argTypes:=#[t,t]},ty,pos,after,g⟩::rest) e w:=by
 obtain⟨xs,hR⟩:=hO.own
 have Dl:bytes<=1000:=Nat.le_of_ble_eq_true ie
 refine PD hT hE hg hd hz hx hy hR iX hb.all (λu hu=>List.all_eq_true.1 h1 u hu) hr hO.cZ (Nat.le_trans (Nat.mul_le_mul (show rows.length+1<=100000000 by omega) (show bytes+1<=1001 by omega)) de) ?_
 intro a' cap' g' w' ko hk kZ
 refine k a' cap' g' w' ⟨⟨_,ko⟩,λb hb=>?_,λx hx=>lL (hO.cZ x hx) hk.size,Nat.le_trans hO.bsz hk.size⟩ hk
 rcases kZ with h|h
 ·rw[h] at hb;exact hO.low b hb
 ·rw[h] at hb;cases hb;exact hO.bsz
theorem KZ {B:Nat} {L:List Nat} {t:Nat} {v u1 u2:Value} {gb:Option Nat} {ts:List aA} {f:aA} {b U:Nat} (hT:P.underlying t=some (.slice E)) (hE:TI P E 2 bytes z) (hg:gate ops e g=true) (hd:dw n dst=true) (hz:Nat.beq z.cells.size 2=true) (ie:Nat.ble bytes 1000=true) 
  (hx:ev e x=v) (hy:ev e y= .slice (some ⟨b,0,none⟩) 1 1) (hO:Gr B L w E 2 v gb (dD ts)) (hb:aY w b [u1,u2].toArray U)
  (hr:bS (gb.toList++L) w (.agg #[u1,u2]) f) (hn:ts.length<100000000)
  (k:∀a' cap' g' w',Gr B L w' E 2 (.slice a' (ts++[f]).length cap') g' (dD (ts++[f]))->ak gb.toList w w'->OW P n ops K rest (cO e dst (.slice a' (ts++[f]).length cap')) w'):
  OW P n ops K (⟨dst,.call {callee:=.builtin .append,args:=#[x,y],argTypes:=#[t,t]},ty,pos,after,g⟩::rest) e w:=by
 refine HO hT hE hg hd hz ie hx hy hO hb (oT f) ?_ hr.kO (by rw[iG];exact hn) ?_
 ·rw[List.all_eq_true]
  refine λu hu=>dP.ET hr.kO (λc hc v hv=>?_) u hu
  cases f;rw[aA.enc] at hc
  simp only[mC,List.not_mem_nil,or_false] at hc
  rcases hc with h|h
  ·rw[h] at hv;cases hv;rfl
  ·rw[h] at hv;cases hv
 ·intro a' cap' g' w' ko hk
  have e1:(dD ts).length+1=(ts++[f]).length:=by simp[iG]
  have e2:dD ts++[f.enc]=dD (ts++[f]):=by simp[Ko,dD]
  rw[e1] at ko⊢
  rw[e2] at ko
  exact k a' cap' g' w' ko hk
end
theorem QB {P:Program} {T:Nat} (hT:P.underlying T=some (.slice E)) (hE:TI P E sz bytes z):(Instr.buildSlice T 0 #[]).run P w= .ok (.slice (some ⟨w.heap.size,0,none⟩) 0 0) (w.alloc (.cells #[] E)):=by
 simp[Instr.buildSlice,Sem.run_bind,run_underlying hT,Result.andThen_ok,hE.ti,Instr.fill,newRow];congr 2;apply Array.ext<;>simp
theorem zJ {P:Program} {n:Nat} {ops:Array Oper} {K:Env->World->Prop} {rest:List Oper} {e:Env} {w:World} {dst:Option Nat} {ty:TypeId} {pos:String} {after:Array Edge} {g:Option (Nat×Bool)} 
  {T E sz bytes:Nat} {z:Value} (B:Nat) (L:List Nat) (hT:P.underlying T=some (.slice E)) (hE:TI P E sz bytes z) (hg:gate ops e g=true) (hd:dw n dst=true) (hB:B<=w.heap.size) (hL:∀x,x∈L->x<w.heap.size)
  (k:∀w',ak [] w w'->w'.heap.size=w.heap.size+1->Gr B L w' E sz (.slice (some ⟨w.heap.size,0,none⟩) 0 0) (some w.heap.size) []->OW P n ops K rest (cO e dst (.slice (some ⟨w.heap.size,0,none⟩) 0 0)) w'):
  OW P n ops K (⟨dst,.buildSlice T 0 #[],ty,pos,after,g⟩::rest) e w:=
 fR hg hd (w':=w.alloc (.cells #[] E)) (by simp[execOp,QB (P:=P) (w:=w) hT hE])
  (k _ (ak.alloc _ _ _) sm ⟨⟨[],⟨by simp,.inr ⟨w.heap.size,0,#[],rfl,rfl,aY.alloc _ _ _,lR _,by decide,sm,sm⟩⟩,trivial,sm,by intro b hb hx;cases hb;have:=hL _ hx;omega⟩,
   by intro b hb;cases hb;exact hB,λx hx=>by have:=hL x hx;simp;omega,by simp;omega⟩)
theorem qS.kO {x y:Value} {b:Bk} (h:qS L w (.agg #[x,y,z]) b):dP L w [x,y,z] b.enc:=by
 obtain⟨vs,he,hr⟩:=h
 have hv:vs=[x,y,z]:=by
  have:=congrArg (λv=>match v with|Value.agg x=>x.toList|_=>[]) he
  simpa using this.symm
 rw[<-hv];exact hr
theorem aaz {P:Program} {n:Nat} {ops:Array Oper} {K:Env->World->Prop} {rest:List Oper} {e:Env} {w:World} {dst:Option Nat} {ty:TypeId} {pos:String} {after:Array Edge} {g:Option (Nat×Bool)} {x y:Operand} 
  {B:Nat} {L:List Nat} {t E bytes:Nat} {z:Value} {v u1 u2 u3:Value} {gb:Option Nat} {ts:List Bk} {f:Bk} {b U:Nat} (hT:P.underlying t=some (.slice E)) (hE:TI P E 3 bytes z) (hg:gate ops e g=true) (hd:dw n dst=true) (hz:Nat.beq z.cells.size 3=true) (ie:Nat.ble bytes 1000=true)
  (hx:ev e x=v) (hy:ev e y= .slice (some ⟨b,0,none⟩) 1 1) (hO:Gr B L w E 3 v gb (ts.map Bk.enc)) (hb:aY w b [u1,u2,u3].toArray U)
  (hr:qS (gb.toList++L) w (.agg #[u1,u2,u3]) f) (hn:ts.length<100000000)
  (k:∀a' cap' g' w',Gr B L w' E 3 (.slice a' (ts++[f]).length cap') g' ((ts++[f]).map Bk.enc)->ak gb.toList w w'->OW P n ops K rest (cO e dst (.slice a' (ts++[f]).length cap')) w'):
  OW P n ops K (⟨dst,.call {callee:=.builtin .append,args:=#[x,y],argTypes:=#[t,t]},ty,pos,after,g⟩::rest) e w:=by
 refine HO hT hE hg hd hz ie hx hy hO hb rfl ?_ hr.kO (by simpa using hn) ?_
 ·rw[List.all_eq_true]
  refine λu hu=>dP.ET hr.kO (λc hc v hv=>?_) u hu
  rw[Bk.enc] at hc
  simp only[mC,List.not_mem_nil,or_false] at hc
  rcases hc with h|h|h
  ·rw[h] at hv;cases hv;rfl
  ·rw[h] at hv;cases hv
  ·rw[h] at hv;cases hv
 ·intro a' cap' g' w' ko hk
  have e1:(ts.map Bk.enc).length+1=(ts++[f]).length:=by simp
  have e2:ts.map Bk.enc++[f.enc]=(ts++[f]).map Bk.enc:=by simp
  rw[e1] at ko⊢
  rw[e2] at ko
  exact k a' cap' g' w' ko hk
theorem Gr.xH {T:TypeId} (h:Gr B L w T 3 v g (bs.map Bk.enc)):km L w v bs:=h.done
/-! ### Owned lists of texts,owned programs -/
def dh (w:World) (T:TypeId) (v:Value) (g:Option Nat) (xs:List aj):Prop:=jX w T 1 v g xs.length (xs.map λx=>str x)
theorem QC:∀{xs:List aj} {vs:List Value},dP L w vs (jh xs).flatten->vs=xs.map λx=>str x
 |[],vs,h=>by
  cases vs with
  |nil=>rfl
  |cons v vs=>exact h.elim
 |x::xs,vs,h=>by
  cases vs with
  |nil=>exact h.elim
  |cons v vs=>
   obtain⟨h1,h2⟩:=h
   cases h1
   rw[List.map_cons,<-QC (xs:=xs) h2]
theorem QD:∀xs:List aj,dP L w (xs.map λx=>str x) (jh xs).flatten
 |[]=>trivial
 |_::xs=>⟨.val _,QD xs⟩
theorem Gr.vY {T:TypeId} (h:Gr B L w T 1 v g (jh xs)):dh w T v g xs:=by
 obtain⟨vs,h⟩:=h.own
 have:=h.own
 rw[QC h.rep,rM] at this
 exact this
theorem dh.aaA {T:TypeId} (h:dh w T v g xs) (hL:∀b,g=some b->b∉L):ig L w T 1 v g (jh xs) (xs.map λx=>str x):=
 ⟨by rw[rM];exact h,QD xs,by intro row hr;simp[jh] at hr;obtain⟨_,_,rfl⟩:=hr;rfl,hL⟩
theorem dh.rep {T:TypeId} (h:dh w T v g xs) (hL:∀b,g=some b->b∉L):bI L w v xs:=(h.aaA hL).done
theorem dh.aO {T:TypeId} (h:dh w T v g xs) (k:ak L w w') (hL:∀b,g=some b->b∉L):dh w' T v g xs:=jX.aO h k hL
theorem dh.ext {T:TypeId} (h:dh w T v g xs) (k:ak [] w w'):dh w' T v g xs:=h.aO k sm
def qk (w:World) (T:TypeId) (gs:Option Nat×Option Nat) (vs:List Value) (b:Bk):Prop:=
 ∃v1 v2,vs=[str b.aP,v1,v2]∧dh w T v1 gs.1 b.cN∧dh w T v2 gs.2 b.code
def jM (gs:Option Nat×Option Nat):List Nat:=gs.1.toList++gs.2.toList
def ik (gss:List (Option Nat×Option Nat)):List Nat:=gss.flatMap jM
theorem qk.aO {T:TypeId} {gs:Option Nat×Option Nat} {b:Bk} (h:qk w T gs vs b) (k:ak L w w') (hL:∀x,x∈jM gs->x∉L):qk w' T gs vs b:=by
 obtain⟨v1,v2,e,h1,h2⟩:=h
 exact⟨v1,v2,e,h1.aO k (λb hb=>hL b (by simp[jM,hb])),h2.aO k (λb hb=>hL b (by simp[jM,hb]))⟩
def js (w:World) (T:TypeId):List (Option Nat×Option Nat)->List (List Value)->List Bk->Prop
 |[],[],[]=>True
 |g::gs,v::vs,b::bs=>qk w T g v b∧js w T gs vs bs
 |_,_,_=>False
theorem js.aO {T:TypeId} (k:ak L w w'):∀{gss:List (Option Nat×Option Nat)} {vss:List (List Value)} {bs:List Bk},js w T gss vss bs->(∀x,x∈ik gss->x∉L)->js w' T gss vss bs
 |[],[],[],_,_=>trivial
 |g::gs,v::vs,b::bs,h,hL=>⟨h.1.aO k (λx hx=>hL x (by simp[ik,hx])),js.aO k h.2 (λx hx=>hL x (by simp[ik] at hx⊢;exact .inr hx))⟩
theorem js.snoc {T:TypeId}:∀{gss:List (Option Nat×Option Nat)} {vss:List (List Value)} {bs:List Bk} {g:Option Nat×Option Nat} {v:List Value} {b:Bk},js w T gss vss bs->qk w T g v b->js w T (gss++[g]) (vss++[v]) (bs++[b])
 |[],[],[],_,_,_,_,h=>⟨h,trivial⟩
 |_::_,_::_,_::_,_,_,_,h,k=>⟨h.1,js.snoc h.2 k⟩
theorem js.lens {T:TypeId}:∀{gss:List (Option Nat×Option Nat)} {vss:List (List Value)} {bs:List Bk},js w T gss vss bs->gss.length=bs.length∧vss.length=bs.length∧∀row,row∈vss->row.length=3
 |[],[],[],_=>by simp
 |g::gs,v::vs,b::bs,h=>by
  obtain⟨h1,h2,h3⟩:=js.lens h.2
  refine⟨by simp[h1],by simp[h2],λrow hr=>?_⟩
  rcases mC.1 hr with rfl|hr
  ·obtain⟨v1,v2,rfl,_⟩:=h.1;rfl
  ·exact h3 row hr
theorem js.get {T:TypeId}:∀{gss:List (Option Nat×Option Nat)} {vss:List (List Value)} {bs:List Bk},js w T gss vss bs->∀{i:Nat} {b:Bk},bs[i]?=some b->∃g v,gss[i]?=some g∧vss[i]?=some v∧qk w T g v b
 |_::_,_::_,_::_,h,0,b,hb=>by simp at hb;subst hb;exact⟨_,_,rfl,rfl,h.1⟩
 |_::gs,_::vs,_::bs,h,i+1,b,hb=>by
  obtain⟨g,v,h1,h2,h3⟩:=js.get h.2 (i:=i) (by simpa using hb)
  exact⟨g,v,by simpa using h1,by simpa using h2,h3⟩
 |[],[],[],_,i,b,hb=>by simp at hb
theorem js.Bz {T:TypeId}:∀{gss:List (Option Nat×Option Nat)} {vss:List (List Value)} {bs:List Bk},js w T gss vss bs->(∀x,x∈ik gss->x∉L)->dP L w vss.flatten (bs.map Bk.enc).flatten
 |[],[],[],_,_=>trivial
 |g::gs,v::vs,b::bs,h,hL=>by
  obtain⟨v1,v2,rfl,h1,h2⟩:=h.1
  refine⟨.val _,h1.rep (λb hb=>hL b (by simp[ik,jM,hb])),h2.rep (λb hb=>hL b (by simp[ik,jM,hb])),?_⟩
  exact js.Bz h.2 (λx hx=>hL x (by simp[ik] at hx⊢;exact .inr hx))
structure mo (w:World) (TB TS:TypeId) (v:Value) (g:Option Nat) (gss:List (Option Nat×Option Nat)) (vss:List (List Value)) (bs:List Bk):Prop where
 own:jX w TB 3 v g bs.length vss.flatten
 rows:js w TS gss vss bs
 nodup:(g.toList++ik gss).Nodup
 lt:∀x,x∈ik gss->x<w.heap.size
theorem mo.aO {TB TS:TypeId} (h:mo w TB TS v g gss vss bs) (k:ak L w w') (hL:∀x,x∈g.toList++ik gss->x∉L):mo w' TB TS v g gss vss bs:=
 ⟨h.own.aO k (λb hb=>hL b (by simp[hb])),h.rows.aO k (λx hx=>hL x (by simp[hx])),h.nodup,λx hx=>lL (h.lt x hx) k.size⟩
theorem mo.ext {TB TS:TypeId} (h:mo w TB TS v g gss vss bs) (k:ak [] w w'):mo w' TB TS v g gss vss bs:=h.aO k sm
theorem mo.rep {TB TS:TypeId} (h:mo w TB TS v g gss vss bs) (hL:∀x,x∈g.toList++ik gss->x∉L):km L w v bs:=by
 have hd:=(List.nodup_append.1 h.nodup).2.2
 refine ig.done (L:=L) (w:=w) (T:=TB) (g:=g) (xs:=vss.flatten) ⟨by simpa using h.own,h.rows.Bz λx hx=>?_,?_,λb hb=>hL b (by simp[hb])⟩
 ·intro hc
  rcases mA.1 hc with hc|hc
  ·exact hd x hc x hx rfl
  ·exact hL x (by simp[hx]) hc
 ·intro row hr
  obtain⟨b,_,rfl⟩:=List.mem_map.1 hr
  rfl
theorem bS.K0 {A B:List Nat} (h:bS (b::(A++B)) w v t):bS (A++(b::B)) w v t:=kB.fresh h λx hx=>.inl (PA x hx)
theorem bS.ji (h:bS L w v t) (hL:∀x,x∈L'->x∈L):bS L' w v t:=kB.fresh h λx hx=>.inl (hL x hx)
theorem fG.ji {t:List aA} (h:fG L w v t) (hL:∀x,x∈L'->x∈L):fG L' w v t:=cD.fresh h λx hx=>.inl (hL x hx)
theorem Gr.trees {T:TypeId} (h:Gr B L w T 2 v g (dD ts)):fG L w v ts:=h.done
theorem aaB (s:aj):Lib.trimPrefix s [45]=ew s:=by
 unfold Lib.trimPrefix Lib.hasPrefix ew
 cases s with
 |nil=>simp
 |cons c r=>
  by_cases h:c=45
  ·subst h;simp
  ·have h2:((45:UInt8)==c)=false:=by simpa using λhe=>h he.symm
   simp[List.isPrefixOf,h2,h]
theorem QE:∀(l:aj) (n:Nat),l.all ij=true->Lib.decFrom n l=some (l.foldl (λn c=>10*n+(c.toNat-48)) n)
 |[],n,_=>rfl
 |c::r,n,h=>by
  simp only[List.all_cons,aE] at h
  have hc:=(Bq c).1 h.1
  have hd:Lib.digitVal c=some (c.toNat-48):=by unfold Lib.digitVal;rw[iP hc]
  simp only[Lib.decFrom,hd,List.foldl_cons]
  rw[show n*10+(c.toNat-48)=10*n+(c.toNat-48) from by omega]
  exact QE r _ h.2
theorem aaC {l:aj} (hl:l≠[]) (h:l.all ij=true):Lib.decNat l=some (val l):=by
 unfold Lib.decNat
 rw[iN (by simpa using hl)]
 exact QE l 0 h
theorem aaD {z:Int} (h:numeral s=some z):Lib.atoi s=some z:=by
 unfold numeral at h
 by_cases h0:s=[48]
 ·rw[iP h0] at h;subst h0;rw[<-h];decide
 ·rw[iN h0] at h
  by_cases h1:(ew s).length<1∨3<(ew s).length∨(ew s).getD 0 0=48
  ·rw[iP h1] at h;cases h
  ·rw[iN h1] at h
   by_cases h2:(ew s).all ij=true
   ·rw[iP h2] at h
    have eK:ew s≠[]:=λhe=>h1 (.inl (by rw[he];simp))
    have hv:=aaC eK h2
    cases s with
    |nil=>exact absurd (by unfold ew;simp) eK
    |cons c r=>
     by_cases hc:c=45
     ·subst hc
      have hd:ew (45::r)=r:=by unfold ew;simp
      have hs:qP (45::r)= -1:=by unfold qP;simp
      rw[hd] at hv h
      rw[hs] at h
      simp only[Lib.atoi,hv,beq_self_eq_true,if_true,Option.map_some]
      rw[<-h];simp
     ·have hd:ew (c::r)=c::r:=by unfold ew;simp[hc]
      have hs:qP (c::r)=1:=by unfold qP;simp[hc]
      rw[hd] at hv h h2
      rw[hs] at h
      have QF:=(Bq c).1 (by simp only[List.all_cons,aE] at h2;exact h2.1)
      have e1:(c==45)=false:=by simpa using hc
      have e2:(c==43)=false:=by
       have:c≠43:=λhe=>by rw[he] at QF;exact absurd QF.1 de
       simpa using this
      simp only[Lib.atoi,e1,e2,hv,Bool.false_eq_true,if_false,Option.map_some]
      rw[<-h];simp
   ·rw[iN h2] at h;cases h
theorem QG {z:Int} (h:numeral s=some z):s.length<=4:=by
 unfold numeral at h
 by_cases h0:s=[48]
 ·rw[h0];simp
 ·rw[iN h0] at h
  by_cases h1:(ew s).length<1∨3<(ew s).length∨(ew s).getD 0 0=48
  ·rw[iP h1] at h;cases h
  ·have:s.length<=(ew s).length+1:=by unfold ew;split<;>simp<;>omega
   omega
theorem aaE (s:aj):(decide (s=[48])||(decide (1<=(ew s).length)&&decide ((ew s).length<=3)&&(ew s).all ij&&decide ((ew s).getD 0 0≠48)))=(numeral s).isSome:=by
 unfold numeral
 by_cases h0:s=[48]
 ·rw[iP h0,dT h0];rfl
 ·rw[iN h0,dF h0,Bool.false_or]
  by_cases h1:(ew s).length<1∨3<(ew s).length∨(ew s).getD 0 0=48
  ·rw[iP h1]
   rcases h1 with h|h|h
   ·rw[dF (p:=1<=(ew s).length) om];rfl
   ·rw[dF (p:=(ew s).length<=3) om];simp
   ·rw[dF (p:=(ew s).getD 0 0≠48) (λhh=>hh h)];simp
  ·rw[iN h1]
   rw[dT (p:=1<=(ew s).length) om,dT (p:=(ew s).length<=3) om,dT (p:=(ew s).getD 0 0≠48) (λhh=>h1 (.inr (.inr hh)))]
   cases h2:(ew s).all ij<;>simp
theorem aaF (s:aj):((numeral s).isSome&&(decide (0<=(numeral s).getD 0)&&decide ((numeral s).getD 0<=39)))=uF s:=by
 unfold uF zC
 cases h:numeral s with
 |none=>simp
 |some n=>
  simp only[Option.isSome_some,Bool.true_and,Option.getD_some]
  rw[<-Bool.decide_and]
  exact decide_eq_decide.2 (by split<;>omega)
theorem aaG (hk:k<s.length) (h:ij (s.getD k 0)=false):s.all ij=false:=by
 cases ha:s.all ij with
 |false=>rfl
 |true=>
  have:=List.all_eq_true.1 ha (s.getD k 0) (by rw[gG,gE hk];exact List.getElem_mem hk)
  rw[h] at this;cases this
theorem aaH (s:aj):(decide (s=[48])||(decide ((1:Int)<=((ew s).length:Int))&&decide (((ew s).length:Int)<=3)&&(ew s).all ij&&decide ((((ew s).getD 0 0).toNat:Int)≠48)))=(numeral s).isSome:=by
 rw[<-aaE,show decide ((1:Int)<=((ew s).length:Int))=decide (1<=(ew s).length) from decide_eq_decide.2 om,show decide (((ew s).length:Int)<=3)=decide ((ew s).length<=3) from decide_eq_decide.2 om,
  show decide ((((ew s).getD 0 0).toNat:Int)≠48)=decide ((ew s).getD 0 0≠48) from decide_eq_decide.2 (by
   have P2:(48:UInt8).toNat=48:=rfl
   constructor
   ·intro h h2;exact h (by rw[h2];rfl)
   ·intro h h2;exact h (UInt8.toNat_inj.1 om))]
def BA (ts:List aA) (g:aA->Bool):Int:=match ts.findIdx? g with
 |some i=>(i:Int)
 |none=> -1
theorem E9 (h:i<ts.length):nth ts i=ts[i]:=by simp[nth,List.getD,gE h]
theorem aaI {g:aA->Bool} (hk:k<ts.length) (h:∀i,i<k->g (nth ts i)=false) (hl:g (nth ts k)=true):BA ts g=(k:Int):=by
 have:ts.findIdx? g=some k:=by
  rw[List.findIdx?_eq_some_iff_getElem]
  refine⟨hk,by rw[<-E9 hk];exact hl,λj hj=>?_⟩
  have:=h j hj
  rw[E9 (Nat.lt_trans hj hk)] at this
  simpa using this
 unfold BA;rw[this]
theorem aaJ {g:aA->Bool} (h:∀i,i<ts.length->g (nth ts i)=false):BA ts g= -1:=by
 have:ts.findIdx? g=none:=by
  rw[List.findIdx?_eq_none_iff]
  intro b hb
  obtain⟨i,hi,rfl⟩:=List.getElem_of_mem hb
  have:=h i hi
  rw[E9 hi] at this
  simpa using this
 unfold BA;rw[this]
theorem aaK (ts:List aA) (g:aA->Bool):decide (0<=BA ts g)=ts.any g:=by
 unfold BA
 cases h:ts.findIdx? g with
 |none=>
  rw[List.findIdx?_eq_none_iff] at h
  have:ts.any g=false:=by rw[List.any_eq_false];intro x hx;simpa using h x hx
  rw[this];rfl
 |some i=>
  rw[List.findIdx?_eq_some_iff_getElem] at h
  obtain⟨hi,hg,_⟩:=h
  have:ts.any g=true:=List.any_eq_true.2 ⟨_,List.getElem_mem hi,hg⟩
  rw[this];exact dT (Int.natCast_nonneg i)
def gZ (h:aj) (n:Nat):aj:=
 if h=[99,111,110,115,116] then[100,110]
 else if h=[109,111,118]∨h=[111,112,101,110] then[100,115]
 else if h=[97,100,100]∨h=[115,117,98]∨h=[109,117,108] then[100,115,115]
 else if h=[110,101,119] then[100]++List.replicate (n-2) 115
 else if h=[103,101,116] then[100,115,109]
 else if h=[108,97,98] then[100,108]
 else if h=[112,97,99,107] then[100,115,69,87]
 else if h=[122,101,114,111] then[115,108]
 else if h=[106,117,109,112]∨h=[104,97,108,116] then[115]
 else[]
def ia (z:Int) (t:aA):Bool:=
 if z=100∨z=115 then uF t.az else if z=110 then(numeral t.az).isSome
 else if z=109 then(numeral t.az).isSome&&decide (0<=(numeral t.az).getD 0)
 else if z=108 then nM t.az else if z=69 then(decide (t.au.length=2)&&decide (cH t=[101]))&&fB false t
 else if z=87 then fB false t else false
def dH (t:aA):Bool:=
 if gZ (cH t) t.au.length=[]∨t.au.length≠(gZ (cH t) t.au.length).length+1 then false
 else decide (∀i,i<(gZ (cH t) t.au.length).length->ia (((gZ (cH t) t.au.length).getD i 0).toNat:Int) (nth t.au (i+1))=true)
theorem HP (h:gZ (cH t) t.au.length=[]∨t.au.length≠(gZ (cH t) t.au.length).length+1):dH t=false:=by
 unfold dH;rw[iP h]
theorem aaL (hi:i<(gZ (cH t) t.au.length).length) (h:ia (((gZ (cH t) t.au.length).getD i 0).toNat:Int) (nth t.au (i+1))=false):dH t=false:=by
 unfold dH;split
 ·rfl
 ·exact dF (λhh=>by have:=hh i hi;rw[h] at this;cases this)
theorem aaM (h:¬(gZ (cH t) t.au.length=[]∨t.au.length≠(gZ (cH t) t.au.length).length+1)) 
  (ha:∀i,i<(gZ (cH t) t.au.length).length->ia (((gZ (cH t) t.au.length).getD i 0).toNat:Int) (nth t.au (i+1))=true):dH t=true:=by
 unfold dH;rw[iN h,dT ha]
theorem shift {n:Nat} {P Q:Nat->Prop} (h:∀i,i<n->(P i↔Q (i+1))):(∀i,i<n->P i)↔(∀i,i<n+1->1<=i->Q i):=by
 constructor
 ·intro hp i hi h1
  have:=(h (i-1) om).1 (hp (i-1) om)
  rwa [show i-1+1=i from by omega] at this
 ·intro hq i hi
  exact(h i hi).2 (hq (i+1) om om)
theorem zK (σ τ:aj) (ex:Nat->aA->Bool) (h1:gZ (cH t) t.au.length=σ) (h2:shapeOf (cH t)=τ) (hl:σ.length=τ.length) (eK:τ≠[]) (aaN:τ≠[114,42]) 
  (hp:∀i u,i<τ.length->ia ((σ.getD i 0).toNat:Int) u=(jq ((τ.getD i 0).toNat:Int) u&&ex i u))
  (hx:t.au.length=τ.length+1->(decide (cH t≠[103,101,116])||decide (0<=(numeral (nth t.au 3).az).getD 0))=decide (∀i,i<τ.length->ex i (nth t.au (i+1))=true)):dH t=lZ t:=by
 have hτ:1<=τ.length:=List.length_pos_iff.2 eK
 have hσ:σ≠[]:=λh=>by rw[h] at hl;simp at hl;omega
 by_cases hn:t.au.length=τ.length+1
 ·unfold dH lZ sr
  rw[h1,h2,iN (by rw[hl];rintro(h|h);exact hσ h;exact h hn),iN eK,hx hn]
  rw[iN (by rw[dF (p:=t.au.length≠τ.length+1) om,dF (p:=t.au.length<2) om];simp),<-Bool.decide_and,decide_eq_decide,hl,hn]
  rw[<-shift (P:=λi=>jq ((τ.getD i 0).toNat:Int) (nth t.au (i+1))=true) (λi hi=>by
   unfold qh Dg
   rw[h2,show min (i+1) τ.length-1=i from by omega])]
  constructor
  ·intro h
   refine⟨λi hi=>?_,λi hi=>?_⟩<;>
   ·have:=h i hi
    rw[hp i _ hi,aE] at this
    first|exact this.1|exact this.2
  ·rintro⟨ha,hb⟩ i hi
   rw[hp i _ hi,ha i hi,hb i hi];rfl
 ·rw[HP (.inr (by rw[h1,hl];exact hn)),KT]
  unfold sr
  rw[h2,dT aaN,dT hn];rfl
theorem aaO (n:Nat) (u:Nat->aA):decide (∀i,i<n->(fun(_:Nat) (_:aA)=>true) i (u i)=true)=true:=dT (λ_ _=>rfl)
theorem aaP (u:aA):((decide (u.au.length=2)&&decide (cH u=[101]))&&fB false u)=(decide (cH u=[101])&&fB false u):=by
 by_cases he:cH u=[101]
 ·rw[dT he,Bool.and_true,Bool.true_and]
  have ha:u.az=[]:=Classical.byContradiction λh=>by rw[Dd (.inl h)] at he;cases he
  rcases Nat.eq_zero_or_pos u.au.length with hz|hz
  ·rw[Dd (.inr (List.length_eq_zero_iff.1 hz))] at he;cases he
  ·have h0:=E4 ha (iI hz)
   rw[KP ha hz (by rw[<-h0];exact he),<-Bool.and_assoc,Bool.and_self]
 ·rw[dF he];simp
theorem QH {n:Nat} {P:Nat->Prop} (h:n<=4) (h0:P 0) (h1:2<=n->P 1) (h2:3<=n->P 2) (h3:4<=n->P 3):∀i,i<n->P i:=by
 intro i hi
 match i,hi with
 |0,_=>exact h0
 |1,hi=>exact h1 om
 |2,hi=>exact h2 om
 |3,hi=>exact h3 om
 |i+4,hi=>omega
theorem zM {σ τ:aj} {ex:Nat->aA->Bool} (hl:τ.length<=4) (h0:∀u,ia ((σ.getD 0 0).toNat:Int) u=(jq ((τ.getD 0 0).toNat:Int) u&&ex 0 u)) (h1:∀u,2<=τ.length->ia ((σ.getD 1 0).toNat:Int) u=(jq ((τ.getD 1 0).toNat:Int) u&&ex 1 u)) 
  (h2:∀u,3<=τ.length->ia ((σ.getD 2 0).toNat:Int) u=(jq ((τ.getD 2 0).toNat:Int) u&&ex 2 u)) (h3:∀u,4<=τ.length->ia ((σ.getD 3 0).toNat:Int) u=(jq ((τ.getD 3 0).toNat:Int) u&&ex 3 u)):
  ∀i u,i<τ.length->ia ((σ.getD i 0).toNat:Int) u=(jq ((τ.getD i 0).toNat:Int) u&&ex i u):=λi u=>
 QH (P:=λi=>ia ((σ.getD i 0).toNat:Int) u=(jq ((τ.getD i 0).toNat:Int) u&&ex i u)) hl (h0 u) (h1 u) (h2 u) (h3 u) i
theorem QI (u:aA):ia 100 u=uF u.az:=by simp[ia]
theorem QJ (u:aA):ia 115 u=uF u.az:=by simp[ia]
theorem aaQ (u:aA):ia 110 u=(numeral u.az).isSome:=by simp[ia]
theorem aaR (u:aA):ia 109 u=((numeral u.az).isSome&&decide (0<=(numeral u.az).getD 0)):=by simp[ia]
theorem aaS (u:aA):ia 108 u=nM u.az:=by simp[ia]
theorem aaT (u:aA):ia 69 u=((decide (u.au.length=2)&&decide (cH u=[101]))&&fB false u):=by simp[ia]
theorem aaU (u:aA):ia 87 u=fB false u:=by simp[ia]
theorem K1 (u:aA):jq 114 u=uF u.az:=by simp[jq]
theorem aaV (u:aA):jq 42 u=uF u.az:=by simp[jq]
theorem QK (u:aA):jq 110 u=(numeral u.az).isSome:=by simp[jq]
theorem aaW (u:aA):jq 108 u=nM u.az:=by simp[jq]
theorem aaX (u:aA):jq 101 u=(decide (cH u=[101])&&fB false u):=by simp[jq]
theorem aaY (u:aA):jq 119 u=fB false u:=by simp[jq]
theorem Dm (u:aA):ia 100 u=(jq 114 u&&true):=by rw[QI,K1,Bool.and_true]
theorem BB (u:aA):ia 115 u=(jq 114 u&&true):=by rw[QJ,K1,Bool.and_true]
theorem aaZ (u:aA):ia 110 u=(jq 110 u&&true):=by rw[aaQ,QK,Bool.and_true]
theorem aa0 (u:aA):ia 109 u=(jq 110 u&&decide (0<=(numeral u.az).getD 0)):=by rw[aaR,QK]
theorem QL (u:aA):ia 108 u=(jq 108 u&&true):=by rw[aaS,aaW,Bool.and_true]
theorem aa1 (u:aA):ia 69 u=(jq 101 u&&true):=by rw[aaT,aaX,Bool.and_true,aaP]
theorem aa2 (u:aA):ia 87 u=(jq 119 u&&true):=by rw[aaU,aaY,Bool.and_true]
theorem aa3 (h:cH t=[110,101,119]):dH t=lZ t:=by
 have h1:gZ (cH t) t.au.length=[100]++List.replicate (t.au.length-2) 115:=by rw[h];rfl
 have h2:shapeOf (cH t)=[114,42]:=by rw[h];rfl
 have hl:(gZ (cH t) t.au.length).length=t.au.length-2+1:=by rw[h1];simp
 by_cases hn:2<=t.au.length
 ·unfold dH lZ sr
  rw[iN (by rw[hl];rintro(hh|hh);(·rw[h1] at hh;simp at hh);(·omega)),h2,iN de,
   iN (by rw[dF (p:=t.au.length<2) om];simp),dT (p:=cH t≠[103,101,116]) (by rw[h];decide),Bool.true_or,Bool.and_true,decide_eq_decide,hl]
  rw[show(∀i,i<t.au.length->1<=i->qh t i=true)↔(∀i,i<(t.au.length-2+1)+1->1<=i->qh t i=true) from by rw[show t.au.length-2+1+1=t.au.length from by omega]]
  refine shift λi hi=>?_
  have e1:ia (((gZ (cH t) t.au.length).getD i 0).toNat:Int) (nth t.au (i+1))=uF (nth t.au (i+1)).az:=by
   rw[h1]
   cases i with
   |zero=>exact QI _
   |succ i=>
    have:([100]++List.replicate (t.au.length-2) (115:UInt8)).getD (i+1) 0=115:=by
     simp[List.getD,show i<t.au.length-2 from by omega]
    rw[this];exact QJ _
  have e2:qh t (i+1)=uF (nth t.au (i+1)).az:=by
   unfold qh Dg
   rw[h2]
   cases i with
   |zero=>exact K1 _
   |succ i=>rw[show min (i+1+1) ([114,42]:aj).length-1=1 from by simp];exact aaV _
  rw[e1,e2]
 ·rw[HP (.inr (by rw[hl];omega)),KT]
  unfold sr;rw[dT (p:=t.au.length<2) om,Bool.or_true]
theorem aa4 (t:aA):dH t=lZ t:=by
 have nog:∀{τ:aj},cH t≠[103,101,116]->(t.au.length=τ.length+1->(decide (cH t≠[103,101,116])||decide (0<=(numeral (nth t.au 3).az).getD 0))=decide (∀i,i<τ.length->(fun(_:Nat) (_:aA)=>true) i (nth t.au (i+1))=true)):=by
  intro τ h _;rw[aaO _ (λi=>nth t.au (i+1)),dT h];rfl
 by_cases c1:cH t=[99,111,110,115,116]
 ·exact zK [100,110] [114,110] (λ_ _=>true) (by rw[c1];rfl) (by rw[c1];rfl) rfl de de
   (zM de (λu=>Dm u) (λu _=>aaZ u) (λ_ h=>absurd h de) (λ_ h=>absurd h de)) (nog (by rw[c1];decide))
 by_cases c2:cH t=[109,111,118]∨cH t=[111,112,101,110]
 ·exact zK [100,115] [114,114] (λ_ _=>true) (by rcases c2 with c|c<;>rw[c]<;>rfl) (by rcases c2 with c|c<;>rw[c]<;>rfl) rfl de de
   (zM de (λu=>Dm u) (λu _=>BB u) (λ_ h=>absurd h de) (λ_ h=>absurd h de)) (nog (by rcases c2 with c|c<;>rw[c]<;>decide))
 by_cases c3:cH t=[97,100,100]∨cH t=[115,117,98]∨cH t=[109,117,108]
 ·exact zK [100,115,115] [114,114,114] (λ_ _=>true) (by rcases c3 with c|c|c<;>rw[c]<;>rfl) (by rcases c3 with c|c|c<;>rw[c]<;>rfl) rfl de de
   (zM de (λu=>Dm u) (λu _=>BB u) (λu _=>BB u) (λ_ h=>absurd h de)) (nog (by rcases c3 with c|c|c<;>rw[c]<;>decide))
 by_cases c4:cH t=[110,101,119]
 ·exact aa3 c4
 by_cases c5:cH t=[103,101,116]
 ·refine zK [100,115,109] [114,114,110] (λi u=>if i=2 then decide (0<=(numeral u.az).getD 0) else true) (by rw[c5];rfl) (by rw[c5];rfl) rfl de de
   (zM de (λu=>Dm u) (λu _=>BB u) (λu _=>aa0 u) (λ_ h=>absurd h de)) (λ_=>?_)
  rw[show decide (cH t≠[103,101,116])=false from dF (λh=>h c5),Bool.false_or]
  refine decide_eq_decide.2 ⟨λh=>QH de rfl (λ_=>rfl) (λ_=>by simpa using h) (λh=>by simp at h),λh=>by simpa using h 2 de⟩
 by_cases c6:cH t=[108,97,98]
 ·exact zK [100,108] [114,108] (λ_ _=>true) (by rw[c6];rfl) (by rw[c6];rfl) rfl de de
   (zM de (λu=>Dm u) (λu _=>QL u) (λ_ h=>absurd h de) (λ_ h=>absurd h de)) (nog (by rw[c6];decide))
 by_cases c7:cH t=[112,97,99,107]
 ·exact zK [100,115,69,87] [114,114,101,119] (λ_ _=>true) (by rw[c7];rfl) (by rw[c7];rfl) rfl de de
   (zM de (λu=>Dm u) (λu _=>BB u) (λu _=>aa1 u) (λu _=>aa2 u)) (nog (by rw[c7];decide))
 by_cases c8:cH t=[122,101,114,111]
 ·exact zK [115,108] [114,108] (λ_ _=>true) (by rw[c8];rfl) (by rw[c8];rfl) rfl de de
   (zM de (λu=>BB u) (λu _=>QL u) (λ_ h=>absurd h de) (λ_ h=>absurd h de)) (nog (by rw[c8];decide))
 by_cases c9:cH t=[106,117,109,112]∨cH t=[104,97,108,116]
 ·exact zK [115] [114] (λ_ _=>true) (by rcases c9 with c|c<;>rw[c]<;>rfl) (by rcases c9 with c|c<;>rw[c]<;>rfl) rfl de de
   (zM de (λu=>BB u) (λ_ h=>absurd h de) (λ_ h=>absurd h de) (λ_ h=>absurd h de)) (nog (by rcases c9 with c|c<;>rw[c]<;>decide))
 ·have e1:gZ (cH t) t.au.length=[]:=by unfold gZ;rw[iN c1,iN c2,iN c3,iN c4,iN c5,iN c6,iN c7,iN c8,iN c9]
  have e2:shapeOf (cH t)=[]:=by unfold shapeOf;rw[iN c1,iN c2,iN c3,iN c4,iN c5,iN (λh=>by rcases h with h|h;exact c6 h;exact c8 h),iN c7,iN c9]
  rw[HP (.inl e1),Ql e2]
theorem aa5 (h:aj) (n:Nat):(gZ h n).length<=n+4:=by
 unfold gZ
 repeat' split
 all_goals simp
 all_goals omega
theorem QM (h:WF t):2<=t.size:=by
 cases h with
 |az a ha=>have:=List.length_pos_iff.2 ha;simp only[aA.size];omega
 |list ps hp hw=>
  cases ps with
  |nil=>exact absurd rfl hp
  |cons q r=>cases q;simp only[aA.size,aA.size.sizes];omega
theorem QN:∀{ps:List aA},(∀p,p∈ps->WF p)->2*ps.length<=aA.size.sizes ps
 |[],_=>by simp[aA.size.sizes]
 |q::ps,h=>by
  have h1:=QM (h q sm)
  have h2:=QN (ps:=ps) (λp hp=>h p (by simp[hp]))
  simp only[aA.size.sizes,lC];omega
theorem aa6 (h:WF t):2*t.au.length+1<=t.size:=by
 cases h with
 |az a ha=>simp[aA.au,aA.size];omega
 |list ps hp hw=>have:=QN hw;simp only[aA.au,aA.size];omega
def rO (t:aA):Bool:=decide (cH t=[106,117,109,112])||decide (cH t=[104,97,108,116])
theorem aa7 (h:lZ t=true):cH t=(nth t.au 0).az:=by
 unfold lZ at h
 split at h
 ·cases h
 ·rename_i eK;exact(KR eK).2.2
theorem aa8 (h:lZ t=true):HJ t=rO t:=by
 unfold HJ rO;rw[h,aa7 h];rfl
inductive Good:aA->Prop
 |az (a:aj) (h:a≠[]) (hb:a.all fA=true):Good (.mk a [])
 |list (ps:List aA) (h:ps≠[]) (hp:∀p,p∈ps->Good p):Good (.mk [] ps)
theorem Good.wf (h:Good t):WF t:=by
 induction h with
 |az a h _=>exact .az a h
 |list ps h _ ih=>exact .list ps h ih
def aA.depth:aA->Nat
 | .mk _ ps=>deeps ps
 where deeps:List aA->Nat
 |[]=>0
 |t::ts=>max (t.depth+1) (deeps ts)
theorem aa9:∀{p:aA},p∈ps->p.depth+1<=aA.depth.deeps ps:=by
 induction ps with
 |nil=>intro p h;simp at h
 |cons q ps ih=>
  intro p h
  rcases mC.1 h with rfl|h
  ·simp only[aA.depth.deeps];omega
  ·have:=ih h;simp only[aA.depth.deeps];omega
theorem K2:∀{ps:List aA},(∀p,p∈ps->p.depth+1<=d)->aA.depth.deeps ps<=d
 |[],_=>by simp[aA.depth.deeps]
 |q::ps,h=>by
  have h1:=h q sm
  have h2:=K2 (ps:=ps) (λp hp=>h p (by simp[hp]))
  simp only[aA.depth.deeps];omega
theorem sw {a:aj} (h:a≠[]):(aA.mk a ps).text=a:=by simp[aA.text,h]
theorem qU (ps:List aA):(aA.mk [] ps).text=40::(mm ps++[41]):=by simp[aA.text]
theorem pF (t:aA):mm [t]=t.text:=by simp[mm]
theorem l3 (t u:aA) (r:List aA):mm (t::u::r)=t.text++32::mm (u::r):=by simp[mm]
theorem QO {rd:aj->Option (aA×aj)} (fo:∀s t r,rd s=some (t,r)->s=t.text++r):∀n s ts r,iR rd n s=some (ts,r)->ts≠[]∧s=mm ts++41::r
 |0,_,_,_,h=>by simp[iR] at h
 |n+1,s,ts,r,h=>by
  unfold iR at h
  cases hr:rd s with
  |none=>simp[hr] at h
  |some q=>
   obtain⟨t,r1⟩:=q
   have ht:=fo s t r1 hr
   simp only[hr] at h
   cases r1 with
   |nil=>simp at h
   |cons c r'=>
    simp only at h
    by_cases h1:c=41
    ·rw[iP h1] at h
     simp at h
     obtain⟨rfl,rfl⟩:=h
     exact⟨by simp,by rw[ht,h1,pF]⟩
    ·rw[iN h1] at h
     by_cases h2:c=32
     ·rw[iP h2] at h
      cases hp:iR rd n r' with
      |none=>simp[hp] at h
      |some q=>
       obtain⟨ts',r''⟩:=q
       simp[hp] at h
       obtain⟨rfl,rfl⟩:=h
       obtain⟨h4,h5⟩:=QO fo n r' ts' r'' hp
       cases ts' with
       |nil=>exact absurd rfl h4
       |cons u us=>exact⟨by simp,by rw[ht,h2,l3,h5];simp⟩
     ·rw[iN h2] at h;cases h
theorem aba:∀d s t r,fa d s=some (t,r)->s=t.text++r:=by
 have leaf:∀(s:aj) (t:aA) (r:aj),(if s.takeWhile fA=[] then none else some (aA.mk (s.takeWhile fA) [],s.dropWhile fA))=some (t,r)->s=t.text++r:=by
  intro s t r h
  split at h
  ·cases h
  ·rename_i hn
   simp only[Option.some.injEq,Prod.mk.injEq] at h
   rw[<-h.1,<-h.2,sw hn,List.takeWhile_append_dropWhile]
 intro d
 induction d with
 |zero=>
  intro s t r h
  cases s with
  |nil=>simp[fa] at h
  |cons c s=>
   simp only[fa] at h
   by_cases h1:c=40
   ·rw[iP h1] at h;cases h
   ·rw[iN h1] at h;exact leaf _ _ _ h
 |succ d ih=>
  intro s t r h
  cases s with
  |nil=>simp[fa] at h
  |cons c s=>
   simp only[fa] at h
   by_cases h1:c=40
   ·rw[iP h1] at h
    cases hp:iR (fa d) (s.length+1) s with
    |none=>simp[hp] at h
    |some q=>
     obtain⟨ts',r''⟩:=q
     simp[hp] at h
     obtain⟨h3,h4⟩:=QO ih _ _ _ _ hp
     rw[<-h.1,<-h.2,qU,h1,h4];simp
   ·rw[iN h1] at h;exact leaf _ _ _ h
theorem QP {rd:aj->Option (aA×aj)} (d:Nat) (fo:∀s t r,rd s=some (t,r)->Good t∧t.depth<=d):∀n s ts r,iR rd n s=some (ts,r)->ts≠[]∧∀p,p∈ts->Good p∧p.depth<=d
 |0,_,_,_,h=>by simp[iR] at h
 |n+1,s,ts,r,h=>by
  unfold iR at h
  cases hr:rd s with
  |none=>simp[hr] at h
  |some q=>
   obtain⟨t,r1⟩:=q
   have ht:=fo s t r1 hr
   simp only[hr] at h
   cases r1 with
   |nil=>simp at h
   |cons c r'=>
    simp only at h
    by_cases h1:c=41
    ·rw[iP h1] at h
     simp at h
     obtain⟨rfl,_⟩:=h
     exact⟨by simp,by intro p hp;simp at hp;subst hp;exact ht⟩
    ·rw[iN h1] at h
     by_cases h2:c=32
     ·rw[iP h2] at h
      cases hp:iR rd n r' with
      |none=>simp[hp] at h
      |some q=>
       obtain⟨ts',r''⟩:=q
       simp[hp] at h
       obtain⟨rfl,_⟩:=h
       obtain⟨_,h4⟩:=QP d fo n r' ts' r'' hp
       exact⟨by simp,by intro p hp;rcases mC.1 hp with rfl|hp;exact ht;exact h4 p hp⟩
     ·rw[iN h2] at h;cases h
theorem all_takeWhile (p:UInt8->Bool):∀s:aj,(s.takeWhile p).all p=true
 |[]=>rfl
 |c::s=>by
  by_cases h:p c=true
  ·simp only[List.takeWhile,h,List.all_cons,all_takeWhile p s];rfl
  ·simp[List.takeWhile,h]
theorem abb:∀d s t r,fa d s=some (t,r)->Good t∧t.depth<=d:=by
 have leaf:∀(d:Nat) (s:aj) (t:aA) (r:aj),(if s.takeWhile fA=[] then none else some (aA.mk (s.takeWhile fA) [],s.dropWhile fA))=some (t,r)->Good t∧t.depth<=d:=by
  intro d s t r h
  split at h
  ·cases h
  ·rename_i hn
   simp only[Option.some.injEq,Prod.mk.injEq] at h
   rw[<-h.1];exact⟨.az _ hn (all_takeWhile _ _),by simp[aA.depth,aA.depth.deeps]⟩
 intro d
 induction d with
 |zero=>
  intro s t r h
  cases s with
  |nil=>simp[fa] at h
  |cons c s=>
   simp only[fa] at h
   by_cases h1:c=40
   ·rw[iP h1] at h;cases h
   ·rw[iN h1] at h;exact leaf _ _ _ _ h
 |succ d ih=>
  intro s t r h
  cases s with
  |nil=>simp[fa] at h
  |cons c s=>
   simp only[fa] at h
   by_cases h1:c=40
   ·rw[iP h1] at h
    cases hp:iR (fa d) (s.length+1) s with
    |none=>simp[hp] at h
    |some q=>
     obtain⟨ts',r''⟩:=q
     simp[hp] at h
     obtain⟨h3,h4⟩:=QP d ih _ _ _ _ hp
     rw[<-h.1]
     exact⟨.list _ h3 (λp hp=>(h4 p hp).1),K2 (λp hp=>by have:=(h4 p hp).2;omega)⟩
   ·rw[iN h1] at h;exact leaf _ _ _ _ h
def Stop (r:aj):Prop:=∀c,r[0]?=some c->fA c=false
theorem K3 {p:UInt8->Bool}:∀{a r:aj},a.all p=true->(∀c,r[0]?=some c->p c=false)->(a++r).takeWhile p=a∧(a++r).dropWhile p=r
 |[],[],_,_=>⟨rfl,rfl⟩
 |[],c::r,_,h=>by have:=h c rfl;simp[this]
 |c::a,r,ha,h=>by
  simp only[List.all_cons,aE] at ha
  obtain⟨h1,h2⟩:=K3 (a:=a) ha.2 h
  simp[ha.1,h1,h2]
theorem QQ (h:Good t):∃c r,t.text=c::r:=by
 cases h with
 |az a ha _=>
  rw[sw ha]
  cases a with
  |nil=>exact absurd rfl ha
  |cons c r=>exact⟨c,r,rfl⟩
 |list ps _ _=>exact⟨_,_,qU ps⟩
theorem QR {rd:aj->Option (aA×aj)}:∀(ts:List aA) (n:Nat) (r:aj),ts≠[]->ts.length<=n->(∀t,t∈ts->∀r,Stop r->rd (t.text++r)=some (t,r))->iR rd n (mm ts++41::r)=some (ts,r)
 |[],_,_,h,_,_=>absurd rfl h
 |[t],n,r,_,hn,h=>by
  cases n with
  |zero=>simp at hn
  |succ n=>
   unfold iR
   rw[pF,h t sm (41::r) (by intro c hc;simp at hc;subst hc;decide)]
   simp
 |t::u::us,n,r,_,hn,h=>by
  cases n with
  |zero=>simp at hn
  |succ n=>
   unfold iR
   rw[l3,List.append_assoc,List.cons_append,h t sm (32::(mm (u::us)++41::r)) (by intro c hc;simp at hc;subst hc;decide)]
   have:=QR (rd:=rd) (u::us) n r sm (by simp at hn⊢;omega) (λt ht=>h t (by simp at ht⊢;exact .inr ht))
   simp[this]
theorem QS:∀ts:List aA,(∀t,t∈ts->Good t)->ts.length<=(mm ts).length
 |[],_=>by simp
 |[t],h=>by obtain⟨c,r,e⟩:=QQ (h t sm);rw[pF,e];simp
 |t::u::us,h=>by
  have:=QS (u::us) (λt ht=>h t (by simp at ht⊢;exact .inr ht))
  rw[l3];simp at this⊢;omega
theorem K4:∀(d:Nat) (t:aA) (r:aj),Good t->t.depth<=d->Stop r->fa d (t.text++r)=some (t,r):=by
 intro d
 induction d with
 |zero=>
  intro t r hg hd hr
  cases hg with
  |az a ha hb=>
   obtain⟨c,a',rfl⟩:∃c a',a=c::a':=by cases a with|nil=>exact absurd rfl ha|cons c r=>exact⟨c,r,rfl⟩
   rw[sw ha,List.cons_append,ES 0 c _ (by rintro rfl;simp at hb;exact absurd hb.1 de)]
   obtain⟨h1,h2⟩:=K3 hb hr
   rw[List.cons_append] at h1 h2
   rw[h1,h2,iN sm]
  |list ps hp hw=>
   cases ps with
   |nil=>exact absurd rfl hp
   |cons q ps=>simp[aA.depth,aA.depth.deeps] at hd
 |succ d ih=>
  intro t r hg hd hr
  cases hg with
  |az a ha hb=>
   obtain⟨c,a',rfl⟩:∃c a',a=c::a':=by cases a with|nil=>exact absurd rfl ha|cons c r=>exact⟨c,r,rfl⟩
   rw[sw ha,List.cons_append,ES (d+1) c _ (by rintro rfl;simp at hb;exact absurd hb.1 de)]
   obtain⟨h1,h2⟩:=K3 hb hr
   rw[List.cons_append] at h1 h2
   rw[h1,h2,iN sm]
  |list ps hp hw=>
   rw[qU,List.cons_append,C4]
   have:=QR (rd:=fa d) ps ((mm ps++[41]++r).length+1) r hp (by have:=QS ps hw;simp at this⊢;omega)
    (λt ht r hr=>ih t r (hw t ht) (by have:=aa9 ht;simp only[aA.depth] at hd;omega) hr)
   unfold mN
   rw[show rT (d+1)=fa d from funext λ_=>rfl]
   rw[show mm ps++[41]++r=mm ps++41::r from by simp] at this⊢
   rw[this];rfl
theorem K5 {u:aA} (h:Good t) (k:Good u) (e:t.text=u.text):t=u:=by
 have h1:=K4 (max t.depth u.depth) t [] h om (by intro c hc;simp at hc)
 have h2:=K4 (max t.depth u.depth) u [] k om (by intro c hc;simp at hc)
 rw[e,h2] at h1
 simp at h1;exact h1.symm
theorem BC (h:ba s=some t):Good t∧t.depth<=60∧t.text=s∧s.length<=12000:=by
 have hs:=KO h
 unfold ba at h
 split at h
 ·cases h
 ·cases hr:fa 60 s with
  |none=>rw[hr] at h;cases h
  |some q=>
   obtain⟨t',r⟩:=q
   rw[hr] at h
   cases r with
   |nil=>
    simp at h;subst h
    have h1:=abb _ _ _ _ hr
    have h2:=aba _ _ _ _ hr
    exact⟨h1.1,h1.2,by rw[h2];simp,hs⟩
   |cons c r=>cases h
theorem abc (h:Good t):ba t.text=if t.depth<=60∧t.text.length<=12000 then some t else none:=by
 split
 ·rename_i hc
  unfold ba
  have:=K4 60 t [] h hc.1 (by intro c hc;simp at hc)
  rw[List.append_nil] at this
  rw[iN om,this]
 ·rename_i hc
  cases hp:ba t.text with
  |none=>rfl
  |some u=>
   obtain⟨h1,h2,h3,h4⟩:=BC hp
   have:=K5 h1 h h3
   subst this
   exact absurd ⟨h2,h4⟩ hc
theorem K6 (h:Good t) (hd:t.depth<=60) (hl:t.text.length<=12000):ba t.text=some t:=by rw[abc h,iP ⟨hd,hl⟩]
structure gz where
 aP:aj
 regs:List aA
 code:List aA
def tr (s:aj):aA:=(ba s).getD (.mk [] [])
theorem QT (h:ba s=some t):tr s=t:=by unfold tr;rw[h];rfl
def fT (b:Bk):gz:=⟨b.aP,b.cN.map tr,b.code.map tr⟩
def zN (b:Bk):Bool:=decide (b.aP.length<=12000)
def oz (b:Bk):Bool:=oy b&&zN b
def tw (bs:List Bk):Bool:=jL bs&&bs.all zN
def bZ (a:aj):aA:=.mk a []
def vZ (h:aj) (ts:List aA):aA:=.mk [] (bZ h::ts)
def pG (ps:List aj):aj:=ps.flatMap λp=>32::p
def bO (h:aj) (ps:List aj):aj:=40::(h++pG ps++[41])
theorem QU (t:aA):∀ts:List aA,mm (t::ts)=t.text++pG (ts.map aA.text)
 |[]=>by rw[pF];simp[pG]
 |u::us=>by rw[l3,QU u us];simp[pG]
theorem QV (hh:h≠[]) (ts:List aA):(vZ h ts).text=bO h (ts.map aA.text):=by
 unfold vZ bO
 rw[qU,QU];simp[bZ,sw hh]
theorem abd (h1:h≠[]) (h2:h.all fA=true) (hp:∀t,t∈ts->Good t):Good (vZ h ts):=by
 refine .list _ sm λp Dn=>?_
 rcases mC.1 Dn with rfl|Dn
 ·exact .az _ h1 h2
 ·exact hp p Dn
theorem abe {b:Bk} (h:oy b=true):nM b.aP=true∧(∀s,s∈b.cN->∃t,ba s=some t∧fB false t=true)∧∀s,s∈b.code->∃t,ba s=some t∧lZ t=true:=by
 unfold oy at h
 simp only[aE,dE] at h
 obtain⟨⟨⟨⟨h1,_⟩,_⟩,h2⟩,h3⟩:=h
 refine⟨h1,λs hs=>?_,λs hs=>?_⟩
 ·obtain⟨i,hi,rfl⟩:=List.getElem_of_mem hs
  have:=h2 i hi
  rw[aD,gG,gE hi] at this
  simp only[Option.getD_some] at this
  unfold rK seen at this
  cases hp:ba b.cN[i] with
  |none=>rw[hp] at this;cases this
  |some t=>rw[hp] at this;exact⟨t,rfl,this⟩
 ·obtain⟨i,hi,rfl⟩:=List.getElem_of_mem hs
  have:=h3 i hi
  unfold sv at this
  rw[aE] at this
  have:=this.1
  rw[aD,gG,gE hi] at this
  simp only[Option.getD_some] at this
  unfold bH seen at this
  cases hp:ba b.code[i] with
  |none=>rw[hp] at this;cases this
  |some t=>rw[hp] at this;exact⟨t,rfl,this⟩
theorem K7 (h:jL bs=true):∀b,b∈bs->oy b=true:=by
 intro b hb
 obtain⟨i,hi,rfl⟩:=List.getElem_of_mem hb
 unfold jL at h
 simp only[aE,dE] at h
 have:=(h.1 i hi).1
 rw[bB,gG,gE hi] at this
 exact this
def abf:List aA->aj
 |[]=>[]
 |h::_=>h.az
mutual
def Fa (y:aA):aA->aA
 | .mk a ps=>if a=[118] then y else if a≠[]∨abf ps=[101] then .mk a ps else .mk [] (QW y ps)
def QW (y:aA):List aA->List aA
 |[]=>[]
 |t::ts=>Fa y t::QW y ts
end
/-! ### States -/
abbrev TS:=List (Option aA)
def abg (a:aj):Nat:=(zC a).toNat
def abh (st:TS) (a:aj):Option aA:=st.getD (abg a) none
def bf (n:Nat):aj:=if n<10 then[UInt8.ofNat (48+n)] else bf (n/10)++[UInt8.ofNat (48+n%10)]
 termination_by n
def Df (st:TS):List aA->Option (List aA)
 |[]=>some []
 |u::us=>(abh st u.az).bind λx=>(Df st us).map λxs=>x::xs
theorem abi (h:Lib.hasPrefix s [40]=true):∃r,s=40::r:=by
 cases s with
 |nil=>simp[Lib.hasPrefix,List.isPrefixOf] at h
 |cons c r=>simp[Lib.hasPrefix,List.isPrefixOf] at h;exact⟨r,by rw[h]⟩
theorem abj (h:Lib.hasPrefix s [40]=false):∀c r,s=c::r->c≠40:=by
 rintro c r rfl rfl
 simp[Lib.hasPrefix,List.isPrefixOf] at h
theorem abk (h:Lib.hasPrefix s [40]=false) (d:Nat):fa d s=if s.takeWhile fA=[] then none else some (.mk (s.takeWhile fA) [],s.dropWhile fA):=by
 cases s with
 |nil=>rw[Py];simp
 |cons c r=>rw[ES d c r (abj h c r rfl)]
theorem abl (h:fa d s=none):mN (d+1) s=none:=by rw[ER];show(match fa d s with|none=>none|some (t,r)=>_)=none;rw[h]
theorem abm (h:fa d s=some (t,[])):mN (d+1) s=none:=by rw[ER];show(match fa d s with|none=>none|some (t,r)=>_)=none;rw[h]
theorem QX {c:UInt8} (h:fa d s=some (t,c::r)):mN (d+1) s=if c=41 then some ([t],r) else if c=32 then(mN (d+1) r).map λp=>(t::p.1,p.2) else none:=by
 rw[ER];show(match fa d s with|none=>none|some (t,r)=>_)=_;rw[h]
theorem K8:(s.drop k).take (s.length-k)=s.drop k:=List.take_of_length_le sm
theorem HQ {c:UInt8} (hk:k<256):decide ((c.toNat:Int)≠(k:Int))=decide (c≠UInt8.ofNat k):=decide_eq_decide.2 (by
 have e:(UInt8.ofNat k).toNat=k:=by simp;omega
 constructor
 ·intro h h2;rw[h2,e] at h;exact h rfl
 ·intro h h2;exact h (UInt8.toNat_inj.1 (by rw[e];omega)))
def BD (d:Nat) (s:aj) (t:aA) (r:aj) (ok:Bool):Prop:=(fa d s=some (t,r)∧ok=true)∨(fa d s=none∧ok=false)
theorem BD.le {ok:Bool} (h:BD d s t r ok) (ho:ok=true):fa d s=some (t,r)∧r.length<s.length:=by
 rcases h with⟨h,_⟩|⟨_,h⟩
 ·obtain⟨k,h1,h2,rfl⟩:=Hw d s t r h
  exact⟨h,by simp;omega⟩
 ·rw[ho] at h;cases h
theorem abn {ok:Bool} (hm:BD d s t r ok) (h:((!ok||decide (r=[]))||(decide (((r.getD 0 0).toNat:Int)≠32)&&decide (((r.getD 0 0).toNat:Int)≠41)))=true):mN (d+1) s=none:=by
 rcases hm with⟨hr,rfl⟩|⟨hr,rfl⟩
 ·cases r with
  |nil=>exact abm hr
  |cons c r=>
   rw[QX hr]
   simp only[Bool.not_true,Bool.false_or,List.getD_cons_zero,show decide (c::r=[])=false from by simp] at h
   rw[show(32:Int)=((32:Nat):Int) from rfl,show(41:Int)=((41:Nat):Int) from rfl,HQ de,HQ de,aE] at h
   have h1:¬c=32:=of_decide_eq_true h.1
   have h2:¬c=41:=of_decide_eq_true h.2
   rw[iN h2,iN h1]
 ·exact abl hr
theorem abo {ok:Bool} (hm:BD d s t r ok) (h:((!ok||decide (r=[]))||(decide (((r.getD 0 0).toNat:Int)≠32)&&decide (((r.getD 0 0).toNat:Int)≠41)))=false):
  0<r.length∧r.length<s.length∧mN (d+1) s=if r.getD 0 0=41 then some ([t],r.drop 1) else(mN (d+1) (r.drop 1)).map λp=>(t::p.1,p.2):=by
 simp only[Bool.or_eq_false_iff,Bool.not_eq_false',decide_eq_false_iff_not] at h
 obtain⟨⟨h1,h2⟩,h3⟩:=h
 obtain⟨hr,hl⟩:=hm.le h1
 cases r with
 |nil=>exact absurd rfl h2
 |cons c r=>
  refine⟨by simp,hl,?_⟩
  rw[QX hr]
  simp only[List.getD_cons_zero,List.drop_one,List.tail_cons] at h3⊢
  by_cases Fb:c=41
  ·rw[iP Fb,iP Fb]
  ·rw[iN Fb,iN Fb]
   rw[show(32:Int)=((32:Nat):Int) from rfl,show(41:Int)=((41:Nat):Int) from rfl,HQ de,HQ de,Bool.and_eq_false_iff] at h3
   rcases h3 with h3|h3
   ·rw[iP (by simpa using h3)]
   ·exact absurd (by simpa using h3) Fb
theorem abp {ok:Bool} (hl:s.length<=12000) (hm:BD 60 s t r ok):(ok&&decide (r=[]))=(ba s).isSome∧∀t',ba s=some t'->t=t':=by
 unfold ba
 rw[iN om]
 rcases hm with⟨hr,rfl⟩|⟨hr,rfl⟩
 ·rw[hr]
  cases r with
  |nil=>simp
  |cons c r=>simp
 ·rw[hr];simp
theorem abq {b:Bk} {n1:Nat} (h1:n1=b.cN.length) (h2:n2=b.code.length) 
  (h:(((!nM b.aP||decide ((12000:Int)<(b.aP.length:Int)))||decide ((40:Int)<(n1:Int)))||!(decide ((1:Int)<=(n2:Int))&&decide ((n2:Int)<=80)))=true):oz b=false:=by
 subst h1 h2
 unfold oz zN
 by_cases hs:b.aP.length<=12000
 ·rw[dT hs,Bool.and_true]
  refine Qr ?_
  rw[dF (p:=(12000:Int)<(b.aP.length:Int)) om,Bool.or_false,HN rfl rfl] at h
  exact Qe h
 ·rw[dF hs,Bool.and_false]
theorem abr {b:Bk} {n1:Nat} (h1:n1=b.cN.length) (h2:n2=b.code.length) 
  (h:(((!nM b.aP||decide ((12000:Int)<(b.aP.length:Int)))||decide ((40:Int)<(n1:Int)))||!(decide ((1:Int)<=(n2:Int))&&decide ((n2:Int)<=80)))=false):
  (nM b.aP&&decide (b.cN.length<=40)&&(decide (1<=b.code.length)&&decide (b.code.length<=80)))=true∧zN b=true:=by
 subst h1 h2
 have hs:zN b=true:=by
  unfold zN
  simp only[Bool.or_eq_false_iff,decide_eq_false_iff_not] at h
  exact dT om
 refine⟨?_,hs⟩
 have zO:¬(12000:Int)<(b.aP.length:Int):=by have:=of_decide_eq_true hs;omega
 rw[dF zO,Bool.or_false,HN rfl rfl] at h
 exact Qd h
theorem abt {b:Bk} (hi:i<b.cN.length) (h:rK (aD b.cN i)=false):oz b=false:=by
 unfold oz;rw[Qs hi h];rfl
theorem abu {b:Bk} (hi:i<b.code.length) (h:sv b.code i=false):oz b=false:=by
 unfold oz;rw[Qt hi h];rfl
theorem abv (h:rK s=true) (ht:∀t',ba s=some t'->t=t'):t=tr s:=by
 unfold rK seen at h
 cases hp:ba s with
 |none=>rw[hp] at h;cases h
 |some t'=>rw[QT hp];exact ht t' hp
theorem QY {code:List aj} {n:Nat} (hn:n=code.length) (hi:i<n) (ht:∀t',ba (aD code i)=some t'->t=t'):
  ((!(ba (aD code i)).isSome||!dH t)||(rO t !=decide ((i:Int)=(n:Int)-1)))=!sv code i:=by
 rw[<-KX hn hi,aa4]
 unfold bH jr seen
 cases hp:ba (aD code i) with
 |none=>simp
 |some t'=>
  have:=ht t' hp
  subst this
  simp only[Option.isSome_some,Bool.not_true,Bool.false_or]
  cases hI:lZ t with
  |false=>simp
  |true=>rw[aa8 hI]
theorem abw {code:List aj} (h:sv code i=true) (ht:∀t',ba (aD code i)=some t'->t=t'):t=tr (aD code i):=by
 unfold sv at h
 rw[aE] at h
 have h:=h.1
 unfold bH seen at h
 cases hp:ba (aD code i) with
 |none=>rw[hp] at h;cases h
 |some t'=>rw[QT hp];exact ht t' hp
theorem K9 {α β:Type} (f:α->β) {xs:List α} {x:α} (h:xs[i]?=some x):(xs.take i).map f++[f x]=(xs.take (i+1)).map f:=by
 obtain⟨hl,he⟩:=List.getElem?_eq_some_iff.1 h
 rw[List.take_succ_eq_append_getElem hl,List.map_append,he];rfl
theorem La {α β:Type} (f:α->β) {xs:List α} (h:xs.length<=i):(xs.take i).map f=xs.map f:=by rw[List.take_of_length_le h]
theorem HR {α β:Type} (f:α->β) {xs:List α} (h:i<=xs.length):((xs.take i).map f).length=i:=by simp;omega
theorem Dp (ht:∀t',ba s=some t'->t=t') (h:(ba s).isSome=true):WF t∧t.size<=12001:=by
 obtain⟨t',hp⟩:=Option.isSome_iff_exists.1 h
 rw[ht t' hp];exact⟨tt hp,Bt hp⟩
def zP (ps:List gz) (l:aj):Int:=match ps.findIdx? (λb=>decide (b.aP=l)) with
 |some i=>(i:Int)
 |none=> -1
abbrev wa (ps:List gz) (i:Nat):gz:=ps.getD i ⟨[],[],[]⟩
theorem QZ {ps:List gz} (h:i<ps.length):ps[i]?=some (wa ps i):=by simp[gE h]
def Fc (ps:List gz) (g:gz->Bool):Int:=match ps.findIdx? g with
 |some i=>(i:Int)
 |none=> -1
theorem Lb {ps:List gz} (h:i<ps.length):wa ps i=ps[i]:=by simp[gE h]
theorem abx {ts:List gz} {g:gz->Bool} (hk:k<ts.length) (h:∀i,i<k->g (wa ts i)=false) (hl:g (wa ts k)=true):Fc ts g=(k:Int):=by
 have:ts.findIdx? g=some k:=by
  rw[List.findIdx?_eq_some_iff_getElem]
  refine⟨hk,by rw[<-Lb hk];exact hl,λj hj=>?_⟩
  have:=h j hj
  rw[Lb (Nat.lt_trans hj hk)] at this
  simpa using this
 unfold Fc;rw[this]
theorem aby {ts:List gz} {g:gz->Bool} (h:∀i,i<ts.length->g (wa ts i)=false):Fc ts g= -1:=by
 have:ts.findIdx? g=none:=by
  rw[List.findIdx?_eq_none_iff]
  intro b hb
  obtain⟨i,hi,rfl⟩:=List.getElem_of_mem hb
  have:=h i hi
  rw[Lb hi] at this
  simpa using this
 unfold Fc;rw[this]
theorem abz (h:i<bs.length):bB bs i=bs[i]:=by simp[gE h]
theorem Q0 (hk:k<bs.length):decide ((0:Int)<=zP ((bs.take k).map fT) (bB bs k).aP)=decide (j9 bs (bB bs k).aP≠(k:Int)):=by
 refine decide_eq_decide.2 ?_
 by_cases hex:∃j,j<k∧(bB bs j).aP=(bB bs k).aP
 ·obtain⟨j,hj,hl⟩:=hex
  have h1:j9 bs (bB bs k).aP≠k:=by
   intro h
   unfold j9 at h
   cases hf:bs.findIdx? (λb=>decide (b.aP=(bB bs k).aP)) with
   |none=>rw[hf] at h;simp at h
   |some i=>
    rw[hf] at h
    have uy:i=k:=Int.ofNat.inj h
    subst uy
    rw[List.findIdx?_eq_some_iff_getElem] at hf
    obtain⟨_,_,dy⟩:=hf
    have:=dy j hj
    rw[<-abz] at this
    simp only[dE] at this
    exact this hl
  have h2:0<=zP ((bs.take k).map fT) (bB bs k).aP:=by
   unfold zP
   cases hf:((bs.take k).map fT).findIdx? (λb=>decide (b.aP=(bB bs k).aP)) with
   |some i=>simp
   |none=>
    rw[List.findIdx?_eq_none_iff] at hf
    have:=hf (fT (bB bs j)) (List.mem_map.2 ⟨bB bs j,by rw[List.mem_take_iff_getElem];exact⟨j,om,by simp[gE (show j<bs.length by omega)]⟩,rfl⟩)
    exact absurd hl (of_decide_eq_false this)
  exact⟨λ_=>h1,λ_=>h2⟩
 ·have h1:j9 bs (bB bs k).aP=k:=Qq hk (λj hj hl=>hex ⟨j,hj,hl⟩) rfl
  have h2:zP ((bs.take k).map fT) (bB bs k).aP= -1:=by
   unfold zP
   have:((bs.take k).map fT).findIdx? (λb=>decide (b.aP=(bB bs k).aP))=none:=by
    rw[List.findIdx?_eq_none_iff]
    intro x hx
    obtain⟨b,hb,rfl⟩:=List.mem_map.1 hx
    obtain⟨j,hj,rfl⟩:=List.mem_take_iff_getElem.1 hb
    refine dF λhl=>hex ⟨j,om,?_⟩
    rw[bB,gG,gE om]
    exact hl
   rw[this]
  rw[h1,h2];constructor
  ·intro h;omega
  ·intro h;exact absurd rfl h
theorem abA (hi:i<bs.length) (h:oz (bB bs i)=false∨j9 bs (bB bs i).aP≠i):tw bs=false:=by
 unfold tw
 cases hp:jL bs with
 |false=>rfl
 |true=>
  rw[Bool.true_and]
  rcases h with h|h
  ·have hm:bB bs i∈bs:=List.mem_of_getElem? (su hi)
   have hb:=K7 hp _ hm
   unfold oz at h
   rw[hb,Bool.true_and] at h
   exact List.all_eq_false.2 ⟨_,hm,by rw[h];decide⟩
  ·rw[Qv hi (λhh=>h hh.2)] at hp;cases hp
theorem abB (h:∀i,i<bs.length->oz (bB bs i)=true∧j9 bs (bB bs i).aP=i):
  tw bs=(decide (1<=bs.length)&&decide (bs.length<=40)&&decide ((bB bs 0).aP=[109,97,105,110])&&decide ((bB bs 0).cN.length=0)):=by
 unfold tw
 rw[Qw (λi hi=>⟨by have:=(h i hi).1;unfold oz at this;rw[aE] at this;exact this.1,(h i hi).2⟩),show bs.all zN=true from ?_,Bool.and_true]
 refine List.all_eq_true.2 λb hb=>?_
 obtain⟨i,hi,rfl⟩:=List.getElem_of_mem hb
 have:=(h i hi).1
 unfold oz at this
 rw[aE] at this
 rw[bB,gG,gE hi] at this
 exact this.2
theorem abC (h:¬(1<=bs.length∧bs.length<=40)):tw bs=false:=by
 unfold tw jL
 by_cases h1:1<=bs.length
 ·rw[dF (p:=bs.length<=40) (λh2=>h ⟨h1,h2⟩)];simp
 ·rw[dF h1];simp
def gz.enc (b:gz):List C:=[.val (str b.aP),.sl 2 (dD b.regs),.sl 2 (dD b.code)]
def nO (L:List Nat) (w:World) (v:Value) (b:gz):Prop:=kB L w v b.enc
theorem nO.ext {b:gz} (h:nO L w v b) (k:ak [] w w'):nO L w' v b:=kB.ext h k
theorem nO.grow {b:gz} (h:nO L w v b):nO (w.heap.size::L) w v b:=kB.fresh h zg
theorem nO.aL {b:gz} (h:nO L w v b) (k:ak L' w w') (hL:∀x,x∈L'->x∈L):nO L w' v b:=kB.aO h (k.mono hL)
theorem nO.ji {b:gz} (h:nO L w v b) (hL:∀x,x∈L'->x∈L):nO L' w v b:=kB.fresh h λx hx=>.inl (hL x hx)
theorem Q1 {b:gz} (h:dP L w vs b.enc):∃v1 v2,vs=[str b.aP,v1,v2]∧fG L w v1 b.regs∧fG L w v2 b.code:=by
 rw[gz.enc] at h
 match vs,h with
 |[v0,v1,v2],h=>obtain⟨h0,h1,h2,_⟩:=h;cases h0;exact⟨v1,v2,rfl,h1,h2⟩
 |[],h=>exact h.elim
 |[_],h=>exact h.2.elim
 |[_,_],h=>exact h.2.2.elim
 |_::_::_::_::_,h=>exact h.2.2.2.elim
theorem HS (h:fG L w v ts):∃a c,v= .slice a ts.length c:=by
 obtain⟨a,c,rfl,_⟩:=rH h
 exact⟨a,c,by rw[iG]⟩
theorem Q2 {b:gz} (h:nO L w v b):∃a1 c1 a2 c2,v= .agg #[str b.aP,.slice a1 b.regs.length c1,.slice a2 b.code.length c2]∧
  fG L w (.slice a1 b.regs.length c1) b.regs∧fG L w (.slice a2 b.code.length c2) b.code:=by
 obtain⟨vs,rfl,hr⟩:=h
 obtain⟨v1,v2,rfl,h1,h2⟩:=Q1 hr
 obtain⟨a1,c1,rfl⟩:=HS h1
 obtain⟨a2,c2,rfl⟩:=HS h2
 exact⟨a1,c1,a2,c2,rfl,h1,h2⟩
theorem Lc {l:aj} {r c:List aA} {v2:Value} (h1:fG L w v1 r) (h2:fG L w v2 c):nO L w (.agg #[str l,v1,v2]) ⟨l,r,c⟩:=
 ⟨[str l,v1,v2],rfl,.val _,h1,h2,trivial⟩
theorem nO.kO {x y:Value} {b:gz} (h:nO L w (.agg #[x,y,z]) b):dP L w [x,y,z] b.enc:=by
 obtain⟨vs,he,hr⟩:=h
 have hv:vs=[x,y,z]:=by
  have:=congrArg (λv=>match v with|Value.agg x=>x.toList|_=>[]) he
  simpa using this.symm
 rw[<-hv];exact hr
def sy (L:List Nat) (w:World) (v:Value) (ps:List gz):Prop:=cD L w v (.sl 3 (ps.map gz.enc))
theorem sy.ext {ps:List gz} (h:sy L w v ps) (k:ak [] w w'):sy L w' v ps:=cD.ext h k
theorem sy.ji {b:List gz} (h:sy L w v b) (hL:∀x,x∈L'->x∈L):sy L' w v b:=cD.fresh h λx hx=>.inl (hL x hx)
theorem Q3:sy L w (.slice none 0 0) []:=.nil _ _ _
theorem abD {ps:List gz} (h:sy L w v ps):∃a c,v= .slice a ps.length c:=by
 obtain⟨a,c,rfl,_⟩:=rH h
 exact⟨a,c,sm⟩
theorem Q4 {n:Nat} {ps:List gz} {k:gz} (h:sy L w (.slice a n c) ps) (hi:ps[i]?=some k):
  ∃b off a1 c1 a2 c2,a=some ⟨b,off,none⟩∧iQ w b (off+i*3) [str k.aP,.slice a1 k.regs.length c1,.slice a2 k.code.length c2]∧fG L w (.slice a1 k.regs.length c1) k.regs∧fG L w (.slice a2 k.code.length c2) k.code:=by
 obtain⟨b,off,vs,ha,hb,hL,hl,hc,hr⟩:=yR h (show(ps.map gz.enc)[i]?=some k.enc by simp[hi])
 obtain⟨v1,v2,rfl,h1,h2⟩:=Q1 hr
 obtain⟨a1,c1,rfl⟩:=HS h1
 obtain⟨a2,c2,rfl⟩:=HS h2
 exact⟨b,off,a1,c1,a2,c2,ha,hc,h1,h2⟩
theorem Gr.prog {T:TypeId} {ps:List gz} (h:Gr B L w T 3 v g (ps.map gz.enc)):sy L w v ps:=h.done
section
variable {P:Program} {n:Nat} {ops:Array Oper} {K:Env->World->Prop} {rest:List Oper} {e:Env} {w:World}
 {dst:Option Nat} {ty:TypeId} {pos:String} {after:Array Edge} {g:Option (Nat×Bool)} {x y:Operand}
theorem abE {B:Nat} {L:List Nat} {t:Nat} {v u1 u2 u3:Value} {gb:Option Nat} {ts:List gz} {f:gz} {b U:Nat} (hT:P.underlying t=some (.slice E)) (hE:TI P E 3 bytes z) (hg:gate ops e g=true) (hd:dw n dst=true) (hz:Nat.beq z.cells.size 3=true) (ie:Nat.ble bytes 1000=true) 
  (hx:ev e x=v) (hy:ev e y= .slice (some ⟨b,0,none⟩) 1 1) (hO:Gr B L w E 3 v gb (ts.map gz.enc)) (hb:aY w b [u1,u2,u3].toArray U)
  (hr:nO (gb.toList++L) w (.agg #[u1,u2,u3]) f) (hn:ts.length<100000000)
  (k:∀a' cap' g' w',Gr B L w' E 3 (.slice a' (ts++[f]).length cap') g' ((ts++[f]).map gz.enc)->ak gb.toList w w'->OW P n ops K rest (cO e dst (.slice a' (ts++[f]).length cap')) w'):
  OW P n ops K (⟨dst,.call {callee:=.builtin .append,args:=#[x,y],argTypes:=#[t,t]},ty,pos,after,g⟩::rest) e w:=by
 refine HO hT hE hg hd hz ie hx hy hO hb rfl ?_ hr.kO (by simpa using hn) ?_
 ·rw[List.all_eq_true]
  refine λu hu=>dP.ET hr.kO (λc hc v hv=>?_) u hu
  rw[gz.enc] at hc
  simp only[mC,List.not_mem_nil,or_false] at hc
  rcases hc with h|h|h
  ·rw[h] at hv;cases hv;rfl
  ·rw[h] at hv;cases hv
  ·rw[h] at hv;cases hv
 ·intro a' cap' g' w' ko hk
  have e1:(ts.map gz.enc).length+1=(ts++[f]).length:=by simp
  have e2:ts.map gz.enc++[f.enc]=(ts++[f]).map gz.enc:=by simp
  rw[e1] at ko⊢
  rw[e2] at ko
  exact k a' cap' g' w' ko hk
end
theorem Ld:∀(ts:List aA) (t:aA),ts≠[]->mm (ts++[t])=mm ts++32::t.text
 |[],_,h=>absurd rfl h
 |[u],t,_=>by rw[List.cons_append,List.nil_append,l3,pF,pF]
 |u::v::r,t,_=>by
  have:=Ld (v::r) t sm
  rw[List.cons_append,List.cons_append,l3,<-List.cons_append,this,l3];simp
def pre (ts:List aA):aj:=if ts=[] then[] else 40::mm ts
theorem abF (hk:k<ps.length):pre (ps.take (k+1))=pre (ps.take k)++((if k=0 then 40 else 32)::(nth ps k).text):=by
 have e:ps.take (k+1)=ps.take k++[nth ps k]:=by rw[List.take_succ_eq_append_getElem hk,E9 hk]
 rw[e]
 by_cases h0:k=0
 ·subst h0;simp[pre,pF]
 ·have eK:ps.take k≠[]:=by intro h;have:=congrArg List.length h;rw[List.length_take] at this;simp only[List.length_nil] at this;omega
  unfold pre
  rw[iN sm,iN eK,Ld _ _ eK,iN h0];simp
theorem abG (dx:WF t) (h:t.au.length≠0):pre (t.au.take t.au.length)++[41]=t.text:=by
 cases dx with
 |az a _=>simp[aA.au] at h
 |list ps hp _=>
  rw[qU]
  show pre (ps.take ps.length)++[41]=_
  rw[List.take_length]
  unfold pre;rw[iN hp];simp
theorem abH (dx:WF t) (h:t.au.length=0):t.text=t.az:=by
 cases dx with
 |az a ha=>exact sw ha
 |list ps hp _=>exact absurd (List.length_eq_zero_iff.1 h) hp
theorem alo (dx:WF t) (hk:k<=t.au.length):(pre (t.au.take k)).length<=t.text.length:=by
 by_cases h:t.au.length=0
 ·rw[show k=0 from by omega];simp[pre]
 ·rw[<-abG dx h,lA]
  have mono:∀j,k<=j->j<=t.au.length->(pre (t.au.take k)).length<=(pre (t.au.take j)).length:=by
   intro j hj
   induction j with
   |zero=>intro _;rw[show k=0 from by omega];exact lR _
   |succ j ih=>
    intro vQ
    rcases Nat.lt_or_ge k (j+1) with h|h
    ·have:=ih om om
     rw[abF om,lA];omega
    ·rw[show k=j+1 from by omega];exact lR _
  have:=mono _ hk (lR _)
  omega
def uG (ts:List aA):aj:=40::mm ts
theorem Q5 {ps:List aA} (hk:k<ps.length):uG (ps.take (k+1))=(uG (ps.take k)++(if k=0 then[] else[32]))++(nth ps k).text:=by
 have e:ps.take (k+1)=ps.take k++[nth ps k]:=by rw[List.take_succ_eq_append_getElem hk,E9 hk]
 rw[e]
 by_cases h0:k=0
 ·subst h0;simp[uG,pF,mm]
 ·have eK:ps.take k≠[]:=by intro h;have:=congrArg List.length h;rw[List.length_take] at this;simp only[List.length_nil] at this;omega
  unfold uG
  rw[Ld _ _ eK,iN h0];simp
theorem Q6 (dx:WF t) (h:t.az=[]):uG (t.au.take t.au.length)++[41]=t.text:=by
 cases dx with
 |az a ha=>exact absurd h ha
 |list ps hp _=>
  rw[qU]
  show uG (ps.take ps.length)++[41]=_
  rw[List.take_length];rfl
theorem Le (dx:WF t) (ha:t.az=[]) (hk:k<=t.au.length):(uG (t.au.take k)).length<=t.text.length:=by
 rw[<-Q6 dx ha,lA]
 have mono:∀j,k<=j->j<=t.au.length->(uG (t.au.take k)).length<=(uG (t.au.take j)).length:=by
  intro j hj
  induction j with
  |zero=>intro _;rw[show k=0 from by omega];exact lR _
  |succ j ih=>
   intro vQ
   rcases Nat.lt_or_ge k (j+1) with h|h
   ·have:=ih om om
    rw[Q5 om,lA,lA];omega
   ·rw[show k=j+1 from by omega];exact lR _
 have:=mono _ hk (lR _)
 omega
/-! ### Texts joined -/
theorem Q7 (a b:List aj):pG (a++b)=pG a++pG b:=by simp[pG]
def uH (h:aj) (ps:List aj) (k:Nat):aj:=40::(h++pG (ps.take k))
theorem abI {h:aj} {ps:List aj} (hk:k<ps.length):uH h ps (k+1)=(uH h ps k++[32])++aD ps k:=by
 unfold uH
 rw[List.take_succ_eq_append_getElem hk,Q7]
 simp[pG,aD,gE hk]
theorem abJ {ps:List aj} (hk:ps.length<=k):uH h ps k++[41]=bO h ps:=by
 unfold uH bO;rw[List.take_of_length_le hk];simp
theorem abK {h:aj} {ps:List aj} (k:Nat):(uH h ps k).length+1<=(bO h ps).length:=by
 have:(pG (ps.take k)).length<=(pG ps).length:=by
  have:=Q7 (ps.take k) (ps.drop k)
  rw[List.take_append_drop] at this
  rw[this,lA];omega
 simp[uH,bO];omega
/-! ### What the laws count -/
def jZ (xs:List aj):Nat:=xs.length+(xs.map List.length).sum
theorem Q8 (ps:List aj):(pG ps).length=jZ ps:=by
 unfold jZ
 induction ps with
 |nil=>simp[pG]
 |cons p ps ih=>simp[pG] at ih⊢;omega
/-! ### A list that is filled -/
def fill {α:Type} (d:α) (xs:List α) (k:Nat):List α:=xs.take k++List.replicate (xs.length-k) d
theorem tx:∀(m:Nat) (t:aA),t.size<=m->WF t->t.size<=100000000->t.text.length<=100000000->∀(v:Value) (L:List Nat) (w:World),bS L w v t->
  cj Tryz.prog 96 [v] w λr w'=>r=str t.text∧ak [] w w':=by
 intro m
 induction m with
 |zero=>intro t h dx;have:=QM dx;omega
 |succ m ih=>
  intro t hm dx mU gv v L w hv
  obtain⟨a,n,c,rfl,hn,bc⟩:=dM hv
  subst hn
  have pE:=xB t
  have hK:=ak.refl [] w
  refine cV [.tmp 2] 31 Tryz.func96 rfl ZK rfl rfl ?_
  refine zr<|fE rfl ?_
  intro w1 aK aT dY
  have hK:=hK.ext aK
  refine zA<|ag<|aQ<|zr<|zf dz rfl<|zl ck rfl (aT.at rfl)<|jG rfl rfl rfl rfl<|ag<|zc rfl (λh1=>?_) (λh1=>?_)
  have ht:=abH dx (by rw[dx.leaf h1];rfl)
  refine zr<|zf dz rfl<|zl ck rfl (aT.at rfl)<|zA<|ag<|aV ?_
  exact⟨_,rfl,show str _=str _ from congrArg _ ht.symm,hK⟩
  have ha:t.az=[]:=Classical.not_not.1 h1
  refine bz<|zr<|zA<|ag<|aQ<|zr<|zA<|ag<|cQ ?_
  refine fW (λk:Nat=>[(1,.pointer (some ⟨w.heap.size,0,none⟩)),(3,str (uG (t.au.take k))),(4,.int .i64 (k:Int))]) (λk w'=>ak [] w w'∧aY w' w.heap.size [str t.az,.slice a t.au.length c].toArray 66∧k<=t.au.length) (λk=>t.au.length-k) (0) (⟨rfl,rfl,rfl⟩) (⟨hK,aT,om⟩) ?_
  intro gg w2 e2 hI
  obtain⟨hK,aT,hk⟩:=hI
  refine aQ<|zr<|zm<|zf cL rfl<|zl cI rfl (aT.at rfl)<|dX cv rfl<|fy rfl rfl rfl<|ag<|zc rfl (λh2=>?_) (λh2=>?_)
  have ga:=iI (ps:=t.au) (i:=gg) om
  obtain⟨b1,fY,pa,pn,pc,rfl,kR,fP,ix⟩:=j7 bc ga
  subst fP
  have BE:=dx.nth (i:=gg) om
  have ou:=lY (t:=t) (i:=gg) om
  have qi:=Le dx ha hk
  have uI:=Le dx ha (k:=gg+1) om
  have bg:=Q5 (ps:=t.au) (k:=gg) om
  have hlen:=congrArg List.length bg
  rw[lA] at hlen
  refine bz<|aQ<|cQ<|aQ<|zr<|zm<|jx rfl rfl rfl rfl rfl<|ag ?_
  refine jg (λ_:Unit=>[(1,.pointer (some ⟨w.heap.size,0,none⟩)),(3,str (uG (t.au.take gg)++(if gg=0 then[] else[32]))),(4,.int .i64 (gg:Int))]) (λ_ w'=>w'=w2) ?_ ?_
  refine zc rfl (λh3=>?_) (λh3=>?_)
  have Lf:¬gg=0:=by omega
  refine db<|zm<|cm rfl rfl so<|zA<|ag ?_
  exact⟨(),⟨rfl,by rw[iN Lf];rfl,rfl⟩,rfl⟩
  have Lf:gg=0:=by omega
  refine bz ?_
  exact⟨(),⟨rfl,by rw[iP Lf,List.append_nil];rfl,rfl⟩,rfl⟩
  intro gu w3 e3 hI
  obtain rfl:=hI
  refine db<|zm<|zf cL rfl<|zl cI rfl (aT.at rfl)<|zm<|zi cv aH rfl rfl om<|zL bT aH rfl (kR.ext hK) rfl<|aC (ih (nth t.au gg) om BE om om _ L w3 ((mO ix).ext hK)) ?_
  rintro v4 w4 ⟨eH,aF⟩
  have gI:=aF.size
  have hK:=hK.ext aF;have aT:=aT.ext aF
  obtain rfl:=eH
  refine cm rfl rfl om<|zA<|ag<|db<|zm<|eF rfl rfl rfl (wrap_i64 _ om om)<|zA<|ag ?_
  exact⟨gg+1,⟨rfl,by rw[bg];rfl,rfl⟩,⟨hK,aT,om⟩,om⟩
  have gH:gg=t.au.length:=by omega
  have Fe:=Q6 dx ha
  have qi:=Le dx ha hk
  subst gH
  refine gB<|gC rfl<|zr<|zm<|cm rfl rfl (by simp at qi⊢;omega)<|zA<|ag<|aV ?_
  exact⟨_,rfl,show str _=str _ from congrArg _ Fe,hK⟩
section
variable {P:Program} {n:Nat} {ops:Array Oper} {K:Env->World->Prop} {rest:List Oper} {e:Env} {w:World}
 {dst:Option Nat} {ty:TypeId} {pos:String} {after:Array Edge} {g:Option (Nat×Bool)} {x y:Operand}
/-! ### Elements that are stored -/
def setAt (cs:Array Value) (k:Nat):List Value->Array Value
 |[]=>cs
 |v::vs=>setAt (cs.setIfInBounds k v) (k+1) vs
theorem HT:∀(vs:List Value) (cs:Array Value) (k:Nat),(setAt cs k vs).size=cs.size
 |[],_,_=>rfl
 |v::vs,cs,k=>by unfold setAt;rw[HT vs];simp
theorem HU:∀(vs:List Value) (cs:Array Value) (k:Nat),k+vs.length<=cs.size->(setAt cs k vs).toList=cs.toList.take k++(vs++cs.toList.drop (k+vs.length))
 |[],cs,k,_=>by simp[setAt]
 |v::vs,cs,k,h=>by
  unfold setAt
  simp only[lC] at h
  rw[HU vs _ _ so,Array.toList_setIfInBounds]
  have hk:k<cs.toList.length:=by simp;omega
  rw[List.take_add_one,List.getElem?_set_self hk,List.take_set_of_le (lR k)]
  rw[List.drop_set_of_lt om]
  simp only[Option.toList_some,List.append_assoc,List.cons_append,List.nil_append,lC]
  rw[show k+1+vs.length=k+(vs.length+1) from by omega]
theorem Lg:∀(vs:List Value) (i:Nat) (w:World) (b o:Nat) (U:TypeId) (cs:Array Value),aY w b cs U->o+i+vs.length<=cs.size->(∀u∈vs,u.oneCell'=true)->
  ∃w',(storeCells ⟨b,o,none⟩ vs i).run P w= .ok () w'∧ak [b] w w'∧aY w' b (setAt cs (o+i) vs) U∧w'.heap.size=w.heap.size
 |[],i,w,b,o,U,cs,hb,_,_=>⟨w,rfl,ak.refl _ _,hb,rfl⟩
 |v::vs,i,w,b,o,U,cs,hb,hs,h1=>by
  simp only[lC] at hs
  have mG:o+i<cs.size:=by omega
  have bg:(store ((⟨b,o,none⟩:Addr).add i) v).run P w= .ok () (w.setCell ⟨b,o+i,none⟩ v):=by
   rw[vS,run_store P w _ v _ (h1 v sm),hb.cell,Array.getElem?_eq_getElem mG,hb.frozen]
   simp
  obtain⟨w',hr,hk,gV,hz⟩:=Lg vs (i+1) (w.setCell ⟨b,o+i,none⟩ v) b o U (cs.setIfInBounds (o+i) v) (hb.set (o+i) v) so (λu hu=>h1 u (by simp[hu]))
  refine⟨w',?_,(ak.setCell w b (o+i) v).trans hk,gV,by rw[hz];simp[World.setCell]⟩
  simp only[storeCells,Sem.run_bind,bg,Result.andThen_ok]
  exact hr
theorem Q9 {α:Type}:∀{rows:List (List α)} {i:Nat} {row:List α},(∀r,r∈rows->r.length=sz)->i<rows.length->row.length=sz->(rows.set i row).flatten=rows.flatten.take (i*sz)++(row++rows.flatten.drop (i*sz+sz))
 |r::rows,0,row,h,_,hr=>by
  have h0:r.length=sz:=h r sm
  simp[<-h0]
 |r::rows,i+1,row,h,hi,hr=>by
  have h0:r.length=sz:=h r sm
  have ih:=Q9 (rows:=rows) (i:=i) (row:=row) (λr hr=>h r (by simp[hr])) (by simpa using hi) hr
  rw[List.set_cons_succ,List.flatten_cons,List.flatten_cons,ih]
  have e1:(i+1)*sz=r.length+i*sz:=by rw[h0,Nat.add_mul];omega
  have e2:(i+1)*sz+sz=r.length+(i*sz+sz):=by omega
  rw[e2,e1,List.take_length_add_append,List.drop_length_add_append,List.append_assoc]
theorem dP.take {w:World}:∀{k:Nat} {vs:List Value} {cs:List C},dP L w vs cs->dP L w (vs.take k) (cs.take k)
 |0,_,_,_=>by simp[dP]
 |_+1,[],[],_=>trivial
 |_+1,_::_,_::_,h=>⟨h.1,dP.take h.2⟩
theorem dP.drop {w:World}:∀{k:Nat} {vs:List Value} {cs:List C},dP L w vs cs->dP L w (vs.drop k) (cs.drop k)
 |0,_,_,h=>h
 |_+1,[],[],_=>trivial
 |k+1,_::_,_::_,h=>dP.drop (k:=k) h.2
theorem abL {T:Nat} {v:Value} {vs:List Value} {row:List C} {B:Nat} {L:List Nat} {E gb:Nat} {N c:Nat} {rows:List (List C)} {b o i:Nat} (kK:TI P T sz bytes z) (hg:gate ops e g=true) 
  (hx:ev e x= .pointer (some ⟨b,o,none⟩)) (hy:ev e y=v) (hv:v.cells=vs.toArray) (ho:o=i*sz) (hO:Gr B L w E sz (.slice (some ⟨b,0,none⟩) N c) (some gb) rows) (hi:i<rows.length) (h1:vs.all Value.oneCell'=true)
  (oA:row.length=sz) (hr:dP (gb::L) w vs row)
  (k:∀w',ak [gb] w w'->w'.heap.size=w.heap.size->Gr B L w' E sz (.slice (some ⟨b,0,none⟩) N c) (some gb) (rows.set i row)->OW P n ops K rest e w'):
  OW P n ops K (⟨none,.store T x y,ty,pos,after,g⟩::rest) e w:=by
 subst ho
 obtain⟨xs,⟨⟨mI,h|⟨b',cap,cur,oB,Lh,hb,nI,mH,cJ,ht⟩⟩,jm,iX,abM⟩⟩:=hO.own
 ·obtain⟨h,_⟩:=h;cases h
 ·cases Lh;cases oB
  have gJ:vs.length=sz:=by rw[hr.length,oA]
  have hle:(i+1)*sz<=rows.length*sz:=Nat.mul_le_mul_right _ hi
  have Ra:rows.length*sz<=c*sz:=Nat.mul_le_mul_right _ nI
  rw[Nat.add_mul,Nat.one_mul] at hle
  obtain⟨w',kl,hk,gV,hz⟩:=Lg (P:=P) vs 0 w gb (i*sz) E cur hb (by rw[cJ,gJ];omega) (λu hu=>List.all_eq_true.1 h1 u hu)
  rw[Nat.add_zero] at gV
  refine Hq hg (w':=w') (by
   simp[execOp,Instr.storeAt,Instr.sureAddr,hx,hy,storeVar,hv,kK.ti,gJ,kl]) (k w' hk hz ⟨⟨xs.take (i*sz)++(vs++xs.drop (i*sz+sz)),⟨⟨?_,.inr ⟨gb,c,_,rfl,sm,gV,by simpa using nI,mH,by rw[HT];exact cJ,?_⟩⟩,?_,?_,abM⟩⟩,hO.low,λx hx=>by rw[hz];exact hO.cZ x hx,by rw[hz];exact hO.bsz⟩)
  ·rw[lA,lA,List.length_take,List.length_drop,List.length_set,mI,gJ];omega
  ·rw[HU _ _ _ (by rw[cJ,gJ];omega),List.length_set,<-ht,gJ,List.take_append,List.take_append]
   simp only[List.length_take,Array.length_toList,cJ,gJ,List.take_take,List.drop_take]
   rw[Nat.min_eq_right (show i*sz<=rows.length*sz by omega),Nat.min_eq_left (show i*sz<=rows.length*sz by omega),Nat.min_eq_left (show i*sz<=c*sz by omega),List.take_of_length_le (l:=vs) om]
   rw[show rows.length*sz-i*sz-sz=rows.length*sz-(i*sz+sz) from by omega]
  ·rw[Q9 iX hi oA]
   refine dP.append (dP.aO jm.take (hk.mono sm)) (dP.append (hr.aO (hk.mono sm)) (dP.aO jm.drop (hk.mono sm)))
  ·intro r rJ
   rcases List.mem_or_eq_of_mem_set rJ with h|h
   ·exact iX r h
   ·rw[h];exact oA
/-! ### Slices that are built of several au -/
theorem Rb (off:Nat):∀(us:List Value) (i:Nat) (cs:Array Value),((us.zipIdx i).foldl (fun(cs:Array Value) (p:Value×Nat)=>cs.setIfInBounds (off+p.2) p.1) cs)=setAt cs (off+i) us
 |[],_,_=>rfl
 |u::us,i,cs=>by rw[List.zipIdx_cons,List.foldl_cons,Rb off us];rfl
theorem Rc:∀(us:List Value) (vss:List (List Value)) (k:Nat) (cs:Array Value),us.map Value.cells=vss.map List.toArray->(∀vs,vs∈vss->vs.length=sz)->cs.size=(k+us.length)*sz->
  ∃cs',Instr.fill (λi=>some (i*sz,sz)) cs ((us.zipIdx k).map λp=>(p.2,p.1))=some cs'∧cs'.toList=cs.toList.take (k*sz)++vss.flatten
 |[],[],k,cs,_,_,hs=>⟨cs,rfl,by simp only[List.length_nil,Nat.add_zero] at hs;simp only[List.flatten_nil,List.append_nil];rw[List.take_of_length_le (by simp[hs])]⟩
 |[],_::_,_,_,h,_,_=>by simp at h
 |_::_,[],_,_,h,_,_=>by simp at h
 |u::us,vs::vss,k,cs,h,hl,hs=>by
  simp only[List.map_cons,List.cons.injEq] at h
  have gJ:vs.length=sz:=hl vs sm
  simp only[lC] at hs
  have e:(k+(us.length+1))*sz=k*sz+sz+us.length*sz:=by rw[Nat.add_mul,Nat.add_mul,Nat.one_mul];omega
  rw[List.zipIdx_cons,List.map_cons]
  obtain⟨cs',h1,h2⟩:=Rc us vss (k+1) (setAt cs (k*sz) vs) h.2 (λv hv=>hl v (by simp[hv])) (by rw[HT,hs];congr 1;omega)
  refine⟨cs',?_,?_⟩
  ·unfold Instr.fill
   simp only[h.1]
   rw[iN (by simp[gJ];omega)]
   have h3:=Rb (k*sz) vs 0 cs
   simp only[Nat.add_zero] at h3
   have h4:Array.foldl (fun(cs:Array Value) (p:Value×Nat)=>cs.setIfInBounds (k*sz+p.2) p.1) cs vs.toArray.zipIdx=setAt cs (k*sz) vs:=by rw[<-h3];simp
   rw[h4];exact h1
  ·have e2:(k+1)*sz=k*sz+sz:=by rw[Nat.add_mul,Nat.one_mul]
   have EL:min (k*sz) cs.size=k*sz:=Nat.min_eq_left om
   rw[h2,HU _ _ _ (by rw[gJ];omega),e2,List.flatten_cons,List.take_append,List.take_append]
   simp only[List.length_take,Array.length_toList,EL,gJ,List.take_take]
   rw[Nat.min_eq_right (show k*sz<=k*sz+sz by omega),show k*sz+sz-k*sz=sz from by omega,List.take_of_length_le (l:=vs) om,Nat.sub_self,List.take_zero,List.append_nil,List.append_assoc]
theorem abN {T:TypeId} {us:List Value} {vss:List (List Value)} (hT:P.underlying T=some (.slice E)) (hE:TI P E sz bytes z) (ow:0<sz) (zQ:0<us.length) (dQ:us.length*sz<=16777216) 
  (hv:us.map Value.cells=vss.map List.toArray) (hl:∀vs,vs∈vss->vs.length=sz):(Instr.buildSlice T us.length ((us.zipIdx 0).map λp=>(p.2,p.1)).toArray).run P w= .ok (.slice (some ⟨w.heap.size,0,none⟩) us.length us.length) (w.alloc (.cells vss.flatten.toArray E)):=by
 have h0:¬us.length*sz=0:=by
  have:0<us.length*sz:=Nat.mul_pos zQ ow
  omega
 have hb:¬(16777216<us.length*sz):=by omega
 obtain⟨cs',hf,cJ⟩:=Rc us vss 0 ((Array.range (us.length*sz)).map (z.cells[·%z.cells.size]!)) hv hl sm
 have he:cs'=vss.flatten.toArray:=by apply Array.ext';simpa using cJ
 subst he
 simp[Instr.buildSlice,Sem.run_bind,run_underlying hT,Result.andThen_ok,hE.ti,hb,h0,hE.J7,hf,newRow]
theorem sA {m:Nat} {T:TypeId} {au:Array (Nat×Operand)} (qs:List Operand) (vss:List (List Value)) (hT:P.underlying T=some (.slice E)) (hE:TI P E sz bytes z) (hg:gate ops e g=true) (hd:dw n dst=true) 
  (hp:au=((qs.zipIdx 0).map λp=>(p.2,p.1)).toArray) (hm:m=qs.length) (ow:Nat.blt 0 sz=true) (zQ:Nat.blt 0 qs.length=true) (dQ:Nat.ble (qs.length*sz) 16777216=true)
  (hv:qs.map (λq=>(ev e q).cells)=vss.map List.toArray) (hl:vss.all (λvs=>Nat.beq vs.length sz)=true)
  (k:∀w',ak [] w w'->aY w' w.heap.size vss.flatten.toArray E->w'.heap.size=w.heap.size+1->OW P n ops K rest (cO e dst (.slice (some ⟨w.heap.size,0,none⟩) m m)) w'):
  OW P n ops K (⟨dst,.buildSlice T m au,ty,pos,after,g⟩::rest) e w:=by
 subst hp hm
 have Rd:(qs.map (ev e)).length=qs.length:=by simp
 have hr:=abN (P:=P) (w:=w) (us:=qs.map (ev e)) (vss:=vss) hT hE (by simpa[Nat.blt_eq] using ow) (by simpa[Nat.blt_eq] using zQ) (by rw[Rd];exact Nat.le_of_ble_eq_true dQ) (by rw[List.map_map];exact hv) (λvs h=>Nat.eq_of_beq_eq_true (List.all_eq_true.1 hl vs h))
 rw[Rd] at hr
 have abO:((qs.zipIdx 0).map λp=>(p.2,p.1)).toArray.map (fun(p:Nat×Operand)=>(p.1,ev e p.2))=(((qs.map (ev e)).zipIdx 0).map λp=>(p.2,p.1)).toArray:=by
  rw[List.map_toArray,List.map_map]
  congr 1
  have:∀(qs:List Operand) (i:Nat),(qs.zipIdx i).map ((fun(p:Nat×Operand)=>(p.1,ev e p.2))∘λp=>(p.2,p.1))=((qs.map (ev e)).zipIdx i).map λp=>(p.2,p.1):=by
   intro qs
   induction qs with
   |nil=>intro i;rfl
   |cons q qs ih=>intro i;simp only[List.zipIdx_cons,List.map_cons,List.map,ih];rfl
  exact this qs 0
 exact fR hg hd (w':=w.alloc (.cells vss.flatten.toArray E)) (by
  have rL:(Array.map (λx=>(x.fst,ev e x.snd)) ((qs.zipIdx 0).map λp=>(p.2,p.1)).toArray)=(((qs.map (ev e)).zipIdx 0).map λp=>(p.2,p.1)).toArray:=abO
  simp only[execOp]
  rw[rL,Sem.run_bind,hr];simp) (k _ (ak.alloc _ _ _) (aY.alloc _ _ _) sm)
/-! ### Slices that are appended whole -/
theorem Re {w:World}:∀{rows:List (List C)} {f:Nat->List Value},(∀i row,rows[i]?=some row->dP L w (f i) row)->dP L w ((List.range rows.length).map f).flatten rows.flatten
 |[],_,_=>trivial
 |r::rows,f,h=>by
  rw[lC,List.range_succ_eq_map,List.map_cons,List.map_map,List.flatten_cons,List.flatten_cons]
  exact(h 0 r rfl).append (Re (f:=f∘Nat.succ) λi row hi=>h (i+1) row (by simpa using hi))
theorem abP {w:World} {xs ys:List Value} (h:iQ w b off xs) (k:iQ w b (off+xs.length) ys):iQ w b off (xs++ys):=λj v hj=>by
 rcases Nat.lt_or_ge j xs.length with hl|hl
 ·exact h j v (by rwa [List.getElem?_append_left hl] at hj)
 ·rw[List.getElem?_append_right hl] at hj
  have:=k (j-xs.length) v hj
  rwa [show off+xs.length+(j-xs.length)=off+j from by omega] at this
theorem Rf {w:World} {sz:Nat}:∀{n off:Nat} {f:Nat->List Value},(∀i,i<n->(f i).length=sz∧iQ w b (off+i*sz) (f i))->iQ w b off ((List.range n).map f).flatten
 |0,_,_,_=>λj v hj=>by simp at hj
 |n+1,off,f,h=>by
  rw[List.range_succ_eq_map,List.map_cons,List.map_map,List.flatten_cons]
  obtain⟨h1,h2⟩:=h 0 om
  rw[Nat.zero_mul,Nat.add_zero] at h2
  refine abP h2 (Rf (sz:=sz) λi hi=>?_)
  obtain⟨h3,h4⟩:=h (i+1) om
  refine⟨h3,?_⟩
  rw[h1]
  rwa [show off+(i+1)*sz=off+sz+i*sz from by rw[Nat.add_mul];omega] at h4
theorem Rg {w:World} {len cap size:Nat} (h:cD L w (.slice a len cap) (.sl size rows)) (hp:0<rows.length):
  ∃b off vs,a=some ⟨b,off,none⟩∧b<w.heap.size∧b∉L∧iQ w b off vs∧dP L w vs rows.flatten∧len=rows.length∧∀row,row∈rows->row.length=size:=by
 cases h with
 |nil=>simp at hp
 |sl b off len cap size rows f hl hc hb hL hs kJ jm=>
  refine⟨b,off,((List.range rows.length).map λi=>(List.range size).map (f i)).flatten,rfl,hb,hL,Rf (sz:=size) λi hi=>⟨by simp,λj v hj=>?_⟩,Re λi row hi=>?_,hl.symm,hs⟩
  ·have xj:j<size:=by have:=(List.getElem?_eq_some_iff.1 hj).1;simpa using this
   have e:f i j=v:=by simpa[List.getElem?_map,xj] using hj
   rw[<-e];exact kJ i j om xj
  ·have iX:=hs row (List.mem_of_getElem? hi)
   refine dP.of (by simp[iX]) λj v c hv pA=>?_
   have xj:j<size:=by have:=(List.getElem?_eq_some_iff.1 hv).1;simpa using this
   have e:f i j=v:=by simpa[List.getElem?_map,xj] using hv
   rw[<-e];exact jm i j row c hi pA
theorem Rh {t ty T:TypeId} {i:TypeInfo} (ht:P.underlying t=some (.slice T)) (hi:P.info? T=some i) 
  {a:Option Addr} {m cap:Nat} (h:m<=cap) {a2:Option Addr} {c2:Nat}:
  (Builtin.append_ #[t,t] ty #[.slice a m cap,.slice a2 0 c2]).run P w= .ok (.slice a m cap) w:=by
 have hf:(Builtin.firstCells i.size 0 (.slice a2 0 c2)).run P w= .ok #[] w:=by
  cases a2 with
  |none=>simp[Builtin.firstCells]
  |some b=>exact run_firstCells_some (P:=P) (w:=w) i.size 0 b 0 c2 [] sm sm
 cases a<;>simp[Builtin.append_,run_underlying ht,sizeOf,typeInfo,hi,Builtin.lenOf,h,hf,storeCells]
theorem xI {B:Nat} {L:List Nat} {t:Nat} {v:Value} {gb:Option Nat} {rows new:List (List C)} {a2:Option Addr} {n2 c2:Nat} (hT:P.underlying t=some (.slice E)) (hE:TI P E sz bytes z) (hg:gate ops e g=true) (hd:dw n dst=true) (hz:Nat.beq z.cells.size sz=true) (ie:Nat.ble bytes 1000=true) 
  (hx:ev e x=v) (hy:ev e y= .slice a2 n2 c2) (hO:Gr B L w E sz v gb rows) (hr:cD (gb.toList++L) w (.slice a2 n2 c2) (.sl sz new)) (h1:∀row,row∈new->∀c,c∈row->∀v,c= .val v->v.oneCell'=true)
  (hn:rows.length+new.length<100000000)
  (k:∀a' cap' g' w',Gr B L w' E sz (.slice a' (rows.length+new.length) cap') g' (rows++new)->ak gb.toList w w'->OW P n ops K rest (cO e dst (.slice a' (rows.length+new.length) cap')) w'):
  OW P n ops K (⟨dst,.call {callee:=.builtin .append,args:=#[x,y],argTypes:=#[t,t]},ty,pos,after,g⟩::rest) e w:=by
 obtain⟨xs,hR⟩:=hO.own
 have Dl:bytes<=1000:=Nat.le_of_ble_eq_true ie
 by_cases hp:0<new.length
 ·obtain⟨b,off,vs,rfl,hb,qV,hc,HV,rfl,iX⟩:=Rg hr hp
  refine PC hT hE hg hd hz hx hR hy rfl hp iX hc ?_ HV hO.cZ (Nat.le_trans (Nat.mul_le_mul (show rows.length+new.length<=100000000 by omega) (show bytes+1<=1001 by omega)) de) ?_
  ·refine dP.ET HV λc hc v hv=>?_
   obtain⟨row,h2,h3⟩:=List.mem_flatten.1 hc
   exact h1 row h2 c h3 v hv
  ·intro a' cap' g' w' ko hk kZ
   refine k a' cap' g' w' ⟨⟨_,ko⟩,λb hb=>?_,λx hx=>lL (hO.cZ x hx) hk.size,Nat.le_trans hO.bsz hk.size⟩ hk
   rcases kZ with h|h
   ·rw[h] at hb;exact hO.low b hb
   ·rw[h] at hb;cases hb;exact hO.bsz
 ·have nP:new=[]:=List.length_eq_zero_iff.1 om
  subst nP
  obtain⟨a,cap,rfl⟩:=hR.len
  have h20:n2=0:=by
   obtain⟨_,_,he,_⟩:=rH hr
   cases he;rfl
  subst h20
  have CX:rows.length<=cap:=by
   rcases hR.own.2 with⟨h,h2,_⟩|⟨_,_,_,_,h,_,h2,_⟩
   ·rw[h2];omega
   ·cases h;exact h2
  obtain⟨i,hi,_,_,_⟩:=hE.get
  have kl:=Rh (P:=P) (w:=w) (t:=t) (ty:=ty) hT hi (a:=a) (m:=rows.length) (cap:=cap) CX (a2:=a2) (c2:=c2)
  refine fR hg hd (v:=.slice a rows.length cap) (w':=w) (by
   simp only[execOp,resolve,invoke,builtin,Sem.run_bind,Sem.run_pure,Result.andThen_ok,List.map_toArray,List.map_cons,List.map_nil,hx,hy,kl]) ?_
  have:=k a cap gb w (by simpa using hO) (ak.refl _ _)
  simpa using this
end

theorem xJ (h:aj) (ps:List aj) (hl:(bO h ps).length<=1000000000) (v:Value) (L:List Nat) (w:World) (hv:bI L w v ps):cj Tryz.prog 75 [str h,v] w λr w'=>r=str (bO h ps)∧ak [] w w':=by
 obtain⟨a,n,c,rfl,hn⟩:=eN hv
 subst hn
 have hK:=ak.refl [] w
 have hh:=λk=>abK (h:=h) (ps:=ps) k
 have Ri:(uH h ps 0).length=h.length+1:=by simp[uH,pG]
 have h01:=hh 0
 have pE:ps.length<=(bO h ps).length:=by simp only[bO,lC,lA,Q8,jZ];omega
 refine cV [.tmp 4] 24 Tryz.func75 rfl Zp rfl rfl ?_
 refine zr<|zA<|ag<|zr<|zm<|cm rfl rfl (by simp only[lC,List.length_nil];omega)<|zA<|ag<|aQ<|zr<|zA<|ag<|cQ ?_
 refine fW (λk:Nat=>[(1,.slice a ps.length c),(5,str (uH h ps k)),(6,.int .i64 (k:Int))]) (λk w'=>ak [] w w'∧k<=ps.length) (λk=>ps.length-k) (0) (⟨rfl,show str _=str _ from congrArg _ (by simp[uH,pG]),rfl⟩) (⟨hK,om⟩) ?_
 intro gg w1 e1 hI
 obtain⟨hK,hk⟩:=hI
 refine aQ<|zr<|zm<|zm<|dX bh rfl<|fy rfl rfl rfl<|ag<|zc rfl (λh1=>?_) (λh1=>?_)
 have hg:=ll (xs:=ps) (i:=gg) om
 obtain⟨b1,fY,rfl,bC⟩:=qR hv hg
 have bg:=abI (h:=h) (ps:=ps) (k:=gg) om
 have hlen:=congrArg List.length bg
 simp only[lA,lC,List.length_nil] at hlen
 have hle:=hh (gg+1)
 refine bz<|aQ<|cQ<|db<|zm<|cm rfl rfl (by simp only[lC,List.length_nil];omega)<|zm<|zm<|zi bh bA rfl rfl om<|zl ck rfl (bC.ext hK 0 _ rfl)<|cm rfl rfl (by simp only[lA,lC,List.length_nil];omega)<|zA<|ag<|db<|zm<|eF rfl rfl rfl (wrap_i64 _ om om)<|zA<|ag ?_
 exact⟨gg+1,⟨rfl,show str _=str _ from congrArg _ bg.symm,rfl⟩,⟨hK,om⟩,om⟩
 have hle:=hh gg
 refine gB<|gC rfl<|zr<|zm<|cm rfl rfl (by simp only[lC,List.length_nil];omega)<|zA<|ag<|aV ?_
 exact⟨_,rfl,show str _=str _ from congrArg _ (abJ om),hK⟩
def apart:List (Option Nat×Option Nat)->Prop
 |[]=>True
 |g::gs=>(∀x,x∈jM g->x∉ik gs)∧apart gs
theorem BF (g:Option Nat×Option Nat) (gs:List (Option Nat×Option Nat)):ik (g::gs)=jM g++ik gs:=by simp[ik]
theorem Lj (gs:List (Option Nat×Option Nat)) (g:Option Nat×Option Nat):ik (gs++[g])=ik gs++jM g:=by simp[ik]
section
variable {P:Program} {n:Nat} {ops:Array Oper} {K:Env->World->Prop} {rest:List Oper} {e:Env} {w:World}
 {dst:Option Nat} {ty:TypeId} {pos:String} {after:Array Edge} {g:Option (Nat×Bool)} {x y:Operand}
end
/-! ### Operations -/
section
variable {P:Program} {n:Nat} {ops:Array Oper} {K:Env->World->Prop} {rest:List Oper} {e:Env} {w:World}
 {dst:Option Nat} {ty:TypeId} {pos:String} {after:Array Edge} {g:Option (Nat×Bool)} {x y:Operand}
theorem Rj {S D b cap:Nat} {z:Int} {c:UInt8} {U:TypeId} (hS:P.underlying S=some (.slice E)) (hE:P.underlying E=some (.int .u8)) (hD:P.underlying D=some .string) (hg:gate ops e g=true) (hd:dw n dst=true) 
  (hx:ev e x= .slice (some ⟨b,0,none⟩) 1 cap) (hb:aY w b [.int .u8 z].toArray U) (hz:z=(c.toNat:Int)) (k:OW P n ops K rest (cO e dst (str [c])) w):OW P n ops K (⟨dst,.convert S D x,ty,pos,after,g⟩::rest) e w:=by
 have kl:=run_convert_bytes_back (P:=P) w S D E ⟨b,0,none⟩ cap [c] hS hE hD (by
  intro j hj
  have:j=0:=by simpa using hj
  subst this
  have:=hb.cell 0
  simpa[Addr.add,hz] using this)
 exact fR hg hd (v:=str [c]) (w':=w) (by
  have uJ:ev e x= .slice (some ⟨b,0,none⟩) ([c]:List UInt8).length cap:=hx
  simp only[execOp,uJ,Sem.run_bind,kl,Result.andThen_ok,Sem.run_pure]) k
theorem Rk {T TS:Nat} {gb:Option Nat} {xs:List aj} {o nn c:Nat} (kK:TI P T 1 bytes z) (hg:gate ops e g=true) (hx:ev e x= .pointer (some ⟨b,o,none⟩)) (hy:ev e y=str s) (ho:o=i) 
  (hO:dh w TS (.slice (some ⟨b,0,none⟩) nn c) gb xs) (hi:i<xs.length)
  (k:∀w',ak gb.toList w w'->dh w' TS (.slice (some ⟨b,0,none⟩) nn c) gb (xs.set i s)->w'.heap.size=w.heap.size->OW P n ops K rest e w'):OW P n ops K (⟨none,.store T x y,ty,pos,after,g⟩::rest) e w:=by
 subst ho
 obtain⟨hl,h|⟨b',cap,cur,oB,hv,hb,nI,mH,cJ,ht⟩⟩:=hO
 ·obtain⟨h,_⟩:=h;cases h
 ·cases hv
  subst oB
  refine J8 kK rfl hg hx hy rfl hb (by rw[cJ];omega) λw' hk gV hz=>?_
  refine k w' (by simpa using hk) ⟨by simp,.inr ⟨b,_,_,rfl,sm,gV,by simpa using nI,mH,by simpa using cJ,?_⟩⟩ hz
  rw[Array.toList_setIfInBounds,List.length_set,List.take_set,ht,List.map_set]
end
theorem Rl {α:Type}:∀{rows:List (List α)} {i j:Nat} {a:α} {row:List α},(∀row,row∈rows->row.length=sz)->rows[i]?=some row->j<sz->rows.flatten.set (i*sz+j) a=(rows.set i (row.set j a)).flatten
 |r::rows,0,j,a,row,h,hi,hj=>by
  simp only[List.getElem?_cons_zero,Option.some.injEq] at hi
  subst hi
  have hr:r.length=sz:=h r sm
  rw[List.flatten_cons,Nat.zero_mul,Nat.zero_add,List.set_cons_zero,List.flatten_cons,List.set_append_left _ _ om]
 |r::rows,i+1,j,a,row,h,hi,hj=>by
  have hr:r.length=sz:=h r sm
  have:=Rl (rows:=rows) (a:=a) (λrow hr=>h row (by simp[hr])) (by simpa using hi) hj
  rw[List.flatten_cons,List.set_cons_succ,List.flatten_cons,List.set_append_right _ _ (by rw[hr,Nat.add_mul];omega),hr,<-this]
  congr 2
  rw[Nat.add_mul];omega
theorem js.set {T:TypeId}:∀{gss:List (Option Nat×Option Nat)} {vss:List (List Value)} {bs:List Bk} {i:Nat} {g:Option Nat×Option Nat} {v:List Value} {f:Bk},js w T gss vss bs->gss[i]?=some g->qk w' T g v f->
  (∀(j:Nat) (g2:Option Nat×Option Nat) (v2:List Value) (b2:Bk),j≠i->gss[j]?=some g2->qk w T g2 v2 b2->qk w' T g2 v2 b2)->js w' T gss (vss.set i v) (bs.set i f)
 |[],[],[],i,g,v,f,_,hg,_,_=>by simp at hg
 |g0::gs,v0::vs,b0::bs,0,g,v,f,h,hg,hf,hk=>by
  simp only[List.getElem?_cons_zero,Option.some.injEq] at hg
  subst hg
  refine⟨hf,?_⟩
  have key:∀{gs:List (Option Nat×Option Nat)} {vs:List (List Value)} {bs:List Bk},(∀(j:Nat) (g2:Option Nat×Option Nat) (v2:List Value) (b2:Bk),gs[j]?=some g2->qk w T g2 v2 b2->qk w' T g2 v2 b2)->js w T gs vs bs->js w' T gs vs bs:=by
   intro gs
   induction gs with
   |nil=>intro vs bs _ h;cases vs<;>cases bs<;>first|trivial|exact h.elim
   |cons g gs ih=>
    intro vs bs hk h
    cases vs with
    |nil=>cases bs<;>exact h.elim
    |cons v vs=>
     cases bs with
     |nil=>exact h.elim
     |cons b bs=>exact⟨hk 0 _ _ _ rfl h.1,ih (λj g2 v2 b2 hj=>hk (j+1) g2 v2 b2 (by simpa using hj)) h.2⟩
  exact key (λj g2 v2 b2 hj ho=>hk (j+1) g2 v2 b2 om (by simpa using hj) ho) h.2
 |g0::gs,v0::vs,b0::bs,i+1,g,v,f,h,hg,hf,hk=>
  ⟨hk 0 _ _ _ om rfl h.1,js.set h.2 (by simpa using hg) hf λj g2 v2 b2 hj iy ho=>hk (j+1) g2 v2 b2 om (by simpa using iy) ho⟩
theorem xK {g:Option Nat×Option Nat} (hg:gss[i]?=some g) (hx:x∈jM g):x∈ik gss:=by
 simp only[ik,List.mem_flatMap]
 exact⟨g,List.mem_of_getElem? hg,hx⟩
theorem Rm:∀{gss:List (Option Nat×Option Nat)} {i j:Nat} {g g2:Option Nat×Option Nat} {x:Nat},(ik gss).Nodup->i≠j->gss[i]?=some g->gss[j]?=some g2->x∈jM g->x∉jM g2
 |g0::gs,0,0,_,_,_,_,h,_,_,_=>absurd rfl h
 |g0::gs,0,j+1,g,g2,x,hn,_,hg,iy,hx=>by
  simp only[List.getElem?_cons_zero,Option.some.injEq] at hg
  subst hg
  rw[BF,List.nodup_append] at hn
  intro fF
  exact hn.2.2 x hx x (xK (by simpa using iy) fF) rfl
 |g0::gs,i+1,0,g,g2,x,hn,_,hg,iy,hx=>by
  simp only[List.getElem?_cons_zero,Option.some.injEq] at iy
  subst iy
  rw[BF,List.nodup_append] at hn
  intro fF
  exact hn.2.2 x fF x (xK (by simpa using hg) hx) rfl
 |g0::gs,i+1,j+1,g,g2,x,hn,lj,hg,iy,hx=>by
  rw[BF,List.nodup_append] at hn
  exact Rm (i:=i) (j:=j) hn.2.1 om (by simpa using hg) (by simpa using iy) hx
theorem mo.row {w w':World} {TB TS:TypeId} {v:Value} {g:Option Nat} {gss:List (Option Nat×Option Nat)} {vss:List (List Value)} {bs:List Bk} {i:Nat} {gs:Option Nat×Option Nat} {vs:List Value} {f:Bk} {L:List Nat} 
  (h:mo w TB TS v g gss vss bs) (hg:gss[i]?=some gs) (hv:vss[i]?=some vs) (hk:ak L w w') (hL:∀x,x∈L->x∈jM gs) (hf:qk w' TS gs vs f):mo w' TB TS v g gss vss (bs.set i f):=by
 have hd:=(List.nodup_append.1 h.nodup)
 have yV:vss.set i vs=vss:=by
  refine List.ext_getElem sm λj h1 h2=>?_
  rw[List.getElem_set]
  split
  ·rename_i lj;subst lj
   rw[gE h2] at hv;simpa using hv.symm
  ·rfl
 have hr:=js.set (w':=w') h.rows hg hf (λj g2 v2 b2 hj iy ho=>ho.aO hk λx hx mI=>Rm hd.2.1 hj iy hg hx (hL x mI))
 rw[yV] at hr
 exact⟨by rw[List.length_set];exact h.own.aO hk (λb hb hx=>hd.2.2 b (by simp[hb]) b (xK hg (hL b hx)) rfl),hr,h.nodup,λx hx=>lL (h.lt x hx) hk.size⟩
section
variable {P:Program} {n:Nat} {ops:Array Oper} {K:Env->World->Prop} {rest:List Oper} {e:Env} {w:World}
 {dst:Option Nat} {ty:TypeId} {pos:String} {after:Array Edge} {g:Option (Nat×Bool)} {x y:Operand}
end
theorem Ro (k:Nat):(48:Int)+((k%10:Nat):Int)=((UInt8.ofNat (48+k%10)).toNat:Int):=by
 have:(48+k%10)%256=48+k%10:=Nat.mod_eq_of_lt om
 simp only[UInt8.toNat_ofNat',Nat.reducePow]
 omega
theorem dh.form {T:TypeId} {n:Nat} (h:dh w T (.slice a n c) g xs) (hx:0<xs.length):∃b,a=some ⟨b,0,none⟩∧g=some b:=by
 rcases h.2 with⟨_,h,_⟩|⟨b,_,_,e,hv,_⟩
 ·omega
 ·cases hv;exact⟨b,rfl,e⟩
theorem dh.cases {T:TypeId} (h:dh w T v g xs):∃a c,v= .slice a xs.length c:=jX.len h
theorem mo.get {TB TS:TypeId} {n:Nat} (h:mo w TB TS (.slice a n c) g gss vss bs) (hi:i<bs.length):
  ∃b gs a1 c1 a2 c2,a=some ⟨b,0,none⟩∧g=some b∧b<w.heap.size∧b∉jM gs∧gss[i]?=some gs∧vss[i]?=some [str (bB bs i).aP,.slice a1 (bB bs i).cN.length c1,.slice a2 (bB bs i).code.length c2]∧
   iQ w b (0+i*3) [str (bB bs i).aP,.slice a1 (bB bs i).cN.length c1,.slice a2 (bB bs i).code.length c2]∧
   dh w TS (.slice a1 (bB bs i).cN.length c1) gs.1 (bB bs i).cN∧dh w TS (.slice a2 (bB bs i).code.length c2) gs.2 (bB bs i).code∧(∀x,gs.1=some x->gs.2=some x->False):=by
 have hd:=List.nodup_append.1 h.nodup
 obtain⟨gd,iY,wb⟩:=h.rows.lens
 obtain⟨gs,vs,jN,bo,v1,v2,rfl,dQ,eE⟩:=h.rows.get (su hi)
 obtain⟨a1,c1,rfl⟩:=dh.cases dQ
 obtain⟨a2,c2,rfl⟩:=dh.cases eE
 obtain⟨hl,hz|⟨b,cap,cur,oB,hv,hb,nI,mH,cJ,ht⟩⟩:=h.own
 ·obtain⟨_,hz,_⟩:=hz;omega
 ·cases hv
  subst oB
  refine⟨b,gs,a1,c1,a2,c2,rfl,rfl,hb.lt,λhx=>hd.2.2 b sm b (xK jN hx) rfl,jN,bo,λj v hj=>?_,dQ,eE,λx h1 h2=>?_⟩
  ·have hf:=EB wb bo hj
   have eU:i*3+j<vss.flatten.length:=(List.getElem?_eq_some_iff.1 hf).1
   rw[hb.cell,Nat.zero_add]
   have h2:=ht
   have:(cur.toList.take (bs.length*3))[i*3+j]?=some v:=by rw[ht];exact hf
   rw[List.getElem?_take] at this
   split at this
   ·simpa using this
   ·cases this
  ·have hn:(jM gs).Nodup:=by
    have:∀{gss:List (Option Nat×Option Nat)} {i:Nat},(ik gss).Nodup->gss[i]?=some gs->(jM gs).Nodup:=by
     intro gss
     induction gss with
     |nil=>intro i _ h;simp at h
     |cons p q ih=>
      intro i hn hg
      rw[BF,List.nodup_append] at hn
      cases i with
      |zero=>simp at hg;subst hg;exact hn.1
      |succ i=>exact ih hn.2.1 (by simpa using hg)
    exact this hd.2.1 jN
   simp[jM,h1,h2] at hn
/-! ### What it gives -/
section
variable {p:List gz} {st:TS} {o:Nat} {t:aA}
end
/-! ### Sizes of what is given -/
theorem size_pos (t:aA):1<=t.size:=by have:=xC t;omega
theorem Lk (t:aA):∀m,t.size<=m->WF t->t.text.length+1<=2*t.size:=by
 intro m
 induction m generalizing t with
 |zero=>intro h;have:=size_pos t;omega
 |succ m ih=>
  intro hm dx
  cases dx with
  |az a ha=>rw[sw ha];simp only[aA.size,aA.size.sizes];omega
  |list ps hp hw=>
   rw[qU]
   have e:(aA.mk [] ps).size=1+aA.size.sizes ps:=by simp[aA.size]
   rw[e]
   have abR:∀qs:List aA,qs≠[]->(∀p,p∈qs->p.text.length+1<=2*p.size)->(mm qs).length+1<=2*aA.size.sizes qs:=by
    intro qs
    induction qs with
    |nil=>intro h;exact absurd rfl h
    |cons q qs xp=>
     intro _ h
     have h1:=h q sm
     cases qs with
     |nil=>rw[pF];simp only[aA.size.sizes];omega
     |cons u us=>
      have h2:=xp sm (λp hp=>h p (by simp[hp]))
      rw[l3];simp only[aA.size.sizes,lA,lC] at h2⊢;omega
   have aq:=abR ps hp (λp Dn=>by
    obtain⟨i,hi,rfl⟩:=List.getElem_of_mem Dn
    have h3:=P6 (t:=.mk [] ps) (p:=ps[i]) (i:=i) (gE hi)
    exact ih _ om (hw _ Dn))
   simp only[lC,lA,List.length_nil];omega
section
variable {p:List gz} {st:TS} {o:Nat} {t:aA}
end
theorem abS (h:Good t):t.text≠[]:=by
 obtain⟨c,r,e⟩:=QQ h
 rw[e];simp
structure Dq (s:aj) (t:aA):Prop where
 some:∀t',ba s=some t'->t=t'
 none:s=[]->cH t=[]
theorem Rp:ba []=none:=by decide
theorem abT (w:World):cj Tryz.prog 66 [str [],.int .i64 0,.int .i64 0] w λr w'=>r= .tuple #[.agg #[str [],.slice none 0 0],.int .i64 (-1)]∧ak [] w w':=by
 have hK:=ak.refl [] w
 refine lF [.cell 6 66,.tmp 7] 87 Tryz.func66 rfl HA rfl rfl rfl ?_
 refine zr<|eA aH rfl rfl rfl ?_
 intro w1 aK bQ dY
 have hK:=hK.grow;have hK:=hK.ext aK
 refine zA<|ag<|zr<|j5 (EV _) rfl rfl<|eA aH rfl rfl rfl ?_
 intro w2 aq dv eM
 have hK:=hK.grow;have hK:=hK.ext aq;have bQ:=bQ.grow;have bQ:=bQ.ext aq
 refine du aH rfl rfl rfl dv rfl ?_
 intro w3 aJ dv iH
 have hK:=hK.aL aJ sx;have bQ:=bQ.aL aJ sx
 refine ag<|aQ<|zr<|zm<|jx rfl rfl rfl rfl rfl<|zm ?_
 apply fz 5 15 20 [15,16,17,18,19,20] (λw'=>w3=w') rfl
 intro h1
 replace h1:=bw h1
 refine zs<|zs<|zs<|zs<|zp rfl<|ag ?_
 exact mg rfl rfl
 intro h1
 replace h1:=bw h1
 refine zm<|zm<|kL fc rfl rfl rfl<|lX rfl rfl rfl rfl rfl<|zp rfl<|ag ?_
 exact mg rfl rfl
 rintro xx _ rfl
 refine ag<|zc rfl (λh2=>?_) (λh2=>?_)
 refine zr<|zL bT aH rfl dv.all rfl<|du aH rfl rfl rfl bQ rfl ?_
 intro w4 aF bQ iS
 have hK:=hK.aL aF sx
 refine zA<|ag<|aV ?_
 exact⟨[_,_],⟨gO bT aH rfl bQ rfl,rfl⟩,rfl,hK⟩
 simp at h2
theorem HW (s:aj) (L:List Nat) (w:World) (hL:∀x,x∈L->x<w.heap.size):
  cj Tryz.prog 38 [str s] w λv w'=>(∃t tv,v= .tuple #[tv,.bool (ba s).isSome]∧bS L w' tv t∧Dq s t)∧ak [] w w':=by
 by_cases hs:s=[]
 ·subst hs
  have hK:=ak.refl [] w
  refine lF [.cell 2 66,.tmp 3] 20 Tryz.func38 rfl PJ rfl rfl rfl ?_
  refine zr<|eA aH rfl rfl rfl ?_
  intro w1 aK aZ dY
  have hK:=hK.grow;have hK:=hK.ext aK
  refine zA<|ag<|aQ<|zr<|zm<|kL fc rfl rfl rfl<|jx rfl rfl rfl rfl rfl<|ag<|zc rfl (λh1=>?_) (λh1=>?_)
  simp at h1
  refine bz<|zr<|zm<|aC (abT w1) ?_
  rintro v2 w2 ⟨dA,aq⟩
  have eE:=aq.size
  have hK:=hK.ext aq;have aZ:=aZ.ext aq
  obtain rfl:=dA
  refine zm<|zx (i:=0) rfl rfl<|zx (i:=1) rfl rfl<|eA aH rfl rfl rfl ?_
  intro w3 aJ aI iH
  have hK:=hK.grow;have hK:=hK.ext aJ;have aZ:=aZ.grow;have aZ:=aZ.ext aJ
  refine du aH rfl rfl rfl aI rfl ?_
  intro w4 aF aI iS
  have hK:=hK.aL aF sx;have aZ:=aZ.aL aF sx
  refine zA<|ag<|zr<|zL bT aH rfl aI.all rfl<|zm<|zm<|kL fc rfl rfl rfl<|dO rfl rfl rfl<|du aH rfl rfl rfl aZ rfl ?_
  intro w5 aU aZ jo
  have hK:=hK.aL aU sx
  refine zA<|ag<|aV ?_
  exact⟨[_,_],⟨gO bT aH rfl aZ rfl,rfl⟩,⟨.mk [] [],_,by rw[Rp];rfl,lE oU,λt' h=>(by rw[Rp] at h;cases h),λ_=>rfl⟩,hK⟩
 ·obtain⟨h1,h2⟩:=zB s L w hL
  exact⟨h1,Calls.mono h2 λe w' ⟨v,he,⟨t,tv,hv,ht,hp⟩,hk⟩=>⟨v,he,⟨t,tv,hv,ht,hp,λe=>absurd e hs⟩,hk⟩⟩
theorem Gr.form {T:TypeId} {n:Nat} (h:Gr B L w T sz (.slice a n c) g rows) (hp:0<rows.length):∃b,a=some ⟨b,0,none⟩∧g=some b:=by
 obtain⟨xs,hx⟩:=h.own
 rcases hx.own.2 with⟨_,h0,_⟩|⟨b,_,_,e,hv,_⟩
 ·omega
 ·cases hv;exact⟨b,rfl,e⟩
theorem zR (ps:List aj) (hl:ps.length<=1000000000) (s:aj) (v:Value) (L:List Nat) (w:World) (hv:bI L w v ps):cj Tryz.prog 177 [v,str s] w λr w'=>r= .bool (decide (s∈ps))∧ak [] w w':=by
 obtain⟨a,n,c,rfl,hn⟩:=eN hv
 subst hn
 have hK:=ak.refl [] w
 refine cV [.tmp 4] 18 Tryz.func177 rfl Yy rfl rfl ?_
 refine zr<|zA<|ag<|aQ<|zr<|zA<|ag<|cQ ?_
 refine fW (λk:Nat=>[(0,.slice a ps.length c),(1,str s),(5,.int .i64 (k:Int))]) (λk w'=>ak [] w w'∧k<=ps.length∧∀i,i<k->aD ps i≠s) (λk=>ps.length-k) (0) (⟨rfl,rfl,rfl⟩) (⟨hK,om,by intro i hi;omega⟩) ?_
 intro gg w1 e1 hI
 obtain⟨hK,hk,dy⟩:=hI
 refine aQ<|zr<|zm<|zm<|dX bh rfl<|fy rfl rfl rfl<|ag<|zc rfl (λh1=>?_) (λh1=>?_)
 have hg:=ll (xs:=ps) (i:=gg) om
 obtain⟨b1,fY,rfl,bC⟩:=qR hv hg
 refine bz<|aQ<|cQ<|zr<|zm<|zm<|zi bh bA rfl rfl om<|zl ck rfl (bC.ext hK 0 _ rfl)<|zm<|cW rfl rfl<|ag<|zc rfl (λh2=>?_) (λh2=>?_)
 have hq:s∈ps:=(by rw[<-h2];exact List.mem_of_getElem? hg)
 refine zr<|zA<|ag<|aV ?_
 exact⟨_,rfl,by rw[dT hq];rfl,hK⟩
 have eK:=h2
 refine bz<|db<|zm<|eF rfl rfl rfl (wrap_i64 _ om om)<|zA<|ag ?_
 exact⟨gg+1,⟨rfl,rfl,rfl⟩,⟨hK,om,by intro i hi;rcases Nat.lt_or_ge i gg with h|h;exact dy i h;rw[show i=gg by omega];exact eK⟩,om⟩
 have hq:¬s∈ps:=(λhm=>by obtain⟨i,hi,e⟩:=List.getElem_of_mem hm;exact dy i om (by simp[aD,gE hi,e]))
 refine gB<|gC rfl<|zr<|zA<|ag<|aV ?_
 exact⟨_,rfl,by rw[dF hq];rfl,hK⟩
theorem abU {n:Nat} (h:n<10):(48:Int)+(n:Int)=((UInt8.ofNat (48+n)).toNat:Int):=by
 have:=Ro n
 rwa [Nat.mod_eq_of_lt h] at this
def BG (z:Int) (v:Value) (w:World):Prop:=∃b,v= .slice (some ⟨b,0,none⟩) 1 1∧aY w b [.int .u8 z].toArray 5
theorem BG.ext {z:Int} (h:BG z v w) (k:ak [] w w'):BG z v w':=by
 obtain⟨b,e,h⟩:=h
 exact⟨b,e,h.ext k⟩
theorem Dr:∀(m n:Nat),n<=m->(bf n).length<=n+1
 |m,n,h=>by
  rw[bf]
  by_cases h9:n<10
  ·rw[iP h9];simp
  ·rw[iN h9]
   cases m with
   |zero=>omega
   |succ m=>have:=Dr m (n/10) om;simp only[lA,List.length_singleton];omega
theorem iM:∀(m n:Nat),n<m->n<=1000000->∀w:World,cj Tryz.prog 104 [.int .i64 (n:Int)] w λr w'=>r=str (bf n)∧ak [] w w':=by
 intro m
 induction m with
 |zero=>intro n hn;omega
 |succ m ih=>
  intro n hn h9 w
  have hK:=ak.refl [] w
  have hl:=Dr _ (n/10) (lR _)
  refine cV [.tmp 2] 28 Tryz.func104 rfl XD rfl rfl ?_
  refine zr<|zA<|ag<|aQ<|zr<|zm<|fy rfl rfl rfl<|ag<|zc rfl (λh1=>?_) (λh1=>?_)
  omega
  refine bz<|aQ<|zr<|zm<|fy rfl rfl rfl<|ag<|zc rfl (λh2=>?_) (λh2=>?_)
  omega
  refine bz<|aQ<|zr<|zm<|fy rfl rfl rfl<|ag<|zc rfl (λh3=>?_) (λh3=>?_)
  refine zr<|zm<|eF rfl rfl rfl (wrap_i64 _ om om)<|xm xz zv rfl rfl rfl (wrap_u8 _ om om)<|gD qO C9 rfl rfl ?_
  intro w1 aK wc dY
  have hK:=hK.ext aK
  refine Rj qO zv fc rfl rfl rfl wc (abU om)<|zA<|ag<|aV ?_
  exact⟨_,rfl,congrArg str (show[UInt8.ofNat (48+n)]=bf n from by rw[bf,iP om]),hK⟩
  have gF:¬n<10:=by omega
  refine bz<|aQ ?_
  refine qf ei aS 10 (rA 18 10) (rA 18 10) [[],[0],[1],[],[3],[4],[5],[6],[7],[2,8]] [λv _=>v=(.int .i64 (n:Int)),λv _=>v=(.int .i64 ((n/10:Nat):Int)),λv _=>v=(str (bf (n/10))),λv _=>v=(.int .i64 (n:Int)),λv _=>v=(.int .i64 ((n%10:Nat):Int)),λv _=>v=(.int .i64 ((48:Int)+((n%10:Nat):Int))),λv _=>v=(.int .u8 ((48:Int)+((n%10:Nat):Int))),fun(v:Value) (ww:World)=>BG ((48:Int)+((n%10:Nat):Int)) v ww,λv _=>v=(str [UInt8.ofNat (48+n%10)]),λv _=>v=(str (bf (n/10)++[UInt8.ofNat (48+n%10)]))] de (cX (cX (cX (cX (cX (cX (cX (Xc (λv w w' h k=>BG.ext h k) (cX (cX trivial)))))))))) (λwd aB=>?_) ?_
  refine bN ?_ ?_
  intro x vs w1 e aK hd he
  replace aK:=aS.trans aB aK
  replace he:e=aM (aN _ x _) []:=he
  subst he
  refine zm<|ag ?_
  exact dn (aS.refl _) rfl
  refine bN ?_ ?_
  intro x vs w1 e aK hd he
  have d0:vs 0=(.int .i64 (n:Int)):=hd
  replace aK:=aS.trans aB aK
  replace he:e=aM (aN _ x _) [(18,vs 0)]:=he
  rw[d0] at he
  subst he
  refine J9 (b:=10) rfl rfl rfl rfl rfl om (wrap_i64 _ om om)<|ag ?_
  exact dn (aS.refl _) rfl
  refine bN ?_ ?_
  intro x vs w1 e aK hd he
  have d1:vs 1=(.int .i64 ((n/10:Nat):Int)):=hd
  replace aK:=aS.trans aB aK
  replace he:e=aM (aN _ x _) [(19,vs 1)]:=he
  rw[d1] at he
  subst he
  refine aC (ih (n/10) om om w1) ?_
  rintro v2 w2 ⟨dA,aq⟩
  have eE:=aq.size
  obtain rfl:=dA
  refine ag ?_
  exact dn (aS.of aq) rfl
  refine bN ?_ ?_
  intro x vs w1 e aK hd he
  replace aK:=aS.trans aB aK
  replace he:e=aM (aN _ x _) []:=he
  subst he
  refine zm<|ag ?_
  exact dn (aS.refl _) rfl
  refine bN ?_ ?_
  intro x vs w1 e aK hd he
  have d3:vs 3=(.int .i64 (n:Int)):=hd
  replace aK:=aS.trans aB aK
  replace he:e=aM (aN _ x _) [(21,vs 3)]:=he
  rw[d3] at he
  subst he
  refine ED (b:=10) rfl rfl rfl rfl rfl om<|ag ?_
  exact dn (aS.refl _) rfl
  refine bN ?_ ?_
  intro x vs w1 e aK hd he
  have d4:vs 4=(.int .i64 ((n%10:Nat):Int)):=hd
  replace aK:=aS.trans aB aK
  replace he:e=aM (aN _ x _) [(22,vs 4)]:=he
  rw[d4] at he
  subst he
  refine eF rfl rfl rfl (wrap_i64 _ om om)<|ag ?_
  exact dn (aS.refl _) rfl
  refine bN ?_ ?_
  intro x vs w1 e aK hd he
  have d5:vs 5=(.int .i64 ((48:Int)+((n%10:Nat):Int))):=hd
  replace aK:=aS.trans aB aK
  replace he:e=aM (aN _ x _) [(23,vs 5)]:=he
  rw[d5] at he
  subst he
  refine xm xz zv rfl rfl rfl (wrap_u8 _ om om)<|ag ?_
  exact dn (aS.refl _) rfl
  refine bN ?_ ?_
  intro x vs w1 e aK hd he
  have d6:vs 6=(.int .u8 ((48:Int)+((n%10:Nat):Int))):=hd
  replace aK:=aS.trans aB aK
  replace he:e=aM (aN _ x _) [(24,vs 6)]:=he
  rw[d6] at he
  subst he
  refine gD qO C9 rfl rfl ?_
  intro w2 aq BH eM
  refine ag ?_
  exact dn (aS.of aq) ⟨_,rfl,BH⟩
  refine bN ?_ ?_
  intro x vs w1 e aK hd he
  have d7:(fun(v:Value) (ww:World)=>BG ((48:Int)+((n%10:Nat):Int)) v ww) (vs 7) w1:=hd
  replace aK:=aS.trans aB aK
  replace he:e=aM (aN _ x _) [(25,vs 7)]:=he
  obtain⟨b7,e7,BH⟩:=d7
  rw[e7] at he
  subst he
  refine Rj qO zv fc rfl rfl rfl BH (Ro n)<|ag ?_
  exact dn (aS.refl _) rfl
  refine bN ?_ ?_
  intro x vs w1 e aK hd he
  have aR:(vs 2=(str (bf (n/10))))∧(vs 8=(str [UInt8.ofNat (48+n%10)])):=hd
  obtain⟨d2,d8⟩:=aR
  replace aK:=aS.trans aB aK
  replace he:e=aM (aN _ x _) [(20,vs 2),(26,vs 8)]:=he
  rw[d2,d8] at he
  subst he
  refine cm rfl rfl so<|ag ?_
  exact dn (aS.refl _) rfl
  exact trivial
  intro x vs Ll abV bJ
  have d0:vs 0=(.int .i64 (n:Int)):=bJ 0 de
  have d1:vs 1=(.int .i64 ((n/10:Nat):Int)):=bJ 1 de
  have d2:vs 2=(str (bf (n/10))):=bJ 2 de
  have d3:vs 3=(.int .i64 (n:Int)):=bJ 3 de
  have d4:vs 4=(.int .i64 ((n%10:Nat):Int)):=bJ 4 de
  have d5:vs 5=(.int .i64 ((48:Int)+((n%10:Nat):Int))):=bJ 5 de
  have d6:vs 6=(.int .u8 ((48:Int)+((n%10:Nat):Int))):=bJ 6 de
  have d7:(fun(v:Value) (ww:World)=>BG ((48:Int)+((n%10:Nat):Int)) v ww) (vs 7) Ll:=bJ 7 de
  have d8:vs 8=(str [UInt8.ofNat (48+n%10)]):=bJ 8 de
  have d9:vs 9=(str (bf (n/10)++[UInt8.ofNat (48+n%10)])):=bJ 9 de
  have hK:=hK.ext abV
  change OW _ _ _ _ _ (aM (aN _ x _) (zZ 18 [vs 0,vs 1,vs 2,vs 3,vs 4,vs 5,vs 6,vs 7,vs 8,vs 9])) _
  rw[d0,d1,d2,d3,d4,d5,d6,d8,d9]
  refine zA<|ag<|aV ?_
  exact⟨_,rfl,congrArg str (show bf (n/10)++[UInt8.ofNat (48+n%10)]=bf n from by conv=>(rhs;rw[bf,iN gF])),hK⟩
theorem zS (s:aj) (w:World):cj Tryz.prog 180 [str s] w λr w'=>r= .agg #[str s,.slice none 0 0]∧ak [] w w':=by
 have hK:=ak.refl [] w
 refine lF [.cell 2 66] 5 Tryz.func180 rfl YB rfl rfl rfl ?_
 refine zr<|eA aH rfl rfl rfl ?_
 intro w1 aK aZ dY
 have hK:=hK.grow;have hK:=hK.ext aK
 refine ag<|zr<|zm<|j5 (ZS _ _) rfl rfl<|du aH rfl rfl rfl aZ rfl ?_
 intro w2 aq aZ eM
 have hK:=hK.aL aq sx
 refine ag<|aV ?_
 exact⟨[_],gO bT aH rfl aZ rfl,rfl,hK⟩
/-! ### Types -/
inductive Ty where
 |i
 |op (f:Bool) (a b:Ty)
def kq (f:Bool):aj:=if f then[62] else[42]
def Ty.av:Ty->aA
 | .i=>bZ [105]
 | .op f a b=>.mk [] [bZ (kq f),a.av,b.av]
def Ty.text (t:Ty):aj:=t.av.text
def Ty.n:Ty->Nat
 | .i=>1
 | .op _ a b=>1+a.n+b.n
theorem abW (f:Bool):Good (bZ (kq f)):=by cases f<;>exact .az _ de de
theorem Ty.oC (t:Ty):Good t.av:=by
 induction t with
 |i=>exact .az _ de de
 |op f a b iha ihb=>
  refine .list _ sm λp hp=>?_
  simp only[mC,List.not_mem_nil,or_false] at hp
  rcases hp with rfl|rfl|rfl
  ·exact abW f
  ·exact iha
  ·exact ihb
theorem abX (f:Bool):(bZ (kq f)).text=kq f:=by cases f<;>exact sw de
theorem Ty.Lm:Ty.i.text=[105]:=sw de
theorem Ty.HX (f:Bool) (a b:Ty):(Ty.op f a b).text=40::(kq f++32::(a.text++32::(b.text++[41]))):=by
 show(aA.mk [] [bZ (kq f),a.av,b.av]).text=_
 rw[qU,l3,l3,pF,abX]
 simp[Ty.text]
theorem Ln (f:Bool):(kq f).length=1:=by cases f<;>rfl
theorem Ty.pos (t:Ty):1<=t.n:=by cases t<;>simp[Ty.n];omega
theorem Ty.len (t:Ty):t.text.length+3<=4*t.n:=by
 induction t with
 |i=>rw[Ty.Lm];simp[Ty.n]
 |op f a b iha ihb=>
  rw[Ty.HX]
  simp only[lC,lA,List.length_nil,Ln,Ty.n]
  omega
theorem Ty.deep (t:Ty):t.av.depth+1<=t.n:=by
 induction t with
 |i=>simp[Ty.av,bZ,aA.depth,aA.depth.deeps,Ty.n]
 |op f a b iha ihb=>
  have h0:(bZ (kq f)).depth=0:=rfl
  have h1:=a.pos
  have h2:=b.pos
  show aA.depth.deeps [bZ (kq f),a.av,b.av]+1<=_
  simp only[aA.depth.deeps,h0,Ty.n]
  omega
theorem Ty.size (t:Ty):t.av.size<=5*t.n:=by
 induction t with
 |i=>simp[Ty.av,bZ,aA.size,aA.size.sizes,Ty.n]
 |op f a b iha ihb=>
  have h0:(bZ (kq f)).size=2:=by cases f<;>rfl
  show 1+0+aA.size.sizes [bZ (kq f),a.av,b.av]<=_
  simp only[aA.size.sizes,h0,Ty.n];omega
theorem Ty.ba {t:Ty} (h:t.n<=60):ba t.text=some t.av:=K6 t.oC (by have:=t.deep;omega) (by have:=t.len;show t.text.length<=_;omega)
theorem Ty.ne (t:Ty):t.text≠[]:=abS t.oC
theorem Ff:∀{t u:Ty},t.av=u.av->t=u
 | .i,.i,_=>rfl
 | .i,.op _ _ _,h=>by simp[Ty.av,bZ] at h
 | .op _ _ _,.i,h=>by simp[Ty.av,bZ] at h
 | .op f a b,.op g c d,h=>by
  simp only[Ty.av,aA.mk.injEq,true_and,List.cons.injEq,and_true] at h
  obtain⟨h1,h2,h3⟩:=h
  rw[Ff h2,Ff h3]
  cases f<;>cases g<;>first|rfl|(simp[bZ,kq] at h1)
theorem Ty.inj {t u:Ty} (h:t.text=u.text):t=u:=Ff (K5 t.oC u.oC h)
/-! ### Forms that are types -/
mutual
def fN:aA->Nat
 | .mk a ps=>if a≠[] then 1 else jO ps
def jO:List aA->Nat
 |[]=>0
 |t::ts=>fN t+jO ts
end
theorem Lo:∀(xs ys:List aA),jO (xs++ys)=jO xs+jO ys
 |[],ys=>by simp[jO]
 |x::xs,ys=>by simp[jO,Lo xs ys];omega
theorem Lp (t:aA):fN t=if t.az≠[] then 1 else jO t.au:=by cases t with|mk a ps=>rw[fN];rfl
theorem Rq (h:ps[i]?=some p):jO (ps.take (i+1))=jO (ps.take i)+fN p:=by
 rw[List.take_add_one,h,Lo];simp[jO]
mutual
theorem abY:∀t:aA,fN t<=t.size
 | .mk a ps=>by
  have:=Lq ps
  unfold fN
  simp only[aA.size]
  split<;>omega
theorem Lq:∀ps:List aA,jO ps<=aA.size.sizes ps
 |[]=>by simp[jO]
 |t::ts=>by
  have h1:=abY t
  have h2:=Lq ts
  simp only[jO,aA.size.sizes];omega
end
theorem Ls {a:aj} (h:a≠[]):fN (bZ a)=1:=by simp[fN,bZ,h]
theorem Ty.fN (t:Ty):fN t.av=t.n:=by
 induction t with
 |i=>simp[Ty.av,Ls,Ty.n]
 |op f a b iha ihb=>
  have h0:Go.Proofs.YtigijcjccmdmhaaGreatDoor.fN (bZ (kq f))=1:=Ls (by cases f<;>decide)
  show Go.Proofs.YtigijcjccmdmhaaGreatDoor.fN (.mk [] [bZ (kq f),a.av,b.av])=_
  simp only[Go.Proofs.YtigijcjccmdmhaaGreatDoor.fN,jO,h0,iha,ihb,Ty.n]
  simp;omega
mutual
def oY:aA->Bool
 | .mk a ps=>if a≠[] then decide (a=[105]) else sB ps
def sB:List aA->Bool
 |[h,x,y]=>(decide (h.az=[62])||decide (h.az=[42]))&&(oY x&&oY y)
 |_=>false
end
theorem Rr (t:aA):oY t=if t.az≠[] then decide (t.az=[105]) else sB t.au:=by cases t with|mk a ps=>rw[oY];rfl
theorem abZ (hw:WF t):oY t=true↔∃u:Ty,t=u.av:=by
 constructor
 ·intro h
  have key:∀m (t:aA),t.size<=m->WF t->oY t=true->∃u:Ty,t=u.av:=by
   intro m
   induction m with
   |zero=>intro t ht;have:=xC t;omega
   |succ m ih=>
    intro t hm hw h
    cases hw with
    |az a ha=>
     simp only[oY,iP ha,dE] at h
     exact⟨.i,by rw[h];rfl⟩
    |list ps hp hw=>
     simp only[oY] at h
     rw[iN de] at h
     match ps,h with
     |[hd,x,y],h=>
      simp only[sB,aE,oE,dE] at h
      obtain⟨hs,hx,hy⟩:=h
      simp only[aA.size,aA.size.sizes] at hm
      obtain⟨u,rfl⟩:=ih x om (hw x sm) hx
      obtain⟨v,rfl⟩:=ih y om (hw y sm) hy
      have tu:∀s:aj,s≠[]->hd.az=s->hd=bZ s:=λs ow e=>by
       have hwh:=hw hd sm
       cases hwh with
       |az a ha=>cases e;rfl
       |list qs _ _=>exact absurd e.symm ow
      rcases hs with hs|hs
      ·exact⟨.op true u v,by rw[tu _ de hs];rfl⟩
      ·exact⟨.op false u v,by rw[tu _ de hs];rfl⟩
  exact key t.size t (lR _) hw h
 ·rintro⟨u,rfl⟩
  induction u with
  |i=>rfl
  |op f a b iha ihb=>
   show oY (.mk [] [bZ (kq f),a.av,b.av])=true
   have:=iha a.oC.wf
   have:=ihb b.oC.wf
   simp only[oY,sB, *]
   cases f<;>simp[bZ,kq,aA.az]
def kr (t:aA):Bool:=oY t&&decide (fN t<=16)
theorem xL (hw:WF t):kr t=true↔∃u:Ty,t=u.av∧u.n<=16:=by
 unfold kr
 rw[aE,dE,abZ hw]
 constructor
 ·rintro⟨⟨u,rfl⟩,h⟩;exact⟨u,rfl,by rw[<-u.fN];exact h⟩
 ·rintro⟨u,rfl,h⟩;exact⟨⟨u,rfl⟩,by rw[u.fN];exact h⟩
/-! ### Names -/
def eO (s:aj):Bool:=decide (1<=s.length)&&decide (s.length<=4)&&(decide (97<=s.getD 0 0)&&decide (s.getD 0 0<=122))&&(s.drop 1).all ij
def ql (s:aj):Bool:=(numeral s).isSome||eO s
theorem uK (h:eO s=true):s≠[]:=by rintro rfl;simp[eO] at h
/-! ### Expressions -/
inductive Ex where
 |at(s:aj)
 |un (h:aj) (a:Ex)
 |bi (h:aj) (a b:Ex)
 |ite (a b c:Ex)
 |lt (x:aj) (a b:Ex)
 |fn (f x:aj) (A B:Ty) (e:Ex)
abbrev cC:aj:=[105,102]
abbrev gM:aj:=[108,101,116]
abbrev il:aj:=[102,117,110]
abbrev BI:aj:=[102,115,116]
abbrev qW:aj:=[115,110,100]
abbrev kD:aj:=[99,97,108,108]
abbrev xM:aj:=[112,97,105,114]
def Ex.av:Ex->aA
 | .at s=>bZ s
 | .un h a=>.mk [] [bZ h,a.av]
 | .bi h a b=>.mk [] [bZ h,a.av,b.av]
 | .ite a b c=>.mk [] [bZ cC,a.av,b.av,c.av]
 | .lt x a b=>.mk [] [bZ gM,bZ x,a.av,b.av]
 | .fn f x A B e=>.mk [] [bZ il,bZ f,bZ x,A.av,B.av,e.av]
def gQ (h:aj):Bool:=decide (h=BI)||decide (h=qW)
def iz (h:aj):Bool:=decide (h=[43])||decide (h=[45])||decide (h=[42])||decide (h=kD)||decide (h=xM)
def Ex.ok:Ex->Prop
 | .at s=>ql s=true
 | .un h a=>gQ h=true∧a.ok
 | .bi h a b=>iz h=true∧a.ok∧b.ok
 | .ite a b c=>a.ok∧b.ok∧c.ok
 | .lt x a b=>eO x=true∧a.ok∧b.ok
 | .fn f x A B e=>eO f=true∧eO x=true∧f≠x∧A.n<=16∧B.n<=16∧e.ok
def Ex.n:Ex->Nat
 | .at _=>1
 | .un _ a=>1+a.n
 | .bi _ a b=>1+a.n+b.n
 | .ite a b c=>1+a.n+b.n+c.n
 | .lt _ a b=>2+a.n+b.n
 | .fn _ _ A B e=>3+A.n+B.n+e.n
mutual
def dS:aA->Bool
 | .mk a ps=>if a≠[] then ql a else nQ ps
def nQ:List aA->Bool
 |[h,a]=>gQ h.az&&dS a
 |[h,a,b]=>iz h.az&&(dS a&&dS b)
 |[h,a,b,c]=>if h.az=cC then dS a&&(dS b&&dS c) else if h.az=gM then eO a.az&&(dS b&&dS c) else false
 |[h,f,x,A,B,e]=>decide (h.az=il)&&(eO f.az&&eO x.az&&decide (f.az≠x.az)&&kr A&&kr B&&dS e)
 |_=>false
end
theorem zT (hw:WF t) (hs:s≠[]) (e:t.az=s):t=bZ s:=by
 cases hw with
 |az a ha=>cases e;rfl
 |list qs _ _=>exact absurd e.symm hs
theorem Rs (k:gQ h=true):h≠[]:=by rintro rfl;cases k
theorem Rt (k:iz h=true):h≠[]:=by rintro rfl;cases k
theorem pH (k:ql s=true):s≠[]:=by rintro rfl;cases k
theorem ab1 (hw:WF t):dS t=true↔∃e:Ex,t=e.av∧e.ok:=by
 constructor
 ·intro h
  have key:∀m (t:aA),t.size<=m->WF t->dS t=true->∃e:Ex,t=e.av∧e.ok:=by
   intro m
   induction m with
   |zero=>intro t ht;have:=xC t;omega
   |succ m ih=>
    intro t hm hw h
    cases hw with
    |az a ha=>
     simp only[dS,iP ha] at h
     exact⟨.at a,rfl,h⟩
    |list ps hp hw=>
     simp only[dS] at h
     rw[iN de] at h
     match ps,h with
     |[hd,x],h=>
      simp only[nQ,aE] at h
      simp only[aA.size,aA.size.sizes] at hm
      obtain⟨u,rfl,hu⟩:=ih x om (hw x sm) h.2
      exact⟨.un hd.az u,by rw[zT (hw hd sm) (Rs h.1) rfl];rfl,h.1,hu⟩
     |[hd,x,y],h=>
      simp only[nQ,aE] at h
      simp only[aA.size,aA.size.sizes] at hm
      obtain⟨u,rfl,hu⟩:=ih x om (hw x sm) h.2.1
      obtain⟨v,rfl,hv⟩:=ih y om (hw y sm) h.2.2
      exact⟨.bi hd.az u v,by rw[zT (hw hd sm) (Rt h.1) rfl];rfl,h.1,hu,hv⟩
     |[hd,x,y,z],h=>
      simp only[nQ] at h
      simp only[aA.size,aA.size.sizes] at hm
      split at h
      ·rename_i hh
       simp only[aE] at h
       obtain⟨u,rfl,hu⟩:=ih x om (hw x sm) h.1
       obtain⟨v,rfl,hv⟩:=ih y om (hw y sm) h.2.1
       obtain⟨q,rfl,hq⟩:=ih z om (hw z sm) h.2.2
       exact⟨.ite u v q,by rw[zT (hw hd sm) de hh];rfl,hu,hv,hq⟩
      ·split at h
       ·rename_i hh
        simp only[aE] at h
        obtain⟨v,rfl,hv⟩:=ih y om (hw y sm) h.2.1
        obtain⟨q,rfl,hq⟩:=ih z om (hw z sm) h.2.2
        exact⟨.lt x.az v q,by rw[zT (hw hd sm) de hh,zT (hw x sm) (uK h.1) rfl];rfl,h.1,hv,hq⟩
       ·cases h
     |[hd,f,x,A,B,e],h=>
      simp only[nQ,aE,dE] at h
      simp only[aA.size,aA.size.sizes] at hm
      obtain⟨hh,⟨⟨⟨⟨hf,hx⟩,eK⟩,hA⟩,hB⟩,he⟩:=h
      obtain⟨u,rfl,hu⟩:=ih e om (hw e sm) he
      obtain⟨tA,rfl,Ru⟩:=(xL (hw A sm)).1 hA
      obtain⟨tB,rfl,HY⟩:=(xL (hw B sm)).1 hB
      exact⟨.fn f.az x.az tA tB u,by rw[zT (hw hd sm) de hh,zT (hw f sm) (uK hf) rfl,zT (hw x sm) (uK hx) rfl];rfl,hf,hx,eK,Ru,HY,hu⟩
  exact key t.size t (lR _) hw h
 ·rintro⟨e,rfl,bD⟩
  clear hw
  induction e with
  |«at» s=>
   show dS (.mk s [])=true
   simp only[dS];rw[iP (pH bD)];exact bD
  |un h a iha=>
   show dS (.mk [] [bZ h,a.av])=true
   simp only[dS];rw[iN de]
   simp only[nQ,aE]
   exact⟨bD.1,iha bD.2⟩
  |bi h a b iha ihb=>
   show dS (.mk [] [bZ h,a.av,b.av])=true
   simp only[dS];rw[iN de]
   simp only[nQ,aE]
   exact⟨bD.1,iha bD.2.1,ihb bD.2.2⟩
  |ite a b c iha ihb ihc=>
   show dS (.mk [] [bZ cC,a.av,b.av,c.av])=true
   simp only[dS];rw[iN de]
   simp only[nQ]
   rw[iP (show(bZ cC).az=cC from rfl)]
   simp only[aE]
   exact⟨iha bD.1,ihb bD.2.1,ihc bD.2.2⟩
  |lt x a b iha ihb=>
   show dS (.mk [] [bZ gM,bZ x,a.av,b.av])=true
   simp only[dS];rw[iN de]
   simp only[nQ]
   rw[iN (show¬(bZ gM).az=cC by decide),iP (show(bZ gM).az=gM from rfl)]
   simp only[aE]
   exact⟨bD.1,iha bD.2.1,ihb bD.2.2⟩
  |fn f x A B e ih=>
   show dS (.mk [] [bZ il,bZ f,bZ x,A.av,B.av,e.av])=true
   obtain⟨hf,hx,eK,hA,hB,he⟩:=bD
   simp only[dS];rw[iN de]
   simp only[nQ,aE,dE]
   exact⟨rfl,⟨⟨⟨⟨hf,hx⟩,eK⟩,(xL A.oC.wf).2 ⟨A,rfl,hA⟩⟩,(xL B.oC.wf).2 ⟨B,rfl,hB⟩⟩,ih he⟩
/-! ### Parts -/
def Ex.head:Ex->aj
 | .at _=>[]
 | .un h _=>h
 | .bi h _ _=>h
 | .ite _ _ _=>cC
 | .lt _ _ _=>gM
 | .fn _ _ _ _ _=>il
def Ex.from:Ex->Nat
 | .lt _ _ _=>2
 | .fn _ _ _ _ _=>5
 |_=>1
def Ex.kids:Ex->List Ex
 | .at _=>[]
 | .un _ a=>[a]
 | .bi _ a b=>[a,b]
 | .ite a b c=>[a,b,c]
 | .lt _ a b=>[a,b]
 | .fn _ _ _ _ e=>[e]
def Ex.binds:Ex->Nat->List aj
 | .lt x _ _,3=>[x]
 | .fn f x _ _ _,_=>[f,x]
 |_,_=>[]
def Ex.jj:Ex->Bool
 | .at _=>true
 |_=>false
def fJ (e:Ex) (j:Nat):Ex:=e.kids.getD j (.at [])
theorem Ex.wf {e:Ex} (h:e.ok):Good e.av:=by
 have num:∀s:aj,ql s=true->s.all fA=true:=λs hs=>by
  unfold ql at hs
  rw[oE] at hs
  have Lt:∀c:UInt8,ij c=true->fA c=true:=λc hc=>by
   unfold ij at hc;unfold fA
   rw[hc];simp
  rcases hs with hs|hs
  ·cases hn:numeral s with
   |none=>rw[hn] at hs;cases hs
   |some z=>
    unfold numeral at hn
    split at hn
    ·rename_i e;rw[e];decide
    ·split at hn
     ·cases hn
     ·split at hn
      ·rename_i ha
       rw[List.all_eq_true] at ha⊢
       intro c hc
       unfold ew at ha
       split at ha
       ·rename_i hm
        cases s with
        |nil=>simp at hm
        |cons d r=>
         simp only[List.getD_cons_zero,List.drop_succ_cons,List.drop_zero] at hm ha
         rcases mC.1 hc with rfl|hc
         ·rw[hm.2];decide
         ·exact Lt c (ha c hc)
       ·exact Lt c (ha c hc)
      ·cases hn
  ·cases s with
   |nil=>rfl
   |cons c r=>
    simp only[eO,aE,dE,List.getD_cons_zero,List.drop_succ_cons,List.drop_zero] at hs
    obtain⟨⟨_,h1,h2⟩,h3⟩:=hs
    rw[List.all_cons,aE]
    refine⟨?_,?_⟩
    ·unfold fA;simp[h1,h2]
    ·rw[List.all_eq_true] at h3⊢
     exact λd hd=>Lt d (h3 d hd)
 have nm:∀s:aj,eO s=true->Good (bZ s):=λs hs=>.az _ (uK hs) (num s (by unfold ql;rw[hs];simp))
 induction e with
 |«at» s=>exact .az _ (pH h) (num s h)
 |un hd a iha=>
  refine .list _ sm λp hp=>?_
  simp only[mC,List.not_mem_nil,or_false] at hp
  rcases hp with rfl|rfl
  ·obtain⟨k,_⟩:=h
   simp only[gQ,oE,dE] at k
   rcases k with k|k<;>(rw[k];exact .az _ de de)
  ·exact iha h.2
 |bi hd a b iha ihb=>
  refine .list _ sm λp hp=>?_
  simp only[mC,List.not_mem_nil,or_false] at hp
  rcases hp with rfl|rfl|rfl
  ·obtain⟨k,_⟩:=h
   simp only[iz,oE,dE] at k
   rcases k with(((k|k)|k)|k)|k<;>(rw[k];exact .az _ de de)
  ·exact iha h.2.1
  ·exact ihb h.2.2
 |ite a b c iha ihb ihc=>
  refine .list _ sm λp hp=>?_
  simp only[mC,List.not_mem_nil,or_false] at hp
  rcases hp with rfl|rfl|rfl|rfl
  ·exact .az _ de de
  ·exact iha h.1
  ·exact ihb h.2.1
  ·exact ihc h.2.2
 |lt x a b iha ihb=>
  refine .list _ sm λp hp=>?_
  simp only[mC,List.not_mem_nil,or_false] at hp
  rcases hp with rfl|rfl|rfl|rfl
  ·exact .az _ de de
  ·exact nm x h.1
  ·exact iha h.2.1
  ·exact ihb h.2.2
 |fn f x A B e ih=>
  refine .list _ sm λp hp=>?_
  simp only[mC,List.not_mem_nil,or_false] at hp
  obtain⟨hf,hx,_,_,_,he⟩:=h
  rcases hp with rfl|rfl|rfl|rfl|rfl|rfl
  ·exact .az _ de de
  ·exact nm f hf
  ·exact nm x hx
  ·exact A.oC
  ·exact B.oC
  ·exact ih he
theorem Ex.au {e:Ex} (h:e.jj=false):e.av.az=[]∧e.av.au.length=e.from+e.kids.length∧(nth e.av.au 0).az=e.head∧∀j,j<e.kids.length->nth e.av.au (e.from+j)=(fJ e j).av:=by
 cases e with
 |«at» s=>cases h
 |un hd a=>exact⟨rfl,rfl,rfl,λj hj=>by
  have:j=0:=by simp[Ex.kids] at hj;omega
  subst this;rfl⟩
 |bi hd a b=>
  refine⟨rfl,rfl,rfl,λj hj=>?_⟩
  simp only[Ex.kids,lC,List.length_nil] at hj
  rcases(show j=0∨j=1 by omega) with rfl|rfl<;>rfl
 |ite a b c=>
  refine⟨rfl,rfl,rfl,λj hj=>?_⟩
  simp only[Ex.kids,lC,List.length_nil] at hj
  rcases(show j=0∨j=1∨j=2 by omega) with rfl|rfl|rfl<;>rfl
 |lt x a b=>
  refine⟨rfl,rfl,rfl,λj hj=>?_⟩
  simp only[Ex.kids,lC,List.length_nil] at hj
  rcases(show j=0∨j=1 by omega) with rfl|rfl<;>rfl
 |fn f x A B e=>exact⟨rfl,rfl,rfl,λj hj=>by
  have:j=0:=by simp[Ex.kids] at hj;omega
  subst this;rfl⟩
theorem Ex.pos (e:Ex):1<=e.n:=by cases e<;>simp[Ex.n]<;>omega
theorem Ex.fN {e:Ex} (h:e.ok):fN e.av=e.n:=by
 have xN:∀s:aj,s≠[]->Go.Proofs.YtigijcjccmdmhaaGreatDoor.fN (bZ s)=1:=λs hs=>Ls hs
 have nl:∀ps:List aA,Go.Proofs.YtigijcjccmdmhaaGreatDoor.fN (.mk [] ps)=jO ps:=λps=>by simp[Go.Proofs.YtigijcjccmdmhaaGreatDoor.fN]
 induction e with
 |«at» s=>exact xN s (pH h)
 |un hd a iha=>show Go.Proofs.YtigijcjccmdmhaaGreatDoor.fN (.mk [] [bZ hd,a.av])=_;rw[nl];simp only[jO,xN hd (Rs h.1),iha h.2,Ex.n];omega
 |bi hd a b iha ihb=>show Go.Proofs.YtigijcjccmdmhaaGreatDoor.fN (.mk [] [bZ hd,a.av,b.av])=_;rw[nl];simp only[jO,xN hd (Rt h.1),iha h.2.1,ihb h.2.2,Ex.n];omega
 |ite a b c iha ihb ihc=>show Go.Proofs.YtigijcjccmdmhaaGreatDoor.fN (.mk [] [bZ cC,a.av,b.av,c.av])=_;rw[nl];simp only[jO,xN cC de,iha h.1,ihb h.2.1,ihc h.2.2,Ex.n];omega
 |lt x a b iha ihb=>show Go.Proofs.YtigijcjccmdmhaaGreatDoor.fN (.mk [] [bZ gM,bZ x,a.av,b.av])=_;rw[nl];simp only[jO,xN gM de,xN x (uK h.1),iha h.2.1,ihb h.2.2,Ex.n];omega
 |fn f x A B e ih=>
  obtain⟨hf,hx,_,_,_,he⟩:=h
  show Go.Proofs.YtigijcjccmdmhaaGreatDoor.fN (.mk [] [bZ il,bZ f,bZ x,A.av,B.av,e.av])=_
  rw[nl];simp only[jO,xN il de,xN f (uK hf),xN x (uK hx),A.fN,B.fN,ih he,Ex.n];omega
theorem Fg {e:Ex} (h:e.ok) {j:Nat} (hj:j<e.kids.length):(fJ e j).ok∧(fJ e j).n<e.n:=by
 cases e with
 |«at» s=>simp[Ex.kids] at hj
 |un hd a=>
  have:j=0:=by simp[Ex.kids] at hj;omega
  subst this;exact⟨h.2,by show a.n<_;simp only[Ex.n];omega⟩
 |bi hd a b=>
  simp only[Ex.kids,lC,List.length_nil] at hj
  rcases(show j=0∨j=1 by omega) with rfl|rfl
  ·exact⟨h.2.1,by show a.n<_;simp only[Ex.n];omega⟩
  ·exact⟨h.2.2,by show b.n<_;simp only[Ex.n];omega⟩
 |ite a b c=>
  simp only[Ex.kids,lC,List.length_nil] at hj
  rcases(show j=0∨j=1∨j=2 by omega) with rfl|rfl|rfl
  ·exact⟨h.1,by show a.n<_;simp only[Ex.n];omega⟩
  ·exact⟨h.2.1,by show b.n<_;simp only[Ex.n];omega⟩
  ·exact⟨h.2.2,by show c.n<_;simp only[Ex.n];omega⟩
 |lt x a b=>
  simp only[Ex.kids,lC,List.length_nil] at hj
  rcases(show j=0∨j=1 by omega) with rfl|rfl
  ·exact⟨h.2.1,by show a.n<_;simp only[Ex.n];omega⟩
  ·exact⟨h.2.2,by show b.n<_;simp only[Ex.n];omega⟩
 |fn f x A B e=>
  have:j=0:=by simp[Ex.kids] at hj;omega
  subst this;exact⟨h.2.2.2.2.2,by show e.n<_;simp only[Ex.n];omega⟩
def eX (h:aj):Nat×Nat:=
 if iz h then(1,3) else if h=cC then(1,4) else if h=gM then(2,4) else if h=il then(5,6) else if gQ h then(1,2) else(0,0)
theorem Lu {e:Ex} (h:e.ok) (ha:e.jj=false):eX e.head=(e.from,e.from+e.kids.length):=by
 cases e with
 |«at» s=>cases ha
 |un hd a=>
  obtain⟨k,_⟩:=h
  simp only[gQ,oE,dE] at k
  rcases k with k|k<;>(subst k;rfl)
 |bi hd a b=>show eX hd=_;unfold eX;rw[h.1];rfl
 |ite a b c=>rfl
 |lt x a b=>rfl
 |fn f x A B e=>rfl
/-! ### Free aX -/
def Fv (x:aj):Ex->Prop
 | .at s=>s=x∧eO x=true
 | .un _ a=>Fv x a
 | .bi _ a b=>Fv x a∨Fv x b
 | .ite a b c=>Fv x a∨Fv x b∨Fv x c
 | .lt y a b=>Fv x a∨(x≠y∧Fv x b)
 | .fn f y _ _ e=>x≠f∧x≠y∧Fv x e
def cE:Ex->List aj->List aj->List aj
 | .at s,bd,l=>if(!eO s||decide (s∈bd)||decide (s∈l))=true then l else l++[s]
 | .un _ a,bd,l=>cE a bd l
 | .bi _ a b,bd,l=>cE b bd (cE a bd l)
 | .ite a b c,bd,l=>cE c bd (cE b bd (cE a bd l))
 | .lt x a b,bd,l=>cE b (bd++[x]) (cE a bd l)
 | .fn f x _ _ e,bd,l=>cE e (bd++[f,x]) l
theorem qm (x:aj):∀(e:Ex) (bd l:List aj),x∈cE e bd l↔x∈l∨(Fv x e∧x∉bd)
 | .at s,bd,l=>by
  unfold cE Fv
  by_cases h:(!eO s||decide (s∈bd)||decide (s∈l))=true
  ·rw[iP h]
   simp only[oE,Bool.not_eq_true',dE] at h
   refine⟨.inl,λhh=>hh.elim id ?_⟩
   rintro⟨⟨rfl,hn⟩,hb⟩
   rcases h with(h|h)|h
   ·rw[hn] at h;cases h
   ·exact absurd h hb
   ·exact h
  ·rw[iN h]
   simp only[oE,Bool.not_eq_true',dE,not_or,Bool.not_eq_false] at h
   rw[mA,List.mem_singleton]
   refine⟨λhh=>hh.elim .inl (λe=>.inr ⟨⟨e.symm,by rw[e];exact h.1.1⟩,by rw[e];exact h.1.2⟩),λhh=>hh.elim .inl (λe=>.inr e.1.1.symm)⟩
 | .un _ a,bd,l=>qm x a bd l
 | .bi _ a b,bd,l=>by
  unfold cE Fv
  rw[qm x b,qm x a]
  constructor
  ·rintro((h|h)|h)
   ·exact .inl h
   ·exact .inr ⟨.inl h.1,h.2⟩
   ·exact .inr ⟨.inr h.1,h.2⟩
  ·rintro(h|⟨h|h,k⟩)
   ·exact .inl (.inl h)
   ·exact .inl (.inr ⟨h,k⟩)
   ·exact .inr ⟨h,k⟩
 | .ite a b c,bd,l=>by
  unfold cE Fv
  rw[qm x c,qm x b,qm x a]
  constructor
  ·rintro(((h|h)|h)|h)
   ·exact .inl h
   ·exact .inr ⟨.inl h.1,h.2⟩
   ·exact .inr ⟨.inr (.inl h.1),h.2⟩
   ·exact .inr ⟨.inr (.inr h.1),h.2⟩
  ·rintro(h|⟨h|h|h,k⟩)
   ·exact .inl (.inl (.inl h))
   ·exact .inl (.inl (.inr ⟨h,k⟩))
   ·exact .inl (.inr ⟨h,k⟩)
   ·exact .inr ⟨h,k⟩
 | .lt y a b,bd,l=>by
  unfold cE Fv
  rw[qm x b,qm x a]
  simp only[mA,List.mem_singleton,not_or]
  constructor
  ·rintro((h|h)|⟨h,k,k2⟩)
   ·exact .inl h
   ·exact .inr ⟨.inl h.1,h.2⟩
   ·exact .inr ⟨.inr ⟨k2,h⟩,k⟩
  ·rintro(h|⟨h|⟨h,h2⟩,k⟩)
   ·exact .inl (.inl h)
   ·exact .inl (.inr ⟨h,k⟩)
   ·exact .inr ⟨h2,k,h⟩
 | .fn f y _ _ e,bd,l=>by
  unfold cE Fv
  rw[qm x e]
  simp only[mA,mC,List.not_mem_nil,or_false,not_or]
  constructor
  ·rintro(h|⟨h,k,k2,k3⟩)
   ·exact .inl h
   ·exact .inr ⟨⟨k2,k3,h⟩,k⟩
  ·rintro(h|⟨⟨h,h2,h3⟩,k⟩)
   ·exact .inl h
   ·exact .inr ⟨h3,k,h,h2⟩
theorem we:∀(e:Ex) (bd l:List aj),l.Nodup->(cE e bd l).Nodup
 | .at s,bd,l,hl=>by
  unfold cE
  split
  ·exact hl
  ·rename_i h
   simp only[oE,Bool.not_eq_true',dE,not_or,Bool.not_eq_false] at h
   rw[List.nodup_append]
   refine⟨hl,sm,λa ha b hb=>?_⟩
   rw[List.mem_singleton] at hb
   subst hb
   exact λe=>h.2 (e▸ha)
 | .un _ a,bd,l,hl=>we a bd l hl
 | .bi _ a b,bd,l,hl=>we b bd _ (we a bd l hl)
 | .ite a b c,bd,l,hl=>we c bd _ (we b bd _ (we a bd l hl))
 | .lt _ a b,bd,l,hl=>we b _ _ (we a bd l hl)
 | .fn _ _ _ _ e,bd,l,hl=>we e _ l hl
theorem tC:∀(e:Ex) (bd l:List aj),(cE e bd l).length<=l.length+e.n
 | .at s,bd,l=>by unfold cE;split<;>simp[Ex.n]
 | .un _ a,bd,l=>by have:=tC a bd l;simp only[cE,Ex.n];omega
 | .bi _ a b,bd,l=>by have:=tC a bd l;have:=tC b bd (cE a bd l);simp only[cE,Ex.n];omega
 | .ite a b c,bd,l=>by have:=tC a bd l;have:=tC b bd (cE a bd l);have:=tC c bd (cE b bd (cE a bd l));simp only[cE,Ex.n];omega
 | .lt x a b,bd,l=>by have:=tC a bd l;have:=tC b (bd++[x]) (cE a bd l);simp only[cE,Ex.n];omega
 | .fn f x _ _ e,bd,l=>by have:=tC e (bd++[f,x]) l;simp only[cE,Ex.n];omega
def nR (e:Ex) (bd l:List aj):Nat->List aj
 |0=>l
 |j+1=>cE (fJ e j) (bd++e.binds (e.from+j)) (nR e bd l j)
theorem ab2 {e:Ex} (ha:e.jj=false) (bd l:List aj):cE e bd l=nR e bd l e.kids.length:=by
 cases e with
 |«at» s=>cases ha
 |un hd a=>simp[Ex.kids,nR,cE,fJ,Ex.binds]
 |bi hd a b=>simp[Ex.kids,nR,cE,fJ,Ex.binds]
 |ite a b c=>simp[Ex.kids,nR,cE,fJ,Ex.binds]
 |lt x a b=>simp[Ex.kids,nR,cE,fJ,Ex.binds,Ex.from]
 |fn f x A B e=>simp[Ex.kids,nR,cE,fJ,Ex.binds,Ex.from]
def im (x:aj):Ex->Nat
 | .at s=>if s=x then 1 else 0
 | .un _ a=>im x a
 | .bi _ a b=>im x a+im x b
 | .ite a b c=>im x a+im x b+im x c
 | .lt y a b=>im x a+if x=y then 0 else im x b
 | .fn f y _ _ e=>if x=f∨x=y then 0 else im x e
theorem wg {x:aj} (hx:eO x=true):∀e:Ex,0<im x e↔Fv x e
 | .at s=>by unfold im Fv;by_cases h:s=x<;>simp[h,hx]
 | .un _ a=>wg hx a
 | .bi _ a b=>by unfold im Fv;rw[<-wg hx a,<-wg hx b];omega
 | .ite a b c=>by unfold im Fv;rw[<-wg hx a,<-wg hx b,<-wg hx c];omega
 | .lt y a b=>by
  unfold im Fv
  rw[<-wg hx a,<-wg hx b]
  by_cases h:x=y
  ·rw[iP h];simp[h]
  ·rw[iN h];simp only[ne_eq,h,not_false_eq_true,true_and];omega
 | .fn f y _ _ e=>by
  have:=wg hx e
  unfold im Fv
  by_cases h:x=f∨x=y
  ·rw[iP h];refine⟨λh=>absurd h om,λhh=>?_⟩
   rcases h with h|h
   ·exact absurd h hh.1
   ·exact absurd h hh.2.1
  ·rw[iN h];rw[not_or] at h
   exact⟨λhh=>⟨h.1,h.2,this.1 hh⟩,λhh=>this.2 hh.2.2⟩
theorem count_le (x:aj):∀e:Ex,im x e<=e.n
 | .at s=>by unfold im;split<;>simp[Ex.n]
 | .un _ a=>by have:=count_le x a;simp only[im,Ex.n];omega
 | .bi _ a b=>by have:=count_le x a;have:=count_le x b;simp only[im,Ex.n];omega
 | .ite a b c=>by have:=count_le x a;have:=count_le x b;have:=count_le x c;simp only[im,Ex.n];omega
 | .lt y a b=>by have:=count_le x a;have:=count_le x b;simp only[im,Ex.n];split<;>omega
 | .fn f y _ _ e=>by have:=count_le x e;simp only[im,Ex.n];split<;>omega
def tE (x:aj) (e:Ex):Nat->Nat
 |0=>0
 |j+1=>tE x e j+if x∈e.binds (e.from+j) then 0 else im x (fJ e j)
theorem Rv {e:Ex} (ha:e.jj=false) (x:aj):im x e=tE x e e.kids.length:=by
 cases e with
 |«at» s=>cases ha
 |un hd a=>simp[Ex.kids,tE,im,fJ,Ex.binds]
 |bi hd a b=>simp[Ex.kids,tE,im,fJ,Ex.binds]
 |ite a b c=>simp[Ex.kids,tE,im,fJ,Ex.binds]
 |lt y a b=>simp[Ex.kids,tE,im,fJ,Ex.binds,Ex.from]
 |fn f y A B e=>simp[Ex.kids,tE,im,fJ,Ex.binds]
/-! ### Types of expressions -/
abbrev Sc:=List (aj×Ty)
def look (Γ:Sc) (s:aj):Option Ty:=(Γ.reverse.find? λp=>decide (p.1=s)).map Prod.snd
theorem mV (Γ:Sc) (x s:aj) (T:Ty):look (Γ++[(x,T)]) s=if x=s then some T else look Γ s:=by
 unfold look
 rw[List.reverse_append]
 simp only[List.reverse_cons,List.reverse_nil,List.nil_append,List.cons_append,List.find?_cons]
 by_cases h:x=s
 ·simp[h]
 ·simp[h]
theorem zU (Γ:Sc) (f x s:aj) (T U:Ty):look (Γ++[(f,T),(x,U)]) s=if x=s then some U else if f=s then some T else look Γ s:=by
 rw[show Γ++[(f,T),(x,U)]=(Γ++[(f,T)])++[(x,U)] from by simp,mV,mV]
def k8 (a b:Ty):Bool:=decide (a.text=b.text)
theorem ab3 {a b:Ty}:k8 a b=true↔a=b:=by
 unfold k8;rw[dE];exact⟨Ty.inj,λh=>by rw[h]⟩
def k9 (h:aj):List Ty->Option Ty
 |[a]=>match a with
  | .op false c d=>if h=BI then some c else if h=qW then some d else none
  |_=>none
 |[a,b]=>
  if h=kD then match a with
   | .op true c d=>if k8 c b then some d else none
   |_=>none
  else if h=xM then(if 1+a.n+b.n<=16 then some (.op false a b) else none)
  else if k8 a .i&&k8 b .i then some .i else none
 |[a,b,c]=>if k8 a .i&&k8 b c then some b else none
 |_=>none
def bM:Ex->Sc->Option Ty
 | .at s,Γ=>if eO s then look Γ s else some .i
 | .un h a,Γ=>(bM a Γ).bind λA=>k9 h [A]
 | .bi h a b,Γ=>(bM a Γ).bind λA=>(bM b Γ).bind λB=>k9 h [A,B]
 | .ite a b c,Γ=>(bM a Γ).bind λA=>(bM b Γ).bind λB=>(bM c Γ).bind λC=>k9 cC [A,B,C]
 | .lt x a b,Γ=>(bM a Γ).bind λA=>bM b (Γ++[(x,A)])
 | .fn f x A B e,Γ=>if 1+A.n+B.n<=16 then(bM e (Γ++[(f,.op true A B),(x,A)])).bind λC=>if k8 C B then some (.op true A B) else none else none
theorem qo:∀(e:Ex) (Γ Δ:Sc),(∀s,eO s=true->Fv s e->look Γ s=look Δ s)->bM e Γ=bM e Δ
 | .at s,Γ,Δ,h=>by
  unfold bM
  by_cases hn:eO s=true
  ·rw[iP hn,iP hn];exact h s hn ⟨rfl,hn⟩
  ·rw[iN hn,iN hn]
 | .un hd a,Γ,Δ,h=>by unfold bM;rw[qo a Γ Δ h]
 | .bi hd a b,Γ,Δ,h=>by unfold bM;rw[qo a Γ Δ λs hn hs=>h s hn (.inl hs),qo b Γ Δ λs hn hs=>h s hn (.inr hs)]
 | .ite a b c,Γ,Δ,h=>by unfold bM;rw[qo a Γ Δ λs hn hs=>h s hn (.inl hs),qo b Γ Δ λs hn hs=>h s hn (.inr (.inl hs)),qo c Γ Δ λs hn hs=>h s hn (.inr (.inr hs))]
 | .lt x a b,Γ,Δ,h=>by
  unfold bM
  rw[qo a Γ Δ λs hn hs=>h s hn (.inl hs)]
  cases bM a Δ with
  |none=>rfl
  |some A=>
   refine qo b _ _ λs hn hs=>?_
   rw[mV,mV]
   by_cases e:x=s
   ·rw[iP e,iP e]
   ·rw[iN e,iN e];exact h s hn (.inr ⟨λe'=>e e'.symm,hs⟩)
 | .fn f x A B e,Γ,Δ,h=>by
  unfold bM
  rw[qo e _ (Δ++[(f,.op true A B),(x,A)]) λs hn hs=>?_]
  rw[zU,zU]
  by_cases e1:x=s
  ·rw[iP e1,iP e1]
  ·by_cases e2:f=s
   ·rw[iN e1,iN e1,iP e2,iP e2]
   ·rw[iN e1,iN e1,iN e2,iN e2];exact h s hn ⟨λe'=>e2 e'.symm,λe'=>e1 e'.symm,hs⟩
def zV (Γ:Sc):Prop:=∀s T,look Γ s=some T->T.n<=16
theorem Fh {Γ:Sc} (h:zV Γ) {x:aj} {T:Ty} (hT:T.n<=16):zV (Γ++[(x,T)]):=λs U hU=>by
 rw[mV] at hU
 split at hU
 ·cases hU;exact hT
 ·exact h s U hU
theorem Lv:∀{ks:List Ty} {T:Ty},(∀k,k∈ks->k.n<=16)->k9 h ks=some T->T.n<=16
 |[],T,_,e=>by cases e
 |[a],T,hk,e=>by
  have ha:=hk a sm
  cases a with
  |i=>cases e
  |op f c d=>
   cases f with
   |true=>cases e
   |false=>
    simp only[Ty.n] at ha
    simp only[k9] at e
    split at e
    ·cases e;omega
    ·split at e
     ·cases e;omega
     ·cases e
 |[a,b],T,hk,e=>by
  have ha:=hk a sm
  have hb:=hk b sm
  simp only[k9] at e
  split at e
  ·cases a with
   |i=>cases e
   |op f c d=>
    cases f with
    |false=>cases e
    |true=>
     simp only at e
     split at e
     ·cases e;simp only[Ty.n] at ha;omega
     ·cases e
  ·split at e
   ·split at e
    ·rename_i hc;cases e;simpa[Ty.n] using hc
    ·cases e
   ·split at e
    ·cases e;decide
    ·cases e
 |[a,b,c],T,hk,e=>by
  simp only[k9] at e
  split at e
  ·cases e;exact hk b sm
  ·cases e
 |_::_::_::_::_,T,_,e=>by cases e
theorem l4:∀{e:Ex} {Γ:Sc} {T:Ty},zV Γ->bM e Γ=some T->T.n<=16
 | .at s,Γ,T,hΓ,h=>by
  unfold bM at h
  split at h
  ·exact hΓ s T h
  ·cases h;decide
 | .un hd a,Γ,T,hΓ,h=>by
  unfold bM at h
  cases ha:bM a Γ with
  |none=>rw[ha] at h;cases h
  |some A=>
   rw[ha,Option.bind_some] at h
   exact Lv (λk hk=>by simp at hk;rw[hk];exact l4 hΓ ha) h
 | .bi hd a b,Γ,T,hΓ,h=>by
  unfold bM at h
  cases ha:bM a Γ with
  |none=>rw[ha] at h;cases h
  |some A=>
   cases hb:bM b Γ with
   |none=>rw[ha,hb] at h;cases h
   |some B=>
    rw[ha,hb,Option.bind_some,Option.bind_some] at h
    exact Lv (λk hk=>by simp at hk;rcases hk with rfl|rfl;exact l4 hΓ ha;exact l4 hΓ hb) h
 | .ite a b c,Γ,T,hΓ,h=>by
  unfold bM at h
  cases ha:bM a Γ with
  |none=>rw[ha] at h;cases h
  |some A=>
   cases hb:bM b Γ with
   |none=>rw[ha,hb] at h;cases h
   |some B=>
    cases hc:bM c Γ with
    |none=>rw[ha,hb,hc] at h;cases h
    |some C=>
     rw[ha,hb,hc,Option.bind_some,Option.bind_some,Option.bind_some] at h
     exact Lv (λk hk=>by simp at hk;rcases hk with rfl|rfl|rfl;exact l4 hΓ ha;exact l4 hΓ hb;exact l4 hΓ hc) h
 | .lt x a b,Γ,T,hΓ,h=>by
  unfold bM at h
  cases ha:bM a Γ with
  |none=>rw[ha] at h;cases h
  |some A=>
   rw[ha,Option.bind_some] at h
   exact l4 (Fh hΓ (l4 hΓ ha)) h
 | .fn f x A B e,Γ,T,hΓ,h=>by
  unfold bM at h
  split at h
  ·rename_i hc
   cases he:bM e (Γ++[(f,.op true A B),(x,A)]) with
   |none=>rw[he] at h;cases h
   |some C=>
    rw[he,Option.bind_some] at h
    split at h
    ·cases h;simpa[Ty.n] using hc
    ·cases h
  ·cases h
/-! ### sk aX -/
theorem Rw (n:Nat):val (bf n)=n:=by
 induction n using Nat.strongRecOn with
 |_ n ih=>
  have hd:∀k,k<10->(UInt8.ofNat (48+k)).toNat=48+k:=λk hk=>by
   rw[UInt8.toNat_ofNat'];exact Nat.mod_eq_of_lt om
  unfold bf
  by_cases h:n<10
  ·rw[iP h]
   show 10*0+((UInt8.ofNat (48+n)).toNat-48)=n
   rw[hd n h];omega
  ·rw[iN h,PU,ih (n/10) om,hd (n%10) om];omega
theorem ab4 {n:Nat} (h:bf n=bf m):n=m:=by rw[<-Rw n,<-Rw m,h]
def dj (c:UInt8) (k:Nat):aj:=c::bf k
theorem pI {c:UInt8} {j:Nat} (h:dj c k=dj c j):k=j:=ab4 (by unfold dj at h;simpa using h)
theorem Lw {α:Type} [BEq α] [LawfulBEq α]:∀{l m:List α},l.Nodup->(∀x,x∈l->x∈m)->l.length<=m.length
 |[],m,_,_=>by simp
 |a::l,m,hn,hs=>by
  rw[List.nodup_cons] at hn
  have ha:=hs a sm
  have:=Lw (l:=l) (m:=m.erase a) hn.2 λx hx=>(List.mem_erase_of_ne (fun(e:x=a)=>hn.1 (e▸hx))).2 (hs x (by simp[hx]))
  rw[List.length_erase_of_mem ha] at this
  have:=List.length_pos_of_mem ha
  simp only[lC];omega
def oZ (c:UInt8) (ai:List aj):Nat->Nat->Nat
 |0,n=>n
 |fuel+1,n=>if dj c n∈ai then oZ c ai fuel (n+1) else n
def bK (c:UInt8) (ai:List aj) (n:Nat):Nat:=oZ c ai (ai.length+1) n
theorem Rx (c:UInt8) (ai:List aj):∀fuel n,n<=oZ c ai fuel n∧oZ c ai fuel n<=n+fuel
 |0,n=>by simp[oZ]
 |fuel+1,n=>by
  unfold oZ
  have:=Rx c ai fuel (n+1)
  split<;>omega
theorem Ry (c:UInt8) (ai:List aj):∀fuel n,dj c (oZ c ai fuel n)∉ai∨∀j,j<fuel->dj c (n+j)∈ai
 |0,n=>.inr λj hj=>by omega
 |fuel+1,n=>by
  unfold oZ
  split
  ·rename_i h
   rcases Ry c ai fuel (n+1) with h1|h1
   ·exact .inl h1
   ·refine .inr λj hj=>?_
    cases j with
    |zero=>exact h
    |succ j=>have:=h1 j om;rw[show n+(j+1)=n+1+j from by omega];exact this
  ·rename_i h;exact .inl h
theorem HZ (c:UInt8) (ai:List aj) (n:Nat):dj c (bK c ai n)∉ai:=by
 rcases Ry c ai (ai.length+1) n with h|h
 ·exact h
 ·exfalso
  have hn:((List.range (ai.length+1)).map λj=>dj c (n+j)).Nodup:=by
   rw[List.nodup_iff_pairwise_ne,List.pairwise_map]
   refine List.Pairwise.imp ?_ (List.nodup_iff_pairwise_ne.1 List.nodup_range)
   intro a b H0 e
   exact H0 (by have:=pI e;omega)
  have:=Lw hn (m:=ai) (λx hx=>by
   obtain⟨j,hj,rfl⟩:=List.mem_map.1 hx
   exact h j (List.mem_range.1 hj))
  simp at this;omega
theorem oD (c:UInt8) (ai:List aj) (n:Nat):n<=bK c ai n∧bK c ai n<=n+ai.length+1:=by
 have:=Rx c ai (ai.length+1) n
 unfold bK;omega
theorem Rz {c:UInt8} {ai:List aj} {n:Nat} (h:dj c n∈ai):bK c ai n=bK c ai (n+1):=by
 have key:∀f g n,dj c (oZ c ai f n)∉ai->dj c (oZ c ai g n)∉ai->oZ c ai f n=oZ c ai g n:=by
  intro f
  induction f with
  |zero=>
   intro g n h1 h2
   cases g with
   |zero=>rfl
   |succ g=>unfold oZ at h1⊢;rw[iN h1]
  |succ f ih=>
   intro g n h1 h2
   cases g with
   |zero=>unfold oZ at h2⊢;rw[iN h2]
   |succ g=>
    unfold oZ at h1 h2⊢
    by_cases hh:dj c n∈ai
    ·rw[iP hh] at h1 h2⊢;rw[iP hh];exact ih g (n+1) h1 h2
    ·rw[iN hh,iN hh]
 have e:bK c ai n=oZ c ai ai.length (n+1):=by
  unfold bK
  conv=>lhs;unfold oZ
  rw[iP h]
 have h1:=HZ c ai n
 rw[e] at h1⊢
 exact key _ _ _ h1 (HZ c ai (n+1))
theorem RA {c:UInt8} {ai:List aj} {n:Nat} (h:dj c n∉ai):bK c ai n=n:=by
 unfold bK oZ;rw[iN h]
theorem zW {c:UInt8} (hc:97<=c∧c<=122) (hk:k<1000):eO (dj c k)=true:=by
 have hd:∀k,(bf k).all ij=true:=λk=>by
  induction k using Nat.strongRecOn with
  |_ k ih=>
   have hd:∀j,j<10->ij (UInt8.ofNat (48+j))=true:=by decide
   unfold bf
   by_cases h:k<10
   ·rw[iP h,List.all_cons,hd k h];rfl
   ·rw[iN h,List.all_append,ih (k/10) om,List.all_cons,hd (k%10) om];rfl
 have h1:∀k,k<10->(bf k).length=1:=λk hk=>by unfold bf;rw[iP hk];rfl
 have h2:∀k,k<100->(bf k).length<=2:=λk hk=>by
  unfold bf
  split
  ·simp
  ·have:=h1 (k/10) om
   simp;omega
 have h3:(bf k).length<=3:=by
  unfold bf
  split
  ·simp
  ·have:=h2 (k/10) om
   simp;omega
 unfold eO dj
 simp only[lC,List.getD_cons_zero,List.drop_succ_cons,List.drop_zero,hd k,Bool.and_true,aE,dE]
 exact⟨⟨by omega,om⟩,hc⟩
/-! ### Bound aX renamed -/
abbrev Rn:=List (aj×aj)
def qX (ρ:Rn) (s:aj):aj:=((ρ.reverse.find? λp=>decide (p.1=s)).map Prod.snd).getD s
theorem Fi (ρ:Rn) (x y s:aj):qX (ρ++[(x,y)]) s=if x=s then y else qX ρ s:=by
 unfold qX
 rw[List.reverse_append]
 simp only[List.reverse_cons,List.reverse_nil,List.nil_append,List.cons_append,List.find?_cons]
 by_cases h:x=s
 ·simp[h]
 ·simp[h]
theorem RB (ρ:Rn) (f x s g y:aj):qX (ρ++[(f,g),(x,y)]) s=if x=s then y else if f=s then g else qX ρ s:=by
 rw[show ρ++[(f,g),(x,y)]=(ρ++[(f,g)])++[(x,y)] from by simp,Fi,Fi]
abbrev cx:UInt8:=120
def cg (ai:List aj):Ex->Rn->Nat->Ex×Nat
 | .at s,ρ,n=>(.at (if eO s then qX ρ s else s),n)
 | .un h a,ρ,n=>(.un h (cg ai a ρ n).1,(cg ai a ρ n).2)
 | .bi h a b,ρ,n=>(.bi h (cg ai a ρ n).1 (cg ai b ρ (cg ai a ρ n).2).1,(cg ai b ρ (cg ai a ρ n).2).2)
 | .ite a b c,ρ,n=>(.ite (cg ai a ρ n).1 (cg ai b ρ (cg ai a ρ n).2).1 (cg ai c ρ (cg ai b ρ (cg ai a ρ n).2).2).1,(cg ai c ρ (cg ai b ρ (cg ai a ρ n).2).2).2)
 | .lt x a b,ρ,n=>(.lt (dj cx (bK cx ai n)) (cg ai a ρ (bK cx ai n+1)).1 (cg ai b (ρ++[(x,dj cx (bK cx ai n))]) (cg ai a ρ (bK cx ai n+1)).2).1,
   (cg ai b (ρ++[(x,dj cx (bK cx ai n))]) (cg ai a ρ (bK cx ai n+1)).2).2)
 | .fn f x A B e,ρ,n=>(.fn (dj cx (bK cx ai n)) (dj cx (bK cx ai (bK cx ai n+1))) A B (cg ai e (ρ++[(f,dj cx (bK cx ai n)),(x,dj cx (bK cx ai (bK cx ai n+1)))]) (bK cx ai (bK cx ai n+1)+1)).1,
   (cg ai e (ρ++[(f,dj cx (bK cx ai n)),(x,dj cx (bK cx ai (bK cx ai n+1)))]) (bK cx ai (bK cx ai n+1)+1)).2)
theorem jz (ai:List aj):∀(e:Ex) (ρ:Rn) (n:Nat),n<=(cg ai e ρ n).2∧(cg ai e ρ n).2+(ai.length+2)<=n+(e.n)*(ai.length+2)+(ai.length+2)
 | .at s,ρ,n=>by simp only[cg,Ex.n];omega
 | .un h a,ρ,n=>by
  have:=jz ai a ρ n
  simp only[cg,Ex.n,Nat.add_mul];omega
 | .bi h a b,ρ,n=>by
  have:=jz ai a ρ n
  have:=jz ai b ρ (cg ai a ρ n).2
  simp only[cg,Ex.n,Nat.add_mul];omega
 | .ite a b c,ρ,n=>by
  have:=jz ai a ρ n
  have:=jz ai b ρ (cg ai a ρ n).2
  have:=jz ai c ρ (cg ai b ρ (cg ai a ρ n).2).2
  simp only[cg,Ex.n,Nat.add_mul];omega
 | .lt x a b,ρ,n=>by
  have h0:=oD cx ai n
  have:=jz ai a ρ (bK cx ai n+1)
  have:=jz ai b (ρ++[(x,dj cx (bK cx ai n))]) (cg ai a ρ (bK cx ai n+1)).2
  simp only[cg,Ex.n,Nat.add_mul];omega
 | .fn f x A B e,ρ,n=>by
  have h0:=oD cx ai n
  have h1:=oD cx ai (bK cx ai n+1)
  have:=jz ai e (ρ++[(f,dj cx (bK cx ai n)),(x,dj cx (bK cx ai (bK cx ai n+1)))]) (bK cx ai (bK cx ai n+1)+1)
  simp only[cg,Ex.n,Nat.add_mul];omega
theorem uL (ai:List aj):∀(e:Ex) (ρ:Rn) (n:Nat),(cg ai e ρ n).1.n=e.n
 | .at s,ρ,n=>rfl
 | .un h a,ρ,n=>by simp only[cg,Ex.n,uL ai a]
 | .bi h a b,ρ,n=>by simp only[cg,Ex.n,uL ai a,uL ai b]
 | .ite a b c,ρ,n=>by simp only[cg,Ex.n,uL ai a,uL ai b,uL ai c]
 | .lt x a b,ρ,n=>by simp only[cg,Ex.n,uL ai a,uL ai b]
 | .fn f x A B e,ρ,n=>by simp only[cg,Ex.n,uL ai e]
theorem wh (ai:List aj):∀(e:Ex) (ρ:Rn) (n:Nat),e.ok->(cg ai e ρ n).2<=1000->(∀s,eO s=true->Fv s e->eO (qX ρ s)=true)->(cg ai e ρ n).1.ok
 | .at s,ρ,n,h,_,hr=>by
  show ql _=true
  by_cases hn:eO s=true
  ·rw[iP hn];unfold ql;rw[hr s hn ⟨rfl,hn⟩];simp
  ·rw[iN hn];exact h
 | .un hd a,ρ,n,h,hm,hr=>⟨h.1,wh ai a ρ n h.2 hm hr⟩
 | .bi hd a b,ρ,n,h,hm,hr=>by
  have h2:=jz ai b ρ (cg ai a ρ n).2
  simp only[cg] at hm
  exact⟨h.1,wh ai a ρ n h.2.1 om λs hn hs=>hr s hn (.inl hs),wh ai b ρ _ h.2.2 hm λs hn hs=>hr s hn (.inr hs)⟩
 | .ite a b c,ρ,n,h,hm,hr=>by
  have h2:=jz ai b ρ (cg ai a ρ n).2
  have h3:=jz ai c ρ (cg ai b ρ (cg ai a ρ n).2).2
  simp only[cg] at hm
  exact⟨wh ai a ρ n h.1 om λs hn hs=>hr s hn (.inl hs),wh ai b ρ _ h.2.1 om λs hn hs=>hr s hn (.inr (.inl hs)),wh ai c ρ _ h.2.2 hm λs hn hs=>hr s hn (.inr (.inr hs))⟩
 | .lt x a b,ρ,n,h,hm,hr=>by
  have h1:=jz ai a ρ (bK cx ai n+1)
  have h2:=jz ai b (ρ++[(x,dj cx (bK cx ai n))]) (cg ai a ρ (bK cx ai n+1)).2
  simp only[cg] at hm
  have hk:eO (dj cx (bK cx ai n))=true:=zW de om
  refine⟨hk,wh ai a ρ _ h.2.1 om λs hn hs=>hr s hn (.inl hs),wh ai b _ _ h.2.2 hm λs hn hs=>?_⟩
  rw[Fi]
  split
  ·exact hk
  ·rename_i e;exact hr s hn (.inr ⟨λe'=>e e'.symm,hs⟩)
 | .fn f x A B e,ρ,n,h,hm,hr=>by
  have h0:=oD cx ai n
  have h1:=oD cx ai (bK cx ai n+1)
  have h2:=jz ai e (ρ++[(f,dj cx (bK cx ai n)),(x,dj cx (bK cx ai (bK cx ai n+1)))]) (bK cx ai (bK cx ai n+1)+1)
  simp only[cg] at hm
  have hk:eO (dj cx (bK cx ai n))=true:=zW de om
  have aq:eO (dj cx (bK cx ai (bK cx ai n+1)))=true:=zW de om
  obtain⟨_,_,_,hA,hB,he⟩:=h
  refine⟨hk,aq,λe=>by have:=pI e;omega,hA,hB,wh ai e _ _ he hm λs hn hs=>?_⟩
  rw[RB]
  split
  ·exact aq
  ·rename_i e1
   split
   ·exact hk
   ·rename_i e2;exact hr s hn ⟨λe'=>e2 e'.symm,λe'=>e1 e'.symm,hs⟩
theorem wi (ai:List aj):∀(e:Ex) (ρ:Rn) (n:Nat) (Γ Δ:Sc),(cg ai e ρ n).2<=1000->(∀s,eO s=true->Fv s e->eO (qX ρ s)=true∧look Δ (qX ρ s)=look Γ s∧∀k,n<=k->qX ρ s≠dj cx k)->bM (cg ai e ρ n).1 Δ=bM e Γ
 | .at s,ρ,n,Γ,Δ,_,h=>by
  unfold cg bM
  by_cases hn:eO s=true
  ·obtain⟨h1,h2,_⟩:=h s hn ⟨rfl,hn⟩
   rw[iP hn,iP hn,iP h1,h2]
  ·rw[iN hn,iN hn,iN hn]
 | .un hd a,ρ,n,Γ,Δ,hm,h=>by
  unfold cg bM
  rw[wi ai a ρ n Γ Δ hm h]
 | .bi hd a b,ρ,n,Γ,Δ,hm,h=>by
  have h1:=jz ai a ρ n
  have h2:=jz ai b ρ (cg ai a ρ n).2
  simp only[cg] at hm
  unfold cg bM
  rw[wi ai a ρ n Γ Δ om λs hn hs=>h s hn (.inl hs),wi ai b ρ _ Γ Δ hm λs hn hs=>?_]
  obtain⟨q1,q2,q3⟩:=h s hn (.inr hs)
  exact⟨q1,q2,λk hk=>q3 k om⟩
 | .ite a b c,ρ,n,Γ,Δ,hm,h=>by
  have h1:=jz ai a ρ n
  have h2:=jz ai b ρ (cg ai a ρ n).2
  have h3:=jz ai c ρ (cg ai b ρ (cg ai a ρ n).2).2
  simp only[cg] at hm
  unfold cg bM
  rw[wi ai a ρ n Γ Δ om λs hn hs=>h s hn (.inl hs),wi ai b ρ _ Γ Δ om λs hn hs=>?_,wi ai c ρ _ Γ Δ hm λs hn hs=>?_]
  ·obtain⟨q1,q2,q3⟩:=h s hn (.inr (.inr hs))
   exact⟨q1,q2,λk hk=>q3 k om⟩
  ·obtain⟨q1,q2,q3⟩:=h s hn (.inr (.inl hs))
   exact⟨q1,q2,λk hk=>q3 k om⟩
 | .lt x a b,ρ,n,Γ,Δ,hm,h=>by
  have h0:=oD cx ai n
  have h1:=jz ai a ρ (bK cx ai n+1)
  have h2:=jz ai b (ρ++[(x,dj cx (bK cx ai n))]) (cg ai a ρ (bK cx ai n+1)).2
  simp only[cg] at hm
  have hk:eO (dj cx (bK cx ai n))=true:=zW de om
  unfold cg bM
  rw[wi ai a ρ _ Γ Δ om λs hn hs=>?_]
  ·cases bM a Γ with
   |none=>rfl
   |some A=>
    refine wi ai b _ _ _ _ hm λs hn hs=>?_
    rw[Fi,mV Γ]
    by_cases e:x=s
    ·rw[iP e,iP e,mV,iP rfl]
     exact⟨hk,rfl,λk hk e=>by have:=pI e;omega⟩
    ·rw[iN e,iN e]
     obtain⟨q1,q2,q3⟩:=h s hn (.inr ⟨λe'=>e e'.symm,hs⟩)
     rw[mV,iN (λe=>q3 _ h0.1 e.symm)]
     exact⟨q1,q2,λk hk=>q3 k om⟩
  ·obtain⟨q1,q2,q3⟩:=h s hn (.inl hs)
   exact⟨q1,q2,λk hk=>q3 k om⟩
 | .fn f x A B e,ρ,n,Γ,Δ,hm,h=>by
  have h0:=oD cx ai n
  have h1:=oD cx ai (bK cx ai n+1)
  have h2:=jz ai e (ρ++[(f,dj cx (bK cx ai n)),(x,dj cx (bK cx ai (bK cx ai n+1)))]) (bK cx ai (bK cx ai n+1)+1)
  simp only[cg] at hm
  have hk:eO (dj cx (bK cx ai n))=true:=zW de om
  have aq:eO (dj cx (bK cx ai (bK cx ai n+1)))=true:=zW de om
  unfold cg bM
  rw[wi ai e _ _ (Γ++[(f,.op true A B),(x,A)]) _ hm λs hn hs=>?_]
  rw[RB,zU Γ]
  by_cases e1:x=s
  ·rw[iP e1,iP e1,zU,iP rfl]
   exact⟨aq,rfl,λk hk e=>by have:=pI e;omega⟩
  ·by_cases e2:f=s
   ·rw[iN e1,iN e1,iP e2,iP e2,zU,iN (λe=>by have:=pI e;omega),iP rfl]
    exact⟨hk,rfl,λk hk e=>by have:=pI e;omega⟩
   ·rw[iN e1,iN e1,iN e2,iN e2]
    obtain⟨q1,q2,q3⟩:=h s hn ⟨λe'=>e2 e'.symm,λe'=>e1 e'.symm,hs⟩
    rw[zU,iN (λe=>q3 _ om e.symm),iN (λe=>q3 _ h0.1 e.symm)]
    exact⟨q1,q2,λk hk=>q3 k om⟩
/-! ### The aX that are bound -/
def fO:Ex->List aj
 | .at _=>[]
 | .un _ a=>fO a
 | .bi _ a b=>fO a++fO b
 | .ite a b c=>fO a++(fO b++fO c)
 | .lt x a b=>x::(fO a++fO b)
 | .fn f x _ _ e=>f::x::fO e
theorem wj (ai:List aj):∀(e:Ex) (ρ:Rn) (n:Nat),(fO (cg ai e ρ n).1).Nodup∧∀y,y∈fO (cg ai e ρ n).1->∃k,y=dj cx k∧n<=k∧k<(cg ai e ρ n).2
 | .at s,ρ,n=>by simp[cg,fO]
 | .un hd a,ρ,n=>wj ai a ρ n
 | .bi hd a b,ρ,n=>by
  have h1:=jz ai a ρ n
  have h2:=jz ai b ρ (cg ai a ρ n).2
  obtain⟨a1,a2⟩:=wj ai a ρ n
  obtain⟨b1,b2⟩:=wj ai b ρ (cg ai a ρ n).2
  simp only[cg,fO]
  refine⟨List.nodup_append.2 ⟨a1,b1,λx hx y hy e=>?_⟩,λy hy=>?_⟩
  ·obtain⟨k,rfl,_,hk⟩:=a2 x hx
   obtain⟨j,rfl,hj,_⟩:=b2 y hy
   have:=pI e;omega
  ·rcases mA.1 hy with hy|hy
   ·obtain⟨k,e,p,q⟩:=a2 y hy;exact⟨k,e,p,om⟩
   ·obtain⟨k,e,p,q⟩:=b2 y hy;exact⟨k,e,om,q⟩
 | .ite a b c,ρ,n=>by
  have h1:=jz ai a ρ n
  have h2:=jz ai b ρ (cg ai a ρ n).2
  have h3:=jz ai c ρ (cg ai b ρ (cg ai a ρ n).2).2
  obtain⟨a1,a2⟩:=wj ai a ρ n
  obtain⟨b1,b2⟩:=wj ai b ρ (cg ai a ρ n).2
  obtain⟨c1,c2⟩:=wj ai c ρ (cg ai b ρ (cg ai a ρ n).2).2
  simp only[cg,fO]
  refine⟨List.nodup_append.2 ⟨a1,List.nodup_append.2 ⟨b1,c1,λx hx y hy e=>?_⟩,λx hx y hy e=>?_⟩,λy hy=>?_⟩
  ·obtain⟨k,rfl,_,hk⟩:=b2 x hx
   obtain⟨j,rfl,hj,_⟩:=c2 y hy
   have:=pI e;omega
  ·obtain⟨k,rfl,_,hk⟩:=a2 x hx
   rcases mA.1 hy with hy|hy
   ·obtain⟨j,rfl,hj,_⟩:=b2 y hy
    have:=pI e;omega
   ·obtain⟨j,rfl,hj,_⟩:=c2 y hy
    have:=pI e;omega
  ·rcases mA.1 hy with hy|hy
   ·obtain⟨k,e,p,q⟩:=a2 y hy;exact⟨k,e,p,om⟩
   ·rcases mA.1 hy with hy|hy
    ·obtain⟨k,e,p,q⟩:=b2 y hy;exact⟨k,e,om,om⟩
    ·obtain⟨k,e,p,q⟩:=c2 y hy;exact⟨k,e,om,q⟩
 | .lt x a b,ρ,n=>by
  have h0:=oD cx ai n
  have h1:=jz ai a ρ (bK cx ai n+1)
  have h2:=jz ai b (ρ++[(x,dj cx (bK cx ai n))]) (cg ai a ρ (bK cx ai n+1)).2
  obtain⟨a1,a2⟩:=wj ai a ρ (bK cx ai n+1)
  obtain⟨b1,b2⟩:=wj ai b (ρ++[(x,dj cx (bK cx ai n))]) (cg ai a ρ (bK cx ai n+1)).2
  simp only[cg,fO]
  refine⟨List.nodup_cons.2 ⟨λhx=>?_,List.nodup_append.2 ⟨a1,b1,λx hx y hy e=>?_⟩⟩,λy hy=>?_⟩
  ·rcases mA.1 hx with hx|hx
   ·obtain⟨k,e,p,q⟩:=a2 _ hx;have:=pI e;omega
   ·obtain⟨k,e,p,q⟩:=b2 _ hx;have:=pI e;omega
  ·obtain⟨k,rfl,_,hk⟩:=a2 x hx
   obtain⟨j,rfl,hj,_⟩:=b2 y hy
   have:=pI e;omega
  ·rcases mC.1 hy with rfl|hy
   ·exact⟨_,rfl,om,om⟩
   ·rcases mA.1 hy with hy|hy
    ·obtain⟨k,e,p,q⟩:=a2 y hy;exact⟨k,e,om,om⟩
    ·obtain⟨k,e,p,q⟩:=b2 y hy;exact⟨k,e,om,q⟩
 | .fn f x A B e,ρ,n=>by
  have h0:=oD cx ai n
  have h1:=oD cx ai (bK cx ai n+1)
  have h2:=jz ai e (ρ++[(f,dj cx (bK cx ai n)),(x,dj cx (bK cx ai (bK cx ai n+1)))]) (bK cx ai (bK cx ai n+1)+1)
  obtain⟨a1,a2⟩:=wj ai e (ρ++[(f,dj cx (bK cx ai n)),(x,dj cx (bK cx ai (bK cx ai n+1)))]) (bK cx ai (bK cx ai n+1)+1)
  simp only[cg,fO]
  refine⟨List.nodup_cons.2 ⟨λhx=>?_,List.nodup_cons.2 ⟨λhx=>?_,a1⟩⟩,λy hy=>?_⟩
  ·rcases mC.1 hx with hx|hx
   ·have:=pI hx;omega
   ·obtain⟨k,e,p,q⟩:=a2 _ hx;have:=pI e;omega
  ·obtain⟨k,e,p,q⟩:=a2 _ hx;have:=pI e;omega
  ·rcases mC.1 hy with rfl|hy
   ·exact⟨_,rfl,om,om⟩
   ·rcases mC.1 hy with rfl|hy
    ·exact⟨_,rfl,om,om⟩
    ·obtain⟨k,e,p,q⟩:=a2 y hy;exact⟨k,e,om,q⟩
theorem pJ:∀{e:Ex} {Γ:Sc} {T:Ty},bM e Γ=some T->Fv s e->(look Γ s).isSome=true
 | .at x,Γ,T,h,hs=>by
  obtain⟨rfl,hn⟩:=hs
  unfold bM at h;rw[iP hn] at h;rw[h];rfl
 | .un hd a,Γ,T,h,hs=>by
  unfold bM at h
  cases ha:bM a Γ with
  |none=>rw[ha] at h;cases h
  |some A=>exact pJ ha hs
 | .bi hd a b,Γ,T,h,hs=>by
  unfold bM at h
  cases ha:bM a Γ with
  |none=>rw[ha] at h;cases h
  |some A=>
   cases hb:bM b Γ with
   |none=>rw[ha,hb] at h;cases h
   |some B=>exact hs.elim (pJ ha) (pJ hb)
 | .ite a b c,Γ,T,h,hs=>by
  unfold bM at h
  cases ha:bM a Γ with
  |none=>rw[ha] at h;cases h
  |some A=>
   cases hb:bM b Γ with
   |none=>rw[ha,hb] at h;cases h
   |some B=>
    cases hc:bM c Γ with
    |none=>rw[ha,hb,hc] at h;cases h
    |some C=>exact hs.elim (pJ ha) λhs=>hs.elim (pJ hb) (pJ hc)
 | .lt x a b,Γ,T,h,hs=>by
  unfold bM at h
  cases ha:bM a Γ with
  |none=>rw[ha] at h;cases h
  |some A=>
   rw[ha,Option.bind_some] at h
   rcases hs with hs|⟨eK,hs⟩
   ·exact pJ ha hs
   ·have:=pJ h hs
    rw[mV,iN (λe=>eK e.symm)] at this;exact this
 | .fn f x A B e,Γ,T,h,hs=>by
  unfold bM at h
  split at h
  ·cases he:bM e (Γ++[(f,.op true A B),(x,A)]) with
   |none=>rw[he] at h;cases h
   |some C=>
    obtain⟨h1,h2,h3⟩:=hs
    have:=pJ he h3
    rw[zU,iN (λe=>h2 e.symm),iN (λe=>h1 e.symm)] at this;exact this
  ·cases h
abbrev Bs:=List (aj×Ex)
abbrev cy:UInt8:=121
def nest (bs:Bs) (e:Ex):Ex:=bs.foldr (λp e=>.lt p.1 p.2 e) e
def dU (ai:List aj) (r:Bs×Ex×Nat):Bs×Ex×Nat:=
 if r.2.1.jj=true then r else(r.1++[(dj cy (bK cy ai r.2.2),r.2.1)],.at (dj cy (bK cy ai r.2.2)),bK cy ai r.2.2+1)
def bu (ai:List aj):Ex->Nat->Bs×Ex×Nat
 | .at s,n=>([],.at s,n)
 | .un h a,n=>((dU ai (bu ai a n)).1,.un h (dU ai (bu ai a n)).2.1,(dU ai (bu ai a n)).2.2)
 | .bi h a b,n=>((dU ai (bu ai a n)).1++(dU ai (bu ai b (dU ai (bu ai a n)).2.2)).1,.bi h (dU ai (bu ai a n)).2.1 (dU ai (bu ai b (dU ai (bu ai a n)).2.2)).2.1,(dU ai (bu ai b (dU ai (bu ai a n)).2.2)).2.2)
 | .ite a b c,n=>((dU ai (bu ai a n)).1,.ite (dU ai (bu ai a n)).2.1 (nest (bu ai b (dU ai (bu ai a n)).2.2).1 (bu ai b (dU ai (bu ai a n)).2.2).2.1)
   (nest (bu ai c (bu ai b (dU ai (bu ai a n)).2.2).2.2).1 (bu ai c (bu ai b (dU ai (bu ai a n)).2.2).2.2).2.1),(bu ai c (bu ai b (dU ai (bu ai a n)).2.2).2.2).2.2)
 | .lt x a b,n=>((bu ai a n).1++(x,(bu ai a n).2.1)::(bu ai b (bu ai a n).2.2).1,(bu ai b (bu ai a n).2.2).2.1,(bu ai b (bu ai a n).2.2).2.2)
 | .fn f x A B e,n=>([],.fn f x A B (nest (bu ai e n).1 (bu ai e n).2.1),(bu ai e n).2.2)
def mW (ai:List aj) (e:Ex) (n:Nat):Ex:=nest (bu ai e n).1 (bu ai e n).2.1
/-! ### How many aX -/
theorem qp (ai:List aj) (r:Bs×Ex×Nat):r.2.2<=(dU ai r).2.2∧(dU ai r).2.2<=r.2.2+ai.length+2:=by
 unfold dU
 have:=oD cy ai r.2.2
 split
 ·omega
 ·dsimp only;omega
theorem iJ (ai:List aj):∀(e:Ex) (n:Nat),n<=(bu ai e n).2.2∧(bu ai e n).2.2+2*(ai.length+2)<=n+e.n*(2*(ai.length+2))
 | .at s,n=>⟨lR _,by simp only[bu,Ex.n];omega⟩
 | .un h a,n=>by
  have:=iJ ai a n
  have:=qp ai (bu ai a n)
  simp only[bu,Ex.n,Nat.add_mul];omega
 | .bi h a b,n=>by
  have:=iJ ai a n
  have:=qp ai (bu ai a n)
  have:=iJ ai b (dU ai (bu ai a n)).2.2
  have:=qp ai (bu ai b (dU ai (bu ai a n)).2.2)
  simp only[bu,Ex.n,Nat.add_mul];omega
 | .ite a b c,n=>by
  have:=iJ ai a n
  have:=qp ai (bu ai a n)
  have:=iJ ai b (dU ai (bu ai a n)).2.2
  have:=iJ ai c (bu ai b (dU ai (bu ai a n)).2.2).2.2
  simp only[bu,Ex.n,Nat.add_mul];omega
 | .lt x a b,n=>by
  have:=iJ ai a n
  have:=iJ ai b (bu ai a n).2.2
  simp only[bu,Ex.n,Nat.add_mul];omega
 | .fn f x A B e,n=>by
  have:=iJ ai e n
  simp only[bu,Ex.n,Nat.add_mul];omega
/-! ### Types -/
def qY:Bs->Sc->Option Sc
 |[],Γ=>some Γ
 |(x,s)::bs,Γ=>(bM s Γ).bind λT=>qY bs (Γ++[(x,T)])
theorem H2 (bs:Bs) (e:Ex) (Γ:Sc):bM (nest bs e) Γ=(qY bs Γ).bind (bM e):=by
 induction bs generalizing Γ with
 |nil=>rfl
 |cons p bs ih=>
  obtain⟨x,s⟩:=p
  show(bM s Γ).bind (λA=>bM (nest bs e) (Γ++[(x,A)]))=((bM s Γ).bind λT=>qY bs (Γ++[(x,T)])).bind (bM e)
  cases bM s Γ with
  |none=>rfl
  |some T=>exact ih _
theorem Ly (bs cs:Bs) (Γ:Sc):qY (bs++cs) Γ=(qY bs Γ).bind (qY cs):=by
 induction bs generalizing Γ with
 |nil=>rfl
 |cons p bs ih=>
  obtain⟨x,s⟩:=p
  show(bM s Γ).bind (λT=>qY (bs++cs) (Γ++[(x,T)]))=((bM s Γ).bind λT=>qY bs (Γ++[(x,T)])).bind (qY cs)
  cases bM s Γ with
  |none=>rfl
  |some T=>exact ih _
def Lz (Δ:Sc) (s:aj):Prop:=∀p,p∈Δ->p.1≠s
theorem Fj {Γ Δ:Sc} (h:Lz Δ s):look (Γ++Δ) s=look Γ s:=by
 induction Δ generalizing Γ with
 |nil=>simp
 |cons p Δ ih=>
  obtain⟨x,T⟩:=p
  rw[show Γ++(x,T)::Δ=(Γ++[(x,T)])++Δ from by simp,ih λq hq=>h q (by simp[hq]),mV,iN (h (x,T) sm)]
def sk (ai:List aj) (e:Ex) (n m:Nat) (y:aj):Prop:=y∈fO e∨∃k,y=dj cy k∧n<=k∧k<m∧y∉ai
structure Made (ai:List aj) (e:Ex) (n:Nat) (r:Bs×Ex×Nat) (Γ:Sc) (T:Ty) (Δ:Sc):Prop where
 binds:qY r.1 Γ=some (Γ++Δ)
 type:bM r.2.1 (Γ++Δ)=some T
 aX:∀p,p∈Δ->sk ai e n r.2.2 p.1
def Ds (ai:List aj) (e:Ex) (n:Nat) (r:Bs×Ex×Nat):Prop:=∀s,(Fv s r.2.1∨∃p,p∈r.1∧Fv s p.2)->Fv s e∨sk ai e n r.2.2 s
structure RC (ai:List aj) (e:Ex):Prop where
 nodup:(fO e).Nodup
 nofree:∀x,x∈fO e->¬Fv x e
 noted:∀x,x∈fO e∨Fv x e->x∈ai
theorem sk.more {ai:List aj} {e e':Ex} {n n':Nat} {y:aj} (h:sk ai e n m y) (hb:∀x,x∈fO e->x∈fO e') (hn:n'<=n) (hm:m<=m'):sk ai e' n' m' y:=by
 rcases h with h|⟨k,e,p,q,r⟩
 ·exact .inl (hb y h)
 ·exact .inr ⟨k,e,om,om,r⟩
theorem Ds.az {ai:List aj} {e:Ex} {n:Nat} {r:Bs×Ex×Nat} (h:Ds ai e n r) (hn:n<=r.2.2):Ds ai e n (dU ai r):=by
 unfold dU
 have hf:=oD cy ai r.2.2
 have wk:=HZ cy ai r.2.2
 split
 ·exact h
 ·intro s hs
  have up:∀{s},Fv s e∨sk ai e n r.2.2 s->Fv s e∨sk ai e n (bK cy ai r.2.2+1) s:=λhh=>hh.imp id λhh=>hh.more (λx hx=>hx) (lR _) om
  rcases hs with⟨rfl,_⟩|⟨p,hp,hs⟩
  ·exact .inr (.inr ⟨_,rfl,om,by dsimp only;omega,wk⟩)
  ·rcases mA.1 hp with hp|hp
   ·exact up (h s (.inr ⟨p,hp,hs⟩))
   ·simp only[List.mem_singleton] at hp
    subst hp
    exact up (h s (.inl hs))
theorem H3:∀(bs:Bs) (e:Ex) (s:aj),Fv s (nest bs e)->Fv s e∨∃p,p∈bs∧Fv s p.2
 |[],e,s,h=>.inl h
 |p::bs,e,s,h=>by
  rcases h with h|⟨_,h⟩
  ·exact .inr ⟨p,sm,h⟩
  ·rcases H3 bs e s h with h|⟨q,hq,h⟩
   ·exact .inl h
   ·exact .inr ⟨q,by simp[hq],h⟩
theorem Ds.sub {ai:List aj} {e e':Ex} {n n':Nat} {r:Bs×Ex×Nat} (h:Ds ai e n r) (hf:∀s,Fv s e->Fv s e'∨s∈fO e') (hb:∀x,x∈fO e->x∈fO e') (hn:n'<=n) (hm:r.2.2<=m') (hs:Fv s r.2.1∨∃p,p∈r.1∧Fv s p.2):Fv s e'∨sk ai e' n' m' s:=by
 rcases h s hs with h|h
 ·exact(hf s h).imp id .inl
 ·exact .inr (h.more hb hn hm)
theorem wm (ai:List aj):∀(e:Ex) (n:Nat),Ds ai e n (bu ai e n)
 | .at s,n=>λs hs=>hs.elim .inl fun⟨p,hp,_⟩=>by simp[bu] at hp
 | .un hd a,n=>λs hs=>((wm ai a n).az (iJ ai a n).1).sub (λs h=>.inl h) (λx h=>h) (lR _) (lR _) hs
 | .bi hd a b,n=>λs hs=>by
  have h1:=iJ ai a n
  have h2:=qp ai (bu ai a n)
  have h3:=iJ ai b (dU ai (bu ai a n)).2.2
  have h4:=qp ai (bu ai b (dU ai (bu ai a n)).2.2)
  have ha:=((wm ai a n).az h1.1).sub (e':=.bi hd a b) (n':=n) (m':=(bu ai (.bi hd a b) n).2.2) (λs h=>.inl (.inl h)) (λx h=>mA.2 (.inl h)) (lR _) (by simp only[bu];omega) (s:=s)
  have hb:=((wm ai b (dU ai (bu ai a n)).2.2).az h3.1).sub (e':=.bi hd a b) (n':=n) (m':=(bu ai (.bi hd a b) n).2.2) (λs h=>.inl (.inr h)) (λx h=>mA.2 (.inr h)) om (by simp only[bu];omega) (s:=s)
  rcases hs with(hs|hs)|⟨p,hp,hs⟩
  ·exact ha (.inl hs)
  ·exact hb (.inl hs)
  ·rcases mA.1 hp with hp|hp
   ·exact ha (.inr ⟨p,hp,hs⟩)
   ·exact hb (.inr ⟨p,hp,hs⟩)
 | .ite a b c,n=>λs hs=>by
  have h1:=iJ ai a n
  have h2:=qp ai (bu ai a n)
  have h3:=iJ ai b (dU ai (bu ai a n)).2.2
  have h4:=iJ ai c (bu ai b (dU ai (bu ai a n)).2.2).2.2
  have ha:=((wm ai a n).az h1.1).sub (e':=.ite a b c) (n':=n) (m':=(bu ai (.ite a b c) n).2.2) (λs h=>.inl (.inl h)) (λx h=>mA.2 (.inl h)) (lR _) (by simp only[bu];omega) (s:=s)
  have hb:=(wm ai b (dU ai (bu ai a n)).2.2).sub (e':=.ite a b c) (n':=n) (m':=(bu ai (.ite a b c) n).2.2) (λs h=>.inl (.inr (.inl h))) (λx h=>mA.2 (.inr (mA.2 (.inl h)))) om (by simp only[bu];omega) (s:=s)
  have hc:=(wm ai c (bu ai b (dU ai (bu ai a n)).2.2).2.2).sub (e':=.ite a b c) (n':=n) (m':=(bu ai (.ite a b c) n).2.2) (λs h=>.inl (.inr (.inr h))) (λx h=>mA.2 (.inr (mA.2 (.inr h)))) om (by simp only[bu];omega) (s:=s)
  rcases hs with(hs|hs|hs)|⟨p,hp,hs⟩
  ·exact ha (.inl hs)
  ·exact hb (H3 _ _ _ hs)
  ·exact hc (H3 _ _ _ hs)
  ·exact ha (.inr ⟨p,hp,hs⟩)
 | .lt x a b,n=>λs hs=>by
  have h1:=iJ ai a n
  have h3:=iJ ai b (bu ai a n).2.2
  have ha:=(wm ai a n).sub (e':=.lt x a b) (n':=n) (m':=(bu ai (.lt x a b) n).2.2) (λs h=>.inl (.inl h)) (λy h=>mK _ (mA.2 (.inl h))) (lR _) (by simp only[bu];omega) (s:=s)
  have hb:=(wm ai b (bu ai a n).2.2).sub (e':=.lt x a b) (n':=n) (m':=(bu ai (.lt x a b) n).2.2) (λs h=>by
   by_cases e:s=x
   ·exact .inr (by rw[e];exact List.mem_cons_self ..)
   ·exact .inl (.inr ⟨e,h⟩)) (λy h=>mK _ (mA.2 (.inr h))) om (by simp only[bu];omega) (s:=s)
  rcases hs with hs|⟨p,hp,hs⟩
  ·exact hb (.inl hs)
  ·rcases mA.1 hp with hp|hp
   ·exact ha (.inr ⟨p,hp,hs⟩)
   ·rcases mC.1 hp with rfl|hp
    ·exact ha (.inl hs)
    ·exact hb (.inr ⟨p,hp,hs⟩)
 | .fn f x A B e,n=>λs hs=>by
  rcases hs with⟨h1,h2,hs⟩|⟨p,hp,_⟩
  ·rcases wm ai e n s (H3 _ _ _ hs) with h|h
   ·exact .inl ⟨h1,h2,h⟩
   ·exact .inr (h.more (λy hy=>mK _ (mK _ hy)) (lR _) (lR _))
  ·simp[bu] at hp
theorem Made.az {ai:List aj} {e:Ex} {n:Nat} {r:Bs×Ex×Nat} {Γ:Sc} {T:Ty} {Δ:Sc} (h:Made ai e n r Γ T Δ) (hn:n<=r.2.2) (LA:(dU ai r).2.2<=1000):∃Δ',Made ai e n (dU ai r) Γ T Δ':=by
 unfold dU at LA⊢
 have hf:=oD cy ai r.2.2
 have wk:=HZ cy ai r.2.2
 split
 ·exact⟨Δ,h⟩
 ·rename_i fp
  rw[iN fp] at LA
  have hk:eO (dj cy (bK cy ai r.2.2))=true:=zW de (by dsimp only at LA;omega)
  refine⟨Δ++[(dj cy (bK cy ai r.2.2),T)],⟨?_,?_,?_⟩⟩
  ·rw[Ly,h.binds,Option.bind_some]
   show(bM r.2.1 (Γ++Δ)).bind _=_
   rw[h.type,Option.bind_some,List.append_assoc];rfl
  ·show(if eO (dj cy (bK cy ai r.2.2))=true then look (Γ++(Δ++[(dj cy (bK cy ai r.2.2),T)])) (dj cy (bK cy ai r.2.2)) else some Ty.i)=some T
   rw[iP hk,<-List.append_assoc,mV,iP rfl]
  ·intro p hp
   rcases mA.1 hp with hp|hp
   ·exact(h.aX p hp).more (λx hx=>hx) (lR _) (by dsimp only;omega)
   ·simp only[List.mem_singleton] at hp
    subst hp
    exact .inr ⟨_,rfl,om,by dsimp only;omega,wk⟩
theorem H4 {ai:List aj} {a:Ex} {n:Nat} {Δ:Sc} (h:∀p,p∈Δ->sk ai a n m p.1) (h1:s∉fO a) (h2:s∈ai):Lz Δ s:=λp hp e=>by
 rcases h p hp with h|⟨k,_,_,_,hr⟩
 ·exact h1 (e▸h)
 ·exact hr (e▸h2)
theorem ab5 {ai:List aj} {a b:Ex} {n:Nat} {Δ:Sc} (hs:Fv s a∨sk ai a n m s) (h:∀p,p∈Δ->sk ai b m m' p.1) (h1:∀x,x∈fO b->¬Fv x a) (h2:∀x,x∈fO b->x∉fO a) (h3:∀x,x∈fO b->x∈ai) (h4:∀x,x∈fO a∨Fv x a->x∈ai):Lz Δ s:=λp hp e=>by
 rcases h p hp with hb|⟨k,ek,hk,_,hr⟩
 ·rw[e] at hb
  rcases hs with hs|hs|⟨j,ej,_,_,hj⟩
  ·exact h1 s hb hs
  ·exact h2 s hb hs
  ·exact hj (h3 s hb)
 ·rcases hs with hs|hs|⟨j,ej,_,y0,_⟩
  ·exact hr (e▸h4 s (.inr hs))
  ·exact hr (e▸h4 s (.inl hs))
  ·rw[e,ej] at ek
   have:=pI ek;omega
theorem made (ai:List aj):∀(e:Ex) (n:Nat) (Γ:Sc) (T:Ty),RC ai e->(bu ai e n).2.2<=1000->bM e Γ=some T->∃Δ,Made ai e n (bu ai e n) Γ T Δ
 | .at s,n,Γ,T,hu,hm,h=>⟨[],⟨by simp[bu,qY],by simpa[bu] using h,sm⟩⟩
 | .un hd a,n,Γ,T,hu,hm,h=>by
  have h1:=iJ ai a n
  have h2:=qp ai (bu ai a n)
  simp only[bu] at hm
  unfold bM at h
  cases ha:bM a Γ with
  |none=>rw[ha] at h;cases h
  |some A=>
   rw[ha,Option.bind_some] at h
   obtain⟨Δ,hΔ⟩:=made ai a n Γ A ⟨hu.nodup,hu.nofree,hu.noted⟩ om ha
   obtain⟨Δ',hΔ'⟩:=hΔ.az h1.1 hm
   refine⟨Δ',⟨hΔ'.binds,?_,hΔ'.aX⟩⟩
   show(bM (dU ai (bu ai a n)).2.1 (Γ++Δ')).bind (λA=>k9 hd [A])=some T
   rw[hΔ'.type,Option.bind_some];exact h
 | .bi hd a b,n,Γ,T,hu,hm,h=>by
  have h1:=iJ ai a n
  have h2:=qp ai (bu ai a n)
  have h3:=iJ ai b (dU ai (bu ai a n)).2.2
  have h4:=qp ai (bu ai b (dU ai (bu ai a n)).2.2)
  have o3:=(wm ai a n).az h1.1
  simp only[bu] at hm
  unfold bM at h
  cases ha:bM a Γ with
  |none=>rw[ha] at h;cases h
  |some A=>
   cases hb:bM b Γ with
   |none=>rw[ha,hb] at h;cases h
   |some B=>
    rw[ha,hb,Option.bind_some,Option.bind_some] at h
    have jy:=List.nodup_append.1 hu.nodup
    obtain⟨Δ1,hΔ1⟩:=made ai a n Γ A ⟨jy.1,λx hx hf=>hu.nofree x (mA.2 (.inl hx)) (.inl hf),λx hx=>hu.noted x (hx.imp (λh=>mA.2 (.inl h)) .inl)⟩ om ha
    obtain⟨Δ1',hΔ1'⟩:=hΔ1.az h1.1 om
    have gV:bM b (Γ++Δ1')=some B:=by
     rw[<-hb]
     refine qo b _ _ λs hn hs=>Fj (H4 hΔ1'.aX (λhx=>hu.nofree s (mA.2 (.inl hx)) (.inr hs)) (hu.noted s (.inr (.inr hs))))
    obtain⟨Δ2,hΔ2⟩:=made ai b (dU ai (bu ai a n)).2.2 (Γ++Δ1') B ⟨jy.2.1,λx hx hf=>hu.nofree x (mA.2 (.inr hx)) (.inr hf),λx hx=>hu.noted x (hx.imp (λh=>mA.2 (.inr h)) .inr)⟩ om gV
    obtain⟨Δ2',hΔ2'⟩:=hΔ2.az h3.1 hm
    refine⟨Δ1'++Δ2',⟨?_,?_,?_⟩⟩
    ·show qY (_++_) Γ=_
     rw[Ly,hΔ1'.binds,Option.bind_some,hΔ2'.binds,List.append_assoc]
    ·show(bM (dU ai (bu ai a n)).2.1 (Γ++(Δ1'++Δ2'))).bind (λA=>(bM (dU ai (bu ai b (dU ai (bu ai a n)).2.2)).2.1 (Γ++(Δ1'++Δ2'))).bind λB=>k9 hd [A,B])=some T
     have e1:bM (dU ai (bu ai a n)).2.1 (Γ++(Δ1'++Δ2'))=some A:=by
      rw[<-hΔ1'.type,<-List.append_assoc]
      refine qo _ _ _ λs hn hs=>Fj (ab5 (o3 s (.inl hs)) hΔ2'.aX ?_ ?_ ?_ ?_)
      ·exact λx hx hf=>hu.nofree x (mA.2 (.inr hx)) (.inl hf)
      ·exact λx hx fF=>jy.2.2 x fF x hx rfl
      ·exact λx hx=>hu.noted x (.inl (mA.2 (.inr hx)))
      ·exact λx hx=>hu.noted x (hx.imp (λh=>mA.2 (.inl h)) .inl)
     rw[e1,Option.bind_some,<-List.append_assoc,hΔ2'.type,Option.bind_some];exact h
    ·intro p hp
     rcases mA.1 hp with hp|hp
     ·exact(hΔ1'.aX p hp).more (λx hx=>mA.2 (.inl hx)) (lR _) (by simp only[bu];omega)
     ·exact(hΔ2'.aX p hp).more (λx hx=>mA.2 (.inr hx)) om (by simp only[bu];omega)
 | .ite a b c,n,Γ,T,hu,hm,h=>by
  have h1:=iJ ai a n
  have h2:=qp ai (bu ai a n)
  have h3:=iJ ai b (dU ai (bu ai a n)).2.2
  have h4:=iJ ai c (bu ai b (dU ai (bu ai a n)).2.2).2.2
  simp only[bu] at hm
  unfold bM at h
  cases ha:bM a Γ with
  |none=>rw[ha] at h;cases h
  |some A=>
   cases hb:bM b Γ with
   |none=>rw[ha,hb] at h;cases h
   |some B=>
    cases hc:bM c Γ with
    |none=>rw[ha,hb,hc] at h;cases h
    |some C=>
     rw[ha,hb,hc,Option.bind_some,Option.bind_some,Option.bind_some] at h
     have jy:=List.nodup_append.1 hu.nodup
     have RD:=List.nodup_append.1 jy.2.1
     have inB:∀x,x∈fO b->x∈fO (.ite a b c):=λx hx=>mA.2 (.inr (mA.2 (.inl hx)))
     have inC:∀x,x∈fO c->x∈fO (.ite a b c):=λx hx=>mA.2 (.inr (mA.2 (.inr hx)))
     have inA:∀x,x∈fO a->x∈fO (.ite a b c):=λx hx=>mA.2 (.inl hx)
     obtain⟨Δ1,hΔ1⟩:=made ai a n Γ A ⟨jy.1,λx hx hf=>hu.nofree x (inA x hx) (.inl hf),λx hx=>hu.noted x (hx.imp (inA x) .inl)⟩ om ha
     obtain⟨Δ1',hΔ1'⟩:=hΔ1.az h1.1 om
     have gV:bM b (Γ++Δ1')=some B:=by
      rw[<-hb]
      refine qo b _ _ λs hn hs=>Fj (H4 hΔ1'.aX (λhx=>hu.nofree s (inA s hx) (.inr (.inl hs))) (hu.noted s (.inr (.inr (.inl hs)))))
     have pA:bM c (Γ++Δ1')=some C:=by
      rw[<-hc]
      refine qo c _ _ λs hn hs=>Fj (H4 hΔ1'.aX (λhx=>hu.nofree s (inA s hx) (.inr (.inr hs))) (hu.noted s (.inr (.inr (.inr hs)))))
     obtain⟨Δ2,hΔ2⟩:=made ai b (dU ai (bu ai a n)).2.2 (Γ++Δ1') B ⟨RD.1,λx hx hf=>hu.nofree x (inB x hx) (.inr (.inl hf)),λx hx=>hu.noted x (hx.imp (inB x) λh=>.inr (.inl h))⟩ om gV
     obtain⟨Δ3,hΔ3⟩:=made ai c (bu ai b (dU ai (bu ai a n)).2.2).2.2 (Γ++Δ1') C ⟨RD.2.1,λx hx hf=>hu.nofree x (inC x hx) (.inr (.inr hf)),λx hx=>hu.noted x (hx.imp (inC x) λh=>.inr (.inr h))⟩ hm pA
     refine⟨Δ1',⟨hΔ1'.binds,?_,?_⟩⟩
     ·show(bM (dU ai (bu ai a n)).2.1 (Γ++Δ1')).bind (λA=>(bM (nest _ _) (Γ++Δ1')).bind λB=>(bM (nest _ _) (Γ++Δ1')).bind λC=>k9 cC [A,B,C])=some T
      rw[hΔ1'.type,H2,H2,hΔ2.binds,hΔ3.binds,Option.bind_some,Option.bind_some,Option.bind_some,hΔ2.type,hΔ3.type,Option.bind_some,Option.bind_some];exact h
     ·exact λp hp=>(hΔ1'.aX p hp).more inA (lR _) (by simp only[bu];omega)
 | .lt x a b,n,Γ,T,hu,hm,h=>by
  have h1:=iJ ai a n
  have h3:=iJ ai b (bu ai a n).2.2
  simp only[bu] at hm
  unfold bM at h
  cases ha:bM a Γ with
  |none=>rw[ha] at h;cases h
  |some A=>
   rw[ha,Option.bind_some] at h
   have Fk:=List.nodup_cons.1 hu.nodup
   have jy:=List.nodup_append.1 Fk.2
   have inA:∀y,y∈fO a->y∈fO (.lt x a b):=λy hy=>mK _ (mA.2 (.inl hy))
   have inB:∀y,y∈fO b->y∈fO (.lt x a b):=λy hy=>mK _ (mA.2 (.inr hy))
   have RE:x∈fO (.lt x a b):=List.mem_cons_self ..
   obtain⟨Δ1,hΔ1⟩:=made ai a n Γ A ⟨jy.1,λy hy hf=>hu.nofree y (inA y hy) (.inl hf),λy hy=>hu.noted y (hy.imp (inA y) .inl)⟩ om ha
   have gV:bM b (Γ++(Δ1++[(x,A)]))=some T:=by
    rw[<-h,<-List.append_assoc]
    refine qo b _ _ λs hn hs=>?_
    rw[mV,mV]
    by_cases e:x=s
    ·rw[iP e,iP e]
    ·rw[iN e,iN e]
     have zO:Fv s (.lt x a b):=.inr ⟨λe'=>e e'.symm,hs⟩
     exact Fj (H4 hΔ1.aX (λhx=>hu.nofree s (inA s hx) zO) (hu.noted s (.inr zO)))
   obtain⟨Δ2,hΔ2⟩:=made ai b (bu ai a n).2.2 (Γ++(Δ1++[(x,A)])) T ⟨jy.2.1,λy hy hf=>by
    by_cases e:y=x
    ·exact Fk.1 (e▸mA.2 (.inr hy))
    ·exact hu.nofree y (inB y hy) (.inr ⟨e,hf⟩),λy hy=>by
    by_cases e:y=x
    ·rw[e];exact hu.noted x (.inl RE)
    ·exact hu.noted y (hy.imp (inB y) λh=>.inr ⟨e,h⟩)⟩ hm gV
   refine⟨Δ1++(x,A)::Δ2,⟨?_,?_,?_⟩⟩
   ·show qY (_++(x,_)::_) Γ=_
    rw[Ly,hΔ1.binds,Option.bind_some]
    show(bM (bu ai a n).2.1 (Γ++Δ1)).bind (λT=>qY _ ((Γ++Δ1)++[(x,T)]))=_
    rw[hΔ1.type,Option.bind_some,List.append_assoc,hΔ2.binds]
    simp
   ·show bM (bu ai b (bu ai a n).2.2).2.1 _=some T
    have:=hΔ2.type
    rw[show Γ++(Δ1++(x,A)::Δ2)=Γ++(Δ1++[(x,A)])++Δ2 from by simp];exact this
   ·intro p hp
    rcases mA.1 hp with hp|hp
    ·exact(hΔ1.aX p hp).more inA (lR _) (by simp only[bu];omega)
    ·rcases mC.1 hp with rfl|hp
     ·exact .inl RE
     ·exact(hΔ2.aX p hp).more inB om (by simp only[bu];omega)
 | .fn f x A B e,n,Γ,T,hu,hm,h=>by
  simp only[bu] at hm
  unfold bM at h
  split at h
  ·rename_i hc
   cases he:bM e (Γ++[(f,.op true A B),(x,A)]) with
   |none=>rw[he] at h;cases h
   |some C=>
    rw[he,Option.bind_some] at h
    have Fk:=List.nodup_cons.1 hu.nodup
    have jy:=List.nodup_cons.1 Fk.2
    have inE:∀y,y∈fO e->y∈fO (.fn f x A B e):=λy hy=>mK _ (mK _ hy)
    obtain⟨Δ1,hΔ1⟩:=made ai e n (Γ++[(f,.op true A B),(x,A)]) C ⟨jy.2,λy hy hf=>by
     by_cases e1:y=x
     ·exact jy.1 (e1▸hy)
     ·by_cases e2:y=f
      ·exact Fk.1 (e2▸mK _ hy)
      ·exact hu.nofree y (inE y hy) ⟨e2,e1,hf⟩,λy hy=>by
     by_cases e1:y=x
     ·rw[e1];exact hu.noted x (.inl (mK _ (List.mem_cons_self ..)))
     ·by_cases e2:y=f
      ·rw[e2];exact hu.noted f (.inl (List.mem_cons_self ..))
      ·exact hu.noted y (hy.imp (inE y) λh=>⟨e2,e1,h⟩)⟩ hm he
    refine⟨[],⟨by simp[bu,qY],?_,sm⟩⟩
    show(if 1+A.n+B.n<=16 then(bM (nest (bu ai e n).1 (bu ai e n).2.1) ((Γ++[])++[(f,.op true A B),(x,A)])).bind λC=>if k8 C B then some (.op true A B) else none else none)=some T
    rw[iP hc,List.append_nil,H2,hΔ1.binds,Option.bind_some,hΔ1.type,Option.bind_some];exact h
  ·cases h
theorem ab6 {ai:List aj} {e:Ex} {n:Nat} {Γ:Sc} {T:Ty} (hu:RC ai e) (hm:(bu ai e n).2.2<=1000) (h:bM e Γ=some T):bM (mW ai e n) Γ=some T:=by
 obtain⟨Δ,hΔ⟩:=made ai e n Γ T hu hm h
 unfold mW
 rw[H2,hΔ.binds,Option.bind_some,hΔ.type]
/-! ### Atoms of a form -/
mutual
def lJ:aA->List aj->List aj
 | .mk a ps,l=>if a≠[] then(if a∈l then l else l++[a]) else o4 ps l
def o4:List aA->List aj->List aj
 |[],l=>l
 |t::ts,l=>o4 ts (lJ t l)
end
theorem RF (t:aA) (l:List aj):lJ t l=if t.az≠[] then(if t.az∈l then l else l++[t.az]) else o4 t.au l:=by cases t with|mk a ps=>rw[lJ];rfl
theorem RG:∀(xs ys:List aA) (l:List aj),o4 (xs++ys) l=o4 ys (o4 xs l)
 |[],ys,l=>rfl
 |x::xs,ys,l=>by simp only[List.cons_append,o4];exact RG xs ys _
theorem ab7 (h:ps[i]?=some p) (l:List aj):o4 (ps.take (i+1)) l=lJ p (o4 (ps.take i) l):=by
 rw[List.take_add_one,h,RG];rfl
mutual
theorem ab8 {x:aj}:∀(t:aA) (l:List aj),x∈l->x∈lJ t l
 | .mk a ps,l,h=>by
  unfold lJ
  split
  ·split
   ·exact h
   ·exact mA.2 (.inl h)
  ·exact LB ps l h
theorem LB {x:aj}:∀(ps:List aA) (l:List aj),x∈l->x∈o4 ps l
 |[],l,h=>h
 |t::ts,l,h=>by unfold o4;exact LB ts _ (ab8 t l h)
end
mutual
theorem RH:∀(t:aA) (l:List aj),(lJ t l).length<=l.length+fN t
 | .mk a ps,l=>by
  unfold lJ fN
  split
  ·split
   ·omega
   ·simp
  ·exact LC ps l
theorem LC:∀(ps:List aA) (l:List aj),(o4 ps l).length<=l.length+jO ps
 |[],l=>by simp[o4,jO]
 |t::ts,l=>by
  have h1:=RH t l
  have h2:=LC ts (lJ t l)
  unfold o4 jO;omega
end
theorem RI {x:aj}:∀{ps:List aA} {l:List aj} {p:aA},p∈ps->(∀l,x∈lJ p l)->x∈o4 ps l
 |q::ps,l,p,hp,h=>by
  unfold o4
  rcases mC.1 hp with rfl|hp
  ·exact LB ps _ (h l)
  ·exact RI hp h
theorem H5 {x:aj} (hx:x≠[]) (l:List aj):x∈lJ (bZ x) l:=by
 unfold bZ lJ
 rw[iP hx]
 split
 ·assumption
 ·exact mA.2 (.inr (List.mem_singleton.2 rfl))
theorem tF {x:aj} {p:aA} (hp:p∈ps) (h:∀l,x∈lJ p l) (l:List aj):x∈lJ (.mk [] ps) l:=by
 unfold lJ
 rw[iN de]
 exact RI hp h
theorem wo {x:aj}:∀{e:Ex},e.ok->(x∈fO e∨Fv x e)->∀l,x∈lJ e.av l
 | .at s,h,hx,l=>by
  rcases hx with hx|⟨rfl,_⟩
  ·simp[fO] at hx
  ·exact H5 (pH h) l
 | .un hd a,h,hx,l=>tF (p:=a.av) sm (wo h.2 hx) l
 | .bi hd a b,h,hx,l=>by
  have ha:(x∈fO a∨Fv x a)∨(x∈fO b∨Fv x b):=by
   rcases hx with hx|hx
   ·rcases mA.1 hx with h|h
    ·exact .inl (.inl h)
    ·exact .inr (.inl h)
   ·rcases hx with h|h
    ·exact .inl (.inr h)
    ·exact .inr (.inr h)
  rcases ha with ha|hb
  ·exact tF (p:=a.av) sm (wo h.2.1 ha) l
  ·exact tF (p:=b.av) sm (wo h.2.2 hb) l
 | .ite a b c,h,hx,l=>by
  have ha:(x∈fO a∨Fv x a)∨(x∈fO b∨Fv x b)∨(x∈fO c∨Fv x c):=by
   rcases hx with hx|hx
   ·rcases mA.1 hx with h|h
    ·exact .inl (.inl h)
    ·rcases mA.1 h with h|h
     ·exact .inr (.inl (.inl h))
     ·exact .inr (.inr (.inl h))
   ·rcases hx with h|h|h
    ·exact .inl (.inr h)
    ·exact .inr (.inl (.inr h))
    ·exact .inr (.inr (.inr h))
  rcases ha with ha|hb|hc
  ·exact tF (p:=a.av) sm (wo h.1 ha) l
  ·exact tF (p:=b.av) sm (wo h.2.1 hb) l
  ·exact tF (p:=c.av) sm (wo h.2.2 hc) l
 | .lt y a b,h,hx,l=>by
  have ha:x=y∨(x∈fO a∨Fv x a)∨(x∈fO b∨Fv x b):=by
   rcases hx with hx|hx
   ·rcases mC.1 hx with h|h
    ·exact .inl h
    ·rcases mA.1 h with h|h
     ·exact .inr (.inl (.inl h))
     ·exact .inr (.inr (.inl h))
   ·rcases hx with h|⟨_,h⟩
    ·exact .inr (.inl (.inr h))
    ·exact .inr (.inr (.inr h))
  rcases ha with rfl|ha|hb
  ·exact tF (p:=bZ x) sm (λl=>H5 (uK h.1) l) l
  ·exact tF (p:=a.av) sm (wo h.2.1 ha) l
  ·exact tF (p:=b.av) sm (wo h.2.2 hb) l
 | .fn f y A B e,h,hx,l=>by
  obtain⟨hf,hy,_,_,_,he⟩:=h
  have ha:x=f∨x=y∨(x∈fO e∨Fv x e):=by
   rcases hx with hx|hx
   ·rcases mC.1 hx with h|h
    ·exact .inl h
    ·rcases mC.1 h with h|h
     ·exact .inr (.inl h)
     ·exact .inr (.inr (.inl h))
   ·exact .inr (.inr (.inr hx.2.2))
  rcases ha with rfl|rfl|ha
  ·exact tF (p:=bZ x) sm (λl=>H5 (uK hf) l) l
  ·exact tF (p:=bZ x) sm (λl=>H5 (uK hy) l) l
  ·exact tF (p:=e.av) sm (wo he ha) l
/-! ### Expressions stay expressions -/
structure H6 (r:Bs×Ex×Nat):Prop where
 out:r.2.1.ok
 bs:∀p,p∈r.1->eO p.1=true∧p.2.ok
theorem H6.az {ai:List aj} {r:Bs×Ex×Nat} (h:H6 r) (hm:(dU ai r).2.2<=1000):H6 (dU ai r):=by
 unfold dU at hm⊢
 split
 ·exact h
 ·rename_i fp
  rw[iN fp] at hm
  have hk:eO (dj cy (bK cy ai r.2.2))=true:=zW de (by dsimp only at hm;omega)
  refine⟨?_,λp hp=>?_⟩
  ·show ql _=true
   unfold ql;rw[hk];simp
  ·rcases mA.1 hp with hp|hp
   ·exact h.bs p hp
   ·simp only[List.mem_singleton] at hp
    subst hp
    exact⟨hk,h.out⟩
theorem Fl:∀{bs:Bs} {e:Ex},(∀p,p∈bs->eO p.1=true∧p.2.ok)->e.ok->(nest bs e).ok
 |[],e,_,h=>h
 |p::bs,e,hb,h=>⟨(hb p sm).1,(hb p sm).2,Fl (λq hq=>hb q (by simp[hq])) h⟩
theorem wq (ai:List aj):∀(e:Ex) (n:Nat),e.ok->(bu ai e n).2.2<=1000->H6 (bu ai e n)
 | .at s,n,h,_=>⟨h,by simp[bu]⟩
 | .un hd a,n,h,hm=>by
  have h1:=iJ ai a n
  have h2:=qp ai (bu ai a n)
  simp only[bu] at hm
  have ha:=(wq ai a n h.2 om).az hm
  exact⟨⟨h.1,ha.out⟩,ha.bs⟩
 | .bi hd a b,n,h,hm=>by
  have h1:=iJ ai a n
  have h2:=qp ai (bu ai a n)
  have h3:=iJ ai b (dU ai (bu ai a n)).2.2
  have h4:=qp ai (bu ai b (dU ai (bu ai a n)).2.2)
  simp only[bu] at hm
  have ha:=(wq ai a n h.2.1 om).az (ai:=ai) om
  have hb:=(wq ai b (dU ai (bu ai a n)).2.2 h.2.2 om).az (ai:=ai) hm
  exact⟨⟨h.1,ha.out,hb.out⟩,λp hp=>(mA.1 hp).elim (ha.bs p) (hb.bs p)⟩
 | .ite a b c,n,h,hm=>by
  have h1:=iJ ai a n
  have h2:=qp ai (bu ai a n)
  have h3:=iJ ai b (dU ai (bu ai a n)).2.2
  have h4:=iJ ai c (bu ai b (dU ai (bu ai a n)).2.2).2.2
  simp only[bu] at hm
  have ha:=(wq ai a n h.1 om).az (ai:=ai) om
  have hb:=wq ai b (dU ai (bu ai a n)).2.2 h.2.1 om
  have hc:=wq ai c (bu ai b (dU ai (bu ai a n)).2.2).2.2 h.2.2 hm
  exact⟨⟨ha.out,Fl hb.bs hb.out,Fl hc.bs hc.out⟩,ha.bs⟩
 | .lt x a b,n,h,hm=>by
  have h1:=iJ ai a n
  have h3:=iJ ai b (bu ai a n).2.2
  simp only[bu] at hm
  have ha:=wq ai a n h.2.1 om
  have hb:=wq ai b (bu ai a n).2.2 h.2.2 hm
  refine⟨hb.out,λp hp=>?_⟩
  rcases mA.1 hp with hp|hp
  ·exact ha.bs p hp
  ·rcases mC.1 hp with rfl|hp
   ·exact⟨h.1,ha.out⟩
   ·exact hb.bs p hp
 | .fn f x A B e,n,h,hm=>by
  obtain⟨hf,hx,eK,hA,hB,he⟩:=h
  simp only[bu] at hm
  have ha:=wq ai e n he hm
  exact⟨⟨hf,hx,eK,hA,hB,Fl ha.bs ha.out⟩,by simp[bu]⟩
def pK (bs:Bs):Nat:=(bs.map λp=>2+p.2.n).sum
theorem LD (a b:Bs):pK (a++b)=pK a+pK b:=by unfold pK;rw[List.map_append,List.sum_append]
theorem H7 (p:aj×Ex) (b:Bs):pK (p::b)=2+p.2.n+pK b:=by simp[pK]
theorem LF (bs:Bs) (e:Ex):(nest bs e).n=pK bs+e.n:=by
 induction bs with
 |nil=>simp[nest,pK]
 |cons p bs ih=>
  show(Ex.lt p.1 p.2 (nest bs e)).n=_
  rw[H7];simp only[Ex.n,ih];omega
theorem H8 (ai:List aj) (r:Bs×Ex×Nat):pK (dU ai r).1+(dU ai r).2.1.n<=pK r.1+r.2.1.n+3:=by
 unfold dU
 split
 ·omega
 ·dsimp only;rw[LD,H7];simp[pK,Ex.n];omega
theorem uM (ai:List aj):∀(e:Ex) (n:Nat),pK (bu ai e n).1+(bu ai e n).2.1.n+3<=4*e.n
 | .at s,n=>by simp[bu,pK,Ex.n]
 | .un hd a,n=>by
  have:=uM ai a n
  have:=H8 ai (bu ai a n)
  simp only[bu,Ex.n];omega
 | .bi hd a b,n=>by
  have:=uM ai a n
  have:=H8 ai (bu ai a n)
  have:=uM ai b (dU ai (bu ai a n)).2.2
  have:=H8 ai (bu ai b (dU ai (bu ai a n)).2.2)
  simp only[bu,Ex.n,LD];omega
 | .ite a b c,n=>by
  have:=uM ai a n
  have:=H8 ai (bu ai a n)
  have:=uM ai b (dU ai (bu ai a n)).2.2
  have:=uM ai c (bu ai b (dU ai (bu ai a n)).2.2).2.2
  simp only[bu,Ex.n,LF];omega
 | .lt x a b,n=>by
  have:=uM ai a n
  have:=uM ai b (bu ai a n).2.2
  simp only[bu,Ex.n,LD,H7];omega
 | .fn f x A B e,n=>by
  have:=uM ai e n
  simp only[bu,Ex.n,LF]
  rw[show pK ([]:Bs)=0 from rfl];omega
/-! ### The normal form -/
def qq (e:Ex):Option Ex:=if(cg (cE e [] []) e [] 0).2<=100 then some (cg (cE e [] []) e [] 0).1 else none
def nS (e:Ex):Option Ex:=(qq e).bind λp=>if(bu (lJ p.av []) p 0).2.2<=100 then some (mW (lJ p.av []) p 0) else none
theorem LG {e p:Ex} (h:e.ok) (hp:qq e=some p):p.ok:=by
 unfold qq at hp
 split at hp
 ·cases hp
  exact wh _ e [] 0 h om λs hn _=>hn
 ·cases hp
theorem LH {e q:Ex} (h:e.ok) (hq:nS e=some q):q.ok:=by
 unfold nS at hq
 cases hp:qq e with
 |none=>rw[hp] at hq;cases hq
 |some p=>
  rw[hp,Option.bind_some] at hq
  split at hq
  ·cases hq
   have:=wq (lJ p.av []) p 0 (LG h hp) om
   exact Fl this.bs this.out
  ·cases hq
theorem RJ {e q:Ex} {T:Ty} (h:e.ok) (ht:bM e []=some T) (hq:nS e=some q):bM q []=some T:=by
 unfold nS at hq
 cases hp:qq e with
 |none=>rw[hp] at hq;cases hq
 |some p=>
  have De:=LG h hp
  rw[hp,Option.bind_some] at hq
  split at hq
  ·rename_i hm
   cases hq
   unfold qq at hp
   split at hp
   ·rename_i rL
    cases hp
    have noFv:∀s,¬Fv s e:=λs hs=>by have:=pJ ht hs;simp[look] at this
    have RK:bM (cg (cE e [] []) e [] 0).1 []=some T:=by
     rw[<-ht]
     exact wi _ e [] 0 [] [] om λs _ hs=>absurd hs (noFv s)
    have noFp:∀s,¬Fv s (cg (cE e [] []) e [] 0).1:=λs hs=>by have:=pJ RK hs;simp[look] at this
    refine ab6 ⟨(wj _ e [] 0).1,λx _=>noFp x,λx hx=>wo De hx []⟩ om RK
   ·cases hp
  ·cases hq
/-! ### Target types -/
def zX (x:aA):aA:=.mk [] [bZ [101],.mk [] [bZ [116],.mk [] [bZ [99],bZ [118],x],bZ [118]]]
def pL:Ty->aA
 | .i=>bZ [105]
 | .op false a b=>.mk [] [bZ [116],pL a,pL b]
 | .op true a b=>.mk [] [bZ [101],.mk [] [bZ [116],.mk [] [bZ [99],bZ [118],pL a,zX (pL b)],bZ [118]]]
def bL (t:Ty):aj:=(pL t).text
def dV (s:aj):aj:=[40,101,32,40,116,32,40,99,32,118,32]++s++[41,32,118,41,41]
theorem tG (c:UInt8) (h:fA c=true):Good (bZ [c]):=.az _ sm (by simp[h])
theorem RL {x:aA} (h:Good x):Good (zX x):=by
 refine .list _ sm λp hp=>?_
 simp only[mC,List.not_mem_nil,or_false] at hp
 rcases hp with rfl|rfl
 ·exact tG _ de
 ·refine .list _ sm λp hp=>?_
  simp only[mC,List.not_mem_nil,or_false] at hp
  rcases hp with rfl|rfl|rfl
  ·exact tG _ de
  ·refine .list _ sm λp hp=>?_
   simp only[mC,List.not_mem_nil,or_false] at hp
   rcases hp with rfl|rfl|rfl
   ·exact tG _ de
   ·exact tG _ de
   ·exact h
  ·exact tG _ de
theorem RM (x:aA):(zX x).text=dV x.text:=by
 have a1:∀c:UInt8,(bZ [c]).text=[c]:=λc=>sw sm
 unfold zX dV
 rw[qU,l3,pF,a1,qU,l3,l3,pF,a1,a1,qU,l3,l3,pF,a1,a1]
 simp
theorem LI (s:aj):(dV s).length=s.length+16:=by simp[dV]
theorem RO (x:aA):(zX x).depth=max 3 (x.depth+3):=by
 have a0:∀c:UInt8,(bZ [c]).depth=0:=λc=>rfl
 unfold zX
 simp only[aA.depth,aA.depth.deeps,bZ];omega
theorem Dt:∀t:Ty,Good (pL t)
 | .i=>tG _ de
 | .op false a b=>by
  refine .list _ sm λp hp=>?_
  simp only[mC,List.not_mem_nil,or_false] at hp
  rcases hp with rfl|rfl|rfl
  ·exact tG _ de
  ·exact Dt a
  ·exact Dt b
 | .op true a b=>by
  refine .list _ sm λp hp=>?_
  simp only[mC,List.not_mem_nil,or_false] at hp
  rcases hp with rfl|rfl
  ·exact tG _ de
  ·refine .list _ sm λp hp=>?_
   simp only[mC,List.not_mem_nil,or_false] at hp
   rcases hp with rfl|rfl|rfl
   ·exact tG _ de
   ·refine .list _ sm λp hp=>?_
    simp only[mC,List.not_mem_nil,or_false] at hp
    rcases hp with rfl|rfl|rfl|rfl
    ·exact tG _ de
    ·exact tG _ de
    ·exact Dt a
    ·exact RL (Dt b)
   ·exact tG _ de
theorem RP:bL .i=[105]:=sw sm
theorem RQ (a b:Ty):bL (.op false a b)=[40,116,32]++bL a++[32]++bL b++[41]:=by
 have a1:∀c:UInt8,(bZ [c]).text=[c]:=λc=>sw sm
 show(aA.mk [] [bZ [116],pL a,pL b]).text=_
 rw[qU,l3,l3,pF,a1]
 simp[bL]
theorem RR (a b:Ty):bL (.op true a b)=[40,101,32,40,116,32,40,99,32,118,32]++bL a++[32]++dV (bL b)++[41,32,118,41,41]:=by
 have a1:∀c:UInt8,(bZ [c]).text=[c]:=λc=>sw sm
 show(aA.mk [] [bZ [101],.mk [] [bZ [116],.mk [] [bZ [99],bZ [118],pL a,zX (pL b)],bZ [118]]]).text=_
 rw[qU,l3,pF,a1,qU,l3,l3,pF,a1,a1,qU,l3,l3,l3,pF,a1,a1,RM]
 simp[bL]
theorem BJ:∀t:Ty,(bL t).length+16<=17*t.n
 | .i=>by rw[RP];simp[Ty.n]
 | .op false a b=>by
  have:=BJ a;have:=BJ b
  rw[RQ];simp only[lA,lC,List.length_nil,Ty.n];omega
 | .op true a b=>by
  have:=BJ a;have:=BJ b
  rw[RR];simp only[lA,lC,List.length_nil,Ty.n,LI];omega
theorem Du:∀t:Ty,(pL t).depth+3<=3*t.n
 | .i=>by simp[pL,bZ,aA.depth,aA.depth.deeps,Ty.n]
 | .op false a b=>by
  have:=Du a;have:=Du b
  have:=a.pos;have:=b.pos
  simp only[pL,aA.depth,aA.depth.deeps,bZ,Ty.n];omega
 | .op true a b=>by
  have:=Du a;have:=Du b
  have:=a.pos;have:=b.pos
  have hn:=RO (pL b)
  simp only[pL,aA.depth,aA.depth.deeps,bZ,Ty.n,hn];omega
/-! ### The maker's state -/
structure Tk where
 aP:aj
 regs:List aj
 loads:Nat
 self:List aj
 sc:List (aj×Nat×Ty)
 expr:Ex
 on:Nat
 bm:aj
 next:Nat
structure Mk where
 blocks:List Bk
 bW:List Tk
 count:Nat
 wide:Bool
 code:List aj
 types:List aj
abbrev da:=List (aj×Nat×Ty)
def fi (s:da):Sc:=s.map λp=>(p.1,p.2.2)
theorem Dv (s:da) (x:aj) (r:Nat) (T:Ty):fi (s++[(x,r,T)])=fi s++[(x,T)]:=by simp[fi]
def kS (s:da) (x:aj):Nat:=((s.reverse.find? λp=>decide (p.1=x)).map λp=>p.2.1).getD 0
def kE (s:da) (x:aj):Ty:=(look (fi s) x).getD .i
def Mk.dG (m:Mk) (kind:aj):Mk:={m with types:=m.types++[kind],wide:=m.wide||decide (40<m.types.length+1)}
def Mk.cY (m:Mk) (h:aj) (ps:List aj):Mk:={m with code:=m.code++[bO h ps]}
def Mk.lK (m:Mk):Mk:={m with count:=m.count+1}
def Mk.aP (m:Mk):aj:=98::bf m.count
abbrev H9:aj:=[99,111,110,115,116]
abbrev l5:aj:=[110,101,119]
abbrev sC:aj:=[108,97,98]
abbrev sD:aj:=[112,97,99,107]
abbrev zY:aj:=[111,112,101,110]
abbrev sE:aj:=[103,101,116]
abbrev nT:aj:=[109,111,118]
abbrev z1:aj:=[106,117,109,112]
abbrev Fm:aj:=[122,101,114,111]
abbrev BK:aj:=[109,97,105,110]
abbrev z6:aj:=[101,110,100]
def Ex.az:Ex->aj
 | .at s=>s
 |_=>[]
theorem Ex.qZ (e:Ex):e.av.az=e.az:=by cases e<;>rfl
def cF (m:Mk) (s:da) (a:aj):Mk×Nat:=if eO a then(m,kS s a) else((m.dG [105]).cY H9 [bf m.types.length,a],m.types.length)
structure Pk where
 m:Mk
 r:Nat
 w:aj
def o5 (m:Mk) (s:da) (ton:Nat) (aX:List aj) (on aP kind:aj) (cN:List aj):Pk:=
 let regs:=aX.map (λx=>bf (kS s x))++(if on≠[] then[bf ton] else[])
 let tys:=aX.map (λx=>bL (kE s x))++(if on≠[] then[on] else[])
 let w:=bO [116] tys
 let r:=m.types.length
 let code:=bO [99] (w::cN)
 ⟨(((((((m.dG w).cY l5 (bf r::regs)).dG code).cY sC [bf (r+1),aP]).dG (bO [116] [code,w])).cY l5 [bf (r+2),bf (r+1),bf r]).dG kind).cY sD [bf (r+3),bf (r+2),kind,w],r+3,w⟩
def iO (s:da) (k:Nat) (aX:List aj) (from_:da):da:=from_++(aX.zipIdx).map λp=>(p.1,k+p.2,kE s p.1)
def oF (m:Mk) (s:da) (f x:aj) (A B:Ty) (e:Ex):Pk:=o5 m.lK s 0 (cE (.fn f x A B e) [] []) [] m.aP (bL (.op true A B)) [bL A,dV (bL B)]
def z7 (s:da) (f x:aj) (A B:Ty) (e:Ex):da:=
 (if 0<im f e then iO s 3 (cE (.fn f x A B e) [] []) []++[(f,3+(cE (.fn f x A B e) [] []).length+2,.op true A B)] else iO s 3 (cE (.fn f x A B e) [] []) [])++[(x,1,A)]
def z8 (m:Mk) (s:da) (f x:aj) (A B:Ty) (e:Ex):Tk:=
 ⟨m.aP,[(oF m s f x A B e).w,bL A,dV (bL B)],(cE (.fn f x A B e) [] []).length,if 0<im f e then[bL (.op true A B),(oF m s f x A B e).w] else[],z7 s f x A B e,e,2,dV (bL B),3⟩
def Aa (m:Mk) (s:da) (f x:aj) (A B:Ty) (e:Ex):Mk×Nat:=
 ({(oF m s f x A B e).m with bW:=(oF m s f x A B e).m.bW++[z8 m s f x A B e]},(oF m s f x A B e).r)
def qt (h:aj):aj:=if h=[43] then[97,100,100] else if h=[45] then[115,117,98] else if h=[42] then[109,117,108] else l5
def mX (m:Mk) (s:da) (kind:Ty):Ex->Mk×Nat
 | .at a=>cF m s a
 | .fn f x A B e=>Aa m s f x A B e
 | .un h a=>
  let p:=cF m s a.az
  ((p.1.dG (bL kind)).cY sE [bf p.1.types.length,bf p.2,if h=qW then[49] else[48]],p.1.types.length)
 | .bi h a b=>
  let p:=cF m s a.az
  let q:=cF p.1 s b.az
  ((q.1.dG (bL kind)).cY (qt h) [bf q.1.types.length,bf p.2,bf q.2],q.1.types.length)
 | .ite a b _=>
  let p:=cF m s a.az
  let q:=cF p.1 s b.az
  ((q.1.dG (bL kind)).cY (qt cC) [bf q.1.types.length,bf p.2,bf q.2],q.1.types.length)
 | .lt x a _=>
  let p:=cF m s x
  let q:=cF p.1 s a.az
  ((q.1.dG (bL kind)).cY (qt gM) [bf q.1.types.length,bf p.2,bf q.2],q.1.types.length)
def oG (m:Mk) (s:da) (ton:Nat) (bm name:aj) (kind:Ty) (rest:Ex):Pk:=o5 m.lK s ton (cE rest [name] []) bm m.aP (dV (bL kind)) [bL kind]
def Ia (m:Mk) (s:da) (ton:Nat) (bm name:aj) (kind:Ty) (rest:Ex):Tk:=
 ⟨m.aP,[(oG m s ton bm name kind rest).w,bL kind],(cE rest [name] []).length+1,[],iO s 2 (cE rest [name] []) []++[(name,1,kind)],rest,2+(cE rest [name] []).length,bm,2⟩
def tH (m:Mk) (s:da) (ton:Nat) (bm name:aj) (kind:Ty) (rest:Ex):Mk×Nat×aj:=
 ({(oG m s ton bm name kind rest).m with bW:=(oG m s ton bm name kind rest).m.bW++[Ia m s ton bm name kind rest]},(oG m s ton bm name kind rest).r,dV (bL kind))
def sF (m:Mk) (s:Nat):Mk:=
 let r:=m.types.length
 (((((m.dG []).cY zY [bf r,bf s]).dG []).cY sE [bf (r+1),bf r,[48]]).dG []).cY sE [bf (r+2),bf r,[49]]
def xO (m:Mk) (f x:Nat) (on:Nat):Mk:=
 let r:=m.types.length
 ((((sF m f).cY nT [[48],bf (r+2)]).cY nT [[49],bf x]).cY nT [[50],bf on]).cY z1 [bf (r+1)]
def xP (m:Mk) (on r:Nat):Mk:=
 let q:=m.types.length
 (((sF m on).cY nT [[48],bf (q+2)]).cY nT [[49],bf r]).cY z1 [bf (q+1)]
structure Goal where
 name:aj
 s:Ex
 rest:Ex
def bV:Ex->Goal
 | .lt x a b=>⟨x,a,b⟩
 |e=>⟨[],e,e⟩
def nU (s:da) (e:Ex):Ty:=(bM e (fi s)).getD .i
structure At where
 m:Mk
 s:da
 on:Nat
 bm:aj
def Ib (a:At) (g:Goal):At:=
 if g.name≠[] then let c:=tH a.m a.s a.on a.bm g.name (nU a.s g.s) g.rest;⟨c.1,a.s,c.2.1,c.2.2⟩ else a
def kF (a:At) (e:Ex):Mk ⊕ At×Ex:=
 let g:=bV e
 match g.s with
 | .bi h f x=>
  if h=kD then
   let p:=cF a.m a.s f.az
   let q:=cF p.1 a.s x.az
   let b:=Ib {a with m:=q.1} g
   .inl (xO b.m p.2 q.2 b.on)
  else
   let p:=mX a.m a.s (nU a.s g.s) g.s
   if g.name=[] then .inl (xP p.1 a.on p.2) else .inr ({a with m:=p.1,s:=a.s++[(g.name,p.2,nU a.s g.s)]},g.rest)
 | .ite c x y=>
  let p:=cF a.m a.s c.az
  let b:=Ib {a with m:=p.1} g
  let aP:=b.m.aP
  let m1:=b.m.lK.cY Fm [bf p.2,aP]
  let br:Tk:=⟨aP,m1.types,0,[],a.s,x,b.on,b.bm,m1.types.length⟩
  .inr ({b with m:={m1 with bW:=m1.bW++[br]}},y)
 |s=>
  let p:=mX a.m a.s (nU a.s s) s
  if g.name=[] then .inl (xP p.1 a.on p.2) else .inr ({a with m:=p.1,s:=a.s++[(g.name,p.2,nU a.s s)]},g.rest)
structure Fr (L:List Nat) (w:World) (L':List Nat) (w':World):Prop where
 aO:ak L w w'
 mem:∀x,x∈L'->x∈L∨w.heap.size<=x
theorem Fr.refl (L:List Nat) (w:World):Fr L w L w:=⟨ak.refl L w,λx hx=>.inl hx⟩
theorem Fr.go {L2:List Nat} (h:Fr L w L1 w1) (k:Fr L1 w1 L2 w2):Fr L w L2 w2:=
 ⟨h.aO.since k.aO h.mem,λx hx=>by
  rcases k.mem x hx with h1|h1
  ·exact h.mem x h1
  ·have:=h.aO.size;right;omega⟩
theorem Fr.ext (h:Fr L w L1 w1) (k:ak [] w1 w2):Fr L w L1 w2:=⟨h.aO.trans k.any,h.mem⟩
theorem Fr.aL (h:Fr L w L1 w1) (k:ak G w1 w2) (hG:∀x,x∈G->x∈L1):Fr L w L1 w2:=⟨h.aO.since (k.mono hG) h.mem,h.mem⟩
theorem Fr.of (k:ak G w w') (hG:∀x,x∈G->x∈L):Fr L w L w':=⟨k.mono hG,λx hx=>.inl hx⟩
theorem Fr.to {L2:List Nat} (h:Fr L w L1 w1) (hL:∀x,x∈L2->x∈L1∨w.heap.size<=x):Fr L w L2 w1:=⟨h.aO,λx hx=>by
 rcases hL x hx with h1|h1
 ·exact h.mem x h1
 ·exact .inr h1⟩
theorem Fr.grow (h:Fr L w L1 w1):Fr L w (w1.heap.size::L1) w1:=h.to λx hx=>by
 rcases mC.1 hx with rfl|hx
 ·exact .inr h.aO.size
 ·exact .inl hx
theorem cD.go {c:C} (h:cD L w v c) (k:Fr L w L' w'):cD L' w' v c:=by
 have h1:cD (L++L') w v c:=h.fresh λx hx=>by
  rcases mA.1 hx with hx|hx
  ·exact .inl hx
  ·exact k.mem x hx
 exact(h1.aO (k.aO.mono λx hx=>List.mem_append_left _ hx)).weaken λx hx=>mR _ hx
theorem dP.go {cs:List C} (h:dP L w vs cs) (k:Fr L w L' w'):dP L' w' vs cs:=dP.of h.length λ_ _ _ hv hc=>(h.get hv hc).go k
theorem kB.go {cs:List C} (h:kB L w v cs) (k:Fr L w L' w'):kB L' w' v cs:=let⟨vs,e,h⟩:=h;⟨vs,e,h.go k⟩
theorem bS.go (h:bS L w v t) (k:Fr L w L' w'):bS L' w' v t:=kB.go h k
theorem fG.go {t:List aA} (h:fG L w v t) (k:Fr L w L' w'):fG L' w' v t:=cD.go h k
theorem bI.go (h:bI L w v xs) (k:Fr L w L' w'):bI L' w' v xs:=cD.go h k
theorem bI.fresh (h:bI L w v xs) (hL:∀x,x∈L'->x∈L∨w.heap.size<=x):bI L' w v xs:=cD.fresh h hL
theorem bS.fresh (h:bS L w v t) (hL:∀x,x∈L'->x∈L∨w.heap.size<=x):bS L' w v t:=kB.fresh h hL
structure iZ (L:List Nat) (w:World) (b off:Nat) (vs:List Value):Prop where
 cells:iQ w b off vs
 lt:b<w.heap.size
 out:b∉L
theorem iZ.go (h:iZ L w b off vs) (k:Fr L w L' w'):iZ L' w' b off vs:=
 ⟨λj v hj=>(World.cell?_of_block (k.aO.block b h.lt h.out)).trans (h.cells j v hj),lL h.lt k.aO.size,λhx=>by
  rcases k.mem b hx with h1|h1
  ·exact h.out h1
  ·have:=h.lt;omega⟩
theorem iZ.ext (h:iZ L w b off vs) (k:ak [] w w'):iZ L w' b off vs:=h.go (Fr.of k sm)
theorem iZ.aL (h:iZ L w b off vs) (k:ak G w w') (hG:∀x,x∈G->x∈L):iZ L w' b off vs:=h.go (Fr.of k hG)
/-! ### Tasks -/
def tI (xs:List Nat):List (List C):=xs.map λx:Nat=>[.val (.int .i64 (x:Int))]
def xQ (L:List Nat) (w:World) (v:Value) (xs:List Nat):Prop:=cD L w v (.sl 1 (tI xs))
theorem xQ.ext {xs:List Nat} (h:xQ L w v xs) (k:ak [] w w'):xQ L w' v xs:=cD.ext h k
theorem xQ.go {xs:List Nat} (h:xQ L w v xs) (k:Fr L w L' w'):xQ L' w' v xs:=cD.go h k
theorem ab9 {n:Nat} {xs:List Nat} (h:xQ L w (.slice a n c) xs) (hi:xs[i]?=some x):
  ∃b off,a=some ⟨b,off,none⟩∧iQ w b (off+i*1) [.int .i64 (x:Int)]:=by
 obtain⟨b,off,vs,ha,hb,hL,hl,hc,hr⟩:=yR h (show(tI xs)[i]?=some [.val (.int .i64 (x:Int))] by simp[tI,hi])
 match vs,hr with
 |[v],hr=>obtain⟨h1,_⟩:=hr;cases h1;exact⟨b,off,ha,hc⟩
 |[],hr=>exact hr.elim
 |_::_::_,hr=>exact hr.2.elim
def ka (s:da):List aj:=s.map λp=>p.1
def wu (s:da):List Nat:=s.map λp=>p.2.1
def o6 (s:da):List aj:=s.map λp=>p.2.2.text
theorem aca (s:da) (x:aj) (r:Nat) (T:Ty):ka (s++[(x,r,T)])=ka s++[x]:=by simp[ka]
theorem acb (s:da) (x:aj) (r:Nat) (T:Ty):wu (s++[(x,r,T)])=wu s++[r]:=by simp[wu]
theorem acd (s:da) (x:aj) (r:Nat) (T:Ty):o6 (s++[(x,r,T)])=o6 s++[T.text]:=by simp[o6]
def Tk.enc (t:Tk):List C:=
 [.val (str t.aP),.sl 1 (jh t.regs),.val (.int .i64 (t.loads:Int)),.sl 1 (jh t.self),.sl 1 (jh (ka t.sc)),.sl 1 (tI (wu t.sc)),.sl 1 (jh (o6 t.sc)),.val (str t.expr.av.az),.sl 2 (dD t.expr.av.au),.val (.int .i64 (t.on:Int)),.val (str t.bm),.val (.int .i64 (t.next:Int))]
structure oH (L:List Nat) (w:World) (t:Tk) (v1 v3 v4 v5 v6 v8:Value):Prop where
 regs:bI L w v1 t.regs
 self:bI L w v3 t.self
 aX:bI L w v4 (ka t.sc)
 at_:xQ L w v5 (wu t.sc)
 types:bI L w v6 (o6 t.sc)
 au:fG L w v8 t.expr.av.au
def pM (t:Tk) (v1 v3 v4 v5 v6 v8:Value):List Value:=
 [str t.aP,v1,.int .i64 (t.loads:Int),v3,v4,v5,v6,str t.expr.av.az,v8,.int .i64 (t.on:Int),str t.bm,.int .i64 (t.next:Int)]
theorem ace {t:Tk} (h:dP L w vs t.enc):∃v1 v3 v4 v5 v6 v8,vs=pM t v1 v3 v4 v5 v6 v8∧oH L w t v1 v3 v4 v5 v6 v8:=by
 have hl:=h.length
 unfold Tk.enc at h hl
 match vs,hl,h with
 |[u0,u1,u2,u3,u4,u5,u6,u7,u8,u9,u10,u11],_,h=>
  obtain⟨h0,h1,h2,h3,h4,h5,h6,h7,h8,h9,gF,kn,_⟩:=h
  cases h0;cases h2;cases h7;cases h9;cases gF;cases kn
  exact⟨u1,u3,u4,u5,u6,u8,rfl,h1,h3,h4,h5,h6,h8⟩
theorem oH.Bz {t:Tk} (h:oH L w t v1 v3 v4 v5 v6 v8):dP L w (pM t v1 v3 v4 v5 v6 v8) t.enc:=
 ⟨.val _,h.regs,.val _,h.self,h.aX,h.at_,h.types,.val _,h.au,.val _,.val _,.val _,trivial⟩
theorem oH.go {t:Tk} (h:oH L w t v1 v3 v4 v5 v6 v8) (k:Fr L w L' w'):oH L' w' t v1 v3 v4 v5 v6 v8:=
 ⟨h.regs.go k,h.self.go k,h.aX.go k,h.at_.go k,h.types.go k,h.au.go k⟩
theorem oH.ext {t:Tk} (h:oH L w t v1 v3 v4 v5 v6 v8) (k:ak [] w w'):oH L w' t v1 v3 v4 v5 v6 v8:=h.go (Fr.of k sm)
theorem oH.aL {t:Tk} (h:oH L w t v1 v3 v4 v5 v6 v8) (k:ak G w w') (hG:∀x,x∈G->x∈L):oH L w' t v1 v3 v4 v5 v6 v8:=h.go (Fr.of k hG)
theorem oH.grow {t:Tk} (h:oH L w t v1 v3 v4 v5 v6 v8):oH (w.heap.size::L) w t v1 v3 v4 v5 v6 v8:=h.go ((Fr.refl L w).grow)
def iq (L:List Nat) (w:World) (T:TypeId) (b:Nat) (t:Tk):Prop:=∃v1 v3 v4 v5 v6 v8,aY w b (pM t v1 v3 v4 v5 v6 v8).toArray T∧oH L w t v1 v3 v4 v5 v6 v8
theorem iq.ext {T:TypeId} {t:Tk} (h:iq L w T b t) (k:ak [] w w'):iq L w' T b t:=by
 obtain⟨v1,v3,v4,v5,v6,v8,hb,hc⟩:=h
 exact⟨v1,v3,v4,v5,v6,v8,hb.aO k sm,hc.ext k⟩
theorem iq.go {T:TypeId} {t:Tk} (h:iq L w T b t) (k:Fr L w L' w') (kg:ak G w w') (hb:b∉G):iq L' w' T b t:=by
 obtain⟨v1,v3,v4,v5,v6,v8,hB,hc⟩:=h
 exact⟨v1,v3,v4,v5,v6,v8,hB.aO kg hb,hc.go k⟩
/-! ### The maker -/
theorem dh.acf {T:TypeId} (h:dh w T v g xs):jX w T 1 v g (jh xs).length (xs.map λx=>str x):=by rw[rM];exact h
structure eC (L:List Nat) (w:World) (T:TypeId) (sz:Nat) (v:Value) (g:Option Nat) (rows:List (List C)):Prop where
 own:∃xs,jX w T sz v g rows.length xs∧dP L w xs rows.flatten
 row:∀row,row∈rows->row.length=sz
theorem eC.aO {T:TypeId} (h:eC L w T sz v g rows) (k:Fr L w L' w') (kg:ak G w w') (hg:∀x,x∈g.toList->x∉G):eC L' w' T sz v g rows:=by
 obtain⟨xs,h1,h2⟩:=h.own
 exact⟨⟨xs,h1.aO kg (λb hb=>hg b (by simp[hb])),h2.go k⟩,h.row⟩
theorem eC.len {T:TypeId} (h:eC L w T sz v g rows):∃a cap,v= .slice a rows.length cap:=by
 obtain⟨xs,h1,_⟩:=h.own;exact h1.len
theorem eC.lt {T:TypeId} (h:eC L w T sz v g rows):∀x,x∈g.toList->x<w.heap.size:=by
 obtain⟨xs,h1,_⟩:=h.own;intro x hx;exact h1.lt x (by simpa using hx)
theorem eC.rep {T:TypeId} (h:eC L w T sz v g rows) (hL:∀x,x∈g.toList++L'->x∈L∨w.heap.size<=x) (hg:∀x,x∈g.toList->x∉L'):cD L' w v (.sl sz rows):=by
 obtain⟨xs,h1,h2⟩:=h.own
 exact ig.done (L:=L') ⟨h1,h2.fresh hL,h.row,λb hb=>hg b (by simp[hb])⟩
structure sG where
 M:TypeId
 B:TypeId
 T:TypeId
 S:TypeId
structure gT (τ:sG) (E L:List Nat) (w:World) (b:Nat) (o:Bool) (vb vt vc vy:Value) (gb gt gc gy:Option Nat) (m:Mk):Prop where
 bl:eC L w τ.B 3 vb gb (m.blocks.map Bk.enc)
 ta:eC L w τ.T 12 vt gt (m.bW.map Tk.enc)
 co:(o=true∧dh w τ.S vc gc m.code)∨(o=false∧gc=none∧bI L w vc m.code)
 ty:dh w τ.S vy gy m.types
 eL:L=E++b::(gb.toList++(gt.toList++(gc.toList++gy.toList)))
 nd:L.Nodup
 cZ:∀x,x∈L->x<w.heap.size
section
variable {τ:sG} {E L:List Nat} {w w':World} {b:Nat} {o:Bool} {vb vt vc vy:Value} {gb gt gc gy:Option Nat} {m:Mk}
theorem xR {A B C D E:List Nat} {b:Nat}:x∈E++b::(A++(B++(C++D)))↔x∈E∨x=b∨x∈A∨x∈B∨x∈C∨x∈D:=by simp
theorem gT.mem (h:gT τ E L w b o vb vt vc vy gb gt gc gy m):x∈L↔x∈E∨x=b∨x∈gb.toList∨x∈gt.toList∨x∈gc.toList∨x∈gy.toList:=by
 rw[h.eL];exact xR
theorem gT.apart (h:gT τ E L w b o vb vt vc vy gb gt gc gy m):E.Nodup∧b∉E∧
  (∀x,x∈gb.toList->x∉E∧x≠b)∧(∀x,x∈gt.toList->x∉E∧x≠b∧x∉gb.toList)∧(∀x,x∈gc.toList->x∉E∧x≠b∧x∉gb.toList∧x∉gt.toList)∧
  (∀x,x∈gy.toList->x∉E∧x≠b∧x∉gb.toList∧x∉gt.toList∧x∉gc.toList):=by
 have hn:=h.nd
 rw[h.eL] at hn
 rw[List.nodup_append] at hn
 obtain⟨h1,h2,h3⟩:=hn
 rw[List.nodup_cons] at h2
 obtain⟨h4,h5⟩:=h2
 rw[List.nodup_append] at h5
 obtain⟨h6,h7,h8⟩:=h5
 rw[List.nodup_append] at h7
 obtain⟨h9,gF,kn⟩:=h7
 rw[List.nodup_append] at gF
 obtain⟨jK,lH,uN⟩:=gF
 refine⟨h1,λhb=>h3 b hb b sm rfl,λx hx=>⟨λhe=>h3 x he x (by simp[hx]) rfl,λe=>h4 (by simp[<-e,hx])⟩,λx hx=>⟨λhe=>h3 x he x (by simp[hx]) rfl,λe=>h4 (by simp[<-e,hx]),λhy=>h8 x hy x (by simp[hx]) rfl⟩,
  λx hx=>⟨λhe=>h3 x he x (by simp[hx]) rfl,λe=>h4 (by simp[<-e,hx]),λhy=>h8 x hy x (by simp[hx]) rfl,λhy=>kn x hy x (by simp[hx]) rfl⟩,
  λx hx=>⟨λhe=>h3 x he x (by simp[hx]) rfl,λe=>h4 (by simp[<-e,hx]),λhy=>h8 x hy x (by simp[hx]) rfl,λhy=>kn x hy x (by simp[hx]) rfl,λhy=>uN x hy x hx rfl⟩⟩
theorem Ab (g:Option Nat):g.toList.Nodup:=by cases g<;>simp
theorem acg {A B C D:Option Nat} {F:List Nat} {b:Nat} (h1:F.Nodup) (h2:b∉F) (ha:∀x,x∈A.toList->x∉F∧x≠b) (hb:∀x,x∈B.toList->x∉F∧x≠b∧x∉A.toList) (hc:∀x,x∈C.toList->x∉F∧x≠b∧x∉A.toList∧x∉B.toList) 
  (hd:∀x,x∈D.toList->x∉F∧x≠b∧x∉A.toList∧x∉B.toList∧x∉C.toList):(F++b::(A.toList++(B.toList++(C.toList++D.toList)))).Nodup:=by
 rw[List.nodup_append,List.nodup_cons,List.nodup_append,List.nodup_append,List.nodup_append]
 refine⟨h1,⟨?_,Ab A,⟨Ab B,⟨Ab C,Ab D,?_⟩,?_⟩,?_⟩,?_⟩
 ·intro h
  simp only[mA] at h
  rcases h with h|h|h|h
  ·exact(ha b h).2 rfl
  ·exact(hb b h).2.1 rfl
  ·exact(hc b h).2.1 rfl
  ·exact(hd b h).2.1 rfl
 ·intro x hx y hy e
  exact(hd y hy).2.2.2.2 (e▸hx)
 ·intro x hx y hy e
  rcases mA.1 hy with hy|hy
  ·exact(hc y hy).2.2.2 (e▸hx)
  ·exact(hd y hy).2.2.2.1 (e▸hx)
 ·intro x hx y hy e
  simp only[mA] at hy
  rcases hy with hy|hy|hy
  ·exact(hb y hy).2.2 (e▸hx)
  ·exact(hc y hy).2.2.1 (e▸hx)
  ·exact(hd y hy).2.2.1 (e▸hx)
 ·intro x hx y hy e
  rcases mC.1 hy with hy|hy
  ·exact h2 (by rw[<-hy,<-e];exact hx)
  ·simp only[mA] at hy
   rcases hy with hy|hy|hy|hy
   ·exact(ha y hy).1 (e▸hx)
   ·exact(hb y hy).1 (e▸hx)
   ·exact(hc y hy).1 (e▸hx)
   ·exact(hd y hy).1 (e▸hx)
theorem gT.swap (h:gT τ E L w b o vb vt vc vy gb gt gc gy m) (k:ak G w w') (hG:∀x,x∈G->x∈L∧x≠b∧x∉E) {gb' gt' gc' gy':Option Nat} 
  (nb:∀x,x∈gb'.toList->x∈gb.toList∨w.heap.size<=x∧x∉gt'.toList∧x∉gc'.toList∧x∉gy'.toList) (nt:∀x,x∈gt'.toList->x∈gt.toList∨w.heap.size<=x∧x∉gb'.toList∧x∉gc'.toList∧x∉gy'.toList)
  (nc:∀x,x∈gc'.toList->x∈gc.toList∨w.heap.size<=x∧x∉gb'.toList∧x∉gt'.toList∧x∉gy'.toList) (ny:∀x,x∈gy'.toList->x∈gy.toList∨w.heap.size<=x∧x∉gb'.toList∧x∉gt'.toList∧x∉gc'.toList):
  Fr L w (E++b::(gb'.toList++(gt'.toList++(gc'.toList++gy'.toList)))) w'∧(E++b::(gb'.toList++(gt'.toList++(gc'.toList++gy'.toList)))).Nodup:=by
 obtain⟨a1,a2,a3,a4,a5,a6⟩:=h.apart
 have eU:∀x,x∈E∨x=b->x<w.heap.size:=λx hx=>h.cZ x (h.mem.2 (by rcases hx with hx|hx<;>simp[hx]))
 have nP:∀x,w.heap.size<=x->x∉E∧x≠b:=λx hx=>⟨λhe=>by have:=eU x (.inl he);omega,λe=>by have:=eU x (.inr e);omega⟩
 refine⟨⟨k.mono λx hx=>(hG x hx).1,λx hx=>?_⟩,acg a1 a2 (λx hx=>?_) (λx hx=>?_) (λx hx=>?_) (λx hx=>?_)⟩
 ·rw[xR] at hx
  rcases hx with hx|hx|hx|hx|hx|hx
  ·exact .inl (h.mem.2 (.inl hx))
  ·exact .inl (h.mem.2 (.inr (.inl hx)))
  ·rcases nb x hx with h1|h1
   ·exact .inl (h.mem.2 (by simp[h1]))
   ·exact .inr h1.1
  ·rcases nt x hx with h1|h1
   ·exact .inl (h.mem.2 (by simp[h1]))
   ·exact .inr h1.1
  ·rcases nc x hx with h1|h1
   ·exact .inl (h.mem.2 (by simp[h1]))
   ·exact .inr h1.1
  ·rcases ny x hx with h1|h1
   ·exact .inl (h.mem.2 (by simp[h1]))
   ·exact .inr h1.1
 ·rcases nb x hx with h1|h1
  ·exact a3 x h1
  ·exact nP x h1.1
 ·rcases nt x hx with h1|h1
  ·refine⟨(a4 x h1).1,(a4 x h1).2.1,λhb=>?_⟩
   rcases nb x hb with h2|h2
   ·exact(a4 x h1).2.2 h2
   ·exact h2.2.1 hx
  ·exact⟨(nP x h1.1).1,(nP x h1.1).2,h1.2.1⟩
 ·rcases nc x hx with h1|h1
  ·refine⟨(a5 x h1).1,(a5 x h1).2.1,λhb=>?_,λhb=>?_⟩
   ·rcases nb x hb with h2|h2
    ·exact(a5 x h1).2.2.1 h2
    ·exact h2.2.2.1 hx
   ·rcases nt x hb with h2|h2
    ·exact(a5 x h1).2.2.2 h2
    ·exact h2.2.2.1 hx
  ·exact⟨(nP x h1.1).1,(nP x h1.1).2,h1.2.1,h1.2.2.1⟩
 ·rcases ny x hx with h1|h1
  ·refine⟨(a6 x h1).1,(a6 x h1).2.1,λhb=>?_,λhb=>?_,λhb=>?_⟩
   ·rcases nb x hb with h2|h2
    ·exact(a6 x h1).2.2.1 h2
    ·exact h2.2.2.2 hx
   ·rcases nt x hb with h2|h2
    ·exact(a6 x h1).2.2.2.1 h2
    ·exact h2.2.2.2 hx
   ·rcases nc x hb with h2|h2
    ·exact(a6 x h1).2.2.2.2 h2
    ·exact h2.2.2.2 hx
  ·exact⟨(nP x h1.1).1,(nP x h1.1).2,h1.2.1,h1.2.2.1,h1.2.2.2⟩
theorem gT.Ic (h:gT τ E L w b o vb vt vc vy gb gt gc gy m) (hx:x∈gb.toList∨x∈gt.toList∨x∈gc.toList∨x∈gy.toList):x<w.heap.size:=h.cZ x (h.mem.2 (by simp only[hx,or_true]))
theorem dh.lt {w:World} {T:TypeId} (h:dh w T v g xs):∀x,x∈g.toList->x<w.heap.size:=λx hx=>jX.lt h x (by simpa using hx)
theorem gT.LJ (h:gT τ E L w b o vb vt vc vy gb gt gc gy m) (hy:dh w' τ.S v g ys) (k:ak gy.toList w w') (hg:∀x,g=some x->gy=some x∨w.heap.size<=x):
  ∃L',gT τ E L' w' b o vb vt vc v gb gt gc g {m with types:=ys}∧Fr L w L' w':=by
 obtain⟨a1,a2,a3,a4,a5,a6⟩:=h.apart
 have kZ:∀x,x∈g.toList->x∈gy.toList∨w.heap.size<=x∧x∉gb.toList∧x∉gt.toList∧x∉gc.toList:=λx hx=>by
  rcases hg x (by simpa using hx) with h1|h1
  ·exact .inl (by simp[h1])
  ·refine .inr ⟨h1,λhh=>?_,λhh=>?_,λhh=>?_⟩<;>have:=h.Ic (x:=x) (by simp[hh])<;>omega
 obtain⟨hF,hN⟩:=h.swap k (λx hx=>⟨h.mem.2 (by simp[hx]),(a6 x hx).2.1,(a6 x hx).1⟩) (gb':=gb) (gt':=gt) (gc':=gc) (gy':=g) (λx hx=>.inl hx) (λx hx=>.inl hx) (λx hx=>.inl hx) kZ
 refine⟨_,⟨h.bl.aO hF k (λx hx hy=>(a6 x hy).2.2.1 hx),h.ta.aO hF k (λx hx hy=>(a6 x hy).2.2.2.1 hx),?_,hy,rfl,hN,?_⟩,hF⟩
 ·rcases h.co with⟨ho,h1⟩|⟨ho,hn,h1⟩
  ·exact .inl ⟨ho,h1.aO k λx hx hy=>(a6 x hy).2.2.2.2 (by simp[hx])⟩
  ·exact .inr ⟨ho,hn,h1.go hF⟩
 ·intro x hx
  rw[xR] at hx
  have hs:=k.size
  rcases hx with hx|hx|hx|hx|hx|hx
  ·exact lL (h.cZ x (h.mem.2 (by simp[hx]))) hs
  ·exact lL (h.cZ x (h.mem.2 (by simp[hx]))) hs
  ·exact lL (h.cZ x (h.mem.2 (by simp[hx]))) hs
  ·exact lL (h.cZ x (h.mem.2 (by simp[hx]))) hs
  ·exact lL (h.cZ x (h.mem.2 (by simp[hx]))) hs
  ·exact hy.lt x hx
theorem gT.Ig (h:gT τ E L w b o vb vt vc vy gb gt gc gy m) (hy:dh w' τ.S v g ys) (k:ak gc.toList w w') (hg:∀x,g=some x->gc=some x∨w.heap.size<=x):
  ∃L',gT τ E L' w' b true vb vt v vy gb gt g gy {m with code:=ys}∧Fr L w L' w':=by
 obtain⟨a1,a2,a3,a4,a5,a6⟩:=h.apart
 have kZ:∀x,x∈g.toList->x∈gc.toList∨w.heap.size<=x∧x∉gb.toList∧x∉gt.toList∧x∉gy.toList:=λx hx=>by
  rcases hg x (by simpa using hx) with h1|h1
  ·exact .inl (by simp[h1])
  ·refine .inr ⟨h1,λhh=>?_,λhh=>?_,λhh=>?_⟩<;>have:=h.Ic (x:=x) (by simp[hh])<;>omega
 obtain⟨hF,hN⟩:=h.swap k (λx hx=>⟨h.mem.2 (by simp[hx]),(a5 x hx).2.1,(a5 x hx).1⟩) (gb':=gb) (gt':=gt) (gc':=g) (gy':=gy) (λx hx=>.inl hx) (λx hx=>.inl hx) kZ (λx hx=>.inl hx)
 refine⟨_,⟨h.bl.aO hF k (λx hx hy=>(a5 x hy).2.2.1 hx),h.ta.aO hF k (λx hx hy=>(a5 x hy).2.2.2 hx),.inl ⟨rfl,hy⟩,h.ty.aO k λx hx hy=>(a6 x (by simp[hx])).2.2.2.2 hy,rfl,hN,?_⟩,hF⟩
 intro x hx
 rw[xR] at hx
 have hs:=k.size
 rcases hx with hx|hx|hx|hx|hx|hx
 ·exact lL (h.cZ x (h.mem.2 (by simp[hx]))) hs
 ·exact lL (h.cZ x (h.mem.2 (by simp[hx]))) hs
 ·exact lL (h.cZ x (h.mem.2 (by simp[hx]))) hs
 ·exact lL (h.cZ x (h.mem.2 (by simp[hx]))) hs
 ·exact hy.lt x hx
 ·exact lL (h.cZ x (h.mem.2 (by simp[hx]))) hs
theorem ach (t:Tk) (h1:v1.oneCell'=true) (h3:v3.oneCell'=true) (h4:v4.oneCell'=true) (h5:v5.oneCell'=true) (h6:v6.oneCell'=true) (h8:v8.oneCell'=true):(pM t v1 v3 v4 v5 v6 v8).all Value.oneCell'=true:=by
 simp only[pM,List.all_cons,h1,h3,h4,h5,h6,h8];rfl
theorem Dw {L:List Nat} {w:World} (h:cD L w v (.sl sz rows)):v.oneCell'=true:=by cases h<;>rfl
theorem oH.one {t:Tk} (h:oH L w t v1 v3 v4 v5 v6 v8):(pM t v1 v3 v4 v5 v6 v8).all Value.oneCell'=true:=ach t (Dw h.regs) (Dw h.self) (Dw h.aX) (Dw h.at_) (Dw h.types) (Dw h.au)
theorem gT.aO (h:gT τ E L w b o vb vt vc vy gb gt gc gy m) (k:ak G w w') (hG:∀x,x∈G->x∈b::E):gT τ E L w' b o vb vt vc vy gb gt gc gy m:=by
 obtain⟨a1,a2,a3,a4,a5,a6⟩:=h.apart
 have rP:∀x,x∈G->x∈L:=λx hx=>h.mem.2 (by rcases mC.1 (hG x hx) with h1|h1<;>simp[h1])
 have hF:Fr L w L w':=Fr.of k rP
 have out:∀x,x∉E->x≠b->x∉G:=λx h1 h2 h3=>by
  rcases mC.1 (hG x h3) with h4|h4
  ·exact h2 h4
  ·exact h1 h4
 refine⟨h.bl.aO hF k (λx hx=>out x (a3 x hx).1 (a3 x hx).2),h.ta.aO hF k (λx hx=>out x (a4 x hx).1 (a4 x hx).2.1),?_,h.ty.aO k (λx hx=>out x (a6 x (by simp[hx])).1 (a6 x (by simp[hx])).2.1),h.eL,h.nd,λx hx=>lL (h.cZ x hx) k.size⟩
 rcases h.co with⟨ho,h1⟩|⟨ho,hn,h1⟩
 ·exact .inl ⟨ho,h1.aO k λx hx=>out x (a5 x (by simp[hx])).1 (a5 x (by simp[hx])).2.1⟩
 ·exact .inr ⟨ho,hn,h1.go hF⟩
theorem gT.ext (h:gT τ E L w b o vb vt vc vy gb gt gc gy m) (k:ak [] w w'):gT τ E L w' b o vb vt vc vy gb gt gc gy m:=h.aO k sm
theorem gT.drop (h:gT τ (x::E) L w b o vb vt vc vy gb gt gc gy m):∃L',L=x::L'∧gT τ E L' w b o vb vt vc vy gb gt gc gy m:=by
 have rP:∀y,y∈E++b::(gb.toList++(gt.toList++(gc.toList++gy.toList)))->y∈L:=λy hy=>by rw[h.eL];simp only[List.cons_append,mC];exact .inr hy
 have hF:Fr L w (E++b::(gb.toList++(gt.toList++(gc.toList++gy.toList)))) w:=(Fr.refl L w).to λy hy=>.inl (rP y hy)
 have jy:=h.nd
 rw[h.eL,List.cons_append,List.nodup_cons] at jy
 refine⟨_,h.eL,⟨h.bl.aO hF (ak.refl [] w) sm,h.ta.aO hF (ak.refl [] w) sm,?_,h.ty,rfl,jy.2,λy hy=>h.cZ y (rP y hy)⟩⟩
 rcases h.co with⟨ho,h1⟩|⟨ho,hn,h1⟩
 ·exact .inl ⟨ho,h1⟩
 ·exact .inr ⟨ho,hn,h1.go hF⟩
def mkV (m:Mk) (vb vt vc vy:Value):List Value:=[vb,vt,.int .i64 (m.count:Int),.bool m.wide,vc,vy]
def dZ (τ:sG) (E L:List Nat) (w:World) (b:Nat) (o:Bool) (m:Mk):Prop:=∃vb vt vc vy gb gt gc gy,aY w b (mkV m vb vt vc vy).toArray τ.M∧gT τ E L w b o vb vt vc vy gb gt gc gy m
theorem dZ.ext (h:dZ τ E L w b o m) (k:ak [] w w'):dZ τ E L w' b o m:=by
 obtain⟨vb,vt,vc,vy,gb,gt,gc,gy,h1,h2⟩:=h
 exact⟨vb,vt,vc,vy,gb,gt,gc,gy,h1.aO k sm,h2.ext k⟩
theorem dZ.aO (h:dZ τ E L w b o m) (k:ak G w w') (hG:∀x,x∈G->x∈E):dZ τ E L w' b o m:=by
 obtain⟨vb,vt,vc,vy,gb,gt,gc,gy,h1,h2⟩:=h
 exact⟨vb,vt,vc,vy,gb,gt,gc,gy,h1.aO k (λhx=>h2.apart.2.1 (hG b hx)),h2.aO k (λx hx=>mK _ (hG x hx))⟩
theorem dZ.drop (h:dZ τ (x::E) L w b o m):∃L',L=x::L'∧dZ τ E L' w b o m:=by
 obtain⟨vb,vt,vc,vy,gb,gt,gc,gy,h1,h2⟩:=h
 obtain⟨L',e,h3⟩:=h2.drop
 exact⟨L',e,vb,vt,vc,vy,gb,gt,gc,gy,h1,h3⟩
theorem dZ.mem (h:dZ τ E L w b o m):(∀x,x∈b::E->x∈L)∧E.Nodup∧b∉E∧∀x,x∈L->x<w.heap.size:=by
 obtain⟨vb,vt,vc,vy,gb,gt,gc,gy,h1,h2⟩:=h
 obtain⟨a1,a2,_⟩:=h2.apart
 exact⟨λx hx=>h2.mem.2 (by rcases mC.1 hx with h|h<;>simp[h]),a1,a2,h2.cZ⟩
end
theorem eC.sub {T:TypeId} (h:eC L w T sz v g rows) (hL:∀x,x∈L'->x∈L∨w.heap.size<=x):eC L' w T sz v g rows:=by
 obtain⟨xs,h1,h2⟩:=h.own
 exact⟨⟨xs,h1,h2.fresh hL⟩,h.row⟩
structure KA (L:List Nat) (T:TypeId) (sz:Nat) (g:Option Nat) (rows rows':List (List C)) (w w':World):Prop where
 aO:ak g.toList w w'
 old:∀v,eC (g.toList++L) w T sz v g rows->eC (g.toList++L) w' T sz v g rows
 new:∀v g',eC (g.toList++(g'.toList++L)) w T sz v g' rows'->eC (g.toList++(g'.toList++L)) w' T sz v g' rows'
theorem eC.any {T:TypeId} (h:eC L w T sz v g rows) (k:ak [] w w'):eC L w' T sz v g rows:=h.aO (Fr.of k sm) k sm
theorem RS (L:List Nat) (T:TypeId) (sz:Nat) (g:Option Nat) (rows rows':List (List C)):Kept (KA L T sz g rows rows'):=
 ⟨λ_=>⟨ak.refl _ _,λ_ h=>h,λ_ _ h=>h⟩,λh k=>⟨h.aO.trans k.aO,λv x=>k.old v (h.old v x),λv g' x=>k.new v g' (h.new v g' x)⟩,
  λh=>⟨h.any,λ_ x=>x.any h,λ_ _ x=>x.any h⟩⟩
section
variable {P:Program} {w:World}
theorem acj {t ty T:TypeId} {i:TypeInfo} {sz bytes:Nat} (ht:P.underlying t=some (.slice T)) (hi:P.info? T=some i) (hz:i.zero=some z) 
  (A6:i.size=sz) (ie:i.bytes=bytes) (xk:z.cells.size=sz) {L:List Nat}
  {v:Value} {g:Option Nat} {rows:List (List C)} {row:List C} (hO:eC (g.toList++L) w T sz v g rows)
  (ab c:Nat) (news:List Value) (iX:row.length=sz) (A7:iQ w ab 0 news) (h1:∀u∈news,u.oneCell'=true) (hr:dP (g.toList++L) w news row)
  (hb:(rows.length+1)*(bytes+1)<=140737488355328):
  ∃v' g' w',(Builtin.append_ #[t,t] ty #[v,.slice (some ⟨ab,0,none⟩) 1 c]).run P w= .ok v' w'∧eC (g.toList++(g'.toList++L)) w' T sz v' g' (rows++[row])∧KA L T sz g rows (rows++[row]) w w'∧
   (g'=g∨g'=some w.heap.size):=by
 subst A6
 subst ie
 obtain⟨xs,eu,BL⟩:=hO.own
 have aT:(rows.length+1)*i.bytes+(rows.length+1)<=140737488355328:=by rw[Nat.mul_add,Nat.mul_one] at hb;exact hb
 have yS:rows.length+1<=maxLen:=by unfold maxLen;omega
 have xl:(rows.length+1)*i.bytes<=140737488355328:=by omega
 have hl:news.length=1*i.size:=by rw[hr.length,iX,Nat.one_mul]
 have Hp:rows.length+1<=9223372036854775807:=by simp only[maxLen] at yS;omega
 have hlen:(xs++news).length=(rows.length+1)*i.size:=by rw[lA,eu.1,hl,Nat.add_mul]
 have vR:∀b o j:Nat,(⟨b,o,none⟩:Addr).add j=⟨b,o+j,none⟩:=λb o j=>by unfold Addr.add;split<;>simp_all
 have uo:∀j u,news[j]?=some u->w.cell? ((⟨ab,0,none⟩:Addr).add j)=some u:=λj u hu=>by rw[vR];exact A7 j u hu
 have RT:∀r,r∈rows++[row]->r.length=i.size:=λr hx=>by
  rcases mA.1 hx with hx|hx
  ·exact hO.row r hx
  ·simp at hx;rw[hx];exact iX
 have o7:(rows++[row]).flatten=rows.flatten++row:=by simp
 have grown:∀(old:Nat),old<rows.length+1->
   eC (g.toList++((some w.heap.size).toList++L)) (w.drew.alloc (.cells (xs.toArray++news.toArray++Builtin.zeroCells z.cells (grownCap w (rows.length+1) old T-(rows.length+1))) T)) T i.size
    (.slice (some ⟨w.heap.size,0,none⟩) (rows.length+1) (grownCap w (rows.length+1) old T)) (some w.heap.size) (rows++[row])∧
   ak [] w (w.drew.alloc (.cells (xs.toArray++news.toArray++Builtin.zeroCells z.cells (grownCap w (rows.length+1) old T-(rows.length+1))) T)):=by
  intro old ho
  have rI:=grownCap_ge w (rows.length+1) old T
  have mH:grownCap w (rows.length+1) old T<=maxLen:=grownCap_le_maxLen w (rows.length+1) old T yS
  have hk:ak [] w (w.drew.alloc (.cells (xs.toArray++news.toArray++Builtin.zeroCells z.cells (grownCap w (rows.length+1) old T-(rows.length+1))) T)):=⟨rfl,rfl,rfl,sm,λk hk _=>heap_alloc_old w.drew _ k hk⟩
  refine⟨⟨⟨xs++news,⟨by simpa using hlen,.inr ⟨w.heap.size,_,_,rfl,?_,heap_alloc_new w.drew _,?_,mH,?_,?_⟩⟩,?_⟩,RT⟩,hk⟩
  ·simp
  ·simpa using rI
  ·simp only[Array.size_append,List.size_toArray,size_zeroCells,xk,eu.1,hl,<-Nat.add_mul]
   congr 1
   omega
  ·simp only[Array.toList_append,List.append_assoc]
   rw[<-List.append_assoc,lA,List.length_singleton,<-hlen]
   exact List.take_left
  ·rw[o7]
   refine((BL.append hr).fresh (L':=g.toList++((some w.heap.size).toList++L)) λx hx=>?_).aO hk.any
   rcases mA.1 hx with hx|hx
   ·exact .inl (by simp[hx])
   ·rcases mA.1 hx with hx|hx
    ·right;simp at hx;omega
    ·exact .inl (by simp[hx])
 rcases eu.2 with⟨rfl,zQ,rfl⟩|⟨b,cap,cur,rfl,rfl,hb,nI,mH,cJ,tg⟩
 ·have hx:xs=[]:=List.eq_nil_of_length_eq_zero (by rw[eu.1,zQ];simp)
  subst hx
  have hr:=run_append_nil (P:=P) w t ty T i z ht hi hz ⟨ab,0,none⟩ 1 c news hl uo om om (by rw[zQ] at xl;simp only[Nat.zero_add] at xl;omega)
  have lD:=grown 0 om
  rw[zQ] at lD
  simp only[Nat.zero_add,List.nil_append,Array.empty_append] at lD⊢
  exact⟨_,some w.heap.size,_,hr,lD.1,(RS L T i.size none rows (rows++[row])).of lD.2,.inr rfl⟩
 ·by_cases sj:rows.length+1<=cap
  ·have lB:rows.length*i.size+news.length<=cur.size:=by rw[hl,cJ,<-Nat.add_mul];exact Nat.mul_le_mul_right _ sj
   have kl:=run_append_room (P:=P) w t ty T i ht hi b rows.length cap cur hb ⟨ab,0,none⟩ 1 c news hl uo h1 sj lB
   have Dx:ak [b] w (w.setRow b (cur.toList.take (rows.length*i.size)++news++cur.toList.drop (rows.length*i.size+news.length)).toArray):=⟨rfl,rfl,rfl,sm,λk _ hk=>setRow_other w b k _ (by simpa using hk)⟩
   have LK:aY (w.setRow b (cur.toList.take (rows.length*i.size)++news++cur.toList.drop (rows.length*i.size+news.length)).toArray) b (cur.toList.take (rows.length*i.size)++news++cur.toList.drop (rows.length*i.size+news.length)).toArray T:=setRow_heap w b cur _ T _ hb
   have iW:(cur.toList.take (rows.length*i.size)++news++cur.toList.drop (rows.length*i.size+news.length)).toArray.size=cap*i.size:=by
    simp only[List.size_toArray,lA,List.length_take,List.length_drop,Array.length_toList]
    omega
   have RU:(cur.toList.take (rows.length*i.size)++news++cur.toList.drop (rows.length*i.size+news.length)).take ((rows.length+1)*i.size)=xs++news:=by
    rw[tg,<-hlen];exact List.take_left
   have ack:(cur.toList.take (rows.length*i.size)++news++cur.toList.drop (rows.length*i.size+news.length)).take (rows.length*i.size)=xs:=by
    rw[tg,<-eu.1,List.append_assoc];exact List.take_left
   -- whoever owns block b,owns it with this size
   have cap_of:∀(v:Value) (n:Nat) (ys:List Value),jX w T i.size v (some b) n ys->∃cap',v= .slice (some ⟨b,0,none⟩) n cap'∧n<=cap'∧cap'<=maxLen∧cap'*i.size=cap*i.size∧ys=cur.toList.take (n*i.size):=by
    intro v n ys hv
    rcases hv.2 with⟨_,_,h⟩|⟨b',cap',cur',e',Fo,gV,CU,pA,zO,ov⟩
    ·cases h
    ·cases e'
     have:cur'=cur:=by have h2:=gV.symm.trans hb;simpa using h2
     subst this
     exact⟨cap',Fo,CU,pA,by rw[<-zO,cJ],ov.symm⟩
   have wr:∀(v:Value) (n:Nat),(∃cap',v=Value.slice (some ⟨b,0,none⟩) n cap'∧n<=cap'∧cap'<=maxLen∧cap'*i.size=cap*i.size)->∀ys:List Value,ys.length=n*i.size->(cur.toList.take (rows.length*i.size)++news++cur.toList.drop (rows.length*i.size+news.length)).take (n*i.size)=ys->
     jX (w.setRow b (cur.toList.take (rows.length*i.size)++news++cur.toList.drop (rows.length*i.size+news.length)).toArray) T i.size v (some b) n ys:=by
    rintro v n ⟨cap',Fo,CU,pA,zO⟩ ys hy fC
    exact⟨hy,.inr ⟨b,cap',_,rfl,Fo,LK,CU,pA,by rw[iW,zO],fC⟩⟩
   refine⟨_,some b,_,kl,⟨⟨xs++news,wr _ _ ⟨cap,sm,by simpa using sj,mH,rfl⟩ _ (by simpa using hlen) (by simpa using RU),?_⟩,RT⟩,⟨Dx,λv hv=>?_,λv g' hv=>?_⟩,.inl rfl⟩
   ·rw[o7]
    exact((BL.append hr).fresh λx hx=>.inl (by simp only[mA] at hx⊢;rcases hx with h|h|h;exact .inl h;exact .inl h;exact .inr h)).aO (Dx.mono λx hx=>by simp at hx;simp[hx])
   ·obtain⟨ys,h1,h2⟩:=hv.own
    obtain⟨cap',a1,a2,a3,a4,a5⟩:=cap_of _ _ _ h1
    refine⟨⟨ys,wr _ _ ⟨cap',a1,a2,a3,a4⟩ _ h1.1 ?_,h2.aO (Dx.mono λx hx=>by simp at hx;simp[hx])⟩,hv.row⟩
    rw[ack,a5,tg]
   ·obtain⟨ys,h1,h2⟩:=hv.own
    by_cases Ac:g'=some b
    ·subst Ac
     obtain⟨cap',a1,a2,a3,a4,a5⟩:=cap_of _ _ _ h1
     refine⟨⟨xs++news,wr _ _ ⟨cap',a1,a2,a3,a4⟩ _ (by simpa using hlen) (by simpa using RU),?_⟩,hv.row⟩
     rw[o7]
     exact((BL.append hr).fresh λx hx=>.inl (by simp only[mA] at hx⊢;rcases hx with h|h|h;exact .inl h;exact .inl h;exact .inr h)).aO (Dx.mono λx hx=>by simp at hx;simp[hx])
    ·exact⟨⟨ys,h1.aO Dx (λx hx fF=>Ac (by simp at fF;rw[hx,fF])),h2.aO (Dx.mono λx hx=>by simp at hx;simp[hx])⟩,hv.row⟩
  ·have holds:∀j u,xs[j]?=some u->w.cell? ((⟨b,0,none⟩:Addr).add j)=some u:=λj u hu=>by
    rw[vR,hb.cell]
    rw[<-tg,List.getElem?_take] at hu
    split at hu
    ·simpa using hu
    ·cases hu
   have hr:=run_append_grow (P:=P) w t ty T i z ht hi hz ⟨b,0,none⟩ rows.length cap xs eu.1 holds ⟨ab,0,none⟩ 1 c news hl uo om om (growslice_fits om xl)
   have lD:=grown cap om
   exact⟨_,some w.heap.size,_,hr,lD.1,(RS L T i.size (some b) rows (rows++[row])).of lD.2,.inr rfl⟩
end
section
variable {P:Program} {n:Nat} {ops:Array Oper} {K:Env->World->Prop} {rest:List Oper} {e:Env} {w:World}
 {dst:Option Nat} {ty:TypeId} {pos:String} {after:Array Edge} {g:Option (Nat×Bool)} {x y:Operand}
theorem BM {L:List Nat} {t:Nat} {v:Value} {gb:Option Nat} {rows:List (List C)} {row:List C} {news:List Value} {b c:Nat} (hT:P.underlying t=some (.slice E)) (hE:TI P E sz bytes z) (hg:gate ops e g=true) (hd:dw n dst=true) (hz:Nat.beq z.cells.size sz=true) (ie:Nat.ble bytes 1000=true) 
  (hx:ev e x=v) (hy:ev e y= .slice (some ⟨b,0,none⟩) 1 c) (hO:eC (gb.toList++L) w E sz v gb rows) (iX:row.length=sz) (hc:iQ w b 0 news) (h1:∀u∈news,u.oneCell'=true)
  (hr:dP (gb.toList++L) w news row) (hn:rows.length<100000000)
  (k:∀v' g' w',eC (gb.toList++(g'.toList++L)) w' E sz v' g' (rows++[row])->KA L E sz gb rows (rows++[row]) w w'->(g'=gb∨g'=some w.heap.size)->OW P n ops K rest (cO e dst v') w'):
  OW P n ops K (⟨dst,.call {callee:=.builtin .append,args:=#[x,y],argTypes:=#[t,t]},ty,pos,after,g⟩::rest) e w:=by
 obtain⟨i,hi,Bi,iW,LL⟩:=hE.get
 have Dl:bytes<=1000:=Nat.le_of_ble_eq_true ie
 obtain⟨v',g',w',kl,xr,hk,kZ⟩:=acj (P:=P) (ty:=ty) hT hi Bi iW LL (Nat.eq_of_beq_eq_true hz) hO b c news iX hc h1 hr
  (Nat.le_trans (Nat.mul_le_mul (show rows.length+1<=100000000 by omega) (show bytes+1<=1001 by omega)) de)
 exact fR hg hd (w':=w') (by
  simp only[execOp,resolve,invoke,builtin,Sem.run_bind,Sem.run_pure,Result.andThen_ok,List.map_toArray,List.map_cons,List.map_nil,hx,hy,kl]) (k v' g' w' xr hk kZ)
end
/-! ### Behind it -/
theorem LM:∀{vs:List Value} {xs:List aj},dP L w vs (jh xs).flatten->vs=xs.map λx=>str x
 |[],[],_=>rfl
 |v::vs,x::xs,h=>by
  obtain⟨h1,h2⟩:=h
  cases h1
  rw[LM (xs:=xs) h2];rfl
theorem eC.vY {T:TypeId} (h:eC L w T 1 v g (jh xs)):dh w T v g xs:=by
 obtain⟨vs,h1,h2⟩:=h.own
 rw[rM,LM h2] at h1;exact h1
theorem RV (L:List Nat) (w:World):∀xs:List aj,dP L w (xs.map λx=>str x) (jh xs).flatten
 |[]=>trivial
 |_::xs=>⟨.val _,RV L w xs⟩
theorem dh.RW {T:TypeId} (h:dh w T v g xs) (L:List Nat):eC L w T 1 v g (jh xs):=
 ⟨⟨_,h.acf,RV L w xs⟩,λrow hr=>by obtain⟨x,_,rfl⟩:=List.mem_map.1 hr;rfl⟩
theorem RX (xs:List aj) (x:aj):jh xs++[[.val (str x)]]=jh (xs++[x]):=by simp[jh]
theorem acm (xs:List Nat) (x:Nat):tI xs++[[.val (.int .i64 (x:Int))]]=tI (xs++[x]):=by simp[tI]
section
variable {τ:sG} {E L:List Nat} {w w':World} {b:Nat} {o:Bool} {vb vt vc vy:Value} {gb gt gc gy:Option Nat} {m:Mk}
def pN (E:List Nat) (b:Nat) (gb gt gy:Option Nat):List Nat:=E++b::(gb.toList++(gt.toList++gy.toList))
theorem xS:x∈pN E b gb gt gy↔x∈E∨x=b∨x∈gb.toList∨x∈gt.toList∨x∈gy.toList:=by simp[pN]
theorem gT.LN (h:gT τ E L w b o vb vt vc vy gb gt gc gy m):bI (pN E b gb gt gy) w vc m.code:=by
 obtain⟨a1,a2,a3,a4,a5,a6⟩:=h.apart
 rcases h.co with⟨_,h1⟩|⟨_,hn,h1⟩
 ·refine h1.rep λx hx hh=>?_
  have uJ:x∈gc.toList:=by simp[hx]
  rw[xS] at hh
  rcases hh with hh|hh|hh|hh|hh
  ·exact(a5 x uJ).1 hh
  ·exact(a5 x uJ).2.1 hh
  ·exact(a5 x uJ).2.2.1 hh
  ·exact(a5 x uJ).2.2.2 hh
  ·exact(a6 x hh).2.2.2.2 uJ
 ·exact h1.fresh λx hx=>.inl (h.mem.2 (by rw[xS] at hx;rcases hx with h|h|h|h|h<;>simp[h]))
theorem gT.RY (h:gT τ E L w b o vb vt vc vy gb gt gc gy m):∀x,x∈pN E b gb gt gy->x∈L:=λx hx=>h.mem.2 (by rw[xS] at hx;rcases hx with h|h|h|h|h<;>simp[h])
theorem gT.acn (h:gT τ E L w b o vb vt vc vy gb gt gc gy m) (hy:eC (gb.toList++(g.toList++pN E b gb gt gy)) w' τ.B 3 v g (bs.map Bk.enc)) (k:ak gb.toList w w') (hg:g=gb∨∃x,g=some x∧w.heap.size<=x):
  ∃L',gT τ E L' w' b false v vt vc vy g gt none gy {m with blocks:=bs}∧Fr L w L' w':=by
 obtain⟨a1,a2,a3,a4,a5,a6⟩:=h.apart
 have kZ:∀x,x∈g.toList->x∈gb.toList∨w.heap.size<=x∧x∉gt.toList∧x∉(none:Option Nat).toList∧x∉gy.toList:=λx hx=>by
  rcases hg with rfl|⟨y,rfl,hy⟩
  ·exact .inl hx
  ·have hx:x=y:=by simpa using hx
   refine .inr ⟨by omega,λhh=>?_,sm,λhh=>?_⟩<;>have:=h.Ic (x:=x) (by simp[hh])<;>omega
 obtain⟨hF,hN⟩:=h.swap k (λx hx=>⟨h.mem.2 (by simp[hx]),(a3 x hx).2,(a3 x hx).1⟩) (gb':=g) (gt':=gt) (gc':=none) (gy':=gy) kZ (λx hx=>.inl hx) (λx hx=>by simp at hx) (λx hx=>.inl hx)
 have hcr:bI (E++b::(g.toList++(gt.toList++((none:Option Nat).toList++gy.toList)))) w' vc m.code:=by
  have h1:bI (pN E b gb gt gy) w' vc m.code:=cD.aL h.LN k λx hx=>xS.2 (by simp[hx])
  have h2:bI (g.toList++pN E b gb gt gy) w' vc m.code:=by
   rcases hg with rfl|⟨y,rfl,hy⟩
   ·exact h1.fresh λx hx=>.inl (by rcases mA.1 hx with h|h;exact xS.2 (by simp[h]);exact h)
   ·exact cD.aL (h.LN.fresh (L':=(some y).toList++pN E b gb gt gy) λx hx=>by
     rcases mA.1 hx with h|h
     ·simp at h;right;omega
     ·exact .inl h) k λx hx=>mR _ (xS.2 (by simp[hx]))
  exact h2.fresh λx hx=>.inl (by
   rw[xR] at hx
   rw[mA,xS]
   rcases hx with h|h|h|h|h|h
   ·simp[h]
   ·simp[h]
   ·simp[h]
   ·simp[h]
   ·simp at h
   ·simp[h])
 refine⟨_,⟨hy.sub λx hx=>.inl ?_,h.ta.aO hF k (λx hx hy=>(a4 x hx).2.2 hy),.inr ⟨rfl,rfl,hcr⟩,h.ty.aO k λx hx hy=>(a6 x (by simp[hx])).2.2.1 hy,rfl,hN,?_⟩,hF⟩
 ·rw[xR] at hx
  rw[mA,mA,xS]
  rcases hx with h|h|h|h|h|h
  ·simp[h]
  ·simp[h]
  ·simp[h]
  ·simp[h]
  ·simp at h
  ·simp[h]
 ·intro x hx
  rw[xR] at hx
  have hs:=k.size
  rcases hx with hx|hx|hx|hx|hx|hx
  ·exact lL (h.cZ x (h.mem.2 (by simp[hx]))) hs
  ·exact lL (h.cZ x (h.mem.2 (by simp[hx]))) hs
  ·exact hy.lt x hx
  ·exact lL (h.cZ x (h.mem.2 (by simp[hx]))) hs
  ·simp at hx
  ·exact lL (h.cZ x (h.mem.2 (by simp[hx]))) hs
theorem gT.Fa (h:gT τ E L w b o vb vt vc vy gb gt gc gy m) {ts:List Tk} (hy:eC (gt.toList++(g.toList++L)) w' τ.T 12 v g (ts.map Tk.enc)) (k:ak gt.toList w w') (hg:g=gt∨∃x,g=some x∧w.heap.size<=x):
  ∃L',gT τ E L' w' b o vb v vc vy gb g gc gy {m with bW:=ts}∧Fr L w L' w':=by
 obtain⟨a1,a2,a3,a4,a5,a6⟩:=h.apart
 have kZ:∀x,x∈g.toList->x∈gt.toList∨w.heap.size<=x∧x∉gb.toList∧x∉gc.toList∧x∉gy.toList:=λx hx=>by
  rcases hg with rfl|⟨y,rfl,hy⟩
  ·exact .inl hx
  ·have hx:x=y:=by simpa using hx
   refine .inr ⟨by omega,λhh=>?_,λhh=>?_,λhh=>?_⟩<;>have:=h.Ic (x:=x) (by simp[hh])<;>omega
 obtain⟨hF,hN⟩:=h.swap k (λx hx=>⟨h.mem.2 (by simp[hx]),(a4 x hx).2.1,(a4 x hx).1⟩) (gb':=gb) (gt':=g) (gc':=gc) (gy':=gy) (λx hx=>.inl hx) kZ (λx hx=>.inl hx) (λx hx=>.inl hx)
 refine⟨_,⟨h.bl.aO hF k (λx hx hy=>(a4 x hy).2.2 hx),hy.sub λx hx=>.inl ?_,?_,h.ty.aO k λx hx hy=>(a6 x (by simp[hx])).2.2.2.1 hy,rfl,hN,?_⟩,hF⟩
 ·rw[xR] at hx
  rw[mA,mA,h.mem]
  rcases hx with h|h|h|h|h|h<;>simp[h]
 ·rcases h.co with⟨ho,h1⟩|⟨ho,hn,h1⟩
  ·exact .inl ⟨ho,h1.aO k λx hx hy=>(a5 x (by simp[hx])).2.2.2 hy⟩
  ·exact .inr ⟨ho,hn,h1.go hF⟩
 ·intro x hx
  rw[xR] at hx
  have hs:=k.size
  rcases hx with hx|hx|hx|hx|hx|hx
  ·exact lL (h.cZ x (h.mem.2 (by simp[hx]))) hs
  ·exact lL (h.cZ x (h.mem.2 (by simp[hx]))) hs
  ·exact lL (h.cZ x (h.mem.2 (by simp[hx]))) hs
  ·exact hy.lt x hx
  ·exact lL (h.cZ x (h.mem.2 (by simp[hx]))) hs
  ·exact lL (h.cZ x (h.mem.2 (by simp[hx]))) hs
theorem gT.num (h:gT τ E L w b o vb vt vc vy gb gt gc gy m) (c:Nat) (q:Bool):gT τ E L w b o vb vt vc vy gb gt gc gy {m with count:=c,wide:=q}:=⟨h.bl,h.ta,h.co,h.ty,h.eL,h.nd,h.cZ⟩
end
theorem Fr.in {G':List Nat} (h:Fr G w G' w') (E:List Nat):Fr (E++G) w (E++G') w':=
 ⟨h.aO.mono λx hx=>mR _ hx,λx hx=>by
  rcases mA.1 hx with hx|hx
  ·exact .inl (List.mem_append_left _ hx)
  ·rcases h.mem x hx with h1|h1
   ·exact .inl (mR _ h1)
   ·exact .inr h1⟩
structure xT where
 M:TypeId
 S:TypeId
 T:TypeId
structure ja (τ:xT) (E G:List Nat) (w:World) (b:Nat) (vt vn ve:Value) (gn ge:Option Nat) (ai aX:List aj) (exprs:List aA):Prop where
 ta:bI (E++G) w vt ai
 na:dh w τ.S vn gn aX
 ex:eC (E++G) w τ.T 2 ve ge (dD exprs)
 eG:G=b::(gn.toList++ge.toList)
 nd:(E++G).Nodup
 cZ:∀x,x∈E++G->x<w.heap.size
section
variable {τ:xT} {E G:List Nat} {w w':World} {b:Nat} {vt vn ve:Value} {gn ge:Option Nat} {ai aX:List aj} {exprs:List aA}
theorem ja.mem (h:ja τ E G w b vt vn ve gn ge ai aX exprs):x∈G↔x=b∨x∈gn.toList∨x∈ge.toList:=by rw[h.eG];simp
theorem ja.apart (h:ja τ E G w b vt vn ve gn ge ai aX exprs):E.Nodup∧b∉E∧(∀x,x∈gn.toList->x∉E∧x≠b)∧(∀x,x∈ge.toList->x∉E∧x≠b∧x∉gn.toList):=by
 have hn:=h.nd
 rw[h.eG,List.nodup_append,List.nodup_cons,List.nodup_append] at hn
 obtain⟨h1,⟨h2,h3,h4,h5⟩,h6⟩:=hn
 refine⟨h1,λhb=>h6 b hb b sm rfl,λx hx=>⟨λhe=>h6 x he x (by simp[hx]) rfl,λe=>h2 (by simp[<-e,hx])⟩,λx hx=>⟨λhe=>h6 x he x (by simp[hx]) rfl,λe=>h2 (by simp[<-e,hx]),λhy=>h5 x hy x hx rfl⟩⟩
theorem RZ {A B:Option Nat} {F:List Nat} {b:Nat} (h1:F.Nodup) (h2:b∉F) (ha:∀x,x∈A.toList->x∉F∧x≠b) (hb:∀x,x∈B.toList->x∉F∧x≠b∧x∉A.toList):(F++b::(A.toList++B.toList)).Nodup:=by
 rw[List.nodup_append,List.nodup_cons,List.nodup_append]
 refine⟨h1,⟨λh=>?_,Ab A,Ab B,λx hx y hy e=>(hb y hy).2.2 (e▸hx)⟩,λx hx y hy e=>?_⟩
 ·rcases mA.1 h with h|h
  ·exact(ha b h).2 rfl
  ·exact(hb b h).2.1 rfl
 ·rcases mC.1 hy with hy|hy
  ·exact h2 (by rw[<-hy,<-e];exact hx)
  ·rcases mA.1 hy with hy|hy
   ·exact(ha y hy).1 (e▸hx)
   ·exact(hb y hy).1 (e▸hx)
theorem ja.R0 (h:ja τ E G w b vt vn ve gn ge ai aX exprs) (hy:dh w' τ.S v g ys) (k:ak gn.toList w w') (hg:g=gn∨g=some w.heap.size):
  ∃G',ja τ E G' w' b vt v ve g ge ai ys exprs∧Fr G w G' w':=by
 obtain⟨a1,a2,a3,a4⟩:=h.apart
 have o8:∀x,x∈g.toList->x∈gn.toList∨x=w.heap.size:=λx hx=>by
  rcases hg with rfl|rfl
  ·exact .inl hx
  ·right;simpa using hx
 have eU:∀x,x∈E++G->x≠w.heap.size:=λx hx e=>by have:=h.cZ x hx;omega
 have hF:Fr G w (b::(g.toList++ge.toList)) w':=⟨k.mono λx hx=>h.mem.2 (by simp[hx]),λx hx=>by
  rcases mC.1 hx with rfl|hx
  ·exact .inl (h.mem.2 (.inl rfl))
  ·rcases mA.1 hx with hx|hx
   ·rcases o8 x hx with h1|h1
    ·exact .inl (h.mem.2 (by simp[h1]))
    ·right;omega
   ·exact .inl (h.mem.2 (by simp[hx]))⟩
 have hN:(E++b::(g.toList++ge.toList)).Nodup:=RZ a1 a2 (λx hx=>by
  rcases o8 x hx with h1|h1
  ·exact a3 x h1
  ·exact⟨λhe=>eU x (by simp[he]) h1,λe=>eU x (mR _ (h.mem.2 (.inl e))) h1⟩) (λx hx=>⟨(a4 x hx).1,(a4 x hx).2.1,λhy=>by
  rcases o8 x hy with h1|h1
  ·exact(a4 x hx).2.2 h1
  ·exact eU x (mR _ (h.mem.2 (by simp[hx]))) h1⟩)
 refine⟨_,⟨h.ta.go (hF.in E),hy,h.ex.aO (hF.in E) k (λx hx hy=>(a4 x hx).2.2 hy),rfl,hN,λx hx=>?_⟩,hF⟩
 have hs:=k.size
 rcases mA.1 hx with hx|hx
 ·exact lL (h.cZ x (by simp[hx])) hs
 ·rcases mC.1 hx with rfl|hx
  ·exact lL (h.cZ x (mR _ (h.mem.2 (.inl rfl)))) hs
  ·rcases mA.1 hx with hx|hx
   ·exact hy.lt x hx
   ·exact lL (h.cZ x (mR _ (h.mem.2 (by simp[hx])))) hs
theorem ja.aO (h:ja τ E G w b vt vn ve gn ge ai aX exprs) {H:List Nat} (k:ak H w w') (hH:∀x,x∈H->x=b):ja τ E G w' b vt vn ve gn ge ai aX exprs:=by
 obtain⟨a1,a2,a3,a4⟩:=h.apart
 have hF:Fr (E++G) w (E++G) w':=Fr.of k λx hx=>mR _ (h.mem.2 (.inl (hH x hx)))
 exact⟨h.ta.go hF,h.na.aO k (λx hx hy=>(a3 x (by simp[hx])).2 (hH x hy)),h.ex.aO hF k (λx hx hy=>(a4 x hx).2.1 (hH x hy)),h.eG,h.nd,λx hx=>lL (h.cZ x hx) k.size⟩
theorem LO {w:World} {T:TypeId} (hx:aY w x #[] T):jX w T sz (.slice (some ⟨x,0,none⟩) 0 0) (some x) 0 []:=⟨by simp,.inr ⟨x,0,#[],rfl,rfl,hx,lR _,by decide,sm,sm⟩⟩
theorem R1 {w:World} {T:TypeId} (hx:aY w x #[] T):dh w T (.slice (some ⟨x,0,none⟩) 0 0) (some x) []:=LO hx
theorem LQ {w:World} {T:TypeId} (hx:aY w x #[] T):eC L w T sz (.slice (some ⟨x,0,none⟩) 0 0) (some x) []:=⟨⟨[],LO hx,trivial⟩,sm⟩
theorem ja.opened (h:ja τ E G w b vt vn ve gn ge ai aX exprs) (k:ak [b] w w') {y:Nat} (hx:aY w' x #[] τ.S) (hy:aY w' y #[] τ.T) (h1:w.heap.size<=x) (h2:x<y):
  ja τ (gn.toList++(ge.toList++E)) (b::[x,y]) w' b vt (.slice (some ⟨x,0,none⟩) 0 0) (.slice (some ⟨y,0,none⟩) 0 0) (some x) (some y) ai [] []∧
   dh w' τ.S vn gn aX∧eC (E++G) w' τ.T 2 ve ge (dD exprs)∧Fr G w (b::[x,y]) w':=by
 obtain⟨a1,a2,a3,a4⟩:=h.apart
 have eU:∀z,z∈E++G->z<w.heap.size:=h.cZ
 have hF:Fr (E++G) w ((gn.toList++(ge.toList++E))++(b::[x,y])) w':=⟨k.mono λz hz=>mR _ (h.mem.2 (.inl (by simpa using hz))),λz hz=>by
  simp only[mA,mC,List.not_mem_nil,or_false] at hz
  rcases hz with(hz|hz|hz)|hz|hz|hz
  ·exact .inl (mR _ (h.mem.2 (.inr (.inl hz))))
  ·exact .inl (mR _ (h.mem.2 (.inr (.inr hz))))
  ·exact .inl (List.mem_append_left _ hz)
  ·exact .inl (mR _ (h.mem.2 (.inl hz)))
  ·right;omega
  ·right;omega⟩
 have tJ:Fr (E++G) w (E++G) w':=Fr.of k λz hz=>mR _ (h.mem.2 (.inl (by simpa using hz)))
 have hb:b<w.heap.size:=eU b (mR _ (h.mem.2 (.inl rfl)))
 have o8:∀z,z∈gn.toList->z<w.heap.size:=λz hz=>eU z (mR _ (h.mem.2 (.inr (.inl hz))))
 have rI:∀z,z∈ge.toList->z<w.heap.size:=λz hz=>eU z (mR _ (h.mem.2 (.inr (.inr hz))))
 have hE:∀z,z∈E->z<w.heap.size:=λz hz=>eU z (List.mem_append_left _ hz)
 refine⟨⟨h.ta.go hF,R1 hx,LQ hy,rfl,?_,?_⟩,h.na.aO k (λz hz hy=>(a3 z (by simp[hz])).2 (by simpa using hy)),h.ex.aO tJ k (λz hz hy=>(a4 z hz).2.1 (by simpa using hy)),⟨k.mono λz hz=>h.mem.2 (.inl (by simpa using hz)),λz hz=>?_⟩⟩
 ·rw[List.nodup_append,List.nodup_append,List.nodup_append]
  refine⟨⟨Ab gn,⟨Ab ge,a1,λp hp q hq e=>(a4 p hp).1 (e▸hq)⟩,λp hp q hq e=>?_⟩,?_,λp hp q hq e=>?_⟩
  ·subst e
   rcases mA.1 hq with hq|hq
   ·exact(a4 p hq).2.2 hp
   ·exact(a3 p hp).1 hq
  ·simp only[List.nodup_cons,mC,List.not_mem_nil,or_false,not_false_eq_true,List.nodup_nil,and_true]
   omega
  ·subst e
   simp only[mC,List.not_mem_nil,or_false] at hq
   simp only[mA] at hp
   rcases hp with hp|hp|hp
   ·rcases hq with hq|hq|hq
    ·exact(a3 p hp).2 hq
    ·have:=o8 p hp;omega
    ·have:=o8 p hp;omega
   ·rcases hq with hq|hq|hq
    ·exact(a4 p hp).2.1 hq
    ·have:=rI p hp;omega
    ·have:=rI p hp;omega
   ·rcases hq with hq|hq|hq
    ·subst hq;exact a2 hp
    ·have:=hE p hp;omega
    ·have:=hE p hp;omega
 ·intro z hz
  simp only[mA,mC,List.not_mem_nil,or_false] at hz
  have hs:=k.size
  rcases hz with(hz|hz|hz)|hz|hz|hz
  ·have:=o8 z hz;omega
  ·have:=rI z hz;omega
  ·have:=hE z hz;omega
  ·omega
  ·rw[hz];exact hx.lt
  ·rw[hz];exact hy.lt
 ·simp only[mC,List.not_mem_nil,or_false] at hz
  rcases hz with hz|hz|hz
  ·exact .inl (h.mem.2 (.inl hz))
  ·right;omega
  ·right;omega
theorem ja.closed {G2:List Nat} {BN vn2 ve2:Value} {gn2 ge2:Option Nat} {acu:List aj} {acv:List aA} (h:ja τ E G w0 b vt vn ve gn ge ai aX exprs) 
  (h2:ja τ (gn.toList++(ge.toList++E)) G2 w b BN vn2 ve2 gn2 ge2 ai acu acv) (hn:dh w τ.S vn gn aX) (he:eC (E++G) w τ.T 2 ve ge (dD exprs)) (hk:Fr G w0 G2 w) (k:ak [b] w w'):
  ja τ E G w' b BN vn ve gn ge ai aX exprs∧Fr G w0 G w':=by
 obtain⟨a1,a2,a3,a4⟩:=h.apart
 have Fp:ak G w w':=k.mono λz hz=>h.mem.2 (.inl (by simpa using hz))
 have tJ:Fr (E++G) w (E++G) w':=Fr.of Fp λz hz=>mR _ hz
 have rP:∀z,z∈E++G->z∈(gn.toList++(ge.toList++E))++G2:=λz hz=>by
  rcases mA.1 hz with hz|hz
  ·simp[hz]
  ·rcases h.mem.1 hz with hz|hz|hz
   ·exact mR _ (h2.mem.2 (.inl hz))
   ·simp[hz]
   ·simp[hz]
 have xU:bI (E++G) w BN ai:=h2.ta.fresh λz hz=>.inl (rP z hz)
 refine⟨⟨xU.go tJ,hn.aO k (λz hz hy=>(a3 z (by simp[hz])).2 (by simpa using hy)),he.aO tJ k (λz hz hy=>(a4 z hz).2.1 (by simpa using hy)),h.eG,h.nd,λz hz=>?_⟩,⟨hk.aO.since Fp λz hz=>.inl hz,λz hz=>.inl hz⟩⟩
 have:=h.cZ z hz
 have h3:=hk.aO.size
 have h4:=k.size
 omega
def m5V (n:Nat) (vt vn ve:Value):List Value:=[vt,.int .i64 (n:Int),vn,ve]
def M5 (τ:xT) (E G:List Nat) (w:World) (b:Nat) (ai:List aj) (n:Nat) (aX:List aj) (exprs:List aA):Prop:=∃vt vn ve gn ge,aY w b (m5V n vt vn ve).toArray τ.M∧ja τ E G w b vt vn ve gn ge ai aX exprs
theorem ja.ext (h:ja τ E G w b vt vn ve gn ge ai aX exprs) (k:ak [] w w'):ja τ E G w' b vt vn ve gn ge ai aX exprs:=h.aO k sm
theorem M5.ext {n:Nat} (h:M5 τ E G w b ai n aX exprs) (k:ak [] w w'):M5 τ E G w' b ai n aX exprs:=by
 obtain⟨vt,vn,ve,gn,ge,h1,h2⟩:=h
 exact⟨vt,vn,ve,gn,ge,h1.aO k sm,h2.ext k⟩
end
inductive It where
 |v (V:Value)
 |p (f:Value->World->Prop)
def It.F:It->Value->World->Prop
 | .v V=>λv _=>v=V
 | .p f=>f
def It.Ih:It->Bool
 | .v _=>true
 | .p _=>false
def dq (its:List It) (ds:List Nat) (w:World):List Nat->(List (Nat×Value)->Prop)->Prop
 |[],k=>k []
 |j::r,k=>match its.getD j (.p λ_ _=>True) with
  | .v V=>dq its ds w r λacc=>k ((ds.getD j 0,V)::acc)
  | .p f=>∀v,f v w->dq its ds w r λacc=>k ((ds.getD j 0,v)::acc)
theorem Ii {its:List It} {ds:List Nat} {vs:Nat->Value}:∀{deps:List Nat} {k:List (Nat×Value)->Prop},dq its ds w deps k->(∀j,j∈deps->qd (its.map It.F) j (vs j) w)->k (tm ds vs deps)
 |[],k,h,_=>h
 |j::r,k,h,hd=>by
  have hj:=hd j (List.mem_cons_self ..)
  unfold dq at h
  have hp:((its.getD j (.p λ_ _=>True)).F) (vs j) w:=by
   unfold qd at hj
   rw[gG] at hj⊢
   rw[List.getElem?_map] at hj
   cases e:its[j]? with
   |none=>trivial
   |some q=>rw[e] at hj;exact hj
  cases e:its.getD j (.p λ_ _=>True) with
  |v V=>
   rw[e] at h hp
   have hv:vs j=V:=hp
   subst hv
   exact Ii (deps:=r) h λi hi=>hd i (mK _ hi)
  |p f=>
   rw[e] at h hp
   exact Ii (deps:=r) (h _ hp) λi hi=>hd i (mK _ hi)
theorem R2 {F:List (Value->World->Prop)} {vs:Nat->Value}:∀{l:List Nat},Hs F vs w l->∀j,j∈l->qd F j (vs j) w
 |[],_,j,h=>by cases h
 |[i],h,j,hj=>by rw[List.mem_singleton] at hj;subst hj;exact h
 |i::a::l,h,j,hj=>by
  rcases mC.1 hj with e|hj
  ·subst e;exact h.1
  ·exact R2 h.2 j hj
def Ij (P:Program) (n:Nat) (ops:Array Oper) (W ds:List Nat) (its:List It) (e0:Env) (w0:World) (k:Nat) (o:Oper) (deps:List Nat):Prop:=
 ∀(x:Env) (w:World),ak [] w0 w->dq its ds w deps λacc=>OW P n ops (λe' w'=>ak [] w w'∧(its.getD k (.p λ_ _=>True)).F (e' (ds.getD k 0)) w'∧gm [ds.getD k 0] (aM (aN W x e0) acc) e') [o] (aM (aN W x e0) acc) w
def tK (P:Program) (n:Nat) (ops:Array Oper) (W ds:List Nat) (its:List It) (e0:Env) (w0:World):Nat->List Oper->List (List Nat)->Prop
 |_,[],_=>True
 |_,_::_,[]=>True
 |k,o::l,d::r=>Ij P n ops W ds its e0 w0 k o d∧tK P n ops W ds its e0 w0 (k+1) l r
theorem vc {n:Nat} {ds:List Nat} {its:List It} {d:List Nat} {r:List (List Nat)} (h:Ij P n ops W ds its e0 w0 k o d) (hr:tK P n ops W ds its e0 w0 (k+1) l r):tK P n ops W ds its e0 w0 k (o::l) (d::r):=⟨h,hr⟩
theorem R3 {n:Nat} {ds:List Nat} {its:List It}:∀(l:List Oper) (deps:List (List Nat)) (k:Nat),tK P n ops W ds its e0 w0 k l deps->Bb (ak []) P n ops W ds (its.map It.F) e0 w0 k l deps
 |[],_,_,_=>trivial
 |_::_,[],_,_=>trivial
 |o::l,d::r,k,h=>by
  refine⟨λx vs w e hk hd he=>?_,R3 l r (k+1) h.2⟩
  have:=Ii (h.1 x w hk) (vs:=vs) (R2 hd)
  subst he
  have e2:qd (its.map It.F) k=(its.getD k (.p λ_ _=>True)).F:=by
   unfold qd
   rw[gG,gG,List.getElem?_map]
   cases its[k]?<;>rfl
  rw[e2]
  exact this
def Fq:List It->Prop
 |[]=>True
 | .v _::r=>Fq r
 | .p f::r=>(∀v w w',f v w->ak [] w w'->f v w')∧Fq r
theorem LR:∀{its:List It},Fq its->tn (ak []) (its.map It.F)
 |[],_=>trivial
 | .v _::r,h=>⟨λv w w' e _=>e,LR (its:=r) h⟩
 | .p f::r,h=>⟨h.1,LR (its:=r) h.2⟩
theorem R4:∀{its:List It},its.all It.Ih=true->Fq its
 |[],_=>trivial
 | .v _::r,h=>R4 (its:=r) (by simpa[It.Ih] using h)
 | .p f::r,h=>by simp[It.Ih] at h
section
variable {P:Program} {n:Nat} {l:List Oper} {m:Nat} {W ds:List Nat} {deps:List (List Nat)}
theorem wv {N R:Env->World->Prop} {X:Nat->Env->World->Prop} {id:Nat} {e0:Env} {w0:World} (hm:P.follows .mixedOrders=true) (m:Nat) (W ds:List Nat) (deps:List (List Nat)) (its:List It) 
  (hB:vU l m W ds deps=true) (hS:Fq its)
  (hc:∀wd,ak [] w0 wd->tK P n l.toArray W ds its e0 wd 0 (l.take m) deps)
  (ht:∀(x:Env) (w:World),ak [] w0 w->dq its ds w (List.range m) λacc=>OW P n l.toArray N (l.drop m) (aM (aN W x e0) acc) w):
  CW P n (.region id l.toArray true) N R X e0 w0:=
 qf hm aS m W ds deps (its.map It.F) hB (LR hS) (λwd hk=>R3 _ _ _ (hc wd hk)) λx vs w hk Kk=>
  Ii (ht x w hk) (vs:=vs) λj hj=>Kk j (List.mem_range.1 hj)
theorem mq {N R:Env->World->Prop} {X:Nat->Env->World->Prop} {id:Nat} {e0:Env} {w0:World} (hm:P.follows .mixedOrders=true) (m:Nat) (W ds:List Nat) (deps:List (List Nat)) (its:List It) 
  (hB:vU l m W ds deps=true) (hS:its.all It.Ih=true)
  (hc:∀wd,ak [] w0 wd->tK P n l.toArray W ds its e0 wd 0 (l.take m) deps)
  (ht:∀(x:Env) (w:World),ak [] w0 w->dq its ds w (List.range m) λacc=>OW P n l.toArray N (l.drop m) (aM (aN W x e0) acc) w):
  CW P n (.region id l.toArray true) N R X e0 w0:=wv hm m W ds deps its hB (R4 hS) hc ht
end
section
variable {P:Program} {n:Nat} {ops:Array Oper} {e:Env} {w w':World}
theorem pv {V:Value} (h:v=V:=by rfl):OW P n ops (λe' w'=>ak [] w w'∧(It.v V).F (e' d) w'∧gm [d] e e') [] (cO e (some d) v) w:=
 ag ⟨ak.refl _ _,by subst h;exact nH _ _ _,qL⟩
theorem pk {V:Value} (k:ak [] w w') (h:v=V:=by rfl):OW P n ops (λe' w'=>ak [] w w'∧(It.v V).F (e' d) w'∧gm [d] e e') [] (cO e (some d) v) w':=
 ag ⟨k,by subst h;exact nH _ _ _,qL⟩
theorem pf {f:Value->World->Prop} (k:ak [] w w') (h:f v w'):OW P n ops (λe' w'=>ak [] w w'∧(It.p f).F (e' d) w'∧gm [d] e e') [] (cO e (some d) v) w':=
 ag ⟨k,by show f (kI e d v d) w';rw[nH];exact h,qL⟩
end
theorem vk {n:Nat} {ds:List Nat} {its:List It} {wz:World} {d:List Nat} {r:List (List Nat)} (aB:ak [] wz w0) (h:∀(x:Env) (w:World),ak [] wz w->dq its ds w d λacc=>OW P n ops (λe' w'=>ak [] w w'∧(its.getD k (.p λ_ _=>True)).F (e' (ds.getD k 0)) w'∧gm [ds.getD k 0] (aM (aN W x e0) acc) e') [o] (aM (aN W x e0) acc) w) (hr:tK P n ops W ds its e0 w0 (k+1) l r):tK P n ops W ds its e0 w0 k (o::l) (d::r):=vc (λx w hk=>h x w (ak.trans aB hk)) hr
theorem eI {n:Nat} {ds:List Nat} {its:List It} {d:List Nat} {r:List (List Nat)} (hr:tK P n ops W ds its e0 w0 (k+1) l r) (h:Ij P n ops W ds its e0 w0 k o d:=by exact λ_ _ _=>zm pv):tK P n ops W ds its e0 w0 k (o::l) (d::r):=⟨h,hr⟩
theorem vcs {n:Nat} {ds:List Nat} {its:List It} {d:List Nat} {r:List (List Nat)} (hr:tK P n ops W ds its e0 w0 (k+1) l r) (h:Ij P n ops W ds its e0 w0 k o d:=by exact λ_ _ _=>J6 rfl rfl pv):tK P n ops W ds its e0 w0 k (o::l) (d::r):=⟨h,hr⟩
end Go.Proofs.YtigijcjccmdmhaaGreatDoor
