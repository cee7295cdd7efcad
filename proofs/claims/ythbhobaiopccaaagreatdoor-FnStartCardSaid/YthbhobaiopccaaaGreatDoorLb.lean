/- Lemmas for the law FnStart, no statement of their own: no conditions. -/
import Derived.Test.YthbhobaiopccaaaGreatDoorLa
import Derived.KernelRfl
import Derived.Lib.Atoi
import Derived.Lib.Strings
import Derived.Test.YthbhobaiopccaaaGreatDoorProg
set_option maxHeartbeats 4000000
set_option linter.unusedVariables false
set_option linter.unusedSimpArgs false
namespace Go.Proofs.YthbhobaiopccaaaGreatDoor
open Go
variable {B E bytes d i k n1 n2 sz:Nat} {L L':List Nat} {w w':World} {v z:Value} {g:Option Nat} {rows:List (List C)} {b:Bk} {ps ts:List au} {P:Program} {bs:List Bk} {xs:List ai} {p t:au} {h l r s x:ai} {a c:Prop}
structure Gr (B:Nat) (L:List Nat) (w:World) (T:TypeId) (sz:Nat) (v:Value) (g:Option Nat) (rows:List (List C)):Prop where
 own:∃xs,gP L w T sz v g rows xs
 low:∀b,g=some b->B<=b
 cD:∀x,x∈L->x<w.heap.size
 bsz:B<=w.heap.size
theorem Gr.nil {T:TypeId} (hL:∀x,x∈L->x<w.heap.size) (hB:B<=w.heap.size):Gr B L w T sz (.slice none 0 0) none []:=
 ⟨⟨[],gP.nil _ _ _ _⟩,sm,hL,hB⟩
theorem Gr.aG {T:TypeId} (h:Gr B L w T sz v g rows) (k:aj L' w w') (hL:∀x,x∈L'->x∈L):Gr B L w' T sz v g rows:=
 ⟨h.own.imp λ_ h=>h.aG k hL,h.low,λx hx=>lL (h.cD x hx) k.size,Nat.le_trans h.bsz k.size⟩
theorem Gr.ext {T:TypeId} (h:Gr B L w T sz v g rows) (k:aj [] w w'):Gr B L w' T sz v g rows:=h.aG k sm
theorem Gr.aD {T:TypeId} (h:Gr B L w T sz v g rows) (k:aj L' w w') (hL:∀x,x∈L'->x∈L):Gr B L w' T sz v g rows:=h.aG k hL
theorem Gr.alloc {T:TypeId} (h:Gr B L w T sz v g rows) (k:aj [] w w') (hz:w'.heap.size=w.heap.size+1):Gr B (w.heap.size::L) w' T sz v g rows:=
 ⟨h.own.imp λ_ h=>(h.more xq).aG k sm,h.low,λx hx=>by rcases mC.1 hx with rfl|hx;omega;have:=h.cD x hx;omega,Nat.le_trans h.bsz k.size⟩
theorem Gr.iF {T:TypeId} (h:Gr B L w T sz v g rows) (hL:∀x,x∈L'->x∈L):Gr B L' w T sz v g rows:=
 ⟨h.own.imp λ_ h=>h.more λx hx=>.inl (hL x hx),h.low,λx hx=>h.cD x (hL x hx),h.bsz⟩
theorem Gr.done {T:TypeId} (h:Gr B L w T sz v g rows):bN L w v (.sl sz rows):=by
 obtain⟨_,h⟩:=h.own;exact h.done
theorem Gr.Dw {T:TypeId} (h:Gr B L w T sz v g rows) {b:Nat} (hb:b∈L):b∉g.toList:=by
 obtain⟨_,h⟩:=h.own;exact h.sep hb
theorem Gr.Qu {T:TypeId} (h:Gr B L w T sz v g rows) {b:Nat} (hb:b<B):b∉g.toList:=by
 intro hx;have:=h.low b (by simpa using hx);omega
theorem Gr.lt {T:TypeId} (h:Gr B L w T sz v g rows):∀x,x∈g.toList->x<w.heap.size:=by
 obtain⟨_,h⟩:=h.own;intro x hx;exact h.own.lt x (by simpa using hx)
theorem Gr.all {T:TypeId} (h:Gr B L w T sz v g rows):∀x,x∈g.toList++L->x<w.heap.size:=by
 intro x hx
 rcases mA.1 hx with hx|hx
 ·exact h.lt x hx
 ·exact h.cD x hx
theorem Gr.since {w0:World} {T:TypeId} (h:Gr w0.heap.size L w T sz v g rows) (k0:aj L' w0 w) (k:aj g.toList w w'):aj L' w0 w':=
 k0.since k λx hx=>.inr (h.low x (by simpa using hx))
theorem aj.Qv {w0:World} (hB:w0.heap.size<=B) (hl:∀b,g=some b->B<=b) (k0:aj L' w0 w) (k:aj g.toList w w'):aj L' w0 w':=
 k0.since k λx hx=>.inr (Nat.le_trans hB (hl x (by simpa using hx)))
section
variable {P:Program} {n:Nat} {ops:Array Oper} {K:Env->World->Prop} {rest:List Oper} {e:Env} {w:World}
 {dst:Option Nat} {ty:TypeId} {pos:String} {after:Array Edge} {g:Option (Nat×Bool)} {x y:Operand}
theorem Fu {B:Nat} {L:List Nat} {t:Nat} {v:Value} {gb:Option Nat} {rows:List (List C)} {row:List C} {news:List Value} {b U:Nat} (hT:P.underlying t=some (.slice E)) (hE:TI P E sz bytes z) (hg:gate ops e g=true) (hd:cm n dst=true) (hz:Nat.beq z.cells.size sz=true) (gj:Nat.ble bytes 1000=true) 
  (hx:ev e x=v) (hy:ev e y= .slice (some ⟨b,0,none⟩) 1 1) (hO:Gr B L w E sz v gb rows) (hb:aJ w b news.toArray U) (gY:row.length=sz) (h1:news.all Value.oneCell'=true)
  (hr:cW (gb.toList++L) w news row) (hn:rows.length<100000000)
  (k:∀a' cap' g' w',Gr B L w' E sz (.slice a' (rows.length+1) cap') g' (rows++[row])->aj gb.toList w w'->OW P n ops K rest (bQ e dst (.slice a' (rows.length+1) cap')) w'):
  OW P n ops K (⟨dst,.call {callee:=.builtin .append,args:=#[x,y],argTypes:=#[t,t]},ty,pos,after,g⟩::rest) e w:=by
 obtain⟨xs,hR⟩:=hO.own
 have Bw:bytes<=1000:=Nat.le_of_ble_eq_true gj
 refine Qn hT hE hg hd hz hx hy hR gY hb.all (λu hu=>List.all_eq_true.1 h1 u hu) hr hO.cD (Nat.le_trans (Nat.mul_le_mul (show rows.length+1<=100000000 by omega) (show bytes+1<=1001 by omega)) de) ?_
 intro a' cap' g' w' jO hk ky
 refine k a' cap' g' w' ⟨⟨_,jO⟩,λb hb=>?_,λx hx=>lL (hO.cD x hx) hk.size,Nat.le_trans hO.bsz hk.size⟩ hk
 rcases ky with h|h
 ·rw[h] at hb;exact hO.low b hb
 ·rw[h] at hb;cases hb;exact hO.bsz
theorem K9 {B:Nat} {L:List Nat} {t:Nat} {v u1 u2:Value} {gb:Option Nat} {ts:List au} {f:au} {b U:Nat} (hT:P.underlying t=some (.slice E)) (hE:TI P E 2 bytes z) (hg:gate ops e g=true) (hd:cm n dst=true) (hz:Nat.beq z.cells.size 2=true) (gj:Nat.ble bytes 1000=true) 
  (hx:ev e x=v) (hy:ev e y= .slice (some ⟨b,0,none⟩) 1 1) (hO:Gr B L w E 2 v gb (cX ts)) (hb:aJ w b [u1,u2].toArray U)
  (hr:bC (gb.toList++L) w (.agg #[u1,u2]) f) (hn:ts.length<100000000)
  (k:∀a' cap' g' w',Gr B L w' E 2 (.slice a' (ts++[f]).length cap') g' (cX (ts++[f]))->aj gb.toList w w'->OW P n ops K rest (bQ e dst (.slice a' (ts++[f]).length cap')) w'):
  OW P n ops K (⟨dst,.call {callee:=.builtin .append,args:=#[x,y],argTypes:=#[t,t]},ty,pos,after,g⟩::rest) e w:=by
 refine Fu hT hE hg hd hz gj hx hy hO hb (oG f) ?_ hr.ko (by rw[gZ];exact hn) ?_
 ·rw[List.all_eq_true]
  refine λu hu=>cW.Fq hr.ko (λc hc v hv=>?_) u hu
  cases f;rw[au.enc] at hc
  simp only[mC,List.not_mem_nil,or_false] at hc
  rcases hc with h|h
  ·rw[h] at hv;cases hv;rfl
  ·rw[h] at hv;cases hv
 ·intro a' cap' g' w' jO hk
  have e1:(cX ts).length+1=(ts++[f]).length:=by simp[gZ]
  have e2:cX ts++[f.enc]=cX (ts++[f]):=by simp[K6,cX]
  rw[e1] at jO⊢
  rw[e2] at jO
  exact k a' cap' g' w' jO hk
end
theorem Qw {P:Program} {T:Nat} (hT:P.underlying T=some (.slice E)) (hE:TI P E sz bytes z):(Instr.buildSlice T 0 #[]).run P w= .ok (.slice (some ⟨w.heap.size,0,none⟩) 0 0) (w.alloc (.cells #[] E)):=by
 simp[Instr.buildSlice,Sem.run_bind,run_underlying hT,Result.andThen_ok,hE.sZ,Instr.fill,newRow];congr 2;apply Array.ext<;>simp
theorem xw {P:Program} {n:Nat} {ops:Array Oper} {K:Env->World->Prop} {rest:List Oper} {e:Env} {w:World} {dst:Option Nat} {ty:TypeId} {pos:String} {after:Array Edge} {g:Option (Nat×Bool)} 
  {T E sz bytes:Nat} {z:Value} (B:Nat) (L:List Nat) (hT:P.underlying T=some (.slice E)) (hE:TI P E sz bytes z) (hg:gate ops e g=true) (hd:cm n dst=true) (hB:B<=w.heap.size) (hL:∀x,x∈L->x<w.heap.size)
  (k:∀w',aj [] w w'->w'.heap.size=w.heap.size+1->Gr B L w' E sz (.slice (some ⟨w.heap.size,0,none⟩) 0 0) (some w.heap.size) []->OW P n ops K rest (bQ e dst (.slice (some ⟨w.heap.size,0,none⟩) 0 0)) w'):
  OW P n ops K (⟨dst,.buildSlice T 0 #[],ty,pos,after,g⟩::rest) e w:=
 eX hg hd (w':=w.alloc (.cells #[] E)) (by simp[execOp,Qw (P:=P) (w:=w) hT hE])
  (k _ (aj.alloc _ _ _) sm ⟨⟨[],⟨by simp,.inr ⟨w.heap.size,0,#[],rfl,rfl,aJ.alloc _ _ _,lR _,by decide,sm,sm⟩⟩,trivial,sm,by intro b hb hx;cases hb;have:=hL _ hx;omega⟩,
   by intro b hb;cases hb;exact hB,λx hx=>by have:=hL x hx;simp;omega,by simp;omega⟩)
theorem qC.ko {x y:Value} (h:qC L w (.agg #[x,y,z]) b):cW L w [x,y,z] b.enc:=by
 obtain⟨vs,he,hr⟩:=h
 have hv:vs=[x,y,z]:=by
  have:=congrArg (λv=>match v with|Value.agg x=>x.toList|_=>[]) he
  simpa using this.symm
 rw[<-hv];exact hr
theorem Qx {P:Program} {n:Nat} {ops:Array Oper} {K:Env->World->Prop} {rest:List Oper} {e:Env} {w:World} {dst:Option Nat} {ty:TypeId} {pos:String} {after:Array Edge} {g:Option (Nat×Bool)} {x y:Operand} 
  {B:Nat} {L:List Nat} {t E bytes:Nat} {z:Value} {v u1 u2 u3:Value} {gb:Option Nat} {ts:List Bk} {f:Bk} {b U:Nat} (hT:P.underlying t=some (.slice E)) (hE:TI P E 3 bytes z) (hg:gate ops e g=true) (hd:cm n dst=true) (hz:Nat.beq z.cells.size 3=true) (gj:Nat.ble bytes 1000=true)
  (hx:ev e x=v) (hy:ev e y= .slice (some ⟨b,0,none⟩) 1 1) (hO:Gr B L w E 3 v gb (ts.map Bk.enc)) (hb:aJ w b [u1,u2,u3].toArray U)
  (hr:qC (gb.toList++L) w (.agg #[u1,u2,u3]) f) (hn:ts.length<100000000)
  (k:∀a' cap' g' w',Gr B L w' E 3 (.slice a' (ts++[f]).length cap') g' ((ts++[f]).map Bk.enc)->aj gb.toList w w'->OW P n ops K rest (bQ e dst (.slice a' (ts++[f]).length cap')) w'):
  OW P n ops K (⟨dst,.call {callee:=.builtin .append,args:=#[x,y],argTypes:=#[t,t]},ty,pos,after,g⟩::rest) e w:=by
 refine Fu hT hE hg hd hz gj hx hy hO hb rfl ?_ hr.ko (by simpa using hn) ?_
 ·rw[List.all_eq_true]
  refine λu hu=>cW.Fq hr.ko (λc hc v hv=>?_) u hu
  rw[Bk.enc] at hc
  simp only[mC,List.not_mem_nil,or_false] at hc
  rcases hc with h|h|h
  ·rw[h] at hv;cases hv;rfl
  ·rw[h] at hv;cases hv
  ·rw[h] at hv;cases hv
 ·intro a' cap' g' w' jO hk
  have e1:(ts.map Bk.enc).length+1=(ts++[f]).length:=by simp
  have e2:ts.map Bk.enc++[f.enc]=(ts++[f]).map Bk.enc:=by simp
  rw[e1] at jO⊢
  rw[e2] at jO
  exact k a' cap' g' w' jO hk
theorem Gr.vK {T:TypeId} (h:Gr B L w T 3 v g (bs.map Bk.enc)):nj L w v bs:=h.done
/-! ### Owned lists of texts,owned programs -/
def cz (w:World) (T:TypeId) (v:Value) (g:Option Nat) (xs:List ai):Prop:=iE w T 1 v g xs.length (xs.map λx=>str x)
theorem Qy:∀{xs:List ai} {vs:List Value},cW L w vs (il xs).flatten->vs=xs.map λx=>str x
 |[],vs,h=>by
  cases vs with
  |nil=>rfl
  |cons v vs=>exact h.elim
 |x::xs,vs,h=>by
  cases vs with
  |nil=>exact h.elim
  |cons v vs=>
   obtain⟨h1,h2⟩:=h
   cases h1
   rw[List.map_cons,<-Qy (xs:=xs) h2]
theorem Qz:∀xs:List ai,cW L w (xs.map λx=>str x) (il xs).flatten
 |[]=>trivial
 |_::xs=>⟨.val _,Qz xs⟩
theorem Gr.se {T:TypeId} (h:Gr B L w T 1 v g (il xs)):cz w T v g xs:=by
 obtain⟨vs,h⟩:=h.own
 have:=h.own
 rw[Qy h.rep,qB] at this
 exact this
theorem cz.Y8 {T:TypeId} (h:cz w T v g xs) (hL:∀b,g=some b->b∉L):gP L w T 1 v g (il xs) (xs.map λx=>str x):=
 ⟨by rw[qB];exact h,Qz xs,by intro row hr;simp[il] at hr;obtain⟨_,_,rfl⟩:=hr;rfl,hL⟩
theorem cz.rep {T:TypeId} (h:cz w T v g xs) (hL:∀b,g=some b->b∉L):bc L w v xs:=(h.Y8 hL).done
theorem cz.aG {T:TypeId} (h:cz w T v g xs) (k:aj L w w') (hL:∀b,g=some b->b∉L):cz w' T v g xs:=iE.aG h k hL
theorem cz.ext {T:TypeId} (h:cz w T v g xs) (k:aj [] w w'):cz w' T v g xs:=h.aG k sm
theorem cz.nil {T:TypeId}:cz w T (.slice none 0 0) none []:=iE.nil _ _ _
def p4 (w:World) (T:TypeId) (gs:Option Nat×Option Nat) (vs:List Value) (b:Bk):Prop:=
 ∃v1 v2,vs=[str b.aM,v1,v2]∧cz w T v1 gs.1 b.ck∧cz w T v2 gs.2 b.code
def iX (gs:Option Nat×Option Nat):List Nat:=gs.1.toList++gs.2.toList
def gA (gss:List (Option Nat×Option Nat)):List Nat:=gss.flatMap iX
theorem p4.aG {T:TypeId} {gs:Option Nat×Option Nat} {vs:List Value} (h:p4 w T gs vs b) (k:aj L w w') (hL:∀x,x∈iX gs->x∉L):p4 w' T gs vs b:=by
 obtain⟨v1,v2,e,h1,h2⟩:=h
 exact⟨v1,v2,e,h1.aG k (λb hb=>hL b (by simp[iX,hb])),h2.aG k (λb hb=>hL b (by simp[iX,hb]))⟩
def iR (w:World) (T:TypeId):List (Option Nat×Option Nat)->List (List Value)->List Bk->Prop
 |[],[],[]=>True
 |g::gs,v::vs,b::bs=>p4 w T g v b∧iR w T gs vs bs
 |_,_,_=>False
theorem iR.aG {T:TypeId} (k:aj L w w'):∀{gss:List (Option Nat×Option Nat)} {vss:List (List Value)} {bs:List Bk},iR w T gss vss bs->(∀x,x∈gA gss->x∉L)->iR w' T gss vss bs
 |[],[],[],_,_=>trivial
 |g::gs,v::vs,b::bs,h,hL=>⟨h.1.aG k (λx hx=>hL x (by simp[gA,hx])),iR.aG k h.2 (λx hx=>hL x (by simp[gA] at hx⊢;exact .inr hx))⟩
theorem iR.snoc {T:TypeId}:∀{gss:List (Option Nat×Option Nat)} {vss:List (List Value)} {bs:List Bk} {g:Option Nat×Option Nat} {v:List Value} {b:Bk},iR w T gss vss bs->p4 w T g v b->iR w T (gss++[g]) (vss++[v]) (bs++[b])
 |[],[],[],_,_,_,_,h=>⟨h,trivial⟩
 |_::_,_::_,_::_,_,_,_,h,k=>⟨h.1,iR.snoc h.2 k⟩
theorem iR.lens {T:TypeId}:∀{gss:List (Option Nat×Option Nat)} {vss:List (List Value)} {bs:List Bk},iR w T gss vss bs->gss.length=bs.length∧vss.length=bs.length∧∀row,row∈vss->row.length=3
 |[],[],[],_=>by simp
 |g::gs,v::vs,b::bs,h=>by
  obtain⟨h1,h2,h3⟩:=iR.lens h.2
  refine⟨by simp[h1],by simp[h2],λrow hr=>?_⟩
  rcases mC.1 hr with rfl|hr
  ·obtain⟨v1,v2,rfl,_⟩:=h.1;rfl
  ·exact h3 row hr
theorem iR.get {T:TypeId}:∀{gss:List (Option Nat×Option Nat)} {vss:List (List Value)} {bs:List Bk},iR w T gss vss bs->∀{i:Nat} {b:Bk},bs[i]?=some b->∃g v,gss[i]?=some g∧vss[i]?=some v∧p4 w T g v b
 |_::_,_::_,_::_,h,0,b,hb=>by simp at hb;subst hb;exact⟨_,_,rfl,rfl,h.1⟩
 |_::gs,_::vs,_::bs,h,i+1,b,hb=>by
  obtain⟨g,v,h1,h2,h3⟩:=iR.get h.2 (i:=i) (by simpa using hb)
  exact⟨g,v,by simpa using h1,by simpa using h2,h3⟩
 |[],[],[],_,i,b,hb=>by simp at hb
theorem iR.Bx {T:TypeId}:∀{gss:List (Option Nat×Option Nat)} {vss:List (List Value)} {bs:List Bk},iR w T gss vss bs->(∀x,x∈gA gss->x∉L)->cW L w vss.flatten (bs.map Bk.enc).flatten
 |[],[],[],_,_=>trivial
 |g::gs,v::vs,b::bs,h,hL=>by
  obtain⟨v1,v2,rfl,h1,h2⟩:=h.1
  refine⟨.val _,h1.rep (λb hb=>hL b (by simp[gA,iX,hb])),h2.rep (λb hb=>hL b (by simp[gA,iX,hb])),?_⟩
  exact iR.Bx h.2 (λx hx=>hL x (by simp[gA] at hx⊢;exact .inr hx))
structure lX (w:World) (TB TS:TypeId) (v:Value) (g:Option Nat) (gss:List (Option Nat×Option Nat)) (vss:List (List Value)) (bs:List Bk):Prop where
 own:iE w TB 3 v g bs.length vss.flatten
 rows:iR w TS gss vss bs
 nodup:(g.toList++gA gss).Nodup
 lt:∀x,x∈gA gss->x<w.heap.size
theorem lX.aG {TB TS:TypeId} {gss:List (Option Nat×Option Nat)} {vss:List (List Value)} (h:lX w TB TS v g gss vss bs) (k:aj L w w') (hL:∀x,x∈g.toList++gA gss->x∉L):lX w' TB TS v g gss vss bs:=
 ⟨h.own.aG k (λb hb=>hL b (by simp[hb])),h.rows.aG k (λx hx=>hL x (by simp[hx])),h.nodup,λx hx=>lL (h.lt x hx) k.size⟩
theorem lX.ext {TB TS:TypeId} {gss:List (Option Nat×Option Nat)} {vss:List (List Value)} (h:lX w TB TS v g gss vss bs) (k:aj [] w w'):lX w' TB TS v g gss vss bs:=h.aG k sm
theorem bC.Lc {A B:List Nat} {b:Nat} (h:bC (b::(A++B)) w v t):bC (A++(b::B)) w v t:=j1.fresh h λx hx=>.inl (Qk x hx)
theorem bC.iF (h:bC L w v t) (hL:∀x,x∈L'->x∈L):bC L' w v t:=j1.fresh h λx hx=>.inl (hL x hx)
theorem ek.iF {t:List au} (h:ek L w v t) (hL:∀x,x∈L'->x∈L):ek L' w v t:=bN.fresh h λx hx=>.inl (hL x hx)
theorem Gr.trees {T:TypeId} (h:Gr B L w T 2 v g (cX ts)):ek L w v ts:=h.done
def gV (c:UInt8):Bool:=48<=c&&c<=57
theorem By (c:UInt8):gV c=true↔48<=c.toNat∧c.toNat<=57:=by
 simp[gV,UInt8.le_iff_toNat_le]
def qD (s:ai):Int:=if 0<s.length∧s.getD 0 0=45 then -1 else 1
def ei (s:ai):ai:=if 0<s.length∧s.getD 0 0=45 then s.drop 1 else s
def val (ds:ai):Nat:=ds.foldl (λn c=>10*n+(c.toNat-48)) 0
def numeral (s:ai):Option Int:=
 if s=[48] then some 0
 else if(ei s).length<1∨3<(ei s).length∨(ei s).getD 0 0=48 then none
 else if(ei s).all gV=true then some (qD s*val (ei s)) else none
theorem QA (ds:ai) (c:UInt8):val (ds++[c])=10*val ds+(c.toNat-48):=by simp[val]
theorem QB:∀(ds:ai),ds.all gV=true->val ds<10^ds.length:=by
 intro ds
 have key:∀(l:ai) (n k:Nat),l.all gV=true->n<10^k->l.foldl (λn c=>10*n+(c.toNat-48)) n<10^(k+l.length):=by
  intro l
  induction l with
  |nil=>intro n k _ h;simpa using h
  |cons c l ih=>
   intro n k hl h
   simp only[List.all_cons,aE] at hl
   have hc:=(By c).1 hl.1
   simp only[List.foldl_cons,lC]
   have:=ih (10*n+(c.toNat-48)) (k+1) hl.2 (by rw[Nat.pow_succ];omega)
   rw[show k+(l.length+1)=k+1+l.length from by omega];exact this
 intro h
 have:=key ds 0 0 h sm
 simpa[val] using this
theorem Ld (h:k<s.length):s.take (k+1)=s.take k++[s.getD k 0]:=by simp_all
def cg (t:au):ai:=if t.aw≠[]∨t.ak=[] then[] else match t.ak with
 |[]=>[]
 |p::_=>p.aw
def QC (c:UInt8):Bool:=97<=c&&c<=122
def Bz (s:ai) (i:Nat):Bool:=QC (s.getD i 0)||(decide (0<i)&&gV (s.getD i 0))
def nk (s:ai):Bool:=(List.range s.length).all (Bz s)&&decide (s≠[])
theorem Fw (k c:UInt8):decide ((k.toNat:Int)<=c.toNat)=decide (k<=c):=by simp[UInt8.le_iff_toNat_le]
theorem QD (k c:UInt8):decide ((c.toNat:Int)=k.toNat)=(c==k):=by
 rw[Bool.eq_iff_iff];simp[<-UInt8.toNat_inj];omega
theorem Ig (s:ai) (k:Nat):((decide ((97:Int)<=(s.getD k 0).toNat)&&decide (((s.getD k 0).toNat:Int)<=122))||((decide ((0:Int)<(k:Int))&&decide ((48:Int)<=(s.getD k 0).toNat))&&decide (((s.getD k 0).toNat:Int)<=57)))=Bz s k:=by
 have a:=Fw 97 (s.getD k 0)
 have b:=Fw (s.getD k 0) 122
 have c:=Fw 48 (s.getD k 0)
 have d:=Fw (s.getD k 0) 57
 simp only[show((97:UInt8).toNat:Int)=97 from rfl,show((122:UInt8).toNat:Int)=122 from rfl,show((48:UInt8).toNat:Int)=48 from rfl,show((57:UInt8).toNat:Int)=57 from rfl] at a b c d
 rw[a,b,c,d]
 unfold Bz QC gV
 rw[show decide ((0:Int)<(k:Int))=decide (0<k) from by simp,Bool.and_assoc]
theorem QE {j:Nat} (hj:j<s.length) (h:Bz s j=false):nk s=false:=by grind [nk]
theorem QF (h:∀j,j<s.length->Bz s j=true):nk s=decide (s≠[]):=by grind [nk]
theorem QG {P:Nat->Prop} (h:∀j,j<k->P j) (hk:P k):∀j,j<k+1->P j:=by grind
theorem Fx (ha:t.aw=[]) (hp:t.ak[0]?=some p):cg t=p.aw:=by grind [au.ak,cg]
theorem Fy (h:t.aw≠[]∨t.ak=[]):cg t=[]:=by unfold cg;rw[iP h]
theorem Y9 (h0:s≠[48]) (h:(ei s).length<1∨3<(ei s).length∨(ei s).getD 0 0=48):numeral s=none:=by grind [numeral]
theorem Za (h0:s≠[48]) (hk:k<(ei s).length) (h:gV ((ei s).getD k 0)=false):numeral s=none:=by grind [numeral,ei]
theorem Zb (h0:s≠[48]) (h:1<=(ei s).length∧(ei s).length<=3∧(ei s).getD 0 0≠48) (cP:(ei s).all gV=true):numeral s=some (qD s*val (ei s)):=by grind [numeral]
theorem Zc (s:ai):qD s=1∨qD s= -1:=by grind [qD]
theorem Zd {ds:ai} (h:(!(decide ((1:Int)<=(ds.length:Int))&&decide ((ds.length:Int)<=3))||decide (((ds.getD 0 0).toNat:Int)=48))=true):ds.length<1∨3<ds.length∨ds.getD 0 0=48:=by
 simp only[oE,Bool.not_eq_true',Bool.and_eq_false_iff,decide_eq_false_iff_not,dE] at h
 rcases h with(h|h)|h
 ·left;omega
 ·right;left;omega
 ·right;right;exact UInt8.toNat_inj.1 (by have:(48:UInt8).toNat=48:=rfl;rw[this];omega)
theorem Ze {ds:ai} (h:(!(decide ((1:Int)<=(ds.length:Int))&&decide ((ds.length:Int)<=3))||decide (((ds.getD 0 0).toNat:Int)=48))=false):1<=ds.length∧ds.length<=3∧ds.getD 0 0≠48:=by
 simp only[Bool.or_eq_false_iff,Bool.not_eq_false',aE,decide_eq_false_iff_not,dE] at h
 refine⟨by omega,om,λQH=>h.2 (by rw[QH];rfl)⟩
theorem QI {c:UInt8} (h:(decide ((c.toNat:Int)<48)||decide ((57:Int)<c.toNat))=true):gV c=false:=by grind [By]
theorem QJ {c:UInt8} (h:(decide ((c.toNat:Int)<48)||decide ((57:Int)<c.toNat))=false):48<=c.toNat∧c.toNat<=57∧gV c=true:=by grind [By]
def au.size:au->Nat
 | .mk a ps=>1+a.length+sizes ps
 where sizes:List au->Nat
 |[]=>0
 |t::ts=>t.size+sizes ts
theorem Zf {ps:List au}:∀{i:Nat} {p:au},ps[i]?=some p->p.size<=au.size.sizes ps:=by
 induction ps with
 |nil=>intro i p h;simp at h
 |cons q ps ih=>
  intro i p h
  cases i with
  |zero=>simp at h;subst h;simp only[au.size.sizes];omega
  |succ i=>have:=ih (by simpa using h);simp only[au.size.sizes];omega
theorem QK {t:au} (h:t.ak[i]?=some p):p.size<t.size:=by
 cases t with
 |mk a ps=>have:=Zf (ps:=ps) h;simp only[au.size];omega
theorem xz:∀t:au,t.ak.length<t.size
 | .mk a ps=>by
  have:∀l:List au,l.length<=au.size.sizes l:=by
   intro l
   induction l with
   |nil=>simp[au.size.sizes]
   |cons q r ih=>cases q;simp only[au.size.sizes,au.size,lC];omega
  have:=this ps
  simp only[au.ak,au.size];omega
inductive WF:au->Prop
 |aw (a:ai) (h:a≠[]):WF (.mk a [])
 |list (ps:List au) (h:ps≠[]) (hp:∀p,p∈ps->WF p):WF (.mk [] ps)
theorem WF.part (h:WF t) (hp:t.ak[i]?=some p):WF p:=by cases h<;>grind [au.ak]
theorem WF.first (h:WF t) (ha:t.aw=[]):∃p,t.ak[0]?=some p:=by
 cases h with
 |aw a hn=>exact absurd ha hn
 |list ps hn _=>
  cases ps with
  |nil=>exact absurd rfl hn
  |cons q r=>exact⟨q,rfl⟩
theorem WF.leaf (h:WF t) (ha:t.aw≠[]):t.ak=[]:=by
 cases h with
 |aw a _=>rfl
 |list ps _ _=>exact absurd rfl ha
theorem QL {rd:ai->Option (au×ai)} (eF:∀s t r,rd s=some (t,r)->WF t):∀n s ts r,iu rd n s=some (ts,r)->ts≠[]∧∀p,p∈ts->WF p
 |0,_,_,_,h=>by simp[iu] at h
 |n+1,s,ts,r,h=>by
  unfold iu at h
  cases hr:rd s with
  |none=>simp[hr] at h
  |some q=>
   obtain⟨t,r1⟩:=q
   have ht:=eF s t r1 hr
   simp only[hr] at h
   cases r1 with
   |nil=>simp at h
   |cons c r'=>
    simp only at h
    by_cases h1:c=41
    ·rw[iP h1] at h
     simp at h
     obtain⟨rfl,_⟩:=h
     exact⟨by simp,by intro p hp;simp at hp;subst hp;exact ht⟩
    ·rw[iN h1] at h
     by_cases h2:c=32
     ·rw[iP h2] at h
      cases hp:iu rd n r' with
      |none=>simp[hp] at h
      |some q=>
       obtain⟨ts',r''⟩:=q
       simp[hp] at h
       obtain⟨rfl,_⟩:=h
       obtain⟨_,h4⟩:=QL eF n r' ts' r'' hp
       exact⟨by simp,by intro p hp;rcases mC.1 hp with rfl|hp;exact ht;exact h4 p hp⟩
     ·rw[iN h2] at h;cases h
theorem Zg:∀d s t r,dZ d s=some (t,r)->WF t:=by
 have leaf:∀(s:ai) (t:au) (r:ai),(if s.takeWhile eO=[] then none else some (au.mk (s.takeWhile eO) [],s.dropWhile eO))=some (t,r)->WF t:=by
  intro s t r h
  split at h
  ·cases h
  ·rename_i hn
   simp only[Option.some.injEq,Prod.mk.injEq] at h
   rw[<-h.1];exact .aw _ hn
 intro d
 induction d with
 |zero=>
  intro s t r h
  cases s with
  |nil=>simp[dZ] at h
  |cons c s=>
   simp only[dZ] at h
   by_cases h1:c=40
   ·rw[iP h1] at h;cases h
   ·rw[iN h1] at h;exact leaf _ _ _ h
 |succ d ih=>
  intro s t r h
  cases s with
  |nil=>simp[dZ] at h
  |cons c s=>
   simp only[dZ] at h
   by_cases h1:c=40
   ·rw[iP h1] at h
    cases hp:iu (dZ d) (s.length+1) s with
    |none=>simp[hp] at h
    |some q=>
     obtain⟨ts',r''⟩:=q
     simp[hp] at h
     obtain⟨h3,h4⟩:=QL ih _ _ _ _ hp
     rw[<-h.1];exact .list _ h3 h4
   ·rw[iN h1] at h;exact leaf _ _ _ h
theorem s8 (h:bB s=some t):WF t:=by grind [bB,dZ,Zg]
theorem QM {rd:ai->Option (au×ai)} (eF:∀s t r,rd s=some (t,r)->t.size+r.length<=s.length+1):∀n s ts r,iu rd n s=some (ts,r)->au.size.sizes ts+r.length<=s.length
 |0,_,_,_,h=>by simp[iu] at h
 |n+1,s,ts,r,h=>by
  unfold iu at h
  cases hr:rd s with
  |none=>simp[hr] at h
  |some q=>
   obtain⟨t,r1⟩:=q
   have ht:=eF s t r1 hr
   simp only[hr] at h
   cases r1 with
   |nil=>simp at h
   |cons c r'=>
    simp only at h
    rw[lC] at ht
    by_cases h1:c=41
    ·rw[iP h1] at h
     simp at h
     obtain⟨rfl,rfl⟩:=h
     simp only[au.size.sizes];omega
    ·rw[iN h1] at h
     by_cases h2:c=32
     ·rw[iP h2] at h
      cases hp:iu rd n r' with
      |none=>simp[hp] at h
      |some q=>
       obtain⟨ts',r''⟩:=q
       simp[hp] at h
       obtain⟨rfl,rfl⟩:=h
       have h4:=QM eF n r' ts' r'' hp
       simp only[au.size.sizes];omega
     ·rw[iN h2] at h;cases h
theorem Zh:∀d s t r,dZ d s=some (t,r)->t.size+r.length<=s.length+1:=by
 have leaf:∀(s:ai) (t:au) (r:ai),(if s.takeWhile eO=[] then none else some (au.mk (s.takeWhile eO) [],s.dropWhile eO))=some (t,r)->t.size+r.length<=s.length+1:=by
  intro s t r h
  split at h
  ·cases h
  ·simp only[Option.some.injEq,Prod.mk.injEq] at h
   obtain⟨rfl,rfl⟩:=h
   have h1:=Fm eO s
   rw[Fl,List.length_drop]
   simp only[au.size,au.size.sizes];omega
 intro d
 induction d with
 |zero=>
  intro s t r h
  cases s with
  |nil=>simp[dZ] at h
  |cons c s=>
   simp only[dZ] at h
   by_cases h1:c=40
   ·rw[iP h1] at h;cases h
   ·rw[iN h1] at h;exact leaf _ _ _ h
 |succ d ih=>
  intro s t r h
  cases s with
  |nil=>simp[dZ] at h
  |cons c s=>
   simp only[dZ] at h
   by_cases h1:c=40
   ·rw[iP h1] at h
    cases hp:iu (dZ d) (s.length+1) s with
    |none=>simp[hp] at h
    |some q=>
     obtain⟨ts',r''⟩:=q
     simp[hp] at h
     have h3:=QM ih _ _ _ _ hp
     obtain⟨rfl,rfl⟩:=h
     simp only[au.size,lC,List.length_nil];omega
   ·rw[iN h1] at h;exact leaf _ _ _ h
theorem Le (h:bB s=some t):s.length<=12000:=by grind [bB]
theorem zh (h:bB s=some t):t.size<=12001:=by
 have hs:=Le h
 unfold bB at h
 split at h
 ·cases h
 ·cases hr:dZ 60 s with
  |none=>rw[hr] at h;cases h
  |some q=>
   obtain⟨t',r⟩:=q
   rw[hr] at h
   cases r with
   |nil=>simp at h;subst h;have:=Zh _ _ _ _ hr;simp at this;omega
   |cons c r=>cases h
theorem vL:∀t:au,t.aw.length<t.size
 | .mk a ps=>by simp only[au.aw,au.size];omega
def eY (hidden:Bool):au->Bool
 | .mk a ps=>if a≠[] then decide (a=[105])||(hidden&&decide (a=[118])) else match ps with
  |[]=>false
  |h::rest=>if h.aw=[101] then oneT rest else if h.aw=[116]∨h.aw=[99] then Dx hidden rest else false
 where
 oneT:List au->Bool
  |[]=>false
  |[t]=>eY true t
  |_::_::_=>false
 Dx (hidden:Bool):List au->Bool
  |[]=>true
  |t::ts=>eY hidden t&&Dx hidden ts
theorem Lf (hidden:Bool):∀ts,eY.Dx hidden ts=ts.all (eY hidden)
 |[]=>rfl
 |t::ts=>by simp[eY.Dx,Lf hidden ts]
def nth (ps:List au) (i:Nat):au:=ps.getD i (.mk [] [])
theorem fK (h:i<ps.length):ps[i]?=some (nth ps i):=by grind [nth]
theorem kX (h:i<t.ak.length):(nth t.ak i).size<t.size:=QK (fK h)
theorem WF.nth (h:WF t) (hi:i<t.ak.length):WF (nth t.ak i):=h.part (fK hi)
theorem WF.pos (h:WF t) (ha:t.aw=[]):0<t.ak.length:=by grind [WF.first]
theorem QN (h:t.aw≠[]) (hidden:Bool):eY hidden t=(decide (t.aw=[105])||(hidden&&decide (t.aw=[118]))):=by
 cases t with
 |mk a ps=>unfold eY;exact iP h
theorem Lg (ha:t.aw=[]) (hp:0<t.ak.length) (he:(nth t.ak 0).aw=[101]) (hidden:Bool):eY hidden t=(decide (t.ak.length=2)&&eY true (nth t.ak 1)):=by
 cases t with
 |mk a ps=>
  simp only[au.aw] at ha
  subst ha
  cases ps with
  |nil=>simp[au.ak] at hp
  |cons h rest=>
   have ux:h.aw=[101]:=he
   simp only[eY,ux,au.ak,ne_eq,not_true_eq_false,if_false,if_true]
   match rest with
   |[]=>simp[eY.oneT]
   |[p]=>simp[eY.oneT,_root_.Go.Proofs.YthbhobaiopccaaaGreatDoor.nth]
   |p::q::r=>simp[eY.oneT]
theorem Lh (ha:t.aw=[]) (hp:0<t.ak.length) (he:(nth t.ak 0).aw=[116]∨(nth t.ak 0).aw=[99]) (hidden:Bool):eY hidden t=(t.ak.drop 1).all (eY hidden):=by
 cases t with
 |mk a ps=>
  simp only[au.aw] at ha
  subst ha
  cases ps with
  |nil=>simp[au.ak] at hp
  |cons h rest=>
   have ux:h.aw=[116]∨h.aw=[99]:=he
   have dH:h.aw≠[101]:=by rcases ux with h|h<;>rw[h]<;>decide
   simp only[eY,dH,ux,au.ak,ne_eq,not_true_eq_false,if_false,if_true,Lf,List.drop_one,List.tail_cons]
theorem QO (ha:t.aw=[]) (hp:0<t.ak.length) (h1:(nth t.ak 0).aw≠[101]) (h2:¬((nth t.ak 0).aw=[116]∨(nth t.ak 0).aw=[99])) (hidden:Bool):eY hidden t=false:=by
 cases t with
 |mk a ps=>
  simp only[au.aw] at ha
  subst ha
  cases ps with
  |nil=>simp[au.ak] at hp
  |cons h rest=>
   have Zi:h.aw≠[101]:=h1
   have Zj:¬(h.aw=[116]∨h.aw=[99]):=h2
   simp only[eY,Zi,Zj,ne_eq,not_true_eq_false,if_false]
theorem QP {f:au->Bool} (hi:i<ps.length):(ps.drop i).all f=(f (nth ps i)&&(ps.drop (i+1)).all f):=by
 rw[List.drop_eq_getElem_cons hi,List.all_cons]
 simp[nth,List.getD,gE hi]
theorem Zk {a y:ai} (h:(decide (a≠x)&&decide (a≠y))=false):a=x∨a=y:=by grind
theorem Zl {a y:ai} (h:(decide (a≠x)&&decide (a≠y))=true):¬(a=x∨a=y):=by grind
def s9 (a:ai):Int:=match numeral a with
 |some n=>if 0<=n∧n<=39 then n else -1
 |none=> -1
def rk (a:ai):Bool:=decide (0<=s9 a)
def iY (z:Int) (t:au):Bool:=
 if z=114∨z=42 then rk t.aw else if z=110 then(numeral t.aw).isSome else if z=108 then nk t.aw
 else if z=101 then decide (cg t=[101])&&eY false t else eY false t
theorem QQ {b:Bool} (h:(!b)=false):b=true:=by grind
theorem QR {b:Bool} (h:(!b)=true):b=false:=by grind
theorem zj {b:Prop} [Decidable a] [Decidable b] (h:a):decide a=(decide a||decide b):=by grind
theorem zk {b:Prop} [Decidable a] [Decidable b] (h:¬a):decide b=(decide a||decide b):=by grind
theorem QS {b:Prop} [Decidable a] [Decidable b] [Decidable c] (h:a):decide a=(decide a||decide b||decide c):=by grind
theorem QT {b:Prop} [Decidable a] [Decidable b] [Decidable c] (h:¬a) (h2:b):decide b=(decide a||decide b||decide c):=by grind
theorem QU {b:Prop} [Decidable a] [Decidable b] [Decidable c] (h:¬a) (h2:¬b):decide c=(decide a||decide b||decide c):=by grind
theorem zn {b:Prop} [Decidable a] [Decidable b] (h:(decide a||decide b)=true):a∨b:=by simpa using h
theorem zo {b:Prop} [Decidable a] [Decidable b] (h:(decide a||decide b)=false):¬(a∨b):=by simpa using h
theorem QV {b:Prop} [Decidable a] [Decidable b] [Decidable c] (h:(decide a||decide b||decide c)=true):a∨b∨c:=by grind
theorem QW {b:Prop} [Decidable a] [Decidable b] [Decidable c] (h:(decide a||decide b||decide c)=false):¬(a∨b∨c):=by grind
def shapeOf (h:ai):ai:=
 if h=[99,111,110,115,116] then[114,110]
 else if h=[109,111,118]∨h=[111,112,101,110] then[114,114]
 else if h=[97,100,100]∨h=[115,117,98]∨h=[109,117,108] then[114,114,114]
 else if h=[110,101,119] then[114,42]
 else if h=[103,101,116] then[114,114,110]
 else if h=[108,97,98]∨h=[122,101,114,111] then[114,108]
 else if h=[112,97,99,107] then[114,114,101,119]
 else if h=[106,117,109,112]∨h=[104,97,108,116] then[114]
 else[]
def Lj (h:ai) (i:Nat):Int:=((h.getD (min i h.length-1) 0).toNat:Int)
def sf (t:au):Bool:=(decide (shapeOf (cg t)≠[114,42])&&decide (t.ak.length≠(shapeOf (cg t)).length+1))||decide (t.ak.length<2)
def th (t:au) (i:Nat):Bool:=iY (Lj (shapeOf (cg t)) i) (nth t.ak i)
def lr (t:au):Bool:=if shapeOf (cg t)=[] then false else if sf t then false
 else decide (∀i,i<t.ak.length->1<=i->th t i=true)&&(decide (cg t≠[103,101,116])||decide (0<=(numeral (nth t.ak 3).aw).getD 0))
theorem Zm (hh:h=[103,101,116]):shapeOf h=[114,114,110]:=by rw[hh];decide
theorem Zn (h:sf t=false) (hh:cg t=[103,101,116]):t.ak.length=4:=by grind [sf,Zm]
theorem Zo (h:sf t=false):2<=t.ak.length:=by grind [sf]
theorem Lk (h:shapeOf (cg t)≠[]):t.aw=[]∧0<t.ak.length∧cg t=(nth t.ak 0).aw:=by
 have dH:cg t≠[]:=λhh=>by rw[hh] at h;exact h de
 by_cases ha:t.aw=[]
 ·rcases Nat.eq_zero_or_pos t.ak.length with hz|hz
  ·exact absurd (Fy (.inr (List.length_eq_zero_iff.1 hz))) dH
  ·exact⟨ha,hz,Fx ha (fK hz)⟩
 ·exact absurd (Fy (.inl ha)) dH
theorem Zp (h:ai):(shapeOf h).length<=4:=by grind [shapeOf]
theorem QX {n:Nat} (hn:n=t.ak.length):((decide (shapeOf (cg t)≠[114,42])&&decide ((n:Int)≠((shapeOf (cg t)).length:Int)+1))||decide ((n:Int)<2))=sf t:=by grind [sf]
theorem QY (h:shapeOf (cg t)=[]):lr t=false:=by unfold lr;rw[iP h]
theorem Ll (h:sf t=true):lr t=false:=by grind [lr]
theorem Zq (hi:i<t.ak.length) (h1:1<=i) (h:th t i=false):lr t=false:=by grind [lr]
theorem Zr (h1:shapeOf (cg t)≠[]) (h2:sf t=false) (h:∀i,i<t.ak.length->1<=i->th t i=true):
  lr t=(decide (cg t≠[103,101,116])||decide (0<=(numeral (nth t.ak 3).aw).getD 0)):=by grind [lr]
theorem Zs (h:lr t=true):0<t.ak.length:=by
 unfold lr at h
 split at h
 ·cases h
 ·rename_i dH;exact(Lk dH).2.1
def seen (f:au->Bool) (s:ai):Bool:=match bB s with
 |some t=>f t
 |none=>false
theorem Ih {f:au->Bool} (h:∀t',bB s=some t'->t=t'):((bB s).isSome&&f t)=seen f s:=by grind [bB,seen]
def Ii (t:au):Bool:=lr t&&(decide ((nth t.ak 0).aw=[106,117,109,112])||decide ((nth t.ak 0).aw=[104,97,108,116]))
abbrev sh (s:ai):Bool:=seen (eY false) s
abbrev si (s:ai):Bool:=seen lr s
abbrev Dy (s:ai):Bool:=seen Ii s
def Zt:Bk:=⟨[],[],[]⟩
abbrev bR (bs:List Bk) (i:Nat):Bk:=bs.getD i Zt
theorem py (h:i<bs.length):bs[i]?=some (bR bs i):=by grind
def mv (bs:List Bk) (l:ai):Int:=match bs.findIdx? (λb=>decide (b.aM=l)) with
 |some i=>(i:Int)
 |none=> -1
theorem Lm (hk:k<bs.length) (h:∀i,i<k->(bR bs i).aM≠l) (hl:(bR bs k).aM=l):mv bs l=(k:Int):=by
 have:bs.findIdx? (λb=>decide (b.aM=l))=some k:=by
  rw[List.findIdx?_eq_some_iff_getElem]
  refine⟨hk,by simpa[gE hk] using hl,λj hj=>?_⟩
  have:=h j hj
  simpa[gE (Nat.lt_trans hj hk)] using this
 unfold mv;rw[this]
theorem Zu (h:∀i,i<bs.length->(bR bs i).aM≠l):mv bs l= -1:=by
 have:bs.findIdx? (λb=>decide (b.aM=l))=none:=by
  rw[List.findIdx?_eq_none_iff]
  intro b hb
  obtain⟨i,hi,rfl⟩:=List.getElem_of_mem hb
  have:=h i hi
  simpa[gE hi] using this
 unfold mv;rw[this]
def rl (code:List ai) (i:Nat):Bool:=si (cv code i)&&(Dy (cv code i)==decide (i+1=code.length))
def lu (b:Bk):Bool:=nk b.aM&&decide (b.ck.length<=40)&&(decide (1<=b.code.length)&&decide (b.code.length<=80))&&
 decide (∀i,i<b.ck.length->sh (cv b.ck i)=true)&&decide (∀i,i<b.code.length->rl b.code i=true)
def gk (bs:List Bk):Bool:=decide (∀i,i<bs.length->lu (bR bs i)=true∧mv bs (bR bs i).aM=i)&&
 (decide (1<=bs.length)&&decide (bs.length<=40)&&decide ((bR bs 0).aM=[109,97,105,110])&&decide ((bR bs 0).ck.length=0))
theorem QZ (h:(nk b.aM&&decide (b.ck.length<=40)&&(decide (1<=b.code.length)&&decide (b.code.length<=80)))=false):lu b=false:=by
 unfold lu;rw[h];rfl
theorem Q0 (hi:i<b.ck.length) (h:sh (cv b.ck i)=false):lu b=false:=by grind [lu]
theorem Q1 (hi:i<b.code.length) (h:rl b.code i=false):lu b=false:=by grind [rl,lu]
theorem Q2 (h:(nk b.aM&&decide (b.ck.length<=40)&&(decide (1<=b.code.length)&&decide (b.code.length<=80)))=true) (h1:∀i,i<b.ck.length->sh (cv b.ck i)=true) 
  (h2:∀i,i<b.code.length->rl b.code i=true):lu b=true:=by grind [lu]
theorem Q3 (hi:i<bs.length) (h:¬(lu (bR bs i)=true∧mv bs (bR bs i).aM=i)):gk bs=false:=by
 unfold gk
 rw[dF (p:=∀i:Nat,i<bs.length->lu (bR bs i)=true∧mv bs (bR bs i).aM=i) (λhh=>h (hh i hi))]
 rfl
theorem Q4 (h:∀i,i<bs.length->lu (bR bs i)=true∧mv bs (bR bs i).aM=i):
  gk bs=(decide (1<=bs.length)&&decide (bs.length<=40)&&decide ((bR bs 0).aM=[109,97,105,110])&&decide ((bR bs 0).ck.length=0)):=by grind [gk]
theorem Ij (h1:n1=b.ck.length) (h2:n2=b.code.length):(!nk b.aM||decide ((40:Int)<n1)||!(decide ((1:Int)<=n2)&&decide ((n2:Int)<=80)))=
  !(nk b.aM&&decide (b.ck.length<=40)&&(decide (1<=b.code.length)&&decide (b.code.length<=80))):=by grind
theorem Ln {code:List ai} {n:Nat} (hn:n=code.length) (hi:i<n):(!si (cv code i)||(Dy (cv code i) !=decide ((i:Int)=(n:Int)-1)))=!rl code i:=by grind [rl]
def Bk.small (b:Bk):Prop:=b.aM.length<1000000000∧b.ck.length<1000000000∧b.code.length<1000000000
def ti (bs:List Bk):Prop:=bs.length<1000000000∧∀i,i<bs.length->(bR bs i).small
theorem Zv {n:Nat} (hn:n=bs.length) (fi:0<bs.length->n1=(bR bs 0).ck.length):
  ((decide ((1:Int)<=n)&&decide ((n:Int)<=40))&&decide ((bR bs 0).aM=[109,97,105,110])&&decide ((n1:Int)=0))=(decide (1<=bs.length)&&decide (bs.length<=40)&&decide ((bR bs 0).aM=[109,97,105,110])&&decide ((bR bs 0).ck.length=0)):=by grind
theorem Zw (s:ai):Lib.trimPrefix s [45]=ei s:=by
 unfold Lib.trimPrefix Lib.hasPrefix ei
 cases s with
 |nil=>simp
 |cons c r=>
  by_cases h:c=45
  ·subst h;simp
  ·have h2:((45:UInt8)==c)=false:=by simpa using λhe=>h he.symm
   simp[List.isPrefixOf,h2,h]
theorem Q5:∀(l:ai) (n:Nat),l.all gV=true->Lib.decFrom n l=some (l.foldl (λn c=>10*n+(c.toNat-48)) n)
 |[],n,_=>rfl
 |c::r,n,h=>by
  simp only[List.all_cons,aE] at h
  have hc:=(By c).1 h.1
  have hd:Lib.digitVal c=some (c.toNat-48):=by unfold Lib.digitVal;rw[iP hc]
  simp only[Lib.decFrom,hd,List.foldl_cons]
  rw[show n*10+(c.toNat-48)=10*n+(c.toNat-48) from by omega]
  exact Q5 r _ h.2
theorem Zx (hl:l≠[]) (h:l.all gV=true):Lib.decNat l=some (val l):=by
 unfold Lib.decNat
 rw[iN (by simpa using hl)]
 exact Q5 l 0 h
theorem Zy {z:Int} (h:numeral s=some z):Lib.atoi s=some z:=by
 unfold numeral at h
 by_cases h0:s=[48]
 ·rw[iP h0] at h;subst h0;rw[<-h];decide
 ·rw[iN h0] at h
  by_cases h1:(ei s).length<1∨3<(ei s).length∨(ei s).getD 0 0=48
  ·rw[iP h1] at h;cases h
  ·rw[iN h1] at h
   by_cases h2:(ei s).all gV=true
   ·rw[iP h2] at h
    have dH:ei s≠[]:=λhe=>h1 (.inl (by rw[he];simp))
    have hv:=Zx dH h2
    cases s with
    |nil=>exact absurd (by unfold ei;simp) dH
    |cons c r=>
     by_cases hc:c=45
     ·subst hc
      have hd:ei (45::r)=r:=by unfold ei;simp
      have hs:qD (45::r)= -1:=by unfold qD;simp
      rw[hd] at hv h
      rw[hs] at h
      simp only[Lib.atoi,hv,beq_self_eq_true,if_true,Option.map_some]
      rw[<-h];simp
     ·have hd:ei (c::r)=c::r:=by unfold ei;simp[hc]
      have hs:qD (c::r)=1:=by unfold qD;simp[hc]
      rw[hd] at hv h h2
      rw[hs] at h
      have Q6:=(By c).1 (by simp only[List.all_cons,aE] at h2;exact h2.1)
      have e1:(c==45)=false:=by simpa using hc
      have e2:(c==43)=false:=by
       have:c≠43:=λhe=>by rw[he] at Q6;exact absurd Q6.1 de
       simpa using this
      simp only[Lib.atoi,e1,e2,hv,Bool.false_eq_true,if_false,Option.map_some]
      rw[<-h];simp
   ·rw[iN h2] at h;cases h
theorem Q7 {z:Int} (h:numeral s=some z):s.length<=4:=by grind [numeral,ei]
theorem Zz (s:ai):(decide (s=[48])||(decide (1<=(ei s).length)&&decide ((ei s).length<=3)&&(ei s).all gV&&decide ((ei s).getD 0 0≠48)))=(numeral s).isSome:=by grind [ei,gV,numeral]
theorem ZA (s:ai):((numeral s).isSome&&(decide (0<=(numeral s).getD 0)&&decide ((numeral s).getD 0<=39)))=rk s:=by grind [numeral,rk,s9]
theorem ZB (hk:k<s.length) (h:gV (s.getD k 0)=false):s.all gV=false:=by grind
theorem ZC (s:ai):(decide (s=[48])||(decide ((1:Int)<=((ei s).length:Int))&&decide (((ei s).length:Int)<=3)&&(ei s).all gV&&decide ((((ei s).getD 0 0).toNat:Int)≠48)))=(numeral s).isSome:=by
 rw[<-Zz,show decide ((1:Int)<=((ei s).length:Int))=decide (1<=(ei s).length) from decide_eq_decide.2 om,show decide (((ei s).length:Int)<=3)=decide ((ei s).length<=3) from decide_eq_decide.2 om,
  show decide ((((ei s).getD 0 0).toNat:Int)≠48)=decide ((ei s).getD 0 0≠48) from decide_eq_decide.2 (by
   have QH:(48:UInt8).toNat=48:=rfl
   constructor
   ·intro h h2;exact h (by rw[h2];rfl)
   ·intro h h2;exact h (UInt8.toNat_inj.1 om))]
def BA (ts:List au) (g:au->Bool):Int:=match ts.findIdx? g with
 |some i=>(i:Int)
 |none=> -1
theorem Fz (h:i<ts.length):nth ts i=ts[i]:=by grind [nth]
theorem ZD {g:au->Bool} (hk:k<ts.length) (h:∀i,i<k->g (nth ts i)=false) (hl:g (nth ts k)=true):BA ts g=(k:Int):=by
 have:ts.findIdx? g=some k:=by
  rw[List.findIdx?_eq_some_iff_getElem]
  refine⟨hk,by rw[<-Fz hk];exact hl,λj hj=>?_⟩
  have:=h j hj
  rw[Fz (Nat.lt_trans hj hk)] at this
  simpa using this
 unfold BA;rw[this]
theorem ZE {g:au->Bool} (h:∀i,i<ts.length->g (nth ts i)=false):BA ts g= -1:=by grind [Fz,BA,List.findIdx?_eq_none_iff,List.getElem_of_mem]
theorem ZF (ts:List au) (g:au->Bool):decide (0<=BA ts g)=ts.any g:=by grind [BA]
def eZ (h:ai) (n:Nat):ai:=
 if h=[99,111,110,115,116] then[100,110]
 else if h=[109,111,118]∨h=[111,112,101,110] then[100,115]
 else if h=[97,100,100]∨h=[115,117,98]∨h=[109,117,108] then[100,115,115]
 else if h=[110,101,119] then[100]++List.replicate (n-2) 115
 else if h=[103,101,116] then[100,115,109]
 else if h=[108,97,98] then[100,108]
 else if h=[112,97,99,107] then[100,115,69,87]
 else if h=[122,101,114,111] then[115,108]
 else if h=[106,117,109,112]∨h=[104,97,108,116] then[115]
 else[]
def ga (z:Int) (t:au):Bool:=
 if z=100∨z=115 then rk t.aw else if z=110 then(numeral t.aw).isSome
 else if z=109 then(numeral t.aw).isSome&&decide (0<=(numeral t.aw).getD 0)
 else if z=108 then nk t.aw else if z=69 then(decide (t.ak.length=2)&&decide (cg t=[101]))&&eY false t
 else if z=87 then eY false t else false
def lY (t:au):Bool:=
 if eZ (cg t) t.ak.length=[]∨t.ak.length≠(eZ (cg t) t.ak.length).length+1 then false
 else decide (∀i,i<(eZ (cg t) t.ak.length).length->ga (((eZ (cg t) t.ak.length).getD i 0).toNat:Int) (nth t.ak (i+1))=true)
theorem Ik (h:eZ (cg t) t.ak.length=[]∨t.ak.length≠(eZ (cg t) t.ak.length).length+1):lY t=false:=by
 unfold lY;rw[iP h]
theorem ZG (hi:i<(eZ (cg t) t.ak.length).length) (h:ga (((eZ (cg t) t.ak.length).getD i 0).toNat:Int) (nth t.ak (i+1))=false):lY t=false:=by grind [lY]
theorem ZH (h:¬(eZ (cg t) t.ak.length=[]∨t.ak.length≠(eZ (cg t) t.ak.length).length+1)) 
  (ha:∀i,i<(eZ (cg t) t.ak.length).length->ga (((eZ (cg t) t.ak.length).getD i 0).toNat:Int) (nth t.ak (i+1))=true):lY t=true:=by grind [lY]
theorem shift {n:Nat} {P Q:Nat->Prop} (h:∀i,i<n->(P i↔Q (i+1))):(∀i,i<n->P i)↔(∀i,i<n+1->1<=i->Q i):=by
 constructor
 ·intro hp i hi h1
  have:=(h (i-1) om).1 (hp (i-1) om)
  rwa [show i-1+1=i from by omega] at this
 ·intro hq i hi
  exact(h i hi).2 (hq (i+1) om om)
theorem zq (σ τ:ai) (ex:Nat->au->Bool) (h1:eZ (cg t) t.ak.length=σ) (h2:shapeOf (cg t)=τ) (hl:σ.length=τ.length) (dH:τ≠[]) (ZI:τ≠[114,42]) 
  (hp:∀i u,i<τ.length->ga ((σ.getD i 0).toNat:Int) u=(iY ((τ.getD i 0).toNat:Int) u&&ex i u))
  (hx:t.ak.length=τ.length+1->(decide (cg t≠[103,101,116])||decide (0<=(numeral (nth t.ak 3).aw).getD 0))=decide (∀i,i<τ.length->ex i (nth t.ak (i+1))=true)):lY t=lr t:=by
 have hτ:1<=τ.length:=List.length_pos_iff.2 dH
 have hσ:σ≠[]:=λh=>by rw[h] at hl;simp at hl;omega
 by_cases hn:t.ak.length=τ.length+1
 ·unfold lY lr sf
  rw[h1,h2,iN (by rw[hl];rintro(h|h);exact hσ h;exact h hn),iN dH,hx hn]
  rw[iN (by rw[dF (p:=t.ak.length≠τ.length+1) om,dF (p:=t.ak.length<2) om];simp),<-Bool.decide_and,decide_eq_decide,hl,hn]
  rw[<-shift (P:=λi=>iY ((τ.getD i 0).toNat:Int) (nth t.ak (i+1))=true) (λi hi=>by
   unfold th Lj
   rw[h2,show min (i+1) τ.length-1=i from by omega])]
  constructor
  ·intro h
   refine⟨λi hi=>?_,λi hi=>?_⟩<;>
   ·have:=h i hi
    rw[hp i _ hi,aE] at this
    first|exact this.1|exact this.2
  ·rintro⟨ha,hb⟩ i hi
   rw[hp i _ hi,ha i hi,hb i hi];rfl
 ·rw[Ik (.inr (by rw[h1,hl];exact hn)),Ll]
  unfold sf
  rw[h2,dT ZI,dT hn];rfl
theorem ZJ (n:Nat) (u:Nat->au):decide (∀i,i<n->(fun(_:Nat) (_:au)=>true) i (u i)=true)=true:=by grind
theorem ZK (u:au):((decide (u.ak.length=2)&&decide (cg u=[101]))&&eY false u)=(decide (cg u=[101])&&eY false u):=by grind [Fy,cW.length,Fx,fK,Lg]
theorem ZL {n:Nat} {P:Nat->Prop} (h:n<=4) (h0:P 0) (h1:2<=n->P 1) (h2:3<=n->P 2) (h3:4<=n->P 3):∀i,i<n->P i:=by grind
theorem zt {σ τ:ai} {ex:Nat->au->Bool} (hl:τ.length<=4) (h0:∀u,ga ((σ.getD 0 0).toNat:Int) u=(iY ((τ.getD 0 0).toNat:Int) u&&ex 0 u)) (h1:∀u,2<=τ.length->ga ((σ.getD 1 0).toNat:Int) u=(iY ((τ.getD 1 0).toNat:Int) u&&ex 1 u)) 
  (h2:∀u,3<=τ.length->ga ((σ.getD 2 0).toNat:Int) u=(iY ((τ.getD 2 0).toNat:Int) u&&ex 2 u)) (h3:∀u,4<=τ.length->ga ((σ.getD 3 0).toNat:Int) u=(iY ((τ.getD 3 0).toNat:Int) u&&ex 3 u)):
  ∀i u,i<τ.length->ga ((σ.getD i 0).toNat:Int) u=(iY ((τ.getD i 0).toNat:Int) u&&ex i u):=by grind
theorem Q8 (u:au):ga 100 u=rk u.aw:=by simp[ga]
theorem Q9 (u:au):ga 115 u=rk u.aw:=by simp[ga]
theorem ZM (u:au):ga 110 u=(numeral u.aw).isSome:=by simp[ga]
theorem ZN (u:au):ga 109 u=((numeral u.aw).isSome&&decide (0<=(numeral u.aw).getD 0)):=by simp[ga]
theorem ZO (u:au):ga 108 u=nk u.aw:=by simp[ga]
theorem ZP (u:au):ga 69 u=((decide (u.ak.length=2)&&decide (cg u=[101]))&&eY false u):=by simp[ga]
theorem ZQ (u:au):ga 87 u=eY false u:=by simp[ga]
theorem Lo (u:au):iY 114 u=rk u.aw:=by simp[iY]
theorem ZR (u:au):iY 42 u=rk u.aw:=by simp[iY]
theorem Ra (u:au):iY 110 u=(numeral u.aw).isSome:=by simp[iY]
theorem ZS (u:au):iY 108 u=nk u.aw:=by simp[iY]
theorem ZT (u:au):iY 101 u=(decide (cg u=[101])&&eY false u):=by simp[iY]
theorem ZU (u:au):iY 119 u=eY false u:=by simp[iY]
theorem Dz (u:au):ga 100 u=(iY 114 u&&true):=by rw[Q8,Lo,Bool.and_true]
theorem BB (u:au):ga 115 u=(iY 114 u&&true):=by rw[Q9,Lo,Bool.and_true]
theorem ZV (u:au):ga 110 u=(iY 110 u&&true):=by rw[ZM,Ra,Bool.and_true]
theorem ZW (u:au):ga 109 u=(iY 110 u&&decide (0<=(numeral u.aw).getD 0)):=by rw[ZN,Ra]
theorem Rb (u:au):ga 108 u=(iY 108 u&&true):=by rw[ZO,ZS,Bool.and_true]
theorem ZX (u:au):ga 69 u=(iY 101 u&&true):=by rw[ZP,ZT,Bool.and_true,ZK]
theorem ZY (u:au):ga 87 u=(iY 119 u&&true):=by rw[ZQ,ZU,Bool.and_true]
theorem ZZ (h:cg t=[110,101,119]):lY t=lr t:=by
 have h1:eZ (cg t) t.ak.length=[100]++List.replicate (t.ak.length-2) 115:=by rw[h];rfl
 have h2:shapeOf (cg t)=[114,42]:=by rw[h];rfl
 have hl:(eZ (cg t) t.ak.length).length=t.ak.length-2+1:=by rw[h1];simp
 by_cases hn:2<=t.ak.length
 ·unfold lY lr sf
  rw[iN (by rw[hl];rintro(hh|hh);(·rw[h1] at hh;simp at hh);(·omega)),h2,iN de,
   iN (by rw[dF (p:=t.ak.length<2) om];simp),dT (p:=cg t≠[103,101,116]) (by rw[h];decide),Bool.true_or,Bool.and_true,decide_eq_decide,hl]
  rw[show(∀i,i<t.ak.length->1<=i->th t i=true)↔(∀i,i<(t.ak.length-2+1)+1->1<=i->th t i=true) from by rw[show t.ak.length-2+1+1=t.ak.length from by omega]]
  refine shift λi hi=>?_
  have e1:ga (((eZ (cg t) t.ak.length).getD i 0).toNat:Int) (nth t.ak (i+1))=rk (nth t.ak (i+1)).aw:=by
   rw[h1]
   cases i with
   |zero=>exact Q8 _
   |succ i=>
    have:([100]++List.replicate (t.ak.length-2) (115:UInt8)).getD (i+1) 0=115:=by
     simp[List.getD,show i<t.ak.length-2 from by omega]
    rw[this];exact Q9 _
  have e2:th t (i+1)=rk (nth t.ak (i+1)).aw:=by
   unfold th Lj
   rw[h2]
   cases i with
   |zero=>exact Lo _
   |succ i=>rw[show min (i+1+1) ([114,42]:ai).length-1=1 from by simp];exact ZR _
  rw[e1,e2]
 ·rw[Ik (.inr (by rw[hl];omega)),Ll]
  unfold sf;rw[dT (p:=t.ak.length<2) om,Bool.or_true]
theorem Rc (t:au):lY t=lr t:=by
 have nog:∀{τ:ai},cg t≠[103,101,116]->(t.ak.length=τ.length+1->(decide (cg t≠[103,101,116])||decide (0<=(numeral (nth t.ak 3).aw).getD 0))=decide (∀i,i<τ.length->(fun(_:Nat) (_:au)=>true) i (nth t.ak (i+1))=true)):=by
  intro τ h _;rw[ZJ _ (λi=>nth t.ak (i+1)),dT h];rfl
 by_cases c1:cg t=[99,111,110,115,116]
 ·exact zq [100,110] [114,110] (λ_ _=>true) (by rw[c1];rfl) (by rw[c1];rfl) rfl de de
   (zt de (λu=>Dz u) (λu _=>ZV u) (λ_ h=>absurd h de) (λ_ h=>absurd h de)) (nog (by rw[c1];decide))
 by_cases c2:cg t=[109,111,118]∨cg t=[111,112,101,110]
 ·exact zq [100,115] [114,114] (λ_ _=>true) (by rcases c2 with c|c<;>rw[c]<;>rfl) (by rcases c2 with c|c<;>rw[c]<;>rfl) rfl de de
   (zt de (λu=>Dz u) (λu _=>BB u) (λ_ h=>absurd h de) (λ_ h=>absurd h de)) (nog (by rcases c2 with c|c<;>rw[c]<;>decide))
 by_cases c3:cg t=[97,100,100]∨cg t=[115,117,98]∨cg t=[109,117,108]
 ·exact zq [100,115,115] [114,114,114] (λ_ _=>true) (by rcases c3 with c|c|c<;>rw[c]<;>rfl) (by rcases c3 with c|c|c<;>rw[c]<;>rfl) rfl de de
   (zt de (λu=>Dz u) (λu _=>BB u) (λu _=>BB u) (λ_ h=>absurd h de)) (nog (by rcases c3 with c|c|c<;>rw[c]<;>decide))
 by_cases c4:cg t=[110,101,119]
 ·exact ZZ c4
 by_cases c5:cg t=[103,101,116]
 ·refine zq [100,115,109] [114,114,110] (λi u=>if i=2 then decide (0<=(numeral u.aw).getD 0) else true) (by rw[c5];rfl) (by rw[c5];rfl) rfl de de
   (zt de (λu=>Dz u) (λu _=>BB u) (λu _=>ZW u) (λ_ h=>absurd h de)) (λ_=>?_)
  rw[show decide (cg t≠[103,101,116])=false from dF (λh=>h c5),Bool.false_or]
  refine decide_eq_decide.2 ⟨λh=>ZL de rfl (λ_=>rfl) (λ_=>by simpa using h) (λh=>by simp at h),λh=>by simpa using h 2 de⟩
 by_cases c6:cg t=[108,97,98]
 ·exact zq [100,108] [114,108] (λ_ _=>true) (by rw[c6];rfl) (by rw[c6];rfl) rfl de de
   (zt de (λu=>Dz u) (λu _=>Rb u) (λ_ h=>absurd h de) (λ_ h=>absurd h de)) (nog (by rw[c6];decide))
 by_cases c7:cg t=[112,97,99,107]
 ·exact zq [100,115,69,87] [114,114,101,119] (λ_ _=>true) (by rw[c7];rfl) (by rw[c7];rfl) rfl de de
   (zt de (λu=>Dz u) (λu _=>BB u) (λu _=>ZX u) (λu _=>ZY u)) (nog (by rw[c7];decide))
 by_cases c8:cg t=[122,101,114,111]
 ·exact zq [115,108] [114,108] (λ_ _=>true) (by rw[c8];rfl) (by rw[c8];rfl) rfl de de
   (zt de (λu=>BB u) (λu _=>Rb u) (λ_ h=>absurd h de) (λ_ h=>absurd h de)) (nog (by rw[c8];decide))
 by_cases c9:cg t=[106,117,109,112]∨cg t=[104,97,108,116]
 ·exact zq [115] [114] (λ_ _=>true) (by rcases c9 with c|c<;>rw[c]<;>rfl) (by rcases c9 with c|c<;>rw[c]<;>rfl) rfl de de
   (zt de (λu=>BB u) (λ_ h=>absurd h de) (λ_ h=>absurd h de) (λ_ h=>absurd h de)) (nog (by rcases c9 with c|c<;>rw[c]<;>decide))
 ·have e1:eZ (cg t) t.ak.length=[]:=by unfold eZ;rw[iN c1,iN c2,iN c3,iN c4,iN c5,iN c6,iN c7,iN c8,iN c9]
  have e2:shapeOf (cg t)=[]:=by unfold shapeOf;rw[iN c1,iN c2,iN c3,iN c4,iN c5,iN (λh=>by rcases h with h|h;exact c6 h;exact c8 h),iN c7,iN c9]
  rw[Ik (.inl e1),QY e2]
theorem Z0 (h:ai) (n:Nat):(eZ h n).length<=n+4:=by grind [eZ]
theorem Rd (h:WF t):2<=t.size:=by
 cases h with
 |aw a ha=>have:=List.length_pos_iff.2 ha;simp only[au.size];omega
 |list ps hp hw=>
  cases ps with
  |nil=>exact absurd rfl hp
  |cons q r=>cases q;simp only[au.size,au.size.sizes];omega
theorem Re:∀{ps:List au},(∀p,p∈ps->WF p)->2*ps.length<=au.size.sizes ps
 |[],_=>by simp[au.size.sizes]
 |q::ps,h=>by
  have h1:=Rd (h q sm)
  have h2:=Re (ps:=ps) (λp hp=>h p (by simp[hp]))
  simp only[au.size.sizes,lC];omega
theorem Rf (h:WF t):2*t.ak.length+1<=t.size:=by cases h<;>grind [au.ak,au.size,Re]
def FB (t:au):Bool:=decide (cg t=[106,117,109,112])||decide (cg t=[104,97,108,116])
theorem Z1 (h:lr t=true):cg t=(nth t.ak 0).aw:=by grind [lr,cg,nth,au.ak,Lk]
theorem Z2 (h:lr t=true):Ii t=FB t:=by
 unfold Ii FB;rw[h,Z1 h];rfl
inductive Good:au->Prop
 |aw (a:ai) (h:a≠[]) (hb:a.all eO=true):Good (.mk a [])
 |list (ps:List au) (h:ps≠[]) (hp:∀p,p∈ps->Good p):Good (.mk [] ps)
theorem Good.wf (h:Good t):WF t:=by
 induction h with
 |aw a h _=>exact .aw a h
 |list ps h _ ih=>exact .list ps h ih
def au.depth:au->Nat
 | .mk _ ps=>deeps ps
 where deeps:List au->Nat
 |[]=>0
 |t::ts=>max (t.depth+1) (deeps ts)
theorem Z3:∀{p:au},p∈ps->p.depth+1<=au.depth.deeps ps:=by
 induction ps with
 |nil=>intro p h;simp at h
 |cons q ps ih=>
  intro p h
  rcases mC.1 h with rfl|h
  ·simp only[au.depth.deeps];omega
  ·have:=ih h;simp only[au.depth.deeps];omega
theorem Lp:∀{ps:List au},(∀p,p∈ps->p.depth+1<=d)->au.depth.deeps ps<=d
 |[],_=>by simp[au.depth.deeps]
 |q::ps,h=>by
  have h1:=h q sm
  have h2:=Lp (ps:=ps) (λp hp=>h p (by simp[hp]))
  simp only[au.depth.deeps];omega
theorem rm {a:ai} (h:a≠[]):(au.mk a ps).text=a:=by simp[au.text,h]
theorem tj (ps:List au):(au.mk [] ps).text=40::(lq ps++[41]):=by simp[au.text]
theorem rp (t:au):lq [t]=t.text:=by simp[lq]
theorem rq (t u:au) (r:List au):lq (t::u::r)=t.text++32::lq (u::r):=by simp[lq]
theorem Rg {rd:ai->Option (au×ai)} (eF:∀s t r,rd s=some (t,r)->s=t.text++r):∀n s ts r,iu rd n s=some (ts,r)->ts≠[]∧s=lq ts++41::r
 |0,_,_,_,h=>by simp[iu] at h
 |n+1,s,ts,r,h=>by
  unfold iu at h
  cases hr:rd s with
  |none=>simp[hr] at h
  |some q=>
   obtain⟨t,r1⟩:=q
   have ht:=eF s t r1 hr
   simp only[hr] at h
   cases r1 with
   |nil=>simp at h
   |cons c r'=>
    simp only at h
    by_cases h1:c=41
    ·rw[iP h1] at h
     simp at h
     obtain⟨rfl,rfl⟩:=h
     exact⟨by simp,by rw[ht,h1,rp]⟩
    ·rw[iN h1] at h
     by_cases h2:c=32
     ·rw[iP h2] at h
      cases hp:iu rd n r' with
      |none=>simp[hp] at h
      |some q=>
       obtain⟨ts',r''⟩:=q
       simp[hp] at h
       obtain⟨rfl,rfl⟩:=h
       obtain⟨h4,h5⟩:=Rg eF n r' ts' r'' hp
       cases ts' with
       |nil=>exact absurd rfl h4
       |cons u us=>exact⟨by simp,by rw[ht,h2,rq,h5];simp⟩
     ·rw[iN h2] at h;cases h
theorem Z4:∀d s t r,dZ d s=some (t,r)->s=t.text++r:=by
 have leaf:∀(s:ai) (t:au) (r:ai),(if s.takeWhile eO=[] then none else some (au.mk (s.takeWhile eO) [],s.dropWhile eO))=some (t,r)->s=t.text++r:=by
  intro s t r h
  split at h
  ·cases h
  ·rename_i hn
   simp only[Option.some.injEq,Prod.mk.injEq] at h
   rw[<-h.1,<-h.2,rm hn,List.takeWhile_append_dropWhile]
 intro d
 induction d with
 |zero=>
  intro s t r h
  cases s with
  |nil=>simp[dZ] at h
  |cons c s=>
   simp only[dZ] at h
   by_cases h1:c=40
   ·rw[iP h1] at h;cases h
   ·rw[iN h1] at h;exact leaf _ _ _ h
 |succ d ih=>
  intro s t r h
  cases s with
  |nil=>simp[dZ] at h
  |cons c s=>
   simp only[dZ] at h
   by_cases h1:c=40
   ·rw[iP h1] at h
    cases hp:iu (dZ d) (s.length+1) s with
    |none=>simp[hp] at h
    |some q=>
     obtain⟨ts',r''⟩:=q
     simp[hp] at h
     obtain⟨h3,h4⟩:=Rg ih _ _ _ _ hp
     rw[<-h.1,<-h.2,tj,h1,h4];simp
   ·rw[iN h1] at h;exact leaf _ _ _ h
theorem Rh {rd:ai->Option (au×ai)} (d:Nat) (eF:∀s t r,rd s=some (t,r)->Good t∧t.depth<=d):∀n s ts r,iu rd n s=some (ts,r)->ts≠[]∧∀p,p∈ts->Good p∧p.depth<=d
 |0,_,_,_,h=>by simp[iu] at h
 |n+1,s,ts,r,h=>by
  unfold iu at h
  cases hr:rd s with
  |none=>simp[hr] at h
  |some q=>
   obtain⟨t,r1⟩:=q
   have ht:=eF s t r1 hr
   simp only[hr] at h
   cases r1 with
   |nil=>simp at h
   |cons c r'=>
    simp only at h
    by_cases h1:c=41
    ·rw[iP h1] at h
     simp at h
     obtain⟨rfl,_⟩:=h
     exact⟨by simp,by intro p hp;simp at hp;subst hp;exact ht⟩
    ·rw[iN h1] at h
     by_cases h2:c=32
     ·rw[iP h2] at h
      cases hp:iu rd n r' with
      |none=>simp[hp] at h
      |some q=>
       obtain⟨ts',r''⟩:=q
       simp[hp] at h
       obtain⟨rfl,_⟩:=h
       obtain⟨_,h4⟩:=Rh d eF n r' ts' r'' hp
       exact⟨by simp,by intro p hp;rcases mC.1 hp with rfl|hp;exact ht;exact h4 p hp⟩
     ·rw[iN h2] at h;cases h
theorem all_takeWhile (p:UInt8->Bool):∀s:ai,(s.takeWhile p).all p=true:=by simp_all
theorem Z5:∀d s t r,dZ d s=some (t,r)->Good t∧t.depth<=d:=by
 have leaf:∀(d:Nat) (s:ai) (t:au) (r:ai),(if s.takeWhile eO=[] then none else some (au.mk (s.takeWhile eO) [],s.dropWhile eO))=some (t,r)->Good t∧t.depth<=d:=by
  intro d s t r h
  split at h
  ·cases h
  ·rename_i hn
   simp only[Option.some.injEq,Prod.mk.injEq] at h
   rw[<-h.1];exact⟨.aw _ hn (all_takeWhile _ _),by simp[au.depth,au.depth.deeps]⟩
 intro d
 induction d with
 |zero=>
  intro s t r h
  cases s with
  |nil=>simp[dZ] at h
  |cons c s=>
   simp only[dZ] at h
   by_cases h1:c=40
   ·rw[iP h1] at h;cases h
   ·rw[iN h1] at h;exact leaf _ _ _ _ h
 |succ d ih=>
  intro s t r h
  cases s with
  |nil=>simp[dZ] at h
  |cons c s=>
   simp only[dZ] at h
   by_cases h1:c=40
   ·rw[iP h1] at h
    cases hp:iu (dZ d) (s.length+1) s with
    |none=>simp[hp] at h
    |some q=>
     obtain⟨ts',r''⟩:=q
     simp[hp] at h
     obtain⟨h3,h4⟩:=Rh d ih _ _ _ _ hp
     rw[<-h.1]
     exact⟨.list _ h3 (λp hp=>(h4 p hp).1),Lp (λp hp=>by have:=(h4 p hp).2;omega)⟩
   ·rw[iN h1] at h;exact leaf _ _ _ _ h
def Stop (r:ai):Prop:=∀c,r[0]?=some c->eO c=false
theorem Lq {p:UInt8->Bool}:∀{a r:ai},a.all p=true->(∀c,r[0]?=some c->p c=false)->(a++r).takeWhile p=a∧(a++r).dropWhile p=r
 |[],[],_,_=>⟨rfl,rfl⟩
 |[],c::r,_,h=>by have:=h c rfl;simp[this]
 |c::a,r,ha,h=>by
  simp only[List.all_cons,aE] at ha
  obtain⟨h1,h2⟩:=Lq (a:=a) ha.2 h
  simp[ha.1,h1,h2]
theorem Ri (h:Good t):∃c r,t.text=c::r:=by
 cases h with
 |aw a ha _=>
  rw[rm ha]
  cases a with
  |nil=>exact absurd rfl ha
  |cons c r=>exact⟨c,r,rfl⟩
 |list ps _ _=>exact⟨_,_,tj ps⟩
theorem Rj {rd:ai->Option (au×ai)}:∀(ts:List au) (n:Nat) (r:ai),ts≠[]->ts.length<=n->(∀t,t∈ts->∀r,Stop r->rd (t.text++r)=some (t,r))->iu rd n (lq ts++41::r)=some (ts,r)
 |[],_,_,h,_,_=>absurd rfl h
 |[t],n,r,_,hn,h=>by
  cases n with
  |zero=>simp at hn
  |succ n=>
   unfold iu
   rw[rp,h t sm (41::r) (by intro c hc;simp at hc;subst hc;decide)]
   simp
 |t::u::us,n,r,_,hn,h=>by
  cases n with
  |zero=>simp at hn
  |succ n=>
   unfold iu
   rw[rq,List.append_assoc,List.cons_append,h t sm (32::(lq (u::us)++41::r)) (by intro c hc;simp at hc;subst hc;decide)]
   have:=Rj (rd:=rd) (u::us) n r sm (by simp at hn⊢;omega) (λt ht=>h t (by simp at ht⊢;exact .inr ht))
   simp[this]
theorem Rk:∀ts:List au,(∀t,t∈ts->Good t)->ts.length<=(lq ts).length
 |[],_=>by simp
 |[t],h=>by obtain⟨c,r,e⟩:=Ri (h t sm);rw[rp,e];simp
 |t::u::us,h=>by
  have:=Rk (u::us) (λt ht=>h t (by simp at ht⊢;exact .inr ht))
  rw[rq];simp at this⊢;omega
theorem Lt:∀(d:Nat) (t:au) (r:ai),Good t->t.depth<=d->Stop r->dZ d (t.text++r)=some (t,r):=by
 intro d
 induction d with
 |zero=>
  intro t r hg hd hr
  cases hg with
  |aw a ha hb=>
   obtain⟨c,a',rfl⟩:∃c a',a=c::a':=by cases a with|nil=>exact absurd rfl ha|cons c r=>exact⟨c,r,rfl⟩
   rw[rm ha,List.cons_append,Fp 0 c _ (by rintro rfl;simp at hb;exact absurd hb.1 de)]
   obtain⟨h1,h2⟩:=Lq hb hr
   rw[List.cons_append] at h1 h2
   rw[h1,h2,iN sm]
  |list ps hp hw=>
   cases ps with
   |nil=>exact absurd rfl hp
   |cons q ps=>simp[au.depth,au.depth.deeps] at hd
 |succ d ih=>
  intro t r hg hd hr
  cases hg with
  |aw a ha hb=>
   obtain⟨c,a',rfl⟩:∃c a',a=c::a':=by cases a with|nil=>exact absurd rfl ha|cons c r=>exact⟨c,r,rfl⟩
   rw[rm ha,List.cons_append,Fp (d+1) c _ (by rintro rfl;simp at hb;exact absurd hb.1 de)]
   obtain⟨h1,h2⟩:=Lq hb hr
   rw[List.cons_append] at h1 h2
   rw[h1,h2,iN sm]
  |list ps hp hw=>
   rw[tj,List.cons_append,Dt]
   have:=Rj (rd:=dZ d) ps ((lq ps++[41]++r).length+1) r hp (by have:=Rk ps hw;simp at this⊢;omega)
    (λt ht r hr=>ih t r (hw t ht) (by have:=Z3 ht;simp only[au.depth] at hd;omega) hr)
   unfold mr
   rw[show rT (d+1)=dZ d from funext λ_=>rfl]
   rw[show lq ps++[41]++r=lq ps++41::r from by simp] at this⊢
   rw[this];rfl
theorem Lu {u:au} (h:Good t) (k:Good u) (e:t.text=u.text):t=u:=by
 have h1:=Lt (max t.depth u.depth) t [] h om (by intro c hc;simp at hc)
 have h2:=Lt (max t.depth u.depth) u [] k om (by intro c hc;simp at hc)
 rw[e,h2] at h1
 simp at h1;exact h1.symm
theorem vM (h:bB s=some t):Good t∧t.depth<=60∧t.text=s∧s.length<=12000:=by
 have hs:=Le h
 unfold bB at h
 split at h
 ·cases h
 ·cases hr:dZ 60 s with
  |none=>rw[hr] at h;cases h
  |some q=>
   obtain⟨t',r⟩:=q
   rw[hr] at h
   cases r with
   |nil=>
    simp at h;subst h
    have h1:=Z5 _ _ _ _ hr
    have h2:=Z4 _ _ _ _ hr
    exact⟨h1.1,h1.2,by rw[h2];simp,hs⟩
   |cons c r=>cases h
theorem Z6 (h:Good t):bB t.text=if t.depth<=60∧t.text.length<=12000 then some t else none:=by
 split
 ·rename_i hc
  unfold bB
  have:=Lt 60 t [] h hc.1 (by intro c hc;simp at hc)
  rw[List.append_nil] at this
  rw[iN om,this]
 ·rename_i hc
  cases hp:bB t.text with
  |none=>rfl
  |some u=>
   obtain⟨h1,h2,h3,h4⟩:=vM hp
   have:=Lu h1 h h3
   subst this
   exact absurd ⟨h2,h4⟩ hc
theorem Lv (h:Good t) (hd:t.depth<=60) (hl:t.text.length<=12000):bB t.text=some t:=by grind [Z6]
def au.len:au->Nat
 | .mk a ps=>if ps=[] then a.length else 1+lens ps
 where lens:List au->Nat
 |[]=>0
 |t::ts=>t.len+1+lens ts
theorem Rl:∀ps:List au,ps≠[]->(∀p,p∈ps->p.len=p.text.length)->au.len.lens ps=(lq ps).length+1
 |[],h,_=>absurd rfl h
 |[t],_,h=>by rw[rp];simp only[au.len.lens,h t sm]
 |t::u::us,_,h=>by
  have:=Rl (u::us) sm (λp hp=>h p (by simp at hp⊢;exact .inr hp))
  rw[rq]
  simp only[au.len.lens,h t sm,lA,lC] at this⊢
  omega
theorem Z7 (h:WF t):t.len=t.text.length:=by
 induction h with
 |aw a ha=>rw[rm ha];simp[au.len]
 |list ps hp _ ih=>
  rw[tj]
  simp only[au.len,hp,if_false,Rl ps hp ih,lC,lA,List.length_nil]
  omega
structure eP where
 aM:ai
 regs:List au
 code:List au
def tr (s:ai):au:=(bB s).getD (.mk [] [])
theorem Rm (h:bB s=some t):tr s=t:=by unfold tr;rw[h];rfl
def gW (b:Bk):eP:=⟨b.aM,b.ck.map tr,b.code.map tr⟩
def BC (b:Bk):Bool:=decide (b.aM.length<=12000)
def nY (b:Bk):Bool:=lu b&&BC b
def lv (bs:List Bk):Bool:=gk bs&&bs.all BC
def bL (a:ai):au:=.mk a []
def vN (h:ai) (ts:List au):au:=.mk [] (bL h::ts)
def p5 (ps:List ai):ai:=ps.flatMap λp=>32::p
def dP (h:ai) (ps:List ai):ai:=40::(h++p5 ps++[41])
theorem Ro (t:au):∀ts:List au,lq (t::ts)=t.text++p5 (ts.map au.text)
 |[]=>by rw[rp];simp[p5]
 |u::us=>by rw[rq,Ro u us];simp[p5]
theorem Rp (hh:h≠[]) (ts:List au):(vN h ts).text=dP h (ts.map au.text):=by
 unfold vN dP
 rw[tj,Ro];simp[bL,rm hh]
theorem Z8 (h1:h≠[]) (h2:h.all eO=true) (hp:∀t,t∈ts->Good t):Good (vN h ts):=by
 refine .list _ sm λp rr=>?_
 rcases mC.1 rr with rfl|rr
 ·exact .aw _ h1 h2
 ·exact hp p rr
theorem Rq (h:lu b=true):nk b.aM=true∧(∀s,s∈b.ck->∃t,bB s=some t∧eY false t=true)∧∀s,s∈b.code->∃t,bB s=some t∧lr t=true:=by
 unfold lu at h
 simp only[aE,dE] at h
 obtain⟨⟨⟨⟨h1,_⟩,_⟩,h2⟩,h3⟩:=h
 refine⟨h1,λs hs=>?_,λs hs=>?_⟩
 ·obtain⟨i,hi,rfl⟩:=List.getElem_of_mem hs
  have:=h2 i hi
  rw[cv,gG,gE hi] at this
  simp only[Option.getD_some] at this
  unfold sh seen at this
  cases hp:bB b.ck[i] with
  |none=>rw[hp] at this;cases this
  |some t=>rw[hp] at this;exact⟨t,rfl,this⟩
 ·obtain⟨i,hi,rfl⟩:=List.getElem_of_mem hs
  have:=h3 i hi
  unfold rl at this
  rw[aE] at this
  have:=this.1
  rw[cv,gG,gE hi] at this
  simp only[Option.getD_some] at this
  unfold si seen at this
  cases hp:bB b.code[i] with
  |none=>rw[hp] at this;cases this
  |some t=>rw[hp] at this;exact⟨t,rfl,this⟩
theorem DA (h:gk bs=true):∀b,b∈bs->lu b=true:=by grind [gk,List.getElem_of_mem,gE]
def Rr (t:au):Bool:=decide (t.depth<=60)&&decide (t.len<=12000)
def Rs:List au->ai
 |[]=>[]
 |h::_=>h.aw
mutual
def FC (y:au):au->au
 | .mk a ps=>if a=[118] then y else if a≠[]∨Rs ps=[101] then .mk a ps else .mk [] (Rt y ps)
def Rt (y:au):List au->List au
 |[]=>[]
 |t::ts=>FC y t::Rt y ts
end
/-! ### States -/
abbrev TS:=List (Option au)
def Lw (a:ai):Nat:=(s9 a).toNat
def Z9 (st:TS) (a:ai):Option au:=st.getD (Lw a) none
def aT (n:Nat):ai:=if n<10 then[UInt8.ofNat (48+n)] else aT (n/10)++[UInt8.ofNat (48+n%10)]
 termination_by n
def Dx (st:TS):List au->Option (List au)
 |[]=>some []
 |u::us=>(Z9 st u.aw).bind λx=>(Dx st us).map λxs=>x::xs
theorem aaa (h:Lib.hasPrefix s [40]=true):∃r,s=40::r:=by
 cases s with
 |nil=>simp[Lib.hasPrefix,List.isPrefixOf] at h
 |cons c r=>simp[Lib.hasPrefix,List.isPrefixOf] at h;exact⟨r,by rw[h]⟩
theorem aab (h:Lib.hasPrefix s [40]=false):∀c r,s=c::r->c≠40:=by
 rintro c r rfl rfl
 simp[Lib.hasPrefix,List.isPrefixOf] at h
theorem aac (h:Lib.hasPrefix s [40]=false) (d:Nat):dZ d s=if s.takeWhile eO=[] then none else some (.mk (s.takeWhile eO) [],s.dropWhile eO):=by
 cases s with
 |nil=>rw[Qi];simp
 |cons c r=>rw[Fp d c r (aab h c r rfl)]
theorem aad (h:dZ d s=none):mr (d+1) s=none:=by rw[Fo];show(match dZ d s with|none=>none|some (t,r)=>_)=none;rw[h]
theorem aae (h:dZ d s=some (t,[])):mr (d+1) s=none:=by rw[Fo];show(match dZ d s with|none=>none|some (t,r)=>_)=none;rw[h]
theorem Ru {c:UInt8} (h:dZ d s=some (t,c::r)):mr (d+1) s=if c=41 then some ([t],r) else if c=32 then(mr (d+1) r).map λp=>(t::p.1,p.2) else none:=by
 rw[Fo];show(match dZ d s with|none=>none|some (t,r)=>_)=_;rw[h]
theorem Ly:(s.drop k).take (s.length-k)=s.drop k:=List.take_of_length_le sm
theorem Il {c:UInt8} (hk:k<256):decide ((c.toNat:Int)≠(k:Int))=decide (c≠UInt8.ofNat k):=decide_eq_decide.2 (by
 have e:(UInt8.ofNat k).toNat=k:=by simp;omega
 constructor
 ·intro h h2;rw[h2,e] at h;exact h rfl
 ·intro h h2;exact h (UInt8.toNat_inj.1 (by rw[e];omega)))
def zu (d:Nat) (s:ai) (t:au) (r:ai) (ok:Bool):Prop:=(dZ d s=some (t,r)∧ok=true)∨(dZ d s=none∧ok=false)
theorem zu.le {ok:Bool} (h:zu d s t r ok) (ho:ok=true):dZ d s=some (t,r)∧r.length<s.length:=by
 rcases h with⟨h,_⟩|⟨_,h⟩
 ·obtain⟨k,h1,h2,rfl⟩:=H7 d s t r h
  exact⟨h,by simp;omega⟩
 ·rw[ho] at h;cases h
theorem aaf {ok:Bool} (hm:zu d s t r ok) (h:((!ok||decide (r=[]))||(decide (((r.getD 0 0).toNat:Int)≠32)&&decide (((r.getD 0 0).toNat:Int)≠41)))=true):mr (d+1) s=none:=by
 rcases hm with⟨hr,rfl⟩|⟨hr,rfl⟩
 ·cases r with
  |nil=>exact aae hr
  |cons c r=>
   rw[Ru hr]
   simp only[Bool.not_true,Bool.false_or,List.getD_cons_zero,show decide (c::r=[])=false from by simp] at h
   rw[show(32:Int)=((32:Nat):Int) from rfl,show(41:Int)=((41:Nat):Int) from rfl,Il de,Il de,aE] at h
   have h1:¬c=32:=of_decide_eq_true h.1
   have h2:¬c=41:=of_decide_eq_true h.2
   rw[iN h2,iN h1]
 ·exact aad hr
theorem aag {ok:Bool} (hm:zu d s t r ok) (h:((!ok||decide (r=[]))||(decide (((r.getD 0 0).toNat:Int)≠32)&&decide (((r.getD 0 0).toNat:Int)≠41)))=false):
  0<r.length∧r.length<s.length∧mr (d+1) s=if r.getD 0 0=41 then some ([t],r.drop 1) else(mr (d+1) (r.drop 1)).map λp=>(t::p.1,p.2):=by
 simp only[Bool.or_eq_false_iff,Bool.not_eq_false',decide_eq_false_iff_not] at h
 obtain⟨⟨h1,h2⟩,h3⟩:=h
 obtain⟨hr,hl⟩:=hm.le h1
 cases r with
 |nil=>exact absurd rfl h2
 |cons c r=>
  refine⟨by simp,hl,?_⟩
  rw[Ru hr]
  simp only[List.getD_cons_zero,List.drop_one,List.tail_cons] at h3⊢
  by_cases FD:c=41
  ·rw[iP FD,iP FD]
  ·rw[iN FD,iN FD]
   rw[show(32:Int)=((32:Nat):Int) from rfl,show(41:Int)=((41:Nat):Int) from rfl,Il de,Il de,Bool.and_eq_false_iff] at h3
   rcases h3 with h3|h3
   ·rw[iP (by simpa using h3)]
   ·exact absurd (by simpa using h3) FD
theorem aah {ok:Bool} (hl:s.length<=12000) (hm:zu 60 s t r ok):(ok&&decide (r=[]))=(bB s).isSome∧∀t',bB s=some t'->t=t':=by grind [zu,bB]
theorem aai (h1:n1=b.ck.length) (h2:n2=b.code.length) 
  (h:(((!nk b.aM||decide ((12000:Int)<(b.aM.length:Int)))||decide ((40:Int)<(n1:Int)))||!(decide ((1:Int)<=(n2:Int))&&decide ((n2:Int)<=80)))=true):nY b=false:=by grind [nY,BC,cW.length,QZ,Ij,QR]
theorem aaj (h1:n1=b.ck.length) (h2:n2=b.code.length) 
  (h:(((!nk b.aM||decide ((12000:Int)<(b.aM.length:Int)))||decide ((40:Int)<(n1:Int)))||!(decide ((1:Int)<=(n2:Int))&&decide ((n2:Int)<=80)))=false):
  (nk b.aM&&decide (b.ck.length<=40)&&(decide (1<=b.code.length)&&decide (b.code.length<=80)))=true∧BC b=true:=by grind [BC,cW.length,Ij,QQ]
theorem aak (hi:i<b.ck.length) (h:sh (cv b.ck i)=false):nY b=false:=by
 unfold nY;rw[Q0 hi h];rfl
theorem aal (hi:i<b.code.length) (h:rl b.code i=false):nY b=false:=by
 unfold nY;rw[Q1 hi h];rfl
theorem aam (h:sh s=true) (ht:∀t',bB s=some t'->t=t'):t=tr s:=by grind [bB,tr,seen]
theorem Rv {code:List ai} {n:Nat} (hn:n=code.length) (hi:i<n) (ht:∀t',bB (cv code i)=some t'->t=t'):
  ((!(bB (cv code i)).isSome||!lY t)||(FB t !=decide ((i:Int)=(n:Int)-1)))=!rl code i:=by grind [Ln,Rc,seen,bB,lr,Z2]
theorem aan {code:List ai} (h:rl code i=true) (ht:∀t',bB (cv code i)=some t'->t=t'):t=tr (cv code i):=by grind [rl,bB,tr,seen]
theorem Lz {α β:Type} (f:α->β) {xs:List α} {x:α} (h:xs[i]?=some x):(xs.take i).map f++[f x]=(xs.take (i+1)).map f:=by grind [List.getElem?_eq_some_iff,List.take_succ_eq_append_getElem]
theorem LA {α β:Type} (f:α->β) {xs:List α} (h:xs.length<=i):(xs.take i).map f=xs.map f:=by rw[List.take_of_length_le h]
theorem Im {α β:Type} (f:α->β) {xs:List α} (h:i<=xs.length):((xs.take i).map f).length=i:=by simp;omega
theorem DB (ht:∀t',bB s=some t'->t=t') (h:(bB s).isSome=true):WF t∧t.size<=12001:=by grind [bB,au.size,s8,zh]
def ru (ps:List eP) (l:ai):Int:=match ps.findIdx? (λb=>decide (b.aM=l)) with
 |some i=>(i:Int)
 |none=> -1
abbrev mw (ps:List eP) (i:Nat):eP:=ps.getD i ⟨[],[],[]⟩
theorem DC {ps:List eP} (h:i<ps.length):ps[i]?=some (mw ps i):=by grind
def FE (ps:List eP) (g:eP->Bool):Int:=match ps.findIdx? g with
 |some i=>(i:Int)
 |none=> -1
theorem LB {ps:List eP} (h:i<ps.length):mw ps i=ps[i]:=by grind
theorem aao {ts:List eP} {g:eP->Bool} (hk:k<ts.length) (h:∀i,i<k->g (mw ts i)=false) (hl:g (mw ts k)=true):FE ts g=(k:Int):=by
 have:ts.findIdx? g=some k:=by
  rw[List.findIdx?_eq_some_iff_getElem]
  refine⟨hk,by rw[<-LB hk];exact hl,λj hj=>?_⟩
  have:=h j hj
  rw[LB (Nat.lt_trans hj hk)] at this
  simpa using this
 unfold FE;rw[this]
theorem aap {ts:List eP} {g:eP->Bool} (h:∀i,i<ts.length->g (mw ts i)=false):FE ts g= -1:=by grind [LB,FE,List.findIdx?_eq_none_iff,List.getElem_of_mem]
theorem FF (h:i<bs.length):bR bs i=bs[i]:=by grind
theorem Rw (hk:k<bs.length):decide ((0:Int)<=ru ((bs.take k).map gW) (bR bs k).aM)=decide (mv bs (bR bs k).aM≠(k:Int)):=by
 refine decide_eq_decide.2 ?_
 by_cases hex:∃j,j<k∧(bR bs j).aM=(bR bs k).aM
 ·obtain⟨j,hj,hl⟩:=hex
  have h1:mv bs (bR bs k).aM≠k:=by
   intro h
   unfold mv at h
   cases hf:bs.findIdx? (λb=>decide (b.aM=(bR bs k).aM)) with
   |none=>rw[hf] at h;simp at h
   |some i=>
    rw[hf] at h
    have uw:i=k:=Int.ofNat.inj h
    subst uw
    rw[List.findIdx?_eq_some_iff_getElem] at hf
    obtain⟨_,_,cP⟩:=hf
    have:=cP j hj
    rw[<-FF] at this
    simp only[dE] at this
    exact this hl
  have h2:0<=ru ((bs.take k).map gW) (bR bs k).aM:=by
   unfold ru
   cases hf:((bs.take k).map gW).findIdx? (λb=>decide (b.aM=(bR bs k).aM)) with
   |some i=>simp
   |none=>
    rw[List.findIdx?_eq_none_iff] at hf
    have:=hf (gW (bR bs j)) (List.mem_map.2 ⟨bR bs j,by rw[List.mem_take_iff_getElem];exact⟨j,om,by simp[gE (show j<bs.length by omega)]⟩,rfl⟩)
    exact absurd hl (of_decide_eq_false this)
  exact⟨λ_=>h1,λ_=>h2⟩
 ·have h1:mv bs (bR bs k).aM=k:=Lm hk (λj hj hl=>hex ⟨j,hj,hl⟩) rfl
  have h2:ru ((bs.take k).map gW) (bR bs k).aM= -1:=by
   unfold ru
   have:((bs.take k).map gW).findIdx? (λb=>decide (b.aM=(bR bs k).aM))=none:=by
    rw[List.findIdx?_eq_none_iff]
    intro x hx
    obtain⟨b,hb,rfl⟩:=List.mem_map.1 hx
    obtain⟨j,hj,rfl⟩:=List.mem_take_iff_getElem.1 hb
    refine dF λhl=>hex ⟨j,om,?_⟩
    rw[bR,gG,gE om]
    exact hl
   rw[this]
  rw[h1,h2];constructor
  ·intro h;omega
  ·intro h;exact absurd rfl h
theorem aaq (hi:i<bs.length) (h:nY (bR bs i)=false∨mv bs (bR bs i).aM≠i):lv bs=false:=by grind [lv,gk,py,DA,nY,Q3]
theorem aar (h:∀i,i<bs.length->nY (bR bs i)=true∧mv bs (bR bs i).aM=i):
  lv bs=(decide (1<=bs.length)&&decide (bs.length<=40)&&decide ((bR bs 0).aM=[109,97,105,110])&&decide ((bR bs 0).ck.length=0)):=by
 unfold lv
 rw[Q4 (λi hi=>⟨by have:=(h i hi).1;unfold nY at this;rw[aE] at this;exact this.1,(h i hi).2⟩),show bs.all BC=true from ?_,Bool.and_true]
 refine List.all_eq_true.2 λb hb=>?_
 obtain⟨i,hi,rfl⟩:=List.getElem_of_mem hb
 have:=(h i hi).1
 unfold nY at this
 rw[aE] at this
 rw[bR,gG,gE hi] at this
 exact this.2
theorem aas (h:¬(1<=bs.length∧bs.length<=40)):lv bs=false:=by grind [lv,gk]
theorem LC:∀(ts:List au) (t:au),ts≠[]->lq (ts++[t])=lq ts++32::t.text
 |[],_,h=>absurd rfl h
 |[u],t,_=>by rw[List.cons_append,List.nil_append,rq,rp,rp]
 |u::v::r,t,_=>by
  have:=LC (v::r) t sm
  rw[List.cons_append,List.cons_append,rq,<-List.cons_append,this,rq];simp
def pre (ts:List au):ai:=if ts=[] then[] else 40::lq ts
theorem aat (hk:k<ps.length):pre (ps.take (k+1))=pre (ps.take k)++((if k=0 then 40 else 32)::(nth ps k).text):=by
 have e:ps.take (k+1)=ps.take k++[nth ps k]:=by rw[List.take_succ_eq_append_getElem hk,Fz hk]
 rw[e]
 by_cases h0:k=0
 ·subst h0;simp[pre,rp]
 ·have dH:ps.take k≠[]:=by intro h;have:=congrArg List.length h;rw[List.length_take] at this;simp only[List.length_nil] at this;omega
  unfold pre
  rw[iN sm,iN dH,LC _ _ dH,iN h0];simp
theorem aau (cL:WF t) (h:t.ak.length≠0):pre (t.ak.take t.ak.length)++[41]=t.text:=by
 cases cL with
 |aw a _=>simp[au.ak] at h
 |list ps hp _=>
  rw[tj]
  show pre (ps.take ps.length)++[41]=_
  rw[List.take_length]
  unfold pre;rw[iN hp];simp
theorem aav (cL:WF t) (h:t.ak.length=0):t.text=t.aw:=by
 cases cL with
 |aw a ha=>exact rm ha
 |list ps hp _=>exact absurd (List.length_eq_zero_iff.1 h) hp
theorem an9 (cL:WF t) (hk:k<=t.ak.length):(pre (t.ak.take k)).length<=t.text.length:=by
 by_cases h:t.ak.length=0
 ·rw[show k=0 from by omega];simp[pre]
 ·rw[<-aau cL h,lA]
  have mono:∀j,k<=j->j<=t.ak.length->(pre (t.ak.take k)).length<=(pre (t.ak.take j)).length:=by
   intro j hj
   induction j with
   |zero=>intro _;rw[show k=0 from by omega];exact lR _
   |succ j ih=>
    intro vC
    rcases Nat.lt_or_ge k (j+1) with h|h
    ·have:=ih om om
     rw[aat om,lA];omega
    ·rw[show k=j+1 from by omega];exact lR _
  have:=mono _ hk (lR _)
  omega
def uy (ts:List au):ai:=40::lq ts
theorem Rx (hk:k<ps.length):uy (ps.take (k+1))=(uy (ps.take k)++(if k=0 then[] else[32]))++(nth ps k).text:=by
 have e:ps.take (k+1)=ps.take k++[nth ps k]:=by rw[List.take_succ_eq_append_getElem hk,Fz hk]
 rw[e]
 by_cases h0:k=0
 ·subst h0;simp[uy,rp,lq]
 ·have dH:ps.take k≠[]:=by intro h;have:=congrArg List.length h;rw[List.length_take] at this;simp only[List.length_nil] at this;omega
  unfold uy
  rw[LC _ _ dH,iN h0];simp
theorem Ry (cL:WF t) (h:t.aw=[]):uy (t.ak.take t.ak.length)++[41]=t.text:=by
 cases cL with
 |aw a ha=>exact absurd h ha
 |list ps hp _=>
  rw[tj]
  show uy (ps.take ps.length)++[41]=_
  rw[List.take_length];rfl
theorem LD (cL:WF t) (ha:t.aw=[]) (hk:k<=t.ak.length):(uy (t.ak.take k)).length<=t.text.length:=by
 rw[<-Ry cL ha,lA]
 have mono:∀j,k<=j->j<=t.ak.length->(uy (t.ak.take k)).length<=(uy (t.ak.take j)).length:=by
  intro j hj
  induction j with
  |zero=>intro _;rw[show k=0 from by omega];exact lR _
  |succ j ih=>
   intro vC
   rcases Nat.lt_or_ge k (j+1) with h|h
   ·have:=ih om om
    rw[Rx om,lA,lA];omega
   ·rw[show k=j+1 from by omega];exact lR _
 have:=mono _ hk (lR _)
 omega
structure Rz (t:au):Prop where
 wf:WF t
 size:t.size<=12001
 text:t.text.length<=12000
theorem aaw (h:bB s=some t):Rz t:=by
 obtain⟨h1,h2,h3,h4⟩:=vM h
 exact⟨h1.wf,zh h,by rw[h3];exact h4⟩
/-! ### Texts joined -/
theorem RA (a b:List ai):p5 (a++b)=p5 a++p5 b:=by simp[p5]
def uz (h:ai) (ps:List ai) (k:Nat):ai:=40::(h++p5 (ps.take k))
theorem aax {ps:List ai} (hk:k<ps.length):uz h ps (k+1)=(uz h ps k++[32])++cv ps k:=by
 unfold uz
 rw[List.take_succ_eq_append_getElem hk,RA]
 simp[p5,cv,gE hk]
theorem aay {ps:List ai} (hk:ps.length<=k):uz h ps k++[41]=dP h ps:=by
 unfold uz dP;rw[List.take_of_length_le hk];simp
theorem aaz {ps:List ai} (k:Nat):(uz h ps k).length+1<=(dP h ps).length:=by
 have:(p5 (ps.take k)).length<=(p5 ps).length:=by
  have:=RA (ps.take k) (ps.drop k)
  rw[List.take_append_drop] at this
  rw[this,lA];omega
 simp[uz,dP];omega
/-! ### What the laws count -/
def js (xs:List ai):Nat:=xs.length+(xs.map List.length).sum
theorem RB (ps:List ai):(p5 ps).length=js ps:=by induction ps<;>grind [p5,js]
/-! ### A list that is filled -/
def fill {α:Type} (d:α) (xs:List α) (k:Nat):List α:=xs.take k++List.replicate (xs.length-k) d
theorem aaA:NG Tryz.f100:=ng
theorem aaB:NG Tryz.f101:=ng
theorem aaC:NG Tryz.f102:=ng
theorem aaD:NG Tryz.f103:=ng
theorem aaE:NG Tryz.f106:=ng
theorem aaF:NG Tryz.f108:=ng
theorem aaG:NG Tryz.f109:=ng
theorem aaH:NG Tryz.f110:=ng
theorem aaI:NG Tryz.f111:=ng
theorem aaJ:NG Tryz.f113:=ng
theorem aaK:NG Tryz.f114:=ng
theorem RC:NG Tryz.f116:=ng
theorem aaL:NG Tryz.f118:=ng
theorem aaM:NG Tryz.f119:=ng
theorem aaN:NG Tryz.f120:=ng
theorem aaO:NG Tryz.f122:=ng
theorem aaP:NG Tryz.f126:=ng
theorem aaQ:NG Tryz.f127:=ng
theorem aaR:NG Tryz.f128:=ng
theorem aaS:NG Tryz.f129:=ng
theorem aaT:NG Tryz.f130:=ng
theorem aaU:NG Tryz.f131:=ng
theorem RD:NG Tryz.f132:=ng
theorem aaV:NG Tryz.f133:=ng
theorem aaW:NG Tryz.f134:=ng
theorem aaX:NG Tryz.f135:=ng
theorem aaY:NG Tryz.f136:=ng
theorem aaZ:NG Tryz.f137:=ng
theorem aa0:NG Tryz.f138:=ng
theorem aa1:NG Tryz.f139:=ng
theorem aa2:NG Tryz.f142:=ng
theorem aa3:NG Tryz.f143:=ng
theorem aa4:NG Tryz.f144:=ng
theorem aa5:NG Tryz.f145:=ng
theorem aa6:NG Tryz.f146:=ng
theorem aa7:NG Tryz.f150:=ng
theorem aa8:NG Tryz.f151:=ng
theorem aa9:NG Tryz.f152:=ng
theorem aba:NG Tryz.f153:=ng
theorem abb:NG Tryz.f154:=ng
theorem abc:NG Tryz.f155:=ng
theorem abd:NG Tryz.f156:=ng
theorem abe:NG Tryz.f157:=ng
theorem abf:NG Tryz.f158:=ng
theorem abg:NG Tryz.f159:=ng
theorem abh:NG Tryz.f16:=ng
theorem abi:NG Tryz.f160:=ng
theorem abj:NG Tryz.f161:=ng
theorem abk:NG Tryz.f162:=ng
theorem abl:NG Tryz.f163:=ng
theorem abm:NG Tryz.f165:=ng
theorem abn:NG Tryz.f166:=ng
theorem abo:NG Tryz.f168:=ng
theorem abp:NG Tryz.f169:=ng
theorem abq:NG Tryz.f170:=ng
theorem abr:NG Tryz.f172:=ng
theorem abt:NG Tryz.f173:=ng
theorem abu:NG Tryz.f174:=ng
theorem abv:NG Tryz.f179:=ng
theorem abw:NG Tryz.f180:=ng
theorem abx:NG Tryz.f181:=ng
theorem aby:NG Tryz.f182:=ng
theorem abz:NG Tryz.f183:=ng
theorem abA:NG Tryz.f184:=ng
theorem abB:NG Tryz.f185:=ng
theorem abC:NG Tryz.f186:=ng
theorem abD:NG Tryz.f187:=ng
theorem abE:NG Tryz.f188:=ng
theorem abF:NG Tryz.f189:=ng
theorem abG:NG Tryz.f190:=ng
theorem abH:NG Tryz.f191:=ng
theorem abI:NG Tryz.f192:=ng
theorem abJ:NG Tryz.f193:=ng
theorem abK:NG Tryz.f194:=ng
theorem abL:NG Tryz.f195:=ng
theorem abM:NG Tryz.f196:=ng
theorem abN:NG Tryz.f197:=ng
theorem RE:NG Tryz.f198:=ng
theorem abO:NG Tryz.f199:=ng
theorem abP:NG Tryz.f20:=ng
theorem abQ:NG Tryz.f200:=ng
theorem abR:NG Tryz.f201:=ng
theorem abS:NG Tryz.f202:=ng
theorem abT:NG Tryz.f203:=ng
theorem abU:NG Tryz.f216:=ng
theorem abV:NG Tryz.f217:=ng
theorem abW:NG Tryz.f218:=ng
theorem abX:NG Tryz.f219:=ng
theorem abY:NG Tryz.f220:=ng
theorem abZ:NG Tryz.f221:=ng
theorem ab0:NG Tryz.f222:=ng
theorem ab1:NG Tryz.f223:=ng
theorem ab2:NG Tryz.f224:=ng
theorem ab3:NG Tryz.f225:=ng
theorem ab4:NG Tryz.f226:=ng
theorem ab5:NG Tryz.f227:=ng
theorem LF:NG Tryz.f228:=ng
theorem ab6:NG Tryz.f229:=ng
theorem ab7:NG Tryz.f239:=ng
theorem ab8:NG Tryz.f240:=ng
theorem ab9:NG Tryz.f241:=ng
theorem aca:NG Tryz.f242:=ng
theorem acb:NG Tryz.f243:=ng
theorem acd:NG Tryz.f244:=ng
theorem ace:NG Tryz.f249:=ng
theorem acf:NG Tryz.f25:=ng
theorem acg:NG Tryz.f26:=ng
theorem ach:NG Tryz.f27:=ng
theorem aci:NG Tryz.f28:=ng
theorem acj:NG Tryz.f29:=ng
theorem ack:NG Tryz.f30:=ng
theorem acm:NG Tryz.f31:=ng
theorem acn:NG Tryz.f32:=ng
theorem aco:NG Tryz.f33:=ng
theorem acp:NG Tryz.f37:=ng
theorem acq:NG Tryz.f38:=ng
theorem acr:NG Tryz.f39:=ng
theorem acs:NG Tryz.f40:=ng
theorem RF:NG Tryz.f42:=ng
theorem acu:NG Tryz.f43:=ng
theorem acv:NG Tryz.f54:=ng
theorem acw:NG Tryz.f55:=ng
theorem acx:NG Tryz.f56:=ng
theorem acy:NG Tryz.f57:=ng
theorem acz:NG Tryz.f58:=ng
theorem acA:NG Tryz.f59:=ng
theorem nm6:NG Tryz.f6:=ng
theorem acC:NG Tryz.f60:=ng
theorem acD:NG Tryz.f61:=ng
theorem acE:NG Tryz.f62:=ng
theorem acF:NG Tryz.f63:=ng
theorem acG:NG Tryz.f64:=ng
theorem acH:NG Tryz.f65:=ng
theorem acI:NG Tryz.f66:=ng
theorem acJ:NG Tryz.f69:=ng
theorem acK:NG Tryz.f70:=ng
theorem acL:NG Tryz.f71:=ng
theorem Io:NG Tryz.f72:=ng
theorem acM:NG Tryz.f79:=ng
theorem acN:NG Tryz.f80:=ng
theorem acO:NG Tryz.f82:=ng
theorem acP:NG Tryz.f83:=ng
theorem acQ:NG Tryz.f87:=ng
theorem acR:NG Tryz.f88:=ng
theorem acS:NG Tryz.f89:=ng
theorem acT:NG Tryz.f90:=ng
theorem acU:NG Tryz.f91:=ng
theorem acV:NG Tryz.f92:=ng
theorem acW:NG Tryz.f93:=ng
theorem acX:NG Tryz.f94:=ng
theorem acY:NG Tryz.f95:=ng
theorem acZ:NG Tryz.f96:=ng
theorem ac0:NG Tryz.f97:=ng
theorem ac1:NG Tryz.f98:=ng
theorem ac2:NG Tryz.f99:=ng
theorem ac3:ri Tryz.prog 152=true:=by kernel_rfl
theorem RG:ri Tryz.prog 166=true:=by kernel_rfl
theorem xA:ri Tryz.prog 43=true:=by kernel_rfl
theorem FG:ri Tryz.prog 56=true:=by kernel_rfl
theorem DD:ri Tryz.prog 58=true:=by kernel_rfl
theorem uA:ri Tryz.prog 66=true:=by kernel_rfl
theorem eQ:ri Tryz.prog 74=true:=by kernel_rfl
theorem ac4:∀(x0a:Option Addr) (x0n x0c:Nat) (w:World),(Instr.build 102 #[(0,(.slice x0a x0n x0c))]).run Tryz.prog w= .ok (.agg #[.slice x0a x0n x0c,.int .i64 0]) w:=by intros;kernel_rfl
theorem LG:∀(x0a:Option Addr) (x0n x0c:Nat) (x1a:Option Addr) (x1n x1c:Nat) (w:World),(Instr.build 152 #[(0,(.slice x0a x0n x0c)),(1,(.slice x1a x1n x1c))]).run Tryz.prog w= .ok (.agg #[.slice x0a x0n x0c,.slice x1a x1n x1c]) w:=by intros;kernel_rfl
theorem ac5:∀(x0a:Option Addr) (x0n x0c:Nat) (x1a:Option Addr) (x1n x1c:Nat) (w:World),(Instr.build 164 #[(0,(.slice x0a x0n x0c)),(1,(.slice x1a x1n x1c))]).run Tryz.prog w= .ok (.agg #[.slice x0a x0n x0c,.slice x1a x1n x1c,.int .i64 0,.bool false,.slice none 0 0,.slice none 0 0]) w:=by intros;kernel_rfl
theorem ac6:∀(x0a:Option Addr) (x0n x0c:Nat) (x1:Int) (x2a:Option Addr) (x2n x2c:Nat) (x3a:Option Addr) (x3n x3c:Nat) (w:World),(Instr.build 190 #[(0,(.slice x0a x0n x0c)),(1,(.int .i64 x1)),(2,(.slice x2a x2n x2c)),(3,(.slice x3a x3n x3c))]).run Tryz.prog w= .ok (.agg #[.slice x0a x0n x0c,.int .i64 x1,.slice x2a x2n x2c,.slice x3a x3n x3c]) w:=by intros;kernel_rfl
theorem ac7:∀(x0a:Option Addr) (x0n x0c:Nat) (x1:Int) (w:World),(Instr.build 228 #[(0,(.slice x0a x0n x0c)),(1,(.int .i64 x1))]).run Tryz.prog w= .ok (.agg #[.slice x0a x0n x0c,.int .i64 x1]) w:=by intros;kernel_rfl
theorem RH:∀(w:World),(Instr.build 43 #[]).run Tryz.prog w= .ok (.agg #[.string ⟨#[]⟩,.int .i64 0,.slice none 0 0,.slice none 0 0]) w:=by intros;kernel_rfl
theorem ac8:∀(x0:ByteArray) (x1:Int) (x2a:Option Addr) (x2n x2c:Nat) (x3a:Option Addr) (x3n x3c:Nat) (w:World),(Instr.build 43 #[(0,(.string x0)),(1,(.int .i64 x1)),(2,(.slice x2a x2n x2c)),(3,(.slice x3a x3n x3c))]).run Tryz.prog w= .ok (.agg #[.string x0,.int .i64 x1,.slice x2a x2n x2c,.slice x3a x3n x3c]) w:=by intros;kernel_rfl
theorem ac9:∀(x0:ByteArray) (x2a:Option Addr) (x2n x2c:Nat) (w:World),(Instr.build 43 #[(0,(.string x0)),(2,(.slice x2a x2n x2c))]).run Tryz.prog w= .ok (.agg #[.string x0,.int .i64 0,.slice x2a x2n x2c,.slice none 0 0]) w:=by intros;kernel_rfl
theorem LH:∀(w:World),(Instr.build 56 #[]).run Tryz.prog w= .ok (.agg #[.string ⟨#[]⟩,.slice none 0 0,.slice none 0 0]) w:=by intros;kernel_rfl
theorem ada:∀(x0:ByteArray) (w:World),(Instr.build 56 #[(0,(.string x0))]).run Tryz.prog w= .ok (.agg #[.string x0,.slice none 0 0,.slice none 0 0]) w:=by intros;kernel_rfl
theorem LI:∀(x0:ByteArray) (x1a:Option Addr) (x1n x1c:Nat) (x2a:Option Addr) (x2n x2c:Nat) (w:World),(Instr.build 58 #[(0,(.string x0)),(1,(.slice x1a x1n x1c)),(2,(.slice x2a x2n x2c))]).run Tryz.prog w= .ok (.agg #[.string x0,.slice x1a x1n x1c,.slice x2a x2n x2c]) w:=by intros;kernel_rfl
theorem LJ:∀(w:World),(Instr.build 66 #[]).run Tryz.prog w= .ok (.agg #[.string ⟨#[]⟩,.slice none 0 0]) w:=by intros;kernel_rfl
theorem adb:∀(x0:ByteArray) (w:World),(Instr.build 66 #[(0,(.string x0))]).run Tryz.prog w= .ok (.agg #[.string x0,.slice none 0 0]) w:=by intros;kernel_rfl
theorem FH:∀(w:World),(Instr.build 74 #[]).run Tryz.prog w= .ok (.agg #[.string ⟨#[]⟩,.slice none 0 0]) w:=by intros;kernel_rfl
theorem ade:∀(x0:ByteArray) (w:World),(Instr.build 74 #[(0,(.string x0))]).run Tryz.prog w= .ok (.agg #[.string x0,.slice none 0 0]) w:=by intros;kernel_rfl
theorem LK:∀(x1a:Option Addr) (x1n x1c:Nat) (w:World),(Instr.build 74 #[(1,(.slice x1a x1n x1c))]).run Tryz.prog w= .ok (.agg #[.string ⟨#[]⟩,.slice x1a x1n x1c]) w:=by intros;kernel_rfl
theorem adf:Tryz.prog.underlying 4=some .bool:=by kernel_rfl
theorem adg:fT Tryz.prog 102 0=some 0:=by kernel_rfl
theorem RI:fT Tryz.prog 102 1=some 1:=by kernel_rfl
theorem adh:fT Tryz.prog 152 0=some 0:=by kernel_rfl
theorem adi:fT Tryz.prog 152 1=some 1:=by kernel_rfl
theorem adj:fT Tryz.prog 164 0=some 0:=by kernel_rfl
theorem adk:fT Tryz.prog 164 1=some 1:=by kernel_rfl
theorem adl:fT Tryz.prog 164 2=some 2:=by kernel_rfl
theorem adm:fT Tryz.prog 164 3=some 3:=by kernel_rfl
theorem adn:fT Tryz.prog 164 4=some 4:=by kernel_rfl
theorem ado:fT Tryz.prog 164 5=some 5:=by kernel_rfl
theorem adp:fT Tryz.prog 166 0=some 0:=by kernel_rfl
theorem RJ:fT Tryz.prog 166 1=some 1:=by kernel_rfl
theorem adq:fT Tryz.prog 166 10=some 11:=by kernel_rfl
theorem adr:fT Tryz.prog 166 2=some 2:=by kernel_rfl
theorem Ip:fT Tryz.prog 166 3=some 3:=by kernel_rfl
theorem ads:fT Tryz.prog 166 4=some 4:=by kernel_rfl
theorem adt:fT Tryz.prog 166 5=some 5:=by kernel_rfl
theorem adu:fT Tryz.prog 166 6=some 6:=by kernel_rfl
theorem RK:fT Tryz.prog 166 7=some 7:=by kernel_rfl
theorem RL:fT Tryz.prog 166 8=some 9:=by kernel_rfl
theorem adv:fT Tryz.prog 166 9=some 10:=by kernel_rfl
theorem adw:fT Tryz.prog 190 0=some 0:=by kernel_rfl
theorem adx:fT Tryz.prog 190 1=some 1:=by kernel_rfl
theorem ady:fT Tryz.prog 190 2=some 2:=by kernel_rfl
theorem adz:fT Tryz.prog 190 3=some 3:=by kernel_rfl
theorem adA:fT Tryz.prog 228 0=some 0:=by kernel_rfl
theorem adB:fT Tryz.prog 228 1=some 1:=by kernel_rfl
theorem RM:fT Tryz.prog 43 0=some 0:=by kernel_rfl
theorem adC:fT Tryz.prog 43 1=some 1:=by kernel_rfl
theorem adD:fT Tryz.prog 43 2=some 2:=by kernel_rfl
theorem LL:fT Tryz.prog 43 3=some 3:=by kernel_rfl
theorem adE:fT Tryz.prog 56 0=some 0:=by kernel_rfl
theorem RO:fT Tryz.prog 56 1=some 1:=by kernel_rfl
theorem RP:fT Tryz.prog 56 2=some 2:=by kernel_rfl
theorem LM:fT Tryz.prog 58 0=some 0:=by kernel_rfl
theorem LN:fT Tryz.prog 58 1=some 1:=by kernel_rfl
theorem zv:fT Tryz.prog 58 2=some 2:=by kernel_rfl
theorem Iq:fT Tryz.prog 66 0=some 0:=by kernel_rfl
theorem RQ:fT Tryz.prog 66 1=some 1:=by kernel_rfl
theorem kY:fT Tryz.prog 74 0=some 0:=by kernel_rfl
theorem jt:fT Tryz.prog 74 1=some 1:=by kernel_rfl
theorem RR:TI Tryz.prog 113 2 32 (.agg #[.pointer none,.slice none 0 0]):=by unfold TI;kernel_rfl
theorem BD:TI Tryz.prog 152 2 48 (.agg #[.slice none 0 0,.slice none 0 0]):=by unfold TI;kernel_rfl
theorem Ir:TI Tryz.prog 162 1 24 (.slice none 0 0):=by unfold TI;kernel_rfl
theorem mx:TI Tryz.prog 166 12 216 (.agg #[.string ⟨#[]⟩,.slice none 0 0,.int .i64 0,.slice none 0 0,.slice none 0 0,.slice none 0 0,.slice none 0 0,.string ⟨#[]⟩,.slice none 0 0,.int .i64 0,.string ⟨#[]⟩,.int .i64 0]):=by unfold TI;kernel_rfl
theorem RS:TI Tryz.prog 23 1 24 (.slice none 0 0):=by unfold TI;kernel_rfl
theorem p6:TI Tryz.prog 3 1 8 (.int .i64 0):=by unfold TI;kernel_rfl
theorem kz:TI Tryz.prog 35 1 24 (.slice none 0 0):=by unfold TI;kernel_rfl
theorem RT:TI Tryz.prog 4 1 1 (.bool false):=by unfold TI;kernel_rfl
theorem LO:TI Tryz.prog 41 1 24 (.slice none 0 0):=by unfold TI;kernel_rfl
theorem iZ:TI Tryz.prog 43 4 72 (.agg #[.string ⟨#[]⟩,.int .i64 0,.slice none 0 0,.slice none 0 0]):=by unfold TI;kernel_rfl
theorem FI:TI Tryz.prog 5 1 1 (.int .u8 0):=by unfold TI;kernel_rfl
theorem Is:TI Tryz.prog 54 1 24 (.slice none 0 0):=by unfold TI;kernel_rfl
theorem nq:TI Tryz.prog 56 3 64 (.agg #[.string ⟨#[]⟩,.slice none 0 0,.slice none 0 0]):=by unfold TI;kernel_rfl
theorem gB:TI Tryz.prog 58 3 64 (.agg #[.string ⟨#[]⟩,.slice none 0 0,.slice none 0 0]):=by unfold TI;kernel_rfl
theorem fc:TI Tryz.prog 66 2 40 (.agg #[.string ⟨#[]⟩,.slice none 0 0]):=by unfold TI;kernel_rfl
theorem DE:TI Tryz.prog 72 1 24 (.slice none 0 0):=by unfold TI;kernel_rfl
theorem aL:TI Tryz.prog 74 2 40 (.agg #[.string ⟨#[]⟩,.slice none 0 0]):=by unfold TI;kernel_rfl
theorem bf:TI Tryz.prog 9 1 16 (.string ⟨#[]⟩):=by unfold TI;kernel_rfl
theorem RU:TI Tryz.prog 98 1 24 (.slice none 0 0):=by unfold TI;kernel_rfl
theorem Iv:Tryz.prog.underlying 181=some (.int .u64):=by kernel_rfl
theorem vO:Tryz.prog.underlying 3=some (.int .i64):=by kernel_rfl
theorem xB:Tryz.prog.underlying 5=some (.int .u8):=by kernel_rfl
theorem cT:Tryz.prog.follows .mixedOrders=true:=by kernel_rfl
theorem adF:pq Tryz.prog 162=true:=by kernel_rfl
theorem adG:pq Tryz.prog 22=true:=by kernel_rfl
theorem adH:pq Tryz.prog 23=true:=by kernel_rfl
theorem LQ:pq Tryz.prog 3=true:=by kernel_rfl
theorem tl:pq Tryz.prog 35=true:=by kernel_rfl
theorem RV:pq Tryz.prog 4=true:=by kernel_rfl
theorem FJ:pq Tryz.prog 41=true:=by kernel_rfl
theorem adI:pq Tryz.prog 5=true:=by kernel_rfl
theorem LR:pq Tryz.prog 54=true:=by kernel_rfl
theorem iG:pq Tryz.prog 72=true:=by kernel_rfl
theorem fA:pq Tryz.prog 9=true:=by kernel_rfl
theorem adJ:pq Tryz.prog 98=true:=by kernel_rfl
theorem zw:Tryz.prog.underlying 162=some (.slice 166):=by kernel_rfl
theorem BE:Tryz.prog.underlying 22=some (.slice 5):=by kernel_rfl
theorem jD:Tryz.prog.underlying 23=some (.slice 58):=by kernel_rfl
theorem bh:Tryz.prog.underlying 35=some (.slice 9):=by kernel_rfl
theorem BF:Tryz.prog.underlying 41=some (.slice 35):=by kernel_rfl
theorem BG:Tryz.prog.underlying 51=some (.slice 56):=by kernel_rfl
theorem p7:Tryz.prog.underlying 54=some (.slice 66):=by kernel_rfl
theorem cB:Tryz.prog.underlying 72=some (.slice 74):=by kernel_rfl
theorem DF:Tryz.prog.underlying 98=some (.slice 3):=by kernel_rfl
theorem ia:Tryz.prog.underlying 9=some .string:=by kernel_rfl
/-! ### Packages have two ak -/
inductive DG:au->Prop
 |aw (a:ai):DG (.mk a [])
 |list (ps:List au) (h:Rs ps=[101]->ps.length=2) (hp:∀p,p∈ps->DG p):DG (.mk [] ps)
theorem adK (cL:WF t):∀h,eY h t=true->DG t:=by
 induction cL with
 |aw a _=>intro _ _;exact .aw a
 |list ps hp hw ih=>
  intro h ht
  cases ps with
  |nil=>exact absurd rfl hp
  |cons hd rest=>
   have p8:∀a,hd.aw=a->a≠[]->DG hd:=λa ha dH=>by
    have:=hw hd sm
    cases this with
    |aw b _=>exact .aw b
    |list qs _ _=>exact absurd ha.symm dH
   unfold eY at ht
   simp only[ne_eq,not_true,if_false] at ht
   by_cases he:hd.aw=[101]
   ·rw[iP he] at ht
    cases rest with
    |nil=>simp[eY.oneT] at ht
    |cons x r2=>
     cases r2 with
     |nil=>
      refine .list _ (λ_=>rfl) λp rr=>?_
      simp only[mC,List.not_mem_nil,or_false] at rr
      rcases rr with rfl|rfl
      ·exact p8 _ he de
      ·exact ih p sm true ht
     |cons y r3=>simp[eY.oneT] at ht
   ·rw[iN he] at ht
    by_cases tq:hd.aw=[116]∨hd.aw=[99]
    ·rw[iP tq,Lf,List.all_eq_true] at ht
     refine .list _ (λh=>absurd h he) λp rr=>?_
     rcases mC.1 rr with rfl|rr
     ·rcases tq with h|h
      ·exact p8 _ h de
      ·exact p8 _ h de
     ·exact ih p (by simp[rr]) h (ht p rr)
    ·rw[iN tq] at ht;cases ht
/-! ### States -/
structure LS (t:au):Prop where
 nZ:Good t
 fits:Rr t=true
 eok:DG t
def OkP (p:List eP):Prop:=p.length<=1000000∧∀b,b∈p->b.regs.length<=40∧∀t,t∈b.regs->LS t
theorem FK (h:lY t=true):eZ (cg t) t.ak.length≠[]∧t.ak.length=(eZ (cg t) t.ak.length).length+1∧
  ∀i,i<(eZ (cg t) t.ak.length).length->ga (((eZ (cg t) t.ak.length).getD i 0).toNat:Int) (nth t.ak (i+1))=true:=by
 unfold lY at h
 split at h
 ·cases h
 ·rename_i hn
  exact⟨λh=>hn (.inl h),Classical.not_not.1 λh=>hn (.inr h),of_decide_eq_true h⟩
/-! ### What it gives -/
section
variable {p:List eP} {st:TS} {o:Nat} {t:au}
end
/-! ### Sizes of what is given -/
theorem size_pos (t:au):1<=t.size:=by have:=vL t;omega
theorem LU (t:au):∀m,t.size<=m->WF t->t.text.length+1<=2*t.size:=by
 intro m
 induction m generalizing t with
 |zero=>intro h;have:=size_pos t;omega
 |succ m ih=>
  intro hm cL
  cases cL with
  |aw a ha=>rw[rm ha];simp only[au.size,au.size.sizes];omega
  |list ps hp hw=>
   rw[tj]
   have e:(au.mk [] ps).size=1+au.size.sizes ps:=by simp[au.size]
   rw[e]
   have adM:∀qs:List au,qs≠[]->(∀p,p∈qs->p.text.length+1<=2*p.size)->(lq qs).length+1<=2*au.size.sizes qs:=by
    intro qs
    induction qs with
    |nil=>intro h;exact absurd rfl h
    |cons q qs xp=>
     intro _ h
     have h1:=h q sm
     cases qs with
     |nil=>rw[rp];simp only[au.size.sizes];omega
     |cons u us=>
      have h2:=xp sm (λp hp=>h p (by simp[hp]))
      rw[rq];simp only[au.size.sizes,lA,lC] at h2⊢;omega
   have az:=adM ps hp (λp rr=>by
    obtain⟨i,hi,rfl⟩:=List.getElem_of_mem rr
    have h3:=QK (t:=.mk [] ps) (p:=ps[i]) (i:=i) (gE hi)
    exact ih _ om (hw _ rr))
   simp only[lC,lA,List.length_nil];omega
section
variable {p:List eP} {st:TS} {o:Nat} {t:au}
end
/-! ### Blocks -/
structure FL (b:eP):Prop where
 regs:b.regs.length<=40
 rok:∀t,t∈b.regs->LS t
 code:b.code.length<=80
 cok:∀t,t∈b.code->Rz t∧Good t∧lY t=true
theorem adN (h:bB s=some t) (ht:eY false t=true):LS t:=by
 obtain⟨h1,h2,h3,h4⟩:=vM h
 refine⟨h1,?_,adK h1.wf _ ht⟩
 unfold Rr
 rw[aE,dE,dE,Z7 h1.wf,h3]
 exact⟨h2,h4⟩
theorem adO (h:lu b=true):FL (gW b):=by
 obtain⟨_,h2,h3⟩:=Rq h
 unfold lu at h
 simp only[aE,dE] at h
 refine⟨by simp[gW];omega,λt ht=>?_,by simp[gW];omega,λt ht=>?_⟩
 ·obtain⟨s,hs,rfl⟩:=List.mem_map.1 ht
  obtain⟨u,hu,hq⟩:=h2 s hs
  rw[Rm hu];exact adN hu hq
 ·obtain⟨s,hs,rfl⟩:=List.mem_map.1 ht
  obtain⟨u,hu,hq⟩:=h3 s hs
  rw[Rm hu];exact⟨aaw hu,(vM hu).1,by rw[Rc];exact hq⟩
theorem adP (h:gk bs=true):OkP (bs.map gW)∧∀b,b∈bs.map gW->FL b:=by
 have hb:=DA h
 have cP:∀b,b∈bs.map gW->FL b:=λb hm=>by
  obtain⟨k,hk,rfl⟩:=List.mem_map.1 hm
  exact adO (hb k hk)
 refine⟨⟨?_,λb hm=>⟨(cP b hm).regs,(cP b hm).rok⟩⟩,cP⟩
 unfold gk at h
 simp only[aE,dE] at h
 simp;omega
theorem adQ (h:Good t):t.text≠[]:=by grind [Ri]
structure DH (s:ai) (t:au):Prop where
 some:∀t',bB s=some t'->t=t'
 none:s=[]->cg t=[]
theorem RW:bB []=none:=by decide
/-! ### Types -/
inductive Ty where
 |i
 |op (f:Bool) (a b:Ty)
def jP (f:Bool):ai:=if f then[62] else[42]
def Ty.aq:Ty->au
 | .i=>bL [105]
 | .op f a b=>.mk [] [bL (jP f),a.aq,b.aq]
def Ty.text (t:Ty):ai:=t.aq.text
def Ty.n:Ty->Nat
 | .i=>1
 | .op _ a b=>1+a.n+b.n
theorem adR (f:Bool):Good (bL (jP f)):=by cases f<;>exact .aw _ de de
theorem Ty.nZ (t:Ty):Good t.aq:=by
 induction t with
 |i=>exact .aw _ de de
 |op f a b iha ihb=>
  refine .list _ sm λp hp=>?_
  simp only[mC,List.not_mem_nil,or_false] at hp
  rcases hp with rfl|rfl|rfl
  ·exact adR f
  ·exact iha
  ·exact ihb
theorem adS (f:Bool):(bL (jP f)).text=jP f:=by cases f<;>exact rm de
theorem Ty.LV:Ty.i.text=[105]:=rm de
theorem Ty.Iw (f:Bool) (a b:Ty):(Ty.op f a b).text=40::(jP f++32::(a.text++32::(b.text++[41]))):=by
 show(au.mk [] [bL (jP f),a.aq,b.aq]).text=_
 rw[tj,rq,rq,rp,adS]
 simp[Ty.text]
theorem LW (f:Bool):(jP f).length=1:=by cases f<;>rfl
theorem Ty.pos (t:Ty):1<=t.n:=by cases t<;>simp[Ty.n];omega
theorem Ty.len (t:Ty):t.text.length+3<=4*t.n:=by induction t<;>grind [Ty.LV,Ty.n,Ty.Iw,LW]
theorem Ty.deep (t:Ty):t.aq.depth+1<=t.n:=by
 induction t with
 |i=>simp[Ty.aq,bL,au.depth,au.depth.deeps,Ty.n]
 |op f a b iha ihb=>
  have h0:(bL (jP f)).depth=0:=rfl
  have h1:=a.pos
  have h2:=b.pos
  show au.depth.deeps [bL (jP f),a.aq,b.aq]+1<=_
  simp only[au.depth.deeps,h0,Ty.n]
  omega
theorem Ty.size (t:Ty):t.aq.size<=5*t.n:=by
 induction t with
 |i=>simp[Ty.aq,bL,au.size,au.size.sizes,Ty.n]
 |op f a b iha ihb=>
  have h0:(bL (jP f)).size=2:=by cases f<;>rfl
  show 1+0+au.size.sizes [bL (jP f),a.aq,b.aq]<=_
  simp only[au.size.sizes,h0,Ty.n];omega
theorem Ty.bB {t:Ty} (h:t.n<=60):bB t.text=some t.aq:=Lv t.nZ (by have:=t.deep;omega) (by have:=t.len;show t.text.length<=_;omega)
theorem Ty.ne (t:Ty):t.text≠[]:=adQ t.nZ
theorem FM:∀{t u:Ty},t.aq=u.aq->t=u
 | .i,.i,_=>rfl
 | .i,.op _ _ _,h=>by simp[Ty.aq,bL] at h
 | .op _ _ _,.i,h=>by simp[Ty.aq,bL] at h
 | .op f a b,.op g c d,h=>by
  simp only[Ty.aq,au.mk.injEq,true_and,List.cons.injEq,and_true] at h
  obtain⟨h1,h2,h3⟩:=h
  rw[FM h2,FM h3]
  cases f<;>cases g<;>first|rfl|(simp[bL,jP] at h1)
theorem Ty.inj {t u:Ty} (h:t.text=u.text):t=u:=FM (Lu t.nZ u.nZ h)
/-! ### Forms that are types -/
mutual
def fg:au->Nat
 | .mk a ps=>if a≠[] then 1 else ju ps
def ju:List au->Nat
 |[]=>0
 |t::ts=>fg t+ju ts
end
theorem RX:∀(xs ys:List au),ju (xs++ys)=ju xs+ju ys:=by intro x;induction x<;>grind [ju]
theorem LX (t:au):fg t=if t.aw≠[] then 1 else ju t.ak:=by cases t with|mk a ps=>rw[fg];rfl
theorem RY (h:ps[i]?=some p):ju (ps.take (i+1))=ju (ps.take i)+fg p:=by
 rw[List.take_add_one,h,RX];simp[ju]
mutual
theorem adT:∀t:au,fg t<=t.size
 | .mk a ps=>by
  have:=LY ps
  unfold fg
  simp only[au.size]
  split<;>omega
theorem LY:∀ps:List au,ju ps<=au.size.sizes ps
 |[]=>by simp[ju]
 |t::ts=>by
  have h1:=adT t
  have h2:=LY ts
  simp only[ju,au.size.sizes];omega
end
theorem LZ {a:ai} (h:a≠[]):fg (bL a)=1:=by simp[fg,bL,h]
theorem Ty.fg (t:Ty):fg t.aq=t.n:=by
 induction t with
 |i=>simp[Ty.aq,LZ,Ty.n]
 |op f a b iha ihb=>
  have h0:Go.Proofs.YthbhobaiopccaaaGreatDoor.fg (bL (jP f))=1:=LZ (by cases f<;>decide)
  show Go.Proofs.YthbhobaiopccaaaGreatDoor.fg (.mk [] [bL (jP f),a.aq,b.aq])=_
  simp only[Go.Proofs.YthbhobaiopccaaaGreatDoor.fg,ju,h0,iha,ihb,Ty.n]
  simp;omega
mutual
def oI:au->Bool
 | .mk a ps=>if a≠[] then decide (a=[105]) else sj ps
def sj:List au->Bool
 |[h,x,y]=>(decide (h.aw=[62])||decide (h.aw=[42]))&&(oI x&&oI y)
 |_=>false
end
theorem RZ (t:au):oI t=if t.aw≠[] then decide (t.aw=[105]) else sj t.ak:=by cases t with|mk a ps=>rw[oI];rfl
theorem adU (hw:WF t):oI t=true↔∃u:Ty,t=u.aq:=by
 constructor
 ·intro h
  have key:∀m (t:au),t.size<=m->WF t->oI t=true->∃u:Ty,t=u.aq:=by
   intro m
   induction m with
   |zero=>intro t ht;have:=vL t;omega
   |succ m ih=>
    intro t hm hw h
    cases hw with
    |aw a ha=>
     simp only[oI,iP ha,dE] at h
     exact⟨.i,by rw[h];rfl⟩
    |list ps hp hw=>
     simp only[oI] at h
     rw[iN de] at h
     match ps,h with
     |[hd,x,y],h=>
      simp only[sj,aE,oE,dE] at h
      obtain⟨hs,hx,hy⟩:=h
      simp only[au.size,au.size.sizes] at hm
      obtain⟨u,rfl⟩:=ih x om (hw x sm) hx
      obtain⟨v,rfl⟩:=ih y om (hw y sm) hy
      have p8:∀s:ai,s≠[]->hd.aw=s->hd=bL s:=λs nX e=>by
       have hwh:=hw hd sm
       cases hwh with
       |aw a ha=>cases e;rfl
       |list qs _ _=>exact absurd e.symm nX
      rcases hs with hs|hs
      ·exact⟨.op true u v,by rw[p8 _ de hs];rfl⟩
      ·exact⟨.op false u v,by rw[p8 _ de hs];rfl⟩
  exact key t.size t (lR _) hw h
 ·rintro⟨u,rfl⟩
  induction u with
  |i=>rfl
  |op f a b iha ihb=>
   show oI (.mk [] [bL (jP f),a.aq,b.aq])=true
   have:=iha a.nZ.wf
   have:=ihb b.nZ.wf
   simp only[oI,sj, *]
   cases f<;>simp[bL,jP,au.aw]
def jQ (t:au):Bool:=oI t&&decide (fg t<=16)
theorem zy (hw:WF t):jQ t=true↔∃u:Ty,t=u.aq∧u.n<=16:=by
 unfold jQ
 rw[aE,dE,adU hw]
 constructor
 ·rintro⟨⟨u,rfl⟩,h⟩;exact⟨u,rfl,by rw[<-u.fg];exact h⟩
 ·rintro⟨u,rfl,h⟩;exact⟨⟨u,rfl⟩,by rw[u.fg];exact h⟩
/-! ### Names -/
def dN (s:ai):Bool:=decide (1<=s.length)&&decide (s.length<=4)&&(decide (97<=s.getD 0 0)&&decide (s.getD 0 0<=122))&&(s.drop 1).all gV
def p9 (s:ai):Bool:=(numeral s).isSome||dN s
theorem uC (h:dN s=true):s≠[]:=by grind [dN]
/-! ### Expressions -/
inductive Ex where
 |at(s:ai)
 |un (h:ai) (a:Ex)
 |bi (h:ai) (a b:Ex)
 |ite (a b c:Ex)
 |lt (x:ai) (a b:Ex)
 |fn (f x:ai) (A B:Ty) (e:Ex)
abbrev gm:ai:=[105,102]
abbrev fV:ai:=[108,101,116]
abbrev gF:ai:=[102,117,110]
abbrev BH:ai:=[102,115,116]
abbrev qE:ai:=[115,110,100]
abbrev j3:ai:=[99,97,108,108]
abbrev xC:ai:=[112,97,105,114]
def Ex.aq:Ex->au
 | .at s=>bL s
 | .un h a=>.mk [] [bL h,a.aq]
 | .bi h a b=>.mk [] [bL h,a.aq,b.aq]
 | .ite a b c=>.mk [] [bL gm,a.aq,b.aq,c.aq]
 | .lt x a b=>.mk [] [bL fV,bL x,a.aq,b.aq]
 | .fn f x A B e=>.mk [] [bL gF,bL f,bL x,A.aq,B.aq,e.aq]
def fW (h:ai):Bool:=decide (h=BH)||decide (h=qE)
def gH (h:ai):Bool:=decide (h=[43])||decide (h=[45])||decide (h=[42])||decide (h=j3)||decide (h=xC)
def Ex.ok:Ex->Prop
 | .at s=>p9 s=true
 | .un h a=>fW h=true∧a.ok
 | .bi h a b=>gH h=true∧a.ok∧b.ok
 | .ite a b c=>a.ok∧b.ok∧c.ok
 | .lt x a b=>dN x=true∧a.ok∧b.ok
 | .fn f x A B e=>dN f=true∧dN x=true∧f≠x∧A.n<=16∧B.n<=16∧e.ok
def Ex.n:Ex->Nat
 | .at _=>1
 | .un _ a=>1+a.n
 | .bi _ a b=>1+a.n+b.n
 | .ite a b c=>1+a.n+b.n+c.n
 | .lt _ a b=>2+a.n+b.n
 | .fn _ _ A B e=>3+A.n+B.n+e.n
mutual
def dw:au->Bool
 | .mk a ps=>if a≠[] then p9 a else nu ps
def nu:List au->Bool
 |[h,a]=>fW h.aw&&dw a
 |[h,a,b]=>gH h.aw&&(dw a&&dw b)
 |[h,a,b,c]=>if h.aw=gm then dw a&&(dw b&&dw c) else if h.aw=fV then dN a.aw&&(dw b&&dw c) else false
 |[h,f,x,A,B,e]=>decide (h.aw=gF)&&(dN f.aw&&dN x.aw&&decide (f.aw≠x.aw)&&jQ A&&jQ B&&dw e)
 |_=>false
end
theorem zz (hw:WF t) (hs:s≠[]) (e:t.aw=s):t=bL s:=by
 cases hw with
 |aw a ha=>cases e;rfl
 |list qs _ _=>exact absurd e.symm hs
theorem R0 (k:fW h=true):h≠[]:=by rintro rfl;cases k
theorem R1 (k:gH h=true):h≠[]:=by rintro rfl;cases k
theorem pz (k:p9 s=true):s≠[]:=by rintro rfl;cases k
theorem adW (hw:WF t):dw t=true↔∃e:Ex,t=e.aq∧e.ok:=by
 constructor
 ·intro h
  have key:∀m (t:au),t.size<=m->WF t->dw t=true->∃e:Ex,t=e.aq∧e.ok:=by
   intro m
   induction m with
   |zero=>intro t ht;have:=vL t;omega
   |succ m ih=>
    intro t hm hw h
    cases hw with
    |aw a ha=>
     simp only[dw,iP ha] at h
     exact⟨.at a,rfl,h⟩
    |list ps hp hw=>
     simp only[dw] at h
     rw[iN de] at h
     match ps,h with
     |[hd,x],h=>
      simp only[nu,aE] at h
      simp only[au.size,au.size.sizes] at hm
      obtain⟨u,rfl,hu⟩:=ih x om (hw x sm) h.2
      exact⟨.un hd.aw u,by rw[zz (hw hd sm) (R0 h.1) rfl];rfl,h.1,hu⟩
     |[hd,x,y],h=>
      simp only[nu,aE] at h
      simp only[au.size,au.size.sizes] at hm
      obtain⟨u,rfl,hu⟩:=ih x om (hw x sm) h.2.1
      obtain⟨v,rfl,hv⟩:=ih y om (hw y sm) h.2.2
      exact⟨.bi hd.aw u v,by rw[zz (hw hd sm) (R1 h.1) rfl];rfl,h.1,hu,hv⟩
     |[hd,x,y,z],h=>
      simp only[nu] at h
      simp only[au.size,au.size.sizes] at hm
      split at h
      ·rename_i hh
       simp only[aE] at h
       obtain⟨u,rfl,hu⟩:=ih x om (hw x sm) h.1
       obtain⟨v,rfl,hv⟩:=ih y om (hw y sm) h.2.1
       obtain⟨q,rfl,hq⟩:=ih z om (hw z sm) h.2.2
       exact⟨.ite u v q,by rw[zz (hw hd sm) de hh];rfl,hu,hv,hq⟩
      ·split at h
       ·rename_i hh
        simp only[aE] at h
        obtain⟨v,rfl,hv⟩:=ih y om (hw y sm) h.2.1
        obtain⟨q,rfl,hq⟩:=ih z om (hw z sm) h.2.2
        exact⟨.lt x.aw v q,by rw[zz (hw hd sm) de hh,zz (hw x sm) (uC h.1) rfl];rfl,h.1,hv,hq⟩
       ·cases h
     |[hd,f,x,A,B,e],h=>
      simp only[nu,aE,dE] at h
      simp only[au.size,au.size.sizes] at hm
      obtain⟨hh,⟨⟨⟨⟨hf,hx⟩,dH⟩,hA⟩,hB⟩,he⟩:=h
      obtain⟨u,rfl,hu⟩:=ih e om (hw e sm) he
      obtain⟨tA,rfl,R2⟩:=(zy (hw A sm)).1 hA
      obtain⟨tB,rfl,Ix⟩:=(zy (hw B sm)).1 hB
      exact⟨.fn f.aw x.aw tA tB u,by rw[zz (hw hd sm) de hh,zz (hw f sm) (uC hf) rfl,zz (hw x sm) (uC hx) rfl];rfl,hf,hx,dH,R2,Ix,hu⟩
  exact key t.size t (lR _) hw h
 ·rintro⟨e,rfl,ba⟩
  clear hw
  induction e with
  |«at» s=>
   show dw (.mk s [])=true
   simp only[dw];rw[iP (pz ba)];exact ba
  |un h a iha=>
   show dw (.mk [] [bL h,a.aq])=true
   simp only[dw];rw[iN de]
   simp only[nu,aE]
   exact⟨ba.1,iha ba.2⟩
  |bi h a b iha ihb=>
   show dw (.mk [] [bL h,a.aq,b.aq])=true
   simp only[dw];rw[iN de]
   simp only[nu,aE]
   exact⟨ba.1,iha ba.2.1,ihb ba.2.2⟩
  |ite a b c iha ihb ihc=>
   show dw (.mk [] [bL gm,a.aq,b.aq,c.aq])=true
   simp only[dw];rw[iN de]
   simp only[nu]
   rw[iP (show(bL gm).aw=gm from rfl)]
   simp only[aE]
   exact⟨iha ba.1,ihb ba.2.1,ihc ba.2.2⟩
  |lt x a b iha ihb=>
   show dw (.mk [] [bL fV,bL x,a.aq,b.aq])=true
   simp only[dw];rw[iN de]
   simp only[nu]
   rw[iN (show¬(bL fV).aw=gm by decide),iP (show(bL fV).aw=fV from rfl)]
   simp only[aE]
   exact⟨ba.1,iha ba.2.1,ihb ba.2.2⟩
  |fn f x A B e ih=>
   show dw (.mk [] [bL gF,bL f,bL x,A.aq,B.aq,e.aq])=true
   obtain⟨hf,hx,dH,hA,hB,he⟩:=ba
   simp only[dw];rw[iN de]
   simp only[nu,aE,dE]
   exact⟨rfl,⟨⟨⟨⟨hf,hx⟩,dH⟩,(zy A.nZ.wf).2 ⟨A,rfl,hA⟩⟩,(zy B.nZ.wf).2 ⟨B,rfl,hB⟩⟩,ih he⟩
/-! ### Parts -/
def Ex.head:Ex->ai
 | .at _=>[]
 | .un h _=>h
 | .bi h _ _=>h
 | .ite _ _ _=>gm
 | .lt _ _ _=>fV
 | .fn _ _ _ _ _=>gF
def Ex.from:Ex->Nat
 | .lt _ _ _=>2
 | .fn _ _ _ _ _=>5
 |_=>1
def Ex.kids:Ex->List Ex
 | .at _=>[]
 | .un _ a=>[a]
 | .bi _ a b=>[a,b]
 | .ite a b c=>[a,b,c]
 | .lt _ a b=>[a,b]
 | .fn _ _ _ _ e=>[e]
def Ex.binds:Ex->Nat->List ai
 | .lt x _ _,3=>[x]
 | .fn f x _ _ _,_=>[f,x]
 |_,_=>[]
def Ex.iv:Ex->Bool
 | .at _=>true
 |_=>false
def fL (e:Ex) (j:Nat):Ex:=e.kids.getD j (.at [])
theorem Ex.wf {e:Ex} (h:e.ok):Good e.aq:=by
 have num:∀s:ai,p9 s=true->s.all eO=true:=λs hs=>by
  unfold p9 at hs
  rw[oE] at hs
  have Ma:∀c:UInt8,gV c=true->eO c=true:=λc hc=>by
   unfold gV at hc;unfold eO
   rw[hc];simp
  rcases hs with hs|hs
  ·cases hn:numeral s with
   |none=>rw[hn] at hs;cases hs
   |some z=>
    unfold numeral at hn
    split at hn
    ·rename_i e;rw[e];decide
    ·split at hn
     ·cases hn
     ·split at hn
      ·rename_i ha
       rw[List.all_eq_true] at ha⊢
       intro c hc
       unfold ei at ha
       split at ha
       ·rename_i hm
        cases s with
        |nil=>simp at hm
        |cons d r=>
         simp only[List.getD_cons_zero,List.drop_succ_cons,List.drop_zero] at hm ha
         rcases mC.1 hc with rfl|hc
         ·rw[hm.2];decide
         ·exact Ma c (ha c hc)
       ·exact Ma c (ha c hc)
      ·cases hn
  ·cases s with
   |nil=>rfl
   |cons c r=>
    simp only[dN,aE,dE,List.getD_cons_zero,List.drop_succ_cons,List.drop_zero] at hs
    obtain⟨⟨_,h1,h2⟩,h3⟩:=hs
    rw[List.all_cons,aE]
    refine⟨?_,?_⟩
    ·unfold eO;simp[h1,h2]
    ·rw[List.all_eq_true] at h3⊢
     exact λd hd=>Ma d (h3 d hd)
 have nm:∀s:ai,dN s=true->Good (bL s):=λs hs=>.aw _ (uC hs) (num s (by unfold p9;rw[hs];simp))
 induction e with
 |«at» s=>exact .aw _ (pz h) (num s h)
 |un hd a iha=>
  refine .list _ sm λp hp=>?_
  simp only[mC,List.not_mem_nil,or_false] at hp
  rcases hp with rfl|rfl
  ·obtain⟨k,_⟩:=h
   simp only[fW,oE,dE] at k
   rcases k with k|k<;>(rw[k];exact .aw _ de de)
  ·exact iha h.2
 |bi hd a b iha ihb=>
  refine .list _ sm λp hp=>?_
  simp only[mC,List.not_mem_nil,or_false] at hp
  rcases hp with rfl|rfl|rfl
  ·obtain⟨k,_⟩:=h
   simp only[gH,oE,dE] at k
   rcases k with(((k|k)|k)|k)|k<;>(rw[k];exact .aw _ de de)
  ·exact iha h.2.1
  ·exact ihb h.2.2
 |ite a b c iha ihb ihc=>
  refine .list _ sm λp hp=>?_
  simp only[mC,List.not_mem_nil,or_false] at hp
  rcases hp with rfl|rfl|rfl|rfl
  ·exact .aw _ de de
  ·exact iha h.1
  ·exact ihb h.2.1
  ·exact ihc h.2.2
 |lt x a b iha ihb=>
  refine .list _ sm λp hp=>?_
  simp only[mC,List.not_mem_nil,or_false] at hp
  rcases hp with rfl|rfl|rfl|rfl
  ·exact .aw _ de de
  ·exact nm x h.1
  ·exact iha h.2.1
  ·exact ihb h.2.2
 |fn f x A B e ih=>
  refine .list _ sm λp hp=>?_
  simp only[mC,List.not_mem_nil,or_false] at hp
  obtain⟨hf,hx,_,_,_,he⟩:=h
  rcases hp with rfl|rfl|rfl|rfl|rfl|rfl
  ·exact .aw _ de de
  ·exact nm f hf
  ·exact nm x hx
  ·exact A.nZ
  ·exact B.nZ
  ·exact ih he
theorem Ex.ak {e:Ex} (h:e.iv=false):e.aq.aw=[]∧e.aq.ak.length=e.from+e.kids.length∧(nth e.aq.ak 0).aw=e.head∧∀j,j<e.kids.length->nth e.aq.ak (e.from+j)=(fL e j).aq:=by
 cases e with
 |«at» s=>cases h
 |un hd a=>exact⟨rfl,rfl,rfl,λj hj=>by
  have:j=0:=by simp[Ex.kids] at hj;omega
  subst this;rfl⟩
 |bi hd a b=>
  refine⟨rfl,rfl,rfl,λj hj=>?_⟩
  simp only[Ex.kids,lC,List.length_nil] at hj
  rcases(show j=0∨j=1 by omega) with rfl|rfl<;>rfl
 |ite a b c=>
  refine⟨rfl,rfl,rfl,λj hj=>?_⟩
  simp only[Ex.kids,lC,List.length_nil] at hj
  rcases(show j=0∨j=1∨j=2 by omega) with rfl|rfl|rfl<;>rfl
 |lt x a b=>
  refine⟨rfl,rfl,rfl,λj hj=>?_⟩
  simp only[Ex.kids,lC,List.length_nil] at hj
  rcases(show j=0∨j=1 by omega) with rfl|rfl<;>rfl
 |fn f x A B e=>exact⟨rfl,rfl,rfl,λj hj=>by
  have:j=0:=by simp[Ex.kids] at hj;omega
  subst this;rfl⟩
theorem Ex.pos (e:Ex):1<=e.n:=by cases e<;>simp[Ex.n]<;>omega
theorem Ex.fg {e:Ex} (h:e.ok):fg e.aq=e.n:=by
 have xD:∀s:ai,s≠[]->Go.Proofs.YthbhobaiopccaaaGreatDoor.fg (bL s)=1:=λs hs=>LZ hs
 have nl:∀ps:List au,Go.Proofs.YthbhobaiopccaaaGreatDoor.fg (.mk [] ps)=ju ps:=λps=>by simp[Go.Proofs.YthbhobaiopccaaaGreatDoor.fg]
 induction e with
 |«at» s=>exact xD s (pz h)
 |un hd a iha=>show Go.Proofs.YthbhobaiopccaaaGreatDoor.fg (.mk [] [bL hd,a.aq])=_;rw[nl];simp only[ju,xD hd (R0 h.1),iha h.2,Ex.n];omega
 |bi hd a b iha ihb=>show Go.Proofs.YthbhobaiopccaaaGreatDoor.fg (.mk [] [bL hd,a.aq,b.aq])=_;rw[nl];simp only[ju,xD hd (R1 h.1),iha h.2.1,ihb h.2.2,Ex.n];omega
 |ite a b c iha ihb ihc=>show Go.Proofs.YthbhobaiopccaaaGreatDoor.fg (.mk [] [bL gm,a.aq,b.aq,c.aq])=_;rw[nl];simp only[ju,xD gm de,iha h.1,ihb h.2.1,ihc h.2.2,Ex.n];omega
 |lt x a b iha ihb=>show Go.Proofs.YthbhobaiopccaaaGreatDoor.fg (.mk [] [bL fV,bL x,a.aq,b.aq])=_;rw[nl];simp only[ju,xD fV de,xD x (uC h.1),iha h.2.1,ihb h.2.2,Ex.n];omega
 |fn f x A B e ih=>
  obtain⟨hf,hx,_,_,_,he⟩:=h
  show Go.Proofs.YthbhobaiopccaaaGreatDoor.fg (.mk [] [bL gF,bL f,bL x,A.aq,B.aq,e.aq])=_
  rw[nl];simp only[ju,xD gF de,xD f (uC hf),xD x (uC hx),A.fg,B.fg,ih he,Ex.n];omega
theorem FN {e:Ex} (h:e.ok) {j:Nat} (hj:j<e.kids.length):(fL e j).ok∧(fL e j).n<e.n:=by cases e<;>grind [Ex.ok,fL,Ty.n,Ex.n,Ex.kids]
def dS (h:ai):Nat×Nat:=
 if gH h then(1,3) else if h=gm then(1,4) else if h=fV then(2,4) else if h=gF then(5,6) else if fW h then(1,2) else(0,0)
theorem Mb {e:Ex} (h:e.ok) (ha:e.iv=false):dS e.head=(e.from,e.from+e.kids.length):=by
 cases e with
 |«at» s=>cases ha
 |un hd a=>
  obtain⟨k,_⟩:=h
  simp only[fW,oE,dE] at k
  rcases k with k|k<;>(subst k;rfl)
 |bi hd a b=>show dS hd=_;unfold dS;rw[h.1];rfl
 |ite a b c=>rfl
 |lt x a b=>rfl
 |fn f x A B e=>rfl
/-! ### Free aK -/
def Fv (x:ai):Ex->Prop
 | .at s=>s=x∧dN x=true
 | .un _ a=>Fv x a
 | .bi _ a b=>Fv x a∨Fv x b
 | .ite a b c=>Fv x a∨Fv x b∨Fv x c
 | .lt y a b=>Fv x a∨(x≠y∧Fv x b)
 | .fn f y _ _ e=>x≠f∧x≠y∧Fv x e
def cI:Ex->List ai->List ai->List ai
 | .at s,bd,l=>if(!dN s||decide (s∈bd)||decide (s∈l))=true then l else l++[s]
 | .un _ a,bd,l=>cI a bd l
 | .bi _ a b,bd,l=>cI b bd (cI a bd l)
 | .ite a b c,bd,l=>cI c bd (cI b bd (cI a bd l))
 | .lt x a b,bd,l=>cI b (bd++[x]) (cI a bd l)
 | .fn f x _ _ e,bd,l=>cI e (bd++[f,x]) l
theorem BI (x:ai):∀(e:Ex) (bd l:List ai),x∈cI e bd l↔x∈l∨(Fv x e∧x∉bd):=by intro x;induction x<;>grind [cI,Fv,dN]
theorem adX:∀(e:Ex) (bd l:List ai),l.Nodup->(cI e bd l).Nodup:=by intro x;induction x<;>grind [cI]
theorem Mc:∀(e:Ex) (bd l:List ai),(cI e bd l).length<=l.length+e.n:=by intro x;induction x<;>grind [cI,Ty.n,Ex.n]
def qb (e:Ex) (bd l:List ai):Nat->List ai
 |0=>l
 |j+1=>cI (fL e j) (bd++e.binds (e.from+j)) (qb e bd l j)
theorem adY {e:Ex} (ha:e.iv=false) (bd l:List ai):cI e bd l=qb e bd l e.kids.length:=by cases e<;>simp_all[Ex.iv,cI,qb,Ex.kids,fL,Ex.binds,Ex.from]
def jR (x:ai):Ex->Nat
 | .at s=>if s=x then 1 else 0
 | .un _ a=>jR x a
 | .bi _ a b=>jR x a+jR x b
 | .ite a b c=>jR x a+jR x b+jR x c
 | .lt y a b=>jR x a+if x=y then 0 else jR x b
 | .fn f y _ _ e=>if x=f∨x=y then 0 else jR x e
theorem adZ (hx:dN x=true):∀e:Ex,0<jR x e↔Fv x e:=by intro x;induction x<;>grind [dN,jR,Fv]
theorem count_le (x:ai):∀e:Ex,jR x e<=e.n:=by intro x;induction x<;>grind [jR,Ty.n,Ex.n]
def zB (x:ai) (e:Ex):Nat->Nat
 |0=>0
 |j+1=>zB x e j+if x∈e.binds (e.from+j) then 0 else jR x (fL e j)
theorem R3 {e:Ex} (ha:e.iv=false) (x:ai):jR x e=zB x e e.kids.length:=by cases e<;>simp_all[Ex.iv,jR,zB,Ex.kids,fL,Ex.binds,Ex.from]
/-! ### Types of expressions -/
abbrev Sc:=List (ai×Ty)
def look (Γ:Sc) (s:ai):Option Ty:=(Γ.reverse.find? λp=>decide (p.1=s)).map Prod.snd
theorem oJ (Γ:Sc) (x s:ai) (T:Ty):look (Γ++[(x,T)]) s=if x=s then some T else look Γ s:=by grind [look]
theorem zC (Γ:Sc) (f x s:ai) (T U:Ty):look (Γ++[(f,T),(x,U)]) s=if x=s then some U else if f=s then some T else look Γ s:=by grind [look]
def kA (a b:Ty):Bool:=decide (a.text=b.text)
theorem ad0 {a b:Ty}:kA a b=true↔a=b:=by grind [kA,Ty.inj]
def kB (h:ai):List Ty->Option Ty
 |[a]=>match a with
  | .op false c d=>if h=BH then some c else if h=qE then some d else none
  |_=>none
 |[a,b]=>
  if h=j3 then match a with
   | .op true c d=>if kA c b then some d else none
   |_=>none
  else if h=xC then(if 1+a.n+b.n<=16 then some (.op false a b) else none)
  else if kA a .i&&kA b .i then some .i else none
 |[a,b,c]=>if kA a .i&&kA b c then some b else none
 |_=>none
def bw:Ex->Sc->Option Ty
 | .at s,Γ=>if dN s then look Γ s else some .i
 | .un h a,Γ=>(bw a Γ).bind λA=>kB h [A]
 | .bi h a b,Γ=>(bw a Γ).bind λA=>(bw b Γ).bind λB=>kB h [A,B]
 | .ite a b c,Γ=>(bw a Γ).bind λA=>(bw b Γ).bind λB=>(bw c Γ).bind λC=>kB gm [A,B,C]
 | .lt x a b,Γ=>(bw a Γ).bind λA=>bw b (Γ++[(x,A)])
 | .fn f x A B e,Γ=>if 1+A.n+B.n<=16 then(bw e (Γ++[(f,.op true A B),(x,A)])).bind λC=>if kA C B then some (.op true A B) else none else none
theorem qd:∀(e:Ex) (Γ Δ:Sc),(∀s,dN s=true->Fv s e->look Γ s=look Δ s)->bw e Γ=bw e Δ
 | .at s,Γ,Δ,h=>by
  unfold bw
  by_cases hn:dN s=true
  ·rw[iP hn,iP hn];exact h s hn ⟨rfl,hn⟩
  ·rw[iN hn,iN hn]
 | .un hd a,Γ,Δ,h=>by unfold bw;rw[qd a Γ Δ h]
 | .bi hd a b,Γ,Δ,h=>by unfold bw;rw[qd a Γ Δ λs hn hs=>h s hn (.inl hs),qd b Γ Δ λs hn hs=>h s hn (.inr hs)]
 | .ite a b c,Γ,Δ,h=>by unfold bw;rw[qd a Γ Δ λs hn hs=>h s hn (.inl hs),qd b Γ Δ λs hn hs=>h s hn (.inr (.inl hs)),qd c Γ Δ λs hn hs=>h s hn (.inr (.inr hs))]
 | .lt x a b,Γ,Δ,h=>by
  unfold bw
  rw[qd a Γ Δ λs hn hs=>h s hn (.inl hs)]
  cases bw a Δ with
  |none=>rfl
  |some A=>
   refine qd b _ _ λs hn hs=>?_
   rw[oJ,oJ]
   by_cases e:x=s
   ·rw[iP e,iP e]
   ·rw[iN e,iN e];exact h s hn (.inr ⟨λe'=>e e'.symm,hs⟩)
 | .fn f x A B e,Γ,Δ,h=>by
  unfold bw
  rw[qd e _ (Δ++[(f,.op true A B),(x,A)]) λs hn hs=>?_]
  rw[zC,zC]
  by_cases e1:x=s
  ·rw[iP e1,iP e1]
  ·by_cases e2:f=s
   ·rw[iN e1,iN e1,iP e2,iP e2]
   ·rw[iN e1,iN e1,iN e2,iN e2];exact h s hn ⟨λe'=>e2 e'.symm,λe'=>e1 e'.symm,hs⟩
def xF (Γ:Sc):Prop:=∀s T,look Γ s=some T->T.n<=16
theorem FP {Γ:Sc} (h:xF Γ) {T:Ty} (hT:T.n<=16):xF (Γ++[(x,T)]):=by grind [xF,Ty.n,Ex.n,oJ]
theorem Md:∀{ks:List Ty} {T:Ty},(∀k,k∈ks->k.n<=16)->kB h ks=some T->T.n<=16
 |[],T,_,e=>by cases e
 |[a],T,hk,e=>by
  have ha:=hk a sm
  cases a with
  |i=>cases e
  |op f c d=>
   cases f with
   |true=>cases e
   |false=>
    simp only[Ty.n] at ha
    simp only[kB] at e
    split at e
    ·cases e;omega
    ·split at e
     ·cases e;omega
     ·cases e
 |[a,b],T,hk,e=>by
  have ha:=hk a sm
  have hb:=hk b sm
  simp only[kB] at e
  split at e
  ·cases a with
   |i=>cases e
   |op f c d=>
    cases f with
    |false=>cases e
    |true=>
     simp only at e
     split at e
     ·cases e;simp only[Ty.n] at ha;omega
     ·cases e
  ·split at e
   ·split at e
    ·rename_i hc;cases e;simpa[Ty.n] using hc
    ·cases e
   ·split at e
    ·cases e;decide
    ·cases e
 |[a,b,c],T,hk,e=>by
  simp only[kB] at e
  split at e
  ·cases e;exact hk b sm
  ·cases e
 |_::_::_::_::_,T,_,e=>by cases e
theorem lx:∀{e:Ex} {Γ:Sc} {T:Ty},xF Γ->bw e Γ=some T->T.n<=16
 | .at s,Γ,T,hΓ,h=>by
  unfold bw at h
  split at h
  ·exact hΓ s T h
  ·cases h;decide
 | .un hd a,Γ,T,hΓ,h=>by
  unfold bw at h
  cases ha:bw a Γ with
  |none=>rw[ha] at h;cases h
  |some A=>
   rw[ha,Option.bind_some] at h
   exact Md (λk hk=>by simp at hk;rw[hk];exact lx hΓ ha) h
 | .bi hd a b,Γ,T,hΓ,h=>by
  unfold bw at h
  cases ha:bw a Γ with
  |none=>rw[ha] at h;cases h
  |some A=>
   cases hb:bw b Γ with
   |none=>rw[ha,hb] at h;cases h
   |some B=>
    rw[ha,hb,Option.bind_some,Option.bind_some] at h
    exact Md (λk hk=>by simp at hk;rcases hk with rfl|rfl;exact lx hΓ ha;exact lx hΓ hb) h
 | .ite a b c,Γ,T,hΓ,h=>by
  unfold bw at h
  cases ha:bw a Γ with
  |none=>rw[ha] at h;cases h
  |some A=>
   cases hb:bw b Γ with
   |none=>rw[ha,hb] at h;cases h
   |some B=>
    cases hc:bw c Γ with
    |none=>rw[ha,hb,hc] at h;cases h
    |some C=>
     rw[ha,hb,hc,Option.bind_some,Option.bind_some,Option.bind_some] at h
     exact Md (λk hk=>by simp at hk;rcases hk with rfl|rfl|rfl;exact lx hΓ ha;exact lx hΓ hb;exact lx hΓ hc) h
 | .lt x a b,Γ,T,hΓ,h=>by
  unfold bw at h
  cases ha:bw a Γ with
  |none=>rw[ha] at h;cases h
  |some A=>
   rw[ha,Option.bind_some] at h
   exact lx (FP hΓ (lx hΓ ha)) h
 | .fn f x A B e,Γ,T,hΓ,h=>by
  unfold bw at h
  split at h
  ·rename_i hc
   cases he:bw e (Γ++[(f,.op true A B),(x,A)]) with
   |none=>rw[he] at h;cases h
   |some C=>
    rw[he,Option.bind_some] at h
    split at h
    ·cases h;simpa[Ty.n] using hc
    ·cases h
  ·cases h
end Go.Proofs.YthbhobaiopccaaaGreatDoor
