/- Lemmas for the law FnProgramText, no statement of their own: no conditions. -/
import Derived.Test.YtcildnfcpkpomaaGreatDoorAa
import Derived.KernelRfl
import Derived.Lib.Atoi
import Derived.Lib.Strings
import Derived.Test.YtcildnfcpkpomaaGreatDoorProg
set_option maxHeartbeats 4000000
set_option linter.unusedVariables false
set_option linter.unusedSimpArgs false
namespace Go.Proofs.YtcildnfcpkpomaaGreatDoor
open Go
variable {B E U bytes d i k n n1 n2 sz:Nat} {L L' W:List Nat} {w w' w0:World} {V v z:Value} {g gb:Option Nat} {rows:List (List C)} {b:Bk} {p t u:aq} {ps ts:List aq} {h r s:ak} {P:Program} {ops:Array Oper} {bs:List Bk} {xs:List ak} {gss:List (Option Nat×Option Nat)} {vss:List (List Value)} {c:UInt8} {a:Prop} {l:List Oper} {e0:Env} {o:Oper} {N R:Env->World->Prop} {X:Nat->Env->World->Prop}
structure Gr (B:Nat) (L:List Nat) (w:World) (T:TypeId) (sz:Nat) (v:Value) (g:Option Nat) (rows:List (List C)):Prop where
 own:∃xs,iF L w T sz v g rows xs
 low:∀b,g=some b->B<=b
 cP:∀x∈L,x<w.heap.size
 bsz:B<=w.heap.size
theorem Gr.nil {T:TypeId} (b:∀x∈L,x<w.heap.size) (a:B<=w.heap.size):Gr B L w T sz (.slice none 0 0) none []:=
 ⟨⟨[],iF.nil _ _ _ _⟩,sm,b,a⟩
theorem Gr.aG {T:TypeId} (h:Gr B L w T sz v g rows) (k:aj L' w w') (a:∀x∈L',x∈L):Gr B L w' T sz v g rows:=
 ⟨h.own.imp λ_ h=>h.aG k a,h.low,λx b=>lL (h.cP x b) k.size,Nat.le_trans h.bsz k.size⟩
theorem Gr.ext {T:TypeId} (h:Gr B L w T sz v g rows) (k:aj [] w w'):Gr B L w' T sz v g rows:=h.aG k sm
theorem Gr.aB {T:TypeId} (h:Gr B L w T sz v g rows) (k:aj L' w w') (a:∀x∈L',x∈L):Gr B L w' T sz v g rows:=h.aG k a
theorem Gr.alloc {T:TypeId} (h:Gr B L w T sz v g rows) (k:aj [] w w') (b:w'.heap.size=w.heap.size+1):Gr B (w.heap.size::L) w' T sz v g rows:=
 ⟨h.own.imp λ_ h=>(h.more ua).aG k sm,h.low,λx a=>by rcases mC.1 a with rfl|a;omega;have:=h.cP x a;omega,Nat.le_trans h.bsz k.size⟩
theorem Gr.dY {T:TypeId} (h:Gr B L w T sz v g rows) (b:∀x∈L',x∈L):Gr B L' w T sz v g rows:=
 ⟨h.own.imp λ_ h=>h.more λx a=>.inl<|b x a,h.low,λx a=>h.cP x<|b x a,h.bsz⟩
theorem Gr.done {T:TypeId} (h:Gr B L w T sz v g rows):cA L w v (.sl sz rows):=by obtain⟨_,h⟩:=h.own;exact h.done
theorem Gr.wS {T:TypeId} (h:Gr B L w T sz v g rows) {b:Nat} (hb:b∈L):b∉g.toList:=by obtain⟨_,h⟩:=h.own;exact h.sep hb
theorem Gr.KM {T:TypeId} (h:Gr B L w T sz v g rows) {b:Nat} (hb:b<B):b∉g.toList:=by intro a;have:=h.low b (by simpa using a);omega
theorem Gr.lt {T:TypeId} (h:Gr B L w T sz v g rows):∀x∈g.toList,x<w.heap.size:=by obtain⟨_,h⟩:=h.own;intro x a;exact h.own.lt x (by simpa using a)
theorem Gr.all {T:TypeId} (h:Gr B L w T sz v g rows):∀x∈g.toList++L,x<w.heap.size:=by
 intro x a;rcases mA.1 a with a|a
 .exact h.lt x a
 .exact h.cP x a
theorem Gr.since {T:TypeId} (h:Gr w0.heap.size L w T sz v g rows) (b:aj L' w0 w) (k:aj g.toList w w'):aj L' w0 w':=
 b.since k λx a=>.inr (h.low x<|by simpa using a)
theorem aj.DI (a:w0.heap.size<=B) (c:∀b,g=some b->B<=b) (e:aj L' w0 w) (k:aj g.toList w w'):aj L' w0 w':=
 e.since k λx d=>.inr<|Nat.le_trans a (c x<|by simpa using d)
section
variable {P:Program} {n:Nat} {ops:Array Oper} {K:Env->World->Prop} {rest:List Oper} {e:Env} {w:World}
 {dst:Option Nat} {ty:TypeId} {pos:String} {after:Array Edge} {g:Option (Nat×Bool)} {x y:Operand}
theorem H8 {B:Nat} {L:List Nat} {t:Nat} {v:Value} {j:Option Nat} {rows:List (List C)} {row:List C} {c:List Value} {b U:Nat} (r:P.underlying t=some (.slice E)) (p:TI P E sz bytes z) (A:gate ops e g=true) (s:cK n dst=true) (I:Nat.beq z.cells.size sz=true) (m:Nat.ble bytes 1000=true) 
  (l:ev e x=v) (H:ev e y= .slice (some ⟨b,0,none⟩) 1 1) (d:Gr B L w E sz v j rows) (hb:aK w b c.toArray U) (J:row.length=sz) (o:c.all Value.oneCell'=true)
  (D:dy (j.toList++L) w c row) (Q:rows.length<100000000)
  (k:∀f a i w',Gr B L w' E sz (.slice f (rows.length+1) a) i (rows++[row])->aj j.toList w w'->OW P n ops K rest (cj e dst (.slice f (rows.length+1) a)) w'):
  OW P n ops K (⟨dst,.call {callee:=.builtin .append,args:=#[x,y],argTypes:=#[t,t]},ty,pos,after,g⟩::rest) e w:=by
 obtain⟨xs,q⟩:=d.own;have O:bytes<=1000:=Nat.le_of_ble_eq_true m;refine Tx r p A s I l H q J hb.all (λu F=>List.all_eq_true.1 o u F) D d.cP (Nat.le_trans (Nat.mul_le_mul (show rows.length+1<=100000000 by omega)<|show bytes+1<=1001 by omega) de) ?_;intro f a i w' M hk N;refine k f a i w' ⟨⟨_,M⟩,λb hb=>?_,λx l=>lL (d.cP x l) hk.size,Nat.le_trans d.bsz hk.size⟩ hk;rcases N with h|h
 .rw[h] at hb;exact d.low b hb
 .rw[h] at hb;cases hb;exact d.bsz
theorem FT {B:Nat} {L:List Nat} {t:Nat} {v r s:Value} {m:Option Nat} {d:List aq} {f:aq} {b U:Nat} (I:P.underlying t=some (.slice E)) (F:TI P E 2 bytes z) (M:gate ops e g=true) (J:cK n dst=true) (S:Nat.beq z.cells.size 2=true) (D:Nat.ble bytes 1000=true) 
  (Q:ev e x=v) (R:ev e y= .slice (some ⟨b,0,none⟩) 1 1) (H:Gr B L w E 2 v m (da d)) (hb:aK w b [r,s].toArray U)
  (q:aV (m.toList++L) w (.agg #[r,s]) f) (N:d.length<100000000)
  (k:∀i a l w',Gr B L w' E 2 (.slice i (d++[f]).length a) l (da (d++[f]))->aj m.toList w w'->OW P n ops K rest (cj e dst (.slice i (d++[f]).length a)) w'):
  OW P n ops K (⟨dst,.call {callee:=.builtin .append,args:=#[x,y],argTypes:=#[t,t]},ty,pos,after,g⟩::rest) e w:=by
 refine H8 I F M J S D Q R H hb (pY f) ?_ q.jR (by rw[iu];exact N) ?_
 .rw[List.all_eq_true];refine λu O=>dy.H6 q.jR (λc o v j=>?_) u O;cases f;rw[aq.enc] at o;simp only[mC,List.not_mem_nil,or_false] at o;rcases o with h|h
  .rw[h] at j;cases j;rfl
  .rw[h] at j;cases j
 .intro i a l w' p hk;have A:(da d).length+1=(d++[f]).length:=by simp[iu]
  have C:da d++[f.enc]=da (d++[f]):=by simp[Oj,da]
  rw[A] at p⊢;rw[C] at p;exact k i a l w' p hk
theorem TP {B:Nat} {L:List Nat} {t:Nat} {v:Value} {j:Option Nat} {c:List ak} {s:ak} {b U:Nat} (r:P.underlying t=some (.slice E)) (p:TI P E 1 bytes z) (A:gate ops e g=true) (u:cK n dst=true) (H:Nat.beq z.cells.size 1=true) (o:Nat.ble bytes 1000=true) 
  (D:ev e x=v) (F:ev e y= .slice (some ⟨b,0,none⟩) 1 1) (q:Gr B L w E 1 v j (iG c)) (hb:aK w b [str s].toArray U) (C:c.length<100000000)
  (k:∀d a f w',Gr B L w' E 1 (.slice d (c++[s]).length a) f (iG (c++[s]))->aj j.toList w w'->OW P n ops K rest (cj e dst (.slice d (c++[s]).length a)) w'):
  OW P n ops K (⟨dst,.call {callee:=.builtin .append,args:=#[x,y],argTypes:=#[t,t]},ty,pos,after,g⟩::rest) e w:=by
 refine H8 (row:=[.val (str s)]) r p A u H o D F q hb rfl rfl ⟨.val _,trivial⟩ (by rw[rB];exact C) ?_;intro d a f w' i hk;have l:(iG c).length+1=(c++[s]).length:=by simp[rB]
 have m:iG c++[[.val (str s)]]=iG (c++[s]):=by simp[iG]
 rw[l] at i⊢;rw[m] at i;exact k d a f w' i hk
end
theorem TQ {P:Program} {T:Nat} (b:P.underlying T=some (.slice E)) (a:TI P E sz bytes z):(Instr.buildSlice T 0 #[]).run P w= .ok (.slice (some ⟨w.heap.size,0,none⟩) 0 0) (w.alloc<|.cells #[] E):=by simp[Instr.buildSlice,Sem.run_bind,run_underlying b,Result.andThen_ok,a.tX,Instr.fill,newRow];congr 2;apply Array.ext<;>simp
theorem zK {P:Program} {n:Nat} {d:Array Oper} {K:Env->World->Prop} {rest:List Oper} {e:Env} {w:World} {c:Option Nat} {ty:TypeId} {pos:String} {a:Array Edge} {g:Option (Nat×Bool)} 
  {T E j bytes:Nat} {z:Value} (B:Nat) (L:List Nat) (o:P.underlying T=some (.slice E)) (m:TI P E j bytes z) (q:gate d e g=true) (p:cK n c=true) (l:B<=w.heap.size) (i:∀x∈L,x<w.heap.size)
  (k:∀w',aj [] w w'->w'.heap.size=w.heap.size+1->Gr B L w' E j (.slice (some ⟨w.heap.size,0,none⟩) 0 0) (some w.heap.size) []->OW P n d K rest (cj e c<|.slice (some ⟨w.heap.size,0,none⟩) 0 0) w'):
  OW P n d K (⟨c,.buildSlice T 0 #[],ty,pos,a,g⟩::rest) e w:=
 fS q p (w':=w.alloc<|.cells #[] E) (by simp[execOp,TQ (P:=P) (w:=w) o m])
  (k _ (aj.alloc _ _ _) sm ⟨⟨[],⟨by simp,.inr ⟨w.heap.size,0,#[],rfl,rfl,aK.alloc _ _ _,lR _,by decide,sm,sm⟩⟩,trivial,sm,by intro b hb f;cases hb;have:=i _ f;omega⟩,
   by intro b hb;cases hb;exact l,λx f=>by have:=i x f;simp;omega,by simp;omega⟩)
theorem pq.jR {x y:Value} (h:pq L w (.agg #[x,y,z]) b):dy L w [x,y,z] b.enc:=by
 obtain⟨e,a,c⟩:=h;have d:e=[x,y,z]:=by have:=congrArg (λv=>match v with|Value.agg x=>x.toList|_=>[]) a;simpa using this.symm
 rw[<-d];exact c
theorem acI {P:Program} {n:Nat} {l:Array Oper} {K:Env->World->Prop} {rest:List Oper} {e:Env} {w:World} {j:Option Nat} {ty:TypeId} {pos:String} {i:Array Edge} {g:Option (Nat×Bool)} {x y:Operand} 
  {B:Nat} {L:List Nat} {t E bytes:Nat} {z:Value} {v C D F:Value} {q:Option Nat} {d:List Bk} {f:Bk} {b U:Nat} (O:P.underlying t=some (.slice E)) (M:TI P E 3 bytes z) (R:gate l e g=true) (Q:cK n j=true) (Y:Nat.beq z.cells.size 3=true) (J:Nat.ble bytes 1000=true)
  (V:ev e x=v) (X:ev e y= .slice (some ⟨b,0,none⟩) 1 1) (N:Gr B L w E 3 v q (d.map Bk.enc)) (hb:aK w b [C,D,F].toArray U)
  (A:pq (q.toList++L) w (.agg #[C,D,F]) f) (S:d.length<100000000)
  (k:∀o a p w',Gr B L w' E 3 (.slice o (d++[f]).length a) p ((d++[f]).map Bk.enc)->aj q.toList w w'->OW P n l K rest (cj e j (.slice o (d++[f]).length a)) w'):
  OW P n l K (⟨j,.call {callee:=.builtin .append,args:=#[x,y],argTypes:=#[t,t]},ty,pos,i,g⟩::rest) e w:=by
 refine H8 O M R Q Y J V X N hb rfl ?_ A.jR (by simpa using S) ?_
 .rw[List.all_eq_true];refine λu T=>dy.H6 A.jR (λc r v m=>?_) u T;rw[Bk.enc] at r;simp only[mC,List.not_mem_nil,or_false] at r;rcases r with h|h|h
  .rw[h] at m;cases m;rfl
  .rw[h] at m;cases m
  .rw[h] at m;cases m
 .intro o a p w' s hk;have H:(d.map Bk.enc).length+1=(d++[f]).length:=by simp
  have I:d.map Bk.enc++[f.enc]=(d++[f]).map Bk.enc:=by simp
  rw[H] at s⊢;rw[I] at s;exact k o a p w' s hk
theorem Gr.BE {T:TypeId} (h:Gr B L w T 3 v g (bs.map Bk.enc)):l0 L w v bs:=h.done
/-! ### Owned lists of texts,owned programs -/
def cN (w:World) (T:TypeId) (v:Value) (g:Option Nat) (a:List ak):Prop:=iX w T 1 v g a.length<|a.map λx=>str x
theorem TR:∀{xs:List ak} {a:List Value},dy L w a (iG xs).flatten->a=xs.map λx=>str x
 |[],a,h=>by
  cases a with
  |nil=>rfl
  |cons v a=>exact h.elim
 |x::xs,a,h=>by
  cases a with
  |nil=>exact h.elim
  |cons v a=>obtain⟨b,c⟩:=h;cases b;rw[List.map_cons,<-TR (xs:=xs) c]
theorem TT:∀xs:List ak,dy L w (xs.map λx=>str x) (iG xs).flatten
 |[]=>trivial
 |_::xs=>⟨.val _,TT xs⟩
theorem Gr.wT {T:TypeId} (h:Gr B L w T 1 v g (iG xs)):cN w T v g xs:=by obtain⟨_,h⟩:=h.own;have:=h.own;rw[TR h.rep,rB] at this;exact this
theorem cN.acJ {T:TypeId} (h:cN w T v g xs) (c:∀b,g=some b->b∉L):iF L w T 1 v g (iG xs) (xs.map λx=>str x):=
 ⟨by rw[rB];exact h,TT xs,by intro row a;simp[iG] at a;obtain⟨_,_,rfl⟩:=a;rfl,c⟩
theorem cN.rep {T:TypeId} (h:cN w T v g xs) (a:∀b,g=some b->b∉L):bo L w v xs:=(h.acJ a).done
theorem cN.aG {T:TypeId} (h:cN w T v g xs) (k:aj L w w') (a:∀b,g=some b->b∉L):cN w' T v g xs:=iX.aG h k a
theorem cN.ext {T:TypeId} (h:cN w T v g xs) (k:aj [] w w'):cN w' T v g xs:=h.aG k sm
def qK (w:World) (T:TypeId) (a:Option Nat×Option Nat) (e:List Value) (b:Bk):Prop:=
 ∃c d,e=[str b.aL,c,d]/\cN w T c a.1 b.ck/\cN w T d a.2 b.code
def iv (a:Option Nat×Option Nat):List Nat:=a.1.toList++a.2.toList
def fC (a:List (Option Nat×Option Nat)):List Nat:=a.flatMap iv
theorem qK.aG {T:TypeId} {a:Option Nat×Option Nat} {d:List Value} (h:qK w T a d b) (k:aj L w w') (c:∀x,x∈iv a->x∉L):qK w' T a d b:=by obtain⟨i,j,e,f,g⟩:=h;exact⟨i,j,e,f.aG k λb hb=>c b<|by simp[iv,hb],g.aG k λb hb=>c b<|by simp[iv,hb]⟩
def jt (w:World) (T:TypeId):List (Option Nat×Option Nat)->List (List Value)->List Bk->Prop
 |[],[],[]=>True
 |g::gs,v::vs,b::bs=>qK w T g v b/\jt w T gs vs bs
 |_,_,_=>False
theorem jt.aG {T:TypeId} (k:aj L w w'):∀{gss:List (Option Nat×Option Nat)} {vss:List (List Value)} {bs:List Bk},jt w T gss vss bs->(∀x,x∈fC gss->x∉L)->jt w' T gss vss bs
 |[],[],[],_,_=>trivial
 |g::gs,v::vs,b::bs,h,hL=>⟨h.1.aG k λx a=>hL x<|by simp[fC,a],jt.aG k h.2 λx a=>hL x (by simp[fC] at a⊢;exact .inr a)⟩
theorem jt.snoc {T:TypeId}:∀{gss:List (Option Nat×Option Nat)} {vss:List (List Value)} {bs:List Bk} {g:Option Nat×Option Nat} {v:List Value} {b:Bk},jt w T gss vss bs->qK w T g v b->jt w T (gss++[g]) (vss++[v]) (bs++[b])
 |[],[],[],_,_,_,_,h=>⟨h,trivial⟩
 |_::_,_::_,_::_,_,_,_,h,k=>⟨h.1,jt.snoc h.2 k⟩
theorem jt.lens {T:TypeId}:∀{gss:List (Option Nat×Option Nat)} {vss:List (List Value)} {bs:List Bk},jt w T gss vss bs->gss.length=bs.length/\vss.length=bs.length/\∀row∈vss,row.length=3
 |[],[],[],_=>by simp
 |g::gs,v::vs,b::bs,h=>by
  obtain⟨c,d,e⟩:=jt.lens h.2;refine⟨by simp[c],by simp[d],λrow a=>?_⟩;rcases mC.1 a with rfl|a
  .obtain⟨_,_,rfl,_⟩:=h.1;rfl
  .exact e row a
theorem jt.get {T:TypeId}:∀{gss:List (Option Nat×Option Nat)} {vss:List (List Value)} {bs:List Bk},jt w T gss vss bs->∀{i:Nat} {b:Bk},bs[i]?=some b->∃g v,gss[i]?=some g/\vss[i]?=some v/\qK w T g v b
 |_::_,_::_,_::_,h,0,b,hb=>by simp at hb;subst hb;exact⟨_,_,rfl,rfl,h.1⟩
 |_::gs,_::vs,_::bs,h,i+1,b,hb=>by obtain⟨g,v,a,c,d⟩:=jt.get h.2 (i:=i) (by simpa using hb);exact⟨g,v,by simpa using a,by simpa using c,d⟩
 |[],[],[],_,i,b,hb=>by simp at hb
theorem jt.zM {T:TypeId}:∀{gss:List (Option Nat×Option Nat)} {vss:List (List Value)} {bs:List Bk},jt w T gss vss bs->(∀x,x∈fC gss->x∉L)->dy L w vss.flatten (bs.map Bk.enc).flatten
 |[],[],[],_,_=>trivial
 |g::gs,v::vs,b::bs,h,hL=>by obtain⟨_,_,rfl,c,d⟩:=h.1;refine⟨.val _,c.rep λb hb=>hL b<|by simp[fC,iv,hb],d.rep λb hb=>hL b<|by simp[fC,iv,hb],?_⟩;exact jt.zM h.2 λx a=>hL x (by simp[fC] at a⊢;exact .inr a)
structure kO (w:World) (TB TS:TypeId) (v:Value) (g:Option Nat) (gss:List (Option Nat×Option Nat)) (vss:List (List Value)) (bs:List Bk):Prop where
 own:iX w TB 3 v g bs.length vss.flatten
 rows:jt w TS gss vss bs
 nodup:(g.toList++fC gss).Nodup
 lt:∀x,x∈fC gss->x<w.heap.size
theorem kO.aG {c TS:TypeId} (h:kO w c TS v g gss vss bs) (k:aj L w w') (d:∀x,x∈g.toList++fC gss->x∉L):kO w' c TS v g gss vss bs:=
 ⟨h.own.aG k λb hb=>d b<|by simp[hb],h.rows.aG k λx a=>d x<|by simp[a],h.nodup,λx a=>lL (h.lt x a) k.size⟩
theorem kO.ext {a TS:TypeId} (h:kO w a TS v g gss vss bs) (k:aj [] w w'):kO w' a TS v g gss vss bs:=h.aG k sm
theorem kO.rep {c TS:TypeId} (h:kO w c TS v g gss vss bs) (d:∀x,x∈g.toList++fC gss->x∉L):l0 L w v bs:=by
 have f:=(List.nodup_append.1 h.nodup).2.2;refine iF.done (L:=L) (w:=w) (T:=c) (g:=g) (xs:=vss.flatten) ⟨by simpa using h.own,h.rows.zM λx e=>?_,?_,λb hb=>d b<|by simp[hb]⟩
 .intro a;rcases mA.1 a with a|a
  .exact f x a x e rfl
  .exact d x (by simp[e]) a
 .intro row i;obtain⟨b,_,rfl⟩:=List.mem_map.1 i;rfl
theorem kO.nil {a TS:TypeId}:kO w a TS (.slice none 0 0) none [] [] []:=⟨iX.nil _ _ _,trivial,by simp[fC],by simp[fC]⟩
theorem aV.Ol {A B:List Nat} {b:Nat} (h:aV (b::(A++B)) w v t):aV (A++(b::B)) w v t:=jh.fresh h λx a=>.inl<|Tu x a
theorem aV.dY (h:aV L w v t) (a:∀x∈L',x∈L):aV L' w v t:=jh.fresh h λx b=>.inl<|a x b
theorem cD.dY {t:List aq} (h:cD L w v t) (a:∀x∈L',x∈L):cD L' w v t:=cA.fresh h λx b=>.inl<|a x b
theorem Gr.trees {T:TypeId} (h:Gr B L w T 2 v g (da ts)):cD L w v ts:=h.done
def iJ (c:UInt8):Bool:=48<=c&&c<=57
theorem DJ (c:UInt8):iJ c=true↔48<=c.toNat/\c.toNat<=57:=by simp[iJ,UInt8.le_iff_toNat_le]
def sq (s:ak):Int:=if 0<s.length/\s.getD 0 0=45 then -1 else 1
def fj (s:ak):ak:=if 0<s.length/\s.getD 0 0=45 then s.drop 1 else s
def val (a:ak):Nat:=a.foldl (λn c=>10*n+(c.toNat-48)) 0
def numeral (s:ak):Option Int:=
 if s=[48] then some 0
 else if(fj s).length<1\/3<(fj s).length\/(fj s).getD 0 0=48 then none
 else if(fj s).all iJ=true then some (sq s*val (fj s)) else none
theorem TU (a:ak) (c:UInt8):val (a++[c])=10*val a+(c.toNat-48):=by simp[val]
theorem TV:∀(a:ak),a.all iJ=true->val a<10^a.length:=by
 intro a;have d:∀(l:ak) (n k:Nat),l.all iJ=true->n<10^k->l.foldl (λn c=>10*n+(c.toNat-48)) n<10^(k+l.length):=by
  intro l;induction l with
  |nil=>intro n k _ h;simpa using h
  |cons c l e=>intro n k b h;simp only[List.all_cons,aE] at b;have f:=(DJ c).1 b.1;simp only[List.foldl_cons,lC];have:=e (10*n+(c.toNat-48)) (k+1) b.2 (by rw[Nat.pow_succ];omega);rw[show k+(l.length+1)=k+1+l.length from by omega];exact this
 intro h;have:=d a 0 0 h sm;simpa[val] using this
theorem Om (h:k<s.length):s.take (k+1)=s.take k++[s.getD k 0]:=by simp_all
def bC (t:aq):ak:=if t.au≠[]\/t.ag=[] then[] else match t.ag with
 |[]=>[]
 |p::_=>p.au
def KN (c:UInt8):Bool:=97<=c&&c<=122
def BF (s:ak) (i:Nat):Bool:=KN (s.getD i 0)||(decide (0<i)&&iJ (s.getD i 0))
def nu (s:ak):Bool:=(List.range s.length).all (BF s)&&decide (s≠[])
theorem H9 (k c:UInt8):decide ((k.toNat:Int)<=c.toNat)=decide (k<=c):=by simp[UInt8.le_iff_toNat_le]
theorem TW (k c:UInt8):decide ((c.toNat:Int)=k.toNat)=(c==k):=by rw[Bool.eq_iff_iff];simp[<-UInt8.toNat_inj];omega
theorem KO (s:ak) (k:Nat):((decide ((97:Int)<=(s.getD k 0).toNat)&&decide (((s.getD k 0).toNat:Int)<=122))||((decide ((0:Int)<(k:Int))&&decide ((48:Int)<=(s.getD k 0).toNat))&&decide (((s.getD k 0).toNat:Int)<=57)))=BF s k:=by have a:=H9 97<|s.getD k 0;have b:=H9 (s.getD k 0) 122;have c:=H9 48<|s.getD k 0;have d:=H9 (s.getD k 0) 57;simp only[show((97:UInt8).toNat:Int)=97 from rfl,show((122:UInt8).toNat:Int)=122 from rfl,show((48:UInt8).toNat:Int)=48 from rfl,show((57:UInt8).toNat:Int)=57 from rfl] at a b c d;rw[a,b,c,d];unfold BF KN iJ;rw[show decide ((0:Int)<(k:Int))=decide (0<k) from by simp,Bool.and_assoc]
theorem TX {j:Nat} (a:j<s.length) (h:BF s j=false):nu s=false:=by grind [nu]
theorem TZ (h:∀j,j<s.length->BF s j=true):nu s=decide (s≠[]):=by grind [nu]
theorem T0 {P:Nat->Prop} (h:∀j,j<k->P j) (hk:P k):∀j,j<k+1->P j:=by grind
theorem FU (a:t.au=[]) (b:t.ag[0]?=some p):bC t=p.au:=by grind [aq.ag,bC]
theorem vH (h:t.au≠[]\/t.ag=[]):bC t=[]:=by unfold bC;rw[iP h]
theorem acK (a:s≠[48]) (h:(fj s).length<1\/3<(fj s).length\/(fj s).getD 0 0=48):numeral s=none:=by grind [numeral]
theorem acL (a:s≠[48]) (hk:k<(fj s).length) (h:iJ ((fj s).getD k 0)=false):numeral s=none:=by grind [numeral,fj]
theorem acM (b:s≠[48]) (h:1<=(fj s).length/\(fj s).length<=3/\(fj s).getD 0 0≠48) (a:(fj s).all iJ=true):numeral s=some (sq s*val (fj s)):=by grind [numeral]
theorem acN (s:ak):sq s=1\/sq s= -1:=by grind [sq]
theorem acO {a:ak} (h:(!(decide ((1:Int)<=(a.length:Int))&&decide ((a.length:Int)<=3))||decide (((a.getD 0 0).toNat:Int)=48))=true):a.length<1\/3<a.length\/a.getD 0 0=48:=by
 simp only[oE,Bool.not_eq_true',Bool.and_eq_false_iff,decide_eq_false_iff_not,dE] at h;rcases h with(h|h)|h
 .left;omega
 .right;left;omega
 .right;right;exact UInt8.toNat_inj.1 (by have:(48:UInt8).toNat=48:=rfl;rw[this];omega)
theorem acP {a:ak} (h:(!(decide ((1:Int)<=(a.length:Int))&&decide ((a.length:Int)<=3))||decide (((a.getD 0 0).toNat:Int)=48))=false):1<=a.length/\a.length<=3/\a.getD 0 0≠48:=by simp only[Bool.or_eq_false_iff,Bool.not_eq_false',aE,decide_eq_false_iff_not,dE] at h;refine⟨by omega,om,λb=>h.2 (by rw[b];rfl)⟩
theorem T2 (h:(decide ((c.toNat:Int)<48)||decide ((57:Int)<c.toNat))=true):iJ c=false:=by grind [DJ]
theorem T3 (h:(decide ((c.toNat:Int)<48)||decide ((57:Int)<c.toNat))=false):48<=c.toNat/\c.toNat<=57/\iJ c=true:=by grind [DJ]
def aq.size:aq->Nat
 | .mk a ps=>1+a.length+sizes ps
 where sizes:List aq->Nat
 |[]=>0
 |t::ts=>t.size+sizes ts
theorem acQ {ps:List aq}:∀{i:Nat} {p:aq},ps[i]?=some p->p.size<=aq.size.sizes ps:=by
 induction ps with
 |nil=>intro i p h;simp at h
 |cons q ps a=>
  intro i p h;cases i with
  |zero=>simp at h;subst h;simp only[aq.size.sizes];omega
  |succ i=>have:=a (by simpa using h);simp only[aq.size.sizes];omega
theorem Ia {t:aq} (h:t.ag[i]?=some p):p.size<t.size:=by
 cases t with
 |mk a ps=>have:=acQ (ps:=ps) h;simp only[aq.size];omega
theorem lD:∀t:aq,t.ag.length<t.size
 | .mk a ps=>by
  have:∀l:List aq,l.length<=aq.size.sizes l:=by
   intro l;induction l with
   |nil=>simp[aq.size.sizes]
   |cons q r _=>cases q;simp only[aq.size.sizes,aq.size,lC];omega
  have:=this ps;simp only[aq.ag,aq.size];omega
inductive WF:aq->Prop
 |au (a:ak) (h:a≠[]):WF (.mk a [])
 |list (ps:List aq) (h:ps≠[]) (hp:∀p∈ps,WF p):WF (.mk [] ps)
theorem WF.part (h:WF t) (a:t.ag[i]?=some p):WF p:=by cases h<;>grind [aq.ag]
theorem WF.first (h:WF t) (c:t.au=[]):∃p,t.ag[0]?=some p:=by
 cases h with
 |au a b=>exact absurd c b
 |list ps b _=>
  cases ps with
  |nil=>exact absurd rfl b
  |cons q r=>exact⟨q,rfl⟩
theorem WF.leaf (h:WF t) (b:t.au≠[]):t.ag=[]:=by
 cases h with
 |au a _=>rfl
 |list ps _ _=>exact absurd rfl b
theorem T4 {rd:ak->Option (aq×ak)} (f:∀s t r,rd s=some (t,r)->WF t):∀n s ts r,js rd n s=some (ts,r)->ts≠[]/\∀p∈ts,WF p
 |0,_,_,_,h=>by simp[js] at h
 |n+1,s,ts,r,h=>by
  unfold js at h;cases b:rd s with
  |none=>simp[b] at h
  |some q=>
   obtain⟨t,m⟩:=q;have j:=f s t m b;simp only[b] at h;cases m with
   |nil=>simp at h
   |cons c l=>
    simp only at h;by_cases g:c=41
    .rw[iP g] at h;simp at h;obtain⟨rfl,_⟩:=h;exact⟨by simp,by intro p a;simp at a;subst a;exact j⟩
    .rw[iN g] at h;by_cases i:c=32
     .rw[iP i] at h;cases a:js rd n l with
      |none=>simp[a] at h
      |some q=>obtain⟨e,d⟩:=q;simp[a] at h;obtain⟨rfl,_⟩:=h;obtain⟨_,o⟩:=T4 f n l e d a;exact⟨by simp,by intro p a;rcases mC.1 a with rfl|a;exact j;exact o p a⟩
     .rw[iN i] at h;cases h
theorem acR:∀d s t r,eZ d s=some (t,r)->WF t:=by
 have leaf:∀(s:ak) (t:aq) (r:ak),(if s.takeWhile fi=[] then none else some (aq.mk (s.takeWhile fi) [],s.dropWhile fi))=some (t,r)->WF t:=by
  intro s t r h;split at h
  .cases h
  .rename_i g;simp only[Option.some.injEq,Prod.mk.injEq] at h;rw[<-h.1];exact .au _ g
 intro d;induction d with
 |zero=>
  intro s t r h;cases s with
  |nil=>simp[eZ] at h
  |cons c s=>
   simp only[eZ] at h;by_cases a:c=40
   .rw[iP a] at h;cases h
   .rw[iN a] at h;exact leaf _ _ _ h
 |succ d i=>
  intro s t r h;cases s with
  |nil=>simp[eZ] at h
  |cons c s=>
   simp only[eZ] at h;by_cases a:c=40
   .rw[iP a] at h;cases b:js (eZ d) (s.length+1) s with
    |none=>simp[b] at h
    |some q=>obtain⟨_,_⟩:=q;simp[b] at h;obtain⟨e,f⟩:=T4 i _ _ _ _ b;rw[<-h.1];exact .list _ e f
   .rw[iN a] at h;exact leaf _ _ _ h
theorem vI (h:bP s=some t):WF t:=by grind [bP,eZ,acR]
theorem T5 {rd:ak->Option (aq×ak)} (f:∀s t r,rd s=some (t,r)->t.size+r.length<=s.length+1):∀n s ts r,js rd n s=some (ts,r)->aq.size.sizes ts+r.length<=s.length
 |0,_,_,_,h=>by simp[js] at h
 |n+1,s,ts,r,h=>by
  unfold js at h;cases b:rd s with
  |none=>simp[b] at h
  |some q=>
   obtain⟨t,l⟩:=q;have m:=f s t l b;simp only[b] at h;cases l with
   |nil=>simp at h
   |cons c j=>
    simp only at h;rw[lC] at m;by_cases g:c=41
    .rw[iP g] at h;simp at h;obtain⟨rfl,rfl⟩:=h;simp only[aq.size.sizes];omega
    .rw[iN g] at h;by_cases i:c=32
     .rw[iP i] at h;cases a:js rd n j with
      |none=>simp[a] at h
      |some q=>obtain⟨e,d⟩:=q;simp[a] at h;obtain⟨rfl,rfl⟩:=h;have o:=T5 f n j e d a;simp only[aq.size.sizes];omega
     .rw[iN i] at h;cases h
theorem acS:∀d s t r,eZ d s=some (t,r)->t.size+r.length<=s.length+1:=by
 have leaf:∀(s:ak) (t:aq) (r:ak),(if s.takeWhile fi=[] then none else some (aq.mk (s.takeWhile fi) [],s.dropWhile fi))=some (t,r)->t.size+r.length<=s.length+1:=by
  intro s t r h;split at h
  .cases h
  .simp only[Option.some.injEq,Prod.mk.injEq] at h;obtain⟨rfl,rfl⟩:=h;have a:=H3 fi s;rw[H2,List.length_drop];simp only[aq.size,aq.size.sizes];omega
 intro d;induction d with
 |zero=>
  intro s t r h;cases s with
  |nil=>simp[eZ] at h
  |cons c s=>
   simp only[eZ] at h;by_cases a:c=40
   .rw[iP a] at h;cases h
   .rw[iN a] at h;exact leaf _ _ _ h
 |succ d e=>
  intro s t r h;cases s with
  |nil=>simp[eZ] at h
  |cons c s=>
   simp only[eZ] at h;by_cases a:c=40
   .rw[iP a] at h;cases b:js (eZ d) (s.length+1) s with
    |none=>simp[b] at h
    |some q=>obtain⟨_,_⟩:=q;simp[b] at h;have f:=T5 e _ _ _ _ b;obtain⟨rfl,rfl⟩:=h;simp only[aq.size,lC,List.length_nil];omega
   .rw[iN a] at h;exact leaf _ _ _ h
theorem Oo (h:bP s=some t):s.length<=12000:=by grind [bP]
theorem BG (h:bP s=some t):t.size<=12001:=by
 have b:=Oo h;unfold bP at h;split at h
 .cases h
 .cases a:eZ 60 s with
  |none=>rw[a] at h;cases h
  |some q=>
   obtain⟨_,r⟩:=q;rw[a] at h;cases r with
   |nil=>simp at h;subst h;have:=acS _ _ _ _ a;simp at this;omega
   |cons c r=>cases h
theorem pZ:∀t:aq,t.au.length<t.size
 | .mk a ps=>by simp only[aq.au,aq.size];omega
def fX (b:Bool):aq->Bool
 | .mk a ps=>if a≠[] then decide (a=[105])||(b&&decide (a=[118])) else match ps with
  |[]=>false
  |h::rest=>if h.au=[101] then oneT rest else if h.au=[116]\/h.au=[99] then nv b rest else false
 where
 oneT:List aq->Bool
  |[]=>false
  |[t]=>fX true t
  |_::_::_=>false
 nv (b:Bool):List aq->Bool
  |[]=>true
  |t::ts=>fX b t&&nv b ts
theorem Oq (a:Bool):∀ts,fX.nv a ts=ts.all (fX a)
 |[]=>rfl
 |t::ts=>by simp[fX.nv,Oq a ts]
def nth (a:List aq) (i:Nat):aq:=a.getD i<|.mk [] []
theorem ek (h:i<ps.length):ps[i]?=some (nth ps i):=by grind [nth]
theorem kP (h:i<t.ag.length):(nth t.ag i).size<t.size:=Ia<|ek h
theorem WF.nth (h:WF t) (a:i<t.ag.length):WF (nth t.ag i):=h.part<|ek a
theorem WF.pos (h:WF t) (a:t.au=[]):0<t.ag.length:=by grind [WF.first]
theorem T6 (h:t.au≠[]) (b:Bool):fX b t=(decide (t.au=[105])||(b&&decide (t.au=[118]))):=by
 cases t with
 |mk a ps=>unfold fX;exact iP h
theorem Ot (c:t.au=[]) (e:0<t.ag.length) (d:(nth t.ag 0).au=[101]) (b:Bool):fX b t=(decide (t.ag.length=2)&&fX true (nth t.ag 1)):=by
 cases t with
 |mk a ps=>
  simp only[aq.au] at c;subst c;cases ps with
  |nil=>simp[aq.ag] at e
  |cons h rest=>
   have f:h.au=[101]:=d;simp only[fX,f,aq.ag,ne_eq,not_true_eq_false,if_false,if_true]
   match rest with
   |[]=>simp[fX.oneT]
   |[p]=>simp[fX.oneT,_root_.Go.Proofs.YtcildnfcpkpomaaGreatDoor.nth]
   |p::q::r=>simp[fX.oneT]
theorem Ou (c:t.au=[]) (g:0<t.ag.length) (f:(nth t.ag 0).au=[116]\/(nth t.ag 0).au=[99]) (b:Bool):fX b t=(t.ag.drop 1).all (fX b):=by
 cases t with
 |mk a ps=>
  simp only[aq.au] at c;subst c;cases ps with
  |nil=>simp[aq.ag] at g
  |cons h rest=>
   have d:h.au=[116]\/h.au=[99]:=f;have e:h.au≠[101]:=by rcases d with h|h<;>rw[h]<;>decide
   simp only[fX,e,d,aq.ag,ne_eq,not_true_eq_false,if_false,if_true,Oq,List.drop_one,List.tail_cons]
theorem Ov (e:t.au=[]) (i:0<t.ag.length) (f:(nth t.ag 0).au≠[101]) (g:¬((nth t.ag 0).au=[116]\/(nth t.ag 0).au=[99])) (b:Bool):fX b t=false:=by
 cases t with
 |mk a ps=>
  simp only[aq.au] at e;subst e;cases ps with
  |nil=>simp[aq.ag] at i
  |cons h rest=>have c:h.au≠[101]:=f;have d:¬(h.au=[116]\/h.au=[99]):=g;simp only[fX,c,d,ne_eq,not_true_eq_false,if_false]
theorem T7 {f:aq->Bool} (a:i<ps.length):(ps.drop i).all f=(f (nth ps i)&&(ps.drop<|i+1).all f):=by rw[List.drop_eq_getElem_cons a,List.all_cons];simp[nth,List.getD,gE a]
theorem acV {a x y:ak} (h:(decide (a≠x)&&decide (a≠y))=false):a=x\/a=y:=by grind
theorem acW {a x y:ak} (h:(decide (a≠x)&&decide (a≠y))=true):¬(a=x\/a=y):=by grind
def ub (a:ak):Int:=match numeral a with
 |some n=>if 0<=n/\n<=39 then n else -1
 |none=> -1
def qL (a:ak):Bool:=decide<|0<=ub a
def jT (z:Int) (t:aq):Bool:=
 if z=114\/z=42 then qL t.au else if z=110 then(numeral t.au).isSome else if z=108 then nu t.au
 else if z=101 then decide (bC t=[101])&&fX false t else fX false t
theorem T8 {b:Bool} (h:(!b)=false):b=true:=by grind
theorem T9 {b:Bool} (h:(!b)=true):b=false:=by grind
theorem BH {b:Prop} [Decidable a] [Decidable b] (h:a):decide a=(decide a||decide b):=by grind
theorem BI {b:Prop} [Decidable a] [Decidable b] (h:¬a):decide b=(decide a||decide b):=by grind
theorem Ow {b c:Prop} [Decidable a] [Decidable b] [Decidable c] (h:a):decide a=(decide a||decide b||decide c):=by grind
theorem Ox {b c:Prop} [Decidable a] [Decidable b] [Decidable c] (h:¬a) (d:b):decide b=(decide a||decide b||decide c):=by grind
theorem Oy {b c:Prop} [Decidable a] [Decidable b] [Decidable c] (h:¬a) (d:¬b):decide c=(decide a||decide b||decide c):=by grind
theorem BJ {b:Prop} [Decidable a] [Decidable b] (h:(decide a||decide b)=true):a\/b:=by simpa using h
theorem BK {b:Prop} [Decidable a] [Decidable b] (h:(decide a||decide b)=false):¬(a\/b):=by simpa using h
theorem Oz {b c:Prop} [Decidable a] [Decidable b] [Decidable c] (h:(decide a||decide b||decide c)=true):a\/b\/c:=by grind
theorem OB {b c:Prop} [Decidable a] [Decidable b] [Decidable c] (h:(decide a||decide b||decide c)=false):¬(a\/b\/c):=by grind
def shapeOf (h:ak):ak:=
 if h=[99,111,110,115,116] then[114,110]
 else if h=[109,111,118]\/h=[111,112,101,110] then[114,114]
 else if h=[97,100,100]\/h=[115,117,98]\/h=[109,117,108] then[114,114,114]
 else if h=[110,101,119] then[114,42]
 else if h=[103,101,116] then[114,114,110]
 else if h=[108,97,98]\/h=[122,101,114,111] then[114,108]
 else if h=[112,97,99,107] then[114,114,101,119]
 else if h=[106,117,109,112]\/h=[104,97,108,116] then[114]
 else[]
def OC (h:ak) (i:Nat):Int:=((h.getD (min i h.length-1) 0).toNat:Int)
def ug (t:aq):Bool:=(decide (shapeOf (bC t)≠[114,42])&&decide (t.ag.length≠(shapeOf<|bC t).length+1))||decide (t.ag.length<2)
def vJ (t:aq) (i:Nat):Bool:=jT (OC (shapeOf<|bC t) i)<|nth t.ag i
def mj (t:aq):Bool:=if shapeOf (bC t)=[] then false else if ug t then false
 else decide (∀i,i<t.ag.length->1<=i->vJ t i=true)&&(decide (bC t≠[103,101,116])||decide (0<=(numeral (nth t.ag 3).au).getD 0))
theorem acX (a:h=[103,101,116]):shapeOf h=[114,114,110]:=by rw[a];decide
theorem acY (h:ug t=false) (a:bC t=[103,101,116]):t.ag.length=4:=by grind [ug,acX]
theorem acZ (h:ug t=false):2<=t.ag.length:=by grind [ug]
theorem OD (h:shapeOf (bC t)≠[]):t.au=[]/\0<t.ag.length/\bC t=(nth t.ag 0).au:=by
 have c:bC t≠[]:=λd=>by rw[d] at h;exact h de
 by_cases b:t.au=[]
 .rcases Nat.eq_zero_or_pos t.ag.length with a|a
  .exact absurd (vH (.inr<|List.length_eq_zero_iff.1 a)) c
  .exact⟨b,a,FU b<|ek a⟩
 .exact absurd (vH<|.inl b) c
theorem ac0 (h:ak):(shapeOf h).length<=4:=by grind [shapeOf]
theorem Ua (a:n=t.ag.length):((decide (shapeOf (bC t)≠[114,42])&&decide ((n:Int)≠((shapeOf<|bC t).length:Int)+1))||decide ((n:Int)<2))=ug t:=by grind [ug]
theorem OE (h:shapeOf (bC t)=[]):mj t=false:=by unfold mj;rw[iP h]
theorem OF (h:ug t=true):mj t=false:=by grind [mj]
theorem ac1 (b:i<t.ag.length) (a:1<=i) (h:vJ t i=false):mj t=false:=by grind [mj]
theorem ac2 (a:shapeOf (bC t)≠[]) (b:ug t=false) (h:∀i,i<t.ag.length->1<=i->vJ t i=true):
  mj t=(decide (bC t≠[103,101,116])||decide (0<=(numeral (nth t.ag 3).au).getD 0)):=by grind [mj]
theorem ac3 (h:mj t=true):0<t.ag.length:=by
 unfold mj at h;split at h
 .cases h
 .rename_i a;exact(OD a).2.1
def seen (f:aq->Bool) (s:ak):Bool:=match bP s with
 |some t=>f t
 |none=>false
theorem KP {f:aq->Bool} (h:∀a,bP s=some a->t=a):((bP s).isSome&&f t)=seen f s:=by grind [bP,seen]
def KQ (t:aq):Bool:=mj t&&(decide ((nth t.ag 0).au=[106,117,109,112])||decide ((nth t.ag 0).au=[104,97,108,116]))
abbrev uh (s:ak):Bool:=seen (fX false) s
abbrev ui (s:ak):Bool:=seen mj s
abbrev FV (s:ak):Bool:=seen KQ s
def BL:Bk:=⟨[],[],[]⟩
abbrev bX (bs:List Bk) (i:Nat):Bk:=bs.getD i BL
theorem s0 (h:i<bs.length):bs[i]?=some (bX bs i):=by grind
def p4 (bs:List Bk) (l:ak):Int:=match bs.findIdx? (λb=>decide<|b.aL=l) with
 |some i=>(i:Int)
 |none=> -1
theorem Ub {l:ak} (hk:k<bs.length) (h:∀i,i<k->(bX bs i).aL≠l) (c:(bX bs k).aL=l):p4 bs l=(k:Int):=by
 have:bs.findIdx? (λb=>decide<|b.aL=l)=some k:=by rw[List.findIdx?_eq_some_iff_getElem];refine⟨hk,by simpa[gE hk] using c,λj a=>?_⟩;have:=h j a;simpa[gE (Nat.lt_trans a hk)] using this
 unfold p4;rw[this]
theorem ac4 {l:ak} (h:∀i,i<bs.length->(bX bs i).aL≠l):p4 bs l= -1:=by
 have:bs.findIdx? (λb=>decide<|b.aL=l)=none:=by rw[List.findIdx?_eq_none_iff];intro b hb;obtain⟨i,a,rfl⟩:=List.getElem_of_mem hb;have:=h i a;simpa[gE a] using this
 unfold p4;rw[this]
def s5 (code:List ak) (i:Nat):Bool:=ui (cO code i)&&(FV (cO code i)==decide (i+1=code.length))
def kA (b:Bk):Bool:=nu b.aL&&decide (b.ck.length<=40)&&(decide (1<=b.code.length)&&decide (b.code.length<=80))&&
 decide (∀i,i<b.ck.length->uh (cO b.ck i)=true)&&decide (∀i,i<b.code.length->s5 b.code i=true)
def iK (bs:List Bk):Bool:=decide (∀i,i<bs.length->kA (bX bs i)=true/\p4 bs (bX bs i).aL=i)&&
 (decide (1<=bs.length)&&decide (bs.length<=40)&&decide ((bX bs 0).aL=[109,97,105,110])&&decide ((bX bs 0).ck.length=0))
theorem Uc (h:(nu b.aL&&decide (b.ck.length<=40)&&(decide (1<=b.code.length)&&decide (b.code.length<=80)))=false):kA b=false:=by unfold kA;rw[h];rfl
theorem Ud (a:i<b.ck.length) (h:uh (cO b.ck i)=false):kA b=false:=by grind [kA]
theorem Ue (a:i<b.code.length) (h:s5 b.code i=false):kA b=false:=by grind [s5,kA]
theorem Uf (h:(nu b.aL&&decide (b.ck.length<=40)&&(decide (1<=b.code.length)&&decide (b.code.length<=80)))=true) (a:∀i,i<b.ck.length->uh (cO b.ck i)=true) 
  (c:∀i,i<b.code.length->s5 b.code i=true):kA b=true:=by grind [kA]
theorem Ug (b:i<bs.length) (h:¬(kA (bX bs i)=true/\p4 bs (bX bs i).aL=i)):iK bs=false:=by unfold iK;rw[dF (p:=∀i:Nat,i<bs.length->kA (bX bs i)=true/\p4 bs (bX bs i).aL=i) λa=>h (a i b)];rfl
theorem Uh (h:∀i,i<bs.length->kA (bX bs i)=true/\p4 bs (bX bs i).aL=i):
  iK bs=(decide (1<=bs.length)&&decide (bs.length<=40)&&decide ((bX bs 0).aL=[109,97,105,110])&&decide ((bX bs 0).ck.length=0)):=by grind [iK]
theorem KR (a:n1=b.ck.length) (c:n2=b.code.length):(!nu b.aL||decide ((40:Int)<n1)||!(decide ((1:Int)<=n2)&&decide ((n2:Int)<=80)))=
  !(nu b.aL&&decide (b.ck.length<=40)&&(decide (1<=b.code.length)&&decide (b.code.length<=80))):=by grind
theorem OG {code:List ak} (b:n=code.length) (a:i<n):(!ui (cO code i)||(FV (cO code i) !=decide ((i:Int)=(n:Int)-1)))=!s5 code i:=by grind [s5]
def Bk.small (b:Bk):Prop:=b.aL.length<1000000000/\b.ck.length<1000000000/\b.code.length<1000000000
def uj (bs:List Bk):Prop:=bs.length<1000000000/\∀i,i<bs.length->(bX bs i).small
theorem ac5 (b:n=bs.length) (a:0<bs.length->n1=(bX bs 0).ck.length):
  ((decide ((1:Int)<=n)&&decide ((n:Int)<=40))&&decide ((bX bs 0).aL=[109,97,105,110])&&decide ((n1:Int)=0))=(decide (1<=bs.length)&&decide (bs.length<=40)&&decide ((bX bs 0).aL=[109,97,105,110])&&decide ((bX bs 0).ck.length=0)):=by grind
theorem ac6 (s:ak):Lib.trimPrefix s [45]=fj s:=by
 unfold Lib.trimPrefix Lib.hasPrefix fj;cases s with
 |nil=>simp
 |cons c r=>
  by_cases h:c=45
  .subst h;simp
  .have a:((45:UInt8)==c)=false:=by simpa using λb=>h b.symm
   simp[List.isPrefixOf,a,h]
theorem Ui:∀(l:ak) (n:Nat),l.all iJ=true->Lib.decFrom n l=some (l.foldl (λn c=>10*n+(c.toNat-48)) n)
 |[],n,_=>rfl
 |c::r,n,h=>by
  simp only[List.all_cons,aE] at h;have a:=(DJ c).1 h.1;have b:Lib.digitVal c=some (c.toNat-48):=by unfold Lib.digitVal;rw[iP a]
  simp only[Lib.decFrom,b,List.foldl_cons];rw[show n*10+(c.toNat-48)=10*n+(c.toNat-48) from by omega];exact Ui r _ h.2
theorem ac7 {l:ak} (a:l≠[]) (h:l.all iJ=true):Lib.decNat l=some (val l):=by unfold Lib.decNat;rw[iN (by simpa using a)];exact Ui l 0 h
theorem ac8 {z:Int} (h:numeral s=some z):Lib.atoi s=some z:=by
 unfold numeral at h;by_cases e:s=[48]
 .rw[iP e] at h;subst e;rw[<-h];decide
 .rw[iN e] at h;by_cases f:(fj s).length<1\/3<(fj s).length\/(fj s).getD 0 0=48
  .rw[iP f] at h;cases h
  .rw[iN f] at h;by_cases a:(fj s).all iJ=true
   .rw[iP a] at h;have m:fj s≠[]:=λi=>f<|.inl (by rw[i];simp);have d:=ac7 m a;cases s with
    |nil=>exact absurd (by unfold fj;simp) m
    |cons c r=>
     by_cases b:c=45
     .subst b;have g:fj (45::r)=r:=by unfold fj;simp
      have j:sq (45::r)= -1:=by unfold sq;simp
      rw[g] at d h;rw[j] at h;simp only[Lib.atoi,d,beq_self_eq_true,if_true,Option.map_some];rw[<-h];simp
     .have g:fj (c::r)=c::r:=by unfold fj;simp[b]
      have j:sq (c::r)=1:=by unfold sq;simp[b]
      rw[g] at d h a;rw[j] at h;have l:=(DJ c).1 (by simp only[List.all_cons,aE] at a;exact a.1);have n:(c==45)=false:=by simpa using b
      have o:(c==43)=false:=by
       have:c≠43:=λi=>by rw[i] at l;exact absurd l.1 de
       simpa using this
      simp only[Lib.atoi,n,o,d,Bool.false_eq_true,if_false,Option.map_some];rw[<-h];simp
   .rw[iN a] at h;cases h
theorem Uk {z:Int} (h:numeral s=some z):s.length<=4:=by grind [numeral,fj]
theorem ac9 (s:ak):(decide (s=[48])||(decide (1<=(fj s).length)&&decide ((fj s).length<=3)&&(fj s).all iJ&&decide ((fj s).getD 0 0≠48)))=(numeral s).isSome:=by grind [fj,iJ,numeral]
theorem ada (s:ak):((numeral s).isSome&&(decide (0<=(numeral s).getD 0)&&decide ((numeral s).getD 0<=39)))=qL s:=by grind [numeral,qL,ub]
theorem adb (hk:k<s.length) (h:iJ (s.getD k 0)=false):s.all iJ=false:=by grind
theorem ade (s:ak):(decide (s=[48])||(decide ((1:Int)<=((fj s).length:Int))&&decide (((fj s).length:Int)<=3)&&(fj s).all iJ&&decide ((((fj s).getD 0 0).toNat:Int)≠48)))=(numeral s).isSome:=by
 rw[<-ac9,show decide ((1:Int)<=((fj s).length:Int))=decide (1<=(fj s).length) from decide_eq_decide.2 om,show decide (((fj s).length:Int)<=3)=decide ((fj s).length<=3) from decide_eq_decide.2 om,
  show decide ((((fj s).getD 0 0).toNat:Int)≠48)=decide ((fj s).getD 0 0≠48) from decide_eq_decide.2 (by
   have b:(48:UInt8).toNat=48:=rfl;constructor
   .intro h a;exact h (by rw[a];rfl)
   .intro h a;exact h (UInt8.toNat_inj.1 om))]
def DK (a:List aq) (g:aq->Bool):Int:=match a.findIdx? g with
 |some i=>(i:Int)
 |none=> -1
theorem wU (h:i<ts.length):nth ts i=ts[i]:=by grind [nth]
theorem adf {g:aq->Bool} (hk:k<ts.length) (h:∀i,i<k->g (nth ts i)=false) (b:g (nth ts k)=true):DK ts g=(k:Int):=by
 have:ts.findIdx? g=some k:=by rw[List.findIdx?_eq_some_iff_getElem];refine⟨hk,by rw[<-wU hk];exact b,λj a=>?_⟩;have:=h j a;rw[wU (Nat.lt_trans a hk)] at this;simpa using this
 unfold DK;rw[this]
theorem adg {g:aq->Bool} (h:∀i,i<ts.length->g (nth ts i)=false):DK ts g= -1:=by grind [wU,DK,List.findIdx?_eq_none_iff,List.getElem_of_mem]
theorem adh (a:List aq) (g:aq->Bool):decide (0<=DK a g)=a.any g:=by grind [DK]
def eI (h:ak) (n:Nat):ak:=
 if h=[99,111,110,115,116] then[100,110]
 else if h=[109,111,118]\/h=[111,112,101,110] then[100,115]
 else if h=[97,100,100]\/h=[115,117,98]\/h=[109,117,108] then[100,115,115]
 else if h=[110,101,119] then[100]++List.replicate (n-2) 115
 else if h=[103,101,116] then[100,115,109]
 else if h=[108,97,98] then[100,108]
 else if h=[112,97,99,107] then[100,115,69,87]
 else if h=[122,101,114,111] then[115,108]
 else if h=[106,117,109,112]\/h=[104,97,108,116] then[115]
 else[]
def iH (z:Int) (t:aq):Bool:=
 if z=100\/z=115 then qL t.au else if z=110 then(numeral t.au).isSome
 else if z=109 then(numeral t.au).isSome&&decide (0<=(numeral t.au).getD 0)
 else if z=108 then nu t.au else if z=69 then(decide (t.ag.length=2)&&decide (bC t=[101]))&&fX false t
 else if z=87 then fX false t else false
def nz (t:aq):Bool:=
 if eI (bC t) t.ag.length=[]\/t.ag.length≠(eI (bC t) t.ag.length).length+1 then false
 else decide (∀i,i<(eI (bC t) t.ag.length).length->iH (((eI (bC t) t.ag.length).getD i 0).toNat:Int) (nth t.ag (i+1))=true)
theorem KT (h:eI (bC t) t.ag.length=[]\/t.ag.length≠(eI (bC t) t.ag.length).length+1):nz t=false:=by unfold nz;rw[iP h]
theorem adi (a:i<(eI (bC t) t.ag.length).length) (h:iH (((eI (bC t) t.ag.length).getD i 0).toNat:Int) (nth t.ag<|i+1)=false):nz t=false:=by grind [nz]
theorem adj (h:¬(eI (bC t) t.ag.length=[]\/t.ag.length≠(eI (bC t) t.ag.length).length+1)) 
  (a:∀i,i<(eI (bC t) t.ag.length).length->iH (((eI (bC t) t.ag.length).getD i 0).toNat:Int) (nth t.ag (i+1))=true):nz t=true:=by grind [nz]
theorem shift {P Q:Nat->Prop} (h:∀i,i<n->(P i↔Q (i+1))):(∀i,i<n->P i)↔(∀i,i<n+1->1<=i->Q i):=by
 constructor
 .intro b i a _;have:=(h (i-1) om).1<|b (i-1) om;rwa [show i-1+1=i from by omega] at this
 .intro c i a;exact(h i a).2 (c (i+1) om om)
theorem BM (e a:ak) (ex:Nat->aq->Bool) (m:eI (bC t) t.ag.length=e) (g:shapeOf (bC t)=a) (c:e.length=a.length) (l:a≠[]) (f:a≠[114,42]) 
  (n:∀i u,i<a.length->iH ((e.getD i 0).toNat:Int) u=(jT ((a.getD i 0).toNat:Int) u&&ex i u))
  (q:t.ag.length=a.length+1->(decide (bC t≠[103,101,116])||decide (0<=(numeral (nth t.ag 3).au).getD 0))=decide (∀i,i<a.length->ex i (nth t.ag (i+1))=true)):nz t=mj t:=by
 have r:1<=a.length:=List.length_pos_iff.2 l;have j:e≠[]:=λh=>by rw[h] at c;simp at c;omega
 by_cases d:t.ag.length=a.length+1
 .unfold nz mj ug;rw[m,g,iN (by rw[c];rintro(h|h);exact j h;exact h d),iN l,q d];rw[iN (by rw[dF (p:=t.ag.length≠a.length+1) om,dF (p:=t.ag.length<2) om];simp),<-Bool.decide_and,decide_eq_decide,c,d];rw[<-shift (P:=λi=>jT ((a.getD i 0).toNat:Int) (nth t.ag<|i+1)=true) λi b=>by
   unfold vJ OC;rw[g,show min (i+1) a.length-1=i from by omega]]
  constructor
  .intro h;refine⟨λi b=>?_,λi b=>?_⟩<;>
   .have:=h i b;rw[n i _ b,aE] at this
    first|exact this.1|exact this.2
  .rintro⟨o,hb⟩ i b;rw[n i _ b,o i b,hb i b];rfl
 .rw[KT<|.inr (by rw[m,c];exact d),OF];unfold ug;rw[g,dT f,dT d];rfl
theorem adl (n:Nat) (u:Nat->aq):decide (∀i,i<n->(fun(_:Nat) (_:aq)=>true) i (u i)=true)=true:=by grind
theorem adm (u:aq):((decide (u.ag.length=2)&&decide (bC u=[101]))&&fX false u)=(decide (bC u=[101])&&fX false u):=by grind [vH,dy.length,FU,ek,Ot]
theorem adn {P:Nat->Prop} (h:n<=4) (a:P 0) (b:2<=n->P 1) (c:3<=n->P 2) (d:4<=n->P 3):∀i,i<n->P i:=by grind
theorem BN {b a:ak} {ex:Nat->aq->Bool} (g:a.length<=4) (c:∀u,iH ((b.getD 0 0).toNat:Int) u=(jT ((a.getD 0 0).toNat:Int) u&&ex 0 u)) (d:∀u,2<=a.length->iH ((b.getD 1 0).toNat:Int) u=(jT ((a.getD 1 0).toNat:Int) u&&ex 1 u)) 
  (e:∀u,3<=a.length->iH ((b.getD 2 0).toNat:Int) u=(jT ((a.getD 2 0).toNat:Int) u&&ex 2 u)) (f:∀u,4<=a.length->iH ((b.getD 3 0).toNat:Int) u=(jT ((a.getD 3 0).toNat:Int) u&&ex 3 u)):
  ∀i u,i<a.length->iH ((b.getD i 0).toNat:Int) u=(jT ((a.getD i 0).toNat:Int) u&&ex i u):=by grind
theorem OH (u:aq):iH 100 u=qL u.au:=by simp[iH]
theorem KU (u:aq):iH 115 u=qL u.au:=by simp[iH]
theorem ado (u:aq):iH 110 u=(numeral u.au).isSome:=by simp[iH]
theorem OI (u:aq):iH 109 u=((numeral u.au).isSome&&decide (0<=(numeral u.au).getD 0)):=by simp[iH]
theorem adp (u:aq):iH 108 u=nu u.au:=by simp[iH]
theorem OJ (u:aq):iH 69 u=((decide (u.ag.length=2)&&decide (bC u=[101]))&&fX false u):=by simp[iH]
theorem adq (u:aq):iH 87 u=fX false u:=by simp[iH]
theorem OK (u:aq):jT 114 u=qL u.au:=by simp[jT]
theorem adr (u:aq):jT 42 u=qL u.au:=by simp[jT]
theorem Ul (u:aq):jT 110 u=(numeral u.au).isSome:=by simp[jT]
theorem ads (u:aq):jT 108 u=nu u.au:=by simp[jT]
theorem adt (u:aq):jT 101 u=(decide (bC u=[101])&&fX false u):=by simp[jT]
theorem adu (u:aq):jT 119 u=fX false u:=by simp[jT]
theorem FW (u:aq):iH 100 u=(jT 114 u&&true):=by rw[OH,OK,Bool.and_true]
theorem DL (u:aq):iH 115 u=(jT 114 u&&true):=by rw[KU,OK,Bool.and_true]
theorem adv (u:aq):iH 110 u=(jT 110 u&&true):=by rw[ado,Ul,Bool.and_true]
theorem adw (u:aq):iH 109 u=(jT 110 u&&decide (0<=(numeral u.au).getD 0)):=by rw[OI,Ul]
theorem Um (u:aq):iH 108 u=(jT 108 u&&true):=by rw[adp,ads,Bool.and_true]
theorem adx (u:aq):iH 69 u=(jT 101 u&&true):=by rw[OJ,adt,Bool.and_true,adm]
theorem ady (u:aq):iH 87 u=(jT 119 u&&true):=by rw[adq,adu,Bool.and_true]
theorem adz (h:bC t=[110,101,119]):nz t=mj t:=by
 have a:eI (bC t) t.ag.length=[100]++List.replicate (t.ag.length-2) 115:=by rw[h];rfl
 have d:shapeOf (bC t)=[114,42]:=by rw[h];rfl
 have c:(eI (bC t) t.ag.length).length=t.ag.length-2+1:=by rw[a];simp
 by_cases g:2<=t.ag.length
 .unfold nz mj ug;rw[iN (by rw[c];rintro(b|b);(·rw[a] at b;simp at b);(·omega)),d,iN de,
   iN (by rw[dF (p:=t.ag.length<2) om];simp),dT (p:=bC t≠[103,101,116]) (by rw[h];decide),Bool.true_or,Bool.and_true,decide_eq_decide,c]
  rw[show(∀i,i<t.ag.length->1<=i->vJ t i=true)↔(∀i,i<(t.ag.length-2+1)+1->1<=i->vJ t i=true) from by rw[show t.ag.length-2+1+1=t.ag.length from by omega]];refine shift λi _=>?_;have e:iH (((eI (bC t) t.ag.length).getD i 0).toNat:Int) (nth t.ag<|i+1)=qL (nth t.ag<|i+1).au:=by
   rw[a];cases i with
   |zero=>exact OH _
   |succ i=>
    have:([100]++List.replicate (t.ag.length-2) (115:UInt8)).getD (i+1) 0=115:=by simp[List.getD,show i<t.ag.length-2 from by omega]
    rw[this];exact KU _
  have f:vJ t (i+1)=qL (nth t.ag<|i+1).au:=by
   unfold vJ OC;rw[d];cases i with
   |zero=>exact OK _
   |succ i=>rw[show min (i+1+1) ([114,42]:ak).length-1=1 from by simp];exact adr _
  rw[e,f]
 .rw[KT<|.inr (by rw[c];omega),OF];unfold ug;rw[dT (p:=t.ag.length<2) om,Bool.or_true]
theorem Un (t:aq):nz t=mj t:=by
 have a:∀{m:ak},bC t≠[103,101,116]->(t.ag.length=m.length+1->(decide (bC t≠[103,101,116])||decide (0<=(numeral (nth t.ag 3).au).getD 0))=decide (∀i,i<m.length->(fun(_:Nat) (_:aq)=>true) i (nth t.ag<|i+1)=true)):=by intro m h _;rw[adl _ λi=>nth t.ag<|i+1,dT h];rfl
 by_cases c1:bC t=[99,111,110,115,116]
 .exact BM [100,110] [114,110] (λ_ _=>true) (by rw[c1];rfl) (by rw[c1];rfl) rfl de de
   (BN de (λu=>FW u) (λu _=>adv u) (λ_ h=>absurd h de) λ_ h=>absurd h de) (a (by rw[c1];decide))
 by_cases c2:bC t=[109,111,118]\/bC t=[111,112,101,110]
 .exact BM [100,115] [114,114] (λ_ _=>true) (by rcases c2 with c|c<;>rw[c]<;>rfl) (by rcases c2 with c|c<;>rw[c]<;>rfl) rfl de de
   (BN de (λu=>FW u) (λu _=>DL u) (λ_ h=>absurd h de) λ_ h=>absurd h de) (a (by rcases c2 with c|c<;>rw[c]<;>decide))
 by_cases b:bC t=[97,100,100]\/bC t=[115,117,98]\/bC t=[109,117,108]
 .exact BM [100,115,115] [114,114,114] (λ_ _=>true) (by rcases b with c|c|c<;>rw[c]<;>rfl) (by rcases b with c|c|c<;>rw[c]<;>rfl) rfl de de
   (BN de (λu=>FW u) (λu _=>DL u) (λu _=>DL u) λ_ h=>absurd h de) (a (by rcases b with c|c|c<;>rw[c]<;>decide))
 by_cases l:bC t=[110,101,119]
 .exact adz l
 by_cases d:bC t=[103,101,116]
 .refine BM [100,115,109] [114,114,110] (λi u=>if i=2 then decide (0<=(numeral u.au).getD 0) else true) (by rw[d];rfl) (by rw[d];rfl) rfl de de
   (BN de (λu=>FW u) (λu _=>DL u) (λu _=>adw u) λ_ h=>absurd h de) λ_=>?_
  rw[show decide (bC t≠[103,101,116])=false from dF λh=>h d,Bool.false_or];refine decide_eq_decide.2 ⟨λh=>adn de rfl (λ_=>rfl) (λ_=>by simpa using h) λh=>by simp at h,λh=>by simpa using h 2 de⟩
 by_cases e:bC t=[108,97,98]
 .exact BM [100,108] [114,108] (λ_ _=>true) (by rw[e];rfl) (by rw[e];rfl) rfl de de
   (BN de (λu=>FW u) (λu _=>Um u) (λ_ h=>absurd h de) λ_ h=>absurd h de) (a (by rw[e];decide))
 by_cases f:bC t=[112,97,99,107]
 .exact BM [100,115,69,87] [114,114,101,119] (λ_ _=>true) (by rw[f];rfl) (by rw[f];rfl) rfl de de
   (BN de (λu=>FW u) (λu _=>DL u) (λu _=>adx u) λu _=>ady u) (a (by rw[f];decide))
 by_cases g:bC t=[122,101,114,111]
 .exact BM [115,108] [114,108] (λ_ _=>true) (by rw[g];rfl) (by rw[g];rfl) rfl de de
   (BN de (λu=>DL u) (λu _=>Um u) (λ_ h=>absurd h de) λ_ h=>absurd h de) (a (by rw[g];decide))
 by_cases j:bC t=[106,117,109,112]\/bC t=[104,97,108,116]
 .exact BM [115] [114] (λ_ _=>true) (by rcases j with c|c<;>rw[c]<;>rfl) (by rcases j with c|c<;>rw[c]<;>rfl) rfl de de
   (BN de (λu=>DL u) (λ_ h=>absurd h de) (λ_ h=>absurd h de) λ_ h=>absurd h de) (a (by rcases j with c|c<;>rw[c]<;>decide))
 .have n:eI (bC t) t.ag.length=[]:=by unfold eI;rw[iN c1,iN c2,iN b,iN l,iN d,iN e,iN f,iN g,iN j]
  have o:shapeOf (bC t)=[]:=by unfold shapeOf;rw[iN c1,iN c2,iN b,iN l,iN d,iN (λh=>by rcases h with h|h;exact e h;exact g h),iN f,iN j]
  rw[KT<|.inl n,OE o]
theorem adA (h:ak) (n:Nat):(eI h n).length<=n+4:=by grind [eI]
theorem OL (h:WF t):2<=t.size:=by
 cases h with
 |au a b=>have:=List.length_pos_iff.2 b;simp only[aq.size];omega
 |list ps c _=>
  cases ps with
  |nil=>exact absurd rfl c
  |cons q r=>cases q;simp only[aq.size,aq.size.sizes];omega
theorem Uo:∀{ps:List aq},(∀p∈ps,WF p)->2*ps.length<=aq.size.sizes ps
 |[],_=>by simp[aq.size.sizes]
 |q::ps,h=>by have b:=OL<|h q sm;have c:=Uo (ps:=ps) λp a=>h p (by simp[a]);simp only[aq.size.sizes,lC];omega
theorem Up (h:WF t):2*t.ag.length+1<=t.size:=by cases h<;>grind [aq.ag,aq.size,Uo]
def Ib (t:aq):Bool:=decide (bC t=[106,117,109,112])||decide (bC t=[104,97,108,116])
theorem adB (h:mj t=true):bC t=(nth t.ag 0).au:=by grind [mj,bC,nth,aq.ag,OD]
theorem adC (h:mj t=true):KQ t=Ib t:=by unfold KQ Ib;rw[h,adB h];rfl
inductive Good:aq->Prop
 |au (a:ak) (h:a≠[]) (hb:a.all fi=true):Good (.mk a [])
 |list (ps:List aq) (h:ps≠[]) (hp:∀p∈ps,Good p):Good (.mk [] ps)
theorem Good.wf (h:Good t):WF t:=by
 induction h with
 |au a h _=>exact .au a h
 |list ps h _ b=>exact .list ps h b
theorem Good.part (h:Good t) (b:t.ag[i]?=some p):Good p:=by
 cases h with
 |au a _ _=>simp[aq.ag] at b
 |list ps _ c=>exact c p<|List.mem_of_getElem? b
theorem Good.nth (h:Good t) (a:i<t.ag.length):Good (nth t.ag i):=h.part<|ek a
def aq.depth:aq->Nat
 | .mk _ ps=>deeps ps
 where deeps:List aq->Nat
 |[]=>0
 |t::ts=>max (t.depth+1)<|deeps ts
theorem Uq:∀{p:aq},p∈ps->p.depth+1<=aq.depth.deeps ps:=by
 induction ps with
 |nil=>intro p h;simp at h
 |cons q ps a=>
  intro p h;rcases mC.1 h with rfl|h
  .simp only[aq.depth.deeps];omega
  .have:=a h;simp only[aq.depth.deeps];omega
theorem KV:∀{ps:List aq},(∀p∈ps,p.depth+1<=d)->aq.depth.deeps ps<=d
 |[],_=>by simp[aq.depth.deeps]
 |q::ps,h=>by have b:=h q sm;have c:=KV (ps:=ps) λp a=>h p (by simp[a]);simp only[aq.depth.deeps];omega
theorem rC {a:ak} (h:a≠[]):(aq.mk a ps).text=a:=by simp[aq.text,h]
theorem s8 (a:List aq):(aq.mk [] a).text=40::(lZ a++[41]):=by simp[aq.text]
theorem rD (t:aq):lZ [t]=t.text:=by simp[lZ]
theorem rE (t u:aq) (r:List aq):lZ (t::u::r)=t.text++32::lZ (u::r):=by simp[lZ]
theorem Ur {rd:ak->Option (aq×ak)} (i:∀s t r,rd s=some (t,r)->s=t.text++r):∀n s ts r,js rd n s=some (ts,r)->ts≠[]/\s=lZ ts++41::r
 |0,_,_,_,h=>by simp[js] at h
 |n+1,s,ts,r,h=>by
  unfold js at h;cases f:rd s with
  |none=>simp[f] at h
  |some q=>
   obtain⟨t,m⟩:=q;have j:=i s t m f;simp only[f] at h;cases m with
   |nil=>simp at h
   |cons c l=>
    simp only at h;by_cases b:c=41
    .rw[iP b] at h;simp at h;obtain⟨rfl,rfl⟩:=h;exact⟨by simp,by rw[j,b,rD]⟩
    .rw[iN b] at h;by_cases d:c=32
     .rw[iP d] at h;cases e:js rd n l with
      |none=>simp[e] at h
      |some q=>
       obtain⟨a,g⟩:=q;simp[e] at h;obtain⟨rfl,rfl⟩:=h;obtain⟨o,p⟩:=Ur i n l a g e;cases a with
       |nil=>exact absurd rfl o
       |cons u _=>exact⟨by simp,by rw[j,d,rE,p];simp⟩
     .rw[iN d] at h;cases h
theorem adD:∀d s t r,eZ d s=some (t,r)->s=t.text++r:=by
 have leaf:∀(s:ak) (t:aq) (r:ak),(if s.takeWhile fi=[] then none else some (aq.mk (s.takeWhile fi) [],s.dropWhile fi))=some (t,r)->s=t.text++r:=by
  intro s t r h;split at h
  .cases h
  .rename_i f;simp only[Option.some.injEq,Prod.mk.injEq] at h;rw[<-h.1,<-h.2,rC f,List.takeWhile_append_dropWhile]
 intro d;induction d with
 |zero=>
  intro s t r h;cases s with
  |nil=>simp[eZ] at h
  |cons c s=>
   simp only[eZ] at h;by_cases a:c=40
   .rw[iP a] at h;cases h
   .rw[iN a] at h;exact leaf _ _ _ h
 |succ d g=>
  intro s t r h;cases s with
  |nil=>simp[eZ] at h
  |cons c s=>
   simp only[eZ] at h;by_cases a:c=40
   .rw[iP a] at h;cases b:js (eZ d) (s.length+1) s with
    |none=>simp[b] at h
    |some q=>obtain⟨_,_⟩:=q;simp[b] at h;obtain⟨_,e⟩:=Ur g _ _ _ _ b;rw[<-h.1,<-h.2,s8,a,e];simp
   .rw[iN a] at h;exact leaf _ _ _ h
theorem Us {rd:ak->Option (aq×ak)} (d:Nat) (g:∀s t r,rd s=some (t,r)->Good t/\t.depth<=d):∀n s ts r,js rd n s=some (ts,r)->ts≠[]/\∀p∈ts,Good p/\p.depth<=d
 |0,_,_,_,h=>by simp[js] at h
 |n+1,s,ts,r,h=>by
  unfold js at h;cases b:rd s with
  |none=>simp[b] at h
  |some q=>
   obtain⟨t,o⟩:=q;have l:=g s t o b;simp only[b] at h;cases o with
   |nil=>simp at h
   |cons c m=>
    simp only at h;by_cases i:c=41
    .rw[iP i] at h;simp at h;obtain⟨rfl,_⟩:=h;exact⟨by simp,by intro p a;simp at a;subst a;exact l⟩
    .rw[iN i] at h;by_cases j:c=32
     .rw[iP j] at h;cases a:js rd n m with
      |none=>simp[a] at h
      |some q=>obtain⟨f,e⟩:=q;simp[a] at h;obtain⟨rfl,_⟩:=h;obtain⟨_,u⟩:=Us d g n m f e a;exact⟨by simp,by intro p a;rcases mC.1 a with rfl|a;exact l;exact u p a⟩
     .rw[iN j] at h;cases h
theorem all_takeWhile (p:UInt8->Bool):∀s:ak,(s.takeWhile p).all p=true:=by simp_all
theorem adE:∀d s t r,eZ d s=some (t,r)->Good t/\t.depth<=d:=by
 have leaf:∀(d:Nat) (s:ak) (t:aq) (r:ak),(if s.takeWhile fi=[] then none else some (aq.mk (s.takeWhile fi) [],s.dropWhile fi))=some (t,r)->Good t/\t.depth<=d:=by
  intro d s t r h;split at h
  .cases h
  .rename_i g;simp only[Option.some.injEq,Prod.mk.injEq] at h;rw[<-h.1];exact⟨.au _ g<|all_takeWhile _ _,by simp[aq.depth,aq.depth.deeps]⟩
 intro d;induction d with
 |zero=>
  intro s t r h;cases s with
  |nil=>simp[eZ] at h
  |cons c s=>
   simp only[eZ] at h;by_cases b:c=40
   .rw[iP b] at h;cases h
   .rw[iN b] at h;exact leaf _ _ _ _ h
 |succ d i=>
  intro s t r h;cases s with
  |nil=>simp[eZ] at h
  |cons c s=>
   simp only[eZ] at h;by_cases b:c=40
   .rw[iP b] at h;cases a:js (eZ d) (s.length+1) s with
    |none=>simp[a] at h
    |some q=>obtain⟨_,_⟩:=q;simp[a] at h;obtain⟨f,e⟩:=Us d i _ _ _ _ a;rw[<-h.1];exact⟨.list _ f λp a=>(e p a).1,KV λp a=>by have:=(e p a).2;omega⟩
   .rw[iN b] at h;exact leaf _ _ _ _ h
def Stop (r:ak):Prop:=∀c,r[0]?=some c->fi c=false
theorem OM {p:UInt8->Bool}:∀{a r:ak},a.all p=true->(∀c,r[0]?=some c->p c=false)->(a++r).takeWhile p=a/\(a++r).dropWhile p=r
 |[],[],_,_=>⟨rfl,rfl⟩
 |[],c::r,_,h=>by have:=h c rfl;simp[this]
 |c::a,r,ha,h=>by simp only[List.all_cons,aE] at ha;obtain⟨b,d⟩:=OM (a:=a) ha.2 h;simp[ha.1,b,d]
theorem Ut (h:Good t):∃c r,t.text=c::r:=by
 cases h with
 |au a b _=>
  rw[rC b];cases a with
  |nil=>exact absurd rfl b
  |cons c r=>exact⟨c,r,rfl⟩
 |list ps _ _=>exact⟨_,_,s8 ps⟩
theorem Uu {rd:ak->Option (aq×ak)}:∀(ts:List aq) (n:Nat) (r:ak),ts≠[]->ts.length<=n->(∀t∈ts,∀r,Stop r->rd (t.text++r)=some (t,r))->js rd n (lZ ts++41::r)=some (ts,r)
 |[],_,_,h,_,_=>absurd rfl h
 |[t],n,r,_,b,h=>by
  cases n with
  |zero=>simp at b
  |succ n=>unfold js;rw[rD,h t sm (41::r) (by intro c a;simp at a;subst a;decide)];simp
 |t::u::us,n,r,_,b,h=>by
  cases n with
  |zero=>simp at b
  |succ n=>unfold js;rw[rE,List.append_assoc,List.cons_append,h t sm (32::(lZ (u::us)++41::r)) (by intro c a;simp at a;subst a;decide)];have:=Uu (rd:=rd) (u::us) n r sm (by simp at b⊢;omega) λt d=>h t (by simp at d⊢;exact .inr d);simp[this]
theorem Uv:∀ts:List aq,(∀t∈ts,Good t)->ts.length<=(lZ ts).length
 |[],_=>by simp
 |[t],h=>by obtain⟨c,r,e⟩:=Ut<|h t sm;rw[rD,e];simp
 |t::u::us,h=>by have:=Uv (u::us) λt a=>h t (by simp at a⊢;exact .inr a);rw[rE];simp at this⊢;omega
theorem OO:∀(d:Nat) (t:aq) (r:ak),Good t->t.depth<=d->Stop r->eZ d (t.text++r)=some (t,r):=by
 intro d;induction d with
 |zero=>
  intro t r l j i;cases l with
  |au a g hb=>
   obtain⟨c,b,rfl⟩:∃c b,a=c::b:=by cases a with|nil=>exact absurd rfl g|cons c r=>exact⟨c,r,rfl⟩
   rw[rC g,List.cons_append,H5 0 c _ (by rintro rfl;simp at hb;exact absurd hb.1 de)];obtain⟨e,f⟩:=OM hb i;rw[List.cons_append] at e f;rw[e,f,iN sm]
  |list ps m n=>
   cases ps with
   |nil=>exact absurd rfl m
   |cons q ps=>simp[aq.depth,aq.depth.deeps] at j
 |succ d p=>
  intro t r l j i;cases l with
  |au a g hb=>
   obtain⟨c,b,rfl⟩:∃c b,a=c::b:=by cases a with|nil=>exact absurd rfl g|cons c r=>exact⟨c,r,rfl⟩
   rw[rC g,List.cons_append,H5 (d+1) c _ (by rintro rfl;simp at hb;exact absurd hb.1 de)];obtain⟨e,f⟩:=OM hb i;rw[List.cons_append] at e f;rw[e,f,iN sm]
  |list ps m n=>
   rw[s8,List.cons_append,FQ];have:=Uu (rd:=eZ d) ps ((lZ ps++[41]++r).length+1) r m (by have:=Uv ps n;simp at this⊢;omega)
    λt o r i=>p t r (n t o) (by have:=Uq o;simp only[aq.depth] at j;omega) i
   unfold nZ;rw[show rT (d+1)=eZ d from funext λ_=>rfl];rw[show lZ ps++[41]++r=lZ ps++41::r from by simp] at this⊢;rw[this];rfl
theorem KX (h:Good t) (k:Good u) (e:t.text=u.text):t=u:=by have a:=OO (max t.depth u.depth) t [] h om (by intro c b;simp at b);have d:=OO (max t.depth u.depth) u [] k om (by intro c b;simp at b);rw[e,d] at a;simp at a;exact a.symm
theorem p5 (h:bP s=some t):Good t/\t.depth<=60/\t.text=s/\s.length<=12000:=by
 have e:=Oo h;unfold bP at h;split at h
 .cases h
 .cases a:eZ 60 s with
  |none=>rw[a] at h;cases h
  |some q=>
   obtain⟨_,r⟩:=q;rw[a] at h;cases r with
   |nil=>simp at h;subst h;have b:=adE _ _ _ _ a;have d:=adD _ _ _ _ a;exact⟨b.1,b.2,by rw[d];simp,e⟩
   |cons c r=>cases h
theorem OP (h:Good t):bP t.text=if t.depth<=60/\t.text.length<=12000 then some t else none:=by
 split
 .rename_i a;unfold bP;have:=OO 60 t [] h a.1 (by intro c a;simp at a);rw[List.append_nil] at this;rw[iN om,this]
 .rename_i a;cases g:bP t.text with
  |none=>rfl
  |some u=>obtain⟨b,d,e,f⟩:=p5 g;have:=KX b h e;subst this;exact absurd ⟨d,f⟩ a
theorem OQ (h:Good t) (a:t.depth<=60) (b:t.text.length<=12000):bP t.text=some t:=by grind [OP]
theorem adF:∀{p:aq},p∈ps->p.text.length<=(lZ ps).length:=by
 induction ps with
 |nil=>intro p h;simp at h
 |cons q ps a=>
  intro p h;cases ps with
  |nil=>simp at h;subst h;rw[rD];exact lR _
  |cons u _=>
   rw[rE];rcases mC.1 h with rfl|h
   .simp
   .have:=a h;simp at this⊢;omega
theorem Good.sub (h:Good t) (b:t.ag[i]?=some p):Good p/\p.depth+1<=t.depth/\p.text.length+2<=t.text.length:=by
 refine⟨h.part b,?_,?_⟩
 .cases t with
  |mk a ps=>exact Uq<|List.mem_of_getElem? b
 .cases h with
  |au a _ _=>simp[aq.ag] at b
  |list ps _ _=>have:=adF<|List.mem_of_getElem? b;rw[s8];simp;exact this
def aq.len:aq->Nat
 | .mk a ps=>if ps=[] then a.length else 1+lens ps
 where lens:List aq->Nat
 |[]=>0
 |t::ts=>t.len+1+lens ts
theorem Uw:∀ps:List aq,ps≠[]->(∀p∈ps,p.len=p.text.length)->aq.len.lens ps=(lZ ps).length+1
 |[],h,_=>absurd rfl h
 |[t],_,h=>by rw[rD];simp only[aq.len.lens,h t sm]
 |t::u::us,_,h=>by have:=Uw (u::us) sm λp a=>h p (by simp at a⊢;exact .inr a);rw[rE];simp only[aq.len.lens,h t sm,lA,lC] at this⊢;omega
theorem zN (h:WF t):t.len=t.text.length:=by
 induction h with
 |au a c=>rw[rC c];simp[aq.len]
 |list ps b _ d=>rw[s8];simp only[aq.len,b,if_false,Uw ps b d,lC,lA,List.length_nil];omega
structure dM where
 aL:ak
 regs:List aq
 code:List aq
def tr (s:ak):aq:=(bP s).getD<|.mk [] []
theorem FX (h:bP s=some t):tr s=t:=by unfold tr;rw[h];rfl
def dP (b:Bk):dM:=⟨b.aL,b.ck.map tr,b.code.map tr⟩
def vK (b:Bk):Bool:=decide<|b.aL.length<=12000
def pr (b:Bk):Bool:=kA b&&vK b
def lf (bs:List Bk):Bool:=iK bs&&bs.all vK
def bI (a:ak):aq:=.mk a []
def iw (h:ak) (a:List aq):aq:=.mk [] (bI h::a)
def nA (b:dM):aq:=iw [98,108,111,99,107] [bI b.aL,iw [114,101,103,115] b.regs,iw [99,111,100,101] b.code]
def oL (a:List dM):aq:=iw [112,114,111,103,114,97,109] (a.map nA)
def pw (a:List ak):ak:=a.flatMap λp=>32::p
def dz (h:ak) (a:List ak):ak:=40::(h++pw a++[41])
theorem Ux (t:aq):∀ts:List aq,lZ (t::ts)=t.text++pw (ts.map aq.text)
 |[]=>by rw[rD];simp[pw]
 |u::us=>by rw[rE,Ux u us];simp[pw]
theorem FY {h:ak} (b:h≠[]) (a:List aq):(iw h a).text=dz h (a.map aq.text):=by unfold iw dz;rw[s8,Ux];simp[bI,rC b]
def px (b:Bk):ak:=dz [98,108,111,99,107] [b.aL,dz [114,101,103,115] b.ck,dz [99,111,100,101] b.code]
def oN (bs:List Bk):ak:=dz [112,114,111,103,114,97,109] (bs.map px)
theorem adG (h:(KN c||iJ c)=true):fi c=true:=by
 unfold KN iJ at h;unfold fi;simp only[oE,aE] at h⊢;rcases h with h|h
 .simp[h]
 .simp[h]
theorem adH (h:nu s=true):s≠[]/\s.all fi=true:=by
 unfold nu at h;simp only[aE,dE,List.all_eq_true,List.mem_range] at h;refine⟨h.2,List.all_eq_true.2 λc b=>?_⟩;obtain⟨i,a,rfl⟩:=List.getElem_of_mem b;have:=h.1 i a;unfold BF at this;rw[gG,gE a] at this;simp only[Option.getD_some] at this;refine adG ?_;simp only[oE,aE] at this⊢;rcases this with h|h
 .exact .inl h
 .exact .inr h.2
theorem BO (b:h≠[]) (c:h.all fi=true) (d:∀t∈ts,Good t):Good (iw h ts):=by
 refine .list _ sm λp a=>?_;rcases mC.1 a with rfl|a
 .exact .au _ b c
 .exact d p a
theorem F0 (h:kA b=true):nu b.aL=true/\(∀s∈b.ck,∃t,bP s=some t/\fX false t=true)/\∀s∈b.code,∃t,bP s=some t/\mj t=true:=by
 unfold kA at h;simp only[aE,dE] at h;obtain⟨⟨⟨⟨e,_⟩,_⟩,f⟩,g⟩:=h;refine⟨e,λs d=>?_,λs d=>?_⟩
 .obtain⟨i,a,rfl⟩:=List.getElem_of_mem d;have:=f i a;rw[cO,gG,gE a] at this;simp only[Option.getD_some] at this;unfold uh seen at this;cases c:bP b.ck[i] with
  |none=>rw[c] at this;cases this
  |some t=>rw[c] at this;exact⟨t,rfl,this⟩
 .obtain⟨i,a,rfl⟩:=List.getElem_of_mem d;have:=g i a;unfold s5 at this;rw[aE] at this;have:=this.1;rw[cO,gG,gE a] at this;simp only[Option.getD_some] at this;unfold ui seen at this;cases c:bP b.code[i] with
  |none=>rw[c] at this;cases this
  |some t=>rw[c] at this;exact⟨t,rfl,this⟩
theorem Uy {xs:List ak} (h:∀s∈xs,∃t,bP s=some t):(∀t,t∈xs.map tr->Good t)/\(xs.map tr).map aq.text=xs:=by
 constructor
 .intro t a;obtain⟨s,b,rfl⟩:=List.mem_map.1 a;obtain⟨t,a⟩:=h s b;rw[FX a];exact(p5 a).1
 .rw[List.map_map]
  conv=>rhs;rw[<-List.map_id xs]
  refine List.map_congr_left λs b=>?_;obtain⟨t,a⟩:=h s b;simp only[Function.comp,FX a,id];exact(p5 a).2.2.1
theorem Uz (h:kA b=true):Good (nA<|dP b)/\(nA<|dP b).text=px b:=by
 obtain⟨j,l,m⟩:=F0 h;obtain⟨e,f⟩:=Uy (xs:=b.ck) λs a=>(l s a).imp λ_ h=>h.1;obtain⟨g,i⟩:=Uy (xs:=b.code) λs a=>(m s a).imp λ_ h=>h.1;obtain⟨d,n⟩:=adH j;refine⟨BO de de λt c=>?_,?_⟩
 .simp only[mC,List.not_mem_nil,or_false] at c;rcases c with rfl|rfl|rfl
  .exact .au _ d n
  .exact BO de de e
  .exact BO de de g
 .unfold nA px;rw[FY de];simp only[List.map_cons,List.map_nil,FY (h:=[114,101,103,115]) de,FY (h:=[99,111,100,101]) de];rw[show(dP b).regs=b.ck.map tr from rfl,show(dP b).code=b.code.map tr from rfl,f,i,bI,rC (show(dP b).aL≠[] from d)];rfl
theorem zO (h:iK bs=true):∀b∈bs,kA b=true:=by grind [iK,List.getElem_of_mem,gE]
theorem KY (h:iK bs=true):Good (oL<|bs.map dP)/\(oL<|bs.map dP).text=oN bs:=by
 have hb:=zO h;refine⟨BO de de λt c=>?_,?_⟩
 .rw[List.map_map] at c;obtain⟨b,a,rfl⟩:=List.mem_map.1 c;exact(Uz<|hb b a).1
 .unfold oL oN;rw[FY de,List.map_map,List.map_map]
  congr 1
  exact List.map_congr_left λb a=>(Uz<|hb b a).2
def p6 (bs:List Bk):Option ak:=if iK bs&&(bP<|oN bs).isSome then some (oN bs) else none
def oa (t:aq):Bool:=decide (t.depth<=60)&&decide (t.len<=12000)
def KZ (bs:List Bk):Option ak:=if lf bs&&oa (oL<|bs.map dP) then some (oL<|bs.map dP).text else none
theorem adI {a:List ak} {p:ak} (h:p∈a):p.length<=(pw a).length:=by
 induction a with
 |nil=>simp at h
 |cons q a b=>
  rcases mC.1 h with rfl|h
  .simp[pw];omega
  .have:=b h;simp[pw] at this⊢;omega
theorem Ic {h:ak} {ps:List ak} {p:ak} (a:p∈ps):p.length<=(dz h ps).length:=by have:=adI a;simp[dz];omega
theorem adJ (h:b∈bs):b.aL.length<=(oN bs).length:=
 Nat.le_trans (Ic (h:=[98,108,111,99,107]) (ps:=[b.aL,dz [114,101,103,115] b.ck,dz [99,111,100,101] b.code]) sm) (Ic<|List.mem_map.2 ⟨b,h,rfl⟩)
theorem UA (bs:List Bk):KZ bs=p6 bs:=by
 unfold KZ p6 lf;cases h:iK bs with
 |false=>simp
 |true=>
  obtain⟨c,d⟩:=KY h;rw[Bool.true_and,Bool.true_and,<-d,OP c];have e:oa (oL<|bs.map dP)=decide ((oL<|bs.map dP).depth<=60/\(oL<|bs.map dP).text.length<=12000):=by unfold oa;rw[zN c.wf,<-Bool.decide_and]
  rw[e];by_cases a:(oL<|bs.map dP).depth<=60/\(oL<|bs.map dP).text.length<=12000
  .have f:bs.all vK=true:=List.all_eq_true.2 λb hb=>by
    have:=adJ hb;rw[d] at a;unfold vK;exact dT om
   rw[f,dT a,iP a];simp
  .rw[dF a,iN a];simp
def uk (u:aq):Bool:=decide (bC u=[98,108,111,99,107])&&decide (u.ag.length=4)&&decide (bC (nth u.ag 2)=[114,101,103,115])&&decide (bC (nth u.ag 3)=[99,111,100,101])
def OR (u:aq):Bk:=⟨(nth u.ag 1).au,((nth u.ag 2).ag.drop 1).map aq.text,((nth u.ag 3).ag.drop 1).map aq.text⟩
def py (u:aq):Bk:=if uk u then OR u else BL
def oR (t:aq):List Bk:=(t.ag.drop 1).map py
def kl (s:ak):Option (List Bk):=match bP s with
 |none=>none
 |some t=>if decide (bC t=[112,114,111,103,114,97,109])&&iK (oR t) then some (oR t) else none
theorem adK:kA BL=false:=by decide
theorem adL (h:BL∈bs):iK bs=false:=by
 cases a:iK bs with
 |false=>rfl
 |true=>have:=zO a BL h;rw[adK] at this;cases this
def zP:List aq->ak
 |[]=>[]
 |h::_=>h.au
mutual
def dZ (y:aq):aq->aq
 | .mk a ps=>if a=[118] then y else if a≠[]\/zP ps=[101] then .mk a ps else .mk [] (zQ y ps)
def zQ (y:aq):List aq->List aq
 |[]=>[]
 |t::ts=>dZ y t::zQ y ts
end
theorem K0 (y:aq):∀ps,zQ y ps=ps.map (dZ y)
 |[]=>by simp[zQ]
 |t::ts=>by simp[zQ,K0 y ts]
theorem OS (a:List aq):bC (.mk [] a)=zP a:=by cases a<;>simp[bC,zP,aq.au,aq.ag]
theorem OT {y:aq} (f:Good y) (h:Good t):Good (dZ y t):=by
 induction h with
 |au a b hb=>
  unfold dZ;split
  .exact f
  .rw[iP (.inl b)];exact .au a b hb
 |list ps c e g=>
  unfold dZ;rw[iN de];split
  .exact .list ps c e
  .rw[K0];refine .list _ (by simpa using c) λp i=>?_;obtain⟨q,d,rfl⟩:=List.mem_map.1 i;exact g q d
/-! ### States -/
abbrev TS:=List<|Option aq
def iT:aq:=bI [105]
def gZ (a:ak):Nat:=(ub a).toNat
def eR (b:TS) (a:ak):Option aq:=b.getD (gZ a) none
def wV (x y:aq):Bool:=decide<|x.text=y.text
def s9 (o:Option aq) (y:aq):Bool:=match o with
 |some x=>wV x y
 |none=>false
def meets (b:TS) (a:List aq):Bool:=decide (∀i,i<a.length->s9 (b.getD i none) (nth a i)=true)
def bY (p:List dM) (l:ak):Option (List aq):=(p.find? λb=>decide<|b.aL=l).map dM.regs
def wW (a:ak):Int:=(numeral a).getD 0
def aS (n:Nat):ak:=if n<10 then[UInt8.ofNat (48+n)] else aS (n/10)++[UInt8.ofNat (48+n%10)]
 termination_by n
def nC (p:List dM) (b:TS) (opens:Nat) (t:aq):Option aq:=
 let h:=bC t;let a (i:Nat):=(nth t.ag i).au
 if h=[99,111,110,115,116] then some iT
 else if h=[109,111,118] then eR b (a 2)
 else if h=[97,100,100]\/h=[115,117,98]\/h=[109,117,108] then(if s9 (eR b<|a 2) iT&&s9 (eR b<|a 3) iT then some iT else none)
 else if h=[103,101,116] then(eR b<|a 2).bind λk=>if bC k=[116]/\wW (a 3)+1<k.ag.length then some (nth k.ag (wW (a 3)+1).toNat) else none
 else if h=[108,97,98] then(bY p<|a 2).map (iw [99])
 else if h=[112,97,99,107] then(eR b<|a 2).bind λx=>if wV x (dZ (nth t.ag 4)<|nth (nth t.ag 3).ag 1) then some (nth t.ag 3) else none
 else if h=[111,112,101,110] then(eR b<|a 2).bind λk=>if bC k=[101] then some (dZ (bI (97::aS opens))<|nth k.ag 1) else none
 else none
def eS (a:TS) (d:Nat) (o:Option aq):Option TS:=o.bind λt=>if oa t then some (a.set d<|some t) else none
def nv (a:TS):List aq->Option (List aq)
 |[]=>some []
 |u::us=>(eR a u.au).bind λx=>(nv a us).map λxs=>x::xs
def stepT (p:List dM) (a:TS) (opens:Nat) (t:aq):Option TS:=
 let h:=bC t;let b:=(nth t.ag 1).au
 if h=[104,97,108,116] then(eR a b).map λ_=>a
 else if h=[106,117,109,112] then(eR a b).bind λk=>if bC k=[99]/\meets a (k.ag.drop 1)=true then some a else none
 else if h=[122,101,114,111] then(bY p (nth t.ag 2).au).bind λc=>if s9 (eR a b) iT&&meets a c then some a else none
 else if h=[110,101,119] then eS a (gZ b) ((nv a<|t.ag.drop 2).map<|iw [116])
 else eS a (gZ b) (nC p a opens t)
def um (opens:Nat) (t:aq):Nat:=if bC t=[111,112,101,110] then opens+1 else opens
def ye (p:List dM) (b:TS) (opens:Nat):List aq->TS×Nat
 |[]=>(b,0)
 |t::ts=>match stepT p b opens t with
  |none=>(b,0)
  |some a=>((ye p a (um opens t) ts).1,(ye p a (um opens t) ts).2+1)
def BP (b:dM):TS:=(List.range 40).map λi=>if i<b.regs.length then some (nth b.regs i) else none
def F2 (p:List dM) (b:dM):Nat:=(ye p (BP b) 0 b.code).2
def qM (p:List dM) (b:dM):Bool:=decide<|F2 p b=b.code.length
theorem adM (h:Lib.hasPrefix s [40]=true):∃r,s=40::r:=by
 cases s with
 |nil=>simp[Lib.hasPrefix,List.isPrefixOf] at h
 |cons c r=>simp[Lib.hasPrefix,List.isPrefixOf] at h;exact⟨r,by rw[h]⟩
theorem adN (h:Lib.hasPrefix s [40]=false):∀c r,s=c::r->c≠40:=by rintro c r rfl rfl;simp[Lib.hasPrefix,List.isPrefixOf] at h
theorem adO (h:Lib.hasPrefix s [40]=false) (d:Nat):eZ d s=if s.takeWhile fi=[] then none else some (.mk (s.takeWhile fi) [],s.dropWhile fi):=by
 cases s with
 |nil=>rw[Tr];simp
 |cons c r=>rw[H5 d c r (adN h c r rfl)]
theorem adP (h:eZ d s=none):nZ (d+1) s=none:=by rw[H4];show(match eZ d s with|none=>none|some (t,r)=>_)=none;rw[h]
theorem adQ (h:eZ d s=some (t,[])):nZ (d+1) s=none:=by rw[H4];show(match eZ d s with|none=>none|some (t,r)=>_)=none;rw[h]
theorem UB (h:eZ d s=some (t,c::r)):nZ (d+1) s=if c=41 then some ([t],r) else if c=32 then(nZ (d+1) r).map λp=>(t::p.1,p.2) else none:=by rw[H4];show(match eZ d s with|none=>none|some (t,r)=>_)=_;rw[h]
theorem OU:(s.drop k).take (s.length-k)=s.drop k:=List.take_of_length_le sm
theorem K1 (hk:k<256):decide ((c.toNat:Int)≠(k:Int))=decide (c≠UInt8.ofNat k):=decide_eq_decide.2 (by
 have e:(UInt8.ofNat k).toNat=k:=by simp;omega
 constructor
 .intro h a;rw[a,e] at h;exact h rfl
 .intro h a;exact h (UInt8.toNat_inj.1 (by rw[e];omega)))
def BQ (d:Nat) (s:ak) (t:aq) (r:ak) (ok:Bool):Prop:=(eZ d s=some (t,r)/\ok=true)\/(eZ d s=none/\ok=false)
theorem BQ.le {ok:Bool} (h:BQ d s t r ok) (a:ok=true):eZ d s=some (t,r)/\r.length<s.length:=by
 rcases h with⟨h,_⟩|⟨_,h⟩
 .obtain⟨k,_,_,rfl⟩:=KD d s t r h;exact⟨h,by simp;omega⟩
 .rw[a] at h;cases h
theorem adR {ok:Bool} (e:BQ d s t r ok) (h:((!ok||decide (r=[]))||(decide (((r.getD 0 0).toNat:Int)≠32)&&decide (((r.getD 0 0).toNat:Int)≠41)))=true):nZ (d+1) s=none:=by
 rcases e with⟨hr,rfl⟩|⟨hr,rfl⟩
 .cases r with
  |nil=>exact adQ hr
  |cons c r=>rw[UB hr];simp only[Bool.not_true,Bool.false_or,List.getD_cons_zero,show decide (c::r=[])=false from by simp] at h;rw[show(32:Int)=((32:Nat):Int) from rfl,show(41:Int)=((41:Nat):Int) from rfl,K1 de,K1 de,aE] at h;have a:¬c=32:=of_decide_eq_true h.1;have b:¬c=41:=of_decide_eq_true h.2;rw[iN b,iN a]
 .exact adP hr
theorem adS {ok:Bool} (i:BQ d s t r ok) (h:((!ok||decide (r=[]))||(decide (((r.getD 0 0).toNat:Int)≠32)&&decide (((r.getD 0 0).toNat:Int)≠41)))=false):
  0<r.length/\r.length<s.length/\nZ (d+1) s=if r.getD 0 0=41 then some ([t],r.drop 1) else(nZ (d+1)<|r.drop 1).map λp=>(t::p.1,p.2):=by
 simp only[Bool.or_eq_false_iff,Bool.not_eq_false',decide_eq_false_iff_not] at h;obtain⟨⟨e,f⟩,a⟩:=h;obtain⟨j,g⟩:=i.le e;cases r with
 |nil=>exact absurd rfl f
 |cons c r=>
  refine⟨by simp,g,?_⟩;rw[UB j];simp only[List.getD_cons_zero,List.drop_one,List.tail_cons] at a⊢;by_cases b:c=41
  .rw[iP b,iP b]
  .rw[iN b,iN b];rw[show(32:Int)=((32:Nat):Int) from rfl,show(41:Int)=((41:Nat):Int) from rfl,K1 de,K1 de,Bool.and_eq_false_iff] at a;rcases a with a|a
   .rw[iP (by simpa using a)]
   .exact absurd (by simpa using a) b
theorem adT {ok:Bool} (b:s.length<=12000) (c:BQ 60 s t r ok):(ok&&decide (r=[]))=(bP s).isSome/\∀a,bP s=some a->t=a:=by grind [BQ,bP]
theorem adU (a:n1=b.ck.length) (c:n2=b.code.length) 
  (h:(((!nu b.aL||decide ((12000:Int)<(b.aL.length:Int)))||decide ((40:Int)<(n1:Int)))||!(decide ((1:Int)<=(n2:Int))&&decide ((n2:Int)<=80)))=true):pr b=false:=by grind [pr,vK,dy.length,Uc,KR,T9]
theorem adV (a:n1=b.ck.length) (c:n2=b.code.length) 
  (h:(((!nu b.aL||decide ((12000:Int)<(b.aL.length:Int)))||decide ((40:Int)<(n1:Int)))||!(decide ((1:Int)<=(n2:Int))&&decide ((n2:Int)<=80)))=false):
  (nu b.aL&&decide (b.ck.length<=40)&&(decide (1<=b.code.length)&&decide (b.code.length<=80)))=true/\vK b=true:=by grind [vK,dy.length,KR,T8]
theorem adW (a:i<b.ck.length) (h:uh (cO b.ck i)=false):pr b=false:=by unfold pr;rw[Ud a h];rfl
theorem adX (a:i<b.code.length) (h:s5 b.code i=false):pr b=false:=by unfold pr;rw[Ue a h];rfl
theorem adY (h:uh s=true) (b:∀a,bP s=some a->t=a):t=tr s:=by grind [bP,tr,seen]
theorem UC {code:List ak} (c:n=code.length) (b:i<n) (d:∀a,bP (cO code i)=some a->t=a):
  ((!(bP<|cO code i).isSome||!nz t)||(Ib t !=decide ((i:Int)=(n:Int)-1)))=!s5 code i:=by grind [OG,Un,seen,bP,mj,adC]
theorem adZ {code:List ak} (h:s5 code i=true) (b:∀a,bP (cO code i)=some a->t=a):t=tr (cO code i):=by grind [s5,bP,tr,seen]
theorem DM {b c:Type} (f:b->c) {a:List b} {x:b} (h:a[i]?=some x):(a.take i).map f++[f x]=(a.take<|i+1).map f:=by grind [List.getElem?_eq_some_iff,List.take_succ_eq_append_getElem]
theorem DN {b c:Type} (f:b->c) {a:List b} (h:a.length<=i):(a.take i).map f=a.map f:=by rw[List.take_of_length_le h]
theorem BR {b c:Type} (f:b->c) {a:List b} (h:i<=a.length):((a.take i).map f).length=i:=by simp;omega
theorem DO (b:∀a,bP s=some a->t=a) (h:(bP s).isSome=true):WF t/\t.size<=12001:=by grind [bP,aq.size,vI,BG]
def yf (a:List dM) (l:ak):Int:=match a.findIdx? (λb=>decide<|b.aL=l) with
 |some i=>(i:Int)
 |none=> -1
abbrev dU (a:List dM) (i:Nat):dM:=a.getD i ⟨[],[],[]⟩
theorem DP {ps:List dM} (h:i<ps.length):ps[i]?=some (dU ps i):=by grind
def Ih (a:List dM) (g:dM->Bool):Int:=match a.findIdx? g with
 |some i=>(i:Int)
 |none=> -1
theorem Ii {a:List dM} (h:i<a.length):dU a i=a[i]:=by grind
theorem ad0 {a:List dM} {g:dM->Bool} (hk:k<a.length) (h:∀i,i<k->g (dU a i)=false) (c:g (dU a k)=true):Ih a g=(k:Int):=by
 have:a.findIdx? g=some k:=by rw[List.findIdx?_eq_some_iff_getElem];refine⟨hk,by rw[<-Ii hk];exact c,λj b=>?_⟩;have:=h j b;rw[Ii (Nat.lt_trans b hk)] at this;simpa using this
 unfold Ih;rw[this]
theorem ad1 {a:List dM} {g:dM->Bool} (h:∀i,i<a.length->g (dU a i)=false):Ih a g= -1:=by grind [Ii,Ih,List.findIdx?_eq_none_iff,List.getElem_of_mem]
theorem ad2 (h:i<bs.length):bX bs i=bs[i]:=by grind
theorem UD (hk:k<bs.length):decide ((0:Int)<=yf ((bs.take k).map dP) (bX bs k).aL)=decide (p4 bs (bX bs k).aL≠(k:Int)):=by
 refine decide_eq_decide.2 ?_;by_cases a:∃j,j<k/\(bX bs j).aL=(bX bs k).aL
 .obtain⟨j,e,d⟩:=a;have f:p4 bs (bX bs k).aL≠k:=by
   intro h;unfold p4 at h;cases c:bs.findIdx? (λb=>decide<|b.aL=(bX bs k).aL) with
   |none=>rw[c] at h;simp at h
   |some i=>rw[c] at h;have n:i=k:=Int.ofNat.inj h;subst n;rw[List.findIdx?_eq_some_iff_getElem] at c;obtain⟨_,_,l⟩:=c;have:=l j e;rw[<-ad2] at this;simp only[dE] at this;exact this d
  have g:0<=yf ((bs.take k).map dP) (bX bs k).aL:=by
   unfold yf;cases c:((bs.take k).map dP).findIdx? (λb=>decide<|b.aL=(bX bs k).aL) with
   |some i=>simp
   |none=>rw[List.findIdx?_eq_none_iff] at c;have:=c (dP<|bX bs j)<|List.mem_map.2 ⟨bX bs j,by rw[List.mem_take_iff_getElem];exact⟨j,om,by simp[gE (show j<bs.length by omega)]⟩,rfl⟩;exact absurd d<|of_decide_eq_false this
  exact⟨λ_=>f,λ_=>g⟩
 .have f:p4 bs (bX bs k).aL=k:=Ub hk (λj e d=>a ⟨j,e,d⟩) rfl;have g:yf ((bs.take k).map dP) (bX bs k).aL= -1:=by
   unfold yf;have:((bs.take k).map dP).findIdx? (λb=>decide<|b.aL=(bX bs k).aL)=none:=by rw[List.findIdx?_eq_none_iff];intro x m;obtain⟨b,hb,rfl⟩:=List.mem_map.1 m;obtain⟨j,e,rfl⟩:=List.mem_take_iff_getElem.1 hb;refine dF λd=>a ⟨j,om,?_⟩;rw[bX,gG,gE om];exact d
   rw[this]
  rw[f,g];constructor
  .intro h;omega
  .intro h;exact absurd rfl h
theorem ad3 (a:i<bs.length) (h:pr (bX bs i)=false\/p4 bs (bX bs i).aL≠i):lf bs=false:=by grind [lf,iK,s0,zO,pr,Ug]
theorem ad4 (h:∀i,i<bs.length->pr (bX bs i)=true/\p4 bs (bX bs i).aL=i):
  lf bs=(decide (1<=bs.length)&&decide (bs.length<=40)&&decide ((bX bs 0).aL=[109,97,105,110])&&decide ((bX bs 0).ck.length=0)):=by
 unfold lf;rw[Uh λi a=>⟨by have:=(h i a).1;unfold pr at this;rw[aE] at this;exact this.1,(h i a).2⟩,show bs.all vK=true from ?_,Bool.and_true];refine List.all_eq_true.2 λb hb=>?_;obtain⟨i,a,rfl⟩:=List.getElem_of_mem hb;have:=(h i a).1;unfold pr at this;rw[aE] at this;rw[bX,gG,gE a] at this;exact this.2
theorem ad5 (h:¬(1<=bs.length/\bs.length<=40)):lf bs=false:=by grind [lf,iK]
theorem OV:∀(ts:List aq) (t:aq),ts≠[]->lZ (ts++[t])=lZ ts++32::t.text
 |[],_,h=>absurd rfl h
 |[u],t,_=>by rw[List.cons_append,List.nil_append,rE,rD,rD]
 |u::v::r,t,_=>by have:=OV (v::r) t sm;rw[List.cons_append,List.cons_append,rE,<-List.cons_append,this,rE];simp
def pre (a:List aq):ak:=if a=[] then[] else 40::lZ a
theorem UE (hk:k<ps.length):pre (ps.take<|k+1)=pre (ps.take k)++((if k=0 then 40 else 32)::(nth ps k).text):=by
 have e:ps.take (k+1)=ps.take k++[nth ps k]:=by rw[List.take_succ_eq_append_getElem hk,wU hk]
 rw[e];by_cases b:k=0
 .subst b;simp[pre,rD]
 .have a:ps.take k≠[]:=by intro h;have:=congrArg List.length h;rw[List.length_take] at this;simp only[List.length_nil] at this;omega
  unfold pre;rw[iN sm,iN a,OV _ _ a,iN b];simp
theorem UF (b:WF t) (h:t.ag.length≠0):pre (t.ag.take t.ag.length)++[41]=t.text:=by
 cases b with
 |au a _=>simp[aq.ag] at h
 |list ps c _=>rw[s8];show pre (ps.take ps.length)++[41]=_;rw[List.take_length];unfold pre;rw[iN c];simp
theorem UG (b:WF t) (h:t.ag.length=0):t.text=t.au:=by
 cases b with
 |au a c=>exact rC c
 |list ps d _=>exact absurd (List.length_eq_zero_iff.1 h) d
theorem UH (a:WF t) (hk:k<=t.ag.length):(pre<|t.ag.take k).length<=t.text.length:=by
 by_cases h:t.ag.length=0
 .rw[show k=0 from by omega];simp[pre]
 .rw[<-UF a h,lA];have mono:∀j,k<=j->j<=t.ag.length->(pre<|t.ag.take k).length<=(pre<|t.ag.take j).length:=by
   intro j _;induction j with
   |zero=>intro _;rw[show k=0 from by omega];exact lR _
   |succ j b=>
    intro _;rcases Nat.lt_or_ge k (j+1) with h|h
    .have:=b om om;rw[UE om,lA];omega
    .rw[show k=j+1 from by omega];exact lR _
  have:=mono _ hk<|lR _;omega
def wX (a:List aq):ak:=40::lZ a
theorem UI (hk:k<ps.length):wX (ps.take<|k+1)=(wX (ps.take k)++(if k=0 then[] else[32]))++(nth ps k).text:=by
 have e:ps.take (k+1)=ps.take k++[nth ps k]:=by rw[List.take_succ_eq_append_getElem hk,wU hk]
 rw[e];by_cases a:k=0
 .subst a;simp[wX,rD,lZ]
 .have b:ps.take k≠[]:=by intro h;have:=congrArg List.length h;rw[List.length_take] at this;simp only[List.length_nil] at this;omega
  unfold wX;rw[OV _ _ b,iN a];simp
theorem UJ (b:WF t) (h:t.au=[]):wX (t.ag.take t.ag.length)++[41]=t.text:=by
 cases b with
 |au a c=>exact absurd h c
 |list ps _ _=>rw[s8];show wX (ps.take ps.length)++[41]=_;rw[List.take_length];rfl
theorem OX (a:WF t) (b:t.au=[]) (hk:k<=t.ag.length):(wX<|t.ag.take k).length<=t.text.length:=by
 rw[<-UJ a b,lA];have mono:∀j,k<=j->j<=t.ag.length->(wX<|t.ag.take k).length<=(wX<|t.ag.take j).length:=by
  intro j _;induction j with
  |zero=>intro _;rw[show k=0 from by omega];exact lR _
  |succ j c=>
   intro _;rcases Nat.lt_or_ge k (j+1) with h|h
   .have:=c om om;rw[UI om,lA,lA];omega
   .rw[show k=j+1 from by omega];exact lR _
 have:=mono _ hk<|lR _;omega
theorem ad6 (h:uk u=false):py u=BL:=by unfold py;rw[h];rfl
theorem ad7 (h:uk u=true):py u=OR u:=by unfold py;rw[h];rfl
theorem ad8 (a:n=u.ag.length):((((decide (bC u≠[98,108,111,99,107])||decide ((n:Int)≠4))||decide (bC (nth u.ag 2)≠[114,101,103,115]))||decide (bC (nth u.ag 3)≠[99,111,100,101])))=!uk u:=by subst a;unfold uk;rw[show decide ((u.ag.length:Int)≠4)=decide (u.ag.length≠4) from decide_eq_decide.2 om];simp only[decide_not,Bool.not_and]
theorem K2 (h:uk u=true):u.ag.length=4:=by unfold uk at h;simp only[aE,dE] at h;exact h.1.1.2
structure uo (t:aq):Prop where
 wf:WF t
 size:t.size<=12001
 text:t.text.length<=12000
theorem uo.part (h:uo t) (b:Good t) (a:t.ag[i]?=some p):uo p:=by obtain⟨_,_,_⟩:=b.sub a;exact⟨h.wf.part a,by have:=Ia a;have:=h.size;omega,by have:=h.text;omega⟩
theorem K3 (h:bP s=some t):uo t:=by obtain⟨a,_,b,c⟩:=p5 h;exact⟨a.wf,BG h,by rw[b];exact c⟩
theorem uo.nth (h:uo t) (a:Good t) (b:i<t.ag.length):uo (nth t.ag i):=h.part a<|ek b
theorem ad9 (c:∀a,bP s=some a->t=a) (h:(!(bP s).isSome||decide (bC t≠[112,114,111,103,114,97,109]))=true):kl s=none:=by
 unfold kl;cases b:bP s with
 |none=>rfl
 |some a=>rw[<-c a b];rw[b] at h;simp only[Option.isSome_some,Bool.not_true,Bool.false_or] at h;simp only;rw[dF (of_decide_eq_true h)];rfl
theorem aea (c:∀a,bP s=some a->t=a) (h:(!(bP s).isSome||decide (bC t≠[112,114,111,103,114,97,109]))=false):bP s=some t/\kl s=(if iK (oR t) then some (oR t) else none)/\0<t.ag.length:=by
 unfold kl;cases b:bP s with
 |none=>rw[b] at h;simp at h
 |some a=>have d:=c a b;subst d;rw[b] at h;simp only[Option.isSome_some,Bool.not_true,Bool.false_or,decide_eq_false_iff_not,Classical.not_not] at h;refine⟨rfl,by simp only;rw[dT h,Bool.true_and],Nat.pos_of_ne_zero λe=>?_⟩;rw[vH (.inr<|List.length_eq_zero_iff.1 e)] at h;cases h
theorem OY (h:k+1<t.ag.length):(t.ag.drop 1)[k]?=some (nth t.ag<|k+1):=by rw[List.getElem?_drop,show 1+k=k+1 from by omega,ek h]
def UK (a:List aq):Prop:=a.length<1000000/\∀t∈a,WF t/\t.size<=100000000/\t.text.length<=100000000
theorem UM (h:uo u) (a:Good u) (k:Nat):UK (u.ag.drop k):=by have d:=lD u;have e:=h.size;refine⟨by simp;omega,λt c=>?_⟩;obtain⟨i,b,rfl⟩:=List.getElem_of_mem<|List.mem_of_mem_drop c;have:=h.part a<|gE b;exact⟨this.wf,by have:=this.size;omega,by have:=this.text;omega⟩
theorem aeb (h:uo u) (a:Good u):(py u).small:=by
 unfold py;split
 .rename_i hb;have c:=K2 hb;have f1:=h.nth (i:=1) a om;have f2:=h.nth (i:=2) a om;have f3:=h.nth (i:=3) a om;have b:=pZ<|nth u.ag 1;have d:=lD<|nth u.ag 2;have e:=lD<|nth u.ag 3;have:=f1.size;have:=f2.size;have:=f3.size;refine⟨?_,?_,?_⟩
  .show(nth u.ag 1).au.length<_;omega
  .show(((nth u.ag 2).ag.drop 1).map aq.text).length<_;simp;omega
  .show(((nth u.ag 3).ag.drop 1).map aq.text).length<_;simp;omega
 .exact⟨by decide,by decide,by decide⟩
theorem UN (h:uo t) (a:Good t):uj (oR t):=by
 have c:=lD t;have d:=h.size;have b:(oR t).length=t.ag.length-1:=by simp[oR]
 refine⟨by omega,λi _=>?_⟩;have e:bX (oR t) i=py (nth t.ag<|i+1):=by simp[oR,bX,List.getD,gE<|show i+1<t.ag.length by omega,nth]
 rw[e];exact aeb (h.nth a om) (a.nth om)
/-! ### Depth and length,part by part -/
def maxD:List aq->Nat
 |[]=>0
 |t::ts=>max t.depth<|maxD ts
theorem UO:∀(a b:List aq),maxD (a++b)=max (maxD a) (maxD b)
 |[],b=>by simp[maxD]
 |t::ts,b=>by rw[List.cons_append,maxD,maxD,UO ts b];omega
theorem aec (hk:k<ps.length):maxD (ps.take<|k+1)=max (maxD<|ps.take k) (nth ps k).depth:=by rw[List.take_succ_eq_append_getElem hk,UO,wU hk];simp[maxD]
theorem UP:∀{ps:List aq},ps≠[]->aq.depth.deeps ps=maxD ps+1
 |[],h=>absurd rfl h
 |[t],_=>by simp[aq.depth.deeps,maxD]
 |t::u::us,_=>by have:=UP (ps:=u::us) sm;simp only[aq.depth.deeps,maxD] at this⊢;omega
theorem OZ (t:aq):t.depth=aq.depth.deeps t.ag:=by cases t;simp[aq.depth,aq.ag]
theorem aed (h:t.ag.length=0):t.depth=0:=by rw[OZ,List.length_eq_zero_iff.1 h];rfl
theorem aee (h:t.ag.length≠0):t.depth=maxD (t.ag.take t.ag.length)+1:=by rw[OZ,List.take_length,UP λa=>h (by rw[a];rfl)]
theorem aef {m:Nat}:∀t:aq,t.size<=m->t.depth<t.size:=by
 induction m with
 |zero=>intro t h;have:=pZ t;omega
 |succ m c=>
  intro t h;have d:=lD t;have e:aq.depth.deeps t.ag<=t.size-1:=KV λp b=>by obtain⟨i,a,rfl⟩:=List.getElem_of_mem b;have f:=Ia (t:=t)<|gE a;have:=c _ (by omega:t.ag[i].size<=m);omega
  rw[OZ];omega
theorem aeg:maxD (t.ag.take k)<t.size:=by
 have b:∀(ps:List aq) (d:Nat),0<d->(∀p∈ps,p.depth<d)->maxD ps<d:=by
  intro ps;induction ps with
  |nil=>intro d a _;simpa[maxD] using a
  |cons p ps g=>intro d a h;have j:=h p sm;have l:=g d a λq f=>h q (by simp[f]);rw[maxD];omega
 refine b _ _ (by have:=pZ t;omega) λp e=>?_;obtain⟨i,c,rfl⟩:=List.getElem_of_mem<|List.mem_of_mem_take e;have m:=Ia (t:=t)<|gE c;have:=aef _<|lR (t.ag[i]).size;omega
theorem O0:∀(a b:List aq),aq.len.lens (a++b)=aq.len.lens a+aq.len.lens b
 |[],b=>by simp[aq.len.lens]
 |t::ts,b=>by rw[List.cons_append,aq.len.lens,aq.len.lens,O0 ts b];omega
theorem aeh (hk:k<ps.length):aq.len.lens (ps.take<|k+1)=aq.len.lens (ps.take k)+((nth ps k).len+1):=by rw[List.take_succ_eq_append_getElem hk,O0,wU hk];simp[aq.len.lens]
theorem aei (h:t.ag.length=0):t.len=t.au.length:=by
 cases t with
 |mk a ps=>simp only[aq.ag] at h;have:=List.length_eq_zero_iff.1 h;subst this;simp[aq.len,aq.au]
theorem UQ (h:t.ag.length≠0):t.len=1+aq.len.lens (t.ag.take t.ag.length):=by
 cases t with
 |mk a ps=>have:ps≠[]:=λb=>h (by rw[b];rfl);simp[aq.len,aq.ag,this]
theorem aej (h:t.ag.length≠0):1+aq.len.lens (t.ag.take k)<=t.len:=by rw[UQ h,List.take_length];have:=O0 (t.ag.take k)<|t.ag.drop k;rw[List.take_append_drop] at this;omega
theorem K4 (h:Good t):t.size<=2*t.text.length:=by
 induction h with
 |au a d hb=>have:=List.length_pos_iff.2 d;rw[rC d];simp only[aq.size,aq.size.sizes];omega
 |list ps e _ g=>
  have c:∀b:List aq,(∀p∈b,p.size<=2*p.text.length)->aq.size.sizes b<=2*(lZ b).length:=by
   intro b;induction b with
   |nil=>intro _;simp[aq.size.sizes]
   |cons q b i=>
    intro h;have j:=h q sm;have f:=i λp e=>h p (by simp[e]);cases b with
    |nil=>rw[rD];simp only[aq.size.sizes];omega
    |cons u _=>rw[rE];simp only[aq.size.sizes,lA,lC] at f⊢;omega
  have:=c ps g;rw[s8];simp only[aq.size,lC,lA,List.length_nil];omega
/-! ### Texts joined -/
theorem UR (a b:List ak):pw (a++b)=pw a++pw b:=by simp[pw]
def wY (h:ak) (a:List ak) (k:Nat):ak:=40::(h++pw (a.take k))
theorem aek {ps:List ak} (hk:k<ps.length):wY h ps (k+1)=(wY h ps k++[32])++cO ps k:=by unfold wY;rw[List.take_succ_eq_append_getElem hk,UR];simp[pw,cO,gE hk]
theorem ael {a:List ak} (hk:a.length<=k):wY h a k++[41]=dz h a:=by unfold wY dz;rw[List.take_of_length_le hk];simp
theorem aem {ps:List ak} (k:Nat):(wY h ps k).length+1<=(dz h ps).length:=by
 have:(pw<|ps.take k).length<=(pw ps).length:=by have:=UR (ps.take k)<|ps.drop k;rw[List.take_append_drop] at this;rw[this,lA];omega
 simp[wY,dz];omega
/-! ### What the laws count -/
def jv (a:List ak):Nat:=a.length+(a.map List.length).sum
theorem K5 (a:List ak):(pw a).length=jv a:=by induction a<;>grind [pw,jv]
/-! ### A list that is filled -/
def fill {a:Type} (d:a) (b:List a) (k:Nat):List a:=b.take k++List.replicate (b.length-k) d
inductive It where
 |v (V:Value)
 |p (f:Value->World->Prop)
def It.F:It->Value->World->Prop
 | .v V=>λv _=>v=V
 | .p f=>f
def It.Ij:It->Bool
 | .v _=>true
 | .p _=>false
def dq (b:List It) (c:List Nat) (w:World):List Nat->(List (Nat×Value)->Prop)->Prop
 |[],k=>k []
 |j::r,k=>match b.getD j (.p λ_ _=>True) with
  | .v V=>dq b c w r λa=>k ((c.getD j 0,V)::a)
  | .p f=>∀v,f v w->dq b c w r λa=>k ((c.getD j 0,v)::a)
theorem F3 {a:List It} {g:List Nat} {vs:Nat->Value}:∀{deps:List Nat} {k:List (Nat×Value)->Prop},dq a g w deps k->(∀j∈deps,pj (a.map It.F) j (vs j) w)->k (vC g vs deps)
 |[],k,h,_=>h
 |j::r,k,h,hd=>by
  have b:=hd j<|List.mem_cons_self ..;unfold dq at h;have c:((a.getD j<|.p λ_ _=>True).F) (vs j) w:=by
   unfold pj at b;rw[gG] at b⊢;rw[List.getElem?_map] at b;cases e:a[j]? with
   |none=>trivial
   |some q=>rw[e] at b;exact b
  cases e:a.getD j (.p λ_ _=>True) with
  |v V=>rw[e] at h c;have l:vs j=V:=c;subst l;exact F3 (deps:=r) h λi d=>hd i<|mK _ d
  |p f=>rw[e] at h c;exact F3 (deps:=r) (h _ c) λi d=>hd i<|mK _ d
theorem O2 {F:List (Value->World->Prop)} {c:Nat->Value}:∀{l:List Nat},HS F c w l->∀j∈l,pj F j (c j) w
 |[],_,j,h=>by cases h
 |[i],h,j,b=>by rw[List.mem_singleton] at b;subst b;exact h
 |i::a::l,h,j,b=>by
  rcases mC.1 b with e|b
  .subst e;exact h.1
  .exact O2 h.2 j b
def Ik (P:Program) (n:Nat) (e:Array Oper) (W d:List Nat) (c:List It) (g:Env) (i:World) (k:Nat) (o:Oper) (b:List Nat):Prop:=
 ∀(x:Env) (w:World),aj [] i w->dq c d w b λa=>OW P n e (λf w'=>aj [] w w'/\(c.getD k<|.p λ_ _=>True).F (f<|d.getD k 0) w'/\eO [d.getD k 0] (aY (aX W x g) a) f) [o] (aY (aX W x g) a) w
def sr (P:Program) (n:Nat) (b:Array Oper) (W c:List Nat) (a:List It) (e:Env) (f:World):Nat->List Oper->List (List Nat)->Prop
 |_,[],_=>True
 |_,_::_,[]=>True
 |k,o::l,d::r=>Ik P n b W c a e f k o d/\sr P n b W c a e f (k+1) l r
theorem vc {b:List Nat} {a:List It} {d:List Nat} {r:List (List Nat)} (h:Ik P n ops W b a e0 w0 k o d) (c:sr P n ops W b a e0 w0 (k+1) l r):sr P n ops W b a e0 w0 k (o::l) (d::r):=⟨h,c⟩
theorem UT {c:List Nat} {a:List It}:∀(l:List Oper) (b:List (List Nat)) (k:Nat),sr P n ops W c a e0 w0 k l b->vD (aj []) P n ops W c (a.map It.F) e0 w0 k l b
 |[],_,_,_=>trivial
 |_::_,[],_,_=>trivial
 |o::l,d::r,k,h=>by
  refine⟨λx vs w e hk g i=>?_,UT l r (k+1) h.2⟩;have:=F3 (h.1 x w hk) (vs:=vs)<|O2 g;subst i;have f:pj (a.map It.F) k=(a.getD k<|.p λ_ _=>True).F:=by unfold pj;rw[gG,gG,List.getElem?_map];cases a[k]?<;>rfl
  rw[f];exact this
def Il:List It->Prop
 |[]=>True
 | .v _::r=>Il r
 | .p f::r=>(∀v w w',f v w->aj [] w w'->f v w')/\Il r
theorem O3:∀{its:List It},Il its->ry (aj []) (its.map It.F)
 |[],_=>trivial
 | .v _::r,h=>⟨λv w w' e _=>e,O3 (its:=r) h⟩
 | .p f::r,h=>⟨h.1,O3 (its:=r) h.2⟩
theorem UU:∀{its:List It},its.all It.Ij=true->Il its
 |[],_=>trivial
 | .v _::r,h=>UU (its:=r)<|by simpa[It.Ij] using h
 | .p f::r,h=>by simp[It.Ij] at h
section
variable {P:Program} {n:Nat} {l:List Oper} {m:Nat} {W ds:List Nat} {deps:List (List Nat)}
theorem yg {N R:Env->World->Prop} {X:Nat->Env->World->Prop} {id:Nat} {f:Env} {g:World} (s:P.follows .mixedOrders=true) (m:Nat) (W c:List Nat) (a:List (List Nat)) (b:List It) 
  (o:vE l m W c a=true) (p:Il b)
  (q:∀d,aj [] g d->sr P n l.toArray W c b f d 0 (l.take m) a)
  (t:∀(x:Env) (w:World),aj [] g w->dq b c w (List.range m) λe=>OW P n l.toArray N (l.drop m) (aY (aX W x f) e) w):
  CW P n (.region id l.toArray true) N R X f g:=
 Tn s bz m W c a (b.map It.F) o (O3 p) (λd hk=>UT _ _ _<|q d hk) λx vs w hk i=>
  F3 (t x w hk) (vs:=vs) λj r=>i j<|List.mem_range.1 r
theorem km {N R:Env->World->Prop} {X:Nat->Env->World->Prop} {id:Nat} {e:Env} {f:World} (p:P.follows .mixedOrders=true) (m:Nat) (W c:List Nat) (a:List (List Nat)) (b:List It) 
  (i:vE l m W c a=true) (j:b.all It.Ij=true)
  (o:∀g,aj [] f g->sr P n l.toArray W c b e g 0 (l.take m) a)
  (q:∀(x:Env) (w:World),aj [] f w->dq b c w (List.range m) λd=>OW P n l.toArray N (l.drop m) (aY (aX W x e) d) w):
  CW P n (.region id l.toArray true) N R X e f:=yg p m W c a b i (UU j) o q
end
section
variable {P:Program} {n:Nat} {ops:Array Oper} {e:Env} {w w':World}
theorem pv (h:v=V:=by rfl):OW P n ops (λa w'=>aj [] w w'/\(It.v V).F (a d) w'/\eO [d] e a) [] (cj e (some d) v) w:=
 bf ⟨aj.refl _ _,by subst h;exact ni _ _ _,qG⟩
theorem pk (k:aj [] w w') (h:v=V:=by rfl):OW P n ops (λa w'=>aj [] w w'/\(It.v V).F (a d) w'/\eO [d] e a) [] (cj e (some d) v) w':=
 bf ⟨k,by subst h;exact ni _ _ _,qG⟩
theorem pf {f:Value->World->Prop} (k:aj [] w w') (h:f v w'):OW P n ops (λa w'=>aj [] w w'/\(It.p f).F (a d) w'/\eO [d] e a) [] (cj e (some d) v) w':=
 bf ⟨k,by show f (jc e d v d) w';rw[ni];exact h,qG⟩
end
section
variable {P:Program} {n:Nat} {N R:Env->World->Prop} {X:Nat->Env->World->Prop} {e0:Env} {w:World}
theorem DQ {c:Code} (d:List Nat) (a:List (Nat×Value)) (h:CW P n c (λb w'=>eO d e0 b/\Holds a b/\aj [] w w') R X e0 w) 
  (k:∀x w',aj [] w w'->N (aY (aX d x e0) a) w'):CW P n c N R X e0 w:=
 h.mono (λb w' ⟨e,f,hk⟩=>by have:=k b w' hk;rw[zF e,Kt f] at this;exact this) (λ_ _ h=>h) λ_ _ _ h=>h
end
theorem kE {p q r:Prop} (k:r) (h:p:=by repeat(first|with_reducible exact zE|refine Ky rfl ?_|refine N6 rfl ?_)) (a:q:=by repeat' (first|rfl|(rw[ia];rfl)|(rw[j5];rfl)|constructor)):p/\q/\r:=⟨h,a,k⟩
theorem cI {g:World->World->Prop} {P:Program} {n:Nat} {b:Array Oper} {W f:List Nat} {a:List It} {i:Env} {j:World} {k:Nat} {o:Oper} {l:List Oper} {d:List Nat} {r:List (List Nat)} 
  (h:∀(x:Env) (w:World),g j w->dq a f w d λc=>OW P n b (λm w'=>g w w'/\(a.getD k<|.p λ_ _=>True).F (m<|f.getD k 0) w'/\eO [f.getD k 0] (aY (aX W x i) c) m) [o] (aY (aX W x i) c) w)
  (t:vD g P n b W f (a.map It.F) i j (k+1) l r):vD g P n b W f (a.map It.F) i j k (o::l) (d::r):=
 ⟨λx vs w e hk q s=>by
  have:=F3 (h x w hk) (vs:=vs)<|O2 q;subst s;have p:pj (a.map It.F) k=(a.getD k<|.p λ_ _=>True).F:=by unfold pj;rw[gG,gG,List.getElem?_map];cases a[k]?<;>rfl
  rw[p];exact this,t⟩
theorem oS {n:Nat} {l:List Oper} {N R:Env->World->Prop} {X:Nat->Env->World->Prop} {id:Nat} {f:Env} {g:World} (t:P.follows .mixedOrders=true) {c:World->World->Prop} (v:Kept c) (m:Nat) (W d:List Nat) (a:List (List Nat)) (b:List It) 
  (p:vE l m W d a=true) (q:ry c (b.map It.F))
  (r:∀i,c g i->vD c P n l.toArray W d (b.map It.F) f i 0 (l.take m) a)
  (u:∀(x:Env) (w:World),c g w->dq b d w (List.range m) λe=>OW P n l.toArray N (l.drop m) (aY (aX W x f) e) w):
  CW P n (.region id l.toArray true) N R X f g:=
 Tn t v m W d a _ p q r λx vs w hk o=>F3 (u x w hk) (vs:=vs) λj s=>o j<|List.mem_range.1 s
theorem ga {c:World->World->Prop} (K:Kept c) {P:Program} {n:Nat} {b:Array Oper} {W f:List Nat} {a:List It} {g:Env} {j:World} (aC:c j w0) {k:Nat} {o:Oper} {l:List Oper} {d:List Nat} {r:List (List Nat)} 
  (h:∀(x:Env) (w:World),c j w->dq a f w d λe=>OW P n b (λi w'=>c w w'/\(a.getD k<|.p λ_ _=>True).F (i<|f.getD k 0) w'/\eO [f.getD k 0] (aY (aX W x g) e) i) [o] (aY (aX W x g) e) w)
  (m:vD c P n b W f (a.map It.F) g w0 (k+1) l r):vD c P n b W f (a.map It.F) g w0 k (o::l) (d::r):=
 cI (λx w hk=>h x w<|K.trans aC hk) m
section
variable {KK:World->World->Prop} {P:Program} {n:Nat} {ops:Array Oper} {e:Env} {w w':World}
theorem bR (K:Kept KK) (h:v=V:=by rfl):OW P n ops (λa w'=>KK w w'/\(It.v V).F (a d) w'/\eO [d] e a) [] (cj e (some d) v) w:=
 bf ⟨K.refl _,by subst h;exact ni _ _ _,qG⟩
theorem BS (K:Kept KK) (k:aj [] w w') (h:v=V:=by rfl):OW P n ops (λa w'=>KK w w'/\(It.v V).F (a d) w'/\eO [d] e a) [] (cj e (some d) v) w':=
 bf ⟨K.of k,by subst h;exact ni _ _ _,qG⟩
end
theorem aen:NG Tryz.f10:=ng
theorem aeo:NG Tryz.f100:=ng
theorem aep:NG Tryz.f102:=ng
theorem aeq:NG Tryz.f103:=ng
theorem aer:NG Tryz.f104:=ng
theorem UW:NG Tryz.f105:=ng
theorem aes:NG Tryz.f106:=ng
theorem K6:NG Tryz.f107:=ng
theorem aet:NG Tryz.f108:=ng
theorem aeu:NG Tryz.f109:=ng
theorem aev:NG Tryz.f110:=ng
theorem aew:NG Tryz.f111:=ng
theorem aex:NG Tryz.f112:=ng
theorem aey:NG Tryz.f113:=ng
theorem aez:NG Tryz.f114:=ng
theorem aeA:NG Tryz.f115:=ng
theorem aeB:NG Tryz.f116:=ng
theorem aeC:NG Tryz.f117:=ng
theorem aeD:NG Tryz.f118:=ng
theorem aeE:NG Tryz.f119:=ng
theorem aeF:NG Tryz.f120:=ng
theorem aeG:NG Tryz.f121:=ng
theorem aeH:NG Tryz.f122:=ng
theorem aeI:NG Tryz.f123:=ng
theorem aeJ:NG Tryz.f124:=ng
theorem aeK:NG Tryz.f125:=ng
theorem aeL:NG Tryz.f126:=ng
theorem aeM:NG Tryz.f127:=ng
theorem aeN:NG Tryz.f128:=ng
theorem aeO:NG Tryz.f129:=ng
theorem aeP:NG Tryz.f130:=ng
theorem aeQ:NG Tryz.f131:=ng
theorem aeR:NG Tryz.f132:=ng
theorem aeS:NG Tryz.f133:=ng
theorem aeT:NG Tryz.f134:=ng
theorem aeU:NG Tryz.f135:=ng
theorem aeV:NG Tryz.f137:=ng
theorem aeW:NG Tryz.f139:=ng
theorem aeX:NG Tryz.f14:=ng
theorem aeY:NG Tryz.f140:=ng
theorem aeZ:NG Tryz.f141:=ng
theorem ae0:NG Tryz.f142:=ng
theorem ae1:NG Tryz.f143:=ng
theorem ae2:NG Tryz.f144:=ng
theorem ae3:NG Tryz.f145:=ng
theorem ae4:NG Tryz.f146:=ng
theorem ae5:NG Tryz.f147:=ng
theorem ae6:NG Tryz.f148:=ng
theorem ae7:NG Tryz.f149:=ng
theorem ae8:NG Tryz.f15:=ng
theorem ae9:NG Tryz.f150:=ng
theorem afa:NG Tryz.f151:=ng
theorem afb:NG Tryz.f152:=ng
theorem afc:NG Tryz.f153:=ng
theorem afd:NG Tryz.f154:=ng
theorem afe:NG Tryz.f155:=ng
theorem aff:NG Tryz.f156:=ng
theorem afg:NG Tryz.f157:=ng
theorem afh:NG Tryz.f158:=ng
theorem afi:NG Tryz.f159:=ng
theorem afj:NG Tryz.f16:=ng
theorem afk:NG Tryz.f160:=ng
theorem afl:NG Tryz.f161:=ng
theorem afm:NG Tryz.f162:=ng
theorem afn:NG Tryz.f163:=ng
theorem afo:NG Tryz.f164:=ng
theorem afp:NG Tryz.f165:=ng
theorem afq:NG Tryz.f166:=ng
theorem afr:NG Tryz.f167:=ng
theorem UX:NG Tryz.f168:=ng
theorem afs:NG Tryz.f169:=ng
theorem aft:NG Tryz.f17:=ng
theorem afu:NG Tryz.f170:=ng
theorem afv:NG Tryz.f171:=ng
theorem afw:NG Tryz.f173:=ng
theorem afx:NG Tryz.f174:=ng
theorem afy:NG Tryz.f175:=ng
theorem afz:NG Tryz.f176:=ng
theorem afA:NG Tryz.f177:=ng
theorem afB:NG Tryz.f178:=ng
theorem afC:NG Tryz.f18:=ng
theorem afD:NG Tryz.f181:=ng
theorem afE:NG Tryz.f182:=ng
theorem afF:NG Tryz.f184:=ng
theorem afG:NG Tryz.f185:=ng
theorem afH:NG Tryz.f186:=ng
theorem afI:NG Tryz.f187:=ng
theorem afJ:NG Tryz.f188:=ng
theorem afK:NG Tryz.f189:=ng
theorem afL:NG Tryz.f19:=ng
theorem afM:NG Tryz.f190:=ng
theorem afN:NG Tryz.f191:=ng
theorem afO:NG Tryz.f192:=ng
theorem afP:NG Tryz.f193:=ng
theorem afQ:NG Tryz.f194:=ng
theorem afR:NG Tryz.f195:=ng
theorem O4:NG Tryz.f196:=ng
theorem afS:NG Tryz.f197:=ng
theorem afT:NG Tryz.f199:=ng
theorem afU:NG Tryz.f20:=ng
theorem afV:NG Tryz.f200:=ng
theorem afW:NG Tryz.f201:=ng
theorem afX:NG Tryz.f202:=ng
theorem afY:NG Tryz.f207:=ng
theorem afZ:NG Tryz.f208:=ng
theorem af0:NG Tryz.f209:=ng
theorem af1:NG Tryz.f210:=ng
theorem af2:NG Tryz.f211:=ng
theorem af3:NG Tryz.f212:=ng
theorem af4:NG Tryz.f226:=ng
theorem af5:NG Tryz.f29:=ng
theorem af6:NG Tryz.f30:=ng
theorem af7:NG Tryz.f31:=ng
theorem af8:NG Tryz.f33:=ng
theorem af9:NG Tryz.f37:=ng
theorem aga:NG Tryz.f38:=ng
theorem agb:NG Tryz.f39:=ng
theorem nm4:NG Tryz.f4:=ng
theorem agd:NG Tryz.f40:=ng
theorem age:NG Tryz.f41:=ng
theorem agf:NG Tryz.f42:=ng
theorem agh:NG Tryz.f43:=ng
theorem agi:NG Tryz.f44:=ng
theorem agj:NG Tryz.f45:=ng
theorem agk:NG Tryz.f46:=ng
theorem agl:NG Tryz.f47:=ng
theorem agm:NG Tryz.f48:=ng
theorem agn:NG Tryz.f49:=ng
theorem ago:NG Tryz.f50:=ng
theorem agp:NG Tryz.f52:=ng
theorem agq:NG Tryz.f53:=ng
theorem agr:NG Tryz.f54:=ng
theorem ags:NG Tryz.f55:=ng
theorem agt:NG Tryz.f58:=ng
theorem agu:NG Tryz.f59:=ng
theorem agv:NG Tryz.f60:=ng
theorem agw:NG Tryz.f61:=ng
theorem agx:NG Tryz.f62:=ng
theorem agy:NG Tryz.f63:=ng
theorem agz:NG Tryz.f66:=ng
theorem agA:NG Tryz.f67:=ng
theorem agB:NG Tryz.f70:=ng
theorem agC:NG Tryz.f71:=ng
theorem agD:NG Tryz.f72:=ng
theorem agE:NG Tryz.f73:=ng
theorem agF:NG Tryz.f74:=ng
theorem agG:NG Tryz.f75:=ng
theorem agH:NG Tryz.f76:=ng
theorem UY:NG Tryz.f77:=ng
theorem UZ:NG Tryz.f78:=ng
theorem agI:NG Tryz.f79:=ng
theorem agJ:NG Tryz.f80:=ng
theorem agK:NG Tryz.f81:=ng
theorem agL:NG Tryz.f82:=ng
theorem agM:NG Tryz.f83:=ng
theorem agN:NG Tryz.f84:=ng
theorem agO:NG Tryz.f85:=ng
theorem U0:NG Tryz.f86:=ng
theorem agP:NG Tryz.f87:=ng
theorem agQ:NG Tryz.f88:=ng
theorem agR:NG Tryz.f89:=ng
theorem agS:NG Tryz.f90:=ng
theorem agT:NG Tryz.f91:=ng
theorem agU:NG Tryz.f92:=ng
theorem agV:NG Tryz.f93:=ng
theorem U1:NG Tryz.f94:=ng
theorem agW:NG Tryz.f95:=ng
theorem agX:NG Tryz.f96:=ng
theorem agY:NG Tryz.f97:=ng
theorem agZ:NG Tryz.f98:=ng
theorem ag0:NG Tryz.f99:=ng
theorem fN:tY Tryz.prog 103=true:=by kernel_rfl
theorem ag1:tY Tryz.prog 117=true:=by kernel_rfl
theorem U2:tY Tryz.prog 144=true:=by kernel_rfl
theorem BT:tY Tryz.prog 39=true:=by kernel_rfl
theorem iL:tY Tryz.prog 61=true:=by kernel_rfl
theorem Im:tY Tryz.prog 80=true:=by kernel_rfl
theorem Io:Tryz.prog.underlying 158=some (.array 40 61):=by kernel_rfl
theorem F4:Tryz.prog.underlying 159=some (.array 40 4):=by kernel_rfl
theorem Ip:∀(w:World),(Instr.build 103 #[]).run Tryz.prog w= .ok (.agg #[.string ⟨#[]⟩,.slice none 0 0]) w:=by intros;kernel_rfl
theorem ag2:∀(a:ByteArray) (w:World),(Instr.build 103 #[(0,(.string a))]).run Tryz.prog w= .ok (.agg #[.string a,.slice none 0 0]) w:=by intros;kernel_rfl
theorem O5:∀(a:Option Addr) (c b:Nat) (w:World),(Instr.build 103 #[(1,(.slice a c b))]).run Tryz.prog w= .ok (.agg #[.string ⟨#[]⟩,.slice a c b]) w:=by intros;kernel_rfl
theorem O6:∀(a:Option Addr) (c b:Nat) (d:Option Addr) (f e:Nat) (w:World),(Instr.build 117 #[(0,(.slice a c b)),(1,(.slice d f e))]).run Tryz.prog w= .ok (.agg #[.slice a c b,.slice d f e]) w:=by intros;kernel_rfl
theorem ag3:∀(a:Option Addr) (c b:Nat) (d:Option Addr) (f e:Nat) (w:World),(Instr.build 142 #[(0,(.slice a c b)),(1,(.slice d f e))]).run Tryz.prog w= .ok (.agg #[.slice a c b,.slice d f e,.int .i64 0,.bool false,.slice none 0 0,.slice none 0 0]) w:=by intros;kernel_rfl
theorem ag4:∀(c:Fn) (a b:Array Value) (w:World),(Instr.build 161 #[(3,(.func c a b))]).run Tryz.prog w= .ok (.agg #[.string ⟨#[]⟩,.slice none 0 0,.string ⟨#[]⟩,.slice none 0 0,.string ⟨#[]⟩,.slice none 0 0,.string ⟨#[]⟩,.slice none 0 0,.string ⟨#[]⟩,.slice none 0 0,.string ⟨#[]⟩,.slice none 0 0,.string ⟨#[]⟩,.slice none 0 0,.string ⟨#[]⟩,.slice none 0 0,.string ⟨#[]⟩,.slice none 0 0,.string ⟨#[]⟩,.slice none 0 0,.string ⟨#[]⟩,.slice none 0 0,.string ⟨#[]⟩,.slice none 0 0,.string ⟨#[]⟩,.slice none 0 0,.string ⟨#[]⟩,.slice none 0 0,.string ⟨#[]⟩,.slice none 0 0,.string ⟨#[]⟩,.slice none 0 0,.string ⟨#[]⟩,.slice none 0 0,.string ⟨#[]⟩,.slice none 0 0,.string ⟨#[]⟩,.slice none 0 0,.string ⟨#[]⟩,.slice none 0 0,.string ⟨#[]⟩,.slice none 0 0,.string ⟨#[]⟩,.slice none 0 0,.string ⟨#[]⟩,.slice none 0 0,.string ⟨#[]⟩,.slice none 0 0,.string ⟨#[]⟩,.slice none 0 0,.string ⟨#[]⟩,.slice none 0 0,.string ⟨#[]⟩,.slice none 0 0,.string ⟨#[]⟩,.slice none 0 0,.string ⟨#[]⟩,.slice none 0 0,.string ⟨#[]⟩,.slice none 0 0,.string ⟨#[]⟩,.slice none 0 0,.string ⟨#[]⟩,.slice none 0 0,.string ⟨#[]⟩,.slice none 0 0,.string ⟨#[]⟩,.slice none 0 0,.string ⟨#[]⟩,.slice none 0 0,.string ⟨#[]⟩,.slice none 0 0,.string ⟨#[]⟩,.slice none 0 0,.string ⟨#[]⟩,.slice none 0 0,.string ⟨#[]⟩,.slice none 0 0,.string ⟨#[]⟩,.slice none 0 0,.bool false,.bool false,.bool false,.bool false,.bool false,.bool false,.bool false,.bool false,.bool false,.bool false,.bool false,.bool false,.bool false,.bool false,.bool false,.bool false,.bool false,.bool false,.bool false,.bool false,.bool false,.bool false,.bool false,.bool false,.bool false,.bool false,.bool false,.bool false,.bool false,.bool false,.bool false,.bool false,.bool false,.bool false,.bool false,.bool false,.bool false,.bool false,.bool false,.bool false,.int .i64 0,.func c a b]) w:=by intros;kernel_rfl
theorem ag5:∀(a:Option Addr) (c b:Nat) (x1:Int) (d:Option Addr) (f e:Nat) (g:Option Addr) (j i:Nat) (w:World),(Instr.build 169 #[(0,(.slice a c b)),(1,(.int .i64 x1)),(2,(.slice d f e)),(3,(.slice g j i))]).run Tryz.prog w= .ok (.agg #[.slice a c b,.int .i64 x1,.slice d f e,.slice g j i]) w:=by intros;kernel_rfl
theorem ag6:∀(a:Option Addr) (c b:Nat) (x1:Int) (w:World),(Instr.build 195 #[(0,(.slice a c b)),(1,(.int .i64 x1))]).run Tryz.prog w= .ok (.agg #[.slice a c b,.int .i64 x1]) w:=by intros;kernel_rfl
theorem K7:∀(g:ByteArray) (a:Option Addr) (c b:Nat) (d:Option Addr) (f e:Nat) (w:World),(Instr.build 39 #[(0,(.string g)),(1,(.slice a c b)),(2,(.slice d f e))]).run Tryz.prog w= .ok (.agg #[.string g,.slice a c b,.slice d f e]) w:=by intros;kernel_rfl
theorem O7:∀(w:World),(Instr.build 61 #[]).run Tryz.prog w= .ok (.agg #[.string ⟨#[]⟩,.slice none 0 0]) w:=by intros;kernel_rfl
theorem U3:∀(a:ByteArray) (w:World),(Instr.build 61 #[(0,(.string a))]).run Tryz.prog w= .ok (.agg #[.string a,.slice none 0 0]) w:=by intros;kernel_rfl
theorem ag7:∀(a:Option Addr) (c b:Nat) (w:World),(Instr.build 61 #[(1,(.slice a c b))]).run Tryz.prog w= .ok (.agg #[.string ⟨#[]⟩,.slice a c b]) w:=by intros;kernel_rfl
theorem O8:∀(w:World),(Instr.build 80 #[]).run Tryz.prog w= .ok (.agg #[.string ⟨#[]⟩,.slice none 0 0,.slice none 0 0]) w:=by intros;kernel_rfl
theorem ag8:∀(a:ByteArray) (w:World),(Instr.build 80 #[(0,(.string a))]).run Tryz.prog w= .ok (.agg #[.string a,.slice none 0 0,.slice none 0 0]) w:=by intros;kernel_rfl
theorem ag9:∀(a:Option Addr) (c b:Nat) (w:World),(Instr.build 84 #[(0,(.slice a c b))]).run Tryz.prog w= .ok (.agg #[.slice a c b,.int .i64 0]) w:=by intros;kernel_rfl
theorem aha:Tryz.prog.underlying 4=some .bool:=by kernel_rfl
theorem ml:gX Tryz.prog 103 0=some 0:=by kernel_rfl
theorem kn:gX Tryz.prog 103 1=some 1:=by kernel_rfl
theorem ahb:gX Tryz.prog 117 0=some 0:=by kernel_rfl
theorem ahc:gX Tryz.prog 117 1=some 1:=by kernel_rfl
theorem ahd:gX Tryz.prog 142 0=some 0:=by kernel_rfl
theorem ahe:gX Tryz.prog 142 1=some 1:=by kernel_rfl
theorem ahf:gX Tryz.prog 142 2=some 2:=by kernel_rfl
theorem ahg:gX Tryz.prog 142 3=some 3:=by kernel_rfl
theorem ahh:gX Tryz.prog 142 4=some 4:=by kernel_rfl
theorem ahi:gX Tryz.prog 142 5=some 5:=by kernel_rfl
theorem ahj:gX Tryz.prog 144 0=some 0:=by kernel_rfl
theorem U4:gX Tryz.prog 144 1=some 1:=by kernel_rfl
theorem ahk:gX Tryz.prog 144 10=some 11:=by kernel_rfl
theorem ahl:gX Tryz.prog 144 2=some 2:=by kernel_rfl
theorem K8:gX Tryz.prog 144 3=some 3:=by kernel_rfl
theorem ahm:gX Tryz.prog 144 4=some 4:=by kernel_rfl
theorem ahn:gX Tryz.prog 144 5=some 5:=by kernel_rfl
theorem aho:gX Tryz.prog 144 6=some 6:=by kernel_rfl
theorem U5:gX Tryz.prog 144 7=some 7:=by kernel_rfl
theorem U6:gX Tryz.prog 144 8=some 9:=by kernel_rfl
theorem ahp:gX Tryz.prog 144 9=some 10:=by kernel_rfl
theorem ahq:gX Tryz.prog 161 0=some 0:=by kernel_rfl
theorem ahr:gX Tryz.prog 161 1=some 80:=by kernel_rfl
theorem ahs:gX Tryz.prog 161 2=some 120:=by kernel_rfl
theorem aht:gX Tryz.prog 161 3=some 121:=by kernel_rfl
theorem ahu:gX Tryz.prog 169 0=some 0:=by kernel_rfl
theorem ahv:gX Tryz.prog 169 1=some 1:=by kernel_rfl
theorem ahw:gX Tryz.prog 169 2=some 2:=by kernel_rfl
theorem ahx:gX Tryz.prog 169 3=some 3:=by kernel_rfl
theorem ahy:gX Tryz.prog 195 0=some 0:=by kernel_rfl
theorem ahz:gX Tryz.prog 195 1=some 1:=by kernel_rfl
theorem O9:gX Tryz.prog 39 0=some 0:=by kernel_rfl
theorem Pa:gX Tryz.prog 39 1=some 1:=by kernel_rfl
theorem BU:gX Tryz.prog 39 2=some 2:=by kernel_rfl
theorem Pb:gX Tryz.prog 61 0=some 0:=by kernel_rfl
theorem vL:gX Tryz.prog 61 1=some 1:=by kernel_rfl
theorem ahA:gX Tryz.prog 80 0=some 0:=by kernel_rfl
theorem U7:gX Tryz.prog 80 1=some 1:=by kernel_rfl
theorem U8:gX Tryz.prog 80 2=some 2:=by kernel_rfl
theorem ahB:gX Tryz.prog 84 0=some 0:=by kernel_rfl
theorem U9:gX Tryz.prog 84 1=some 1:=by kernel_rfl
theorem F5:TI Tryz.prog 101 1 24 (.slice none 0 0):=by unfold TI;kernel_rfl
theorem aO:TI Tryz.prog 103 2 40 (.agg #[.string ⟨#[]⟩,.slice none 0 0]):=by unfold TI;kernel_rfl
theorem Va:TI Tryz.prog 110 1 24 (.slice none 0 0):=by unfold TI;kernel_rfl
theorem DR:TI Tryz.prog 117 2 48 (.agg #[.slice none 0 0,.slice none 0 0]):=by unfold TI;kernel_rfl
theorem K9:TI Tryz.prog 140 1 24 (.slice none 0 0):=by unfold TI;kernel_rfl
theorem ob:TI Tryz.prog 144 12 216 (.agg #[.string ⟨#[]⟩,.slice none 0 0,.int .i64 0,.slice none 0 0,.slice none 0 0,.slice none 0 0,.slice none 0 0,.string ⟨#[]⟩,.slice none 0 0,.int .i64 0,.string ⟨#[]⟩,.int .i64 0]):=by unfold TI;kernel_rfl
theorem Vb:TI Tryz.prog 23 1 24 (.slice none 0 0):=by unfold TI;kernel_rfl
theorem oc:TI Tryz.prog 25 1 24 (.slice none 0 0):=by unfold TI;kernel_rfl
theorem th:TI Tryz.prog 3 1 8 (.int .i64 0):=by unfold TI;kernel_rfl
theorem ix:TI Tryz.prog 39 3 64 (.agg #[.string ⟨#[]⟩,.slice none 0 0,.slice none 0 0]):=by unfold TI;kernel_rfl
theorem zR:TI Tryz.prog 4 1 1 (.bool false):=by unfold TI;kernel_rfl
theorem Iq:TI Tryz.prog 5 1 1 (.int .u8 0):=by unfold TI;kernel_rfl
theorem F6:TI Tryz.prog 59 1 24 (.slice none 0 0):=by unfold TI;kernel_rfl
theorem bV:TI Tryz.prog 61 2 40 (.agg #[.string ⟨#[]⟩,.slice none 0 0]):=by unfold TI;kernel_rfl
theorem od:TI Tryz.prog 80 3 64 (.agg #[.string ⟨#[]⟩,.slice none 0 0,.slice none 0 0]):=by unfold TI;kernel_rfl
theorem bw:TI Tryz.prog 9 1 16 (.string ⟨#[]⟩):=by unfold TI;kernel_rfl
theorem Pc:TI Tryz.prog 99 2 32 (.agg #[.pointer none,.slice none 0 0]):=by unfold TI;kernel_rfl
theorem Lc:Tryz.prog.underlying 204=some (.int .u64):=by kernel_rfl
theorem yh:Tryz.prog.underlying 3=some (.int .i64):=by kernel_rfl
theorem zS:Tryz.prog.underlying 5=some (.int .u8):=by kernel_rfl
theorem dh:Tryz.prog.follows .mixedOrders=true:=by kernel_rfl
theorem jC:qF Tryz.prog 101=true:=by kernel_rfl
theorem ahC:qF Tryz.prog 110=true:=by kernel_rfl
theorem Pd:qF Tryz.prog 134=true:=by kernel_rfl
theorem ahD:qF Tryz.prog 140=true:=by kernel_rfl
theorem ahE:qF Tryz.prog 22=true:=by kernel_rfl
theorem ahF:qF Tryz.prog 23=true:=by kernel_rfl
theorem wZ:qF Tryz.prog 25=true:=by kernel_rfl
theorem Ld:qF Tryz.prog 3=true:=by kernel_rfl
theorem Ir:qF Tryz.prog 4=true:=by kernel_rfl
theorem ahG:qF Tryz.prog 5=true:=by kernel_rfl
theorem rF:qF Tryz.prog 59=true:=by kernel_rfl
theorem gI:qF Tryz.prog 9=true:=by kernel_rfl
theorem cT:Tryz.prog.underlying 101=some (.slice 103):=by kernel_rfl
theorem F7:Tryz.prog.underlying 110=some (.slice 3):=by kernel_rfl
theorem BV:Tryz.prog.underlying 140=some (.slice 144):=by kernel_rfl
theorem DS:Tryz.prog.underlying 22=some (.slice 5):=by kernel_rfl
theorem lE:Tryz.prog.underlying 23=some (.slice 39):=by kernel_rfl
theorem bA:Tryz.prog.underlying 25=some (.slice 9):=by kernel_rfl
theorem F8:Tryz.prog.underlying 50=some (.slice 80):=by kernel_rfl
theorem ic:Tryz.prog.underlying 59=some (.slice 61):=by kernel_rfl
theorem ji:Tryz.prog.underlying 9=some .string:=by kernel_rfl
end Go.Proofs.YtcildnfcpkpomaaGreatDoor
