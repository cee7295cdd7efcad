/- Lemmas for the law FnLink, no statement of their own: no conditions. -/
import Derived.Test.YtcildnfcpkpomaaGreatDoorHa
import Derived.KernelRfl
import Derived.Lib.Atoi
import Derived.Lib.Strings
import Derived.Test.YtcildnfcpkpomaaGreatDoorProg
set_option maxHeartbeats 4000000
set_option linter.unusedVariables false
set_option linter.unusedSimpArgs false
namespace Go.Proofs.YtcildnfcpkpomaaGreatDoor
open Go
variable {B E U bytes d i k m n n1 n2 sz:Nat} {L L' W:List Nat} {w w' w0:World} {V v z:Value} {g gb:Option Nat} {rows:List (List C)} {b:Bk} {p t x y:aq} {ps ts:List aq} {h l r s:ak} {P:Program} {ops:Array Oper} {bs:List Bk} {xs:List ak} {c:UInt8} {a:Prop} {e0:Env} {o:Oper} {N R:Env->World->Prop} {X:Nat->Env->World->Prop}
structure Gr (B:Nat) (L:List Nat) (w:World) (T:TypeId) (sz:Nat) (v:Value) (g:Option Nat) (rows:List (List C)):Prop where
 own:∃xs,iS L w T sz v g rows xs
 low:∀b,g=some b->B<=b
 cU:∀x∈L,x<w.heap.size
 bsz:B<=w.heap.size
theorem Gr.nil {T:TypeId} (b:∀x∈L,x<w.heap.size) (a:B<=w.heap.size):Gr B L w T sz (.slice none 0 0) none []:=
 ⟨⟨[],iS.nil _ _ _ _⟩,sm,b,a⟩
theorem Gr.aG {T:TypeId} (h:Gr B L w T sz v g rows) (k:aj L' w w') (a:∀x∈L',x∈L):Gr B L w' T sz v g rows:=
 ⟨h.own.imp λ_ h=>h.aG k a,h.low,λx b=>lL (h.cU x b) k.size,Nat.le_trans h.bsz k.size⟩
theorem Gr.ext {T:TypeId} (h:Gr B L w T sz v g rows) (k:aj [] w w'):Gr B L w' T sz v g rows:=h.aG k sm
theorem Gr.aB {T:TypeId} (h:Gr B L w T sz v g rows) (k:aj L' w w') (a:∀x∈L',x∈L):Gr B L w' T sz v g rows:=h.aG k a
theorem Gr.alloc {T:TypeId} (h:Gr B L w T sz v g rows) (k:aj [] w w') (b:w'.heap.size=w.heap.size+1):Gr B (w.heap.size::L) w' T sz v g rows:=
 ⟨h.own.imp λ_ h=>(h.more uR).aG k sm,h.low,λx a=>by rcases mC.1 a with rfl|a;omega;have:=h.cU x a;omega,Nat.le_trans h.bsz k.size⟩
theorem Gr.dY {T:TypeId} (h:Gr B L w T sz v g rows) (b:∀x∈L',x∈L):Gr B L' w T sz v g rows:=
 ⟨h.own.imp λ_ h=>h.more λx a=>.inl<|b x a,h.low,λx a=>h.cU x<|b x a,h.bsz⟩
theorem Gr.done {T:TypeId} (h:Gr B L w T sz v g rows):cj L w v (.sl sz rows):=by obtain⟨_,h⟩:=h.own;exact h.done
theorem Gr.As {T:TypeId} (h:Gr B L w T sz v g rows) {b:Nat} (hb:b∈L):b∉g.toList:=by obtain⟨_,h⟩:=h.own;exact h.sep hb
theorem Gr.Lq {T:TypeId} (h:Gr B L w T sz v g rows) {b:Nat} (hb:b<B):b∉g.toList:=by intro a;have:=h.low b (by simpa using a);omega
theorem Gr.lt {T:TypeId} (h:Gr B L w T sz v g rows):∀x∈g.toList,x<w.heap.size:=by obtain⟨_,h⟩:=h.own;intro x a;exact h.own.lt x (by simpa using a)
theorem Gr.all {T:TypeId} (h:Gr B L w T sz v g rows):∀x∈g.toList++L,x<w.heap.size:=by
 intro x a;rcases mA.1 a with a|a
 .exact h.lt x a
 .exact h.cU x a
theorem Gr.since {T:TypeId} (h:Gr w0.heap.size L w T sz v g rows) (b:aj L' w0 w) (k:aj g.toList w w'):aj L' w0 w':=
 b.since k λx a=>.inr (h.low x<|by simpa using a)
theorem aj.IF (a:w0.heap.size<=B) (c:∀b,g=some b->B<=b) (e:aj L' w0 w) (k:aj g.toList w w'):aj L' w0 w':=
 e.since k λx d=>.inr<|Nat.le_trans a (c x<|by simpa using d)
section
variable {P:Program} {n:Nat} {ops:Array Oper} {K:Env->World->Prop} {rest:List Oper} {e:Env} {w:World}
 {dst:Option Nat} {ty:TypeId} {pos:String} {after:Array Edge} {g:Option (Nat×Bool)} {x y:Operand}
theorem Gq {B:Nat} {L:List Nat} {t:Nat} {v:Value} {j:Option Nat} {rows:List (List C)} {row:List C} {c:List Value} {b U:Nat} (r:P.underlying t=some (.slice E)) (p:TI P E sz bytes z) (A:gate ops e g=true) (s:cJ n dst=true) (I:Nat.beq z.cells.size sz=true) (m:Nat.ble bytes 1000=true) 
  (l:ev e x=v) (H:ev e y= .slice (some ⟨b,0,none⟩) 1 1) (d:Gr B L w E sz v j rows) (hb:aK w b c.toArray U) (J:row.length=sz) (o:c.all Value.oneCell'=true)
  (D:dG (j.toList++L) w c row) (Q:rows.length<100000000)
  (k:∀f a i w',Gr B L w' E sz (.slice f (rows.length+1) a) i (rows++[row])->aj j.toList w w'->OW P n ops K rest (bU e dst (.slice f (rows.length+1) a)) w'):
  OW P n ops K (⟨dst,.call {callee:=.builtin .append,args:=#[x,y],argTypes:=#[t,t]},ty,pos,after,g⟩::rest) e w:=by
 obtain⟨xs,q⟩:=d.own;have O:bytes<=1000:=Nat.le_of_ble_eq_true m;refine UD r p A s I l H q J hb.all (λu F=>List.all_eq_true.1 o u F) D d.cU (Nat.le_trans (Nat.mul_le_mul (show rows.length+1<=100000000 by omega)<|show bytes+1<=1001 by omega) de) ?_;intro f a i w' M hk N;refine k f a i w' ⟨⟨_,M⟩,λb hb=>?_,λx l=>lL (d.cU x l) hk.size,Nat.le_trans d.bsz hk.size⟩ hk;rcases N with h|h
 .rw[h] at hb;exact d.low b hb
 .rw[h] at hb;cases hb;exact d.bsz
theorem IG {B:Nat} {L:List Nat} {t:Nat} {v r s:Value} {m:Option Nat} {d:List aq} {f:aq} {b U:Nat} (I:P.underlying t=some (.slice E)) (F:TI P E 2 bytes z) (M:gate ops e g=true) (J:cJ n dst=true) (S:Nat.beq z.cells.size 2=true) (D:Nat.ble bytes 1000=true) 
  (Q:ev e x=v) (R:ev e y= .slice (some ⟨b,0,none⟩) 1 1) (H:Gr B L w E 2 v m (du d)) (hb:aK w b [r,s].toArray U)
  (q:bg (m.toList++L) w (.agg #[r,s]) f) (N:d.length<100000000)
  (k:∀i a l w',Gr B L w' E 2 (.slice i (d++[f]).length a) l (du (d++[f]))->aj m.toList w w'->OW P n ops K rest (bU e dst (.slice i (d++[f]).length a)) w'):
  OW P n ops K (⟨dst,.call {callee:=.builtin .append,args:=#[x,y],argTypes:=#[t,t]},ty,pos,after,g⟩::rest) e w:=by
 refine Gq I F M J S D Q R H hb (qu f) ?_ q.lP (by rw[iG];exact N) ?_
 .rw[List.all_eq_true];refine λu O=>dG.IC q.lP (λc o v j=>?_) u O;cases f;rw[aq.enc] at o;simp only[mC,List.not_mem_nil,or_false] at o;rcases o with h|h
  .rw[h] at j;cases j;rfl
  .rw[h] at j;cases j
 .intro i a l w' p hk;have A:(du d).length+1=(d++[f]).length:=by simp[iG]
  have C:du d++[f.enc]=du (d++[f]):=by simp[OR,du]
  rw[A] at p⊢;rw[C] at p;exact k i a l w' p hk
theorem UJ {B:Nat} {L:List Nat} {t:Nat} {v:Value} {j:Option Nat} {c:List ak} {s:ak} {b U:Nat} (r:P.underlying t=some (.slice E)) (p:TI P E 1 bytes z) (A:gate ops e g=true) (u:cJ n dst=true) (H:Nat.beq z.cells.size 1=true) (o:Nat.ble bytes 1000=true) 
  (D:ev e x=v) (F:ev e y= .slice (some ⟨b,0,none⟩) 1 1) (q:Gr B L w E 1 v j (ic c)) (hb:aK w b [str s].toArray U) (C:c.length<100000000)
  (k:∀d a f w',Gr B L w' E 1 (.slice d (c++[s]).length a) f (ic (c++[s]))->aj j.toList w w'->OW P n ops K rest (bU e dst (.slice d (c++[s]).length a)) w'):
  OW P n ops K (⟨dst,.call {callee:=.builtin .append,args:=#[x,y],argTypes:=#[t,t]},ty,pos,after,g⟩::rest) e w:=by
 refine Gq (row:=[.val (str s)]) r p A u H o D F q hb rfl rfl ⟨.val _,trivial⟩ (by rw[rW];exact C) ?_;intro d a f w' i hk;have l:(ic c).length+1=(c++[s]).length:=by simp[rW]
 have m:ic c++[[.val (str s)]]=ic (c++[s]):=by simp[ic]
 rw[l] at i⊢;rw[m] at i;exact k d a f w' i hk
end
theorem UK {P:Program} {T:Nat} (b:P.underlying T=some (.slice E)) (a:TI P E sz bytes z):(Instr.buildSlice T 0 #[]).run P w= .ok (.slice (some ⟨w.heap.size,0,none⟩) 0 0) (w.alloc<|.cells #[] E):=by simp[Instr.buildSlice,Sem.run_bind,run_underlying b,Result.andThen_ok,a.qZ,Instr.fill,newRow];congr 2;apply Array.ext<;>simp
theorem yV {P:Program} {n:Nat} {d:Array Oper} {K:Env->World->Prop} {rest:List Oper} {e:Env} {w:World} {c:Option Nat} {ty:TypeId} {pos:String} {a:Array Edge} {g:Option (Nat×Bool)} 
  {T E j bytes:Nat} {z:Value} (B:Nat) (L:List Nat) (o:P.underlying T=some (.slice E)) (m:TI P E j bytes z) (q:gate d e g=true) (p:cJ n c=true) (l:B<=w.heap.size) (i:∀x∈L,x<w.heap.size)
  (k:∀w',aj [] w w'->w'.heap.size=w.heap.size+1->Gr B L w' E j (.slice (some ⟨w.heap.size,0,none⟩) 0 0) (some w.heap.size) []->OW P n d K rest (bU e c<|.slice (some ⟨w.heap.size,0,none⟩) 0 0) w'):
  OW P n d K (⟨c,.buildSlice T 0 #[],ty,pos,a,g⟩::rest) e w:=
 fp q p (w':=w.alloc<|.cells #[] E) (by simp[execOp,UK (P:=P) (w:=w) o m])
  (k _ (aj.alloc _ _ _) sm ⟨⟨[],⟨by simp,.inr ⟨w.heap.size,0,#[],rfl,rfl,aK.alloc _ _ _,lR _,by decide,sm,sm⟩⟩,trivial,sm,by intro b hb f;cases hb;have:=i _ f;omega⟩,
   by intro b hb;cases hb;exact l,λx f=>by have:=i x f;simp;omega,by simp;omega⟩)
theorem pL.lP {x y:Value} (h:pL L w (.agg #[x,y,z]) b):dG L w [x,y,z] b.enc:=by
 obtain⟨e,a,c⟩:=h;have d:e=[x,y,z]:=by have:=congrArg (λv=>match v with|Value.agg x=>x.toList|_=>[]) a;simpa using this.symm
 rw[<-d];exact c
theorem OT {P:Program} {n:Nat} {l:Array Oper} {K:Env->World->Prop} {rest:List Oper} {e:Env} {w:World} {j:Option Nat} {ty:TypeId} {pos:String} {i:Array Edge} {g:Option (Nat×Bool)} {x y:Operand} 
  {B:Nat} {L:List Nat} {t E bytes:Nat} {z:Value} {v C D F:Value} {q:Option Nat} {d:List Bk} {f:Bk} {b U:Nat} (O:P.underlying t=some (.slice E)) (M:TI P E 3 bytes z) (R:gate l e g=true) (Q:cJ n j=true) (Y:Nat.beq z.cells.size 3=true) (J:Nat.ble bytes 1000=true)
  (V:ev e x=v) (X:ev e y= .slice (some ⟨b,0,none⟩) 1 1) (N:Gr B L w E 3 v q (d.map Bk.enc)) (hb:aK w b [C,D,F].toArray U)
  (A:pL (q.toList++L) w (.agg #[C,D,F]) f) (S:d.length<100000000)
  (k:∀o a p w',Gr B L w' E 3 (.slice o (d++[f]).length a) p ((d++[f]).map Bk.enc)->aj q.toList w w'->OW P n l K rest (bU e j (.slice o (d++[f]).length a)) w'):
  OW P n l K (⟨j,.call {callee:=.builtin .append,args:=#[x,y],argTypes:=#[t,t]},ty,pos,i,g⟩::rest) e w:=by
 refine Gq O M R Q Y J V X N hb rfl ?_ A.lP (by simpa using S) ?_
 .rw[List.all_eq_true];refine λu T=>dG.IC A.lP (λc r v m=>?_) u T;rw[Bk.enc] at r;simp only[mC,List.not_mem_nil,or_false] at r;rcases r with h|h|h
  .rw[h] at m;cases m;rfl
  .rw[h] at m;cases m
  .rw[h] at m;cases m
 .intro o a p w' s hk;have H:(d.map Bk.enc).length+1=(d++[f]).length:=by simp
  have I:d.map Bk.enc++[f.enc]=(d++[f]).map Bk.enc:=by simp
  rw[H] at s⊢;rw[I] at s;exact k o a p w' s hk
theorem Gr.uT {T:TypeId} (h:Gr B L w T 3 v g (bs.map Bk.enc)):kh L w v bs:=h.done
/-! ### Owned lists of texts,owned programs -/
def cZ (w:World) (T:TypeId) (v:Value) (g:Option Nat) (a:List ak):Prop:=jC w T 1 v g a.length<|a.map λx=>str x
theorem UM:∀{xs:List ak} {a:List Value},dG L w a (ic xs).flatten->a=xs.map λx=>str x
 |[],a,h=>by
  cases a with
  |nil=>rfl
  |cons v a=>exact h.elim
 |x::xs,a,h=>by
  cases a with
  |nil=>exact h.elim
  |cons v a=>obtain⟨b,c⟩:=h;cases b;rw[List.map_cons,<-UM (xs:=xs) c]
theorem UN:∀xs:List ak,dG L w (xs.map λx=>str x) (ic xs).flatten
 |[]=>trivial
 |_::xs=>⟨.val _,UN xs⟩
theorem Gr.wA {T:TypeId} (h:Gr B L w T 1 v g (ic xs)):cZ w T v g xs:=by obtain⟨_,h⟩:=h.own;have:=h.own;rw[UM h.rep,rW] at this;exact this
theorem cZ.adU {T:TypeId} (h:cZ w T v g xs) (c:∀b,g=some b->b∉L):iS L w T 1 v g (ic xs) (xs.map λx=>str x):=
 ⟨by rw[rW];exact h,UN xs,by intro row a;simp[ic] at a;obtain⟨_,_,rfl⟩:=a;rfl,c⟩
theorem cZ.rep {T:TypeId} (h:cZ w T v g xs) (a:∀b,g=some b->b∉L):bo L w v xs:=(h.adU a).done
theorem cZ.aG {T:TypeId} (h:cZ w T v g xs) (k:aj L w w') (a:∀b,g=some b->b∉L):cZ w' T v g xs:=jC.aG h k a
theorem cZ.ext {T:TypeId} (h:cZ w T v g xs) (k:aj [] w w'):cZ w' T v g xs:=h.aG k sm
def rX (w:World) (T:TypeId) (a:Option Nat×Option Nat) (e:List Value) (b:Bk):Prop:=
 ∃c d,e=[str b.aM,c,d]/\cZ w T c a.1 b.cQ/\cZ w T d a.2 b.code
def jY (a:Option Nat×Option Nat):List Nat:=a.1.toList++a.2.toList
def iC (a:List (Option Nat×Option Nat)):List Nat:=a.flatMap jY
theorem rX.aG {T:TypeId} {a:Option Nat×Option Nat} {d:List Value} (h:rX w T a d b) (k:aj L w w') (c:∀x,x∈jY a->x∉L):rX w' T a d b:=by obtain⟨i,j,e,f,g⟩:=h;exact⟨i,j,e,f.aG k λb hb=>c b<|by simp[jY,hb],g.aG k λb hb=>c b<|by simp[jY,hb]⟩
def jH (w:World) (T:TypeId):List (Option Nat×Option Nat)->List (List Value)->List Bk->Prop
 |[],[],[]=>True
 |g::gs,v::vs,b::bs=>rX w T g v b/\jH w T gs vs bs
 |_,_,_=>False
theorem jH.aG {T:TypeId} (k:aj L w w'):∀{a:List (Option Nat×Option Nat)} {c:List (List Value)} {bs:List Bk},jH w T a c bs->(∀x,x∈iC a->x∉L)->jH w' T a c bs
 |[],[],[],_,_=>trivial
 |g::gs,v::vs,b::bs,h,hL=>⟨h.1.aG k λx d=>hL x<|by simp[iC,d],jH.aG k h.2 λx d=>hL x (by simp[iC] at d⊢;exact .inr d)⟩
theorem jH.snoc {T:TypeId}:∀{a:List (Option Nat×Option Nat)} {c:List (List Value)} {bs:List Bk} {g:Option Nat×Option Nat} {v:List Value} {b:Bk},jH w T a c bs->rX w T g v b->jH w T (a++[g]) (c++[v]) (bs++[b])
 |[],[],[],_,_,_,_,h=>⟨h,trivial⟩
 |_::_,_::_,_::_,_,_,_,h,k=>⟨h.1,jH.snoc h.2 k⟩
theorem jH.lens {T:TypeId}:∀{c:List (Option Nat×Option Nat)} {a:List (List Value)} {bs:List Bk},jH w T c a bs->c.length=bs.length/\a.length=bs.length/\∀row∈a,row.length=3
 |[],[],[],_=>by simp
 |g::gs,v::vs,b::bs,h=>by
  obtain⟨e,f,i⟩:=jH.lens h.2;refine⟨by simp[e],by simp[f],λrow d=>?_⟩;rcases mC.1 d with rfl|d
  .obtain⟨_,_,rfl,_⟩:=h.1;rfl
  .exact i row d
theorem jH.get {T:TypeId}:∀{a:List (Option Nat×Option Nat)} {c:List (List Value)} {bs:List Bk},jH w T a c bs->∀{i:Nat} {b:Bk},bs[i]?=some b->∃g v,a[i]?=some g/\c[i]?=some v/\rX w T g v b
 |_::_,_::_,_::_,h,0,b,hb=>by simp at hb;subst hb;exact⟨_,_,rfl,rfl,h.1⟩
 |_::gs,_::vs,_::bs,h,i+1,b,hb=>by obtain⟨g,v,d,e,f⟩:=jH.get h.2 (i:=i) (by simpa using hb);exact⟨g,v,by simpa using d,by simpa using e,f⟩
 |[],[],[],_,i,b,hb=>by simp at hb
theorem jH.Ea {T:TypeId}:∀{a:List (Option Nat×Option Nat)} {c:List (List Value)} {bs:List Bk},jH w T a c bs->(∀x,x∈iC a->x∉L)->dG L w c.flatten (bs.map Bk.enc).flatten
 |[],[],[],_,_=>trivial
 |g::gs,v::vs,b::bs,h,hL=>by obtain⟨_,_,rfl,e,f⟩:=h.1;refine⟨.val _,e.rep λb hb=>hL b<|by simp[iC,jY,hb],f.rep λb hb=>hL b<|by simp[iC,jY,hb],?_⟩;exact jH.Ea h.2 λx d=>hL x (by simp[iC] at d⊢;exact .inr d)
structure nY (w:World) (TB TS:TypeId) (v:Value) (g:Option Nat) (gss:List (Option Nat×Option Nat)) (vss:List (List Value)) (bs:List Bk):Prop where
 own:jC w TB 3 v g bs.length vss.flatten
 rows:jH w TS gss vss bs
 nodup:(g.toList++iC gss).Nodup
 lt:∀x,x∈iC gss->x<w.heap.size
theorem nY.aG {e TS:TypeId} {a:List (Option Nat×Option Nat)} {c:List (List Value)} (h:nY w e TS v g a c bs) (k:aj L w w') (f:∀x,x∈g.toList++iC a->x∉L):nY w' e TS v g a c bs:=
 ⟨h.own.aG k λb hb=>f b<|by simp[hb],h.rows.aG k λx d=>f x<|by simp[d],h.nodup,λx d=>lL (h.lt x d) k.size⟩
theorem nY.ext {c TS:TypeId} {a:List (Option Nat×Option Nat)} {b:List (List Value)} (h:nY w c TS v g a b bs) (k:aj [] w w'):nY w' c TS v g a b bs:=h.aG k sm
theorem bg.OU {A B:List Nat} {b:Nat} (h:bg (b::(A++B)) w v t):bg (A++(b::B)) w v t:=jg.fresh h λx a=>.inl<|UA x a
theorem bg.dY (h:bg L w v t) (a:∀x∈L',x∈L):bg L' w v t:=jg.fresh h λx b=>.inl<|a x b
theorem da.dY {t:List aq} (h:da L w v t) (a:∀x∈L',x∈L):da L' w v t:=cj.fresh h λx b=>.inl<|a x b
theorem Gr.trees {T:TypeId} (h:Gr B L w T 2 v g (du ts)):da L w v ts:=h.done
def ja (c:UInt8):Bool:=48<=c&&c<=57
theorem Eb (c:UInt8):ja c=true↔48<=c.toNat/\c.toNat<=57:=by simp[ja,UInt8.le_iff_toNat_le]
def sP (s:ak):Int:=if 0<s.length/\s.getD 0 0=45 then -1 else 1
def fg (s:ak):ak:=if 0<s.length/\s.getD 0 0=45 then s.drop 1 else s
def val (a:ak):Nat:=a.foldl (λn c=>10*n+(c.toNat-48)) 0
def numeral (s:ak):Option Int:=
 if s=[48] then some 0
 else if(fg s).length<1\/3<(fg s).length\/(fg s).getD 0 0=48 then none
 else if(fg s).all ja=true then some (sP s*val (fg s)) else none
theorem UO (a:ak) (c:UInt8):val (a++[c])=10*val a+(c.toNat-48):=by simp[val]
theorem UP:∀(a:ak),a.all ja=true->val a<10^a.length:=by
 intro a;have d:∀(l:ak) (n k:Nat),l.all ja=true->n<10^k->l.foldl (λn c=>10*n+(c.toNat-48)) n<10^(k+l.length):=by
  intro l;induction l with
  |nil=>intro n k _ h;simpa using h
  |cons c l e=>intro n k b h;simp only[List.all_cons,aE] at b;have f:=(Eb c).1 b.1;simp only[List.foldl_cons,lC];have:=e (10*n+(c.toNat-48)) (k+1) b.2 (by rw[Nat.pow_succ];omega);rw[show k+(l.length+1)=k+1+l.length from by omega];exact this
 intro h;have:=d a 0 0 h sm;simpa[val] using this
theorem OV (h:k<s.length):s.take (k+1)=s.take k++[s.getD k 0]:=by simp_all
def bC (t:aq):ak:=if t.au≠[]\/t.ag=[] then[] else match t.ag with
 |[]=>[]
 |p::_=>p.au
def UQ (c:UInt8):Bool:=97<=c&&c<=122
def Ec (s:ak) (i:Nat):Bool:=UQ (s.getD i 0)||(decide (0<i)&&ja (s.getD i 0))
def ph (s:ak):Bool:=(List.range s.length).all (Ec s)&&decide (s≠[])
theorem IH (k c:UInt8):decide ((k.toNat:Int)<=c.toNat)=decide (k<=c):=by simp[UInt8.le_iff_toNat_le]
theorem UR (k c:UInt8):decide ((c.toNat:Int)=k.toNat)=(c==k):=by rw[Bool.eq_iff_iff];simp[<-UInt8.toNat_inj];omega
theorem Ls (s:ak) (k:Nat):((decide ((97:Int)<=(s.getD k 0).toNat)&&decide (((s.getD k 0).toNat:Int)<=122))||((decide ((0:Int)<(k:Int))&&decide ((48:Int)<=(s.getD k 0).toNat))&&decide (((s.getD k 0).toNat:Int)<=57)))=Ec s k:=by have a:=IH 97<|s.getD k 0;have b:=IH (s.getD k 0) 122;have c:=IH 48<|s.getD k 0;have d:=IH (s.getD k 0) 57;simp only[show((97:UInt8).toNat:Int)=97 from rfl,show((122:UInt8).toNat:Int)=122 from rfl,show((48:UInt8).toNat:Int)=48 from rfl,show((57:UInt8).toNat:Int)=57 from rfl] at a b c d;rw[a,b,c,d];unfold Ec UQ ja;rw[show decide ((0:Int)<(k:Int))=decide (0<k) from by simp,Bool.and_assoc]
theorem UT {j:Nat} (a:j<s.length) (h:Ec s j=false):ph s=false:=by grind [ph]
theorem UU (h:∀j,j<s.length->Ec s j=true):ph s=decide (s≠[]):=by grind [ph]
theorem UW {P:Nat->Prop} (h:∀j,j<k->P j) (hk:P k):∀j,j<k+1->P j:=by grind
theorem II (a:t.au=[]) (b:t.ag[0]?=some p):bC t=p.au:=by grind [aq.ag,bC]
theorem Ed (h:t.au≠[]\/t.ag=[]):bC t=[]:=by unfold bC;rw[iP h]
theorem adV (a:s≠[48]) (h:(fg s).length<1\/3<(fg s).length\/(fg s).getD 0 0=48):numeral s=none:=by grind [numeral]
theorem adW (a:s≠[48]) (hk:k<(fg s).length) (h:ja ((fg s).getD k 0)=false):numeral s=none:=by grind [numeral,fg]
theorem adX (b:s≠[48]) (h:1<=(fg s).length/\(fg s).length<=3/\(fg s).getD 0 0≠48) (a:(fg s).all ja=true):numeral s=some (sP s*val (fg s)):=by grind [numeral]
theorem adY (s:ak):sP s=1\/sP s= -1:=by grind [sP]
theorem adZ {a:ak} (h:(!(decide ((1:Int)<=(a.length:Int))&&decide ((a.length:Int)<=3))||decide (((a.getD 0 0).toNat:Int)=48))=true):a.length<1\/3<a.length\/a.getD 0 0=48:=by
 simp only[oE,Bool.not_eq_true',Bool.and_eq_false_iff,decide_eq_false_iff_not,dE] at h;rcases h with(h|h)|h
 .left;omega
 .right;left;omega
 .right;right;exact UInt8.toNat_inj.1 (by have:(48:UInt8).toNat=48:=rfl;rw[this];omega)
theorem ad0 {a:ak} (h:(!(decide ((1:Int)<=(a.length:Int))&&decide ((a.length:Int)<=3))||decide (((a.getD 0 0).toNat:Int)=48))=false):1<=a.length/\a.length<=3/\a.getD 0 0≠48:=by simp only[Bool.or_eq_false_iff,Bool.not_eq_false',aE,decide_eq_false_iff_not,dE] at h;refine⟨by omega,om,λb=>h.2 (by rw[b];rfl)⟩
theorem UY (h:(decide ((c.toNat:Int)<48)||decide ((57:Int)<c.toNat))=true):ja c=false:=by grind [Eb]
theorem UZ (h:(decide ((c.toNat:Int)<48)||decide ((57:Int)<c.toNat))=false):48<=c.toNat/\c.toNat<=57/\ja c=true:=by grind [Eb]
def aq.size:aq->Nat
 | .mk a ps=>1+a.length+sizes ps
 where sizes:List aq->Nat
 |[]=>0
 |t::ts=>t.size+sizes ts
theorem ad1 {ps:List aq}:∀{i:Nat} {p:aq},ps[i]?=some p->p.size<=aq.size.sizes ps:=by
 induction ps with
 |nil=>intro i p h;simp at h
 |cons q ps a=>
  intro i p h;cases i with
  |zero=>simp at h;subst h;simp only[aq.size.sizes];omega
  |succ i=>have:=a (by simpa using h);simp only[aq.size.sizes];omega
theorem IJ {t:aq} (h:t.ag[i]?=some p):p.size<t.size:=by
 cases t with
 |mk a ps=>have:=ad1 (ps:=ps) h;simp only[aq.size];omega
theorem oF:∀t:aq,t.ag.length<t.size
 | .mk a ps=>by
  have:∀l:List aq,l.length<=aq.size.sizes l:=by
   intro l;induction l with
   |nil=>simp[aq.size.sizes]
   |cons q r _=>cases q;simp only[aq.size.sizes,aq.size,lC];omega
  have:=this ps;simp only[aq.ag,aq.size];omega
inductive WF:aq->Prop
 |au (a:ak) (h:a≠[]):WF (.mk a [])
 |list (ps:List aq) (h:ps≠[]) (hp:∀p∈ps,WF p):WF (.mk [] ps)
theorem WF.part (h:WF t) (a:t.ag[i]?=some p):WF p:=by cases h<;>grind [aq.ag]
theorem WF.first (h:WF t) (c:t.au=[]):∃p,t.ag[0]?=some p:=by
 cases h with
 |au a b=>exact absurd c b
 |list ps b _=>
  cases ps with
  |nil=>exact absurd rfl b
  |cons q r=>exact⟨q,rfl⟩
theorem WF.leaf (h:WF t) (b:t.au≠[]):t.ag=[]:=by
 cases h with
 |au a _=>rfl
 |list ps _ _=>exact absurd rfl b
theorem U0 {rd:ak->Option (aq×ak)} (f:∀s t r,rd s=some (t,r)->WF t):∀n s ts r,jt rd n s=some (ts,r)->ts≠[]/\∀p∈ts,WF p
 |0,_,_,_,h=>by simp[jt] at h
 |n+1,s,ts,r,h=>by
  unfold jt at h;cases b:rd s with
  |none=>simp[b] at h
  |some q=>
   obtain⟨t,m⟩:=q;have j:=f s t m b;simp only[b] at h;cases m with
   |nil=>simp at h
   |cons c l=>
    simp only at h;by_cases g:c=41
    .rw[iP g] at h;simp at h;obtain⟨rfl,_⟩:=h;exact⟨by simp,by intro p a;simp at a;subst a;exact j⟩
    .rw[iN g] at h;by_cases i:c=32
     .rw[iP i] at h;cases a:jt rd n l with
      |none=>simp[a] at h
      |some q=>obtain⟨e,d⟩:=q;simp[a] at h;obtain⟨rfl,_⟩:=h;obtain⟨_,o⟩:=U0 f n l e d a;exact⟨by simp,by intro p a;rcases mC.1 a with rfl|a;exact j;exact o p a⟩
     .rw[iN i] at h;cases h
theorem ad2:∀d s t r,eZ d s=some (t,r)->WF t:=by
 have leaf:∀(s:ak) (t:aq) (r:ak),(if s.takeWhile fA=[] then none else some (aq.mk (s.takeWhile fA) [],s.dropWhile fA))=some (t,r)->WF t:=by
  intro s t r h;split at h
  .cases h
  .rename_i g;simp only[Option.some.injEq,Prod.mk.injEq] at h;rw[<-h.1];exact .au _ g
 intro d;induction d with
 |zero=>
  intro s t r h;cases s with
  |nil=>simp[eZ] at h
  |cons c s=>
   simp only[eZ] at h;by_cases a:c=40
   .rw[iP a] at h;cases h
   .rw[iN a] at h;exact leaf _ _ _ h
 |succ d i=>
  intro s t r h;cases s with
  |nil=>simp[eZ] at h
  |cons c s=>
   simp only[eZ] at h;by_cases a:c=40
   .rw[iP a] at h;cases b:jt (eZ d) (s.length+1) s with
    |none=>simp[b] at h
    |some q=>obtain⟨_,_⟩:=q;simp[b] at h;obtain⟨e,f⟩:=U0 i _ _ _ _ b;rw[<-h.1];exact .list _ e f
   .rw[iN a] at h;exact leaf _ _ _ h
theorem wG (h:bT s=some t):WF t:=by grind [bT,eZ,ad2]
theorem U1 {rd:ak->Option (aq×ak)} (f:∀s t r,rd s=some (t,r)->t.size+r.length<=s.length+1):∀n s ts r,jt rd n s=some (ts,r)->aq.size.sizes ts+r.length<=s.length
 |0,_,_,_,h=>by simp[jt] at h
 |n+1,s,ts,r,h=>by
  unfold jt at h;cases b:rd s with
  |none=>simp[b] at h
  |some q=>
   obtain⟨t,l⟩:=q;have m:=f s t l b;simp only[b] at h;cases l with
   |nil=>simp at h
   |cons c j=>
    simp only at h;rw[lC] at m;by_cases g:c=41
    .rw[iP g] at h;simp at h;obtain⟨rfl,rfl⟩:=h;simp only[aq.size.sizes];omega
    .rw[iN g] at h;by_cases i:c=32
     .rw[iP i] at h;cases a:jt rd n j with
      |none=>simp[a] at h
      |some q=>obtain⟨e,d⟩:=q;simp[a] at h;obtain⟨rfl,rfl⟩:=h;have o:=U1 f n j e d a;simp only[aq.size.sizes];omega
     .rw[iN i] at h;cases h
theorem ad3:∀d s t r,eZ d s=some (t,r)->t.size+r.length<=s.length+1:=by
 have leaf:∀(s:ak) (t:aq) (r:ak),(if s.takeWhile fA=[] then none else some (aq.mk (s.takeWhile fA) [],s.dropWhile fA))=some (t,r)->t.size+r.length<=s.length+1:=by
  intro s t r h;split at h
  .cases h
  .simp only[Option.some.injEq,Prod.mk.injEq] at h;obtain⟨rfl,rfl⟩:=h;have a:=Iz fA s;rw[Iy,List.length_drop];simp only[aq.size,aq.size.sizes];omega
 intro d;induction d with
 |zero=>
  intro s t r h;cases s with
  |nil=>simp[eZ] at h
  |cons c s=>
   simp only[eZ] at h;by_cases a:c=40
   .rw[iP a] at h;cases h
   .rw[iN a] at h;exact leaf _ _ _ h
 |succ d e=>
  intro s t r h;cases s with
  |nil=>simp[eZ] at h
  |cons c s=>
   simp only[eZ] at h;by_cases a:c=40
   .rw[iP a] at h;cases b:jt (eZ d) (s.length+1) s with
    |none=>simp[b] at h
    |some q=>obtain⟨_,_⟩:=q;simp[b] at h;have f:=U1 e _ _ _ _ b;obtain⟨rfl,rfl⟩:=h;simp only[aq.size,lC,List.length_nil];omega
   .rw[iN a] at h;exact leaf _ _ _ h
theorem OX (h:bT s=some t):s.length<=12000:=by grind [bT]
theorem B5 (h:bT s=some t):t.size<=12001:=by
 have b:=OX h;unfold bT at h;split at h
 .cases h
 .cases a:eZ 60 s with
  |none=>rw[a] at h;cases h
  |some q=>
   obtain⟨_,r⟩:=q;rw[a] at h;cases r with
   |nil=>simp at h;subst h;have:=ad3 _ _ _ _ a;simp at this;omega
   |cons c r=>cases h
theorem sQ:∀t:aq,t.au.length<t.size
 | .mk a ps=>by simp only[aq.au,aq.size];omega
def ga (b:Bool):aq->Bool
 | .mk a ps=>if a≠[] then decide (a=[105])||(b&&decide (a=[118])) else match ps with
  |[]=>false
  |h::rest=>if h.au=[101] then oneT rest else if h.au=[116]\/h.au=[99] then nZ b rest else false
 where
 oneT:List aq->Bool
  |[]=>false
  |[t]=>ga true t
  |_::_::_=>false
 nZ (b:Bool):List aq->Bool
  |[]=>true
  |t::ts=>ga b t&&nZ b ts
theorem OY (a:Bool):∀ts,ga.nZ a ts=ts.all (ga a)
 |[]=>rfl
 |t::ts=>by simp[ga.nZ,OY a ts]
def nth (a:List aq) (i:Nat):aq:=a.getD i<|.mk [] []
theorem eK (h:i<ps.length):ps[i]?=some (nth ps i):=by grind [nth]
theorem kZ (h:i<t.ag.length):(nth t.ag i).size<t.size:=IJ<|eK h
theorem WF.nth (h:WF t) (a:i<t.ag.length):WF (nth t.ag i):=h.part<|eK a
theorem WF.pos (h:WF t) (a:t.au=[]):0<t.ag.length:=by grind [WF.first]
theorem U2 (h:t.au≠[]) (b:Bool):ga b t=(decide (t.au=[105])||(b&&decide (t.au=[118]))):=by
 cases t with
 |mk a ps=>unfold ga;exact iP h
theorem OZ (c:t.au=[]) (e:0<t.ag.length) (d:(nth t.ag 0).au=[101]) (b:Bool):ga b t=(decide (t.ag.length=2)&&ga true (nth t.ag 1)):=by
 cases t with
 |mk a ps=>
  simp only[aq.au] at c;subst c;cases ps with
  |nil=>simp[aq.ag] at e
  |cons h rest=>
   have f:h.au=[101]:=d;simp only[ga,f,aq.ag,ne_eq,not_true_eq_false,if_false,if_true]
   match rest with
   |[]=>simp[ga.oneT]
   |[p]=>simp[ga.oneT,_root_.Go.Proofs.YtcildnfcpkpomaaGreatDoor.nth]
   |p::q::r=>simp[ga.oneT]
theorem O0 (c:t.au=[]) (g:0<t.ag.length) (f:(nth t.ag 0).au=[116]\/(nth t.ag 0).au=[99]) (b:Bool):ga b t=(t.ag.drop 1).all (ga b):=by
 cases t with
 |mk a ps=>
  simp only[aq.au] at c;subst c;cases ps with
  |nil=>simp[aq.ag] at g
  |cons h rest=>
   have d:h.au=[116]\/h.au=[99]:=f;have e:h.au≠[101]:=by rcases d with h|h<;>rw[h]<;>decide
   simp only[ga,e,d,aq.ag,ne_eq,not_true_eq_false,if_false,if_true,OY,List.drop_one,List.tail_cons]
theorem U3 (e:t.au=[]) (i:0<t.ag.length) (f:(nth t.ag 0).au≠[101]) (g:¬((nth t.ag 0).au=[116]\/(nth t.ag 0).au=[99])) (b:Bool):ga b t=false:=by
 cases t with
 |mk a ps=>
  simp only[aq.au] at e;subst e;cases ps with
  |nil=>simp[aq.ag] at i
  |cons h rest=>have c:h.au≠[101]:=f;have d:¬(h.au=[116]\/h.au=[99]):=g;simp only[ga,c,d,ne_eq,not_true_eq_false,if_false]
theorem U4 {f:aq->Bool} (a:i<ps.length):(ps.drop i).all f=(f (nth ps i)&&(ps.drop<|i+1).all f):=by rw[List.drop_eq_getElem_cons a,List.all_cons];simp[nth,List.getD,gE a]
theorem ad6 {a x y:ak} (h:(decide (a≠x)&&decide (a≠y))=false):a=x\/a=y:=by grind
theorem ad7 {a x y:ak} (h:(decide (a≠x)&&decide (a≠y))=true):¬(a=x\/a=y):=by grind
def uV (a:ak):Int:=match numeral a with
 |some n=>if 0<=n/\n<=39 then n else -1
 |none=> -1
def rj (a:ak):Bool:=decide<|0<=uV a
def jZ (z:Int) (t:aq):Bool:=
 if z=114\/z=42 then rj t.au else if z=110 then(numeral t.au).isSome else if z=108 then ph t.au
 else if z=101 then decide (bC t=[101])&&ga false t else ga false t
theorem U5 {b:Bool} (h:(!b)=false):b=true:=by grind
theorem U6 {b:Bool} (h:(!b)=true):b=false:=by grind
theorem B6 {b:Prop} [Decidable a] [Decidable b] (h:a):decide a=(decide a||decide b):=by grind
theorem B7 {b:Prop} [Decidable a] [Decidable b] (h:¬a):decide b=(decide a||decide b):=by grind
theorem O2 {b c:Prop} [Decidable a] [Decidable b] [Decidable c] (h:a):decide a=(decide a||decide b||decide c):=by grind
theorem O3 {b c:Prop} [Decidable a] [Decidable b] [Decidable c] (h:¬a) (d:b):decide b=(decide a||decide b||decide c):=by grind
theorem O4 {b c:Prop} [Decidable a] [Decidable b] [Decidable c] (h:¬a) (d:¬b):decide c=(decide a||decide b||decide c):=by grind
theorem B8 {b:Prop} [Decidable a] [Decidable b] (h:(decide a||decide b)=true):a\/b:=by simpa using h
theorem B9 {b:Prop} [Decidable a] [Decidable b] (h:(decide a||decide b)=false):¬(a\/b):=by simpa using h
theorem O5 {b c:Prop} [Decidable a] [Decidable b] [Decidable c] (h:(decide a||decide b||decide c)=true):a\/b\/c:=by grind
theorem O6 {b c:Prop} [Decidable a] [Decidable b] [Decidable c] (h:(decide a||decide b||decide c)=false):¬(a\/b\/c):=by grind
def shapeOf (h:ak):ak:=
 if h=[99,111,110,115,116] then[114,110]
 else if h=[109,111,118]\/h=[111,112,101,110] then[114,114]
 else if h=[97,100,100]\/h=[115,117,98]\/h=[109,117,108] then[114,114,114]
 else if h=[110,101,119] then[114,42]
 else if h=[103,101,116] then[114,114,110]
 else if h=[108,97,98]\/h=[122,101,114,111] then[114,108]
 else if h=[112,97,99,107] then[114,114,101,119]
 else if h=[106,117,109,112]\/h=[104,97,108,116] then[114]
 else[]
def O7 (h:ak) (i:Nat):Int:=((h.getD (min i h.length-1) 0).toNat:Int)
def uX (t:aq):Bool:=(decide (shapeOf (bC t)≠[114,42])&&decide (t.ag.length≠(shapeOf<|bC t).length+1))||decide (t.ag.length<2)
def wH (t:aq) (i:Nat):Bool:=jZ (O7 (shapeOf<|bC t) i)<|nth t.ag i
def nj (t:aq):Bool:=if shapeOf (bC t)=[] then false else if uX t then false
 else decide (∀i,i<t.ag.length->1<=i->wH t i=true)&&(decide (bC t≠[103,101,116])||decide (0<=(numeral (nth t.ag 3).au).getD 0))
theorem ad8 (a:h=[103,101,116]):shapeOf h=[114,114,110]:=by rw[a];decide
theorem ad9 (h:uX t=false) (a:bC t=[103,101,116]):t.ag.length=4:=by grind [uX,ad8]
theorem aea (h:uX t=false):2<=t.ag.length:=by grind [uX]
theorem O8 (h:shapeOf (bC t)≠[]):t.au=[]/\0<t.ag.length/\bC t=(nth t.ag 0).au:=by
 have c:bC t≠[]:=λd=>by rw[d] at h;exact h de
 by_cases b:t.au=[]
 .rcases Nat.eq_zero_or_pos t.ag.length with a|a
  .exact absurd (Ed (.inr<|List.length_eq_zero_iff.1 a)) c
  .exact⟨b,a,II b<|eK a⟩
 .exact absurd (Ed<|.inl b) c
theorem aeb (h:ak):(shapeOf h).length<=4:=by grind [shapeOf]
theorem U7 (a:n=t.ag.length):((decide (shapeOf (bC t)≠[114,42])&&decide ((n:Int)≠((shapeOf<|bC t).length:Int)+1))||decide ((n:Int)<2))=uX t:=by grind [uX]
theorem U8 (h:shapeOf (bC t)=[]):nj t=false:=by unfold nj;rw[iP h]
theorem O9 (h:uX t=true):nj t=false:=by grind [nj]
theorem aec (b:i<t.ag.length) (a:1<=i) (h:wH t i=false):nj t=false:=by grind [nj]
theorem aed (a:shapeOf (bC t)≠[]) (b:uX t=false) (h:∀i,i<t.ag.length->1<=i->wH t i=true):
  nj t=(decide (bC t≠[103,101,116])||decide (0<=(numeral (nth t.ag 3).au).getD 0)):=by grind [nj]
theorem aee (h:nj t=true):0<t.ag.length:=by
 unfold nj at h;split at h
 .cases h
 .rename_i a;exact(O8 a).2.1
def seen (f:aq->Bool) (s:ak):Bool:=match bT s with
 |some t=>f t
 |none=>false
theorem Lt {f:aq->Bool} (h:∀a,bT s=some a->t=a):((bT s).isSome&&f t)=seen f s:=by grind [bT,seen]
def Lu (t:aq):Bool:=nj t&&(decide ((nth t.ag 0).au=[106,117,109,112])||decide ((nth t.ag 0).au=[104,97,108,116]))
abbrev uY (s:ak):Bool:=seen (ga false) s
abbrev uZ (s:ak):Bool:=seen nj s
abbrev Gs (s:ak):Bool:=seen Lu s
def nob:Bk:=⟨[],[],[]⟩
abbrev cm (bs:List Bk) (i:Nat):Bk:=bs.getD i nob
theorem l8 (h:i<bs.length):bs[i]?=some (cm bs i):=by grind
def qw (bs:List Bk) (l:ak):Int:=match bs.findIdx? (λb=>decide<|b.aM=l) with
 |some i=>(i:Int)
 |none=> -1
theorem U9 (hk:k<bs.length) (h:∀i,i<k->(cm bs i).aM≠l) (c:(cm bs k).aM=l):qw bs l=(k:Int):=by
 have:bs.findIdx? (λb=>decide<|b.aM=l)=some k:=by rw[List.findIdx?_eq_some_iff_getElem];refine⟨hk,by simpa[gE hk] using c,λj a=>?_⟩;have:=h j a;simpa[gE (Nat.lt_trans a hk)] using this
 unfold qw;rw[this]
theorem aeg (h:∀i,i<bs.length->(cm bs i).aM≠l):qw bs l= -1:=by
 have:bs.findIdx? (λb=>decide<|b.aM=l)=none:=by rw[List.findIdx?_eq_none_iff];intro b hb;obtain⟨i,a,rfl⟩:=List.getElem_of_mem hb;have:=h i a;simpa[gE a] using this
 unfold qw;rw[this]
def tP (code:List ak) (i:Nat):Bool:=uZ (bV code i)&&(Gs (bV code i)==decide (i+1=code.length))
def mo (b:Bk):Bool:=ph b.aM&&decide (b.cQ.length<=40)&&(decide (1<=b.code.length)&&decide (b.code.length<=80))&&
 decide (∀i,i<b.cQ.length->uY (bV b.cQ i)=true)&&decide (∀i,i<b.code.length->tP b.code i=true)
def gP (bs:List Bk):Bool:=decide (∀i,i<bs.length->mo (cm bs i)=true/\qw bs (cm bs i).aM=i)&&
 (decide (1<=bs.length)&&decide (bs.length<=40)&&decide ((cm bs 0).aM=[109,97,105,110])&&decide ((cm bs 0).cQ.length=0))
def lines (bs:List Bk):Nat:=(bs.map λb=>b.code.length).sum
theorem Va (h:(ph b.aM&&decide (b.cQ.length<=40)&&(decide (1<=b.code.length)&&decide (b.code.length<=80)))=false):mo b=false:=by unfold mo;rw[h];rfl
theorem Vb (a:i<b.cQ.length) (h:uY (bV b.cQ i)=false):mo b=false:=by grind [mo]
theorem Vc (a:i<b.code.length) (h:tP b.code i=false):mo b=false:=by grind [tP,mo]
theorem Vd (h:(ph b.aM&&decide (b.cQ.length<=40)&&(decide (1<=b.code.length)&&decide (b.code.length<=80)))=true) (a:∀i,i<b.cQ.length->uY (bV b.cQ i)=true) 
  (c:∀i,i<b.code.length->tP b.code i=true):mo b=true:=by grind [mo]
theorem Ve (b:i<bs.length) (h:¬(mo (cm bs i)=true/\qw bs (cm bs i).aM=i)):gP bs=false:=by unfold gP;rw[dF (p:=∀i:Nat,i<bs.length->mo (cm bs i)=true/\qw bs (cm bs i).aM=i) λa=>h (a i b)];rfl
theorem Vf (h:∀i,i<bs.length->mo (cm bs i)=true/\qw bs (cm bs i).aM=i):
  gP bs=(decide (1<=bs.length)&&decide (bs.length<=40)&&decide ((cm bs 0).aM=[109,97,105,110])&&decide ((cm bs 0).cQ.length=0)):=by grind [gP]
theorem Lw (a:n1=b.cQ.length) (c:n2=b.code.length):(!ph b.aM||decide ((40:Int)<n1)||!(decide ((1:Int)<=n2)&&decide ((n2:Int)<=80)))=
  !(ph b.aM&&decide (b.cQ.length<=40)&&(decide (1<=b.code.length)&&decide (b.code.length<=80))):=by grind
theorem Pa {code:List ak} (b:n=code.length) (a:i<n):(!uZ (bV code i)||(Gs (bV code i) !=decide ((i:Int)=(n:Int)-1)))=!tP code i:=by grind [tP]
def Bk.small (b:Bk):Prop:=b.aM.length<1000000000/\b.cQ.length<1000000000/\b.code.length<1000000000
def mE (bs:List Bk):Prop:=bs.length<1000000000/\∀i,i<bs.length->(cm bs i).small
theorem aeh (b:n=bs.length) (a:0<bs.length->n1=(cm bs 0).cQ.length):
  ((decide ((1:Int)<=n)&&decide ((n:Int)<=40))&&decide ((cm bs 0).aM=[109,97,105,110])&&decide ((n1:Int)=0))=(decide (1<=bs.length)&&decide (bs.length<=40)&&decide ((cm bs 0).aM=[109,97,105,110])&&decide ((cm bs 0).cQ.length=0)):=by grind
theorem aei (s:ak):Lib.trimPrefix s [45]=fg s:=by
 unfold Lib.trimPrefix Lib.hasPrefix fg;cases s with
 |nil=>simp
 |cons c r=>
  by_cases h:c=45
  .subst h;simp
  .have a:((45:UInt8)==c)=false:=by simpa using λb=>h b.symm
   simp[List.isPrefixOf,a,h]
theorem Vg:∀(l:ak) (n:Nat),l.all ja=true->Lib.decFrom n l=some (l.foldl (λn c=>10*n+(c.toNat-48)) n)
 |[],n,_=>rfl
 |c::r,n,h=>by
  simp only[List.all_cons,aE] at h;have a:=(Eb c).1 h.1;have b:Lib.digitVal c=some (c.toNat-48):=by unfold Lib.digitVal;rw[iP a]
  simp only[Lib.decFrom,b,List.foldl_cons];rw[show n*10+(c.toNat-48)=10*n+(c.toNat-48) from by omega];exact Vg r _ h.2
theorem aej (a:l≠[]) (h:l.all ja=true):Lib.decNat l=some (val l):=by unfold Lib.decNat;rw[iN (by simpa using a)];exact Vg l 0 h
theorem aek {z:Int} (h:numeral s=some z):Lib.atoi s=some z:=by
 unfold numeral at h;by_cases e:s=[48]
 .rw[iP e] at h;subst e;rw[<-h];decide
 .rw[iN e] at h;by_cases f:(fg s).length<1\/3<(fg s).length\/(fg s).getD 0 0=48
  .rw[iP f] at h;cases h
  .rw[iN f] at h;by_cases a:(fg s).all ja=true
   .rw[iP a] at h;have m:fg s≠[]:=λi=>f<|.inl (by rw[i];simp);have d:=aej m a;cases s with
    |nil=>exact absurd (by unfold fg;simp) m
    |cons c r=>
     by_cases b:c=45
     .subst b;have g:fg (45::r)=r:=by unfold fg;simp
      have j:sP (45::r)= -1:=by unfold sP;simp
      rw[g] at d h;rw[j] at h;simp only[Lib.atoi,d,beq_self_eq_true,if_true,Option.map_some];rw[<-h];simp
     .have g:fg (c::r)=c::r:=by unfold fg;simp[b]
      have j:sP (c::r)=1:=by unfold sP;simp[b]
      rw[g] at d h a;rw[j] at h;have l:=(Eb c).1 (by simp only[List.all_cons,aE] at a;exact a.1);have n:(c==45)=false:=by simpa using b
      have o:(c==43)=false:=by
       have:c≠43:=λi=>by rw[i] at l;exact absurd l.1 de
       simpa using this
      simp only[Lib.atoi,n,o,d,Bool.false_eq_true,if_false,Option.map_some];rw[<-h];simp
   .rw[iN a] at h;cases h
theorem Vi {z:Int} (h:numeral s=some z):s.length<=4:=by grind [numeral,fg]
theorem ael (s:ak):(decide (s=[48])||(decide (1<=(fg s).length)&&decide ((fg s).length<=3)&&(fg s).all ja&&decide ((fg s).getD 0 0≠48)))=(numeral s).isSome:=by grind [fg,ja,numeral]
theorem aem (s:ak):((numeral s).isSome&&(decide (0<=(numeral s).getD 0)&&decide ((numeral s).getD 0<=39)))=rj s:=by grind [numeral,rj,uV]
theorem aen (hk:k<s.length) (h:ja (s.getD k 0)=false):s.all ja=false:=by grind
theorem aeo (s:ak):(decide (s=[48])||(decide ((1:Int)<=((fg s).length:Int))&&decide (((fg s).length:Int)<=3)&&(fg s).all ja&&decide ((((fg s).getD 0 0).toNat:Int)≠48)))=(numeral s).isSome:=by
 rw[<-ael,show decide ((1:Int)<=((fg s).length:Int))=decide (1<=(fg s).length) from decide_eq_decide.2 om,show decide (((fg s).length:Int)<=3)=decide ((fg s).length<=3) from decide_eq_decide.2 om,
  show decide ((((fg s).getD 0 0).toNat:Int)≠48)=decide ((fg s).getD 0 0≠48) from decide_eq_decide.2 (by
   have b:(48:UInt8).toNat=48:=rfl;constructor
   .intro h a;exact h (by rw[a];rfl)
   .intro h a;exact h (UInt8.toNat_inj.1 om))]
def Ee (a:List aq) (g:aq->Bool):Int:=match a.findIdx? g with
 |some i=>(i:Int)
 |none=> -1
theorem xU (h:i<ts.length):nth ts i=ts[i]:=by grind [nth]
theorem aep {g:aq->Bool} (hk:k<ts.length) (h:∀i,i<k->g (nth ts i)=false) (b:g (nth ts k)=true):Ee ts g=(k:Int):=by
 have:ts.findIdx? g=some k:=by rw[List.findIdx?_eq_some_iff_getElem];refine⟨hk,by rw[<-xU hk];exact b,λj a=>?_⟩;have:=h j a;rw[xU (Nat.lt_trans a hk)] at this;simpa using this
 unfold Ee;rw[this]
theorem aeq {g:aq->Bool} (h:∀i,i<ts.length->g (nth ts i)=false):Ee ts g= -1:=by grind [xU,Ee,List.findIdx?_eq_none_iff,List.getElem_of_mem]
theorem aer (a:List aq) (g:aq->Bool):decide (0<=Ee a g)=a.any g:=by grind [Ee]
def eA (h:ak) (n:Nat):ak:=
 if h=[99,111,110,115,116] then[100,110]
 else if h=[109,111,118]\/h=[111,112,101,110] then[100,115]
 else if h=[97,100,100]\/h=[115,117,98]\/h=[109,117,108] then[100,115,115]
 else if h=[110,101,119] then[100]++List.replicate (n-2) 115
 else if h=[103,101,116] then[100,115,109]
 else if h=[108,97,98] then[100,108]
 else if h=[112,97,99,107] then[100,115,69,87]
 else if h=[122,101,114,111] then[115,108]
 else if h=[106,117,109,112]\/h=[104,97,108,116] then[115]
 else[]
def iD (z:Int) (t:aq):Bool:=
 if z=100\/z=115 then rj t.au else if z=110 then(numeral t.au).isSome
 else if z=109 then(numeral t.au).isSome&&decide (0<=(numeral t.au).getD 0)
 else if z=108 then ph t.au else if z=69 then(decide (t.ag.length=2)&&decide (bC t=[101]))&&ga false t
 else if z=87 then ga false t else false
def nk (t:aq):Bool:=
 if eA (bC t) t.ag.length=[]\/t.ag.length≠(eA (bC t) t.ag.length).length+1 then false
 else decide (∀i,i<(eA (bC t) t.ag.length).length->iD (((eA (bC t) t.ag.length).getD i 0).toNat:Int) (nth t.ag (i+1))=true)
theorem Ly (h:eA (bC t) t.ag.length=[]\/t.ag.length≠(eA (bC t) t.ag.length).length+1):nk t=false:=by unfold nk;rw[iP h]
theorem aes (a:i<(eA (bC t) t.ag.length).length) (h:iD (((eA (bC t) t.ag.length).getD i 0).toNat:Int) (nth t.ag<|i+1)=false):nk t=false:=by grind [nk]
theorem aet (h:¬(eA (bC t) t.ag.length=[]\/t.ag.length≠(eA (bC t) t.ag.length).length+1)) 
  (a:∀i,i<(eA (bC t) t.ag.length).length->iD (((eA (bC t) t.ag.length).getD i 0).toNat:Int) (nth t.ag (i+1))=true):nk t=true:=by grind [nk]
theorem shift {P Q:Nat->Prop} (h:∀i,i<n->(P i↔Q (i+1))):(∀i,i<n->P i)↔(∀i,i<n+1->1<=i->Q i):=by
 constructor
 .intro b i a _;have:=(h (i-1) om).1<|b (i-1) om;rwa [show i-1+1=i from by omega] at this
 .intro c i a;exact(h i a).2 (c (i+1) om om)
theorem Ca (e a:ak) (ex:Nat->aq->Bool) (m:eA (bC t) t.ag.length=e) (g:shapeOf (bC t)=a) (c:e.length=a.length) (l:a≠[]) (f:a≠[114,42]) 
  (n:∀i u,i<a.length->iD ((e.getD i 0).toNat:Int) u=(jZ ((a.getD i 0).toNat:Int) u&&ex i u))
  (q:t.ag.length=a.length+1->(decide (bC t≠[103,101,116])||decide (0<=(numeral (nth t.ag 3).au).getD 0))=decide (∀i,i<a.length->ex i (nth t.ag (i+1))=true)):nk t=nj t:=by
 have r:1<=a.length:=List.length_pos_iff.2 l;have j:e≠[]:=λh=>by rw[h] at c;simp at c;omega
 by_cases d:t.ag.length=a.length+1
 .unfold nk nj uX;rw[m,g,iN (by rw[c];rintro(h|h);exact j h;exact h d),iN l,q d];rw[iN (by rw[dF (p:=t.ag.length≠a.length+1) om,dF (p:=t.ag.length<2) om];simp),<-Bool.decide_and,decide_eq_decide,c,d];rw[<-shift (P:=λi=>jZ ((a.getD i 0).toNat:Int) (nth t.ag<|i+1)=true) λi b=>by
   unfold wH O7;rw[g,show min (i+1) a.length-1=i from by omega]]
  constructor
  .intro h;refine⟨λi b=>?_,λi b=>?_⟩<;>
   .have:=h i b;rw[n i _ b,aE] at this
    first|exact this.1|exact this.2
  .rintro⟨o,hb⟩ i b;rw[n i _ b,o i b,hb i b];rfl
 .rw[Ly<|.inr (by rw[m,c];exact d),O9];unfold uX;rw[g,dT f,dT d];rfl
theorem aev (n:Nat) (u:Nat->aq):decide (∀i,i<n->(fun(_:Nat) (_:aq)=>true) i (u i)=true)=true:=by grind
theorem aew (u:aq):((decide (u.ag.length=2)&&decide (bC u=[101]))&&ga false u)=(decide (bC u=[101])&&ga false u):=by grind [Ed,dG.length,II,eK,OZ]
theorem aex {P:Nat->Prop} (h:n<=4) (a:P 0) (b:2<=n->P 1) (c:3<=n->P 2) (d:4<=n->P 3):∀i,i<n->P i:=by grind
theorem Cb {b a:ak} {ex:Nat->aq->Bool} (g:a.length<=4) (c:∀u,iD ((b.getD 0 0).toNat:Int) u=(jZ ((a.getD 0 0).toNat:Int) u&&ex 0 u)) (d:∀u,2<=a.length->iD ((b.getD 1 0).toNat:Int) u=(jZ ((a.getD 1 0).toNat:Int) u&&ex 1 u)) 
  (e:∀u,3<=a.length->iD ((b.getD 2 0).toNat:Int) u=(jZ ((a.getD 2 0).toNat:Int) u&&ex 2 u)) (f:∀u,4<=a.length->iD ((b.getD 3 0).toNat:Int) u=(jZ ((a.getD 3 0).toNat:Int) u&&ex 3 u)):
  ∀i u,i<a.length->iD ((b.getD i 0).toNat:Int) u=(jZ ((a.getD i 0).toNat:Int) u&&ex i u):=by grind
theorem Pb (u:aq):iD 100 u=rj u.au:=by simp[iD]
theorem Lz (u:aq):iD 115 u=rj u.au:=by simp[iD]
theorem aey (u:aq):iD 110 u=(numeral u.au).isSome:=by simp[iD]
theorem Pc (u:aq):iD 109 u=((numeral u.au).isSome&&decide (0<=(numeral u.au).getD 0)):=by simp[iD]
theorem aez (u:aq):iD 108 u=ph u.au:=by simp[iD]
theorem Pd (u:aq):iD 69 u=((decide (u.ag.length=2)&&decide (bC u=[101]))&&ga false u):=by simp[iD]
theorem aeA (u:aq):iD 87 u=ga false u:=by simp[iD]
theorem Pe (u:aq):jZ 114 u=rj u.au:=by simp[jZ]
theorem aeB (u:aq):jZ 42 u=rj u.au:=by simp[jZ]
theorem Vj (u:aq):jZ 110 u=(numeral u.au).isSome:=by simp[jZ]
theorem aeC (u:aq):jZ 108 u=ph u.au:=by simp[jZ]
theorem aeD (u:aq):jZ 101 u=(decide (bC u=[101])&&ga false u):=by simp[jZ]
theorem aeE (u:aq):jZ 119 u=ga false u:=by simp[jZ]
theorem Gt (u:aq):iD 100 u=(jZ 114 u&&true):=by rw[Pb,Pe,Bool.and_true]
theorem Ef (u:aq):iD 115 u=(jZ 114 u&&true):=by rw[Lz,Pe,Bool.and_true]
theorem aeF (u:aq):iD 110 u=(jZ 110 u&&true):=by rw[aey,Vj,Bool.and_true]
theorem aeG (u:aq):iD 109 u=(jZ 110 u&&decide (0<=(numeral u.au).getD 0)):=by rw[Pc,Vj]
theorem Vk (u:aq):iD 108 u=(jZ 108 u&&true):=by rw[aez,aeC,Bool.and_true]
theorem aeH (u:aq):iD 69 u=(jZ 101 u&&true):=by rw[Pd,aeD,Bool.and_true,aew]
theorem aeI (u:aq):iD 87 u=(jZ 119 u&&true):=by rw[aeA,aeE,Bool.and_true]
theorem aeJ (h:bC t=[110,101,119]):nk t=nj t:=by
 have a:eA (bC t) t.ag.length=[100]++List.replicate (t.ag.length-2) 115:=by rw[h];rfl
 have d:shapeOf (bC t)=[114,42]:=by rw[h];rfl
 have c:(eA (bC t) t.ag.length).length=t.ag.length-2+1:=by rw[a];simp
 by_cases g:2<=t.ag.length
 .unfold nk nj uX;rw[iN (by rw[c];rintro(b|b);(·rw[a] at b;simp at b);(·omega)),d,iN de,
   iN (by rw[dF (p:=t.ag.length<2) om];simp),dT (p:=bC t≠[103,101,116]) (by rw[h];decide),Bool.true_or,Bool.and_true,decide_eq_decide,c]
  rw[show(∀i,i<t.ag.length->1<=i->wH t i=true)↔(∀i,i<(t.ag.length-2+1)+1->1<=i->wH t i=true) from by rw[show t.ag.length-2+1+1=t.ag.length from by omega]];refine shift λi _=>?_;have e:iD (((eA (bC t) t.ag.length).getD i 0).toNat:Int) (nth t.ag<|i+1)=rj (nth t.ag<|i+1).au:=by
   rw[a];cases i with
   |zero=>exact Pb _
   |succ i=>
    have:([100]++List.replicate (t.ag.length-2) (115:UInt8)).getD (i+1) 0=115:=by simp[List.getD,show i<t.ag.length-2 from by omega]
    rw[this];exact Lz _
  have f:wH t (i+1)=rj (nth t.ag<|i+1).au:=by
   unfold wH O7;rw[d];cases i with
   |zero=>exact Pe _
   |succ i=>rw[show min (i+1+1) ([114,42]:ak).length-1=1 from by simp];exact aeB _
  rw[e,f]
 .rw[Ly<|.inr (by rw[c];omega),O9];unfold uX;rw[dT (p:=t.ag.length<2) om,Bool.or_true]
theorem Vl (t:aq):nk t=nj t:=by
 have a:∀{m:ak},bC t≠[103,101,116]->(t.ag.length=m.length+1->(decide (bC t≠[103,101,116])||decide (0<=(numeral (nth t.ag 3).au).getD 0))=decide (∀i,i<m.length->(fun(_:Nat) (_:aq)=>true) i (nth t.ag<|i+1)=true)):=by intro m h _;rw[aev _ λi=>nth t.ag<|i+1,dT h];rfl
 by_cases c1:bC t=[99,111,110,115,116]
 .exact Ca [100,110] [114,110] (λ_ _=>true) (by rw[c1];rfl) (by rw[c1];rfl) rfl de de
   (Cb de (λu=>Gt u) (λu _=>aeF u) (λ_ h=>absurd h de) λ_ h=>absurd h de) (a (by rw[c1];decide))
 by_cases c2:bC t=[109,111,118]\/bC t=[111,112,101,110]
 .exact Ca [100,115] [114,114] (λ_ _=>true) (by rcases c2 with c|c<;>rw[c]<;>rfl) (by rcases c2 with c|c<;>rw[c]<;>rfl) rfl de de
   (Cb de (λu=>Gt u) (λu _=>Ef u) (λ_ h=>absurd h de) λ_ h=>absurd h de) (a (by rcases c2 with c|c<;>rw[c]<;>decide))
 by_cases b:bC t=[97,100,100]\/bC t=[115,117,98]\/bC t=[109,117,108]
 .exact Ca [100,115,115] [114,114,114] (λ_ _=>true) (by rcases b with c|c|c<;>rw[c]<;>rfl) (by rcases b with c|c|c<;>rw[c]<;>rfl) rfl de de
   (Cb de (λu=>Gt u) (λu _=>Ef u) (λu _=>Ef u) λ_ h=>absurd h de) (a (by rcases b with c|c|c<;>rw[c]<;>decide))
 by_cases l:bC t=[110,101,119]
 .exact aeJ l
 by_cases d:bC t=[103,101,116]
 .refine Ca [100,115,109] [114,114,110] (λi u=>if i=2 then decide (0<=(numeral u.au).getD 0) else true) (by rw[d];rfl) (by rw[d];rfl) rfl de de
   (Cb de (λu=>Gt u) (λu _=>Ef u) (λu _=>aeG u) λ_ h=>absurd h de) λ_=>?_
  rw[show decide (bC t≠[103,101,116])=false from dF λh=>h d,Bool.false_or];refine decide_eq_decide.2 ⟨λh=>aex de rfl (λ_=>rfl) (λ_=>by simpa using h) λh=>by simp at h,λh=>by simpa using h 2 de⟩
 by_cases e:bC t=[108,97,98]
 .exact Ca [100,108] [114,108] (λ_ _=>true) (by rw[e];rfl) (by rw[e];rfl) rfl de de
   (Cb de (λu=>Gt u) (λu _=>Vk u) (λ_ h=>absurd h de) λ_ h=>absurd h de) (a (by rw[e];decide))
 by_cases f:bC t=[112,97,99,107]
 .exact Ca [100,115,69,87] [114,114,101,119] (λ_ _=>true) (by rw[f];rfl) (by rw[f];rfl) rfl de de
   (Cb de (λu=>Gt u) (λu _=>Ef u) (λu _=>aeH u) λu _=>aeI u) (a (by rw[f];decide))
 by_cases g:bC t=[122,101,114,111]
 .exact Ca [115,108] [114,108] (λ_ _=>true) (by rw[g];rfl) (by rw[g];rfl) rfl de de
   (Cb de (λu=>Ef u) (λu _=>Vk u) (λ_ h=>absurd h de) λ_ h=>absurd h de) (a (by rw[g];decide))
 by_cases j:bC t=[106,117,109,112]\/bC t=[104,97,108,116]
 .exact Ca [115] [114] (λ_ _=>true) (by rcases j with c|c<;>rw[c]<;>rfl) (by rcases j with c|c<;>rw[c]<;>rfl) rfl de de
   (Cb de (λu=>Ef u) (λ_ h=>absurd h de) (λ_ h=>absurd h de) λ_ h=>absurd h de) (a (by rcases j with c|c<;>rw[c]<;>decide))
 .have n:eA (bC t) t.ag.length=[]:=by unfold eA;rw[iN c1,iN c2,iN b,iN l,iN d,iN e,iN f,iN g,iN j]
  have o:shapeOf (bC t)=[]:=by unfold shapeOf;rw[iN c1,iN c2,iN b,iN l,iN d,iN (λh=>by rcases h with h|h;exact e h;exact g h),iN f,iN j]
  rw[Ly<|.inl n,U8 o]
theorem aeK (h:ak) (n:Nat):(eA h n).length<=n+4:=by grind [eA]
theorem Pf (h:WF t):2<=t.size:=by
 cases h with
 |au a b=>have:=List.length_pos_iff.2 b;simp only[aq.size];omega
 |list ps c _=>
  cases ps with
  |nil=>exact absurd rfl c
  |cons q r=>cases q;simp only[aq.size,aq.size.sizes];omega
theorem Vm:∀{ps:List aq},(∀p∈ps,WF p)->2*ps.length<=aq.size.sizes ps
 |[],_=>by simp[aq.size.sizes]
 |q::ps,h=>by have b:=Pf<|h q sm;have c:=Vm (ps:=ps) λp a=>h p (by simp[a]);simp only[aq.size.sizes,lC];omega
theorem Vn (h:WF t):2*t.ag.length+1<=t.size:=by cases h<;>grind [aq.ag,aq.size,Vm]
def IK (t:aq):Bool:=decide (bC t=[106,117,109,112])||decide (bC t=[104,97,108,116])
theorem aeL (h:nj t=true):bC t=(nth t.ag 0).au:=by grind [nj,bC,nth,aq.ag,O8]
theorem aeM (h:nj t=true):Lu t=IK t:=by unfold Lu IK;rw[h,aeL h];rfl
inductive Good:aq->Prop
 |au (a:ak) (h:a≠[]) (hb:a.all fA=true):Good (.mk a [])
 |list (ps:List aq) (h:ps≠[]) (hp:∀p∈ps,Good p):Good (.mk [] ps)
theorem Good.wf (h:Good t):WF t:=by
 induction h with
 |au a h _=>exact .au a h
 |list ps h _ b=>exact .list ps h b
theorem Good.part (h:Good t) (b:t.ag[i]?=some p):Good p:=by
 cases h with
 |au a _ _=>simp[aq.ag] at b
 |list ps _ c=>exact c p<|List.mem_of_getElem? b
theorem Good.nth (h:Good t) (a:i<t.ag.length):Good (nth t.ag i):=h.part<|eK a
def aq.depth:aq->Nat
 | .mk _ ps=>deeps ps
 where deeps:List aq->Nat
 |[]=>0
 |t::ts=>max (t.depth+1)<|deeps ts
theorem Vo:∀{p:aq},p∈ps->p.depth+1<=aq.depth.deeps ps:=by
 induction ps with
 |nil=>intro p h;simp at h
 |cons q ps a=>
  intro p h;rcases mC.1 h with rfl|h
  .simp only[aq.depth.deeps];omega
  .have:=a h;simp only[aq.depth.deeps];omega
theorem LA:∀{ps:List aq},(∀p∈ps,p.depth+1<=d)->aq.depth.deeps ps<=d
 |[],_=>by simp[aq.depth.deeps]
 |q::ps,h=>by have b:=h q sm;have c:=LA (ps:=ps) λp a=>h p (by simp[a]);simp only[aq.depth.deeps];omega
theorem sR {a:ak} (h:a≠[]):(aq.mk a ps).text=a:=by simp[aq.text,h]
theorem tQ (a:List aq):(aq.mk [] a).text=40::(mn a++[41]):=by simp[aq.text]
theorem rY (t:aq):mn [t]=t.text:=by simp[mn]
theorem rZ (t u:aq) (r:List aq):mn (t::u::r)=t.text++32::mn (u::r):=by simp[mn]
theorem Vp {rd:ak->Option (aq×ak)} (i:∀s t r,rd s=some (t,r)->s=t.text++r):∀n s ts r,jt rd n s=some (ts,r)->ts≠[]/\s=mn ts++41::r
 |0,_,_,_,h=>by simp[jt] at h
 |n+1,s,ts,r,h=>by
  unfold jt at h;cases f:rd s with
  |none=>simp[f] at h
  |some q=>
   obtain⟨t,m⟩:=q;have j:=i s t m f;simp only[f] at h;cases m with
   |nil=>simp at h
   |cons c l=>
    simp only at h;by_cases b:c=41
    .rw[iP b] at h;simp at h;obtain⟨rfl,rfl⟩:=h;exact⟨by simp,by rw[j,b,rY]⟩
    .rw[iN b] at h;by_cases d:c=32
     .rw[iP d] at h;cases e:jt rd n l with
      |none=>simp[e] at h
      |some q=>
       obtain⟨a,g⟩:=q;simp[e] at h;obtain⟨rfl,rfl⟩:=h;obtain⟨o,p⟩:=Vp i n l a g e;cases a with
       |nil=>exact absurd rfl o
       |cons u _=>exact⟨by simp,by rw[j,d,rZ,p];simp⟩
     .rw[iN d] at h;cases h
theorem aeN:∀d s t r,eZ d s=some (t,r)->s=t.text++r:=by
 have leaf:∀(s:ak) (t:aq) (r:ak),(if s.takeWhile fA=[] then none else some (aq.mk (s.takeWhile fA) [],s.dropWhile fA))=some (t,r)->s=t.text++r:=by
  intro s t r h;split at h
  .cases h
  .rename_i f;simp only[Option.some.injEq,Prod.mk.injEq] at h;rw[<-h.1,<-h.2,sR f,List.takeWhile_append_dropWhile]
 intro d;induction d with
 |zero=>
  intro s t r h;cases s with
  |nil=>simp[eZ] at h
  |cons c s=>
   simp only[eZ] at h;by_cases a:c=40
   .rw[iP a] at h;cases h
   .rw[iN a] at h;exact leaf _ _ _ h
 |succ d g=>
  intro s t r h;cases s with
  |nil=>simp[eZ] at h
  |cons c s=>
   simp only[eZ] at h;by_cases a:c=40
   .rw[iP a] at h;cases b:jt (eZ d) (s.length+1) s with
    |none=>simp[b] at h
    |some q=>obtain⟨_,_⟩:=q;simp[b] at h;obtain⟨_,e⟩:=Vp g _ _ _ _ b;rw[<-h.1,<-h.2,tQ,a,e];simp
   .rw[iN a] at h;exact leaf _ _ _ h
theorem Vq {rd:ak->Option (aq×ak)} (d:Nat) (g:∀s t r,rd s=some (t,r)->Good t/\t.depth<=d):∀n s ts r,jt rd n s=some (ts,r)->ts≠[]/\∀p∈ts,Good p/\p.depth<=d
 |0,_,_,_,h=>by simp[jt] at h
 |n+1,s,ts,r,h=>by
  unfold jt at h;cases b:rd s with
  |none=>simp[b] at h
  |some q=>
   obtain⟨t,o⟩:=q;have l:=g s t o b;simp only[b] at h;cases o with
   |nil=>simp at h
   |cons c m=>
    simp only at h;by_cases i:c=41
    .rw[iP i] at h;simp at h;obtain⟨rfl,_⟩:=h;exact⟨by simp,by intro p a;simp at a;subst a;exact l⟩
    .rw[iN i] at h;by_cases j:c=32
     .rw[iP j] at h;cases a:jt rd n m with
      |none=>simp[a] at h
      |some q=>obtain⟨f,e⟩:=q;simp[a] at h;obtain⟨rfl,_⟩:=h;obtain⟨_,u⟩:=Vq d g n m f e a;exact⟨by simp,by intro p a;rcases mC.1 a with rfl|a;exact l;exact u p a⟩
     .rw[iN j] at h;cases h
theorem all_takeWhile (p:UInt8->Bool):∀s:ak,(s.takeWhile p).all p=true:=by simp_all
theorem aeO:∀d s t r,eZ d s=some (t,r)->Good t/\t.depth<=d:=by
 have leaf:∀(d:Nat) (s:ak) (t:aq) (r:ak),(if s.takeWhile fA=[] then none else some (aq.mk (s.takeWhile fA) [],s.dropWhile fA))=some (t,r)->Good t/\t.depth<=d:=by
  intro d s t r h;split at h
  .cases h
  .rename_i g;simp only[Option.some.injEq,Prod.mk.injEq] at h;rw[<-h.1];exact⟨.au _ g<|all_takeWhile _ _,by simp[aq.depth,aq.depth.deeps]⟩
 intro d;induction d with
 |zero=>
  intro s t r h;cases s with
  |nil=>simp[eZ] at h
  |cons c s=>
   simp only[eZ] at h;by_cases b:c=40
   .rw[iP b] at h;cases h
   .rw[iN b] at h;exact leaf _ _ _ _ h
 |succ d i=>
  intro s t r h;cases s with
  |nil=>simp[eZ] at h
  |cons c s=>
   simp only[eZ] at h;by_cases b:c=40
   .rw[iP b] at h;cases a:jt (eZ d) (s.length+1) s with
    |none=>simp[a] at h
    |some q=>obtain⟨_,_⟩:=q;simp[a] at h;obtain⟨f,e⟩:=Vq d i _ _ _ _ a;rw[<-h.1];exact⟨.list _ f λp a=>(e p a).1,LA λp a=>by have:=(e p a).2;omega⟩
   .rw[iN b] at h;exact leaf _ _ _ _ h
def Stop (r:ak):Prop:=∀c,r[0]?=some c->fA c=false
theorem Pg {p:UInt8->Bool}:∀{a r:ak},a.all p=true->(∀c,r[0]?=some c->p c=false)->(a++r).takeWhile p=a/\(a++r).dropWhile p=r
 |[],[],_,_=>⟨rfl,rfl⟩
 |[],c::r,_,h=>by have:=h c rfl;simp[this]
 |c::a,r,ha,h=>by simp only[List.all_cons,aE] at ha;obtain⟨b,d⟩:=Pg (a:=a) ha.2 h;simp[ha.1,b,d]
theorem Vr (h:Good t):∃c r,t.text=c::r:=by
 cases h with
 |au a b _=>
  rw[sR b];cases a with
  |nil=>exact absurd rfl b
  |cons c r=>exact⟨c,r,rfl⟩
 |list ps _ _=>exact⟨_,_,tQ ps⟩
theorem Vs {rd:ak->Option (aq×ak)}:∀(ts:List aq) (n:Nat) (r:ak),ts≠[]->ts.length<=n->(∀t∈ts,∀r,Stop r->rd (t.text++r)=some (t,r))->jt rd n (mn ts++41::r)=some (ts,r)
 |[],_,_,h,_,_=>absurd rfl h
 |[t],n,r,_,b,h=>by
  cases n with
  |zero=>simp at b
  |succ n=>unfold jt;rw[rY,h t sm (41::r) (by intro c a;simp at a;subst a;decide)];simp
 |t::u::us,n,r,_,b,h=>by
  cases n with
  |zero=>simp at b
  |succ n=>unfold jt;rw[rZ,List.append_assoc,List.cons_append,h t sm (32::(mn (u::us)++41::r)) (by intro c a;simp at a;subst a;decide)];have:=Vs (rd:=rd) (u::us) n r sm (by simp at b⊢;omega) λt d=>h t (by simp at d⊢;exact .inr d);simp[this]
theorem Vt:∀ts:List aq,(∀t∈ts,Good t)->ts.length<=(mn ts).length
 |[],_=>by simp
 |[t],h=>by obtain⟨c,r,e⟩:=Vr<|h t sm;rw[rY,e];simp
 |t::u::us,h=>by have:=Vt (u::us) λt a=>h t (by simp at a⊢;exact .inr a);rw[rZ];simp at this⊢;omega
theorem Ph:∀(d:Nat) (t:aq) (r:ak),Good t->t.depth<=d->Stop r->eZ d (t.text++r)=some (t,r):=by
 intro d;induction d with
 |zero=>
  intro t r l j i;cases l with
  |au a g hb=>
   obtain⟨c,b,rfl⟩:∃c b,a=c::b:=by cases a with|nil=>exact absurd rfl g|cons c r=>exact⟨c,r,rfl⟩
   rw[sR g,List.cons_append,IB 0 c _ (by rintro rfl;simp at hb;exact absurd hb.1 de)];obtain⟨e,f⟩:=Pg hb i;rw[List.cons_append] at e f;rw[e,f,iN sm]
  |list ps m n=>
   cases ps with
   |nil=>exact absurd rfl m
   |cons q ps=>simp[aq.depth,aq.depth.deeps] at j
 |succ d p=>
  intro t r l j i;cases l with
  |au a g hb=>
   obtain⟨c,b,rfl⟩:∃c b,a=c::b:=by cases a with|nil=>exact absurd rfl g|cons c r=>exact⟨c,r,rfl⟩
   rw[sR g,List.cons_append,IB (d+1) c _ (by rintro rfl;simp at hb;exact absurd hb.1 de)];obtain⟨e,f⟩:=Pg hb i;rw[List.cons_append] at e f;rw[e,f,iN sm]
  |list ps m n=>
   rw[tQ,List.cons_append,Gp];have:=Vs (rd:=eZ d) ps ((mn ps++[41]++r).length+1) r m (by have:=Vt ps n;simp at this⊢;omega)
    λt o r i=>p t r (n t o) (by have:=Vo o;simp only[aq.depth] at j;omega) i
   unfold oD;rw[show rT (d+1)=eZ d from funext λ_=>rfl];rw[show mn ps++[41]++r=mn ps++41::r from by simp] at this⊢;rw[this];rfl
theorem LB {u:aq} (h:Good t) (k:Good u) (e:t.text=u.text):t=u:=by have a:=Ph (max t.depth u.depth) t [] h om (by intro c b;simp at b);have d:=Ph (max t.depth u.depth) u [] k om (by intro c b;simp at b);rw[e,d] at a;simp at a;exact a.symm
theorem wI (h:bT s=some t):Good t/\t.depth<=60/\t.text=s/\s.length<=12000:=by
 have e:=OX h;unfold bT at h;split at h
 .cases h
 .cases a:eZ 60 s with
  |none=>rw[a] at h;cases h
  |some q=>
   obtain⟨_,r⟩:=q;rw[a] at h;cases r with
   |nil=>simp at h;subst h;have b:=aeO _ _ _ _ a;have d:=aeN _ _ _ _ a;exact⟨b.1,b.2,by rw[d];simp,e⟩
   |cons c r=>cases h
theorem aeP (h:Good t):bT t.text=if t.depth<=60/\t.text.length<=12000 then some t else none:=by
 split
 .rename_i a;unfold bT;have:=Ph 60 t [] h a.1 (by intro c a;simp at a);rw[List.append_nil] at this;rw[iN om,this]
 .rename_i a;cases g:bT t.text with
  |none=>rfl
  |some u=>obtain⟨b,d,e,f⟩:=wI g;have:=LB b h e;subst this;exact absurd ⟨d,f⟩ a
theorem Pj (h:Good t) (a:t.depth<=60) (b:t.text.length<=12000):bT t.text=some t:=by grind [aeP]
theorem aeQ:∀{p:aq},p∈ps->p.text.length<=(mn ps).length:=by
 induction ps with
 |nil=>intro p h;simp at h
 |cons q ps a=>
  intro p h;cases ps with
  |nil=>simp at h;subst h;rw[rY];exact lR _
  |cons u _=>
   rw[rZ];rcases mC.1 h with rfl|h
   .simp
   .have:=a h;simp at this⊢;omega
theorem Good.sub (h:Good t) (b:t.ag[i]?=some p):Good p/\p.depth+1<=t.depth/\p.text.length+2<=t.text.length:=by
 refine⟨h.part b,?_,?_⟩
 .cases t with
  |mk a ps=>exact Vo<|List.mem_of_getElem? b
 .cases h with
  |au a _ _=>simp[aq.ag] at b
  |list ps _ _=>have:=aeQ<|List.mem_of_getElem? b;rw[tQ];simp;exact this
def aq.len:aq->Nat
 | .mk a ps=>if ps=[] then a.length else 1+lens ps
 where lens:List aq->Nat
 |[]=>0
 |t::ts=>t.len+1+lens ts
theorem Vu:∀ps:List aq,ps≠[]->(∀p∈ps,p.len=p.text.length)->aq.len.lens ps=(mn ps).length+1
 |[],h,_=>absurd rfl h
 |[t],_,h=>by rw[rY];simp only[aq.len.lens,h t sm]
 |t::u::us,_,h=>by have:=Vu (u::us) sm λp a=>h p (by simp at a⊢;exact .inr a);rw[rZ];simp only[aq.len.lens,h t sm,lA,lC] at this⊢;omega
theorem Cc (h:WF t):t.len=t.text.length:=by
 induction h with
 |au a c=>rw[sR c];simp[aq.len]
 |list ps b _ d=>rw[tQ];simp only[aq.len,b,if_false,Vu ps b d,lC,lA,List.length_nil];omega
structure cw where
 aM:ak
 regs:List aq
 code:List aq
def tr (s:ak):aq:=(bT s).getD<|.mk [] []
theorem LC (h:bT s=some t):tr s=t:=by unfold tr;rw[h];rfl
def dz (b:Bk):cw:=⟨b.aM,b.cQ.map tr,b.code.map tr⟩
def Eg (b:Bk):Bool:=decide<|b.aM.length<=12000
def pM (b:Bk):Bool:=mo b&&Eg b
def iU (bs:List Bk):Bool:=gP bs&&bs.all Eg
def bK (a:ak):aq:=.mk a []
def mF (h:ak) (a:List aq):aq:=.mk [] (bK h::a)
def r5 (a:List ak):ak:=a.flatMap λp=>32::p
def eN (h:ak) (a:List ak):ak:=40::(h++r5 a++[41])
theorem Vv (t:aq):∀ts:List aq,mn (t::ts)=t.text++r5 (ts.map aq.text)
 |[]=>by rw[rY];simp[r5]
 |u::us=>by rw[rZ,Vv u us];simp[r5]
theorem Vw (b:h≠[]) (a:List aq):(mF h a).text=eN h (a.map aq.text):=by unfold mF eN;rw[tQ,Vv];simp[bK,sR b]
theorem LD (b:h≠[]) (c:h.all fA=true) (d:∀t∈ts,Good t):Good (mF h ts):=by
 refine .list _ sm λp a=>?_;rcases mC.1 a with rfl|a
 .exact .au _ b c
 .exact d p a
theorem LF (h:mo b=true):ph b.aM=true/\(∀s∈b.cQ,∃t,bT s=some t/\ga false t=true)/\∀s∈b.code,∃t,bT s=some t/\nj t=true:=by
 unfold mo at h;simp only[aE,dE] at h;obtain⟨⟨⟨⟨e,_⟩,_⟩,f⟩,g⟩:=h;refine⟨e,λs d=>?_,λs d=>?_⟩
 .obtain⟨i,a,rfl⟩:=List.getElem_of_mem d;have:=f i a;rw[bV,gG,gE a] at this;simp only[Option.getD_some] at this;unfold uY seen at this;cases c:bT b.cQ[i] with
  |none=>rw[c] at this;cases this
  |some t=>rw[c] at this;exact⟨t,rfl,this⟩
 .obtain⟨i,a,rfl⟩:=List.getElem_of_mem d;have:=g i a;unfold tP at this;rw[aE] at this;have:=this.1;rw[bV,gG,gE a] at this;simp only[Option.getD_some] at this;unfold uZ seen at this;cases c:bT b.code[i] with
  |none=>rw[c] at this;cases this
  |some t=>rw[c] at this;exact⟨t,rfl,this⟩
theorem Cd (h:gP bs=true):∀b∈bs,mo b=true:=by grind [gP,List.getElem_of_mem,gE]
def sS (t:aq):Bool:=decide (t.depth<=60)&&decide (t.len<=12000)
def Au:List aq->ak
 |[]=>[]
 |h::_=>h.au
mutual
def dW (y:aq):aq->aq
 | .mk a ps=>if a=[118] then y else if a≠[]\/Au ps=[101] then .mk a ps else .mk [] (Av y ps)
def Av (y:aq):List aq->List aq
 |[]=>[]
 |t::ts=>dW y t::Av y ts
end
theorem LG (y:aq):∀ps,Av y ps=ps.map (dW y)
 |[]=>by simp[Av]
 |t::ts=>by simp[Av,LG y ts]
theorem Pl (a:List aq):bC (.mk [] a)=Au a:=by cases a<;>simp[bC,Au,aq.au,aq.ag]
theorem Pm (f:Good y) (h:Good t):Good (dW y t):=by
 induction h with
 |au a b hb=>
  unfold dW;split
  .exact f
  .rw[iP (.inl b)];exact .au a b hb
 |list ps c e g=>
  unfold dW;rw[iN de];split
  .exact .list ps c e
  .rw[LG];refine .list _ (by simpa using c) λp i=>?_;obtain⟨q,d,rfl⟩:=List.mem_map.1 i;exact g q d
/-! ### States -/
abbrev TS:=List<|Option aq
def iT:aq:=bK [105]
def ie (a:ak):Nat:=(uV a).toNat
def eV (b:TS) (a:ak):Option aq:=b.getD (ie a) none
def xV (x y:aq):Bool:=decide<|x.text=y.text
def tR (o:Option aq) (y:aq):Bool:=match o with
 |some x=>xV x y
 |none=>false
def meets (b:TS) (a:List aq):Bool:=decide (∀i,i<a.length->tR (b.getD i none) (nth a i)=true)
def bQ (p:List cw) (l:ak):Option (List aq):=(p.find? λb=>decide<|b.aM=l).map cw.regs
def xW (a:ak):Int:=(numeral a).getD 0
def aS (n:Nat):ak:=if n<10 then[UInt8.ofNat (48+n)] else aS (n/10)++[UInt8.ofNat (48+n%10)]
 termination_by n
def mq (p:List cw) (b:TS) (opens:Nat) (t:aq):Option aq:=
 let h:=bC t;let a (i:Nat):=(nth t.ag i).au
 if h=[99,111,110,115,116] then some iT
 else if h=[109,111,118] then eV b (a 2)
 else if h=[97,100,100]\/h=[115,117,98]\/h=[109,117,108] then(if tR (eV b<|a 2) iT&&tR (eV b<|a 3) iT then some iT else none)
 else if h=[103,101,116] then(eV b<|a 2).bind λk=>if bC k=[116]/\xW (a 3)+1<k.ag.length then some (nth k.ag (xW (a 3)+1).toNat) else none
 else if h=[108,97,98] then(bQ p<|a 2).map (mF [99])
 else if h=[112,97,99,107] then(eV b<|a 2).bind λx=>if xV x (dW (nth t.ag 4)<|nth (nth t.ag 3).ag 1) then some (nth t.ag 3) else none
 else if h=[111,112,101,110] then(eV b<|a 2).bind λk=>if bC k=[101] then some (dW (bK (97::aS opens))<|nth k.ag 1) else none
 else none
def eW (a:TS) (d:Nat) (o:Option aq):Option TS:=o.bind λt=>if sS t then some (a.set d<|some t) else none
def nZ (a:TS):List aq->Option (List aq)
 |[]=>some []
 |u::us=>(eV a u.au).bind λx=>(nZ a us).map λxs=>x::xs
def stepT (p:List cw) (a:TS) (opens:Nat) (t:aq):Option TS:=
 let h:=bC t;let b:=(nth t.ag 1).au
 if h=[104,97,108,116] then(eV a b).map λ_=>a
 else if h=[106,117,109,112] then(eV a b).bind λk=>if bC k=[99]/\meets a (k.ag.drop 1)=true then some a else none
 else if h=[122,101,114,111] then(bQ p (nth t.ag 2).au).bind λc=>if tR (eV a b) iT&&meets a c then some a else none
 else if h=[110,101,119] then eW a (ie b) ((nZ a<|t.ag.drop 2).map<|mF [116])
 else eW a (ie b) (mq p a opens t)
def tS (opens:Nat) (t:aq):Nat:=if bC t=[111,112,101,110] then opens+1 else opens
def wJ (p:List cw) (b:TS) (opens:Nat):List aq->TS×Nat
 |[]=>(b,0)
 |t::ts=>match stepT p b opens t with
  |none=>(b,0)
  |some a=>((wJ p a (tS opens t) ts).1,(wJ p a (tS opens t) ts).2+1)
def Ce (b:cw):TS:=(List.range 40).map λi=>if i<b.regs.length then some (nth b.regs i) else none
def Eh (p:List cw) (b:cw):Nat:=(wJ p (Ce b) 0 b.code).2
def Aw (p:List cw) (b:cw):Bool:=decide<|Eh p b=b.code.length
theorem aeR (h:Lib.hasPrefix s [40]=true):∃r,s=40::r:=by
 cases s with
 |nil=>simp[Lib.hasPrefix,List.isPrefixOf] at h
 |cons c r=>simp[Lib.hasPrefix,List.isPrefixOf] at h;exact⟨r,by rw[h]⟩
theorem aeS (h:Lib.hasPrefix s [40]=false):∀c r,s=c::r->c≠40:=by rintro c r rfl rfl;simp[Lib.hasPrefix,List.isPrefixOf] at h
theorem aeT (h:Lib.hasPrefix s [40]=false) (d:Nat):eZ d s=if s.takeWhile fA=[] then none else some (.mk (s.takeWhile fA) [],s.dropWhile fA):=by
 cases s with
 |nil=>rw[Ux];simp
 |cons c r=>rw[IB d c r (aeS h c r rfl)]
theorem aeU (h:eZ d s=none):oD (d+1) s=none:=by rw[IA];show(match eZ d s with|none=>none|some (t,r)=>_)=none;rw[h]
theorem aeV (h:eZ d s=some (t,[])):oD (d+1) s=none:=by rw[IA];show(match eZ d s with|none=>none|some (t,r)=>_)=none;rw[h]
theorem Vx (h:eZ d s=some (t,c::r)):oD (d+1) s=if c=41 then some ([t],r) else if c=32 then(oD (d+1) r).map λp=>(t::p.1,p.2) else none:=by rw[IA];show(match eZ d s with|none=>none|some (t,r)=>_)=_;rw[h]
theorem Pn:(s.drop k).take (s.length-k)=s.drop k:=List.take_of_length_le sm
theorem LH (hk:k<256):decide ((c.toNat:Int)≠(k:Int))=decide (c≠UInt8.ofNat k):=decide_eq_decide.2 (by
 have e:(UInt8.ofNat k).toNat=k:=by simp;omega
 constructor
 .intro h a;rw[a,e] at h;exact h rfl
 .intro h a;exact h (UInt8.toNat_inj.1 (by rw[e];omega)))
def Cf (d:Nat) (s:ak) (t:aq) (r:ak) (ok:Bool):Prop:=(eZ d s=some (t,r)/\ok=true)\/(eZ d s=none/\ok=false)
theorem Cf.le {ok:Bool} (h:Cf d s t r ok) (a:ok=true):eZ d s=some (t,r)/\r.length<s.length:=by
 rcases h with⟨h,_⟩|⟨_,h⟩
 .obtain⟨k,_,_,rfl⟩:=Lh d s t r h;exact⟨h,by simp;omega⟩
 .rw[a] at h;cases h
theorem aeW {ok:Bool} (e:Cf d s t r ok) (h:((!ok||decide (r=[]))||(decide (((r.getD 0 0).toNat:Int)≠32)&&decide (((r.getD 0 0).toNat:Int)≠41)))=true):oD (d+1) s=none:=by
 rcases e with⟨hr,rfl⟩|⟨hr,rfl⟩
 .cases r with
  |nil=>exact aeV hr
  |cons c r=>rw[Vx hr];simp only[Bool.not_true,Bool.false_or,List.getD_cons_zero,show decide (c::r=[])=false from by simp] at h;rw[show(32:Int)=((32:Nat):Int) from rfl,show(41:Int)=((41:Nat):Int) from rfl,LH de,LH de,aE] at h;have a:¬c=32:=of_decide_eq_true h.1;have b:¬c=41:=of_decide_eq_true h.2;rw[iN b,iN a]
 .exact aeU hr
theorem aeX {ok:Bool} (i:Cf d s t r ok) (h:((!ok||decide (r=[]))||(decide (((r.getD 0 0).toNat:Int)≠32)&&decide (((r.getD 0 0).toNat:Int)≠41)))=false):
  0<r.length/\r.length<s.length/\oD (d+1) s=if r.getD 0 0=41 then some ([t],r.drop 1) else(oD (d+1)<|r.drop 1).map λp=>(t::p.1,p.2):=by
 simp only[Bool.or_eq_false_iff,Bool.not_eq_false',decide_eq_false_iff_not] at h;obtain⟨⟨e,f⟩,a⟩:=h;obtain⟨j,g⟩:=i.le e;cases r with
 |nil=>exact absurd rfl f
 |cons c r=>
  refine⟨by simp,g,?_⟩;rw[Vx j];simp only[List.getD_cons_zero,List.drop_one,List.tail_cons] at a⊢;by_cases b:c=41
  .rw[iP b,iP b]
  .rw[iN b,iN b];rw[show(32:Int)=((32:Nat):Int) from rfl,show(41:Int)=((41:Nat):Int) from rfl,LH de,LH de,Bool.and_eq_false_iff] at a;rcases a with a|a
   .rw[iP (by simpa using a)]
   .exact absurd (by simpa using a) b
theorem aeY {ok:Bool} (b:s.length<=12000) (c:Cf 60 s t r ok):(ok&&decide (r=[]))=(bT s).isSome/\∀a,bT s=some a->t=a:=by grind [Cf,bT]
theorem aeZ (a:n1=b.cQ.length) (c:n2=b.code.length) 
  (h:(((!ph b.aM||decide ((12000:Int)<(b.aM.length:Int)))||decide ((40:Int)<(n1:Int)))||!(decide ((1:Int)<=(n2:Int))&&decide ((n2:Int)<=80)))=true):pM b=false:=by grind [pM,Eg,dG.length,Va,Lw,U6]
theorem ae0 (a:n1=b.cQ.length) (c:n2=b.code.length) 
  (h:(((!ph b.aM||decide ((12000:Int)<(b.aM.length:Int)))||decide ((40:Int)<(n1:Int)))||!(decide ((1:Int)<=(n2:Int))&&decide ((n2:Int)<=80)))=false):
  (ph b.aM&&decide (b.cQ.length<=40)&&(decide (1<=b.code.length)&&decide (b.code.length<=80)))=true/\Eg b=true:=by grind [Eg,dG.length,Lw,U5]
theorem ae1 (a:i<b.cQ.length) (h:uY (bV b.cQ i)=false):pM b=false:=by unfold pM;rw[Vb a h];rfl
theorem ae2 (a:i<b.code.length) (h:tP b.code i=false):pM b=false:=by unfold pM;rw[Vc a h];rfl
theorem ae3 (h:uY s=true) (b:∀a,bT s=some a->t=a):t=tr s:=by grind [bT,tr,seen]
theorem Vy {code:List ak} (c:n=code.length) (b:i<n) (d:∀a,bT (bV code i)=some a->t=a):
  ((!(bT<|bV code i).isSome||!nk t)||(IK t !=decide ((i:Int)=(n:Int)-1)))=!tP code i:=by grind [Pa,Vl,seen,bT,nj,aeM]
theorem ae4 {code:List ak} (h:tP code i=true) (b:∀a,bT (bV code i)=some a->t=a):t=tr (bV code i):=by grind [tP,bT,tr,seen]
theorem Ei {b c:Type} (f:b->c) {a:List b} {x:b} (h:a[i]?=some x):(a.take i).map f++[f x]=(a.take<|i+1).map f:=by grind [List.getElem?_eq_some_iff,List.take_succ_eq_append_getElem]
theorem Gu {b c:Type} (f:b->c) {a:List b} (h:a.length<=i):(a.take i).map f=a.map f:=by rw[List.take_of_length_le h]
theorem Ej {b c:Type} (f:b->c) {a:List b} (h:i<=a.length):((a.take i).map f).length=i:=by simp;omega
theorem Gv (b:∀a,bT s=some a->t=a) (h:(bT s).isSome=true):WF t/\t.size<=12001:=by grind [bT,aq.size,wG,B5]
def kM (a:List cw) (l:ak):Int:=match a.findIdx? (λb=>decide<|b.aM=l) with
 |some i=>(i:Int)
 |none=> -1
abbrev dv (a:List cw) (i:Nat):cw:=a.getD i ⟨[],[],[]⟩
theorem pN {ps:List cw} (h:i<ps.length):ps[i]?=some (dv ps i):=by grind
def IM (a:List cw) (g:cw->Bool):Int:=match a.findIdx? g with
 |some i=>(i:Int)
 |none=> -1
theorem Po {a:List cw} (h:i<a.length):dv a i=a[i]:=by grind
theorem ae5 {a:List cw} {g:cw->Bool} (hk:k<a.length) (h:∀i,i<k->g (dv a i)=false) (c:g (dv a k)=true):IM a g=(k:Int):=by
 have:a.findIdx? g=some k:=by rw[List.findIdx?_eq_some_iff_getElem];refine⟨hk,by rw[<-Po hk];exact c,λj b=>?_⟩;have:=h j b;rw[Po (Nat.lt_trans b hk)] at this;simpa using this
 unfold IM;rw[this]
theorem ae6 {a:List cw} {g:cw->Bool} (h:∀i,i<a.length->g (dv a i)=false):IM a g= -1:=by grind [Po,IM,List.findIdx?_eq_none_iff,List.getElem_of_mem]
theorem Pp (h:i<bs.length):cm bs i=bs[i]:=by grind
theorem Vz (hk:k<bs.length):decide ((0:Int)<=kM ((bs.take k).map dz) (cm bs k).aM)=decide (qw bs (cm bs k).aM≠(k:Int)):=by
 refine decide_eq_decide.2 ?_;by_cases a:∃j,j<k/\(cm bs j).aM=(cm bs k).aM
 .obtain⟨j,e,d⟩:=a;have f:qw bs (cm bs k).aM≠k:=by
   intro h;unfold qw at h;cases c:bs.findIdx? (λb=>decide<|b.aM=(cm bs k).aM) with
   |none=>rw[c] at h;simp at h
   |some i=>rw[c] at h;have n:i=k:=Int.ofNat.inj h;subst n;rw[List.findIdx?_eq_some_iff_getElem] at c;obtain⟨_,_,l⟩:=c;have:=l j e;rw[<-Pp] at this;simp only[dE] at this;exact this d
  have g:0<=kM ((bs.take k).map dz) (cm bs k).aM:=by
   unfold kM;cases c:((bs.take k).map dz).findIdx? (λb=>decide<|b.aM=(cm bs k).aM) with
   |some i=>simp
   |none=>rw[List.findIdx?_eq_none_iff] at c;have:=c (dz<|cm bs j)<|List.mem_map.2 ⟨cm bs j,by rw[List.mem_take_iff_getElem];exact⟨j,om,by simp[gE (show j<bs.length by omega)]⟩,rfl⟩;exact absurd d<|of_decide_eq_false this
  exact⟨λ_=>f,λ_=>g⟩
 .have f:qw bs (cm bs k).aM=k:=U9 hk (λj e d=>a ⟨j,e,d⟩) rfl;have g:kM ((bs.take k).map dz) (cm bs k).aM= -1:=by
   unfold kM;have:((bs.take k).map dz).findIdx? (λb=>decide<|b.aM=(cm bs k).aM)=none:=by rw[List.findIdx?_eq_none_iff];intro x m;obtain⟨b,hb,rfl⟩:=List.mem_map.1 m;obtain⟨j,e,rfl⟩:=List.mem_take_iff_getElem.1 hb;refine dF λd=>a ⟨j,om,?_⟩;rw[cm,gG,gE om];exact d
   rw[this]
  rw[f,g];constructor
  .intro h;omega
  .intro h;exact absurd rfl h
theorem ae7 (a:i<bs.length) (h:pM (cm bs i)=false\/qw bs (cm bs i).aM≠i):iU bs=false:=by grind [iU,gP,l8,Cd,pM,Ve]
theorem ae8 (h:∀i,i<bs.length->pM (cm bs i)=true/\qw bs (cm bs i).aM=i):
  iU bs=(decide (1<=bs.length)&&decide (bs.length<=40)&&decide ((cm bs 0).aM=[109,97,105,110])&&decide ((cm bs 0).cQ.length=0)):=by
 unfold iU;rw[Vf λi a=>⟨by have:=(h i a).1;unfold pM at this;rw[aE] at this;exact this.1,(h i a).2⟩,show bs.all Eg=true from ?_,Bool.and_true];refine List.all_eq_true.2 λb hb=>?_;obtain⟨i,a,rfl⟩:=List.getElem_of_mem hb;have:=(h i a).1;unfold pM at this;rw[aE] at this;rw[cm,gG,gE a] at this;exact this.2
theorem ae9 (h:¬(1<=bs.length/\bs.length<=40)):iU bs=false:=by grind [iU,gP]
theorem Pq:∀(ts:List aq) (t:aq),ts≠[]->mn (ts++[t])=mn ts++32::t.text
 |[],_,h=>absurd rfl h
 |[u],t,_=>by rw[List.cons_append,List.nil_append,rZ,rY,rY]
 |u::v::r,t,_=>by have:=Pq (v::r) t sm;rw[List.cons_append,List.cons_append,rZ,<-List.cons_append,this,rZ];simp
def pre (a:List aq):ak:=if a=[] then[] else 40::mn a
theorem VB (hk:k<ps.length):pre (ps.take<|k+1)=pre (ps.take k)++((if k=0 then 40 else 32)::(nth ps k).text):=by
 have e:ps.take (k+1)=ps.take k++[nth ps k]:=by rw[List.take_succ_eq_append_getElem hk,xU hk]
 rw[e];by_cases b:k=0
 .subst b;simp[pre,rY]
 .have a:ps.take k≠[]:=by intro h;have:=congrArg List.length h;rw[List.length_take] at this;simp only[List.length_nil] at this;omega
  unfold pre;rw[iN sm,iN a,Pq _ _ a,iN b];simp
theorem VC (b:WF t) (h:t.ag.length≠0):pre (t.ag.take t.ag.length)++[41]=t.text:=by
 cases b with
 |au a _=>simp[aq.ag] at h
 |list ps c _=>rw[tQ];show pre (ps.take ps.length)++[41]=_;rw[List.take_length];unfold pre;rw[iN c];simp
theorem VD (b:WF t) (h:t.ag.length=0):t.text=t.au:=by
 cases b with
 |au a c=>exact sR c
 |list ps d _=>exact absurd (List.length_eq_zero_iff.1 h) d
theorem VE (a:WF t) (hk:k<=t.ag.length):(pre<|t.ag.take k).length<=t.text.length:=by
 by_cases h:t.ag.length=0
 .rw[show k=0 from by omega];simp[pre]
 .rw[<-VC a h,lA];have mono:∀j,k<=j->j<=t.ag.length->(pre<|t.ag.take k).length<=(pre<|t.ag.take j).length:=by
   intro j _;induction j with
   |zero=>intro _;rw[show k=0 from by omega];exact lR _
   |succ j b=>
    intro _;rcases Nat.lt_or_ge k (j+1) with h|h
    .have:=b om om;rw[VB om,lA];omega
    .rw[show k=j+1 from by omega];exact lR _
  have:=mono _ hk<|lR _;omega
def xX (a:List aq):ak:=40::mn a
theorem VF (hk:k<ps.length):xX (ps.take<|k+1)=(xX (ps.take k)++(if k=0 then[] else[32]))++(nth ps k).text:=by
 have e:ps.take (k+1)=ps.take k++[nth ps k]:=by rw[List.take_succ_eq_append_getElem hk,xU hk]
 rw[e];by_cases a:k=0
 .subst a;simp[xX,rY,mn]
 .have b:ps.take k≠[]:=by intro h;have:=congrArg List.length h;rw[List.length_take] at this;simp only[List.length_nil] at this;omega
  unfold xX;rw[Pq _ _ b,iN a];simp
theorem VG (b:WF t) (h:t.au=[]):xX (t.ag.take t.ag.length)++[41]=t.text:=by
 cases b with
 |au a c=>exact absurd h c
 |list ps _ _=>rw[tQ];show xX (ps.take ps.length)++[41]=_;rw[List.take_length];rfl
theorem Pr (a:WF t) (b:t.au=[]) (hk:k<=t.ag.length):(xX<|t.ag.take k).length<=t.text.length:=by
 rw[<-VG a b,lA];have mono:∀j,k<=j->j<=t.ag.length->(xX<|t.ag.take k).length<=(xX<|t.ag.take j).length:=by
  intro j _;induction j with
  |zero=>intro _;rw[show k=0 from by omega];exact lR _
  |succ j c=>
   intro _;rcases Nat.lt_or_ge k (j+1) with h|h
   .have:=c om om;rw[VF om,lA,lA];omega
   .rw[show k=j+1 from by omega];exact lR _
 have:=mono _ hk<|lR _;omega
structure Ax (t:aq):Prop where
 wf:WF t
 size:t.size<=12001
 text:t.text.length<=12000
theorem Ax.part (h:Ax t) (b:Good t) (a:t.ag[i]?=some p):Ax p:=by obtain⟨_,_,_⟩:=b.sub a;exact⟨h.wf.part a,by have:=IJ a;have:=h.size;omega,by have:=h.text;omega⟩
theorem afa (h:bT s=some t):Ax t:=by obtain⟨a,_,b,c⟩:=wI h;exact⟨a.wf,B5 h,by rw[b];exact c⟩
theorem Ax.nth (h:Ax t) (a:Good t) (b:i<t.ag.length):Ax (nth t.ag i):=h.part a<|eK b
theorem afb (h:k+1<t.ag.length):(t.ag.drop 1)[k]?=some (nth t.ag<|k+1):=by rw[List.getElem?_drop,show 1+k=k+1 from by omega,eK h]
def Cg (a:List aq):Prop:=a.length<1000000/\∀t∈a,WF t/\t.size<=100000000/\t.text.length<=100000000
/-! ### Depth and length,part by part -/
def maxD:List aq->Nat
 |[]=>0
 |t::ts=>max t.depth<|maxD ts
theorem VH:∀(a b:List aq),maxD (a++b)=max (maxD a) (maxD b)
 |[],b=>by simp[maxD]
 |t::ts,b=>by rw[List.cons_append,maxD,maxD,VH ts b];omega
theorem afc (hk:k<ps.length):maxD (ps.take<|k+1)=max (maxD<|ps.take k) (nth ps k).depth:=by rw[List.take_succ_eq_append_getElem hk,VH,xU hk];simp[maxD]
theorem VI:∀{ps:List aq},ps≠[]->aq.depth.deeps ps=maxD ps+1
 |[],h=>absurd rfl h
 |[t],_=>by simp[aq.depth.deeps,maxD]
 |t::u::us,_=>by have:=VI (ps:=u::us) sm;simp only[aq.depth.deeps,maxD] at this⊢;omega
theorem Ps (t:aq):t.depth=aq.depth.deeps t.ag:=by cases t;simp[aq.depth,aq.ag]
theorem afd (h:t.ag.length=0):t.depth=0:=by rw[Ps,List.length_eq_zero_iff.1 h];rfl
theorem afe (h:t.ag.length≠0):t.depth=maxD (t.ag.take t.ag.length)+1:=by rw[Ps,List.take_length,VI λa=>h (by rw[a];rfl)]
theorem aff:∀t:aq,t.size<=m->t.depth<t.size:=by
 induction m with
 |zero=>intro t h;have:=sQ t;omega
 |succ m c=>
  intro t h;have d:=oF t;have e:aq.depth.deeps t.ag<=t.size-1:=LA λp b=>by obtain⟨i,a,rfl⟩:=List.getElem_of_mem b;have f:=IJ (t:=t)<|gE a;have:=c _ (by omega:t.ag[i].size<=m);omega
  rw[Ps];omega
theorem afg:maxD (t.ag.take k)<t.size:=by
 have b:∀(ps:List aq) (d:Nat),0<d->(∀p∈ps,p.depth<d)->maxD ps<d:=by
  intro ps;induction ps with
  |nil=>intro d a _;simpa[maxD] using a
  |cons p ps g=>intro d a h;have j:=h p sm;have l:=g d a λq f=>h q (by simp[f]);rw[maxD];omega
 refine b _ _ (by have:=sQ t;omega) λp e=>?_;obtain⟨i,c,rfl⟩:=List.getElem_of_mem<|List.mem_of_mem_take e;have m:=IJ (t:=t)<|gE c;have:=aff _<|lR (t.ag[i]).size;omega
theorem Pt:∀(a b:List aq),aq.len.lens (a++b)=aq.len.lens a+aq.len.lens b
 |[],b=>by simp[aq.len.lens]
 |t::ts,b=>by rw[List.cons_append,aq.len.lens,aq.len.lens,Pt ts b];omega
theorem afh (hk:k<ps.length):aq.len.lens (ps.take<|k+1)=aq.len.lens (ps.take k)+((nth ps k).len+1):=by rw[List.take_succ_eq_append_getElem hk,Pt,xU hk];simp[aq.len.lens]
theorem afi (h:t.ag.length=0):t.len=t.au.length:=by
 cases t with
 |mk a ps=>simp only[aq.ag] at h;have:=List.length_eq_zero_iff.1 h;subst this;simp[aq.len,aq.au]
theorem VJ (h:t.ag.length≠0):t.len=1+aq.len.lens (t.ag.take t.ag.length):=by
 cases t with
 |mk a ps=>have:ps≠[]:=λb=>h (by rw[b];rfl);simp[aq.len,aq.ag,this]
theorem afj (h:t.ag.length≠0):1+aq.len.lens (t.ag.take k)<=t.len:=by rw[VJ h,List.take_length];have:=Pt (t.ag.take k)<|t.ag.drop k;rw[List.take_append_drop] at this;omega
theorem VK (h:Good t):t.size<=2*t.text.length:=by
 induction h with
 |au a d hb=>have:=List.length_pos_iff.2 d;rw[sR d];simp only[aq.size,aq.size.sizes];omega
 |list ps e _ g=>
  have c:∀b:List aq,(∀p∈b,p.size<=2*p.text.length)->aq.size.sizes b<=2*(mn b).length:=by
   intro b;induction b with
   |nil=>intro _;simp[aq.size.sizes]
   |cons q b i=>
    intro h;have j:=h q sm;have f:=i λp e=>h p (by simp[e]);cases b with
    |nil=>rw[rY];simp only[aq.size.sizes];omega
    |cons u _=>rw[rZ];simp only[aq.size.sizes,lA,lC] at f⊢;omega
  have:=c ps g;rw[tQ];simp only[aq.size,lC,lA,List.length_nil];omega
/-! ### Texts joined -/
theorem VL (a b:List ak):r5 (a++b)=r5 a++r5 b:=by simp[r5]
def xY (h:ak) (a:List ak) (k:Nat):ak:=40::(h++r5 (a.take k))
theorem afk {ps:List ak} (hk:k<ps.length):xY h ps (k+1)=(xY h ps k++[32])++bV ps k:=by unfold xY;rw[List.take_succ_eq_append_getElem hk,VL];simp[r5,bV,gE hk]
theorem afl {a:List ak} (hk:a.length<=k):xY h a k++[41]=eN h a:=by unfold xY eN;rw[List.take_of_length_le hk];simp
theorem afm {ps:List ak} (k:Nat):(xY h ps k).length+1<=(eN h ps).length:=by
 have:(r5<|ps.take k).length<=(r5 ps).length:=by have:=VL (ps.take k)<|ps.drop k;rw[List.take_append_drop] at this;rw[this,lA];omega
 simp[xY,eN];omega
/-! ### What the laws count -/
def kB (a:List ak):Nat:=a.length+(a.map List.length).sum
theorem VM (a:List ak):(r5 a).length=kB a:=by induction a<;>grind [r5,kB]
/-! ### A list that is filled -/
def fill {a:Type} (d:a) (b:List a) (k:Nat):List a:=b.take k++List.replicate (b.length-k) d
inductive It where
 |v (V:Value)
 |p (f:Value->World->Prop)
def It.F:It->Value->World->Prop
 | .v V=>λv _=>v=V
 | .p f=>f
def It.IN:It->Bool
 | .v _=>true
 | .p _=>false
def dq (b:List It) (c:List Nat) (w:World):List Nat->(List (Nat×Value)->Prop)->Prop
 |[],k=>k []
 |j::r,k=>match b.getD j (.p λ_ _=>True) with
  | .v V=>dq b c w r λa=>k ((c.getD j 0,V)::a)
  | .p f=>∀v,f v w->dq b c w r λa=>k ((c.getD j 0,v)::a)
theorem Gw {a:List It} {g:List Nat} {vs:Nat->Value}:∀{deps:List Nat} {k:List (Nat×Value)->Prop},dq a g w deps k->(∀j∈deps,pJ (a.map It.F) j (vs j) w)->k (wm g vs deps)
 |[],k,h,_=>h
 |j::r,k,h,hd=>by
  have b:=hd j<|List.mem_cons_self ..;unfold dq at h;have c:((a.getD j<|.p λ_ _=>True).F) (vs j) w:=by
   unfold pJ at b;rw[gG] at b⊢;rw[List.getElem?_map] at b;cases e:a[j]? with
   |none=>trivial
   |some q=>rw[e] at b;exact b
  cases e:a.getD j (.p λ_ _=>True) with
  |v V=>rw[e] at h c;have l:vs j=V:=c;subst l;exact Gw (deps:=r) h λi d=>hd i<|mK _ d
  |p f=>rw[e] at h c;exact Gw (deps:=r) (h _ c) λi d=>hd i<|mK _ d
theorem Pu {F:List (Value->World->Prop)} {c:Nat->Value}:∀{l:List Nat},Io F c w l->∀j∈l,pJ F j (c j) w
 |[],_,j,h=>by cases h
 |[i],h,j,b=>by rw[List.mem_singleton] at b;subst b;exact h
 |i::a::l,h,j,b=>by
  rcases mC.1 b with e|b
  .subst e;exact h.1
  .exact Pu h.2 j b
def IP (P:Program) (n:Nat) (e:Array Oper) (W d:List Nat) (c:List It) (g:Env) (i:World) (k:Nat) (o:Oper) (b:List Nat):Prop:=
 ∀(x:Env) (w:World),aj [] i w->dq c d w b λa=>OW P n e (λf w'=>aj [] w w'/\(c.getD k<|.p λ_ _=>True).F (f<|d.getD k 0) w'/\eR [d.getD k 0] (ba (aZ W x g) a) f) [o] (ba (aZ W x g) a) w
def sU (P:Program) (n:Nat) (b:Array Oper) (W c:List Nat) (a:List It) (e:Env) (f:World):Nat->List Oper->List (List Nat)->Prop
 |_,[],_=>True
 |_,_::_,[]=>True
 |k,o::l,d::r=>IP P n b W c a e f k o d/\sU P n b W c a e f (k+1) l r
theorem vc {b:List Nat} {a:List It} {l:List Oper} {d:List Nat} {r:List (List Nat)} (h:IP P n ops W b a e0 w0 k o d) (c:sU P n ops W b a e0 w0 (k+1) l r):sU P n ops W b a e0 w0 k (o::l) (d::r):=⟨h,c⟩
theorem VN {c:List Nat} {a:List It}:∀(l:List Oper) (b:List (List Nat)) (k:Nat),sU P n ops W c a e0 w0 k l b->wo (aj []) P n ops W c (a.map It.F) e0 w0 k l b
 |[],_,_,_=>trivial
 |_::_,[],_,_=>trivial
 |o::l,d::r,k,h=>by
  refine⟨λx vs w e hk g i=>?_,VN l r (k+1) h.2⟩;have:=Gw (h.1 x w hk) (vs:=vs)<|Pu g;subst i;have f:pJ (a.map It.F) k=(a.getD k<|.p λ_ _=>True).F:=by unfold pJ;rw[gG,gG,List.getElem?_map];cases a[k]?<;>rfl
  rw[f];exact this
def IQ:List It->Prop
 |[]=>True
 | .v _::r=>IQ r
 | .p f::r=>(∀v w w',f v w->aj [] w w'->f v w')/\IQ r
theorem Pv:∀{its:List It},IQ its->rU (aj []) (its.map It.F)
 |[],_=>trivial
 | .v _::r,h=>⟨λv w w' e _=>e,Pv (its:=r) h⟩
 | .p f::r,h=>⟨h.1,Pv (its:=r) h.2⟩
theorem VO:∀{its:List It},its.all It.IN=true->IQ its
 |[],_=>trivial
 | .v _::r,h=>VO (its:=r)<|by simpa[It.IN] using h
 | .p f::r,h=>by simp[It.IN] at h
section
variable {P:Program} {n:Nat} {l:List Oper} {m:Nat} {W ds:List Nat} {deps:List (List Nat)}
theorem wK {N R:Env->World->Prop} {X:Nat->Env->World->Prop} {id:Nat} {f:Env} {g:World} (s:P.follows .mixedOrders=true) (m:Nat) (W c:List Nat) (a:List (List Nat)) (b:List It) 
  (o:wq l m W c a=true) (p:IQ b)
  (q:∀d,aj [] g d->sU P n l.toArray W c b f d 0 (l.take m) a)
  (t:∀(x:Env) (w:World),aj [] g w->dq b c w (List.range m) λe=>OW P n l.toArray N (l.drop m) (ba (aZ W x f) e) w):
  CW P n (.region id l.toArray true) N R X f g:=
 Ut s cM m W c a (b.map It.F) o (Pv p) (λd hk=>VN _ _ _<|q d hk) λx vs w hk i=>
  Gw (t x w hk) (vs:=vs) λj r=>i j<|List.mem_range.1 r
theorem j1 {N R:Env->World->Prop} {X:Nat->Env->World->Prop} {id:Nat} {e:Env} {f:World} (p:P.follows .mixedOrders=true) (m:Nat) (W c:List Nat) (a:List (List Nat)) (b:List It) 
  (i:wq l m W c a=true) (j:b.all It.IN=true)
  (o:∀g,aj [] f g->sU P n l.toArray W c b e g 0 (l.take m) a)
  (q:∀(x:Env) (w:World),aj [] f w->dq b c w (List.range m) λd=>OW P n l.toArray N (l.drop m) (ba (aZ W x e) d) w):
  CW P n (.region id l.toArray true) N R X e f:=wK p m W c a b i (VO j) o q
end
section
variable {P:Program} {n:Nat} {ops:Array Oper} {e:Env} {w w':World}
theorem pv (h:v=V:=by rfl):OW P n ops (λa w'=>aj [] w w'/\(It.v V).F (a d) w'/\eR [d] e a) [] (bU e (some d) v) w:=
 aV ⟨aj.refl _ _,by subst h;exact nU _ _ _,rb⟩
theorem pk (k:aj [] w w') (h:v=V:=by rfl):OW P n ops (λa w'=>aj [] w w'/\(It.v V).F (a d) w'/\eR [d] e a) [] (bU e (some d) v) w':=
 aV ⟨k,by subst h;exact nU _ _ _,rb⟩
theorem pf {f:Value->World->Prop} (k:aj [] w w') (h:f v w'):OW P n ops (λa w'=>aj [] w w'/\(It.p f).F (a d) w'/\eR [d] e a) [] (bU e (some d) v) w':=
 aV ⟨k,by show f (iY e d v d) w';rw[nU];exact h,rb⟩
end
section
variable {P:Program} {n:Nat} {N R:Env->World->Prop} {X:Nat->Env->World->Prop} {e0:Env} {w:World}
theorem Ek {c:Code} (d:List Nat) (a:List (Nat×Value)) (h:CW P n c (λb w'=>eR d e0 b/\Holds a b/\aj [] w w') R X e0 w) 
  (k:∀x w',aj [] w w'->N (ba (aZ d x e0) a) w'):CW P n c N R X e0 w:=
 h.mono (λb w' ⟨e,f,hk⟩=>by have:=k b w' hk;rw[Ao e,K3 f] at this;exact this) (λ_ _ h=>h) λ_ _ _ h=>h
end
theorem kE {p q r:Prop} (k:r) (h:p:=by repeat(first|with_reducible exact An|refine Ld rfl ?_|refine OD rfl ?_)) (a:q:=by repeat' (first|rfl|(rw[ig];rfl)|(rw[kj];rfl)|constructor)):p/\q/\r:=⟨h,a,k⟩
theorem dd {g:World->World->Prop} {P:Program} {n:Nat} {b:Array Oper} {W f:List Nat} {a:List It} {i:Env} {j:World} {k:Nat} {o:Oper} {l:List Oper} {d:List Nat} {r:List (List Nat)} 
  (h:∀(x:Env) (w:World),g j w->dq a f w d λc=>OW P n b (λm w'=>g w w'/\(a.getD k<|.p λ_ _=>True).F (m<|f.getD k 0) w'/\eR [f.getD k 0] (ba (aZ W x i) c) m) [o] (ba (aZ W x i) c) w)
  (t:wo g P n b W f (a.map It.F) i j (k+1) l r):wo g P n b W f (a.map It.F) i j k (o::l) (d::r):=
 ⟨λx vs w e hk q s=>by
  have:=Gw (h x w hk) (vs:=vs)<|Pu q;subst s;have p:pJ (a.map It.F) k=(a.getD k<|.p λ_ _=>True).F:=by unfold pJ;rw[gG,gG,List.getElem?_map];cases a[k]?<;>rfl
  rw[p];exact this,t⟩
theorem rk {n:Nat} {l:List Oper} {N R:Env->World->Prop} {X:Nat->Env->World->Prop} {id:Nat} {f:Env} {g:World} (u:P.follows .mixedOrders=true) {c:World->World->Prop} (o:Kept c) (m:Nat) (W d:List Nat) (a:List (List Nat)) (b:List It) 
  (q:wq l m W d a=true) (r:rU c (b.map It.F))
  (s:∀i,c g i->wo c P n l.toArray W d (b.map It.F) f i 0 (l.take m) a)
  (v:∀(x:Env) (w:World),c g w->dq b d w (List.range m) λe=>OW P n l.toArray N (l.drop m) (ba (aZ W x f) e) w):
  CW P n (.region id l.toArray true) N R X f g:=
 Ut u o m W d a _ q r s λx vs w hk p=>Gw (v x w hk) (vs:=vs) λj t=>p j<|List.mem_range.1 t
theorem ju {c:World->World->Prop} (K:Kept c) {P:Program} {n:Nat} {b:Array Oper} {W f:List Nat} {a:List It} {g:Env} {j:World} (aC:c j w0) {k:Nat} {o:Oper} {l:List Oper} {d:List Nat} {r:List (List Nat)} 
  (h:∀(x:Env) (w:World),c j w->dq a f w d λe=>OW P n b (λi w'=>c w w'/\(a.getD k<|.p λ_ _=>True).F (i<|f.getD k 0) w'/\eR [f.getD k 0] (ba (aZ W x g) e) i) [o] (ba (aZ W x g) e) w)
  (m:wo c P n b W f (a.map It.F) g w0 (k+1) l r):wo c P n b W f (a.map It.F) g w0 k (o::l) (d::r):=
 dd (λx w hk=>h x w<|K.trans aC hk) m
section
variable {KK:World->World->Prop} {P:Program} {n:Nat} {ops:Array Oper} {e:Env} {w w':World}
theorem cA (K:Kept KK) (h:v=V:=by rfl):OW P n ops (λa w'=>KK w w'/\(It.v V).F (a d) w'/\eR [d] e a) [] (bU e (some d) v) w:=
 aV ⟨K.refl _,by subst h;exact nU _ _ _,rb⟩
theorem IS (K:Kept KK) (k:aj [] w w') (h:v=V:=by rfl):OW P n ops (λa w'=>KK w w'/\(It.v V).F (a d) w'/\eR [d] e a) [] (bU e (some d) v) w':=
 aV ⟨K.of k,by subst h;exact nU _ _ _,rb⟩
end
theorem afn:NG Tryz.f10:=ng
theorem afo:NG Tryz.f100:=ng
theorem afp:NG Tryz.f101:=ng
theorem afq:NG Tryz.f102:=ng
theorem afr:NG Tryz.f103:=ng
theorem afs:NG Tryz.f104:=ng
theorem VP:NG Tryz.f105:=ng
theorem aft:NG Tryz.f106:=ng
theorem LI:NG Tryz.f107:=ng
theorem afu:NG Tryz.f108:=ng
theorem afv:NG Tryz.f109:=ng
theorem afw:NG Tryz.f11:=ng
theorem afx:NG Tryz.f110:=ng
theorem afy:NG Tryz.f111:=ng
theorem afz:NG Tryz.f112:=ng
theorem afA:NG Tryz.f113:=ng
theorem afB:NG Tryz.f114:=ng
theorem afC:NG Tryz.f115:=ng
theorem afD:NG Tryz.f116:=ng
theorem afE:NG Tryz.f117:=ng
theorem afF:NG Tryz.f118:=ng
theorem afG:NG Tryz.f119:=ng
theorem afH:NG Tryz.f120:=ng
theorem afI:NG Tryz.f121:=ng
theorem afJ:NG Tryz.f122:=ng
theorem afK:NG Tryz.f123:=ng
theorem afL:NG Tryz.f124:=ng
theorem afM:NG Tryz.f125:=ng
theorem afN:NG Tryz.f126:=ng
theorem afO:NG Tryz.f127:=ng
theorem afP:NG Tryz.f128:=ng
theorem afQ:NG Tryz.f129:=ng
theorem afR:NG Tryz.f130:=ng
theorem afS:NG Tryz.f131:=ng
theorem afT:NG Tryz.f132:=ng
theorem afU:NG Tryz.f133:=ng
theorem afV:NG Tryz.f134:=ng
theorem afW:NG Tryz.f135:=ng
theorem afX:NG Tryz.f137:=ng
theorem afY:NG Tryz.f139:=ng
theorem afZ:NG Tryz.f140:=ng
theorem af0:NG Tryz.f141:=ng
theorem af1:NG Tryz.f142:=ng
theorem af2:NG Tryz.f143:=ng
theorem af3:NG Tryz.f144:=ng
theorem af4:NG Tryz.f145:=ng
theorem af5:NG Tryz.f146:=ng
theorem af6:NG Tryz.f147:=ng
theorem af7:NG Tryz.f148:=ng
theorem af8:NG Tryz.f149:=ng
theorem af9:NG Tryz.f150:=ng
theorem aga:NG Tryz.f151:=ng
theorem agb:NG Tryz.f152:=ng
theorem agc:NG Tryz.f153:=ng
theorem agd:NG Tryz.f154:=ng
theorem age:NG Tryz.f155:=ng
theorem agf:NG Tryz.f156:=ng
theorem agh:NG Tryz.f157:=ng
theorem agi:NG Tryz.f158:=ng
theorem agj:NG Tryz.f159:=ng
theorem agk:NG Tryz.f160:=ng
theorem agl:NG Tryz.f161:=ng
theorem agm:NG Tryz.f162:=ng
theorem agn:NG Tryz.f163:=ng
theorem ago:NG Tryz.f164:=ng
theorem agp:NG Tryz.f165:=ng
theorem agq:NG Tryz.f166:=ng
theorem agr:NG Tryz.f167:=ng
theorem VQ:NG Tryz.f168:=ng
theorem ags:NG Tryz.f169:=ng
theorem agt:NG Tryz.f170:=ng
theorem agu:NG Tryz.f171:=ng
theorem agv:NG Tryz.f173:=ng
theorem agw:NG Tryz.f174:=ng
theorem agx:NG Tryz.f175:=ng
theorem agy:NG Tryz.f176:=ng
theorem agz:NG Tryz.f177:=ng
theorem agA:NG Tryz.f178:=ng
theorem agB:NG Tryz.f181:=ng
theorem agC:NG Tryz.f182:=ng
theorem agD:NG Tryz.f184:=ng
theorem agE:NG Tryz.f185:=ng
theorem agF:NG Tryz.f186:=ng
theorem agG:NG Tryz.f187:=ng
theorem agH:NG Tryz.f188:=ng
theorem agI:NG Tryz.f189:=ng
theorem agJ:NG Tryz.f190:=ng
theorem agK:NG Tryz.f191:=ng
theorem agL:NG Tryz.f192:=ng
theorem agM:NG Tryz.f193:=ng
theorem agN:NG Tryz.f194:=ng
theorem agO:NG Tryz.f195:=ng
theorem Pw:NG Tryz.f196:=ng
theorem agP:NG Tryz.f197:=ng
theorem agQ:NG Tryz.f199:=ng
theorem agR:NG Tryz.f20:=ng
theorem agS:NG Tryz.f200:=ng
theorem agT:NG Tryz.f201:=ng
theorem agU:NG Tryz.f202:=ng
theorem agV:NG Tryz.f207:=ng
theorem agW:NG Tryz.f208:=ng
theorem agX:NG Tryz.f209:=ng
theorem agY:NG Tryz.f210:=ng
theorem agZ:NG Tryz.f211:=ng
theorem ag0:NG Tryz.f212:=ng
theorem ag1:NG Tryz.f226:=ng
theorem ag2:NG Tryz.f23:=ng
theorem ag3:NG Tryz.f24:=ng
theorem ag4:NG Tryz.f25:=ng
theorem ag5:NG Tryz.f26:=ng
theorem ag6:NG Tryz.f27:=ng
theorem ag7:NG Tryz.f28:=ng
theorem ag8:NG Tryz.f29:=ng
theorem ag9:NG Tryz.f30:=ng
theorem aha:NG Tryz.f31:=ng
theorem ahb:NG Tryz.f32:=ng
theorem ahc:NG Tryz.f33:=ng
theorem ahd:NG Tryz.f35:=ng
theorem ahe:NG Tryz.f36:=ng
theorem ahf:NG Tryz.f37:=ng
theorem ahg:NG Tryz.f40:=ng
theorem ahh:NG Tryz.f41:=ng
theorem ahi:NG Tryz.f44:=ng
theorem ahj:NG Tryz.f45:=ng
theorem ahk:NG Tryz.f46:=ng
theorem ahl:NG Tryz.f47:=ng
theorem ahm:NG Tryz.f48:=ng
theorem ahn:NG Tryz.f49:=ng
theorem aho:NG Tryz.f50:=ng
theorem ahp:NG Tryz.f51:=ng
theorem ahq:NG Tryz.f52:=ng
theorem ahr:NG Tryz.f53:=ng
theorem ahs:NG Tryz.f54:=ng
theorem aht:NG Tryz.f55:=ng
theorem ahu:NG Tryz.f56:=ng
theorem ahv:NG Tryz.f57:=ng
theorem ahw:NG Tryz.f58:=ng
theorem ahx:NG Tryz.f59:=ng
theorem nm6:NG Tryz.f6:=ng
theorem ahz:NG Tryz.f60:=ng
theorem ahA:NG Tryz.f61:=ng
theorem ahB:NG Tryz.f62:=ng
theorem ahC:NG Tryz.f63:=ng
theorem ahD:NG Tryz.f64:=ng
theorem ahE:NG Tryz.f65:=ng
theorem ahF:NG Tryz.f66:=ng
theorem ahG:NG Tryz.f67:=ng
theorem ahH:NG Tryz.f69:=ng
theorem ahI:NG Tryz.f70:=ng
theorem ahJ:NG Tryz.f71:=ng
theorem ahK:NG Tryz.f72:=ng
theorem ahL:NG Tryz.f73:=ng
theorem ahM:NG Tryz.f74:=ng
theorem ahN:NG Tryz.f75:=ng
theorem ahO:NG Tryz.f76:=ng
theorem VR:NG Tryz.f77:=ng
theorem VS:NG Tryz.f78:=ng
theorem ahP:NG Tryz.f79:=ng
theorem ahQ:NG Tryz.f80:=ng
theorem ahR:NG Tryz.f81:=ng
theorem ahS:NG Tryz.f82:=ng
theorem ahT:NG Tryz.f83:=ng
theorem ahU:NG Tryz.f84:=ng
theorem ahV:NG Tryz.f85:=ng
theorem VT:NG Tryz.f86:=ng
theorem ahW:NG Tryz.f87:=ng
theorem ahX:NG Tryz.f88:=ng
theorem ahY:NG Tryz.f89:=ng
theorem ahZ:NG Tryz.f90:=ng
theorem ah0:NG Tryz.f91:=ng
theorem ah1:NG Tryz.f92:=ng
theorem ah2:NG Tryz.f93:=ng
theorem VU:NG Tryz.f94:=ng
theorem ah3:NG Tryz.f95:=ng
theorem ah4:NG Tryz.f96:=ng
theorem ah5:NG Tryz.f97:=ng
theorem ah6:NG Tryz.f98:=ng
theorem ah7:NG Tryz.f99:=ng
theorem fQ:uP Tryz.prog 103=true:=by kernel_rfl
theorem ah8:uP Tryz.prog 117=true:=by kernel_rfl
theorem VV:uP Tryz.prog 144=true:=by kernel_rfl
theorem Ay:uP Tryz.prog 39=true:=by kernel_rfl
theorem jh:uP Tryz.prog 61=true:=by kernel_rfl
theorem Ch:uP Tryz.prog 80=true:=by kernel_rfl
theorem IT:Tryz.prog.underlying 158=some (.array 40 61):=by kernel_rfl
theorem Gx:Tryz.prog.underlying 159=some (.array 40 4):=by kernel_rfl
theorem IU:∀(w:World),(Instr.build 103 #[]).run Tryz.prog w= .ok (.agg #[.string ⟨#[]⟩,.slice none 0 0]) w:=by intros;kernel_rfl
theorem ah9:∀(a:ByteArray) (w:World),(Instr.build 103 #[(0,(.string a))]).run Tryz.prog w= .ok (.agg #[.string a,.slice none 0 0]) w:=by intros;kernel_rfl
theorem Px:∀(a:Option Addr) (c b:Nat) (w:World),(Instr.build 103 #[(1,(.slice a c b))]).run Tryz.prog w= .ok (.agg #[.string ⟨#[]⟩,.slice a c b]) w:=by intros;kernel_rfl
theorem Py:∀(a:Option Addr) (c b:Nat) (d:Option Addr) (f e:Nat) (w:World),(Instr.build 117 #[(0,(.slice a c b)),(1,(.slice d f e))]).run Tryz.prog w= .ok (.agg #[.slice a c b,.slice d f e]) w:=by intros;kernel_rfl
theorem aia:∀(a:Option Addr) (c b:Nat) (d:Option Addr) (f e:Nat) (w:World),(Instr.build 142 #[(0,(.slice a c b)),(1,(.slice d f e))]).run Tryz.prog w= .ok (.agg #[.slice a c b,.slice d f e,.int .i64 0,.bool false,.slice none 0 0,.slice none 0 0]) w:=by intros;kernel_rfl
theorem aib:∀(c:Fn) (a b:Array Value) (w:World),(Instr.build 161 #[(3,(.func c a b))]).run Tryz.prog w= .ok (.agg #[.string ⟨#[]⟩,.slice none 0 0,.string ⟨#[]⟩,.slice none 0 0,.string ⟨#[]⟩,.slice none 0 0,.string ⟨#[]⟩,.slice none 0 0,.string ⟨#[]⟩,.slice none 0 0,.string ⟨#[]⟩,.slice none 0 0,.string ⟨#[]⟩,.slice none 0 0,.string ⟨#[]⟩,.slice none 0 0,.string ⟨#[]⟩,.slice none 0 0,.string ⟨#[]⟩,.slice none 0 0,.string ⟨#[]⟩,.slice none 0 0,.string ⟨#[]⟩,.slice none 0 0,.string ⟨#[]⟩,.slice none 0 0,.string ⟨#[]⟩,.slice none 0 0,.string ⟨#[]⟩,.slice none 0 0,.string ⟨#[]⟩,.slice none 0 0,.string ⟨#[]⟩,.slice none 0 0,.string ⟨#[]⟩,.slice none 0 0,.string ⟨#[]⟩,.slice none 0 0,.string ⟨#[]⟩,.slice none 0 0,.string ⟨#[]⟩,.slice none 0 0,.string ⟨#[]⟩,.slice none 0 0,.string ⟨#[]⟩,.slice none 0 0,.string ⟨#[]⟩,.slice none 0 0,.string ⟨#[]⟩,.slice none 0 0,.string ⟨#[]⟩,.slice none 0 0,.string ⟨#[]⟩,.slice none 0 0,.string ⟨#[]⟩,.slice none 0 0,.string ⟨#[]⟩,.slice none 0 0,.string ⟨#[]⟩,.slice none 0 0,.string ⟨#[]⟩,.slice none 0 0,.string ⟨#[]⟩,.slice none 0 0,.string ⟨#[]⟩,.slice none 0 0,.string ⟨#[]⟩,.slice none 0 0,.string ⟨#[]⟩,.slice none 0 0,.string ⟨#[]⟩,.slice none 0 0,.string ⟨#[]⟩,.slice none 0 0,.string ⟨#[]⟩,.slice none 0 0,.string ⟨#[]⟩,.slice none 0 0,.string ⟨#[]⟩,.slice none 0 0,.bool false,.bool false,.bool false,.bool false,.bool false,.bool false,.bool false,.bool false,.bool false,.bool false,.bool false,.bool false,.bool false,.bool false,.bool false,.bool false,.bool false,.bool false,.bool false,.bool false,.bool false,.bool false,.bool false,.bool false,.bool false,.bool false,.bool false,.bool false,.bool false,.bool false,.bool false,.bool false,.bool false,.bool false,.bool false,.bool false,.bool false,.bool false,.bool false,.bool false,.int .i64 0,.func c a b]) w:=by intros;kernel_rfl
theorem aic:∀(a:Option Addr) (c b:Nat) (x1:Int) (d:Option Addr) (f e:Nat) (g:Option Addr) (j i:Nat) (w:World),(Instr.build 169 #[(0,(.slice a c b)),(1,(.int .i64 x1)),(2,(.slice d f e)),(3,(.slice g j i))]).run Tryz.prog w= .ok (.agg #[.slice a c b,.int .i64 x1,.slice d f e,.slice g j i]) w:=by intros;kernel_rfl
theorem aid:∀(a:Option Addr) (c b:Nat) (x1:Int) (w:World),(Instr.build 195 #[(0,(.slice a c b)),(1,(.int .i64 x1))]).run Tryz.prog w= .ok (.agg #[.slice a c b,.int .i64 x1]) w:=by intros;kernel_rfl
theorem LJ:∀(g:ByteArray) (a:Option Addr) (c b:Nat) (d:Option Addr) (f e:Nat) (w:World),(Instr.build 39 #[(0,(.string g)),(1,(.slice a c b)),(2,(.slice d f e))]).run Tryz.prog w= .ok (.agg #[.string g,.slice a c b,.slice d f e]) w:=by intros;kernel_rfl
theorem Pz:∀(w:World),(Instr.build 61 #[]).run Tryz.prog w= .ok (.agg #[.string ⟨#[]⟩,.slice none 0 0]) w:=by intros;kernel_rfl
theorem VW:∀(a:ByteArray) (w:World),(Instr.build 61 #[(0,(.string a))]).run Tryz.prog w= .ok (.agg #[.string a,.slice none 0 0]) w:=by intros;kernel_rfl
theorem aie:∀(a:Option Addr) (c b:Nat) (w:World),(Instr.build 61 #[(1,(.slice a c b))]).run Tryz.prog w= .ok (.agg #[.string ⟨#[]⟩,.slice a c b]) w:=by intros;kernel_rfl
theorem PA:∀(w:World),(Instr.build 80 #[]).run Tryz.prog w= .ok (.agg #[.string ⟨#[]⟩,.slice none 0 0,.slice none 0 0]) w:=by intros;kernel_rfl
theorem aif:∀(a:ByteArray) (w:World),(Instr.build 80 #[(0,(.string a))]).run Tryz.prog w= .ok (.agg #[.string a,.slice none 0 0,.slice none 0 0]) w:=by intros;kernel_rfl
theorem aih:∀(a:Option Addr) (c b:Nat) (w:World),(Instr.build 84 #[(0,(.slice a c b))]).run Tryz.prog w= .ok (.agg #[.slice a c b,.int .i64 0]) w:=by intros;kernel_rfl
theorem aii:Tryz.prog.underlying 4=some .bool:=by kernel_rfl
theorem mG:gY Tryz.prog 103 0=some 0:=by kernel_rfl
theorem kC:gY Tryz.prog 103 1=some 1:=by kernel_rfl
theorem aij:gY Tryz.prog 117 0=some 0:=by kernel_rfl
theorem aik:gY Tryz.prog 117 1=some 1:=by kernel_rfl
theorem ail:gY Tryz.prog 142 0=some 0:=by kernel_rfl
theorem aim:gY Tryz.prog 142 1=some 1:=by kernel_rfl
theorem ain:gY Tryz.prog 142 2=some 2:=by kernel_rfl
theorem aio:gY Tryz.prog 142 3=some 3:=by kernel_rfl
theorem aip:gY Tryz.prog 142 4=some 4:=by kernel_rfl
theorem aiq:gY Tryz.prog 142 5=some 5:=by kernel_rfl
theorem air:gY Tryz.prog 144 0=some 0:=by kernel_rfl
theorem VX:gY Tryz.prog 144 1=some 1:=by kernel_rfl
theorem ais:gY Tryz.prog 144 10=some 11:=by kernel_rfl
theorem ait:gY Tryz.prog 144 2=some 2:=by kernel_rfl
theorem LK:gY Tryz.prog 144 3=some 3:=by kernel_rfl
theorem aiu:gY Tryz.prog 144 4=some 4:=by kernel_rfl
theorem aiv:gY Tryz.prog 144 5=some 5:=by kernel_rfl
theorem aiw:gY Tryz.prog 144 6=some 6:=by kernel_rfl
theorem VY:gY Tryz.prog 144 7=some 7:=by kernel_rfl
theorem V0:gY Tryz.prog 144 8=some 9:=by kernel_rfl
theorem aix:gY Tryz.prog 144 9=some 10:=by kernel_rfl
theorem aiy:gY Tryz.prog 161 0=some 0:=by kernel_rfl
theorem aiz:gY Tryz.prog 161 1=some 80:=by kernel_rfl
theorem aiA:gY Tryz.prog 161 2=some 120:=by kernel_rfl
theorem aiB:gY Tryz.prog 161 3=some 121:=by kernel_rfl
theorem aiC:gY Tryz.prog 169 0=some 0:=by kernel_rfl
theorem aiD:gY Tryz.prog 169 1=some 1:=by kernel_rfl
theorem aiE:gY Tryz.prog 169 2=some 2:=by kernel_rfl
theorem aiF:gY Tryz.prog 169 3=some 3:=by kernel_rfl
theorem aiG:gY Tryz.prog 195 0=some 0:=by kernel_rfl
theorem aiH:gY Tryz.prog 195 1=some 1:=by kernel_rfl
theorem PB:gY Tryz.prog 39 0=some 0:=by kernel_rfl
theorem PC:gY Tryz.prog 39 1=some 1:=by kernel_rfl
theorem Ci:gY Tryz.prog 39 2=some 2:=by kernel_rfl
theorem PD:gY Tryz.prog 61 0=some 0:=by kernel_rfl
theorem Az:gY Tryz.prog 61 1=some 1:=by kernel_rfl
theorem aiI:gY Tryz.prog 80 0=some 0:=by kernel_rfl
theorem V2:gY Tryz.prog 80 1=some 1:=by kernel_rfl
theorem V3:gY Tryz.prog 80 2=some 2:=by kernel_rfl
theorem aiJ:gY Tryz.prog 84 0=some 0:=by kernel_rfl
theorem V4:gY Tryz.prog 84 1=some 1:=by kernel_rfl
theorem Gy:TI Tryz.prog 101 1 24 (.slice none 0 0):=by unfold TI;kernel_rfl
theorem aP:TI Tryz.prog 103 2 40 (.agg #[.string ⟨#[]⟩,.slice none 0 0]):=by unfold TI;kernel_rfl
theorem V5:TI Tryz.prog 110 1 24 (.slice none 0 0):=by unfold TI;kernel_rfl
theorem El:TI Tryz.prog 117 2 48 (.agg #[.slice none 0 0,.slice none 0 0]):=by unfold TI;kernel_rfl
theorem LL:TI Tryz.prog 140 1 24 (.slice none 0 0):=by unfold TI;kernel_rfl
theorem oG:TI Tryz.prog 144 12 216 (.agg #[.string ⟨#[]⟩,.slice none 0 0,.int .i64 0,.slice none 0 0,.slice none 0 0,.slice none 0 0,.slice none 0 0,.string ⟨#[]⟩,.slice none 0 0,.int .i64 0,.string ⟨#[]⟩,.int .i64 0]):=by unfold TI;kernel_rfl
theorem V6:TI Tryz.prog 23 1 24 (.slice none 0 0):=by unfold TI;kernel_rfl
theorem oH:TI Tryz.prog 25 1 24 (.slice none 0 0):=by unfold TI;kernel_rfl
theorem pO:TI Tryz.prog 3 1 8 (.int .i64 0):=by unfold TI;kernel_rfl
theorem fR:TI Tryz.prog 39 3 64 (.agg #[.string ⟨#[]⟩,.slice none 0 0,.slice none 0 0]):=by unfold TI;kernel_rfl
theorem vg:TI Tryz.prog 4 1 1 (.bool false):=by unfold TI;kernel_rfl
theorem IV:TI Tryz.prog 5 1 1 (.int .u8 0):=by unfold TI;kernel_rfl
theorem PE:TI Tryz.prog 50 1 24 (.slice none 0 0):=by unfold TI;kernel_rfl
theorem IW:TI Tryz.prog 59 1 24 (.slice none 0 0):=by unfold TI;kernel_rfl
theorem bZ:TI Tryz.prog 61 2 40 (.agg #[.string ⟨#[]⟩,.slice none 0 0]):=by unfold TI;kernel_rfl
theorem j3:TI Tryz.prog 80 3 64 (.agg #[.string ⟨#[]⟩,.slice none 0 0,.slice none 0 0]):=by unfold TI;kernel_rfl
theorem bw:TI Tryz.prog 9 1 16 (.string ⟨#[]⟩):=by unfold TI;kernel_rfl
theorem PF:TI Tryz.prog 99 2 32 (.agg #[.pointer none,.slice none 0 0]):=by unfold TI;kernel_rfl
theorem LM:Tryz.prog.underlying 204=some (.int .u64):=by kernel_rfl
theorem yW:Tryz.prog.underlying 3=some (.int .i64):=by kernel_rfl
theorem AA:Tryz.prog.underlying 5=some (.int .u8):=by kernel_rfl
theorem dh:Tryz.prog.follows .mixedOrders=true:=by kernel_rfl
theorem jD:qp Tryz.prog 101=true:=by kernel_rfl
theorem aiK:qp Tryz.prog 110=true:=by kernel_rfl
theorem PG:qp Tryz.prog 134=true:=by kernel_rfl
theorem aiL:qp Tryz.prog 140=true:=by kernel_rfl
theorem aiM:qp Tryz.prog 22=true:=by kernel_rfl
theorem aiN:qp Tryz.prog 23=true:=by kernel_rfl
theorem vh:qp Tryz.prog 25=true:=by kernel_rfl
theorem IX:qp Tryz.prog 3=true:=by kernel_rfl
theorem Em:qp Tryz.prog 4=true:=by kernel_rfl
theorem aiO:qp Tryz.prog 5=true:=by kernel_rfl
theorem aiP:qp Tryz.prog 50=true:=by kernel_rfl
theorem wL:qp Tryz.prog 59=true:=by kernel_rfl
theorem gH:qp Tryz.prog 9=true:=by kernel_rfl
theorem cW:Tryz.prog.underlying 101=some (.slice 103):=by kernel_rfl
theorem xZ:Tryz.prog.underlying 110=some (.slice 3):=by kernel_rfl
theorem Cj:Tryz.prog.underlying 140=some (.slice 144):=by kernel_rfl
theorem En:Tryz.prog.underlying 22=some (.slice 5):=by kernel_rfl
theorem jb:Tryz.prog.underlying 23=some (.slice 39):=by kernel_rfl
theorem bz:Tryz.prog.underlying 25=some (.slice 9):=by kernel_rfl
theorem x5:Tryz.prog.underlying 50=some (.slice 80):=by kernel_rfl
theorem iH:Tryz.prog.underlying 59=some (.slice 61):=by kernel_rfl
theorem LN:Tryz.prog.underlying 75=some (.slice 4):=by kernel_rfl
theorem ji:Tryz.prog.underlying 9=some .string:=by kernel_rfl
/-! ### Packages have two ag -/
inductive oI:aq->Prop
 |au (a:ak):oI (.mk a [])
 |list (ps:List aq) (h:Au ps=[101]->ps.length=2) (hp:∀p∈ps,oI p):oI (.mk [] ps)
theorem oI.part (h:oI t) (b:t.ag[i]?=some p):oI p:=by
 cases h with
 |au a=>simp[aq.ag] at b
 |list ps _ c=>exact c p<|List.mem_of_getElem? b
theorem oI.nth (h:oI t) (a:i<t.ag.length):oI (nth t.ag i):=h.part<|eK a
theorem oI.two (h:oI t) (b:bC t=[101]):t.ag.length=2:=by
 cases h with
 |au a=>rw[Ed (.inr rfl)] at b;cases b
 |list ps c _=>rw[Pl] at b;exact c b
theorem V7 (l:WF t):∀h,ga h t=true->oI t:=by
 induction l with
 |au a _=>intro _ _;exact .au a
 |list ps o q j=>
  intro h c;cases ps with
  |nil=>exact absurd rfl o
  |cons e rest=>
   have g:∀a,e.au=a->a≠[]->oI e:=λa n m=>by
    have:=q e sm;cases this with
    |au b _=>exact .au b
    |list _ _ _=>exact absurd n.symm m
   unfold ga at c;simp only[ne_eq,not_true,if_false] at c;by_cases f:e.au=[101]
   .rw[iP f] at c;cases rest with
    |nil=>simp[ga.oneT] at c
    |cons x r=>
     cases r with
     |nil=>
      refine .list _ (λ_=>rfl) λp d=>?_;simp only[mC,List.not_mem_nil,or_false] at d;rcases d with rfl|rfl
      .exact g _ f de
      .exact j p sm true c
     |cons y _=>simp[ga.oneT] at c
   .rw[iN f] at c;by_cases i:e.au=[116]\/e.au=[99]
    .rw[iP i,OY,List.all_eq_true] at c;refine .list _ (λh=>absurd h f) λp d=>?_;rcases mC.1 d with rfl|d
     .rcases i with h|h
      .exact g _ h de
      .exact g _ h de
     .exact j p (by simp[d]) h<|c p d
    .rw[iN i] at c;cases c
theorem V8 (c:h≠[101]) (d:∀t∈ts,oI t):oI (mF h ts):=
 .list _ (λb=>absurd b c) λp a=>by
  rcases mC.1 a with rfl|a
  .exact .au _
  .exact d p a
theorem aiQ (l:oI y) (d:y.au≠[101]) (h:oI t):oI (dW y t):=by
 induction h with
 |au a=>
  unfold dW;split
  .exact l
  .split
   .exact .au a
   .simp only[Av];exact .list _ (by simp[Au]) sm
 |list ps i j m=>
  unfold dW;rw[iN de];by_cases c:([]:ak)≠[]\/Au ps=[101]
  .rw[iP c];exact .list ps i j
  .rw[iN c,LG];refine .list _ (λg=>?_) λp n=>?_
   .cases ps with
    |nil=>simp[Au] at g
    |cons q _=>
     exfalso;have b:(dW y q).au=[101]:=g;cases q with
     |mk a rs=>
      unfold dW at b;by_cases e:a=[118]
      .rw[iP e] at b;exact d b
      .rw[iN e] at b;by_cases f:a≠[]\/Au rs=[101]
       .rw[iP f] at b;exact c<|.inr b
       .rw[iN f] at b;cases b
   .obtain⟨q,b,rfl⟩:=List.mem_map.1 n;exact m q b
/-! ### States -/
structure rl (t:aq):Prop where
 fG:Good t
 fits:sS t=true
 eok:oI t
def x6 (a:TS):Prop:=∀i t,a.getD i none=some t->rl t
theorem Eo:rl iT:=⟨.au _ de de,by decide,.au _⟩
theorem aiS (a:Good t) (h:sS t=true) (c:i<t.ag.length):sS (nth t.ag i)=true:=by unfold sS at h⊢;rw[aE,dE,dE] at h⊢;obtain⟨b,_,_⟩:=a.sub<|eK c;rw[Cc a.wf] at h;rw[Cc b.wf];omega
theorem rl.nth (h:rl t) (a:i<t.ag.length):rl (nth t.ag i):=⟨h.fG.nth a,aiS h.fG h.fits a,h.eok.nth a⟩
theorem aiT {a:TS} {r:Nat} {o:Option aq} (c:r<a.length):(a.set r o).getD i none=if i=r then o else a.getD i none:=by
 rw[gG,List.getElem?_set,gG];by_cases h:r=i
 .subst h;rw[iP rfl,iP c,iP rfl];rfl
 .rw[iN h,iN λb=>h b.symm]
theorem aiU {e:TS} (h:x6 e) (j:d<e.length) {o:Option aq} (g:∀t,o=some t->Good t/\oI t) {b:TS} (a:eW e d o=some b):x6 b/\b.length=e.length:=by
 unfold eW at a;cases o with
 |none=>cases a
 |some t=>
  simp only[Option.bind_some] at a;by_cases f:sS t=true
  .rw[iP f] at a;cases a;refine⟨λi l c=>?_,sm⟩;rw[aiT j] at c;split at c
   .cases c;exact⟨(g t rfl).1,f,(g t rfl).2⟩
   .exact h i l c
  .rw[iN f] at a;cases a
theorem Gz {b:TS} (h:x6 b) {a:ak} (c:eV b a=some t):rl t:=h _ t c
def Ep (p:List cw):Prop:=p.length<=1000000/\∀b∈p,b.regs.length<=40/\∀t∈b.regs,rl t
theorem PH {p:List cw} (h:Ep p) {a:List aq} (c:bQ p l=some a):a.length<=40/\∀t∈a,rl t:=by
 unfold bQ at c;cases d:p.find? (λb=>decide<|b.aM=l) with
 |none=>rw[d] at c;cases c
 |some b=>rw[d] at c;cases c;exact h.2 b<|List.mem_of_find?_eq_some d
theorem V9 {b:TS} (h:x6 b):∀{c xs:List aq},nZ b c=some xs->xs.length=c.length/\∀t∈xs,rl t
 |[],xs,a=>by cases a;simp
 |u::c,xs,a=>by
  unfold nZ at a;cases e:eV b u.au with
  |none=>rw[e] at a;cases a
  |some x=>
   rw[e] at a;simp only[Option.bind_some] at a;cases d:nZ b c with
   |none=>rw[d] at a;cases a
   |some _=>
    rw[d] at a;cases a;obtain⟨g,i⟩:=V9 h d;refine⟨by simp[g],λt f=>?_⟩;rcases mC.1 f with rfl|f
    .exact Gz h e
    .exact i t f
theorem Wa {a:TS}:∀(b:List aq) (u:aq),nZ a (b++[u])=(nZ a b).bind λxs=>(eV a u.au).map λx=>xs++[x]
 |[],u=>by show(eV a u.au).bind (λx=>(nZ a []).map λxs=>x::xs)=_;cases eV a u.au<;>rfl
 |v::b,u=>by
  show(eV a v.au).bind (λx=>(nZ a<|b++[u]).map λxs=>x::xs)=((eV a v.au).bind λx=>(nZ a b).map λxs=>x::xs).bind _;rw[Wa b u];cases eV a v.au with
  |none=>rfl
  |some x=>
   cases nZ a b with
   |none=>rfl
   |some xs=>cases eV a u.au<;>rfl
/-! ### What an instruction has -/
def ik (b:TS) (c:ak) (a:List aq):Nat->Option (List aq)
 |0=>some []
 |k+1=>(ik b c a k).bind λxs=>if c.getD k 0=115 then(eV b (nth a<|k+1).au).map λx=>xs++[x] else some xs
theorem aiV {a:TS} {b:ak} (h:ik a b ps k=none):∀n,k<=n->ik a b ps n=none:=by
 intro n _;induction n with
 |zero=>rw[show k=0 from by omega] at h;exact h
 |succ n d=>
  rcases Nat.lt_or_ge k (n+1) with c|c
  .unfold ik;rw[d om];rfl
  .rw[show k=n+1 from by omega] at h;exact h
theorem aiW {b:TS} {a:ak} {c:List aq} (h:ik b a ps k=some c) (d:a.getD k 0≠115):ik b a ps (k+1)=some c:=by unfold ik;rw[h,Option.bind_some,iN d]
theorem aiX {a:TS} {b:ak} {c:List aq} (h:ik a b ps k=some c) (d:b.getD k 0=115) (e:eV a (nth ps<|k+1).au=some x):ik a b ps (k+1)=some (c++[x]):=by unfold ik;rw[h,Option.bind_some,iP d,e];rfl
theorem aiY {a:TS} {b:ak} {e:List aq} (h:ik a b ps k=some e) (c:b.getD k 0=115) (d:eV a (nth ps<|k+1).au=none):ik a b ps (k+1)=none:=by unfold ik;rw[h,Option.bind_some,iP c,d];rfl
theorem PI {st:TS} (b:ps.length=m+2):∀k,k<=m->ik st ([100]++List.replicate m 115) ps (k+1)=nZ st ((ps.drop 2).take k)
 |0,_=>by simp[ik,nZ]
 |k+1,hk=>by
  have d:=PI (st:=st) b k om;have c:([100]++List.replicate m 115:ak).getD (k+1) 0=115:=by rw[gG,List.getElem?_append_right sm,List.getElem?_replicate,iP so];rfl
  have a:k<(ps.drop 2).length:=by simp;omega
  have e:(ps.drop 2).take (k+1)=(ps.drop 2).take k++[nth ps (k+2)]:=by rw[List.take_succ_eq_append_getElem a,List.getElem_drop,xU (show k+2<ps.length by omega)];simp[Nat.add_comm]
  rw[e,Wa,<-d]
  conv=>lhs;unfold ik
  simp only[c,if_true]
theorem IY (h:nk t=true):eA (bC t) t.ag.length≠[]/\t.ag.length=(eA (bC t) t.ag.length).length+1/\
  ∀i,i<(eA (bC t) t.ag.length).length->iD (((eA (bC t) t.ag.length).getD i 0).toNat:Int) (nth t.ag (i+1))=true:=by
 unfold nk at h;split at h
 .cases h
 .rename_i a;exact⟨λh=>a<|.inl h,Classical.not_not.1 λh=>a<|.inr h,of_decide_eq_true h⟩
/-! ### What it gives -/
section
variable {p:List cw} {st:TS} {o:Nat} {t:aq}
theorem Wb (a:bC t=[99,111,110,115,116]):stepT p st o t=eW st (ie (nth t.ag 1).au) (some iT):=by simp[stepT,mq,a]
theorem Wc (a:bC t=[109,111,118]) (b:eV st (nth t.ag 2).au=some x):stepT p st o t=eW st (ie (nth t.ag 1).au) (some x):=by simp[stepT,mq,a,b]
theorem Wd (a:bC t=[97,100,100]\/bC t=[115,117,98]\/bC t=[109,117,108]) (b:eV st (nth t.ag 2).au=some x) (c:eV st (nth t.ag 3).au=some y):
  stepT p st o t=if xV x iT&&xV y iT then eW st (ie (nth t.ag 1).au) (some iT) else none:=by
 rcases a with a|a|a<;>simp only[stepT,mq,a,b,c,tR]<;>cases(xV x iT&&xV y iT)<;>simp[eW]
theorem We {a:List aq} (b:bC t=[110,101,119]) (c:nZ st (t.ag.drop 2)=some a):stepT p st o t=eW st (ie (nth t.ag 1).au) (some<|mF [116] a):=by simp[stepT,b,c]
theorem Wf (a:bC t=[110,101,119]) (b:nZ st (t.ag.drop 2)=none):stepT p st o t=none:=by simp[stepT,a,b,eW]
theorem PJ (b:bC t=[103,101,116]) (d:eV st (nth t.ag 2).au=some x):
  stepT p st o t=if bC x=[116]/\xW (nth t.ag 3).au+1<x.ag.length then eW st (ie (nth t.ag 1).au) (some<|nth x.ag (xW (nth t.ag 3).au+1).toNat) else none:=by
 have e:mq p st o t=(if bC x=[116]/\xW (nth t.ag 3).au+1<x.ag.length then some (nth x.ag (xW (nth t.ag 3).au+1).toNat) else none):=by simp[mq,b,d]
 have c:stepT p st o t=eW st (ie (nth t.ag 1).au) (mq p st o t):=by simp[stepT,b]
 rw[c,e];by_cases a:bC x=[116]/\xW (nth t.ag 3).au+1<x.ag.length
 .rw[iP a,iP a]
 .rw[iN a,iN a];rfl
theorem LO {l:Option (List aq)} (a:bC t=[108,97,98]) (b:bQ p (nth t.ag 2).au=l):stepT p st o t=eW st (ie (nth t.ag 1).au) (l.map<|mF [99]):=by subst b;simp[stepT,mq,a]
theorem Wg (a:bC t=[112,97,99,107]) (b:eV st (nth t.ag 2).au=some x):
  stepT p st o t=if xV x (dW (nth t.ag 4)<|nth (nth t.ag 3).ag 1) then eW st (ie (nth t.ag 1).au) (some<|nth t.ag 3) else none:=by
 simp only[stepT,mq,a,b,Option.bind_some];cases xV x (dW (nth t.ag 4)<|nth (nth t.ag 3).ag 1)<;>simp[eW]
theorem PK (b:bC t=[111,112,101,110]) (d:eV st (nth t.ag 2).au=some x):
  stepT p st o t=if bC x=[101] then eW st (ie (nth t.ag 1).au) (some (dW (bK (97::aS o))<|nth x.ag 1)) else none:=by
 have e:mq p st o t=(if bC x=[101] then some (dW (bK (97::aS o))<|nth x.ag 1) else none):=by simp[mq,b,d]
 have c:stepT p st o t=eW st (ie (nth t.ag 1).au) (mq p st o t):=by simp[stepT,b]
 rw[c,e];by_cases a:bC x=[101]
 .rw[iP a,iP a]
 .rw[iN a,iN a];rfl
theorem Wh (b:bC t=[122,101,114,111]) (c:eV st (nth t.ag 1).au=some x):
  stepT p st o t=(bQ p (nth t.ag 2).au).bind λa=>if xV x iT&&meets st a then some st else none:=by
 simp[stepT,b,c,tR]
theorem Wi (a:bC t=[106,117,109,112]) (b:eV st (nth t.ag 1).au=some x):
  stepT p st o t=if bC x=[99]/\meets st (x.ag.drop 1)=true then some st else none:=by
 simp[stepT,a,b]
theorem Wj (a:bC t=[104,97,108,116]):stepT p st o t=(eV st (nth t.ag 1).au).map λ_=>st:=by simp[stepT,a]
theorem Wk (u:nk t=true) (h:ik st (eA (bC t) t.ag.length) t.ag (eA (bC t) t.ag.length).length=none):stepT p st o t=none:=by
 obtain⟨d,a,_⟩:=IY u;have f:∀{q:Nat},eV st (nth t.ag q).au=none\/∃x,eV st (nth t.ag q).au=some x:=fun{q}=>by cases eV st (nth t.ag q).au<;>simp
 unfold eA at h d a;by_cases c1:bC t=[99,111,110,115,116]
 .rw[iP c1] at h;simp[ik] at h
 rw[iN c1] at h d a;by_cases c2:bC t=[109,111,118]\/bC t=[111,112,101,110]
 .rw[iP c2] at h;have c:eV st (nth t.ag 2).au=none:=by
   rcases f (q:=2) with b|⟨x,b⟩
   .exact b
   .simp[ik,b] at h
  rcases c2 with e|e<;>simp[stepT,mq,e,c,eW]
 rw[iN c2] at h d a;by_cases g:bC t=[97,100,100]\/bC t=[115,117,98]\/bC t=[109,117,108]
 .rw[iP g] at h;have c:eV st (nth t.ag 2).au=none\/eV st (nth t.ag 3).au=none:=by
   rcases f (q:=2) with b|⟨x,b⟩
   .exact .inl b
   .rcases f (q:=3) with r|⟨y,r⟩
    .exact .inr r
    .simp[ik,b,r] at h
  rcases c with c|c<;>rcases g with e|e|e<;>simp[stepT,mq,e,c,eW,tR]
 rw[iN g] at h d a;by_cases i:bC t=[110,101,119]
 .rw[iP i] at h a;refine Wf i ?_;have v:t.ag.length=(t.ag.length-2)+2:=by simp at a;omega
  have:=PI (st:=st) v (t.ag.length-2)<|lR _;rw[show([100]++List.replicate (t.ag.length-2) 115:ak).length=t.ag.length-2+1 from by simp[Nat.add_comm]] at h;rw[h,List.take_of_length_le sm] at this;exact this.symm
 rw[iN i] at h d a;by_cases j:bC t=[103,101,116]
 .rw[iP j] at h;have c:eV st (nth t.ag 2).au=none:=by
   rcases f (q:=2) with b|⟨x,b⟩
   .exact b
   .simp[ik,b] at h
  simp[stepT,mq,j,c,eW]
 rw[iN j] at h d a;by_cases s:bC t=[108,97,98]
 .rw[iP s] at h;simp[ik] at h
 rw[iN s] at h d a;by_cases l:bC t=[112,97,99,107]
 .rw[iP l] at h;have c:eV st (nth t.ag 2).au=none:=by
   rcases f (q:=2) with b|⟨x,b⟩
   .exact b
   .simp[ik,b] at h
  simp[stepT,mq,l,c,eW]
 rw[iN l] at h d a;by_cases m:bC t=[122,101,114,111]
 .rw[iP m] at h;have c:eV st (nth t.ag 1).au=none:=by
   rcases f (q:=1) with b|⟨x,b⟩
   .exact b
   .simp[ik,b] at h
  simp[stepT,m,c,tR]
 rw[iN m] at h d a;by_cases n:bC t=[106,117,109,112]\/bC t=[104,97,108,116]
 .rw[iP n] at h;have c:eV st (nth t.ag 1).au=none:=by
   rcases f (q:=1) with b|⟨x,b⟩
   .exact b
   .simp[ik,b] at h
  rcases n with e|e<;>simp[stepT,e,c]
 rw[iN n] at d;exact absurd rfl d
end
/-! ### Sizes of what is given -/
theorem size_pos (t:aq):1<=t.size:=by have:=sQ t;omega
theorem PL (y:aq) (h:Good t):(dW y t).size<=t.size*y.size:=by
 have e:=size_pos y;induction h with
 |au a f hb=>
  unfold dW;split
  .have:=size_pos<|aq.mk a [];exact Nat.le_mul_of_pos_left _ this
  .rw[iP (.inl f)];exact Nat.le_mul_of_pos_right _ e
 |list ps d _ g=>
  unfold dW;rw[iN de];split
  .exact Nat.le_mul_of_pos_right _ e
  .have c:∀b:List aq,(∀p∈b,(dW y p).size<=p.size*y.size)->aq.size.sizes (Av y b)<=aq.size.sizes b*y.size:=by
    intro b;induction b with
    |nil=>intro _;simp[Av,aq.size.sizes]
    |cons q b i=>intro h;have j:=h q sm;have l:=i λp d=>h p (by simp[d]);simp only[Av,aq.size.sizes,Nat.add_mul];omega
   have:=c ps g;simp only[aq.size,List.length_nil,Nat.add_mul];omega
theorem LQ (t:aq):∀m,t.size<=m->WF t->t.text.length+1<=2*t.size:=by
 intro m;induction m generalizing t with
 |zero=>intro h;have:=size_pos t;omega
 |succ m r=>
  intro _ g;cases g with
  |au a l=>rw[sR l];simp only[aq.size,aq.size.sizes];omega
  |list ps d o=>
   rw[tQ];have e:(aq.mk [] ps).size=1+aq.size.sizes ps:=by simp[aq.size]
   rw[e];have c:∀b:List aq,b≠[]->(∀p∈b,p.text.length+1<=2*p.size)->(mn b).length+1<=2*aq.size.sizes b:=by
    intro b;induction b with
    |nil=>intro h;exact absurd rfl h
    |cons q b s=>
     intro _ h;have y:=h q sm;cases b with
     |nil=>rw[rY];simp only[aq.size.sizes];omega
     |cons u _=>have j:=s sm λp d=>h p (by simp[d]);rw[rZ];simp only[aq.size.sizes,lA,lC] at j⊢;omega
   have v:=c ps d (λp f=>by obtain⟨i,n,rfl⟩:=List.getElem_of_mem f;have z:=IJ (t:=.mk [] ps) (p:=ps[i]) (i:=i)<|gE n;exact r _ om<|o _ f);simp only[lC,lA,List.length_nil];omega
theorem Wl (h:WF t):t.len<=2*t.size:=by have:=LQ t _ (lR _) h;rw[Cc h];omega
theorem rl.size (h:rl t):t.size<=24000:=by have:=h.fits;unfold sS at this;rw[aE,dE,dE] at this;have a:=VK h.fG;have b:=Cc h.fG.wf;omega
theorem Wm:∀ts:List aq,(∀t∈ts,t.size<=m)->aq.size.sizes ts<=ts.length*m
 |[],_=>by simp[aq.size.sizes]
 |t::ts,h=>by have b:=h t sm;have c:=Wm ts λu a=>h u (by simp[a]);simp only[aq.size.sizes,lC,Nat.add_mul];omega
theorem Wn (d:fA c=true) (h:∀t∈ts,rl t) (f:ts.length<=8000):Good (mF [c] ts)/\(mF [c] ts).size<=1000000000/\(mF [c] ts).len<=1000000000:=by
 have b:Good (mF [c] ts):=LD sm (by simp[d]) λt a=>(h t a).fG;have j:=Wm ts λt a=>(h t a).size;have g:ts.length*24000<=8000*24000:=Nat.mul_le_mul_right _ f;have e:(mF [c] ts).size=1+(2+aq.size.sizes ts):=by simp[mF,bK,aq.size,aq.size.sizes]
 have i:=Wl b.wf;refine⟨b,om,om⟩
theorem LR:iT.size<=1000000000/\iT.len<=1000000000:=by decide
end Go.Proofs.YtcildnfcpkpomaaGreatDoor
