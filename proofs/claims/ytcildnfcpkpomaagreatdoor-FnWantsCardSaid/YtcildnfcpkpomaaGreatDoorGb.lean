/- Lemmas for the law FnWants, no statement of their own: no conditions. -/
import Derived.Test.YtcildnfcpkpomaaGreatDoorGa
import Derived.KernelRfl
import Derived.Lib.Atoi
import Derived.Lib.Strings
import Derived.Test.YtcildnfcpkpomaaGreatDoorProg
set_option maxHeartbeats 4000000
set_option linter.unusedVariables false
set_option linter.unusedSimpArgs false
namespace Go.Proofs.YtcildnfcpkpomaaGreatDoor
open Go
variable {B E U bytes d i k m n n1 n2 sz:Nat} {L L' W:List Nat} {w w' w0:World} {V v z:Value} {g gb:Option Nat} {rows:List (List C)} {b:Bk} {p t x y:aq} {ps ts:List aq} {h l r s:aj} {P:Program} {ops:Array Oper} {bs:List Bk} {xs:List aj} {c:UInt8} {a:Prop} {e0:Env} {o:Oper} {N R:Env->World->Prop} {X:Nat->Env->World->Prop}
structure Gr (B:Nat) (L:List Nat) (w:World) (T:TypeId) (sz:Nat) (v:Value) (g:Option Nat) (rows:List (List C)):Prop where
 own:∃xs,iS L w T sz v g rows xs
 low:∀b,g=some b->B<=b
 cP:∀x∈L,x<w.heap.size
 bsz:B<=w.heap.size
theorem Gr.nil {T:TypeId} (b:∀x∈L,x<w.heap.size) (a:B<=w.heap.size):Gr B L w T sz (.slice none 0 0) none []:=
 ⟨⟨[],iS.nil _ _ _ _⟩,sm,b,a⟩
theorem Gr.aG {T:TypeId} (h:Gr B L w T sz v g rows) (k:ak L' w w') (a:∀x∈L',x∈L):Gr B L w' T sz v g rows:=
 ⟨h.own.imp λ_ h=>h.aG k a,h.low,λx b=>lL (h.cP x b) k.size,Nat.le_trans h.bsz k.size⟩
theorem Gr.ext {T:TypeId} (h:Gr B L w T sz v g rows) (k:ak [] w w'):Gr B L w' T sz v g rows:=h.aG k sm
theorem Gr.aB {T:TypeId} (h:Gr B L w T sz v g rows) (k:ak L' w w') (a:∀x∈L',x∈L):Gr B L w' T sz v g rows:=h.aG k a
theorem Gr.alloc {T:TypeId} (h:Gr B L w T sz v g rows) (k:ak [] w w') (b:w'.heap.size=w.heap.size+1):Gr B (w.heap.size::L) w' T sz v g rows:=
 ⟨h.own.imp λ_ h=>(h.more uF).aG k sm,h.low,λx a=>by rcases mC.1 a with rfl|a;omega;have:=h.cP x a;omega,Nat.le_trans h.bsz k.size⟩
theorem Gr.dQ {T:TypeId} (h:Gr B L w T sz v g rows) (b:∀x∈L',x∈L):Gr B L' w T sz v g rows:=
 ⟨h.own.imp λ_ h=>h.more λx a=>.inl<|b x a,h.low,λx a=>h.cP x<|b x a,h.bsz⟩
theorem Gr.done {T:TypeId} (h:Gr B L w T sz v g rows):cg L w v (.sl sz rows):=by obtain⟨_,h⟩:=h.own;exact h.done
theorem Gr.xm {T:TypeId} (h:Gr B L w T sz v g rows) {b:Nat} (hb:b∈L):b∉g.toList:=by obtain⟨_,h⟩:=h.own;exact h.sep hb
theorem Gr.K4 {T:TypeId} (h:Gr B L w T sz v g rows) {b:Nat} (hb:b<B):b∉g.toList:=by intro a;have:=h.low b (by simpa using a);omega
theorem Gr.lt {T:TypeId} (h:Gr B L w T sz v g rows):∀x∈g.toList,x<w.heap.size:=by obtain⟨_,h⟩:=h.own;intro x a;exact h.own.lt x (by simpa using a)
theorem Gr.all {T:TypeId} (h:Gr B L w T sz v g rows):∀x∈g.toList++L,x<w.heap.size:=by
 intro x a;rcases mA.1 a with a|a
 .exact h.lt x a
 .exact h.cP x a
theorem Gr.since {T:TypeId} (h:Gr w0.heap.size L w T sz v g rows) (b:ak L' w0 w) (k:ak g.toList w w'):ak L' w0 w':=
 b.since k λx a=>.inr (h.low x<|by simpa using a)
theorem ak.K5 (a:w0.heap.size<=B) (c:∀b,g=some b->B<=b) (e:ak L' w0 w) (k:ak g.toList w w'):ak L' w0 w':=
 e.since k λx d=>.inr<|Nat.le_trans a (c x<|by simpa using d)
section
variable {P:Program} {n:Nat} {ops:Array Oper} {K:Env->World->Prop} {rest:List Oper} {e:Env} {w:World}
 {dst:Option Nat} {ty:TypeId} {pos:String} {after:Array Edge} {g:Option (Nat×Bool)} {x y:Operand}
theorem F8 {B:Nat} {L:List Nat} {t:Nat} {v:Value} {j:Option Nat} {rows:List (List C)} {row:List C} {c:List Value} {b U:Nat} (q:P.underlying t=some (.slice E)) (o:TI P E sz bytes z) (s:gate ops e g=true) (r:cD n dst=true) (H:Nat.beq z.cells.size sz=true) (J:Nat.ble bytes 1000=true) 
  (l:ev e x=v) (F:ev e y= .slice (some ⟨b,0,none⟩) 1 1) (d:Gr B L w E sz v j rows) (hb:aK w b c.toArray U) (I:row.length=sz) (m:c.all Value.oneCell'=true)
  (A:dC (j.toList++L) w c row) (Q:rows.length<100000000)
  (k:∀f a i w',Gr B L w' E sz (.slice f (rows.length+1) a) i (rows++[row])->ak j.toList w w'->OW P n ops K rest (bX e dst (.slice f (rows.length+1) a)) w'):
  OW P n ops K (⟨dst,.call {callee:=.builtin .append,args:=#[x,y],argTypes:=#[t,t]},ty,pos,after,g⟩::rest) e w:=by
 obtain⟨xs,p⟩:=d.own;have O:bytes<=1000:=Nat.le_of_ble_eq_true J;refine Ua q o s r H l F p I hb.all (λu D=>List.all_eq_true.1 m u D) A d.cP (Nat.le_trans (Nat.mul_le_mul (show rows.length+1<=100000000 by omega)<|show bytes+1<=1001 by omega) de) ?_;intro f a i w' M hk N;refine k f a i w' ⟨⟨_,M⟩,λb hb=>?_,λx l=>lL (d.cP x l) hk.size,Nat.le_trans d.bsz hk.size⟩ hk;rcases N with h|h
 .rw[h] at hb;exact d.low b hb
 .rw[h] at hb;cases hb;exact d.bsz
theorem Ik {B:Nat} {L:List Nat} {t:Nat} {v r s:Value} {m:Option Nat} {d:List aq} {f:aq} {b U:Nat} (H:P.underlying t=some (.slice E)) (D:TI P E 2 bytes z) (J:gate ops e g=true) (I:cD n dst=true) (R:Nat.beq z.cells.size 2=true) (S:Nat.ble bytes 1000=true) 
  (O:ev e x=v) (Q:ev e y= .slice (some ⟨b,0,none⟩) 1 1) (F:Gr B L w E 2 v m (dj d)) (hb:aK w b [r,s].toArray U)
  (q:bg (m.toList++L) w (.agg #[r,s]) f) (M:d.length<100000000)
  (k:∀i a l w',Gr B L w' E 2 (.slice i (d++[f]).length a) l (dj (d++[f]))->ak m.toList w w'->OW P n ops K rest (bX e dst (.slice i (d++[f]).length a)) w'):
  OW P n ops K (⟨dst,.call {callee:=.builtin .append,args:=#[x,y],argTypes:=#[t,t]},ty,pos,after,g⟩::rest) e w:=by
 refine F8 H D J I R S O Q F hb (p8 f) ?_ q.lD (by rw[iE];exact M) ?_
 .rw[List.all_eq_true];refine λu N=>dC.Ih q.lD (λc o v j=>?_) u N;cases f;rw[aq.enc] at o;simp only[mC,List.not_mem_nil,or_false] at o;rcases o with h|h
  .rw[h] at j;cases j;rfl
  .rw[h] at j;cases j
 .intro i a l w' p hk;have A:(dj d).length+1=(d++[f]).length:=by simp[iE]
  have C:dj d++[f.enc]=dj (d++[f]):=by simp[Ou,dj]
  rw[A] at p⊢;rw[C] at p;exact k i a l w' p hk
theorem K6 {B:Nat} {L:List Nat} {t:Nat} {v:Value} {j:Option Nat} {c:List aj} {s:aj} {b U:Nat} (q:P.underlying t=some (.slice E)) (o:TI P E 1 bytes z) (u:gate ops e g=true) (r:cD n dst=true) (F:Nat.beq z.cells.size 1=true) (H:Nat.ble bytes 1000=true) 
  (C:ev e x=v) (D:ev e y= .slice (some ⟨b,0,none⟩) 1 1) (p:Gr B L w E 1 v j (fX c)) (hb:aK w b [str s].toArray U) (A:c.length<100000000)
  (k:∀d a f w',Gr B L w' E 1 (.slice d (c++[s]).length a) f (fX (c++[s]))->ak j.toList w w'->OW P n ops K rest (bX e dst (.slice d (c++[s]).length a)) w'):
  OW P n ops K (⟨dst,.call {callee:=.builtin .append,args:=#[x,y],argTypes:=#[t,t]},ty,pos,after,g⟩::rest) e w:=by
 refine F8 (row:=[.val (str s)]) q o u r F H C D p hb rfl rfl ⟨.val _,trivial⟩ (by rw[p9];exact A) ?_;intro d a f w' i hk;have l:(fX c).length+1=(c++[s]).length:=by simp[p9]
 have m:fX c++[[.val (str s)]]=fX (c++[s]):=by simp[fX]
 rw[l] at i⊢;rw[m] at i;exact k d a f w' i hk
end
theorem Ug {P:Program} {T:Nat} (b:P.underlying T=some (.slice E)) (a:TI P E sz bytes z):(Instr.buildSlice T 0 #[]).run P w= .ok (.slice (some ⟨w.heap.size,0,none⟩) 0 0) (w.alloc<|.cells #[] E):=by simp[Instr.buildSlice,Sem.run_bind,run_underlying b,Result.andThen_ok,a.sw,Instr.fill,newRow];congr 2;apply Array.ext<;>simp
theorem xo {P:Program} {n:Nat} {d:Array Oper} {K:Env->World->Prop} {rest:List Oper} {e:Env} {w:World} {c:Option Nat} {ty:TypeId} {pos:String} {a:Array Edge} {g:Option (Nat×Bool)} 
  {T E j bytes:Nat} {z:Value} (B:Nat) (L:List Nat) (o:P.underlying T=some (.slice E)) (m:TI P E j bytes z) (q:gate d e g=true) (p:cD n c=true) (l:B<=w.heap.size) (i:∀x∈L,x<w.heap.size)
  (k:∀w',ak [] w w'->w'.heap.size=w.heap.size+1->Gr B L w' E j (.slice (some ⟨w.heap.size,0,none⟩) 0 0) (some w.heap.size) []->OW P n d K rest (bX e c<|.slice (some ⟨w.heap.size,0,none⟩) 0 0) w'):
  OW P n d K (⟨c,.buildSlice T 0 #[],ty,pos,a,g⟩::rest) e w:=
 fI q p (w':=w.alloc<|.cells #[] E) (by simp[execOp,Ug (P:=P) (w:=w) o m])
  (k _ (ak.alloc _ _ _) sm ⟨⟨[],⟨by simp,.inr ⟨w.heap.size,0,#[],rfl,rfl,aK.alloc _ _ _,lR _,by decide,sm,sm⟩⟩,trivial,sm,by intro b hb f;cases hb;have:=i _ f;omega⟩,
   by intro b hb;cases hb;exact l,λx f=>by have:=i x f;simp;omega,by simp;omega⟩)
theorem rG.lD {x y:Value} (h:rG L w (.agg #[x,y,z]) b):dC L w [x,y,z] b.enc:=by
 obtain⟨e,a,c⟩:=h;have d:e=[x,y,z]:=by have:=congrArg (λv=>match v with|Value.agg x=>x.toList|_=>[]) a;simpa using this.symm
 rw[<-d];exact c
theorem ac8 {P:Program} {n:Nat} {l:Array Oper} {K:Env->World->Prop} {rest:List Oper} {e:Env} {w:World} {j:Option Nat} {ty:TypeId} {pos:String} {i:Array Edge} {g:Option (Nat×Bool)} {x y:Operand} 
  {B:Nat} {L:List Nat} {t E bytes:Nat} {z:Value} {v C D F:Value} {q:Option Nat} {d:List Bk} {f:Bk} {b U:Nat} (N:P.underlying t=some (.slice E)) (J:TI P E 3 bytes z) (Q:gate l e g=true) (O:cD n j=true) (X:Nat.beq z.cells.size 3=true) (Y:Nat.ble bytes 1000=true)
  (T:ev e x=v) (V:ev e y= .slice (some ⟨b,0,none⟩) 1 1) (M:Gr B L w E 3 v q (d.map Bk.enc)) (hb:aK w b [C,D,F].toArray U)
  (A:rG (q.toList++L) w (.agg #[C,D,F]) f) (R:d.length<100000000)
  (k:∀o a p w',Gr B L w' E 3 (.slice o (d++[f]).length a) p ((d++[f]).map Bk.enc)->ak q.toList w w'->OW P n l K rest (bX e j (.slice o (d++[f]).length a)) w'):
  OW P n l K (⟨j,.call {callee:=.builtin .append,args:=#[x,y],argTypes:=#[t,t]},ty,pos,i,g⟩::rest) e w:=by
 refine F8 N J Q O X Y T V M hb rfl ?_ A.lD (by simpa using R) ?_
 .rw[List.all_eq_true];refine λu S=>dC.Ih A.lD (λc r v m=>?_) u S;rw[Bk.enc] at r;simp only[mC,List.not_mem_nil,or_false] at r;rcases r with h|h|h
  .rw[h] at m;cases m;rfl
  .rw[h] at m;cases m
  .rw[h] at m;cases m
 .intro o a p w' s hk;have H:(d.map Bk.enc).length+1=(d++[f]).length:=by simp
  have I:d.map Bk.enc++[f.enc]=(d++[f]).map Bk.enc:=by simp
  rw[H] at s⊢;rw[I] at s;exact k o a p w' s hk
theorem Gr.yC {T:TypeId} (h:Gr B L w T 3 v g (bs.map Bk.enc)):lE L w v bs:=h.done
/-! ### Owned lists of texts,owned programs -/
def cS (w:World) (T:TypeId) (v:Value) (g:Option Nat) (a:List aj):Prop:=jD w T 1 v g a.length<|a.map λx=>str x
theorem Uh:∀{xs:List aj} {a:List Value},dC L w a (fX xs).flatten->a=xs.map λx=>str x
 |[],a,h=>by
  cases a with
  |nil=>rfl
  |cons v a=>exact h.elim
 |x::xs,a,h=>by
  cases a with
  |nil=>exact h.elim
  |cons v a=>obtain⟨b,c⟩:=h;cases b;rw[List.map_cons,<-Uh (xs:=xs) c]
theorem Ui:∀xs:List aj,dC L w (xs.map λx=>str x) (fX xs).flatten
 |[]=>trivial
 |_::xs=>⟨.val _,Ui xs⟩
theorem Gr.tt {T:TypeId} (h:Gr B L w T 1 v g (fX xs)):cS w T v g xs:=by obtain⟨_,h⟩:=h.own;have:=h.own;rw[Uh h.rep,p9] at this;exact this
theorem cS.ac9 {T:TypeId} (h:cS w T v g xs) (c:∀b,g=some b->b∉L):iS L w T 1 v g (fX xs) (xs.map λx=>str x):=
 ⟨by rw[p9];exact h,Ui xs,by intro row a;simp[fX] at a;obtain⟨_,_,rfl⟩:=a;rfl,c⟩
theorem cS.rep {T:TypeId} (h:cS w T v g xs) (a:∀b,g=some b->b∉L):bw L w v xs:=(h.ac9 a).done
theorem cS.aG {T:TypeId} (h:cS w T v g xs) (k:ak L w w') (a:∀b,g=some b->b∉L):cS w' T v g xs:=jD.aG h k a
theorem cS.ext {T:TypeId} (h:cS w T v g xs) (k:ak [] w w'):cS w' T v g xs:=h.aG k sm
def rH (w:World) (T:TypeId) (a:Option Nat×Option Nat) (e:List Value) (b:Bk):Prop:=
 ∃c d,e=[str b.aM,c,d]/\cS w T c a.1 b.cO/\cS w T d a.2 b.code
def jS (a:Option Nat×Option Nat):List Nat:=a.1.toList++a.2.toList
def iB (a:List (Option Nat×Option Nat)):List Nat:=a.flatMap jS
theorem rH.aG {T:TypeId} {a:Option Nat×Option Nat} {d:List Value} (h:rH w T a d b) (k:ak L w w') (c:∀x,x∈jS a->x∉L):rH w' T a d b:=by obtain⟨i,j,e,f,g⟩:=h;exact⟨i,j,e,f.aG k λb hb=>c b<|by simp[jS,hb],g.aG k λb hb=>c b<|by simp[jS,hb]⟩
def jI (w:World) (T:TypeId):List (Option Nat×Option Nat)->List (List Value)->List Bk->Prop
 |[],[],[]=>True
 |g::gs,v::vs,b::bs=>rH w T g v b/\jI w T gs vs bs
 |_,_,_=>False
theorem jI.aG {T:TypeId} (k:ak L w w'):∀{a:List (Option Nat×Option Nat)} {c:List (List Value)} {bs:List Bk},jI w T a c bs->(∀x,x∈iB a->x∉L)->jI w' T a c bs
 |[],[],[],_,_=>trivial
 |g::gs,v::vs,b::bs,h,hL=>⟨h.1.aG k λx d=>hL x<|by simp[iB,d],jI.aG k h.2 λx d=>hL x (by simp[iB] at d⊢;exact .inr d)⟩
theorem jI.snoc {T:TypeId}:∀{a:List (Option Nat×Option Nat)} {c:List (List Value)} {bs:List Bk} {g:Option Nat×Option Nat} {v:List Value} {b:Bk},jI w T a c bs->rH w T g v b->jI w T (a++[g]) (c++[v]) (bs++[b])
 |[],[],[],_,_,_,_,h=>⟨h,trivial⟩
 |_::_,_::_,_::_,_,_,_,h,k=>⟨h.1,jI.snoc h.2 k⟩
theorem jI.lens {T:TypeId}:∀{c:List (Option Nat×Option Nat)} {a:List (List Value)} {bs:List Bk},jI w T c a bs->c.length=bs.length/\a.length=bs.length/\∀row∈a,row.length=3
 |[],[],[],_=>by simp
 |g::gs,v::vs,b::bs,h=>by
  obtain⟨e,f,i⟩:=jI.lens h.2;refine⟨by simp[e],by simp[f],λrow d=>?_⟩;rcases mC.1 d with rfl|d
  .obtain⟨_,_,rfl,_⟩:=h.1;rfl
  .exact i row d
theorem jI.get {T:TypeId}:∀{a:List (Option Nat×Option Nat)} {c:List (List Value)} {bs:List Bk},jI w T a c bs->∀{i:Nat} {b:Bk},bs[i]?=some b->∃g v,a[i]?=some g/\c[i]?=some v/\rH w T g v b
 |_::_,_::_,_::_,h,0,b,hb=>by simp at hb;subst hb;exact⟨_,_,rfl,rfl,h.1⟩
 |_::gs,_::vs,_::bs,h,i+1,b,hb=>by obtain⟨g,v,d,e,f⟩:=jI.get h.2 (i:=i) (by simpa using hb);exact⟨g,v,by simpa using d,by simpa using e,f⟩
 |[],[],[],_,i,b,hb=>by simp at hb
theorem jI.DQ {T:TypeId}:∀{a:List (Option Nat×Option Nat)} {c:List (List Value)} {bs:List Bk},jI w T a c bs->(∀x,x∈iB a->x∉L)->dC L w c.flatten (bs.map Bk.enc).flatten
 |[],[],[],_,_=>trivial
 |g::gs,v::vs,b::bs,h,hL=>by obtain⟨_,_,rfl,e,f⟩:=h.1;refine⟨.val _,e.rep λb hb=>hL b<|by simp[iB,jS,hb],f.rep λb hb=>hL b<|by simp[iB,jS,hb],?_⟩;exact jI.DQ h.2 λx d=>hL x (by simp[iB] at d⊢;exact .inr d)
structure nN (w:World) (TB TS:TypeId) (v:Value) (g:Option Nat) (gss:List (Option Nat×Option Nat)) (vss:List (List Value)) (bs:List Bk):Prop where
 own:jD w TB 3 v g bs.length vss.flatten
 rows:jI w TS gss vss bs
 nodup:(g.toList++iB gss).Nodup
 lt:∀x,x∈iB gss->x<w.heap.size
theorem nN.aG {e TS:TypeId} {a:List (Option Nat×Option Nat)} {c:List (List Value)} (h:nN w e TS v g a c bs) (k:ak L w w') (f:∀x,x∈g.toList++iB a->x∉L):nN w' e TS v g a c bs:=
 ⟨h.own.aG k λb hb=>f b<|by simp[hb],h.rows.aG k λx d=>f x<|by simp[d],h.nodup,λx d=>lL (h.lt x d) k.size⟩
theorem nN.ext {c TS:TypeId} {a:List (Option Nat×Option Nat)} {b:List (List Value)} (h:nN w c TS v g a b bs) (k:ak [] w w'):nN w' c TS v g a b bs:=h.aG k sm
theorem bg.Ow {A B:List Nat} {b:Nat} (h:bg (b::(A++B)) w v t):bg (A++(b::B)) w v t:=jf.fresh h λx a=>.inl<|T7 x a
theorem bg.dQ (h:bg L w v t) (a:∀x∈L',x∈L):bg L' w v t:=jf.fresh h λx b=>.inl<|a x b
theorem cX.dQ {t:List aq} (h:cX L w v t) (a:∀x∈L',x∈L):cX L' w v t:=cg.fresh h λx b=>.inl<|a x b
theorem Gr.trees {T:TypeId} (h:Gr B L w T 2 v g (dj ts)):cX L w v ts:=h.done
def jb (c:UInt8):Bool:=48<=c&&c<=57
theorem DR (c:UInt8):jb c=true↔48<=c.toNat/\c.toNat<=57:=by simp[jb,UInt8.le_iff_toNat_le]
def sA (s:aj):Int:=if 0<s.length/\s.getD 0 0=45 then -1 else 1
def eZ (s:aj):aj:=if 0<s.length/\s.getD 0 0=45 then s.drop 1 else s
def val (a:aj):Nat:=a.foldl (λn c=>10*n+(c.toNat-48)) 0
def numeral (s:aj):Option Int:=
 if s=[48] then some 0
 else if(eZ s).length<1\/3<(eZ s).length\/(eZ s).getD 0 0=48 then none
 else if(eZ s).all jb=true then some (sA s*val (eZ s)) else none
theorem Uj (a:aj) (c:UInt8):val (a++[c])=10*val a+(c.toNat-48):=by simp[val]
theorem Uk:∀(a:aj),a.all jb=true->val a<10^a.length:=by
 intro a;have d:∀(l:aj) (n k:Nat),l.all jb=true->n<10^k->l.foldl (λn c=>10*n+(c.toNat-48)) n<10^(k+l.length):=by
  intro l;induction l with
  |nil=>intro n k _ h;simpa using h
  |cons c l e=>intro n k b h;simp only[List.all_cons,aE] at b;have f:=(DR c).1 b.1;simp only[List.foldl_cons,lC];have:=e (10*n+(c.toNat-48)) (k+1) b.2 (by rw[Nat.pow_succ];omega);rw[show k+(l.length+1)=k+1+l.length from by omega];exact this
 intro h;have:=d a 0 0 h sm;simpa[val] using this
theorem Ox (h:k<s.length):s.take (k+1)=s.take k++[s.getD k 0]:=by simp_all
def bA (t:aq):aj:=if t.au≠[]\/t.ag=[] then[] else match t.ag with
 |[]=>[]
 |p::_=>p.au
def Ul (c:UInt8):Bool:=97<=c&&c<=122
def DS (s:aj) (i:Nat):Bool:=Ul (s.getD i 0)||(decide (0<i)&&jb (s.getD i 0))
def oZ (s:aj):Bool:=(List.range s.length).all (DS s)&&decide (s≠[])
theorem Il (k c:UInt8):decide ((k.toNat:Int)<=c.toNat)=decide (k<=c):=by simp[UInt8.le_iff_toNat_le]
theorem Um (k c:UInt8):decide ((c.toNat:Int)=k.toNat)=(c==k):=by rw[Bool.eq_iff_iff];simp[<-UInt8.toNat_inj];omega
theorem K7 (s:aj) (k:Nat):((decide ((97:Int)<=(s.getD k 0).toNat)&&decide (((s.getD k 0).toNat:Int)<=122))||((decide ((0:Int)<(k:Int))&&decide ((48:Int)<=(s.getD k 0).toNat))&&decide (((s.getD k 0).toNat:Int)<=57)))=DS s k:=by have a:=Il 97<|s.getD k 0;have b:=Il (s.getD k 0) 122;have c:=Il 48<|s.getD k 0;have d:=Il (s.getD k 0) 57;simp only[show((97:UInt8).toNat:Int)=97 from rfl,show((122:UInt8).toNat:Int)=122 from rfl,show((48:UInt8).toNat:Int)=48 from rfl,show((57:UInt8).toNat:Int)=57 from rfl] at a b c d;rw[a,b,c,d];unfold DS Ul jb;rw[show decide ((0:Int)<(k:Int))=decide (0<k) from by simp,Bool.and_assoc]
theorem Un {j:Nat} (a:j<s.length) (h:DS s j=false):oZ s=false:=by grind [oZ]
theorem Uo (h:∀j,j<s.length->DS s j=true):oZ s=decide (s≠[]):=by grind [oZ]
theorem Up {P:Nat->Prop} (h:∀j,j<k->P j) (hk:P k):∀j,j<k+1->P j:=by grind
theorem Im (a:t.au=[]) (b:t.ag[0]?=some p):bA t=p.au:=by grind [aq.ag,bA]
theorem DT (h:t.au≠[]\/t.ag=[]):bA t=[]:=by unfold bA;rw[iP h]
theorem ada (a:s≠[48]) (h:(eZ s).length<1\/3<(eZ s).length\/(eZ s).getD 0 0=48):numeral s=none:=by grind [numeral]
theorem adb (a:s≠[48]) (hk:k<(eZ s).length) (h:jb ((eZ s).getD k 0)=false):numeral s=none:=by grind [numeral,eZ]
theorem ade (b:s≠[48]) (h:1<=(eZ s).length/\(eZ s).length<=3/\(eZ s).getD 0 0≠48) (a:(eZ s).all jb=true):numeral s=some (sA s*val (eZ s)):=by grind [numeral]
theorem adf (s:aj):sA s=1\/sA s= -1:=by grind [sA]
theorem adg {a:aj} (h:(!(decide ((1:Int)<=(a.length:Int))&&decide ((a.length:Int)<=3))||decide (((a.getD 0 0).toNat:Int)=48))=true):a.length<1\/3<a.length\/a.getD 0 0=48:=by
 simp only[oE,Bool.not_eq_true',Bool.and_eq_false_iff,decide_eq_false_iff_not,dE] at h;rcases h with(h|h)|h
 .left;omega
 .right;left;omega
 .right;right;exact UInt8.toNat_inj.1 (by have:(48:UInt8).toNat=48:=rfl;rw[this];omega)
theorem adh {a:aj} (h:(!(decide ((1:Int)<=(a.length:Int))&&decide ((a.length:Int)<=3))||decide (((a.getD 0 0).toNat:Int)=48))=false):1<=a.length/\a.length<=3/\a.getD 0 0≠48:=by simp only[Bool.or_eq_false_iff,Bool.not_eq_false',aE,decide_eq_false_iff_not,dE] at h;refine⟨by omega,om,λb=>h.2 (by rw[b];rfl)⟩
theorem Ur (h:(decide ((c.toNat:Int)<48)||decide ((57:Int)<c.toNat))=true):jb c=false:=by grind [DR]
theorem Us (h:(decide ((c.toNat:Int)<48)||decide ((57:Int)<c.toNat))=false):48<=c.toNat/\c.toNat<=57/\jb c=true:=by grind [DR]
def aq.size:aq->Nat
 | .mk a ps=>1+a.length+sizes ps
 where sizes:List aq->Nat
 |[]=>0
 |t::ts=>t.size+sizes ts
theorem adi {ps:List aq}:∀{i:Nat} {p:aq},ps[i]?=some p->p.size<=aq.size.sizes ps:=by
 induction ps with
 |nil=>intro i p h;simp at h
 |cons q ps a=>
  intro i p h;cases i with
  |zero=>simp at h;subst h;simp only[aq.size.sizes];omega
  |succ i=>have:=a (by simpa using h);simp only[aq.size.sizes];omega
theorem Io {t:aq} (h:t.ag[i]?=some p):p.size<t.size:=by
 cases t with
 |mk a ps=>have:=adi (ps:=ps) h;simp only[aq.size];omega
theorem ow:∀t:aq,t.ag.length<t.size
 | .mk a ps=>by
  have:∀l:List aq,l.length<=aq.size.sizes l:=by
   intro l;induction l with
   |nil=>simp[aq.size.sizes]
   |cons q r _=>cases q;simp only[aq.size.sizes,aq.size,lC];omega
  have:=this ps;simp only[aq.ag,aq.size];omega
inductive WF:aq->Prop
 |au (a:aj) (h:a≠[]):WF (.mk a [])
 |list (ps:List aq) (h:ps≠[]) (hp:∀p∈ps,WF p):WF (.mk [] ps)
theorem WF.part (h:WF t) (a:t.ag[i]?=some p):WF p:=by cases h<;>grind [aq.ag]
theorem WF.first (h:WF t) (c:t.au=[]):∃p,t.ag[0]?=some p:=by
 cases h with
 |au a b=>exact absurd c b
 |list ps b _=>
  cases ps with
  |nil=>exact absurd rfl b
  |cons q r=>exact⟨q,rfl⟩
theorem WF.leaf (h:WF t) (b:t.au≠[]):t.ag=[]:=by
 cases h with
 |au a _=>rfl
 |list ps _ _=>exact absurd rfl b
theorem Ut {rd:aj->Option (aq×aj)} (f:∀s t r,rd s=some (t,r)->WF t):∀n s ts r,jr rd n s=some (ts,r)->ts≠[]/\∀p∈ts,WF p
 |0,_,_,_,h=>by simp[jr] at h
 |n+1,s,ts,r,h=>by
  unfold jr at h;cases b:rd s with
  |none=>simp[b] at h
  |some q=>
   obtain⟨t,m⟩:=q;have j:=f s t m b;simp only[b] at h;cases m with
   |nil=>simp at h
   |cons c l=>
    simp only at h;by_cases g:c=41
    .rw[iP g] at h;simp at h;obtain⟨rfl,_⟩:=h;exact⟨by simp,by intro p a;simp at a;subst a;exact j⟩
    .rw[iN g] at h;by_cases i:c=32
     .rw[iP i] at h;cases a:jr rd n l with
      |none=>simp[a] at h
      |some q=>obtain⟨e,d⟩:=q;simp[a] at h;obtain⟨rfl,_⟩:=h;obtain⟨_,o⟩:=Ut f n l e d a;exact⟨by simp,by intro p a;rcases mC.1 a with rfl|a;exact j;exact o p a⟩
     .rw[iN i] at h;cases h
theorem adj:∀d s t r,eY d s=some (t,r)->WF t:=by
 have leaf:∀(s:aj) (t:aq) (r:aj),(if s.takeWhile fm=[] then none else some (aq.mk (s.takeWhile fm) [],s.dropWhile fm))=some (t,r)->WF t:=by
  intro s t r h;split at h
  .cases h
  .rename_i g;simp only[Option.some.injEq,Prod.mk.injEq] at h;rw[<-h.1];exact .au _ g
 intro d;induction d with
 |zero=>
  intro s t r h;cases s with
  |nil=>simp[eY] at h
  |cons c s=>
   simp only[eY] at h;by_cases a:c=40
   .rw[iP a] at h;cases h
   .rw[iN a] at h;exact leaf _ _ _ h
 |succ d i=>
  intro s t r h;cases s with
  |nil=>simp[eY] at h
  |cons c s=>
   simp only[eY] at h;by_cases a:c=40
   .rw[iP a] at h;cases b:jr (eY d) (s.length+1) s with
    |none=>simp[b] at h
    |some q=>obtain⟨_,_⟩:=q;simp[b] at h;obtain⟨e,f⟩:=Ut i _ _ _ _ b;rw[<-h.1];exact .list _ e f
   .rw[iN a] at h;exact leaf _ _ _ h
theorem vQ (h:bS s=some t):WF t:=by grind [bS,eY,adj]
theorem Uu {rd:aj->Option (aq×aj)} (f:∀s t r,rd s=some (t,r)->t.size+r.length<=s.length+1):∀n s ts r,jr rd n s=some (ts,r)->aq.size.sizes ts+r.length<=s.length
 |0,_,_,_,h=>by simp[jr] at h
 |n+1,s,ts,r,h=>by
  unfold jr at h;cases b:rd s with
  |none=>simp[b] at h
  |some q=>
   obtain⟨t,l⟩:=q;have m:=f s t l b;simp only[b] at h;cases l with
   |nil=>simp at h
   |cons c j=>
    simp only at h;rw[lC] at m;by_cases g:c=41
    .rw[iP g] at h;simp at h;obtain⟨rfl,rfl⟩:=h;simp only[aq.size.sizes];omega
    .rw[iN g] at h;by_cases i:c=32
     .rw[iP i] at h;cases a:jr rd n j with
      |none=>simp[a] at h
      |some q=>obtain⟨e,d⟩:=q;simp[a] at h;obtain⟨rfl,rfl⟩:=h;have o:=Uu f n j e d a;simp only[aq.size.sizes];omega
     .rw[iN i] at h;cases h
theorem adk:∀d s t r,eY d s=some (t,r)->t.size+r.length<=s.length+1:=by
 have leaf:∀(s:aj) (t:aq) (r:aj),(if s.takeWhile fm=[] then none else some (aq.mk (s.takeWhile fm) [],s.dropWhile fm))=some (t,r)->t.size+r.length<=s.length+1:=by
  intro s t r h;split at h
  .cases h
  .simp only[Option.some.injEq,Prod.mk.injEq] at h;obtain⟨rfl,rfl⟩:=h;have a:=Ib fm s;rw[Ia,List.length_drop];simp only[aq.size,aq.size.sizes];omega
 intro d;induction d with
 |zero=>
  intro s t r h;cases s with
  |nil=>simp[eY] at h
  |cons c s=>
   simp only[eY] at h;by_cases a:c=40
   .rw[iP a] at h;cases h
   .rw[iN a] at h;exact leaf _ _ _ h
 |succ d e=>
  intro s t r h;cases s with
  |nil=>simp[eY] at h
  |cons c s=>
   simp only[eY] at h;by_cases a:c=40
   .rw[iP a] at h;cases b:jr (eY d) (s.length+1) s with
    |none=>simp[b] at h
    |some q=>obtain⟨_,_⟩:=q;simp[b] at h;have f:=Uu e _ _ _ _ b;obtain⟨rfl,rfl⟩:=h;simp only[aq.size,lC,List.length_nil];omega
   .rw[iN a] at h;exact leaf _ _ _ h
theorem Oy (h:bS s=some t):s.length<=12000:=by grind [bS]
theorem BM (h:bS s=some t):t.size<=12001:=by
 have b:=Oy h;unfold bS at h;split at h
 .cases h
 .cases a:eY 60 s with
  |none=>rw[a] at h;cases h
  |some q=>
   obtain⟨_,r⟩:=q;rw[a] at h;cases r with
   |nil=>simp at h;subst h;have:=adk _ _ _ _ a;simp at this;omega
   |cons c r=>cases h
theorem rI:∀t:aq,t.au.length<t.size
 | .mk a ps=>by simp only[aq.au,aq.size];omega
def fY (b:Bool):aq->Bool
 | .mk a ps=>if a≠[] then decide (a=[105])||(b&&decide (a=[118])) else match ps with
  |[]=>false
  |h::rest=>if h.au=[101] then oneT rest else if h.au=[116]\/h.au=[99] then nO b rest else false
 where
 oneT:List aq->Bool
  |[]=>false
  |[t]=>fY true t
  |_::_::_=>false
 nO (b:Bool):List aq->Bool
  |[]=>true
  |t::ts=>fY b t&&nO b ts
theorem Oz (a:Bool):∀ts,fY.nO a ts=ts.all (fY a)
 |[]=>rfl
 |t::ts=>by simp[fY.nO,Oz a ts]
def nth (a:List aq) (i:Nat):aq:=a.getD i<|.mk [] []
theorem et (h:i<ps.length):ps[i]?=some (nth ps i):=by grind [nth]
theorem kD (h:i<t.ag.length):(nth t.ag i).size<t.size:=Io<|et h
theorem WF.nth (h:WF t) (a:i<t.ag.length):WF (nth t.ag i):=h.part<|et a
theorem WF.pos (h:WF t) (a:t.au=[]):0<t.ag.length:=by grind [WF.first]
theorem Uv (h:t.au≠[]) (b:Bool):fY b t=(decide (t.au=[105])||(b&&decide (t.au=[118]))):=by
 cases t with
 |mk a ps=>unfold fY;exact iP h
theorem OB (c:t.au=[]) (e:0<t.ag.length) (d:(nth t.ag 0).au=[101]) (b:Bool):fY b t=(decide (t.ag.length=2)&&fY true (nth t.ag 1)):=by
 cases t with
 |mk a ps=>
  simp only[aq.au] at c;subst c;cases ps with
  |nil=>simp[aq.ag] at e
  |cons h rest=>
   have f:h.au=[101]:=d;simp only[fY,f,aq.ag,ne_eq,not_true_eq_false,if_false,if_true]
   match rest with
   |[]=>simp[fY.oneT]
   |[p]=>simp[fY.oneT,_root_.Go.Proofs.YtcildnfcpkpomaaGreatDoor.nth]
   |p::q::r=>simp[fY.oneT]
theorem OC (c:t.au=[]) (g:0<t.ag.length) (f:(nth t.ag 0).au=[116]\/(nth t.ag 0).au=[99]) (b:Bool):fY b t=(t.ag.drop 1).all (fY b):=by
 cases t with
 |mk a ps=>
  simp only[aq.au] at c;subst c;cases ps with
  |nil=>simp[aq.ag] at g
  |cons h rest=>
   have d:h.au=[116]\/h.au=[99]:=f;have e:h.au≠[101]:=by rcases d with h|h<;>rw[h]<;>decide
   simp only[fY,e,d,aq.ag,ne_eq,not_true_eq_false,if_false,if_true,Oz,List.drop_one,List.tail_cons]
theorem Uw (e:t.au=[]) (i:0<t.ag.length) (f:(nth t.ag 0).au≠[101]) (g:¬((nth t.ag 0).au=[116]\/(nth t.ag 0).au=[99])) (b:Bool):fY b t=false:=by
 cases t with
 |mk a ps=>
  simp only[aq.au] at e;subst e;cases ps with
  |nil=>simp[aq.ag] at i
  |cons h rest=>have c:h.au≠[101]:=f;have d:¬(h.au=[116]\/h.au=[99]):=g;simp only[fY,c,d,ne_eq,not_true_eq_false,if_false]
theorem Ux {f:aq->Bool} (a:i<ps.length):(ps.drop i).all f=(f (nth ps i)&&(ps.drop<|i+1).all f):=by rw[List.drop_eq_getElem_cons a,List.all_cons];simp[nth,List.getD,gE a]
theorem adn {a x y:aj} (h:(decide (a≠x)&&decide (a≠y))=false):a=x\/a=y:=by grind
theorem ado {a x y:aj} (h:(decide (a≠x)&&decide (a≠y))=true):¬(a=x\/a=y):=by grind
def uG (a:aj):Int:=match numeral a with
 |some n=>if 0<=n/\n<=39 then n else -1
 |none=> -1
def qL (a:aj):Bool:=decide<|0<=uG a
def jT (z:Int) (t:aq):Bool:=
 if z=114\/z=42 then qL t.au else if z=110 then(numeral t.au).isSome else if z=108 then oZ t.au
 else if z=101 then decide (bA t=[101])&&fY false t else fY false t
theorem Uy {b:Bool} (h:(!b)=false):b=true:=by grind
theorem Uz {b:Bool} (h:(!b)=true):b=false:=by grind
theorem BN {b:Prop} [Decidable a] [Decidable b] (h:a):decide a=(decide a||decide b):=by grind
theorem BO {b:Prop} [Decidable a] [Decidable b] (h:¬a):decide b=(decide a||decide b):=by grind
theorem OD {b c:Prop} [Decidable a] [Decidable b] [Decidable c] (h:a):decide a=(decide a||decide b||decide c):=by grind
theorem OE {b c:Prop} [Decidable a] [Decidable b] [Decidable c] (h:¬a) (d:b):decide b=(decide a||decide b||decide c):=by grind
theorem OF {b c:Prop} [Decidable a] [Decidable b] [Decidable c] (h:¬a) (d:¬b):decide c=(decide a||decide b||decide c):=by grind
theorem BP {b:Prop} [Decidable a] [Decidable b] (h:(decide a||decide b)=true):a\/b:=by simpa using h
theorem BQ {b:Prop} [Decidable a] [Decidable b] (h:(decide a||decide b)=false):¬(a\/b):=by simpa using h
theorem OG {b c:Prop} [Decidable a] [Decidable b] [Decidable c] (h:(decide a||decide b||decide c)=true):a\/b\/c:=by grind
theorem OH {b c:Prop} [Decidable a] [Decidable b] [Decidable c] (h:(decide a||decide b||decide c)=false):¬(a\/b\/c):=by grind
def shapeOf (h:aj):aj:=
 if h=[99,111,110,115,116] then[114,110]
 else if h=[109,111,118]\/h=[111,112,101,110] then[114,114]
 else if h=[97,100,100]\/h=[115,117,98]\/h=[109,117,108] then[114,114,114]
 else if h=[110,101,119] then[114,42]
 else if h=[103,101,116] then[114,114,110]
 else if h=[108,97,98]\/h=[122,101,114,111] then[114,108]
 else if h=[112,97,99,107] then[114,114,101,119]
 else if h=[106,117,109,112]\/h=[104,97,108,116] then[114]
 else[]
def OI (h:aj) (i:Nat):Int:=((h.getD (min i h.length-1) 0).toNat:Int)
def uH (t:aq):Bool:=(decide (shapeOf (bA t)≠[114,42])&&decide (t.ag.length≠(shapeOf<|bA t).length+1))||decide (t.ag.length<2)
def vR (t:aq) (i:Nat):Bool:=jT (OI (shapeOf<|bA t) i)<|nth t.ag i
def mO (t:aq):Bool:=if shapeOf (bA t)=[] then false else if uH t then false
 else decide (∀i,i<t.ag.length->1<=i->vR t i=true)&&(decide (bA t≠[103,101,116])||decide (0<=(numeral (nth t.ag 3).au).getD 0))
theorem adp (a:h=[103,101,116]):shapeOf h=[114,114,110]:=by rw[a];decide
theorem adq (h:uH t=false) (a:bA t=[103,101,116]):t.ag.length=4:=by grind [uH,adp]
theorem adr (h:uH t=false):2<=t.ag.length:=by grind [uH]
theorem OJ (h:shapeOf (bA t)≠[]):t.au=[]/\0<t.ag.length/\bA t=(nth t.ag 0).au:=by
 have c:bA t≠[]:=λd=>by rw[d] at h;exact h de
 by_cases b:t.au=[]
 .rcases Nat.eq_zero_or_pos t.ag.length with a|a
  .exact absurd (DT (.inr<|List.length_eq_zero_iff.1 a)) c
  .exact⟨b,a,Im b<|et a⟩
 .exact absurd (DT<|.inl b) c
theorem ads (h:aj):(shapeOf h).length<=4:=by grind [shapeOf]
theorem UA (a:n=t.ag.length):((decide (shapeOf (bA t)≠[114,42])&&decide ((n:Int)≠((shapeOf<|bA t).length:Int)+1))||decide ((n:Int)<2))=uH t:=by grind [uH]
theorem UB (h:shapeOf (bA t)=[]):mO t=false:=by unfold mO;rw[iP h]
theorem OK (h:uH t=true):mO t=false:=by grind [mO]
theorem adt (b:i<t.ag.length) (a:1<=i) (h:vR t i=false):mO t=false:=by grind [mO]
theorem adu (a:shapeOf (bA t)≠[]) (b:uH t=false) (h:∀i,i<t.ag.length->1<=i->vR t i=true):
  mO t=(decide (bA t≠[103,101,116])||decide (0<=(numeral (nth t.ag 3).au).getD 0)):=by grind [mO]
theorem adv (h:mO t=true):0<t.ag.length:=by
 unfold mO at h;split at h
 .cases h
 .rename_i a;exact(OJ a).2.1
def seen (f:aq->Bool) (s:aj):Bool:=match bS s with
 |some t=>f t
 |none=>false
theorem K8 {f:aq->Bool} (h:∀a,bS s=some a->t=a):((bS s).isSome&&f t)=seen f s:=by grind [bS,seen]
def K9 (t:aq):Bool:=mO t&&(decide ((nth t.ag 0).au=[106,117,109,112])||decide ((nth t.ag 0).au=[104,97,108,116]))
abbrev uI (s:aj):Bool:=seen (fY false) s
abbrev uJ (s:aj):Bool:=seen mO s
abbrev Ga (s:aj):Bool:=seen K9 s
def nob:Bk:=⟨[],[],[]⟩
abbrev cA (bs:List Bk) (i:Nat):Bk:=bs.getD i nob
theorem qM (h:i<bs.length):bs[i]?=some (cA bs i):=by grind
def l6 (bs:List Bk) (l:aj):Int:=match bs.findIdx? (λb=>decide<|b.aM=l) with
 |some i=>(i:Int)
 |none=> -1
theorem UC (hk:k<bs.length) (h:∀i,i<k->(cA bs i).aM≠l) (c:(cA bs k).aM=l):l6 bs l=(k:Int):=by
 have:bs.findIdx? (λb=>decide<|b.aM=l)=some k:=by rw[List.findIdx?_eq_some_iff_getElem];refine⟨hk,by simpa[gE hk] using c,λj a=>?_⟩;have:=h j a;simpa[gE (Nat.lt_trans a hk)] using this
 unfold l6;rw[this]
theorem adx (h:∀i,i<bs.length->(cA bs i).aM≠l):l6 bs l= -1:=by
 have:bs.findIdx? (λb=>decide<|b.aM=l)=none:=by rw[List.findIdx?_eq_none_iff];intro b hb;obtain⟨i,a,rfl⟩:=List.getElem_of_mem hb;have:=h i a;simpa[gE a] using this
 unfold l6;rw[this]
def tu (code:List aj) (i:Nat):Bool:=uJ (bM code i)&&(Ga (bM code i)==decide (i+1=code.length))
def lU (b:Bk):Bool:=oZ b.aM&&decide (b.cO.length<=40)&&(decide (1<=b.code.length)&&decide (b.code.length<=80))&&
 decide (∀i,i<b.cO.length->uI (bM b.cO i)=true)&&decide (∀i,i<b.code.length->tu b.code i=true)
def eK (bs:List Bk):Bool:=decide (∀i,i<bs.length->lU (cA bs i)=true/\l6 bs (cA bs i).aM=i)&&
 (decide (1<=bs.length)&&decide (bs.length<=40)&&decide ((cA bs 0).aM=[109,97,105,110])&&decide ((cA bs 0).cO.length=0))
theorem UD (h:(oZ b.aM&&decide (b.cO.length<=40)&&(decide (1<=b.code.length)&&decide (b.code.length<=80)))=false):lU b=false:=by unfold lU;rw[h];rfl
theorem UE (a:i<b.cO.length) (h:uI (bM b.cO i)=false):lU b=false:=by grind [lU]
theorem UF (a:i<b.code.length) (h:tu b.code i=false):lU b=false:=by grind [tu,lU]
theorem UG (h:(oZ b.aM&&decide (b.cO.length<=40)&&(decide (1<=b.code.length)&&decide (b.code.length<=80)))=true) (a:∀i,i<b.cO.length->uI (bM b.cO i)=true) 
  (c:∀i,i<b.code.length->tu b.code i=true):lU b=true:=by grind [lU]
theorem UH (b:i<bs.length) (h:¬(lU (cA bs i)=true/\l6 bs (cA bs i).aM=i)):eK bs=false:=by unfold eK;rw[dF (p:=∀i:Nat,i<bs.length->lU (cA bs i)=true/\l6 bs (cA bs i).aM=i) λa=>h (a i b)];rfl
theorem UI (h:∀i,i<bs.length->lU (cA bs i)=true/\l6 bs (cA bs i).aM=i):
  eK bs=(decide (1<=bs.length)&&decide (bs.length<=40)&&decide ((cA bs 0).aM=[109,97,105,110])&&decide ((cA bs 0).cO.length=0)):=by grind [eK]
theorem Lc (a:n1=b.cO.length) (c:n2=b.code.length):(!oZ b.aM||decide ((40:Int)<n1)||!(decide ((1:Int)<=n2)&&decide ((n2:Int)<=80)))=
  !(oZ b.aM&&decide (b.cO.length<=40)&&(decide (1<=b.code.length)&&decide (b.code.length<=80))):=by grind
theorem OL {code:List aj} (b:n=code.length) (a:i<n):(!uJ (bM code i)||(Ga (bM code i) !=decide ((i:Int)=(n:Int)-1)))=!tu code i:=by grind [tu]
def Bk.small (b:Bk):Prop:=b.aM.length<1000000000/\b.cO.length<1000000000/\b.code.length<1000000000
def o3 (bs:List Bk):Prop:=bs.length<1000000000/\∀i,i<bs.length->(cA bs i).small
theorem ady (b:n=bs.length) (a:0<bs.length->n1=(cA bs 0).cO.length):
  ((decide ((1:Int)<=n)&&decide ((n:Int)<=40))&&decide ((cA bs 0).aM=[109,97,105,110])&&decide ((n1:Int)=0))=(decide (1<=bs.length)&&decide (bs.length<=40)&&decide ((cA bs 0).aM=[109,97,105,110])&&decide ((cA bs 0).cO.length=0)):=by grind
theorem adz (s:aj):Lib.trimPrefix s [45]=eZ s:=by
 unfold Lib.trimPrefix Lib.hasPrefix eZ;cases s with
 |nil=>simp
 |cons c r=>
  by_cases h:c=45
  .subst h;simp
  .have a:((45:UInt8)==c)=false:=by simpa using λb=>h b.symm
   simp[List.isPrefixOf,a,h]
theorem UJ:∀(l:aj) (n:Nat),l.all jb=true->Lib.decFrom n l=some (l.foldl (λn c=>10*n+(c.toNat-48)) n)
 |[],n,_=>rfl
 |c::r,n,h=>by
  simp only[List.all_cons,aE] at h;have a:=(DR c).1 h.1;have b:Lib.digitVal c=some (c.toNat-48):=by unfold Lib.digitVal;rw[iP a]
  simp only[Lib.decFrom,b,List.foldl_cons];rw[show n*10+(c.toNat-48)=10*n+(c.toNat-48) from by omega];exact UJ r _ h.2
theorem adA (a:l≠[]) (h:l.all jb=true):Lib.decNat l=some (val l):=by unfold Lib.decNat;rw[iN (by simpa using a)];exact UJ l 0 h
theorem adB {z:Int} (h:numeral s=some z):Lib.atoi s=some z:=by
 unfold numeral at h;by_cases e:s=[48]
 .rw[iP e] at h;subst e;rw[<-h];decide
 .rw[iN e] at h;by_cases f:(eZ s).length<1\/3<(eZ s).length\/(eZ s).getD 0 0=48
  .rw[iP f] at h;cases h
  .rw[iN f] at h;by_cases a:(eZ s).all jb=true
   .rw[iP a] at h;have m:eZ s≠[]:=λi=>f<|.inl (by rw[i];simp);have d:=adA m a;cases s with
    |nil=>exact absurd (by unfold eZ;simp) m
    |cons c r=>
     by_cases b:c=45
     .subst b;have g:eZ (45::r)=r:=by unfold eZ;simp
      have j:sA (45::r)= -1:=by unfold sA;simp
      rw[g] at d h;rw[j] at h;simp only[Lib.atoi,d,beq_self_eq_true,if_true,Option.map_some];rw[<-h];simp
     .have g:eZ (c::r)=c::r:=by unfold eZ;simp[b]
      have j:sA (c::r)=1:=by unfold sA;simp[b]
      rw[g] at d h a;rw[j] at h;have l:=(DR c).1 (by simp only[List.all_cons,aE] at a;exact a.1);have n:(c==45)=false:=by simpa using b
      have o:(c==43)=false:=by
       have:c≠43:=λi=>by rw[i] at l;exact absurd l.1 de
       simpa using this
      simp only[Lib.atoi,n,o,d,Bool.false_eq_true,if_false,Option.map_some];rw[<-h];simp
   .rw[iN a] at h;cases h
theorem UM {z:Int} (h:numeral s=some z):s.length<=4:=by grind [numeral,eZ]
theorem adC (s:aj):(decide (s=[48])||(decide (1<=(eZ s).length)&&decide ((eZ s).length<=3)&&(eZ s).all jb&&decide ((eZ s).getD 0 0≠48)))=(numeral s).isSome:=by grind [eZ,jb,numeral]
theorem adD (s:aj):((numeral s).isSome&&(decide (0<=(numeral s).getD 0)&&decide ((numeral s).getD 0<=39)))=qL s:=by grind [numeral,qL,uG]
theorem adE (hk:k<s.length) (h:jb (s.getD k 0)=false):s.all jb=false:=by grind
theorem adF (s:aj):(decide (s=[48])||(decide ((1:Int)<=((eZ s).length:Int))&&decide (((eZ s).length:Int)<=3)&&(eZ s).all jb&&decide ((((eZ s).getD 0 0).toNat:Int)≠48)))=(numeral s).isSome:=by
 rw[<-adC,show decide ((1:Int)<=((eZ s).length:Int))=decide (1<=(eZ s).length) from decide_eq_decide.2 om,show decide (((eZ s).length:Int)<=3)=decide ((eZ s).length<=3) from decide_eq_decide.2 om,
  show decide ((((eZ s).getD 0 0).toNat:Int)≠48)=decide ((eZ s).getD 0 0≠48) from decide_eq_decide.2 (by
   have b:(48:UInt8).toNat=48:=rfl;constructor
   .intro h a;exact h (by rw[a];rfl)
   .intro h a;exact h (UInt8.toNat_inj.1 om))]
def DU (a:List aq) (g:aq->Bool):Int:=match a.findIdx? g with
 |some i=>(i:Int)
 |none=> -1
theorem xp (h:i<ts.length):nth ts i=ts[i]:=by grind [nth]
theorem adG {g:aq->Bool} (hk:k<ts.length) (h:∀i,i<k->g (nth ts i)=false) (b:g (nth ts k)=true):DU ts g=(k:Int):=by
 have:ts.findIdx? g=some k:=by rw[List.findIdx?_eq_some_iff_getElem];refine⟨hk,by rw[<-xp hk];exact b,λj a=>?_⟩;have:=h j a;rw[xp (Nat.lt_trans a hk)] at this;simpa using this
 unfold DU;rw[this]
theorem adH {g:aq->Bool} (h:∀i,i<ts.length->g (nth ts i)=false):DU ts g= -1:=by grind [xp,DU,List.findIdx?_eq_none_iff,List.getElem_of_mem]
theorem adI (a:List aq) (g:aq->Bool):decide (0<=DU a g)=a.any g:=by grind [DU]
def eA (h:aj) (n:Nat):aj:=
 if h=[99,111,110,115,116] then[100,110]
 else if h=[109,111,118]\/h=[111,112,101,110] then[100,115]
 else if h=[97,100,100]\/h=[115,117,98]\/h=[109,117,108] then[100,115,115]
 else if h=[110,101,119] then[100]++List.replicate (n-2) 115
 else if h=[103,101,116] then[100,115,109]
 else if h=[108,97,98] then[100,108]
 else if h=[112,97,99,107] then[100,115,69,87]
 else if h=[122,101,114,111] then[115,108]
 else if h=[106,117,109,112]\/h=[104,97,108,116] then[115]
 else[]
def iC (z:Int) (t:aq):Bool:=
 if z=100\/z=115 then qL t.au else if z=110 then(numeral t.au).isSome
 else if z=109 then(numeral t.au).isSome&&decide (0<=(numeral t.au).getD 0)
 else if z=108 then oZ t.au else if z=69 then(decide (t.ag.length=2)&&decide (bA t=[101]))&&fY false t
 else if z=87 then fY false t else false
def mP (t:aq):Bool:=
 if eA (bA t) t.ag.length=[]\/t.ag.length≠(eA (bA t) t.ag.length).length+1 then false
 else decide (∀i,i<(eA (bA t) t.ag.length).length->iC (((eA (bA t) t.ag.length).getD i 0).toNat:Int) (nth t.ag (i+1))=true)
theorem Ld (h:eA (bA t) t.ag.length=[]\/t.ag.length≠(eA (bA t) t.ag.length).length+1):mP t=false:=by unfold mP;rw[iP h]
theorem adJ (a:i<(eA (bA t) t.ag.length).length) (h:iC (((eA (bA t) t.ag.length).getD i 0).toNat:Int) (nth t.ag<|i+1)=false):mP t=false:=by grind [mP]
theorem adK (h:¬(eA (bA t) t.ag.length=[]\/t.ag.length≠(eA (bA t) t.ag.length).length+1)) 
  (a:∀i,i<(eA (bA t) t.ag.length).length->iC (((eA (bA t) t.ag.length).getD i 0).toNat:Int) (nth t.ag (i+1))=true):mP t=true:=by grind [mP]
theorem shift {P Q:Nat->Prop} (h:∀i,i<n->(P i↔Q (i+1))):(∀i,i<n->P i)↔(∀i,i<n+1->1<=i->Q i):=by
 constructor
 .intro b i a _;have:=(h (i-1) om).1<|b (i-1) om;rwa [show i-1+1=i from by omega] at this
 .intro c i a;exact(h i a).2 (c (i+1) om om)
theorem BR (e a:aj) (ex:Nat->aq->Bool) (m:eA (bA t) t.ag.length=e) (g:shapeOf (bA t)=a) (c:e.length=a.length) (l:a≠[]) (f:a≠[114,42]) 
  (n:∀i u,i<a.length->iC ((e.getD i 0).toNat:Int) u=(jT ((a.getD i 0).toNat:Int) u&&ex i u))
  (q:t.ag.length=a.length+1->(decide (bA t≠[103,101,116])||decide (0<=(numeral (nth t.ag 3).au).getD 0))=decide (∀i,i<a.length->ex i (nth t.ag (i+1))=true)):mP t=mO t:=by
 have r:1<=a.length:=List.length_pos_iff.2 l;have j:e≠[]:=λh=>by rw[h] at c;simp at c;omega
 by_cases d:t.ag.length=a.length+1
 .unfold mP mO uH;rw[m,g,iN (by rw[c];rintro(h|h);exact j h;exact h d),iN l,q d];rw[iN (by rw[dF (p:=t.ag.length≠a.length+1) om,dF (p:=t.ag.length<2) om];simp),<-Bool.decide_and,decide_eq_decide,c,d];rw[<-shift (P:=λi=>jT ((a.getD i 0).toNat:Int) (nth t.ag<|i+1)=true) λi b=>by
   unfold vR OI;rw[g,show min (i+1) a.length-1=i from by omega]]
  constructor
  .intro h;refine⟨λi b=>?_,λi b=>?_⟩<;>
   .have:=h i b;rw[n i _ b,aE] at this
    first|exact this.1|exact this.2
  .rintro⟨o,hb⟩ i b;rw[n i _ b,o i b,hb i b];rfl
 .rw[Ld<|.inr (by rw[m,c];exact d),OK];unfold uH;rw[g,dT f,dT d];rfl
theorem adM (n:Nat) (u:Nat->aq):decide (∀i,i<n->(fun(_:Nat) (_:aq)=>true) i (u i)=true)=true:=by grind
theorem adN (u:aq):((decide (u.ag.length=2)&&decide (bA u=[101]))&&fY false u)=(decide (bA u=[101])&&fY false u):=by grind [DT,dC.length,Im,et,OB]
theorem adO {P:Nat->Prop} (h:n<=4) (a:P 0) (b:2<=n->P 1) (c:3<=n->P 2) (d:4<=n->P 3):∀i,i<n->P i:=by grind
theorem BS {b a:aj} {ex:Nat->aq->Bool} (g:a.length<=4) (c:∀u,iC ((b.getD 0 0).toNat:Int) u=(jT ((a.getD 0 0).toNat:Int) u&&ex 0 u)) (d:∀u,2<=a.length->iC ((b.getD 1 0).toNat:Int) u=(jT ((a.getD 1 0).toNat:Int) u&&ex 1 u)) 
  (e:∀u,3<=a.length->iC ((b.getD 2 0).toNat:Int) u=(jT ((a.getD 2 0).toNat:Int) u&&ex 2 u)) (f:∀u,4<=a.length->iC ((b.getD 3 0).toNat:Int) u=(jT ((a.getD 3 0).toNat:Int) u&&ex 3 u)):
  ∀i u,i<a.length->iC ((b.getD i 0).toNat:Int) u=(jT ((a.getD i 0).toNat:Int) u&&ex i u):=by grind
theorem OM (u:aq):iC 100 u=qL u.au:=by simp[iC]
theorem Le (u:aq):iC 115 u=qL u.au:=by simp[iC]
theorem adP (u:aq):iC 110 u=(numeral u.au).isSome:=by simp[iC]
theorem OO (u:aq):iC 109 u=((numeral u.au).isSome&&decide (0<=(numeral u.au).getD 0)):=by simp[iC]
theorem adQ (u:aq):iC 108 u=oZ u.au:=by simp[iC]
theorem OP (u:aq):iC 69 u=((decide (u.ag.length=2)&&decide (bA u=[101]))&&fY false u):=by simp[iC]
theorem adR (u:aq):iC 87 u=fY false u:=by simp[iC]
theorem OQ (u:aq):jT 114 u=qL u.au:=by simp[jT]
theorem adS (u:aq):jT 42 u=qL u.au:=by simp[jT]
theorem UN (u:aq):jT 110 u=(numeral u.au).isSome:=by simp[jT]
theorem adT (u:aq):jT 108 u=oZ u.au:=by simp[jT]
theorem adU (u:aq):jT 101 u=(decide (bA u=[101])&&fY false u):=by simp[jT]
theorem adV (u:aq):jT 119 u=fY false u:=by simp[jT]
theorem Gb (u:aq):iC 100 u=(jT 114 u&&true):=by rw[OM,OQ,Bool.and_true]
theorem DV (u:aq):iC 115 u=(jT 114 u&&true):=by rw[Le,OQ,Bool.and_true]
theorem adW (u:aq):iC 110 u=(jT 110 u&&true):=by rw[adP,UN,Bool.and_true]
theorem adX (u:aq):iC 109 u=(jT 110 u&&decide (0<=(numeral u.au).getD 0)):=by rw[OO,UN]
theorem UO (u:aq):iC 108 u=(jT 108 u&&true):=by rw[adQ,adT,Bool.and_true]
theorem adY (u:aq):iC 69 u=(jT 101 u&&true):=by rw[OP,adU,Bool.and_true,adN]
theorem adZ (u:aq):iC 87 u=(jT 119 u&&true):=by rw[adR,adV,Bool.and_true]
theorem ad0 (h:bA t=[110,101,119]):mP t=mO t:=by
 have a:eA (bA t) t.ag.length=[100]++List.replicate (t.ag.length-2) 115:=by rw[h];rfl
 have d:shapeOf (bA t)=[114,42]:=by rw[h];rfl
 have c:(eA (bA t) t.ag.length).length=t.ag.length-2+1:=by rw[a];simp
 by_cases g:2<=t.ag.length
 .unfold mP mO uH;rw[iN (by rw[c];rintro(b|b);(·rw[a] at b;simp at b);(·omega)),d,iN de,
   iN (by rw[dF (p:=t.ag.length<2) om];simp),dT (p:=bA t≠[103,101,116]) (by rw[h];decide),Bool.true_or,Bool.and_true,decide_eq_decide,c]
  rw[show(∀i,i<t.ag.length->1<=i->vR t i=true)↔(∀i,i<(t.ag.length-2+1)+1->1<=i->vR t i=true) from by rw[show t.ag.length-2+1+1=t.ag.length from by omega]];refine shift λi _=>?_;have e:iC (((eA (bA t) t.ag.length).getD i 0).toNat:Int) (nth t.ag<|i+1)=qL (nth t.ag<|i+1).au:=by
   rw[a];cases i with
   |zero=>exact OM _
   |succ i=>
    have:([100]++List.replicate (t.ag.length-2) (115:UInt8)).getD (i+1) 0=115:=by simp[List.getD,show i<t.ag.length-2 from by omega]
    rw[this];exact Le _
  have f:vR t (i+1)=qL (nth t.ag<|i+1).au:=by
   unfold vR OI;rw[d];cases i with
   |zero=>exact OQ _
   |succ i=>rw[show min (i+1+1) ([114,42]:aj).length-1=1 from by simp];exact adS _
  rw[e,f]
 .rw[Ld<|.inr (by rw[c];omega),OK];unfold uH;rw[dT (p:=t.ag.length<2) om,Bool.or_true]
theorem UP (t:aq):mP t=mO t:=by
 have a:∀{m:aj},bA t≠[103,101,116]->(t.ag.length=m.length+1->(decide (bA t≠[103,101,116])||decide (0<=(numeral (nth t.ag 3).au).getD 0))=decide (∀i,i<m.length->(fun(_:Nat) (_:aq)=>true) i (nth t.ag<|i+1)=true)):=by intro m h _;rw[adM _ λi=>nth t.ag<|i+1,dT h];rfl
 by_cases c1:bA t=[99,111,110,115,116]
 .exact BR [100,110] [114,110] (λ_ _=>true) (by rw[c1];rfl) (by rw[c1];rfl) rfl de de
   (BS de (λu=>Gb u) (λu _=>adW u) (λ_ h=>absurd h de) λ_ h=>absurd h de) (a (by rw[c1];decide))
 by_cases c2:bA t=[109,111,118]\/bA t=[111,112,101,110]
 .exact BR [100,115] [114,114] (λ_ _=>true) (by rcases c2 with c|c<;>rw[c]<;>rfl) (by rcases c2 with c|c<;>rw[c]<;>rfl) rfl de de
   (BS de (λu=>Gb u) (λu _=>DV u) (λ_ h=>absurd h de) λ_ h=>absurd h de) (a (by rcases c2 with c|c<;>rw[c]<;>decide))
 by_cases b:bA t=[97,100,100]\/bA t=[115,117,98]\/bA t=[109,117,108]
 .exact BR [100,115,115] [114,114,114] (λ_ _=>true) (by rcases b with c|c|c<;>rw[c]<;>rfl) (by rcases b with c|c|c<;>rw[c]<;>rfl) rfl de de
   (BS de (λu=>Gb u) (λu _=>DV u) (λu _=>DV u) λ_ h=>absurd h de) (a (by rcases b with c|c|c<;>rw[c]<;>decide))
 by_cases l:bA t=[110,101,119]
 .exact ad0 l
 by_cases d:bA t=[103,101,116]
 .refine BR [100,115,109] [114,114,110] (λi u=>if i=2 then decide (0<=(numeral u.au).getD 0) else true) (by rw[d];rfl) (by rw[d];rfl) rfl de de
   (BS de (λu=>Gb u) (λu _=>DV u) (λu _=>adX u) λ_ h=>absurd h de) λ_=>?_
  rw[show decide (bA t≠[103,101,116])=false from dF λh=>h d,Bool.false_or];refine decide_eq_decide.2 ⟨λh=>adO de rfl (λ_=>rfl) (λ_=>by simpa using h) λh=>by simp at h,λh=>by simpa using h 2 de⟩
 by_cases e:bA t=[108,97,98]
 .exact BR [100,108] [114,108] (λ_ _=>true) (by rw[e];rfl) (by rw[e];rfl) rfl de de
   (BS de (λu=>Gb u) (λu _=>UO u) (λ_ h=>absurd h de) λ_ h=>absurd h de) (a (by rw[e];decide))
 by_cases f:bA t=[112,97,99,107]
 .exact BR [100,115,69,87] [114,114,101,119] (λ_ _=>true) (by rw[f];rfl) (by rw[f];rfl) rfl de de
   (BS de (λu=>Gb u) (λu _=>DV u) (λu _=>adY u) λu _=>adZ u) (a (by rw[f];decide))
 by_cases g:bA t=[122,101,114,111]
 .exact BR [115,108] [114,108] (λ_ _=>true) (by rw[g];rfl) (by rw[g];rfl) rfl de de
   (BS de (λu=>DV u) (λu _=>UO u) (λ_ h=>absurd h de) λ_ h=>absurd h de) (a (by rw[g];decide))
 by_cases j:bA t=[106,117,109,112]\/bA t=[104,97,108,116]
 .exact BR [115] [114] (λ_ _=>true) (by rcases j with c|c<;>rw[c]<;>rfl) (by rcases j with c|c<;>rw[c]<;>rfl) rfl de de
   (BS de (λu=>DV u) (λ_ h=>absurd h de) (λ_ h=>absurd h de) λ_ h=>absurd h de) (a (by rcases j with c|c<;>rw[c]<;>decide))
 .have n:eA (bA t) t.ag.length=[]:=by unfold eA;rw[iN c1,iN c2,iN b,iN l,iN d,iN e,iN f,iN g,iN j]
  have o:shapeOf (bA t)=[]:=by unfold shapeOf;rw[iN c1,iN c2,iN b,iN l,iN d,iN (λh=>by rcases h with h|h;exact e h;exact g h),iN f,iN j]
  rw[Ld<|.inl n,UB o]
theorem ad1 (h:aj) (n:Nat):(eA h n).length<=n+4:=by grind [eA]
theorem OR (h:WF t):2<=t.size:=by
 cases h with
 |au a b=>have:=List.length_pos_iff.2 b;simp only[aq.size];omega
 |list ps c _=>
  cases ps with
  |nil=>exact absurd rfl c
  |cons q r=>cases q;simp only[aq.size,aq.size.sizes];omega
theorem UQ:∀{ps:List aq},(∀p∈ps,WF p)->2*ps.length<=aq.size.sizes ps
 |[],_=>by simp[aq.size.sizes]
 |q::ps,h=>by have b:=OR<|h q sm;have c:=UQ (ps:=ps) λp a=>h p (by simp[a]);simp only[aq.size.sizes,lC];omega
theorem UR (h:WF t):2*t.ag.length+1<=t.size:=by cases h<;>grind [aq.ag,aq.size,UQ]
def Ip (t:aq):Bool:=decide (bA t=[106,117,109,112])||decide (bA t=[104,97,108,116])
theorem UT (h:mO t=true):bA t=(nth t.ag 0).au:=by grind [mO,bA,nth,aq.ag,OJ]
theorem ad2 (h:mO t=true):K9 t=Ip t:=by unfold K9 Ip;rw[h,UT h];rfl
inductive Good:aq->Prop
 |au (a:aj) (h:a≠[]) (hb:a.all fm=true):Good (.mk a [])
 |list (ps:List aq) (h:ps≠[]) (hp:∀p∈ps,Good p):Good (.mk [] ps)
theorem Good.wf (h:Good t):WF t:=by
 induction h with
 |au a h _=>exact .au a h
 |list ps h _ b=>exact .list ps h b
theorem Good.part (h:Good t) (b:t.ag[i]?=some p):Good p:=by
 cases h with
 |au a _ _=>simp[aq.ag] at b
 |list ps _ c=>exact c p<|List.mem_of_getElem? b
theorem Good.nth (h:Good t) (a:i<t.ag.length):Good (nth t.ag i):=h.part<|et a
def aq.depth:aq->Nat
 | .mk _ ps=>deeps ps
 where deeps:List aq->Nat
 |[]=>0
 |t::ts=>max (t.depth+1)<|deeps ts
theorem UU:∀{p:aq},p∈ps->p.depth+1<=aq.depth.deeps ps:=by
 induction ps with
 |nil=>intro p h;simp at h
 |cons q ps a=>
  intro p h;rcases mC.1 h with rfl|h
  .simp only[aq.depth.deeps];omega
  .have:=a h;simp only[aq.depth.deeps];omega
theorem Lf:∀{ps:List aq},(∀p∈ps,p.depth+1<=d)->aq.depth.deeps ps<=d
 |[],_=>by simp[aq.depth.deeps]
 |q::ps,h=>by have b:=h q sm;have c:=Lf (ps:=ps) λp a=>h p (by simp[a]);simp only[aq.depth.deeps];omega
theorem sB {a:aj} (h:a≠[]):(aq.mk a ps).text=a:=by simp[aq.text,h]
theorem tw (a:List aq):(aq.mk [] a).text=40::(l5 a++[41]):=by simp[aq.text]
theorem rJ (t:aq):l5 [t]=t.text:=by simp[l5]
theorem rK (t u:aq) (r:List aq):l5 (t::u::r)=t.text++32::l5 (u::r):=by simp[l5]
theorem UW {rd:aj->Option (aq×aj)} (i:∀s t r,rd s=some (t,r)->s=t.text++r):∀n s ts r,jr rd n s=some (ts,r)->ts≠[]/\s=l5 ts++41::r
 |0,_,_,_,h=>by simp[jr] at h
 |n+1,s,ts,r,h=>by
  unfold jr at h;cases f:rd s with
  |none=>simp[f] at h
  |some q=>
   obtain⟨t,m⟩:=q;have j:=i s t m f;simp only[f] at h;cases m with
   |nil=>simp at h
   |cons c l=>
    simp only at h;by_cases b:c=41
    .rw[iP b] at h;simp at h;obtain⟨rfl,rfl⟩:=h;exact⟨by simp,by rw[j,b,rJ]⟩
    .rw[iN b] at h;by_cases d:c=32
     .rw[iP d] at h;cases e:jr rd n l with
      |none=>simp[e] at h
      |some q=>
       obtain⟨a,g⟩:=q;simp[e] at h;obtain⟨rfl,rfl⟩:=h;obtain⟨o,p⟩:=UW i n l a g e;cases a with
       |nil=>exact absurd rfl o
       |cons u _=>exact⟨by simp,by rw[j,d,rK,p];simp⟩
     .rw[iN d] at h;cases h
theorem ad3:∀d s t r,eY d s=some (t,r)->s=t.text++r:=by
 have leaf:∀(s:aj) (t:aq) (r:aj),(if s.takeWhile fm=[] then none else some (aq.mk (s.takeWhile fm) [],s.dropWhile fm))=some (t,r)->s=t.text++r:=by
  intro s t r h;split at h
  .cases h
  .rename_i f;simp only[Option.some.injEq,Prod.mk.injEq] at h;rw[<-h.1,<-h.2,sB f,List.takeWhile_append_dropWhile]
 intro d;induction d with
 |zero=>
  intro s t r h;cases s with
  |nil=>simp[eY] at h
  |cons c s=>
   simp only[eY] at h;by_cases a:c=40
   .rw[iP a] at h;cases h
   .rw[iN a] at h;exact leaf _ _ _ h
 |succ d g=>
  intro s t r h;cases s with
  |nil=>simp[eY] at h
  |cons c s=>
   simp only[eY] at h;by_cases a:c=40
   .rw[iP a] at h;cases b:jr (eY d) (s.length+1) s with
    |none=>simp[b] at h
    |some q=>obtain⟨_,_⟩:=q;simp[b] at h;obtain⟨_,e⟩:=UW g _ _ _ _ b;rw[<-h.1,<-h.2,tw,a,e];simp
   .rw[iN a] at h;exact leaf _ _ _ h
theorem UX {rd:aj->Option (aq×aj)} (d:Nat) (g:∀s t r,rd s=some (t,r)->Good t/\t.depth<=d):∀n s ts r,jr rd n s=some (ts,r)->ts≠[]/\∀p∈ts,Good p/\p.depth<=d
 |0,_,_,_,h=>by simp[jr] at h
 |n+1,s,ts,r,h=>by
  unfold jr at h;cases b:rd s with
  |none=>simp[b] at h
  |some q=>
   obtain⟨t,o⟩:=q;have l:=g s t o b;simp only[b] at h;cases o with
   |nil=>simp at h
   |cons c m=>
    simp only at h;by_cases i:c=41
    .rw[iP i] at h;simp at h;obtain⟨rfl,_⟩:=h;exact⟨by simp,by intro p a;simp at a;subst a;exact l⟩
    .rw[iN i] at h;by_cases j:c=32
     .rw[iP j] at h;cases a:jr rd n m with
      |none=>simp[a] at h
      |some q=>obtain⟨f,e⟩:=q;simp[a] at h;obtain⟨rfl,_⟩:=h;obtain⟨_,u⟩:=UX d g n m f e a;exact⟨by simp,by intro p a;rcases mC.1 a with rfl|a;exact l;exact u p a⟩
     .rw[iN j] at h;cases h
theorem all_takeWhile (p:UInt8->Bool):∀s:aj,(s.takeWhile p).all p=true:=by simp_all
theorem ad4:∀d s t r,eY d s=some (t,r)->Good t/\t.depth<=d:=by
 have leaf:∀(d:Nat) (s:aj) (t:aq) (r:aj),(if s.takeWhile fm=[] then none else some (aq.mk (s.takeWhile fm) [],s.dropWhile fm))=some (t,r)->Good t/\t.depth<=d:=by
  intro d s t r h;split at h
  .cases h
  .rename_i g;simp only[Option.some.injEq,Prod.mk.injEq] at h;rw[<-h.1];exact⟨.au _ g<|all_takeWhile _ _,by simp[aq.depth,aq.depth.deeps]⟩
 intro d;induction d with
 |zero=>
  intro s t r h;cases s with
  |nil=>simp[eY] at h
  |cons c s=>
   simp only[eY] at h;by_cases b:c=40
   .rw[iP b] at h;cases h
   .rw[iN b] at h;exact leaf _ _ _ _ h
 |succ d i=>
  intro s t r h;cases s with
  |nil=>simp[eY] at h
  |cons c s=>
   simp only[eY] at h;by_cases b:c=40
   .rw[iP b] at h;cases a:jr (eY d) (s.length+1) s with
    |none=>simp[a] at h
    |some q=>obtain⟨_,_⟩:=q;simp[a] at h;obtain⟨f,e⟩:=UX d i _ _ _ _ a;rw[<-h.1];exact⟨.list _ f λp a=>(e p a).1,Lf λp a=>by have:=(e p a).2;omega⟩
   .rw[iN b] at h;exact leaf _ _ _ _ h
def Stop (r:aj):Prop:=∀c,r[0]?=some c->fm c=false
theorem OS {p:UInt8->Bool}:∀{a r:aj},a.all p=true->(∀c,r[0]?=some c->p c=false)->(a++r).takeWhile p=a/\(a++r).dropWhile p=r
 |[],[],_,_=>⟨rfl,rfl⟩
 |[],c::r,_,h=>by have:=h c rfl;simp[this]
 |c::a,r,ha,h=>by simp only[List.all_cons,aE] at ha;obtain⟨b,d⟩:=OS (a:=a) ha.2 h;simp[ha.1,b,d]
theorem UY (h:Good t):∃c r,t.text=c::r:=by
 cases h with
 |au a b _=>
  rw[sB b];cases a with
  |nil=>exact absurd rfl b
  |cons c r=>exact⟨c,r,rfl⟩
 |list ps _ _=>exact⟨_,_,tw ps⟩
theorem UZ {rd:aj->Option (aq×aj)}:∀(ts:List aq) (n:Nat) (r:aj),ts≠[]->ts.length<=n->(∀t∈ts,∀r,Stop r->rd (t.text++r)=some (t,r))->jr rd n (l5 ts++41::r)=some (ts,r)
 |[],_,_,h,_,_=>absurd rfl h
 |[t],n,r,_,b,h=>by
  cases n with
  |zero=>simp at b
  |succ n=>unfold jr;rw[rJ,h t sm (41::r) (by intro c a;simp at a;subst a;decide)];simp
 |t::u::us,n,r,_,b,h=>by
  cases n with
  |zero=>simp at b
  |succ n=>unfold jr;rw[rK,List.append_assoc,List.cons_append,h t sm (32::(l5 (u::us)++41::r)) (by intro c a;simp at a;subst a;decide)];have:=UZ (rd:=rd) (u::us) n r sm (by simp at b⊢;omega) λt d=>h t (by simp at d⊢;exact .inr d);simp[this]
theorem U0:∀ts:List aq,(∀t∈ts,Good t)->ts.length<=(l5 ts).length
 |[],_=>by simp
 |[t],h=>by obtain⟨c,r,e⟩:=UY<|h t sm;rw[rJ,e];simp
 |t::u::us,h=>by have:=U0 (u::us) λt a=>h t (by simp at a⊢;exact .inr a);rw[rK];simp at this⊢;omega
theorem OT:∀(d:Nat) (t:aq) (r:aj),Good t->t.depth<=d->Stop r->eY d (t.text++r)=some (t,r):=by
 intro d;induction d with
 |zero=>
  intro t r l j i;cases l with
  |au a g hb=>
   obtain⟨c,b,rfl⟩:∃c b,a=c::b:=by cases a with|nil=>exact absurd rfl g|cons c r=>exact⟨c,r,rfl⟩
   rw[sB g,List.cons_append,Ig 0 c _ (by rintro rfl;simp at hb;exact absurd hb.1 de)];obtain⟨e,f⟩:=OS hb i;rw[List.cons_append] at e f;rw[e,f,iN sm]
  |list ps m n=>
   cases ps with
   |nil=>exact absurd rfl m
   |cons q ps=>simp[aq.depth,aq.depth.deeps] at j
 |succ d p=>
  intro t r l j i;cases l with
  |au a g hb=>
   obtain⟨c,b,rfl⟩:∃c b,a=c::b:=by cases a with|nil=>exact absurd rfl g|cons c r=>exact⟨c,r,rfl⟩
   rw[sB g,List.cons_append,Ig (d+1) c _ (by rintro rfl;simp at hb;exact absurd hb.1 de)];obtain⟨e,f⟩:=OS hb i;rw[List.cons_append] at e f;rw[e,f,iN sm]
  |list ps m n=>
   rw[tw,List.cons_append,F7];have:=UZ (rd:=eY d) ps ((l5 ps++[41]++r).length+1) r m (by have:=U0 ps n;simp at this⊢;omega)
    λt o r i=>p t r (n t o) (by have:=UU o;simp only[aq.depth] at j;omega) i
   unfold ov;rw[show rT (d+1)=eY d from funext λ_=>rfl];rw[show l5 ps++[41]++r=l5 ps++41::r from by simp] at this⊢;rw[this];rfl
theorem Lg {u:aq} (h:Good t) (k:Good u) (e:t.text=u.text):t=u:=by have a:=OT (max t.depth u.depth) t [] h om (by intro c b;simp at b);have d:=OT (max t.depth u.depth) u [] k om (by intro c b;simp at b);rw[e,d] at a;simp at a;exact a.symm
theorem vS (h:bS s=some t):Good t/\t.depth<=60/\t.text=s/\s.length<=12000:=by
 have e:=Oy h;unfold bS at h;split at h
 .cases h
 .cases a:eY 60 s with
  |none=>rw[a] at h;cases h
  |some q=>
   obtain⟨_,r⟩:=q;rw[a] at h;cases r with
   |nil=>simp at h;subst h;have b:=ad4 _ _ _ _ a;have d:=ad3 _ _ _ _ a;exact⟨b.1,b.2,by rw[d];simp,e⟩
   |cons c r=>cases h
theorem ad5 (h:Good t):bS t.text=if t.depth<=60/\t.text.length<=12000 then some t else none:=by
 split
 .rename_i a;unfold bS;have:=OT 60 t [] h a.1 (by intro c a;simp at a);rw[List.append_nil] at this;rw[iN om,this]
 .rename_i a;cases g:bS t.text with
  |none=>rfl
  |some u=>obtain⟨b,d,e,f⟩:=vS g;have:=Lg b h e;subst this;exact absurd ⟨d,f⟩ a
theorem OU (h:Good t) (a:t.depth<=60) (b:t.text.length<=12000):bS t.text=some t:=by grind [ad5]
theorem ad6:∀{p:aq},p∈ps->p.text.length<=(l5 ps).length:=by
 induction ps with
 |nil=>intro p h;simp at h
 |cons q ps a=>
  intro p h;cases ps with
  |nil=>simp at h;subst h;rw[rJ];exact lR _
  |cons u _=>
   rw[rK];rcases mC.1 h with rfl|h
   .simp
   .have:=a h;simp at this⊢;omega
theorem Good.sub (h:Good t) (b:t.ag[i]?=some p):Good p/\p.depth+1<=t.depth/\p.text.length+2<=t.text.length:=by
 refine⟨h.part b,?_,?_⟩
 .cases t with
  |mk a ps=>exact UU<|List.mem_of_getElem? b
 .cases h with
  |au a _ _=>simp[aq.ag] at b
  |list ps _ _=>have:=ad6<|List.mem_of_getElem? b;rw[tw];simp;exact this
def aq.len:aq->Nat
 | .mk a ps=>if ps=[] then a.length else 1+lens ps
 where lens:List aq->Nat
 |[]=>0
 |t::ts=>t.len+1+lens ts
theorem U1:∀ps:List aq,ps≠[]->(∀p∈ps,p.len=p.text.length)->aq.len.lens ps=(l5 ps).length+1
 |[],h,_=>absurd rfl h
 |[t],_,h=>by rw[rJ];simp only[aq.len.lens,h t sm]
 |t::u::us,_,h=>by have:=U1 (u::us) sm λp a=>h p (by simp at a⊢;exact .inr a);rw[rK];simp only[aq.len.lens,h t sm,lA,lC] at this⊢;omega
theorem BT (h:WF t):t.len=t.text.length:=by
 induction h with
 |au a c=>rw[sB c];simp[aq.len]
 |list ps b _ d=>rw[tw];simp only[aq.len,b,if_false,U1 ps b d,lC,lA,List.length_nil];omega
structure cM where
 aM:aj
 regs:List aq
 code:List aq
def tr (s:aj):aq:=(bS s).getD<|.mk [] []
theorem Iq (h:bS s=some t):tr s=t:=by unfold tr;rw[h];rfl
def dv (b:Bk):cM:=⟨b.aM,b.cO.map tr,b.code.map tr⟩
def BU (b:Bk):Bool:=decide<|b.aM.length<=12000
def pC (b:Bk):Bool:=lU b&&BU b
def jl (bs:List Bk):Bool:=eK bs&&bs.all BU
def bJ (a:aj):aq:=.mk a []
def mu (h:aj) (a:List aq):aq:=.mk [] (bJ h::a)
def rL (a:List aj):aj:=a.flatMap λp=>32::p
def eM (h:aj) (a:List aj):aj:=40::(h++rL a++[41])
theorem U2 (t:aq):∀ts:List aq,l5 (t::ts)=t.text++rL (ts.map aq.text)
 |[]=>by rw[rJ];simp[rL]
 |u::us=>by rw[rK,U2 u us];simp[rL]
theorem U3 (b:h≠[]) (a:List aq):(mu h a).text=eM h (a.map aq.text):=by unfold mu eM;rw[tw,U2];simp[bJ,sB b]
theorem Lh (b:h≠[]) (c:h.all fm=true) (d:∀t∈ts,Good t):Good (mu h ts):=by
 refine .list _ sm λp a=>?_;rcases mC.1 a with rfl|a
 .exact .au _ b c
 .exact d p a
theorem Ir (h:lU b=true):oZ b.aM=true/\(∀s∈b.cO,∃t,bS s=some t/\fY false t=true)/\∀s∈b.code,∃t,bS s=some t/\mO t=true:=by
 unfold lU at h;simp only[aE,dE] at h;obtain⟨⟨⟨⟨e,_⟩,_⟩,f⟩,g⟩:=h;refine⟨e,λs d=>?_,λs d=>?_⟩
 .obtain⟨i,a,rfl⟩:=List.getElem_of_mem d;have:=f i a;rw[bM,gG,gE a] at this;simp only[Option.getD_some] at this;unfold uI seen at this;cases c:bS b.cO[i] with
  |none=>rw[c] at this;cases this
  |some t=>rw[c] at this;exact⟨t,rfl,this⟩
 .obtain⟨i,a,rfl⟩:=List.getElem_of_mem d;have:=g i a;unfold tu at this;rw[aE] at this;have:=this.1;rw[bM,gG,gE a] at this;simp only[Option.getD_some] at this;unfold uJ seen at this;cases c:bS b.code[i] with
  |none=>rw[c] at this;cases this
  |some t=>rw[c] at this;exact⟨t,rfl,this⟩
theorem Gc (h:eK bs=true):∀b∈bs,lU b=true:=by grind [eK,List.getElem_of_mem,gE]
def sC (t:aq):Bool:=decide (t.depth<=60)&&decide (t.len<=12000)
def Ab:List aq->aj
 |[]=>[]
 |h::_=>h.au
mutual
def dW (y:aq):aq->aq
 | .mk a ps=>if a=[118] then y else if a≠[]\/Ab ps=[101] then .mk a ps else .mk [] (Ac y ps)
def Ac (y:aq):List aq->List aq
 |[]=>[]
 |t::ts=>dW y t::Ac y ts
end
theorem Lj (y:aq):∀ps,Ac y ps=ps.map (dW y)
 |[]=>by simp[Ac]
 |t::ts=>by simp[Ac,Lj y ts]
theorem OV (a:List aq):bA (.mk [] a)=Ab a:=by cases a<;>simp[bA,Ab,aq.au,aq.ag]
theorem OX (f:Good y) (h:Good t):Good (dW y t):=by
 induction h with
 |au a b hb=>
  unfold dW;split
  .exact f
  .rw[iP (.inl b)];exact .au a b hb
 |list ps c e g=>
  unfold dW;rw[iN de];split
  .exact .list ps c e
  .rw[Lj];refine .list _ (by simpa using c) λp i=>?_;obtain⟨q,d,rfl⟩:=List.mem_map.1 i;exact g q d
/-! ### States -/
abbrev TS:=List<|Option aq
def iT:aq:=bJ [105]
def gY (a:aj):Nat:=(uG a).toNat
def eT (b:TS) (a:aj):Option aq:=b.getD (gY a) none
def xq (x y:aq):Bool:=decide<|x.text=y.text
def tC (o:Option aq) (y:aq):Bool:=match o with
 |some x=>xq x y
 |none=>false
def meets (b:TS) (a:List aq):Bool:=decide (∀i,i<a.length->tC (b.getD i none) (nth a i)=true)
def bT (p:List cM) (l:aj):Option (List aq):=(p.find? λb=>decide<|b.aM=l).map cM.regs
def xr (a:aj):Int:=(numeral a).getD 0
def aS (n:Nat):aj:=if n<10 then[UInt8.ofNat (48+n)] else aS (n/10)++[UInt8.ofNat (48+n%10)]
 termination_by n
def nQ (p:List cM) (b:TS) (opens:Nat) (t:aq):Option aq:=
 let h:=bA t;let a (i:Nat):=(nth t.ag i).au
 if h=[99,111,110,115,116] then some iT
 else if h=[109,111,118] then eT b (a 2)
 else if h=[97,100,100]\/h=[115,117,98]\/h=[109,117,108] then(if tC (eT b<|a 2) iT&&tC (eT b<|a 3) iT then some iT else none)
 else if h=[103,101,116] then(eT b<|a 2).bind λk=>if bA k=[116]/\xr (a 3)+1<k.ag.length then some (nth k.ag (xr (a 3)+1).toNat) else none
 else if h=[108,97,98] then(bT p<|a 2).map (mu [99])
 else if h=[112,97,99,107] then(eT b<|a 2).bind λx=>if xq x (dW (nth t.ag 4)<|nth (nth t.ag 3).ag 1) then some (nth t.ag 3) else none
 else if h=[111,112,101,110] then(eT b<|a 2).bind λk=>if bA k=[101] then some (dW (bJ (97::aS opens))<|nth k.ag 1) else none
 else none
def eU (a:TS) (d:Nat) (o:Option aq):Option TS:=o.bind λt=>if sC t then some (a.set d<|some t) else none
def nO (a:TS):List aq->Option (List aq)
 |[]=>some []
 |u::us=>(eT a u.au).bind λx=>(nO a us).map λxs=>x::xs
def stepT (p:List cM) (a:TS) (opens:Nat) (t:aq):Option TS:=
 let h:=bA t;let b:=(nth t.ag 1).au
 if h=[104,97,108,116] then(eT a b).map λ_=>a
 else if h=[106,117,109,112] then(eT a b).bind λk=>if bA k=[99]/\meets a (k.ag.drop 1)=true then some a else none
 else if h=[122,101,114,111] then(bT p (nth t.ag 2).au).bind λc=>if tC (eT a b) iT&&meets a c then some a else none
 else if h=[110,101,119] then eU a (gY b) ((nO a<|t.ag.drop 2).map<|mu [116])
 else eU a (gY b) (nQ p a opens t)
def tE (opens:Nat) (t:aq):Nat:=if bA t=[111,112,101,110] then opens+1 else opens
def xu (p:List cM) (b:TS) (opens:Nat):List aq->TS×Nat
 |[]=>(b,0)
 |t::ts=>match stepT p b opens t with
  |none=>(b,0)
  |some a=>((xu p a (tE opens t) ts).1,(xu p a (tE opens t) ts).2+1)
def BV (b:cM):TS:=(List.range 40).map λi=>if i<b.regs.length then some (nth b.regs i) else none
def DW (p:List cM) (b:cM):Nat:=(xu p (BV b) 0 b.code).2
def uK (p:List cM) (b:cM):Bool:=decide<|DW p b=b.code.length
theorem ad7 (h:Lib.hasPrefix s [40]=true):∃r,s=40::r:=by
 cases s with
 |nil=>simp[Lib.hasPrefix,List.isPrefixOf] at h
 |cons c r=>simp[Lib.hasPrefix,List.isPrefixOf] at h;exact⟨r,by rw[h]⟩
theorem ad8 (h:Lib.hasPrefix s [40]=false):∀c r,s=c::r->c≠40:=by rintro c r rfl rfl;simp[Lib.hasPrefix,List.isPrefixOf] at h
theorem ad9 (h:Lib.hasPrefix s [40]=false) (d:Nat):eY d s=if s.takeWhile fm=[] then none else some (.mk (s.takeWhile fm) [],s.dropWhile fm):=by
 cases s with
 |nil=>rw[T4];simp
 |cons c r=>rw[Ig d c r (ad8 h c r rfl)]
theorem aea (h:eY d s=none):ov (d+1) s=none:=by rw[Ic];show(match eY d s with|none=>none|some (t,r)=>_)=none;rw[h]
theorem aeb (h:eY d s=some (t,[])):ov (d+1) s=none:=by rw[Ic];show(match eY d s with|none=>none|some (t,r)=>_)=none;rw[h]
theorem U4 (h:eY d s=some (t,c::r)):ov (d+1) s=if c=41 then some ([t],r) else if c=32 then(ov (d+1) r).map λp=>(t::p.1,p.2) else none:=by rw[Ic];show(match eY d s with|none=>none|some (t,r)=>_)=_;rw[h]
theorem OY:(s.drop k).take (s.length-k)=s.drop k:=List.take_of_length_le sm
theorem Lk (hk:k<256):decide ((c.toNat:Int)≠(k:Int))=decide (c≠UInt8.ofNat k):=decide_eq_decide.2 (by
 have e:(UInt8.ofNat k).toNat=k:=by simp;omega
 constructor
 .intro h a;rw[a,e] at h;exact h rfl
 .intro h a;exact h (UInt8.toNat_inj.1 (by rw[e];omega)))
def BW (d:Nat) (s:aj) (t:aq) (r:aj) (ok:Bool):Prop:=(eY d s=some (t,r)/\ok=true)\/(eY d s=none/\ok=false)
theorem BW.le {ok:Bool} (h:BW d s t r ok) (a:ok=true):eY d s=some (t,r)/\r.length<s.length:=by
 rcases h with⟨h,_⟩|⟨_,h⟩
 .obtain⟨k,_,_,rfl⟩:=KV d s t r h;exact⟨h,by simp;omega⟩
 .rw[a] at h;cases h
theorem aec {ok:Bool} (e:BW d s t r ok) (h:((!ok||decide (r=[]))||(decide (((r.getD 0 0).toNat:Int)≠32)&&decide (((r.getD 0 0).toNat:Int)≠41)))=true):ov (d+1) s=none:=by
 rcases e with⟨hr,rfl⟩|⟨hr,rfl⟩
 .cases r with
  |nil=>exact aeb hr
  |cons c r=>rw[U4 hr];simp only[Bool.not_true,Bool.false_or,List.getD_cons_zero,show decide (c::r=[])=false from by simp] at h;rw[show(32:Int)=((32:Nat):Int) from rfl,show(41:Int)=((41:Nat):Int) from rfl,Lk de,Lk de,aE] at h;have a:¬c=32:=of_decide_eq_true h.1;have b:¬c=41:=of_decide_eq_true h.2;rw[iN b,iN a]
 .exact aea hr
theorem aed {ok:Bool} (i:BW d s t r ok) (h:((!ok||decide (r=[]))||(decide (((r.getD 0 0).toNat:Int)≠32)&&decide (((r.getD 0 0).toNat:Int)≠41)))=false):
  0<r.length/\r.length<s.length/\ov (d+1) s=if r.getD 0 0=41 then some ([t],r.drop 1) else(ov (d+1)<|r.drop 1).map λp=>(t::p.1,p.2):=by
 simp only[Bool.or_eq_false_iff,Bool.not_eq_false',decide_eq_false_iff_not] at h;obtain⟨⟨e,f⟩,a⟩:=h;obtain⟨j,g⟩:=i.le e;cases r with
 |nil=>exact absurd rfl f
 |cons c r=>
  refine⟨by simp,g,?_⟩;rw[U4 j];simp only[List.getD_cons_zero,List.drop_one,List.tail_cons] at a⊢;by_cases b:c=41
  .rw[iP b,iP b]
  .rw[iN b,iN b];rw[show(32:Int)=((32:Nat):Int) from rfl,show(41:Int)=((41:Nat):Int) from rfl,Lk de,Lk de,Bool.and_eq_false_iff] at a;rcases a with a|a
   .rw[iP (by simpa using a)]
   .exact absurd (by simpa using a) b
theorem aee {ok:Bool} (b:s.length<=12000) (c:BW 60 s t r ok):(ok&&decide (r=[]))=(bS s).isSome/\∀a,bS s=some a->t=a:=by grind [BW,bS]
theorem aef (a:n1=b.cO.length) (c:n2=b.code.length) 
  (h:(((!oZ b.aM||decide ((12000:Int)<(b.aM.length:Int)))||decide ((40:Int)<(n1:Int)))||!(decide ((1:Int)<=(n2:Int))&&decide ((n2:Int)<=80)))=true):pC b=false:=by grind [pC,BU,dC.length,UD,Lc,Uz]
theorem aeg (a:n1=b.cO.length) (c:n2=b.code.length) 
  (h:(((!oZ b.aM||decide ((12000:Int)<(b.aM.length:Int)))||decide ((40:Int)<(n1:Int)))||!(decide ((1:Int)<=(n2:Int))&&decide ((n2:Int)<=80)))=false):
  (oZ b.aM&&decide (b.cO.length<=40)&&(decide (1<=b.code.length)&&decide (b.code.length<=80)))=true/\BU b=true:=by grind [BU,dC.length,Lc,Uy]
theorem aeh (a:i<b.cO.length) (h:uI (bM b.cO i)=false):pC b=false:=by unfold pC;rw[UE a h];rfl
theorem aei (a:i<b.code.length) (h:tu b.code i=false):pC b=false:=by unfold pC;rw[UF a h];rfl
theorem aej (h:uI s=true) (b:∀a,bS s=some a->t=a):t=tr s:=by grind [bS,tr,seen]
theorem U5 {code:List aj} (c:n=code.length) (b:i<n) (d:∀a,bS (bM code i)=some a->t=a):
  ((!(bS<|bM code i).isSome||!mP t)||(Ip t !=decide ((i:Int)=(n:Int)-1)))=!tu code i:=by grind [OL,UP,seen,bS,mO,ad2]
theorem aek {code:List aj} (h:tu code i=true) (b:∀a,bS (bM code i)=some a->t=a):t=tr (bM code i):=by grind [tu,bS,tr,seen]
theorem DX {b c:Type} (f:b->c) {a:List b} {x:b} (h:a[i]?=some x):(a.take i).map f++[f x]=(a.take<|i+1).map f:=by grind [List.getElem?_eq_some_iff,List.take_succ_eq_append_getElem]
theorem Gd {b c:Type} (f:b->c) {a:List b} (h:a.length<=i):(a.take i).map f=a.map f:=by rw[List.take_of_length_le h]
theorem DY {b c:Type} (f:b->c) {a:List b} (h:i<=a.length):((a.take i).map f).length=i:=by simp;omega
theorem Ge (b:∀a,bS s=some a->t=a) (h:(bS s).isSome=true):WF t/\t.size<=12001:=by grind [bS,aq.size,vQ,BM]
def j6 (a:List cM) (l:aj):Int:=match a.findIdx? (λb=>decide<|b.aM=l) with
 |some i=>(i:Int)
 |none=> -1
abbrev ek (a:List cM) (i:Nat):cM:=a.getD i ⟨[],[],[]⟩
theorem xw {ps:List cM} (h:i<ps.length):ps[i]?=some (ek ps i):=by grind
def Iv (a:List cM) (g:cM->Bool):Int:=match a.findIdx? g with
 |some i=>(i:Int)
 |none=> -1
theorem Ll {a:List cM} (h:i<a.length):ek a i=a[i]:=by grind
theorem ael {a:List cM} {g:cM->Bool} (hk:k<a.length) (h:∀i,i<k->g (ek a i)=false) (c:g (ek a k)=true):Iv a g=(k:Int):=by
 have:a.findIdx? g=some k:=by rw[List.findIdx?_eq_some_iff_getElem];refine⟨hk,by rw[<-Ll hk];exact c,λj b=>?_⟩;have:=h j b;rw[Ll (Nat.lt_trans b hk)] at this;simpa using this
 unfold Iv;rw[this]
theorem aem {a:List cM} {g:cM->Bool} (h:∀i,i<a.length->g (ek a i)=false):Iv a g= -1:=by grind [Ll,Iv,List.findIdx?_eq_none_iff,List.getElem_of_mem]
theorem OZ (h:i<bs.length):cA bs i=bs[i]:=by grind
theorem U6 (hk:k<bs.length):decide ((0:Int)<=j6 ((bs.take k).map dv) (cA bs k).aM)=decide (l6 bs (cA bs k).aM≠(k:Int)):=by
 refine decide_eq_decide.2 ?_;by_cases a:∃j,j<k/\(cA bs j).aM=(cA bs k).aM
 .obtain⟨j,e,d⟩:=a;have f:l6 bs (cA bs k).aM≠k:=by
   intro h;unfold l6 at h;cases c:bs.findIdx? (λb=>decide<|b.aM=(cA bs k).aM) with
   |none=>rw[c] at h;simp at h
   |some i=>rw[c] at h;have n:i=k:=Int.ofNat.inj h;subst n;rw[List.findIdx?_eq_some_iff_getElem] at c;obtain⟨_,_,l⟩:=c;have:=l j e;rw[<-OZ] at this;simp only[dE] at this;exact this d
  have g:0<=j6 ((bs.take k).map dv) (cA bs k).aM:=by
   unfold j6;cases c:((bs.take k).map dv).findIdx? (λb=>decide<|b.aM=(cA bs k).aM) with
   |some i=>simp
   |none=>rw[List.findIdx?_eq_none_iff] at c;have:=c (dv<|cA bs j)<|List.mem_map.2 ⟨cA bs j,by rw[List.mem_take_iff_getElem];exact⟨j,om,by simp[gE (show j<bs.length by omega)]⟩,rfl⟩;exact absurd d<|of_decide_eq_false this
  exact⟨λ_=>f,λ_=>g⟩
 .have f:l6 bs (cA bs k).aM=k:=UC hk (λj e d=>a ⟨j,e,d⟩) rfl;have g:j6 ((bs.take k).map dv) (cA bs k).aM= -1:=by
   unfold j6;have:((bs.take k).map dv).findIdx? (λb=>decide<|b.aM=(cA bs k).aM)=none:=by rw[List.findIdx?_eq_none_iff];intro x m;obtain⟨b,hb,rfl⟩:=List.mem_map.1 m;obtain⟨j,e,rfl⟩:=List.mem_take_iff_getElem.1 hb;refine dF λd=>a ⟨j,om,?_⟩;rw[cA,gG,gE om];exact d
   rw[this]
  rw[f,g];constructor
  .intro h;omega
  .intro h;exact absurd rfl h
theorem aen (a:i<bs.length) (h:pC (cA bs i)=false\/l6 bs (cA bs i).aM≠i):jl bs=false:=by grind [jl,eK,qM,Gc,pC,UH]
theorem aeo (h:∀i,i<bs.length->pC (cA bs i)=true/\l6 bs (cA bs i).aM=i):
  jl bs=(decide (1<=bs.length)&&decide (bs.length<=40)&&decide ((cA bs 0).aM=[109,97,105,110])&&decide ((cA bs 0).cO.length=0)):=by
 unfold jl;rw[UI λi a=>⟨by have:=(h i a).1;unfold pC at this;rw[aE] at this;exact this.1,(h i a).2⟩,show bs.all BU=true from ?_,Bool.and_true];refine List.all_eq_true.2 λb hb=>?_;obtain⟨i,a,rfl⟩:=List.getElem_of_mem hb;have:=(h i a).1;unfold pC at this;rw[aE] at this;rw[cA,gG,gE a] at this;exact this.2
theorem aep (h:¬(1<=bs.length/\bs.length<=40)):jl bs=false:=by grind [jl,eK]
theorem O0:∀(ts:List aq) (t:aq),ts≠[]->l5 (ts++[t])=l5 ts++32::t.text
 |[],_,h=>absurd rfl h
 |[u],t,_=>by rw[List.cons_append,List.nil_append,rK,rJ,rJ]
 |u::v::r,t,_=>by have:=O0 (v::r) t sm;rw[List.cons_append,List.cons_append,rK,<-List.cons_append,this,rK];simp
def pre (a:List aq):aj:=if a=[] then[] else 40::l5 a
theorem U7 (hk:k<ps.length):pre (ps.take<|k+1)=pre (ps.take k)++((if k=0 then 40 else 32)::(nth ps k).text):=by
 have e:ps.take (k+1)=ps.take k++[nth ps k]:=by rw[List.take_succ_eq_append_getElem hk,xp hk]
 rw[e];by_cases b:k=0
 .subst b;simp[pre,rJ]
 .have a:ps.take k≠[]:=by intro h;have:=congrArg List.length h;rw[List.length_take] at this;simp only[List.length_nil] at this;omega
  unfold pre;rw[iN sm,iN a,O0 _ _ a,iN b];simp
theorem U8 (b:WF t) (h:t.ag.length≠0):pre (t.ag.take t.ag.length)++[41]=t.text:=by
 cases b with
 |au a _=>simp[aq.ag] at h
 |list ps c _=>rw[tw];show pre (ps.take ps.length)++[41]=_;rw[List.take_length];unfold pre;rw[iN c];simp
theorem U9 (b:WF t) (h:t.ag.length=0):t.text=t.au:=by
 cases b with
 |au a c=>exact sB c
 |list ps d _=>exact absurd (List.length_eq_zero_iff.1 h) d
theorem Va (a:WF t) (hk:k<=t.ag.length):(pre<|t.ag.take k).length<=t.text.length:=by
 by_cases h:t.ag.length=0
 .rw[show k=0 from by omega];simp[pre]
 .rw[<-U8 a h,lA];have mono:∀j,k<=j->j<=t.ag.length->(pre<|t.ag.take k).length<=(pre<|t.ag.take j).length:=by
   intro j _;induction j with
   |zero=>intro _;rw[show k=0 from by omega];exact lR _
   |succ j b=>
    intro _;rcases Nat.lt_or_ge k (j+1) with h|h
    .have:=b om om;rw[U7 om,lA];omega
    .rw[show k=j+1 from by omega];exact lR _
  have:=mono _ hk<|lR _;omega
def xz (a:List aq):aj:=40::l5 a
theorem Vb (hk:k<ps.length):xz (ps.take<|k+1)=(xz (ps.take k)++(if k=0 then[] else[32]))++(nth ps k).text:=by
 have e:ps.take (k+1)=ps.take k++[nth ps k]:=by rw[List.take_succ_eq_append_getElem hk,xp hk]
 rw[e];by_cases a:k=0
 .subst a;simp[xz,rJ,l5]
 .have b:ps.take k≠[]:=by intro h;have:=congrArg List.length h;rw[List.length_take] at this;simp only[List.length_nil] at this;omega
  unfold xz;rw[O0 _ _ b,iN a];simp
theorem Vc (b:WF t) (h:t.au=[]):xz (t.ag.take t.ag.length)++[41]=t.text:=by
 cases b with
 |au a c=>exact absurd h c
 |list ps _ _=>rw[tw];show xz (ps.take ps.length)++[41]=_;rw[List.take_length];rfl
theorem O2 (a:WF t) (b:t.au=[]) (hk:k<=t.ag.length):(xz<|t.ag.take k).length<=t.text.length:=by
 rw[<-Vc a b,lA];have mono:∀j,k<=j->j<=t.ag.length->(xz<|t.ag.take k).length<=(xz<|t.ag.take j).length:=by
  intro j _;induction j with
  |zero=>intro _;rw[show k=0 from by omega];exact lR _
  |succ j c=>
   intro _;rcases Nat.lt_or_ge k (j+1) with h|h
   .have:=c om om;rw[Vb om,lA,lA];omega
   .rw[show k=j+1 from by omega];exact lR _
 have:=mono _ hk<|lR _;omega
structure Ad (t:aq):Prop where
 wf:WF t
 size:t.size<=12001
 text:t.text.length<=12000
theorem Ad.part (h:Ad t) (b:Good t) (a:t.ag[i]?=some p):Ad p:=by obtain⟨_,_,_⟩:=b.sub a;exact⟨h.wf.part a,by have:=Io a;have:=h.size;omega,by have:=h.text;omega⟩
theorem aeq (h:bS s=some t):Ad t:=by obtain⟨a,_,b,c⟩:=vS h;exact⟨a.wf,BM h,by rw[b];exact c⟩
theorem Ad.nth (h:Ad t) (a:Good t) (b:i<t.ag.length):Ad (nth t.ag i):=h.part a<|et b
theorem aer (h:k+1<t.ag.length):(t.ag.drop 1)[k]?=some (nth t.ag<|k+1):=by rw[List.getElem?_drop,show 1+k=k+1 from by omega,et h]
def BX (a:List aq):Prop:=a.length<1000000/\∀t∈a,WF t/\t.size<=100000000/\t.text.length<=100000000
/-! ### Depth and length,part by part -/
def maxD:List aq->Nat
 |[]=>0
 |t::ts=>max t.depth<|maxD ts
theorem Vd:∀(a b:List aq),maxD (a++b)=max (maxD a) (maxD b)
 |[],b=>by simp[maxD]
 |t::ts,b=>by rw[List.cons_append,maxD,maxD,Vd ts b];omega
theorem aes (hk:k<ps.length):maxD (ps.take<|k+1)=max (maxD<|ps.take k) (nth ps k).depth:=by rw[List.take_succ_eq_append_getElem hk,Vd,xp hk];simp[maxD]
theorem Ve:∀{ps:List aq},ps≠[]->aq.depth.deeps ps=maxD ps+1
 |[],h=>absurd rfl h
 |[t],_=>by simp[aq.depth.deeps,maxD]
 |t::u::us,_=>by have:=Ve (ps:=u::us) sm;simp only[aq.depth.deeps,maxD] at this⊢;omega
theorem O3 (t:aq):t.depth=aq.depth.deeps t.ag:=by cases t;simp[aq.depth,aq.ag]
theorem aet (h:t.ag.length=0):t.depth=0:=by rw[O3,List.length_eq_zero_iff.1 h];rfl
theorem aeu (h:t.ag.length≠0):t.depth=maxD (t.ag.take t.ag.length)+1:=by rw[O3,List.take_length,Ve λa=>h (by rw[a];rfl)]
theorem aev:∀t:aq,t.size<=m->t.depth<t.size:=by
 induction m with
 |zero=>intro t h;have:=rI t;omega
 |succ m c=>
  intro t h;have d:=ow t;have e:aq.depth.deeps t.ag<=t.size-1:=Lf λp b=>by obtain⟨i,a,rfl⟩:=List.getElem_of_mem b;have f:=Io (t:=t)<|gE a;have:=c _ (by omega:t.ag[i].size<=m);omega
  rw[O3];omega
theorem aew:maxD (t.ag.take k)<t.size:=by
 have b:∀(ps:List aq) (d:Nat),0<d->(∀p∈ps,p.depth<d)->maxD ps<d:=by
  intro ps;induction ps with
  |nil=>intro d a _;simpa[maxD] using a
  |cons p ps g=>intro d a h;have j:=h p sm;have l:=g d a λq f=>h q (by simp[f]);rw[maxD];omega
 refine b _ _ (by have:=rI t;omega) λp e=>?_;obtain⟨i,c,rfl⟩:=List.getElem_of_mem<|List.mem_of_mem_take e;have m:=Io (t:=t)<|gE c;have:=aev _<|lR (t.ag[i]).size;omega
theorem O4:∀(a b:List aq),aq.len.lens (a++b)=aq.len.lens a+aq.len.lens b
 |[],b=>by simp[aq.len.lens]
 |t::ts,b=>by rw[List.cons_append,aq.len.lens,aq.len.lens,O4 ts b];omega
theorem aex (hk:k<ps.length):aq.len.lens (ps.take<|k+1)=aq.len.lens (ps.take k)+((nth ps k).len+1):=by rw[List.take_succ_eq_append_getElem hk,O4,xp hk];simp[aq.len.lens]
theorem aey (h:t.ag.length=0):t.len=t.au.length:=by
 cases t with
 |mk a ps=>simp only[aq.ag] at h;have:=List.length_eq_zero_iff.1 h;subst this;simp[aq.len,aq.au]
theorem Vf (h:t.ag.length≠0):t.len=1+aq.len.lens (t.ag.take t.ag.length):=by
 cases t with
 |mk a ps=>have:ps≠[]:=λb=>h (by rw[b];rfl);simp[aq.len,aq.ag,this]
theorem aez (h:t.ag.length≠0):1+aq.len.lens (t.ag.take k)<=t.len:=by rw[Vf h,List.take_length];have:=O4 (t.ag.take k)<|t.ag.drop k;rw[List.take_append_drop] at this;omega
theorem Vg (h:Good t):t.size<=2*t.text.length:=by
 induction h with
 |au a d hb=>have:=List.length_pos_iff.2 d;rw[sB d];simp only[aq.size,aq.size.sizes];omega
 |list ps e _ g=>
  have c:∀b:List aq,(∀p∈b,p.size<=2*p.text.length)->aq.size.sizes b<=2*(l5 b).length:=by
   intro b;induction b with
   |nil=>intro _;simp[aq.size.sizes]
   |cons q b i=>
    intro h;have j:=h q sm;have f:=i λp e=>h p (by simp[e]);cases b with
    |nil=>rw[rJ];simp only[aq.size.sizes];omega
    |cons u _=>rw[rK];simp only[aq.size.sizes,lA,lC] at f⊢;omega
  have:=c ps g;rw[tw];simp only[aq.size,lC,lA,List.length_nil];omega
/-! ### Texts joined -/
theorem Vh (a b:List aj):rL (a++b)=rL a++rL b:=by simp[rL]
def xA (h:aj) (a:List aj) (k:Nat):aj:=40::(h++rL (a.take k))
theorem aeA {ps:List aj} (hk:k<ps.length):xA h ps (k+1)=(xA h ps k++[32])++bM ps k:=by unfold xA;rw[List.take_succ_eq_append_getElem hk,Vh];simp[rL,bM,gE hk]
theorem aeB {a:List aj} (hk:a.length<=k):xA h a k++[41]=eM h a:=by unfold xA eM;rw[List.take_of_length_le hk];simp
theorem aeC {ps:List aj} (k:Nat):(xA h ps k).length+1<=(eM h ps).length:=by
 have:(rL<|ps.take k).length<=(rL ps).length:=by have:=Vh (ps.take k)<|ps.drop k;rw[List.take_append_drop] at this;rw[this,lA];omega
 simp[xA,eM];omega
/-! ### What the laws count -/
def kr (a:List aj):Nat:=a.length+(a.map List.length).sum
theorem Vi (a:List aj):(rL a).length=kr a:=by induction a<;>grind [rL,kr]
/-! ### A list that is filled -/
def fill {a:Type} (d:a) (b:List a) (k:Nat):List a:=b.take k++List.replicate (b.length-k) d
inductive It where
 |v (V:Value)
 |p (f:Value->World->Prop)
def It.F:It->Value->World->Prop
 | .v V=>λv _=>v=V
 | .p f=>f
def It.Iw:It->Bool
 | .v _=>true
 | .p _=>false
def dq (b:List It) (c:List Nat) (w:World):List Nat->(List (Nat×Value)->Prop)->Prop
 |[],k=>k []
 |j::r,k=>match b.getD j (.p λ_ _=>True) with
  | .v V=>dq b c w r λa=>k ((c.getD j 0,V)::a)
  | .p f=>∀v,f v w->dq b c w r λa=>k ((c.getD j 0,v)::a)
theorem Gf {a:List It} {g:List Nat} {vs:Nat->Value}:∀{deps:List Nat} {k:List (Nat×Value)->Prop},dq a g w deps k->(∀j∈deps,pA (a.map It.F) j (vs j) w)->k (vM g vs deps)
 |[],k,h,_=>h
 |j::r,k,h,hd=>by
  have b:=hd j<|List.mem_cons_self ..;unfold dq at h;have c:((a.getD j<|.p λ_ _=>True).F) (vs j) w:=by
   unfold pA at b;rw[gG] at b⊢;rw[List.getElem?_map] at b;cases e:a[j]? with
   |none=>trivial
   |some q=>rw[e] at b;exact b
  cases e:a.getD j (.p λ_ _=>True) with
  |v V=>rw[e] at h c;have l:vs j=V:=c;subst l;exact Gf (deps:=r) h λi d=>hd i<|mK _ d
  |p f=>rw[e] at h c;exact Gf (deps:=r) (h _ c) λi d=>hd i<|mK _ d
theorem O5 {F:List (Value->World->Prop)} {c:Nat->Value}:∀{l:List Nat},H0 F c w l->∀j∈l,pA F j (c j) w
 |[],_,j,h=>by cases h
 |[i],h,j,b=>by rw[List.mem_singleton] at b;subst b;exact h
 |i::a::l,h,j,b=>by
  rcases mC.1 b with e|b
  .subst e;exact h.1
  .exact O5 h.2 j b
def Ix (P:Program) (n:Nat) (e:Array Oper) (W d:List Nat) (c:List It) (g:Env) (i:World) (k:Nat) (o:Oper) (b:List Nat):Prop:=
 ∀(x:Env) (w:World),ak [] i w->dq c d w b λa=>OW P n e (λf w'=>ak [] w w'/\(c.getD k<|.p λ_ _=>True).F (f<|d.getD k 0) w'/\eP [d.getD k 0] (ba (aZ W x g) a) f) [o] (ba (aZ W x g) a) w
def sD (P:Program) (n:Nat) (b:Array Oper) (W c:List Nat) (a:List It) (e:Env) (f:World):Nat->List Oper->List (List Nat)->Prop
 |_,[],_=>True
 |_,_::_,[]=>True
 |k,o::l,d::r=>Ix P n b W c a e f k o d/\sD P n b W c a e f (k+1) l r
theorem vc {b:List Nat} {a:List It} {l:List Oper} {d:List Nat} {r:List (List Nat)} (h:Ix P n ops W b a e0 w0 k o d) (c:sD P n ops W b a e0 w0 (k+1) l r):sD P n ops W b a e0 w0 k (o::l) (d::r):=⟨h,c⟩
theorem Vj {c:List Nat} {a:List It}:∀(l:List Oper) (b:List (List Nat)) (k:Nat),sD P n ops W c a e0 w0 k l b->vN (ak []) P n ops W c (a.map It.F) e0 w0 k l b
 |[],_,_,_=>trivial
 |_::_,[],_,_=>trivial
 |o::l,d::r,k,h=>by
  refine⟨λx vs w e hk g i=>?_,Vj l r (k+1) h.2⟩;have:=Gf (h.1 x w hk) (vs:=vs)<|O5 g;subst i;have f:pA (a.map It.F) k=(a.getD k<|.p λ_ _=>True).F:=by unfold pA;rw[gG,gG,List.getElem?_map];cases a[k]?<;>rfl
  rw[f];exact this
def Iy:List It->Prop
 |[]=>True
 | .v _::r=>Iy r
 | .p f::r=>(∀v w w',f v w->ak [] w w'->f v w')/\Iy r
theorem O6:∀{its:List It},Iy its->rE (ak []) (its.map It.F)
 |[],_=>trivial
 | .v _::r,h=>⟨λv w w' e _=>e,O6 (its:=r) h⟩
 | .p f::r,h=>⟨h.1,O6 (its:=r) h.2⟩
theorem Vk:∀{its:List It},its.all It.Iw=true->Iy its
 |[],_=>trivial
 | .v _::r,h=>Vk (its:=r)<|by simpa[It.Iw] using h
 | .p f::r,h=>by simp[It.Iw] at h
section
variable {P:Program} {n:Nat} {l:List Oper} {m:Nat} {W ds:List Nat} {deps:List (List Nat)}
theorem vT {N R:Env->World->Prop} {X:Nat->Env->World->Prop} {id:Nat} {f:Env} {g:World} (s:P.follows .mixedOrders=true) (m:Nat) (W c:List Nat) (a:List (List Nat)) (b:List It) 
  (o:vO l m W c a=true) (p:Iy b)
  (q:∀d,ak [] g d->sD P n l.toArray W c b f d 0 (l.take m) a)
  (t:∀(x:Env) (w:World),ak [] g w->dq b c w (List.range m) λe=>OW P n l.toArray N (l.drop m) (ba (aZ W x f) e) w):
  CW P n (.region id l.toArray true) N R X f g:=
 T0 s cF m W c a (b.map It.F) o (O6 p) (λd hk=>Vj _ _ _<|q d hk) λx vs w hk i=>
  Gf (t x w hk) (vs:=vs) λj r=>i j<|List.mem_range.1 r
theorem kF {N R:Env->World->Prop} {X:Nat->Env->World->Prop} {id:Nat} {e:Env} {f:World} (p:P.follows .mixedOrders=true) (m:Nat) (W c:List Nat) (a:List (List Nat)) (b:List It) 
  (i:vO l m W c a=true) (j:b.all It.Iw=true)
  (o:∀g,ak [] f g->sD P n l.toArray W c b e g 0 (l.take m) a)
  (q:∀(x:Env) (w:World),ak [] f w->dq b c w (List.range m) λd=>OW P n l.toArray N (l.drop m) (ba (aZ W x e) d) w):
  CW P n (.region id l.toArray true) N R X e f:=vT p m W c a b i (Vk j) o q
end
section
variable {P:Program} {n:Nat} {ops:Array Oper} {e:Env} {w w':World}
theorem pv (h:v=V:=by rfl):OW P n ops (λa w'=>ak [] w w'/\(It.v V).F (a d) w'/\eP [d] e a) [] (bX e (some d) v) w:=
 aV ⟨ak.refl _ _,by subst h;exact nI _ _ _,qH⟩
theorem pk (k:ak [] w w') (h:v=V:=by rfl):OW P n ops (λa w'=>ak [] w w'/\(It.v V).F (a d) w'/\eP [d] e a) [] (bX e (some d) v) w':=
 aV ⟨k,by subst h;exact nI _ _ _,qH⟩
theorem pf {f:Value->World->Prop} (k:ak [] w w') (h:f v w'):OW P n ops (λa w'=>ak [] w w'/\(It.p f).F (a d) w'/\eP [d] e a) [] (bX e (some d) v) w':=
 aV ⟨k,by show f (iZ e d v d) w';rw[nI];exact h,qH⟩
end
section
variable {P:Program} {n:Nat} {N R:Env->World->Prop} {X:Nat->Env->World->Prop} {e0:Env} {w:World}
theorem DZ {c:Code} (d:List Nat) (a:List (Nat×Value)) (h:CW P n c (λb w'=>eP d e0 b/\Holds a b/\ak [] w w') R X e0 w) 
  (k:∀x w',ak [] w w'->N (ba (aZ d x e0) a) w'):CW P n c N R X e0 w:=
 h.mono (λb w' ⟨e,f,hk⟩=>by have:=k b w' hk;rw[zY e,KH f] at this;exact this) (λ_ _ h=>h) λ_ _ _ h=>h
end
theorem kE {p q r:Prop} (k:r) (h:p:=by repeat(first|with_reducible exact zX|refine KQ rfl ?_|refine Oe rfl ?_)) (a:q:=by repeat' (first|rfl|(rw[gZ];rfl)|(rw[j7];rfl)|constructor)):p/\q/\r:=⟨h,a,k⟩
theorem da {g:World->World->Prop} {P:Program} {n:Nat} {b:Array Oper} {W f:List Nat} {a:List It} {i:Env} {j:World} {k:Nat} {o:Oper} {l:List Oper} {d:List Nat} {r:List (List Nat)} 
  (h:∀(x:Env) (w:World),g j w->dq a f w d λc=>OW P n b (λm w'=>g w w'/\(a.getD k<|.p λ_ _=>True).F (m<|f.getD k 0) w'/\eP [f.getD k 0] (ba (aZ W x i) c) m) [o] (ba (aZ W x i) c) w)
  (t:vN g P n b W f (a.map It.F) i j (k+1) l r):vN g P n b W f (a.map It.F) i j k (o::l) (d::r):=
 ⟨λx vs w e hk q s=>by
  have:=Gf (h x w hk) (vs:=vs)<|O5 q;subst s;have p:pA (a.map It.F) k=(a.getD k<|.p λ_ _=>True).F:=by unfold pA;rw[gG,gG,List.getElem?_map];cases a[k]?<;>rfl
  rw[p];exact this,t⟩
theorem qN {n:Nat} {l:List Oper} {N R:Env->World->Prop} {X:Nat->Env->World->Prop} {id:Nat} {f:Env} {g:World} (t:P.follows .mixedOrders=true) {c:World->World->Prop} (v:Kept c) (m:Nat) (W d:List Nat) (a:List (List Nat)) (b:List It) 
  (p:vO l m W d a=true) (q:rE c (b.map It.F))
  (r:∀i,c g i->vN c P n l.toArray W d (b.map It.F) f i 0 (l.take m) a)
  (u:∀(x:Env) (w:World),c g w->dq b d w (List.range m) λe=>OW P n l.toArray N (l.drop m) (ba (aZ W x f) e) w):
  CW P n (.region id l.toArray true) N R X f g:=
 T0 t v m W d a _ p q r λx vs w hk o=>Gf (u x w hk) (vs:=vs) λj s=>o j<|List.mem_range.1 s
theorem jt {c:World->World->Prop} (K:Kept c) {P:Program} {n:Nat} {b:Array Oper} {W f:List Nat} {a:List It} {g:Env} {j:World} (aC:c j w0) {k:Nat} {o:Oper} {l:List Oper} {d:List Nat} {r:List (List Nat)} 
  (h:∀(x:Env) (w:World),c j w->dq a f w d λe=>OW P n b (λi w'=>c w w'/\(a.getD k<|.p λ_ _=>True).F (i<|f.getD k 0) w'/\eP [f.getD k 0] (ba (aZ W x g) e) i) [o] (ba (aZ W x g) e) w)
  (m:vN c P n b W f (a.map It.F) g w0 (k+1) l r):vN c P n b W f (a.map It.F) g w0 k (o::l) (d::r):=
 da (λx w hk=>h x w<|K.trans aC hk) m
section
variable {KK:World->World->Prop} {P:Program} {n:Nat} {ops:Array Oper} {e:Env} {w w':World}
theorem ck (K:Kept KK) (h:v=V:=by rfl):OW P n ops (λa w'=>KK w w'/\(It.v V).F (a d) w'/\eP [d] e a) [] (bX e (some d) v) w:=
 aV ⟨K.refl _,by subst h;exact nI _ _ _,qH⟩
theorem Iz (K:Kept KK) (k:ak [] w w') (h:v=V:=by rfl):OW P n ops (λa w'=>KK w w'/\(It.v V).F (a d) w'/\eP [d] e a) [] (bX e (some d) v) w':=
 aV ⟨K.of k,by subst h;exact nI _ _ _,qH⟩
end
theorem aeD:NG Tryz.f10:=ng
theorem aeE:NG Tryz.f100:=ng
theorem aeF:NG Tryz.f101:=ng
theorem aeG:NG Tryz.f102:=ng
theorem aeH:NG Tryz.f103:=ng
theorem aeI:NG Tryz.f104:=ng
theorem Vl:NG Tryz.f105:=ng
theorem aeJ:NG Tryz.f106:=ng
theorem Lm:NG Tryz.f107:=ng
theorem aeK:NG Tryz.f108:=ng
theorem aeL:NG Tryz.f109:=ng
theorem aeM:NG Tryz.f11:=ng
theorem aeN:NG Tryz.f110:=ng
theorem aeO:NG Tryz.f111:=ng
theorem aeP:NG Tryz.f112:=ng
theorem aeQ:NG Tryz.f113:=ng
theorem aeR:NG Tryz.f114:=ng
theorem aeS:NG Tryz.f115:=ng
theorem aeT:NG Tryz.f116:=ng
theorem aeU:NG Tryz.f117:=ng
theorem aeV:NG Tryz.f118:=ng
theorem aeW:NG Tryz.f119:=ng
theorem aeX:NG Tryz.f12:=ng
theorem aeY:NG Tryz.f120:=ng
theorem aeZ:NG Tryz.f121:=ng
theorem ae0:NG Tryz.f122:=ng
theorem ae1:NG Tryz.f123:=ng
theorem ae2:NG Tryz.f124:=ng
theorem ae3:NG Tryz.f125:=ng
theorem ae4:NG Tryz.f126:=ng
theorem ae5:NG Tryz.f127:=ng
theorem ae6:NG Tryz.f128:=ng
theorem ae7:NG Tryz.f129:=ng
theorem ae8:NG Tryz.f13:=ng
theorem ae9:NG Tryz.f130:=ng
theorem afa:NG Tryz.f131:=ng
theorem afb:NG Tryz.f132:=ng
theorem afc:NG Tryz.f133:=ng
theorem afd:NG Tryz.f134:=ng
theorem afe:NG Tryz.f135:=ng
theorem aff:NG Tryz.f137:=ng
theorem afg:NG Tryz.f139:=ng
theorem afh:NG Tryz.f14:=ng
theorem afi:NG Tryz.f140:=ng
theorem afj:NG Tryz.f141:=ng
theorem afk:NG Tryz.f142:=ng
theorem afl:NG Tryz.f143:=ng
theorem afm:NG Tryz.f144:=ng
theorem afn:NG Tryz.f145:=ng
theorem afo:NG Tryz.f146:=ng
theorem afp:NG Tryz.f147:=ng
theorem afq:NG Tryz.f148:=ng
theorem afr:NG Tryz.f149:=ng
theorem afs:NG Tryz.f150:=ng
theorem aft:NG Tryz.f151:=ng
theorem afu:NG Tryz.f152:=ng
theorem afv:NG Tryz.f153:=ng
theorem afw:NG Tryz.f154:=ng
theorem afx:NG Tryz.f155:=ng
theorem afy:NG Tryz.f156:=ng
theorem afz:NG Tryz.f157:=ng
theorem afA:NG Tryz.f158:=ng
theorem afB:NG Tryz.f159:=ng
theorem afC:NG Tryz.f160:=ng
theorem afD:NG Tryz.f161:=ng
theorem afE:NG Tryz.f162:=ng
theorem afF:NG Tryz.f163:=ng
theorem afG:NG Tryz.f164:=ng
theorem afH:NG Tryz.f165:=ng
theorem afI:NG Tryz.f166:=ng
theorem afJ:NG Tryz.f167:=ng
theorem Vm:NG Tryz.f168:=ng
theorem afK:NG Tryz.f169:=ng
theorem afL:NG Tryz.f170:=ng
theorem afM:NG Tryz.f171:=ng
theorem afN:NG Tryz.f173:=ng
theorem afO:NG Tryz.f174:=ng
theorem afP:NG Tryz.f175:=ng
theorem afQ:NG Tryz.f176:=ng
theorem afR:NG Tryz.f177:=ng
theorem afS:NG Tryz.f178:=ng
theorem afT:NG Tryz.f181:=ng
theorem afU:NG Tryz.f182:=ng
theorem afV:NG Tryz.f184:=ng
theorem afW:NG Tryz.f185:=ng
theorem afX:NG Tryz.f186:=ng
theorem afY:NG Tryz.f187:=ng
theorem afZ:NG Tryz.f188:=ng
theorem af0:NG Tryz.f189:=ng
theorem af1:NG Tryz.f190:=ng
theorem af2:NG Tryz.f191:=ng
theorem af3:NG Tryz.f192:=ng
theorem af4:NG Tryz.f193:=ng
theorem af5:NG Tryz.f194:=ng
theorem af6:NG Tryz.f195:=ng
theorem O7:NG Tryz.f196:=ng
theorem af7:NG Tryz.f197:=ng
theorem af8:NG Tryz.f199:=ng
theorem af9:NG Tryz.f200:=ng
theorem aga:NG Tryz.f201:=ng
theorem agb:NG Tryz.f202:=ng
theorem agc:NG Tryz.f207:=ng
theorem agd:NG Tryz.f208:=ng
theorem age:NG Tryz.f209:=ng
theorem agf:NG Tryz.f21:=ng
theorem agh:NG Tryz.f210:=ng
theorem agi:NG Tryz.f211:=ng
theorem agj:NG Tryz.f212:=ng
theorem agk:NG Tryz.f22:=ng
theorem agl:NG Tryz.f226:=ng
theorem agm:NG Tryz.f23:=ng
theorem agn:NG Tryz.f29:=ng
theorem ago:NG Tryz.f30:=ng
theorem agp:NG Tryz.f31:=ng
theorem agq:NG Tryz.f32:=ng
theorem agr:NG Tryz.f33:=ng
theorem ags:NG Tryz.f34:=ng
theorem agt:NG Tryz.f35:=ng
theorem agu:NG Tryz.f36:=ng
theorem agv:NG Tryz.f37:=ng
theorem agw:NG Tryz.f38:=ng
theorem agx:NG Tryz.f40:=ng
theorem agy:NG Tryz.f41:=ng
theorem agz:NG Tryz.f44:=ng
theorem agA:NG Tryz.f45:=ng
theorem agB:NG Tryz.f46:=ng
theorem agC:NG Tryz.f47:=ng
theorem agD:NG Tryz.f48:=ng
theorem nm5:NG Tryz.f5:=ng
theorem agF:NG Tryz.f50:=ng
theorem agG:NG Tryz.f51:=ng
theorem agH:NG Tryz.f52:=ng
theorem agI:NG Tryz.f53:=ng
theorem agJ:NG Tryz.f54:=ng
theorem agK:NG Tryz.f55:=ng
theorem agL:NG Tryz.f58:=ng
theorem agM:NG Tryz.f59:=ng
theorem agN:NG Tryz.f60:=ng
theorem agO:NG Tryz.f61:=ng
theorem agP:NG Tryz.f62:=ng
theorem agQ:NG Tryz.f63:=ng
theorem agR:NG Tryz.f64:=ng
theorem agS:NG Tryz.f65:=ng
theorem agT:NG Tryz.f66:=ng
theorem agU:NG Tryz.f67:=ng
theorem agV:NG Tryz.f68:=ng
theorem agW:NG Tryz.f69:=ng
theorem agX:NG Tryz.f70:=ng
theorem agY:NG Tryz.f71:=ng
theorem agZ:NG Tryz.f72:=ng
theorem ag0:NG Tryz.f73:=ng
theorem ag1:NG Tryz.f74:=ng
theorem ag2:NG Tryz.f75:=ng
theorem ag3:NG Tryz.f76:=ng
theorem Vn:NG Tryz.f77:=ng
theorem Vo:NG Tryz.f78:=ng
theorem ag4:NG Tryz.f79:=ng
theorem nm8:NG Tryz.f8:=ng
theorem ag6:NG Tryz.f80:=ng
theorem ag7:NG Tryz.f81:=ng
theorem ag8:NG Tryz.f82:=ng
theorem ag9:NG Tryz.f83:=ng
theorem aha:NG Tryz.f84:=ng
theorem ahb:NG Tryz.f85:=ng
theorem Vp:NG Tryz.f86:=ng
theorem ahc:NG Tryz.f87:=ng
theorem ahd:NG Tryz.f88:=ng
theorem ahe:NG Tryz.f89:=ng
theorem nm9:NG Tryz.f9:=ng
theorem ahg:NG Tryz.f90:=ng
theorem ahh:NG Tryz.f91:=ng
theorem ahi:NG Tryz.f92:=ng
theorem ahj:NG Tryz.f93:=ng
theorem Vq:NG Tryz.f94:=ng
theorem ahk:NG Tryz.f95:=ng
theorem ahl:NG Tryz.f96:=ng
theorem ahm:NG Tryz.f97:=ng
theorem ahn:NG Tryz.f98:=ng
theorem aho:NG Tryz.f99:=ng
theorem fO:uz Tryz.prog 103=true:=by kernel_rfl
theorem ahp:uz Tryz.prog 117=true:=by kernel_rfl
theorem Vr:uz Tryz.prog 144=true:=by kernel_rfl
theorem Gg:uz Tryz.prog 39=true:=by kernel_rfl
theorem jg:uz Tryz.prog 61=true:=by kernel_rfl
theorem D0:uz Tryz.prog 80=true:=by kernel_rfl
theorem IA:Tryz.prog.underlying 158=some (.array 40 61):=by kernel_rfl
theorem Gh:Tryz.prog.underlying 159=some (.array 40 4):=by kernel_rfl
theorem IB:∀(w:World),(Instr.build 103 #[]).run Tryz.prog w= .ok (.agg #[.string ⟨#[]⟩,.slice none 0 0]) w:=by intros;kernel_rfl
theorem ahq:∀(a:ByteArray) (w:World),(Instr.build 103 #[(0,(.string a))]).run Tryz.prog w= .ok (.agg #[.string a,.slice none 0 0]) w:=by intros;kernel_rfl
theorem O8:∀(a:Option Addr) (c b:Nat) (w:World),(Instr.build 103 #[(1,(.slice a c b))]).run Tryz.prog w= .ok (.agg #[.string ⟨#[]⟩,.slice a c b]) w:=by intros;kernel_rfl
theorem O9:∀(a:Option Addr) (c b:Nat) (d:Option Addr) (f e:Nat) (w:World),(Instr.build 117 #[(0,(.slice a c b)),(1,(.slice d f e))]).run Tryz.prog w= .ok (.agg #[.slice a c b,.slice d f e]) w:=by intros;kernel_rfl
theorem ahr:∀(a:Option Addr) (c b:Nat) (d:Option Addr) (f e:Nat) (w:World),(Instr.build 142 #[(0,(.slice a c b)),(1,(.slice d f e))]).run Tryz.prog w= .ok (.agg #[.slice a c b,.slice d f e,.int .i64 0,.bool false,.slice none 0 0,.slice none 0 0]) w:=by intros;kernel_rfl
theorem ahs:∀(c:Fn) (a b:Array Value) (w:World),(Instr.build 161 #[(3,(.func c a b))]).run Tryz.prog w= .ok (.agg #[.string ⟨#[]⟩,.slice none 0 0,.string ⟨#[]⟩,.slice none 0 0,.string ⟨#[]⟩,.slice none 0 0,.string ⟨#[]⟩,.slice none 0 0,.string ⟨#[]⟩,.slice none 0 0,.string ⟨#[]⟩,.slice none 0 0,.string ⟨#[]⟩,.slice none 0 0,.string ⟨#[]⟩,.slice none 0 0,.string ⟨#[]⟩,.slice none 0 0,.string ⟨#[]⟩,.slice none 0 0,.string ⟨#[]⟩,.slice none 0 0,.string ⟨#[]⟩,.slice none 0 0,.string ⟨#[]⟩,.slice none 0 0,.string ⟨#[]⟩,.slice none 0 0,.string ⟨#[]⟩,.slice none 0 0,.string ⟨#[]⟩,.slice none 0 0,.string ⟨#[]⟩,.slice none 0 0,.string ⟨#[]⟩,.slice none 0 0,.string ⟨#[]⟩,.slice none 0 0,.string ⟨#[]⟩,.slice none 0 0,.string ⟨#[]⟩,.slice none 0 0,.string ⟨#[]⟩,.slice none 0 0,.string ⟨#[]⟩,.slice none 0 0,.string ⟨#[]⟩,.slice none 0 0,.string ⟨#[]⟩,.slice none 0 0,.string ⟨#[]⟩,.slice none 0 0,.string ⟨#[]⟩,.slice none 0 0,.string ⟨#[]⟩,.slice none 0 0,.string ⟨#[]⟩,.slice none 0 0,.string ⟨#[]⟩,.slice none 0 0,.string ⟨#[]⟩,.slice none 0 0,.string ⟨#[]⟩,.slice none 0 0,.string ⟨#[]⟩,.slice none 0 0,.string ⟨#[]⟩,.slice none 0 0,.string ⟨#[]⟩,.slice none 0 0,.string ⟨#[]⟩,.slice none 0 0,.string ⟨#[]⟩,.slice none 0 0,.string ⟨#[]⟩,.slice none 0 0,.string ⟨#[]⟩,.slice none 0 0,.string ⟨#[]⟩,.slice none 0 0,.bool false,.bool false,.bool false,.bool false,.bool false,.bool false,.bool false,.bool false,.bool false,.bool false,.bool false,.bool false,.bool false,.bool false,.bool false,.bool false,.bool false,.bool false,.bool false,.bool false,.bool false,.bool false,.bool false,.bool false,.bool false,.bool false,.bool false,.bool false,.bool false,.bool false,.bool false,.bool false,.bool false,.bool false,.bool false,.bool false,.bool false,.bool false,.bool false,.bool false,.int .i64 0,.func c a b]) w:=by intros;kernel_rfl
theorem aht:∀(a:Option Addr) (c b:Nat) (x1:Int) (d:Option Addr) (f e:Nat) (g:Option Addr) (j i:Nat) (w:World),(Instr.build 169 #[(0,(.slice a c b)),(1,(.int .i64 x1)),(2,(.slice d f e)),(3,(.slice g j i))]).run Tryz.prog w= .ok (.agg #[.slice a c b,.int .i64 x1,.slice d f e,.slice g j i]) w:=by intros;kernel_rfl
theorem ahu:∀(a:Option Addr) (c b:Nat) (x1:Int) (w:World),(Instr.build 195 #[(0,(.slice a c b)),(1,(.int .i64 x1))]).run Tryz.prog w= .ok (.agg #[.slice a c b,.int .i64 x1]) w:=by intros;kernel_rfl
theorem Gi:∀(g:ByteArray) (a:Option Addr) (c b:Nat) (d:Option Addr) (f e:Nat) (w:World),(Instr.build 39 #[(0,(.string g)),(1,(.slice a c b)),(2,(.slice d f e))]).run Tryz.prog w= .ok (.agg #[.string g,.slice a c b,.slice d f e]) w:=by intros;kernel_rfl
theorem Pa:∀(w:World),(Instr.build 61 #[]).run Tryz.prog w= .ok (.agg #[.string ⟨#[]⟩,.slice none 0 0]) w:=by intros;kernel_rfl
theorem Vs:∀(a:ByteArray) (w:World),(Instr.build 61 #[(0,(.string a))]).run Tryz.prog w= .ok (.agg #[.string a,.slice none 0 0]) w:=by intros;kernel_rfl
theorem ahv:∀(a:Option Addr) (c b:Nat) (w:World),(Instr.build 61 #[(1,(.slice a c b))]).run Tryz.prog w= .ok (.agg #[.string ⟨#[]⟩,.slice a c b]) w:=by intros;kernel_rfl
theorem Pb:∀(w:World),(Instr.build 80 #[]).run Tryz.prog w= .ok (.agg #[.string ⟨#[]⟩,.slice none 0 0,.slice none 0 0]) w:=by intros;kernel_rfl
theorem ahw:∀(a:ByteArray) (w:World),(Instr.build 80 #[(0,(.string a))]).run Tryz.prog w= .ok (.agg #[.string a,.slice none 0 0,.slice none 0 0]) w:=by intros;kernel_rfl
theorem ahx:∀(a:Option Addr) (c b:Nat) (w:World),(Instr.build 84 #[(0,(.slice a c b))]).run Tryz.prog w= .ok (.agg #[.slice a c b,.int .i64 0]) w:=by intros;kernel_rfl
theorem ahy:Tryz.prog.underlying 4=some .bool:=by kernel_rfl
theorem mv:gW Tryz.prog 103 0=some 0:=by kernel_rfl
theorem kt:gW Tryz.prog 103 1=some 1:=by kernel_rfl
theorem ahz:gW Tryz.prog 117 0=some 0:=by kernel_rfl
theorem ahA:gW Tryz.prog 117 1=some 1:=by kernel_rfl
theorem ahB:gW Tryz.prog 142 0=some 0:=by kernel_rfl
theorem ahC:gW Tryz.prog 142 1=some 1:=by kernel_rfl
theorem ahD:gW Tryz.prog 142 2=some 2:=by kernel_rfl
theorem ahE:gW Tryz.prog 142 3=some 3:=by kernel_rfl
theorem ahF:gW Tryz.prog 142 4=some 4:=by kernel_rfl
theorem ahG:gW Tryz.prog 142 5=some 5:=by kernel_rfl
theorem ahH:gW Tryz.prog 144 0=some 0:=by kernel_rfl
theorem Vt:gW Tryz.prog 144 1=some 1:=by kernel_rfl
theorem ahI:gW Tryz.prog 144 10=some 11:=by kernel_rfl
theorem ahJ:gW Tryz.prog 144 2=some 2:=by kernel_rfl
theorem Ln:gW Tryz.prog 144 3=some 3:=by kernel_rfl
theorem ahK:gW Tryz.prog 144 4=some 4:=by kernel_rfl
theorem ahL:gW Tryz.prog 144 5=some 5:=by kernel_rfl
theorem ahM:gW Tryz.prog 144 6=some 6:=by kernel_rfl
theorem Vu:gW Tryz.prog 144 7=some 7:=by kernel_rfl
theorem Vv:gW Tryz.prog 144 8=some 9:=by kernel_rfl
theorem ahN:gW Tryz.prog 144 9=some 10:=by kernel_rfl
theorem ahO:gW Tryz.prog 161 0=some 0:=by kernel_rfl
theorem ahP:gW Tryz.prog 161 1=some 80:=by kernel_rfl
theorem ahQ:gW Tryz.prog 161 2=some 120:=by kernel_rfl
theorem ahR:gW Tryz.prog 161 3=some 121:=by kernel_rfl
theorem ahS:gW Tryz.prog 169 0=some 0:=by kernel_rfl
theorem ahT:gW Tryz.prog 169 1=some 1:=by kernel_rfl
theorem ahU:gW Tryz.prog 169 2=some 2:=by kernel_rfl
theorem ahV:gW Tryz.prog 169 3=some 3:=by kernel_rfl
theorem ahW:gW Tryz.prog 195 0=some 0:=by kernel_rfl
theorem ahX:gW Tryz.prog 195 1=some 1:=by kernel_rfl
theorem Pc:gW Tryz.prog 39 0=some 0:=by kernel_rfl
theorem Pd:gW Tryz.prog 39 1=some 1:=by kernel_rfl
theorem BY:gW Tryz.prog 39 2=some 2:=by kernel_rfl
theorem Pe:gW Tryz.prog 61 0=some 0:=by kernel_rfl
theorem Ae:gW Tryz.prog 61 1=some 1:=by kernel_rfl
theorem ahY:gW Tryz.prog 80 0=some 0:=by kernel_rfl
theorem Vw:gW Tryz.prog 80 1=some 1:=by kernel_rfl
theorem Vx:gW Tryz.prog 80 2=some 2:=by kernel_rfl
theorem ahZ:gW Tryz.prog 84 0=some 0:=by kernel_rfl
theorem Vy:gW Tryz.prog 84 1=some 1:=by kernel_rfl
theorem Gj:TI Tryz.prog 101 1 24 (.slice none 0 0):=by unfold TI;kernel_rfl
theorem aO:TI Tryz.prog 103 2 40 (.agg #[.string ⟨#[]⟩,.slice none 0 0]):=by unfold TI;kernel_rfl
theorem Vz:TI Tryz.prog 110 1 24 (.slice none 0 0):=by unfold TI;kernel_rfl
theorem D1:TI Tryz.prog 117 2 48 (.agg #[.slice none 0 0,.slice none 0 0]):=by unfold TI;kernel_rfl
theorem Lo:TI Tryz.prog 140 1 24 (.slice none 0 0):=by unfold TI;kernel_rfl
theorem ox:TI Tryz.prog 144 12 216 (.agg #[.string ⟨#[]⟩,.slice none 0 0,.int .i64 0,.slice none 0 0,.slice none 0 0,.slice none 0 0,.slice none 0 0,.string ⟨#[]⟩,.slice none 0 0,.int .i64 0,.string ⟨#[]⟩,.int .i64 0]):=by unfold TI;kernel_rfl
theorem VB:TI Tryz.prog 23 1 24 (.slice none 0 0):=by unfold TI;kernel_rfl
theorem oy:TI Tryz.prog 25 1 24 (.slice none 0 0):=by unfold TI;kernel_rfl
theorem tF:TI Tryz.prog 3 1 8 (.int .i64 0):=by unfold TI;kernel_rfl
theorem iD:TI Tryz.prog 39 3 64 (.agg #[.string ⟨#[]⟩,.slice none 0 0,.slice none 0 0]):=by unfold TI;kernel_rfl
theorem Af:TI Tryz.prog 4 1 1 (.bool false):=by unfold TI;kernel_rfl
theorem IC:TI Tryz.prog 5 1 1 (.int .u8 0):=by unfold TI;kernel_rfl
theorem Pf:TI Tryz.prog 50 1 24 (.slice none 0 0):=by unfold TI;kernel_rfl
theorem ID:TI Tryz.prog 59 1 24 (.slice none 0 0):=by unfold TI;kernel_rfl
theorem bZ:TI Tryz.prog 61 2 40 (.agg #[.string ⟨#[]⟩,.slice none 0 0]):=by unfold TI;kernel_rfl
theorem lk:TI Tryz.prog 80 3 64 (.agg #[.string ⟨#[]⟩,.slice none 0 0,.slice none 0 0]):=by unfold TI;kernel_rfl
theorem bj:TI Tryz.prog 9 1 16 (.string ⟨#[]⟩):=by unfold TI;kernel_rfl
theorem Pg:TI Tryz.prog 99 2 32 (.agg #[.pointer none,.slice none 0 0]):=by unfold TI;kernel_rfl
theorem Lp:Tryz.prog.underlying 204=some (.int .u64):=by kernel_rfl
theorem yD:Tryz.prog.underlying 3=some (.int .i64):=by kernel_rfl
theorem Ag:Tryz.prog.underlying 5=some (.int .u8):=by kernel_rfl
theorem dk:Tryz.prog.follows .mixedOrders=true:=by kernel_rfl
theorem jE:p6 Tryz.prog 101=true:=by kernel_rfl
theorem ah0:p6 Tryz.prog 110=true:=by kernel_rfl
theorem Ph:p6 Tryz.prog 134=true:=by kernel_rfl
theorem ah1:p6 Tryz.prog 140=true:=by kernel_rfl
theorem ah2:p6 Tryz.prog 22=true:=by kernel_rfl
theorem ah3:p6 Tryz.prog 23=true:=by kernel_rfl
theorem xB:p6 Tryz.prog 25=true:=by kernel_rfl
theorem Lq:p6 Tryz.prog 3=true:=by kernel_rfl
theorem IE:p6 Tryz.prog 4=true:=by kernel_rfl
theorem ah4:p6 Tryz.prog 5=true:=by kernel_rfl
theorem ah5:p6 Tryz.prog 50=true:=by kernel_rfl
theorem vU:p6 Tryz.prog 59=true:=by kernel_rfl
theorem fT:p6 Tryz.prog 9=true:=by kernel_rfl
theorem cT:Tryz.prog.underlying 101=some (.slice 103):=by kernel_rfl
theorem Gk:Tryz.prog.underlying 110=some (.slice 3):=by kernel_rfl
theorem BZ:Tryz.prog.underlying 140=some (.slice 144):=by kernel_rfl
theorem D3:Tryz.prog.underlying 22=some (.slice 5):=by kernel_rfl
theorem kG:Tryz.prog.underlying 23=some (.slice 39):=by kernel_rfl
theorem bu:Tryz.prog.underlying 25=some (.slice 9):=by kernel_rfl
theorem Ah:Tryz.prog.underlying 50=some (.slice 80):=by kernel_rfl
theorem iF:Tryz.prog.underlying 59=some (.slice 61):=by kernel_rfl
theorem jh:Tryz.prog.underlying 9=some .string:=by kernel_rfl
/-! ### Packages have two ag -/
inductive oz:aq->Prop
 |au (a:aj):oz (.mk a [])
 |list (ps:List aq) (h:Ab ps=[101]->ps.length=2) (hp:∀p∈ps,oz p):oz (.mk [] ps)
theorem oz.part (h:oz t) (b:t.ag[i]?=some p):oz p:=by
 cases h with
 |au a=>simp[aq.ag] at b
 |list ps _ c=>exact c p<|List.mem_of_getElem? b
theorem oz.nth (h:oz t) (a:i<t.ag.length):oz (nth t.ag i):=h.part<|et a
theorem oz.two (h:oz t) (b:bA t=[101]):t.ag.length=2:=by
 cases h with
 |au a=>rw[DT (.inr rfl)] at b;cases b
 |list ps c _=>rw[OV] at b;exact c b
theorem VC (l:WF t):∀h,fY h t=true->oz t:=by
 induction l with
 |au a _=>intro _ _;exact .au a
 |list ps o q j=>
  intro h c;cases ps with
  |nil=>exact absurd rfl o
  |cons e rest=>
   have g:∀a,e.au=a->a≠[]->oz e:=λa n m=>by
    have:=q e sm;cases this with
    |au b _=>exact .au b
    |list _ _ _=>exact absurd n.symm m
   unfold fY at c;simp only[ne_eq,not_true,if_false] at c;by_cases f:e.au=[101]
   .rw[iP f] at c;cases rest with
    |nil=>simp[fY.oneT] at c
    |cons x r=>
     cases r with
     |nil=>
      refine .list _ (λ_=>rfl) λp d=>?_;simp only[mC,List.not_mem_nil,or_false] at d;rcases d with rfl|rfl
      .exact g _ f de
      .exact j p sm true c
     |cons y _=>simp[fY.oneT] at c
   .rw[iN f] at c;by_cases i:e.au=[116]\/e.au=[99]
    .rw[iP i,Oz,List.all_eq_true] at c;refine .list _ (λh=>absurd h f) λp d=>?_;rcases mC.1 d with rfl|d
     .rcases i with h|h
      .exact g _ h de
      .exact g _ h de
     .exact j p (by simp[d]) h<|c p d
    .rw[iN i] at c;cases c
theorem VD (c:h≠[101]) (d:∀t∈ts,oz t):oz (mu h ts):=
 .list _ (λb=>absurd b c) λp a=>by
  rcases mC.1 a with rfl|a
  .exact .au _
  .exact d p a
theorem ah6 (l:oz y) (d:y.au≠[101]) (h:oz t):oz (dW y t):=by
 induction h with
 |au a=>
  unfold dW;split
  .exact l
  .split
   .exact .au a
   .simp only[Ac];exact .list _ (by simp[Ab]) sm
 |list ps i j m=>
  unfold dW;rw[iN de];by_cases c:([]:aj)≠[]\/Ab ps=[101]
  .rw[iP c];exact .list ps i j
  .rw[iN c,Lj];refine .list _ (λg=>?_) λp n=>?_
   .cases ps with
    |nil=>simp[Ab] at g
    |cons q _=>
     exfalso;have b:(dW y q).au=[101]:=g;cases q with
     |mk a rs=>
      unfold dW at b;by_cases e:a=[118]
      .rw[iP e] at b;exact d b
      .rw[iN e] at b;by_cases f:a≠[]\/Ab rs=[101]
       .rw[iP f] at b;exact c<|.inr b
       .rw[iN f] at b;cases b
   .obtain⟨q,b,rfl⟩:=List.mem_map.1 n;exact m q b
/-! ### States -/
structure qO (t:aq):Prop where
 fB:Good t
 fits:sC t=true
 eok:oz t
def xC (a:TS):Prop:=∀i t,a.getD i none=some t->qO t
theorem D4:qO iT:=⟨.au _ de de,by decide,.au _⟩
theorem ah8 (a:Good t) (h:sC t=true) (c:i<t.ag.length):sC (nth t.ag i)=true:=by unfold sC at h⊢;rw[aE,dE,dE] at h⊢;obtain⟨b,_,_⟩:=a.sub<|et c;rw[BT a.wf] at h;rw[BT b.wf];omega
theorem qO.nth (h:qO t) (a:i<t.ag.length):qO (nth t.ag i):=⟨h.fB.nth a,ah8 h.fB h.fits a,h.eok.nth a⟩
theorem ah9 {a:TS} {r:Nat} {o:Option aq} (c:r<a.length):(a.set r o).getD i none=if i=r then o else a.getD i none:=by
 rw[gG,List.getElem?_set,gG];by_cases h:r=i
 .subst h;rw[iP rfl,iP c,iP rfl];rfl
 .rw[iN h,iN λb=>h b.symm]
theorem aia {e:TS} (h:xC e) (j:d<e.length) {o:Option aq} (g:∀t,o=some t->Good t/\oz t) {b:TS} (a:eU e d o=some b):xC b/\b.length=e.length:=by
 unfold eU at a;cases o with
 |none=>cases a
 |some t=>
  simp only[Option.bind_some] at a;by_cases f:sC t=true
  .rw[iP f] at a;cases a;refine⟨λi l c=>?_,sm⟩;rw[ah9 j] at c;split at c
   .cases c;exact⟨(g t rfl).1,f,(g t rfl).2⟩
   .exact h i l c
  .rw[iN f] at a;cases a
theorem Gl {b:TS} (h:xC b) {a:aj} (c:eT b a=some t):qO t:=h _ t c
def B0 (p:List cM):Prop:=p.length<=1000000/\∀b∈p,b.regs.length<=40/\∀t∈b.regs,qO t
theorem Pj {p:List cM} (h:B0 p) {a:List aq} (c:bT p l=some a):a.length<=40/\∀t∈a,qO t:=by
 unfold bT at c;cases d:p.find? (λb=>decide<|b.aM=l) with
 |none=>rw[d] at c;cases c
 |some b=>rw[d] at c;cases c;exact h.2 b<|List.mem_of_find?_eq_some d
theorem VE {b:TS} (h:xC b):∀{c xs:List aq},nO b c=some xs->xs.length=c.length/\∀t∈xs,qO t
 |[],xs,a=>by cases a;simp
 |u::c,xs,a=>by
  unfold nO at a;cases e:eT b u.au with
  |none=>rw[e] at a;cases a
  |some x=>
   rw[e] at a;simp only[Option.bind_some] at a;cases d:nO b c with
   |none=>rw[d] at a;cases a
   |some _=>
    rw[d] at a;cases a;obtain⟨g,i⟩:=VE h d;refine⟨by simp[g],λt f=>?_⟩;rcases mC.1 f with rfl|f
    .exact Gl h e
    .exact i t f
theorem VF {a:TS}:∀(b:List aq) (u:aq),nO a (b++[u])=(nO a b).bind λxs=>(eT a u.au).map λx=>xs++[x]
 |[],u=>by show(eT a u.au).bind (λx=>(nO a []).map λxs=>x::xs)=_;cases eT a u.au<;>rfl
 |v::b,u=>by
  show(eT a v.au).bind (λx=>(nO a<|b++[u]).map λxs=>x::xs)=((eT a v.au).bind λx=>(nO a b).map λxs=>x::xs).bind _;rw[VF b u];cases eT a v.au with
  |none=>rfl
  |some x=>
   cases nO a b with
   |none=>rfl
   |some xs=>cases eT a u.au<;>rfl
/-! ### What an instruction has -/
def ia (b:TS) (c:aj) (a:List aq):Nat->Option (List aq)
 |0=>some []
 |k+1=>(ia b c a k).bind λxs=>if c.getD k 0=115 then(eT b (nth a<|k+1).au).map λx=>xs++[x] else some xs
theorem aib {a:TS} {b:aj} (h:ia a b ps k=none):∀n,k<=n->ia a b ps n=none:=by
 intro n _;induction n with
 |zero=>rw[show k=0 from by omega] at h;exact h
 |succ n d=>
  rcases Nat.lt_or_ge k (n+1) with c|c
  .unfold ia;rw[d om];rfl
  .rw[show k=n+1 from by omega] at h;exact h
theorem aic {b:TS} {a:aj} {c:List aq} (h:ia b a ps k=some c) (d:a.getD k 0≠115):ia b a ps (k+1)=some c:=by unfold ia;rw[h,Option.bind_some,iN d]
theorem aid {a:TS} {b:aj} {c:List aq} (h:ia a b ps k=some c) (d:b.getD k 0=115) (e:eT a (nth ps<|k+1).au=some x):ia a b ps (k+1)=some (c++[x]):=by unfold ia;rw[h,Option.bind_some,iP d,e];rfl
theorem aie {a:TS} {b:aj} {e:List aq} (h:ia a b ps k=some e) (c:b.getD k 0=115) (d:eT a (nth ps<|k+1).au=none):ia a b ps (k+1)=none:=by unfold ia;rw[h,Option.bind_some,iP c,d];rfl
theorem Pl {st:TS} (b:ps.length=m+2):∀k,k<=m->ia st ([100]++List.replicate m 115) ps (k+1)=nO st ((ps.drop 2).take k)
 |0,_=>by simp[ia,nO]
 |k+1,hk=>by
  have d:=Pl (st:=st) b k om;have c:([100]++List.replicate m 115:aj).getD (k+1) 0=115:=by rw[gG,List.getElem?_append_right sm,List.getElem?_replicate,iP so];rfl
  have a:k<(ps.drop 2).length:=by simp;omega
  have e:(ps.drop 2).take (k+1)=(ps.drop 2).take k++[nth ps (k+2)]:=by rw[List.take_succ_eq_append_getElem a,List.getElem_drop,xp (show k+2<ps.length by omega)];simp[Nat.add_comm]
  rw[e,VF,<-d]
  conv=>lhs;unfold ia
  simp only[c,if_true]
theorem Gm (h:mP t=true):eA (bA t) t.ag.length≠[]/\t.ag.length=(eA (bA t) t.ag.length).length+1/\
  ∀i,i<(eA (bA t) t.ag.length).length->iC (((eA (bA t) t.ag.length).getD i 0).toNat:Int) (nth t.ag (i+1))=true:=by
 unfold mP at h;split at h
 .cases h
 .rename_i a;exact⟨λh=>a<|.inl h,Classical.not_not.1 λh=>a<|.inr h,of_decide_eq_true h⟩
/-! ### What it gives -/
section
variable {p:List cM} {st:TS} {o:Nat} {t:aq}
theorem VG (a:bA t=[99,111,110,115,116]):stepT p st o t=eU st (gY (nth t.ag 1).au) (some iT):=by simp[stepT,nQ,a]
theorem VH (a:bA t=[109,111,118]) (b:eT st (nth t.ag 2).au=some x):stepT p st o t=eU st (gY (nth t.ag 1).au) (some x):=by simp[stepT,nQ,a,b]
theorem VI (a:bA t=[97,100,100]\/bA t=[115,117,98]\/bA t=[109,117,108]) (b:eT st (nth t.ag 2).au=some x) (c:eT st (nth t.ag 3).au=some y):
  stepT p st o t=if xq x iT&&xq y iT then eU st (gY (nth t.ag 1).au) (some iT) else none:=by
 rcases a with a|a|a<;>simp only[stepT,nQ,a,b,c,tC]<;>cases(xq x iT&&xq y iT)<;>simp[eU]
theorem VJ {a:List aq} (b:bA t=[110,101,119]) (c:nO st (t.ag.drop 2)=some a):stepT p st o t=eU st (gY (nth t.ag 1).au) (some<|mu [116] a):=by simp[stepT,b,c]
theorem VK (a:bA t=[110,101,119]) (b:nO st (t.ag.drop 2)=none):stepT p st o t=none:=by simp[stepT,a,b,eU]
theorem Pm (b:bA t=[103,101,116]) (d:eT st (nth t.ag 2).au=some x):
  stepT p st o t=if bA x=[116]/\xr (nth t.ag 3).au+1<x.ag.length then eU st (gY (nth t.ag 1).au) (some<|nth x.ag (xr (nth t.ag 3).au+1).toNat) else none:=by
 have e:nQ p st o t=(if bA x=[116]/\xr (nth t.ag 3).au+1<x.ag.length then some (nth x.ag (xr (nth t.ag 3).au+1).toNat) else none):=by simp[nQ,b,d]
 have c:stepT p st o t=eU st (gY (nth t.ag 1).au) (nQ p st o t):=by simp[stepT,b]
 rw[c,e];by_cases a:bA x=[116]/\xr (nth t.ag 3).au+1<x.ag.length
 .rw[iP a,iP a]
 .rw[iN a,iN a];rfl
theorem IF {l:Option (List aq)} (a:bA t=[108,97,98]) (b:bT p (nth t.ag 2).au=l):stepT p st o t=eU st (gY (nth t.ag 1).au) (l.map<|mu [99]):=by subst b;simp[stepT,nQ,a]
theorem VL (a:bA t=[112,97,99,107]) (b:eT st (nth t.ag 2).au=some x):
  stepT p st o t=if xq x (dW (nth t.ag 4)<|nth (nth t.ag 3).ag 1) then eU st (gY (nth t.ag 1).au) (some<|nth t.ag 3) else none:=by
 simp only[stepT,nQ,a,b,Option.bind_some];cases xq x (dW (nth t.ag 4)<|nth (nth t.ag 3).ag 1)<;>simp[eU]
theorem Pn (b:bA t=[111,112,101,110]) (d:eT st (nth t.ag 2).au=some x):
  stepT p st o t=if bA x=[101] then eU st (gY (nth t.ag 1).au) (some (dW (bJ (97::aS o))<|nth x.ag 1)) else none:=by
 have e:nQ p st o t=(if bA x=[101] then some (dW (bJ (97::aS o))<|nth x.ag 1) else none):=by simp[nQ,b,d]
 have c:stepT p st o t=eU st (gY (nth t.ag 1).au) (nQ p st o t):=by simp[stepT,b]
 rw[c,e];by_cases a:bA x=[101]
 .rw[iP a,iP a]
 .rw[iN a,iN a];rfl
theorem VM (b:bA t=[122,101,114,111]) (c:eT st (nth t.ag 1).au=some x):
  stepT p st o t=(bT p (nth t.ag 2).au).bind λa=>if xq x iT&&meets st a then some st else none:=by
 simp[stepT,b,c,tC]
theorem VN (a:bA t=[106,117,109,112]) (b:eT st (nth t.ag 1).au=some x):
  stepT p st o t=if bA x=[99]/\meets st (x.ag.drop 1)=true then some st else none:=by
 simp[stepT,a,b]
theorem VO (a:bA t=[104,97,108,116]):stepT p st o t=(eT st (nth t.ag 1).au).map λ_=>st:=by simp[stepT,a]
theorem VP (u:mP t=true) (h:ia st (eA (bA t) t.ag.length) t.ag (eA (bA t) t.ag.length).length=none):stepT p st o t=none:=by
 obtain⟨d,a,_⟩:=Gm u;have f:∀{q:Nat},eT st (nth t.ag q).au=none\/∃x,eT st (nth t.ag q).au=some x:=fun{q}=>by cases eT st (nth t.ag q).au<;>simp
 unfold eA at h d a;by_cases c1:bA t=[99,111,110,115,116]
 .rw[iP c1] at h;simp[ia] at h
 rw[iN c1] at h d a;by_cases c2:bA t=[109,111,118]\/bA t=[111,112,101,110]
 .rw[iP c2] at h;have c:eT st (nth t.ag 2).au=none:=by
   rcases f (q:=2) with b|⟨x,b⟩
   .exact b
   .simp[ia,b] at h
  rcases c2 with e|e<;>simp[stepT,nQ,e,c,eU]
 rw[iN c2] at h d a;by_cases g:bA t=[97,100,100]\/bA t=[115,117,98]\/bA t=[109,117,108]
 .rw[iP g] at h;have c:eT st (nth t.ag 2).au=none\/eT st (nth t.ag 3).au=none:=by
   rcases f (q:=2) with b|⟨x,b⟩
   .exact .inl b
   .rcases f (q:=3) with r|⟨y,r⟩
    .exact .inr r
    .simp[ia,b,r] at h
  rcases c with c|c<;>rcases g with e|e|e<;>simp[stepT,nQ,e,c,eU,tC]
 rw[iN g] at h d a;by_cases i:bA t=[110,101,119]
 .rw[iP i] at h a;refine VK i ?_;have v:t.ag.length=(t.ag.length-2)+2:=by simp at a;omega
  have:=Pl (st:=st) v (t.ag.length-2)<|lR _;rw[show([100]++List.replicate (t.ag.length-2) 115:aj).length=t.ag.length-2+1 from by simp[Nat.add_comm]] at h;rw[h,List.take_of_length_le sm] at this;exact this.symm
 rw[iN i] at h d a;by_cases j:bA t=[103,101,116]
 .rw[iP j] at h;have c:eT st (nth t.ag 2).au=none:=by
   rcases f (q:=2) with b|⟨x,b⟩
   .exact b
   .simp[ia,b] at h
  simp[stepT,nQ,j,c,eU]
 rw[iN j] at h d a;by_cases s:bA t=[108,97,98]
 .rw[iP s] at h;simp[ia] at h
 rw[iN s] at h d a;by_cases l:bA t=[112,97,99,107]
 .rw[iP l] at h;have c:eT st (nth t.ag 2).au=none:=by
   rcases f (q:=2) with b|⟨x,b⟩
   .exact b
   .simp[ia,b] at h
  simp[stepT,nQ,l,c,eU]
 rw[iN l] at h d a;by_cases m:bA t=[122,101,114,111]
 .rw[iP m] at h;have c:eT st (nth t.ag 1).au=none:=by
   rcases f (q:=1) with b|⟨x,b⟩
   .exact b
   .simp[ia,b] at h
  simp[stepT,m,c,tC]
 rw[iN m] at h d a;by_cases n:bA t=[106,117,109,112]\/bA t=[104,97,108,116]
 .rw[iP n] at h;have c:eT st (nth t.ag 1).au=none:=by
   rcases f (q:=1) with b|⟨x,b⟩
   .exact b
   .simp[ia,b] at h
  rcases n with e|e<;>simp[stepT,e,c]
 rw[iN n] at d;exact absurd rfl d
end
/-! ### Sizes of what is given -/
theorem size_pos (t:aq):1<=t.size:=by have:=rI t;omega
theorem Po (y:aq) (h:Good t):(dW y t).size<=t.size*y.size:=by
 have e:=size_pos y;induction h with
 |au a f hb=>
  unfold dW;split
  .have:=size_pos<|aq.mk a [];exact Nat.le_mul_of_pos_left _ this
  .rw[iP (.inl f)];exact Nat.le_mul_of_pos_right _ e
 |list ps d _ g=>
  unfold dW;rw[iN de];split
  .exact Nat.le_mul_of_pos_right _ e
  .have c:∀b:List aq,(∀p∈b,(dW y p).size<=p.size*y.size)->aq.size.sizes (Ac y b)<=aq.size.sizes b*y.size:=by
    intro b;induction b with
    |nil=>intro _;simp[Ac,aq.size.sizes]
    |cons q b i=>intro h;have j:=h q sm;have l:=i λp d=>h p (by simp[d]);simp only[Ac,aq.size.sizes,Nat.add_mul];omega
   have:=c ps g;simp only[aq.size,List.length_nil,Nat.add_mul];omega
theorem Ls (t:aq):∀m,t.size<=m->WF t->t.text.length+1<=2*t.size:=by
 intro m;induction m generalizing t with
 |zero=>intro h;have:=size_pos t;omega
 |succ m r=>
  intro _ g;cases g with
  |au a l=>rw[sB l];simp only[aq.size,aq.size.sizes];omega
  |list ps d o=>
   rw[tw];have e:(aq.mk [] ps).size=1+aq.size.sizes ps:=by simp[aq.size]
   rw[e];have c:∀b:List aq,b≠[]->(∀p∈b,p.text.length+1<=2*p.size)->(l5 b).length+1<=2*aq.size.sizes b:=by
    intro b;induction b with
    |nil=>intro h;exact absurd rfl h
    |cons q b s=>
     intro _ h;have y:=h q sm;cases b with
     |nil=>rw[rJ];simp only[aq.size.sizes];omega
     |cons u _=>have j:=s sm λp d=>h p (by simp[d]);rw[rK];simp only[aq.size.sizes,lA,lC] at j⊢;omega
   have v:=c ps d (λp f=>by obtain⟨i,n,rfl⟩:=List.getElem_of_mem f;have z:=Io (t:=.mk [] ps) (p:=ps[i]) (i:=i)<|gE n;exact r _ om<|o _ f);simp only[lC,lA,List.length_nil];omega
theorem VQ (h:WF t):t.len<=2*t.size:=by have:=Ls t _ (lR _) h;rw[BT h];omega
theorem qO.size (h:qO t):t.size<=24000:=by have:=h.fits;unfold sC at this;rw[aE,dE,dE] at this;have a:=Vg h.fB;have b:=BT h.fB.wf;omega
theorem VR:∀ts:List aq,(∀t∈ts,t.size<=m)->aq.size.sizes ts<=ts.length*m
 |[],_=>by simp[aq.size.sizes]
 |t::ts,h=>by have b:=h t sm;have c:=VR ts λu a=>h u (by simp[a]);simp only[aq.size.sizes,lC,Nat.add_mul];omega
theorem VS (d:fm c=true) (h:∀t∈ts,qO t) (f:ts.length<=8000):Good (mu [c] ts)/\(mu [c] ts).size<=1000000000/\(mu [c] ts).len<=1000000000:=by
 have b:Good (mu [c] ts):=Lh sm (by simp[d]) λt a=>(h t a).fB;have j:=VR ts λt a=>(h t a).size;have g:ts.length*24000<=8000*24000:=Nat.mul_le_mul_right _ f;have e:(mu [c] ts).size=1+(2+aq.size.sizes ts):=by simp[mu,bJ,aq.size,aq.size.sizes]
 have i:=VQ b.wf;refine⟨b,om,om⟩
theorem Lt:iT.size<=1000000000/\iT.len<=1000000000:=by decide
end Go.Proofs.YtcildnfcpkpomaaGreatDoor
