/- Lemmas for the law FnCheckFault, no statement of their own: no conditions. -/
import Derived.Test.YtjkkipfboijfaaaGreatDoorJa
import Derived.KernelRfl
import Derived.Lib.Atoi
import Derived.Lib.Strings
import Derived.Test.YtjkkipfboijfaaaGreatDoorProg
set_option maxHeartbeats 4000000
set_option linter.all false
namespace Go.Proofs.YtjkkipfboijfaaaGreatDoor
open Go
variable {B E U bytes d i k m n n1 n2 sz:Nat} {L L' W:List Nat} {w w' w0:World} {V v z:Value} {g gb:Option Nat} {rows:List (List C)} {b:Bk} {p t x y:au} {ps ts:List au} {h l r s:aj} {P:Program} {ops:Array Oper} {bs:List Bk} {xs:List aj} {c:UInt8} {a:Prop} {e0:Env} {o:Oper} {N R:Env->World->Prop} {X:Nat->Env->World->Prop}
structure Gr (B:Nat) (L:List Nat) (w:World) (T:TypeId) (sz:Nat) (v:Value) (g:Option Nat) (rows:List (List C)):Prop where
 own:∃xs,iU L w T sz v g rows xs
 low:∀b,g=some b->B<=b
 cT:∀x∈L,x<w.heap.size
 bsz:B<=w.heap.size
theorem Gr.nil {T:TypeId} (b:∀x∈L,x<w.heap.size) (a:B<=w.heap.size):Gr B L w T sz (.slice none 0 0) none []:=
 ⟨⟨[],iU.nil _ _ _ _⟩,sm,b,a⟩
def Gr.aG {T:TypeId} (h:Gr B L w T sz v g rows) (k:ak L' w w') (a:∀x∈L',x∈L):Gr B L w' T sz v g rows:=
 ⟨h.own.imp λ_ h=>h.aG k a,h.low,λx b=>lL (h.cT x b) k.size,Nat.le_trans h.bsz k.size⟩
def Gr.ext {T:TypeId} (h:Gr B L w T sz v g rows) (k:ak [] w w'):Gr B L w' T sz v g rows:=h.aG k sm
def Gr.aB {T:TypeId} (h:Gr B L w T sz v g rows) (k:ak L' w w') (a:∀x∈L',x∈L):Gr B L w' T sz v g rows:=h.aG k a
theorem Gr.alloc {T:TypeId} (h:Gr B L w T sz v g rows) (k:ak [] w w') (b:w'.heap.size=w.heap.size+1):Gr B (w.heap.size::L) w' T sz v g rows:=
 ⟨h.own.imp λ_ h=>(h.more tZ).aG k sm,h.low,λx a=>by rcases mC.1 a with rfl|a;omega;have:=h.cT x a;omega,Nat.le_trans h.bsz k.size⟩
def Gr.dX {T:TypeId} (h:Gr B L w T sz v g rows) (b:∀x∈L',x∈L):Gr B L' w T sz v g rows:=
 ⟨h.own.imp λ_ h=>h.more λx a=>.inl<|b x a,h.low,λx a=>h.cT x<|b x a,h.bsz⟩
def Gr.done {T:TypeId} (h:Gr B L w T sz v g rows):cw L w v (.sl sz rows):=by obtain⟨_,h⟩:=h.own;exact h.done
def Gr.xD {T:TypeId} (h:Gr B L w T sz v g rows) {b:Nat} (hb:b∈L):b∉g.toList:=by obtain⟨_,h⟩:=h.own;exact h.sep hb
def Gr.F7 {T:TypeId} (h:Gr B L w T sz v g rows) {b:Nat} (hb:b<B):b∉g.toList:=by intro a;have:=h.low b (by simpa using a);omega
theorem Gr.lt {T:TypeId} (h:Gr B L w T sz v g rows):∀x∈g.toList,x<w.heap.size:=by obtain⟨_,h⟩:=h.own;intro x a;exact h.own.lt x (by simpa using a)
theorem Gr.all {T:TypeId} (h:Gr B L w T sz v g rows):∀x∈g.toList++L,x<w.heap.size:=by
 intro x a;rcases mA.1 a with a|a
 .exact h.lt x a
 .exact h.cT x a
def Gr.since {T:TypeId} (h:Gr w0.heap.size L w T sz v g rows) (b:ak L' w0 w) (k:ak g.toList w w'):ak L' w0 w':=
 b.since k λx a=>.inr (h.low x<|by simpa using a)
def ak.Iv (a:w0.heap.size<=B) (c:∀b,g=some b->B<=b) (e:ak L' w0 w) (k:ak g.toList w w'):ak L' w0 w':=
 e.since k λx d=>.inr<|Nat.le_trans a (c x<|by simpa using d)
section
variable {P:Program} {n:Nat} {ops:Array Oper} {K:Env->World->Prop} {rest:List Oper} {e:Env} {w:World}
 {dst:Option Nat} {ty:TypeId} {pos:String} {after:Array Edge} {g:Option (Nat×Bool)} {x y:Operand}
def Iw {B:Nat} {L:List Nat} {t:Nat} {v:Value} {j:Option Nat} {rows:List (List C)} {row:List C} {c:List Value} {b U:Nat} (q:P.underlying t=some (.slice E)) (o:TI P E sz bytes z) (s:gate ops e g=true) (r:cN n dst=true) (H:Nat.beq z.cells.size sz=true) (I:Nat.ble bytes 1000=true) 
  (l:ev e x=v) (F:ev e y= .slice (some ⟨b,0,none⟩) 1 1) (d:Gr B L w E sz v j rows) (hb:aL w b c.toArray U) (J:row.length=sz) (m:c.all Value.oneCell'=true)
  (A:dC (j.toList++L) w c row) (Q:rows.length<100000000)
  (k:∀f a i w',Gr B L w' E sz (.slice f (rows.length+1) a) i (rows++[row])->ak j.toList w w'->OW P n ops K rest (cC e dst (.slice f (rows.length+1) a)) w'):
  OW P n ops K (⟨dst,.call {callee:=.builtin .append,args:=#[x,y],argTypes:=#[t,t]},ty,pos,after,g⟩::rest) e w:=by
 obtain⟨xs,p⟩:=d.own;have O:bytes<=1000:=Nat.le_of_ble_eq_true I;refine UE q o s r H l F p J hb.all (λu D=>List.all_eq_true.1 m u D) A d.cT (Nat.le_trans (Nat.mul_le_mul (show rows.length+1<=100000000 by omega)<|show bytes+1<=1001 by omega) de) ?_;intro f a i w' M hk N;refine k f a i w' ⟨⟨_,M⟩,λb hb=>?_,λx l=>lL (d.cT x l) hk.size,Nat.le_trans d.bsz hk.size⟩ hk;rcases N with h|h
 .rw[h] at hb;exact d.low b hb
 .rw[h] at hb;cases hb;exact d.bsz
def F8 {B:Nat} {L:List Nat} {t:Nat} {v r s:Value} {m:Option Nat} {d:List au} {f:au} {b U:Nat} (H:P.underlying t=some (.slice E)) (D:TI P E 2 bytes z) (J:gate ops e g=true) (I:cN n dst=true) (R:Nat.beq z.cells.size 2=true) (S:Nat.ble bytes 1000=true) 
  (O:ev e x=v) (Q:ev e y= .slice (some ⟨b,0,none⟩) 1 1) (F:Gr B L w E 2 v m (dj d)) (hb:aL w b [r,s].toArray U)
  (q:ba (m.toList++L) w (.agg #[r,s]) f) (M:d.length<100000000)
  (k:∀i a l w',Gr B L w' E 2 (.slice i (d++[f]).length a) l (dj (d++[f]))->ak m.toList w w'->OW P n ops K rest (cC e dst (.slice i (d++[f]).length a)) w'):
  OW P n ops K (⟨dst,.call {callee:=.builtin .append,args:=#[x,y],argTypes:=#[t,t]},ty,pos,after,g⟩::rest) e w:=by
 refine Iw H D J I R S O Q F hb (qB f) ?_ q.l9 (by rw[iI];exact M) ?_
 .rw[List.all_eq_true];refine λu N=>dC.Is q.l9 (λc o v j=>?_) u N;cases f;rw[au.enc] at o;simp only[mC,List.not_mem_nil,or_false] at o;rcases o with h|h
  .rw[h] at j;cases j;rfl
  .rw[h] at j;cases j
 .intro i a l w' p hk;have A:(dj d).length+1=(d++[f]).length:=by simp[iI]
  have C:dj d++[f.enc]=dj (d++[f]):=by simp[OU,dj]
  rw[A] at p⊢;rw[C] at p;exact k i a l w' p hk
def UK {B:Nat} {L:List Nat} {t:Nat} {v:Value} {j:Option Nat} {c:List aj} {s:aj} {b U:Nat} (q:P.underlying t=some (.slice E)) (o:TI P E 1 bytes z) (u:gate ops e g=true) (r:cN n dst=true) (F:Nat.beq z.cells.size 1=true) (H:Nat.ble bytes 1000=true) 
  (C:ev e x=v) (D:ev e y= .slice (some ⟨b,0,none⟩) 1 1) (p:Gr B L w E 1 v j (gm c)) (hb:aL w b [str s].toArray U) (A:c.length<100000000)
  (k:∀d a f w',Gr B L w' E 1 (.slice d (c++[s]).length a) f (gm (c++[s]))->ak j.toList w w'->OW P n ops K rest (cC e dst (.slice d (c++[s]).length a)) w'):
  OW P n ops K (⟨dst,.call {callee:=.builtin .append,args:=#[x,y],argTypes:=#[t,t]},ty,pos,after,g⟩::rest) e w:=by
 refine Iw (row:=[.val (str s)]) q o u r F H C D p hb rfl rfl ⟨.val _,trivial⟩ (by rw[oX];exact A) ?_;intro d a f w' i hk;have l:(gm c).length+1=(c++[s]).length:=by simp[oX]
 have m:gm c++[[.val (str s)]]=gm (c++[s]):=by simp[gm]
 rw[l] at i⊢;rw[m] at i;exact k d a f w' i hk
end
theorem UM {P:Program} {T:Nat} (b:P.underlying T=some (.slice E)) (a:TI P E sz bytes z):(Instr.buildSlice T 0 #[]).run P w= .ok (.slice (some ⟨w.heap.size,0,none⟩) 0 0) (w.alloc<|.cells #[] E):=by simp[Instr.buildSlice,Sem.run_bind,run_underlying b,Result.andThen_ok,a.uR,Instr.fill,newRow];congr 2;apply Array.ext<;>simp
def xF {P:Program} {n:Nat} {d:Array Oper} {K:Env->World->Prop} {rest:List Oper} {e:Env} {w:World} {c:Option Nat} {ty:TypeId} {pos:String} {a:Array Edge} {g:Option (Nat×Bool)} 
  {T E j bytes:Nat} {z:Value} (B:Nat) (L:List Nat) (o:P.underlying T=some (.slice E)) (m:TI P E j bytes z) (q:gate d e g=true) (p:cN n c=true) (l:B<=w.heap.size) (i:∀x∈L,x<w.heap.size)
  (k:∀w',ak [] w w'->w'.heap.size=w.heap.size+1->Gr B L w' E j (.slice (some ⟨w.heap.size,0,none⟩) 0 0) (some w.heap.size) []->OW P n d K rest (cC e c<|.slice (some ⟨w.heap.size,0,none⟩) 0 0) w'):
  OW P n d K (⟨c,.buildSlice T 0 #[],ty,pos,a,g⟩::rest) e w:=
 fY q p (w':=w.alloc<|.cells #[] E) (by simp[execOp,UM (P:=P) (w:=w) o m])
  (k _ (ak.alloc _ _ _) sm ⟨⟨[],⟨by simp,.inr ⟨w.heap.size,0,#[],rfl,rfl,aL.alloc _ _ _,lR _,by decide,sm,sm⟩⟩,trivial,sm,by intro b hb f;cases hb;have:=i _ f;omega⟩,
   by intro b hb;cases hb;exact l,λx f=>by have:=i x f;simp;omega,by simp;omega⟩)
def qC.l9 {x y:Value} (h:qC L w (.agg #[x,y,z]) b):dC L w [x,y,z] b.enc:=by
 obtain⟨e,a,c⟩:=h;have d:e=[x,y,z]:=by have:=congrArg (λv=>match v with|Value.agg x=>x.toList|_=>[]) a;simpa using this.symm
 rw[<-d];exact c
def adU {P:Program} {n:Nat} {l:Array Oper} {K:Env->World->Prop} {rest:List Oper} {e:Env} {w:World} {j:Option Nat} {ty:TypeId} {pos:String} {i:Array Edge} {g:Option (Nat×Bool)} {x y:Operand} 
  {B:Nat} {L:List Nat} {t E bytes:Nat} {z:Value} {v C D F:Value} {q:Option Nat} {d:List Bk} {f:Bk} {b U:Nat} (N:P.underlying t=some (.slice E)) (J:TI P E 3 bytes z) (Q:gate l e g=true) (O:cN n j=true) (X:Nat.beq z.cells.size 3=true) (Y:Nat.ble bytes 1000=true)
  (T:ev e x=v) (V:ev e y= .slice (some ⟨b,0,none⟩) 1 1) (M:Gr B L w E 3 v q (d.map Bk.enc)) (hb:aL w b [C,D,F].toArray U)
  (A:qC (q.toList++L) w (.agg #[C,D,F]) f) (R:d.length<100000000)
  (k:∀o a p w',Gr B L w' E 3 (.slice o (d++[f]).length a) p ((d++[f]).map Bk.enc)->ak q.toList w w'->OW P n l K rest (cC e j (.slice o (d++[f]).length a)) w'):
  OW P n l K (⟨j,.call {callee:=.builtin .append,args:=#[x,y],argTypes:=#[t,t]},ty,pos,i,g⟩::rest) e w:=by
 refine Iw N J Q O X Y T V M hb rfl ?_ A.l9 (by simpa using R) ?_
 .rw[List.all_eq_true];refine λu S=>dC.Is A.l9 (λc r v m=>?_) u S;rw[Bk.enc] at r;simp only[mC,List.not_mem_nil,or_false] at r;rcases r with h|h|h
  .rw[h] at m;cases m;rfl
  .rw[h] at m;cases m
  .rw[h] at m;cases m
 .intro o a p w' s hk;have H:(d.map Bk.enc).length+1=(d++[f]).length:=by simp
  have I:d.map Bk.enc++[f.enc]=(d++[f]).map Bk.enc:=by simp
  rw[H] at s⊢;rw[I] at s;exact k o a p w' s hk
def Gr.BS {T:TypeId} (h:Gr B L w T 3 v g (bs.map Bk.enc)):ma L w v bs:=h.done
/-! ### Owned lists of texts,owned programs -/
def dk (w:World) (T:TypeId) (v:Value) (g:Option Nat) (a:List aj):Prop:=jT w T 1 v g a.length<|a.map λx=>str x
theorem UN:∀{xs:List aj} {a:List Value},dC L w a (gm xs).flatten->a=xs.map λx=>str x
 |[],a,h=>by
  cases a with
  |nil=>rfl
  |cons v a=>exact h.elim
 |x::xs,a,h=>by
  cases a with
  |nil=>exact h.elim
  |cons v a=>obtain⟨b,c⟩:=h;cases b;rw[List.map_cons,<-UN (xs:=xs) c]
def UO:∀xs:List aj,dC L w (xs.map λx=>str x) (gm xs).flatten
 |[]=>trivial
 |_::xs=>⟨.val _,UO xs⟩
def Gr.yI {T:TypeId} (h:Gr B L w T 1 v g (gm xs)):dk w T v g xs:=by obtain⟨_,h⟩:=h.own;have:=h.own;rw[UN h.rep,oX] at this;exact this
def dk.adV {T:TypeId} (h:dk w T v g xs) (c:∀b,g=some b->b∉L):iU L w T 1 v g (gm xs) (xs.map λx=>str x):=
 ⟨by rw[oX];exact h,UO xs,by intro row a;simp[gm] at a;obtain⟨_,_,rfl⟩:=a;rfl,c⟩
theorem dk.rep {T:TypeId} (h:dk w T v g xs) (a:∀b,g=some b->b∉L):bo L w v xs:=(h.adV a).done
def dk.aG {T:TypeId} (h:dk w T v g xs) (k:ak L w w') (a:∀b,g=some b->b∉L):dk w' T v g xs:=jT.aG h k a
def dk.ext {T:TypeId} (h:dk w T v g xs) (k:ak [] w w'):dk w' T v g xs:=h.aG k sm
def sh (w:World) (T:TypeId) (a:Option Nat×Option Nat) (e:List Value) (b:Bk):Prop:=
 ∃c d,e=[str b.aQ,c,d]/\dk w T c a.1 b.bS/\dk w T d a.2 b.code
def j6 (a:Option Nat×Option Nat):List Nat:=a.1.toList++a.2.toList
def iG (a:List (Option Nat×Option Nat)):List Nat:=a.flatMap j6
def sh.aG {T:TypeId} {a:Option Nat×Option Nat} {d:List Value} (h:sh w T a d b) (k:ak L w w') (c:∀x,x∈j6 a->x∉L):sh w' T a d b:=by obtain⟨i,j,e,f,g⟩:=h;exact⟨i,j,e,f.aG k λb hb=>c b<|by simp[j6,hb],g.aG k λb hb=>c b<|by simp[j6,hb]⟩
def jX (w:World) (T:TypeId):List (Option Nat×Option Nat)->List (List Value)->List Bk->Prop
 |[],[],[]=>True
 |g::gs,v::vs,b::bs=>sh w T g v b/\jX w T gs vs bs
 |_,_,_=>False
def jX.aG {T:TypeId} (k:ak L w w'):∀{a:List (Option Nat×Option Nat)} {c:List (List Value)} {bs:List Bk},jX w T a c bs->(∀x,x∈iG a->x∉L)->jX w' T a c bs
 |[],[],[],_,_=>trivial
 |g::gs,v::vs,b::bs,h,hL=>⟨h.1.aG k λx d=>hL x<|by simp[iG,d],jX.aG k h.2 λx d=>hL x (by simp[iG] at d⊢;exact .inr d)⟩
def jX.snoc {T:TypeId}:∀{a:List (Option Nat×Option Nat)} {c:List (List Value)} {bs:List Bk} {g:Option Nat×Option Nat} {v:List Value} {b:Bk},jX w T a c bs->sh w T g v b->jX w T (a++[g]) (c++[v]) (bs++[b])
 |[],[],[],_,_,_,_,h=>⟨h,trivial⟩
 |_::_,_::_,_::_,_,_,_,h,k=>⟨h.1,jX.snoc h.2 k⟩
theorem jX.lens {T:TypeId}:∀{c:List (Option Nat×Option Nat)} {a:List (List Value)} {bs:List Bk},jX w T c a bs->c.length=bs.length/\a.length=bs.length/\∀row∈a,row.length=3
 |[],[],[],_=>by simp
 |g::gs,v::vs,b::bs,h=>by
  obtain⟨e,f,i⟩:=jX.lens h.2;refine⟨by simp[e],by simp[f],λrow d=>?_⟩;rcases mC.1 d with rfl|d
  .obtain⟨_,_,rfl,_⟩:=h.1;rfl
  .exact i row d
theorem jX.get {T:TypeId}:∀{a:List (Option Nat×Option Nat)} {c:List (List Value)} {bs:List Bk},jX w T a c bs->∀{i:Nat} {b:Bk},bs[i]?=some b->∃g v,a[i]?=some g/\c[i]?=some v/\sh w T g v b
 |_::_,_::_,_::_,h,0,b,hb=>by simp at hb;subst hb;exact⟨_,_,rfl,rfl,h.1⟩
 |_::gs,_::vs,_::bs,h,i+1,b,hb=>by obtain⟨g,v,d,e,f⟩:=jX.get h.2 (i:=i) (by simpa using hb);exact⟨g,v,by simpa using d,by simpa using e,f⟩
 |[],[],[],_,i,b,hb=>by simp at hb
def jX.DF {T:TypeId}:∀{a:List (Option Nat×Option Nat)} {c:List (List Value)} {bs:List Bk},jX w T a c bs->(∀x,x∈iG a->x∉L)->dC L w c.flatten (bs.map Bk.enc).flatten
 |[],[],[],_,_=>trivial
 |g::gs,v::vs,b::bs,h,hL=>by obtain⟨_,_,rfl,e,f⟩:=h.1;refine⟨.val _,e.rep λb hb=>hL b<|by simp[iG,j6,hb],f.rep λb hb=>hL b<|by simp[iG,j6,hb],?_⟩;exact jX.DF h.2 λx d=>hL x (by simp[iG] at d⊢;exact .inr d)
structure oo (w:World) (TB TS:TypeId) (v:Value) (g:Option Nat) (gss:List (Option Nat×Option Nat)) (vss:List (List Value)) (bs:List Bk):Prop where
 own:jT w TB 3 v g bs.length vss.flatten
 rows:jX w TS gss vss bs
 nodup:(g.toList++iG gss).Nodup
 lt:∀x,x∈iG gss->x<w.heap.size
def oo.aG {e TS:TypeId} {a:List (Option Nat×Option Nat)} {c:List (List Value)} (h:oo w e TS v g a c bs) (k:ak L w w') (f:∀x,x∈g.toList++iG a->x∉L):oo w' e TS v g a c bs:=
 ⟨h.own.aG k λb hb=>f b<|by simp[hb],h.rows.aG k λx d=>f x<|by simp[d],h.nodup,λx d=>lL (h.lt x d) k.size⟩
def oo.ext {c TS:TypeId} {a:List (Option Nat×Option Nat)} {b:List (List Value)} (h:oo w c TS v g a b bs) (k:ak [] w w'):oo w' c TS v g a b bs:=h.aG k sm
def ba.OY {A B:List Nat} {b:Nat} (h:ba (b::(A++B)) w v t):ba (A++(b::B)) w v t:=ja.fresh h λx a=>.inl<|UB x a
def ba.dX (h:ba L w v t) (a:∀x∈L',x∈L):ba L' w v t:=ja.fresh h λx b=>.inl<|a x b
def cP.dX {t:List au} (h:cP L w v t) (a:∀x∈L',x∈L):cP L' w v t:=cw.fresh h λx b=>.inl<|a x b
def Gr.trees {T:TypeId} (h:Gr B L w T 2 v g (dj ts)):cP L w v ts:=h.done
def je (c:UInt8):Bool:=48<=c&&c<=57
theorem DG (c:UInt8):je c=true↔48<=c.toNat/\c.toNat<=57:=by simp[je,UInt8.le_iff_toNat_le]
def qD (s:aj):Int:=if 0<s.length/\s.getD 0 0=45 then -1 else 1
def fj (s:aj):aj:=if 0<s.length/\s.getD 0 0=45 then s.drop 1 else s
def val (a:aj):Nat:=a.foldl (λn c=>10*n+(c.toNat-48)) 0
def numeral (s:aj):Option Int:=
 if s=[48] then some 0
 else if(fj s).length<1\/3<(fj s).length\/(fj s).getD 0 0=48 then none
 else if(fj s).all je=true then some (qD s*val (fj s)) else none
theorem UP (a:aj) (c:UInt8):val (a++[c])=10*val a+(c.toNat-48):=by simp[val]
def OZ:∀(a:aj),a.all je=true->val a<10^a.length:=by
 intro a;have d:∀(l:aj) (n k:Nat),l.all je=true->n<10^k->l.foldl (λn c=>10*n+(c.toNat-48)) n<10^(k+l.length):=by
  intro l;induction l with
  |nil=>intro n k _ h;simpa using h
  |cons c l e=>intro n k b h;simp only[List.all_cons,aE] at b;have f:=(DG c).1 b.1;simp only[List.foldl_cons,lC];have:=e (10*n+(c.toNat-48)) (k+1) b.2 (by rw[Nat.pow_succ];omega);rw[show k+(l.length+1)=k+1+l.length from by omega];exact this
 intro h;have:=d a 0 0 h sm;simpa[val] using this
theorem O0 (h:k<s.length):s.take (k+1)=s.take k++[s.getD k 0]:=by simp_all
def aT (t:au):aj:=if t.aq≠[]\/t.ag=[] then[] else match t.ag with
 |[]=>[]
 |p::_=>p.aq
def UQ (c:UInt8):Bool:=97<=c&&c<=122
def DH (s:aj) (i:Nat):Bool:=UQ (s.getD i 0)||(decide (0<i)&&je (s.getD i 0))
def pB (s:aj):Bool:=(List.range s.length).all (DH s)&&decide (s≠[])
def Ix (k c:UInt8):decide ((k.toNat:Int)<=c.toNat)=decide (k<=c):=by simp[UInt8.le_iff_toNat_le]
def UR (k c:UInt8):decide ((c.toNat:Int)=k.toNat)=(c==k):=by rw[Bool.eq_iff_iff];simp[<-UInt8.toNat_inj];omega
theorem Le (s:aj) (k:Nat):((decide ((97:Int)<=(s.getD k 0).toNat)&&decide (((s.getD k 0).toNat:Int)<=122))||((decide ((0:Int)<(k:Int))&&decide ((48:Int)<=(s.getD k 0).toNat))&&decide (((s.getD k 0).toNat:Int)<=57)))=DH s k:=by have a:=Ix 97<|s.getD k 0;have b:=Ix (s.getD k 0) 122;have c:=Ix 48<|s.getD k 0;have d:=Ix (s.getD k 0) 57;simp only[show((97:UInt8).toNat:Int)=97 from rfl,show((122:UInt8).toNat:Int)=122 from rfl,show((48:UInt8).toNat:Int)=48 from rfl,show((57:UInt8).toNat:Int)=57 from rfl] at a b c d;rw[a,b,c,d];unfold DH UQ je;rw[show decide ((0:Int)<(k:Int))=decide (0<k) from by simp,Bool.and_assoc]
theorem UT {j:Nat} (a:j<s.length) (h:DH s j=false):pB s=false:=by grind [pB]
theorem UU (h:∀j,j<s.length->DH s j=true):pB s=decide (s≠[]):=by grind [pB]
def UW {P:Nat->Prop} (h:∀j,j<k->P j) (hk:P k):∀j,j<k+1->P j:=by grind
theorem Iy (a:t.aq=[]) (b:t.ag[0]?=some p):aT t=p.aq:=by grind [au.ag,aT]
theorem BT (h:t.aq≠[]\/t.ag=[]):aT t=[]:=by unfold aT;rw[iP h]
def adW (a:s≠[48]) (h:(fj s).length<1\/3<(fj s).length\/(fj s).getD 0 0=48):numeral s=none:=by grind [numeral]
def adX (a:s≠[48]) (hk:k<(fj s).length) (h:je ((fj s).getD k 0)=false):numeral s=none:=by grind [numeral,fj]
theorem adY (b:s≠[48]) (h:1<=(fj s).length/\(fj s).length<=3/\(fj s).getD 0 0≠48) (a:(fj s).all je=true):numeral s=some (qD s*val (fj s)):=by grind [numeral]
def adZ (s:aj):qD s=1\/qD s= -1:=by grind [qD]
def ad0 {a:aj} (h:(!(decide ((1:Int)<=(a.length:Int))&&decide ((a.length:Int)<=3))||decide (((a.getD 0 0).toNat:Int)=48))=true):a.length<1\/3<a.length\/a.getD 0 0=48:=by
 simp only[oE,Bool.not_eq_true',Bool.and_eq_false_iff,decide_eq_false_iff_not,dE] at h;rcases h with(h|h)|h
 .left;omega
 .right;left;omega
 .right;right;exact UInt8.toNat_inj.1 (by have:(48:UInt8).toNat=48:=rfl;rw[this];omega)
def ad1 {a:aj} (h:(!(decide ((1:Int)<=(a.length:Int))&&decide ((a.length:Int)<=3))||decide (((a.getD 0 0).toNat:Int)=48))=false):1<=a.length/\a.length<=3/\a.getD 0 0≠48:=by simp only[Bool.or_eq_false_iff,Bool.not_eq_false',aE,decide_eq_false_iff_not,dE] at h;refine⟨by omega,om,λb=>h.2 (by rw[b];rfl)⟩
def UY (h:(decide ((c.toNat:Int)<48)||decide ((57:Int)<c.toNat))=true):je c=false:=by grind [DG]
def UZ (h:(decide ((c.toNat:Int)<48)||decide ((57:Int)<c.toNat))=false):48<=c.toNat/\c.toNat<=57/\je c=true:=by grind [DG]
def au.size:au->Nat
 | .mk a ps=>1+a.length+sizes ps
 where sizes:List au->Nat
 |[]=>0
 |t::ts=>t.size+sizes ts
def ad2 {ps:List au}:∀{i:Nat} {p:au},ps[i]?=some p->p.size<=au.size.sizes ps:=by
 induction ps with
 |nil=>intro i p h;simp at h
 |cons q ps a=>
  intro i p h;cases i with
  |zero=>simp at h;subst h;simp only[au.size.sizes];omega
  |succ i=>have:=a (by simpa using h);simp only[au.size.sizes];omega
def Iz {t:au} (h:t.ag[i]?=some p):p.size<t.size:=by
 cases t with
 |mk a ps=>have:=ad2 (ps:=ps) h;simp only[au.size];omega
def mc:∀t:au,t.ag.length<t.size
 | .mk a ps=>by
  have:∀l:List au,l.length<=au.size.sizes l:=by
   intro l;induction l with
   |nil=>simp[au.size.sizes]
   |cons q r _=>cases q;simp only[au.size.sizes,au.size,lC];omega
  have:=this ps;simp only[au.ag,au.size];omega
inductive WF:au->Prop
 |aq (a:aj) (h:a≠[]):WF (.mk a [])
 |list (ps:List au) (h:ps≠[]) (hp:∀p∈ps,WF p):WF (.mk [] ps)
def WF.part (h:WF t) (a:t.ag[i]?=some p):WF p:=by cases h<;>grind [au.ag]
theorem WF.first (h:WF t) (c:t.aq=[]):∃p,t.ag[0]?=some p:=by
 cases h with
 |aq a b=>exact absurd c b
 |list ps b _=>
  cases ps with
  |nil=>exact absurd rfl b
  |cons q r=>exact⟨q,rfl⟩
theorem WF.leaf (h:WF t) (b:t.aq≠[]):t.ag=[]:=by
 cases h with
 |aq a _=>rfl
 |list ps _ _=>exact absurd rfl b
def U0 {rd:aj->Option (au×aj)} (f:∀s t r,rd s=some (t,r)->WF t):∀n s ts r,jA rd n s=some (ts,r)->ts≠[]/\∀p∈ts,WF p
 |0,_,_,_,h=>by simp[jA] at h
 |n+1,s,ts,r,h=>by
  unfold jA at h;cases b:rd s with
  |none=>simp[b] at h
  |some q=>
   obtain⟨t,m⟩:=q;have j:=f s t m b;simp only[b] at h;cases m with
   |nil=>simp at h
   |cons c l=>
    simp only at h;by_cases g:c=41
    .rw[iP g] at h;simp at h;obtain⟨rfl,_⟩:=h;exact⟨by simp,by intro p a;simp at a;subst a;exact j⟩
    .rw[iN g] at h;by_cases i:c=32
     .rw[iP i] at h;cases a:jA rd n l with
      |none=>simp[a] at h
      |some q=>obtain⟨e,d⟩:=q;simp[a] at h;obtain⟨rfl,_⟩:=h;obtain⟨_,o⟩:=U0 f n l e d a;exact⟨by simp,by intro p a;rcases mC.1 a with rfl|a;exact j;exact o p a⟩
     .rw[iN i] at h;cases h
theorem ad3:∀d s t r,fl d s=some (t,r)->WF t:=by
 have leaf:∀(s:aj) (t:au) (r:aj),(if s.takeWhile fy=[] then none else some (au.mk (s.takeWhile fy) [],s.dropWhile fy))=some (t,r)->WF t:=by
  intro s t r h;split at h
  .cases h
  .rename_i g;simp only[Option.some.injEq,Prod.mk.injEq] at h;rw[<-h.1];exact .aq _ g
 intro d;induction d with
 |zero=>
  intro s t r h;cases s with
  |nil=>simp[fl] at h
  |cons c s=>
   simp only[fl] at h;by_cases a:c=40
   .rw[iP a] at h;cases h
   .rw[iN a] at h;exact leaf _ _ _ h
 |succ d i=>
  intro s t r h;cases s with
  |nil=>simp[fl] at h
  |cons c s=>
   simp only[fl] at h;by_cases a:c=40
   .rw[iP a] at h;cases b:jA (fl d) (s.length+1) s with
    |none=>simp[b] at h
    |some q=>obtain⟨_,_⟩:=q;simp[b] at h;obtain⟨e,f⟩:=U0 i _ _ _ _ b;rw[<-h.1];exact .list _ e f
   .rw[iN a] at h;exact leaf _ _ _ h
theorem wh (h:bU s=some t):WF t:=by grind [bU,fl,ad3]
def U1 {rd:aj->Option (au×aj)} (f:∀s t r,rd s=some (t,r)->t.size+r.length<=s.length+1):∀n s ts r,jA rd n s=some (ts,r)->au.size.sizes ts+r.length<=s.length
 |0,_,_,_,h=>by simp[jA] at h
 |n+1,s,ts,r,h=>by
  unfold jA at h;cases b:rd s with
  |none=>simp[b] at h
  |some q=>
   obtain⟨t,l⟩:=q;have m:=f s t l b;simp only[b] at h;cases l with
   |nil=>simp at h
   |cons c j=>
    simp only at h;rw[lC] at m;by_cases g:c=41
    .rw[iP g] at h;simp at h;obtain⟨rfl,rfl⟩:=h;simp only[au.size.sizes];omega
    .rw[iN g] at h;by_cases i:c=32
     .rw[iP i] at h;cases a:jA rd n j with
      |none=>simp[a] at h
      |some q=>obtain⟨e,d⟩:=q;simp[a] at h;obtain⟨rfl,rfl⟩:=h;have o:=U1 f n j e d a;simp only[au.size.sizes];omega
     .rw[iN i] at h;cases h
def ad4:∀d s t r,fl d s=some (t,r)->t.size+r.length<=s.length+1:=by
 have leaf:∀(s:aj) (t:au) (r:aj),(if s.takeWhile fy=[] then none else some (au.mk (s.takeWhile fy) [],s.dropWhile fy))=some (t,r)->t.size+r.length<=s.length+1:=by
  intro s t r h;split at h
  .cases h
  .simp only[Option.some.injEq,Prod.mk.injEq] at h;obtain⟨rfl,rfl⟩:=h;have a:=Io fy s;rw[Im,List.length_drop];simp only[au.size,au.size.sizes];omega
 intro d;induction d with
 |zero=>
  intro s t r h;cases s with
  |nil=>simp[fl] at h
  |cons c s=>
   simp only[fl] at h;by_cases a:c=40
   .rw[iP a] at h;cases h
   .rw[iN a] at h;exact leaf _ _ _ h
 |succ d e=>
  intro s t r h;cases s with
  |nil=>simp[fl] at h
  |cons c s=>
   simp only[fl] at h;by_cases a:c=40
   .rw[iP a] at h;cases b:jA (fl d) (s.length+1) s with
    |none=>simp[b] at h
    |some q=>obtain⟨_,_⟩:=q;simp[b] at h;have f:=U1 e _ _ _ _ b;obtain⟨rfl,rfl⟩:=h;simp only[au.size,lC,List.length_nil];omega
   .rw[iN a] at h;exact leaf _ _ _ h
def O2 (h:bU s=some t):s.length<=12000:=by grind [bU]
theorem BU (h:bU s=some t):t.size<=12001:=by
 have b:=O2 h;unfold bU at h;split at h
 .cases h
 .cases a:fl 60 s with
  |none=>rw[a] at h;cases h
  |some q=>
   obtain⟨_,r⟩:=q;rw[a] at h;cases r with
   |nil=>simp at h;subst h;have:=ad4 _ _ _ _ a;simp at this;omega
   |cons c r=>cases h
def rB:∀t:au,t.aq.length<t.size
 | .mk a ps=>by simp only[au.aq,au.size];omega
def gq (b:Bool):au->Bool
 | .mk a ps=>if a≠[] then decide (a=[105])||(b&&decide (a=[118])) else match ps with
  |[]=>false
  |h::rest=>if h.aq=[101] then oneT rest else if h.aq=[116]\/h.aq=[99] then lP b rest else false
 where
 oneT:List au->Bool
  |[]=>false
  |[t]=>gq true t
  |_::_::_=>false
 lP (b:Bool):List au->Bool
  |[]=>true
  |t::ts=>gq b t&&lP b ts
theorem O3 (a:Bool):∀ts,gq.lP a ts=ts.all (gq a)
 |[]=>rfl
 |t::ts=>by simp[gq.lP,O3 a ts]
def nth (a:List au) (i:Nat):au:=a.getD i<|.mk [] []
theorem dN (h:i<ps.length):ps[i]?=some (nth ps i):=by grind [nth]
def kO (h:i<t.ag.length):(nth t.ag i).size<t.size:=Iz<|dN h
theorem WF.nth (h:WF t) (a:i<t.ag.length):WF (nth t.ag i):=h.part<|dN a
theorem WF.pos (h:WF t) (a:t.aq=[]):0<t.ag.length:=by grind [WF.first]
theorem U2 (h:t.aq≠[]) (b:Bool):gq b t=(decide (t.aq=[105])||(b&&decide (t.aq=[118]))):=by
 cases t with
 |mk a ps=>unfold gq;exact iP h
theorem O4 (c:t.aq=[]) (e:0<t.ag.length) (d:(nth t.ag 0).aq=[101]) (b:Bool):gq b t=(decide (t.ag.length=2)&&gq true (nth t.ag 1)):=by
 cases t with
 |mk a ps=>
  simp only[au.aq] at c;subst c;cases ps with
  |nil=>simp[au.ag] at e
  |cons h rest=>
   have f:h.aq=[101]:=d;simp only[gq,f,au.ag,ne_eq,not_true_eq_false,if_false,if_true]
   match rest with
   |[]=>simp[gq.oneT]
   |[p]=>simp[gq.oneT,_root_.Go.Proofs.YtjkkipfboijfaaaGreatDoor.nth]
   |p::q::r=>simp[gq.oneT]
theorem O5 (c:t.aq=[]) (g:0<t.ag.length) (f:(nth t.ag 0).aq=[116]\/(nth t.ag 0).aq=[99]) (b:Bool):gq b t=(t.ag.drop 1).all (gq b):=by
 cases t with
 |mk a ps=>
  simp only[au.aq] at c;subst c;cases ps with
  |nil=>simp[au.ag] at g
  |cons h rest=>
   have d:h.aq=[116]\/h.aq=[99]:=f;have e:h.aq≠[101]:=by rcases d with h|h<;>rw[h]<;>decide
   simp only[gq,e,d,au.ag,ne_eq,not_true_eq_false,if_false,if_true,O3,List.drop_one,List.tail_cons]
theorem U3 (e:t.aq=[]) (i:0<t.ag.length) (f:(nth t.ag 0).aq≠[101]) (g:¬((nth t.ag 0).aq=[116]\/(nth t.ag 0).aq=[99])) (b:Bool):gq b t=false:=by
 cases t with
 |mk a ps=>
  simp only[au.aq] at e;subst e;cases ps with
  |nil=>simp[au.ag] at i
  |cons h rest=>have c:h.aq≠[101]:=f;have d:¬(h.aq=[116]\/h.aq=[99]):=g;simp only[gq,c,d,ne_eq,not_true_eq_false,if_false]
theorem U4 {f:au->Bool} (a:i<ps.length):(ps.drop i).all f=(f (nth ps i)&&(ps.drop<|i+1).all f):=by rw[List.drop_eq_getElem_cons a,List.all_cons];simp[nth,List.getD,gE a]
def ad7 {a x y:aj} (h:(decide (a≠x)&&decide (a≠y))=false):a=x\/a=y:=by grind
def ad8 {a x y:aj} (h:(decide (a≠x)&&decide (a≠y))=true):¬(a=x\/a=y):=by grind
def lQ (a:aj):Int:=match numeral a with
 |some n=>if 0<=n/\n<=39 then n else -1
 |none=> -1
def jr (a:aj):Bool:=decide<|0<=lQ a
def j7 (z:Int) (t:au):Bool:=
 if z=114\/z=42 then jr t.aq else if z=110 then(numeral t.aq).isSome else if z=108 then pB t.aq
 else if z=101 then decide (aT t=[101])&&gq false t else gq false t
theorem U5 {b:Bool} (h:(!b)=false):b=true:=by grind
theorem U6 {b:Bool} (h:(!b)=true):b=false:=by grind
def BV {b:Prop} [Decidable a] [Decidable b] (h:a):decide a=(decide a||decide b):=by grind
def BW {b:Prop} [Decidable a] [Decidable b] (h:¬a):decide b=(decide a||decide b):=by grind
def Lf {b c:Prop} [Decidable a] [Decidable b] [Decidable c] (h:a):decide a=(decide a||decide b||decide c):=by grind
def Lg {b c:Prop} [Decidable a] [Decidable b] [Decidable c] (h:¬a) (d:b):decide b=(decide a||decide b||decide c):=by grind
def Lh {b c:Prop} [Decidable a] [Decidable b] [Decidable c] (h:¬a) (d:¬b):decide c=(decide a||decide b||decide c):=by grind
def BX {b:Prop} [Decidable a] [Decidable b] (h:(decide a||decide b)=true):a\/b:=by simpa using h
def BY {b:Prop} [Decidable a] [Decidable b] (h:(decide a||decide b)=false):¬(a\/b):=by simpa using h
def Lj {b c:Prop} [Decidable a] [Decidable b] [Decidable c] (h:(decide a||decide b||decide c)=true):a\/b\/c:=by grind
def Lk {b c:Prop} [Decidable a] [Decidable b] [Decidable c] (h:(decide a||decide b||decide c)=false):¬(a\/b\/c):=by grind
def shapeOf (h:aj):aj:=
 if h=[99,111,110,115,116] then[114,110]
 else if h=[109,111,118]\/h=[111,112,101,110] then[114,114]
 else if h=[97,100,100]\/h=[115,117,98]\/h=[109,117,108] then[114,114,114]
 else if h=[110,101,119] then[114,42]
 else if h=[103,101,116] then[114,114,110]
 else if h=[108,97,98]\/h=[122,101,114,111] then[114,108]
 else if h=[112,97,99,107] then[114,114,101,119]
 else if h=[106,117,109,112]\/h=[104,97,108,116] then[114]
 else[]
def O6 (h:aj) (i:Nat):Int:=((h.getD (min i h.length-1) 0).toNat:Int)
def uX (t:au):Bool:=(decide (shapeOf (aT t)≠[114,42])&&decide (t.ag.length≠(shapeOf<|aT t).length+1))||decide (t.ag.length<2)
def wj (t:au) (i:Nat):Bool:=j7 (O6 (shapeOf<|aT t) i)<|nth t.ag i
def nP (t:au):Bool:=if shapeOf (aT t)=[] then false else if uX t then false
 else decide (∀i,i<t.ag.length->1<=i->wj t i=true)&&(decide (aT t≠[103,101,116])||decide (0<=(numeral (nth t.ag 3).aq).getD 0))
theorem ad9 (a:h=[103,101,116]):shapeOf h=[114,114,110]:=by rw[a];decide
def aea (h:uX t=false) (a:aT t=[103,101,116]):t.ag.length=4:=by grind [uX,ad9]
def aeb (h:uX t=false):2<=t.ag.length:=by grind [uX]
theorem O7 (h:shapeOf (aT t)≠[]):t.aq=[]/\0<t.ag.length/\aT t=(nth t.ag 0).aq:=by
 have c:aT t≠[]:=λd=>by rw[d] at h;exact h de
 by_cases b:t.aq=[]
 .rcases Nat.eq_zero_or_pos t.ag.length with a|a
  .exact absurd (BT (.inr<|List.length_eq_zero_iff.1 a)) c
  .exact⟨b,a,Iy b<|dN a⟩
 .exact absurd (BT<|.inl b) c
def aec (h:aj):(shapeOf h).length<=4:=by grind [shapeOf]
def U7 (a:n=t.ag.length):((decide (shapeOf (aT t)≠[114,42])&&decide ((n:Int)≠((shapeOf<|aT t).length:Int)+1))||decide ((n:Int)<2))=uX t:=by grind [uX]
theorem U8 (h:shapeOf (aT t)=[]):nP t=false:=by unfold nP;rw[iP h]
theorem O8 (h:uX t=true):nP t=false:=by grind [nP]
theorem aed (b:i<t.ag.length) (a:1<=i) (h:wj t i=false):nP t=false:=by grind [nP]
def aee (a:shapeOf (aT t)≠[]) (b:uX t=false) (h:∀i,i<t.ag.length->1<=i->wj t i=true):
  nP t=(decide (aT t≠[103,101,116])||decide (0<=(numeral (nth t.ag 3).aq).getD 0)):=by grind [nP]
def aef (h:nP t=true):0<t.ag.length:=by
 unfold nP at h;split at h
 .cases h
 .rename_i a;exact(O7 a).2.1
def seen (f:au->Bool) (s:aj):Bool:=match bU s with
 |some t=>f t
 |none=>false
theorem Ll {f:au->Bool} (h:∀a,bU s=some a->t=a):((bU s).isSome&&f t)=seen f s:=by grind [bU,seen]
def Lm (t:au):Bool:=nP t&&(decide ((nth t.ag 0).aq=[106,117,109,112])||decide ((nth t.ag 0).aq=[104,97,108,116]))
abbrev uY (s:aj):Bool:=seen (gq false) s
abbrev uZ (s:aj):Bool:=seen nP s
abbrev F9 (s:aj):Bool:=seen Lm s
def nob:Bk:=⟨[],[],[]⟩
abbrev bJ (bs:List Bk) (i:Nat):Bk:=bs.getD i nob
theorem pC (h:i<bs.length):bs[i]?=some (bJ bs i):=by grind
def iV (bs:List Bk) (l:aj):Int:=match bs.findIdx? (λb=>decide<|b.aQ=l) with
 |some i=>(i:Int)
 |none=> -1
def U9 (hk:k<bs.length) (h:∀i,i<k->(bJ bs i).aQ≠l) (c:(bJ bs k).aQ=l):iV bs l=(k:Int):=by
 have:bs.findIdx? (λb=>decide<|b.aQ=l)=some k:=by rw[List.findIdx?_eq_some_iff_getElem];refine⟨hk,by simpa[gE hk] using c,λj a=>?_⟩;have:=h j a;simpa[gE (Nat.lt_trans a hk)] using this
 unfold iV;rw[this]
def aeh (h:∀i,i<bs.length->(bJ bs i).aQ≠l):iV bs l= -1:=by
 have:bs.findIdx? (λb=>decide<|b.aQ=l)=none:=by rw[List.findIdx?_eq_none_iff];intro b hb;obtain⟨i,a,rfl⟩:=List.getElem_of_mem hb;have:=h i a;simpa[gE a] using this
 unfold iV;rw[this]
def ub (code:List aj) (i:Nat):Bool:=uZ (cu code i)&&(F9 (cu code i)==decide (i+1=code.length))
def mx (b:Bk):Bool:=pB b.aQ&&decide (b.bS.length<=40)&&(decide (1<=b.code.length)&&decide (b.code.length<=80))&&
 decide (∀i,i<b.bS.length->uY (cu b.bS i)=true)&&decide (∀i,i<b.code.length->ub b.code i=true)
def iW (bs:List Bk):Bool:=decide (∀i,i<bs.length->mx (bJ bs i)=true/\iV bs (bJ bs i).aQ=i)&&
 (decide (1<=bs.length)&&decide (bs.length<=40)&&decide ((bJ bs 0).aQ=[109,97,105,110])&&decide ((bJ bs 0).bS.length=0))
theorem Va (h:(pB b.aQ&&decide (b.bS.length<=40)&&(decide (1<=b.code.length)&&decide (b.code.length<=80)))=false):mx b=false:=by unfold mx;rw[h];rfl
theorem Vb (a:i<b.bS.length) (h:uY (cu b.bS i)=false):mx b=false:=by grind [mx]
theorem Vc (a:i<b.code.length) (h:ub b.code i=false):mx b=false:=by grind [ub,mx]
def Vd (h:(pB b.aQ&&decide (b.bS.length<=40)&&(decide (1<=b.code.length)&&decide (b.code.length<=80)))=true) (a:∀i,i<b.bS.length->uY (cu b.bS i)=true) 
  (c:∀i,i<b.code.length->ub b.code i=true):mx b=true:=by grind [mx]
theorem Ve (b:i<bs.length) (h:¬(mx (bJ bs i)=true/\iV bs (bJ bs i).aQ=i)):iW bs=false:=by unfold iW;rw[dF (p:=∀i:Nat,i<bs.length->mx (bJ bs i)=true/\iV bs (bJ bs i).aQ=i) λa=>h (a i b)];rfl
theorem Vf (h:∀i,i<bs.length->mx (bJ bs i)=true/\iV bs (bJ bs i).aQ=i):
  iW bs=(decide (1<=bs.length)&&decide (bs.length<=40)&&decide ((bJ bs 0).aQ=[109,97,105,110])&&decide ((bJ bs 0).bS.length=0)):=by grind [iW]
theorem Ln (a:n1=b.bS.length) (c:n2=b.code.length):(!pB b.aQ||decide ((40:Int)<n1)||!(decide ((1:Int)<=n2)&&decide ((n2:Int)<=80)))=
  !(pB b.aQ&&decide (b.bS.length<=40)&&(decide (1<=b.code.length)&&decide (b.code.length<=80))):=by grind
theorem O9 {code:List aj} (b:n=code.length) (a:i<n):(!uZ (cu code i)||(F9 (cu code i) !=decide ((i:Int)=(n:Int)-1)))=!ub code i:=by grind [ub]
def Bk.small (b:Bk):Prop:=b.aQ.length<1000000000/\b.bS.length<1000000000/\b.code.length<1000000000
def qE (bs:List Bk):Prop:=bs.length<1000000000/\∀i,i<bs.length->(bJ bs i).small
def aei (b:n=bs.length) (a:0<bs.length->n1=(bJ bs 0).bS.length):
  ((decide ((1:Int)<=n)&&decide ((n:Int)<=40))&&decide ((bJ bs 0).aQ=[109,97,105,110])&&decide ((n1:Int)=0))=(decide (1<=bs.length)&&decide (bs.length<=40)&&decide ((bJ bs 0).aQ=[109,97,105,110])&&decide ((bJ bs 0).bS.length=0)):=by grind
theorem aej (s:aj):Lib.trimPrefix s [45]=fj s:=by
 unfold Lib.trimPrefix Lib.hasPrefix fj;cases s with
 |nil=>simp
 |cons c r=>
  by_cases h:c=45
  .subst h;simp
  .have a:((45:UInt8)==c)=false:=by simpa using λb=>h b.symm
   simp[List.isPrefixOf,a,h]
def Vg:∀(l:aj) (n:Nat),l.all je=true->Lib.decFrom n l=some (l.foldl (λn c=>10*n+(c.toNat-48)) n)
 |[],n,_=>rfl
 |c::r,n,h=>by
  simp only[List.all_cons,aE] at h;have a:=(DG c).1 h.1;have b:Lib.digitVal c=some (c.toNat-48):=by unfold Lib.digitVal;rw[iP a]
  simp only[Lib.decFrom,b,List.foldl_cons];rw[show n*10+(c.toNat-48)=10*n+(c.toNat-48) from by omega];exact Vg r _ h.2
def aek (a:l≠[]) (h:l.all je=true):Lib.decNat l=some (val l):=by unfold Lib.decNat;rw[iN (by simpa using a)];exact Vg l 0 h
def ael {z:Int} (h:numeral s=some z):Lib.atoi s=some z:=by
 unfold numeral at h;by_cases e:s=[48]
 .rw[iP e] at h;subst e;rw[<-h];decide
 .rw[iN e] at h;by_cases f:(fj s).length<1\/3<(fj s).length\/(fj s).getD 0 0=48
  .rw[iP f] at h;cases h
  .rw[iN f] at h;by_cases a:(fj s).all je=true
   .rw[iP a] at h;have m:fj s≠[]:=λi=>f<|.inl (by rw[i];simp);have d:=aek m a;cases s with
    |nil=>exact absurd (by unfold fj;simp) m
    |cons c r=>
     by_cases b:c=45
     .subst b;have g:fj (45::r)=r:=by unfold fj;simp
      have j:qD (45::r)= -1:=by unfold qD;simp
      rw[g] at d h;rw[j] at h;simp only[Lib.atoi,d,beq_self_eq_true,if_true,Option.map_some];rw[<-h];simp
     .have g:fj (c::r)=c::r:=by unfold fj;simp[b]
      have j:qD (c::r)=1:=by unfold qD;simp[b]
      rw[g] at d h a;rw[j] at h;have l:=(DG c).1 (by simp only[List.all_cons,aE] at a;exact a.1);have n:(c==45)=false:=by simpa using b
      have o:(c==43)=false:=by
       have:c≠43:=λi=>by rw[i] at l;exact absurd l.1 de
       simpa using this
      simp only[Lib.atoi,n,o,d,Bool.false_eq_true,if_false,Option.map_some];rw[<-h];simp
   .rw[iN a] at h;cases h
theorem Vi {z:Int} (h:numeral s=some z):s.length<=4:=by grind [numeral,fj]
theorem aem (s:aj):(decide (s=[48])||(decide (1<=(fj s).length)&&decide ((fj s).length<=3)&&(fj s).all je&&decide ((fj s).getD 0 0≠48)))=(numeral s).isSome:=by grind [fj,je,numeral]
def aen (s:aj):((numeral s).isSome&&(decide (0<=(numeral s).getD 0)&&decide ((numeral s).getD 0<=39)))=jr s:=by grind [numeral,jr,lQ]
def aeo (hk:k<s.length) (h:je (s.getD k 0)=false):s.all je=false:=by grind
def aep (s:aj):(decide (s=[48])||(decide ((1:Int)<=((fj s).length:Int))&&decide (((fj s).length:Int)<=3)&&(fj s).all je&&decide ((((fj s).getD 0 0).toNat:Int)≠48)))=(numeral s).isSome:=by
 rw[<-aem,show decide ((1:Int)<=((fj s).length:Int))=decide (1<=(fj s).length) from decide_eq_decide.2 om,show decide (((fj s).length:Int)<=3)=decide ((fj s).length<=3) from decide_eq_decide.2 om,
  show decide ((((fj s).getD 0 0).toNat:Int)≠48)=decide ((fj s).getD 0 0≠48) from decide_eq_decide.2 (by
   have b:(48:UInt8).toNat=48:=rfl;constructor
   .intro h a;exact h (by rw[a];rfl)
   .intro h a;exact h (UInt8.toNat_inj.1 om))]
def DI (a:List au) (g:au->Bool):Int:=match a.findIdx? g with
 |some i=>(i:Int)
 |none=> -1
theorem wk (h:i<ts.length):nth ts i=ts[i]:=by grind [nth]
def aeq {g:au->Bool} (hk:k<ts.length) (h:∀i,i<k->g (nth ts i)=false) (b:g (nth ts k)=true):DI ts g=(k:Int):=by
 have:ts.findIdx? g=some k:=by rw[List.findIdx?_eq_some_iff_getElem];refine⟨hk,by rw[<-wk hk];exact b,λj a=>?_⟩;have:=h j a;rw[wk (Nat.lt_trans a hk)] at this;simpa using this
 unfold DI;rw[this]
def aer {g:au->Bool} (h:∀i,i<ts.length->g (nth ts i)=false):DI ts g= -1:=by grind [wk,DI,List.findIdx?_eq_none_iff,List.getElem_of_mem]
def aes (a:List au) (g:au->Bool):decide (0<=DI a g)=a.any g:=by grind [DI]
def dY (h:aj) (n:Nat):aj:=
 if h=[99,111,110,115,116] then[100,110]
 else if h=[109,111,118]\/h=[111,112,101,110] then[100,115]
 else if h=[97,100,100]\/h=[115,117,98]\/h=[109,117,108] then[100,115,115]
 else if h=[110,101,119] then[100]++List.replicate (n-2) 115
 else if h=[103,101,116] then[100,115,109]
 else if h=[108,97,98] then[100,108]
 else if h=[112,97,99,107] then[100,115,69,87]
 else if h=[122,101,114,111] then[115,108]
 else if h=[106,117,109,112]\/h=[104,97,108,116] then[115]
 else[]
def ig (z:Int) (t:au):Bool:=
 if z=100\/z=115 then jr t.aq else if z=110 then(numeral t.aq).isSome
 else if z=109 then(numeral t.aq).isSome&&decide (0<=(numeral t.aq).getD 0)
 else if z=108 then pB t.aq else if z=69 then(decide (t.ag.length=2)&&decide (aT t=[101]))&&gq false t
 else if z=87 then gq false t else false
def nQ (t:au):Bool:=
 if dY (aT t) t.ag.length=[]\/t.ag.length≠(dY (aT t) t.ag.length).length+1 then false
 else decide (∀i,i<(dY (aT t) t.ag.length).length->ig (((dY (aT t) t.ag.length).getD i 0).toNat:Int) (nth t.ag (i+1))=true)
theorem Lo (h:dY (aT t) t.ag.length=[]\/t.ag.length≠(dY (aT t) t.ag.length).length+1):nQ t=false:=by unfold nQ;rw[iP h]
theorem aet (a:i<(dY (aT t) t.ag.length).length) (h:ig (((dY (aT t) t.ag.length).getD i 0).toNat:Int) (nth t.ag<|i+1)=false):nQ t=false:=by grind [nQ]
def aeu (h:¬(dY (aT t) t.ag.length=[]\/t.ag.length≠(dY (aT t) t.ag.length).length+1)) 
  (a:∀i,i<(dY (aT t) t.ag.length).length->ig (((dY (aT t) t.ag.length).getD i 0).toNat:Int) (nth t.ag (i+1))=true):nQ t=true:=by grind [nQ]
theorem shift {P Q:Nat->Prop} (h:∀i,i<n->(P i↔Q (i+1))):(∀i,i<n->P i)↔(∀i,i<n+1->1<=i->Q i):=by
 constructor
 .intro b i a _;have:=(h (i-1) om).1<|b (i-1) om;rwa [show i-1+1=i from by omega] at this
 .intro c i a;exact(h i a).2 (c (i+1) om om)
def BZ (e a:aj) (ex:Nat->au->Bool) (m:dY (aT t) t.ag.length=e) (g:shapeOf (aT t)=a) (c:e.length=a.length) (l:a≠[]) (f:a≠[114,42]) 
  (n:∀i u,i<a.length->ig ((e.getD i 0).toNat:Int) u=(j7 ((a.getD i 0).toNat:Int) u&&ex i u))
  (q:t.ag.length=a.length+1->(decide (aT t≠[103,101,116])||decide (0<=(numeral (nth t.ag 3).aq).getD 0))=decide (∀i,i<a.length->ex i (nth t.ag (i+1))=true)):nQ t=nP t:=by
 have r:1<=a.length:=List.length_pos_iff.2 l;have j:e≠[]:=λh=>by rw[h] at c;simp at c;omega
 by_cases d:t.ag.length=a.length+1
 .unfold nQ nP uX;rw[m,g,iN (by rw[c];rintro(h|h);exact j h;exact h d),iN l,q d];rw[iN (by rw[dF (p:=t.ag.length≠a.length+1) om,dF (p:=t.ag.length<2) om];simp),<-Bool.decide_and,decide_eq_decide,c,d];rw[<-shift (P:=λi=>j7 ((a.getD i 0).toNat:Int) (nth t.ag<|i+1)=true) λi b=>by
   unfold wj O6;rw[g,show min (i+1) a.length-1=i from by omega]]
  constructor
  .intro h;refine⟨λi b=>?_,λi b=>?_⟩<;>
   .have:=h i b;rw[n i _ b,aE] at this
    first|exact this.1|exact this.2
  .rintro⟨o,hb⟩ i b;rw[n i _ b,o i b,hb i b];rfl
 .rw[Lo<|.inr (by rw[m,c];exact d),O8];unfold uX;rw[g,dT f,dT d];rfl
theorem aew (n:Nat) (u:Nat->au):decide (∀i,i<n->(fun(_:Nat) (_:au)=>true) i (u i)=true)=true:=by grind
theorem aex (u:au):((decide (u.ag.length=2)&&decide (aT u=[101]))&&gq false u)=(decide (aT u=[101])&&gq false u):=by grind [BT,dC.length,Iy,dN,O4]
def aey {P:Nat->Prop} (h:n<=4) (a:P 0) (b:2<=n->P 1) (c:3<=n->P 2) (d:4<=n->P 3):∀i,i<n->P i:=by grind
def B0 {b a:aj} {ex:Nat->au->Bool} (g:a.length<=4) (c:∀u,ig ((b.getD 0 0).toNat:Int) u=(j7 ((a.getD 0 0).toNat:Int) u&&ex 0 u)) (d:∀u,2<=a.length->ig ((b.getD 1 0).toNat:Int) u=(j7 ((a.getD 1 0).toNat:Int) u&&ex 1 u)) 
  (e:∀u,3<=a.length->ig ((b.getD 2 0).toNat:Int) u=(j7 ((a.getD 2 0).toNat:Int) u&&ex 2 u)) (f:∀u,4<=a.length->ig ((b.getD 3 0).toNat:Int) u=(j7 ((a.getD 3 0).toNat:Int) u&&ex 3 u)):
  ∀i u,i<a.length->ig ((b.getD i 0).toNat:Int) u=(j7 ((a.getD i 0).toNat:Int) u&&ex i u):=by grind
theorem Lp (u:au):ig 100 u=jr u.aq:=by simp[ig]
theorem IA (u:au):ig 115 u=jr u.aq:=by simp[ig]
theorem aez (u:au):ig 110 u=(numeral u.aq).isSome:=by simp[ig]
theorem Lq (u:au):ig 109 u=((numeral u.aq).isSome&&decide (0<=(numeral u.aq).getD 0)):=by simp[ig]
theorem aeA (u:au):ig 108 u=pB u.aq:=by simp[ig]
theorem Ls (u:au):ig 69 u=((decide (u.ag.length=2)&&decide (aT u=[101]))&&gq false u):=by simp[ig]
theorem aeB (u:au):ig 87 u=gq false u:=by simp[ig]
theorem Pa (u:au):j7 114 u=jr u.aq:=by simp[j7]
def aeC (u:au):j7 42 u=jr u.aq:=by simp[j7]
theorem Vj (u:au):j7 110 u=(numeral u.aq).isSome:=by simp[j7]
theorem aeD (u:au):j7 108 u=pB u.aq:=by simp[j7]
theorem aeE (u:au):j7 101 u=(decide (aT u=[101])&&gq false u):=by simp[j7]
theorem aeF (u:au):j7 119 u=gq false u:=by simp[j7]
def Ga (u:au):ig 100 u=(j7 114 u&&true):=by rw[Lp,Pa,Bool.and_true]
def DJ (u:au):ig 115 u=(j7 114 u&&true):=by rw[IA,Pa,Bool.and_true]
def aeG (u:au):ig 110 u=(j7 110 u&&true):=by rw[aez,Vj,Bool.and_true]
def aeH (u:au):ig 109 u=(j7 110 u&&decide (0<=(numeral u.aq).getD 0)):=by rw[Lq,Vj]
def Vk (u:au):ig 108 u=(j7 108 u&&true):=by rw[aeA,aeD,Bool.and_true]
def aeI (u:au):ig 69 u=(j7 101 u&&true):=by rw[Ls,aeE,Bool.and_true,aex]
def aeJ (u:au):ig 87 u=(j7 119 u&&true):=by rw[aeB,aeF,Bool.and_true]
def aeK (h:aT t=[110,101,119]):nQ t=nP t:=by
 have a:dY (aT t) t.ag.length=[100]++List.replicate (t.ag.length-2) 115:=by rw[h];rfl
 have d:shapeOf (aT t)=[114,42]:=by rw[h];rfl
 have c:(dY (aT t) t.ag.length).length=t.ag.length-2+1:=by rw[a];simp
 by_cases g:2<=t.ag.length
 .unfold nQ nP uX;rw[iN (by rw[c];rintro(b|b);(·rw[a] at b;simp at b);(·omega)),d,iN de,
   iN (by rw[dF (p:=t.ag.length<2) om];simp),dT (p:=aT t≠[103,101,116]) (by rw[h];decide),Bool.true_or,Bool.and_true,decide_eq_decide,c]
  rw[show(∀i,i<t.ag.length->1<=i->wj t i=true)↔(∀i,i<(t.ag.length-2+1)+1->1<=i->wj t i=true) from by rw[show t.ag.length-2+1+1=t.ag.length from by omega]];refine shift λi _=>?_;have e:ig (((dY (aT t) t.ag.length).getD i 0).toNat:Int) (nth t.ag<|i+1)=jr (nth t.ag<|i+1).aq:=by
   rw[a];cases i with
   |zero=>exact Lp _
   |succ i=>
    have:([100]++List.replicate (t.ag.length-2) (115:UInt8)).getD (i+1) 0=115:=by simp[List.getD,show i<t.ag.length-2 from by omega]
    rw[this];exact IA _
  have f:wj t (i+1)=jr (nth t.ag<|i+1).aq:=by
   unfold wj O6;rw[d];cases i with
   |zero=>exact Pa _
   |succ i=>rw[show min (i+1+1) ([114,42]:aj).length-1=1 from by simp];exact aeC _
  rw[e,f]
 .rw[Lo<|.inr (by rw[c];omega),O8];unfold uX;rw[dT (p:=t.ag.length<2) om,Bool.or_true]
theorem Vl (t:au):nQ t=nP t:=by
 have a:∀{m:aj},aT t≠[103,101,116]->(t.ag.length=m.length+1->(decide (aT t≠[103,101,116])||decide (0<=(numeral (nth t.ag 3).aq).getD 0))=decide (∀i,i<m.length->(fun(_:Nat) (_:au)=>true) i (nth t.ag<|i+1)=true)):=by intro m h _;rw[aew _ λi=>nth t.ag<|i+1,dT h];rfl
 by_cases c1:aT t=[99,111,110,115,116]
 .exact BZ [100,110] [114,110] (λ_ _=>true) (by rw[c1];rfl) (by rw[c1];rfl) rfl de de
   (B0 de (λu=>Ga u) (λu _=>aeG u) (λ_ h=>absurd h de) λ_ h=>absurd h de) (a (by rw[c1];decide))
 by_cases c2:aT t=[109,111,118]\/aT t=[111,112,101,110]
 .exact BZ [100,115] [114,114] (λ_ _=>true) (by rcases c2 with c|c<;>rw[c]<;>rfl) (by rcases c2 with c|c<;>rw[c]<;>rfl) rfl de de
   (B0 de (λu=>Ga u) (λu _=>DJ u) (λ_ h=>absurd h de) λ_ h=>absurd h de) (a (by rcases c2 with c|c<;>rw[c]<;>decide))
 by_cases b:aT t=[97,100,100]\/aT t=[115,117,98]\/aT t=[109,117,108]
 .exact BZ [100,115,115] [114,114,114] (λ_ _=>true) (by rcases b with c|c|c<;>rw[c]<;>rfl) (by rcases b with c|c|c<;>rw[c]<;>rfl) rfl de de
   (B0 de (λu=>Ga u) (λu _=>DJ u) (λu _=>DJ u) λ_ h=>absurd h de) (a (by rcases b with c|c|c<;>rw[c]<;>decide))
 by_cases l:aT t=[110,101,119]
 .exact aeK l
 by_cases d:aT t=[103,101,116]
 .refine BZ [100,115,109] [114,114,110] (λi u=>if i=2 then decide (0<=(numeral u.aq).getD 0) else true) (by rw[d];rfl) (by rw[d];rfl) rfl de de
   (B0 de (λu=>Ga u) (λu _=>DJ u) (λu _=>aeH u) λ_ h=>absurd h de) λ_=>?_
  rw[show decide (aT t≠[103,101,116])=false from dF λh=>h d,Bool.false_or];refine decide_eq_decide.2 ⟨λh=>aey de rfl (λ_=>rfl) (λ_=>by simpa using h) λh=>by simp at h,λh=>by simpa using h 2 de⟩
 by_cases e:aT t=[108,97,98]
 .exact BZ [100,108] [114,108] (λ_ _=>true) (by rw[e];rfl) (by rw[e];rfl) rfl de de
   (B0 de (λu=>Ga u) (λu _=>Vk u) (λ_ h=>absurd h de) λ_ h=>absurd h de) (a (by rw[e];decide))
 by_cases f:aT t=[112,97,99,107]
 .exact BZ [100,115,69,87] [114,114,101,119] (λ_ _=>true) (by rw[f];rfl) (by rw[f];rfl) rfl de de
   (B0 de (λu=>Ga u) (λu _=>DJ u) (λu _=>aeI u) λu _=>aeJ u) (a (by rw[f];decide))
 by_cases g:aT t=[122,101,114,111]
 .exact BZ [115,108] [114,108] (λ_ _=>true) (by rw[g];rfl) (by rw[g];rfl) rfl de de
   (B0 de (λu=>DJ u) (λu _=>Vk u) (λ_ h=>absurd h de) λ_ h=>absurd h de) (a (by rw[g];decide))
 by_cases j:aT t=[106,117,109,112]\/aT t=[104,97,108,116]
 .exact BZ [115] [114] (λ_ _=>true) (by rcases j with c|c<;>rw[c]<;>rfl) (by rcases j with c|c<;>rw[c]<;>rfl) rfl de de
   (B0 de (λu=>DJ u) (λ_ h=>absurd h de) (λ_ h=>absurd h de) λ_ h=>absurd h de) (a (by rcases j with c|c<;>rw[c]<;>decide))
 .have n:dY (aT t) t.ag.length=[]:=by unfold dY;rw[iN c1,iN c2,iN b,iN l,iN d,iN e,iN f,iN g,iN j]
  have o:shapeOf (aT t)=[]:=by unfold shapeOf;rw[iN c1,iN c2,iN b,iN l,iN d,iN (λh=>by rcases h with h|h;exact e h;exact g h),iN f,iN j]
  rw[Lo<|.inl n,U8 o]
def aeL (h:aj) (n:Nat):(dY h n).length<=n+4:=by grind [dY]
def Pb (h:WF t):2<=t.size:=by
 cases h with
 |aq a b=>have:=List.length_pos_iff.2 b;simp only[au.size];omega
 |list ps c _=>
  cases ps with
  |nil=>exact absurd rfl c
  |cons q r=>cases q;simp only[au.size,au.size.sizes];omega
theorem Vm:∀{ps:List au},(∀p∈ps,WF p)->2*ps.length<=au.size.sizes ps
 |[],_=>by simp[au.size.sizes]
 |q::ps,h=>by have b:=Pb<|h q sm;have c:=Vm (ps:=ps) λp a=>h p (by simp[a]);simp only[au.size.sizes,lC];omega
def Vn (h:WF t):2*t.ag.length+1<=t.size:=by cases h<;>grind [au.ag,au.size,Vm]
def IB (t:au):Bool:=decide (aT t=[106,117,109,112])||decide (aT t=[104,97,108,116])
theorem aeM (h:nP t=true):aT t=(nth t.ag 0).aq:=by grind [nP,aT,nth,au.ag,O7]
theorem aeN (h:nP t=true):Lm t=IB t:=by unfold Lm IB;rw[h,aeM h];rfl
inductive Good:au->Prop
 |aq (a:aj) (h:a≠[]) (hb:a.all fy=true):Good (.mk a [])
 |list (ps:List au) (h:ps≠[]) (hp:∀p∈ps,Good p):Good (.mk [] ps)
theorem Good.wf (h:Good t):WF t:=by
 induction h with
 |aq a h _=>exact .aq a h
 |list ps h _ b=>exact .list ps h b
def Good.part (h:Good t) (b:t.ag[i]?=some p):Good p:=by
 cases h with
 |aq a _ _=>simp[au.ag] at b
 |list ps _ c=>exact c p<|List.mem_of_getElem? b
theorem Good.nth (h:Good t) (a:i<t.ag.length):Good (nth t.ag i):=h.part<|dN a
def au.depth:au->Nat
 | .mk _ ps=>deeps ps
 where deeps:List au->Nat
 |[]=>0
 |t::ts=>max (t.depth+1)<|deeps ts
def Vo:∀{p:au},p∈ps->p.depth+1<=au.depth.deeps ps:=by
 induction ps with
 |nil=>intro p h;simp at h
 |cons q ps a=>
  intro p h;rcases mC.1 h with rfl|h
  .simp only[au.depth.deeps];omega
  .have:=a h;simp only[au.depth.deeps];omega
def Lt:∀{ps:List au},(∀p∈ps,p.depth+1<=d)->au.depth.deeps ps<=d
 |[],_=>by simp[au.depth.deeps]
 |q::ps,h=>by have b:=h q sm;have c:=Lt (ps:=ps) λp a=>h p (by simp[a]);simp only[au.depth.deeps];omega
theorem qF {a:aj} (h:a≠[]):(au.mk a ps).text=a:=by simp[au.text,h]
theorem si (a:List au):(au.mk [] a).text=40::(l7 a++[41]):=by simp[au.text]
theorem rC (t:au):l7 [t]=t.text:=by simp[l7]
theorem qG (t u:au) (r:List au):l7 (t::u::r)=t.text++32::l7 (u::r):=by simp[l7]
def Vp {rd:aj->Option (au×aj)} (i:∀s t r,rd s=some (t,r)->s=t.text++r):∀n s ts r,jA rd n s=some (ts,r)->ts≠[]/\s=l7 ts++41::r
 |0,_,_,_,h=>by simp[jA] at h
 |n+1,s,ts,r,h=>by
  unfold jA at h;cases f:rd s with
  |none=>simp[f] at h
  |some q=>
   obtain⟨t,m⟩:=q;have j:=i s t m f;simp only[f] at h;cases m with
   |nil=>simp at h
   |cons c l=>
    simp only at h;by_cases b:c=41
    .rw[iP b] at h;simp at h;obtain⟨rfl,rfl⟩:=h;exact⟨by simp,by rw[j,b,rC]⟩
    .rw[iN b] at h;by_cases d:c=32
     .rw[iP d] at h;cases e:jA rd n l with
      |none=>simp[e] at h
      |some q=>
       obtain⟨a,g⟩:=q;simp[e] at h;obtain⟨rfl,rfl⟩:=h;obtain⟨o,p⟩:=Vp i n l a g e;cases a with
       |nil=>exact absurd rfl o
       |cons u _=>exact⟨by simp,by rw[j,d,qG,p];simp⟩
     .rw[iN d] at h;cases h
def aeO:∀d s t r,fl d s=some (t,r)->s=t.text++r:=by
 have leaf:∀(s:aj) (t:au) (r:aj),(if s.takeWhile fy=[] then none else some (au.mk (s.takeWhile fy) [],s.dropWhile fy))=some (t,r)->s=t.text++r:=by
  intro s t r h;split at h
  .cases h
  .rename_i f;simp only[Option.some.injEq,Prod.mk.injEq] at h;rw[<-h.1,<-h.2,qF f,List.takeWhile_append_dropWhile]
 intro d;induction d with
 |zero=>
  intro s t r h;cases s with
  |nil=>simp[fl] at h
  |cons c s=>
   simp only[fl] at h;by_cases a:c=40
   .rw[iP a] at h;cases h
   .rw[iN a] at h;exact leaf _ _ _ h
 |succ d g=>
  intro s t r h;cases s with
  |nil=>simp[fl] at h
  |cons c s=>
   simp only[fl] at h;by_cases a:c=40
   .rw[iP a] at h;cases b:jA (fl d) (s.length+1) s with
    |none=>simp[b] at h
    |some q=>obtain⟨_,_⟩:=q;simp[b] at h;obtain⟨_,e⟩:=Vp g _ _ _ _ b;rw[<-h.1,<-h.2,si,a,e];simp
   .rw[iN a] at h;exact leaf _ _ _ h
def Vq {rd:aj->Option (au×aj)} (d:Nat) (g:∀s t r,rd s=some (t,r)->Good t/\t.depth<=d):∀n s ts r,jA rd n s=some (ts,r)->ts≠[]/\∀p∈ts,Good p/\p.depth<=d
 |0,_,_,_,h=>by simp[jA] at h
 |n+1,s,ts,r,h=>by
  unfold jA at h;cases b:rd s with
  |none=>simp[b] at h
  |some q=>
   obtain⟨t,o⟩:=q;have l:=g s t o b;simp only[b] at h;cases o with
   |nil=>simp at h
   |cons c m=>
    simp only at h;by_cases i:c=41
    .rw[iP i] at h;simp at h;obtain⟨rfl,_⟩:=h;exact⟨by simp,by intro p a;simp at a;subst a;exact l⟩
    .rw[iN i] at h;by_cases j:c=32
     .rw[iP j] at h;cases a:jA rd n m with
      |none=>simp[a] at h
      |some q=>obtain⟨f,e⟩:=q;simp[a] at h;obtain⟨rfl,_⟩:=h;obtain⟨_,u⟩:=Vq d g n m f e a;exact⟨by simp,by intro p a;rcases mC.1 a with rfl|a;exact l;exact u p a⟩
     .rw[iN j] at h;cases h
def all_takeWhile (p:UInt8->Bool):∀s:aj,(s.takeWhile p).all p=true:=by simp_all
def aeP:∀d s t r,fl d s=some (t,r)->Good t/\t.depth<=d:=by
 have leaf:∀(d:Nat) (s:aj) (t:au) (r:aj),(if s.takeWhile fy=[] then none else some (au.mk (s.takeWhile fy) [],s.dropWhile fy))=some (t,r)->Good t/\t.depth<=d:=by
  intro d s t r h;split at h
  .cases h
  .rename_i g;simp only[Option.some.injEq,Prod.mk.injEq] at h;rw[<-h.1];exact⟨.aq _ g<|all_takeWhile _ _,by simp[au.depth,au.depth.deeps]⟩
 intro d;induction d with
 |zero=>
  intro s t r h;cases s with
  |nil=>simp[fl] at h
  |cons c s=>
   simp only[fl] at h;by_cases b:c=40
   .rw[iP b] at h;cases h
   .rw[iN b] at h;exact leaf _ _ _ _ h
 |succ d i=>
  intro s t r h;cases s with
  |nil=>simp[fl] at h
  |cons c s=>
   simp only[fl] at h;by_cases b:c=40
   .rw[iP b] at h;cases a:jA (fl d) (s.length+1) s with
    |none=>simp[a] at h
    |some q=>obtain⟨_,_⟩:=q;simp[a] at h;obtain⟨f,e⟩:=Vq d i _ _ _ _ a;rw[<-h.1];exact⟨.list _ f λp a=>(e p a).1,Lt λp a=>by have:=(e p a).2;omega⟩
   .rw[iN b] at h;exact leaf _ _ _ _ h
def Stop (r:aj):Prop:=∀c,r[0]?=some c->fy c=false
def Pc {p:UInt8->Bool}:∀{a r:aj},a.all p=true->(∀c,r[0]?=some c->p c=false)->(a++r).takeWhile p=a/\(a++r).dropWhile p=r
 |[],[],_,_=>⟨rfl,rfl⟩
 |[],c::r,_,h=>by have:=h c rfl;simp[this]
 |c::a,r,ha,h=>by simp only[List.all_cons,aE] at ha;obtain⟨b,d⟩:=Pc (a:=a) ha.2 h;simp[ha.1,b,d]
theorem Pd (h:Good t):∃c r,t.text=c::r:=by
 cases h with
 |aq a b _=>
  rw[qF b];cases a with
  |nil=>exact absurd rfl b
  |cons c r=>exact⟨c,r,rfl⟩
 |list ps _ _=>exact⟨_,_,si ps⟩
def Vr {rd:aj->Option (au×aj)}:∀(ts:List au) (n:Nat) (r:aj),ts≠[]->ts.length<=n->(∀t∈ts,∀r,Stop r->rd (t.text++r)=some (t,r))->jA rd n (l7 ts++41::r)=some (ts,r)
 |[],_,_,h,_,_=>absurd rfl h
 |[t],n,r,_,b,h=>by
  cases n with
  |zero=>simp at b
  |succ n=>unfold jA;rw[rC,h t sm (41::r) (by intro c a;simp at a;subst a;decide)];simp
 |t::u::us,n,r,_,b,h=>by
  cases n with
  |zero=>simp at b
  |succ n=>unfold jA;rw[qG,List.append_assoc,List.cons_append,h t sm (32::(l7 (u::us)++41::r)) (by intro c a;simp at a;subst a;decide)];have:=Vr (rd:=rd) (u::us) n r sm (by simp at b⊢;omega) λt d=>h t (by simp at d⊢;exact .inr d);simp[this]
def Vs:∀ts:List au,(∀t∈ts,Good t)->ts.length<=(l7 ts).length
 |[],_=>by simp
 |[t],h=>by obtain⟨c,r,e⟩:=Pd<|h t sm;rw[rC,e];simp
 |t::u::us,h=>by have:=Vs (u::us) λt a=>h t (by simp at a⊢;exact .inr a);rw[qG];simp at this⊢;omega
def Pe:∀(d:Nat) (t:au) (r:aj),Good t->t.depth<=d->Stop r->fl d (t.text++r)=some (t,r):=by
 intro d;induction d with
 |zero=>
  intro t r l j i;cases l with
  |aq a g hb=>
   obtain⟨c,b,rfl⟩:∃c b,a=c::b:=by cases a with|nil=>exact absurd rfl g|cons c r=>exact⟨c,r,rfl⟩
   rw[qF g,List.cons_append,Iq 0 c _ (by rintro rfl;simp at hb;exact absurd hb.1 de)];obtain⟨e,f⟩:=Pc hb i;rw[List.cons_append] at e f;rw[e,f,iN sm]
  |list ps m n=>
   cases ps with
   |nil=>exact absurd rfl m
   |cons q ps=>simp[au.depth,au.depth.deeps] at j
 |succ d p=>
  intro t r l j i;cases l with
  |aq a g hb=>
   obtain⟨c,b,rfl⟩:∃c b,a=c::b:=by cases a with|nil=>exact absurd rfl g|cons c r=>exact⟨c,r,rfl⟩
   rw[qF g,List.cons_append,Iq (d+1) c _ (by rintro rfl;simp at hb;exact absurd hb.1 de)];obtain⟨e,f⟩:=Pc hb i;rw[List.cons_append] at e f;rw[e,f,iN sm]
  |list ps m n=>
   rw[si,List.cons_append,F6];have:=Vr (rd:=fl d) ps ((l7 ps++[41]++r).length+1) r m (by have:=Vs ps n;simp at this⊢;omega)
    λt o r i=>p t r (n t o) (by have:=Vo o;simp only[au.depth] at j;omega) i
   unfold oV;rw[show rT (d+1)=fl d from funext λ_=>rfl];rw[show l7 ps++[41]++r=l7 ps++41::r from by simp] at this⊢;rw[this];rfl
theorem Lu {u:au} (h:Good t) (k:Good u) (e:t.text=u.text):t=u:=by have a:=Pe (max t.depth u.depth) t [] h om (by intro c b;simp at b);have d:=Pe (max t.depth u.depth) u [] k om (by intro c b;simp at b);rw[e,d] at a;simp at a;exact a.symm
theorem ue (h:bU s=some t):Good t/\t.depth<=60/\t.text=s/\s.length<=12000:=by
 have e:=O2 h;unfold bU at h;split at h
 .cases h
 .cases a:fl 60 s with
  |none=>rw[a] at h;cases h
  |some q=>
   obtain⟨_,r⟩:=q;rw[a] at h;cases r with
   |nil=>simp at h;subst h;have b:=aeP _ _ _ _ a;have d:=aeO _ _ _ _ a;exact⟨b.1,b.2,by rw[d];simp,e⟩
   |cons c r=>cases h
theorem Vt (h:Good t):bU t.text=if t.depth<=60/\t.text.length<=12000 then some t else none:=by
 split
 .rename_i a;unfold bU;have:=Pe 60 t [] h a.1 (by intro c a;simp at a);rw[List.append_nil] at this;rw[iN om,this]
 .rename_i a;cases g:bU t.text with
  |none=>rfl
  |some u=>obtain⟨b,d,e,f⟩:=ue g;have:=Lu b h e;subst this;exact absurd ⟨d,f⟩ a
def Lv (h:Good t) (a:t.depth<=60) (b:t.text.length<=12000):bU t.text=some t:=by grind [Vt]
def aeQ:∀{p:au},p∈ps->p.text.length<=(l7 ps).length:=by
 induction ps with
 |nil=>intro p h;simp at h
 |cons q ps a=>
  intro p h;cases ps with
  |nil=>simp at h;subst h;rw[rC];exact lR _
  |cons u _=>
   rw[qG];rcases mC.1 h with rfl|h
   .simp
   .have:=a h;simp at this⊢;omega
def Good.sub (h:Good t) (b:t.ag[i]?=some p):Good p/\p.depth+1<=t.depth/\p.text.length+2<=t.text.length:=by
 refine⟨h.part b,?_,?_⟩
 .cases t with
  |mk a ps=>exact Vo<|List.mem_of_getElem? b
 .cases h with
  |aq a _ _=>simp[au.ag] at b
  |list ps _ _=>have:=aeQ<|List.mem_of_getElem? b;rw[si];simp;exact this
def au.len:au->Nat
 | .mk a ps=>if ps=[] then a.length else 1+lens ps
 where lens:List au->Nat
 |[]=>0
 |t::ts=>t.len+1+lens ts
theorem Vu:∀ps:List au,ps≠[]->(∀p∈ps,p.len=p.text.length)->au.len.lens ps=(l7 ps).length+1
 |[],h,_=>absurd rfl h
 |[t],_,h=>by rw[rC];simp only[au.len.lens,h t sm]
 |t::u::us,_,h=>by have:=Vu (u::us) sm λp a=>h p (by simp at a⊢;exact .inr a);rw[qG];simp only[au.len.lens,h t sm,lA,lC] at this⊢;omega
theorem wm (h:WF t):t.len=t.text.length:=by
 induction h with
 |aq a c=>rw[qF c];simp[au.len]
 |list ps b _ d=>rw[si];simp only[au.len,b,if_false,Vu ps b d,lC,lA,List.length_nil];omega
structure dv where
 aQ:aj
 regs:List au
 code:List au
def tr (s:aj):au:=(bU s).getD<|.mk [] []
theorem Gb (h:bU s=some t):tr s=t:=by unfold tr;rw[h];rfl
def bN (b:Bk):dv:=⟨b.aQ,b.bS.map tr,b.code.map tr⟩
def DK (b:Bk):Bool:=decide<|b.aQ.length<=12000
def p4 (b:Bk):Bool:=mx b&&DK b
def oY (bs:List Bk):Bool:=iW bs&&bs.all DK
def bL (a:aj):au:=.mk a []
def ky (h:aj) (a:List au):au:=.mk [] (bL h::a)
def sj (a:List aj):aj:=a.flatMap λp=>32::p
def eC (h:aj) (a:List aj):aj:=40::(h++sj a++[41])
theorem Vv (t:au):∀ts:List au,l7 (t::ts)=t.text++sj (ts.map au.text)
 |[]=>by rw[rC];simp[sj]
 |u::us=>by rw[qG,Vv u us];simp[sj]
theorem Gc (b:h≠[]) (a:List au):(ky h a).text=eC h (a.map au.text):=by unfold ky eC;rw[si,Vv];simp[bL,qF b]
def DL (b:h≠[]) (c:h.all fy=true) (d:∀t∈ts,Good t):Good (ky h ts):=by
 refine .list _ sm λp a=>?_;rcases mC.1 a with rfl|a
 .exact .aq _ b c
 .exact d p a
def DM (h:mx b=true):pB b.aQ=true/\(∀s∈b.bS,∃t,bU s=some t/\gq false t=true)/\∀s∈b.code,∃t,bU s=some t/\nP t=true:=by
 unfold mx at h;simp only[aE,dE] at h;obtain⟨⟨⟨⟨e,_⟩,_⟩,f⟩,g⟩:=h;refine⟨e,λs d=>?_,λs d=>?_⟩
 .obtain⟨i,a,rfl⟩:=List.getElem_of_mem d;have:=f i a;rw[cu,gG,gE a] at this;simp only[Option.getD_some] at this;unfold uY seen at this;cases c:bU b.bS[i] with
  |none=>rw[c] at this;cases this
  |some t=>rw[c] at this;exact⟨t,rfl,this⟩
 .obtain⟨i,a,rfl⟩:=List.getElem_of_mem d;have:=g i a;unfold ub at this;rw[aE] at this;have:=this.1;rw[cu,gG,gE a] at this;simp only[Option.getD_some] at this;unfold uZ seen at this;cases c:bU b.code[i] with
  |none=>rw[c] at this;cases this
  |some t=>rw[c] at this;exact⟨t,rfl,this⟩
theorem yJ (h:iW bs=true):∀b∈bs,mx b=true:=by grind [iW,List.getElem_of_mem,gE]
def ot (t:au):Bool:=decide (t.depth<=60)&&decide (t.len<=12000)
def sS:List au->aj
 |[]=>[]
 |h::_=>h.aq
mutual
def cR (y:au):au->au
 | .mk a ps=>if a=[118] then y else if a≠[]\/sS ps=[101] then .mk a ps else .mk [] (rD y ps)
def rD (y:au):List au->List au
 |[]=>[]
 |t::ts=>cR y t::rD y ts
end
theorem IC (y:au):∀ps,rD y ps=ps.map (cR y)
 |[]=>by simp[rD]
 |t::ts=>by simp[rD,IC y ts]
mutual
def p5:au->Nat
 | .mk a ps=>if a=[118] then 1 else if a≠[]\/sS ps=[101] then 0 else mZ ps
def mZ:List au->Nat
 |[]=>0
 |t::ts=>p5 t+mZ ts
end
theorem Lw (a:List au):aT (.mk [] a)=sS a:=by cases a<;>simp[aT,sS,au.aq,au.ag]
theorem ID (f:Good y) (h:Good t):Good (cR y t):=by
 induction h with
 |aq a b hb=>
  unfold cR;split
  .exact f
  .rw[iP (.inl b)];exact .aq a b hb
 |list ps c e g=>
  unfold cR;rw[iN de];split
  .exact .list ps c e
  .rw[IC];refine .list _ (by simpa using c) λp i=>?_;obtain⟨q,d,rfl⟩:=List.mem_map.1 i;exact g q d
def Vw:∀{ps:List au},(∀p∈ps,((cR y p).text.length:Int)=p.text.length+p5 p*((y.text.length:Int)-1))->ps≠[]->((l7<|rD y ps).length:Int)=(l7 ps).length+mZ ps*((y.text.length:Int)-1)
 |[],_,h=>absurd rfl h
 |[t],h,_=>by have:=h t sm;simp only[rD,rC,mZ,Nat.add_zero,this]
 |t::u::us,h,_=>by
  have d:=h t sm;have f:=Vw (ps:=u::us) (λp a=>h p (by simp at a⊢;exact .inr a)) sm;have e:rD y (t::u::us)=cR y t::cR y u::rD y us:=by simp[rD]
  have b:rD y (u::us)=cR y u::rD y us:=by simp[rD]
  rw[e,qG,qG,<-b];have c:mZ (t::u::us)=p5 t+mZ (u::us):=by simp[mZ]
  rw[c];simp only[lA,lC]
  push_cast
  rw[d,f,Int.add_mul];omega
def aeR (h:Good t):((cR y t).text.length:Int)=t.text.length+p5 t*((y.text.length:Int)-1):=by
 induction h with
 |aq a c hb=>
  unfold cR p5;by_cases b:a=[118]
  .rw[iP b,iP b,b,qF de];simp;omega
  .rw[iN b,iN b,iP<|.inl c,iP (.inl c)];simp
 |list ps e _ f=>
  have b:¬([]:aj)=[118]:=by decide
  unfold cR p5;by_cases d:([]:aj)≠[]\/sS ps=[101]
  .simp only[b,if_false,iP d];simp
  .simp only[b,if_false,iN d];rw[si,si];have:=Vw f e;simp only[lC,lA,List.length_nil]
   push_cast
   omega
/-! ### States -/
abbrev TS:=List<|Option au
def iT:au:=bL [105]
def fO (a:aj):Nat:=(lQ a).toNat
def df (b:TS) (a:aj):Option au:=b.getD (fO a) none
def uf (x y:au):Bool:=decide<|x.text=y.text
def qH (o:Option au) (y:au):Bool:=match o with
 |some x=>uf x y
 |none=>false
def meets (b:TS) (a:List au):Bool:=decide (∀i,i<a.length->qH (b.getD i none) (nth a i)=true)
def bZ (p:List dv) (l:aj):Option (List au):=(p.find? λb=>decide<|b.aQ=l).map dv.regs
def qI (a:aj):Int:=(numeral a).getD 0
def aS (n:Nat):aj:=if n<10 then[UInt8.ofNat (48+n)] else aS (n/10)++[UInt8.ofNat (48+n%10)]
 termination_by n
def fF (p:List dv) (b:TS) (opens:Nat) (t:au):Option au:=
 let h:=aT t;let a (i:Nat):=(nth t.ag i).aq
 if h=[99,111,110,115,116] then some iT
 else if h=[109,111,118] then df b (a 2)
 else if h=[97,100,100]\/h=[115,117,98]\/h=[109,117,108] then(if qH (df b<|a 2) iT&&qH (df b<|a 3) iT then some iT else none)
 else if h=[103,101,116] then(df b<|a 2).bind λk=>if aT k=[116]/\qI (a 3)+1<k.ag.length then some (nth k.ag (qI (a 3)+1).toNat) else none
 else if h=[108,97,98] then(bZ p<|a 2).map (ky [99])
 else if h=[112,97,99,107] then(df b<|a 2).bind λx=>if uf x (cR (nth t.ag 4)<|nth (nth t.ag 3).ag 1) then some (nth t.ag 3) else none
 else if h=[111,112,101,110] then(df b<|a 2).bind λk=>if aT k=[101] then some (cR (bL (97::aS opens))<|nth k.ag 1) else none
 else none
def eO (a:TS) (d:Nat) (o:Option au):Option TS:=o.bind λt=>if ot t then some (a.set d<|some t) else none
def lP (a:TS):List au->Option (List au)
 |[]=>some []
 |u::us=>(df a u.aq).bind λx=>(lP a us).map λxs=>x::xs
def stepT (p:List dv) (a:TS) (opens:Nat) (t:au):Option TS:=
 let h:=aT t;let b:=(nth t.ag 1).aq
 if h=[104,97,108,116] then(df a b).map λ_=>a
 else if h=[106,117,109,112] then(df a b).bind λk=>if aT k=[99]/\meets a (k.ag.drop 1)=true then some a else none
 else if h=[122,101,114,111] then(bZ p (nth t.ag 2).aq).bind λc=>if qH (df a b) iT&&meets a c then some a else none
 else if h=[110,101,119] then eO a (fO b) ((lP a<|t.ag.drop 2).map<|ky [116])
 else eO a (fO b) (fF p a opens t)
def nh (opens:Nat) (t:au):Nat:=if aT t=[111,112,101,110] then opens+1 else opens
def jB (p:List dv) (b:TS) (opens:Nat):List au->TS×Nat
 |[]=>(b,0)
 |t::ts=>match stepT p b opens t with
  |none=>(b,0)
  |some a=>((jB p a (nh opens t) ts).1,(jB p a (nh opens t) ts).2+1)
def ni (b:dv):TS:=(List.range 40).map λi=>if i<b.regs.length then some (nth b.regs i) else none
def j8 (p:List dv) (b:dv):Nat:=(jB p (ni b) 0 b.code).2
def yK (p:List dv) (b:dv):Bool:=decide<|j8 p b=b.code.length
def aeS (h:Lib.hasPrefix s [40]=true):∃r,s=40::r:=by
 cases s with
 |nil=>simp[Lib.hasPrefix,List.isPrefixOf] at h
 |cons c r=>simp[Lib.hasPrefix,List.isPrefixOf] at h;exact⟨r,by rw[h]⟩
theorem aeT (h:Lib.hasPrefix s [40]=false):∀c r,s=c::r->c≠40:=by rintro c r rfl rfl;simp[Lib.hasPrefix,List.isPrefixOf] at h
theorem aeU (h:Lib.hasPrefix s [40]=false) (d:Nat):fl d s=if s.takeWhile fy=[] then none else some (.mk (s.takeWhile fy) [],s.dropWhile fy):=by
 cases s with
 |nil=>rw[Uy];simp
 |cons c r=>rw[Iq d c r (aeT h c r rfl)]
def aeV (h:fl d s=none):oV (d+1) s=none:=by rw[Ip];show(match fl d s with|none=>none|some (t,r)=>_)=none;rw[h]
def aeW (h:fl d s=some (t,[])):oV (d+1) s=none:=by rw[Ip];show(match fl d s with|none=>none|some (t,r)=>_)=none;rw[h]
theorem Vx (h:fl d s=some (t,c::r)):oV (d+1) s=if c=41 then some ([t],r) else if c=32 then(oV (d+1) r).map λp=>(t::p.1,p.2) else none:=by rw[Ip];show(match fl d s with|none=>none|some (t,r)=>_)=_;rw[h]
theorem Pf:(s.drop k).take (s.length-k)=s.drop k:=List.take_of_length_le sm
theorem Ly (hk:k<256):decide ((c.toNat:Int)≠(k:Int))=decide (c≠UInt8.ofNat k):=decide_eq_decide.2 (by
 have e:(UInt8.ofNat k).toNat=k:=by simp;omega
 constructor
 .intro h a;rw[a,e] at h;exact h rfl
 .intro h a;exact h (UInt8.toNat_inj.1 (by rw[e];omega)))
def B1 (d:Nat) (s:aj) (t:au) (r:aj) (ok:Bool):Prop:=(fl d s=some (t,r)/\ok=true)\/(fl d s=none/\ok=false)
def B1.le {ok:Bool} (h:B1 d s t r ok) (a:ok=true):fl d s=some (t,r)/\r.length<s.length:=by
 rcases h with⟨h,_⟩|⟨_,h⟩
 .obtain⟨k,_,_,rfl⟩:=K6 d s t r h;exact⟨h,by simp;omega⟩
 .rw[a] at h;cases h
theorem aeX {ok:Bool} (e:B1 d s t r ok) (h:((!ok||decide (r=[]))||(decide (((r.getD 0 0).toNat:Int)≠32)&&decide (((r.getD 0 0).toNat:Int)≠41)))=true):oV (d+1) s=none:=by
 rcases e with⟨hr,rfl⟩|⟨hr,rfl⟩
 .cases r with
  |nil=>exact aeW hr
  |cons c r=>rw[Vx hr];simp only[Bool.not_true,Bool.false_or,List.getD_cons_zero,show decide (c::r=[])=false from by simp] at h;rw[show(32:Int)=((32:Nat):Int) from rfl,show(41:Int)=((41:Nat):Int) from rfl,Ly de,Ly de,aE] at h;have a:¬c=32:=of_decide_eq_true h.1;have b:¬c=41:=of_decide_eq_true h.2;rw[iN b,iN a]
 .exact aeV hr
def aeY {ok:Bool} (i:B1 d s t r ok) (h:((!ok||decide (r=[]))||(decide (((r.getD 0 0).toNat:Int)≠32)&&decide (((r.getD 0 0).toNat:Int)≠41)))=false):
  0<r.length/\r.length<s.length/\oV (d+1) s=if r.getD 0 0=41 then some ([t],r.drop 1) else(oV (d+1)<|r.drop 1).map λp=>(t::p.1,p.2):=by
 simp only[Bool.or_eq_false_iff,Bool.not_eq_false',decide_eq_false_iff_not] at h;obtain⟨⟨e,f⟩,a⟩:=h;obtain⟨j,g⟩:=i.le e;cases r with
 |nil=>exact absurd rfl f
 |cons c r=>
  refine⟨by simp,g,?_⟩;rw[Vx j];simp only[List.getD_cons_zero,List.drop_one,List.tail_cons] at a⊢;by_cases b:c=41
  .rw[iP b,iP b]
  .rw[iN b,iN b];rw[show(32:Int)=((32:Nat):Int) from rfl,show(41:Int)=((41:Nat):Int) from rfl,Ly de,Ly de,Bool.and_eq_false_iff] at a;rcases a with a|a
   .rw[iP (by simpa using a)]
   .exact absurd (by simpa using a) b
def aeZ {ok:Bool} (b:s.length<=12000) (c:B1 60 s t r ok):(ok&&decide (r=[]))=(bU s).isSome/\∀a,bU s=some a->t=a:=by grind [B1,bU]
def ae0 (a:n1=b.bS.length) (c:n2=b.code.length) 
  (h:(((!pB b.aQ||decide ((12000:Int)<(b.aQ.length:Int)))||decide ((40:Int)<(n1:Int)))||!(decide ((1:Int)<=(n2:Int))&&decide ((n2:Int)<=80)))=true):p4 b=false:=by grind [p4,DK,dC.length,Va,Ln,U6]
def ae1 (a:n1=b.bS.length) (c:n2=b.code.length) 
  (h:(((!pB b.aQ||decide ((12000:Int)<(b.aQ.length:Int)))||decide ((40:Int)<(n1:Int)))||!(decide ((1:Int)<=(n2:Int))&&decide ((n2:Int)<=80)))=false):
  (pB b.aQ&&decide (b.bS.length<=40)&&(decide (1<=b.code.length)&&decide (b.code.length<=80)))=true/\DK b=true:=by grind [DK,dC.length,Ln,U5]
def ae2 (a:i<b.bS.length) (h:uY (cu b.bS i)=false):p4 b=false:=by unfold p4;rw[Vb a h];rfl
def ae3 (a:i<b.code.length) (h:ub b.code i=false):p4 b=false:=by unfold p4;rw[Vc a h];rfl
theorem ae4 (h:uY s=true) (b:∀a,bU s=some a->t=a):t=tr s:=by grind [bU,tr,seen]
theorem Vy {code:List aj} (c:n=code.length) (b:i<n) (d:∀a,bU (cu code i)=some a->t=a):
  ((!(bU<|cu code i).isSome||!nQ t)||(IB t !=decide ((i:Int)=(n:Int)-1)))=!ub code i:=by grind [O9,Vl,seen,bU,nP,aeN]
theorem ae5 {code:List aj} (h:ub code i=true) (b:∀a,bU (cu code i)=some a->t=a):t=tr (cu code i):=by grind [ub,bU,tr,seen]
theorem DN {b c:Type} (f:b->c) {a:List b} {x:b} (h:a[i]?=some x):(a.take i).map f++[f x]=(a.take<|i+1).map f:=by grind [List.getElem?_eq_some_iff,List.take_succ_eq_append_getElem]
theorem Gd {b c:Type} (f:b->c) {a:List b} (h:a.length<=i):(a.take i).map f=a.map f:=by rw[List.take_of_length_le h]
theorem DO {b c:Type} (f:b->c) {a:List b} (h:i<=a.length):((a.take i).map f).length=i:=by simp;omega
def Ge (b:∀a,bU s=some a->t=a) (h:(bU s).isSome=true):WF t/\t.size<=12001:=by grind [bU,au.size,wh,BU]
def yL (a:List dv) (l:aj):Int:=match a.findIdx? (λb=>decide<|b.aQ=l) with
 |some i=>(i:Int)
 |none=> -1
abbrev fW (a:List dv) (i:Nat):dv:=a.getD i ⟨[],[],[]⟩
def Ah {ps:List dv} (h:i<ps.length):ps[i]?=some (fW ps i):=by grind
def IF (a:List dv) (g:dv->Bool):Int:=match a.findIdx? g with
 |some i=>(i:Int)
 |none=> -1
theorem Pg {a:List dv} (h:i<a.length):fW a i=a[i]:=by grind
def ae6 {a:List dv} {g:dv->Bool} (hk:k<a.length) (h:∀i,i<k->g (fW a i)=false) (c:g (fW a k)=true):IF a g=(k:Int):=by
 have:a.findIdx? g=some k:=by rw[List.findIdx?_eq_some_iff_getElem];refine⟨hk,by rw[<-Pg hk];exact c,λj b=>?_⟩;have:=h j b;rw[Pg (Nat.lt_trans b hk)] at this;simpa using this
 unfold IF;rw[this]
def ae7 {a:List dv} {g:dv->Bool} (h:∀i,i<a.length->g (fW a i)=false):IF a g= -1:=by grind [Pg,IF,List.findIdx?_eq_none_iff,List.getElem_of_mem]
theorem ae8 (h:i<bs.length):bJ bs i=bs[i]:=by grind
theorem Vz (hk:k<bs.length):decide ((0:Int)<=yL ((bs.take k).map bN) (bJ bs k).aQ)=decide (iV bs (bJ bs k).aQ≠(k:Int)):=by
 refine decide_eq_decide.2 ?_;by_cases a:∃j,j<k/\(bJ bs j).aQ=(bJ bs k).aQ
 .obtain⟨j,e,d⟩:=a;have f:iV bs (bJ bs k).aQ≠k:=by
   intro h;unfold iV at h;cases c:bs.findIdx? (λb=>decide<|b.aQ=(bJ bs k).aQ) with
   |none=>rw[c] at h;simp at h
   |some i=>rw[c] at h;have n:i=k:=Int.ofNat.inj h;subst n;rw[List.findIdx?_eq_some_iff_getElem] at c;obtain⟨_,_,l⟩:=c;have:=l j e;rw[<-ae8] at this;simp only[dE] at this;exact this d
  have g:0<=yL ((bs.take k).map bN) (bJ bs k).aQ:=by
   unfold yL;cases c:((bs.take k).map bN).findIdx? (λb=>decide<|b.aQ=(bJ bs k).aQ) with
   |some i=>simp
   |none=>rw[List.findIdx?_eq_none_iff] at c;have:=c (bN<|bJ bs j)<|List.mem_map.2 ⟨bJ bs j,by rw[List.mem_take_iff_getElem];exact⟨j,om,by simp[gE (show j<bs.length by omega)]⟩,rfl⟩;exact absurd d<|of_decide_eq_false this
  exact⟨λ_=>f,λ_=>g⟩
 .have f:iV bs (bJ bs k).aQ=k:=U9 hk (λj e d=>a ⟨j,e,d⟩) rfl;have g:yL ((bs.take k).map bN) (bJ bs k).aQ= -1:=by
   unfold yL;have:((bs.take k).map bN).findIdx? (λb=>decide<|b.aQ=(bJ bs k).aQ)=none:=by rw[List.findIdx?_eq_none_iff];intro x m;obtain⟨b,hb,rfl⟩:=List.mem_map.1 m;obtain⟨j,e,rfl⟩:=List.mem_take_iff_getElem.1 hb;refine dF λd=>a ⟨j,om,?_⟩;rw[bJ,gG,gE om];exact d
   rw[this]
  rw[f,g];constructor
  .intro h;omega
  .intro h;exact absurd rfl h
def ae9 (a:i<bs.length) (h:p4 (bJ bs i)=false\/iV bs (bJ bs i).aQ≠i):oY bs=false:=by grind [oY,iW,pC,yJ,p4,Ve]
def afa (h:∀i,i<bs.length->p4 (bJ bs i)=true/\iV bs (bJ bs i).aQ=i):
  oY bs=(decide (1<=bs.length)&&decide (bs.length<=40)&&decide ((bJ bs 0).aQ=[109,97,105,110])&&decide ((bJ bs 0).bS.length=0)):=by
 unfold oY;rw[Vf λi a=>⟨by have:=(h i a).1;unfold p4 at this;rw[aE] at this;exact this.1,(h i a).2⟩,show bs.all DK=true from ?_,Bool.and_true];refine List.all_eq_true.2 λb hb=>?_;obtain⟨i,a,rfl⟩:=List.getElem_of_mem hb;have:=(h i a).1;unfold p4 at this;rw[aE] at this;rw[bJ,gG,gE a] at this;exact this.2
def afb (h:¬(1<=bs.length/\bs.length<=40)):oY bs=false:=by grind [oY,iW]
theorem Ph:∀(ts:List au) (t:au),ts≠[]->l7 (ts++[t])=l7 ts++32::t.text
 |[],_,h=>absurd rfl h
 |[u],t,_=>by rw[List.cons_append,List.nil_append,qG,rC,rC]
 |u::v::r,t,_=>by have:=Ph (v::r) t sm;rw[List.cons_append,List.cons_append,qG,<-List.cons_append,this,qG];simp
def pre (a:List au):aj:=if a=[] then[] else 40::l7 a
theorem VB (hk:k<ps.length):pre (ps.take<|k+1)=pre (ps.take k)++((if k=0 then 40 else 32)::(nth ps k).text):=by
 have e:ps.take (k+1)=ps.take k++[nth ps k]:=by rw[List.take_succ_eq_append_getElem hk,wk hk]
 rw[e];by_cases b:k=0
 .subst b;simp[pre,rC]
 .have a:ps.take k≠[]:=by intro h;have:=congrArg List.length h;rw[List.length_take] at this;simp only[List.length_nil] at this;omega
  unfold pre;rw[iN sm,iN a,Ph _ _ a,iN b];simp
theorem VC (b:WF t) (h:t.ag.length≠0):pre (t.ag.take t.ag.length)++[41]=t.text:=by
 cases b with
 |aq a _=>simp[au.ag] at h
 |list ps c _=>rw[si];show pre (ps.take ps.length)++[41]=_;rw[List.take_length];unfold pre;rw[iN c];simp
def VD (b:WF t) (h:t.ag.length=0):t.text=t.aq:=by
 cases b with
 |aq a c=>exact qF c
 |list ps d _=>exact absurd (List.length_eq_zero_iff.1 h) d
def VE (a:WF t) (hk:k<=t.ag.length):(pre<|t.ag.take k).length<=t.text.length:=by
 by_cases h:t.ag.length=0
 .rw[show k=0 from by omega];simp[pre]
 .rw[<-VC a h,lA];have mono:∀j,k<=j->j<=t.ag.length->(pre<|t.ag.take k).length<=(pre<|t.ag.take j).length:=by
   intro j _;induction j with
   |zero=>intro _;rw[show k=0 from by omega];exact lR _
   |succ j b=>
    intro _;rcases Nat.lt_or_ge k (j+1) with h|h
    .have:=b om om;rw[VB om,lA];omega
    .rw[show k=j+1 from by omega];exact lR _
  have:=mono _ hk<|lR _;omega
def xG (a:List au):aj:=40::l7 a
theorem VF (hk:k<ps.length):xG (ps.take<|k+1)=(xG (ps.take k)++(if k=0 then[] else[32]))++(nth ps k).text:=by
 have e:ps.take (k+1)=ps.take k++[nth ps k]:=by rw[List.take_succ_eq_append_getElem hk,wk hk]
 rw[e];by_cases a:k=0
 .subst a;simp[xG,rC,l7]
 .have b:ps.take k≠[]:=by intro h;have:=congrArg List.length h;rw[List.length_take] at this;simp only[List.length_nil] at this;omega
  unfold xG;rw[Ph _ _ b,iN a];simp
theorem VG (b:WF t) (h:t.aq=[]):xG (t.ag.take t.ag.length)++[41]=t.text:=by
 cases b with
 |aq a c=>exact absurd h c
 |list ps _ _=>rw[si];show xG (ps.take ps.length)++[41]=_;rw[List.take_length];rfl
def Pj (a:WF t) (b:t.aq=[]) (hk:k<=t.ag.length):(xG<|t.ag.take k).length<=t.text.length:=by
 rw[<-VG a b,lA];have mono:∀j,k<=j->j<=t.ag.length->(xG<|t.ag.take k).length<=(xG<|t.ag.take j).length:=by
  intro j _;induction j with
  |zero=>intro _;rw[show k=0 from by omega];exact lR _
  |succ j c=>
   intro _;rcases Nat.lt_or_ge k (j+1) with h|h
   .have:=c om om;rw[VF om,lA,lA];omega
   .rw[show k=j+1 from by omega];exact lR _
 have:=mono _ hk<|lR _;omega
structure xH (t:au):Prop where
 wf:WF t
 size:t.size<=12001
 text:t.text.length<=12000
def xH.part (h:xH t) (b:Good t) (a:t.ag[i]?=some p):xH p:=by obtain⟨_,_,_⟩:=b.sub a;exact⟨h.wf.part a,by have:=Iz a;have:=h.size;omega,by have:=h.text;omega⟩
def afc (h:bU s=some t):xH t:=by obtain⟨a,_,b,c⟩:=ue h;exact⟨a.wf,BU h,by rw[b];exact c⟩
theorem xH.nth (h:xH t) (a:Good t) (b:i<t.ag.length):xH (nth t.ag i):=h.part a<|dN b
def afd (h:k+1<t.ag.length):(t.ag.drop 1)[k]?=some (nth t.ag<|k+1):=by rw[List.getElem?_drop,show 1+k=k+1 from by omega,dN h]
def VH (a:List au):Prop:=a.length<1000000/\∀t∈a,WF t/\t.size<=100000000/\t.text.length<=100000000
/-! ### Depth and length,part by part -/
def maxD:List au->Nat
 |[]=>0
 |t::ts=>max t.depth<|maxD ts
theorem VI:∀(a b:List au),maxD (a++b)=max (maxD a) (maxD b)
 |[],b=>by simp[maxD]
 |t::ts,b=>by rw[List.cons_append,maxD,maxD,VI ts b];omega
def afe (hk:k<ps.length):maxD (ps.take<|k+1)=max (maxD<|ps.take k) (nth ps k).depth:=by rw[List.take_succ_eq_append_getElem hk,VI,wk hk];simp[maxD]
theorem VJ:∀{ps:List au},ps≠[]->au.depth.deeps ps=maxD ps+1
 |[],h=>absurd rfl h
 |[t],_=>by simp[au.depth.deeps,maxD]
 |t::u::us,_=>by have:=VJ (ps:=u::us) sm;simp only[au.depth.deeps,maxD] at this⊢;omega
theorem Pl (t:au):t.depth=au.depth.deeps t.ag:=by cases t;simp[au.depth,au.ag]
def aff (h:t.ag.length=0):t.depth=0:=by rw[Pl,List.length_eq_zero_iff.1 h];rfl
def afg (h:t.ag.length≠0):t.depth=maxD (t.ag.take t.ag.length)+1:=by rw[Pl,List.take_length,VJ λa=>h (by rw[a];rfl)]
def afh:∀t:au,t.size<=m->t.depth<t.size:=by
 induction m with
 |zero=>intro t h;have:=rB t;omega
 |succ m c=>
  intro t h;have d:=mc t;have e:au.depth.deeps t.ag<=t.size-1:=Lt λp b=>by obtain⟨i,a,rfl⟩:=List.getElem_of_mem b;have f:=Iz (t:=t)<|gE a;have:=c _ (by omega:t.ag[i].size<=m);omega
  rw[Pl];omega
def afi:maxD (t.ag.take k)<t.size:=by
 have b:∀(ps:List au) (d:Nat),0<d->(∀p∈ps,p.depth<d)->maxD ps<d:=by
  intro ps;induction ps with
  |nil=>intro d a _;simpa[maxD] using a
  |cons p ps g=>intro d a h;have j:=h p sm;have l:=g d a λq f=>h q (by simp[f]);rw[maxD];omega
 refine b _ _ (by have:=rB t;omega) λp e=>?_;obtain⟨i,c,rfl⟩:=List.getElem_of_mem<|List.mem_of_mem_take e;have m:=Iz (t:=t)<|gE c;have:=afh _<|lR (t.ag[i]).size;omega
theorem Pm:∀(a b:List au),au.len.lens (a++b)=au.len.lens a+au.len.lens b
 |[],b=>by simp[au.len.lens]
 |t::ts,b=>by rw[List.cons_append,au.len.lens,au.len.lens,Pm ts b];omega
def afj (hk:k<ps.length):au.len.lens (ps.take<|k+1)=au.len.lens (ps.take k)+((nth ps k).len+1):=by rw[List.take_succ_eq_append_getElem hk,Pm,wk hk];simp[au.len.lens]
def afk (h:t.ag.length=0):t.len=t.aq.length:=by
 cases t with
 |mk a ps=>simp only[au.ag] at h;have:=List.length_eq_zero_iff.1 h;subst this;simp[au.len,au.aq]
theorem VK (h:t.ag.length≠0):t.len=1+au.len.lens (t.ag.take t.ag.length):=by
 cases t with
 |mk a ps=>have:ps≠[]:=λb=>h (by rw[b];rfl);simp[au.len,au.ag,this]
def afl (h:t.ag.length≠0):1+au.len.lens (t.ag.take k)<=t.len:=by rw[VK h,List.take_length];have:=Pm (t.ag.take k)<|t.ag.drop k;rw[List.take_append_drop] at this;omega
def Pn (h:Good t):t.size<=2*t.text.length:=by
 induction h with
 |aq a d hb=>have:=List.length_pos_iff.2 d;rw[qF d];simp only[au.size,au.size.sizes];omega
 |list ps e _ g=>
  have c:∀b:List au,(∀p∈b,p.size<=2*p.text.length)->au.size.sizes b<=2*(l7 b).length:=by
   intro b;induction b with
   |nil=>intro _;simp[au.size.sizes]
   |cons q b i=>
    intro h;have j:=h q sm;have f:=i λp e=>h p (by simp[e]);cases b with
    |nil=>rw[rC];simp only[au.size.sizes];omega
    |cons u _=>rw[qG];simp only[au.size.sizes,lA,lC] at f⊢;omega
  have:=c ps g;rw[si];simp only[au.size,lC,lA,List.length_nil];omega
/-! ### Texts joined -/
theorem VL (a b:List aj):sj (a++b)=sj a++sj b:=by simp[sj]
def xI (h:aj) (a:List aj) (k:Nat):aj:=40::(h++sj (a.take k))
def afm {ps:List aj} (hk:k<ps.length):xI h ps (k+1)=(xI h ps k++[32])++cu ps k:=by unfold xI;rw[List.take_succ_eq_append_getElem hk,VL];simp[sj,cu,gE hk]
def afn {a:List aj} (hk:a.length<=k):xI h a k++[41]=eC h a:=by unfold xI eC;rw[List.take_of_length_le hk];simp
def afo {ps:List aj} (k:Nat):(xI h ps k).length+1<=(eC h ps).length:=by
 have:(sj<|ps.take k).length<=(sj ps).length:=by have:=VL (ps.take k)<|ps.drop k;rw[List.take_append_drop] at this;rw[this,lA];omega
 simp[xI,eC];omega
/-! ### What the laws count -/
def iy (a:List aj):Nat:=a.length+(a.map List.length).sum
theorem afp {b:Type} (f:b->Nat) {a:List b} (hk:k<a.length):((a.take<|k+1).map f).sum=((a.take k).map f).sum+f a[k]:=by rw[List.take_succ_eq_append_getElem hk,List.map_append,List.sum_append];simp
def afq {b:Type} (f:b->Nat) (a:List b) (k:Nat):((a.take k).map f).sum<=(a.map f).sum:=by have:=congrArg (λl=>(l.map f).sum)<|List.take_append_drop k a;simp only[List.map_append,List.sum_append] at this;omega
def wo (a:List aj) (k:Nat):Nat:=a.length+((a.take k).map List.length).sum
def afr (hk:k<xs.length):wo xs (k+1)=wo xs k+(cu xs k).length:=by unfold wo;rw[afp _ hk,show cu xs k=xs[k] from by simp[cu,gE hk]];omega
def afs (a:List aj) (k:Nat):wo a k<=iy a:=by unfold wo iy;have:=afq List.length a k;omega
def aft (hk:xs.length<=k):wo xs k=iy xs:=by unfold wo iy;rw[List.take_of_length_le hk]
theorem Po (a:List aj):(sj a).length=iy a:=by induction a<;>grind [sj,iy]
/-! ### A list that is filled -/
def fill {a:Type} (d:a) (b:List a) (k:Nat):List a:=b.take k++List.replicate (b.length-k) d
inductive It where
 |v (V:Value)
 |p (f:Value->World->Prop)
def It.F:It->Value->World->Prop
 | .v V=>λv _=>v=V
 | .p f=>f
def It.IG:It->Bool
 | .v _=>true
 | .p _=>false
def dq (b:List It) (c:List Nat) (w:World):List Nat->(List (Nat×Value)->Prop)->Prop
 |[],k=>k []
 |j::r,k=>match b.getD j (.p λ_ _=>True) with
  | .v V=>dq b c w r λa=>k ((c.getD j 0,V)::a)
  | .p f=>∀v,f v w->dq b c w r λa=>k ((c.getD j 0,v)::a)
def Gf {a:List It} {g:List Nat} {vs:Nat->Value}:∀{deps:List Nat} {k:List (Nat×Value)->Prop},dq a g w deps k->(∀j∈deps,pY (a.map It.F) j (vs j) w)->k (xu g vs deps)
 |[],k,h,_=>h
 |j::r,k,h,hd=>by
  have b:=hd j<|List.mem_cons_self ..;unfold dq at h;have c:((a.getD j<|.p λ_ _=>True).F) (vs j) w:=by
   unfold pY at b;rw[gG] at b⊢;rw[List.getElem?_map] at b;cases e:a[j]? with
   |none=>trivial
   |some q=>rw[e] at b;exact b
  cases e:a.getD j (.p λ_ _=>True) with
  |v V=>rw[e] at h c;have l:vs j=V:=c;subst l;exact Gf (deps:=r) h λi d=>hd i<|mK _ d
  |p f=>rw[e] at h c;exact Gf (deps:=r) (h _ c) λi d=>hd i<|mK _ d
def Pp {F:List (Value->World->Prop)} {c:Nat->Value}:∀{l:List Nat},H5 F c w l->∀j∈l,pY F j (c j) w
 |[],_,j,h=>by cases h
 |[i],h,j,b=>by rw[List.mem_singleton] at b;subst b;exact h
 |i::a::l,h,j,b=>by
  rcases mC.1 b with e|b
  .subst e;exact h.1
  .exact Pp h.2 j b
def IH (P:Program) (n:Nat) (e:Array Oper) (W d:List Nat) (c:List It) (g:Env) (i:World) (k:Nat) (o:Oper) (b:List Nat):Prop:=
 ∀(x:Env) (w:World),ak [] i w->dq c d w b λa=>OW P n e (λf w'=>ak [] w w'/\(c.getD k<|.p λ_ _=>True).F (f<|d.getD k 0) w'/\fM [d.getD k 0] (bf (aY W x g) a) f) [o] (bf (aY W x g) a) w
def sU (P:Program) (n:Nat) (b:Array Oper) (W c:List Nat) (a:List It) (e:Env) (f:World):Nat->List Oper->List (List Nat)->Prop
 |_,[],_=>True
 |_,_::_,[]=>True
 |k,o::l,d::r=>IH P n b W c a e f k o d/\sU P n b W c a e f (k+1) l r
def vc {b:List Nat} {a:List It} {l:List Oper} {d:List Nat} {r:List (List Nat)} (h:IH P n ops W b a e0 w0 k o d) (c:sU P n ops W b a e0 w0 (k+1) l r):sU P n ops W b a e0 w0 k (o::l) (d::r):=⟨h,c⟩
def VM {c:List Nat} {a:List It}:∀(l:List Oper) (b:List (List Nat)) (k:Nat),sU P n ops W c a e0 w0 k l b->vX (ak []) P n ops W c (a.map It.F) e0 w0 k l b
 |[],_,_,_=>trivial
 |_::_,[],_,_=>trivial
 |o::l,d::r,k,h=>by
  refine⟨λx vs w e hk g i=>?_,VM l r (k+1) h.2⟩;have:=Gf (h.1 x w hk) (vs:=vs)<|Pp g;subst i;have f:pY (a.map It.F) k=(a.getD k<|.p λ_ _=>True).F:=by unfold pY;rw[gG,gG,List.getElem?_map];cases a[k]?<;>rfl
  rw[f];exact this
def II:List It->Prop
 |[]=>True
 | .v _::r=>II r
 | .p f::r=>(∀v w w',f v w->ak [] w w'->f v w')/\II r
def Pq:∀{its:List It},II its->qz (ak []) (its.map It.F)
 |[],_=>trivial
 | .v _::r,h=>⟨λv w w' e _=>e,Pq (its:=r) h⟩
 | .p f::r,h=>⟨h.1,Pq (its:=r) h.2⟩
def VN:∀{its:List It},its.all It.IG=true->II its
 |[],_=>trivial
 | .v _::r,h=>VN (its:=r)<|by simpa[It.IG] using h
 | .p f::r,h=>by simp[It.IG] at h
section
variable {P:Program} {n:Nat} {l:List Oper} {m:Nat} {W ds:List Nat} {deps:List (List Nat)}
def yM {N R:Env->World->Prop} {X:Nat->Env->World->Prop} {id:Nat} {f:Env} {g:World} (s:P.follows .mixedOrders=true) (m:Nat) (W c:List Nat) (a:List (List Nat)) (b:List It) 
  (o:vY l m W c a=true) (p:II b)
  (q:∀d,ak [] g d->sU P n l.toArray W c b f d 0 (l.take m) a)
  (t:∀(x:Env) (w:World),ak [] g w->dq b c w (List.range m) λe=>OW P n l.toArray N (l.drop m) (bf (aY W x f) e) w):
  CW P n (.region id l.toArray true) N R X f g:=
 Uu s bA m W c a (b.map It.F) o (Pq p) (λd hk=>VM _ _ _<|q d hk) λx vs w hk i=>
  Gf (t x w hk) (vs:=vs) λj r=>i j<|List.mem_range.1 r
def jN {N R:Env->World->Prop} {X:Nat->Env->World->Prop} {id:Nat} {e:Env} {f:World} (p:P.follows .mixedOrders=true) (m:Nat) (W c:List Nat) (a:List (List Nat)) (b:List It) 
  (i:vY l m W c a=true) (j:b.all It.IG=true)
  (o:∀g,ak [] f g->sU P n l.toArray W c b e g 0 (l.take m) a)
  (q:∀(x:Env) (w:World),ak [] f w->dq b c w (List.range m) λd=>OW P n l.toArray N (l.drop m) (bf (aY W x e) d) w):
  CW P n (.region id l.toArray true) N R X e f:=yM p m W c a b i (VN j) o q
end
section
variable {P:Program} {n:Nat} {ops:Array Oper} {e:Env} {w w':World}
def pv (h:v=V:=by rfl):OW P n ops (λa w'=>ak [] w w'/\(It.v V).F (a d) w'/\fM [d] e a) [] (cC e (some d) v) w:=
 aX ⟨ak.refl _ _,by subst h;exact rr _ _ _,uT⟩
def pk (k:ak [] w w') (h:v=V:=by rfl):OW P n ops (λa w'=>ak [] w w'/\(It.v V).F (a d) w'/\fM [d] e a) [] (cC e (some d) v) w':=
 aX ⟨k,by subst h;exact rr _ _ _,uT⟩
def pf {f:Value->World->Prop} (k:ak [] w w') (h:f v w'):OW P n ops (λa w'=>ak [] w w'/\(It.p f).F (a d) w'/\fM [d] e a) [] (cC e (some d) v) w':=
 aX ⟨k,by show f (jz e d v d) w';rw[rr];exact h,uT⟩
end
section
variable {P:Program} {n:Nat} {N R:Env->World->Prop} {X:Nat->Env->World->Prop} {e0:Env} {w:World}
def Ai {c:Code} (d:List Nat) (a:List (Nat×Value)) (h:CW P n c (λb w'=>fM d e0 b/\Holds a b/\ak [] w w') R X e0 w) 
  (k:∀x w',ak [] w w'->N (bf (aY d x e0) a) w'):CW P n c N R X e0 w:=
 h.mono (λb w' ⟨e,f,hk⟩=>by have:=k b w' hk;rw[Ad e,KU f] at this;exact this) (λ_ _ h=>h) λ_ _ _ h=>h
end
def kE {p q r:Prop} (k:r) (h:p:=by repeat(first|with_reducible exact BH|refine K0 rfl ?_|refine OJ rfl ?_)) (a:q:=by repeat' (first|rfl|(rw[fI];rfl)|(rw[kz];rfl)|constructor)):p/\q/\r:=⟨h,a,k⟩
def cD {g:World->World->Prop} {P:Program} {n:Nat} {b:Array Oper} {W f:List Nat} {a:List It} {i:Env} {j:World} {k:Nat} {o:Oper} {l:List Oper} {d:List Nat} {r:List (List Nat)} 
  (h:∀(x:Env) (w:World),g j w->dq a f w d λc=>OW P n b (λm w'=>g w w'/\(a.getD k<|.p λ_ _=>True).F (m<|f.getD k 0) w'/\fM [f.getD k 0] (bf (aY W x i) c) m) [o] (bf (aY W x i) c) w)
  (t:vX g P n b W f (a.map It.F) i j (k+1) l r):vX g P n b W f (a.map It.F) i j k (o::l) (d::r):=
 ⟨λx vs w e hk q s=>by
  have:=Gf (h x w hk) (vs:=vs)<|Pp q;subst s;have p:pY (a.map It.F) k=(a.getD k<|.p λ_ _=>True).F:=by unfold pY;rw[gG,gG,List.getElem?_map];cases a[k]?<;>rfl
  rw[p];exact this,t⟩
def oZ {n:Nat} {l:List Oper} {N R:Env->World->Prop} {X:Nat->Env->World->Prop} {id:Nat} {f:Env} {g:World} (u:P.follows .mixedOrders=true) {c:World->World->Prop} (o:Kept c) (m:Nat) (W d:List Nat) (a:List (List Nat)) (b:List It) 
  (q:vY l m W d a=true) (r:qz c (b.map It.F))
  (s:∀i,c g i->vX c P n l.toArray W d (b.map It.F) f i 0 (l.take m) a)
  (v:∀(x:Env) (w:World),c g w->dq b d w (List.range m) λe=>OW P n l.toArray N (l.drop m) (bf (aY W x f) e) w):
  CW P n (.region id l.toArray true) N R X f g:=
 Uu u o m W d a _ q r s λx vs w hk p=>Gf (v x w hk) (vs:=vs) λj t=>p j<|List.mem_range.1 t
def gQ {c:World->World->Prop} (K:Kept c) {P:Program} {n:Nat} {b:Array Oper} {W f:List Nat} {a:List It} {g:Env} {j:World} (aC:c j w0) {k:Nat} {o:Oper} {l:List Oper} {d:List Nat} {r:List (List Nat)} 
  (h:∀(x:Env) (w:World),c j w->dq a f w d λe=>OW P n b (λi w'=>c w w'/\(a.getD k<|.p λ_ _=>True).F (i<|f.getD k 0) w'/\fM [f.getD k 0] (bf (aY W x g) e) i) [o] (bf (aY W x g) e) w)
  (m:vX c P n b W f (a.map It.F) g w0 (k+1) l r):vX c P n b W f (a.map It.F) g w0 k (o::l) (d::r):=
 cD (λx w hk=>h x w<|K.trans aC hk) m
section
variable {KK:World->World->Prop} {P:Program} {n:Nat} {ops:Array Oper} {e:Env} {w w':World}
def bR (K:Kept KK) (h:v=V:=by rfl):OW P n ops (λa w'=>KK w w'/\(It.v V).F (a d) w'/\fM [d] e a) [] (cC e (some d) v) w:=
 aX ⟨K.refl _,by subst h;exact rr _ _ _,uT⟩
def DP (K:Kept KK) (k:ak [] w w') (h:v=V:=by rfl):OW P n ops (λa w'=>KK w w'/\(It.v V).F (a d) w'/\fM [d] e a) [] (cC e (some d) v) w':=
 aX ⟨K.of k,by subst h;exact rr _ _ _,uT⟩
end
def afu:NG Tryz.f100:=ng
def afv:NG Tryz.f101:=ng
def afw:NG Tryz.f102:=ng
def afx:NG Tryz.f103:=ng
def afy:NG Tryz.f104:=ng
def VO:NG Tryz.f105:=ng
def afz:NG Tryz.f106:=ng
def afA:NG Tryz.f107:=ng
def afB:NG Tryz.f108:=ng
def afC:NG Tryz.f109:=ng
def afD:NG Tryz.f110:=ng
def afE:NG Tryz.f111:=ng
def afF:NG Tryz.f112:=ng
def afG:NG Tryz.f113:=ng
def afH:NG Tryz.f116:=ng
def afI:NG Tryz.f117:=ng
def afJ:NG Tryz.f118:=ng
def afK:NG Tryz.f119:=ng
def afL:NG Tryz.f12:=ng
def afM:NG Tryz.f120:=ng
def afN:NG Tryz.f121:=ng
def afO:NG Tryz.f122:=ng
def afP:NG Tryz.f123:=ng
def afQ:NG Tryz.f124:=ng
def VP:NG Tryz.f13:=ng
def afR:NG Tryz.f131:=ng
def afS:NG Tryz.f132:=ng
def afT:NG Tryz.f133:=ng
def afU:NG Tryz.f134:=ng
def afV:NG Tryz.f135:=ng
def afW:NG Tryz.f136:=ng
def afX:NG Tryz.f137:=ng
def afY:NG Tryz.f138:=ng
def afZ:NG Tryz.f139:=ng
def af0:NG Tryz.f14:=ng
def af1:NG Tryz.f140:=ng
def af2:NG Tryz.f141:=ng
def af3:NG Tryz.f142:=ng
def af4:NG Tryz.f143:=ng
def af5:NG Tryz.f144:=ng
def af6:NG Tryz.f145:=ng
def af7:NG Tryz.f146:=ng
def af8:NG Tryz.f147:=ng
def af9:NG Tryz.f148:=ng
def VQ:NG Tryz.f149:=ng
def aga:NG Tryz.f158:=ng
def agb:NG Tryz.f159:=ng
def agc:NG Tryz.f16:=ng
def agd:NG Tryz.f160:=ng
def age:NG Tryz.f165:=ng
def agf:NG Tryz.f166:=ng
def agh:NG Tryz.f167:=ng
def agi:NG Tryz.f168:=ng
def agj:NG Tryz.f169:=ng
def agk:NG Tryz.f17:=ng
def agl:NG Tryz.f170:=ng
def agm:NG Tryz.f171:=ng
def agn:NG Tryz.f172:=ng
def ago:NG Tryz.f173:=ng
def agp:NG Tryz.f174:=ng
def agq:NG Tryz.f175:=ng
def agr:NG Tryz.f176:=ng
def ags:NG Tryz.f177:=ng
def agt:NG Tryz.f178:=ng
def agu:NG Tryz.f179:=ng
def agv:NG Tryz.f18:=ng
def agw:NG Tryz.f180:=ng
def agx:NG Tryz.f181:=ng
def agy:NG Tryz.f182:=ng
def agz:NG Tryz.f183:=ng
def agA:NG Tryz.f184:=ng
def agB:NG Tryz.f185:=ng
def agC:NG Tryz.f186:=ng
def agD:NG Tryz.f187:=ng
def VR:NG Tryz.f188:=ng
def agE:NG Tryz.f189:=ng
def agF:NG Tryz.f19:=ng
def agG:NG Tryz.f190:=ng
def agH:NG Tryz.f191:=ng
def agI:NG Tryz.f20:=ng
def agJ:NG Tryz.f202:=ng
def agK:NG Tryz.f203:=ng
def agL:NG Tryz.f204:=ng
def agM:NG Tryz.f205:=ng
def agN:NG Tryz.f206:=ng
def agO:NG Tryz.f207:=ng
def agP:NG Tryz.f208:=ng
def agQ:NG Tryz.f209:=ng
def agR:NG Tryz.f21:=ng
def agS:NG Tryz.f210:=ng
def agT:NG Tryz.f211:=ng
def agU:NG Tryz.f212:=ng
def agV:NG Tryz.f213:=ng
def Pr:NG Tryz.f214:=ng
def agW:NG Tryz.f215:=ng
def agX:NG Tryz.f219:=ng
def agY:NG Tryz.f22:=ng
def agZ:NG Tryz.f220:=ng
def ag0:NG Tryz.f221:=ng
def ag1:NG Tryz.f222:=ng
def ag2:NG Tryz.f223:=ng
def ag3:NG Tryz.f224:=ng
def ag4:NG Tryz.f225:=ng
def ag5:NG Tryz.f23:=ng
def ag6:NG Tryz.f24:=ng
def ag7:NG Tryz.f25:=ng
def ag8:NG Tryz.f26:=ng
def VS:NG Tryz.f27:=ng
def ag9:NG Tryz.f28:=ng
def aha:NG Tryz.f29:=ng
def ahb:NG Tryz.f30:=ng
def ahc:NG Tryz.f31:=ng
def ahd:NG Tryz.f33:=ng
def ahe:NG Tryz.f34:=ng
def ahf:NG Tryz.f35:=ng
def ahg:NG Tryz.f36:=ng
def ahh:NG Tryz.f37:=ng
def ahi:NG Tryz.f38:=ng
def ahj:NG Tryz.f39:=ng
def ahk:NG Tryz.f40:=ng
def ahl:NG Tryz.f41:=ng
def ahm:NG Tryz.f42:=ng
def ahn:NG Tryz.f43:=ng
def aho:NG Tryz.f44:=ng
def ahp:NG Tryz.f45:=ng
def ahq:NG Tryz.f46:=ng
def ahr:NG Tryz.f47:=ng
def ahs:NG Tryz.f48:=ng
def aht:NG Tryz.f49:=ng
def nm5:NG Tryz.f5:=ng
def ahv:NG Tryz.f50:=ng
def VT:NG Tryz.f51:=ng
def ahw:NG Tryz.f52:=ng
def ahx:NG Tryz.f53:=ng
def VU:NG Tryz.f54:=ng
def ahy:NG Tryz.f55:=ng
def ahz:NG Tryz.f56:=ng
def ahA:NG Tryz.f57:=ng
def ahB:NG Tryz.f58:=ng
def ahC:NG Tryz.f59:=ng
def ahD:NG Tryz.f60:=ng
def ahE:NG Tryz.f61:=ng
def ahF:NG Tryz.f62:=ng
def ahG:NG Tryz.f63:=ng
def ahH:NG Tryz.f64:=ng
def ahI:NG Tryz.f65:=ng
def ahJ:NG Tryz.f66:=ng
def ahK:NG Tryz.f67:=ng
def ahL:NG Tryz.f68:=ng
def ahM:NG Tryz.f69:=ng
def VV:NG Tryz.f7:=ng
def ahN:NG Tryz.f70:=ng
def VW:NG Tryz.f72:=ng
def ahO:NG Tryz.f73:=ng
def ahP:NG Tryz.f74:=ng
def ahQ:NG Tryz.f75:=ng
def Lz:NG Tryz.f76:=ng
def ahR:NG Tryz.f77:=ng
def ahS:NG Tryz.f78:=ng
def ahT:NG Tryz.f79:=ng
def ahU:NG Tryz.f80:=ng
def ahV:NG Tryz.f81:=ng
def ahW:NG Tryz.f82:=ng
def ahX:NG Tryz.f83:=ng
def ahY:NG Tryz.f84:=ng
def ahZ:NG Tryz.f85:=ng
def ah0:NG Tryz.f86:=ng
def ah1:NG Tryz.f87:=ng
def ah2:NG Tryz.f91:=ng
def ah3:NG Tryz.f92:=ng
def ah4:NG Tryz.f93:=ng
def ah5:NG Tryz.f94:=ng
def ah6:NG Tryz.f95:=ng
def ah7:NG Tryz.f96:=ng
def ah8:NG Tryz.f97:=ng
def ah9:NG Tryz.f98:=ng
def aia:NG Tryz.f99:=ng
def aib:uS Tryz.prog 140=true:=by kernel_rfl
def VX:uS Tryz.prog 165=true:=by kernel_rfl
def DQ:uS Tryz.prog 30=true:=by kernel_rfl
def IJ:uS Tryz.prog 52=true:=by kernel_rfl
def jl:uS Tryz.prog 57=true:=by kernel_rfl
def eU:uS Tryz.prog 93=true:=by kernel_rfl
def Gg:Tryz.prog.underlying 59=some (.array 40 57):=by kernel_rfl
def DR:Tryz.prog.underlying 60=some (.array 40 4):=by kernel_rfl
def Ps:∀(a:Option Addr) (c b:Nat) (d:Option Addr) (f e:Nat) (w:World),(Instr.build 140 #[(0,(.slice a c b)),(1,(.slice d f e))]).run Tryz.prog w= .ok (.agg #[.slice a c b,.slice d f e]) w:=by intros;kernel_rfl
def aic:∀(a:Option Addr) (c b:Nat) (d:Option Addr) (f e:Nat) (w:World),(Instr.build 163 #[(0,(.slice a c b)),(1,(.slice d f e))]).run Tryz.prog w= .ok (.agg #[.slice a c b,.slice d f e,.int .i64 0,.bool false,.slice none 0 0,.slice none 0 0]) w:=by intros;kernel_rfl
def aid:∀(a:Option Addr) (c b:Nat) (x1:Int) (d:Option Addr) (f e:Nat) (g:Option Addr) (j i:Nat) (w:World),(Instr.build 199 #[(0,(.slice a c b)),(1,(.int .i64 x1)),(2,(.slice d f e)),(3,(.slice g j i))]).run Tryz.prog w= .ok (.agg #[.slice a c b,.int .i64 x1,.slice d f e,.slice g j i]) w:=by intros;kernel_rfl
def aie:∀(a:Option Addr) (c b:Nat) (x1:Int) (w:World),(Instr.build 230 #[(0,(.slice a c b)),(1,(.int .i64 x1))]).run Tryz.prog w= .ok (.agg #[.slice a c b,.int .i64 x1]) w:=by intros;kernel_rfl
def Pt:∀(g:ByteArray) (a:Option Addr) (c b:Nat) (d:Option Addr) (f e:Nat) (w:World),(Instr.build 30 #[(0,(.string g)),(1,(.slice a c b)),(2,(.slice d f e))]).run Tryz.prog w= .ok (.agg #[.string g,.slice a c b,.slice d f e]) w:=by intros;kernel_rfl
def Pu:∀(w:World),(Instr.build 52 #[]).run Tryz.prog w= .ok (.agg #[.string ⟨#[]⟩,.slice none 0 0,.slice none 0 0]) w:=by intros;kernel_rfl
def aif:∀(a:ByteArray) (w:World),(Instr.build 52 #[(0,(.string a))]).run Tryz.prog w= .ok (.agg #[.string a,.slice none 0 0,.slice none 0 0]) w:=by intros;kernel_rfl
def Pv:∀(w:World),(Instr.build 57 #[]).run Tryz.prog w= .ok (.agg #[.string ⟨#[]⟩,.slice none 0 0]) w:=by intros;kernel_rfl
def VY:∀(a:ByteArray) (w:World),(Instr.build 57 #[(0,(.string a))]).run Tryz.prog w= .ok (.agg #[.string a,.slice none 0 0]) w:=by intros;kernel_rfl
def aih:∀(a:Option Addr) (c b:Nat) (w:World),(Instr.build 57 #[(1,(.slice a c b))]).run Tryz.prog w= .ok (.agg #[.string ⟨#[]⟩,.slice a c b]) w:=by intros;kernel_rfl
def aii:∀(c:Fn) (a b:Array Value) (w:World),(Instr.build 62 #[(3,(.func c a b))]).run Tryz.prog w= .ok (.agg #[.string ⟨#[]⟩,.slice none 0 0,.string ⟨#[]⟩,.slice none 0 0,.string ⟨#[]⟩,.slice none 0 0,.string ⟨#[]⟩,.slice none 0 0,.string ⟨#[]⟩,.slice none 0 0,.string ⟨#[]⟩,.slice none 0 0,.string ⟨#[]⟩,.slice none 0 0,.string ⟨#[]⟩,.slice none 0 0,.string ⟨#[]⟩,.slice none 0 0,.string ⟨#[]⟩,.slice none 0 0,.string ⟨#[]⟩,.slice none 0 0,.string ⟨#[]⟩,.slice none 0 0,.string ⟨#[]⟩,.slice none 0 0,.string ⟨#[]⟩,.slice none 0 0,.string ⟨#[]⟩,.slice none 0 0,.string ⟨#[]⟩,.slice none 0 0,.string ⟨#[]⟩,.slice none 0 0,.string ⟨#[]⟩,.slice none 0 0,.string ⟨#[]⟩,.slice none 0 0,.string ⟨#[]⟩,.slice none 0 0,.string ⟨#[]⟩,.slice none 0 0,.string ⟨#[]⟩,.slice none 0 0,.string ⟨#[]⟩,.slice none 0 0,.string ⟨#[]⟩,.slice none 0 0,.string ⟨#[]⟩,.slice none 0 0,.string ⟨#[]⟩,.slice none 0 0,.string ⟨#[]⟩,.slice none 0 0,.string ⟨#[]⟩,.slice none 0 0,.string ⟨#[]⟩,.slice none 0 0,.string ⟨#[]⟩,.slice none 0 0,.string ⟨#[]⟩,.slice none 0 0,.string ⟨#[]⟩,.slice none 0 0,.string ⟨#[]⟩,.slice none 0 0,.string ⟨#[]⟩,.slice none 0 0,.string ⟨#[]⟩,.slice none 0 0,.string ⟨#[]⟩,.slice none 0 0,.string ⟨#[]⟩,.slice none 0 0,.string ⟨#[]⟩,.slice none 0 0,.string ⟨#[]⟩,.slice none 0 0,.string ⟨#[]⟩,.slice none 0 0,.bool false,.bool false,.bool false,.bool false,.bool false,.bool false,.bool false,.bool false,.bool false,.bool false,.bool false,.bool false,.bool false,.bool false,.bool false,.bool false,.bool false,.bool false,.bool false,.bool false,.bool false,.bool false,.bool false,.bool false,.bool false,.bool false,.bool false,.bool false,.bool false,.bool false,.bool false,.bool false,.bool false,.bool false,.bool false,.bool false,.bool false,.bool false,.bool false,.bool false,.int .i64 0,.func c a b]) w:=by intros;kernel_rfl
def aij:∀(a:Option Addr) (c b:Nat) (w:World),(Instr.build 75 #[(0,(.slice a c b))]).run Tryz.prog w= .ok (.agg #[.slice a c b,.int .i64 0]) w:=by intros;kernel_rfl
def Gh:∀(w:World),(Instr.build 93 #[]).run Tryz.prog w= .ok (.agg #[.string ⟨#[]⟩,.slice none 0 0]) w:=by intros;kernel_rfl
def aik:∀(a:ByteArray) (w:World),(Instr.build 93 #[(0,(.string a))]).run Tryz.prog w= .ok (.agg #[.string a,.slice none 0 0]) w:=by intros;kernel_rfl
def Pw:∀(a:Option Addr) (c b:Nat) (w:World),(Instr.build 93 #[(1,(.slice a c b))]).run Tryz.prog w= .ok (.agg #[.string ⟨#[]⟩,.slice a c b]) w:=by intros;kernel_rfl
def ail:Tryz.prog.underlying 4=some .bool:=by kernel_rfl
def aim:ie Tryz.prog 140 0=some 0:=by kernel_rfl
def ain:ie Tryz.prog 140 1=some 1:=by kernel_rfl
def aio:ie Tryz.prog 163 0=some 0:=by kernel_rfl
def aip:ie Tryz.prog 163 1=some 1:=by kernel_rfl
def aiq:ie Tryz.prog 163 2=some 2:=by kernel_rfl
def air:ie Tryz.prog 163 3=some 3:=by kernel_rfl
def ais:ie Tryz.prog 163 4=some 4:=by kernel_rfl
def ait:ie Tryz.prog 163 5=some 5:=by kernel_rfl
def aiu:ie Tryz.prog 165 0=some 0:=by kernel_rfl
def V0:ie Tryz.prog 165 1=some 1:=by kernel_rfl
def aiv:ie Tryz.prog 165 10=some 11:=by kernel_rfl
def aiw:ie Tryz.prog 165 2=some 2:=by kernel_rfl
def LA:ie Tryz.prog 165 3=some 3:=by kernel_rfl
def aix:ie Tryz.prog 165 4=some 4:=by kernel_rfl
def aiy:ie Tryz.prog 165 5=some 5:=by kernel_rfl
def aiz:ie Tryz.prog 165 6=some 6:=by kernel_rfl
def V2:ie Tryz.prog 165 7=some 7:=by kernel_rfl
def V3:ie Tryz.prog 165 8=some 9:=by kernel_rfl
def aiA:ie Tryz.prog 165 9=some 10:=by kernel_rfl
def aiB:ie Tryz.prog 199 0=some 0:=by kernel_rfl
def aiC:ie Tryz.prog 199 1=some 1:=by kernel_rfl
def aiD:ie Tryz.prog 199 2=some 2:=by kernel_rfl
def aiE:ie Tryz.prog 199 3=some 3:=by kernel_rfl
def aiF:ie Tryz.prog 230 0=some 0:=by kernel_rfl
def aiG:ie Tryz.prog 230 1=some 1:=by kernel_rfl
def Px:ie Tryz.prog 30 0=some 0:=by kernel_rfl
def LB:ie Tryz.prog 30 1=some 1:=by kernel_rfl
def B2:ie Tryz.prog 30 2=some 2:=by kernel_rfl
def aiH:ie Tryz.prog 52 0=some 0:=by kernel_rfl
def V4:ie Tryz.prog 52 1=some 1:=by kernel_rfl
def V5:ie Tryz.prog 52 2=some 2:=by kernel_rfl
def Py:ie Tryz.prog 57 0=some 0:=by kernel_rfl
def Aj:ie Tryz.prog 57 1=some 1:=by kernel_rfl
def aiI:ie Tryz.prog 62 0=some 0:=by kernel_rfl
def aiJ:ie Tryz.prog 62 1=some 80:=by kernel_rfl
def aiK:ie Tryz.prog 62 2=some 120:=by kernel_rfl
def aiL:ie Tryz.prog 62 3=some 121:=by kernel_rfl
def aiM:ie Tryz.prog 75 0=some 0:=by kernel_rfl
def V6:ie Tryz.prog 75 1=some 1:=by kernel_rfl
def lr:ie Tryz.prog 93 0=some 0:=by kernel_rfl
def jO:ie Tryz.prog 93 1=some 1:=by kernel_rfl
def DS:TI Tryz.prog 140 2 48 (.agg #[.slice none 0 0,.slice none 0 0]):=by unfold TI;kernel_rfl
def LC:TI Tryz.prog 161 1 24 (.slice none 0 0):=by unfold TI;kernel_rfl
def o3:TI Tryz.prog 165 12 216 (.agg #[.string ⟨#[]⟩,.slice none 0 0,.int .i64 0,.slice none 0 0,.slice none 0 0,.slice none 0 0,.slice none 0 0,.string ⟨#[]⟩,.slice none 0 0,.int .i64 0,.string ⟨#[]⟩,.int .i64 0]):=by unfold TI;kernel_rfl
def V7:TI Tryz.prog 23 1 24 (.slice none 0 0):=by unfold TI;kernel_rfl
def o4:TI Tryz.prog 28 1 24 (.slice none 0 0):=by unfold TI;kernel_rfl
def sV:TI Tryz.prog 3 1 8 (.int .i64 0):=by unfold TI;kernel_rfl
def jf:TI Tryz.prog 30 3 64 (.agg #[.string ⟨#[]⟩,.slice none 0 0,.slice none 0 0]):=by unfold TI;kernel_rfl
def yN:TI Tryz.prog 4 1 1 (.bool false):=by unfold TI;kernel_rfl
def IK:TI Tryz.prog 5 1 1 (.int .u8 0):=by unfold TI;kernel_rfl
def IL:TI Tryz.prog 50 1 24 (.slice none 0 0):=by unfold TI;kernel_rfl
def p6:TI Tryz.prog 52 3 64 (.agg #[.string ⟨#[]⟩,.slice none 0 0,.slice none 0 0]):=by unfold TI;kernel_rfl
def cv:TI Tryz.prog 57 2 40 (.agg #[.string ⟨#[]⟩,.slice none 0 0]):=by unfold TI;kernel_rfl
def V8:TI Tryz.prog 77 1 24 (.slice none 0 0):=by unfold TI;kernel_rfl
def Pz:TI Tryz.prog 88 2 32 (.agg #[.pointer none,.slice none 0 0]):=by unfold TI;kernel_rfl
def bz:TI Tryz.prog 9 1 16 (.string ⟨#[]⟩):=by unfold TI;kernel_rfl
def DT:TI Tryz.prog 91 1 24 (.slice none 0 0):=by unfold TI;kernel_rfl
def aK:TI Tryz.prog 93 2 40 (.agg #[.string ⟨#[]⟩,.slice none 0 0]):=by unfold TI;kernel_rfl
def LD:Tryz.prog.underlying 142=some (.int .u64):=by kernel_rfl
def yO:Tryz.prog.underlying 3=some (.int .i64):=by kernel_rfl
def Ak:Tryz.prog.underlying 5=some (.int .u8):=by kernel_rfl
def cY:Tryz.prog.follows .mixedOrders=true:=by kernel_rfl
def aiN:rz Tryz.prog 161=true:=by kernel_rfl
def aiO:rz Tryz.prog 22=true:=by kernel_rfl
def aiP:rz Tryz.prog 23=true:=by kernel_rfl
def pD:rz Tryz.prog 28=true:=by kernel_rfl
def IM:rz Tryz.prog 3=true:=by kernel_rfl
def Gi:rz Tryz.prog 4=true:=by kernel_rfl
def aiQ:rz Tryz.prog 5=true:=by kernel_rfl
def sW:rz Tryz.prog 50=true:=by kernel_rfl
def PA:rz Tryz.prog 55=true:=by kernel_rfl
def aiR:rz Tryz.prog 77=true:=by kernel_rfl
def fA:rz Tryz.prog 9=true:=by kernel_rfl
def jg:rz Tryz.prog 91=true:=by kernel_rfl
def B3:Tryz.prog.underlying 161=some (.slice 165):=by kernel_rfl
def DU:Tryz.prog.underlying 22=some (.slice 5):=by kernel_rfl
def my:Tryz.prog.underlying 23=some (.slice 30):=by kernel_rfl
def bB:Tryz.prog.underlying 28=some (.slice 9):=by kernel_rfl
def Gj:Tryz.prog.underlying 46=some (.slice 52):=by kernel_rfl
def iX:Tryz.prog.underlying 50=some (.slice 57):=by kernel_rfl
def DV:Tryz.prog.underlying 77=some (.slice 3):=by kernel_rfl
def cH:Tryz.prog.underlying 91=some (.slice 93):=by kernel_rfl
def jm:Tryz.prog.underlying 9=some .string:=by kernel_rfl
/-! ### Packages have two ag -/
inductive o5:au->Prop
 |aq (a:aj):o5 (.mk a [])
 |list (ps:List au) (h:sS ps=[101]->ps.length=2) (hp:∀p∈ps,o5 p):o5 (.mk [] ps)
def o5.part (h:o5 t) (b:t.ag[i]?=some p):o5 p:=by
 cases h with
 |aq a=>simp[au.ag] at b
 |list ps _ c=>exact c p<|List.mem_of_getElem? b
theorem o5.nth (h:o5 t) (a:i<t.ag.length):o5 (nth t.ag i):=h.part<|dN a
def o5.two (h:o5 t) (b:aT t=[101]):t.ag.length=2:=by
 cases h with
 |aq a=>rw[BT (.inr rfl)] at b;cases b
 |list ps c _=>rw[Lw] at b;exact c b
def V9 (l:WF t):∀h,gq h t=true->o5 t:=by
 induction l with
 |aq a _=>intro _ _;exact .aq a
 |list ps o q j=>
  intro h c;cases ps with
  |nil=>exact absurd rfl o
  |cons e rest=>
   have i:∀a,e.aq=a->a≠[]->o5 e:=λa n m=>by
    have:=q e sm;cases this with
    |aq b _=>exact .aq b
    |list _ _ _=>exact absurd n.symm m
   unfold gq at c;simp only[ne_eq,not_true,if_false] at c;by_cases f:e.aq=[101]
   .rw[iP f] at c;cases rest with
    |nil=>simp[gq.oneT] at c
    |cons x r=>
     cases r with
     |nil=>
      refine .list _ (λ_=>rfl) λp d=>?_;simp only[mC,List.not_mem_nil,or_false] at d;rcases d with rfl|rfl
      .exact i _ f de
      .exact j p sm true c
     |cons y _=>simp[gq.oneT] at c
   .rw[iN f] at c;by_cases g:e.aq=[116]\/e.aq=[99]
    .rw[iP g,O3,List.all_eq_true] at c;refine .list _ (λh=>absurd h f) λp d=>?_;rcases mC.1 d with rfl|d
     .rcases g with h|h
      .exact i _ h de
      .exact i _ h de
     .exact j p (by simp[d]) h<|c p d
    .rw[iN g] at c;cases c
def Wa (c:h≠[101]) (d:∀t∈ts,o5 t):o5 (ky h ts):=
 .list _ (λb=>absurd b c) λp a=>by
  rcases mC.1 a with rfl|a
  .exact .aq _
  .exact d p a
def aiS (l:o5 y) (d:y.aq≠[101]) (h:o5 t):o5 (cR y t):=by
 induction h with
 |aq a=>
  unfold cR;split
  .exact l
  .split
   .exact .aq a
   .simp only[rD];exact .list _ (by simp[sS]) sm
 |list ps i j m=>
  unfold cR;rw[iN de];by_cases c:([]:aj)≠[]\/sS ps=[101]
  .rw[iP c];exact .list ps i j
  .rw[iN c,IC];refine .list _ (λg=>?_) λp n=>?_
   .cases ps with
    |nil=>simp[sS] at g
    |cons q _=>
     exfalso;have b:(cR y q).aq=[101]:=g;cases q with
     |mk a rs=>
      unfold cR at b;by_cases e:a=[118]
      .rw[iP e] at b;exact d b
      .rw[iN e] at b;by_cases f:a≠[]\/sS rs=[101]
       .rw[iP f] at b;exact c<|.inr b
       .rw[iN f] at b;cases b
   .obtain⟨q,b,rfl⟩:=List.mem_map.1 n;exact m q b
/-! ### States -/
structure nj (t:au):Prop where
 et:Good t
 fits:ot t=true
 eok:o5 t
def jP (a:TS):Prop:=∀i t,a.getD i none=some t->nj t
theorem ug:nj iT:=⟨.aq _ de de,by decide,.aq _⟩
def aiU (a:Good t) (h:ot t=true) (c:i<t.ag.length):ot (nth t.ag i)=true:=by unfold ot at h⊢;rw[aE,dE,dE] at h⊢;obtain⟨b,_,_⟩:=a.sub<|dN c;rw[wm a.wf] at h;rw[wm b.wf];omega
theorem nj.nth (h:nj t) (a:i<t.ag.length):nj (nth t.ag i):=⟨h.et.nth a,aiU h.et h.fits a,h.eok.nth a⟩
theorem aiV {a:TS} {r:Nat} {o:Option au} (c:r<a.length):(a.set r o).getD i none=if i=r then o else a.getD i none:=by
 rw[gG,List.getElem?_set,gG];by_cases h:r=i
 .subst h;rw[iP rfl,iP c,iP rfl];rfl
 .rw[iN h,iN λb=>h b.symm]
def aiW {e:TS} (h:jP e) (j:d<e.length) {o:Option au} (g:∀t,o=some t->Good t/\o5 t) {b:TS} (a:eO e d o=some b):jP b/\b.length=e.length:=by
 unfold eO at a;cases o with
 |none=>cases a
 |some t=>
  simp only[Option.bind_some] at a;by_cases f:ot t=true
  .rw[iP f] at a;cases a;refine⟨λi l c=>?_,sm⟩;rw[aiV j] at c;split at c
   .cases c;exact⟨(g t rfl).1,f,(g t rfl).2⟩
   .exact h i l c
  .rw[iN f] at a;cases a
def qJ {b:TS} (h:jP b) {a:aj} (c:df b a=some t):nj t:=h _ t c
def yP (p:List dv):Prop:=p.length<=1000000/\∀b∈p,b.regs.length<=40/\∀t∈b.regs,nj t
def LF {p:List dv} (h:yP p) {a:List au} (c:bZ p l=some a):a.length<=40/\∀t∈a,nj t:=by
 unfold bZ at c;cases d:p.find? (λb=>decide<|b.aQ=l) with
 |none=>rw[d] at c;cases c
 |some b=>rw[d] at c;cases c;exact h.2 b<|List.mem_of_find?_eq_some d
def LG {b:TS} (h:jP b):∀{c xs:List au},lP b c=some xs->xs.length=c.length/\∀t∈xs,nj t
 |[],xs,a=>by cases a;simp
 |u::c,xs,a=>by
  unfold lP at a;cases e:df b u.aq with
  |none=>rw[e] at a;cases a
  |some x=>
   rw[e] at a;simp only[Option.bind_some] at a;cases d:lP b c with
   |none=>rw[d] at a;cases a
   |some _=>
    rw[d] at a;cases a;obtain⟨g,i⟩:=LG h d;refine⟨by simp[g],λt f=>?_⟩;rcases mC.1 f with rfl|f
    .exact qJ h e
    .exact i t f
theorem Wb {a:TS}:∀(b:List au) (u:au),lP a (b++[u])=(lP a b).bind λxs=>(df a u.aq).map λx=>xs++[x]
 |[],u=>by show(df a u.aq).bind (λx=>(lP a []).map λxs=>x::xs)=_;cases df a u.aq<;>rfl
 |v::b,u=>by
  show(df a v.aq).bind (λx=>(lP a<|b++[u]).map λxs=>x::xs)=((df a v.aq).bind λx=>(lP a b).map λxs=>x::xs).bind _;rw[Wb b u];cases df a v.aq with
  |none=>rfl
  |some x=>
   cases lP a b with
   |none=>rfl
   |some xs=>cases df a u.aq<;>rfl
/-! ### What an instruction has -/
def ij (b:TS) (c:aj) (a:List au):Nat->Option (List au)
 |0=>some []
 |k+1=>(ij b c a k).bind λxs=>if c.getD k 0=115 then(df b (nth a<|k+1).aq).map λx=>xs++[x] else some xs
def aiX {a:TS} {b:aj} (h:ij a b ps k=none):∀n,k<=n->ij a b ps n=none:=by
 intro n _;induction n with
 |zero=>rw[show k=0 from by omega] at h;exact h
 |succ n d=>
  rcases Nat.lt_or_ge k (n+1) with c|c
  .unfold ij;rw[d om];rfl
  .rw[show k=n+1 from by omega] at h;exact h
def aiY {b:TS} {a:aj} {c:List au} (h:ij b a ps k=some c) (d:a.getD k 0≠115):ij b a ps (k+1)=some c:=by unfold ij;rw[h,Option.bind_some,iN d]
def aiZ {a:TS} {b:aj} {c:List au} (h:ij a b ps k=some c) (d:b.getD k 0=115) (e:df a (nth ps<|k+1).aq=some x):ij a b ps (k+1)=some (c++[x]):=by unfold ij;rw[h,Option.bind_some,iP d,e];rfl
def ai0 {a:TS} {b:aj} {e:List au} (h:ij a b ps k=some e) (c:b.getD k 0=115) (d:df a (nth ps<|k+1).aq=none):ij a b ps (k+1)=none:=by unfold ij;rw[h,Option.bind_some,iP c,d];rfl
def PB {st:TS} (b:ps.length=m+2):∀k,k<=m->ij st ([100]++List.replicate m 115) ps (k+1)=lP st ((ps.drop 2).take k)
 |0,_=>by simp[ij,lP]
 |k+1,hk=>by
  have d:=PB (st:=st) b k om;have c:([100]++List.replicate m 115:aj).getD (k+1) 0=115:=by rw[gG,List.getElem?_append_right sm,List.getElem?_replicate,iP so];rfl
  have a:k<(ps.drop 2).length:=by simp;omega
  have e:(ps.drop 2).take (k+1)=(ps.drop 2).take k++[nth ps (k+2)]:=by rw[List.take_succ_eq_append_getElem a,List.getElem_drop,wk (show k+2<ps.length by omega)];simp[Nat.add_comm]
  rw[e,Wb,<-d]
  conv=>lhs;unfold ij
  simp only[c,if_true]
def IN (h:nQ t=true):dY (aT t) t.ag.length≠[]/\t.ag.length=(dY (aT t) t.ag.length).length+1/\
  ∀i,i<(dY (aT t) t.ag.length).length->ig (((dY (aT t) t.ag.length).getD i 0).toNat:Int) (nth t.ag (i+1))=true:=by
 unfold nQ at h;split at h
 .cases h
 .rename_i a;exact⟨λh=>a<|.inl h,Classical.not_not.1 λh=>a<|.inr h,of_decide_eq_true h⟩
/-! ### What it gives -/
section
variable {p:List dv} {st:TS} {o:Nat} {t:au}
theorem Wc (a:aT t=[99,111,110,115,116]):stepT p st o t=eO st (fO (nth t.ag 1).aq) (some iT):=by simp[stepT,fF,a]
theorem Wd (a:aT t=[109,111,118]) (b:df st (nth t.ag 2).aq=some x):stepT p st o t=eO st (fO (nth t.ag 1).aq) (some x):=by simp[stepT,fF,a,b]
theorem We (a:aT t=[97,100,100]\/aT t=[115,117,98]\/aT t=[109,117,108]) (b:df st (nth t.ag 2).aq=some x) (c:df st (nth t.ag 3).aq=some y):
  stepT p st o t=if uf x iT&&uf y iT then eO st (fO (nth t.ag 1).aq) (some iT) else none:=by
 rcases a with a|a|a<;>simp only[stepT,fF,a,b,c,qH]<;>cases(uf x iT&&uf y iT)<;>simp[eO]
theorem LH {a:List au} (b:aT t=[110,101,119]) (c:lP st (t.ag.drop 2)=some a):stepT p st o t=eO st (fO (nth t.ag 1).aq) (some<|ky [116] a):=by simp[stepT,b,c]
theorem PC (a:aT t=[110,101,119]) (b:lP st (t.ag.drop 2)=none):stepT p st o t=none:=by simp[stepT,a,b,eO]
theorem PD (b:aT t=[103,101,116]) (d:df st (nth t.ag 2).aq=some x):
  stepT p st o t=if aT x=[116]/\qI (nth t.ag 3).aq+1<x.ag.length then eO st (fO (nth t.ag 1).aq) (some<|nth x.ag (qI (nth t.ag 3).aq+1).toNat) else none:=by
 have e:fF p st o t=(if aT x=[116]/\qI (nth t.ag 3).aq+1<x.ag.length then some (nth x.ag (qI (nth t.ag 3).aq+1).toNat) else none):=by simp[fF,b,d]
 have c:stepT p st o t=eO st (fO (nth t.ag 1).aq) (fF p st o t):=by simp[stepT,b]
 rw[c,e];by_cases a:aT x=[116]/\qI (nth t.ag 3).aq+1<x.ag.length
 .rw[iP a,iP a]
 .rw[iN a,iN a];rfl
theorem LI {l:Option (List au)} (a:aT t=[108,97,98]) (b:bZ p (nth t.ag 2).aq=l):stepT p st o t=eO st (fO (nth t.ag 1).aq) (l.map<|ky [99]):=by subst b;simp[stepT,fF,a]
theorem Wf (a:aT t=[112,97,99,107]) (b:df st (nth t.ag 2).aq=some x):
  stepT p st o t=if uf x (cR (nth t.ag 4)<|nth (nth t.ag 3).ag 1) then eO st (fO (nth t.ag 1).aq) (some<|nth t.ag 3) else none:=by
 simp only[stepT,fF,a,b,Option.bind_some];cases uf x (cR (nth t.ag 4)<|nth (nth t.ag 3).ag 1)<;>simp[eO]
theorem PE (b:aT t=[111,112,101,110]) (d:df st (nth t.ag 2).aq=some x):
  stepT p st o t=if aT x=[101] then eO st (fO (nth t.ag 1).aq) (some (cR (bL (97::aS o))<|nth x.ag 1)) else none:=by
 have e:fF p st o t=(if aT x=[101] then some (cR (bL (97::aS o))<|nth x.ag 1) else none):=by simp[fF,b,d]
 have c:stepT p st o t=eO st (fO (nth t.ag 1).aq) (fF p st o t):=by simp[stepT,b]
 rw[c,e];by_cases a:aT x=[101]
 .rw[iP a,iP a]
 .rw[iN a,iN a];rfl
theorem Wg (b:aT t=[122,101,114,111]) (c:df st (nth t.ag 1).aq=some x):
  stepT p st o t=(bZ p (nth t.ag 2).aq).bind λa=>if uf x iT&&meets st a then some st else none:=by
 simp[stepT,b,c,qH]
theorem PF (a:aT t=[106,117,109,112]) (b:df st (nth t.ag 1).aq=some x):
  stepT p st o t=if aT x=[99]/\meets st (x.ag.drop 1)=true then some st else none:=by
 simp[stepT,a,b]
theorem PG (a:aT t=[104,97,108,116]):stepT p st o t=(df st (nth t.ag 1).aq).map λ_=>st:=by simp[stepT,a]
theorem Wh (u:nQ t=true) (h:ij st (dY (aT t) t.ag.length) t.ag (dY (aT t) t.ag.length).length=none):stepT p st o t=none:=by
 obtain⟨d,a,_⟩:=IN u;have f:∀{q:Nat},df st (nth t.ag q).aq=none\/∃x,df st (nth t.ag q).aq=some x:=fun{q}=>by cases df st (nth t.ag q).aq<;>simp
 unfold dY at h d a;by_cases c1:aT t=[99,111,110,115,116]
 .rw[iP c1] at h;simp[ij] at h
 rw[iN c1] at h d a;by_cases c2:aT t=[109,111,118]\/aT t=[111,112,101,110]
 .rw[iP c2] at h;have c:df st (nth t.ag 2).aq=none:=by
   rcases f (q:=2) with b|⟨x,b⟩
   .exact b
   .simp[ij,b] at h
  rcases c2 with e|e<;>simp[stepT,fF,e,c,eO]
 rw[iN c2] at h d a;by_cases g:aT t=[97,100,100]\/aT t=[115,117,98]\/aT t=[109,117,108]
 .rw[iP g] at h;have c:df st (nth t.ag 2).aq=none\/df st (nth t.ag 3).aq=none:=by
   rcases f (q:=2) with b|⟨x,b⟩
   .exact .inl b
   .rcases f (q:=3) with r|⟨y,r⟩
    .exact .inr r
    .simp[ij,b,r] at h
  rcases c with c|c<;>rcases g with e|e|e<;>simp[stepT,fF,e,c,eO,qH]
 rw[iN g] at h d a;by_cases i:aT t=[110,101,119]
 .rw[iP i] at h a;refine PC i ?_;have v:t.ag.length=(t.ag.length-2)+2:=by simp at a;omega
  have:=PB (st:=st) v (t.ag.length-2)<|lR _;rw[show([100]++List.replicate (t.ag.length-2) 115:aj).length=t.ag.length-2+1 from by simp[Nat.add_comm]] at h;rw[h,List.take_of_length_le sm] at this;exact this.symm
 rw[iN i] at h d a;by_cases j:aT t=[103,101,116]
 .rw[iP j] at h;have c:df st (nth t.ag 2).aq=none:=by
   rcases f (q:=2) with b|⟨x,b⟩
   .exact b
   .simp[ij,b] at h
  simp[stepT,fF,j,c,eO]
 rw[iN j] at h d a;by_cases s:aT t=[108,97,98]
 .rw[iP s] at h;simp[ij] at h
 rw[iN s] at h d a;by_cases l:aT t=[112,97,99,107]
 .rw[iP l] at h;have c:df st (nth t.ag 2).aq=none:=by
   rcases f (q:=2) with b|⟨x,b⟩
   .exact b
   .simp[ij,b] at h
  simp[stepT,fF,l,c,eO]
 rw[iN l] at h d a;by_cases m:aT t=[122,101,114,111]
 .rw[iP m] at h;have c:df st (nth t.ag 1).aq=none:=by
   rcases f (q:=1) with b|⟨x,b⟩
   .exact b
   .simp[ij,b] at h
  simp[stepT,m,c,qH]
 rw[iN m] at h d a;by_cases n:aT t=[106,117,109,112]\/aT t=[104,97,108,116]
 .rw[iP n] at h;have c:df st (nth t.ag 1).aq=none:=by
   rcases f (q:=1) with b|⟨x,b⟩
   .exact b
   .simp[ij,b] at h
  rcases n with e|e<;>simp[stepT,e,c]
 rw[iN n] at d;exact absurd rfl d
end
/-! ### Sizes of what is given -/
def size_pos (t:au):1<=t.size:=by have:=rB t;omega
def PH (y:au) (h:Good t):(cR y t).size<=t.size*y.size:=by
 have e:=size_pos y;induction h with
 |aq a f hb=>
  unfold cR;split
  .have:=size_pos<|au.mk a [];exact Nat.le_mul_of_pos_left _ this
  .rw[iP (.inl f)];exact Nat.le_mul_of_pos_right _ e
 |list ps d _ g=>
  unfold cR;rw[iN de];split
  .exact Nat.le_mul_of_pos_right _ e
  .have c:∀b:List au,(∀p∈b,(cR y p).size<=p.size*y.size)->au.size.sizes (rD y b)<=au.size.sizes b*y.size:=by
    intro b;induction b with
    |nil=>intro _;simp[rD,au.size.sizes]
    |cons q b i=>intro h;have j:=h q sm;have l:=i λp d=>h p (by simp[d]);simp only[rD,au.size.sizes,Nat.add_mul];omega
   have:=c ps g;simp only[au.size,List.length_nil,Nat.add_mul];omega
def LJ (t:au):∀m,t.size<=m->WF t->t.text.length+1<=2*t.size:=by
 intro m;induction m generalizing t with
 |zero=>intro h;have:=size_pos t;omega
 |succ m r=>
  intro _ g;cases g with
  |aq a l=>rw[qF l];simp only[au.size,au.size.sizes];omega
  |list ps d o=>
   rw[si];have e:(au.mk [] ps).size=1+au.size.sizes ps:=by simp[au.size]
   rw[e];have c:∀b:List au,b≠[]->(∀p∈b,p.text.length+1<=2*p.size)->(l7 b).length+1<=2*au.size.sizes b:=by
    intro b;induction b with
    |nil=>intro h;exact absurd rfl h
    |cons q b s=>
     intro _ h;have y:=h q sm;cases b with
     |nil=>rw[rC];simp only[au.size.sizes];omega
     |cons u _=>have j:=s sm λp d=>h p (by simp[d]);rw[qG];simp only[au.size.sizes,lA,lC] at j⊢;omega
   have v:=c ps d (λp f=>by obtain⟨i,n,rfl⟩:=List.getElem_of_mem f;have z:=Iz (t:=.mk [] ps) (p:=ps[i]) (i:=i)<|gE n;exact r _ om<|o _ f);simp only[lC,lA,List.length_nil];omega
def Wi (h:WF t):t.len<=2*t.size:=by have:=LJ t _ (lR _) h;rw[wm h];omega
theorem nj.size (h:nj t):t.size<=24000:=by have:=h.fits;unfold ot at this;rw[aE,dE,dE] at this;have a:=Pn h.et;have b:=wm h.et.wf;omega
def Wj:∀ts:List au,(∀t∈ts,t.size<=m)->au.size.sizes ts<=ts.length*m
 |[],_=>by simp[au.size.sizes]
 |t::ts,h=>by have b:=h t sm;have c:=Wj ts λu a=>h u (by simp[a]);simp only[au.size.sizes,lC,Nat.add_mul];omega
def Wk (d:fy c=true) (h:∀t∈ts,nj t) (f:ts.length<=8000):Good (ky [c] ts)/\(ky [c] ts).size<=1000000000/\(ky [c] ts).len<=1000000000:=by
 have b:Good (ky [c] ts):=DL sm (by simp[d]) λt a=>(h t a).et;have j:=Wj ts λt a=>(h t a).size;have g:ts.length*24000<=8000*24000:=Nat.mul_le_mul_right _ f;have e:(ky [c] ts).size=1+(2+au.size.sizes ts):=by simp[ky,bL,au.size,au.size.sizes]
 have i:=Wi b.wf;refine⟨b,om,om⟩
def LK:iT.size<=1000000000/\iT.len<=1000000000:=by decide
end Go.Proofs.YtjkkipfboijfaaaGreatDoor
