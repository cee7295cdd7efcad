/- Lemmas for the law FnCheckFault, no statement of their own: no conditions. -/
import Derived.Below
import Derived.Calls
import Derived.IntWalk
import Derived.Laws.AppendOwn
import Derived.Laws.Slices
import Derived.Laws.Small
import Derived.Laws.Strings
import Derived.Laws.Strings2
import Derived.Orders
import Derived.Tactics
set_option maxHeartbeats 4000000
set_option linter.all false
namespace Go.Proofs.YtjkkipfboijfaaaGreatDoor
open Go
variable {p:Prop} {a:Int} {E b bytes d i j m n o off sz t:Nat} {l:List Oper} {k k':IntKind} {c:Code} {P:Program} {f:FuncId} {v z:Value} {w w' w0:World} {S:Value->World->Prop} {D L L':List Nat} {vs xs:List Value} {g:Option Nat} {ops:Array Oper} {x y:Operand} {Q:Exit->Act->World->Prop} {F r:List (Value->World->Prop)}
abbrev pt (b:Nat):Value:=.pointer<|some ⟨b,0,none⟩
abbrev sc (b n c:Nat):Value:=.slice (some ⟨b,0,none⟩) n c
theorem om (h:p:=by omega):p:=h
theorem so (h:p:=by simp;omega):p:=h
theorem sm (h:p:=by simp):p:=h
def sx (h:p:=by simp<;>omega):p:=h
theorem de (h:p:=by decide):p:=h
abbrev rA:=List.range'
abbrev NG (f:Func):Prop:=(f.name== "runtime.NumGoroutine")=false
def ng {f:Func} (h:(f.name== "runtime.NumGoroutine")=false:=by kernel_rfl):NG f:=h
theorem mA {b:Type} {a:b} {s t:List b}:a∈s++t↔a∈s\/a∈t:=List.mem_append
theorem mC {c:Type} {a b:c} {l:List c}:a∈b::l↔a=b\/a∈l:=List.mem_cons
theorem gE {a:Type} {l:List a} (h:i<l.length):l[i]?=some l[i]:=List.getElem?_eq_getElem h
def lL {k:Nat} (h:n<m) (g:m<=k):n<k:=Nat.lt_of_lt_of_le h g
theorem lR (n:Nat):n<=n:=Nat.le_refl n
def bE (b:Bool):b=true\/b=false:=Bool.eq_false_or_eq_true b
theorem gG {b:Type} {l:List b} {a:b}:l.getD i a=l[i]?.getD a:=List.getD_eq_getElem?_getD
theorem lA {a:Type} {s t:List a}:(s++t).length=s.length+t.length:=List.length_append
theorem lC {b:Type} {a:b} {s:List b}:(a::s).length=s.length+1:=List.length_cons
def mR {b:Type} {a:b} (s:List b) {t:List b} (h:a∈t):a∈s++t:=List.mem_append_right s h
def mK {b:Type} (y:b) {a:b} {l:List b} (h:a∈l):a∈y::l:=List.mem_cons_of_mem y h
theorem iN {c:Prop} {h:Decidable c} (k:¬c) {a:Type} {t e:a}:(ite c t e)=e:=if_neg k
theorem iP {c:Prop} {h:Decidable c} (k:c) {a:Type} {t e:a}:(ite c t e)=t:=if_pos k
theorem dT [i:Decidable p] (h:p):decide p=true:=decide_eq_true h
theorem dF [i:Decidable p] (h:¬p):decide p=false:=decide_eq_false h
theorem aE (a b:Bool):((a&&b)=true)=(a=true/\b=true):=Bool.and_eq_true a b
theorem oE (a b:Bool):((a||b)=true)=(a=true\/b=true):=Bool.or_eq_true a b
theorem dE [i:Decidable p]:(decide p=true)=p:=decide_eq_true_eq

abbrev Env:=Nat->Value
def jz (e:Env) (d:Nat) (v:Value):Env:=λt=>bif Nat.beq t d then v else e t
theorem rr (e:Env) (d:Nat) (v:Value):jz e d v d=v:=by simp[jz,Nat.beq_refl]
theorem KT (e:Env) (v:Value) (h:t≠d):jz e d v t=e t:=by grind [jz,Nat.beq,Nat.eq_of_beq_eq_true]
structure Fits (n:Nat) (e:Env) (a:Act):Prop where
 defers:a.defers=[]
 size:a.tmps.size=n
 get:∀t,a.tmps.getD t undef=e t
def ev (e:Env):Operand->Value
 | .tmp t=>e t
 | .const v=>v
 | .global g=>.pointer<|some ⟨g,0,none⟩
 | .func f=>.func (.func f) #[] #[]
theorem Fits.eval {e:Env} {a:Act} (h:Fits n e a):a.eval=ev e:=by funext x;cases x<;>simp[Act.eval,ev];rw[<-h.get,Array.getD_eq_getD_getElem?]
theorem ac4 (a:Array Value) (d t:Nat) (v u:Value) (b:d<a.size):(a.setIfInBounds d v).getD t u=if t=d then v else a.getD t u:=by
 simp only[Array.getD_eq_getD_getElem?,Array.getElem?_setIfInBounds];by_cases h:t=d
 .subst h;simp[b]
 .have:¬d=t:=λe=>h e.symm;simp[h,this]
theorem Fits.put {e:Env} {a:Act} (h:Fits n e a) (f:Nat.blt d n=true) (v:Value):Fits n (jz e d v) (a.put (some d) v):=by
 have b:d<n:=by simpa[Nat.blt_eq] using f
 refine⟨h.defers,by simp[Act.put,h.size],λt=>?_⟩;simp only[Act.put];rw[ac4 _ _ _ _ _ (by rw[h.size];exact b),h.get];by_cases c:t=d
 .subst c;simp[rr]
 .rw[KT _ _ c,iN c]
@[reducible] def cC (e:Env):Option Nat->Value->Env
 |some d,v=>jz e d v
 |none,_=>e
def cN (n:Nat):Option Nat->Bool
 |some d=>Nat.blt d n
 |none=>true
def Fits.cC {e:Env} {a:Act} (h:Fits n e a) {d:Option Nat} (b:cN n d=true) (v:Value):Fits n (cC e d v) (a.put d v):=by
 cases d with
 |none=>exact h
 |some d=>exact h.put b v
def sd (n:Nat) (K:Env->World->Prop) (Q:Exit->Act->World->Prop):Exit->Act->World->Prop
 | .normal,a,w=>∃e,Fits n e a/\K e w
 |x,a,w=>Q x a w
def OW (P:Program) (n:Nat) (b:Array Oper) (K:Env->World->Prop) (l:List Oper) (e:Env) (w:World):Prop:=
 ∀a,Fits n e a->∀Q,wpList P b (sd n K Q) l a w
def oR (n:Nat) (N R:Env->World->Prop) (X:Nat->Env->World->Prop):Exit->Act->World->Prop
 | .normal,a,w=>∃e,Fits n e a/\N e w
 | .ret,a,w=>∃e,Fits n e a/\R e w
 | .exit i,a,w=>∃e,Fits n e a/\X i e w
 |_,_,_=>False
def CW (P:Program) (n:Nat) (c:Code) (N R:Env->World->Prop) (X:Nat->Env->World->Prop) (e:Env) (w:World):Prop:=
 ∀a,Fits n e a->c.wp P (oR n N R X) a w
section
variable {P:Program} {n:Nat} {N R:Env->World->Prop} {X:Nat->Env->World->Prop} {e:Env} {w:World}
def CW.mono {f g:Env->World->Prop} {j:Nat->Env->World->Prop} (h:CW P n c N R X e w) 
  (l:∀e w,N e w->f e w) (m:∀e w,R e w->g e w) (o:∀i e w,X i e w->j i e w):CW P n c f g j e w:=λa p=>
 wp_mono (h a p) λx a w d=>by
  cases x<;>simp only[oR] at d⊢
  .obtain⟨e,b,hk⟩:=d;exact⟨e,b,l _ _ hk⟩
  .obtain⟨e,b,hk⟩:=d;exact⟨e,b,o _ _ _ hk⟩
  .obtain⟨e,b,hk⟩:=d;exact⟨e,b,m _ _ hk⟩
def jF {x y:Code} (h:CW P n x (λe w=>CW P n y N R X e w) R X e w):CW P n (x.seq y) N R X e w:=λa c=>
 wp_seq (wp_mono (h a c) λex a w b=>by
  cases ex<;>simp only[oR] at b<;>simp only[Exit.then]<;>first|exact b|skip
  obtain⟨e,d,hk⟩:=b;exact hk a d)
def iH (h:N e w):CW P n .skip N R X e w:=λ_ a=>wp_skip ⟨e,a,h⟩
def lO (h:R e w):CW P n .ret N R X e w:=λ_ a=>wp_ret ⟨e,a,h⟩
def BD (h:X i e w):CW P n (.exit i) N R X e w:=λ_ a=>wp_exit ⟨e,a,h⟩
def tV (h:CW P n c N R (λj e w=>bif Nat.beq j i then N e w else X j e w) e w):CW P n (.block i c) N R X e w:=λa g=>
 wp_block (wp_mono (h a g) λex a w d=>by
  cases ex<;>simp only[oR] at d<;>simp only[Exit.inBlock]<;>first|exact d|skip
  rename_i j;obtain⟨e,f,hk⟩:=d;by_cases b:j=i
  .subst b;simp only[if_true,oR];rw[Nat.beq_refl] at hk;exact⟨e,f,hk⟩
  .have hb:Nat.beq j i=false:=by
    cases l:Nat.beq j i with
    |true=>exact absurd (Nat.eq_of_beq_eq_true l) b
    |false=>rfl
   rw[hb] at hk;simp only[b,if_false,oR];exact⟨e,f,hk⟩)
def BE {A B:Prop} (h:Nat.beq j i=true) (k:A):(bif Nat.beq j i then A else B):=by rw[h];exact k
def F0 {A B:Prop} (h:Nat.beq j i=false) (k:B):(bif Nat.beq j i then A else B):=by rw[h];exact k
def ac6 {c:Operand} {x y:Code} {t:Bool} (d:ev e c= .bool t) (f:t=true->CW P n x N R X e w) (g:t=false->CW P n y N R X e w):
  CW P n (.cond c x y) N R X e w:=λa b=>
 wp_cond_split (t:=t) (by rw[b.eval];exact d) (λh=>f h a b) λh=>g h a b
def mX {id:Nat} (h:OW P n l.toArray N l e w):CW P n (.region id l.toArray false) N R X e w:=λa c=>
 wp_mono (wp_region_lit<|h a c λ_ _ _=>False) λex a w b=>by cases ex<;>simp only[sd] at b<;>simp only[oR]<;>exact b
def Holds:List (Nat×Value)->Env->Prop
 |[],_=>True
 |[p],e=>e p.1=p.2
 |p::r,e=>e p.1=p.2/\Holds r e
def bf (e:Env):List (Nat×Value)->Env
 |[]=>e
 |p::r=>jz (bf e r) p.1 p.2
def ac7 {p:Nat×Value} {r:List (Nat×Value)} (h:Holds (p::r) e):e p.1=p.2/\Holds r e:=by grind [Holds]
theorem KU:∀{l:List (Nat×Value)},Holds l e->bf e l=e
 |[],_=>rfl
 |p::r,h=>by
  obtain⟨b,c⟩:=ac7 h;simp only[bf,KU c];funext t;by_cases a:t=p.1
  .subst a;rw[rr,b]
  .rw[KT _ _ a]
def eZ {c:Code} {G:Type} (L:G->List (Nat×Value)) (I:G->World->Prop) (A:G->Nat) (C:G) (O:Holds (L C) e) (Q:I C w) 
  (q:∀g w K,I g w->CW P n c (λJ w'=>∃r,Holds (L r) J/\I r w'/\A r<A g) R X (bf K (L g)) w):
  CW P n (.loop c) N R X e w:=by
 intro a S b k B;have E:∀m (g:G) (e:Env) (a:Act) (w:World),A g=m->Fits n e a->Holds (L g) e->I g w->
   ∃x z w',oR n N R X x z w'/\Arrives P (lone (b.at a (.code c:: .inLoop c::k)) B w) b k B x z w':=by
  intro m;induction m using Nat.strongRecOn with
  |_ m Z=>
   intro g e a w Y T U V;have F:=q g w e V;rw[KU U] at F;obtain⟨x,d,i,j,s⟩:=F a T b (.inLoop c::k) B;cases x with
   |normal=>obtain⟨u,o,r,D,H,M⟩:=j;obtain⟨y,t,v,p,f⟩:=Z (A r) (Y▸M) r u d i rfl o D H;exact⟨y,t,v,p,.of_steps (Steps.trans s<|.one step_inLoop) f⟩
   |exit id=>exact⟨_,d,i,by simpa only[oR] using j,.pass (x:=.inLoop c) rfl (λ_ _=>.inl sm) s⟩
   |goto l=>simp[oR] at j
   |ret=>exact⟨_,d,i,by simpa only[oR] using j,.pass (x:=.inLoop c) rfl (λ_ _=>.inl sm) s⟩
   |panic _=>simp[oR] at j
   |outgrown=>simp[oR] at j
 obtain⟨x,z,w',j,s⟩:=E _ C e a w rfl S O Q;exact⟨x,z,w',j,.of_steps (.one step_loop) s⟩
def jk {c:Code} {G:Type} (L:G->List (Nat×Value)) (I:G->World->Prop) 
  (h:CW P n c (λa w'=>∃g,Holds (L g) a/\I g w') R X e w) (k:∀g w' b,I g w'->N (bf b (L g)) w'):CW P n c N R X e w:=
 h.mono (λa w' ⟨g,d,f⟩=>by have:=k g w' a f;rwa [KU d] at this) (λ_ _ h=>h) λ_ _ _ h=>h
end
/-! ### A function -/
def se (P:Program) (f:FuncId):Prop:=∃fn,P.funcs[f]?=some fn/\fn.body.isNone=false/\(fn.name== "runtime.NumGoroutine")=false
def se.mk' {fn:Func} (h:P.funcs[f]?=some fn) (hb:fn.body.isNone=false) (a:(fn.name== "runtime.NumGoroutine")=false):se P f:=⟨fn,h,hb,a⟩
def bC (P:Program) (f:FuncId) (a:List Value) (w:World) (S:Value->World->Prop):Prop:=
 se P f/\Calls P f a.toArray w λe w'=>∃v,e= .returned v/\S v w'
def Dm (e:Env):List ResultVar->Option Value
 |[.tmp t]=>some<|e t
 |[.tmp t,.tmp u]=>some<|.tuple #[e t,e u]
 |[.tmp t,.tmp u,.tmp x]=>some<|.tuple #[e t,e u,e x]
 |[]=>some<|.tuple #[]
 |_=>none
def Uc {fn:Func} {rs:List ResultVar} (c:fn.results=rs.toArray) {a:Array Value} {e:Env} (b:∀t,a.getD t undef=e t) (h:Dm e rs=some v) (P:Program) (w:World):
  (results fn a).run P w= .ok v w:=by
 match rs,h with
 |[.tmp t],h=>simp only[Dm,Option.some.injEq] at h;subst h;rw[<-b];exact results_tmp c _ _ _
 |[.tmp t,.tmp u],h=>simp only[Dm,Option.some.injEq] at h;subst h;rw[<-b,<-b];exact results_tmp2 c _ _ _
 |[.tmp t,.tmp u,.tmp x],h=>simp only[Dm,Option.some.injEq] at h;subst h;rw[<-b,<-b,<-b];simp[results,c]
 |[],h=>simp only[Dm,Option.some.injEq] at h;subst h;exact results_none c _ _ _
def start (a:List Value):Env:=λt=>a.getD t undef
def Ud (a:List Value) (m:Nat):Fits (a.length+m) (start a) {tmps:=a.toArray++Array.replicate m undef,defers:=[]}:=by
 refine⟨rfl,sm,λt=>?_⟩;simp only[start,Array.getD_eq_getD_getElem?,gG,Array.getElem?_append,List.size_toArray,List.getElem?_toArray];by_cases h:t<a.length
 .rw[iP h]
 .rw[iN h,List.getElem?_eq_none om];by_cases b:t-a.length<m<;>simp[b]
def cm {P:Program} {f:FuncId} {fn:Func} {c:Code} {b:List Value} {w:World} {S:Value->World->Prop} (rs:List ResultVar) (n:Nat) 
  (l:P.funcs[f]?=some fn) (hb:fn.body=some c) (p:(fn.name== "runtime.NumGoroutine")=false) (m:fn.results=rs.toArray) (o:b.length+(fn.ntmps-b.length)=n)
  (h:CW P n c (λe w'=>∃v,Dm e rs=some v/\S v w') (λe w'=>∃v,Dm e rs=some v/\S v w') (λ_ _ _=>False) (start b) w):bC P f b w S:=by
 refine⟨⟨fn,l,by rw[hb];rfl,p⟩,calls_of_wp l hb<|wp_mono (h _ ?_) λx a w' i=>?_⟩
 .rw[<-o];simpa using Ud b (fn.ntmps-b.length)
 .cases x<;>simp only[oR] at i
  .obtain⟨e,d,v,j,g⟩:=i;exact bodyPost_end (Uc m d.get j P w') d.defers ⟨v,rfl,g⟩
  .obtain⟨e,d,g⟩:=i;exact g.elim
  .obtain⟨e,d,v,j,g⟩:=i;exact bodyPost_ret (Uc m d.get j P w') d.defers ⟨v,rfl,g⟩
def Ue (P:Program) (e:Env) (t ty:Nat) (v:Value) (w:World):Prop:=∃a,e t= .pointer (some a)/\(loadVar ty a).run P w= .ok v w
structure ak (L:List Nat) (w w':World):Prop where
 os:w'.os=w.os
 tape:w'.tape=w.tape
 output:w'.output=w.output
 size:w.heap.size<=w'.heap.size
 block:∀k,k<w.heap.size->k∉L->w'.heap[k]?=w.heap[k]?
def ak.refl (L:List Nat) (w:World):ak L w w:=⟨rfl,rfl,rfl,lR _,λ_ _ _=>rfl⟩
theorem ak.trans {a b c:World} (h:ak L a b) (k:ak L b c):ak L a c:=
 ⟨k.os.trans h.os,k.tape.trans h.tape,k.output.trans h.output,Nat.le_trans h.size k.size,λi d e=>(k.block i (lL d h.size) e).trans<|h.block i d e⟩
def ak.mono {a b:World} (h:ak L a b) (c:∀x∈L,x∈L'):ak L' a b:=
 ⟨h.os,h.tape,h.output,h.size,λk hk d=>h.block k hk λe=>d<|c k e⟩
def ak.any {a b:World} (h:ak [] a b):ak L a b:=h.mono sm
def ak.drew (L:List Nat) (w:World):ak L w {w with drawn:=w.drawn+1}:=⟨rfl,rfl,rfl,lR _,λ_ _ _=>rfl⟩
theorem ak.alloc (L:List Nat) (w:World) (o:Obj):ak L w (w.alloc o):=⟨rfl,rfl,rfl,sm,λk hk _=>heap_alloc_old w o k hk⟩
def ak.below {a b:World} (h:ak L a b) {B:Nat} (e:B<=a.heap.size) (c:∀x∈L,B<=x):Go.RowKit.Below B a b:=
 ⟨h.os,h.tape,h.output,h.size,λk hk=>h.block k om λd=>by have:=c k d;omega⟩
def ak.since {a b c:World} (h:ak L a b) (k:ak L' b c) (g:∀x∈L',x∈L\/a.heap.size<=x):ak L a c:=
 ⟨k.os.trans h.os,k.tape.trans h.tape,k.output.trans h.output,Nat.le_trans h.size k.size,λi e f=>
  (k.block i (lL e h.size) (λj=>by rcases g i j with d|d;exact f d;omega)).trans (h.block i e f)⟩
def aL (w:World) (b:Nat) (a:Array Value) (T:TypeId):Prop:=w.heap[b]?=some (.cells a T (0,0))
def aL.aG {a:Array Value} {T:TypeId} (h:aL w b a T) (k:ak L w w') (hb:b∉L):aL w' b a T:=
 (k.block b (Array.getElem?_eq_some_iff.1 h).1 hb).trans h
theorem aL.lt {a:Array Value} {T:TypeId} (h:aL w b a T):b<w.heap.size:=(Array.getElem?_eq_some_iff.1 h).1
theorem aL.cell {a:Array Value} {T:TypeId} (h:aL w b a T) (i:Nat):w.cell? ⟨b,i,none⟩=a[i]?:=cell_of_row w b i a T (0,0) h
theorem aL.frozen {a:Array Value} {T:TypeId} (h:aL w b a T) (i:Nat):w.frozen? ⟨b,i,none⟩=false:=by simp only[World.frozen?];rw[show w.heap[b]?=_ from h];simp
theorem aL.alloc (w:World) (a:Array Value) (T:TypeId):aL (w.alloc<|.cells a T) w.heap.size a T:=heap_alloc_new w _
theorem aL.set {a:Array Value} {T:TypeId} (h:aL w b a T) (i:Nat) (v:Value):aL (w.setCell ⟨b,i,none⟩ v) b (a.setIfInBounds i v) T:=by unfold aL at*;simp only[World.setCell,Array.getElem?_modify,if_true,h];simp
theorem ak.setCell (w:World) (b i:Nat) (v:Value):ak [b] w (w.setCell ⟨b,i,none⟩ v):=
 ⟨rfl,rfl,rfl,by simp[World.setCell],λk _ a=>Go.RowKit.Below.heap_setCell w _ v k<|by simpa using a⟩
inductive C where
 |val (v:Value)
 |sl (size:Nat) (rows:List (List C))
inductive cw (L:List Nat) (w:World):Value->C->Prop
 |val (v:Value):cw L w v (.val v)
 |nil (a:Option Addr) (cap size:Nat):cw L w (.slice a 0 cap) (.sl size [])
 |sl (b off len cap size:Nat) (rows:List (List C)) (f:Nat->Nat->Value) (hl:rows.length=len) (hc:len<=cap) (hb:b<w.heap.size) (hL:b∉L)
   (hs:∀row∈rows,row.length=size)
   (l6:∀i j,i<len->j<size->w.cell? ⟨b,off+i*size+j,none⟩=some (f i j))
   (jS:∀i j row c,rows[i]?=some row->row[j]?=some c->cw L w (f i j) c):cw L w (.slice (some ⟨b,off,none⟩) len cap) (.sl size rows)
def cw.aG {c:C} (h:cw L w v c) (k:ak L w w'):cw L w' v c:=by
 induction h with
 |val v=>exact .val v
 |nil a c s=>exact .nil a c s
 |sl b off len d size rows f n g hb e o q _ p=>
  exact .sl b off len d size rows f n g (lL hb k.size) e o
   (λi j l m=>(World.cell?_of_block<|k.block b hb e).trans<|q i j l m) p
def cw.fresh {c:C} (h:cw L w v c) (g:∀x∈L',x∈L\/w.heap.size<=x):cw L' w v c:=by
 induction h with
 |val v=>exact .val v
 |nil a c s=>exact .nil a c s
 |sl b off len d size rows f j i hb n l p _ o=>exact .sl b off len d size rows f j i hb (λm=>by rcases g b m with e|e;exact n e;omega) l p o
def cw.weaken {c:C} (h:cw L w v c) (a:∀x∈L',x∈L):cw L' w v c:=h.fresh λx b=>.inl<|a x b
def cw.none {c:C} (h:cw L w v c):cw [] w v c:=h.weaken sm
def dC (L:List Nat) (w:World):List Value->List C->Prop
 |[],[]=>True
 |v::vs,c::cs=>cw L w v c/\dC L w vs cs
 |_,_=>False
theorem dC.length:∀{vs:List Value} {a:List C},dC L w vs a->vs.length=a.length
 |[],[],_=>rfl
 |_::_,_::_,h=>by simp[dC.length h.2]
theorem dC.get:∀{vs:List Value} {a:List C},dC L w vs a->∀{j:Nat} {v:Value} {c:C},vs[j]?=some v->a[j]?=some c->cw L w v c
 |_::_,_::_,h,0,_,_,hv,hc=>by simp at hv hc;subst hv;subst hc;exact h.1
 |_::_,_::_,h,j+1,_,_,hv,hc=>dC.get h.2 (j:=j) (by simpa using hv)<|by simpa using hc
def dC.of:∀{vs:List Value} {a:List C},vs.length=a.length->(∀(j:Nat) (v:Value) (c:C),vs[j]?=some v->a[j]?=some c->cw L w v c)->dC L w vs a
 |[],[],_,_=>trivial
 |v::vs,c::a,hl,h=>⟨h 0 v c rfl rfl,dC.of (by simpa using hl) λj f b e d=>h (j+1) f b (by simpa using e)<|by simpa using d⟩
def dC.aG {a:List C} (h:dC L w vs a) (k:ak L w w'):dC L w' vs a:=dC.of h.length λ_ _ _ c b=>(h.get c b).aG k
def dC.fresh {a:List C} (h:dC L w vs a) (b:∀x∈L',x∈L\/w.heap.size<=x):dC L' w vs a:=dC.of h.length λ_ _ _ d c=>(h.get d c).fresh b
def dC.append:∀{vs:List Value} {b:List C} {vs':List Value} {cs':List C},dC L w vs b->dC L w vs' cs'->dC L w (vs++vs') (b++cs')
 |[],[],_,_,_,a=>a
 |_::_,_::_,_,_,h,a=>⟨h.1,dC.append h.2 a⟩
def ja (L:List Nat) (w:World) (v:Value) (a:List C):Prop:=∃vs:List Value,v= .agg vs.toArray/\dC L w vs a
def ja.aG {a:List C} (h:ja L w v a) (k:ak L w w'):ja L w' v a:=
 let⟨vs,e,h⟩:=h;⟨vs,e,h.aG k⟩
def ja.fresh {a:List C} (h:ja L w v a) (b:∀x∈L',x∈L\/w.heap.size<=x):ja L' w v a:=
 let⟨vs,e,h⟩:=h;⟨vs,e,h.fresh b⟩
def gj (w:World) (b a:Nat) (c:List Value):Prop:=∀(j:Nat) (v:Value),c[j]?=some v->w.cell? ⟨b,a+j,none⟩=some v
theorem tW {size:Nat} {rows:List (List C)} (h:cw L w v (.sl size rows)):∃a d,v= .slice a rows.length d/\rows.length<=d:=by
 cases h with
 |nil a c s=>exact⟨a,c,rfl,Nat.zero_le _⟩
 |sl b off len d size rows f e _=>exact⟨_,d,by rw[e],om⟩
def z8 {a:Option Addr} {len d size:Nat} {rows:List (List C)} (h:cw L w (.slice a len d) (.sl size rows)) {row:List C} (l:rows[i]?=some row):
  ∃b off vs,a=some ⟨b,off,none⟩/\b<w.heap.size/\b∉L/\vs.length=size/\gj w b (off+i*size) vs/\dC L w vs row:=by
 cases h with
 |nil=>simp at l
 |sl b off len d size rows f _ _ hb o p s r=>
  have u:i<rows.length:=(List.getElem?_eq_some_iff.1 l).1;have q:row.length=size:=p row<|List.mem_of_getElem? l;refine⟨b,off,(List.range size).map<|f i,rfl,hb,o,sm,λj v m=>?_,dC.of (by simp[q]) λj v c n t=>?_⟩
  .have g:j<size:=by have:=(List.getElem?_eq_some_iff.1 m).1;simpa using this
   have e:f i j=v:=by simpa[List.getElem?_map,g] using m
   rw[<-e];exact s i j om g
  .have g:j<size:=by have:=(List.getElem?_eq_some_iff.1 n).1;simpa using this
   have e:f i j=v:=by simpa[List.getElem?_map,g] using n
   rw[<-e];exact r i j row c l t
def ac9 (b e d size:Nat) (rows:List (List C)) (a:List (List Value)) (o:a.length=rows.length) (u:rows.length<=d) (hb:b<w.heap.size) (t:b∉L) 
  (q:∀row∈rows,row.length=size)
  (v:∀(i:Nat) (vs:List Value),a[i]?=some vs->gj w b (e+i*size) vs)
  (s:∀(i:Nat) (vs:List Value) (row:List C),a[i]?=some vs->rows[i]?=some row->dC L w vs row):cw L w (.slice (some ⟨b,e,none⟩) rows.length d) (.sl size rows):=by
 refine .sl b e rows.length d size rows (λi j=>(a.getD i []).getD j undef) rfl u hb t q (λi j g m=>?_) λi j row c g m=>?_
 .obtain⟨vs,f⟩:∃vs,a[i]?=some vs:=⟨a[i]'om,gE om⟩;obtain⟨row,r⟩:∃row,rows[i]?=some row:=⟨rows[i]'g,gE g⟩;have n:=(s i vs row f r).length;rw[q row (List.mem_of_getElem? r)] at n;have l:vs[j]?=some vs[j]:=gE om;have:=v i vs f j _ l;rw[this];simp[gG,f,l]
 .obtain⟨vs,f⟩:∃vs,a[i]?=some vs:=⟨a[i]'(by have:=(List.getElem?_eq_some_iff.1 g).1;omega),gE (by have:=(List.getElem?_eq_some_iff.1 g).1;omega)⟩;have p:=s i vs row f g;have n:=p.length;have y:=(List.getElem?_eq_some_iff.1 m).1;have l:vs[j]?=some vs[j]:=gE om;have:=p.get l m;simpa[gG,f,l] using this
def ada {len d size:Nat} {rows:List (List C)} (h:cw L w (.slice (some ⟨b,off,none⟩) len d) (.sl size rows)) (i:Nat) (u:i<=len) (a:Option Addr) 
  (p:i<d->a=some ⟨b,off+i*size,none⟩) (e:i=d->a=some ⟨b,off,none⟩):cw L w (.slice a (len-i)<|d-i) (.sl size<|rows.drop i):=by
 cases h with
 |nil=>rw[List.drop_nil,show i=0 from by omega];exact .nil _ _ _
 |sl b off len d size rows f q _ hb o r t s=>
  by_cases g:i<d
  .rw[p g];refine .sl b (off+i*size) (len-i) (d-i) size (rows.drop i) (λk j=>f (i+k) j) (by simp[q]) om hb o (λrow n=>r row<|List.mem_of_mem_drop n) (λk j hk l=>?_) λk j row c hk l=>?_
   .have:=t (i+k) j om l;rw[<-this];congr 2;rw[Nat.add_mul];omega
   .exact s (i+k) j row c (by simpa using hk) l
  .have:i=d:=by omega
   subst this;rw[e rfl];have m:len=i:=by omega
   have n:rows.drop i=[]:=by apply List.drop_of_length_le;omega
   rw[n];have:=cw.sl (L:=L) (w:=w) b off 0 0 size [] f rfl (lR _) hb o sm om sm;simpa[m] using this
def jT (w:World) (T:TypeId) (d:Nat) (v:Value) (g:Option Nat) (n:Nat) (e:List Value):Prop:=
 e.length=n*d/\
 ((v= .slice none 0 0/\n=0/\g=none)\/
  ∃b a c,g=some b/\v= .slice (some ⟨b,0,none⟩) n a/\aL w b c T/\n<=a/\a<=maxLen/\c.size=a*d/\c.toList.take (n*d)=e)
theorem jT.nil (w:World) (T:TypeId) (a:Nat):jT w T a (.slice none 0 0) none 0 []:=by grind [jT]
def jT.aG {T:TypeId} (h:jT w T sz v g n xs) (k:ak L w w') (d:∀b,g=some b->b∉L):jT w' T sz v g n xs:=by
 refine⟨h.1,?_⟩;rcases h.2 with h|⟨b,a,c,e,f,hb,r⟩
 .exact .inl h
 .exact .inr ⟨b,a,c,e,f,hb.aG k<|d b e,r⟩
theorem jT.lt {T:TypeId} (h:jT w T sz v g n xs):∀b,g=some b->b<w.heap.size:=by
 intro b e;rcases h.2 with⟨_,_,h⟩|⟨b',cap,cur,e',hv,hb,r⟩
 .rw[e] at h;cases h
 .rw[e] at e';cases e';exact hb.lt
theorem jT.len {T:TypeId} (h:jT w T sz v g n xs):∃a b,v= .slice a n b:=by grind [jT]
section
variable {P:Program} {w:World}
def Uf {t ty T:TypeId} {i:TypeInfo} {D bytes:Nat} (J:P.underlying t=some (.slice T)) (I:P.info? T=some i) (O:i.zero=some z) 
  (R:i.size=D) (ic:i.bytes=bytes) (xm:z.cells.size=D)
  {v:Value} {g:Option Nat} {n:Nat} {p:List Value} (B:jT w T D v g n p)
  (r d m c:Nat) (a:List Value) (s:a.length=m*D) (S:gj w r d a) (V:∀u∈a,u.oneCell'=true) (X:0<m)
  (M:n+m<=maxLen) (L:(n+m)*bytes<=140737488355328):
  ∃Q H w',(Builtin.append_ #[t,t] ty #[v,.slice (some ⟨r,d,none⟩) m c]).run P w= .ok Q w'/\jT w' T D Q H (n+m) (p++a)/\
   ((H=g/\ak g.toList w w'/\∀b,g=some b->∃e U,aL w b e U/\(n+m)*i.size<=e.size)\/(H=some w.heap.size/\ak [] w w')):=by
 subst R;subst ic;have Oz:n+m<=9223372036854775807:=by simp only[maxLen] at M;omega
 have f:(p++a).length=(n+m)*i.size:=by rw[lA,B.1,s,Nat.add_mul]
 have N:∀b o j:Nat,(⟨b,o,none⟩:Addr).add j=⟨b,o+j,none⟩:=λb o j=>by unfold Addr.add;split<;>simp_all
 have F:∀j u,a[j]?=some u->w.cell? ((⟨r,d,none⟩:Addr).add j)=some u:=λj u y=>by rw[N];exact S j u y
 have l:∀(old:Nat),old<n+m->
   jT (w.drew.alloc<|.cells (p.toArray++a.toArray++Builtin.zeroCells z.cells (grownCap w (n+m) old T-(n+m))) T) T i.size
    (.slice (some ⟨w.heap.size,0,none⟩) (n+m)<|grownCap w (n+m) old T) (some w.heap.size) (n+m) (p++a)/\
   ak [] w (w.drew.alloc<|.cells (p.toArray++a.toArray++Builtin.zeroCells z.cells (grownCap w (n+m) old T-(n+m))) T):=by
  intro old _;have tX:=grownCap_ge w (n+m) old T;have K:grownCap w (n+m) old T<=maxLen:=grownCap_le_maxLen w (n+m) old T M;refine⟨⟨f,.inr ⟨w.heap.size,_,_,rfl,rfl,heap_alloc_new w.drew _,tX,K,?_,?_⟩⟩,⟨rfl,rfl,rfl,sm,λk hk _=>(ak.alloc [] w.drew _).block k hk sm⟩⟩
  .simp only[Array.size_append,List.size_toArray,size_zeroCells,xm,B.1,s,<-Nat.add_mul]
   congr 1
   omega
  .simp only[Array.toList_append,List.append_assoc];rw[<-List.append_assoc,<-f];exact List.take_left
 rcases B.2 with⟨rfl,rfl,rfl⟩|⟨b,cap,e,rfl,rfl,hb,pW,K,cO,Ab⟩
 .have Y:p=[]:=List.eq_nil_of_length_eq_zero (by simpa using B.1);subst Y;have C:=run_append_nil (P:=P) w t ty T i z J I O ⟨r,d,none⟩ m c a s F X om (by have hb:=L;simp only[Nat.zero_add] at hb;omega);have A:=l 0 om;simp only[Nat.zero_add,List.nil_append,Array.empty_append] at A⊢;exact⟨_,_,_,C,A.1,.inr ⟨rfl,A.2⟩⟩
 .by_cases E:n+m<=cap
  .have oe:n*i.size+a.length<=e.size:=by rw[s,cO,<-Nat.add_mul];exact Nat.mul_le_mul_right _ E
   have C:=run_append_room (P:=P) w t ty T i J I b n cap e hb ⟨r,d,none⟩ m c a s F V E oe;refine⟨_,some b,_,C,⟨f,.inr ⟨b,cap,_,rfl,rfl,setRow_heap w b e _ T _ hb,E,K,?_,?_⟩⟩,.inl ⟨rfl,⟨rfl,rfl,rfl,sm,λk _ hk=>setRow_other w b k _<|by simpa using hk⟩,λ_ Z=>?_⟩⟩
   .simp only[List.size_toArray,lA,List.length_take,List.length_drop,Array.length_toList];omega
   .rw[Ab,<-f];exact List.take_left
   .cases Z;refine⟨e,T,hb,?_⟩;rw[cO];exact Nat.mul_le_mul_right _ E
  .have q:∀j u,p[j]?=some u->w.cell? ((⟨b,0,none⟩:Addr).add j)=some u:=λj u y=>by
    rw[N,hb.cell];rw[<-Ab,List.getElem?_take] at y;split at y
    .simpa using y
    .cases y
   have C:=run_append_grow (P:=P) w t ty T i z J I O ⟨b,0,none⟩ n cap p B.1 q ⟨r,d,none⟩ m c a s F om om<|growslice_fits om L;have A:=l cap om;exact⟨_,_,_,C,A.1,.inr ⟨rfl,A.2⟩⟩
def Ug {t ty T:TypeId} {i:TypeInfo} {e bytes:Nat} (H:P.underlying t=some (.slice T)) (B:P.info? T=some i) (I:i.zero=some z) 
  (q:i.size=e) (J:i.bytes=bytes) (K:z.cells.size=e)
  {v:Value} {g:Option Nat} {n:Nat} {o:List Value} (y:jT w T e v g n o)
  (j b m c:Nat) (a:List Value) (C:a.length=m*e) (r:gj w j b a) (A:∀u∈a,u.oneCell'=true) (D:0<m)
  (s:n+m<=maxLen) (p:(n+m)*bytes<=140737488355328):
  ∃f d w',(Builtin.append_ #[t,t] ty #[v,.slice (some ⟨j,b,none⟩) m c]).run P w= .ok f w'/\jT w' T e f d (n+m) (o++a)/\ak g.toList w w'/\
   (d=g\/d=some w.heap.size):=by
 obtain⟨f,d,w',F,E,l⟩:=Uf H B I q J K y j b m c a C r A D s p;exact⟨f,d,w',F,E,l.elim (λh=>h.2.1) λh=>h.2.any,l.imp (λh=>h.1) λh=>h.1⟩
end
structure iU (L:List Nat) (w:World) (T:TypeId) (sz:Nat) (v:Value) (g:Option Nat) (rows:List (List C)) (xs:List Value):Prop where
 own:jT w T sz v g rows.length xs
 rep:dC (g.toList++L) w xs rows.flatten
 row:∀row∈rows,row.length=sz
 out:∀b,g=some b->b∉L
theorem iU.nil (L:List Nat) (w:World) (T:TypeId) (a:Nat):iU L w T a (.slice none 0 0) none [] []:=
 ⟨jT.nil _ _ _,trivial,sm,sm⟩
def iU.aG {T:TypeId} {rows:List (List C)} (h:iU L w T sz v g rows xs) (k:ak L' w w') 
  (c:∀x∈L',x∈L):iU L w' T sz v g rows xs:=
 ⟨h.own.aG k λb e a=>h.out b e<|c b a,h.rep.aG<|k.mono λx a=>by simp[c x a],h.row,h.out⟩
def iU.more {d:List Nat} {T:TypeId} {rows:List (List C)} (h:iU L w T sz v g rows xs) 
  (f:∀x∈d,x∈L\/w.heap.size<=x):iU d w T sz v g rows xs:=
 ⟨h.own,h.rep.fresh (λx a=>by
   rcases mA.1 a with a|a
   .exact .inl<|by simp[a]
   .rcases f x a with c|c
    .exact .inl<|by simp[c]
    .exact .inr c),h.row,λb e a=>by rcases f b a with c|c;exact h.out b e c;have:=h.own.lt b e;omega⟩
theorem iU.len {T:TypeId} {rows:List (List C)} (h:iU L w T sz v g rows xs):∃a b,v= .slice a rows.length b:=h.own.len
def Dt {b:Type}:∀{rows:List (List b)},(∀row∈rows,row.length=sz)->∀{i j:Nat} {row:List b} {c:b},rows[i]?=some row->row[j]?=some c->rows.flatten[i*sz+j]?=some c
 |r::rows,h,0,j,row,c,hi,hj=>by simp only[List.getElem?_cons_zero,Option.some.injEq] at hi;subst hi;simp only[List.flatten_cons,Nat.zero_mul,Nat.zero_add];rw[List.getElem?_append_left (List.getElem?_eq_some_iff.1 hj).1];exact hj
 |r::rows,h,i+1,j,row,c,hi,hj=>by have a:r.length=sz:=h r sm;have:=Dt (rows:=rows) (λrow a=>h row<|by simp[a]) (i:=i) (by simpa using hi) hj;rw[List.flatten_cons,List.getElem?_append_right (by rw[a,Nat.add_mul];omega),a];rw[<-this];congr 1;rw[Nat.add_mul];omega
theorem OB {a:Type}:∀{rows:List (List a)},(∀row∈rows,row.length=sz)->rows.flatten.length=rows.length*sz:=by intro x;induction x<;>grind
def iU.done {T:TypeId} {rows:List (List C)} (h:iU L w T sz v g rows xs):cw L w v (.sl sz rows):=by
 have n:=h.rep.fresh (L':=L) λx p=>.inl (by simp[p]);rcases h.own.2 with⟨rfl,hn,_⟩|⟨b,cap,cur,e,rfl,hb,pW,ry,cO,Ab⟩
 .rw[List.length_eq_zero_iff.1 hn];exact .nil _ _ _
 .have o:=h.own.1;refine .sl b 0 rows.length cap sz rows (λi j=>xs.getD (i*sz+j) undef) rfl pW hb.lt (h.out b e) h.row (λi j f m=>?_) λi j row c f m=>?_
  .have a:i*sz+j<xs.length:=by
    rw[o];have:(i+1)*sz<=rows.length*sz:=Nat.mul_le_mul_right _ f;rw[Nat.add_mul] at this;omega
   rw[Nat.zero_add,hb.cell,gG,gE a];simp only[Option.getD_some];have d:xs[i*sz+j]?=some xs[i*sz+j]:=gE a;rw[<-d,<-Ab,List.getElem?_take,iP (by rw[<-o];exact a)];simp
  .have l:=Dt h.row f m;have a:i*sz+j<xs.length:=by rw[n.length];exact(List.getElem?_eq_some_iff.1 l).1
   have d:xs[i*sz+j]?=some xs[i*sz+j]:=gE a;have:=n.get d l;rw[gG,d];exact this
def iU.app {P:Program} {L:List Nat} {w:World} {t ty T:TypeId} {i:TypeInfo} {j bytes:Nat} (K:P.underlying t=some (.slice T)) (J:P.info? T=some i) (M:i.zero=some z) 
  (A:i.size=j) (N:i.bytes=bytes) (S:z.cells.size=j)
  {v:Value} {g:Option Nat} {rows:List (List C)} {r:List Value} (h:iU L w T j v g rows r)
  (o f m c:Nat) (new:List (List C)) (d:List Value) (s:new.length=m) (R:0<m) (y:∀row∈new,row.length=j) (B:gj w o f d) (E:∀u∈d,u.oneCell'=true)
  (q:dC (g.toList++L) w d new.flatten) (I:∀x∈L,x<w.heap.size)
  (hb:(rows.length+m)*(bytes+1)<=140737488355328):
  ∃n l w',(Builtin.append_ #[t,t] ty #[v,.slice (some ⟨o,f,none⟩) m c]).run P w= .ok n w'/\iU L w' T j n l (rows++new) (r++d)/\ak g.toList w w'/\
   (l=g\/l=some w.heap.size):=by
 have Q:d.length=m*j:=by rw[q.length,OB y,s]
 have U:(rows.length+m)*bytes+(rows.length+m)<=140737488355328:=by rw[Nat.mul_add,Nat.mul_one] at hb;exact hb
 obtain⟨n,l,w',O,D,hk,p⟩:=Ug (P:=P) (w:=w) (ty:=ty) K J M A N S h.own o f m c d Q B E R (by unfold maxLen;omega) om;refine⟨n,l,w',O,⟨by rw[lA,s];exact D,?_,?_,?_⟩,hk,p⟩
 .have F:=(h.rep.append q).aG (hk.mono (L':=g.toList++L) λx a=>by simp[a]);rw[List.flatten_append];have H:dC (g.toList++L) w (r++d) (rows.flatten++new.flatten):=h.rep.append q;rcases p with rfl|rfl
  .exact F
  .exact(H.fresh (L':=(some w.heap.size).toList++(g.toList++L)) (λx a=>by
    rcases mA.1 a with a|a
    .right;simp at a;omega
    .exact .inl a)).aG (hk.mono λx a=>by simp[a]) |>.fresh (λx a=>.inl (by
    rcases mA.1 a with a|a
    .exact List.mem_append_left _ a
    .exact mR _<|mR _ a))
 .intro row a;rcases mA.1 a with a|a
  .exact h.row row a
  .exact y row a
 .intro b e a;rcases p with rfl|rfl
  .exact h.out b e a
  .have:=I b a;simp at e;omega
def gate (c:Array Oper) (e:Env):Option (Nat×Bool)->Bool
 |none=>true
 |some (j,a)=>match(c.toList[j]?).bind (·.dst) with
  |some t=>match e t with
   | .bool b=>b==a
   |_=>false
  |none=>false
theorem F2 {e:Env} {a:Act} (h:Fits n e a) (o:Oper):Region.wanted o (yielded ops a.tmps)=gate ops e o.guard:=by
 unfold Region.wanted gate;cases l:o.guard with
 |none=>rfl
 |some p=>
  obtain⟨j,c⟩:=p;simp only[yielded];have g:ops.toList[j]?=ops[j]?:=by simp
  rw[g];cases i:(ops[j]?).bind (·.dst) with
  |none=>cases c<;>rfl
  |some t=>
   simp only[Option.bind_some];have d:=h.get t;rw[Array.getD_eq_getD_getElem?] at d;cases f:a.tmps[t]? with
   |none=>rw[f] at d;simp only[Option.getD_none] at d;rw[<-d];cases c<;>simp[undef]
   |some v=>rw[f] at d;simp only[Option.getD_some] at d;rw[<-d];cases v<;>cases c<;>first|rfl|(rename_i b;cases b<;>rfl)
section
variable {P:Program} {n:Nat} {ops:Array Oper} {K:Env->World->Prop} {rest:List Oper} {e:Env} {w w':World}
 {dst:Option Nat} {ty:TypeId} {pos:String} {after:Array Edge} {g:Option (Nat×Bool)}
def aX (h:K e w):OW P n ops K [] e w:=λ_ a _=>⟨e,a,h⟩
def fY {op:Op} (d:gate ops e g=true) (c:cN n dst=true) (f:(execOp (ev e) ⟨dst,op,ty,pos,after,g⟩).run P w= .ok (.value v) w') 
  (k:OW P n ops K rest (cC e dst v) w'):OW P n ops K (⟨dst,op,ty,pos,after,g⟩::rest) e w:=λa b Q=>by
 unfold wpList;rw[iP (by rw[F2 b];exact d)];refine .inl ?_;unfold Oper.wp;rw[b.eval,f,Oper.upon_value];exact k _ (b.cC c v) Q
def KX {op:Op} (c:gate ops e g=true) (f:(execOp (ev e) ⟨none,op,ty,pos,after,g⟩).run P w= .ok .skip w') 
  (k:OW P n ops K rest e w'):OW P n ops K (⟨none,op,ty,pos,after,g⟩::rest) e w:=λa b Q=>by
 unfold wpList;rw[iP (by rw[F2 b];exact c)];refine .inl ?_;unfold Oper.wp;rw[b.eval,f,Oper.upon_skip];exact k _ (b.cC (d:=none) rfl undef) Q
def OC {op:Op} (d:gate ops e g=false) (c:cN n dst=true) (k:OW P n ops K rest (cC e dst undef) w):OW P n ops K (⟨dst,op,ty,pos,after,g⟩::rest) e w:=λa b Q=>by unfold wpList;rw[iN (by rw[F2 b];simp[d])];exact k _ (b.cC c undef) Q
def cU {op:Op} (k:OW P n ops K rest (cC e dst undef) w) (b:gate ops e g=false:=by rfl) (a:cN n dst=true:=by rfl):OW P n ops K (⟨dst,op,ty,pos,after,g⟩::rest) e w:=OC b a k
theorem OD {a:List Value} (h:se P f):(callFunc f a.toArray).run P w= .ok (.enter f a.toArray) w:=by
 obtain⟨fn,c,hb,d⟩:=h;have b:¬fn.name= "runtime.NumGoroutine":=by simpa using d
 have e:¬fn.body=none:=by intro h;simp[h] at hb
 simp[callFunc,c,e,b]
def adg {c:List Operand} {b:Array TypeId} (j:gate ops e g=true) (i:cN n dst=true) (h:bC P f (c.map<|ev e) w S) 
  (k:∀v w',S v w'->OW P n ops K rest (cC e dst v) w'):OW P n ops K (⟨dst,.call {callee:=.value<|.func f,args:=c.toArray,argTypes:=b},ty,pos,after,g⟩::rest) e w:=λa d Q=>by
 unfold wpList;rw[iP (by rw[F2 d];exact j)];refine .inl ?_;unfold Oper.wp;have o:(execOp (ev e) ⟨dst,.call {callee:=.value<|.func f,args:=c.toArray,argTypes:=b},ty,pos,after,g⟩).run P w= .ok (.enter f (c.map<|ev e).toArray) w:=by simp only[execOp,resolve,ev,Deferred.ofValue,Sem.run_bind,Sem.run_pure,Result.andThen_ok,invoke];simp[OD h.1]
 rw[d.eval,o,Oper.upon_enter];exact Calls.mono h.2 λx w' ⟨v,m,l⟩=>by subst m;exact k v w' l _ (d.cC i v) Q
def aA {b:List Operand} {a:Array TypeId} (h:bC P f (b.map<|ev e) w S) (k:∀v w',S v w'->OW P n ops K rest (cC e dst v) w') (d:gate ops e g=true:=by rfl) (c:cN n dst=true:=by rfl):OW P n ops K (⟨dst,.call {callee:=.value<|.func f,args:=b.toArray,argTypes:=a},ty,pos,after,g⟩::rest) e w:=adg d c h k
def adh (b:gate ops e g=true) (a:cN n dst=true) (k:OW P n ops K rest (cC e dst<|ev e x) w):OW P n ops K (⟨dst,.move x,ty,pos,after,g⟩::rest) e w:=
 fY b a (by simp[execOp]) k
def adi (b:gate ops e g=true) (a:cN n dst=true) (k:OW P n ops K rest (cC e dst<|ev e x) w):OW P n ops K (⟨dst,.assign x,ty,pos,after,g⟩::rest) e w:=
 fY b a (by simp[execOp]) k
def Uh {c:Operand} {t:Bool} (d:gate ops e g=true) (b:cN n dst=true) (a:ev e c= .bool t) (k:OW P n ops K rest (cC e dst<|bif t then ev e x else ev e y) w):
  OW P n ops K (⟨dst,.pick c x y,ty,pos,after,g⟩::rest) e w:=
 fY d b (by cases t<;>simp[execOp,a,asBool]) k
def HY {a:Addr} (c:gate ops e g=true) (b:cN n dst=true) (d:ev e x= .pointer (some a)) (k:OW P n ops K rest (cC e dst (.pointer<|some a)) w):
  OW P n ops K (⟨dst,.nilCheck x,ty,pos,after,g⟩::rest) e w:=
 fY c b (by simp[execOp,d]) k
/-! ### sf blocks -/
def Ui {T:TypeId} {a:Array Value} (c:gate ops e g=true) (b:cN n dst=true) (d:(ev e x).cells=a) 
  (k:∀w',ak [] w w'->aL w' w.heap.size a T->w'.heap.size=w.heap.size+1->OW P n ops K rest (cC e dst (.pointer<|some ⟨w.heap.size,0,none⟩)) w'):
  OW P n ops K (⟨dst,.box T x,ty,pos,after,g⟩::rest) e w:=
 fY c b (w':=w.alloc<|.cells a T) (by simp[execOp,Instr.box,newVar,newRow,d]) (k _ (ak.alloc _ _ _) (aL.alloc _ _ _) sm)
def TI (P:Program) (T:TypeId) (a bytes:Nat) (z:Value):Prop:=(P.info? T).map (λi=>(i.zero,i.size,i.bytes))=some (some z,a,bytes)
theorem TI.get {T:TypeId} (h:TI P T sz bytes z):∃i,P.info? T=some i/\i.zero=some z/\i.size=sz/\i.bytes=bytes:=by
 unfold TI at h;cases a:P.info? T with
 |none=>simp[a] at h
 |some i=>simp[a] at h;exact⟨i,rfl,h.1,h.2.1,h.2.2⟩
theorem TI.uR {T:TypeId} (h:TI P T sz bytes z) (w:World):(sizeOf T).run P w= .ok sz w:=by obtain⟨i,a,_,b,hb⟩:=h.get;simp[sizeOf,typeInfo,a,b]
theorem TI.OE {T:TypeId} (h:TI P T sz bytes z) (w:World):(zeroValue T).run P w= .ok z w:=by obtain⟨i,a,b,_,hb⟩:=h.get;simp[zeroValue,typeInfo,a,b]
def adj {T:TypeId} {a:Array Value} (b:TI P T sz bytes z) (d:gate ops e g=true) (c:cN n dst=true) (f:z.cells=a) 
  (k:∀w',ak [] w w'->aL w' w.heap.size a T->w'.heap.size=w.heap.size+1->OW P n ops K rest (cC e dst (.pointer<|some ⟨w.heap.size,0,none⟩)) w'):
  OW P n ops K (⟨dst,.alloc T,ty,pos,after,g⟩::rest) e w:=
 fY d c (w':=w.alloc<|.cells a T) (by simp[execOp,Instr.alloc,b.OE,newVar,newRow,f]) (k _ (ak.alloc _ _ _) (aL.alloc _ _ _) sm)
/-! ### Addresses,loads,stores -/
def rz (P:Program) (T:TypeId):Bool:=match P.underlying T with
 |some (.struct _)|some (.array _ _)|none=>false
 |_=>true
theorem adk {T:TypeId} (h:rz P T=true) (w:World):(isAgg T).run P w= .ok false w:=by
 unfold rz at h;cases a:P.underlying T with
 |none=>simp[a] at h
 |some d=>cases d<;>simp[a] at h<;>simp[isAgg,underlying,a]
def uS (P:Program) (T:TypeId):Bool:=match P.underlying T with
 |some (.struct _)|some (.array _ _)=>true
 |_=>false
theorem Uj {T:TypeId} (h:uS P T=true) (w:World):(isAgg T).run P w= .ok true w:=by
 unfold uS at h;cases a:P.underlying T with
 |none=>simp[a] at h
 |some d=>cases d<;>simp[a] at h<;>simp[isAgg,underlying,a]
theorem xo (b o j:Nat):(⟨b,o,none⟩:Addr).add j=⟨b,o+j,none⟩:=by unfold Addr.add;split<;>simp_all
def adl {T:TypeId} {a:Addr} (b:rz P T=true) (f:gate ops e g=true) (d:cN n dst=true) (i:ev e x= .pointer (some a)) (c:w.cell? a=some v) 
  (k:OW P n ops K rest (cC e dst v) w):OW P n ops K (⟨dst,.load T x,ty,pos,after,g⟩::rest) e w:=
 fY f d (by simp[execOp,Instr.loadAt,Instr.sureAddr,i,loadVar,adk b,c]) k
def adm {T:TypeId} {x:Operand} {b o:Nat} {a:List Value} (c:uS P T=true) (q:TI P T sz bytes z) (i:gate ops e g=true) (f:cN n dst=true) 
  (p:ev e x= .pointer (some ⟨b,o,none⟩)) (d:gj w b o a) (l:a.length=sz)
  (k:OW P n ops K rest (cC e dst<|.agg a.toArray) w):OW P n ops K (⟨dst,.load T x,ty,pos,after,g⟩::rest) e w:=
 fY i f (by have:=run_loadCells_list (P:=P) w ⟨b,o,none⟩ a (λj v m=>by rw[xo];exact d j v m);rw[l] at this;simp[execOp,Instr.loadAt,Instr.sureAddr,p,loadVar,Uj c,q.uR,this]) k
def adn {u:Value} (a:v.oneCell'=true) (c:w.cell? ⟨b,o,none⟩=some u) (d:w.frozen? ⟨b,o,none⟩=false):(storeCells ⟨b,o,none⟩ [v]).run P w= .ok () (w.setCell ⟨b,o,none⟩ v):=by simp[storeCells,xo,run_store P w _ v _ a,c,d]
theorem OF {T:TypeId} {x y:Operand} {b o:Nat} {v:Value} {a:Array Value} {U:TypeId} (q:TI P T sz bytes z) (d:sz=1) (i:gate ops e g=true) 
  (m:ev e x= .pointer (some ⟨b,o,none⟩)) (p:ev e y=v) (c:v.oneCell'=true) (hb:aL w b a U) (j:o<a.size)
  (k:∀w',ak [b] w w'->aL w' b (a.setIfInBounds o v) U->w'.heap.size=w.heap.size->OW P n ops K rest e w'):OW P n ops K (⟨none,.store T x y,ty,pos,after,g⟩::rest) e w:=
 KX i (w':=w.setCell ⟨b,o,none⟩ v) (by
  have f:v.cells=#[v]:=by cases v<;>first|rfl|(simp[Value.oneCell'] at c)
  have l:=adn (P:=P) (w:=w) (b:=b) (o:=o) (v:=v) (u:=a[o]) c (by rw[hb.cell,Array.getElem?_eq_getElem j])<|hb.frozen o;subst d;simp[execOp,Instr.storeAt,Instr.sureAddr,m,p,storeVar,f,q.uR,l]) (k _ (ak.setCell _ _ _ _) (hb.set o v)<|by simp[World.setCell])
def Uk:∀(vs:List Value) (i:Nat) (pre:List Value) (w:World) (b:Nat) (U:TypeId) (a:Array Value),aL w b a U->a.size=pre.length+vs.length->i=pre.length->a.toList.take i=pre->(∀u∈vs,u.oneCell'=true)->
  ∃w',(storeCells ⟨b,0,none⟩ vs i).run P w= .ok () w'/\ak [b] w w'/\aL w' b (pre++vs).toArray U/\w'.heap.size=w.heap.size
 |[],i,pre,w,b,U,a,hb,c,g,d,_=>by
  refine⟨w,rfl,ak.refl _ _,?_,rfl⟩;have:a=(pre++[]).toArray:=by apply Array.ext';simp only[List.append_nil] at*;rw[<-d,List.take_of_length_le (by simp;simp at c;omega)]
  rw[<-this];exact hb
 |v::vs,i,pre,w,b,U,a,hb,c,g,d,h1=>by
  have e:i<a.size:=by simp at c;omega
  have f:(store ((⟨b,0,none⟩:Addr).add i) v).run P w= .ok () (w.setCell ⟨b,i,none⟩ v):=by rw[xo,Nat.zero_add,run_store P w _ v _<|h1 v sm,hb.cell,Array.getElem?_eq_getElem e,hb.frozen];simp
  obtain⟨w',j,hk,n,m⟩:=Uk vs (i+1) (pre++[v]) (w.setCell ⟨b,i,none⟩ v) b U (a.setIfInBounds i v) (hb.set i v) (by simp at c⊢;omega) so
   (by rw[Array.toList_setIfInBounds,List.take_add_one,List.getElem?_set_self<|by simpa using e,List.take_set_of_le<|lR i,d];simp)
   λu l=>h1 u<|by simp[l]
  refine⟨w',?_,(ak.setCell w b i v).trans hk,by simpa using n,by rw[m];simp[World.setCell]⟩;simp only[storeCells,Sem.run_bind,f,Result.andThen_ok];exact j
theorem ado {T:TypeId} {x y:Operand} {b:Nat} {a:List Value} {c:Array Value} {U:TypeId} (q:TI P T sz bytes z) (f:gate ops e g=true) 
  (l:ev e x= .pointer (some ⟨b,0,none⟩)) (m:ev e y= .agg a.toArray) (i:a.length=sz) (d:∀u∈a,u.oneCell'=true) (hb:aL w b c U) (r:c.size=sz)
  (k:∀w',ak [b] w w'->aL w' b a.toArray U->w'.heap.size=w.heap.size->OW P n ops K rest e w'):OW P n ops K (⟨none,.store T x y,ty,pos,after,g⟩::rest) e w:=by
 obtain⟨w',j,hk,p,o⟩:=Uk (P:=P) a 0 [] w b U c hb so rfl sm d;exact KX f (w':=w') (by simp[execOp,Instr.storeAt,Instr.sureAddr,l,m,storeVar,Value.cells,q.uR,i,j])<|k _ hk (by simpa using p) o
def ie (P:Program) (S i:Nat):Option Nat:=match P.underlying S with
 |some (.struct a)=>match a[i]? with
  |some f=>match P.info? f.type with
   |some t=>if t.size=0 then none else some f.offset
   |none=>none
  |none=>none
 |_=>none
theorem adp {S:Nat} (h:ie P S i=some off):(Instr.fieldAt S (.pointer<|some ⟨b,o,none⟩) i).run P w= .ok (.pointer<|some ⟨b,o+off,none⟩) w:=by
 unfold ie at h;cases e:P.underlying S with
 |none=>simp[e] at h
 |some d=>
  cases d<;>simp[e] at h;rename_i j;cases a:j[i]? with
  |none=>simp[a] at h
  |some f=>
   simp only[a] at h;cases c:P.info? f.type with
   |none=>simp[c] at h
   |some t=>
    simp only[c] at h;by_cases g:t.size=0
    .simp[g] at h
    .simp[g] at h;simp[Instr.fieldAt,run_underlying e,a,Instr.sureAddr,fieldPlace,sizeOf,typeInfo,c,g,xo,h]
def Ul {S:Nat} (a:ie P S i=some off) (d:gate ops e g=true) (c:cN n dst=true) (f:ev e x= .pointer (some ⟨b,o,none⟩)) 
  (k:OW P n ops K rest (cC e dst (.pointer<|some ⟨b,o+off,none⟩)) w):OW P n ops K (⟨dst,.fieldAddr S x i,ty,pos,after,g⟩::rest) e w:=
 fY d c (by simp[execOp,f,adp a]) k
def Um {T E:TypeId} {x y:Operand} {b o len a i:Nat} {q:IntKind} (f:P.underlying T=some (.slice E)) (d:TI P E sz bytes z) (l:gate ops e g=true) (j:cN n dst=true) 
  (m:ev e x= .slice (some ⟨b,o,none⟩) len a) (p:ev e y= .int q (i:Int)) (r:i<len)
  (k:OW P n ops K rest (cC e dst (.pointer<|some ⟨b,o+i*sz,none⟩)) w):OW P n ops K (⟨dst,.indexAddr T x y,ty,pos,after,g⟩::rest) e w:=
 fY l j (by
  have c:¬len<=i:=by omega
  simp[execOp,Instr.indexAt,m,p,asIntOf,run_underlying f,c,d.uR,xo]) k
def KY {T E:TypeId} {a:Option Addr} {b:Nat} (hT:P.underlying T=some (.slice E)) (hg:gate ops e g=true) (hd:cN n dst=true) (hx:ev e x= .slice a m b) 
  (k:OW P n ops K rest (cC e dst<|.int .i64 m) w):OW P n ops K (⟨dst,.call {callee:=.builtin .len,args:=#[x],argTypes:=#[T]},ty,pos,after,g⟩::rest) e w:=
 fY hg hd (by simp[execOp,resolve,invoke,builtin,hx,Builtin.len_,run_underlying hT,goInt]) k
def adq {T:TypeId} {s:ByteArray} (a:P.underlying T=some .string) (c:gate ops e g=true) (b:cN n dst=true) (f:ev e x= .string s) (d:s.size=m) 
  (k:OW P n ops K rest (cC e dst<|.int .i64 m) w):OW P n ops K (⟨dst,.call {callee:=.builtin .len,args:=#[x],argTypes:=#[T]},ty,pos,after,g⟩::rest) e w:=
 fY c b (by simp[execOp,resolve,invoke,builtin,f,Builtin.len_,run_underlying a,goInt,d]) k
def Un (b:gate ops e g=true) (a:cN n dst=true) (d:ev e x= .tuple vs.toArray) (c:vs[i]?=some v) 
  (k:OW P n ops K rest (cC e dst v) w):OW P n ops K (⟨dst,.extract x i,ty,pos,after,g⟩::rest) e w:=
 fY b a (by simp[execOp,Instr.extract,d,c]) k
end
abbrev str (l:List UInt8):Value:=.string ⟨l.toArray⟩
section
variable {P:Program} {n:Nat} {ops:Array Oper} {K:Env->World->Prop} {rest:List Oper} {e:Env} {w w':World}
 {dst:Option Nat} {ty:TypeId} {pos:String} {after:Array Edge} {g:Option (Nat×Bool)} {T T':TypeId} {x y:Operand}
def KZ {b:Int} (hg:gate ops e g=true) (hd:cN n dst=true) (hx:ev e x= .int k a) (hy:ev e y= .int k' b) (hk:k=k':=by rfl) 
  (c:OW P n ops K rest (cC e dst<|.bool (decide<|a<b)) w):OW P n ops K (⟨dst,.binOp .lss T x y T',ty,pos,after,g⟩::rest) e w:=
 fY hg hd (by subst hk;cases k<;>simp[execOp,eqGuard,hx,hy,binOp,Op.intCmp]) c
def adr {b:Int} (hg:gate ops e g=true) (hd:cN n dst=true) (hx:ev e x= .int k a) (hy:ev e y= .int k' b) (hk:k=k':=by rfl) 
  (c:OW P n ops K rest (cC e dst<|.bool (decide<|a<=b)) w):OW P n ops K (⟨dst,.binOp .leq T x y T',ty,pos,after,g⟩::rest) e w:=
 fY hg hd (by subst hk;cases k<;>simp[execOp,eqGuard,hx,hy,binOp,Op.intCmp]) c
def HZ {b:Int} (hg:gate ops e g=true) (hd:cN n dst=true) (hx:ev e x= .int k a) (hy:ev e y= .int k' b) (hk:k=k':=by rfl) 
  (c:OW P n ops K rest (cC e dst<|.bool (decide<|b<a)) w):OW P n ops K (⟨dst,.binOp .gtr T x y T',ty,pos,after,g⟩::rest) e w:=
 fY hg hd (by subst hk;cases k<;>simp[execOp,eqGuard,hx,hy,binOp,Op.intCmp]) c
def ads {b:Int} (hg:gate ops e g=true) (hd:cN n dst=true) (hx:ev e x= .int k a) (hy:ev e y= .int k' b) (hk:k=k':=by rfl) 
  (c:OW P n ops K rest (cC e dst<|.bool (decide<|b<=a)) w):OW P n ops K (⟨dst,.binOp .geq T x y T',ty,pos,after,g⟩::rest) e w:=
 fY hg hd (by subst hk;cases k<;>simp[execOp,eqGuard,hx,hy,binOp,Op.intCmp]) c
def yB {b:Int} (hg:gate ops e g=true) (hd:cN n dst=true) (hx:ev e x= .int k a) (hy:ev e y= .int k' b) (hk:k=k':=by rfl) 
  (c:OW P n ops K rest (cC e dst<|.bool (decide<|a=b)) w):OW P n ops K (⟨dst,.binOp .eql T x y T',ty,pos,after,g⟩::rest) e w:=
 fY hg hd (by
  have h:(a==b)=decide (a=b):=by by_cases h:a=b<;>simp[h]
  subst hk;cases k<;>simp[execOp,eqGuard,hx,hy,binOp,Op.intCmp,h]) c
def H0 {b:Int} (hg:gate ops e g=true) (hd:cN n dst=true) (hx:ev e x= .int k a) (hy:ev e y= .int k' b) (hk:k=k':=by rfl) 
  (c:OW P n ops K rest (cC e dst<|.bool (decide<|a≠b)) w):OW P n ops K (⟨dst,.binOp .neq T x y T',ty,pos,after,g⟩::rest) e w:=
 fY hg hd (by
  have h:(a !=b)=decide (a≠b):=by by_cases h:a=b<;>simp[h]
  subst hk;cases k<;>simp[execOp,eqGuard,hx,hy,binOp,Op.intCmp,h]) c
def oU {b c:Int} (hg:gate ops e g=true) (hd:cN n dst=true) (hx:ev e x= .int k a) (hy:ev e y= .int k' b) (hk:k=k':=by rfl) (hc:k.wrap (a+b)=c) 
  (c':OW P n ops K rest (cC e dst<|.int k c) w):OW P n ops K (⟨dst,.binOp .add T x y T',ty,pos,after,g⟩::rest) e w:=
 fY hg hd (by subst hk;cases k<;>simp[execOp,eqGuard,hx,hy,binOp,Op.intArith,hc]) c'
def yC {b c:Int} (hg:gate ops e g=true) (hd:cN n dst=true) (hx:ev e x= .int k a) (hy:ev e y= .int k' b) (hk:k=k':=by rfl) (hc:k.wrap (a-b)=c) 
  (c':OW P n ops K rest (cC e dst<|.int k c) w):OW P n ops K (⟨dst,.binOp .sub T x y T',ty,pos,after,g⟩::rest) e w:=
 fY hg hd (by subst hk;cases k<;>simp[execOp,eqGuard,hx,hy,binOp,Op.intArith,hc]) c'
def H2 {b c:Int} (hg:gate ops e g=true) (hd:cN n dst=true) (hx:ev e x= .int k a) (hy:ev e y= .int k' b) (hk:k=k':=by rfl) (hc:k.wrap (a*b)=c) 
  (c':OW P n ops K rest (cC e dst<|.int k c) w):OW P n ops K (⟨dst,.binOp .mul T x y T',ty,pos,after,g⟩::rest) e w:=
 fY hg hd (by subst hk;cases k<;>simp[execOp,eqGuard,hx,hy,binOp,Op.intArith,hc]) c'
def OG {a:Nat} {c:Int} (l:gate ops e g=true) (j:cN n dst=true) (m:ev e x= .int k (a:Int)) (o:ev e y= .int k' (b:Int)) (hk:k=k':=by rfl) (hb:0<b) (i:k.wrap ((a/b:Nat):Int)=c) 
  (d:OW P n ops K rest (cC e dst<|.int k c) w):OW P n ops K (⟨dst,.binOp .quo T x y T',ty,pos,after,g⟩::rest) e w:=
 fY l j (by
  have f:¬b=0:=by omega
  subst hk;cases k<;>simp[execOp,eqGuard,m,o,binOp,Op.intDiv,f]<;>(try rw[<-i])<;>(try simp)) d
def H3 {a:Nat} (j:gate ops e g=true) (i:cN n dst=true) (l:ev e x= .int k (a:Int)) (m:ev e y= .int k' (b:Int)) (hk:k=k':=by rfl) (hb:0<b) 
  (c:OW P n ops K rest (cC e dst<|.int k ((a%b:Nat):Int)) w):OW P n ops K (⟨dst,.binOp .rem T x y T',ty,pos,after,g⟩::rest) e w:=
 fY j i (by
  have d:¬b=0:=by omega
  have f:(a:Int).tmod (b:Int)=((a:Int)%(b:Int)):=Int.tmod_eq_emod_of_nonneg om;subst hk;cases k<;>simp[execOp,eqGuard,l,m,binOp,Op.intDiv,d,f]) c
def jU {b:Bool} (hg:gate ops e g=true) (hd:cN n dst=true) (hx:ev e x= .bool b) (c:OW P n ops K rest (cC e dst (.bool<|!b)) w):
  OW P n ops K (⟨dst,.unOp .not T x,ty,pos,after,g⟩::rest) e w:=
 fY hg hd (by simp[execOp,Op.unary,hx]) c
def adt {a b:Bool} (hT:P.underlying T=some .bool) (hg:gate ops e g=true) (hd:cN n dst=true) (hx:ev e x= .bool a) (hy:ev e y= .bool b) 
  (c:OW P n ops K rest (cC e dst (.bool<|a==b)) w):OW P n ops K (⟨dst,.binOp .eql T x y T',ty,pos,after,g⟩::rest) e w:=
 fY hg hd (by simp[execOp,eqGuard,hx,hy,run_eql_bool w T a b hT]) c
def adu {a b:Bool} (hT:P.underlying T=some .bool) (hg:gate ops e g=true) (hd:cN n dst=true) (hx:ev e x= .bool a) (hy:ev e y= .bool b) 
  (c:OW P n ops K rest (cC e dst (.bool<|!(a==b))) w):OW P n ops K (⟨dst,.binOp .neq T x y T',ty,pos,after,g⟩::rest) e w:=
 fY hg hd (by simp[execOp,eqGuard,hx,hy,run_neq_bool w T a b hT]) c
/-! ### Strings -/
def Uo {a b:List UInt8} (hg:gate ops e g=true) (hd:cN n dst=true) (hx:ev e x=str a) (hy:ev e y=str b) (hs:a.length+b.length<=9223372036854775807) 
  (c:OW P n ops K rest (cC e dst (str<|a++b)) w):OW P n ops K (⟨dst,.binOp .add T x y T',ty,pos,after,g⟩::rest) e w:=
 fY hg hd (by
  have f:¬(IntKind.i64.max<(a.length:Int)+(b.length:Int)):=by
   have:IntKind.i64.max=9223372036854775807:=by decide
   omega
  have d:(⟨a.toArray⟩:ByteArray)++⟨b.toArray⟩=⟨(a++b).toArray⟩:=by apply ByteArray.ext;simp
  simp[execOp,eqGuard,hx,hy,binOp,Op.stringOp,ByteArray.size,d];omega) c
def jb {a b:List UInt8} (j:ev e x=str a) (l:ev e y=str b) (i:a.length+b.length<=9223372036854775807) (c:OW P n ops K rest (cC e dst (str<|a++b)) w) (f:gate ops e g=true:=by rfl) (d:cN n dst=true:=by rfl):OW P n ops K (⟨dst,.binOp .add T x y T',ty,pos,after,g⟩::rest) e w:=Uo f d j l i c
def BG {a b:List UInt8} (hg:gate ops e g=true) (hd:cN n dst=true) (hx:ev e x=str a) (hy:ev e y=str b) 
  (c:OW P n ops K rest (cC e dst<|.bool (decide<|a=b)) w):OW P n ops K (⟨dst,.binOp .eql T x y T',ty,pos,after,g⟩::rest) e w:=
 fY hg hd (by
  have h:(a==b)=decide (a=b):=by by_cases h:a=b<;>simp[h]
  simp[execOp,eqGuard,hx,hy,binOp,Op.stringOp,h]) c
def OH {a b:List UInt8} (hg:gate ops e g=true) (hd:cN n dst=true) (hx:ev e x=str a) (hy:ev e y=str b) 
  (c:OW P n ops K rest (cC e dst<|.bool (decide<|a≠b)) w):OW P n ops K (⟨dst,.binOp .neq T x y T',ty,pos,after,g⟩::rest) e w:=
 fY hg hd (by
  have h:(a==b)=decide (a=b):=by by_cases h:a=b<;>simp[h]
  simp[execOp,eqGuard,hx,hy,binOp,Op.stringOp,h]) c
def ln {a:List UInt8} {b:UInt8} (j:P.underlying T=some .string) (o:gate ops e g=true) (l:cN n dst=true) (q:ev e x=str a) (r:ev e y= .int k (i:Int)) (p:a[i]?=some b) 
  (c:OW P n ops K rest (cC e dst<|.int .u8 b.toNat) w):OW P n ops K (⟨dst,.index T x y,ty,pos,after,g⟩::rest) e w:=
 fY o l (by
  obtain⟨_,m⟩:=List.getElem?_eq_some_iff.1 p;have d:=run_index_string (P:=P) w T ⟨a.toArray⟩ k (i:Int) j;have f:(⟨a.toArray⟩:ByteArray).size=a.length:=by simp[ByteArray.size]
  rw[dif_pos (by rw[f];omega)] at d;simp only[execOp,q,r,Sem.run_bind,d];simp only[Result.andThen_ok,Sem.run_pure,Int.toNat_natCast];rw[<-m];rfl) c
theorem adv {a:List UInt8} {c b:Option Value} {l h:Nat} (m:P.underlying T=some .string) 
  (d:(c=none/\l=0)\/∃k,c=some (.int k (l:Int))) (e:(b=none/\h=a.length)\/∃k,b=some (.int k (h:Int))) (i:l<=h) (j:h<=a.length):
  (Instr.sliceAt T (str a) c b none).run P w= .ok (str ((a.drop l).take<|h-l)) w:=by
 have f:(⟨a.toArray⟩:ByteArray).extract l h=⟨((a.drop l).take<|h-l).toArray⟩:=ByteArray.extract_mk a l h;have g:(⟨a.toArray⟩:ByteArray).size=a.length:=by simp[ByteArray.size]
 rcases d with⟨rfl,rfl⟩|⟨k,rfl⟩<;>rcases e with⟨rfl,rfl⟩|⟨k',rfl⟩<;>
  simp[Instr.sliceAt,Instr.slice,run_underlying m,Instr.sliceBounds,Instr.sliceBound,asIntOf,g,i,j,f]
def Du {a:List UInt8} {d b:Option Operand} {l h:Nat} (o:P.underlying T=some .string) (q:gate ops e g=true) (p:cN n dst=true) (r:ev e x=str a) 
  (f:(d.map (ev e)=none/\l=0)\/∃k,d.map (ev e)=some (.int k (l:Int))) (i:(b.map (ev e)=none/\h=a.length)\/∃k,b.map (ev e)=some (.int k (h:Int))) (j:l<=h) (m:h<=a.length)
  (c:OW P n ops K rest (cC e dst<|str ((a.drop l).take<|h-l)) w):OW P n ops K (⟨dst,.slice T x d b none,ty,pos,after,g⟩::rest) e w:=
 fY q p (by simp only[execOp,r,Option.map_none,Sem.run_bind,adv o f i j m];rfl) c
def Dv {L:List Nat} {E:TypeId} {j:Operand} {b d len a l:Nat} {k:IntKind} (p:P.underlying T=some (.slice E)) (o:TI P E sz bytes z) (s:gate ops e g=true) (r:cN n dst=true) 
  (t:ev e x= .slice (some ⟨b,d,none⟩) len a) (m:ev e j= .int k (l:Int)) (f:l<=len) {rows:List (List C)} (i:cw L w (.slice (some ⟨b,d,none⟩) len a) (.sl sz rows))
  (c:∀v,cw L w v (.sl sz (rows.drop l))->OW P n ops K rest (cC e dst v) w):OW P n ops K (⟨dst,.slice T x (some j) none none,ty,pos,after,g⟩::rest) e w:=by
 have u:len<=a:=by cases i with|nil=>exact Nat.zero_le _|sl _ _ _ _ _ _ _ f q=>exact q
 refine fY s r (v:=.slice (if a=l then some ⟨b,d,none⟩ else some ⟨b,d+l*sz,none⟩) (len-l)<|a-l) (w':=w) ?_ (c _<|ada i l f _ (λh=>iN om) λh=>iP om);simp[execOp,Instr.sliceAt,Instr.slice,t,m,run_underlying p,Instr.sliceBounds,Instr.sliceBound,asIntOf,f,o.uR,xo]
def Ac {S D:TypeId} {d:TypeDesc} {c:Int} (i:P.underlying S=some d) (f:P.underlying D=some (.int k')) (m:gate ops e g=true) (l:cN n dst=true) (o:ev e x= .int k a) (j:k'.wrap a=c) 
  (b:OW P n ops K rest (cC e dst<|.int k' c) w):OW P n ops K (⟨dst,.convert S D x,ty,pos,after,g⟩::rest) e w:=
 fY m l (by simp[execOp,convert,o,run_underlying i,run_underlying f,Conv.intToInt,j]) b
end
def aL.ext {a:Array Value} {T:TypeId} (h:aL w b a T) (k:ak [] w w'):aL w' b a T:=h.aG k sm
def cw.ext {c:C} (h:cw L w v c) (k:ak [] w w'):cw L w' v c:=h.aG k.any
def ja.ext {a:List C} (h:ja L w v a) (k:ak [] w w'):ja L w' v a:=h.aG k.any
def iU.ext {T:TypeId} {rows:List (List C)} (h:iU L w T sz v g rows xs) (k:ak [] w w'):iU L w' T sz v g rows xs:=h.aG k sm
def ak.ext (h:ak L w0 w) (k:ak [] w w'):ak L w0 w':=h.trans k.any
def gj.ext (h:gj w b off vs) (k:ak [] w w'):gj w' b off vs:=λj v c=>by have a:=h j v c;have hb:b<w.heap.size:=World.block_lt_of_cell? w ⟨b,off+j,none⟩ a;exact(World.cell?_of_block<|k.block b hb sm).trans a
theorem aL.at {T:TypeId} (h:aL w b vs.toArray T) (a:vs[i]?=some v):w.cell? ⟨b,i,none⟩=some v:=by rw[h.cell];simpa using a
theorem aL.all {T:TypeId} (h:aL w b vs.toArray T):gj w b 0 vs:=λj v a=>by rw[Nat.zero_add];exact h.at a
theorem wrap_i64 (x:Int) (a: -9223372036854775808<=x) (b:x<=9223372036854775807):IntKind.i64.wrap x=x:=by simp only[IntKind.wrap,IntKind.bits,IntKind.signed];simp;omega
def wrap_u8 (x:Int) (a:0<=x) (b:x<=255):IntKind.u8.wrap x=x:=by simp only[IntKind.wrap,IntKind.bits,IntKind.signed];simp;omega
theorem wrap_u64 (x:Int) (a:0<=x) (b:x<=18446744073709551615):IntKind.u64.wrap x=x:=by simp only[IntKind.wrap,IntKind.bits,IntKind.signed];simp;omega
section
variable {P:Program} {n:Nat} {ops:Array Oper} {K:Env->World->Prop} {rest:List Oper} {e:Env} {w w':World}
 {dst:Option Nat} {ty:TypeId} {pos:String} {after:Array Edge} {g:Option (Nat×Bool)} {T:TypeId} {x:Operand}
def adw (b:gate ops e g=true) (a:cN n dst=true) (c:ev e x= .agg vs.toArray) 
  (k:∀w',ak [] w w'->aL w' w.heap.size vs.toArray T->w'.heap.size=w.heap.size+1->OW P n ops K rest (cC e dst (.pointer<|some ⟨w.heap.size,0,none⟩)) w'):
  OW P n ops K (⟨dst,.box T x,ty,pos,after,g⟩::rest) e w:=Ui b a (by rw[c];rfl) k
def eH (c:ev e x= .agg vs.toArray) (k:∀w',ak [] w w'->aL w' w.heap.size vs.toArray T->w'.heap.size=w.heap.size+1->OW P n ops K rest (cC e dst (.pointer<|some ⟨w.heap.size,0,none⟩)) w') (b:gate ops e g=true:=by rfl) (a:cN n dst=true:=by rfl):OW P n ops K (⟨dst,.box T x,ty,pos,after,g⟩::rest) e w:=adw b a c k
def OI (b:gate ops e g=true) (a:cN n dst=true) (c:(ev e x).cells=[v].toArray) 
  (k:∀w',ak [] w w'->aL w' w.heap.size [v].toArray T->w'.heap.size=w.heap.size+1->OW P n ops K rest (cC e dst (.pointer<|some ⟨w.heap.size,0,none⟩)) w'):
  OW P n ops K (⟨dst,.box T x,ty,pos,after,g⟩::rest) e w:=Ui b a c k
def dw (a:TI P T sz bytes (.agg vs.toArray)) (c:gate ops e g=true) (b:cN n dst=true) (_:vs=vs) 
  (k:∀w',ak [] w w'->aL w' w.heap.size vs.toArray T->w'.heap.size=w.heap.size+1->OW P n ops K rest (cC e dst (.pointer<|some ⟨w.heap.size,0,none⟩)) w'):
  OW P n ops K (⟨dst,.alloc T,ty,pos,after,g⟩::rest) e w:=adj a c b rfl k
theorem xp (h:e t=v):jz e t v=e:=by grind [rr,KT]
def xq {b:Bool} (d:e t= .bool b) (c:b=true->OW P n ops K l (jz e t<|.bool true) w) (a:b=false->OW P n ops K l (jz e t<|.bool false) w):OW P n ops K l e w:=by cases b<;>grind [xp]
def xr {b:Bool} (a:e t= .bool b) (h:OW P n ops K l (jz e t<|.bool b) w):OW P n ops K l e w:=by rwa [xp a] at h
def aY (D:List Nat) (x e:Env):Env:=λt=>bif D.contains t then x t else e t
def fM (D:List Nat) (e a:Env):Prop:=∀t,D.contains t=false->a t=e t
def BH {e:Env}:fM D e e:=λ_ _=>rfl
def K0 {e a:Env} (b:D.contains d=true) (h:fM D e a):fM D e (jz a d v):=by grind [fM,jz,KT]
def OJ {a:List Nat} {e b x:Env} (c:a.all D.contains=true) (h:fM D e b):fM D e (aY a x b):=by grind [fM,aY]
def au2 [Decidable p] (h:decide p=true):p:=of_decide_eq_true h
def au3 [Decidable p] (h:decide p=false):¬p:=of_decide_eq_false h
def au4 {b:Bool} (h:(!b)=true):b=false:=by simpa using h
def au5 {b:Bool} (h:(!b)=false):b=true:=by simpa using h
theorem Ad {e a:Env} (h:fM D e a):aY D a e=a:=by grind [fM,aY]
def Oper.OK {o:Oper} {a:Act} {w:World} {H g:Act->World->Prop} {Q f:Exit->Act->World->Prop} (h:∀a w,H a w->g a w) 
  (i:∀c a w,Q (.panic c) a w->f (.panic c) a w) (j:LetsOut Q->LetsOut f) (b:o.wp P a w H Q):o.wp P a w g f:=by
 unfold Oper.wp at*;generalize(execOp a.eval o).run P w=r at*;cases r with
 |ok n w'=>
  cases n<;>simp only[Oper.upon] at b⊢<;>
   first
    |exact h _ _ b
    |exact Calls.mono b (λe _ d=>by cases e<;>first|exact h _ _ d|exact i _ _ _ d|exact j d)
    |exact Rows.mono b (λ_ _ d=>h _ _ d)
 |halt x w'=>cases x<;>simp only[Oper.upon] at b⊢<;>first|exact i _ _ _ b|exact b
def OL {N:Env->World->Prop} {g:List Oper} (k:∀c b w',Fits n c b->N c w'->wpList P ops (sd n K Q) g b w'):
  ∀(f:List Oper) (a:Act) (w:World),wpList P ops (sd n N Q) f a w->wpList P ops (sd n K Q) (f++g) a w
 |[],a,w,h=>by simp only[wpList,sd] at h;obtain⟨c,p,q⟩:=h;exact k c a w p q
 |o::l,a,w,h=>by
  have d:LetsOut (sd n N Q)->LetsOut (sd n K Q):=fun⟨a,w,hq⟩=>⟨a,w,hq⟩;simp only[List.cons_append];unfold wpList at h⊢;by_cases e:Region.wanted o (yielded ops a.tmps)=true
  .rw[iP e] at h⊢;rcases h with h|⟨j,m⟩
   .exact .inl<|Oper.OK (λb w' i=>OL k l b w' i) (λ_ _ _ h=>h) d h
   .exact .inr ⟨j,d m⟩
  .rw[iN e] at h⊢;exact OL k l _ w h
def BI {c d:List Oper} {N:Env->World->Prop} (h:OW P n ops N c e w) (k:∀b w',N b w'->OW P n ops K d b w'):OW P n ops K (c++d) e w:=λa g Q=>
 OL (λb f w' i j=>k b w' j f i Q) c a w (h a g Q)
def OM {l:List Oper} (m g i:Nat) (D:List Nat) {c r:Bool} (J:World->Prop) (j:e g= .bool c) 
  (p:c=true->OW P n ops (λa w'=>fM D e a/\a i= .bool r/\J w') (l.take m) (jz e g<|.bool true) w)
  (o:c=false->OW P n ops (λa w'=>fM D e a/\a i= .bool false/\J w') (l.take m) (jz e g<|.bool false) w)
  (k:∀x w',J w'->OW P n ops K (l.drop m) (jz (aY D x e) i (.bool (c&&r))) w'):OW P n ops K l e w:=by
 rw[<-List.take_append_drop m l];cases c with
 |true=>have h:=p rfl;rw[xp j] at h;refine BI h λa w' ⟨b,f,d⟩=>?_;have:=k a w' d;rw[Ad b,Bool.true_and,xp f] at this;exact this
 |false=>have h:=o rfl;rw[xp j] at h;refine BI h λa w' ⟨b,f,d⟩=>?_;have:=k a w' d;rw[Ad b,Bool.false_and,xp f] at this;exact this
def Dw {l:List Oper} (m g i:Nat) (D:List Nat) {c r:Bool} (J:World->Prop) (j:e g= .bool c) 
  (p:c=true->OW P n ops (λa w'=>fM D e a/\a i= .bool true/\J w') (l.take m) (jz e g<|.bool true) w)
  (o:c=false->OW P n ops (λa w'=>fM D e a/\a i= .bool r/\J w') (l.take m) (jz e g<|.bool false) w)
  (k:∀x w',J w'->OW P n ops K (l.drop m) (jz (aY D x e) i (.bool (c||r))) w'):OW P n ops K l e w:=by
 rw[<-List.take_append_drop m l];cases c with
 |true=>have h:=p rfl;rw[xp j] at h;refine BI h λa w' ⟨b,f,d⟩=>?_;have:=k a w' d;rw[Ad b,Bool.true_or,xp f] at this;exact this
 |false=>have h:=o rfl;rw[xp j] at h;refine BI h λa w' ⟨b,f,d⟩=>?_;have:=k a w' d;rw[Ad b,Bool.false_or,xp f] at this;exact this
def adx {a:List UInt8} (hT:P.underlying T=some .string) (hg:gate ops e g=true) (hd:cN n dst=true) (hx:ev e x=str a) 
  (k:OW P n ops K rest (cC e dst<|.int .i64 (a.length:Nat)) w):OW P n ops K (⟨dst,.call {callee:=.builtin .len,args:=#[x],argTypes:=#[T]},ty,pos,after,g⟩::rest) e w:=
 adq hT hg hd hx (by simp[ByteArray.size]) k
def jV {l:List (Nat×Operand)} (hb:(Instr.build T (l.map λp=>(p.1,ev e p.2)).toArray).run P w= .ok v w) (b:gate ops e g=true) (a:cN n dst=true) 
  (k:OW P n ops K rest (cC e dst v) w):OW P n ops K (⟨dst,.build T l.toArray,ty,pos,after,g⟩::rest) e w:=
 fY b a (by simp only[execOp,List.map_toArray,Sem.run_bind,hb];rfl) k
end
def gk {e:Env} {ty:Nat} {T:TypeId} (a:uS P ty=true) (g:TI P ty sz bytes z) (c:e t= .pointer (some ⟨b,0,none⟩)) (hb:aL w b vs.toArray T) (d:vs.length=sz):
  Ue P e t ty (.agg vs.toArray) w:=by
 refine⟨⟨b,0,none⟩,c,?_⟩;have:=run_loadCells_list (P:=P) w ⟨b,0,none⟩ vs (λj v f=>by rw[xo];exact hb.all j v f);rw[d] at this;simp[loadVar,Uj a,g.uR,this]
def zZ:Nat->List Value->List (Nat×Value)
 |_,[]=>[]
 |k,v::l=>(k,v)::zZ (k+1) l
def mg {e a:Env} {q:Prop} (b:p) (c:q) (h:fM D e a:=by repeat(first|with_reducible exact BH|refine K0 rfl ?_|refine OJ rfl ?_)):fM D e a/\p/\q:=⟨h,b,c⟩
def dn {q r:Prop} (a:p) (b:q) (c:r:=by first|exact uT|exact BH):p/\q/\r:=⟨a,b,c⟩
def pY (F:List (Value->World->Prop)) (i:Nat):Value->World->Prop:=F.getD i λ_ _=>True
def H5 (F:List (Value->World->Prop)) (a:Nat->Value) (w:World):List Nat->Prop
 |[]=>True
 |[j]=>pY F j (a j) w
 |j::r=>pY F j (a j) w/\H5 F a w r
def ady {a:Nat->Value}:∀{l:List Nat},(∀j∈l,pY F j (a j) w)->H5 F a w l:=by intro x;induction x<;>grind [pY,H5]
def xu (a:List Nat) (b:Nat->Value):List Nat->List (Nat×Value)
 |[]=>[]
 |j::r=>(a.getD j 0,b j)::xu a b r
structure Kept (KK:World->World->Prop):Prop where
 refl:∀w,KK w w
 trans:∀{a b c},KK a b->KK b c->KK a c
 of:∀{a b},ak [] a b->KK a b
def bA:Kept (ak []):=⟨ak.refl _,ak.trans,id⟩
def KS (b:Nat) (c:List Value) (T:TypeId) (w d:World):Prop:=ak [b] w d/\(aL w b c.toArray T->aL d b c.toArray T)/\
 ((∃a:List Value,a.length=c.length/\aL w b a.toArray T)->∃a:List Value,a.length=c.length/\aL d b a.toArray T)
def Dx (b:Nat) (a:List Value) (T:TypeId):Kept (KS b a T):=
 ⟨λ_=>⟨ak.refl _ _,id,id⟩,λh k=>⟨h.1.trans k.1,λx=>k.2.1<|h.2.1 x,λx=>k.2.2<|h.2.2 x⟩,
  λh=>⟨h.any,λx=>x.aG h sm,fun⟨us,hl,x⟩=>⟨us,hl,x.aG h sm⟩⟩⟩
def qz (a:World->World->Prop):List (Value->World->Prop)->Prop
 |[]=>True
 |f::r=>(∀v w w',f v w->a w w'->f v w')/\qz a r
def Up {b:World->World->Prop}:∀{F:List (Value->World->Prop)},qz b F->∀f∈F,∀v w w',f v w->b w w'->f v w'
 |[],_,_,h=>by cases h
 |g::r,h,f,a=>by
  rcases mC.1 a with rfl|a
  .exact h.1
  .exact Up h.2 f a
def bF {a:World->World->Prop} {V:Value} (h:qz a r):qz a ((λv _=>v=V)::r):=⟨λ_ _ _ h _=>h,h⟩
def oh {a:World->World->Prop} {c:Prop} {V:Value} (h:qz a r):qz a ((λv _=>c->v=V)::r):=⟨λ_ _ _ h _=>h,h⟩
def K1 {a:World->World->Prop} (h:qz a r):qz a ((λ_ _=>True)::r):=⟨λ_ _ _ h _=>h,h⟩
def Dy {a:List Value} {T:TypeId} (h:qz (KS b a T) r):qz (KS b a T) ((λ_ w=>aL w b a.toArray T)::r):=⟨λ_ _ _ h k=>k.2.1 h,h⟩
def mH {a:World->World->Prop} {f:Value->World->Prop} (b:∀v w w',f v w->a w w'->f v w') (h:qz a r):qz a (f::r):=⟨b,h⟩
def uT {e:Env}:fM [d] e (cC e (some d) v):=K0 sm BH
def OO (d:World->World->Prop) (P:Program) (n:Nat) (c:Array Oper) (W b:List Nat) (F:List (Value->World->Prop)) (g:Env) (i:World) (k:Nat) (o:Oper) (a:List Nat):Prop:=
 ∀(x:Env) (vs:Nat->Value) (w:World) (e:Env),d i w->H5 F vs w a->e=bf (aY W x g) (xu b vs a)->
  OW P n c (λf w'=>d w w'/\pY F k (f<|b.getD k 0) w'/\fM [b.getD k 0] e f) [o] e w
def vX (b:World->World->Prop) (P:Program) (n:Nat) (a:Array Oper) (W c:List Nat) (F:List (Value->World->Prop)) (e:Env) (f:World):Nat->List Oper->List (List Nat)->Prop
 |_,[],_=>True
 |_,_::_,[]=>True
 |k,o::l,d::r=>OO b P n a W c F e f k o d/\vX b P n a W c F e f (k+1) l r
def waits (o:Oper) (j:Nat):Bool:=o.after.toList.any λe=>Region.binds .any e&&e.on==j
def vY (l:List Oper) (m:Nat) (W b:List Nat) (a:List (List Nat)):Bool:=
 decide (m<=l.length)&&decide (b.length=m)&&decide (a.length=m)&&decide (b.Nodup)&&
 (List.range l.length).all (λk=>match l[k]? with
  |some o=>o.after.toList.all (λe=>!Region.binds .any e||decide (e.on<k))&&
   (if k<m then W.contains (b.getD k 0)&&(a.getD k []).all (λj=>waits o j&&decide (j<m)) else(List.range k).all (λj=>(List.range<|k+1).any λx=>decide (j<x)&&(match l[x]? with|some c=>waits c j|none=>false)))
  |none=>false)
def eN {b:World->World->Prop} {P:Program} {n:Nat} {a:Array Oper} {W c:List Nat} {F:List (Value->World->Prop)} {e:Env} {f:World} {k:Nat} {o:Oper} {l:List Oper} {d:List Nat} {r:List (List Nat)} 
  (h:OO b P n a W c F e f k o d) (g:vX b P n a W c F e f (k+1) l r):vX b P n a W c F e f k (o::l) (d::r):=⟨h,g⟩
def Uq {c:World->World->Prop} {W e:List Nat} {f:Env}:∀(l:List Oper) (a:List (List Nat)) (k:Nat),vX c P n ops W e F f w0 k l a->
  ∀(i:Nat) (o:Oper) (d:List Nat),l[i]?=some o->a[i]?=some d->OO c P n ops W e F f w0 (k+i) o d
 |[],_,_,_,i,o,d,b,_=>by simp at b
 |_::_,[],_,_,i,o,d,_,hd=>by simp at hd
 |o'::l,d'::r,k,h,i,o,d,b,hd=>by
  cases i with
  |zero=>simp at b hd;subst b;subst hd;exact h.1
  |succ i=>have:=Uq l r (k+1) h.2 i o d (by simpa using b) (by simpa using hd);rw[show k+1+i=k+(i+1) from by omega] at this;exact this
theorem H6 {e:Env}:∀{l:List (Nat×Value)},(∀p∈l,e p.1=p.2)->bf e l=e
 |[],_=>rfl
 |p::r,h=>by simp only[bf,H6 (e:=e) (l:=r) λq a=>h q (by simp[a])];exact xp<|h p sm
def adz {a:World->World->Prop} (c:∀f∈F,∀v w w',f v w->a w w'->f v w') (i:Nat) (h:pY F i v w) (k:a w w'):pY F i v w':=by
 unfold pY at*;rw[gG] at*;cases b:F[i]? with
 |none=>simp
 |some f=>simp only[b,Option.getD_some] at h⊢;exact c f (List.mem_of_getElem? b) v w w' h k
section
variable {P:Program} {n:Nat} {l:List Oper} {m:Nat} {W ds:List Nat} {deps:List (List Nat)}
def H7 (f:vY l m W ds deps=true):m<=l.length/\ds.length=m/\deps.length=m/\ds.Nodup/\
  ∀k o,l[k]?=some o->(∀e∈o.after,Region.binds .any e=true->e.on<k)/\
   (k<m->W.contains (ds.getD k 0)=true/\∀j∈deps.getD k [],waits o j=true/\j<m)/\(m<=k->∀j,j<k->∃x b,j<x/\x<=k/\l[x]?=some b/\waits b j=true):=by
 simp only[vY,aE,dE] at f;obtain⟨⟨⟨⟨i,n⟩,p⟩,q⟩,r⟩:=f;refine⟨i,n,p,q,λk o hk=>?_⟩;have v:k<l.length:=(List.getElem?_eq_some_iff.1 hk).1;have:=List.all_eq_true.1 r k<|List.mem_range.2 v;simp only[hk,aE] at this;obtain⟨s,hb⟩:=this;refine⟨λe t y=>?_,λg=>?_,λ_ j c=>?_⟩
 .have:=List.all_eq_true.1 s e (by simpa using t);simpa[y] using this
 .rw[iP g] at hb;simp only[aE,List.all_eq_true,dE] at hb;exact⟨hb.1,λj c=>hb.2 j c⟩
 .rw[iN om] at hb;have:=List.all_eq_true.1 hb j<|List.mem_range.2 c;obtain⟨x,u,a⟩:=List.any_eq_true.1 this;rw[List.mem_range] at u;simp only[aE,dE] at a;cases d:l[x]? with
  |none=>rw[d] at a;cases a.2
  |some b=>rw[d] at a;exact⟨x,b,a.1,om,d,a.2⟩
def K2 {o:Oper} (h:waits o j=true):∃e∈o.after,Region.binds .any e=true/\e.on=j:=by grind [waits]
def K3 (l:List Oper) (a:Array Bool):Prop:=∀j o,l[j]?=some o->a.getD j false=true->∀e∈o.after,Region.binds .any e=true->a.getD e.on false=true
def OP {k:Nat} {o:Oper} {a:Array Bool} (t:K3 l a) (m:l[k]?=some o) (n:∀e∈o.after,Region.binds .any e=true->a.getD e.on false=true) 
  (p:∀j,j<k->∃x b,j<x/\x<=k/\l[x]?=some b/\waits b j=true):∀d j,j+d=k->0<d->a.getD j false=true:=by
 intro d;induction d using Nat.strongRecOn with
 |_ d r=>
  intro j _ _;obtain⟨x,b,_,_,c,i⟩:=p j om;obtain⟨e,f,hb,g⟩:=K2 i;rcases Nat.lt_or_ge x k with q|q
  .have:=r (k-x) om x om om;rw[<-g];exact t x b c this e f hb
  .have s:x=k:=by omega
   subst s;rw[m] at c;cases c;rw[<-g];exact n e f hb
def K4 (O:vY l m W ds deps=true) {Q:Exit->Act->World->Prop}:∀(c k:Nat) (b:Array Bool) (a:Act) (w:World),m<=k->k+c=l.length->b.size=l.length->
  (∀j,j<l.length->(b.getD j true=false↔k<=j))->wpList P l.toArray Q (l.drop k) a w->wpAny P .any l.toArray Q c b a w:=by
 obtain⟨_,_,_,_,B⟩:=H7 O;intro c;induction c with
 |zero=>
  intro k b a w K hk y g h;have p:k=l.length:=by omega
  refine⟨?_,?_⟩
  .cases v:Region.ready .any l.toArray b with
   |nil=>rfl
   |cons i _=>
    have r:i∈Region.ready .any l.toArray b:=by rw[v];simp
    obtain⟨z,o,d,_⟩:=mem_ready.1 r;have A:i<l.length:=by simpa using(Array.getElem?_eq_some_iff.1 d).1
    have:=(g i A).1 z;omega
  .rw[p,List.drop_length] at h;exact h
 |succ c H=>
  intro k b a w K hk y g h;have p:k<l.length:=by omega
  obtain⟨o,d⟩:∃o,l[k]?=some o:=⟨l[k],gE p⟩;have C:∀j,j<k->b.getD j false=true:=λj n=>by
   have u:¬b.getD j true=false:=λS=>by have:=(g j om).1 S;omega
   rw[Array.getD_eq_getD_getElem?] at u⊢;have:j<b.size:=by omega
   rw[Array.getElem?_eq_getElem this] at u⊢;simpa using u
  have E:k∈Region.ready .any l.toArray b:=mem_ready.2 ⟨(g k p).2<|lR _,o,by simpa using d,λe q hb=>C _<|(B k o d).1 e q hb⟩;have t:∀i,i∈Region.ready .any l.toArray b->i=k:=λi r=>by
   obtain⟨z,X,s,M⟩:=mem_ready.1 r;have A:i<l.length:=by simpa using(Array.getElem?_eq_some_iff.1 s).1
   have U:=(g i A).1 z;rcases Nat.eq_or_lt_of_le U with q|_
   .exact q.symm
   .have V:K3 l b:=λj o d n e q hb=>by
     have T:j<k:=by
      rcases Nat.lt_or_ge j k with h|h
      .exact h
      .have Z:=(List.getElem?_eq_some_iff.1 d).1;have f:=(g j Z).2 h;rw[Array.getD_eq_getD_getElem?,Array.getElem?_eq_getElem om] at n f;simp at n f;rw[f] at n;cases n
     have:=(B j o d).1 e q hb;exact C _ om
    have:=OP V (by simpa using s) M ((B i X<|by simpa using s).2.2 om) (i-k) k om om;have f:=(g k p).2<|lR _;rw[Array.getD_eq_getD_getElem?] at this f;have J:k<b.size:=by omega
    rw[Array.getElem?_eq_getElem J] at this f;simp at this f;rw[f] at this;cases this
  refine⟨λv=>(by rw[v] at E;cases E),λi r=>?_⟩;have:=t i r;subst this;have R:l.drop i=o::l.drop (i+1):=by
   rw[List.drop_eq_getElem_cons p]
   congr 1
   exact(List.getElem?_eq_some_iff.1 d).2
  rw[R] at h;have D:∀j,j<l.length->((b.setIfInBounds i true).getD j true=false↔i+1<=j):=λj n=>by
   by_cases I:i=j
   .subst I;have:i<b.size:=by omega
    simp[Array.getD_eq_getD_getElem?,this]
   .rw[getD_set_ne true I,g j n];omega
  unfold wpOp;have Y:l.toArray[i]?=some o:=by simpa using d
  simp only[Y];unfold wpList at h;by_cases F:Region.wanted o (yielded l.toArray a.tmps)=true
  .rw[iP F] at h⊢;exact h.imp (λh=>Oper.wp_mono (λL w' N=>H (i+1) _ L w' om om (by simpa using y) D N) h) id
  .rw[iN F] at h⊢;exact H (i+1) _ _ w om om (by simpa using y) D h
def adB {K:World->World->Prop} (Ae:Kept K) {N:Env->World->Prop} {e0:Env} {w0:World} (hB:vY l m W ds deps=true) (hF:∀f∈F,∀v w w',f v w->K w w'->f v w') 
  (hc:vX K P n l.toArray W ds F e0 w0 0 (l.take m) deps)
  (C:∀(x:Env) (vs:Nat->Value) (w:World),K w0 w->(∀i,i<m->pY F i (vs i) w)->OW P n l.toArray N (l.drop m) (bf (aY W x e0) (xu ds vs (List.range m))) w) (Q:Exit->Act->World->Prop):
  ∀(c:Nat) (b:Array Bool) (e:Env) (a:Act) (w:World),Fits n e a->K w0 w->fM W e0 e->b.size=l.length->
   ((List.range l.length).filter λj=>!b.getD j true).length=c->
   (∀j,m<=j->j<l.length->b.getD j true=false)->(∀j,j<m->b.getD j true=true->pY F j (e<|ds.getD j 0) w)->K3 l b->
   wpAny P .any l.toArray (sd n N Q) c b a w:=by
 obtain⟨vZ,_,_,kM,nO⟩:=H7 hB;have BJ:∀(b:Array Bool) (j:Nat),b.size=l.length->j<l.length->¬b.getD j true=false->b.getD j false=true:=λb j z g u=>by rw[Array.getD_eq_getD_getElem?] at u⊢;rw[Array.getElem?_eq_getElem om] at u⊢;simpa using u
 have H9:∀(b:Array Bool) (j:Nat),b.size=l.length->j<l.length->b.getD j false=true->b.getD j true=true:=λb j z g u=>by rw[Array.getD_eq_getD_getElem?] at u⊢;rw[Array.getElem?_eq_getElem om] at u⊢;simpa using u
 intro c;induction c with
 |zero=>
  intro b e a w Y hk O z DB jd T mr;have D:∀j,j<l.length->b.getD j true=true:=λj g=>by
   cases Z:b.getD j true with
   |true=>rfl
   |false=>
    have:j∈(List.range l.length).filter λj=>!b.getD j true:=by rw[List.mem_filter,List.mem_range];exact⟨g,by rw[Z];rfl⟩
    rw[List.length_eq_zero_iff.1 DB] at this;cases this
  have hm:m=l.length:=by
   rcases Nat.lt_or_ge m l.length with h|h
   .have:=jd m (lR _) h;rw[D m h] at this;cases this
   .omega
  have A:=C e (λi=>e<|ds.getD i 0) w hk λi L=>T i L<|D i om;rw[Ad O,H6 (by
   intro p R;have:∀(r:List Nat),p∈xu ds (λi=>e<|ds.getD i 0) r->e p.1=p.2:=by
    intro r;induction r with
    |nil=>intro h;cases h
    |cons j r I=>
     intro h;rcases mC.1 h with h|h
     .subst h;rfl
     .exact I h
   exact this _ R)] at A
  have q:=A a Y Q;exact K4 hB 0 m b a w (lR _) om z (λj g=>⟨λh=>(by rw[D j g] at h;cases h),λh=>om⟩) q
 |succ c I=>
  intro b e a w Y hk O z DB jd T mr;by_cases V:∀j,j<m->b.getD j true=true
  .have A:=C e (λi=>e<|ds.getD i 0) w hk λi L=>T i L<|V i L;rw[Ad O,H6 (by
    intro p R;have:∀(r:List Nat),p∈xu ds (λi=>e<|ds.getD i 0) r->e p.1=p.2:=by
     intro r;induction r with
     |nil=>intro h;cases h
     |cons j r I=>
      intro h;rcases mC.1 h with h|h
      .subst h;rfl
      .exact I h
    exact this _ R)] at A
   have q:=A a Y Q;have BL:∀j,j<l.length->(b.getD j true=false↔m<=j):=λj g=>by
    constructor
    .intro h;rcases Nat.lt_or_ge j m with s|s
     .rw[V j s] at h;cases h
     .exact s
    .intro h;exact jd j h g
   have BM:m+(c+1)=l.length:=by
    rw[<-DB];have:∀k,k<=l.length->m<=k->((List.range k).filter λj=>!b.getD j true).length=k-m:=by
     intro k;induction k with
     |zero=>intro _ h;simp
     |succ k y=>
      intro jc _;rw[List.range_succ,List.filter_append,lA];rcases Nat.lt_or_ge k m with s|s
      .have Ut:k+1=m:=by omega
       have hz:((List.range k).filter λj=>!b.getD j true)=[]:=by rw[List.filter_eq_nil_iff];intro j g;rw[List.mem_range] at g;rw[V j om];simp
       have E:(!b.getD k true)=false:=by rw[V k s];rfl
       simp only[hz,List.filter_cons,E,List.filter_nil,List.length_nil];simp;omega
      .rw[y om s];have E:(!b.getD k true)=true:=by rw[(BL k om).2 s];rfl
       simp only[List.filter_cons,E,List.filter_nil,if_true,lC,List.length_nil];omega
    have:=this l.length (lR _) vZ;omega
   exact K4 hB (c+1) m b a w (lR _) BM z BL q
  .have hex:∃j,j<m/\b.getD j true=false/\∀i,i<j->b.getD i true=true:=by
    have:∀k,(∃j,j<k/\b.getD j true=false/\∀i,i<j->b.getD i true=true)\/∀j,j<k->b.getD j true=true:=by
     intro k;induction k with
     |zero=>right;intro j g;omega
     |succ k y=>
      rcases y with⟨j,g,u,q⟩|h
      .exact .inl ⟨j,om,u,q⟩
      .cases Z:b.getD k true with
       |false=>exact .inl ⟨k,om,Z,h⟩
       |true=>
        right;intro j g;rcases Nat.lt_or_ge j k with s|s
        .exact h j s
        .rw[show j=k from by omega];exact Z
    rcases this m with h|h
    .exact h
    .exact absurd h V
   obtain⟨J,_,Ib,Ic⟩:=hex;obtain⟨o0,Ig⟩:∃o,l[J]?=some o:=⟨l[J]'om,gE om⟩;have pZ:J∈Region.ready .any l.toArray b:=mem_ready.2 ⟨Ib,o0,by simpa using Ig,λed H hb=>by have eW:=(nO J o0 Ig).1 ed H hb;exact BJ b _ z om (by rw[Ic _ eW];simp)⟩;refine⟨λhr=>(by rw[hr] at pZ;cases pZ),λi L=>?_⟩;obtain⟨hu,o,ho,D⟩:=mem_ready.1 L;have mq:i<l.length:=by simpa using(Array.getElem?_eq_some_iff.1 ho).1
   have U:l[i]?=some o:=by simpa using ho
   have yD:i<m:=by
    rcases Nat.lt_or_ge i m with h|h
    .exact h
    .have:=H9 b J z om<|OP mr U D ((nO i o U).2.2 h) (i-J) J om om;rw[Ib] at this;cases this
   obtain⟨hW,Ih⟩:=(nO i o U).2.1 yD;obtain⟨dp,Ii⟩:∃d,deps[i]?=some d:=⟨deps[i]'om,gE om⟩;have Ij:deps.getD i []=dp:=by rw[gG,Ii];rfl
   rw[Ij] at Ih;have lp:=Uq (l.take m) deps 0 hc i o dp (by rw[List.getElem?_take,iP yD];exact U) Ii;rw[Nat.zero_add] at lp;have u:=lp e (λj=>e<|ds.getD j 0) w _ hk (ady λj g=>by obtain⟨hwj,DC⟩:=Ih j g;obtain⟨ed,H,hb,BN⟩:=K2 hwj;exact T j DC<|H9 b j z om (by rw[<-BN];exact D ed H hb)) rfl;rw[Ad O,H6 (by
    intro p R;have:∀(r:List Nat),p∈xu ds (λi=>e<|ds.getD i 0) r->e p.1=p.2:=by
     intro r;induction r with
     |nil=>intro h;cases h
     |cons j r I=>
      intro h;rcases mC.1 h with h|h
      .subst h;rfl
      .exact I h
    exact this _ R)] at u
   have q:=u a Y Q;have next:∀(B:Act) (w':World),sd n (λX w'=>K w w'/\pY F i (X<|ds.getD i 0) w'/\fM [ds.getD i 0] e X) Q .normal B w'->
     wpAny P .any l.toArray (sd n N Q) c (b.setIfInBounds i true) B w':=λB w' S=>by
    obtain⟨X,OR,wb,Ik,yE⟩:=S;refine I _ X B w' OR (Ae.trans hk wb) ?_ (by simpa using z) ?_ ?_ ?_ ?_
    .intro t A;have dD:t≠ds.getD i 0:=λH=>by rw[H,hW] at A;cases A
     rw[yE t (by simpa using dD)];exact O t A
    .have BM:∀k,k<=l.length->((List.range k).filter λj=>!(b.setIfInBounds i true).getD j true).length+(if i<k then 1 else 0)=((List.range k).filter λj=>!b.getD j true).length:=by
      intro k;induction k with
      |zero=>simp
      |succ k y=>
       intro jc;have uV:=y om;rw[List.range_succ,List.filter_append,lA,List.filter_append,lA];by_cases xA:i=k
       .subst xA;rw[iN om] at uV;have eW:i<b.size:=by omega
        have E:(b.setIfInBounds i true).getD i true=true:=by simp[Array.getD_eq_getD_getElem?,eW]
        rw[iP om];simp only[List.filter_cons,E,hu,List.filter_nil,Bool.not_true,Bool.not_false,if_true,Bool.false_eq_true,if_false,lC,List.length_nil];omega
       .have E:(b.setIfInBounds i true).getD k true=b.getD k true:=getD_set_ne true xA;simp only[List.filter_cons,E,List.filter_nil];have hii:(i<k+1)↔(i<k):=by omega
        by_cases ru:i<k
        .have c1:i<k+1:=by omega
         rw[iP ru] at uV;rw[iP c1];split<;>simp only[lC,List.length_nil]<;>omega
        .have c1:¬i<k+1:=by omega
         rw[iN ru] at uV;rw[iN c1];split<;>simp only[lC,List.length_nil]<;>omega
     have:=BM l.length<|lR _;rw[iP mq] at this;omega
    .intro j OS yy;rw[getD_set_ne true om];exact jd j OS yy
    .intro j DC g;by_cases M:i=j
     .subst M;exact Ik
     .rw[getD_set_ne true M] at g;have dD:ds.getD j 0≠ds.getD i 0:=by
       rw[gG,gG,gE om,gE om];simp only[Option.getD_some];intro H;exact M ((List.getElem_inj kM).1 H.symm)
      rw[yE _ (by simpa using dD)];exact adz hF j (T j DC g) wb
    .intro j oj xB g e2 mv aM;have we:∀x,b.getD x false=true->(b.setIfInBounds i true).getD x false=true:=λx hx=>by
      by_cases Il:i=x
      .subst Il;have:i<b.size:=by omega
       simp[Array.getD_eq_getD_getElem?,this]
      .rw[getD_set_ne false Il];exact hx
     by_cases M:i=j
     .subst M;rw[U] at xB;cases xB;exact we _<|D e2 mv aM
     .rw[getD_set_ne false M] at g;exact we _<|mr j oj xB g e2 mv aM
   unfold wpOp;simp only[ho];unfold wpList at q;by_cases hw:Region.wanted o (yielded l.toArray a.tmps)=true
   .rw[iP hw] at q⊢;rcases q with q|⟨q,h3⟩
    .refine .inl<|Oper.OK (λB w' s=>next B w' s) (λ_ _ _ h=>h) (fun⟨a,w,S⟩=>⟨a,w,S⟩) q
    .exact .inr ⟨q,by obtain⟨B,w',S⟩:=h3;exact⟨B,w',S⟩⟩
   .rw[iN hw] at q⊢;exact next _ _ q
def Uu {N R:Env->World->Prop} {X:Nat->Env->World->Prop} {id:Nat} {e0:Env} {w0:World} (z:P.follows .mixedOrders=true) {e:World->World->Prop} (d:Kept e) (m:Nat) (W g:List Nat) (b:List (List Nat)) (F:List (Value->World->Prop)) 
  (r:vY l m W g b=true) (u:qz e F)
  (y:∀s,e w0 s->vX e P n l.toArray W g F e0 s 0 (l.take m) b)
  (f:∀(x:Env) (vs:Nat->Value) (w:World),e w0 w->(∀i,i<m->pY F i (vs i) w)->OW P n l.toArray N (l.drop m) (bf (aY W x e0) (xu g vs (List.range m))) w):
  CW P n (.region id l.toArray true) N R X e0 w0:=λa v=>by
 refine wp_region_any z ?_;have q:ak [] w0 {w0 with drawn:=w0.drawn+1}:=ak.drew _ _;have:=adB d (N:=N) (e0:=e0) (w0:={w0 with drawn:=w0.drawn+1}) r (Up u) (y _<|d.of q) (λx vs w hk=>f x vs w<|d.trans (d.of q) hk) (oR n N R X) l.length (Array.replicate l.length false) e0 a _ v (d.refl _) BH sm
  (by
   have:((List.range l.length).filter λj=>!(Array.replicate l.length false).getD j true)=List.range l.length:=by rw[List.filter_eq_self];intro j c;rw[List.mem_range] at c;simp[Array.getD_eq_getD_getElem?,c]
   rw[this];simp)
  (by intro j _ c;simp[Array.getD_eq_getD_getElem?,c])
  (by
   intro j c h;have:=(H7 r).1;have p:j<l.length:=by omega
   simp[Array.getD_eq_getD_getElem?,p] at h)
  (by intro j o A c;have p:j<l.length:=(List.getElem?_eq_some_iff.1 A).1;simp[Array.getD_eq_getD_getElem?,p] at c)
 have t:sd n N (oR n N R X)=oR n N R X:=by funext x a w;cases x<;>rfl
 rw[t] at this;simpa using this
end
abbrev aj:=List UInt8
inductive au where
 |mk (aq:aj) (ag:List au)
def au.aq:au->aj| .mk a _=>a
def au.ag:au->List au| .mk _ p=>p
def fy (c:UInt8):Bool:=(97<=c&&c<=122)||(48<=c&&c<=57)||c==43||c==45||c==42||c==62
def Uv (c:UInt8):((((((decide ((97:Int)<=c.toNat)&&decide ((c.toNat:Int)<=122))||(decide ((48:Int)<=c.toNat)&&decide ((c.toNat:Int)<=57)))||decide ((c.toNat:Int)=43))||decide ((c.toNat:Int)=45))||decide ((c.toNat:Int)=42))||decide ((c.toNat:Int)=62))=fy c:=by
 have b:∀k:UInt8,decide (k<=c)=decide ((k.toNat:Int)<=c.toNat):=λk=>by simp[UInt8.le_iff_toNat_le]
 have d:∀k:UInt8,decide (c<=k)=decide ((c.toNat:Int)<=k.toNat):=λk=>by simp[UInt8.le_iff_toNat_le]
 have a:∀k:UInt8,(c==k)=decide ((c.toNat:Int)=k.toNat):=λk=>by rw[Bool.eq_iff_iff];simp[<-UInt8.toNat_inj];omega
 unfold fy;rw[b,d,b,d,a,a,a,a];rfl
def jA (rd:aj->Option (au×aj)):Nat->aj->Option (List au×aj)
 |0,_=>none
 |n+1,s=>match rd s with
  |none=>none
  |some (t,r)=>match r with
   |[]=>none
   |c::r'=>if c=41 then some ([t],r') else if c=32 then(jA rd n r').map λp=>(t::p.1,p.2) else none
def fl:Nat->aj->Option (au×aj)
 |0,s=>match s with
  |[]=>none
  |c::_=>if c=40 then none else if s.takeWhile fy=[] then none else some (.mk (s.takeWhile fy) [],s.dropWhile fy)
 |d+1,s=>match s with
  |[]=>none
  |c::r=>if c=40 then(jA (fl d) (r.length+1) r).map λp=>(.mk [] p.1,p.2)
   else if s.takeWhile fy=[] then none else some (.mk (s.takeWhile fy) [],s.dropWhile fy)
def K5 (rd:aj->Option (au×aj)):Prop:=∀s t r,rd s=some (t,r)->∃k,0<k/\k<=s.length/\r=s.drop k
theorem Im (p:UInt8->Bool):∀s:aj,s.dropWhile p=s.drop (s.takeWhile p).length:=by intro x;induction x<;>grind [List.dropWhile,List.takeWhile]
def Io (p:UInt8->Bool) (s:aj):(s.takeWhile p).length<=s.length:=by induction s<;>grind [List.takeWhile]
def Uw {rd:aj->Option (au×aj)} (m:K5 rd):∀n s j r,jA rd n s=some (j,r)->∃k,0<k/\k<=s.length/\r=s.drop k/\j.length<=k
 |0,_,_,_,h=>by simp[jA] at h
 |n+1,s,j,r,h=>by
  unfold jA at h;cases e:rd s with
  |none=>simp[e] at h
  |some p=>
   obtain⟨t,v⟩:=p;obtain⟨k,_,_,rfl⟩:=m s t v e;simp only[e] at h;cases a:s.drop k with
   |nil=>simp[a] at h
   |cons c f=>
    simp only[a] at h;have i:f=s.drop (k+1):=by rw[<-List.drop_drop,a];rfl
    have b:k+1<=s.length:=by have:=congrArg List.length a;simp at this;omega
    by_cases o:c=41
    .rw[iP o] at h;simp at h;exact⟨k+1,om,b,by rw[<-h.2,i],by rw[<-h.1];simp⟩
    .rw[iN o] at h;by_cases u:c=32
     .rw[iP u] at h;cases d:jA rd n f with
      |none=>simp[d] at h
      |some q=>
       obtain⟨l,g⟩:=q;simp[d] at h;obtain⟨k',_,_,y,_⟩:=Uw m n f l g d;refine⟨k+1+k',om,?_,?_,?_⟩
       .have:=congrArg List.length i;simp at this;omega
       .rw[<-h.2,y,i,List.drop_drop]
       .rw[<-h.1];simp;omega
     .rw[iN u] at h;cases h
def K6:∀d,K5 (fl d)
 |0,s,t,r,h=>by
  cases s with
  |nil=>simp[fl] at h
  |cons c s=>
   simp only[fl] at h;by_cases b:c=40
   .rw[iP b] at h;cases h
   .rw[iN b] at h;by_cases a:(c::s).takeWhile fy=[]
    .rw[iP a] at h;cases h
    .rw[iN a] at h;simp only[Option.some.injEq,Prod.mk.injEq] at h;refine⟨((c::s).takeWhile fy).length,?_,Io _ _,by rw[<-h.2,Im]⟩;exact List.length_pos_iff.2 a
 |d+1,s,t,r,h=>by
  cases s with
  |nil=>simp[fl] at h
  |cons c s=>
   simp only[fl] at h;by_cases b:c=40
   .rw[iP b] at h;cases e:jA (fl d) (s.length+1) s with
    |none=>simp[e] at h
    |some q=>obtain⟨g,f⟩:=q;simp[e] at h;obtain⟨k',_,_,i,_⟩:=Uw (K6 d) _ s g f e;exact⟨k'+1,om,by simp;omega,by rw[<-h.2,i];rfl⟩
   .rw[iN b] at h;by_cases a:(c::s).takeWhile fy=[]
    .rw[iP a] at h;cases h
    .rw[iN a] at h;simp only[Option.some.injEq,Prod.mk.injEq] at h;refine⟨((c::s).takeWhile fy).length,?_,Io _ _,by rw[<-h.2,Im]⟩;exact List.length_pos_iff.2 a
theorem Ux {rd:aj->Option (au×aj)} (a:K5 rd):∀n m s,s.length<n->s.length<m->jA rd n s=jA rd m s
 |0,_,_,h,_=>by omega
 |_+1,0,_,_,h=>by omega
 |n+1,m+1,s,_,_=>by
  unfold jA;cases e:rd s with
  |none=>rfl
  |some p=>
   obtain⟨t,f⟩:=p;obtain⟨k,_,_,rfl⟩:=a s t f e;simp only;cases d:s.drop k with
   |nil=>rfl
   |cons c b=>
    simp only;have g:b.length+1+k=s.length:=by have:=congrArg List.length d;simp at this;omega
    rw[Ux a n m b om om]
def rT (d:Nat) (s:aj):Option (au×aj):=match d with
 |0=>none
 |d+1=>fl d s
theorem OT:∀d,K5 (rT d)
 |0=>λs t r h=>by simp[rT] at h
 |d+1=>K6 d
def oV (d:Nat) (s:aj):Option (List au×aj):=jA (rT d) (s.length+1) s
theorem Ip (d:Nat) (s:aj):oV d s=match rT d s with
  |none=>none
  |some (t,r)=>match r with
   |[]=>none
   |c::a=>if c=41 then some ([t],a) else if c=32 then(oV d a).map λp=>(t::p.1,p.2) else none:=by
 unfold oV
 conv=>lhs;unfold jA
 cases e:rT d s with
 |none=>rfl
 |some p=>
  obtain⟨t,f⟩:=p;obtain⟨k,_,_,rfl⟩:=OT d s t f e;simp only;cases b:s.drop k with
  |nil=>rfl
  |cons c a=>
   simp only;have g:a.length+1+k=s.length:=by have:=congrArg List.length b;simp at this;omega
   rw[Ux (OT d) s.length (a.length+1) a om om]
theorem adH:∀n s,jA (rT 0) n s=none
 |0,_=>rfl
 |n+1,s=>by simp[jA,rT]
theorem F6 (d:Nat) (r:aj):fl d (40::r)=(oV d r).map λp=>(.mk [] p.1,p.2):=by
 cases d with
 |zero=>simp[fl,oV,adH]
 |succ d=>simp[fl,oV];rfl
theorem Iq (d:Nat) (c:UInt8) (r:aj) (h:c≠40):fl d (c::r)=if(c::r).takeWhile fy=[] then none else some (.mk ((c::r).takeWhile fy) [],(c::r).dropWhile fy):=by cases d<;>simp[fl,h]
theorem Uy (d:Nat):fl d []=none:=by cases d<;>rfl
theorem drop_cons {a:Type} {s:List a} {c:a} (h:s[i]?=some c):s.drop i=c::s.drop (i+1):=by grind [List.getElem?_eq_some_iff,List.drop_eq_getElem_cons]
theorem Uz (p:UInt8->Bool):∀(s:aj) (k:Nat),k<=(s.takeWhile p).length->(k<(s.takeWhile p).length↔k<s.length/\p (s.getD k 0)=true):=by intro x;induction x<;>grind [List.takeWhile,lC,List.getD_cons_succ]
theorem j4 {s:aj} {k:Nat} (h:k<s.length):s[k]?=some (s.getD k 0):=by grind
theorem K7 (p:UInt8->Bool) (s:aj):s.take (s.takeWhile p).length=s.takeWhile p:=by induction s<;>grind [List.takeWhile]
theorem adI (s:aj) (i k:Nat):(s.drop i).getD k 0=s.getD (i+k) 0:=by grind
def adJ (s:aj) {k:Nat} (a:i<=k) (h:k-i<=((s.drop i).takeWhile fy).length):k-i<((s.drop i).takeWhile fy).length↔k<s.length/\fy (s.getD k 0)=true:=by grind [Uz,adI]
def DD (n:Nat) (o:Option (au×aj)) (t:au) (a:Int):Prop:=match o with
 |some (b,r)=>t=b/\a=((n-r.length:Nat):Int)
 |none=>a= -1
theorem adK {s:aj} {k:Nat} {t:au} {a:Int} (c:DD s.length (rT d<|s.drop k) t a) (b:a<0\/(s.length:Int)<=a) (e:0<s.length):oV d (s.drop k)=none:=by grind [Ip,DD,rT]
def adL {s:aj} {k:Nat} {t:au} {a:Int} (b:DD s.length (rT d<|s.drop k) t a) (i:0<=a) (l:a<s.length):
  ∃m:Nat,a=m/\k<m/\m<s.length/\oV d (s.drop k)=(if s.getD m 0=41 then some ([t],s.drop<|m+1) else if s.getD m 0=32 then(oV d (s.drop<|m+1)).map λp=>(t::p.1,p.2) else none):=by
 rw[Ip];unfold DD at b;cases c:rT d (s.drop k) with
 |none=>rw[c] at b;omega
 |some p=>
  obtain⟨_,r⟩:=p;rw[c] at b;obtain⟨rfl,f⟩:=b;obtain⟨j,_,g,rfl⟩:=OT d _ _ _ c;rw[List.length_drop] at g;rw[List.drop_drop,List.length_drop] at f;have e:k+j<s.length:=by omega
  refine⟨k+j,om,om,e,?_⟩;simp only[List.drop_drop];rw[drop_cons (j4 e)]
theorem map_append {o:Option (List au×aj)} {a:List au} {t:au}:(o.map λp=>(t::p.1,p.2)).map (λp=>(a++p.1,p.2))=o.map λp=>((a++[t])++p.1,p.2):=by cases o<;>simp
def bU (s:aj):Option au:=
 if 12000<s.length then none else match fl 60 s with
  |some (t,[])=>some t
  |_=>none
def adM {s:aj} {t:au} {j:Int} (l:s.length<=12000) (a:DD s.length (rT 61<|s.drop 0) t j):decide (j=(s.length:Int))=(bU s).isSome/\∀b,bU s=some b->t=b:=by
 have e:rT 61 (s.drop 0)=fl 60 s:=rfl;rw[e] at a;unfold DD at a;unfold bU;rw[iN om];cases g:fl 60 s with
 |none=>rw[g] at a;refine⟨?_,λb h=>by cases h⟩;simp only[Option.isSome_none,decide_eq_false_iff_not];simp only at a;omega
 |some p=>
  obtain⟨b,r⟩:=p;rw[g] at a;obtain⟨rfl,f⟩:=a;obtain⟨k,_,_,i⟩:=K6 60 s _ _ g;cases r with
  |nil=>refine⟨?_,λb h=>by simpa using h⟩;simp at f⊢;exact f
  |cons c _=>refine⟨?_,λb h=>by cases h⟩;have d:=congrArg List.length i;simp only[lC,List.length_drop] at d f;simp only[Option.isSome_none,decide_eq_false_iff_not];omega
mutual
def au.text:au->aj
 | .mk a b=>if a=[] then 40::(l7 b++[41]) else a
def l7:List au->aj
 |[]=>[]
 |t::ts=>match ts with
  |[]=>t.text
  |_::_=>t.text++32::l7 ts
end
mutual
def au.enc:au->List C
 | .mk a b=>[.val<|str a,.sl 2 (dj b)]
def dj:List au->List (List C)
 |[]=>[]
 |t::ts=>t.enc::dj ts
end
theorem yG:∀a,dj a=a.map au.enc:=by intro x;induction x<;>grind [dj]
theorem iI (a:List au):(dj a).length=a.length:=by simp[yG]
theorem qB:∀t:au,t.enc.length=2
 | .mk _ _=>by simp[au.enc]
def UA (a:List au):∀row,row∈dj a->row.length=2:=by grind [yG,qB]
theorem OU (a b:List au):dj (a++b)=dj a++dj b:=by simp[yG]
def K8 {a:List au} {t:au} (h:a[i]?=some t):(dj a)[i]?=some t.enc:=by grind [yG]
theorem Ir (a:List au) (i:Nat):dj (a.drop i)=(dj a).drop i:=by simp[yG,List.map_drop]
def ba (L:List Nat) (w:World) (v:Value) (t:au):Prop:=ja L w v t.enc
def ba.ext {t:au} (h:ba L w v t) (k:ak [] w w'):ba L w' v t:=ja.ext h k
def cP (L:List Nat) (w:World) (v:Value) (a:List au):Prop:=cw L w v (.sl 2<|dj a)
def cP.ext {t:List au} (h:cP L w v t) (k:ak [] w w'):cP L w' v t:=cw.ext h k
def cQ {t:au} (h:ba L w v t):∃a n c,v= .agg #[str t.aq,.slice a n c]/\n=t.ag.length/\cP L w (.slice a n c) t.ag:=by
 obtain⟨vs,rfl,b⟩:=h;cases t with
 |mk at_ f=>
  rw[au.enc] at b
  match vs,b with
  |[_,_],b=>obtain⟨e,d,_⟩:=b;cases e;obtain⟨a,c,rfl,_⟩:=tW d;exact⟨a,_,c,rfl,iI f,d⟩
  |[],b=>exact b.elim
  |[_],b=>exact b.2.elim
  |_::_::_::_,b=>exact b.2.2.elim
def jM {a:aj} {ps:List au} (h:cP L w v ps):ba L w (.agg #[str a,v]) (.mk a ps):=
 ⟨[str a,v],rfl,by rw[au.enc];exact⟨.val _,h,trivial⟩⟩
def iF {t:au} (h:cP L w v t.ag):ba L w (.agg #[str t.aq,v]) t:=by cases t;exact jM h
def l8:cP L w (.slice none 0 0) []:=by unfold cP;rw[dj];exact .nil _ _ _
def fE {a:Option Addr} {c:Nat} {g:List au} {t:au} (h:cP L w (.slice a n c) g) (o:g[i]?=some t):
  ∃b off e d f,a=some ⟨b,off,none⟩/\gj w b (off+i*2) [str t.aq,.slice e d f]/\d=t.ag.length/\cP L w (.slice e d f) t.ag:=by
 obtain⟨b,off,vs,j,hb,_,_,l,r⟩:=z8 h<|K8 o;obtain⟨e,d,f,m,p,q⟩:=cQ (t:=t) ⟨vs,rfl,r⟩;have s:vs=[str t.aq,.slice e d f]:=by have:=congrArg (λv=>match v with|Value.agg x=>x.toList|_=>[]) m;simpa using this
 subst s;exact⟨b,off,e,d,f,j,l,p,q⟩
def aL.aB {a:Array Value} {T:TypeId} (h:aL w b a T) (k:ak L w w') (hb:b∉L):aL w' b a T:=h.aG k hb
def cw.aB {c:C} (h:cw L w v c) (k:ak L' w w') (a:∀x∈L',x∈L):cw L w' v c:=h.aG<|k.mono a
def ba.aB {t:au} (h:ba L w v t) (k:ak L' w w') (a:∀x∈L',x∈L):ba L w' v t:=ja.aG h<|k.mono a
def cP.aB {t:List au} (h:cP L w v t) (k:ak L' w w') (a:∀x∈L',x∈L):cP L w' v t:=cw.aG h<|k.mono a
def iU.aB {T:TypeId} {rows:List (List C)} (h:iU L w T sz v g rows xs) (k:ak L' w w') (a:∀x∈L',x∈L):iU L w' T sz v g rows xs:=h.aG k a
def ak.aB (h:ak L w0 w) (k:ak L' w w') (a:∀x∈L',x∈L\/w0.heap.size<=x):ak L w0 w':=h.since k a
def tZ:∀x∈w.heap.size::L,x∈L\/w.heap.size<=x:=by grind
def aL.grow {a:Array Value} {T:TypeId} (h:aL w b a T):aL w b a T:=h
def ak.grow (h:ak L w w'):ak L w w':=h
def cw.grow {c:C} (h:cw L w v c):cw (w.heap.size::L) w v c:=h.fresh tZ
def ba.grow {t:au} (h:ba L w v t):ba (w.heap.size::L) w v t:=ja.fresh h tZ
def cP.grow {t:List au} (h:cP L w v t):cP (w.heap.size::L) w v t:=cw.fresh h tZ
def iU.grow {T:TypeId} {rows:List (List C)} (h:iU L w T sz v g rows xs):iU (w.heap.size::L) w T sz v g rows xs:=h.more tZ
theorem iU.alloc {T:TypeId} {rows:List (List C)} (h:iU L w T sz v g rows xs) (k:ak [] w w') (_:w'.heap.size=w.heap.size+1):iU (w.heap.size::L) w' T sz v g rows xs:=h.grow.ext k
def ba.l9 {x y:Value} {t:au} (h:ba L w (.agg #[x,y]) t):dC L w [x,y] t.enc:=by
 obtain⟨vs,a,b⟩:=h;have c:vs=[x,y]:=by have:=congrArg (λv=>match v with|Value.agg x=>x.toList|_=>[]) a;simpa using this.symm
 rw[<-c];exact b
def UB {A B:List Nat}:∀x∈A++(b::B),x∈b::(A++B):=by grind
section
variable {P:Program} {n:Nat} {ops:Array Oper} {K:Env->World->Prop} {rest:List Oper} {e:Env} {w w':World}
 {dst:Option Nat} {ty:TypeId} {pos:String} {after:Array Edge} {g:Option (Nat×Bool)} {T:TypeId} {x y:Operand}
def adO {a:List Value} {U:TypeId} (l:TI P T 1 bytes z) (d:gate ops e g=true) (i:ev e x= .pointer (some ⟨b,o,none⟩)) (j:ev e y=v) 
  (c:v.oneCell'=true) (hb:aL w b a.toArray U) (f:Nat.blt o a.length=true)
  (k:∀w',ak [b] w w'->aL w' b (a.set o v).toArray U->w'.heap.size=w.heap.size->OW P n ops K rest e w'):OW P n ops K (⟨none,.store T x y,ty,pos,after,g⟩::rest) e w:=by grind [OF,Nat.blt_eq]
def iw {U:TypeId} (j:TI P T 1 bytes z) (f:ev e x= .pointer (some ⟨b,o,none⟩)) (i:ev e y=v) (a:v.oneCell'=true) (hb:aL w b vs.toArray U) (d:Nat.blt o vs.length=true) (k:∀w',ak [b] w w'->aL w' b (vs.set o v).toArray U->w'.heap.size=w.heap.size->OW P n ops K rest e w') (c:gate ops e g=true:=by rfl):OW P n ops K (⟨none,.store T x y,ty,pos,after,g⟩::rest) e w:=adO j c f i a hb d k
def adP {b:Nat} {a c:List Value} {U:TypeId} (o:TI P T sz bytes z) (i:gate ops e g=true) 
  (l:ev e x= .pointer (some ⟨b,0,none⟩)) (m:ev e y= .agg a.toArray) (j:Nat.beq a.length sz=true) (f:a.all Value.oneCell'=true) (hb:aL w b c.toArray U) (d:Nat.beq c.length sz=true)
  (k:∀w',ak [b] w w'->aL w' b a.toArray U->w'.heap.size=w.heap.size->OW P n ops K rest e w'):OW P n ops K (⟨none,.store T x y,ty,pos,after,g⟩::rest) e w:=by grind [ado,Nat.eq_of_beq_eq_true,List.all_eq_true]
def cJ {a:List Value} {U:TypeId} (m:TI P T sz bytes z) (j:ev e x= .pointer (some ⟨b,0,none⟩)) (l:ev e y= .agg vs.toArray) (d:vs.all Value.oneCell'=true) (hb:aL w b a.toArray U) (c:Nat.beq a.length sz=true) (k:∀w',ak [b] w w'->aL w' b vs.toArray U->w'.heap.size=w.heap.size->OW P n ops K rest e w') (f:gate ops e g=true:=by rfl) (i:Nat.beq vs.length sz=true:=by rfl):OW P n ops K (⟨none,.store T x y,ty,pos,after,g⟩::rest) e w:=adP m f j l i d hb c k
def adQ {vs:List Value} {v:Value} (n:P.underlying T=some (.slice E)) (g:TI P E sz bytes z) (l:z.cells.size=sz) (t:0<sz) (s:sz<=16777216) 
  (q:v.cells=vs.toArray) (j:vs.length=sz):(Instr.buildSlice T 1 #[(0,v)]).run P w= .ok (.slice (some ⟨w.heap.size,0,none⟩) 1 1) (w.alloc<|.cells vs.toArray E):=by
 have m:¬sz=0:=by omega
 have hb:¬(16777216<sz):=by omega
 have f:Instr.fill (λi=>some (i*sz,sz)) ((Array.range<|1*sz).map (z.cells[·%z.cells.size]!)) [(0,v)]=some vs.toArray:=by
  simp only[Instr.fill,Nat.zero_mul,q,Nat.zero_add];rw[iN (by simp[j])]
  congr 1
  have e:∀(b:List Value) (i:Nat) (pre:List Value) (a:Array Value),a.size=pre.length+b.length->a.toList.take i=pre->i=pre.length->
    ((b.zipIdx i).foldl (fun(a:Array Value) (p:Value×Nat)=>a.setIfInBounds (0+p.2) p.1) a)=(pre++b).toArray:=by
   intro b;induction b with
   |nil=>intro i pre a c d o;apply Array.ext';simp only[List.zipIdx_nil,List.foldl_nil,List.append_nil];rw[<-d,List.take_of_length_le (by simp at c⊢;omega)]
   |cons u b r=>intro i pre a c d o;rw[List.zipIdx_cons,List.foldl_cons];simp only[lC] at c;have:=r (i+1) (pre++[u]) (a.setIfInBounds (0+i) u) so (by rw[Nat.zero_add,Array.toList_setIfInBounds,List.take_add_one,List.getElem?_set_self so,List.take_set_of_le<|lR i,d];simp) so;rw[this];simp
  have:=e vs 0 [] ((Array.range<|1*sz).map (z.cells[·%z.cells.size]!)) (by simp[j]) sm rfl;simpa using this
 simp only[Instr.buildSlice,Sem.run_bind,run_underlying n,Result.andThen_ok,g.uR,Nat.one_mul];rw[Nat.one_mul] at f;simp[hb,m,g.OE,f,newRow]
def adR {vs:List Value} {v:Value} {q:Operand} (c:P.underlying T=some (.slice E)) (b:TI P E sz bytes z) (f:gate ops e g=true) (d:cN n dst=true) (m:Nat.beq z.cells.size sz=true) (o:Nat.blt 0 sz=true) (a:Nat.ble sz 16777216=true) 
  (j:ev e q=v) (l:v.cells=vs.toArray) (i:Nat.beq vs.length sz=true)
  (k:∀w',ak [] w w'->aL w' w.heap.size vs.toArray E->w'.heap.size=w.heap.size+1->OW P n ops K rest (cC e dst<|.slice (some ⟨w.heap.size,0,none⟩) 1 1) w'):
  OW P n ops K (⟨dst,.buildSlice T 1 #[(0,q)],ty,pos,after,g⟩::rest) e w:=
 fY f d (w':=w.alloc<|.cells vs.toArray E) (by have:=adQ (P:=P) (w:=w) (vs:=vs) (v:=v) c b (Nat.eq_of_beq_eq_true m) (by simpa[Nat.blt_eq] using o) (Nat.le_of_ble_eq_true a) l<|Nat.eq_of_beq_eq_true i;simp[execOp,j,this]) (k _ (ak.alloc _ _ _) (aL.alloc _ _ _) sm)
def gv {q:Operand} (c:P.underlying T=some (.slice E)) (b:TI P E sz bytes z) (j:ev e q=v) (l:v.cells=vs.toArray) (k:∀w',ak [] w w'->aL w' w.heap.size vs.toArray E->w'.heap.size=w.heap.size+1->OW P n ops K rest (cC e dst<|.slice (some ⟨w.heap.size,0,none⟩) 1 1) w') (f:gate ops e g=true:=by rfl) (d:cN n dst=true:=by rfl) (m:Nat.beq z.cells.size sz=true:=by rfl) (o:Nat.blt 0 sz=true:=by rfl) (a:Nat.ble sz 16777216=true:=by rfl) (i:Nat.beq vs.length sz=true:=by rfl):OW P n ops K (⟨dst,.buildSlice T 1 #[(0,q)],ty,pos,after,g⟩::rest) e w:=adR c b f d m o a j l i k
def UD {L:List Nat} {v:Value} {l:Option Nat} {rows new:List (List C)} {s a:List Value} {b o m c:Nat} (J:P.underlying t=some (.slice E)) (H:TI P E sz bytes z) (O:gate ops e g=true) (N:cN n dst=true) (U:Nat.beq z.cells.size sz=true) 
  (S:ev e x=v) (B:iU L w E sz v l rows s) (T:ev e y= .slice (some ⟨b,o,none⟩) m c) (r:new.length=m) (vW:0<m) (X:∀row∈new,row.length=sz) (M:gj w b o a) (F:∀u∈a,u.oneCell'=true)
  (R:dC (l.toList++L) w a new.flatten) (I:∀x∈L,x<w.heap.size) (hb:(rows.length+m)*(bytes+1)<=140737488355328)
  (k:∀j d f w',iU L w' E sz (.slice j (rows.length+m) d) f (rows++new) (s++a)->ak l.toList w w'->(f=l\/f=some w.heap.size)->OW P n ops K rest (cC e dst<|.slice j (rows.length+m) d) w'):
  OW P n ops K (⟨dst,.call {callee:=.builtin .append,args:=#[x,y],argTypes:=#[t,t]},ty,pos,after,g⟩::rest) e w:=by
 obtain⟨i,Q,A,D,V⟩:=H.get;obtain⟨_,f,w',Y,p,hk,Z⟩:=iU.app (P:=P) (ty:=ty) J Q A D V (Nat.eq_of_beq_eq_true U) B b o m c new a r vW X M F R I hb;obtain⟨j,d,q⟩:=p.len;rw[lA,r] at q;subst q;exact fY O N (w':=w') (by simp only[execOp,resolve,invoke,builtin,Sem.run_bind,Sem.run_pure,Result.andThen_ok,List.map_toArray,List.map_cons,List.map_nil,S,T,Y])<|k j d f w' p hk Z
end
def iU.sep {T:TypeId} {rows:List (List C)} (h:iU L w T sz v g rows xs) (hb:b∈L):b∉g.toList:=by intro a;exact h.out b (by simpa using a) hb
def UE {P:Program} {n:Nat} {j:Array Oper} {K:Env->World->Prop} {rest:List Oper} {e:Env} {w:World} 
  {i:Option Nat} {ty:TypeId} {pos:String} {f:Array Edge} {g:Option (Nat×Bool)} {x y:Operand}
  {L:List Nat} {t E l bytes:Nat} {z:Value} {v:Value} {p:Option Nat} {rows:List (List C)} {row:List C} {A a:List Value} {b o c:Nat} (I:P.underlying t=some (.slice E)) (F:TI P E l bytes z) (N:gate j e g=true) (M:cN n i=true) (S:Nat.beq z.cells.size l=true)
  (Q:ev e x=v) (R:ev e y= .slice (some ⟨b,o,none⟩) 1 c) (B:iU L w E l v p rows A) (T:row.length=l) (J:gj w b o a) (D:∀u∈a,u.oneCell'=true)
  (O:dC (p.toList++L) w a row) (H:∀x∈L,x<w.heap.size) (hb:(rows.length+1)*(bytes+1)<=140737488355328)
  (k:∀s d q w',iU L w' E l (.slice s (rows.length+1) d) q (rows++[row]) (A++a)->ak p.toList w w'->(q=p\/q=some w.heap.size)->OW P n j K rest (cC e i<|.slice s (rows.length+1) d) w'):
  OW P n j K (⟨i,.call {callee:=.builtin .append,args:=#[x,y],argTypes:=#[t,t]},ty,pos,f,g⟩::rest) e w:=
 UD (new:=[row]) (m:=1) I F N M S Q B R rfl de (by intro r h;simp at h;rw[h];exact T) J D (by simpa using O) H hb k
def dC.Is:∀{vs:List Value} {b:List C},dC L w vs b->(∀c∈b,∀v,c= .val v->v.oneCell'=true)->∀u∈vs,u.oneCell'=true
 |[],[],_,_,u,a=>by simp at a
 |v::vs,c::b,h,hc,u,a=>by
  rcases mC.1 a with rfl|a
  .cases h.1 with
   |val=>exact hc _ sm _ rfl
   |nil=>rfl
   |sl=>rfl
  .exact dC.Is h.2 (λc e v d=>hc c (by simp[e]) v d) u a
def BO (P:Program) (e:Env) (w:World):ResultVar->Value->Prop
 | .tmp t,v=>e t=v
 | .cell t ty,v=>Ue P e t ty v w
def K9 (P:Program) (e:Env) (w:World):List ResultVar->List Value->Prop
 |[],[]=>True
 |[r],[v]=>BO P e w r v
 |r::rs,v::vs=>BO P e w r v/\K9 P e w rs vs
 |_,_=>False
def BP:List Value->Value
 |[v]=>v
 |vs=>.tuple vs.toArray
def Lb (b:Array Value):ResultVar->Sem Value
 | .tmp t=>pure<|b.getD t undef
 | .cell a t=>do loadVar t (<-asAddr (b.getD a undef))
theorem Iu (fn:Func) (a:Array Value):results fn a=(do let vs<-fn.results.mapM (Lb a);pure (if h:vs.size=1 then vs[0] else .tuple vs)):=rfl
def yH {e:Env} {tmps:Array Value} (b:∀t,tmps.getD t undef=e t) {r:ResultVar} (h:BO P e w r v):(Lb tmps r).run P w= .ok v w:=by
 cases r with
 |tmp t=>simp only[BO] at h;simp only[Lb,b,h];rfl
 |cell t ty=>obtain⟨a,c,d⟩:=h;simp only[Lb,b,c,asAddr,Sem.run_bind,Sem.run_pure,Result.andThen_ok,d]
def UF {fn:Func} {rs:List ResultVar} (d:fn.results=rs.toArray) {tmps:Array Value} {e:Env} (a:∀t,tmps.getD t undef=e t) (h:K9 P e w rs vs) (n:rs.length<=4):
  (results fn tmps).run P w= .ok (BP vs) w:=by
 match rs,vs,h with
 |[],[],_=>simp[Iu,d,BP]
 |[r],[v],h=>have b:=yH (tmps:=tmps) a<|show BO P e w r v from h;simp[Iu,d,BP,b]
 |[r,g],[v,i],h=>have b:=yH (tmps:=tmps) a h.1;have c:=yH (tmps:=tmps) a<|show BO P e w g i from h.2;simp[Iu,d,BP,b,c]
 |[r,g,j],[v,i,l],h=>have b:=yH (tmps:=tmps) a h.1;have c:=yH (tmps:=tmps) a h.2.1;have f:=yH (tmps:=tmps) a<|show BO P e w j l from h.2.2;simp[Iu,d,BP,b,c,f]
 |[r,g,j,o],[v,i,l,p],h=>have b:=yH (tmps:=tmps) a h.1;have c:=yH (tmps:=tmps) a h.2.1;have f:=yH (tmps:=tmps) a h.2.2.1;have m:=yH (tmps:=tmps) a<|show BO P e w o p from h.2.2.2;simp[Iu,d,BP,b,c,f,m]
 |_::_::_::_::_::_,_,_=>simp at n
def lq {P:Program} {f:FuncId} {fn:Func} {c:Code} {b:List Value} {w:World} {S:Value->World->Prop} (rs:List ResultVar) (n:Nat) 
  (l:P.funcs[f]?=some fn) (hb:fn.body=some c) (q:(fn.name== "runtime.NumGoroutine")=false) (o:fn.results=rs.toArray) (p:b.length+(fn.ntmps-b.length)=n) (m:Nat.ble rs.length 4=true)
  (h:CW P n c (λe w'=>∃vs,K9 P e w' rs vs/\S (BP vs) w') (λe w'=>∃vs,K9 P e w' rs vs/\S (BP vs) w') (λ_ _ _=>False) (start b) w):bC P f b w S:=by
 refine⟨⟨fn,l,by rw[hb];rfl,q⟩,calls_of_wp l hb<|wp_mono (h _ ?_) λx a w' i=>?_⟩
 .rw[<-p];simpa using Ud b (fn.ntmps-b.length)
 .cases x<;>simp only[oR] at i
  .obtain⟨e,d,vs,j,g⟩:=i;exact bodyPost_end (UF o d.get j<|Nat.le_of_ble_eq_true m) d.defers ⟨_,rfl,g⟩
  .obtain⟨e,d,g⟩:=i;exact g.elim
  .obtain⟨e,d,vs,j,g⟩:=i;exact bodyPost_ret (UF o d.get j<|Nat.le_of_ble_eq_true m) d.defers ⟨_,rfl,g⟩
section
variable {P:Program} {n:Nat} {ops:Array Oper} {K:Env->World->Prop} {rest:List Oper} {e:Env} {w:World}
 {dst:Option Nat} {ty:TypeId} {pos:String} {after:Array Edge} {g:Option (Nat×Bool)}
def adS {at_:Array TypeId} {i j z:Int} (b:gate ops e g=true) (a:cN n dst=true) (c:ev e x= .int k i) (d:ev e y= .int k j) (f:(if j<i then j else i)=z) 
  (l:OW P n ops K rest (cC e dst<|.int k z) w):OW P n ops K (⟨dst,.call {callee:=.builtin .min,args:=#[x,y],argTypes:=at_},ty,pos,after,g⟩::rest) e w:=
 fY b a (by simp[execOp,resolve,invoke,builtin,c,d,Builtin.min_,Builtin.min2,f]) l
def adT {at_:Array TypeId} {b:Operand} {i j a z:Int} (d:gate ops e g=true) (c:cN n dst=true) (f:ev e x= .int k i) (l:ev e y= .int k j) (p:ev e b= .int k a) (m:(if a<(if j<i then j else i) then a else(if j<i then j else i))=z) 
  (o:OW P n ops K rest (cC e dst<|.int k z) w):OW P n ops K (⟨dst,.call {callee:=.builtin .min,args:=#[x,y,b],argTypes:=at_},ty,pos,after,g⟩::rest) e w:=
 fY d c (by simp[execOp,resolve,invoke,builtin,f,l,p,Builtin.min_,Builtin.min2,m]) o
def OV {at_:Array TypeId} {i j z:Int} (b:gate ops e g=true) (a:cN n dst=true) (c:ev e x= .int k i) (d:ev e y= .int k j) (f:(if i<j then j else i)=z) 
  (l:OW P n ops K rest (cC e dst<|.int k z) w):OW P n ops K (⟨dst,.call {callee:=.builtin .max,args:=#[x,y],argTypes:=at_},ty,pos,after,g⟩::rest) e w:=
 fY b a (by simp[execOp,resolve,invoke,builtin,c,d,Builtin.max_,Builtin.max2,f]) l
def UG {fn:Fn} {a:List Operand} (c:gate ops e g=true) (b:cN n dst=true) (d:a.map (ev e)=vs) 
  (f:OW P n ops K rest (cC e dst<|.func fn #[] vs.toArray) w):OW P n ops K (⟨dst,.makeFunc fn #[] a.toArray,ty,pos,after,g⟩::rest) e w:=
 fY c b (by subst d;simp[execOp,Instr.makeFunc]) f
def OX {c:Operand} {b:List Value} {i:List Operand} {d:Array TypeId} (o:gate ops e g=true) (m:cN n dst=true) (l:ev e c= .func (.func f) #[] b.toArray) (h:bC P f (i.map (ev e)++b) w S) 
  (k:∀v w',S v w'->OW P n ops K rest (cC e dst v) w'):OW P n ops K (⟨dst,.call {callee:=.value c,args:=i.toArray,argTypes:=d},ty,pos,after,g⟩::rest) e w:=λa j Q=>by
 unfold wpList;rw[iP (by rw[F2 j];exact o)];refine .inl ?_;unfold Oper.wp;have r:(execOp (ev e) ⟨dst,.call {callee:=.value c,args:=i.toArray,argTypes:=d},ty,pos,after,g⟩).run P w= .ok (.enter f (i.map (ev e)++b).toArray) w:=by simp only[execOp,resolve,l,Deferred.ofValue,Sem.run_bind,Sem.run_pure,Result.andThen_ok,invoke];simp[OD h.1]
 rw[j.eval,r,Oper.upon_enter];exact Calls.mono h.2 λx w' ⟨v,q,p⟩=>by subst q;exact k v w' p _ (j.cC m v) Q
end
def gm (a:List aj):List (List C):=a.map λx=>[.val (str x)]
theorem oX (a:List aj):(gm a).length=a.length:=by simp[gm]
def UH {a:List aj} {x:aj} (h:a[i]?=some x):(gm a)[i]?=some [.val (str x)]:=by simp[gm,h]
def bo (L:List Nat) (w:World) (v:Value) (a:List aj):Prop:=cw L w v (.sl 1<|gm a)
def bo.ext {a:List aj} (h:bo L w v a) (k:ak [] w w'):bo L w' v a:=cw.ext h k
def bo.aB {a:List aj} (h:bo L w v a) (k:ak L' w w') (b:∀x∈L',x∈L):bo L w' v a:=cw.aG h<|k.mono b
def eA {b:List aj} (h:bo L w v b):∃a n c,v= .slice a n c/\n=b.length:=by grind [bo,tW,oX]
theorem UI {x:aj} (h:dC L w vs [.val (str x)]):vs=[str x]:=by
 match vs,h with
 |[v],h=>obtain⟨a,_⟩:=h;cases a;rfl
 |[],h=>exact h.elim
 |_::_::_,h=>exact h.2.elim
def mY {a:Option Addr} {c:Nat} {e:List aj} {x:aj} (h:bo L w (.slice a n c) e) (g:e[i]?=some x):
  ∃b off,a=some ⟨b,off,none⟩/\gj w b (off+i*1) [str x]:=by
 obtain⟨b,off,vs,f,hb,_,_,d,j⟩:=z8 h<|UH g;rw[UI j] at d;exact⟨b,off,f,d⟩
abbrev cu (a:List aj) (i:Nat):aj:=a.getD i []
theorem jW {xs:List aj} (h:i<xs.length):xs[i]?=some (cu xs i):=by grind
structure Bk where
 aQ:aj
 bS:List aj
 code:List aj
def Bk.enc (b:Bk):List C:=[.val<|str b.aQ,.sl 1<|gm b.bS,.sl 1 (gm b.code)]
def qC (L:List Nat) (w:World) (v:Value) (b:Bk):Prop:=ja L w v b.enc
def qC.ext {b:Bk} (h:qC L w v b) (k:ak [] w w'):qC L w' v b:=ja.ext h k
def UJ {b:Bk} (h:dC L w vs b.enc):∃a c,vs=[str b.aQ,a,c]/\bo L w a b.bS/\bo L w c b.code:=by
 rw[Bk.enc] at h
 match vs,h with
 |[_,a,c],h=>obtain⟨d,e,f,_⟩:=h;cases d;exact⟨a,c,rfl,e,f⟩
 |[],h=>exact h.elim
 |[_],h=>exact h.2.elim
 |[_,_],h=>exact h.2.2.elim
 |_::_::_::_::_,h=>exact h.2.2.2.elim
def BQ {b:Bk} (h:qC L w v b):∃d a c1 e c c2,v= .agg #[str b.aQ,.slice d a c1,.slice e c c2]/\
  a=b.bS.length/\c=b.code.length/\bo L w (.slice d a c1) b.bS/\bo L w (.slice e c c2) b.code:=by
 obtain⟨vs,rfl,l⟩:=h;obtain⟨_,_,rfl,f,g⟩:=UJ l;obtain⟨d,a,c1,rfl,j⟩:=eA f;obtain⟨e,c,c2,rfl,i⟩:=eA g;exact⟨d,a,c1,e,c,c2,rfl,j,i,f,g⟩
def BR {b:Bk} {a c:Value} (d:bo L w a b.bS) (e:bo L w c b.code):qC L w (.agg #[str b.aQ,a,c]) b:=
 ⟨[str b.aQ,a,c],rfl,.val _,d,e,trivial⟩
def ma (L:List Nat) (w:World) (v:Value) (bs:List Bk):Prop:=cw L w v (.sl 3<|bs.map Bk.enc)
def ma.ext {bs:List Bk} (h:ma L w v bs) (k:ak [] w w'):ma L w' v bs:=cw.ext h k
def wg {bs:List Bk} (h:ma L w v bs):∃a n c,v= .slice a n c/\n=bs.length:=by grind [ma,tW]
def ua {a:Option Addr} {c:Nat} {bs:List Bk} {k:Bk} (h:ma L w (.slice a n c) bs) (r:bs[i]?=some k):
  ∃b off f d c1 g e c2,a=some ⟨b,off,none⟩/\gj w b (off+i*3) [str k.aQ,.slice f d c1,.slice g e c2]/\
   d=k.bS.length/\e=k.code.length/\bo L w (.slice f d c1) k.bS/\bo L w (.slice g e c2) k.code:=by
 obtain⟨b,off,vs,p,hb,_,_,q,s⟩:=z8 h (show(bs.map Bk.enc)[i]?=some k.enc by simp[r]);obtain⟨_,_,rfl,j,l⟩:=UJ s;obtain⟨f,d,c1,rfl,o⟩:=eA j;obtain⟨g,e,c2,rfl,m⟩:=eA l;exact⟨b,off,f,d,c1,g,e,c2,p,q,o,m,j,l⟩
def Lc (p:Prop) (w:World) (b a:Nat) (c:List Value):Prop:=p->gj w b a c
def Lc.ext (h:Lc p w b off vs) (k:ak [] w w'):Lc p w' b off vs:=λa=>(h a).ext k
def Ld (p:Prop) (L:List Nat) (w:World) (v:Value) (a:List au):Prop:=p->cP L w v a
def Ld.ext {a:List au} (h:Ld p L w v a) (k:ak [] w w'):Ld p L w' v a:=λb=>(h b).ext k
end Go.Proofs.YtjkkipfboijfaaaGreatDoor
