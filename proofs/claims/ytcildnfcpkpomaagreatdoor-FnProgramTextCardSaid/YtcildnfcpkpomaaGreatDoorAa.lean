/- Lemmas for the law FnProgramText, no statement of their own: no conditions. -/
import Derived.Below
import Derived.Calls
import Derived.IntWalk
import Derived.Laws.AppendOwn
import Derived.Laws.Slices
import Derived.Laws.Small
import Derived.Laws.Strings
import Derived.Laws.Strings2
import Derived.Orders
import Derived.Tactics
set_option maxHeartbeats 4000000
set_option linter.unusedVariables false
set_option linter.unusedSimpArgs false
namespace Go.Proofs.YtcildnfcpkpomaaGreatDoor
open Go
variable {p:Prop} {a:Int} {E b bytes d i j m n o off sz t:Nat} {l:List Oper} {k k':IntKind} {c:Code} {P:Program} {f:FuncId} {v z:Value} {w w' w0:World} {S:Value->World->Prop} {D L L':List Nat} {vs xs:List Value} {g:Option Nat} {ops:Array Oper} {x y:Operand} {Q:Exit->Act->World->Prop} {F r:List (Value->World->Prop)}
abbrev pt (b:Nat):Value:=.pointer<|some ⟨b,0,none⟩
abbrev sc (b n c:Nat):Value:=.slice (some ⟨b,0,none⟩) n c
theorem om (h:p:=by omega):p:=h
theorem so (h:p:=by simp;omega):p:=h
theorem sm (h:p:=by simp):p:=h
theorem sx (h:p:=by simp<;>omega):p:=h
theorem de (h:p:=by decide):p:=h
abbrev rA:=List.range'
abbrev NG (f:Func):Prop:=(f.name== "runtime.NumGoroutine")=false
theorem ng {f:Func} (h:(f.name== "runtime.NumGoroutine")=false:=by kernel_rfl):NG f:=h
theorem mA {b:Type} {a:b} {s t:List b}:a∈s++t↔a∈s\/a∈t:=List.mem_append
theorem mC {c:Type} {a b:c} {l:List c}:a∈b::l↔a=b\/a∈l:=List.mem_cons
theorem gE {a:Type} {l:List a} (h:i<l.length):l[i]?=some l[i]:=List.getElem?_eq_getElem h
theorem lL {k:Nat} (h:n<m) (g:m<=k):n<k:=Nat.lt_of_lt_of_le h g
theorem lR (n:Nat):n<=n:=Nat.le_refl n
theorem bE (b:Bool):b=true\/b=false:=Bool.eq_false_or_eq_true b
theorem gG {b:Type} {l:List b} {a:b}:l.getD i a=l[i]?.getD a:=List.getD_eq_getElem?_getD
theorem lA {a:Type} {s t:List a}:(s++t).length=s.length+t.length:=List.length_append
theorem lC {b:Type} {a:b} {s:List b}:(a::s).length=s.length+1:=List.length_cons
theorem mR {b:Type} {a:b} (s:List b) {t:List b} (h:a∈t):a∈s++t:=List.mem_append_right s h
theorem mK {b:Type} (y:b) {a:b} {l:List b} (h:a∈l):a∈y::l:=List.mem_cons_of_mem y h
theorem iN {c:Prop} {h:Decidable c} (k:¬c) {a:Type} {t e:a}:(ite c t e)=e:=if_neg k
theorem iP {c:Prop} {h:Decidable c} (k:c) {a:Type} {t e:a}:(ite c t e)=t:=if_pos k
theorem dT [i:Decidable p] (h:p):decide p=true:=decide_eq_true h
theorem dF [i:Decidable p] (h:¬p):decide p=false:=decide_eq_false h
theorem aE (a b:Bool):((a&&b)=true)=(a=true/\b=true):=Bool.and_eq_true a b
theorem oE (a b:Bool):((a||b)=true)=(a=true\/b=true):=Bool.or_eq_true a b
theorem dE [i:Decidable p]:(decide p=true)=p:=decide_eq_true_eq

abbrev Env:=Nat->Value
def jc (e:Env) (d:Nat) (v:Value):Env:=λt=>bif Nat.beq t d then v else e t
theorem ni (e:Env) (d:Nat) (v:Value):jc e d v d=v:=by simp[jc,Nat.beq_refl]
theorem Ks (e:Env) (v:Value) (h:t≠d):jc e d v t=e t:=by grind [jc,Nat.beq,Nat.eq_of_beq_eq_true]
structure Fits (n:Nat) (e:Env) (a:Act):Prop where
 defers:a.defers=[]
 size:a.tmps.size=n
 get:∀t,a.tmps.getD t undef=e t
def ev (e:Env):Operand->Value
 | .tmp t=>e t
 | .const v=>v
 | .global g=>.pointer<|some ⟨g,0,none⟩
 | .func f=>.func (.func f) #[] #[]
theorem Fits.eval {e:Env} {a:Act} (h:Fits n e a):a.eval=ev e:=by funext x;cases x<;>simp[Act.eval,ev];rw[<-h.get,Array.getD_eq_getD_getElem?]
theorem abR (a:Array Value) (d t:Nat) (v u:Value) (b:d<a.size):(a.setIfInBounds d v).getD t u=if t=d then v else a.getD t u:=by
 simp only[Array.getD_eq_getD_getElem?,Array.getElem?_setIfInBounds];by_cases h:t=d
 .subst h;simp[b]
 .have:¬d=t:=λe=>h e.symm;simp[h,this]
theorem Fits.put {e:Env} {a:Act} (h:Fits n e a) (f:Nat.blt d n=true) (v:Value):Fits n (jc e d v) (a.put (some d) v):=by
 have b:d<n:=by simpa[Nat.blt_eq] using f
 refine⟨h.defers,by simp[Act.put,h.size],λt=>?_⟩;simp only[Act.put];rw[abR _ _ _ _ _ (by rw[h.size];exact b),h.get];by_cases c:t=d
 .subst c;simp[ni]
 .rw[Ks _ _ c,iN c]
@[reducible] def cj (e:Env):Option Nat->Value->Env
 |some d,v=>jc e d v
 |none,_=>e
def cK (n:Nat):Option Nat->Bool
 |some d=>Nat.blt d n
 |none=>true
theorem Fits.cj {e:Env} {a:Act} (h:Fits n e a) {d:Option Nat} (b:cK n d=true) (v:Value):Fits n (cj e d v) (a.put d v):=by
 cases d with
 |none=>exact h
 |some d=>exact h.put b v
def qD (n:Nat) (K:Env->World->Prop) (Q:Exit->Act->World->Prop):Exit->Act->World->Prop
 | .normal,a,w=>∃e,Fits n e a/\K e w
 |x,a,w=>Q x a w
def OW (P:Program) (n:Nat) (b:Array Oper) (K:Env->World->Prop) (l:List Oper) (e:Env) (w:World):Prop:=
 ∀a,Fits n e a->∀Q,wpList P b (qD n K Q) l a w
def mc (n:Nat) (N R:Env->World->Prop) (X:Nat->Env->World->Prop):Exit->Act->World->Prop
 | .normal,a,w=>∃e,Fits n e a/\N e w
 | .ret,a,w=>∃e,Fits n e a/\R e w
 | .exit i,a,w=>∃e,Fits n e a/\X i e w
 |_,_,_=>False
def CW (P:Program) (n:Nat) (c:Code) (N R:Env->World->Prop) (X:Nat->Env->World->Prop) (e:Env) (w:World):Prop:=
 ∀a,Fits n e a->c.wp P (mc n N R X) a w
section
variable {P:Program} {n:Nat} {N R:Env->World->Prop} {X:Nat->Env->World->Prop} {e:Env} {w:World}
theorem CW.mono {f g:Env->World->Prop} {j:Nat->Env->World->Prop} (h:CW P n c N R X e w) 
  (l:∀e w,N e w->f e w) (m:∀e w,R e w->g e w) (o:∀i e w,X i e w->j i e w):CW P n c f g j e w:=λa p=>
 wp_mono (h a p) λx a w d=>by
  cases x<;>simp only[mc] at d⊢
  .obtain⟨e,b,hk⟩:=d;exact⟨e,b,l _ _ hk⟩
  .obtain⟨e,b,hk⟩:=d;exact⟨e,b,o _ _ _ hk⟩
  .obtain⟨e,b,hk⟩:=d;exact⟨e,b,m _ _ hk⟩
theorem j1 {x y:Code} (h:CW P n x (λe w=>CW P n y N R X e w) R X e w):CW P n (x.seq y) N R X e w:=λa c=>
 wp_seq (wp_mono (h a c) λex a w b=>by
  cases ex<;>simp only[mc] at b<;>simp only[Exit.then]<;>first|exact b|skip
  obtain⟨e,d,hk⟩:=b;exact hk a d)
theorem iD (h:N e w):CW P n .skip N R X e w:=λ_ a=>wp_skip ⟨e,a,h⟩
theorem la (h:R e w):CW P n .ret N R X e w:=λ_ a=>wp_ret ⟨e,a,h⟩
theorem Bn (h:X i e w):CW P n (.exit i) N R X e w:=λ_ a=>wp_exit ⟨e,a,h⟩
theorem vw (h:CW P n c N R (λj e w=>bif Nat.beq j i then N e w else X j e w) e w):CW P n (.block i c) N R X e w:=λa g=>
 wp_block (wp_mono (h a g) λex a w d=>by
  cases ex<;>simp only[mc] at d<;>simp only[Exit.inBlock]<;>first|exact d|skip
  rename_i j;obtain⟨e,f,hk⟩:=d;by_cases b:j=i
  .subst b;simp only[if_true,mc];rw[Nat.beq_refl] at hk;exact⟨e,f,hk⟩
  .have hb:Nat.beq j i=false:=by
    cases l:Nat.beq j i with
    |true=>exact absurd (Nat.eq_of_beq_eq_true l) b
    |false=>rfl
   rw[hb] at hk;simp only[b,if_false,mc];exact⟨e,f,hk⟩)
theorem Bo {A B:Prop} (h:Nat.beq j i=true) (k:A):(bif Nat.beq j i then A else B):=by rw[h];exact k
theorem FG {A B:Prop} (h:Nat.beq j i=false) (k:B):(bif Nat.beq j i then A else B):=by rw[h];exact k
theorem abT {c:Operand} {x y:Code} {t:Bool} (d:ev e c= .bool t) (f:t=true->CW P n x N R X e w) (g:t=false->CW P n y N R X e w):
  CW P n (.cond c x y) N R X e w:=λa b=>
 wp_cond_split (t:=t) (by rw[b.eval];exact d) (λh=>f h a b) λh=>g h a b
theorem mf {id:Nat} (h:OW P n l.toArray N l e w):CW P n (.region id l.toArray false) N R X e w:=λa c=>
 wp_mono (wp_region_lit<|h a c λ_ _ _=>False) λex a w b=>by cases ex<;>simp only[qD] at b<;>simp only[mc]<;>exact b
def Holds:List (Nat×Value)->Env->Prop
 |[],_=>True
 |[p],e=>e p.1=p.2
 |p::r,e=>e p.1=p.2/\Holds r e
def aY (e:Env):List (Nat×Value)->Env
 |[]=>e
 |p::r=>jc (aY e r) p.1 p.2
theorem abU {p:Nat×Value} {r:List (Nat×Value)} (h:Holds (p::r) e):e p.1=p.2/\Holds r e:=by grind [Holds]
theorem Kt:∀{l:List (Nat×Value)},Holds l e->aY e l=e
 |[],_=>rfl
 |p::r,h=>by
  obtain⟨b,c⟩:=abU h;simp only[aY,Kt c];funext t;by_cases a:t=p.1
  .subst a;rw[ni,b]
  .rw[Ks _ _ a]
theorem eW {c:Code} {G:Type} (L:G->List (Nat×Value)) (I:G->World->Prop) (A:G->Nat) (C:G) (O:Holds (L C) e) (Q:I C w) 
  (q:∀g w K,I g w->CW P n c (λJ w'=>∃r,Holds (L r) J/\I r w'/\A r<A g) R X (aY K (L g)) w):
  CW P n (.loop c) N R X e w:=by
 intro a S b k B;have F:∀m (g:G) (e:Env) (a:Act) (w:World),A g=m->Fits n e a->Holds (L g) e->I g w->
   ∃x z w',mc n N R X x z w'/\Arrives P (lone (b.at a (.code c:: .inLoop c::k)) B w) b k B x z w':=by
  intro m;induction m using Nat.strongRecOn with
  |_ m Z=>
   intro g e a w Y T U V;have H:=q g w e V;rw[Kt U] at H;obtain⟨x,d,i,j,s⟩:=H a T b (.inLoop c::k) B;cases x with
   |normal=>obtain⟨u,o,r,D,E,M⟩:=j;obtain⟨y,t,v,p,f⟩:=Z (A r) (Y▸M) r u d i rfl o D E;exact⟨y,t,v,p,.of_steps (Steps.trans s<|.one step_inLoop) f⟩
   |exit id=>exact⟨_,d,i,by simpa only[mc] using j,.pass (x:=.inLoop c) rfl (λ_ _=>.inl sm) s⟩
   |goto l=>simp[mc] at j
   |ret=>exact⟨_,d,i,by simpa only[mc] using j,.pass (x:=.inLoop c) rfl (λ_ _=>.inl sm) s⟩
   |panic _=>simp[mc] at j
   |outgrown=>simp[mc] at j
 obtain⟨x,z,w',j,s⟩:=F _ C e a w rfl S O Q;exact⟨x,z,w',j,.of_steps (.one step_loop) s⟩
theorem jq {c:Code} {G:Type} (L:G->List (Nat×Value)) (I:G->World->Prop) 
  (h:CW P n c (λa w'=>∃g,Holds (L g) a/\I g w') R X e w) (k:∀g w' b,I g w'->N (aY b (L g)) w'):CW P n c N R X e w:=
 h.mono (λa w' ⟨g,d,f⟩=>by have:=k g w' a f;rwa [Kt d] at this) (λ_ _ h=>h) λ_ _ _ h=>h
end
/-! ### A function -/
def ru (P:Program) (f:FuncId):Prop:=∃fn,P.funcs[f]?=some fn/\fn.body.isNone=false/\(fn.name== "runtime.NumGoroutine")=false
theorem ru.mk' {fn:Func} (h:P.funcs[f]?=some fn) (hb:fn.body.isNone=false) (a:(fn.name== "runtime.NumGoroutine")=false):ru P f:=⟨fn,h,hb,a⟩
def bD (P:Program) (f:FuncId) (a:List Value) (w:World) (S:Value->World->Prop):Prop:=
 ru P f/\Calls P f a.toArray w λe w'=>∃v,e= .returned v/\S v w'
def Ds (e:Env):List ResultVar->Option Value
 |[.tmp t]=>some<|e t
 |[.tmp t,.tmp u]=>some<|.tuple #[e t,e u]
 |[.tmp t,.tmp u,.tmp x]=>some<|.tuple #[e t,e u,e x]
 |[]=>some<|.tuple #[]
 |_=>none
theorem S6 {fn:Func} {rs:List ResultVar} (c:fn.results=rs.toArray) {a:Array Value} {e:Env} (b:∀t,a.getD t undef=e t) (h:Ds e rs=some v) (P:Program) (w:World):
  (results fn a).run P w= .ok v w:=by
 match rs,h with
 |[.tmp t],h=>simp only[Ds,Option.some.injEq] at h;subst h;rw[<-b];exact results_tmp c _ _ _
 |[.tmp t,.tmp u],h=>simp only[Ds,Option.some.injEq] at h;subst h;rw[<-b,<-b];exact results_tmp2 c _ _ _
 |[.tmp t,.tmp u,.tmp x],h=>simp only[Ds,Option.some.injEq] at h;subst h;rw[<-b,<-b,<-b];simp[results,c]
 |[],h=>simp only[Ds,Option.some.injEq] at h;subst h;exact results_none c _ _ _
def start (a:List Value):Env:=λt=>a.getD t undef
theorem S7 (a:List Value) (m:Nat):Fits (a.length+m) (start a) {tmps:=a.toArray++Array.replicate m undef,defers:=[]}:=by
 refine⟨rfl,sm,λt=>?_⟩;simp only[start,Array.getD_eq_getD_getElem?,gG,Array.getElem?_append,List.size_toArray,List.getElem?_toArray];by_cases h:t<a.length
 .rw[iP h]
 .rw[iN h,List.getElem?_eq_none om];by_cases b:t-a.length<m<;>simp[b]
theorem cu {P:Program} {f:FuncId} {fn:Func} {c:Code} {b:List Value} {w:World} {S:Value->World->Prop} (rs:List ResultVar) (n:Nat) 
  (l:P.funcs[f]?=some fn) (hb:fn.body=some c) (p:(fn.name== "runtime.NumGoroutine")=false) (m:fn.results=rs.toArray) (o:b.length+(fn.ntmps-b.length)=n)
  (h:CW P n c (λe w'=>∃v,Ds e rs=some v/\S v w') (λe w'=>∃v,Ds e rs=some v/\S v w') (λ_ _ _=>False) (start b) w):bD P f b w S:=by
 refine⟨⟨fn,l,by rw[hb];rfl,p⟩,calls_of_wp l hb<|wp_mono (h _ ?_) λx a w' i=>?_⟩
 .rw[<-o];simpa using S7 b (fn.ntmps-b.length)
 .cases x<;>simp only[mc] at i
  .obtain⟨e,d,v,j,g⟩:=i;exact bodyPost_end (S6 m d.get j P w') d.defers ⟨v,rfl,g⟩
  .obtain⟨e,d,g⟩:=i;exact g.elim
  .obtain⟨e,d,v,j,g⟩:=i;exact bodyPost_ret (S6 m d.get j P w') d.defers ⟨v,rfl,g⟩
def S8 (P:Program) (e:Env) (t ty:Nat) (v:Value) (w:World):Prop:=∃a,e t= .pointer (some a)/\(loadVar ty a).run P w= .ok v w
structure aj (L:List Nat) (w w':World):Prop where
 os:w'.os=w.os
 tape:w'.tape=w.tape
 output:w'.output=w.output
 size:w.heap.size<=w'.heap.size
 block:∀k,k<w.heap.size->k∉L->w'.heap[k]?=w.heap[k]?
theorem aj.refl (L:List Nat) (w:World):aj L w w:=⟨rfl,rfl,rfl,lR _,λ_ _ _=>rfl⟩
theorem aj.trans {a b c:World} (h:aj L a b) (k:aj L b c):aj L a c:=
 ⟨k.os.trans h.os,k.tape.trans h.tape,k.output.trans h.output,Nat.le_trans h.size k.size,λi d e=>(k.block i (lL d h.size) e).trans<|h.block i d e⟩
theorem aj.mono {a b:World} (h:aj L a b) (c:∀x∈L,x∈L'):aj L' a b:=
 ⟨h.os,h.tape,h.output,h.size,λk hk d=>h.block k hk λe=>d<|c k e⟩
theorem aj.any {a b:World} (h:aj [] a b):aj L a b:=h.mono sm
theorem aj.drew (L:List Nat) (w:World):aj L w {w with drawn:=w.drawn+1}:=⟨rfl,rfl,rfl,lR _,λ_ _ _=>rfl⟩
theorem aj.alloc (L:List Nat) (w:World) (o:Obj):aj L w (w.alloc o):=⟨rfl,rfl,rfl,sm,λk hk _=>heap_alloc_old w o k hk⟩
theorem aj.below {a b:World} (h:aj L a b) {B:Nat} (e:B<=a.heap.size) (c:∀x∈L,B<=x):Go.RowKit.Below B a b:=
 ⟨h.os,h.tape,h.output,h.size,λk hk=>h.block k om λd=>by have:=c k d;omega⟩
theorem aj.since {a b c:World} (h:aj L a b) (k:aj L' b c) (g:∀x∈L',x∈L\/a.heap.size<=x):aj L a c:=
 ⟨k.os.trans h.os,k.tape.trans h.tape,k.output.trans h.output,Nat.le_trans h.size k.size,λi e f=>
  (k.block i (lL e h.size) (λj=>by rcases g i j with d|d;exact f d;omega)).trans (h.block i e f)⟩
def aK (w:World) (b:Nat) (a:Array Value) (T:TypeId):Prop:=w.heap[b]?=some (.cells a T (0,0))
theorem aK.aG {a:Array Value} {T:TypeId} (h:aK w b a T) (k:aj L w w') (hb:b∉L):aK w' b a T:=
 (k.block b (Array.getElem?_eq_some_iff.1 h).1 hb).trans h
theorem aK.lt {a:Array Value} {T:TypeId} (h:aK w b a T):b<w.heap.size:=(Array.getElem?_eq_some_iff.1 h).1
theorem aK.cell {a:Array Value} {T:TypeId} (h:aK w b a T) (i:Nat):w.cell? ⟨b,i,none⟩=a[i]?:=cell_of_row w b i a T (0,0) h
theorem aK.frozen {a:Array Value} {T:TypeId} (h:aK w b a T) (i:Nat):w.frozen? ⟨b,i,none⟩=false:=by simp only[World.frozen?];rw[show w.heap[b]?=_ from h];simp
theorem aK.alloc (w:World) (a:Array Value) (T:TypeId):aK (w.alloc<|.cells a T) w.heap.size a T:=heap_alloc_new w _
theorem aK.set {a:Array Value} {T:TypeId} (h:aK w b a T) (i:Nat) (v:Value):aK (w.setCell ⟨b,i,none⟩ v) b (a.setIfInBounds i v) T:=by unfold aK at*;simp only[World.setCell,Array.getElem?_modify,if_true,h];simp
theorem aj.setCell (w:World) (b i:Nat) (v:Value):aj [b] w (w.setCell ⟨b,i,none⟩ v):=
 ⟨rfl,rfl,rfl,by simp[World.setCell],λk _ a=>Go.RowKit.Below.heap_setCell w _ v k<|by simpa using a⟩
inductive C where
 |val (v:Value)
 |sl (size:Nat) (rows:List (List C))
inductive cA (L:List Nat) (w:World):Value->C->Prop
 |val (v:Value):cA L w v (.val v)
 |nil (a:Option Addr) (cap size:Nat):cA L w (.slice a 0 cap) (.sl size [])
 |sl (b off len cap size:Nat) (rows:List (List C)) (f:Nat->Nat->Value) (hl:rows.length=len) (hc:len<=cap) (hb:b<w.heap.size) (hL:b∉L)
   (hs:∀row∈rows,row.length=size)
   (lB:∀i j,i<len->j<size->w.cell? ⟨b,off+i*size+j,none⟩=some (f i j))
   (jr:∀i j row c,rows[i]?=some row->row[j]?=some c->cA L w (f i j) c):cA L w (.slice (some ⟨b,off,none⟩) len cap) (.sl size rows)
theorem cA.aG {c:C} (h:cA L w v c) (k:aj L w w'):cA L w' v c:=by
 induction h with
 |val v=>exact .val v
 |nil a c s=>exact .nil a c s
 |sl b off len d size rows f n g hb e o q _ p=>
  exact .sl b off len d size rows f n g (lL hb k.size) e o
   (λi j l m=>(World.cell?_of_block<|k.block b hb e).trans<|q i j l m) p
theorem cA.fresh {c:C} (h:cA L w v c) (g:∀x∈L',x∈L\/w.heap.size<=x):cA L' w v c:=by
 induction h with
 |val v=>exact .val v
 |nil a c s=>exact .nil a c s
 |sl b off len d size rows f j i hb o l p _ n=>exact .sl b off len d size rows f j i hb (λm=>by rcases g b m with e|e;exact o e;omega) l p n
theorem cA.weaken {c:C} (h:cA L w v c) (a:∀x∈L',x∈L):cA L' w v c:=h.fresh λx b=>.inl<|a x b
theorem cA.none {c:C} (h:cA L w v c):cA [] w v c:=h.weaken sm
def dy (L:List Nat) (w:World):List Value->List C->Prop
 |[],[]=>True
 |v::vs,c::cs=>cA L w v c/\dy L w vs cs
 |_,_=>False
theorem dy.length:∀{vs:List Value} {a:List C},dy L w vs a->vs.length=a.length
 |[],[],_=>rfl
 |_::_,_::_,h=>by simp[dy.length h.2]
theorem dy.get:∀{vs:List Value} {a:List C},dy L w vs a->∀{j:Nat} {v:Value} {c:C},vs[j]?=some v->a[j]?=some c->cA L w v c
 |_::_,_::_,h,0,_,_,hv,hc=>by simp at hv hc;subst hv;subst hc;exact h.1
 |_::_,_::_,h,j+1,_,_,hv,hc=>dy.get h.2 (j:=j) (by simpa using hv)<|by simpa using hc
theorem dy.of:∀{vs:List Value} {a:List C},vs.length=a.length->(∀(j:Nat) (v:Value) (c:C),vs[j]?=some v->a[j]?=some c->cA L w v c)->dy L w vs a
 |[],[],_,_=>trivial
 |v::vs,c::a,hl,h=>⟨h 0 v c rfl rfl,dy.of (by simpa using hl) λj f b e d=>h (j+1) f b (by simpa using e)<|by simpa using d⟩
theorem dy.aG {a:List C} (h:dy L w vs a) (k:aj L w w'):dy L w' vs a:=dy.of h.length λ_ _ _ c b=>(h.get c b).aG k
theorem dy.fresh {a:List C} (h:dy L w vs a) (b:∀x∈L',x∈L\/w.heap.size<=x):dy L' w vs a:=dy.of h.length λ_ _ _ d c=>(h.get d c).fresh b
theorem dy.append:∀{vs:List Value} {b:List C} {vs':List Value} {cs':List C},dy L w vs b->dy L w vs' cs'->dy L w (vs++vs') (b++cs')
 |[],[],_,_,_,a=>a
 |_::_,_::_,_,_,h,a=>⟨h.1,dy.append h.2 a⟩
def jh (L:List Nat) (w:World) (v:Value) (a:List C):Prop:=∃vs:List Value,v= .agg vs.toArray/\dy L w vs a
theorem jh.aG {a:List C} (h:jh L w v a) (k:aj L w w'):jh L w' v a:=
 let⟨vs,e,h⟩:=h;⟨vs,e,h.aG k⟩
theorem jh.fresh {a:List C} (h:jh L w v a) (b:∀x∈L',x∈L\/w.heap.size<=x):jh L' w v a:=
 let⟨vs,e,h⟩:=h;⟨vs,e,h.fresh b⟩
def fZ (w:World) (b a:Nat) (c:List Value):Prop:=∀(j:Nat) (v:Value),c[j]?=some v->w.cell? ⟨b,a+j,none⟩=some v
theorem sX {size:Nat} {rows:List (List C)} (h:cA L w v (.sl size rows)):∃a d,v= .slice a rows.length d/\rows.length<=d:=by
 cases h with
 |nil a c s=>exact⟨a,c,rfl,Nat.zero_le _⟩
 |sl b off len d size rows f e _=>exact⟨_,d,by rw[e],om⟩
theorem zw {a:Option Addr} {len d size:Nat} {rows:List (List C)} (h:cA L w (.slice a len d) (.sl size rows)) {row:List C} (g:rows[i]?=some row):
  ∃b off vs,a=some ⟨b,off,none⟩/\b<w.heap.size/\b∉L/\vs.length=size/\fZ w b (off+i*size) vs/\dy L w vs row:=by
 cases h with
 |nil=>simp at g
 |sl b off len d size rows f _ _ hb o p s r=>
  have u:i<rows.length:=(List.getElem?_eq_some_iff.1 g).1;have q:row.length=size:=p row<|List.mem_of_getElem? g;refine⟨b,off,(List.range size).map<|f i,rfl,hb,o,sm,λj v m=>?_,dy.of (by simp[q]) λj v c n t=>?_⟩
  .have l:j<size:=by have:=(List.getElem?_eq_some_iff.1 m).1;simpa using this
   have e:f i j=v:=by simpa[List.getElem?_map,l] using m
   rw[<-e];exact s i j om l
  .have l:j<size:=by have:=(List.getElem?_eq_some_iff.1 n).1;simpa using this
   have e:f i j=v:=by simpa[List.getElem?_map,l] using n
   rw[<-e];exact r i j row c g t
theorem S9 (b e d size:Nat) (rows:List (List C)) (a:List (List Value)) (o:a.length=rows.length) (u:rows.length<=d) (hb:b<w.heap.size) (t:b∉L) 
  (q:∀row∈rows,row.length=size)
  (v:∀(i:Nat) (vs:List Value),a[i]?=some vs->fZ w b (e+i*size) vs)
  (s:∀(i:Nat) (vs:List Value) (row:List C),a[i]?=some vs->rows[i]?=some row->dy L w vs row):cA L w (.slice (some ⟨b,e,none⟩) rows.length d) (.sl size rows):=by
 refine .sl b e rows.length d size rows (λi j=>(a.getD i []).getD j undef) rfl u hb t q (λi j g m=>?_) λi j row c g m=>?_
 .obtain⟨vs,f⟩:∃vs,a[i]?=some vs:=⟨a[i]'om,gE om⟩;obtain⟨row,r⟩:∃row,rows[i]?=some row:=⟨rows[i]'g,gE g⟩;have n:=(s i vs row f r).length;rw[q row (List.mem_of_getElem? r)] at n;have l:vs[j]?=some vs[j]:=gE om;have:=v i vs f j _ l;rw[this];simp[gG,f,l]
 .obtain⟨vs,f⟩:∃vs,a[i]?=some vs:=⟨a[i]'(by have:=(List.getElem?_eq_some_iff.1 g).1;omega),gE (by have:=(List.getElem?_eq_some_iff.1 g).1;omega)⟩;have p:=s i vs row f g;have n:=p.length;have y:=(List.getElem?_eq_some_iff.1 m).1;have l:vs[j]?=some vs[j]:=gE om;have:=p.get l m;simpa[gG,f,l] using this
theorem abX {len d size:Nat} {rows:List (List C)} (h:cA L w (.slice (some ⟨b,off,none⟩) len d) (.sl size rows)) (i:Nat) (u:i<=len) (a:Option Addr) 
  (p:i<d->a=some ⟨b,off+i*size,none⟩) (e:i=d->a=some ⟨b,off,none⟩):cA L w (.slice a (len-i)<|d-i) (.sl size<|rows.drop i):=by
 cases h with
 |nil=>rw[List.drop_nil,show i=0 from by omega];exact .nil _ _ _
 |sl b off len d size rows f q _ hb o r t s=>
  by_cases g:i<d
  .rw[p g];refine .sl b (off+i*size) (len-i) (d-i) size (rows.drop i) (λk j=>f (i+k) j) (by simp[q]) om hb o (λrow n=>r row<|List.mem_of_mem_drop n) (λk j hk l=>?_) λk j row c hk l=>?_
   .have:=t (i+k) j om l;rw[<-this];congr 2;rw[Nat.add_mul];omega
   .exact s (i+k) j row c (by simpa using hk) l
  .have:i=d:=by omega
   subst this;rw[e rfl];have m:len=i:=by omega
   have n:rows.drop i=[]:=by apply List.drop_of_length_le;omega
   rw[n];have:=cA.sl (L:=L) (w:=w) b off 0 0 size [] f rfl (lR _) hb o sm om sm;simpa[m] using this
def iX (w:World) (T:TypeId) (d:Nat) (v:Value) (g:Option Nat) (n:Nat) (e:List Value):Prop:=
 e.length=n*d/\
 ((v= .slice none 0 0/\n=0/\g=none)\/
  ∃b a c,g=some b/\v= .slice (some ⟨b,0,none⟩) n a/\aK w b c T/\n<=a/\a<=maxLen/\c.size=a*d/\c.toList.take (n*d)=e)
theorem iX.nil (w:World) (T:TypeId) (a:Nat):iX w T a (.slice none 0 0) none 0 []:=by grind [iX]
theorem iX.aG {T:TypeId} (h:iX w T sz v g n xs) (k:aj L w w') (d:∀b,g=some b->b∉L):iX w' T sz v g n xs:=by
 refine⟨h.1,?_⟩;rcases h.2 with h|⟨b,a,c,e,f,hb,r⟩
 .exact .inl h
 .exact .inr ⟨b,a,c,e,f,hb.aG k<|d b e,r⟩
theorem iX.lt {T:TypeId} (h:iX w T sz v g n xs):∀b,g=some b->b<w.heap.size:=by
 intro b e;rcases h.2 with⟨_,_,h⟩|⟨b',cap,cur,e',hv,hb,r⟩
 .rw[e] at h;cases h
 .rw[e] at e';cases e';exact hb.lt
theorem iX.len {T:TypeId} (h:iX w T sz v g n xs):∃a b,v= .slice a n b:=by grind [iX]
section
variable {P:Program} {w:World}
theorem NW {t ty T:TypeId} {i:TypeInfo} {C bytes:Nat} (F:P.underlying t=some (.slice T)) (E:P.info? T=some i) (L:i.zero=some z) 
  (Q:i.size=C) (S:i.bytes=bytes) (zz:z.cells.size=C)
  {v:Value} {g:Option Nat} {n:Nat} {l:List Value} (A:iX w T C v g n l)
  (q d m c:Nat) (a:List Value) (r:a.length=m*C) (R:fZ w q d a) (U:∀u∈a,u.oneCell'=true) (V:0<m)
  (K:n+m<=maxLen) (O:(n+m)*bytes<=140737488355328):
  ∃M D w',(Builtin.append_ #[t,t] ty #[v,.slice (some ⟨q,d,none⟩) m c]).run P w= .ok M w'/\iX w' T C M D (n+m) (l++a)/\aj g.toList w w'/\
   (D=g\/D=some w.heap.size):=by
 subst Q;subst S;have FH:n+m<=9223372036854775807:=by simp only[maxLen] at K;omega
 have e:(l++a).length=(n+m)*i.size:=by rw[lA,A.1,r,Nat.add_mul]
 have N:∀b o j:Nat,(⟨b,o,none⟩:Addr).add j=⟨b,o+j,none⟩:=λb o j=>by unfold Addr.add;split<;>simp_all
 have J:∀j u,a[j]?=some u->w.cell? ((⟨q,d,none⟩:Addr).add j)=some u:=λj u s=>by rw[N];exact R j u s
 have f:∀(old:Nat),old<n+m->
   iX (w.drew.alloc<|.cells (l.toArray++a.toArray++Builtin.zeroCells z.cells (grownCap w (n+m) old T-(n+m))) T) T i.size
    (.slice (some ⟨w.heap.size,0,none⟩) (n+m)<|grownCap w (n+m) old T) (some w.heap.size) (n+m) (l++a)/\
   aj g.toList w (w.drew.alloc<|.cells (l.toArray++a.toArray++Builtin.zeroCells z.cells (grownCap w (n+m) old T-(n+m))) T):=by
  intro old _;have Z:=grownCap_ge w (n+m) old T;have H:grownCap w (n+m) old T<=maxLen:=grownCap_le_maxLen w (n+m) old T K;refine⟨⟨e,.inr ⟨w.heap.size,_,_,rfl,rfl,heap_alloc_new w.drew _,Z,H,?_,?_⟩⟩,⟨rfl,rfl,rfl,sm,λk hk _=>heap_alloc_old w.drew _ k hk⟩⟩
  .simp only[Array.size_append,List.size_toArray,size_zeroCells,zz,A.1,r,<-Nat.add_mul]
   congr 1
   omega
  .simp only[Array.toList_append,List.append_assoc];rw[<-List.append_assoc,<-e];exact List.take_left
 rcases A.2 with⟨rfl,rfl,rfl⟩|⟨b,cap,cur,rfl,rfl,hb,nW,H,cL,vz⟩
 .have X:l=[]:=List.eq_nil_of_length_eq_zero (by simpa using A.1);subst X;have B:=run_append_nil (P:=P) w t ty T i z F E L ⟨q,d,none⟩ m c a r J V om (by have hb:=O;simp only[Nat.zero_add] at hb;omega);have y:=f 0 om;simp only[Nat.zero_add,List.nil_append,Array.empty_append] at y⊢;exact⟨_,_,_,B,y.1,y.2,.inr rfl⟩
 .by_cases I:n+m<=cap
  .have Y:n*i.size+a.length<=cur.size:=by rw[r,cL,<-Nat.add_mul];exact Nat.mul_le_mul_right _ I
   have B:=run_append_room (P:=P) w t ty T i F E b n cap cur hb ⟨q,d,none⟩ m c a r J U I Y;refine⟨_,some b,_,B,⟨e,.inr ⟨b,cap,_,rfl,rfl,setRow_heap w b cur _ T _ hb,I,H,?_,?_⟩⟩,⟨rfl,rfl,rfl,sm,λk _ hk=>setRow_other w b k _<|by simpa using hk⟩,.inl rfl⟩
   .simp only[List.size_toArray,lA,List.length_take,List.length_drop,Array.length_toList];omega
   .rw[vz,<-e];exact List.take_left
  .have p:∀j u,l[j]?=some u->w.cell? ((⟨b,0,none⟩:Addr).add j)=some u:=λj u s=>by
    rw[N,hb.cell];rw[<-vz,List.getElem?_take] at s;split at s
    .simpa using s
    .cases s
   have B:=run_append_grow (P:=P) w t ty T i z F E L ⟨b,0,none⟩ n cap l A.1 p ⟨q,d,none⟩ m c a r J om om<|growslice_fits om O;have y:=f cap om;exact⟨_,_,_,B,y.1,y.2,.inr rfl⟩
end
structure iF (L:List Nat) (w:World) (T:TypeId) (sz:Nat) (v:Value) (g:Option Nat) (rows:List (List C)) (xs:List Value):Prop where
 own:iX w T sz v g rows.length xs
 rep:dy (g.toList++L) w xs rows.flatten
 row:∀row∈rows,row.length=sz
 out:∀b,g=some b->b∉L
theorem iF.nil (L:List Nat) (w:World) (T:TypeId) (a:Nat):iF L w T a (.slice none 0 0) none [] []:=
 ⟨iX.nil _ _ _,trivial,sm,sm⟩
theorem iF.aG {T:TypeId} {rows:List (List C)} (h:iF L w T sz v g rows xs) (k:aj L' w w') 
  (c:∀x∈L',x∈L):iF L w' T sz v g rows xs:=
 ⟨h.own.aG k λb e a=>h.out b e<|c b a,h.rep.aG<|k.mono λx a=>by simp[c x a],h.row,h.out⟩
theorem iF.more {d:List Nat} {T:TypeId} {rows:List (List C)} (h:iF L w T sz v g rows xs) 
  (f:∀x∈d,x∈L\/w.heap.size<=x):iF d w T sz v g rows xs:=
 ⟨h.own,h.rep.fresh (λx a=>by
   rcases mA.1 a with a|a
   .exact .inl<|by simp[a]
   .rcases f x a with c|c
    .exact .inl<|by simp[c]
    .exact .inr c),h.row,λb e a=>by rcases f b a with c|c;exact h.out b e c;have:=h.own.lt b e;omega⟩
theorem iF.len {T:TypeId} {rows:List (List C)} (h:iF L w T sz v g rows xs):∃a b,v= .slice a rows.length b:=h.own.len
theorem Dv {b:Type}:∀{rows:List (List b)},(∀row∈rows,row.length=sz)->∀{i j:Nat} {row:List b} {c:b},rows[i]?=some row->row[j]?=some c->rows.flatten[i*sz+j]?=some c
 |r::rows,h,0,j,row,c,hi,hj=>by simp only[List.getElem?_cons_zero,Option.some.injEq] at hi;subst hi;simp only[List.flatten_cons,Nat.zero_mul,Nat.zero_add];rw[List.getElem?_append_left (List.getElem?_eq_some_iff.1 hj).1];exact hj
 |r::rows,h,i+1,j,row,c,hi,hj=>by have a:r.length=sz:=h r sm;have:=Dv (rows:=rows) (λrow a=>h row<|by simp[a]) (i:=i) (by simpa using hi) hj;rw[List.flatten_cons,List.getElem?_append_right (by rw[a,Nat.add_mul];omega),a];rw[<-this];congr 1;rw[Nat.add_mul];omega
theorem NX {a:Type}:∀{rows:List (List a)},(∀row∈rows,row.length=sz)->rows.flatten.length=rows.length*sz:=by intro x;induction x<;>grind
theorem iF.done {T:TypeId} {rows:List (List C)} (h:iF L w T sz v g rows xs):cA L w v (.sl sz rows):=by
 have n:=h.rep.fresh (L':=L) λx p=>.inl (by simp[p]);rcases h.own.2 with⟨rfl,hn,_⟩|⟨b,cap,cur,e,rfl,hb,nW,nV,cL,vz⟩
 .rw[List.length_eq_zero_iff.1 hn];exact .nil _ _ _
 .have o:=h.own.1;refine .sl b 0 rows.length cap sz rows (λi j=>xs.getD (i*sz+j) undef) rfl nW hb.lt (h.out b e) h.row (λi j f m=>?_) λi j row c f m=>?_
  .have a:i*sz+j<xs.length:=by
    rw[o];have:(i+1)*sz<=rows.length*sz:=Nat.mul_le_mul_right _ f;rw[Nat.add_mul] at this;omega
   rw[Nat.zero_add,hb.cell,gG,gE a];simp only[Option.getD_some];have d:xs[i*sz+j]?=some xs[i*sz+j]:=gE a;rw[<-d,<-vz,List.getElem?_take,iP (by rw[<-o];exact a)];simp
  .have l:=Dv h.row f m;have a:i*sz+j<xs.length:=by rw[n.length];exact(List.getElem?_eq_some_iff.1 l).1
   have d:xs[i*sz+j]?=some xs[i*sz+j]:=gE a;have:=n.get d l;rw[gG,d];exact this
theorem iF.app {P:Program} {L:List Nat} {w:World} {t ty T:TypeId} {i:TypeInfo} {j bytes:Nat} (M:P.underlying t=some (.slice T)) (K:P.info? T=some i) (N:i.zero=some z) 
  (A:i.size=j) (E:i.bytes=bytes) (S:z.cells.size=j)
  {v:Value} {g:Option Nat} {rows:List (List C)} {r:List Value} (h:iF L w T j v g rows r)
  (o f m c:Nat) (new:List (List C)) (d:List Value) (s:new.length=m) (R:0<m) (y:∀row∈new,row.length=j) (B:fZ w o f d) (F:∀u∈d,u.oneCell'=true)
  (q:dy (g.toList++L) w d new.flatten) (J:∀x∈L,x<w.heap.size)
  (hb:(rows.length+m)*(bytes+1)<=140737488355328):
  ∃n l w',(Builtin.append_ #[t,t] ty #[v,.slice (some ⟨o,f,none⟩) m c]).run P w= .ok n w'/\iF L w' T j n l (rows++new) (r++d)/\aj g.toList w w'/\
   (l=g\/l=some w.heap.size):=by
 have Q:d.length=m*j:=by rw[q.length,NX y,s]
 have U:(rows.length+m)*bytes+(rows.length+m)<=140737488355328:=by rw[Nat.mul_add,Nat.mul_one] at hb;exact hb
 obtain⟨n,l,w',O,D,hk,p⟩:=NW (P:=P) (w:=w) (ty:=ty) M K N A E S h.own o f m c d Q B F R (by unfold maxLen;omega) om;refine⟨n,l,w',O,⟨by rw[lA,s];exact D,?_,?_,?_⟩,hk,p⟩
 .have H:=(h.rep.append q).aG (hk.mono (L':=g.toList++L) λx a=>by simp[a]);rw[List.flatten_append];have I:dy (g.toList++L) w (r++d) (rows.flatten++new.flatten):=h.rep.append q;rcases p with rfl|rfl
  .exact H
  .exact(I.fresh (L':=(some w.heap.size).toList++(g.toList++L)) (λx a=>by
    rcases mA.1 a with a|a
    .right;simp at a;omega
    .exact .inl a)).aG (hk.mono λx a=>by simp[a]) |>.fresh (λx a=>.inl (by
    rcases mA.1 a with a|a
    .exact List.mem_append_left _ a
    .exact mR _<|mR _ a))
 .intro row a;rcases mA.1 a with a|a
  .exact h.row row a
  .exact y row a
 .intro b e a;rcases p with rfl|rfl
  .exact h.out b e a
  .have:=J b a;simp at e;omega
def gate (c:Array Oper) (e:Env):Option (Nat×Bool)->Bool
 |none=>true
 |some (j,a)=>match(c.toList[j]?).bind (·.dst) with
  |some t=>match e t with
   | .bool b=>b==a
   |_=>false
  |none=>false
theorem FI {e:Env} {a:Act} (h:Fits n e a) (o:Oper):Region.wanted o (yielded ops a.tmps)=gate ops e o.guard:=by
 unfold Region.wanted gate;cases l:o.guard with
 |none=>rfl
 |some p=>
  obtain⟨j,c⟩:=p;simp only[yielded];have g:ops.toList[j]?=ops[j]?:=by simp
  rw[g];cases i:(ops[j]?).bind (·.dst) with
  |none=>cases c<;>rfl
  |some t=>
   simp only[Option.bind_some];have d:=h.get t;rw[Array.getD_eq_getD_getElem?] at d;cases f:a.tmps[t]? with
   |none=>rw[f] at d;simp only[Option.getD_none] at d;rw[<-d];cases c<;>simp[undef]
   |some v=>rw[f] at d;simp only[Option.getD_some] at d;rw[<-d];cases v<;>cases c<;>first|rfl|(rename_i b;cases b<;>rfl)
section
variable {P:Program} {n:Nat} {ops:Array Oper} {K:Env->World->Prop} {rest:List Oper} {e:Env} {w w':World}
 {dst:Option Nat} {ty:TypeId} {pos:String} {after:Array Edge} {g:Option (Nat×Bool)}
theorem bf (h:K e w):OW P n ops K [] e w:=λ_ a _=>⟨e,a,h⟩
theorem fS {op:Op} (d:gate ops e g=true) (c:cK n dst=true) (f:(execOp (ev e) ⟨dst,op,ty,pos,after,g⟩).run P w= .ok (.value v) w') 
  (k:OW P n ops K rest (cj e dst v) w'):OW P n ops K (⟨dst,op,ty,pos,after,g⟩::rest) e w:=λa b Q=>by
 unfold wpList;rw[iP (by rw[FI b];exact d)];refine .inl ?_;unfold Oper.wp;rw[b.eval,f,Oper.upon_value];exact k _ (b.cj c v) Q
theorem Ku {op:Op} (c:gate ops e g=true) (f:(execOp (ev e) ⟨none,op,ty,pos,after,g⟩).run P w= .ok .skip w') 
  (k:OW P n ops K rest e w'):OW P n ops K (⟨none,op,ty,pos,after,g⟩::rest) e w:=λa b Q=>by
 unfold wpList;rw[iP (by rw[FI b];exact c)];refine .inl ?_;unfold Oper.wp;rw[b.eval,f,Oper.upon_skip];exact k _ (b.cj (d:=none) rfl undef) Q
theorem NY {op:Op} (d:gate ops e g=false) (c:cK n dst=true) (k:OW P n ops K rest (cj e dst undef) w):OW P n ops K (⟨dst,op,ty,pos,after,g⟩::rest) e w:=λa b Q=>by unfold wpList;rw[iN (by rw[FI b];simp[d])];exact k _ (b.cj c undef) Q
theorem cS {op:Op} (k:OW P n ops K rest (cj e dst undef) w) (b:gate ops e g=false:=by rfl) (a:cK n dst=true:=by rfl):OW P n ops K (⟨dst,op,ty,pos,after,g⟩::rest) e w:=NY b a k
theorem NZ {a:List Value} (h:ru P f):(callFunc f a.toArray).run P w= .ok (.enter f a.toArray) w:=by
 obtain⟨fn,c,hb,d⟩:=h;have b:¬fn.name= "runtime.NumGoroutine":=by simpa using d
 have e:¬fn.body=none:=by intro h;simp[h] at hb
 simp[callFunc,c,e,b]
theorem ab1 {c:List Operand} {b:Array TypeId} (j:gate ops e g=true) (i:cK n dst=true) (h:bD P f (c.map<|ev e) w S) 
  (k:∀v w',S v w'->OW P n ops K rest (cj e dst v) w'):OW P n ops K (⟨dst,.call {callee:=.value<|.func f,args:=c.toArray,argTypes:=b},ty,pos,after,g⟩::rest) e w:=λa d Q=>by
 unfold wpList;rw[iP (by rw[FI d];exact j)];refine .inl ?_;unfold Oper.wp;have o:(execOp (ev e) ⟨dst,.call {callee:=.value<|.func f,args:=c.toArray,argTypes:=b},ty,pos,after,g⟩).run P w= .ok (.enter f (c.map<|ev e).toArray) w:=by simp only[execOp,resolve,ev,Deferred.ofValue,Sem.run_bind,Sem.run_pure,Result.andThen_ok,invoke];simp[NZ h.1]
 rw[d.eval,o,Oper.upon_enter];exact Calls.mono h.2 λx w' ⟨v,m,l⟩=>by subst m;exact k v w' l _ (d.cj i v) Q
theorem aA {b:List Operand} {a:Array TypeId} (h:bD P f (b.map<|ev e) w S) (k:∀v w',S v w'->OW P n ops K rest (cj e dst v) w') (d:gate ops e g=true:=by rfl) (c:cK n dst=true:=by rfl):OW P n ops K (⟨dst,.call {callee:=.value<|.func f,args:=b.toArray,argTypes:=a},ty,pos,after,g⟩::rest) e w:=ab1 d c h k
theorem ab2 (b:gate ops e g=true) (a:cK n dst=true) (k:OW P n ops K rest (cj e dst<|ev e x) w):OW P n ops K (⟨dst,.move x,ty,pos,after,g⟩::rest) e w:=
 fS b a (by simp[execOp]) k
theorem ab3 (b:gate ops e g=true) (a:cK n dst=true) (k:OW P n ops K rest (cj e dst<|ev e x) w):OW P n ops K (⟨dst,.assign x,ty,pos,after,g⟩::rest) e w:=
 fS b a (by simp[execOp]) k
theorem Ta {c:Operand} {t:Bool} (d:gate ops e g=true) (b:cK n dst=true) (a:ev e c= .bool t) (k:OW P n ops K rest (cj e dst<|bif t then ev e x else ev e y) w):
  OW P n ops K (⟨dst,.pick c x y,ty,pos,after,g⟩::rest) e w:=
 fS d b (by cases t<;>simp[execOp,a,asBool]) k
theorem HN {a:Addr} (c:gate ops e g=true) (b:cK n dst=true) (d:ev e x= .pointer (some a)) (k:OW P n ops K rest (cj e dst (.pointer<|some a)) w):
  OW P n ops K (⟨dst,.nilCheck x,ty,pos,after,g⟩::rest) e w:=
 fS c b (by simp[execOp,d]) k
/-! ### rv blocks -/
theorem Tb {T:TypeId} {a:Array Value} (c:gate ops e g=true) (b:cK n dst=true) (d:(ev e x).cells=a) 
  (k:∀w',aj [] w w'->aK w' w.heap.size a T->w'.heap.size=w.heap.size+1->OW P n ops K rest (cj e dst (.pointer<|some ⟨w.heap.size,0,none⟩)) w'):
  OW P n ops K (⟨dst,.box T x,ty,pos,after,g⟩::rest) e w:=
 fS c b (w':=w.alloc<|.cells a T) (by simp[execOp,Instr.box,newVar,newRow,d]) (k _ (aj.alloc _ _ _) (aK.alloc _ _ _) sm)
def TI (P:Program) (T:TypeId) (a bytes:Nat) (z:Value):Prop:=(P.info? T).map (λi=>(i.zero,i.size,i.bytes))=some (some z,a,bytes)
theorem TI.get {T:TypeId} (h:TI P T sz bytes z):∃i,P.info? T=some i/\i.zero=some z/\i.size=sz/\i.bytes=bytes:=by
 unfold TI at h;cases a:P.info? T with
 |none=>simp[a] at h
 |some i=>simp[a] at h;exact⟨i,rfl,h.1,h.2.1,h.2.2⟩
theorem TI.tX {T:TypeId} (h:TI P T sz bytes z) (w:World):(sizeOf T).run P w= .ok sz w:=by obtain⟨i,a,_,b,hb⟩:=h.get;simp[sizeOf,typeInfo,a,b]
theorem TI.N0 {T:TypeId} (h:TI P T sz bytes z) (w:World):(zeroValue T).run P w= .ok z w:=by obtain⟨i,a,b,_,hb⟩:=h.get;simp[zeroValue,typeInfo,a,b]
theorem ab4 {T:TypeId} {a:Array Value} (b:TI P T sz bytes z) (d:gate ops e g=true) (c:cK n dst=true) (f:z.cells=a) 
  (k:∀w',aj [] w w'->aK w' w.heap.size a T->w'.heap.size=w.heap.size+1->OW P n ops K rest (cj e dst (.pointer<|some ⟨w.heap.size,0,none⟩)) w'):
  OW P n ops K (⟨dst,.alloc T,ty,pos,after,g⟩::rest) e w:=
 fS d c (w':=w.alloc<|.cells a T) (by simp[execOp,Instr.alloc,b.N0,newVar,newRow,f]) (k _ (aj.alloc _ _ _) (aK.alloc _ _ _) sm)
/-! ### Addresses,loads,stores -/
def qF (P:Program) (T:TypeId):Bool:=match P.underlying T with
 |some (.struct _)|some (.array _ _)|none=>false
 |_=>true
theorem ab5 {T:TypeId} (h:qF P T=true) (w:World):(isAgg T).run P w= .ok false w:=by
 unfold qF at h;cases a:P.underlying T with
 |none=>simp[a] at h
 |some d=>cases d<;>simp[a] at h<;>simp[isAgg,underlying,a]
def tY (P:Program) (T:TypeId):Bool:=match P.underlying T with
 |some (.struct _)|some (.array _ _)=>true
 |_=>false
theorem Tc {T:TypeId} (h:tY P T=true) (w:World):(isAgg T).run P w= .ok true w:=by
 unfold tY at h;cases a:P.underlying T with
 |none=>simp[a] at h
 |some d=>cases d<;>simp[a] at h<;>simp[isAgg,underlying,a]
theorem wJ (b o j:Nat):(⟨b,o,none⟩:Addr).add j=⟨b,o+j,none⟩:=by unfold Addr.add;split<;>simp_all
theorem ab6 {T:TypeId} {a:Addr} (b:qF P T=true) (f:gate ops e g=true) (d:cK n dst=true) (i:ev e x= .pointer (some a)) (c:w.cell? a=some v) 
  (k:OW P n ops K rest (cj e dst v) w):OW P n ops K (⟨dst,.load T x,ty,pos,after,g⟩::rest) e w:=
 fS f d (by simp[execOp,Instr.loadAt,Instr.sureAddr,i,loadVar,ab5 b,c]) k
theorem ab7 {T:TypeId} {x:Operand} {b o:Nat} {a:List Value} (c:tY P T=true) (q:TI P T sz bytes z) (i:gate ops e g=true) (f:cK n dst=true) 
  (p:ev e x= .pointer (some ⟨b,o,none⟩)) (d:fZ w b o a) (l:a.length=sz)
  (k:OW P n ops K rest (cj e dst<|.agg a.toArray) w):OW P n ops K (⟨dst,.load T x,ty,pos,after,g⟩::rest) e w:=
 fS i f (by have:=run_loadCells_list (P:=P) w ⟨b,o,none⟩ a (λj v m=>by rw[wJ];exact d j v m);rw[l] at this;simp[execOp,Instr.loadAt,Instr.sureAddr,p,loadVar,Tc c,q.tX,this]) k
theorem ab8 {u:Value} (a:v.oneCell'=true) (c:w.cell? ⟨b,o,none⟩=some u) (d:w.frozen? ⟨b,o,none⟩=false):(storeCells ⟨b,o,none⟩ [v]).run P w= .ok () (w.setCell ⟨b,o,none⟩ v):=by simp[storeCells,wJ,run_store P w _ v _ a,c,d]
theorem N2 {T:TypeId} {x y:Operand} {b o:Nat} {v:Value} {a:Array Value} {U:TypeId} (q:TI P T sz bytes z) (d:sz=1) (i:gate ops e g=true) 
  (m:ev e x= .pointer (some ⟨b,o,none⟩)) (p:ev e y=v) (c:v.oneCell'=true) (hb:aK w b a U) (j:o<a.size)
  (k:∀w',aj [b] w w'->aK w' b (a.setIfInBounds o v) U->w'.heap.size=w.heap.size->OW P n ops K rest e w'):OW P n ops K (⟨none,.store T x y,ty,pos,after,g⟩::rest) e w:=
 Ku i (w':=w.setCell ⟨b,o,none⟩ v) (by
  have f:v.cells=#[v]:=by cases v<;>first|rfl|(simp[Value.oneCell'] at c)
  have l:=ab8 (P:=P) (w:=w) (b:=b) (o:=o) (v:=v) (u:=a[o]) c (by rw[hb.cell,Array.getElem?_eq_getElem j])<|hb.frozen o;subst d;simp[execOp,Instr.storeAt,Instr.sureAddr,m,p,storeVar,f,q.tX,l]) (k _ (aj.setCell _ _ _ _) (hb.set o v)<|by simp[World.setCell])
theorem Td:∀(vs:List Value) (i:Nat) (pre:List Value) (w:World) (b:Nat) (U:TypeId) (a:Array Value),aK w b a U->a.size=pre.length+vs.length->i=pre.length->a.toList.take i=pre->(∀u∈vs,u.oneCell'=true)->
  ∃w',(storeCells ⟨b,0,none⟩ vs i).run P w= .ok () w'/\aj [b] w w'/\aK w' b (pre++vs).toArray U/\w'.heap.size=w.heap.size
 |[],i,pre,w,b,U,a,hb,c,g,d,_=>by
  refine⟨w,rfl,aj.refl _ _,?_,rfl⟩;have:a=(pre++[]).toArray:=by apply Array.ext';simp only[List.append_nil] at*;rw[<-d,List.take_of_length_le (by simp;simp at c;omega)]
  rw[<-this];exact hb
 |v::vs,i,pre,w,b,U,a,hb,c,g,d,h1=>by
  have e:i<a.size:=by simp at c;omega
  have f:(store ((⟨b,0,none⟩:Addr).add i) v).run P w= .ok () (w.setCell ⟨b,i,none⟩ v):=by rw[wJ,Nat.zero_add,run_store P w _ v _<|h1 v sm,hb.cell,Array.getElem?_eq_getElem e,hb.frozen];simp
  obtain⟨w',j,hk,n,m⟩:=Td vs (i+1) (pre++[v]) (w.setCell ⟨b,i,none⟩ v) b U (a.setIfInBounds i v) (hb.set i v) (by simp at c⊢;omega) so
   (by rw[Array.toList_setIfInBounds,List.take_add_one,List.getElem?_set_self<|by simpa using e,List.take_set_of_le<|lR i,d];simp)
   λu l=>h1 u<|by simp[l]
  refine⟨w',?_,(aj.setCell w b i v).trans hk,by simpa using n,by rw[m];simp[World.setCell]⟩;simp only[storeCells,Sem.run_bind,f,Result.andThen_ok];exact j
theorem ab9 {T:TypeId} {x y:Operand} {b:Nat} {a:List Value} {c:Array Value} {U:TypeId} (q:TI P T sz bytes z) (f:gate ops e g=true) 
  (l:ev e x= .pointer (some ⟨b,0,none⟩)) (m:ev e y= .agg a.toArray) (i:a.length=sz) (d:∀u∈a,u.oneCell'=true) (hb:aK w b c U) (r:c.size=sz)
  (k:∀w',aj [b] w w'->aK w' b a.toArray U->w'.heap.size=w.heap.size->OW P n ops K rest e w'):OW P n ops K (⟨none,.store T x y,ty,pos,after,g⟩::rest) e w:=by
 obtain⟨w',j,hk,p,o⟩:=Td (P:=P) a 0 [] w b U c hb so rfl sm d;exact Ku f (w':=w') (by simp[execOp,Instr.storeAt,Instr.sureAddr,l,m,storeVar,Value.cells,q.tX,i,j])<|k _ hk (by simpa using p) o
def gX (P:Program) (S i:Nat):Option Nat:=match P.underlying S with
 |some (.struct a)=>match a[i]? with
  |some f=>match P.info? f.type with
   |some t=>if t.size=0 then none else some f.offset
   |none=>none
  |none=>none
 |_=>none
theorem aca {S:Nat} (h:gX P S i=some off):(Instr.fieldAt S (.pointer<|some ⟨b,o,none⟩) i).run P w= .ok (.pointer<|some ⟨b,o+off,none⟩) w:=by
 unfold gX at h;cases e:P.underlying S with
 |none=>simp[e] at h
 |some d=>
  cases d<;>simp[e] at h;rename_i j;cases a:j[i]? with
  |none=>simp[a] at h
  |some f=>
   simp only[a] at h;cases c:P.info? f.type with
   |none=>simp[c] at h
   |some t=>
    simp only[c] at h;by_cases g:t.size=0
    .simp[g] at h
    .simp[g] at h;simp[Instr.fieldAt,run_underlying e,a,Instr.sureAddr,fieldPlace,sizeOf,typeInfo,c,g,wJ,h]
theorem Te {S:Nat} (a:gX P S i=some off) (d:gate ops e g=true) (c:cK n dst=true) (f:ev e x= .pointer (some ⟨b,o,none⟩)) 
  (k:OW P n ops K rest (cj e dst (.pointer<|some ⟨b,o+off,none⟩)) w):OW P n ops K (⟨dst,.fieldAddr S x i,ty,pos,after,g⟩::rest) e w:=
 fS d c (by simp[execOp,f,aca a]) k
theorem Tf {T E:TypeId} {x y:Operand} {b o len a i:Nat} {q:IntKind} (f:P.underlying T=some (.slice E)) (d:TI P E sz bytes z) (l:gate ops e g=true) (j:cK n dst=true) 
  (m:ev e x= .slice (some ⟨b,o,none⟩) len a) (p:ev e y= .int q (i:Int)) (r:i<len)
  (k:OW P n ops K rest (cj e dst (.pointer<|some ⟨b,o+i*sz,none⟩)) w):OW P n ops K (⟨dst,.indexAddr T x y,ty,pos,after,g⟩::rest) e w:=
 fS l j (by
  have c:¬len<=i:=by omega
  simp[execOp,Instr.indexAt,m,p,asIntOf,run_underlying f,c,d.tX,wJ]) k
theorem Kv {T E:TypeId} {a:Option Addr} {b:Nat} (hT:P.underlying T=some (.slice E)) (hg:gate ops e g=true) (hd:cK n dst=true) (hx:ev e x= .slice a m b) 
  (k:OW P n ops K rest (cj e dst<|.int .i64 m) w):OW P n ops K (⟨dst,.call {callee:=.builtin .len,args:=#[x],argTypes:=#[T]},ty,pos,after,g⟩::rest) e w:=
 fS hg hd (by simp[execOp,resolve,invoke,builtin,hx,Builtin.len_,run_underlying hT,goInt]) k
theorem acb {T:TypeId} {s:ByteArray} (a:P.underlying T=some .string) (c:gate ops e g=true) (b:cK n dst=true) (f:ev e x= .string s) (d:s.size=m) 
  (k:OW P n ops K rest (cj e dst<|.int .i64 m) w):OW P n ops K (⟨dst,.call {callee:=.builtin .len,args:=#[x],argTypes:=#[T]},ty,pos,after,g⟩::rest) e w:=
 fS c b (by simp[execOp,resolve,invoke,builtin,f,Builtin.len_,run_underlying a,goInt,d]) k
theorem Tg (b:gate ops e g=true) (a:cK n dst=true) (d:ev e x= .tuple vs.toArray) (c:vs[i]?=some v) 
  (k:OW P n ops K rest (cj e dst v) w):OW P n ops K (⟨dst,.extract x i,ty,pos,after,g⟩::rest) e w:=
 fS b a (by simp[execOp,Instr.extract,d,c]) k
end
abbrev str (l:List UInt8):Value:=.string ⟨l.toArray⟩
section
variable {P:Program} {n:Nat} {ops:Array Oper} {K:Env->World->Prop} {rest:List Oper} {e:Env} {w w':World}
 {dst:Option Nat} {ty:TypeId} {pos:String} {after:Array Edge} {g:Option (Nat×Bool)} {T T':TypeId} {x y:Operand}
theorem Kw {b:Int} (hg:gate ops e g=true) (hd:cK n dst=true) (hx:ev e x= .int k a) (hy:ev e y= .int k' b) (hk:k=k':=by rfl) 
  (c:OW P n ops K rest (cj e dst<|.bool (decide<|a<b)) w):OW P n ops K (⟨dst,.binOp .lss T x y T',ty,pos,after,g⟩::rest) e w:=
 fS hg hd (by subst hk;cases k<;>simp[execOp,eqGuard,hx,hy,binOp,Op.intCmp]) c
theorem acd {b:Int} (hg:gate ops e g=true) (hd:cK n dst=true) (hx:ev e x= .int k a) (hy:ev e y= .int k' b) (hk:k=k':=by rfl) 
  (c:OW P n ops K rest (cj e dst<|.bool (decide<|a<=b)) w):OW P n ops K (⟨dst,.binOp .leq T x y T',ty,pos,after,g⟩::rest) e w:=
 fS hg hd (by subst hk;cases k<;>simp[execOp,eqGuard,hx,hy,binOp,Op.intCmp]) c
theorem HO {b:Int} (hg:gate ops e g=true) (hd:cK n dst=true) (hx:ev e x= .int k a) (hy:ev e y= .int k' b) (hk:k=k':=by rfl) 
  (c:OW P n ops K rest (cj e dst<|.bool (decide<|b<a)) w):OW P n ops K (⟨dst,.binOp .gtr T x y T',ty,pos,after,g⟩::rest) e w:=
 fS hg hd (by subst hk;cases k<;>simp[execOp,eqGuard,hx,hy,binOp,Op.intCmp]) c
theorem ace {b:Int} (hg:gate ops e g=true) (hd:cK n dst=true) (hx:ev e x= .int k a) (hy:ev e y= .int k' b) (hk:k=k':=by rfl) 
  (c:OW P n ops K rest (cj e dst<|.bool (decide<|b<=a)) w):OW P n ops K (⟨dst,.binOp .geq T x y T',ty,pos,after,g⟩::rest) e w:=
 fS hg hd (by subst hk;cases k<;>simp[execOp,eqGuard,hx,hy,binOp,Op.intCmp]) c
theorem xZ {b:Int} (hg:gate ops e g=true) (hd:cK n dst=true) (hx:ev e x= .int k a) (hy:ev e y= .int k' b) (hk:k=k':=by rfl) 
  (c:OW P n ops K rest (cj e dst<|.bool (decide<|a=b)) w):OW P n ops K (⟨dst,.binOp .eql T x y T',ty,pos,after,g⟩::rest) e w:=
 fS hg hd (by
  have h:(a==b)=decide (a=b):=by by_cases h:a=b<;>simp[h]
  subst hk;cases k<;>simp[execOp,eqGuard,hx,hy,binOp,Op.intCmp,h]) c
theorem HP {b:Int} (hg:gate ops e g=true) (hd:cK n dst=true) (hx:ev e x= .int k a) (hy:ev e y= .int k' b) (hk:k=k':=by rfl) 
  (c:OW P n ops K rest (cj e dst<|.bool (decide<|a≠b)) w):OW P n ops K (⟨dst,.binOp .neq T x y T',ty,pos,after,g⟩::rest) e w:=
 fS hg hd (by
  have h:(a !=b)=decide (a≠b):=by by_cases h:a=b<;>simp[h]
  subst hk;cases k<;>simp[execOp,eqGuard,hx,hy,binOp,Op.intCmp,h]) c
theorem oJ {b c:Int} (hg:gate ops e g=true) (hd:cK n dst=true) (hx:ev e x= .int k a) (hy:ev e y= .int k' b) (hk:k=k':=by rfl) (hc:k.wrap (a+b)=c) 
  (c':OW P n ops K rest (cj e dst<|.int k c) w):OW P n ops K (⟨dst,.binOp .add T x y T',ty,pos,after,g⟩::rest) e w:=
 fS hg hd (by subst hk;cases k<;>simp[execOp,eqGuard,hx,hy,binOp,Op.intArith,hc]) c'
theorem x4 {b c:Int} (hg:gate ops e g=true) (hd:cK n dst=true) (hx:ev e x= .int k a) (hy:ev e y= .int k' b) (hk:k=k':=by rfl) (hc:k.wrap (a-b)=c) 
  (c':OW P n ops K rest (cj e dst<|.int k c) w):OW P n ops K (⟨dst,.binOp .sub T x y T',ty,pos,after,g⟩::rest) e w:=
 fS hg hd (by subst hk;cases k<;>simp[execOp,eqGuard,hx,hy,binOp,Op.intArith,hc]) c'
theorem Kx {b c:Int} (hg:gate ops e g=true) (hd:cK n dst=true) (hx:ev e x= .int k a) (hy:ev e y= .int k' b) (hk:k=k':=by rfl) (hc:k.wrap (a*b)=c) 
  (c':OW P n ops K rest (cj e dst<|.int k c) w):OW P n ops K (⟨dst,.binOp .mul T x y T',ty,pos,after,g⟩::rest) e w:=
 fS hg hd (by subst hk;cases k<;>simp[execOp,eqGuard,hx,hy,binOp,Op.intArith,hc]) c'
theorem N3 {a:Nat} {c:Int} (l:gate ops e g=true) (j:cK n dst=true) (m:ev e x= .int k (a:Int)) (o:ev e y= .int k' (b:Int)) (hk:k=k':=by rfl) (hb:0<b) (i:k.wrap ((a/b:Nat):Int)=c) 
  (d:OW P n ops K rest (cj e dst<|.int k c) w):OW P n ops K (⟨dst,.binOp .quo T x y T',ty,pos,after,g⟩::rest) e w:=
 fS l j (by
  have f:¬b=0:=by omega
  subst hk;cases k<;>simp[execOp,eqGuard,m,o,binOp,Op.intDiv,f]<;>(try rw[<-i])<;>(try simp)) d
theorem HQ {a:Nat} (j:gate ops e g=true) (i:cK n dst=true) (l:ev e x= .int k (a:Int)) (m:ev e y= .int k' (b:Int)) (hk:k=k':=by rfl) (hb:0<b) 
  (c:OW P n ops K rest (cj e dst<|.int k ((a%b:Nat):Int)) w):OW P n ops K (⟨dst,.binOp .rem T x y T',ty,pos,after,g⟩::rest) e w:=
 fS j i (by
  have d:¬b=0:=by omega
  have f:(a:Int).tmod (b:Int)=((a:Int)%(b:Int)):=Int.tmod_eq_emod_of_nonneg om;subst hk;cases k<;>simp[execOp,eqGuard,l,m,binOp,Op.intDiv,d,f]) c
theorem kj {b:Bool} (hg:gate ops e g=true) (hd:cK n dst=true) (hx:ev e x= .bool b) (c:OW P n ops K rest (cj e dst (.bool<|!b)) w):
  OW P n ops K (⟨dst,.unOp .not T x,ty,pos,after,g⟩::rest) e w:=
 fS hg hd (by simp[execOp,Op.unary,hx]) c
theorem acf {a b:Bool} (hT:P.underlying T=some .bool) (hg:gate ops e g=true) (hd:cK n dst=true) (hx:ev e x= .bool a) (hy:ev e y= .bool b) 
  (c:OW P n ops K rest (cj e dst (.bool<|a==b)) w):OW P n ops K (⟨dst,.binOp .eql T x y T',ty,pos,after,g⟩::rest) e w:=
 fS hg hd (by simp[execOp,eqGuard,hx,hy,run_eql_bool w T a b hT]) c
theorem acg {a b:Bool} (hT:P.underlying T=some .bool) (hg:gate ops e g=true) (hd:cK n dst=true) (hx:ev e x= .bool a) (hy:ev e y= .bool b) 
  (c:OW P n ops K rest (cj e dst (.bool<|!(a==b))) w):OW P n ops K (⟨dst,.binOp .neq T x y T',ty,pos,after,g⟩::rest) e w:=
 fS hg hd (by simp[execOp,eqGuard,hx,hy,run_neq_bool w T a b hT]) c
/-! ### Strings -/
theorem Th {a b:List UInt8} (hg:gate ops e g=true) (hd:cK n dst=true) (hx:ev e x=str a) (hy:ev e y=str b) (hs:a.length+b.length<=9223372036854775807) 
  (c:OW P n ops K rest (cj e dst (str<|a++b)) w):OW P n ops K (⟨dst,.binOp .add T x y T',ty,pos,after,g⟩::rest) e w:=
 fS hg hd (by
  have f:¬(IntKind.i64.max<(a.length:Int)+(b.length:Int)):=by
   have:IntKind.i64.max=9223372036854775807:=by decide
   omega
  have d:(⟨a.toArray⟩:ByteArray)++⟨b.toArray⟩=⟨(a++b).toArray⟩:=by apply ByteArray.ext;simp
  simp[execOp,eqGuard,hx,hy,binOp,Op.stringOp,ByteArray.size,d];omega) c
theorem jd {a b:List UInt8} (j:ev e x=str a) (l:ev e y=str b) (i:a.length+b.length<=9223372036854775807) (c:OW P n ops K rest (cj e dst (str<|a++b)) w) (f:gate ops e g=true:=by rfl) (d:cK n dst=true:=by rfl):OW P n ops K (⟨dst,.binOp .add T x y T',ty,pos,after,g⟩::rest) e w:=Th f d j l i c
theorem FK {a b:List UInt8} (hg:gate ops e g=true) (hd:cK n dst=true) (hx:ev e x=str a) (hy:ev e y=str b) 
  (c:OW P n ops K rest (cj e dst<|.bool (decide<|a=b)) w):OW P n ops K (⟨dst,.binOp .eql T x y T',ty,pos,after,g⟩::rest) e w:=
 fS hg hd (by
  have h:(a==b)=decide (a=b):=by by_cases h:a=b<;>simp[h]
  simp[execOp,eqGuard,hx,hy,binOp,Op.stringOp,h]) c
theorem N4 {a b:List UInt8} (hg:gate ops e g=true) (hd:cK n dst=true) (hx:ev e x=str a) (hy:ev e y=str b) 
  (c:OW P n ops K rest (cj e dst<|.bool (decide<|a≠b)) w):OW P n ops K (⟨dst,.binOp .neq T x y T',ty,pos,after,g⟩::rest) e w:=
 fS hg hd (by
  have h:(a==b)=decide (a=b):=by by_cases h:a=b<;>simp[h]
  simp[execOp,eqGuard,hx,hy,binOp,Op.stringOp,h]) c
theorem kJ {a:List UInt8} {b:UInt8} (j:P.underlying T=some .string) (o:gate ops e g=true) (l:cK n dst=true) (q:ev e x=str a) (r:ev e y= .int k (i:Int)) (p:a[i]?=some b) 
  (c:OW P n ops K rest (cj e dst<|.int .u8 b.toNat) w):OW P n ops K (⟨dst,.index T x y,ty,pos,after,g⟩::rest) e w:=
 fS o l (by
  obtain⟨_,m⟩:=List.getElem?_eq_some_iff.1 p;have d:=run_index_string (P:=P) w T ⟨a.toArray⟩ k (i:Int) j;have f:(⟨a.toArray⟩:ByteArray).size=a.length:=by simp[ByteArray.size]
  rw[dif_pos (by rw[f];omega)] at d;simp only[execOp,q,r,Sem.run_bind,d];simp only[Result.andThen_ok,Sem.run_pure,Int.toNat_natCast];rw[<-m];rfl) c
theorem ach {a:List UInt8} {c b:Option Value} {l h:Nat} (m:P.underlying T=some .string) 
  (d:(c=none/\l=0)\/∃k,c=some (.int k (l:Int))) (e:(b=none/\h=a.length)\/∃k,b=some (.int k (h:Int))) (i:l<=h) (j:h<=a.length):
  (Instr.sliceAt T (str a) c b none).run P w= .ok (str ((a.drop l).take<|h-l)) w:=by
 have f:(⟨a.toArray⟩:ByteArray).extract l h=⟨((a.drop l).take<|h-l).toArray⟩:=ByteArray.extract_mk a l h;have g:(⟨a.toArray⟩:ByteArray).size=a.length:=by simp[ByteArray.size]
 rcases d with⟨rfl,rfl⟩|⟨k,rfl⟩<;>rcases e with⟨rfl,rfl⟩|⟨k',rfl⟩<;>
  simp[Instr.sliceAt,Instr.slice,run_underlying m,Instr.sliceBounds,Instr.sliceBound,asIntOf,g,i,j,f]
theorem Dw {a:List UInt8} {d b:Option Operand} {l h:Nat} (o:P.underlying T=some .string) (q:gate ops e g=true) (p:cK n dst=true) (r:ev e x=str a) 
  (f:(d.map (ev e)=none/\l=0)\/∃k,d.map (ev e)=some (.int k (l:Int))) (i:(b.map (ev e)=none/\h=a.length)\/∃k,b.map (ev e)=some (.int k (h:Int))) (j:l<=h) (m:h<=a.length)
  (c:OW P n ops K rest (cj e dst<|str ((a.drop l).take<|h-l)) w):OW P n ops K (⟨dst,.slice T x d b none,ty,pos,after,g⟩::rest) e w:=
 fS q p (by simp only[execOp,r,Option.map_none,Sem.run_bind,ach o f i j m];rfl) c
theorem zC {L:List Nat} {E:TypeId} {j:Operand} {b d len a l:Nat} {k:IntKind} (p:P.underlying T=some (.slice E)) (o:TI P E sz bytes z) (s:gate ops e g=true) (r:cK n dst=true) 
  (t:ev e x= .slice (some ⟨b,d,none⟩) len a) (m:ev e j= .int k (l:Int)) (f:l<=len) {rows:List (List C)} (i:cA L w (.slice (some ⟨b,d,none⟩) len a) (.sl sz rows))
  (c:∀v,cA L w v (.sl sz (rows.drop l))->OW P n ops K rest (cj e dst v) w):OW P n ops K (⟨dst,.slice T x (some j) none none,ty,pos,after,g⟩::rest) e w:=by
 have u:len<=a:=by cases i with|nil=>exact Nat.zero_le _|sl _ _ _ _ _ _ _ f q=>exact q
 refine fS s r (v:=.slice (if a=l then some ⟨b,d,none⟩ else some ⟨b,d+l*sz,none⟩) (len-l)<|a-l) (w':=w) ?_ (c _<|abX i l f _ (λh=>iN om) λh=>iP om);simp[execOp,Instr.sliceAt,Instr.slice,t,m,run_underlying p,Instr.sliceBounds,Instr.sliceBound,asIntOf,f,o.tX,wJ]
theorem zD {S D:TypeId} {d:TypeDesc} {c:Int} (i:P.underlying S=some d) (f:P.underlying D=some (.int k')) (m:gate ops e g=true) (l:cK n dst=true) (o:ev e x= .int k a) (j:k'.wrap a=c) 
  (b:OW P n ops K rest (cj e dst<|.int k' c) w):OW P n ops K (⟨dst,.convert S D x,ty,pos,after,g⟩::rest) e w:=
 fS m l (by simp[execOp,convert,o,run_underlying i,run_underlying f,Conv.intToInt,j]) b
end
theorem aK.ext {a:Array Value} {T:TypeId} (h:aK w b a T) (k:aj [] w w'):aK w' b a T:=h.aG k sm
theorem cA.ext {c:C} (h:cA L w v c) (k:aj [] w w'):cA L w' v c:=h.aG k.any
theorem jh.ext {a:List C} (h:jh L w v a) (k:aj [] w w'):jh L w' v a:=h.aG k.any
theorem iF.ext {T:TypeId} {rows:List (List C)} (h:iF L w T sz v g rows xs) (k:aj [] w w'):iF L w' T sz v g rows xs:=h.aG k sm
theorem aj.ext (h:aj L w0 w) (k:aj [] w w'):aj L w0 w':=h.trans k.any
theorem fZ.ext (h:fZ w b off vs) (k:aj [] w w'):fZ w' b off vs:=λj v c=>by have a:=h j v c;have hb:b<w.heap.size:=World.block_lt_of_cell? w ⟨b,off+j,none⟩ a;exact(World.cell?_of_block<|k.block b hb sm).trans a
theorem aK.at {T:TypeId} (h:aK w b vs.toArray T) (a:vs[i]?=some v):w.cell? ⟨b,i,none⟩=some v:=by rw[h.cell];simpa using a
theorem aK.all {T:TypeId} (h:aK w b vs.toArray T):fZ w b 0 vs:=λj v a=>by rw[Nat.zero_add];exact h.at a
theorem wrap_i64 (x:Int) (a: -9223372036854775808<=x) (b:x<=9223372036854775807):IntKind.i64.wrap x=x:=by simp only[IntKind.wrap,IntKind.bits,IntKind.signed];simp;omega
theorem wrap_u8 (x:Int) (a:0<=x) (b:x<=255):IntKind.u8.wrap x=x:=by simp only[IntKind.wrap,IntKind.bits,IntKind.signed];simp;omega
theorem wrap_u64 (x:Int) (a:0<=x) (b:x<=18446744073709551615):IntKind.u64.wrap x=x:=by simp only[IntKind.wrap,IntKind.bits,IntKind.signed];simp;omega
section
variable {P:Program} {n:Nat} {ops:Array Oper} {K:Env->World->Prop} {rest:List Oper} {e:Env} {w w':World}
 {dst:Option Nat} {ty:TypeId} {pos:String} {after:Array Edge} {g:Option (Nat×Bool)} {T:TypeId} {x:Operand}
theorem aci (b:gate ops e g=true) (a:cK n dst=true) (c:ev e x= .agg vs.toArray) 
  (k:∀w',aj [] w w'->aK w' w.heap.size vs.toArray T->w'.heap.size=w.heap.size+1->OW P n ops K rest (cj e dst (.pointer<|some ⟨w.heap.size,0,none⟩)) w'):
  OW P n ops K (⟨dst,.box T x,ty,pos,after,g⟩::rest) e w:=Tb b a (by rw[c];rfl) k
theorem eK (c:ev e x= .agg vs.toArray) (k:∀w',aj [] w w'->aK w' w.heap.size vs.toArray T->w'.heap.size=w.heap.size+1->OW P n ops K rest (cj e dst (.pointer<|some ⟨w.heap.size,0,none⟩)) w') (b:gate ops e g=true:=by rfl) (a:cK n dst=true:=by rfl):OW P n ops K (⟨dst,.box T x,ty,pos,after,g⟩::rest) e w:=aci b a c k
theorem N5 (b:gate ops e g=true) (a:cK n dst=true) (c:(ev e x).cells=[v].toArray) 
  (k:∀w',aj [] w w'->aK w' w.heap.size [v].toArray T->w'.heap.size=w.heap.size+1->OW P n ops K rest (cj e dst (.pointer<|some ⟨w.heap.size,0,none⟩)) w'):
  OW P n ops K (⟨dst,.box T x,ty,pos,after,g⟩::rest) e w:=Tb b a c k
theorem dj (a:TI P T sz bytes (.agg vs.toArray)) (c:gate ops e g=true) (b:cK n dst=true) (_:vs=vs) 
  (k:∀w',aj [] w w'->aK w' w.heap.size vs.toArray T->w'.heap.size=w.heap.size+1->OW P n ops K rest (cj e dst (.pointer<|some ⟨w.heap.size,0,none⟩)) w'):
  OW P n ops K (⟨dst,.alloc T,ty,pos,after,g⟩::rest) e w:=ab4 a c b rfl k
theorem wK (h:e t=v):jc e t v=e:=by grind [ni,Ks]
theorem vB {b:Bool} (d:e t= .bool b) (c:b=true->OW P n ops K l (jc e t<|.bool true) w) (a:b=false->OW P n ops K l (jc e t<|.bool false) w):OW P n ops K l e w:=by cases b<;>grind [wK]
theorem Bq {b:Bool} (a:e t= .bool b) (h:OW P n ops K l (jc e t<|.bool b) w):OW P n ops K l e w:=by rwa [wK a] at h
def aX (D:List Nat) (x e:Env):Env:=λt=>bif D.contains t then x t else e t
def eO (D:List Nat) (e a:Env):Prop:=∀t,D.contains t=false->a t=e t
theorem zE {e:Env}:eO D e e:=λ_ _=>rfl
theorem Ky {e a:Env} (b:D.contains d=true) (h:eO D e a):eO D e (jc a d v):=by grind [eO,jc,Ks]
theorem N6 {a:List Nat} {e b x:Env} (c:a.all D.contains=true) (h:eO D e b):eO D e (aX a x b):=by grind [eO,aX]
theorem as7 [Decidable p] (h:decide p=true):p:=of_decide_eq_true h
theorem as8 [Decidable p] (h:decide p=false):¬p:=of_decide_eq_false h
theorem as9 {b:Bool} (h:(!b)=true):b=false:=by simpa using h
theorem ata {b:Bool} (h:(!b)=false):b=true:=by simpa using h
theorem zF {e a:Env} (h:eO D e a):aX D a e=a:=by grind [eO,aX]
theorem Oper.N7 {o:Oper} {a:Act} {w:World} {H g:Act->World->Prop} {Q f:Exit->Act->World->Prop} (h:∀a w,H a w->g a w) 
  (i:∀c a w,Q (.panic c) a w->f (.panic c) a w) (j:LetsOut Q->LetsOut f) (b:o.wp P a w H Q):o.wp P a w g f:=by
 unfold Oper.wp at*;generalize(execOp a.eval o).run P w=r at*;cases r with
 |ok n w'=>
  cases n<;>simp only[Oper.upon] at b⊢<;>
   first
    |exact h _ _ b
    |exact Calls.mono b (λe _ d=>by cases e<;>first|exact h _ _ d|exact i _ _ _ d|exact j d)
    |exact Rows.mono b (λ_ _ d=>h _ _ d)
 |halt x w'=>cases x<;>simp only[Oper.upon] at b⊢<;>first|exact i _ _ _ b|exact b
theorem N8 {N:Env->World->Prop} {g:List Oper} (k:∀c b w',Fits n c b->N c w'->wpList P ops (qD n K Q) g b w'):
  ∀(f:List Oper) (a:Act) (w:World),wpList P ops (qD n N Q) f a w->wpList P ops (qD n K Q) (f++g) a w
 |[],a,w,h=>by simp only[wpList,qD] at h;obtain⟨c,p,q⟩:=h;exact k c a w p q
 |o::l,a,w,h=>by
  have d:LetsOut (qD n N Q)->LetsOut (qD n K Q):=fun⟨a,w,hq⟩=>⟨a,w,hq⟩;simp only[List.cons_append];unfold wpList at h⊢;by_cases e:Region.wanted o (yielded ops a.tmps)=true
  .rw[iP e] at h⊢;rcases h with h|⟨j,m⟩
   .exact .inl<|Oper.N7 (λb w' i=>N8 k l b w' i) (λ_ _ _ h=>h) d h
   .exact .inr ⟨j,d m⟩
  .rw[iN e] at h⊢;exact N8 k l _ w h
theorem x5 {c d:List Oper} {N:Env->World->Prop} (h:OW P n ops N c e w) (k:∀b w',N b w'->OW P n ops K d b w'):OW P n ops K (c++d) e w:=λa g Q=>
 N8 (λb f w' i j=>k b w' j f i Q) c a w (h a g Q)
theorem N9 {l:List Oper} (m g i:Nat) (D:List Nat) {c r:Bool} (J:World->Prop) (j:e g= .bool c) 
  (p:c=true->OW P n ops (λa w'=>eO D e a/\a i= .bool r/\J w') (l.take m) (jc e g<|.bool true) w)
  (o:c=false->OW P n ops (λa w'=>eO D e a/\a i= .bool false/\J w') (l.take m) (jc e g<|.bool false) w)
  (k:∀x w',J w'->OW P n ops K (l.drop m) (jc (aX D x e) i (.bool (c&&r))) w'):OW P n ops K l e w:=by
 rw[<-List.take_append_drop m l];cases c with
 |true=>have h:=p rfl;rw[wK j] at h;refine x5 h λa w' ⟨b,f,d⟩=>?_;have:=k a w' d;rw[zF b,Bool.true_and,wK f] at this;exact this
 |false=>have h:=o rfl;rw[wK j] at h;refine x5 h λa w' ⟨b,f,d⟩=>?_;have:=k a w' d;rw[zF b,Bool.false_and,wK f] at this;exact this
theorem Dx {l:List Oper} (m g i:Nat) (D:List Nat) {c r:Bool} (J:World->Prop) (j:e g= .bool c) 
  (p:c=true->OW P n ops (λa w'=>eO D e a/\a i= .bool true/\J w') (l.take m) (jc e g<|.bool true) w)
  (o:c=false->OW P n ops (λa w'=>eO D e a/\a i= .bool r/\J w') (l.take m) (jc e g<|.bool false) w)
  (k:∀x w',J w'->OW P n ops K (l.drop m) (jc (aX D x e) i (.bool (c||r))) w'):OW P n ops K l e w:=by
 rw[<-List.take_append_drop m l];cases c with
 |true=>have h:=p rfl;rw[wK j] at h;refine x5 h λa w' ⟨b,f,d⟩=>?_;have:=k a w' d;rw[zF b,Bool.true_or,wK f] at this;exact this
 |false=>have h:=o rfl;rw[wK j] at h;refine x5 h λa w' ⟨b,f,d⟩=>?_;have:=k a w' d;rw[zF b,Bool.false_or,wK f] at this;exact this
theorem acj {a:List UInt8} (hT:P.underlying T=some .string) (hg:gate ops e g=true) (hd:cK n dst=true) (hx:ev e x=str a) 
  (k:OW P n ops K rest (cj e dst<|.int .i64 (a.length:Nat)) w):OW P n ops K (⟨dst,.call {callee:=.builtin .len,args:=#[x],argTypes:=#[T]},ty,pos,after,g⟩::rest) e w:=
 acb hT hg hd hx (by simp[ByteArray.size]) k
theorem jE {l:List (Nat×Operand)} (hb:(Instr.build T (l.map λp=>(p.1,ev e p.2)).toArray).run P w= .ok v w) (b:gate ops e g=true) (a:cK n dst=true) 
  (k:OW P n ops K rest (cj e dst v) w):OW P n ops K (⟨dst,.build T l.toArray,ty,pos,after,g⟩::rest) e w:=
 fS b a (by simp only[execOp,List.map_toArray,Sem.run_bind,hb];rfl) k
end
theorem gh {e:Env} {ty:Nat} {T:TypeId} (a:tY P ty=true) (g:TI P ty sz bytes z) (c:e t= .pointer (some ⟨b,0,none⟩)) (hb:aK w b vs.toArray T) (d:vs.length=sz):
  S8 P e t ty (.agg vs.toArray) w:=by
 refine⟨⟨b,0,none⟩,c,?_⟩;have:=run_loadCells_list (P:=P) w ⟨b,0,none⟩ vs (λj v f=>by rw[wJ];exact hb.all j v f);rw[d] at this;simp[loadVar,Tc a,g.tX,this]
def zZ:Nat->List Value->List (Nat×Value)
 |_,[]=>[]
 |k,v::l=>(k,v)::zZ (k+1) l
theorem mg {e a:Env} {q:Prop} (b:p) (c:q) (h:eO D e a:=by repeat(first|with_reducible exact zE|refine Ky rfl ?_|refine N6 rfl ?_)):eO D e a/\p/\q:=⟨h,b,c⟩
theorem dn {q r:Prop} (a:p) (b:q) (c:r:=by first|exact qG|exact zE):p/\q/\r:=⟨a,b,c⟩
def pj (F:List (Value->World->Prop)) (i:Nat):Value->World->Prop:=F.getD i λ_ _=>True
def HS (F:List (Value->World->Prop)) (a:Nat->Value) (w:World):List Nat->Prop
 |[]=>True
 |[j]=>pj F j (a j) w
 |j::r=>pj F j (a j) w/\HS F a w r
theorem ack {a:Nat->Value}:∀{l:List Nat},(∀j∈l,pj F j (a j) w)->HS F a w l:=by intro x;induction x<;>grind [pj,HS]
def vC (a:List Nat) (b:Nat->Value):List Nat->List (Nat×Value)
 |[]=>[]
 |j::r=>(a.getD j 0,b j)::vC a b r
structure Kept (KK:World->World->Prop):Prop where
 refl:∀w,KK w w
 trans:∀{a b c},KK a b->KK b c->KK a c
 of:∀{a b},aj [] a b->KK a b
theorem bz:Kept (aj []):=⟨aj.refl _,aj.trans,id⟩
def KS (b:Nat) (c:List Value) (T:TypeId) (w d:World):Prop:=aj [b] w d/\(aK w b c.toArray T->aK d b c.toArray T)/\
 ((∃a:List Value,a.length=c.length/\aK w b a.toArray T)->∃a:List Value,a.length=c.length/\aK d b a.toArray T)
theorem Dy (b:Nat) (a:List Value) (T:TypeId):Kept (KS b a T):=
 ⟨λ_=>⟨aj.refl _ _,id,id⟩,λh k=>⟨h.1.trans k.1,λx=>k.2.1<|h.2.1 x,λx=>k.2.2<|h.2.2 x⟩,
  λh=>⟨h.any,λx=>x.aG h sm,fun⟨us,hl,x⟩=>⟨us,hl,x.aG h sm⟩⟩⟩
def ry (a:World->World->Prop):List (Value->World->Prop)->Prop
 |[]=>True
 |f::r=>(∀v w w',f v w->a w w'->f v w')/\ry a r
theorem Ti {b:World->World->Prop}:∀{F:List (Value->World->Prop)},ry b F->∀f∈F,∀v w w',f v w->b w w'->f v w'
 |[],_,_,h=>by cases h
 |g::r,h,f,a=>by
  rcases mC.1 a with rfl|a
  .exact h.1
  .exact Ti h.2 f a
theorem bJ {a:World->World->Prop} {V:Value} (h:ry a r):ry a ((λv _=>v=V)::r):=⟨λ_ _ _ h _=>h,h⟩
theorem nk {a:World->World->Prop} {c:Prop} {V:Value} (h:ry a r):ry a ((λv _=>c->v=V)::r):=⟨λ_ _ _ h _=>h,h⟩
theorem Dz {a:List Value} {T:TypeId} (h:ry (KS b a T) r):ry (KS b a T) ((λ_ w=>aK w b a.toArray T)::r):=⟨λ_ _ _ h k=>k.2.1 h,h⟩
theorem ky {a:World->World->Prop} {f:Value->World->Prop} (b:∀v w w',f v w->a w w'->f v w') (h:ry a r):ry a (f::r):=⟨b,h⟩
theorem qG {e:Env}:eO [d] e (cj e (some d) v):=Ky sm zE
def Oa (d:World->World->Prop) (P:Program) (n:Nat) (c:Array Oper) (W b:List Nat) (F:List (Value->World->Prop)) (g:Env) (i:World) (k:Nat) (o:Oper) (a:List Nat):Prop:=
 ∀(x:Env) (vs:Nat->Value) (w:World) (e:Env),d i w->HS F vs w a->e=aY (aX W x g) (vC b vs a)->
  OW P n c (λf w'=>d w w'/\pj F k (f<|b.getD k 0) w'/\eO [b.getD k 0] e f) [o] e w
def vD (b:World->World->Prop) (P:Program) (n:Nat) (a:Array Oper) (W c:List Nat) (F:List (Value->World->Prop)) (e:Env) (f:World):Nat->List Oper->List (List Nat)->Prop
 |_,[],_=>True
 |_,_::_,[]=>True
 |k,o::l,d::r=>Oa b P n a W c F e f k o d/\vD b P n a W c F e f (k+1) l r
def waits (o:Oper) (j:Nat):Bool:=o.after.toList.any λe=>Region.binds .any e&&e.on==j
def vE (l:List Oper) (m:Nat) (W b:List Nat) (a:List (List Nat)):Bool:=
 decide (m<=l.length)&&decide (b.length=m)&&decide (a.length=m)&&decide (b.Nodup)&&
 (List.range l.length).all (λk=>match l[k]? with
  |some o=>o.after.toList.all (λe=>!Region.binds .any e||decide (e.on<k))&&
   (if k<m then W.contains (b.getD k 0)&&(a.getD k []).all (λj=>waits o j&&decide (j<m)) else(List.range k).all (λj=>(List.range<|k+1).any λx=>decide (j<x)&&(match l[x]? with|some c=>waits c j|none=>false)))
  |none=>false)
theorem eH {b:World->World->Prop} {P:Program} {n:Nat} {a:Array Oper} {W c:List Nat} {F:List (Value->World->Prop)} {e:Env} {f:World} {k:Nat} {o:Oper} {l:List Oper} {d:List Nat} {r:List (List Nat)} 
  (h:Oa b P n a W c F e f k o d) (g:vD b P n a W c F e f (k+1) l r):vD b P n a W c F e f k (o::l) (d::r):=⟨h,g⟩
theorem Tj {c:World->World->Prop} {W e:List Nat} {f:Env}:∀(l:List Oper) (a:List (List Nat)) (k:Nat),vD c P n ops W e F f w0 k l a->
  ∀(i:Nat) (o:Oper) (d:List Nat),l[i]?=some o->a[i]?=some d->Oa c P n ops W e F f w0 (k+i) o d
 |[],_,_,_,i,o,d,b,_=>by simp at b
 |_::_,[],_,_,i,o,d,_,hd=>by simp at hd
 |o'::l,d'::r,k,h,i,o,d,b,hd=>by
  cases i with
  |zero=>simp at b hd;subst b;subst hd;exact h.1
  |succ i=>have:=Tj l r (k+1) h.2 i o d (by simpa using b) (by simpa using hd);rw[show k+1+i=k+(i+1) from by omega] at this;exact this
theorem HT {e:Env}:∀{l:List (Nat×Value)},(∀p∈l,e p.1=p.2)->aY e l=e
 |[],_=>rfl
 |p::r,h=>by simp only[aY,HT (e:=e) (l:=r) λq a=>h q (by simp[a])];exact wK<|h p sm
theorem acm {a:World->World->Prop} (c:∀f∈F,∀v w w',f v w->a w w'->f v w') (i:Nat) (h:pj F i v w) (k:a w w'):pj F i v w':=by
 unfold pj at*;rw[gG] at*;cases b:F[i]? with
 |none=>simp
 |some f=>simp only[b,Option.getD_some] at h⊢;exact c f (List.mem_of_getElem? b) v w w' h k
section
variable {P:Program} {n:Nat} {l:List Oper} {m:Nat} {W ds:List Nat} {deps:List (List Nat)}
theorem FN (f:vE l m W ds deps=true):m<=l.length/\ds.length=m/\deps.length=m/\ds.Nodup/\
  ∀k o,l[k]?=some o->(∀e∈o.after,Region.binds .any e=true->e.on<k)/\
   (k<m->W.contains (ds.getD k 0)=true/\∀j∈deps.getD k [],waits o j=true/\j<m)/\(m<=k->∀j,j<k->∃x b,j<x/\x<=k/\l[x]?=some b/\waits b j=true):=by
 simp only[vE,aE,dE] at f;obtain⟨⟨⟨⟨i,n⟩,p⟩,q⟩,r⟩:=f;refine⟨i,n,p,q,λk o hk=>?_⟩;have v:k<l.length:=(List.getElem?_eq_some_iff.1 hk).1;have:=List.all_eq_true.1 r k<|List.mem_range.2 v;simp only[hk,aE] at this;obtain⟨s,hb⟩:=this;refine⟨λe t y=>?_,λg=>?_,λ_ j c=>?_⟩
 .have:=List.all_eq_true.1 s e (by simpa using t);simpa[y] using this
 .rw[iP g] at hb;simp only[aE,List.all_eq_true,dE] at hb;exact⟨hb.1,λj c=>hb.2 j c⟩
 .rw[iN om] at hb;have:=List.all_eq_true.1 hb j<|List.mem_range.2 c;obtain⟨x,u,a⟩:=List.any_eq_true.1 this;rw[List.mem_range] at u;simp only[aE,dE] at a;cases d:l[x]? with
  |none=>rw[d] at a;cases a.2
  |some b=>rw[d] at a;exact⟨x,b,a.1,om,d,a.2⟩
theorem Ob {o:Oper} (h:waits o j=true):∃e∈o.after,Region.binds .any e=true/\e.on=j:=by grind [waits]
def Kz (l:List Oper) (a:Array Bool):Prop:=∀j o,l[j]?=some o->a.getD j false=true->∀e∈o.after,Region.binds .any e=true->a.getD e.on false=true
theorem Oc {k:Nat} {o:Oper} {a:Array Bool} (t:Kz l a) (m:l[k]?=some o) (n:∀e∈o.after,Region.binds .any e=true->a.getD e.on false=true) 
  (p:∀j,j<k->∃x b,j<x/\x<=k/\l[x]?=some b/\waits b j=true):∀d j,j+d=k->0<d->a.getD j false=true:=by
 intro d;induction d using Nat.strongRecOn with
 |_ d r=>
  intro j _ _;obtain⟨x,b,_,_,c,i⟩:=p j om;obtain⟨e,f,hb,g⟩:=Ob i;rcases Nat.lt_or_ge x k with q|q
  .have:=r (k-x) om x om om;rw[<-g];exact t x b c this e f hb
  .have s:x=k:=by omega
   subst s;rw[m] at c;cases c;rw[<-g];exact n e f hb
theorem KB (O:vE l m W ds deps=true) {Q:Exit->Act->World->Prop}:∀(c k:Nat) (b:Array Bool) (a:Act) (w:World),m<=k->k+c=l.length->b.size=l.length->
  (∀j,j<l.length->(b.getD j true=false↔k<=j))->wpList P l.toArray Q (l.drop k) a w->wpAny P .any l.toArray Q c b a w:=by
 obtain⟨_,_,_,_,B⟩:=FN O;intro c;induction c with
 |zero=>
  intro k b a w J hk y g h;have p:k=l.length:=by omega
  refine⟨?_,?_⟩
  .cases v:Region.ready .any l.toArray b with
   |nil=>rfl
   |cons i _=>
    have r:i∈Region.ready .any l.toArray b:=by rw[v];simp
    obtain⟨z,o,d,_⟩:=mem_ready.1 r;have A:i<l.length:=by simpa using(Array.getElem?_eq_some_iff.1 d).1
    have:=(g i A).1 z;omega
  .rw[p,List.drop_length] at h;exact h
 |succ c H=>
  intro k b a w J hk y g h;have p:k<l.length:=by omega
  obtain⟨o,d⟩:∃o,l[k]?=some o:=⟨l[k],gE p⟩;have C:∀j,j<k->b.getD j false=true:=λj n=>by
   have u:¬b.getD j true=false:=λS=>by have:=(g j om).1 S;omega
   rw[Array.getD_eq_getD_getElem?] at u⊢;have:j<b.size:=by omega
   rw[Array.getElem?_eq_getElem this] at u⊢;simpa using u
  have E:k∈Region.ready .any l.toArray b:=mem_ready.2 ⟨(g k p).2<|lR _,o,by simpa using d,λe q hb=>C _<|(B k o d).1 e q hb⟩;have t:∀i,i∈Region.ready .any l.toArray b->i=k:=λi r=>by
   obtain⟨z,Y,s,M⟩:=mem_ready.1 r;have A:i<l.length:=by simpa using(Array.getElem?_eq_some_iff.1 s).1
   have U:=(g i A).1 z;rcases Nat.eq_or_lt_of_le U with q|_
   .exact q.symm
   .have V:Kz l b:=λj o d n e q hb=>by
     have T:j<k:=by
      rcases Nat.lt_or_ge j k with h|h
      .exact h
      .have Z:=(List.getElem?_eq_some_iff.1 d).1;have f:=(g j Z).2 h;rw[Array.getD_eq_getD_getElem?,Array.getElem?_eq_getElem om] at n f;simp at n f;rw[f] at n;cases n
     have:=(B j o d).1 e q hb;exact C _ om
    have:=Oc V (by simpa using s) M ((B i Y<|by simpa using s).2.2 om) (i-k) k om om;have f:=(g k p).2<|lR _;rw[Array.getD_eq_getD_getElem?] at this f;have K:k<b.size:=by omega
    rw[Array.getElem?_eq_getElem K] at this f;simp at this f;rw[f] at this;cases this
  refine⟨λv=>(by rw[v] at E;cases E),λi r=>?_⟩;have:=t i r;subst this;have R:l.drop i=o::l.drop (i+1):=by
   rw[List.drop_eq_getElem_cons p]
   congr 1
   exact(List.getElem?_eq_some_iff.1 d).2
  rw[R] at h;have D:∀j,j<l.length->((b.setIfInBounds i true).getD j true=false↔i+1<=j):=λj n=>by
   by_cases I:i=j
   .subst I;have:i<b.size:=by omega
    simp[Array.getD_eq_getD_getElem?,this]
   .rw[getD_set_ne true I,g j n];omega
  unfold wpOp;have X:l.toArray[i]?=some o:=by simpa using d
  simp only[X];unfold wpList at h;by_cases F:Region.wanted o (yielded l.toArray a.tmps)=true
  .rw[iP F] at h⊢;exact h.imp (λh=>Oper.wp_mono (λL w' N=>H (i+1) _ L w' om om (by simpa using y) D N) h) id
  .rw[iN F] at h⊢;exact H (i+1) _ _ w om om (by simpa using y) D h
theorem aco {K:World->World->Prop} (zG:Kept K) {N:Env->World->Prop} {e0:Env} {w0:World} (hB:vE l m W ds deps=true) (hF:∀f∈F,∀v w w',f v w->K w w'->f v w') 
  (hc:vD K P n l.toArray W ds F e0 w0 0 (l.take m) deps)
  (C:∀(x:Env) (vs:Nat->Value) (w:World),K w0 w->(∀i,i<m->pj F i (vs i) w)->OW P n l.toArray N (l.drop m) (aY (aX W x e0) (vC ds vs (List.range m))) w) (Q:Exit->Act->World->Prop):
  ∀(c:Nat) (b:Array Bool) (e:Env) (a:Act) (w:World),Fits n e a->K w0 w->eO W e0 e->b.size=l.length->
   ((List.range l.length).filter λj=>!b.getD j true).length=c->
   (∀j,m<=j->j<l.length->b.getD j true=false)->(∀j,j<m->b.getD j true=true->pj F j (e<|ds.getD j 0) w)->Kz l b->
   wpAny P .any l.toArray (qD n N Q) c b a w:=by
 obtain⟨FP,_,_,jO,mG⟩:=FN hB;have Br:∀(b:Array Bool) (j:Nat),b.size=l.length->j<l.length->¬b.getD j true=false->b.getD j false=true:=λb j z g u=>by rw[Array.getD_eq_getD_getElem?] at u⊢;rw[Array.getElem?_eq_getElem om] at u⊢;simpa using u
 have HU:∀(b:Array Bool) (j:Nat),b.size=l.length->j<l.length->b.getD j false=true->b.getD j true=true:=λb j z g u=>by rw[Array.getD_eq_getD_getElem?] at u⊢;rw[Array.getElem?_eq_getElem om] at u⊢;simpa using u
 intro c;induction c with
 |zero=>
  intro b e a w Z hk O z DD Y T nX;have D:∀j,j<l.length->b.getD j true=true:=λj g=>by
   cases hg:b.getD j true with
   |true=>rfl
   |false=>
    have:j∈(List.range l.length).filter λj=>!b.getD j true:=by rw[List.mem_filter,List.mem_range];exact⟨g,by rw[hg];rfl⟩
    rw[List.length_eq_zero_iff.1 DD] at this;cases this
  have hm:m=l.length:=by
   rcases Nat.lt_or_ge m l.length with h|h
   .have:=Y m (lR _) h;rw[D m h] at this;cases this
   .omega
  have A:=C e (λi=>e<|ds.getD i 0) w hk λi L=>T i L<|D i om;rw[zF O,HT (by
   intro p R;have:∀(r:List Nat),p∈vC ds (λi=>e<|ds.getD i 0) r->e p.1=p.2:=by
    intro r;induction r with
    |nil=>intro h;cases h
    |cons j r I=>
     intro h;rcases mC.1 h with h|h
     .subst h;rfl
     .exact I h
   exact this _ R)] at A
  have q:=A a Z Q;exact KB hB 0 m b a w (lR _) om z (λj g=>⟨λh=>(by rw[D j g] at h;cases h),λh=>om⟩) q
 |succ c I=>
  intro b e a w Z hk O z DD Y T nX;by_cases V:∀j,j<m->b.getD j true=true
  .have A:=C e (λi=>e<|ds.getD i 0) w hk λi L=>T i L<|V i L;rw[zF O,HT (by
    intro p R;have:∀(r:List Nat),p∈vC ds (λi=>e<|ds.getD i 0) r->e p.1=p.2:=by
     intro r;induction r with
     |nil=>intro h;cases h
     |cons j r I=>
      intro h;rcases mC.1 h with h|h
      .subst h;rfl
      .exact I h
    exact this _ R)] at A
   have q:=A a Z Q;have Bu:∀j,j<l.length->(b.getD j true=false↔m<=j):=λj g=>by
    constructor
    .intro h;rcases Nat.lt_or_ge j m with s|s
     .rw[V j s] at h;cases h
     .exact s
    .intro h;exact Y j h g
   have Bv:m+(c+1)=l.length:=by
    rw[<-DD];have:∀k,k<=l.length->m<=k->((List.range k).filter λj=>!b.getD j true).length=k-m:=by
     intro k;induction k with
     |zero=>intro _ h;simp
     |succ k y=>
      intro iq _;rw[List.range_succ,List.filter_append,lA];rcases Nat.lt_or_ge k m with s|s
      .have Tm:k+1=m:=by omega
       have hz:((List.range k).filter λj=>!b.getD j true)=[]:=by rw[List.filter_eq_nil_iff];intro j g;rw[List.mem_range] at g;rw[V j om];simp
       have E:(!b.getD k true)=false:=by rw[V k s];rfl
       simp only[hz,List.filter_cons,E,List.filter_nil,List.length_nil];simp;omega
      .rw[y om s];have E:(!b.getD k true)=true:=by rw[(Bu k om).2 s];rfl
       simp only[List.filter_cons,E,List.filter_nil,if_true,lC,List.length_nil];omega
    have:=this l.length (lR _) FP;omega
   exact KB hB (c+1) m b a w (lR _) Bv z Bu q
  .have hex:∃j,j<m/\b.getD j true=false/\∀i,i<j->b.getD i true=true:=by
    have:∀k,(∃j,j<k/\b.getD j true=false/\∀i,i<j->b.getD i true=true)\/∀j,j<k->b.getD j true=true:=by
     intro k;induction k with
     |zero=>right;intro j g;omega
     |succ k y=>
      rcases y with⟨j,g,u,q⟩|h
      .exact .inl ⟨j,om,u,q⟩
      .cases hg:b.getD k true with
       |false=>exact .inl ⟨k,om,hg,h⟩
       |true=>
        right;intro j g;rcases Nat.lt_or_ge j k with s|s
        .exact h j s
        .rw[show j=k from by omega];exact hg
    rcases this m with h|h
    .exact h
    .exact absurd h V
   obtain⟨J,_,HW,HX⟩:=hex;obtain⟨o0,HY⟩:∃o,l[J]?=some o:=⟨l[J]'om,gE om⟩;have pX:J∈Region.ready .any l.toArray b:=mem_ready.2 ⟨HW,o0,by simpa using HY,λed H hb=>by have eN:=(mG J o0 HY).1 ed H hb;exact Br b _ z om (by rw[HX _ eN];simp)⟩;refine⟨λhr=>(by rw[hr] at pX;cases pX),λi L=>?_⟩;obtain⟨hu,o,ho,D⟩:=mem_ready.1 L;have mF:i<l.length:=by simpa using(Array.getElem?_eq_some_iff.1 ho).1
   have U:l[i]?=some o:=by simpa using ho
   have sn:i<m:=by
    rcases Nat.lt_or_ge i m with h|h
    .exact h
    .have:=HU b J z om<|Oc nX U D ((mG i o U).2.2 h) (i-J) J om om;rw[HW] at this;cases this
   obtain⟨hW,Bw⟩:=(mG i o U).2.1 sn;obtain⟨dp,Bx⟩:∃d,deps[i]?=some d:=⟨deps[i]'om,gE om⟩;have vF:deps.getD i []=dp:=by rw[gG,Bx];rfl
   rw[vF] at Bw;have jF:=Tj (l.take m) deps 0 hc i o dp (by rw[List.getElem?_take,iP sn];exact U) Bx;rw[Nat.zero_add] at jF;have u:=jF e (λj=>e<|ds.getD j 0) w _ hk (ack λj g=>by obtain⟨hwj,DE⟩:=Bw j g;obtain⟨ed,H,hb,wP⟩:=Ob hwj;exact T j DE<|HU b j z om (by rw[<-wP];exact D ed H hb)) rfl;rw[zF O,HT (by
    intro p R;have:∀(r:List Nat),p∈vC ds (λi=>e<|ds.getD i 0) r->e p.1=p.2:=by
     intro r;induction r with
     |nil=>intro h;cases h
     |cons j r I=>
      intro h;rcases mC.1 h with h|h
      .subst h;rfl
      .exact I h
    exact this _ R)] at u
   have q:=u a Z Q;have next:∀(B:Act) (w':World),qD n (λX w'=>K w w'/\pj F i (X<|ds.getD i 0) w'/\eO [ds.getD i 0] e X) Q .normal B w'->
     wpAny P .any l.toArray (qD n N Q) c (b.setIfInBounds i true) B w':=λB w' S=>by
    obtain⟨X,Of,qH,HZ,rz⟩:=S;refine I _ X B w' Of (zG.trans hk qH) ?_ (by simpa using z) ?_ ?_ ?_ ?_
    .intro t A;have dD:t≠ds.getD i 0:=λH=>by rw[H,hW] at A;cases A
     rw[rz t (by simpa using dD)];exact O t A
    .have Bv:∀k,k<=l.length->((List.range k).filter λj=>!(b.setIfInBounds i true).getD j true).length+(if i<k then 1 else 0)=((List.range k).filter λj=>!b.getD j true).length:=by
      intro k;induction k with
      |zero=>simp
      |succ k y=>
       intro iq;have tZ:=y om;rw[List.range_succ,List.filter_append,lA,List.filter_append,lA];by_cases wQ:i=k
       .subst wQ;rw[iN om] at tZ;have eN:i<b.size:=by omega
        have E:(b.setIfInBounds i true).getD i true=true:=by simp[Array.getD_eq_getD_getElem?,eN]
        rw[iP om];simp only[List.filter_cons,E,hu,List.filter_nil,Bool.not_true,Bool.not_false,if_true,Bool.false_eq_true,if_false,lC,List.length_nil];omega
       .have E:(b.setIfInBounds i true).getD k true=b.getD k true:=getD_set_ne true wQ;simp only[List.filter_cons,E,List.filter_nil];have hii:(i<k+1)↔(i<k):=by omega
        by_cases qE:i<k
        .have c1:i<k+1:=by omega
         rw[iP qE] at tZ;rw[iP c1];split<;>simp only[lC,List.length_nil]<;>omega
        .have c1:¬i<k+1:=by omega
         rw[iN qE] at tZ;rw[iN c1];split<;>simp only[lC,List.length_nil]<;>omega
     have:=Bv l.length<|lR _;rw[iP mF] at this;omega
    .intro j Og xX;rw[getD_set_ne true om];exact Y j Og xX
    .intro j DE g;by_cases M:i=j
     .subst M;exact HZ
     .rw[getD_set_ne true M] at g;have dD:ds.getD j 0≠ds.getD i 0:=by
       rw[gG,gG,gE om,gE om];simp only[Option.getD_some];intro H;exact M ((List.getElem_inj jO).1 H.symm)
      rw[rz _ (by simpa using dD)];exact acm hF j (T j DE g) qH
    .intro j oj DF g e2 kK aM;have x6:∀x,b.getD x false=true->(b.setIfInBounds i true).getD x false=true:=λx hx=>by
      by_cases H0:i=x
      .subst H0;have:i<b.size:=by omega
       simp[Array.getD_eq_getD_getElem?,this]
      .rw[getD_set_ne false H0];exact hx
     by_cases M:i=j
     .subst M;rw[U] at DF;cases DF;exact x6 _<|D e2 kK aM
     .rw[getD_set_ne false M] at g;exact x6 _<|nX j oj DF g e2 kK aM
   unfold wpOp;simp only[ho];unfold wpList at q;by_cases hw:Region.wanted o (yielded l.toArray a.tmps)=true
   .rw[iP hw] at q⊢;rcases q with q|⟨q,h3⟩
    .refine .inl<|Oper.N7 (λB w' s=>next B w' s) (λ_ _ _ h=>h) (fun⟨a,w,S⟩=>⟨a,w,S⟩) q
    .exact .inr ⟨q,by obtain⟨B,w',S⟩:=h3;exact⟨B,w',S⟩⟩
   .rw[iN hw] at q⊢;exact next _ _ q
theorem Tn {N R:Env->World->Prop} {X:Nat->Env->World->Prop} {id:Nat} {e0:Env} {w0:World} (z:P.follows .mixedOrders=true) {d:World->World->Prop} (f:Kept d) (m:Nat) (W g:List Nat) (b:List (List Nat)) (F:List (Value->World->Prop)) 
  (r:vE l m W g b=true) (u:ry d F)
  (y:∀s,d w0 s->vD d P n l.toArray W g F e0 s 0 (l.take m) b)
  (e:∀(x:Env) (vs:Nat->Value) (w:World),d w0 w->(∀i,i<m->pj F i (vs i) w)->OW P n l.toArray N (l.drop m) (aY (aX W x e0) (vC g vs (List.range m))) w):
  CW P n (.region id l.toArray true) N R X e0 w0:=λa v=>by
 refine wp_region_any z ?_;have q:aj [] w0 {w0 with drawn:=w0.drawn+1}:=aj.drew _ _;have:=aco f (N:=N) (e0:=e0) (w0:={w0 with drawn:=w0.drawn+1}) r (Ti u) (y _<|f.of q) (λx vs w hk=>e x vs w<|f.trans (f.of q) hk) (mc n N R X) l.length (Array.replicate l.length false) e0 a _ v (f.refl _) zE sm
  (by
   have:((List.range l.length).filter λj=>!(Array.replicate l.length false).getD j true)=List.range l.length:=by rw[List.filter_eq_self];intro j c;rw[List.mem_range] at c;simp[Array.getD_eq_getD_getElem?,c]
   rw[this];simp)
  (by intro j _ c;simp[Array.getD_eq_getD_getElem?,c])
  (by
   intro j c h;have:=(FN r).1;have p:j<l.length:=by omega
   simp[Array.getD_eq_getD_getElem?,p] at h)
  (by intro j o A c;have p:j<l.length:=(List.getElem?_eq_some_iff.1 A).1;simp[Array.getD_eq_getD_getElem?,p] at c)
 have t:qD n N (mc n N R X)=mc n N R X:=by funext x a w;cases x<;>rfl
 rw[t] at this;simpa using this
end
abbrev ak:=List UInt8
inductive aq where
 |mk (au:ak) (ag:List aq)
def aq.au:aq->ak| .mk a _=>a
def aq.ag:aq->List aq| .mk _ p=>p
def fi (c:UInt8):Bool:=(97<=c&&c<=122)||(48<=c&&c<=57)||c==43||c==45||c==42||c==62
theorem To (c:UInt8):((((((decide ((97:Int)<=c.toNat)&&decide ((c.toNat:Int)<=122))||(decide ((48:Int)<=c.toNat)&&decide ((c.toNat:Int)<=57)))||decide ((c.toNat:Int)=43))||decide ((c.toNat:Int)=45))||decide ((c.toNat:Int)=42))||decide ((c.toNat:Int)=62))=fi c:=by
 have b:∀k:UInt8,decide (k<=c)=decide ((k.toNat:Int)<=c.toNat):=λk=>by simp[UInt8.le_iff_toNat_le]
 have d:∀k:UInt8,decide (c<=k)=decide ((c.toNat:Int)<=k.toNat):=λk=>by simp[UInt8.le_iff_toNat_le]
 have a:∀k:UInt8,(c==k)=decide ((c.toNat:Int)=k.toNat):=λk=>by rw[Bool.eq_iff_iff];simp[<-UInt8.toNat_inj];omega
 unfold fi;rw[b,d,b,d,a,a,a,a];rfl
def js (rd:ak->Option (aq×ak)):Nat->ak->Option (List aq×ak)
 |0,_=>none
 |n+1,s=>match rd s with
  |none=>none
  |some (t,r)=>match r with
   |[]=>none
   |c::r'=>if c=41 then some ([t],r') else if c=32 then(js rd n r').map λp=>(t::p.1,p.2) else none
def eZ:Nat->ak->Option (aq×ak)
 |0,s=>match s with
  |[]=>none
  |c::_=>if c=40 then none else if s.takeWhile fi=[] then none else some (.mk (s.takeWhile fi) [],s.dropWhile fi)
 |d+1,s=>match s with
  |[]=>none
  |c::r=>if c=40 then(js (eZ d) (r.length+1) r).map λp=>(.mk [] p.1,p.2)
   else if s.takeWhile fi=[] then none else some (.mk (s.takeWhile fi) [],s.dropWhile fi)
def KC (rd:ak->Option (aq×ak)):Prop:=∀s t r,rd s=some (t,r)->∃k,0<k/\k<=s.length/\r=s.drop k
theorem H2 (p:UInt8->Bool):∀s:ak,s.dropWhile p=s.drop (s.takeWhile p).length:=by intro x;induction x<;>grind [List.dropWhile,List.takeWhile]
theorem H3 (p:UInt8->Bool) (s:ak):(s.takeWhile p).length<=s.length:=by induction s<;>grind [List.takeWhile]
theorem Tp {rd:ak->Option (aq×ak)} (m:KC rd):∀n s j r,js rd n s=some (j,r)->∃k,0<k/\k<=s.length/\r=s.drop k/\j.length<=k
 |0,_,_,_,h=>by simp[js] at h
 |n+1,s,j,r,h=>by
  unfold js at h;cases e:rd s with
  |none=>simp[e] at h
  |some p=>
   obtain⟨t,v⟩:=p;obtain⟨k,_,_,rfl⟩:=m s t v e;simp only[e] at h;cases a:s.drop k with
   |nil=>simp[a] at h
   |cons c f=>
    simp only[a] at h;have i:f=s.drop (k+1):=by rw[<-List.drop_drop,a];rfl
    have b:k+1<=s.length:=by have:=congrArg List.length a;simp at this;omega
    by_cases o:c=41
    .rw[iP o] at h;simp at h;exact⟨k+1,om,b,by rw[<-h.2,i],by rw[<-h.1];simp⟩
    .rw[iN o] at h;by_cases u:c=32
     .rw[iP u] at h;cases d:js rd n f with
      |none=>simp[d] at h
      |some q=>
       obtain⟨l,g⟩:=q;simp[d] at h;obtain⟨k',_,_,y,_⟩:=Tp m n f l g d;refine⟨k+1+k',om,?_,?_,?_⟩
       .have:=congrArg List.length i;simp at this;omega
       .rw[<-h.2,y,i,List.drop_drop]
       .rw[<-h.1];simp;omega
     .rw[iN u] at h;cases h
theorem KD:∀d,KC (eZ d)
 |0,s,t,r,h=>by
  cases s with
  |nil=>simp[eZ] at h
  |cons c s=>
   simp only[eZ] at h;by_cases b:c=40
   .rw[iP b] at h;cases h
   .rw[iN b] at h;by_cases a:(c::s).takeWhile fi=[]
    .rw[iP a] at h;cases h
    .rw[iN a] at h;simp only[Option.some.injEq,Prod.mk.injEq] at h;refine⟨((c::s).takeWhile fi).length,?_,H3 _ _,by rw[<-h.2,H2]⟩;exact List.length_pos_iff.2 a
 |d+1,s,t,r,h=>by
  cases s with
  |nil=>simp[eZ] at h
  |cons c s=>
   simp only[eZ] at h;by_cases b:c=40
   .rw[iP b] at h;cases e:js (eZ d) (s.length+1) s with
    |none=>simp[e] at h
    |some q=>obtain⟨g,f⟩:=q;simp[e] at h;obtain⟨k',_,_,i,_⟩:=Tp (KD d) _ s g f e;exact⟨k'+1,om,by simp;omega,by rw[<-h.2,i];rfl⟩
   .rw[iN b] at h;by_cases a:(c::s).takeWhile fi=[]
    .rw[iP a] at h;cases h
    .rw[iN a] at h;simp only[Option.some.injEq,Prod.mk.injEq] at h;refine⟨((c::s).takeWhile fi).length,?_,H3 _ _,by rw[<-h.2,H2]⟩;exact List.length_pos_iff.2 a
theorem Tq {rd:ak->Option (aq×ak)} (a:KC rd):∀n m s,s.length<n->s.length<m->js rd n s=js rd m s
 |0,_,_,h,_=>by omega
 |_+1,0,_,_,h=>by omega
 |n+1,m+1,s,_,_=>by
  unfold js;cases e:rd s with
  |none=>rfl
  |some p=>
   obtain⟨t,f⟩:=p;obtain⟨k,_,_,rfl⟩:=a s t f e;simp only;cases d:s.drop k with
   |nil=>rfl
   |cons c b=>
    simp only;have g:b.length+1+k=s.length:=by have:=congrArg List.length d;simp at this;omega
    rw[Tq a n m b om om]
def rT (d:Nat) (s:ak):Option (aq×ak):=match d with
 |0=>none
 |d+1=>eZ d s
theorem Oh:∀d,KC (rT d)
 |0=>λs t r h=>by simp[rT] at h
 |d+1=>KD d
def nZ (d:Nat) (s:ak):Option (List aq×ak):=js (rT d) (s.length+1) s
theorem H4 (d:Nat) (s:ak):nZ d s=match rT d s with
  |none=>none
  |some (t,r)=>match r with
   |[]=>none
   |c::a=>if c=41 then some ([t],a) else if c=32 then(nZ d a).map λp=>(t::p.1,p.2) else none:=by
 unfold nZ
 conv=>lhs;unfold js
 cases e:rT d s with
 |none=>rfl
 |some p=>
  obtain⟨t,f⟩:=p;obtain⟨k,_,_,rfl⟩:=Oh d s t f e;simp only;cases b:s.drop k with
  |nil=>rfl
  |cons c a=>
   simp only;have g:a.length+1+k=s.length:=by have:=congrArg List.length b;simp at this;omega
   rw[Tq (Oh d) s.length (a.length+1) a om om]
theorem acv:∀n s,js (rT 0) n s=none
 |0,_=>rfl
 |n+1,s=>by simp[js,rT]
theorem FQ (d:Nat) (r:ak):eZ d (40::r)=(nZ d r).map λp=>(.mk [] p.1,p.2):=by
 cases d with
 |zero=>simp[eZ,nZ,acv]
 |succ d=>simp[eZ,nZ];rfl
theorem H5 (d:Nat) (c:UInt8) (r:ak) (h:c≠40):eZ d (c::r)=if(c::r).takeWhile fi=[] then none else some (.mk ((c::r).takeWhile fi) [],(c::r).dropWhile fi):=by cases d<;>simp[eZ,h]
theorem Tr (d:Nat):eZ d []=none:=by cases d<;>rfl
theorem drop_cons {a:Type} {s:List a} {c:a} (h:s[i]?=some c):s.drop i=c::s.drop (i+1):=by grind [List.getElem?_eq_some_iff,List.drop_eq_getElem_cons]
theorem Tt (p:UInt8->Bool):∀(s:ak) (k:Nat),k<=(s.takeWhile p).length->(k<(s.takeWhile p).length↔k<s.length/\p (s.getD k 0)=true):=by intro x;induction x<;>grind [List.takeWhile,lC,List.getD_cons_succ]
theorem jP {s:ak} {k:Nat} (h:k<s.length):s[k]?=some (s.getD k 0):=by grind
theorem KE (p:UInt8->Bool) (s:ak):s.take (s.takeWhile p).length=s.takeWhile p:=by induction s<;>grind [List.takeWhile]
theorem acw (s:ak) (i k:Nat):(s.drop i).getD k 0=s.getD (i+k) 0:=by grind
theorem acx (s:ak) {k:Nat} (a:i<=k) (h:k-i<=((s.drop i).takeWhile fi).length):k-i<((s.drop i).takeWhile fi).length↔k<s.length/\fi (s.getD k 0)=true:=by grind [Tt,acw]
def DG (n:Nat) (o:Option (aq×ak)) (t:aq) (a:Int):Prop:=match o with
 |some (b,r)=>t=b/\a=((n-r.length:Nat):Int)
 |none=>a= -1
theorem acy {s:ak} {k:Nat} {t:aq} {a:Int} (c:DG s.length (rT d<|s.drop k) t a) (b:a<0\/(s.length:Int)<=a) (e:0<s.length):nZ d (s.drop k)=none:=by grind [H4,DG,rT]
theorem acz {s:ak} {k:Nat} {t:aq} {a:Int} (b:DG s.length (rT d<|s.drop k) t a) (i:0<=a) (l:a<s.length):
  ∃m:Nat,a=m/\k<m/\m<s.length/\nZ d (s.drop k)=(if s.getD m 0=41 then some ([t],s.drop<|m+1) else if s.getD m 0=32 then(nZ d (s.drop<|m+1)).map λp=>(t::p.1,p.2) else none):=by
 rw[H4];unfold DG at b;cases c:rT d (s.drop k) with
 |none=>rw[c] at b;omega
 |some p=>
  obtain⟨_,r⟩:=p;rw[c] at b;obtain⟨rfl,f⟩:=b;obtain⟨j,_,g,rfl⟩:=Oh d _ _ _ c;rw[List.length_drop] at g;rw[List.drop_drop,List.length_drop] at f;have e:k+j<s.length:=by omega
  refine⟨k+j,om,om,e,?_⟩;simp only[List.drop_drop];rw[drop_cons (jP e)]
theorem map_append {o:Option (List aq×ak)} {a:List aq} {t:aq}:(o.map λp=>(t::p.1,p.2)).map (λp=>(a++p.1,p.2))=o.map λp=>((a++[t])++p.1,p.2):=by cases o<;>simp
def bP (s:ak):Option aq:=
 if 12000<s.length then none else match eZ 60 s with
  |some (t,[])=>some t
  |_=>none
theorem acA {s:ak} {t:aq} {j:Int} (l:s.length<=12000) (a:DG s.length (rT 61<|s.drop 0) t j):decide (j=(s.length:Int))=(bP s).isSome/\∀b,bP s=some b->t=b:=by
 have e:rT 61 (s.drop 0)=eZ 60 s:=rfl;rw[e] at a;unfold DG at a;unfold bP;rw[iN om];cases g:eZ 60 s with
 |none=>rw[g] at a;refine⟨?_,λb h=>by cases h⟩;simp only[Option.isSome_none,decide_eq_false_iff_not];simp only at a;omega
 |some p=>
  obtain⟨b,r⟩:=p;rw[g] at a;obtain⟨rfl,f⟩:=a;obtain⟨k,_,_,i⟩:=KD 60 s _ _ g;cases r with
  |nil=>refine⟨?_,λb h=>by simpa using h⟩;simp at f⊢;exact f
  |cons c _=>refine⟨?_,λb h=>by cases h⟩;have d:=congrArg List.length i;simp only[lC,List.length_drop] at d f;simp only[Option.isSome_none,decide_eq_false_iff_not];omega
mutual
def aq.text:aq->ak
 | .mk a b=>if a=[] then 40::(lZ b++[41]) else a
def lZ:List aq->ak
 |[]=>[]
 |t::ts=>match ts with
  |[]=>t.text
  |_::_=>t.text++32::lZ ts
end
mutual
def aq.enc:aq->List C
 | .mk a b=>[.val<|str a,.sl 2 (da b)]
def da:List aq->List (List C)
 |[]=>[]
 |t::ts=>t.enc::da ts
end
theorem zH:∀a,da a=a.map aq.enc:=by intro x;induction x<;>grind [da]
theorem iu (a:List aq):(da a).length=a.length:=by simp[zH]
theorem pY:∀t:aq,t.enc.length=2
 | .mk _ _=>by simp[aq.enc]
theorem Oi (a:List aq):∀row,row∈da a->row.length=2:=by grind [zH,pY]
theorem Oj (a b:List aq):da (a++b)=da a++da b:=by simp[zH]
theorem KF {a:List aq} {t:aq} (h:a[i]?=some t):(da a)[i]?=some t.enc:=by grind [zH]
theorem DH (a:List aq) (i:Nat):da (a.drop i)=(da a).drop i:=by simp[zH,List.map_drop]
def aV (L:List Nat) (w:World) (v:Value) (t:aq):Prop:=jh L w v t.enc
theorem aV.ext {t:aq} (h:aV L w v t) (k:aj [] w w'):aV L w' v t:=jh.ext h k
def cD (L:List Nat) (w:World) (v:Value) (a:List aq):Prop:=cA L w v (.sl 2<|da a)
theorem cD.ext {t:List aq} (h:cD L w v t) (k:aj [] w w'):cD L w' v t:=cA.ext h k
theorem cW {t:aq} (h:aV L w v t):∃a n c,v= .agg #[str t.au,.slice a n c]/\n=t.ag.length/\cD L w (.slice a n c) t.ag:=by
 obtain⟨vs,rfl,b⟩:=h;cases t with
 |mk at_ f=>
  rw[aq.enc] at b
  match vs,b with
  |[_,_],b=>obtain⟨e,d,_⟩:=b;cases e;obtain⟨a,c,rfl,_⟩:=sX d;exact⟨a,_,c,rfl,iu f,d⟩
  |[],b=>exact b.elim
  |[_],b=>exact b.2.elim
  |_::_::_::_,b=>exact b.2.2.elim
theorem jB {a:ak} {ps:List aq} (h:cD L w v ps):aV L w (.agg #[str a,v]) (.mk a ps):=
 ⟨[str a,v],rfl,by rw[aq.enc];exact⟨.val _,h,trivial⟩⟩
theorem jQ {t:aq} (h:cD L w v t.ag):aV L w (.agg #[str t.au,v]) t:=by cases t;exact jB h
theorem ld:cD L w (.slice none 0 0) []:=by unfold cD;rw[da];exact .nil _ _ _
theorem gB {a:Option Addr} {c:Nat} {g:List aq} {t:aq} (h:cD L w (.slice a n c) g) (o:g[i]?=some t):
  ∃b off e d f,a=some ⟨b,off,none⟩/\fZ w b (off+i*2) [str t.au,.slice e d f]/\d=t.ag.length/\cD L w (.slice e d f) t.ag:=by
 obtain⟨b,off,vs,j,hb,_,_,l,r⟩:=zw h<|KF o;obtain⟨e,d,f,m,p,q⟩:=cW (t:=t) ⟨vs,rfl,r⟩;have s:vs=[str t.au,.slice e d f]:=by have:=congrArg (λv=>match v with|Value.agg x=>x.toList|_=>[]) m;simpa using this
 subst s;exact⟨b,off,e,d,f,j,l,p,q⟩
theorem aK.aB {a:Array Value} {T:TypeId} (h:aK w b a T) (k:aj L w w') (hb:b∉L):aK w' b a T:=h.aG k hb
theorem cA.aB {c:C} (h:cA L w v c) (k:aj L' w w') (a:∀x∈L',x∈L):cA L w' v c:=h.aG<|k.mono a
theorem aV.aB {t:aq} (h:aV L w v t) (k:aj L' w w') (a:∀x∈L',x∈L):aV L w' v t:=jh.aG h<|k.mono a
theorem cD.aB {t:List aq} (h:cD L w v t) (k:aj L' w w') (a:∀x∈L',x∈L):cD L w' v t:=cA.aG h<|k.mono a
theorem iF.aB {T:TypeId} {rows:List (List C)} (h:iF L w T sz v g rows xs) (k:aj L' w w') (a:∀x∈L',x∈L):iF L w' T sz v g rows xs:=h.aG k a
theorem aj.aB (h:aj L w0 w) (k:aj L' w w') (a:∀x∈L',x∈L\/w0.heap.size<=x):aj L w0 w':=h.since k a
theorem ua:∀x∈w.heap.size::L,x∈L\/w.heap.size<=x:=by grind
theorem aK.grow {a:Array Value} {T:TypeId} (h:aK w b a T):aK w b a T:=h
theorem aj.grow (h:aj L w w'):aj L w w':=h
theorem aV.grow {t:aq} (h:aV L w v t):aV (w.heap.size::L) w v t:=jh.fresh h ua
theorem cD.grow {t:List aq} (h:cD L w v t):cD (w.heap.size::L) w v t:=cA.fresh h ua
theorem iF.grow {T:TypeId} {rows:List (List C)} (h:iF L w T sz v g rows xs):iF (w.heap.size::L) w T sz v g rows xs:=h.more ua
theorem iF.alloc {T:TypeId} {rows:List (List C)} (h:iF L w T sz v g rows xs) (k:aj [] w w') (_:w'.heap.size=w.heap.size+1):iF (w.heap.size::L) w' T sz v g rows xs:=h.grow.ext k
theorem aV.jR {x y:Value} {t:aq} (h:aV L w (.agg #[x,y]) t):dy L w [x,y] t.enc:=by
 obtain⟨vs,a,b⟩:=h;have c:vs=[x,y]:=by have:=congrArg (λv=>match v with|Value.agg x=>x.toList|_=>[]) a;simpa using this.symm
 rw[<-c];exact b
theorem Tu {A B:List Nat}:∀x∈A++(b::B),x∈b::(A++B):=by grind
section
variable {P:Program} {n:Nat} {ops:Array Oper} {K:Env->World->Prop} {rest:List Oper} {e:Env} {w w':World}
 {dst:Option Nat} {ty:TypeId} {pos:String} {after:Array Edge} {g:Option (Nat×Bool)} {T:TypeId} {x y:Operand}
theorem acC {a:List Value} {U:TypeId} (l:TI P T 1 bytes z) (d:gate ops e g=true) (i:ev e x= .pointer (some ⟨b,o,none⟩)) (j:ev e y=v) 
  (c:v.oneCell'=true) (hb:aK w b a.toArray U) (f:Nat.blt o a.length=true)
  (k:∀w',aj [b] w w'->aK w' b (a.set o v).toArray U->w'.heap.size=w.heap.size->OW P n ops K rest e w'):OW P n ops K (⟨none,.store T x y,ty,pos,after,g⟩::rest) e w:=by grind [N2,Nat.blt_eq]
theorem ir {U:TypeId} (j:TI P T 1 bytes z) (f:ev e x= .pointer (some ⟨b,o,none⟩)) (i:ev e y=v) (a:v.oneCell'=true) (hb:aK w b vs.toArray U) (d:Nat.blt o vs.length=true) (k:∀w',aj [b] w w'->aK w' b (vs.set o v).toArray U->w'.heap.size=w.heap.size->OW P n ops K rest e w') (c:gate ops e g=true:=by rfl):OW P n ops K (⟨none,.store T x y,ty,pos,after,g⟩::rest) e w:=acC j c f i a hb d k
theorem acD {b:Nat} {a c:List Value} {U:TypeId} (o:TI P T sz bytes z) (i:gate ops e g=true) 
  (l:ev e x= .pointer (some ⟨b,0,none⟩)) (m:ev e y= .agg a.toArray) (j:Nat.beq a.length sz=true) (f:a.all Value.oneCell'=true) (hb:aK w b c.toArray U) (d:Nat.beq c.length sz=true)
  (k:∀w',aj [b] w w'->aK w' b a.toArray U->w'.heap.size=w.heap.size->OW P n ops K rest e w'):OW P n ops K (⟨none,.store T x y,ty,pos,after,g⟩::rest) e w:=by grind [ab9,Nat.eq_of_beq_eq_true,List.all_eq_true]
theorem cF {a:List Value} {U:TypeId} (m:TI P T sz bytes z) (j:ev e x= .pointer (some ⟨b,0,none⟩)) (l:ev e y= .agg vs.toArray) (d:vs.all Value.oneCell'=true) (hb:aK w b a.toArray U) (c:Nat.beq a.length sz=true) (k:∀w',aj [b] w w'->aK w' b vs.toArray U->w'.heap.size=w.heap.size->OW P n ops K rest e w') (f:gate ops e g=true:=by rfl) (i:Nat.beq vs.length sz=true:=by rfl):OW P n ops K (⟨none,.store T x y,ty,pos,after,g⟩::rest) e w:=acD m f j l i d hb c k
theorem acE {vs:List Value} {v:Value} (n:P.underlying T=some (.slice E)) (g:TI P E sz bytes z) (l:z.cells.size=sz) (t:0<sz) (s:sz<=16777216) 
  (q:v.cells=vs.toArray) (j:vs.length=sz):(Instr.buildSlice T 1 #[(0,v)]).run P w= .ok (.slice (some ⟨w.heap.size,0,none⟩) 1 1) (w.alloc<|.cells vs.toArray E):=by
 have m:¬sz=0:=by omega
 have hb:¬(16777216<sz):=by omega
 have f:Instr.fill (λi=>some (i*sz,sz)) ((Array.range<|1*sz).map (z.cells[·%z.cells.size]!)) [(0,v)]=some vs.toArray:=by
  simp only[Instr.fill,Nat.zero_mul,q,Nat.zero_add];rw[iN (by simp[j])]
  congr 1
  have e:∀(b:List Value) (i:Nat) (pre:List Value) (a:Array Value),a.size=pre.length+b.length->a.toList.take i=pre->i=pre.length->
    ((b.zipIdx i).foldl (fun(a:Array Value) (p:Value×Nat)=>a.setIfInBounds (0+p.2) p.1) a)=(pre++b).toArray:=by
   intro b;induction b with
   |nil=>intro i pre a c d o;apply Array.ext';simp only[List.zipIdx_nil,List.foldl_nil,List.append_nil];rw[<-d,List.take_of_length_le (by simp at c⊢;omega)]
   |cons u b r=>intro i pre a c d o;rw[List.zipIdx_cons,List.foldl_cons];simp only[lC] at c;have:=r (i+1) (pre++[u]) (a.setIfInBounds (0+i) u) so (by rw[Nat.zero_add,Array.toList_setIfInBounds,List.take_add_one,List.getElem?_set_self so,List.take_set_of_le<|lR i,d];simp) so;rw[this];simp
  have:=e vs 0 [] ((Array.range<|1*sz).map (z.cells[·%z.cells.size]!)) (by simp[j]) sm rfl;simpa using this
 simp only[Instr.buildSlice,Sem.run_bind,run_underlying n,Result.andThen_ok,g.tX,Nat.one_mul];rw[Nat.one_mul] at f;simp[hb,m,g.N0,f,newRow]
theorem acF {vs:List Value} {v:Value} {q:Operand} (c:P.underlying T=some (.slice E)) (b:TI P E sz bytes z) (f:gate ops e g=true) (d:cK n dst=true) (m:Nat.beq z.cells.size sz=true) (o:Nat.blt 0 sz=true) (a:Nat.ble sz 16777216=true) 
  (j:ev e q=v) (l:v.cells=vs.toArray) (i:Nat.beq vs.length sz=true)
  (k:∀w',aj [] w w'->aK w' w.heap.size vs.toArray E->w'.heap.size=w.heap.size+1->OW P n ops K rest (cj e dst<|.slice (some ⟨w.heap.size,0,none⟩) 1 1) w'):
  OW P n ops K (⟨dst,.buildSlice T 1 #[(0,q)],ty,pos,after,g⟩::rest) e w:=
 fS f d (w':=w.alloc<|.cells vs.toArray E) (by have:=acE (P:=P) (w:=w) (vs:=vs) (v:=v) c b (Nat.eq_of_beq_eq_true m) (by simpa[Nat.blt_eq] using o) (Nat.le_of_ble_eq_true a) l<|Nat.eq_of_beq_eq_true i;simp[execOp,j,this]) (k _ (aj.alloc _ _ _) (aK.alloc _ _ _) sm)
theorem fW {q:Operand} (c:P.underlying T=some (.slice E)) (b:TI P E sz bytes z) (j:ev e q=v) (l:v.cells=vs.toArray) (k:∀w',aj [] w w'->aK w' w.heap.size vs.toArray E->w'.heap.size=w.heap.size+1->OW P n ops K rest (cj e dst<|.slice (some ⟨w.heap.size,0,none⟩) 1 1) w') (f:gate ops e g=true:=by rfl) (d:cK n dst=true:=by rfl) (m:Nat.beq z.cells.size sz=true:=by rfl) (o:Nat.blt 0 sz=true:=by rfl) (a:Nat.ble sz 16777216=true:=by rfl) (i:Nat.beq vs.length sz=true:=by rfl):OW P n ops K (⟨dst,.buildSlice T 1 #[(0,q)],ty,pos,after,g⟩::rest) e w:=acF c b f d m o a j l i k
theorem Tw {L:List Nat} {v:Value} {l:Option Nat} {rows new:List (List C)} {s a:List Value} {b o m c:Nat} (J:P.underlying t=some (.slice E)) (H:TI P E sz bytes z) (O:gate ops e g=true) (N:cK n dst=true) (U:Nat.beq z.cells.size sz=true) 
  (S:ev e x=v) (A:iF L w E sz v l rows s) (T:ev e y= .slice (some ⟨b,o,none⟩) m c) (q:new.length=m) (Z:0<m) (V:∀row∈new,row.length=sz) (M:fZ w b o a) (F:∀u∈a,u.oneCell'=true)
  (R:dy (l.toList++L) w a new.flatten) (I:∀x∈L,x<w.heap.size) (hb:(rows.length+m)*(bytes+1)<=140737488355328)
  (k:∀j d f w',iF L w' E sz (.slice j (rows.length+m) d) f (rows++new) (s++a)->aj l.toList w w'->(f=l\/f=some w.heap.size)->OW P n ops K rest (cj e dst<|.slice j (rows.length+m) d) w'):
  OW P n ops K (⟨dst,.call {callee:=.builtin .append,args:=#[x,y],argTypes:=#[t,t]},ty,pos,after,g⟩::rest) e w:=by
 obtain⟨i,Q,zI,B,D⟩:=H.get;obtain⟨_,f,w',X,r,hk,Y⟩:=iF.app (P:=P) (ty:=ty) J Q zI B D (Nat.eq_of_beq_eq_true U) A b o m c new a q Z V M F R I hb;obtain⟨j,d,p⟩:=r.len;rw[lA,q] at p;subst p;exact fS O N (w':=w') (by simp only[execOp,resolve,invoke,builtin,Sem.run_bind,Sem.run_pure,Result.andThen_ok,List.map_toArray,List.map_cons,List.map_nil,S,T,X])<|k j d f w' r hk Y
end
theorem iF.sep {T:TypeId} {rows:List (List C)} (h:iF L w T sz v g rows xs) (hb:b∈L):b∉g.toList:=by intro a;exact h.out b (by simpa using a) hb
theorem Tx {P:Program} {n:Nat} {j:Array Oper} {K:Env->World->Prop} {rest:List Oper} {e:Env} {w:World} 
  {i:Option Nat} {ty:TypeId} {pos:String} {f:Array Edge} {g:Option (Nat×Bool)} {x y:Operand}
  {L:List Nat} {t E l bytes:Nat} {z:Value} {v:Value} {p:Option Nat} {rows:List (List C)} {row:List C} {A a:List Value} {b o c:Nat} (I:P.underlying t=some (.slice E)) (F:TI P E l bytes z) (N:gate j e g=true) (M:cK n i=true) (S:Nat.beq z.cells.size l=true)
  (Q:ev e x=v) (R:ev e y= .slice (some ⟨b,o,none⟩) 1 c) (B:iF L w E l v p rows A) (T:row.length=l) (J:fZ w b o a) (D:∀u∈a,u.oneCell'=true)
  (O:dy (p.toList++L) w a row) (H:∀x∈L,x<w.heap.size) (hb:(rows.length+1)*(bytes+1)<=140737488355328)
  (k:∀s d q w',iF L w' E l (.slice s (rows.length+1) d) q (rows++[row]) (A++a)->aj p.toList w w'->(q=p\/q=some w.heap.size)->OW P n j K rest (cj e i<|.slice s (rows.length+1) d) w'):
  OW P n j K (⟨i,.call {callee:=.builtin .append,args:=#[x,y],argTypes:=#[t,t]},ty,pos,f,g⟩::rest) e w:=
 Tw (new:=[row]) (m:=1) I F N M S Q B R rfl de (by intro r h;simp at h;rw[h];exact T) J D (by simpa using O) H hb k
theorem dy.H6:∀{vs:List Value} {b:List C},dy L w vs b->(∀c∈b,∀v,c= .val v->v.oneCell'=true)->∀u∈vs,u.oneCell'=true
 |[],[],_,_,u,a=>by simp at a
 |v::vs,c::b,h,hc,u,a=>by
  rcases mC.1 a with rfl|a
  .cases h.1 with
   |val=>exact hc _ sm _ rfl
   |nil=>rfl
   |sl=>rfl
  .exact dy.H6 h.2 (λc e v d=>hc c (by simp[e]) v d) u a
def By (P:Program) (e:Env) (w:World):ResultVar->Value->Prop
 | .tmp t,v=>e t=v
 | .cell t ty,v=>S8 P e t ty v w
def KH (P:Program) (e:Env) (w:World):List ResultVar->List Value->Prop
 |[],[]=>True
 |[r],[v]=>By P e w r v
 |r::rs,v::vs=>By P e w r v/\KH P e w rs vs
 |_,_=>False
def Bz:List Value->Value
 |[v]=>v
 |vs=>.tuple vs.toArray
def KI (b:Array Value):ResultVar->Sem Value
 | .tmp t=>pure<|b.getD t undef
 | .cell a t=>do loadVar t (<-asAddr (b.getD a undef))
theorem H7 (fn:Func) (a:Array Value):results fn a=(do let vs<-fn.results.mapM (KI a);pure (if h:vs.size=1 then vs[0] else .tuple vs)):=rfl
theorem yb {e:Env} {tmps:Array Value} (b:∀t,tmps.getD t undef=e t) {r:ResultVar} (h:By P e w r v):(KI tmps r).run P w= .ok v w:=by
 cases r with
 |tmp t=>simp only[By] at h;simp only[KI,b,h];rfl
 |cell t ty=>obtain⟨a,c,d⟩:=h;simp only[KI,b,c,asAddr,Sem.run_bind,Sem.run_pure,Result.andThen_ok,d]
theorem Tz {fn:Func} {rs:List ResultVar} (d:fn.results=rs.toArray) {tmps:Array Value} {e:Env} (a:∀t,tmps.getD t undef=e t) (h:KH P e w rs vs) (n:rs.length<=4):
  (results fn tmps).run P w= .ok (Bz vs) w:=by
 match rs,vs,h with
 |[],[],_=>simp[H7,d,Bz]
 |[r],[v],h=>have b:=yb (tmps:=tmps) a<|show By P e w r v from h;simp[H7,d,Bz,b]
 |[r,g],[v,i],h=>have b:=yb (tmps:=tmps) a h.1;have c:=yb (tmps:=tmps) a<|show By P e w g i from h.2;simp[H7,d,Bz,b,c]
 |[r,g,j],[v,i,l],h=>have b:=yb (tmps:=tmps) a h.1;have c:=yb (tmps:=tmps) a h.2.1;have f:=yb (tmps:=tmps) a<|show By P e w j l from h.2.2;simp[H7,d,Bz,b,c,f]
 |[r,g,j,o],[v,i,l,p],h=>have b:=yb (tmps:=tmps) a h.1;have c:=yb (tmps:=tmps) a h.2.1;have f:=yb (tmps:=tmps) a h.2.2.1;have m:=yb (tmps:=tmps) a<|show By P e w o p from h.2.2.2;simp[H7,d,Bz,b,c,f,m]
 |_::_::_::_::_::_,_,_=>simp at n
theorem kM {P:Program} {f:FuncId} {fn:Func} {c:Code} {b:List Value} {w:World} {S:Value->World->Prop} (rs:List ResultVar) (n:Nat) 
  (l:P.funcs[f]?=some fn) (hb:fn.body=some c) (q:(fn.name== "runtime.NumGoroutine")=false) (o:fn.results=rs.toArray) (p:b.length+(fn.ntmps-b.length)=n) (m:Nat.ble rs.length 4=true)
  (h:CW P n c (λe w'=>∃vs,KH P e w' rs vs/\S (Bz vs) w') (λe w'=>∃vs,KH P e w' rs vs/\S (Bz vs) w') (λ_ _ _=>False) (start b) w):bD P f b w S:=by
 refine⟨⟨fn,l,by rw[hb];rfl,q⟩,calls_of_wp l hb<|wp_mono (h _ ?_) λx a w' i=>?_⟩
 .rw[<-p];simpa using S7 b (fn.ntmps-b.length)
 .cases x<;>simp only[mc] at i
  .obtain⟨e,d,vs,j,g⟩:=i;exact bodyPost_end (Tz o d.get j<|Nat.le_of_ble_eq_true m) d.defers ⟨_,rfl,g⟩
  .obtain⟨e,d,g⟩:=i;exact g.elim
  .obtain⟨e,d,vs,j,g⟩:=i;exact bodyPost_ret (Tz o d.get j<|Nat.le_of_ble_eq_true m) d.defers ⟨_,rfl,g⟩
section
variable {P:Program} {n:Nat} {ops:Array Oper} {K:Env->World->Prop} {rest:List Oper} {e:Env} {w:World}
 {dst:Option Nat} {ty:TypeId} {pos:String} {after:Array Edge} {g:Option (Nat×Bool)}
theorem acG {at_:Array TypeId} {i j z:Int} (b:gate ops e g=true) (a:cK n dst=true) (c:ev e x= .int k i) (d:ev e y= .int k j) (f:(if j<i then j else i)=z) 
  (l:OW P n ops K rest (cj e dst<|.int k z) w):OW P n ops K (⟨dst,.call {callee:=.builtin .min,args:=#[x,y],argTypes:=at_},ty,pos,after,g⟩::rest) e w:=
 fS b a (by simp[execOp,resolve,invoke,builtin,c,d,Builtin.min_,Builtin.min2,f]) l
theorem acH {at_:Array TypeId} {b:Operand} {i j a z:Int} (d:gate ops e g=true) (c:cK n dst=true) (f:ev e x= .int k i) (l:ev e y= .int k j) (p:ev e b= .int k a) (m:(if a<(if j<i then j else i) then a else(if j<i then j else i))=z) 
  (o:OW P n ops K rest (cj e dst<|.int k z) w):OW P n ops K (⟨dst,.call {callee:=.builtin .min,args:=#[x,y,b],argTypes:=at_},ty,pos,after,g⟩::rest) e w:=
 fS d c (by simp[execOp,resolve,invoke,builtin,f,l,p,Builtin.min_,Builtin.min2,m]) o
theorem TH {at_:Array TypeId} {i j z:Int} (b:gate ops e g=true) (a:cK n dst=true) (c:ev e x= .int k i) (d:ev e y= .int k j) (f:(if i<j then j else i)=z) 
  (l:OW P n ops K rest (cj e dst<|.int k z) w):OW P n ops K (⟨dst,.call {callee:=.builtin .max,args:=#[x,y],argTypes:=at_},ty,pos,after,g⟩::rest) e w:=
 fS b a (by simp[execOp,resolve,invoke,builtin,c,d,Builtin.max_,Builtin.max2,f]) l
theorem TJ {fn:Fn} {a:List Operand} (c:gate ops e g=true) (b:cK n dst=true) (d:a.map (ev e)=vs) 
  (f:OW P n ops K rest (cj e dst<|.func fn #[] vs.toArray) w):OW P n ops K (⟨dst,.makeFunc fn #[] a.toArray,ty,pos,after,g⟩::rest) e w:=
 fS c b (by subst d;simp[execOp,Instr.makeFunc]) f
theorem Ok {c:Operand} {b:List Value} {i:List Operand} {d:Array TypeId} (o:gate ops e g=true) (m:cK n dst=true) (l:ev e c= .func (.func f) #[] b.toArray) (h:bD P f (i.map (ev e)++b) w S) 
  (k:∀v w',S v w'->OW P n ops K rest (cj e dst v) w'):OW P n ops K (⟨dst,.call {callee:=.value c,args:=i.toArray,argTypes:=d},ty,pos,after,g⟩::rest) e w:=λa j Q=>by
 unfold wpList;rw[iP (by rw[FI j];exact o)];refine .inl ?_;unfold Oper.wp;have r:(execOp (ev e) ⟨dst,.call {callee:=.value c,args:=i.toArray,argTypes:=d},ty,pos,after,g⟩).run P w= .ok (.enter f (i.map (ev e)++b).toArray) w:=by simp only[execOp,resolve,l,Deferred.ofValue,Sem.run_bind,Sem.run_pure,Result.andThen_ok,invoke];simp[NZ h.1]
 rw[j.eval,r,Oper.upon_enter];exact Calls.mono h.2 λx w' ⟨v,q,p⟩=>by subst q;exact k v w' p _ (j.cj m v) Q
end
def iG (a:List ak):List (List C):=a.map λx=>[.val (str x)]
theorem rB (a:List ak):(iG a).length=a.length:=by simp[iG]
theorem TK {a:List ak} {x:ak} (h:a[i]?=some x):(iG a)[i]?=some [.val (str x)]:=by simp[iG,h]
def bo (L:List Nat) (w:World) (v:Value) (a:List ak):Prop:=cA L w v (.sl 1<|iG a)
theorem bo.ext {a:List ak} (h:bo L w v a) (k:aj [] w w'):bo L w' v a:=cA.ext h k
theorem bo.aB {a:List ak} (h:bo L w v a) (k:aj L' w w') (b:∀x∈L',x∈L):bo L w' v a:=cA.aG h<|k.mono b
theorem eD {b:List ak} (h:bo L w v b):∃a n c,v= .slice a n c/\n=b.length:=by grind [bo,sX,rB]
theorem TL {x:ak} (h:dy L w vs [.val (str x)]):vs=[str x]:=by
 match vs,h with
 |[v],h=>obtain⟨a,_⟩:=h;cases a;rfl
 |[],h=>exact h.elim
 |_::_::_,h=>exact h.2.elim
theorem qJ {a:Option Addr} {c:Nat} {e:List ak} {x:ak} (h:bo L w (.slice a n c) e) (g:e[i]?=some x):
  ∃b off,a=some ⟨b,off,none⟩/\fZ w b (off+i*1) [str x]:=by
 obtain⟨b,off,vs,f,hb,_,_,d,j⟩:=zw h<|TK g;rw[TL j] at d;exact⟨b,off,f,d⟩
abbrev cO (a:List ak) (i:Nat):ak:=a.getD i []
theorem lP {xs:List ak} (h:i<xs.length):xs[i]?=some (cO xs i):=by grind
structure Bk where
 aL:ak
 ck:List ak
 code:List ak
def Bk.enc (b:Bk):List C:=[.val<|str b.aL,.sl 1<|iG b.ck,.sl 1 (iG b.code)]
def pq (L:List Nat) (w:World) (v:Value) (b:Bk):Prop:=jh L w v b.enc
theorem pq.ext {b:Bk} (h:pq L w v b) (k:aj [] w w'):pq L w' v b:=jh.ext h k
theorem TO {b:Bk} (h:dy L w vs b.enc):∃a c,vs=[str b.aL,a,c]/\bo L w a b.ck/\bo L w c b.code:=by
 rw[Bk.enc] at h
 match vs,h with
 |[_,a,c],h=>obtain⟨d,e,f,_⟩:=h;cases d;exact⟨a,c,rfl,e,f⟩
 |[],h=>exact h.elim
 |[_],h=>exact h.2.elim
 |[_,_],h=>exact h.2.2.elim
 |_::_::_::_::_,h=>exact h.2.2.2.elim
theorem BA {b:Bk} (h:pq L w v b):∃d a c1 e c c2,v= .agg #[str b.aL,.slice d a c1,.slice e c c2]/\
  a=b.ck.length/\c=b.code.length/\bo L w (.slice d a c1) b.ck/\bo L w (.slice e c c2) b.code:=by
 obtain⟨vs,rfl,l⟩:=h;obtain⟨_,_,rfl,f,g⟩:=TO l;obtain⟨d,a,c1,rfl,i⟩:=eD f;obtain⟨e,c,c2,rfl,j⟩:=eD g;exact⟨d,a,c1,e,c,c2,rfl,i,j,f,g⟩
theorem BB {b:Bk} {a c:Value} (d:bo L w a b.ck) (e:bo L w c b.code):pq L w (.agg #[str b.aL,a,c]) b:=
 ⟨[str b.aL,a,c],rfl,.val _,d,e,trivial⟩
def l0 (L:List Nat) (w:World) (v:Value) (bs:List Bk):Prop:=cA L w v (.sl 3<|bs.map Bk.enc)
theorem l0.ext {bs:List Bk} (h:l0 L w v bs) (k:aj [] w w'):l0 L w' v bs:=cA.ext h k
theorem BC {bs:List Bk} (h:l0 L w v bs):∃a n c,v= .slice a n c/\n=bs.length:=by grind [l0,sX]
theorem zJ {a:Option Addr} {c:Nat} {bs:List Bk} {k:Bk} (h:l0 L w (.slice a n c) bs) (r:bs[i]?=some k):
  ∃b off f d c1 g e c2,a=some ⟨b,off,none⟩/\fZ w b (off+i*3) [str k.aL,.slice f d c1,.slice g e c2]/\
   d=k.ck.length/\e=k.code.length/\bo L w (.slice f d c1) k.ck/\bo L w (.slice g e c2) k.code:=by
 obtain⟨b,off,vs,p,hb,_,_,q,s⟩:=zw h (show(bs.map Bk.enc)[i]?=some k.enc by simp[r]);obtain⟨_,_,rfl,j,l⟩:=TO s;obtain⟨f,d,c1,rfl,m⟩:=eD j;obtain⟨g,e,c2,rfl,o⟩:=eD l;exact⟨b,off,f,d,c1,g,e,c2,p,q,m,o,j,l⟩
def KJ (p:Prop) (w:World) (b a:Nat) (c:List Value):Prop:=p->fZ w b a c
theorem KJ.ext (h:KJ p w b off vs) (k:aj [] w w'):KJ p w' b off vs:=λa=>(h a).ext k
def KL (p:Prop) (L:List Nat) (w:World) (v:Value) (a:List aq):Prop:=p->cD L w v a
theorem KL.ext {a:List aq} (h:KL p L w v a) (k:aj [] w w'):KL p L w' v a:=λb=>(h b).ext k
end Go.Proofs.YtcildnfcpkpomaaGreatDoor
