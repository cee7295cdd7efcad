/- Lemmas for the law FnFrom, no statement of their own: no conditions. -/
import Derived.Below
import Derived.Calls
import Derived.IntWalk
import Derived.Laws.AppendOwn
import Derived.Laws.Slices
import Derived.Laws.Small
import Derived.Laws.Strings
import Derived.Laws.Strings2
import Derived.Orders
import Derived.Tactics
set_option maxHeartbeats 4000000
set_option linter.unusedVariables false
set_option linter.unusedSimpArgs false
namespace Go.Proofs.YthbhobaiopccaaaGreatDoor
open Go
variable {p:Prop} {a:Int} {E b bytes d i j m n o off sz t:Nat} {l:List Oper} {k k':IntKind} {c:Code} {P:Program} {f:FuncId} {v z:Value} {w w' w0:World} {S:Value->World->Prop} {D L L':List Nat} {vs xs:List Value} {g:Option Nat} {ops:Array Oper} {x y:Operand} {Q:Exit->Act->World->Prop} {F r:List (Value->World->Prop)}
abbrev pt (b:Nat):Value:=.pointer (some ⟨b,0,none⟩)
abbrev sc (b n c:Nat):Value:=.slice (some ⟨b,0,none⟩) n c
theorem om (h:p:=by omega):p:=h
theorem so (h:p:=by simp;omega):p:=h
theorem sm (h:p:=by simp):p:=h
theorem sx (h:p:=by simp<;>omega):p:=h
theorem de (h:p:=by decide):p:=h
abbrev rA:=List.range'
abbrev NG (f:Func):Prop:=(f.name== "runtime.NumGoroutine")=false
theorem ng {f:Func} (h:(f.name== "runtime.NumGoroutine")=false:=by kernel_rfl):NG f:=h
theorem mA {α:Type} {a:α} {s t:List α}:a∈s++t↔a∈s∨a∈t:=List.mem_append
theorem mC {α:Type} {a b:α} {l:List α}:a∈b::l↔a=b∨a∈l:=List.mem_cons
theorem gE {α:Type} {l:List α} (h:i<l.length):l[i]?=some l[i]:=List.getElem?_eq_getElem h
theorem lL {k:Nat} (h:n<m) (g:m<=k):n<k:=Nat.lt_of_lt_of_le h g
theorem lR (n:Nat):n<=n:=Nat.le_refl n
theorem bE (b:Bool):b=true∨b=false:=Bool.eq_false_or_eq_true b
theorem gG {α:Type} {l:List α} {a:α}:l.getD i a=l[i]?.getD a:=List.getD_eq_getElem?_getD
theorem lA {α:Type} {s t:List α}:(s++t).length=s.length+t.length:=List.length_append
theorem lC {α:Type} {a:α} {s:List α}:(a::s).length=s.length+1:=List.length_cons
theorem mR {α:Type} {a:α} (s:List α) {t:List α} (h:a∈t):a∈s++t:=List.mem_append_right s h
theorem mK {α:Type} (y:α) {a:α} {l:List α} (h:a∈l):a∈y::l:=List.mem_cons_of_mem y h
theorem iN {c:Prop} {h:Decidable c} (k:¬c) {α:Type} {t e:α}:(ite c t e)=e:=if_neg k
theorem iP {c:Prop} {h:Decidable c} (k:c) {α:Type} {t e:α}:(ite c t e)=t:=if_pos k
theorem dT [i:Decidable p] (h:p):decide p=true:=decide_eq_true h
theorem dF [i:Decidable p] (h:¬p):decide p=false:=decide_eq_false h
theorem aE (a b:Bool):((a&&b)=true)=(a=true∧b=true):=Bool.and_eq_true a b
theorem oE (a b:Bool):((a||b)=true)=(a=true∨b=true):=Bool.or_eq_true a b
theorem dE [i:Decidable p]:(decide p=true)=p:=decide_eq_true_eq

abbrev Env:=Nat->Value
def iv (e:Env) (d:Nat) (v:Value):Env:=λt=>bif Nat.beq t d then v else e t
theorem nL (e:Env) (d:Nat) (v:Value):iv e d v d=v:=by simp[iv,Nat.beq_refl]
theorem IQ (e:Env) (v:Value) (h:t≠d):iv e d v t=e t:=by grind [iv,Nat.beq,Nat.eq_of_beq_eq_true]
structure Fits (n:Nat) (e:Env) (a:Act):Prop where
 defers:a.defers=[]
 size:a.tmps.size=n
 get:∀t,a.tmps.getD t undef=e t
def ev (e:Env):Operand->Value
 | .tmp t=>e t
 | .const v=>v
 | .global g=>.pointer (some ⟨g,0,none⟩)
 | .func f=>.func (.func f) #[] #[]
theorem Fits.eval {e:Env} {a:Act} (h:Fits n e a):a.eval=ev e:=by
 funext x
 cases x<;>simp[Act.eval,ev]
 rw[<-h.get,Array.getD_eq_getD_getElem?]
theorem Y7 (xs:Array Value) (d t:Nat) (v u:Value) (hd:d<xs.size):(xs.setIfInBounds d v).getD t u=if t=d then v else xs.getD t u:=by
 simp only[Array.getD_eq_getD_getElem?,Array.getElem?_setIfInBounds]
 by_cases h:t=d
 ·subst h;simp[hd]
 ·have:¬d=t:=λe=>h e.symm
  simp[h,this]
theorem Fits.put {e:Env} {a:Act} (h:Fits n e a) (hd:Nat.blt d n=true) (v:Value):Fits n (iv e d v) (a.put (some d) v):=by
 have Y8:d<n:=by simpa[Nat.blt_eq] using hd
 refine⟨h.defers,by simp[Act.put,h.size],λt=>?_⟩
 simp only[Act.put]
 rw[Y7 _ _ _ _ _ (by rw[h.size];exact Y8),h.get]
 by_cases ht:t=d
 ·subst ht;simp[nL]
 ·rw[IQ _ _ ht,iN ht]
@[reducible] def bY (e:Env):Option Nat->Value->Env
 |some d,v=>iv e d v
 |none,_=>e
def cC (n:Nat):Option Nat->Bool
 |some d=>Nat.blt d n
 |none=>true
theorem Fits.bY {e:Env} {a:Act} (h:Fits n e a) {d:Option Nat} (hd:cC n d=true) (v:Value):Fits n (bY e d v) (a.put d v):=by
 cases d with
 |none=>exact h
 |some d=>exact h.put hd v
def pL (n:Nat) (K:Env->World->Prop) (Q:Exit->Act->World->Prop):Exit->Act->World->Prop
 | .normal,a,w=>∃e,Fits n e a∧K e w
 |x,a,w=>Q x a w
def OW (P:Program) (n:Nat) (ops:Array Oper) (K:Env->World->Prop) (l:List Oper) (e:Env) (w:World):Prop:=
 ∀a,Fits n e a->∀Q,wpList P ops (pL n K Q) l a w
def lu (n:Nat) (N R:Env->World->Prop) (X:Nat->Env->World->Prop):Exit->Act->World->Prop
 | .normal,a,w=>∃e,Fits n e a∧N e w
 | .ret,a,w=>∃e,Fits n e a∧R e w
 | .exit i,a,w=>∃e,Fits n e a∧X i e w
 |_,_,_=>False
def CW (P:Program) (n:Nat) (c:Code) (N R:Env->World->Prop) (X:Nat->Env->World->Prop) (e:Env) (w:World):Prop:=
 ∀a,Fits n e a->c.wp P (lu n N R X) a w
section
variable {P:Program} {n:Nat} {N R:Env->World->Prop} {X:Nat->Env->World->Prop} {e:Env} {w:World}
theorem CW.mono {N' R':Env->World->Prop} {X':Nat->Env->World->Prop} (h:CW P n c N R X e w) 
  (hN:∀e w,N e w->N' e w) (hR:∀e w,R e w->R' e w) (hX:∀i e w,X i e w->X' i e w):CW P n c N' R' X' e w:=λa ha=>
 wp_mono (h a ha) λx a w hq=>by
  cases x<;>simp only[lu] at hq⊢
  ·obtain⟨e,hf,hk⟩:=hq;exact⟨e,hf,hN _ _ hk⟩
  ·obtain⟨e,hf,hk⟩:=hq;exact⟨e,hf,hX _ _ _ hk⟩
  ·obtain⟨e,hf,hk⟩:=hq;exact⟨e,hf,hR _ _ hk⟩
theorem jV {x y:Code} (h:CW P n x (λe w=>CW P n y N R X e w) R X e w):CW P n (x.seq y) N R X e w:=λa ha=>
 wp_seq (wp_mono (h a ha) λex a w hq=>by
  cases ex<;>simp only[lu] at hq<;>simp only[Exit.then]<;>first|exact hq|skip
  obtain⟨e,hf,hk⟩:=hq
  exact hk a hf)
theorem gX (h:N e w):CW P n .skip N R X e w:=λ_ ha=>wp_skip ⟨e,ha,h⟩
theorem kj (h:R e w):CW P n .ret N R X e w:=λ_ ha=>wp_ret ⟨e,ha,h⟩
theorem zX (h:X i e w):CW P n (.exit i) N R X e w:=λ_ ha=>wp_exit ⟨e,ha,h⟩
theorem tI (h:CW P n c N R (λj e w=>bif Nat.beq j i then N e w else X j e w) e w):CW P n (.block i c) N R X e w:=λa ha=>
 wp_block (wp_mono (h a ha) λex a w hq=>by
  cases ex<;>simp only[lu] at hq<;>simp only[Exit.inBlock]<;>first|exact hq|skip
  rename_i j
  obtain⟨e,hf,hk⟩:=hq
  by_cases hj:j=i
  ·subst hj
   simp only[if_true,lu]
   rw[Nat.beq_refl] at hk
   exact⟨e,hf,hk⟩
  ·have hb:Nat.beq j i=false:=by
    cases hx:Nat.beq j i with
    |true=>exact absurd (Nat.eq_of_beq_eq_true hx) hj
    |false=>rfl
   rw[hb] at hk
   simp only[hj,if_false,lu]
   exact⟨e,hf,hk⟩)
theorem zY {A B:Prop} (h:Nat.beq j i=true) (k:A):(bif Nat.beq j i then A else B):=by rw[h];exact k
theorem D5 {A B:Prop} (h:Nat.beq j i=false) (k:B):(bif Nat.beq j i then A else B):=by rw[h];exact k
theorem Y9 {c:Operand} {x y:Code} {t:Bool} (hc:ev e c= .bool t) (hx:t=true->CW P n x N R X e w) (hy:t=false->CW P n y N R X e w):
  CW P n (.cond c x y) N R X e w:=λa ha=>
 wp_cond_split (t:=t) (by rw[ha.eval];exact hc) (λh=>hx h a ha) (λh=>hy h a ha)
theorem lv {id:Nat} (h:OW P n l.toArray N l e w):CW P n (.region id l.toArray false) N R X e w:=λa ha=>
 wp_mono (wp_region_lit (h a ha (λ_ _ _=>False))) λex a w hq=>by
  cases ex<;>simp only[pL] at hq<;>simp only[lu]<;>exact hq
def Holds:List (Nat×Value)->Env->Prop
 |[],_=>True
 |[p],e=>e p.1=p.2
 |p::r,e=>e p.1=p.2∧Holds r e
def aS (e:Env):List (Nat×Value)->Env
 |[]=>e
 |p::r=>iv (aS e r) p.1 p.2
theorem Za {p:Nat×Value} {r:List (Nat×Value)} (h:Holds (p::r) e):e p.1=p.2∧Holds r e:=by grind [Holds]
theorem IS:∀{l:List (Nat×Value)},Holds l e->aS e l=e
 |[],_=>rfl
 |p::r,h=>by
  obtain⟨h1,h2⟩:=Za h
  simp only[aS,IS h2]
  funext t
  by_cases ht:t=p.1
  ·subst ht;rw[nL,h1]
  ·rw[IQ _ _ ht]
theorem eO {c:Code} {G:Type} (L:G->List (Nat×Value)) (I:G->World->Prop) (μ:G->Nat) (g0:G) (h0:Holds (L g0) e) (hI:I g0 w) 
  (round:∀g w e0,I g w->CW P n c (λe' w'=>∃g',Holds (L g') e'∧I g' w'∧μ g'<μ g) R X (aS e0 (L g)) w):
  CW P n (.loop c) N R X e w:=by
 intro a ha b k cs
 have key:∀m (g:G) (e:Env) (a:Act) (w:World),μ g=m->Fits n e a->Holds (L g) e->I g w->
   ∃x a' w',lu n N R X x a' w'∧Arrives P (lone (b.at a (.code c:: .inLoop c::k)) cs w) b k cs x a' w':=by
  intro m
  induction m using Nat.strongRecOn with
  |_ m ih=>
   intro g e a w hm hf hh hi
   have hr:=round g w e hi
   rw[IS hh] at hr
   obtain⟨x,a₁,w₁,hq,FT⟩:=hr a hf b (.inLoop c::k) cs
   cases x with
   |normal=>
    obtain⟨e₁,hf₁,g',Zb,Zc,et⟩:=hq
    obtain⟨x₂,a₂,w₂,hq₂,harr₂⟩:=ih (μ g') (hm▸et) g' e₁ a₁ w₁ rfl hf₁ Zb Zc
    exact⟨x₂,a₂,w₂,hq₂,.of_steps (Steps.trans FT (.one step_inLoop)) harr₂⟩
   |exit id=>exact⟨_,a₁,w₁,by simpa only[lu] using hq,.pass (x:=.inLoop c) rfl (λ_ _=>.inl sm) FT⟩
   |goto l=>simp[lu] at hq
   |ret=>exact⟨_,a₁,w₁,by simpa only[lu] using hq,.pass (x:=.inLoop c) rfl (λ_ _=>.inl sm) FT⟩
   |panic ch=>simp[lu] at hq
   |outgrown=>simp[lu] at hq
 obtain⟨x,a',w',hq,FT⟩:=key _ g0 e a w rfl ha h0 hI
 exact⟨x,a',w',hq,.of_steps (.one step_loop) FT⟩
theorem iS {c:Code} {G:Type} (L:G->List (Nat×Value)) (I:G->World->Prop) 
  (h:CW P n c (λe' w'=>∃g,Holds (L g) e'∧I g w') R X e w) (k:∀g w' e0,I g w'->N (aS e0 (L g)) w'):CW P n c N R X e w:=
 h.mono (λe' w' ⟨g,hh,hi⟩=>by have:=k g w' e' hi;rwa [IS hh] at this) (λ_ _ h=>h) (λ_ _ _ h=>h)
end
/-! ### A function -/
def rf (P:Program) (f:FuncId):Prop:=∃fn,P.funcs[f]?=some fn∧fn.body.isNone=false∧(fn.name== "runtime.NumGoroutine")=false
theorem rf.mk' {fn:Func} (h:P.funcs[f]?=some fn) (hb:fn.body.isNone=false) (hn:(fn.name== "runtime.NumGoroutine")=false):rf P f:=⟨fn,h,hb,hn⟩
def bC (P:Program) (f:FuncId) (args:List Value) (w:World) (S:Value->World->Prop):Prop:=
 rf P f∧Calls P f args.toArray w λe w'=>∃v,e= .returned v∧S v w'
def B9 (e:Env):List ResultVar->Option Value
 |[.tmp t]=>some (e t)
 |[.tmp t,.tmp u]=>some (.tuple #[e t,e u])
 |[.tmp t,.tmp u,.tmp x]=>some (.tuple #[e t,e u,e x])
 |[]=>some (.tuple #[])
 |_=>none
theorem QU {fn:Func} {rs:List ResultVar} (hr:fn.results=rs.toArray) {tmps:Array Value} {e:Env} (hg:∀t,tmps.getD t undef=e t) (h:B9 e rs=some v) (P:Program) (w:World):
  (results fn tmps).run P w= .ok v w:=by
 match rs,h with
 |[.tmp t],h=>simp only[B9,Option.some.injEq] at h;subst h;rw[<-hg];exact results_tmp hr _ _ _
 |[.tmp t,.tmp u],h=>simp only[B9,Option.some.injEq] at h;subst h;rw[<-hg,<-hg];exact results_tmp2 hr _ _ _
 |[.tmp t,.tmp u,.tmp x],h=>
  simp only[B9,Option.some.injEq] at h;subst h;rw[<-hg,<-hg,<-hg]
  simp[results,hr]
 |[],h=>simp only[B9,Option.some.injEq] at h;subst h;exact results_none hr _ _ _
def start (args:List Value):Env:=λt=>args.getD t undef
theorem QV (args:List Value) (m:Nat):Fits (args.length+m) (start args) {tmps:=args.toArray++Array.replicate m undef,defers:=[]}:=by
 refine⟨rfl,sm,λt=>?_⟩
 simp only[start,Array.getD_eq_getD_getElem?,gG,Array.getElem?_append,List.size_toArray,List.getElem?_toArray]
 by_cases h:t<args.length
 ·rw[iP h]
 ·rw[iN h,List.getElem?_eq_none om]
  by_cases h2:t-args.length<m<;>simp[h2]
theorem cj {P:Program} {f:FuncId} {fn:Func} {c:Code} {args:List Value} {w:World} {S:Value->World->Prop} (rs:List ResultVar) (n:Nat) 
  (hf:P.funcs[f]?=some fn) (hb:fn.body=some c) (hn:(fn.name== "runtime.NumGoroutine")=false) (hr:fn.results=rs.toArray) (fU:args.length+(fn.ntmps-args.length)=n)
  (h:CW P n c (λe w'=>∃v,B9 e rs=some v∧S v w') (λe w'=>∃v,B9 e rs=some v∧S v w') (λ_ _ _=>False) (start args) w):bC P f args w S:=by
 refine⟨⟨fn,hf,by rw[hb];rfl,hn⟩,calls_of_wp hf hb (wp_mono (h _ ?_) λx a w' hq=>?_)⟩
 ·rw[<-fU];simpa using QV args (fn.ntmps-args.length)
 ·cases x<;>simp only[lu] at hq
  ·obtain⟨e,lx,v,hv,hs⟩:=hq
   exact bodyPost_end (QU hr lx.get hv P w') lx.defers ⟨v,rfl,hs⟩
  ·obtain⟨e,lx,hs⟩:=hq;exact hs.elim
  ·obtain⟨e,lx,v,hv,hs⟩:=hq
   exact bodyPost_ret (QU hr lx.get hv P w') lx.defers ⟨v,rfl,hs⟩
def QW (P:Program) (e:Env) (t ty:Nat) (v:Value) (w:World):Prop:=∃a,e t= .pointer (some a)∧(loadVar ty a).run P w= .ok v w
structure ak (L:List Nat) (w w':World):Prop where
 os:w'.os=w.os
 tape:w'.tape=w.tape
 output:w'.output=w.output
 size:w.heap.size<=w'.heap.size
 block:∀k,k<w.heap.size->k∉L->w'.heap[k]?=w.heap[k]?
theorem ak.refl (L:List Nat) (w:World):ak L w w:=⟨rfl,rfl,rfl,lR _,λ_ _ _=>rfl⟩
theorem ak.trans {a b c:World} (h:ak L a b) (k:ak L b c):ak L a c:=
 ⟨k.os.trans h.os,k.tape.trans h.tape,k.output.trans h.output,Nat.le_trans h.size k.size,λi hi hl=>(k.block i (lL hi h.size) hl).trans (h.block i hi hl)⟩
theorem ak.mono {a b:World} (h:ak L a b) (hL:∀x,x∈L->x∈L'):ak L' a b:=
 ⟨h.os,h.tape,h.output,h.size,λk hk hl=>h.block k hk (λhx=>hl (hL k hx))⟩
theorem ak.any {a b:World} (h:ak [] a b):ak L a b:=h.mono sm
theorem ak.drew (L:List Nat) (w:World):ak L w {w with drawn:=w.drawn+1}:=⟨rfl,rfl,rfl,lR _,λ_ _ _=>rfl⟩
theorem ak.alloc (L:List Nat) (w:World) (o:Obj):ak L w (w.alloc o):=⟨rfl,rfl,rfl,sm,λk hk _=>heap_alloc_old w o k hk⟩
theorem ak.below {a b:World} (h:ak L a b) {B:Nat} (hB:B<=a.heap.size) (hL:∀x,x∈L->B<=x):Go.RowKit.Below B a b:=
 ⟨h.os,h.tape,h.output,h.size,λk hk=>h.block k om (λhx=>by have:=hL k hx;omega)⟩
theorem ak.since {a b c:World} (h:ak L a b) (k:ak L' b c) (hL:∀x,x∈L'->x∈L∨a.heap.size<=x):ak L a c:=
 ⟨k.os.trans h.os,k.tape.trans h.tape,k.output.trans h.output,Nat.le_trans h.size k.size,λi hi hl=>
  (k.block i (lL hi h.size) (λhx=>by rcases hL i hx with h1|h1;exact hl h1;omega)).trans (h.block i hi hl)⟩
def aL (w:World) (b:Nat) (cs:Array Value) (T:TypeId):Prop:=w.heap[b]?=some (.cells cs T (0,0))
theorem aL.aG {cs:Array Value} {T:TypeId} (h:aL w b cs T) (k:ak L w w') (hb:b∉L):aL w' b cs T:=
 (k.block b (Array.getElem?_eq_some_iff.1 h).1 hb).trans h
theorem aL.lt {cs:Array Value} {T:TypeId} (h:aL w b cs T):b<w.heap.size:=(Array.getElem?_eq_some_iff.1 h).1
theorem aL.cell {cs:Array Value} {T:TypeId} (h:aL w b cs T) (i:Nat):w.cell? ⟨b,i,none⟩=cs[i]?:=cell_of_row w b i cs T (0,0) h
theorem aL.frozen {cs:Array Value} {T:TypeId} (h:aL w b cs T) (i:Nat):w.frozen? ⟨b,i,none⟩=false:=by
 simp only[World.frozen?];rw[show w.heap[b]?=_ from h];simp
theorem aL.alloc (w:World) (cs:Array Value) (T:TypeId):aL (w.alloc (.cells cs T)) w.heap.size cs T:=heap_alloc_new w _
theorem aL.set {cs:Array Value} {T:TypeId} (h:aL w b cs T) (i:Nat) (v:Value):aL (w.setCell ⟨b,i,none⟩ v) b (cs.setIfInBounds i v) T:=by
 unfold aL at*
 simp only[World.setCell,Array.getElem?_modify,if_true,h]
 simp
theorem ak.setCell (w:World) (b i:Nat) (v:Value):ak [b] w (w.setCell ⟨b,i,none⟩ v):=
 ⟨rfl,rfl,rfl,by simp[World.setCell],λk _ hl=>Go.RowKit.Below.heap_setCell w _ v k (by simpa using hl)⟩
inductive C where
 |val (v:Value)
 |sl (size:Nat) (rows:List (List C))
inductive ck (L:List Nat) (w:World):Value->C->Prop
 |val (v:Value):ck L w v (.val v)
 |nil (a:Option Addr) (cap size:Nat):ck L w (.slice a 0 cap) (.sl size [])
 |sl (b off len cap size:Nat) (rows:List (List C)) (f:Nat->Nat->Value) (hl:rows.length=len) (hc:len<=cap) (hb:b<w.heap.size) (hL:b∉L)
   (hs:∀row,row∈rows->row.length=size)
   (kz:∀i j,i<len->j<size->w.cell? ⟨b,off+i*size+j,none⟩=some (f i j))
   (iJ:∀i j row c,rows[i]?=some row->row[j]?=some c->ck L w (f i j) c):ck L w (.slice (some ⟨b,off,none⟩) len cap) (.sl size rows)
theorem ck.aG {c:C} (h:ck L w v c) (k:ak L w w'):ck L w' v c:=by
 induction h with
 |val v=>exact .val v
 |nil a c s=>exact .nil a c s
 |sl b off len cap size rows f hl hc hb hL hs kz _ ih=>
  exact .sl b off len cap size rows f hl hc (lL hb k.size) hL hs
   (λi j hi hj=>(World.cell?_of_block (k.block b hb hL)).trans (kz i j hi hj)) ih
theorem ck.fresh {c:C} (h:ck L w v c) (hL:∀x,x∈L'->x∈L∨w.heap.size<=x):ck L' w v c:=by
 induction h with
 |val v=>exact .val v
 |nil a c s=>exact .nil a c s
 |sl b off len cap size rows f hl hc hb gC hs kz _ ih=>
  exact .sl b off len cap size rows f hl hc hb (λhx=>by rcases hL b hx with h1|h1;exact gC h1;omega) hs kz ih
theorem ck.weaken {c:C} (h:ck L w v c) (hL:∀x,x∈L'->x∈L):ck L' w v c:=h.fresh λx hx=>.inl (hL x hx)
theorem ck.none {c:C} (h:ck L w v c):ck [] w v c:=h.weaken sm
def dd (L:List Nat) (w:World):List Value->List C->Prop
 |[],[]=>True
 |v::vs,c::cs=>ck L w v c∧dd L w vs cs
 |_,_=>False
theorem dd.length:∀{vs:List Value} {cs:List C},dd L w vs cs->vs.length=cs.length
 |[],[],_=>rfl
 |_::_,_::_,h=>by simp[dd.length h.2]
theorem dd.get:∀{vs:List Value} {cs:List C},dd L w vs cs->∀{j:Nat} {v:Value} {c:C},vs[j]?=some v->cs[j]?=some c->ck L w v c
 |_::_,_::_,h,0,_,_,hv,hc=>by simp at hv hc;subst hv;subst hc;exact h.1
 |_::_,_::_,h,j+1,_,_,hv,hc=>dd.get h.2 (j:=j) (by simpa using hv) (by simpa using hc)
theorem dd.of:∀{vs:List Value} {cs:List C},vs.length=cs.length->(∀(j:Nat) (v:Value) (c:C),vs[j]?=some v->cs[j]?=some c->ck L w v c)->dd L w vs cs
 |[],[],_,_=>trivial
 |v::vs,c::cs,hl,h=>⟨h 0 v c rfl rfl,dd.of (by simpa using hl) λj v' c' hv hc=>h (j+1) v' c' (by simpa using hv) (by simpa using hc)⟩
theorem dd.aG {cs:List C} (h:dd L w vs cs) (k:ak L w w'):dd L w' vs cs:=dd.of h.length λ_ _ _ hv hc=>(h.get hv hc).aG k
theorem dd.fresh {cs:List C} (h:dd L w vs cs) (hL:∀x,x∈L'->x∈L∨w.heap.size<=x):dd L' w vs cs:=dd.of h.length λ_ _ _ hv hc=>(h.get hv hc).fresh hL
theorem dd.append:∀{vs:List Value} {cs:List C} {vs':List Value} {cs':List C},dd L w vs cs->dd L w vs' cs'->dd L w (vs++vs') (cs++cs')
 |[],[],_,_,_,h'=>h'
 |_::_,_::_,_,_,h,h'=>⟨h.1,dd.append h.2 h'⟩
def jW (L:List Nat) (w:World) (v:Value) (cs:List C):Prop:=∃vs:List Value,v= .agg vs.toArray∧dd L w vs cs
theorem jW.aG {cs:List C} (h:jW L w v cs) (k:ak L w w'):jW L w' v cs:=
 let⟨vs,e,h⟩:=h;⟨vs,e,h.aG k⟩
theorem jW.fresh {cs:List C} (h:jW L w v cs) (hL:∀x,x∈L'->x∈L∨w.heap.size<=x):jW L' w v cs:=
 let⟨vs,e,h⟩:=h;⟨vs,e,h.fresh hL⟩
def gJ (w:World) (b off:Nat) (vs:List Value):Prop:=∀(j:Nat) (v:Value),vs[j]?=some v->w.cell? ⟨b,off+j,none⟩=some v
theorem rS {size:Nat} {rows:List (List C)} (h:ck L w v (.sl size rows)):∃a cap,v= .slice a rows.length cap∧rows.length<=cap:=by
 cases h with
 |nil a c s=>exact⟨a,c,rfl,Nat.zero_le _⟩
 |sl b off len cap size rows f hl hc=>exact⟨_,cap,by rw[hl],om⟩
theorem z8 {a:Option Addr} {len cap size:Nat} {rows:List (List C)} (h:ck L w (.slice a len cap) (.sl size rows)) {row:List C} (hi:rows[i]?=some row):
  ∃b off vs,a=some ⟨b,off,none⟩∧b<w.heap.size∧b∉L∧vs.length=size∧gJ w b (off+i*size) vs∧dd L w vs row:=by
 cases h with
 |nil=>simp at hi
 |sl b off len cap size rows f hl hc hb hL hs kz iJ=>
  have mG:i<rows.length:=(List.getElem?_eq_some_iff.1 hi).1
  have gR:row.length=size:=hs row (List.mem_of_getElem? hi)
  refine⟨b,off,(List.range size).map (f i),rfl,hb,hL,sm,λj v hj=>?_,dd.of (by simp[gR]) λj v c hv pM=>?_⟩
  ·have xU:j<size:=by have:=(List.getElem?_eq_some_iff.1 hj).1;simpa using this
   have e:f i j=v:=by simpa[List.getElem?_map,xU] using hj
   rw[<-e];exact kz i j om xU
  ·have xU:j<size:=by have:=(List.getElem?_eq_some_iff.1 hv).1;simpa using this
   have e:f i j=v:=by simpa[List.getElem?_map,xU] using hv
   rw[<-e];exact iJ i j row c hi pM
theorem QX (b off cap size:Nat) (rows:List (List C)) (vss:List (List Value)) (hlen:vss.length=rows.length) (hc:rows.length<=cap) (hb:b<w.heap.size) (hL:b∉L) 
  (hs:∀row,row∈rows->row.length=size)
  (kz:∀(i:Nat) (vs:List Value),vss[i]?=some vs->gJ w b (off+i*size) vs)
  (iJ:∀(i:Nat) (vs:List Value) (row:List C),vss[i]?=some vs->rows[i]?=some row->dd L w vs row):ck L w (.slice (some ⟨b,off,none⟩) rows.length cap) (.sl size rows):=by
 refine .sl b off rows.length cap size rows (λi j=>(vss.getD i []).getD j undef) rfl hc hb hL hs (λi j hi hj=>?_) (λi j row c hi hj=>?_)
 ·obtain⟨vs,ba⟩:∃vs,vss[i]?=some vs:=⟨vss[i]'om,gE om⟩
  obtain⟨row,gR⟩:∃row,rows[i]?=some row:=⟨rows[i]'hi,gE hi⟩
  have hl:=(iJ i vs row ba gR).length
  rw[hs row (List.mem_of_getElem? gR)] at hl
  have hv:vs[j]?=some vs[j]:=gE om
  have:=kz i vs ba j _ hv
  rw[this]
  simp[gG,ba,hv]
 ·obtain⟨vs,ba⟩:∃vs,vss[i]?=some vs:=⟨vss[i]'(by have:=(List.getElem?_eq_some_iff.1 hi).1;omega),gE (by have:=(List.getElem?_eq_some_iff.1 hi).1;omega)⟩
  have hr:=iJ i vs row ba hi
  have hl:=hr.length
  have wo:=(List.getElem?_eq_some_iff.1 hj).1
  have hv:vs[j]?=some vs[j]:=gE om
  have:=hr.get hv hj
  simpa[gG,ba,hv] using this
theorem Zd {len cap size:Nat} {rows:List (List C)} (h:ck L w (.slice (some ⟨b,off,none⟩) len cap) (.sl size rows)) (i:Nat) (hi:i<=len) (a:Option Addr) 
  (ha:i<cap->a=some ⟨b,off+i*size,none⟩) (Ze:i=cap->a=some ⟨b,off,none⟩):ck L w (.slice a (len-i) (cap-i)) (.sl size (rows.drop i)):=by
 cases h with
 |nil=>rw[List.drop_nil,show i=0 from by omega];exact .nil _ _ _
 |sl b off len cap size rows f hl hc hb hL hs kz iJ=>
  by_cases Zf:i<cap
  ·rw[ha Zf]
   refine .sl b (off+i*size) (len-i) (cap-i) size (rows.drop i) (λk j=>f (i+k) j) (by simp[hl]) om hb hL (λrow hr=>hs row (List.mem_of_mem_drop hr)) (λk j hk hj=>?_) (λk j row c hk hj=>?_)
   ·have:=kz (i+k) j om hj
    rw[<-this];congr 2;rw[Nat.add_mul];omega
   ·exact iJ (i+k) j row c (by simpa using hk) hj
  ·have:i=cap:=by omega
   subst this
   rw[Ze rfl]
   have Zg:len=i:=by omega
   have hr:rows.drop i=[]:=by apply List.drop_of_length_le;omega
   rw[hr]
   have:=ck.sl (L:=L) (w:=w) b off 0 0 size [] f rfl (lR _) hb hL sm om sm
   simpa[Zg] using this
def im (w:World) (T:TypeId) (sz:Nat) (v:Value) (g:Option Nat) (n:Nat) (xs:List Value):Prop:=
 xs.length=n*sz∧
 ((v= .slice none 0 0∧n=0∧g=none)∨
  ∃b cap cur,g=some b∧v= .slice (some ⟨b,0,none⟩) n cap∧aL w b cur T∧n<=cap∧cap<=maxLen∧cur.size=cap*sz∧cur.toList.take (n*sz)=xs)
theorem im.nil (w:World) (T:TypeId) (sz:Nat):im w T sz (.slice none 0 0) none 0 []:=by grind [im]
theorem im.aG {T:TypeId} (h:im w T sz v g n xs) (k:ak L w w') (hg:∀b,g=some b->b∉L):im w' T sz v g n xs:=by
 refine⟨h.1,?_⟩
 rcases h.2 with h|⟨b,cap,cur,e,hv,hb,r⟩
 ·exact .inl h
 ·exact .inr ⟨b,cap,cur,e,hv,hb.aG k (hg b e),r⟩
theorem im.lt {T:TypeId} (h:im w T sz v g n xs):∀b,g=some b->b<w.heap.size:=by
 intro b e
 rcases h.2 with⟨_,_,h⟩|⟨b',cap,cur,e',hv,hb,r⟩
 ·rw[e] at h;cases h
 ·rw[e] at e';cases e';exact hb.lt
theorem im.len {T:TypeId} (h:im w T sz v g n xs):∃a cap,v= .slice a n cap:=by grind [im]
section
variable {P:Program} {w:World}
theorem LJ {t ty T:TypeId} {i:TypeInfo} {sz bytes:Nat} (ht:P.underlying t=some (.slice T)) (hi:P.info? T=some i) (hz:i.zero=some z) 
  (Ca:i.size=sz) (gm:i.bytes=bytes) (xV:z.cells.size=sz)
  {v:Value} {g:Option Nat} {n:Nat} {xs:List Value} (dH:im w T sz v g n xs)
  (ab aoff m c:Nat) (news:List Value) (hl:news.length=m*sz) (Cb:gJ w ab aoff news) (h1:∀u∈news,u.oneCell'=true) (hm:0<m)
  (Aa:n+m<=maxLen) (xW:(n+m)*bytes<=140737488355328):
  ∃v' g' w',(Builtin.append_ #[t,t] ty #[v,.slice (some ⟨ab,aoff,none⟩) m c]).run P w= .ok v' w'∧im w' T sz v' g' (n+m) (xs++news)∧ak g.toList w w'∧
   (g'=g∨g'=some w.heap.size):=by
 subst Ca
 subst gm
 have D6:n+m<=9223372036854775807:=by simp only[maxLen] at Aa;omega
 have hlen:(xs++news).length=(n+m)*i.size:=by rw[lA,dH.1,hl,Nat.add_mul]
 have wq:∀b o j:Nat,(⟨b,o,none⟩:Addr).add j=⟨b,o+j,none⟩:=λb o j=>by unfold Addr.add;split<;>simp_all
 have uP:∀j u,news[j]?=some u->w.cell? ((⟨ab,aoff,none⟩:Addr).add j)=some u:=λj u hu=>by rw[wq];exact Cb j u hu
 have grown:∀(old:Nat),old<n+m->
   im (w.drew.alloc (.cells (xs.toArray++news.toArray++Builtin.zeroCells z.cells (grownCap w (n+m) old T-(n+m))) T)) T i.size
    (.slice (some ⟨w.heap.size,0,none⟩) (n+m) (grownCap w (n+m) old T)) (some w.heap.size) (n+m) (xs++news)∧
   ak g.toList w (w.drew.alloc (.cells (xs.toArray++news.toArray++Builtin.zeroCells z.cells (grownCap w (n+m) old T-(n+m))) T)):=by
  intro old ho
  have rU:=grownCap_ge w (n+m) old T
  have mH:grownCap w (n+m) old T<=maxLen:=grownCap_le_maxLen w (n+m) old T Aa
  refine⟨⟨hlen,.inr ⟨w.heap.size,_,_,rfl,rfl,heap_alloc_new w.drew _,rU,mH,?_,?_⟩⟩,⟨rfl,rfl,rfl,sm,λk hk _=>heap_alloc_old w.drew _ k hk⟩⟩
  ·simp only[Array.size_append,List.size_toArray,size_zeroCells,xV,dH.1,hl,<-Nat.add_mul]
   congr 1
   omega
  ·simp only[Array.toList_append,List.append_assoc]
   rw[<-List.append_assoc,<-hlen]
   exact List.take_left
 rcases dH.2 with⟨rfl,rfl,rfl⟩|⟨b,cap,cur,rfl,rfl,hb,mI,mH,cG,tJ⟩
 ·have hx:xs=[]:=List.eq_nil_of_length_eq_zero (by simpa using dH.1)
  subst hx
  have hr:=run_append_nil (P:=P) w t ty T i z ht hi hz ⟨ab,aoff,none⟩ m c news hl uP hm om (by have hb:=xW;simp only[Nat.zero_add] at hb;omega)
  have ly:=grown 0 om
  simp only[Nat.zero_add,List.nil_append,Array.empty_append] at ly⊢
  exact⟨_,_,_,hr,ly.1,ly.2,.inr rfl⟩
 ·by_cases sC:n+m<=cap
  ·have lx:n*i.size+news.length<=cur.size:=by rw[hl,cG,<-Nat.add_mul];exact Nat.mul_le_mul_right _ sC
   have hr:=run_append_room (P:=P) w t ty T i ht hi b n cap cur hb ⟨ab,aoff,none⟩ m c news hl uP h1 sC lx
   refine⟨_,some b,_,hr,⟨hlen,.inr ⟨b,cap,_,rfl,rfl,setRow_heap w b cur _ T _ hb,sC,mH,?_,?_⟩⟩,⟨rfl,rfl,rfl,sm,λk _ hk=>setRow_other w b k _ (by simpa using hk)⟩,.inl rfl⟩
   ·simp only[List.size_toArray,lA,List.length_take,List.length_drop,Array.length_toList]
    omega
   ·rw[tJ,<-hlen]
    exact List.take_left
  ·have holds:∀j u,xs[j]?=some u->w.cell? ((⟨b,0,none⟩:Addr).add j)=some u:=λj u hu=>by
    rw[wq,hb.cell]
    rw[<-tJ,List.getElem?_take] at hu
    split at hu
    ·simpa using hu
    ·cases hu
   have hr:=run_append_grow (P:=P) w t ty T i z ht hi hz ⟨b,0,none⟩ n cap xs dH.1 holds ⟨ab,aoff,none⟩ m c news hl uP om om (growslice_fits om xW)
   have ly:=grown cap om
   exact⟨_,_,_,hr,ly.1,ly.2,.inr rfl⟩
end
structure gS (L:List Nat) (w:World) (T:TypeId) (sz:Nat) (v:Value) (g:Option Nat) (rows:List (List C)) (xs:List Value):Prop where
 own:im w T sz v g rows.length xs
 rep:dd (g.toList++L) w xs rows.flatten
 row:∀row,row∈rows->row.length=sz
 out:∀b,g=some b->b∉L
theorem gS.nil (L:List Nat) (w:World) (T:TypeId) (sz:Nat):gS L w T sz (.slice none 0 0) none [] []:=
 ⟨im.nil _ _ _,trivial,sm,sm⟩
theorem gS.aG {T:TypeId} {rows:List (List C)} (h:gS L w T sz v g rows xs) (k:ak L' w w') 
  (hL:∀x,x∈L'->x∈L):gS L w' T sz v g rows xs:=
 ⟨h.own.aG k (λb e hx=>h.out b e (hL b hx)),h.rep.aG (k.mono λx hx=>by simp[hL x hx]),h.row,h.out⟩
theorem gS.more {L':List Nat} {T:TypeId} {rows:List (List C)} (h:gS L w T sz v g rows xs) 
  (hL:∀x,x∈L'->x∈L∨w.heap.size<=x):gS L' w T sz v g rows xs:=
 ⟨h.own,h.rep.fresh (λx hx=>by
   rcases mA.1 hx with hx|hx
   ·exact .inl (by simp[hx])
   ·rcases hL x hx with h1|h1
    ·exact .inl (by simp[h1])
    ·exact .inr h1),h.row,λb e hx=>by rcases hL b hx with h1|h1;exact h.out b e h1;have:=h.own.lt b e;omega⟩
theorem gS.len {T:TypeId} {rows:List (List C)} (h:gS L w T sz v g rows xs):∃a cap,v= .slice a rows.length cap:=h.own.len
theorem FU {α:Type}:∀{rows:List (List α)},(∀row,row∈rows->row.length=sz)->∀{i j:Nat} {row:List α} {c:α},rows[i]?=some row->row[j]?=some c->rows.flatten[i*sz+j]?=some c
 |r::rows,h,0,j,row,c,hi,hj=>by
  simp only[List.getElem?_cons_zero,Option.some.injEq] at hi
  subst hi
  simp only[List.flatten_cons,Nat.zero_mul,Nat.zero_add]
  rw[List.getElem?_append_left (List.getElem?_eq_some_iff.1 hj).1];exact hj
 |r::rows,h,i+1,j,row,c,hi,hj=>by
  have hr:r.length=sz:=h r sm
  have:=FU (rows:=rows) (λrow hr=>h row (by simp[hr])) (i:=i) (by simpa using hi) hj
  rw[List.flatten_cons,List.getElem?_append_right (by rw[hr,Nat.add_mul];omega),hr]
  rw[<-this];congr 1;rw[Nat.add_mul];omega
theorem QY {α:Type}:∀{rows:List (List α)},(∀row,row∈rows->row.length=sz)->rows.flatten.length=rows.length*sz:=by intro x;induction x<;>grind
theorem gS.done {T:TypeId} {rows:List (List C)} (h:gS L w T sz v g rows xs):ck L w v (.sl sz rows):=by
 have iJ:=h.rep.fresh (L':=L) (λx hx=>.inl (by simp[hx]))
 rcases h.own.2 with⟨rfl,hn,_⟩|⟨b,cap,cur,e,rfl,hb,mI,mH,cG,tJ⟩
 ·rw[List.length_eq_zero_iff.1 hn];exact .nil _ _ _
 ·have mJ:=h.own.1
  refine .sl b 0 rows.length cap sz rows (λi j=>xs.getD (i*sz+j) undef) rfl mI hb.lt (h.out b e) h.row (λi j hi hj=>?_) (λi j row c hi hj=>?_)
  ·have et:i*sz+j<xs.length:=by
    rw[mJ]
    have:(i+1)*sz<=rows.length*sz:=Nat.mul_le_mul_right _ hi
    rw[Nat.add_mul] at this;omega
   rw[Nat.zero_add,hb.cell,gG,gE et]
   simp only[Option.getD_some]
   have h2:xs[i*sz+j]?=some xs[i*sz+j]:=gE et
   rw[<-h2,<-tJ,List.getElem?_take,iP (by rw[<-mJ];exact et)]
   simp
  ·have hf:=FU h.row hi hj
   have et:i*sz+j<xs.length:=by rw[iJ.length];exact(List.getElem?_eq_some_iff.1 hf).1
   have h2:xs[i*sz+j]?=some xs[i*sz+j]:=gE et
   have:=iJ.get h2 hf
   rw[gG,h2];exact this
theorem gS.app {P:Program} {L:List Nat} {w:World} {t ty T:TypeId} {i:TypeInfo} {sz bytes:Nat} (ht:P.underlying t=some (.slice T)) (hi:P.info? T=some i) (hz:i.zero=some z) 
  (Ca:i.size=sz) (gm:i.bytes=bytes) (xV:z.cells.size=sz)
  {v:Value} {g:Option Nat} {rows:List (List C)} {xs:List Value} (h:gS L w T sz v g rows xs)
  (ab aoff m c:Nat) (new:List (List C)) (news:List Value) (hm:new.length=m) (tK:0<m) (gR:∀row,row∈new->row.length=sz) (Cb:gJ w ab aoff news) (h1:∀u∈news,u.oneCell'=true)
  (hr:dd (g.toList++L) w news new.flatten) (hL:∀x,x∈L->x<w.heap.size)
  (hb:(rows.length+m)*(bytes+1)<=140737488355328):
  ∃v' g' w',(Builtin.append_ #[t,t] ty #[v,.slice (some ⟨ab,aoff,none⟩) m c]).run P w= .ok v' w'∧gS L w' T sz v' g' (rows++new) (xs++news)∧ak g.toList w w'∧
   (g'=g∨g'=some w.heap.size):=by
 have pN:news.length=m*sz:=by rw[hr.length,QY gR,hm]
 have aT:(rows.length+m)*bytes+(rows.length+m)<=140737488355328:=by rw[Nat.mul_add,Nat.mul_one] at hb;exact hb
 obtain⟨v',g',w',jG,dH,hk,hg⟩:=LJ (P:=P) (w:=w) (ty:=ty) ht hi hz Ca gm xV h.own ab aoff m c news pN Cb h1 tK (by unfold maxLen;omega) om
 refine⟨v',g',w',jG,⟨by rw[lA,hm];exact dH,?_,?_,?_⟩,hk,hg⟩
 ·have h2:=(h.rep.append hr).aG (hk.mono (L':=g.toList++L) λx hx=>by simp[hx])
  rw[List.flatten_append]
  have h3:dd (g.toList++L) w (xs++news) (rows.flatten++new.flatten):=h.rep.append hr
  rcases hg with rfl|rfl
  ·exact h2
  ·exact(h3.fresh (L':=(some w.heap.size).toList++(g.toList++L)) (λx hx=>by
    rcases mA.1 hx with hx|hx
    ·right;simp at hx;omega
    ·exact .inl hx)).aG (hk.mono λx hx=>by simp[hx]) |>.fresh (λx hx=>.inl (by
    rcases mA.1 hx with hx|hx
    ·exact List.mem_append_left _ hx
    ·exact mR _ (mR _ hx)))
 ·intro row hx
  rcases mA.1 hx with hx|hx
  ·exact h.row row hx
  ·exact gR row hx
 ·intro b e hx
  rcases hg with rfl|rfl
  ·exact h.out b e hx
  ·have:=hL b hx
   simp at e;omega
def gate (ops:Array Oper) (e:Env):Option (Nat×Bool)->Bool
 |none=>true
 |some (j,want)=>match(ops.toList[j]?).bind (·.dst) with
  |some t=>match e t with
   | .bool b=>b==want
   |_=>false
  |none=>false
theorem FV {e:Env} {a:Act} (h:Fits n e a) (o:Oper):Region.wanted o (yielded ops a.tmps)=gate ops e o.guard:=by
 unfold Region.wanted gate
 cases hg:o.guard with
 |none=>rfl
 |some p=>
  obtain⟨j,want⟩:=p
  simp only[yielded]
  have hj:ops.toList[j]?=ops[j]?:=by simp
  rw[hj]
  cases hd:(ops[j]?).bind (·.dst) with
  |none=>cases want<;>rfl
  |some t=>
   simp only[Option.bind_some]
   have jr:=h.get t
   rw[Array.getD_eq_getD_getElem?] at jr
   cases hx:a.tmps[t]? with
   |none=>
    rw[hx] at jr
    simp only[Option.getD_none] at jr
    rw[<-jr]
    cases want<;>simp[undef]
   |some v=>
    rw[hx] at jr
    simp only[Option.getD_some] at jr
    rw[<-jr]
    cases v<;>cases want<;>first|rfl|(rename_i b;cases b<;>rfl)
section
variable {P:Program} {n:Nat} {ops:Array Oper} {K:Env->World->Prop} {rest:List Oper} {e:Env} {w w':World}
 {dst:Option Nat} {ty:TypeId} {pos:String} {after:Array Edge} {g:Option (Nat×Bool)}
theorem aV (h:K e w):OW P n ops K [] e w:=λ_ ha _=>⟨e,ha,h⟩
theorem fA {op:Op} (hg:gate ops e g=true) (hd:cC n dst=true) (jG:(execOp (ev e) ⟨dst,op,ty,pos,after,g⟩).run P w= .ok (.value v) w') 
  (k:OW P n ops K rest (bY e dst v) w'):OW P n ops K (⟨dst,op,ty,pos,after,g⟩::rest) e w:=λa ha Q=>by
 unfold wpList
 rw[iP (by rw[FV ha];exact hg)]
 refine .inl ?_
 unfold Oper.wp
 rw[ha.eval,jG,Oper.upon_value]
 exact k _ (ha.bY hd v) Q
theorem IT {op:Op} (hg:gate ops e g=true) (jG:(execOp (ev e) ⟨none,op,ty,pos,after,g⟩).run P w= .ok .skip w') 
  (k:OW P n ops K rest e w'):OW P n ops K (⟨none,op,ty,pos,after,g⟩::rest) e w:=λa ha Q=>by
 unfold wpList
 rw[iP (by rw[FV ha];exact hg)]
 refine .inl ?_
 unfold Oper.wp
 rw[ha.eval,jG,Oper.upon_skip]
 exact k _ (ha.bY (d:=none) rfl undef) Q
theorem LK {op:Op} (hg:gate ops e g=false) (hd:cC n dst=true) (k:OW P n ops K rest (bY e dst undef) w):OW P n ops K (⟨dst,op,ty,pos,after,g⟩::rest) e w:=λa ha Q=>by
 unfold wpList
 rw[iN (by rw[FV ha];simp[hg])]
 exact k _ (ha.bY hd undef) Q
theorem cT {op:Op} (k:OW P n ops K rest (bY e dst undef) w) (hg:gate ops e g=false:=by rfl) (hd:cC n dst=true:=by rfl):OW P n ops K (⟨dst,op,ty,pos,after,g⟩::rest) e w:=LK hg hd k
theorem QZ {args:List Value} (h:rf P f):(callFunc f args.toArray).run P w= .ok (.enter f args.toArray) w:=by
 obtain⟨fn,hf,hb,hn⟩:=h
 have D7:¬fn.name= "runtime.NumGoroutine":=by simpa using hn
 have gC:¬fn.body=none:=by intro h;simp[h] at hb
 simp[callFunc,hf,gC,D7]
theorem Zh {xs:List Operand} {ats:Array TypeId} (hg:gate ops e g=true) (hd:cC n dst=true) (h:bC P f (xs.map (ev e)) w S) 
  (k:∀v w',S v w'->OW P n ops K rest (bY e dst v) w'):OW P n ops K (⟨dst,.call {callee:=.value (.func f),args:=xs.toArray,argTypes:=ats},ty,pos,after,g⟩::rest) e w:=λa ha Q=>by
 unfold wpList
 rw[iP (by rw[FV ha];exact hg)]
 refine .inl ?_
 unfold Oper.wp
 have jG:(execOp (ev e) ⟨dst,.call {callee:=.value (.func f),args:=xs.toArray,argTypes:=ats},ty,pos,after,g⟩).run P w= .ok (.enter f (xs.map (ev e)).toArray) w:=by
  simp only[execOp,resolve,ev,Deferred.ofValue,Sem.run_bind,Sem.run_pure,Result.andThen_ok,invoke]
  simp[QZ h.1]
 rw[ha.eval,jG,Oper.upon_enter]
 exact Calls.mono h.2 λx w' ⟨v,hx,hs⟩=>by subst hx;exact k v w' hs _ (ha.bY hd v) Q
theorem aA {xs:List Operand} {ats:Array TypeId} (h:bC P f (xs.map (ev e)) w S) (k:∀v w',S v w'->OW P n ops K rest (bY e dst v) w') (hg:gate ops e g=true:=by rfl) (hd:cC n dst=true:=by rfl):OW P n ops K (⟨dst,.call {callee:=.value (.func f),args:=xs.toArray,argTypes:=ats},ty,pos,after,g⟩::rest) e w:=Zh hg hd h k
theorem Zi (hg:gate ops e g=true) (hd:cC n dst=true) (k:OW P n ops K rest (bY e dst (ev e x)) w):OW P n ops K (⟨dst,.move x,ty,pos,after,g⟩::rest) e w:=
 fA hg hd (by simp[execOp]) k
theorem Zj (hg:gate ops e g=true) (hd:cC n dst=true) (k:OW P n ops K rest (bY e dst (ev e x)) w):OW P n ops K (⟨dst,.assign x,ty,pos,after,g⟩::rest) e w:=
 fA hg hd (by simp[execOp]) k
theorem Q0 {c:Operand} {t:Bool} (hg:gate ops e g=true) (hd:cC n dst=true) (hc:ev e c= .bool t) (k:OW P n ops K rest (bY e dst (bif t then ev e x else ev e y)) w):
  OW P n ops K (⟨dst,.pick c x y,ty,pos,after,g⟩::rest) e w:=
 fA hg hd (by cases t<;>simp[execOp,hc,asBool]) k
theorem FW {a:Addr} (hg:gate ops e g=true) (hd:cC n dst=true) (hx:ev e x= .pointer (some a)) (k:OW P n ops K rest (bY e dst (.pointer (some a))) w):
  OW P n ops K (⟨dst,.nilCheck x,ty,pos,after,g⟩::rest) e w:=
 fA hg hd (by simp[execOp,hx]) k
/-! ### qx blocks -/
theorem Q1 {T:TypeId} {cs:Array Value} (hg:gate ops e g=true) (hd:cC n dst=true) (hx:(ev e x).cells=cs) 
  (k:∀w',ak [] w w'->aL w' w.heap.size cs T->w'.heap.size=w.heap.size+1->OW P n ops K rest (bY e dst (.pointer (some ⟨w.heap.size,0,none⟩))) w'):
  OW P n ops K (⟨dst,.box T x,ty,pos,after,g⟩::rest) e w:=
 fA hg hd (w':=w.alloc (.cells cs T)) (by simp[execOp,Instr.box,newVar,newRow,hx]) (k _ (ak.alloc _ _ _) (aL.alloc _ _ _) sm)
def TI (P:Program) (T:TypeId) (sz bytes:Nat) (z:Value):Prop:=(P.info? T).map (λi=>(i.zero,i.size,i.bytes))=some (some z,sz,bytes)
theorem TI.get {T:TypeId} (h:TI P T sz bytes z):∃i,P.info? T=some i∧i.zero=some z∧i.size=sz∧i.bytes=bytes:=by
 unfold TI at h
 cases hi:P.info? T with
 |none=>simp[hi] at h
 |some i=>simp[hi] at h;exact⟨i,rfl,h.1,h.2.1,h.2.2⟩
theorem TI.tL {T:TypeId} (h:TI P T sz bytes z) (w:World):(sizeOf T).run P w= .ok sz w:=by
 obtain⟨i,hi,hz,hs,hb⟩:=h.get
 simp[sizeOf,typeInfo,hi,hs]
theorem TI.LL {T:TypeId} (h:TI P T sz bytes z) (w:World):(zeroValue T).run P w= .ok z w:=by
 obtain⟨i,hi,hz,hs,hb⟩:=h.get
 simp[zeroValue,typeInfo,hi,hz]
theorem Zk {T:TypeId} {cs:Array Value} (hT:TI P T sz bytes z) (hg:gate ops e g=true) (hd:cC n dst=true) (hx:z.cells=cs) 
  (k:∀w',ak [] w w'->aL w' w.heap.size cs T->w'.heap.size=w.heap.size+1->OW P n ops K rest (bY e dst (.pointer (some ⟨w.heap.size,0,none⟩))) w'):
  OW P n ops K (⟨dst,.alloc T,ty,pos,after,g⟩::rest) e w:=
 fA hg hd (w':=w.alloc (.cells cs T)) (by simp[execOp,Instr.alloc,hT.LL,newVar,newRow,hx]) (k _ (ak.alloc _ _ _) (aL.alloc _ _ _) sm)
/-! ### Addresses,loads,stores -/
def qy (P:Program) (T:TypeId):Bool:=match P.underlying T with
 |some (.struct _)|some (.array _ _)|none=>false
 |_=>true
theorem Zl {T:TypeId} (h:qy P T=true) (w:World):(isAgg T).run P w= .ok false w:=by
 unfold qy at h
 cases hu:P.underlying T with
 |none=>simp[hu] at h
 |some d=>cases d<;>simp[hu] at h<;>simp[isAgg,underlying,hu]
def sD (P:Program) (T:TypeId):Bool:=match P.underlying T with
 |some (.struct _)|some (.array _ _)=>true
 |_=>false
theorem Q2 {T:TypeId} (h:sD P T=true) (w:World):(isAgg T).run P w= .ok true w:=by
 unfold sD at h
 cases hu:P.underlying T with
 |none=>simp[hu] at h
 |some d=>cases d<;>simp[hu] at h<;>simp[isAgg,underlying,hu]
theorem wu (b o j:Nat):(⟨b,o,none⟩:Addr).add j=⟨b,o+j,none⟩:=by unfold Addr.add;split<;>simp_all
theorem Zm {T:TypeId} {a:Addr} (hT:qy P T=true) (hg:gate ops e g=true) (hd:cC n dst=true) (hx:ev e x= .pointer (some a)) (hc:w.cell? a=some v) 
  (k:OW P n ops K rest (bY e dst v) w):OW P n ops K (⟨dst,.load T x,ty,pos,after,g⟩::rest) e w:=
 fA hg hd (by simp[execOp,Instr.loadAt,Instr.sureAddr,hx,loadVar,Zl hT,hc]) k
theorem Zn {T:TypeId} {x:Operand} {b o:Nat} {vs:List Value} (hT:sD P T=true) (jX:TI P T sz bytes z) (hg:gate ops e g=true) (hd:cC n dst=true) 
  (hx:ev e x= .pointer (some ⟨b,o,none⟩)) (hc:gJ w b o vs) (hl:vs.length=sz)
  (k:OW P n ops K rest (bY e dst (.agg vs.toArray)) w):OW P n ops K (⟨dst,.load T x,ty,pos,after,g⟩::rest) e w:=
 fA hg hd (by
  have:=run_loadCells_list (P:=P) w ⟨b,o,none⟩ vs (λj v hv=>by rw[wu];exact hc j v hv)
  rw[hl] at this
  simp[execOp,Instr.loadAt,Instr.sureAddr,hx,loadVar,Q2 hT,jX.tL,this]) k
theorem Zo {u:Value} (h1:v.oneCell'=true) (hc:w.cell? ⟨b,o,none⟩=some u) (hf:w.frozen? ⟨b,o,none⟩=false):(storeCells ⟨b,o,none⟩ [v]).run P w= .ok () (w.setCell ⟨b,o,none⟩ v):=by
 simp[storeCells,wu,run_store P w _ v _ h1,hc,hf]
theorem LM {T:TypeId} {x y:Operand} {b o:Nat} {v:Value} {cs:Array Value} {U:TypeId} (jX:TI P T sz bytes z) (fU:sz=1) (hg:gate ops e g=true) 
  (hx:ev e x= .pointer (some ⟨b,o,none⟩)) (hy:ev e y=v) (h1:v.oneCell'=true) (hb:aL w b cs U) (ho:o<cs.size)
  (k:∀w',ak [b] w w'->aL w' b (cs.setIfInBounds o v) U->w'.heap.size=w.heap.size->OW P n ops K rest e w'):OW P n ops K (⟨none,.store T x y,ty,pos,after,g⟩::rest) e w:=
 IT hg (w':=w.setCell ⟨b,o,none⟩ v) (by
  have hc:v.cells=#[v]:=by cases v<;>first|rfl|(simp[Value.oneCell'] at h1)
  have hs:=Zo (P:=P) (w:=w) (b:=b) (o:=o) (v:=v) (u:=cs[o]) h1 (by rw[hb.cell,Array.getElem?_eq_getElem ho]) (hb.frozen o)
  subst fU
  simp[execOp,Instr.storeAt,Instr.sureAddr,hx,hy,storeVar,hc,jX.tL,hs]) (k _ (ak.setCell _ _ _ _) (hb.set o v) (by simp[World.setCell]))
theorem Q3:∀(vs:List Value) (i:Nat) (pre:List Value) (w:World) (b:Nat) (U:TypeId) (cs:Array Value),aL w b cs U->cs.size=pre.length+vs.length->i=pre.length->cs.toList.take i=pre->(∀u∈vs,u.oneCell'=true)->
  ∃w',(storeCells ⟨b,0,none⟩ vs i).run P w= .ok () w'∧ak [b] w w'∧aL w' b (pre++vs).toArray U∧w'.heap.size=w.heap.size
 |[],i,pre,w,b,U,cs,hb,hs,hi,ht,_=>by
  refine⟨w,rfl,ak.refl _ _,?_,rfl⟩
  have:cs=(pre++[]).toArray:=by
   apply Array.ext'
   simp only[List.append_nil] at*
   rw[<-ht,List.take_of_length_le (by simp;simp at hs;omega)]
  rw[<-this];exact hb
 |v::vs,i,pre,w,b,U,cs,hb,hs,hi,ht,h1=>by
  have mG:i<cs.size:=by simp at hs;omega
  have aW:(store ((⟨b,0,none⟩:Addr).add i) v).run P w= .ok () (w.setCell ⟨b,i,none⟩ v):=by
   rw[wu,Nat.zero_add,run_store P w _ v _ (h1 v sm),hb.cell,Array.getElem?_eq_getElem mG,hb.frozen]
   simp
  obtain⟨w',hr,hk,gC,hz⟩:=Q3 vs (i+1) (pre++[v]) (w.setCell ⟨b,i,none⟩ v) b U (cs.setIfInBounds i v) (hb.set i v) (by simp at hs⊢;omega) so
   (by
    rw[Array.toList_setIfInBounds,List.take_add_one,List.getElem?_set_self (by simpa using mG),List.take_set_of_le (lR i),ht];simp)
   (λu hu=>h1 u (by simp[hu]))
  refine⟨w',?_,(ak.setCell w b i v).trans hk,by simpa using gC,by rw[hz];simp[World.setCell]⟩
  simp only[storeCells,Sem.run_bind,aW,Result.andThen_ok]
  exact hr
theorem Zp {T:TypeId} {x y:Operand} {b:Nat} {vs:List Value} {cs:Array Value} {U:TypeId} (jX:TI P T sz bytes z) (hg:gate ops e g=true) 
  (hx:ev e x= .pointer (some ⟨b,0,none⟩)) (hy:ev e y= .agg vs.toArray) (hl:vs.length=sz) (h1:∀u∈vs,u.oneCell'=true) (hb:aL w b cs U) (cG:cs.size=sz)
  (k:∀w',ak [b] w w'->aL w' b vs.toArray U->w'.heap.size=w.heap.size->OW P n ops K rest e w'):OW P n ops K (⟨none,.store T x y,ty,pos,after,g⟩::rest) e w:=by
 obtain⟨w',hr,hk,gC,hz⟩:=Q3 (P:=P) vs 0 [] w b U cs hb so rfl sm h1
 exact IT hg (w':=w') (by
  simp[execOp,Instr.storeAt,Instr.sureAddr,hx,hy,storeVar,Value.cells,jX.tL,hl,hr]) (k _ hk (by simpa using gC) hz)
def gY (P:Program) (S i:Nat):Option Nat:=match P.underlying S with
 |some (.struct fs)=>match fs[i]? with
  |some f=>match P.info? f.type with
   |some t=>if t.size=0 then none else some f.offset
   |none=>none
  |none=>none
 |_=>none
theorem Zq {S:Nat} (h:gY P S i=some off):(Instr.fieldAt S (.pointer (some ⟨b,o,none⟩)) i).run P w= .ok (.pointer (some ⟨b,o+off,none⟩)) w:=by
 unfold gY at h
 cases hu:P.underlying S with
 |none=>simp[hu] at h
 |some d=>
  cases d<;>simp[hu] at h
  rename_i fs
  cases hf:fs[i]? with
  |none=>simp[hf] at h
  |some f=>
   simp only[hf] at h
   cases hi:P.info? f.type with
   |none=>simp[hi] at h
   |some t=>
    simp only[hi] at h
    by_cases hz:t.size=0
    ·simp[hz] at h
    ·simp[hz] at h
     simp[Instr.fieldAt,run_underlying hu,hf,Instr.sureAddr,fieldPlace,sizeOf,typeInfo,hi,hz,wu,h]
theorem Q4 {S:Nat} (hS:gY P S i=some off) (hg:gate ops e g=true) (hd:cC n dst=true) (hx:ev e x= .pointer (some ⟨b,o,none⟩)) 
  (k:OW P n ops K rest (bY e dst (.pointer (some ⟨b,o+off,none⟩))) w):OW P n ops K (⟨dst,.fieldAddr S x i,ty,pos,after,g⟩::rest) e w:=
 fA hg hd (by simp[execOp,hx,Zq hS]) k
theorem Q5 {T E:TypeId} {x y:Operand} {b o len cap i:Nat} {ki:IntKind} (hT:P.underlying T=some (.slice E)) (hE:TI P E sz bytes z) (hg:gate ops e g=true) (hd:cC n dst=true) 
  (hx:ev e x= .slice (some ⟨b,o,none⟩) len cap) (hy:ev e y= .int ki (i:Int)) (hi:i<len)
  (k:OW P n ops K rest (bY e dst (.pointer (some ⟨b,o+i*sz,none⟩))) w):OW P n ops K (⟨dst,.indexAddr T x y,ty,pos,after,g⟩::rest) e w:=
 fA hg hd (by
  have h2:¬len<=i:=by omega
  simp[execOp,Instr.indexAt,hx,hy,asIntOf,run_underlying hT,h2,hE.tL,wu]) k
theorem IU {T E:TypeId} {a:Option Addr} {cap:Nat} (hT:P.underlying T=some (.slice E)) (hg:gate ops e g=true) (hd:cC n dst=true) (hx:ev e x= .slice a m cap) 
  (k:OW P n ops K rest (bY e dst (.int .i64 m)) w):OW P n ops K (⟨dst,.call {callee:=.builtin .len,args:=#[x],argTypes:=#[T]},ty,pos,after,g⟩::rest) e w:=
 fA hg hd (by
  simp[execOp,resolve,invoke,builtin,hx,Builtin.len_,run_underlying hT,goInt]) k
theorem Zr {T:TypeId} {s:ByteArray} (hT:P.underlying T=some .string) (hg:gate ops e g=true) (hd:cC n dst=true) (hx:ev e x= .string s) (hm:s.size=m) 
  (k:OW P n ops K rest (bY e dst (.int .i64 m)) w):OW P n ops K (⟨dst,.call {callee:=.builtin .len,args:=#[x],argTypes:=#[T]},ty,pos,after,g⟩::rest) e w:=
 fA hg hd (by
  simp[execOp,resolve,invoke,builtin,hx,Builtin.len_,run_underlying hT,goInt,hm]) k
theorem Q6 (hg:gate ops e g=true) (hd:cC n dst=true) (hx:ev e x= .tuple vs.toArray) (hi:vs[i]?=some v) 
  (k:OW P n ops K rest (bY e dst v) w):OW P n ops K (⟨dst,.extract x i,ty,pos,after,g⟩::rest) e w:=
 fA hg hd (by simp[execOp,Instr.extract,hx,hi]) k
end
abbrev str (l:List UInt8):Value:=.string ⟨l.toArray⟩
section
variable {P:Program} {n:Nat} {ops:Array Oper} {K:Env->World->Prop} {rest:List Oper} {e:Env} {w w':World}
 {dst:Option Nat} {ty:TypeId} {pos:String} {after:Array Edge} {g:Option (Nat×Bool)} {T T':TypeId} {x y:Operand}
theorem IV {b:Int} (hg:gate ops e g=true) (hd:cC n dst=true) (hx:ev e x= .int k a) (hy:ev e y= .int k' b) (hk:k=k':=by rfl) 
  (c:OW P n ops K rest (bY e dst (.bool (decide (a<b)))) w):OW P n ops K (⟨dst,.binOp .lss T x y T',ty,pos,after,g⟩::rest) e w:=
 fA hg hd (by subst hk;cases k<;>simp[execOp,eqGuard,hx,hy,binOp,Op.intCmp]) c
theorem Zs {b:Int} (hg:gate ops e g=true) (hd:cC n dst=true) (hx:ev e x= .int k a) (hy:ev e y= .int k' b) (hk:k=k':=by rfl) 
  (c:OW P n ops K rest (bY e dst (.bool (decide (a<=b)))) w):OW P n ops K (⟨dst,.binOp .leq T x y T',ty,pos,after,g⟩::rest) e w:=
 fA hg hd (by subst hk;cases k<;>simp[execOp,eqGuard,hx,hy,binOp,Op.intCmp]) c
theorem FX {b:Int} (hg:gate ops e g=true) (hd:cC n dst=true) (hx:ev e x= .int k a) (hy:ev e y= .int k' b) (hk:k=k':=by rfl) 
  (c:OW P n ops K rest (bY e dst (.bool (decide (b<a)))) w):OW P n ops K (⟨dst,.binOp .gtr T x y T',ty,pos,after,g⟩::rest) e w:=
 fA hg hd (by subst hk;cases k<;>simp[execOp,eqGuard,hx,hy,binOp,Op.intCmp]) c
theorem Zt {b:Int} (hg:gate ops e g=true) (hd:cC n dst=true) (hx:ev e x= .int k a) (hy:ev e y= .int k' b) (hk:k=k':=by rfl) 
  (c:OW P n ops K rest (bY e dst (.bool (decide (b<=a)))) w):OW P n ops K (⟨dst,.binOp .geq T x y T',ty,pos,after,g⟩::rest) e w:=
 fA hg hd (by subst hk;cases k<;>simp[execOp,eqGuard,hx,hy,binOp,Op.intCmp]) c
theorem wv {b:Int} (hg:gate ops e g=true) (hd:cC n dst=true) (hx:ev e x= .int k a) (hy:ev e y= .int k' b) (hk:k=k':=by rfl) 
  (c:OW P n ops K rest (bY e dst (.bool (decide (a=b)))) w):OW P n ops K (⟨dst,.binOp .eql T x y T',ty,pos,after,g⟩::rest) e w:=
 fA hg hd (by
  have h:(a==b)=decide (a=b):=by by_cases h:a=b<;>simp[h]
  subst hk;cases k<;>simp[execOp,eqGuard,hx,hy,binOp,Op.intCmp,h]) c
theorem IW {b:Int} (hg:gate ops e g=true) (hd:cC n dst=true) (hx:ev e x= .int k a) (hy:ev e y= .int k' b) (hk:k=k':=by rfl) 
  (c:OW P n ops K rest (bY e dst (.bool (decide (a≠b)))) w):OW P n ops K (⟨dst,.binOp .neq T x y T',ty,pos,after,g⟩::rest) e w:=
 fA hg hd (by
  have h:(a !=b)=decide (a≠b):=by by_cases h:a=b<;>simp[h]
  subst hk;cases k<;>simp[execOp,eqGuard,hx,hy,binOp,Op.intCmp,h]) c
theorem o3 {b c:Int} (hg:gate ops e g=true) (hd:cC n dst=true) (hx:ev e x= .int k a) (hy:ev e y= .int k' b) (hk:k=k':=by rfl) (hc:k.wrap (a+b)=c) 
  (c':OW P n ops K rest (bY e dst (.int k c)) w):OW P n ops K (⟨dst,.binOp .add T x y T',ty,pos,after,g⟩::rest) e w:=
 fA hg hd (by subst hk;cases k<;>simp[execOp,eqGuard,hx,hy,binOp,Op.intArith,hc]) c'
theorem xX {b c:Int} (hg:gate ops e g=true) (hd:cC n dst=true) (hx:ev e x= .int k a) (hy:ev e y= .int k' b) (hk:k=k':=by rfl) (hc:k.wrap (a-b)=c) 
  (c':OW P n ops K rest (bY e dst (.int k c)) w):OW P n ops K (⟨dst,.binOp .sub T x y T',ty,pos,after,g⟩::rest) e w:=
 fA hg hd (by subst hk;cases k<;>simp[execOp,eqGuard,hx,hy,binOp,Op.intArith,hc]) c'
theorem IX {b c:Int} (hg:gate ops e g=true) (hd:cC n dst=true) (hx:ev e x= .int k a) (hy:ev e y= .int k' b) (hk:k=k':=by rfl) (hc:k.wrap (a*b)=c) 
  (c':OW P n ops K rest (bY e dst (.int k c)) w):OW P n ops K (⟨dst,.binOp .mul T x y T',ty,pos,after,g⟩::rest) e w:=
 fA hg hd (by subst hk;cases k<;>simp[execOp,eqGuard,hx,hy,binOp,Op.intArith,hc]) c'
theorem LN {a:Nat} {c:Int} (hg:gate ops e g=true) (hd:cC n dst=true) (hx:ev e x= .int k (a:Int)) (hy:ev e y= .int k' (b:Int)) (hk:k=k':=by rfl) (hb:0<b) (hc:k.wrap ((a/b:Nat):Int)=c) 
  (c':OW P n ops K rest (bY e dst (.int k c)) w):OW P n ops K (⟨dst,.binOp .quo T x y T',ty,pos,after,g⟩::rest) e w:=
 fA hg hd (by
  have h1:¬b=0:=by omega
  subst hk
  cases k<;>simp[execOp,eqGuard,hx,hy,binOp,Op.intDiv,h1]<;>(try rw[<-hc])<;>(try simp)) c'
theorem FY {a:Nat} (hg:gate ops e g=true) (hd:cC n dst=true) (hx:ev e x= .int k (a:Int)) (hy:ev e y= .int k' (b:Int)) (hk:k=k':=by rfl) (hb:0<b) 
  (c':OW P n ops K rest (bY e dst (.int k ((a%b:Nat):Int))) w):OW P n ops K (⟨dst,.binOp .rem T x y T',ty,pos,after,g⟩::rest) e w:=
 fA hg hd (by
  have h1:¬b=0:=by omega
  have h2:(a:Int).tmod (b:Int)=((a:Int)%(b:Int)):=Int.tmod_eq_emod_of_nonneg om
  subst hk
  cases k<;>simp[execOp,eqGuard,hx,hy,binOp,Op.intDiv,h1,h2]) c'
theorem jY {b:Bool} (hg:gate ops e g=true) (hd:cC n dst=true) (hx:ev e x= .bool b) (c:OW P n ops K rest (bY e dst (.bool (!b))) w):
  OW P n ops K (⟨dst,.unOp .not T x,ty,pos,after,g⟩::rest) e w:=
 fA hg hd (by simp[execOp,Op.unary,hx]) c
theorem Zu {a b:Bool} (hT:P.underlying T=some .bool) (hg:gate ops e g=true) (hd:cC n dst=true) (hx:ev e x= .bool a) (hy:ev e y= .bool b) 
  (c:OW P n ops K rest (bY e dst (.bool (a==b))) w):OW P n ops K (⟨dst,.binOp .eql T x y T',ty,pos,after,g⟩::rest) e w:=
 fA hg hd (by simp[execOp,eqGuard,hx,hy,run_eql_bool w T a b hT]) c
theorem Zv {a b:Bool} (hT:P.underlying T=some .bool) (hg:gate ops e g=true) (hd:cC n dst=true) (hx:ev e x= .bool a) (hy:ev e y= .bool b) 
  (c:OW P n ops K rest (bY e dst (.bool (!(a==b)))) w):OW P n ops K (⟨dst,.binOp .neq T x y T',ty,pos,after,g⟩::rest) e w:=
 fA hg hd (by simp[execOp,eqGuard,hx,hy,run_neq_bool w T a b hT]) c
/-! ### Strings -/
theorem iw {a b:List UInt8} (hg:gate ops e g=true) (hd:cC n dst=true) (hx:ev e x=str a) (hy:ev e y=str b) (hs:a.length+b.length<=9223372036854775807) 
  (c:OW P n ops K rest (bY e dst (str (a++b))) w):OW P n ops K (⟨dst,.binOp .add T x y T',ty,pos,after,g⟩::rest) e w:=
 fA hg hd (by
  have h1:¬(IntKind.i64.max<(a.length:Int)+(b.length:Int)):=by
   have:IntKind.i64.max=9223372036854775807:=by decide
   omega
  have h2:(⟨a.toArray⟩:ByteArray)++⟨b.toArray⟩=⟨(a++b).toArray⟩:=by
   apply ByteArray.ext;simp
  simp[execOp,eqGuard,hx,hy,binOp,Op.stringOp,ByteArray.size,h2]
  omega) c
theorem Cc {a b:List UInt8} (hg:gate ops e g=true) (hd:cC n dst=true) (hx:ev e x=str a) (hy:ev e y=str b) 
  (c:OW P n ops K rest (bY e dst (.bool (decide (a=b)))) w):OW P n ops K (⟨dst,.binOp .eql T x y T',ty,pos,after,g⟩::rest) e w:=
 fA hg hd (by
  have h:(a==b)=decide (a=b):=by by_cases h:a=b<;>simp[h]
  simp[execOp,eqGuard,hx,hy,binOp,Op.stringOp,h]) c
theorem LO {a b:List UInt8} (hg:gate ops e g=true) (hd:cC n dst=true) (hx:ev e x=str a) (hy:ev e y=str b) 
  (c:OW P n ops K rest (bY e dst (.bool (decide (a≠b)))) w):OW P n ops K (⟨dst,.binOp .neq T x y T',ty,pos,after,g⟩::rest) e w:=
 fA hg hd (by
  have h:(a==b)=decide (a=b):=by by_cases h:a=b<;>simp[h]
  simp[execOp,eqGuard,hx,hy,binOp,Op.stringOp,h]) c
theorem kl {a:List UInt8} {b:UInt8} (hT:P.underlying T=some .string) (hg:gate ops e g=true) (hd:cC n dst=true) (hx:ev e x=str a) (hy:ev e y= .int k (i:Int)) (hi:a[i]?=some b) 
  (c:OW P n ops K rest (bY e dst (.int .u8 b.toNat)) w):OW P n ops K (⟨dst,.index T x y,ty,pos,after,g⟩::rest) e w:=
 fA hg hd (by
  obtain⟨hl,he⟩:=List.getElem?_eq_some_iff.1 hi
  have hr:=run_index_string (P:=P) w T ⟨a.toArray⟩ k (i:Int) hT
  have fU:(⟨a.toArray⟩:ByteArray).size=a.length:=by simp[ByteArray.size]
  rw[dif_pos (by rw[fU];omega)] at hr
  simp only[execOp,hx,hy,Sem.run_bind,hr]
  simp only[Result.andThen_ok,Sem.run_pure,Int.toNat_natCast]
  rw[<-he];rfl) c
theorem Zw {a:List UInt8} {lo hi:Option Value} {l h:Nat} (hT:P.underlying T=some .string) 
  (D8:(lo=none∧l=0)∨∃k,lo=some (.int k (l:Int))) (F0:(hi=none∧h=a.length)∨∃k,hi=some (.int k (h:Int))) (h1:l<=h) (h2:h<=a.length):
  (Instr.sliceAt T (str a) lo hi none).run P w= .ok (str ((a.drop l).take (h-l))) w:=by
 have e1:(⟨a.toArray⟩:ByteArray).extract l h=⟨((a.drop l).take (h-l)).toArray⟩:=ByteArray.extract_mk a l h
 have e2:(⟨a.toArray⟩:ByteArray).size=a.length:=by simp[ByteArray.size]
 rcases D8 with⟨rfl,rfl⟩|⟨k,rfl⟩<;>rcases F0 with⟨rfl,rfl⟩|⟨k',rfl⟩<;>
  simp[Instr.sliceAt,Instr.slice,run_underlying hT,Instr.sliceBounds,Instr.sliceBound,asIntOf,e2,h1,h2,e1]
theorem Cd {a:List UInt8} {lo hi:Option Operand} {l h:Nat} (hT:P.underlying T=some .string) (hg:gate ops e g=true) (hd:cC n dst=true) (hx:ev e x=str a) 
  (D8:(lo.map (ev e)=none∧l=0)∨∃k,lo.map (ev e)=some (.int k (l:Int))) (F0:(hi.map (ev e)=none∧h=a.length)∨∃k,hi.map (ev e)=some (.int k (h:Int))) (h1:l<=h) (h2:h<=a.length)
  (c:OW P n ops K rest (bY e dst (str ((a.drop l).take (h-l)))) w):OW P n ops K (⟨dst,.slice T x lo hi none,ty,pos,after,g⟩::rest) e w:=
 fA hg hd (by simp only[execOp,hx,Option.map_none,Sem.run_bind,Zw hT D8 F0 h1 h2];rfl) c
theorem xY {L:List Nat} {E:TypeId} {lo:Operand} {b off len cap l:Nat} {k:IntKind} (hT:P.underlying T=some (.slice E)) (hE:TI P E sz bytes z) (hg:gate ops e g=true) (hd:cC n dst=true) 
  (hx:ev e x= .slice (some ⟨b,off,none⟩) len cap) (D8:ev e lo= .int k (l:Int)) (hl:l<=len) {rows:List (List C)} (hr:ck L w (.slice (some ⟨b,off,none⟩) len cap) (.sl sz rows))
  (c:∀v,ck L w v (.sl sz (rows.drop l))->OW P n ops K rest (bY e dst v) w):OW P n ops K (⟨dst,.slice T x (some lo) none none,ty,pos,after,g⟩::rest) e w:=by
 have D9:len<=cap:=by cases hr with|nil=>exact Nat.zero_le _|sl _ _ _ _ _ _ _ hl hc=>exact hc
 refine fA hg hd (v:=.slice (if cap=l then some ⟨b,off,none⟩ else some ⟨b,off+l*sz,none⟩) (len-l) (cap-l)) (w':=w) ?_ (c _ (Zd hr l hl _ (λh=>iN om) (λh=>iP om)))
 simp[execOp,Instr.sliceAt,Instr.slice,hx,D8,run_underlying hT,Instr.sliceBounds,Instr.sliceBound,asIntOf,hl,hE.tL,wu]
theorem xZ {S D:TypeId} {d:TypeDesc} {c:Int} (hS:P.underlying S=some d) (hD:P.underlying D=some (.int k')) (hg:gate ops e g=true) (hd:cC n dst=true) (hx:ev e x= .int k a) (hc:k'.wrap a=c) 
  (c':OW P n ops K rest (bY e dst (.int k' c)) w):OW P n ops K (⟨dst,.convert S D x,ty,pos,after,g⟩::rest) e w:=
 fA hg hd (by simp[execOp,convert,hx,run_underlying hS,run_underlying hD,Conv.intToInt,hc]) c'
end
theorem aL.ext {cs:Array Value} {T:TypeId} (h:aL w b cs T) (k:ak [] w w'):aL w' b cs T:=h.aG k sm
theorem ck.ext {c:C} (h:ck L w v c) (k:ak [] w w'):ck L w' v c:=h.aG k.any
theorem jW.ext {cs:List C} (h:jW L w v cs) (k:ak [] w w'):jW L w' v cs:=h.aG k.any
theorem gS.ext {T:TypeId} {rows:List (List C)} (h:gS L w T sz v g rows xs) (k:ak [] w w'):gS L w' T sz v g rows xs:=h.aG k sm
theorem ak.ext (h:ak L w0 w) (k:ak [] w w'):ak L w0 w':=h.trans k.any
theorem gJ.ext (h:gJ w b off vs) (k:ak [] w w'):gJ w' b off vs:=λj v hj=>by
 have h1:=h j v hj
 have hb:b<w.heap.size:=World.block_lt_of_cell? w ⟨b,off+j,none⟩ h1
 exact(World.cell?_of_block (k.block b hb sm)).trans h1
theorem aL.at {T:TypeId} (h:aL w b vs.toArray T) (hv:vs[i]?=some v):w.cell? ⟨b,i,none⟩=some v:=by
 rw[h.cell];simpa using hv
theorem aL.all {T:TypeId} (h:aL w b vs.toArray T):gJ w b 0 vs:=λj v hj=>by
 rw[Nat.zero_add];exact h.at hj
theorem wrap_i64 (x:Int) (h1: -9223372036854775808<=x) (h2:x<=9223372036854775807):IntKind.i64.wrap x=x:=by
 simp only[IntKind.wrap,IntKind.bits,IntKind.signed];simp;omega
theorem wrap_u8 (x:Int) (h1:0<=x) (h2:x<=255):IntKind.u8.wrap x=x:=by
 simp only[IntKind.wrap,IntKind.bits,IntKind.signed];simp;omega
theorem wrap_u64 (x:Int) (h1:0<=x) (h2:x<=18446744073709551615):IntKind.u64.wrap x=x:=by
 simp only[IntKind.wrap,IntKind.bits,IntKind.signed];simp;omega
section
variable {P:Program} {n:Nat} {ops:Array Oper} {K:Env->World->Prop} {rest:List Oper} {e:Env} {w w':World}
 {dst:Option Nat} {ty:TypeId} {pos:String} {after:Array Edge} {g:Option (Nat×Bool)} {T:TypeId} {x:Operand}
theorem Zx (hg:gate ops e g=true) (hd:cC n dst=true) (hx:ev e x= .agg vs.toArray) 
  (k:∀w',ak [] w w'->aL w' w.heap.size vs.toArray T->w'.heap.size=w.heap.size+1->OW P n ops K rest (bY e dst (.pointer (some ⟨w.heap.size,0,none⟩))) w'):
  OW P n ops K (⟨dst,.box T x,ty,pos,after,g⟩::rest) e w:=Q1 hg hd (by rw[hx];rfl) k
theorem ey (hx:ev e x= .agg vs.toArray) (k:∀w',ak [] w w'->aL w' w.heap.size vs.toArray T->w'.heap.size=w.heap.size+1->OW P n ops K rest (bY e dst (.pointer (some ⟨w.heap.size,0,none⟩))) w') (hg:gate ops e g=true:=by rfl) (hd:cC n dst=true:=by rfl):OW P n ops K (⟨dst,.box T x,ty,pos,after,g⟩::rest) e w:=Zx hg hd hx k
theorem LQ (hg:gate ops e g=true) (hd:cC n dst=true) (hx:(ev e x).cells=[v].toArray) 
  (k:∀w',ak [] w w'->aL w' w.heap.size [v].toArray T->w'.heap.size=w.heap.size+1->OW P n ops K rest (bY e dst (.pointer (some ⟨w.heap.size,0,none⟩))) w'):
  OW P n ops K (⟨dst,.box T x,ty,pos,after,g⟩::rest) e w:=Q1 hg hd hx k
theorem da (hT:TI P T sz bytes (.agg vs.toArray)) (hg:gate ops e g=true) (hd:cC n dst=true) (_:vs=vs) 
  (k:∀w',ak [] w w'->aL w' w.heap.size vs.toArray T->w'.heap.size=w.heap.size+1->OW P n ops K rest (bY e dst (.pointer (some ⟨w.heap.size,0,none⟩))) w'):
  OW P n ops K (⟨dst,.alloc T,ty,pos,after,g⟩::rest) e w:=Zk hT hg hd rfl k
theorem uQ (h:e t=v):iv e t v=e:=by grind [nL,IQ]
theorem x4 {b:Bool} (ht:e t= .bool b) (h1:b=true->OW P n ops K l (iv e t (.bool true)) w) (h0:b=false->OW P n ops K l (iv e t (.bool false)) w):OW P n ops K l e w:=by cases b<;>grind [uQ]
theorem F2 {b:Bool} (ht:e t= .bool b) (h:OW P n ops K l (iv e t (.bool b)) w):OW P n ops K l e w:=by
 rwa [uQ ht] at h
def aR (D:List Nat) (x e:Env):Env:=λt=>bif D.contains t then x t else e t
def eF (D:List Nat) (e e':Env):Prop:=∀t,D.contains t=false->e' t=e t
theorem x5 {e:Env}:eF D e e:=λ_ _=>rfl
theorem IY {e e':Env} (hd:D.contains d=true) (h:eF D e e'):eF D e (iv e' d v):=by grind [eF,iv,IQ]
theorem LR {D2:List Nat} {e e' x:Env} (hd:D2.all D.contains=true) (h:eF D e e'):eF D e (aR D2 x e'):=by grind [eF,aR]
theorem apb [Decidable p] (h:decide p=true):p:=of_decide_eq_true h
theorem apc [Decidable p] (h:decide p=false):¬p:=of_decide_eq_false h
theorem apd {b:Bool} (h:(!b)=true):b=false:=by simpa using h
theorem ape {b:Bool} (h:(!b)=false):b=true:=by simpa using h
theorem x6 {e e':Env} (h:eF D e e'):aR D e' e=e':=by grind [eF,aR]
theorem Oper.LS {o:Oper} {a:Act} {w:World} {H H':Act->World->Prop} {Q Q':Exit->Act->World->Prop} (h:∀a w,H a w->H' a w) 
  (hp:∀c a w,Q (.panic c) a w->Q' (.panic c) a w) (ho:LetsOut Q->LetsOut Q') (hh:o.wp P a w H Q):o.wp P a w H' Q':=by
 unfold Oper.wp at*
 generalize(execOp a.eval o).run P w=r at*
 cases r with
 |ok n w'=>
  cases n<;>simp only[Oper.upon] at hh⊢<;>
   first
    |exact h _ _ hh
    |exact Calls.mono hh (λe w'' he=>by cases e<;>first|exact h _ _ he|exact hp _ _ _ he|exact ho he)
    |exact Rows.mono hh (λ_ _ he=>h _ _ he)
 |halt x w'=>cases x<;>simp only[Oper.upon] at hh⊢<;>first|exact hp _ _ _ hh|exact hh
theorem LU {N:Env->World->Prop} {l2:List Oper} (k:∀e' a' w',Fits n e' a'->N e' w'->wpList P ops (pL n K Q) l2 a' w'):
  ∀(l1:List Oper) (a:Act) (w:World),wpList P ops (pL n N Q) l1 a w->wpList P ops (pL n K Q) (l1++l2) a w
 |[],a,w,h=>by
  simp only[wpList,pL] at h
  obtain⟨e',hf,hn⟩:=h
  exact k e' a w hf hn
 |o::l,a,w,h=>by
  have hl:LetsOut (pL n N Q)->LetsOut (pL n K Q):=fun⟨a,w,hq⟩=>⟨a,w,hq⟩
  simp only[List.cons_append]
  unfold wpList at h⊢
  by_cases hw:Region.wanted o (yielded ops a.tmps)=true
  ·rw[iP hw] at h⊢
   rcases h with h|⟨h1,h2⟩
   ·exact .inl (Oper.LS (λa' w' h'=>LU k l a' w' h') (λ_ _ _ h=>h) hl h)
   ·exact .inr ⟨h1,hl h2⟩
  ·rw[iN hw] at h⊢
   exact LU k l _ w h
theorem wy {l1 l2:List Oper} {N:Env->World->Prop} (h:OW P n ops N l1 e w) (k:∀e' w',N e' w'->OW P n ops K l2 e' w'):OW P n ops K (l1++l2) e w:=λa ha Q=>
 LU (λe' a' w' hf hn=>k e' w' hn a' hf Q) l1 a w (h a ha Q)
theorem IZ {l:List Oper} (m tc tp:Nat) (D:List Nat) {c r:Bool} (J:World->Prop) (ht:e tc= .bool c) 
  (h1:c=true->OW P n ops (λe' w'=>eF D e e'∧e' tp= .bool r∧J w') (l.take m) (iv e tc (.bool true)) w)
  (h0:c=false->OW P n ops (λe' w'=>eF D e e'∧e' tp= .bool false∧J w') (l.take m) (iv e tc (.bool false)) w)
  (k:∀x w',J w'->OW P n ops K (l.drop m) (iv (aR D x e) tp (.bool (c&&r))) w'):OW P n ops K l e w:=by
 rw[<-List.take_append_drop m l]
 cases c with
 |true=>
  have h:=h1 rfl
  rw[uQ ht] at h
  refine wy h λe' w' ⟨ha,hp,hj⟩=>?_
  have:=k e' w' hj
  rw[x6 ha,Bool.true_and,uQ hp] at this
  exact this
 |false=>
  have h:=h0 rfl
  rw[uQ ht] at h
  refine wy h λe' w' ⟨ha,hp,hj⟩=>?_
  have:=k e' w' hj
  rw[x6 ha,Bool.false_and,uQ hp] at this
  exact this
theorem Ce {l:List Oper} (m tc tp:Nat) (D:List Nat) {c r:Bool} (J:World->Prop) (ht:e tc= .bool c) 
  (h1:c=true->OW P n ops (λe' w'=>eF D e e'∧e' tp= .bool true∧J w') (l.take m) (iv e tc (.bool true)) w)
  (h0:c=false->OW P n ops (λe' w'=>eF D e e'∧e' tp= .bool r∧J w') (l.take m) (iv e tc (.bool false)) w)
  (k:∀x w',J w'->OW P n ops K (l.drop m) (iv (aR D x e) tp (.bool (c||r))) w'):OW P n ops K l e w:=by
 rw[<-List.take_append_drop m l]
 cases c with
 |true=>
  have h:=h1 rfl
  rw[uQ ht] at h
  refine wy h λe' w' ⟨ha,hp,hj⟩=>?_
  have:=k e' w' hj
  rw[x6 ha,Bool.true_or,uQ hp] at this
  exact this
 |false=>
  have h:=h0 rfl
  rw[uQ ht] at h
  refine wy h λe' w' ⟨ha,hp,hj⟩=>?_
  have:=k e' w' hj
  rw[x6 ha,Bool.false_or,uQ hp] at this
  exact this
theorem Zy {a:List UInt8} (hT:P.underlying T=some .string) (hg:gate ops e g=true) (hd:cC n dst=true) (hx:ev e x=str a) 
  (k:OW P n ops K rest (bY e dst (.int .i64 (a.length:Nat))) w):OW P n ops K (⟨dst,.call {callee:=.builtin .len,args:=#[x],argTypes:=#[T]},ty,pos,after,g⟩::rest) e w:=
 Zr hT hg hd hx (by simp[ByteArray.size]) k
theorem iT {l:List (Nat×Operand)} (hb:(Instr.build T (l.map λp=>(p.1,ev e p.2)).toArray).run P w= .ok v w) (hg:gate ops e g=true) (hd:cC n dst=true) 
  (k:OW P n ops K rest (bY e dst v) w):OW P n ops K (⟨dst,.build T l.toArray,ty,pos,after,g⟩::rest) e w:=
 fA hg hd (by simp only[execOp,List.map_toArray,Sem.run_bind,hb];rfl) k
end
theorem fB {e:Env} {ty:Nat} {T:TypeId} (hA:sD P ty=true) (jX:TI P ty sz bytes z) (he:e t= .pointer (some ⟨b,0,none⟩)) (hb:aL w b vs.toArray T) (hl:vs.length=sz):
  QW P e t ty (.agg vs.toArray) w:=by
 refine⟨⟨b,0,none⟩,he,?_⟩
 have:=run_loadCells_list (P:=P) w ⟨b,0,none⟩ vs (λj v hv=>by rw[wu];exact hb.all j v hv)
 rw[hl] at this
 simp[loadVar,Q2 hA,jX.tL,this]
def zZ:Nat->List Value->List (Nat×Value)
 |_,[]=>[]
 |k,v::l=>(k,v)::zZ (k+1) l
theorem mg {e e':Env} {q:Prop} (h2:p) (h3:q) (h:eF D e e':=by repeat(first|with_reducible exact x5|refine IY rfl ?_|refine LR rfl ?_)):eF D e e'∧p∧q:=⟨h,h2,h3⟩
theorem dn {q r:Prop} (h1:p) (h2:q) (h3:r:=by first|exact rh|exact x5):p∧q∧r:=⟨h1,h2,h3⟩
def pO (F:List (Value->World->Prop)) (i:Nat):Value->World->Prop:=F.getD i (λ_ _=>True)
def F3 (F:List (Value->World->Prop)) (vs:Nat->Value) (w:World):List Nat->Prop
 |[]=>True
 |[j]=>pO F j (vs j) w
 |j::r=>pO F j (vs j) w∧F3 F vs w r
theorem Zz {vs:Nat->Value}:∀{l:List Nat},(∀j,j∈l->pO F j (vs j) w)->F3 F vs w l:=by intro x;induction x<;>grind [pO,F3]
def tM (ds:List Nat) (vs:Nat->Value):List Nat->List (Nat×Value)
 |[]=>[]
 |j::r=>(ds.getD j 0,vs j)::tM ds vs r
structure Kept (KK:World->World->Prop):Prop where
 refl:∀w,KK w w
 trans:∀{a b c},KK a b->KK b c->KK a c
 of:∀{a b},ak [] a b->KK a b
theorem bF:Kept (ak []):=⟨ak.refl _,ak.trans,id⟩
def KS (b:Nat) (cs:List Value) (T:TypeId) (w w':World):Prop:=ak [b] w w'∧(aL w b cs.toArray T->aL w' b cs.toArray T)∧
 ((∃us:List Value,us.length=cs.length∧aL w b us.toArray T)->∃us:List Value,us.length=cs.length∧aL w' b us.toArray T)
theorem cD (b:Nat) (cs:List Value) (T:TypeId):Kept (KS b cs T):=
 ⟨λ_=>⟨ak.refl _ _,id,id⟩,λh k=>⟨h.1.trans k.1,λx=>k.2.1 (h.2.1 x),λx=>k.2.2 (h.2.2 x)⟩,
  λh=>⟨h.any,λx=>x.aG h sm,fun⟨us,hl,x⟩=>⟨us,hl,x.aG h sm⟩⟩⟩
def tN (KK:World->World->Prop):List (Value->World->Prop)->Prop
 |[]=>True
 |f::r=>(∀v w w',f v w->KK w w'->f v w')∧tN KK r
theorem Q7 {KK:World->World->Prop}:∀{F:List (Value->World->Prop)},tN KK F->∀f,f∈F->∀v w w',f v w->KK w w'->f v w'
 |[],_,_,h=>by cases h
 |g::r,h,f,hf=>by
  rcases mC.1 hf with rfl|hf
  ·exact h.1
  ·exact Q7 h.2 f hf
theorem cR {KK:World->World->Prop} {V:Value} (h:tN KK r):tN KK ((λv _=>v=V)::r):=⟨λ_ _ _ h _=>h,h⟩
theorem Cf {KK:World->World->Prop} {c:Prop} {V:Value} (h:tN KK r):tN KK ((λv _=>c->v=V)::r):=⟨λ_ _ _ h _=>h,h⟩
theorem Ea {cs:List Value} {T:TypeId} (h:tN (KS b cs T) r):tN (KS b cs T) ((λ_ w=>aL w b cs.toArray T)::r):=⟨λ_ _ _ h k=>k.2.1 h,h⟩
theorem mL {KK:World->World->Prop} {f:Value->World->Prop} (hf:∀v w w',f v w->KK w w'->f v w') (h:tN KK r):tN KK (f::r):=⟨hf,h⟩
theorem rh {e:Env}:eF [d] e (bY e (some d) v):=IY sm x5
def LV (KK:World->World->Prop) (P:Program) (n:Nat) (ops:Array Oper) (W ds:List Nat) (F:List (Value->World->Prop)) (e0:Env) (w0:World) (k:Nat) (o:Oper) (deps:List Nat):Prop:=
 ∀(x:Env) (vs:Nat->Value) (w:World) (e:Env),KK w0 w->F3 F vs w deps->e=aS (aR W x e0) (tM ds vs deps)->
  OW P n ops (λe' w'=>KK w w'∧pO F k (e' (ds.getD k 0)) w'∧eF [ds.getD k 0] e e') [o] e w
def Cg (KK:World->World->Prop) (P:Program) (n:Nat) (ops:Array Oper) (W ds:List Nat) (F:List (Value->World->Prop)) (e0:Env) (w0:World):Nat->List Oper->List (List Nat)->Prop
 |_,[],_=>True
 |_,_::_,[]=>True
 |k,o::l,d::r=>LV KK P n ops W ds F e0 w0 k o d∧Cg KK P n ops W ds F e0 w0 (k+1) l r
def waits (o:Oper) (j:Nat):Bool:=o.after.toList.any λe=>Region.binds .any e&&e.on==j
def uR (l:List Oper) (m:Nat) (W ds:List Nat) (deps:List (List Nat)):Bool:=
 decide (m<=l.length)&&decide (ds.length=m)&&decide (deps.length=m)&&decide (ds.Nodup)&&
 (List.range l.length).all (λk=>match l[k]? with
  |some o=>o.after.toList.all (λe=>!Region.binds .any e||decide (e.on<k))&&
   (if k<m then W.contains (ds.getD k 0)&&(deps.getD k []).all (λj=>waits o j&&decide (j<m)) else(List.range k).all (λj=>(List.range (k+1)).any λx=>decide (j<x)&&(match l[x]? with|some o'=>waits o' j|none=>false)))
  |none=>false)
theorem bV {KK:World->World->Prop} {P:Program} {n:Nat} {ops:Array Oper} {W ds:List Nat} {F:List (Value->World->Prop)} {e0:Env} {w0:World} {k:Nat} {o:Oper} {l:List Oper} {d:List Nat} {r:List (List Nat)} 
  (h:LV KK P n ops W ds F e0 w0 k o d) (hr:Cg KK P n ops W ds F e0 w0 (k+1) l r):Cg KK P n ops W ds F e0 w0 k (o::l) (d::r):=⟨h,hr⟩
theorem Q8 {KK:World->World->Prop} {W ds:List Nat} {e0:Env}:∀(l:List Oper) (deps:List (List Nat)) (k:Nat),Cg KK P n ops W ds F e0 w0 k l deps->
  ∀(i:Nat) (o:Oper) (d:List Nat),l[i]?=some o->deps[i]?=some d->LV KK P n ops W ds F e0 w0 (k+i) o d
 |[],_,_,_,i,o,d,hi,_=>by simp at hi
 |_::_,[],_,_,i,o,d,_,hd=>by simp at hd
 |o'::l,d'::r,k,h,i,o,d,hi,hd=>by
  cases i with
  |zero=>simp at hi hd;subst hi;subst hd;exact h.1
  |succ i=>
   have:=Q8 l r (k+1) h.2 i o d (by simpa using hi) (by simpa using hd)
   rw[show k+1+i=k+(i+1) from by omega] at this;exact this
theorem F4 {e:Env}:∀{l:List (Nat×Value)},(∀p,p∈l->e p.1=p.2)->aS e l=e
 |[],_=>rfl
 |p::r,h=>by
  simp only[aS,F4 (e:=e) (l:=r) (λq hq=>h q (by simp[hq]))]
  exact uQ (h p sm)
theorem ZA {KK:World->World->Prop} (hF:∀f,f∈F->∀v w w',f v w->KK w w'->f v w') (i:Nat) (h:pO F i v w) (k:KK w w'):pO F i v w':=by
 unfold pO at*
 rw[gG] at*
 cases hf:F[i]? with
 |none=>simp
 |some f=>
  simp only[hf,Option.getD_some] at h⊢
  exact hF f (List.mem_of_getElem? hf) v w w' h k
section
variable {P:Program} {n:Nat} {l:List Oper} {m:Nat} {W ds:List Nat} {deps:List (List Nat)}
theorem Eb (hB:uR l m W ds deps=true):m<=l.length∧ds.length=m∧deps.length=m∧ds.Nodup∧
  ∀k o,l[k]?=some o->(∀e∈o.after,Region.binds .any e=true->e.on<k)∧
   (k<m->W.contains (ds.getD k 0)=true∧∀j∈deps.getD k [],waits o j=true∧j<m)∧(m<=k->∀j,j<k->∃x o',j<x∧x<=k∧l[x]?=some o'∧waits o' j=true):=by
 simp only[uR,aE,dE] at hB
 obtain⟨⟨⟨⟨h1,h2⟩,h3⟩,h4⟩,h5⟩:=hB
 refine⟨h1,h2,h3,h4,λk o hk=>?_⟩
 have gD:k<l.length:=(List.getElem?_eq_some_iff.1 hk).1
 have:=List.all_eq_true.1 h5 k (List.mem_range.2 gD)
 simp only[hk,aE] at this
 obtain⟨ha,hb⟩:=this
 refine⟨λe he uS=>?_,λet=>?_,λhle j hj=>?_⟩
 ·have:=List.all_eq_true.1 ha e (by simpa using he)
  simpa[uS] using this
 ·rw[iP et] at hb
  simp only[aE,List.all_eq_true,dE] at hb
  exact⟨hb.1,λj hj=>hb.2 j hj⟩
 ·rw[iN om] at hb
  have:=List.all_eq_true.1 hb j (List.mem_range.2 hj)
  obtain⟨x,hx,eA⟩:=List.any_eq_true.1 this
  rw[List.mem_range] at hx
  simp only[aE,dE] at eA
  cases ho:l[x]? with
  |none=>rw[ho] at eA;cases eA.2
  |some o'=>rw[ho] at eA;exact⟨x,o',eA.1,om,ho,eA.2⟩
theorem LW {o:Oper} (h:waits o j=true):∃e∈o.after,Region.binds .any e=true∧e.on=j:=by grind [waits]
def I0 (l:List Oper) (listed:Array Bool):Prop:=∀j o,l[j]?=some o->listed.getD j false=true->∀e∈o.after,Region.binds .any e=true->listed.getD e.on false=true
theorem LX {k:Nat} {o:Oper} {listed:Array Bool} (ot:I0 l listed) (ho:l[k]?=some o) (hr:∀e∈o.after,Region.binds .any e=true->listed.getD e.on false=true) 
  (hw:∀j,j<k->∃x o',j<x∧x<=k∧l[x]?=some o'∧waits o' j=true):∀d j,j+d=k->0<d->listed.getD j false=true:=by
 intro d
 induction d using Nat.strongRecOn with
 |_ d ih=>
  intro j hj hd
  obtain⟨x,o',h1,h2,h3,h4⟩:=hw j om
  obtain⟨e,he,hb,kK⟩:=LW h4
  rcases Nat.lt_or_ge x k with hx|hx
  ·have:=ih (k-x) om x om om
   rw[<-kK];exact ot x o' h3 this e he hb
  ·have ZB:x=k:=by omega
   subst ZB
   rw[ho] at h3;cases h3
   rw[<-kK];exact hr e he hb
theorem I1 (hB:uR l m W ds deps=true) {Q:Exit->Act->World->Prop}:∀(fuel k:Nat) (listed:Array Bool) (a:Act) (w:World),m<=k->k+fuel=l.length->listed.size=l.length->
  (∀j,j<l.length->(listed.getD j true=false↔k<=j))->wpList P l.toArray Q (l.drop k) a w->wpAny P .any l.toArray Q fuel listed a w:=by
 obtain⟨_,_,_,_,lW⟩:=Eb hB
 intro fuel
 induction fuel with
 |zero=>
  intro k listed a w Ch hk hs hl h
  have gD:k=l.length:=by omega
  refine⟨?_,?_⟩
  ·cases hr:Region.ready .any l.toArray listed with
   |nil=>rfl
   |cons i is=>
    have hi:i∈Region.ready .any l.toArray listed:=by rw[hr];simp
    obtain⟨hu,o,ho,_⟩:=mem_ready.1 hi
    have mG:i<l.length:=by simpa using(Array.getElem?_eq_some_iff.1 ho).1
    have:=(hl i mG).1 hu
    omega
  ·rw[gD,List.drop_length] at h;exact h
 |succ fuel ih=>
  intro k listed a w Ch hk hs hl h
  have gD:k<l.length:=by omega
  obtain⟨o,ho⟩:∃o,l[k]?=some o:=⟨l[k],gE gD⟩
  have Ab:∀j,j<k->listed.getD j false=true:=λj hj=>by
   have h1:¬listed.getD j true=false:=λhh=>by have:=(hl j om).1 hh;omega
   rw[Array.getD_eq_getD_getElem?] at h1⊢
   have:j<listed.size:=by omega
   rw[Array.getElem?_eq_getElem this] at h1⊢
   simpa using h1
  have Q9:k∈Region.ready .any l.toArray listed:=mem_ready.2 ⟨(hl k gD).2 (lR _),o,by simpa using ho,λe he hb=>Ab _ ((lW k o ho).1 e he hb)⟩
  have ZC:∀i,i∈Region.ready .any l.toArray listed->i=k:=λi hi=>by
   obtain⟨hu,oi,LY,cZ⟩:=mem_ready.1 hi
   have mG:i<l.length:=by simpa using(Array.getElem?_eq_some_iff.1 LY).1
   have jO:=(hl i mG).1 hu
   rcases Nat.eq_or_lt_of_le jO with he|et
   ·exact he.symm
   ·have ot:I0 l listed:=λj o ho hj e he hb=>by
     have hjk:j<k:=by
      rcases Nat.lt_or_ge j k with h|h
      ·exact h
      ·have wo:=(List.getElem?_eq_some_iff.1 ho).1
       have h2:=(hl j wo).2 h
       rw[Array.getD_eq_getD_getElem?,Array.getElem?_eq_getElem om] at hj h2
       simp at hj h2
       rw[h2] at hj;cases hj
     have:=(lW j o ho).1 e he hb
     exact Ab _ om
    have:=LX ot (by simpa using LY) cZ ((lW i oi (by simpa using LY)).2.2 om) (i-k) k om om
    have h2:=(hl k gD).2 (lR _)
    rw[Array.getD_eq_getD_getElem?] at this h2
    have Ci:k<listed.size:=by omega
    rw[Array.getElem?_eq_getElem Ci] at this h2
    simp at this h2
    rw[h2] at this;cases this
  refine⟨λhr=>(by rw[hr] at Q9;cases Q9),λi hi=>?_⟩
  have:=ZC i hi
  subst this
  have hd:l.drop i=o::l.drop (i+1):=by
   rw[List.drop_eq_getElem_cons gD]
   congr 1
   exact(List.getElem?_eq_some_iff.1 ho).2
  rw[hd] at h
  have Ac:∀j,j<l.length->((listed.setIfInBounds i true).getD j true=false↔i+1<=j):=λj hj=>by
   by_cases mi:i=j
   ·subst mi
    have:i<listed.size:=by omega
    simp[Array.getD_eq_getD_getElem?,this]
   ·rw[getD_set_ne true mi,hl j hj];omega
  unfold wpOp
  have mM:l.toArray[i]?=some o:=by simpa using ho
  simp only[mM]
  unfold wpList at h
  by_cases hw:Region.wanted o (yielded l.toArray a.tmps)=true
  ·rw[iP hw] at h⊢
   exact h.imp (λh=>Oper.wp_mono (λa' w' h'=>ih (i+1) _ a' w' om om (by simpa using hs) Ac h') h) id
  ·rw[iN hw] at h⊢
   exact ih (i+1) _ _ w om om (by simpa using hs) Ac h
theorem ZD {KK:World->World->Prop} (Cj:Kept KK) {N:Env->World->Prop} {e0:Env} {w0:World} (hB:uR l m W ds deps=true) (hF:∀f,f∈F->∀v w w',f v w->KK w w'->f v w') 
  (hc:Cg KK P n l.toArray W ds F e0 w0 0 (l.take m) deps)
  (tail:∀(x:Env) (vs:Nat->Value) (w:World),KK w0 w->(∀i,i<m->pO F i (vs i) w)->OW P n l.toArray N (l.drop m) (aS (aR W x e0) (tM ds vs (List.range m))) w) (Q:Exit->Act->World->Prop):
  ∀(fuel:Nat) (listed:Array Bool) (e:Env) (a:Act) (w:World),Fits n e a->KK w0 w->eF W e0 e->listed.size=l.length->
   ((List.range l.length).filter λj=>!listed.getD j true).length=fuel->
   (∀j,m<=j->j<l.length->listed.getD j true=false)->(∀j,j<m->listed.getD j true=true->pO F j (e (ds.getD j 0)) w)->I0 l listed->
   wpAny P .any l.toArray (pL n N Q) fuel listed a w:=by
 obtain⟨Ec,Ed,LZ,jg,lW⟩:=Eb hB
 have Ab:∀(listed:Array Bool) (j:Nat),listed.size=l.length->j<l.length->¬listed.getD j true=false->listed.getD j false=true:=λlisted j hs hj h1=>by
  rw[Array.getD_eq_getD_getElem?] at h1⊢
  rw[Array.getElem?_eq_getElem om] at h1⊢
  simpa using h1
 have F5:∀(listed:Array Bool) (j:Nat),listed.size=l.length->j<l.length->listed.getD j false=true->listed.getD j true=true:=λlisted j hs hj h1=>by
  rw[Array.getD_eq_getD_getElem?] at h1⊢
  rw[Array.getElem?_eq_getElem om] at h1⊢
  simpa using h1
 intro fuel
 induction fuel with
 |zero=>
  intro listed e a w hf hk ha hs Ck fP js ot
  have cZ:∀j,j<l.length->listed.getD j true=true:=λj hj=>by
   cases hg:listed.getD j true with
   |true=>rfl
   |false=>
    have:j∈(List.range l.length).filter λj=>!listed.getD j true:=by rw[List.mem_filter,List.mem_range];exact⟨hj,by rw[hg];rfl⟩
    rw[List.length_eq_zero_iff.1 Ck] at this;cases this
  have hm:m=l.length:=by
   rcases Nat.lt_or_ge m l.length with h|h
   ·have:=fP m (lR _) h;rw[cZ m h] at this;cases this
   ·omega
  have ht:=tail e (λi=>e (ds.getD i 0)) w hk (λi hi=>js i hi (cZ i om))
  rw[x6 ha,F4 (by
   intro p hp
   have:∀(r:List Nat),p∈tM ds (λi=>e (ds.getD i 0)) r->e p.1=p.2:=by
    intro r
    induction r with
    |nil=>intro h;cases h
    |cons j r ih=>
     intro h
     rcases mC.1 h with h|h
     ·subst h;rfl
     ·exact ih h
   exact this _ hp)] at ht
  have h2:=ht a hf Q
  exact I1 hB 0 m listed a w (lR _) om hs (λj hj=>⟨λh=>(by rw[cZ j hj] at h;cases h),λh=>om⟩) h2
 |succ fuel ih=>
  intro listed e a w hf hk ha hs Ck fP js ot
  by_cases uT:∀j,j<m->listed.getD j true=true
  ·have ht:=tail e (λi=>e (ds.getD i 0)) w hk (λi hi=>js i hi (uT i hi))
   rw[x6 ha,F4 (by
    intro p hp
    have:∀(r:List Nat),p∈tM ds (λi=>e (ds.getD i 0)) r->e p.1=p.2:=by
     intro r
     induction r with
     |nil=>intro h;cases h
     |cons j r ih=>
      intro h
      rcases mC.1 h with h|h
      ·subst h;rfl
      ·exact ih h
    exact this _ hp)] at ht
   have h2:=ht a hf Q
   have Ad:∀j,j<l.length->(listed.getD j true=false↔m<=j):=λj hj=>by
    constructor
    ·intro h
     rcases Nat.lt_or_ge j m with h'|h'
     ·rw[uT j h'] at h;cases h
     ·exact h'
    ·intro h;exact fP j h hj
   have Ae:m+(fuel+1)=l.length:=by
    rw[<-Ck]
    have:∀k,k<=l.length->m<=k->((List.range k).filter λj=>!listed.getD j true).length=k-m:=by
     intro k
     induction k with
     |zero=>intro _ h;simp
     |succ k ihk=>
      intro gD Ch
      rw[List.range_succ,List.filter_append,lA]
      rcases Nat.lt_or_ge k m with h'|h'
      ·have Ra:k+1=m:=by omega
       have hz:((List.range k).filter λj=>!listed.getD j true)=[]:=by
        rw[List.filter_eq_nil_iff]
        intro j hj
        rw[List.mem_range] at hj
        rw[uT j om];simp
       have e1:(!listed.getD k true)=false:=by rw[uT k h'];rfl
       simp only[hz,List.filter_cons,e1,List.filter_nil,List.length_nil]
       simp;omega
      ·rw[ihk om h']
       have e1:(!listed.getD k true)=true:=by rw[(Ad k om).2 h'];rfl
       simp only[List.filter_cons,e1,List.filter_nil,if_true,lC,List.length_nil]
       omega
    have:=this l.length (lR _) Ec
    omega
   exact I1 hB (fuel+1) m listed a w (lR _) Ae hs Ad h2
  ·have hex:∃j,j<m∧listed.getD j true=false∧∀i,i<j->listed.getD i true=true:=by
    have:∀k,(∃j,j<k∧listed.getD j true=false∧∀i,i<j->listed.getD i true=true)∨∀j,j<k->listed.getD j true=true:=by
     intro k
     induction k with
     |zero=>right;intro j hj;omega
     |succ k ihk=>
      rcases ihk with⟨j,hj,h1,h2⟩|h
      ·exact .inl ⟨j,om,h1,h2⟩
      ·cases hg:listed.getD k true with
       |false=>exact .inl ⟨k,om,hg,h⟩
       |true=>
        right
        intro j hj
        rcases Nat.lt_or_ge j k with h'|h'
        ·exact h j h'
        ·rw[show j=k from by omega];exact hg
    rcases this m with h|h
    ·exact h
    ·exact absurd h uT
   obtain⟨j0,F6,F7,F8⟩:=hex
   obtain⟨o0,F9⟩:∃o,l[j0]?=some o:=⟨l[j0]'om,gE om⟩
   have o4:j0∈Region.ready .any l.toArray listed:=mem_ready.2 ⟨F7,o0,by simpa using F9,λed he hb=>by
    have et:=(lW j0 o0 F9).1 ed he hb
    exact Ab listed _ hs om (by rw[F8 _ et];simp)⟩
   refine⟨λhr=>(by rw[hr] at o4;cases o4),λi hi=>?_⟩
   obtain⟨hu,o,ho,cZ⟩:=mem_ready.1 hi
   have mG:i<l.length:=by simpa using(Array.getElem?_eq_some_iff.1 ho).1
   have mM:l[i]?=some o:=by simpa using ho
   have ri:i<m:=by
    rcases Nat.lt_or_ge i m with h|h
    ·exact h
    ·have:=F5 listed j0 hs om (LX ot mM cZ ((lW i o mM).2.2 h) (i-j0) j0 om om)
     rw[F7] at this;cases this
   obtain⟨hW,Af⟩:=(lW i o mM).2.1 ri
   obtain⟨dp,Ag⟩:∃d,deps[i]?=some d:=⟨deps[i]'om,gE om⟩
   have tO:deps.getD i []=dp:=by rw[gG,Ag];rfl
   rw[tO] at Af
   have iZ:=Q8 (l.take m) deps 0 hc i o dp (by rw[List.getElem?_take,iP ri];exact mM) Ag
   rw[Nat.zero_add] at iZ
   have h1:=iZ e (λj=>e (ds.getD j 0)) w _ hk (Zz λj hj=>by
    obtain⟨ZE,Cl⟩:=Af j hj
    obtain⟨ed,he,hb,uV⟩:=LW ZE
    exact js j Cl (F5 listed j hs om (by rw[<-uV];exact cZ ed he hb))) rfl
   rw[x6 ha,F4 (by
    intro p hp
    have:∀(r:List Nat),p∈tM ds (λi=>e (ds.getD i 0)) r->e p.1=p.2:=by
     intro r
     induction r with
     |nil=>intro h;cases h
     |cons j r ih=>
      intro h
      rcases mC.1 h with h|h
      ·subst h;rfl
      ·exact ih h
    exact this _ hp)] at h1
   have h2:=h1 a hf Q
   have next:∀(a':Act) (w':World),pL n (λe' w'=>KK w w'∧pO F i (e' (ds.getD i 0)) w'∧eF [ds.getD i 0] e e') Q .normal a' w'->
     wpAny P .any l.toArray (pL n N Q) fuel (listed.setIfInBounds i true) a' w':=λa' w' hq=>by
    obtain⟨e',Ma,pP,Mb,qz⟩:=hq
    refine ih _ e' a' w' Ma (Cj.trans hk pP) ?_ (by simpa using hs) ?_ ?_ ?_ ?_
    ·intro t ht
     have dY:t≠ds.getD i 0:=λhe=>by rw[he,hW] at ht;cases ht
     rw[qz t (by simpa using dY)];exact ha t ht
    ·have Ae:∀k,k<=l.length->((List.range k).filter λj=>!(listed.setIfInBounds i true).getD j true).length+(if i<k then 1 else 0)=((List.range k).filter λj=>!listed.getD j true).length:=by
      intro k
      induction k with
      |zero=>simp
      |succ k ihk=>
       intro gD
       have uX:=ihk om
       rw[List.range_succ,List.filter_append,lA,List.filter_append,lA]
       by_cases uY:i=k
       ·subst uY
        rw[iN om] at uX
        have et:i<listed.size:=by omega
        have e1:(listed.setIfInBounds i true).getD i true=true:=by simp[Array.getD_eq_getD_getElem?,et]
        rw[iP om]
        simp only[List.filter_cons,e1,hu,List.filter_nil,Bool.not_true,Bool.not_false,if_true,Bool.false_eq_true,if_false,lC,List.length_nil]
        omega
       ·have e1:(listed.setIfInBounds i true).getD k true=listed.getD k true:=getD_set_ne true uY
        simp only[List.filter_cons,e1,List.filter_nil]
        have ZF:(i<k+1)↔(i<k):=by omega
        by_cases pM:i<k
        ·have c1:i<k+1:=by omega
         rw[iP pM] at uX;rw[iP c1];split<;>simp only[lC,List.length_nil]<;>omega
        ·have c1:¬i<k+1:=by omega
         rw[iN pM] at uX;rw[iN c1];split<;>simp only[lC,List.length_nil]<;>omega
     have:=Ae l.length (lR _)
     rw[iP mG] at this
     omega
    ·intro j Mc wo
     rw[getD_set_ne true om];exact fP j Mc wo
    ·intro j Cl hj
     by_cases mi:i=j
     ·subst mi;exact Mb
     ·rw[getD_set_ne true mi] at hj
      have dY:ds.getD j 0≠ds.getD i 0:=by
       rw[gG,gG,gE om,gE om]
       simp only[Option.getD_some]
       intro he
       exact mi ((List.getElem_inj jg).1 he.symm)
      rw[qz _ (by simpa using dY)]
      exact ZA hF j (js j Cl hj) pP
    ·intro j oj Cm hj e2 kL aO
     have wA:∀x,listed.getD x false=true->(listed.setIfInBounds i true).getD x false=true:=λx hx=>by
      by_cases Ga:i=x
      ·subst Ga
       have:i<listed.size:=by omega
       simp[Array.getD_eq_getD_getElem?,this]
      ·rw[getD_set_ne false Ga];exact hx
     by_cases mi:i=j
     ·subst mi
      rw[mM] at Cm;cases Cm
      exact wA _ (cZ e2 kL aO)
     ·rw[getD_set_ne false mi] at hj
      exact wA _ (ot j oj Cm hj e2 kL aO)
   unfold wpOp
   simp only[ho]
   unfold wpList at h2
   by_cases hw:Region.wanted o (yielded l.toArray a.tmps)=true
   ·rw[iP hw] at h2⊢
    rcases h2 with h2|⟨h2,h3⟩
    ·refine .inl (Oper.LS (λa' w' h'=>next a' w' h') (λ_ _ _ h=>h) (fun⟨a,w,hq⟩=>⟨a,w,hq⟩) h2)
    ·exact .inr ⟨h2,by obtain⟨a',w',hq⟩:=h3;exact⟨a',w',hq⟩⟩
   ·rw[iN hw] at h2⊢
    exact next _ _ h2
theorem sE {N R:Env->World->Prop} {X:Nat->Env->World->Prop} {id:Nat} {e0:Env} {w0:World} (hm:P.follows .mixedOrders=true) {KK:World->World->Prop} (Cj:Kept KK) (m:Nat) (W ds:List Nat) (deps:List (List Nat)) (F:List (Value->World->Prop)) 
  (hB:uR l m W ds deps=true) (hF:tN KK F)
  (hc:∀wd,KK w0 wd->Cg KK P n l.toArray W ds F e0 wd 0 (l.take m) deps)
  (tail:∀(x:Env) (vs:Nat->Value) (w:World),KK w0 w->(∀i,i<m->pO F i (vs i) w)->OW P n l.toArray N (l.drop m) (aS (aR W x e0) (tM ds vs (List.range m))) w):
  CW P n (.region id l.toArray true) N R X e0 w0:=λa ha=>by
 refine wp_region_any hm ?_
 have gq:ak [] w0 {w0 with drawn:=w0.drawn+1}:=ak.drew _ _
 have:=ZD Cj (N:=N) (e0:=e0) (w0:={w0 with drawn:=w0.drawn+1}) hB (Q7 hF) (hc _ (Cj.of gq)) (λx vs w hk=>tail x vs w (Cj.trans (Cj.of gq) hk)) (lu n N R X) l.length (Array.replicate l.length false) e0 a _ ha (Cj.refl _) x5 sm
  (by
   have:((List.range l.length).filter λj=>!(Array.replicate l.length false).getD j true)=List.range l.length:=by
    rw[List.filter_eq_self]
    intro j hj
    rw[List.mem_range] at hj
    simp[Array.getD_eq_getD_getElem?,hj]
   rw[this];simp)
  (by intro j _ hj;simp[Array.getD_eq_getD_getElem?,hj])
  (by
   intro j hj h
   have:=(Eb hB).1
   have pQ:j<l.length:=by omega
   simp[Array.getD_eq_getD_getElem?,pQ] at h)
  (by
   intro j o ho hj
   have pQ:j<l.length:=(List.getElem?_eq_some_iff.1 ho).1
   simp[Array.getD_eq_getD_getElem?,pQ] at hj)
 have e1:pL n N (lu n N R X)=lu n N R X:=by
  funext x a w;cases x<;>rfl
 rw[e1] at this
 simpa using this
end
abbrev aj:=List UInt8
inductive aq where
 |mk (av:aj) (ai:List aq)
def aq.av:aq->aj| .mk a _=>a
def aq.ai:aq->List aq| .mk _ p=>p
def eV (c:UInt8):Bool:=(97<=c&&c<=122)||(48<=c&&c<=57)||c==43||c==45||c==42||c==62
theorem Rb (c:UInt8):((((((decide ((97:Int)<=c.toNat)&&decide ((c.toNat:Int)<=122))||(decide ((48:Int)<=c.toNat)&&decide ((c.toNat:Int)<=57)))||decide ((c.toNat:Int)=43))||decide ((c.toNat:Int)=45))||decide ((c.toNat:Int)=42))||decide ((c.toNat:Int)=62))=eV c:=by
 have e1:∀k:UInt8,decide (k<=c)=decide ((k.toNat:Int)<=c.toNat):=λk=>by simp[UInt8.le_iff_toNat_le]
 have e2:∀k:UInt8,decide (c<=k)=decide ((c.toNat:Int)<=k.toNat):=λk=>by simp[UInt8.le_iff_toNat_le]
 have e3:∀k:UInt8,(c==k)=decide ((c.toNat:Int)=k.toNat):=λk=>by
  rw[Bool.eq_iff_iff];simp[<-UInt8.toNat_inj];omega
 unfold eV
 rw[e1,e2,e1,e2,e3,e3,e3,e3]
 rfl
def iK (rd:aj->Option (aq×aj)):Nat->aj->Option (List aq×aj)
 |0,_=>none
 |n+1,s=>match rd s with
  |none=>none
  |some (t,r)=>match r with
   |[]=>none
   |c::r'=>if c=41 then some ([t],r') else if c=32 then(iK rd n r').map λp=>(t::p.1,p.2) else none
def eE:Nat->aj->Option (aq×aj)
 |0,s=>match s with
  |[]=>none
  |c::_=>if c=40 then none else if s.takeWhile eV=[] then none else some (.mk (s.takeWhile eV) [],s.dropWhile eV)
 |d+1,s=>match s with
  |[]=>none
  |c::r=>if c=40 then(iK (eE d) (r.length+1) r).map λp=>(.mk [] p.1,p.2)
   else if s.takeWhile eV=[] then none else some (.mk (s.takeWhile eV) [],s.dropWhile eV)
def I2 (rd:aj->Option (aq×aj)):Prop:=∀s t r,rd s=some (t,r)->∃k,0<k∧k<=s.length∧r=s.drop k
theorem Gb (p:UInt8->Bool):∀s:aj,s.dropWhile p=s.drop (s.takeWhile p).length:=by intro x;induction x<;>grind [List.dropWhile,List.takeWhile]
theorem Gc (p:UInt8->Bool) (s:aj):(s.takeWhile p).length<=s.length:=by induction s<;>grind [List.takeWhile]
theorem Rc {rd:aj->Option (aq×aj)} (eW:I2 rd):∀n s ts r,iK rd n s=some (ts,r)->∃k,0<k∧k<=s.length∧r=s.drop k∧ts.length<=k
 |0,_,_,_,h=>by simp[iK] at h
 |n+1,s,ts,r,h=>by
  unfold iK at h
  cases hr:rd s with
  |none=>simp[hr] at h
  |some p=>
   obtain⟨t,r1⟩:=p
   obtain⟨k,gq,gD,rfl⟩:=eW s t r1 hr
   simp only[hr] at h
   cases hd:s.drop k with
   |nil=>simp[hd] at h
   |cons c r'=>
    simp only[hd] at h
    have rV:r'=s.drop (k+1):=by rw[<-List.drop_drop,hd];rfl
    have ZG:k+1<=s.length:=by
     have:=congrArg List.length hd
     simp at this;omega
    by_cases h1:c=41
    ·rw[iP h1] at h
     simp at h
     exact⟨k+1,om,ZG,by rw[<-h.2,rV],by rw[<-h.1];simp⟩
    ·rw[iN h1] at h
     by_cases h2:c=32
     ·rw[iP h2] at h
      cases hp:iK rd n r' with
      |none=>simp[hp] at h
      |some q=>
       obtain⟨ts',r''⟩:=q
       simp[hp] at h
       obtain⟨k',ZH,ZI,uZ,ou⟩:=Rc eW n r' ts' r'' hp
       refine⟨k+1+k',om,?_,?_,?_⟩
       ·have:=congrArg List.length rV
        simp at this;omega
       ·rw[<-h.2,uZ,rV,List.drop_drop]
       ·rw[<-h.1];simp;omega
     ·rw[iN h2] at h;cases h
theorem I3:∀d,I2 (eE d)
 |0,s,t,r,h=>by
  cases s with
  |nil=>simp[eE] at h
  |cons c s=>
   simp only[eE] at h
   by_cases h1:c=40
   ·rw[iP h1] at h;cases h
   ·rw[iN h1] at h
    by_cases h2:(c::s).takeWhile eV=[]
    ·rw[iP h2] at h;cases h
    ·rw[iN h2] at h
     simp only[Option.some.injEq,Prod.mk.injEq] at h
     refine⟨((c::s).takeWhile eV).length,?_,Gc _ _,by rw[<-h.2,Gb]⟩
     exact List.length_pos_iff.2 h2
 |d+1,s,t,r,h=>by
  cases s with
  |nil=>simp[eE] at h
  |cons c s=>
   simp only[eE] at h
   by_cases h1:c=40
   ·rw[iP h1] at h
    cases hp:iK (eE d) (s.length+1) s with
    |none=>simp[hp] at h
    |some q=>
     obtain⟨ts',r''⟩:=q
     simp[hp] at h
     obtain⟨k',ZH,ZI,uZ,_⟩:=Rc (I3 d) _ s ts' r'' hp
     exact⟨k'+1,om,by simp;omega,by rw[<-h.2,uZ];rfl⟩
   ·rw[iN h1] at h
    by_cases h2:(c::s).takeWhile eV=[]
    ·rw[iP h2] at h;cases h
    ·rw[iN h2] at h
     simp only[Option.some.injEq,Prod.mk.injEq] at h
     refine⟨((c::s).takeWhile eV).length,?_,Gc _ _,by rw[<-h.2,Gb]⟩
     exact List.length_pos_iff.2 h2
theorem Rd {rd:aj->Option (aq×aj)} (eW:I2 rd):∀n m s,s.length<n->s.length<m->iK rd n s=iK rd m s
 |0,_,_,h,_=>by omega
 |_+1,0,_,_,h=>by omega
 |n+1,m+1,s,hn,hm=>by
  unfold iK
  cases hr:rd s with
  |none=>rfl
  |some p=>
   obtain⟨t,r1⟩:=p
   obtain⟨k,gq,gD,rfl⟩:=eW s t r1 hr
   simp only
   cases hd:s.drop k with
   |nil=>rfl
   |cons c r'=>
    simp only
    have hl:r'.length+1+k=s.length:=by
     have:=congrArg List.length hd
     simp at this;omega
    rw[Rd eW n m r' om om]
def rT (d:Nat) (s:aj):Option (aq×aj):=match d with
 |0=>none
 |d+1=>eE d s
theorem Md:∀d,I2 (rT d)
 |0=>λs t r h=>by simp[rT] at h
 |d+1=>I3 d
def mN (d:Nat) (s:aj):Option (List aq×aj):=iK (rT d) (s.length+1) s
theorem Gd (d:Nat) (s:aj):mN d s=match rT d s with
  |none=>none
  |some (t,r)=>match r with
   |[]=>none
   |c::r'=>if c=41 then some ([t],r') else if c=32 then(mN d r').map λp=>(t::p.1,p.2) else none:=by
 unfold mN
 conv=>lhs;unfold iK
 cases hr:rT d s with
 |none=>rfl
 |some p=>
  obtain⟨t,r1⟩:=p
  obtain⟨k,gq,gD,rfl⟩:=Md d s t r1 hr
  simp only
  cases hd:s.drop k with
  |nil=>rfl
  |cons c r'=>
   simp only
   have hl:r'.length+1+k=s.length:=by
    have:=congrArg List.length hd
    simp at this;omega
   rw[Rd (Md d) s.length (r'.length+1) r' om om]
theorem ZJ:∀n s,iK (rT 0) n s=none
 |0,_=>rfl
 |n+1,s=>by simp[iK,rT]
theorem Ee (d:Nat) (r:aj):eE d (40::r)=(mN d r).map λp=>(.mk [] p.1,p.2):=by
 cases d with
 |zero=>simp[eE,mN,ZJ]
 |succ d=>simp[eE,mN];rfl
theorem Ge (d:Nat) (c:UInt8) (r:aj) (h:c≠40):eE d (c::r)=if(c::r).takeWhile eV=[] then none else some (.mk ((c::r).takeWhile eV) [],(c::r).dropWhile eV):=by
 cases d<;>simp[eE,h]
theorem Re (d:Nat):eE d []=none:=by cases d<;>rfl
theorem drop_cons {α:Type} {s:List α} {c:α} (h:s[i]?=some c):s.drop i=c::s.drop (i+1):=by grind [List.getElem?_eq_some_iff,List.drop_eq_getElem_cons]
theorem Rf (p:UInt8->Bool):∀(s:aj) (k:Nat),k<=(s.takeWhile p).length->(k<(s.takeWhile p).length↔k<s.length∧p (s.getD k 0)=true):=by intro x;induction x<;>grind [List.takeWhile,lC,List.getD_cons_succ]
theorem jt {s:aj} {k:Nat} (h:k<s.length):s[k]?=some (s.getD k 0):=by grind
theorem I4 (p:UInt8->Bool) (s:aj):s.take (s.takeWhile p).length=s.takeWhile p:=by induction s<;>grind [List.takeWhile]
theorem ZK (s:aj) (i k:Nat):(s.drop i).getD k 0=s.getD (i+k) 0:=by grind
theorem ZL (s:aj) {k:Nat} (uY:i<=k) (h:k-i<=((s.drop i).takeWhile eV).length):k-i<((s.drop i).takeWhile eV).length↔k<s.length∧eV (s.getD k 0)=true:=by grind [Rf,ZK]
def Cn (n:Nat) (o:Option (aq×aj)) (t:aq) (en:Int):Prop:=match o with
 |some (t',r)=>t=t'∧en=((n-r.length:Nat):Int)
 |none=>en= -1
theorem ZM {s:aj} {k:Nat} {t:aq} {en:Int} (hm:Cn s.length (rT d (s.drop k)) t en) (he:en<0∨(s.length:Int)<=en) (hs:0<s.length):mN d (s.drop k)=none:=by grind [Gd,Cn,rT]
theorem ZN {s:aj} {k:Nat} {t:aq} {en:Int} (hm:Cn s.length (rT d (s.drop k)) t en) (h0:0<=en) (h1:en<s.length):
  ∃m:Nat,en=m∧k<m∧m<s.length∧mN d (s.drop k)=(if s.getD m 0=41 then some ([t],s.drop (m+1)) else if s.getD m 0=32 then(mN d (s.drop (m+1))).map λp=>(t::p.1,p.2) else none):=by
 rw[Gd]
 unfold Cn at hm
 cases hr:rT d (s.drop k) with
 |none=>rw[hr] at hm;omega
 |some p=>
  obtain⟨t',r⟩:=p
  rw[hr] at hm
  obtain⟨rfl,h2⟩:=hm
  obtain⟨j,F6,wo,rfl⟩:=Md d _ _ _ hr
  rw[List.length_drop] at wo
  rw[List.drop_drop,List.length_drop] at h2
  have et:k+j<s.length:=by omega
  refine⟨k+j,om,om,et,?_⟩
  simp only[List.drop_drop]
  rw[drop_cons (jt et)]
theorem map_append {o:Option (List aq×aj)} {a:List aq} {t:aq}:(o.map λp=>(t::p.1,p.2)).map (λp=>(a++p.1,p.2))=o.map λp=>((a++[t])++p.1,p.2):=by
 cases o<;>simp
def bA (s:aj):Option aq:=
 if 12000<s.length then none else match eE 60 s with
  |some (t,[])=>some t
  |_=>none
theorem ZO {s:aj} {t:aq} {en:Int} (hl:s.length<=12000) (hm:Cn s.length (rT 61 (s.drop 0)) t en):decide (en=(s.length:Int))=(bA s).isSome∧∀t',bA s=some t'->t=t':=by
 have e:rT 61 (s.drop 0)=eE 60 s:=rfl
 rw[e] at hm
 unfold Cn at hm
 unfold bA
 rw[iN om]
 cases hr:eE 60 s with
 |none=>
  rw[hr] at hm
  refine⟨?_,λt' h=>by cases h⟩
  simp only[Option.isSome_none,decide_eq_false_iff_not]
  simp only at hm;omega
 |some p=>
  obtain⟨t',r⟩:=p
  rw[hr] at hm
  obtain⟨rfl,h2⟩:=hm
  obtain⟨k,gq,gD,ZP⟩:=I3 60 s _ _ hr
  cases r with
  |nil=>
   refine⟨?_,λt' h=>by simpa using h⟩
   simp at h2⊢;exact h2
  |cons c r'=>
   refine⟨?_,λt' h=>by cases h⟩
   have hlen:=congrArg List.length ZP
   simp only[lC,List.length_drop] at hlen h2
   simp only[Option.isSome_none,decide_eq_false_iff_not]
   omega
mutual
def aq.text:aq->aj
 | .mk a ps=>if a=[] then 40::(kA ps++[41]) else a
def kA:List aq->aj
 |[]=>[]
 |t::ts=>match ts with
  |[]=>t.text
  |_::_=>t.text++32::kA ts
end
mutual
def aq.enc:aq->List C
 | .mk a ps=>[.val (str a),.sl 2 (cQ ps)]
def cQ:List aq->List (List C)
 |[]=>[]
 |t::ts=>t.enc::cQ ts
end
theorem yb:∀ps,cQ ps=ps.map aq.enc:=by intro x;induction x<;>grind [cQ]
theorem gK (ps:List aq):(cQ ps).length=ps.length:=by simp[yb]
theorem o5:∀t:aq,t.enc.length=2
 | .mk _ _=>by simp[aq.enc]
theorem Me (ps:List aq):∀row,row∈cQ ps->row.length=2:=by grind [yb,o5]
theorem Mf (a b:List aq):cQ (a++b)=cQ a++cQ b:=by simp[yb]
theorem Mg {ps:List aq} {t:aq} (h:ps[i]?=some t):(cQ ps)[i]?=some t.enc:=by grind [yb]
theorem Co (ps:List aq) (i:Nat):cQ (ps.drop i)=(cQ ps).drop i:=by simp[yb,List.map_drop]
def bh (L:List Nat) (w:World) (v:Value) (t:aq):Prop:=jW L w v t.enc
theorem bh.ext {t:aq} (h:bh L w v t) (k:ak [] w w'):bh L w' v t:=jW.ext h k
def cX (L:List Nat) (w:World) (v:Value) (ts:List aq):Prop:=ck L w v (.sl 2 (cQ ts))
theorem cX.ext {t:List aq} (h:cX L w v t) (k:ak [] w w'):cX L w' v t:=ck.ext h k
theorem cS {t:aq} (h:bh L w v t):∃a n c,v= .agg #[str t.av,.slice a n c]∧n=t.ai.length∧cX L w (.slice a n c) t.ai:=by
 obtain⟨vs,rfl,hr⟩:=h
 cases t with
 |mk at_ ps=>
  rw[aq.enc] at hr
  match vs,hr with
  |[v0,v1],hr=>
   obtain⟨h0,h1,_⟩:=hr
   cases h0
   obtain⟨a,c,rfl,hc⟩:=rS h1
   exact⟨a,_,c,rfl,gK ps,h1⟩
  |[],hr=>exact hr.elim
  |[_],hr=>exact hr.2.elim
  |_::_::_::_,hr=>exact hr.2.2.elim
theorem km {a:aj} {ps:List aq} (h:cX L w v ps):bh L w (.agg #[str a,v]) (.mk a ps):=
 ⟨[str a,v],rfl,by rw[aq.enc];exact⟨.val _,h,trivial⟩⟩
theorem jh {t:aq} (h:cX L w v t.ai):bh L w (.agg #[str t.av,v]) t:=by
 cases t;exact km h
theorem nM:cX L w (.slice none 0 0) []:=by unfold cX;rw[cQ];exact .nil _ _ _
theorem fC {a:Option Addr} {c:Nat} {ts:List aq} {t:aq} (h:cX L w (.slice a n c) ts) (hi:ts[i]?=some t):
  ∃b off pa pn pc,a=some ⟨b,off,none⟩∧gJ w b (off+i*2) [str t.av,.slice pa pn pc]∧pn=t.ai.length∧cX L w (.slice pa pn pc) t.ai:=by
 obtain⟨b,off,vs,ha,hb,hL,hl,hc,hr⟩:=z8 h (Mg hi)
 obtain⟨pa,pn,pc,he,hn,hp⟩:=cS (t:=t) ⟨vs,rfl,hr⟩
 have hv:vs=[str t.av,.slice pa pn pc]:=by
  have:=congrArg (λv=>match v with|Value.agg x=>x.toList|_=>[]) he
  simpa using this
 subst hv
 exact⟨b,off,pa,pn,pc,ha,hc,hn,hp⟩
theorem aL.aD {cs:Array Value} {T:TypeId} (h:aL w b cs T) (k:ak L w w') (hb:b∉L):aL w' b cs T:=h.aG k hb
theorem ck.aD {c:C} (h:ck L w v c) (k:ak L' w w') (hL:∀x,x∈L'->x∈L):ck L w' v c:=h.aG (k.mono hL)
theorem bh.aD {t:aq} (h:bh L w v t) (k:ak L' w w') (hL:∀x,x∈L'->x∈L):bh L w' v t:=jW.aG h (k.mono hL)
theorem cX.aD {t:List aq} (h:cX L w v t) (k:ak L' w w') (hL:∀x,x∈L'->x∈L):cX L w' v t:=ck.aG h (k.mono hL)
theorem gS.aD {T:TypeId} {rows:List (List C)} (h:gS L w T sz v g rows xs) (k:ak L' w w') (hL:∀x,x∈L'->x∈L):gS L w' T sz v g rows xs:=h.aG k hL
theorem ak.aD (h:ak L w0 w) (k:ak L' w w') (hL:∀x,x∈L'->x∈L∨w0.heap.size<=x):ak L w0 w':=h.since k hL
theorem yd:∀x,x∈w.heap.size::L->x∈L∨w.heap.size<=x:=by grind
theorem aL.grow {cs:Array Value} {T:TypeId} (h:aL w b cs T):aL w b cs T:=h
theorem ak.grow (h:ak L w w'):ak L w w':=h
theorem bh.grow {t:aq} (h:bh L w v t):bh (w.heap.size::L) w v t:=jW.fresh h yd
theorem cX.grow {t:List aq} (h:cX L w v t):cX (w.heap.size::L) w v t:=ck.fresh h yd
theorem gS.grow {T:TypeId} {rows:List (List C)} (h:gS L w T sz v g rows xs):gS (w.heap.size::L) w T sz v g rows xs:=h.more yd
theorem gS.alloc {T:TypeId} {rows:List (List C)} (h:gS L w T sz v g rows xs) (k:ak [] w w') (_:w'.heap.size=w.heap.size+1):gS (w.heap.size::L) w' T sz v g rows xs:=h.grow.ext k
theorem bh.ji {x y:Value} {t:aq} (h:bh L w (.agg #[x,y]) t):dd L w [x,y] t.enc:=by
 obtain⟨vs,he,hr⟩:=h
 have hv:vs=[x,y]:=by
  have:=congrArg (λv=>match v with|Value.agg x=>x.toList|_=>[]) he
  simpa using this.symm
 rw[<-hv];exact hr
theorem Rg {A B:List Nat}:∀x,x∈A++(b::B)->x∈b::(A++B):=by grind
section
variable {P:Program} {n:Nat} {ops:Array Oper} {K:Env->World->Prop} {rest:List Oper} {e:Env} {w w':World}
 {dst:Option Nat} {ty:TypeId} {pos:String} {after:Array Edge} {g:Option (Nat×Bool)} {T:TypeId} {x y:Operand}
theorem ZQ {vs:List Value} {U:TypeId} (jX:TI P T 1 bytes z) (hg:gate ops e g=true) (hx:ev e x= .pointer (some ⟨b,o,none⟩)) (hy:ev e y=v) 
  (h1:v.oneCell'=true) (hb:aL w b vs.toArray U) (ho:Nat.blt o vs.length=true)
  (k:∀w',ak [b] w w'->aL w' b (vs.set o v).toArray U->w'.heap.size=w.heap.size->OW P n ops K rest e w'):OW P n ops K (⟨none,.store T x y,ty,pos,after,g⟩::rest) e w:=by grind [LM,Nat.blt_eq]
theorem gF {U:TypeId} (jX:TI P T 1 bytes z) (hx:ev e x= .pointer (some ⟨b,o,none⟩)) (hy:ev e y=v) (h1:v.oneCell'=true) (hb:aL w b vs.toArray U) (ho:Nat.blt o vs.length=true) (k:∀w',ak [b] w w'->aL w' b (vs.set o v).toArray U->w'.heap.size=w.heap.size->OW P n ops K rest e w') (hg:gate ops e g=true:=by rfl):OW P n ops K (⟨none,.store T x y,ty,pos,after,g⟩::rest) e w:=ZQ jX hg hx hy h1 hb ho k
theorem ZR {b:Nat} {vs us:List Value} {U:TypeId} (jX:TI P T sz bytes z) (hg:gate ops e g=true) 
  (hx:ev e x= .pointer (some ⟨b,0,none⟩)) (hy:ev e y= .agg vs.toArray) (hl:Nat.beq vs.length sz=true) (h1:vs.all Value.oneCell'=true) (hb:aL w b us.toArray U) (cG:Nat.beq us.length sz=true)
  (k:∀w',ak [b] w w'->aL w' b vs.toArray U->w'.heap.size=w.heap.size->OW P n ops K rest e w'):OW P n ops K (⟨none,.store T x y,ty,pos,after,g⟩::rest) e w:=by grind [Zp,Nat.eq_of_beq_eq_true,List.all_eq_true]
theorem cu {us:List Value} {U:TypeId} (jX:TI P T sz bytes z) (hx:ev e x= .pointer (some ⟨b,0,none⟩)) (hy:ev e y= .agg vs.toArray) (h1:vs.all Value.oneCell'=true) (hb:aL w b us.toArray U) (cG:Nat.beq us.length sz=true) (k:∀w',ak [b] w w'->aL w' b vs.toArray U->w'.heap.size=w.heap.size->OW P n ops K rest e w') (hg:gate ops e g=true:=by rfl) (hl:Nat.beq vs.length sz=true:=by rfl):OW P n ops K (⟨none,.store T x y,ty,pos,after,g⟩::rest) e w:=ZR jX hg hx hy hl h1 hb cG k
theorem ZS {vs:List Value} {v:Value} (hT:P.underlying T=some (.slice E)) (hE:TI P E sz bytes z) (_hz:z.cells.size=sz) (ov:0<sz) (df:sz<=16777216) 
  (hv:v.cells=vs.toArray) (hl:vs.length=sz):(Instr.buildSlice T 1 #[(0,v)]).run P w= .ok (.slice (some ⟨w.heap.size,0,none⟩) 1 1) (w.alloc (.cells vs.toArray E)):=by
 have h0:¬sz=0:=by omega
 have hb:¬(16777216<sz):=by omega
 have Rh:Instr.fill (λi=>some (i*sz,sz)) ((Array.range (1*sz)).map (z.cells[·%z.cells.size]!)) [(0,v)]=some vs.toArray:=by
  simp only[Instr.fill,Nat.zero_mul,hv,Nat.zero_add]
  rw[iN (by simp[hl])]
  congr 1
  have key:∀(us:List Value) (i:Nat) (pre:List Value) (cs:Array Value),cs.size=pre.length+us.length->cs.toList.take i=pre->i=pre.length->
    ((us.zipIdx i).foldl (fun(cs:Array Value) (p:Value×Nat)=>cs.setIfInBounds (0+p.2) p.1) cs)=(pre++us).toArray:=by
   intro us
   induction us with
   |nil=>
    intro i pre cs hs ht hi
    apply Array.ext'
    simp only[List.zipIdx_nil,List.foldl_nil,List.append_nil]
    rw[<-ht,List.take_of_length_le (by simp at hs⊢;omega)]
   |cons u us ih=>
    intro i pre cs hs ht hi
    rw[List.zipIdx_cons,List.foldl_cons]
    simp only[lC] at hs
    have:=ih (i+1) (pre++[u]) (cs.setIfInBounds (0+i) u) so (by
     rw[Nat.zero_add,Array.toList_setIfInBounds,List.take_add_one,List.getElem?_set_self so,List.take_set_of_le (lR i),ht];simp) so
    rw[this];simp
  have:=key vs 0 [] ((Array.range (1*sz)).map (z.cells[·%z.cells.size]!)) (by simp[hl]) sm rfl
  simpa using this
 simp only[Instr.buildSlice,Sem.run_bind,run_underlying hT,Result.andThen_ok,hE.tL,Nat.one_mul]
 rw[Nat.one_mul] at Rh
 simp[hb,h0,hE.LL,Rh,newRow]
theorem ZT {vs:List Value} {v:Value} {q:Operand} (hT:P.underlying T=some (.slice E)) (hE:TI P E sz bytes z) (hg:gate ops e g=true) (hd:cC n dst=true) (hz:Nat.beq z.cells.size sz=true) (ov:Nat.blt 0 sz=true) (df:Nat.ble sz 16777216=true) 
  (hq:ev e q=v) (hv:v.cells=vs.toArray) (hl:Nat.beq vs.length sz=true)
  (k:∀w',ak [] w w'->aL w' w.heap.size vs.toArray E->w'.heap.size=w.heap.size+1->OW P n ops K rest (bY e dst (.slice (some ⟨w.heap.size,0,none⟩) 1 1)) w'):
  OW P n ops K (⟨dst,.buildSlice T 1 #[(0,q)],ty,pos,after,g⟩::rest) e w:=
 fA hg hd (w':=w.alloc (.cells vs.toArray E)) (by
  have:=ZS (P:=P) (w:=w) (vs:=vs) (v:=v) hT hE (Nat.eq_of_beq_eq_true hz) (by simpa[Nat.blt_eq] using ov) (Nat.le_of_ble_eq_true df) hv (Nat.eq_of_beq_eq_true hl)
  simp[execOp,hq,this]) (k _ (ak.alloc _ _ _) (aL.alloc _ _ _) sm)
theorem fo {q:Operand} (hT:P.underlying T=some (.slice E)) (hE:TI P E sz bytes z) (hq:ev e q=v) (hv:v.cells=vs.toArray) (k:∀w',ak [] w w'->aL w' w.heap.size vs.toArray E->w'.heap.size=w.heap.size+1->OW P n ops K rest (bY e dst (.slice (some ⟨w.heap.size,0,none⟩) 1 1)) w') (hg:gate ops e g=true:=by rfl) (hd:cC n dst=true:=by rfl) (hz:Nat.beq z.cells.size sz=true:=by rfl) (ov:Nat.blt 0 sz=true:=by rfl) (df:Nat.ble sz 16777216=true:=by rfl) (hl:Nat.beq vs.length sz=true:=by rfl):OW P n ops K (⟨dst,.buildSlice T 1 #[(0,q)],ty,pos,after,g⟩::rest) e w:=ZT hT hE hg hd hz ov df hq hv hl k
theorem Ri {L:List Nat} {v:Value} {gb:Option Nat} {rows new:List (List C)} {xs news:List Value} {b o m c:Nat} (hT:P.underlying t=some (.slice E)) (hE:TI P E sz bytes z) (hg:gate ops e g=true) (hd:cC n dst=true) (hz:Nat.beq z.cells.size sz=true) 
  (hx:ev e x=v) (dH:gS L w E sz v gb rows xs) (hy:ev e y= .slice (some ⟨b,o,none⟩) m c) (hm:new.length=m) (tK:0<m) (gR:∀row,row∈new->row.length=sz) (hc:gJ w b o news) (h1:∀u∈news,u.oneCell'=true)
  (hr:dd (gb.toList++L) w news new.flatten) (hL:∀x,x∈L->x<w.heap.size) (hb:(rows.length+m)*(bytes+1)<=140737488355328)
  (k:∀a' cap' g' w',gS L w' E sz (.slice a' (rows.length+m) cap') g' (rows++new) (xs++news)->ak gb.toList w w'->(g'=gb∨g'=some w.heap.size)->OW P n ops K rest (bY e dst (.slice a' (rows.length+m) cap')) w'):
  OW P n ops K (⟨dst,.call {callee:=.builtin .append,args:=#[x,y],argTypes:=#[t,t]},ty,pos,after,g⟩::rest) e w:=by
 obtain⟨i,hi,ye,fU,gm⟩:=hE.get
 obtain⟨v',g',w',jG,tP,hk,jZ⟩:=gS.app (P:=P) (ty:=ty) hT hi ye fU gm (Nat.eq_of_beq_eq_true hz) dH b o m c new news hm tK gR hc h1 hr hL hb
 obtain⟨a',cap',he⟩:=tP.len
 rw[lA,hm] at he
 subst he
 exact fA hg hd (w':=w') (by
  simp only[execOp,resolve,invoke,builtin,Sem.run_bind,Sem.run_pure,Result.andThen_ok,List.map_toArray,List.map_cons,List.map_nil,hx,hy,jG]) (k a' cap' g' w' tP hk jZ)
end
theorem gS.sep {T:TypeId} {rows:List (List C)} (h:gS L w T sz v g rows xs) (hb:b∈L):b∉g.toList:=by
 intro hx
 exact h.out b (by simpa using hx) hb
theorem Rj {P:Program} {n:Nat} {ops:Array Oper} {K:Env->World->Prop} {rest:List Oper} {e:Env} {w:World} 
  {dst:Option Nat} {ty:TypeId} {pos:String} {after:Array Edge} {g:Option (Nat×Bool)} {x y:Operand}
  {L:List Nat} {t E sz bytes:Nat} {z:Value} {v:Value} {gb:Option Nat} {rows:List (List C)} {row:List C} {xs news:List Value} {b o c:Nat} (hT:P.underlying t=some (.slice E)) (hE:TI P E sz bytes z) (hg:gate ops e g=true) (hd:cC n dst=true) (hz:Nat.beq z.cells.size sz=true)
  (hx:ev e x=v) (hy:ev e y= .slice (some ⟨b,o,none⟩) 1 c) (dH:gS L w E sz v gb rows xs) (gR:row.length=sz) (hc:gJ w b o news) (h1:∀u∈news,u.oneCell'=true)
  (hr:dd (gb.toList++L) w news row) (hL:∀x,x∈L->x<w.heap.size) (hb:(rows.length+1)*(bytes+1)<=140737488355328)
  (k:∀a' cap' g' w',gS L w' E sz (.slice a' (rows.length+1) cap') g' (rows++[row]) (xs++news)->ak gb.toList w w'->(g'=gb∨g'=some w.heap.size)->OW P n ops K rest (bY e dst (.slice a' (rows.length+1) cap')) w'):
  OW P n ops K (⟨dst,.call {callee:=.builtin .append,args:=#[x,y],argTypes:=#[t,t]},ty,pos,after,g⟩::rest) e w:=
 Ri (new:=[row]) (m:=1) hT hE hg hd hz hx dH hy rfl de (by intro r h;simp at h;rw[h];exact gR) hc h1 (by simpa using hr) hL hb k
theorem dd.Gf:∀{vs:List Value} {cs:List C},dd L w vs cs->(∀c,c∈cs->∀v,c= .val v->v.oneCell'=true)->∀u∈vs,u.oneCell'=true
 |[],[],_,_,u,hu=>by simp at hu
 |v::vs,c::cs,h,hc,u,hu=>by
  rcases mC.1 hu with rfl|hu
  ·cases h.1 with
   |val=>exact hc _ sm _ rfl
   |nil=>rfl
   |sl=>rfl
  ·exact dd.Gf h.2 (λc pM v hv=>hc c (by simp[pM]) v hv) u hu
def Ah (P:Program) (e:Env) (w:World):ResultVar->Value->Prop
 | .tmp t,v=>e t=v
 | .cell t ty,v=>QW P e t ty v w
def I5 (P:Program) (e:Env) (w:World):List ResultVar->List Value->Prop
 |[],[]=>True
 |[r],[v]=>Ah P e w r v
 |r::rs,v::vs=>Ah P e w r v∧I5 P e w rs vs
 |_,_=>False
def Ai:List Value->Value
 |[v]=>v
 |vs=>.tuple vs.toArray
def I6 (tmps:Array Value):ResultVar->Sem Value
 | .tmp t=>pure (tmps.getD t undef)
 | .cell a t=>do loadVar t (<-asAddr (tmps.getD a undef))
theorem Gg (fn:Func) (tmps:Array Value):results fn tmps=(do let vs<-fn.results.mapM (I6 tmps);pure (if h:vs.size=1 then vs[0] else .tuple vs)):=rfl
theorem wG {e:Env} {tmps:Array Value} (hg:∀t,tmps.getD t undef=e t) {r:ResultVar} (h:Ah P e w r v):(I6 tmps r).run P w= .ok v w:=by
 cases r with
 |tmp t=>simp only[Ah] at h;simp only[I6,hg,h];rfl
 |cell t ty=>
  obtain⟨a,ha,hl⟩:=h
  simp only[I6,hg,ha,asAddr,Sem.run_bind,Sem.run_pure,Result.andThen_ok,hl]
theorem Rk {fn:Func} {rs:List ResultVar} (hr:fn.results=rs.toArray) {tmps:Array Value} {e:Env} (hg:∀t,tmps.getD t undef=e t) (h:I5 P e w rs vs) (hl:rs.length<=4):
  (results fn tmps).run P w= .ok (Ai vs) w:=by
 match rs,vs,h with
 |[],[],_=>simp[Gg,hr,Ai]
 |[r],[v],h=>
  have h1:=wG (tmps:=tmps) hg (show Ah P e w r v from h)
  simp[Gg,hr,Ai,h1]
 |[r,r2],[v,v2],h=>
  have h1:=wG (tmps:=tmps) hg h.1
  have h2:=wG (tmps:=tmps) hg (show Ah P e w r2 v2 from h.2)
  simp[Gg,hr,Ai,h1,h2]
 |[r,r2,r3],[v,v2,v3],h=>
  have h1:=wG (tmps:=tmps) hg h.1
  have h2:=wG (tmps:=tmps) hg h.2.1
  have h3:=wG (tmps:=tmps) hg (show Ah P e w r3 v3 from h.2.2)
  simp[Gg,hr,Ai,h1,h2,h3]
 |[r,r2,r3,r4],[v,v2,v3,v4],h=>
  have h1:=wG (tmps:=tmps) hg h.1
  have h2:=wG (tmps:=tmps) hg h.2.1
  have h3:=wG (tmps:=tmps) hg h.2.2.1
  have h4:=wG (tmps:=tmps) hg (show Ah P e w r4 v4 from h.2.2.2)
  simp[Gg,hr,Ai,h1,h2,h3,h4]
 |_::_::_::_::_::_,_,_=>simp at hl
theorem j1 {P:Program} {f:FuncId} {fn:Func} {c:Code} {args:List Value} {w:World} {S:Value->World->Prop} (rs:List ResultVar) (n:Nat) 
  (hf:P.funcs[f]?=some fn) (hb:fn.body=some c) (hn:(fn.name== "runtime.NumGoroutine")=false) (hr:fn.results=rs.toArray) (fU:args.length+(fn.ntmps-args.length)=n) (hl:Nat.ble rs.length 4=true)
  (h:CW P n c (λe w'=>∃vs,I5 P e w' rs vs∧S (Ai vs) w') (λe w'=>∃vs,I5 P e w' rs vs∧S (Ai vs) w') (λ_ _ _=>False) (start args) w):bC P f args w S:=by
 refine⟨⟨fn,hf,by rw[hb];rfl,hn⟩,calls_of_wp hf hb (wp_mono (h _ ?_) λx a w' hq=>?_)⟩
 ·rw[<-fU];simpa using QV args (fn.ntmps-args.length)
 ·cases x<;>simp only[lu] at hq
  ·obtain⟨e,lx,vs,hv,hs⟩:=hq
   exact bodyPost_end (Rk hr lx.get hv (Nat.le_of_ble_eq_true hl)) lx.defers ⟨_,rfl,hs⟩
  ·obtain⟨e,lx,hs⟩:=hq;exact hs.elim
  ·obtain⟨e,lx,vs,hv,hs⟩:=hq
   exact bodyPost_ret (Rk hr lx.get hv (Nat.le_of_ble_eq_true hl)) lx.defers ⟨_,rfl,hs⟩
section
variable {P:Program} {n:Nat} {ops:Array Oper} {K:Env->World->Prop} {rest:List Oper} {e:Env} {w:World}
 {dst:Option Nat} {ty:TypeId} {pos:String} {after:Array Edge} {g:Option (Nat×Bool)}
theorem ZU {at_:Array TypeId} {i j z:Int} (hg:gate ops e g=true) (hd:cC n dst=true) (hx:ev e x= .int k i) (hy:ev e y= .int k j) (hz:(if j<i then j else i)=z) 
  (kk:OW P n ops K rest (bY e dst (.int k z)) w):OW P n ops K (⟨dst,.call {callee:=.builtin .min,args:=#[x,y],argTypes:=at_},ty,pos,after,g⟩::rest) e w:=
 fA hg hd (by
  simp[execOp,resolve,invoke,builtin,hx,hy,Builtin.min_,Builtin.min2,hz]) kk
theorem ZV {at_:Array TypeId} {y2:Operand} {i j j2 z:Int} (hg:gate ops e g=true) (hd:cC n dst=true) (hx:ev e x= .int k i) (hy:ev e y= .int k j) (wH:ev e y2= .int k j2) (hz:(if j2<(if j<i then j else i) then j2 else(if j<i then j else i))=z) 
  (kk:OW P n ops K rest (bY e dst (.int k z)) w):OW P n ops K (⟨dst,.call {callee:=.builtin .min,args:=#[x,y,y2],argTypes:=at_},ty,pos,after,g⟩::rest) e w:=
 fA hg hd (by
  simp[execOp,resolve,invoke,builtin,hx,hy,wH,Builtin.min_,Builtin.min2,hz]) kk
theorem Rl {at_:Array TypeId} {i j z:Int} (hg:gate ops e g=true) (hd:cC n dst=true) (hx:ev e x= .int k i) (hy:ev e y= .int k j) (hz:(if i<j then j else i)=z) 
  (kk:OW P n ops K rest (bY e dst (.int k z)) w):OW P n ops K (⟨dst,.call {callee:=.builtin .max,args:=#[x,y],argTypes:=at_},ty,pos,after,g⟩::rest) e w:=
 fA hg hd (by
  simp[execOp,resolve,invoke,builtin,hx,hy,Builtin.max_,Builtin.max2,hz]) kk
theorem Rm {fn:Fn} {xs:List Operand} (hg:gate ops e g=true) (hd:cC n dst=true) (hv:xs.map (ev e)=vs) 
  (kk:OW P n ops K rest (bY e dst (.func fn #[] vs.toArray)) w):OW P n ops K (⟨dst,.makeFunc fn #[] xs.toArray,ty,pos,after,g⟩::rest) e w:=
 fA hg hd (by subst hv;simp[execOp,Instr.makeFunc]) kk
theorem Ro {c:Operand} {caps:List Value} {xs:List Operand} {ats:Array TypeId} (hg:gate ops e g=true) (hd:cC n dst=true) (hc:ev e c= .func (.func f) #[] caps.toArray) (h:bC P f (xs.map (ev e)++caps) w S) 
  (k:∀v w',S v w'->OW P n ops K rest (bY e dst v) w'):OW P n ops K (⟨dst,.call {callee:=.value c,args:=xs.toArray,argTypes:=ats},ty,pos,after,g⟩::rest) e w:=λa ha Q=>by
 unfold wpList
 rw[iP (by rw[FV ha];exact hg)]
 refine .inl ?_
 unfold Oper.wp
 have jG:(execOp (ev e) ⟨dst,.call {callee:=.value c,args:=xs.toArray,argTypes:=ats},ty,pos,after,g⟩).run P w= .ok (.enter f (xs.map (ev e)++caps).toArray) w:=by
  simp only[execOp,resolve,hc,Deferred.ofValue,Sem.run_bind,Sem.run_pure,Result.andThen_ok,invoke]
  simp[QZ h.1]
 rw[ha.eval,jG,Oper.upon_enter]
 exact Calls.mono h.2 λx w' ⟨v,hx,hs⟩=>by subst hx;exact k v w' hs _ (ha.bY hd v) Q
end
def gL (xs:List aj):List (List C):=xs.map λx=>[.val (str x)]
theorem qA (xs:List aj):(gL xs).length=xs.length:=by simp[gL]
theorem Rp {xs:List aj} {x:aj} (h:xs[i]?=some x):(gL xs)[i]?=some [.val (str x)]:=by simp[gL,h]
def bg (L:List Nat) (w:World) (v:Value) (xs:List aj):Prop:=ck L w v (.sl 1 (gL xs))
theorem bg.ext {xs:List aj} (h:bg L w v xs) (k:ak [] w w'):bg L w' v xs:=ck.ext h k
theorem bg.aD {xs:List aj} (h:bg L w v xs) (k:ak L' w w') (hL:∀x,x∈L'->x∈L):bg L w' v xs:=ck.aG h (k.mono hL)
theorem Rq:bg L w (.slice none 0 0) []:=.nil _ _ _
theorem dU {xs:List aj} (h:bg L w v xs):∃a n c,v= .slice a n c∧n=xs.length:=by grind [bg,rS,qA]
theorem Rr {x:aj} (h:dd L w vs [.val (str x)]):vs=[str x]:=by
 match vs,h with
 |[v],h=>obtain⟨h1,_⟩:=h;cases h1;rfl
 |[],h=>exact h.elim
 |_::_::_,h=>exact h.2.elim
theorem pR {a:Option Addr} {c:Nat} {xs:List aj} {x:aj} (h:bg L w (.slice a n c) xs) (hi:xs[i]?=some x):
  ∃b off,a=some ⟨b,off,none⟩∧gJ w b (off+i*1) [str x]:=by
 obtain⟨b,off,vs,ha,hb,hL,hl,hc,hr⟩:=z8 h (Rp hi)
 rw[Rr hr] at hc
 exact⟨b,off,ha,hc⟩
abbrev cJ (xs:List aj) (i:Nat):aj:=xs.getD i []
theorem kM {xs:List aj} (h:i<xs.length):xs[i]?=some (cJ xs i):=by grind
structure Bk where
 aM:aj
 bW:List aj
 code:List aj
def Bk.enc (b:Bk):List C:=[.val (str b.aM),.sl 1 (gL b.bW),.sl 1 (gL b.code)]
def nN (L:List Nat) (w:World) (v:Value) (b:Bk):Prop:=jW L w v b.enc
theorem nN.ext {b:Bk} (h:nN L w v b) (k:ak [] w w'):nN L w' v b:=jW.ext h k
theorem Rs {b:Bk} (h:dd L w vs b.enc):∃v1 v2,vs=[str b.aM,v1,v2]∧bg L w v1 b.bW∧bg L w v2 b.code:=by
 rw[Bk.enc] at h
 match vs,h with
 |[v0,v1,v2],h=>obtain⟨h0,h1,h2,_⟩:=h;cases h0;exact⟨v1,v2,rfl,h1,h2⟩
 |[],h=>exact h.elim
 |[_],h=>exact h.2.elim
 |[_,_],h=>exact h.2.2.elim
 |_::_::_::_::_,h=>exact h.2.2.2.elim
theorem yf {b:Bk} (h:nN L w v b):∃a1 n1 c1 a2 n2 c2,v= .agg #[str b.aM,.slice a1 n1 c1,.slice a2 n2 c2]∧
  n1=b.bW.length∧n2=b.code.length∧bg L w (.slice a1 n1 c1) b.bW∧bg L w (.slice a2 n2 c2) b.code:=by
 obtain⟨vs,rfl,hr⟩:=h
 obtain⟨v1,v2,rfl,h1,h2⟩:=Rs hr
 obtain⟨a1,n1,c1,rfl,fj⟩:=dU h1
 obtain⟨a2,n2,c2,rfl,eQ⟩:=dU h2
 exact⟨a1,n1,c1,a2,n2,c2,rfl,fj,eQ,h1,h2⟩
theorem wI {b:Bk} {v1 v2:Value} (h1:bg L w v1 b.bW) (h2:bg L w v2 b.code):nN L w (.agg #[str b.aM,v1,v2]) b:=
 ⟨[str b.aM,v1,v2],rfl,.val _,h1,h2,trivial⟩
def mO (L:List Nat) (w:World) (v:Value) (bs:List Bk):Prop:=ck L w v (.sl 3 (bs.map Bk.enc))
theorem mO.ext {bs:List Bk} (h:mO L w v bs) (k:ak [] w w'):mO L w' v bs:=ck.ext h k
theorem Cp {bs:List Bk} (h:mO L w v bs):∃a n c,v= .slice a n c∧n=bs.length:=by grind [mO,rS]
theorem yg {a:Option Addr} {c:Nat} {bs:List Bk} {k:Bk} (h:mO L w (.slice a n c) bs) (hi:bs[i]?=some k):
  ∃b off a1 n1 c1 a2 n2 c2,a=some ⟨b,off,none⟩∧gJ w b (off+i*3) [str k.aM,.slice a1 n1 c1,.slice a2 n2 c2]∧
   n1=k.bW.length∧n2=k.code.length∧bg L w (.slice a1 n1 c1) k.bW∧bg L w (.slice a2 n2 c2) k.code:=by
 obtain⟨b,off,vs,ha,hb,hL,hl,hc,hr⟩:=z8 h (show(bs.map Bk.enc)[i]?=some k.enc by simp[hi])
 obtain⟨v1,v2,rfl,h1,h2⟩:=Rs hr
 obtain⟨a1,n1,c1,rfl,fj⟩:=dU h1
 obtain⟨a2,n2,c2,rfl,eQ⟩:=dU h2
 exact⟨b,off,a1,n1,c1,a2,n2,c2,ha,hc,fj,eQ,h1,h2⟩
def I7 (p:Prop) (w:World) (b off:Nat) (vs:List Value):Prop:=p->gJ w b off vs
theorem I7.ext (h:I7 p w b off vs) (k:ak [] w w'):I7 p w' b off vs:=λhp=>(h hp).ext k
def I8 (p:Prop) (L:List Nat) (w:World) (v:Value) (ts:List aq):Prop:=p->cX L w v ts
theorem I8.ext {ts:List aq} (h:I8 p L w v ts) (k:ak [] w w'):I8 p L w' v ts:=λhp=>(h hp).ext k
end Go.Proofs.YthbhobaiopccaaaGreatDoor
