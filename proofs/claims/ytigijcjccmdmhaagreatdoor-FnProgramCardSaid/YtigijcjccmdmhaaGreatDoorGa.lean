/- Lemmas for the law FnProgram, no statement of their own: no conditions. -/
import Derived.Below
import Derived.Calls
import Derived.IntWalk
import Derived.KernelRfl
import Derived.Laws.AppendOwn
import Derived.Laws.Slices
import Derived.Laws.Small
import Derived.Laws.Strings
import Derived.Laws.Strings2
import Derived.Orders
import Derived.Tactics
import Derived.Test.YtigijcjccmdmhaaGreatDoorProg
namespace Go.Proofs.YtigijcjccmdmhaaGreatDoor
open Go
variable {c p q:Prop} {a:Int} {b bytes d i j m n o off sz t:Nat} {l:List Oper} {k k':IntKind} {x y:Operand} {P:Program} {f:FuncId} {v z:Value} {w w' w0:World} {S:Value->World->Prop} {D L L':List Nat} {vs xs:List Value} {g:Option Nat} {ops:Array Oper} {Q:Exit->Act->World->Prop} {F r:List (Value->World->Prop)}
theorem om (h:p:=by omega):p:=h
theorem so (h:p:=by simp;omega):p:=h
theorem sm (h:p:=by simp):p:=h
theorem sx (h:p:=by simp<;>omega):p:=h
theorem de (h:p:=by decide):p:=h
abbrev rA:=List.range'
abbrev NG (f:Func):Prop:=(f.name== "runtime.NumGoroutine")=false
theorem ng {f:Func} (h:(f.name== "runtime.NumGoroutine")=false:=by kernel_rfl):NG f:=h
theorem mA {α:Type} {a:α} {s t:List α}:a∈s++t↔a∈s∨a∈t:=List.mem_append
theorem mC {α:Type} {a b:α} {l:List α}:a∈b::l↔a=b∨a∈l:=List.mem_cons
theorem gE {α:Type} {l:List α} (h:i<l.length):l[i]?=some l[i]:=List.getElem?_eq_getElem h
theorem lL {k:Nat} (h:n<m) (g:m<=k):n<k:=Nat.lt_of_lt_of_le h g
theorem lR (n:Nat):n<=n:=Nat.le_refl n
theorem bE (b:Bool):b=true∨b=false:=Bool.eq_false_or_eq_true b
theorem gG {α:Type} {l:List α} {a:α}:l.getD i a=l[i]?.getD a:=List.getD_eq_getElem?_getD
theorem lA {α:Type} {s t:List α}:(s++t).length=s.length+t.length:=List.length_append
theorem lC {α:Type} {a:α} {s:List α}:(a::s).length=s.length+1:=List.length_cons
theorem mR {α:Type} {a:α} (s:List α) {t:List α} (h:a∈t):a∈s++t:=List.mem_append_right s h
theorem mK {α:Type} (y:α) {a:α} {l:List α} (h:a∈l):a∈y::l:=List.mem_cons_of_mem y h
theorem iN {h:Decidable c} (k:¬c) {α:Type} {t e:α}:(ite c t e)=e:=if_neg k
theorem iP {h:Decidable c} (k:c) {α:Type} {t e:α}:(ite c t e)=t:=if_pos k
theorem dT [i:Decidable p] (h:p):decide p=true:=decide_eq_true h
theorem dF {p:Prop} [i:Decidable p] (h:¬p):decide p=false:=decide_eq_false h
theorem aE (a b:Bool):((a&&b)=true)=(a=true∧b=true):=Bool.and_eq_true a b
theorem oE (a b:Bool):((a||b)=true)=(a=true∨b=true):=Bool.or_eq_true a b
theorem dE [i:Decidable p]:(decide p=true)=p:=decide_eq_true_eq

abbrev Env:=Nat->Value
def kI (e:Env) (d:Nat) (v:Value):Env:=λt=>bif Nat.beq t d then v else e t
theorem nJ (e:Env) (d:Nat) (v:Value):kI e d v d=v:=by simp[kI,Nat.beq_refl]
theorem Hx (e:Env) (v:Value) (h:t≠d):kI e d v t=e t:=by
 have hb:Nat.beq t d=false:=by
  cases hx:Nat.beq t d with
  |true=>exact absurd (Nat.eq_of_beq_eq_true hx) h
  |false=>rfl
 simp[kI,hb]
structure Fits (n:Nat) (e:Env) (a:Act):Prop where
 defers:a.defers=[]
 size:a.tmps.size=n
 get:∀t,a.tmps.getD t undef=e t
def ev (e:Env):Operand->Value
 | .tmp t=>e t
 | .const v=>v
 | .global g=>.pointer (some ⟨g,0,none⟩)
 | .func f=>.func (.func f) #[] #[]
theorem Fits.eval {e:Env} {a:Act} (h:Fits n e a):a.eval=ev e:=by
 funext x
 cases x<;>simp[Act.eval,ev]
 rw[<-h.get,Array.getD_eq_getD_getElem?]
theorem WJ (xs:Array Value) (d t:Nat) (v u:Value) (hd:d<xs.size):(xs.setIfInBounds d v).getD t u=if t=d then v else xs.getD t u:=by
 simp only[Array.getD_eq_getD_getElem?,Array.getElem?_setIfInBounds]
 by_cases h:t=d
 ·subst h;simp[hd]
 ·have:¬d=t:=λe=>h e.symm
  simp[h,this]
theorem Fits.put {e:Env} {a:Act} (h:Fits n e a) (hd:Nat.blt d n=true) (v:Value):Fits n (kI e d v) (a.put (some d) v):=by
 have WK:d<n:=by simpa[Nat.blt_eq] using hd
 refine⟨h.defers,by simp[Act.put,h.size],λt=>?_⟩
 simp only[Act.put]
 rw[WJ _ _ _ _ _ (by rw[h.size];exact WK),h.get]
 by_cases ht:t=d
 ·subst ht;simp[nJ]
 ·rw[Hx _ _ ht,iN ht]
@[reducible] def cO (e:Env):Option Nat->Value->Env
 |some d,v=>kI e d v
 |none,_=>e
def dw (n:Nat):Option Nat->Bool
 |some d=>Nat.blt d n
 |none=>true
theorem Fits.cO {e:Env} {a:Act} (h:Fits n e a) {d:Option Nat} (hd:dw n d=true) (v:Value):Fits n (cO e d v) (a.put d v):=by
 cases d with
 |none=>exact h
 |some d=>exact h.put hd v
def pC (n:Nat) (K:Env->World->Prop) (Q:Exit->Act->World->Prop):Exit->Act->World->Prop
 | .normal,a,w=>∃e,Fits n e a∧K e w
 |x,a,w=>Q x a w
def OW (P:Program) (n:Nat) (ops:Array Oper) (K:Env->World->Prop) (l:List Oper) (e:Env) (w:World):Prop:=
 ∀a,Fits n e a->∀Q,wpList P ops (pC n K Q) l a w
def lu (n:Nat) (N R:Env->World->Prop) (X:Nat->Env->World->Prop):Exit->Act->World->Prop
 | .normal,a,w=>∃e,Fits n e a∧N e w
 | .ret,a,w=>∃e,Fits n e a∧R e w
 | .exit i,a,w=>∃e,Fits n e a∧X i e w
 |_,_,_=>False
def CW (P:Program) (n:Nat) (c:Code) (N R:Env->World->Prop) (X:Nat->Env->World->Prop) (e:Env) (w:World):Prop:=
 ∀a,Fits n e a->c.wp P (lu n N R X) a w
section
variable {P:Program} {n:Nat} {N R:Env->World->Prop} {X:Nat->Env->World->Prop} {e:Env} {w:World}
theorem CW.mono {c:Code} {N' R':Env->World->Prop} {X':Nat->Env->World->Prop} (h:CW P n c N R X e w) 
  (hN:∀e w,N e w->N' e w) (hR:∀e w,R e w->R' e w) (hX:∀i e w,X i e w->X' i e w):CW P n c N' R' X' e w:=λa ha=>
 wp_mono (h a ha) λx a w hq=>by
  cases x<;>simp only[lu] at hq⊢
  ·obtain⟨e,hf,hk⟩:=hq;exact⟨e,hf,hN _ _ hk⟩
  ·obtain⟨e,hf,hk⟩:=hq;exact⟨e,hf,hX _ _ _ hk⟩
  ·obtain⟨e,hf,hk⟩:=hq;exact⟨e,hf,hR _ _ hk⟩
theorem aQ {x y:Code} (h:CW P n x (λe w=>CW P n y N R X e w) R X e w):CW P n (x.seq y) N R X e w:=λa ha=>
 wp_seq (wp_mono (h a ha) λex a w hq=>by
  cases ex<;>simp only[lu] at hq<;>simp only[Exit.then]<;>first|exact hq|skip
  obtain⟨e,hf,hk⟩:=hq
  exact hk a hf)
theorem bA (h:N e w):CW P n .skip N R X e w:=λ_ ha=>wp_skip ⟨e,ha,h⟩
theorem aV (h:R e w):CW P n .ret N R X e w:=λ_ ha=>wp_ret ⟨e,ha,h⟩
theorem gF (h:X i e w):CW P n (.exit i) N R X e w:=λ_ ha=>wp_exit ⟨e,ha,h⟩
theorem cP {c:Code} (h:CW P n c N R (λj e w=>bif Nat.beq j i then N e w else X j e w) e w):CW P n (.block i c) N R X e w:=λa ha=>
 wp_block (wp_mono (h a ha) λex a w hq=>by
  cases ex<;>simp only[lu] at hq<;>simp only[Exit.inBlock]<;>first|exact hq|skip
  rename_i j
  obtain⟨e,hf,hk⟩:=hq
  by_cases hj:j=i
  ·subst hj
   simp only[if_true,lu]
   rw[Nat.beq_refl] at hk
   exact⟨e,hf,hk⟩
  ·have hb:Nat.beq j i=false:=by
    cases hx:Nat.beq j i with
    |true=>exact absurd (Nat.eq_of_beq_eq_true hx) hj
    |false=>rfl
   rw[hb] at hk
   simp only[hj,if_false,lu]
   exact⟨e,hf,hk⟩)
theorem gH {A B:Prop} (h:Nat.beq j i=true) (k:A):(bif Nat.beq j i then A else B):=by rw[h];exact k
theorem WL {A B:Prop} (h:Nat.beq j i=false) (k:B):(bif Nat.beq j i then A else B):=by rw[h];exact k
theorem WM {c:Operand} {x y:Code} {t:Bool} (hc:ev e c= .bool t) (hx:t=true->CW P n x N R X e w) (hy:t=false->CW P n y N R X e w):
  CW P n (.cond c x y) N R X e w:=λa ha=>
 wp_cond_split (t:=t) (by rw[ha.eval];exact hc) (λh=>hx h a ha) (λh=>hy h a ha)
theorem db {id:Nat} (h:OW P n l.toArray N l e w):CW P n (.region id l.toArray false) N R X e w:=λa ha=>
 wp_mono (wp_region_lit (h a ha (λ_ _ _=>False))) λex a w hq=>by
  cases ex<;>simp only[pC] at hq<;>simp only[lu]<;>exact hq
def Holds:List (Nat×Value)->Env->Prop
 |[],_=>True
 |[p],e=>e p.1=p.2
 |p::r,e=>e p.1=p.2∧Holds r e
def aM (e:Env):List (Nat×Value)->Env
 |[]=>e
 |p::r=>kI (aM e r) p.1 p.2
theorem WN {p:Nat×Value} {r:List (Nat×Value)} (h:Holds (p::r) e):e p.1=p.2∧Holds r e:=by
 cases r with
 |nil=>exact⟨h,trivial⟩
 |cons q r=>exact h
theorem Kc:∀{l:List (Nat×Value)},Holds l e->aM e l=e
 |[],_=>rfl
 |p::r,h=>by
  obtain⟨h1,h2⟩:=WN h
  simp only[aM,Kc h2]
  funext t
  by_cases ht:t=p.1
  ·subst ht;rw[nJ,h1]
  ·rw[Hx _ _ ht]
theorem fZ {c:Code} {G:Type} (L:G->List (Nat×Value)) (I:G->World->Prop) (μ:G->Nat) (g0:G) (h0:Holds (L g0) e) (hI:I g0 w) 
  (round:∀g w e0,I g w->CW P n c (λe' w'=>∃g',Holds (L g') e'∧I g' w'∧μ g'<μ g) R X (aM e0 (L g)) w):
  CW P n (.loop c) N R X e w:=by
 intro a ha b k cs
 have key:∀m (g:G) (e:Env) (a:Act) (w:World),μ g=m->Fits n e a->Holds (L g) e->I g w->
   ∃x a' w',lu n N R X x a' w'∧Arrives P (lone (b.at a (.code c:: .inLoop c::k)) cs w) b k cs x a' w':=by
  intro m
  induction m using Nat.strongRecOn with
  |_ m ih=>
   intro g e a w hm hf hh hi
   have hr:=round g w e hi
   rw[Kc hh] at hr
   obtain⟨x,a₁,w₁,hq,EB⟩:=hr a hf b (.inLoop c::k) cs
   cases x with
   |normal=>
    obtain⟨e₁,hf₁,g',WO,WQ,eU⟩:=hq
    obtain⟨x₂,a₂,w₂,hq₂,harr₂⟩:=ih (μ g') (hm▸eU) g' e₁ a₁ w₁ rfl hf₁ WO WQ
    exact⟨x₂,a₂,w₂,hq₂,.of_steps (Steps.trans EB (.one step_inLoop)) harr₂⟩
   |exit id=>exact⟨_,a₁,w₁,by simpa only[lu] using hq,.pass (x:=.inLoop c) rfl (λ_ _=>.inl sm) EB⟩
   |goto l=>simp[lu] at hq
   |ret=>exact⟨_,a₁,w₁,by simpa only[lu] using hq,.pass (x:=.inLoop c) rfl (λ_ _=>.inl sm) EB⟩
   |panic ch=>simp[lu] at hq
   |outgrown=>simp[lu] at hq
 obtain⟨x,a',w',hq,EB⟩:=key _ g0 e a w rfl ha h0 hI
 exact⟨x,a',w',hq,.of_steps (.one step_loop) EB⟩
theorem jh {c:Code} {G:Type} (L:G->List (Nat×Value)) (I:G->World->Prop) 
  (h:CW P n c (λe' w'=>∃g,Holds (L g) e'∧I g w') R X e w) (k:∀g w' e0,I g w'->N (aM e0 (L g)) w'):CW P n c N R X e w:=
 h.mono (λe' w' ⟨g,hh,hi⟩=>by have:=k g w' e' hi;rwa [Kc hh] at this) (λ_ _ h=>h) (λ_ _ _ h=>h)
end
/-! ### A function -/
def tg (P:Program) (f:FuncId):Prop:=∃fn,P.funcs[f]?=some fn∧fn.body.isNone=false∧(fn.name== "runtime.NumGoroutine")=false
theorem tg.mk' {fn:Func} (h:P.funcs[f]?=some fn) (hb:fn.body.isNone=false) (hn:(fn.name== "runtime.NumGoroutine")=false):tg P f:=⟨fn,h,hb,hn⟩
def bZ (P:Program) (f:FuncId) (args:List Value) (w:World) (S:Value->World->Prop):Prop:=
 tg P f∧Calls P f args.toArray w λe w'=>∃v,e= .returned v∧S v w'
def Bb (e:Env):List ResultVar->Option Value
 |[.tmp t]=>some (e t)
 |[.tmp t,.tmp u]=>some (.tuple #[e t,e u])
 |[.tmp t,.tmp u,.tmp x]=>some (.tuple #[e t,e u,e x])
 |[]=>some (.tuple #[])
 |_=>none
theorem Pq {fn:Func} {rs:List ResultVar} (hr:fn.results=rs.toArray) {tmps:Array Value} {e:Env} (hg:∀t,tmps.getD t undef=e t) (h:Bb e rs=some v) (P:Program) (w:World):
  (results fn tmps).run P w= .ok v w:=by
 match rs,h with
 |[.tmp t],h=>simp only[Bb,Option.some.injEq] at h;subst h;rw[<-hg];exact results_tmp hr _ _ _
 |[.tmp t,.tmp u],h=>simp only[Bb,Option.some.injEq] at h;subst h;rw[<-hg,<-hg];exact results_tmp2 hr _ _ _
 |[.tmp t,.tmp u,.tmp x],h=>
  simp only[Bb,Option.some.injEq] at h;subst h;rw[<-hg,<-hg,<-hg]
  simp[results,hr]
 |[],h=>simp only[Bb,Option.some.injEq] at h;subst h;exact results_none hr _ _ _
def start (args:List Value):Env:=λt=>args.getD t undef
theorem Pr (args:List Value) (m:Nat):Fits (args.length+m) (start args) {tmps:=args.toArray++Array.replicate m undef,defers:=[]}:=by
 refine⟨rfl,sm,λt=>?_⟩
 simp only[start,Array.getD_eq_getD_getElem?,gG,Array.getElem?_append,List.size_toArray,List.getElem?_toArray]
 by_cases h:t<args.length
 ·rw[iP h]
 ·rw[iN h,List.getElem?_eq_none om]
  by_cases h2:t-args.length<m<;>simp[h2]
theorem cU {P:Program} {f:FuncId} {fn:Func} {c:Code} {args:List Value} {w:World} {S:Value->World->Prop} (rs:List ResultVar) (n:Nat) 
  (hf:P.funcs[f]?=some fn) (hb:fn.body=some c) (hn:(fn.name== "runtime.NumGoroutine")=false) (hr:fn.results=rs.toArray) (iY:args.length+(fn.ntmps-args.length)=n)
  (h:CW P n c (λe w'=>∃v,Bb e rs=some v∧S v w') (λe w'=>∃v,Bb e rs=some v∧S v w') (λ_ _ _=>False) (start args) w):bZ P f args w S:=by
 refine⟨⟨fn,hf,by rw[hb];rfl,hn⟩,calls_of_wp hf hb (wp_mono (h _ ?_) λx a w' hq=>?_)⟩
 ·rw[<-iY];simpa using Pr args (fn.ntmps-args.length)
 ·cases x<;>simp only[lu] at hq
  ·obtain⟨e,lv,v,hv,hs⟩:=hq
   exact bodyPost_end (Pq hr lv.get hv P w') lv.defers ⟨v,rfl,hs⟩
  ·obtain⟨e,lv,hs⟩:=hq;exact hs.elim
  ·obtain⟨e,lv,v,hv,hs⟩:=hq
   exact bodyPost_ret (Pq hr lv.get hv P w') lv.defers ⟨v,rfl,hs⟩
def Ps (P:Program) (e:Env) (t ty:Nat) (v:Value) (w:World):Prop:=∃a,e t= .pointer (some a)∧(loadVar ty a).run P w= .ok v w
structure ak (L:List Nat) (w w':World):Prop where
 os:w'.os=w.os
 tape:w'.tape=w.tape
 output:w'.output=w.output
 size:w.heap.size<=w'.heap.size
 block:∀k,k<w.heap.size->k∉L->w'.heap[k]?=w.heap[k]?
theorem ak.refl (L:List Nat) (w:World):ak L w w:=⟨rfl,rfl,rfl,lR _,λ_ _ _=>rfl⟩
theorem ak.trans {a b c:World} (h:ak L a b) (k:ak L b c):ak L a c:=
 ⟨k.os.trans h.os,k.tape.trans h.tape,k.output.trans h.output,Nat.le_trans h.size k.size,λi hi hl=>(k.block i (lL hi h.size) hl).trans (h.block i hi hl)⟩
theorem ak.mono {a b:World} (h:ak L a b) (hL:∀x,x∈L->x∈L'):ak L' a b:=
 ⟨h.os,h.tape,h.output,h.size,λk hk hl=>h.block k hk (λhx=>hl (hL k hx))⟩
theorem ak.any {a b:World} (h:ak [] a b):ak L a b:=h.mono sm
theorem ak.drew (L:List Nat) (w:World):ak L w {w with drawn:=w.drawn+1}:=⟨rfl,rfl,rfl,lR _,λ_ _ _=>rfl⟩
theorem ak.alloc (L:List Nat) (w:World) (o:Obj):ak L w (w.alloc o):=⟨rfl,rfl,rfl,sm,λk hk _=>heap_alloc_old w o k hk⟩
theorem ak.below {a b:World} (h:ak L a b) {B:Nat} (hB:B<=a.heap.size) (hL:∀x,x∈L->B<=x):Go.RowKit.Below B a b:=
 ⟨h.os,h.tape,h.output,h.size,λk hk=>h.block k om (λhx=>by have:=hL k hx;omega)⟩
theorem ak.since {a b c:World} (h:ak L a b) (k:ak L' b c) (hL:∀x,x∈L'->x∈L∨a.heap.size<=x):ak L a c:=
 ⟨k.os.trans h.os,k.tape.trans h.tape,k.output.trans h.output,Nat.le_trans h.size k.size,λi hi hl=>
  (k.block i (lL hi h.size) (λhx=>by rcases hL i hx with h1|h1;exact hl h1;omega)).trans (h.block i hi hl)⟩
def aY (w:World) (b:Nat) (cs:Array Value) (T:TypeId):Prop:=w.heap[b]?=some (.cells cs T (0,0))
theorem aY.aO {cs:Array Value} {T:TypeId} (h:aY w b cs T) (k:ak L w w') (hb:b∉L):aY w' b cs T:=
 (k.block b (Array.getElem?_eq_some_iff.1 h).1 hb).trans h
theorem aY.lt {cs:Array Value} {T:TypeId} (h:aY w b cs T):b<w.heap.size:=(Array.getElem?_eq_some_iff.1 h).1
theorem aY.cell {cs:Array Value} {T:TypeId} (h:aY w b cs T) (i:Nat):w.cell? ⟨b,i,none⟩=cs[i]?:=cell_of_row w b i cs T (0,0) h
theorem aY.frozen {cs:Array Value} {T:TypeId} (h:aY w b cs T) (i:Nat):w.frozen? ⟨b,i,none⟩=false:=by
 simp only[World.frozen?];rw[show w.heap[b]?=_ from h];simp
theorem aY.alloc (w:World) (cs:Array Value) (T:TypeId):aY (w.alloc (.cells cs T)) w.heap.size cs T:=heap_alloc_new w _
theorem aY.set {cs:Array Value} {T:TypeId} (h:aY w b cs T) (i:Nat) (v:Value):aY (w.setCell ⟨b,i,none⟩ v) b (cs.setIfInBounds i v) T:=by
 unfold aY at*
 simp only[World.setCell,Array.getElem?_modify,if_true,h]
 simp
theorem ak.setCell (w:World) (b i:Nat) (v:Value):ak [b] w (w.setCell ⟨b,i,none⟩ v):=
 ⟨rfl,rfl,rfl,by simp[World.setCell],λk _ hl=>Go.RowKit.Below.heap_setCell w _ v k (by simpa using hl)⟩
inductive C where
 |val (v:Value)
 |sl (size:Nat) (rows:List (List C))
inductive cD (L:List Nat) (w:World):Value->C->Prop
 |val (v:Value):cD L w v (.val v)
 |nil (a:Option Addr) (cap size:Nat):cD L w (.slice a 0 cap) (.sl size [])
 |sl (b off len cap size:Nat) (rows:List (List C)) (f:Nat->Nat->Value) (hl:rows.length=len) (hc:len<=cap) (hb:b<w.heap.size) (hL:b∉L)
   (hs:∀row,row∈rows->row.length=size)
   (kJ:∀i j,i<len->j<size->w.cell? ⟨b,off+i*size+j,none⟩=some (f i j))
   (ie:∀i j row c,rows[i]?=some row->row[j]?=some c->cD L w (f i j) c):cD L w (.slice (some ⟨b,off,none⟩) len cap) (.sl size rows)
theorem cD.aO {c:C} (h:cD L w v c) (k:ak L w w'):cD L w' v c:=by
 induction h with
 |val v=>exact .val v
 |nil a c s=>exact .nil a c s
 |sl b off len cap size rows f hl hc hb hL hs kJ _ ih=>
  exact .sl b off len cap size rows f hl hc (lL hb k.size) hL hs
   (λi j hi hj=>(World.cell?_of_block (k.block b hb hL)).trans (kJ i j hi hj)) ih
theorem cD.fresh {c:C} (h:cD L w v c) (hL:∀x,x∈L'->x∈L∨w.heap.size<=x):cD L' w v c:=by
 induction h with
 |val v=>exact .val v
 |nil a c s=>exact .nil a c s
 |sl b off len cap size rows f hl hc hb gW hs kJ _ ih=>
  exact .sl b off len cap size rows f hl hc hb (λhx=>by rcases hL b hx with h1|h1;exact gW h1;omega) hs kJ ih
theorem cD.weaken {c:C} (h:cD L w v c) (hL:∀x,x∈L'->x∈L):cD L' w v c:=h.fresh λx hx=>.inl (hL x hx)
theorem cD.none {c:C} (h:cD L w v c):cD [] w v c:=h.weaken sm
def dQ (L:List Nat) (w:World):List Value->List C->Prop
 |[],[]=>True
 |v::vs,c::cs=>cD L w v c∧dQ L w vs cs
 |_,_=>False
theorem dQ.length:∀{vs:List Value} {cs:List C},dQ L w vs cs->vs.length=cs.length
 |[],[],_=>rfl
 |_::_,_::_,h=>by simp[dQ.length h.2]
theorem dQ.get:∀{vs:List Value} {cs:List C},dQ L w vs cs->∀{j:Nat} {v:Value} {c:C},vs[j]?=some v->cs[j]?=some c->cD L w v c
 |_::_,_::_,h,0,_,_,hv,hc=>by simp at hv hc;subst hv;subst hc;exact h.1
 |_::_,_::_,h,j+1,_,_,hv,hc=>dQ.get h.2 (j:=j) (by simpa using hv) (by simpa using hc)
theorem dQ.of:∀{vs:List Value} {cs:List C},vs.length=cs.length->(∀(j:Nat) (v:Value) (c:C),vs[j]?=some v->cs[j]?=some c->cD L w v c)->dQ L w vs cs
 |[],[],_,_=>trivial
 |v::vs,c::cs,hl,h=>⟨h 0 v c rfl rfl,dQ.of (by simpa using hl) λj v' c' hv hc=>h (j+1) v' c' (by simpa using hv) (by simpa using hc)⟩
theorem dQ.aO {cs:List C} (h:dQ L w vs cs) (k:ak L w w'):dQ L w' vs cs:=dQ.of h.length λ_ _ _ hv hc=>(h.get hv hc).aO k
theorem dQ.fresh {cs:List C} (h:dQ L w vs cs) (hL:∀x,x∈L'->x∈L∨w.heap.size<=x):dQ L' w vs cs:=dQ.of h.length λ_ _ _ hv hc=>(h.get hv hc).fresh hL
theorem dQ.append:∀{vs:List Value} {cs:List C} {vs':List Value} {cs':List C},dQ L w vs cs->dQ L w vs' cs'->dQ L w (vs++vs') (cs++cs')
 |[],[],_,_,_,h'=>h'
 |_::_,_::_,_,_,h,h'=>⟨h.1,dQ.append h.2 h'⟩
def kB (L:List Nat) (w:World) (v:Value) (cs:List C):Prop:=∃vs:List Value,v= .agg vs.toArray∧dQ L w vs cs
theorem kB.aO {cs:List C} (h:kB L w v cs) (k:ak L w w'):kB L w' v cs:=
 let⟨vs,e,h⟩:=h;⟨vs,e,h.aO k⟩
theorem kB.fresh {cs:List C} (h:kB L w v cs) (hL:∀x,x∈L'->x∈L∨w.heap.size<=x):kB L' w v cs:=
 let⟨vs,e,h⟩:=h;⟨vs,e,h.fresh hL⟩
def iH (w:World) (b off:Nat) (vs:List Value):Prop:=∀(j:Nat) (v:Value),vs[j]?=some v->w.cell? ⟨b,off+j,none⟩=some v
theorem rK {size:Nat} {rows:List (List C)} (h:cD L w v (.sl size rows)):∃a cap,v= .slice a rows.length cap∧rows.length<=cap:=by
 cases h with
 |nil a c s=>exact⟨a,c,rfl,Nat.zero_le _⟩
 |sl b off len cap size rows f hl hc=>exact⟨_,cap,by rw[hl],om⟩
theorem ze {a:Option Addr} {len cap size:Nat} {rows:List (List C)} (h:cD L w (.slice a len cap) (.sl size rows)) {row:List C} (hi:rows[i]?=some row):
  ∃b off vs,a=some ⟨b,off,none⟩∧b<w.heap.size∧b∉L∧vs.length=size∧iH w b (off+i*size) vs∧dQ L w vs row:=by
 cases h with
 |nil=>simp at hi
 |sl b off len cap size rows f hl hc hb hL hs kJ ie=>
  have mL:i<rows.length:=(List.getElem?_eq_some_iff.1 hi).1
  have iI:row.length=size:=hs row (List.mem_of_getElem? hi)
  refine⟨b,off,(List.range size).map (f i),rfl,hb,hL,sm,λj v hj=>?_,dQ.of (by simp[iI]) λj v c hv pD=>?_⟩
  ·have xr:j<size:=by have:=(List.getElem?_eq_some_iff.1 hj).1;simpa using this
   have e:f i j=v:=by simpa[List.getElem?_map,xr] using hj
   rw[<-e];exact kJ i j om xr
  ·have xr:j<size:=by have:=(List.getElem?_eq_some_iff.1 hv).1;simpa using this
   have e:f i j=v:=by simpa[List.getElem?_map,xr] using hv
   rw[<-e];exact ie i j row c hi pD
theorem WR (b off cap size:Nat) (rows:List (List C)) (vss:List (List Value)) (hlen:vss.length=rows.length) (hc:rows.length<=cap) (hb:b<w.heap.size) (hL:b∉L) 
  (hs:∀row,row∈rows->row.length=size)
  (kJ:∀(i:Nat) (vs:List Value),vss[i]?=some vs->iH w b (off+i*size) vs)
  (ie:∀(i:Nat) (vs:List Value) (row:List C),vss[i]?=some vs->rows[i]?=some row->dQ L w vs row):cD L w (.slice (some ⟨b,off,none⟩) rows.length cap) (.sl size rows):=by
 refine .sl b off rows.length cap size rows (λi j=>(vss.getD i []).getD j undef) rfl hc hb hL hs (λi j hi hj=>?_) (λi j row c hi hj=>?_)
 ·obtain⟨vs,bo⟩:∃vs,vss[i]?=some vs:=⟨vss[i]'om,gE om⟩
  obtain⟨row,iI⟩:∃row,rows[i]?=some row:=⟨rows[i]'hi,gE hi⟩
  have hl:=(ie i vs row bo iI).length
  rw[hs row (List.mem_of_getElem? iI)] at hl
  have hv:vs[j]?=some vs[j]:=gE om
  have:=kJ i vs bo j _ hv
  rw[this]
  simp[gG,bo,hv]
 ·obtain⟨vs,bo⟩:∃vs,vss[i]?=some vs:=⟨vss[i]'(by have:=(List.getElem?_eq_some_iff.1 hi).1;omega),gE (by have:=(List.getElem?_eq_some_iff.1 hi).1;omega)⟩
  have hr:=ie i vs row bo hi
  have hl:=hr.length
  have vQ:=(List.getElem?_eq_some_iff.1 hj).1
  have hv:vs[j]?=some vs[j]:=gE om
  have:=hr.get hv hj
  simpa[gG,bo,hv] using this
theorem WS {len cap size:Nat} {rows:List (List C)} (h:cD L w (.slice (some ⟨b,off,none⟩) len cap) (.sl size rows)) (i:Nat) (hi:i<=len) (a:Option Addr) 
  (ha:i<cap->a=some ⟨b,off+i*size,none⟩) (WT:i=cap->a=some ⟨b,off,none⟩):cD L w (.slice a (len-i) (cap-i)) (.sl size (rows.drop i)):=by
 cases h with
 |nil=>rw[List.drop_nil,show i=0 from by omega];exact .nil _ _ _
 |sl b off len cap size rows f hl hc hb hL hs kJ ie=>
  by_cases WU:i<cap
  ·rw[ha WU]
   refine .sl b (off+i*size) (len-i) (cap-i) size (rows.drop i) (λk j=>f (i+k) j) (by simp[hl]) om hb hL (λrow hr=>hs row (List.mem_of_mem_drop hr)) (λk j hk hj=>?_) (λk j row c hk hj=>?_)
   ·have:=kJ (i+k) j om hj
    rw[<-this];congr 2;rw[Nat.add_mul];omega
   ·exact ie (i+k) j row c (by simpa using hk) hj
  ·have:i=cap:=by omega
   subst this
   rw[WT rfl]
   have WV:len=i:=by omega
   have hr:rows.drop i=[]:=by apply List.drop_of_length_le;omega
   rw[hr]
   have:=cD.sl (L:=L) (w:=w) b off 0 0 size [] f rfl (lR _) hb hL sm om sm
   simpa[WV] using this
def jX (w:World) (T:TypeId) (sz:Nat) (v:Value) (g:Option Nat) (n:Nat) (xs:List Value):Prop:=
 xs.length=n*sz∧
 ((v= .slice none 0 0∧n=0∧g=none)∨
  ∃b cap cur,g=some b∧v= .slice (some ⟨b,0,none⟩) n cap∧aY w b cur T∧n<=cap∧cap<=maxLen∧cur.size=cap*sz∧cur.toList.take (n*sz)=xs)
theorem jX.nil (w:World) (T:TypeId) (sz:Nat):jX w T sz (.slice none 0 0) none 0 []:=⟨by simp,.inl ⟨rfl,rfl,rfl⟩⟩
theorem jX.aO {T:TypeId} (h:jX w T sz v g n xs) (k:ak L w w') (hg:∀b,g=some b->b∉L):jX w' T sz v g n xs:=by
 refine⟨h.1,?_⟩
 rcases h.2 with h|⟨b,cap,cur,e,hv,hb,r⟩
 ·exact .inl h
 ·exact .inr ⟨b,cap,cur,e,hv,hb.aO k (hg b e),r⟩
theorem jX.lt {T:TypeId} (h:jX w T sz v g n xs):∀b,g=some b->b<w.heap.size:=by
 intro b e
 rcases h.2 with⟨_,_,h⟩|⟨b',cap,cur,e',hv,hb,r⟩
 ·rw[e] at h;cases h
 ·rw[e] at e';cases e';exact hb.lt
theorem jX.len {T:TypeId} (h:jX w T sz v g n xs):∃a cap,v= .slice a n cap:=by
 rcases h.2 with⟨rfl,rfl,_⟩|⟨b',cap,cur,e',rfl,hb,r⟩<;>exact⟨_,_,rfl⟩
section
variable {P:Program} {w:World}
theorem Pt {t ty T:TypeId} {i:TypeInfo} {sz bytes:Nat} (ht:P.underlying t=some (.slice T)) (hi:P.info? T=some i) (hz:i.zero=some z) 
  (Bc:i.size=sz) (ig:i.bytes=bytes) (xu:z.cells.size=sz)
  {v:Value} {g:Option Nat} {n:Nat} {xs:List Value} (dY:jX w T sz v g n xs)
  (ab aoff m c:Nat) (news:List Value) (hl:news.length=m*sz) (Bd:iH w ab aoff news) (h1:∀u∈news,u.oneCell'=true) (hm:0<m)
  (zg:n+m<=maxLen) (xv:(n+m)*bytes<=140737488355328):
  ∃v' g' w',(Builtin.append_ #[t,t] ty #[v,.slice (some ⟨ab,aoff,none⟩) m c]).run P w= .ok v' w'∧jX w' T sz v' g' (n+m) (xs++news)∧ak g.toList w w'∧
   (g'=g∨g'=some w.heap.size):=by
 subst Bc
 subst ig
 have Hy:n+m<=9223372036854775807:=by simp only[maxLen] at zg;omega
 have hlen:(xs++news).length=(n+m)*i.size:=by rw[lA,dY.1,hl,Nat.add_mul]
 have vR:∀b o j:Nat,(⟨b,o,none⟩:Addr).add j=⟨b,o+j,none⟩:=λb o j=>by unfold Addr.add;split<;>simp_all
 have uq:∀j u,news[j]?=some u->w.cell? ((⟨ab,aoff,none⟩:Addr).add j)=some u:=λj u hu=>by rw[vR];exact Bd j u hu
 have grown:∀(old:Nat),old<n+m->
   jX (w.drew.alloc (.cells (xs.toArray++news.toArray++Builtin.zeroCells z.cells (grownCap w (n+m) old T-(n+m))) T)) T i.size
    (.slice (some ⟨w.heap.size,0,none⟩) (n+m) (grownCap w (n+m) old T)) (some w.heap.size) (n+m) (xs++news)∧
   ak g.toList w (w.drew.alloc (.cells (xs.toArray++news.toArray++Builtin.zeroCells z.cells (grownCap w (n+m) old T-(n+m))) T)):=by
  intro old ho
  have rL:=grownCap_ge w (n+m) old T
  have mo:grownCap w (n+m) old T<=maxLen:=grownCap_le_maxLen w (n+m) old T zg
  refine⟨⟨hlen,.inr ⟨w.heap.size,_,_,rfl,rfl,heap_alloc_new w.drew _,rL,mo,?_,?_⟩⟩,⟨rfl,rfl,rfl,sm,λk hk _=>heap_alloc_old w.drew _ k hk⟩⟩
  ·simp only[Array.size_append,List.size_toArray,size_zeroCells,xu,dY.1,hl,<-Nat.add_mul]
   congr 1
   omega
  ·simp only[Array.toList_append,List.append_assoc]
   rw[<-List.append_assoc,<-hlen]
   exact List.take_left
 rcases dY.2 with⟨rfl,rfl,rfl⟩|⟨b,cap,cur,rfl,rfl,hb,mM,mo,cJ,th⟩
 ·have hx:xs=[]:=List.eq_nil_of_length_eq_zero (by simpa using dY.1)
  subst hx
  have hr:=run_append_nil (P:=P) w t ty T i z ht hi hz ⟨ab,aoff,none⟩ m c news hl uq hm om (by have hb:=xv;simp only[Nat.zero_add] at hb;omega)
  have lx:=grown 0 om
  simp only[Nat.zero_add,List.nil_append,Array.empty_append] at lx⊢
  exact⟨_,_,_,hr,lx.1,lx.2,.inr rfl⟩
 ·by_cases sn:n+m<=cap
  ·have lv:n*i.size+news.length<=cur.size:=by rw[hl,cJ,<-Nat.add_mul];exact Nat.mul_le_mul_right _ sn
   have hr:=run_append_room (P:=P) w t ty T i ht hi b n cap cur hb ⟨ab,aoff,none⟩ m c news hl uq h1 sn lv
   refine⟨_,some b,_,hr,⟨hlen,.inr ⟨b,cap,_,rfl,rfl,setRow_heap w b cur _ T _ hb,sn,mo,?_,?_⟩⟩,⟨rfl,rfl,rfl,sm,λk _ hk=>setRow_other w b k _ (by simpa using hk)⟩,.inl rfl⟩
   ·simp only[List.size_toArray,lA,List.length_take,List.length_drop,Array.length_toList]
    omega
   ·rw[th,<-hlen]
    exact List.take_left
  ·have holds:∀j u,xs[j]?=some u->w.cell? ((⟨b,0,none⟩:Addr).add j)=some u:=λj u hu=>by
    rw[vR,hb.cell]
    rw[<-th,List.getElem?_take] at hu
    split at hu
    ·simpa using hu
    ·cases hu
   have hr:=run_append_grow (P:=P) w t ty T i z ht hi hz ⟨b,0,none⟩ n cap xs dY.1 holds ⟨ab,aoff,none⟩ m c news hl uq om om (growslice_fits om xv)
   have lx:=grown cap om
   exact⟨_,_,_,hr,lx.1,lx.2,.inr rfl⟩
end
structure iw (L:List Nat) (w:World) (T:TypeId) (sz:Nat) (v:Value) (g:Option Nat) (rows:List (List C)) (xs:List Value):Prop where
 own:jX w T sz v g rows.length xs
 rep:dQ (g.toList++L) w xs rows.flatten
 row:∀row,row∈rows->row.length=sz
 out:∀b,g=some b->b∉L
theorem iw.nil (L:List Nat) (w:World) (T:TypeId) (sz:Nat):iw L w T sz (.slice none 0 0) none [] []:=
 ⟨jX.nil _ _ _,trivial,sm,sm⟩
theorem iw.aO {T:TypeId} {rows:List (List C)} (h:iw L w T sz v g rows xs) (k:ak L' w w') 
  (hL:∀x,x∈L'->x∈L):iw L w' T sz v g rows xs:=
 ⟨h.own.aO k (λb e hx=>h.out b e (hL b hx)),h.rep.aO (k.mono λx hx=>by simp[hL x hx]),h.row,h.out⟩
theorem iw.more {L':List Nat} {T:TypeId} {rows:List (List C)} (h:iw L w T sz v g rows xs) 
  (hL:∀x,x∈L'->x∈L∨w.heap.size<=x):iw L' w T sz v g rows xs:=
 ⟨h.own,h.rep.fresh (λx hx=>by
   rcases mA.1 hx with hx|hx
   ·exact .inl (by simp[hx])
   ·rcases hL x hx with h1|h1
    ·exact .inl (by simp[h1])
    ·exact .inr h1),h.row,λb e hx=>by rcases hL b hx with h1|h1;exact h.out b e h1;have:=h.own.lt b e;omega⟩
theorem iw.len {T:TypeId} {rows:List (List C)} (h:iw L w T sz v g rows xs):∃a cap,v= .slice a rows.length cap:=h.own.len
theorem EC {α:Type}:∀{rows:List (List α)},(∀row,row∈rows->row.length=sz)->∀{i j:Nat} {row:List α} {c:α},rows[i]?=some row->row[j]?=some c->rows.flatten[i*sz+j]?=some c
 |r::rows,h,0,j,row,c,hi,hj=>by
  simp only[List.getElem?_cons_zero,Option.some.injEq] at hi
  subst hi
  simp only[List.flatten_cons,Nat.zero_mul,Nat.zero_add]
  rw[List.getElem?_append_left (List.getElem?_eq_some_iff.1 hj).1];exact hj
 |r::rows,h,i+1,j,row,c,hi,hj=>by
  have hr:r.length=sz:=h r sm
  have:=EC (rows:=rows) (λrow hr=>h row (by simp[hr])) (i:=i) (by simpa using hi) hj
  rw[List.flatten_cons,List.getElem?_append_right (by rw[hr,Nat.add_mul];omega),hr]
  rw[<-this];congr 1;rw[Nat.add_mul];omega
theorem Pu {α:Type}:∀{rows:List (List α)},(∀row,row∈rows->row.length=sz)->rows.flatten.length=rows.length*sz
 |[],_=>by simp
 |r::rows,h=>by
  rw[List.flatten_cons,lA,h r sm,Pu (λrow hr=>h row (by simp[hr])),lC,Nat.add_mul];omega
theorem iw.done {T:TypeId} {rows:List (List C)} (h:iw L w T sz v g rows xs):cD L w v (.sl sz rows):=by
 have ie:=h.rep.fresh (L':=L) (λx hx=>.inl (by simp[hx]))
 rcases h.own.2 with⟨rfl,hn,_⟩|⟨b,cap,cur,e,rfl,hb,mM,mo,cJ,th⟩
 ·rw[List.length_eq_zero_iff.1 hn];exact .nil _ _ _
 ·have mN:=h.own.1
  refine .sl b 0 rows.length cap sz rows (λi j=>xs.getD (i*sz+j) undef) rfl mM hb.lt (h.out b e) h.row (λi j hi hj=>?_) (λi j row c hi hj=>?_)
  ·have eU:i*sz+j<xs.length:=by
    rw[mN]
    have:(i+1)*sz<=rows.length*sz:=Nat.mul_le_mul_right _ hi
    rw[Nat.add_mul] at this;omega
   rw[Nat.zero_add,hb.cell,gG,gE eU]
   simp only[Option.getD_some]
   have h2:xs[i*sz+j]?=some xs[i*sz+j]:=gE eU
   rw[<-h2,<-th,List.getElem?_take,iP (by rw[<-mN];exact eU)]
   simp
  ·have hf:=EC h.row hi hj
   have eU:i*sz+j<xs.length:=by rw[ie.length];exact(List.getElem?_eq_some_iff.1 hf).1
   have h2:xs[i*sz+j]?=some xs[i*sz+j]:=gE eU
   have:=ie.get h2 hf
   rw[gG,h2];exact this
theorem iw.app {P:Program} {L:List Nat} {w:World} {t ty T:TypeId} {i:TypeInfo} {sz bytes:Nat} (ht:P.underlying t=some (.slice T)) (hi:P.info? T=some i) (hz:i.zero=some z) 
  (Bc:i.size=sz) (ig:i.bytes=bytes) (xu:z.cells.size=sz)
  {v:Value} {g:Option Nat} {rows:List (List C)} {xs:List Value} (h:iw L w T sz v g rows xs)
  (ab aoff m c:Nat) (new:List (List C)) (news:List Value) (hm:new.length=m) (ti:0<m) (iI:∀row,row∈new->row.length=sz) (Bd:iH w ab aoff news) (h1:∀u∈news,u.oneCell'=true)
  (hr:dQ (g.toList++L) w news new.flatten) (hL:∀x,x∈L->x<w.heap.size)
  (hb:(rows.length+m)*(bytes+1)<=140737488355328):
  ∃v' g' w',(Builtin.append_ #[t,t] ty #[v,.slice (some ⟨ab,aoff,none⟩) m c]).run P w= .ok v' w'∧iw L w' T sz v' g' (rows++new) (xs++news)∧ak g.toList w w'∧
   (g'=g∨g'=some w.heap.size):=by
 have oT:news.length=m*sz:=by rw[hr.length,Pu iI,hm]
 have aU:(rows.length+m)*bytes+(rows.length+m)<=140737488355328:=by rw[Nat.mul_add,Nat.mul_one] at hb;exact hb
 obtain⟨v',g',w',kl,dY,hk,hg⟩:=Pt (P:=P) (w:=w) (ty:=ty) ht hi hz Bc ig xu h.own ab aoff m c news oT Bd h1 ti (by unfold maxLen;omega) om
 refine⟨v',g',w',kl,⟨by rw[lA,hm];exact dY,?_,?_,?_⟩,hk,hg⟩
 ·have h2:=(h.rep.append hr).aO (hk.mono (L':=g.toList++L) λx hx=>by simp[hx])
  rw[List.flatten_append]
  have h3:dQ (g.toList++L) w (xs++news) (rows.flatten++new.flatten):=h.rep.append hr
  rcases hg with rfl|rfl
  ·exact h2
  ·exact(h3.fresh (L':=(some w.heap.size).toList++(g.toList++L)) (λx hx=>by
    rcases mA.1 hx with hx|hx
    ·right;simp at hx;omega
    ·exact .inl hx)).aO (hk.mono λx hx=>by simp[hx]) |>.fresh (λx hx=>.inl (by
    rcases mA.1 hx with hx|hx
    ·exact List.mem_append_left _ hx
    ·exact mR _ (mR _ hx)))
 ·intro row hx
  rcases mA.1 hx with hx|hx
  ·exact h.row row hx
  ·exact iI row hx
 ·intro b e hx
  rcases hg with rfl|rfl
  ·exact h.out b e hx
  ·have:=hL b hx
   simp at e;omega
def gate (ops:Array Oper) (e:Env):Option (Nat×Bool)->Bool
 |none=>true
 |some (j,want)=>match(ops.toList[j]?).bind (·.dst) with
  |some t=>match e t with
   | .bool b=>b==want
   |_=>false
  |none=>false
theorem ED {e:Env} {a:Act} (h:Fits n e a) (o:Oper):Region.wanted o (yielded ops a.tmps)=gate ops e o.guard:=by
 unfold Region.wanted gate
 cases hg:o.guard with
 |none=>rfl
 |some p=>
  obtain⟨j,want⟩:=p
  simp only[yielded]
  have hj:ops.toList[j]?=ops[j]?:=by simp
  rw[hj]
  cases hd:(ops[j]?).bind (·.dst) with
  |none=>cases want<;>rfl
  |some t=>
   simp only[Option.bind_some]
   have jE:=h.get t
   rw[Array.getD_eq_getD_getElem?] at jE
   cases hx:a.tmps[t]? with
   |none=>
    rw[hx] at jE
    simp only[Option.getD_none] at jE
    rw[<-jE]
    cases want<;>simp[undef]
   |some v=>
    rw[hx] at jE
    simp only[Option.getD_some] at jE
    rw[<-jE]
    cases v<;>cases want<;>first|rfl|(rename_i b;cases b<;>rfl)
section
variable {P:Program} {n:Nat} {ops:Array Oper} {K:Env->World->Prop} {rest:List Oper} {e:Env} {w w':World}
 {dst:Option Nat} {ty:TypeId} {pos:String} {after:Array Edge} {g:Option (Nat×Bool)}
theorem ag (h:K e w):OW P n ops K [] e w:=λ_ ha _=>⟨e,ha,h⟩
theorem fT {op:Op} (hg:gate ops e g=true) (hd:dw n dst=true) (kl:(execOp (ev e) ⟨dst,op,ty,pos,after,g⟩).run P w= .ok (.value v) w') 
  (k:OW P n ops K rest (cO e dst v) w'):OW P n ops K (⟨dst,op,ty,pos,after,g⟩::rest) e w:=λa ha Q=>by
 unfold wpList
 rw[iP (by rw[ED ha];exact hg)]
 refine .inl ?_
 unfold Oper.wp
 rw[ha.eval,kl,Oper.upon_value]
 exact k _ (ha.cO hd v) Q
theorem Hz {op:Op} (hg:gate ops e g=true) (kl:(execOp (ev e) ⟨none,op,ty,pos,after,g⟩).run P w= .ok .skip w') 
  (k:OW P n ops K rest e w'):OW P n ops K (⟨none,op,ty,pos,after,g⟩::rest) e w:=λa ha Q=>by
 unfold wpList
 rw[iP (by rw[ED ha];exact hg)]
 refine .inl ?_
 unfold Oper.wp
 rw[ha.eval,kl,Oper.upon_skip]
 exact k _ (ha.cO (d:=none) rfl undef) Q
theorem Kd {op:Op} (hg:gate ops e g=false) (hd:dw n dst=true) (k:OW P n ops K rest (cO e dst undef) w):OW P n ops K (⟨dst,op,ty,pos,after,g⟩::rest) e w:=λa ha Q=>by
 unfold wpList
 rw[iN (by rw[ED ha];simp[hg])]
 exact k _ (ha.cO hd undef) Q
theorem du {op:Op} (k:OW P n ops K rest (cO e dst undef) w) (hg:gate ops e g=false:=by rfl) (hd:dw n dst=true:=by rfl):OW P n ops K (⟨dst,op,ty,pos,after,g⟩::rest) e w:=Kd hg hd k
theorem Pv {args:List Value} (h:tg P f):(callFunc f args.toArray).run P w= .ok (.enter f args.toArray) w:=by
 obtain⟨fn,hf,hb,hn⟩:=h
 have CY:¬fn.name= "runtime.NumGoroutine":=by simpa using hn
 have gW:¬fn.body=none:=by intro h;simp[h] at hb
 simp[callFunc,hf,gW,CY]
theorem WW {xs:List Operand} {ats:Array TypeId} (hg:gate ops e g=true) (hd:dw n dst=true) (h:bZ P f (xs.map (ev e)) w S) 
  (k:∀v w',S v w'->OW P n ops K rest (cO e dst v) w'):OW P n ops K (⟨dst,.call {callee:=.value (.func f),args:=xs.toArray,argTypes:=ats},ty,pos,after,g⟩::rest) e w:=λa ha Q=>by
 unfold wpList
 rw[iP (by rw[ED ha];exact hg)]
 refine .inl ?_
 unfold Oper.wp
 have kl:(execOp (ev e) ⟨dst,.call {callee:=.value (.func f),args:=xs.toArray,argTypes:=ats},ty,pos,after,g⟩).run P w= .ok (.enter f (xs.map (ev e)).toArray) w:=by
  simp only[execOp,resolve,ev,Deferred.ofValue,Sem.run_bind,Sem.run_pure,Result.andThen_ok,invoke]
  simp[Pv h.1]
 rw[ha.eval,kl,Oper.upon_enter]
 exact Calls.mono h.2 λx w' ⟨v,hx,hs⟩=>by subst hx;exact k v w' hs _ (ha.cO hd v) Q
theorem aC {xs:List Operand} {ats:Array TypeId} (h:bZ P f (xs.map (ev e)) w S) (k:∀v w',S v w'->OW P n ops K rest (cO e dst v) w') (hg:gate ops e g=true:=by rfl) (hd:dw n dst=true:=by rfl):OW P n ops K (⟨dst,.call {callee:=.value (.func f),args:=xs.toArray,argTypes:=ats},ty,pos,after,g⟩::rest) e w:=WW hg hd h k
theorem WX (hg:gate ops e g=true) (hd:dw n dst=true) (k:OW P n ops K rest (cO e dst (ev e x)) w):OW P n ops K (⟨dst,.move x,ty,pos,after,g⟩::rest) e w:=
 fT hg hd (by simp[execOp]) k
theorem WY (hg:gate ops e g=true) (hd:dw n dst=true) (k:OW P n ops K rest (cO e dst (ev e x)) w):OW P n ops K (⟨dst,.assign x,ty,pos,after,g⟩::rest) e w:=
 fT hg hd (by simp[execOp]) k
theorem WZ {c:Operand} {t:Bool} (hg:gate ops e g=true) (hd:dw n dst=true) (hc:ev e c= .bool t) (k:OW P n ops K rest (cO e dst (bif t then ev e x else ev e y)) w):
  OW P n ops K (⟨dst,.pick c x y,ty,pos,after,g⟩::rest) e w:=
 fT hg hd (by cases t<;>simp[execOp,hc,asBool]) k
theorem W0 {a:Addr} (hg:gate ops e g=true) (hd:dw n dst=true) (hx:ev e x= .pointer (some a)) (k:OW P n ops K rest (cO e dst (.pointer (some a))) w):
  OW P n ops K (⟨dst,.nilCheck x,ty,pos,after,g⟩::rest) e w:=
 fT hg hd (by simp[execOp,hx]) k
theorem di {a:Addr} (hx:ev e x= .pointer (some a)) (k:OW P n ops K rest (cO e dst (.pointer (some a))) w) (hg:gate ops e g=true:=by rfl) (hd:dw n dst=true:=by rfl):OW P n ops K (⟨dst,.nilCheck x,ty,pos,after,g⟩::rest) e w:=W0 hg hd hx k
/-! ### sq blocks -/
theorem Pw {T:TypeId} {cs:Array Value} (hg:gate ops e g=true) (hd:dw n dst=true) (hx:(ev e x).cells=cs) 
  (k:∀w',ak [] w w'->aY w' w.heap.size cs T->w'.heap.size=w.heap.size+1->OW P n ops K rest (cO e dst (.pointer (some ⟨w.heap.size,0,none⟩))) w'):
  OW P n ops K (⟨dst,.box T x,ty,pos,after,g⟩::rest) e w:=
 fT hg hd (w':=w.alloc (.cells cs T)) (by simp[execOp,Instr.box,newVar,newRow,hx]) (k _ (ak.alloc _ _ _) (aY.alloc _ _ _) sm)
def TI (P:Program) (T:TypeId) (sz bytes:Nat) (z:Value):Prop:=(P.info? T).map (λi=>(i.zero,i.size,i.bytes))=some (some z,sz,bytes)
theorem TI.get {T:TypeId} (h:TI P T sz bytes z):∃i,P.info? T=some i∧i.zero=some z∧i.size=sz∧i.bytes=bytes:=by
 unfold TI at h
 cases hi:P.info? T with
 |none=>simp[hi] at h
 |some i=>simp[hi] at h;exact⟨i,rfl,h.1,h.2.1,h.2.2⟩
theorem TI.tj {T:TypeId} (h:TI P T sz bytes z) (w:World):(sizeOf T).run P w= .ok sz w:=by
 obtain⟨i,hi,hz,hs,hb⟩:=h.get
 simp[sizeOf,typeInfo,hi,hs]
theorem TI.Ke {T:TypeId} (h:TI P T sz bytes z) (w:World):(zeroValue T).run P w= .ok z w:=by
 obtain⟨i,hi,hz,hs,hb⟩:=h.get
 simp[zeroValue,typeInfo,hi,hz]
theorem W1 {T:TypeId} {cs:Array Value} (hT:TI P T sz bytes z) (hg:gate ops e g=true) (hd:dw n dst=true) (hx:z.cells=cs) 
  (k:∀w',ak [] w w'->aY w' w.heap.size cs T->w'.heap.size=w.heap.size+1->OW P n ops K rest (cO e dst (.pointer (some ⟨w.heap.size,0,none⟩))) w'):
  OW P n ops K (⟨dst,.alloc T,ty,pos,after,g⟩::rest) e w:=
 fT hg hd (w':=w.alloc (.cells cs T)) (by simp[execOp,Instr.alloc,hT.Ke,newVar,newRow,hx]) (k _ (ak.alloc _ _ _) (aY.alloc _ _ _) sm)
/-! ### Addresses,loads,stores -/
def qM (P:Program) (T:TypeId):Bool:=match P.underlying T with
 |some (.struct _)|some (.array _ _)|none=>false
 |_=>true
theorem W2 {T:TypeId} (h:qM P T=true) (w:World):(isAgg T).run P w= .ok false w:=by
 unfold qM at h
 cases hu:P.underlying T with
 |none=>simp[hu] at h
 |some d=>cases d<;>simp[hu] at h<;>simp[isAgg,underlying,hu]
def tl (P:Program) (T:TypeId):Bool:=match P.underlying T with
 |some (.struct _)|some (.array _ _)=>true
 |_=>false
theorem Px {T:TypeId} (h:tl P T=true) (w:World):(isAgg T).run P w= .ok true w:=by
 unfold tl at h
 cases hu:P.underlying T with
 |none=>simp[hu] at h
 |some d=>cases d<;>simp[hu] at h<;>simp[isAgg,underlying,hu]
theorem vS (b o j:Nat):(⟨b,o,none⟩:Addr).add j=⟨b,o+j,none⟩:=by unfold Addr.add;split<;>simp_all
theorem W3 {T:TypeId} {a:Addr} (hT:qM P T=true) (hg:gate ops e g=true) (hd:dw n dst=true) (hx:ev e x= .pointer (some a)) (hc:w.cell? a=some v) 
  (k:OW P n ops K rest (cO e dst v) w):OW P n ops K (⟨dst,.load T x,ty,pos,after,g⟩::rest) e w:=
 fT hg hd (by simp[execOp,Instr.loadAt,Instr.sureAddr,hx,loadVar,W2 hT,hc]) k
theorem W4 {T:TypeId} {x:Operand} {b o:Nat} {vs:List Value} (hT:tl P T=true) (kK:TI P T sz bytes z) (hg:gate ops e g=true) (hd:dw n dst=true) 
  (hx:ev e x= .pointer (some ⟨b,o,none⟩)) (hc:iH w b o vs) (hl:vs.length=sz)
  (k:OW P n ops K rest (cO e dst (.agg vs.toArray)) w):OW P n ops K (⟨dst,.load T x,ty,pos,after,g⟩::rest) e w:=
 fT hg hd (by
  have:=run_loadCells_list (P:=P) w ⟨b,o,none⟩ vs (λj v hv=>by rw[vS];exact hc j v hv)
  rw[hl] at this
  simp[execOp,Instr.loadAt,Instr.sureAddr,hx,loadVar,Px hT,kK.tj,this]) k
theorem W5 {u:Value} (h1:v.oneCell'=true) (hc:w.cell? ⟨b,o,none⟩=some u) (hf:w.frozen? ⟨b,o,none⟩=false):(storeCells ⟨b,o,none⟩ [v]).run P w= .ok () (w.setCell ⟨b,o,none⟩ v):=by
 simp[storeCells,vS,run_store P w _ v _ h1,hc,hf]
theorem Kf {T:TypeId} {x y:Operand} {b o:Nat} {v:Value} {cs:Array Value} {U:TypeId} (kK:TI P T sz bytes z) (iY:sz=1) (hg:gate ops e g=true) 
  (hx:ev e x= .pointer (some ⟨b,o,none⟩)) (hy:ev e y=v) (h1:v.oneCell'=true) (hb:aY w b cs U) (ho:o<cs.size)
  (k:∀w',ak [b] w w'->aY w' b (cs.setIfInBounds o v) U->w'.heap.size=w.heap.size->OW P n ops K rest e w'):OW P n ops K (⟨none,.store T x y,ty,pos,after,g⟩::rest) e w:=
 Hz hg (w':=w.setCell ⟨b,o,none⟩ v) (by
  have hc:v.cells=#[v]:=by cases v<;>first|rfl|(simp[Value.oneCell'] at h1)
  have hs:=W5 (P:=P) (w:=w) (b:=b) (o:=o) (v:=v) (u:=cs[o]) h1 (by rw[hb.cell,Array.getElem?_eq_getElem ho]) (hb.frozen o)
  subst iY
  simp[execOp,Instr.storeAt,Instr.sureAddr,hx,hy,storeVar,hc,kK.tj,hs]) (k _ (ak.setCell _ _ _ _) (hb.set o v) (by simp[World.setCell]))
theorem Py:∀(vs:List Value) (i:Nat) (pre:List Value) (w:World) (b:Nat) (U:TypeId) (cs:Array Value),aY w b cs U->cs.size=pre.length+vs.length->i=pre.length->cs.toList.take i=pre->(∀u∈vs,u.oneCell'=true)->
  ∃w',(storeCells ⟨b,0,none⟩ vs i).run P w= .ok () w'∧ak [b] w w'∧aY w' b (pre++vs).toArray U∧w'.heap.size=w.heap.size
 |[],i,pre,w,b,U,cs,hb,hs,hi,ht,_=>by
  refine⟨w,rfl,ak.refl _ _,?_,rfl⟩
  have:cs=(pre++[]).toArray:=by
   apply Array.ext'
   simp only[List.append_nil] at*
   rw[<-ht,List.take_of_length_le (by simp;simp at hs;omega)]
  rw[<-this];exact hb
 |v::vs,i,pre,w,b,U,cs,hb,hs,hi,ht,h1=>by
  have mL:i<cs.size:=by simp at hs;omega
  have bg:(store ((⟨b,0,none⟩:Addr).add i) v).run P w= .ok () (w.setCell ⟨b,i,none⟩ v):=by
   rw[vS,Nat.zero_add,run_store P w _ v _ (h1 v sm),hb.cell,Array.getElem?_eq_getElem mL,hb.frozen]
   simp
  obtain⟨w',hr,hk,gW,hz⟩:=Py vs (i+1) (pre++[v]) (w.setCell ⟨b,i,none⟩ v) b U (cs.setIfInBounds i v) (hb.set i v) (by simp at hs⊢;omega) so
   (by
    rw[Array.toList_setIfInBounds,List.take_add_one,List.getElem?_set_self (by simpa using mL),List.take_set_of_le (lR i),ht];simp)
   (λu hu=>h1 u (by simp[hu]))
  refine⟨w',?_,(ak.setCell w b i v).trans hk,by simpa using gW,by rw[hz];simp[World.setCell]⟩
  simp only[storeCells,Sem.run_bind,bg,Result.andThen_ok]
  exact hr
theorem W6 {T:TypeId} {x y:Operand} {b:Nat} {vs:List Value} {cs:Array Value} {U:TypeId} (kK:TI P T sz bytes z) (hg:gate ops e g=true) 
  (hx:ev e x= .pointer (some ⟨b,0,none⟩)) (hy:ev e y= .agg vs.toArray) (hl:vs.length=sz) (h1:∀u∈vs,u.oneCell'=true) (hb:aY w b cs U) (cJ:cs.size=sz)
  (k:∀w',ak [b] w w'->aY w' b vs.toArray U->w'.heap.size=w.heap.size->OW P n ops K rest e w'):OW P n ops K (⟨none,.store T x y,ty,pos,after,g⟩::rest) e w:=by
 obtain⟨w',hr,hk,gW,hz⟩:=Py (P:=P) vs 0 [] w b U cs hb so rfl sm h1
 exact Hz hg (w':=w') (by
  simp[execOp,Instr.storeAt,Instr.sureAddr,hx,hy,storeVar,Value.cells,kK.tj,hl,hr]) (k _ hk (by simpa using gW) hz)
def ix (P:Program) (S i:Nat):Option Nat:=match P.underlying S with
 |some (.struct fs)=>match fs[i]? with
  |some f=>match P.info? f.type with
   |some t=>if t.size=0 then none else some f.offset
   |none=>none
  |none=>none
 |_=>none
theorem W7 {S:Nat} (h:ix P S i=some off):(Instr.fieldAt S (.pointer (some ⟨b,o,none⟩)) i).run P w= .ok (.pointer (some ⟨b,o+off,none⟩)) w:=by
 unfold ix at h
 cases hu:P.underlying S with
 |none=>simp[hu] at h
 |some d=>
  cases d<;>simp[hu] at h
  rename_i fs
  cases hf:fs[i]? with
  |none=>simp[hf] at h
  |some f=>
   simp only[hf] at h
   cases hi:P.info? f.type with
   |none=>simp[hi] at h
   |some t=>
    simp only[hi] at h
    by_cases hz:t.size=0
    ·simp[hz] at h
    ·simp[hz] at h
     simp[Instr.fieldAt,run_underlying hu,hf,Instr.sureAddr,fieldPlace,sizeOf,typeInfo,hi,hz,vS,h]
theorem W8 {S:Nat} (hS:ix P S i=some off) (hg:gate ops e g=true) (hd:dw n dst=true) (hx:ev e x= .pointer (some ⟨b,o,none⟩)) 
  (k:OW P n ops K rest (cO e dst (.pointer (some ⟨b,o+off,none⟩))) w):OW P n ops K (⟨dst,.fieldAddr S x i,ty,pos,after,g⟩::rest) e w:=
 fT hg hd (by simp[execOp,hx,W7 hS]) k
theorem W9 {T E:TypeId} {x y:Operand} {b o len cap i:Nat} {ki:IntKind} (hT:P.underlying T=some (.slice E)) (hE:TI P E sz bytes z) (hg:gate ops e g=true) (hd:dw n dst=true) 
  (hx:ev e x= .slice (some ⟨b,o,none⟩) len cap) (hy:ev e y= .int ki (i:Int)) (hi:i<len)
  (k:OW P n ops K rest (cO e dst (.pointer (some ⟨b,o+i*sz,none⟩))) w):OW P n ops K (⟨dst,.indexAddr T x y,ty,pos,after,g⟩::rest) e w:=
 fT hg hd (by
  have h2:¬len<=i:=by omega
  simp[execOp,Instr.indexAt,hx,hy,asIntOf,run_underlying hT,h2,hE.tj,vS]) k
theorem Xa {T E:TypeId} {a:Option Addr} {cap:Nat} (hT:P.underlying T=some (.slice E)) (hg:gate ops e g=true) (hd:dw n dst=true) (hx:ev e x= .slice a m cap) 
  (k:OW P n ops K rest (cO e dst (.int .i64 m)) w):OW P n ops K (⟨dst,.call {callee:=.builtin .len,args:=#[x],argTypes:=#[T]},ty,pos,after,g⟩::rest) e w:=
 fT hg hd (by
  simp[execOp,resolve,invoke,builtin,hx,Builtin.len_,run_underlying hT,goInt]) k
theorem eh {T E:TypeId} {a:Option Addr} {cap:Nat} (hT:P.underlying T=some (.slice E)) (hx:ev e x= .slice a m cap) (k:OW P n ops K rest (cO e dst (.int .i64 m)) w) (hg:gate ops e g=true:=by rfl) (hd:dw n dst=true:=by rfl):OW P n ops K (⟨dst,.call {callee:=.builtin .len,args:=#[x],argTypes:=#[T]},ty,pos,after,g⟩::rest) e w:=Xa hT hg hd hx k
theorem Xb {T:TypeId} {s:ByteArray} (hT:P.underlying T=some .string) (hg:gate ops e g=true) (hd:dw n dst=true) (hx:ev e x= .string s) (hm:s.size=m) 
  (k:OW P n ops K rest (cO e dst (.int .i64 m)) w):OW P n ops K (⟨dst,.call {callee:=.builtin .len,args:=#[x],argTypes:=#[T]},ty,pos,after,g⟩::rest) e w:=
 fT hg hd (by
  simp[execOp,resolve,invoke,builtin,hx,Builtin.len_,run_underlying hT,goInt,hm]) k
theorem Xc (hg:gate ops e g=true) (hd:dw n dst=true) (hx:ev e x= .tuple vs.toArray) (hi:vs[i]?=some v) 
  (k:OW P n ops K rest (cO e dst v) w):OW P n ops K (⟨dst,.extract x i,ty,pos,after,g⟩::rest) e w:=
 fT hg hd (by simp[execOp,Instr.extract,hx,hi]) k
end
abbrev str (l:List UInt8):Value:=.string ⟨l.toArray⟩
section
variable {P:Program} {n:Nat} {ops:Array Oper} {K:Env->World->Prop} {rest:List Oper} {e:Env} {w w':World}
 {dst:Option Nat} {ty:TypeId} {pos:String} {after:Array Edge} {g:Option (Nat×Bool)} {T T':TypeId} {x y:Operand}
theorem Xd {b:Int} (hg:gate ops e g=true) (hd:dw n dst=true) (hx:ev e x= .int k a) (hy:ev e y= .int k' b) (hk:k=k':=by rfl) 
  (c:OW P n ops K rest (cO e dst (.bool (decide (a<b)))) w):OW P n ops K (⟨dst,.binOp .lss T x y T',ty,pos,after,g⟩::rest) e w:=
 fT hg hd (by subst hk;cases k<;>simp[execOp,eqGuard,hx,hy,binOp,Op.intCmp]) c
theorem fJ {b:Int} (hx:ev e x= .int k a) (hy:ev e y= .int k' b) (hk:k=k':=by rfl) (c:OW P n ops K rest (cO e dst (.bool (decide (a<b)))) w) (hg:gate ops e g=true:=by rfl) (hd:dw n dst=true:=by rfl):OW P n ops K (⟨dst,.binOp .lss T x y T',ty,pos,after,g⟩::rest) e w:=Xd hg hd hx hy hk c
theorem qN {b:Int} (hg:gate ops e g=true) (hd:dw n dst=true) (hx:ev e x= .int k a) (hy:ev e y= .int k' b) (hk:k=k':=by rfl) 
  (c:OW P n ops K rest (cO e dst (.bool (decide (a<=b)))) w):OW P n ops K (⟨dst,.binOp .leq T x y T',ty,pos,after,g⟩::rest) e w:=
 fT hg hd (by subst hk;cases k<;>simp[execOp,eqGuard,hx,hy,binOp,Op.intCmp]) c
theorem jx {b:Int} (hg:gate ops e g=true) (hd:dw n dst=true) (hx:ev e x= .int k a) (hy:ev e y= .int k' b) (hk:k=k':=by rfl) 
  (c:OW P n ops K rest (cO e dst (.bool (decide (b<a)))) w):OW P n ops K (⟨dst,.binOp .gtr T x y T',ty,pos,after,g⟩::rest) e w:=
 fT hg hd (by subst hk;cases k<;>simp[execOp,eqGuard,hx,hy,binOp,Op.intCmp]) c
theorem lU {b:Int} (hg:gate ops e g=true) (hd:dw n dst=true) (hx:ev e x= .int k a) (hy:ev e y= .int k' b) (hk:k=k':=by rfl) 
  (c:OW P n ops K rest (cO e dst (.bool (decide (b<=a)))) w):OW P n ops K (⟨dst,.binOp .geq T x y T',ty,pos,after,g⟩::rest) e w:=
 fT hg hd (by subst hk;cases k<;>simp[execOp,eqGuard,hx,hy,binOp,Op.intCmp]) c
theorem Xe {b:Int} (hg:gate ops e g=true) (hd:dw n dst=true) (hx:ev e x= .int k a) (hy:ev e y= .int k' b) (hk:k=k':=by rfl) 
  (c:OW P n ops K rest (cO e dst (.bool (decide (a=b)))) w):OW P n ops K (⟨dst,.binOp .eql T x y T',ty,pos,after,g⟩::rest) e w:=
 fT hg hd (by
  have h:(a==b)=decide (a=b):=by by_cases h:a=b<;>simp[h]
  subst hk;cases k<;>simp[execOp,eqGuard,hx,hy,binOp,Op.intCmp,h]) c
theorem dO {b:Int} (hx:ev e x= .int k a) (hy:ev e y= .int k' b) (hk:k=k':=by rfl) (c:OW P n ops K rest (cO e dst (.bool (decide (a=b)))) w) (hg:gate ops e g=true:=by rfl) (hd:dw n dst=true:=by rfl):OW P n ops K (⟨dst,.binOp .eql T x y T',ty,pos,after,g⟩::rest) e w:=Xe hg hd hx hy hk c
theorem ur {b:Int} (hg:gate ops e g=true) (hd:dw n dst=true) (hx:ev e x= .int k a) (hy:ev e y= .int k' b) (hk:k=k':=by rfl) 
  (c:OW P n ops K rest (cO e dst (.bool (decide (a≠b)))) w):OW P n ops K (⟨dst,.binOp .neq T x y T',ty,pos,after,g⟩::rest) e w:=
 fT hg hd (by
  have h:(a !=b)=decide (a≠b):=by by_cases h:a=b<;>simp[h]
  subst hk;cases k<;>simp[execOp,eqGuard,hx,hy,binOp,Op.intCmp,h]) c
theorem Xf {b c:Int} (hg:gate ops e g=true) (hd:dw n dst=true) (hx:ev e x= .int k a) (hy:ev e y= .int k' b) (hk:k=k':=by rfl) (hc:k.wrap (a+b)=c) 
  (c':OW P n ops K rest (cO e dst (.int k c)) w):OW P n ops K (⟨dst,.binOp .add T x y T',ty,pos,after,g⟩::rest) e w:=
 fT hg hd (by subst hk;cases k<;>simp[execOp,eqGuard,hx,hy,binOp,Op.intArith,hc]) c'
theorem eE {b c:Int} (hx:ev e x= .int k a) (hy:ev e y= .int k' b) (hk:k=k':=by rfl) (hc:k.wrap (a+b)=c) (c':OW P n ops K rest (cO e dst (.int k c)) w) (hg:gate ops e g=true:=by rfl) (hd:dw n dst=true:=by rfl):OW P n ops K (⟨dst,.binOp .add T x y T',ty,pos,after,g⟩::rest) e w:=Xf hg hd hx hy hk hc c'
theorem mO {b c:Int} (hg:gate ops e g=true) (hd:dw n dst=true) (hx:ev e x= .int k a) (hy:ev e y= .int k' b) (hk:k=k':=by rfl) (hc:k.wrap (a-b)=c) 
  (c':OW P n ops K rest (cO e dst (.int k c)) w):OW P n ops K (⟨dst,.binOp .sub T x y T',ty,pos,after,g⟩::rest) e w:=
 fT hg hd (by subst hk;cases k<;>simp[execOp,eqGuard,hx,hy,binOp,Op.intArith,hc]) c'
theorem Be {b c:Int} (hg:gate ops e g=true) (hd:dw n dst=true) (hx:ev e x= .int k a) (hy:ev e y= .int k' b) (hk:k=k':=by rfl) (hc:k.wrap (a*b)=c) 
  (c':OW P n ops K rest (cO e dst (.int k c)) w):OW P n ops K (⟨dst,.binOp .mul T x y T',ty,pos,after,g⟩::rest) e w:=
 fT hg hd (by subst hk;cases k<;>simp[execOp,eqGuard,hx,hy,binOp,Op.intArith,hc]) c'
theorem Kg {a:Nat} {c:Int} (hg:gate ops e g=true) (hd:dw n dst=true) (hx:ev e x= .int k (a:Int)) (hy:ev e y= .int k' (b:Int)) (hk:k=k':=by rfl) (hb:0<b) (hc:k.wrap ((a/b:Nat):Int)=c) 
  (c':OW P n ops K rest (cO e dst (.int k c)) w):OW P n ops K (⟨dst,.binOp .quo T x y T',ty,pos,after,g⟩::rest) e w:=
 fT hg hd (by
  have h1:¬b=0:=by omega
  subst hk
  cases k<;>simp[execOp,eqGuard,hx,hy,binOp,Op.intDiv,h1]<;>(try rw[<-hc])<;>(try simp)) c'
theorem EE {a:Nat} (hg:gate ops e g=true) (hd:dw n dst=true) (hx:ev e x= .int k (a:Int)) (hy:ev e y= .int k' (b:Int)) (hk:k=k':=by rfl) (hb:0<b) 
  (c':OW P n ops K rest (cO e dst (.int k ((a%b:Nat):Int))) w):OW P n ops K (⟨dst,.binOp .rem T x y T',ty,pos,after,g⟩::rest) e w:=
 fT hg hd (by
  have h1:¬b=0:=by omega
  have h2:(a:Int).tmod (b:Int)=((a:Int)%(b:Int)):=Int.tmod_eq_emod_of_nonneg om
  subst hk
  cases k<;>simp[execOp,eqGuard,hx,hy,binOp,Op.intDiv,h1,h2]) c'
theorem Xg {b:Bool} (hg:gate ops e g=true) (hd:dw n dst=true) (hx:ev e x= .bool b) (c:OW P n ops K rest (cO e dst (.bool (!b))) w):
  OW P n ops K (⟨dst,.unOp .not T x,ty,pos,after,g⟩::rest) e w:=
 fT hg hd (by simp[execOp,Op.unary,hx]) c
theorem eH {b:Bool} (hx:ev e x= .bool b) (c:OW P n ops K rest (cO e dst (.bool (!b))) w) (hg:gate ops e g=true:=by rfl) (hd:dw n dst=true:=by rfl):OW P n ops K (⟨dst,.unOp .not T x,ty,pos,after,g⟩::rest) e w:=Xg hg hd hx c
theorem Pz {a b:Bool} (hT:P.underlying T=some .bool) (hg:gate ops e g=true) (hd:dw n dst=true) (hx:ev e x= .bool a) (hy:ev e y= .bool b) 
  (c:OW P n ops K rest (cO e dst (.bool (a==b))) w):OW P n ops K (⟨dst,.binOp .eql T x y T',ty,pos,after,g⟩::rest) e w:=
 fT hg hd (by simp[execOp,eqGuard,hx,hy,run_eql_bool w T a b hT]) c
theorem Kh {a b:Bool} (hT:P.underlying T=some .bool) (hg:gate ops e g=true) (hd:dw n dst=true) (hx:ev e x= .bool a) (hy:ev e y= .bool b) 
  (c:OW P n ops K rest (cO e dst (.bool (!(a==b)))) w):OW P n ops K (⟨dst,.binOp .neq T x y T',ty,pos,after,g⟩::rest) e w:=
 fT hg hd (by simp[execOp,eqGuard,hx,hy,run_neq_bool w T a b hT]) c
/-! ### Strings -/
theorem Xh {a b:List UInt8} (hg:gate ops e g=true) (hd:dw n dst=true) (hx:ev e x=str a) (hy:ev e y=str b) (hs:a.length+b.length<=9223372036854775807) 
  (c:OW P n ops K rest (cO e dst (str (a++b))) w):OW P n ops K (⟨dst,.binOp .add T x y T',ty,pos,after,g⟩::rest) e w:=
 fT hg hd (by
  have h1:¬(IntKind.i64.max<(a.length:Int)+(b.length:Int)):=by
   have:IntKind.i64.max=9223372036854775807:=by decide
   omega
  have h2:(⟨a.toArray⟩:ByteArray)++⟨b.toArray⟩=⟨(a++b).toArray⟩:=by
   apply ByteArray.ext;simp
  simp[execOp,eqGuard,hx,hy,binOp,Op.stringOp,ByteArray.size,h2]
  omega) c
theorem cm {a b:List UInt8} (hx:ev e x=str a) (hy:ev e y=str b) (hs:a.length+b.length<=9223372036854775807) (c:OW P n ops K rest (cO e dst (str (a++b))) w) (hg:gate ops e g=true:=by rfl) (hd:dw n dst=true:=by rfl):OW P n ops K (⟨dst,.binOp .add T x y T',ty,pos,after,g⟩::rest) e w:=Xh hg hd hx hy hs c
theorem Xi {a b:List UInt8} (hg:gate ops e g=true) (hd:dw n dst=true) (hx:ev e x=str a) (hy:ev e y=str b) 
  (c:OW P n ops K rest (cO e dst (.bool (decide (a=b)))) w):OW P n ops K (⟨dst,.binOp .eql T x y T',ty,pos,after,g⟩::rest) e w:=
 fT hg hd (by
  have h:(a==b)=decide (a=b):=by by_cases h:a=b<;>simp[h]
  simp[execOp,eqGuard,hx,hy,binOp,Op.stringOp,h]) c
theorem cW {a b:List UInt8} (hx:ev e x=str a) (hy:ev e y=str b) (c:OW P n ops K rest (cO e dst (.bool (decide (a=b)))) w) (hg:gate ops e g=true:=by rfl) (hd:dw n dst=true:=by rfl):OW P n ops K (⟨dst,.binOp .eql T x y T',ty,pos,after,g⟩::rest) e w:=Xi hg hd hx hy c
theorem jF {a b:List UInt8} (hg:gate ops e g=true) (hd:dw n dst=true) (hx:ev e x=str a) (hy:ev e y=str b) 
  (c:OW P n ops K rest (cO e dst (.bool (decide (a≠b)))) w):OW P n ops K (⟨dst,.binOp .neq T x y T',ty,pos,after,g⟩::rest) e w:=
 fT hg hd (by
  have h:(a==b)=decide (a=b):=by by_cases h:a=b<;>simp[h]
  simp[execOp,eqGuard,hx,hy,binOp,Op.stringOp,h]) c
theorem kC {a:List UInt8} {i:Nat} {b:UInt8} (hT:P.underlying T=some .string) (hg:gate ops e g=true) (hd:dw n dst=true) (hx:ev e x=str a) (hy:ev e y= .int k (i:Int)) (hi:a[i]?=some b) 
  (c:OW P n ops K rest (cO e dst (.int .u8 b.toNat)) w):OW P n ops K (⟨dst,.index T x y,ty,pos,after,g⟩::rest) e w:=
 fT hg hd (by
  obtain⟨hl,he⟩:=List.getElem?_eq_some_iff.1 hi
  have hr:=run_index_string (P:=P) w T ⟨a.toArray⟩ k (i:Int) hT
  have iY:(⟨a.toArray⟩:ByteArray).size=a.length:=by simp[ByteArray.size]
  rw[dif_pos (by rw[iY];omega)] at hr
  simp only[execOp,hx,hy,Sem.run_bind,hr]
  simp only[Result.andThen_ok,Sem.run_pure,Int.toNat_natCast]
  rw[<-he];rfl) c
theorem Xj {a:List UInt8} {lo hi:Option Value} {l h:Nat} (hT:P.underlying T=some .string) 
  (CZ:(lo=none∧l=0)∨∃k,lo=some (.int k (l:Int))) (EF:(hi=none∧h=a.length)∨∃k,hi=some (.int k (h:Int))) (h1:l<=h) (h2:h<=a.length):
  (Instr.sliceAt T (str a) lo hi none).run P w= .ok (str ((a.drop l).take (h-l))) w:=by
 have e1:(⟨a.toArray⟩:ByteArray).extract l h=⟨((a.drop l).take (h-l)).toArray⟩:=ByteArray.extract_mk a l h
 have e2:(⟨a.toArray⟩:ByteArray).size=a.length:=by simp[ByteArray.size]
 rcases CZ with⟨rfl,rfl⟩|⟨k,rfl⟩<;>rcases EF with⟨rfl,rfl⟩|⟨k',rfl⟩<;>
  simp[Instr.sliceAt,Instr.slice,run_underlying hT,Instr.sliceBounds,Instr.sliceBound,asIntOf,e2,h1,h2,e1]
theorem Bf {a:List UInt8} {lo hi:Option Operand} {l h:Nat} (hT:P.underlying T=some .string) (hg:gate ops e g=true) (hd:dw n dst=true) (hx:ev e x=str a) 
  (CZ:(lo.map (ev e)=none∧l=0)∨∃k,lo.map (ev e)=some (.int k (l:Int))) (EF:(hi.map (ev e)=none∧h=a.length)∨∃k,hi.map (ev e)=some (.int k (h:Int))) (h1:l<=h) (h2:h<=a.length)
  (c:OW P n ops K rest (cO e dst (str ((a.drop l).take (h-l)))) w):OW P n ops K (⟨dst,.slice T x lo hi none,ty,pos,after,g⟩::rest) e w:=
 fT hg hd (by simp only[execOp,hx,Option.map_none,Sem.run_bind,Xj hT CZ EF h1 h2];rfl) c
theorem EG {L:List Nat} {E:TypeId} {lo:Operand} {b off len cap l:Nat} {k:IntKind} (hT:P.underlying T=some (.slice E)) (hE:TI P E sz bytes z) (hg:gate ops e g=true) (hd:dw n dst=true) 
  (hx:ev e x= .slice (some ⟨b,off,none⟩) len cap) (CZ:ev e lo= .int k (l:Int)) (hl:l<=len) {rows:List (List C)} (hr:cD L w (.slice (some ⟨b,off,none⟩) len cap) (.sl sz rows))
  (c:∀v,cD L w v (.sl sz (rows.drop l))->OW P n ops K rest (cO e dst v) w):OW P n ops K (⟨dst,.slice T x (some lo) none none,ty,pos,after,g⟩::rest) e w:=by
 have C1:len<=cap:=by cases hr with|nil=>exact Nat.zero_le _|sl _ _ _ _ _ _ _ hl hc=>exact hc
 refine fT hg hd (v:=.slice (if cap=l then some ⟨b,off,none⟩ else some ⟨b,off+l*sz,none⟩) (len-l) (cap-l)) (w':=w) ?_ (c _ (WS hr l hl _ (λh=>iN om) (λh=>iP om)))
 simp[execOp,Instr.sliceAt,Instr.slice,hx,CZ,run_underlying hT,Instr.sliceBounds,Instr.sliceBound,asIntOf,hl,hE.tj,vS]
theorem xw {S D:TypeId} {d:TypeDesc} {c:Int} (hS:P.underlying S=some d) (hD:P.underlying D=some (.int k')) (hg:gate ops e g=true) (hd:dw n dst=true) (hx:ev e x= .int k a) (hc:k'.wrap a=c) 
  (c':OW P n ops K rest (cO e dst (.int k' c)) w):OW P n ops K (⟨dst,.convert S D x,ty,pos,after,g⟩::rest) e w:=
 fT hg hd (by simp[execOp,convert,hx,run_underlying hS,run_underlying hD,Conv.intToInt,hc]) c'
end
theorem aY.ext {cs:Array Value} {T:TypeId} (h:aY w b cs T) (k:ak [] w w'):aY w' b cs T:=h.aO k sm
theorem cD.ext {c:C} (h:cD L w v c) (k:ak [] w w'):cD L w' v c:=h.aO k.any
theorem kB.ext {cs:List C} (h:kB L w v cs) (k:ak [] w w'):kB L w' v cs:=h.aO k.any
theorem iw.ext {T:TypeId} {rows:List (List C)} (h:iw L w T sz v g rows xs) (k:ak [] w w'):iw L w' T sz v g rows xs:=h.aO k sm
theorem ak.ext (h:ak L w0 w) (k:ak [] w w'):ak L w0 w':=h.trans k.any
theorem iH.ext (h:iH w b off vs) (k:ak [] w w'):iH w' b off vs:=λj v hj=>by
 have h1:=h j v hj
 have hb:b<w.heap.size:=World.block_lt_of_cell? w ⟨b,off+j,none⟩ h1
 exact(World.cell?_of_block (k.block b hb sm)).trans h1
theorem aY.at {T:TypeId} (h:aY w b vs.toArray T) (hv:vs[i]?=some v):w.cell? ⟨b,i,none⟩=some v:=by
 rw[h.cell];simpa using hv
theorem aY.all {T:TypeId} (h:aY w b vs.toArray T):iH w b 0 vs:=λj v hj=>by
 rw[Nat.zero_add];exact h.at hj
theorem wrap_i64 (x:Int) (h1: -9223372036854775808<=x) (h2:x<=9223372036854775807):IntKind.i64.wrap x=x:=by
 simp only[IntKind.wrap,IntKind.bits,IntKind.signed];simp;omega
theorem wrap_u8 (x:Int) (h1:0<=x) (h2:x<=255):IntKind.u8.wrap x=x:=by
 simp only[IntKind.wrap,IntKind.bits,IntKind.signed];simp;omega
theorem wrap_u64 (x:Int) (h1:0<=x) (h2:x<=18446744073709551615):IntKind.u64.wrap x=x:=by
 simp only[IntKind.wrap,IntKind.bits,IntKind.signed];simp;omega
section
variable {P:Program} {n:Nat} {ops:Array Oper} {K:Env->World->Prop} {rest:List Oper} {e:Env} {w w':World}
 {dst:Option Nat} {ty:TypeId} {pos:String} {after:Array Edge} {g:Option (Nat×Bool)} {T:TypeId} {x:Operand}
theorem Xk (hg:gate ops e g=true) (hd:dw n dst=true) (hx:ev e x= .agg vs.toArray) 
  (k:∀w',ak [] w w'->aY w' w.heap.size vs.toArray T->w'.heap.size=w.heap.size+1->OW P n ops K rest (cO e dst (.pointer (some ⟨w.heap.size,0,none⟩))) w'):
  OW P n ops K (⟨dst,.box T x,ty,pos,after,g⟩::rest) e w:=Pw hg hd (by rw[hx];rfl) k
theorem fA (hx:ev e x= .agg vs.toArray) (k:∀w',ak [] w w'->aY w' w.heap.size vs.toArray T->w'.heap.size=w.heap.size+1->OW P n ops K rest (cO e dst (.pointer (some ⟨w.heap.size,0,none⟩))) w') (hg:gate ops e g=true:=by rfl) (hd:dw n dst=true:=by rfl):OW P n ops K (⟨dst,.box T x,ty,pos,after,g⟩::rest) e w:=Xk hg hd hx k
theorem Ki (hg:gate ops e g=true) (hd:dw n dst=true) (hx:(ev e x).cells=[v].toArray) 
  (k:∀w',ak [] w w'->aY w' w.heap.size [v].toArray T->w'.heap.size=w.heap.size+1->OW P n ops K rest (cO e dst (.pointer (some ⟨w.heap.size,0,none⟩))) w'):
  OW P n ops K (⟨dst,.box T x,ty,pos,after,g⟩::rest) e w:=Pw hg hd hx k
theorem eC (hT:TI P T sz bytes (.agg vs.toArray)) (hg:gate ops e g=true) (hd:dw n dst=true) (_:vs=vs) 
  (k:∀w',ak [] w w'->aY w' w.heap.size vs.toArray T->w'.heap.size=w.heap.size+1->OW P n ops K rest (cO e dst (.pointer (some ⟨w.heap.size,0,none⟩))) w'):
  OW P n ops K (⟨dst,.alloc T,ty,pos,after,g⟩::rest) e w:=W1 hT hg hd rfl k
theorem tm (h:e t=v):kI e t v=e:=by
 funext u
 by_cases hu:u=t
 ·subst hu;rw[nJ,h]
 ·rw[Hx _ _ hu]
theorem xz {b:Bool} (ht:e t= .bool b) (h1:b=true->OW P n ops K l (kI e t (.bool true)) w) (h0:b=false->OW P n ops K l (kI e t (.bool false)) w):OW P n ops K l e w:=by
 cases b
 ·have:=h0 rfl;rwa [tm ht] at this
 ·have:=h1 rfl;rwa [tm ht] at this
theorem EH {t:Nat} {b:Bool} (ht:e t= .bool b) (h:OW P n ops K l (kI e t (.bool b)) w):OW P n ops K l e w:=by
 rwa [tm ht] at h
def aN (D:List Nat) (x e:Env):Env:=λt=>bif D.contains t then x t else e t
def gv (D:List Nat) (e e':Env):Prop:=∀t,D.contains t=false->e' t=e t
theorem Bg {e:Env}:gv D e e:=λ_ _=>rfl
theorem PA {e e':Env} (hd:D.contains d=true) (h:gv D e e'):gv D e (kI e' d v):=λt ht=>by
 have eN:t≠d:=λhe=>by subst he;rw[hd] at ht;cases ht
 rw[Hx _ _ eN];exact h t ht
theorem Xl {D2:List Nat} {e e' x:Env} (hd:D2.all D.contains=true) (h:gv D e e'):gv D e (aN D2 x e'):=λt ht=>by
 unfold aN
 cases hc:D2.contains t with
 |false=>exact h t ht
 |true=>
  have:=List.all_eq_true.1 hd t (by simpa using hc)
  rw[ht] at this;cases this
theorem alr [Decidable p] (h:decide p=true):p:=of_decide_eq_true h
theorem als [Decidable p] (h:decide p=false):¬p:=of_decide_eq_false h
theorem alu {b:Bool} (h:(!b)=true):b=false:=by simpa using h
theorem alv {b:Bool} (h:(!b)=false):b=true:=by simpa using h
theorem zh {e e':Env} (h:gv D e e'):aN D e' e=e':=by
 funext t
 unfold aN
 cases hc:D.contains t with
 |true=>rfl
 |false=>simp only[cond_false];exact(h t hc).symm
theorem Oper.Kj {o:Oper} {a:Act} {w:World} {H H':Act->World->Prop} {Q Q':Exit->Act->World->Prop} (h:∀a w,H a w->H' a w) 
  (hp:∀c a w,Q (.panic c) a w->Q' (.panic c) a w) (ho:LetsOut Q->LetsOut Q') (hh:o.wp P a w H Q):o.wp P a w H' Q':=by
 unfold Oper.wp at*
 generalize(execOp a.eval o).run P w=r at*
 cases r with
 |ok n w'=>
  cases n<;>simp only[Oper.upon] at hh⊢<;>
   first
    |exact h _ _ hh
    |exact Calls.mono hh (λe w'' he=>by cases e<;>first|exact h _ _ he|exact hp _ _ _ he|exact ho he)
    |exact Rows.mono hh (λ_ _ he=>h _ _ he)
 |halt x w'=>cases x<;>simp only[Oper.upon] at hh⊢<;>first|exact hp _ _ _ hh|exact hh
theorem Kk {N:Env->World->Prop} {l2:List Oper} (k:∀e' a' w',Fits n e' a'->N e' w'->wpList P ops (pC n K Q) l2 a' w'):
  ∀(l1:List Oper) (a:Act) (w:World),wpList P ops (pC n N Q) l1 a w->wpList P ops (pC n K Q) (l1++l2) a w
 |[],a,w,h=>by
  simp only[wpList,pC] at h
  obtain⟨e',hf,hn⟩:=h
  exact k e' a w hf hn
 |o::l,a,w,h=>by
  have hl:LetsOut (pC n N Q)->LetsOut (pC n K Q):=fun⟨a,w,hq⟩=>⟨a,w,hq⟩
  simp only[List.cons_append]
  unfold wpList at h⊢
  by_cases hw:Region.wanted o (yielded ops a.tmps)=true
  ·rw[iP hw] at h⊢
   rcases h with h|⟨h1,h2⟩
   ·exact .inl (Oper.Kj (λa' w' h'=>Kk k l a' w' h') (λ_ _ _ h=>h) hl h)
   ·exact .inr ⟨h1,hl h2⟩
  ·rw[iN hw] at h⊢
   exact Kk k l _ w h
theorem vT {l1 l2:List Oper} {N:Env->World->Prop} (h:OW P n ops N l1 e w) (k:∀e' w',N e' w'->OW P n ops K l2 e' w'):OW P n ops K (l1++l2) e w:=λa ha Q=>
 Kk (λe' a' w' hf hn=>k e' w' hn a' hf Q) l1 a w (h a ha Q)
theorem fU {l:List Oper} (m tc tp:Nat) (D:List Nat) {c r:Bool} (J:World->Prop) (ht:e tc= .bool c) 
  (h1:c=true->OW P n ops (λe' w'=>gv D e e'∧e' tp= .bool r∧J w') (l.take m) (kI e tc (.bool true)) w)
  (h0:c=false->OW P n ops (λe' w'=>gv D e e'∧e' tp= .bool false∧J w') (l.take m) (kI e tc (.bool false)) w)
  (k:∀x w',J w'->OW P n ops K (l.drop m) (kI (aN D x e) tp (.bool (c&&r))) w'):OW P n ops K l e w:=by
 rw[<-List.take_append_drop m l]
 cases c with
 |true=>
  have h:=h1 rfl
  rw[tm ht] at h
  refine vT h λe' w' ⟨ha,hp,hj⟩=>?_
  have:=k e' w' hj
  rw[zh ha,Bool.true_and,tm hp] at this
  exact this
 |false=>
  have h:=h0 rfl
  rw[tm ht] at h
  refine vT h λe' w' ⟨ha,hp,hj⟩=>?_
  have:=k e' w' hj
  rw[zh ha,Bool.false_and,tm hp] at this
  exact this
theorem fo {l:List Oper} (m tc tp:Nat) (D:List Nat) {c r:Bool} (J:World->Prop) (ht:e tc= .bool c) 
  (h1:c=true->OW P n ops (λe' w'=>gv D e e'∧e' tp= .bool true∧J w') (l.take m) (kI e tc (.bool true)) w)
  (h0:c=false->OW P n ops (λe' w'=>gv D e e'∧e' tp= .bool r∧J w') (l.take m) (kI e tc (.bool false)) w)
  (k:∀x w',J w'->OW P n ops K (l.drop m) (kI (aN D x e) tp (.bool (c||r))) w'):OW P n ops K l e w:=by
 rw[<-List.take_append_drop m l]
 cases c with
 |true=>
  have h:=h1 rfl
  rw[tm ht] at h
  refine vT h λe' w' ⟨ha,hp,hj⟩=>?_
  have:=k e' w' hj
  rw[zh ha,Bool.true_or,tm hp] at this
  exact this
 |false=>
  have h:=h0 rfl
  rw[tm ht] at h
  refine vT h λe' w' ⟨ha,hp,hj⟩=>?_
  have:=k e' w' hj
  rw[zh ha,Bool.false_or,tm hp] at this
  exact this
theorem kL {a:List UInt8} (hT:P.underlying T=some .string) (hg:gate ops e g=true) (hd:dw n dst=true) (hx:ev e x=str a) 
  (k:OW P n ops K rest (cO e dst (.int .i64 (a.length:Nat))) w):OW P n ops K (⟨dst,.call {callee:=.builtin .len,args:=#[x],argTypes:=#[T]},ty,pos,after,g⟩::rest) e w:=
 Xb hT hg hd hx (by simp[ByteArray.size]) k
theorem j6 {l:List (Nat×Operand)} (hb:(Instr.build T (l.map λp=>(p.1,ev e p.2)).toArray).run P w= .ok v w) (hg:gate ops e g=true) (hd:dw n dst=true) 
  (k:OW P n ops K rest (cO e dst v) w):OW P n ops K (⟨dst,.build T l.toArray,ty,pos,after,g⟩::rest) e w:=
 fT hg hd (by simp only[execOp,List.map_toArray,Sem.run_bind,hb];rfl) k
end
theorem gR {e:Env} {ty:Nat} {T:TypeId} (hA:tl P ty=true) (kK:TI P ty sz bytes z) (he:e t= .pointer (some ⟨b,0,none⟩)) (hb:aY w b vs.toArray T) (hl:vs.length=sz):
  Ps P e t ty (.agg vs.toArray) w:=by
 refine⟨⟨b,0,none⟩,he,?_⟩
 have:=run_loadCells_list (P:=P) w ⟨b,0,none⟩ vs (λj v hv=>by rw[vS];exact hb.all j v hv)
 rw[hl] at this
 simp[loadVar,Px hA,kK.tj,this]
def zZ:Nat->List Value->List (Nat×Value)
 |_,[]=>[]
 |k,v::l=>(k,v)::zZ (k+1) l
theorem mg {e e':Env} (h2:p) (h3:q) (h:gv D e e':=by repeat(first|with_reducible exact Bg|refine PA rfl ?_|refine Xl rfl ?_)):gv D e e'∧p∧q:=⟨h,h2,h3⟩
theorem dn {r:Prop} (h1:p) (h2:q) (h3:r:=by first|exact qO|exact Bg):p∧q∧r:=⟨h1,h2,h3⟩
def qd (F:List (Value->World->Prop)) (i:Nat):Value->World->Prop:=F.getD i (λ_ _=>True)
def HA (F:List (Value->World->Prop)) (vs:Nat->Value) (w:World):List Nat->Prop
 |[]=>True
 |[j]=>qd F j (vs j) w
 |j::r=>qd F j (vs j) w∧HA F vs w r
theorem PB {vs:Nat->Value}:∀{l:List Nat},(∀j,j∈l->qd F j (vs j) w)->HA F vs w l
 |[],_=>trivial
 |[j],h=>h j sm
 |j::k::r,h=>⟨h j sm,PB (l:=k::r) λi hi=>h i (by simp at hi⊢;right;exact hi)⟩
def tn (ds:List Nat) (vs:Nat->Value):List Nat->List (Nat×Value)
 |[]=>[]
 |j::r=>(ds.getD j 0,vs j)::tn ds vs r
structure Kept (KK:World->World->Prop):Prop where
 refl:∀w,KK w w
 trans:∀{a b c},KK a b->KK b c->KK a c
 of:∀{a b},ak [] a b->KK a b
theorem aS:Kept (ak []):=⟨ak.refl _,ak.trans,id⟩
def KS (b:Nat) (cs:List Value) (T:TypeId) (w w':World):Prop:=ak [b] w w'∧(aY w b cs.toArray T->aY w' b cs.toArray T)∧
 ((∃us:List Value,us.length=cs.length∧aY w b us.toArray T)->∃us:List Value,us.length=cs.length∧aY w' b us.toArray T)
theorem cQ (b:Nat) (cs:List Value) (T:TypeId):Kept (KS b cs T):=
 ⟨λ_=>⟨ak.refl _ _,id,id⟩,λh k=>⟨h.1.trans k.1,λx=>k.2.1 (h.2.1 x),λx=>k.2.2 (h.2.2 x)⟩,
  λh=>⟨h.any,λx=>x.aO h sm,fun⟨us,hl,x⟩=>⟨us,hl,x.aO h sm⟩⟩⟩
def tq (KK:World->World->Prop):List (Value->World->Prop)->Prop
 |[]=>True
 |f::r=>(∀v w w',f v w->KK w w'->f v w')∧tq KK r
theorem PC {KK:World->World->Prop}:∀{F:List (Value->World->Prop)},tq KK F->∀f,f∈F->∀v w w',f v w->KK w w'->f v w'
 |[],_,_,h=>by cases h
 |g::r,h,f,hf=>by
  rcases mC.1 hf with rfl|hf
  ·exact h.1
  ·exact PC h.2 f hf
theorem cX {KK:World->World->Prop} {V:Value} (h:tq KK r):tq KK ((λv _=>v=V)::r):=⟨λ_ _ _ h _=>h,h⟩
theorem eV {KK:World->World->Prop} {V:Value} (h:tq KK r):tq KK ((λv _=>c->v=V)::r):=⟨λ_ _ _ h _=>h,h⟩
theorem C3 {cs:List Value} {T:TypeId} (h:tq (KS b cs T) r):tq (KS b cs T) ((λ_ w=>aY w b cs.toArray T)::r):=⟨λ_ _ _ h k=>k.2.1 h,h⟩
theorem Xm {KK:World->World->Prop} {f:Value->World->Prop} (hf:∀v w w',f v w->KK w w'->f v w') (h:tq KK r):tq KK (f::r):=⟨hf,h⟩
theorem qO {e:Env}:gv [d] e (cO e (some d) v):=PA sm Bg
def Kl (KK:World->World->Prop) (P:Program) (n:Nat) (ops:Array Oper) (W ds:List Nat) (F:List (Value->World->Prop)) (e0:Env) (w0:World) (k:Nat) (o:Oper) (deps:List Nat):Prop:=
 ∀(x:Env) (vs:Nat->Value) (w:World) (e:Env),KK w0 w->HA F vs w deps->e=aM (aN W x e0) (tn ds vs deps)->
  OW P n ops (λe' w'=>KK w w'∧qd F k (e' (ds.getD k 0)) w'∧gv [ds.getD k 0] e e') [o] e w
def Bh (KK:World->World->Prop) (P:Program) (n:Nat) (ops:Array Oper) (W ds:List Nat) (F:List (Value->World->Prop)) (e0:Env) (w0:World):Nat->List Oper->List (List Nat)->Prop
 |_,[],_=>True
 |_,_::_,[]=>True
 |k,o::l,d::r=>Kl KK P n ops W ds F e0 w0 k o d∧Bh KK P n ops W ds F e0 w0 (k+1) l r
def waits (o:Oper) (j:Nat):Bool:=o.after.toList.any λe=>Region.binds .any e&&e.on==j
def vU (l:List Oper) (m:Nat) (W ds:List Nat) (deps:List (List Nat)):Bool:=
 decide (m<=l.length)&&decide (ds.length=m)&&decide (deps.length=m)&&decide (ds.Nodup)&&
 (List.range l.length).all (λk=>match l[k]? with
  |some o=>o.after.toList.all (λe=>!Region.binds .any e||decide (e.on<k))&&
   (if k<m then W.contains (ds.getD k 0)&&(deps.getD k []).all (λj=>waits o j&&decide (j<m)) else(List.range k).all (λj=>(List.range (k+1)).any λx=>decide (j<x)&&(match l[x]? with|some o'=>waits o' j|none=>false)))
  |none=>false)
theorem bN {KK:World->World->Prop} {P:Program} {n:Nat} {ops:Array Oper} {W ds:List Nat} {F:List (Value->World->Prop)} {e0:Env} {w0:World} {k:Nat} {o:Oper} {l:List Oper} {d:List Nat} {r:List (List Nat)} 
  (h:Kl KK P n ops W ds F e0 w0 k o d) (hr:Bh KK P n ops W ds F e0 w0 (k+1) l r):Bh KK P n ops W ds F e0 w0 k (o::l) (d::r):=⟨h,hr⟩
theorem PD {KK:World->World->Prop} {W ds:List Nat} {e0:Env}:∀(l:List Oper) (deps:List (List Nat)) (k:Nat),Bh KK P n ops W ds F e0 w0 k l deps->
  ∀(i:Nat) (o:Oper) (d:List Nat),l[i]?=some o->deps[i]?=some d->Kl KK P n ops W ds F e0 w0 (k+i) o d
 |[],_,_,_,i,o,d,hi,_=>by simp at hi
 |_::_,[],_,_,i,o,d,_,hd=>by simp at hd
 |o'::l,d'::r,k,h,i,o,d,hi,hd=>by
  cases i with
  |zero=>simp at hi hd;subst hi;subst hd;exact h.1
  |succ i=>
   have:=PD l r (k+1) h.2 i o d (by simpa using hi) (by simpa using hd)
   rw[show k+1+i=k+(i+1) from by omega] at this;exact this
theorem EI {e:Env}:∀{l:List (Nat×Value)},(∀p,p∈l->e p.1=p.2)->aM e l=e
 |[],_=>rfl
 |p::r,h=>by
  simp only[aM,EI (e:=e) (l:=r) (λq hq=>h q (by simp[hq]))]
  exact tm (h p sm)
theorem Xn {KK:World->World->Prop} (hF:∀f,f∈F->∀v w w',f v w->KK w w'->f v w') (i:Nat) (h:qd F i v w) (k:KK w w'):qd F i v w':=by
 unfold qd at*
 rw[gG] at*
 cases hf:F[i]? with
 |none=>simp
 |some f=>
  simp only[hf,Option.getD_some] at h⊢
  exact hF f (List.mem_of_getElem? hf) v w w' h k
section
variable {P:Program} {n:Nat} {l:List Oper} {m:Nat} {W ds:List Nat} {deps:List (List Nat)}
theorem C4 (hB:vU l m W ds deps=true):m<=l.length∧ds.length=m∧deps.length=m∧ds.Nodup∧
  ∀k o,l[k]?=some o->(∀e∈o.after,Region.binds .any e=true->e.on<k)∧
   (k<m->W.contains (ds.getD k 0)=true∧∀j∈deps.getD k [],waits o j=true∧j<m)∧(m<=k->∀j,j<k->∃x o',j<x∧x<=k∧l[x]?=some o'∧waits o' j=true):=by
 simp only[vU,aE,dE] at hB
 obtain⟨⟨⟨⟨h1,h2⟩,h3⟩,h4⟩,h5⟩:=hB
 refine⟨h1,h2,h3,h4,λk o hk=>?_⟩
 have gS:k<l.length:=(List.getElem?_eq_some_iff.1 hk).1
 have:=List.all_eq_true.1 h5 k (List.mem_range.2 gS)
 simp only[hk,aE] at this
 obtain⟨ha,hb⟩:=this
 refine⟨λe he uw=>?_,λeU=>?_,λhle j hj=>?_⟩
 ·have:=List.all_eq_true.1 ha e (by simpa using he)
  simpa[uw] using this
 ·rw[iP eU] at hb
  simp only[aE,List.all_eq_true,dE] at hb
  exact⟨hb.1,λj hj=>hb.2 j hj⟩
 ·rw[iN om] at hb
  have:=List.all_eq_true.1 hb j (List.mem_range.2 hj)
  obtain⟨x,hx,fF⟩:=List.any_eq_true.1 this
  rw[List.mem_range] at hx
  simp only[aE,dE] at fF
  cases ho:l[x]? with
  |none=>rw[ho] at fF;cases fF.2
  |some o'=>rw[ho] at fF;exact⟨x,o',fF.1,om,ho,fF.2⟩
theorem Km {o:Oper} (h:waits o j=true):∃e∈o.after,Region.binds .any e=true∧e.on=j:=by
 simp only[waits,List.any_eq_true,aE,beq_iff_eq] at h
 obtain⟨e,he,hb,hj⟩:=h
 exact⟨e,by simpa using he,hb,hj⟩
def HB (l:List Oper) (listed:Array Bool):Prop:=∀j o,l[j]?=some o->listed.getD j false=true->∀e∈o.after,Region.binds .any e=true->listed.getD e.on false=true
theorem Kn {k:Nat} {o:Oper} {listed:Array Bool} (ov:HB l listed) (ho:l[k]?=some o) (hr:∀e∈o.after,Region.binds .any e=true->listed.getD e.on false=true) 
  (hw:∀j,j<k->∃x o',j<x∧x<=k∧l[x]?=some o'∧waits o' j=true):∀d j,j+d=k->0<d->listed.getD j false=true:=by
 intro d
 induction d using Nat.strongRecOn with
 |_ d ih=>
  intro j hj hd
  obtain⟨x,o',h1,h2,h3,h4⟩:=hw j om
  obtain⟨e,he,hb,kM⟩:=Km h4
  rcases Nat.lt_or_ge x k with hx|hx
  ·have:=ih (k-x) om x om om
   rw[<-kM];exact ov x o' h3 this e he hb
  ·have Xo:x=k:=by omega
   subst Xo
   rw[ho] at h3;cases h3
   rw[<-kM];exact hr e he hb
theorem HC (hB:vU l m W ds deps=true) {Q:Exit->Act->World->Prop}:∀(fuel k:Nat) (listed:Array Bool) (a:Act) (w:World),m<=k->k+fuel=l.length->listed.size=l.length->
  (∀j,j<l.length->(listed.getD j true=false↔k<=j))->wpList P l.toArray Q (l.drop k) a w->wpAny P .any l.toArray Q fuel listed a w:=by
 obtain⟨_,_,_,_,ow⟩:=C4 hB
 intro fuel
 induction fuel with
 |zero=>
  intro k listed a w Bi hk hs hl h
  have gS:k=l.length:=by omega
  refine⟨?_,?_⟩
  ·cases hr:Region.ready .any l.toArray listed with
   |nil=>rfl
   |cons i is=>
    have hi:i∈Region.ready .any l.toArray listed:=by rw[hr];simp
    obtain⟨hu,o,ho,_⟩:=mem_ready.1 hi
    have mL:i<l.length:=by simpa using(Array.getElem?_eq_some_iff.1 ho).1
    have:=(hl i mL).1 hu
    omega
  ·rw[gS,List.drop_length] at h;exact h
 |succ fuel ih=>
  intro k listed a w Bi hk hs hl h
  have gS:k<l.length:=by omega
  obtain⟨o,ho⟩:∃o,l[k]?=some o:=⟨l[k],gE gS⟩
  have zj:∀j,j<k->listed.getD j false=true:=λj hj=>by
   have h1:¬listed.getD j true=false:=λhh=>by have:=(hl j om).1 hh;omega
   rw[Array.getD_eq_getD_getElem?] at h1⊢
   have:j<listed.size:=by omega
   rw[Array.getElem?_eq_getElem this] at h1⊢
   simpa using h1
  have PE:k∈Region.ready .any l.toArray listed:=mem_ready.2 ⟨(hl k gS).2 (lR _),o,by simpa using ho,λe he hb=>zj _ ((ow k o ho).1 e he hb)⟩
  have Xp:∀i,i∈Region.ready .any l.toArray listed->i=k:=λi hi=>by
   obtain⟨hu,oi,Ko,dA⟩:=mem_ready.1 hi
   have mL:i<l.length:=by simpa using(Array.getElem?_eq_some_iff.1 Ko).1
   have j7:=(hl i mL).1 hu
   rcases Nat.eq_or_lt_of_le j7 with he|eU
   ·exact he.symm
   ·have ov:HB l listed:=λj o ho hj e he hb=>by
     have hjk:j<k:=by
      rcases Nat.lt_or_ge j k with h|h
      ·exact h
      ·have vQ:=(List.getElem?_eq_some_iff.1 ho).1
       have h2:=(hl j vQ).2 h
       rw[Array.getD_eq_getD_getElem?,Array.getElem?_eq_getElem om] at hj h2
       simp at hj h2
       rw[h2] at hj;cases hj
     have:=(ow j o ho).1 e he hb
     exact zj _ om
    have:=Kn ov (by simpa using Ko) dA ((ow i oi (by simpa using Ko)).2.2 om) (i-k) k om om
    have h2:=(hl k gS).2 (lR _)
    rw[Array.getD_eq_getD_getElem?] at this h2
    have Bj:k<listed.size:=by omega
    rw[Array.getElem?_eq_getElem Bj] at this h2
    simp at this h2
    rw[h2] at this;cases this
  refine⟨λhr=>(by rw[hr] at PE;cases PE),λi hi=>?_⟩
  have:=Xp i hi
  subst this
  have hd:l.drop i=o::l.drop (i+1):=by
   rw[List.drop_eq_getElem_cons gS]
   congr 1
   exact(List.getElem?_eq_some_iff.1 ho).2
  rw[hd] at h
  have zk:∀j,j<l.length->((listed.setIfInBounds i true).getD j true=false↔i+1<=j):=λj hj=>by
   by_cases lV:i=j
   ·subst lV
    have:i<listed.size:=by omega
    simp[Array.getD_eq_getD_getElem?,this]
   ·rw[getD_set_ne true lV,hl j hj];omega
  unfold wpOp
  have mP:l.toArray[i]?=some o:=by simpa using ho
  simp only[mP]
  unfold wpList at h
  by_cases hw:Region.wanted o (yielded l.toArray a.tmps)=true
  ·rw[iP hw] at h⊢
   exact h.imp (λh=>Oper.wp_mono (λa' w' h'=>ih (i+1) _ a' w' om om (by simpa using hs) zk h') h) id
  ·rw[iN hw] at h⊢
   exact ih (i+1) _ _ w om om (by simpa using hs) zk h
theorem Xq {KK:World->World->Prop} (Bl:Kept KK) {N:Env->World->Prop} {e0:Env} {w0:World} (hB:vU l m W ds deps=true) (hF:∀f,f∈F->∀v w w',f v w->KK w w'->f v w') 
  (hc:Bh KK P n l.toArray W ds F e0 w0 0 (l.take m) deps)
  (tail:∀(x:Env) (vs:Nat->Value) (w:World),KK w0 w->(∀i,i<m->qd F i (vs i) w)->OW P n l.toArray N (l.drop m) (aM (aN W x e0) (tn ds vs (List.range m))) w) (Q:Exit->Act->World->Prop):
  ∀(fuel:Nat) (listed:Array Bool) (e:Env) (a:Act) (w:World),Fits n e a->KK w0 w->gv W e0 e->listed.size=l.length->
   ((List.range l.length).filter λj=>!listed.getD j true).length=fuel->
   (∀j,m<=j->j<l.length->listed.getD j true=false)->(∀j,j<m->listed.getD j true=true->qd F j (e (ds.getD j 0)) w)->HB l listed->
   wpAny P .any l.toArray (pC n N Q) fuel listed a w:=by
 obtain⟨C5,EJ,Kp,jy,ow⟩:=C4 hB
 have zj:∀(listed:Array Bool) (j:Nat),listed.size=l.length->j<l.length->¬listed.getD j true=false->listed.getD j false=true:=λlisted j hs hj h1=>by
  rw[Array.getD_eq_getD_getElem?] at h1⊢
  rw[Array.getElem?_eq_getElem om] at h1⊢
  simpa using h1
 have EK:∀(listed:Array Bool) (j:Nat),listed.size=l.length->j<l.length->listed.getD j false=true->listed.getD j true=true:=λlisted j hs hj h1=>by
  rw[Array.getD_eq_getD_getElem?] at h1⊢
  rw[Array.getElem?_eq_getElem om] at h1⊢
  simpa using h1
 intro fuel
 induction fuel with
 |zero=>
  intro listed e a w hf hk ha hs Bm gw jG ov
  have dA:∀j,j<l.length->listed.getD j true=true:=λj hj=>by
   cases hg:listed.getD j true with
   |true=>rfl
   |false=>
    have:j∈(List.range l.length).filter λj=>!listed.getD j true:=by rw[List.mem_filter,List.mem_range];exact⟨hj,by rw[hg];rfl⟩
    rw[List.length_eq_zero_iff.1 Bm] at this;cases this
  have hm:m=l.length:=by
   rcases Nat.lt_or_ge m l.length with h|h
   ·have:=gw m (lR _) h;rw[dA m h] at this;cases this
   ·omega
  have ht:=tail e (λi=>e (ds.getD i 0)) w hk (λi hi=>jG i hi (dA i om))
  rw[zh ha,EI (by
   intro p hp
   have:∀(r:List Nat),p∈tn ds (λi=>e (ds.getD i 0)) r->e p.1=p.2:=by
    intro r
    induction r with
    |nil=>intro h;cases h
    |cons j r ih=>
     intro h
     rcases mC.1 h with h|h
     ·subst h;rfl
     ·exact ih h
   exact this _ hp)] at ht
  have h2:=ht a hf Q
  exact HC hB 0 m listed a w (lR _) om hs (λj hj=>⟨λh=>(by rw[dA j hj] at h;cases h),λh=>om⟩) h2
 |succ fuel ih=>
  intro listed e a w hf hk ha hs Bm gw jG ov
  by_cases ux:∀j,j<m->listed.getD j true=true
  ·have ht:=tail e (λi=>e (ds.getD i 0)) w hk (λi hi=>jG i hi (ux i hi))
   rw[zh ha,EI (by
    intro p hp
    have:∀(r:List Nat),p∈tn ds (λi=>e (ds.getD i 0)) r->e p.1=p.2:=by
     intro r
     induction r with
     |nil=>intro h;cases h
     |cons j r ih=>
      intro h
      rcases mC.1 h with h|h
      ·subst h;rfl
      ·exact ih h
    exact this _ hp)] at ht
   have h2:=ht a hf Q
   have zn:∀j,j<l.length->(listed.getD j true=false↔m<=j):=λj hj=>by
    constructor
    ·intro h
     rcases Nat.lt_or_ge j m with h'|h'
     ·rw[ux j h'] at h;cases h
     ·exact h'
    ·intro h;exact gw j h hj
   have zo:m+(fuel+1)=l.length:=by
    rw[<-Bm]
    have:∀k,k<=l.length->m<=k->((List.range k).filter λj=>!listed.getD j true).length=k-m:=by
     intro k
     induction k with
     |zero=>intro _ h;simp
     |succ k ihk=>
      intro gS Bi
      rw[List.range_succ,List.filter_append,lA]
      rcases Nat.lt_or_ge k m with h'|h'
      ·have PF:k+1=m:=by omega
       have hz:((List.range k).filter λj=>!listed.getD j true)=[]:=by
        rw[List.filter_eq_nil_iff]
        intro j hj
        rw[List.mem_range] at hj
        rw[ux j om];simp
       have e1:(!listed.getD k true)=false:=by rw[ux k h'];rfl
       simp only[hz,List.filter_cons,e1,List.filter_nil,List.length_nil]
       simp;omega
      ·rw[ihk om h']
       have e1:(!listed.getD k true)=true:=by rw[(zn k om).2 h'];rfl
       simp only[List.filter_cons,e1,List.filter_nil,if_true,lC,List.length_nil]
       omega
    have:=this l.length (lR _) C5
    omega
   exact HC hB (fuel+1) m listed a w (lR _) zo hs zn h2
  ·have hex:∃j,j<m∧listed.getD j true=false∧∀i,i<j->listed.getD i true=true:=by
    have:∀k,(∃j,j<k∧listed.getD j true=false∧∀i,i<j->listed.getD i true=true)∨∀j,j<k->listed.getD j true=true:=by
     intro k
     induction k with
     |zero=>right;intro j hj;omega
     |succ k ihk=>
      rcases ihk with⟨j,hj,h1,h2⟩|h
      ·exact .inl ⟨j,om,h1,h2⟩
      ·cases hg:listed.getD k true with
       |false=>exact .inl ⟨k,om,hg,h⟩
       |true=>
        right
        intro j hj
        rcases Nat.lt_or_ge j k with h'|h'
        ·exact h j h'
        ·rw[show j=k from by omega];exact hg
    rcases this m with h|h
    ·exact h
    ·exact absurd h ux
   obtain⟨j0,EL,EM,EN⟩:=hex
   obtain⟨o0,EO⟩:∃o,l[j0]?=some o:=⟨l[j0]'om,gE om⟩
   have nK:j0∈Region.ready .any l.toArray listed:=mem_ready.2 ⟨EM,o0,by simpa using EO,λed he hb=>by
    have eU:=(ow j0 o0 EO).1 ed he hb
    exact zj listed _ hs om (by rw[EN _ eU];simp)⟩
   refine⟨λhr=>(by rw[hr] at nK;cases nK),λi hi=>?_⟩
   obtain⟨hu,o,ho,dA⟩:=mem_ready.1 hi
   have mL:i<l.length:=by simpa using(Array.getElem?_eq_some_iff.1 ho).1
   have mP:l[i]?=some o:=by simpa using ho
   have qP:i<m:=by
    rcases Nat.lt_or_ge i m with h|h
    ·exact h
    ·have:=EK listed j0 hs om (Kn ov mP dA ((ow i o mP).2.2 h) (i-j0) j0 om om)
     rw[EM] at this;cases this
   obtain⟨hW,zq⟩:=(ow i o mP).2.1 qP
   obtain⟨dp,zt⟩:∃d,deps[i]?=some d:=⟨deps[i]'om,gE om⟩
   have EP:deps.getD i []=dp:=by rw[gG,zt];rfl
   rw[EP] at zq
   have jn:=PD (l.take m) deps 0 hc i o dp (by rw[List.getElem?_take,iP qP];exact mP) zt
   rw[Nat.zero_add] at jn
   have h1:=jn e (λj=>e (ds.getD j 0)) w _ hk (PB λj hj=>by
    obtain⟨Xr,zu⟩:=zq j hj
    obtain⟨ed,he,hb,uy⟩:=Km Xr
    exact jG j zu (EK listed j hs om (by rw[<-uy];exact dA ed he hb))) rfl
   rw[zh ha,EI (by
    intro p hp
    have:∀(r:List Nat),p∈tn ds (λi=>e (ds.getD i 0)) r->e p.1=p.2:=by
     intro r
     induction r with
     |nil=>intro h;cases h
     |cons j r ih=>
      intro h
      rcases mC.1 h with h|h
      ·subst h;rfl
      ·exact ih h
    exact this _ hp)] at h1
   have h2:=h1 a hf Q
   have next:∀(a':Act) (w':World),pC n (λe' w'=>KK w w'∧qd F i (e' (ds.getD i 0)) w'∧gv [ds.getD i 0] e e') Q .normal a' w'->
     wpAny P .any l.toArray (pC n N Q) fuel (listed.setIfInBounds i true) a' w':=λa' w' hq=>by
    obtain⟨e',Kq,pE,Kr,qe⟩:=hq
    refine ih _ e' a' w' Kq (Bl.trans hk pE) ?_ (by simpa using hs) ?_ ?_ ?_ ?_
    ·intro t ht
     have eN:t≠ds.getD i 0:=λhe=>by rw[he,hW] at ht;cases ht
     rw[qe t (by simpa using eN)];exact ha t ht
    ·have zo:∀k,k<=l.length->((List.range k).filter λj=>!(listed.setIfInBounds i true).getD j true).length+(if i<k then 1 else 0)=((List.range k).filter λj=>!listed.getD j true).length:=by
      intro k
      induction k with
      |zero=>simp
      |succ k ihk=>
       intro gS
       have xA:=ihk om
       rw[List.range_succ,List.filter_append,lA,List.filter_append,lA]
       by_cases uz:i=k
       ·subst uz
        rw[iN om] at xA
        have eU:i<listed.size:=by omega
        have e1:(listed.setIfInBounds i true).getD i true=true:=by simp[Array.getD_eq_getD_getElem?,eU]
        rw[iP om]
        simp only[List.filter_cons,e1,hu,List.filter_nil,Bool.not_true,Bool.not_false,if_true,Bool.false_eq_true,if_false,lC,List.length_nil]
        omega
       ·have e1:(listed.setIfInBounds i true).getD k true=listed.getD k true:=getD_set_ne true uz
        simp only[List.filter_cons,e1,List.filter_nil]
        have Xs:(i<k+1)↔(i<k):=by omega
        by_cases pD:i<k
        ·have c1:i<k+1:=by omega
         rw[iP pD] at xA;rw[iP c1];split<;>simp only[lC,List.length_nil]<;>omega
        ·have c1:¬i<k+1:=by omega
         rw[iN pD] at xA;rw[iN c1];split<;>simp only[lC,List.length_nil]<;>omega
     have:=zo l.length (lR _)
     rw[iP mL] at this
     omega
    ·intro j Ks vQ
     rw[getD_set_ne true om];exact gw j Ks vQ
    ·intro j zu hj
     by_cases lV:i=j
     ·subst lV;exact Kr
     ·rw[getD_set_ne true lV] at hj
      have eN:ds.getD j 0≠ds.getD i 0:=by
       rw[gG,gG,gE om,gE om]
       simp only[Option.getD_some]
       intro he
       exact lV ((List.getElem_inj jy).1 he.symm)
      rw[qe _ (by simpa using eN)]
      exact Xn hF j (jG j zu hj) pE
    ·intro j oj Bn hj e2 mq aZ
     have vV:∀x,listed.getD x false=true->(listed.setIfInBounds i true).getD x false=true:=λx hx=>by
      by_cases ER:i=x
      ·subst ER
       have:i<listed.size:=by omega
       simp[Array.getD_eq_getD_getElem?,this]
      ·rw[getD_set_ne false ER];exact hx
     by_cases lV:i=j
     ·subst lV
      rw[mP] at Bn;cases Bn
      exact vV _ (dA e2 mq aZ)
     ·rw[getD_set_ne false lV] at hj
      exact vV _ (ov j oj Bn hj e2 mq aZ)
   unfold wpOp
   simp only[ho]
   unfold wpList at h2
   by_cases hw:Region.wanted o (yielded l.toArray a.tmps)=true
   ·rw[iP hw] at h2⊢
    rcases h2 with h2|⟨h2,h3⟩
    ·refine .inl (Oper.Kj (λa' w' h'=>next a' w' h') (λ_ _ _ h=>h) (fun⟨a,w,hq⟩=>⟨a,w,hq⟩) h2)
    ·exact .inr ⟨h2,by obtain⟨a',w',hq⟩:=h3;exact⟨a',w',hq⟩⟩
   ·rw[iN hw] at h2⊢
    exact next _ _ h2
theorem qf {N R:Env->World->Prop} {X:Nat->Env->World->Prop} {id:Nat} {e0:Env} {w0:World} (hm:P.follows .mixedOrders=true) {KK:World->World->Prop} (Bl:Kept KK) (m:Nat) (W ds:List Nat) (deps:List (List Nat)) (F:List (Value->World->Prop)) 
  (hB:vU l m W ds deps=true) (hF:tq KK F)
  (hc:∀wd,KK w0 wd->Bh KK P n l.toArray W ds F e0 wd 0 (l.take m) deps)
  (tail:∀(x:Env) (vs:Nat->Value) (w:World),KK w0 w->(∀i,i<m->qd F i (vs i) w)->OW P n l.toArray N (l.drop m) (aM (aN W x e0) (tn ds vs (List.range m))) w):
  CW P n (.region id l.toArray true) N R X e0 w0:=λa ha=>by
 refine wp_region_any hm ?_
 have gN:ak [] w0 {w0 with drawn:=w0.drawn+1}:=ak.drew _ _
 have:=Xq Bl (N:=N) (e0:=e0) (w0:={w0 with drawn:=w0.drawn+1}) hB (PC hF) (hc _ (Bl.of gN)) (λx vs w hk=>tail x vs w (Bl.trans (Bl.of gN) hk)) (lu n N R X) l.length (Array.replicate l.length false) e0 a _ ha (Bl.refl _) Bg sm
  (by
   have:((List.range l.length).filter λj=>!(Array.replicate l.length false).getD j true)=List.range l.length:=by
    rw[List.filter_eq_self]
    intro j hj
    rw[List.mem_range] at hj
    simp[Array.getD_eq_getD_getElem?,hj]
   rw[this];simp)
  (by intro j _ hj;simp[Array.getD_eq_getD_getElem?,hj])
  (by
   intro j hj h
   have:=(C4 hB).1
   have pF:j<l.length:=by omega
   simp[Array.getD_eq_getD_getElem?,pF] at h)
  (by
   intro j o ho hj
   have pF:j<l.length:=(List.getElem?_eq_some_iff.1 ho).1
   simp[Array.getD_eq_getD_getElem?,pF] at hj)
 have e1:pC n N (lu n N R X)=lu n N R X:=by
  funext x a w;cases x<;>rfl
 rw[e1] at this
 simpa using this
end
class zv (p:Prop) (q:outParam Prop):Prop where
 imp:p->q
instance (priority:=low) {p:Prop}:zv p p:=⟨id⟩
instance {p:Prop} {i:Decidable p}:zv (@decide p i=true) p:=⟨of_decide_eq_true⟩
instance {p:Prop} {i:Decidable p}:zv (@decide p i=false) (¬p):=⟨of_decide_eq_false⟩
instance {b:Bool}:zv ((!b)=true) (b=false):=⟨λh=>by simpa using h⟩
instance {b:Bool}:zv ((!b)=false) (b=true):=⟨λh=>by simpa using h⟩
theorem bu [t:zv p q] (h:p):q:=t.imp h
section
variable {P:Program} {n:Nat} {N R:Env->World->Prop} {X:Nat->Env->World->Prop} {e:Env} {w:World}
theorem zc {c:Operand} {x y:Code} {t:Bool} (hc:ev e c= .bool t) [hp:zv (t=true) p] [hq:zv (t=false) q] (hx:p->CW P n x N R X e w) (hy:q->CW P n y N R X e w):CW P n (.cond c x y) N R X e w:=
 WM hc (λh=>hx (hp.imp h)) (λh=>hy (hq.imp h))
theorem zr {id:Nat} {y:Code} (h:OW P n l.toArray (λe w=>CW P n y N R X e w) l e w):CW P n ((Code.region id l.toArray false).seq y) N R X e w:=aQ (db h)
end
section
variable {P:Program} {n:Nat} {ops:Array Oper} {K:Env->World->Prop} {rest:List Oper} {e:Env} {w:World}
 {dst:Option Nat} {ty:TypeId} {pos:String} {after:Array Edge} {g:Option (Nat×Bool)} {x y:Operand} {T T':TypeId}
theorem zm (k:OW P n ops K rest (cO e dst (ev e x)) w) (hg:gate ops e g=true:=by rfl) (hd:dw n dst=true:=by rfl):OW P n ops K (⟨dst,.move x,ty,pos,after,g⟩::rest) e w:=WX hg hd k
theorem zA (k:OW P n ops K rest (cO e dst (ev e x)) w) (hg:gate ops e g=true:=by rfl) (hd:dw n dst=true:=by rfl):OW P n ops K (⟨dst,.assign x,ty,pos,after,g⟩::rest) e w:=WY hg hd k
theorem zs {op:Op} (k:OW P n ops K rest (cO e dst undef) w) (hg:gate ops e g=false:=by rfl) (hd:dw n dst=true:=by rfl):OW P n ops K (⟨dst,op,ty,pos,after,g⟩::rest) e w:=Kd hg hd k
theorem zp {c:Operand} {t:Bool} (hc:ev e c= .bool t) (k:OW P n ops K rest (cO e dst (bif t then ev e x else ev e y)) w) (hg:gate ops e g=true:=by rfl) (hd:dw n dst=true:=by rfl):OW P n ops K (⟨dst,.pick c x y,ty,pos,after,g⟩::rest) e w:=WZ hg hd hc k
theorem zf {S:Nat} (hS:ix P S i=some off) (hx:ev e x= .pointer (some ⟨b,o,none⟩)) (k:OW P n ops K rest (cO e dst (.pointer (some ⟨b,o+off,none⟩))) w) (hg:gate ops e g=true:=by rfl) (hd:dw n dst=true:=by rfl):
  OW P n ops K (⟨dst,.fieldAddr S x i,ty,pos,after,g⟩::rest) e w:=W8 hS hg hd hx k
theorem zl {a:Addr} (hT:qM P T=true) (hx:ev e x= .pointer (some a)) (hc:w.cell? a=some v) (k:OW P n ops K rest (cO e dst v) w) (hg:gate ops e g=true:=by rfl) (hd:dw n dst=true:=by rfl):
  OW P n ops K (⟨dst,.load T x,ty,pos,after,g⟩::rest) e w:=W3 hT hg hd hx hc k
theorem zL (hT:tl P T=true) (kK:TI P T sz bytes z) (hx:ev e x= .pointer (some ⟨b,o,none⟩)) (hc:iH w b o vs) (hl:vs.length=sz) (k:OW P n ops K rest (cO e dst (.agg vs.toArray)) w) (hg:gate ops e g=true:=by rfl) (hd:dw n dst=true:=by rfl):
  OW P n ops K (⟨dst,.load T x,ty,pos,after,g⟩::rest) e w:=W4 hT kK hg hd hx hc hl k
theorem zi {T E:TypeId} {len cap i:Nat} {ki:IntKind} (hT:P.underlying T=some (.slice E)) (hE:TI P E sz bytes z) (hx:ev e x= .slice (some ⟨b,o,none⟩) len cap) (hy:ev e y= .int ki (i:Int)) (hi:i<len) 
  (k:OW P n ops K rest (cO e dst (.pointer (some ⟨b,o+i*sz,none⟩))) w) (hg:gate ops e g=true:=by rfl) (hd:dw n dst=true:=by rfl):OW P n ops K (⟨dst,.indexAddr T x y,ty,pos,after,g⟩::rest) e w:=W9 hT hE hg hd hx hy hi k
theorem zx {i:Nat} (hx:ev e x= .tuple vs.toArray) (hi:vs[i]?=some v) (k:OW P n ops K rest (cO e dst v) w) (hg:gate ops e g=true:=by rfl) (hd:dw n dst=true:=by rfl):
  OW P n ops K (⟨dst,.extract x i,ty,pos,after,g⟩::rest) e w:=Xc hg hd hx hi k
end
abbrev aj:=List UInt8
inductive aA where
 |mk (az:aj) (au:List aA)
def aA.az:aA->aj| .mk a _=>a
def aA.au:aA->List aA| .mk _ p=>p
def fB (c:UInt8):Bool:=(97<=c&&c<=122)||(48<=c&&c<=57)||c==43||c==45||c==42||c==62
theorem PG (c:UInt8):((((((decide ((97:Int)<=c.toNat)&&decide ((c.toNat:Int)<=122))||(decide ((48:Int)<=c.toNat)&&decide ((c.toNat:Int)<=57)))||decide ((c.toNat:Int)=43))||decide ((c.toNat:Int)=45))||decide ((c.toNat:Int)=42))||decide ((c.toNat:Int)=62))=fB c:=by
 have e1:∀k:UInt8,decide (k<=c)=decide ((k.toNat:Int)<=c.toNat):=λk=>by simp[UInt8.le_iff_toNat_le]
 have e2:∀k:UInt8,decide (c<=k)=decide ((c.toNat:Int)<=k.toNat):=λk=>by simp[UInt8.le_iff_toNat_le]
 have e3:∀k:UInt8,(c==k)=decide ((c.toNat:Int)=k.toNat):=λk=>by
  rw[Bool.eq_iff_iff];simp[<-UInt8.toNat_inj];omega
 unfold fB
 rw[e1,e2,e1,e2,e3,e3,e3,e3]
 rfl
def iU (rd:aj->Option (aA×aj)):Nat->aj->Option (List aA×aj)
 |0,_=>none
 |n+1,s=>match rd s with
  |none=>none
  |some (t,r)=>match r with
   |[]=>none
   |c::r'=>if c=41 then some ([t],r') else if c=32 then(iU rd n r').map λp=>(t::p.1,p.2) else none
def fa:Nat->aj->Option (aA×aj)
 |0,s=>match s with
  |[]=>none
  |c::_=>if c=40 then none else if s.takeWhile fB=[] then none else some (.mk (s.takeWhile fB) [],s.dropWhile fB)
 |d+1,s=>match s with
  |[]=>none
  |c::r=>if c=40 then(iU (fa d) (r.length+1) r).map λp=>(.mk [] p.1,p.2)
   else if s.takeWhile fB=[] then none else some (.mk (s.takeWhile fB) [],s.dropWhile fB)
def HD (rd:aj->Option (aA×aj)):Prop:=∀s t r,rd s=some (t,r)->∃k,0<k∧k<=s.length∧r=s.drop k
theorem C6 (p:UInt8->Bool):∀s:aj,s.dropWhile p=s.drop (s.takeWhile p).length
 |[]=>rfl
 |c::s=>by
  by_cases h:p c=true
  ·simp[List.dropWhile,List.takeWhile,h,C6 p s]
  ·simp[List.dropWhile,List.takeWhile,h]
theorem ES (p:UInt8->Bool) (s:aj):(s.takeWhile p).length<=s.length:=by
 induction s with
 |nil=>simp
 |cons c s ih=>by_cases h:p c=true<;>simp[List.takeWhile,h]<;>omega
theorem PH {rd:aj->Option (aA×aj)} (fp:HD rd):∀n s ts r,iU rd n s=some (ts,r)->∃k,0<k∧k<=s.length∧r=s.drop k∧ts.length<=k
 |0,_,_,_,h=>by simp[iU] at h
 |n+1,s,ts,r,h=>by
  unfold iU at h
  cases hr:rd s with
  |none=>simp[hr] at h
  |some p=>
   obtain⟨t,r1⟩:=p
   obtain⟨k,gN,gS,rfl⟩:=fp s t r1 hr
   simp only[hr] at h
   cases hd:s.drop k with
   |nil=>simp[hd] at h
   |cons c r'=>
    simp only[hd] at h
    have rM:r'=s.drop (k+1):=by rw[<-List.drop_drop,hd];rfl
    have Xt:k+1<=s.length:=by
     have:=congrArg List.length hd
     simp at this;omega
    by_cases h1:c=41
    ·rw[iP h1] at h
     simp at h
     exact⟨k+1,om,Xt,by rw[<-h.2,rM],by rw[<-h.1];simp⟩
    ·rw[iN h1] at h
     by_cases h2:c=32
     ·rw[iP h2] at h
      cases hp:iU rd n r' with
      |none=>simp[hp] at h
      |some q=>
       obtain⟨ts',r''⟩:=q
       simp[hp] at h
       obtain⟨k',Xu,Xv,uA,ox⟩:=PH fp n r' ts' r'' hp
       refine⟨k+1+k',om,?_,?_,?_⟩
       ·have:=congrArg List.length rM
        simp at this;omega
       ·rw[<-h.2,uA,rM,List.drop_drop]
       ·rw[<-h.1];simp;omega
     ·rw[iN h2] at h;cases h
theorem HE:∀d,HD (fa d)
 |0,s,t,r,h=>by
  cases s with
  |nil=>simp[fa] at h
  |cons c s=>
   simp only[fa] at h
   by_cases h1:c=40
   ·rw[iP h1] at h;cases h
   ·rw[iN h1] at h
    by_cases h2:(c::s).takeWhile fB=[]
    ·rw[iP h2] at h;cases h
    ·rw[iN h2] at h
     simp only[Option.some.injEq,Prod.mk.injEq] at h
     refine⟨((c::s).takeWhile fB).length,?_,ES _ _,by rw[<-h.2,C6]⟩
     exact List.length_pos_iff.2 h2
 |d+1,s,t,r,h=>by
  cases s with
  |nil=>simp[fa] at h
  |cons c s=>
   simp only[fa] at h
   by_cases h1:c=40
   ·rw[iP h1] at h
    cases hp:iU (fa d) (s.length+1) s with
    |none=>simp[hp] at h
    |some q=>
     obtain⟨ts',r''⟩:=q
     simp[hp] at h
     obtain⟨k',Xu,Xv,uA,_⟩:=PH (HE d) _ s ts' r'' hp
     exact⟨k'+1,om,by simp;omega,by rw[<-h.2,uA];rfl⟩
   ·rw[iN h1] at h
    by_cases h2:(c::s).takeWhile fB=[]
    ·rw[iP h2] at h;cases h
    ·rw[iN h2] at h
     simp only[Option.some.injEq,Prod.mk.injEq] at h
     refine⟨((c::s).takeWhile fB).length,?_,ES _ _,by rw[<-h.2,C6]⟩
     exact List.length_pos_iff.2 h2
theorem PI {rd:aj->Option (aA×aj)} (fp:HD rd):∀n m s,s.length<n->s.length<m->iU rd n s=iU rd m s
 |0,_,_,h,_=>by omega
 |_+1,0,_,_,h=>by omega
 |n+1,m+1,s,hn,hm=>by
  unfold iU
  cases hr:rd s with
  |none=>rfl
  |some p=>
   obtain⟨t,r1⟩:=p
   obtain⟨k,gN,gS,rfl⟩:=fp s t r1 hr
   simp only
   cases hd:s.drop k with
   |nil=>rfl
   |cons c r'=>
    simp only
    have hl:r'.length+1+k=s.length:=by
     have:=congrArg List.length hd
     simp at this;omega
    rw[PI fp n m r' om om]
def rT (d:Nat) (s:aj):Option (aA×aj):=match d with
 |0=>none
 |d+1=>fa d s
theorem Kt:∀d,HD (rT d)
 |0=>λs t r h=>by simp[rT] at h
 |d+1=>HE d
def mQ (d:Nat) (s:aj):Option (List aA×aj):=iU (rT d) (s.length+1) s
theorem ET (d:Nat) (s:aj):mQ d s=match rT d s with
  |none=>none
  |some (t,r)=>match r with
   |[]=>none
   |c::r'=>if c=41 then some ([t],r') else if c=32 then(mQ d r').map λp=>(t::p.1,p.2) else none:=by
 unfold mQ
 conv=>lhs;unfold iU
 cases hr:rT d s with
 |none=>rfl
 |some p=>
  obtain⟨t,r1⟩:=p
  obtain⟨k,gN,gS,rfl⟩:=Kt d s t r1 hr
  simp only
  cases hd:s.drop k with
  |nil=>rfl
  |cons c r'=>
   simp only
   have hl:r'.length+1+k=s.length:=by
    have:=congrArg List.length hd
    simp at this;omega
   rw[PI (Kt d) s.length (r'.length+1) r' om om]
theorem Xw:∀n s,iU (rT 0) n s=none
 |0,_=>rfl
 |n+1,s=>by simp[iU,rT]
theorem C7 (d:Nat) (r:aj):fa d (40::r)=(mQ d r).map λp=>(.mk [] p.1,p.2):=by
 cases d with
 |zero=>simp[fa,mQ,Xw]
 |succ d=>simp[fa,mQ];rfl
theorem EU (d:Nat) (c:UInt8) (r:aj) (h:c≠40):fa d (c::r)=if(c::r).takeWhile fB=[] then none else some (.mk ((c::r).takeWhile fB) [],(c::r).dropWhile fB):=by
 cases d<;>simp[fa,h]
theorem PJ (d:Nat):fa d []=none:=by cases d<;>rfl
theorem drop_cons {α:Type} {s:List α} {c:α} (h:s[i]?=some c):s.drop i=c::s.drop (i+1):=by
 obtain⟨hl,he⟩:=List.getElem?_eq_some_iff.1 h
 rw[List.drop_eq_getElem_cons hl,he]
theorem Ku (p:UInt8->Bool):∀(s:aj) (k:Nat),k<=(s.takeWhile p).length->(k<(s.takeWhile p).length↔k<s.length∧p (s.getD k 0)=true)
 |[],k,h=>by simp
 |c::s,0,h=>by
  by_cases hc:p c=true
  ·simp[List.takeWhile,hc]
  ·simp[List.takeWhile,hc]
 |c::s,k+1,h=>by
  by_cases hc:p c=true
  ·simp only[List.takeWhile,hc,lC] at h⊢
   have:=Ku p s k om
   rw[List.getD_cons_succ,Nat.add_lt_add_iff_right,Nat.add_lt_add_iff_right]
   exact this
  ·simp[List.takeWhile,hc] at h
theorem jH {s:aj} {k:Nat} (h:k<s.length):s[k]?=some (s.getD k 0):=by
 rw[gG,gE h];rfl
theorem HF (p:UInt8->Bool) (s:aj):s.take (s.takeWhile p).length=s.takeWhile p:=by
 induction s with
 |nil=>rfl
 |cons c s ih=>by_cases hc:p c=true<;>simp[List.takeWhile,hc,ih]
theorem Xx (s:aj) (i k:Nat):(s.drop i).getD k 0=s.getD (i+k) 0:=by
 simp[gG,List.getElem?_drop]
theorem Xy (s:aj) {k:Nat} (uz:i<=k) (h:k-i<=((s.drop i).takeWhile fB).length):k-i<((s.drop i).takeWhile fB).length↔k<s.length∧fB (s.getD k 0)=true:=by
 have:=Ku fB (s.drop i) (k-i) h
 rw[Xx,List.length_drop,show i+(k-i)=k from by omega] at this
 rw[this]
 constructor
 ·rintro⟨h1,h2⟩;exact⟨by omega,h2⟩
 ·rintro⟨h1,h2⟩;exact⟨by omega,h2⟩
def Bo (n:Nat) (o:Option (aA×aj)) (t:aA) (en:Int):Prop:=match o with
 |some (t',r)=>t=t'∧en=((n-r.length:Nat):Int)
 |none=>en= -1
theorem Xz {s:aj} {k:Nat} {t:aA} {en:Int} (hm:Bo s.length (rT d (s.drop k)) t en) (he:en<0∨(s.length:Int)<=en) (hs:0<s.length):mQ d (s.drop k)=none:=by
 rw[ET]
 unfold Bo at hm
 cases hr:rT d (s.drop k) with
 |none=>rfl
 |some p=>
  obtain⟨t',r⟩:=p
  rw[hr] at hm
  obtain⟨_,h2⟩:=hm
  cases r with
  |nil=>rfl
  |cons c r'=>simp only[lC] at h2;omega
theorem XA {s:aj} {k:Nat} {t:aA} {en:Int} (hm:Bo s.length (rT d (s.drop k)) t en) (h0:0<=en) (h1:en<s.length):
  ∃m:Nat,en=m∧k<m∧m<s.length∧mQ d (s.drop k)=(if s.getD m 0=41 then some ([t],s.drop (m+1)) else if s.getD m 0=32 then(mQ d (s.drop (m+1))).map λp=>(t::p.1,p.2) else none):=by
 rw[ET]
 unfold Bo at hm
 cases hr:rT d (s.drop k) with
 |none=>rw[hr] at hm;omega
 |some p=>
  obtain⟨t',r⟩:=p
  rw[hr] at hm
  obtain⟨rfl,h2⟩:=hm
  obtain⟨j,EL,vQ,rfl⟩:=Kt d _ _ _ hr
  rw[List.length_drop] at vQ
  rw[List.drop_drop,List.length_drop] at h2
  have eU:k+j<s.length:=by omega
  refine⟨k+j,om,om,eU,?_⟩
  simp only[List.drop_drop]
  rw[drop_cons (jH eU)]
theorem map_append {o:Option (List aA×aj)} {a:List aA} {t:aA}:(o.map λp=>(t::p.1,p.2)).map (λp=>(a++p.1,p.2))=o.map λp=>((a++[t])++p.1,p.2):=by
 cases o<;>simp
def ba (s:aj):Option aA:=
 if 12000<s.length then none else match fa 60 s with
  |some (t,[])=>some t
  |_=>none
theorem XB {s:aj} {t:aA} {en:Int} (hl:s.length<=12000) (hm:Bo s.length (rT 61 (s.drop 0)) t en):decide (en=(s.length:Int))=(ba s).isSome∧∀t',ba s=some t'->t=t':=by
 have e:rT 61 (s.drop 0)=fa 60 s:=rfl
 rw[e] at hm
 unfold Bo at hm
 unfold ba
 rw[iN om]
 cases hr:fa 60 s with
 |none=>
  rw[hr] at hm
  refine⟨?_,λt' h=>by cases h⟩
  simp only[Option.isSome_none,decide_eq_false_iff_not]
  simp only at hm;omega
 |some p=>
  obtain⟨t',r⟩:=p
  rw[hr] at hm
  obtain⟨rfl,h2⟩:=hm
  obtain⟨k,gN,gS,XC⟩:=HE 60 s _ _ hr
  cases r with
  |nil=>
   refine⟨?_,λt' h=>by simpa using h⟩
   simp at h2⊢;exact h2
  |cons c r'=>
   refine⟨?_,λt' h=>by cases h⟩
   have hlen:=congrArg List.length XC
   simp only[lC,List.length_drop] at hlen h2
   simp only[Option.isSome_none,decide_eq_false_iff_not]
   omega
mutual
def aA.text:aA->aj
 | .mk a ps=>if a=[] then 40::(mr ps++[41]) else a
def mr:List aA->aj
 |[]=>[]
 |t::ts=>match ts with
  |[]=>t.text
  |_::_=>t.text++32::mr ts
end
mutual
def aA.enc:aA->List C
 | .mk a ps=>[.val (str a),.sl 2 (dG ps)]
def dG:List aA->List (List C)
 |[]=>[]
 |t::ts=>t.enc::dG ts
end
theorem xB:∀ps,dG ps=ps.map aA.enc
 |[]=>by simp[dG]
 |t::ts=>by simp[dG,xB ts]
theorem iJ (ps:List aA):(dG ps).length=ps.length:=by simp[xB]
theorem oU:∀t:aA,t.enc.length=2
 | .mk _ _=>by simp[aA.enc]
theorem XD (ps:List aA):∀row,row∈dG ps->row.length=2:=by
 intro row h
 rw[xB] at h
 obtain⟨t,_,rfl⟩:=List.mem_map.1 h
 exact oU t
theorem Kv (a b:List aA):dG (a++b)=dG a++dG b:=by simp[xB]
theorem Kw {ps:List aA} {t:aA} (h:ps[i]?=some t):(dG ps)[i]?=some t.enc:=by
 rw[xB,List.getElem?_map,h];rfl
theorem PK (ps:List aA) (i:Nat):dG (ps.drop i)=(dG ps).drop i:=by simp[xB,List.map_drop]
def bS (L:List Nat) (w:World) (v:Value) (t:aA):Prop:=kB L w v t.enc
theorem bS.ext {t:aA} (h:bS L w v t) (k:ak [] w w'):bS L w' v t:=kB.ext h k
def fG (L:List Nat) (w:World) (v:Value) (ts:List aA):Prop:=cD L w v (.sl 2 (dG ts))
theorem fG.ext {t:List aA} (h:fG L w v t) (k:ak [] w w'):fG L w' v t:=cD.ext h k
theorem dN {t:aA} (h:bS L w v t):∃a n c,v= .agg #[str t.az,.slice a n c]∧n=t.au.length∧fG L w (.slice a n c) t.au:=by
 obtain⟨vs,rfl,hr⟩:=h
 cases t with
 |mk at_ ps=>
  rw[aA.enc] at hr
  match vs,hr with
  |[v0,v1],hr=>
   obtain⟨h0,h1,_⟩:=hr
   cases h0
   obtain⟨a,c,rfl,hc⟩:=rK h1
   exact⟨a,_,c,rfl,iJ ps,h1⟩
  |[],hr=>exact hr.elim
  |[_],hr=>exact hr.2.elim
  |_::_::_::_,hr=>exact hr.2.2.elim
theorem ly {a:aj} {ps:List aA} (h:fG L w v ps):bS L w (.agg #[str a,v]) (.mk a ps):=
 ⟨[str a,v],rfl,by rw[aA.enc];exact⟨.val _,h,trivial⟩⟩
theorem mS {t:aA} (h:fG L w v t.au):bS L w (.agg #[str t.az,v]) t:=by
 cases t;exact ly h
theorem oV:fG L w (.slice none 0 0) []:=by unfold fG;rw[dG];exact .nil _ _ _
theorem j8 {a:Option Addr} {c:Nat} {ts:List aA} {t:aA} (h:fG L w (.slice a n c) ts) (hi:ts[i]?=some t):
  ∃b off pa pn pc,a=some ⟨b,off,none⟩∧iH w b (off+i*2) [str t.az,.slice pa pn pc]∧pn=t.au.length∧fG L w (.slice pa pn pc) t.au:=by
 obtain⟨b,off,vs,ha,hb,hL,hl,hc,hr⟩:=ze h (Kw hi)
 obtain⟨pa,pn,pc,he,hn,hp⟩:=dN (t:=t) ⟨vs,rfl,hr⟩
 have hv:vs=[str t.az,.slice pa pn pc]:=by
  have:=congrArg (λv=>match v with|Value.agg x=>x.toList|_=>[]) he
  simpa using this
 subst hv
 exact⟨b,off,pa,pn,pc,ha,hc,hn,hp⟩
theorem aY.aL {cs:Array Value} {T:TypeId} (h:aY w b cs T) (k:ak L w w') (hb:b∉L):aY w' b cs T:=h.aO k hb
theorem cD.aL {c:C} (h:cD L w v c) (k:ak L' w w') (hL:∀x,x∈L'->x∈L):cD L w' v c:=h.aO (k.mono hL)
theorem bS.aL {t:aA} (h:bS L w v t) (k:ak L' w w') (hL:∀x,x∈L'->x∈L):bS L w' v t:=kB.aO h (k.mono hL)
theorem fG.aL {t:List aA} (h:fG L w v t) (k:ak L' w w') (hL:∀x,x∈L'->x∈L):fG L w' v t:=cD.aO h (k.mono hL)
theorem iw.aL {T:TypeId} {rows:List (List C)} (h:iw L w T sz v g rows xs) (k:ak L' w w') (hL:∀x,x∈L'->x∈L):iw L w' T sz v g rows xs:=h.aO k hL
theorem ak.aL (h:ak L w0 w) (k:ak L' w w') (hL:∀x,x∈L'->x∈L∨w0.heap.size<=x):ak L w0 w':=h.since k hL
theorem zw:∀x,x∈w.heap.size::L->x∈L∨w.heap.size<=x:=by
 intro x hx
 rcases mC.1 hx with rfl|hx
 ·exact .inr (lR _)
 ·exact .inl hx
theorem aY.grow {cs:Array Value} {T:TypeId} (h:aY w b cs T):aY w b cs T:=h
theorem ak.grow (h:ak L w w'):ak L w w':=h
theorem bS.grow {t:aA} (h:bS L w v t):bS (w.heap.size::L) w v t:=kB.fresh h zw
theorem fG.grow {t:List aA} (h:fG L w v t):fG (w.heap.size::L) w v t:=cD.fresh h zw
theorem iw.grow {T:TypeId} {rows:List (List C)} (h:iw L w T sz v g rows xs):iw (w.heap.size::L) w T sz v g rows xs:=h.more zw
theorem iw.alloc {T:TypeId} {rows:List (List C)} (h:iw L w T sz v g rows xs) (k:ak [] w w') (_:w'.heap.size=w.heap.size+1):iw (w.heap.size::L) w' T sz v g rows xs:=h.grow.ext k
theorem bS.kO {x y:Value} {t:aA} (h:bS L w (.agg #[x,y]) t):dQ L w [x,y] t.enc:=by
 obtain⟨vs,he,hr⟩:=h
 have hv:vs=[x,y]:=by
  have:=congrArg (λv=>match v with|Value.agg x=>x.toList|_=>[]) he
  simpa using this.symm
 rw[<-hv];exact hr
theorem PL {A B:List Nat}:∀x,x∈A++(b::B)->x∈b::(A++B):=by
 intro x hx
 rcases mA.1 hx with h|h
 ·simp[h]
 ·rcases mC.1 h with h|h<;>simp[h]
section
variable {P:Program} {n:Nat} {ops:Array Oper} {K:Env->World->Prop} {rest:List Oper} {e:Env} {w w':World}
 {dst:Option Nat} {ty:TypeId} {pos:String} {after:Array Edge} {g:Option (Nat×Bool)} {T:TypeId} {x y:Operand}
theorem XE {vs:List Value} {U:TypeId} (kK:TI P T 1 bytes z) (hg:gate ops e g=true) (hx:ev e x= .pointer (some ⟨b,o,none⟩)) (hy:ev e y=v) 
  (h1:v.oneCell'=true) (hb:aY w b vs.toArray U) (ho:Nat.blt o vs.length=true)
  (k:∀w',ak [b] w w'->aY w' b (vs.set o v).toArray U->w'.heap.size=w.heap.size->OW P n ops K rest e w'):OW P n ops K (⟨none,.store T x y,ty,pos,after,g⟩::rest) e w:=
 Kf kK rfl hg hx hy h1 hb (by simpa[Nat.blt_eq] using ho) (λw' hk gW hz=>k w' hk (by simpa using gW) hz)
theorem gX {U:TypeId} (kK:TI P T 1 bytes z) (hx:ev e x= .pointer (some ⟨b,o,none⟩)) (hy:ev e y=v) (h1:v.oneCell'=true) (hb:aY w b vs.toArray U) (ho:Nat.blt o vs.length=true) (k:∀w',ak [b] w w'->aY w' b (vs.set o v).toArray U->w'.heap.size=w.heap.size->OW P n ops K rest e w') (hg:gate ops e g=true:=by rfl):OW P n ops K (⟨none,.store T x y,ty,pos,after,g⟩::rest) e w:=XE kK hg hx hy h1 hb ho k
theorem XF {b:Nat} {vs us:List Value} {U:TypeId} (kK:TI P T sz bytes z) (hg:gate ops e g=true) 
  (hx:ev e x= .pointer (some ⟨b,0,none⟩)) (hy:ev e y= .agg vs.toArray) (hl:Nat.beq vs.length sz=true) (h1:vs.all Value.oneCell'=true) (hb:aY w b us.toArray U) (cJ:Nat.beq us.length sz=true)
  (k:∀w',ak [b] w w'->aY w' b vs.toArray U->w'.heap.size=w.heap.size->OW P n ops K rest e w'):OW P n ops K (⟨none,.store T x y,ty,pos,after,g⟩::rest) e w:=
 W6 kK hg hx hy (Nat.eq_of_beq_eq_true hl) (λu hu=>List.all_eq_true.1 h1 u hu) hb (by simpa using Nat.eq_of_beq_eq_true cJ) k
theorem dk {us:List Value} {U:TypeId} (kK:TI P T sz bytes z) (hx:ev e x= .pointer (some ⟨b,0,none⟩)) (hy:ev e y= .agg vs.toArray) (h1:vs.all Value.oneCell'=true) (hb:aY w b us.toArray U) (cJ:Nat.beq us.length sz=true) (k:∀w',ak [b] w w'->aY w' b vs.toArray U->w'.heap.size=w.heap.size->OW P n ops K rest e w') (hg:gate ops e g=true:=by rfl) (hl:Nat.beq vs.length sz=true:=by rfl):OW P n ops K (⟨none,.store T x y,ty,pos,after,g⟩::rest) e w:=XF kK hg hx hy hl h1 hb cJ k
theorem XG {E:Nat} {vs:List Value} {v:Value} (hT:P.underlying T=some (.slice E)) (hE:TI P E sz bytes z) (_hz:z.cells.size=sz) (oy:0<sz) (dy:sz<=16777216) 
  (hv:v.cells=vs.toArray) (hl:vs.length=sz):(Instr.buildSlice T 1 #[(0,v)]).run P w= .ok (.slice (some ⟨w.heap.size,0,none⟩) 1 1) (w.alloc (.cells vs.toArray E)):=by
 have h0:¬sz=0:=by omega
 have hb:¬(16777216<sz):=by omega
 have PM:Instr.fill (λi=>some (i*sz,sz)) ((Array.range (1*sz)).map (z.cells[·%z.cells.size]!)) [(0,v)]=some vs.toArray:=by
  simp only[Instr.fill,Nat.zero_mul,hv,Nat.zero_add]
  rw[iN (by simp[hl])]
  congr 1
  have key:∀(us:List Value) (i:Nat) (pre:List Value) (cs:Array Value),cs.size=pre.length+us.length->cs.toList.take i=pre->i=pre.length->
    ((us.zipIdx i).foldl (fun(cs:Array Value) (p:Value×Nat)=>cs.setIfInBounds (0+p.2) p.1) cs)=(pre++us).toArray:=by
   intro us
   induction us with
   |nil=>
    intro i pre cs hs ht hi
    apply Array.ext'
    simp only[List.zipIdx_nil,List.foldl_nil,List.append_nil]
    rw[<-ht,List.take_of_length_le (by simp at hs⊢;omega)]
   |cons u us ih=>
    intro i pre cs hs ht hi
    rw[List.zipIdx_cons,List.foldl_cons]
    simp only[lC] at hs
    have:=ih (i+1) (pre++[u]) (cs.setIfInBounds (0+i) u) so (by
     rw[Nat.zero_add,Array.toList_setIfInBounds,List.take_add_one,List.getElem?_set_self so,List.take_set_of_le (lR i),ht];simp) so
    rw[this];simp
  have:=key vs 0 [] ((Array.range (1*sz)).map (z.cells[·%z.cells.size]!)) (by simp[hl]) sm rfl
  simpa using this
 simp only[Instr.buildSlice,Sem.run_bind,run_underlying hT,Result.andThen_ok,hE.tj,Nat.one_mul]
 rw[Nat.one_mul] at PM
 simp[hb,h0,hE.Ke,PM,newRow]
theorem XH {E:Nat} {vs:List Value} {v:Value} {q:Operand} (hT:P.underlying T=some (.slice E)) (hE:TI P E sz bytes z) (hg:gate ops e g=true) (hd:dw n dst=true) (hz:Nat.beq z.cells.size sz=true) (oy:Nat.blt 0 sz=true) (dy:Nat.ble sz 16777216=true) 
  (hq:ev e q=v) (hv:v.cells=vs.toArray) (hl:Nat.beq vs.length sz=true)
  (k:∀w',ak [] w w'->aY w' w.heap.size vs.toArray E->w'.heap.size=w.heap.size+1->OW P n ops K rest (cO e dst (.slice (some ⟨w.heap.size,0,none⟩) 1 1)) w'):
  OW P n ops K (⟨dst,.buildSlice T 1 #[(0,q)],ty,pos,after,g⟩::rest) e w:=
 fT hg hd (w':=w.alloc (.cells vs.toArray E)) (by
  have:=XG (P:=P) (w:=w) (vs:=vs) (v:=v) hT hE (Nat.eq_of_beq_eq_true hz) (by simpa[Nat.blt_eq] using oy) (Nat.le_of_ble_eq_true dy) hv (Nat.eq_of_beq_eq_true hl)
  simp[execOp,hq,this]) (k _ (ak.alloc _ _ _) (aY.alloc _ _ _) sm)
theorem gA {E:Nat} {q:Operand} (hT:P.underlying T=some (.slice E)) (hE:TI P E sz bytes z) (hq:ev e q=v) (hv:v.cells=vs.toArray) (k:∀w',ak [] w w'->aY w' w.heap.size vs.toArray E->w'.heap.size=w.heap.size+1->OW P n ops K rest (cO e dst (.slice (some ⟨w.heap.size,0,none⟩) 1 1)) w') (hg:gate ops e g=true:=by rfl) (hd:dw n dst=true:=by rfl) (hz:Nat.beq z.cells.size sz=true:=by rfl) (oy:Nat.blt 0 sz=true:=by rfl) (dy:Nat.ble sz 16777216=true:=by rfl) (hl:Nat.beq vs.length sz=true:=by rfl):OW P n ops K (⟨dst,.buildSlice T 1 #[(0,q)],ty,pos,after,g⟩::rest) e w:=XH hT hE hg hd hz oy dy hq hv hl k
theorem PN {L:List Nat} {E:Nat} {v:Value} {gb:Option Nat} {rows new:List (List C)} {xs news:List Value} {b o m c:Nat} (hT:P.underlying t=some (.slice E)) (hE:TI P E sz bytes z) (hg:gate ops e g=true) (hd:dw n dst=true) (hz:Nat.beq z.cells.size sz=true) 
  (hx:ev e x=v) (dY:iw L w E sz v gb rows xs) (hy:ev e y= .slice (some ⟨b,o,none⟩) m c) (hm:new.length=m) (ti:0<m) (iI:∀row,row∈new->row.length=sz) (hc:iH w b o news) (h1:∀u∈news,u.oneCell'=true)
  (hr:dQ (gb.toList++L) w news new.flatten) (hL:∀x,x∈L->x<w.heap.size) (hb:(rows.length+m)*(bytes+1)<=140737488355328)
  (k:∀a' cap' g' w',iw L w' E sz (.slice a' (rows.length+m) cap') g' (rows++new) (xs++news)->ak gb.toList w w'->(g'=gb∨g'=some w.heap.size)->OW P n ops K rest (cO e dst (.slice a' (rows.length+m) cap')) w'):
  OW P n ops K (⟨dst,.call {callee:=.builtin .append,args:=#[x,y],argTypes:=#[t,t]},ty,pos,after,g⟩::rest) e w:=by
 obtain⟨i,hi,Bp,iY,ig⟩:=hE.get
 obtain⟨v',g',w',kl,xC,hk,k7⟩:=iw.app (P:=P) (ty:=ty) hT hi Bp iY ig (Nat.eq_of_beq_eq_true hz) dY b o m c new news hm ti iI hc h1 hr hL hb
 obtain⟨a',cap',he⟩:=xC.len
 rw[lA,hm] at he
 subst he
 exact fT hg hd (w':=w') (by
  simp only[execOp,resolve,invoke,builtin,Sem.run_bind,Sem.run_pure,Result.andThen_ok,List.map_toArray,List.map_cons,List.map_nil,hx,hy,kl]) (k a' cap' g' w' xC hk k7)
end
theorem iw.sep {T:TypeId} {rows:List (List C)} (h:iw L w T sz v g rows xs) (hb:b∈L):b∉g.toList:=by
 intro hx
 exact h.out b (by simpa using hx) hb
theorem PO {P:Program} {n:Nat} {ops:Array Oper} {K:Env->World->Prop} {rest:List Oper} {e:Env} {w:World} 
  {dst:Option Nat} {ty:TypeId} {pos:String} {after:Array Edge} {g:Option (Nat×Bool)} {x y:Operand}
  {L:List Nat} {t E sz bytes:Nat} {z:Value} {v:Value} {gb:Option Nat} {rows:List (List C)} {row:List C} {xs news:List Value} {b o c:Nat} (hT:P.underlying t=some (.slice E)) (hE:TI P E sz bytes z) (hg:gate ops e g=true) (hd:dw n dst=true) (hz:Nat.beq z.cells.size sz=true)
  (hx:ev e x=v) (hy:ev e y= .slice (some ⟨b,o,none⟩) 1 c) (dY:iw L w E sz v gb rows xs) (iI:row.length=sz) (hc:iH w b o news) (h1:∀u∈news,u.oneCell'=true)
  (hr:dQ (gb.toList++L) w news row) (hL:∀x,x∈L->x<w.heap.size) (hb:(rows.length+1)*(bytes+1)<=140737488355328)
  (k:∀a' cap' g' w',iw L w' E sz (.slice a' (rows.length+1) cap') g' (rows++[row]) (xs++news)->ak gb.toList w w'->(g'=gb∨g'=some w.heap.size)->OW P n ops K rest (cO e dst (.slice a' (rows.length+1) cap')) w'):
  OW P n ops K (⟨dst,.call {callee:=.builtin .append,args:=#[x,y],argTypes:=#[t,t]},ty,pos,after,g⟩::rest) e w:=
 PN (new:=[row]) (m:=1) hT hE hg hd hz hx dY hy rfl de (by intro r h;simp at h;rw[h];exact iI) hc h1 (by simpa using hr) hL hb k
theorem dQ.EV:∀{vs:List Value} {cs:List C},dQ L w vs cs->(∀c,c∈cs->∀v,c= .val v->v.oneCell'=true)->∀u∈vs,u.oneCell'=true
 |[],[],_,_,u,hu=>by simp at hu
 |v::vs,c::cs,h,hc,u,hu=>by
  rcases mC.1 hu with rfl|hu
  ·cases h.1 with
   |val=>exact hc _ sm _ rfl
   |nil=>rfl
   |sl=>rfl
  ·exact dQ.EV h.2 (λc pD v hv=>hc c (by simp[pD]) v hv) u hu
def zy (P:Program) (e:Env) (w:World):ResultVar->Value->Prop
 | .tmp t,v=>e t=v
 | .cell t ty,v=>Ps P e t ty v w
def HG (P:Program) (e:Env) (w:World):List ResultVar->List Value->Prop
 |[],[]=>True
 |[r],[v]=>zy P e w r v
 |r::rs,v::vs=>zy P e w r v∧HG P e w rs vs
 |_,_=>False
def zz:List Value->Value
 |[v]=>v
 |vs=>.tuple vs.toArray
def HH (tmps:Array Value):ResultVar->Sem Value
 | .tmp t=>pure (tmps.getD t undef)
 | .cell a t=>do loadVar t (<-asAddr (tmps.getD a undef))
theorem EW (fn:Func) (tmps:Array Value):results fn tmps=(do let vs<-fn.results.mapM (HH tmps);pure (if h:vs.size=1 then vs[0] else .tuple vs)):=rfl
theorem vW {e:Env} {tmps:Array Value} (hg:∀t,tmps.getD t undef=e t) {r:ResultVar} (h:zy P e w r v):(HH tmps r).run P w= .ok v w:=by
 cases r with
 |tmp t=>simp only[zy] at h;simp only[HH,hg,h];rfl
 |cell t ty=>
  obtain⟨a,ha,hl⟩:=h
  simp only[HH,hg,ha,asAddr,Sem.run_bind,Sem.run_pure,Result.andThen_ok,hl]
theorem PQ {fn:Func} {rs:List ResultVar} (hr:fn.results=rs.toArray) {tmps:Array Value} {e:Env} (hg:∀t,tmps.getD t undef=e t) (h:HG P e w rs vs) (hl:rs.length<=4):
  (results fn tmps).run P w= .ok (zz vs) w:=by
 match rs,vs,h with
 |[],[],_=>simp[EW,hr,zz]
 |[r],[v],h=>
  have h1:=vW (tmps:=tmps) hg (show zy P e w r v from h)
  simp[EW,hr,zz,h1]
 |[r,r2],[v,v2],h=>
  have h1:=vW (tmps:=tmps) hg h.1
  have h2:=vW (tmps:=tmps) hg (show zy P e w r2 v2 from h.2)
  simp[EW,hr,zz,h1,h2]
 |[r,r2,r3],[v,v2,v3],h=>
  have h1:=vW (tmps:=tmps) hg h.1
  have h2:=vW (tmps:=tmps) hg h.2.1
  have h3:=vW (tmps:=tmps) hg (show zy P e w r3 v3 from h.2.2)
  simp[EW,hr,zz,h1,h2,h3]
 |[r,r2,r3,r4],[v,v2,v3,v4],h=>
  have h1:=vW (tmps:=tmps) hg h.1
  have h2:=vW (tmps:=tmps) hg h.2.1
  have h3:=vW (tmps:=tmps) hg h.2.2.1
  have h4:=vW (tmps:=tmps) hg (show zy P e w r4 v4 from h.2.2.2)
  simp[EW,hr,zz,h1,h2,h3,h4]
 |_::_::_::_::_::_,_,_=>simp at hl
theorem lz {P:Program} {f:FuncId} {fn:Func} {c:Code} {args:List Value} {w:World} {S:Value->World->Prop} (rs:List ResultVar) (n:Nat) 
  (hf:P.funcs[f]?=some fn) (hb:fn.body=some c) (hn:(fn.name== "runtime.NumGoroutine")=false) (hr:fn.results=rs.toArray) (iY:args.length+(fn.ntmps-args.length)=n) (hl:Nat.ble rs.length 4=true)
  (h:CW P n c (λe w'=>∃vs,HG P e w' rs vs∧S (zz vs) w') (λe w'=>∃vs,HG P e w' rs vs∧S (zz vs) w') (λ_ _ _=>False) (start args) w):bZ P f args w S:=by
 refine⟨⟨fn,hf,by rw[hb];rfl,hn⟩,calls_of_wp hf hb (wp_mono (h _ ?_) λx a w' hq=>?_)⟩
 ·rw[<-iY];simpa using Pr args (fn.ntmps-args.length)
 ·cases x<;>simp only[lu] at hq
  ·obtain⟨e,lv,vs,hv,hs⟩:=hq
   exact bodyPost_end (PQ hr lv.get hv (Nat.le_of_ble_eq_true hl)) lv.defers ⟨_,rfl,hs⟩
  ·obtain⟨e,lv,hs⟩:=hq;exact hs.elim
  ·obtain⟨e,lv,vs,hv,hs⟩:=hq
   exact bodyPost_ret (PQ hr lv.get hv (Nat.le_of_ble_eq_true hl)) lv.defers ⟨_,rfl,hs⟩
section
variable {P:Program} {n:Nat} {ops:Array Oper} {K:Env->World->Prop} {rest:List Oper} {e:Env} {w:World}
 {dst:Option Nat} {ty:TypeId} {pos:String} {after:Array Edge} {g:Option (Nat×Bool)}
theorem XI {at_:Array TypeId} {i j z:Int} (hg:gate ops e g=true) (hd:dw n dst=true) (hx:ev e x= .int k i) (hy:ev e y= .int k j) (hz:(if j<i then j else i)=z) 
  (kk:OW P n ops K rest (cO e dst (.int k z)) w):OW P n ops K (⟨dst,.call {callee:=.builtin .min,args:=#[x,y],argTypes:=at_},ty,pos,after,g⟩::rest) e w:=
 fT hg hd (by
  simp[execOp,resolve,invoke,builtin,hx,hy,Builtin.min_,Builtin.min2,hz]) kk
theorem XJ {at_:Array TypeId} {y2:Operand} {i j j2 z:Int} (hg:gate ops e g=true) (hd:dw n dst=true) (hx:ev e x= .int k i) (hy:ev e y= .int k j) (vX:ev e y2= .int k j2) (hz:(if j2<(if j<i then j else i) then j2 else(if j<i then j else i))=z) 
  (kk:OW P n ops K rest (cO e dst (.int k z)) w):OW P n ops K (⟨dst,.call {callee:=.builtin .min,args:=#[x,y,y2],argTypes:=at_},ty,pos,after,g⟩::rest) e w:=
 fT hg hd (by
  simp[execOp,resolve,invoke,builtin,hx,hy,vX,Builtin.min_,Builtin.min2,hz]) kk
theorem XK {at_:Array TypeId} {i j z:Int} (hg:gate ops e g=true) (hd:dw n dst=true) (hx:ev e x= .int k i) (hy:ev e y= .int k j) (hz:(if i<j then j else i)=z) 
  (kk:OW P n ops K rest (cO e dst (.int k z)) w):OW P n ops K (⟨dst,.call {callee:=.builtin .max,args:=#[x,y],argTypes:=at_},ty,pos,after,g⟩::rest) e w:=
 fT hg hd (by
  simp[execOp,resolve,invoke,builtin,hx,hy,Builtin.max_,Builtin.max2,hz]) kk
theorem PR {fn:Fn} {xs:List Operand} (hg:gate ops e g=true) (hd:dw n dst=true) (hv:xs.map (ev e)=vs) 
  (kk:OW P n ops K rest (cO e dst (.func fn #[] vs.toArray)) w):OW P n ops K (⟨dst,.makeFunc fn #[] xs.toArray,ty,pos,after,g⟩::rest) e w:=
 fT hg hd (by subst hv;simp[execOp,Instr.makeFunc]) kk
theorem PS {c:Operand} {caps:List Value} {xs:List Operand} {ats:Array TypeId} (hg:gate ops e g=true) (hd:dw n dst=true) (hc:ev e c= .func (.func f) #[] caps.toArray) (h:bZ P f (xs.map (ev e)++caps) w S) 
  (k:∀v w',S v w'->OW P n ops K rest (cO e dst v) w'):OW P n ops K (⟨dst,.call {callee:=.value c,args:=xs.toArray,argTypes:=ats},ty,pos,after,g⟩::rest) e w:=λa ha Q=>by
 unfold wpList
 rw[iP (by rw[ED ha];exact hg)]
 refine .inl ?_
 unfold Oper.wp
 have kl:(execOp (ev e) ⟨dst,.call {callee:=.value c,args:=xs.toArray,argTypes:=ats},ty,pos,after,g⟩).run P w= .ok (.enter f (xs.map (ev e)++caps).toArray) w:=by
  simp only[execOp,resolve,hc,Deferred.ofValue,Sem.run_bind,Sem.run_pure,Result.andThen_ok,invoke]
  simp[Pv h.1]
 rw[ha.eval,kl,Oper.upon_enter]
 exact Calls.mono h.2 λx w' ⟨v,hx,hs⟩=>by subst hx;exact k v w' hs _ (ha.cO hd v) Q
end
theorem XL:NG Tryz.f10:=ng
theorem XM:NG Tryz.f100:=ng
theorem XN:NG Tryz.f101:=ng
theorem XO:NG Tryz.f104:=ng
theorem XP:NG Tryz.f105:=ng
theorem XQ:NG Tryz.f106:=ng
theorem XR:NG Tryz.f107:=ng
theorem XS:NG Tryz.f108:=ng
theorem XT:NG Tryz.f109:=ng
theorem XU:NG Tryz.f11:=ng
theorem XV:NG Tryz.f110:=ng
theorem XW:NG Tryz.f111:=ng
theorem XX:NG Tryz.f112:=ng
theorem XY:NG Tryz.f113:=ng
theorem XZ:NG Tryz.f114:=ng
theorem X0:NG Tryz.f115:=ng
theorem X4:NG Tryz.f116:=ng
theorem X5:NG Tryz.f117:=ng
theorem X6:NG Tryz.f118:=ng
theorem PT:NG Tryz.f119:=ng
theorem X7:NG Tryz.f12:=ng
theorem X8:NG Tryz.f121:=ng
theorem X9:NG Tryz.f122:=ng
theorem Ya:NG Tryz.f123:=ng
theorem Yb:NG Tryz.f125:=ng
theorem Yc:NG Tryz.f126:=ng
theorem Yd:NG Tryz.f127:=ng
theorem Ye:NG Tryz.f128:=ng
theorem Yf:NG Tryz.f129:=ng
theorem Yg:NG Tryz.f13:=ng
theorem Yh:NG Tryz.f130:=ng
theorem Yi:NG Tryz.f136:=ng
theorem Yj:NG Tryz.f137:=ng
theorem Yk:NG Tryz.f138:=ng
theorem Yl:NG Tryz.f139:=ng
theorem Ym:NG Tryz.f140:=ng
theorem Yn:NG Tryz.f141:=ng
theorem Yo:NG Tryz.f142:=ng
theorem Yp:NG Tryz.f143:=ng
theorem Yq:NG Tryz.f144:=ng
theorem Yr:NG Tryz.f145:=ng
theorem Ys:NG Tryz.f146:=ng
theorem Yt:NG Tryz.f147:=ng
theorem Yu:NG Tryz.f148:=ng
theorem Yv:NG Tryz.f149:=ng
theorem Yw:NG Tryz.f150:=ng
theorem Yx:NG Tryz.f151:=ng
theorem Yy:NG Tryz.f152:=ng
theorem Yz:NG Tryz.f153:=ng
theorem YA:NG Tryz.f154:=ng
theorem PU:NG Tryz.f155:=ng
theorem YB:NG Tryz.f156:=ng
theorem YC:NG Tryz.f157:=ng
theorem YD:NG Tryz.f158:=ng
theorem YE:NG Tryz.f159:=ng
theorem YF:NG Tryz.f161:=ng
theorem YG:NG Tryz.f162:=ng
theorem YH:NG Tryz.f163:=ng
theorem YI:NG Tryz.f164:=ng
theorem YJ:NG Tryz.f175:=ng
theorem YK:NG Tryz.f176:=ng
theorem YL:NG Tryz.f177:=ng
theorem YM:NG Tryz.f178:=ng
theorem YN:NG Tryz.f179:=ng
theorem YO:NG Tryz.f180:=ng
theorem YP:NG Tryz.f181:=ng
theorem YQ:NG Tryz.f182:=ng
theorem YR:NG Tryz.f183:=ng
theorem YS:NG Tryz.f184:=ng
theorem YT:NG Tryz.f185:=ng
theorem YU:NG Tryz.f186:=ng
theorem YV:NG Tryz.f187:=ng
theorem Kx:NG Tryz.f188:=ng
theorem YW:NG Tryz.f189:=ng
theorem YX:NG Tryz.f201:=ng
theorem YY:NG Tryz.f202:=ng
theorem YZ:NG Tryz.f203:=ng
theorem Y0:NG Tryz.f204:=ng
theorem Y1:NG Tryz.f205:=ng
theorem Y2:NG Tryz.f206:=ng
theorem Y3:NG Tryz.f212:=ng
theorem Y4:NG Tryz.f23:=ng
theorem Y5:NG Tryz.f24:=ng
theorem Y6:NG Tryz.f25:=ng
theorem Y7:NG Tryz.f26:=ng
theorem Y8:NG Tryz.f27:=ng
theorem Y9:NG Tryz.f28:=ng
theorem Za:NG Tryz.f29:=ng
theorem Zb:NG Tryz.f30:=ng
theorem Zc:NG Tryz.f31:=ng
theorem Zd:NG Tryz.f32:=ng
theorem Ze:NG Tryz.f34:=ng
theorem Zf:NG Tryz.f35:=ng
theorem Zg:NG Tryz.f36:=ng
theorem PV:NG Tryz.f38:=ng
theorem Zh:NG Tryz.f39:=ng
theorem Zi:NG Tryz.f4:=ng
theorem Zj:NG Tryz.f48:=ng
theorem Zk:NG Tryz.f49:=ng
theorem Zl:NG Tryz.f50:=ng
theorem Zm:NG Tryz.f51:=ng
theorem Zn:NG Tryz.f52:=ng
theorem Zo:NG Tryz.f53:=ng
theorem Zp:NG Tryz.f54:=ng
theorem Zq:NG Tryz.f55:=ng
theorem Zr:NG Tryz.f56:=ng
theorem Zs:NG Tryz.f57:=ng
theorem Zt:NG Tryz.f58:=ng
theorem Zu:NG Tryz.f59:=ng
theorem Zv:NG Tryz.f60:=ng
theorem Zw:NG Tryz.f61:=ng
theorem Zx:NG Tryz.f62:=ng
theorem Zy:NG Tryz.f64:=ng
theorem Zz:NG Tryz.f65:=ng
theorem HI:NG Tryz.f66:=ng
theorem ZA:NG Tryz.f74:=ng
theorem ZB:NG Tryz.f75:=ng
theorem ZC:NG Tryz.f77:=ng
theorem ZD:NG Tryz.f78:=ng
theorem ZE:NG Tryz.f79:=ng
theorem ZF:NG Tryz.f8:=ng
theorem ZG:NG Tryz.f80:=ng
theorem ZH:NG Tryz.f81:=ng
theorem ZI:NG Tryz.f82:=ng
theorem ZJ:NG Tryz.f83:=ng
theorem ZK:NG Tryz.f84:=ng
theorem PW:NG Tryz.f85:=ng
theorem ZL:NG Tryz.f86:=ng
theorem ZM:NG Tryz.f87:=ng
theorem ZN:NG Tryz.f88:=ng
theorem ZO:NG Tryz.f89:=ng
theorem ZP:NG Tryz.f90:=ng
theorem ZQ:NG Tryz.f91:=ng
theorem ZR:NG Tryz.f92:=ng
theorem ZS:NG Tryz.f93:=ng
theorem ZT:NG Tryz.f94:=ng
theorem ZU:NG Tryz.f95:=ng
theorem ZV:NG Tryz.f96:=ng
theorem ZW:NG Tryz.f98:=ng
theorem ZX:NG Tryz.f99:=ng
theorem mT:tl Tryz.prog 104=true:=by kernel_rfl
theorem C8:tl Tryz.prog 130=true:=by kernel_rfl
theorem vY:tl Tryz.prog 29=true:=by kernel_rfl
theorem Bq:tl Tryz.prog 53=true:=by kernel_rfl
theorem j9:tl Tryz.prog 58=true:=by kernel_rfl
theorem bT:tl Tryz.prog 66=true:=by kernel_rfl
theorem Ky:∀(x0a:Option Addr) (x0n x0c:Nat) (x1a:Option Addr) (x1n x1c:Nat) (w:World),(Instr.build 104 #[(0,(.slice x0a x0n x0c)),(1,(.slice x1a x1n x1c))]).run Tryz.prog w= .ok (.agg #[.slice x0a x0n x0c,.slice x1a x1n x1c]) w:=by intros;kernel_rfl
theorem ZY:∀(x0a:Option Addr) (x0n x0c:Nat) (x1a:Option Addr) (x1n x1c:Nat) (w:World),(Instr.build 127 #[(0,(.slice x0a x0n x0c)),(1,(.slice x1a x1n x1c))]).run Tryz.prog w= .ok (.agg #[.slice x0a x0n x0c,.slice x1a x1n x1c,.int .i64 0,.bool false,.slice none 0 0,.slice none 0 0]) w:=by intros;kernel_rfl
theorem ZZ:∀(x0a:Option Addr) (x0n x0c:Nat) (x1:Int) (x2a:Option Addr) (x2n x2c:Nat) (x3a:Option Addr) (x3n x3c:Nat) (w:World),(Instr.build 151 #[(0,(.slice x0a x0n x0c)),(1,(.int .i64 x1)),(2,(.slice x2a x2n x2c)),(3,(.slice x3a x3n x3c))]).run Tryz.prog w= .ok (.agg #[.slice x0a x0n x0c,.int .i64 x1,.slice x2a x2n x2c,.slice x3a x3n x3c]) w:=by intros;kernel_rfl
theorem Z0:∀(x0a:Option Addr) (x0n x0c:Nat) (x1:Int) (w:World),(Instr.build 188 #[(0,(.slice x0a x0n x0c)),(1,(.int .i64 x1))]).run Tryz.prog w= .ok (.agg #[.slice x0a x0n x0c,.int .i64 x1]) w:=by intros;kernel_rfl
theorem Kz:∀(x0:ByteArray) (x1a:Option Addr) (x1n x1c:Nat) (x2a:Option Addr) (x2n x2c:Nat) (w:World),(Instr.build 29 #[(0,(.string x0)),(1,(.slice x1a x1n x1c)),(2,(.slice x2a x2n x2c))]).run Tryz.prog w= .ok (.agg #[.string x0,.slice x1a x1n x1c,.slice x2a x2n x2c]) w:=by intros;kernel_rfl
theorem KB:∀(w:World),(Instr.build 53 #[]).run Tryz.prog w= .ok (.agg #[.string ⟨#[]⟩,.slice none 0 0,.slice none 0 0]) w:=by intros;kernel_rfl
theorem Z1:∀(x0:ByteArray) (w:World),(Instr.build 53 #[(0,(.string x0))]).run Tryz.prog w= .ok (.agg #[.string x0,.slice none 0 0,.slice none 0 0]) w:=by intros;kernel_rfl
theorem KC:∀(w:World),(Instr.build 58 #[]).run Tryz.prog w= .ok (.agg #[.string ⟨#[]⟩,.slice none 0 0]) w:=by intros;kernel_rfl
theorem Z2:∀(x0:ByteArray) (w:World),(Instr.build 58 #[(0,(.string x0))]).run Tryz.prog w= .ok (.agg #[.string x0,.slice none 0 0]) w:=by intros;kernel_rfl
theorem EX:∀(w:World),(Instr.build 66 #[]).run Tryz.prog w= .ok (.agg #[.string ⟨#[]⟩,.slice none 0 0]) w:=by intros;kernel_rfl
theorem Z3:∀(x0:ByteArray) (w:World),(Instr.build 66 #[(0,(.string x0))]).run Tryz.prog w= .ok (.agg #[.string x0,.slice none 0 0]) w:=by intros;kernel_rfl
theorem KD:∀(x1a:Option Addr) (x1n x1c:Nat) (w:World),(Instr.build 66 #[(1,(.slice x1a x1n x1c))]).run Tryz.prog w= .ok (.agg #[.string ⟨#[]⟩,.slice x1a x1n x1c]) w:=by intros;kernel_rfl
theorem Z4:∀(x0a:Option Addr) (x0n x0c:Nat) (w:World),(Instr.build 77 #[(0,(.slice x0a x0n x0c))]).run Tryz.prog w= .ok (.agg #[.slice x0a x0n x0c,.int .i64 0]) w:=by intros;kernel_rfl
theorem EY:Tryz.prog.underlying 4=some .bool:=by kernel_rfl
theorem EZ:ix Tryz.prog 104 0=some 0:=by kernel_rfl
theorem PX:ix Tryz.prog 104 1=some 1:=by kernel_rfl
theorem KE:ix Tryz.prog 127 0=some 0:=by kernel_rfl
theorem zB:ix Tryz.prog 127 1=some 1:=by kernel_rfl
theorem KF:ix Tryz.prog 127 2=some 2:=by kernel_rfl
theorem PY:ix Tryz.prog 127 3=some 3:=by kernel_rfl
theorem C9:ix Tryz.prog 127 4=some 4:=by kernel_rfl
theorem zC:ix Tryz.prog 127 5=some 5:=by kernel_rfl
theorem KG:ix Tryz.prog 130 0=some 0:=by kernel_rfl
theorem Da:ix Tryz.prog 130 1=some 1:=by kernel_rfl
theorem Z5:ix Tryz.prog 130 10=some 11:=by kernel_rfl
theorem PZ:ix Tryz.prog 130 2=some 2:=by kernel_rfl
theorem Br:ix Tryz.prog 130 3=some 3:=by kernel_rfl
theorem zD:ix Tryz.prog 130 4=some 4:=by kernel_rfl
theorem KH:ix Tryz.prog 130 5=some 5:=by kernel_rfl
theorem Db:ix Tryz.prog 130 6=some 6:=by kernel_rfl
theorem P1:ix Tryz.prog 130 7=some 7:=by kernel_rfl
theorem HJ:ix Tryz.prog 130 8=some 9:=by kernel_rfl
theorem KI:ix Tryz.prog 130 9=some 10:=by kernel_rfl
theorem Z6:ix Tryz.prog 151 0=some 0:=by kernel_rfl
theorem HK:ix Tryz.prog 151 1=some 1:=by kernel_rfl
theorem xD:ix Tryz.prog 151 2=some 2:=by kernel_rfl
theorem zE:ix Tryz.prog 151 3=some 3:=by kernel_rfl
theorem Z7:ix Tryz.prog 188 0=some 0:=by kernel_rfl
theorem HL:ix Tryz.prog 188 1=some 1:=by kernel_rfl
theorem vZ:ix Tryz.prog 29 0=some 0:=by kernel_rfl
theorem wa:ix Tryz.prog 29 1=some 1:=by kernel_rfl
theorem mU:ix Tryz.prog 29 2=some 2:=by kernel_rfl
theorem KJ:ix Tryz.prog 53 0=some 0:=by kernel_rfl
theorem KL:ix Tryz.prog 53 1=some 1:=by kernel_rfl
theorem P2:ix Tryz.prog 53 2=some 2:=by kernel_rfl
theorem zF:ix Tryz.prog 58 0=some 0:=by kernel_rfl
theorem uC:ix Tryz.prog 58 1=some 1:=by kernel_rfl
theorem dB:ix Tryz.prog 66 0=some 0:=by kernel_rfl
theorem cM:ix Tryz.prog 66 1=some 1:=by kernel_rfl
theorem zG:ix Tryz.prog 77 0=some 0:=by kernel_rfl
theorem KM:ix Tryz.prog 77 1=some 1:=by kernel_rfl
theorem kP:TI Tryz.prog 104 2 48 (.agg #[.slice none 0 0,.slice none 0 0]):=by unfold TI;kernel_rfl
theorem KN:TI Tryz.prog 125 1 24 (.slice none 0 0):=by unfold TI;kernel_rfl
theorem Z8:TI Tryz.prog 128 1 24 (.slice none 0 0):=by unfold TI;kernel_rfl
theorem k8:TI Tryz.prog 130 12 216 (.agg #[.string ⟨#[]⟩,.slice none 0 0,.int .i64 0,.slice none 0 0,.slice none 0 0,.slice none 0 0,.slice none 0 0,.string ⟨#[]⟩,.slice none 0 0,.int .i64 0,.string ⟨#[]⟩,.int .i64 0]):=by unfold TI;kernel_rfl
theorem Z9:TI Tryz.prog 23 1 24 (.slice none 0 0):=by unfold TI;kernel_rfl
theorem nL:TI Tryz.prog 27 1 24 (.slice none 0 0):=by unfold TI;kernel_rfl
theorem fH:TI Tryz.prog 29 3 64 (.agg #[.string ⟨#[]⟩,.slice none 0 0,.slice none 0 0]):=by unfold TI;kernel_rfl
theorem tt:TI Tryz.prog 3 1 8 (.int .i64 0):=by unfold TI;kernel_rfl
theorem tI4:TI Tryz.prog 4 1 1 (.bool false):=by unfold TI;kernel_rfl
theorem Dc:TI Tryz.prog 5 1 1 (.int .u8 0):=by unfold TI;kernel_rfl
theorem KO:TI Tryz.prog 51 1 24 (.slice none 0 0):=by unfold TI;kernel_rfl
theorem lW:TI Tryz.prog 53 3 64 (.agg #[.string ⟨#[]⟩,.slice none 0 0,.slice none 0 0]):=by unfold TI;kernel_rfl
theorem fb:TI Tryz.prog 58 2 40 (.agg #[.string ⟨#[]⟩,.slice none 0 0]):=by unfold TI;kernel_rfl
theorem E0:TI Tryz.prog 64 1 24 (.slice none 0 0):=by unfold TI;kernel_rfl
theorem aH:TI Tryz.prog 66 2 40 (.agg #[.string ⟨#[]⟩,.slice none 0 0]):=by unfold TI;kernel_rfl
theorem bB:TI Tryz.prog 9 1 16 (.string ⟨#[]⟩):=by unfold TI;kernel_rfl
theorem aab:TI Tryz.prog 94 2 32 (.agg #[.pointer none,.slice none 0 0]):=by unfold TI;kernel_rfl
theorem KP:Tryz.prog.underlying 170=some (.int .u64):=by kernel_rfl
theorem xF:Tryz.prog.underlying 3=some (.int .i64):=by kernel_rfl
theorem zH:Tryz.prog.underlying 5=some (.int .u8):=by kernel_rfl
theorem eu:Tryz.prog.follows .mixedOrders=true:=by kernel_rfl
theorem E1:qM Tryz.prog 125=true:=by kernel_rfl
theorem P3:qM Tryz.prog 128=true:=by kernel_rfl
theorem zI:qM Tryz.prog 22=true:=by kernel_rfl
theorem P4:qM Tryz.prog 23=true:=by kernel_rfl
theorem eO:qM Tryz.prog 27=true:=by kernel_rfl
theorem qQ:qM Tryz.prog 3=true:=by kernel_rfl
theorem Dd:qM Tryz.prog 4=true:=by kernel_rfl
theorem KQ:qM Tryz.prog 5=true:=by kernel_rfl
theorem sr:qM Tryz.prog 51=true:=by kernel_rfl
theorem cK:qM Tryz.prog 64=true:=by kernel_rfl
theorem cg:qM Tryz.prog 9=true:=by kernel_rfl
theorem xG:Tryz.prog.underlying 125=some (.slice 130):=by kernel_rfl
theorem E2:Tryz.prog.underlying 128=some (.slice 3):=by kernel_rfl
theorem qR:Tryz.prog.underlying 22=some (.slice 5):=by kernel_rfl
theorem gO:Tryz.prog.underlying 23=some (.slice 29):=by kernel_rfl
theorem bh:Tryz.prog.underlying 27=some (.slice 9):=by kernel_rfl
theorem De:Tryz.prog.underlying 45=some (.slice 53):=by kernel_rfl
theorem nM:Tryz.prog.underlying 51=some (.slice 58):=by kernel_rfl
theorem cw:Tryz.prog.underlying 64=some (.slice 66):=by kernel_rfl
theorem fc:Tryz.prog.underlying 9=some .string:=by kernel_rfl
theorem E3 (a b c:Int) (w:World):bZ Tryz.prog 31 [.int .i64 a,.int .i64 b,.int .i64 c] w λv w'=>v= .bool (decide (b<=a)&&decide (a<=c))∧w=w':=by
 refine cU [.tmp 6] 15 Tryz.func31 rfl Zc rfl rfl ?_
 refine zr<|zA<|ag<|zr<|zm<|zm<|lU rfl rfl rfl rfl rfl<|zm ?_
 apply fU 4 10 14 [10,11,12,13,14] (λw'=>w=w') rfl
 intro h1
 replace h1:=bu h1
 refine zm<|zm<|qN rfl rfl rfl rfl rfl<|zp rfl<|ag ?_
 exact mg rfl rfl
 intro h1
 replace h1:=bu h1
 refine zs<|zs<|zs<|zp rfl<|ag ?_
 exact mg rfl rfl
 rintro xx _ rfl
 refine zA<|ag<|aV ?_
 exact⟨_,rfl,rfl,rfl⟩
theorem aac (c:UInt8) (w:World):bZ Tryz.prog 100 [.int .u8 c.toNat] w λv w'=>v= .bool (fB c)∧w=w':=by
 refine cU [.tmp 2] 33 Tryz.func100 rfl XM rfl rfl ?_
 refine zr<|zA<|ag<|zr<|zm<|lU rfl rfl rfl rfl rfl<|zm ?_
 apply fU 3 5 8 [5,6,7,8] (λw'=>w=w') rfl
 intro h1
 replace h1:=bu h1
 refine zm<|qN rfl rfl rfl rfl rfl<|zp rfl<|ag ?_
 exact mg rfl rfl
 intro h1
 replace h1:=bu h1
 refine zs<|zs<|zp rfl<|ag ?_
 exact mg rfl rfl
 rintro xx _ rfl
 refine zm ?_
 apply fo 7 9 16 [9,10,11,12,13,14,15,16] (λw'=>w=w') rfl
 intro h2
 replace h2:=bu h2
 refine zs<|zs<|zs<|zs<|zs<|zs<|zp rfl<|ag ?_
 exact mg rfl rfl
 intro h2
 replace h2:=bu h2
 refine zm<|lU rfl rfl rfl rfl rfl<|zm ?_
 apply fU 3 12 15 [12,13,14,15] (λw'=>w=w') rfl
 intro h3
 replace h3:=bu h3
 refine zm<|qN rfl rfl rfl rfl rfl<|zp rfl<|ag ?_
 exact mg rfl rfl
 intro h3
 replace h3:=bu h3
 refine zs<|zs<|zp rfl<|ag ?_
 exact mg rfl rfl
 rintro xx _ rfl
 refine zp rfl<|ag ?_
 exact mg rfl rfl
 rintro xx _ rfl
 refine zm ?_
 apply fo 3 17 20 [17,18,19,20] (λw'=>w=w') rfl
 intro h4
 replace h4:=bu h4
 refine zs<|zs<|zp rfl<|ag ?_
 exact mg rfl rfl
 intro h4
 replace h4:=bu h4
 refine zm<|dO rfl rfl rfl<|zp rfl<|ag ?_
 exact mg rfl rfl
 rintro xx _ rfl
 refine zm ?_
 apply fo 3 21 24 [21,22,23,24] (λw'=>w=w') rfl
 intro h5
 replace h5:=bu h5
 refine zs<|zs<|zp rfl<|ag ?_
 exact mg rfl rfl
 intro h5
 replace h5:=bu h5
 refine zm<|dO rfl rfl rfl<|zp rfl<|ag ?_
 exact mg rfl rfl
 rintro xx _ rfl
 refine zm ?_
 apply fo 3 25 28 [25,26,27,28] (λw'=>w=w') rfl
 intro h6
 replace h6:=bu h6
 refine zs<|zs<|zp rfl<|ag ?_
 exact mg rfl rfl
 intro h6
 replace h6:=bu h6
 refine zm<|dO rfl rfl rfl<|zp rfl<|ag ?_
 exact mg rfl rfl
 rintro xx _ rfl
 refine zm ?_
 apply fo 3 29 32 [29,30,31,32] (λw'=>w=w') rfl
 intro h7
 replace h7:=bu h7
 refine zs<|zs<|zp rfl<|ag ?_
 exact mg rfl rfl
 intro h7
 replace h7:=bu h7
 refine zm<|dO rfl rfl rfl<|zp rfl<|ag ?_
 exact mg rfl rfl
 rintro xx _ rfl
 refine zA<|ag<|aV ?_
 exact⟨_,rfl,congrArg Value.bool (PG c),rfl⟩
def aad (L:List Nat) (s:aj) (d i:Nat) (v:Value) (w:World):Prop:=
 ∃t tv en,v= .tuple #[tv,.int .i64 en]∧bS L w tv t∧Bo s.length (rT d (s.drop i)) t en
theorem aae (s:aj) (hs:s.length<=12000):∀(d i:Nat) (L:List Nat) (w:World),d<=61->i<=s.length->(∀x,x∈L->x<w.heap.size)->
  bZ Tryz.prog 66 [str s,.int .i64 (i:Int),.int .i64 ((61:Int)-(d:Int))] w λv w'=>aad L s d i v w'∧ak [] w w':=by
 intro d
 induction d with
 |zero=>
  intro i L w hd hi hL
  have hK:=ak.refl [] w
  refine lz [.cell 6 66,.tmp 7] 87 Tryz.func66 rfl HI rfl rfl rfl ?_
  refine zr<|eC aH rfl rfl rfl ?_
  intro w1 aJ bR dV
  have hK:=hK.grow;have hK:=hK.ext aJ
  refine zA<|ag<|zr<|j6 (EX _) rfl rfl<|eC aH rfl rfl rfl ?_
  intro w2 aq dv eK
  have hK:=hK.grow;have hK:=hK.ext aq;have bR:=bR.grow;have bR:=bR.ext aq
  refine dk aH rfl rfl rfl dv rfl ?_
  intro w3 aK dv iK
  have hK:=hK.aL aK sx;have bR:=bR.aL aK sx
  refine ag<|aQ<|zr<|zm<|jx rfl rfl rfl rfl rfl<|zm ?_
  apply fo 5 15 20 [15,16,17,18,19,20] (λw'=>w3=w') rfl
  intro h1
  replace h1:=bu h1
  refine zs<|zs<|zs<|zs<|zp rfl<|ag ?_
  exact mg rfl rfl
  intro h1
  replace h1:=bu h1
  refine zm<|zm<|kL fc rfl rfl rfl<|lU rfl rfl rfl rfl rfl<|zp rfl<|ag ?_
  exact mg rfl rfl
  rintro xx _ rfl
  refine ag<|zc rfl (λh2=>?_) (λh2=>?_)
  refine zr<|zL bT aH rfl dv.all rfl<|dk aH rfl rfl rfl bR rfl ?_
  intro w4 aD bR iL
  have hK:=hK.aL aD sx
  refine zA<|ag<|aV ?_
  exact⟨[_,_],⟨gR bT aH rfl bR rfl,rfl⟩,⟨.mk [] [],_,_,rfl,ly oV,rfl⟩,hK⟩
  exfalso
  simp at h2
 |succ d ih=>
  intro i L w hd hi hL
  have hK:=ak.refl [] w
  by_cases mL:i<s.length
  ·have Bt:=drop_cons (jH mL)
   have P5:=ES fB (s.drop i)
   rw[List.length_drop] at P5
   refine lz [.cell 6 66,.tmp 7] 87 Tryz.func66 rfl HI rfl rfl rfl ?_
   refine zr<|eC aH rfl rfl rfl ?_
   intro w1 aJ bR dV
   have hK:=hK.grow;have hK:=hK.ext aJ
   refine zA<|ag<|zr<|j6 (EX _) rfl rfl<|eC aH rfl rfl rfl ?_
   intro w2 aq dv eK
   have hK:=hK.grow;have hK:=hK.ext aq;have bR:=bR.grow;have bR:=bR.ext aq
   refine dk aH rfl rfl rfl dv rfl ?_
   intro w3 aK dv iK
   have hK:=hK.aL aK sx;have bR:=bR.aL aK sx
   refine ag<|aQ<|zr<|zm<|jx rfl rfl rfl rfl rfl<|zm ?_
   apply fo 5 15 20 [15,16,17,18,19,20] (λw'=>w3=w') rfl
   intro h1
   replace h1:=bu h1
   refine zs<|zs<|zs<|zs<|zp rfl<|ag ?_
   exact mg rfl rfl
   intro h1
   replace h1:=bu h1
   refine zm<|zm<|kL fc rfl rfl rfl<|lU rfl rfl rfl rfl rfl<|zp rfl<|ag ?_
   exact mg rfl rfl
   rintro xx _ rfl
   refine ag<|zc rfl (λh2=>?_) (λh2=>?_)
   exfalso
   simp at h2
   omega
   refine bA<|aQ<|zr<|zm<|zm<|kC fc rfl rfl rfl rfl (jH mL)<|ur rfl rfl rfl rfl rfl<|ag<|zc rfl (λh3=>?_) (λh3=>?_)
   have eN:s.getD i 0≠40:=λh=>h3 (by rw[h];rfl)
   refine zr<|zm<|zA<|ag<|aQ<|cP ?_
   refine fZ (λk:Nat=>[(0,str s),(1,.int .i64 (k:Int)),(6,.pointer (some ⟨w.heap.size,0,none⟩)),(8,.pointer (some ⟨w1.heap.size,0,none⟩)),(9,.int .i64 (i:Int))]) (λk w'=>w'=w3∧i<=k∧k-i<=((s.drop i).takeWhile fB).length) (λk=>s.length-k) i (⟨rfl,rfl,rfl,rfl,rfl⟩) (⟨rfl,lR _,om⟩) ?_
   intro gg w4 e4 hI
   obtain⟨rfl,uz,Df⟩:=hI
   have E4:=Xy s uz Df
   refine aQ<|zr<|zm<|zm<|kL fc rfl rfl rfl<|fJ rfl rfl rfl<|zm ?_
   apply fU 5 31 36 [31,32,33,34,35,36] (λw'=>w4=w') rfl
   intro h4
   replace h4:=bu h4
   refine zm<|zm<|kC fc rfl rfl rfl rfl (jH om)<|aC (aac _ _) ?_
   rintro _ _ ⟨rfl,rfl⟩
   refine zp rfl<|ag ?_
   exact mg rfl rfl
   intro h4
   replace h4:=bu h4
   refine zs<|zs<|zs<|zs<|zp rfl<|ag ?_
   exact mg rfl rfl
   rintro xx _ rfl
   refine ag<|zc rfl (λh5=>?_) (λh5=>?_)
   have eU:=E4.2 (by simpa using h5)
   refine bA<|cP<|db<|zm<|eE rfl rfl rfl (wrap_i64 _ om om)<|zA<|ag ?_
   exact⟨gg+1,⟨rfl,rfl,rfl,rfl,rfl⟩,⟨rfl,om,om⟩,om⟩
   have E5:gg-i=((s.drop i).takeWhile fB).length:=Nat.le_antisymm Df (Nat.le_of_not_lt (λhh=>by have hx:=E4.1 hh;rw[hx.2,Bool.and_true,decide_eq_false_iff_not] at h5;omega))
   refine gF<|gH rfl<|zr<|zm<|zm<|zm<|Bf fc rfl rfl rfl (.inr ⟨_,rfl⟩) (.inr ⟨_,rfl⟩) om om<|zf dB rfl<|gX bB rfl rfl rfl dv rfl ?_
   intro w5 aT dv jo
   have hK:=hK.aL aT sx;have bR:=bR.aL aT sx
   refine ag<|aQ<|zr<|zf dB rfl<|zl cg rfl (dv.at rfl)<|cW rfl rfl<|ag<|zc rfl (λh6=>?_) (λh6=>?_)
   have hR:rT (d+1) (s.drop i)=none:=by rw[E5,HF] at h6;show fa d _=none;rw[Bt,EU _ _ _ eN,<-Bt,iP h6]
   refine zr<|zL bT aH rfl dv.all rfl<|dk aH rfl rfl rfl bR rfl ?_
   intro w6 bD bR lB
   have hK:=hK.aL bD sx
   refine zA<|ag<|aV ?_
   exact⟨[_,_],⟨gR bT aH rfl bR rfl,rfl⟩,⟨.mk _ [],_,_,rfl,ly oV,by rw[hR];rfl⟩,hK⟩
   have hR:rT (d+1) (s.drop i)=some (.mk ((s.drop i).takeWhile fB) [],(s.drop i).dropWhile fB):=by rw[E5,HF] at h6;show fa d _=_;rw[Bt,EU _ _ _ eN,<-Bt,iN h6]
   refine bA<|zr<|zL bT aH rfl dv.all rfl<|zm<|dk aH rfl rfl rfl bR rfl ?_
   intro w6 bD bR lB
   have hK:=hK.aL bD sx
   refine zA<|ag<|aV<|⟨[_,_],⟨gR bT aH rfl bR rfl,rfl⟩,⟨.mk _ [],_,_,rfl,ly oV,?_⟩,hK⟩
   rw[hR]
   refine⟨by rw[E5,HF],?_⟩
   rw[C6,List.length_drop,List.length_drop]
   show(gg:Int)=_
   omega
   have KR:s.getD i 0=40:=UInt8.toNat_inj.1 (by have Bu:(40:UInt8).toNat=40:=rfl;rw[Bu];omega)
   refine bA<|cP ?_
   refine fZ (λq:List aA×Nat×Option Addr×Nat×Option Nat×List Value=>[(0,str s),(1,.int .i64 (q.2.1:Int)),(2,.int .i64 ((61:Int)-((d+1:Nat):Int))),(6,.pointer (some ⟨w.heap.size,0,none⟩)),(8,.pointer (some ⟨w1.heap.size,0,none⟩))]) (λq w'=>ak [] w w'∧aY w' w.heap.size [str [],.slice none 0 0].toArray 66∧aY w' w1.heap.size [str [],.slice q.2.2.1 q.1.length q.2.2.2.1].toArray 66∧iw (w.heap.size::w1.heap.size::L) w' 66 2 (.slice q.2.2.1 q.1.length q.2.2.2.1) q.2.2.2.2.1 (dG q.1) q.2.2.2.2.2∧(∀b,q.2.2.2.2.1=some b->w.heap.size<=b)∧q.2.1<s.length∧i<=q.2.1∧q.1.length<=q.2.1∧w1.heap.size<w'.heap.size∧mQ d (s.drop (i+1))=(mQ d (s.drop (q.2.1+1))).map (λp=>(q.1++p.1,p.2))) (λq=>s.length-q.2.1) (([],i,none,0,none,[])) (⟨rfl,rfl,rfl,rfl,rfl⟩) (⟨hK,bR,dv,iw.nil _ _ _ _,sm,mL,lR _,sm,om,sm⟩) ?_
   intro gg w4 e4 hI
   obtain⟨acc,k,a,cc,g,xs⟩:=gg
   dsimp only at hI⊢
   obtain⟨hK,bR,dv,hO,hg,hk,uz,hak,xH,ss⟩:=hI
   have hLx:∀x,x∈g.toList++(w.heap.size::w1.heap.size::L)->x<w4.heap.size:=by intro x hx;simp at hx;rcases hx with hx|rfl|rfl|hx;exact hO.own.lt x hx;omega;omega;have h1:=hL x hx;have h2:=hK.size;omega
   refine cP<|zr<|zm<|zm<|eE rfl rfl rfl (wrap_i64 _ om om)<|zm<|eE rfl rfl rfl (show IntKind.i64.wrap ((61:Int)-((d+1:Nat):Int)+1)=(61:Int)-(d:Int) by rw[wrap_i64 _ om om];omega)<|aC (ih (k+1) (g.toList++(w.heap.size::w1.heap.size::L)) w4 om om hLx) ?_
   rintro v5 w5 ⟨kQ,aT⟩
   have oW:=aT.size
   have hK:=hK.ext aT;have bR:=bR.ext aT;have dv:=dv.ext aT;have hO:=hO.ext aT
   obtain⟨t,tv,en,rfl,ht,hm⟩:=kQ
   obtain⟨pa,pn,pc,rfl,fR,bc⟩:=dN ht
   subst fR
   refine zm<|zx (i:=0) rfl rfl<|zx (i:=1) rfl rfl<|eC aH rfl rfl rfl ?_
   intro w6 bD pG lB
   have hK:=hK.grow;have hK:=hK.ext bD;have bR:=bR.grow;have bR:=bR.ext bD;have dv:=dv.grow;have dv:=dv.ext bD;have hO:=hO.alloc bD lB;have ht:=ht.grow;have ht:=ht.ext bD
   refine dk aH rfl rfl rfl pG rfl ?_
   intro w7 cv pG qg
   have hK:=hK.aL cv sx;have bR:=bR.aL cv sx;have dv:=dv.aL cv sx;have hO:=hO.aL cv sx;have ht:=ht.aL cv sx
   refine zA<|ag<|aQ<|zr<|zm<|fJ rfl rfl rfl<|zm ?_
   apply fo 5 61 66 [61,62,63,64,65,66] (λw'=>w7=w') rfl
   intro h7
   replace h7:=bu h7
   refine zs<|zs<|zs<|zs<|zp rfl<|ag ?_
   exact mg rfl rfl
   intro h7
   replace h7:=bu h7
   refine zm<|zm<|kL fc rfl rfl rfl<|lU rfl rfl rfl rfl rfl<|zp rfl<|ag ?_
   exact mg rfl rfl
   rintro xx _ rfl
   refine ag<|zc rfl (λh8=>?_) (λh8=>?_)
   have hR:rT (d+1) (s.drop i)=none:=by show fa d _=none;rw[Bt,KR,C7,ss,Xz hm (by simpa using h8) om];rfl
   refine zr<|zL bT aH rfl dv.all rfl<|dk aH rfl rfl rfl bR rfl ?_
   intro w8 cu bR mu
   have hK:=hK.aL cu sx;have hO:=hO.aL cu sx
   refine zA<|ag<|aV ?_
   exact⟨[_,_],⟨gR bT aH rfl bR rfl,rfl⟩,⟨.mk [] acc,_,_,rfl,ly (hO.done.weaken (λx hx=>by simp[hx])),by rw[hR];rfl⟩,hK⟩
   simp at h8
   obtain⟨m,rfl,PF,KT,iy⟩:=XA hm h8.1 om
   refine bA<|zr<|zf cM rfl<|zl cK rfl (dv.at rfl)<|zL bT aH rfl pG.all rfl<|gA cw aH rfl rfl ?_
   intro w8 cu aag mu
   have hK:=hK.ext cu;have bR:=bR.ext cu;have dv:=dv.ext cu;have hO:=hO.ext cu;have ht:=ht.ext cu
   refine PO cw aH rfl rfl rfl rfl rfl hO (oU t) aag.all (by simp[Value.oneCell']) (ht.kO.fresh (λx hx=>.inl (PL x hx))) ?_ ?_ ?_
   intro x hx;simp at hx;rcases hx with rfl|rfl|rfl|hx;(·omega);(·omega);(·omega);(·have h1:=hL x hx;have h2:=hK.size;omega)
   rw[iJ];omega
   intro a2 nN g2 w9 gP aG iz
   have e1:(dG acc).length+1=(acc++[t]).length:=by simp[iJ]
   have e2:dG acc++[t.enc]=dG (acc++[t]):=by simp[Kv,dG]
   rw[e1] at gP⊢
   rw[e2] at gP
   have dy:=aG.size
   have hg3:∀b,g2=some b->w.heap.size<=b:=by intro b hb;rcases iz with h|h;(·rw[h] at hb;exact hg b hb);(·rw[h] at hb;cases hb;omega)
   have hK:=hK.aL aG (λx hx=>.inr (hg x (by simpa using hx)));have bR:=bR.aL aG (hO.sep sm);have dv:=dv.aL aG (hO.sep sm)
   refine zf cM rfl<|gX E0 rfl rfl rfl dv rfl ?_
   intro cN bU dv Bv
   have hK:=hK.aL bU sx;have bR:=bR.aL bU sx;have gP:=gP.aL bU sx
   refine ag<|zr<|zm<|zA<|ag<|aQ<|zr<|zm<|zm<|kC fc rfl rfl rfl rfl (jH KT)<|dO rfl rfl rfl<|ag<|zc rfl (λh9=>?_) (λh9=>?_)
   have zJ:s.getD m 0=41:=UInt8.toNat_inj.1 (by have Bu:(41:UInt8).toNat=41:=rfl;rw[Bu];omega)
   have hR:rT (d+1) (s.drop i)=some (.mk [] (acc++[t]),s.drop (m+1)):=by show fa d _=_;rw[Bt,KR,C7,ss,iy,iP zJ];rfl
   refine zr<|zL bT aH rfl dv.all rfl<|zm<|eE rfl rfl rfl (wrap_i64 _ om om)<|dk aH rfl rfl rfl bR rfl ?_
   intro eW cL bR uF
   have hK:=hK.aL cL sx;have gP:=gP.aL cL sx
   refine zA<|ag<|aV ?_
   exact⟨[_,_],⟨gR bT aH rfl bR rfl,rfl⟩,⟨.mk [] (acc++[t]),_,_,rfl,ly (gP.done.weaken (λx hx=>by simp[hx])),by rw[hR];exact⟨rfl,by rw[List.length_drop];omega⟩⟩,hK⟩
   have zJ:s.getD m 0≠41:=λh=>h9 (by rw[h];rfl)
   refine bA<|zr<|zm<|zm<|kC fc rfl rfl rfl rfl (jH KT)<|ur rfl rfl rfl rfl rfl<|ag<|zc rfl (λgI=>?_) (λgI=>?_)
   have KU:s.getD m 0≠32:=λh=>gI (by rw[h];rfl)
   have hR:rT (d+1) (s.drop i)=none:=by show fa d _=_;rw[Bt,KR,C7,ss,iy,iN zJ,iN KU];rfl
   refine zr<|zL bT aH rfl dv.all rfl<|dk aH rfl rfl rfl bR rfl ?_
   intro eW cL bR uF
   have hK:=hK.aL cL sx;have gP:=gP.aL cL sx
   refine zA<|ag<|aV ?_
   exact⟨[_,_],⟨gR bT aH rfl bR rfl,rfl⟩,⟨.mk [] (acc++[t]),_,_,rfl,ly (gP.done.weaken (λx hx=>by simp[hx])),by rw[hR];rfl⟩,hK⟩
   have KU:s.getD m 0=32:=UInt8.toNat_inj.1 (by have Bu:(32:UInt8).toNat=32:=rfl;rw[Bu];omega)
   refine bA ?_
   exact⟨(acc++[t],m,a2,nN,g2,_),⟨rfl,rfl,rfl,rfl,rfl⟩,⟨hK,bR,dv,gP.more (by intro x hx;exact .inl (by simp at hx⊢;rcases hx with hx|hx|hx<;>simp[hx])),hg3,KT,by dsimp only;omega,by simp;omega,om,by rw[ss,iy,iN zJ,iP KU,map_append]⟩,by dsimp only;omega⟩
  refine lz [.cell 6 66,.tmp 7] 87 Tryz.func66 rfl HI rfl rfl rfl ?_
  refine zr<|eC aH rfl rfl rfl ?_
  intro w1 aJ bR dV
  have hK:=hK.grow;have hK:=hK.ext aJ
  refine zA<|ag<|zr<|j6 (EX _) rfl rfl<|eC aH rfl rfl rfl ?_
  intro w2 aq dv eK
  have hK:=hK.grow;have hK:=hK.ext aq;have bR:=bR.grow;have bR:=bR.ext aq
  refine dk aH rfl rfl rfl dv rfl ?_
  intro w3 aK dv iK
  have hK:=hK.aL aK sx;have bR:=bR.aL aK sx
  refine ag<|aQ<|zr<|zm<|jx rfl rfl rfl rfl rfl<|zm ?_
  apply fo 5 15 20 [15,16,17,18,19,20] (λw'=>w3=w') rfl
  intro h1
  replace h1:=bu h1
  refine zs<|zs<|zs<|zs<|zp rfl<|ag ?_
  exact mg rfl rfl
  intro h1
  replace h1:=bu h1
  refine zm<|zm<|kL fc rfl rfl rfl<|lU rfl rfl rfl rfl rfl<|zp rfl<|ag ?_
  exact mg rfl rfl
  rintro xx _ rfl
  refine ag<|zc rfl (λh2=>?_) (λh2=>?_)
  have hR:rT (d+1) (s.drop i)=none:=by rw[List.drop_of_length_le om];exact PJ d
  refine zr<|zL bT aH rfl dv.all rfl<|dk aH rfl rfl rfl bR rfl ?_
  intro w4 aD bR iL
  have hK:=hK.aL aD sx
  refine zA<|ag<|aV ?_
  exact⟨[_,_],⟨gR bT aH rfl bR rfl,rfl⟩,⟨.mk [] [],_,_,rfl,ly oV,by rw[hR];rfl⟩,hK⟩
  exfalso
  simp at h2
  omega
def ij (c:UInt8):Bool:=48<=c&&c<=57
theorem Bw (c:UInt8):ij c=true↔48<=c.toNat∧c.toNat<=57:=by
 simp[ij,UInt8.le_iff_toNat_le]
def qS (s:aj):Int:=if 0<s.length∧s.getD 0 0=45 then -1 else 1
def eD (s:aj):aj:=if 0<s.length∧s.getD 0 0=45 then s.drop 1 else s
def val (ds:aj):Nat:=ds.foldl (λn c=>10*n+(c.toNat-48)) 0
def numeral (s:aj):Option Int:=
 if s=[48] then some 0
 else if(eD s).length<1∨3<(eD s).length∨(eD s).getD 0 0=48 then none
 else if(eD s).all ij=true then some (qS s*val (eD s)) else none
theorem P6 (ds:aj) (c:UInt8):val (ds++[c])=10*val ds+(c.toNat-48):=by simp[val]
theorem P7:∀(ds:aj),ds.all ij=true->val ds<10^ds.length:=by
 intro ds
 have key:∀(l:aj) (n k:Nat),l.all ij=true->n<10^k->l.foldl (λn c=>10*n+(c.toNat-48)) n<10^(k+l.length):=by
  intro l
  induction l with
  |nil=>intro n k _ h;simpa using h
  |cons c l ih=>
   intro n k hl h
   simp only[List.all_cons,aE] at hl
   have hc:=(Bw c).1 hl.1
   simp only[List.foldl_cons,lC]
   have:=ih (10*n+(c.toNat-48)) (k+1) hl.2 (by rw[Nat.pow_succ];omega)
   rw[show k+(l.length+1)=k+1+l.length from by omega];exact this
 intro h
 have:=key ds 0 0 h sm
 simpa[val] using this
theorem KV {s:aj} {k:Nat} (h:k<s.length):s.take (k+1)=s.take k++[s.getD k 0]:=by
 rw[List.take_succ_eq_append_getElem h,gG,gE h];rfl
def cI (t:aA):aj:=if t.az≠[]∨t.au=[] then[] else match t.au with
 |[]=>[]
 |p::_=>p.az
def P8 (c:UInt8):Bool:=97<=c&&c<=122
def Bx (s:aj) (i:Nat):Bool:=P8 (s.getD i 0)||(decide (0<i)&&ij (s.getD i 0))
def nO (s:aj):Bool:=(List.range s.length).all (Bx s)&&decide (s≠[])
theorem E6 (k c:UInt8):decide ((k.toNat:Int)<=c.toNat)=decide (k<=c):=by simp[UInt8.le_iff_toNat_le]
theorem P9 (k c:UInt8):decide ((c.toNat:Int)=k.toNat)=(c==k):=by
 rw[Bool.eq_iff_iff];simp[<-UInt8.toNat_inj];omega
theorem HM (s:aj) (k:Nat):((decide ((97:Int)<=(s.getD k 0).toNat)&&decide (((s.getD k 0).toNat:Int)<=122))||((decide ((0:Int)<(k:Int))&&decide ((48:Int)<=(s.getD k 0).toNat))&&decide (((s.getD k 0).toNat:Int)<=57)))=Bx s k:=by
 have a:=E6 97 (s.getD k 0)
 have b:=E6 (s.getD k 0) 122
 have c:=E6 48 (s.getD k 0)
 have d:=E6 (s.getD k 0) 57
 simp only[show((97:UInt8).toNat:Int)=97 from rfl,show((122:UInt8).toNat:Int)=122 from rfl,show((48:UInt8).toNat:Int)=48 from rfl,show((57:UInt8).toNat:Int)=57 from rfl] at a b c d
 rw[a,b,c,d]
 unfold Bx P8 ij
 rw[show decide ((0:Int)<(k:Int))=decide (0<k) from by simp,Bool.and_assoc]
theorem Qa {s:aj} (hj:j<s.length) (h:Bx s j=false):nO s=false:=by
 unfold nO
 rw[Bool.and_eq_false_iff];left
 rw[List.all_eq_false]
 exact⟨j,List.mem_range.2 hj,by simp[h]⟩
theorem Qb {s:aj} (h:∀j,j<s.length->Bx s j=true):nO s=decide (s≠[]):=by
 unfold nO
 rw[List.all_eq_true.2 (λj hj=>h j (List.mem_range.1 hj)),Bool.true_and]
theorem Qc {P:Nat->Prop} {k:Nat} (h:∀j,j<k->P j) (hk:P k):∀j,j<k+1->P j:=λj hj=>by
 rcases Nat.lt_or_ge j k with h1|h1
 ·exact h j h1
 ·rw[show j=k from by omega];exact hk
theorem E7 {t p:aA} (ha:t.az=[]) (hp:t.au[0]?=some p):cI t=p.az:=by
 unfold cI
 cases h:t.au with
 |nil=>rw[h] at hp;simp at hp
 |cons q r=>rw[h] at hp;simp at hp;subst hp;simp[ha]
theorem Dg {t:aA} (h:t.az≠[]∨t.au=[]):cI t=[]:=by unfold cI;rw[iP h]
theorem aai {s:aj} (h0:s≠[48]) (h:(eD s).length<1∨3<(eD s).length∨(eD s).getD 0 0=48):numeral s=none:=by
 unfold numeral;rw[iN h0,iP h]
theorem aaj {s:aj} {k:Nat} (h0:s≠[48]) (hk:k<(eD s).length) (h:ij ((eD s).getD k 0)=false):numeral s=none:=by
 unfold numeral
 rw[iN h0]
 split
 ·rfl
 ·rw[iN]
  intro dA
  have:=List.all_eq_true.1 dA ((eD s).getD k 0) (by rw[gG,gE hk];simp)
  rw[this] at h;cases h
theorem aak {s:aj} (h0:s≠[48]) (h:1<=(eD s).length∧(eD s).length<=3∧(eD s).getD 0 0≠48) (dA:(eD s).all ij=true):numeral s=some (qS s*val (eD s)):=by
 unfold numeral
 rw[iN h0,iN (by rintro(h1|h1|h1);omega;omega;exact h.2.2 h1),iP dA]
theorem aal (s:aj):qS s=1∨qS s= -1:=by unfold qS;split<;>simp
theorem aam {ds:aj} (h:(!(decide ((1:Int)<=(ds.length:Int))&&decide ((ds.length:Int)<=3))||decide (((ds.getD 0 0).toNat:Int)=48))=true):ds.length<1∨3<ds.length∨ds.getD 0 0=48:=by
 simp only[oE,Bool.not_eq_true',Bool.and_eq_false_iff,decide_eq_false_iff_not,dE] at h
 rcases h with(h|h)|h
 ·left;omega
 ·right;left;omega
 ·right;right;exact UInt8.toNat_inj.1 (by have:(48:UInt8).toNat=48:=rfl;rw[this];omega)
theorem aan {ds:aj} (h:(!(decide ((1:Int)<=(ds.length:Int))&&decide ((ds.length:Int)<=3))||decide (((ds.getD 0 0).toNat:Int)=48))=false):1<=ds.length∧ds.length<=3∧ds.getD 0 0≠48:=by
 simp only[Bool.or_eq_false_iff,Bool.not_eq_false',aE,decide_eq_false_iff_not,dE] at h
 refine⟨by omega,om,λQd=>h.2 (by rw[Qd];rfl)⟩
theorem Qe {c:UInt8} (h:(decide ((c.toNat:Int)<48)||decide ((57:Int)<c.toNat))=true):ij c=false:=by
 cases hd:ij c with
 |false=>rfl
 |true=>
  have:=(Bw c).1 hd
  simp only[oE,dE] at h
  omega
theorem Qf {c:UInt8} (h:(decide ((c.toNat:Int)<48)||decide ((57:Int)<c.toNat))=false):48<=c.toNat∧c.toNat<=57∧ij c=true:=by
 simp only[Bool.or_eq_false_iff,decide_eq_false_iff_not] at h
 exact⟨by omega,om,(Bw c).2 ⟨by omega,om⟩⟩
theorem zK (s:aj) (L:List Nat) (w:World) (hL:∀x,x∈L->x<w.heap.size):
  bZ Tryz.prog 38 [str s] w λv w'=>(∃t tv,v= .tuple #[tv,.bool (ba s).isSome]∧bS L w' tv t∧∀t',ba s=some t'->t=t')∧ak [] w w':=by
 have hK:=ak.refl [] w
 refine lz [.cell 2 66,.tmp 3] 20 Tryz.func38 rfl PV rfl rfl rfl ?_
 refine zr<|eC aH rfl rfl rfl ?_
 intro w1 aJ aZ dV
 have hK:=hK.grow;have hK:=hK.ext aJ
 refine zA<|ag<|aQ<|zr<|zm<|kL fc rfl rfl rfl<|jx rfl rfl rfl rfl rfl<|ag<|zc rfl (λh1=>?_) (λh1=>?_)
 have hp:ba s=none:=by unfold ba;rw[iP om]
 refine zr<|j6 (EX _) rfl rfl<|dk aH rfl rfl rfl aZ rfl ?_
 intro w2 aq aZ eK
 have hK:=hK.aL aq sx
 refine zA<|ag<|aV ?_
 exact⟨[_,_],⟨gR bT aH rfl aZ rfl,rfl⟩,⟨.mk [] [],_,by rw[hp];rfl,ly oV,λt' h=>by rw[hp] at h;cases h⟩,hK⟩
 refine bA<|zr<|zm<|aC (aae s om 61 0 (w.heap.size::L) w1 om om (by intro x hx;rcases mC.1 hx with rfl|hx;(·omega);(·have:=hL x hx;omega))) ?_
 rintro v2 w2 ⟨dz,aq⟩
 have dR:=aq.size
 have hK:=hK.ext aq;have aZ:=aZ.ext aq
 obtain⟨t,tv,en,rfl,ht,hm⟩:=dz
 obtain⟨pa,pn,pc,rfl,fR,bc⟩:=dN ht
 refine zm<|zx (i:=0) rfl rfl<|zx (i:=1) rfl rfl<|eC aH rfl rfl rfl ?_
 intro w3 aK aI iK
 have hK:=hK.grow;have hK:=hK.ext aK;have aZ:=aZ.grow;have aZ:=aZ.ext aK;have ht:=ht.grow;have ht:=ht.ext aK
 refine dk aH rfl rfl rfl aI rfl ?_
 intro w4 aD aI iL
 have hK:=hK.aL aD sx;have aZ:=aZ.aL aD sx;have ht:=ht.aL aD sx
 refine zA<|ag<|zr<|zL bT aH rfl aI.all rfl<|zm<|zm<|kL fc rfl rfl rfl<|dO rfl rfl rfl<|dk aH rfl rfl rfl aZ rfl ?_
 intro w5 aT aZ jo
 have hK:=hK.aL aT sx;have ht:=ht.aL aT sx
 refine zA<|ag<|aV ?_
 have Dh:=XB om hm
 exact⟨[_,_],⟨gR bT aH rfl aZ rfl,rfl⟩,⟨t,_,by rw[<-Dh.1];rfl,kB.fresh ht (λx hx=>.inl (by simp[hx])),Dh.2⟩,hK⟩
theorem HN (t:aA) (v:Value) (L:List Nat) (w:World) (hv:bS L w v t):bZ Tryz.prog 39 [v] w λr w'=>r=str (cI t)∧ak [] w w':=by
 obtain⟨a,n,c,rfl,hn,bc⟩:=dN hv
 have hK:=ak.refl [] w
 refine cU [.tmp 2] 17 Tryz.func39 rfl Zh rfl rfl ?_
 refine zr<|fA rfl ?_
 intro w1 aJ aU dV
 have hK:=hK.ext aJ;have bc:=bc.ext aJ
 refine zA<|ag<|aQ<|zr<|zf dB rfl<|zl cg rfl (aU.at rfl)<|jF rfl rfl rfl rfl<|zm ?_
 apply fo 5 6 11 [6,7,8,9,10,11] (λw'=>w1=w') rfl
 intro h1
 replace h1:=bu h1
 refine zs<|zs<|zs<|zs<|zp rfl<|ag ?_
 exact mg rfl rfl
 intro h1
 replace h1:=bu h1
 refine zf cM rfl<|zl cK rfl (aU.at rfl)<|eh cw rfl<|dO rfl rfl rfl<|zp rfl<|ag ?_
 exact mg rfl rfl
 rintro xx _ rfl
 refine ag<|zc rfl (λh2=>?_) (λh2=>?_)
 have hh:cI t=[]:=Dg (by simp at h2;rcases h2 with h|h;(·exact .inl h);(·right;subst hn;simpa using h))
 refine zr<|zA<|ag<|aV ?_
 exact⟨_,rfl,by rw[hh];rfl,hK⟩
 simp at h2
 have h0:=h2.2
 have aR:∃p0,t.au[0]?=some p0:=⟨t.au[0]'om,gE om⟩
 obtain⟨p0,mV⟩:=aR
 obtain⟨b,off,pa,pn,pc,rfl,er,fR,iy⟩:=j8 bc mV
 have hh:cI t=p0.az:=E7 h2.1 mV
 refine bA<|zr<|zf cM rfl<|zl cK rfl (aU.at rfl)<|zi (i:=0) cw aH rfl rfl (by rw[hn];exact(List.getElem?_eq_some_iff.1 mV).1) ?_
 refine zf dB rfl<|zl cg rfl (er 0 _ rfl)<|zA<|ag<|aV ?_
 exact⟨_,rfl,by rw[hh];rfl,hK⟩
theorem Qg (s:aj) (hs:s.length<9223372036854775807) (w:World):bZ Tryz.prog 55 [str s] w λr w'=>r= .bool (nO s)∧w=w':=by
 refine cU [.tmp 2] 39 Tryz.func55 rfl Zq rfl rfl ?_
 refine zr<|zA<|ag<|aQ<|zr<|zA<|ag<|cP ?_
 refine fZ (λk:Nat=>[(0,str s),(3,.int .i64 (k:Int))]) (λk w'=>w'=w∧k<=s.length∧∀j,j<k->Bx s j=true) (λk=>s.length-k) (0) (⟨rfl,rfl⟩) (⟨rfl,om,by intro j hj;omega⟩) ?_
 intro gg w1 e1 hI
 obtain⟨rfl,hk,dA⟩:=hI
 refine aQ<|zr<|zm<|zm<|kL fc rfl rfl rfl<|fJ rfl rfl rfl<|ag<|zc rfl (λh1=>?_) (λh1=>?_)
 refine bA<|aQ<|cP<|zr<|zm<|zm<|kC fc rfl rfl rfl rfl (jH om)<|lU rfl rfl rfl rfl rfl<|zm ?_
 apply fU 5 14 19 [14,15,16,17,18,19] (λw'=>w1=w') rfl
 intro h2
 replace h2:=bu h2
 refine zm<|zm<|kC fc rfl rfl rfl rfl (jH om)<|qN rfl rfl rfl rfl rfl<|zp rfl<|ag ?_
 exact mg rfl rfl
 intro h2
 replace h2:=bu h2
 refine zs<|zs<|zs<|zs<|zp rfl<|ag ?_
 exact mg rfl rfl
 rintro xx _ rfl
 refine zm ?_
 apply fo 15 20 35 [20,21,22,23,24,25,26,27,28,29,30,31,32,33,34,35] (λw'=>w1=w') rfl
 intro h3
 replace h3:=bu h3
 refine zs<|zs<|zs<|zs<|zs<|zs<|zs<|zs<|zs<|zs<|zs<|zs<|zs<|zs<|zp rfl<|ag ?_
 exact mg rfl rfl
 intro h3
 replace h3:=bu h3
 refine zm<|jx rfl rfl rfl rfl rfl<|zm ?_
 apply fU 5 23 28 [23,24,25,26,27,28] (λw'=>w1=w') rfl
 intro h4
 replace h4:=bu h4
 refine zm<|zm<|kC fc rfl rfl rfl rfl (jH om)<|lU rfl rfl rfl rfl rfl<|zp rfl<|ag ?_
 exact mg rfl rfl
 intro h4
 replace h4:=bu h4
 refine zs<|zs<|zs<|zs<|zp rfl<|ag ?_
 exact mg rfl rfl
 rintro xx _ rfl
 refine zm ?_
 apply fU 5 29 34 [29,30,31,32,33,34] (λw'=>w1=w') rfl
 intro h5
 replace h5:=bu h5
 refine zm<|zm<|kC fc rfl rfl rfl rfl (jH om)<|qN rfl rfl rfl rfl rfl<|zp rfl<|ag ?_
 exact mg rfl rfl
 intro h5
 replace h5:=bu h5
 refine zs<|zs<|zs<|zs<|zp rfl<|ag ?_
 exact mg rfl rfl
 rintro xx _ rfl
 refine zp rfl<|ag ?_
 exact mg rfl rfl
 rintro xx _ rfl
 refine eH rfl<|ag<|zc rfl (λh6=>?_) (λh6=>?_)
 rw[HM] at h6
 refine zr<|zA<|ag<|aV ?_
 exact⟨_,rfl,by rw[Qa om h6];rfl,rfl⟩
 rw[HM] at h6
 refine bA<|db<|zm<|eE rfl rfl rfl (wrap_i64 _ om om)<|zA<|ag ?_
 exact⟨gg+1,⟨rfl,rfl⟩,⟨rfl,om,Qc dA h6⟩,om⟩
 refine gF<|gH rfl<|zr<|zm<|jF rfl rfl rfl rfl<|zA<|ag<|aV ?_
 exact⟨_,rfl,by rw[Qb (λj hj=>dA j om)];rfl,rfl⟩
def E8 (s:aj):Value:=.tuple #[.int .i64 ((numeral s).getD 0),.bool (numeral s).isSome]
theorem HO (s:aj) (w:World):bZ Tryz.prog 123 [str s] w λv w'=>v=E8 s∧w=w':=by
 refine cU [.tmp 2,.tmp 3] 57 Tryz.func123 rfl Ya rfl rfl ?_
 refine zr<|zA<|zA<|ag<|zr<|zA<|ag<|zr<|zm<|zA<|ag<|aQ<|zr<|zm<|kL fc rfl rfl rfl<|jx rfl rfl rfl rfl rfl<|zm ?_
 apply fU 4 12 16 [12,13,14,15,16] (λw'=>w=w') rfl
 intro h1
 replace h1:=bu h1
 refine zm<|kC (i:=0) fc rfl rfl rfl rfl (jH om)<|dO rfl rfl rfl<|zp rfl<|ag ?_
 exact mg rfl rfl
 intro h1
 replace h1:=bu h1
 refine zs<|zs<|zs<|zp rfl<|ag ?_
 exact mg rfl rfl
 rintro xx _ rfl
 refine ag ?_
 refine jh (λ_:Unit=>[(0,str s),(4,.int .i64 (qS s)),(5,str (eD s))]) (λ_ w'=>w'=w) ?_ ?_
 refine zc rfl (λh2=>?_) (λh2=>?_)
 have hm:0<s.length∧s.getD 0 0=45:=by have E9:=P9 45 (s.getD 0 0);simp only[show((45:UInt8).toNat:Int)=45 from rfl] at E9;rw[E9] at h2;simpa using h2
 refine zr<|zA<|ag<|db<|zm<|Bf (l:=1) fc rfl rfl rfl (.inr ⟨_,rfl⟩) (.inl ⟨rfl,rfl⟩) om om<|zA<|ag ?_
 exact⟨(),⟨rfl,by rw[qS,iP hm];rfl,by have h1:eD s=(s.drop 1).take (s.length-1):=by{rw[eD,iP hm,List.take_of_length_le sm]};rw[h1];exact rfl⟩,rfl⟩
 have hm:¬(0<s.length∧s.getD 0 0=45):=by have E9:=P9 45 (s.getD 0 0);simp only[show((45:UInt8).toNat:Int)=45 from rfl] at E9;rw[E9] at h2;simpa using h2
 refine bA ?_
 exact⟨(),⟨rfl,by rw[qS,iN hm];rfl,by rw[eD,iN hm];exact rfl⟩,rfl⟩
 intro gu w1 e1 hI
 obtain rfl:=hI
 refine aQ<|zr<|zm<|cW rfl rfl<|ag<|zc rfl (λh3=>?_) (λh3=>?_)
 have hn:numeral s=some 0:=by unfold numeral;rw[iP h3]
 refine zr<|zA<|zA<|ag<|aV ?_
 exact⟨_,rfl,by unfold E8;rw[hn];rfl,rfl⟩
 have oy:=h3
 refine bA<|aQ<|zr<|zm<|kL fc rfl rfl rfl<|aC (E3 _ _ _ _) ?_
 rintro _ _ ⟨rfl,rfl⟩
 refine eH rfl<|zm ?_
 apply fo 4 25 29 [25,26,27,28,29] (λw'=>w1=w') rfl
 intro h4
 replace h4:=bu h4
 refine zs<|zs<|zs<|zp rfl<|ag ?_
 exact mg rfl rfl
 intro h4
 replace h4:=bu h4
 simp at h4
 refine zm<|kC (i:=0) fc rfl rfl rfl rfl (jH om)<|dO rfl rfl rfl<|zp rfl<|ag ?_
 exact mg rfl rfl
 rintro xx _ rfl
 refine ag<|zc rfl (λh5=>?_) (λh5=>?_)
 have hn:numeral s=none:=aai oy (aam h5)
 refine zr<|zA<|zA<|ag<|aV ?_
 exact⟨_,rfl,by unfold E8;rw[hn];rfl,rfl⟩
 have hd:=aan h5
 refine bA<|zr<|zA<|ag<|aQ<|zr<|zA<|ag<|cP ?_
 refine fZ (λk:Nat=>[(4,.int .i64 (qS s)),(5,str (eD s)),(6,.int .i64 (val ((eD s).take k):Nat)),(7,.int .i64 (k:Int))]) (λk w'=>w'=w1∧k<=(eD s).length∧((eD s).take k).all ij=true) (λk=>(eD s).length-k) (0) (⟨rfl,rfl,rfl,rfl⟩) (⟨rfl,om,sm⟩) ?_
 intro gg w2 e2 hI
 obtain⟨rfl,hk,dA⟩:=hI
 refine aQ<|zr<|zm<|zm<|kL fc rfl rfl rfl<|fJ rfl rfl rfl<|ag<|zc rfl (λh6=>?_) (λh6=>?_)
 have eU:gg<(eD s).length:=by omega
 have hv:=P7 _ dA
 have dz:val ((eD s).take gg)<100:=lL hv (Nat.le_trans (Nat.pow_le_pow_right om (show((eD s).take gg).length<=2 by simp;omega)) de)
 clear hv
 refine bA<|aQ<|cP<|aQ<|zr<|zm<|zm<|kC fc rfl rfl rfl rfl (jH eU)<|fJ rfl rfl rfl<|zm ?_
 apply fo 5 40 45 [40,41,42,43,44,45] (λw'=>w2=w') rfl
 intro h7
 replace h7:=bu h7
 refine zs<|zs<|zs<|zs<|zp rfl<|ag ?_
 exact mg rfl rfl
 intro h7
 replace h7:=bu h7
 refine zm<|zm<|kC fc rfl rfl rfl rfl (jH eU)<|jx rfl rfl rfl rfl rfl<|zp rfl<|ag ?_
 exact mg rfl rfl
 rintro xx _ rfl
 refine ag<|zc rfl (λh8=>?_) (λh8=>?_)
 have hn:numeral s=none:=aaj oy eU (Qe h8)
 refine zr<|zA<|zA<|ag<|aV ?_
 exact⟨_,rfl,by unfold E8;rw[hn];rfl,rfl⟩
 have hc:=Qf h8
 have bC:=hc.1
 have bX:=hc.2.1
 refine bA<|db<|zm<|Be rfl rfl rfl rfl rfl (wrap_i64 _ om om)<|zm<|zm<|kC fc rfl rfl rfl rfl (jH eU)<|mO rfl rfl rfl rfl rfl (wrap_u8 _ om om)<|xw zH xF rfl rfl rfl (wrap_i64 _ om om)<|eE rfl rfl rfl (wrap_i64 _ om om)<|zA<|ag<|db<|zm<|eE rfl rfl rfl (wrap_i64 _ om om)<|zA<|ag ?_
 exact⟨gg+1,⟨rfl,rfl,by rw[KV eU,P6];show Value.int _ _=Value.int _ _;congr 1;omega,rfl⟩,⟨rfl,om,by rw[KV eU,List.all_append,dA];simp only[List.all_cons,hc.2.2];rfl⟩,om⟩
 have gJ:(eD s).take gg=eD s:=List.take_of_length_le om
 rw[gJ] at dA
 have hv:=P7 _ dA
 have dz:val (eD s)<1000:=lL hv (Nat.le_trans (Nat.pow_le_pow_right om hd.2.1) de)
 clear hv
 rw[gJ]
 have dy:=aal s
 have hmul: -1000<qS s*(val (eD s):Int)∧qS s*(val (eD s):Int)<1000:=by rcases dy with h|h<;>rw[h]<;>omega
 refine gF<|gH rfl<|zr<|zm<|zm<|Be rfl rfl rfl rfl rfl (wrap_i64 _ om om)<|zA<|zA<|ag<|aV ?_
 exact⟨_,rfl,by unfold E8;rw[aak oy hd dA];rfl,rfl⟩
def aA.size:aA->Nat
 | .mk a ps=>1+a.length+sizes ps
 where sizes:List aA->Nat
 |[]=>0
 |t::ts=>t.size+sizes ts
theorem aao {ps:List aA}:∀{i:Nat} {p:aA},ps[i]?=some p->p.size<=aA.size.sizes ps:=by
 induction ps with
 |nil=>intro i p h;simp at h
 |cons q ps ih=>
  intro i p h
  cases i with
  |zero=>simp at h;subst h;simp only[aA.size.sizes];omega
  |succ i=>have:=ih (by simpa using h);simp only[aA.size.sizes];omega
theorem Qh {t p:aA} (h:t.au[i]?=some p):p.size<t.size:=by
 cases t with
 |mk a ps=>have:=aao (ps:=ps) h;simp only[aA.size];omega
theorem xI:∀t:aA,t.au.length<t.size
 | .mk a ps=>by
  have:∀l:List aA,l.length<=aA.size.sizes l:=by
   intro l
   induction l with
   |nil=>simp[aA.size.sizes]
   |cons q r ih=>cases q;simp only[aA.size.sizes,aA.size,lC];omega
  have:=this ps
  simp only[aA.au,aA.size];omega
inductive WF:aA->Prop
 |az (a:aj) (h:a≠[]):WF (.mk a [])
 |list (ps:List aA) (h:ps≠[]) (hp:∀p,p∈ps->WF p):WF (.mk [] ps)
theorem WF.part {t p:aA} (h:WF t) (hp:t.au[i]?=some p):WF p:=by
 cases h with
 |az a _=>simp[aA.au] at hp
 |list ps _ hw=>exact hw p (List.mem_of_getElem? hp)
theorem WF.first {t:aA} (h:WF t) (ha:t.az=[]):∃p,t.au[0]?=some p:=by
 cases h with
 |az a hn=>exact absurd ha hn
 |list ps hn _=>
  cases ps with
  |nil=>exact absurd rfl hn
  |cons q r=>exact⟨q,rfl⟩
theorem WF.leaf {t:aA} (h:WF t) (ha:t.az≠[]):t.au=[]:=by
 cases h with
 |az a _=>rfl
 |list ps _ _=>exact absurd rfl ha
theorem Qi {rd:aj->Option (aA×aj)} (fp:∀s t r,rd s=some (t,r)->WF t):∀n s ts r,iU rd n s=some (ts,r)->ts≠[]∧∀p,p∈ts->WF p
 |0,_,_,_,h=>by simp[iU] at h
 |n+1,s,ts,r,h=>by
  unfold iU at h
  cases hr:rd s with
  |none=>simp[hr] at h
  |some q=>
   obtain⟨t,r1⟩:=q
   have ht:=fp s t r1 hr
   simp only[hr] at h
   cases r1 with
   |nil=>simp at h
   |cons c r'=>
    simp only at h
    by_cases h1:c=41
    ·rw[iP h1] at h
     simp at h
     obtain⟨rfl,_⟩:=h
     exact⟨by simp,by intro p hp;simp at hp;subst hp;exact ht⟩
    ·rw[iN h1] at h
     by_cases h2:c=32
     ·rw[iP h2] at h
      cases hp:iU rd n r' with
      |none=>simp[hp] at h
      |some q=>
       obtain⟨ts',r''⟩:=q
       simp[hp] at h
       obtain⟨rfl,_⟩:=h
       obtain⟨_,h4⟩:=Qi fp n r' ts' r'' hp
       exact⟨by simp,by intro p hp;rcases mC.1 hp with rfl|hp;exact ht;exact h4 p hp⟩
     ·rw[iN h2] at h;cases h
theorem aap:∀d s t r,fa d s=some (t,r)->WF t:=by
 have leaf:∀(s:aj) (t:aA) (r:aj),(if s.takeWhile fB=[] then none else some (aA.mk (s.takeWhile fB) [],s.dropWhile fB))=some (t,r)->WF t:=by
  intro s t r h
  split at h
  ·cases h
  ·rename_i hn
   simp only[Option.some.injEq,Prod.mk.injEq] at h
   rw[<-h.1];exact .az _ hn
 intro d
 induction d with
 |zero=>
  intro s t r h
  cases s with
  |nil=>simp[fa] at h
  |cons c s=>
   simp only[fa] at h
   by_cases h1:c=40
   ·rw[iP h1] at h;cases h
   ·rw[iN h1] at h;exact leaf _ _ _ h
 |succ d ih=>
  intro s t r h
  cases s with
  |nil=>simp[fa] at h
  |cons c s=>
   simp only[fa] at h
   by_cases h1:c=40
   ·rw[iP h1] at h
    cases hp:iU (fa d) (s.length+1) s with
    |none=>simp[hp] at h
    |some q=>
     obtain⟨ts',r''⟩:=q
     simp[hp] at h
     obtain⟨h3,h4⟩:=Qi ih _ _ _ _ hp
     rw[<-h.1];exact .list _ h3 h4
   ·rw[iN h1] at h;exact leaf _ _ _ h
theorem tu {s:aj} {t:aA} (h:ba s=some t):WF t:=by
 unfold ba at h
 split at h
 ·cases h
 ·cases hr:fa 60 s with
  |none=>rw[hr] at h;cases h
  |some q=>
   obtain⟨t',r⟩:=q
   rw[hr] at h
   cases r with
   |nil=>simp at h;subst h;exact aap _ _ _ _ hr
   |cons c r=>cases h
theorem Qj {rd:aj->Option (aA×aj)} (fp:∀s t r,rd s=some (t,r)->t.size+r.length<=s.length+1):∀n s ts r,iU rd n s=some (ts,r)->aA.size.sizes ts+r.length<=s.length
 |0,_,_,_,h=>by simp[iU] at h
 |n+1,s,ts,r,h=>by
  unfold iU at h
  cases hr:rd s with
  |none=>simp[hr] at h
  |some q=>
   obtain⟨t,r1⟩:=q
   have ht:=fp s t r1 hr
   simp only[hr] at h
   cases r1 with
   |nil=>simp at h
   |cons c r'=>
    simp only at h
    rw[lC] at ht
    by_cases h1:c=41
    ·rw[iP h1] at h
     simp at h
     obtain⟨rfl,rfl⟩:=h
     simp only[aA.size.sizes];omega
    ·rw[iN h1] at h
     by_cases h2:c=32
     ·rw[iP h2] at h
      cases hp:iU rd n r' with
      |none=>simp[hp] at h
      |some q=>
       obtain⟨ts',r''⟩:=q
       simp[hp] at h
       obtain⟨rfl,rfl⟩:=h
       have h4:=Qj fp n r' ts' r'' hp
       simp only[aA.size.sizes];omega
     ·rw[iN h2] at h;cases h
theorem aaq:∀d s t r,fa d s=some (t,r)->t.size+r.length<=s.length+1:=by
 have leaf:∀(s:aj) (t:aA) (r:aj),(if s.takeWhile fB=[] then none else some (aA.mk (s.takeWhile fB) [],s.dropWhile fB))=some (t,r)->t.size+r.length<=s.length+1:=by
  intro s t r h
  split at h
  ·cases h
  ·simp only[Option.some.injEq,Prod.mk.injEq] at h
   obtain⟨rfl,rfl⟩:=h
   have h1:=ES fB s
   rw[C6,List.length_drop]
   simp only[aA.size,aA.size.sizes];omega
 intro d
 induction d with
 |zero=>
  intro s t r h
  cases s with
  |nil=>simp[fa] at h
  |cons c s=>
   simp only[fa] at h
   by_cases h1:c=40
   ·rw[iP h1] at h;cases h
   ·rw[iN h1] at h;exact leaf _ _ _ h
 |succ d ih=>
  intro s t r h
  cases s with
  |nil=>simp[fa] at h
  |cons c s=>
   simp only[fa] at h
   by_cases h1:c=40
   ·rw[iP h1] at h
    cases hp:iU (fa d) (s.length+1) s with
    |none=>simp[hp] at h
    |some q=>
     obtain⟨ts',r''⟩:=q
     simp[hp] at h
     have h3:=Qj ih _ _ _ _ hp
     obtain⟨rfl,rfl⟩:=h
     simp only[aA.size,lC,List.length_nil];omega
   ·rw[iN h1] at h;exact leaf _ _ _ h
theorem KX {s:aj} {t:aA} (h:ba s=some t):s.length<=12000:=by
 unfold ba at h
 split at h
 ·cases h
 ·omega
theorem By {s:aj} {t:aA} (h:ba s=some t):t.size<=12001:=by
 have hs:=KX h
 unfold ba at h
 split at h
 ·cases h
 ·cases hr:fa 60 s with
  |none=>rw[hr] at h;cases h
  |some q=>
   obtain⟨t',r⟩:=q
   rw[hr] at h
   cases r with
   |nil=>simp at h;subst h;have:=aaq _ _ _ _ hr;simp at this;omega
   |cons c r=>cases h
theorem xJ:∀t:aA,t.az.length<t.size
 | .mk a ps=>by simp only[aA.az,aA.size];omega
def fC (hidden:Bool):aA->Bool
 | .mk a ps=>if a≠[] then decide (a=[105])||(hidden&&decide (a=[118])) else match ps with
  |[]=>false
  |h::rest=>if h.az=[101] then oneT rest else if h.az=[116]∨h.az=[99] then Di hidden rest else false
 where
 oneT:List aA->Bool
  |[]=>false
  |[t]=>fC true t
  |_::_::_=>false
 Di (hidden:Bool):List aA->Bool
  |[]=>true
  |t::ts=>fC hidden t&&Di hidden ts
theorem Qk (hidden:Bool):∀ts,fC.Di hidden ts=ts.all (fC hidden)
 |[]=>rfl
 |t::ts=>by simp[fC.Di,Qk hidden ts]
def nth (ps:List aA) (i:Nat):aA:=ps.getD i (.mk [] [])
theorem iM {ps:List aA} (h:i<ps.length):ps[i]?=some (nth ps i):=by
 simp[nth,List.getD,gE h]
theorem lX {t:aA} (h:i<t.au.length):(nth t.au i).size<t.size:=Qh (iM h)
theorem WF.nth {t:aA} (h:WF t) (hi:i<t.au.length):WF (nth t.au i):=h.part (iM hi)
theorem WF.pos {t:aA} (h:WF t) (ha:t.az=[]):0<t.au.length:=by
 obtain⟨p,hp⟩:=h.first ha
 exact(List.getElem?_eq_some_iff.1 hp).1
theorem Ql {t:aA} (h:t.az≠[]) (hidden:Bool):fC hidden t=(decide (t.az=[105])||(hidden&&decide (t.az=[118]))):=by
 cases t with
 |mk a ps=>unfold fC;exact iP h
theorem KY {t:aA} (ha:t.az=[]) (hp:0<t.au.length) (he:(nth t.au 0).az=[101]) (hidden:Bool):fC hidden t=(decide (t.au.length=2)&&fC true (nth t.au 1)):=by
 cases t with
 |mk a ps=>
  simp only[aA.az] at ha
  subst ha
  cases ps with
  |nil=>simp[aA.au] at hp
  |cons h rest=>
   have uA:h.az=[101]:=he
   simp only[fC,uA,aA.au,ne_eq,not_true_eq_false,if_false,if_true]
   match rest with
   |[]=>simp[fC.oneT]
   |[p]=>simp[fC.oneT,_root_.Go.Proofs.YtigijcjccmdmhaaGreatDoor.nth]
   |p::q::r=>simp[fC.oneT]
theorem KZ {t:aA} (ha:t.az=[]) (hp:0<t.au.length) (he:(nth t.au 0).az=[116]∨(nth t.au 0).az=[99]) (hidden:Bool):fC hidden t=(t.au.drop 1).all (fC hidden):=by
 cases t with
 |mk a ps=>
  simp only[aA.az] at ha
  subst ha
  cases ps with
  |nil=>simp[aA.au] at hp
  |cons h rest=>
   have uA:h.az=[116]∨h.az=[99]:=he
   have eN:h.az≠[101]:=by rcases uA with h|h<;>rw[h]<;>decide
   simp only[fC,eN,uA,aA.au,ne_eq,not_true_eq_false,if_false,if_true,Qk,List.drop_one,List.tail_cons]
theorem Qm {t:aA} (ha:t.az=[]) (hp:0<t.au.length) (h1:(nth t.au 0).az≠[101]) (h2:¬((nth t.au 0).az=[116]∨(nth t.au 0).az=[99])) (hidden:Bool):fC hidden t=false:=by
 cases t with
 |mk a ps=>
  simp only[aA.az] at ha
  subst ha
  cases ps with
  |nil=>simp[aA.au] at hp
  |cons h rest=>
   have h1':h.az≠[101]:=h1
   have h2':¬(h.az=[116]∨h.az=[99]):=h2
   simp only[fC,h1',h2',ne_eq,not_true_eq_false,if_false]
theorem Qn {ps:List aA} {f:aA->Bool} (hi:i<ps.length):(ps.drop i).all f=(f (nth ps i)&&(ps.drop (i+1)).all f):=by
 rw[List.drop_eq_getElem_cons hi,List.all_cons]
 simp[nth,List.getD,gE hi]
theorem aat {a x y:aj} (h:(decide (a≠x)&&decide (a≠y))=false):a=x∨a=y:=by
 simp only[Bool.and_eq_false_iff,decide_eq_false_iff_not,Classical.not_not] at h;exact h
theorem aau {a x y:aj} (h:(decide (a≠x)&&decide (a≠y))=true):¬(a=x∨a=y):=by
 simp only[aE,dE] at h;exact λhh=>hh.elim h.1 h.2
def zM (a:aj):Int:=match numeral a with
 |some n=>if 0<=n∧n<=39 then n else -1
 |none=> -1
def uG (a:aj):Bool:=decide (0<=zM a)
def jq (z:Int) (t:aA):Bool:=
 if z=114∨z=42 then uG t.az else if z=110 then(numeral t.az).isSome else if z=108 then nO t.az
 else if z=101 then decide (cI t=[101])&&fC false t else fC false t
theorem Qo {b:Bool} (h:(!b)=false):b=true:=by cases b;cases h;rfl
theorem Qp {b:Bool} (h:(!b)=true):b=false:=by cases b;rfl;cases h
theorem zN {a b:Prop} [Decidable a] [Decidable b] (h:a):decide a=(decide a||decide b):=by rw[dT h];rfl
theorem zO {a b:Prop} [Decidable a] [Decidable b] (h:¬a):decide b=(decide a||decide b):=by rw[dF h];rfl
theorem Qq {a b:Prop} [Decidable a] [Decidable b] [Decidable c] (h:a):decide a=(decide a||decide b||decide c):=by rw[dT h];rfl
theorem Qr {a b:Prop} [Decidable a] [Decidable b] [Decidable c] (h:¬a) (h2:b):decide b=(decide a||decide b||decide c):=by rw[dF h,dT h2];rfl
theorem Qs {a b:Prop} [Decidable a] [Decidable b] [Decidable c] (h:¬a) (h2:¬b):decide c=(decide a||decide b||decide c):=by rw[dF h,dF h2];rfl
theorem zP {a b:Prop} [Decidable a] [Decidable b] (h:(decide a||decide b)=true):a∨b:=by simpa using h
theorem zQ {a b:Prop} [Decidable a] [Decidable b] (h:(decide a||decide b)=false):¬(a∨b):=by simpa using h
theorem Qt {a b:Prop} [Decidable a] [Decidable b] [Decidable c] (h:(decide a||decide b||decide c)=true):a∨b∨c:=by simpa[or_assoc] using h
theorem Qu {a b:Prop} [Decidable a] [Decidable b] [Decidable c] (h:(decide a||decide b||decide c)=false):¬(a∨b∨c):=by
 simp only[Bool.or_eq_false_iff,decide_eq_false_iff_not] at h
 exact λhh=>by rcases hh with hh|hh|hh;exact h.1.1 hh;exact h.1.2 hh;exact h.2 hh
def shapeOf (h:aj):aj:=
 if h=[99,111,110,115,116] then[114,110]
 else if h=[109,111,118]∨h=[111,112,101,110] then[114,114]
 else if h=[97,100,100]∨h=[115,117,98]∨h=[109,117,108] then[114,114,114]
 else if h=[110,101,119] then[114,42]
 else if h=[103,101,116] then[114,114,110]
 else if h=[108,97,98]∨h=[122,101,114,111] then[114,108]
 else if h=[112,97,99,107] then[114,114,101,119]
 else if h=[106,117,109,112]∨h=[104,97,108,116] then[114]
 else[]
def Dj (h:aj) (i:Nat):Int:=((h.getD (min i h.length-1) 0).toNat:Int)
def su (t:aA):Bool:=(decide (shapeOf (cI t)≠[114,42])&&decide (t.au.length≠(shapeOf (cI t)).length+1))||decide (t.au.length<2)
def qh (t:aA) (i:Nat):Bool:=jq (Dj (shapeOf (cI t)) i) (nth t.au i)
def lY (t:aA):Bool:=if shapeOf (cI t)=[] then false else if su t then false
 else decide (∀i,i<t.au.length->1<=i->qh t i=true)&&(decide (cI t≠[103,101,116])||decide (0<=(numeral (nth t.au 3).az).getD 0))
theorem aav {h:aj} (hh:h=[103,101,116]):shapeOf h=[114,114,110]:=by rw[hh];decide
theorem aaw {t:aA} (h:su t=false) (hh:cI t=[103,101,116]):t.au.length=4:=by
 unfold su at h
 rw[aav hh] at h
 simp only[Bool.or_eq_false_iff,Bool.and_eq_false_iff,decide_eq_false_iff_not] at h
 rcases h.1 with h|h
 ·exact absurd de h
 ·simpa using h
theorem aax {t:aA} (h:su t=false):2<=t.au.length:=by
 unfold su at h
 simp only[Bool.or_eq_false_iff,decide_eq_false_iff_not] at h
 omega
theorem K0 {t:aA} (h:shapeOf (cI t)≠[]):t.az=[]∧0<t.au.length∧cI t=(nth t.au 0).az:=by
 have eN:cI t≠[]:=λhh=>by rw[hh] at h;exact h de
 by_cases ha:t.az=[]
 ·rcases Nat.eq_zero_or_pos t.au.length with hz|hz
  ·exact absurd (Dg (.inr (List.length_eq_zero_iff.1 hz))) eN
  ·exact⟨ha,hz,E7 ha (iM hz)⟩
 ·exact absurd (Dg (.inl ha)) eN
theorem aay (h:aj):(shapeOf h).length<=4:=by
 unfold shapeOf
 repeat' split
 all_goals decide
theorem Qv {t:aA} (hn:n=t.au.length):((decide (shapeOf (cI t)≠[114,42])&&decide ((n:Int)≠((shapeOf (cI t)).length:Int)+1))||decide ((n:Int)<2))=su t:=by
 unfold su
 subst hn
 congr 1
 ·congr 1
  exact decide_eq_decide.2 om
 ·exact decide_eq_decide.2 om
theorem Qw {t:aA} (h:shapeOf (cI t)=[]):lY t=false:=by unfold lY;rw[iP h]
theorem K1 {t:aA} (h:su t=true):lY t=false:=by
 unfold lY;rw[iP h];split<;>rfl
theorem aaz {t:aA} (hi:i<t.au.length) (h1:1<=i) (h:qh t i=false):lY t=false:=by
 unfold lY;split
 ·rfl
 ·split
  ·rfl
  ·rw[dF (λhh=>by have:=hh i hi h1;rw[h] at this;cases this)];rfl
theorem aaA {t:aA} (h1:shapeOf (cI t)≠[]) (h2:su t=false) (h:∀i,i<t.au.length->1<=i->qh t i=true):
  lY t=(decide (cI t≠[103,101,116])||decide (0<=(numeral (nth t.au 3).az).getD 0)):=by
 unfold lY;rw[iN h1,iN (by rw[h2];simp),dT h];rfl
theorem aaB {t:aA} (h:lY t=true):0<t.au.length:=by
 unfold lY at h
 split at h
 ·cases h
 ·rename_i eN;exact(K0 eN).2.1
def seen (f:aA->Bool) (s:aj):Bool:=match ba s with
 |some t=>f t
 |none=>false
theorem HP {f:aA->Bool} {s:aj} {t:aA} (h:∀t',ba s=some t'->t=t'):((ba s).isSome&&f t)=seen f s:=by
 unfold seen
 cases hp:ba s with
 |none=>rfl
 |some t'=>rw[h t' hp];rfl
def HQ (t:aA):Bool:=lY t&&(decide ((nth t.au 0).az=[106,117,109,112])||decide ((nth t.au 0).az=[104,97,108,116]))
abbrev rN (s:aj):Bool:=seen (fC false) s
abbrev bH (s:aj):Bool:=seen lY s
abbrev jr (s:aj):Bool:=seen HQ s
theorem aaC (t:aA) (v:Value) (L:List Nat) (w:World) (hv:bS L w v t):bZ Tryz.prog 159 [v] w λr w'=>r= .int .i64 (zM t.az)∧ak [] w w':=by
 obtain⟨a,n,c,rfl,hn,bc⟩:=dN hv
 have hK:=ak.refl [] w
 refine cU [.tmp 2] 19 Tryz.func159 rfl YE rfl rfl ?_
 refine zr<|fA rfl ?_
 intro w1 aJ aU dV
 have hK:=hK.ext aJ
 refine zA<|ag<|zr<|zf dB rfl<|zl cg rfl (aU.at rfl)<|aC (HO _ _) ?_
 rintro _ _ ⟨rfl,rfl⟩
 refine zm<|zx (i:=0) rfl rfl<|zx (i:=1) rfl rfl<|zA<|zA<|ag<|aQ<|zr<|zm<|eH rfl<|zm ?_
 apply fo 4 13 17 [13,14,15,16,17] (λw'=>w1=w') rfl
 intro h1
 replace h1:=bu h1
 refine zs<|zs<|zs<|zp rfl<|ag ?_
 exact mg rfl rfl
 intro h1
 replace h1:=bu h1
 refine zm<|aC (E3 _ _ _ _) ?_
 rintro _ _ ⟨rfl,rfl⟩
 refine eH rfl<|zp rfl<|ag ?_
 exact mg rfl rfl
 rintro xx _ rfl
 refine ag<|zc rfl (λh2=>?_) (λh2=>?_)
 have hr:zM t.az= -1:=by unfold zM;cases hn:numeral t.az with|none=>rfl|some k=>rw[hn] at h2;simp at h2;exact iN om
 refine zr<|zA<|ag<|aV ?_
 exact⟨_,rfl,by rw[hr];rfl,hK⟩
 have hr:zM t.az=(numeral t.az).getD 0:=by unfold zM;cases hn:numeral t.az with|none=>rw[hn] at h2;simp at h2|some k=>rw[hn] at h2;simp at h2;exact iP om
 refine bA<|zr<|zm<|zA<|ag<|aV ?_
 exact⟨_,rfl,by rw[hr];rfl,hK⟩
theorem K2:∀(m:Nat) (t:aA),t.size<=m->t.size<=100000->WF t->∀(hidden:Bool) (v:Value) (L:List Nat) (w:World),bS L w v t->
  bZ Tryz.prog 89 [v,.bool hidden,.bool false] w λr w'=>r= .bool (fC hidden t)∧ak [] w w':=by
 intro m
 induction m with
 |zero=>intro t h;cases t;simp[aA.size] at h
 |succ m ih=>
  intro t hm rO dx hidden v L w hv
  obtain⟨a,n,c,rfl,hn,bc⟩:=dN hv
  have hK:=ak.refl [] w
  have oX:=xI t
  refine cU [.tmp 6] 72 Tryz.func89 rfl ZO rfl rfl ?_
  refine zr<|fA rfl ?_
  intro w1 aJ bO dV
  have hK:=hK.ext aJ;have bc:=bc.ext aJ
  refine zA<|ag<|aQ<|zr<|zf dB rfl<|zl cg rfl (bO.at rfl)<|jF rfl rfl rfl rfl<|ag<|zc rfl (λh1=>?_) (λh1=>?_)
  refine zr<|zf dB rfl<|zl cg rfl (bO.at rfl)<|cW rfl rfl<|zm ?_
  apply fo 7 15 22 [15,16,17,18,19,20,21,22] (λw'=>w1=w') rfl
  intro h2
  replace h2:=bu h2
  refine zs<|zs<|zs<|zs<|zs<|zs<|zp rfl<|ag ?_
  exact mg rfl rfl
  intro h2
  replace h2:=bu h2
  refine zm<|zm ?_
  apply fU 4 17 21 [17,18,19,20,21] (λw'=>w1=w') rfl
  intro h3
  replace h3:=bu h3
  refine zf dB rfl<|zl cg rfl (bO.at rfl)<|cW rfl rfl<|zp rfl<|ag ?_
  exact mg rfl rfl
  intro h3
  replace h3:=bu h3
  refine zs<|zs<|zs<|zp rfl<|ag ?_
  exact mg rfl rfl
  rintro xx _ rfl
  refine zp rfl<|ag ?_
  exact mg rfl rfl
  rintro xx _ rfl
  refine zm ?_
  apply fo 7 23 30 [23,24,25,26,27,28,29,30] (λw'=>w1=w') rfl
  intro h4
  replace h4:=bu h4
  refine zs<|zs<|zs<|zs<|zs<|zs<|zp rfl<|ag ?_
  exact mg rfl rfl
  intro h4
  replace h4:=bu h4
  refine zm<|zm<|EH (t:=25) (b:=false) rfl<|zs<|zs<|zs<|zp rfl<|zp rfl<|ag ?_
  exact mg rfl rfl
  rintro xx _ rfl
  refine zA<|ag<|aV ?_
  exact⟨_,rfl,show Value.bool _=Value.bool _ from congrArg _ (by rw[Ql h1,Bool.or_false]),hK⟩
  have ha:t.az=[]:=Classical.not_not.1 h1
  have kR:=dx.pos ha
  have mV:=iM kR
  obtain⟨b,off,pa,pn,pc,rfl,er,fR,iy⟩:=j8 bc mV
  refine bA<|zr<|zf cM rfl<|zl cK rfl (bO.at rfl)<|zi (i:=0) cw aH rfl rfl (by rw[hn];exact kR)<|zf dB rfl<|zl cg rfl (er 0 _ rfl)<|zA<|ag<|aQ<|zr<|zm<|cW rfl rfl<|ag<|zc rfl (λh5=>?_) (λh5=>?_)
  refine zr<|zf cM rfl<|zl cK rfl (bO.at rfl)<|eh cw rfl<|dO rfl rfl rfl<|zm ?_
  apply fU 7 42 49 [42,43,44,45,46,47,48,49] (ak [] w1) rfl
  intro h6
  replace h6:=bu h6
  have Fa:=ak.refl [] w1
  have hlen:t.au.length=2:=by omega
  have qi:=iM (ps:=t.au) (i:=1) om
  obtain⟨b1,ga,gY,qT,gZ,aU,bC,sv,oY⟩:=j8 bc qi
  cases aU
  refine zf cM rfl<|zl cK rfl (bO.at rfl)<|zi (i:=1) cw aH rfl rfl om<|zL bT aH rfl bC rfl<|zm<|aC (ih (nth t.au 1) (by have:=lX (t:=t) (i:=1) om;omega) (by have:=lX (t:=t) (i:=1) om;omega) (dx.nth om) true _ L w1 (mS oY)) ?_
  rintro v2 w2 ⟨dz,aq⟩
  have dR:=aq.size
  have Fa:=Fa.ext aq
  obtain rfl:=dz
  refine zp rfl<|ag ?_
  exact mg rfl Fa
  intro h6
  replace h6:=bu h6
  have Fa:=ak.refl [] w1
  refine zs<|zs<|zs<|zs<|zs<|zs<|zp rfl<|ag ?_
  exact mg rfl Fa
  intro xx w2 aq
  have hK:=hK.ext aq
  refine zA<|ag<|aV<|⟨_,rfl,show Value.bool _=Value.bool _ from congrArg _ ?_,hK⟩
  rw[KY ha kR h5]
  congr 1
  exact decide_eq_decide.2 om
  have eN:=h5
  refine bA<|aQ<|zr<|zm<|jF rfl rfl rfl rfl<|zm ?_
  apply fU 3 52 55 [52,53,54,55] (λw'=>w1=w') rfl
  intro h7
  replace h7:=bu h7
  refine zm<|jF rfl rfl rfl rfl<|zp rfl<|ag ?_
  exact mg rfl rfl
  intro h7
  replace h7:=bu h7
  refine zs<|zs<|zp rfl<|ag ?_
  exact mg rfl rfl
  rintro xx _ rfl
  refine ag<|zc rfl (λh8=>?_) (λh8=>?_)
  have hb:=Qm ha kR eN (aau h8)
  refine zr<|zA<|ag<|aV ?_
  exact⟨_,rfl,by rw[hb];rfl,hK⟩
  have zR:(nth t.au 0).az=[116]∨(nth t.au 0).az=[99]:=aat h8
  refine bA<|aQ<|zr<|zA<|ag<|cP ?_
  refine fZ (λk:Nat=>[(3,.pointer (some ⟨w.heap.size,0,none⟩)),(1,.bool hidden),(2,.bool false),(8,.int .i64 (k:Int))]) (λk w'=>ak [] w w'∧ak [] w1 w'∧1<=k∧k<=t.au.length∧(t.au.drop 1).all (fC hidden)=(t.au.drop k).all (fC hidden)) (λk=>t.au.length-k) (1) (⟨rfl,rfl,rfl,rfl⟩) (⟨hK,ak.refl [] _,om,om,rfl⟩) ?_
  intro gg w2 e2 hI
  obtain⟨hK,aJ,hk,gS,dA⟩:=hI
  have bc:=bc.ext aJ;have bO:=bO.ext aJ
  refine aQ<|zr<|zm<|zf cM rfl<|zl cK rfl (bO.at rfl)<|eh cw rfl<|fJ rfl rfl rfl<|ag<|zc rfl (λh9=>?_) (λh9=>?_)
  have hp:=iM (ps:=t.au) (i:=gg) om
  obtain⟨b1,ga,gY,qT,gZ,aU,bC,sv,oY⟩:=j8 bc hp
  cases aU
  refine bA<|aQ<|cP<|zr<|zf cM rfl<|zl cK rfl (bO.at rfl)<|zm<|zi cw aH rfl rfl om<|zL bT aH rfl bC rfl<|zm<|zm<|aC (ih (nth t.au gg) (by have:=lX (t:=t) (i:=gg) om;omega) (by have:=lX (t:=t) (i:=gg) om;omega) (dx.nth om) hidden _ L w2 (mS oY)) ?_
  rintro v3 w3 ⟨et,aK⟩
  have gd:=aK.size
  have hK:=hK.ext aK;have aJ:=aJ.ext aK
  obtain rfl:=et
  refine eH rfl<|ag<|zc rfl (λgI=>?_) (λgI=>?_)
  have hb:fC hidden t=false:=by rw[KZ ha kR zR,dA,Qn om,gI];rfl
  refine zr<|zA<|ag<|aV ?_
  exact⟨_,rfl,by rw[hb];rfl,hK⟩
  refine bA<|db<|zm<|eE rfl rfl rfl (wrap_i64 _ om om)<|zA<|ag ?_
  exact⟨gg+1,⟨rfl,rfl,rfl,rfl⟩,⟨hK,aJ,om,om,by rw[dA,Qn om,gI];rfl⟩,om⟩
  have hb:fC hidden t=true:=by rw[KZ ha kR zR,dA,List.drop_of_length_le om];rfl
  refine gF<|gH rfl<|zr<|zA<|ag<|aV ?_
  exact⟨_,rfl,by rw[hb];rfl,hK⟩
def ji (xs:List aj):List (List C):=xs.map λx=>[.val (str x)]
theorem rP (xs:List aj):(ji xs).length=xs.length:=by simp[ji]
theorem Qx {xs:List aj} {x:aj} (h:xs[i]?=some x):(ji xs)[i]?=some [.val (str x)]:=by simp[ji,h]
def bI (L:List Nat) (w:World) (v:Value) (xs:List aj):Prop:=cD L w v (.sl 1 (ji xs))
theorem bI.ext {xs:List aj} (h:bI L w v xs) (k:ak [] w w'):bI L w' v xs:=cD.ext h k
theorem bI.aL {xs:List aj} (h:bI L w v xs) (k:ak L' w w') (hL:∀x,x∈L'->x∈L):bI L w' v xs:=cD.aO h (k.mono hL)
theorem eI {xs:List aj} (h:bI L w v xs):∃a n c,v= .slice a n c∧n=xs.length:=by
 obtain⟨a,c,rfl,_⟩:=rK h
 exact⟨a,_,c,rfl,rP xs⟩
theorem Qy {x:aj} (h:dQ L w vs [.val (str x)]):vs=[str x]:=by
 match vs,h with
 |[v],h=>obtain⟨h1,_⟩:=h;cases h1;rfl
 |[],h=>exact h.elim
 |_::_::_,h=>exact h.2.elim
theorem qU {a:Option Addr} {c:Nat} {xs:List aj} {x:aj} (h:bI L w (.slice a n c) xs) (hi:xs[i]?=some x):
  ∃b off,a=some ⟨b,off,none⟩∧iH w b (off+i*1) [str x]:=by
 obtain⟨b,off,vs,ha,hb,hL,hl,hc,hr⟩:=ze h (Qx hi)
 rw[Qy hr] at hc
 exact⟨b,off,ha,hc⟩
abbrev aF (xs:List aj) (i:Nat):aj:=xs.getD i []
theorem lj {xs:List aj} (h:i<xs.length):xs[i]?=some (aF xs i):=by
 simp[gE h]
structure Bk where
 aP:aj
 cE:List aj
 code:List aj
def Bk.enc (b:Bk):List C:=[.val (str b.aP),.sl 1 (ji b.cE),.sl 1 (ji b.code)]
def qj (L:List Nat) (w:World) (v:Value) (b:Bk):Prop:=kB L w v b.enc
theorem qj.ext {b:Bk} (h:qj L w v b) (k:ak [] w w'):qj L w' v b:=kB.ext h k
theorem Qz {b:Bk} (h:dQ L w vs b.enc):∃v1 v2,vs=[str b.aP,v1,v2]∧bI L w v1 b.cE∧bI L w v2 b.code:=by
 rw[Bk.enc] at h
 match vs,h with
 |[v0,v1,v2],h=>obtain⟨h0,h1,h2,_⟩:=h;cases h0;exact⟨v1,v2,rfl,h1,h2⟩
 |[],h=>exact h.elim
 |[_],h=>exact h.2.elim
 |[_,_],h=>exact h.2.2.elim
 |_::_::_::_::_,h=>exact h.2.2.2.elim
theorem Bz {b:Bk} (h:qj L w v b):∃a1 n1 c1 a2 n2 c2,v= .agg #[str b.aP,.slice a1 n1 c1,.slice a2 n2 c2]∧
  n1=b.cE.length∧n2=b.code.length∧bI L w (.slice a1 n1 c1) b.cE∧bI L w (.slice a2 n2 c2) b.code:=by
 obtain⟨vs,rfl,hr⟩:=h
 obtain⟨v1,v2,rfl,h1,h2⟩:=Qz hr
 obtain⟨a1,n1,c1,rfl,fK⟩:=eI h1
 obtain⟨a2,n2,c2,rfl,fu⟩:=eI h2
 exact⟨a1,n1,c1,a2,n2,c2,rfl,fK,fu,h1,h2⟩
theorem xK {b:Bk} {v1 v2:Value} (h1:bI L w v1 b.cE) (h2:bI L w v2 b.code):qj L w (.agg #[str b.aP,v1,v2]) b:=
 ⟨[str b.aP,v1,v2],rfl,.val _,h1,h2,trivial⟩
def qV (L:List Nat) (w:World) (v:Value) (bs:List Bk):Prop:=cD L w v (.sl 3 (bs.map Bk.enc))
theorem qV.ext {bs:List Bk} (h:qV L w v bs) (k:ak [] w w'):qV L w' v bs:=cD.ext h k
theorem Fb {bs:List Bk} (h:qV L w v bs):∃a n c,v= .slice a n c∧n=bs.length:=by
 obtain⟨a,c,rfl,_⟩:=rK h
 exact⟨a,_,c,rfl,sm⟩
theorem zS {a:Option Addr} {c:Nat} {bs:List Bk} {k:Bk} (h:qV L w (.slice a n c) bs) (hi:bs[i]?=some k):
  ∃b off a1 n1 c1 a2 n2 c2,a=some ⟨b,off,none⟩∧iH w b (off+i*3) [str k.aP,.slice a1 n1 c1,.slice a2 n2 c2]∧
   n1=k.cE.length∧n2=k.code.length∧bI L w (.slice a1 n1 c1) k.cE∧bI L w (.slice a2 n2 c2) k.code:=by
 obtain⟨b,off,vs,ha,hb,hL,hl,hc,hr⟩:=ze h (show(bs.map Bk.enc)[i]?=some k.enc by simp[hi])
 obtain⟨v1,v2,rfl,h1,h2⟩:=Qz hr
 obtain⟨a1,n1,c1,rfl,fK⟩:=eI h1
 obtain⟨a2,n2,c2,rfl,fu⟩:=eI h2
 exact⟨b,off,a1,n1,c1,a2,n2,c2,ha,hc,fK,fu,h1,h2⟩
def HR (p:Prop) (w:World) (b off:Nat) (vs:List Value):Prop:=p->iH w b off vs
theorem HR.ext (h:HR p w b off vs) (k:ak [] w w'):HR p w' b off vs:=λhp=>(h hp).ext k
def HS (p:Prop) (L:List Nat) (w:World) (v:Value) (ts:List aA):Prop:=p->fG L w v ts
theorem HS.ext {ts:List aA} (h:HS p L w v ts) (k:ak [] w w'):HS p L w' v ts:=λhp=>(h hp).ext k

theorem aaD (t:aA) (hs:t.size<=100000) (dx:WF t) (z:Int) (v:Value) (L:List Nat) (w:World) (hv:bS L w v t):
  bZ Tryz.prog 122 [v,.int .u8 z] w λr w'=>r= .bool (jq z t)∧ak [] w w':=by
 have dI:=hv
 obtain⟨a,n,c,rfl,hn,bc⟩:=dN hv
 have hK:=ak.refl [] w
 have BA:=xJ t
 refine cU [.tmp 4] 39 Tryz.func122 rfl X9 rfl rfl ?_
 refine zr<|fA rfl ?_
 intro w1 aJ aZ dV
 have hK:=hK.ext aJ;have dI:=dI.ext aJ
 refine zA<|ag<|aQ<|zr<|zm<|ag<|cP<|aQ<|zr<|dO rfl rfl rfl<|zA<|ag ?_
 refine jh (λ_:Unit=>[(2,.pointer (some ⟨w.heap.size,0,none⟩)),(7,.int .u8 z),(8,.bool (decide (z=114)||decide (z=42)))]) (λ_ w'=>w'=w1) ?_ ?_
 refine zc rfl (λh1=>?_) (λh1=>?_)
 refine bA ?_
 exact⟨(),⟨rfl,rfl,congrArg Value.bool (zN h1)⟩,rfl⟩
 refine db<|dO rfl rfl rfl<|zA<|ag ?_
 exact⟨(),⟨rfl,rfl,congrArg Value.bool (zO h1)⟩,rfl⟩
 intro gu w2 e2 hI
 obtain rfl:=hI
 refine zc rfl (λh2=>?_) (λh2=>?_)
 have hc:=zP h2
 refine zr<|zL bT aH rfl aZ.all rfl<|aC (aaC t _ L w2 dI) ?_
 rintro v3 w3 ⟨et,aK⟩
 have gd:=aK.size
 have hK:=hK.ext aK
 obtain rfl:=et
 refine lU rfl rfl rfl rfl rfl<|zA<|ag<|aV ?_
 exact⟨_,rfl,show Value.bool _=Value.bool _ from congrArg _ (by rw[jq,iP hc];rfl),hK⟩
 have hc:=zQ h2
 refine zr<|dO rfl rfl rfl<|zA<|ag<|zc rfl (λh3=>?_) (λh3=>?_)
 have bC:=h3
 refine zr<|zf dB rfl<|zl cg rfl (aZ.at rfl)<|aC (HO _ _) ?_
 rintro _ _ ⟨rfl,rfl⟩
 refine zm<|zx (i:=0) rfl rfl<|zx (i:=1) rfl rfl<|zA<|zA<|ag<|zr<|zm<|zA<|ag<|aV ?_
 exact⟨_,rfl,show Value.bool _=Value.bool _ from congrArg _ (by rw[jq,iN hc,iP bC]),hK⟩
 have bC:=h3
 refine zr<|dO rfl rfl rfl<|zA<|ag<|zc rfl (λh4=>?_) (λh4=>?_)
 have bX:=h4
 refine zr<|zf dB rfl<|zl cg rfl (aZ.at rfl)<|aC (Qg _ om _) ?_
 rintro _ _ ⟨rfl,rfl⟩
 refine zA<|ag<|aV ?_
 exact⟨_,rfl,show Value.bool _=Value.bool _ from congrArg _ (by rw[jq,iN hc,iN bC,iP bX]),hK⟩
 have bX:=h4
 refine zr<|dO rfl rfl rfl<|zA<|ag<|zc rfl (λh5=>?_) (λh5=>?_)
 have ew:=h5
 refine zr<|zL bT aH rfl aZ.all rfl<|aC (HN t _ L w2 dI) ?_
 rintro v3 w3 ⟨et,aK⟩
 have gd:=aK.size
 have hK:=hK.ext aK;have dI:=dI.ext aK;have aZ:=aZ.ext aK
 obtain rfl:=et
 refine cW rfl rfl<|zm ?_
 apply fU 3 33 36 [33,34,35,36] (ak [] w3) rfl
 intro h6
 replace h6:=bu h6
 have Fc:=ak.refl [] w3
 refine zL bT aH rfl aZ.all rfl<|aC (K2 t.size t (lR _) hs dx false _ L w3 dI) ?_
 rintro v4 w4 ⟨eJ,aD⟩
 have gK:=aD.size
 have Fc:=Fc.ext aD
 obtain rfl:=eJ
 refine zp rfl<|ag ?_
 exact mg rfl Fc
 intro h6
 replace h6:=bu h6
 have Fc:=ak.refl [] w3
 refine zs<|zs<|zp rfl<|ag ?_
 exact mg rfl Fc
 intro xx w4 aD
 have hK:=hK.ext aD
 refine zA<|ag<|aV ?_
 exact⟨_,rfl,show Value.bool _=Value.bool _ from congrArg _ (by rw[jq,iN hc,iN bC,iN bX,iP ew]),hK⟩
 have ew:=h5
 refine bA<|zr<|zL bT aH rfl aZ.all rfl<|aC (K2 t.size t (lR _) hs dx false _ L w2 dI) ?_
 rintro v3 w3 ⟨et,aK⟩
 have gd:=aK.size
 have hK:=hK.ext aK
 obtain rfl:=et
 refine zA<|ag<|aV ?_
 exact⟨_,rfl,show Value.bool _=Value.bool _ from congrArg _ (by rw[jq,iN hc,iN bC,iN bX,iN ew]),hK⟩
theorem aaE (h:aj) (w:World):bZ Tryz.prog 121 [str h] w λr w'=>r=str (shapeOf h)∧w=w':=by
 refine cU [.tmp 2] 25 Tryz.func121 rfl X8 rfl rfl ?_
 refine zr<|zA<|ag<|aQ<|zr<|zm<|ag<|cP<|zr<|cW rfl rfl<|zA<|ag<|zc rfl (λh1=>?_) (λh1=>?_)
 have hc:=h1
 refine zr<|zA<|ag<|aV ?_
 exact⟨_,rfl,show str _=str _ from congrArg _ (by rw[shapeOf,iP hc]),rfl⟩
 have hc:=h1
 refine aQ<|zr<|cW rfl rfl<|zA<|ag ?_
 refine jh (λ_:Unit=>[(3,str h),(6,.bool (decide (h=[109,111,118])||decide (h=[111,112,101,110])))]) (λ_ w'=>w'=w) ?_ ?_
 refine zc rfl (λh2=>?_) (λh2=>?_)
 refine bA ?_
 exact⟨(),⟨rfl,congrArg Value.bool (zN h2)⟩,rfl⟩
 refine db<|cW rfl rfl<|zA<|ag ?_
 exact⟨(),⟨rfl,congrArg Value.bool (zO h2)⟩,rfl⟩
 intro gu w1 e1 hI
 obtain rfl:=hI
 refine zc rfl (λh3=>?_) (λh3=>?_)
 have bC:=zP h3
 refine zr<|zA<|ag<|aV ?_
 exact⟨_,rfl,show str _=str _ from congrArg _ (by rw[shapeOf,iN hc,iP bC]),rfl⟩
 have bC:=zQ h3
 refine aQ<|zr<|cW rfl rfl<|zA<|ag ?_
 refine jh (λ_:Unit=>[(3,str h),(9,.bool (decide (h=[97,100,100])||decide (h=[115,117,98])||decide (h=[109,117,108])))]) (λ_ w'=>w'=w1) ?_ ?_
 refine zc rfl (λh4=>?_) (λh4=>?_)
 refine bA ?_
 exact⟨(),⟨rfl,congrArg Value.bool (Qq h4)⟩,rfl⟩
 have fK:=h4
 refine zr<|cW rfl rfl<|zA<|ag<|zc rfl (λh5=>?_) (λh5=>?_)
 refine bA ?_
 exact⟨(),⟨rfl,congrArg Value.bool (Qr fK h5)⟩,rfl⟩
 refine db<|cW rfl rfl<|zA<|ag ?_
 exact⟨(),⟨rfl,congrArg Value.bool (Qs fK h5)⟩,rfl⟩
 intro gu w2 e2 hI
 obtain rfl:=hI
 refine zc rfl (λh6=>?_) (λh6=>?_)
 have bX:=Qt h6
 refine zr<|zA<|ag<|aV ?_
 exact⟨_,rfl,show str _=str _ from congrArg _ (by rw[shapeOf,iN hc,iN bC,iP bX]),rfl⟩
 have bX:=Qu h6
 refine zr<|cW rfl rfl<|zA<|ag<|zc rfl (λh7=>?_) (λh7=>?_)
 have ew:=h7
 refine zr<|zA<|ag<|aV ?_
 exact⟨_,rfl,show str _=str _ from congrArg _ (by rw[shapeOf,iN hc,iN bC,iN bX,iP ew]),rfl⟩
 have ew:=h7
 refine zr<|cW rfl rfl<|zA<|ag<|zc rfl (λh8=>?_) (λh8=>?_)
 have jI:=h8
 refine zr<|zA<|ag<|aV ?_
 exact⟨_,rfl,show str _=str _ from congrArg _ (by rw[shapeOf,iN hc,iN bC,iN bX,iN ew,iP jI]),rfl⟩
 have jI:=h8
 refine aQ<|zr<|cW rfl rfl<|zA<|ag ?_
 refine jh (λ_:Unit=>[(3,str h),(17,.bool (decide (h=[108,97,98])||decide (h=[122,101,114,111])))]) (λ_ w'=>w'=w2) ?_ ?_
 refine zc rfl (λh9=>?_) (λh9=>?_)
 refine bA ?_
 exact⟨(),⟨rfl,congrArg Value.bool (zN h9)⟩,rfl⟩
 refine db<|cW rfl rfl<|zA<|ag ?_
 exact⟨(),⟨rfl,congrArg Value.bool (zO h9)⟩,rfl⟩
 intro gu w3 e3 hI
 obtain rfl:=hI
 refine zc rfl (λgI=>?_) (λgI=>?_)
 have jY:=zP gI
 refine zr<|zA<|ag<|aV ?_
 exact⟨_,rfl,show str _=str _ from congrArg _ (by rw[shapeOf,iN hc,iN bC,iN bX,iN ew,iN jI,iP jY]),rfl⟩
 have jY:=zQ gI
 refine zr<|cW rfl rfl<|zA<|ag<|zc rfl (λkm=>?_) (λkm=>?_)
 have qk:=km
 refine zr<|zA<|ag<|aV ?_
 exact⟨_,rfl,show str _=str _ from congrArg _ (by rw[shapeOf,iN hc,iN bC,iN bX,iN ew,iN jI,iN jY,iP qk]),rfl⟩
 have qk:=km
 refine aQ<|zr<|cW rfl rfl<|zA<|ag ?_
 refine jh (λ_:Unit=>[(3,str h),(22,.bool (decide (h=[106,117,109,112])||decide (h=[104,97,108,116])))]) (λ_ w'=>w'=w3) ?_ ?_
 refine zc rfl (λjJ=>?_) (λjJ=>?_)
 refine bA ?_
 exact⟨(),⟨rfl,congrArg Value.bool (zN jJ)⟩,rfl⟩
 refine db<|cW rfl rfl<|zA<|ag ?_
 exact⟨(),⟨rfl,congrArg Value.bool (zO jJ)⟩,rfl⟩
 intro gu w4 e4 hI
 obtain rfl:=hI
 refine zc rfl (λlD=>?_) (λlD=>?_)
 have zT:=zP lD
 refine zr<|zA<|ag<|aV ?_
 exact⟨_,rfl,show str _=str _ from congrArg _ (by rw[shapeOf,iN hc,iN bC,iN bX,iN ew,iN jI,iN jY,iN qk,iP zT]),rfl⟩
 have zT:=zQ lD
 refine bA<|zr<|zA<|ag<|aV ?_
 exact⟨_,rfl,show str _=str _ from congrArg _ (by rw[shapeOf,iN hc,iN bC,iN bX,iN ew,iN jI,iN jY,iN qk,iN zT]),rfl⟩
theorem QA (t:aA) (hs:t.size<=100000) (dx:WF t) (v:Value) (L:List Nat) (w:World) (hv:bS L w v t):
  bZ Tryz.prog 90 [v] w λr w'=>r= .bool (lY t)∧ak [] w w':=by
 have dI:=hv
 obtain⟨a,n,c,rfl,hn,bc⟩:=dN hv
 have hK:=ak.refl [] w
 have BA:=xI t
 have oZ:=aay (cI t)
 refine cU [.tmp 2] 67 Tryz.func90 rfl ZP rfl rfl ?_
 refine zr<|fA rfl ?_
 intro w1 aJ aU dV
 have hK:=hK.ext aJ;have bc:=bc.ext aJ;have dI:=dI.ext aJ
 refine zA<|ag<|zr<|zL bT aH rfl aU.all rfl<|aC (HN t _ L w1 dI) ?_
 rintro v2 w2 ⟨dz,aq⟩
 have dR:=aq.size
 have hK:=hK.ext aq;have bc:=bc.ext aq;have aU:=aU.ext aq
 obtain rfl:=dz
 refine aC (aaE _ _) ?_
 rintro _ _ ⟨rfl,rfl⟩
 refine zA<|ag<|aQ<|zr<|zm<|cW rfl rfl<|ag<|zc rfl (λh1=>?_) (λh1=>?_)
 refine zr<|zA<|ag<|aV ?_
 exact⟨_,rfl,by rw[Qw h1];rfl,hK⟩
 have eN:=h1
 refine bA<|aQ<|zr<|zm<|jF rfl rfl rfl rfl<|zm ?_
 apply fU 8 14 22 [14,15,16,17,18,19,20,21,22] (λw'=>w2=w') rfl
 intro h2
 replace h2:=bu h2
 refine zf cM rfl<|zl cK rfl (aU.at rfl)<|eh cw rfl<|zm<|kL fc rfl rfl rfl<|eE rfl rfl rfl (wrap_i64 _ om om)<|ur rfl rfl rfl rfl rfl<|zp rfl<|ag ?_
 exact mg rfl rfl
 intro h2
 replace h2:=bu h2
 refine zs<|zs<|zs<|zs<|zs<|zs<|zs<|zp rfl<|ag ?_
 exact mg rfl rfl
 rintro xx _ rfl
 refine zm ?_
 apply fo 5 23 28 [23,24,25,26,27,28] (λw'=>w2=w') rfl
 intro h3
 replace h3:=bu h3
 refine zs<|zs<|zs<|zs<|zp rfl<|ag ?_
 exact mg rfl rfl
 intro h3
 replace h3:=bu h3
 refine zf cM rfl<|zl cK rfl (aU.at rfl)<|eh cw rfl<|fJ rfl rfl rfl<|zp rfl<|ag ?_
 exact mg rfl rfl
 rintro xx _ rfl
 refine ag<|zc rfl (λh4=>?_) (λh4=>?_)
 have hb:=(Qv hn).symm.trans h4
 refine zr<|zA<|ag<|aV ?_
 exact⟨_,rfl,by rw[K1 hb];rfl,hK⟩
 have hb:=(Qv hn).symm.trans h4
 have h2:=aax hb
 have tw:=K0 eN
 refine bA<|aQ<|zr<|zA<|ag<|cP ?_
 refine fZ (λk:Nat=>[(1,.pointer (some ⟨w.heap.size,0,none⟩)),(3,str (shapeOf (cI t))),(4,.int .i64 (k:Int))]) (λk w'=>ak [] w w'∧ak [] w2 w'∧1<=k∧k<=t.au.length∧∀i,i<k->1<=i->qh t i=true) (λk=>t.au.length-k) (1) (⟨rfl,rfl,rfl⟩) (⟨hK,ak.refl [] _,om,om,by intro i hi h1;omega⟩) ?_
 intro gg w3 e3 hI
 obtain⟨hK,aJ,hk,gS,dA⟩:=hI
 have bc:=bc.ext aJ;have aU:=aU.ext aJ
 refine aQ<|zr<|zm<|zf cM rfl<|zl cK rfl (aU.at rfl)<|eh cw rfl<|fJ rfl rfl rfl<|ag<|zc rfl (λh5=>?_) (λh5=>?_)
 have hp:=iM (ps:=t.au) (i:=gg) om
 obtain⟨b,off,pa,pn,pc,rfl,hc,fR,iy⟩:=j8 bc hp
 have ow:=List.length_pos_iff.2 eN
 refine bA<|aQ<|cP<|aQ ?_
 refine qf eu aS 14 (rA 36 14) (rA 36 14) [[],[0],[],[1,2],[3],[],[],[],[7],[6,8],[9],[5,10],[4,11],[12]] [λv _=>v=(.pointer (some ⟨w.heap.size,0+1,none⟩)),λv _=>v=(.slice (some ⟨b,off,none⟩) n c),λv _=>v=(.int .i64 (gg:Int)),λv _=>v=(.pointer (some ⟨b,off+gg*2,none⟩)),λv _=>v=(.agg #[str (nth t.au gg).az,.slice pa pn pc]),λv _=>v=(str (shapeOf (cI t))),λv _=>v=(.int .i64 (gg:Int)),λv _=>v=(str (shapeOf (cI t))),λv _=>v=(.int .i64 ((shapeOf (cI t)).length:Int)),λv _=>v=(.int .i64 ((min gg (shapeOf (cI t)).length:Nat):Int)),λv _=>v=(.int .i64 ((min gg (shapeOf (cI t)).length-1:Nat):Int)),λv _=>v=(.int .u8 (Dj (shapeOf (cI t)) gg)),λv _=>v=(.bool (qh t gg)),λv _=>v=(.bool (!qh t gg))] de (cX (cX (cX (cX (cX (cX (cX (cX (cX (cX (cX (cX (cX (cX trivial)))))))))))))) (λwd aB=>?_) ?_
 refine bN ?_ ?_
 intro x vs w4 e aD hd he
 replace aD:=aS.trans aB aD
 replace he:e=aM (aN _ x _) []:=he
 subst he
 refine zf cM rfl<|ag ?_
 exact dn (aS.refl _) rfl
 refine bN ?_ ?_
 intro x vs w4 e aD hd he
 have d0:vs 0=(.pointer (some ⟨w.heap.size,0+1,none⟩)):=hd
 replace aD:=aS.trans aB aD
 have aU:=aU.ext aD
 replace he:e=aM (aN _ x _) [(36,vs 0)]:=he
 rw[d0] at he
 subst he
 refine zl cK rfl (aU.at rfl)<|ag ?_
 exact dn (aS.refl _) rfl
 refine bN ?_ ?_
 intro x vs w4 e aD hd he
 replace aD:=aS.trans aB aD
 replace he:e=aM (aN _ x _) []:=he
 subst he
 refine zm<|ag ?_
 exact dn (aS.refl _) rfl
 refine bN ?_ ?_
 intro x vs w4 e aD hd he
 have aR:(vs 1=(.slice (some ⟨b,off,none⟩) n c))∧(vs 2=(.int .i64 (gg:Int))):=hd
 obtain⟨d1,d2⟩:=aR
 replace aD:=aS.trans aB aD
 replace he:e=aM (aN _ x _) [(37,vs 1),(38,vs 2)]:=he
 rw[d1,d2] at he
 subst he
 refine zi cw aH rfl rfl om<|ag ?_
 exact dn (aS.refl _) rfl
 refine bN ?_ ?_
 intro x vs w4 e aD hd he
 have d3:vs 3=(.pointer (some ⟨b,off+gg*2,none⟩)):=hd
 replace aD:=aS.trans aB aD
 have hc:=hc.ext aD
 replace he:e=aM (aN _ x _) [(39,vs 3)]:=he
 rw[d3] at he
 subst he
 refine zL bT aH rfl hc rfl<|ag ?_
 exact dn (aS.refl _) rfl
 refine bN ?_ ?_
 intro x vs w4 e aD hd he
 replace aD:=aS.trans aB aD
 replace he:e=aM (aN _ x _) []:=he
 subst he
 refine zm<|ag ?_
 exact dn (aS.refl _) rfl
 refine bN ?_ ?_
 intro x vs w4 e aD hd he
 replace aD:=aS.trans aB aD
 replace he:e=aM (aN _ x _) []:=he
 subst he
 refine zm<|ag ?_
 exact dn (aS.refl _) rfl
 refine bN ?_ ?_
 intro x vs w4 e aD hd he
 replace aD:=aS.trans aB aD
 replace he:e=aM (aN _ x _) []:=he
 subst he
 refine zm<|ag ?_
 exact dn (aS.refl _) rfl
 refine bN ?_ ?_
 intro x vs w4 e aD hd he
 have d7:vs 7=(str (shapeOf (cI t))):=hd
 replace aD:=aS.trans aB aD
 replace he:e=aM (aN _ x _) [(43,vs 7)]:=he
 rw[d7] at he
 subst he
 refine kL fc rfl rfl rfl<|ag ?_
 exact dn (aS.refl _) rfl
 refine bN ?_ ?_
 intro x vs w4 e aD hd he
 have aR:(vs 6=(.int .i64 (gg:Int)))∧(vs 8=(.int .i64 ((shapeOf (cI t)).length:Int))):=hd
 obtain⟨d6,d8⟩:=aR
 replace aD:=aS.trans aB aD
 replace he:e=aM (aN _ x _) [(42,vs 6),(44,vs 8)]:=he
 rw[d6,d8] at he
 subst he
 refine XI rfl rfl rfl rfl (show(if((shapeOf (cI t)).length:Int)<(gg:Int) then((shapeOf (cI t)).length:Int) else(gg:Int))=((min gg (shapeOf (cI t)).length:Nat):Int) from by split<;>omega)<|ag ?_
 exact dn (aS.refl _) rfl
 refine bN ?_ ?_
 intro x vs w4 e aD hd he
 have d9:vs 9=(.int .i64 ((min gg (shapeOf (cI t)).length:Nat):Int)):=hd
 replace aD:=aS.trans aB aD
 replace he:e=aM (aN _ x _) [(45,vs 9)]:=he
 rw[d9] at he
 subst he
 refine mO rfl rfl rfl rfl rfl (show IntKind.i64.wrap (((min gg (shapeOf (cI t)).length:Nat):Int)-1)=((min gg (shapeOf (cI t)).length-1:Nat):Int) from by rw[wrap_i64 _ om om];omega)<|ag ?_
 exact dn (aS.refl _) rfl
 refine bN ?_ ?_
 intro x vs w4 e aD hd he
 have aR:(vs 5=(str (shapeOf (cI t))))∧(vs 10=(.int .i64 ((min gg (shapeOf (cI t)).length-1:Nat):Int))):=hd
 obtain⟨d5,d10⟩:=aR
 replace aD:=aS.trans aB aD
 replace he:e=aM (aN _ x _) [(41,vs 5),(46,vs 10)]:=he
 rw[d5,d10] at he
 subst he
 refine kC fc rfl rfl rfl rfl (jH om)<|ag ?_
 exact dn (aS.refl _) rfl
 refine bN ?_ ?_
 intro x vs w4 e aD hd he
 have aR:(vs 4=(.agg #[str (nth t.au gg).az,.slice pa pn pc]))∧(vs 11=(.int .u8 (Dj (shapeOf (cI t)) gg))):=hd
 obtain⟨d4,d11⟩:=aR
 replace aD:=aS.trans aB aD
 have iy:=iy.ext aD
 replace he:e=aM (aN _ x _) [(40,vs 4),(47,vs 11)]:=he
 rw[d4,d11] at he
 subst he
 refine aC (aaD (nth t.au gg) (by have:=lX (t:=t) (i:=gg) om;omega) (dx.nth om) _ _ L w4 (mS iy)) ?_
 rintro v5 w5 ⟨kQ,aT⟩
 have oW:=aT.size
 obtain rfl:=kQ
 refine ag ?_
 exact dn (aS.of aT) rfl
 refine bN ?_ ?_
 intro x vs w4 e aD hd he
 have d12:vs 12=(.bool (qh t gg)):=hd
 replace aD:=aS.trans aB aD
 replace he:e=aM (aN _ x _) [(48,vs 12)]:=he
 rw[d12] at he
 subst he
 refine eH rfl<|ag ?_
 exact dn (aS.refl _) rfl
 exact trivial
 intro x vs nP lE bJ
 have d0:vs 0=(.pointer (some ⟨w.heap.size,0+1,none⟩)):=bJ 0 de
 have d1:vs 1=(.slice (some ⟨b,off,none⟩) n c):=bJ 1 de
 have d2:vs 2=(.int .i64 (gg:Int)):=bJ 2 de
 have d3:vs 3=(.pointer (some ⟨b,off+gg*2,none⟩)):=bJ 3 de
 have d4:vs 4=(.agg #[str (nth t.au gg).az,.slice pa pn pc]):=bJ 4 de
 have d5:vs 5=(str (shapeOf (cI t))):=bJ 5 de
 have d6:vs 6=(.int .i64 (gg:Int)):=bJ 6 de
 have d7:vs 7=(str (shapeOf (cI t))):=bJ 7 de
 have d8:vs 8=(.int .i64 ((shapeOf (cI t)).length:Int)):=bJ 8 de
 have d9:vs 9=(.int .i64 ((min gg (shapeOf (cI t)).length:Nat):Int)):=bJ 9 de
 have d10:vs 10=(.int .i64 ((min gg (shapeOf (cI t)).length-1:Nat):Int)):=bJ 10 de
 have d11:vs 11=(.int .u8 (Dj (shapeOf (cI t)) gg)):=bJ 11 de
 have d12:vs 12=(.bool (qh t gg)):=bJ 12 de
 have d13:vs 13=(.bool (!qh t gg)):=bJ 13 de
 have hK:=hK.ext lE;have aJ:=aJ.ext lE
 change OW _ _ _ _ [] (aM (aN _ x _) (zZ 36 [vs 0,vs 1,vs 2,vs 3,vs 4,vs 5,vs 6,vs 7,vs 8,vs 9,vs 10,vs 11,vs 12,vs 13])) _
 rw[d0,d1,d2,d3,d4,d5,d6,d7,d8,d9,d10,d11,d12,d13]
 refine ag<|zc rfl (λh6=>?_) (λh6=>?_)
 have hq:qh t gg=false:=by simpa using h6
 refine zr<|zA<|ag<|aV ?_
 exact⟨_,rfl,by rw[aaz om hk hq];rfl,hK⟩
 have hq:qh t gg=true:=by simpa using h6
 refine bA<|db<|zm<|eE rfl rfl rfl (wrap_i64 _ om om)<|zA<|ag ?_
 exact⟨gg+1,⟨rfl,rfl,rfl⟩,⟨hK,aJ,om,om,by intro i hi h1;rcases Nat.lt_or_ge i gg with h|h;exact dA i h h1;rw[show i=gg by omega];exact hq⟩,om⟩
 have aZ:=aaA eN hb (λi hi=>dA i om)
 have mV:=iM tw.2.1
 obtain⟨b,off,pa,pn,pc,rfl,er,fR,iy⟩:=j8 bc mV
 refine gF<|gH rfl<|aQ<|zr<|zf cM rfl<|zl cK rfl (aU.at rfl)<|zi (i:=0) cw aH rfl rfl (by rw[hn];exact tw.2.1)<|zf dB rfl<|zl cg rfl (er 0 _ rfl)<|cW rfl rfl<|ag<|zc rfl (λh7=>?_) (λh7=>?_)
 have hg:cI t=[103,101,116]:=tw.2.2.trans h7
 have BB:=aaw hb hg
 have Dk:=iM (ps:=t.au) (i:=3) om
 obtain⟨b1,ga,gY,qT,gZ,gx,bC,sv,oY⟩:=j8 bc Dk
 cases gx
 refine zr<|zf cM rfl<|zl cK rfl (aU.at rfl)<|zi (i:=3) cw aH rfl rfl om<|zf dB rfl<|zl cg rfl (bC 0 _ rfl)<|aC (HO _ _) ?_
 rintro _ _ ⟨rfl,rfl⟩
 refine zm<|zx (i:=0) rfl rfl<|zx (i:=1) rfl rfl<|zA<|zA<|ag<|zr<|zm<|lU rfl rfl rfl rfl rfl<|zA<|ag<|aV ?_
 exact⟨_,rfl,show Value.bool _=Value.bool _ from congrArg _ (by rw[aZ,show decide (cI t≠[103,101,116])=false from dF (λh=>h hg),Bool.false_or]),hK⟩
 have hg:cI t≠[103,101,116]:=λh=>h7 (tw.2.2.symm.trans h)
 refine bA<|zr<|zA<|ag<|aV ?_
 exact⟨_,rfl,by rw[aZ,dT hg];rfl,hK⟩
theorem aaF (s:aj) (w:World):bZ Tryz.prog 56 [str s] w λr w'=>r= .bool (rN s)∧ak [] w w':=by
 have hK:=ak.refl [] w
 refine cU [.tmp 2] 15 Tryz.func56 rfl Zr rfl rfl ?_
 refine zr<|zA<|ag<|zr<|zm<|aC (zK s [] w sm) ?_
 rintro v1 w1 ⟨fO,aJ⟩
 have dy:=aJ.size
 have hK:=hK.ext aJ
 obtain⟨t,tv,rfl,ht,ql⟩:=fO
 obtain⟨pa,pn,pc,rfl,fR,bc⟩:=dN ht
 refine zm<|zx (i:=0) rfl rfl<|zx (i:=1) rfl rfl<|eC aH rfl rfl rfl ?_
 intro w2 aq bO eK
 have hK:=hK.grow;have hK:=hK.ext aq;have ht:=ht.grow;have ht:=ht.ext aq
 refine dk aH rfl rfl rfl bO rfl ?_
 intro w3 aK bO iK
 have hK:=hK.aL aK sx;have ht:=ht.aL aK sx
 refine zA<|ag<|zr<|zm<|zm ?_
 apply fU 3 11 14 [11,12,13,14] (ak [] w3) rfl
 intro h1
 replace h1:=bu h1
 have lZ:=ak.refl [] w3
 obtain⟨t',ox⟩:=Option.isSome_iff_exists.1 h1
 have xL:=ql t' ox
 have dx:=tu ox
 have iY:=By ox
 rw[<-xL] at dx iY
 refine zL bT aH rfl bO.all rfl<|aC (K2 t.size t (lR _) om dx false _ _ w3 ht) ?_
 rintro v4 w4 ⟨eJ,aD⟩
 have gK:=aD.size
 have lZ:=lZ.ext aD
 obtain rfl:=eJ
 refine zp rfl<|ag ?_
 exact mg rfl lZ
 intro h1
 replace h1:=bu h1
 have lZ:=ak.refl [] w3
 refine zs<|zs<|zp rfl<|ag ?_
 exact mg rfl lZ
 intro xx w4 aD
 have hK:=hK.ext aD
 refine zA<|ag<|aV ?_
 exact⟨_,rfl,show Value.bool _=Value.bool _ from congrArg _ (HP ql),hK⟩
theorem K3 (s:aj) (w:World):bZ Tryz.prog 57 [str s] w λr w'=>r= .bool (bH s)∧ak [] w w':=by
 have hK:=ak.refl [] w
 refine cU [.tmp 2] 15 Tryz.func57 rfl Zs rfl rfl ?_
 refine zr<|zA<|ag<|zr<|zm<|aC (zK s [] w sm) ?_
 rintro v1 w1 ⟨fO,aJ⟩
 have dy:=aJ.size
 have hK:=hK.ext aJ
 obtain⟨t,tv,rfl,ht,ql⟩:=fO
 obtain⟨pa,pn,pc,rfl,fR,bc⟩:=dN ht
 refine zm<|zx (i:=0) rfl rfl<|zx (i:=1) rfl rfl<|eC aH rfl rfl rfl ?_
 intro w2 aq bO eK
 have hK:=hK.grow;have hK:=hK.ext aq;have ht:=ht.grow;have ht:=ht.ext aq
 refine dk aH rfl rfl rfl bO rfl ?_
 intro w3 aK bO iK
 have hK:=hK.aL aK sx;have ht:=ht.aL aK sx
 refine zA<|ag<|zr<|zm<|zm ?_
 apply fU 3 11 14 [11,12,13,14] (ak [] w3) rfl
 intro h1
 replace h1:=bu h1
 have lZ:=ak.refl [] w3
 obtain⟨t',ox⟩:=Option.isSome_iff_exists.1 h1
 have xL:=ql t' ox
 have dx:=tu ox
 have iY:=By ox
 rw[<-xL] at dx iY
 refine zL bT aH rfl bO.all rfl<|aC (QA t om dx _ _ w3 ht) ?_
 rintro v4 w4 ⟨eJ,aD⟩
 have gK:=aD.size
 have lZ:=lZ.ext aD
 obtain rfl:=eJ
 refine zp rfl<|ag ?_
 exact mg rfl lZ
 intro h1
 replace h1:=bu h1
 have lZ:=ak.refl [] w3
 refine zs<|zs<|zp rfl<|ag ?_
 exact mg rfl lZ
 intro xx w4 aD
 have hK:=hK.ext aD
 refine zA<|ag<|aV ?_
 exact⟨_,rfl,show Value.bool _=Value.bool _ from congrArg _ (HP ql),hK⟩
theorem HT (s:aj) (w:World):bZ Tryz.prog 58 [str s] w λr w'=>r= .bool (jr s)∧ak [] w w':=by
 have hK:=ak.refl [] w
 refine cU [.tmp 2] 31 Tryz.func58 rfl Zt rfl rfl ?_
 refine zr<|zA<|ag<|zr<|zm<|aC (zK s [] w sm) ?_
 rintro v1 w1 ⟨fO,aJ⟩
 have dy:=aJ.size
 have hK:=hK.ext aJ
 obtain⟨t,tv,rfl,ht,ql⟩:=fO
 obtain⟨pa,pn,pc,rfl,fR,bc⟩:=dN ht
 refine zm<|zx (i:=0) rfl rfl<|zx (i:=1) rfl rfl<|eC aH rfl rfl rfl ?_
 intro w2 aq bO eK
 have hK:=hK.grow;have hK:=hK.ext aq;have ht:=ht.grow;have ht:=ht.ext aq;have bc:=bc.grow;have bc:=bc.ext aq
 refine dk aH rfl rfl rfl bO rfl ?_
 intro w3 aK bO iK
 have hK:=hK.aL aK sx;have ht:=ht.aL aK sx;have bc:=bc.aL aK sx
 refine zA<|ag<|zr<|zm<|zm ?_
 apply fU 3 11 14 [11,12,13,14] (ak [] w3) rfl
 intro h1
 replace h1:=bu h1
 have lZ:=ak.refl [] w3
 obtain⟨t',ox⟩:=Option.isSome_iff_exists.1 h1
 have xL:=ql t' ox
 have dx:=tu ox
 have iY:=By ox
 rw[<-xL] at dx iY
 refine zL bT aH rfl bO.all rfl<|aC (QA t om dx _ _ w3 ht) ?_
 rintro v4 w4 ⟨eJ,aD⟩
 have gK:=aD.size
 have lZ:=lZ.ext aD
 obtain rfl:=eJ
 refine zp rfl<|ag ?_
 exact mg rfl lZ
 intro h1
 replace h1:=bu h1
 have lZ:=ak.refl [] w3
 refine zs<|zs<|zp rfl<|ag ?_
 exact mg rfl lZ
 intro xx w4 aD
 have hK:=hK.ext aD;have bc:=bc.ext aD;have bO:=bO.ext aD
 refine zm ?_
 apply fU 15 15 30 [15,16,17,18,19,20,21,22,23,24,25,26,27,28,29,30] (λw'=>w4=w') rfl
 intro h2
 replace h2:=bu h2
 simp only[aE] at h2
 have hq:=aaB h2.2
 have mV:=iM hq
 obtain⟨b,off,xM,pn0,xN,rfl,er,alz,iy⟩:=j8 bc mV
 refine zf cM rfl<|zl cK rfl (bO.at rfl)<|zi (i:=0) cw aH rfl rfl (by rw[fR];exact hq)<|zf dB rfl<|zl cg rfl (er 0 _ rfl)<|cW rfl rfl<|zm ?_
 apply fo 7 22 29 [22,23,24,25,26,27,28,29] (λw'=>w4=w') rfl
 intro h3
 replace h3:=bu h3
 refine zs<|zs<|zs<|zs<|zs<|zs<|zp rfl<|ag ?_
 exact mg rfl rfl
 intro h3
 replace h3:=bu h3
 refine zf cM rfl<|zl cK rfl (bO.at rfl)<|zi (i:=0) cw aH rfl rfl (by rw[fR];exact hq)<|zf dB rfl<|zl cg rfl (er 0 _ rfl)<|cW rfl rfl<|zp rfl<|ag ?_
 exact mg rfl rfl
 rintro xx _ rfl
 refine zp rfl<|ag ?_
 exact mg rfl rfl
 intro h2
 replace h2:=bu h2
 refine zs<|zs<|zs<|zs<|zs<|zs<|zs<|zs<|zs<|zs<|zs<|zs<|zs<|zs<|zp rfl<|ag ?_
 exact mg rfl rfl
 rintro xx _ rfl
 refine zA<|ag<|aV ?_
 exact⟨_,rfl,show Value.bool _=Value.bool _ from congrArg _ (by rw[Bool.and_assoc];exact HP (f:=HQ) ql),hK⟩
def nob:Bk:=⟨[],[],[]⟩
abbrev bz (bs:List Bk) (i:Nat):Bk:=bs.getD i nob
theorem o3 {bs:List Bk} (h:i<bs.length):bs[i]?=some (bz bs i):=by
 simp[gE h]
def l0 (bs:List Bk) (l:aj):Int:=match bs.findIdx? (λb=>decide (b.aP=l)) with
 |some i=>(i:Int)
 |none=> -1
theorem K4 {bs:List Bk} {l:aj} {k:Nat} (hk:k<bs.length) (h:∀i,i<k->(bz bs i).aP≠l) (hl:(bz bs k).aP=l):l0 bs l=(k:Int):=by
 have:bs.findIdx? (λb=>decide (b.aP=l))=some k:=by
  rw[List.findIdx?_eq_some_iff_getElem]
  refine⟨hk,by simpa[gE hk] using hl,λj hj=>?_⟩
  have:=h j hj
  simpa[gE (Nat.lt_trans hj hk)] using this
 unfold l0;rw[this]
theorem aaH {bs:List Bk} {l:aj} (h:∀i,i<bs.length->(bz bs i).aP≠l):l0 bs l= -1:=by
 have:bs.findIdx? (λb=>decide (b.aP=l))=none:=by
  rw[List.findIdx?_eq_none_iff]
  intro b hb
  obtain⟨i,hi,rfl⟩:=List.getElem_of_mem hb
  have:=h i hi
  simpa[gE hi] using this
 unfold l0;rw[this]
def sw (code:List aj) (i:Nat):Bool:=bH (aF code i)&&(jr (aF code i)==decide (i+1=code.length))
def oz (b:Bk):Bool:=nO b.aP&&decide (b.cE.length<=40)&&(decide (1<=b.code.length)&&decide (b.code.length<=80))&&
 decide (∀i,i<b.cE.length->rN (aF b.cE i)=true)&&decide (∀i,i<b.code.length->sw b.code i=true)
def jK (bs:List Bk):Bool:=decide (∀i,i<bs.length->oz (bz bs i)=true∧l0 bs (bz bs i).aP=i)&&
 (decide (1<=bs.length)&&decide (bs.length<=40)&&decide ((bz bs 0).aP=[109,97,105,110])&&decide ((bz bs 0).cE.length=0))
theorem QB {b:Bk} (h:(nO b.aP&&decide (b.cE.length<=40)&&(decide (1<=b.code.length)&&decide (b.code.length<=80)))=false):oz b=false:=by
 unfold oz;rw[h];rfl
theorem QC {b:Bk} (hi:i<b.cE.length) (h:rN (aF b.cE i)=false):oz b=false:=by
 unfold oz
 rw[dF (p:=∀i,i<b.cE.length->_) (λhh=>by have:=hh i hi;rw[h] at this;cases this)]
 simp
theorem QD {b:Bk} (hi:i<b.code.length) (h:sw b.code i=false):oz b=false:=by
 unfold oz
 rw[dF (p:=∀i,i<b.code.length->_) (λhh=>by have:=hh i hi;rw[h] at this;cases this)]
 simp
theorem QE {b:Bk} (h:(nO b.aP&&decide (b.cE.length<=40)&&(decide (1<=b.code.length)&&decide (b.code.length<=80)))=true) (h1:∀i,i<b.cE.length->rN (aF b.cE i)=true) 
  (h2:∀i,i<b.code.length->sw b.code i=true):oz b=true:=by
 unfold oz;rw[h,dT h1,dT h2];rfl
theorem QF {bs:List Bk} (hi:i<bs.length) (h:¬(oz (bz bs i)=true∧l0 bs (bz bs i).aP=i)):jK bs=false:=by
 unfold jK
 rw[dF (p:=∀i:Nat,i<bs.length->oz (bz bs i)=true∧l0 bs (bz bs i).aP=i) (λhh=>h (hh i hi))]
 rfl
theorem QG {bs:List Bk} (h:∀i,i<bs.length->oz (bz bs i)=true∧l0 bs (bz bs i).aP=i):
  jK bs=(decide (1<=bs.length)&&decide (bs.length<=40)&&decide ((bz bs 0).aP=[109,97,105,110])&&decide ((bz bs 0).cE.length=0)):=by
 unfold jK;rw[dT h];rfl
theorem HU {b:Bk} {n1 n2:Nat} (h1:n1=b.cE.length) (h2:n2=b.code.length):(!nO b.aP||decide ((40:Int)<n1)||!(decide ((1:Int)<=n2)&&decide ((n2:Int)<=80)))=
  !(nO b.aP&&decide (b.cE.length<=40)&&(decide (1<=b.code.length)&&decide (b.code.length<=80))):=by
 subst h1 h2
 rw[show decide ((40:Int)<(b.cE.length:Nat))=!decide (b.cE.length<=40) from by rw[<-decide_not];exact decide_eq_decide.2 om,
  show decide ((1:Int)<=(b.code.length:Nat))=decide (1<=b.code.length) from decide_eq_decide.2 om,show decide (((b.code.length:Nat):Int)<=80)=decide (b.code.length<=80) from decide_eq_decide.2 om]
 simp only[Bool.not_and]
theorem K5 {code:List aj} (hn:n=code.length) (hi:i<n):(!bH (aF code i)||(jr (aF code i) !=decide ((i:Int)=(n:Int)-1)))=!sw code i:=by
 subst hn
 unfold sw
 rw[show decide ((i:Int)=((code.length:Nat):Int)-1)=decide (i+1=code.length) from decide_eq_decide.2 om,Bool.not_and]
 rfl
def Bk.small (b:Bk):Prop:=b.aP.length<1000000000∧b.cE.length<1000000000∧b.code.length<1000000000
def xO (bs:List Bk):Prop:=bs.length<1000000000∧∀i,i<bs.length->(bz bs i).small
theorem aaI {bs:List Bk} {n1:Nat} (hn:n=bs.length) (fK:0<bs.length->n1=(bz bs 0).cE.length):
  ((decide ((1:Int)<=n)&&decide ((n:Int)<=40))&&decide ((bz bs 0).aP=[109,97,105,110])&&decide ((n1:Int)=0))=(decide (1<=bs.length)&&decide (bs.length<=40)&&decide ((bz bs 0).aP=[109,97,105,110])&&decide ((bz bs 0).cE.length=0)):=by
 subst hn
 rw[show decide ((1:Int)<=(bs.length:Nat))=decide (1<=bs.length) from decide_eq_decide.2 om,show decide (((bs.length:Nat):Int)<=40)=decide (bs.length<=40) from decide_eq_decide.2 om]
 by_cases h:0<bs.length
 ·rw[fK h,show decide (((bz bs 0).cE.length:Int)=0)=decide ((bz bs 0).cE.length=0) from decide_eq_decide.2 om]
 ·rw[dF (p:=1<=bs.length) om];simp
theorem aaJ (bs:List Bk) (hb:bs.length<9223372036854775807) (l:aj) (v:Value) (L:List Nat) (w:World) (hv:qV L w v bs):
  bZ Tryz.prog 28 [v,str l] w λr w'=>r= .int .i64 (l0 bs l)∧w=w':=by
 obtain⟨a,n,c,rfl,hn⟩:=Fb hv
 refine cU [.tmp 4] 20 Tryz.func28 rfl Y9 rfl rfl ?_
 refine zr<|zA<|ag<|aQ<|zr<|zA<|ag<|cP ?_
 refine fZ (λk:Nat=>[(0,.slice a n c),(1,str l),(5,.int .i64 (k:Int))]) (λk w'=>w'=w∧k<=bs.length∧∀i,i<k->(bz bs i).aP≠l) (λk=>bs.length-k) (0) (⟨rfl,rfl,rfl⟩) (⟨rfl,om,by intro i hi;omega⟩) ?_
 intro gg w1 e1 hI
 obtain⟨rfl,hk,dA⟩:=hI
 refine aQ<|zr<|zm<|zm<|eh gO rfl<|fJ rfl rfl rfl<|ag<|zc rfl (λh1=>?_) (λh1=>?_)
 have hg:=o3 (bs:=bs) (i:=gg) om
 obtain⟨b,off,a1,n1,c1,a2,n2,c2,rfl,hc,fK,fu,dy,dR⟩:=zS hv hg
 refine bA<|aQ<|cP<|zr<|zm<|zm<|zi gO fH rfl rfl om<|zf vZ rfl<|zl cg rfl (hc 0 _ rfl)<|zm<|cW rfl rfl<|ag<|zc rfl (λh2=>?_) (λh2=>?_)
 have hf:=K4 om dA h2
 refine zr<|zm<|zA<|ag<|aV ?_
 exact⟨_,rfl,by rw[hf];rfl,rfl⟩
 refine bA<|db<|zm<|eE rfl rfl rfl (wrap_i64 _ om om)<|zA<|ag ?_
 exact⟨gg+1,⟨rfl,rfl,rfl⟩,⟨rfl,om,by intro i hi;rcases Nat.lt_or_ge i gg with h|h;exact dA i h;rw[show i=gg by omega];exact h2⟩,om⟩
 have hf:=aaH (λi hi=>dA i om)
 refine gF<|gH rfl<|zr<|zA<|ag<|aV ?_
 exact⟨_,rfl,by rw[hf];rfl,rfl⟩
theorem aaK (k:Bk) (hl:k.aP.length<1000000000) (fK:k.cE.length<1000000000) (fu:k.code.length<1000000000) (v:Value) (L:List Nat) (w:World) (hv:qj L w v k):
  bZ Tryz.prog 30 [v] w λr w'=>r= .bool (oz k)∧ak [] w w':=by
 obtain⟨a1,n1,c1,a2,n2,c2,rfl,oA,mq,dy,dR⟩:=Bz hv
 have hK:=ak.refl [] w
 refine cU [.tmp 2] 65 Tryz.func30 rfl Zb rfl rfl ?_
 refine zr<|fA rfl ?_
 intro w1 aJ aU dV
 have hK:=hK.ext aJ;have dy:=dy.ext aJ;have dR:=dR.ext aJ
 refine zA<|ag<|aQ<|zr<|zf vZ rfl<|zl cg rfl (aU.at rfl)<|aC (Qg _ om _) ?_
 rintro _ _ ⟨rfl,rfl⟩
 refine eH rfl<|zm ?_
 apply fo 5 9 14 [9,10,11,12,13,14] (λw'=>w1=w') rfl
 intro h1
 replace h1:=bu h1
 refine zs<|zs<|zs<|zs<|zp rfl<|ag ?_
 exact mg rfl rfl
 intro h1
 replace h1:=bu h1
 refine zf wa rfl<|zl eO rfl (aU.at rfl)<|eh bh rfl<|jx rfl rfl rfl rfl rfl<|zp rfl<|ag ?_
 exact mg rfl rfl
 rintro xx _ rfl
 refine zm ?_
 apply fo 6 15 21 [15,16,17,18,19,20,21] (λw'=>w1=w') rfl
 intro h2
 replace h2:=bu h2
 refine zs<|zs<|zs<|zs<|zs<|zp rfl<|ag ?_
 exact mg rfl rfl
 intro h2
 replace h2:=bu h2
 refine zf mU rfl<|zl eO rfl (aU.at rfl)<|eh bh rfl<|aC (E3 _ _ _ _) ?_
 rintro _ _ ⟨rfl,rfl⟩
 refine eH rfl<|zp rfl<|ag ?_
 exact mg rfl rfl
 rintro xx _ rfl
 refine ag<|zc rfl (λh3=>?_) (λh3=>?_)
 rw[HU oA mq] at h3
 have hb:=QB (b:=k) (Qp h3)
 refine zr<|zA<|ag<|aV ?_
 exact⟨_,rfl,by rw[hb];rfl,hK⟩
 rw[HU oA mq] at h3
 have hb:(nO k.aP&&decide (k.cE.length<=40)&&(decide (1<=k.code.length)&&decide (k.code.length<=80)))=true:=Qo h3
 refine bA<|aQ<|zr<|zA<|ag<|cP ?_
 refine fZ (λi:Nat=>[(1,.pointer (some ⟨w.heap.size,0,none⟩)),(3,.int .i64 (i:Int))]) (λi w'=>ak [] w w'∧ak [] w1 w'∧i<=k.cE.length∧∀j,j<i->rN (aF k.cE j)=true) (λi=>k.cE.length-i) (0) (⟨rfl,rfl⟩) (⟨hK,ak.refl [] _,om,by intro i hi;omega⟩) ?_
 intro gg w2 e2 hI
 obtain⟨hK,aJ,hk,dA⟩:=hI
 have dy:=dy.ext aJ;have dR:=dR.ext aJ;have aU:=aU.ext aJ
 refine aQ<|zr<|zm<|zf wa rfl<|zl eO rfl (aU.at rfl)<|eh bh rfl<|fJ rfl rfl rfl<|ag<|zc rfl (λh4=>?_) (λh4=>?_)
 have hg:=lj (xs:=k.cE) (i:=gg) om
 obtain⟨b,off,rfl,hc⟩:=qU dy hg
 refine bA<|aQ<|cP<|zr<|zf wa rfl<|zl eO rfl (aU.at rfl)<|zm<|zi bh bB rfl rfl om<|zl cg rfl (hc 0 _ rfl)<|aC (aaF _ w2) ?_
 rintro v3 w3 ⟨et,aK⟩
 have gd:=aK.size
 have hK:=hK.ext aK;have aJ:=aJ.ext aK
 obtain rfl:=et
 refine eH rfl<|ag<|zc rfl (λh5=>?_) (λh5=>?_)
 have hq:=QC (b:=k) (i:=gg) om (by simpa using h5)
 refine zr<|zA<|ag<|aV ?_
 exact⟨_,rfl,by rw[hq];rfl,hK⟩
 refine bA<|db<|zm<|eE rfl rfl rfl (wrap_i64 _ om om)<|zA<|ag ?_
 exact⟨gg+1,⟨rfl,rfl⟩,⟨hK,aJ,om,by intro i hi;rcases Nat.lt_or_ge i gg with h|h;exact dA i h;rw[show i=gg by omega];simpa using h5⟩,om⟩
 have K6:∀i,i<k.cE.length->rN (aF k.cE i)=true:=λi hi=>dA i om
 clear dA aJ hk
 refine gF<|gH rfl<|aQ<|zr<|zA<|ag<|cP ?_
 refine fZ (λi:Nat=>[(1,.pointer (some ⟨w.heap.size,0,none⟩)),(4,.int .i64 (i:Int))]) (λi w'=>ak [] w w'∧ak [] w2 w'∧i<=k.code.length∧∀j,j<i->sw k.code j=true) (λi=>k.code.length-i) (0) (⟨rfl,rfl⟩) (⟨hK,ak.refl [] _,om,by intro i hi;omega⟩) ?_
 intro gg w3 e3 hI
 obtain⟨hK,aJ,hk,dA⟩:=hI
 have dR:=dR.ext aJ;have aU:=aU.ext aJ
 refine aQ<|zr<|zm<|zf mU rfl<|zl eO rfl (aU.at rfl)<|eh bh rfl<|fJ rfl rfl rfl<|ag<|zc rfl (λh6=>?_) (λh6=>?_)
 have hg:=lj (xs:=k.code) (i:=gg) om
 obtain⟨b,off,rfl,hc⟩:=qU dR hg
 refine bA<|aQ<|cP<|aQ ?_
 refine qf eu aS 22 (rA 43 22) (rA 43 22) [[],[0],[],[1,2],[3],[4],[5],[6],[7],[7,8],[7],[7,9,10],[7,11],[7,12],[7],[7],[7,15],[7,16],[7,17],[7,14,18],[7,13,19],[7,20]] [λv _=>v=(.pointer (some ⟨w.heap.size,0+2,none⟩)),λv _=>v=(.slice (some ⟨b,off,none⟩) n2 c2),λv _=>v=(.int .i64 (gg:Int)),λv _=>v=(.pointer (some ⟨b,off+gg*1,none⟩)),λv _=>v=(str (aF k.code gg)),λv _=>v=(.bool (bH (aF k.code gg))),λv _=>v=(.bool (!bH (aF k.code gg))),λv _=>v=(.bool (!bH (aF k.code gg))),λv _=>(!bH (aF k.code gg))=false->v=(.pointer (some ⟨w.heap.size,0+2,none⟩)),λv _=>(!bH (aF k.code gg))=false->v=(.slice (some ⟨b,off,none⟩) n2 c2),λv _=>(!bH (aF k.code gg))=false->v=(.int .i64 (gg:Int)),λv _=>(!bH (aF k.code gg))=false->v=(.pointer (some ⟨b,off+gg*1,none⟩)),λv _=>(!bH (aF k.code gg))=false->v=(str (aF k.code gg)),λv _=>(!bH (aF k.code gg))=false->v=(.bool (jr (aF k.code gg))),λv _=>(!bH (aF k.code gg))=false->v=(.int .i64 (gg:Int)),λv _=>(!bH (aF k.code gg))=false->v=(.pointer (some ⟨w.heap.size,0+2,none⟩)),λv _=>(!bH (aF k.code gg))=false->v=(.slice (some ⟨b,off,none⟩) n2 c2),λv _=>(!bH (aF k.code gg))=false->v=(.int .i64 (n2:Int)),λv _=>(!bH (aF k.code gg))=false->v=(.int .i64 ((n2:Int)-1)),λv _=>(!bH (aF k.code gg))=false->v=(.bool (decide ((gg:Int)=(n2:Int)-1))),λv _=>(!bH (aF k.code gg))=false->v=(.bool (jr (aF k.code gg) !=decide ((gg:Int)=(n2:Int)-1))),λv _=>v=(.bool (!bH (aF k.code gg)||(jr (aF k.code gg) !=decide ((gg:Int)=(n2:Int)-1))))] de (cX (cX (cX (cX (cX (cX (cX (cX (eV (eV (eV (eV (eV (eV (eV (eV (eV (eV (eV (eV (eV (cX trivial)))))))))))))))))))))) (λwd aB=>?_) ?_
 refine bN ?_ ?_
 intro x vs w4 e aD hd he
 replace aD:=aS.trans aB aD
 replace he:e=aM (aN _ x _) []:=he
 subst he
 refine zf mU rfl<|ag ?_
 exact dn (aS.refl _) rfl
 refine bN ?_ ?_
 intro x vs w4 e aD hd he
 have d0:vs 0=(.pointer (some ⟨w.heap.size,0+2,none⟩)):=hd
 replace aD:=aS.trans aB aD
 have aU:=aU.ext aD
 replace he:e=aM (aN _ x _) [(43,vs 0)]:=he
 rw[d0] at he
 subst he
 refine zl eO rfl (aU.at rfl)<|ag ?_
 exact dn (aS.refl _) rfl
 refine bN ?_ ?_
 intro x vs w4 e aD hd he
 replace aD:=aS.trans aB aD
 replace he:e=aM (aN _ x _) []:=he
 subst he
 refine zm<|ag ?_
 exact dn (aS.refl _) rfl
 refine bN ?_ ?_
 intro x vs w4 e aD hd he
 have aR:(vs 1=(.slice (some ⟨b,off,none⟩) n2 c2))∧(vs 2=(.int .i64 (gg:Int))):=hd
 obtain⟨d1,d2⟩:=aR
 replace aD:=aS.trans aB aD
 replace he:e=aM (aN _ x _) [(44,vs 1),(45,vs 2)]:=he
 rw[d1,d2] at he
 subst he
 refine zi bh bB rfl rfl om<|ag ?_
 exact dn (aS.refl _) rfl
 refine bN ?_ ?_
 intro x vs w4 e aD hd he
 have d3:vs 3=(.pointer (some ⟨b,off+gg*1,none⟩)):=hd
 replace aD:=aS.trans aB aD
 have hc:=hc.ext aD
 replace he:e=aM (aN _ x _) [(46,vs 3)]:=he
 rw[d3] at he
 subst he
 refine zl cg rfl (hc 0 _ rfl)<|ag ?_
 exact dn (aS.refl _) rfl
 refine bN ?_ ?_
 intro x vs w4 e aD hd he
 have d4:vs 4=(str (aF k.code gg)):=hd
 replace aD:=aS.trans aB aD
 replace he:e=aM (aN _ x _) [(47,vs 4)]:=he
 rw[d4] at he
 subst he
 refine aC (K3 _ w4) ?_
 rintro v5 w5 ⟨kQ,aT⟩
 have oW:=aT.size
 obtain rfl:=kQ
 refine ag ?_
 exact dn (aS.of aT) rfl
 refine bN ?_ ?_
 intro x vs w4 e aD hd he
 have d5:vs 5=(.bool (bH (aF k.code gg))):=hd
 replace aD:=aS.trans aB aD
 replace he:e=aM (aN _ x _) [(48,vs 5)]:=he
 rw[d5] at he
 subst he
 refine eH rfl<|ag ?_
 exact dn (aS.refl _) rfl
 refine bN ?_ ?_
 intro x vs w4 e aD hd he
 have d6:vs 6=(.bool (!bH (aF k.code gg))):=hd
 replace aD:=aS.trans aB aD
 replace he:e=aM (aN _ x _) [(49,vs 6)]:=he
 rw[d6] at he
 subst he
 refine zm<|ag ?_
 exact dn (aS.refl _) rfl
 refine bN ?_ ?_
 intro x vs w4 e aD hd he
 have d7:vs 7=(.bool (!bH (aF k.code gg))):=hd
 replace aD:=aS.trans aB aD
 rcases bE (!bH (aF k.code gg)) with hg|hg
 rw[hg] at d7
 replace he:e=aM (aN _ x _) [(50,vs 7)]:=he
 rw[d7] at he
 subst he
 refine zs<|ag ?_
 exact dn (aS.refl _) (show(!bH (aF k.code gg))=false->_=(_:Value) from λhh=>nomatch hg.symm.trans hh)
 rw[hg] at d7
 replace he:e=aM (aN _ x _) [(50,vs 7)]:=he
 rw[d7] at he
 subst he
 refine zf mU rfl<|ag ?_
 exact dn (aS.refl _) (show(!bH (aF k.code gg))=false->_=((.pointer (some ⟨w.heap.size,0+2,none⟩)):Value) from λ_=>rfl)
 refine bN ?_ ?_
 intro x vs w4 e aD hd he
 have aR:(vs 7=(.bool (!bH (aF k.code gg))))∧((!bH (aF k.code gg))=false->vs 8=(.pointer (some ⟨w.heap.size,0+2,none⟩))):=hd
 obtain⟨d7,d8⟩:=aR
 replace aD:=aS.trans aB aD
 have aU:=aU.ext aD
 rcases bE (!bH (aF k.code gg)) with hg|hg
 rw[hg] at d7
 replace he:e=aM (aN _ x _) [(50,vs 7),(51,vs 8)]:=he
 rw[d7] at he
 subst he
 refine zs<|ag ?_
 exact dn (aS.refl _) (show(!bH (aF k.code gg))=false->_=(_:Value) from λhh=>nomatch hg.symm.trans hh)
 rw[hg] at d7
 replace d8:=d8 hg
 replace he:e=aM (aN _ x _) [(50,vs 7),(51,vs 8)]:=he
 rw[d7,d8] at he
 subst he
 refine zl eO rfl (aU.at rfl)<|ag ?_
 exact dn (aS.refl _) (show(!bH (aF k.code gg))=false->_=((.slice (some ⟨b,off,none⟩) n2 c2):Value) from λ_=>rfl)
 refine bN ?_ ?_
 intro x vs w4 e aD hd he
 have d7:vs 7=(.bool (!bH (aF k.code gg))):=hd
 replace aD:=aS.trans aB aD
 rcases bE (!bH (aF k.code gg)) with hg|hg
 rw[hg] at d7
 replace he:e=aM (aN _ x _) [(50,vs 7)]:=he
 rw[d7] at he
 subst he
 refine zs<|ag ?_
 exact dn (aS.refl _) (show(!bH (aF k.code gg))=false->_=(_:Value) from λhh=>nomatch hg.symm.trans hh)
 rw[hg] at d7
 replace he:e=aM (aN _ x _) [(50,vs 7)]:=he
 rw[d7] at he
 subst he
 refine zm<|ag ?_
 exact dn (aS.refl _) (show(!bH (aF k.code gg))=false->_=((.int .i64 (gg:Int)):Value) from λ_=>rfl)
 refine bN ?_ ?_
 intro x vs w4 e aD hd he
 have aR:(vs 7=(.bool (!bH (aF k.code gg))))∧((!bH (aF k.code gg))=false->vs 9=(.slice (some ⟨b,off,none⟩) n2 c2))∧((!bH (aF k.code gg))=false->vs 10=(.int .i64 (gg:Int))):=hd
 obtain⟨d7,d9,d10⟩:=aR
 replace aD:=aS.trans aB aD
 rcases bE (!bH (aF k.code gg)) with hg|hg
 rw[hg] at d7
 replace he:e=aM (aN _ x _) [(50,vs 7),(52,vs 9),(53,vs 10)]:=he
 rw[d7] at he
 subst he
 refine zs<|ag ?_
 exact dn (aS.refl _) (show(!bH (aF k.code gg))=false->_=(_:Value) from λhh=>nomatch hg.symm.trans hh)
 rw[hg] at d7
 replace d9:=d9 hg
 replace d10:=d10 hg
 replace he:e=aM (aN _ x _) [(50,vs 7),(52,vs 9),(53,vs 10)]:=he
 rw[d7,d9,d10] at he
 subst he
 refine zi bh bB rfl rfl om<|ag ?_
 exact dn (aS.refl _) (show(!bH (aF k.code gg))=false->_=((.pointer (some ⟨b,off+gg*1,none⟩)):Value) from λ_=>rfl)
 refine bN ?_ ?_
 intro x vs w4 e aD hd he
 have aR:(vs 7=(.bool (!bH (aF k.code gg))))∧((!bH (aF k.code gg))=false->vs 11=(.pointer (some ⟨b,off+gg*1,none⟩))):=hd
 obtain⟨d7,d11⟩:=aR
 replace aD:=aS.trans aB aD
 have hc:=hc.ext aD
 rcases bE (!bH (aF k.code gg)) with hg|hg
 rw[hg] at d7
 replace he:e=aM (aN _ x _) [(50,vs 7),(54,vs 11)]:=he
 rw[d7] at he
 subst he
 refine zs<|ag ?_
 exact dn (aS.refl _) (show(!bH (aF k.code gg))=false->_=(_:Value) from λhh=>nomatch hg.symm.trans hh)
 rw[hg] at d7
 replace d11:=d11 hg
 replace he:e=aM (aN _ x _) [(50,vs 7),(54,vs 11)]:=he
 rw[d7,d11] at he
 subst he
 refine zl cg rfl (hc 0 _ rfl)<|ag ?_
 exact dn (aS.refl _) (show(!bH (aF k.code gg))=false->_=((str (aF k.code gg)):Value) from λ_=>rfl)
 refine bN ?_ ?_
 intro x vs w4 e aD hd he
 have aR:(vs 7=(.bool (!bH (aF k.code gg))))∧((!bH (aF k.code gg))=false->vs 12=(str (aF k.code gg))):=hd
 obtain⟨d7,d12⟩:=aR
 replace aD:=aS.trans aB aD
 rcases bE (!bH (aF k.code gg)) with hg|hg
 rw[hg] at d7
 replace he:e=aM (aN _ x _) [(50,vs 7),(55,vs 12)]:=he
 rw[d7] at he
 subst he
 refine zs<|ag ?_
 exact dn (aS.refl _) (show(!bH (aF k.code gg))=false->_=(_:Value) from λhh=>nomatch hg.symm.trans hh)
 rw[hg] at d7
 replace d12:=d12 hg
 replace he:e=aM (aN _ x _) [(50,vs 7),(55,vs 12)]:=he
 rw[d7,d12] at he
 subst he
 refine aC (HT _ w4) ?_
 rintro v5 w5 ⟨kQ,aT⟩
 have oW:=aT.size
 obtain rfl:=kQ
 refine ag ?_
 exact dn (aS.of aT) (show(!bH (aF k.code gg))=false->_=((.bool (jr (aF k.code gg))):Value) from λ_=>rfl)
 refine bN ?_ ?_
 intro x vs w4 e aD hd he
 have d7:vs 7=(.bool (!bH (aF k.code gg))):=hd
 replace aD:=aS.trans aB aD
 rcases bE (!bH (aF k.code gg)) with hg|hg
 rw[hg] at d7
 replace he:e=aM (aN _ x _) [(50,vs 7)]:=he
 rw[d7] at he
 subst he
 refine zs<|ag ?_
 exact dn (aS.refl _) (show(!bH (aF k.code gg))=false->_=(_:Value) from λhh=>nomatch hg.symm.trans hh)
 rw[hg] at d7
 replace he:e=aM (aN _ x _) [(50,vs 7)]:=he
 rw[d7] at he
 subst he
 refine zm<|ag ?_
 exact dn (aS.refl _) (show(!bH (aF k.code gg))=false->_=((.int .i64 (gg:Int)):Value) from λ_=>rfl)
 refine bN ?_ ?_
 intro x vs w4 e aD hd he
 have d7:vs 7=(.bool (!bH (aF k.code gg))):=hd
 replace aD:=aS.trans aB aD
 rcases bE (!bH (aF k.code gg)) with hg|hg
 rw[hg] at d7
 replace he:e=aM (aN _ x _) [(50,vs 7)]:=he
 rw[d7] at he
 subst he
 refine zs<|ag ?_
 exact dn (aS.refl _) (show(!bH (aF k.code gg))=false->_=(_:Value) from λhh=>nomatch hg.symm.trans hh)
 rw[hg] at d7
 replace he:e=aM (aN _ x _) [(50,vs 7)]:=he
 rw[d7] at he
 subst he
 refine zf mU rfl<|ag ?_
 exact dn (aS.refl _) (show(!bH (aF k.code gg))=false->_=((.pointer (some ⟨w.heap.size,0+2,none⟩)):Value) from λ_=>rfl)
 refine bN ?_ ?_
 intro x vs w4 e aD hd he
 have aR:(vs 7=(.bool (!bH (aF k.code gg))))∧((!bH (aF k.code gg))=false->vs 15=(.pointer (some ⟨w.heap.size,0+2,none⟩))):=hd
 obtain⟨d7,d15⟩:=aR
 replace aD:=aS.trans aB aD
 have aU:=aU.ext aD
 rcases bE (!bH (aF k.code gg)) with hg|hg
 rw[hg] at d7
 replace he:e=aM (aN _ x _) [(50,vs 7),(58,vs 15)]:=he
 rw[d7] at he
 subst he
 refine zs<|ag ?_
 exact dn (aS.refl _) (show(!bH (aF k.code gg))=false->_=(_:Value) from λhh=>nomatch hg.symm.trans hh)
 rw[hg] at d7
 replace d15:=d15 hg
 replace he:e=aM (aN _ x _) [(50,vs 7),(58,vs 15)]:=he
 rw[d7,d15] at he
 subst he
 refine zl eO rfl (aU.at rfl)<|ag ?_
 exact dn (aS.refl _) (show(!bH (aF k.code gg))=false->_=((.slice (some ⟨b,off,none⟩) n2 c2):Value) from λ_=>rfl)
 refine bN ?_ ?_
 intro x vs w4 e aD hd he
 have aR:(vs 7=(.bool (!bH (aF k.code gg))))∧((!bH (aF k.code gg))=false->vs 16=(.slice (some ⟨b,off,none⟩) n2 c2)):=hd
 obtain⟨d7,d16⟩:=aR
 replace aD:=aS.trans aB aD
 rcases bE (!bH (aF k.code gg)) with hg|hg
 rw[hg] at d7
 replace he:e=aM (aN _ x _) [(50,vs 7),(59,vs 16)]:=he
 rw[d7] at he
 subst he
 refine zs<|ag ?_
 exact dn (aS.refl _) (show(!bH (aF k.code gg))=false->_=(_:Value) from λhh=>nomatch hg.symm.trans hh)
 rw[hg] at d7
 replace d16:=d16 hg
 replace he:e=aM (aN _ x _) [(50,vs 7),(59,vs 16)]:=he
 rw[d7,d16] at he
 subst he
 refine eh bh rfl<|ag ?_
 exact dn (aS.refl _) (show(!bH (aF k.code gg))=false->_=((.int .i64 (n2:Int)):Value) from λ_=>rfl)
 refine bN ?_ ?_
 intro x vs w4 e aD hd he
 have aR:(vs 7=(.bool (!bH (aF k.code gg))))∧((!bH (aF k.code gg))=false->vs 17=(.int .i64 (n2:Int))):=hd
 obtain⟨d7,d17⟩:=aR
 replace aD:=aS.trans aB aD
 rcases bE (!bH (aF k.code gg)) with hg|hg
 rw[hg] at d7
 replace he:e=aM (aN _ x _) [(50,vs 7),(60,vs 17)]:=he
 rw[d7] at he
 subst he
 refine zs<|ag ?_
 exact dn (aS.refl _) (show(!bH (aF k.code gg))=false->_=(_:Value) from λhh=>nomatch hg.symm.trans hh)
 rw[hg] at d7
 replace d17:=d17 hg
 replace he:e=aM (aN _ x _) [(50,vs 7),(60,vs 17)]:=he
 rw[d7,d17] at he
 subst he
 refine mO rfl rfl rfl rfl rfl (wrap_i64 _ om om)<|ag ?_
 exact dn (aS.refl _) (show(!bH (aF k.code gg))=false->_=((.int .i64 ((n2:Int)-1)):Value) from λ_=>rfl)
 refine bN ?_ ?_
 intro x vs w4 e aD hd he
 have aR:(vs 7=(.bool (!bH (aF k.code gg))))∧((!bH (aF k.code gg))=false->vs 14=(.int .i64 (gg:Int)))∧((!bH (aF k.code gg))=false->vs 18=(.int .i64 ((n2:Int)-1))):=hd
 obtain⟨d7,d14,d18⟩:=aR
 replace aD:=aS.trans aB aD
 rcases bE (!bH (aF k.code gg)) with hg|hg
 rw[hg] at d7
 replace he:e=aM (aN _ x _) [(50,vs 7),(57,vs 14),(61,vs 18)]:=he
 rw[d7] at he
 subst he
 refine zs<|ag ?_
 exact dn (aS.refl _) (show(!bH (aF k.code gg))=false->_=(_:Value) from λhh=>nomatch hg.symm.trans hh)
 rw[hg] at d7
 replace d14:=d14 hg
 replace d18:=d18 hg
 replace he:e=aM (aN _ x _) [(50,vs 7),(57,vs 14),(61,vs 18)]:=he
 rw[d7,d14,d18] at he
 subst he
 refine dO rfl rfl rfl<|ag ?_
 exact dn (aS.refl _) (show(!bH (aF k.code gg))=false->_=((.bool (decide ((gg:Int)=(n2:Int)-1))):Value) from λ_=>rfl)
 refine bN ?_ ?_
 intro x vs w4 e aD hd he
 have aR:(vs 7=(.bool (!bH (aF k.code gg))))∧((!bH (aF k.code gg))=false->vs 13=(.bool (jr (aF k.code gg))))∧((!bH (aF k.code gg))=false->vs 19=(.bool (decide ((gg:Int)=(n2:Int)-1)))):=hd
 obtain⟨d7,d13,d19⟩:=aR
 replace aD:=aS.trans aB aD
 rcases bE (!bH (aF k.code gg)) with hg|hg
 rw[hg] at d7
 replace he:e=aM (aN _ x _) [(50,vs 7),(56,vs 13),(62,vs 19)]:=he
 rw[d7] at he
 subst he
 refine zs<|ag ?_
 exact dn (aS.refl _) (show(!bH (aF k.code gg))=false->_=(_:Value) from λhh=>nomatch hg.symm.trans hh)
 rw[hg] at d7
 replace d13:=d13 hg
 replace d19:=d19 hg
 replace he:e=aM (aN _ x _) [(50,vs 7),(56,vs 13),(62,vs 19)]:=he
 rw[d7,d13,d19] at he
 subst he
 refine Kh EY rfl rfl rfl rfl<|ag ?_
 exact dn (aS.refl _) (show(!bH (aF k.code gg))=false->_=((.bool (jr (aF k.code gg) !=decide ((gg:Int)=(n2:Int)-1))):Value) from λ_=>rfl)
 refine bN ?_ ?_
 intro x vs w4 e aD hd he
 have aR:(vs 7=(.bool (!bH (aF k.code gg))))∧((!bH (aF k.code gg))=false->vs 20=(.bool (jr (aF k.code gg) !=decide ((gg:Int)=(n2:Int)-1)))):=hd
 obtain⟨d7,d20⟩:=aR
 replace aD:=aS.trans aB aD
 rcases bE (!bH (aF k.code gg)) with hg|hg
 rw[hg] at d7
 replace he:e=aM (aN _ x _) [(50,vs 7),(63,vs 20)]:=he
 rw[d7] at he
 subst he
 refine zp rfl<|ag ?_
 exact dn (aS.refl _) (by first|rfl|(rw[hg];rfl))
 rw[hg] at d7
 replace d20:=d20 hg
 replace he:e=aM (aN _ x _) [(50,vs 7),(63,vs 20)]:=he
 rw[d7,d20] at he
 subst he
 refine zp rfl<|ag ?_
 exact dn (aS.refl _) (by first|rfl|(rw[hg];rfl))
 exact trivial
 intro x vs nP lE bJ
 have d0:vs 0=(.pointer (some ⟨w.heap.size,0+2,none⟩)):=bJ 0 de
 have d1:vs 1=(.slice (some ⟨b,off,none⟩) n2 c2):=bJ 1 de
 have d2:vs 2=(.int .i64 (gg:Int)):=bJ 2 de
 have d3:vs 3=(.pointer (some ⟨b,off+gg*1,none⟩)):=bJ 3 de
 have d4:vs 4=(str (aF k.code gg)):=bJ 4 de
 have d5:vs 5=(.bool (bH (aF k.code gg))):=bJ 5 de
 have d6:vs 6=(.bool (!bH (aF k.code gg))):=bJ 6 de
 have d7:vs 7=(.bool (!bH (aF k.code gg))):=bJ 7 de
 have d8:(!bH (aF k.code gg))=false->vs 8=(.pointer (some ⟨w.heap.size,0+2,none⟩)):=bJ 8 de
 have d9:(!bH (aF k.code gg))=false->vs 9=(.slice (some ⟨b,off,none⟩) n2 c2):=bJ 9 de
 have d10:(!bH (aF k.code gg))=false->vs 10=(.int .i64 (gg:Int)):=bJ 10 de
 have d11:(!bH (aF k.code gg))=false->vs 11=(.pointer (some ⟨b,off+gg*1,none⟩)):=bJ 11 de
 have d12:(!bH (aF k.code gg))=false->vs 12=(str (aF k.code gg)):=bJ 12 de
 have d13:(!bH (aF k.code gg))=false->vs 13=(.bool (jr (aF k.code gg))):=bJ 13 de
 have d14:(!bH (aF k.code gg))=false->vs 14=(.int .i64 (gg:Int)):=bJ 14 de
 have d15:(!bH (aF k.code gg))=false->vs 15=(.pointer (some ⟨w.heap.size,0+2,none⟩)):=bJ 15 de
 have d16:(!bH (aF k.code gg))=false->vs 16=(.slice (some ⟨b,off,none⟩) n2 c2):=bJ 16 de
 have d17:(!bH (aF k.code gg))=false->vs 17=(.int .i64 (n2:Int)):=bJ 17 de
 have d18:(!bH (aF k.code gg))=false->vs 18=(.int .i64 ((n2:Int)-1)):=bJ 18 de
 have d19:(!bH (aF k.code gg))=false->vs 19=(.bool (decide ((gg:Int)=(n2:Int)-1))):=bJ 19 de
 have d20:(!bH (aF k.code gg))=false->vs 20=(.bool (jr (aF k.code gg) !=decide ((gg:Int)=(n2:Int)-1))):=bJ 20 de
 have d21:vs 21=(.bool (!bH (aF k.code gg)||(jr (aF k.code gg) !=decide ((gg:Int)=(n2:Int)-1)))):=bJ 21 de
 have hK:=hK.ext lE;have aJ:=aJ.ext lE
 change OW _ _ _ _ [] (aM (aN _ x _) (zZ 43 [vs 0,vs 1,vs 2,vs 3,vs 4,vs 5,vs 6,vs 7,vs 8,vs 9,vs 10,vs 11,vs 12,vs 13,vs 14,vs 15,vs 16,vs 17,vs 18,vs 19,vs 20,vs 21])) _
 rw[d0,d1,d2,d3,d4,d5,d6,d7,d21]
 refine ag<|zc rfl (λh7=>?_) (λh7=>?_)
 rw[K5 mq om] at h7
 have hq:=QD (b:=k) (i:=gg) om (by simpa using h7)
 refine zr<|zA<|ag<|aV ?_
 exact⟨_,rfl,by rw[hq];rfl,hK⟩
 rw[K5 mq om] at h7
 refine bA<|db<|zm<|eE rfl rfl rfl (wrap_i64 _ om om)<|zA<|ag ?_
 exact⟨gg+1,⟨rfl,rfl⟩,⟨hK,aJ,om,by intro i hi;rcases Nat.lt_or_ge i gg with h|h;exact dA i h;rw[show i=gg by omega];simpa using h7⟩,om⟩
 have hq:=QE hb K6 (λi hi=>dA i om)
 refine gF<|gH rfl<|zr<|zA<|ag<|aV ?_
 exact⟨_,rfl,by rw[hq];rfl,hK⟩
theorem QH (bs:List Bk) (hb:xO bs) (v:Value) (L:List Nat) (w:World) (hv:qV L w v bs):
  bZ Tryz.prog 12 [v] w λr w'=>r= .bool (jK bs)∧ak [] w w':=by
 obtain⟨a,n,c,rfl,hn⟩:=Fb hv
 have hK:=ak.refl [] w
 have iO:=hb.1
 refine cU [.tmp 2] 45 Tryz.func12 rfl X7 rfl rfl ?_
 refine zr<|zA<|ag<|aQ<|zr<|zA<|ag<|cP ?_
 refine fZ (λi:Nat=>[(0,.slice a n c),(3,.int .i64 (i:Int))]) (λi w'=>ak [] w w'∧i<=bs.length∧∀j,j<i->oz (bz bs j)=true∧l0 bs (bz bs j).aP=(j:Int)) (λi=>bs.length-i) (0) (⟨rfl,rfl⟩) (⟨hK,om,by intro i hi;omega⟩) ?_
 intro gg w1 e1 hI
 obtain⟨hK,hk,dA⟩:=hI
 have hv:=hv.ext hK
 refine aQ<|zr<|zm<|zm<|eh gO rfl<|fJ rfl rfl rfl<|ag<|zc rfl (λh1=>?_) (λh1=>?_)
 have hg:=o3 (bs:=bs) (i:=gg) om
 obtain⟨b,off,a1,n1,c1,a2,n2,c2,rfl,hc,fK,fu,dy,dR⟩:=zS hv hg
 have oB:=hb.2 gg om
 refine bA<|aQ<|cP<|zr<|zm<|zm<|zi gO fH rfl rfl om<|zL vY fH rfl hc rfl<|aC (aaK (bz bs gg) oB.1 oB.2.1 oB.2.2 _ _ w1 (xK dy dR)) ?_
 rintro v2 w2 ⟨dz,aq⟩
 have dR:=aq.size
 have hK:=hK.ext aq;have hv:=hv.ext aq;have hc:=hc.ext aq
 obtain rfl:=dz
 refine eH rfl<|zm ?_
 apply fo 10 16 26 [16,17,18,19,20,21,22,23,24,25,26] (λw'=>w2=w') rfl
 intro h2
 replace h2:=bu h2
 refine zs<|zs<|zs<|zs<|zs<|zs<|zs<|zs<|zs<|zp rfl<|ag ?_
 exact mg rfl rfl
 intro h2
 replace h2:=bu h2
 refine zm<|zm<|zm<|zi gO fH rfl rfl om<|zf vZ rfl<|zl cg rfl (hc 0 _ rfl)<|aC (aaJ bs om _ _ _ _ hv) ?_
 rintro _ _ ⟨rfl,rfl⟩
 refine zm<|ur rfl rfl rfl rfl rfl<|zp rfl<|ag ?_
 exact mg rfl rfl
 rintro xx _ rfl
 refine ag<|zc rfl (λh3=>?_) (λh3=>?_)
 have hq:=QF (bs:=bs) (i:=gg) om (λhh=>by rw[hh.1,hh.2] at h3;simp at h3)
 refine zr<|zA<|ag<|aV ?_
 exact⟨_,rfl,by rw[hq];rfl,hK⟩
 simp only[Bool.or_eq_false_iff,Bool.not_eq_false',decide_eq_false_iff_not,ne_eq,Classical.not_not] at h3
 refine bA<|db<|zm<|eE rfl rfl rfl (wrap_i64 _ om om)<|zA<|ag ?_
 exact⟨gg+1,⟨rfl,rfl⟩,⟨hK,om,by intro i hi;rcases Nat.lt_or_ge i gg with h|h;exact dA i h;rw[show i=gg by omega];exact h3⟩,om⟩
 have hq:=QG (λi hi=>dA i om)
 clear dA
 refine gF<|gH rfl<|zr<|zm<|eh gO rfl<|aC (E3 _ _ _ _) ?_
 rintro _ _ ⟨rfl,rfl⟩
 refine zm ?_
 apply fU 6 30 36 [30,31,32,33,34,35,36] (λw'=>w1=w') rfl
 intro h4
 replace h4:=bu h4
 simp at h4
 have h0:=o3 (bs:=bs) (i:=0) om
 obtain⟨b,off,a1,n1,c1,a2,n2,c2,rfl,hc,fK,fu,dy,dR⟩:=zS hv h0
 refine zm<|zi (i:=0) gO fH rfl rfl om<|zf vZ rfl<|zl cg rfl (hc 0 _ rfl)<|cW rfl rfl<|zp rfl<|ag ?_
 exact mg rfl rfl
 intro h4
 replace h4:=bu h4
 refine zs<|zs<|zs<|zs<|zs<|zp rfl<|ag ?_
 exact mg rfl rfl
 rintro xx _ rfl
 refine zm ?_
 apply fU 7 37 44 [37,38,39,40,41,42,43,44] (λw'=>w1=w') rfl
 intro h5
 replace h5:=bu h5
 simp at h5
 have h0:=o3 (bs:=bs) (i:=0) om
 obtain⟨b,off,a1,n1,c1,a2,n2,c2,rfl,hc,fK,fu,dy,dR⟩:=zS hv h0
 subst fK
 refine zm<|zi (i:=0) gO fH rfl rfl om<|zf wa rfl<|zl eO rfl (hc 1 _ rfl)<|eh bh rfl<|dO rfl rfl rfl<|zp rfl<|ag ?_
 exact mg rfl rfl
 intro h5
 replace h5:=bu h5
 refine zs<|zs<|zs<|zs<|zs<|zs<|zp rfl<|ag ?_
 exact mg rfl rfl
 rintro xx _ rfl
 refine zA<|ag<|aV ?_
 exact⟨_,rfl,show Value.bool _=Value.bool _ from congrArg _ (by rw[hq];exact aaI hn (λ_=>rfl)),hK⟩
end Go.Proofs.YtigijcjccmdmhaaGreatDoor
