/- Lemmas for the law FnProgramSize, no statement of their own: no conditions. -/
import Derived.Below
import Derived.Calls
import Derived.IntWalk
import Derived.KernelRfl
import Derived.Laws.AppendOwn
import Derived.Laws.Slices
import Derived.Laws.Small
import Derived.Laws.Strings
import Derived.Laws.Strings2
import Derived.Lib.Atoi
import Derived.Lib.Strings
import Derived.Orders
import Derived.Tactics
import Derived.Test.YtkcegcjelmmilaaGreatDoorProg
namespace Go.Proofs.YtkcegcjelmmilaaGreatDoor
open Go
set_option maxHeartbeats 4000000
variable {c p:Prop} {a:Int} {B E b bytes d i j k m n1 n2 o off sz t:Nat} {l rest:List Oper} {x y:Operand} {P:Program} {f:FuncId} {v z:Value} {w w' w0:World} {S:Value->World->Prop} {D L L':List Nat} {vs xs:List Value} {g gb:Option Nat} {ops:Array Oper} {k':IntKind} {Q:Exit->Act->World->Prop} {F r:List (Value->World->Prop)}
abbrev pt (b:Nat):Value:=.pointer (some ⟨b,0,none⟩)
abbrev sc (b n c:Nat):Value:=.slice (some ⟨b,0,none⟩) n c
theorem om (h:p:=by omega):p:=h
theorem so (h:p:=by simp;omega):p:=h
theorem sm (h:p:=by simp):p:=h
theorem sx (h:p:=by simp<;>omega):p:=h
theorem de (h:p:=by decide):p:=h
abbrev rA:=List.range'
abbrev NG (f:Func):Prop:=(f.name== "runtime.NumGoroutine")=false
theorem ng {f:Func} (h:(f.name== "runtime.NumGoroutine")=false:=by kernel_rfl):NG f:=h
theorem mA {α:Type} {a:α} {s t:List α}:a∈s++t↔a∈s∨a∈t:=List.mem_append
theorem mC {α:Type} {a b:α} {l:List α}:a∈b::l↔a=b∨a∈l:=List.mem_cons
theorem gE {α:Type} {l:List α} (h:i<l.length):l[i]?=some l[i]:=List.getElem?_eq_getElem h
theorem lL {n:Nat} (h:n<m) (g:m<=k):n<k:=Nat.lt_of_lt_of_le h g
theorem lR (n:Nat):n<=n:=Nat.le_refl n
theorem bE (b:Bool):b=true∨b=false:=Bool.eq_false_or_eq_true b
theorem gG {α:Type} {l:List α} {a:α}:l.getD i a=l[i]?.getD a:=List.getD_eq_getElem?_getD
theorem lA {α:Type} {s t:List α}:(s++t).length=s.length+t.length:=List.length_append
theorem lC {α:Type} {a:α} {s:List α}:(a::s).length=s.length+1:=List.length_cons
theorem mR {α:Type} {a:α} (s:List α) {t:List α} (h:a∈t):a∈s++t:=List.mem_append_right s h
theorem mK {α:Type} (y:α) {a:α} {l:List α} (h:a∈l):a∈y::l:=List.mem_cons_of_mem y h
theorem iN {h:Decidable c} (k:¬c) {α:Type} {t e:α}:(ite c t e)=e:=if_neg k
theorem iP {h:Decidable c} (k:c) {α:Type} {t e:α}:(ite c t e)=t:=if_pos k
theorem dT {p:Prop} [i:Decidable p] (h:p):decide p=true:=decide_eq_true h
theorem dF {p:Prop} [i:Decidable p] (h:¬p):decide p=false:=decide_eq_false h
theorem aE (a b:Bool):((a&&b)=true)=(a=true∧b=true):=Bool.and_eq_true a b
theorem oE (a b:Bool):((a||b)=true)=(a=true∨b=true):=Bool.or_eq_true a b
theorem dE [i:Decidable p]:(decide p=true)=p:=decide_eq_true_eq

abbrev Env:=Nat->Value
def gU (e:Env) (d:Nat) (v:Value):Env:=λt=>bif Nat.beq t d then v else e t
theorem mW (e:Env) (d:Nat) (v:Value):gU e d v d=v:=by simp[gU,Nat.beq_refl]
theorem H4 (e:Env) (v:Value) (h:t≠d):gU e d v t=e t:=by grind [gU,Nat.beq,Nat.eq_of_beq_eq_true]
structure Fits (n:Nat) (e:Env) (a:Act):Prop where
 defers:a.defers=[]
 size:a.tmps.size=n
 get:∀t,a.tmps.getD t undef=e t
def ev (e:Env):Operand->Value
 | .tmp t=>e t
 | .const v=>v
 | .global g=>.pointer (some ⟨g,0,none⟩)
 | .func f=>.func (.func f) #[] #[]
theorem Fits.eval {n:Nat} {e:Env} {a:Act} (h:Fits n e a):a.eval=ev e:=by
 funext x
 cases x<;>simp[Act.eval,ev]
 rw[<-h.get,Array.getD_eq_getD_getElem?]
theorem Yg (xs:Array Value) (d t:Nat) (v u:Value) (hd:d<xs.size):(xs.setIfInBounds d v).getD t u=if t=d then v else xs.getD t u:=by
 simp only[Array.getD_eq_getD_getElem?,Array.getElem?_setIfInBounds]
 by_cases h:t=d
 ·subst h;simp[hd]
 ·have:¬d=t:=λe=>h e.symm
  simp[h,this]
theorem Fits.put {n:Nat} {e:Env} {a:Act} (h:Fits n e a) (hd:Nat.blt d n=true) (v:Value):Fits n (gU e d v) (a.put (some d) v):=by
 have Yh:d<n:=by simpa[Nat.blt_eq] using hd
 refine⟨h.defers,by simp[Act.put,h.size],λt=>?_⟩
 simp only[Act.put]
 rw[Yg _ _ _ _ _ (by rw[h.size];exact Yh),h.get]
 by_cases ht:t=d
 ·subst ht;simp[mW]
 ·rw[H4 _ _ ht,iN ht]
@[reducible] def bM (e:Env):Option Nat->Value->Env
 |some d,v=>gU e d v
 |none,_=>e
def bV (n:Nat):Option Nat->Bool
 |some d=>Nat.blt d n
 |none=>true
theorem Fits.bM {n:Nat} {e:Env} {a:Act} (h:Fits n e a) {d:Option Nat} (hd:bV n d=true) (v:Value):Fits n (bM e d v) (a.put d v):=by
 cases d with
 |none=>exact h
 |some d=>exact h.put hd v
def pw (n:Nat) (K:Env->World->Prop) (Q:Exit->Act->World->Prop):Exit->Act->World->Prop
 | .normal,a,w=>∃e,Fits n e a∧K e w
 |x,a,w=>Q x a w
def OW (P:Program) (n:Nat) (ops:Array Oper) (K:Env->World->Prop) (l:List Oper) (e:Env) (w:World):Prop:=
 ∀a,Fits n e a->∀Q,wpList P ops (pw n K Q) l a w
def kR (n:Nat) (N R:Env->World->Prop) (X:Nat->Env->World->Prop):Exit->Act->World->Prop
 | .normal,a,w=>∃e,Fits n e a∧N e w
 | .ret,a,w=>∃e,Fits n e a∧R e w
 | .exit i,a,w=>∃e,Fits n e a∧X i e w
 |_,_,_=>False
def CW (P:Program) (n:Nat) (c:Code) (N R:Env->World->Prop) (X:Nat->Env->World->Prop) (e:Env) (w:World):Prop:=
 ∀a,Fits n e a->c.wp P (kR n N R X) a w
section
variable {P:Program} {n:Nat} {N R:Env->World->Prop} {X:Nat->Env->World->Prop} {e:Env} {w:World}
theorem CW.mono {c:Code} {N' R':Env->World->Prop} {X':Nat->Env->World->Prop} (h:CW P n c N R X e w) 
  (hN:∀e w,N e w->N' e w) (hR:∀e w,R e w->R' e w) (hX:∀i e w,X i e w->X' i e w):CW P n c N' R' X' e w:=λa ha=>
 wp_mono (h a ha) λx a w hq=>by
  cases x<;>simp only[kR] at hq⊢
  ·obtain⟨e,hf,hk⟩:=hq;exact⟨e,hf,hN _ _ hk⟩
  ·obtain⟨e,hf,hk⟩:=hq;exact⟨e,hf,hX _ _ _ hk⟩
  ·obtain⟨e,hf,hk⟩:=hq;exact⟨e,hf,hR _ _ hk⟩
theorem jL {x y:Code} (h:CW P n x (λe w=>CW P n y N R X e w) R X e w):CW P n (x.seq y) N R X e w:=λa ha=>
 wp_seq (wp_mono (h a ha) λex a w hq=>by
  cases ex<;>simp only[kR] at hq<;>simp only[Exit.then]<;>first|exact hq|skip
  obtain⟨e,hf,hk⟩:=hq
  exact hk a hf)
theorem gY (h:N e w):CW P n .skip N R X e w:=λ_ ha=>wp_skip ⟨e,ha,h⟩
theorem jZ (h:R e w):CW P n .ret N R X e w:=λ_ ha=>wp_ret ⟨e,ha,h⟩
theorem zj (h:X i e w):CW P n (.exit i) N R X e w:=λ_ ha=>wp_exit ⟨e,ha,h⟩
theorem tj {c:Code} (h:CW P n c N R (λj e w=>bif Nat.beq j i then N e w else X j e w) e w):CW P n (.block i c) N R X e w:=λa ha=>
 wp_block (wp_mono (h a ha) λex a w hq=>by
  cases ex<;>simp only[kR] at hq<;>simp only[Exit.inBlock]<;>first|exact hq|skip
  rename_i j
  obtain⟨e,hf,hk⟩:=hq
  by_cases hj:j=i
  ·subst hj
   simp only[if_true,kR]
   rw[Nat.beq_refl] at hk
   exact⟨e,hf,hk⟩
  ·have hb:Nat.beq j i=false:=by
    cases hx:Nat.beq j i with
    |true=>exact absurd (Nat.eq_of_beq_eq_true hx) hj
    |false=>rfl
   rw[hb] at hk
   simp only[hj,if_false,kR]
   exact⟨e,hf,hk⟩)
theorem zk {A B:Prop} (h:Nat.beq j i=true) (k:A):(bif Nat.beq j i then A else B):=by rw[h];exact k
theorem DE {A B:Prop} (h:Nat.beq j i=false) (k:B):(bif Nat.beq j i then A else B):=by rw[h];exact k
theorem P2 {c:Operand} {x y:Code} {t:Bool} (hc:ev e c= .bool t) (hx:t=true->CW P n x N R X e w) (hy:t=false->CW P n y N R X e w):
  CW P n (.cond c x y) N R X e w:=λa ha=>
 wp_cond_split (t:=t) (by rw[ha.eval];exact hc) (λh=>hx h a ha) (λh=>hy h a ha)
theorem Yi {c:Operand} {x y:Code} (hc:ev e c= .bool false) (hy:CW P n y N R X e w):CW P n (.cond c x y) N R X e w:=
 P2 hc (λh=>by cases h) (λ_=>hy)
theorem kH {id:Nat} (h:OW P n l.toArray N l e w):CW P n (.region id l.toArray false) N R X e w:=λa ha=>
 wp_mono (wp_region_lit (h a ha (λ_ _ _=>False))) λex a w hq=>by
  cases ex<;>simp only[pw] at hq<;>simp only[kR]<;>exact hq
def Holds:List (Nat×Value)->Env->Prop
 |[],_=>True
 |[p],e=>e p.1=p.2
 |p::r,e=>e p.1=p.2∧Holds r e
def bo (e:Env):List (Nat×Value)->Env
 |[]=>e
 |p::r=>gU (bo e r) p.1 p.2
theorem Yj {p:Nat×Value} {r:List (Nat×Value)} (h:Holds (p::r) e):e p.1=p.2∧Holds r e:=by grind [Holds]
theorem H5:∀{l:List (Nat×Value)},Holds l e->bo e l=e
 |[],_=>rfl
 |p::r,h=>by
  obtain⟨h1,h2⟩:=Yj h
  simp only[bo,H5 h2]
  funext t
  by_cases ht:t=p.1
  ·subst ht;rw[mW,h1]
  ·rw[H4 _ _ ht]
theorem eA {c:Code} {G:Type} (L:G->List (Nat×Value)) (I:G->World->Prop) (μ:G->Nat) (g0:G) (h0:Holds (L g0) e) (hI:I g0 w) 
  (round:∀g w e0,I g w->CW P n c (λe' w'=>∃g',Holds (L g') e'∧I g' w'∧μ g'<μ g) R X (bo e0 (L g)) w):
  CW P n (.loop c) N R X e w:=by
 intro a ha b k cs
 have key:∀m (g:G) (e:Env) (a:Act) (w:World),μ g=m->Fits n e a->Holds (L g) e->I g w->
   ∃x a' w',kR n N R X x a' w'∧Arrives P (lone (b.at a (.code c:: .inLoop c::k)) cs w) b k cs x a' w':=by
  intro m
  induction m using Nat.strongRecOn with
  |_ m ih=>
   intro g e a w hm hf hh hi
   have hr:=round g w e hi
   rw[H5 hh] at hr
   obtain⟨x,a₁,w₁,hq,Fk⟩:=hr a hf b (.inLoop c::k) cs
   cases x with
   |normal=>
    obtain⟨e₁,hf₁,g',Yk,Yl,dU⟩:=hq
    obtain⟨x₂,a₂,w₂,hq₂,harr₂⟩:=ih (μ g') (hm▸dU) g' e₁ a₁ w₁ rfl hf₁ Yk Yl
    exact⟨x₂,a₂,w₂,hq₂,.of_steps (Steps.trans Fk (.one step_inLoop)) harr₂⟩
   |exit id=>exact⟨_,a₁,w₁,by simpa only[kR] using hq,.pass (x:=.inLoop c) rfl (λ_ _=>.inl sm) Fk⟩
   |goto l=>simp[kR] at hq
   |ret=>exact⟨_,a₁,w₁,by simpa only[kR] using hq,.pass (x:=.inLoop c) rfl (λ_ _=>.inl sm) Fk⟩
   |panic ch=>simp[kR] at hq
   |outgrown=>simp[kR] at hq
 obtain⟨x,a',w',hq,Fk⟩:=key _ g0 e a w rfl ha h0 hI
 exact⟨x,a',w',hq,.of_steps (.one step_loop) Fk⟩
theorem ix {c:Code} {G:Type} (L:G->List (Nat×Value)) (I:G->World->Prop) 
  (h:CW P n c (λe' w'=>∃g,Holds (L g) e'∧I g w') R X e w) (k:∀g w' e0,I g w'->N (bo e0 (L g)) w'):CW P n c N R X e w:=
 h.mono (λe' w' ⟨g,hh,hi⟩=>by have:=k g w' e' hi;rwa [H5 hh] at this) (λ_ _ h=>h) (λ_ _ _ h=>h)
end
/-! ### A function -/
def qK (P:Program) (f:FuncId):Prop:=∃fn,P.funcs[f]?=some fn∧fn.body.isNone=false∧(fn.name== "runtime.NumGoroutine")=false
theorem qK.mk' {fn:Func} (h:P.funcs[f]?=some fn) (hb:fn.body.isNone=false) (hn:(fn.name== "runtime.NumGoroutine")=false):qK P f:=⟨fn,h,hb,hn⟩
def bz (P:Program) (f:FuncId) (args:List Value) (w:World) (S:Value->World->Prop):Prop:=
 qK P f∧Calls P f args.toArray w λe w'=>∃v,e= .returned v∧S v w'
def BB (e:Env):List ResultVar->Option Value
 |[.tmp t]=>some (e t)
 |[.tmp t,.tmp u]=>some (.tuple #[e t,e u])
 |[.tmp t,.tmp u,.tmp x]=>some (.tuple #[e t,e u,e x])
 |[]=>some (.tuple #[])
 |_=>none
theorem P3 {fn:Func} {rs:List ResultVar} (hr:fn.results=rs.toArray) {tmps:Array Value} {e:Env} (hg:∀t,tmps.getD t undef=e t) (h:BB e rs=some v) (P:Program) (w:World):
  (results fn tmps).run P w= .ok v w:=by
 match rs,h with
 |[.tmp t],h=>simp only[BB,Option.some.injEq] at h;subst h;rw[<-hg];exact results_tmp hr _ _ _
 |[.tmp t,.tmp u],h=>simp only[BB,Option.some.injEq] at h;subst h;rw[<-hg,<-hg];exact results_tmp2 hr _ _ _
 |[.tmp t,.tmp u,.tmp x],h=>
  simp only[BB,Option.some.injEq] at h;subst h;rw[<-hg,<-hg,<-hg]
  simp[results,hr]
 |[],h=>simp only[BB,Option.some.injEq] at h;subst h;exact results_none hr _ _ _
def start (args:List Value):Env:=λt=>args.getD t undef
theorem P4 (args:List Value) (m:Nat):Fits (args.length+m) (start args) {tmps:=args.toArray++Array.replicate m undef,defers:=[]}:=by
 refine⟨rfl,sm,λt=>?_⟩
 simp only[start,Array.getD_eq_getD_getElem?,gG,Array.getElem?_append,List.size_toArray,List.getElem?_toArray]
 by_cases h:t<args.length
 ·rw[iP h]
 ·rw[iN h,List.getElem?_eq_none om]
  by_cases h2:t-args.length<m<;>simp[h2]
theorem bS {P:Program} {f:FuncId} {fn:Func} {c:Code} {args:List Value} {w:World} {S:Value->World->Prop} (rs:List ResultVar) (n:Nat) 
  (hf:P.funcs[f]?=some fn) (hb:fn.body=some c) (hn:(fn.name== "runtime.NumGoroutine")=false) (hr:fn.results=rs.toArray) (fC:args.length+(fn.ntmps-args.length)=n)
  (h:CW P n c (λe w'=>∃v,BB e rs=some v∧S v w') (λe w'=>∃v,BB e rs=some v∧S v w') (λ_ _ _=>False) (start args) w):bz P f args w S:=by
 refine⟨⟨fn,hf,by rw[hb];rfl,hn⟩,calls_of_wp hf hb (wp_mono (h _ ?_) λx a w' hq=>?_)⟩
 ·rw[<-fC];simpa using P4 args (fn.ntmps-args.length)
 ·cases x<;>simp only[kR] at hq
  ·obtain⟨e,kv,v,hv,hs⟩:=hq
   exact bodyPost_end (P3 hr kv.get hv P w') kv.defers ⟨v,rfl,hs⟩
  ·obtain⟨e,kv,hs⟩:=hq;exact hs.elim
  ·obtain⟨e,kv,v,hv,hs⟩:=hq
   exact bodyPost_ret (P3 hr kv.get hv P w') kv.defers ⟨v,rfl,hs⟩
def P5 (P:Program) (e:Env) (t ty:Nat) (v:Value) (w:World):Prop:=∃a,e t= .pointer (some a)∧(loadVar ty a).run P w= .ok v w
structure aj (L:List Nat) (w w':World):Prop where
 os:w'.os=w.os
 tape:w'.tape=w.tape
 output:w'.output=w.output
 size:w.heap.size<=w'.heap.size
 block:∀k,k<w.heap.size->k∉L->w'.heap[k]?=w.heap[k]?
theorem aj.refl (L:List Nat) (w:World):aj L w w:=⟨rfl,rfl,rfl,lR _,λ_ _ _=>rfl⟩
theorem aj.trans {a b c:World} (h:aj L a b) (k:aj L b c):aj L a c:=
 ⟨k.os.trans h.os,k.tape.trans h.tape,k.output.trans h.output,Nat.le_trans h.size k.size,λi hi hl=>(k.block i (lL hi h.size) hl).trans (h.block i hi hl)⟩
theorem aj.mono {a b:World} (h:aj L a b) (hL:∀x,x∈L->x∈L'):aj L' a b:=
 ⟨h.os,h.tape,h.output,h.size,λk hk hl=>h.block k hk (λhx=>hl (hL k hx))⟩
theorem aj.any {a b:World} (h:aj [] a b):aj L a b:=h.mono sm
theorem aj.drew (L:List Nat) (w:World):aj L w {w with drawn:=w.drawn+1}:=⟨rfl,rfl,rfl,lR _,λ_ _ _=>rfl⟩
theorem aj.alloc (L:List Nat) (w:World) (o:Obj):aj L w (w.alloc o):=⟨rfl,rfl,rfl,sm,λk hk _=>heap_alloc_old w o k hk⟩
theorem aj.below {a b:World} (h:aj L a b) (hB:B<=a.heap.size) (hL:∀x,x∈L->B<=x):Go.RowKit.Below B a b:=
 ⟨h.os,h.tape,h.output,h.size,λk hk=>h.block k om (λhx=>by have:=hL k hx;omega)⟩
theorem aj.since {a b c:World} (h:aj L a b) (k:aj L' b c) (hL:∀x,x∈L'->x∈L∨a.heap.size<=x):aj L a c:=
 ⟨k.os.trans h.os,k.tape.trans h.tape,k.output.trans h.output,Nat.le_trans h.size k.size,λi hi hl=>
  (k.block i (lL hi h.size) (λhx=>by rcases hL i hx with h1|h1;exact hl h1;omega)).trans (h.block i hi hl)⟩
def aJ (w:World) (b:Nat) (cs:Array Value) (T:TypeId):Prop:=w.heap[b]?=some (.cells cs T (0,0))
theorem aJ.aF {cs:Array Value} {T:TypeId} (h:aJ w b cs T) (k:aj L w w') (hb:b∉L):aJ w' b cs T:=
 (k.block b (Array.getElem?_eq_some_iff.1 h).1 hb).trans h
theorem aJ.lt {cs:Array Value} {T:TypeId} (h:aJ w b cs T):b<w.heap.size:=(Array.getElem?_eq_some_iff.1 h).1
theorem aJ.cell {cs:Array Value} {T:TypeId} (h:aJ w b cs T) (i:Nat):w.cell? ⟨b,i,none⟩=cs[i]?:=cell_of_row w b i cs T (0,0) h
theorem aJ.frozen {cs:Array Value} {T:TypeId} (h:aJ w b cs T) (i:Nat):w.frozen? ⟨b,i,none⟩=false:=by
 simp only[World.frozen?];rw[show w.heap[b]?=_ from h];simp
theorem aJ.alloc (w:World) (cs:Array Value) (T:TypeId):aJ (w.alloc (.cells cs T)) w.heap.size cs T:=heap_alloc_new w _
theorem aJ.set {cs:Array Value} {T:TypeId} (h:aJ w b cs T) (i:Nat) (v:Value):aJ (w.setCell ⟨b,i,none⟩ v) b (cs.setIfInBounds i v) T:=by
 unfold aJ at*
 simp only[World.setCell,Array.getElem?_modify,if_true,h]
 simp
theorem aj.setCell (w:World) (b i:Nat) (v:Value):aj [b] w (w.setCell ⟨b,i,none⟩ v):=
 ⟨rfl,rfl,rfl,by simp[World.setCell],λk _ hl=>Go.RowKit.Below.heap_setCell w _ v k (by simpa using hl)⟩
inductive C where
 |val (v:Value)
 |sl (size:Nat) (rows:List (List C))
inductive bQ (L:List Nat) (w:World):Value->C->Prop
 |val (v:Value):bQ L w v (.val v)
 |nil (a:Option Addr) (cap size:Nat):bQ L w (.slice a 0 cap) (.sl size [])
 |sl (b off len cap size:Nat) (rows:List (List C)) (f:Nat->Nat->Value) (hl:rows.length=len) (hc:len<=cap) (hb:b<w.heap.size) (hL:b∉L)
   (hs:∀row,row∈rows->row.length=size)
   (kh:∀i j,i<len->j<size->w.cell? ⟨b,off+i*size+j,none⟩=some (f i j))
   (gB:∀i j row c,rows[i]?=some row->row[j]?=some c->bQ L w (f i j) c):bQ L w (.slice (some ⟨b,off,none⟩) len cap) (.sl size rows)
theorem bQ.aF {c:C} (h:bQ L w v c) (k:aj L w w'):bQ L w' v c:=by
 induction h with
 |val v=>exact .val v
 |nil a c s=>exact .nil a c s
 |sl b off len cap size rows f hl hc hb hL hs kh _ ih=>
  exact .sl b off len cap size rows f hl hc (lL hb k.size) hL hs
   (λi j hi hj=>(World.cell?_of_block (k.block b hb hL)).trans (kh i j hi hj)) ih
theorem bQ.fresh {c:C} (h:bQ L w v c) (hL:∀x,x∈L'->x∈L∨w.heap.size<=x):bQ L' w v c:=by
 induction h with
 |val v=>exact .val v
 |nil a c s=>exact .nil a c s
 |sl b off len cap size rows f hl hc hb gN hs kh _ ih=>
  exact .sl b off len cap size rows f hl hc hb (λhx=>by rcases hL b hx with h1|h1;exact gN h1;omega) hs kh ih
theorem bQ.weaken {c:C} (h:bQ L w v c) (hL:∀x,x∈L'->x∈L):bQ L' w v c:=h.fresh λx hx=>.inl (hL x hx)
theorem bQ.none {c:C} (h:bQ L w v c):bQ [] w v c:=h.weaken sm
def cS (L:List Nat) (w:World):List Value->List C->Prop
 |[],[]=>True
 |v::vs,c::cs=>bQ L w v c∧cS L w vs cs
 |_,_=>False
theorem cS.length:∀{vs:List Value} {cs:List C},cS L w vs cs->vs.length=cs.length
 |[],[],_=>rfl
 |_::_,_::_,h=>by simp[cS.length h.2]
theorem cS.get:∀{vs:List Value} {cs:List C},cS L w vs cs->∀{j:Nat} {v:Value} {c:C},vs[j]?=some v->cs[j]?=some c->bQ L w v c
 |_::_,_::_,h,0,_,_,hv,hc=>by simp at hv hc;subst hv;subst hc;exact h.1
 |_::_,_::_,h,j+1,_,_,hv,hc=>cS.get h.2 (j:=j) (by simpa using hv) (by simpa using hc)
theorem cS.of:∀{vs:List Value} {cs:List C},vs.length=cs.length->(∀(j:Nat) (v:Value) (c:C),vs[j]?=some v->cs[j]?=some c->bQ L w v c)->cS L w vs cs
 |[],[],_,_=>trivial
 |v::vs,c::cs,hl,h=>⟨h 0 v c rfl rfl,cS.of (by simpa using hl) λj v' c' hv hc=>h (j+1) v' c' (by simpa using hv) (by simpa using hc)⟩
theorem cS.aF {cs:List C} (h:cS L w vs cs) (k:aj L w w'):cS L w' vs cs:=cS.of h.length λ_ _ _ hv hc=>(h.get hv hc).aF k
theorem cS.fresh {cs:List C} (h:cS L w vs cs) (hL:∀x,x∈L'->x∈L∨w.heap.size<=x):cS L' w vs cs:=cS.of h.length λ_ _ _ hv hc=>(h.get hv hc).fresh hL
theorem cS.append:∀{vs:List Value} {cs:List C} {vs':List Value} {cs':List C},cS L w vs cs->cS L w vs' cs'->cS L w (vs++vs') (cs++cs')
 |[],[],_,_,_,h'=>h'
 |_::_,_::_,_,_,h,h'=>⟨h.1,cS.append h.2 h'⟩
def j1 (L:List Nat) (w:World) (v:Value) (cs:List C):Prop:=∃vs:List Value,v= .agg vs.toArray∧cS L w vs cs
theorem j1.aF {cs:List C} (h:j1 L w v cs) (k:aj L w w'):j1 L w' v cs:=
 let⟨vs,e,h⟩:=h;⟨vs,e,h.aF k⟩
theorem j1.fresh {cs:List C} (h:j1 L w v cs) (hL:∀x,x∈L'->x∈L∨w.heap.size<=x):j1 L' w v cs:=
 let⟨vs,e,h⟩:=h;⟨vs,e,h.fresh hL⟩
def fS (w:World) (b off:Nat) (vs:List Value):Prop:=∀(j:Nat) (v:Value),vs[j]?=some v->w.cell? ⟨b,off+j,none⟩=some v
theorem rC {size:Nat} {rows:List (List C)} (h:bQ L w v (.sl size rows)):∃a cap,v= .slice a rows.length cap∧rows.length<=cap:=by
 cases h with
 |nil a c s=>exact⟨a,c,rfl,Nat.zero_le _⟩
 |sl b off len cap size rows f hl hc=>exact⟨_,cap,by rw[hl],om⟩
theorem zn {a:Option Addr} {len cap size:Nat} {rows:List (List C)} (h:bQ L w (.slice a len cap) (.sl size rows)) {row:List C} (hi:rows[i]?=some row):
  ∃b off vs,a=some ⟨b,off,none⟩∧b<w.heap.size∧b∉L∧vs.length=size∧fS w b (off+i*size) vs∧cS L w vs row:=by
 cases h with
 |nil=>simp at hi
 |sl b off len cap size rows f hl hc hb hL hs kh gB=>
  have mj:i<rows.length:=(List.getElem?_eq_some_iff.1 hi).1
  have gZ:row.length=size:=hs row (List.mem_of_getElem? hi)
  refine⟨b,off,(List.range size).map (f i),rfl,hb,hL,sm,λj v hj=>?_,cS.of (by simp[gZ]) λj v c hv px=>?_⟩
  ·have xH:j<size:=by have:=(List.getElem?_eq_some_iff.1 hj).1;simpa using this
   have e:f i j=v:=by simpa[List.getElem?_map,xH] using hj
   rw[<-e];exact kh i j om xH
  ·have xH:j<size:=by have:=(List.getElem?_eq_some_iff.1 hv).1;simpa using this
   have e:f i j=v:=by simpa[List.getElem?_map,xH] using hv
   rw[<-e];exact gB i j row c hi px
theorem Ym (b off cap size:Nat) (rows:List (List C)) (vss:List (List Value)) (hlen:vss.length=rows.length) (hc:rows.length<=cap) (hb:b<w.heap.size) (hL:b∉L) 
  (hs:∀row,row∈rows->row.length=size)
  (kh:∀(i:Nat) (vs:List Value),vss[i]?=some vs->fS w b (off+i*size) vs)
  (gB:∀(i:Nat) (vs:List Value) (row:List C),vss[i]?=some vs->rows[i]?=some row->cS L w vs row):bQ L w (.slice (some ⟨b,off,none⟩) rows.length cap) (.sl size rows):=by
 refine .sl b off rows.length cap size rows (λi j=>(vss.getD i []).getD j undef) rfl hc hb hL hs (λi j hi hj=>?_) (λi j row c hi hj=>?_)
 ·obtain⟨vs,aW⟩:∃vs,vss[i]?=some vs:=⟨vss[i]'om,gE om⟩
  obtain⟨row,gZ⟩:∃row,rows[i]?=some row:=⟨rows[i]'hi,gE hi⟩
  have hl:=(gB i vs row aW gZ).length
  rw[hs row (List.mem_of_getElem? gZ)] at hl
  have hv:vs[j]?=some vs[j]:=gE om
  have:=kh i vs aW j _ hv
  rw[this]
  simp[gG,aW,hv]
 ·obtain⟨vs,aW⟩:∃vs,vss[i]?=some vs:=⟨vss[i]'(by have:=(List.getElem?_eq_some_iff.1 hi).1;omega),gE (by have:=(List.getElem?_eq_some_iff.1 hi).1;omega)⟩
  have hr:=gB i vs row aW hi
  have hl:=hr.length
  have oz:=(List.getElem?_eq_some_iff.1 hj).1
  have hv:vs[j]?=some vs[j]:=gE om
  have:=hr.get hv hj
  simpa[gG,aW,hv] using this
theorem P6 {len cap size:Nat} {rows:List (List C)} (h:bQ L w (.slice (some ⟨b,off,none⟩) len cap) (.sl size rows)) (i:Nat) (hi:i<=len) (a:Option Addr) 
  (ha:i<cap->a=some ⟨b,off+i*size,none⟩) (Yn:i=cap->a=some ⟨b,off,none⟩):bQ L w (.slice a (len-i) (cap-i)) (.sl size (rows.drop i)):=by
 cases h with
 |nil=>rw[List.drop_nil,show i=0 from by omega];exact .nil _ _ _
 |sl b off len cap size rows f hl hc hb hL hs kh gB=>
  by_cases Yo:i<cap
  ·rw[ha Yo]
   refine .sl b (off+i*size) (len-i) (cap-i) size (rows.drop i) (λk j=>f (i+k) j) (by simp[hl]) om hb hL (λrow hr=>hs row (List.mem_of_mem_drop hr)) (λk j hk hj=>?_) (λk j row c hk hj=>?_)
   ·have:=kh (i+k) j om hj
    rw[<-this];congr 2;rw[Nat.add_mul];omega
   ·exact gB (i+k) j row c (by simpa using hk) hj
  ·have:i=cap:=by omega
   subst this
   rw[Yn rfl]
   have Yp:len=i:=by omega
   have hr:rows.drop i=[]:=by apply List.drop_of_length_le;omega
   rw[hr]
   have:=bQ.sl (L:=L) (w:=w) b off 0 0 size [] f rfl (lR _) hb hL sm om sm
   simpa[Yp] using this
def iH (w:World) (T:TypeId) (sz:Nat) (v:Value) (g:Option Nat) (n:Nat) (xs:List Value):Prop:=
 xs.length=n*sz∧
 ((v= .slice none 0 0∧n=0∧g=none)∨
  ∃b cap cur,g=some b∧v= .slice (some ⟨b,0,none⟩) n cap∧aJ w b cur T∧n<=cap∧cap<=maxLen∧cur.size=cap*sz∧cur.toList.take (n*sz)=xs)
theorem iH.nil (w:World) (T:TypeId) (sz:Nat):iH w T sz (.slice none 0 0) none 0 []:=by grind [iH]
theorem iH.aF {T:TypeId} {n:Nat} (h:iH w T sz v g n xs) (k:aj L w w') (hg:∀b,g=some b->b∉L):iH w' T sz v g n xs:=by
 refine⟨h.1,?_⟩
 rcases h.2 with h|⟨b,cap,cur,e,hv,hb,r⟩
 ·exact .inl h
 ·exact .inr ⟨b,cap,cur,e,hv,hb.aF k (hg b e),r⟩
theorem iH.lt {T:TypeId} {n:Nat} (h:iH w T sz v g n xs):∀b,g=some b->b<w.heap.size:=by
 intro b e
 rcases h.2 with⟨_,_,h⟩|⟨b',cap,cur,e',hv,hb,r⟩
 ·rw[e] at h;cases h
 ·rw[e] at e';cases e';exact hb.lt
theorem iH.len {T:TypeId} {n:Nat} (h:iH w T sz v g n xs):∃a cap,v= .slice a n cap:=by grind [iH]
section
variable {P:Program} {w:World}
theorem P7 {t ty T:TypeId} {i:TypeInfo} {sz bytes:Nat} (ht:P.underlying t=some (.slice T)) (hi:P.info? T=some i) (hz:i.zero=some z) 
  (BC:i.size=sz) (fK:i.bytes=bytes) (xI:z.cells.size=sz)
  {v:Value} {g:Option Nat} {n:Nat} {xs:List Value} (dv:iH w T sz v g n xs)
  (ab aoff m c:Nat) (news:List Value) (hl:news.length=m*sz) (tl:fS w ab aoff news) (h1:∀u∈news,u.oneCell'=true) (hm:0<m)
  (zo:n+m<=maxLen) (xJ:(n+m)*bytes<=140737488355328):
  ∃v' g' w',(Builtin.append_ #[t,t] ty #[v,.slice (some ⟨ab,aoff,none⟩) m c]).run P w= .ok v' w'∧iH w' T sz v' g' (n+m) (xs++news)∧aj g.toList w w'∧
   (g'=g∨g'=some w.heap.size):=by
 subst BC
 subst fK
 have H6:n+m<=9223372036854775807:=by simp only[maxLen] at zo;omega
 have hlen:(xs++news).length=(n+m)*i.size:=by rw[lA,dv.1,hl,Nat.add_mul]
 have uF:∀b o j:Nat,(⟨b,o,none⟩:Addr).add j=⟨b,o+j,none⟩:=λb o j=>by unfold Addr.add;split<;>simp_all
 have uG:∀j u,news[j]?=some u->w.cell? ((⟨ab,aoff,none⟩:Addr).add j)=some u:=λj u hu=>by rw[uF];exact tl j u hu
 have grown:∀(old:Nat),old<n+m->
   iH (w.drew.alloc (.cells (xs.toArray++news.toArray++Builtin.zeroCells z.cells (grownCap w (n+m) old T-(n+m))) T)) T i.size
    (.slice (some ⟨w.heap.size,0,none⟩) (n+m) (grownCap w (n+m) old T)) (some w.heap.size) (n+m) (xs++news)∧
   aj g.toList w (w.drew.alloc (.cells (xs.toArray++news.toArray++Builtin.zeroCells z.cells (grownCap w (n+m) old T-(n+m))) T)):=by
  intro old ho
  have oC:=grownCap_ge w (n+m) old T
  have lU:grownCap w (n+m) old T<=maxLen:=grownCap_le_maxLen w (n+m) old T zo
  refine⟨⟨hlen,.inr ⟨w.heap.size,_,_,rfl,rfl,heap_alloc_new w.drew _,oC,lU,?_,?_⟩⟩,⟨rfl,rfl,rfl,sm,λk hk _=>heap_alloc_old w.drew _ k hk⟩⟩
  ·simp only[Array.size_append,List.size_toArray,size_zeroCells,xI,dv.1,hl,<-Nat.add_mul]
   congr 1
   omega
  ·simp only[Array.toList_append,List.append_assoc]
   rw[<-List.append_assoc,<-hlen]
   exact List.take_left
 rcases dv.2 with⟨rfl,rfl,rfl⟩|⟨b,cap,cur,rfl,rfl,hb,ml,lU,bZ,tq⟩
 ·have hx:xs=[]:=List.eq_nil_of_length_eq_zero (by simpa using dv.1)
  subst hx
  have hr:=run_append_nil (P:=P) w t ty T i z ht hi hz ⟨ab,aoff,none⟩ m c news hl uG hm om (by have hb:=xJ;simp only[Nat.zero_add] at hb;omega)
  have kS:=grown 0 om
  simp only[Nat.zero_add,List.nil_append,Array.empty_append] at kS⊢
  exact⟨_,_,_,hr,kS.1,kS.2,.inr rfl⟩
 ·by_cases oD:n+m<=cap
  ·have kv:n*i.size+news.length<=cur.size:=by rw[hl,bZ,<-Nat.add_mul];exact Nat.mul_le_mul_right _ oD
   have hr:=run_append_room (P:=P) w t ty T i ht hi b n cap cur hb ⟨ab,aoff,none⟩ m c news hl uG h1 oD kv
   refine⟨_,some b,_,hr,⟨hlen,.inr ⟨b,cap,_,rfl,rfl,setRow_heap w b cur _ T _ hb,oD,lU,?_,?_⟩⟩,⟨rfl,rfl,rfl,sm,λk _ hk=>setRow_other w b k _ (by simpa using hk)⟩,.inl rfl⟩
   ·simp only[List.size_toArray,lA,List.length_take,List.length_drop,Array.length_toList]
    omega
   ·rw[tq,<-hlen]
    exact List.take_left
  ·have holds:∀j u,xs[j]?=some u->w.cell? ((⟨b,0,none⟩:Addr).add j)=some u:=λj u hu=>by
    rw[uF,hb.cell]
    rw[<-tq,List.getElem?_take] at hu
    split at hu
    ·simpa using hu
    ·cases hu
   have hr:=run_append_grow (P:=P) w t ty T i z ht hi hz ⟨b,0,none⟩ n cap xs dv.1 holds ⟨ab,aoff,none⟩ m c news hl uG om om (growslice_fits om xJ)
   have kS:=grown cap om
   exact⟨_,_,_,hr,kS.1,kS.2,.inr rfl⟩
end
structure gO (L:List Nat) (w:World) (T:TypeId) (sz:Nat) (v:Value) (g:Option Nat) (rows:List (List C)) (xs:List Value):Prop where
 own:iH w T sz v g rows.length xs
 rep:cS (g.toList++L) w xs rows.flatten
 row:∀row,row∈rows->row.length=sz
 out:∀b,g=some b->b∉L
theorem gO.nil (L:List Nat) (w:World) (T:TypeId) (sz:Nat):gO L w T sz (.slice none 0 0) none [] []:=
 ⟨iH.nil _ _ _,trivial,sm,sm⟩
theorem gO.aF {T:TypeId} {rows:List (List C)} (h:gO L w T sz v g rows xs) (k:aj L' w w') 
  (hL:∀x,x∈L'->x∈L):gO L w' T sz v g rows xs:=
 ⟨h.own.aF k (λb e hx=>h.out b e (hL b hx)),h.rep.aF (k.mono λx hx=>by simp[hL x hx]),h.row,h.out⟩
theorem gO.more {L':List Nat} {T:TypeId} {rows:List (List C)} (h:gO L w T sz v g rows xs) 
  (hL:∀x,x∈L'->x∈L∨w.heap.size<=x):gO L' w T sz v g rows xs:=
 ⟨h.own,h.rep.fresh (λx hx=>by
   rcases mA.1 hx with hx|hx
   ·exact .inl (by simp[hx])
   ·rcases hL x hx with h1|h1
    ·exact .inl (by simp[h1])
    ·exact .inr h1),h.row,λb e hx=>by rcases hL b hx with h1|h1;exact h.out b e h1;have:=h.own.lt b e;omega⟩
theorem gO.len {T:TypeId} {rows:List (List C)} (h:gO L w T sz v g rows xs):∃a cap,v= .slice a rows.length cap:=h.own.len
theorem Fl {α:Type}:∀{rows:List (List α)},(∀row,row∈rows->row.length=sz)->∀{i j:Nat} {row:List α} {c:α},rows[i]?=some row->row[j]?=some c->rows.flatten[i*sz+j]?=some c
 |r::rows,h,0,j,row,c,hi,hj=>by
  simp only[List.getElem?_cons_zero,Option.some.injEq] at hi
  subst hi
  simp only[List.flatten_cons,Nat.zero_mul,Nat.zero_add]
  rw[List.getElem?_append_left (List.getElem?_eq_some_iff.1 hj).1];exact hj
 |r::rows,h,i+1,j,row,c,hi,hj=>by
  have hr:r.length=sz:=h r sm
  have:=Fl (rows:=rows) (λrow hr=>h row (by simp[hr])) (i:=i) (by simpa using hi) hj
  rw[List.flatten_cons,List.getElem?_append_right (by rw[hr,Nat.add_mul];omega),hr]
  rw[<-this];congr 1;rw[Nat.add_mul];omega
theorem Yq {α:Type}:∀{rows:List (List α)},(∀row,row∈rows->row.length=sz)->rows.flatten.length=rows.length*sz:=by intro x;induction x<;>grind
theorem gO.done {T:TypeId} {rows:List (List C)} (h:gO L w T sz v g rows xs):bQ L w v (.sl sz rows):=by
 have gB:=h.rep.fresh (L':=L) (λx hx=>.inl (by simp[hx]))
 rcases h.own.2 with⟨rfl,hn,_⟩|⟨b,cap,cur,e,rfl,hb,ml,lU,bZ,tq⟩
 ·rw[List.length_eq_zero_iff.1 hn];exact .nil _ _ _
 ·have mm:=h.own.1
  refine .sl b 0 rows.length cap sz rows (λi j=>xs.getD (i*sz+j) undef) rfl ml hb.lt (h.out b e) h.row (λi j hi hj=>?_) (λi j row c hi hj=>?_)
  ·have dU:i*sz+j<xs.length:=by
    rw[mm]
    have:(i+1)*sz<=rows.length*sz:=Nat.mul_le_mul_right _ hi
    rw[Nat.add_mul] at this;omega
   rw[Nat.zero_add,hb.cell,gG,gE dU]
   simp only[Option.getD_some]
   have h2:xs[i*sz+j]?=some xs[i*sz+j]:=gE dU
   rw[<-h2,<-tq,List.getElem?_take,iP (by rw[<-mm];exact dU)]
   simp
  ·have hf:=Fl h.row hi hj
   have dU:i*sz+j<xs.length:=by rw[gB.length];exact(List.getElem?_eq_some_iff.1 hf).1
   have h2:xs[i*sz+j]?=some xs[i*sz+j]:=gE dU
   have:=gB.get h2 hf
   rw[gG,h2];exact this
theorem gO.app {P:Program} {L:List Nat} {w:World} {t ty T:TypeId} {i:TypeInfo} {sz bytes:Nat} (ht:P.underlying t=some (.slice T)) (hi:P.info? T=some i) (hz:i.zero=some z) 
  (BC:i.size=sz) (fK:i.bytes=bytes) (xI:z.cells.size=sz)
  {v:Value} {g:Option Nat} {rows:List (List C)} {xs:List Value} (h:gO L w T sz v g rows xs)
  (ab aoff m c:Nat) (new:List (List C)) (news:List Value) (hm:new.length=m) (tt:0<m) (gZ:∀row,row∈new->row.length=sz) (tl:fS w ab aoff news) (h1:∀u∈news,u.oneCell'=true)
  (hr:cS (g.toList++L) w news new.flatten) (hL:∀x,x∈L->x<w.heap.size)
  (hb:(rows.length+m)*(bytes+1)<=140737488355328):
  ∃v' g' w',(Builtin.append_ #[t,t] ty #[v,.slice (some ⟨ab,aoff,none⟩) m c]).run P w= .ok v' w'∧gO L w' T sz v' g' (rows++new) (xs++news)∧aj g.toList w w'∧
   (g'=g∨g'=some w.heap.size):=by
 have oF:news.length=m*sz:=by rw[hr.length,Yq gZ,hm]
 have aX:(rows.length+m)*bytes+(rows.length+m)<=140737488355328:=by rw[Nat.mul_add,Nat.mul_one] at hb;exact hb
 obtain⟨v',g',w',jM,dv,hk,hg⟩:=P7 (P:=P) (w:=w) (ty:=ty) ht hi hz BC fK xI h.own ab aoff m c news oF tl h1 tt (by unfold maxLen;omega) om
 refine⟨v',g',w',jM,⟨by rw[lA,hm];exact dv,?_,?_,?_⟩,hk,hg⟩
 ·have h2:=(h.rep.append hr).aF (hk.mono (L':=g.toList++L) λx hx=>by simp[hx])
  rw[List.flatten_append]
  have h3:cS (g.toList++L) w (xs++news) (rows.flatten++new.flatten):=h.rep.append hr
  rcases hg with rfl|rfl
  ·exact h2
  ·exact(h3.fresh (L':=(some w.heap.size).toList++(g.toList++L)) (λx hx=>by
    rcases mA.1 hx with hx|hx
    ·right;simp at hx;omega
    ·exact .inl hx)).aF (hk.mono λx hx=>by simp[hx]) |>.fresh (λx hx=>.inl (by
    rcases mA.1 hx with hx|hx
    ·exact List.mem_append_left _ hx
    ·exact mR _ (mR _ hx)))
 ·intro row hx
  rcases mA.1 hx with hx|hx
  ·exact h.row row hx
  ·exact gZ row hx
 ·intro b e hx
  rcases hg with rfl|rfl
  ·exact h.out b e hx
  ·have:=hL b hx
   simp at e;omega
def gate (ops:Array Oper) (e:Env):Option (Nat×Bool)->Bool
 |none=>true
 |some (j,want)=>match(ops.toList[j]?).bind (·.dst) with
  |some t=>match e t with
   | .bool b=>b==want
   |_=>false
  |none=>false
theorem Fm {n:Nat} {e:Env} {a:Act} (h:Fits n e a) (o:Oper):Region.wanted o (yielded ops a.tmps)=gate ops e o.guard:=by
 unfold Region.wanted gate
 cases hg:o.guard with
 |none=>rfl
 |some p=>
  obtain⟨j,want⟩:=p
  simp only[yielded]
  have hj:ops.toList[j]?=ops[j]?:=by simp
  rw[hj]
  cases hd:(ops[j]?).bind (·.dst) with
  |none=>cases want<;>rfl
  |some t=>
   simp only[Option.bind_some]
   have jc:=h.get t
   rw[Array.getD_eq_getD_getElem?] at jc
   cases hx:a.tmps[t]? with
   |none=>
    rw[hx] at jc
    simp only[Option.getD_none] at jc
    rw[<-jc]
    cases want<;>simp[undef]
   |some v=>
    rw[hx] at jc
    simp only[Option.getD_some] at jc
    rw[<-jc]
    cases v<;>cases want<;>first|rfl|(rename_i b;cases b<;>rfl)
section
variable {P:Program} {n:Nat} {ops:Array Oper} {K:Env->World->Prop} {rest:List Oper} {e:Env} {w w':World}
 {dst:Option Nat} {ty:TypeId} {pos:String} {after:Array Edge} {g:Option (Nat×Bool)}
theorem aZ (h:K e w):OW P n ops K [] e w:=λ_ ha _=>⟨e,ha,h⟩
theorem eQ {op:Op} (hg:gate ops e g=true) (hd:bV n dst=true) (jM:(execOp (ev e) ⟨dst,op,ty,pos,after,g⟩).run P w= .ok (.value v) w') 
  (k:OW P n ops K rest (bM e dst v) w'):OW P n ops K (⟨dst,op,ty,pos,after,g⟩::rest) e w:=λa ha Q=>by
 unfold wpList
 rw[iP (by rw[Fm ha];exact hg)]
 refine .inl ?_
 unfold Oper.wp
 rw[ha.eval,jM,Oper.upon_value]
 exact k _ (ha.bM hd v) Q
theorem H7 {op:Op} (hg:gate ops e g=true) (jM:(execOp (ev e) ⟨none,op,ty,pos,after,g⟩).run P w= .ok .skip w') 
  (k:OW P n ops K rest e w'):OW P n ops K (⟨none,op,ty,pos,after,g⟩::rest) e w:=λa ha Q=>by
 unfold wpList
 rw[iP (by rw[Fm ha];exact hg)]
 refine .inl ?_
 unfold Oper.wp
 rw[ha.eval,jM,Oper.upon_skip]
 exact k _ (ha.bM (d:=none) rfl undef) Q
theorem KX {op:Op} (hg:gate ops e g=false) (hd:bV n dst=true) (k:OW P n ops K rest (bM e dst undef) w):OW P n ops K (⟨dst,op,ty,pos,after,g⟩::rest) e w:=λa ha Q=>by
 unfold wpList
 rw[iN (by rw[Fm ha];simp[hg])]
 exact k _ (ha.bM hd undef) Q
theorem cF {op:Op} (k:OW P n ops K rest (bM e dst undef) w) (hg:gate ops e g=false:=by rfl) (hd:bV n dst=true:=by rfl):OW P n ops K (⟨dst,op,ty,pos,after,g⟩::rest) e w:=KX hg hd k
theorem P8 {args:List Value} (h:qK P f):(callFunc f args.toArray).run P w= .ok (.enter f args.toArray) w:=by
 obtain⟨fn,hf,hb,hn⟩:=h
 have DF:¬fn.name= "runtime.NumGoroutine":=by simpa using hn
 have gN:¬fn.body=none:=by intro h;simp[h] at hb
 simp[callFunc,hf,gN,DF]
theorem Yr {xs:List Operand} {ats:Array TypeId} (hg:gate ops e g=true) (hd:bV n dst=true) (h:bz P f (xs.map (ev e)) w S) 
  (k:∀v w',S v w'->OW P n ops K rest (bM e dst v) w'):OW P n ops K (⟨dst,.call {callee:=.value (.func f),args:=xs.toArray,argTypes:=ats},ty,pos,after,g⟩::rest) e w:=λa ha Q=>by
 unfold wpList
 rw[iP (by rw[Fm ha];exact hg)]
 refine .inl ?_
 unfold Oper.wp
 have jM:(execOp (ev e) ⟨dst,.call {callee:=.value (.func f),args:=xs.toArray,argTypes:=ats},ty,pos,after,g⟩).run P w= .ok (.enter f (xs.map (ev e)).toArray) w:=by
  simp only[execOp,resolve,ev,Deferred.ofValue,Sem.run_bind,Sem.run_pure,Result.andThen_ok,invoke]
  simp[P8 h.1]
 rw[ha.eval,jM,Oper.upon_enter]
 exact Calls.mono h.2 λx w' ⟨v,hx,hs⟩=>by subst hx;exact k v w' hs _ (ha.bM hd v) Q
theorem aA {xs:List Operand} {ats:Array TypeId} (h:bz P f (xs.map (ev e)) w S) (k:∀v w',S v w'->OW P n ops K rest (bM e dst v) w') (hg:gate ops e g=true:=by rfl) (hd:bV n dst=true:=by rfl):OW P n ops K (⟨dst,.call {callee:=.value (.func f),args:=xs.toArray,argTypes:=ats},ty,pos,after,g⟩::rest) e w:=Yr hg hd h k
theorem Ys (hg:gate ops e g=true) (hd:bV n dst=true) (k:OW P n ops K rest (bM e dst (ev e x)) w):OW P n ops K (⟨dst,.move x,ty,pos,after,g⟩::rest) e w:=
 eQ hg hd (by simp[execOp]) k
theorem Yt (hg:gate ops e g=true) (hd:bV n dst=true) (k:OW P n ops K rest (bM e dst (ev e x)) w):OW P n ops K (⟨dst,.assign x,ty,pos,after,g⟩::rest) e w:=
 eQ hg hd (by simp[execOp]) k
theorem P9 {c:Operand} {t:Bool} (hg:gate ops e g=true) (hd:bV n dst=true) (hc:ev e c= .bool t) (k:OW P n ops K rest (bM e dst (bif t then ev e x else ev e y)) w):
  OW P n ops K (⟨dst,.pick c x y,ty,pos,after,g⟩::rest) e w:=
 eQ hg hd (by cases t<;>simp[execOp,hc,asBool]) k
theorem Fo {a:Addr} (hg:gate ops e g=true) (hd:bV n dst=true) (hx:ev e x= .pointer (some a)) (k:OW P n ops K rest (bM e dst (.pointer (some a))) w):
  OW P n ops K (⟨dst,.nilCheck x,ty,pos,after,g⟩::rest) e w:=
 eQ hg hd (by simp[execOp,hx]) k
/-! ### p7 blocks -/
theorem Qa {T:TypeId} {cs:Array Value} (hg:gate ops e g=true) (hd:bV n dst=true) (hx:(ev e x).cells=cs) 
  (k:∀w',aj [] w w'->aJ w' w.heap.size cs T->w'.heap.size=w.heap.size+1->OW P n ops K rest (bM e dst (.pointer (some ⟨w.heap.size,0,none⟩))) w'):
  OW P n ops K (⟨dst,.box T x,ty,pos,after,g⟩::rest) e w:=
 eQ hg hd (w':=w.alloc (.cells cs T)) (by simp[execOp,Instr.box,newVar,newRow,hx]) (k _ (aj.alloc _ _ _) (aJ.alloc _ _ _) sm)
def TI (P:Program) (T:TypeId) (sz bytes:Nat) (z:Value):Prop:=(P.info? T).map (λi=>(i.zero,i.size,i.bytes))=some (some z,sz,bytes)
theorem TI.get {T:TypeId} (h:TI P T sz bytes z):∃i,P.info? T=some i∧i.zero=some z∧i.size=sz∧i.bytes=bytes:=by
 unfold TI at h
 cases hi:P.info? T with
 |none=>simp[hi] at h
 |some i=>simp[hi] at h;exact⟨i,rfl,h.1,h.2.1,h.2.2⟩
theorem TI.rD {T:TypeId} (h:TI P T sz bytes z) (w:World):(sizeOf T).run P w= .ok sz w:=by
 obtain⟨i,hi,hz,hs,hb⟩:=h.get
 simp[sizeOf,typeInfo,hi,hs]
theorem TI.KY {T:TypeId} (h:TI P T sz bytes z) (w:World):(zeroValue T).run P w= .ok z w:=by
 obtain⟨i,hi,hz,hs,hb⟩:=h.get
 simp[zeroValue,typeInfo,hi,hz]
theorem Yu {T:TypeId} {cs:Array Value} (hT:TI P T sz bytes z) (hg:gate ops e g=true) (hd:bV n dst=true) (hx:z.cells=cs) 
  (k:∀w',aj [] w w'->aJ w' w.heap.size cs T->w'.heap.size=w.heap.size+1->OW P n ops K rest (bM e dst (.pointer (some ⟨w.heap.size,0,none⟩))) w'):
  OW P n ops K (⟨dst,.alloc T,ty,pos,after,g⟩::rest) e w:=
 eQ hg hd (w':=w.alloc (.cells cs T)) (by simp[execOp,Instr.alloc,hT.KY,newVar,newRow,hx]) (k _ (aj.alloc _ _ _) (aJ.alloc _ _ _) sm)
/-! ### Addresses,loads,stores -/
def p8 (P:Program) (T:TypeId):Bool:=match P.underlying T with
 |some (.struct _)|some (.array _ _)|none=>false
 |_=>true
theorem Yv {T:TypeId} (h:p8 P T=true) (w:World):(isAgg T).run P w= .ok false w:=by
 unfold p8 at h
 cases hu:P.underlying T with
 |none=>simp[hu] at h
 |some d=>cases d<;>simp[hu] at h<;>simp[isAgg,underlying,hu]
def sj (P:Program) (T:TypeId):Bool:=match P.underlying T with
 |some (.struct _)|some (.array _ _)=>true
 |_=>false
theorem Qb {T:TypeId} (h:sj P T=true) (w:World):(isAgg T).run P w= .ok true w:=by
 unfold sj at h
 cases hu:P.underlying T with
 |none=>simp[hu] at h
 |some d=>cases d<;>simp[hu] at h<;>simp[isAgg,underlying,hu]
theorem qL (b o j:Nat):(⟨b,o,none⟩:Addr).add j=⟨b,o+j,none⟩:=by unfold Addr.add;split<;>simp_all
theorem Yw {T:TypeId} {a:Addr} (hT:p8 P T=true) (hg:gate ops e g=true) (hd:bV n dst=true) (hx:ev e x= .pointer (some a)) (hc:w.cell? a=some v) 
  (k:OW P n ops K rest (bM e dst v) w):OW P n ops K (⟨dst,.load T x,ty,pos,after,g⟩::rest) e w:=
 eQ hg hd (by simp[execOp,Instr.loadAt,Instr.sureAddr,hx,loadVar,Yv hT,hc]) k
theorem Yx {T:TypeId} {x:Operand} {b o:Nat} {vs:List Value} (hT:sj P T=true) (jN:TI P T sz bytes z) (hg:gate ops e g=true) (hd:bV n dst=true) 
  (hx:ev e x= .pointer (some ⟨b,o,none⟩)) (hc:fS w b o vs) (hl:vs.length=sz)
  (k:OW P n ops K rest (bM e dst (.agg vs.toArray)) w):OW P n ops K (⟨dst,.load T x,ty,pos,after,g⟩::rest) e w:=
 eQ hg hd (by
  have:=run_loadCells_list (P:=P) w ⟨b,o,none⟩ vs (λj v hv=>by rw[qL];exact hc j v hv)
  rw[hl] at this
  simp[execOp,Instr.loadAt,Instr.sureAddr,hx,loadVar,Qb hT,jN.rD,this]) k
theorem Yy {u:Value} (h1:v.oneCell'=true) (hc:w.cell? ⟨b,o,none⟩=some u) (hf:w.frozen? ⟨b,o,none⟩=false):(storeCells ⟨b,o,none⟩ [v]).run P w= .ok () (w.setCell ⟨b,o,none⟩ v):=by
 simp[storeCells,qL,run_store P w _ v _ h1,hc,hf]
theorem KZ {T:TypeId} {x y:Operand} {b o:Nat} {v:Value} {cs:Array Value} {U:TypeId} (jN:TI P T sz bytes z) (fC:sz=1) (hg:gate ops e g=true) 
  (hx:ev e x= .pointer (some ⟨b,o,none⟩)) (hy:ev e y=v) (h1:v.oneCell'=true) (hb:aJ w b cs U) (ho:o<cs.size)
  (k:∀w',aj [b] w w'->aJ w' b (cs.setIfInBounds o v) U->w'.heap.size=w.heap.size->OW P n ops K rest e w'):OW P n ops K (⟨none,.store T x y,ty,pos,after,g⟩::rest) e w:=
 H7 hg (w':=w.setCell ⟨b,o,none⟩ v) (by
  have hc:v.cells=#[v]:=by cases v<;>first|rfl|(simp[Value.oneCell'] at h1)
  have hs:=Yy (P:=P) (w:=w) (b:=b) (o:=o) (v:=v) (u:=cs[o]) h1 (by rw[hb.cell,Array.getElem?_eq_getElem ho]) (hb.frozen o)
  subst fC
  simp[execOp,Instr.storeAt,Instr.sureAddr,hx,hy,storeVar,hc,jN.rD,hs]) (k _ (aj.setCell _ _ _ _) (hb.set o v) (by simp[World.setCell]))
theorem Qc:∀(vs:List Value) (i:Nat) (pre:List Value) (w:World) (b:Nat) (U:TypeId) (cs:Array Value),aJ w b cs U->cs.size=pre.length+vs.length->i=pre.length->cs.toList.take i=pre->(∀u∈vs,u.oneCell'=true)->
  ∃w',(storeCells ⟨b,0,none⟩ vs i).run P w= .ok () w'∧aj [b] w w'∧aJ w' b (pre++vs).toArray U∧w'.heap.size=w.heap.size
 |[],i,pre,w,b,U,cs,hb,hs,hi,ht,_=>by
  refine⟨w,rfl,aj.refl _ _,?_,rfl⟩
  have:cs=(pre++[]).toArray:=by
   apply Array.ext'
   simp only[List.append_nil] at*
   rw[<-ht,List.take_of_length_le (by simp;simp at hs;omega)]
  rw[<-this];exact hb
 |v::vs,i,pre,w,b,U,cs,hb,hs,hi,ht,h1=>by
  have mj:i<cs.size:=by simp at hs;omega
  have aR:(store ((⟨b,0,none⟩:Addr).add i) v).run P w= .ok () (w.setCell ⟨b,i,none⟩ v):=by
   rw[qL,Nat.zero_add,run_store P w _ v _ (h1 v sm),hb.cell,Array.getElem?_eq_getElem mj,hb.frozen]
   simp
  obtain⟨w',hr,hk,gN,hz⟩:=Qc vs (i+1) (pre++[v]) (w.setCell ⟨b,i,none⟩ v) b U (cs.setIfInBounds i v) (hb.set i v) (by simp at hs⊢;omega) so
   (by
    rw[Array.toList_setIfInBounds,List.take_add_one,List.getElem?_set_self (by simpa using mj),List.take_set_of_le (lR i),ht];simp)
   (λu hu=>h1 u (by simp[hu]))
  refine⟨w',?_,(aj.setCell w b i v).trans hk,by simpa using gN,by rw[hz];simp[World.setCell]⟩
  simp only[storeCells,Sem.run_bind,aR,Result.andThen_ok]
  exact hr
theorem Yz {T:TypeId} {x y:Operand} {b:Nat} {vs:List Value} {cs:Array Value} {U:TypeId} (jN:TI P T sz bytes z) (hg:gate ops e g=true) 
  (hx:ev e x= .pointer (some ⟨b,0,none⟩)) (hy:ev e y= .agg vs.toArray) (hl:vs.length=sz) (h1:∀u∈vs,u.oneCell'=true) (hb:aJ w b cs U) (bZ:cs.size=sz)
  (k:∀w',aj [b] w w'->aJ w' b vs.toArray U->w'.heap.size=w.heap.size->OW P n ops K rest e w'):OW P n ops K (⟨none,.store T x y,ty,pos,after,g⟩::rest) e w:=by
 obtain⟨w',hr,hk,gN,hz⟩:=Qc (P:=P) vs 0 [] w b U cs hb so rfl sm h1
 exact H7 hg (w':=w') (by
  simp[execOp,Instr.storeAt,Instr.sureAddr,hx,hy,storeVar,Value.cells,jN.rD,hl,hr]) (k _ hk (by simpa using gN) hz)
def gC (P:Program) (S i:Nat):Option Nat:=match P.underlying S with
 |some (.struct fs)=>match fs[i]? with
  |some f=>match P.info? f.type with
   |some t=>if t.size=0 then none else some f.offset
   |none=>none
  |none=>none
 |_=>none
theorem YA {S:Nat} (h:gC P S i=some off):(Instr.fieldAt S (.pointer (some ⟨b,o,none⟩)) i).run P w= .ok (.pointer (some ⟨b,o+off,none⟩)) w:=by
 unfold gC at h
 cases hu:P.underlying S with
 |none=>simp[hu] at h
 |some d=>
  cases d<;>simp[hu] at h
  rename_i fs
  cases hf:fs[i]? with
  |none=>simp[hf] at h
  |some f=>
   simp only[hf] at h
   cases hi:P.info? f.type with
   |none=>simp[hi] at h
   |some t=>
    simp only[hi] at h
    by_cases hz:t.size=0
    ·simp[hz] at h
    ·simp[hz] at h
     simp[Instr.fieldAt,run_underlying hu,hf,Instr.sureAddr,fieldPlace,sizeOf,typeInfo,hi,hz,qL,h]
theorem Qd {S:Nat} (hS:gC P S i=some off) (hg:gate ops e g=true) (hd:bV n dst=true) (hx:ev e x= .pointer (some ⟨b,o,none⟩)) 
  (k:OW P n ops K rest (bM e dst (.pointer (some ⟨b,o+off,none⟩))) w):OW P n ops K (⟨dst,.fieldAddr S x i,ty,pos,after,g⟩::rest) e w:=
 eQ hg hd (by simp[execOp,hx,YA hS]) k
theorem Qe {T E:TypeId} {x y:Operand} {b o len cap i:Nat} {ki:IntKind} (hT:P.underlying T=some (.slice E)) (hE:TI P E sz bytes z) (hg:gate ops e g=true) (hd:bV n dst=true) 
  (hx:ev e x= .slice (some ⟨b,o,none⟩) len cap) (hy:ev e y= .int ki (i:Int)) (hi:i<len)
  (k:OW P n ops K rest (bM e dst (.pointer (some ⟨b,o+i*sz,none⟩))) w):OW P n ops K (⟨dst,.indexAddr T x y,ty,pos,after,g⟩::rest) e w:=
 eQ hg hd (by
  have h2:¬len<=i:=by omega
  simp[execOp,Instr.indexAt,hx,hy,asIntOf,run_underlying hT,h2,hE.rD,qL]) k
theorem Fp {T E:TypeId} {a:Option Addr} {cap:Nat} (hT:P.underlying T=some (.slice E)) (hg:gate ops e g=true) (hd:bV n dst=true) (hx:ev e x= .slice a m cap) 
  (k:OW P n ops K rest (bM e dst (.int .i64 m)) w):OW P n ops K (⟨dst,.call {callee:=.builtin .len,args:=#[x],argTypes:=#[T]},ty,pos,after,g⟩::rest) e w:=
 eQ hg hd (by
  simp[execOp,resolve,invoke,builtin,hx,Builtin.len_,run_underlying hT,goInt]) k
theorem YB {T:TypeId} {s:ByteArray} (hT:P.underlying T=some .string) (hg:gate ops e g=true) (hd:bV n dst=true) (hx:ev e x= .string s) (hm:s.size=m) 
  (k:OW P n ops K rest (bM e dst (.int .i64 m)) w):OW P n ops K (⟨dst,.call {callee:=.builtin .len,args:=#[x],argTypes:=#[T]},ty,pos,after,g⟩::rest) e w:=
 eQ hg hd (by
  simp[execOp,resolve,invoke,builtin,hx,Builtin.len_,run_underlying hT,goInt,hm]) k
theorem Qf (hg:gate ops e g=true) (hd:bV n dst=true) (hx:ev e x= .tuple vs.toArray) (hi:vs[i]?=some v) 
  (k:OW P n ops K rest (bM e dst v) w):OW P n ops K (⟨dst,.extract x i,ty,pos,after,g⟩::rest) e w:=
 eQ hg hd (by simp[execOp,Instr.extract,hx,hi]) k
end
abbrev str (l:List UInt8):Value:=.string ⟨l.toArray⟩
section
variable {P:Program} {n:Nat} {ops:Array Oper} {K:Env->World->Prop} {rest:List Oper} {e:Env} {w w':World}
 {dst:Option Nat} {ty:TypeId} {pos:String} {after:Array Edge} {g:Option (Nat×Bool)} {T T':TypeId} {x y:Operand}
theorem H8 {k:IntKind} {b:Int} (hg:gate ops e g=true) (hd:bV n dst=true) (hx:ev e x= .int k a) (hy:ev e y= .int k' b) (hk:k=k':=by rfl) 
  (c:OW P n ops K rest (bM e dst (.bool (decide (a<b)))) w):OW P n ops K (⟨dst,.binOp .lss T x y T',ty,pos,after,g⟩::rest) e w:=
 eQ hg hd (by subst hk;cases k<;>simp[execOp,eqGuard,hx,hy,binOp,Op.intCmp]) c
theorem YC {k:IntKind} {b:Int} (hg:gate ops e g=true) (hd:bV n dst=true) (hx:ev e x= .int k a) (hy:ev e y= .int k' b) (hk:k=k':=by rfl) 
  (c:OW P n ops K rest (bM e dst (.bool (decide (a<=b)))) w):OW P n ops K (⟨dst,.binOp .leq T x y T',ty,pos,after,g⟩::rest) e w:=
 eQ hg hd (by subst hk;cases k<;>simp[execOp,eqGuard,hx,hy,binOp,Op.intCmp]) c
theorem Fq {k:IntKind} {b:Int} (hg:gate ops e g=true) (hd:bV n dst=true) (hx:ev e x= .int k a) (hy:ev e y= .int k' b) (hk:k=k':=by rfl) 
  (c:OW P n ops K rest (bM e dst (.bool (decide (b<a)))) w):OW P n ops K (⟨dst,.binOp .gtr T x y T',ty,pos,after,g⟩::rest) e w:=
 eQ hg hd (by subst hk;cases k<;>simp[execOp,eqGuard,hx,hy,binOp,Op.intCmp]) c
theorem Qg {k:IntKind} {b:Int} (hg:gate ops e g=true) (hd:bV n dst=true) (hx:ev e x= .int k a) (hy:ev e y= .int k' b) (hk:k=k':=by rfl) 
  (c:OW P n ops K rest (bM e dst (.bool (decide (b<=a)))) w):OW P n ops K (⟨dst,.binOp .geq T x y T',ty,pos,after,g⟩::rest) e w:=
 eQ hg hd (by subst hk;cases k<;>simp[execOp,eqGuard,hx,hy,binOp,Op.intCmp]) c
theorem vY {k:IntKind} {b:Int} (hg:gate ops e g=true) (hd:bV n dst=true) (hx:ev e x= .int k a) (hy:ev e y= .int k' b) (hk:k=k':=by rfl) 
  (c:OW P n ops K rest (bM e dst (.bool (decide (a=b)))) w):OW P n ops K (⟨dst,.binOp .eql T x y T',ty,pos,after,g⟩::rest) e w:=
 eQ hg hd (by
  have h:(a==b)=decide (a=b):=by by_cases h:a=b<;>simp[h]
  subst hk;cases k<;>simp[execOp,eqGuard,hx,hy,binOp,Op.intCmp,h]) c
theorem H9 {k:IntKind} {b:Int} (hg:gate ops e g=true) (hd:bV n dst=true) (hx:ev e x= .int k a) (hy:ev e y= .int k' b) (hk:k=k':=by rfl) 
  (c:OW P n ops K rest (bM e dst (.bool (decide (a≠b)))) w):OW P n ops K (⟨dst,.binOp .neq T x y T',ty,pos,after,g⟩::rest) e w:=
 eQ hg hd (by
  have h:(a !=b)=decide (a≠b):=by by_cases h:a=b<;>simp[h]
  subst hk;cases k<;>simp[execOp,eqGuard,hx,hy,binOp,Op.intCmp,h]) c
theorem mX {k:IntKind} {b c:Int} (hg:gate ops e g=true) (hd:bV n dst=true) (hx:ev e x= .int k a) (hy:ev e y= .int k' b) (hk:k=k':=by rfl) (hc:k.wrap (a+b)=c) 
  (c':OW P n ops K rest (bM e dst (.int k c)) w):OW P n ops K (⟨dst,.binOp .add T x y T',ty,pos,after,g⟩::rest) e w:=
 eQ hg hd (by subst hk;cases k<;>simp[execOp,eqGuard,hx,hy,binOp,Op.intArith,hc]) c'
theorem xK {k:IntKind} {b c:Int} (hg:gate ops e g=true) (hd:bV n dst=true) (hx:ev e x= .int k a) (hy:ev e y= .int k' b) (hk:k=k':=by rfl) (hc:k.wrap (a-b)=c) 
  (c':OW P n ops K rest (bM e dst (.int k c)) w):OW P n ops K (⟨dst,.binOp .sub T x y T',ty,pos,after,g⟩::rest) e w:=
 eQ hg hd (by subst hk;cases k<;>simp[execOp,eqGuard,hx,hy,binOp,Op.intArith,hc]) c'
theorem Ia {k:IntKind} {b c:Int} (hg:gate ops e g=true) (hd:bV n dst=true) (hx:ev e x= .int k a) (hy:ev e y= .int k' b) (hk:k=k':=by rfl) (hc:k.wrap (a*b)=c) 
  (c':OW P n ops K rest (bM e dst (.int k c)) w):OW P n ops K (⟨dst,.binOp .mul T x y T',ty,pos,after,g⟩::rest) e w:=
 eQ hg hd (by subst hk;cases k<;>simp[execOp,eqGuard,hx,hy,binOp,Op.intArith,hc]) c'
theorem K0 {k:IntKind} {a:Nat} {c:Int} (hg:gate ops e g=true) (hd:bV n dst=true) (hx:ev e x= .int k (a:Int)) (hy:ev e y= .int k' (b:Int)) (hk:k=k':=by rfl) (hb:0<b) (hc:k.wrap ((a/b:Nat):Int)=c) 
  (c':OW P n ops K rest (bM e dst (.int k c)) w):OW P n ops K (⟨dst,.binOp .quo T x y T',ty,pos,after,g⟩::rest) e w:=
 eQ hg hd (by
  have h1:¬b=0:=by omega
  subst hk
  cases k<;>simp[execOp,eqGuard,hx,hy,binOp,Op.intDiv,h1]<;>(try rw[<-hc])<;>(try simp)) c'
theorem Fs {k:IntKind} {a:Nat} (hg:gate ops e g=true) (hd:bV n dst=true) (hx:ev e x= .int k (a:Int)) (hy:ev e y= .int k' (b:Int)) (hk:k=k':=by rfl) (hb:0<b) 
  (c':OW P n ops K rest (bM e dst (.int k ((a%b:Nat):Int))) w):OW P n ops K (⟨dst,.binOp .rem T x y T',ty,pos,after,g⟩::rest) e w:=
 eQ hg hd (by
  have h1:¬b=0:=by omega
  have h2:(a:Int).tmod (b:Int)=((a:Int)%(b:Int)):=Int.tmod_eq_emod_of_nonneg om
  subst hk
  cases k<;>simp[execOp,eqGuard,hx,hy,binOp,Op.intDiv,h1,h2]) c'
theorem kx {b:Bool} (hg:gate ops e g=true) (hd:bV n dst=true) (hx:ev e x= .bool b) (c:OW P n ops K rest (bM e dst (.bool (!b))) w):
  OW P n ops K (⟨dst,.unOp .not T x,ty,pos,after,g⟩::rest) e w:=
 eQ hg hd (by simp[execOp,Op.unary,hx]) c
theorem YD {a b:Bool} (hT:P.underlying T=some .bool) (hg:gate ops e g=true) (hd:bV n dst=true) (hx:ev e x= .bool a) (hy:ev e y= .bool b) 
  (c:OW P n ops K rest (bM e dst (.bool (a==b))) w):OW P n ops K (⟨dst,.binOp .eql T x y T',ty,pos,after,g⟩::rest) e w:=
 eQ hg hd (by simp[execOp,eqGuard,hx,hy,run_eql_bool w T a b hT]) c
theorem YE {a b:Bool} (hT:P.underlying T=some .bool) (hg:gate ops e g=true) (hd:bV n dst=true) (hx:ev e x= .bool a) (hy:ev e y= .bool b) 
  (c:OW P n ops K rest (bM e dst (.bool (!(a==b)))) w):OW P n ops K (⟨dst,.binOp .neq T x y T',ty,pos,after,g⟩::rest) e w:=
 eQ hg hd (by simp[execOp,eqGuard,hx,hy,run_neq_bool w T a b hT]) c
/-! ### Strings -/
theorem gV {a b:List UInt8} (hg:gate ops e g=true) (hd:bV n dst=true) (hx:ev e x=str a) (hy:ev e y=str b) (hs:a.length+b.length<=9223372036854775807) 
  (c:OW P n ops K rest (bM e dst (str (a++b))) w):OW P n ops K (⟨dst,.binOp .add T x y T',ty,pos,after,g⟩::rest) e w:=
 eQ hg hd (by
  have h1:¬(IntKind.i64.max<(a.length:Int)+(b.length:Int)):=by
   have:IntKind.i64.max=9223372036854775807:=by decide
   omega
  have h2:(⟨a.toArray⟩:ByteArray)++⟨b.toArray⟩=⟨(a++b).toArray⟩:=by
   apply ByteArray.ext;simp
  simp[execOp,eqGuard,hx,hy,binOp,Op.stringOp,ByteArray.size,h2]
  omega) c
theorem DG {a b:List UInt8} (hg:gate ops e g=true) (hd:bV n dst=true) (hx:ev e x=str a) (hy:ev e y=str b) 
  (c:OW P n ops K rest (bM e dst (.bool (decide (a=b)))) w):OW P n ops K (⟨dst,.binOp .eql T x y T',ty,pos,after,g⟩::rest) e w:=
 eQ hg hd (by
  have h:(a==b)=decide (a=b):=by by_cases h:a=b<;>simp[h]
  simp[execOp,eqGuard,hx,hy,binOp,Op.stringOp,h]) c
theorem K1 {a b:List UInt8} (hg:gate ops e g=true) (hd:bV n dst=true) (hx:ev e x=str a) (hy:ev e y=str b) 
  (c:OW P n ops K rest (bM e dst (.bool (decide (a≠b)))) w):OW P n ops K (⟨dst,.binOp .neq T x y T',ty,pos,after,g⟩::rest) e w:=
 eQ hg hd (by
  have h:(a==b)=decide (a=b):=by by_cases h:a=b<;>simp[h]
  simp[execOp,eqGuard,hx,hy,binOp,Op.stringOp,h]) c
theorem j3 {a:List UInt8} {k:IntKind} {b:UInt8} (hT:P.underlying T=some .string) (hg:gate ops e g=true) (hd:bV n dst=true) (hx:ev e x=str a) (hy:ev e y= .int k (i:Int)) (hi:a[i]?=some b) 
  (c:OW P n ops K rest (bM e dst (.int .u8 b.toNat)) w):OW P n ops K (⟨dst,.index T x y,ty,pos,after,g⟩::rest) e w:=
 eQ hg hd (by
  obtain⟨hl,he⟩:=List.getElem?_eq_some_iff.1 hi
  have hr:=run_index_string (P:=P) w T ⟨a.toArray⟩ k (i:Int) hT
  have fC:(⟨a.toArray⟩:ByteArray).size=a.length:=by simp[ByteArray.size]
  rw[dif_pos (by rw[fC];omega)] at hr
  simp only[execOp,hx,hy,Sem.run_bind,hr]
  simp only[Result.andThen_ok,Sem.run_pure,Int.toNat_natCast]
  rw[<-he];rfl) c
theorem YF {a:List UInt8} {lo hi:Option Value} {l h:Nat} (hT:P.underlying T=some .string) 
  (tu:(lo=none∧l=0)∨∃k,lo=some (.int k (l:Int))) (BD:(hi=none∧h=a.length)∨∃k,hi=some (.int k (h:Int))) (h1:l<=h) (h2:h<=a.length):
  (Instr.sliceAt T (str a) lo hi none).run P w= .ok (str ((a.drop l).take (h-l))) w:=by
 have e1:(⟨a.toArray⟩:ByteArray).extract l h=⟨((a.drop l).take (h-l)).toArray⟩:=ByteArray.extract_mk a l h
 have e2:(⟨a.toArray⟩:ByteArray).size=a.length:=by simp[ByteArray.size]
 rcases tu with⟨rfl,rfl⟩|⟨k,rfl⟩<;>rcases BD with⟨rfl,rfl⟩|⟨k',rfl⟩<;>
  simp[Instr.sliceAt,Instr.slice,run_underlying hT,Instr.sliceBounds,Instr.sliceBound,asIntOf,e2,h1,h2,e1]
theorem BE {a:List UInt8} {lo hi:Option Operand} {l h:Nat} (hT:P.underlying T=some .string) (hg:gate ops e g=true) (hd:bV n dst=true) (hx:ev e x=str a) 
  (tu:(lo.map (ev e)=none∧l=0)∨∃k,lo.map (ev e)=some (.int k (l:Int))) (BD:(hi.map (ev e)=none∧h=a.length)∨∃k,hi.map (ev e)=some (.int k (h:Int))) (h1:l<=h) (h2:h<=a.length)
  (c:OW P n ops K rest (bM e dst (str ((a.drop l).take (h-l)))) w):OW P n ops K (⟨dst,.slice T x lo hi none,ty,pos,after,g⟩::rest) e w:=
 eQ hg hd (by simp only[execOp,hx,Option.map_none,Sem.run_bind,YF hT tu BD h1 h2];rfl) c
theorem Ft {L:List Nat} {E:TypeId} {lo:Operand} {b off len cap l:Nat} {k:IntKind} (hT:P.underlying T=some (.slice E)) (hE:TI P E sz bytes z) (hg:gate ops e g=true) (hd:bV n dst=true) 
  (hx:ev e x= .slice (some ⟨b,off,none⟩) len cap) (tu:ev e lo= .int k (l:Int)) (hl:l<=len) {rows:List (List C)} (hr:bQ L w (.slice (some ⟨b,off,none⟩) len cap) (.sl sz rows))
  (c:∀v,bQ L w v (.sl sz (rows.drop l))->OW P n ops K rest (bM e dst v) w):OW P n ops K (⟨dst,.slice T x (some lo) none none,ty,pos,after,g⟩::rest) e w:=by
 have zq:len<=cap:=by cases hr with|nil=>exact Nat.zero_le _|sl _ _ _ _ _ _ _ hl hc=>exact hc
 refine eQ hg hd (v:=.slice (if cap=l then some ⟨b,off,none⟩ else some ⟨b,off+l*sz,none⟩) (len-l) (cap-l)) (w':=w) ?_ (c _ (P6 hr l hl _ (λh=>iN om) (λh=>iP om)))
 simp[execOp,Instr.sliceAt,Instr.slice,hx,tu,run_underlying hT,Instr.sliceBounds,Instr.sliceBound,asIntOf,hl,hE.rD,qL]
theorem xL {S D:TypeId} {k:IntKind} {d:TypeDesc} {c:Int} (hS:P.underlying S=some d) (hD:P.underlying D=some (.int k')) (hg:gate ops e g=true) (hd:bV n dst=true) (hx:ev e x= .int k a) (hc:k'.wrap a=c) 
  (c':OW P n ops K rest (bM e dst (.int k' c)) w):OW P n ops K (⟨dst,.convert S D x,ty,pos,after,g⟩::rest) e w:=
 eQ hg hd (by simp[execOp,convert,hx,run_underlying hS,run_underlying hD,Conv.intToInt,hc]) c'
end
theorem aJ.ext {cs:Array Value} {T:TypeId} (h:aJ w b cs T) (k:aj [] w w'):aJ w' b cs T:=h.aF k sm
theorem bQ.ext {c:C} (h:bQ L w v c) (k:aj [] w w'):bQ L w' v c:=h.aF k.any
theorem j1.ext {cs:List C} (h:j1 L w v cs) (k:aj [] w w'):j1 L w' v cs:=h.aF k.any
theorem gO.ext {T:TypeId} {rows:List (List C)} (h:gO L w T sz v g rows xs) (k:aj [] w w'):gO L w' T sz v g rows xs:=h.aF k sm
theorem aj.ext (h:aj L w0 w) (k:aj [] w w'):aj L w0 w':=h.trans k.any
theorem fS.ext (h:fS w b off vs) (k:aj [] w w'):fS w' b off vs:=λj v hj=>by
 have h1:=h j v hj
 have hb:b<w.heap.size:=World.block_lt_of_cell? w ⟨b,off+j,none⟩ h1
 exact(World.cell?_of_block (k.block b hb sm)).trans h1
theorem aJ.at {T:TypeId} (h:aJ w b vs.toArray T) (hv:vs[i]?=some v):w.cell? ⟨b,i,none⟩=some v:=by
 rw[h.cell];simpa using hv
theorem aJ.all {T:TypeId} (h:aJ w b vs.toArray T):fS w b 0 vs:=λj v hj=>by
 rw[Nat.zero_add];exact h.at hj
theorem wrap_i64 (x:Int) (h1: -9223372036854775808<=x) (h2:x<=9223372036854775807):IntKind.i64.wrap x=x:=by
 simp only[IntKind.wrap,IntKind.bits,IntKind.signed];simp;omega
theorem wrap_u8 (x:Int) (h1:0<=x) (h2:x<=255):IntKind.u8.wrap x=x:=by
 simp only[IntKind.wrap,IntKind.bits,IntKind.signed];simp;omega
theorem wrap_u64 (x:Int) (h1:0<=x) (h2:x<=18446744073709551615):IntKind.u64.wrap x=x:=by
 simp only[IntKind.wrap,IntKind.bits,IntKind.signed];simp;omega
section
variable {P:Program} {n:Nat} {ops:Array Oper} {K:Env->World->Prop} {rest:List Oper} {e:Env} {w w':World}
 {dst:Option Nat} {ty:TypeId} {pos:String} {after:Array Edge} {g:Option (Nat×Bool)} {T:TypeId} {x:Operand}
theorem YG (hg:gate ops e g=true) (hd:bV n dst=true) (hx:ev e x= .agg vs.toArray) 
  (k:∀w',aj [] w w'->aJ w' w.heap.size vs.toArray T->w'.heap.size=w.heap.size+1->OW P n ops K rest (bM e dst (.pointer (some ⟨w.heap.size,0,none⟩))) w'):
  OW P n ops K (⟨dst,.box T x,ty,pos,after,g⟩::rest) e w:=Qa hg hd (by rw[hx];rfl) k
theorem eH (hx:ev e x= .agg vs.toArray) (k:∀w',aj [] w w'->aJ w' w.heap.size vs.toArray T->w'.heap.size=w.heap.size+1->OW P n ops K rest (bM e dst (.pointer (some ⟨w.heap.size,0,none⟩))) w') (hg:gate ops e g=true:=by rfl) (hd:bV n dst=true:=by rfl):OW P n ops K (⟨dst,.box T x,ty,pos,after,g⟩::rest) e w:=YG hg hd hx k
theorem K2 (hg:gate ops e g=true) (hd:bV n dst=true) (hx:(ev e x).cells=[v].toArray) 
  (k:∀w',aj [] w w'->aJ w' w.heap.size [v].toArray T->w'.heap.size=w.heap.size+1->OW P n ops K rest (bM e dst (.pointer (some ⟨w.heap.size,0,none⟩))) w'):
  OW P n ops K (⟨dst,.box T x,ty,pos,after,g⟩::rest) e w:=Qa hg hd hx k
theorem dx (hT:TI P T sz bytes (.agg vs.toArray)) (hg:gate ops e g=true) (hd:bV n dst=true) (_:vs=vs) 
  (k:∀w',aj [] w w'->aJ w' w.heap.size vs.toArray T->w'.heap.size=w.heap.size+1->OW P n ops K rest (bM e dst (.pointer (some ⟨w.heap.size,0,none⟩))) w'):
  OW P n ops K (⟨dst,.alloc T,ty,pos,after,g⟩::rest) e w:=Yu hT hg hd rfl k
theorem uH (h:e t=v):gU e t v=e:=by grind [mW,H4]
theorem xM {b:Bool} (ht:e t= .bool b) (h1:b=true->OW P n ops K l (gU e t (.bool true)) w) (h0:b=false->OW P n ops K l (gU e t (.bool false)) w):OW P n ops K l e w:=by cases b<;>grind [uH]
theorem Fu {b:Bool} (ht:e t= .bool b) (h:OW P n ops K l (gU e t (.bool b)) w):OW P n ops K l e w:=by
 rwa [uH ht] at h
def bj (D:List Nat) (x e:Env):Env:=λt=>bif D.contains t then x t else e t
def ek (D:List Nat) (e e':Env):Prop:=∀t,D.contains t=false->e' t=e t
theorem xN {e:Env}:ek D e e:=λ_ _=>rfl
theorem Ib {e e':Env} (hd:D.contains d=true) (h:ek D e e'):ek D e (gU e' d v):=by grind [ek,gU,H4]
theorem K3 {D2:List Nat} {e e' x:Env} (hd:D2.all D.contains=true) (h:ek D e e'):ek D e (bj D2 x e'):=by grind [ek,bj]
theorem anY [Decidable p] (h:decide p=true):p:=of_decide_eq_true h
theorem anZ [Decidable p] (h:decide p=false):¬p:=of_decide_eq_false h
theorem an0 {b:Bool} (h:(!b)=true):b=false:=by simpa using h
theorem an1 {b:Bool} (h:(!b)=false):b=true:=by simpa using h
theorem xO {e e':Env} (h:ek D e e'):bj D e' e=e':=by grind [ek,bj]
theorem Oper.K4 {o:Oper} {a:Act} {w:World} {H H':Act->World->Prop} {Q Q':Exit->Act->World->Prop} (h:∀a w,H a w->H' a w) 
  (hp:∀c a w,Q (.panic c) a w->Q' (.panic c) a w) (ho:LetsOut Q->LetsOut Q') (hh:o.wp P a w H Q):o.wp P a w H' Q':=by
 unfold Oper.wp at*
 generalize(execOp a.eval o).run P w=r at*
 cases r with
 |ok n w'=>
  cases n<;>simp only[Oper.upon] at hh⊢<;>
   first
    |exact h _ _ hh
    |exact Calls.mono hh (λe w'' he=>by cases e<;>first|exact h _ _ he|exact hp _ _ _ he|exact ho he)
    |exact Rows.mono hh (λ_ _ he=>h _ _ he)
 |halt x w'=>cases x<;>simp only[Oper.upon] at hh⊢<;>first|exact hp _ _ _ hh|exact hh
theorem K5 {N:Env->World->Prop} {l2:List Oper} (k:∀e' a' w',Fits n e' a'->N e' w'->wpList P ops (pw n K Q) l2 a' w'):
  ∀(l1:List Oper) (a:Act) (w:World),wpList P ops (pw n N Q) l1 a w->wpList P ops (pw n K Q) (l1++l2) a w
 |[],a,w,h=>by
  simp only[wpList,pw] at h
  obtain⟨e',hf,hn⟩:=h
  exact k e' a w hf hn
 |o::l,a,w,h=>by
  have hl:LetsOut (pw n N Q)->LetsOut (pw n K Q):=fun⟨a,w,hq⟩=>⟨a,w,hq⟩
  simp only[List.cons_append]
  unfold wpList at h⊢
  by_cases hw:Region.wanted o (yielded ops a.tmps)=true
  ·rw[iP hw] at h⊢
   rcases h with h|⟨h1,h2⟩
   ·exact .inl (Oper.K4 (λa' w' h'=>K5 k l a' w' h') (λ_ _ _ h=>h) hl h)
   ·exact .inr ⟨h1,hl h2⟩
  ·rw[iN hw] at h⊢
   exact K5 k l _ w h
theorem vZ {l1 l2:List Oper} {N:Env->World->Prop} (h:OW P n ops N l1 e w) (k:∀e' w',N e' w'->OW P n ops K l2 e' w'):OW P n ops K (l1++l2) e w:=λa ha Q=>
 K5 (λe' a' w' hf hn=>k e' w' hn a' hf Q) l1 a w (h a ha Q)
theorem Ic {l:List Oper} (m tc tp:Nat) (D:List Nat) {c r:Bool} (J:World->Prop) (ht:e tc= .bool c) 
  (h1:c=true->OW P n ops (λe' w'=>ek D e e'∧e' tp= .bool r∧J w') (l.take m) (gU e tc (.bool true)) w)
  (h0:c=false->OW P n ops (λe' w'=>ek D e e'∧e' tp= .bool false∧J w') (l.take m) (gU e tc (.bool false)) w)
  (k:∀x w',J w'->OW P n ops K (l.drop m) (gU (bj D x e) tp (.bool (c&&r))) w'):OW P n ops K l e w:=by
 rw[<-List.take_append_drop m l]
 cases c with
 |true=>
  have h:=h1 rfl
  rw[uH ht] at h
  refine vZ h λe' w' ⟨ha,hp,hj⟩=>?_
  have:=k e' w' hj
  rw[xO ha,Bool.true_and,uH hp] at this
  exact this
 |false=>
  have h:=h0 rfl
  rw[uH ht] at h
  refine vZ h λe' w' ⟨ha,hp,hj⟩=>?_
  have:=k e' w' hj
  rw[xO ha,Bool.false_and,uH hp] at this
  exact this
theorem BF {l:List Oper} (m tc tp:Nat) (D:List Nat) {c r:Bool} (J:World->Prop) (ht:e tc= .bool c) 
  (h1:c=true->OW P n ops (λe' w'=>ek D e e'∧e' tp= .bool true∧J w') (l.take m) (gU e tc (.bool true)) w)
  (h0:c=false->OW P n ops (λe' w'=>ek D e e'∧e' tp= .bool r∧J w') (l.take m) (gU e tc (.bool false)) w)
  (k:∀x w',J w'->OW P n ops K (l.drop m) (gU (bj D x e) tp (.bool (c||r))) w'):OW P n ops K l e w:=by
 rw[<-List.take_append_drop m l]
 cases c with
 |true=>
  have h:=h1 rfl
  rw[uH ht] at h
  refine vZ h λe' w' ⟨ha,hp,hj⟩=>?_
  have:=k e' w' hj
  rw[xO ha,Bool.true_or,uH hp] at this
  exact this
 |false=>
  have h:=h0 rfl
  rw[uH ht] at h
  refine vZ h λe' w' ⟨ha,hp,hj⟩=>?_
  have:=k e' w' hj
  rw[xO ha,Bool.false_or,uH hp] at this
  exact this
theorem YH {a:List UInt8} (hT:P.underlying T=some .string) (hg:gate ops e g=true) (hd:bV n dst=true) (hx:ev e x=str a) 
  (k:OW P n ops K rest (bM e dst (.int .i64 (a.length:Nat))) w):OW P n ops K (⟨dst,.call {callee:=.builtin .len,args:=#[x],argTypes:=#[T]},ty,pos,after,g⟩::rest) e w:=
 YB hT hg hd hx (by simp[ByteArray.size]) k
theorem js {l:List (Nat×Operand)} (hb:(Instr.build T (l.map λp=>(p.1,ev e p.2)).toArray).run P w= .ok v w) (hg:gate ops e g=true) (hd:bV n dst=true) 
  (k:OW P n ops K rest (bM e dst v) w):OW P n ops K (⟨dst,.build T l.toArray,ty,pos,after,g⟩::rest) e w:=
 eQ hg hd (by simp only[execOp,List.map_toArray,Sem.run_bind,hb];rfl) k
end
theorem fZ {e:Env} {ty:Nat} {T:TypeId} (hA:sj P ty=true) (jN:TI P ty sz bytes z) (he:e t= .pointer (some ⟨b,0,none⟩)) (hb:aJ w b vs.toArray T) (hl:vs.length=sz):
  P5 P e t ty (.agg vs.toArray) w:=by
 refine⟨⟨b,0,none⟩,he,?_⟩
 have:=run_loadCells_list (P:=P) w ⟨b,0,none⟩ vs (λj v hv=>by rw[qL];exact hb.all j v hv)
 rw[hl] at this
 simp[loadVar,Qb hA,jN.rD,this]
def zZ:Nat->List Value->List (Nat×Value)
 |_,[]=>[]
 |k,v::l=>(k,v)::zZ (k+1) l
theorem mg {e e':Env} {q:Prop} (h2:p) (h3:q) (h:ek D e e':=by repeat(first|with_reducible exact xN|refine Ib rfl ?_|refine K3 rfl ?_)):ek D e e'∧p∧q:=⟨h,h2,h3⟩
theorem dn {q r:Prop} (h1:p) (h2:q) (h3:r:=by first|exact qM|exact xN):p∧q∧r:=⟨h1,h2,h3⟩
def py (F:List (Value->World->Prop)) (i:Nat):Value->World->Prop:=F.getD i (λ_ _=>True)
def Fw (F:List (Value->World->Prop)) (vs:Nat->Value) (w:World):List Nat->Prop
 |[]=>True
 |[j]=>py F j (vs j) w
 |j::r=>py F j (vs j) w∧Fw F vs w r
theorem YI {vs:Nat->Value}:∀{l:List Nat},(∀j,j∈l->py F j (vs j) w)->Fw F vs w l:=by intro x;induction x<;>grind [py,Fw]
def tw (ds:List Nat) (vs:Nat->Value):List Nat->List (Nat×Value)
 |[]=>[]
 |j::r=>(ds.getD j 0,vs j)::tw ds vs r
structure Kept (KK:World->World->Prop):Prop where
 refl:∀w,KK w w
 trans:∀{a b c},KK a b->KK b c->KK a c
 of:∀{a b},aj [] a b->KK a b
theorem lV:Kept (aj []):=⟨aj.refl _,aj.trans,id⟩
def KS (b:Nat) (cs:List Value) (T:TypeId) (w w':World):Prop:=aj [b] w w'∧(aJ w b cs.toArray T->aJ w' b cs.toArray T)∧
 ((∃us:List Value,us.length=cs.length∧aJ w b us.toArray T)->∃us:List Value,us.length=cs.length∧aJ w' b us.toArray T)
theorem cj (b:Nat) (cs:List Value) (T:TypeId):Kept (KS b cs T):=
 ⟨λ_=>⟨aj.refl _ _,id,id⟩,λh k=>⟨h.1.trans k.1,λx=>k.2.1 (h.2.1 x),λx=>k.2.2 (h.2.2 x)⟩,
  λh=>⟨h.any,λx=>x.aF h sm,fun⟨us,hl,x⟩=>⟨us,hl,x.aF h sm⟩⟩⟩
def tx (KK:World->World->Prop):List (Value->World->Prop)->Prop
 |[]=>True
 |f::r=>(∀v w w',f v w->KK w w'->f v w')∧tx KK r
theorem Qh {KK:World->World->Prop}:∀{F:List (Value->World->Prop)},tx KK F->∀f,f∈F->∀v w w',f v w->KK w w'->f v w'
 |[],_,_,h=>by cases h
 |g::r,h,f,hf=>by
  rcases mC.1 hf with rfl|hf
  ·exact h.1
  ·exact Qh h.2 f hf
theorem fu {KK:World->World->Prop} {V:Value} (h:tx KK r):tx KK ((λv _=>v=V)::r):=⟨λ_ _ _ h _=>h,h⟩
theorem BG {KK:World->World->Prop} {V:Value} (h:tx KK r):tx KK ((λv _=>c->v=V)::r):=⟨λ_ _ _ h _=>h,h⟩
theorem DH {cs:List Value} {T:TypeId} (h:tx (KS b cs T) r):tx (KS b cs T) ((λ_ w=>aJ w b cs.toArray T)::r):=⟨λ_ _ _ h k=>k.2.1 h,h⟩
theorem YJ {KK:World->World->Prop} {f:Value->World->Prop} (hf:∀v w w',f v w->KK w w'->f v w') (h:tx KK r):tx KK (f::r):=⟨hf,h⟩
theorem qM {e:Env}:ek [d] e (bM e (some d) v):=Ib sm xN
def K6 (KK:World->World->Prop) (P:Program) (n:Nat) (ops:Array Oper) (W ds:List Nat) (F:List (Value->World->Prop)) (e0:Env) (w0:World) (k:Nat) (o:Oper) (deps:List Nat):Prop:=
 ∀(x:Env) (vs:Nat->Value) (w:World) (e:Env),KK w0 w->Fw F vs w deps->e=bo (bj W x e0) (tw ds vs deps)->
  OW P n ops (λe' w'=>KK w w'∧py F k (e' (ds.getD k 0)) w'∧ek [ds.getD k 0] e e') [o] e w
def BH (KK:World->World->Prop) (P:Program) (n:Nat) (ops:Array Oper) (W ds:List Nat) (F:List (Value->World->Prop)) (e0:Env) (w0:World):Nat->List Oper->List (List Nat)->Prop
 |_,[],_=>True
 |_,_::_,[]=>True
 |k,o::l,d::r=>K6 KK P n ops W ds F e0 w0 k o d∧BH KK P n ops W ds F e0 w0 (k+1) l r
def waits (o:Oper) (j:Nat):Bool:=o.after.toList.any λe=>Region.binds .any e&&e.on==j
def uI (l:List Oper) (m:Nat) (W ds:List Nat) (deps:List (List Nat)):Bool:=
 decide (m<=l.length)&&decide (ds.length=m)&&decide (deps.length=m)&&decide (ds.Nodup)&&
 (List.range l.length).all (λk=>match l[k]? with
  |some o=>o.after.toList.all (λe=>!Region.binds .any e||decide (e.on<k))&&
   (if k<m then W.contains (ds.getD k 0)&&(deps.getD k []).all (λj=>waits o j&&decide (j<m)) else(List.range k).all (λj=>(List.range (k+1)).any λx=>decide (j<x)&&(match l[x]? with|some o'=>waits o' j|none=>false)))
  |none=>false)
theorem eh {KK:World->World->Prop} {P:Program} {n:Nat} {ops:Array Oper} {W ds:List Nat} {F:List (Value->World->Prop)} {e0:Env} {w0:World} {k:Nat} {o:Oper} {l:List Oper} {d:List Nat} {r:List (List Nat)} 
  (h:K6 KK P n ops W ds F e0 w0 k o d) (hr:BH KK P n ops W ds F e0 w0 (k+1) l r):BH KK P n ops W ds F e0 w0 k (o::l) (d::r):=⟨h,hr⟩
theorem Qi {KK:World->World->Prop} {n:Nat} {W ds:List Nat} {e0:Env}:∀(l:List Oper) (deps:List (List Nat)) (k:Nat),BH KK P n ops W ds F e0 w0 k l deps->
  ∀(i:Nat) (o:Oper) (d:List Nat),l[i]?=some o->deps[i]?=some d->K6 KK P n ops W ds F e0 w0 (k+i) o d
 |[],_,_,_,i,o,d,hi,_=>by simp at hi
 |_::_,[],_,_,i,o,d,_,hd=>by simp at hd
 |o'::l,d'::r,k,h,i,o,d,hi,hd=>by
  cases i with
  |zero=>simp at hi hd;subst hi;subst hd;exact h.1
  |succ i=>
   have:=Qi l r (k+1) h.2 i o d (by simpa using hi) (by simpa using hd)
   rw[show k+1+i=k+(i+1) from by omega] at this;exact this
theorem Fx {e:Env}:∀{l:List (Nat×Value)},(∀p,p∈l->e p.1=p.2)->bo e l=e
 |[],_=>rfl
 |p::r,h=>by
  simp only[bo,Fx (e:=e) (l:=r) (λq hq=>h q (by simp[hq]))]
  exact uH (h p sm)
theorem YK {KK:World->World->Prop} (hF:∀f,f∈F->∀v w w',f v w->KK w w'->f v w') (i:Nat) (h:py F i v w) (k:KK w w'):py F i v w':=by
 unfold py at*
 rw[gG] at*
 cases hf:F[i]? with
 |none=>simp
 |some f=>
  simp only[hf,Option.getD_some] at h⊢
  exact hF f (List.mem_of_getElem? hf) v w w' h k
section
variable {P:Program} {n:Nat} {l:List Oper} {m:Nat} {W ds:List Nat} {deps:List (List Nat)}
theorem DI (hB:uI l m W ds deps=true):m<=l.length∧ds.length=m∧deps.length=m∧ds.Nodup∧
  ∀k o,l[k]?=some o->(∀e∈o.after,Region.binds .any e=true->e.on<k)∧
   (k<m->W.contains (ds.getD k 0)=true∧∀j∈deps.getD k [],waits o j=true∧j<m)∧(m<=k->∀j,j<k->∃x o',j<x∧x<=k∧l[x]?=some o'∧waits o' j=true):=by
 simp only[uI,aE,dE] at hB
 obtain⟨⟨⟨⟨h1,h2⟩,h3⟩,h4⟩,h5⟩:=hB
 refine⟨h1,h2,h3,h4,λk o hk=>?_⟩
 have fb:k<l.length:=(List.getElem?_eq_some_iff.1 hk).1
 have:=List.all_eq_true.1 h5 k (List.mem_range.2 fb)
 simp only[hk,aE] at this
 obtain⟨ha,hb⟩:=this
 refine⟨λe he tC=>?_,λdU=>?_,λhle j hj=>?_⟩
 ·have:=List.all_eq_true.1 ha e (by simpa using he)
  simpa[tC] using this
 ·rw[iP dU] at hb
  simp only[aE,List.all_eq_true,dE] at hb
  exact⟨hb.1,λj hj=>hb.2 j hj⟩
 ·rw[iN om] at hb
  have:=List.all_eq_true.1 hb j (List.mem_range.2 hj)
  obtain⟨x,hx,fj⟩:=List.any_eq_true.1 this
  rw[List.mem_range] at hx
  simp only[aE,dE] at fj
  cases ho:l[x]? with
  |none=>rw[ho] at fj;cases fj.2
  |some o'=>rw[ho] at fj;exact⟨x,o',fj.1,om,ho,fj.2⟩
theorem K7 {o:Oper} (h:waits o j=true):∃e∈o.after,Region.binds .any e=true∧e.on=j:=by grind [waits]
def Ig (l:List Oper) (listed:Array Bool):Prop:=∀j o,l[j]?=some o->listed.getD j false=true->∀e∈o.after,Region.binds .any e=true->listed.getD e.on false=true
theorem K8 {o:Oper} {listed:Array Bool} (lW:Ig l listed) (ho:l[k]?=some o) (hr:∀e∈o.after,Region.binds .any e=true->listed.getD e.on false=true) 
  (hw:∀j,j<k->∃x o',j<x∧x<=k∧l[x]?=some o'∧waits o' j=true):∀d j,j+d=k->0<d->listed.getD j false=true:=by
 intro d
 induction d using Nat.strongRecOn with
 |_ d ih=>
  intro j hj hd
  obtain⟨x,o',h1,h2,h3,h4⟩:=hw j om
  obtain⟨e,he,hb,ky⟩:=K7 h4
  rcases Nat.lt_or_ge x k with hx|hx
  ·have:=ih (k-x) om x om om
   rw[<-ky];exact lW x o' h3 this e he hb
  ·have YL:x=k:=by omega
   subst YL
   rw[ho] at h3;cases h3
   rw[<-ky];exact hr e he hb
theorem Ih (hB:uI l m W ds deps=true) {Q:Exit->Act->World->Prop}:∀(fuel k:Nat) (listed:Array Bool) (a:Act) (w:World),m<=k->k+fuel=l.length->listed.size=l.length->
  (∀j,j<l.length->(listed.getD j true=false↔k<=j))->wpList P l.toArray Q (l.drop k) a w->wpAny P .any l.toArray Q fuel listed a w:=by
 obtain⟨_,_,_,_,mY⟩:=DI hB
 intro fuel
 induction fuel with
 |zero=>
  intro k listed a w wb hk hs hl h
  have fb:k=l.length:=by omega
  refine⟨?_,?_⟩
  ·cases hr:Region.ready .any l.toArray listed with
   |nil=>rfl
   |cons i is=>
    have hi:i∈Region.ready .any l.toArray listed:=by rw[hr];simp
    obtain⟨hu,o,ho,_⟩:=mem_ready.1 hi
    have mj:i<l.length:=by simpa using(Array.getElem?_eq_some_iff.1 ho).1
    have:=(hl i mj).1 hu
    omega
  ·rw[fb,List.drop_length] at h;exact h
 |succ fuel ih=>
  intro k listed a w wb hk hs hl h
  have fb:k<l.length:=by omega
  obtain⟨o,ho⟩:∃o,l[k]?=some o:=⟨l[k],gE fb⟩
  have zt:∀j,j<k->listed.getD j false=true:=λj hj=>by
   have h1:¬listed.getD j true=false:=λhh=>by have:=(hl j om).1 hh;omega
   rw[Array.getD_eq_getD_getElem?] at h1⊢
   have:j<listed.size:=by omega
   rw[Array.getElem?_eq_getElem this] at h1⊢
   simpa using h1
  have Qj:k∈Region.ready .any l.toArray listed:=mem_ready.2 ⟨(hl k fb).2 (lR _),o,by simpa using ho,λe he hb=>zt _ ((mY k o ho).1 e he hb)⟩
  have YM:∀i,i∈Region.ready .any l.toArray listed->i=k:=λi hi=>by
   obtain⟨hu,oi,K9,cL⟩:=mem_ready.1 hi
   have mj:i<l.length:=by simpa using(Array.getElem?_eq_some_iff.1 K9).1
   have jD:=(hl i mj).1 hu
   rcases Nat.eq_or_lt_of_le jD with he|dU
   ·exact he.symm
   ·have lW:Ig l listed:=λj o ho hj e he hb=>by
     have hjk:j<k:=by
      rcases Nat.lt_or_ge j k with h|h
      ·exact h
      ·have oz:=(List.getElem?_eq_some_iff.1 ho).1
       have h2:=(hl j oz).2 h
       rw[Array.getD_eq_getD_getElem?,Array.getElem?_eq_getElem om] at hj h2
       simp at hj h2
       rw[h2] at hj;cases hj
     have:=(mY j o ho).1 e he hb
     exact zt _ om
    have:=K8 lW (by simpa using K9) cL ((mY i oi (by simpa using K9)).2.2 om) (i-k) k om om
    have h2:=(hl k fb).2 (lR _)
    rw[Array.getD_eq_getD_getElem?] at this h2
    have BI:k<listed.size:=by omega
    rw[Array.getElem?_eq_getElem BI] at this h2
    simp at this h2
    rw[h2] at this;cases this
  refine⟨λhr=>(by rw[hr] at Qj;cases Qj),λi hi=>?_⟩
  have:=YM i hi
  subst this
  have hd:l.drop i=o::l.drop (i+1):=by
   rw[List.drop_eq_getElem_cons fb]
   congr 1
   exact(List.getElem?_eq_some_iff.1 ho).2
  rw[hd] at h
  have zu:∀j,j<l.length->((listed.setIfInBounds i true).getD j true=false↔i+1<=j):=λj hj=>by
   by_cases lX:i=j
   ·subst lX
    have:i<listed.size:=by omega
    simp[Array.getD_eq_getD_getElem?,this]
   ·rw[getD_set_ne true lX,hl j hj];omega
  unfold wpOp
  have mn:l.toArray[i]?=some o:=by simpa using ho
  simp only[mn]
  unfold wpList at h
  by_cases hw:Region.wanted o (yielded l.toArray a.tmps)=true
  ·rw[iP hw] at h⊢
   exact h.imp (λh=>Oper.wp_mono (λa' w' h'=>ih (i+1) _ a' w' om om (by simpa using hs) zu h') h) id
  ·rw[iN hw] at h⊢
   exact ih (i+1) _ _ w om om (by simpa using hs) zu h
theorem YN {KK:World->World->Prop} (BJ:Kept KK) {N:Env->World->Prop} {e0:Env} {w0:World} (hB:uI l m W ds deps=true) (hF:∀f,f∈F->∀v w w',f v w->KK w w'->f v w') 
  (hc:BH KK P n l.toArray W ds F e0 w0 0 (l.take m) deps)
  (tail:∀(x:Env) (vs:Nat->Value) (w:World),KK w0 w->(∀i,i<m->py F i (vs i) w)->OW P n l.toArray N (l.drop m) (bo (bj W x e0) (tw ds vs (List.range m))) w) (Q:Exit->Act->World->Prop):
  ∀(fuel:Nat) (listed:Array Bool) (e:Env) (a:Act) (w:World),Fits n e a->KK w0 w->ek W e0 e->listed.size=l.length->
   ((List.range l.length).filter λj=>!listed.getD j true).length=fuel->
   (∀j,m<=j->j<l.length->listed.getD j true=false)->(∀j,j<m->listed.getD j true=true->py F j (e (ds.getD j 0)) w)->Ig l listed->
   wpAny P .any l.toArray (pw n N Q) fuel listed a w:=by
 obtain⟨tE,Fy,La,iS,mY⟩:=DI hB
 have zt:∀(listed:Array Bool) (j:Nat),listed.size=l.length->j<l.length->¬listed.getD j true=false->listed.getD j false=true:=λlisted j hs hj h1=>by
  rw[Array.getD_eq_getD_getElem?] at h1⊢
  rw[Array.getElem?_eq_getElem om] at h1⊢
  simpa using h1
 have Fz:∀(listed:Array Bool) (j:Nat),listed.size=l.length->j<l.length->listed.getD j false=true->listed.getD j true=true:=λlisted j hs hj h1=>by
  rw[Array.getD_eq_getD_getElem?] at h1⊢
  rw[Array.getElem?_eq_getElem om] at h1⊢
  simpa using h1
 intro fuel
 induction fuel with
 |zero=>
  intro listed e a w hf hk ha hs BK fF jd lW
  have cL:∀j,j<l.length->listed.getD j true=true:=λj hj=>by
   cases hg:listed.getD j true with
   |true=>rfl
   |false=>
    have:j∈(List.range l.length).filter λj=>!listed.getD j true:=by rw[List.mem_filter,List.mem_range];exact⟨hj,by rw[hg];rfl⟩
    rw[List.length_eq_zero_iff.1 BK] at this;cases this
  have hm:m=l.length:=by
   rcases Nat.lt_or_ge m l.length with h|h
   ·have:=fF m (lR _) h;rw[cL m h] at this;cases this
   ·omega
  have ht:=tail e (λi=>e (ds.getD i 0)) w hk (λi hi=>jd i hi (cL i om))
  rw[xO ha,Fx (by
   intro p hp
   have:∀(r:List Nat),p∈tw ds (λi=>e (ds.getD i 0)) r->e p.1=p.2:=by
    intro r
    induction r with
    |nil=>intro h;cases h
    |cons j r ih=>
     intro h
     rcases mC.1 h with h|h
     ·subst h;rfl
     ·exact ih h
   exact this _ hp)] at ht
  have h2:=ht a hf Q
  exact Ih hB 0 m listed a w (lR _) om hs (λj hj=>⟨λh=>(by rw[cL j hj] at h;cases h),λh=>om⟩) h2
 |succ fuel ih=>
  intro listed e a w hf hk ha hs BK fF jd lW
  by_cases uJ:∀j,j<m->listed.getD j true=true
  ·have ht:=tail e (λi=>e (ds.getD i 0)) w hk (λi hi=>jd i hi (uJ i hi))
   rw[xO ha,Fx (by
    intro p hp
    have:∀(r:List Nat),p∈tw ds (λi=>e (ds.getD i 0)) r->e p.1=p.2:=by
     intro r
     induction r with
     |nil=>intro h;cases h
     |cons j r ih=>
      intro h
      rcases mC.1 h with h|h
      ·subst h;rfl
      ·exact ih h
    exact this _ hp)] at ht
   have h2:=ht a hf Q
   have zv:∀j,j<l.length->(listed.getD j true=false↔m<=j):=λj hj=>by
    constructor
    ·intro h
     rcases Nat.lt_or_ge j m with h'|h'
     ·rw[uJ j h'] at h;cases h
     ·exact h'
    ·intro h;exact fF j h hj
   have zw:m+(fuel+1)=l.length:=by
    rw[<-BK]
    have:∀k,k<=l.length->m<=k->((List.range k).filter λj=>!listed.getD j true).length=k-m:=by
     intro k
     induction k with
     |zero=>intro _ h;simp
     |succ k ihk=>
      intro fb wb
      rw[List.range_succ,List.filter_append,lA]
      rcases Nat.lt_or_ge k m with h'|h'
      ·have Qk:k+1=m:=by omega
       have hz:((List.range k).filter λj=>!listed.getD j true)=[]:=by
        rw[List.filter_eq_nil_iff]
        intro j hj
        rw[List.mem_range] at hj
        rw[uJ j om];simp
       have e1:(!listed.getD k true)=false:=by rw[uJ k h'];rfl
       simp only[hz,List.filter_cons,e1,List.filter_nil,List.length_nil]
       simp;omega
      ·rw[ihk om h']
       have e1:(!listed.getD k true)=true:=by rw[(zv k om).2 h'];rfl
       simp only[List.filter_cons,e1,List.filter_nil,if_true,lC,List.length_nil]
       omega
    have:=this l.length (lR _) tE
    omega
   exact Ih hB (fuel+1) m listed a w (lR _) zw hs zv h2
  ·have hex:∃j,j<m∧listed.getD j true=false∧∀i,i<j->listed.getD i true=true:=by
    have:∀k,(∃j,j<k∧listed.getD j true=false∧∀i,i<j->listed.getD i true=true)∨∀j,j<k->listed.getD j true=true:=by
     intro k
     induction k with
     |zero=>right;intro j hj;omega
     |succ k ihk=>
      rcases ihk with⟨j,hj,h1,h2⟩|h
      ·exact .inl ⟨j,om,h1,h2⟩
      ·cases hg:listed.getD k true with
       |false=>exact .inl ⟨k,om,hg,h⟩
       |true=>
        right
        intro j hj
        rcases Nat.lt_or_ge j k with h'|h'
        ·exact h j h'
        ·rw[show j=k from by omega];exact hg
    rcases this m with h|h
    ·exact h
    ·exact absurd h uJ
   obtain⟨j0,BL,FB,FC⟩:=hex
   obtain⟨o0,FD⟩:∃o,l[j0]?=some o:=⟨l[j0]'om,gE om⟩
   have mZ:j0∈Region.ready .any l.toArray listed:=mem_ready.2 ⟨FB,o0,by simpa using FD,λed he hb=>by
    have dU:=(mY j0 o0 FD).1 ed he hb
    exact zt listed _ hs om (by rw[FC _ dU];simp)⟩
   refine⟨λhr=>(by rw[hr] at mZ;cases mZ),λi hi=>?_⟩
   obtain⟨hu,o,ho,cL⟩:=mem_ready.1 hi
   have mj:i<l.length:=by simpa using(Array.getElem?_eq_some_iff.1 ho).1
   have mn:l[i]?=some o:=by simpa using ho
   have qN:i<m:=by
    rcases Nat.lt_or_ge i m with h|h
    ·exact h
    ·have:=Fz listed j0 hs om (K8 lW mn cL ((mY i o mn).2.2 h) (i-j0) j0 om om)
     rw[FB] at this;cases this
   obtain⟨hW,zy⟩:=(mY i o mn).2.1 qN
   obtain⟨dp,zz⟩:∃d,deps[i]?=some d:=⟨deps[i]'om,gE om⟩
   have FE:deps.getD i []=dp:=by rw[gG,zz];rfl
   rw[FE] at zy
   have iI:=Qi (l.take m) deps 0 hc i o dp (by rw[List.getElem?_take,iP qN];exact mn) zz
   rw[Nat.zero_add] at iI
   have h1:=iI e (λj=>e (ds.getD j 0)) w _ hk (YI λj hj=>by
    obtain⟨YO,BM⟩:=zy j hj
    obtain⟨ed,he,hb,uK⟩:=K7 YO
    exact jd j BM (Fz listed j hs om (by rw[<-uK];exact cL ed he hb))) rfl
   rw[xO ha,Fx (by
    intro p hp
    have:∀(r:List Nat),p∈tw ds (λi=>e (ds.getD i 0)) r->e p.1=p.2:=by
     intro r
     induction r with
     |nil=>intro h;cases h
     |cons j r ih=>
      intro h
      rcases mC.1 h with h|h
      ·subst h;rfl
      ·exact ih h
    exact this _ hp)] at h1
   have h2:=h1 a hf Q
   have next:∀(a':Act) (w':World),pw n (λe' w'=>KK w w'∧py F i (e' (ds.getD i 0)) w'∧ek [ds.getD i 0] e e') Q .normal a' w'->
     wpAny P .any l.toArray (pw n N Q) fuel (listed.setIfInBounds i true) a' w':=λa' w' hq=>by
    obtain⟨e',Lb,pz,Lc,p9⟩:=hq
    refine ih _ e' a' w' Lb (BJ.trans hk pz) ?_ (by simpa using hs) ?_ ?_ ?_ ?_
    ·intro t ht
     have dL:t≠ds.getD i 0:=λhe=>by rw[he,hW] at ht;cases ht
     rw[p9 t (by simpa using dL)];exact ha t ht
    ·have zw:∀k,k<=l.length->((List.range k).filter λj=>!(listed.setIfInBounds i true).getD j true).length+(if i<k then 1 else 0)=((List.range k).filter λj=>!listed.getD j true).length:=by
      intro k
      induction k with
      |zero=>simp
      |succ k ihk=>
       intro fb
       have uL:=ihk om
       rw[List.range_succ,List.filter_append,lA,List.filter_append,lA]
       by_cases uM:i=k
       ·subst uM
        rw[iN om] at uL
        have dU:i<listed.size:=by omega
        have e1:(listed.setIfInBounds i true).getD i true=true:=by simp[Array.getD_eq_getD_getElem?,dU]
        rw[iP om]
        simp only[List.filter_cons,e1,hu,List.filter_nil,Bool.not_true,Bool.not_false,if_true,Bool.false_eq_true,if_false,lC,List.length_nil]
        omega
       ·have e1:(listed.setIfInBounds i true).getD k true=listed.getD k true:=getD_set_ne true uM
        simp only[List.filter_cons,e1,List.filter_nil]
        have YP:(i<k+1)↔(i<k):=by omega
        by_cases px:i<k
        ·have c1:i<k+1:=by omega
         rw[iP px] at uL;rw[iP c1];split<;>simp only[lC,List.length_nil]<;>omega
        ·have c1:¬i<k+1:=by omega
         rw[iN px] at uL;rw[iN c1];split<;>simp only[lC,List.length_nil]<;>omega
     have:=zw l.length (lR _)
     rw[iP mj] at this
     omega
    ·intro j Ld oz
     rw[getD_set_ne true om];exact fF j Ld oz
    ·intro j BM hj
     by_cases lX:i=j
     ·subst lX;exact Lc
     ·rw[getD_set_ne true lX] at hj
      have dL:ds.getD j 0≠ds.getD i 0:=by
       rw[gG,gG,gE om,gE om]
       simp only[Option.getD_some]
       intro he
       exact lX ((List.getElem_inj iS).1 he.symm)
      rw[p9 _ (by simpa using dL)]
      exact YK hF j (jd j BM hj) pz
    ·intro j oj BN hj e2 mo aU
     have we:∀x,listed.getD x false=true->(listed.setIfInBounds i true).getD x false=true:=λx hx=>by
      by_cases FF:i=x
      ·subst FF
       have:i<listed.size:=by omega
       simp[Array.getD_eq_getD_getElem?,this]
      ·rw[getD_set_ne false FF];exact hx
     by_cases lX:i=j
     ·subst lX
      rw[mn] at BN;cases BN
      exact we _ (cL e2 mo aU)
     ·rw[getD_set_ne false lX] at hj
      exact we _ (lW j oj BN hj e2 mo aU)
   unfold wpOp
   simp only[ho]
   unfold wpList at h2
   by_cases hw:Region.wanted o (yielded l.toArray a.tmps)=true
   ·rw[iP hw] at h2⊢
    rcases h2 with h2|⟨h2,h3⟩
    ·refine .inl (Oper.K4 (λa' w' h'=>next a' w' h') (λ_ _ _ h=>h) (fun⟨a,w,hq⟩=>⟨a,w,hq⟩) h2)
    ·exact .inr ⟨h2,by obtain⟨a',w',hq⟩:=h3;exact⟨a',w',hq⟩⟩
   ·rw[iN hw] at h2⊢
    exact next _ _ h2
theorem zB {N R:Env->World->Prop} {X:Nat->Env->World->Prop} {id:Nat} {e0:Env} {w0:World} (hm:P.follows .mixedOrders=true) {KK:World->World->Prop} (BJ:Kept KK) (m:Nat) (W ds:List Nat) (deps:List (List Nat)) (F:List (Value->World->Prop)) 
  (hB:uI l m W ds deps=true) (hF:tx KK F)
  (hc:∀wd,KK w0 wd->BH KK P n l.toArray W ds F e0 wd 0 (l.take m) deps)
  (tail:∀(x:Env) (vs:Nat->Value) (w:World),KK w0 w->(∀i,i<m->py F i (vs i) w)->OW P n l.toArray N (l.drop m) (bo (bj W x e0) (tw ds vs (List.range m))) w):
  CW P n (.region id l.toArray true) N R X e0 w0:=λa ha=>by
 refine wp_region_any hm ?_
 have fT:aj [] w0 {w0 with drawn:=w0.drawn+1}:=aj.drew _ _
 have:=YN BJ (N:=N) (e0:=e0) (w0:={w0 with drawn:=w0.drawn+1}) hB (Qh hF) (hc _ (BJ.of fT)) (λx vs w hk=>tail x vs w (BJ.trans (BJ.of fT) hk)) (kR n N R X) l.length (Array.replicate l.length false) e0 a _ ha (BJ.refl _) xN sm
  (by
   have:((List.range l.length).filter λj=>!(Array.replicate l.length false).getD j true)=List.range l.length:=by
    rw[List.filter_eq_self]
    intro j hj
    rw[List.mem_range] at hj
    simp[Array.getD_eq_getD_getElem?,hj]
   rw[this];simp)
  (by intro j _ hj;simp[Array.getD_eq_getD_getElem?,hj])
  (by
   intro j hj h
   have:=(DI hB).1
   have pA:j<l.length:=by omega
   simp[Array.getD_eq_getD_getElem?,pA] at h)
  (by
   intro j o ho hj
   have pA:j<l.length:=(List.getElem?_eq_some_iff.1 ho).1
   simp[Array.getD_eq_getD_getElem?,pA] at hj)
 have e1:pw n N (kR n N R X)=kR n N R X:=by
  funext x a w;cases x<;>rfl
 rw[e1] at this
 simpa using this
end
abbrev ai:=List UInt8
inductive aq where
 |mk (aw:ai) (ak:List aq)
def aq.aw:aq->ai| .mk a _=>a
def aq.ak:aq->List aq| .mk _ p=>p
def eT (c:UInt8):Bool:=(97<=c&&c<=122)||(48<=c&&c<=57)||c==43||c==45||c==42||c==62
theorem Ql (c:UInt8):((((((decide ((97:Int)<=c.toNat)&&decide ((c.toNat:Int)<=122))||(decide ((48:Int)<=c.toNat)&&decide ((c.toNat:Int)<=57)))||decide ((c.toNat:Int)=43))||decide ((c.toNat:Int)=45))||decide ((c.toNat:Int)=42))||decide ((c.toNat:Int)=62))=eT c:=by
 have e1:∀k:UInt8,decide (k<=c)=decide ((k.toNat:Int)<=c.toNat):=λk=>by simp[UInt8.le_iff_toNat_le]
 have e2:∀k:UInt8,decide (c<=k)=decide ((c.toNat:Int)<=k.toNat):=λk=>by simp[UInt8.le_iff_toNat_le]
 have e3:∀k:UInt8,(c==k)=decide ((c.toNat:Int)=k.toNat):=λk=>by
  rw[Bool.eq_iff_iff];simp[<-UInt8.toNat_inj];omega
 unfold eT
 rw[e1,e2,e1,e2,e3,e3,e3,e3]
 rfl
def iu (rd:ai->Option (aq×ai)):Nat->ai->Option (List aq×ai)
 |0,_=>none
 |n+1,s=>match rd s with
  |none=>none
  |some (t,r)=>match r with
   |[]=>none
   |c::r'=>if c=41 then some ([t],r') else if c=32 then(iu rd n r').map λp=>(t::p.1,p.2) else none
def ei:Nat->ai->Option (aq×ai)
 |0,s=>match s with
  |[]=>none
  |c::_=>if c=40 then none else if s.takeWhile eT=[] then none else some (.mk (s.takeWhile eT) [],s.dropWhile eT)
 |d+1,s=>match s with
  |[]=>none
  |c::r=>if c=40 then(iu (ei d) (r.length+1) r).map λp=>(.mk [] p.1,p.2)
   else if s.takeWhile eT=[] then none else some (.mk (s.takeWhile eT) [],s.dropWhile eT)
def Ii (rd:ai->Option (aq×ai)):Prop:=∀s t r,rd s=some (t,r)->∃k,0<k∧k<=s.length∧r=s.drop k
theorem FG (p:UInt8->Bool):∀s:ai,s.dropWhile p=s.drop (s.takeWhile p).length:=by intro x;induction x<;>grind [List.dropWhile,List.takeWhile]
theorem FH (p:UInt8->Bool) (s:ai):(s.takeWhile p).length<=s.length:=by induction s<;>grind [List.takeWhile]
theorem Qm {rd:ai->Option (aq×ai)} (eI:Ii rd):∀n s ts r,iu rd n s=some (ts,r)->∃k,0<k∧k<=s.length∧r=s.drop k∧ts.length<=k
 |0,_,_,_,h=>by simp[iu] at h
 |n+1,s,ts,r,h=>by
  unfold iu at h
  cases hr:rd s with
  |none=>simp[hr] at h
  |some p=>
   obtain⟨t,r1⟩:=p
   obtain⟨k,fT,fb,rfl⟩:=eI s t r1 hr
   simp only[hr] at h
   cases hd:s.drop k with
   |nil=>simp[hd] at h
   |cons c r'=>
    simp only[hd] at h
    have rE:r'=s.drop (k+1):=by rw[<-List.drop_drop,hd];rfl
    have YQ:k+1<=s.length:=by
     have:=congrArg List.length hd
     simp at this;omega
    by_cases h1:c=41
    ·rw[iP h1] at h
     simp at h
     exact⟨k+1,om,YQ,by rw[<-h.2,rE],by rw[<-h.1];simp⟩
    ·rw[iN h1] at h
     by_cases h2:c=32
     ·rw[iP h2] at h
      cases hp:iu rd n r' with
      |none=>simp[hp] at h
      |some q=>
       obtain⟨ts',r''⟩:=q
       simp[hp] at h
       obtain⟨k',YR,Le,uN,nP⟩:=Qm eI n r' ts' r'' hp
       refine⟨k+1+k',om,?_,?_,?_⟩
       ·have:=congrArg List.length rE
        simp at this;omega
       ·rw[<-h.2,uN,rE,List.drop_drop]
       ·rw[<-h.1];simp;omega
     ·rw[iN h2] at h;cases h
theorem Ij:∀d,Ii (ei d)
 |0,s,t,r,h=>by
  cases s with
  |nil=>simp[ei] at h
  |cons c s=>
   simp only[ei] at h
   by_cases h1:c=40
   ·rw[iP h1] at h;cases h
   ·rw[iN h1] at h
    by_cases h2:(c::s).takeWhile eT=[]
    ·rw[iP h2] at h;cases h
    ·rw[iN h2] at h
     simp only[Option.some.injEq,Prod.mk.injEq] at h
     refine⟨((c::s).takeWhile eT).length,?_,FH _ _,by rw[<-h.2,FG]⟩
     exact List.length_pos_iff.2 h2
 |d+1,s,t,r,h=>by
  cases s with
  |nil=>simp[ei] at h
  |cons c s=>
   simp only[ei] at h
   by_cases h1:c=40
   ·rw[iP h1] at h
    cases hp:iu (ei d) (s.length+1) s with
    |none=>simp[hp] at h
    |some q=>
     obtain⟨ts',r''⟩:=q
     simp[hp] at h
     obtain⟨k',YR,Le,uN,_⟩:=Qm (Ij d) _ s ts' r'' hp
     exact⟨k'+1,om,by simp;omega,by rw[<-h.2,uN];rfl⟩
   ·rw[iN h1] at h
    by_cases h2:(c::s).takeWhile eT=[]
    ·rw[iP h2] at h;cases h
    ·rw[iN h2] at h
     simp only[Option.some.injEq,Prod.mk.injEq] at h
     refine⟨((c::s).takeWhile eT).length,?_,FH _ _,by rw[<-h.2,FG]⟩
     exact List.length_pos_iff.2 h2
theorem Qn {rd:ai->Option (aq×ai)} (eI:Ii rd):∀n m s,s.length<n->s.length<m->iu rd n s=iu rd m s
 |0,_,_,h,_=>by omega
 |_+1,0,_,_,h=>by omega
 |n+1,m+1,s,hn,hm=>by
  unfold iu
  cases hr:rd s with
  |none=>rfl
  |some p=>
   obtain⟨t,r1⟩:=p
   obtain⟨k,fT,fb,rfl⟩:=eI s t r1 hr
   simp only
   cases hd:s.drop k with
   |nil=>rfl
   |cons c r'=>
    simp only
    have hl:r'.length+1+k=s.length:=by
     have:=congrArg List.length hd
     simp at this;omega
    rw[Qn eI n m r' om om]
def rT (d:Nat) (s:ai):Option (aq×ai):=match d with
 |0=>none
 |d+1=>ei d s
theorem Lf:∀d,Ii (rT d)
 |0=>λs t r h=>by simp[rT] at h
 |d+1=>Ij d
def mq (d:Nat) (s:ai):Option (List aq×ai):=iu (rT d) (s.length+1) s
theorem FI (d:Nat) (s:ai):mq d s=match rT d s with
  |none=>none
  |some (t,r)=>match r with
   |[]=>none
   |c::r'=>if c=41 then some ([t],r') else if c=32 then(mq d r').map λp=>(t::p.1,p.2) else none:=by
 unfold mq
 conv=>lhs;unfold iu
 cases hr:rT d s with
 |none=>rfl
 |some p=>
  obtain⟨t,r1⟩:=p
  obtain⟨k,fT,fb,rfl⟩:=Lf d s t r1 hr
  simp only
  cases hd:s.drop k with
  |nil=>rfl
  |cons c r'=>
   simp only
   have hl:r'.length+1+k=s.length:=by
    have:=congrArg List.length hd
    simp at this;omega
   rw[Qn (Lf d) s.length (r'.length+1) r' om om]
theorem YS:∀n s,iu (rT 0) n s=none
 |0,_=>rfl
 |n+1,s=>by simp[iu,rT]
theorem DJ (d:Nat) (r:ai):ei d (40::r)=(mq d r).map λp=>(.mk [] p.1,p.2):=by
 cases d with
 |zero=>simp[ei,mq,YS]
 |succ d=>simp[ei,mq];rfl
theorem FJ (d:Nat) (c:UInt8) (r:ai) (h:c≠40):ei d (c::r)=if(c::r).takeWhile eT=[] then none else some (.mk ((c::r).takeWhile eT) [],(c::r).dropWhile eT):=by
 cases d<;>simp[ei,h]
theorem Qo (d:Nat):ei d []=none:=by cases d<;>rfl
theorem drop_cons {α:Type} {s:List α} {c:α} (h:s[i]?=some c):s.drop i=c::s.drop (i+1):=by grind [List.getElem?_eq_some_iff,List.drop_eq_getElem_cons]
theorem Qp (p:UInt8->Bool):∀(s:ai) (k:Nat),k<=(s.takeWhile p).length->(k<(s.takeWhile p).length↔k<s.length∧p (s.getD k 0)=true):=by intro x;induction x<;>grind [List.takeWhile,lC,List.getD_cons_succ]
theorem je {s:ai} (h:k<s.length):s[k]?=some (s.getD k 0):=by grind
theorem Ik (p:UInt8->Bool) (s:ai):s.take (s.takeWhile p).length=s.takeWhile p:=by induction s<;>grind [List.takeWhile]
theorem YT (s:ai) (i k:Nat):(s.drop i).getD k 0=s.getD (i+k) 0:=by grind
theorem YU (s:ai) (uM:i<=k) (h:k-i<=((s.drop i).takeWhile eT).length):k-i<((s.drop i).takeWhile eT).length↔k<s.length∧eT (s.getD k 0)=true:=by grind [Qp,YT]
def BO (n:Nat) (o:Option (aq×ai)) (t:aq) (en:Int):Prop:=match o with
 |some (t',r)=>t=t'∧en=((n-r.length:Nat):Int)
 |none=>en= -1
theorem YV {s:ai} {t:aq} {en:Int} (hm:BO s.length (rT d (s.drop k)) t en) (he:en<0∨(s.length:Int)<=en) (hs:0<s.length):mq d (s.drop k)=none:=by grind [FI,BO,rT]
theorem YW {s:ai} {t:aq} {en:Int} (hm:BO s.length (rT d (s.drop k)) t en) (h0:0<=en) (h1:en<s.length):
  ∃m:Nat,en=m∧k<m∧m<s.length∧mq d (s.drop k)=(if s.getD m 0=41 then some ([t],s.drop (m+1)) else if s.getD m 0=32 then(mq d (s.drop (m+1))).map λp=>(t::p.1,p.2) else none):=by
 rw[FI]
 unfold BO at hm
 cases hr:rT d (s.drop k) with
 |none=>rw[hr] at hm;omega
 |some p=>
  obtain⟨t',r⟩:=p
  rw[hr] at hm
  obtain⟨rfl,h2⟩:=hm
  obtain⟨j,BL,oz,rfl⟩:=Lf d _ _ _ hr
  rw[List.length_drop] at oz
  rw[List.drop_drop,List.length_drop] at h2
  have dU:k+j<s.length:=by omega
  refine⟨k+j,om,om,dU,?_⟩
  simp only[List.drop_drop]
  rw[drop_cons (je dU)]
theorem map_append {o:Option (List aq×ai)} {a:List aq} {t:aq}:(o.map λp=>(t::p.1,p.2)).map (λp=>(a++p.1,p.2))=o.map λp=>((a++[t])++p.1,p.2):=by
 cases o<;>simp
def bA (s:ai):Option aq:=
 if 12000<s.length then none else match ei 60 s with
  |some (t,[])=>some t
  |_=>none
theorem YX {s:ai} {t:aq} {en:Int} (hl:s.length<=12000) (hm:BO s.length (rT 61 (s.drop 0)) t en):decide (en=(s.length:Int))=(bA s).isSome∧∀t',bA s=some t'->t=t':=by
 have e:rT 61 (s.drop 0)=ei 60 s:=rfl
 rw[e] at hm
 unfold BO at hm
 unfold bA
 rw[iN om]
 cases hr:ei 60 s with
 |none=>
  rw[hr] at hm
  refine⟨?_,λt' h=>by cases h⟩
  simp only[Option.isSome_none,decide_eq_false_iff_not]
  simp only at hm;omega
 |some p=>
  obtain⟨t',r⟩:=p
  rw[hr] at hm
  obtain⟨rfl,h2⟩:=hm
  obtain⟨k,fT,fb,YY⟩:=Ij 60 s _ _ hr
  cases r with
  |nil=>
   refine⟨?_,λt' h=>by simpa using h⟩
   simp at h2⊢;exact h2
  |cons c r'=>
   refine⟨?_,λt' h=>by cases h⟩
   have hlen:=congrArg List.length YY
   simp only[lC,List.length_drop] at hlen h2
   simp only[Option.isSome_none,decide_eq_false_iff_not]
   omega
mutual
def aq.text:aq->ai
 | .mk a ps=>if a=[] then 40::(kT ps++[41]) else a
def kT:List aq->ai
 |[]=>[]
 |t::ts=>match ts with
  |[]=>t.text
  |_::_=>t.text++32::kT ts
end
mutual
def aq.enc:aq->List C
 | .mk a ps=>[.val (str a),.sl 2 (cT ps)]
def cT:List aq->List (List C)
 |[]=>[]
 |t::ts=>t.enc::cT ts
end
theorem zC:∀ps,cT ps=ps.map aq.enc:=by intro x;induction x<;>grind [cT]
theorem ia (ps:List aq):(cT ps).length=ps.length:=by simp[zC]
theorem oG:∀t:aq,t.enc.length=2
 | .mk _ _=>by simp[aq.enc]
theorem YZ (ps:List aq):∀row,row∈cT ps->row.length=2:=by grind [zC,oG]
theorem Lg (a b:List aq):cT (a++b)=cT a++cT b:=by simp[zC]
theorem Lh {ps:List aq} {t:aq} (h:ps[i]?=some t):(cT ps)[i]?=some t.enc:=by grind [zC]
theorem Qq (ps:List aq) (i:Nat):cT (ps.drop i)=(cT ps).drop i:=by simp[zC,List.map_drop]
def bB (L:List Nat) (w:World) (v:Value) (t:aq):Prop:=j1 L w v t.enc
theorem bB.ext {t:aq} (h:bB L w v t) (k:aj [] w w'):bB L w' v t:=j1.ext h k
def eM (L:List Nat) (w:World) (v:Value) (ts:List aq):Prop:=bQ L w v (.sl 2 (cT ts))
theorem eM.ext {t:List aq} (h:eM L w v t) (k:aj [] w w'):eM L w' v t:=bQ.ext h k
theorem cU {t:aq} (h:bB L w v t):∃a n c,v= .agg #[str t.aw,.slice a n c]∧n=t.ak.length∧eM L w (.slice a n c) t.ak:=by
 obtain⟨vs,rfl,hr⟩:=h
 cases t with
 |mk at_ ps=>
  rw[aq.enc] at hr
  match vs,hr with
  |[v0,v1],hr=>
   obtain⟨h0,h1,_⟩:=hr
   cases h0
   obtain⟨a,c,rfl,hc⟩:=rC h1
   exact⟨a,_,c,rfl,ia ps,h1⟩
  |[],hr=>exact hr.elim
  |[_],hr=>exact hr.2.elim
  |_::_::_::_,hr=>exact hr.2.2.elim
theorem kU {a:ai} {ps:List aq} (h:eM L w v ps):bB L w (.agg #[str a,v]) (.mk a ps):=
 ⟨[str a,v],rfl,by rw[aq.enc];exact⟨.val _,h,trivial⟩⟩
theorem kV {t:aq} (h:eM L w v t.ak):bB L w (.agg #[str t.aw,v]) t:=by
 cases t;exact kU h
theorem oH:eM L w (.slice none 0 0) []:=by unfold eM;rw[cT];exact .nil _ _ _
theorem iJ {a:Option Addr} {n c:Nat} {ts:List aq} {t:aq} (h:eM L w (.slice a n c) ts) (hi:ts[i]?=some t):
  ∃b off pa pn pc,a=some ⟨b,off,none⟩∧fS w b (off+i*2) [str t.aw,.slice pa pn pc]∧pn=t.ak.length∧eM L w (.slice pa pn pc) t.ak:=by
 obtain⟨b,off,vs,ha,hb,hL,hl,hc,hr⟩:=zn h (Lh hi)
 obtain⟨pa,pn,pc,he,hn,hp⟩:=cU (t:=t) ⟨vs,rfl,hr⟩
 have hv:vs=[str t.aw,.slice pa pn pc]:=by
  have:=congrArg (λv=>match v with|Value.agg x=>x.toList|_=>[]) he
  simpa using this
 subst hv
 exact⟨b,off,pa,pn,pc,ha,hc,hn,hp⟩
theorem aJ.aD {cs:Array Value} {T:TypeId} (h:aJ w b cs T) (k:aj L w w') (hb:b∉L):aJ w' b cs T:=h.aF k hb
theorem bQ.aD {c:C} (h:bQ L w v c) (k:aj L' w w') (hL:∀x,x∈L'->x∈L):bQ L w' v c:=h.aF (k.mono hL)
theorem bB.aD {t:aq} (h:bB L w v t) (k:aj L' w w') (hL:∀x,x∈L'->x∈L):bB L w' v t:=j1.aF h (k.mono hL)
theorem eM.aD {t:List aq} (h:eM L w v t) (k:aj L' w w') (hL:∀x,x∈L'->x∈L):eM L w' v t:=bQ.aF h (k.mono hL)
theorem gO.aD {T:TypeId} {rows:List (List C)} (h:gO L w T sz v g rows xs) (k:aj L' w w') (hL:∀x,x∈L'->x∈L):gO L w' T sz v g rows xs:=h.aF k hL
theorem aj.aD (h:aj L w0 w) (k:aj L' w w') (hL:∀x,x∈L'->x∈L∨w0.heap.size<=x):aj L w0 w':=h.since k hL
theorem zD:∀x,x∈w.heap.size::L->x∈L∨w.heap.size<=x:=by grind
theorem aJ.grow {cs:Array Value} {T:TypeId} (h:aJ w b cs T):aJ w b cs T:=h
theorem aj.grow (h:aj L w w'):aj L w w':=h
theorem bB.grow {t:aq} (h:bB L w v t):bB (w.heap.size::L) w v t:=j1.fresh h zD
theorem eM.grow {t:List aq} (h:eM L w v t):eM (w.heap.size::L) w v t:=bQ.fresh h zD
theorem gO.grow {T:TypeId} {rows:List (List C)} (h:gO L w T sz v g rows xs):gO (w.heap.size::L) w T sz v g rows xs:=h.more zD
theorem gO.alloc {T:TypeId} {rows:List (List C)} (h:gO L w T sz v g rows xs) (k:aj [] w w') (_:w'.heap.size=w.heap.size+1):gO (w.heap.size::L) w' T sz v g rows xs:=h.grow.ext k
theorem bB.kj {x y:Value} {t:aq} (h:bB L w (.agg #[x,y]) t):cS L w [x,y] t.enc:=by
 obtain⟨vs,he,hr⟩:=h
 have hv:vs=[x,y]:=by
  have:=congrArg (λv=>match v with|Value.agg x=>x.toList|_=>[]) he
  simpa using this.symm
 rw[<-hv];exact hr
theorem Qr {A B:List Nat}:∀x,x∈A++(b::B)->x∈b::(A++B):=by grind
section
variable {P:Program} {n:Nat} {ops:Array Oper} {K:Env->World->Prop} {rest:List Oper} {e:Env} {w w':World}
 {dst:Option Nat} {ty:TypeId} {pos:String} {after:Array Edge} {g:Option (Nat×Bool)} {T:TypeId} {x y:Operand}
theorem Y0 {vs:List Value} {U:TypeId} (jN:TI P T 1 bytes z) (hg:gate ops e g=true) (hx:ev e x= .pointer (some ⟨b,o,none⟩)) (hy:ev e y=v) 
  (h1:v.oneCell'=true) (hb:aJ w b vs.toArray U) (ho:Nat.blt o vs.length=true)
  (k:∀w',aj [b] w w'->aJ w' b (vs.set o v).toArray U->w'.heap.size=w.heap.size->OW P n ops K rest e w'):OW P n ops K (⟨none,.store T x y,ty,pos,after,g⟩::rest) e w:=by grind [KZ,Nat.blt_eq]
theorem gd {U:TypeId} (jN:TI P T 1 bytes z) (hx:ev e x= .pointer (some ⟨b,o,none⟩)) (hy:ev e y=v) (h1:v.oneCell'=true) (hb:aJ w b vs.toArray U) (ho:Nat.blt o vs.length=true) (k:∀w',aj [b] w w'->aJ w' b (vs.set o v).toArray U->w'.heap.size=w.heap.size->OW P n ops K rest e w') (hg:gate ops e g=true:=by rfl):OW P n ops K (⟨none,.store T x y,ty,pos,after,g⟩::rest) e w:=Y0 jN hg hx hy h1 hb ho k
theorem Y1 {b:Nat} {vs us:List Value} {U:TypeId} (jN:TI P T sz bytes z) (hg:gate ops e g=true) 
  (hx:ev e x= .pointer (some ⟨b,0,none⟩)) (hy:ev e y= .agg vs.toArray) (hl:Nat.beq vs.length sz=true) (h1:vs.all Value.oneCell'=true) (hb:aJ w b us.toArray U) (bZ:Nat.beq us.length sz=true)
  (k:∀w',aj [b] w w'->aJ w' b vs.toArray U->w'.heap.size=w.heap.size->OW P n ops K rest e w'):OW P n ops K (⟨none,.store T x y,ty,pos,after,g⟩::rest) e w:=by grind [Yz,Nat.eq_of_beq_eq_true,List.all_eq_true]
theorem cJ {us:List Value} {U:TypeId} (jN:TI P T sz bytes z) (hx:ev e x= .pointer (some ⟨b,0,none⟩)) (hy:ev e y= .agg vs.toArray) (h1:vs.all Value.oneCell'=true) (hb:aJ w b us.toArray U) (bZ:Nat.beq us.length sz=true) (k:∀w',aj [b] w w'->aJ w' b vs.toArray U->w'.heap.size=w.heap.size->OW P n ops K rest e w') (hg:gate ops e g=true:=by rfl) (hl:Nat.beq vs.length sz=true:=by rfl):OW P n ops K (⟨none,.store T x y,ty,pos,after,g⟩::rest) e w:=Y1 jN hg hx hy hl h1 hb bZ k
theorem Y2 {vs:List Value} {v:Value} (hT:P.underlying T=some (.slice E)) (hE:TI P E sz bytes z) (_hz:z.cells.size=sz) (nQ:0<sz) (cV:sz<=16777216) 
  (hv:v.cells=vs.toArray) (hl:vs.length=sz):(Instr.buildSlice T 1 #[(0,v)]).run P w= .ok (.slice (some ⟨w.heap.size,0,none⟩) 1 1) (w.alloc (.cells vs.toArray E)):=by
 have h0:¬sz=0:=by omega
 have hb:¬(16777216<sz):=by omega
 have Qs:Instr.fill (λi=>some (i*sz,sz)) ((Array.range (1*sz)).map (z.cells[·%z.cells.size]!)) [(0,v)]=some vs.toArray:=by
  simp only[Instr.fill,Nat.zero_mul,hv,Nat.zero_add]
  rw[iN (by simp[hl])]
  congr 1
  have key:∀(us:List Value) (i:Nat) (pre:List Value) (cs:Array Value),cs.size=pre.length+us.length->cs.toList.take i=pre->i=pre.length->
    ((us.zipIdx i).foldl (fun(cs:Array Value) (p:Value×Nat)=>cs.setIfInBounds (0+p.2) p.1) cs)=(pre++us).toArray:=by
   intro us
   induction us with
   |nil=>
    intro i pre cs hs ht hi
    apply Array.ext'
    simp only[List.zipIdx_nil,List.foldl_nil,List.append_nil]
    rw[<-ht,List.take_of_length_le (by simp at hs⊢;omega)]
   |cons u us ih=>
    intro i pre cs hs ht hi
    rw[List.zipIdx_cons,List.foldl_cons]
    simp only[lC] at hs
    have:=ih (i+1) (pre++[u]) (cs.setIfInBounds (0+i) u) so (by
     rw[Nat.zero_add,Array.toList_setIfInBounds,List.take_add_one,List.getElem?_set_self so,List.take_set_of_le (lR i),ht];simp) so
    rw[this];simp
  have:=key vs 0 [] ((Array.range (1*sz)).map (z.cells[·%z.cells.size]!)) (by simp[hl]) sm rfl
  simpa using this
 simp only[Instr.buildSlice,Sem.run_bind,run_underlying hT,Result.andThen_ok,hE.rD,Nat.one_mul]
 rw[Nat.one_mul] at Qs
 simp[hb,h0,hE.KY,Qs,newRow]
theorem Y3 {vs:List Value} {v:Value} {q:Operand} (hT:P.underlying T=some (.slice E)) (hE:TI P E sz bytes z) (hg:gate ops e g=true) (hd:bV n dst=true) (hz:Nat.beq z.cells.size sz=true) (nQ:Nat.blt 0 sz=true) (cV:Nat.ble sz 16777216=true) 
  (hq:ev e q=v) (hv:v.cells=vs.toArray) (hl:Nat.beq vs.length sz=true)
  (k:∀w',aj [] w w'->aJ w' w.heap.size vs.toArray E->w'.heap.size=w.heap.size+1->OW P n ops K rest (bM e dst (.slice (some ⟨w.heap.size,0,none⟩) 1 1)) w'):
  OW P n ops K (⟨dst,.buildSlice T 1 #[(0,q)],ty,pos,after,g⟩::rest) e w:=
 eQ hg hd (w':=w.alloc (.cells vs.toArray E)) (by
  have:=Y2 (P:=P) (w:=w) (vs:=vs) (v:=v) hT hE (Nat.eq_of_beq_eq_true hz) (by simpa[Nat.blt_eq] using nQ) (Nat.le_of_ble_eq_true cV) hv (Nat.eq_of_beq_eq_true hl)
  simp[execOp,hq,this]) (k _ (aj.alloc _ _ _) (aJ.alloc _ _ _) sm)
theorem fc {q:Operand} (hT:P.underlying T=some (.slice E)) (hE:TI P E sz bytes z) (hq:ev e q=v) (hv:v.cells=vs.toArray) (k:∀w',aj [] w w'->aJ w' w.heap.size vs.toArray E->w'.heap.size=w.heap.size+1->OW P n ops K rest (bM e dst (.slice (some ⟨w.heap.size,0,none⟩) 1 1)) w') (hg:gate ops e g=true:=by rfl) (hd:bV n dst=true:=by rfl) (hz:Nat.beq z.cells.size sz=true:=by rfl) (nQ:Nat.blt 0 sz=true:=by rfl) (cV:Nat.ble sz 16777216=true:=by rfl) (hl:Nat.beq vs.length sz=true:=by rfl):OW P n ops K (⟨dst,.buildSlice T 1 #[(0,q)],ty,pos,after,g⟩::rest) e w:=Y3 hT hE hg hd hz nQ cV hq hv hl k
theorem Qt {L:List Nat} {v:Value} {gb:Option Nat} {rows new:List (List C)} {xs news:List Value} {b o m c:Nat} (hT:P.underlying t=some (.slice E)) (hE:TI P E sz bytes z) (hg:gate ops e g=true) (hd:bV n dst=true) (hz:Nat.beq z.cells.size sz=true) 
  (hx:ev e x=v) (dv:gO L w E sz v gb rows xs) (hy:ev e y= .slice (some ⟨b,o,none⟩) m c) (hm:new.length=m) (tt:0<m) (gZ:∀row,row∈new->row.length=sz) (hc:fS w b o news) (h1:∀u∈news,u.oneCell'=true)
  (hr:cS (gb.toList++L) w news new.flatten) (hL:∀x,x∈L->x<w.heap.size) (hb:(rows.length+m)*(bytes+1)<=140737488355328)
  (k:∀a' cap' g' w',gO L w' E sz (.slice a' (rows.length+m) cap') g' (rows++new) (xs++news)->aj gb.toList w w'->(g'=gb∨g'=some w.heap.size)->OW P n ops K rest (bM e dst (.slice a' (rows.length+m) cap')) w'):
  OW P n ops K (⟨dst,.call {callee:=.builtin .append,args:=#[x,y],argTypes:=#[t,t]},ty,pos,after,g⟩::rest) e w:=by
 obtain⟨i,hi,uO,fC,fK⟩:=hE.get
 obtain⟨v',g',w',jM,xP,hk,kz⟩:=gO.app (P:=P) (ty:=ty) hT hi uO fC fK (Nat.eq_of_beq_eq_true hz) dv b o m c new news hm tt gZ hc h1 hr hL hb
 obtain⟨a',cap',he⟩:=xP.len
 rw[lA,hm] at he
 subst he
 exact eQ hg hd (w':=w') (by
  simp only[execOp,resolve,invoke,builtin,Sem.run_bind,Sem.run_pure,Result.andThen_ok,List.map_toArray,List.map_cons,List.map_nil,hx,hy,jM]) (k a' cap' g' w' xP hk kz)
end
theorem gO.sep {T:TypeId} {rows:List (List C)} (h:gO L w T sz v g rows xs) (hb:b∈L):b∉g.toList:=by
 intro hx
 exact h.out b (by simpa using hx) hb
theorem Qv {P:Program} {n:Nat} {ops:Array Oper} {K:Env->World->Prop} {rest:List Oper} {e:Env} {w:World} 
  {dst:Option Nat} {ty:TypeId} {pos:String} {after:Array Edge} {g:Option (Nat×Bool)} {x y:Operand}
  {L:List Nat} {t E sz bytes:Nat} {z:Value} {v:Value} {gb:Option Nat} {rows:List (List C)} {row:List C} {xs news:List Value} {b o c:Nat} (hT:P.underlying t=some (.slice E)) (hE:TI P E sz bytes z) (hg:gate ops e g=true) (hd:bV n dst=true) (hz:Nat.beq z.cells.size sz=true)
  (hx:ev e x=v) (hy:ev e y= .slice (some ⟨b,o,none⟩) 1 c) (dv:gO L w E sz v gb rows xs) (gZ:row.length=sz) (hc:fS w b o news) (h1:∀u∈news,u.oneCell'=true)
  (hr:cS (gb.toList++L) w news row) (hL:∀x,x∈L->x<w.heap.size) (hb:(rows.length+1)*(bytes+1)<=140737488355328)
  (k:∀a' cap' g' w',gO L w' E sz (.slice a' (rows.length+1) cap') g' (rows++[row]) (xs++news)->aj gb.toList w w'->(g'=gb∨g'=some w.heap.size)->OW P n ops K rest (bM e dst (.slice a' (rows.length+1) cap')) w'):
  OW P n ops K (⟨dst,.call {callee:=.builtin .append,args:=#[x,y],argTypes:=#[t,t]},ty,pos,after,g⟩::rest) e w:=
 Qt (new:=[row]) (m:=1) hT hE hg hd hz hx dv hy rfl de (by intro r h;simp at h;rw[h];exact gZ) hc h1 (by simpa using hr) hL hb k
theorem cS.FK:∀{vs:List Value} {cs:List C},cS L w vs cs->(∀c,c∈cs->∀v,c= .val v->v.oneCell'=true)->∀u∈vs,u.oneCell'=true
 |[],[],_,_,u,hu=>by simp at hu
 |v::vs,c::cs,h,hc,u,hu=>by
  rcases mC.1 hu with rfl|hu
  ·cases h.1 with
   |val=>exact hc _ sm _ rfl
   |nil=>rfl
   |sl=>rfl
  ·exact cS.FK h.2 (λc px v hv=>hc c (by simp[px]) v hv) u hu
def zE (P:Program) (e:Env) (w:World):ResultVar->Value->Prop
 | .tmp t,v=>e t=v
 | .cell t ty,v=>P5 P e t ty v w
def Il (P:Program) (e:Env) (w:World):List ResultVar->List Value->Prop
 |[],[]=>True
 |[r],[v]=>zE P e w r v
 |r::rs,v::vs=>zE P e w r v∧Il P e w rs vs
 |_,_=>False
def zF:List Value->Value
 |[v]=>v
 |vs=>.tuple vs.toArray
def Im (tmps:Array Value):ResultVar->Sem Value
 | .tmp t=>pure (tmps.getD t undef)
 | .cell a t=>do loadVar t (<-asAddr (tmps.getD a undef))
theorem FL (fn:Func) (tmps:Array Value):results fn tmps=(do let vs<-fn.results.mapM (Im tmps);pure (if h:vs.size=1 then vs[0] else .tuple vs)):=rfl
theorem wg {e:Env} {tmps:Array Value} (hg:∀t,tmps.getD t undef=e t) {r:ResultVar} (h:zE P e w r v):(Im tmps r).run P w= .ok v w:=by
 cases r with
 |tmp t=>simp only[zE] at h;simp only[Im,hg,h];rfl
 |cell t ty=>
  obtain⟨a,ha,hl⟩:=h
  simp only[Im,hg,ha,asAddr,Sem.run_bind,Sem.run_pure,Result.andThen_ok,hl]
theorem Qw {fn:Func} {rs:List ResultVar} (hr:fn.results=rs.toArray) {tmps:Array Value} {e:Env} (hg:∀t,tmps.getD t undef=e t) (h:Il P e w rs vs) (hl:rs.length<=4):
  (results fn tmps).run P w= .ok (zF vs) w:=by
 match rs,vs,h with
 |[],[],_=>simp[FL,hr,zF]
 |[r],[v],h=>
  have h1:=wg (tmps:=tmps) hg (show zE P e w r v from h)
  simp[FL,hr,zF,h1]
 |[r,r2],[v,v2],h=>
  have h1:=wg (tmps:=tmps) hg h.1
  have h2:=wg (tmps:=tmps) hg (show zE P e w r2 v2 from h.2)
  simp[FL,hr,zF,h1,h2]
 |[r,r2,r3],[v,v2,v3],h=>
  have h1:=wg (tmps:=tmps) hg h.1
  have h2:=wg (tmps:=tmps) hg h.2.1
  have h3:=wg (tmps:=tmps) hg (show zE P e w r3 v3 from h.2.2)
  simp[FL,hr,zF,h1,h2,h3]
 |[r,r2,r3,r4],[v,v2,v3,v4],h=>
  have h1:=wg (tmps:=tmps) hg h.1
  have h2:=wg (tmps:=tmps) hg h.2.1
  have h3:=wg (tmps:=tmps) hg h.2.2.1
  have h4:=wg (tmps:=tmps) hg (show zE P e w r4 v4 from h.2.2.2)
  simp[FL,hr,zF,h1,h2,h3,h4]
 |_::_::_::_::_::_,_,_=>simp at hl
theorem kW {P:Program} {f:FuncId} {fn:Func} {c:Code} {args:List Value} {w:World} {S:Value->World->Prop} (rs:List ResultVar) (n:Nat) 
  (hf:P.funcs[f]?=some fn) (hb:fn.body=some c) (hn:(fn.name== "runtime.NumGoroutine")=false) (hr:fn.results=rs.toArray) (fC:args.length+(fn.ntmps-args.length)=n) (hl:Nat.ble rs.length 4=true)
  (h:CW P n c (λe w'=>∃vs,Il P e w' rs vs∧S (zF vs) w') (λe w'=>∃vs,Il P e w' rs vs∧S (zF vs) w') (λ_ _ _=>False) (start args) w):bz P f args w S:=by
 refine⟨⟨fn,hf,by rw[hb];rfl,hn⟩,calls_of_wp hf hb (wp_mono (h _ ?_) λx a w' hq=>?_)⟩
 ·rw[<-fC];simpa using P4 args (fn.ntmps-args.length)
 ·cases x<;>simp only[kR] at hq
  ·obtain⟨e,kv,vs,hv,hs⟩:=hq
   exact bodyPost_end (Qw hr kv.get hv (Nat.le_of_ble_eq_true hl)) kv.defers ⟨_,rfl,hs⟩
  ·obtain⟨e,kv,hs⟩:=hq;exact hs.elim
  ·obtain⟨e,kv,vs,hv,hs⟩:=hq
   exact bodyPost_ret (Qw hr kv.get hv (Nat.le_of_ble_eq_true hl)) kv.defers ⟨_,rfl,hs⟩
section
variable {P:Program} {n:Nat} {ops:Array Oper} {K:Env->World->Prop} {rest:List Oper} {e:Env} {w:World}
 {dst:Option Nat} {ty:TypeId} {pos:String} {after:Array Edge} {g:Option (Nat×Bool)}
theorem Y4 {at_:Array TypeId} {i j z:Int} {k:IntKind} (hg:gate ops e g=true) (hd:bV n dst=true) (hx:ev e x= .int k i) (hy:ev e y= .int k j) (hz:(if j<i then j else i)=z) 
  (kk:OW P n ops K rest (bM e dst (.int k z)) w):OW P n ops K (⟨dst,.call {callee:=.builtin .min,args:=#[x,y],argTypes:=at_},ty,pos,after,g⟩::rest) e w:=
 eQ hg hd (by
  simp[execOp,resolve,invoke,builtin,hx,hy,Builtin.min_,Builtin.min2,hz]) kk
theorem Y5 {at_:Array TypeId} {y2:Operand} {i j j2 z:Int} {k:IntKind} (hg:gate ops e g=true) (hd:bV n dst=true) (hx:ev e x= .int k i) (hy:ev e y= .int k j) (wh:ev e y2= .int k j2) (hz:(if j2<(if j<i then j else i) then j2 else(if j<i then j else i))=z) 
  (kk:OW P n ops K rest (bM e dst (.int k z)) w):OW P n ops K (⟨dst,.call {callee:=.builtin .min,args:=#[x,y,y2],argTypes:=at_},ty,pos,after,g⟩::rest) e w:=
 eQ hg hd (by
  simp[execOp,resolve,invoke,builtin,hx,hy,wh,Builtin.min_,Builtin.min2,hz]) kk
theorem Y6 {at_:Array TypeId} {i j z:Int} {k:IntKind} (hg:gate ops e g=true) (hd:bV n dst=true) (hx:ev e x= .int k i) (hy:ev e y= .int k j) (hz:(if i<j then j else i)=z) 
  (kk:OW P n ops K rest (bM e dst (.int k z)) w):OW P n ops K (⟨dst,.call {callee:=.builtin .max,args:=#[x,y],argTypes:=at_},ty,pos,after,g⟩::rest) e w:=
 eQ hg hd (by
  simp[execOp,resolve,invoke,builtin,hx,hy,Builtin.max_,Builtin.max2,hz]) kk
theorem Qx {fn:Fn} {xs:List Operand} (hg:gate ops e g=true) (hd:bV n dst=true) (hv:xs.map (ev e)=vs) 
  (kk:OW P n ops K rest (bM e dst (.func fn #[] vs.toArray)) w):OW P n ops K (⟨dst,.makeFunc fn #[] xs.toArray,ty,pos,after,g⟩::rest) e w:=
 eQ hg hd (by subst hv;simp[execOp,Instr.makeFunc]) kk
theorem Qy {c:Operand} {caps:List Value} {xs:List Operand} {ats:Array TypeId} (hg:gate ops e g=true) (hd:bV n dst=true) (hc:ev e c= .func (.func f) #[] caps.toArray) (h:bz P f (xs.map (ev e)++caps) w S) 
  (k:∀v w',S v w'->OW P n ops K rest (bM e dst v) w'):OW P n ops K (⟨dst,.call {callee:=.value c,args:=xs.toArray,argTypes:=ats},ty,pos,after,g⟩::rest) e w:=λa ha Q=>by
 unfold wpList
 rw[iP (by rw[Fm ha];exact hg)]
 refine .inl ?_
 unfold Oper.wp
 have jM:(execOp (ev e) ⟨dst,.call {callee:=.value c,args:=xs.toArray,argTypes:=ats},ty,pos,after,g⟩).run P w= .ok (.enter f (xs.map (ev e)++caps).toArray) w:=by
  simp only[execOp,resolve,hc,Deferred.ofValue,Sem.run_bind,Sem.run_pure,Result.andThen_ok,invoke]
  simp[P8 h.1]
 rw[ha.eval,jM,Oper.upon_enter]
 exact Calls.mono h.2 λx w' ⟨v,hx,hs⟩=>by subst hx;exact k v w' hs _ (ha.bM hd v) Q
end
theorem Y7:NG Tryz.f10:=ng
theorem Y8:NG Tryz.f100:=ng
theorem Y9:NG Tryz.f101:=ng
theorem Za:NG Tryz.f102:=ng
theorem Qz:NG Tryz.f103:=ng
theorem Zb:NG Tryz.f104:=ng
theorem Zc:NG Tryz.f105:=ng
theorem Zd:NG Tryz.f106:=ng
theorem Ze:NG Tryz.f107:=ng
theorem Zf:NG Tryz.f108:=ng
theorem Zg:NG Tryz.f109:=ng
theorem Zh:NG Tryz.f11:=ng
theorem Zi:NG Tryz.f110:=ng
theorem Zj:NG Tryz.f111:=ng
theorem Zk:NG Tryz.f112:=ng
theorem Zl:NG Tryz.f113:=ng
theorem Zm:NG Tryz.f114:=ng
theorem Zn:NG Tryz.f115:=ng
theorem Zo:NG Tryz.f116:=ng
theorem Zp:NG Tryz.f117:=ng
theorem Zq:NG Tryz.f118:=ng
theorem Zr:NG Tryz.f119:=ng
theorem Zs:NG Tryz.f12:=ng
theorem Zt:NG Tryz.f120:=ng
theorem Zu:NG Tryz.f121:=ng
theorem Zv:NG Tryz.f122:=ng
theorem Zw:NG Tryz.f123:=ng
theorem QA:NG Tryz.f124:=ng
theorem Zx:NG Tryz.f125:=ng
theorem Zy:NG Tryz.f126:=ng
theorem Zz:NG Tryz.f127:=ng
theorem ZA:NG Tryz.f129:=ng
theorem ZB:NG Tryz.f13:=ng
theorem ZC:NG Tryz.f131:=ng
theorem ZD:NG Tryz.f132:=ng
theorem ZE:NG Tryz.f133:=ng
theorem ZF:NG Tryz.f137:=ng
theorem ZG:NG Tryz.f138:=ng
theorem ZH:NG Tryz.f14:=ng
theorem ZI:NG Tryz.f140:=ng
theorem ZJ:NG Tryz.f141:=ng
theorem ZK:NG Tryz.f142:=ng
theorem ZL:NG Tryz.f143:=ng
theorem ZM:NG Tryz.f144:=ng
theorem ZN:NG Tryz.f145:=ng
theorem ZO:NG Tryz.f146:=ng
theorem ZP:NG Tryz.f147:=ng
theorem ZQ:NG Tryz.f148:=ng
theorem ZR:NG Tryz.f149:=ng
theorem ZS:NG Tryz.f15:=ng
theorem ZT:NG Tryz.f150:=ng
theorem ZU:NG Tryz.f151:=ng
theorem ZV:NG Tryz.f152:=ng
theorem Lj:NG Tryz.f153:=ng
theorem ZW:NG Tryz.f154:=ng
theorem ZX:NG Tryz.f16:=ng
theorem ZY:NG Tryz.f165:=ng
theorem ZZ:NG Tryz.f166:=ng
theorem Z0:NG Tryz.f167:=ng
theorem Z1:NG Tryz.f168:=ng
theorem Z2:NG Tryz.f169:=ng
theorem Z3:NG Tryz.f17:=ng
theorem Z4:NG Tryz.f170:=ng
theorem Z5:NG Tryz.f176:=ng
theorem Z6:NG Tryz.f18:=ng
theorem Z7:NG Tryz.f19:=ng
theorem Z8:NG Tryz.f20:=ng
theorem Z9:NG Tryz.f21:=ng
theorem aaa:NG Tryz.f22:=ng
theorem aab:NG Tryz.f23:=ng
theorem aac:NG Tryz.f24:=ng
theorem aad:NG Tryz.f25:=ng
theorem aae:NG Tryz.f26:=ng
theorem aaf:NG Tryz.f27:=ng
theorem aag:NG Tryz.f28:=ng
theorem aah:NG Tryz.f29:=ng
theorem nm3:NG Tryz.f3:=ng
theorem aaj:NG Tryz.f30:=ng
theorem aak:NG Tryz.f31:=ng
theorem aal:NG Tryz.f32:=ng
theorem aam:NG Tryz.f33:=ng
theorem aan:NG Tryz.f34:=ng
theorem aao:NG Tryz.f35:=ng
theorem aap:NG Tryz.f36:=ng
theorem aaq:NG Tryz.f37:=ng
theorem aar:NG Tryz.f38:=ng
theorem aas:NG Tryz.f39:=ng
theorem nm4:NG Tryz.f4:=ng
theorem aau:NG Tryz.f40:=ng
theorem aav:NG Tryz.f41:=ng
theorem aaw:NG Tryz.f42:=ng
theorem aax:NG Tryz.f43:=ng
theorem aay:NG Tryz.f44:=ng
theorem aaz:NG Tryz.f45:=ng
theorem aaA:NG Tryz.f46:=ng
theorem aaB:NG Tryz.f47:=ng
theorem aaC:NG Tryz.f48:=ng
theorem aaD:NG Tryz.f49:=ng
theorem nm5:NG Tryz.f5:=ng
theorem aaF:NG Tryz.f50:=ng
theorem QB:NG Tryz.f51:=ng
theorem aaG:NG Tryz.f52:=ng
theorem aaH:NG Tryz.f53:=ng
theorem aaI:NG Tryz.f54:=ng
theorem aaJ:NG Tryz.f55:=ng
theorem aaK:NG Tryz.f56:=ng
theorem aaL:NG Tryz.f57:=ng
theorem aaM:NG Tryz.f58:=ng
theorem aaN:NG Tryz.f59:=ng
theorem nm6:NG Tryz.f6:=ng
theorem aaP:NG Tryz.f60:=ng
theorem aaQ:NG Tryz.f61:=ng
theorem aaR:NG Tryz.f62:=ng
theorem aaS:NG Tryz.f63:=ng
theorem QC:NG Tryz.f64:=ng
theorem aaT:NG Tryz.f65:=ng
theorem aaU:NG Tryz.f66:=ng
theorem aaV:NG Tryz.f67:=ng
theorem aaW:NG Tryz.f68:=ng
theorem QD:NG Tryz.f69:=ng
theorem nm7:NG Tryz.f7:=ng
theorem aaY:NG Tryz.f70:=ng
theorem aaZ:NG Tryz.f71:=ng
theorem aa0:NG Tryz.f72:=ng
theorem aa1:NG Tryz.f73:=ng
theorem aa2:NG Tryz.f74:=ng
theorem aa3:NG Tryz.f75:=ng
theorem aa4:NG Tryz.f76:=ng
theorem aa5:NG Tryz.f77:=ng
theorem aa6:NG Tryz.f78:=ng
theorem aa7:NG Tryz.f79:=ng
theorem nm8:NG Tryz.f8:=ng
theorem aa9:NG Tryz.f80:=ng
theorem aba:NG Tryz.f81:=ng
theorem abb:NG Tryz.f82:=ng
theorem abc:NG Tryz.f83:=ng
theorem abd:NG Tryz.f84:=ng
theorem abe:NG Tryz.f85:=ng
theorem QE:NG Tryz.f86:=ng
theorem abf:NG Tryz.f87:=ng
theorem abg:NG Tryz.f89:=ng
theorem nm9:NG Tryz.f9:=ng
theorem abi:NG Tryz.f90:=ng
theorem abj:NG Tryz.f91:=ng
theorem abk:NG Tryz.f92:=ng
theorem abl:NG Tryz.f93:=ng
theorem abm:NG Tryz.f94:=ng
theorem abn:NG Tryz.f95:=ng
theorem abo:NG Tryz.f96:=ng
theorem Io:NG Tryz.f97:=ng
theorem abp:NG Tryz.f99:=ng
theorem QF:sj Tryz.prog 112=true:=by kernel_rfl
theorem zG:sj Tryz.prog 35=true:=by kernel_rfl
theorem DK:sj Tryz.prog 39=true:=by kernel_rfl
theorem tF:sj Tryz.prog 65=true:=by kernel_rfl
theorem eU:sj Tryz.prog 78=true:=by kernel_rfl
theorem abq:sj Tryz.prog 86=true:=by kernel_rfl
theorem abr:∀(x0a:Option Addr) (x0n x0c:Nat) (x1a:Option Addr) (x1n x1c:Nat) (w:World),(Instr.build 110 #[(0,(.slice x0a x0n x0c)),(1,(.slice x1a x1n x1c))]).run Tryz.prog w= .ok (.agg #[.slice x0a x0n x0c,.slice x1a x1n x1c,.int .i64 0,.bool false,.slice none 0 0,.slice none 0 0]) w:=by intros;kernel_rfl
theorem abt:∀(x0a:Option Addr) (x0n x0c:Nat) (x1:Int) (x2a:Option Addr) (x2n x2c:Nat) (x3a:Option Addr) (x3n x3c:Nat) (w:World),(Instr.build 140 #[(0,(.slice x0a x0n x0c)),(1,(.int .i64 x1)),(2,(.slice x2a x2n x2c)),(3,(.slice x3a x3n x3c))]).run Tryz.prog w= .ok (.agg #[.slice x0a x0n x0c,.int .i64 x1,.slice x2a x2n x2c,.slice x3a x3n x3c]) w:=by intros;kernel_rfl
theorem abu:∀(x0a:Option Addr) (x0n x0c:Nat) (x1:Int) (w:World),(Instr.build 168 #[(0,(.slice x0a x0n x0c)),(1,(.int .i64 x1))]).run Tryz.prog w= .ok (.agg #[.slice x0a x0n x0c,.int .i64 x1]) w:=by intros;kernel_rfl
theorem Lk:∀(w:World),(Instr.build 35 #[]).run Tryz.prog w= .ok (.agg #[.string ⟨#[]⟩,.slice none 0 0,.slice none 0 0]) w:=by intros;kernel_rfl
theorem abv:∀(x0:ByteArray) (w:World),(Instr.build 35 #[(0,(.string x0))]).run Tryz.prog w= .ok (.agg #[.string x0,.slice none 0 0,.slice none 0 0]) w:=by intros;kernel_rfl
theorem Ip:∀(x0:ByteArray) (x1a:Option Addr) (x1n x1c:Nat) (x2a:Option Addr) (x2n x2c:Nat) (w:World),(Instr.build 39 #[(0,(.string x0)),(1,(.slice x1a x1n x1c)),(2,(.slice x2a x2n x2c))]).run Tryz.prog w= .ok (.agg #[.string x0,.slice x1a x1n x1c,.slice x2a x2n x2c]) w:=by intros;kernel_rfl
theorem abw:∀(x0a:Option Addr) (x0n x0c:Nat) (w:World),(Instr.build 57 #[(0,(.slice x0a x0n x0c))]).run Tryz.prog w= .ok (.agg #[.slice x0a x0n x0c,.int .i64 0]) w:=by intros;kernel_rfl
theorem Ll:∀(w:World),(Instr.build 65 #[]).run Tryz.prog w= .ok (.agg #[.string ⟨#[]⟩,.slice none 0 0]) w:=by intros;kernel_rfl
theorem abx:∀(x0:ByteArray) (w:World),(Instr.build 65 #[(0,(.string x0))]).run Tryz.prog w= .ok (.agg #[.string x0,.slice none 0 0]) w:=by intros;kernel_rfl
theorem FM:∀(w:World),(Instr.build 78 #[]).run Tryz.prog w= .ok (.agg #[.string ⟨#[]⟩,.slice none 0 0]) w:=by intros;kernel_rfl
theorem aby:∀(x0:ByteArray) (w:World),(Instr.build 78 #[(0,(.string x0))]).run Tryz.prog w= .ok (.agg #[.string x0,.slice none 0 0]) w:=by intros;kernel_rfl
theorem Lm:∀(x1a:Option Addr) (x1n x1c:Nat) (w:World),(Instr.build 78 #[(1,(.slice x1a x1n x1c))]).run Tryz.prog w= .ok (.agg #[.string ⟨#[]⟩,.slice x1a x1n x1c]) w:=by intros;kernel_rfl
theorem Ln:∀(x0a:Option Addr) (x0n x0c:Nat) (x1a:Option Addr) (x1n x1c:Nat) (w:World),(Instr.build 86 #[(0,(.slice x0a x0n x0c)),(1,(.slice x1a x1n x1c))]).run Tryz.prog w= .ok (.agg #[.slice x0a x0n x0c,.slice x1a x1n x1c]) w:=by intros;kernel_rfl
theorem abz:Tryz.prog.underlying 4=some .bool:=by kernel_rfl
theorem abA:gC Tryz.prog 110 0=some 0:=by kernel_rfl
theorem abB:gC Tryz.prog 110 1=some 1:=by kernel_rfl
theorem abC:gC Tryz.prog 110 2=some 2:=by kernel_rfl
theorem abD:gC Tryz.prog 110 3=some 3:=by kernel_rfl
theorem abE:gC Tryz.prog 110 4=some 4:=by kernel_rfl
theorem abF:gC Tryz.prog 110 5=some 5:=by kernel_rfl
theorem abG:gC Tryz.prog 112 0=some 0:=by kernel_rfl
theorem QG:gC Tryz.prog 112 1=some 1:=by kernel_rfl
theorem abH:gC Tryz.prog 112 10=some 11:=by kernel_rfl
theorem abI:gC Tryz.prog 112 2=some 2:=by kernel_rfl
theorem Iq:gC Tryz.prog 112 3=some 3:=by kernel_rfl
theorem abJ:gC Tryz.prog 112 4=some 4:=by kernel_rfl
theorem abK:gC Tryz.prog 112 5=some 5:=by kernel_rfl
theorem abL:gC Tryz.prog 112 6=some 6:=by kernel_rfl
theorem QH:gC Tryz.prog 112 7=some 7:=by kernel_rfl
theorem QI:gC Tryz.prog 112 8=some 9:=by kernel_rfl
theorem abM:gC Tryz.prog 112 9=some 10:=by kernel_rfl
theorem abN:gC Tryz.prog 140 0=some 0:=by kernel_rfl
theorem abO:gC Tryz.prog 140 1=some 1:=by kernel_rfl
theorem abP:gC Tryz.prog 140 2=some 2:=by kernel_rfl
theorem abQ:gC Tryz.prog 140 3=some 3:=by kernel_rfl
theorem abR:gC Tryz.prog 168 0=some 0:=by kernel_rfl
theorem abS:gC Tryz.prog 168 1=some 1:=by kernel_rfl
theorem abT:gC Tryz.prog 35 0=some 0:=by kernel_rfl
theorem QJ:gC Tryz.prog 35 1=some 1:=by kernel_rfl
theorem QK:gC Tryz.prog 35 2=some 2:=by kernel_rfl
theorem Lo:gC Tryz.prog 39 0=some 0:=by kernel_rfl
theorem Lp:gC Tryz.prog 39 1=some 1:=by kernel_rfl
theorem zH:gC Tryz.prog 39 2=some 2:=by kernel_rfl
theorem abU:gC Tryz.prog 57 0=some 0:=by kernel_rfl
theorem QL:gC Tryz.prog 57 1=some 1:=by kernel_rfl
theorem abV:gC Tryz.prog 65 0=some 0:=by kernel_rfl
theorem QM:gC Tryz.prog 65 1=some 1:=by kernel_rfl
theorem kX:gC Tryz.prog 78 0=some 0:=by kernel_rfl
theorem jt:gC Tryz.prog 78 1=some 1:=by kernel_rfl
theorem abW:gC Tryz.prog 86 0=some 0:=by kernel_rfl
theorem abX:gC Tryz.prog 86 1=some 1:=by kernel_rfl
theorem Lq:TI Tryz.prog 101 2 32 (.agg #[.pointer none,.slice none 0 0]):=by unfold TI;kernel_rfl
theorem Ir:TI Tryz.prog 108 1 24 (.slice none 0 0):=by unfold TI;kernel_rfl
theorem mr:TI Tryz.prog 112 12 216 (.agg #[.string ⟨#[]⟩,.slice none 0 0,.int .i64 0,.slice none 0 0,.slice none 0 0,.slice none 0 0,.slice none 0 0,.string ⟨#[]⟩,.slice none 0 0,.int .i64 0,.string ⟨#[]⟩,.int .i64 0]):=by unfold TI;kernel_rfl
theorem QN:TI Tryz.prog 23 1 24 (.slice none 0 0):=by unfold TI;kernel_rfl
theorem oI:TI Tryz.prog 3 1 8 (.int .i64 0):=by unfold TI;kernel_rfl
theorem Is:TI Tryz.prog 33 1 24 (.slice none 0 0):=by unfold TI;kernel_rfl
theorem jf:TI Tryz.prog 35 3 64 (.agg #[.string ⟨#[]⟩,.slice none 0 0,.slice none 0 0]):=by unfold TI;kernel_rfl
theorem mu:TI Tryz.prog 37 1 24 (.slice none 0 0):=by unfold TI;kernel_rfl
theorem fU:TI Tryz.prog 39 3 64 (.agg #[.string ⟨#[]⟩,.slice none 0 0,.slice none 0 0]):=by unfold TI;kernel_rfl
theorem DL:TI Tryz.prog 4 1 1 (.bool false):=by unfold TI;kernel_rfl
theorem FN:TI Tryz.prog 5 1 1 (.int .u8 0):=by unfold TI;kernel_rfl
theorem QO:TI Tryz.prog 53 1 24 (.slice none 0 0):=by unfold TI;kernel_rfl
theorem fg:TI Tryz.prog 65 2 40 (.agg #[.string ⟨#[]⟩,.slice none 0 0]):=by unfold TI;kernel_rfl
theorem DM:TI Tryz.prog 76 1 24 (.slice none 0 0):=by unfold TI;kernel_rfl
theorem aL:TI Tryz.prog 78 2 40 (.agg #[.string ⟨#[]⟩,.slice none 0 0]):=by unfold TI;kernel_rfl
theorem BP:TI Tryz.prog 86 2 48 (.agg #[.slice none 0 0,.slice none 0 0]):=by unfold TI;kernel_rfl
theorem bf:TI Tryz.prog 9 1 16 (.string ⟨#[]⟩):=by unfold TI;kernel_rfl
theorem Iv:Tryz.prog.underlying 159=some (.int .u64):=by kernel_rfl
theorem wj:Tryz.prog.underlying 3=some (.int .i64):=by kernel_rfl
theorem xQ:Tryz.prog.underlying 5=some (.int .u8):=by kernel_rfl
theorem dj:Tryz.prog.follows .mixedOrders=true:=by kernel_rfl
theorem abY:p8 Tryz.prog 108=true:=by kernel_rfl
theorem abZ:p8 Tryz.prog 22=true:=by kernel_rfl
theorem ab0:p8 Tryz.prog 23=true:=by kernel_rfl
theorem Ls:p8 Tryz.prog 3=true:=by kernel_rfl
theorem ab1:p8 Tryz.prog 33=true:=by kernel_rfl
theorem tG:p8 Tryz.prog 37=true:=by kernel_rfl
theorem Iw:p8 Tryz.prog 4=true:=by kernel_rfl
theorem ab2:p8 Tryz.prog 5=true:=by kernel_rfl
theorem ab3:p8 Tryz.prog 53=true:=by kernel_rfl
theorem iC:p8 Tryz.prog 76=true:=by kernel_rfl
theorem gD:p8 Tryz.prog 9=true:=by kernel_rfl
theorem zI:Tryz.prog.underlying 108=some (.slice 112):=by kernel_rfl
theorem BQ:Tryz.prog.underlying 22=some (.slice 5):=by kernel_rfl
theorem iK:Tryz.prog.underlying 23=some (.slice 39):=by kernel_rfl
theorem wk:Tryz.prog.underlying 30=some (.slice 35):=by kernel_rfl
theorem sk:Tryz.prog.underlying 33=some (.slice 65):=by kernel_rfl
theorem bh:Tryz.prog.underlying 37=some (.slice 9):=by kernel_rfl
theorem Ix:Tryz.prog.underlying 40=some (.slice 4):=by kernel_rfl
theorem uP:Tryz.prog.underlying 53=some (.slice 3):=by kernel_rfl
theorem cz:Tryz.prog.underlying 76=some (.slice 78):=by kernel_rfl
theorem il:Tryz.prog.underlying 9=some .string:=by kernel_rfl
def gW (c:UInt8):Bool:=48<=c&&c<=57
theorem BR (c:UInt8):gW c=true↔48<=c.toNat∧c.toNat<=57:=by
 simp[gW,UInt8.le_iff_toNat_le]
def qO (s:ai):Int:=if 0<s.length∧s.getD 0 0=45 then -1 else 1
def er (s:ai):ai:=if 0<s.length∧s.getD 0 0=45 then s.drop 1 else s
def val (ds:ai):Nat:=ds.foldl (λn c=>10*n+(c.toNat-48)) 0
def numeral (s:ai):Option Int:=
 if s=[48] then some 0
 else if(er s).length<1∨3<(er s).length∨(er s).getD 0 0=48 then none
 else if(er s).all gW=true then some (qO s*val (er s)) else none
theorem QP (ds:ai) (c:UInt8):val (ds++[c])=10*val ds+(c.toNat-48):=by simp[val]
theorem QQ:∀(ds:ai),ds.all gW=true->val ds<10^ds.length:=by
 intro ds
 have key:∀(l:ai) (n k:Nat),l.all gW=true->n<10^k->l.foldl (λn c=>10*n+(c.toNat-48)) n<10^(k+l.length):=by
  intro l
  induction l with
  |nil=>intro n k _ h;simpa using h
  |cons c l ih=>
   intro n k hl h
   simp only[List.all_cons,aE] at hl
   have hc:=(BR c).1 hl.1
   simp only[List.foldl_cons,lC]
   have:=ih (10*n+(c.toNat-48)) (k+1) hl.2 (by rw[Nat.pow_succ];omega)
   rw[show k+(l.length+1)=k+1+l.length from by omega];exact this
 intro h
 have:=key ds 0 0 h sm
 simpa[val] using this
theorem Lt {s:ai} (h:k<s.length):s.take (k+1)=s.take k++[s.getD k 0]:=by simp_all
def cw (t:aq):ai:=if t.aw≠[]∨t.ak=[] then[] else match t.ak with
 |[]=>[]
 |p::_=>p.aw
def QR (c:UInt8):Bool:=97<=c&&c<=122
def BS (s:ai) (i:Nat):Bool:=QR (s.getD i 0)||(decide (0<i)&&gW (s.getD i 0))
def nh (s:ai):Bool:=(List.range s.length).all (BS s)&&decide (s≠[])
theorem FP (k c:UInt8):decide ((k.toNat:Int)<=c.toNat)=decide (k<=c):=by simp[UInt8.le_iff_toNat_le]
theorem QS (k c:UInt8):decide ((c.toNat:Int)=k.toNat)=(c==k):=by
 rw[Bool.eq_iff_iff];simp[<-UInt8.toNat_inj];omega
theorem Iy (s:ai) (k:Nat):((decide ((97:Int)<=(s.getD k 0).toNat)&&decide (((s.getD k 0).toNat:Int)<=122))||((decide ((0:Int)<(k:Int))&&decide ((48:Int)<=(s.getD k 0).toNat))&&decide (((s.getD k 0).toNat:Int)<=57)))=BS s k:=by
 have a:=FP 97 (s.getD k 0)
 have b:=FP (s.getD k 0) 122
 have c:=FP 48 (s.getD k 0)
 have d:=FP (s.getD k 0) 57
 simp only[show((97:UInt8).toNat:Int)=97 from rfl,show((122:UInt8).toNat:Int)=122 from rfl,show((48:UInt8).toNat:Int)=48 from rfl,show((57:UInt8).toNat:Int)=57 from rfl] at a b c d
 rw[a,b,c,d]
 unfold BS QR gW
 rw[show decide ((0:Int)<(k:Int))=decide (0<k) from by simp,Bool.and_assoc]
theorem QT {s:ai} (hj:j<s.length) (h:BS s j=false):nh s=false:=by grind [nh]
theorem QU {s:ai} (h:∀j,j<s.length->BS s j=true):nh s=decide (s≠[]):=by grind [nh]
theorem QV {P:Nat->Prop} (h:∀j,j<k->P j) (hk:P k):∀j,j<k+1->P j:=by grind
theorem FQ {t p:aq} (ha:t.aw=[]) (hp:t.ak[0]?=some p):cw t=p.aw:=by grind [aq.ak,cw]
theorem FT {t:aq} (h:t.aw≠[]∨t.ak=[]):cw t=[]:=by unfold cw;rw[iP h]
theorem ab4 {s:ai} (h0:s≠[48]) (h:(er s).length<1∨3<(er s).length∨(er s).getD 0 0=48):numeral s=none:=by grind [numeral]
theorem ab5 {s:ai} (h0:s≠[48]) (hk:k<(er s).length) (h:gW ((er s).getD k 0)=false):numeral s=none:=by grind [numeral,er]
theorem ab6 {s:ai} (h0:s≠[48]) (h:1<=(er s).length∧(er s).length<=3∧(er s).getD 0 0≠48) (cL:(er s).all gW=true):numeral s=some (qO s*val (er s)):=by grind [numeral]
theorem ab7 (s:ai):qO s=1∨qO s= -1:=by grind [qO]
theorem ab8 {ds:ai} (h:(!(decide ((1:Int)<=(ds.length:Int))&&decide ((ds.length:Int)<=3))||decide (((ds.getD 0 0).toNat:Int)=48))=true):ds.length<1∨3<ds.length∨ds.getD 0 0=48:=by
 simp only[oE,Bool.not_eq_true',Bool.and_eq_false_iff,decide_eq_false_iff_not,dE] at h
 rcases h with(h|h)|h
 ·left;omega
 ·right;left;omega
 ·right;right;exact UInt8.toNat_inj.1 (by have:(48:UInt8).toNat=48:=rfl;rw[this];omega)
theorem ab9 {ds:ai} (h:(!(decide ((1:Int)<=(ds.length:Int))&&decide ((ds.length:Int)<=3))||decide (((ds.getD 0 0).toNat:Int)=48))=false):1<=ds.length∧ds.length<=3∧ds.getD 0 0≠48:=by
 simp only[Bool.or_eq_false_iff,Bool.not_eq_false',aE,decide_eq_false_iff_not,dE] at h
 refine⟨by omega,om,λQW=>h.2 (by rw[QW];rfl)⟩
theorem QX {c:UInt8} (h:(decide ((c.toNat:Int)<48)||decide ((57:Int)<c.toNat))=true):gW c=false:=by grind [BR]
theorem QY {c:UInt8} (h:(decide ((c.toNat:Int)<48)||decide ((57:Int)<c.toNat))=false):48<=c.toNat∧c.toNat<=57∧gW c=true:=by grind [BR]
def aq.size:aq->Nat
 | .mk a ps=>1+a.length+sizes ps
 where sizes:List aq->Nat
 |[]=>0
 |t::ts=>t.size+sizes ts
theorem aca {ps:List aq}:∀{i:Nat} {p:aq},ps[i]?=some p->p.size<=aq.size.sizes ps:=by
 induction ps with
 |nil=>intro i p h;simp at h
 |cons q ps ih=>
  intro i p h
  cases i with
  |zero=>simp at h;subst h;simp only[aq.size.sizes];omega
  |succ i=>have:=ih (by simpa using h);simp only[aq.size.sizes];omega
theorem QZ {t p:aq} (h:t.ak[i]?=some p):p.size<t.size:=by
 cases t with
 |mk a ps=>have:=aca (ps:=ps) h;simp only[aq.size];omega
theorem wm:∀t:aq,t.ak.length<t.size
 | .mk a ps=>by
  have:∀l:List aq,l.length<=aq.size.sizes l:=by
   intro l
   induction l with
   |nil=>simp[aq.size.sizes]
   |cons q r ih=>cases q;simp only[aq.size.sizes,aq.size,lC];omega
  have:=this ps
  simp only[aq.ak,aq.size];omega
inductive WF:aq->Prop
 |aw (a:ai) (h:a≠[]):WF (.mk a [])
 |list (ps:List aq) (h:ps≠[]) (hp:∀p,p∈ps->WF p):WF (.mk [] ps)
theorem WF.part {t p:aq} (h:WF t) (hp:t.ak[i]?=some p):WF p:=by cases h<;>grind [aq.ak]
theorem WF.first {t:aq} (h:WF t) (ha:t.aw=[]):∃p,t.ak[0]?=some p:=by
 cases h with
 |aw a hn=>exact absurd ha hn
 |list ps hn _=>
  cases ps with
  |nil=>exact absurd rfl hn
  |cons q r=>exact⟨q,rfl⟩
theorem WF.leaf {t:aq} (h:WF t) (ha:t.aw≠[]):t.ak=[]:=by
 cases h with
 |aw a _=>rfl
 |list ps _ _=>exact absurd rfl ha
theorem Q0 {rd:ai->Option (aq×ai)} (eI:∀s t r,rd s=some (t,r)->WF t):∀n s ts r,iu rd n s=some (ts,r)->ts≠[]∧∀p,p∈ts->WF p
 |0,_,_,_,h=>by simp[iu] at h
 |n+1,s,ts,r,h=>by
  unfold iu at h
  cases hr:rd s with
  |none=>simp[hr] at h
  |some q=>
   obtain⟨t,r1⟩:=q
   have ht:=eI s t r1 hr
   simp only[hr] at h
   cases r1 with
   |nil=>simp at h
   |cons c r'=>
    simp only at h
    by_cases h1:c=41
    ·rw[iP h1] at h
     simp at h
     obtain⟨rfl,_⟩:=h
     exact⟨by simp,by intro p hp;simp at hp;subst hp;exact ht⟩
    ·rw[iN h1] at h
     by_cases h2:c=32
     ·rw[iP h2] at h
      cases hp:iu rd n r' with
      |none=>simp[hp] at h
      |some q=>
       obtain⟨ts',r''⟩:=q
       simp[hp] at h
       obtain⟨rfl,_⟩:=h
       obtain⟨_,h4⟩:=Q0 eI n r' ts' r'' hp
       exact⟨by simp,by intro p hp;rcases mC.1 hp with rfl|hp;exact ht;exact h4 p hp⟩
     ·rw[iN h2] at h;cases h
theorem acb:∀d s t r,ei d s=some (t,r)->WF t:=by
 have leaf:∀(s:ai) (t:aq) (r:ai),(if s.takeWhile eT=[] then none else some (aq.mk (s.takeWhile eT) [],s.dropWhile eT))=some (t,r)->WF t:=by
  intro s t r h
  split at h
  ·cases h
  ·rename_i hn
   simp only[Option.some.injEq,Prod.mk.injEq] at h
   rw[<-h.1];exact .aw _ hn
 intro d
 induction d with
 |zero=>
  intro s t r h
  cases s with
  |nil=>simp[ei] at h
  |cons c s=>
   simp only[ei] at h
   by_cases h1:c=40
   ·rw[iP h1] at h;cases h
   ·rw[iN h1] at h;exact leaf _ _ _ h
 |succ d ih=>
  intro s t r h
  cases s with
  |nil=>simp[ei] at h
  |cons c s=>
   simp only[ei] at h
   by_cases h1:c=40
   ·rw[iP h1] at h
    cases hp:iu (ei d) (s.length+1) s with
    |none=>simp[hp] at h
    |some q=>
     obtain⟨ts',r''⟩:=q
     simp[hp] at h
     obtain⟨h3,h4⟩:=Q0 ih _ _ _ _ hp
     rw[<-h.1];exact .list _ h3 h4
   ·rw[iN h1] at h;exact leaf _ _ _ h
theorem tH {s:ai} {t:aq} (h:bA s=some t):WF t:=by grind [bA,ei,acb]
theorem Q1 {rd:ai->Option (aq×ai)} (eI:∀s t r,rd s=some (t,r)->t.size+r.length<=s.length+1):∀n s ts r,iu rd n s=some (ts,r)->aq.size.sizes ts+r.length<=s.length
 |0,_,_,_,h=>by simp[iu] at h
 |n+1,s,ts,r,h=>by
  unfold iu at h
  cases hr:rd s with
  |none=>simp[hr] at h
  |some q=>
   obtain⟨t,r1⟩:=q
   have ht:=eI s t r1 hr
   simp only[hr] at h
   cases r1 with
   |nil=>simp at h
   |cons c r'=>
    simp only at h
    rw[lC] at ht
    by_cases h1:c=41
    ·rw[iP h1] at h
     simp at h
     obtain⟨rfl,rfl⟩:=h
     simp only[aq.size.sizes];omega
    ·rw[iN h1] at h
     by_cases h2:c=32
     ·rw[iP h2] at h
      cases hp:iu rd n r' with
      |none=>simp[hp] at h
      |some q=>
       obtain⟨ts',r''⟩:=q
       simp[hp] at h
       obtain⟨rfl,rfl⟩:=h
       have h4:=Q1 eI n r' ts' r'' hp
       simp only[aq.size.sizes];omega
     ·rw[iN h2] at h;cases h
theorem acd:∀d s t r,ei d s=some (t,r)->t.size+r.length<=s.length+1:=by
 have leaf:∀(s:ai) (t:aq) (r:ai),(if s.takeWhile eT=[] then none else some (aq.mk (s.takeWhile eT) [],s.dropWhile eT))=some (t,r)->t.size+r.length<=s.length+1:=by
  intro s t r h
  split at h
  ·cases h
  ·simp only[Option.some.injEq,Prod.mk.injEq] at h
   obtain⟨rfl,rfl⟩:=h
   have h1:=FH eT s
   rw[FG,List.length_drop]
   simp only[aq.size,aq.size.sizes];omega
 intro d
 induction d with
 |zero=>
  intro s t r h
  cases s with
  |nil=>simp[ei] at h
  |cons c s=>
   simp only[ei] at h
   by_cases h1:c=40
   ·rw[iP h1] at h;cases h
   ·rw[iN h1] at h;exact leaf _ _ _ h
 |succ d ih=>
  intro s t r h
  cases s with
  |nil=>simp[ei] at h
  |cons c s=>
   simp only[ei] at h
   by_cases h1:c=40
   ·rw[iP h1] at h
    cases hp:iu (ei d) (s.length+1) s with
    |none=>simp[hp] at h
    |some q=>
     obtain⟨ts',r''⟩:=q
     simp[hp] at h
     have h3:=Q1 ih _ _ _ _ hp
     obtain⟨rfl,rfl⟩:=h
     simp only[aq.size,lC,List.length_nil];omega
   ·rw[iN h1] at h;exact leaf _ _ _ h
theorem Lu {s:ai} {t:aq} (h:bA s=some t):s.length<=12000:=by grind [bA]
theorem zJ {s:ai} {t:aq} (h:bA s=some t):t.size<=12001:=by
 have hs:=Lu h
 unfold bA at h
 split at h
 ·cases h
 ·cases hr:ei 60 s with
  |none=>rw[hr] at h;cases h
  |some q=>
   obtain⟨t',r⟩:=q
   rw[hr] at h
   cases r with
   |nil=>simp at h;subst h;have:=acd _ _ _ _ hr;simp at this;omega
   |cons c r=>cases h
theorem xR:∀t:aq,t.aw.length<t.size
 | .mk a ps=>by simp only[aq.aw,aq.size];omega
def fa (hidden:Bool):aq->Bool
 | .mk a ps=>if a≠[] then decide (a=[105])||(hidden&&decide (a=[118])) else match ps with
  |[]=>false
  |h::rest=>if h.aw=[101] then oneT rest else if h.aw=[116]∨h.aw=[99] then DN hidden rest else false
 where
 oneT:List aq->Bool
  |[]=>false
  |[t]=>fa true t
  |_::_::_=>false
 DN (hidden:Bool):List aq->Bool
  |[]=>true
  |t::ts=>fa hidden t&&DN hidden ts
theorem Lw (hidden:Bool):∀ts,fa.DN hidden ts=ts.all (fa hidden)
 |[]=>rfl
 |t::ts=>by simp[fa.DN,Lw hidden ts]
def nth (ps:List aq) (i:Nat):aq:=ps.getD i (.mk [] [])
theorem gh {ps:List aq} (h:i<ps.length):ps[i]?=some (nth ps i):=by grind [nth]
theorem kY {t:aq} (h:i<t.ak.length):(nth t.ak i).size<t.size:=QZ (gh h)
theorem WF.nth {t:aq} (h:WF t) (hi:i<t.ak.length):WF (nth t.ak i):=h.part (gh hi)
theorem WF.pos {t:aq} (h:WF t) (ha:t.aw=[]):0<t.ak.length:=by grind [WF.first]
theorem Q2 {t:aq} (h:t.aw≠[]) (hidden:Bool):fa hidden t=(decide (t.aw=[105])||(hidden&&decide (t.aw=[118]))):=by
 cases t with
 |mk a ps=>unfold fa;exact iP h
theorem Ly {t:aq} (ha:t.aw=[]) (hp:0<t.ak.length) (he:(nth t.ak 0).aw=[101]) (hidden:Bool):fa hidden t=(decide (t.ak.length=2)&&fa true (nth t.ak 1)):=by
 cases t with
 |mk a ps=>
  simp only[aq.aw] at ha
  subst ha
  cases ps with
  |nil=>simp[aq.ak] at hp
  |cons h rest=>
   have uN:h.aw=[101]:=he
   simp only[fa,uN,aq.ak,ne_eq,not_true_eq_false,if_false,if_true]
   match rest with
   |[]=>simp[fa.oneT]
   |[p]=>simp[fa.oneT,_root_.Go.Proofs.YtkcegcjelmmilaaGreatDoor.nth]
   |p::q::r=>simp[fa.oneT]
theorem Lz {t:aq} (ha:t.aw=[]) (hp:0<t.ak.length) (he:(nth t.ak 0).aw=[116]∨(nth t.ak 0).aw=[99]) (hidden:Bool):fa hidden t=(t.ak.drop 1).all (fa hidden):=by
 cases t with
 |mk a ps=>
  simp only[aq.aw] at ha
  subst ha
  cases ps with
  |nil=>simp[aq.ak] at hp
  |cons h rest=>
   have uN:h.aw=[116]∨h.aw=[99]:=he
   have dL:h.aw≠[101]:=by rcases uN with h|h<;>rw[h]<;>decide
   simp only[fa,dL,uN,aq.ak,ne_eq,not_true_eq_false,if_false,if_true,Lw,List.drop_one,List.tail_cons]
theorem Q3 {t:aq} (ha:t.aw=[]) (hp:0<t.ak.length) (h1:(nth t.ak 0).aw≠[101]) (h2:¬((nth t.ak 0).aw=[116]∨(nth t.ak 0).aw=[99])) (hidden:Bool):fa hidden t=false:=by
 cases t with
 |mk a ps=>
  simp only[aq.aw] at ha
  subst ha
  cases ps with
  |nil=>simp[aq.ak] at hp
  |cons h rest=>
   have h1':h.aw≠[101]:=h1
   have h2':¬(h.aw=[116]∨h.aw=[99]):=h2
   simp only[fa,h1',h2',ne_eq,not_true_eq_false,if_false]
theorem Q4 {ps:List aq} {f:aq->Bool} (hi:i<ps.length):(ps.drop i).all f=(f (nth ps i)&&(ps.drop (i+1)).all f):=by
 rw[List.drop_eq_getElem_cons hi,List.all_cons]
 simp[nth,List.getD,gE hi]
theorem acg {a x y:ai} (h:(decide (a≠x)&&decide (a≠y))=false):a=x∨a=y:=by grind
theorem ach {a x y:ai} (h:(decide (a≠x)&&decide (a≠y))=true):¬(a=x∨a=y):=by grind
def zK (a:ai):Int:=match numeral a with
 |some n=>if 0<=n∧n<=39 then n else -1
 |none=> -1
def uQ (a:ai):Bool:=decide (0<=zK a)
def iT (z:Int) (t:aq):Bool:=
 if z=114∨z=42 then uQ t.aw else if z=110 then(numeral t.aw).isSome else if z=108 then nh t.aw
 else if z=101 then decide (cw t=[101])&&fa false t else fa false t
theorem Q5 {b:Bool} (h:(!b)=false):b=true:=by grind
theorem Q6 {b:Bool} (h:(!b)=true):b=false:=by grind
theorem zM {a b:Prop} [Decidable a] [Decidable b] (h:a):decide a=(decide a||decide b):=by grind
theorem zN {a b:Prop} [Decidable a] [Decidable b] (h:¬a):decide b=(decide a||decide b):=by grind
theorem Q7 {a b:Prop} [Decidable a] [Decidable b] [Decidable c] (h:a):decide a=(decide a||decide b||decide c):=by grind
theorem Q8 {a b:Prop} [Decidable a] [Decidable b] [Decidable c] (h:¬a) (h2:b):decide b=(decide a||decide b||decide c):=by grind
theorem Q9 {a b:Prop} [Decidable a] [Decidable b] [Decidable c] (h:¬a) (h2:¬b):decide c=(decide a||decide b||decide c):=by grind
theorem zO {a b:Prop} [Decidable a] [Decidable b] (h:(decide a||decide b)=true):a∨b:=by simpa using h
theorem zP {a b:Prop} [Decidable a] [Decidable b] (h:(decide a||decide b)=false):¬(a∨b):=by simpa using h
theorem Ra {a b:Prop} [Decidable a] [Decidable b] [Decidable c] (h:(decide a||decide b||decide c)=true):a∨b∨c:=by grind
theorem Rb {a b:Prop} [Decidable a] [Decidable b] [Decidable c] (h:(decide a||decide b||decide c)=false):¬(a∨b∨c):=by grind
def shapeOf (h:ai):ai:=
 if h=[99,111,110,115,116] then[114,110]
 else if h=[109,111,118]∨h=[111,112,101,110] then[114,114]
 else if h=[97,100,100]∨h=[115,117,98]∨h=[109,117,108] then[114,114,114]
 else if h=[110,101,119] then[114,42]
 else if h=[103,101,116] then[114,114,110]
 else if h=[108,97,98]∨h=[122,101,114,111] then[114,108]
 else if h=[112,97,99,107] then[114,114,101,119]
 else if h=[106,117,109,112]∨h=[104,97,108,116] then[114]
 else[]
def LA (h:ai) (i:Nat):Int:=((h.getD (min i h.length-1) 0).toNat:Int)
def sn (t:aq):Bool:=(decide (shapeOf (cw t)≠[114,42])&&decide (t.ak.length≠(shapeOf (cw t)).length+1))||decide (t.ak.length<2)
def tI (t:aq) (i:Nat):Bool:=iT (LA (shapeOf (cw t)) i) (nth t.ak i)
def lr (t:aq):Bool:=if shapeOf (cw t)=[] then false else if sn t then false
 else decide (∀i,i<t.ak.length->1<=i->tI t i=true)&&(decide (cw t≠[103,101,116])||decide (0<=(numeral (nth t.ak 3).aw).getD 0))
theorem aci {h:ai} (hh:h=[103,101,116]):shapeOf h=[114,114,110]:=by rw[hh];decide
theorem acj {t:aq} (h:sn t=false) (hh:cw t=[103,101,116]):t.ak.length=4:=by grind [sn,aci]
theorem ack {t:aq} (h:sn t=false):2<=t.ak.length:=by grind [sn]
theorem LB {t:aq} (h:shapeOf (cw t)≠[]):t.aw=[]∧0<t.ak.length∧cw t=(nth t.ak 0).aw:=by
 have dL:cw t≠[]:=λhh=>by rw[hh] at h;exact h de
 by_cases ha:t.aw=[]
 ·rcases Nat.eq_zero_or_pos t.ak.length with hz|hz
  ·exact absurd (FT (.inr (List.length_eq_zero_iff.1 hz))) dL
  ·exact⟨ha,hz,FQ ha (gh hz)⟩
 ·exact absurd (FT (.inl ha)) dL
theorem acm (h:ai):(shapeOf h).length<=4:=by grind [shapeOf]
theorem Rc {t:aq} {n:Nat} (hn:n=t.ak.length):((decide (shapeOf (cw t)≠[114,42])&&decide ((n:Int)≠((shapeOf (cw t)).length:Int)+1))||decide ((n:Int)<2))=sn t:=by grind [sn]
theorem Rd {t:aq} (h:shapeOf (cw t)=[]):lr t=false:=by unfold lr;rw[iP h]
theorem LC {t:aq} (h:sn t=true):lr t=false:=by grind [lr]
theorem acn {t:aq} (hi:i<t.ak.length) (h1:1<=i) (h:tI t i=false):lr t=false:=by grind [lr]
theorem aco {t:aq} (h1:shapeOf (cw t)≠[]) (h2:sn t=false) (h:∀i,i<t.ak.length->1<=i->tI t i=true):
  lr t=(decide (cw t≠[103,101,116])||decide (0<=(numeral (nth t.ak 3).aw).getD 0)):=by grind [lr]
theorem acp {t:aq} (h:lr t=true):0<t.ak.length:=by
 unfold lr at h
 split at h
 ·cases h
 ·rename_i dL;exact(LB dL).2.1
def seen (f:aq->Bool) (s:ai):Bool:=match bA s with
 |some t=>f t
 |none=>false
theorem Iz {f:aq->Bool} {s:ai} {t:aq} (h:∀t',bA s=some t'->t=t'):((bA s).isSome&&f t)=seen f s:=by grind [bA,seen]
def IA (t:aq):Bool:=lr t&&(decide ((nth t.ak 0).aw=[106,117,109,112])||decide ((nth t.ak 0).aw=[104,97,108,116]))
abbrev sq (s:ai):Bool:=seen (fa false) s
abbrev sr (s:ai):Bool:=seen lr s
abbrev DO (s:ai):Bool:=seen IA s
def ga (xs:List ai):List (List C):=xs.map λx=>[.val (str x)]
theorem qb (xs:List ai):(ga xs).length=xs.length:=by simp[ga]
theorem Re {xs:List ai} {x:ai} (h:xs[i]?=some x):(ga xs)[i]?=some [.val (str x)]:=by simp[ga,h]
def bc (L:List Nat) (w:World) (v:Value) (xs:List ai):Prop:=bQ L w v (.sl 1 (ga xs))
theorem bc.ext {xs:List ai} (h:bc L w v xs) (k:aj [] w w'):bc L w' v xs:=bQ.ext h k
theorem bc.aD {xs:List ai} (h:bc L w v xs) (k:aj L' w w') (hL:∀x,x∈L'->x∈L):bc L w' v xs:=bQ.aF h (k.mono hL)
theorem dJ {xs:List ai} (h:bc L w v xs):∃a n c,v= .slice a n c∧n=xs.length:=by grind [bc,rC,qb]
theorem Rf {x:ai} (h:cS L w vs [.val (str x)]):vs=[str x]:=by
 match vs,h with
 |[v],h=>obtain⟨h1,_⟩:=h;cases h1;rfl
 |[],h=>exact h.elim
 |_::_::_,h=>exact h.2.elim
theorem pB {a:Option Addr} {n c:Nat} {xs:List ai} {x:ai} (h:bc L w (.slice a n c) xs) (hi:xs[i]?=some x):
  ∃b off,a=some ⟨b,off,none⟩∧fS w b (off+i*1) [str x]:=by
 obtain⟨b,off,vs,ha,hb,hL,hl,hc,hr⟩:=zn h (Re hi)
 rw[Rf hr] at hc
 exact⟨b,off,ha,hc⟩
abbrev bX (xs:List ai) (i:Nat):ai:=xs.getD i []
theorem km {xs:List ai} (h:i<xs.length):xs[i]?=some (bX xs i):=by grind
structure Bk where
 aM:ai
 bY:List ai
 code:List ai
def Bk.enc (b:Bk):List C:=[.val (str b.aM),.sl 1 (ga b.bY),.sl 1 (ga b.code)]
def qP (L:List Nat) (w:World) (v:Value) (b:Bk):Prop:=j1 L w v b.enc
theorem qP.ext {b:Bk} (h:qP L w v b) (k:aj [] w w'):qP L w' v b:=j1.ext h k
theorem Rg {b:Bk} (h:cS L w vs b.enc):∃v1 v2,vs=[str b.aM,v1,v2]∧bc L w v1 b.bY∧bc L w v2 b.code:=by
 rw[Bk.enc] at h
 match vs,h with
 |[v0,v1,v2],h=>obtain⟨h0,h1,h2,_⟩:=h;cases h0;exact⟨v1,v2,rfl,h1,h2⟩
 |[],h=>exact h.elim
 |[_],h=>exact h.2.elim
 |[_,_],h=>exact h.2.2.elim
 |_::_::_::_::_,h=>exact h.2.2.2.elim
theorem DP {b:Bk} (h:qP L w v b):∃a1 n1 c1 a2 n2 c2,v= .agg #[str b.aM,.slice a1 n1 c1,.slice a2 n2 c2]∧
  n1=b.bY.length∧n2=b.code.length∧bc L w (.slice a1 n1 c1) b.bY∧bc L w (.slice a2 n2 c2) b.code:=by
 obtain⟨vs,rfl,hr⟩:=h
 obtain⟨v1,v2,rfl,h1,h2⟩:=Rg hr
 obtain⟨a1,n1,c1,rfl,fx⟩:=dJ h1
 obtain⟨a2,n2,c2,rfl,eV⟩:=dJ h2
 exact⟨a1,n1,c1,a2,n2,c2,rfl,fx,eV,h1,h2⟩
theorem BT {b:Bk} {v1 v2:Value} (h1:bc L w v1 b.bY) (h2:bc L w v2 b.code):qP L w (.agg #[str b.aM,v1,v2]) b:=
 ⟨[str b.aM,v1,v2],rfl,.val _,h1,h2,trivial⟩
def nR (L:List Nat) (w:World) (v:Value) (bs:List Bk):Prop:=bQ L w v (.sl 3 (bs.map Bk.enc))
theorem nR.ext {bs:List Bk} (h:nR L w v bs) (k:aj [] w w'):nR L w' v bs:=bQ.ext h k
theorem zQ {bs:List Bk} (h:nR L w v bs):∃a n c,v= .slice a n c∧n=bs.length:=by grind [nR,rC]
theorem BU {a:Option Addr} {n c:Nat} {bs:List Bk} {k:Bk} (h:nR L w (.slice a n c) bs) (hi:bs[i]?=some k):
  ∃b off a1 n1 c1 a2 n2 c2,a=some ⟨b,off,none⟩∧fS w b (off+i*3) [str k.aM,.slice a1 n1 c1,.slice a2 n2 c2]∧
   n1=k.bY.length∧n2=k.code.length∧bc L w (.slice a1 n1 c1) k.bY∧bc L w (.slice a2 n2 c2) k.code:=by
 obtain⟨b,off,vs,ha,hb,hL,hl,hc,hr⟩:=zn h (show(bs.map Bk.enc)[i]?=some k.enc by simp[hi])
 obtain⟨v1,v2,rfl,h1,h2⟩:=Rg hr
 obtain⟨a1,n1,c1,rfl,fx⟩:=dJ h1
 obtain⟨a2,n2,c2,rfl,eV⟩:=dJ h2
 exact⟨b,off,a1,n1,c1,a2,n2,c2,ha,hc,fx,eV,h1,h2⟩
def IB (p:Prop) (w:World) (b off:Nat) (vs:List Value):Prop:=p->fS w b off vs
theorem IB.ext (h:IB p w b off vs) (k:aj [] w w'):IB p w' b off vs:=λhp=>(h hp).ext k
def IC (p:Prop) (L:List Nat) (w:World) (v:Value) (ts:List aq):Prop:=p->eM L w v ts
theorem IC.ext {ts:List aq} (h:IC p L w v ts) (k:aj [] w w'):IC p L w' v ts:=λhp=>(h hp).ext k
def nob:Bk:=⟨[],[],[]⟩
abbrev bR (bs:List Bk) (i:Nat):Bk:=bs.getD i nob
theorem pC {bs:List Bk} (h:i<bs.length):bs[i]?=some (bR bs i):=by grind
def oJ (bs:List Bk) (l:ai):Int:=match bs.findIdx? (λb=>decide (b.aM=l)) with
 |some i=>(i:Int)
 |none=> -1
theorem Rh {bs:List Bk} {l:ai} (hk:k<bs.length) (h:∀i,i<k->(bR bs i).aM≠l) (hl:(bR bs k).aM=l):oJ bs l=(k:Int):=by
 have:bs.findIdx? (λb=>decide (b.aM=l))=some k:=by
  rw[List.findIdx?_eq_some_iff_getElem]
  refine⟨hk,by simpa[gE hk] using hl,λj hj=>?_⟩
  have:=h j hj
  simpa[gE (Nat.lt_trans hj hk)] using this
 unfold oJ;rw[this]
theorem acr {bs:List Bk} {l:ai} (h:∀i,i<bs.length->(bR bs i).aM≠l):oJ bs l= -1:=by
 have:bs.findIdx? (λb=>decide (b.aM=l))=none:=by
  rw[List.findIdx?_eq_none_iff]
  intro b hb
  obtain⟨i,hi,rfl⟩:=List.getElem_of_mem hb
  have:=h i hi
  simpa[gE hi] using this
 unfold oJ;rw[this]
def rF (code:List ai) (i:Nat):Bool:=sr (bX code i)&&(DO (bX code i)==decide (i+1=code.length))
def lY (b:Bk):Bool:=nh b.aM&&decide (b.bY.length<=40)&&(decide (1<=b.code.length)&&decide (b.code.length<=80))&&
 decide (∀i,i<b.bY.length->sq (bX b.bY i)=true)&&decide (∀i,i<b.code.length->rF b.code i=true)
def ju (bs:List Bk):Bool:=decide (∀i,i<bs.length->lY (bR bs i)=true∧oJ bs (bR bs i).aM=i)&&
 (decide (1<=bs.length)&&decide (bs.length<=40)&&decide ((bR bs 0).aM=[109,97,105,110])&&decide ((bR bs 0).bY.length=0))
def lines (bs:List Bk):Nat:=(bs.map λb=>b.code.length).sum
def BV (bs:List Bk):Int:=if ju bs then(lines bs:Int) else -1
theorem Ri {b:Bk} (h:(nh b.aM&&decide (b.bY.length<=40)&&(decide (1<=b.code.length)&&decide (b.code.length<=80)))=false):lY b=false:=by
 unfold lY;rw[h];rfl
theorem Rj {b:Bk} (hi:i<b.bY.length) (h:sq (bX b.bY i)=false):lY b=false:=by grind [lY]
theorem Rk {b:Bk} (hi:i<b.code.length) (h:rF b.code i=false):lY b=false:=by grind [rF,lY]
theorem Rl {b:Bk} (h:(nh b.aM&&decide (b.bY.length<=40)&&(decide (1<=b.code.length)&&decide (b.code.length<=80)))=true) (h1:∀i,i<b.bY.length->sq (bX b.bY i)=true) 
  (h2:∀i,i<b.code.length->rF b.code i=true):lY b=true:=by grind [lY]
theorem Rm {bs:List Bk} (hi:i<bs.length) (h:¬(lY (bR bs i)=true∧oJ bs (bR bs i).aM=i)):ju bs=false:=by
 unfold ju
 rw[dF (p:=∀i:Nat,i<bs.length->lY (bR bs i)=true∧oJ bs (bR bs i).aM=i) (λhh=>h (hh i hi))]
 rfl
theorem Ro {bs:List Bk} (h:∀i,i<bs.length->lY (bR bs i)=true∧oJ bs (bR bs i).aM=i):
  ju bs=(decide (1<=bs.length)&&decide (bs.length<=40)&&decide ((bR bs 0).aM=[109,97,105,110])&&decide ((bR bs 0).bY.length=0)):=by grind [ju]
theorem ID {b:Bk} (h1:n1=b.bY.length) (h2:n2=b.code.length):(!nh b.aM||decide ((40:Int)<n1)||!(decide ((1:Int)<=n2)&&decide ((n2:Int)<=80)))=
  !(nh b.aM&&decide (b.bY.length<=40)&&(decide (1<=b.code.length)&&decide (b.code.length<=80))):=by grind
theorem LD {code:List ai} {n:Nat} (hn:n=code.length) (hi:i<n):(!sr (bX code i)||(DO (bX code i) !=decide ((i:Int)=(n:Int)-1)))=!rF code i:=by grind [rF]
def Bk.small (b:Bk):Prop:=b.aM.length<1000000000∧b.bY.length<1000000000∧b.code.length<1000000000
def tJ (bs:List Bk):Prop:=bs.length<1000000000∧∀i,i<bs.length->(bR bs i).small
theorem Rp {bs:List Bk} (hk:k<bs.length):lines (bs.take (k+1))=lines (bs.take k)+(bR bs k).code.length:=by
 unfold lines
 rw[List.take_succ_eq_append_getElem hk,List.map_append,List.sum_append]
 simp[gE hk]
theorem Rq {bs:List Bk} (h:tJ bs):∀k,k<=bs.length->lines (bs.take k)<=1000000000*k
 |0,_=>by simp[lines]
 |k+1,hk=>by
  have:=Rq h k om
  have h2:=(h.2 k om).2.2
  rw[Rp om];omega
theorem acs {bs:List Bk} {n:Nat} (hn:n=bs.length) (fx:0<bs.length->n1=(bR bs 0).bY.length):
  ((decide ((1:Int)<=n)&&decide ((n:Int)<=40))&&decide ((bR bs 0).aM=[109,97,105,110])&&decide ((n1:Int)=0))=(decide (1<=bs.length)&&decide (bs.length<=40)&&decide ((bR bs 0).aM=[109,97,105,110])&&decide ((bR bs 0).bY.length=0)):=by grind
theorem acu (s:ai):Lib.trimPrefix s [45]=er s:=by
 unfold Lib.trimPrefix Lib.hasPrefix er
 cases s with
 |nil=>simp
 |cons c r=>
  by_cases h:c=45
  ·subst h;simp
  ·have h2:((45:UInt8)==c)=false:=by simpa using λhe=>h he.symm
   simp[List.isPrefixOf,h2,h]
theorem Rr:∀(l:ai) (n:Nat),l.all gW=true->Lib.decFrom n l=some (l.foldl (λn c=>10*n+(c.toNat-48)) n)
 |[],n,_=>rfl
 |c::r,n,h=>by
  simp only[List.all_cons,aE] at h
  have hc:=(BR c).1 h.1
  have hd:Lib.digitVal c=some (c.toNat-48):=by unfold Lib.digitVal;rw[iP hc]
  simp only[Lib.decFrom,hd,List.foldl_cons]
  rw[show n*10+(c.toNat-48)=10*n+(c.toNat-48) from by omega]
  exact Rr r _ h.2
theorem acv {l:ai} (hl:l≠[]) (h:l.all gW=true):Lib.decNat l=some (val l):=by
 unfold Lib.decNat
 rw[iN (by simpa using hl)]
 exact Rr l 0 h
theorem acw {s:ai} {z:Int} (h:numeral s=some z):Lib.atoi s=some z:=by
 unfold numeral at h
 by_cases h0:s=[48]
 ·rw[iP h0] at h;subst h0;rw[<-h];decide
 ·rw[iN h0] at h
  by_cases h1:(er s).length<1∨3<(er s).length∨(er s).getD 0 0=48
  ·rw[iP h1] at h;cases h
  ·rw[iN h1] at h
   by_cases h2:(er s).all gW=true
   ·rw[iP h2] at h
    have dL:er s≠[]:=λhe=>h1 (.inl (by rw[he];simp))
    have hv:=acv dL h2
    cases s with
    |nil=>exact absurd (by unfold er;simp) dL
    |cons c r=>
     by_cases hc:c=45
     ·subst hc
      have hd:er (45::r)=r:=by unfold er;simp
      have hs:qO (45::r)= -1:=by unfold qO;simp
      rw[hd] at hv h
      rw[hs] at h
      simp only[Lib.atoi,hv,beq_self_eq_true,if_true,Option.map_some]
      rw[<-h];simp
     ·have hd:er (c::r)=c::r:=by unfold er;simp[hc]
      have hs:qO (c::r)=1:=by unfold qO;simp[hc]
      rw[hd] at hv h h2
      rw[hs] at h
      have Rs:=(BR c).1 (by simp only[List.all_cons,aE] at h2;exact h2.1)
      have e1:(c==45)=false:=by simpa using hc
      have e2:(c==43)=false:=by
       have:c≠43:=λhe=>by rw[he] at Rs;exact absurd Rs.1 de
       simpa using this
      simp only[Lib.atoi,e1,e2,hv,Bool.false_eq_true,if_false,Option.map_some]
      rw[<-h];simp
   ·rw[iN h2] at h;cases h
theorem Rt {s:ai} {z:Int} (h:numeral s=some z):s.length<=4:=by grind [numeral,er]
theorem acx (s:ai):(decide (s=[48])||(decide (1<=(er s).length)&&decide ((er s).length<=3)&&(er s).all gW&&decide ((er s).getD 0 0≠48)))=(numeral s).isSome:=by grind [er,gW,numeral]
theorem acy (s:ai):((numeral s).isSome&&(decide (0<=(numeral s).getD 0)&&decide ((numeral s).getD 0<=39)))=uQ s:=by grind [numeral,uQ,zK]
theorem acz {s:ai} (hk:k<s.length) (h:gW (s.getD k 0)=false):s.all gW=false:=by grind
theorem acA (s:ai):(decide (s=[48])||(decide ((1:Int)<=((er s).length:Int))&&decide (((er s).length:Int)<=3)&&(er s).all gW&&decide ((((er s).getD 0 0).toNat:Int)≠48)))=(numeral s).isSome:=by
 rw[<-acx,show decide ((1:Int)<=((er s).length:Int))=decide (1<=(er s).length) from decide_eq_decide.2 om,show decide (((er s).length:Int)<=3)=decide ((er s).length<=3) from decide_eq_decide.2 om,
  show decide ((((er s).getD 0 0).toNat:Int)≠48)=decide ((er s).getD 0 0≠48) from decide_eq_decide.2 (by
   have QW:(48:UInt8).toNat=48:=rfl
   constructor
   ·intro h h2;exact h (by rw[h2];rfl)
   ·intro h h2;exact h (UInt8.toNat_inj.1 om))]
def BW (ts:List aq) (g:aq->Bool):Int:=match ts.findIdx? g with
 |some i=>(i:Int)
 |none=> -1
theorem FU {ts:List aq} (h:i<ts.length):nth ts i=ts[i]:=by grind [nth]
theorem acB {ts:List aq} {g:aq->Bool} (hk:k<ts.length) (h:∀i,i<k->g (nth ts i)=false) (hl:g (nth ts k)=true):BW ts g=(k:Int):=by
 have:ts.findIdx? g=some k:=by
  rw[List.findIdx?_eq_some_iff_getElem]
  refine⟨hk,by rw[<-FU hk];exact hl,λj hj=>?_⟩
  have:=h j hj
  rw[FU (Nat.lt_trans hj hk)] at this
  simpa using this
 unfold BW;rw[this]
theorem acC {ts:List aq} {g:aq->Bool} (h:∀i,i<ts.length->g (nth ts i)=false):BW ts g= -1:=by grind [FU,BW,List.findIdx?_eq_none_iff,List.getElem_of_mem]
theorem acD (ts:List aq) (g:aq->Bool):decide (0<=BW ts g)=ts.any g:=by grind [BW]
def gi (h:ai) (n:Nat):ai:=
 if h=[99,111,110,115,116] then[100,110]
 else if h=[109,111,118]∨h=[111,112,101,110] then[100,115]
 else if h=[97,100,100]∨h=[115,117,98]∨h=[109,117,108] then[100,115,115]
 else if h=[110,101,119] then[100]++List.replicate (n-2) 115
 else if h=[103,101,116] then[100,115,109]
 else if h=[108,97,98] then[100,108]
 else if h=[112,97,99,107] then[100,115,69,87]
 else if h=[122,101,114,111] then[115,108]
 else if h=[106,117,109,112]∨h=[104,97,108,116] then[115]
 else[]
structure Gr (B:Nat) (L:List Nat) (w:World) (T:TypeId) (sz:Nat) (v:Value) (g:Option Nat) (rows:List (List C)):Prop where
 own:∃xs,gO L w T sz v g rows xs
 low:∀b,g=some b->B<=b
 cC:∀x,x∈L->x<w.heap.size
 bsz:B<=w.heap.size
theorem Gr.nil {T:TypeId} (hL:∀x,x∈L->x<w.heap.size) (hB:B<=w.heap.size):Gr B L w T sz (.slice none 0 0) none []:=
 ⟨⟨[],gO.nil _ _ _ _⟩,sm,hL,hB⟩
theorem Gr.aF {T:TypeId} {rows:List (List C)} (h:Gr B L w T sz v g rows) (k:aj L' w w') (hL:∀x,x∈L'->x∈L):Gr B L w' T sz v g rows:=
 ⟨h.own.imp λ_ h=>h.aF k hL,h.low,λx hx=>lL (h.cC x hx) k.size,Nat.le_trans h.bsz k.size⟩
theorem Gr.ext {T:TypeId} {rows:List (List C)} (h:Gr B L w T sz v g rows) (k:aj [] w w'):Gr B L w' T sz v g rows:=h.aF k sm
theorem Gr.aD {T:TypeId} {rows:List (List C)} (h:Gr B L w T sz v g rows) (k:aj L' w w') (hL:∀x,x∈L'->x∈L):Gr B L w' T sz v g rows:=h.aF k hL
theorem Gr.alloc {T:TypeId} {rows:List (List C)} (h:Gr B L w T sz v g rows) (k:aj [] w w') (hz:w'.heap.size=w.heap.size+1):Gr B (w.heap.size::L) w' T sz v g rows:=
 ⟨h.own.imp λ_ h=>(h.more zD).aF k sm,h.low,λx hx=>by rcases mC.1 hx with rfl|hx;omega;have:=h.cC x hx;omega,Nat.le_trans h.bsz k.size⟩
theorem Gr.gP {T:TypeId} {rows:List (List C)} (h:Gr B L w T sz v g rows) (hL:∀x,x∈L'->x∈L):Gr B L' w T sz v g rows:=
 ⟨h.own.imp λ_ h=>h.more λx hx=>.inl (hL x hx),h.low,λx hx=>h.cC x (hL x hx),h.bsz⟩
theorem Gr.done {T:TypeId} {rows:List (List C)} (h:Gr B L w T sz v g rows):bQ L w v (.sl sz rows):=by
 obtain⟨_,h⟩:=h.own;exact h.done
theorem Gr.DQ {T:TypeId} {rows:List (List C)} (h:Gr B L w T sz v g rows) (hb:b∈L):b∉g.toList:=by
 obtain⟨_,h⟩:=h.own;exact h.sep hb
theorem Gr.Ru {T:TypeId} {rows:List (List C)} (h:Gr B L w T sz v g rows) (hb:b<B):b∉g.toList:=by
 intro hx;have:=h.low b (by simpa using hx);omega
theorem Gr.lt {T:TypeId} {rows:List (List C)} (h:Gr B L w T sz v g rows):∀x,x∈g.toList->x<w.heap.size:=by
 obtain⟨_,h⟩:=h.own;intro x hx;exact h.own.lt x (by simpa using hx)
theorem Gr.all {T:TypeId} {rows:List (List C)} (h:Gr B L w T sz v g rows):∀x,x∈g.toList++L->x<w.heap.size:=by
 intro x hx
 rcases mA.1 hx with hx|hx
 ·exact h.lt x hx
 ·exact h.cC x hx
theorem Gr.since {T:TypeId} {rows:List (List C)} (h:Gr w0.heap.size L w T sz v g rows) (k0:aj L' w0 w) (k:aj g.toList w w'):aj L' w0 w':=
 k0.since k λx hx=>.inr (h.low x (by simpa using hx))
theorem aj.LF (hB:w0.heap.size<=B) (hl:∀b,g=some b->B<=b) (k0:aj L' w0 w) (k:aj g.toList w w'):aj L' w0 w':=
 k0.since k λx hx=>.inr (Nat.le_trans hB (hl x (by simpa using hx)))
section
variable {P:Program} {n:Nat} {ops:Array Oper} {K:Env->World->Prop} {rest:List Oper} {e:Env} {w:World}
 {dst:Option Nat} {ty:TypeId} {pos:String} {after:Array Edge} {g:Option (Nat×Bool)} {x y:Operand}
theorem DR {B:Nat} {L:List Nat} {v:Value} {gb:Option Nat} {rows:List (List C)} {row:List C} {news:List Value} {b U:Nat} (hT:P.underlying t=some (.slice E)) (hE:TI P E sz bytes z) (hg:gate ops e g=true) (hd:bV n dst=true) (hz:Nat.beq z.cells.size sz=true) (fK:Nat.ble bytes 1000=true) 
  (hx:ev e x=v) (hy:ev e y= .slice (some ⟨b,0,none⟩) 1 1) (hO:Gr B L w E sz v gb rows) (hb:aJ w b news.toArray U) (gZ:row.length=sz) (h1:news.all Value.oneCell'=true)
  (hr:cS (gb.toList++L) w news row) (hn:rows.length<100000000)
  (k:∀a' cap' g' w',Gr B L w' E sz (.slice a' (rows.length+1) cap') g' (rows++[row])->aj gb.toList w w'->OW P n ops K rest (bM e dst (.slice a' (rows.length+1) cap')) w'):
  OW P n ops K (⟨dst,.call {callee:=.builtin .append,args:=#[x,y],argTypes:=#[t,t]},ty,pos,after,g⟩::rest) e w:=by
 obtain⟨xs,hR⟩:=hO.own
 have zR:bytes<=1000:=Nat.le_of_ble_eq_true fK
 refine Qv hT hE hg hd hz hx hy hR gZ hb.all (λu hu=>List.all_eq_true.1 h1 u hu) hr hO.cC (Nat.le_trans (Nat.mul_le_mul (show rows.length+1<=100000000 by omega) (show bytes+1<=1001 by omega)) de) ?_
 intro a' cap' g' w' iU hk kz
 refine k a' cap' g' w' ⟨⟨_,iU⟩,λb hb=>?_,λx hx=>lL (hO.cC x hx) hk.size,Nat.le_trans hO.bsz hk.size⟩ hk
 rcases kz with h|h
 ·rw[h] at hb;exact hO.low b hb
 ·rw[h] at hb;cases hb;exact hO.bsz
theorem LG {B:Nat} {L:List Nat} {v u1 u2:Value} {gb:Option Nat} {ts:List aq} {f:aq} {b U:Nat} (hT:P.underlying t=some (.slice E)) (hE:TI P E 2 bytes z) (hg:gate ops e g=true) (hd:bV n dst=true) (hz:Nat.beq z.cells.size 2=true) (fK:Nat.ble bytes 1000=true) 
  (hx:ev e x=v) (hy:ev e y= .slice (some ⟨b,0,none⟩) 1 1) (hO:Gr B L w E 2 v gb (cT ts)) (hb:aJ w b [u1,u2].toArray U)
  (hr:bB (gb.toList++L) w (.agg #[u1,u2]) f) (hn:ts.length<100000000)
  (k:∀a' cap' g' w',Gr B L w' E 2 (.slice a' (ts++[f]).length cap') g' (cT (ts++[f]))->aj gb.toList w w'->OW P n ops K rest (bM e dst (.slice a' (ts++[f]).length cap')) w'):
  OW P n ops K (⟨dst,.call {callee:=.builtin .append,args:=#[x,y],argTypes:=#[t,t]},ty,pos,after,g⟩::rest) e w:=by
 refine DR hT hE hg hd hz fK hx hy hO hb (oG f) ?_ hr.kj (by rw[ia];exact hn) ?_
 ·rw[List.all_eq_true]
  refine λu hu=>cS.FK hr.kj (λc hc v hv=>?_) u hu
  cases f;rw[aq.enc] at hc
  simp only[mC,List.not_mem_nil,or_false] at hc
  rcases hc with h|h
  ·rw[h] at hv;cases hv;rfl
  ·rw[h] at hv;cases hv
 ·intro a' cap' g' w' iU hk
  have e1:(cT ts).length+1=(ts++[f]).length:=by simp[ia]
  have e2:cT ts++[f.enc]=cT (ts++[f]):=by simp[Lg,cT]
  rw[e1] at iU⊢
  rw[e2] at iU
  exact k a' cap' g' w' iU hk
theorem Rv {B:Nat} {L:List Nat} {v:Value} {gb:Option Nat} {ss:List ai} {s:ai} {b U:Nat} (hT:P.underlying t=some (.slice E)) (hE:TI P E 1 bytes z) (hg:gate ops e g=true) (hd:bV n dst=true) (hz:Nat.beq z.cells.size 1=true) (fK:Nat.ble bytes 1000=true) 
  (hx:ev e x=v) (hy:ev e y= .slice (some ⟨b,0,none⟩) 1 1) (hO:Gr B L w E 1 v gb (ga ss)) (hb:aJ w b [str s].toArray U) (hn:ss.length<100000000)
  (k:∀a' cap' g' w',Gr B L w' E 1 (.slice a' (ss++[s]).length cap') g' (ga (ss++[s]))->aj gb.toList w w'->OW P n ops K rest (bM e dst (.slice a' (ss++[s]).length cap')) w'):
  OW P n ops K (⟨dst,.call {callee:=.builtin .append,args:=#[x,y],argTypes:=#[t,t]},ty,pos,after,g⟩::rest) e w:=by
 refine DR (row:=[.val (str s)]) hT hE hg hd hz fK hx hy hO hb rfl rfl ⟨.val _,trivial⟩ (by rw[qb];exact hn) ?_
 intro a' cap' g' w' iU hk
 have e1:(ga ss).length+1=(ss++[s]).length:=by simp[qb]
 have e2:ga ss++[[.val (str s)]]=ga (ss++[s]):=by simp[ga]
 rw[e1] at iU⊢
 rw[e2] at iU
 exact k a' cap' g' w' iU hk
end
theorem Rw {P:Program} {T:Nat} (hT:P.underlying T=some (.slice E)) (hE:TI P E sz bytes z):(Instr.buildSlice T 0 #[]).run P w= .ok (.slice (some ⟨w.heap.size,0,none⟩) 0 0) (w.alloc (.cells #[] E)):=by
 simp[Instr.buildSlice,Sem.run_bind,run_underlying hT,Result.andThen_ok,hE.rD,Instr.fill,newRow];congr 2;apply Array.ext<;>simp
theorem zS {P:Program} {n:Nat} {ops:Array Oper} {K:Env->World->Prop} {rest:List Oper} {e:Env} {w:World} {dst:Option Nat} {ty:TypeId} {pos:String} {after:Array Edge} {g:Option (Nat×Bool)} 
  {T E sz bytes:Nat} {z:Value} (B:Nat) (L:List Nat) (hT:P.underlying T=some (.slice E)) (hE:TI P E sz bytes z) (hg:gate ops e g=true) (hd:bV n dst=true) (hB:B<=w.heap.size) (hL:∀x,x∈L->x<w.heap.size)
  (k:∀w',aj [] w w'->w'.heap.size=w.heap.size+1->Gr B L w' E sz (.slice (some ⟨w.heap.size,0,none⟩) 0 0) (some w.heap.size) []->OW P n ops K rest (bM e dst (.slice (some ⟨w.heap.size,0,none⟩) 0 0)) w'):
  OW P n ops K (⟨dst,.buildSlice T 0 #[],ty,pos,after,g⟩::rest) e w:=
 eQ hg hd (w':=w.alloc (.cells #[] E)) (by simp[execOp,Rw (P:=P) (w:=w) hT hE])
  (k _ (aj.alloc _ _ _) sm ⟨⟨[],⟨by simp,.inr ⟨w.heap.size,0,#[],rfl,rfl,aJ.alloc _ _ _,lR _,by decide,sm,sm⟩⟩,trivial,sm,by intro b hb hx;cases hb;have:=hL _ hx;omega⟩,
   by intro b hb;cases hb;exact hB,λx hx=>by have:=hL x hx;simp;omega,by simp;omega⟩)
theorem qP.kj {x y:Value} {b:Bk} (h:qP L w (.agg #[x,y,z]) b):cS L w [x,y,z] b.enc:=by
 obtain⟨vs,he,hr⟩:=h
 have hv:vs=[x,y,z]:=by
  have:=congrArg (λv=>match v with|Value.agg x=>x.toList|_=>[]) he
  simpa using this.symm
 rw[<-hv];exact hr
theorem Rx {P:Program} {n:Nat} {ops:Array Oper} {K:Env->World->Prop} {rest:List Oper} {e:Env} {w:World} {dst:Option Nat} {ty:TypeId} {pos:String} {after:Array Edge} {g:Option (Nat×Bool)} {x y:Operand} 
  {B:Nat} {L:List Nat} {t E bytes:Nat} {z:Value} {v u1 u2 u3:Value} {gb:Option Nat} {ts:List Bk} {f:Bk} {b U:Nat} (hT:P.underlying t=some (.slice E)) (hE:TI P E 3 bytes z) (hg:gate ops e g=true) (hd:bV n dst=true) (hz:Nat.beq z.cells.size 3=true) (fK:Nat.ble bytes 1000=true)
  (hx:ev e x=v) (hy:ev e y= .slice (some ⟨b,0,none⟩) 1 1) (hO:Gr B L w E 3 v gb (ts.map Bk.enc)) (hb:aJ w b [u1,u2,u3].toArray U)
  (hr:qP (gb.toList++L) w (.agg #[u1,u2,u3]) f) (hn:ts.length<100000000)
  (k:∀a' cap' g' w',Gr B L w' E 3 (.slice a' (ts++[f]).length cap') g' ((ts++[f]).map Bk.enc)->aj gb.toList w w'->OW P n ops K rest (bM e dst (.slice a' (ts++[f]).length cap')) w'):
  OW P n ops K (⟨dst,.call {callee:=.builtin .append,args:=#[x,y],argTypes:=#[t,t]},ty,pos,after,g⟩::rest) e w:=by
 refine DR hT hE hg hd hz fK hx hy hO hb rfl ?_ hr.kj (by simpa using hn) ?_
 ·rw[List.all_eq_true]
  refine λu hu=>cS.FK hr.kj (λc hc v hv=>?_) u hu
  rw[Bk.enc] at hc
  simp only[mC,List.not_mem_nil,or_false] at hc
  rcases hc with h|h|h
  ·rw[h] at hv;cases hv;rfl
  ·rw[h] at hv;cases hv
  ·rw[h] at hv;cases hv
 ·intro a' cap' g' w' iU hk
  have e1:(ts.map Bk.enc).length+1=(ts++[f]).length:=by simp
  have e2:ts.map Bk.enc++[f.enc]=(ts++[f]).map Bk.enc:=by simp
  rw[e1] at iU⊢
  rw[e2] at iU
  exact k a' cap' g' w' iU hk
theorem Gr.tK {T:TypeId} {bs:List Bk} (h:Gr B L w T 3 v g (bs.map Bk.enc)):nR L w v bs:=h.done
/-! ### Owned lists of texts,owned programs -/
def cG (w:World) (T:TypeId) (v:Value) (g:Option Nat) (xs:List ai):Prop:=iH w T 1 v g xs.length (xs.map λx=>str x)
theorem Ry:∀{xs:List ai} {vs:List Value},cS L w vs (ga xs).flatten->vs=xs.map λx=>str x
 |[],vs,h=>by
  cases vs with
  |nil=>rfl
  |cons v vs=>exact h.elim
 |x::xs,vs,h=>by
  cases vs with
  |nil=>exact h.elim
  |cons v vs=>
   obtain⟨h1,h2⟩:=h
   cases h1
   rw[List.map_cons,<-Ry (xs:=xs) h2]
theorem Rz:∀xs:List ai,cS L w (xs.map λx=>str x) (ga xs).flatten
 |[]=>trivial
 |_::xs=>⟨.val _,Rz xs⟩
theorem Gr.uR {T:TypeId} {xs:List ai} (h:Gr B L w T 1 v g (ga xs)):cG w T v g xs:=by
 obtain⟨vs,h⟩:=h.own
 have:=h.own
 rw[Ry h.rep,qb] at this
 exact this
theorem cG.acE {T:TypeId} {xs:List ai} (h:cG w T v g xs) (hL:∀b,g=some b->b∉L):gO L w T 1 v g (ga xs) (xs.map λx=>str x):=
 ⟨by rw[qb];exact h,Rz xs,by intro row hr;simp[ga] at hr;obtain⟨_,_,rfl⟩:=hr;rfl,hL⟩
theorem cG.rep {T:TypeId} {xs:List ai} (h:cG w T v g xs) (hL:∀b,g=some b->b∉L):bc L w v xs:=(h.acE hL).done
theorem cG.aF {T:TypeId} {xs:List ai} (h:cG w T v g xs) (k:aj L w w') (hL:∀b,g=some b->b∉L):cG w' T v g xs:=iH.aF h k hL
theorem cG.ext {T:TypeId} {xs:List ai} (h:cG w T v g xs) (k:aj [] w w'):cG w' T v g xs:=h.aF k sm
def qd (w:World) (T:TypeId) (gs:Option Nat×Option Nat) (vs:List Value) (b:Bk):Prop:=
 ∃v1 v2,vs=[str b.aM,v1,v2]∧cG w T v1 gs.1 b.bY∧cG w T v2 gs.2 b.code
def iV (gs:Option Nat×Option Nat):List Nat:=gs.1.toList++gs.2.toList
def gx (gss:List (Option Nat×Option Nat)):List Nat:=gss.flatMap iV
theorem qd.aF {T:TypeId} {gs:Option Nat×Option Nat} {b:Bk} (h:qd w T gs vs b) (k:aj L w w') (hL:∀x,x∈iV gs->x∉L):qd w' T gs vs b:=by
 obtain⟨v1,v2,e,h1,h2⟩:=h
 exact⟨v1,v2,e,h1.aF k (λb hb=>hL b (by simp[iV,hb])),h2.aF k (λb hb=>hL b (by simp[iV,hb]))⟩
def iL (w:World) (T:TypeId):List (Option Nat×Option Nat)->List (List Value)->List Bk->Prop
 |[],[],[]=>True
 |g::gs,v::vs,b::bs=>qd w T g v b∧iL w T gs vs bs
 |_,_,_=>False
theorem iL.aF {T:TypeId} (k:aj L w w'):∀{gss:List (Option Nat×Option Nat)} {vss:List (List Value)} {bs:List Bk},iL w T gss vss bs->(∀x,x∈gx gss->x∉L)->iL w' T gss vss bs
 |[],[],[],_,_=>trivial
 |g::gs,v::vs,b::bs,h,hL=>⟨h.1.aF k (λx hx=>hL x (by simp[gx,hx])),iL.aF k h.2 (λx hx=>hL x (by simp[gx] at hx⊢;exact .inr hx))⟩
theorem iL.snoc {T:TypeId}:∀{gss:List (Option Nat×Option Nat)} {vss:List (List Value)} {bs:List Bk} {g:Option Nat×Option Nat} {v:List Value} {b:Bk},iL w T gss vss bs->qd w T g v b->iL w T (gss++[g]) (vss++[v]) (bs++[b])
 |[],[],[],_,_,_,_,h=>⟨h,trivial⟩
 |_::_,_::_,_::_,_,_,_,h,k=>⟨h.1,iL.snoc h.2 k⟩
theorem iL.lens {T:TypeId}:∀{gss:List (Option Nat×Option Nat)} {vss:List (List Value)} {bs:List Bk},iL w T gss vss bs->gss.length=bs.length∧vss.length=bs.length∧∀row,row∈vss->row.length=3
 |[],[],[],_=>by simp
 |g::gs,v::vs,b::bs,h=>by
  obtain⟨h1,h2,h3⟩:=iL.lens h.2
  refine⟨by simp[h1],by simp[h2],λrow hr=>?_⟩
  rcases mC.1 hr with rfl|hr
  ·obtain⟨v1,v2,rfl,_⟩:=h.1;rfl
  ·exact h3 row hr
theorem iL.get {T:TypeId}:∀{gss:List (Option Nat×Option Nat)} {vss:List (List Value)} {bs:List Bk},iL w T gss vss bs->∀{i:Nat} {b:Bk},bs[i]?=some b->∃g v,gss[i]?=some g∧vss[i]?=some v∧qd w T g v b
 |_::_,_::_,_::_,h,0,b,hb=>by simp at hb;subst hb;exact⟨_,_,rfl,rfl,h.1⟩
 |_::gs,_::vs,_::bs,h,i+1,b,hb=>by
  obtain⟨g,v,h1,h2,h3⟩:=iL.get h.2 (i:=i) (by simpa using hb)
  exact⟨g,v,by simpa using h1,by simpa using h2,h3⟩
 |[],[],[],_,i,b,hb=>by simp at hb
theorem iL.BX {T:TypeId}:∀{gss:List (Option Nat×Option Nat)} {vss:List (List Value)} {bs:List Bk},iL w T gss vss bs->(∀x,x∈gx gss->x∉L)->cS L w vss.flatten (bs.map Bk.enc).flatten
 |[],[],[],_,_=>trivial
 |g::gs,v::vs,b::bs,h,hL=>by
  obtain⟨v1,v2,rfl,h1,h2⟩:=h.1
  refine⟨.val _,h1.rep (λb hb=>hL b (by simp[gx,iV,hb])),h2.rep (λb hb=>hL b (by simp[gx,iV,hb])),?_⟩
  exact iL.BX h.2 (λx hx=>hL x (by simp[gx] at hx⊢;exact .inr hx))
structure lZ (w:World) (TB TS:TypeId) (v:Value) (g:Option Nat) (gss:List (Option Nat×Option Nat)) (vss:List (List Value)) (bs:List Bk):Prop where
 own:iH w TB 3 v g bs.length vss.flatten
 rows:iL w TS gss vss bs
 nodup:(g.toList++gx gss).Nodup
 lt:∀x,x∈gx gss->x<w.heap.size
theorem lZ.aF {TB TS:TypeId} {gss:List (Option Nat×Option Nat)} {vss:List (List Value)} {bs:List Bk} (h:lZ w TB TS v g gss vss bs) (k:aj L w w') (hL:∀x,x∈g.toList++gx gss->x∉L):lZ w' TB TS v g gss vss bs:=
 ⟨h.own.aF k (λb hb=>hL b (by simp[hb])),h.rows.aF k (λx hx=>hL x (by simp[hx])),h.nodup,λx hx=>lL (h.lt x hx) k.size⟩
theorem lZ.ext {TB TS:TypeId} {gss:List (Option Nat×Option Nat)} {vss:List (List Value)} {bs:List Bk} (h:lZ w TB TS v g gss vss bs) (k:aj [] w w'):lZ w' TB TS v g gss vss bs:=h.aF k sm
theorem bB.LH {A B:List Nat} {t:aq} (h:bB (b::(A++B)) w v t):bB (A++(b::B)) w v t:=j1.fresh h λx hx=>.inl (Qr x hx)
theorem bB.gP {t:aq} (h:bB L w v t) (hL:∀x,x∈L'->x∈L):bB L' w v t:=j1.fresh h λx hx=>.inl (hL x hx)
theorem eM.gP {t:List aq} (h:eM L w v t) (hL:∀x,x∈L'->x∈L):eM L' w v t:=bQ.fresh h λx hx=>.inl (hL x hx)
theorem Gr.trees {T:TypeId} {ts:List aq} (h:Gr B L w T 2 v g (cT ts)):eM L w v ts:=h.done
def gz (z:Int) (t:aq):Bool:=
 if z=100∨z=115 then uQ t.aw else if z=110 then(numeral t.aw).isSome
 else if z=109 then(numeral t.aw).isSome&&decide (0<=(numeral t.aw).getD 0)
 else if z=108 then nh t.aw else if z=69 then(decide (t.ak.length=2)&&decide (cw t=[101]))&&fa false t
 else if z=87 then fa false t else false
def nS (t:aq):Bool:=
 if gi (cw t) t.ak.length=[]∨t.ak.length≠(gi (cw t) t.ak.length).length+1 then false
 else decide (∀i,i<(gi (cw t) t.ak.length).length->gz (((gi (cw t) t.ak.length).getD i 0).toNat:Int) (nth t.ak (i+1))=true)
theorem IE {t:aq} (h:gi (cw t) t.ak.length=[]∨t.ak.length≠(gi (cw t) t.ak.length).length+1):nS t=false:=by
 unfold nS;rw[iP h]
theorem acF {t:aq} (hi:i<(gi (cw t) t.ak.length).length) (h:gz (((gi (cw t) t.ak.length).getD i 0).toNat:Int) (nth t.ak (i+1))=false):nS t=false:=by grind [nS]
theorem acG {t:aq} (h:¬(gi (cw t) t.ak.length=[]∨t.ak.length≠(gi (cw t) t.ak.length).length+1)) 
  (ha:∀i,i<(gi (cw t) t.ak.length).length->gz (((gi (cw t) t.ak.length).getD i 0).toNat:Int) (nth t.ak (i+1))=true):nS t=true:=by grind [nS]
theorem shift {n:Nat} {P Q:Nat->Prop} (h:∀i,i<n->(P i↔Q (i+1))):(∀i,i<n->P i)↔(∀i,i<n+1->1<=i->Q i):=by
 constructor
 ·intro hp i hi h1
  have:=(h (i-1) om).1 (hp (i-1) om)
  rwa [show i-1+1=i from by omega] at this
 ·intro hq i hi
  exact(h i hi).2 (hq (i+1) om om)
theorem zT {t:aq} (σ τ:ai) (ex:Nat->aq->Bool) (h1:gi (cw t) t.ak.length=σ) (h2:shapeOf (cw t)=τ) (hl:σ.length=τ.length) (dL:τ≠[]) (acH:τ≠[114,42]) 
  (hp:∀i u,i<τ.length->gz ((σ.getD i 0).toNat:Int) u=(iT ((τ.getD i 0).toNat:Int) u&&ex i u))
  (hx:t.ak.length=τ.length+1->(decide (cw t≠[103,101,116])||decide (0<=(numeral (nth t.ak 3).aw).getD 0))=decide (∀i,i<τ.length->ex i (nth t.ak (i+1))=true)):nS t=lr t:=by
 have hτ:1<=τ.length:=List.length_pos_iff.2 dL
 have hσ:σ≠[]:=λh=>by rw[h] at hl;simp at hl;omega
 by_cases hn:t.ak.length=τ.length+1
 ·unfold nS lr sn
  rw[h1,h2,iN (by rw[hl];rintro(h|h);exact hσ h;exact h hn),iN dL,hx hn]
  rw[iN (by rw[dF (p:=t.ak.length≠τ.length+1) om,dF (p:=t.ak.length<2) om];simp),<-Bool.decide_and,decide_eq_decide,hl,hn]
  rw[<-shift (P:=λi=>iT ((τ.getD i 0).toNat:Int) (nth t.ak (i+1))=true) (λi hi=>by
   unfold tI LA
   rw[h2,show min (i+1) τ.length-1=i from by omega])]
  constructor
  ·intro h
   refine⟨λi hi=>?_,λi hi=>?_⟩<;>
   ·have:=h i hi
    rw[hp i _ hi,aE] at this
    first|exact this.1|exact this.2
  ·rintro⟨ha,hb⟩ i hi
   rw[hp i _ hi,ha i hi,hb i hi];rfl
 ·rw[IE (.inr (by rw[h1,hl];exact hn)),LC]
  unfold sn
  rw[h2,dT acH,dT hn];rfl
theorem acI (n:Nat) (u:Nat->aq):decide (∀i,i<n->(fun(_:Nat) (_:aq)=>true) i (u i)=true)=true:=by grind
theorem acJ (u:aq):((decide (u.ak.length=2)&&decide (cw u=[101]))&&fa false u)=(decide (cw u=[101])&&fa false u):=by grind [FT,cS.length,FQ,gh,Ly]
theorem acK {n:Nat} {P:Nat->Prop} (h:n<=4) (h0:P 0) (h1:2<=n->P 1) (h2:3<=n->P 2) (h3:4<=n->P 3):∀i,i<n->P i:=by grind
theorem zU {σ τ:ai} {ex:Nat->aq->Bool} (hl:τ.length<=4) (h0:∀u,gz ((σ.getD 0 0).toNat:Int) u=(iT ((τ.getD 0 0).toNat:Int) u&&ex 0 u)) (h1:∀u,2<=τ.length->gz ((σ.getD 1 0).toNat:Int) u=(iT ((τ.getD 1 0).toNat:Int) u&&ex 1 u)) 
  (h2:∀u,3<=τ.length->gz ((σ.getD 2 0).toNat:Int) u=(iT ((τ.getD 2 0).toNat:Int) u&&ex 2 u)) (h3:∀u,4<=τ.length->gz ((σ.getD 3 0).toNat:Int) u=(iT ((τ.getD 3 0).toNat:Int) u&&ex 3 u)):
  ∀i u,i<τ.length->gz ((σ.getD i 0).toNat:Int) u=(iT ((τ.getD i 0).toNat:Int) u&&ex i u):=by grind
theorem RA (u:aq):gz 100 u=uQ u.aw:=by simp[gz]
theorem RB (u:aq):gz 115 u=uQ u.aw:=by simp[gz]
theorem acL (u:aq):gz 110 u=(numeral u.aw).isSome:=by simp[gz]
theorem acM (u:aq):gz 109 u=((numeral u.aw).isSome&&decide (0<=(numeral u.aw).getD 0)):=by simp[gz]
theorem acN (u:aq):gz 108 u=nh u.aw:=by simp[gz]
theorem acO (u:aq):gz 69 u=((decide (u.ak.length=2)&&decide (cw u=[101]))&&fa false u):=by simp[gz]
theorem acP (u:aq):gz 87 u=fa false u:=by simp[gz]
theorem LI (u:aq):iT 114 u=uQ u.aw:=by simp[iT]
theorem acQ (u:aq):iT 42 u=uQ u.aw:=by simp[iT]
theorem RC (u:aq):iT 110 u=(numeral u.aw).isSome:=by simp[iT]
theorem acR (u:aq):iT 108 u=nh u.aw:=by simp[iT]
theorem acS (u:aq):iT 101 u=(decide (cw u=[101])&&fa false u):=by simp[iT]
theorem acT (u:aq):iT 119 u=fa false u:=by simp[iT]
theorem DS (u:aq):gz 100 u=(iT 114 u&&true):=by rw[RA,LI,Bool.and_true]
theorem BY (u:aq):gz 115 u=(iT 114 u&&true):=by rw[RB,LI,Bool.and_true]
theorem acU (u:aq):gz 110 u=(iT 110 u&&true):=by rw[acL,RC,Bool.and_true]
theorem acV (u:aq):gz 109 u=(iT 110 u&&decide (0<=(numeral u.aw).getD 0)):=by rw[acM,RC]
theorem RD (u:aq):gz 108 u=(iT 108 u&&true):=by rw[acN,acR,Bool.and_true]
theorem acW (u:aq):gz 69 u=(iT 101 u&&true):=by rw[acO,acS,Bool.and_true,acJ]
theorem acX (u:aq):gz 87 u=(iT 119 u&&true):=by rw[acP,acT,Bool.and_true]
theorem acY {t:aq} (h:cw t=[110,101,119]):nS t=lr t:=by
 have h1:gi (cw t) t.ak.length=[100]++List.replicate (t.ak.length-2) 115:=by rw[h];rfl
 have h2:shapeOf (cw t)=[114,42]:=by rw[h];rfl
 have hl:(gi (cw t) t.ak.length).length=t.ak.length-2+1:=by rw[h1];simp
 by_cases hn:2<=t.ak.length
 ·unfold nS lr sn
  rw[iN (by rw[hl];rintro(hh|hh);(·rw[h1] at hh;simp at hh);(·omega)),h2,iN de,
   iN (by rw[dF (p:=t.ak.length<2) om];simp),dT (p:=cw t≠[103,101,116]) (by rw[h];decide),Bool.true_or,Bool.and_true,decide_eq_decide,hl]
  rw[show(∀i,i<t.ak.length->1<=i->tI t i=true)↔(∀i,i<(t.ak.length-2+1)+1->1<=i->tI t i=true) from by rw[show t.ak.length-2+1+1=t.ak.length from by omega]]
  refine shift λi hi=>?_
  have e1:gz (((gi (cw t) t.ak.length).getD i 0).toNat:Int) (nth t.ak (i+1))=uQ (nth t.ak (i+1)).aw:=by
   rw[h1]
   cases i with
   |zero=>exact RA _
   |succ i=>
    have:([100]++List.replicate (t.ak.length-2) (115:UInt8)).getD (i+1) 0=115:=by
     simp[List.getD,show i<t.ak.length-2 from by omega]
    rw[this];exact RB _
  have e2:tI t (i+1)=uQ (nth t.ak (i+1)).aw:=by
   unfold tI LA
   rw[h2]
   cases i with
   |zero=>exact LI _
   |succ i=>rw[show min (i+1+1) ([114,42]:ai).length-1=1 from by simp];exact acQ _
  rw[e1,e2]
 ·rw[IE (.inr (by rw[hl];omega)),LC]
  unfold sn;rw[dT (p:=t.ak.length<2) om,Bool.or_true]
theorem RE (t:aq):nS t=lr t:=by
 have nog:∀{τ:ai},cw t≠[103,101,116]->(t.ak.length=τ.length+1->(decide (cw t≠[103,101,116])||decide (0<=(numeral (nth t.ak 3).aw).getD 0))=decide (∀i,i<τ.length->(fun(_:Nat) (_:aq)=>true) i (nth t.ak (i+1))=true)):=by
  intro τ h _;rw[acI _ (λi=>nth t.ak (i+1)),dT h];rfl
 by_cases c1:cw t=[99,111,110,115,116]
 ·exact zT [100,110] [114,110] (λ_ _=>true) (by rw[c1];rfl) (by rw[c1];rfl) rfl de de
   (zU de (λu=>DS u) (λu _=>acU u) (λ_ h=>absurd h de) (λ_ h=>absurd h de)) (nog (by rw[c1];decide))
 by_cases c2:cw t=[109,111,118]∨cw t=[111,112,101,110]
 ·exact zT [100,115] [114,114] (λ_ _=>true) (by rcases c2 with c|c<;>rw[c]<;>rfl) (by rcases c2 with c|c<;>rw[c]<;>rfl) rfl de de
   (zU de (λu=>DS u) (λu _=>BY u) (λ_ h=>absurd h de) (λ_ h=>absurd h de)) (nog (by rcases c2 with c|c<;>rw[c]<;>decide))
 by_cases c3:cw t=[97,100,100]∨cw t=[115,117,98]∨cw t=[109,117,108]
 ·exact zT [100,115,115] [114,114,114] (λ_ _=>true) (by rcases c3 with c|c|c<;>rw[c]<;>rfl) (by rcases c3 with c|c|c<;>rw[c]<;>rfl) rfl de de
   (zU de (λu=>DS u) (λu _=>BY u) (λu _=>BY u) (λ_ h=>absurd h de)) (nog (by rcases c3 with c|c|c<;>rw[c]<;>decide))
 by_cases c4:cw t=[110,101,119]
 ·exact acY c4
 by_cases c5:cw t=[103,101,116]
 ·refine zT [100,115,109] [114,114,110] (λi u=>if i=2 then decide (0<=(numeral u.aw).getD 0) else true) (by rw[c5];rfl) (by rw[c5];rfl) rfl de de
   (zU de (λu=>DS u) (λu _=>BY u) (λu _=>acV u) (λ_ h=>absurd h de)) (λ_=>?_)
  rw[show decide (cw t≠[103,101,116])=false from dF (λh=>h c5),Bool.false_or]
  refine decide_eq_decide.2 ⟨λh=>acK de rfl (λ_=>rfl) (λ_=>by simpa using h) (λh=>by simp at h),λh=>by simpa using h 2 de⟩
 by_cases c6:cw t=[108,97,98]
 ·exact zT [100,108] [114,108] (λ_ _=>true) (by rw[c6];rfl) (by rw[c6];rfl) rfl de de
   (zU de (λu=>DS u) (λu _=>RD u) (λ_ h=>absurd h de) (λ_ h=>absurd h de)) (nog (by rw[c6];decide))
 by_cases c7:cw t=[112,97,99,107]
 ·exact zT [100,115,69,87] [114,114,101,119] (λ_ _=>true) (by rw[c7];rfl) (by rw[c7];rfl) rfl de de
   (zU de (λu=>DS u) (λu _=>BY u) (λu _=>acW u) (λu _=>acX u)) (nog (by rw[c7];decide))
 by_cases c8:cw t=[122,101,114,111]
 ·exact zT [115,108] [114,108] (λ_ _=>true) (by rw[c8];rfl) (by rw[c8];rfl) rfl de de
   (zU de (λu=>BY u) (λu _=>RD u) (λ_ h=>absurd h de) (λ_ h=>absurd h de)) (nog (by rw[c8];decide))
 by_cases c9:cw t=[106,117,109,112]∨cw t=[104,97,108,116]
 ·exact zT [115] [114] (λ_ _=>true) (by rcases c9 with c|c<;>rw[c]<;>rfl) (by rcases c9 with c|c<;>rw[c]<;>rfl) rfl de de
   (zU de (λu=>BY u) (λ_ h=>absurd h de) (λ_ h=>absurd h de) (λ_ h=>absurd h de)) (nog (by rcases c9 with c|c<;>rw[c]<;>decide))
 ·have e1:gi (cw t) t.ak.length=[]:=by unfold gi;rw[iN c1,iN c2,iN c3,iN c4,iN c5,iN c6,iN c7,iN c8,iN c9]
  have e2:shapeOf (cw t)=[]:=by unfold shapeOf;rw[iN c1,iN c2,iN c3,iN c4,iN c5,iN (λh=>by rcases h with h|h;exact c6 h;exact c8 h),iN c7,iN c9]
  rw[IE (.inl e1),Rd e2]
theorem acZ (h:ai) (n:Nat):(gi h n).length<=n+4:=by grind [gi]
theorem LJ {t:aq} (h:WF t):2<=t.size:=by
 cases h with
 |aw a ha=>have:=List.length_pos_iff.2 ha;simp only[aq.size];omega
 |list ps hp hw=>
  cases ps with
  |nil=>exact absurd rfl hp
  |cons q r=>cases q;simp only[aq.size,aq.size.sizes];omega
theorem RF:∀{ps:List aq},(∀p,p∈ps->WF p)->2*ps.length<=aq.size.sizes ps
 |[],_=>by simp[aq.size.sizes]
 |q::ps,h=>by
  have h1:=LJ (h q sm)
  have h2:=RF (ps:=ps) (λp hp=>h p (by simp[hp]))
  simp only[aq.size.sizes,lC];omega
theorem ac0 {t:aq} (h:WF t):2*t.ak.length+1<=t.size:=by cases h<;>grind [aq.ak,aq.size,RF]
def FV (t:aq):Bool:=decide (cw t=[106,117,109,112])||decide (cw t=[104,97,108,116])
theorem ac1 {t:aq} (h:lr t=true):cw t=(nth t.ak 0).aw:=by grind [lr,cw,nth,aq.ak,LB]
theorem ac2 {t:aq} (h:lr t=true):IA t=FV t:=by
 unfold IA FV;rw[h,ac1 h];rfl
inductive Good:aq->Prop
 |aw (a:ai) (h:a≠[]) (hb:a.all eT=true):Good (.mk a [])
 |list (ps:List aq) (h:ps≠[]) (hp:∀p,p∈ps->Good p):Good (.mk [] ps)
theorem Good.wf {t:aq} (h:Good t):WF t:=by
 induction h with
 |aw a h _=>exact .aw a h
 |list ps h _ ih=>exact .list ps h ih
def aq.depth:aq->Nat
 | .mk _ ps=>deeps ps
 where deeps:List aq->Nat
 |[]=>0
 |t::ts=>max (t.depth+1) (deeps ts)
theorem ac3 {ps:List aq}:∀{p:aq},p∈ps->p.depth+1<=aq.depth.deeps ps:=by
 induction ps with
 |nil=>intro p h;simp at h
 |cons q ps ih=>
  intro p h
  rcases mC.1 h with rfl|h
  ·simp only[aq.depth.deeps];omega
  ·have:=ih h;simp only[aq.depth.deeps];omega
theorem LK:∀{ps:List aq},(∀p,p∈ps->p.depth+1<=d)->aq.depth.deeps ps<=d
 |[],_=>by simp[aq.depth.deeps]
 |q::ps,h=>by
  have h1:=h q sm
  have h2:=LK (ps:=ps) (λp hp=>h p (by simp[hp]))
  simp only[aq.depth.deeps];omega
theorem qQ {a:ai} {ps:List aq} (h:a≠[]):(aq.mk a ps).text=a:=by simp[aq.text,h]
theorem su (ps:List aq):(aq.mk [] ps).text=40::(kT ps++[41]):=by simp[aq.text]
theorem qR (t:aq):kT [t]=t.text:=by simp[kT]
theorem qS (t u:aq) (r:List aq):kT (t::u::r)=t.text++32::kT (u::r):=by simp[kT]
theorem RG {rd:ai->Option (aq×ai)} (eI:∀s t r,rd s=some (t,r)->s=t.text++r):∀n s ts r,iu rd n s=some (ts,r)->ts≠[]∧s=kT ts++41::r
 |0,_,_,_,h=>by simp[iu] at h
 |n+1,s,ts,r,h=>by
  unfold iu at h
  cases hr:rd s with
  |none=>simp[hr] at h
  |some q=>
   obtain⟨t,r1⟩:=q
   have ht:=eI s t r1 hr
   simp only[hr] at h
   cases r1 with
   |nil=>simp at h
   |cons c r'=>
    simp only at h
    by_cases h1:c=41
    ·rw[iP h1] at h
     simp at h
     obtain⟨rfl,rfl⟩:=h
     exact⟨by simp,by rw[ht,h1,qR]⟩
    ·rw[iN h1] at h
     by_cases h2:c=32
     ·rw[iP h2] at h
      cases hp:iu rd n r' with
      |none=>simp[hp] at h
      |some q=>
       obtain⟨ts',r''⟩:=q
       simp[hp] at h
       obtain⟨rfl,rfl⟩:=h
       obtain⟨h4,h5⟩:=RG eI n r' ts' r'' hp
       cases ts' with
       |nil=>exact absurd rfl h4
       |cons u us=>exact⟨by simp,by rw[ht,h2,qS,h5];simp⟩
     ·rw[iN h2] at h;cases h
theorem ac4:∀d s t r,ei d s=some (t,r)->s=t.text++r:=by
 have leaf:∀(s:ai) (t:aq) (r:ai),(if s.takeWhile eT=[] then none else some (aq.mk (s.takeWhile eT) [],s.dropWhile eT))=some (t,r)->s=t.text++r:=by
  intro s t r h
  split at h
  ·cases h
  ·rename_i hn
   simp only[Option.some.injEq,Prod.mk.injEq] at h
   rw[<-h.1,<-h.2,qQ hn,List.takeWhile_append_dropWhile]
 intro d
 induction d with
 |zero=>
  intro s t r h
  cases s with
  |nil=>simp[ei] at h
  |cons c s=>
   simp only[ei] at h
   by_cases h1:c=40
   ·rw[iP h1] at h;cases h
   ·rw[iN h1] at h;exact leaf _ _ _ h
 |succ d ih=>
  intro s t r h
  cases s with
  |nil=>simp[ei] at h
  |cons c s=>
   simp only[ei] at h
   by_cases h1:c=40
   ·rw[iP h1] at h
    cases hp:iu (ei d) (s.length+1) s with
    |none=>simp[hp] at h
    |some q=>
     obtain⟨ts',r''⟩:=q
     simp[hp] at h
     obtain⟨h3,h4⟩:=RG ih _ _ _ _ hp
     rw[<-h.1,<-h.2,su,h1,h4];simp
   ·rw[iN h1] at h;exact leaf _ _ _ h
theorem RH {rd:ai->Option (aq×ai)} (d:Nat) (eI:∀s t r,rd s=some (t,r)->Good t∧t.depth<=d):∀n s ts r,iu rd n s=some (ts,r)->ts≠[]∧∀p,p∈ts->Good p∧p.depth<=d
 |0,_,_,_,h=>by simp[iu] at h
 |n+1,s,ts,r,h=>by
  unfold iu at h
  cases hr:rd s with
  |none=>simp[hr] at h
  |some q=>
   obtain⟨t,r1⟩:=q
   have ht:=eI s t r1 hr
   simp only[hr] at h
   cases r1 with
   |nil=>simp at h
   |cons c r'=>
    simp only at h
    by_cases h1:c=41
    ·rw[iP h1] at h
     simp at h
     obtain⟨rfl,_⟩:=h
     exact⟨by simp,by intro p hp;simp at hp;subst hp;exact ht⟩
    ·rw[iN h1] at h
     by_cases h2:c=32
     ·rw[iP h2] at h
      cases hp:iu rd n r' with
      |none=>simp[hp] at h
      |some q=>
       obtain⟨ts',r''⟩:=q
       simp[hp] at h
       obtain⟨rfl,_⟩:=h
       obtain⟨_,h4⟩:=RH d eI n r' ts' r'' hp
       exact⟨by simp,by intro p hp;rcases mC.1 hp with rfl|hp;exact ht;exact h4 p hp⟩
     ·rw[iN h2] at h;cases h
theorem all_takeWhile (p:UInt8->Bool):∀s:ai,(s.takeWhile p).all p=true:=by simp_all
theorem ac5:∀d s t r,ei d s=some (t,r)->Good t∧t.depth<=d:=by
 have leaf:∀(d:Nat) (s:ai) (t:aq) (r:ai),(if s.takeWhile eT=[] then none else some (aq.mk (s.takeWhile eT) [],s.dropWhile eT))=some (t,r)->Good t∧t.depth<=d:=by
  intro d s t r h
  split at h
  ·cases h
  ·rename_i hn
   simp only[Option.some.injEq,Prod.mk.injEq] at h
   rw[<-h.1];exact⟨.aw _ hn (all_takeWhile _ _),by simp[aq.depth,aq.depth.deeps]⟩
 intro d
 induction d with
 |zero=>
  intro s t r h
  cases s with
  |nil=>simp[ei] at h
  |cons c s=>
   simp only[ei] at h
   by_cases h1:c=40
   ·rw[iP h1] at h;cases h
   ·rw[iN h1] at h;exact leaf _ _ _ _ h
 |succ d ih=>
  intro s t r h
  cases s with
  |nil=>simp[ei] at h
  |cons c s=>
   simp only[ei] at h
   by_cases h1:c=40
   ·rw[iP h1] at h
    cases hp:iu (ei d) (s.length+1) s with
    |none=>simp[hp] at h
    |some q=>
     obtain⟨ts',r''⟩:=q
     simp[hp] at h
     obtain⟨h3,h4⟩:=RH d ih _ _ _ _ hp
     rw[<-h.1]
     exact⟨.list _ h3 (λp hp=>(h4 p hp).1),LK (λp hp=>by have:=(h4 p hp).2;omega)⟩
   ·rw[iN h1] at h;exact leaf _ _ _ _ h
def Stop (r:ai):Prop:=∀c,r[0]?=some c->eT c=false
theorem LL {p:UInt8->Bool}:∀{a r:ai},a.all p=true->(∀c,r[0]?=some c->p c=false)->(a++r).takeWhile p=a∧(a++r).dropWhile p=r
 |[],[],_,_=>⟨rfl,rfl⟩
 |[],c::r,_,h=>by have:=h c rfl;simp[this]
 |c::a,r,ha,h=>by
  simp only[List.all_cons,aE] at ha
  obtain⟨h1,h2⟩:=LL (a:=a) ha.2 h
  simp[ha.1,h1,h2]
theorem RI {t:aq} (h:Good t):∃c r,t.text=c::r:=by
 cases h with
 |aw a ha _=>
  rw[qQ ha]
  cases a with
  |nil=>exact absurd rfl ha
  |cons c r=>exact⟨c,r,rfl⟩
 |list ps _ _=>exact⟨_,_,su ps⟩
theorem RJ {rd:ai->Option (aq×ai)}:∀(ts:List aq) (n:Nat) (r:ai),ts≠[]->ts.length<=n->(∀t,t∈ts->∀r,Stop r->rd (t.text++r)=some (t,r))->iu rd n (kT ts++41::r)=some (ts,r)
 |[],_,_,h,_,_=>absurd rfl h
 |[t],n,r,_,hn,h=>by
  cases n with
  |zero=>simp at hn
  |succ n=>
   unfold iu
   rw[qR,h t sm (41::r) (by intro c hc;simp at hc;subst hc;decide)]
   simp
 |t::u::us,n,r,_,hn,h=>by
  cases n with
  |zero=>simp at hn
  |succ n=>
   unfold iu
   rw[qS,List.append_assoc,List.cons_append,h t sm (32::(kT (u::us)++41::r)) (by intro c hc;simp at hc;subst hc;decide)]
   have:=RJ (rd:=rd) (u::us) n r sm (by simp at hn⊢;omega) (λt ht=>h t (by simp at ht⊢;exact .inr ht))
   simp[this]
theorem RK:∀ts:List aq,(∀t,t∈ts->Good t)->ts.length<=(kT ts).length
 |[],_=>by simp
 |[t],h=>by obtain⟨c,r,e⟩:=RI (h t sm);rw[qR,e];simp
 |t::u::us,h=>by
  have:=RK (u::us) (λt ht=>h t (by simp at ht⊢;exact .inr ht))
  rw[qS];simp at this⊢;omega
theorem LM:∀(d:Nat) (t:aq) (r:ai),Good t->t.depth<=d->Stop r->ei d (t.text++r)=some (t,r):=by
 intro d
 induction d with
 |zero=>
  intro t r hg hd hr
  cases hg with
  |aw a ha hb=>
   obtain⟨c,a',rfl⟩:∃c a',a=c::a':=by cases a with|nil=>exact absurd rfl ha|cons c r=>exact⟨c,r,rfl⟩
   rw[qQ ha,List.cons_append,FJ 0 c _ (by rintro rfl;simp at hb;exact absurd hb.1 de)]
   obtain⟨h1,h2⟩:=LL hb hr
   rw[List.cons_append] at h1 h2
   rw[h1,h2,iN sm]
  |list ps hp hw=>
   cases ps with
   |nil=>exact absurd rfl hp
   |cons q ps=>simp[aq.depth,aq.depth.deeps] at hd
 |succ d ih=>
  intro t r hg hd hr
  cases hg with
  |aw a ha hb=>
   obtain⟨c,a',rfl⟩:∃c a',a=c::a':=by cases a with|nil=>exact absurd rfl ha|cons c r=>exact⟨c,r,rfl⟩
   rw[qQ ha,List.cons_append,FJ (d+1) c _ (by rintro rfl;simp at hb;exact absurd hb.1 de)]
   obtain⟨h1,h2⟩:=LL hb hr
   rw[List.cons_append] at h1 h2
   rw[h1,h2,iN sm]
  |list ps hp hw=>
   rw[su,List.cons_append,DJ]
   have:=RJ (rd:=ei d) ps ((kT ps++[41]++r).length+1) r hp (by have:=RK ps hw;simp at this⊢;omega)
    (λt ht r hr=>ih t r (hw t ht) (by have:=ac3 ht;simp only[aq.depth] at hd;omega) hr)
   unfold mq
   rw[show rT (d+1)=ei d from funext λ_=>rfl]
   rw[show kT ps++[41]++r=kT ps++41::r from by simp] at this⊢
   rw[this];rfl
theorem LN {t u:aq} (h:Good t) (k:Good u) (e:t.text=u.text):t=u:=by
 have h1:=LM (max t.depth u.depth) t [] h om (by intro c hc;simp at hc)
 have h2:=LM (max t.depth u.depth) u [] k om (by intro c hc;simp at hc)
 rw[e,h2] at h1
 simp at h1;exact h1.symm
theorem wo {s:ai} {t:aq} (h:bA s=some t):Good t∧t.depth<=60∧t.text=s∧s.length<=12000:=by
 have hs:=Lu h
 unfold bA at h
 split at h
 ·cases h
 ·cases hr:ei 60 s with
  |none=>rw[hr] at h;cases h
  |some q=>
   obtain⟨t',r⟩:=q
   rw[hr] at h
   cases r with
   |nil=>
    simp at h;subst h
    have h1:=ac5 _ _ _ _ hr
    have h2:=ac4 _ _ _ _ hr
    exact⟨h1.1,h1.2,by rw[h2];simp,hs⟩
   |cons c r=>cases h
theorem ac6 {t:aq} (h:Good t):bA t.text=if t.depth<=60∧t.text.length<=12000 then some t else none:=by
 split
 ·rename_i hc
  unfold bA
  have:=LM 60 t [] h hc.1 (by intro c hc;simp at hc)
  rw[List.append_nil] at this
  rw[iN om,this]
 ·rename_i hc
  cases hp:bA t.text with
  |none=>rfl
  |some u=>
   obtain⟨h1,h2,h3,h4⟩:=wo hp
   have:=LN h1 h h3
   subst this
   exact absurd ⟨h2,h4⟩ hc
theorem LO {t:aq} (h:Good t) (hd:t.depth<=60) (hl:t.text.length<=12000):bA t.text=some t:=by grind [ac6]
def aq.len:aq->Nat
 | .mk a ps=>if ps=[] then a.length else 1+lens ps
 where lens:List aq->Nat
 |[]=>0
 |t::ts=>t.len+1+lens ts
theorem RL:∀ps:List aq,ps≠[]->(∀p,p∈ps->p.len=p.text.length)->aq.len.lens ps=(kT ps).length+1
 |[],h,_=>absurd rfl h
 |[t],_,h=>by rw[qR];simp only[aq.len.lens,h t sm]
 |t::u::us,_,h=>by
  have:=RL (u::us) sm (λp hp=>h p (by simp at hp⊢;exact .inr hp))
  rw[qS]
  simp only[aq.len.lens,h t sm,lA,lC] at this⊢
  omega
theorem LQ {t:aq} (h:WF t):t.len=t.text.length:=by
 induction h with
 |aw a ha=>rw[qQ ha];simp[aq.len]
 |list ps hp _ ih=>
  rw[su]
  simp only[aq.len,hp,if_false,RL ps hp ih,lC,lA,List.length_nil]
  omega
structure dy where
 aM:ai
 regs:List aq
 code:List aq
def tr (s:ai):aq:=(bA s).getD (.mk [] [])
theorem RM {s:ai} {t:aq} (h:bA s=some t):tr s=t:=by unfold tr;rw[h];rfl
def dQ (b:Bk):dy:=⟨b.aM,b.bY.map tr,b.code.map tr⟩
def BZ (b:Bk):Bool:=decide (b.aM.length<=12000)
def nT (b:Bk):Bool:=lY b&&BZ b
def ni (bs:List Bk):Bool:=ju bs&&bs.all BZ
def bJ (a:ai):aq:=.mk a []
def wq (h:ai) (ts:List aq):aq:=.mk [] (bJ h::ts)
def qe (ps:List ai):ai:=ps.flatMap λp=>32::p
def dR (h:ai) (ps:List ai):ai:=40::(h++qe ps++[41])
theorem RO (t:aq):∀ts:List aq,kT (t::ts)=t.text++qe (ts.map aq.text)
 |[]=>by rw[qR];simp[qe]
 |u::us=>by rw[qS,RO u us];simp[qe]
theorem RP {h:ai} (hh:h≠[]) (ts:List aq):(wq h ts).text=dR h (ts.map aq.text):=by
 unfold wq dR
 rw[su,RO];simp[bJ,qQ hh]
theorem ac7 {h:ai} (h1:h≠[]) (h2:h.all eT=true) {ts:List aq} (hp:∀t,t∈ts->Good t):Good (wq h ts):=by
 refine .list _ sm λp rG=>?_
 rcases mC.1 rG with rfl|rG
 ·exact .aw _ h1 h2
 ·exact hp p rG
theorem RQ {b:Bk} (h:lY b=true):nh b.aM=true∧(∀s,s∈b.bY->∃t,bA s=some t∧fa false t=true)∧∀s,s∈b.code->∃t,bA s=some t∧lr t=true:=by
 unfold lY at h
 simp only[aE,dE] at h
 obtain⟨⟨⟨⟨h1,_⟩,_⟩,h2⟩,h3⟩:=h
 refine⟨h1,λs hs=>?_,λs hs=>?_⟩
 ·obtain⟨i,hi,rfl⟩:=List.getElem_of_mem hs
  have:=h2 i hi
  rw[bX,gG,gE hi] at this
  simp only[Option.getD_some] at this
  unfold sq seen at this
  cases hp:bA b.bY[i] with
  |none=>rw[hp] at this;cases this
  |some t=>rw[hp] at this;exact⟨t,rfl,this⟩
 ·obtain⟨i,hi,rfl⟩:=List.getElem_of_mem hs
  have:=h3 i hi
  unfold rF at this
  rw[aE] at this
  have:=this.1
  rw[bX,gG,gE hi] at this
  simp only[Option.getD_some] at this
  unfold sr seen at this
  cases hp:bA b.code[i] with
  |none=>rw[hp] at this;cases this
  |some t=>rw[hp] at this;exact⟨t,rfl,this⟩
theorem FW {bs:List Bk} (h:ju bs=true):∀b,b∈bs->lY b=true:=by grind [ju,List.getElem_of_mem,gE]
def IF (t:aq):Bool:=decide (t.depth<=60)&&decide (t.len<=12000)
def RR:List aq->ai
 |[]=>[]
 |h::_=>h.aw
mutual
def FX (y:aq):aq->aq
 | .mk a ps=>if a=[118] then y else if a≠[]∨RR ps=[101] then .mk a ps else .mk [] (RS y ps)
def RS (y:aq):List aq->List aq
 |[]=>[]
 |t::ts=>FX y t::RS y ts
end
/-! ### States -/
abbrev TS:=List (Option aq)
def ac8 (a:ai):Nat:=(zK a).toNat
def ac9 (st:TS) (a:ai):Option aq:=st.getD (ac8 a) none
def aT (n:Nat):ai:=if n<10 then[UInt8.ofNat (48+n)] else aT (n/10)++[UInt8.ofNat (48+n%10)]
 termination_by n
def DN (st:TS):List aq->Option (List aq)
 |[]=>some []
 |u::us=>(ac9 st u.aw).bind λx=>(DN st us).map λxs=>x::xs
theorem ada {s:ai} (h:Lib.hasPrefix s [40]=true):∃r,s=40::r:=by
 cases s with
 |nil=>simp[Lib.hasPrefix,List.isPrefixOf] at h
 |cons c r=>simp[Lib.hasPrefix,List.isPrefixOf] at h;exact⟨r,by rw[h]⟩
theorem adb {s:ai} (h:Lib.hasPrefix s [40]=false):∀c r,s=c::r->c≠40:=by
 rintro c r rfl rfl
 simp[Lib.hasPrefix,List.isPrefixOf] at h
theorem ade {s:ai} (h:Lib.hasPrefix s [40]=false) (d:Nat):ei d s=if s.takeWhile eT=[] then none else some (.mk (s.takeWhile eT) [],s.dropWhile eT):=by
 cases s with
 |nil=>rw[Qo];simp
 |cons c r=>rw[FJ d c r (adb h c r rfl)]
theorem adf {s:ai} (h:ei d s=none):mq (d+1) s=none:=by rw[FI];show(match ei d s with|none=>none|some (t,r)=>_)=none;rw[h]
theorem adg {s:ai} {t:aq} (h:ei d s=some (t,[])):mq (d+1) s=none:=by rw[FI];show(match ei d s with|none=>none|some (t,r)=>_)=none;rw[h]
theorem RT {s:ai} {t:aq} {c:UInt8} {r:ai} (h:ei d s=some (t,c::r)):mq (d+1) s=if c=41 then some ([t],r) else if c=32 then(mq (d+1) r).map λp=>(t::p.1,p.2) else none:=by
 rw[FI];show(match ei d s with|none=>none|some (t,r)=>_)=_;rw[h]
theorem LR {s:ai}:(s.drop k).take (s.length-k)=s.drop k:=List.take_of_length_le sm
theorem IG {c:UInt8} (hk:k<256):decide ((c.toNat:Int)≠(k:Int))=decide (c≠UInt8.ofNat k):=decide_eq_decide.2 (by
 have e:(UInt8.ofNat k).toNat=k:=by simp;omega
 constructor
 ·intro h h2;rw[h2,e] at h;exact h rfl
 ·intro h h2;exact h (UInt8.toNat_inj.1 (by rw[e];omega)))
def zW (d:Nat) (s:ai) (t:aq) (r:ai) (ok:Bool):Prop:=(ei d s=some (t,r)∧ok=true)∨(ei d s=none∧ok=false)
theorem zW.le {s r:ai} {t:aq} {ok:Bool} (h:zW d s t r ok) (ho:ok=true):ei d s=some (t,r)∧r.length<s.length:=by
 rcases h with⟨h,_⟩|⟨_,h⟩
 ·obtain⟨k,h1,h2,rfl⟩:=Ij d s t r h
  exact⟨h,by simp;omega⟩
 ·rw[ho] at h;cases h
theorem adh {s r:ai} {t:aq} {ok:Bool} (hm:zW d s t r ok) (h:((!ok||decide (r=[]))||(decide (((r.getD 0 0).toNat:Int)≠32)&&decide (((r.getD 0 0).toNat:Int)≠41)))=true):mq (d+1) s=none:=by
 rcases hm with⟨hr,rfl⟩|⟨hr,rfl⟩
 ·cases r with
  |nil=>exact adg hr
  |cons c r=>
   rw[RT hr]
   simp only[Bool.not_true,Bool.false_or,List.getD_cons_zero,show decide (c::r=[])=false from by simp] at h
   rw[show(32:Int)=((32:Nat):Int) from rfl,show(41:Int)=((41:Nat):Int) from rfl,IG de,IG de,aE] at h
   have h1:¬c=32:=of_decide_eq_true h.1
   have h2:¬c=41:=of_decide_eq_true h.2
   rw[iN h2,iN h1]
 ·exact adf hr
theorem adi {s r:ai} {t:aq} {ok:Bool} (hm:zW d s t r ok) (h:((!ok||decide (r=[]))||(decide (((r.getD 0 0).toNat:Int)≠32)&&decide (((r.getD 0 0).toNat:Int)≠41)))=false):
  0<r.length∧r.length<s.length∧mq (d+1) s=if r.getD 0 0=41 then some ([t],r.drop 1) else(mq (d+1) (r.drop 1)).map λp=>(t::p.1,p.2):=by
 simp only[Bool.or_eq_false_iff,Bool.not_eq_false',decide_eq_false_iff_not] at h
 obtain⟨⟨h1,h2⟩,h3⟩:=h
 obtain⟨hr,hl⟩:=hm.le h1
 cases r with
 |nil=>exact absurd rfl h2
 |cons c r=>
  refine⟨by simp,hl,?_⟩
  rw[RT hr]
  simp only[List.getD_cons_zero,List.drop_one,List.tail_cons] at h3⊢
  by_cases FY:c=41
  ·rw[iP FY,iP FY]
  ·rw[iN FY,iN FY]
   rw[show(32:Int)=((32:Nat):Int) from rfl,show(41:Int)=((41:Nat):Int) from rfl,IG de,IG de,Bool.and_eq_false_iff] at h3
   rcases h3 with h3|h3
   ·rw[iP (by simpa using h3)]
   ·exact absurd (by simpa using h3) FY
theorem adj {s r:ai} {t:aq} {ok:Bool} (hl:s.length<=12000) (hm:zW 60 s t r ok):(ok&&decide (r=[]))=(bA s).isSome∧∀t',bA s=some t'->t=t':=by grind [zW,bA]
theorem adk {b:Bk} (h1:n1=b.bY.length) (h2:n2=b.code.length) 
  (h:(((!nh b.aM||decide ((12000:Int)<(b.aM.length:Int)))||decide ((40:Int)<(n1:Int)))||!(decide ((1:Int)<=(n2:Int))&&decide ((n2:Int)<=80)))=true):nT b=false:=by grind [nT,BZ,cS.length,Ri,ID,Q6]
theorem adl {b:Bk} (h1:n1=b.bY.length) (h2:n2=b.code.length) 
  (h:(((!nh b.aM||decide ((12000:Int)<(b.aM.length:Int)))||decide ((40:Int)<(n1:Int)))||!(decide ((1:Int)<=(n2:Int))&&decide ((n2:Int)<=80)))=false):
  (nh b.aM&&decide (b.bY.length<=40)&&(decide (1<=b.code.length)&&decide (b.code.length<=80)))=true∧BZ b=true:=by grind [BZ,cS.length,ID,Q5]
theorem adm {b:Bk} (hi:i<b.bY.length) (h:sq (bX b.bY i)=false):nT b=false:=by
 unfold nT;rw[Rj hi h];rfl
theorem adn {b:Bk} (hi:i<b.code.length) (h:rF b.code i=false):nT b=false:=by
 unfold nT;rw[Rk hi h];rfl
theorem ado {s:ai} {t:aq} (h:sq s=true) (ht:∀t',bA s=some t'->t=t'):t=tr s:=by grind [bA,tr,seen]
theorem RU {code:List ai} {n:Nat} {t:aq} (hn:n=code.length) (hi:i<n) (ht:∀t',bA (bX code i)=some t'->t=t'):
  ((!(bA (bX code i)).isSome||!nS t)||(FV t !=decide ((i:Int)=(n:Int)-1)))=!rF code i:=by grind [LD,RE,seen,bA,lr,ac2]
theorem adp {code:List ai} {t:aq} (h:rF code i=true) (ht:∀t',bA (bX code i)=some t'->t=t'):t=tr (bX code i):=by grind [rF,bA,tr,seen]
theorem DT {α β:Type} (f:α->β) {xs:List α} {x:α} (h:xs[i]?=some x):(xs.take i).map f++[f x]=(xs.take (i+1)).map f:=by grind [List.getElem?_eq_some_iff,List.take_succ_eq_append_getElem]
theorem F0 {α β:Type} (f:α->β) {xs:List α} (h:xs.length<=i):(xs.take i).map f=xs.map f:=by rw[List.take_of_length_le h]
theorem DU {α β:Type} (f:α->β) {xs:List α} (h:i<=xs.length):((xs.take i).map f).length=i:=by simp;omega
theorem DV {s:ai} {t:aq} (ht:∀t',bA s=some t'->t=t') (h:(bA s).isSome=true):WF t∧t.size<=12001:=by grind [bA,aq.size,tH,zJ]
def uS (ps:List dy) (l:ai):Int:=match ps.findIdx? (λb=>decide (b.aM=l)) with
 |some i=>(i:Int)
 |none=> -1
abbrev eC (ps:List dy) (i:Nat):dy:=ps.getD i ⟨[],[],[]⟩
theorem sv {ps:List dy} (h:i<ps.length):ps[i]?=some (eC ps i):=by grind
def F2 (ps:List dy) (g:dy->Bool):Int:=match ps.findIdx? g with
 |some i=>(i:Int)
 |none=> -1
theorem LS {ps:List dy} (h:i<ps.length):eC ps i=ps[i]:=by grind
theorem adq {ts:List dy} {g:dy->Bool} (hk:k<ts.length) (h:∀i,i<k->g (eC ts i)=false) (hl:g (eC ts k)=true):F2 ts g=(k:Int):=by
 have:ts.findIdx? g=some k:=by
  rw[List.findIdx?_eq_some_iff_getElem]
  refine⟨hk,by rw[<-LS hk];exact hl,λj hj=>?_⟩
  have:=h j hj
  rw[LS (Nat.lt_trans hj hk)] at this
  simpa using this
 unfold F2;rw[this]
theorem adr {ts:List dy} {g:dy->Bool} (h:∀i,i<ts.length->g (eC ts i)=false):F2 ts g= -1:=by grind [LS,F2,List.findIdx?_eq_none_iff,List.getElem_of_mem]
theorem ads {bs:List Bk} (h:i<bs.length):bR bs i=bs[i]:=by grind
theorem RV {bs:List Bk} (hk:k<bs.length):decide ((0:Int)<=uS ((bs.take k).map dQ) (bR bs k).aM)=decide (oJ bs (bR bs k).aM≠(k:Int)):=by
 refine decide_eq_decide.2 ?_
 by_cases hex:∃j,j<k∧(bR bs j).aM=(bR bs k).aM
 ·obtain⟨j,hj,hl⟩:=hex
  have h1:oJ bs (bR bs k).aM≠k:=by
   intro h
   unfold oJ at h
   cases hf:bs.findIdx? (λb=>decide (b.aM=(bR bs k).aM)) with
   |none=>rw[hf] at h;simp at h
   |some i=>
    rw[hf] at h
    have uM:i=k:=Int.ofNat.inj h
    subst uM
    rw[List.findIdx?_eq_some_iff_getElem] at hf
    obtain⟨_,_,cL⟩:=hf
    have:=cL j hj
    rw[<-ads] at this
    simp only[dE] at this
    exact this hl
  have h2:0<=uS ((bs.take k).map dQ) (bR bs k).aM:=by
   unfold uS
   cases hf:((bs.take k).map dQ).findIdx? (λb=>decide (b.aM=(bR bs k).aM)) with
   |some i=>simp
   |none=>
    rw[List.findIdx?_eq_none_iff] at hf
    have:=hf (dQ (bR bs j)) (List.mem_map.2 ⟨bR bs j,by rw[List.mem_take_iff_getElem];exact⟨j,om,by simp[gE (show j<bs.length by omega)]⟩,rfl⟩)
    exact absurd hl (of_decide_eq_false this)
  exact⟨λ_=>h1,λ_=>h2⟩
 ·have h1:oJ bs (bR bs k).aM=k:=Rh hk (λj hj hl=>hex ⟨j,hj,hl⟩) rfl
  have h2:uS ((bs.take k).map dQ) (bR bs k).aM= -1:=by
   unfold uS
   have:((bs.take k).map dQ).findIdx? (λb=>decide (b.aM=(bR bs k).aM))=none:=by
    rw[List.findIdx?_eq_none_iff]
    intro x hx
    obtain⟨b,hb,rfl⟩:=List.mem_map.1 hx
    obtain⟨j,hj,rfl⟩:=List.mem_take_iff_getElem.1 hb
    refine dF λhl=>hex ⟨j,om,?_⟩
    rw[bR,gG,gE om]
    exact hl
   rw[this]
  rw[h1,h2];constructor
  ·intro h;omega
  ·intro h;exact absurd rfl h
theorem adt {bs:List Bk} (hi:i<bs.length) (h:nT (bR bs i)=false∨oJ bs (bR bs i).aM≠i):ni bs=false:=by grind [ni,ju,pC,FW,nT,Rm]
theorem adu {bs:List Bk} (h:∀i,i<bs.length->nT (bR bs i)=true∧oJ bs (bR bs i).aM=i):
  ni bs=(decide (1<=bs.length)&&decide (bs.length<=40)&&decide ((bR bs 0).aM=[109,97,105,110])&&decide ((bR bs 0).bY.length=0)):=by
 unfold ni
 rw[Ro (λi hi=>⟨by have:=(h i hi).1;unfold nT at this;rw[aE] at this;exact this.1,(h i hi).2⟩),show bs.all BZ=true from ?_,Bool.and_true]
 refine List.all_eq_true.2 λb hb=>?_
 obtain⟨i,hi,rfl⟩:=List.getElem_of_mem hb
 have:=(h i hi).1
 unfold nT at this
 rw[aE] at this
 rw[bR,gG,gE hi] at this
 exact this.2
theorem adv {bs:List Bk} (h:¬(1<=bs.length∧bs.length<=40)):ni bs=false:=by grind [ni,ju]
theorem LU:∀(ts:List aq) (t:aq),ts≠[]->kT (ts++[t])=kT ts++32::t.text
 |[],_,h=>absurd rfl h
 |[u],t,_=>by rw[List.cons_append,List.nil_append,qS,qR,qR]
 |u::v::r,t,_=>by
  have:=LU (v::r) t sm
  rw[List.cons_append,List.cons_append,qS,<-List.cons_append,this,qS];simp
def pre (ts:List aq):ai:=if ts=[] then[] else 40::kT ts
theorem RW {ps:List aq} (hk:k<ps.length):pre (ps.take (k+1))=pre (ps.take k)++((if k=0 then 40 else 32)::(nth ps k).text):=by
 have e:ps.take (k+1)=ps.take k++[nth ps k]:=by rw[List.take_succ_eq_append_getElem hk,FU hk]
 rw[e]
 by_cases h0:k=0
 ·subst h0;simp[pre,qR]
 ·have dL:ps.take k≠[]:=by intro h;have:=congrArg List.length h;rw[List.length_take] at this;simp only[List.length_nil] at this;omega
  unfold pre
  rw[iN sm,iN dL,LU _ _ dL,iN h0];simp
theorem RX {t:aq} (cm:WF t) (h:t.ak.length≠0):pre (t.ak.take t.ak.length)++[41]=t.text:=by
 cases cm with
 |aw a _=>simp[aq.ak] at h
 |list ps hp _=>
  rw[su]
  show pre (ps.take ps.length)++[41]=_
  rw[List.take_length]
  unfold pre;rw[iN hp];simp
theorem RY {t:aq} (cm:WF t) (h:t.ak.length=0):t.text=t.aw:=by
 cases cm with
 |aw a ha=>exact qQ ha
 |list ps hp _=>exact absurd (List.length_eq_zero_iff.1 h) hp
theorem RZ {t:aq} (cm:WF t) (hk:k<=t.ak.length):(pre (t.ak.take k)).length<=t.text.length:=by
 by_cases h:t.ak.length=0
 ·rw[show k=0 from by omega];simp[pre]
 ·rw[<-RX cm h,lA]
  have mono:∀j,k<=j->j<=t.ak.length->(pre (t.ak.take k)).length<=(pre (t.ak.take j)).length:=by
   intro j hj
   induction j with
   |zero=>intro _;rw[show k=0 from by omega];exact lR _
   |succ j ih=>
    intro oz
    rcases Nat.lt_or_ge k (j+1) with h|h
    ·have:=ih om om
     rw[RW om,lA];omega
    ·rw[show k=j+1 from by omega];exact lR _
  have:=mono _ hk (lR _)
  omega
def uT (ts:List aq):ai:=40::kT ts
theorem R0 {ps:List aq} (hk:k<ps.length):uT (ps.take (k+1))=(uT (ps.take k)++(if k=0 then[] else[32]))++(nth ps k).text:=by
 have e:ps.take (k+1)=ps.take k++[nth ps k]:=by rw[List.take_succ_eq_append_getElem hk,FU hk]
 rw[e]
 by_cases h0:k=0
 ·subst h0;simp[uT,qR,kT]
 ·have dL:ps.take k≠[]:=by intro h;have:=congrArg List.length h;rw[List.length_take] at this;simp only[List.length_nil] at this;omega
  unfold uT
  rw[LU _ _ dL,iN h0];simp
theorem R1 {t:aq} (cm:WF t) (h:t.aw=[]):uT (t.ak.take t.ak.length)++[41]=t.text:=by
 cases cm with
 |aw a ha=>exact absurd h ha
 |list ps hp _=>
  rw[su]
  show uT (ps.take ps.length)++[41]=_
  rw[List.take_length];rfl
theorem LV {t:aq} (cm:WF t) (ha:t.aw=[]) (hk:k<=t.ak.length):(uT (t.ak.take k)).length<=t.text.length:=by
 rw[<-R1 cm ha,lA]
 have mono:∀j,k<=j->j<=t.ak.length->(uT (t.ak.take k)).length<=(uT (t.ak.take j)).length:=by
  intro j hj
  induction j with
  |zero=>intro _;rw[show k=0 from by omega];exact lR _
  |succ j ih=>
   intro oz
   rcases Nat.lt_or_ge k (j+1) with h|h
   ·have:=ih om om
    rw[R0 om,lA,lA];omega
   ·rw[show k=j+1 from by omega];exact lR _
 have:=mono _ hk (lR _)
 omega
structure R2 (t:aq):Prop where
 wf:WF t
 size:t.size<=12001
 text:t.text.length<=12000
theorem adw {s:ai} {t:aq} (h:bA s=some t):R2 t:=by
 obtain⟨h1,h2,h3,h4⟩:=wo h
 exact⟨h1.wf,zJ h,by rw[h3];exact h4⟩
def DW (ts:List aq):Prop:=ts.length<1000000∧∀t,t∈ts->WF t∧t.size<=100000000∧t.text.length<=100000000
theorem adx {t:aq} (h:Good t):t.size<=2*t.text.length:=by
 induction h with
 |aw a ha hb=>
  have:=List.length_pos_iff.2 ha
  rw[qQ ha]
  simp only[aq.size,aq.size.sizes];omega
 |list ps hp hw ih=>
  have key:∀qs:List aq,(∀p,p∈qs->p.size<=2*p.text.length)->aq.size.sizes qs<=2*(kT qs).length:=by
   intro qs
   induction qs with
   |nil=>intro _;simp[aq.size.sizes]
   |cons q qs uL=>
    intro h
    have h1:=h q sm
    have h2:=uL (λp hp=>h p (by simp[hp]))
    cases qs with
    |nil=>rw[qR];simp only[aq.size.sizes];omega
    |cons u us=>
     rw[qS]
     simp only[aq.size.sizes,lA,lC] at h2⊢;omega
  have:=key ps ih
  rw[su]
  simp only[aq.size,lC,lA,List.length_nil];omega
/-! ### Texts joined -/
theorem R3 (a b:List ai):qe (a++b)=qe a++qe b:=by simp[qe]
def uV (h:ai) (ps:List ai) (k:Nat):ai:=40::(h++qe (ps.take k))
theorem ady {h:ai} {ps:List ai} (hk:k<ps.length):uV h ps (k+1)=(uV h ps k++[32])++bX ps k:=by
 unfold uV
 rw[List.take_succ_eq_append_getElem hk,R3]
 simp[qe,bX,gE hk]
theorem adz {h:ai} {ps:List ai} (hk:ps.length<=k):uV h ps k++[41]=dR h ps:=by
 unfold uV dR;rw[List.take_of_length_le hk];simp
theorem adA {h:ai} {ps:List ai} (k:Nat):(uV h ps k).length+1<=(dR h ps).length:=by
 have:(qe (ps.take k)).length<=(qe ps).length:=by
  have:=R3 (ps.take k) (ps.drop k)
  rw[List.take_append_drop] at this
  rw[this,lA];omega
 simp[uV,dR];omega
/-! ### What the laws count -/
def jv (xs:List ai):Nat:=xs.length+(xs.map List.length).sum
theorem R4 (ps:List ai):(qe ps).length=jv ps:=by induction ps<;>grind [qe,jv]
/-! ### A list that is filled -/
def fill {α:Type} (d:α) (xs:List α) (k:Nat):List α:=xs.take k++List.replicate (xs.length-k) d
/-! ### Packages have two ak -/
inductive DX:aq->Prop
 |aw (a:ai):DX (.mk a [])
 |list (ps:List aq) (h:RR ps=[101]->ps.length=2) (hp:∀p,p∈ps->DX p):DX (.mk [] ps)
theorem adB {t:aq} (cm:WF t):∀h,fa h t=true->DX t:=by
 induction cm with
 |aw a _=>intro _ _;exact .aw a
 |list ps hp hw ih=>
  intro h ht
  cases ps with
  |nil=>exact absurd rfl hp
  |cons hd rest=>
   have qf:∀a,hd.aw=a->a≠[]->DX hd:=λa ha dL=>by
    have:=hw hd sm
    cases this with
    |aw b _=>exact .aw b
    |list qs _ _=>exact absurd ha.symm dL
   unfold fa at ht
   simp only[ne_eq,not_true,if_false] at ht
   by_cases he:hd.aw=[101]
   ·rw[iP he] at ht
    cases rest with
    |nil=>simp[fa.oneT] at ht
    |cons x r2=>
     cases r2 with
     |nil=>
      refine .list _ (λ_=>rfl) λp rG=>?_
      simp only[mC,List.not_mem_nil,or_false] at rG
      rcases rG with rfl|rfl
      ·exact qf _ he de
      ·exact ih p sm true ht
     |cons y r3=>simp[fa.oneT] at ht
   ·rw[iN he] at ht
    by_cases tL:hd.aw=[116]∨hd.aw=[99]
    ·rw[iP tL,Lw,List.all_eq_true] at ht
     refine .list _ (λh=>absurd h he) λp rG=>?_
     rcases mC.1 rG with rfl|rG
     ·rcases tL with h|h
      ·exact qf _ h de
      ·exact qf _ h de
     ·exact ih p (by simp[rG]) h (ht p rG)
    ·rw[iN tL] at ht;cases ht
/-! ### States -/
structure B0 (t:aq):Prop where
 lu:Good t
 fits:IF t=true
 eok:DX t
def OkP (p:List dy):Prop:=p.length<=1000000∧∀b,b∈p->b.regs.length<=40∧∀t,t∈b.regs->B0 t
theorem adD {t:aq} (h:nS t=true):gi (cw t) t.ak.length≠[]∧t.ak.length=(gi (cw t) t.ak.length).length+1∧
  ∀i,i<(gi (cw t) t.ak.length).length->gz (((gi (cw t) t.ak.length).getD i 0).toNat:Int) (nth t.ak (i+1))=true:=by
 unfold nS at h
 split at h
 ·cases h
 ·rename_i hn
  exact⟨λh=>hn (.inl h),Classical.not_not.1 λh=>hn (.inr h),of_decide_eq_true h⟩
/-! ### What it gives -/
section
variable {p:List dy} {st:TS} {o:Nat} {t:aq}
end
/-! ### Sizes of what is given -/
theorem size_pos (t:aq):1<=t.size:=by have:=xR t;omega
theorem LW (t:aq):∀m,t.size<=m->WF t->t.text.length+1<=2*t.size:=by
 intro m
 induction m generalizing t with
 |zero=>intro h;have:=size_pos t;omega
 |succ m ih=>
  intro hm cm
  cases cm with
  |aw a ha=>rw[qQ ha];simp only[aq.size,aq.size.sizes];omega
  |list ps hp hw=>
   rw[su]
   have e:(aq.mk [] ps).size=1+aq.size.sizes ps:=by simp[aq.size]
   rw[e]
   have adE:∀qs:List aq,qs≠[]->(∀p,p∈qs->p.text.length+1<=2*p.size)->(kT qs).length+1<=2*aq.size.sizes qs:=by
    intro qs
    induction qs with
    |nil=>intro h;exact absurd rfl h
    |cons q qs uL=>
     intro _ h
     have h1:=h q sm
     cases qs with
     |nil=>rw[qR];simp only[aq.size.sizes];omega
     |cons u us=>
      have h2:=uL sm (λp hp=>h p (by simp[hp]))
      rw[qS];simp only[aq.size.sizes,lA,lC] at h2⊢;omega
   have az:=adE ps hp (λp rG=>by
    obtain⟨i,hi,rfl⟩:=List.getElem_of_mem rG
    have h3:=QZ (t:=.mk [] ps) (p:=ps[i]) (i:=i) (gE hi)
    exact ih _ om (hw _ rG))
   simp only[lC,lA,List.length_nil];omega
theorem B0.size {t:aq} (h:B0 t):t.size<=24000:=by
 have:=h.fits
 unfold IF at this
 rw[aE,dE,dE] at this
 have h1:=adx h.lu
 have h2:=LQ h.lu.wf
 omega
section
variable {p:List dy} {st:TS} {o:Nat} {t:aq}
end
/-! ### Blocks -/
structure B1 (b:dy):Prop where
 regs:b.regs.length<=40
 rok:∀t,t∈b.regs->B0 t
 code:b.code.length<=80
 cok:∀t,t∈b.code->R2 t∧Good t∧nS t=true
theorem adF {s:ai} {t:aq} (h:bA s=some t) (ht:fa false t=true):B0 t:=by
 obtain⟨h1,h2,h3,h4⟩:=wo h
 refine⟨h1,?_,adB h1.wf _ ht⟩
 unfold IF
 rw[aE,dE,dE,LQ h1.wf,h3]
 exact⟨h2,h4⟩
theorem adG {b:Bk} (h:lY b=true):B1 (dQ b):=by
 obtain⟨_,h2,h3⟩:=RQ h
 unfold lY at h
 simp only[aE,dE] at h
 refine⟨by simp[dQ];omega,λt ht=>?_,by simp[dQ];omega,λt ht=>?_⟩
 ·obtain⟨s,hs,rfl⟩:=List.mem_map.1 ht
  obtain⟨u,hu,hq⟩:=h2 s hs
  rw[RM hu];exact adF hu hq
 ·obtain⟨s,hs,rfl⟩:=List.mem_map.1 ht
  obtain⟨u,hu,hq⟩:=h3 s hs
  rw[RM hu];exact⟨adw hu,(wo hu).1,by rw[RE];exact hq⟩
theorem R5 {bs:List Bk} (h:ju bs=true):OkP (bs.map dQ)∧∀b,b∈bs.map dQ->B1 b:=by
 have hb:=FW h
 have cL:∀b,b∈bs.map dQ->B1 b:=λb hm=>by
  obtain⟨k,hk,rfl⟩:=List.mem_map.1 hm
  exact adG (hb k hk)
 refine⟨⟨?_,λb hm=>⟨(cL b hm).regs,(cL b hm).rok⟩⟩,cL⟩
 unfold ju at h
 simp only[aE,dE] at h
 simp;omega
theorem adH {t:aq} (h:Good t):t.text≠[]:=by grind [RI]
theorem B0.short {t:aq} (h:B0 t):t.text.length<=12000:=by
 have:=h.fits
 unfold IF at this
 rw[aE,dE,dE,LQ h.lu.wf] at this
 exact this.2
structure DY (s:ai) (t:aq):Prop where
 some:∀t',bA s=some t'->t=t'
 none:s=[]->cw t=[]
theorem R6:bA []=none:=by decide
/-! ### Types -/
inductive Ty where
 |i
 |op (f:Bool) (a b:Ty)
def jO (f:Bool):ai:=if f then[62] else[42]
def Ty.au:Ty->aq
 | .i=>bJ [105]
 | .op f a b=>.mk [] [bJ (jO f),a.au,b.au]
def Ty.text (t:Ty):ai:=t.au.text
def Ty.n:Ty->Nat
 | .i=>1
 | .op _ a b=>1+a.n+b.n
theorem adI (f:Bool):Good (bJ (jO f)):=by cases f<;>exact .aw _ de de
theorem Ty.lu (t:Ty):Good t.au:=by
 induction t with
 |i=>exact .aw _ de de
 |op f a b iha ihb=>
  refine .list _ sm λp hp=>?_
  simp only[mC,List.not_mem_nil,or_false] at hp
  rcases hp with rfl|rfl|rfl
  ·exact adI f
  ·exact iha
  ·exact ihb
theorem adJ (f:Bool):(bJ (jO f)).text=jO f:=by cases f<;>exact qQ de
theorem Ty.LX:Ty.i.text=[105]:=qQ de
theorem Ty.IH (f:Bool) (a b:Ty):(Ty.op f a b).text=40::(jO f++32::(a.text++32::(b.text++[41]))):=by
 show(aq.mk [] [bJ (jO f),a.au,b.au]).text=_
 rw[su,qS,qS,qR,adJ]
 simp[Ty.text]
theorem LY (f:Bool):(jO f).length=1:=by cases f<;>rfl
theorem Ty.pos (t:Ty):1<=t.n:=by cases t<;>simp[Ty.n];omega
theorem Ty.len (t:Ty):t.text.length+3<=4*t.n:=by induction t<;>grind [Ty.LX,Ty.n,Ty.IH,LY]
theorem Ty.deep (t:Ty):t.au.depth+1<=t.n:=by
 induction t with
 |i=>simp[Ty.au,bJ,aq.depth,aq.depth.deeps,Ty.n]
 |op f a b iha ihb=>
  have h0:(bJ (jO f)).depth=0:=rfl
  have h1:=a.pos
  have h2:=b.pos
  show aq.depth.deeps [bJ (jO f),a.au,b.au]+1<=_
  simp only[aq.depth.deeps,h0,Ty.n]
  omega
theorem Ty.size (t:Ty):t.au.size<=5*t.n:=by
 induction t with
 |i=>simp[Ty.au,bJ,aq.size,aq.size.sizes,Ty.n]
 |op f a b iha ihb=>
  have h0:(bJ (jO f)).size=2:=by cases f<;>rfl
  show 1+0+aq.size.sizes [bJ (jO f),a.au,b.au]<=_
  simp only[aq.size.sizes,h0,Ty.n];omega
theorem Ty.bA {t:Ty} (h:t.n<=60):bA t.text=some t.au:=LO t.lu (by have:=t.deep;omega) (by have:=t.len;show t.text.length<=_;omega)
theorem Ty.ne (t:Ty):t.text≠[]:=adH t.lu
theorem F3:∀{t u:Ty},t.au=u.au->t=u
 | .i,.i,_=>rfl
 | .i,.op _ _ _,h=>by simp[Ty.au,bJ] at h
 | .op _ _ _,.i,h=>by simp[Ty.au,bJ] at h
 | .op f a b,.op g c d,h=>by
  simp only[Ty.au,aq.mk.injEq,true_and,List.cons.injEq,and_true] at h
  obtain⟨h1,h2,h3⟩:=h
  rw[F3 h2,F3 h3]
  cases f<;>cases g<;>first|rfl|(simp[bJ,jO] at h1)
theorem Ty.inj {t u:Ty} (h:t.text=u.text):t=u:=F3 (LN t.lu u.lu h)
/-! ### Forms that are types -/
mutual
def fh:aq->Nat
 | .mk a ps=>if a≠[] then 1 else jw ps
def jw:List aq->Nat
 |[]=>0
 |t::ts=>fh t+jw ts
end
theorem R7:∀(xs ys:List aq),jw (xs++ys)=jw xs+jw ys:=by intro x;induction x<;>grind [jw]
theorem LZ (t:aq):fh t=if t.aw≠[] then 1 else jw t.ak:=by cases t with|mk a ps=>rw[fh];rfl
theorem R8 {ps:List aq} {p:aq} (h:ps[i]?=some p):jw (ps.take (i+1))=jw (ps.take i)+fh p:=by
 rw[List.take_add_one,h,R7];simp[jw]
mutual
theorem adK:∀t:aq,fh t<=t.size
 | .mk a ps=>by
  have:=Ma ps
  unfold fh
  simp only[aq.size]
  split<;>omega
theorem Ma:∀ps:List aq,jw ps<=aq.size.sizes ps
 |[]=>by simp[jw]
 |t::ts=>by
  have h1:=adK t
  have h2:=Ma ts
  simp only[jw,aq.size.sizes];omega
end
theorem Mb {a:ai} (h:a≠[]):fh (bJ a)=1:=by simp[fh,bJ,h]
theorem Ty.fh (t:Ty):fh t.au=t.n:=by
 induction t with
 |i=>simp[Ty.au,Mb,Ty.n]
 |op f a b iha ihb=>
  have h0:Go.Proofs.YtkcegcjelmmilaaGreatDoor.fh (bJ (jO f))=1:=Mb (by cases f<;>decide)
  show Go.Proofs.YtkcegcjelmmilaaGreatDoor.fh (.mk [] [bJ (jO f),a.au,b.au])=_
  simp only[Go.Proofs.YtkcegcjelmmilaaGreatDoor.fh,jw,h0,iha,ihb,Ty.n]
  simp;omega
mutual
def oK:aq->Bool
 | .mk a ps=>if a≠[] then decide (a=[105]) else sw ps
def sw:List aq->Bool
 |[h,x,y]=>(decide (h.aw=[62])||decide (h.aw=[42]))&&(oK x&&oK y)
 |_=>false
end
theorem R9 (t:aq):oK t=if t.aw≠[] then decide (t.aw=[105]) else sw t.ak:=by cases t with|mk a ps=>rw[oK];rfl
theorem adL {t:aq} (hw:WF t):oK t=true↔∃u:Ty,t=u.au:=by
 constructor
 ·intro h
  have key:∀m (t:aq),t.size<=m->WF t->oK t=true->∃u:Ty,t=u.au:=by
   intro m
   induction m with
   |zero=>intro t ht;have:=xR t;omega
   |succ m ih=>
    intro t hm hw h
    cases hw with
    |aw a ha=>
     simp only[oK,iP ha,dE] at h
     exact⟨.i,by rw[h];rfl⟩
    |list ps hp hw=>
     simp only[oK] at h
     rw[iN de] at h
     match ps,h with
     |[hd,x,y],h=>
      simp only[sw,aE,oE,dE] at h
      obtain⟨hs,hx,hy⟩:=h
      simp only[aq.size,aq.size.sizes] at hm
      obtain⟨u,rfl⟩:=ih x om (hw x sm) hx
      obtain⟨v,rfl⟩:=ih y om (hw y sm) hy
      have qf:∀s:ai,s≠[]->hd.aw=s->hd=bJ s:=λs nQ e=>by
       have hwh:=hw hd sm
       cases hwh with
       |aw a ha=>cases e;rfl
       |list qs _ _=>exact absurd e.symm nQ
      rcases hs with hs|hs
      ·exact⟨.op true u v,by rw[qf _ de hs];rfl⟩
      ·exact⟨.op false u v,by rw[qf _ de hs];rfl⟩
  exact key t.size t (lR _) hw h
 ·rintro⟨u,rfl⟩
  induction u with
  |i=>rfl
  |op f a b iha ihb=>
   show oK (.mk [] [bJ (jO f),a.au,b.au])=true
   have:=iha a.lu.wf
   have:=ihb b.lu.wf
   simp only[oK,sw, *]
   cases f<;>simp[bJ,jO,aq.aw]
def jP (t:aq):Bool:=oK t&&decide (fh t<=16)
theorem zX {t:aq} (hw:WF t):jP t=true↔∃u:Ty,t=u.au∧u.n<=16:=by
 unfold jP
 rw[aE,dE,adL hw]
 constructor
 ·rintro⟨⟨u,rfl⟩,h⟩;exact⟨u,rfl,by rw[<-u.fh];exact h⟩
 ·rintro⟨u,rfl,h⟩;exact⟨⟨u,rfl⟩,by rw[u.fh];exact h⟩
/-! ### Names -/
def dN (s:ai):Bool:=decide (1<=s.length)&&decide (s.length<=4)&&(decide (97<=s.getD 0 0)&&decide (s.getD 0 0<=122))&&(s.drop 1).all gW
def qg (s:ai):Bool:=(numeral s).isSome||dN s
theorem uX {s:ai} (h:dN s=true):s≠[]:=by grind [dN]
/-! ### Expressions -/
inductive Ex where
 |at(s:ai)
 |un (h:ai) (a:Ex)
 |bi (h:ai) (a b:Ex)
 |ite (a b c:Ex)
 |lt (x:ai) (a b:Ex)
 |fn (f x:ai) (A B:Ty) (e:Ex)
abbrev gj:ai:=[105,102]
abbrev fV:ai:=[108,101,116]
abbrev gF:ai:=[102,117,110]
abbrev B2:ai:=[102,115,116]
abbrev qT:ai:=[115,110,100]
abbrev j4:ai:=[99,97,108,108]
abbrev xS:ai:=[112,97,105,114]
def Ex.au:Ex->aq
 | .at s=>bJ s
 | .un h a=>.mk [] [bJ h,a.au]
 | .bi h a b=>.mk [] [bJ h,a.au,b.au]
 | .ite a b c=>.mk [] [bJ gj,a.au,b.au,c.au]
 | .lt x a b=>.mk [] [bJ fV,bJ x,a.au,b.au]
 | .fn f x A B e=>.mk [] [bJ gF,bJ f,bJ x,A.au,B.au,e.au]
def fW (h:ai):Bool:=decide (h=B2)||decide (h=qT)
def gH (h:ai):Bool:=decide (h=[43])||decide (h=[45])||decide (h=[42])||decide (h=j4)||decide (h=xS)
def Ex.ok:Ex->Prop
 | .at s=>qg s=true
 | .un h a=>fW h=true∧a.ok
 | .bi h a b=>gH h=true∧a.ok∧b.ok
 | .ite a b c=>a.ok∧b.ok∧c.ok
 | .lt x a b=>dN x=true∧a.ok∧b.ok
 | .fn f x A B e=>dN f=true∧dN x=true∧f≠x∧A.n<=16∧B.n<=16∧e.ok
def Ex.n:Ex->Nat
 | .at _=>1
 | .un _ a=>1+a.n
 | .bi _ a b=>1+a.n+b.n
 | .ite a b c=>1+a.n+b.n+c.n
 | .lt _ a b=>2+a.n+b.n
 | .fn _ _ A B e=>3+A.n+B.n+e.n
mutual
def dw:aq->Bool
 | .mk a ps=>if a≠[] then qg a else nj ps
def nj:List aq->Bool
 |[h,a]=>fW h.aw&&dw a
 |[h,a,b]=>gH h.aw&&(dw a&&dw b)
 |[h,a,b,c]=>if h.aw=gj then dw a&&(dw b&&dw c) else if h.aw=fV then dN a.aw&&(dw b&&dw c) else false
 |[h,f,x,A,B,e]=>decide (h.aw=gF)&&(dN f.aw&&dN x.aw&&decide (f.aw≠x.aw)&&jP A&&jP B&&dw e)
 |_=>false
end
theorem zY {t:aq} {s:ai} (hw:WF t) (hs:s≠[]) (e:t.aw=s):t=bJ s:=by
 cases hw with
 |aw a ha=>cases e;rfl
 |list qs _ _=>exact absurd e.symm hs
theorem Sa {h:ai} (k:fW h=true):h≠[]:=by rintro rfl;cases k
theorem Sb {h:ai} (k:gH h=true):h≠[]:=by rintro rfl;cases k
theorem pD {s:ai} (k:qg s=true):s≠[]:=by rintro rfl;cases k
theorem adN {t:aq} (hw:WF t):dw t=true↔∃e:Ex,t=e.au∧e.ok:=by
 constructor
 ·intro h
  have key:∀m (t:aq),t.size<=m->WF t->dw t=true->∃e:Ex,t=e.au∧e.ok:=by
   intro m
   induction m with
   |zero=>intro t ht;have:=xR t;omega
   |succ m ih=>
    intro t hm hw h
    cases hw with
    |aw a ha=>
     simp only[dw,iP ha] at h
     exact⟨.at a,rfl,h⟩
    |list ps hp hw=>
     simp only[dw] at h
     rw[iN de] at h
     match ps,h with
     |[hd,x],h=>
      simp only[nj,aE] at h
      simp only[aq.size,aq.size.sizes] at hm
      obtain⟨u,rfl,hu⟩:=ih x om (hw x sm) h.2
      exact⟨.un hd.aw u,by rw[zY (hw hd sm) (Sa h.1) rfl];rfl,h.1,hu⟩
     |[hd,x,y],h=>
      simp only[nj,aE] at h
      simp only[aq.size,aq.size.sizes] at hm
      obtain⟨u,rfl,hu⟩:=ih x om (hw x sm) h.2.1
      obtain⟨v,rfl,hv⟩:=ih y om (hw y sm) h.2.2
      exact⟨.bi hd.aw u v,by rw[zY (hw hd sm) (Sb h.1) rfl];rfl,h.1,hu,hv⟩
     |[hd,x,y,z],h=>
      simp only[nj] at h
      simp only[aq.size,aq.size.sizes] at hm
      split at h
      ·rename_i hh
       simp only[aE] at h
       obtain⟨u,rfl,hu⟩:=ih x om (hw x sm) h.1
       obtain⟨v,rfl,hv⟩:=ih y om (hw y sm) h.2.1
       obtain⟨q,rfl,hq⟩:=ih z om (hw z sm) h.2.2
       exact⟨.ite u v q,by rw[zY (hw hd sm) de hh];rfl,hu,hv,hq⟩
      ·split at h
       ·rename_i hh
        simp only[aE] at h
        obtain⟨v,rfl,hv⟩:=ih y om (hw y sm) h.2.1
        obtain⟨q,rfl,hq⟩:=ih z om (hw z sm) h.2.2
        exact⟨.lt x.aw v q,by rw[zY (hw hd sm) de hh,zY (hw x sm) (uX h.1) rfl];rfl,h.1,hv,hq⟩
       ·cases h
     |[hd,f,x,A,B,e],h=>
      simp only[nj,aE,dE] at h
      simp only[aq.size,aq.size.sizes] at hm
      obtain⟨hh,⟨⟨⟨⟨hf,hx⟩,dL⟩,hA⟩,hB⟩,he⟩:=h
      obtain⟨u,rfl,hu⟩:=ih e om (hw e sm) he
      obtain⟨tA,rfl,Sd⟩:=(zX (hw A sm)).1 hA
      obtain⟨tB,rfl,II⟩:=(zX (hw B sm)).1 hB
      exact⟨.fn f.aw x.aw tA tB u,by rw[zY (hw hd sm) de hh,zY (hw f sm) (uX hf) rfl,zY (hw x sm) (uX hx) rfl];rfl,hf,hx,dL,Sd,II,hu⟩
  exact key t.size t (lR _) hw h
 ·rintro⟨e,rfl,ba⟩
  clear hw
  induction e with
  |«at» s=>
   show dw (.mk s [])=true
   simp only[dw];rw[iP (pD ba)];exact ba
  |un h a iha=>
   show dw (.mk [] [bJ h,a.au])=true
   simp only[dw];rw[iN de]
   simp only[nj,aE]
   exact⟨ba.1,iha ba.2⟩
  |bi h a b iha ihb=>
   show dw (.mk [] [bJ h,a.au,b.au])=true
   simp only[dw];rw[iN de]
   simp only[nj,aE]
   exact⟨ba.1,iha ba.2.1,ihb ba.2.2⟩
  |ite a b c iha ihb ihc=>
   show dw (.mk [] [bJ gj,a.au,b.au,c.au])=true
   simp only[dw];rw[iN de]
   simp only[nj]
   rw[iP (show(bJ gj).aw=gj from rfl)]
   simp only[aE]
   exact⟨iha ba.1,ihb ba.2.1,ihc ba.2.2⟩
  |lt x a b iha ihb=>
   show dw (.mk [] [bJ fV,bJ x,a.au,b.au])=true
   simp only[dw];rw[iN de]
   simp only[nj]
   rw[iN (show¬(bJ fV).aw=gj by decide),iP (show(bJ fV).aw=fV from rfl)]
   simp only[aE]
   exact⟨ba.1,iha ba.2.1,ihb ba.2.2⟩
  |fn f x A B e ih=>
   show dw (.mk [] [bJ gF,bJ f,bJ x,A.au,B.au,e.au])=true
   obtain⟨hf,hx,dL,hA,hB,he⟩:=ba
   simp only[dw];rw[iN de]
   simp only[nj,aE,dE]
   exact⟨rfl,⟨⟨⟨⟨hf,hx⟩,dL⟩,(zX A.lu.wf).2 ⟨A,rfl,hA⟩⟩,(zX B.lu.wf).2 ⟨B,rfl,hB⟩⟩,ih he⟩
/-! ### Parts -/
def Ex.head:Ex->ai
 | .at _=>[]
 | .un h _=>h
 | .bi h _ _=>h
 | .ite _ _ _=>gj
 | .lt _ _ _=>fV
 | .fn _ _ _ _ _=>gF
def Ex.from:Ex->Nat
 | .lt _ _ _=>2
 | .fn _ _ _ _ _=>5
 |_=>1
def Ex.kids:Ex->List Ex
 | .at _=>[]
 | .un _ a=>[a]
 | .bi _ a b=>[a,b]
 | .ite a b c=>[a,b,c]
 | .lt _ a b=>[a,b]
 | .fn _ _ _ _ e=>[e]
def Ex.binds:Ex->Nat->List ai
 | .lt x _ _,3=>[x]
 | .fn f x _ _ _,_=>[f,x]
 |_,_=>[]
def Ex.iv:Ex->Bool
 | .at _=>true
 |_=>false
def fL (e:Ex) (j:Nat):Ex:=e.kids.getD j (.at [])
theorem Ex.wf {e:Ex} (h:e.ok):Good e.au:=by
 have num:∀s:ai,qg s=true->s.all eT=true:=λs hs=>by
  unfold qg at hs
  rw[oE] at hs
  have Mc:∀c:UInt8,gW c=true->eT c=true:=λc hc=>by
   unfold gW at hc;unfold eT
   rw[hc];simp
  rcases hs with hs|hs
  ·cases hn:numeral s with
   |none=>rw[hn] at hs;cases hs
   |some z=>
    unfold numeral at hn
    split at hn
    ·rename_i e;rw[e];decide
    ·split at hn
     ·cases hn
     ·split at hn
      ·rename_i ha
       rw[List.all_eq_true] at ha⊢
       intro c hc
       unfold er at ha
       split at ha
       ·rename_i hm
        cases s with
        |nil=>simp at hm
        |cons d r=>
         simp only[List.getD_cons_zero,List.drop_succ_cons,List.drop_zero] at hm ha
         rcases mC.1 hc with rfl|hc
         ·rw[hm.2];decide
         ·exact Mc c (ha c hc)
       ·exact Mc c (ha c hc)
      ·cases hn
  ·cases s with
   |nil=>rfl
   |cons c r=>
    simp only[dN,aE,dE,List.getD_cons_zero,List.drop_succ_cons,List.drop_zero] at hs
    obtain⟨⟨_,h1,h2⟩,h3⟩:=hs
    rw[List.all_cons,aE]
    refine⟨?_,?_⟩
    ·unfold eT;simp[h1,h2]
    ·rw[List.all_eq_true] at h3⊢
     exact λd hd=>Mc d (h3 d hd)
 have nm:∀s:ai,dN s=true->Good (bJ s):=λs hs=>.aw _ (uX hs) (num s (by unfold qg;rw[hs];simp))
 induction e with
 |«at» s=>exact .aw _ (pD h) (num s h)
 |un hd a iha=>
  refine .list _ sm λp hp=>?_
  simp only[mC,List.not_mem_nil,or_false] at hp
  rcases hp with rfl|rfl
  ·obtain⟨k,_⟩:=h
   simp only[fW,oE,dE] at k
   rcases k with k|k<;>(rw[k];exact .aw _ de de)
  ·exact iha h.2
 |bi hd a b iha ihb=>
  refine .list _ sm λp hp=>?_
  simp only[mC,List.not_mem_nil,or_false] at hp
  rcases hp with rfl|rfl|rfl
  ·obtain⟨k,_⟩:=h
   simp only[gH,oE,dE] at k
   rcases k with(((k|k)|k)|k)|k<;>(rw[k];exact .aw _ de de)
  ·exact iha h.2.1
  ·exact ihb h.2.2
 |ite a b c iha ihb ihc=>
  refine .list _ sm λp hp=>?_
  simp only[mC,List.not_mem_nil,or_false] at hp
  rcases hp with rfl|rfl|rfl|rfl
  ·exact .aw _ de de
  ·exact iha h.1
  ·exact ihb h.2.1
  ·exact ihc h.2.2
 |lt x a b iha ihb=>
  refine .list _ sm λp hp=>?_
  simp only[mC,List.not_mem_nil,or_false] at hp
  rcases hp with rfl|rfl|rfl|rfl
  ·exact .aw _ de de
  ·exact nm x h.1
  ·exact iha h.2.1
  ·exact ihb h.2.2
 |fn f x A B e ih=>
  refine .list _ sm λp hp=>?_
  simp only[mC,List.not_mem_nil,or_false] at hp
  obtain⟨hf,hx,_,_,_,he⟩:=h
  rcases hp with rfl|rfl|rfl|rfl|rfl|rfl
  ·exact .aw _ de de
  ·exact nm f hf
  ·exact nm x hx
  ·exact A.lu
  ·exact B.lu
  ·exact ih he
theorem Ex.ak {e:Ex} (h:e.iv=false):e.au.aw=[]∧e.au.ak.length=e.from+e.kids.length∧(nth e.au.ak 0).aw=e.head∧∀j,j<e.kids.length->nth e.au.ak (e.from+j)=(fL e j).au:=by
 cases e with
 |«at» s=>cases h
 |un hd a=>exact⟨rfl,rfl,rfl,λj hj=>by
  have:j=0:=by simp[Ex.kids] at hj;omega
  subst this;rfl⟩
 |bi hd a b=>
  refine⟨rfl,rfl,rfl,λj hj=>?_⟩
  simp only[Ex.kids,lC,List.length_nil] at hj
  rcases(show j=0∨j=1 by omega) with rfl|rfl<;>rfl
 |ite a b c=>
  refine⟨rfl,rfl,rfl,λj hj=>?_⟩
  simp only[Ex.kids,lC,List.length_nil] at hj
  rcases(show j=0∨j=1∨j=2 by omega) with rfl|rfl|rfl<;>rfl
 |lt x a b=>
  refine⟨rfl,rfl,rfl,λj hj=>?_⟩
  simp only[Ex.kids,lC,List.length_nil] at hj
  rcases(show j=0∨j=1 by omega) with rfl|rfl<;>rfl
 |fn f x A B e=>exact⟨rfl,rfl,rfl,λj hj=>by
  have:j=0:=by simp[Ex.kids] at hj;omega
  subst this;rfl⟩
theorem Ex.pos (e:Ex):1<=e.n:=by cases e<;>simp[Ex.n]<;>omega
theorem Ex.fh {e:Ex} (h:e.ok):fh e.au=e.n:=by
 have xT:∀s:ai,s≠[]->Go.Proofs.YtkcegcjelmmilaaGreatDoor.fh (bJ s)=1:=λs hs=>Mb hs
 have nl:∀ps:List aq,Go.Proofs.YtkcegcjelmmilaaGreatDoor.fh (.mk [] ps)=jw ps:=λps=>by simp[Go.Proofs.YtkcegcjelmmilaaGreatDoor.fh]
 induction e with
 |«at» s=>exact xT s (pD h)
 |un hd a iha=>show Go.Proofs.YtkcegcjelmmilaaGreatDoor.fh (.mk [] [bJ hd,a.au])=_;rw[nl];simp only[jw,xT hd (Sa h.1),iha h.2,Ex.n];omega
 |bi hd a b iha ihb=>show Go.Proofs.YtkcegcjelmmilaaGreatDoor.fh (.mk [] [bJ hd,a.au,b.au])=_;rw[nl];simp only[jw,xT hd (Sb h.1),iha h.2.1,ihb h.2.2,Ex.n];omega
 |ite a b c iha ihb ihc=>show Go.Proofs.YtkcegcjelmmilaaGreatDoor.fh (.mk [] [bJ gj,a.au,b.au,c.au])=_;rw[nl];simp only[jw,xT gj de,iha h.1,ihb h.2.1,ihc h.2.2,Ex.n];omega
 |lt x a b iha ihb=>show Go.Proofs.YtkcegcjelmmilaaGreatDoor.fh (.mk [] [bJ fV,bJ x,a.au,b.au])=_;rw[nl];simp only[jw,xT fV de,xT x (uX h.1),iha h.2.1,ihb h.2.2,Ex.n];omega
 |fn f x A B e ih=>
  obtain⟨hf,hx,_,_,_,he⟩:=h
  show Go.Proofs.YtkcegcjelmmilaaGreatDoor.fh (.mk [] [bJ gF,bJ f,bJ x,A.au,B.au,e.au])=_
  rw[nl];simp only[jw,xT gF de,xT f (uX hf),xT x (uX hx),A.fh,B.fh,ih he,Ex.n];omega
theorem F4 {e:Ex} (h:e.ok) (hj:j<e.kids.length):(fL e j).ok∧(fL e j).n<e.n:=by cases e<;>grind [Ex.ok,fL,Ty.n,Ex.n,Ex.kids]
def dW (h:ai):Nat×Nat:=
 if gH h then(1,3) else if h=gj then(1,4) else if h=fV then(2,4) else if h=gF then(5,6) else if fW h then(1,2) else(0,0)
theorem Md {e:Ex} (h:e.ok) (ha:e.iv=false):dW e.head=(e.from,e.from+e.kids.length):=by
 cases e with
 |«at» s=>cases ha
 |un hd a=>
  obtain⟨k,_⟩:=h
  simp only[fW,oE,dE] at k
  rcases k with k|k<;>(subst k;rfl)
 |bi hd a b=>show dW hd=_;unfold dW;rw[h.1];rfl
 |ite a b c=>rfl
 |lt x a b=>rfl
 |fn f x A B e=>rfl
/-! ### Free aK -/
def Fv (x:ai):Ex->Prop
 | .at s=>s=x∧dN x=true
 | .un _ a=>Fv x a
 | .bi _ a b=>Fv x a∨Fv x b
 | .ite a b c=>Fv x a∨Fv x b∨Fv x c
 | .lt y a b=>Fv x a∨(x≠y∧Fv x b)
 | .fn f y _ _ e=>x≠f∧x≠y∧Fv x e
def cH:Ex->List ai->List ai->List ai
 | .at s,bd,l=>if(!dN s||decide (s∈bd)||decide (s∈l))=true then l else l++[s]
 | .un _ a,bd,l=>cH a bd l
 | .bi _ a b,bd,l=>cH b bd (cH a bd l)
 | .ite a b c,bd,l=>cH c bd (cH b bd (cH a bd l))
 | .lt x a b,bd,l=>cH b (bd++[x]) (cH a bd l)
 | .fn f x _ _ e,bd,l=>cH e (bd++[f,x]) l
theorem B3 (x:ai):∀(e:Ex) (bd l:List ai),x∈cH e bd l↔x∈l∨(Fv x e∧x∉bd):=by intro x;induction x<;>grind [cH,Fv,dN]
theorem adO:∀(e:Ex) (bd l:List ai),l.Nodup->(cH e bd l).Nodup:=by intro x;induction x<;>grind [cH]
theorem Me:∀(e:Ex) (bd l:List ai),(cH e bd l).length<=l.length+e.n:=by intro x;induction x<;>grind [cH,Ty.n,Ex.n]
def qh (e:Ex) (bd l:List ai):Nat->List ai
 |0=>l
 |j+1=>cH (fL e j) (bd++e.binds (e.from+j)) (qh e bd l j)
theorem adP {e:Ex} (ha:e.iv=false) (bd l:List ai):cH e bd l=qh e bd l e.kids.length:=by cases e<;>simp_all[Ex.iv,cH,qh,Ex.kids,fL,Ex.binds,Ex.from]
def jQ (x:ai):Ex->Nat
 | .at s=>if s=x then 1 else 0
 | .un _ a=>jQ x a
 | .bi _ a b=>jQ x a+jQ x b
 | .ite a b c=>jQ x a+jQ x b+jQ x c
 | .lt y a b=>jQ x a+if x=y then 0 else jQ x b
 | .fn f y _ _ e=>if x=f∨x=y then 0 else jQ x e
theorem adQ {x:ai} (hx:dN x=true):∀e:Ex,0<jQ x e↔Fv x e:=by intro x;induction x<;>grind [dN,jQ,Fv]
theorem count_le (x:ai):∀e:Ex,jQ x e<=e.n:=by intro x;induction x<;>grind [jQ,Ty.n,Ex.n]
def z1 (x:ai) (e:Ex):Nat->Nat
 |0=>0
 |j+1=>z1 x e j+if x∈e.binds (e.from+j) then 0 else jQ x (fL e j)
theorem Se {e:Ex} (ha:e.iv=false) (x:ai):jQ x e=z1 x e e.kids.length:=by cases e<;>simp_all[Ex.iv,jQ,z1,Ex.kids,fL,Ex.binds,Ex.from]
/-! ### Types of expressions -/
abbrev Sc:=List (ai×Ty)
def look (Γ:Sc) (s:ai):Option Ty:=(Γ.reverse.find? λp=>decide (p.1=s)).map Prod.snd
theorem oL (Γ:Sc) (x s:ai) (T:Ty):look (Γ++[(x,T)]) s=if x=s then some T else look Γ s:=by grind [look]
theorem z6 (Γ:Sc) (f x s:ai) (T U:Ty):look (Γ++[(f,T),(x,U)]) s=if x=s then some U else if f=s then some T else look Γ s:=by grind [look]
def kA (a b:Ty):Bool:=decide (a.text=b.text)
theorem adR {a b:Ty}:kA a b=true↔a=b:=by grind [kA,Ty.inj]
def kB (h:ai):List Ty->Option Ty
 |[a]=>match a with
  | .op false c d=>if h=B2 then some c else if h=qT then some d else none
  |_=>none
 |[a,b]=>
  if h=j4 then match a with
   | .op true c d=>if kA c b then some d else none
   |_=>none
  else if h=xS then(if 1+a.n+b.n<=16 then some (.op false a b) else none)
  else if kA a .i&&kA b .i then some .i else none
 |[a,b,c]=>if kA a .i&&kA b c then some b else none
 |_=>none
def bw:Ex->Sc->Option Ty
 | .at s,Γ=>if dN s then look Γ s else some .i
 | .un h a,Γ=>(bw a Γ).bind λA=>kB h [A]
 | .bi h a b,Γ=>(bw a Γ).bind λA=>(bw b Γ).bind λB=>kB h [A,B]
 | .ite a b c,Γ=>(bw a Γ).bind λA=>(bw b Γ).bind λB=>(bw c Γ).bind λC=>kB gj [A,B,C]
 | .lt x a b,Γ=>(bw a Γ).bind λA=>bw b (Γ++[(x,A)])
 | .fn f x A B e,Γ=>if 1+A.n+B.n<=16 then(bw e (Γ++[(f,.op true A B),(x,A)])).bind λC=>if kA C B then some (.op true A B) else none else none
theorem qi:∀(e:Ex) (Γ Δ:Sc),(∀s,dN s=true->Fv s e->look Γ s=look Δ s)->bw e Γ=bw e Δ
 | .at s,Γ,Δ,h=>by
  unfold bw
  by_cases hn:dN s=true
  ·rw[iP hn,iP hn];exact h s hn ⟨rfl,hn⟩
  ·rw[iN hn,iN hn]
 | .un hd a,Γ,Δ,h=>by unfold bw;rw[qi a Γ Δ h]
 | .bi hd a b,Γ,Δ,h=>by unfold bw;rw[qi a Γ Δ λs hn hs=>h s hn (.inl hs),qi b Γ Δ λs hn hs=>h s hn (.inr hs)]
 | .ite a b c,Γ,Δ,h=>by unfold bw;rw[qi a Γ Δ λs hn hs=>h s hn (.inl hs),qi b Γ Δ λs hn hs=>h s hn (.inr (.inl hs)),qi c Γ Δ λs hn hs=>h s hn (.inr (.inr hs))]
 | .lt x a b,Γ,Δ,h=>by
  unfold bw
  rw[qi a Γ Δ λs hn hs=>h s hn (.inl hs)]
  cases bw a Δ with
  |none=>rfl
  |some A=>
   refine qi b _ _ λs hn hs=>?_
   rw[oL,oL]
   by_cases e:x=s
   ·rw[iP e,iP e]
   ·rw[iN e,iN e];exact h s hn (.inr ⟨λe'=>e e'.symm,hs⟩)
 | .fn f x A B e,Γ,Δ,h=>by
  unfold bw
  rw[qi e _ (Δ++[(f,.op true A B),(x,A)]) λs hn hs=>?_]
  rw[z6,z6]
  by_cases e1:x=s
  ·rw[iP e1,iP e1]
  ·by_cases e2:f=s
   ·rw[iN e1,iN e1,iP e2,iP e2]
   ·rw[iN e1,iN e1,iN e2,iN e2];exact h s hn ⟨λe'=>e2 e'.symm,λe'=>e1 e'.symm,hs⟩
def xU (Γ:Sc):Prop:=∀s T,look Γ s=some T->T.n<=16
theorem F5 {Γ:Sc} (h:xU Γ) {x:ai} {T:Ty} (hT:T.n<=16):xU (Γ++[(x,T)]):=by grind [xU,Ty.n,Ex.n,oL]
theorem Mf {h:ai}:∀{ks:List Ty} {T:Ty},(∀k,k∈ks->k.n<=16)->kB h ks=some T->T.n<=16
 |[],T,_,e=>by cases e
 |[a],T,hk,e=>by
  have ha:=hk a sm
  cases a with
  |i=>cases e
  |op f c d=>
   cases f with
   |true=>cases e
   |false=>
    simp only[Ty.n] at ha
    simp only[kB] at e
    split at e
    ·cases e;omega
    ·split at e
     ·cases e;omega
     ·cases e
 |[a,b],T,hk,e=>by
  have ha:=hk a sm
  have hb:=hk b sm
  simp only[kB] at e
  split at e
  ·cases a with
   |i=>cases e
   |op f c d=>
    cases f with
    |false=>cases e
    |true=>
     simp only at e
     split at e
     ·cases e;simp only[Ty.n] at ha;omega
     ·cases e
  ·split at e
   ·split at e
    ·rename_i hc;cases e;simpa[Ty.n] using hc
    ·cases e
   ·split at e
    ·cases e;decide
    ·cases e
 |[a,b,c],T,hk,e=>by
  simp only[kB] at e
  split at e
  ·cases e;exact hk b sm
  ·cases e
 |_::_::_::_::_,T,_,e=>by cases e
theorem lv:∀{e:Ex} {Γ:Sc} {T:Ty},xU Γ->bw e Γ=some T->T.n<=16
 | .at s,Γ,T,hΓ,h=>by
  unfold bw at h
  split at h
  ·exact hΓ s T h
  ·cases h;decide
 | .un hd a,Γ,T,hΓ,h=>by
  unfold bw at h
  cases ha:bw a Γ with
  |none=>rw[ha] at h;cases h
  |some A=>
   rw[ha,Option.bind_some] at h
   exact Mf (λk hk=>by simp at hk;rw[hk];exact lv hΓ ha) h
 | .bi hd a b,Γ,T,hΓ,h=>by
  unfold bw at h
  cases ha:bw a Γ with
  |none=>rw[ha] at h;cases h
  |some A=>
   cases hb:bw b Γ with
   |none=>rw[ha,hb] at h;cases h
   |some B=>
    rw[ha,hb,Option.bind_some,Option.bind_some] at h
    exact Mf (λk hk=>by simp at hk;rcases hk with rfl|rfl;exact lv hΓ ha;exact lv hΓ hb) h
 | .ite a b c,Γ,T,hΓ,h=>by
  unfold bw at h
  cases ha:bw a Γ with
  |none=>rw[ha] at h;cases h
  |some A=>
   cases hb:bw b Γ with
   |none=>rw[ha,hb] at h;cases h
   |some B=>
    cases hc:bw c Γ with
    |none=>rw[ha,hb,hc] at h;cases h
    |some C=>
     rw[ha,hb,hc,Option.bind_some,Option.bind_some,Option.bind_some] at h
     exact Mf (λk hk=>by simp at hk;rcases hk with rfl|rfl|rfl;exact lv hΓ ha;exact lv hΓ hb;exact lv hΓ hc) h
 | .lt x a b,Γ,T,hΓ,h=>by
  unfold bw at h
  cases ha:bw a Γ with
  |none=>rw[ha] at h;cases h
  |some A=>
   rw[ha,Option.bind_some] at h
   exact lv (F5 hΓ (lv hΓ ha)) h
 | .fn f x A B e,Γ,T,hΓ,h=>by
  unfold bw at h
  split at h
  ·rename_i hc
   cases he:bw e (Γ++[(f,.op true A B),(x,A)]) with
   |none=>rw[he] at h;cases h
   |some C=>
    rw[he,Option.bind_some] at h
    split at h
    ·cases h;simpa[Ty.n] using hc
    ·cases h
  ·cases h
end Go.Proofs.YtkcegcjelmmilaaGreatDoor
