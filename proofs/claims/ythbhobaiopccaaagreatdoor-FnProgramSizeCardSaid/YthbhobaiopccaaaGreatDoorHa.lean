/- Lemmas for the law FnProgramSize, no statement of their own: no conditions. -/
import Derived.Below
import Derived.Calls
import Derived.IntWalk
import Derived.Laws.AppendOwn
import Derived.Laws.Slices
import Derived.Laws.Small
import Derived.Laws.Strings
import Derived.Laws.Strings2
import Derived.Orders
import Derived.Tactics
set_option maxHeartbeats 4000000
set_option linter.unusedVariables false
set_option linter.unusedSimpArgs false
namespace Go.Proofs.YthbhobaiopccaaaGreatDoor
open Go
variable {p:Prop} {a:Int} {E b bytes d i j m n o off sz t:Nat} {l:List Oper} {k k':IntKind} {c:Code} {x y:Operand} {P:Program} {f:FuncId} {w w' w0:World} {S:Value->World->Prop} {v z:Value} {D L L':List Nat} {vs xs:List Value} {g:Option Nat} {ops:Array Oper} {Q:Exit->Act->World->Prop} {F r:List (Value->World->Prop)}
abbrev pt (b:Nat):Value:=.pointer (some ⟨b,0,none⟩)
abbrev sc (b n c:Nat):Value:=.slice (some ⟨b,0,none⟩) n c
theorem om (h:p:=by omega):p:=h
theorem so (h:p:=by simp;omega):p:=h
theorem sm (h:p:=by simp):p:=h
theorem sx (h:p:=by simp<;>omega):p:=h
theorem de (h:p:=by decide):p:=h
abbrev rA:=List.range'
abbrev NG (f:Func):Prop:=(f.name== "runtime.NumGoroutine")=false
theorem ng {f:Func} (h:(f.name== "runtime.NumGoroutine")=false:=by kernel_rfl):NG f:=h
theorem mA {α:Type} {a:α} {s t:List α}:a∈s++t↔a∈s∨a∈t:=List.mem_append
theorem mC {α:Type} {a b:α} {l:List α}:a∈b::l↔a=b∨a∈l:=List.mem_cons
theorem gE {α:Type} {l:List α} (h:i<l.length):l[i]?=some l[i]:=List.getElem?_eq_getElem h
theorem lL {k:Nat} (h:n<m) (g:m<=k):n<k:=Nat.lt_of_lt_of_le h g
theorem lR (n:Nat):n<=n:=Nat.le_refl n
theorem bE (b:Bool):b=true∨b=false:=Bool.eq_false_or_eq_true b
theorem gG {α:Type} {l:List α} {a:α}:l.getD i a=l[i]?.getD a:=List.getD_eq_getElem?_getD
theorem lA {α:Type} {s t:List α}:(s++t).length=s.length+t.length:=List.length_append
theorem lC {α:Type} {a:α} {s:List α}:(a::s).length=s.length+1:=List.length_cons
theorem mR {α:Type} {a:α} (s:List α) {t:List α} (h:a∈t):a∈s++t:=List.mem_append_right s h
theorem mK {α:Type} (y:α) {a:α} {l:List α} (h:a∈l):a∈y::l:=List.mem_cons_of_mem y h
theorem iN {c:Prop} {h:Decidable c} (k:¬c) {α:Type} {t e:α}:(ite c t e)=e:=if_neg k
theorem iP {c:Prop} {h:Decidable c} (k:c) {α:Type} {t e:α}:(ite c t e)=t:=if_pos k
theorem dT [i:Decidable p] (h:p):decide p=true:=decide_eq_true h
theorem dF [i:Decidable p] (h:¬p):decide p=false:=decide_eq_false h
theorem aE (a b:Bool):((a&&b)=true)=(a=true∧b=true):=Bool.and_eq_true a b
theorem oE (a b:Bool):((a||b)=true)=(a=true∨b=true):=Bool.or_eq_true a b
theorem dE [i:Decidable p]:(decide p=true)=p:=decide_eq_true_eq

abbrev Env:=Nat->Value
def gU (e:Env) (d:Nat) (v:Value):Env:=λt=>bif Nat.beq t d then v else e t
theorem mX (e:Env) (d:Nat) (v:Value):gU e d v d=v:=by simp[gU,Nat.beq_refl]
theorem H5 (e:Env) (v:Value) (h:t≠d):gU e d v t=e t:=by grind [gU,Nat.beq,Nat.eq_of_beq_eq_true]
structure Fits (n:Nat) (e:Env) (a:Act):Prop where
 defers:a.defers=[]
 size:a.tmps.size=n
 get:∀t,a.tmps.getD t undef=e t
def ev (e:Env):Operand->Value
 | .tmp t=>e t
 | .const v=>v
 | .global g=>.pointer (some ⟨g,0,none⟩)
 | .func f=>.func (.func f) #[] #[]
theorem Fits.eval {e:Env} {a:Act} (h:Fits n e a):a.eval=ev e:=by
 funext x
 cases x<;>simp[Act.eval,ev]
 rw[<-h.get,Array.getD_eq_getD_getElem?]
theorem Yg (xs:Array Value) (d t:Nat) (v u:Value) (hd:d<xs.size):(xs.setIfInBounds d v).getD t u=if t=d then v else xs.getD t u:=by
 simp only[Array.getD_eq_getD_getElem?,Array.getElem?_setIfInBounds]
 by_cases h:t=d
 ·subst h;simp[hd]
 ·have:¬d=t:=λe=>h e.symm
  simp[h,this]
theorem Fits.put {e:Env} {a:Act} (h:Fits n e a) (hd:Nat.blt d n=true) (v:Value):Fits n (gU e d v) (a.put (some d) v):=by
 have Yh:d<n:=by simpa[Nat.blt_eq] using hd
 refine⟨h.defers,by simp[Act.put,h.size],λt=>?_⟩
 simp only[Act.put]
 rw[Yg _ _ _ _ _ (by rw[h.size];exact Yh),h.get]
 by_cases ht:t=d
 ·subst ht;simp[mX]
 ·rw[H5 _ _ ht,iN ht]
@[reducible] def bM (e:Env):Option Nat->Value->Env
 |some d,v=>gU e d v
 |none,_=>e
def bV (n:Nat):Option Nat->Bool
 |some d=>Nat.blt d n
 |none=>true
theorem Fits.bM {e:Env} {a:Act} (h:Fits n e a) {d:Option Nat} (hd:bV n d=true) (v:Value):Fits n (bM e d v) (a.put d v):=by
 cases d with
 |none=>exact h
 |some d=>exact h.put hd v
def pw (n:Nat) (K:Env->World->Prop) (Q:Exit->Act->World->Prop):Exit->Act->World->Prop
 | .normal,a,w=>∃e,Fits n e a∧K e w
 |x,a,w=>Q x a w
def OW (P:Program) (n:Nat) (ops:Array Oper) (K:Env->World->Prop) (l:List Oper) (e:Env) (w:World):Prop:=
 ∀a,Fits n e a->∀Q,wpList P ops (pw n K Q) l a w
def kR (n:Nat) (N R:Env->World->Prop) (X:Nat->Env->World->Prop):Exit->Act->World->Prop
 | .normal,a,w=>∃e,Fits n e a∧N e w
 | .ret,a,w=>∃e,Fits n e a∧R e w
 | .exit i,a,w=>∃e,Fits n e a∧X i e w
 |_,_,_=>False
def CW (P:Program) (n:Nat) (c:Code) (N R:Env->World->Prop) (X:Nat->Env->World->Prop) (e:Env) (w:World):Prop:=
 ∀a,Fits n e a->c.wp P (kR n N R X) a w
section
variable {P:Program} {n:Nat} {N R:Env->World->Prop} {X:Nat->Env->World->Prop} {e:Env} {w:World}
theorem CW.mono {N' R':Env->World->Prop} {X':Nat->Env->World->Prop} (h:CW P n c N R X e w) 
  (hN:∀e w,N e w->N' e w) (hR:∀e w,R e w->R' e w) (hX:∀i e w,X i e w->X' i e w):CW P n c N' R' X' e w:=λa ha=>
 wp_mono (h a ha) λx a w hq=>by
  cases x<;>simp only[kR] at hq⊢
  ·obtain⟨e,hf,hk⟩:=hq;exact⟨e,hf,hN _ _ hk⟩
  ·obtain⟨e,hf,hk⟩:=hq;exact⟨e,hf,hX _ _ _ hk⟩
  ·obtain⟨e,hf,hk⟩:=hq;exact⟨e,hf,hR _ _ hk⟩
theorem jL {x y:Code} (h:CW P n x (λe w=>CW P n y N R X e w) R X e w):CW P n (x.seq y) N R X e w:=λa ha=>
 wp_seq (wp_mono (h a ha) λex a w hq=>by
  cases ex<;>simp only[kR] at hq<;>simp only[Exit.then]<;>first|exact hq|skip
  obtain⟨e,hf,hk⟩:=hq
  exact hk a hf)
theorem gY (h:N e w):CW P n .skip N R X e w:=λ_ ha=>wp_skip ⟨e,ha,h⟩
theorem jZ (h:R e w):CW P n .ret N R X e w:=λ_ ha=>wp_ret ⟨e,ha,h⟩
theorem zj (h:X i e w):CW P n (.exit i) N R X e w:=λ_ ha=>wp_exit ⟨e,ha,h⟩
theorem tj (h:CW P n c N R (λj e w=>bif Nat.beq j i then N e w else X j e w) e w):CW P n (.block i c) N R X e w:=λa ha=>
 wp_block (wp_mono (h a ha) λex a w hq=>by
  cases ex<;>simp only[kR] at hq<;>simp only[Exit.inBlock]<;>first|exact hq|skip
  rename_i j
  obtain⟨e,hf,hk⟩:=hq
  by_cases hj:j=i
  ·subst hj
   simp only[if_true,kR]
   rw[Nat.beq_refl] at hk
   exact⟨e,hf,hk⟩
  ·have hb:Nat.beq j i=false:=by
    cases hx:Nat.beq j i with
    |true=>exact absurd (Nat.eq_of_beq_eq_true hx) hj
    |false=>rfl
   rw[hb] at hk
   simp only[hj,if_false,kR]
   exact⟨e,hf,hk⟩)
theorem zk {A B:Prop} (h:Nat.beq j i=true) (k:A):(bif Nat.beq j i then A else B):=by rw[h];exact k
theorem DE {A B:Prop} (h:Nat.beq j i=false) (k:B):(bif Nat.beq j i then A else B):=by rw[h];exact k
theorem P2 {c:Operand} {x y:Code} {t:Bool} (hc:ev e c= .bool t) (hx:t=true->CW P n x N R X e w) (hy:t=false->CW P n y N R X e w):
  CW P n (.cond c x y) N R X e w:=λa ha=>
 wp_cond_split (t:=t) (by rw[ha.eval];exact hc) (λh=>hx h a ha) (λh=>hy h a ha)
theorem Yi {c:Operand} {x y:Code} (hc:ev e c= .bool false) (hy:CW P n y N R X e w):CW P n (.cond c x y) N R X e w:=
 P2 hc (λh=>by cases h) (λ_=>hy)
theorem kH {id:Nat} (h:OW P n l.toArray N l e w):CW P n (.region id l.toArray false) N R X e w:=λa ha=>
 wp_mono (wp_region_lit (h a ha (λ_ _ _=>False))) λex a w hq=>by
  cases ex<;>simp only[pw] at hq<;>simp only[kR]<;>exact hq
def Holds:List (Nat×Value)->Env->Prop
 |[],_=>True
 |[p],e=>e p.1=p.2
 |p::r,e=>e p.1=p.2∧Holds r e
def bo (e:Env):List (Nat×Value)->Env
 |[]=>e
 |p::r=>gU (bo e r) p.1 p.2
theorem Yj {p:Nat×Value} {r:List (Nat×Value)} (h:Holds (p::r) e):e p.1=p.2∧Holds r e:=by grind [Holds]
theorem H6:∀{l:List (Nat×Value)},Holds l e->bo e l=e
 |[],_=>rfl
 |p::r,h=>by
  obtain⟨h1,h2⟩:=Yj h
  simp only[bo,H6 h2]
  funext t
  by_cases ht:t=p.1
  ·subst ht;rw[mX,h1]
  ·rw[H5 _ _ ht]
theorem eA {c:Code} {G:Type} (L:G->List (Nat×Value)) (I:G->World->Prop) (μ:G->Nat) (g0:G) (h0:Holds (L g0) e) (hI:I g0 w) 
  (round:∀g w e0,I g w->CW P n c (λe' w'=>∃g',Holds (L g') e'∧I g' w'∧μ g'<μ g) R X (bo e0 (L g)) w):
  CW P n (.loop c) N R X e w:=by
 intro a ha b k cs
 have key:∀m (g:G) (e:Env) (a:Act) (w:World),μ g=m->Fits n e a->Holds (L g) e->I g w->
   ∃x a' w',kR n N R X x a' w'∧Arrives P (lone (b.at a (.code c:: .inLoop c::k)) cs w) b k cs x a' w':=by
  intro m
  induction m using Nat.strongRecOn with
  |_ m ih=>
   intro g e a w hm hf hh hi
   have hr:=round g w e hi
   rw[H6 hh] at hr
   obtain⟨x,a₁,w₁,hq,Fl⟩:=hr a hf b (.inLoop c::k) cs
   cases x with
   |normal=>
    obtain⟨e₁,hf₁,g',Yk,Yl,dU⟩:=hq
    obtain⟨x₂,a₂,w₂,hq₂,harr₂⟩:=ih (μ g') (hm▸dU) g' e₁ a₁ w₁ rfl hf₁ Yk Yl
    exact⟨x₂,a₂,w₂,hq₂,.of_steps (Steps.trans Fl (.one step_inLoop)) harr₂⟩
   |exit id=>exact⟨_,a₁,w₁,by simpa only[kR] using hq,.pass (x:=.inLoop c) rfl (λ_ _=>.inl sm) Fl⟩
   |goto l=>simp[kR] at hq
   |ret=>exact⟨_,a₁,w₁,by simpa only[kR] using hq,.pass (x:=.inLoop c) rfl (λ_ _=>.inl sm) Fl⟩
   |panic ch=>simp[kR] at hq
   |outgrown=>simp[kR] at hq
 obtain⟨x,a',w',hq,Fl⟩:=key _ g0 e a w rfl ha h0 hI
 exact⟨x,a',w',hq,.of_steps (.one step_loop) Fl⟩
theorem ix {c:Code} {G:Type} (L:G->List (Nat×Value)) (I:G->World->Prop) 
  (h:CW P n c (λe' w'=>∃g,Holds (L g) e'∧I g w') R X e w) (k:∀g w' e0,I g w'->N (bo e0 (L g)) w'):CW P n c N R X e w:=
 h.mono (λe' w' ⟨g,hh,hi⟩=>by have:=k g w' e' hi;rwa [H6 hh] at this) (λ_ _ h=>h) (λ_ _ _ h=>h)
end
/-! ### A function -/
def qL (P:Program) (f:FuncId):Prop:=∃fn,P.funcs[f]?=some fn∧fn.body.isNone=false∧(fn.name== "runtime.NumGoroutine")=false
theorem qL.mk' {fn:Func} (h:P.funcs[f]?=some fn) (hb:fn.body.isNone=false) (hn:(fn.name== "runtime.NumGoroutine")=false):qL P f:=⟨fn,h,hb,hn⟩
def bz (P:Program) (f:FuncId) (args:List Value) (w:World) (S:Value->World->Prop):Prop:=
 qL P f∧Calls P f args.toArray w λe w'=>∃v,e= .returned v∧S v w'
theorem bz.mono {args:List Value} {S':Value->World->Prop} (h:bz P f args w S) (hs:∀v w',S v w'->S' v w'):bz P f args w S':=
 ⟨h.1,Calls.mono h.2 λ_ _ ⟨v,he,hv⟩=>⟨v,he,hs _ _ hv⟩⟩
def BB (e:Env):List ResultVar->Option Value
 |[.tmp t]=>some (e t)
 |[.tmp t,.tmp u]=>some (.tuple #[e t,e u])
 |[.tmp t,.tmp u,.tmp x]=>some (.tuple #[e t,e u,e x])
 |[]=>some (.tuple #[])
 |_=>none
theorem P3 {fn:Func} {rs:List ResultVar} (hr:fn.results=rs.toArray) {tmps:Array Value} {e:Env} (hg:∀t,tmps.getD t undef=e t) (h:BB e rs=some v) (P:Program) (w:World):
  (results fn tmps).run P w= .ok v w:=by
 match rs,h with
 |[.tmp t],h=>simp only[BB,Option.some.injEq] at h;subst h;rw[<-hg];exact results_tmp hr _ _ _
 |[.tmp t,.tmp u],h=>simp only[BB,Option.some.injEq] at h;subst h;rw[<-hg,<-hg];exact results_tmp2 hr _ _ _
 |[.tmp t,.tmp u,.tmp x],h=>
  simp only[BB,Option.some.injEq] at h;subst h;rw[<-hg,<-hg,<-hg]
  simp[results,hr]
 |[],h=>simp only[BB,Option.some.injEq] at h;subst h;exact results_none hr _ _ _
def start (args:List Value):Env:=λt=>args.getD t undef
theorem P4 (args:List Value) (m:Nat):Fits (args.length+m) (start args) {tmps:=args.toArray++Array.replicate m undef,defers:=[]}:=by
 refine⟨rfl,sm,λt=>?_⟩
 simp only[start,Array.getD_eq_getD_getElem?,gG,Array.getElem?_append,List.size_toArray,List.getElem?_toArray]
 by_cases h:t<args.length
 ·rw[iP h]
 ·rw[iN h,List.getElem?_eq_none om]
  by_cases h2:t-args.length<m<;>simp[h2]
theorem bS {P:Program} {f:FuncId} {fn:Func} {c:Code} {args:List Value} {w:World} {S:Value->World->Prop} (rs:List ResultVar) (n:Nat) 
  (hf:P.funcs[f]?=some fn) (hb:fn.body=some c) (hn:(fn.name== "runtime.NumGoroutine")=false) (hr:fn.results=rs.toArray) (fC:args.length+(fn.ntmps-args.length)=n)
  (h:CW P n c (λe w'=>∃v,BB e rs=some v∧S v w') (λe w'=>∃v,BB e rs=some v∧S v w') (λ_ _ _=>False) (start args) w):bz P f args w S:=by
 refine⟨⟨fn,hf,by rw[hb];rfl,hn⟩,calls_of_wp hf hb (wp_mono (h _ ?_) λx a w' hq=>?_)⟩
 ·rw[<-fC];simpa using P4 args (fn.ntmps-args.length)
 ·cases x<;>simp only[kR] at hq
  ·obtain⟨e,kv,v,hv,hs⟩:=hq
   exact bodyPost_end (P3 hr kv.get hv P w') kv.defers ⟨v,rfl,hs⟩
  ·obtain⟨e,kv,hs⟩:=hq;exact hs.elim
  ·obtain⟨e,kv,v,hv,hs⟩:=hq
   exact bodyPost_ret (P3 hr kv.get hv P w') kv.defers ⟨v,rfl,hs⟩
def P5 (P:Program) (e:Env) (t ty:Nat) (v:Value) (w:World):Prop:=∃a,e t= .pointer (some a)∧(loadVar ty a).run P w= .ok v w
structure aj (L:List Nat) (w w':World):Prop where
 os:w'.os=w.os
 tape:w'.tape=w.tape
 output:w'.output=w.output
 size:w.heap.size<=w'.heap.size
 block:∀k,k<w.heap.size->k∉L->w'.heap[k]?=w.heap[k]?
theorem aj.refl (L:List Nat) (w:World):aj L w w:=⟨rfl,rfl,rfl,lR _,λ_ _ _=>rfl⟩
theorem aj.trans {a b c:World} (h:aj L a b) (k:aj L b c):aj L a c:=
 ⟨k.os.trans h.os,k.tape.trans h.tape,k.output.trans h.output,Nat.le_trans h.size k.size,λi hi hl=>(k.block i (lL hi h.size) hl).trans (h.block i hi hl)⟩
theorem aj.mono {a b:World} (h:aj L a b) (hL:∀x,x∈L->x∈L'):aj L' a b:=
 ⟨h.os,h.tape,h.output,h.size,λk hk hl=>h.block k hk (λhx=>hl (hL k hx))⟩
theorem aj.any {a b:World} (h:aj [] a b):aj L a b:=h.mono sm
theorem aj.drew (L:List Nat) (w:World):aj L w {w with drawn:=w.drawn+1}:=⟨rfl,rfl,rfl,lR _,λ_ _ _=>rfl⟩
theorem aj.alloc (L:List Nat) (w:World) (o:Obj):aj L w (w.alloc o):=⟨rfl,rfl,rfl,sm,λk hk _=>heap_alloc_old w o k hk⟩
theorem aj.below {a b:World} (h:aj L a b) {B:Nat} (hB:B<=a.heap.size) (hL:∀x,x∈L->B<=x):Go.RowKit.Below B a b:=
 ⟨h.os,h.tape,h.output,h.size,λk hk=>h.block k om (λhx=>by have:=hL k hx;omega)⟩
theorem aj.since {a b c:World} (h:aj L a b) (k:aj L' b c) (hL:∀x,x∈L'->x∈L∨a.heap.size<=x):aj L a c:=
 ⟨k.os.trans h.os,k.tape.trans h.tape,k.output.trans h.output,Nat.le_trans h.size k.size,λi hi hl=>
  (k.block i (lL hi h.size) (λhx=>by rcases hL i hx with h1|h1;exact hl h1;omega)).trans (h.block i hi hl)⟩
def aJ (w:World) (b:Nat) (cs:Array Value) (T:TypeId):Prop:=w.heap[b]?=some (.cells cs T (0,0))
theorem aJ.aF {cs:Array Value} {T:TypeId} (h:aJ w b cs T) (k:aj L w w') (hb:b∉L):aJ w' b cs T:=
 (k.block b (Array.getElem?_eq_some_iff.1 h).1 hb).trans h
theorem aJ.lt {cs:Array Value} {T:TypeId} (h:aJ w b cs T):b<w.heap.size:=(Array.getElem?_eq_some_iff.1 h).1
theorem aJ.cell {cs:Array Value} {T:TypeId} (h:aJ w b cs T) (i:Nat):w.cell? ⟨b,i,none⟩=cs[i]?:=cell_of_row w b i cs T (0,0) h
theorem aJ.frozen {cs:Array Value} {T:TypeId} (h:aJ w b cs T) (i:Nat):w.frozen? ⟨b,i,none⟩=false:=by
 simp only[World.frozen?];rw[show w.heap[b]?=_ from h];simp
theorem aJ.alloc (w:World) (cs:Array Value) (T:TypeId):aJ (w.alloc (.cells cs T)) w.heap.size cs T:=heap_alloc_new w _
theorem aJ.set {cs:Array Value} {T:TypeId} (h:aJ w b cs T) (i:Nat) (v:Value):aJ (w.setCell ⟨b,i,none⟩ v) b (cs.setIfInBounds i v) T:=by
 unfold aJ at*
 simp only[World.setCell,Array.getElem?_modify,if_true,h]
 simp
theorem aj.setCell (w:World) (b i:Nat) (v:Value):aj [b] w (w.setCell ⟨b,i,none⟩ v):=
 ⟨rfl,rfl,rfl,by simp[World.setCell],λk _ hl=>Go.RowKit.Below.heap_setCell w _ v k (by simpa using hl)⟩
inductive C where
 |val (v:Value)
 |sl (size:Nat) (rows:List (List C))
inductive bQ (L:List Nat) (w:World):Value->C->Prop
 |val (v:Value):bQ L w v (.val v)
 |nil (a:Option Addr) (cap size:Nat):bQ L w (.slice a 0 cap) (.sl size [])
 |sl (b off len cap size:Nat) (rows:List (List C)) (f:Nat->Nat->Value) (hl:rows.length=len) (hc:len<=cap) (hb:b<w.heap.size) (hL:b∉L)
   (hs:∀row,row∈rows->row.length=size)
   (kh:∀i j,i<len->j<size->w.cell? ⟨b,off+i*size+j,none⟩=some (f i j))
   (gB:∀i j row c,rows[i]?=some row->row[j]?=some c->bQ L w (f i j) c):bQ L w (.slice (some ⟨b,off,none⟩) len cap) (.sl size rows)
theorem bQ.aF {c:C} (h:bQ L w v c) (k:aj L w w'):bQ L w' v c:=by
 induction h with
 |val v=>exact .val v
 |nil a c s=>exact .nil a c s
 |sl b off len cap size rows f hl hc hb hL hs kh _ ih=>
  exact .sl b off len cap size rows f hl hc (lL hb k.size) hL hs
   (λi j hi hj=>(World.cell?_of_block (k.block b hb hL)).trans (kh i j hi hj)) ih
theorem bQ.fresh {c:C} (h:bQ L w v c) (hL:∀x,x∈L'->x∈L∨w.heap.size<=x):bQ L' w v c:=by
 induction h with
 |val v=>exact .val v
 |nil a c s=>exact .nil a c s
 |sl b off len cap size rows f hl hc hb gN hs kh _ ih=>
  exact .sl b off len cap size rows f hl hc hb (λhx=>by rcases hL b hx with h1|h1;exact gN h1;omega) hs kh ih
theorem bQ.weaken {c:C} (h:bQ L w v c) (hL:∀x,x∈L'->x∈L):bQ L' w v c:=h.fresh λx hx=>.inl (hL x hx)
theorem bQ.none {c:C} (h:bQ L w v c):bQ [] w v c:=h.weaken sm
def cS (L:List Nat) (w:World):List Value->List C->Prop
 |[],[]=>True
 |v::vs,c::cs=>bQ L w v c∧cS L w vs cs
 |_,_=>False
theorem cS.length:∀{vs:List Value} {cs:List C},cS L w vs cs->vs.length=cs.length
 |[],[],_=>rfl
 |_::_,_::_,h=>by simp[cS.length h.2]
theorem cS.get:∀{vs:List Value} {cs:List C},cS L w vs cs->∀{j:Nat} {v:Value} {c:C},vs[j]?=some v->cs[j]?=some c->bQ L w v c
 |_::_,_::_,h,0,_,_,hv,hc=>by simp at hv hc;subst hv;subst hc;exact h.1
 |_::_,_::_,h,j+1,_,_,hv,hc=>cS.get h.2 (j:=j) (by simpa using hv) (by simpa using hc)
theorem cS.of:∀{vs:List Value} {cs:List C},vs.length=cs.length->(∀(j:Nat) (v:Value) (c:C),vs[j]?=some v->cs[j]?=some c->bQ L w v c)->cS L w vs cs
 |[],[],_,_=>trivial
 |v::vs,c::cs,hl,h=>⟨h 0 v c rfl rfl,cS.of (by simpa using hl) λj v' c' hv hc=>h (j+1) v' c' (by simpa using hv) (by simpa using hc)⟩
theorem cS.aF {cs:List C} (h:cS L w vs cs) (k:aj L w w'):cS L w' vs cs:=cS.of h.length λ_ _ _ hv hc=>(h.get hv hc).aF k
theorem cS.fresh {cs:List C} (h:cS L w vs cs) (hL:∀x,x∈L'->x∈L∨w.heap.size<=x):cS L' w vs cs:=cS.of h.length λ_ _ _ hv hc=>(h.get hv hc).fresh hL
theorem cS.append:∀{vs:List Value} {cs:List C} {vs':List Value} {cs':List C},cS L w vs cs->cS L w vs' cs'->cS L w (vs++vs') (cs++cs')
 |[],[],_,_,_,h'=>h'
 |_::_,_::_,_,_,h,h'=>⟨h.1,cS.append h.2 h'⟩
def j1 (L:List Nat) (w:World) (v:Value) (cs:List C):Prop:=∃vs:List Value,v= .agg vs.toArray∧cS L w vs cs
theorem j1.aF {cs:List C} (h:j1 L w v cs) (k:aj L w w'):j1 L w' v cs:=
 let⟨vs,e,h⟩:=h;⟨vs,e,h.aF k⟩
theorem j1.fresh {cs:List C} (h:j1 L w v cs) (hL:∀x,x∈L'->x∈L∨w.heap.size<=x):j1 L' w v cs:=
 let⟨vs,e,h⟩:=h;⟨vs,e,h.fresh hL⟩
def fS (w:World) (b off:Nat) (vs:List Value):Prop:=∀(j:Nat) (v:Value),vs[j]?=some v->w.cell? ⟨b,off+j,none⟩=some v
theorem rC {size:Nat} {rows:List (List C)} (h:bQ L w v (.sl size rows)):∃a cap,v= .slice a rows.length cap∧rows.length<=cap:=by
 cases h with
 |nil a c s=>exact⟨a,c,rfl,Nat.zero_le _⟩
 |sl b off len cap size rows f hl hc=>exact⟨_,cap,by rw[hl],om⟩
theorem zn {a:Option Addr} {len cap size:Nat} {rows:List (List C)} (h:bQ L w (.slice a len cap) (.sl size rows)) {row:List C} (hi:rows[i]?=some row):
  ∃b off vs,a=some ⟨b,off,none⟩∧b<w.heap.size∧b∉L∧vs.length=size∧fS w b (off+i*size) vs∧cS L w vs row:=by
 cases h with
 |nil=>simp at hi
 |sl b off len cap size rows f hl hc hb hL hs kh gB=>
  have mj:i<rows.length:=(List.getElem?_eq_some_iff.1 hi).1
  have gZ:row.length=size:=hs row (List.mem_of_getElem? hi)
  refine⟨b,off,(List.range size).map (f i),rfl,hb,hL,sm,λj v hj=>?_,cS.of (by simp[gZ]) λj v c hv px=>?_⟩
  ·have xH:j<size:=by have:=(List.getElem?_eq_some_iff.1 hj).1;simpa using this
   have e:f i j=v:=by simpa[List.getElem?_map,xH] using hj
   rw[<-e];exact kh i j om xH
  ·have xH:j<size:=by have:=(List.getElem?_eq_some_iff.1 hv).1;simpa using this
   have e:f i j=v:=by simpa[List.getElem?_map,xH] using hv
   rw[<-e];exact gB i j row c hi px
theorem Ym (b off cap size:Nat) (rows:List (List C)) (vss:List (List Value)) (hlen:vss.length=rows.length) (hc:rows.length<=cap) (hb:b<w.heap.size) (hL:b∉L) 
  (hs:∀row,row∈rows->row.length=size)
  (kh:∀(i:Nat) (vs:List Value),vss[i]?=some vs->fS w b (off+i*size) vs)
  (gB:∀(i:Nat) (vs:List Value) (row:List C),vss[i]?=some vs->rows[i]?=some row->cS L w vs row):bQ L w (.slice (some ⟨b,off,none⟩) rows.length cap) (.sl size rows):=by
 refine .sl b off rows.length cap size rows (λi j=>(vss.getD i []).getD j undef) rfl hc hb hL hs (λi j hi hj=>?_) (λi j row c hi hj=>?_)
 ·obtain⟨vs,aW⟩:∃vs,vss[i]?=some vs:=⟨vss[i]'om,gE om⟩
  obtain⟨row,gZ⟩:∃row,rows[i]?=some row:=⟨rows[i]'hi,gE hi⟩
  have hl:=(gB i vs row aW gZ).length
  rw[hs row (List.mem_of_getElem? gZ)] at hl
  have hv:vs[j]?=some vs[j]:=gE om
  have:=kh i vs aW j _ hv
  rw[this]
  simp[gG,aW,hv]
 ·obtain⟨vs,aW⟩:∃vs,vss[i]?=some vs:=⟨vss[i]'(by have:=(List.getElem?_eq_some_iff.1 hi).1;omega),gE (by have:=(List.getElem?_eq_some_iff.1 hi).1;omega)⟩
  have hr:=gB i vs row aW hi
  have hl:=hr.length
  have oz:=(List.getElem?_eq_some_iff.1 hj).1
  have hv:vs[j]?=some vs[j]:=gE om
  have:=hr.get hv hj
  simpa[gG,aW,hv] using this
theorem P6 {len cap size:Nat} {rows:List (List C)} (h:bQ L w (.slice (some ⟨b,off,none⟩) len cap) (.sl size rows)) (i:Nat) (hi:i<=len) (a:Option Addr) 
  (ha:i<cap->a=some ⟨b,off+i*size,none⟩) (Yn:i=cap->a=some ⟨b,off,none⟩):bQ L w (.slice a (len-i) (cap-i)) (.sl size (rows.drop i)):=by
 cases h with
 |nil=>rw[List.drop_nil,show i=0 from by omega];exact .nil _ _ _
 |sl b off len cap size rows f hl hc hb hL hs kh gB=>
  by_cases Yo:i<cap
  ·rw[ha Yo]
   refine .sl b (off+i*size) (len-i) (cap-i) size (rows.drop i) (λk j=>f (i+k) j) (by simp[hl]) om hb hL (λrow hr=>hs row (List.mem_of_mem_drop hr)) (λk j hk hj=>?_) (λk j row c hk hj=>?_)
   ·have:=kh (i+k) j om hj
    rw[<-this];congr 2;rw[Nat.add_mul];omega
   ·exact gB (i+k) j row c (by simpa using hk) hj
  ·have:i=cap:=by omega
   subst this
   rw[Yn rfl]
   have Yp:len=i:=by omega
   have hr:rows.drop i=[]:=by apply List.drop_of_length_le;omega
   rw[hr]
   have:=bQ.sl (L:=L) (w:=w) b off 0 0 size [] f rfl (lR _) hb hL sm om sm
   simpa[Yp] using this
def iH (w:World) (T:TypeId) (sz:Nat) (v:Value) (g:Option Nat) (n:Nat) (xs:List Value):Prop:=
 xs.length=n*sz∧
 ((v= .slice none 0 0∧n=0∧g=none)∨
  ∃b cap cur,g=some b∧v= .slice (some ⟨b,0,none⟩) n cap∧aJ w b cur T∧n<=cap∧cap<=maxLen∧cur.size=cap*sz∧cur.toList.take (n*sz)=xs)
theorem iH.nil (w:World) (T:TypeId) (sz:Nat):iH w T sz (.slice none 0 0) none 0 []:=by grind [iH]
theorem iH.aF {T:TypeId} (h:iH w T sz v g n xs) (k:aj L w w') (hg:∀b,g=some b->b∉L):iH w' T sz v g n xs:=by
 refine⟨h.1,?_⟩
 rcases h.2 with h|⟨b,cap,cur,e,hv,hb,r⟩
 ·exact .inl h
 ·exact .inr ⟨b,cap,cur,e,hv,hb.aF k (hg b e),r⟩
theorem iH.lt {T:TypeId} (h:iH w T sz v g n xs):∀b,g=some b->b<w.heap.size:=by
 intro b e
 rcases h.2 with⟨_,_,h⟩|⟨b',cap,cur,e',hv,hb,r⟩
 ·rw[e] at h;cases h
 ·rw[e] at e';cases e';exact hb.lt
theorem iH.len {T:TypeId} (h:iH w T sz v g n xs):∃a cap,v= .slice a n cap:=by grind [iH]
section
variable {P:Program} {w:World}
theorem P7 {t ty T:TypeId} {i:TypeInfo} {sz bytes:Nat} (ht:P.underlying t=some (.slice T)) (hi:P.info? T=some i) (hz:i.zero=some z) 
  (BC:i.size=sz) (fK:i.bytes=bytes) (xI:z.cells.size=sz)
  {v:Value} {g:Option Nat} {n:Nat} {xs:List Value} (dv:iH w T sz v g n xs)
  (ab aoff m c:Nat) (news:List Value) (hl:news.length=m*sz) (tl:fS w ab aoff news) (h1:∀u∈news,u.oneCell'=true) (hm:0<m)
  (zo:n+m<=maxLen) (xJ:(n+m)*bytes<=140737488355328):
  ∃v' g' w',(Builtin.append_ #[t,t] ty #[v,.slice (some ⟨ab,aoff,none⟩) m c]).run P w= .ok v' w'∧iH w' T sz v' g' (n+m) (xs++news)∧aj g.toList w w'∧
   (g'=g∨g'=some w.heap.size):=by
 subst BC
 subst fK
 have H7:n+m<=9223372036854775807:=by simp only[maxLen] at zo;omega
 have hlen:(xs++news).length=(n+m)*i.size:=by rw[lA,dv.1,hl,Nat.add_mul]
 have uF:∀b o j:Nat,(⟨b,o,none⟩:Addr).add j=⟨b,o+j,none⟩:=λb o j=>by unfold Addr.add;split<;>simp_all
 have uG:∀j u,news[j]?=some u->w.cell? ((⟨ab,aoff,none⟩:Addr).add j)=some u:=λj u hu=>by rw[uF];exact tl j u hu
 have grown:∀(old:Nat),old<n+m->
   iH (w.drew.alloc (.cells (xs.toArray++news.toArray++Builtin.zeroCells z.cells (grownCap w (n+m) old T-(n+m))) T)) T i.size
    (.slice (some ⟨w.heap.size,0,none⟩) (n+m) (grownCap w (n+m) old T)) (some w.heap.size) (n+m) (xs++news)∧
   aj g.toList w (w.drew.alloc (.cells (xs.toArray++news.toArray++Builtin.zeroCells z.cells (grownCap w (n+m) old T-(n+m))) T)):=by
  intro old ho
  have oC:=grownCap_ge w (n+m) old T
  have lU:grownCap w (n+m) old T<=maxLen:=grownCap_le_maxLen w (n+m) old T zo
  refine⟨⟨hlen,.inr ⟨w.heap.size,_,_,rfl,rfl,heap_alloc_new w.drew _,oC,lU,?_,?_⟩⟩,⟨rfl,rfl,rfl,sm,λk hk _=>heap_alloc_old w.drew _ k hk⟩⟩
  ·simp only[Array.size_append,List.size_toArray,size_zeroCells,xI,dv.1,hl,<-Nat.add_mul]
   congr 1
   omega
  ·simp only[Array.toList_append,List.append_assoc]
   rw[<-List.append_assoc,<-hlen]
   exact List.take_left
 rcases dv.2 with⟨rfl,rfl,rfl⟩|⟨b,cap,cur,rfl,rfl,hb,ml,lU,bZ,tq⟩
 ·have hx:xs=[]:=List.eq_nil_of_length_eq_zero (by simpa using dv.1)
  subst hx
  have hr:=run_append_nil (P:=P) w t ty T i z ht hi hz ⟨ab,aoff,none⟩ m c news hl uG hm om (by have hb:=xJ;simp only[Nat.zero_add] at hb;omega)
  have kS:=grown 0 om
  simp only[Nat.zero_add,List.nil_append,Array.empty_append] at kS⊢
  exact⟨_,_,_,hr,kS.1,kS.2,.inr rfl⟩
 ·by_cases oD:n+m<=cap
  ·have kv:n*i.size+news.length<=cur.size:=by rw[hl,bZ,<-Nat.add_mul];exact Nat.mul_le_mul_right _ oD
   have hr:=run_append_room (P:=P) w t ty T i ht hi b n cap cur hb ⟨ab,aoff,none⟩ m c news hl uG h1 oD kv
   refine⟨_,some b,_,hr,⟨hlen,.inr ⟨b,cap,_,rfl,rfl,setRow_heap w b cur _ T _ hb,oD,lU,?_,?_⟩⟩,⟨rfl,rfl,rfl,sm,λk _ hk=>setRow_other w b k _ (by simpa using hk)⟩,.inl rfl⟩
   ·simp only[List.size_toArray,lA,List.length_take,List.length_drop,Array.length_toList]
    omega
   ·rw[tq,<-hlen]
    exact List.take_left
  ·have holds:∀j u,xs[j]?=some u->w.cell? ((⟨b,0,none⟩:Addr).add j)=some u:=λj u hu=>by
    rw[uF,hb.cell]
    rw[<-tq,List.getElem?_take] at hu
    split at hu
    ·simpa using hu
    ·cases hu
   have hr:=run_append_grow (P:=P) w t ty T i z ht hi hz ⟨b,0,none⟩ n cap xs dv.1 holds ⟨ab,aoff,none⟩ m c news hl uG om om (growslice_fits om xJ)
   have kS:=grown cap om
   exact⟨_,_,_,hr,kS.1,kS.2,.inr rfl⟩
end
structure gO (L:List Nat) (w:World) (T:TypeId) (sz:Nat) (v:Value) (g:Option Nat) (rows:List (List C)) (xs:List Value):Prop where
 own:iH w T sz v g rows.length xs
 rep:cS (g.toList++L) w xs rows.flatten
 row:∀row,row∈rows->row.length=sz
 out:∀b,g=some b->b∉L
theorem gO.nil (L:List Nat) (w:World) (T:TypeId) (sz:Nat):gO L w T sz (.slice none 0 0) none [] []:=
 ⟨iH.nil _ _ _,trivial,sm,sm⟩
theorem gO.aF {T:TypeId} {rows:List (List C)} (h:gO L w T sz v g rows xs) (k:aj L' w w') 
  (hL:∀x,x∈L'->x∈L):gO L w' T sz v g rows xs:=
 ⟨h.own.aF k (λb e hx=>h.out b e (hL b hx)),h.rep.aF (k.mono λx hx=>by simp[hL x hx]),h.row,h.out⟩
theorem gO.more {L':List Nat} {T:TypeId} {rows:List (List C)} (h:gO L w T sz v g rows xs) 
  (hL:∀x,x∈L'->x∈L∨w.heap.size<=x):gO L' w T sz v g rows xs:=
 ⟨h.own,h.rep.fresh (λx hx=>by
   rcases mA.1 hx with hx|hx
   ·exact .inl (by simp[hx])
   ·rcases hL x hx with h1|h1
    ·exact .inl (by simp[h1])
    ·exact .inr h1),h.row,λb e hx=>by rcases hL b hx with h1|h1;exact h.out b e h1;have:=h.own.lt b e;omega⟩
theorem gO.len {T:TypeId} {rows:List (List C)} (h:gO L w T sz v g rows xs):∃a cap,v= .slice a rows.length cap:=h.own.len
theorem Fm {α:Type}:∀{rows:List (List α)},(∀row,row∈rows->row.length=sz)->∀{i j:Nat} {row:List α} {c:α},rows[i]?=some row->row[j]?=some c->rows.flatten[i*sz+j]?=some c
 |r::rows,h,0,j,row,c,hi,hj=>by
  simp only[List.getElem?_cons_zero,Option.some.injEq] at hi
  subst hi
  simp only[List.flatten_cons,Nat.zero_mul,Nat.zero_add]
  rw[List.getElem?_append_left (List.getElem?_eq_some_iff.1 hj).1];exact hj
 |r::rows,h,i+1,j,row,c,hi,hj=>by
  have hr:r.length=sz:=h r sm
  have:=Fm (rows:=rows) (λrow hr=>h row (by simp[hr])) (i:=i) (by simpa using hi) hj
  rw[List.flatten_cons,List.getElem?_append_right (by rw[hr,Nat.add_mul];omega),hr]
  rw[<-this];congr 1;rw[Nat.add_mul];omega
theorem Yq {α:Type}:∀{rows:List (List α)},(∀row,row∈rows->row.length=sz)->rows.flatten.length=rows.length*sz:=by intro x;induction x<;>grind
theorem gO.done {T:TypeId} {rows:List (List C)} (h:gO L w T sz v g rows xs):bQ L w v (.sl sz rows):=by
 have gB:=h.rep.fresh (L':=L) (λx hx=>.inl (by simp[hx]))
 rcases h.own.2 with⟨rfl,hn,_⟩|⟨b,cap,cur,e,rfl,hb,ml,lU,bZ,tq⟩
 ·rw[List.length_eq_zero_iff.1 hn];exact .nil _ _ _
 ·have mm:=h.own.1
  refine .sl b 0 rows.length cap sz rows (λi j=>xs.getD (i*sz+j) undef) rfl ml hb.lt (h.out b e) h.row (λi j hi hj=>?_) (λi j row c hi hj=>?_)
  ·have dU:i*sz+j<xs.length:=by
    rw[mm]
    have:(i+1)*sz<=rows.length*sz:=Nat.mul_le_mul_right _ hi
    rw[Nat.add_mul] at this;omega
   rw[Nat.zero_add,hb.cell,gG,gE dU]
   simp only[Option.getD_some]
   have h2:xs[i*sz+j]?=some xs[i*sz+j]:=gE dU
   rw[<-h2,<-tq,List.getElem?_take,iP (by rw[<-mm];exact dU)]
   simp
  ·have hf:=Fm h.row hi hj
   have dU:i*sz+j<xs.length:=by rw[gB.length];exact(List.getElem?_eq_some_iff.1 hf).1
   have h2:xs[i*sz+j]?=some xs[i*sz+j]:=gE dU
   have:=gB.get h2 hf
   rw[gG,h2];exact this
theorem gO.app {P:Program} {L:List Nat} {w:World} {t ty T:TypeId} {i:TypeInfo} {sz bytes:Nat} (ht:P.underlying t=some (.slice T)) (hi:P.info? T=some i) (hz:i.zero=some z) 
  (BC:i.size=sz) (fK:i.bytes=bytes) (xI:z.cells.size=sz)
  {v:Value} {g:Option Nat} {rows:List (List C)} {xs:List Value} (h:gO L w T sz v g rows xs)
  (ab aoff m c:Nat) (new:List (List C)) (news:List Value) (hm:new.length=m) (tt:0<m) (gZ:∀row,row∈new->row.length=sz) (tl:fS w ab aoff news) (h1:∀u∈news,u.oneCell'=true)
  (hr:cS (g.toList++L) w news new.flatten) (hL:∀x,x∈L->x<w.heap.size)
  (hb:(rows.length+m)*(bytes+1)<=140737488355328):
  ∃v' g' w',(Builtin.append_ #[t,t] ty #[v,.slice (some ⟨ab,aoff,none⟩) m c]).run P w= .ok v' w'∧gO L w' T sz v' g' (rows++new) (xs++news)∧aj g.toList w w'∧
   (g'=g∨g'=some w.heap.size):=by
 have oF:news.length=m*sz:=by rw[hr.length,Yq gZ,hm]
 have aX:(rows.length+m)*bytes+(rows.length+m)<=140737488355328:=by rw[Nat.mul_add,Nat.mul_one] at hb;exact hb
 obtain⟨v',g',w',jM,dv,hk,hg⟩:=P7 (P:=P) (w:=w) (ty:=ty) ht hi hz BC fK xI h.own ab aoff m c news oF tl h1 tt (by unfold maxLen;omega) om
 refine⟨v',g',w',jM,⟨by rw[lA,hm];exact dv,?_,?_,?_⟩,hk,hg⟩
 ·have h2:=(h.rep.append hr).aF (hk.mono (L':=g.toList++L) λx hx=>by simp[hx])
  rw[List.flatten_append]
  have h3:cS (g.toList++L) w (xs++news) (rows.flatten++new.flatten):=h.rep.append hr
  rcases hg with rfl|rfl
  ·exact h2
  ·exact(h3.fresh (L':=(some w.heap.size).toList++(g.toList++L)) (λx hx=>by
    rcases mA.1 hx with hx|hx
    ·right;simp at hx;omega
    ·exact .inl hx)).aF (hk.mono λx hx=>by simp[hx]) |>.fresh (λx hx=>.inl (by
    rcases mA.1 hx with hx|hx
    ·exact List.mem_append_left _ hx
    ·exact mR _ (mR _ hx)))
 ·intro row hx
  rcases mA.1 hx with hx|hx
  ·exact h.row row hx
  ·exact gZ row hx
 ·intro b e hx
  rcases hg with rfl|rfl
  ·exact h.out b e hx
  ·have:=hL b hx
   simp at e;omega
def gate (ops:Array Oper) (e:Env):Option (Nat×Bool)->Bool
 |none=>true
 |some (j,want)=>match(ops.toList[j]?).bind (·.dst) with
  |some t=>match e t with
   | .bool b=>b==want
   |_=>false
  |none=>false
theorem Fo {e:Env} {a:Act} (h:Fits n e a) (o:Oper):Region.wanted o (yielded ops a.tmps)=gate ops e o.guard:=by
 unfold Region.wanted gate
 cases hg:o.guard with
 |none=>rfl
 |some p=>
  obtain⟨j,want⟩:=p
  simp only[yielded]
  have hj:ops.toList[j]?=ops[j]?:=by simp
  rw[hj]
  cases hd:(ops[j]?).bind (·.dst) with
  |none=>cases want<;>rfl
  |some t=>
   simp only[Option.bind_some]
   have jd:=h.get t
   rw[Array.getD_eq_getD_getElem?] at jd
   cases hx:a.tmps[t]? with
   |none=>
    rw[hx] at jd
    simp only[Option.getD_none] at jd
    rw[<-jd]
    cases want<;>simp[undef]
   |some v=>
    rw[hx] at jd
    simp only[Option.getD_some] at jd
    rw[<-jd]
    cases v<;>cases want<;>first|rfl|(rename_i b;cases b<;>rfl)
section
variable {P:Program} {n:Nat} {ops:Array Oper} {K:Env->World->Prop} {rest:List Oper} {e:Env} {w w':World}
 {dst:Option Nat} {ty:TypeId} {pos:String} {after:Array Edge} {g:Option (Nat×Bool)}
theorem aZ (h:K e w):OW P n ops K [] e w:=λ_ ha _=>⟨e,ha,h⟩
theorem eQ {op:Op} (hg:gate ops e g=true) (hd:bV n dst=true) (jM:(execOp (ev e) ⟨dst,op,ty,pos,after,g⟩).run P w= .ok (.value v) w') 
  (k:OW P n ops K rest (bM e dst v) w'):OW P n ops K (⟨dst,op,ty,pos,after,g⟩::rest) e w:=λa ha Q=>by
 unfold wpList
 rw[iP (by rw[Fo ha];exact hg)]
 refine .inl ?_
 unfold Oper.wp
 rw[ha.eval,jM,Oper.upon_value]
 exact k _ (ha.bM hd v) Q
theorem H8 {op:Op} (hg:gate ops e g=true) (jM:(execOp (ev e) ⟨none,op,ty,pos,after,g⟩).run P w= .ok .skip w') 
  (k:OW P n ops K rest e w'):OW P n ops K (⟨none,op,ty,pos,after,g⟩::rest) e w:=λa ha Q=>by
 unfold wpList
 rw[iP (by rw[Fo ha];exact hg)]
 refine .inl ?_
 unfold Oper.wp
 rw[ha.eval,jM,Oper.upon_skip]
 exact k _ (ha.bM (d:=none) rfl undef) Q
theorem KY {op:Op} (hg:gate ops e g=false) (hd:bV n dst=true) (k:OW P n ops K rest (bM e dst undef) w):OW P n ops K (⟨dst,op,ty,pos,after,g⟩::rest) e w:=λa ha Q=>by
 unfold wpList
 rw[iN (by rw[Fo ha];simp[hg])]
 exact k _ (ha.bM hd undef) Q
theorem cF {op:Op} (k:OW P n ops K rest (bM e dst undef) w) (hg:gate ops e g=false:=by rfl) (hd:bV n dst=true:=by rfl):OW P n ops K (⟨dst,op,ty,pos,after,g⟩::rest) e w:=KY hg hd k
theorem P8 {args:List Value} (h:qL P f):(callFunc f args.toArray).run P w= .ok (.enter f args.toArray) w:=by
 obtain⟨fn,hf,hb,hn⟩:=h
 have DF:¬fn.name= "runtime.NumGoroutine":=by simpa using hn
 have gN:¬fn.body=none:=by intro h;simp[h] at hb
 simp[callFunc,hf,gN,DF]
theorem Yr {xs:List Operand} {ats:Array TypeId} (hg:gate ops e g=true) (hd:bV n dst=true) (h:bz P f (xs.map (ev e)) w S) 
  (k:∀v w',S v w'->OW P n ops K rest (bM e dst v) w'):OW P n ops K (⟨dst,.call {callee:=.value (.func f),args:=xs.toArray,argTypes:=ats},ty,pos,after,g⟩::rest) e w:=λa ha Q=>by
 unfold wpList
 rw[iP (by rw[Fo ha];exact hg)]
 refine .inl ?_
 unfold Oper.wp
 have jM:(execOp (ev e) ⟨dst,.call {callee:=.value (.func f),args:=xs.toArray,argTypes:=ats},ty,pos,after,g⟩).run P w= .ok (.enter f (xs.map (ev e)).toArray) w:=by
  simp only[execOp,resolve,ev,Deferred.ofValue,Sem.run_bind,Sem.run_pure,Result.andThen_ok,invoke]
  simp[P8 h.1]
 rw[ha.eval,jM,Oper.upon_enter]
 exact Calls.mono h.2 λx w' ⟨v,hx,hs⟩=>by subst hx;exact k v w' hs _ (ha.bM hd v) Q
theorem aA {xs:List Operand} {ats:Array TypeId} (h:bz P f (xs.map (ev e)) w S) (k:∀v w',S v w'->OW P n ops K rest (bM e dst v) w') (hg:gate ops e g=true:=by rfl) (hd:bV n dst=true:=by rfl):OW P n ops K (⟨dst,.call {callee:=.value (.func f),args:=xs.toArray,argTypes:=ats},ty,pos,after,g⟩::rest) e w:=Yr hg hd h k
theorem Ys (hg:gate ops e g=true) (hd:bV n dst=true) (k:OW P n ops K rest (bM e dst (ev e x)) w):OW P n ops K (⟨dst,.move x,ty,pos,after,g⟩::rest) e w:=
 eQ hg hd (by simp[execOp]) k
theorem Yt (hg:gate ops e g=true) (hd:bV n dst=true) (k:OW P n ops K rest (bM e dst (ev e x)) w):OW P n ops K (⟨dst,.assign x,ty,pos,after,g⟩::rest) e w:=
 eQ hg hd (by simp[execOp]) k
theorem P9 {c:Operand} {t:Bool} (hg:gate ops e g=true) (hd:bV n dst=true) (hc:ev e c= .bool t) (k:OW P n ops K rest (bM e dst (bif t then ev e x else ev e y)) w):
  OW P n ops K (⟨dst,.pick c x y,ty,pos,after,g⟩::rest) e w:=
 eQ hg hd (by cases t<;>simp[execOp,hc,asBool]) k
theorem Fp {a:Addr} (hg:gate ops e g=true) (hd:bV n dst=true) (hx:ev e x= .pointer (some a)) (k:OW P n ops K rest (bM e dst (.pointer (some a))) w):
  OW P n ops K (⟨dst,.nilCheck x,ty,pos,after,g⟩::rest) e w:=
 eQ hg hd (by simp[execOp,hx]) k
/-! ### p7 blocks -/
theorem Qa {T:TypeId} {cs:Array Value} (hg:gate ops e g=true) (hd:bV n dst=true) (hx:(ev e x).cells=cs) 
  (k:∀w',aj [] w w'->aJ w' w.heap.size cs T->w'.heap.size=w.heap.size+1->OW P n ops K rest (bM e dst (.pointer (some ⟨w.heap.size,0,none⟩))) w'):
  OW P n ops K (⟨dst,.box T x,ty,pos,after,g⟩::rest) e w:=
 eQ hg hd (w':=w.alloc (.cells cs T)) (by simp[execOp,Instr.box,newVar,newRow,hx]) (k _ (aj.alloc _ _ _) (aJ.alloc _ _ _) sm)
def TI (P:Program) (T:TypeId) (sz bytes:Nat) (z:Value):Prop:=(P.info? T).map (λi=>(i.zero,i.size,i.bytes))=some (some z,sz,bytes)
theorem TI.get {T:TypeId} (h:TI P T sz bytes z):∃i,P.info? T=some i∧i.zero=some z∧i.size=sz∧i.bytes=bytes:=by
 unfold TI at h
 cases hi:P.info? T with
 |none=>simp[hi] at h
 |some i=>simp[hi] at h;exact⟨i,rfl,h.1,h.2.1,h.2.2⟩
theorem TI.rD {T:TypeId} (h:TI P T sz bytes z) (w:World):(sizeOf T).run P w= .ok sz w:=by
 obtain⟨i,hi,hz,hs,hb⟩:=h.get
 simp[sizeOf,typeInfo,hi,hs]
theorem TI.KZ {T:TypeId} (h:TI P T sz bytes z) (w:World):(zeroValue T).run P w= .ok z w:=by
 obtain⟨i,hi,hz,hs,hb⟩:=h.get
 simp[zeroValue,typeInfo,hi,hz]
theorem Yu {T:TypeId} {cs:Array Value} (hT:TI P T sz bytes z) (hg:gate ops e g=true) (hd:bV n dst=true) (hx:z.cells=cs) 
  (k:∀w',aj [] w w'->aJ w' w.heap.size cs T->w'.heap.size=w.heap.size+1->OW P n ops K rest (bM e dst (.pointer (some ⟨w.heap.size,0,none⟩))) w'):
  OW P n ops K (⟨dst,.alloc T,ty,pos,after,g⟩::rest) e w:=
 eQ hg hd (w':=w.alloc (.cells cs T)) (by simp[execOp,Instr.alloc,hT.KZ,newVar,newRow,hx]) (k _ (aj.alloc _ _ _) (aJ.alloc _ _ _) sm)
/-! ### Addresses,loads,stores -/
def p8 (P:Program) (T:TypeId):Bool:=match P.underlying T with
 |some (.struct _)|some (.array _ _)|none=>false
 |_=>true
theorem Yv {T:TypeId} (h:p8 P T=true) (w:World):(isAgg T).run P w= .ok false w:=by
 unfold p8 at h
 cases hu:P.underlying T with
 |none=>simp[hu] at h
 |some d=>cases d<;>simp[hu] at h<;>simp[isAgg,underlying,hu]
def sj (P:Program) (T:TypeId):Bool:=match P.underlying T with
 |some (.struct _)|some (.array _ _)=>true
 |_=>false
theorem Qb {T:TypeId} (h:sj P T=true) (w:World):(isAgg T).run P w= .ok true w:=by
 unfold sj at h
 cases hu:P.underlying T with
 |none=>simp[hu] at h
 |some d=>cases d<;>simp[hu] at h<;>simp[isAgg,underlying,hu]
theorem qM (b o j:Nat):(⟨b,o,none⟩:Addr).add j=⟨b,o+j,none⟩:=by unfold Addr.add;split<;>simp_all
theorem Yw {T:TypeId} {a:Addr} (hT:p8 P T=true) (hg:gate ops e g=true) (hd:bV n dst=true) (hx:ev e x= .pointer (some a)) (hc:w.cell? a=some v) 
  (k:OW P n ops K rest (bM e dst v) w):OW P n ops K (⟨dst,.load T x,ty,pos,after,g⟩::rest) e w:=
 eQ hg hd (by simp[execOp,Instr.loadAt,Instr.sureAddr,hx,loadVar,Yv hT,hc]) k
theorem Yx {T:TypeId} {x:Operand} {b o:Nat} {vs:List Value} (hT:sj P T=true) (jN:TI P T sz bytes z) (hg:gate ops e g=true) (hd:bV n dst=true) 
  (hx:ev e x= .pointer (some ⟨b,o,none⟩)) (hc:fS w b o vs) (hl:vs.length=sz)
  (k:OW P n ops K rest (bM e dst (.agg vs.toArray)) w):OW P n ops K (⟨dst,.load T x,ty,pos,after,g⟩::rest) e w:=
 eQ hg hd (by
  have:=run_loadCells_list (P:=P) w ⟨b,o,none⟩ vs (λj v hv=>by rw[qM];exact hc j v hv)
  rw[hl] at this
  simp[execOp,Instr.loadAt,Instr.sureAddr,hx,loadVar,Qb hT,jN.rD,this]) k
theorem Yy {u:Value} (h1:v.oneCell'=true) (hc:w.cell? ⟨b,o,none⟩=some u) (hf:w.frozen? ⟨b,o,none⟩=false):(storeCells ⟨b,o,none⟩ [v]).run P w= .ok () (w.setCell ⟨b,o,none⟩ v):=by
 simp[storeCells,qM,run_store P w _ v _ h1,hc,hf]
theorem K0 {T:TypeId} {x y:Operand} {b o:Nat} {v:Value} {cs:Array Value} {U:TypeId} (jN:TI P T sz bytes z) (fC:sz=1) (hg:gate ops e g=true) 
  (hx:ev e x= .pointer (some ⟨b,o,none⟩)) (hy:ev e y=v) (h1:v.oneCell'=true) (hb:aJ w b cs U) (ho:o<cs.size)
  (k:∀w',aj [b] w w'->aJ w' b (cs.setIfInBounds o v) U->w'.heap.size=w.heap.size->OW P n ops K rest e w'):OW P n ops K (⟨none,.store T x y,ty,pos,after,g⟩::rest) e w:=
 H8 hg (w':=w.setCell ⟨b,o,none⟩ v) (by
  have hc:v.cells=#[v]:=by cases v<;>first|rfl|(simp[Value.oneCell'] at h1)
  have hs:=Yy (P:=P) (w:=w) (b:=b) (o:=o) (v:=v) (u:=cs[o]) h1 (by rw[hb.cell,Array.getElem?_eq_getElem ho]) (hb.frozen o)
  subst fC
  simp[execOp,Instr.storeAt,Instr.sureAddr,hx,hy,storeVar,hc,jN.rD,hs]) (k _ (aj.setCell _ _ _ _) (hb.set o v) (by simp[World.setCell]))
theorem Qc:∀(vs:List Value) (i:Nat) (pre:List Value) (w:World) (b:Nat) (U:TypeId) (cs:Array Value),aJ w b cs U->cs.size=pre.length+vs.length->i=pre.length->cs.toList.take i=pre->(∀u∈vs,u.oneCell'=true)->
  ∃w',(storeCells ⟨b,0,none⟩ vs i).run P w= .ok () w'∧aj [b] w w'∧aJ w' b (pre++vs).toArray U∧w'.heap.size=w.heap.size
 |[],i,pre,w,b,U,cs,hb,hs,hi,ht,_=>by
  refine⟨w,rfl,aj.refl _ _,?_,rfl⟩
  have:cs=(pre++[]).toArray:=by
   apply Array.ext'
   simp only[List.append_nil] at*
   rw[<-ht,List.take_of_length_le (by simp;simp at hs;omega)]
  rw[<-this];exact hb
 |v::vs,i,pre,w,b,U,cs,hb,hs,hi,ht,h1=>by
  have mj:i<cs.size:=by simp at hs;omega
  have aR:(store ((⟨b,0,none⟩:Addr).add i) v).run P w= .ok () (w.setCell ⟨b,i,none⟩ v):=by
   rw[qM,Nat.zero_add,run_store P w _ v _ (h1 v sm),hb.cell,Array.getElem?_eq_getElem mj,hb.frozen]
   simp
  obtain⟨w',hr,hk,gN,hz⟩:=Qc vs (i+1) (pre++[v]) (w.setCell ⟨b,i,none⟩ v) b U (cs.setIfInBounds i v) (hb.set i v) (by simp at hs⊢;omega) so
   (by
    rw[Array.toList_setIfInBounds,List.take_add_one,List.getElem?_set_self (by simpa using mj),List.take_set_of_le (lR i),ht];simp)
   (λu hu=>h1 u (by simp[hu]))
  refine⟨w',?_,(aj.setCell w b i v).trans hk,by simpa using gN,by rw[hz];simp[World.setCell]⟩
  simp only[storeCells,Sem.run_bind,aR,Result.andThen_ok]
  exact hr
theorem Yz {T:TypeId} {x y:Operand} {b:Nat} {vs:List Value} {cs:Array Value} {U:TypeId} (jN:TI P T sz bytes z) (hg:gate ops e g=true) 
  (hx:ev e x= .pointer (some ⟨b,0,none⟩)) (hy:ev e y= .agg vs.toArray) (hl:vs.length=sz) (h1:∀u∈vs,u.oneCell'=true) (hb:aJ w b cs U) (bZ:cs.size=sz)
  (k:∀w',aj [b] w w'->aJ w' b vs.toArray U->w'.heap.size=w.heap.size->OW P n ops K rest e w'):OW P n ops K (⟨none,.store T x y,ty,pos,after,g⟩::rest) e w:=by
 obtain⟨w',hr,hk,gN,hz⟩:=Qc (P:=P) vs 0 [] w b U cs hb so rfl sm h1
 exact H8 hg (w':=w') (by
  simp[execOp,Instr.storeAt,Instr.sureAddr,hx,hy,storeVar,Value.cells,jN.rD,hl,hr]) (k _ hk (by simpa using gN) hz)
def gC (P:Program) (S i:Nat):Option Nat:=match P.underlying S with
 |some (.struct fs)=>match fs[i]? with
  |some f=>match P.info? f.type with
   |some t=>if t.size=0 then none else some f.offset
   |none=>none
  |none=>none
 |_=>none
theorem YA {S:Nat} (h:gC P S i=some off):(Instr.fieldAt S (.pointer (some ⟨b,o,none⟩)) i).run P w= .ok (.pointer (some ⟨b,o+off,none⟩)) w:=by
 unfold gC at h
 cases hu:P.underlying S with
 |none=>simp[hu] at h
 |some d=>
  cases d<;>simp[hu] at h
  rename_i fs
  cases hf:fs[i]? with
  |none=>simp[hf] at h
  |some f=>
   simp only[hf] at h
   cases hi:P.info? f.type with
   |none=>simp[hi] at h
   |some t=>
    simp only[hi] at h
    by_cases hz:t.size=0
    ·simp[hz] at h
    ·simp[hz] at h
     simp[Instr.fieldAt,run_underlying hu,hf,Instr.sureAddr,fieldPlace,sizeOf,typeInfo,hi,hz,qM,h]
theorem Qd {S:Nat} (hS:gC P S i=some off) (hg:gate ops e g=true) (hd:bV n dst=true) (hx:ev e x= .pointer (some ⟨b,o,none⟩)) 
  (k:OW P n ops K rest (bM e dst (.pointer (some ⟨b,o+off,none⟩))) w):OW P n ops K (⟨dst,.fieldAddr S x i,ty,pos,after,g⟩::rest) e w:=
 eQ hg hd (by simp[execOp,hx,YA hS]) k
theorem Qe {T E:TypeId} {x y:Operand} {b o len cap i:Nat} {ki:IntKind} (hT:P.underlying T=some (.slice E)) (hE:TI P E sz bytes z) (hg:gate ops e g=true) (hd:bV n dst=true) 
  (hx:ev e x= .slice (some ⟨b,o,none⟩) len cap) (hy:ev e y= .int ki (i:Int)) (hi:i<len)
  (k:OW P n ops K rest (bM e dst (.pointer (some ⟨b,o+i*sz,none⟩))) w):OW P n ops K (⟨dst,.indexAddr T x y,ty,pos,after,g⟩::rest) e w:=
 eQ hg hd (by
  have h2:¬len<=i:=by omega
  simp[execOp,Instr.indexAt,hx,hy,asIntOf,run_underlying hT,h2,hE.rD,qM]) k
theorem Fq {T E:TypeId} {a:Option Addr} {cap:Nat} (hT:P.underlying T=some (.slice E)) (hg:gate ops e g=true) (hd:bV n dst=true) (hx:ev e x= .slice a m cap) 
  (k:OW P n ops K rest (bM e dst (.int .i64 m)) w):OW P n ops K (⟨dst,.call {callee:=.builtin .len,args:=#[x],argTypes:=#[T]},ty,pos,after,g⟩::rest) e w:=
 eQ hg hd (by
  simp[execOp,resolve,invoke,builtin,hx,Builtin.len_,run_underlying hT,goInt]) k
theorem YB {T:TypeId} {s:ByteArray} (hT:P.underlying T=some .string) (hg:gate ops e g=true) (hd:bV n dst=true) (hx:ev e x= .string s) (hm:s.size=m) 
  (k:OW P n ops K rest (bM e dst (.int .i64 m)) w):OW P n ops K (⟨dst,.call {callee:=.builtin .len,args:=#[x],argTypes:=#[T]},ty,pos,after,g⟩::rest) e w:=
 eQ hg hd (by
  simp[execOp,resolve,invoke,builtin,hx,Builtin.len_,run_underlying hT,goInt,hm]) k
theorem Qf (hg:gate ops e g=true) (hd:bV n dst=true) (hx:ev e x= .tuple vs.toArray) (hi:vs[i]?=some v) 
  (k:OW P n ops K rest (bM e dst v) w):OW P n ops K (⟨dst,.extract x i,ty,pos,after,g⟩::rest) e w:=
 eQ hg hd (by simp[execOp,Instr.extract,hx,hi]) k
end
abbrev str (l:List UInt8):Value:=.string ⟨l.toArray⟩
section
variable {P:Program} {n:Nat} {ops:Array Oper} {K:Env->World->Prop} {rest:List Oper} {e:Env} {w w':World}
 {dst:Option Nat} {ty:TypeId} {pos:String} {after:Array Edge} {g:Option (Nat×Bool)} {T T':TypeId} {x y:Operand}
theorem H9 {b:Int} (hg:gate ops e g=true) (hd:bV n dst=true) (hx:ev e x= .int k a) (hy:ev e y= .int k' b) (hk:k=k':=by rfl) 
  (c:OW P n ops K rest (bM e dst (.bool (decide (a<b)))) w):OW P n ops K (⟨dst,.binOp .lss T x y T',ty,pos,after,g⟩::rest) e w:=
 eQ hg hd (by subst hk;cases k<;>simp[execOp,eqGuard,hx,hy,binOp,Op.intCmp]) c
theorem YC {b:Int} (hg:gate ops e g=true) (hd:bV n dst=true) (hx:ev e x= .int k a) (hy:ev e y= .int k' b) (hk:k=k':=by rfl) 
  (c:OW P n ops K rest (bM e dst (.bool (decide (a<=b)))) w):OW P n ops K (⟨dst,.binOp .leq T x y T',ty,pos,after,g⟩::rest) e w:=
 eQ hg hd (by subst hk;cases k<;>simp[execOp,eqGuard,hx,hy,binOp,Op.intCmp]) c
theorem Fs {b:Int} (hg:gate ops e g=true) (hd:bV n dst=true) (hx:ev e x= .int k a) (hy:ev e y= .int k' b) (hk:k=k':=by rfl) 
  (c:OW P n ops K rest (bM e dst (.bool (decide (b<a)))) w):OW P n ops K (⟨dst,.binOp .gtr T x y T',ty,pos,after,g⟩::rest) e w:=
 eQ hg hd (by subst hk;cases k<;>simp[execOp,eqGuard,hx,hy,binOp,Op.intCmp]) c
theorem Qg {b:Int} (hg:gate ops e g=true) (hd:bV n dst=true) (hx:ev e x= .int k a) (hy:ev e y= .int k' b) (hk:k=k':=by rfl) 
  (c:OW P n ops K rest (bM e dst (.bool (decide (b<=a)))) w):OW P n ops K (⟨dst,.binOp .geq T x y T',ty,pos,after,g⟩::rest) e w:=
 eQ hg hd (by subst hk;cases k<;>simp[execOp,eqGuard,hx,hy,binOp,Op.intCmp]) c
theorem vY {b:Int} (hg:gate ops e g=true) (hd:bV n dst=true) (hx:ev e x= .int k a) (hy:ev e y= .int k' b) (hk:k=k':=by rfl) 
  (c:OW P n ops K rest (bM e dst (.bool (decide (a=b)))) w):OW P n ops K (⟨dst,.binOp .eql T x y T',ty,pos,after,g⟩::rest) e w:=
 eQ hg hd (by
  have h:(a==b)=decide (a=b):=by by_cases h:a=b<;>simp[h]
  subst hk;cases k<;>simp[execOp,eqGuard,hx,hy,binOp,Op.intCmp,h]) c
theorem Ia {b:Int} (hg:gate ops e g=true) (hd:bV n dst=true) (hx:ev e x= .int k a) (hy:ev e y= .int k' b) (hk:k=k':=by rfl) 
  (c:OW P n ops K rest (bM e dst (.bool (decide (a≠b)))) w):OW P n ops K (⟨dst,.binOp .neq T x y T',ty,pos,after,g⟩::rest) e w:=
 eQ hg hd (by
  have h:(a !=b)=decide (a≠b):=by by_cases h:a=b<;>simp[h]
  subst hk;cases k<;>simp[execOp,eqGuard,hx,hy,binOp,Op.intCmp,h]) c
theorem mY {b c:Int} (hg:gate ops e g=true) (hd:bV n dst=true) (hx:ev e x= .int k a) (hy:ev e y= .int k' b) (hk:k=k':=by rfl) (hc:k.wrap (a+b)=c) 
  (c':OW P n ops K rest (bM e dst (.int k c)) w):OW P n ops K (⟨dst,.binOp .add T x y T',ty,pos,after,g⟩::rest) e w:=
 eQ hg hd (by subst hk;cases k<;>simp[execOp,eqGuard,hx,hy,binOp,Op.intArith,hc]) c'
theorem xK {b c:Int} (hg:gate ops e g=true) (hd:bV n dst=true) (hx:ev e x= .int k a) (hy:ev e y= .int k' b) (hk:k=k':=by rfl) (hc:k.wrap (a-b)=c) 
  (c':OW P n ops K rest (bM e dst (.int k c)) w):OW P n ops K (⟨dst,.binOp .sub T x y T',ty,pos,after,g⟩::rest) e w:=
 eQ hg hd (by subst hk;cases k<;>simp[execOp,eqGuard,hx,hy,binOp,Op.intArith,hc]) c'
theorem Ib {b c:Int} (hg:gate ops e g=true) (hd:bV n dst=true) (hx:ev e x= .int k a) (hy:ev e y= .int k' b) (hk:k=k':=by rfl) (hc:k.wrap (a*b)=c) 
  (c':OW P n ops K rest (bM e dst (.int k c)) w):OW P n ops K (⟨dst,.binOp .mul T x y T',ty,pos,after,g⟩::rest) e w:=
 eQ hg hd (by subst hk;cases k<;>simp[execOp,eqGuard,hx,hy,binOp,Op.intArith,hc]) c'
theorem K1 {a:Nat} {c:Int} (hg:gate ops e g=true) (hd:bV n dst=true) (hx:ev e x= .int k (a:Int)) (hy:ev e y= .int k' (b:Int)) (hk:k=k':=by rfl) (hb:0<b) (hc:k.wrap ((a/b:Nat):Int)=c) 
  (c':OW P n ops K rest (bM e dst (.int k c)) w):OW P n ops K (⟨dst,.binOp .quo T x y T',ty,pos,after,g⟩::rest) e w:=
 eQ hg hd (by
  have h1:¬b=0:=by omega
  subst hk
  cases k<;>simp[execOp,eqGuard,hx,hy,binOp,Op.intDiv,h1]<;>(try rw[<-hc])<;>(try simp)) c'
theorem Ft {a:Nat} (hg:gate ops e g=true) (hd:bV n dst=true) (hx:ev e x= .int k (a:Int)) (hy:ev e y= .int k' (b:Int)) (hk:k=k':=by rfl) (hb:0<b) 
  (c':OW P n ops K rest (bM e dst (.int k ((a%b:Nat):Int))) w):OW P n ops K (⟨dst,.binOp .rem T x y T',ty,pos,after,g⟩::rest) e w:=
 eQ hg hd (by
  have h1:¬b=0:=by omega
  have h2:(a:Int).tmod (b:Int)=((a:Int)%(b:Int)):=Int.tmod_eq_emod_of_nonneg om
  subst hk
  cases k<;>simp[execOp,eqGuard,hx,hy,binOp,Op.intDiv,h1,h2]) c'
theorem kx {b:Bool} (hg:gate ops e g=true) (hd:bV n dst=true) (hx:ev e x= .bool b) (c:OW P n ops K rest (bM e dst (.bool (!b))) w):
  OW P n ops K (⟨dst,.unOp .not T x,ty,pos,after,g⟩::rest) e w:=
 eQ hg hd (by simp[execOp,Op.unary,hx]) c
theorem YD {a b:Bool} (hT:P.underlying T=some .bool) (hg:gate ops e g=true) (hd:bV n dst=true) (hx:ev e x= .bool a) (hy:ev e y= .bool b) 
  (c:OW P n ops K rest (bM e dst (.bool (a==b))) w):OW P n ops K (⟨dst,.binOp .eql T x y T',ty,pos,after,g⟩::rest) e w:=
 eQ hg hd (by simp[execOp,eqGuard,hx,hy,run_eql_bool w T a b hT]) c
theorem YE {a b:Bool} (hT:P.underlying T=some .bool) (hg:gate ops e g=true) (hd:bV n dst=true) (hx:ev e x= .bool a) (hy:ev e y= .bool b) 
  (c:OW P n ops K rest (bM e dst (.bool (!(a==b)))) w):OW P n ops K (⟨dst,.binOp .neq T x y T',ty,pos,after,g⟩::rest) e w:=
 eQ hg hd (by simp[execOp,eqGuard,hx,hy,run_neq_bool w T a b hT]) c
/-! ### Strings -/
theorem gV {a b:List UInt8} (hg:gate ops e g=true) (hd:bV n dst=true) (hx:ev e x=str a) (hy:ev e y=str b) (hs:a.length+b.length<=9223372036854775807) 
  (c:OW P n ops K rest (bM e dst (str (a++b))) w):OW P n ops K (⟨dst,.binOp .add T x y T',ty,pos,after,g⟩::rest) e w:=
 eQ hg hd (by
  have h1:¬(IntKind.i64.max<(a.length:Int)+(b.length:Int)):=by
   have:IntKind.i64.max=9223372036854775807:=by decide
   omega
  have h2:(⟨a.toArray⟩:ByteArray)++⟨b.toArray⟩=⟨(a++b).toArray⟩:=by
   apply ByteArray.ext;simp
  simp[execOp,eqGuard,hx,hy,binOp,Op.stringOp,ByteArray.size,h2]
  omega) c
theorem DG {a b:List UInt8} (hg:gate ops e g=true) (hd:bV n dst=true) (hx:ev e x=str a) (hy:ev e y=str b) 
  (c:OW P n ops K rest (bM e dst (.bool (decide (a=b)))) w):OW P n ops K (⟨dst,.binOp .eql T x y T',ty,pos,after,g⟩::rest) e w:=
 eQ hg hd (by
  have h:(a==b)=decide (a=b):=by by_cases h:a=b<;>simp[h]
  simp[execOp,eqGuard,hx,hy,binOp,Op.stringOp,h]) c
theorem K2 {a b:List UInt8} (hg:gate ops e g=true) (hd:bV n dst=true) (hx:ev e x=str a) (hy:ev e y=str b) 
  (c:OW P n ops K rest (bM e dst (.bool (decide (a≠b)))) w):OW P n ops K (⟨dst,.binOp .neq T x y T',ty,pos,after,g⟩::rest) e w:=
 eQ hg hd (by
  have h:(a==b)=decide (a=b):=by by_cases h:a=b<;>simp[h]
  simp[execOp,eqGuard,hx,hy,binOp,Op.stringOp,h]) c
theorem j3 {a:List UInt8} {b:UInt8} (hT:P.underlying T=some .string) (hg:gate ops e g=true) (hd:bV n dst=true) (hx:ev e x=str a) (hy:ev e y= .int k (i:Int)) (hi:a[i]?=some b) 
  (c:OW P n ops K rest (bM e dst (.int .u8 b.toNat)) w):OW P n ops K (⟨dst,.index T x y,ty,pos,after,g⟩::rest) e w:=
 eQ hg hd (by
  obtain⟨hl,he⟩:=List.getElem?_eq_some_iff.1 hi
  have hr:=run_index_string (P:=P) w T ⟨a.toArray⟩ k (i:Int) hT
  have fC:(⟨a.toArray⟩:ByteArray).size=a.length:=by simp[ByteArray.size]
  rw[dif_pos (by rw[fC];omega)] at hr
  simp only[execOp,hx,hy,Sem.run_bind,hr]
  simp only[Result.andThen_ok,Sem.run_pure,Int.toNat_natCast]
  rw[<-he];rfl) c
theorem YF {a:List UInt8} {lo hi:Option Value} {l h:Nat} (hT:P.underlying T=some .string) 
  (tu:(lo=none∧l=0)∨∃k,lo=some (.int k (l:Int))) (BD:(hi=none∧h=a.length)∨∃k,hi=some (.int k (h:Int))) (h1:l<=h) (h2:h<=a.length):
  (Instr.sliceAt T (str a) lo hi none).run P w= .ok (str ((a.drop l).take (h-l))) w:=by
 have e1:(⟨a.toArray⟩:ByteArray).extract l h=⟨((a.drop l).take (h-l)).toArray⟩:=ByteArray.extract_mk a l h
 have e2:(⟨a.toArray⟩:ByteArray).size=a.length:=by simp[ByteArray.size]
 rcases tu with⟨rfl,rfl⟩|⟨k,rfl⟩<;>rcases BD with⟨rfl,rfl⟩|⟨k',rfl⟩<;>
  simp[Instr.sliceAt,Instr.slice,run_underlying hT,Instr.sliceBounds,Instr.sliceBound,asIntOf,e2,h1,h2,e1]
theorem BE {a:List UInt8} {lo hi:Option Operand} {l h:Nat} (hT:P.underlying T=some .string) (hg:gate ops e g=true) (hd:bV n dst=true) (hx:ev e x=str a) 
  (tu:(lo.map (ev e)=none∧l=0)∨∃k,lo.map (ev e)=some (.int k (l:Int))) (BD:(hi.map (ev e)=none∧h=a.length)∨∃k,hi.map (ev e)=some (.int k (h:Int))) (h1:l<=h) (h2:h<=a.length)
  (c:OW P n ops K rest (bM e dst (str ((a.drop l).take (h-l)))) w):OW P n ops K (⟨dst,.slice T x lo hi none,ty,pos,after,g⟩::rest) e w:=
 eQ hg hd (by simp only[execOp,hx,Option.map_none,Sem.run_bind,YF hT tu BD h1 h2];rfl) c
theorem Fu {L:List Nat} {E:TypeId} {lo:Operand} {b off len cap l:Nat} {k:IntKind} (hT:P.underlying T=some (.slice E)) (hE:TI P E sz bytes z) (hg:gate ops e g=true) (hd:bV n dst=true) 
  (hx:ev e x= .slice (some ⟨b,off,none⟩) len cap) (tu:ev e lo= .int k (l:Int)) (hl:l<=len) {rows:List (List C)} (hr:bQ L w (.slice (some ⟨b,off,none⟩) len cap) (.sl sz rows))
  (c:∀v,bQ L w v (.sl sz (rows.drop l))->OW P n ops K rest (bM e dst v) w):OW P n ops K (⟨dst,.slice T x (some lo) none none,ty,pos,after,g⟩::rest) e w:=by
 have zq:len<=cap:=by cases hr with|nil=>exact Nat.zero_le _|sl _ _ _ _ _ _ _ hl hc=>exact hc
 refine eQ hg hd (v:=.slice (if cap=l then some ⟨b,off,none⟩ else some ⟨b,off+l*sz,none⟩) (len-l) (cap-l)) (w':=w) ?_ (c _ (P6 hr l hl _ (λh=>iN om) (λh=>iP om)))
 simp[execOp,Instr.sliceAt,Instr.slice,hx,tu,run_underlying hT,Instr.sliceBounds,Instr.sliceBound,asIntOf,hl,hE.rD,qM]
theorem xL {S D:TypeId} {d:TypeDesc} {c:Int} (hS:P.underlying S=some d) (hD:P.underlying D=some (.int k')) (hg:gate ops e g=true) (hd:bV n dst=true) (hx:ev e x= .int k a) (hc:k'.wrap a=c) 
  (c':OW P n ops K rest (bM e dst (.int k' c)) w):OW P n ops K (⟨dst,.convert S D x,ty,pos,after,g⟩::rest) e w:=
 eQ hg hd (by simp[execOp,convert,hx,run_underlying hS,run_underlying hD,Conv.intToInt,hc]) c'
end
theorem aJ.ext {cs:Array Value} {T:TypeId} (h:aJ w b cs T) (k:aj [] w w'):aJ w' b cs T:=h.aF k sm
theorem bQ.ext {c:C} (h:bQ L w v c) (k:aj [] w w'):bQ L w' v c:=h.aF k.any
theorem j1.ext {cs:List C} (h:j1 L w v cs) (k:aj [] w w'):j1 L w' v cs:=h.aF k.any
theorem gO.ext {T:TypeId} {rows:List (List C)} (h:gO L w T sz v g rows xs) (k:aj [] w w'):gO L w' T sz v g rows xs:=h.aF k sm
theorem aj.ext (h:aj L w0 w) (k:aj [] w w'):aj L w0 w':=h.trans k.any
theorem fS.ext (h:fS w b off vs) (k:aj [] w w'):fS w' b off vs:=λj v hj=>by
 have h1:=h j v hj
 have hb:b<w.heap.size:=World.block_lt_of_cell? w ⟨b,off+j,none⟩ h1
 exact(World.cell?_of_block (k.block b hb sm)).trans h1
theorem aJ.at {T:TypeId} (h:aJ w b vs.toArray T) (hv:vs[i]?=some v):w.cell? ⟨b,i,none⟩=some v:=by
 rw[h.cell];simpa using hv
theorem aJ.all {T:TypeId} (h:aJ w b vs.toArray T):fS w b 0 vs:=λj v hj=>by
 rw[Nat.zero_add];exact h.at hj
theorem wrap_i64 (x:Int) (h1: -9223372036854775808<=x) (h2:x<=9223372036854775807):IntKind.i64.wrap x=x:=by
 simp only[IntKind.wrap,IntKind.bits,IntKind.signed];simp;omega
theorem wrap_u8 (x:Int) (h1:0<=x) (h2:x<=255):IntKind.u8.wrap x=x:=by
 simp only[IntKind.wrap,IntKind.bits,IntKind.signed];simp;omega
theorem wrap_u64 (x:Int) (h1:0<=x) (h2:x<=18446744073709551615):IntKind.u64.wrap x=x:=by
 simp only[IntKind.wrap,IntKind.bits,IntKind.signed];simp;omega
section
variable {P:Program} {n:Nat} {ops:Array Oper} {K:Env->World->Prop} {rest:List Oper} {e:Env} {w w':World}
 {dst:Option Nat} {ty:TypeId} {pos:String} {after:Array Edge} {g:Option (Nat×Bool)} {T:TypeId} {x:Operand}
theorem YG (hg:gate ops e g=true) (hd:bV n dst=true) (hx:ev e x= .agg vs.toArray) 
  (k:∀w',aj [] w w'->aJ w' w.heap.size vs.toArray T->w'.heap.size=w.heap.size+1->OW P n ops K rest (bM e dst (.pointer (some ⟨w.heap.size,0,none⟩))) w'):
  OW P n ops K (⟨dst,.box T x,ty,pos,after,g⟩::rest) e w:=Qa hg hd (by rw[hx];rfl) k
theorem eH (hx:ev e x= .agg vs.toArray) (k:∀w',aj [] w w'->aJ w' w.heap.size vs.toArray T->w'.heap.size=w.heap.size+1->OW P n ops K rest (bM e dst (.pointer (some ⟨w.heap.size,0,none⟩))) w') (hg:gate ops e g=true:=by rfl) (hd:bV n dst=true:=by rfl):OW P n ops K (⟨dst,.box T x,ty,pos,after,g⟩::rest) e w:=YG hg hd hx k
theorem K3 (hg:gate ops e g=true) (hd:bV n dst=true) (hx:(ev e x).cells=[v].toArray) 
  (k:∀w',aj [] w w'->aJ w' w.heap.size [v].toArray T->w'.heap.size=w.heap.size+1->OW P n ops K rest (bM e dst (.pointer (some ⟨w.heap.size,0,none⟩))) w'):
  OW P n ops K (⟨dst,.box T x,ty,pos,after,g⟩::rest) e w:=Qa hg hd hx k
theorem dy (hT:TI P T sz bytes (.agg vs.toArray)) (hg:gate ops e g=true) (hd:bV n dst=true) (_:vs=vs) 
  (k:∀w',aj [] w w'->aJ w' w.heap.size vs.toArray T->w'.heap.size=w.heap.size+1->OW P n ops K rest (bM e dst (.pointer (some ⟨w.heap.size,0,none⟩))) w'):
  OW P n ops K (⟨dst,.alloc T,ty,pos,after,g⟩::rest) e w:=Yu hT hg hd rfl k
theorem uH (h:e t=v):gU e t v=e:=by grind [mX,H5]
theorem xM {b:Bool} (ht:e t= .bool b) (h1:b=true->OW P n ops K l (gU e t (.bool true)) w) (h0:b=false->OW P n ops K l (gU e t (.bool false)) w):OW P n ops K l e w:=by cases b<;>grind [uH]
theorem Fw {b:Bool} (ht:e t= .bool b) (h:OW P n ops K l (gU e t (.bool b)) w):OW P n ops K l e w:=by
 rwa [uH ht] at h
def bj (D:List Nat) (x e:Env):Env:=λt=>bif D.contains t then x t else e t
def ek (D:List Nat) (e e':Env):Prop:=∀t,D.contains t=false->e' t=e t
theorem xN {e:Env}:ek D e e:=λ_ _=>rfl
theorem Ic {e e':Env} (hd:D.contains d=true) (h:ek D e e'):ek D e (gU e' d v):=by grind [ek,gU,H5]
theorem K4 {D2:List Nat} {e e' x:Env} (hd:D2.all D.contains=true) (h:ek D e e'):ek D e (bj D2 x e'):=by grind [ek,bj]
theorem anZ [Decidable p] (h:decide p=true):p:=of_decide_eq_true h
theorem an0 [Decidable p] (h:decide p=false):¬p:=of_decide_eq_false h
theorem an1 {b:Bool} (h:(!b)=true):b=false:=by simpa using h
theorem an2 {b:Bool} (h:(!b)=false):b=true:=by simpa using h
theorem xO {e e':Env} (h:ek D e e'):bj D e' e=e':=by grind [ek,bj]
theorem Oper.K5 {o:Oper} {a:Act} {w:World} {H H':Act->World->Prop} {Q Q':Exit->Act->World->Prop} (h:∀a w,H a w->H' a w) 
  (hp:∀c a w,Q (.panic c) a w->Q' (.panic c) a w) (ho:LetsOut Q->LetsOut Q') (hh:o.wp P a w H Q):o.wp P a w H' Q':=by
 unfold Oper.wp at*
 generalize(execOp a.eval o).run P w=r at*
 cases r with
 |ok n w'=>
  cases n<;>simp only[Oper.upon] at hh⊢<;>
   first
    |exact h _ _ hh
    |exact Calls.mono hh (λe w'' he=>by cases e<;>first|exact h _ _ he|exact hp _ _ _ he|exact ho he)
    |exact Rows.mono hh (λ_ _ he=>h _ _ he)
 |halt x w'=>cases x<;>simp only[Oper.upon] at hh⊢<;>first|exact hp _ _ _ hh|exact hh
theorem K6 {N:Env->World->Prop} {l2:List Oper} (k:∀e' a' w',Fits n e' a'->N e' w'->wpList P ops (pw n K Q) l2 a' w'):
  ∀(l1:List Oper) (a:Act) (w:World),wpList P ops (pw n N Q) l1 a w->wpList P ops (pw n K Q) (l1++l2) a w
 |[],a,w,h=>by
  simp only[wpList,pw] at h
  obtain⟨e',hf,hn⟩:=h
  exact k e' a w hf hn
 |o::l,a,w,h=>by
  have hl:LetsOut (pw n N Q)->LetsOut (pw n K Q):=fun⟨a,w,hq⟩=>⟨a,w,hq⟩
  simp only[List.cons_append]
  unfold wpList at h⊢
  by_cases hw:Region.wanted o (yielded ops a.tmps)=true
  ·rw[iP hw] at h⊢
   rcases h with h|⟨h1,h2⟩
   ·exact .inl (Oper.K5 (λa' w' h'=>K6 k l a' w' h') (λ_ _ _ h=>h) hl h)
   ·exact .inr ⟨h1,hl h2⟩
  ·rw[iN hw] at h⊢
   exact K6 k l _ w h
theorem vZ {l1 l2:List Oper} {N:Env->World->Prop} (h:OW P n ops N l1 e w) (k:∀e' w',N e' w'->OW P n ops K l2 e' w'):OW P n ops K (l1++l2) e w:=λa ha Q=>
 K6 (λe' a' w' hf hn=>k e' w' hn a' hf Q) l1 a w (h a ha Q)
theorem Ig {l:List Oper} (m tc tp:Nat) (D:List Nat) {c r:Bool} (J:World->Prop) (ht:e tc= .bool c) 
  (h1:c=true->OW P n ops (λe' w'=>ek D e e'∧e' tp= .bool r∧J w') (l.take m) (gU e tc (.bool true)) w)
  (h0:c=false->OW P n ops (λe' w'=>ek D e e'∧e' tp= .bool false∧J w') (l.take m) (gU e tc (.bool false)) w)
  (k:∀x w',J w'->OW P n ops K (l.drop m) (gU (bj D x e) tp (.bool (c&&r))) w'):OW P n ops K l e w:=by
 rw[<-List.take_append_drop m l]
 cases c with
 |true=>
  have h:=h1 rfl
  rw[uH ht] at h
  refine vZ h λe' w' ⟨ha,hp,hj⟩=>?_
  have:=k e' w' hj
  rw[xO ha,Bool.true_and,uH hp] at this
  exact this
 |false=>
  have h:=h0 rfl
  rw[uH ht] at h
  refine vZ h λe' w' ⟨ha,hp,hj⟩=>?_
  have:=k e' w' hj
  rw[xO ha,Bool.false_and,uH hp] at this
  exact this
theorem BF {l:List Oper} (m tc tp:Nat) (D:List Nat) {c r:Bool} (J:World->Prop) (ht:e tc= .bool c) 
  (h1:c=true->OW P n ops (λe' w'=>ek D e e'∧e' tp= .bool true∧J w') (l.take m) (gU e tc (.bool true)) w)
  (h0:c=false->OW P n ops (λe' w'=>ek D e e'∧e' tp= .bool r∧J w') (l.take m) (gU e tc (.bool false)) w)
  (k:∀x w',J w'->OW P n ops K (l.drop m) (gU (bj D x e) tp (.bool (c||r))) w'):OW P n ops K l e w:=by
 rw[<-List.take_append_drop m l]
 cases c with
 |true=>
  have h:=h1 rfl
  rw[uH ht] at h
  refine vZ h λe' w' ⟨ha,hp,hj⟩=>?_
  have:=k e' w' hj
  rw[xO ha,Bool.true_or,uH hp] at this
  exact this
 |false=>
  have h:=h0 rfl
  rw[uH ht] at h
  refine vZ h λe' w' ⟨ha,hp,hj⟩=>?_
  have:=k e' w' hj
  rw[xO ha,Bool.false_or,uH hp] at this
  exact this
theorem YH {a:List UInt8} (hT:P.underlying T=some .string) (hg:gate ops e g=true) (hd:bV n dst=true) (hx:ev e x=str a) 
  (k:OW P n ops K rest (bM e dst (.int .i64 (a.length:Nat))) w):OW P n ops K (⟨dst,.call {callee:=.builtin .len,args:=#[x],argTypes:=#[T]},ty,pos,after,g⟩::rest) e w:=
 YB hT hg hd hx (by simp[ByteArray.size]) k
theorem js {l:List (Nat×Operand)} (hb:(Instr.build T (l.map λp=>(p.1,ev e p.2)).toArray).run P w= .ok v w) (hg:gate ops e g=true) (hd:bV n dst=true) 
  (k:OW P n ops K rest (bM e dst v) w):OW P n ops K (⟨dst,.build T l.toArray,ty,pos,after,g⟩::rest) e w:=
 eQ hg hd (by simp only[execOp,List.map_toArray,Sem.run_bind,hb];rfl) k
end
theorem ga {e:Env} {ty:Nat} {T:TypeId} (hA:sj P ty=true) (jN:TI P ty sz bytes z) (he:e t= .pointer (some ⟨b,0,none⟩)) (hb:aJ w b vs.toArray T) (hl:vs.length=sz):
  P5 P e t ty (.agg vs.toArray) w:=by
 refine⟨⟨b,0,none⟩,he,?_⟩
 have:=run_loadCells_list (P:=P) w ⟨b,0,none⟩ vs (λj v hv=>by rw[qM];exact hb.all j v hv)
 rw[hl] at this
 simp[loadVar,Qb hA,jN.rD,this]
def zZ:Nat->List Value->List (Nat×Value)
 |_,[]=>[]
 |k,v::l=>(k,v)::zZ (k+1) l
theorem mg {e e':Env} {q:Prop} (h2:p) (h3:q) (h:ek D e e':=by repeat(first|with_reducible exact xN|refine Ic rfl ?_|refine K4 rfl ?_)):ek D e e'∧p∧q:=⟨h,h2,h3⟩
theorem dn {q r:Prop} (h1:p) (h2:q) (h3:r:=by first|exact qN|exact xN):p∧q∧r:=⟨h1,h2,h3⟩
def py (F:List (Value->World->Prop)) (i:Nat):Value->World->Prop:=F.getD i (λ_ _=>True)
def Fx (F:List (Value->World->Prop)) (vs:Nat->Value) (w:World):List Nat->Prop
 |[]=>True
 |[j]=>py F j (vs j) w
 |j::r=>py F j (vs j) w∧Fx F vs w r
theorem YI {vs:Nat->Value}:∀{l:List Nat},(∀j,j∈l->py F j (vs j) w)->Fx F vs w l:=by intro x;induction x<;>grind [py,Fx]
def tw (ds:List Nat) (vs:Nat->Value):List Nat->List (Nat×Value)
 |[]=>[]
 |j::r=>(ds.getD j 0,vs j)::tw ds vs r
structure Kept (KK:World->World->Prop):Prop where
 refl:∀w,KK w w
 trans:∀{a b c},KK a b->KK b c->KK a c
 of:∀{a b},aj [] a b->KK a b
theorem lV:Kept (aj []):=⟨aj.refl _,aj.trans,id⟩
def KS (b:Nat) (cs:List Value) (T:TypeId) (w w':World):Prop:=aj [b] w w'∧(aJ w b cs.toArray T->aJ w' b cs.toArray T)∧
 ((∃us:List Value,us.length=cs.length∧aJ w b us.toArray T)->∃us:List Value,us.length=cs.length∧aJ w' b us.toArray T)
theorem cj (b:Nat) (cs:List Value) (T:TypeId):Kept (KS b cs T):=
 ⟨λ_=>⟨aj.refl _ _,id,id⟩,λh k=>⟨h.1.trans k.1,λx=>k.2.1 (h.2.1 x),λx=>k.2.2 (h.2.2 x)⟩,
  λh=>⟨h.any,λx=>x.aF h sm,fun⟨us,hl,x⟩=>⟨us,hl,x.aF h sm⟩⟩⟩
def tx (KK:World->World->Prop):List (Value->World->Prop)->Prop
 |[]=>True
 |f::r=>(∀v w w',f v w->KK w w'->f v w')∧tx KK r
theorem Qh {KK:World->World->Prop}:∀{F:List (Value->World->Prop)},tx KK F->∀f,f∈F->∀v w w',f v w->KK w w'->f v w'
 |[],_,_,h=>by cases h
 |g::r,h,f,hf=>by
  rcases mC.1 hf with rfl|hf
  ·exact h.1
  ·exact Qh h.2 f hf
theorem fu {KK:World->World->Prop} {V:Value} (h:tx KK r):tx KK ((λv _=>v=V)::r):=⟨λ_ _ _ h _=>h,h⟩
theorem BG {KK:World->World->Prop} {c:Prop} {V:Value} (h:tx KK r):tx KK ((λv _=>c->v=V)::r):=⟨λ_ _ _ h _=>h,h⟩
theorem DH {cs:List Value} {T:TypeId} (h:tx (KS b cs T) r):tx (KS b cs T) ((λ_ w=>aJ w b cs.toArray T)::r):=⟨λ_ _ _ h k=>k.2.1 h,h⟩
theorem YJ {KK:World->World->Prop} {f:Value->World->Prop} (hf:∀v w w',f v w->KK w w'->f v w') (h:tx KK r):tx KK (f::r):=⟨hf,h⟩
theorem qN {e:Env}:ek [d] e (bM e (some d) v):=Ic sm xN
def K7 (KK:World->World->Prop) (P:Program) (n:Nat) (ops:Array Oper) (W ds:List Nat) (F:List (Value->World->Prop)) (e0:Env) (w0:World) (k:Nat) (o:Oper) (deps:List Nat):Prop:=
 ∀(x:Env) (vs:Nat->Value) (w:World) (e:Env),KK w0 w->Fx F vs w deps->e=bo (bj W x e0) (tw ds vs deps)->
  OW P n ops (λe' w'=>KK w w'∧py F k (e' (ds.getD k 0)) w'∧ek [ds.getD k 0] e e') [o] e w
def BH (KK:World->World->Prop) (P:Program) (n:Nat) (ops:Array Oper) (W ds:List Nat) (F:List (Value->World->Prop)) (e0:Env) (w0:World):Nat->List Oper->List (List Nat)->Prop
 |_,[],_=>True
 |_,_::_,[]=>True
 |k,o::l,d::r=>K7 KK P n ops W ds F e0 w0 k o d∧BH KK P n ops W ds F e0 w0 (k+1) l r
def waits (o:Oper) (j:Nat):Bool:=o.after.toList.any λe=>Region.binds .any e&&e.on==j
def uI (l:List Oper) (m:Nat) (W ds:List Nat) (deps:List (List Nat)):Bool:=
 decide (m<=l.length)&&decide (ds.length=m)&&decide (deps.length=m)&&decide (ds.Nodup)&&
 (List.range l.length).all (λk=>match l[k]? with
  |some o=>o.after.toList.all (λe=>!Region.binds .any e||decide (e.on<k))&&
   (if k<m then W.contains (ds.getD k 0)&&(deps.getD k []).all (λj=>waits o j&&decide (j<m)) else(List.range k).all (λj=>(List.range (k+1)).any λx=>decide (j<x)&&(match l[x]? with|some o'=>waits o' j|none=>false)))
  |none=>false)
theorem eh {KK:World->World->Prop} {P:Program} {n:Nat} {ops:Array Oper} {W ds:List Nat} {F:List (Value->World->Prop)} {e0:Env} {w0:World} {k:Nat} {o:Oper} {l:List Oper} {d:List Nat} {r:List (List Nat)} 
  (h:K7 KK P n ops W ds F e0 w0 k o d) (hr:BH KK P n ops W ds F e0 w0 (k+1) l r):BH KK P n ops W ds F e0 w0 k (o::l) (d::r):=⟨h,hr⟩
theorem Qi {KK:World->World->Prop} {W ds:List Nat} {e0:Env}:∀(l:List Oper) (deps:List (List Nat)) (k:Nat),BH KK P n ops W ds F e0 w0 k l deps->
  ∀(i:Nat) (o:Oper) (d:List Nat),l[i]?=some o->deps[i]?=some d->K7 KK P n ops W ds F e0 w0 (k+i) o d
 |[],_,_,_,i,o,d,hi,_=>by simp at hi
 |_::_,[],_,_,i,o,d,_,hd=>by simp at hd
 |o'::l,d'::r,k,h,i,o,d,hi,hd=>by
  cases i with
  |zero=>simp at hi hd;subst hi;subst hd;exact h.1
  |succ i=>
   have:=Qi l r (k+1) h.2 i o d (by simpa using hi) (by simpa using hd)
   rw[show k+1+i=k+(i+1) from by omega] at this;exact this
theorem Fy {e:Env}:∀{l:List (Nat×Value)},(∀p,p∈l->e p.1=p.2)->bo e l=e
 |[],_=>rfl
 |p::r,h=>by
  simp only[bo,Fy (e:=e) (l:=r) (λq hq=>h q (by simp[hq]))]
  exact uH (h p sm)
theorem YK {KK:World->World->Prop} (hF:∀f,f∈F->∀v w w',f v w->KK w w'->f v w') (i:Nat) (h:py F i v w) (k:KK w w'):py F i v w':=by
 unfold py at*
 rw[gG] at*
 cases hf:F[i]? with
 |none=>simp
 |some f=>
  simp only[hf,Option.getD_some] at h⊢
  exact hF f (List.mem_of_getElem? hf) v w w' h k
section
variable {P:Program} {n:Nat} {l:List Oper} {m:Nat} {W ds:List Nat} {deps:List (List Nat)}
theorem DI (hB:uI l m W ds deps=true):m<=l.length∧ds.length=m∧deps.length=m∧ds.Nodup∧
  ∀k o,l[k]?=some o->(∀e∈o.after,Region.binds .any e=true->e.on<k)∧
   (k<m->W.contains (ds.getD k 0)=true∧∀j∈deps.getD k [],waits o j=true∧j<m)∧(m<=k->∀j,j<k->∃x o',j<x∧x<=k∧l[x]?=some o'∧waits o' j=true):=by
 simp only[uI,aE,dE] at hB
 obtain⟨⟨⟨⟨h1,h2⟩,h3⟩,h4⟩,h5⟩:=hB
 refine⟨h1,h2,h3,h4,λk o hk=>?_⟩
 have fb:k<l.length:=(List.getElem?_eq_some_iff.1 hk).1
 have:=List.all_eq_true.1 h5 k (List.mem_range.2 fb)
 simp only[hk,aE] at this
 obtain⟨ha,hb⟩:=this
 refine⟨λe he tC=>?_,λdU=>?_,λhle j hj=>?_⟩
 ·have:=List.all_eq_true.1 ha e (by simpa using he)
  simpa[tC] using this
 ·rw[iP dU] at hb
  simp only[aE,List.all_eq_true,dE] at hb
  exact⟨hb.1,λj hj=>hb.2 j hj⟩
 ·rw[iN om] at hb
  have:=List.all_eq_true.1 hb j (List.mem_range.2 hj)
  obtain⟨x,hx,fj⟩:=List.any_eq_true.1 this
  rw[List.mem_range] at hx
  simp only[aE,dE] at fj
  cases ho:l[x]? with
  |none=>rw[ho] at fj;cases fj.2
  |some o'=>rw[ho] at fj;exact⟨x,o',fj.1,om,ho,fj.2⟩
theorem K8 {o:Oper} (h:waits o j=true):∃e∈o.after,Region.binds .any e=true∧e.on=j:=by grind [waits]
def Ih (l:List Oper) (listed:Array Bool):Prop:=∀j o,l[j]?=some o->listed.getD j false=true->∀e∈o.after,Region.binds .any e=true->listed.getD e.on false=true
theorem K9 {k:Nat} {o:Oper} {listed:Array Bool} (lW:Ih l listed) (ho:l[k]?=some o) (hr:∀e∈o.after,Region.binds .any e=true->listed.getD e.on false=true) 
  (hw:∀j,j<k->∃x o',j<x∧x<=k∧l[x]?=some o'∧waits o' j=true):∀d j,j+d=k->0<d->listed.getD j false=true:=by
 intro d
 induction d using Nat.strongRecOn with
 |_ d ih=>
  intro j hj hd
  obtain⟨x,o',h1,h2,h3,h4⟩:=hw j om
  obtain⟨e,he,hb,ky⟩:=K8 h4
  rcases Nat.lt_or_ge x k with hx|hx
  ·have:=ih (k-x) om x om om
   rw[<-ky];exact lW x o' h3 this e he hb
  ·have YL:x=k:=by omega
   subst YL
   rw[ho] at h3;cases h3
   rw[<-ky];exact hr e he hb
theorem Ii (hB:uI l m W ds deps=true) {Q:Exit->Act->World->Prop}:∀(fuel k:Nat) (listed:Array Bool) (a:Act) (w:World),m<=k->k+fuel=l.length->listed.size=l.length->
  (∀j,j<l.length->(listed.getD j true=false↔k<=j))->wpList P l.toArray Q (l.drop k) a w->wpAny P .any l.toArray Q fuel listed a w:=by
 obtain⟨_,_,_,_,mZ⟩:=DI hB
 intro fuel
 induction fuel with
 |zero=>
  intro k listed a w wb hk hs hl h
  have fb:k=l.length:=by omega
  refine⟨?_,?_⟩
  ·cases hr:Region.ready .any l.toArray listed with
   |nil=>rfl
   |cons i is=>
    have hi:i∈Region.ready .any l.toArray listed:=by rw[hr];simp
    obtain⟨hu,o,ho,_⟩:=mem_ready.1 hi
    have mj:i<l.length:=by simpa using(Array.getElem?_eq_some_iff.1 ho).1
    have:=(hl i mj).1 hu
    omega
  ·rw[fb,List.drop_length] at h;exact h
 |succ fuel ih=>
  intro k listed a w wb hk hs hl h
  have fb:k<l.length:=by omega
  obtain⟨o,ho⟩:∃o,l[k]?=some o:=⟨l[k],gE fb⟩
  have zt:∀j,j<k->listed.getD j false=true:=λj hj=>by
   have h1:¬listed.getD j true=false:=λhh=>by have:=(hl j om).1 hh;omega
   rw[Array.getD_eq_getD_getElem?] at h1⊢
   have:j<listed.size:=by omega
   rw[Array.getElem?_eq_getElem this] at h1⊢
   simpa using h1
  have Qj:k∈Region.ready .any l.toArray listed:=mem_ready.2 ⟨(hl k fb).2 (lR _),o,by simpa using ho,λe he hb=>zt _ ((mZ k o ho).1 e he hb)⟩
  have YM:∀i,i∈Region.ready .any l.toArray listed->i=k:=λi hi=>by
   obtain⟨hu,oi,La,cL⟩:=mem_ready.1 hi
   have mj:i<l.length:=by simpa using(Array.getElem?_eq_some_iff.1 La).1
   have jD:=(hl i mj).1 hu
   rcases Nat.eq_or_lt_of_le jD with he|dU
   ·exact he.symm
   ·have lW:Ih l listed:=λj o ho hj e he hb=>by
     have hjk:j<k:=by
      rcases Nat.lt_or_ge j k with h|h
      ·exact h
      ·have oz:=(List.getElem?_eq_some_iff.1 ho).1
       have h2:=(hl j oz).2 h
       rw[Array.getD_eq_getD_getElem?,Array.getElem?_eq_getElem om] at hj h2
       simp at hj h2
       rw[h2] at hj;cases hj
     have:=(mZ j o ho).1 e he hb
     exact zt _ om
    have:=K9 lW (by simpa using La) cL ((mZ i oi (by simpa using La)).2.2 om) (i-k) k om om
    have h2:=(hl k fb).2 (lR _)
    rw[Array.getD_eq_getD_getElem?] at this h2
    have BI:k<listed.size:=by omega
    rw[Array.getElem?_eq_getElem BI] at this h2
    simp at this h2
    rw[h2] at this;cases this
  refine⟨λhr=>(by rw[hr] at Qj;cases Qj),λi hi=>?_⟩
  have:=YM i hi
  subst this
  have hd:l.drop i=o::l.drop (i+1):=by
   rw[List.drop_eq_getElem_cons fb]
   congr 1
   exact(List.getElem?_eq_some_iff.1 ho).2
  rw[hd] at h
  have zu:∀j,j<l.length->((listed.setIfInBounds i true).getD j true=false↔i+1<=j):=λj hj=>by
   by_cases lX:i=j
   ·subst lX
    have:i<listed.size:=by omega
    simp[Array.getD_eq_getD_getElem?,this]
   ·rw[getD_set_ne true lX,hl j hj];omega
  unfold wpOp
  have mn:l.toArray[i]?=some o:=by simpa using ho
  simp only[mn]
  unfold wpList at h
  by_cases hw:Region.wanted o (yielded l.toArray a.tmps)=true
  ·rw[iP hw] at h⊢
   exact h.imp (λh=>Oper.wp_mono (λa' w' h'=>ih (i+1) _ a' w' om om (by simpa using hs) zu h') h) id
  ·rw[iN hw] at h⊢
   exact ih (i+1) _ _ w om om (by simpa using hs) zu h
theorem YN {KK:World->World->Prop} (BJ:Kept KK) {N:Env->World->Prop} {e0:Env} {w0:World} (hB:uI l m W ds deps=true) (hF:∀f,f∈F->∀v w w',f v w->KK w w'->f v w') 
  (hc:BH KK P n l.toArray W ds F e0 w0 0 (l.take m) deps)
  (tail:∀(x:Env) (vs:Nat->Value) (w:World),KK w0 w->(∀i,i<m->py F i (vs i) w)->OW P n l.toArray N (l.drop m) (bo (bj W x e0) (tw ds vs (List.range m))) w) (Q:Exit->Act->World->Prop):
  ∀(fuel:Nat) (listed:Array Bool) (e:Env) (a:Act) (w:World),Fits n e a->KK w0 w->ek W e0 e->listed.size=l.length->
   ((List.range l.length).filter λj=>!listed.getD j true).length=fuel->
   (∀j,m<=j->j<l.length->listed.getD j true=false)->(∀j,j<m->listed.getD j true=true->py F j (e (ds.getD j 0)) w)->Ih l listed->
   wpAny P .any l.toArray (pw n N Q) fuel listed a w:=by
 obtain⟨tE,Fz,Lb,iS,mZ⟩:=DI hB
 have zt:∀(listed:Array Bool) (j:Nat),listed.size=l.length->j<l.length->¬listed.getD j true=false->listed.getD j false=true:=λlisted j hs hj h1=>by
  rw[Array.getD_eq_getD_getElem?] at h1⊢
  rw[Array.getElem?_eq_getElem om] at h1⊢
  simpa using h1
 have FB:∀(listed:Array Bool) (j:Nat),listed.size=l.length->j<l.length->listed.getD j false=true->listed.getD j true=true:=λlisted j hs hj h1=>by
  rw[Array.getD_eq_getD_getElem?] at h1⊢
  rw[Array.getElem?_eq_getElem om] at h1⊢
  simpa using h1
 intro fuel
 induction fuel with
 |zero=>
  intro listed e a w hf hk ha hs BK fF je lW
  have cL:∀j,j<l.length->listed.getD j true=true:=λj hj=>by
   cases hg:listed.getD j true with
   |true=>rfl
   |false=>
    have:j∈(List.range l.length).filter λj=>!listed.getD j true:=by rw[List.mem_filter,List.mem_range];exact⟨hj,by rw[hg];rfl⟩
    rw[List.length_eq_zero_iff.1 BK] at this;cases this
  have hm:m=l.length:=by
   rcases Nat.lt_or_ge m l.length with h|h
   ·have:=fF m (lR _) h;rw[cL m h] at this;cases this
   ·omega
  have ht:=tail e (λi=>e (ds.getD i 0)) w hk (λi hi=>je i hi (cL i om))
  rw[xO ha,Fy (by
   intro p hp
   have:∀(r:List Nat),p∈tw ds (λi=>e (ds.getD i 0)) r->e p.1=p.2:=by
    intro r
    induction r with
    |nil=>intro h;cases h
    |cons j r ih=>
     intro h
     rcases mC.1 h with h|h
     ·subst h;rfl
     ·exact ih h
   exact this _ hp)] at ht
  have h2:=ht a hf Q
  exact Ii hB 0 m listed a w (lR _) om hs (λj hj=>⟨λh=>(by rw[cL j hj] at h;cases h),λh=>om⟩) h2
 |succ fuel ih=>
  intro listed e a w hf hk ha hs BK fF je lW
  by_cases uJ:∀j,j<m->listed.getD j true=true
  ·have ht:=tail e (λi=>e (ds.getD i 0)) w hk (λi hi=>je i hi (uJ i hi))
   rw[xO ha,Fy (by
    intro p hp
    have:∀(r:List Nat),p∈tw ds (λi=>e (ds.getD i 0)) r->e p.1=p.2:=by
     intro r
     induction r with
     |nil=>intro h;cases h
     |cons j r ih=>
      intro h
      rcases mC.1 h with h|h
      ·subst h;rfl
      ·exact ih h
    exact this _ hp)] at ht
   have h2:=ht a hf Q
   have zv:∀j,j<l.length->(listed.getD j true=false↔m<=j):=λj hj=>by
    constructor
    ·intro h
     rcases Nat.lt_or_ge j m with h'|h'
     ·rw[uJ j h'] at h;cases h
     ·exact h'
    ·intro h;exact fF j h hj
   have zw:m+(fuel+1)=l.length:=by
    rw[<-BK]
    have:∀k,k<=l.length->m<=k->((List.range k).filter λj=>!listed.getD j true).length=k-m:=by
     intro k
     induction k with
     |zero=>intro _ h;simp
     |succ k ihk=>
      intro fb wb
      rw[List.range_succ,List.filter_append,lA]
      rcases Nat.lt_or_ge k m with h'|h'
      ·have Qk:k+1=m:=by omega
       have hz:((List.range k).filter λj=>!listed.getD j true)=[]:=by
        rw[List.filter_eq_nil_iff]
        intro j hj
        rw[List.mem_range] at hj
        rw[uJ j om];simp
       have e1:(!listed.getD k true)=false:=by rw[uJ k h'];rfl
       simp only[hz,List.filter_cons,e1,List.filter_nil,List.length_nil]
       simp;omega
      ·rw[ihk om h']
       have e1:(!listed.getD k true)=true:=by rw[(zv k om).2 h'];rfl
       simp only[List.filter_cons,e1,List.filter_nil,if_true,lC,List.length_nil]
       omega
    have:=this l.length (lR _) tE
    omega
   exact Ii hB (fuel+1) m listed a w (lR _) zw hs zv h2
  ·have hex:∃j,j<m∧listed.getD j true=false∧∀i,i<j->listed.getD i true=true:=by
    have:∀k,(∃j,j<k∧listed.getD j true=false∧∀i,i<j->listed.getD i true=true)∨∀j,j<k->listed.getD j true=true:=by
     intro k
     induction k with
     |zero=>right;intro j hj;omega
     |succ k ihk=>
      rcases ihk with⟨j,hj,h1,h2⟩|h
      ·exact .inl ⟨j,om,h1,h2⟩
      ·cases hg:listed.getD k true with
       |false=>exact .inl ⟨k,om,hg,h⟩
       |true=>
        right
        intro j hj
        rcases Nat.lt_or_ge j k with h'|h'
        ·exact h j h'
        ·rw[show j=k from by omega];exact hg
    rcases this m with h|h
    ·exact h
    ·exact absurd h uJ
   obtain⟨j0,BL,FC,FD⟩:=hex
   obtain⟨o0,FE⟩:∃o,l[j0]?=some o:=⟨l[j0]'om,gE om⟩
   have nh:j0∈Region.ready .any l.toArray listed:=mem_ready.2 ⟨FC,o0,by simpa using FE,λed he hb=>by
    have dU:=(mZ j0 o0 FE).1 ed he hb
    exact zt listed _ hs om (by rw[FD _ dU];simp)⟩
   refine⟨λhr=>(by rw[hr] at nh;cases nh),λi hi=>?_⟩
   obtain⟨hu,o,ho,cL⟩:=mem_ready.1 hi
   have mj:i<l.length:=by simpa using(Array.getElem?_eq_some_iff.1 ho).1
   have mn:l[i]?=some o:=by simpa using ho
   have qO:i<m:=by
    rcases Nat.lt_or_ge i m with h|h
    ·exact h
    ·have:=FB listed j0 hs om (K9 lW mn cL ((mZ i o mn).2.2 h) (i-j0) j0 om om)
     rw[FC] at this;cases this
   obtain⟨hW,zy⟩:=(mZ i o mn).2.1 qO
   obtain⟨dp,zz⟩:∃d,deps[i]?=some d:=⟨deps[i]'om,gE om⟩
   have FF:deps.getD i []=dp:=by rw[gG,zz];rfl
   rw[FF] at zy
   have iI:=Qi (l.take m) deps 0 hc i o dp (by rw[List.getElem?_take,iP qO];exact mn) zz
   rw[Nat.zero_add] at iI
   have h1:=iI e (λj=>e (ds.getD j 0)) w _ hk (YI λj hj=>by
    obtain⟨YO,BM⟩:=zy j hj
    obtain⟨ed,he,hb,uK⟩:=K8 YO
    exact je j BM (FB listed j hs om (by rw[<-uK];exact cL ed he hb))) rfl
   rw[xO ha,Fy (by
    intro p hp
    have:∀(r:List Nat),p∈tw ds (λi=>e (ds.getD i 0)) r->e p.1=p.2:=by
     intro r
     induction r with
     |nil=>intro h;cases h
     |cons j r ih=>
      intro h
      rcases mC.1 h with h|h
      ·subst h;rfl
      ·exact ih h
    exact this _ hp)] at h1
   have h2:=h1 a hf Q
   have next:∀(a':Act) (w':World),pw n (λe' w'=>KK w w'∧py F i (e' (ds.getD i 0)) w'∧ek [ds.getD i 0] e e') Q .normal a' w'->
     wpAny P .any l.toArray (pw n N Q) fuel (listed.setIfInBounds i true) a' w':=λa' w' hq=>by
    obtain⟨e',Lc,pz,Ld,p9⟩:=hq
    refine ih _ e' a' w' Lc (BJ.trans hk pz) ?_ (by simpa using hs) ?_ ?_ ?_ ?_
    ·intro t ht
     have dL:t≠ds.getD i 0:=λhe=>by rw[he,hW] at ht;cases ht
     rw[p9 t (by simpa using dL)];exact ha t ht
    ·have zw:∀k,k<=l.length->((List.range k).filter λj=>!(listed.setIfInBounds i true).getD j true).length+(if i<k then 1 else 0)=((List.range k).filter λj=>!listed.getD j true).length:=by
      intro k
      induction k with
      |zero=>simp
      |succ k ihk=>
       intro fb
       have uL:=ihk om
       rw[List.range_succ,List.filter_append,lA,List.filter_append,lA]
       by_cases uM:i=k
       ·subst uM
        rw[iN om] at uL
        have dU:i<listed.size:=by omega
        have e1:(listed.setIfInBounds i true).getD i true=true:=by simp[Array.getD_eq_getD_getElem?,dU]
        rw[iP om]
        simp only[List.filter_cons,e1,hu,List.filter_nil,Bool.not_true,Bool.not_false,if_true,Bool.false_eq_true,if_false,lC,List.length_nil]
        omega
       ·have e1:(listed.setIfInBounds i true).getD k true=listed.getD k true:=getD_set_ne true uM
        simp only[List.filter_cons,e1,List.filter_nil]
        have YP:(i<k+1)↔(i<k):=by omega
        by_cases px:i<k
        ·have c1:i<k+1:=by omega
         rw[iP px] at uL;rw[iP c1];split<;>simp only[lC,List.length_nil]<;>omega
        ·have c1:¬i<k+1:=by omega
         rw[iN px] at uL;rw[iN c1];split<;>simp only[lC,List.length_nil]<;>omega
     have:=zw l.length (lR _)
     rw[iP mj] at this
     omega
    ·intro j Le oz
     rw[getD_set_ne true om];exact fF j Le oz
    ·intro j BM hj
     by_cases lX:i=j
     ·subst lX;exact Ld
     ·rw[getD_set_ne true lX] at hj
      have dL:ds.getD j 0≠ds.getD i 0:=by
       rw[gG,gG,gE om,gE om]
       simp only[Option.getD_some]
       intro he
       exact lX ((List.getElem_inj iS).1 he.symm)
      rw[p9 _ (by simpa using dL)]
      exact YK hF j (je j BM hj) pz
    ·intro j oj BN hj e2 mo aU
     have we:∀x,listed.getD x false=true->(listed.setIfInBounds i true).getD x false=true:=λx hx=>by
      by_cases FG:i=x
      ·subst FG
       have:i<listed.size:=by omega
       simp[Array.getD_eq_getD_getElem?,this]
      ·rw[getD_set_ne false FG];exact hx
     by_cases lX:i=j
     ·subst lX
      rw[mn] at BN;cases BN
      exact we _ (cL e2 mo aU)
     ·rw[getD_set_ne false lX] at hj
      exact we _ (lW j oj BN hj e2 mo aU)
   unfold wpOp
   simp only[ho]
   unfold wpList at h2
   by_cases hw:Region.wanted o (yielded l.toArray a.tmps)=true
   ·rw[iP hw] at h2⊢
    rcases h2 with h2|⟨h2,h3⟩
    ·refine .inl (Oper.K5 (λa' w' h'=>next a' w' h') (λ_ _ _ h=>h) (fun⟨a,w,hq⟩=>⟨a,w,hq⟩) h2)
    ·exact .inr ⟨h2,by obtain⟨a',w',hq⟩:=h3;exact⟨a',w',hq⟩⟩
   ·rw[iN hw] at h2⊢
    exact next _ _ h2
theorem zB {N R:Env->World->Prop} {X:Nat->Env->World->Prop} {id:Nat} {e0:Env} {w0:World} (hm:P.follows .mixedOrders=true) {KK:World->World->Prop} (BJ:Kept KK) (m:Nat) (W ds:List Nat) (deps:List (List Nat)) (F:List (Value->World->Prop)) 
  (hB:uI l m W ds deps=true) (hF:tx KK F)
  (hc:∀wd,KK w0 wd->BH KK P n l.toArray W ds F e0 wd 0 (l.take m) deps)
  (tail:∀(x:Env) (vs:Nat->Value) (w:World),KK w0 w->(∀i,i<m->py F i (vs i) w)->OW P n l.toArray N (l.drop m) (bo (bj W x e0) (tw ds vs (List.range m))) w):
  CW P n (.region id l.toArray true) N R X e0 w0:=λa ha=>by
 refine wp_region_any hm ?_
 have fT:aj [] w0 {w0 with drawn:=w0.drawn+1}:=aj.drew _ _
 have:=YN BJ (N:=N) (e0:=e0) (w0:={w0 with drawn:=w0.drawn+1}) hB (Qh hF) (hc _ (BJ.of fT)) (λx vs w hk=>tail x vs w (BJ.trans (BJ.of fT) hk)) (kR n N R X) l.length (Array.replicate l.length false) e0 a _ ha (BJ.refl _) xN sm
  (by
   have:((List.range l.length).filter λj=>!(Array.replicate l.length false).getD j true)=List.range l.length:=by
    rw[List.filter_eq_self]
    intro j hj
    rw[List.mem_range] at hj
    simp[Array.getD_eq_getD_getElem?,hj]
   rw[this];simp)
  (by intro j _ hj;simp[Array.getD_eq_getD_getElem?,hj])
  (by
   intro j hj h
   have:=(DI hB).1
   have pA:j<l.length:=by omega
   simp[Array.getD_eq_getD_getElem?,pA] at h)
  (by
   intro j o ho hj
   have pA:j<l.length:=(List.getElem?_eq_some_iff.1 ho).1
   simp[Array.getD_eq_getD_getElem?,pA] at hj)
 have e1:pw n N (kR n N R X)=kR n N R X:=by
  funext x a w;cases x<;>rfl
 rw[e1] at this
 simpa using this
end
abbrev ai:=List UInt8
inductive aq where
 |mk (aw:ai) (ak:List aq)
def aq.aw:aq->ai| .mk a _=>a
def aq.ak:aq->List aq| .mk _ p=>p
def eT (c:UInt8):Bool:=(97<=c&&c<=122)||(48<=c&&c<=57)||c==43||c==45||c==42||c==62
theorem Ql (c:UInt8):((((((decide ((97:Int)<=c.toNat)&&decide ((c.toNat:Int)<=122))||(decide ((48:Int)<=c.toNat)&&decide ((c.toNat:Int)<=57)))||decide ((c.toNat:Int)=43))||decide ((c.toNat:Int)=45))||decide ((c.toNat:Int)=42))||decide ((c.toNat:Int)=62))=eT c:=by
 have e1:∀k:UInt8,decide (k<=c)=decide ((k.toNat:Int)<=c.toNat):=λk=>by simp[UInt8.le_iff_toNat_le]
 have e2:∀k:UInt8,decide (c<=k)=decide ((c.toNat:Int)<=k.toNat):=λk=>by simp[UInt8.le_iff_toNat_le]
 have e3:∀k:UInt8,(c==k)=decide ((c.toNat:Int)=k.toNat):=λk=>by
  rw[Bool.eq_iff_iff];simp[<-UInt8.toNat_inj];omega
 unfold eT
 rw[e1,e2,e1,e2,e3,e3,e3,e3]
 rfl
def iu (rd:ai->Option (aq×ai)):Nat->ai->Option (List aq×ai)
 |0,_=>none
 |n+1,s=>match rd s with
  |none=>none
  |some (t,r)=>match r with
   |[]=>none
   |c::r'=>if c=41 then some ([t],r') else if c=32 then(iu rd n r').map λp=>(t::p.1,p.2) else none
def ei:Nat->ai->Option (aq×ai)
 |0,s=>match s with
  |[]=>none
  |c::_=>if c=40 then none else if s.takeWhile eT=[] then none else some (.mk (s.takeWhile eT) [],s.dropWhile eT)
 |d+1,s=>match s with
  |[]=>none
  |c::r=>if c=40 then(iu (ei d) (r.length+1) r).map λp=>(.mk [] p.1,p.2)
   else if s.takeWhile eT=[] then none else some (.mk (s.takeWhile eT) [],s.dropWhile eT)
def Ij (rd:ai->Option (aq×ai)):Prop:=∀s t r,rd s=some (t,r)->∃k,0<k∧k<=s.length∧r=s.drop k
theorem FH (p:UInt8->Bool):∀s:ai,s.dropWhile p=s.drop (s.takeWhile p).length:=by intro x;induction x<;>grind [List.dropWhile,List.takeWhile]
theorem FI (p:UInt8->Bool) (s:ai):(s.takeWhile p).length<=s.length:=by induction s<;>grind [List.takeWhile]
theorem Qm {rd:ai->Option (aq×ai)} (eI:Ij rd):∀n s ts r,iu rd n s=some (ts,r)->∃k,0<k∧k<=s.length∧r=s.drop k∧ts.length<=k
 |0,_,_,_,h=>by simp[iu] at h
 |n+1,s,ts,r,h=>by
  unfold iu at h
  cases hr:rd s with
  |none=>simp[hr] at h
  |some p=>
   obtain⟨t,r1⟩:=p
   obtain⟨k,fT,fb,rfl⟩:=eI s t r1 hr
   simp only[hr] at h
   cases hd:s.drop k with
   |nil=>simp[hd] at h
   |cons c r'=>
    simp only[hd] at h
    have rE:r'=s.drop (k+1):=by rw[<-List.drop_drop,hd];rfl
    have YQ:k+1<=s.length:=by
     have:=congrArg List.length hd
     simp at this;omega
    by_cases h1:c=41
    ·rw[iP h1] at h
     simp at h
     exact⟨k+1,om,YQ,by rw[<-h.2,rE],by rw[<-h.1];simp⟩
    ·rw[iN h1] at h
     by_cases h2:c=32
     ·rw[iP h2] at h
      cases hp:iu rd n r' with
      |none=>simp[hp] at h
      |some q=>
       obtain⟨ts',r''⟩:=q
       simp[hp] at h
       obtain⟨k',YR,Lf,uN,nP⟩:=Qm eI n r' ts' r'' hp
       refine⟨k+1+k',om,?_,?_,?_⟩
       ·have:=congrArg List.length rE
        simp at this;omega
       ·rw[<-h.2,uN,rE,List.drop_drop]
       ·rw[<-h.1];simp;omega
     ·rw[iN h2] at h;cases h
theorem Ik:∀d,Ij (ei d)
 |0,s,t,r,h=>by
  cases s with
  |nil=>simp[ei] at h
  |cons c s=>
   simp only[ei] at h
   by_cases h1:c=40
   ·rw[iP h1] at h;cases h
   ·rw[iN h1] at h
    by_cases h2:(c::s).takeWhile eT=[]
    ·rw[iP h2] at h;cases h
    ·rw[iN h2] at h
     simp only[Option.some.injEq,Prod.mk.injEq] at h
     refine⟨((c::s).takeWhile eT).length,?_,FI _ _,by rw[<-h.2,FH]⟩
     exact List.length_pos_iff.2 h2
 |d+1,s,t,r,h=>by
  cases s with
  |nil=>simp[ei] at h
  |cons c s=>
   simp only[ei] at h
   by_cases h1:c=40
   ·rw[iP h1] at h
    cases hp:iu (ei d) (s.length+1) s with
    |none=>simp[hp] at h
    |some q=>
     obtain⟨ts',r''⟩:=q
     simp[hp] at h
     obtain⟨k',YR,Lf,uN,_⟩:=Qm (Ik d) _ s ts' r'' hp
     exact⟨k'+1,om,by simp;omega,by rw[<-h.2,uN];rfl⟩
   ·rw[iN h1] at h
    by_cases h2:(c::s).takeWhile eT=[]
    ·rw[iP h2] at h;cases h
    ·rw[iN h2] at h
     simp only[Option.some.injEq,Prod.mk.injEq] at h
     refine⟨((c::s).takeWhile eT).length,?_,FI _ _,by rw[<-h.2,FH]⟩
     exact List.length_pos_iff.2 h2
theorem Qn {rd:ai->Option (aq×ai)} (eI:Ij rd):∀n m s,s.length<n->s.length<m->iu rd n s=iu rd m s
 |0,_,_,h,_=>by omega
 |_+1,0,_,_,h=>by omega
 |n+1,m+1,s,hn,hm=>by
  unfold iu
  cases hr:rd s with
  |none=>rfl
  |some p=>
   obtain⟨t,r1⟩:=p
   obtain⟨k,fT,fb,rfl⟩:=eI s t r1 hr
   simp only
   cases hd:s.drop k with
   |nil=>rfl
   |cons c r'=>
    simp only
    have hl:r'.length+1+k=s.length:=by
     have:=congrArg List.length hd
     simp at this;omega
    rw[Qn eI n m r' om om]
def rT (d:Nat) (s:ai):Option (aq×ai):=match d with
 |0=>none
 |d+1=>ei d s
theorem Lg:∀d,Ij (rT d)
 |0=>λs t r h=>by simp[rT] at h
 |d+1=>Ik d
def mq (d:Nat) (s:ai):Option (List aq×ai):=iu (rT d) (s.length+1) s
theorem FJ (d:Nat) (s:ai):mq d s=match rT d s with
  |none=>none
  |some (t,r)=>match r with
   |[]=>none
   |c::r'=>if c=41 then some ([t],r') else if c=32 then(mq d r').map λp=>(t::p.1,p.2) else none:=by
 unfold mq
 conv=>lhs;unfold iu
 cases hr:rT d s with
 |none=>rfl
 |some p=>
  obtain⟨t,r1⟩:=p
  obtain⟨k,fT,fb,rfl⟩:=Lg d s t r1 hr
  simp only
  cases hd:s.drop k with
  |nil=>rfl
  |cons c r'=>
   simp only
   have hl:r'.length+1+k=s.length:=by
    have:=congrArg List.length hd
    simp at this;omega
   rw[Qn (Lg d) s.length (r'.length+1) r' om om]
theorem YS:∀n s,iu (rT 0) n s=none
 |0,_=>rfl
 |n+1,s=>by simp[iu,rT]
theorem DJ (d:Nat) (r:ai):ei d (40::r)=(mq d r).map λp=>(.mk [] p.1,p.2):=by
 cases d with
 |zero=>simp[ei,mq,YS]
 |succ d=>simp[ei,mq];rfl
theorem FK (d:Nat) (c:UInt8) (r:ai) (h:c≠40):ei d (c::r)=if(c::r).takeWhile eT=[] then none else some (.mk ((c::r).takeWhile eT) [],(c::r).dropWhile eT):=by
 cases d<;>simp[ei,h]
theorem Qo (d:Nat):ei d []=none:=by cases d<;>rfl
theorem drop_cons {α:Type} {s:List α} {c:α} (h:s[i]?=some c):s.drop i=c::s.drop (i+1):=by grind [List.getElem?_eq_some_iff,List.drop_eq_getElem_cons]
theorem Qp (p:UInt8->Bool):∀(s:ai) (k:Nat),k<=(s.takeWhile p).length->(k<(s.takeWhile p).length↔k<s.length∧p (s.getD k 0)=true):=by intro x;induction x<;>grind [List.takeWhile,lC,List.getD_cons_succ]
theorem jf {s:ai} {k:Nat} (h:k<s.length):s[k]?=some (s.getD k 0):=by grind
theorem Il (p:UInt8->Bool) (s:ai):s.take (s.takeWhile p).length=s.takeWhile p:=by induction s<;>grind [List.takeWhile]
theorem YT (s:ai) (i k:Nat):(s.drop i).getD k 0=s.getD (i+k) 0:=by grind
theorem YU (s:ai) {k:Nat} (uM:i<=k) (h:k-i<=((s.drop i).takeWhile eT).length):k-i<((s.drop i).takeWhile eT).length↔k<s.length∧eT (s.getD k 0)=true:=by grind [Qp,YT]
def BO (n:Nat) (o:Option (aq×ai)) (t:aq) (en:Int):Prop:=match o with
 |some (t',r)=>t=t'∧en=((n-r.length:Nat):Int)
 |none=>en= -1
theorem YV {s:ai} {k:Nat} {t:aq} {en:Int} (hm:BO s.length (rT d (s.drop k)) t en) (he:en<0∨(s.length:Int)<=en) (hs:0<s.length):mq d (s.drop k)=none:=by grind [FJ,BO,rT]
theorem YW {s:ai} {k:Nat} {t:aq} {en:Int} (hm:BO s.length (rT d (s.drop k)) t en) (h0:0<=en) (h1:en<s.length):
  ∃m:Nat,en=m∧k<m∧m<s.length∧mq d (s.drop k)=(if s.getD m 0=41 then some ([t],s.drop (m+1)) else if s.getD m 0=32 then(mq d (s.drop (m+1))).map λp=>(t::p.1,p.2) else none):=by
 rw[FJ]
 unfold BO at hm
 cases hr:rT d (s.drop k) with
 |none=>rw[hr] at hm;omega
 |some p=>
  obtain⟨t',r⟩:=p
  rw[hr] at hm
  obtain⟨rfl,h2⟩:=hm
  obtain⟨j,BL,oz,rfl⟩:=Lg d _ _ _ hr
  rw[List.length_drop] at oz
  rw[List.drop_drop,List.length_drop] at h2
  have dU:k+j<s.length:=by omega
  refine⟨k+j,om,om,dU,?_⟩
  simp only[List.drop_drop]
  rw[drop_cons (jf dU)]
theorem map_append {o:Option (List aq×ai)} {a:List aq} {t:aq}:(o.map λp=>(t::p.1,p.2)).map (λp=>(a++p.1,p.2))=o.map λp=>((a++[t])++p.1,p.2):=by
 cases o<;>simp
def bA (s:ai):Option aq:=
 if 12000<s.length then none else match ei 60 s with
  |some (t,[])=>some t
  |_=>none
theorem YX {s:ai} {t:aq} {en:Int} (hl:s.length<=12000) (hm:BO s.length (rT 61 (s.drop 0)) t en):decide (en=(s.length:Int))=(bA s).isSome∧∀t',bA s=some t'->t=t':=by
 have e:rT 61 (s.drop 0)=ei 60 s:=rfl
 rw[e] at hm
 unfold BO at hm
 unfold bA
 rw[iN om]
 cases hr:ei 60 s with
 |none=>
  rw[hr] at hm
  refine⟨?_,λt' h=>by cases h⟩
  simp only[Option.isSome_none,decide_eq_false_iff_not]
  simp only at hm;omega
 |some p=>
  obtain⟨t',r⟩:=p
  rw[hr] at hm
  obtain⟨rfl,h2⟩:=hm
  obtain⟨k,fT,fb,YY⟩:=Ik 60 s _ _ hr
  cases r with
  |nil=>
   refine⟨?_,λt' h=>by simpa using h⟩
   simp at h2⊢;exact h2
  |cons c r'=>
   refine⟨?_,λt' h=>by cases h⟩
   have hlen:=congrArg List.length YY
   simp only[lC,List.length_drop] at hlen h2
   simp only[Option.isSome_none,decide_eq_false_iff_not]
   omega
mutual
def aq.text:aq->ai
 | .mk a ps=>if a=[] then 40::(kT ps++[41]) else a
def kT:List aq->ai
 |[]=>[]
 |t::ts=>match ts with
  |[]=>t.text
  |_::_=>t.text++32::kT ts
end
mutual
def aq.enc:aq->List C
 | .mk a ps=>[.val (str a),.sl 2 (cT ps)]
def cT:List aq->List (List C)
 |[]=>[]
 |t::ts=>t.enc::cT ts
end
theorem zC:∀ps,cT ps=ps.map aq.enc:=by intro x;induction x<;>grind [cT]
theorem ia (ps:List aq):(cT ps).length=ps.length:=by simp[zC]
theorem oG:∀t:aq,t.enc.length=2
 | .mk _ _=>by simp[aq.enc]
theorem YZ (ps:List aq):∀row,row∈cT ps->row.length=2:=by grind [zC,oG]
theorem Lh (a b:List aq):cT (a++b)=cT a++cT b:=by simp[zC]
theorem Lj {ps:List aq} {t:aq} (h:ps[i]?=some t):(cT ps)[i]?=some t.enc:=by grind [zC]
theorem Qq (ps:List aq) (i:Nat):cT (ps.drop i)=(cT ps).drop i:=by simp[zC,List.map_drop]
def bB (L:List Nat) (w:World) (v:Value) (t:aq):Prop:=j1 L w v t.enc
theorem bB.ext {t:aq} (h:bB L w v t) (k:aj [] w w'):bB L w' v t:=j1.ext h k
def eM (L:List Nat) (w:World) (v:Value) (ts:List aq):Prop:=bQ L w v (.sl 2 (cT ts))
theorem eM.ext {t:List aq} (h:eM L w v t) (k:aj [] w w'):eM L w' v t:=bQ.ext h k
theorem cU {t:aq} (h:bB L w v t):∃a n c,v= .agg #[str t.aw,.slice a n c]∧n=t.ak.length∧eM L w (.slice a n c) t.ak:=by
 obtain⟨vs,rfl,hr⟩:=h
 cases t with
 |mk at_ ps=>
  rw[aq.enc] at hr
  match vs,hr with
  |[v0,v1],hr=>
   obtain⟨h0,h1,_⟩:=hr
   cases h0
   obtain⟨a,c,rfl,hc⟩:=rC h1
   exact⟨a,_,c,rfl,ia ps,h1⟩
  |[],hr=>exact hr.elim
  |[_],hr=>exact hr.2.elim
  |_::_::_::_,hr=>exact hr.2.2.elim
theorem kU {a:ai} {ps:List aq} (h:eM L w v ps):bB L w (.agg #[str a,v]) (.mk a ps):=
 ⟨[str a,v],rfl,by rw[aq.enc];exact⟨.val _,h,trivial⟩⟩
theorem kV {t:aq} (h:eM L w v t.ak):bB L w (.agg #[str t.aw,v]) t:=by
 cases t;exact kU h
theorem oH:eM L w (.slice none 0 0) []:=by unfold eM;rw[cT];exact .nil _ _ _
theorem iJ {a:Option Addr} {c:Nat} {ts:List aq} {t:aq} (h:eM L w (.slice a n c) ts) (hi:ts[i]?=some t):
  ∃b off pa pn pc,a=some ⟨b,off,none⟩∧fS w b (off+i*2) [str t.aw,.slice pa pn pc]∧pn=t.ak.length∧eM L w (.slice pa pn pc) t.ak:=by
 obtain⟨b,off,vs,ha,hb,hL,hl,hc,hr⟩:=zn h (Lj hi)
 obtain⟨pa,pn,pc,he,hn,hp⟩:=cU (t:=t) ⟨vs,rfl,hr⟩
 have hv:vs=[str t.aw,.slice pa pn pc]:=by
  have:=congrArg (λv=>match v with|Value.agg x=>x.toList|_=>[]) he
  simpa using this
 subst hv
 exact⟨b,off,pa,pn,pc,ha,hc,hn,hp⟩
theorem aJ.aD {cs:Array Value} {T:TypeId} (h:aJ w b cs T) (k:aj L w w') (hb:b∉L):aJ w' b cs T:=h.aF k hb
theorem bQ.aD {c:C} (h:bQ L w v c) (k:aj L' w w') (hL:∀x,x∈L'->x∈L):bQ L w' v c:=h.aF (k.mono hL)
theorem bB.aD {t:aq} (h:bB L w v t) (k:aj L' w w') (hL:∀x,x∈L'->x∈L):bB L w' v t:=j1.aF h (k.mono hL)
theorem eM.aD {t:List aq} (h:eM L w v t) (k:aj L' w w') (hL:∀x,x∈L'->x∈L):eM L w' v t:=bQ.aF h (k.mono hL)
theorem gO.aD {T:TypeId} {rows:List (List C)} (h:gO L w T sz v g rows xs) (k:aj L' w w') (hL:∀x,x∈L'->x∈L):gO L w' T sz v g rows xs:=h.aF k hL
theorem aj.aD (h:aj L w0 w) (k:aj L' w w') (hL:∀x,x∈L'->x∈L∨w0.heap.size<=x):aj L w0 w':=h.since k hL
theorem zD:∀x,x∈w.heap.size::L->x∈L∨w.heap.size<=x:=by grind
theorem aJ.grow {cs:Array Value} {T:TypeId} (h:aJ w b cs T):aJ w b cs T:=h
theorem aj.grow (h:aj L w w'):aj L w w':=h
theorem bB.grow {t:aq} (h:bB L w v t):bB (w.heap.size::L) w v t:=j1.fresh h zD
theorem eM.grow {t:List aq} (h:eM L w v t):eM (w.heap.size::L) w v t:=bQ.fresh h zD
theorem gO.grow {T:TypeId} {rows:List (List C)} (h:gO L w T sz v g rows xs):gO (w.heap.size::L) w T sz v g rows xs:=h.more zD
theorem gO.alloc {T:TypeId} {rows:List (List C)} (h:gO L w T sz v g rows xs) (k:aj [] w w') (_:w'.heap.size=w.heap.size+1):gO (w.heap.size::L) w' T sz v g rows xs:=h.grow.ext k
theorem bB.kj {x y:Value} {t:aq} (h:bB L w (.agg #[x,y]) t):cS L w [x,y] t.enc:=by
 obtain⟨vs,he,hr⟩:=h
 have hv:vs=[x,y]:=by
  have:=congrArg (λv=>match v with|Value.agg x=>x.toList|_=>[]) he
  simpa using this.symm
 rw[<-hv];exact hr
theorem Qr {A B:List Nat}:∀x,x∈A++(b::B)->x∈b::(A++B):=by grind
section
variable {P:Program} {n:Nat} {ops:Array Oper} {K:Env->World->Prop} {rest:List Oper} {e:Env} {w w':World}
 {dst:Option Nat} {ty:TypeId} {pos:String} {after:Array Edge} {g:Option (Nat×Bool)} {T:TypeId} {x y:Operand}
theorem Y0 {vs:List Value} {U:TypeId} (jN:TI P T 1 bytes z) (hg:gate ops e g=true) (hx:ev e x= .pointer (some ⟨b,o,none⟩)) (hy:ev e y=v) 
  (h1:v.oneCell'=true) (hb:aJ w b vs.toArray U) (ho:Nat.blt o vs.length=true)
  (k:∀w',aj [b] w w'->aJ w' b (vs.set o v).toArray U->w'.heap.size=w.heap.size->OW P n ops K rest e w'):OW P n ops K (⟨none,.store T x y,ty,pos,after,g⟩::rest) e w:=by grind [K0,Nat.blt_eq]
theorem gd {U:TypeId} (jN:TI P T 1 bytes z) (hx:ev e x= .pointer (some ⟨b,o,none⟩)) (hy:ev e y=v) (h1:v.oneCell'=true) (hb:aJ w b vs.toArray U) (ho:Nat.blt o vs.length=true) (k:∀w',aj [b] w w'->aJ w' b (vs.set o v).toArray U->w'.heap.size=w.heap.size->OW P n ops K rest e w') (hg:gate ops e g=true:=by rfl):OW P n ops K (⟨none,.store T x y,ty,pos,after,g⟩::rest) e w:=Y0 jN hg hx hy h1 hb ho k
theorem Y1 {b:Nat} {vs us:List Value} {U:TypeId} (jN:TI P T sz bytes z) (hg:gate ops e g=true) 
  (hx:ev e x= .pointer (some ⟨b,0,none⟩)) (hy:ev e y= .agg vs.toArray) (hl:Nat.beq vs.length sz=true) (h1:vs.all Value.oneCell'=true) (hb:aJ w b us.toArray U) (bZ:Nat.beq us.length sz=true)
  (k:∀w',aj [b] w w'->aJ w' b vs.toArray U->w'.heap.size=w.heap.size->OW P n ops K rest e w'):OW P n ops K (⟨none,.store T x y,ty,pos,after,g⟩::rest) e w:=by grind [Yz,Nat.eq_of_beq_eq_true,List.all_eq_true]
theorem cJ {us:List Value} {U:TypeId} (jN:TI P T sz bytes z) (hx:ev e x= .pointer (some ⟨b,0,none⟩)) (hy:ev e y= .agg vs.toArray) (h1:vs.all Value.oneCell'=true) (hb:aJ w b us.toArray U) (bZ:Nat.beq us.length sz=true) (k:∀w',aj [b] w w'->aJ w' b vs.toArray U->w'.heap.size=w.heap.size->OW P n ops K rest e w') (hg:gate ops e g=true:=by rfl) (hl:Nat.beq vs.length sz=true:=by rfl):OW P n ops K (⟨none,.store T x y,ty,pos,after,g⟩::rest) e w:=Y1 jN hg hx hy hl h1 hb bZ k
theorem Y2 {vs:List Value} {v:Value} (hT:P.underlying T=some (.slice E)) (hE:TI P E sz bytes z) (_hz:z.cells.size=sz) (nQ:0<sz) (cV:sz<=16777216) 
  (hv:v.cells=vs.toArray) (hl:vs.length=sz):(Instr.buildSlice T 1 #[(0,v)]).run P w= .ok (.slice (some ⟨w.heap.size,0,none⟩) 1 1) (w.alloc (.cells vs.toArray E)):=by
 have h0:¬sz=0:=by omega
 have hb:¬(16777216<sz):=by omega
 have Qs:Instr.fill (λi=>some (i*sz,sz)) ((Array.range (1*sz)).map (z.cells[·%z.cells.size]!)) [(0,v)]=some vs.toArray:=by
  simp only[Instr.fill,Nat.zero_mul,hv,Nat.zero_add]
  rw[iN (by simp[hl])]
  congr 1
  have key:∀(us:List Value) (i:Nat) (pre:List Value) (cs:Array Value),cs.size=pre.length+us.length->cs.toList.take i=pre->i=pre.length->
    ((us.zipIdx i).foldl (fun(cs:Array Value) (p:Value×Nat)=>cs.setIfInBounds (0+p.2) p.1) cs)=(pre++us).toArray:=by
   intro us
   induction us with
   |nil=>
    intro i pre cs hs ht hi
    apply Array.ext'
    simp only[List.zipIdx_nil,List.foldl_nil,List.append_nil]
    rw[<-ht,List.take_of_length_le (by simp at hs⊢;omega)]
   |cons u us ih=>
    intro i pre cs hs ht hi
    rw[List.zipIdx_cons,List.foldl_cons]
    simp only[lC] at hs
    have:=ih (i+1) (pre++[u]) (cs.setIfInBounds (0+i) u) so (by
     rw[Nat.zero_add,Array.toList_setIfInBounds,List.take_add_one,List.getElem?_set_self so,List.take_set_of_le (lR i),ht];simp) so
    rw[this];simp
  have:=key vs 0 [] ((Array.range (1*sz)).map (z.cells[·%z.cells.size]!)) (by simp[hl]) sm rfl
  simpa using this
 simp only[Instr.buildSlice,Sem.run_bind,run_underlying hT,Result.andThen_ok,hE.rD,Nat.one_mul]
 rw[Nat.one_mul] at Qs
 simp[hb,h0,hE.KZ,Qs,newRow]
theorem Y3 {vs:List Value} {v:Value} {q:Operand} (hT:P.underlying T=some (.slice E)) (hE:TI P E sz bytes z) (hg:gate ops e g=true) (hd:bV n dst=true) (hz:Nat.beq z.cells.size sz=true) (nQ:Nat.blt 0 sz=true) (cV:Nat.ble sz 16777216=true) 
  (hq:ev e q=v) (hv:v.cells=vs.toArray) (hl:Nat.beq vs.length sz=true)
  (k:∀w',aj [] w w'->aJ w' w.heap.size vs.toArray E->w'.heap.size=w.heap.size+1->OW P n ops K rest (bM e dst (.slice (some ⟨w.heap.size,0,none⟩) 1 1)) w'):
  OW P n ops K (⟨dst,.buildSlice T 1 #[(0,q)],ty,pos,after,g⟩::rest) e w:=
 eQ hg hd (w':=w.alloc (.cells vs.toArray E)) (by
  have:=Y2 (P:=P) (w:=w) (vs:=vs) (v:=v) hT hE (Nat.eq_of_beq_eq_true hz) (by simpa[Nat.blt_eq] using nQ) (Nat.le_of_ble_eq_true cV) hv (Nat.eq_of_beq_eq_true hl)
  simp[execOp,hq,this]) (k _ (aj.alloc _ _ _) (aJ.alloc _ _ _) sm)
theorem fc {q:Operand} (hT:P.underlying T=some (.slice E)) (hE:TI P E sz bytes z) (hq:ev e q=v) (hv:v.cells=vs.toArray) (k:∀w',aj [] w w'->aJ w' w.heap.size vs.toArray E->w'.heap.size=w.heap.size+1->OW P n ops K rest (bM e dst (.slice (some ⟨w.heap.size,0,none⟩) 1 1)) w') (hg:gate ops e g=true:=by rfl) (hd:bV n dst=true:=by rfl) (hz:Nat.beq z.cells.size sz=true:=by rfl) (nQ:Nat.blt 0 sz=true:=by rfl) (cV:Nat.ble sz 16777216=true:=by rfl) (hl:Nat.beq vs.length sz=true:=by rfl):OW P n ops K (⟨dst,.buildSlice T 1 #[(0,q)],ty,pos,after,g⟩::rest) e w:=Y3 hT hE hg hd hz nQ cV hq hv hl k
theorem Qt {L:List Nat} {v:Value} {gb:Option Nat} {rows new:List (List C)} {xs news:List Value} {b o m c:Nat} (hT:P.underlying t=some (.slice E)) (hE:TI P E sz bytes z) (hg:gate ops e g=true) (hd:bV n dst=true) (hz:Nat.beq z.cells.size sz=true) 
  (hx:ev e x=v) (dv:gO L w E sz v gb rows xs) (hy:ev e y= .slice (some ⟨b,o,none⟩) m c) (hm:new.length=m) (tt:0<m) (gZ:∀row,row∈new->row.length=sz) (hc:fS w b o news) (h1:∀u∈news,u.oneCell'=true)
  (hr:cS (gb.toList++L) w news new.flatten) (hL:∀x,x∈L->x<w.heap.size) (hb:(rows.length+m)*(bytes+1)<=140737488355328)
  (k:∀a' cap' g' w',gO L w' E sz (.slice a' (rows.length+m) cap') g' (rows++new) (xs++news)->aj gb.toList w w'->(g'=gb∨g'=some w.heap.size)->OW P n ops K rest (bM e dst (.slice a' (rows.length+m) cap')) w'):
  OW P n ops K (⟨dst,.call {callee:=.builtin .append,args:=#[x,y],argTypes:=#[t,t]},ty,pos,after,g⟩::rest) e w:=by
 obtain⟨i,hi,uO,fC,fK⟩:=hE.get
 obtain⟨v',g',w',jM,xP,hk,kz⟩:=gO.app (P:=P) (ty:=ty) hT hi uO fC fK (Nat.eq_of_beq_eq_true hz) dv b o m c new news hm tt gZ hc h1 hr hL hb
 obtain⟨a',cap',he⟩:=xP.len
 rw[lA,hm] at he
 subst he
 exact eQ hg hd (w':=w') (by
  simp only[execOp,resolve,invoke,builtin,Sem.run_bind,Sem.run_pure,Result.andThen_ok,List.map_toArray,List.map_cons,List.map_nil,hx,hy,jM]) (k a' cap' g' w' xP hk kz)
end
theorem gO.sep {T:TypeId} {rows:List (List C)} (h:gO L w T sz v g rows xs) (hb:b∈L):b∉g.toList:=by
 intro hx
 exact h.out b (by simpa using hx) hb
theorem Qv {P:Program} {n:Nat} {ops:Array Oper} {K:Env->World->Prop} {rest:List Oper} {e:Env} {w:World} 
  {dst:Option Nat} {ty:TypeId} {pos:String} {after:Array Edge} {g:Option (Nat×Bool)} {x y:Operand}
  {L:List Nat} {t E sz bytes:Nat} {z:Value} {v:Value} {gb:Option Nat} {rows:List (List C)} {row:List C} {xs news:List Value} {b o c:Nat} (hT:P.underlying t=some (.slice E)) (hE:TI P E sz bytes z) (hg:gate ops e g=true) (hd:bV n dst=true) (hz:Nat.beq z.cells.size sz=true)
  (hx:ev e x=v) (hy:ev e y= .slice (some ⟨b,o,none⟩) 1 c) (dv:gO L w E sz v gb rows xs) (gZ:row.length=sz) (hc:fS w b o news) (h1:∀u∈news,u.oneCell'=true)
  (hr:cS (gb.toList++L) w news row) (hL:∀x,x∈L->x<w.heap.size) (hb:(rows.length+1)*(bytes+1)<=140737488355328)
  (k:∀a' cap' g' w',gO L w' E sz (.slice a' (rows.length+1) cap') g' (rows++[row]) (xs++news)->aj gb.toList w w'->(g'=gb∨g'=some w.heap.size)->OW P n ops K rest (bM e dst (.slice a' (rows.length+1) cap')) w'):
  OW P n ops K (⟨dst,.call {callee:=.builtin .append,args:=#[x,y],argTypes:=#[t,t]},ty,pos,after,g⟩::rest) e w:=
 Qt (new:=[row]) (m:=1) hT hE hg hd hz hx dv hy rfl de (by intro r h;simp at h;rw[h];exact gZ) hc h1 (by simpa using hr) hL hb k
theorem cS.FL:∀{vs:List Value} {cs:List C},cS L w vs cs->(∀c,c∈cs->∀v,c= .val v->v.oneCell'=true)->∀u∈vs,u.oneCell'=true
 |[],[],_,_,u,hu=>by simp at hu
 |v::vs,c::cs,h,hc,u,hu=>by
  rcases mC.1 hu with rfl|hu
  ·cases h.1 with
   |val=>exact hc _ sm _ rfl
   |nil=>rfl
   |sl=>rfl
  ·exact cS.FL h.2 (λc px v hv=>hc c (by simp[px]) v hv) u hu
def zE (P:Program) (e:Env) (w:World):ResultVar->Value->Prop
 | .tmp t,v=>e t=v
 | .cell t ty,v=>P5 P e t ty v w
def Im (P:Program) (e:Env) (w:World):List ResultVar->List Value->Prop
 |[],[]=>True
 |[r],[v]=>zE P e w r v
 |r::rs,v::vs=>zE P e w r v∧Im P e w rs vs
 |_,_=>False
def zF:List Value->Value
 |[v]=>v
 |vs=>.tuple vs.toArray
def Io (tmps:Array Value):ResultVar->Sem Value
 | .tmp t=>pure (tmps.getD t undef)
 | .cell a t=>do loadVar t (<-asAddr (tmps.getD a undef))
theorem FM (fn:Func) (tmps:Array Value):results fn tmps=(do let vs<-fn.results.mapM (Io tmps);pure (if h:vs.size=1 then vs[0] else .tuple vs)):=rfl
theorem wg {e:Env} {tmps:Array Value} (hg:∀t,tmps.getD t undef=e t) {r:ResultVar} (h:zE P e w r v):(Io tmps r).run P w= .ok v w:=by
 cases r with
 |tmp t=>simp only[zE] at h;simp only[Io,hg,h];rfl
 |cell t ty=>
  obtain⟨a,ha,hl⟩:=h
  simp only[Io,hg,ha,asAddr,Sem.run_bind,Sem.run_pure,Result.andThen_ok,hl]
theorem Qw {fn:Func} {rs:List ResultVar} (hr:fn.results=rs.toArray) {tmps:Array Value} {e:Env} (hg:∀t,tmps.getD t undef=e t) (h:Im P e w rs vs) (hl:rs.length<=4):
  (results fn tmps).run P w= .ok (zF vs) w:=by
 match rs,vs,h with
 |[],[],_=>simp[FM,hr,zF]
 |[r],[v],h=>
  have h1:=wg (tmps:=tmps) hg (show zE P e w r v from h)
  simp[FM,hr,zF,h1]
 |[r,r2],[v,v2],h=>
  have h1:=wg (tmps:=tmps) hg h.1
  have h2:=wg (tmps:=tmps) hg (show zE P e w r2 v2 from h.2)
  simp[FM,hr,zF,h1,h2]
 |[r,r2,r3],[v,v2,v3],h=>
  have h1:=wg (tmps:=tmps) hg h.1
  have h2:=wg (tmps:=tmps) hg h.2.1
  have h3:=wg (tmps:=tmps) hg (show zE P e w r3 v3 from h.2.2)
  simp[FM,hr,zF,h1,h2,h3]
 |[r,r2,r3,r4],[v,v2,v3,v4],h=>
  have h1:=wg (tmps:=tmps) hg h.1
  have h2:=wg (tmps:=tmps) hg h.2.1
  have h3:=wg (tmps:=tmps) hg h.2.2.1
  have h4:=wg (tmps:=tmps) hg (show zE P e w r4 v4 from h.2.2.2)
  simp[FM,hr,zF,h1,h2,h3,h4]
 |_::_::_::_::_::_,_,_=>simp at hl
theorem kW {P:Program} {f:FuncId} {fn:Func} {c:Code} {args:List Value} {w:World} {S:Value->World->Prop} (rs:List ResultVar) (n:Nat) 
  (hf:P.funcs[f]?=some fn) (hb:fn.body=some c) (hn:(fn.name== "runtime.NumGoroutine")=false) (hr:fn.results=rs.toArray) (fC:args.length+(fn.ntmps-args.length)=n) (hl:Nat.ble rs.length 4=true)
  (h:CW P n c (λe w'=>∃vs,Im P e w' rs vs∧S (zF vs) w') (λe w'=>∃vs,Im P e w' rs vs∧S (zF vs) w') (λ_ _ _=>False) (start args) w):bz P f args w S:=by
 refine⟨⟨fn,hf,by rw[hb];rfl,hn⟩,calls_of_wp hf hb (wp_mono (h _ ?_) λx a w' hq=>?_)⟩
 ·rw[<-fC];simpa using P4 args (fn.ntmps-args.length)
 ·cases x<;>simp only[kR] at hq
  ·obtain⟨e,kv,vs,hv,hs⟩:=hq
   exact bodyPost_end (Qw hr kv.get hv (Nat.le_of_ble_eq_true hl)) kv.defers ⟨_,rfl,hs⟩
  ·obtain⟨e,kv,hs⟩:=hq;exact hs.elim
  ·obtain⟨e,kv,vs,hv,hs⟩:=hq
   exact bodyPost_ret (Qw hr kv.get hv (Nat.le_of_ble_eq_true hl)) kv.defers ⟨_,rfl,hs⟩
section
variable {P:Program} {n:Nat} {ops:Array Oper} {K:Env->World->Prop} {rest:List Oper} {e:Env} {w:World}
 {dst:Option Nat} {ty:TypeId} {pos:String} {after:Array Edge} {g:Option (Nat×Bool)}
theorem Y4 {at_:Array TypeId} {i j z:Int} (hg:gate ops e g=true) (hd:bV n dst=true) (hx:ev e x= .int k i) (hy:ev e y= .int k j) (hz:(if j<i then j else i)=z) 
  (kk:OW P n ops K rest (bM e dst (.int k z)) w):OW P n ops K (⟨dst,.call {callee:=.builtin .min,args:=#[x,y],argTypes:=at_},ty,pos,after,g⟩::rest) e w:=
 eQ hg hd (by
  simp[execOp,resolve,invoke,builtin,hx,hy,Builtin.min_,Builtin.min2,hz]) kk
theorem Y5 {at_:Array TypeId} {y2:Operand} {i j j2 z:Int} (hg:gate ops e g=true) (hd:bV n dst=true) (hx:ev e x= .int k i) (hy:ev e y= .int k j) (wh:ev e y2= .int k j2) (hz:(if j2<(if j<i then j else i) then j2 else(if j<i then j else i))=z) 
  (kk:OW P n ops K rest (bM e dst (.int k z)) w):OW P n ops K (⟨dst,.call {callee:=.builtin .min,args:=#[x,y,y2],argTypes:=at_},ty,pos,after,g⟩::rest) e w:=
 eQ hg hd (by
  simp[execOp,resolve,invoke,builtin,hx,hy,wh,Builtin.min_,Builtin.min2,hz]) kk
theorem Y6 {at_:Array TypeId} {i j z:Int} (hg:gate ops e g=true) (hd:bV n dst=true) (hx:ev e x= .int k i) (hy:ev e y= .int k j) (hz:(if i<j then j else i)=z) 
  (kk:OW P n ops K rest (bM e dst (.int k z)) w):OW P n ops K (⟨dst,.call {callee:=.builtin .max,args:=#[x,y],argTypes:=at_},ty,pos,after,g⟩::rest) e w:=
 eQ hg hd (by
  simp[execOp,resolve,invoke,builtin,hx,hy,Builtin.max_,Builtin.max2,hz]) kk
theorem Qx {fn:Fn} {xs:List Operand} (hg:gate ops e g=true) (hd:bV n dst=true) (hv:xs.map (ev e)=vs) 
  (kk:OW P n ops K rest (bM e dst (.func fn #[] vs.toArray)) w):OW P n ops K (⟨dst,.makeFunc fn #[] xs.toArray,ty,pos,after,g⟩::rest) e w:=
 eQ hg hd (by subst hv;simp[execOp,Instr.makeFunc]) kk
theorem Qy {c:Operand} {caps:List Value} {xs:List Operand} {ats:Array TypeId} (hg:gate ops e g=true) (hd:bV n dst=true) (hc:ev e c= .func (.func f) #[] caps.toArray) (h:bz P f (xs.map (ev e)++caps) w S) 
  (k:∀v w',S v w'->OW P n ops K rest (bM e dst v) w'):OW P n ops K (⟨dst,.call {callee:=.value c,args:=xs.toArray,argTypes:=ats},ty,pos,after,g⟩::rest) e w:=λa ha Q=>by
 unfold wpList
 rw[iP (by rw[Fo ha];exact hg)]
 refine .inl ?_
 unfold Oper.wp
 have jM:(execOp (ev e) ⟨dst,.call {callee:=.value c,args:=xs.toArray,argTypes:=ats},ty,pos,after,g⟩).run P w= .ok (.enter f (xs.map (ev e)++caps).toArray) w:=by
  simp only[execOp,resolve,hc,Deferred.ofValue,Sem.run_bind,Sem.run_pure,Result.andThen_ok,invoke]
  simp[P8 h.1]
 rw[ha.eval,jM,Oper.upon_enter]
 exact Calls.mono h.2 λx w' ⟨v,hx,hs⟩=>by subst hx;exact k v w' hs _ (ha.bM hd v) Q
end
def fU (xs:List ai):List (List C):=xs.map λx=>[.val (str x)]
theorem qb (xs:List ai):(fU xs).length=xs.length:=by simp[fU]
theorem Qz {xs:List ai} {x:ai} (h:xs[i]?=some x):(fU xs)[i]?=some [.val (str x)]:=by simp[fU,h]
def bc (L:List Nat) (w:World) (v:Value) (xs:List ai):Prop:=bQ L w v (.sl 1 (fU xs))
theorem bc.ext {xs:List ai} (h:bc L w v xs) (k:aj [] w w'):bc L w' v xs:=bQ.ext h k
theorem bc.aD {xs:List ai} (h:bc L w v xs) (k:aj L' w w') (hL:∀x,x∈L'->x∈L):bc L w' v xs:=bQ.aF h (k.mono hL)
theorem dJ {xs:List ai} (h:bc L w v xs):∃a n c,v= .slice a n c∧n=xs.length:=by grind [bc,rC,qb]
theorem QA {x:ai} (h:cS L w vs [.val (str x)]):vs=[str x]:=by
 match vs,h with
 |[v],h=>obtain⟨h1,_⟩:=h;cases h1;rfl
 |[],h=>exact h.elim
 |_::_::_,h=>exact h.2.elim
theorem pB {a:Option Addr} {c:Nat} {xs:List ai} {x:ai} (h:bc L w (.slice a n c) xs) (hi:xs[i]?=some x):
  ∃b off,a=some ⟨b,off,none⟩∧fS w b (off+i*1) [str x]:=by
 obtain⟨b,off,vs,ha,hb,hL,hl,hc,hr⟩:=zn h (Qz hi)
 rw[QA hr] at hc
 exact⟨b,off,ha,hc⟩
abbrev bX (xs:List ai) (i:Nat):ai:=xs.getD i []
theorem km {xs:List ai} (h:i<xs.length):xs[i]?=some (bX xs i):=by grind
structure Bk where
 aM:ai
 bY:List ai
 code:List ai
def Bk.enc (b:Bk):List C:=[.val (str b.aM),.sl 1 (fU b.bY),.sl 1 (fU b.code)]
def qP (L:List Nat) (w:World) (v:Value) (b:Bk):Prop:=j1 L w v b.enc
theorem qP.ext {b:Bk} (h:qP L w v b) (k:aj [] w w'):qP L w' v b:=j1.ext h k
theorem QB {b:Bk} (h:cS L w vs b.enc):∃v1 v2,vs=[str b.aM,v1,v2]∧bc L w v1 b.bY∧bc L w v2 b.code:=by
 rw[Bk.enc] at h
 match vs,h with
 |[v0,v1,v2],h=>obtain⟨h0,h1,h2,_⟩:=h;cases h0;exact⟨v1,v2,rfl,h1,h2⟩
 |[],h=>exact h.elim
 |[_],h=>exact h.2.elim
 |[_,_],h=>exact h.2.2.elim
 |_::_::_::_::_,h=>exact h.2.2.2.elim
theorem DK {b:Bk} (h:qP L w v b):∃a1 n1 c1 a2 n2 c2,v= .agg #[str b.aM,.slice a1 n1 c1,.slice a2 n2 c2]∧
  n1=b.bY.length∧n2=b.code.length∧bc L w (.slice a1 n1 c1) b.bY∧bc L w (.slice a2 n2 c2) b.code:=by
 obtain⟨vs,rfl,hr⟩:=h
 obtain⟨v1,v2,rfl,h1,h2⟩:=QB hr
 obtain⟨a1,n1,c1,rfl,fx⟩:=dJ h1
 obtain⟨a2,n2,c2,rfl,eU⟩:=dJ h2
 exact⟨a1,n1,c1,a2,n2,c2,rfl,fx,eU,h1,h2⟩
theorem BP {b:Bk} {v1 v2:Value} (h1:bc L w v1 b.bY) (h2:bc L w v2 b.code):qP L w (.agg #[str b.aM,v1,v2]) b:=
 ⟨[str b.aM,v1,v2],rfl,.val _,h1,h2,trivial⟩
def nR (L:List Nat) (w:World) (v:Value) (bs:List Bk):Prop:=bQ L w v (.sl 3 (bs.map Bk.enc))
theorem nR.ext {bs:List Bk} (h:nR L w v bs) (k:aj [] w w'):nR L w' v bs:=bQ.ext h k
theorem zG {bs:List Bk} (h:nR L w v bs):∃a n c,v= .slice a n c∧n=bs.length:=by grind [nR,rC]
theorem BQ {a:Option Addr} {c:Nat} {bs:List Bk} {k:Bk} (h:nR L w (.slice a n c) bs) (hi:bs[i]?=some k):
  ∃b off a1 n1 c1 a2 n2 c2,a=some ⟨b,off,none⟩∧fS w b (off+i*3) [str k.aM,.slice a1 n1 c1,.slice a2 n2 c2]∧
   n1=k.bY.length∧n2=k.code.length∧bc L w (.slice a1 n1 c1) k.bY∧bc L w (.slice a2 n2 c2) k.code:=by
 obtain⟨b,off,vs,ha,hb,hL,hl,hc,hr⟩:=zn h (show(bs.map Bk.enc)[i]?=some k.enc by simp[hi])
 obtain⟨v1,v2,rfl,h1,h2⟩:=QB hr
 obtain⟨a1,n1,c1,rfl,fx⟩:=dJ h1
 obtain⟨a2,n2,c2,rfl,eU⟩:=dJ h2
 exact⟨b,off,a1,n1,c1,a2,n2,c2,ha,hc,fx,eU,h1,h2⟩
def Ip (p:Prop) (w:World) (b off:Nat) (vs:List Value):Prop:=p->fS w b off vs
theorem Ip.ext (h:Ip p w b off vs) (k:aj [] w w'):Ip p w' b off vs:=λhp=>(h hp).ext k
def Iq (p:Prop) (L:List Nat) (w:World) (v:Value) (ts:List aq):Prop:=p->eM L w v ts
theorem Iq.ext {ts:List aq} (h:Iq p L w v ts) (k:aj [] w w'):Iq p L w' v ts:=λhp=>(h hp).ext k
end Go.Proofs.YthbhobaiopccaaaGreatDoor
