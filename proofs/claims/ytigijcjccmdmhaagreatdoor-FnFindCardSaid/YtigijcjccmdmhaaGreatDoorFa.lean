/- Lemmas for the law FnFind, no statement of their own: no conditions. -/
import Derived.Below
import Derived.Calls
import Derived.IntWalk
import Derived.KernelRfl
import Derived.Laws.AppendOwn
import Derived.Laws.Slices
import Derived.Laws.Small
import Derived.Laws.Strings
import Derived.Laws.Strings2
import Derived.Orders
import Derived.Tactics
import Derived.Test.YtigijcjccmdmhaaGreatDoorProg
namespace Go.Proofs.YtigijcjccmdmhaaGreatDoor
open Go
def om {p:Prop} (h:p:=by omega):p:=h
def so {p:Prop} (h:p:=by simp;omega):p:=h
def sm {p:Prop} (h:p:=by simp):p:=h
def sx {p:Prop} (h:p:=by simp<;>omega):p:=h
def de {p:Prop} (h:p:=by decide):p:=h
abbrev rA:=List.range'
abbrev NG (f:Func):Prop:=(f.name== "runtime.NumGoroutine")=false
def ng {f:Func} (h:(f.name== "runtime.NumGoroutine")=false:=by kernel_rfl):NG f:=h
def mA:=@List.mem_append
def mC:=@List.mem_cons
def gE:=@List.getElem?_eq_getElem
def lL:=@Nat.lt_of_lt_of_le
def lR:=@Nat.le_refl
def bE:=@Bool.eq_false_or_eq_true
def gG:=@List.getD_eq_getElem?_getD
def cA:=@congrArg
def lA:=@List.length_append
def lC:=@List.length_cons
def lN:=@List.length_nil
def mR:=@List.mem_append_right
def mK:=@List.mem_cons_of_mem
def nN:=@List.not_mem_nil
def mS:=@List.mem_singleton
def aE:=@Bool.and_eq_true
def oE:=@Bool.or_eq_true
def dE:=@decide_eq_true_eq
def dT:=@decide_eq_true
def dF:=@decide_eq_false
def iN:=@if_neg
def iP:=@if_pos
def bS:=@Option.bind_some
def oF:=@or_false

abbrev Env:=Nat->Value
def kK (e:Env) (d:Nat) (v:Value):Env:=λt=>bif Nat.beq t d then v else e t
def nL (e:Env) (d:Nat) (v:Value):kK e d v d=v:=by simp[kK,Nat.beq_refl]
def Hu (e:Env) {d t:Nat} (v:Value) (h:t≠d):kK e d v t=e t:=by
 have hb:Nat.beq t d=false:=by
  cases hx:Nat.beq t d with
  |true=>exact absurd (Nat.eq_of_beq_eq_true hx) h
  |false=>rfl
 simp[kK,hb]
structure Fits (n:Nat) (e:Env) (a:Act):Prop where
 defers:a.defers=[]
 size:a.tmps.size=n
 get:∀t,a.tmps.getD t undef=e t
def ev (e:Env):Operand->Value
 | .tmp t=>e t
 | .const v=>v
 | .global g=>.pointer (some ⟨g,0,none⟩)
 | .func f=>.func (.func f) #[] #[]
def Fits.eval {n:Nat} {e:Env} {a:Act} (h:Fits n e a):a.eval=ev e:=by
 funext x
 cases x<;>simp[Act.eval,ev]
 rw[<-h.get,Array.getD_eq_getD_getElem?]
def WD (xs:Array Value) (d t:Nat) (v u:Value) (hd:d<xs.size):(xs.setIfInBounds d v).getD t u=if t=d then v else xs.getD t u:=by
 simp only[Array.getD_eq_getD_getElem?,Array.getElem?_setIfInBounds]
 by_cases h:t=d
 ·subst h;simp[hd]
 ·have:¬d=t:=λe=>h e.symm
  simp[h,this]
def Fits.put {n:Nat} {e:Env} {a:Act} (h:Fits n e a) {d:Nat} (hd:Nat.blt d n=true) (v:Value):Fits n (kK e d v) (a.put (some d) v):=by
 have WE:d<n:=by simpa[Nat.blt_eq] using hd
 refine⟨h.defers,by simp[Act.put,h.size],λt=>?_⟩
 simp only[Act.put]
 rw[WD _ _ _ _ _ (by rw[h.size];exact WE),h.get]
 by_cases ht:t=d
 ·subst ht;simp[nL]
 ·rw[Hu _ _ ht,iN ht]
@[reducible] def cQ (e:Env):Option Nat->Value->Env
 |some d,v=>kK e d v
 |none,_=>e
def dy (n:Nat):Option Nat->Bool
 |some d=>Nat.blt d n
 |none=>true
def Fits.cQ {n:Nat} {e:Env} {a:Act} (h:Fits n e a) {d:Option Nat} (hd:dy n d=true) (v:Value):Fits n (cQ e d v) (a.put d v):=by
 cases d with
 |none=>exact h
 |some d=>exact h.put hd v
def pF (n:Nat) (K:Env->World->Prop) (Q:Exit->Act->World->Prop):Exit->Act->World->Prop
 | .normal,a,w=>∃e,Fits n e a∧K e w
 |x,a,w=>Q x a w
def OW (P:Program) (n:Nat) (ops:Array Oper) (K:Env->World->Prop) (l:List Oper) (e:Env) (w:World):Prop:=
 ∀a,Fits n e a->∀Q,wpList P ops (pF n K Q) l a w
def lD (n:Nat) (N R:Env->World->Prop) (X:Nat->Env->World->Prop):Exit->Act->World->Prop
 | .normal,a,w=>∃e,Fits n e a∧N e w
 | .ret,a,w=>∃e,Fits n e a∧R e w
 | .exit i,a,w=>∃e,Fits n e a∧X i e w
 |_,_,_=>False
def CW (P:Program) (n:Nat) (c:Code) (N R:Env->World->Prop) (X:Nat->Env->World->Prop) (e:Env) (w:World):Prop:=
 ∀a,Fits n e a->c.wp P (lD n N R X) a w
section
variable {P:Program} {n:Nat} {N R:Env->World->Prop} {X:Nat->Env->World->Prop} {e:Env} {w:World}
def CW.mono {c:Code} {N' R':Env->World->Prop} {X':Nat->Env->World->Prop} (h:CW P n c N R X e w)
  (hN:∀e w,N e w->N' e w) (hR:∀e w,R e w->R' e w) (hX:∀i e w,X i e w->X' i e w):CW P n c N' R' X' e w:=λa ha=>
 wp_mono (h a ha) λx a w hq=>by
  cases x<;>simp only[lD] at hq⊢
  ·obtain⟨e,hf,hk⟩:=hq;exact⟨e,hf,hN _ _ hk⟩
  ·obtain⟨e,hf,hk⟩:=hq;exact⟨e,hf,hX _ _ _ hk⟩
  ·obtain⟨e,hf,hk⟩:=hq;exact⟨e,hf,hR _ _ hk⟩
def aQ {x y:Code} (h:CW P n x (λe w=>CW P n y N R X e w) R X e w):CW P n (x.seq y) N R X e w:=λa ha=>
 wp_seq (wp_mono (h a ha) λex a w hq=>by
  cases ex<;>simp only[lD] at hq<;>simp only[Exit.then]<;>first|exact hq|skip
  obtain⟨e,hf,hk⟩:=hq
  exact hk a hf)
def bz (h:N e w):CW P n .skip N R X e w:=λ_ ha=>wp_skip ⟨e,ha,h⟩
def aV (h:R e w):CW P n .ret N R X e w:=λ_ ha=>wp_ret ⟨e,ha,h⟩
def gD {i:Nat} (h:X i e w):CW P n (.exit i) N R X e w:=λ_ ha=>wp_exit ⟨e,ha,h⟩
def cS {i:Nat} {c:Code} (h:CW P n c N R (λj e w=>bif Nat.beq j i then N e w else X j e w) e w):CW P n (.block i c) N R X e w:=λa ha=>
 wp_block (wp_mono (h a ha) λex a w hq=>by
  cases ex<;>simp only[lD] at hq<;>simp only[Exit.inBlock]<;>first|exact hq|skip
  rename_i j
  obtain⟨e,hf,hk⟩:=hq
  by_cases hj:j=i
  ·subst hj
   simp only[if_true,lD]
   rw[Nat.beq_refl] at hk
   exact⟨e,hf,hk⟩
  ·have hb:Nat.beq j i=false:=by
    cases hx:Nat.beq j i with
    |true=>exact absurd (Nat.eq_of_beq_eq_true hx) hj
    |false=>rfl
   rw[hb] at hk
   simp only[hj,if_false,lD]
   exact⟨e,hf,hk⟩)
def gF {j i:Nat} {A B:Prop} (h:Nat.beq j i=true) (k:A):(bif Nat.beq j i then A else B):=by rw[h];exact k
def WG {j i:Nat} {A B:Prop} (h:Nat.beq j i=false) (k:B):(bif Nat.beq j i then A else B):=by rw[h];exact k
def WH {c:Operand} {x y:Code} {t:Bool} (hc:ev e c= .bool t) (hx:t=true->CW P n x N R X e w) (hy:t=false->CW P n y N R X e w):
  CW P n (.cond c x y) N R X e w:=λa ha=>
 wp_cond_split (t:=t) (by rw[ha.eval];exact hc) (λh=>hx h a ha) (λh=>hy h a ha)
def df {id:Nat} {l:List Oper} (h:OW P n l.toArray N l e w):CW P n (.region id l.toArray false) N R X e w:=λa ha=>
 wp_mono (wp_region_lit (h a ha (λ_ _ _=>False))) λex a w hq=>by
  cases ex<;>simp only[pF] at hq<;>simp only[lD]<;>exact hq
def Holds:List (Nat×Value)->Env->Prop
 |[],_=>True
 |[p],e=>e p.1=p.2
 |p::r,e=>e p.1=p.2∧Holds r e
def aM (e:Env):List (Nat×Value)->Env
 |[]=>e
 |p::r=>kK (aM e r) p.1 p.2
def WI {p:Nat×Value} {r:List (Nat×Value)} (h:Holds (p::r) e):e p.1=p.2∧Holds r e:=by
 cases r with
 |nil=>exact⟨h,trivial⟩
 |cons q r=>exact h
def Kb:∀{l:List (Nat×Value)},Holds l e->aM e l=e
 |[],_=>rfl
 |p::r,h=>by
  obtain⟨h1,h2⟩:=WI h
  simp only[aM,Kb h2]
  funext t
  by_cases ht:t=p.1
  ·subst ht;rw[nL,h1]
  ·rw[Hu _ _ ht]
def fY {c:Code} {G:Type} (L:G->List (Nat×Value)) (I:G->World->Prop) (μ:G->Nat) (g0:G) (h0:Holds (L g0) e) (hI:I g0 w)
  (round:∀g w e0,I g w->CW P n c (λe' w'=>∃g',Holds (L g') e'∧I g' w'∧μ g'<μ g) R X (aM e0 (L g)) w):
  CW P n (.loop c) N R X e w:=by
 intro a ha b k cs
 have key:∀m (g:G) (e:Env) (a:Act) (w:World),μ g=m->Fits n e a->Holds (L g) e->I g w->
   ∃x a' w',lD n N R X x a' w'∧Arrives P (lone (b.at a (.code c:: .inLoop c::k)) cs w) b k cs x a' w':=by
  intro m
  induction m using Nat.strongRecOn with
  |_ m ih=>
   intro g e a w hm hf hh hi
   have hr:=round g w e hi
   rw[Kb hh] at hr
   obtain⟨x,a₁,w₁,hq,EG⟩:=hr a hf b (.inLoop c::k) cs
   cases x with
   |normal=>
    obtain⟨e₁,hf₁,g',WJ,WK,eW⟩:=hq
    obtain⟨x₂,a₂,w₂,hq₂,harr₂⟩:=ih (μ g') (hm▸eW) g' e₁ a₁ w₁ rfl hf₁ WJ WK
    exact⟨x₂,a₂,w₂,hq₂,.of_steps (Steps.trans EG (.one step_inLoop)) harr₂⟩
   |exit id=>exact⟨_,a₁,w₁,by simpa only[lD] using hq,.pass (x:=.inLoop c) rfl (λ_ _=>.inl sm) EG⟩
   |goto l=>simp[lD] at hq
   |ret=>exact⟨_,a₁,w₁,by simpa only[lD] using hq,.pass (x:=.inLoop c) rfl (λ_ _=>.inl sm) EG⟩
   |panic ch=>simp[lD] at hq
   |outgrown=>simp[lD] at hq
 obtain⟨x,a',w',hq,EG⟩:=key _ g0 e a w rfl ha h0 hI
 exact⟨x,a',w',hq,.of_steps (.one step_loop) EG⟩
def ji {c:Code} {G:Type} (L:G->List (Nat×Value)) (I:G->World->Prop)
  (h:CW P n c (λe' w'=>∃g,Holds (L g) e'∧I g w') R X e w) (k:∀g w' e0,I g w'->N (aM e0 (L g)) w'):CW P n c N R X e w:=
 h.mono (λe' w' ⟨g,hh,hi⟩=>by have:=k g w' e' hi;rwa [Kb hh] at this) (λ_ _ h=>h) (λ_ _ _ h=>h)
end
/-! ### A function -/
def tm (P:Program) (f:FuncId):Prop:=∃fn,P.funcs[f]?=some fn∧fn.body.isNone=false∧(fn.name== "runtime.NumGoroutine")=false
def tm.mk' {P:Program} {f:FuncId} {fn:Func} (h:P.funcs[f]?=some fn) (hb:fn.body.isNone=false) (hn:(fn.name== "runtime.NumGoroutine")=false):tm P f:=⟨fn,h,hb,hn⟩
def ck (P:Program) (f:FuncId) (args:List Value) (w:World) (S:Value->World->Prop):Prop:=
 tm P f∧Calls P f args.toArray w λe w'=>∃v,e= .returned v∧S v w'
def Bb (e:Env):List ResultVar->Option Value
 |[.tmp t]=>some (e t)
 |[.tmp t,.tmp u]=>some (.tuple #[e t,e u])
 |[.tmp t,.tmp u,.tmp x]=>some (.tuple #[e t,e u,e x])
 |[]=>some (.tuple #[])
 |_=>none
def Pm {fn:Func} {rs:List ResultVar} (hr:fn.results=rs.toArray) {tmps:Array Value} {e:Env} (hg:∀t,tmps.getD t undef=e t) {v:Value} (h:Bb e rs=some v) (P:Program) (w:World):
  (results fn tmps).run P w= .ok v w:=by
 match rs,h with
 |[.tmp t],h=>simp only[Bb,Option.some.injEq] at h;subst h;rw[<-hg];exact results_tmp hr _ _ _
 |[.tmp t,.tmp u],h=>simp only[Bb,Option.some.injEq] at h;subst h;rw[<-hg,<-hg];exact results_tmp2 hr _ _ _
 |[.tmp t,.tmp u,.tmp x],h=>
  simp only[Bb,Option.some.injEq] at h;subst h;rw[<-hg,<-hg,<-hg]
  simp[results,hr]
 |[],h=>simp only[Bb,Option.some.injEq] at h;subst h;exact results_none hr _ _ _
def start (args:List Value):Env:=λt=>args.getD t undef
def Pn (args:List Value) (m:Nat):Fits (args.length+m) (start args) {tmps:=args.toArray++Array.replicate m undef,defers:=[]}:=by
 refine⟨rfl,sm,λt=>?_⟩
 simp only[start,Array.getD_eq_getD_getElem?,gG,Array.getElem?_append,List.size_toArray,List.getElem?_toArray]
 by_cases h:t<args.length
 ·rw[iP h]
 ·rw[iN h,List.getElem?_eq_none om]
  by_cases h2:t-args.length<m<;>simp[h2]
def cX {P:Program} {f:FuncId} {fn:Func} {c:Code} {args:List Value} {w:World} {S:Value->World->Prop} (rs:List ResultVar) (n:Nat)
  (hf:P.funcs[f]?=some fn) (hb:fn.body=some c) (hn:(fn.name== "runtime.NumGoroutine")=false) (hr:fn.results=rs.toArray) (iY:args.length+(fn.ntmps-args.length)=n)
  (h:CW P n c (λe w'=>∃v,Bb e rs=some v∧S v w') (λe w'=>∃v,Bb e rs=some v∧S v w') (λ_ _ _=>False) (start args) w):ck P f args w S:=by
 refine⟨⟨fn,hf,by rw[hb];rfl,hn⟩,calls_of_wp hf hb (wp_mono (h _ ?_) λx a w' hq=>?_)⟩
 ·rw[<-iY];simpa using Pn args (fn.ntmps-args.length)
 ·cases x<;>simp only[lD] at hq
  ·obtain⟨e,lE,v,hv,hs⟩:=hq
   exact bodyPost_end (Pm hr lE.get hv P w') lE.defers ⟨v,rfl,hs⟩
  ·obtain⟨e,lE,hs⟩:=hq;exact hs.elim
  ·obtain⟨e,lE,v,hv,hs⟩:=hq
   exact bodyPost_ret (Pm hr lE.get hv P w') lE.defers ⟨v,rfl,hs⟩
def Po (P:Program) (e:Env) (t ty:Nat) (v:Value) (w:World):Prop:=∃a,e t= .pointer (some a)∧(loadVar ty a).run P w= .ok v w
structure ak (L:List Nat) (w w':World):Prop where
 os:w'.os=w.os
 tape:w'.tape=w.tape
 output:w'.output=w.output
 size:w.heap.size<=w'.heap.size
 block:∀k,k<w.heap.size->k∉L->w'.heap[k]?=w.heap[k]?
def ak.refl (L:List Nat) (w:World):ak L w w:=⟨rfl,rfl,rfl,lR _,λ_ _ _=>rfl⟩
def ak.trans {L:List Nat} {a b c:World} (h:ak L a b) (k:ak L b c):ak L a c:=
 ⟨k.os.trans h.os,k.tape.trans h.tape,k.output.trans h.output,Nat.le_trans h.size k.size,λi hi hl=>(k.block i (lL hi h.size) hl).trans (h.block i hi hl)⟩
def ak.mono {L L':List Nat} {a b:World} (h:ak L a b) (hL:∀x,x∈L->x∈L'):ak L' a b:=
 ⟨h.os,h.tape,h.output,h.size,λk hk hl=>h.block k hk (λhx=>hl (hL k hx))⟩
def ak.any {L:List Nat} {a b:World} (h:ak [] a b):ak L a b:=h.mono sm
def ak.drew (L:List Nat) (w:World):ak L w {w with drawn:=w.drawn+1}:=⟨rfl,rfl,rfl,lR _,λ_ _ _=>rfl⟩
def ak.alloc (L:List Nat) (w:World) (o:Obj):ak L w (w.alloc o):=⟨rfl,rfl,rfl,sm,λk hk _=>heap_alloc_old w o k hk⟩
def ak.below {L:List Nat} {a b:World} (h:ak L a b) {B:Nat} (hB:B<=a.heap.size) (hL:∀x,x∈L->B<=x):Go.RowKit.Below B a b:=
 ⟨h.os,h.tape,h.output,h.size,λk hk=>h.block k om (λhx=>by have:=hL k hx;omega)⟩
def ak.since {L L':List Nat} {a b c:World} (h:ak L a b) (k:ak L' b c) (hL:∀x,x∈L'->x∈L∨a.heap.size<=x):ak L a c:=
 ⟨k.os.trans h.os,k.tape.trans h.tape,k.output.trans h.output,Nat.le_trans h.size k.size,λi hi hl=>
  (k.block i (lL hi h.size) (λhx=>by rcases hL i hx with h1|h1;exact hl h1;omega)).trans (h.block i hi hl)⟩
def aY (w:World) (b:Nat) (cs:Array Value) (T:TypeId):Prop:=w.heap[b]?=some (.cells cs T (0,0))
def aY.aO {w w':World} {b:Nat} {cs:Array Value} {T:TypeId} {L:List Nat} (h:aY w b cs T) (k:ak L w w') (hb:b∉L):aY w' b cs T:=
 (k.block b (Array.getElem?_eq_some_iff.1 h).1 hb).trans h
def aY.lt {w:World} {b:Nat} {cs:Array Value} {T:TypeId} (h:aY w b cs T):b<w.heap.size:=(Array.getElem?_eq_some_iff.1 h).1
def aY.cell {w:World} {b:Nat} {cs:Array Value} {T:TypeId} (h:aY w b cs T) (i:Nat):w.cell? ⟨b,i,none⟩=cs[i]?:=cell_of_row w b i cs T (0,0) h
def aY.frozen {w:World} {b:Nat} {cs:Array Value} {T:TypeId} (h:aY w b cs T) (i:Nat):w.frozen? ⟨b,i,none⟩=false:=by
 simp only[World.frozen?];rw[show w.heap[b]?=_ from h];simp
def aY.alloc (w:World) (cs:Array Value) (T:TypeId):aY (w.alloc (.cells cs T)) w.heap.size cs T:=heap_alloc_new w _
def aY.set {w:World} {b:Nat} {cs:Array Value} {T:TypeId} (h:aY w b cs T) (i:Nat) (v:Value):aY (w.setCell ⟨b,i,none⟩ v) b (cs.setIfInBounds i v) T:=by
 unfold aY at*
 simp only[World.setCell,Array.getElem?_modify,if_true,h]
 simp
def ak.setCell (w:World) (b i:Nat) (v:Value):ak [b] w (w.setCell ⟨b,i,none⟩ v):=
 ⟨rfl,rfl,rfl,by simp[World.setCell],λk _ hl=>Go.RowKit.Below.heap_setCell w _ v k (by simpa using hl)⟩
inductive C where
 |val (v:Value)
 |sl (size:Nat) (rows:List (List C))
inductive cF (L:List Nat) (w:World):Value->C->Prop
 |val (v:Value):cF L w v (.val v)
 |nil (a:Option Addr) (cap size:Nat):cF L w (.slice a 0 cap) (.sl size [])
 |sl (b off len cap size:Nat) (rows:List (List C)) (f:Nat->Nat->Value) (hl:rows.length=len) (hc:len<=cap) (hb:b<w.heap.size) (hL:b∉L)
   (hs:∀row,row∈rows->row.length=size)
   (kL:∀i j,i<len->j<size->w.cell? ⟨b,off+i*size+j,none⟩=some (f i j))
   (jo:∀i j row c,rows[i]?=some row->row[j]?=some c->cF L w (f i j) c):cF L w (.slice (some ⟨b,off,none⟩) len cap) (.sl size rows)
def cF.aO {L:List Nat} {w w':World} {v:Value} {c:C} (h:cF L w v c) (k:ak L w w'):cF L w' v c:=by
 induction h with
 |val v=>exact .val v
 |nil a c s=>exact .nil a c s
 |sl b off len cap size rows f hl hc hb hL hs kL _ ih=>
  exact .sl b off len cap size rows f hl hc (lL hb k.size) hL hs
   (λi j hi hj=>(World.cell?_of_block (k.block b hb hL)).trans (kL i j hi hj)) ih
def cF.fresh {L L':List Nat} {w:World} {v:Value} {c:C} (h:cF L w v c) (hL:∀x,x∈L'->x∈L∨w.heap.size<=x):cF L' w v c:=by
 induction h with
 |val v=>exact .val v
 |nil a c s=>exact .nil a c s
 |sl b off len cap size rows f hl hc hb gX hs kL _ ih=>
  exact .sl b off len cap size rows f hl hc hb (λhx=>by rcases hL b hx with h1|h1;exact gX h1;omega) hs kL ih
def cF.weaken {L L':List Nat} {w:World} {v:Value} {c:C} (h:cF L w v c) (hL:∀x,x∈L'->x∈L):cF L' w v c:=h.fresh λx hx=>.inl (hL x hx)
def cF.none {L:List Nat} {w:World} {v:Value} {c:C} (h:cF L w v c):cF [] w v c:=h.weaken sm
def dR (L:List Nat) (w:World):List Value->List C->Prop
 |[],[]=>True
 |v::vs,c::cs=>cF L w v c∧dR L w vs cs
 |_,_=>False
def dR.length {L:List Nat} {w:World}:∀{vs:List Value} {cs:List C},dR L w vs cs->vs.length=cs.length
 |[],[],_=>rfl
 |_::_,_::_,h=>by simp[dR.length h.2]
def dR.get {L:List Nat} {w:World}:∀{vs:List Value} {cs:List C},dR L w vs cs->∀{j:Nat} {v:Value} {c:C},vs[j]?=some v->cs[j]?=some c->cF L w v c
 |_::_,_::_,h,0,_,_,hv,hc=>by simp at hv hc;subst hv;subst hc;exact h.1
 |_::_,_::_,h,j+1,_,_,hv,hc=>dR.get h.2 (j:=j) (by simpa using hv) (by simpa using hc)
def dR.of {L:List Nat} {w:World}:∀{vs:List Value} {cs:List C},vs.length=cs.length->(∀(j:Nat) (v:Value) (c:C),vs[j]?=some v->cs[j]?=some c->cF L w v c)->dR L w vs cs
 |[],[],_,_=>trivial
 |v::vs,c::cs,hl,h=>⟨h 0 v c rfl rfl,dR.of (by simpa using hl) λj v' c' hv hc=>h (j+1) v' c' (by simpa using hv) (by simpa using hc)⟩
def dR.aO {L:List Nat} {w w':World} {vs:List Value} {cs:List C} (h:dR L w vs cs) (k:ak L w w'):dR L w' vs cs:=dR.of h.length λ_ _ _ hv hc=>(h.get hv hc).aO k
def dR.fresh {L L':List Nat} {w:World} {vs:List Value} {cs:List C} (h:dR L w vs cs) (hL:∀x,x∈L'->x∈L∨w.heap.size<=x):dR L' w vs cs:=dR.of h.length λ_ _ _ hv hc=>(h.get hv hc).fresh hL
def dR.append {L:List Nat} {w:World}:∀{vs:List Value} {cs:List C} {vs':List Value} {cs':List C},dR L w vs cs->dR L w vs' cs'->dR L w (vs++vs') (cs++cs')
 |[],[],_,_,_,h'=>h'
 |_::_,_::_,_,_,h,h'=>⟨h.1,dR.append h.2 h'⟩
def kD (L:List Nat) (w:World) (v:Value) (cs:List C):Prop:=∃vs:List Value,v= .agg vs.toArray∧dR L w vs cs
def kD.aO {L:List Nat} {w w':World} {v:Value} {cs:List C} (h:kD L w v cs) (k:ak L w w'):kD L w' v cs:=
 let⟨vs,e,h⟩:=h;⟨vs,e,h.aO k⟩
def kD.fresh {L L':List Nat} {w:World} {v:Value} {cs:List C} (h:kD L w v cs) (hL:∀x,x∈L'->x∈L∨w.heap.size<=x):kD L' w v cs:=
 let⟨vs,e,h⟩:=h;⟨vs,e,h.fresh hL⟩
def iS (w:World) (b off:Nat) (vs:List Value):Prop:=∀(j:Nat) (v:Value),vs[j]?=some v->w.cell? ⟨b,off+j,none⟩=some v
def rN {L:List Nat} {w:World} {v:Value} {size:Nat} {rows:List (List C)} (h:cF L w v (.sl size rows)):∃a cap,v= .slice a rows.length cap∧rows.length<=cap:=by
 cases h with
 |nil a c s=>exact⟨a,c,rfl,Nat.zero_le _⟩
 |sl b off len cap size rows f hl hc=>exact⟨_,cap,by rw[hl],om⟩
def yX {L:List Nat} {w:World} {a:Option Addr} {len cap size:Nat} {rows:List (List C)} (h:cF L w (.slice a len cap) (.sl size rows)) {i:Nat} {row:List C} (hi:rows[i]?=some row):
  ∃b off vs,a=some ⟨b,off,none⟩∧b<w.heap.size∧b∉L∧vs.length=size∧iS w b (off+i*size) vs∧dR L w vs row:=by
 cases h with
 |nil=>simp at hi
 |sl b off len cap size rows f hl hc hb hL hs kL jo=>
  have mJ:i<rows.length:=(List.getElem?_eq_some_iff.1 hi).1
  have iZ:row.length=size:=hs row (List.mem_of_getElem? hi)
  refine⟨b,off,(List.range size).map (f i),rfl,hb,hL,sm,λj v hj=>?_,dR.of (by simp[iZ]) λj v c hv pG=>?_⟩
  ·have xq:j<size:=by have:=(List.getElem?_eq_some_iff.1 hj).1;simpa using this
   have e:f i j=v:=by simpa[List.getElem?_map,xq] using hj
   rw[<-e];exact kL i j om xq
  ·have xq:j<size:=by have:=(List.getElem?_eq_some_iff.1 hv).1;simpa using this
   have e:f i j=v:=by simpa[List.getElem?_map,xq] using hv
   rw[<-e];exact jo i j row c hi pG
def WL {L:List Nat} {w:World} (b off cap size:Nat) (rows:List (List C)) (vss:List (List Value)) (hlen:vss.length=rows.length) (hc:rows.length<=cap) (hb:b<w.heap.size) (hL:b∉L)
  (hs:∀row,row∈rows->row.length=size)
  (kL:∀(i:Nat) (vs:List Value),vss[i]?=some vs->iS w b (off+i*size) vs)
  (jo:∀(i:Nat) (vs:List Value) (row:List C),vss[i]?=some vs->rows[i]?=some row->dR L w vs row):cF L w (.slice (some ⟨b,off,none⟩) rows.length cap) (.sl size rows):=by
 refine .sl b off rows.length cap size rows (λi j=>(vss.getD i []).getD j undef) rfl hc hb hL hs (λi j hi hj=>?_) (λi j row c hi hj=>?_)
 ·obtain⟨vs,bo⟩:∃vs,vss[i]?=some vs:=⟨vss[i]'om,gE om⟩
  obtain⟨row,iZ⟩:∃row,rows[i]?=some row:=⟨rows[i]'hi,gE hi⟩
  have hl:=(jo i vs row bo iZ).length
  rw[hs row (List.mem_of_getElem? iZ)] at hl
  have hv:vs[j]?=some vs[j]:=gE om
  have:=kL i vs bo j _ hv
  rw[this]
  simp[gG,bo,hv]
 ·obtain⟨vs,bo⟩:∃vs,vss[i]?=some vs:=⟨vss[i]'(by have:=(List.getElem?_eq_some_iff.1 hi).1;omega),gE (by have:=(List.getElem?_eq_some_iff.1 hi).1;omega)⟩
  have hr:=jo i vs row bo hi
  have hl:=hr.length
  have vW:=(List.getElem?_eq_some_iff.1 hj).1
  have hv:vs[j]?=some vs[j]:=gE om
  have:=hr.get hv hj
  simpa[gG,bo,hv] using this
def WM {L:List Nat} {w:World} {b off len cap size:Nat} {rows:List (List C)} (h:cF L w (.slice (some ⟨b,off,none⟩) len cap) (.sl size rows)) (i:Nat) (hi:i<=len) (a:Option Addr)
  (ha:i<cap->a=some ⟨b,off+i*size,none⟩) (WN:i=cap->a=some ⟨b,off,none⟩):cF L w (.slice a (len-i) (cap-i)) (.sl size (rows.drop i)):=by
 cases h with
 |nil=>rw[List.drop_nil,show i=0 from by omega];exact .nil _ _ _
 |sl b off len cap size rows f hl hc hb hL hs kL jo=>
  by_cases WO:i<cap
  ·rw[ha WO]
   refine .sl b (off+i*size) (len-i) (cap-i) size (rows.drop i) (λk j=>f (i+k) j) (by simp[hl]) om hb hL (λrow hr=>hs row (List.mem_of_mem_drop hr)) (λk j hk hj=>?_) (λk j row c hk hj=>?_)
   ·have:=kL (i+k) j om hj
    rw[<-this];congr 2;rw[Nat.add_mul];omega
   ·exact jo (i+k) j row c (by simpa using hk) hj
  ·have:i=cap:=by omega
   subst this
   rw[WN rfl]
   have WQ:len=i:=by omega
   have hr:rows.drop i=[]:=by apply List.drop_of_length_le;omega
   rw[hr]
   have:=cF.sl (L:=L) (w:=w) b off 0 0 size [] f rfl (lR _) hb hL sm om sm
   simpa[WQ] using this
def jZ (w:World) (T:TypeId) (sz:Nat) (v:Value) (g:Option Nat) (n:Nat) (xs:List Value):Prop:=
 xs.length=n*sz∧
 ((v= .slice none 0 0∧n=0∧g=none)∨
  ∃b cap cur,g=some b∧v= .slice (some ⟨b,0,none⟩) n cap∧aY w b cur T∧n<=cap∧cap<=maxLen∧cur.size=cap*sz∧cur.toList.take (n*sz)=xs)
def jZ.nil (w:World) (T:TypeId) (sz:Nat):jZ w T sz (.slice none 0 0) none 0 []:=⟨by simp,.inl ⟨rfl,rfl,rfl⟩⟩
def jZ.aO {w w':World} {T:TypeId} {sz:Nat} {v:Value} {g:Option Nat} {n:Nat} {xs:List Value} {L:List Nat} (h:jZ w T sz v g n xs) (k:ak L w w') (hg:∀b,g=some b->b∉L):jZ w' T sz v g n xs:=by
 refine⟨h.1,?_⟩
 rcases h.2 with h|⟨b,cap,cur,e,hv,hb,r⟩
 ·exact .inl h
 ·exact .inr ⟨b,cap,cur,e,hv,hb.aO k (hg b e),r⟩
def jZ.lt {w:World} {T:TypeId} {sz:Nat} {v:Value} {g:Option Nat} {n:Nat} {xs:List Value} (h:jZ w T sz v g n xs):∀b,g=some b->b<w.heap.size:=by
 intro b e
 rcases h.2 with⟨_,_,h⟩|⟨b',cap,cur,e',hv,hb,r⟩
 ·rw[e] at h;cases h
 ·rw[e] at e';cases e';exact hb.lt
def jZ.len {w:World} {T:TypeId} {sz:Nat} {v:Value} {g:Option Nat} {n:Nat} {xs:List Value} (h:jZ w T sz v g n xs):∃a cap,v= .slice a n cap:=by
 rcases h.2 with⟨rfl,rfl,_⟩|⟨b',cap,cur,e',rfl,hb,r⟩<;>exact⟨_,_,rfl⟩
section
variable {P:Program} {w:World}
def Pp {t ty T:TypeId} {i:TypeInfo} {z:Value} {sz bytes:Nat} (ht:P.underlying t=some (.slice T)) (hi:P.info? T=some i) (hz:i.zero=some z)
  (Bc:i.size=sz) (ij:i.bytes=bytes) (xr:z.cells.size=sz)
  {v:Value} {g:Option Nat} {n:Nat} {xs:List Value} (ey:jZ w T sz v g n xs)
  (ab aoff m c:Nat) (news:List Value) (hl:news.length=m*sz) (Bd:iS w ab aoff news) (h1:∀u∈news,u.oneCell'=true) (hm:0<m)
  (yY:n+m<=maxLen) (xu:(n+m)*bytes<=140737488355328):
  ∃v' g' w',(Builtin.append_ #[t,t] ty #[v,.slice (some ⟨ab,aoff,none⟩) m c]).run P w= .ok v' w'∧jZ w' T sz v' g' (n+m) (xs++news)∧ak g.toList w w'∧
   (g'=g∨g'=some w.heap.size):=by
 subst Bc
 subst ij
 have Hv:n+m<=9223372036854775807:=by simp only[maxLen] at yY;omega
 have hlen:(xs++news).length=(n+m)*i.size:=by rw[lA,ey.1,hl,Nat.add_mul]
 have vX:∀b o j:Nat,(⟨b,o,none⟩:Addr).add j=⟨b,o+j,none⟩:=λb o j=>by unfold Addr.add;split<;>simp_all
 have uz:∀j u,news[j]?=some u->w.cell? ((⟨ab,aoff,none⟩:Addr).add j)=some u:=λj u hu=>by rw[vX];exact Bd j u hu
 have grown:∀(old:Nat),old<n+m->
   jZ (w.drew.alloc (.cells (xs.toArray++news.toArray++Builtin.zeroCells z.cells (grownCap w (n+m) old T-(n+m))) T)) T i.size
    (.slice (some ⟨w.heap.size,0,none⟩) (n+m) (grownCap w (n+m) old T)) (some w.heap.size) (n+m) (xs++news)∧
   ak g.toList w (w.drew.alloc (.cells (xs.toArray++news.toArray++Builtin.zeroCells z.cells (grownCap w (n+m) old T-(n+m))) T)):=by
  intro old ho
  have rO:=grownCap_ge w (n+m) old T
  have mL:grownCap w (n+m) old T<=maxLen:=grownCap_le_maxLen w (n+m) old T yY
  refine⟨⟨hlen,.inr ⟨w.heap.size,_,_,rfl,rfl,heap_alloc_new w.drew _,rO,mL,?_,?_⟩⟩,⟨rfl,rfl,rfl,sm,λk hk _=>heap_alloc_old w.drew _ k hk⟩⟩
  ·simp only[Array.size_append,List.size_toArray,size_zeroCells,xr,ey.1,hl,<-Nat.add_mul]
   congr 1
   omega
  ·simp only[Array.toList_append,List.append_assoc]
   rw[<-List.append_assoc,<-hlen]
   exact List.take_left
 rcases ey.2 with⟨rfl,rfl,rfl⟩|⟨b,cap,cur,rfl,rfl,hb,nM,mL,cL,tn⟩
 ·have hx:xs=[]:=List.eq_nil_of_length_eq_zero (by simpa using ey.1)
  subst hx
  have hr:=run_append_nil (P:=P) w t ty T i z ht hi hz ⟨ab,aoff,none⟩ m c news hl uz hm om (by have hb:=xu;simp only[Nat.zero_add] at hb;omega)
  have lF:=grown 0 om
  simp only[Nat.zero_add,List.nil_append,Array.empty_append] at lF⊢
  exact⟨_,_,_,hr,lF.1,lF.2,.inr rfl⟩
 ·by_cases su:n+m<=cap
  ·have lE:n*i.size+news.length<=cur.size:=by rw[hl,cL,<-Nat.add_mul];exact Nat.mul_le_mul_right _ su
   have hr:=run_append_room (P:=P) w t ty T i ht hi b n cap cur hb ⟨ab,aoff,none⟩ m c news hl uz h1 su lE
   refine⟨_,some b,_,hr,⟨hlen,.inr ⟨b,cap,_,rfl,rfl,setRow_heap w b cur _ T _ hb,su,mL,?_,?_⟩⟩,⟨rfl,rfl,rfl,sm,λk _ hk=>setRow_other w b k _ (by simpa using hk)⟩,.inl rfl⟩
   ·simp only[List.size_toArray,lA,List.length_take,List.length_drop,Array.length_toList]
    omega
   ·rw[tn,<-hlen]
    exact List.take_left
  ·have holds:∀j u,xs[j]?=some u->w.cell? ((⟨b,0,none⟩:Addr).add j)=some u:=λj u hu=>by
    rw[vX,hb.cell]
    rw[<-tn,List.getElem?_take] at hu
    split at hu
    ·simpa using hu
    ·cases hu
   have hr:=run_append_grow (P:=P) w t ty T i z ht hi hz ⟨b,0,none⟩ n cap xs ey.1 holds ⟨ab,aoff,none⟩ m c news hl uz om om (growslice_fits om xu)
   have lF:=grown cap om
   exact⟨_,_,_,hr,lF.1,lF.2,.inr rfl⟩
end
structure ik (L:List Nat) (w:World) (T:TypeId) (sz:Nat) (v:Value) (g:Option Nat) (rows:List (List C)) (xs:List Value):Prop where
 own:jZ w T sz v g rows.length xs
 rep:dR (g.toList++L) w xs rows.flatten
 row:∀row,row∈rows->row.length=sz
 out:∀b,g=some b->b∉L
def ik.nil (L:List Nat) (w:World) (T:TypeId) (sz:Nat):ik L w T sz (.slice none 0 0) none [] []:=
 ⟨jZ.nil _ _ _,trivial,sm,sm⟩
def ik.aO {L L':List Nat} {w w':World} {T:TypeId} {sz:Nat} {v:Value} {g:Option Nat} {rows:List (List C)} {xs:List Value} (h:ik L w T sz v g rows xs) (k:ak L' w w')
  (hL:∀x,x∈L'->x∈L):ik L w' T sz v g rows xs:=
 ⟨h.own.aO k (λb e hx=>h.out b e (hL b hx)),h.rep.aO (k.mono λx hx=>by simp[hL x hx]),h.row,h.out⟩
def ik.more {L L':List Nat} {w:World} {T:TypeId} {sz:Nat} {v:Value} {g:Option Nat} {rows:List (List C)} {xs:List Value} (h:ik L w T sz v g rows xs)
  (hL:∀x,x∈L'->x∈L∨w.heap.size<=x):ik L' w T sz v g rows xs:=
 ⟨h.own,h.rep.fresh (λx hx=>by
   rcases mA.1 hx with hx|hx
   ·exact .inl (by simp[hx])
   ·rcases hL x hx with h1|h1
    ·exact .inl (by simp[h1])
    ·exact .inr h1),h.row,λb e hx=>by rcases hL b hx with h1|h1;exact h.out b e h1;have:=h.own.lt b e;omega⟩
def ik.len {L:List Nat} {w:World} {T:TypeId} {sz:Nat} {v:Value} {g:Option Nat} {rows:List (List C)} {xs:List Value} (h:ik L w T sz v g rows xs):∃a cap,v= .slice a rows.length cap:=h.own.len
def EH {α:Type} {sz:Nat}:∀{rows:List (List α)},(∀row,row∈rows->row.length=sz)->∀{i j:Nat} {row:List α} {c:α},rows[i]?=some row->row[j]?=some c->rows.flatten[i*sz+j]?=some c
 |r::rows,h,0,j,row,c,hi,hj=>by
  simp only[List.getElem?_cons_zero,Option.some.injEq] at hi
  subst hi
  simp only[List.flatten_cons,Nat.zero_mul,Nat.zero_add]
  rw[List.getElem?_append_left (List.getElem?_eq_some_iff.1 hj).1];exact hj
 |r::rows,h,i+1,j,row,c,hi,hj=>by
  have hr:r.length=sz:=h r sm
  have:=EH (rows:=rows) (λrow hr=>h row (by simp[hr])) (i:=i) (by simpa using hi) hj
  rw[List.flatten_cons,List.getElem?_append_right (by rw[hr,Nat.add_mul];omega),hr]
  rw[<-this];congr 1;rw[Nat.add_mul];omega
def Pq {α:Type} {sz:Nat}:∀{rows:List (List α)},(∀row,row∈rows->row.length=sz)->rows.flatten.length=rows.length*sz
 |[],_=>by simp
 |r::rows,h=>by
  rw[List.flatten_cons,lA,h r sm,Pq (λrow hr=>h row (by simp[hr])),lC,Nat.add_mul];omega
def ik.done {L:List Nat} {w:World} {T:TypeId} {sz:Nat} {v:Value} {g:Option Nat} {rows:List (List C)} {xs:List Value} (h:ik L w T sz v g rows xs):cF L w v (.sl sz rows):=by
 have jo:=h.rep.fresh (L':=L) (λx hx=>.inl (by simp[hx]))
 rcases h.own.2 with⟨rfl,hn,_⟩|⟨b,cap,cur,e,rfl,hb,nM,mL,cL,tn⟩
 ·rw[List.length_eq_zero_iff.1 hn];exact .nil _ _ _
 ·have mM:=h.own.1
  refine .sl b 0 rows.length cap sz rows (λi j=>xs.getD (i*sz+j) undef) rfl nM hb.lt (h.out b e) h.row (λi j hi hj=>?_) (λi j row c hi hj=>?_)
  ·have eW:i*sz+j<xs.length:=by
    rw[mM]
    have:(i+1)*sz<=rows.length*sz:=Nat.mul_le_mul_right _ hi
    rw[Nat.add_mul] at this;omega
   rw[Nat.zero_add,hb.cell,gG,gE eW]
   simp only[Option.getD_some]
   have h2:xs[i*sz+j]?=some xs[i*sz+j]:=gE eW
   rw[<-h2,<-tn,List.getElem?_take,iP (by rw[<-mM];exact eW)]
   simp
  ·have hf:=EH h.row hi hj
   have eW:i*sz+j<xs.length:=by rw[jo.length];exact(List.getElem?_eq_some_iff.1 hf).1
   have h2:xs[i*sz+j]?=some xs[i*sz+j]:=gE eW
   have:=jo.get h2 hf
   rw[gG,h2];exact this
def ik.app {P:Program} {L:List Nat} {w:World} {t ty T:TypeId} {i:TypeInfo} {z:Value} {sz bytes:Nat} (ht:P.underlying t=some (.slice T)) (hi:P.info? T=some i) (hz:i.zero=some z)
  (Bc:i.size=sz) (ij:i.bytes=bytes) (xr:z.cells.size=sz)
  {v:Value} {g:Option Nat} {rows:List (List C)} {xs:List Value} (h:ik L w T sz v g rows xs)
  (ab aoff m c:Nat) (new:List (List C)) (news:List Value) (hm:new.length=m) (tq:0<m) (iZ:∀row,row∈new->row.length=sz) (Bd:iS w ab aoff news) (h1:∀u∈news,u.oneCell'=true)
  (hr:dR (g.toList++L) w news new.flatten) (hL:∀x,x∈L->x<w.heap.size)
  (hb:(rows.length+m)*(bytes+1)<=140737488355328):
  ∃v' g' w',(Builtin.append_ #[t,t] ty #[v,.slice (some ⟨ab,aoff,none⟩) m c]).run P w= .ok v' w'∧ik L w' T sz v' g' (rows++new) (xs++news)∧ak g.toList w w'∧
   (g'=g∨g'=some w.heap.size):=by
 have oX:news.length=m*sz:=by rw[hr.length,Pq iZ,hm]
 have aT:(rows.length+m)*bytes+(rows.length+m)<=140737488355328:=by rw[Nat.mul_add,Nat.mul_one] at hb;exact hb
 obtain⟨v',g',w',kn,ey,hk,hg⟩:=Pp (P:=P) (w:=w) (ty:=ty) ht hi hz Bc ij xr h.own ab aoff m c news oX Bd h1 tq (by unfold maxLen;omega) om
 refine⟨v',g',w',kn,⟨by rw[lA,hm];exact ey,?_,?_,?_⟩,hk,hg⟩
 ·have h2:=(h.rep.append hr).aO (hk.mono (L':=g.toList++L) λx hx=>by simp[hx])
  rw[List.flatten_append]
  have h3:dR (g.toList++L) w (xs++news) (rows.flatten++new.flatten):=h.rep.append hr
  rcases hg with rfl|rfl
  ·exact h2
  ·exact(h3.fresh (L':=(some w.heap.size).toList++(g.toList++L)) (λx hx=>by
    rcases mA.1 hx with hx|hx
    ·right;simp at hx;omega
    ·exact .inl hx)).aO (hk.mono λx hx=>by simp[hx]) |>.fresh (λx hx=>.inl (by
    rcases mA.1 hx with hx|hx
    ·exact List.mem_append_left _ hx
    ·exact mR _ (mR _ hx)))
 ·intro row hx
  rcases mA.1 hx with hx|hx
  ·exact h.row row hx
  ·exact iZ row hx
 ·intro b e hx
  rcases hg with rfl|rfl
  ·exact h.out b e hx
  ·have:=hL b hx
   simp at e;omega
def gate (ops:Array Oper) (e:Env):Option (Nat×Bool)->Bool
 |none=>true
 |some (j,want)=>match(ops.toList[j]?).bind (·.dst) with
  |some t=>match e t with
   | .bool b=>b==want
   |_=>false
  |none=>false
def EI {n:Nat} {ops:Array Oper} {e:Env} {a:Act} (h:Fits n e a) (o:Oper):Region.wanted o (yielded ops a.tmps)=gate ops e o.guard:=by
 unfold Region.wanted gate
 cases hg:o.guard with
 |none=>rfl
 |some p=>
  obtain⟨j,want⟩:=p
  simp only[yielded]
  have hj:ops.toList[j]?=ops[j]?:=by simp
  rw[hj]
  cases hd:(ops[j]?).bind (·.dst) with
  |none=>cases want<;>rfl
  |some t=>
   simp only[bS]
   have jH:=h.get t
   rw[Array.getD_eq_getD_getElem?] at jH
   cases hx:a.tmps[t]? with
   |none=>
    rw[hx] at jH
    simp only[Option.getD_none] at jH
    rw[<-jH]
    cases want<;>simp[undef]
   |some v=>
    rw[hx] at jH
    simp only[Option.getD_some] at jH
    rw[<-jH]
    cases v<;>cases want<;>first|rfl|(rename_i b;cases b<;>rfl)
section
variable {P:Program} {n:Nat} {ops:Array Oper} {K:Env->World->Prop} {rest:List Oper} {e:Env} {w w':World}
 {dst:Option Nat} {ty:TypeId} {pos:String} {after:Array Edge} {g:Option (Nat×Bool)}
def ag (h:K e w):OW P n ops K [] e w:=λ_ ha _=>⟨e,ha,h⟩
def fT {op:Op} {v:Value} (hg:gate ops e g=true) (hd:dy n dst=true) (kn:(execOp (ev e) ⟨dst,op,ty,pos,after,g⟩).run P w= .ok (.value v) w')
  (k:OW P n ops K rest (cQ e dst v) w'):OW P n ops K (⟨dst,op,ty,pos,after,g⟩::rest) e w:=λa ha Q=>by
 unfold wpList
 rw[iP (by rw[EI ha];exact hg)]
 refine .inl ?_
 unfold Oper.wp
 rw[ha.eval,kn,Oper.upon_value]
 exact k _ (ha.cQ hd v) Q
def Hw {op:Op} (hg:gate ops e g=true) (kn:(execOp (ev e) ⟨none,op,ty,pos,after,g⟩).run P w= .ok .skip w')
  (k:OW P n ops K rest e w'):OW P n ops K (⟨none,op,ty,pos,after,g⟩::rest) e w:=λa ha Q=>by
 unfold wpList
 rw[iP (by rw[EI ha];exact hg)]
 refine .inl ?_
 unfold Oper.wp
 rw[ha.eval,kn,Oper.upon_skip]
 exact k _ (ha.cQ (d:=none) rfl undef) Q
def Kc {op:Op} (hg:gate ops e g=false) (hd:dy n dst=true) (k:OW P n ops K rest (cQ e dst undef) w):OW P n ops K (⟨dst,op,ty,pos,after,g⟩::rest) e w:=λa ha Q=>by
 unfold wpList
 rw[iN (by rw[EI ha];simp[hg])]
 exact k _ (ha.cQ hd undef) Q
def dv {op:Op} (k:OW P n ops K rest (cQ e dst undef) w) (hg:gate ops e g=false:=by rfl) (hd:dy n dst=true:=by rfl):OW P n ops K (⟨dst,op,ty,pos,after,g⟩::rest) e w:=Kc hg hd k
def Pr {f:FuncId} {args:List Value} (h:tm P f):(callFunc f args.toArray).run P w= .ok (.enter f args.toArray) w:=by
 obtain⟨fn,hf,hb,hn⟩:=h
 have C3:¬fn.name= "runtime.NumGoroutine":=by simpa using hn
 have gX:¬fn.body=none:=by intro h;simp[h] at hb
 simp[callFunc,hf,gX,C3]
def WR {f:FuncId} {xs:List Operand} {ats:Array TypeId} {S:Value->World->Prop} (hg:gate ops e g=true) (hd:dy n dst=true) (h:ck P f (xs.map (ev e)) w S)
  (k:∀v w',S v w'->OW P n ops K rest (cQ e dst v) w'):OW P n ops K (⟨dst,.call {callee:=.value (.func f),args:=xs.toArray,argTypes:=ats},ty,pos,after,g⟩::rest) e w:=λa ha Q=>by
 unfold wpList
 rw[iP (by rw[EI ha];exact hg)]
 refine .inl ?_
 unfold Oper.wp
 have kn:(execOp (ev e) ⟨dst,.call {callee:=.value (.func f),args:=xs.toArray,argTypes:=ats},ty,pos,after,g⟩).run P w= .ok (.enter f (xs.map (ev e)).toArray) w:=by
  simp only[execOp,resolve,ev,Deferred.ofValue,Sem.run_bind,Sem.run_pure,Result.andThen_ok,invoke]
  simp[Pr h.1]
 rw[ha.eval,kn,Oper.upon_enter]
 exact Calls.mono h.2 λx w' ⟨v,hx,hs⟩=>by subst hx;exact k v w' hs _ (ha.cQ hd v) Q
def aC {f:FuncId} {xs:List Operand} {ats:Array TypeId} {S:Value->World->Prop} (h:ck P f (xs.map (ev e)) w S) (k:∀v w',S v w'->OW P n ops K rest (cQ e dst v) w') (hg:gate ops e g=true:=by rfl) (hd:dy n dst=true:=by rfl):OW P n ops K (⟨dst,.call {callee:=.value (.func f),args:=xs.toArray,argTypes:=ats},ty,pos,after,g⟩::rest) e w:=WR hg hd h k
def WS {x:Operand} (hg:gate ops e g=true) (hd:dy n dst=true) (k:OW P n ops K rest (cQ e dst (ev e x)) w):OW P n ops K (⟨dst,.move x,ty,pos,after,g⟩::rest) e w:=
 fT hg hd (by simp[execOp]) k
def WT {x:Operand} (hg:gate ops e g=true) (hd:dy n dst=true) (k:OW P n ops K rest (cQ e dst (ev e x)) w):OW P n ops K (⟨dst,.assign x,ty,pos,after,g⟩::rest) e w:=
 fT hg hd (by simp[execOp]) k
def WU {c x y:Operand} {t:Bool} (hg:gate ops e g=true) (hd:dy n dst=true) (hc:ev e c= .bool t) (k:OW P n ops K rest (cQ e dst (bif t then ev e x else ev e y)) w):
  OW P n ops K (⟨dst,.pick c x y,ty,pos,after,g⟩::rest) e w:=
 fT hg hd (by cases t<;>simp[execOp,hc,asBool]) k
def WV {x:Operand} {a:Addr} (hg:gate ops e g=true) (hd:dy n dst=true) (hx:ev e x= .pointer (some a)) (k:OW P n ops K rest (cQ e dst (.pointer (some a))) w):
  OW P n ops K (⟨dst,.nilCheck x,ty,pos,after,g⟩::rest) e w:=
 fT hg hd (by simp[execOp,hx]) k
def dk {x:Operand} {a:Addr} (hx:ev e x= .pointer (some a)) (k:OW P n ops K rest (cQ e dst (.pointer (some a))) w) (hg:gate ops e g=true:=by rfl) (hd:dy n dst=true:=by rfl):OW P n ops K (⟨dst,.nilCheck x,ty,pos,after,g⟩::rest) e w:=WV hg hd hx k
/-! ### sv blocks -/
def Ps {T:TypeId} {x:Operand} {cs:Array Value} (hg:gate ops e g=true) (hd:dy n dst=true) (hx:(ev e x).cells=cs)
  (k:∀w',ak [] w w'->aY w' w.heap.size cs T->w'.heap.size=w.heap.size+1->OW P n ops K rest (cQ e dst (.pointer (some ⟨w.heap.size,0,none⟩))) w'):
  OW P n ops K (⟨dst,.box T x,ty,pos,after,g⟩::rest) e w:=
 fT hg hd (w':=w.alloc (.cells cs T)) (by simp[execOp,Instr.box,newVar,newRow,hx]) (k _ (ak.alloc _ _ _) (aY.alloc _ _ _) sm)
def TI (P:Program) (T:TypeId) (sz bytes:Nat) (z:Value):Prop:=(P.info? T).map (λi=>(i.zero,i.size,i.bytes))=some (some z,sz,bytes)
def TI.get {T:TypeId} {sz bytes:Nat} {z:Value} (h:TI P T sz bytes z):∃i,P.info? T=some i∧i.zero=some z∧i.size=sz∧i.bytes=bytes:=by
 unfold TI at h
 cases hi:P.info? T with
 |none=>simp[hi] at h
 |some i=>simp[hi] at h;exact⟨i,rfl,h.1,h.2.1,h.2.2⟩
def TI.tt {T:TypeId} {sz bytes:Nat} {z:Value} (h:TI P T sz bytes z) (w:World):(sizeOf T).run P w= .ok sz w:=by
 obtain⟨i,hi,hz,hs,hb⟩:=h.get
 simp[sizeOf,typeInfo,hi,hs]
def TI.Kd {T:TypeId} {sz bytes:Nat} {z:Value} (h:TI P T sz bytes z) (w:World):(zeroValue T).run P w= .ok z w:=by
 obtain⟨i,hi,hz,hs,hb⟩:=h.get
 simp[zeroValue,typeInfo,hi,hz]
def WW {T:TypeId} {sz bytes:Nat} {z:Value} {cs:Array Value} (hT:TI P T sz bytes z) (hg:gate ops e g=true) (hd:dy n dst=true) (hx:z.cells=cs)
  (k:∀w',ak [] w w'->aY w' w.heap.size cs T->w'.heap.size=w.heap.size+1->OW P n ops K rest (cQ e dst (.pointer (some ⟨w.heap.size,0,none⟩))) w'):
  OW P n ops K (⟨dst,.alloc T,ty,pos,after,g⟩::rest) e w:=
 fT hg hd (w':=w.alloc (.cells cs T)) (by simp[execOp,Instr.alloc,hT.Kd,newVar,newRow,hx]) (k _ (ak.alloc _ _ _) (aY.alloc _ _ _) sm)
/-! ### Addresses,loads,stores -/
def qP (P:Program) (T:TypeId):Bool:=match P.underlying T with
 |some (.struct _)|some (.array _ _)|none=>false
 |_=>true
def WX {T:TypeId} (h:qP P T=true) (w:World):(isAgg T).run P w= .ok false w:=by
 unfold qP at h
 cases hu:P.underlying T with
 |none=>simp[hu] at h
 |some d=>cases d<;>simp[hu] at h<;>simp[isAgg,underlying,hu]
def tu (P:Program) (T:TypeId):Bool:=match P.underlying T with
 |some (.struct _)|some (.array _ _)=>true
 |_=>false
def Pt {T:TypeId} (h:tu P T=true) (w:World):(isAgg T).run P w= .ok true w:=by
 unfold tu at h
 cases hu:P.underlying T with
 |none=>simp[hu] at h
 |some d=>cases d<;>simp[hu] at h<;>simp[isAgg,underlying,hu]
def vY (b o j:Nat):(⟨b,o,none⟩:Addr).add j=⟨b,o+j,none⟩:=by unfold Addr.add;split<;>simp_all
def WY {T:TypeId} {x:Operand} {a:Addr} {v:Value} (hT:qP P T=true) (hg:gate ops e g=true) (hd:dy n dst=true) (hx:ev e x= .pointer (some a)) (hc:w.cell? a=some v)
  (k:OW P n ops K rest (cQ e dst v) w):OW P n ops K (⟨dst,.load T x,ty,pos,after,g⟩::rest) e w:=
 fT hg hd (by simp[execOp,Instr.loadAt,Instr.sureAddr,hx,loadVar,WX hT,hc]) k
def WZ {T:TypeId} {sz bytes:Nat} {z:Value} {x:Operand} {b o:Nat} {vs:List Value} (hT:tu P T=true) (kM:TI P T sz bytes z) (hg:gate ops e g=true) (hd:dy n dst=true)
  (hx:ev e x= .pointer (some ⟨b,o,none⟩)) (hc:iS w b o vs) (hl:vs.length=sz)
  (k:OW P n ops K rest (cQ e dst (.agg vs.toArray)) w):OW P n ops K (⟨dst,.load T x,ty,pos,after,g⟩::rest) e w:=
 fT hg hd (by
  have:=run_loadCells_list (P:=P) w ⟨b,o,none⟩ vs (λj v hv=>by rw[vY];exact hc j v hv)
  rw[hl] at this
  simp[execOp,Instr.loadAt,Instr.sureAddr,hx,loadVar,Pt hT,kM.tt,this]) k
def W0 {b o:Nat} {v u:Value} (h1:v.oneCell'=true) (hc:w.cell? ⟨b,o,none⟩=some u) (hf:w.frozen? ⟨b,o,none⟩=false):(storeCells ⟨b,o,none⟩ [v]).run P w= .ok () (w.setCell ⟨b,o,none⟩ v):=by
 simp[storeCells,vY,run_store P w _ v _ h1,hc,hf]
def Ke {T:TypeId} {sz bytes:Nat} {z:Value} {x y:Operand} {b o:Nat} {v:Value} {cs:Array Value} {U:TypeId} (kM:TI P T sz bytes z) (iY:sz=1) (hg:gate ops e g=true)
  (hx:ev e x= .pointer (some ⟨b,o,none⟩)) (hy:ev e y=v) (h1:v.oneCell'=true) (hb:aY w b cs U) (ho:o<cs.size)
  (k:∀w',ak [b] w w'->aY w' b (cs.setIfInBounds o v) U->w'.heap.size=w.heap.size->OW P n ops K rest e w'):OW P n ops K (⟨none,.store T x y,ty,pos,after,g⟩::rest) e w:=
 Hw hg (w':=w.setCell ⟨b,o,none⟩ v) (by
  have hc:v.cells=#[v]:=by cases v<;>first|rfl|(simp[Value.oneCell'] at h1)
  have hs:=W0 (P:=P) (w:=w) (b:=b) (o:=o) (v:=v) (u:=cs[o]) h1 (by rw[hb.cell,Array.getElem?_eq_getElem ho]) (hb.frozen o)
  subst iY
  simp[execOp,Instr.storeAt,Instr.sureAddr,hx,hy,storeVar,hc,kM.tt,hs]) (k _ (ak.setCell _ _ _ _) (hb.set o v) (by simp[World.setCell]))
def Pu:∀(vs:List Value) (i:Nat) (pre:List Value) (w:World) (b:Nat) (U:TypeId) (cs:Array Value),aY w b cs U->cs.size=pre.length+vs.length->i=pre.length->cs.toList.take i=pre->(∀u∈vs,u.oneCell'=true)->
  ∃w',(storeCells ⟨b,0,none⟩ vs i).run P w= .ok () w'∧ak [b] w w'∧aY w' b (pre++vs).toArray U∧w'.heap.size=w.heap.size
 |[],i,pre,w,b,U,cs,hb,hs,hi,ht,_=>by
  refine⟨w,rfl,ak.refl _ _,?_,rfl⟩
  have:cs=(pre++[]).toArray:=by
   apply Array.ext'
   simp only[List.append_nil] at*
   rw[<-ht,List.take_of_length_le (by simp;simp at hs;omega)]
  rw[<-this];exact hb
 |v::vs,i,pre,w,b,U,cs,hb,hs,hi,ht,h1=>by
  have mJ:i<cs.size:=by simp at hs;omega
  have bg:(store ((⟨b,0,none⟩:Addr).add i) v).run P w= .ok () (w.setCell ⟨b,i,none⟩ v):=by
   rw[vY,Nat.zero_add,run_store P w _ v _ (h1 v sm),hb.cell,Array.getElem?_eq_getElem mJ,hb.frozen]
   simp
  obtain⟨w',hr,hk,gX,hz⟩:=Pu vs (i+1) (pre++[v]) (w.setCell ⟨b,i,none⟩ v) b U (cs.setIfInBounds i v) (hb.set i v) (by simp at hs⊢;omega) so
   (by
    rw[Array.toList_setIfInBounds,List.take_add_one,List.getElem?_set_self (by simpa using mJ),List.take_set_of_le (lR i),ht];simp)
   (λu hu=>h1 u (by simp[hu]))
  refine⟨w',?_,(ak.setCell w b i v).trans hk,by simpa using gX,by rw[hz];simp[World.setCell]⟩
  simp only[storeCells,Sem.run_bind,bg,Result.andThen_ok]
  exact hr
def W1 {T:TypeId} {sz bytes:Nat} {z:Value} {x y:Operand} {b:Nat} {vs:List Value} {cs:Array Value} {U:TypeId} (kM:TI P T sz bytes z) (hg:gate ops e g=true)
  (hx:ev e x= .pointer (some ⟨b,0,none⟩)) (hy:ev e y= .agg vs.toArray) (hl:vs.length=sz) (h1:∀u∈vs,u.oneCell'=true) (hb:aY w b cs U) (cL:cs.size=sz)
  (k:∀w',ak [b] w w'->aY w' b vs.toArray U->w'.heap.size=w.heap.size->OW P n ops K rest e w'):OW P n ops K (⟨none,.store T x y,ty,pos,after,g⟩::rest) e w:=by
 obtain⟨w',hr,hk,gX,hz⟩:=Pu (P:=P) vs 0 [] w b U cs hb so rfl sm h1
 exact Hw hg (w':=w') (by
  simp[execOp,Instr.storeAt,Instr.sureAddr,hx,hy,storeVar,Value.cells,kM.tt,hl,hr]) (k _ hk (by simpa using gX) hz)
def iy (P:Program) (S i:Nat):Option Nat:=match P.underlying S with
 |some (.struct fs)=>match fs[i]? with
  |some f=>match P.info? f.type with
   |some t=>if t.size=0 then none else some f.offset
   |none=>none
  |none=>none
 |_=>none
def W2 {S i off b o:Nat} (h:iy P S i=some off):(Instr.fieldAt S (.pointer (some ⟨b,o,none⟩)) i).run P w= .ok (.pointer (some ⟨b,o+off,none⟩)) w:=by
 unfold iy at h
 cases hu:P.underlying S with
 |none=>simp[hu] at h
 |some d=>
  cases d<;>simp[hu] at h
  rename_i fs
  cases hf:fs[i]? with
  |none=>simp[hf] at h
  |some f=>
   simp only[hf] at h
   cases hi:P.info? f.type with
   |none=>simp[hi] at h
   |some t=>
    simp only[hi] at h
    by_cases hz:t.size=0
    ·simp[hz] at h
    ·simp[hz] at h
     simp[Instr.fieldAt,run_underlying hu,hf,Instr.sureAddr,fieldPlace,sizeOf,typeInfo,hi,hz,vY,h]
def W3 {S i off:Nat} {x:Operand} {b o:Nat} (hS:iy P S i=some off) (hg:gate ops e g=true) (hd:dy n dst=true) (hx:ev e x= .pointer (some ⟨b,o,none⟩))
  (k:OW P n ops K rest (cQ e dst (.pointer (some ⟨b,o+off,none⟩))) w):OW P n ops K (⟨dst,.fieldAddr S x i,ty,pos,after,g⟩::rest) e w:=
 fT hg hd (by simp[execOp,hx,W2 hS]) k
def W4 {T E:TypeId} {sz bytes:Nat} {z:Value} {x y:Operand} {b o len cap i:Nat} {ki:IntKind} (hT:P.underlying T=some (.slice E)) (hE:TI P E sz bytes z) (hg:gate ops e g=true) (hd:dy n dst=true)
  (hx:ev e x= .slice (some ⟨b,o,none⟩) len cap) (hy:ev e y= .int ki (i:Int)) (hi:i<len)
  (k:OW P n ops K rest (cQ e dst (.pointer (some ⟨b,o+i*sz,none⟩))) w):OW P n ops K (⟨dst,.indexAddr T x y,ty,pos,after,g⟩::rest) e w:=
 fT hg hd (by
  have h2:¬len<=i:=by omega
  simp[execOp,Instr.indexAt,hx,hy,asIntOf,run_underlying hT,h2,hE.tt,vY]) k
def W5 {T E:TypeId} {x:Operand} {a:Option Addr} {m cap:Nat} (hT:P.underlying T=some (.slice E)) (hg:gate ops e g=true) (hd:dy n dst=true) (hx:ev e x= .slice a m cap)
  (k:OW P n ops K rest (cQ e dst (.int .i64 m)) w):OW P n ops K (⟨dst,.call {callee:=.builtin .len,args:=#[x],argTypes:=#[T]},ty,pos,after,g⟩::rest) e w:=
 fT hg hd (by
  simp[execOp,resolve,invoke,builtin,hx,Builtin.len_,run_underlying hT,goInt]) k
def dZ {T E:TypeId} {x:Operand} {a:Option Addr} {m cap:Nat} (hT:P.underlying T=some (.slice E)) (hx:ev e x= .slice a m cap) (k:OW P n ops K rest (cQ e dst (.int .i64 m)) w) (hg:gate ops e g=true:=by rfl) (hd:dy n dst=true:=by rfl):OW P n ops K (⟨dst,.call {callee:=.builtin .len,args:=#[x],argTypes:=#[T]},ty,pos,after,g⟩::rest) e w:=W5 hT hg hd hx k
def W6 {T:TypeId} {x:Operand} {s:ByteArray} {m:Nat} (hT:P.underlying T=some .string) (hg:gate ops e g=true) (hd:dy n dst=true) (hx:ev e x= .string s) (hm:s.size=m)
  (k:OW P n ops K rest (cQ e dst (.int .i64 m)) w):OW P n ops K (⟨dst,.call {callee:=.builtin .len,args:=#[x],argTypes:=#[T]},ty,pos,after,g⟩::rest) e w:=
 fT hg hd (by
  simp[execOp,resolve,invoke,builtin,hx,Builtin.len_,run_underlying hT,goInt,hm]) k
def W7 {x:Operand} {i:Nat} {vs:List Value} {v:Value} (hg:gate ops e g=true) (hd:dy n dst=true) (hx:ev e x= .tuple vs.toArray) (hi:vs[i]?=some v)
  (k:OW P n ops K rest (cQ e dst v) w):OW P n ops K (⟨dst,.extract x i,ty,pos,after,g⟩::rest) e w:=
 fT hg hd (by simp[execOp,Instr.extract,hx,hi]) k
end
abbrev str (l:List UInt8):Value:=.string ⟨l.toArray⟩
section
variable {P:Program} {n:Nat} {ops:Array Oper} {K:Env->World->Prop} {rest:List Oper} {e:Env} {w w':World}
 {dst:Option Nat} {ty:TypeId} {pos:String} {after:Array Edge} {g:Option (Nat×Bool)} {T T':TypeId} {x y:Operand}
def W8 {k k':IntKind} {a b:Int} (hg:gate ops e g=true) (hd:dy n dst=true) (hx:ev e x= .int k a) (hy:ev e y= .int k' b) (hk:k=k':=by rfl)
  (c:OW P n ops K rest (cQ e dst (.bool (decide (a<b)))) w):OW P n ops K (⟨dst,.binOp .lss T x y T',ty,pos,after,g⟩::rest) e w:=
 fT hg hd (by subst hk;cases k<;>simp[execOp,eqGuard,hx,hy,binOp,Op.intCmp]) c
def fA {k k':IntKind} {a b:Int} (hx:ev e x= .int k a) (hy:ev e y= .int k' b) (hk:k=k':=by rfl) (c:OW P n ops K rest (cQ e dst (.bool (decide (a<b)))) w) (hg:gate ops e g=true:=by rfl) (hd:dy n dst=true:=by rfl):OW P n ops K (⟨dst,.binOp .lss T x y T',ty,pos,after,g⟩::rest) e w:=W8 hg hd hx hy hk c
def qQ {k k':IntKind} {a b:Int} (hg:gate ops e g=true) (hd:dy n dst=true) (hx:ev e x= .int k a) (hy:ev e y= .int k' b) (hk:k=k':=by rfl)
  (c:OW P n ops K rest (cQ e dst (.bool (decide (a<=b)))) w):OW P n ops K (⟨dst,.binOp .leq T x y T',ty,pos,after,g⟩::rest) e w:=
 fT hg hd (by subst hk;cases k<;>simp[execOp,eqGuard,hx,hy,binOp,Op.intCmp]) c
def jz {k k':IntKind} {a b:Int} (hg:gate ops e g=true) (hd:dy n dst=true) (hx:ev e x= .int k a) (hy:ev e y= .int k' b) (hk:k=k':=by rfl)
  (c:OW P n ops K rest (cQ e dst (.bool (decide (b<a)))) w):OW P n ops K (⟨dst,.binOp .gtr T x y T',ty,pos,after,g⟩::rest) e w:=
 fT hg hd (by subst hk;cases k<;>simp[execOp,eqGuard,hx,hy,binOp,Op.intCmp]) c
def l0 {k k':IntKind} {a b:Int} (hg:gate ops e g=true) (hd:dy n dst=true) (hx:ev e x= .int k a) (hy:ev e y= .int k' b) (hk:k=k':=by rfl)
  (c:OW P n ops K rest (cQ e dst (.bool (decide (b<=a)))) w):OW P n ops K (⟨dst,.binOp .geq T x y T',ty,pos,after,g⟩::rest) e w:=
 fT hg hd (by subst hk;cases k<;>simp[execOp,eqGuard,hx,hy,binOp,Op.intCmp]) c
def W9 {k k':IntKind} {a b:Int} (hg:gate ops e g=true) (hd:dy n dst=true) (hx:ev e x= .int k a) (hy:ev e y= .int k' b) (hk:k=k':=by rfl)
  (c:OW P n ops K rest (cQ e dst (.bool (decide (a=b)))) w):OW P n ops K (⟨dst,.binOp .eql T x y T',ty,pos,after,g⟩::rest) e w:=
 fT hg hd (by
  have h:(a==b)=decide (a=b):=by by_cases h:a=b<;>simp[h]
  subst hk;cases k<;>simp[execOp,eqGuard,hx,hy,binOp,Op.intCmp,h]) c
def dQ {k k':IntKind} {a b:Int} (hx:ev e x= .int k a) (hy:ev e y= .int k' b) (hk:k=k':=by rfl) (c:OW P n ops K rest (cQ e dst (.bool (decide (a=b)))) w) (hg:gate ops e g=true:=by rfl) (hd:dy n dst=true:=by rfl):OW P n ops K (⟨dst,.binOp .eql T x y T',ty,pos,after,g⟩::rest) e w:=W9 hg hd hx hy hk c
def uA {k k':IntKind} {a b:Int} (hg:gate ops e g=true) (hd:dy n dst=true) (hx:ev e x= .int k a) (hy:ev e y= .int k' b) (hk:k=k':=by rfl)
  (c:OW P n ops K rest (cQ e dst (.bool (decide (a≠b)))) w):OW P n ops K (⟨dst,.binOp .neq T x y T',ty,pos,after,g⟩::rest) e w:=
 fT hg hd (by
  have h:(a !=b)=decide (a≠b):=by by_cases h:a=b<;>simp[h]
  subst hk;cases k<;>simp[execOp,eqGuard,hx,hy,binOp,Op.intCmp,h]) c
def Xa {k k':IntKind} {a b c:Int} (hg:gate ops e g=true) (hd:dy n dst=true) (hx:ev e x= .int k a) (hy:ev e y= .int k' b) (hk:k=k':=by rfl) (hc:k.wrap (a+b)=c)
  (c':OW P n ops K rest (cQ e dst (.int k c)) w):OW P n ops K (⟨dst,.binOp .add T x y T',ty,pos,after,g⟩::rest) e w:=
 fT hg hd (by subst hk;cases k<;>simp[execOp,eqGuard,hx,hy,binOp,Op.intArith,hc]) c'
def eI {k k':IntKind} {a b c:Int} (hx:ev e x= .int k a) (hy:ev e y= .int k' b) (hk:k=k':=by rfl) (hc:k.wrap (a+b)=c) (c':OW P n ops K rest (cQ e dst (.int k c)) w) (hg:gate ops e g=true:=by rfl) (hd:dy n dst=true:=by rfl):OW P n ops K (⟨dst,.binOp .add T x y T',ty,pos,after,g⟩::rest) e w:=Xa hg hd hx hy hk hc c'
def mN {k k':IntKind} {a b c:Int} (hg:gate ops e g=true) (hd:dy n dst=true) (hx:ev e x= .int k a) (hy:ev e y= .int k' b) (hk:k=k':=by rfl) (hc:k.wrap (a-b)=c)
  (c':OW P n ops K rest (cQ e dst (.int k c)) w):OW P n ops K (⟨dst,.binOp .sub T x y T',ty,pos,after,g⟩::rest) e w:=
 fT hg hd (by subst hk;cases k<;>simp[execOp,eqGuard,hx,hy,binOp,Op.intArith,hc]) c'
def Be {k k':IntKind} {a b c:Int} (hg:gate ops e g=true) (hd:dy n dst=true) (hx:ev e x= .int k a) (hy:ev e y= .int k' b) (hk:k=k':=by rfl) (hc:k.wrap (a*b)=c)
  (c':OW P n ops K rest (cQ e dst (.int k c)) w):OW P n ops K (⟨dst,.binOp .mul T x y T',ty,pos,after,g⟩::rest) e w:=
 fT hg hd (by subst hk;cases k<;>simp[execOp,eqGuard,hx,hy,binOp,Op.intArith,hc]) c'
def Kf {k k':IntKind} {a b:Nat} {c:Int} (hg:gate ops e g=true) (hd:dy n dst=true) (hx:ev e x= .int k (a:Int)) (hy:ev e y= .int k' (b:Int)) (hk:k=k':=by rfl) (hb:0<b) (hc:k.wrap ((a/b:Nat):Int)=c)
  (c':OW P n ops K rest (cQ e dst (.int k c)) w):OW P n ops K (⟨dst,.binOp .quo T x y T',ty,pos,after,g⟩::rest) e w:=
 fT hg hd (by
  have h1:¬b=0:=by omega
  subst hk
  cases k<;>simp[execOp,eqGuard,hx,hy,binOp,Op.intDiv,h1]<;>(try rw[<-hc])<;>(try simp)) c'
def EJ {k k':IntKind} {a b:Nat} (hg:gate ops e g=true) (hd:dy n dst=true) (hx:ev e x= .int k (a:Int)) (hy:ev e y= .int k' (b:Int)) (hk:k=k':=by rfl) (hb:0<b)
  (c':OW P n ops K rest (cQ e dst (.int k ((a%b:Nat):Int))) w):OW P n ops K (⟨dst,.binOp .rem T x y T',ty,pos,after,g⟩::rest) e w:=
 fT hg hd (by
  have h1:¬b=0:=by omega
  have h2:(a:Int).tmod (b:Int)=((a:Int)%(b:Int)):=Int.tmod_eq_emod_of_nonneg om
  subst hk
  cases k<;>simp[execOp,eqGuard,hx,hy,binOp,Op.intDiv,h1,h2]) c'
def Xb {b:Bool} (hg:gate ops e g=true) (hd:dy n dst=true) (hx:ev e x= .bool b) (c:OW P n ops K rest (cQ e dst (.bool (!b))) w):
  OW P n ops K (⟨dst,.unOp .not T x,ty,pos,after,g⟩::rest) e w:=
 fT hg hd (by simp[execOp,Op.unary,hx]) c
def eM {b:Bool} (hx:ev e x= .bool b) (c:OW P n ops K rest (cQ e dst (.bool (!b))) w) (hg:gate ops e g=true:=by rfl) (hd:dy n dst=true:=by rfl):OW P n ops K (⟨dst,.unOp .not T x,ty,pos,after,g⟩::rest) e w:=Xb hg hd hx c
def Xc {a b:Bool} (hT:P.underlying T=some .bool) (hg:gate ops e g=true) (hd:dy n dst=true) (hx:ev e x= .bool a) (hy:ev e y= .bool b)
  (c:OW P n ops K rest (cQ e dst (.bool (a==b))) w):OW P n ops K (⟨dst,.binOp .eql T x y T',ty,pos,after,g⟩::rest) e w:=
 fT hg hd (by simp[execOp,eqGuard,hx,hy,run_eql_bool w T a b hT]) c
def Kg {a b:Bool} (hT:P.underlying T=some .bool) (hg:gate ops e g=true) (hd:dy n dst=true) (hx:ev e x= .bool a) (hy:ev e y= .bool b)
  (c:OW P n ops K rest (cQ e dst (.bool (!(a==b)))) w):OW P n ops K (⟨dst,.binOp .neq T x y T',ty,pos,after,g⟩::rest) e w:=
 fT hg hd (by simp[execOp,eqGuard,hx,hy,run_neq_bool w T a b hT]) c
/-! ### Strings -/
def Xd {a b:List UInt8} (hg:gate ops e g=true) (hd:dy n dst=true) (hx:ev e x=str a) (hy:ev e y=str b) (hs:a.length+b.length<=9223372036854775807)
  (c:OW P n ops K rest (cQ e dst (str (a++b))) w):OW P n ops K (⟨dst,.binOp .add T x y T',ty,pos,after,g⟩::rest) e w:=
 fT hg hd (by
  have h1:¬(IntKind.i64.max<(a.length:Int)+(b.length:Int)):=by
   have:IntKind.i64.max=9223372036854775807:=by decide
   omega
  have h2:(⟨a.toArray⟩:ByteArray)++⟨b.toArray⟩=⟨(a++b).toArray⟩:=by
   apply ByteArray.ext;simp
  simp[execOp,eqGuard,hx,hy,binOp,Op.stringOp,ByteArray.size,h2]
  omega) c
def cu {a b:List UInt8} (hx:ev e x=str a) (hy:ev e y=str b) (hs:a.length+b.length<=9223372036854775807) (c:OW P n ops K rest (cQ e dst (str (a++b))) w) (hg:gate ops e g=true:=by rfl) (hd:dy n dst=true:=by rfl):OW P n ops K (⟨dst,.binOp .add T x y T',ty,pos,after,g⟩::rest) e w:=Xd hg hd hx hy hs c
def Xe {a b:List UInt8} (hg:gate ops e g=true) (hd:dy n dst=true) (hx:ev e x=str a) (hy:ev e y=str b)
  (c:OW P n ops K rest (cQ e dst (.bool (decide (a=b)))) w):OW P n ops K (⟨dst,.binOp .eql T x y T',ty,pos,after,g⟩::rest) e w:=
 fT hg hd (by
  have h:(a==b)=decide (a=b):=by by_cases h:a=b<;>simp[h]
  simp[execOp,eqGuard,hx,hy,binOp,Op.stringOp,h]) c
def cY {a b:List UInt8} (hx:ev e x=str a) (hy:ev e y=str b) (c:OW P n ops K rest (cQ e dst (.bool (decide (a=b)))) w) (hg:gate ops e g=true:=by rfl) (hd:dy n dst=true:=by rfl):OW P n ops K (⟨dst,.binOp .eql T x y T',ty,pos,after,g⟩::rest) e w:=Xe hg hd hx hy c
def jI {a b:List UInt8} (hg:gate ops e g=true) (hd:dy n dst=true) (hx:ev e x=str a) (hy:ev e y=str b)
  (c:OW P n ops K rest (cQ e dst (.bool (decide (a≠b)))) w):OW P n ops K (⟨dst,.binOp .neq T x y T',ty,pos,after,g⟩::rest) e w:=
 fT hg hd (by
  have h:(a==b)=decide (a=b):=by by_cases h:a=b<;>simp[h]
  simp[execOp,eqGuard,hx,hy,binOp,Op.stringOp,h]) c
def kE {a:List UInt8} {i:Nat} {k:IntKind} {b:UInt8} (hT:P.underlying T=some .string) (hg:gate ops e g=true) (hd:dy n dst=true) (hx:ev e x=str a) (hy:ev e y= .int k (i:Int)) (hi:a[i]?=some b)
  (c:OW P n ops K rest (cQ e dst (.int .u8 b.toNat)) w):OW P n ops K (⟨dst,.index T x y,ty,pos,after,g⟩::rest) e w:=
 fT hg hd (by
  obtain⟨hl,he⟩:=List.getElem?_eq_some_iff.1 hi
  have hr:=run_index_string (P:=P) w T ⟨a.toArray⟩ k (i:Int) hT
  have iY:(⟨a.toArray⟩:ByteArray).size=a.length:=by simp[ByteArray.size]
  rw[dif_pos (by rw[iY];omega)] at hr
  simp only[execOp,hx,hy,Sem.run_bind,hr]
  simp only[Result.andThen_ok,Sem.run_pure,Int.toNat_natCast]
  rw[<-he];rfl) c
def Xf {a:List UInt8} {lo hi:Option Value} {l h:Nat} (hT:P.underlying T=some .string)
  (C4:(lo=none∧l=0)∨∃k,lo=some (.int k (l:Int))) (EK:(hi=none∧h=a.length)∨∃k,hi=some (.int k (h:Int))) (h1:l<=h) (h2:h<=a.length):
  (Instr.sliceAt T (str a) lo hi none).run P w= .ok (str ((a.drop l).take (h-l))) w:=by
 have e1:(⟨a.toArray⟩:ByteArray).extract l h=⟨((a.drop l).take (h-l)).toArray⟩:=ByteArray.extract_mk a l h
 have e2:(⟨a.toArray⟩:ByteArray).size=a.length:=by simp[ByteArray.size]
 rcases C4 with⟨rfl,rfl⟩|⟨k,rfl⟩<;>rcases EK with⟨rfl,rfl⟩|⟨k',rfl⟩<;>
  simp[Instr.sliceAt,Instr.slice,run_underlying hT,Instr.sliceBounds,Instr.sliceBound,asIntOf,e2,h1,h2,e1]
def Bf {a:List UInt8} {lo hi:Option Operand} {l h:Nat} (hT:P.underlying T=some .string) (hg:gate ops e g=true) (hd:dy n dst=true) (hx:ev e x=str a)
  (C4:(lo.map (ev e)=none∧l=0)∨∃k,lo.map (ev e)=some (.int k (l:Int))) (EK:(hi.map (ev e)=none∧h=a.length)∨∃k,hi.map (ev e)=some (.int k (h:Int))) (h1:l<=h) (h2:h<=a.length)
  (c:OW P n ops K rest (cQ e dst (str ((a.drop l).take (h-l)))) w):OW P n ops K (⟨dst,.slice T x lo hi none,ty,pos,after,g⟩::rest) e w:=
 fT hg hd (by simp only[execOp,hx,Option.map_none,Sem.run_bind,Xf hT C4 EK h1 h2];rfl) c
def Hx {L:List Nat} {E:TypeId} {sz bytes:Nat} {z:Value} {lo:Operand} {b off len cap l:Nat} {k:IntKind} (hT:P.underlying T=some (.slice E)) (hE:TI P E sz bytes z) (hg:gate ops e g=true) (hd:dy n dst=true)
  (hx:ev e x= .slice (some ⟨b,off,none⟩) len cap) (C4:ev e lo= .int k (l:Int)) (hl:l<=len) {rows:List (List C)} (hr:cF L w (.slice (some ⟨b,off,none⟩) len cap) (.sl sz rows))
  (c:∀v,cF L w v (.sl sz (rows.drop l))->OW P n ops K rest (cQ e dst v) w):OW P n ops K (⟨dst,.slice T x (some lo) none none,ty,pos,after,g⟩::rest) e w:=by
 have C5:len<=cap:=by cases hr with|nil=>exact Nat.zero_le _|sl _ _ _ _ _ _ _ hl hc=>exact hc
 refine fT hg hd (v:=.slice (if cap=l then some ⟨b,off,none⟩ else some ⟨b,off+l*sz,none⟩) (len-l) (cap-l)) (w':=w) ?_ (c _ (WM hr l hl _ (λh=>iN om) (λh=>iP om)))
 simp[execOp,Instr.sliceAt,Instr.slice,hx,C4,run_underlying hT,Instr.sliceBounds,Instr.sliceBound,asIntOf,hl,hE.tt,vY]
def xv {S D:TypeId} {k k':IntKind} {d:TypeDesc} {a c:Int} (hS:P.underlying S=some d) (hD:P.underlying D=some (.int k')) (hg:gate ops e g=true) (hd:dy n dst=true) (hx:ev e x= .int k a) (hc:k'.wrap a=c)
  (c':OW P n ops K rest (cQ e dst (.int k' c)) w):OW P n ops K (⟨dst,.convert S D x,ty,pos,after,g⟩::rest) e w:=
 fT hg hd (by simp[execOp,convert,hx,run_underlying hS,run_underlying hD,Conv.intToInt,hc]) c'
end
def aY.ext {w w':World} {b:Nat} {cs:Array Value} {T:TypeId} (h:aY w b cs T) (k:ak [] w w'):aY w' b cs T:=h.aO k sm
def cF.ext {L:List Nat} {w w':World} {v:Value} {c:C} (h:cF L w v c) (k:ak [] w w'):cF L w' v c:=h.aO k.any
def kD.ext {L:List Nat} {w w':World} {v:Value} {cs:List C} (h:kD L w v cs) (k:ak [] w w'):kD L w' v cs:=h.aO k.any
def ik.ext {L:List Nat} {w w':World} {T:TypeId} {sz:Nat} {v:Value} {g:Option Nat} {rows:List (List C)} {xs:List Value} (h:ik L w T sz v g rows xs) (k:ak [] w w'):ik L w' T sz v g rows xs:=h.aO k sm
def ak.ext {w0 w w':World} {L:List Nat} (h:ak L w0 w) (k:ak [] w w'):ak L w0 w':=h.trans k.any
def iS.ext {w w':World} {b off:Nat} {vs:List Value} (h:iS w b off vs) (k:ak [] w w'):iS w' b off vs:=λj v hj=>by
 have h1:=h j v hj
 have hb:b<w.heap.size:=World.block_lt_of_cell? w ⟨b,off+j,none⟩ h1
 exact(World.cell?_of_block (k.block b hb sm)).trans h1
def aY.at {w:World} {b:Nat} {vs:List Value} {T:TypeId} (h:aY w b vs.toArray T) {i:Nat} {v:Value} (hv:vs[i]?=some v):w.cell? ⟨b,i,none⟩=some v:=by
 rw[h.cell];simpa using hv
def aY.all {w:World} {b:Nat} {vs:List Value} {T:TypeId} (h:aY w b vs.toArray T):iS w b 0 vs:=λj v hj=>by
 rw[Nat.zero_add];exact h.at hj
def wrap_i64 (x:Int) (h1: -9223372036854775808<=x) (h2:x<=9223372036854775807):IntKind.i64.wrap x=x:=by
 simp only[IntKind.wrap,IntKind.bits,IntKind.signed];simp;omega
def wrap_u8 (x:Int) (h1:0<=x) (h2:x<=255):IntKind.u8.wrap x=x:=by
 simp only[IntKind.wrap,IntKind.bits,IntKind.signed];simp;omega
def wrap_u64 (x:Int) (h1:0<=x) (h2:x<=18446744073709551615):IntKind.u64.wrap x=x:=by
 simp only[IntKind.wrap,IntKind.bits,IntKind.signed];simp;omega
section
variable {P:Program} {n:Nat} {ops:Array Oper} {K:Env->World->Prop} {rest:List Oper} {e:Env} {w w':World}
 {dst:Option Nat} {ty:TypeId} {pos:String} {after:Array Edge} {g:Option (Nat×Bool)} {T:TypeId} {x:Operand}
def Xg {vs:List Value} (hg:gate ops e g=true) (hd:dy n dst=true) (hx:ev e x= .agg vs.toArray)
  (k:∀w',ak [] w w'->aY w' w.heap.size vs.toArray T->w'.heap.size=w.heap.size+1->OW P n ops K rest (cQ e dst (.pointer (some ⟨w.heap.size,0,none⟩))) w'):
  OW P n ops K (⟨dst,.box T x,ty,pos,after,g⟩::rest) e w:=Ps hg hd (by rw[hx];rfl) k
def fG {vs:List Value} (hx:ev e x= .agg vs.toArray) (k:∀w',ak [] w w'->aY w' w.heap.size vs.toArray T->w'.heap.size=w.heap.size+1->OW P n ops K rest (cQ e dst (.pointer (some ⟨w.heap.size,0,none⟩))) w') (hg:gate ops e g=true:=by rfl) (hd:dy n dst=true:=by rfl):OW P n ops K (⟨dst,.box T x,ty,pos,after,g⟩::rest) e w:=Xg hg hd hx k
def Kh {v:Value} (hg:gate ops e g=true) (hd:dy n dst=true) (hx:(ev e x).cells=[v].toArray)
  (k:∀w',ak [] w w'->aY w' w.heap.size [v].toArray T->w'.heap.size=w.heap.size+1->OW P n ops K rest (cQ e dst (.pointer (some ⟨w.heap.size,0,none⟩))) w'):
  OW P n ops K (⟨dst,.box T x,ty,pos,after,g⟩::rest) e w:=Ps hg hd hx k
def eD {sz bytes:Nat} {vs:List Value} (hT:TI P T sz bytes (.agg vs.toArray)) (hg:gate ops e g=true) (hd:dy n dst=true) (_:vs=vs)
  (k:∀w',ak [] w w'->aY w' w.heap.size vs.toArray T->w'.heap.size=w.heap.size+1->OW P n ops K rest (cQ e dst (.pointer (some ⟨w.heap.size,0,none⟩))) w'):
  OW P n ops K (⟨dst,.alloc T,ty,pos,after,g⟩::rest) e w:=WW hT hg hd rfl k
def tw {t:Nat} {v:Value} (h:e t=v):kK e t v=e:=by
 funext u
 by_cases hu:u=t
 ·subst hu;rw[nL,h]
 ·rw[Hu _ _ hu]
def xw {l:List Oper} {t:Nat} {b:Bool} (ht:e t= .bool b) (h1:b=true->OW P n ops K l (kK e t (.bool true)) w) (h0:b=false->OW P n ops K l (kK e t (.bool false)) w):OW P n ops K l e w:=by
 cases b
 ·have:=h0 rfl;rwa [tw ht] at this
 ·have:=h1 rfl;rwa [tw ht] at this
def EL {l:List Oper} {t:Nat} {b:Bool} (ht:e t= .bool b) (h:OW P n ops K l (kK e t (.bool b)) w):OW P n ops K l e w:=by
 rwa [tw ht] at h
def aN (D:List Nat) (x e:Env):Env:=λt=>bif D.contains t then x t else e t
def gv (D:List Nat) (e e':Env):Prop:=∀t,D.contains t=false->e' t=e t
def Bg {D:List Nat} {e:Env}:gv D e e:=λ_ _=>rfl
def Pv {D:List Nat} {e e':Env} {d:Nat} {v:Value} (hd:D.contains d=true) (h:gv D e e'):gv D e (kK e' d v):=λt ht=>by
 have eN:t≠d:=λhe=>by subst he;rw[hd] at ht;cases ht
 rw[Hu _ _ eN];exact h t ht
def Xh {D D2:List Nat} {e e' x:Env} (hd:D2.all D.contains=true) (h:gv D e e'):gv D e (aN D2 x e'):=λt ht=>by
 unfold aN
 cases hc:D2.contains t with
 |false=>exact h t ht
 |true=>
  have:=List.all_eq_true.1 hd t (by simpa using hc)
  rw[ht] at this;cases this
def alm {p:Prop} [Decidable p] (h:decide p=true):p:=of_decide_eq_true h
def aln {p:Prop} [Decidable p] (h:decide p=false):¬p:=of_decide_eq_false h
def alo {b:Bool} (h:(!b)=true):b=false:=by simpa using h
def alp {b:Bool} (h:(!b)=false):b=true:=by simpa using h
def yZ {D:List Nat} {e e':Env} (h:gv D e e'):aN D e' e=e':=by
 funext t
 unfold aN
 cases hc:D.contains t with
 |true=>rfl
 |false=>simp only[cond_false];exact(h t hc).symm
def Oper.Ki {o:Oper} {a:Act} {w:World} {H H':Act->World->Prop} {Q Q':Exit->Act->World->Prop} (h:∀a w,H a w->H' a w)
  (hp:∀c a w,Q (.panic c) a w->Q' (.panic c) a w) (ho:LetsOut Q->LetsOut Q') (hh:o.wp P a w H Q):o.wp P a w H' Q':=by
 unfold Oper.wp at*
 generalize(execOp a.eval o).run P w=r at*
 cases r with
 |ok n w'=>
  cases n<;>simp only[Oper.upon] at hh⊢<;>
   first
    |exact h _ _ hh
    |exact Calls.mono hh (λe w'' he=>by cases e<;>first|exact h _ _ he|exact hp _ _ _ he|exact ho he)
    |exact Rows.mono hh (λ_ _ he=>h _ _ he)
 |halt x w'=>cases x<;>simp only[Oper.upon] at hh⊢<;>first|exact hp _ _ _ hh|exact hh
def Kj {N:Env->World->Prop} {Q:Exit->Act->World->Prop} {l2:List Oper} (k:∀e' a' w',Fits n e' a'->N e' w'->wpList P ops (pF n K Q) l2 a' w'):
  ∀(l1:List Oper) (a:Act) (w:World),wpList P ops (pF n N Q) l1 a w->wpList P ops (pF n K Q) (l1++l2) a w
 |[],a,w,h=>by
  simp only[wpList,pF] at h
  obtain⟨e',hf,hn⟩:=h
  exact k e' a w hf hn
 |o::l,a,w,h=>by
  have hl:LetsOut (pF n N Q)->LetsOut (pF n K Q):=fun⟨a,w,hq⟩=>⟨a,w,hq⟩
  simp only[List.cons_append]
  unfold wpList at h⊢
  by_cases hw:Region.wanted o (yielded ops a.tmps)=true
  ·rw[iP hw] at h⊢
   rcases h with h|⟨h1,h2⟩
   ·exact .inl (Oper.Ki (λa' w' h'=>Kj k l a' w' h') (λ_ _ _ h=>h) hl h)
   ·exact .inr ⟨h1,hl h2⟩
  ·rw[iN hw] at h⊢
   exact Kj k l _ w h
def vZ {l1 l2:List Oper} {N:Env->World->Prop} (h:OW P n ops N l1 e w) (k:∀e' w',N e' w'->OW P n ops K l2 e' w'):OW P n ops K (l1++l2) e w:=λa ha Q=>
 Kj (λe' a' w' hf hn=>k e' w' hn a' hf Q) l1 a w (h a ha Q)
def fZ {l:List Oper} (m tc tp:Nat) (D:List Nat) {c r:Bool} (J:World->Prop) (ht:e tc= .bool c)
  (h1:c=true->OW P n ops (λe' w'=>gv D e e'∧e' tp= .bool r∧J w') (l.take m) (kK e tc (.bool true)) w)
  (h0:c=false->OW P n ops (λe' w'=>gv D e e'∧e' tp= .bool false∧J w') (l.take m) (kK e tc (.bool false)) w)
  (k:∀x w',J w'->OW P n ops K (l.drop m) (kK (aN D x e) tp (.bool (c&&r))) w'):OW P n ops K l e w:=by
 rw[<-List.take_append_drop m l]
 cases c with
 |true=>
  have h:=h1 rfl
  rw[tw ht] at h
  refine vZ h λe' w' ⟨ha,hp,hj⟩=>?_
  have:=k e' w' hj
  rw[yZ ha,Bool.true_and,tw hp] at this
  exact this
 |false=>
  have h:=h0 rfl
  rw[tw ht] at h
  refine vZ h λe' w' ⟨ha,hp,hj⟩=>?_
  have:=k e' w' hj
  rw[yZ ha,Bool.false_and,tw hp] at this
  exact this
def fB {l:List Oper} (m tc tp:Nat) (D:List Nat) {c r:Bool} (J:World->Prop) (ht:e tc= .bool c)
  (h1:c=true->OW P n ops (λe' w'=>gv D e e'∧e' tp= .bool true∧J w') (l.take m) (kK e tc (.bool true)) w)
  (h0:c=false->OW P n ops (λe' w'=>gv D e e'∧e' tp= .bool r∧J w') (l.take m) (kK e tc (.bool false)) w)
  (k:∀x w',J w'->OW P n ops K (l.drop m) (kK (aN D x e) tp (.bool (c||r))) w'):OW P n ops K l e w:=by
 rw[<-List.take_append_drop m l]
 cases c with
 |true=>
  have h:=h1 rfl
  rw[tw ht] at h
  refine vZ h λe' w' ⟨ha,hp,hj⟩=>?_
  have:=k e' w' hj
  rw[yZ ha,Bool.true_or,tw hp] at this
  exact this
 |false=>
  have h:=h0 rfl
  rw[tw ht] at h
  refine vZ h λe' w' ⟨ha,hp,hj⟩=>?_
  have:=k e' w' hj
  rw[yZ ha,Bool.false_or,tw hp] at this
  exact this
def kO {a:List UInt8} (hT:P.underlying T=some .string) (hg:gate ops e g=true) (hd:dy n dst=true) (hx:ev e x=str a)
  (k:OW P n ops K rest (cQ e dst (.int .i64 (a.length:Nat))) w):OW P n ops K (⟨dst,.call {callee:=.builtin .len,args:=#[x],argTypes:=#[T]},ty,pos,after,g⟩::rest) e w:=
 W6 hT hg hd hx (by simp[ByteArray.size]) k
def j7 {l:List (Nat×Operand)} {v:Value} (hb:(Instr.build T (l.map λp=>(p.1,ev e p.2)).toArray).run P w= .ok v w) (hg:gate ops e g=true) (hd:dy n dst=true)
  (k:OW P n ops K rest (cQ e dst v) w):OW P n ops K (⟨dst,.build T l.toArray,ty,pos,after,g⟩::rest) e w:=
 fT hg hd (by simp only[execOp,List.map_toArray,Sem.run_bind,hb];rfl) k
end
def gQ {P:Program} {e:Env} {t ty b:Nat} {w:World} {vs:List Value} {T:TypeId} {sz bytes:Nat} {z:Value} (hA:tu P ty=true) (kM:TI P ty sz bytes z) (he:e t= .pointer (some ⟨b,0,none⟩)) (hb:aY w b vs.toArray T) (hl:vs.length=sz):
  Po P e t ty (.agg vs.toArray) w:=by
 refine⟨⟨b,0,none⟩,he,?_⟩
 have:=run_loadCells_list (P:=P) w ⟨b,0,none⟩ vs (λj v hv=>by rw[vY];exact hb.all j v hv)
 rw[hl] at this
 simp[loadVar,Pt hA,kM.tt,this]
def zZ:Nat->List Value->List (Nat×Value)
 |_,[]=>[]
 |k,v::l=>(k,v)::zZ (k+1) l
def mg {D:List Nat} {e e':Env} {p q:Prop} (h2:p) (h3:q) (h:gv D e e':=by repeat(first|with_reducible exact Bg|refine Pv rfl ?_|refine Xh rfl ?_)):gv D e e'∧p∧q:=⟨h,h2,h3⟩
def dn {p q r:Prop} (h1:p) (h2:q) (h3:r:=by first|exact qR|exact Bg):p∧q∧r:=⟨h1,h2,h3⟩
def qj (F:List (Value->World->Prop)) (i:Nat):Value->World->Prop:=F.getD i (λ_ _=>True)
def Hy (F:List (Value->World->Prop)) (vs:Nat->Value) (w:World):List Nat->Prop
 |[]=>True
 |[j]=>qj F j (vs j) w
 |j::r=>qj F j (vs j) w∧Hy F vs w r
def Pw {F:List (Value->World->Prop)} {vs:Nat->Value} {w:World}:∀{l:List Nat},(∀j,j∈l->qj F j (vs j) w)->Hy F vs w l
 |[],_=>trivial
 |[j],h=>h j sm
 |j::k::r,h=>⟨h j sm,Pw (l:=k::r) λi hi=>h i (by simp at hi⊢;right;exact hi)⟩
def tx (ds:List Nat) (vs:Nat->Value):List Nat->List (Nat×Value)
 |[]=>[]
 |j::r=>(ds.getD j 0,vs j)::tx ds vs r
structure Kept (KK:World->World->Prop):Prop where
 refl:∀w,KK w w
 trans:∀{a b c},KK a b->KK b c->KK a c
 of:∀{a b},ak [] a b->KK a b
def aS:Kept (ak []):=⟨ak.refl _,ak.trans,id⟩
def KS (b:Nat) (cs:List Value) (T:TypeId) (w w':World):Prop:=ak [b] w w'∧(aY w b cs.toArray T->aY w' b cs.toArray T)∧
 ((∃us:List Value,us.length=cs.length∧aY w b us.toArray T)->∃us:List Value,us.length=cs.length∧aY w' b us.toArray T)
def cR (b:Nat) (cs:List Value) (T:TypeId):Kept (KS b cs T):=
 ⟨λ_=>⟨ak.refl _ _,id,id⟩,λh k=>⟨h.1.trans k.1,λx=>k.2.1 (h.2.1 x),λx=>k.2.2 (h.2.2 x)⟩,
  λh=>⟨h.any,λx=>x.aO h sm,fun⟨us,hl,x⟩=>⟨us,hl,x.aO h sm⟩⟩⟩
def tC (KK:World->World->Prop):List (Value->World->Prop)->Prop
 |[]=>True
 |f::r=>(∀v w w',f v w->KK w w'->f v w')∧tC KK r
def Px {KK:World->World->Prop}:∀{F:List (Value->World->Prop)},tC KK F->∀f,f∈F->∀v w w',f v w->KK w w'->f v w'
 |[],_,_,h=>by cases h
 |g::r,h,f,hf=>by
  rcases mC.1 hf with rfl|hf
  ·exact h.1
  ·exact Px h.2 f hf
def cZ {KK:World->World->Prop} {V:Value} {r:List (Value->World->Prop)} (h:tC KK r):tC KK ((λv _=>v=V)::r):=⟨λ_ _ _ h _=>h,h⟩
def eX {KK:World->World->Prop} {c:Prop} {V:Value} {r:List (Value->World->Prop)} (h:tC KK r):tC KK ((λv _=>c->v=V)::r):=⟨λ_ _ _ h _=>h,h⟩
def C6 {b:Nat} {cs:List Value} {T:TypeId} {r:List (Value->World->Prop)} (h:tC (KS b cs T) r):tC (KS b cs T) ((λ_ w=>aY w b cs.toArray T)::r):=⟨λ_ _ _ h k=>k.2.1 h,h⟩
def Xi {KK:World->World->Prop} {f:Value->World->Prop} {r:List (Value->World->Prop)} (hf:∀v w w',f v w->KK w w'->f v w') (h:tC KK r):tC KK (f::r):=⟨hf,h⟩
def qR {e:Env} {d:Nat} {v:Value}:gv [d] e (cQ e (some d) v):=Pv sm Bg
def Kk (KK:World->World->Prop) (P:Program) (n:Nat) (ops:Array Oper) (W ds:List Nat) (F:List (Value->World->Prop)) (e0:Env) (w0:World) (k:Nat) (o:Oper) (deps:List Nat):Prop:=
 ∀(x:Env) (vs:Nat->Value) (w:World) (e:Env),KK w0 w->Hy F vs w deps->e=aM (aN W x e0) (tx ds vs deps)->
  OW P n ops (λe' w'=>KK w w'∧qj F k (e' (ds.getD k 0)) w'∧gv [ds.getD k 0] e e') [o] e w
def Bh (KK:World->World->Prop) (P:Program) (n:Nat) (ops:Array Oper) (W ds:List Nat) (F:List (Value->World->Prop)) (e0:Env) (w0:World):Nat->List Oper->List (List Nat)->Prop
 |_,[],_=>True
 |_,_::_,[]=>True
 |k,o::l,d::r=>Kk KK P n ops W ds F e0 w0 k o d∧Bh KK P n ops W ds F e0 w0 (k+1) l r
def waits (o:Oper) (j:Nat):Bool:=o.after.toList.any λe=>Region.binds .any e&&e.on==j
def wa (l:List Oper) (m:Nat) (W ds:List Nat) (deps:List (List Nat)):Bool:=
 decide (m<=l.length)&&decide (ds.length=m)&&decide (deps.length=m)&&decide (ds.Nodup)&&
 (List.range l.length).all (λk=>match l[k]? with
  |some o=>o.after.toList.all (λe=>!Region.binds .any e||decide (e.on<k))&&
   (if k<m then W.contains (ds.getD k 0)&&(deps.getD k []).all (λj=>waits o j&&decide (j<m)) else(List.range k).all (λj=>(List.range (k+1)).any λx=>decide (j<x)&&(match l[x]? with|some o'=>waits o' j|none=>false)))
  |none=>false)
def bN {KK:World->World->Prop} {P:Program} {n:Nat} {ops:Array Oper} {W ds:List Nat} {F:List (Value->World->Prop)} {e0:Env} {w0:World} {k:Nat} {o:Oper} {l:List Oper} {d:List Nat} {r:List (List Nat)}
  (h:Kk KK P n ops W ds F e0 w0 k o d) (hr:Bh KK P n ops W ds F e0 w0 (k+1) l r):Bh KK P n ops W ds F e0 w0 k (o::l) (d::r):=⟨h,hr⟩
def Py {KK:World->World->Prop} {P:Program} {n:Nat} {ops:Array Oper} {W ds:List Nat} {F:List (Value->World->Prop)} {e0:Env} {w0:World}:∀(l:List Oper) (deps:List (List Nat)) (k:Nat),Bh KK P n ops W ds F e0 w0 k l deps->
  ∀(i:Nat) (o:Oper) (d:List Nat),l[i]?=some o->deps[i]?=some d->Kk KK P n ops W ds F e0 w0 (k+i) o d
 |[],_,_,_,i,o,d,hi,_=>by simp at hi
 |_::_,[],_,_,i,o,d,_,hd=>by simp at hd
 |o'::l,d'::r,k,h,i,o,d,hi,hd=>by
  cases i with
  |zero=>simp at hi hd;subst hi;subst hd;exact h.1
  |succ i=>
   have:=Py l r (k+1) h.2 i o d (by simpa using hi) (by simpa using hd)
   rw[show k+1+i=k+(i+1) from by omega] at this;exact this
def EM {e:Env}:∀{l:List (Nat×Value)},(∀p,p∈l->e p.1=p.2)->aM e l=e
 |[],_=>rfl
 |p::r,h=>by
  simp only[aM,EM (e:=e) (l:=r) (λq hq=>h q (by simp[hq]))]
  exact tw (h p sm)
def Xj {KK:World->World->Prop} {F:List (Value->World->Prop)} (hF:∀f,f∈F->∀v w w',f v w->KK w w'->f v w') (i:Nat) {v:Value} {w w':World} (h:qj F i v w) (k:KK w w'):qj F i v w':=by
 unfold qj at*
 rw[gG] at*
 cases hf:F[i]? with
 |none=>simp
 |some f=>
  simp only[hf,Option.getD_some] at h⊢
  exact hF f (List.mem_of_getElem? hf) v w w' h k
section
variable {P:Program} {n:Nat} {l:List Oper} {m:Nat} {W ds:List Nat} {deps:List (List Nat)}
def C7 (hB:wa l m W ds deps=true):m<=l.length∧ds.length=m∧deps.length=m∧ds.Nodup∧
  ∀k o,l[k]?=some o->(∀e∈o.after,Region.binds .any e=true->e.on<k)∧
   (k<m->W.contains (ds.getD k 0)=true∧∀j∈deps.getD k [],waits o j=true∧j<m)∧(m<=k->∀j,j<k->∃x o',j<x∧x<=k∧l[x]?=some o'∧waits o' j=true):=by
 simp only[wa,aE,dE] at hB
 obtain⟨⟨⟨⟨h1,h2⟩,h3⟩,h4⟩,h5⟩:=hB
 refine⟨h1,h2,h3,h4,λk o hk=>?_⟩
 have gR:k<l.length:=(List.getElem?_eq_some_iff.1 hk).1
 have:=List.all_eq_true.1 h5 k (List.mem_range.2 gR)
 simp only[hk,aE] at this
 obtain⟨ha,hb⟩:=this
 refine⟨λe he uC=>?_,λeW=>?_,λhle j hj=>?_⟩
 ·have:=List.all_eq_true.1 ha e (by simpa using he)
  simpa[uC] using this
 ·rw[iP eW] at hb
  simp only[aE,List.all_eq_true,dE] at hb
  exact⟨hb.1,λj hj=>hb.2 j hj⟩
 ·rw[iN om] at hb
  have:=List.all_eq_true.1 hb j (List.mem_range.2 hj)
  obtain⟨x,hx,fH⟩:=List.any_eq_true.1 this
  rw[List.mem_range] at hx
  simp only[aE,dE] at fH
  cases ho:l[x]? with
  |none=>rw[ho] at fH;cases fH.2
  |some o'=>rw[ho] at fH;exact⟨x,o',fH.1,om,ho,fH.2⟩
def Kl {o:Oper} {j:Nat} (h:waits o j=true):∃e∈o.after,Region.binds .any e=true∧e.on=j:=by
 simp only[waits,List.any_eq_true,aE,beq_iff_eq] at h
 obtain⟨e,he,hb,hj⟩:=h
 exact⟨e,by simpa using he,hb,hj⟩
def Hz (l:List Oper) (listed:Array Bool):Prop:=∀j o,l[j]?=some o->listed.getD j false=true->∀e∈o.after,Region.binds .any e=true->listed.getD e.on false=true
def Km {k:Nat} {o:Oper} {listed:Array Bool} (oy:Hz l listed) (ho:l[k]?=some o) (hr:∀e∈o.after,Region.binds .any e=true->listed.getD e.on false=true)
  (hw:∀j,j<k->∃x o',j<x∧x<=k∧l[x]?=some o'∧waits o' j=true):∀d j,j+d=k->0<d->listed.getD j false=true:=by
 intro d
 induction d using Nat.strongRecOn with
 |_ d ih=>
  intro j hj hd
  obtain⟨x,o',h1,h2,h3,h4⟩:=hw j om
  obtain⟨e,he,hb,kP⟩:=Kl h4
  rcases Nat.lt_or_ge x k with hx|hx
  ·have:=ih (k-x) om x om om
   rw[<-kP];exact oy x o' h3 this e he hb
  ·have Xk:x=k:=by omega
   subst Xk
   rw[ho] at h3;cases h3
   rw[<-kP];exact hr e he hb
def HA (hB:wa l m W ds deps=true) {Q:Exit->Act->World->Prop}:∀(fuel k:Nat) (listed:Array Bool) (a:Act) (w:World),m<=k->k+fuel=l.length->listed.size=l.length->
  (∀j,j<l.length->(listed.getD j true=false↔k<=j))->wpList P l.toArray Q (l.drop k) a w->wpAny P .any l.toArray Q fuel listed a w:=by
 obtain⟨_,_,_,_,oz⟩:=C7 hB
 intro fuel
 induction fuel with
 |zero=>
  intro k listed a w Bi hk hs hl h
  have gR:k=l.length:=by omega
  refine⟨?_,?_⟩
  ·cases hr:Region.ready .any l.toArray listed with
   |nil=>rfl
   |cons i is=>
    have hi:i∈Region.ready .any l.toArray listed:=by rw[hr];simp
    obtain⟨hu,o,ho,_⟩:=mem_ready.1 hi
    have mJ:i<l.length:=by simpa using(Array.getElem?_eq_some_iff.1 ho).1
    have:=(hl i mJ).1 hu
    omega
  ·rw[gR,List.drop_length] at h;exact h
 |succ fuel ih=>
  intro k listed a w Bi hk hs hl h
  have gR:k<l.length:=by omega
  obtain⟨o,ho⟩:∃o,l[k]?=some o:=⟨l[k],gE gR⟩
  have y0:∀j,j<k->listed.getD j false=true:=λj hj=>by
   have h1:¬listed.getD j true=false:=λhh=>by have:=(hl j om).1 hh;omega
   rw[Array.getD_eq_getD_getElem?] at h1⊢
   have:j<listed.size:=by omega
   rw[Array.getElem?_eq_getElem this] at h1⊢
   simpa using h1
  have Pz:k∈Region.ready .any l.toArray listed:=mem_ready.2 ⟨(hl k gR).2 (lR _),o,by simpa using ho,λe he hb=>y0 _ ((oz k o ho).1 e he hb)⟩
  have Xl:∀i,i∈Region.ready .any l.toArray listed->i=k:=λi hi=>by
   obtain⟨hu,oi,Kn,dA⟩:=mem_ready.1 hi
   have mJ:i<l.length:=by simpa using(Array.getElem?_eq_some_iff.1 Kn).1
   have j8:=(hl i mJ).1 hu
   rcases Nat.eq_or_lt_of_le j8 with he|eW
   ·exact he.symm
   ·have oy:Hz l listed:=λj o ho hj e he hb=>by
     have hjk:j<k:=by
      rcases Nat.lt_or_ge j k with h|h
      ·exact h
      ·have vW:=(List.getElem?_eq_some_iff.1 ho).1
       have h2:=(hl j vW).2 h
       rw[Array.getD_eq_getD_getElem?,Array.getElem?_eq_getElem om] at hj h2
       simp at hj h2
       rw[h2] at hj;cases hj
     have:=(oz j o ho).1 e he hb
     exact y0 _ om
    have:=Km oy (by simpa using Kn) dA ((oz i oi (by simpa using Kn)).2.2 om) (i-k) k om om
    have h2:=(hl k gR).2 (lR _)
    rw[Array.getD_eq_getD_getElem?] at this h2
    have Bj:k<listed.size:=by omega
    rw[Array.getElem?_eq_getElem Bj] at this h2
    simp at this h2
    rw[h2] at this;cases this
  refine⟨λhr=>(by rw[hr] at Pz;cases Pz),λi hi=>?_⟩
  have:=Xl i hi
  subst this
  have hd:l.drop i=o::l.drop (i+1):=by
   rw[List.drop_eq_getElem_cons gR]
   congr 1
   exact(List.getElem?_eq_some_iff.1 ho).2
  rw[hd] at h
  have ze:∀j,j<l.length->((listed.setIfInBounds i true).getD j true=false↔i+1<=j):=λj hj=>by
   by_cases ll:i=j
   ·subst ll
    have:i<listed.size:=by omega
    simp[Array.getD_eq_getD_getElem?,this]
   ·rw[getD_set_ne true ll,hl j hj];omega
  unfold wpOp
  have mO:l.toArray[i]?=some o:=by simpa using ho
  simp only[mO]
  unfold wpList at h
  by_cases hw:Region.wanted o (yielded l.toArray a.tmps)=true
  ·rw[iP hw] at h⊢
   exact h.imp (λh=>Oper.wp_mono (λa' w' h'=>ih (i+1) _ a' w' om om (by simpa using hs) ze h') h) id
  ·rw[iN hw] at h⊢
   exact ih (i+1) _ _ w om om (by simpa using hs) ze h
def Xm {KK:World->World->Prop} (Bl:Kept KK) {N:Env->World->Prop} {F:List (Value->World->Prop)} {e0:Env} {w0:World} (hB:wa l m W ds deps=true) (hF:∀f,f∈F->∀v w w',f v w->KK w w'->f v w')
  (hc:Bh KK P n l.toArray W ds F e0 w0 0 (l.take m) deps)
  (tail:∀(x:Env) (vs:Nat->Value) (w:World),KK w0 w->(∀i,i<m->qj F i (vs i) w)->OW P n l.toArray N (l.drop m) (aM (aN W x e0) (tx ds vs (List.range m))) w) (Q:Exit->Act->World->Prop):
  ∀(fuel:Nat) (listed:Array Bool) (e:Env) (a:Act) (w:World),Fits n e a->KK w0 w->gv W e0 e->listed.size=l.length->
   ((List.range l.length).filter λj=>!listed.getD j true).length=fuel->
   (∀j,m<=j->j<l.length->listed.getD j true=false)->(∀j,j<m->listed.getD j true=true->qj F j (e (ds.getD j 0)) w)->Hz l listed->
   wpAny P .any l.toArray (pF n N Q) fuel listed a w:=by
 obtain⟨C8,EN,Ko,jA,oz⟩:=C7 hB
 have y0:∀(listed:Array Bool) (j:Nat),listed.size=l.length->j<l.length->¬listed.getD j true=false->listed.getD j false=true:=λlisted j hs hj h1=>by
  rw[Array.getD_eq_getD_getElem?] at h1⊢
  rw[Array.getElem?_eq_getElem om] at h1⊢
  simpa using h1
 have EO:∀(listed:Array Bool) (j:Nat),listed.size=l.length->j<l.length->listed.getD j false=true->listed.getD j true=true:=λlisted j hs hj h1=>by
  rw[Array.getD_eq_getD_getElem?] at h1⊢
  rw[Array.getElem?_eq_getElem om] at h1⊢
  simpa using h1
 intro fuel
 induction fuel with
 |zero=>
  intro listed e a w hf hk ha hs Bm gx jJ oy
  have dA:∀j,j<l.length->listed.getD j true=true:=λj hj=>by
   cases hg:listed.getD j true with
   |true=>rfl
   |false=>
    have:j∈(List.range l.length).filter λj=>!listed.getD j true:=by rw[List.mem_filter,List.mem_range];exact⟨hj,by rw[hg];rfl⟩
    rw[List.length_eq_zero_iff.1 Bm] at this;cases this
  have hm:m=l.length:=by
   rcases Nat.lt_or_ge m l.length with h|h
   ·have:=gx m (lR _) h;rw[dA m h] at this;cases this
   ·omega
  have ht:=tail e (λi=>e (ds.getD i 0)) w hk (λi hi=>jJ i hi (dA i om))
  rw[yZ ha,EM (by
   intro p hp
   have:∀(r:List Nat),p∈tx ds (λi=>e (ds.getD i 0)) r->e p.1=p.2:=by
    intro r
    induction r with
    |nil=>intro h;cases h
    |cons j r ih=>
     intro h
     rcases mC.1 h with h|h
     ·subst h;rfl
     ·exact ih h
   exact this _ hp)] at ht
  have h2:=ht a hf Q
  exact HA hB 0 m listed a w (lR _) om hs (λj hj=>⟨λh=>(by rw[dA j hj] at h;cases h),λh=>om⟩) h2
 |succ fuel ih=>
  intro listed e a w hf hk ha hs Bm gx jJ oy
  by_cases uF:∀j,j<m->listed.getD j true=true
  ·have ht:=tail e (λi=>e (ds.getD i 0)) w hk (λi hi=>jJ i hi (uF i hi))
   rw[yZ ha,EM (by
    intro p hp
    have:∀(r:List Nat),p∈tx ds (λi=>e (ds.getD i 0)) r->e p.1=p.2:=by
     intro r
     induction r with
     |nil=>intro h;cases h
     |cons j r ih=>
      intro h
      rcases mC.1 h with h|h
      ·subst h;rfl
      ·exact ih h
    exact this _ hp)] at ht
   have h2:=ht a hf Q
   have zg:∀j,j<l.length->(listed.getD j true=false↔m<=j):=λj hj=>by
    constructor
    ·intro h
     rcases Nat.lt_or_ge j m with h'|h'
     ·rw[uF j h'] at h;cases h
     ·exact h'
    ·intro h;exact gx j h hj
   have zh:m+(fuel+1)=l.length:=by
    rw[<-Bm]
    have:∀k,k<=l.length->m<=k->((List.range k).filter λj=>!listed.getD j true).length=k-m:=by
     intro k
     induction k with
     |zero=>intro _ h;simp
     |succ k ihk=>
      intro gR Bi
      rw[List.range_succ,List.filter_append,lA]
      rcases Nat.lt_or_ge k m with h'|h'
      ·have PA:k+1=m:=by omega
       have hz:((List.range k).filter λj=>!listed.getD j true)=[]:=by
        rw[List.filter_eq_nil_iff]
        intro j hj
        rw[List.mem_range] at hj
        rw[uF j om];simp
       have e1:(!listed.getD k true)=false:=by rw[uF k h'];rfl
       simp only[hz,List.filter_cons,e1,List.filter_nil,lN]
       simp;omega
      ·rw[ihk om h']
       have e1:(!listed.getD k true)=true:=by rw[(zg k om).2 h'];rfl
       simp only[List.filter_cons,e1,List.filter_nil,if_true,lC,lN]
       omega
    have:=this l.length (lR _) C8
    omega
   exact HA hB (fuel+1) m listed a w (lR _) zh hs zg h2
  ·have hex:∃j,j<m∧listed.getD j true=false∧∀i,i<j->listed.getD i true=true:=by
    have:∀k,(∃j,j<k∧listed.getD j true=false∧∀i,i<j->listed.getD i true=true)∨∀j,j<k->listed.getD j true=true:=by
     intro k
     induction k with
     |zero=>right;intro j hj;omega
     |succ k ihk=>
      rcases ihk with⟨j,hj,h1,h2⟩|h
      ·exact .inl ⟨j,om,h1,h2⟩
      ·cases hg:listed.getD k true with
       |false=>exact .inl ⟨k,om,hg,h⟩
       |true=>
        right
        intro j hj
        rcases Nat.lt_or_ge j k with h'|h'
        ·exact h j h'
        ·rw[show j=k from by omega];exact hg
    rcases this m with h|h
    ·exact h
    ·exact absurd h uF
   obtain⟨j0,EP,ER,ES⟩:=hex
   obtain⟨o0,ET⟩:∃o,l[j0]?=some o:=⟨l[j0]'om,gE om⟩
   have oY:j0∈Region.ready .any l.toArray listed:=mem_ready.2 ⟨ER,o0,by simpa using ET,λed he hb=>by
    have eW:=(oz j0 o0 ET).1 ed he hb
    exact y0 listed _ hs om (by rw[ES _ eW];simp)⟩
   refine⟨λhr=>(by rw[hr] at oY;cases oY),λi hi=>?_⟩
   obtain⟨hu,o,ho,dA⟩:=mem_ready.1 hi
   have mJ:i<l.length:=by simpa using(Array.getElem?_eq_some_iff.1 ho).1
   have mO:l[i]?=some o:=by simpa using ho
   have qS:i<m:=by
    rcases Nat.lt_or_ge i m with h|h
    ·exact h
    ·have:=EO listed j0 hs om (Km oy mO dA ((oz i o mO).2.2 h) (i-j0) j0 om om)
     rw[ER] at this;cases this
   obtain⟨hW,zj⟩:=(oz i o mO).2.1 qS
   obtain⟨dp,zk⟩:∃d,deps[i]?=some d:=⟨deps[i]'om,gE om⟩
   have EU:deps.getD i []=dp:=by rw[gG,zk];rfl
   rw[EU] at zj
   have jq:=Py (l.take m) deps 0 hc i o dp (by rw[List.getElem?_take,iP qS];exact mO) zk
   rw[Nat.zero_add] at jq
   have h1:=jq e (λj=>e (ds.getD j 0)) w _ hk (Pw λj hj=>by
    obtain⟨Xn,zn⟩:=zj j hj
    obtain⟨ed,he,hb,uG⟩:=Kl Xn
    exact jJ j zn (EO listed j hs om (by rw[<-uG];exact dA ed he hb))) rfl
   rw[yZ ha,EM (by
    intro p hp
    have:∀(r:List Nat),p∈tx ds (λi=>e (ds.getD i 0)) r->e p.1=p.2:=by
     intro r
     induction r with
     |nil=>intro h;cases h
     |cons j r ih=>
      intro h
      rcases mC.1 h with h|h
      ·subst h;rfl
      ·exact ih h
    exact this _ hp)] at h1
   have h2:=h1 a hf Q
   have next:∀(a':Act) (w':World),pF n (λe' w'=>KK w w'∧qj F i (e' (ds.getD i 0)) w'∧gv [ds.getD i 0] e e') Q .normal a' w'->
     wpAny P .any l.toArray (pF n N Q) fuel (listed.setIfInBounds i true) a' w':=λa' w' hq=>by
    obtain⟨e',Kp,pH,Kq,qk⟩:=hq
    refine ih _ e' a' w' Kp (Bl.trans hk pH) ?_ (by simpa using hs) ?_ ?_ ?_ ?_
    ·intro t ht
     have eN:t≠ds.getD i 0:=λhe=>by rw[he,hW] at ht;cases ht
     rw[qk t (by simpa using eN)];exact ha t ht
    ·have zh:∀k,k<=l.length->((List.range k).filter λj=>!(listed.setIfInBounds i true).getD j true).length+(if i<k then 1 else 0)=((List.range k).filter λj=>!listed.getD j true).length:=by
      intro k
      induction k with
      |zero=>simp
      |succ k ihk=>
       intro gR
       have xz:=ihk om
       rw[List.range_succ,List.filter_append,lA,List.filter_append,lA]
       by_cases uH:i=k
       ·subst uH
        rw[iN om] at xz
        have eW:i<listed.size:=by omega
        have e1:(listed.setIfInBounds i true).getD i true=true:=by simp[Array.getD_eq_getD_getElem?,eW]
        rw[iP om]
        simp only[List.filter_cons,e1,hu,List.filter_nil,Bool.not_true,Bool.not_false,if_true,Bool.false_eq_true,if_false,lC,lN]
        omega
       ·have e1:(listed.setIfInBounds i true).getD k true=listed.getD k true:=getD_set_ne true uH
        simp only[List.filter_cons,e1,List.filter_nil]
        have Xo:(i<k+1)↔(i<k):=by omega
        by_cases pG:i<k
        ·have c1:i<k+1:=by omega
         rw[iP pG] at xz;rw[iP c1];split<;>simp only[lC,lN]<;>omega
        ·have c1:¬i<k+1:=by omega
         rw[iN pG] at xz;rw[iN c1];split<;>simp only[lC,lN]<;>omega
     have:=zh l.length (lR _)
     rw[iP mJ] at this
     omega
    ·intro j Kr vW
     rw[getD_set_ne true om];exact gx j Kr vW
    ·intro j zn hj
     by_cases ll:i=j
     ·subst ll;exact Kq
     ·rw[getD_set_ne true ll] at hj
      have eN:ds.getD j 0≠ds.getD i 0:=by
       rw[gG,gG,gE om,gE om]
       simp only[Option.getD_some]
       intro he
       exact ll ((List.getElem_inj jA).1 he.symm)
      rw[qk _ (by simpa using eN)]
      exact Xj hF j (jJ j zn hj) pH
    ·intro j oj Bn hj e2 mP aZ
     have wb:∀x,listed.getD x false=true->(listed.setIfInBounds i true).getD x false=true:=λx hx=>by
      by_cases EV:i=x
      ·subst EV
       have:i<listed.size:=by omega
       simp[Array.getD_eq_getD_getElem?,this]
      ·rw[getD_set_ne false EV];exact hx
     by_cases ll:i=j
     ·subst ll
      rw[mO] at Bn;cases Bn
      exact wb _ (dA e2 mP aZ)
     ·rw[getD_set_ne false ll] at hj
      exact wb _ (oy j oj Bn hj e2 mP aZ)
   unfold wpOp
   simp only[ho]
   unfold wpList at h2
   by_cases hw:Region.wanted o (yielded l.toArray a.tmps)=true
   ·rw[iP hw] at h2⊢
    rcases h2 with h2|⟨h2,h3⟩
    ·refine .inl (Oper.Ki (λa' w' h'=>next a' w' h') (λ_ _ _ h=>h) (fun⟨a,w,hq⟩=>⟨a,w,hq⟩) h2)
    ·exact .inr ⟨h2,by obtain⟨a',w',hq⟩:=h3;exact⟨a',w',hq⟩⟩
   ·rw[iN hw] at h2⊢
    exact next _ _ h2
def ql {N R:Env->World->Prop} {X:Nat->Env->World->Prop} {id:Nat} {e0:Env} {w0:World} (hm:P.follows .mixedOrders=true) {KK:World->World->Prop} (Bl:Kept KK) (m:Nat) (W ds:List Nat) (deps:List (List Nat)) (F:List (Value->World->Prop))
  (hB:wa l m W ds deps=true) (hF:tC KK F)
  (hc:∀wd,KK w0 wd->Bh KK P n l.toArray W ds F e0 wd 0 (l.take m) deps)
  (tail:∀(x:Env) (vs:Nat->Value) (w:World),KK w0 w->(∀i,i<m->qj F i (vs i) w)->OW P n l.toArray N (l.drop m) (aM (aN W x e0) (tx ds vs (List.range m))) w):
  CW P n (.region id l.toArray true) N R X e0 w0:=λa ha=>by
 refine wp_region_any hm ?_
 have gN:ak [] w0 {w0 with drawn:=w0.drawn+1}:=ak.drew _ _
 have:=Xm Bl (N:=N) (e0:=e0) (w0:={w0 with drawn:=w0.drawn+1}) hB (Px hF) (hc _ (Bl.of gN)) (λx vs w hk=>tail x vs w (Bl.trans (Bl.of gN) hk)) (lD n N R X) l.length (Array.replicate l.length false) e0 a _ ha (Bl.refl _) Bg sm
  (by
   have:((List.range l.length).filter λj=>!(Array.replicate l.length false).getD j true)=List.range l.length:=by
    rw[List.filter_eq_self]
    intro j hj
    rw[List.mem_range] at hj
    simp[Array.getD_eq_getD_getElem?,hj]
   rw[this];simp)
  (by intro j _ hj;simp[Array.getD_eq_getD_getElem?,hj])
  (by
   intro j hj h
   have:=(C7 hB).1
   have pI:j<l.length:=by omega
   simp[Array.getD_eq_getD_getElem?,pI] at h)
  (by
   intro j o ho hj
   have pI:j<l.length:=(List.getElem?_eq_some_iff.1 ho).1
   simp[Array.getD_eq_getD_getElem?,pI] at hj)
 have e1:pF n N (lD n N R X)=lD n N R X:=by
  funext x a w;cases x<;>rfl
 rw[e1] at this
 simpa using this
end
class zo (p:Prop) (q:outParam Prop):Prop where
 imp:p->q
instance (priority:=low) {p:Prop}:zo p p:=⟨id⟩
instance {p:Prop} {i:Decidable p}:zo (@decide p i=true) p:=⟨of_decide_eq_true⟩
instance {p:Prop} {i:Decidable p}:zo (@decide p i=false) (¬p):=⟨of_decide_eq_false⟩
instance {b:Bool}:zo ((!b)=true) (b=false):=⟨λh=>by simpa using h⟩
instance {b:Bool}:zo ((!b)=false) (b=true):=⟨λh=>by simpa using h⟩
def bw {p q:Prop} [t:zo p q] (h:p):q:=t.imp h
section
variable {P:Program} {n:Nat} {N R:Env->World->Prop} {X:Nat->Env->World->Prop} {e:Env} {w:World}
def zc {c:Operand} {x y:Code} {t:Bool} (hc:ev e c= .bool t) {p q:Prop} [hp:zo (t=true) p] [hq:zo (t=false) q] (hx:p->CW P n x N R X e w) (hy:q->CW P n y N R X e w):CW P n (.cond c x y) N R X e w:=
 WH hc (λh=>hx (hp.imp h)) (λh=>hy (hq.imp h))
def zr {id:Nat} {l:List Oper} {y:Code} (h:OW P n l.toArray (λe w=>CW P n y N R X e w) l e w):CW P n ((Code.region id l.toArray false).seq y) N R X e w:=aQ (df h)
end
section
variable {P:Program} {n:Nat} {ops:Array Oper} {K:Env->World->Prop} {rest:List Oper} {e:Env} {w:World}
 {dst:Option Nat} {ty:TypeId} {pos:String} {after:Array Edge} {g:Option (Nat×Bool)} {x y:Operand} {T T':TypeId}
def zm (k:OW P n ops K rest (cQ e dst (ev e x)) w) (hg:gate ops e g=true:=by rfl) (hd:dy n dst=true:=by rfl):OW P n ops K (⟨dst,.move x,ty,pos,after,g⟩::rest) e w:=WS hg hd k
def zA (k:OW P n ops K rest (cQ e dst (ev e x)) w) (hg:gate ops e g=true:=by rfl) (hd:dy n dst=true:=by rfl):OW P n ops K (⟨dst,.assign x,ty,pos,after,g⟩::rest) e w:=WT hg hd k
def zs {op:Op} (k:OW P n ops K rest (cQ e dst undef) w) (hg:gate ops e g=false:=by rfl) (hd:dy n dst=true:=by rfl):OW P n ops K (⟨dst,op,ty,pos,after,g⟩::rest) e w:=Kc hg hd k
def zp {c:Operand} {t:Bool} (hc:ev e c= .bool t) (k:OW P n ops K rest (cQ e dst (bif t then ev e x else ev e y)) w) (hg:gate ops e g=true:=by rfl) (hd:dy n dst=true:=by rfl):OW P n ops K (⟨dst,.pick c x y,ty,pos,after,g⟩::rest) e w:=WU hg hd hc k
def zf {S i off:Nat} {b o:Nat} (hS:iy P S i=some off) (hx:ev e x= .pointer (some ⟨b,o,none⟩)) (k:OW P n ops K rest (cQ e dst (.pointer (some ⟨b,o+off,none⟩))) w) (hg:gate ops e g=true:=by rfl) (hd:dy n dst=true:=by rfl):
  OW P n ops K (⟨dst,.fieldAddr S x i,ty,pos,after,g⟩::rest) e w:=W3 hS hg hd hx k
def zl {a:Addr} {v:Value} (hT:qP P T=true) (hx:ev e x= .pointer (some a)) (hc:w.cell? a=some v) (k:OW P n ops K rest (cQ e dst v) w) (hg:gate ops e g=true:=by rfl) (hd:dy n dst=true:=by rfl):
  OW P n ops K (⟨dst,.load T x,ty,pos,after,g⟩::rest) e w:=WY hT hg hd hx hc k
def zL {sz bytes:Nat} {z:Value} {b o:Nat} {vs:List Value} (hT:tu P T=true) (kM:TI P T sz bytes z) (hx:ev e x= .pointer (some ⟨b,o,none⟩)) (hc:iS w b o vs) (hl:vs.length=sz) (k:OW P n ops K rest (cQ e dst (.agg vs.toArray)) w) (hg:gate ops e g=true:=by rfl) (hd:dy n dst=true:=by rfl):
  OW P n ops K (⟨dst,.load T x,ty,pos,after,g⟩::rest) e w:=WZ hT kM hg hd hx hc hl k
def zi {T E:TypeId} {sz bytes:Nat} {z:Value} {b o len cap i:Nat} {ki:IntKind} (hT:P.underlying T=some (.slice E)) (hE:TI P E sz bytes z) (hx:ev e x= .slice (some ⟨b,o,none⟩) len cap) (hy:ev e y= .int ki (i:Int)) (hi:i<len)
  (k:OW P n ops K rest (cQ e dst (.pointer (some ⟨b,o+i*sz,none⟩))) w) (hg:gate ops e g=true:=by rfl) (hd:dy n dst=true:=by rfl):OW P n ops K (⟨dst,.indexAddr T x y,ty,pos,after,g⟩::rest) e w:=W4 hT hE hg hd hx hy hi k
def zx {i:Nat} {vs:List Value} {v:Value} (hx:ev e x= .tuple vs.toArray) (hi:vs[i]?=some v) (k:OW P n ops K rest (cQ e dst v) w) (hg:gate ops e g=true:=by rfl) (hd:dy n dst=true:=by rfl):
  OW P n ops K (⟨dst,.extract x i,ty,pos,after,g⟩::rest) e w:=W7 hg hd hx hi k
end
abbrev aj:=List UInt8
inductive aA where
 |mk (az:aj) (au:List aA)
def aA.az:aA->aj| .mk a _=>a
def aA.au:aA->List aA| .mk _ p=>p
def fC (c:UInt8):Bool:=(97<=c&&c<=122)||(48<=c&&c<=57)||c==43||c==45||c==42||c==62
def PB (c:UInt8):((((((decide ((97:Int)<=c.toNat)&&decide ((c.toNat:Int)<=122))||(decide ((48:Int)<=c.toNat)&&decide ((c.toNat:Int)<=57)))||decide ((c.toNat:Int)=43))||decide ((c.toNat:Int)=45))||decide ((c.toNat:Int)=42))||decide ((c.toNat:Int)=62))=fC c:=by
 have e1:∀k:UInt8,decide (k<=c)=decide ((k.toNat:Int)<=c.toNat):=λk=>by simp[UInt8.le_iff_toNat_le]
 have e2:∀k:UInt8,decide (c<=k)=decide ((c.toNat:Int)<=k.toNat):=λk=>by simp[UInt8.le_iff_toNat_le]
 have e3:∀k:UInt8,(c==k)=decide ((c.toNat:Int)=k.toNat):=λk=>by
  rw[Bool.eq_iff_iff];simp[<-UInt8.toNat_inj];omega
 unfold fC
 rw[e1,e2,e1,e2,e3,e3,e3,e3]
 rfl
def iT (rd:aj->Option (aA×aj)):Nat->aj->Option (List aA×aj)
 |0,_=>none
 |n+1,s=>match rd s with
  |none=>none
  |some (t,r)=>match r with
   |[]=>none
   |c::r'=>if c=41 then some ([t],r') else if c=32 then(iT rd n r').map λp=>(t::p.1,p.2) else none
def fc:Nat->aj->Option (aA×aj)
 |0,s=>match s with
  |[]=>none
  |c::_=>if c=40 then none else if s.takeWhile fC=[] then none else some (.mk (s.takeWhile fC) [],s.dropWhile fC)
 |d+1,s=>match s with
  |[]=>none
  |c::r=>if c=40 then(iT (fc d) (r.length+1) r).map λp=>(.mk [] p.1,p.2)
   else if s.takeWhile fC=[] then none else some (.mk (s.takeWhile fC) [],s.dropWhile fC)
def HB (rd:aj->Option (aA×aj)):Prop:=∀s t r,rd s=some (t,r)->∃k,0<k∧k<=s.length∧r=s.drop k
def C9 (p:UInt8->Bool):∀s:aj,s.dropWhile p=s.drop (s.takeWhile p).length
 |[]=>rfl
 |c::s=>by
  by_cases h:p c=true
  ·simp[List.dropWhile,List.takeWhile,h,C9 p s]
  ·simp[List.dropWhile,List.takeWhile,h]
def EW (p:UInt8->Bool) (s:aj):(s.takeWhile p).length<=s.length:=by
 induction s with
 |nil=>simp
 |cons c s ih=>by_cases h:p c=true<;>simp[List.takeWhile,h]<;>omega
def PC {rd:aj->Option (aA×aj)} (fu:HB rd):∀n s ts r,iT rd n s=some (ts,r)->∃k,0<k∧k<=s.length∧r=s.drop k∧ts.length<=k
 |0,_,_,_,h=>by simp[iT] at h
 |n+1,s,ts,r,h=>by
  unfold iT at h
  cases hr:rd s with
  |none=>simp[hr] at h
  |some p=>
   obtain⟨t,r1⟩:=p
   obtain⟨k,gN,gR,rfl⟩:=fu s t r1 hr
   simp only[hr] at h
   cases hd:s.drop k with
   |nil=>simp[hd] at h
   |cons c r'=>
    simp only[hd] at h
    have rP:r'=s.drop (k+1):=by rw[<-List.drop_drop,hd];rfl
    have Xp:k+1<=s.length:=by
     have:=cA List.length hd
     simp at this;omega
    by_cases h1:c=41
    ·rw[iP h1] at h
     simp at h
     exact⟨k+1,om,Xp,by rw[<-h.2,rP],by rw[<-h.1];simp⟩
    ·rw[iN h1] at h
     by_cases h2:c=32
     ·rw[iP h2] at h
      cases hp:iT rd n r' with
      |none=>simp[hp] at h
      |some q=>
       obtain⟨ts',r''⟩:=q
       simp[hp] at h
       obtain⟨k',Xq,Xr,uI,oA⟩:=PC fu n r' ts' r'' hp
       refine⟨k+1+k',om,?_,?_,?_⟩
       ·have:=cA List.length rP
        simp at this;omega
       ·rw[<-h.2,uI,rP,List.drop_drop]
       ·rw[<-h.1];simp;omega
     ·rw[iN h2] at h;cases h
def HC:∀d,HB (fc d)
 |0,s,t,r,h=>by
  cases s with
  |nil=>simp[fc] at h
  |cons c s=>
   simp only[fc] at h
   by_cases h1:c=40
   ·rw[iP h1] at h;cases h
   ·rw[iN h1] at h
    by_cases h2:(c::s).takeWhile fC=[]
    ·rw[iP h2] at h;cases h
    ·rw[iN h2] at h
     simp only[Option.some.injEq,Prod.mk.injEq] at h
     refine⟨((c::s).takeWhile fC).length,?_,EW _ _,by rw[<-h.2,C9]⟩
     exact List.length_pos_iff.2 h2
 |d+1,s,t,r,h=>by
  cases s with
  |nil=>simp[fc] at h
  |cons c s=>
   simp only[fc] at h
   by_cases h1:c=40
   ·rw[iP h1] at h
    cases hp:iT (fc d) (s.length+1) s with
    |none=>simp[hp] at h
    |some q=>
     obtain⟨ts',r''⟩:=q
     simp[hp] at h
     obtain⟨k',Xq,Xr,uI,_⟩:=PC (HC d) _ s ts' r'' hp
     exact⟨k'+1,om,by simp;omega,by rw[<-h.2,uI];rfl⟩
   ·rw[iN h1] at h
    by_cases h2:(c::s).takeWhile fC=[]
    ·rw[iP h2] at h;cases h
    ·rw[iN h2] at h
     simp only[Option.some.injEq,Prod.mk.injEq] at h
     refine⟨((c::s).takeWhile fC).length,?_,EW _ _,by rw[<-h.2,C9]⟩
     exact List.length_pos_iff.2 h2
def PD {rd:aj->Option (aA×aj)} (fu:HB rd):∀n m s,s.length<n->s.length<m->iT rd n s=iT rd m s
 |0,_,_,h,_=>by omega
 |_+1,0,_,_,h=>by omega
 |n+1,m+1,s,hn,hm=>by
  unfold iT
  cases hr:rd s with
  |none=>rfl
  |some p=>
   obtain⟨t,r1⟩:=p
   obtain⟨k,gN,gR,rfl⟩:=fu s t r1 hr
   simp only
   cases hd:s.drop k with
   |nil=>rfl
   |cons c r'=>
    simp only
    have hl:r'.length+1+k=s.length:=by
     have:=cA List.length hd
     simp at this;omega
    rw[PD fu n m r' om om]
def rT (d:Nat) (s:aj):Option (aA×aj):=match d with
 |0=>none
 |d+1=>fc d s
def Ks:∀d,HB (rT d)
 |0=>λs t r h=>by simp[rT] at h
 |d+1=>HC d
def mQ (d:Nat) (s:aj):Option (List aA×aj):=iT (rT d) (s.length+1) s
def EX (d:Nat) (s:aj):mQ d s=match rT d s with
  |none=>none
  |some (t,r)=>match r with
   |[]=>none
   |c::r'=>if c=41 then some ([t],r') else if c=32 then(mQ d r').map λp=>(t::p.1,p.2) else none:=by
 unfold mQ
 conv=>lhs;unfold iT
 cases hr:rT d s with
 |none=>rfl
 |some p=>
  obtain⟨t,r1⟩:=p
  obtain⟨k,gN,gR,rfl⟩:=Ks d s t r1 hr
  simp only
  cases hd:s.drop k with
  |nil=>rfl
  |cons c r'=>
   simp only
   have hl:r'.length+1+k=s.length:=by
    have:=cA List.length hd
    simp at this;omega
   rw[PD (Ks d) s.length (r'.length+1) r' om om]
def Xs:∀n s,iT (rT 0) n s=none
 |0,_=>rfl
 |n+1,s=>by simp[iT,rT]
def Da (d:Nat) (r:aj):fc d (40::r)=(mQ d r).map λp=>(.mk [] p.1,p.2):=by
 cases d with
 |zero=>simp[fc,mQ,Xs]
 |succ d=>simp[fc,mQ];rfl
def EY (d:Nat) (c:UInt8) (r:aj) (h:c≠40):fc d (c::r)=if(c::r).takeWhile fC=[] then none else some (.mk ((c::r).takeWhile fC) [],(c::r).dropWhile fC):=by
 cases d<;>simp[fc,h]
def PE (d:Nat):fc d []=none:=by cases d<;>rfl
def drop_cons {α:Type} {s:List α} {i:Nat} {c:α} (h:s[i]?=some c):s.drop i=c::s.drop (i+1):=by
 obtain⟨hl,he⟩:=List.getElem?_eq_some_iff.1 h
 rw[List.drop_eq_getElem_cons hl,he]
def Kt (p:UInt8->Bool):∀(s:aj) (k:Nat),k<=(s.takeWhile p).length->(k<(s.takeWhile p).length↔k<s.length∧p (s.getD k 0)=true)
 |[],k,h=>by simp
 |c::s,0,h=>by
  by_cases hc:p c=true
  ·simp[List.takeWhile,hc]
  ·simp[List.takeWhile,hc]
 |c::s,k+1,h=>by
  by_cases hc:p c=true
  ·simp only[List.takeWhile,hc,lC] at h⊢
   have:=Kt p s k om
   rw[List.getD_cons_succ,Nat.add_lt_add_iff_right,Nat.add_lt_add_iff_right]
   exact this
  ·simp[List.takeWhile,hc] at h
def jK {s:aj} {k:Nat} (h:k<s.length):s[k]?=some (s.getD k 0):=by
 rw[gG,gE h];rfl
def HD (p:UInt8->Bool) (s:aj):s.take (s.takeWhile p).length=s.takeWhile p:=by
 induction s with
 |nil=>rfl
 |cons c s ih=>by_cases hc:p c=true<;>simp[List.takeWhile,hc,ih]
def Xt (s:aj) (i k:Nat):(s.drop i).getD k 0=s.getD (i+k) 0:=by
 simp[gG,List.getElem?_drop]
def Xu (s:aj) {i k:Nat} (uH:i<=k) (h:k-i<=((s.drop i).takeWhile fC).length):k-i<((s.drop i).takeWhile fC).length↔k<s.length∧fC (s.getD k 0)=true:=by
 have:=Kt fC (s.drop i) (k-i) h
 rw[Xt,List.length_drop,show i+(k-i)=k from by omega] at this
 rw[this]
 constructor
 ·rintro⟨h1,h2⟩;exact⟨by omega,h2⟩
 ·rintro⟨h1,h2⟩;exact⟨by omega,h2⟩
def Bo (n:Nat) (o:Option (aA×aj)) (t:aA) (en:Int):Prop:=match o with
 |some (t',r)=>t=t'∧en=((n-r.length:Nat):Int)
 |none=>en= -1
def Xv {s:aj} {d k:Nat} {t:aA} {en:Int} (hm:Bo s.length (rT d (s.drop k)) t en) (he:en<0∨(s.length:Int)<=en) (hs:0<s.length):mQ d (s.drop k)=none:=by
 rw[EX]
 unfold Bo at hm
 cases hr:rT d (s.drop k) with
 |none=>rfl
 |some p=>
  obtain⟨t',r⟩:=p
  rw[hr] at hm
  obtain⟨_,h2⟩:=hm
  cases r with
  |nil=>rfl
  |cons c r'=>simp only[lC] at h2;omega
def Xw {s:aj} {d k:Nat} {t:aA} {en:Int} (hm:Bo s.length (rT d (s.drop k)) t en) (h0:0<=en) (h1:en<s.length):
  ∃m:Nat,en=m∧k<m∧m<s.length∧mQ d (s.drop k)=(if s.getD m 0=41 then some ([t],s.drop (m+1)) else if s.getD m 0=32 then(mQ d (s.drop (m+1))).map λp=>(t::p.1,p.2) else none):=by
 rw[EX]
 unfold Bo at hm
 cases hr:rT d (s.drop k) with
 |none=>rw[hr] at hm;omega
 |some p=>
  obtain⟨t',r⟩:=p
  rw[hr] at hm
  obtain⟨rfl,h2⟩:=hm
  obtain⟨j,EP,vW,rfl⟩:=Ks d _ _ _ hr
  rw[List.length_drop] at vW
  rw[List.drop_drop,List.length_drop] at h2
  have eW:k+j<s.length:=by omega
  refine⟨k+j,om,om,eW,?_⟩
  simp only[List.drop_drop]
  rw[drop_cons (jK eW)]
def map_append {o:Option (List aA×aj)} {a:List aA} {t:aA}:(o.map λp=>(t::p.1,p.2)).map (λp=>(a++p.1,p.2))=o.map λp=>((a++[t])++p.1,p.2):=by
 cases o<;>simp
def ba (s:aj):Option aA:=
 if 12000<s.length then none else match fc 60 s with
  |some (t,[])=>some t
  |_=>none
def Xx {s:aj} {t:aA} {en:Int} (hl:s.length<=12000) (hm:Bo s.length (rT 61 (s.drop 0)) t en):decide (en=(s.length:Int))=(ba s).isSome∧∀t',ba s=some t'->t=t':=by
 have e:rT 61 (s.drop 0)=fc 60 s:=rfl
 rw[e] at hm
 unfold Bo at hm
 unfold ba
 rw[iN om]
 cases hr:fc 60 s with
 |none=>
  rw[hr] at hm
  refine⟨?_,λt' h=>by cases h⟩
  simp only[Option.isSome_none,decide_eq_false_iff_not]
  simp only at hm;omega
 |some p=>
  obtain⟨t',r⟩:=p
  rw[hr] at hm
  obtain⟨rfl,h2⟩:=hm
  obtain⟨k,gN,gR,Xy⟩:=HC 60 s _ _ hr
  cases r with
  |nil=>
   refine⟨?_,λt' h=>by simpa using h⟩
   simp at h2⊢;exact h2
  |cons c r'=>
   refine⟨?_,λt' h=>by cases h⟩
   have hlen:=cA List.length Xy
   simp only[lC,List.length_drop] at hlen h2
   simp only[Option.isSome_none,decide_eq_false_iff_not]
   omega
mutual
def aA.text:aA->aj
 | .mk a ps=>if a=[] then 40::(mq ps++[41]) else a
def mq:List aA->aj
 |[]=>[]
 |t::ts=>match ts with
  |[]=>t.text
  |_::_=>t.text++32::mq ts
end
mutual
def aA.enc:aA->List C
 | .mk a ps=>[.val (str a),.sl 2 (dH ps)]
def dH:List aA->List (List C)
 |[]=>[]
 |t::ts=>t.enc::dH ts
end
def xA:∀ps,dH ps=ps.map aA.enc
 |[]=>by simp[dH]
 |t::ts=>by simp[dH,xA ts]
def iI (ps:List aA):(dH ps).length=ps.length:=by simp[xA]
def oZ:∀t:aA,t.enc.length=2
 | .mk _ _=>by simp[aA.enc]
def Xz (ps:List aA):∀row,row∈dH ps->row.length=2:=by
 intro row h
 rw[xA] at h
 obtain⟨t,_,rfl⟩:=List.mem_map.1 h
 exact oZ t
def Ku (a b:List aA):dH (a++b)=dH a++dH b:=by simp[xA]
def Kv {ps:List aA} {i:Nat} {t:aA} (h:ps[i]?=some t):(dH ps)[i]?=some t.enc:=by
 rw[xA,List.getElem?_map,h];rfl
def PF (ps:List aA) (i:Nat):dH (ps.drop i)=(dH ps).drop i:=by simp[xA,List.map_drop]
def bT (L:List Nat) (w:World) (v:Value) (t:aA):Prop:=kD L w v t.enc
def bT.ext {L:List Nat} {w w':World} {v:Value} {t:aA} (h:bT L w v t) (k:ak [] w w'):bT L w' v t:=kD.ext h k
def fI (L:List Nat) (w:World) (v:Value) (ts:List aA):Prop:=cF L w v (.sl 2 (dH ts))
def fI.ext {L:List Nat} {w w':World} {v:Value} {t:List aA} (h:fI L w v t) (k:ak [] w w'):fI L w' v t:=cF.ext h k
def dO {L:List Nat} {w:World} {v:Value} {t:aA} (h:bT L w v t):∃a n c,v= .agg #[str t.az,.slice a n c]∧n=t.au.length∧fI L w (.slice a n c) t.au:=by
 obtain⟨vs,rfl,hr⟩:=h
 cases t with
 |mk at_ ps=>
  rw[aA.enc] at hr
  match vs,hr with
  |[v0,v1],hr=>
   obtain⟨h0,h1,_⟩:=hr
   cases h0
   obtain⟨a,c,rfl,hc⟩:=rN h1
   exact⟨a,_,c,rfl,iI ps,h1⟩
  |[],hr=>exact hr.elim
  |[_],hr=>exact hr.2.elim
  |_::_::_::_,hr=>exact hr.2.2.elim
def lG {L:List Nat} {w:World} {a:aj} {v:Value} {ps:List aA} (h:fI L w v ps):bT L w (.agg #[str a,v]) (.mk a ps):=
 ⟨[str a,v],rfl,by rw[aA.enc];exact⟨.val _,h,trivial⟩⟩
def mT {L:List Nat} {w:World} {v:Value} {t:aA} (h:fI L w v t.au):bT L w (.agg #[str t.az,v]) t:=by
 cases t;exact lG h
def o3 {L:List Nat} {w:World}:fI L w (.slice none 0 0) []:=by unfold fI;rw[dH];exact .nil _ _ _
def j9 {L:List Nat} {w:World} {a:Option Addr} {n c i:Nat} {ts:List aA} {t:aA} (h:fI L w (.slice a n c) ts) (hi:ts[i]?=some t):
  ∃b off pa pn pc,a=some ⟨b,off,none⟩∧iS w b (off+i*2) [str t.az,.slice pa pn pc]∧pn=t.au.length∧fI L w (.slice pa pn pc) t.au:=by
 obtain⟨b,off,vs,ha,hb,hL,hl,hc,hr⟩:=yX h (Kv hi)
 obtain⟨pa,pn,pc,he,hn,hp⟩:=dO (t:=t) ⟨vs,rfl,hr⟩
 have hv:vs=[str t.az,.slice pa pn pc]:=by
  have:=cA (λv=>match v with|Value.agg x=>x.toList|_=>[]) he
  simpa using this
 subst hv
 exact⟨b,off,pa,pn,pc,ha,hc,hn,hp⟩
def aY.aL {w w':World} {b:Nat} {cs:Array Value} {T:TypeId} {L:List Nat} (h:aY w b cs T) (k:ak L w w') (hb:b∉L):aY w' b cs T:=h.aO k hb
def cF.aL {L L':List Nat} {w w':World} {v:Value} {c:C} (h:cF L w v c) (k:ak L' w w') (hL:∀x,x∈L'->x∈L):cF L w' v c:=h.aO (k.mono hL)
def bT.aL {L L':List Nat} {w w':World} {v:Value} {t:aA} (h:bT L w v t) (k:ak L' w w') (hL:∀x,x∈L'->x∈L):bT L w' v t:=kD.aO h (k.mono hL)
def fI.aL {L L':List Nat} {w w':World} {v:Value} {t:List aA} (h:fI L w v t) (k:ak L' w w') (hL:∀x,x∈L'->x∈L):fI L w' v t:=cF.aO h (k.mono hL)
def ik.aL {L L':List Nat} {w w':World} {T:TypeId} {sz:Nat} {v:Value} {g:Option Nat} {rows:List (List C)} {xs:List Value} (h:ik L w T sz v g rows xs) (k:ak L' w w') (hL:∀x,x∈L'->x∈L):ik L w' T sz v g rows xs:=h.aO k hL
def ak.aL {w0 w w':World} {L L':List Nat} (h:ak L w0 w) (k:ak L' w w') (hL:∀x,x∈L'->x∈L∨w0.heap.size<=x):ak L w0 w':=h.since k hL
def zq {w:World} {L:List Nat}:∀x,x∈w.heap.size::L->x∈L∨w.heap.size<=x:=by
 intro x hx
 rcases mC.1 hx with rfl|hx
 ·exact .inr (lR _)
 ·exact .inl hx
def aY.grow {w:World} {b:Nat} {cs:Array Value} {T:TypeId} (h:aY w b cs T):aY w b cs T:=h
def ak.grow {L:List Nat} {w w':World} (h:ak L w w'):ak L w w':=h
def bT.grow {L:List Nat} {w:World} {v:Value} {t:aA} (h:bT L w v t):bT (w.heap.size::L) w v t:=kD.fresh h zq
def fI.grow {L:List Nat} {w:World} {v:Value} {t:List aA} (h:fI L w v t):fI (w.heap.size::L) w v t:=cF.fresh h zq
def ik.grow {L:List Nat} {w:World} {T:TypeId} {sz:Nat} {v:Value} {g:Option Nat} {rows:List (List C)} {xs:List Value} (h:ik L w T sz v g rows xs):ik (w.heap.size::L) w T sz v g rows xs:=h.more zq
def ik.alloc {L:List Nat} {w w':World} {T:TypeId} {sz:Nat} {v:Value} {g:Option Nat} {rows:List (List C)} {xs:List Value} (h:ik L w T sz v g rows xs) (k:ak [] w w') (_:w'.heap.size=w.heap.size+1):ik (w.heap.size::L) w' T sz v g rows xs:=h.grow.ext k
def bT.kQ {L:List Nat} {w:World} {x y:Value} {t:aA} (h:bT L w (.agg #[x,y]) t):dR L w [x,y] t.enc:=by
 obtain⟨vs,he,hr⟩:=h
 have hv:vs=[x,y]:=by
  have:=cA (λv=>match v with|Value.agg x=>x.toList|_=>[]) he
  simpa using this.symm
 rw[<-hv];exact hr
def PG {A B:List Nat} {b:Nat}:∀x,x∈A++(b::B)->x∈b::(A++B):=by
 intro x hx
 rcases mA.1 hx with h|h
 ·simp[h]
 ·rcases mC.1 h with h|h<;>simp[h]
section
variable {P:Program} {n:Nat} {ops:Array Oper} {K:Env->World->Prop} {rest:List Oper} {e:Env} {w w':World}
 {dst:Option Nat} {ty:TypeId} {pos:String} {after:Array Edge} {g:Option (Nat×Bool)} {T:TypeId} {x y:Operand}
def XA {bytes:Nat} {z:Value} {b o:Nat} {v:Value} {vs:List Value} {U:TypeId} (kM:TI P T 1 bytes z) (hg:gate ops e g=true) (hx:ev e x= .pointer (some ⟨b,o,none⟩)) (hy:ev e y=v)
  (h1:v.oneCell'=true) (hb:aY w b vs.toArray U) (ho:Nat.blt o vs.length=true)
  (k:∀w',ak [b] w w'->aY w' b (vs.set o v).toArray U->w'.heap.size=w.heap.size->OW P n ops K rest e w'):OW P n ops K (⟨none,.store T x y,ty,pos,after,g⟩::rest) e w:=
 Ke kM rfl hg hx hy h1 hb (by simpa[Nat.blt_eq] using ho) (λw' hk gX hz=>k w' hk (by simpa using gX) hz)
def gY {bytes:Nat} {z:Value} {b o:Nat} {v:Value} {vs:List Value} {U:TypeId} (kM:TI P T 1 bytes z) (hx:ev e x= .pointer (some ⟨b,o,none⟩)) (hy:ev e y=v) (h1:v.oneCell'=true) (hb:aY w b vs.toArray U) (ho:Nat.blt o vs.length=true) (k:∀w',ak [b] w w'->aY w' b (vs.set o v).toArray U->w'.heap.size=w.heap.size->OW P n ops K rest e w') (hg:gate ops e g=true:=by rfl):OW P n ops K (⟨none,.store T x y,ty,pos,after,g⟩::rest) e w:=XA kM hg hx hy h1 hb ho k
def XB {sz bytes:Nat} {z:Value} {b:Nat} {vs us:List Value} {U:TypeId} (kM:TI P T sz bytes z) (hg:gate ops e g=true)
  (hx:ev e x= .pointer (some ⟨b,0,none⟩)) (hy:ev e y= .agg vs.toArray) (hl:Nat.beq vs.length sz=true) (h1:vs.all Value.oneCell'=true) (hb:aY w b us.toArray U) (cL:Nat.beq us.length sz=true)
  (k:∀w',ak [b] w w'->aY w' b vs.toArray U->w'.heap.size=w.heap.size->OW P n ops K rest e w'):OW P n ops K (⟨none,.store T x y,ty,pos,after,g⟩::rest) e w:=
 W1 kM hg hx hy (Nat.eq_of_beq_eq_true hl) (λu hu=>List.all_eq_true.1 h1 u hu) hb (by simpa using Nat.eq_of_beq_eq_true cL) k
def dw {sz bytes:Nat} {z:Value} {b:Nat} {vs us:List Value} {U:TypeId} (kM:TI P T sz bytes z) (hx:ev e x= .pointer (some ⟨b,0,none⟩)) (hy:ev e y= .agg vs.toArray) (h1:vs.all Value.oneCell'=true) (hb:aY w b us.toArray U) (cL:Nat.beq us.length sz=true) (k:∀w',ak [b] w w'->aY w' b vs.toArray U->w'.heap.size=w.heap.size->OW P n ops K rest e w') (hg:gate ops e g=true:=by rfl) (hl:Nat.beq vs.length sz=true:=by rfl):OW P n ops K (⟨none,.store T x y,ty,pos,after,g⟩::rest) e w:=XB kM hg hx hy hl h1 hb cL k
def XC {E sz bytes:Nat} {z:Value} {vs:List Value} {v:Value} (hT:P.underlying T=some (.slice E)) (hE:TI P E sz bytes z) (_hz:z.cells.size=sz) (oB:0<sz) (dS:sz<=16777216)
  (hv:v.cells=vs.toArray) (hl:vs.length=sz):(Instr.buildSlice T 1 #[(0,v)]).run P w= .ok (.slice (some ⟨w.heap.size,0,none⟩) 1 1) (w.alloc (.cells vs.toArray E)):=by
 have h0:¬sz=0:=by omega
 have hb:¬(16777216<sz):=by omega
 have PH:Instr.fill (λi=>some (i*sz,sz)) ((Array.range (1*sz)).map (z.cells[·%z.cells.size]!)) [(0,v)]=some vs.toArray:=by
  simp only[Instr.fill,Nat.zero_mul,hv,Nat.zero_add]
  rw[iN (by simp[hl])]
  congr 1
  have key:∀(us:List Value) (i:Nat) (pre:List Value) (cs:Array Value),cs.size=pre.length+us.length->cs.toList.take i=pre->i=pre.length->
    ((us.zipIdx i).foldl (fun(cs:Array Value) (p:Value×Nat)=>cs.setIfInBounds (0+p.2) p.1) cs)=(pre++us).toArray:=by
   intro us
   induction us with
   |nil=>
    intro i pre cs hs ht hi
    apply Array.ext'
    simp only[List.zipIdx_nil,List.foldl_nil,List.append_nil]
    rw[<-ht,List.take_of_length_le (by simp at hs⊢;omega)]
   |cons u us ih=>
    intro i pre cs hs ht hi
    rw[List.zipIdx_cons,List.foldl_cons]
    simp only[lC] at hs
    have:=ih (i+1) (pre++[u]) (cs.setIfInBounds (0+i) u) so (by
     rw[Nat.zero_add,Array.toList_setIfInBounds,List.take_add_one,List.getElem?_set_self so,List.take_set_of_le (lR i),ht];simp) so
    rw[this];simp
  have:=key vs 0 [] ((Array.range (1*sz)).map (z.cells[·%z.cells.size]!)) (by simp[hl]) sm rfl
  simpa using this
 simp only[Instr.buildSlice,Sem.run_bind,run_underlying hT,Result.andThen_ok,hE.tt,Nat.one_mul]
 rw[Nat.one_mul] at PH
 simp[hb,h0,hE.Kd,PH,newRow]
def XD {E sz bytes:Nat} {z:Value} {vs:List Value} {v:Value} {q:Operand} (hT:P.underlying T=some (.slice E)) (hE:TI P E sz bytes z) (hg:gate ops e g=true) (hd:dy n dst=true) (hz:Nat.beq z.cells.size sz=true) (oB:Nat.blt 0 sz=true) (dS:Nat.ble sz 16777216=true)
  (hq:ev e q=v) (hv:v.cells=vs.toArray) (hl:Nat.beq vs.length sz=true)
  (k:∀w',ak [] w w'->aY w' w.heap.size vs.toArray E->w'.heap.size=w.heap.size+1->OW P n ops K rest (cQ e dst (.slice (some ⟨w.heap.size,0,none⟩) 1 1)) w'):
  OW P n ops K (⟨dst,.buildSlice T 1 #[(0,q)],ty,pos,after,g⟩::rest) e w:=
 fT hg hd (w':=w.alloc (.cells vs.toArray E)) (by
  have:=XC (P:=P) (w:=w) (vs:=vs) (v:=v) hT hE (Nat.eq_of_beq_eq_true hz) (by simpa[Nat.blt_eq] using oB) (Nat.le_of_ble_eq_true dS) hv (Nat.eq_of_beq_eq_true hl)
  simp[execOp,hq,this]) (k _ (ak.alloc _ _ _) (aY.alloc _ _ _) sm)
def gH {E sz bytes:Nat} {z:Value} {vs:List Value} {v:Value} {q:Operand} (hT:P.underlying T=some (.slice E)) (hE:TI P E sz bytes z) (hq:ev e q=v) (hv:v.cells=vs.toArray) (k:∀w',ak [] w w'->aY w' w.heap.size vs.toArray E->w'.heap.size=w.heap.size+1->OW P n ops K rest (cQ e dst (.slice (some ⟨w.heap.size,0,none⟩) 1 1)) w') (hg:gate ops e g=true:=by rfl) (hd:dy n dst=true:=by rfl) (hz:Nat.beq z.cells.size sz=true:=by rfl) (oB:Nat.blt 0 sz=true:=by rfl) (dS:Nat.ble sz 16777216=true:=by rfl) (hl:Nat.beq vs.length sz=true:=by rfl):OW P n ops K (⟨dst,.buildSlice T 1 #[(0,q)],ty,pos,after,g⟩::rest) e w:=XD hT hE hg hd hz oB dS hq hv hl k
def PI {L:List Nat} {t E sz bytes:Nat} {z:Value} {v:Value} {gb:Option Nat} {rows new:List (List C)} {xs news:List Value} {b o m c:Nat} (hT:P.underlying t=some (.slice E)) (hE:TI P E sz bytes z) (hg:gate ops e g=true) (hd:dy n dst=true) (hz:Nat.beq z.cells.size sz=true)
  (hx:ev e x=v) (ey:ik L w E sz v gb rows xs) (hy:ev e y= .slice (some ⟨b,o,none⟩) m c) (hm:new.length=m) (tq:0<m) (iZ:∀row,row∈new->row.length=sz) (hc:iS w b o news) (h1:∀u∈news,u.oneCell'=true)
  (hr:dR (gb.toList++L) w news new.flatten) (hL:∀x,x∈L->x<w.heap.size) (hb:(rows.length+m)*(bytes+1)<=140737488355328)
  (k:∀a' cap' g' w',ik L w' E sz (.slice a' (rows.length+m) cap') g' (rows++new) (xs++news)->ak gb.toList w w'->(g'=gb∨g'=some w.heap.size)->OW P n ops K rest (cQ e dst (.slice a' (rows.length+m) cap')) w'):
  OW P n ops K (⟨dst,.call {callee:=.builtin .append,args:=#[x,y],argTypes:=#[t,t]},ty,pos,after,g⟩::rest) e w:=by
 obtain⟨i,hi,Bp,iY,ij⟩:=hE.get
 obtain⟨v',g',w',kn,xB,hk,k8⟩:=ik.app (P:=P) (ty:=ty) hT hi Bp iY ij (Nat.eq_of_beq_eq_true hz) ey b o m c new news hm tq iZ hc h1 hr hL hb
 obtain⟨a',cap',he⟩:=xB.len
 rw[lA,hm] at he
 subst he
 exact fT hg hd (w':=w') (by
  simp only[execOp,resolve,invoke,builtin,Sem.run_bind,Sem.run_pure,Result.andThen_ok,List.map_toArray,List.map_cons,List.map_nil,hx,hy,kn]) (k a' cap' g' w' xB hk k8)
end
def ik.sep {L:List Nat} {w:World} {T:TypeId} {sz:Nat} {v:Value} {g:Option Nat} {rows:List (List C)} {xs:List Value} (h:ik L w T sz v g rows xs) {b:Nat} (hb:b∈L):b∉g.toList:=by
 intro hx
 exact h.out b (by simpa using hx) hb
def PJ {P:Program} {n:Nat} {ops:Array Oper} {K:Env->World->Prop} {rest:List Oper} {e:Env} {w:World}
  {dst:Option Nat} {ty:TypeId} {pos:String} {after:Array Edge} {g:Option (Nat×Bool)} {x y:Operand}
  {L:List Nat} {t E sz bytes:Nat} {z:Value} {v:Value} {gb:Option Nat} {rows:List (List C)} {row:List C} {xs news:List Value} {b o c:Nat} (hT:P.underlying t=some (.slice E)) (hE:TI P E sz bytes z) (hg:gate ops e g=true) (hd:dy n dst=true) (hz:Nat.beq z.cells.size sz=true)
  (hx:ev e x=v) (hy:ev e y= .slice (some ⟨b,o,none⟩) 1 c) (ey:ik L w E sz v gb rows xs) (iZ:row.length=sz) (hc:iS w b o news) (h1:∀u∈news,u.oneCell'=true)
  (hr:dR (gb.toList++L) w news row) (hL:∀x,x∈L->x<w.heap.size) (hb:(rows.length+1)*(bytes+1)<=140737488355328)
  (k:∀a' cap' g' w',ik L w' E sz (.slice a' (rows.length+1) cap') g' (rows++[row]) (xs++news)->ak gb.toList w w'->(g'=gb∨g'=some w.heap.size)->OW P n ops K rest (cQ e dst (.slice a' (rows.length+1) cap')) w'):
  OW P n ops K (⟨dst,.call {callee:=.builtin .append,args:=#[x,y],argTypes:=#[t,t]},ty,pos,after,g⟩::rest) e w:=
 PI (new:=[row]) (m:=1) hT hE hg hd hz hx ey hy rfl de (by intro r h;simp at h;rw[h];exact iZ) hc h1 (by simpa using hr) hL hb k
def dR.EZ {L:List Nat} {w:World}:∀{vs:List Value} {cs:List C},dR L w vs cs->(∀c,c∈cs->∀v,c= .val v->v.oneCell'=true)->∀u∈vs,u.oneCell'=true
 |[],[],_,_,u,hu=>by simp at hu
 |v::vs,c::cs,h,hc,u,hu=>by
  rcases mC.1 hu with rfl|hu
  ·cases h.1 with
   |val=>exact hc _ sm _ rfl
   |nil=>rfl
   |sl=>rfl
  ·exact dR.EZ h.2 (λc pG v hv=>hc c (by simp[pG]) v hv) u hu
def zt (P:Program) (e:Env) (w:World):ResultVar->Value->Prop
 | .tmp t,v=>e t=v
 | .cell t ty,v=>Po P e t ty v w
def HE (P:Program) (e:Env) (w:World):List ResultVar->List Value->Prop
 |[],[]=>True
 |[r],[v]=>zt P e w r v
 |r::rs,v::vs=>zt P e w r v∧HE P e w rs vs
 |_,_=>False
def zu:List Value->Value
 |[v]=>v
 |vs=>.tuple vs.toArray
def HF (tmps:Array Value):ResultVar->Sem Value
 | .tmp t=>pure (tmps.getD t undef)
 | .cell a t=>do loadVar t (<-asAddr (tmps.getD a undef))
def E0 (fn:Func) (tmps:Array Value):results fn tmps=(do let vs<-fn.results.mapM (HF tmps);pure (if h:vs.size=1 then vs[0] else .tuple vs)):=rfl
def wc {P:Program} {e:Env} {w:World} {tmps:Array Value} (hg:∀t,tmps.getD t undef=e t) {r:ResultVar} {v:Value} (h:zt P e w r v):(HF tmps r).run P w= .ok v w:=by
 cases r with
 |tmp t=>simp only[zt] at h;simp only[HF,hg,h];rfl
 |cell t ty=>
  obtain⟨a,ha,hl⟩:=h
  simp only[HF,hg,ha,asAddr,Sem.run_bind,Sem.run_pure,Result.andThen_ok,hl]
def PK {fn:Func} {rs:List ResultVar} (hr:fn.results=rs.toArray) {tmps:Array Value} {e:Env} (hg:∀t,tmps.getD t undef=e t) {vs:List Value} {P:Program} {w:World} (h:HE P e w rs vs) (hl:rs.length<=4):
  (results fn tmps).run P w= .ok (zu vs) w:=by
 match rs,vs,h with
 |[],[],_=>simp[E0,hr,zu]
 |[r],[v],h=>
  have h1:=wc (tmps:=tmps) hg (show zt P e w r v from h)
  simp[E0,hr,zu,h1]
 |[r,r2],[v,v2],h=>
  have h1:=wc (tmps:=tmps) hg h.1
  have h2:=wc (tmps:=tmps) hg (show zt P e w r2 v2 from h.2)
  simp[E0,hr,zu,h1,h2]
 |[r,r2,r3],[v,v2,v3],h=>
  have h1:=wc (tmps:=tmps) hg h.1
  have h2:=wc (tmps:=tmps) hg h.2.1
  have h3:=wc (tmps:=tmps) hg (show zt P e w r3 v3 from h.2.2)
  simp[E0,hr,zu,h1,h2,h3]
 |[r,r2,r3,r4],[v,v2,v3,v4],h=>
  have h1:=wc (tmps:=tmps) hg h.1
  have h2:=wc (tmps:=tmps) hg h.2.1
  have h3:=wc (tmps:=tmps) hg h.2.2.1
  have h4:=wc (tmps:=tmps) hg (show zt P e w r4 v4 from h.2.2.2)
  simp[E0,hr,zu,h1,h2,h3,h4]
 |_::_::_::_::_::_,_,_=>simp at hl
def lH {P:Program} {f:FuncId} {fn:Func} {c:Code} {args:List Value} {w:World} {S:Value->World->Prop} (rs:List ResultVar) (n:Nat)
  (hf:P.funcs[f]?=some fn) (hb:fn.body=some c) (hn:(fn.name== "runtime.NumGoroutine")=false) (hr:fn.results=rs.toArray) (iY:args.length+(fn.ntmps-args.length)=n) (hl:Nat.ble rs.length 4=true)
  (h:CW P n c (λe w'=>∃vs,HE P e w' rs vs∧S (zu vs) w') (λe w'=>∃vs,HE P e w' rs vs∧S (zu vs) w') (λ_ _ _=>False) (start args) w):ck P f args w S:=by
 refine⟨⟨fn,hf,by rw[hb];rfl,hn⟩,calls_of_wp hf hb (wp_mono (h _ ?_) λx a w' hq=>?_)⟩
 ·rw[<-iY];simpa using Pn args (fn.ntmps-args.length)
 ·cases x<;>simp only[lD] at hq
  ·obtain⟨e,lE,vs,hv,hs⟩:=hq
   exact bodyPost_end (PK hr lE.get hv (Nat.le_of_ble_eq_true hl)) lE.defers ⟨_,rfl,hs⟩
  ·obtain⟨e,lE,hs⟩:=hq;exact hs.elim
  ·obtain⟨e,lE,vs,hv,hs⟩:=hq
   exact bodyPost_ret (PK hr lE.get hv (Nat.le_of_ble_eq_true hl)) lE.defers ⟨_,rfl,hs⟩
section
variable {P:Program} {n:Nat} {ops:Array Oper} {K:Env->World->Prop} {rest:List Oper} {e:Env} {w:World}
 {dst:Option Nat} {ty:TypeId} {pos:String} {after:Array Edge} {g:Option (Nat×Bool)}
def XE {at_:Array TypeId} {x y:Operand} {i j z:Int} {k:IntKind} (hg:gate ops e g=true) (hd:dy n dst=true) (hx:ev e x= .int k i) (hy:ev e y= .int k j) (hz:(if j<i then j else i)=z)
  (kk:OW P n ops K rest (cQ e dst (.int k z)) w):OW P n ops K (⟨dst,.call {callee:=.builtin .min,args:=#[x,y],argTypes:=at_},ty,pos,after,g⟩::rest) e w:=
 fT hg hd (by
  simp[execOp,resolve,invoke,builtin,hx,hy,Builtin.min_,Builtin.min2,hz]) kk
def XF {at_:Array TypeId} {x y y2:Operand} {i j j2 z:Int} {k:IntKind} (hg:gate ops e g=true) (hd:dy n dst=true) (hx:ev e x= .int k i) (hy:ev e y= .int k j) (we:ev e y2= .int k j2) (hz:(if j2<(if j<i then j else i) then j2 else(if j<i then j else i))=z)
  (kk:OW P n ops K rest (cQ e dst (.int k z)) w):OW P n ops K (⟨dst,.call {callee:=.builtin .min,args:=#[x,y,y2],argTypes:=at_},ty,pos,after,g⟩::rest) e w:=
 fT hg hd (by
  simp[execOp,resolve,invoke,builtin,hx,hy,we,Builtin.min_,Builtin.min2,hz]) kk
def XG {at_:Array TypeId} {x y:Operand} {i j z:Int} {k:IntKind} (hg:gate ops e g=true) (hd:dy n dst=true) (hx:ev e x= .int k i) (hy:ev e y= .int k j) (hz:(if i<j then j else i)=z)
  (kk:OW P n ops K rest (cQ e dst (.int k z)) w):OW P n ops K (⟨dst,.call {callee:=.builtin .max,args:=#[x,y],argTypes:=at_},ty,pos,after,g⟩::rest) e w:=
 fT hg hd (by
  simp[execOp,resolve,invoke,builtin,hx,hy,Builtin.max_,Builtin.max2,hz]) kk
def PL {fn:Fn} {xs:List Operand} {vs:List Value} (hg:gate ops e g=true) (hd:dy n dst=true) (hv:xs.map (ev e)=vs)
  (kk:OW P n ops K rest (cQ e dst (.func fn #[] vs.toArray)) w):OW P n ops K (⟨dst,.makeFunc fn #[] xs.toArray,ty,pos,after,g⟩::rest) e w:=
 fT hg hd (by subst hv;simp[execOp,Instr.makeFunc]) kk
def PM {c:Operand} {f:FuncId} {caps:List Value} {xs:List Operand} {ats:Array TypeId} {S:Value->World->Prop} (hg:gate ops e g=true) (hd:dy n dst=true) (hc:ev e c= .func (.func f) #[] caps.toArray) (h:ck P f (xs.map (ev e)++caps) w S)
  (k:∀v w',S v w'->OW P n ops K rest (cQ e dst v) w'):OW P n ops K (⟨dst,.call {callee:=.value c,args:=xs.toArray,argTypes:=ats},ty,pos,after,g⟩::rest) e w:=λa ha Q=>by
 unfold wpList
 rw[iP (by rw[EI ha];exact hg)]
 refine .inl ?_
 unfold Oper.wp
 have kn:(execOp (ev e) ⟨dst,.call {callee:=.value c,args:=xs.toArray,argTypes:=ats},ty,pos,after,g⟩).run P w= .ok (.enter f (xs.map (ev e)++caps).toArray) w:=by
  simp only[execOp,resolve,hc,Deferred.ofValue,Sem.run_bind,Sem.run_pure,Result.andThen_ok,invoke]
  simp[Pr h.1]
 rw[ha.eval,kn,Oper.upon_enter]
 exact Calls.mono h.2 λx w' ⟨v,hx,hs⟩=>by subst hx;exact k v w' hs _ (ha.cQ hd v) Q
end
def XH:NG Tryz.f100:=ng
def XI:NG Tryz.f101:=ng
def XJ:NG Tryz.f104:=ng
def XK:NG Tryz.f105:=ng
def XL:NG Tryz.f106:=ng
def XM:NG Tryz.f107:=ng
def XN:NG Tryz.f108:=ng
def XO:NG Tryz.f109:=ng
def XP:NG Tryz.f110:=ng
def XQ:NG Tryz.f111:=ng
def XR:NG Tryz.f112:=ng
def XS:NG Tryz.f113:=ng
def XT:NG Tryz.f114:=ng
def XU:NG Tryz.f115:=ng
def XV:NG Tryz.f116:=ng
def XW:NG Tryz.f117:=ng
def XX:NG Tryz.f118:=ng
def PN:NG Tryz.f119:=ng
def XY:NG Tryz.f12:=ng
def XZ:NG Tryz.f121:=ng
def X0:NG Tryz.f122:=ng
def X4:NG Tryz.f123:=ng
def X5:NG Tryz.f125:=ng
def X6:NG Tryz.f126:=ng
def X7:NG Tryz.f127:=ng
def X8:NG Tryz.f128:=ng
def X9:NG Tryz.f129:=ng
def Ya:NG Tryz.f130:=ng
def Yb:NG Tryz.f136:=ng
def Yc:NG Tryz.f137:=ng
def Yd:NG Tryz.f138:=ng
def Ye:NG Tryz.f139:=ng
def Yf:NG Tryz.f140:=ng
def Yg:NG Tryz.f141:=ng
def Yh:NG Tryz.f142:=ng
def Yi:NG Tryz.f143:=ng
def Yj:NG Tryz.f144:=ng
def Yk:NG Tryz.f145:=ng
def Yl:NG Tryz.f146:=ng
def Ym:NG Tryz.f147:=ng
def Yn:NG Tryz.f148:=ng
def Yo:NG Tryz.f149:=ng
def Yp:NG Tryz.f150:=ng
def Yq:NG Tryz.f151:=ng
def Yr:NG Tryz.f152:=ng
def Ys:NG Tryz.f153:=ng
def Yt:NG Tryz.f154:=ng
def PO:NG Tryz.f155:=ng
def Yu:NG Tryz.f156:=ng
def Yv:NG Tryz.f157:=ng
def Yw:NG Tryz.f158:=ng
def Yx:NG Tryz.f159:=ng
def Yy:NG Tryz.f161:=ng
def Yz:NG Tryz.f162:=ng
def YA:NG Tryz.f163:=ng
def YB:NG Tryz.f164:=ng
def YC:NG Tryz.f175:=ng
def YD:NG Tryz.f176:=ng
def YE:NG Tryz.f177:=ng
def YF:NG Tryz.f178:=ng
def YG:NG Tryz.f179:=ng
def YH:NG Tryz.f180:=ng
def YI:NG Tryz.f181:=ng
def YJ:NG Tryz.f182:=ng
def YK:NG Tryz.f183:=ng
def YL:NG Tryz.f184:=ng
def YM:NG Tryz.f185:=ng
def YN:NG Tryz.f186:=ng
def YO:NG Tryz.f187:=ng
def Kw:NG Tryz.f188:=ng
def YP:NG Tryz.f189:=ng
def YQ:NG Tryz.f201:=ng
def YR:NG Tryz.f202:=ng
def YS:NG Tryz.f203:=ng
def YT:NG Tryz.f204:=ng
def YU:NG Tryz.f205:=ng
def YV:NG Tryz.f206:=ng
def YW:NG Tryz.f212:=ng
def YX:NG Tryz.f23:=ng
def YY:NG Tryz.f24:=ng
def YZ:NG Tryz.f25:=ng
def Y0:NG Tryz.f26:=ng
def Y1:NG Tryz.f27:=ng
def Y2:NG Tryz.f28:=ng
def Y3:NG Tryz.f29:=ng
def Y4:NG Tryz.f3:=ng
def Y5:NG Tryz.f30:=ng
def Y6:NG Tryz.f31:=ng
def Y7:NG Tryz.f32:=ng
def Y8:NG Tryz.f34:=ng
def Y9:NG Tryz.f35:=ng
def Za:NG Tryz.f36:=ng
def PQ:NG Tryz.f38:=ng
def Zb:NG Tryz.f39:=ng
def Zc:NG Tryz.f48:=ng
def Zd:NG Tryz.f49:=ng
def Ze:NG Tryz.f50:=ng
def Zf:NG Tryz.f51:=ng
def Zg:NG Tryz.f52:=ng
def Zh:NG Tryz.f53:=ng
def Zi:NG Tryz.f54:=ng
def Zj:NG Tryz.f55:=ng
def Zk:NG Tryz.f56:=ng
def Zl:NG Tryz.f57:=ng
def Zm:NG Tryz.f58:=ng
def Zn:NG Tryz.f59:=ng
def Zo:NG Tryz.f60:=ng
def Zp:NG Tryz.f61:=ng
def Zq:NG Tryz.f62:=ng
def Zr:NG Tryz.f64:=ng
def Zs:NG Tryz.f65:=ng
def HG:NG Tryz.f66:=ng
def Zt:NG Tryz.f7:=ng
def Zu:NG Tryz.f74:=ng
def Zv:NG Tryz.f75:=ng
def Zw:NG Tryz.f77:=ng
def Zx:NG Tryz.f78:=ng
def Zy:NG Tryz.f79:=ng
def Zz:NG Tryz.f8:=ng
def ZA:NG Tryz.f80:=ng
def ZB:NG Tryz.f81:=ng
def ZC:NG Tryz.f82:=ng
def ZD:NG Tryz.f83:=ng
def ZE:NG Tryz.f84:=ng
def PR:NG Tryz.f85:=ng
def ZF:NG Tryz.f86:=ng
def ZG:NG Tryz.f87:=ng
def ZH:NG Tryz.f88:=ng
def ZI:NG Tryz.f89:=ng
def ZJ:NG Tryz.f9:=ng
def ZK:NG Tryz.f90:=ng
def ZL:NG Tryz.f91:=ng
def ZM:NG Tryz.f92:=ng
def ZN:NG Tryz.f93:=ng
def ZO:NG Tryz.f94:=ng
def ZP:NG Tryz.f95:=ng
def ZQ:NG Tryz.f96:=ng
def ZR:NG Tryz.f98:=ng
def ZS:NG Tryz.f99:=ng
def mU:tu Tryz.prog 104=true:=by kernel_rfl
def Db:tu Tryz.prog 130=true:=by kernel_rfl
def Bq:tu Tryz.prog 29=true:=by kernel_rfl
def Br:tu Tryz.prog 53=true:=by kernel_rfl
def ka:tu Tryz.prog 58=true:=by kernel_rfl
def bU:tu Tryz.prog 66=true:=by kernel_rfl
def Kx:∀(x0a:Option Addr) (x0n x0c:Nat) (x1a:Option Addr) (x1n x1c:Nat) (w:World),(Instr.build 104 #[(0,(.slice x0a x0n x0c)),(1,(.slice x1a x1n x1c))]).run Tryz.prog w= .ok (.agg #[.slice x0a x0n x0c,.slice x1a x1n x1c]) w:=by intros;kernel_rfl
def ZT:∀(x0a:Option Addr) (x0n x0c:Nat) (x1a:Option Addr) (x1n x1c:Nat) (w:World),(Instr.build 127 #[(0,(.slice x0a x0n x0c)),(1,(.slice x1a x1n x1c))]).run Tryz.prog w= .ok (.agg #[.slice x0a x0n x0c,.slice x1a x1n x1c,.int .i64 0,.bool false,.slice none 0 0,.slice none 0 0]) w:=by intros;kernel_rfl
def ZU:∀(x0a:Option Addr) (x0n x0c:Nat) (x1:Int) (x2a:Option Addr) (x2n x2c:Nat) (x3a:Option Addr) (x3n x3c:Nat) (w:World),(Instr.build 151 #[(0,(.slice x0a x0n x0c)),(1,(.int .i64 x1)),(2,(.slice x2a x2n x2c)),(3,(.slice x3a x3n x3c))]).run Tryz.prog w= .ok (.agg #[.slice x0a x0n x0c,.int .i64 x1,.slice x2a x2n x2c,.slice x3a x3n x3c]) w:=by intros;kernel_rfl
def ZV:∀(x0a:Option Addr) (x0n x0c:Nat) (x1:Int) (w:World),(Instr.build 188 #[(0,(.slice x0a x0n x0c)),(1,(.int .i64 x1))]).run Tryz.prog w= .ok (.agg #[.slice x0a x0n x0c,.int .i64 x1]) w:=by intros;kernel_rfl
def Ky:∀(x0:ByteArray) (x1a:Option Addr) (x1n x1c:Nat) (x2a:Option Addr) (x2n x2c:Nat) (w:World),(Instr.build 29 #[(0,(.string x0)),(1,(.slice x1a x1n x1c)),(2,(.slice x2a x2n x2c))]).run Tryz.prog w= .ok (.agg #[.string x0,.slice x1a x1n x1c,.slice x2a x2n x2c]) w:=by intros;kernel_rfl
def Kz:∀(w:World),(Instr.build 53 #[]).run Tryz.prog w= .ok (.agg #[.string ⟨#[]⟩,.slice none 0 0,.slice none 0 0]) w:=by intros;kernel_rfl
def ZW:∀(x0:ByteArray) (w:World),(Instr.build 53 #[(0,(.string x0))]).run Tryz.prog w= .ok (.agg #[.string x0,.slice none 0 0,.slice none 0 0]) w:=by intros;kernel_rfl
def KB:∀(w:World),(Instr.build 58 #[]).run Tryz.prog w= .ok (.agg #[.string ⟨#[]⟩,.slice none 0 0]) w:=by intros;kernel_rfl
def ZX:∀(x0:ByteArray) (w:World),(Instr.build 58 #[(0,(.string x0))]).run Tryz.prog w= .ok (.agg #[.string x0,.slice none 0 0]) w:=by intros;kernel_rfl
def E1:∀(w:World),(Instr.build 66 #[]).run Tryz.prog w= .ok (.agg #[.string ⟨#[]⟩,.slice none 0 0]) w:=by intros;kernel_rfl
def ZY:∀(x0:ByteArray) (w:World),(Instr.build 66 #[(0,(.string x0))]).run Tryz.prog w= .ok (.agg #[.string x0,.slice none 0 0]) w:=by intros;kernel_rfl
def KC:∀(x1a:Option Addr) (x1n x1c:Nat) (w:World),(Instr.build 66 #[(1,(.slice x1a x1n x1c))]).run Tryz.prog w= .ok (.agg #[.string ⟨#[]⟩,.slice x1a x1n x1c]) w:=by intros;kernel_rfl
def ZZ:∀(x0a:Option Addr) (x0n x0c:Nat) (w:World),(Instr.build 77 #[(0,(.slice x0a x0n x0c))]).run Tryz.prog w= .ok (.agg #[.slice x0a x0n x0c,.int .i64 0]) w:=by intros;kernel_rfl
def HH:Tryz.prog.underlying 4=some .bool:=by kernel_rfl
def E2:iy Tryz.prog 104 0=some 0:=by kernel_rfl
def PS:iy Tryz.prog 104 1=some 1:=by kernel_rfl
def KD:iy Tryz.prog 127 0=some 0:=by kernel_rfl
def zv:iy Tryz.prog 127 1=some 1:=by kernel_rfl
def KE:iy Tryz.prog 127 2=some 2:=by kernel_rfl
def PT:iy Tryz.prog 127 3=some 3:=by kernel_rfl
def Dc:iy Tryz.prog 127 4=some 4:=by kernel_rfl
def zw:iy Tryz.prog 127 5=some 5:=by kernel_rfl
def KF:iy Tryz.prog 130 0=some 0:=by kernel_rfl
def Dd:iy Tryz.prog 130 1=some 1:=by kernel_rfl
def Z0:iy Tryz.prog 130 10=some 11:=by kernel_rfl
def PU:iy Tryz.prog 130 2=some 2:=by kernel_rfl
def Bt:iy Tryz.prog 130 3=some 3:=by kernel_rfl
def zy:iy Tryz.prog 130 4=some 4:=by kernel_rfl
def KG:iy Tryz.prog 130 5=some 5:=by kernel_rfl
def De:iy Tryz.prog 130 6=some 6:=by kernel_rfl
def PV:iy Tryz.prog 130 7=some 7:=by kernel_rfl
def HI:iy Tryz.prog 130 8=some 9:=by kernel_rfl
def KH:iy Tryz.prog 130 9=some 10:=by kernel_rfl
def Z1:iy Tryz.prog 151 0=some 0:=by kernel_rfl
def HJ:iy Tryz.prog 151 1=some 1:=by kernel_rfl
def xC:iy Tryz.prog 151 2=some 2:=by kernel_rfl
def zz:iy Tryz.prog 151 3=some 3:=by kernel_rfl
def Z2:iy Tryz.prog 188 0=some 0:=by kernel_rfl
def HK:iy Tryz.prog 188 1=some 1:=by kernel_rfl
def xD:iy Tryz.prog 29 0=some 0:=by kernel_rfl
def xF:iy Tryz.prog 29 1=some 1:=by kernel_rfl
def mV:iy Tryz.prog 29 2=some 2:=by kernel_rfl
def KI:iy Tryz.prog 53 0=some 0:=by kernel_rfl
def KJ:iy Tryz.prog 53 1=some 1:=by kernel_rfl
def PW:iy Tryz.prog 53 2=some 2:=by kernel_rfl
def zB:iy Tryz.prog 58 0=some 0:=by kernel_rfl
def uJ:iy Tryz.prog 58 1=some 1:=by kernel_rfl
def dB:iy Tryz.prog 66 0=some 0:=by kernel_rfl
def cN:iy Tryz.prog 66 1=some 1:=by kernel_rfl
def zC:iy Tryz.prog 77 0=some 0:=by kernel_rfl
def KL:iy Tryz.prog 77 1=some 1:=by kernel_rfl
def kR:TI Tryz.prog 104 2 48 (.agg #[.slice none 0 0,.slice none 0 0]):=by unfold TI;kernel_rfl
def KM:TI Tryz.prog 125 1 24 (.slice none 0 0):=by unfold TI;kernel_rfl
def Z3:TI Tryz.prog 128 1 24 (.slice none 0 0):=by unfold TI;kernel_rfl
def k9:TI Tryz.prog 130 12 216 (.agg #[.string ⟨#[]⟩,.slice none 0 0,.int .i64 0,.slice none 0 0,.slice none 0 0,.slice none 0 0,.slice none 0 0,.string ⟨#[]⟩,.slice none 0 0,.int .i64 0,.string ⟨#[]⟩,.int .i64 0]):=by unfold TI;kernel_rfl
def Z4:TI Tryz.prog 23 1 24 (.slice none 0 0):=by unfold TI;kernel_rfl
def nO:TI Tryz.prog 27 1 24 (.slice none 0 0):=by unfold TI;kernel_rfl
def gT:TI Tryz.prog 29 3 64 (.agg #[.string ⟨#[]⟩,.slice none 0 0,.slice none 0 0]):=by unfold TI;kernel_rfl
def tE:TI Tryz.prog 3 1 8 (.int .i64 0):=by unfold TI;kernel_rfl
def Z5:TI Tryz.prog 4 1 1 (.bool false):=by unfold TI;kernel_rfl
def Df:TI Tryz.prog 5 1 1 (.int .u8 0):=by unfold TI;kernel_rfl
def KN:TI Tryz.prog 51 1 24 (.slice none 0 0):=by unfold TI;kernel_rfl
def mW:TI Tryz.prog 53 3 64 (.agg #[.string ⟨#[]⟩,.slice none 0 0,.slice none 0 0]):=by unfold TI;kernel_rfl
def fg:TI Tryz.prog 58 2 40 (.agg #[.string ⟨#[]⟩,.slice none 0 0]):=by unfold TI;kernel_rfl
def E3:TI Tryz.prog 64 1 24 (.slice none 0 0):=by unfold TI;kernel_rfl
def aH:TI Tryz.prog 66 2 40 (.agg #[.string ⟨#[]⟩,.slice none 0 0]):=by unfold TI;kernel_rfl
def bA:TI Tryz.prog 9 1 16 (.string ⟨#[]⟩):=by unfold TI;kernel_rfl
def Z6:TI Tryz.prog 94 2 32 (.agg #[.pointer none,.slice none 0 0]):=by unfold TI;kernel_rfl
def KO:Tryz.prog.underlying 170=some (.int .u64):=by kernel_rfl
def xG:Tryz.prog.underlying 3=some (.int .i64):=by kernel_rfl
def zD:Tryz.prog.underlying 5=some (.int .u8):=by kernel_rfl
def et:Tryz.prog.follows .mixedOrders=true:=by kernel_rfl
def E4:qP Tryz.prog 125=true:=by kernel_rfl
def PX:qP Tryz.prog 128=true:=by kernel_rfl
def zE:qP Tryz.prog 22=true:=by kernel_rfl
def PY:qP Tryz.prog 23=true:=by kernel_rfl
def eS:qP Tryz.prog 27=true:=by kernel_rfl
def qT:qP Tryz.prog 3=true:=by kernel_rfl
def Dg:qP Tryz.prog 4=true:=by kernel_rfl
def KP:qP Tryz.prog 5=true:=by kernel_rfl
def sw:qP Tryz.prog 51=true:=by kernel_rfl
def cK:qP Tryz.prog 64=true:=by kernel_rfl
def cm:qP Tryz.prog 9=true:=by kernel_rfl
def xH:Tryz.prog.underlying 125=some (.slice 130):=by kernel_rfl
def E5:Tryz.prog.underlying 128=some (.slice 3):=by kernel_rfl
def qU:Tryz.prog.underlying 22=some (.slice 5):=by kernel_rfl
def iO:Tryz.prog.underlying 23=some (.slice 29):=by kernel_rfl
def bh:Tryz.prog.underlying 27=some (.slice 9):=by kernel_rfl
def Dh:Tryz.prog.underlying 45=some (.slice 53):=by kernel_rfl
def nP:Tryz.prog.underlying 51=some (.slice 58):=by kernel_rfl
def cw:Tryz.prog.underlying 64=some (.slice 66):=by kernel_rfl
def fh:Tryz.prog.underlying 9=some .string:=by kernel_rfl
def E6 (a b c:Int) (w:World):ck Tryz.prog 31 [.int .i64 a,.int .i64 b,.int .i64 c] w λv w'=>v= .bool (decide (b<=a)&&decide (a<=c))∧w=w':=by
 refine cX [.tmp 6] 15 Tryz.func31 rfl Y6 rfl rfl ?_
 refine zr<|zA<|ag<|zr<|zm<|zm<|l0 rfl rfl rfl rfl rfl<|zm ?_
 apply fZ 4 10 14 [10,11,12,13,14] (λw'=>w=w') rfl
 intro h1
 replace h1:=bw h1
 refine zm<|zm<|qQ rfl rfl rfl rfl rfl<|zp rfl<|ag ?_
 exact mg rfl rfl
 intro h1
 replace h1:=bw h1
 refine zs<|zs<|zs<|zp rfl<|ag ?_
 exact mg rfl rfl
 rintro xx _ rfl
 refine zA<|ag<|aV ?_
 exact⟨_,rfl,rfl,rfl⟩
def Z7 (c:UInt8) (w:World):ck Tryz.prog 100 [.int .u8 c.toNat] w λv w'=>v= .bool (fC c)∧w=w':=by
 refine cX [.tmp 2] 33 Tryz.func100 rfl XH rfl rfl ?_
 refine zr<|zA<|ag<|zr<|zm<|l0 rfl rfl rfl rfl rfl<|zm ?_
 apply fZ 3 5 8 [5,6,7,8] (λw'=>w=w') rfl
 intro h1
 replace h1:=bw h1
 refine zm<|qQ rfl rfl rfl rfl rfl<|zp rfl<|ag ?_
 exact mg rfl rfl
 intro h1
 replace h1:=bw h1
 refine zs<|zs<|zp rfl<|ag ?_
 exact mg rfl rfl
 rintro xx _ rfl
 refine zm ?_
 apply fB 7 9 16 [9,10,11,12,13,14,15,16] (λw'=>w=w') rfl
 intro h2
 replace h2:=bw h2
 refine zs<|zs<|zs<|zs<|zs<|zs<|zp rfl<|ag ?_
 exact mg rfl rfl
 intro h2
 replace h2:=bw h2
 refine zm<|l0 rfl rfl rfl rfl rfl<|zm ?_
 apply fZ 3 12 15 [12,13,14,15] (λw'=>w=w') rfl
 intro h3
 replace h3:=bw h3
 refine zm<|qQ rfl rfl rfl rfl rfl<|zp rfl<|ag ?_
 exact mg rfl rfl
 intro h3
 replace h3:=bw h3
 refine zs<|zs<|zp rfl<|ag ?_
 exact mg rfl rfl
 rintro xx _ rfl
 refine zp rfl<|ag ?_
 exact mg rfl rfl
 rintro xx _ rfl
 refine zm ?_
 apply fB 3 17 20 [17,18,19,20] (λw'=>w=w') rfl
 intro h4
 replace h4:=bw h4
 refine zs<|zs<|zp rfl<|ag ?_
 exact mg rfl rfl
 intro h4
 replace h4:=bw h4
 refine zm<|dQ rfl rfl rfl<|zp rfl<|ag ?_
 exact mg rfl rfl
 rintro xx _ rfl
 refine zm ?_
 apply fB 3 21 24 [21,22,23,24] (λw'=>w=w') rfl
 intro h5
 replace h5:=bw h5
 refine zs<|zs<|zp rfl<|ag ?_
 exact mg rfl rfl
 intro h5
 replace h5:=bw h5
 refine zm<|dQ rfl rfl rfl<|zp rfl<|ag ?_
 exact mg rfl rfl
 rintro xx _ rfl
 refine zm ?_
 apply fB 3 25 28 [25,26,27,28] (λw'=>w=w') rfl
 intro h6
 replace h6:=bw h6
 refine zs<|zs<|zp rfl<|ag ?_
 exact mg rfl rfl
 intro h6
 replace h6:=bw h6
 refine zm<|dQ rfl rfl rfl<|zp rfl<|ag ?_
 exact mg rfl rfl
 rintro xx _ rfl
 refine zm ?_
 apply fB 3 29 32 [29,30,31,32] (λw'=>w=w') rfl
 intro h7
 replace h7:=bw h7
 refine zs<|zs<|zp rfl<|ag ?_
 exact mg rfl rfl
 intro h7
 replace h7:=bw h7
 refine zm<|dQ rfl rfl rfl<|zp rfl<|ag ?_
 exact mg rfl rfl
 rintro xx _ rfl
 refine zA<|ag<|aV ?_
 exact⟨_,rfl,cA Value.bool (PB c),rfl⟩
def Z8 (L:List Nat) (s:aj) (d i:Nat) (v:Value) (w:World):Prop:=
 ∃t tv en,v= .tuple #[tv,.int .i64 en]∧bT L w tv t∧Bo s.length (rT d (s.drop i)) t en
def Z9 (s:aj) (hs:s.length<=12000):∀(d i:Nat) (L:List Nat) (w:World),d<=61->i<=s.length->(∀x,x∈L->x<w.heap.size)->
  ck Tryz.prog 66 [str s,.int .i64 (i:Int),.int .i64 ((61:Int)-(d:Int))] w λv w'=>Z8 L s d i v w'∧ak [] w w':=by
 intro d
 induction d with
 |zero=>
  intro i L w hd hi hL
  have hK:=ak.refl [] w
  refine lH [.cell 6 66,.tmp 7] 87 Tryz.func66 rfl HG rfl rfl rfl ?_
  refine zr<|eD aH rfl rfl rfl ?_
  intro w1 aK bQ eh
  have hK:=hK.grow;have hK:=hK.ext aK
  refine zA<|ag<|zr<|j7 (E1 _) rfl rfl<|eD aH rfl rfl rfl ?_
  intro w2 aq dx eO
  have hK:=hK.grow;have hK:=hK.ext aq;have bQ:=bQ.grow;have bQ:=bQ.ext aq
  refine dw aH rfl rfl rfl dx rfl ?_
  intro w3 aJ dx iJ
  have hK:=hK.aL aJ sx;have bQ:=bQ.aL aJ sx
  refine ag<|aQ<|zr<|zm<|jz rfl rfl rfl rfl rfl<|zm ?_
  apply fB 5 15 20 [15,16,17,18,19,20] (λw'=>w3=w') rfl
  intro h1
  replace h1:=bw h1
  refine zs<|zs<|zs<|zs<|zp rfl<|ag ?_
  exact mg rfl rfl
  intro h1
  replace h1:=bw h1
  refine zm<|zm<|kO fh rfl rfl rfl<|l0 rfl rfl rfl rfl rfl<|zp rfl<|ag ?_
  exact mg rfl rfl
  rintro xx _ rfl
  refine ag<|zc rfl (λh2=>?_) (λh2=>?_)
  refine zr<|zL bU aH rfl dx.all rfl<|dw aH rfl rfl rfl bQ rfl ?_
  intro w4 aF bQ iU
  have hK:=hK.aL aF sx
  refine zA<|ag<|aV ?_
  exact⟨[_,_],⟨gQ bU aH rfl bQ rfl,rfl⟩,⟨.mk [] [],_,_,rfl,lG o3,rfl⟩,hK⟩
  exfalso
  simp at h2
 |succ d ih=>
  intro i L w hd hi hL
  have hK:=ak.refl [] w
  by_cases mJ:i<s.length
  ·have Bu:=drop_cons (jK mJ)
   have PZ:=EW fC (s.drop i)
   rw[List.length_drop] at PZ
   refine lH [.cell 6 66,.tmp 7] 87 Tryz.func66 rfl HG rfl rfl rfl ?_
   refine zr<|eD aH rfl rfl rfl ?_
   intro w1 aK bQ eh
   have hK:=hK.grow;have hK:=hK.ext aK
   refine zA<|ag<|zr<|j7 (E1 _) rfl rfl<|eD aH rfl rfl rfl ?_
   intro w2 aq dx eO
   have hK:=hK.grow;have hK:=hK.ext aq;have bQ:=bQ.grow;have bQ:=bQ.ext aq
   refine dw aH rfl rfl rfl dx rfl ?_
   intro w3 aJ dx iJ
   have hK:=hK.aL aJ sx;have bQ:=bQ.aL aJ sx
   refine ag<|aQ<|zr<|zm<|jz rfl rfl rfl rfl rfl<|zm ?_
   apply fB 5 15 20 [15,16,17,18,19,20] (λw'=>w3=w') rfl
   intro h1
   replace h1:=bw h1
   refine zs<|zs<|zs<|zs<|zp rfl<|ag ?_
   exact mg rfl rfl
   intro h1
   replace h1:=bw h1
   refine zm<|zm<|kO fh rfl rfl rfl<|l0 rfl rfl rfl rfl rfl<|zp rfl<|ag ?_
   exact mg rfl rfl
   rintro xx _ rfl
   refine ag<|zc rfl (λh2=>?_) (λh2=>?_)
   exfalso
   simp at h2
   omega
   refine bz<|aQ<|zr<|zm<|zm<|kE fh rfl rfl rfl rfl (jK mJ)<|uA rfl rfl rfl rfl rfl<|ag<|zc rfl (λh3=>?_) (λh3=>?_)
   have eN:s.getD i 0≠40:=λh=>h3 (by rw[h];rfl)
   refine zr<|zm<|zA<|ag<|aQ<|cS ?_
   refine fY (λk:Nat=>[(0,str s),(1,.int .i64 (k:Int)),(6,.pointer (some ⟨w.heap.size,0,none⟩)),(8,.pointer (some ⟨w1.heap.size,0,none⟩)),(9,.int .i64 (i:Int))]) (λk w'=>w'=w3∧i<=k∧k-i<=((s.drop i).takeWhile fC).length) (λk=>s.length-k) i (⟨rfl,rfl,rfl,rfl,rfl⟩) (⟨rfl,lR _,om⟩) ?_
   intro gg w4 e4 hI
   obtain⟨rfl,uH,Di⟩:=hI
   have E7:=Xu s uH Di
   refine aQ<|zr<|zm<|zm<|kO fh rfl rfl rfl<|fA rfl rfl rfl<|zm ?_
   apply fZ 5 31 36 [31,32,33,34,35,36] (λw'=>w4=w') rfl
   intro h4
   replace h4:=bw h4
   refine zm<|zm<|kE fh rfl rfl rfl rfl (jK om)<|aC (Z7 _ _) ?_
   rintro _ _ ⟨rfl,rfl⟩
   refine zp rfl<|ag ?_
   exact mg rfl rfl
   intro h4
   replace h4:=bw h4
   refine zs<|zs<|zs<|zs<|zp rfl<|ag ?_
   exact mg rfl rfl
   rintro xx _ rfl
   refine ag<|zc rfl (λh5=>?_) (λh5=>?_)
   have eW:=E7.2 (by simpa using h5)
   refine bz<|cS<|df<|zm<|eI rfl rfl rfl (wrap_i64 _ om om)<|zA<|ag ?_
   exact⟨gg+1,⟨rfl,rfl,rfl,rfl,rfl⟩,⟨rfl,om,om⟩,om⟩
   have E8:gg-i=((s.drop i).takeWhile fC).length:=Nat.le_antisymm Di (Nat.le_of_not_lt (λhh=>by have hx:=E7.1 hh;rw[hx.2,Bool.and_true,decide_eq_false_iff_not] at h5;omega))
   refine gD<|gF rfl<|zr<|zm<|zm<|zm<|Bf fh rfl rfl rfl (.inr ⟨_,rfl⟩) (.inr ⟨_,rfl⟩) om om<|zf dB rfl<|gY bA rfl rfl rfl dx rfl ?_
   intro w5 aU dx jr
   have hK:=hK.aL aU sx;have bQ:=bQ.aL aU sx
   refine ag<|aQ<|zr<|zf dB rfl<|zl cm rfl (dx.at rfl)<|cY rfl rfl<|ag<|zc rfl (λh6=>?_) (λh6=>?_)
   have hR:rT (d+1) (s.drop i)=none:=by rw[E8,HD] at h6;show fc d _=none;rw[Bu,EY _ _ _ eN,<-Bu,iP h6]
   refine zr<|zL bU aH rfl dx.all rfl<|dw aH rfl rfl rfl bQ rfl ?_
   intro w6 bF bQ lI
   have hK:=hK.aL bF sx
   refine zA<|ag<|aV ?_
   exact⟨[_,_],⟨gQ bU aH rfl bQ rfl,rfl⟩,⟨.mk _ [],_,_,rfl,lG o3,by rw[hR];rfl⟩,hK⟩
   have hR:rT (d+1) (s.drop i)=some (.mk ((s.drop i).takeWhile fC) [],(s.drop i).dropWhile fC):=by rw[E8,HD] at h6;show fc d _=_;rw[Bu,EY _ _ _ eN,<-Bu,iN h6]
   refine bz<|zr<|zL bU aH rfl dx.all rfl<|zm<|dw aH rfl rfl rfl bQ rfl ?_
   intro w6 bF bQ lI
   have hK:=hK.aL bF sx
   refine zA<|ag<|aV<|⟨[_,_],⟨gQ bU aH rfl bQ rfl,rfl⟩,⟨.mk _ [],_,_,rfl,lG o3,?_⟩,hK⟩
   rw[hR]
   refine⟨by rw[E8,HD],?_⟩
   rw[C9,List.length_drop,List.length_drop]
   show(gg:Int)=_
   omega
   have KQ:s.getD i 0=40:=UInt8.toNat_inj.1 (by have Bv:(40:UInt8).toNat=40:=rfl;rw[Bv];omega)
   refine bz<|cS ?_
   refine fY (λq:List aA×Nat×Option Addr×Nat×Option Nat×List Value=>[(0,str s),(1,.int .i64 (q.2.1:Int)),(2,.int .i64 ((61:Int)-((d+1:Nat):Int))),(6,.pointer (some ⟨w.heap.size,0,none⟩)),(8,.pointer (some ⟨w1.heap.size,0,none⟩))]) (λq w'=>ak [] w w'∧aY w' w.heap.size [str [],.slice none 0 0].toArray 66∧aY w' w1.heap.size [str [],.slice q.2.2.1 q.1.length q.2.2.2.1].toArray 66∧ik (w.heap.size::w1.heap.size::L) w' 66 2 (.slice q.2.2.1 q.1.length q.2.2.2.1) q.2.2.2.2.1 (dH q.1) q.2.2.2.2.2∧(∀b,q.2.2.2.2.1=some b->w.heap.size<=b)∧q.2.1<s.length∧i<=q.2.1∧q.1.length<=q.2.1∧w1.heap.size<w'.heap.size∧mQ d (s.drop (i+1))=(mQ d (s.drop (q.2.1+1))).map (λp=>(q.1++p.1,p.2))) (λq=>s.length-q.2.1) (([],i,none,0,none,[])) (⟨rfl,rfl,rfl,rfl,rfl⟩) (⟨hK,bQ,dx,ik.nil _ _ _ _,sm,mJ,lR _,sm,om,sm⟩) ?_
   intro gg w4 e4 hI
   obtain⟨acc,k,a,cc,g,xs⟩:=gg
   dsimp only at hI⊢
   obtain⟨hK,bQ,dx,hO,hg,hk,uH,hak,zF,sy⟩:=hI
   have hLx:∀x,x∈g.toList++(w.heap.size::w1.heap.size::L)->x<w4.heap.size:=by intro x hx;simp at hx;rcases hx with hx|rfl|rfl|hx;exact hO.own.lt x hx;omega;omega;have h1:=hL x hx;have h2:=hK.size;omega
   refine cS<|zr<|zm<|zm<|eI rfl rfl rfl (wrap_i64 _ om om)<|zm<|eI rfl rfl rfl (show IntKind.i64.wrap ((61:Int)-((d+1:Nat):Int)+1)=(61:Int)-(d:Int) by rw[wrap_i64 _ om om];omega)<|aC (ih (k+1) (g.toList++(w.heap.size::w1.heap.size::L)) w4 om om hLx) ?_
   rintro v5 w5 ⟨ln,aU⟩
   have pJ:=aU.size
   have hK:=hK.ext aU;have bQ:=bQ.ext aU;have dx:=dx.ext aU;have hO:=hO.ext aU
   obtain⟨t,tv,en,rfl,ht,hm⟩:=ln
   obtain⟨pa,pn,pc,rfl,fR,bc⟩:=dO ht
   subst fR
   refine zm<|zx (i:=0) rfl rfl<|zx (i:=1) rfl rfl<|eD aH rfl rfl rfl ?_
   intro w6 bF oC lI
   have hK:=hK.grow;have hK:=hK.ext bF;have bQ:=bQ.grow;have bQ:=bQ.ext bF;have dx:=dx.grow;have dx:=dx.ext bF;have hO:=hO.alloc bF lI;have ht:=ht.grow;have ht:=ht.ext bF
   refine dw aH rfl rfl rfl oC rfl ?_
   intro w7 cz oC qm
   have hK:=hK.aL cz sx;have bQ:=bQ.aL cz sx;have dx:=dx.aL cz sx;have hO:=hO.aL cz sx;have ht:=ht.aL cz sx
   refine zA<|ag<|aQ<|zr<|zm<|fA rfl rfl rfl<|zm ?_
   apply fB 5 61 66 [61,62,63,64,65,66] (λw'=>w7=w') rfl
   intro h7
   replace h7:=bw h7
   refine zs<|zs<|zs<|zs<|zp rfl<|ag ?_
   exact mg rfl rfl
   intro h7
   replace h7:=bw h7
   refine zm<|zm<|kO fh rfl rfl rfl<|l0 rfl rfl rfl rfl rfl<|zp rfl<|ag ?_
   exact mg rfl rfl
   rintro xx _ rfl
   refine ag<|zc rfl (λh8=>?_) (λh8=>?_)
   have hR:rT (d+1) (s.drop i)=none:=by show fc d _=none;rw[Bu,KQ,Da,sy,Xv hm (by simpa using h8) om];rfl
   refine zr<|zL bU aH rfl dx.all rfl<|dw aH rfl rfl rfl bQ rfl ?_
   intro w8 cv bQ mr
   have hK:=hK.aL cv sx;have hO:=hO.aL cv sx
   refine zA<|ag<|aV ?_
   exact⟨[_,_],⟨gQ bU aH rfl bQ rfl,rfl⟩,⟨.mk [] acc,_,_,rfl,lG (hO.done.weaken (λx hx=>by simp[hx])),by rw[hR];rfl⟩,hK⟩
   simp at h8
   obtain⟨m,rfl,PA,KR,iz⟩:=Xw hm h8.1 om
   refine bz<|zr<|zf cN rfl<|zl cK rfl (dx.at rfl)<|zL bU aH rfl oC.all rfl<|gH cw aH rfl rfl ?_
   intro w8 cv aab mr
   have hK:=hK.ext cv;have bQ:=bQ.ext cv;have dx:=dx.ext cv;have hO:=hO.ext cv;have ht:=ht.ext cv
   refine PJ cw aH rfl rfl rfl rfl rfl hO (oZ t) aab.all (by simp[Value.oneCell']) (ht.kQ.fresh (λx hx=>.inl (PG x hx))) ?_ ?_ ?_
   intro x hx;simp at hx;rcases hx with rfl|rfl|rfl|hx;(·omega);(·omega);(·omega);(·have h1:=hL x hx;have h2:=hK.size;omega)
   rw[iI];omega
   intro a2 nQ g2 w9 gU aG iA
   have e1:(dH acc).length+1=(acc++[t]).length:=by simp[iI]
   have e2:dH acc++[t.enc]=dH (acc++[t]):=by simp[Ku,dH]
   rw[e1] at gU⊢
   rw[e2] at gU
   have dS:=aG.size
   have hg3:∀b,g2=some b->w.heap.size<=b:=by intro b hb;rcases iA with h|h;(·rw[h] at hb;exact hg b hb);(·rw[h] at hb;cases hb;omega)
   have hK:=hK.aL aG (λx hx=>.inr (hg x (by simpa using hx)));have bQ:=bQ.aL aG (hO.sep sm);have dx:=dx.aL aG (hO.sep sm)
   refine zf cN rfl<|gY E3 rfl rfl rfl dx rfl ?_
   intro cO bV dx Bw
   have hK:=hK.aL bV sx;have bQ:=bQ.aL bV sx;have gU:=gU.aL bV sx
   refine ag<|zr<|zm<|zA<|ag<|aQ<|zr<|zm<|zm<|kE fh rfl rfl rfl rfl (jK KR)<|dQ rfl rfl rfl<|ag<|zc rfl (λh9=>?_) (λh9=>?_)
   have zG:s.getD m 0=41:=UInt8.toNat_inj.1 (by have Bv:(41:UInt8).toNat=41:=rfl;rw[Bv];omega)
   have hR:rT (d+1) (s.drop i)=some (.mk [] (acc++[t]),s.drop (m+1)):=by show fc d _=_;rw[Bu,KQ,Da,sy,iz,iP zG];rfl
   refine zr<|zL bU aH rfl dx.all rfl<|zm<|eI rfl rfl rfl (wrap_i64 _ om om)<|dw aH rfl rfl rfl bQ rfl ?_
   intro eY cM bQ uK
   have hK:=hK.aL cM sx;have gU:=gU.aL cM sx
   refine zA<|ag<|aV ?_
   exact⟨[_,_],⟨gQ bU aH rfl bQ rfl,rfl⟩,⟨.mk [] (acc++[t]),_,_,rfl,lG (gU.done.weaken (λx hx=>by simp[hx])),by rw[hR];exact⟨rfl,by rw[List.length_drop];omega⟩⟩,hK⟩
   have zG:s.getD m 0≠41:=λh=>h9 (by rw[h];rfl)
   refine bz<|zr<|zm<|zm<|kE fh rfl rfl rfl rfl (jK KR)<|uA rfl rfl rfl rfl rfl<|ag<|zc rfl (λgI=>?_) (λgI=>?_)
   have KT:s.getD m 0≠32:=λh=>gI (by rw[h];rfl)
   have hR:rT (d+1) (s.drop i)=none:=by show fc d _=_;rw[Bu,KQ,Da,sy,iz,iN zG,iN KT];rfl
   refine zr<|zL bU aH rfl dx.all rfl<|dw aH rfl rfl rfl bQ rfl ?_
   intro eY cM bQ uK
   have hK:=hK.aL cM sx;have gU:=gU.aL cM sx
   refine zA<|ag<|aV ?_
   exact⟨[_,_],⟨gQ bU aH rfl bQ rfl,rfl⟩,⟨.mk [] (acc++[t]),_,_,rfl,lG (gU.done.weaken (λx hx=>by simp[hx])),by rw[hR];rfl⟩,hK⟩
   have KT:s.getD m 0=32:=UInt8.toNat_inj.1 (by have Bv:(32:UInt8).toNat=32:=rfl;rw[Bv];omega)
   refine bz ?_
   exact⟨(acc++[t],m,a2,nQ,g2,_),⟨rfl,rfl,rfl,rfl,rfl⟩,⟨hK,bQ,dx,gU.more (by intro x hx;exact .inl (by simp at hx⊢;rcases hx with hx|hx|hx<;>simp[hx])),hg3,KR,by dsimp only;omega,by simp;omega,om,by rw[sy,iz,iN zG,iP KT,map_append]⟩,by dsimp only;omega⟩
  refine lH [.cell 6 66,.tmp 7] 87 Tryz.func66 rfl HG rfl rfl rfl ?_
  refine zr<|eD aH rfl rfl rfl ?_
  intro w1 aK bQ eh
  have hK:=hK.grow;have hK:=hK.ext aK
  refine zA<|ag<|zr<|j7 (E1 _) rfl rfl<|eD aH rfl rfl rfl ?_
  intro w2 aq dx eO
  have hK:=hK.grow;have hK:=hK.ext aq;have bQ:=bQ.grow;have bQ:=bQ.ext aq
  refine dw aH rfl rfl rfl dx rfl ?_
  intro w3 aJ dx iJ
  have hK:=hK.aL aJ sx;have bQ:=bQ.aL aJ sx
  refine ag<|aQ<|zr<|zm<|jz rfl rfl rfl rfl rfl<|zm ?_
  apply fB 5 15 20 [15,16,17,18,19,20] (λw'=>w3=w') rfl
  intro h1
  replace h1:=bw h1
  refine zs<|zs<|zs<|zs<|zp rfl<|ag ?_
  exact mg rfl rfl
  intro h1
  replace h1:=bw h1
  refine zm<|zm<|kO fh rfl rfl rfl<|l0 rfl rfl rfl rfl rfl<|zp rfl<|ag ?_
  exact mg rfl rfl
  rintro xx _ rfl
  refine ag<|zc rfl (λh2=>?_) (λh2=>?_)
  have hR:rT (d+1) (s.drop i)=none:=by rw[List.drop_of_length_le om];exact PE d
  refine zr<|zL bU aH rfl dx.all rfl<|dw aH rfl rfl rfl bQ rfl ?_
  intro w4 aF bQ iU
  have hK:=hK.aL aF sx
  refine zA<|ag<|aV ?_
  exact⟨[_,_],⟨gQ bU aH rfl bQ rfl,rfl⟩,⟨.mk [] [],_,_,rfl,lG o3,by rw[hR];rfl⟩,hK⟩
  exfalso
  simp at h2
  omega
def il (c:UInt8):Bool:=48<=c&&c<=57
def Bx (c:UInt8):il c=true↔48<=c.toNat∧c.toNat<=57:=by
 simp[il,UInt8.le_iff_toNat_le]
def qV (s:aj):Int:=if 0<s.length∧s.getD 0 0=45 then -1 else 1
def eA (s:aj):aj:=if 0<s.length∧s.getD 0 0=45 then s.drop 1 else s
def val (ds:aj):Nat:=ds.foldl (λn c=>10*n+(c.toNat-48)) 0
def numeral (s:aj):Option Int:=
 if s=[48] then some 0
 else if(eA s).length<1∨3<(eA s).length∨(eA s).getD 0 0=48 then none
 else if(eA s).all il=true then some (qV s*val (eA s)) else none
def P1 (ds:aj) (c:UInt8):val (ds++[c])=10*val ds+(c.toNat-48):=by simp[val]
def P2:∀(ds:aj),ds.all il=true->val ds<10^ds.length:=by
 intro ds
 have key:∀(l:aj) (n k:Nat),l.all il=true->n<10^k->l.foldl (λn c=>10*n+(c.toNat-48)) n<10^(k+l.length):=by
  intro l
  induction l with
  |nil=>intro n k _ h;simpa using h
  |cons c l ih=>
   intro n k hl h
   simp only[List.all_cons,aE] at hl
   have hc:=(Bx c).1 hl.1
   simp only[List.foldl_cons,lC]
   have:=ih (10*n+(c.toNat-48)) (k+1) hl.2 (by rw[Nat.pow_succ];omega)
   rw[show k+(l.length+1)=k+1+l.length from by omega];exact this
 intro h
 have:=key ds 0 0 h sm
 simpa[val] using this
def KU {s:aj} {k:Nat} (h:k<s.length):s.take (k+1)=s.take k++[s.getD k 0]:=by
 rw[List.take_succ_eq_append_getElem h,gG,gE h];rfl
def cJ (t:aA):aj:=if t.az≠[]∨t.au=[] then[] else match t.au with
 |[]=>[]
 |p::_=>p.az
def P3 (c:UInt8):Bool:=97<=c&&c<=122
def By (s:aj) (i:Nat):Bool:=P3 (s.getD i 0)||(decide (0<i)&&il (s.getD i 0))
def nR (s:aj):Bool:=(List.range s.length).all (By s)&&decide (s≠[])
def E9 (k c:UInt8):decide ((k.toNat:Int)<=c.toNat)=decide (k<=c):=by simp[UInt8.le_iff_toNat_le]
def P4 (k c:UInt8):decide ((c.toNat:Int)=k.toNat)=(c==k):=by
 rw[Bool.eq_iff_iff];simp[<-UInt8.toNat_inj];omega
def HL (s:aj) (k:Nat):((decide ((97:Int)<=(s.getD k 0).toNat)&&decide (((s.getD k 0).toNat:Int)<=122))||((decide ((0:Int)<(k:Int))&&decide ((48:Int)<=(s.getD k 0).toNat))&&decide (((s.getD k 0).toNat:Int)<=57)))=By s k:=by
 have a:=E9 97 (s.getD k 0)
 have b:=E9 (s.getD k 0) 122
 have c:=E9 48 (s.getD k 0)
 have d:=E9 (s.getD k 0) 57
 simp only[show((97:UInt8).toNat:Int)=97 from rfl,show((122:UInt8).toNat:Int)=122 from rfl,show((48:UInt8).toNat:Int)=48 from rfl,show((57:UInt8).toNat:Int)=57 from rfl] at a b c d
 rw[a,b,c,d]
 unfold By P3 il
 rw[show decide ((0:Int)<(k:Int))=decide (0<k) from by simp,Bool.and_assoc]
def P5 {s:aj} {j:Nat} (hj:j<s.length) (h:By s j=false):nR s=false:=by
 unfold nR
 rw[Bool.and_eq_false_iff];left
 rw[List.all_eq_false]
 exact⟨j,List.mem_range.2 hj,by simp[h]⟩
def P6 {s:aj} (h:∀j,j<s.length->By s j=true):nR s=decide (s≠[]):=by
 unfold nR
 rw[List.all_eq_true.2 (λj hj=>h j (List.mem_range.1 hj)),Bool.true_and]
def P7 {P:Nat->Prop} {k:Nat} (h:∀j,j<k->P j) (hk:P k):∀j,j<k+1->P j:=λj hj=>by
 rcases Nat.lt_or_ge j k with h1|h1
 ·exact h j h1
 ·rw[show j=k from by omega];exact hk
def Fa {t p:aA} (ha:t.az=[]) (hp:t.au[0]?=some p):cJ t=p.az:=by
 unfold cJ
 cases h:t.au with
 |nil=>rw[h] at hp;simp at hp
 |cons q r=>rw[h] at hp;simp at hp;subst hp;simp[ha]
def Dj {t:aA} (h:t.az≠[]∨t.au=[]):cJ t=[]:=by unfold cJ;rw[iP h]
def aad {s:aj} (h0:s≠[48]) (h:(eA s).length<1∨3<(eA s).length∨(eA s).getD 0 0=48):numeral s=none:=by
 unfold numeral;rw[iN h0,iP h]
def aae {s:aj} {k:Nat} (h0:s≠[48]) (hk:k<(eA s).length) (h:il ((eA s).getD k 0)=false):numeral s=none:=by
 unfold numeral
 rw[iN h0]
 split
 ·rfl
 ·rw[iN]
  intro dA
  have:=List.all_eq_true.1 dA ((eA s).getD k 0) (by rw[gG,gE hk];simp)
  rw[this] at h;cases h
def aaf {s:aj} (h0:s≠[48]) (h:1<=(eA s).length∧(eA s).length<=3∧(eA s).getD 0 0≠48) (dA:(eA s).all il=true):numeral s=some (qV s*val (eA s)):=by
 unfold numeral
 rw[iN h0,iN (by rintro(h1|h1|h1);omega;omega;exact h.2.2 h1),iP dA]
def aag (s:aj):qV s=1∨qV s= -1:=by unfold qV;split<;>simp
def aah {ds:aj} (h:(!(decide ((1:Int)<=(ds.length:Int))&&decide ((ds.length:Int)<=3))||decide (((ds.getD 0 0).toNat:Int)=48))=true):ds.length<1∨3<ds.length∨ds.getD 0 0=48:=by
 simp only[oE,Bool.not_eq_true',Bool.and_eq_false_iff,decide_eq_false_iff_not,dE] at h
 rcases h with(h|h)|h
 ·left;omega
 ·right;left;omega
 ·right;right;exact UInt8.toNat_inj.1 (by have:(48:UInt8).toNat=48:=rfl;rw[this];omega)
def aai {ds:aj} (h:(!(decide ((1:Int)<=(ds.length:Int))&&decide ((ds.length:Int)<=3))||decide (((ds.getD 0 0).toNat:Int)=48))=false):1<=ds.length∧ds.length<=3∧ds.getD 0 0≠48:=by
 simp only[Bool.or_eq_false_iff,Bool.not_eq_false',aE,decide_eq_false_iff_not,dE] at h
 refine⟨by omega,om,λP8=>h.2 (by rw[P8];rfl)⟩
def P9 {c:UInt8} (h:(decide ((c.toNat:Int)<48)||decide ((57:Int)<c.toNat))=true):il c=false:=by
 cases hd:il c with
 |false=>rfl
 |true=>
  have:=(Bx c).1 hd
  simp only[oE,dE] at h
  omega
def Qa {c:UInt8} (h:(decide ((c.toNat:Int)<48)||decide ((57:Int)<c.toNat))=false):48<=c.toNat∧c.toNat<=57∧il c=true:=by
 simp only[Bool.or_eq_false_iff,decide_eq_false_iff_not] at h
 exact⟨by omega,om,(Bx c).2 ⟨by omega,om⟩⟩
def zH (s:aj) (L:List Nat) (w:World) (hL:∀x,x∈L->x<w.heap.size):
  ck Tryz.prog 38 [str s] w λv w'=>(∃t tv,v= .tuple #[tv,.bool (ba s).isSome]∧bT L w' tv t∧∀t',ba s=some t'->t=t')∧ak [] w w':=by
 have hK:=ak.refl [] w
 refine lH [.cell 2 66,.tmp 3] 20 Tryz.func38 rfl PQ rfl rfl rfl ?_
 refine zr<|eD aH rfl rfl rfl ?_
 intro w1 aK aZ eh
 have hK:=hK.grow;have hK:=hK.ext aK
 refine zA<|ag<|aQ<|zr<|zm<|kO fh rfl rfl rfl<|jz rfl rfl rfl rfl rfl<|ag<|zc rfl (λh1=>?_) (λh1=>?_)
 have hp:ba s=none:=by unfold ba;rw[iP om]
 refine zr<|j7 (E1 _) rfl rfl<|dw aH rfl rfl rfl aZ rfl ?_
 intro w2 aq aZ eO
 have hK:=hK.aL aq sx
 refine zA<|ag<|aV ?_
 exact⟨[_,_],⟨gQ bU aH rfl aZ rfl,rfl⟩,⟨.mk [] [],_,by rw[hp];rfl,lG o3,λt' h=>by rw[hp] at h;cases h⟩,hK⟩
 refine bz<|zr<|zm<|aC (Z9 s om 61 0 (w.heap.size::L) w1 om om (by intro x hx;rcases mC.1 hx with rfl|hx;(·omega);(·have:=hL x hx;omega))) ?_
 rintro v2 w2 ⟨dC,aq⟩
 have eH:=aq.size
 have hK:=hK.ext aq;have aZ:=aZ.ext aq
 obtain⟨t,tv,en,rfl,ht,hm⟩:=dC
 obtain⟨pa,pn,pc,rfl,fR,bc⟩:=dO ht
 refine zm<|zx (i:=0) rfl rfl<|zx (i:=1) rfl rfl<|eD aH rfl rfl rfl ?_
 intro w3 aJ aI iJ
 have hK:=hK.grow;have hK:=hK.ext aJ;have aZ:=aZ.grow;have aZ:=aZ.ext aJ;have ht:=ht.grow;have ht:=ht.ext aJ
 refine dw aH rfl rfl rfl aI rfl ?_
 intro w4 aF aI iU
 have hK:=hK.aL aF sx;have aZ:=aZ.aL aF sx;have ht:=ht.aL aF sx
 refine zA<|ag<|zr<|zL bU aH rfl aI.all rfl<|zm<|zm<|kO fh rfl rfl rfl<|dQ rfl rfl rfl<|dw aH rfl rfl rfl aZ rfl ?_
 intro w5 aU aZ jr
 have hK:=hK.aL aU sx;have ht:=ht.aL aU sx
 refine zA<|ag<|aV ?_
 have Dk:=Xx om hm
 exact⟨[_,_],⟨gQ bU aH rfl aZ rfl,rfl⟩,⟨t,_,by rw[<-Dk.1];rfl,kD.fresh ht (λx hx=>.inl (by simp[hx])),Dk.2⟩,hK⟩
def HM (t:aA) (v:Value) (L:List Nat) (w:World) (hv:bT L w v t):ck Tryz.prog 39 [v] w λr w'=>r=str (cJ t)∧ak [] w w':=by
 obtain⟨a,n,c,rfl,hn,bc⟩:=dO hv
 have hK:=ak.refl [] w
 refine cX [.tmp 2] 17 Tryz.func39 rfl Zb rfl rfl ?_
 refine zr<|fG rfl ?_
 intro w1 aK aT eh
 have hK:=hK.ext aK;have bc:=bc.ext aK
 refine zA<|ag<|aQ<|zr<|zf dB rfl<|zl cm rfl (aT.at rfl)<|jI rfl rfl rfl rfl<|zm ?_
 apply fB 5 6 11 [6,7,8,9,10,11] (λw'=>w1=w') rfl
 intro h1
 replace h1:=bw h1
 refine zs<|zs<|zs<|zs<|zp rfl<|ag ?_
 exact mg rfl rfl
 intro h1
 replace h1:=bw h1
 refine zf cN rfl<|zl cK rfl (aT.at rfl)<|dZ cw rfl<|dQ rfl rfl rfl<|zp rfl<|ag ?_
 exact mg rfl rfl
 rintro xx _ rfl
 refine ag<|zc rfl (λh2=>?_) (λh2=>?_)
 have hh:cJ t=[]:=Dj (by simp at h2;rcases h2 with h|h;(·exact .inl h);(·right;subst hn;simpa using h))
 refine zr<|zA<|ag<|aV ?_
 exact⟨_,rfl,by rw[hh];rfl,hK⟩
 simp at h2
 have h0:=h2.2
 have aR:∃p0,t.au[0]?=some p0:=⟨t.au[0]'om,gE om⟩
 obtain⟨p0,mX⟩:=aR
 obtain⟨b,off,pa,pn,pc,rfl,eC,fR,iz⟩:=j9 bc mX
 have hh:cJ t=p0.az:=Fa h2.1 mX
 refine bz<|zr<|zf cN rfl<|zl cK rfl (aT.at rfl)<|zi (i:=0) cw aH rfl rfl (by rw[hn];exact(List.getElem?_eq_some_iff.1 mX).1) ?_
 refine zf dB rfl<|zl cm rfl (eC 0 _ rfl)<|zA<|ag<|aV ?_
 exact⟨_,rfl,by rw[hh];rfl,hK⟩
def Qb (s:aj) (hs:s.length<9223372036854775807) (w:World):ck Tryz.prog 55 [str s] w λr w'=>r= .bool (nR s)∧w=w':=by
 refine cX [.tmp 2] 39 Tryz.func55 rfl Zj rfl rfl ?_
 refine zr<|zA<|ag<|aQ<|zr<|zA<|ag<|cS ?_
 refine fY (λk:Nat=>[(0,str s),(3,.int .i64 (k:Int))]) (λk w'=>w'=w∧k<=s.length∧∀j,j<k->By s j=true) (λk=>s.length-k) (0) (⟨rfl,rfl⟩) (⟨rfl,om,by intro j hj;omega⟩) ?_
 intro gg w1 e1 hI
 obtain⟨rfl,hk,dA⟩:=hI
 refine aQ<|zr<|zm<|zm<|kO fh rfl rfl rfl<|fA rfl rfl rfl<|ag<|zc rfl (λh1=>?_) (λh1=>?_)
 refine bz<|aQ<|cS<|zr<|zm<|zm<|kE fh rfl rfl rfl rfl (jK om)<|l0 rfl rfl rfl rfl rfl<|zm ?_
 apply fZ 5 14 19 [14,15,16,17,18,19] (λw'=>w1=w') rfl
 intro h2
 replace h2:=bw h2
 refine zm<|zm<|kE fh rfl rfl rfl rfl (jK om)<|qQ rfl rfl rfl rfl rfl<|zp rfl<|ag ?_
 exact mg rfl rfl
 intro h2
 replace h2:=bw h2
 refine zs<|zs<|zs<|zs<|zp rfl<|ag ?_
 exact mg rfl rfl
 rintro xx _ rfl
 refine zm ?_
 apply fB 15 20 35 [20,21,22,23,24,25,26,27,28,29,30,31,32,33,34,35] (λw'=>w1=w') rfl
 intro h3
 replace h3:=bw h3
 refine zs<|zs<|zs<|zs<|zs<|zs<|zs<|zs<|zs<|zs<|zs<|zs<|zs<|zs<|zp rfl<|ag ?_
 exact mg rfl rfl
 intro h3
 replace h3:=bw h3
 refine zm<|jz rfl rfl rfl rfl rfl<|zm ?_
 apply fZ 5 23 28 [23,24,25,26,27,28] (λw'=>w1=w') rfl
 intro h4
 replace h4:=bw h4
 refine zm<|zm<|kE fh rfl rfl rfl rfl (jK om)<|l0 rfl rfl rfl rfl rfl<|zp rfl<|ag ?_
 exact mg rfl rfl
 intro h4
 replace h4:=bw h4
 refine zs<|zs<|zs<|zs<|zp rfl<|ag ?_
 exact mg rfl rfl
 rintro xx _ rfl
 refine zm ?_
 apply fZ 5 29 34 [29,30,31,32,33,34] (λw'=>w1=w') rfl
 intro h5
 replace h5:=bw h5
 refine zm<|zm<|kE fh rfl rfl rfl rfl (jK om)<|qQ rfl rfl rfl rfl rfl<|zp rfl<|ag ?_
 exact mg rfl rfl
 intro h5
 replace h5:=bw h5
 refine zs<|zs<|zs<|zs<|zp rfl<|ag ?_
 exact mg rfl rfl
 rintro xx _ rfl
 refine zp rfl<|ag ?_
 exact mg rfl rfl
 rintro xx _ rfl
 refine eM rfl<|ag<|zc rfl (λh6=>?_) (λh6=>?_)
 rw[HL] at h6
 refine zr<|zA<|ag<|aV ?_
 exact⟨_,rfl,by rw[P5 om h6];rfl,rfl⟩
 rw[HL] at h6
 refine bz<|df<|zm<|eI rfl rfl rfl (wrap_i64 _ om om)<|zA<|ag ?_
 exact⟨gg+1,⟨rfl,rfl⟩,⟨rfl,om,P7 dA h6⟩,om⟩
 refine gD<|gF rfl<|zr<|zm<|jI rfl rfl rfl rfl<|zA<|ag<|aV ?_
 exact⟨_,rfl,by rw[P6 (λj hj=>dA j om)];rfl,rfl⟩
def Fb (s:aj):Value:=.tuple #[.int .i64 ((numeral s).getD 0),.bool (numeral s).isSome]
def HN (s:aj) (w:World):ck Tryz.prog 123 [str s] w λv w'=>v=Fb s∧w=w':=by
 refine cX [.tmp 2,.tmp 3] 57 Tryz.func123 rfl X4 rfl rfl ?_
 refine zr<|zA<|zA<|ag<|zr<|zA<|ag<|zr<|zm<|zA<|ag<|aQ<|zr<|zm<|kO fh rfl rfl rfl<|jz rfl rfl rfl rfl rfl<|zm ?_
 apply fZ 4 12 16 [12,13,14,15,16] (λw'=>w=w') rfl
 intro h1
 replace h1:=bw h1
 refine zm<|kE (i:=0) fh rfl rfl rfl rfl (jK om)<|dQ rfl rfl rfl<|zp rfl<|ag ?_
 exact mg rfl rfl
 intro h1
 replace h1:=bw h1
 refine zs<|zs<|zs<|zp rfl<|ag ?_
 exact mg rfl rfl
 rintro xx _ rfl
 refine ag ?_
 refine ji (λ_:Unit=>[(0,str s),(4,.int .i64 (qV s)),(5,str (eA s))]) (λ_ w'=>w'=w) ?_ ?_
 refine zc rfl (λh2=>?_) (λh2=>?_)
 have hm:0<s.length∧s.getD 0 0=45:=by have Fc:=P4 45 (s.getD 0 0);simp only[show((45:UInt8).toNat:Int)=45 from rfl] at Fc;rw[Fc] at h2;simpa using h2
 refine zr<|zA<|ag<|df<|zm<|Bf (l:=1) fh rfl rfl rfl (.inr ⟨_,rfl⟩) (.inl ⟨rfl,rfl⟩) om om<|zA<|ag ?_
 exact⟨(),⟨rfl,by rw[qV,iP hm];rfl,by have h1:eA s=(s.drop 1).take (s.length-1):=by{rw[eA,iP hm,List.take_of_length_le sm]};rw[h1];exact rfl⟩,rfl⟩
 have hm:¬(0<s.length∧s.getD 0 0=45):=by have Fc:=P4 45 (s.getD 0 0);simp only[show((45:UInt8).toNat:Int)=45 from rfl] at Fc;rw[Fc] at h2;simpa using h2
 refine bz ?_
 exact⟨(),⟨rfl,by rw[qV,iN hm];rfl,by rw[eA,iN hm];exact rfl⟩,rfl⟩
 intro gu w1 e1 hI
 obtain rfl:=hI
 refine aQ<|zr<|zm<|cY rfl rfl<|ag<|zc rfl (λh3=>?_) (λh3=>?_)
 have hn:numeral s=some 0:=by unfold numeral;rw[iP h3]
 refine zr<|zA<|zA<|ag<|aV ?_
 exact⟨_,rfl,by unfold Fb;rw[hn];rfl,rfl⟩
 have oB:=h3
 refine bz<|aQ<|zr<|zm<|kO fh rfl rfl rfl<|aC (E6 _ _ _ _) ?_
 rintro _ _ ⟨rfl,rfl⟩
 refine eM rfl<|zm ?_
 apply fB 4 25 29 [25,26,27,28,29] (λw'=>w1=w') rfl
 intro h4
 replace h4:=bw h4
 refine zs<|zs<|zs<|zp rfl<|ag ?_
 exact mg rfl rfl
 intro h4
 replace h4:=bw h4
 simp at h4
 refine zm<|kE (i:=0) fh rfl rfl rfl rfl (jK om)<|dQ rfl rfl rfl<|zp rfl<|ag ?_
 exact mg rfl rfl
 rintro xx _ rfl
 refine ag<|zc rfl (λh5=>?_) (λh5=>?_)
 have hn:numeral s=none:=aad oB (aah h5)
 refine zr<|zA<|zA<|ag<|aV ?_
 exact⟨_,rfl,by unfold Fb;rw[hn];rfl,rfl⟩
 have hd:=aai h5
 refine bz<|zr<|zA<|ag<|aQ<|zr<|zA<|ag<|cS ?_
 refine fY (λk:Nat=>[(4,.int .i64 (qV s)),(5,str (eA s)),(6,.int .i64 (val ((eA s).take k):Nat)),(7,.int .i64 (k:Int))]) (λk w'=>w'=w1∧k<=(eA s).length∧((eA s).take k).all il=true) (λk=>(eA s).length-k) (0) (⟨rfl,rfl,rfl,rfl⟩) (⟨rfl,om,sm⟩) ?_
 intro gg w2 e2 hI
 obtain⟨rfl,hk,dA⟩:=hI
 refine aQ<|zr<|zm<|zm<|kO fh rfl rfl rfl<|fA rfl rfl rfl<|ag<|zc rfl (λh6=>?_) (λh6=>?_)
 have eW:gg<(eA s).length:=by omega
 have hv:=P2 _ dA
 have dC:val ((eA s).take gg)<100:=lL hv (Nat.le_trans (Nat.pow_le_pow_right om (show((eA s).take gg).length<=2 by simp;omega)) de)
 clear hv
 refine bz<|aQ<|cS<|aQ<|zr<|zm<|zm<|kE fh rfl rfl rfl rfl (jK eW)<|fA rfl rfl rfl<|zm ?_
 apply fB 5 40 45 [40,41,42,43,44,45] (λw'=>w2=w') rfl
 intro h7
 replace h7:=bw h7
 refine zs<|zs<|zs<|zs<|zp rfl<|ag ?_
 exact mg rfl rfl
 intro h7
 replace h7:=bw h7
 refine zm<|zm<|kE fh rfl rfl rfl rfl (jK eW)<|jz rfl rfl rfl rfl rfl<|zp rfl<|ag ?_
 exact mg rfl rfl
 rintro xx _ rfl
 refine ag<|zc rfl (λh8=>?_) (λh8=>?_)
 have hn:numeral s=none:=aae oB eW (P9 h8)
 refine zr<|zA<|zA<|ag<|aV ?_
 exact⟨_,rfl,by unfold Fb;rw[hn];rfl,rfl⟩
 have hc:=Qa h8
 have bC:=hc.1
 have bY:=hc.2.1
 refine bz<|df<|zm<|Be rfl rfl rfl rfl rfl (wrap_i64 _ om om)<|zm<|zm<|kE fh rfl rfl rfl rfl (jK eW)<|mN rfl rfl rfl rfl rfl (wrap_u8 _ om om)<|xv zD xG rfl rfl rfl (wrap_i64 _ om om)<|eI rfl rfl rfl (wrap_i64 _ om om)<|zA<|ag<|df<|zm<|eI rfl rfl rfl (wrap_i64 _ om om)<|zA<|ag ?_
 exact⟨gg+1,⟨rfl,rfl,by rw[KU eW,P1];show Value.int _ _=Value.int _ _;congr 1;omega,rfl⟩,⟨rfl,om,by rw[KU eW,List.all_append,dA];simp only[List.all_cons,hc.2.2];rfl⟩,om⟩
 have gJ:(eA s).take gg=eA s:=List.take_of_length_le om
 rw[gJ] at dA
 have hv:=P2 _ dA
 have dC:val (eA s)<1000:=lL hv (Nat.le_trans (Nat.pow_le_pow_right om hd.2.1) de)
 clear hv
 rw[gJ]
 have dS:=aag s
 have hmul: -1000<qV s*(val (eA s):Int)∧qV s*(val (eA s):Int)<1000:=by rcases dS with h|h<;>rw[h]<;>omega
 refine gD<|gF rfl<|zr<|zm<|zm<|Be rfl rfl rfl rfl rfl (wrap_i64 _ om om)<|zA<|zA<|ag<|aV ?_
 exact⟨_,rfl,by unfold Fb;rw[aaf oB hd dA];rfl,rfl⟩
def aA.size:aA->Nat
 | .mk a ps=>1+a.length+sizes ps
 where sizes:List aA->Nat
 |[]=>0
 |t::ts=>t.size+sizes ts
def aaj {ps:List aA}:∀{i:Nat} {p:aA},ps[i]?=some p->p.size<=aA.size.sizes ps:=by
 induction ps with
 |nil=>intro i p h;simp at h
 |cons q ps ih=>
  intro i p h
  cases i with
  |zero=>simp at h;subst h;simp only[aA.size.sizes];omega
  |succ i=>have:=ih (by simpa using h);simp only[aA.size.sizes];omega
def Qc {t p:aA} {i:Nat} (h:t.au[i]?=some p):p.size<t.size:=by
 cases t with
 |mk a ps=>have:=aaj (ps:=ps) h;simp only[aA.size];omega
def xI:∀t:aA,t.au.length<t.size
 | .mk a ps=>by
  have:∀l:List aA,l.length<=aA.size.sizes l:=by
   intro l
   induction l with
   |nil=>simp[aA.size.sizes]
   |cons q r ih=>cases q;simp only[aA.size.sizes,aA.size,lC];omega
  have:=this ps
  simp only[aA.au,aA.size];omega
inductive WF:aA->Prop
 |az (a:aj) (h:a≠[]):WF (.mk a [])
 |list (ps:List aA) (h:ps≠[]) (hp:∀p,p∈ps->WF p):WF (.mk [] ps)
def WF.part {t p:aA} {i:Nat} (h:WF t) (hp:t.au[i]?=some p):WF p:=by
 cases h with
 |az a _=>simp[aA.au] at hp
 |list ps _ hw=>exact hw p (List.mem_of_getElem? hp)
def WF.first {t:aA} (h:WF t) (ha:t.az=[]):∃p,t.au[0]?=some p:=by
 cases h with
 |az a hn=>exact absurd ha hn
 |list ps hn _=>
  cases ps with
  |nil=>exact absurd rfl hn
  |cons q r=>exact⟨q,rfl⟩
def WF.leaf {t:aA} (h:WF t) (ha:t.az≠[]):t.au=[]:=by
 cases h with
 |az a _=>rfl
 |list ps _ _=>exact absurd rfl ha
def Qd {rd:aj->Option (aA×aj)} (fu:∀s t r,rd s=some (t,r)->WF t):∀n s ts r,iT rd n s=some (ts,r)->ts≠[]∧∀p,p∈ts->WF p
 |0,_,_,_,h=>by simp[iT] at h
 |n+1,s,ts,r,h=>by
  unfold iT at h
  cases hr:rd s with
  |none=>simp[hr] at h
  |some q=>
   obtain⟨t,r1⟩:=q
   have ht:=fu s t r1 hr
   simp only[hr] at h
   cases r1 with
   |nil=>simp at h
   |cons c r'=>
    simp only at h
    by_cases h1:c=41
    ·rw[iP h1] at h
     simp at h
     obtain⟨rfl,_⟩:=h
     exact⟨by simp,by intro p hp;simp at hp;subst hp;exact ht⟩
    ·rw[iN h1] at h
     by_cases h2:c=32
     ·rw[iP h2] at h
      cases hp:iT rd n r' with
      |none=>simp[hp] at h
      |some q=>
       obtain⟨ts',r''⟩:=q
       simp[hp] at h
       obtain⟨rfl,_⟩:=h
       obtain⟨_,h4⟩:=Qd fu n r' ts' r'' hp
       exact⟨by simp,by intro p hp;rcases mC.1 hp with rfl|hp;exact ht;exact h4 p hp⟩
     ·rw[iN h2] at h;cases h
def aak:∀d s t r,fc d s=some (t,r)->WF t:=by
 have leaf:∀(s:aj) (t:aA) (r:aj),(if s.takeWhile fC=[] then none else some (aA.mk (s.takeWhile fC) [],s.dropWhile fC))=some (t,r)->WF t:=by
  intro s t r h
  split at h
  ·cases h
  ·rename_i hn
   simp only[Option.some.injEq,Prod.mk.injEq] at h
   rw[<-h.1];exact .az _ hn
 intro d
 induction d with
 |zero=>
  intro s t r h
  cases s with
  |nil=>simp[fc] at h
  |cons c s=>
   simp only[fc] at h
   by_cases h1:c=40
   ·rw[iP h1] at h;cases h
   ·rw[iN h1] at h;exact leaf _ _ _ h
 |succ d ih=>
  intro s t r h
  cases s with
  |nil=>simp[fc] at h
  |cons c s=>
   simp only[fc] at h
   by_cases h1:c=40
   ·rw[iP h1] at h
    cases hp:iT (fc d) (s.length+1) s with
    |none=>simp[hp] at h
    |some q=>
     obtain⟨ts',r''⟩:=q
     simp[hp] at h
     obtain⟨h3,h4⟩:=Qd ih _ _ _ _ hp
     rw[<-h.1];exact .list _ h3 h4
   ·rw[iN h1] at h;exact leaf _ _ _ h
def tF {s:aj} {t:aA} (h:ba s=some t):WF t:=by
 unfold ba at h
 split at h
 ·cases h
 ·cases hr:fc 60 s with
  |none=>rw[hr] at h;cases h
  |some q=>
   obtain⟨t',r⟩:=q
   rw[hr] at h
   cases r with
   |nil=>simp at h;subst h;exact aak _ _ _ _ hr
   |cons c r=>cases h
def Qe {rd:aj->Option (aA×aj)} (fu:∀s t r,rd s=some (t,r)->t.size+r.length<=s.length+1):∀n s ts r,iT rd n s=some (ts,r)->aA.size.sizes ts+r.length<=s.length
 |0,_,_,_,h=>by simp[iT] at h
 |n+1,s,ts,r,h=>by
  unfold iT at h
  cases hr:rd s with
  |none=>simp[hr] at h
  |some q=>
   obtain⟨t,r1⟩:=q
   have ht:=fu s t r1 hr
   simp only[hr] at h
   cases r1 with
   |nil=>simp at h
   |cons c r'=>
    simp only at h
    rw[lC] at ht
    by_cases h1:c=41
    ·rw[iP h1] at h
     simp at h
     obtain⟨rfl,rfl⟩:=h
     simp only[aA.size.sizes];omega
    ·rw[iN h1] at h
     by_cases h2:c=32
     ·rw[iP h2] at h
      cases hp:iT rd n r' with
      |none=>simp[hp] at h
      |some q=>
       obtain⟨ts',r''⟩:=q
       simp[hp] at h
       obtain⟨rfl,rfl⟩:=h
       have h4:=Qe fu n r' ts' r'' hp
       simp only[aA.size.sizes];omega
     ·rw[iN h2] at h;cases h
def aal:∀d s t r,fc d s=some (t,r)->t.size+r.length<=s.length+1:=by
 have leaf:∀(s:aj) (t:aA) (r:aj),(if s.takeWhile fC=[] then none else some (aA.mk (s.takeWhile fC) [],s.dropWhile fC))=some (t,r)->t.size+r.length<=s.length+1:=by
  intro s t r h
  split at h
  ·cases h
  ·simp only[Option.some.injEq,Prod.mk.injEq] at h
   obtain⟨rfl,rfl⟩:=h
   have h1:=EW fC s
   rw[C9,List.length_drop]
   simp only[aA.size,aA.size.sizes];omega
 intro d
 induction d with
 |zero=>
  intro s t r h
  cases s with
  |nil=>simp[fc] at h
  |cons c s=>
   simp only[fc] at h
   by_cases h1:c=40
   ·rw[iP h1] at h;cases h
   ·rw[iN h1] at h;exact leaf _ _ _ h
 |succ d ih=>
  intro s t r h
  cases s with
  |nil=>simp[fc] at h
  |cons c s=>
   simp only[fc] at h
   by_cases h1:c=40
   ·rw[iP h1] at h
    cases hp:iT (fc d) (s.length+1) s with
    |none=>simp[hp] at h
    |some q=>
     obtain⟨ts',r''⟩:=q
     simp[hp] at h
     have h3:=Qe ih _ _ _ _ hp
     obtain⟨rfl,rfl⟩:=h
     simp only[aA.size,lC,lN];omega
   ·rw[iN h1] at h;exact leaf _ _ _ h
def KV {s:aj} {t:aA} (h:ba s=some t):s.length<=12000:=by
 unfold ba at h
 split at h
 ·cases h
 ·omega
def Bz {s:aj} {t:aA} (h:ba s=some t):t.size<=12001:=by
 have hs:=KV h
 unfold ba at h
 split at h
 ·cases h
 ·cases hr:fc 60 s with
  |none=>rw[hr] at h;cases h
  |some q=>
   obtain⟨t',r⟩:=q
   rw[hr] at h
   cases r with
   |nil=>simp at h;subst h;have:=aal _ _ _ _ hr;simp at this;omega
   |cons c r=>cases h
def xJ:∀t:aA,t.az.length<t.size
 | .mk a ps=>by simp only[aA.az,aA.size];omega
def fD (hidden:Bool):aA->Bool
 | .mk a ps=>if a≠[] then decide (a=[105])||(hidden&&decide (a=[118])) else match ps with
  |[]=>false
  |h::rest=>if h.az=[101] then oneT rest else if h.az=[116]∨h.az=[99] then Dl hidden rest else false
 where
 oneT:List aA->Bool
  |[]=>false
  |[t]=>fD true t
  |_::_::_=>false
 Dl (hidden:Bool):List aA->Bool
  |[]=>true
  |t::ts=>fD hidden t&&Dl hidden ts
def Qf (hidden:Bool):∀ts,fD.Dl hidden ts=ts.all (fD hidden)
 |[]=>rfl
 |t::ts=>by simp[fD.Dl,Qf hidden ts]
def nth (ps:List aA) (i:Nat):aA:=ps.getD i (.mk [] [])
def iK {ps:List aA} {i:Nat} (h:i<ps.length):ps[i]?=some (nth ps i):=by
 simp[nth,List.getD,gE h]
def l3 {t:aA} {i:Nat} (h:i<t.au.length):(nth t.au i).size<t.size:=Qc (iK h)
def WF.nth {t:aA} {i:Nat} (h:WF t) (hi:i<t.au.length):WF (nth t.au i):=h.part (iK hi)
def WF.pos {t:aA} (h:WF t) (ha:t.az=[]):0<t.au.length:=by
 obtain⟨p,hp⟩:=h.first ha
 exact(List.getElem?_eq_some_iff.1 hp).1
def Qg {t:aA} (h:t.az≠[]) (hidden:Bool):fD hidden t=(decide (t.az=[105])||(hidden&&decide (t.az=[118]))):=by
 cases t with
 |mk a ps=>unfold fD;exact iP h
def KX {t:aA} (ha:t.az=[]) (hp:0<t.au.length) (he:(nth t.au 0).az=[101]) (hidden:Bool):fD hidden t=(decide (t.au.length=2)&&fD true (nth t.au 1)):=by
 cases t with
 |mk a ps=>
  simp only[aA.az] at ha
  subst ha
  cases ps with
  |nil=>simp[aA.au] at hp
  |cons h rest=>
   have uI:h.az=[101]:=he
   simp only[fD,uI,aA.au,ne_eq,not_true_eq_false,if_false,if_true]
   match rest with
   |[]=>simp[fD.oneT]
   |[p]=>simp[fD.oneT,_root_.Go.Proofs.YtigijcjccmdmhaaGreatDoor.nth]
   |p::q::r=>simp[fD.oneT]
def KY {t:aA} (ha:t.az=[]) (hp:0<t.au.length) (he:(nth t.au 0).az=[116]∨(nth t.au 0).az=[99]) (hidden:Bool):fD hidden t=(t.au.drop 1).all (fD hidden):=by
 cases t with
 |mk a ps=>
  simp only[aA.az] at ha
  subst ha
  cases ps with
  |nil=>simp[aA.au] at hp
  |cons h rest=>
   have uI:h.az=[116]∨h.az=[99]:=he
   have eN:h.az≠[101]:=by rcases uI with h|h<;>rw[h]<;>decide
   simp only[fD,eN,uI,aA.au,ne_eq,not_true_eq_false,if_false,if_true,Qf,List.drop_one,List.tail_cons]
def Qh {t:aA} (ha:t.az=[]) (hp:0<t.au.length) (h1:(nth t.au 0).az≠[101]) (h2:¬((nth t.au 0).az=[116]∨(nth t.au 0).az=[99])) (hidden:Bool):fD hidden t=false:=by
 cases t with
 |mk a ps=>
  simp only[aA.az] at ha
  subst ha
  cases ps with
  |nil=>simp[aA.au] at hp
  |cons h rest=>
   have h1':h.az≠[101]:=h1
   have h2':¬(h.az=[116]∨h.az=[99]):=h2
   simp only[fD,h1',h2',ne_eq,not_true_eq_false,if_false]
def Qi {ps:List aA} {f:aA->Bool} {i:Nat} (hi:i<ps.length):(ps.drop i).all f=(f (nth ps i)&&(ps.drop (i+1)).all f):=by
 rw[List.drop_eq_getElem_cons hi,List.all_cons]
 simp[nth,List.getD,gE hi]
def aao {a x y:aj} (h:(decide (a≠x)&&decide (a≠y))=false):a=x∨a=y:=by
 simp only[Bool.and_eq_false_iff,decide_eq_false_iff_not,Classical.not_not] at h;exact h
def aap {a x y:aj} (h:(decide (a≠x)&&decide (a≠y))=true):¬(a=x∨a=y):=by
 simp only[aE,dE] at h;exact λhh=>hh.elim h.1 h.2
def zI (a:aj):Int:=match numeral a with
 |some n=>if 0<=n∧n<=39 then n else -1
 |none=> -1
def uL (a:aj):Bool:=decide (0<=zI a)
def js (z:Int) (t:aA):Bool:=
 if z=114∨z=42 then uL t.az else if z=110 then(numeral t.az).isSome else if z=108 then nR t.az
 else if z=101 then decide (cJ t=[101])&&fD false t else fD false t
def Qj {b:Bool} (h:(!b)=false):b=true:=by cases b;cases h;rfl
def Qk {b:Bool} (h:(!b)=true):b=false:=by cases b;rfl;cases h
def zJ {a b:Prop} [Decidable a] [Decidable b] (h:a):decide a=(decide a||decide b):=by rw[dT h];rfl
def zK {a b:Prop} [Decidable a] [Decidable b] (h:¬a):decide b=(decide a||decide b):=by rw[dF h];rfl
def Ql {a b c:Prop} [Decidable a] [Decidable b] [Decidable c] (h:a):decide a=(decide a||decide b||decide c):=by rw[dT h];rfl
def Qm {a b c:Prop} [Decidable a] [Decidable b] [Decidable c] (h:¬a) (h2:b):decide b=(decide a||decide b||decide c):=by rw[dF h,dT h2];rfl
def Qn {a b c:Prop} [Decidable a] [Decidable b] [Decidable c] (h:¬a) (h2:¬b):decide c=(decide a||decide b||decide c):=by rw[dF h,dF h2];rfl
def zM {a b:Prop} [Decidable a] [Decidable b] (h:(decide a||decide b)=true):a∨b:=by simpa using h
def zN {a b:Prop} [Decidable a] [Decidable b] (h:(decide a||decide b)=false):¬(a∨b):=by simpa using h
def Qo {a b c:Prop} [Decidable a] [Decidable b] [Decidable c] (h:(decide a||decide b||decide c)=true):a∨b∨c:=by simpa[or_assoc] using h
def Qp {a b c:Prop} [Decidable a] [Decidable b] [Decidable c] (h:(decide a||decide b||decide c)=false):¬(a∨b∨c):=by
 simp only[Bool.or_eq_false_iff,decide_eq_false_iff_not] at h
 exact λhh=>by rcases hh with hh|hh|hh;exact h.1.1 hh;exact h.1.2 hh;exact h.2 hh
def shapeOf (h:aj):aj:=
 if h=[99,111,110,115,116] then[114,110]
 else if h=[109,111,118]∨h=[111,112,101,110] then[114,114]
 else if h=[97,100,100]∨h=[115,117,98]∨h=[109,117,108] then[114,114,114]
 else if h=[110,101,119] then[114,42]
 else if h=[103,101,116] then[114,114,110]
 else if h=[108,97,98]∨h=[122,101,114,111] then[114,108]
 else if h=[112,97,99,107] then[114,114,101,119]
 else if h=[106,117,109,112]∨h=[104,97,108,116] then[114]
 else[]
def Dm (h:aj) (i:Nat):Int:=((h.getD (min i h.length-1) 0).toNat:Int)
def sA (t:aA):Bool:=(decide (shapeOf (cJ t)≠[114,42])&&decide (t.au.length≠(shapeOf (cJ t)).length+1))||decide (t.au.length<2)
def qo (t:aA) (i:Nat):Bool:=js (Dm (shapeOf (cJ t)) i) (nth t.au i)
def l4 (t:aA):Bool:=if shapeOf (cJ t)=[] then false else if sA t then false
 else decide (∀i,i<t.au.length->1<=i->qo t i=true)&&(decide (cJ t≠[103,101,116])||decide (0<=(numeral (nth t.au 3).az).getD 0))
def aaq {h:aj} (hh:h=[103,101,116]):shapeOf h=[114,114,110]:=by rw[hh];decide
def aar {t:aA} (h:sA t=false) (hh:cJ t=[103,101,116]):t.au.length=4:=by
 unfold sA at h
 rw[aaq hh] at h
 simp only[Bool.or_eq_false_iff,Bool.and_eq_false_iff,decide_eq_false_iff_not] at h
 rcases h.1 with h|h
 ·exact absurd de h
 ·simpa using h
def aas {t:aA} (h:sA t=false):2<=t.au.length:=by
 unfold sA at h
 simp only[Bool.or_eq_false_iff,decide_eq_false_iff_not] at h
 omega
def KZ {t:aA} (h:shapeOf (cJ t)≠[]):t.az=[]∧0<t.au.length∧cJ t=(nth t.au 0).az:=by
 have eN:cJ t≠[]:=λhh=>by rw[hh] at h;exact h de
 by_cases ha:t.az=[]
 ·rcases Nat.eq_zero_or_pos t.au.length with hz|hz
  ·exact absurd (Dj (.inr (List.length_eq_zero_iff.1 hz))) eN
  ·exact⟨ha,hz,Fa ha (iK hz)⟩
 ·exact absurd (Dj (.inl ha)) eN
def aat (h:aj):(shapeOf h).length<=4:=by
 unfold shapeOf
 repeat' split
 all_goals decide
def Qq {t:aA} {n:Nat} (hn:n=t.au.length):((decide (shapeOf (cJ t)≠[114,42])&&decide ((n:Int)≠((shapeOf (cJ t)).length:Int)+1))||decide ((n:Int)<2))=sA t:=by
 unfold sA
 subst hn
 congr 1
 ·congr 1
  exact decide_eq_decide.2 om
 ·exact decide_eq_decide.2 om
def Qr {t:aA} (h:shapeOf (cJ t)=[]):l4 t=false:=by unfold l4;rw[iP h]
def K0 {t:aA} (h:sA t=true):l4 t=false:=by
 unfold l4;rw[iP h];split<;>rfl
def aau {t:aA} {i:Nat} (hi:i<t.au.length) (h1:1<=i) (h:qo t i=false):l4 t=false:=by
 unfold l4;split
 ·rfl
 ·split
  ·rfl
  ·rw[dF (λhh=>by have:=hh i hi h1;rw[h] at this;cases this)];rfl
def aav {t:aA} (h1:shapeOf (cJ t)≠[]) (h2:sA t=false) (h:∀i,i<t.au.length->1<=i->qo t i=true):
  l4 t=(decide (cJ t≠[103,101,116])||decide (0<=(numeral (nth t.au 3).az).getD 0)):=by
 unfold l4;rw[iN h1,iN (by rw[h2];simp),dT h];rfl
def aaw {t:aA} (h:l4 t=true):0<t.au.length:=by
 unfold l4 at h
 split at h
 ·cases h
 ·rename_i eN;exact(KZ eN).2.1
def seen (f:aA->Bool) (s:aj):Bool:=match ba s with
 |some t=>f t
 |none=>false
def HO {f:aA->Bool} {s:aj} {t:aA} (h:∀t',ba s=some t'->t=t'):((ba s).isSome&&f t)=seen f s:=by
 unfold seen
 cases hp:ba s with
 |none=>rfl
 |some t'=>rw[h t' hp];rfl
def HP (t:aA):Bool:=l4 t&&(decide ((nth t.au 0).az=[106,117,109,112])||decide ((nth t.au 0).az=[104,97,108,116]))
abbrev rQ (s:aj):Bool:=seen (fD false) s
abbrev bH (s:aj):Bool:=seen l4 s
abbrev jt (s:aj):Bool:=seen HP s
def aax (t:aA) (v:Value) (L:List Nat) (w:World) (hv:bT L w v t):ck Tryz.prog 159 [v] w λr w'=>r= .int .i64 (zI t.az)∧ak [] w w':=by
 obtain⟨a,n,c,rfl,hn,bc⟩:=dO hv
 have hK:=ak.refl [] w
 refine cX [.tmp 2] 19 Tryz.func159 rfl Yx rfl rfl ?_
 refine zr<|fG rfl ?_
 intro w1 aK aT eh
 have hK:=hK.ext aK
 refine zA<|ag<|zr<|zf dB rfl<|zl cm rfl (aT.at rfl)<|aC (HN _ _) ?_
 rintro _ _ ⟨rfl,rfl⟩
 refine zm<|zx (i:=0) rfl rfl<|zx (i:=1) rfl rfl<|zA<|zA<|ag<|aQ<|zr<|zm<|eM rfl<|zm ?_
 apply fB 4 13 17 [13,14,15,16,17] (λw'=>w1=w') rfl
 intro h1
 replace h1:=bw h1
 refine zs<|zs<|zs<|zp rfl<|ag ?_
 exact mg rfl rfl
 intro h1
 replace h1:=bw h1
 refine zm<|aC (E6 _ _ _ _) ?_
 rintro _ _ ⟨rfl,rfl⟩
 refine eM rfl<|zp rfl<|ag ?_
 exact mg rfl rfl
 rintro xx _ rfl
 refine ag<|zc rfl (λh2=>?_) (λh2=>?_)
 have hr:zI t.az= -1:=by unfold zI;cases hn:numeral t.az with|none=>rfl|some k=>rw[hn] at h2;simp at h2;exact iN om
 refine zr<|zA<|ag<|aV ?_
 exact⟨_,rfl,by rw[hr];rfl,hK⟩
 have hr:zI t.az=(numeral t.az).getD 0:=by unfold zI;cases hn:numeral t.az with|none=>rw[hn] at h2;simp at h2|some k=>rw[hn] at h2;simp at h2;exact iP om
 refine bz<|zr<|zm<|zA<|ag<|aV ?_
 exact⟨_,rfl,by rw[hr];rfl,hK⟩
def K1:∀(m:Nat) (t:aA),t.size<=m->t.size<=100000->WF t->∀(hidden:Bool) (v:Value) (L:List Nat) (w:World),bT L w v t->
  ck Tryz.prog 89 [v,.bool hidden,.bool false] w λr w'=>r= .bool (fD hidden t)∧ak [] w w':=by
 intro m
 induction m with
 |zero=>intro t h;cases t;simp[aA.size] at h
 |succ m ih=>
  intro t hm rR dz hidden v L w hv
  obtain⟨a,n,c,rfl,hn,bc⟩:=dO hv
  have hK:=ak.refl [] w
  have pK:=xI t
  refine cX [.tmp 6] 72 Tryz.func89 rfl ZI rfl rfl ?_
  refine zr<|fG rfl ?_
  intro w1 aK bR eh
  have hK:=hK.ext aK;have bc:=bc.ext aK
  refine zA<|ag<|aQ<|zr<|zf dB rfl<|zl cm rfl (bR.at rfl)<|jI rfl rfl rfl rfl<|ag<|zc rfl (λh1=>?_) (λh1=>?_)
  refine zr<|zf dB rfl<|zl cm rfl (bR.at rfl)<|cY rfl rfl<|zm ?_
  apply fB 7 15 22 [15,16,17,18,19,20,21,22] (λw'=>w1=w') rfl
  intro h2
  replace h2:=bw h2
  refine zs<|zs<|zs<|zs<|zs<|zs<|zp rfl<|ag ?_
  exact mg rfl rfl
  intro h2
  replace h2:=bw h2
  refine zm<|zm ?_
  apply fZ 4 17 21 [17,18,19,20,21] (λw'=>w1=w') rfl
  intro h3
  replace h3:=bw h3
  refine zf dB rfl<|zl cm rfl (bR.at rfl)<|cY rfl rfl<|zp rfl<|ag ?_
  exact mg rfl rfl
  intro h3
  replace h3:=bw h3
  refine zs<|zs<|zs<|zp rfl<|ag ?_
  exact mg rfl rfl
  rintro xx _ rfl
  refine zp rfl<|ag ?_
  exact mg rfl rfl
  rintro xx _ rfl
  refine zm ?_
  apply fB 7 23 30 [23,24,25,26,27,28,29,30] (λw'=>w1=w') rfl
  intro h4
  replace h4:=bw h4
  refine zs<|zs<|zs<|zs<|zs<|zs<|zp rfl<|ag ?_
  exact mg rfl rfl
  intro h4
  replace h4:=bw h4
  refine zm<|zm<|EL (t:=25) (b:=false) rfl<|zs<|zs<|zs<|zp rfl<|zp rfl<|ag ?_
  exact mg rfl rfl
  rintro xx _ rfl
  refine zA<|ag<|aV ?_
  exact⟨_,rfl,show Value.bool _=Value.bool _ from cA _ (by rw[Qg h1,Bool.or_false]),hK⟩
  have ha:t.az=[]:=Classical.not_not.1 h1
  have kS:=dz.pos ha
  have mX:=iK kS
  obtain⟨b,off,pa,pn,pc,rfl,eC,fR,iz⟩:=j9 bc mX
  refine bz<|zr<|zf cN rfl<|zl cK rfl (bR.at rfl)<|zi (i:=0) cw aH rfl rfl (by rw[hn];exact kS)<|zf dB rfl<|zl cm rfl (eC 0 _ rfl)<|zA<|ag<|aQ<|zr<|zm<|cY rfl rfl<|ag<|zc rfl (λh5=>?_) (λh5=>?_)
  refine zr<|zf cN rfl<|zl cK rfl (bR.at rfl)<|dZ cw rfl<|dQ rfl rfl rfl<|zm ?_
  apply fZ 7 42 49 [42,43,44,45,46,47,48,49] (ak [] w1) rfl
  intro h6
  replace h6:=bw h6
  have Fe:=ak.refl [] w1
  have hlen:t.au.length=2:=by omega
  have qp:=iK (ps:=t.au) (i:=1) om
  obtain⟨b1,ga,gZ,qW,ia,aT,bC,sB,o4⟩:=j9 bc qp
  cases aT
  refine zf cN rfl<|zl cK rfl (bR.at rfl)<|zi (i:=1) cw aH rfl rfl om<|zL bU aH rfl bC rfl<|zm<|aC (ih (nth t.au 1) (by have:=l3 (t:=t) (i:=1) om;omega) (by have:=l3 (t:=t) (i:=1) om;omega) (dz.nth om) true _ L w1 (mT o4)) ?_
  rintro v2 w2 ⟨dC,aq⟩
  have eH:=aq.size
  have Fe:=Fe.ext aq
  obtain rfl:=dC
  refine zp rfl<|ag ?_
  exact mg rfl Fe
  intro h6
  replace h6:=bw h6
  have Fe:=ak.refl [] w1
  refine zs<|zs<|zs<|zs<|zs<|zs<|zp rfl<|ag ?_
  exact mg rfl Fe
  intro xx w2 aq
  have hK:=hK.ext aq
  refine zA<|ag<|aV<|⟨_,rfl,show Value.bool _=Value.bool _ from cA _ ?_,hK⟩
  rw[KX ha kS h5]
  congr 1
  exact decide_eq_decide.2 om
  have eN:=h5
  refine bz<|aQ<|zr<|zm<|jI rfl rfl rfl rfl<|zm ?_
  apply fZ 3 52 55 [52,53,54,55] (λw'=>w1=w') rfl
  intro h7
  replace h7:=bw h7
  refine zm<|jI rfl rfl rfl rfl<|zp rfl<|ag ?_
  exact mg rfl rfl
  intro h7
  replace h7:=bw h7
  refine zs<|zs<|zp rfl<|ag ?_
  exact mg rfl rfl
  rintro xx _ rfl
  refine ag<|zc rfl (λh8=>?_) (λh8=>?_)
  have hb:=Qh ha kS eN (aap h8)
  refine zr<|zA<|ag<|aV ?_
  exact⟨_,rfl,by rw[hb];rfl,hK⟩
  have zO:(nth t.au 0).az=[116]∨(nth t.au 0).az=[99]:=aao h8
  refine bz<|aQ<|zr<|zA<|ag<|cS ?_
  refine fY (λk:Nat=>[(3,.pointer (some ⟨w.heap.size,0,none⟩)),(1,.bool hidden),(2,.bool false),(8,.int .i64 (k:Int))]) (λk w'=>ak [] w w'∧ak [] w1 w'∧1<=k∧k<=t.au.length∧(t.au.drop 1).all (fD hidden)=(t.au.drop k).all (fD hidden)) (λk=>t.au.length-k) (1) (⟨rfl,rfl,rfl,rfl⟩) (⟨hK,ak.refl [] _,om,om,rfl⟩) ?_
  intro gg w2 e2 hI
  obtain⟨hK,aK,hk,gR,dA⟩:=hI
  have bc:=bc.ext aK;have bR:=bR.ext aK
  refine aQ<|zr<|zm<|zf cN rfl<|zl cK rfl (bR.at rfl)<|dZ cw rfl<|fA rfl rfl rfl<|ag<|zc rfl (λh9=>?_) (λh9=>?_)
  have hp:=iK (ps:=t.au) (i:=gg) om
  obtain⟨b1,ga,gZ,qW,ia,aT,bC,sB,o4⟩:=j9 bc hp
  cases aT
  refine bz<|aQ<|cS<|zr<|zf cN rfl<|zl cK rfl (bR.at rfl)<|zm<|zi cw aH rfl rfl om<|zL bU aH rfl bC rfl<|zm<|zm<|aC (ih (nth t.au gg) (by have:=l3 (t:=t) (i:=gg) om;omega) (by have:=l3 (t:=t) (i:=gg) om;omega) (dz.nth om) hidden _ L w2 (mT o4)) ?_
  rintro v3 w3 ⟨er,aJ⟩
  have gd:=aJ.size
  have hK:=hK.ext aJ;have aK:=aK.ext aJ
  obtain rfl:=er
  refine eM rfl<|ag<|zc rfl (λgI=>?_) (λgI=>?_)
  have hb:fD hidden t=false:=by rw[KY ha kS zO,dA,Qi om,gI];rfl
  refine zr<|zA<|ag<|aV ?_
  exact⟨_,rfl,by rw[hb];rfl,hK⟩
  refine bz<|df<|zm<|eI rfl rfl rfl (wrap_i64 _ om om)<|zA<|ag ?_
  exact⟨gg+1,⟨rfl,rfl,rfl,rfl⟩,⟨hK,aK,om,om,by rw[dA,Qi om,gI];rfl⟩,om⟩
  have hb:fD hidden t=true:=by rw[KY ha kS zO,dA,List.drop_of_length_le om];rfl
  refine gD<|gF rfl<|zr<|zA<|ag<|aV ?_
  exact⟨_,rfl,by rw[hb];rfl,hK⟩
def jj (xs:List aj):List (List C):=xs.map λx=>[.val (str x)]
def rS (xs:List aj):(jj xs).length=xs.length:=by simp[jj]
def Qs {xs:List aj} {i:Nat} {x:aj} (h:xs[i]?=some x):(jj xs)[i]?=some [.val (str x)]:=by simp[jj,h]
def bI (L:List Nat) (w:World) (v:Value) (xs:List aj):Prop:=cF L w v (.sl 1 (jj xs))
def bI.ext {L:List Nat} {w w':World} {v:Value} {xs:List aj} (h:bI L w v xs) (k:ak [] w w'):bI L w' v xs:=cF.ext h k
def bI.aL {L L':List Nat} {w w':World} {v:Value} {xs:List aj} (h:bI L w v xs) (k:ak L' w w') (hL:∀x,x∈L'->x∈L):bI L w' v xs:=cF.aO h (k.mono hL)
def eP {L:List Nat} {w:World} {v:Value} {xs:List aj} (h:bI L w v xs):∃a n c,v= .slice a n c∧n=xs.length:=by
 obtain⟨a,c,rfl,_⟩:=rN h
 exact⟨a,_,c,rfl,rS xs⟩
def Qt {L:List Nat} {w:World} {vs:List Value} {x:aj} (h:dR L w vs [.val (str x)]):vs=[str x]:=by
 match vs,h with
 |[v],h=>obtain⟨h1,_⟩:=h;cases h1;rfl
 |[],h=>exact h.elim
 |_::_::_,h=>exact h.2.elim
def qX {L:List Nat} {w:World} {a:Option Addr} {n c i:Nat} {xs:List aj} {x:aj} (h:bI L w (.slice a n c) xs) (hi:xs[i]?=some x):
  ∃b off,a=some ⟨b,off,none⟩∧iS w b (off+i*1) [str x]:=by
 obtain⟨b,off,vs,ha,hb,hL,hl,hc,hr⟩:=yX h (Qs hi)
 rw[Qt hr] at hc
 exact⟨b,off,ha,hc⟩
abbrev aD (xs:List aj) (i:Nat):aj:=xs.getD i []
def lp {xs:List aj} {i:Nat} (h:i<xs.length):xs[i]?=some (aD xs i):=by
 simp[gE h]
structure Bk where
 aP:aj
 cP:List aj
 code:List aj
def Bk.enc (b:Bk):List C:=[.val (str b.aP),.sl 1 (jj b.cP),.sl 1 (jj b.code)]
def qY (L:List Nat) (w:World) (v:Value) (b:Bk):Prop:=kD L w v b.enc
def qY.ext {L:List Nat} {w w':World} {v:Value} {b:Bk} (h:qY L w v b) (k:ak [] w w'):qY L w' v b:=kD.ext h k
def Qu {L:List Nat} {w:World} {vs:List Value} {b:Bk} (h:dR L w vs b.enc):∃v1 v2,vs=[str b.aP,v1,v2]∧bI L w v1 b.cP∧bI L w v2 b.code:=by
 rw[Bk.enc] at h
 match vs,h with
 |[v0,v1,v2],h=>obtain⟨h0,h1,h2,_⟩:=h;cases h0;exact⟨v1,v2,rfl,h1,h2⟩
 |[],h=>exact h.elim
 |[_],h=>exact h.2.elim
 |[_,_],h=>exact h.2.2.elim
 |_::_::_::_::_,h=>exact h.2.2.2.elim
def Dn {L:List Nat} {w:World} {v:Value} {b:Bk} (h:qY L w v b):∃a1 n1 c1 a2 n2 c2,v= .agg #[str b.aP,.slice a1 n1 c1,.slice a2 n2 c2]∧
  n1=b.cP.length∧n2=b.code.length∧bI L w (.slice a1 n1 c1) b.cP∧bI L w (.slice a2 n2 c2) b.code:=by
 obtain⟨vs,rfl,hr⟩:=h
 obtain⟨v1,v2,rfl,h1,h2⟩:=Qu hr
 obtain⟨a1,n1,c1,rfl,fU⟩:=eP h1
 obtain⟨a2,n2,c2,rfl,fJ⟩:=eP h2
 exact⟨a1,n1,c1,a2,n2,c2,rfl,fU,fJ,h1,h2⟩
def Dp {L:List Nat} {w:World} {b:Bk} {v1 v2:Value} (h1:bI L w v1 b.cP) (h2:bI L w v2 b.code):qY L w (.agg #[str b.aP,v1,v2]) b:=
 ⟨[str b.aP,v1,v2],rfl,.val _,h1,h2,trivial⟩
def ko (L:List Nat) (w:World) (v:Value) (bs:List Bk):Prop:=cF L w v (.sl 3 (bs.map Bk.enc))
def ko.ext {L:List Nat} {w w':World} {v:Value} {bs:List Bk} (h:ko L w v bs) (k:ak [] w w'):ko L w' v bs:=cF.ext h k
def BA {L:List Nat} {w:World} {v:Value} {bs:List Bk} (h:ko L w v bs):∃a n c,v= .slice a n c∧n=bs.length:=by
 obtain⟨a,c,rfl,_⟩:=rN h
 exact⟨a,_,c,rfl,sm⟩
def BB {L:List Nat} {w:World} {a:Option Addr} {n c i:Nat} {bs:List Bk} {k:Bk} (h:ko L w (.slice a n c) bs) (hi:bs[i]?=some k):
  ∃b off a1 n1 c1 a2 n2 c2,a=some ⟨b,off,none⟩∧iS w b (off+i*3) [str k.aP,.slice a1 n1 c1,.slice a2 n2 c2]∧
   n1=k.cP.length∧n2=k.code.length∧bI L w (.slice a1 n1 c1) k.cP∧bI L w (.slice a2 n2 c2) k.code:=by
 obtain⟨b,off,vs,ha,hb,hL,hl,hc,hr⟩:=yX h (show(bs.map Bk.enc)[i]?=some k.enc by simp[hi])
 obtain⟨v1,v2,rfl,h1,h2⟩:=Qu hr
 obtain⟨a1,n1,c1,rfl,fU⟩:=eP h1
 obtain⟨a2,n2,c2,rfl,fJ⟩:=eP h2
 exact⟨b,off,a1,n1,c1,a2,n2,c2,ha,hc,fU,fJ,h1,h2⟩
def HQ (p:Prop) (w:World) (b off:Nat) (vs:List Value):Prop:=p->iS w b off vs
def HQ.ext {p:Prop} {w w':World} {b off:Nat} {vs:List Value} (h:HQ p w b off vs) (k:ak [] w w'):HQ p w' b off vs:=λhp=>(h hp).ext k
def HR (p:Prop) (L:List Nat) (w:World) (v:Value) (ts:List aA):Prop:=p->fI L w v ts
def HR.ext {p:Prop} {L:List Nat} {w w':World} {v:Value} {ts:List aA} (h:HR p L w v ts) (k:ak [] w w'):HR p L w' v ts:=λhp=>(h hp).ext k

def aay (t:aA) (hs:t.size<=100000) (dz:WF t) (z:Int) (v:Value) (L:List Nat) (w:World) (hv:bT L w v t):
  ck Tryz.prog 122 [v,.int .u8 z] w λr w'=>r= .bool (js z t)∧ak [] w w':=by
 have dK:=hv
 obtain⟨a,n,c,rfl,hn,bc⟩:=dO hv
 have hK:=ak.refl [] w
 have BC:=xJ t
 refine cX [.tmp 4] 39 Tryz.func122 rfl X0 rfl rfl ?_
 refine zr<|fG rfl ?_
 intro w1 aK aZ eh
 have hK:=hK.ext aK;have dK:=dK.ext aK
 refine zA<|ag<|aQ<|zr<|zm<|ag<|cS<|aQ<|zr<|dQ rfl rfl rfl<|zA<|ag ?_
 refine ji (λ_:Unit=>[(2,.pointer (some ⟨w.heap.size,0,none⟩)),(7,.int .u8 z),(8,.bool (decide (z=114)||decide (z=42)))]) (λ_ w'=>w'=w1) ?_ ?_
 refine zc rfl (λh1=>?_) (λh1=>?_)
 refine bz ?_
 exact⟨(),⟨rfl,rfl,cA Value.bool (zJ h1)⟩,rfl⟩
 refine df<|dQ rfl rfl rfl<|zA<|ag ?_
 exact⟨(),⟨rfl,rfl,cA Value.bool (zK h1)⟩,rfl⟩
 intro gu w2 e2 hI
 obtain rfl:=hI
 refine zc rfl (λh2=>?_) (λh2=>?_)
 have hc:=zM h2
 refine zr<|zL bU aH rfl aZ.all rfl<|aC (aax t _ L w2 dK) ?_
 rintro v3 w3 ⟨er,aJ⟩
 have gd:=aJ.size
 have hK:=hK.ext aJ
 obtain rfl:=er
 refine l0 rfl rfl rfl rfl rfl<|zA<|ag<|aV ?_
 exact⟨_,rfl,show Value.bool _=Value.bool _ from cA _ (by rw[js,iP hc];rfl),hK⟩
 have hc:=zN h2
 refine zr<|dQ rfl rfl rfl<|zA<|ag<|zc rfl (λh3=>?_) (λh3=>?_)
 have bC:=h3
 refine zr<|zf dB rfl<|zl cm rfl (aZ.at rfl)<|aC (HN _ _) ?_
 rintro _ _ ⟨rfl,rfl⟩
 refine zm<|zx (i:=0) rfl rfl<|zx (i:=1) rfl rfl<|zA<|zA<|ag<|zr<|zm<|zA<|ag<|aV ?_
 exact⟨_,rfl,show Value.bool _=Value.bool _ from cA _ (by rw[js,iN hc,iP bC]),hK⟩
 have bC:=h3
 refine zr<|dQ rfl rfl rfl<|zA<|ag<|zc rfl (λh4=>?_) (λh4=>?_)
 have bY:=h4
 refine zr<|zf dB rfl<|zl cm rfl (aZ.at rfl)<|aC (Qb _ om _) ?_
 rintro _ _ ⟨rfl,rfl⟩
 refine zA<|ag<|aV ?_
 exact⟨_,rfl,show Value.bool _=Value.bool _ from cA _ (by rw[js,iN hc,iN bC,iP bY]),hK⟩
 have bY:=h4
 refine zr<|dQ rfl rfl rfl<|zA<|ag<|zc rfl (λh5=>?_) (λh5=>?_)
 have eu:=h5
 refine zr<|zL bU aH rfl aZ.all rfl<|aC (HM t _ L w2 dK) ?_
 rintro v3 w3 ⟨er,aJ⟩
 have gd:=aJ.size
 have hK:=hK.ext aJ;have dK:=dK.ext aJ;have aZ:=aZ.ext aJ
 obtain rfl:=er
 refine cY rfl rfl<|zm ?_
 apply fZ 3 33 36 [33,34,35,36] (ak [] w3) rfl
 intro h6
 replace h6:=bw h6
 have Ff:=ak.refl [] w3
 refine zL bU aH rfl aZ.all rfl<|aC (K1 t.size t (lR _) hs dz false _ L w3 dK) ?_
 rintro v4 w4 ⟨eJ,aF⟩
 have gK:=aF.size
 have Ff:=Ff.ext aF
 obtain rfl:=eJ
 refine zp rfl<|ag ?_
 exact mg rfl Ff
 intro h6
 replace h6:=bw h6
 have Ff:=ak.refl [] w3
 refine zs<|zs<|zp rfl<|ag ?_
 exact mg rfl Ff
 intro xx w4 aF
 have hK:=hK.ext aF
 refine zA<|ag<|aV ?_
 exact⟨_,rfl,show Value.bool _=Value.bool _ from cA _ (by rw[js,iN hc,iN bC,iN bY,iP eu]),hK⟩
 have eu:=h5
 refine bz<|zr<|zL bU aH rfl aZ.all rfl<|aC (K1 t.size t (lR _) hs dz false _ L w2 dK) ?_
 rintro v3 w3 ⟨er,aJ⟩
 have gd:=aJ.size
 have hK:=hK.ext aJ
 obtain rfl:=er
 refine zA<|ag<|aV ?_
 exact⟨_,rfl,show Value.bool _=Value.bool _ from cA _ (by rw[js,iN hc,iN bC,iN bY,iN eu]),hK⟩
def aaz (h:aj) (w:World):ck Tryz.prog 121 [str h] w λr w'=>r=str (shapeOf h)∧w=w':=by
 refine cX [.tmp 2] 25 Tryz.func121 rfl XZ rfl rfl ?_
 refine zr<|zA<|ag<|aQ<|zr<|zm<|ag<|cS<|zr<|cY rfl rfl<|zA<|ag<|zc rfl (λh1=>?_) (λh1=>?_)
 have hc:=h1
 refine zr<|zA<|ag<|aV ?_
 exact⟨_,rfl,show str _=str _ from cA _ (by rw[shapeOf,iP hc]),rfl⟩
 have hc:=h1
 refine aQ<|zr<|cY rfl rfl<|zA<|ag ?_
 refine ji (λ_:Unit=>[(3,str h),(6,.bool (decide (h=[109,111,118])||decide (h=[111,112,101,110])))]) (λ_ w'=>w'=w) ?_ ?_
 refine zc rfl (λh2=>?_) (λh2=>?_)
 refine bz ?_
 exact⟨(),⟨rfl,cA Value.bool (zJ h2)⟩,rfl⟩
 refine df<|cY rfl rfl<|zA<|ag ?_
 exact⟨(),⟨rfl,cA Value.bool (zK h2)⟩,rfl⟩
 intro gu w1 e1 hI
 obtain rfl:=hI
 refine zc rfl (λh3=>?_) (λh3=>?_)
 have bC:=zM h3
 refine zr<|zA<|ag<|aV ?_
 exact⟨_,rfl,show str _=str _ from cA _ (by rw[shapeOf,iN hc,iP bC]),rfl⟩
 have bC:=zN h3
 refine aQ<|zr<|cY rfl rfl<|zA<|ag ?_
 refine ji (λ_:Unit=>[(3,str h),(9,.bool (decide (h=[97,100,100])||decide (h=[115,117,98])||decide (h=[109,117,108])))]) (λ_ w'=>w'=w1) ?_ ?_
 refine zc rfl (λh4=>?_) (λh4=>?_)
 refine bz ?_
 exact⟨(),⟨rfl,cA Value.bool (Ql h4)⟩,rfl⟩
 have fU:=h4
 refine zr<|cY rfl rfl<|zA<|ag<|zc rfl (λh5=>?_) (λh5=>?_)
 refine bz ?_
 exact⟨(),⟨rfl,cA Value.bool (Qm fU h5)⟩,rfl⟩
 refine df<|cY rfl rfl<|zA<|ag ?_
 exact⟨(),⟨rfl,cA Value.bool (Qn fU h5)⟩,rfl⟩
 intro gu w2 e2 hI
 obtain rfl:=hI
 refine zc rfl (λh6=>?_) (λh6=>?_)
 have bY:=Qo h6
 refine zr<|zA<|ag<|aV ?_
 exact⟨_,rfl,show str _=str _ from cA _ (by rw[shapeOf,iN hc,iN bC,iP bY]),rfl⟩
 have bY:=Qp h6
 refine zr<|cY rfl rfl<|zA<|ag<|zc rfl (λh7=>?_) (λh7=>?_)
 have eu:=h7
 refine zr<|zA<|ag<|aV ?_
 exact⟨_,rfl,show str _=str _ from cA _ (by rw[shapeOf,iN hc,iN bC,iN bY,iP eu]),rfl⟩
 have eu:=h7
 refine zr<|cY rfl rfl<|zA<|ag<|zc rfl (λh8=>?_) (λh8=>?_)
 have jL:=h8
 refine zr<|zA<|ag<|aV ?_
 exact⟨_,rfl,show str _=str _ from cA _ (by rw[shapeOf,iN hc,iN bC,iN bY,iN eu,iP jL]),rfl⟩
 have jL:=h8
 refine aQ<|zr<|cY rfl rfl<|zA<|ag ?_
 refine ji (λ_:Unit=>[(3,str h),(17,.bool (decide (h=[108,97,98])||decide (h=[122,101,114,111])))]) (λ_ w'=>w'=w2) ?_ ?_
 refine zc rfl (λh9=>?_) (λh9=>?_)
 refine bz ?_
 exact⟨(),⟨rfl,cA Value.bool (zJ h9)⟩,rfl⟩
 refine df<|cY rfl rfl<|zA<|ag ?_
 exact⟨(),⟨rfl,cA Value.bool (zK h9)⟩,rfl⟩
 intro gu w3 e3 hI
 obtain rfl:=hI
 refine zc rfl (λgI=>?_) (λgI=>?_)
 have j1:=zM gI
 refine zr<|zA<|ag<|aV ?_
 exact⟨_,rfl,show str _=str _ from cA _ (by rw[shapeOf,iN hc,iN bC,iN bY,iN eu,iN jL,iP j1]),rfl⟩
 have j1:=zN gI
 refine zr<|cY rfl rfl<|zA<|ag<|zc rfl (λkq=>?_) (λkq=>?_)
 have qq:=kq
 refine zr<|zA<|ag<|aV ?_
 exact⟨_,rfl,show str _=str _ from cA _ (by rw[shapeOf,iN hc,iN bC,iN bY,iN eu,iN jL,iN j1,iP qq]),rfl⟩
 have qq:=kq
 refine aQ<|zr<|cY rfl rfl<|zA<|ag ?_
 refine ji (λ_:Unit=>[(3,str h),(22,.bool (decide (h=[106,117,109,112])||decide (h=[104,97,108,116])))]) (λ_ w'=>w'=w3) ?_ ?_
 refine zc rfl (λjM=>?_) (λjM=>?_)
 refine bz ?_
 exact⟨(),⟨rfl,cA Value.bool (zJ jM)⟩,rfl⟩
 refine df<|cY rfl rfl<|zA<|ag ?_
 exact⟨(),⟨rfl,cA Value.bool (zK jM)⟩,rfl⟩
 intro gu w4 e4 hI
 obtain rfl:=hI
 refine zc rfl (λlJ=>?_) (λlJ=>?_)
 have zP:=zM lJ
 refine zr<|zA<|ag<|aV ?_
 exact⟨_,rfl,show str _=str _ from cA _ (by rw[shapeOf,iN hc,iN bC,iN bY,iN eu,iN jL,iN j1,iN qq,iP zP]),rfl⟩
 have zP:=zN lJ
 refine bz<|zr<|zA<|ag<|aV ?_
 exact⟨_,rfl,show str _=str _ from cA _ (by rw[shapeOf,iN hc,iN bC,iN bY,iN eu,iN jL,iN j1,iN qq,iN zP]),rfl⟩
def Qv (t:aA) (hs:t.size<=100000) (dz:WF t) (v:Value) (L:List Nat) (w:World) (hv:bT L w v t):
  ck Tryz.prog 90 [v] w λr w'=>r= .bool (l4 t)∧ak [] w w':=by
 have dK:=hv
 obtain⟨a,n,c,rfl,hn,bc⟩:=dO hv
 have hK:=ak.refl [] w
 have BC:=xI t
 have o5:=aat (cJ t)
 refine cX [.tmp 2] 67 Tryz.func90 rfl ZK rfl rfl ?_
 refine zr<|fG rfl ?_
 intro w1 aK aT eh
 have hK:=hK.ext aK;have bc:=bc.ext aK;have dK:=dK.ext aK
 refine zA<|ag<|zr<|zL bU aH rfl aT.all rfl<|aC (HM t _ L w1 dK) ?_
 rintro v2 w2 ⟨dC,aq⟩
 have eH:=aq.size
 have hK:=hK.ext aq;have bc:=bc.ext aq;have aT:=aT.ext aq
 obtain rfl:=dC
 refine aC (aaz _ _) ?_
 rintro _ _ ⟨rfl,rfl⟩
 refine zA<|ag<|aQ<|zr<|zm<|cY rfl rfl<|ag<|zc rfl (λh1=>?_) (λh1=>?_)
 refine zr<|zA<|ag<|aV ?_
 exact⟨_,rfl,by rw[Qr h1];rfl,hK⟩
 have eN:=h1
 refine bz<|aQ<|zr<|zm<|jI rfl rfl rfl rfl<|zm ?_
 apply fZ 8 14 22 [14,15,16,17,18,19,20,21,22] (λw'=>w2=w') rfl
 intro h2
 replace h2:=bw h2
 refine zf cN rfl<|zl cK rfl (aT.at rfl)<|dZ cw rfl<|zm<|kO fh rfl rfl rfl<|eI rfl rfl rfl (wrap_i64 _ om om)<|uA rfl rfl rfl rfl rfl<|zp rfl<|ag ?_
 exact mg rfl rfl
 intro h2
 replace h2:=bw h2
 refine zs<|zs<|zs<|zs<|zs<|zs<|zs<|zp rfl<|ag ?_
 exact mg rfl rfl
 rintro xx _ rfl
 refine zm ?_
 apply fB 5 23 28 [23,24,25,26,27,28] (λw'=>w2=w') rfl
 intro h3
 replace h3:=bw h3
 refine zs<|zs<|zs<|zs<|zp rfl<|ag ?_
 exact mg rfl rfl
 intro h3
 replace h3:=bw h3
 refine zf cN rfl<|zl cK rfl (aT.at rfl)<|dZ cw rfl<|fA rfl rfl rfl<|zp rfl<|ag ?_
 exact mg rfl rfl
 rintro xx _ rfl
 refine ag<|zc rfl (λh4=>?_) (λh4=>?_)
 have hb:=(Qq hn).symm.trans h4
 refine zr<|zA<|ag<|aV ?_
 exact⟨_,rfl,by rw[K0 hb];rfl,hK⟩
 have hb:=(Qq hn).symm.trans h4
 have h2:=aas hb
 have tG:=KZ eN
 refine bz<|aQ<|zr<|zA<|ag<|cS ?_
 refine fY (λk:Nat=>[(1,.pointer (some ⟨w.heap.size,0,none⟩)),(3,str (shapeOf (cJ t))),(4,.int .i64 (k:Int))]) (λk w'=>ak [] w w'∧ak [] w2 w'∧1<=k∧k<=t.au.length∧∀i,i<k->1<=i->qo t i=true) (λk=>t.au.length-k) (1) (⟨rfl,rfl,rfl⟩) (⟨hK,ak.refl [] _,om,om,by intro i hi h1;omega⟩) ?_
 intro gg w3 e3 hI
 obtain⟨hK,aK,hk,gR,dA⟩:=hI
 have bc:=bc.ext aK;have aT:=aT.ext aK
 refine aQ<|zr<|zm<|zf cN rfl<|zl cK rfl (aT.at rfl)<|dZ cw rfl<|fA rfl rfl rfl<|ag<|zc rfl (λh5=>?_) (λh5=>?_)
 have hp:=iK (ps:=t.au) (i:=gg) om
 obtain⟨b,off,pa,pn,pc,rfl,hc,fR,iz⟩:=j9 bc hp
 have oz:=List.length_pos_iff.2 eN
 refine bz<|aQ<|cS<|aQ ?_
 refine ql et aS 14 (rA 36 14) (rA 36 14) [[],[0],[],[1,2],[3],[],[],[],[7],[6,8],[9],[5,10],[4,11],[12]] [λv _=>v=(.pointer (some ⟨w.heap.size,0+1,none⟩)),λv _=>v=(.slice (some ⟨b,off,none⟩) n c),λv _=>v=(.int .i64 (gg:Int)),λv _=>v=(.pointer (some ⟨b,off+gg*2,none⟩)),λv _=>v=(.agg #[str (nth t.au gg).az,.slice pa pn pc]),λv _=>v=(str (shapeOf (cJ t))),λv _=>v=(.int .i64 (gg:Int)),λv _=>v=(str (shapeOf (cJ t))),λv _=>v=(.int .i64 ((shapeOf (cJ t)).length:Int)),λv _=>v=(.int .i64 ((min gg (shapeOf (cJ t)).length:Nat):Int)),λv _=>v=(.int .i64 ((min gg (shapeOf (cJ t)).length-1:Nat):Int)),λv _=>v=(.int .u8 (Dm (shapeOf (cJ t)) gg)),λv _=>v=(.bool (qo t gg)),λv _=>v=(.bool (!qo t gg))] de (cZ (cZ (cZ (cZ (cZ (cZ (cZ (cZ (cZ (cZ (cZ (cZ (cZ (cZ trivial)))))))))))))) (λwd aB=>?_) ?_
 refine bN ?_ ?_
 intro x vs w4 e aF hd he
 replace aF:=aS.trans aB aF
 replace he:e=aM (aN _ x _) []:=he
 subst he
 refine zf cN rfl<|ag ?_
 exact dn (aS.refl _) rfl
 refine bN ?_ ?_
 intro x vs w4 e aF hd he
 have d0:vs 0=(.pointer (some ⟨w.heap.size,0+1,none⟩)):=hd
 replace aF:=aS.trans aB aF
 have aT:=aT.ext aF
 replace he:e=aM (aN _ x _) [(36,vs 0)]:=he
 rw[d0] at he
 subst he
 refine zl cK rfl (aT.at rfl)<|ag ?_
 exact dn (aS.refl _) rfl
 refine bN ?_ ?_
 intro x vs w4 e aF hd he
 replace aF:=aS.trans aB aF
 replace he:e=aM (aN _ x _) []:=he
 subst he
 refine zm<|ag ?_
 exact dn (aS.refl _) rfl
 refine bN ?_ ?_
 intro x vs w4 e aF hd he
 have aR:(vs 1=(.slice (some ⟨b,off,none⟩) n c))∧(vs 2=(.int .i64 (gg:Int))):=hd
 obtain⟨d1,d2⟩:=aR
 replace aF:=aS.trans aB aF
 replace he:e=aM (aN _ x _) [(37,vs 1),(38,vs 2)]:=he
 rw[d1,d2] at he
 subst he
 refine zi cw aH rfl rfl om<|ag ?_
 exact dn (aS.refl _) rfl
 refine bN ?_ ?_
 intro x vs w4 e aF hd he
 have d3:vs 3=(.pointer (some ⟨b,off+gg*2,none⟩)):=hd
 replace aF:=aS.trans aB aF
 have hc:=hc.ext aF
 replace he:e=aM (aN _ x _) [(39,vs 3)]:=he
 rw[d3] at he
 subst he
 refine zL bU aH rfl hc rfl<|ag ?_
 exact dn (aS.refl _) rfl
 refine bN ?_ ?_
 intro x vs w4 e aF hd he
 replace aF:=aS.trans aB aF
 replace he:e=aM (aN _ x _) []:=he
 subst he
 refine zm<|ag ?_
 exact dn (aS.refl _) rfl
 refine bN ?_ ?_
 intro x vs w4 e aF hd he
 replace aF:=aS.trans aB aF
 replace he:e=aM (aN _ x _) []:=he
 subst he
 refine zm<|ag ?_
 exact dn (aS.refl _) rfl
 refine bN ?_ ?_
 intro x vs w4 e aF hd he
 replace aF:=aS.trans aB aF
 replace he:e=aM (aN _ x _) []:=he
 subst he
 refine zm<|ag ?_
 exact dn (aS.refl _) rfl
 refine bN ?_ ?_
 intro x vs w4 e aF hd he
 have d7:vs 7=(str (shapeOf (cJ t))):=hd
 replace aF:=aS.trans aB aF
 replace he:e=aM (aN _ x _) [(43,vs 7)]:=he
 rw[d7] at he
 subst he
 refine kO fh rfl rfl rfl<|ag ?_
 exact dn (aS.refl _) rfl
 refine bN ?_ ?_
 intro x vs w4 e aF hd he
 have aR:(vs 6=(.int .i64 (gg:Int)))∧(vs 8=(.int .i64 ((shapeOf (cJ t)).length:Int))):=hd
 obtain⟨d6,d8⟩:=aR
 replace aF:=aS.trans aB aF
 replace he:e=aM (aN _ x _) [(42,vs 6),(44,vs 8)]:=he
 rw[d6,d8] at he
 subst he
 refine XE rfl rfl rfl rfl (show(if((shapeOf (cJ t)).length:Int)<(gg:Int) then((shapeOf (cJ t)).length:Int) else(gg:Int))=((min gg (shapeOf (cJ t)).length:Nat):Int) from by split<;>omega)<|ag ?_
 exact dn (aS.refl _) rfl
 refine bN ?_ ?_
 intro x vs w4 e aF hd he
 have d9:vs 9=(.int .i64 ((min gg (shapeOf (cJ t)).length:Nat):Int)):=hd
 replace aF:=aS.trans aB aF
 replace he:e=aM (aN _ x _) [(45,vs 9)]:=he
 rw[d9] at he
 subst he
 refine mN rfl rfl rfl rfl rfl (show IntKind.i64.wrap (((min gg (shapeOf (cJ t)).length:Nat):Int)-1)=((min gg (shapeOf (cJ t)).length-1:Nat):Int) from by rw[wrap_i64 _ om om];omega)<|ag ?_
 exact dn (aS.refl _) rfl
 refine bN ?_ ?_
 intro x vs w4 e aF hd he
 have aR:(vs 5=(str (shapeOf (cJ t))))∧(vs 10=(.int .i64 ((min gg (shapeOf (cJ t)).length-1:Nat):Int))):=hd
 obtain⟨d5,d10⟩:=aR
 replace aF:=aS.trans aB aF
 replace he:e=aM (aN _ x _) [(41,vs 5),(46,vs 10)]:=he
 rw[d5,d10] at he
 subst he
 refine kE fh rfl rfl rfl rfl (jK om)<|ag ?_
 exact dn (aS.refl _) rfl
 refine bN ?_ ?_
 intro x vs w4 e aF hd he
 have aR:(vs 4=(.agg #[str (nth t.au gg).az,.slice pa pn pc]))∧(vs 11=(.int .u8 (Dm (shapeOf (cJ t)) gg))):=hd
 obtain⟨d4,d11⟩:=aR
 replace aF:=aS.trans aB aF
 have iz:=iz.ext aF
 replace he:e=aM (aN _ x _) [(40,vs 4),(47,vs 11)]:=he
 rw[d4,d11] at he
 subst he
 refine aC (aay (nth t.au gg) (by have:=l3 (t:=t) (i:=gg) om;omega) (dz.nth om) _ _ L w4 (mT iz)) ?_
 rintro v5 w5 ⟨ln,aU⟩
 have pJ:=aU.size
 obtain rfl:=ln
 refine ag ?_
 exact dn (aS.of aU) rfl
 refine bN ?_ ?_
 intro x vs w4 e aF hd he
 have d12:vs 12=(.bool (qo t gg)):=hd
 replace aF:=aS.trans aB aF
 replace he:e=aM (aN _ x _) [(48,vs 12)]:=he
 rw[d12] at he
 subst he
 refine eM rfl<|ag ?_
 exact dn (aS.refl _) rfl
 exact trivial
 intro x vs nS lK bJ
 have d0:vs 0=(.pointer (some ⟨w.heap.size,0+1,none⟩)):=bJ 0 de
 have d1:vs 1=(.slice (some ⟨b,off,none⟩) n c):=bJ 1 de
 have d2:vs 2=(.int .i64 (gg:Int)):=bJ 2 de
 have d3:vs 3=(.pointer (some ⟨b,off+gg*2,none⟩)):=bJ 3 de
 have d4:vs 4=(.agg #[str (nth t.au gg).az,.slice pa pn pc]):=bJ 4 de
 have d5:vs 5=(str (shapeOf (cJ t))):=bJ 5 de
 have d6:vs 6=(.int .i64 (gg:Int)):=bJ 6 de
 have d7:vs 7=(str (shapeOf (cJ t))):=bJ 7 de
 have d8:vs 8=(.int .i64 ((shapeOf (cJ t)).length:Int)):=bJ 8 de
 have d9:vs 9=(.int .i64 ((min gg (shapeOf (cJ t)).length:Nat):Int)):=bJ 9 de
 have d10:vs 10=(.int .i64 ((min gg (shapeOf (cJ t)).length-1:Nat):Int)):=bJ 10 de
 have d11:vs 11=(.int .u8 (Dm (shapeOf (cJ t)) gg)):=bJ 11 de
 have d12:vs 12=(.bool (qo t gg)):=bJ 12 de
 have d13:vs 13=(.bool (!qo t gg)):=bJ 13 de
 have hK:=hK.ext lK;have aK:=aK.ext lK
 change OW _ _ _ _ [] (aM (aN _ x _) (zZ 36 [vs 0,vs 1,vs 2,vs 3,vs 4,vs 5,vs 6,vs 7,vs 8,vs 9,vs 10,vs 11,vs 12,vs 13])) _
 rw[d0,d1,d2,d3,d4,d5,d6,d7,d8,d9,d10,d11,d12,d13]
 refine ag<|zc rfl (λh6=>?_) (λh6=>?_)
 have hq:qo t gg=false:=by simpa using h6
 refine zr<|zA<|ag<|aV ?_
 exact⟨_,rfl,by rw[aau om hk hq];rfl,hK⟩
 have hq:qo t gg=true:=by simpa using h6
 refine bz<|df<|zm<|eI rfl rfl rfl (wrap_i64 _ om om)<|zA<|ag ?_
 exact⟨gg+1,⟨rfl,rfl,rfl⟩,⟨hK,aK,om,om,by intro i hi h1;rcases Nat.lt_or_ge i gg with h|h;exact dA i h h1;rw[show i=gg by omega];exact hq⟩,om⟩
 have aZ:=aav eN hb (λi hi=>dA i om)
 have mX:=iK tG.2.1
 obtain⟨b,off,pa,pn,pc,rfl,eC,fR,iz⟩:=j9 bc mX
 refine gD<|gF rfl<|aQ<|zr<|zf cN rfl<|zl cK rfl (aT.at rfl)<|zi (i:=0) cw aH rfl rfl (by rw[hn];exact tG.2.1)<|zf dB rfl<|zl cm rfl (eC 0 _ rfl)<|cY rfl rfl<|ag<|zc rfl (λh7=>?_) (λh7=>?_)
 have hg:cJ t=[103,101,116]:=tG.2.2.trans h7
 have BD:=aar hb hg
 have Dq:=iK (ps:=t.au) (i:=3) om
 obtain⟨b1,ga,gZ,qW,ia,gz,bC,sB,o4⟩:=j9 bc Dq
 cases gz
 refine zr<|zf cN rfl<|zl cK rfl (aT.at rfl)<|zi (i:=3) cw aH rfl rfl om<|zf dB rfl<|zl cm rfl (bC 0 _ rfl)<|aC (HN _ _) ?_
 rintro _ _ ⟨rfl,rfl⟩
 refine zm<|zx (i:=0) rfl rfl<|zx (i:=1) rfl rfl<|zA<|zA<|ag<|zr<|zm<|l0 rfl rfl rfl rfl rfl<|zA<|ag<|aV ?_
 exact⟨_,rfl,show Value.bool _=Value.bool _ from cA _ (by rw[aZ,show decide (cJ t≠[103,101,116])=false from dF (λh=>h hg),Bool.false_or]),hK⟩
 have hg:cJ t≠[103,101,116]:=λh=>h7 (tG.2.2.symm.trans h)
 refine bz<|zr<|zA<|ag<|aV ?_
 exact⟨_,rfl,by rw[aZ,dT hg];rfl,hK⟩
def aaA (s:aj) (w:World):ck Tryz.prog 56 [str s] w λr w'=>r= .bool (rQ s)∧ak [] w w':=by
 have hK:=ak.refl [] w
 refine cX [.tmp 2] 15 Tryz.func56 rfl Zk rfl rfl ?_
 refine zr<|zA<|ag<|zr<|zm<|aC (zH s [] w sm) ?_
 rintro v1 w1 ⟨fO,aK⟩
 have dS:=aK.size
 have hK:=hK.ext aK
 obtain⟨t,tv,rfl,ht,rU⟩:=fO
 obtain⟨pa,pn,pc,rfl,fR,bc⟩:=dO ht
 refine zm<|zx (i:=0) rfl rfl<|zx (i:=1) rfl rfl<|eD aH rfl rfl rfl ?_
 intro w2 aq bR eO
 have hK:=hK.grow;have hK:=hK.ext aq;have ht:=ht.grow;have ht:=ht.ext aq
 refine dw aH rfl rfl rfl bR rfl ?_
 intro w3 aJ bR iJ
 have hK:=hK.aL aJ sx;have ht:=ht.aL aJ sx
 refine zA<|ag<|zr<|zm<|zm ?_
 apply fZ 3 11 14 [11,12,13,14] (ak [] w3) rfl
 intro h1
 replace h1:=bw h1
 have l5:=ak.refl [] w3
 obtain⟨t',oA⟩:=Option.isSome_iff_exists.1 h1
 have xK:=rU t' oA
 have dz:=tF oA
 have iY:=Bz oA
 rw[<-xK] at dz iY
 refine zL bU aH rfl bR.all rfl<|aC (K1 t.size t (lR _) om dz false _ _ w3 ht) ?_
 rintro v4 w4 ⟨eJ,aF⟩
 have gK:=aF.size
 have l5:=l5.ext aF
 obtain rfl:=eJ
 refine zp rfl<|ag ?_
 exact mg rfl l5
 intro h1
 replace h1:=bw h1
 have l5:=ak.refl [] w3
 refine zs<|zs<|zp rfl<|ag ?_
 exact mg rfl l5
 intro xx w4 aF
 have hK:=hK.ext aF
 refine zA<|ag<|aV ?_
 exact⟨_,rfl,show Value.bool _=Value.bool _ from cA _ (HO rU),hK⟩
def K2 (s:aj) (w:World):ck Tryz.prog 57 [str s] w λr w'=>r= .bool (bH s)∧ak [] w w':=by
 have hK:=ak.refl [] w
 refine cX [.tmp 2] 15 Tryz.func57 rfl Zl rfl rfl ?_
 refine zr<|zA<|ag<|zr<|zm<|aC (zH s [] w sm) ?_
 rintro v1 w1 ⟨fO,aK⟩
 have dS:=aK.size
 have hK:=hK.ext aK
 obtain⟨t,tv,rfl,ht,rU⟩:=fO
 obtain⟨pa,pn,pc,rfl,fR,bc⟩:=dO ht
 refine zm<|zx (i:=0) rfl rfl<|zx (i:=1) rfl rfl<|eD aH rfl rfl rfl ?_
 intro w2 aq bR eO
 have hK:=hK.grow;have hK:=hK.ext aq;have ht:=ht.grow;have ht:=ht.ext aq
 refine dw aH rfl rfl rfl bR rfl ?_
 intro w3 aJ bR iJ
 have hK:=hK.aL aJ sx;have ht:=ht.aL aJ sx
 refine zA<|ag<|zr<|zm<|zm ?_
 apply fZ 3 11 14 [11,12,13,14] (ak [] w3) rfl
 intro h1
 replace h1:=bw h1
 have l5:=ak.refl [] w3
 obtain⟨t',oA⟩:=Option.isSome_iff_exists.1 h1
 have xK:=rU t' oA
 have dz:=tF oA
 have iY:=Bz oA
 rw[<-xK] at dz iY
 refine zL bU aH rfl bR.all rfl<|aC (Qv t om dz _ _ w3 ht) ?_
 rintro v4 w4 ⟨eJ,aF⟩
 have gK:=aF.size
 have l5:=l5.ext aF
 obtain rfl:=eJ
 refine zp rfl<|ag ?_
 exact mg rfl l5
 intro h1
 replace h1:=bw h1
 have l5:=ak.refl [] w3
 refine zs<|zs<|zp rfl<|ag ?_
 exact mg rfl l5
 intro xx w4 aF
 have hK:=hK.ext aF
 refine zA<|ag<|aV ?_
 exact⟨_,rfl,show Value.bool _=Value.bool _ from cA _ (HO rU),hK⟩
def HS (s:aj) (w:World):ck Tryz.prog 58 [str s] w λr w'=>r= .bool (jt s)∧ak [] w w':=by
 have hK:=ak.refl [] w
 refine cX [.tmp 2] 31 Tryz.func58 rfl Zm rfl rfl ?_
 refine zr<|zA<|ag<|zr<|zm<|aC (zH s [] w sm) ?_
 rintro v1 w1 ⟨fO,aK⟩
 have dS:=aK.size
 have hK:=hK.ext aK
 obtain⟨t,tv,rfl,ht,rU⟩:=fO
 obtain⟨pa,pn,pc,rfl,fR,bc⟩:=dO ht
 refine zm<|zx (i:=0) rfl rfl<|zx (i:=1) rfl rfl<|eD aH rfl rfl rfl ?_
 intro w2 aq bR eO
 have hK:=hK.grow;have hK:=hK.ext aq;have ht:=ht.grow;have ht:=ht.ext aq;have bc:=bc.grow;have bc:=bc.ext aq
 refine dw aH rfl rfl rfl bR rfl ?_
 intro w3 aJ bR iJ
 have hK:=hK.aL aJ sx;have ht:=ht.aL aJ sx;have bc:=bc.aL aJ sx
 refine zA<|ag<|zr<|zm<|zm ?_
 apply fZ 3 11 14 [11,12,13,14] (ak [] w3) rfl
 intro h1
 replace h1:=bw h1
 have l5:=ak.refl [] w3
 obtain⟨t',oA⟩:=Option.isSome_iff_exists.1 h1
 have xK:=rU t' oA
 have dz:=tF oA
 have iY:=Bz oA
 rw[<-xK] at dz iY
 refine zL bU aH rfl bR.all rfl<|aC (Qv t om dz _ _ w3 ht) ?_
 rintro v4 w4 ⟨eJ,aF⟩
 have gK:=aF.size
 have l5:=l5.ext aF
 obtain rfl:=eJ
 refine zp rfl<|ag ?_
 exact mg rfl l5
 intro h1
 replace h1:=bw h1
 have l5:=ak.refl [] w3
 refine zs<|zs<|zp rfl<|ag ?_
 exact mg rfl l5
 intro xx w4 aF
 have hK:=hK.ext aF;have bc:=bc.ext aF;have bR:=bR.ext aF
 refine zm ?_
 apply fZ 15 15 30 [15,16,17,18,19,20,21,22,23,24,25,26,27,28,29,30] (λw'=>w4=w') rfl
 intro h2
 replace h2:=bw h2
 simp only[aE] at h2
 have hq:=aaw h2.2
 have mX:=iK hq
 obtain⟨b,off,xL,pn0,xM,rfl,eC,alu,iz⟩:=j9 bc mX
 refine zf cN rfl<|zl cK rfl (bR.at rfl)<|zi (i:=0) cw aH rfl rfl (by rw[fR];exact hq)<|zf dB rfl<|zl cm rfl (eC 0 _ rfl)<|cY rfl rfl<|zm ?_
 apply fB 7 22 29 [22,23,24,25,26,27,28,29] (λw'=>w4=w') rfl
 intro h3
 replace h3:=bw h3
 refine zs<|zs<|zs<|zs<|zs<|zs<|zp rfl<|ag ?_
 exact mg rfl rfl
 intro h3
 replace h3:=bw h3
 refine zf cN rfl<|zl cK rfl (bR.at rfl)<|zi (i:=0) cw aH rfl rfl (by rw[fR];exact hq)<|zf dB rfl<|zl cm rfl (eC 0 _ rfl)<|cY rfl rfl<|zp rfl<|ag ?_
 exact mg rfl rfl
 rintro xx _ rfl
 refine zp rfl<|ag ?_
 exact mg rfl rfl
 intro h2
 replace h2:=bw h2
 refine zs<|zs<|zs<|zs<|zs<|zs<|zs<|zs<|zs<|zs<|zs<|zs<|zs<|zs<|zp rfl<|ag ?_
 exact mg rfl rfl
 rintro xx _ rfl
 refine zA<|ag<|aV ?_
 exact⟨_,rfl,show Value.bool _=Value.bool _ from cA _ (by rw[Bool.and_assoc];exact HO (f:=HP) rU),hK⟩
def nob:Bk:=⟨[],[],[]⟩
abbrev bB (bs:List Bk) (i:Nat):Bk:=bs.getD i nob
def sC {bs:List Bk} {i:Nat} (h:i<bs.length):bs[i]?=some (bB bs i):=by
 simp[gE h]
def kc (bs:List Bk) (l:aj):Int:=match bs.findIdx? (λb=>decide (b.aP=l)) with
 |some i=>(i:Int)
 |none=> -1
def Qw {bs:List Bk} {l:aj} {k:Nat} (hk:k<bs.length) (h:∀i,i<k->(bB bs i).aP≠l) (hl:(bB bs k).aP=l):kc bs l=(k:Int):=by
 have:bs.findIdx? (λb=>decide (b.aP=l))=some k:=by
  rw[List.findIdx?_eq_some_iff_getElem]
  refine⟨hk,by simpa[gE hk] using hl,λj hj=>?_⟩
  have:=h j hj
  simpa[gE (Nat.lt_trans hj hk)] using this
 unfold kc;rw[this]
def aaC {bs:List Bk} {l:aj} (h:∀i,i<bs.length->(bB bs i).aP≠l):kc bs l= -1:=by
 have:bs.findIdx? (λb=>decide (b.aP=l))=none:=by
  rw[List.findIdx?_eq_none_iff]
  intro b hb
  obtain⟨i,hi,rfl⟩:=List.getElem_of_mem hb
  have:=h i hi
  simpa[gE hi] using this
 unfold kc;rw[this]
def sD (code:List aj) (i:Nat):Bool:=bH (aD code i)&&(jt (aD code i)==decide (i+1=code.length))
def oD (b:Bk):Bool:=nR b.aP&&decide (b.cP.length<=40)&&(decide (1<=b.code.length)&&decide (b.code.length<=80))&&
 decide (∀i,i<b.cP.length->rQ (aD b.cP i)=true)&&decide (∀i,i<b.code.length->sD b.code i=true)
def jN (bs:List Bk):Bool:=decide (∀i,i<bs.length->oD (bB bs i)=true∧kc bs (bB bs i).aP=i)&&
 (decide (1<=bs.length)&&decide (bs.length<=40)&&decide ((bB bs 0).aP=[109,97,105,110])&&decide ((bB bs 0).cP.length=0))
def Qx {b:Bk} (h:(nR b.aP&&decide (b.cP.length<=40)&&(decide (1<=b.code.length)&&decide (b.code.length<=80)))=false):oD b=false:=by
 unfold oD;rw[h];rfl
def Qy {b:Bk} {i:Nat} (hi:i<b.cP.length) (h:rQ (aD b.cP i)=false):oD b=false:=by
 unfold oD
 rw[dF (p:=∀i,i<b.cP.length->_) (λhh=>by have:=hh i hi;rw[h] at this;cases this)]
 simp
def Qz {b:Bk} {i:Nat} (hi:i<b.code.length) (h:sD b.code i=false):oD b=false:=by
 unfold oD
 rw[dF (p:=∀i,i<b.code.length->_) (λhh=>by have:=hh i hi;rw[h] at this;cases this)]
 simp
def QA {b:Bk} (h:(nR b.aP&&decide (b.cP.length<=40)&&(decide (1<=b.code.length)&&decide (b.code.length<=80)))=true) (h1:∀i,i<b.cP.length->rQ (aD b.cP i)=true)
  (h2:∀i,i<b.code.length->sD b.code i=true):oD b=true:=by
 unfold oD;rw[h,dT h1,dT h2];rfl
def QB {bs:List Bk} {i:Nat} (hi:i<bs.length) (h:¬(oD (bB bs i)=true∧kc bs (bB bs i).aP=i)):jN bs=false:=by
 unfold jN
 rw[dF (p:=∀i:Nat,i<bs.length->oD (bB bs i)=true∧kc bs (bB bs i).aP=i) (λhh=>h (hh i hi))]
 rfl
def QC {bs:List Bk} (h:∀i,i<bs.length->oD (bB bs i)=true∧kc bs (bB bs i).aP=i):
  jN bs=(decide (1<=bs.length)&&decide (bs.length<=40)&&decide ((bB bs 0).aP=[109,97,105,110])&&decide ((bB bs 0).cP.length=0)):=by
 unfold jN;rw[dT h];rfl
def HT {b:Bk} {n1 n2:Nat} (h1:n1=b.cP.length) (h2:n2=b.code.length):(!nR b.aP||decide ((40:Int)<n1)||!(decide ((1:Int)<=n2)&&decide ((n2:Int)<=80)))=
  !(nR b.aP&&decide (b.cP.length<=40)&&(decide (1<=b.code.length)&&decide (b.code.length<=80))):=by
 subst h1 h2
 rw[show decide ((40:Int)<(b.cP.length:Nat))=!decide (b.cP.length<=40) from by rw[<-decide_not];exact decide_eq_decide.2 om,
  show decide ((1:Int)<=(b.code.length:Nat))=decide (1<=b.code.length) from decide_eq_decide.2 om,show decide (((b.code.length:Nat):Int)<=80)=decide (b.code.length<=80) from decide_eq_decide.2 om]
 simp only[Bool.not_and]
def K3 {code:List aj} {i n:Nat} (hn:n=code.length) (hi:i<n):(!bH (aD code i)||(jt (aD code i) !=decide ((i:Int)=(n:Int)-1)))=!sD code i:=by
 subst hn
 unfold sD
 rw[show decide ((i:Int)=((code.length:Nat):Int)-1)=decide (i+1=code.length) from decide_eq_decide.2 om,Bool.not_and]
 rfl
def Bk.small (b:Bk):Prop:=b.aP.length<1000000000∧b.cP.length<1000000000∧b.code.length<1000000000
def BE (bs:List Bk):Prop:=bs.length<1000000000∧∀i,i<bs.length->(bB bs i).small
def aaD {bs:List Bk} {n n1:Nat} (hn:n=bs.length) (fU:0<bs.length->n1=(bB bs 0).cP.length):
  ((decide ((1:Int)<=n)&&decide ((n:Int)<=40))&&decide ((bB bs 0).aP=[109,97,105,110])&&decide ((n1:Int)=0))=(decide (1<=bs.length)&&decide (bs.length<=40)&&decide ((bB bs 0).aP=[109,97,105,110])&&decide ((bB bs 0).cP.length=0)):=by
 subst hn
 rw[show decide ((1:Int)<=(bs.length:Nat))=decide (1<=bs.length) from decide_eq_decide.2 om,show decide (((bs.length:Nat):Int)<=40)=decide (bs.length<=40) from decide_eq_decide.2 om]
 by_cases h:0<bs.length
 ·rw[fU h,show decide (((bB bs 0).cP.length:Int)=0)=decide ((bB bs 0).cP.length=0) from decide_eq_decide.2 om]
 ·rw[dF (p:=1<=bs.length) om];simp
def QD (bs:List Bk) (hb:bs.length<9223372036854775807) (l:aj) (v:Value) (L:List Nat) (w:World) (hv:ko L w v bs):
  ck Tryz.prog 28 [v,str l] w λr w'=>r= .int .i64 (kc bs l)∧w=w':=by
 obtain⟨a,n,c,rfl,hn⟩:=BA hv
 refine cX [.tmp 4] 20 Tryz.func28 rfl Y2 rfl rfl ?_
 refine zr<|zA<|ag<|aQ<|zr<|zA<|ag<|cS ?_
 refine fY (λk:Nat=>[(0,.slice a n c),(1,str l),(5,.int .i64 (k:Int))]) (λk w'=>w'=w∧k<=bs.length∧∀i,i<k->(bB bs i).aP≠l) (λk=>bs.length-k) (0) (⟨rfl,rfl,rfl⟩) (⟨rfl,om,by intro i hi;omega⟩) ?_
 intro gg w1 e1 hI
 obtain⟨rfl,hk,dA⟩:=hI
 refine aQ<|zr<|zm<|zm<|dZ iO rfl<|fA rfl rfl rfl<|ag<|zc rfl (λh1=>?_) (λh1=>?_)
 have hg:=sC (bs:=bs) (i:=gg) om
 obtain⟨b,off,a1,n1,c1,a2,n2,c2,rfl,hc,fU,fJ,dS,eH⟩:=BB hv hg
 refine bz<|aQ<|cS<|zr<|zm<|zm<|zi iO gT rfl rfl om<|zf xD rfl<|zl cm rfl (hc 0 _ rfl)<|zm<|cY rfl rfl<|ag<|zc rfl (λh2=>?_) (λh2=>?_)
 have hf:=Qw om dA h2
 refine zr<|zm<|zA<|ag<|aV ?_
 exact⟨_,rfl,by rw[hf];rfl,rfl⟩
 refine bz<|df<|zm<|eI rfl rfl rfl (wrap_i64 _ om om)<|zA<|ag ?_
 exact⟨gg+1,⟨rfl,rfl,rfl⟩,⟨rfl,om,by intro i hi;rcases Nat.lt_or_ge i gg with h|h;exact dA i h;rw[show i=gg by omega];exact h2⟩,om⟩
 have hf:=aaC (λi hi=>dA i om)
 refine gD<|gF rfl<|zr<|zA<|ag<|aV ?_
 exact⟨_,rfl,by rw[hf];rfl,rfl⟩
def aaE (k:Bk) (hl:k.aP.length<1000000000) (fU:k.cP.length<1000000000) (fJ:k.code.length<1000000000) (v:Value) (L:List Nat) (w:World) (hv:qY L w v k):
  ck Tryz.prog 30 [v] w λr w'=>r= .bool (oD k)∧ak [] w w':=by
 obtain⟨a1,n1,c1,a2,n2,c2,rfl,o6,mP,dS,eH⟩:=Dn hv
 have hK:=ak.refl [] w
 refine cX [.tmp 2] 65 Tryz.func30 rfl Y5 rfl rfl ?_
 refine zr<|fG rfl ?_
 intro w1 aK aT eh
 have hK:=hK.ext aK;have dS:=dS.ext aK;have eH:=eH.ext aK
 refine zA<|ag<|aQ<|zr<|zf xD rfl<|zl cm rfl (aT.at rfl)<|aC (Qb _ om _) ?_
 rintro _ _ ⟨rfl,rfl⟩
 refine eM rfl<|zm ?_
 apply fB 5 9 14 [9,10,11,12,13,14] (λw'=>w1=w') rfl
 intro h1
 replace h1:=bw h1
 refine zs<|zs<|zs<|zs<|zp rfl<|ag ?_
 exact mg rfl rfl
 intro h1
 replace h1:=bw h1
 refine zf xF rfl<|zl eS rfl (aT.at rfl)<|dZ bh rfl<|jz rfl rfl rfl rfl rfl<|zp rfl<|ag ?_
 exact mg rfl rfl
 rintro xx _ rfl
 refine zm ?_
 apply fB 6 15 21 [15,16,17,18,19,20,21] (λw'=>w1=w') rfl
 intro h2
 replace h2:=bw h2
 refine zs<|zs<|zs<|zs<|zs<|zp rfl<|ag ?_
 exact mg rfl rfl
 intro h2
 replace h2:=bw h2
 refine zf mV rfl<|zl eS rfl (aT.at rfl)<|dZ bh rfl<|aC (E6 _ _ _ _) ?_
 rintro _ _ ⟨rfl,rfl⟩
 refine eM rfl<|zp rfl<|ag ?_
 exact mg rfl rfl
 rintro xx _ rfl
 refine ag<|zc rfl (λh3=>?_) (λh3=>?_)
 rw[HT o6 mP] at h3
 have hb:=Qx (b:=k) (Qk h3)
 refine zr<|zA<|ag<|aV ?_
 exact⟨_,rfl,by rw[hb];rfl,hK⟩
 rw[HT o6 mP] at h3
 have hb:(nR k.aP&&decide (k.cP.length<=40)&&(decide (1<=k.code.length)&&decide (k.code.length<=80)))=true:=Qj h3
 refine bz<|aQ<|zr<|zA<|ag<|cS ?_
 refine fY (λi:Nat=>[(1,.pointer (some ⟨w.heap.size,0,none⟩)),(3,.int .i64 (i:Int))]) (λi w'=>ak [] w w'∧ak [] w1 w'∧i<=k.cP.length∧∀j,j<i->rQ (aD k.cP j)=true) (λi=>k.cP.length-i) (0) (⟨rfl,rfl⟩) (⟨hK,ak.refl [] _,om,by intro i hi;omega⟩) ?_
 intro gg w2 e2 hI
 obtain⟨hK,aK,hk,dA⟩:=hI
 have dS:=dS.ext aK;have eH:=eH.ext aK;have aT:=aT.ext aK
 refine aQ<|zr<|zm<|zf xF rfl<|zl eS rfl (aT.at rfl)<|dZ bh rfl<|fA rfl rfl rfl<|ag<|zc rfl (λh4=>?_) (λh4=>?_)
 have hg:=lp (xs:=k.cP) (i:=gg) om
 obtain⟨b,off,rfl,hc⟩:=qX dS hg
 refine bz<|aQ<|cS<|zr<|zf xF rfl<|zl eS rfl (aT.at rfl)<|zm<|zi bh bA rfl rfl om<|zl cm rfl (hc 0 _ rfl)<|aC (aaA _ w2) ?_
 rintro v3 w3 ⟨er,aJ⟩
 have gd:=aJ.size
 have hK:=hK.ext aJ;have aK:=aK.ext aJ
 obtain rfl:=er
 refine eM rfl<|ag<|zc rfl (λh5=>?_) (λh5=>?_)
 have hq:=Qy (b:=k) (i:=gg) om (by simpa using h5)
 refine zr<|zA<|ag<|aV ?_
 exact⟨_,rfl,by rw[hq];rfl,hK⟩
 refine bz<|df<|zm<|eI rfl rfl rfl (wrap_i64 _ om om)<|zA<|ag ?_
 exact⟨gg+1,⟨rfl,rfl⟩,⟨hK,aK,om,by intro i hi;rcases Nat.lt_or_ge i gg with h|h;exact dA i h;rw[show i=gg by omega];simpa using h5⟩,om⟩
 have K4:∀i,i<k.cP.length->rQ (aD k.cP i)=true:=λi hi=>dA i om
 clear dA aK hk
 refine gD<|gF rfl<|aQ<|zr<|zA<|ag<|cS ?_
 refine fY (λi:Nat=>[(1,.pointer (some ⟨w.heap.size,0,none⟩)),(4,.int .i64 (i:Int))]) (λi w'=>ak [] w w'∧ak [] w2 w'∧i<=k.code.length∧∀j,j<i->sD k.code j=true) (λi=>k.code.length-i) (0) (⟨rfl,rfl⟩) (⟨hK,ak.refl [] _,om,by intro i hi;omega⟩) ?_
 intro gg w3 e3 hI
 obtain⟨hK,aK,hk,dA⟩:=hI
 have eH:=eH.ext aK;have aT:=aT.ext aK
 refine aQ<|zr<|zm<|zf mV rfl<|zl eS rfl (aT.at rfl)<|dZ bh rfl<|fA rfl rfl rfl<|ag<|zc rfl (λh6=>?_) (λh6=>?_)
 have hg:=lp (xs:=k.code) (i:=gg) om
 obtain⟨b,off,rfl,hc⟩:=qX eH hg
 refine bz<|aQ<|cS<|aQ ?_
 refine ql et aS 22 (rA 43 22) (rA 43 22) [[],[0],[],[1,2],[3],[4],[5],[6],[7],[7,8],[7],[7,9,10],[7,11],[7,12],[7],[7],[7,15],[7,16],[7,17],[7,14,18],[7,13,19],[7,20]] [λv _=>v=(.pointer (some ⟨w.heap.size,0+2,none⟩)),λv _=>v=(.slice (some ⟨b,off,none⟩) n2 c2),λv _=>v=(.int .i64 (gg:Int)),λv _=>v=(.pointer (some ⟨b,off+gg*1,none⟩)),λv _=>v=(str (aD k.code gg)),λv _=>v=(.bool (bH (aD k.code gg))),λv _=>v=(.bool (!bH (aD k.code gg))),λv _=>v=(.bool (!bH (aD k.code gg))),λv _=>(!bH (aD k.code gg))=false->v=(.pointer (some ⟨w.heap.size,0+2,none⟩)),λv _=>(!bH (aD k.code gg))=false->v=(.slice (some ⟨b,off,none⟩) n2 c2),λv _=>(!bH (aD k.code gg))=false->v=(.int .i64 (gg:Int)),λv _=>(!bH (aD k.code gg))=false->v=(.pointer (some ⟨b,off+gg*1,none⟩)),λv _=>(!bH (aD k.code gg))=false->v=(str (aD k.code gg)),λv _=>(!bH (aD k.code gg))=false->v=(.bool (jt (aD k.code gg))),λv _=>(!bH (aD k.code gg))=false->v=(.int .i64 (gg:Int)),λv _=>(!bH (aD k.code gg))=false->v=(.pointer (some ⟨w.heap.size,0+2,none⟩)),λv _=>(!bH (aD k.code gg))=false->v=(.slice (some ⟨b,off,none⟩) n2 c2),λv _=>(!bH (aD k.code gg))=false->v=(.int .i64 (n2:Int)),λv _=>(!bH (aD k.code gg))=false->v=(.int .i64 ((n2:Int)-1)),λv _=>(!bH (aD k.code gg))=false->v=(.bool (decide ((gg:Int)=(n2:Int)-1))),λv _=>(!bH (aD k.code gg))=false->v=(.bool (jt (aD k.code gg) !=decide ((gg:Int)=(n2:Int)-1))),λv _=>v=(.bool (!bH (aD k.code gg)||(jt (aD k.code gg) !=decide ((gg:Int)=(n2:Int)-1))))] de (cZ (cZ (cZ (cZ (cZ (cZ (cZ (cZ (eX (eX (eX (eX (eX (eX (eX (eX (eX (eX (eX (eX (eX (cZ trivial)))))))))))))))))))))) (λwd aB=>?_) ?_
 refine bN ?_ ?_
 intro x vs w4 e aF hd he
 replace aF:=aS.trans aB aF
 replace he:e=aM (aN _ x _) []:=he
 subst he
 refine zf mV rfl<|ag ?_
 exact dn (aS.refl _) rfl
 refine bN ?_ ?_
 intro x vs w4 e aF hd he
 have d0:vs 0=(.pointer (some ⟨w.heap.size,0+2,none⟩)):=hd
 replace aF:=aS.trans aB aF
 have aT:=aT.ext aF
 replace he:e=aM (aN _ x _) [(43,vs 0)]:=he
 rw[d0] at he
 subst he
 refine zl eS rfl (aT.at rfl)<|ag ?_
 exact dn (aS.refl _) rfl
 refine bN ?_ ?_
 intro x vs w4 e aF hd he
 replace aF:=aS.trans aB aF
 replace he:e=aM (aN _ x _) []:=he
 subst he
 refine zm<|ag ?_
 exact dn (aS.refl _) rfl
 refine bN ?_ ?_
 intro x vs w4 e aF hd he
 have aR:(vs 1=(.slice (some ⟨b,off,none⟩) n2 c2))∧(vs 2=(.int .i64 (gg:Int))):=hd
 obtain⟨d1,d2⟩:=aR
 replace aF:=aS.trans aB aF
 replace he:e=aM (aN _ x _) [(44,vs 1),(45,vs 2)]:=he
 rw[d1,d2] at he
 subst he
 refine zi bh bA rfl rfl om<|ag ?_
 exact dn (aS.refl _) rfl
 refine bN ?_ ?_
 intro x vs w4 e aF hd he
 have d3:vs 3=(.pointer (some ⟨b,off+gg*1,none⟩)):=hd
 replace aF:=aS.trans aB aF
 have hc:=hc.ext aF
 replace he:e=aM (aN _ x _) [(46,vs 3)]:=he
 rw[d3] at he
 subst he
 refine zl cm rfl (hc 0 _ rfl)<|ag ?_
 exact dn (aS.refl _) rfl
 refine bN ?_ ?_
 intro x vs w4 e aF hd he
 have d4:vs 4=(str (aD k.code gg)):=hd
 replace aF:=aS.trans aB aF
 replace he:e=aM (aN _ x _) [(47,vs 4)]:=he
 rw[d4] at he
 subst he
 refine aC (K2 _ w4) ?_
 rintro v5 w5 ⟨ln,aU⟩
 have pJ:=aU.size
 obtain rfl:=ln
 refine ag ?_
 exact dn (aS.of aU) rfl
 refine bN ?_ ?_
 intro x vs w4 e aF hd he
 have d5:vs 5=(.bool (bH (aD k.code gg))):=hd
 replace aF:=aS.trans aB aF
 replace he:e=aM (aN _ x _) [(48,vs 5)]:=he
 rw[d5] at he
 subst he
 refine eM rfl<|ag ?_
 exact dn (aS.refl _) rfl
 refine bN ?_ ?_
 intro x vs w4 e aF hd he
 have d6:vs 6=(.bool (!bH (aD k.code gg))):=hd
 replace aF:=aS.trans aB aF
 replace he:e=aM (aN _ x _) [(49,vs 6)]:=he
 rw[d6] at he
 subst he
 refine zm<|ag ?_
 exact dn (aS.refl _) rfl
 refine bN ?_ ?_
 intro x vs w4 e aF hd he
 have d7:vs 7=(.bool (!bH (aD k.code gg))):=hd
 replace aF:=aS.trans aB aF
 rcases bE (!bH (aD k.code gg)) with hg|hg
 rw[hg] at d7
 replace he:e=aM (aN _ x _) [(50,vs 7)]:=he
 rw[d7] at he
 subst he
 refine zs<|ag ?_
 exact dn (aS.refl _) (show(!bH (aD k.code gg))=false->_=(_:Value) from λhh=>nomatch hg.symm.trans hh)
 rw[hg] at d7
 replace he:e=aM (aN _ x _) [(50,vs 7)]:=he
 rw[d7] at he
 subst he
 refine zf mV rfl<|ag ?_
 exact dn (aS.refl _) (show(!bH (aD k.code gg))=false->_=((.pointer (some ⟨w.heap.size,0+2,none⟩)):Value) from λ_=>rfl)
 refine bN ?_ ?_
 intro x vs w4 e aF hd he
 have aR:(vs 7=(.bool (!bH (aD k.code gg))))∧((!bH (aD k.code gg))=false->vs 8=(.pointer (some ⟨w.heap.size,0+2,none⟩))):=hd
 obtain⟨d7,d8⟩:=aR
 replace aF:=aS.trans aB aF
 have aT:=aT.ext aF
 rcases bE (!bH (aD k.code gg)) with hg|hg
 rw[hg] at d7
 replace he:e=aM (aN _ x _) [(50,vs 7),(51,vs 8)]:=he
 rw[d7] at he
 subst he
 refine zs<|ag ?_
 exact dn (aS.refl _) (show(!bH (aD k.code gg))=false->_=(_:Value) from λhh=>nomatch hg.symm.trans hh)
 rw[hg] at d7
 replace d8:=d8 hg
 replace he:e=aM (aN _ x _) [(50,vs 7),(51,vs 8)]:=he
 rw[d7,d8] at he
 subst he
 refine zl eS rfl (aT.at rfl)<|ag ?_
 exact dn (aS.refl _) (show(!bH (aD k.code gg))=false->_=((.slice (some ⟨b,off,none⟩) n2 c2):Value) from λ_=>rfl)
 refine bN ?_ ?_
 intro x vs w4 e aF hd he
 have d7:vs 7=(.bool (!bH (aD k.code gg))):=hd
 replace aF:=aS.trans aB aF
 rcases bE (!bH (aD k.code gg)) with hg|hg
 rw[hg] at d7
 replace he:e=aM (aN _ x _) [(50,vs 7)]:=he
 rw[d7] at he
 subst he
 refine zs<|ag ?_
 exact dn (aS.refl _) (show(!bH (aD k.code gg))=false->_=(_:Value) from λhh=>nomatch hg.symm.trans hh)
 rw[hg] at d7
 replace he:e=aM (aN _ x _) [(50,vs 7)]:=he
 rw[d7] at he
 subst he
 refine zm<|ag ?_
 exact dn (aS.refl _) (show(!bH (aD k.code gg))=false->_=((.int .i64 (gg:Int)):Value) from λ_=>rfl)
 refine bN ?_ ?_
 intro x vs w4 e aF hd he
 have aR:(vs 7=(.bool (!bH (aD k.code gg))))∧((!bH (aD k.code gg))=false->vs 9=(.slice (some ⟨b,off,none⟩) n2 c2))∧((!bH (aD k.code gg))=false->vs 10=(.int .i64 (gg:Int))):=hd
 obtain⟨d7,d9,d10⟩:=aR
 replace aF:=aS.trans aB aF
 rcases bE (!bH (aD k.code gg)) with hg|hg
 rw[hg] at d7
 replace he:e=aM (aN _ x _) [(50,vs 7),(52,vs 9),(53,vs 10)]:=he
 rw[d7] at he
 subst he
 refine zs<|ag ?_
 exact dn (aS.refl _) (show(!bH (aD k.code gg))=false->_=(_:Value) from λhh=>nomatch hg.symm.trans hh)
 rw[hg] at d7
 replace d9:=d9 hg
 replace d10:=d10 hg
 replace he:e=aM (aN _ x _) [(50,vs 7),(52,vs 9),(53,vs 10)]:=he
 rw[d7,d9,d10] at he
 subst he
 refine zi bh bA rfl rfl om<|ag ?_
 exact dn (aS.refl _) (show(!bH (aD k.code gg))=false->_=((.pointer (some ⟨b,off+gg*1,none⟩)):Value) from λ_=>rfl)
 refine bN ?_ ?_
 intro x vs w4 e aF hd he
 have aR:(vs 7=(.bool (!bH (aD k.code gg))))∧((!bH (aD k.code gg))=false->vs 11=(.pointer (some ⟨b,off+gg*1,none⟩))):=hd
 obtain⟨d7,d11⟩:=aR
 replace aF:=aS.trans aB aF
 have hc:=hc.ext aF
 rcases bE (!bH (aD k.code gg)) with hg|hg
 rw[hg] at d7
 replace he:e=aM (aN _ x _) [(50,vs 7),(54,vs 11)]:=he
 rw[d7] at he
 subst he
 refine zs<|ag ?_
 exact dn (aS.refl _) (show(!bH (aD k.code gg))=false->_=(_:Value) from λhh=>nomatch hg.symm.trans hh)
 rw[hg] at d7
 replace d11:=d11 hg
 replace he:e=aM (aN _ x _) [(50,vs 7),(54,vs 11)]:=he
 rw[d7,d11] at he
 subst he
 refine zl cm rfl (hc 0 _ rfl)<|ag ?_
 exact dn (aS.refl _) (show(!bH (aD k.code gg))=false->_=((str (aD k.code gg)):Value) from λ_=>rfl)
 refine bN ?_ ?_
 intro x vs w4 e aF hd he
 have aR:(vs 7=(.bool (!bH (aD k.code gg))))∧((!bH (aD k.code gg))=false->vs 12=(str (aD k.code gg))):=hd
 obtain⟨d7,d12⟩:=aR
 replace aF:=aS.trans aB aF
 rcases bE (!bH (aD k.code gg)) with hg|hg
 rw[hg] at d7
 replace he:e=aM (aN _ x _) [(50,vs 7),(55,vs 12)]:=he
 rw[d7] at he
 subst he
 refine zs<|ag ?_
 exact dn (aS.refl _) (show(!bH (aD k.code gg))=false->_=(_:Value) from λhh=>nomatch hg.symm.trans hh)
 rw[hg] at d7
 replace d12:=d12 hg
 replace he:e=aM (aN _ x _) [(50,vs 7),(55,vs 12)]:=he
 rw[d7,d12] at he
 subst he
 refine aC (HS _ w4) ?_
 rintro v5 w5 ⟨ln,aU⟩
 have pJ:=aU.size
 obtain rfl:=ln
 refine ag ?_
 exact dn (aS.of aU) (show(!bH (aD k.code gg))=false->_=((.bool (jt (aD k.code gg))):Value) from λ_=>rfl)
 refine bN ?_ ?_
 intro x vs w4 e aF hd he
 have d7:vs 7=(.bool (!bH (aD k.code gg))):=hd
 replace aF:=aS.trans aB aF
 rcases bE (!bH (aD k.code gg)) with hg|hg
 rw[hg] at d7
 replace he:e=aM (aN _ x _) [(50,vs 7)]:=he
 rw[d7] at he
 subst he
 refine zs<|ag ?_
 exact dn (aS.refl _) (show(!bH (aD k.code gg))=false->_=(_:Value) from λhh=>nomatch hg.symm.trans hh)
 rw[hg] at d7
 replace he:e=aM (aN _ x _) [(50,vs 7)]:=he
 rw[d7] at he
 subst he
 refine zm<|ag ?_
 exact dn (aS.refl _) (show(!bH (aD k.code gg))=false->_=((.int .i64 (gg:Int)):Value) from λ_=>rfl)
 refine bN ?_ ?_
 intro x vs w4 e aF hd he
 have d7:vs 7=(.bool (!bH (aD k.code gg))):=hd
 replace aF:=aS.trans aB aF
 rcases bE (!bH (aD k.code gg)) with hg|hg
 rw[hg] at d7
 replace he:e=aM (aN _ x _) [(50,vs 7)]:=he
 rw[d7] at he
 subst he
 refine zs<|ag ?_
 exact dn (aS.refl _) (show(!bH (aD k.code gg))=false->_=(_:Value) from λhh=>nomatch hg.symm.trans hh)
 rw[hg] at d7
 replace he:e=aM (aN _ x _) [(50,vs 7)]:=he
 rw[d7] at he
 subst he
 refine zf mV rfl<|ag ?_
 exact dn (aS.refl _) (show(!bH (aD k.code gg))=false->_=((.pointer (some ⟨w.heap.size,0+2,none⟩)):Value) from λ_=>rfl)
 refine bN ?_ ?_
 intro x vs w4 e aF hd he
 have aR:(vs 7=(.bool (!bH (aD k.code gg))))∧((!bH (aD k.code gg))=false->vs 15=(.pointer (some ⟨w.heap.size,0+2,none⟩))):=hd
 obtain⟨d7,d15⟩:=aR
 replace aF:=aS.trans aB aF
 have aT:=aT.ext aF
 rcases bE (!bH (aD k.code gg)) with hg|hg
 rw[hg] at d7
 replace he:e=aM (aN _ x _) [(50,vs 7),(58,vs 15)]:=he
 rw[d7] at he
 subst he
 refine zs<|ag ?_
 exact dn (aS.refl _) (show(!bH (aD k.code gg))=false->_=(_:Value) from λhh=>nomatch hg.symm.trans hh)
 rw[hg] at d7
 replace d15:=d15 hg
 replace he:e=aM (aN _ x _) [(50,vs 7),(58,vs 15)]:=he
 rw[d7,d15] at he
 subst he
 refine zl eS rfl (aT.at rfl)<|ag ?_
 exact dn (aS.refl _) (show(!bH (aD k.code gg))=false->_=((.slice (some ⟨b,off,none⟩) n2 c2):Value) from λ_=>rfl)
 refine bN ?_ ?_
 intro x vs w4 e aF hd he
 have aR:(vs 7=(.bool (!bH (aD k.code gg))))∧((!bH (aD k.code gg))=false->vs 16=(.slice (some ⟨b,off,none⟩) n2 c2)):=hd
 obtain⟨d7,d16⟩:=aR
 replace aF:=aS.trans aB aF
 rcases bE (!bH (aD k.code gg)) with hg|hg
 rw[hg] at d7
 replace he:e=aM (aN _ x _) [(50,vs 7),(59,vs 16)]:=he
 rw[d7] at he
 subst he
 refine zs<|ag ?_
 exact dn (aS.refl _) (show(!bH (aD k.code gg))=false->_=(_:Value) from λhh=>nomatch hg.symm.trans hh)
 rw[hg] at d7
 replace d16:=d16 hg
 replace he:e=aM (aN _ x _) [(50,vs 7),(59,vs 16)]:=he
 rw[d7,d16] at he
 subst he
 refine dZ bh rfl<|ag ?_
 exact dn (aS.refl _) (show(!bH (aD k.code gg))=false->_=((.int .i64 (n2:Int)):Value) from λ_=>rfl)
 refine bN ?_ ?_
 intro x vs w4 e aF hd he
 have aR:(vs 7=(.bool (!bH (aD k.code gg))))∧((!bH (aD k.code gg))=false->vs 17=(.int .i64 (n2:Int))):=hd
 obtain⟨d7,d17⟩:=aR
 replace aF:=aS.trans aB aF
 rcases bE (!bH (aD k.code gg)) with hg|hg
 rw[hg] at d7
 replace he:e=aM (aN _ x _) [(50,vs 7),(60,vs 17)]:=he
 rw[d7] at he
 subst he
 refine zs<|ag ?_
 exact dn (aS.refl _) (show(!bH (aD k.code gg))=false->_=(_:Value) from λhh=>nomatch hg.symm.trans hh)
 rw[hg] at d7
 replace d17:=d17 hg
 replace he:e=aM (aN _ x _) [(50,vs 7),(60,vs 17)]:=he
 rw[d7,d17] at he
 subst he
 refine mN rfl rfl rfl rfl rfl (wrap_i64 _ om om)<|ag ?_
 exact dn (aS.refl _) (show(!bH (aD k.code gg))=false->_=((.int .i64 ((n2:Int)-1)):Value) from λ_=>rfl)
 refine bN ?_ ?_
 intro x vs w4 e aF hd he
 have aR:(vs 7=(.bool (!bH (aD k.code gg))))∧((!bH (aD k.code gg))=false->vs 14=(.int .i64 (gg:Int)))∧((!bH (aD k.code gg))=false->vs 18=(.int .i64 ((n2:Int)-1))):=hd
 obtain⟨d7,d14,d18⟩:=aR
 replace aF:=aS.trans aB aF
 rcases bE (!bH (aD k.code gg)) with hg|hg
 rw[hg] at d7
 replace he:e=aM (aN _ x _) [(50,vs 7),(57,vs 14),(61,vs 18)]:=he
 rw[d7] at he
 subst he
 refine zs<|ag ?_
 exact dn (aS.refl _) (show(!bH (aD k.code gg))=false->_=(_:Value) from λhh=>nomatch hg.symm.trans hh)
 rw[hg] at d7
 replace d14:=d14 hg
 replace d18:=d18 hg
 replace he:e=aM (aN _ x _) [(50,vs 7),(57,vs 14),(61,vs 18)]:=he
 rw[d7,d14,d18] at he
 subst he
 refine dQ rfl rfl rfl<|ag ?_
 exact dn (aS.refl _) (show(!bH (aD k.code gg))=false->_=((.bool (decide ((gg:Int)=(n2:Int)-1))):Value) from λ_=>rfl)
 refine bN ?_ ?_
 intro x vs w4 e aF hd he
 have aR:(vs 7=(.bool (!bH (aD k.code gg))))∧((!bH (aD k.code gg))=false->vs 13=(.bool (jt (aD k.code gg))))∧((!bH (aD k.code gg))=false->vs 19=(.bool (decide ((gg:Int)=(n2:Int)-1)))):=hd
 obtain⟨d7,d13,d19⟩:=aR
 replace aF:=aS.trans aB aF
 rcases bE (!bH (aD k.code gg)) with hg|hg
 rw[hg] at d7
 replace he:e=aM (aN _ x _) [(50,vs 7),(56,vs 13),(62,vs 19)]:=he
 rw[d7] at he
 subst he
 refine zs<|ag ?_
 exact dn (aS.refl _) (show(!bH (aD k.code gg))=false->_=(_:Value) from λhh=>nomatch hg.symm.trans hh)
 rw[hg] at d7
 replace d13:=d13 hg
 replace d19:=d19 hg
 replace he:e=aM (aN _ x _) [(50,vs 7),(56,vs 13),(62,vs 19)]:=he
 rw[d7,d13,d19] at he
 subst he
 refine Kg HH rfl rfl rfl rfl<|ag ?_
 exact dn (aS.refl _) (show(!bH (aD k.code gg))=false->_=((.bool (jt (aD k.code gg) !=decide ((gg:Int)=(n2:Int)-1))):Value) from λ_=>rfl)
 refine bN ?_ ?_
 intro x vs w4 e aF hd he
 have aR:(vs 7=(.bool (!bH (aD k.code gg))))∧((!bH (aD k.code gg))=false->vs 20=(.bool (jt (aD k.code gg) !=decide ((gg:Int)=(n2:Int)-1)))):=hd
 obtain⟨d7,d20⟩:=aR
 replace aF:=aS.trans aB aF
 rcases bE (!bH (aD k.code gg)) with hg|hg
 rw[hg] at d7
 replace he:e=aM (aN _ x _) [(50,vs 7),(63,vs 20)]:=he
 rw[d7] at he
 subst he
 refine zp rfl<|ag ?_
 exact dn (aS.refl _) (by first|rfl|(rw[hg];rfl))
 rw[hg] at d7
 replace d20:=d20 hg
 replace he:e=aM (aN _ x _) [(50,vs 7),(63,vs 20)]:=he
 rw[d7,d20] at he
 subst he
 refine zp rfl<|ag ?_
 exact dn (aS.refl _) (by first|rfl|(rw[hg];rfl))
 exact trivial
 intro x vs nS lK bJ
 have d0:vs 0=(.pointer (some ⟨w.heap.size,0+2,none⟩)):=bJ 0 de
 have d1:vs 1=(.slice (some ⟨b,off,none⟩) n2 c2):=bJ 1 de
 have d2:vs 2=(.int .i64 (gg:Int)):=bJ 2 de
 have d3:vs 3=(.pointer (some ⟨b,off+gg*1,none⟩)):=bJ 3 de
 have d4:vs 4=(str (aD k.code gg)):=bJ 4 de
 have d5:vs 5=(.bool (bH (aD k.code gg))):=bJ 5 de
 have d6:vs 6=(.bool (!bH (aD k.code gg))):=bJ 6 de
 have d7:vs 7=(.bool (!bH (aD k.code gg))):=bJ 7 de
 have d8:(!bH (aD k.code gg))=false->vs 8=(.pointer (some ⟨w.heap.size,0+2,none⟩)):=bJ 8 de
 have d9:(!bH (aD k.code gg))=false->vs 9=(.slice (some ⟨b,off,none⟩) n2 c2):=bJ 9 de
 have d10:(!bH (aD k.code gg))=false->vs 10=(.int .i64 (gg:Int)):=bJ 10 de
 have d11:(!bH (aD k.code gg))=false->vs 11=(.pointer (some ⟨b,off+gg*1,none⟩)):=bJ 11 de
 have d12:(!bH (aD k.code gg))=false->vs 12=(str (aD k.code gg)):=bJ 12 de
 have d13:(!bH (aD k.code gg))=false->vs 13=(.bool (jt (aD k.code gg))):=bJ 13 de
 have d14:(!bH (aD k.code gg))=false->vs 14=(.int .i64 (gg:Int)):=bJ 14 de
 have d15:(!bH (aD k.code gg))=false->vs 15=(.pointer (some ⟨w.heap.size,0+2,none⟩)):=bJ 15 de
 have d16:(!bH (aD k.code gg))=false->vs 16=(.slice (some ⟨b,off,none⟩) n2 c2):=bJ 16 de
 have d17:(!bH (aD k.code gg))=false->vs 17=(.int .i64 (n2:Int)):=bJ 17 de
 have d18:(!bH (aD k.code gg))=false->vs 18=(.int .i64 ((n2:Int)-1)):=bJ 18 de
 have d19:(!bH (aD k.code gg))=false->vs 19=(.bool (decide ((gg:Int)=(n2:Int)-1))):=bJ 19 de
 have d20:(!bH (aD k.code gg))=false->vs 20=(.bool (jt (aD k.code gg) !=decide ((gg:Int)=(n2:Int)-1))):=bJ 20 de
 have d21:vs 21=(.bool (!bH (aD k.code gg)||(jt (aD k.code gg) !=decide ((gg:Int)=(n2:Int)-1)))):=bJ 21 de
 have hK:=hK.ext lK;have aK:=aK.ext lK
 change OW _ _ _ _ [] (aM (aN _ x _) (zZ 43 [vs 0,vs 1,vs 2,vs 3,vs 4,vs 5,vs 6,vs 7,vs 8,vs 9,vs 10,vs 11,vs 12,vs 13,vs 14,vs 15,vs 16,vs 17,vs 18,vs 19,vs 20,vs 21])) _
 rw[d0,d1,d2,d3,d4,d5,d6,d7,d21]
 refine ag<|zc rfl (λh7=>?_) (λh7=>?_)
 rw[K3 mP om] at h7
 have hq:=Qz (b:=k) (i:=gg) om (by simpa using h7)
 refine zr<|zA<|ag<|aV ?_
 exact⟨_,rfl,by rw[hq];rfl,hK⟩
 rw[K3 mP om] at h7
 refine bz<|df<|zm<|eI rfl rfl rfl (wrap_i64 _ om om)<|zA<|ag ?_
 exact⟨gg+1,⟨rfl,rfl⟩,⟨hK,aK,om,by intro i hi;rcases Nat.lt_or_ge i gg with h|h;exact dA i h;rw[show i=gg by omega];simpa using h7⟩,om⟩
 have hq:=QA hb K4 (λi hi=>dA i om)
 refine gD<|gF rfl<|zr<|zA<|ag<|aV ?_
 exact⟨_,rfl,by rw[hq];rfl,hK⟩
def QE (bs:List Bk) (hb:BE bs) (v:Value) (L:List Nat) (w:World) (hv:ko L w v bs):
  ck Tryz.prog 12 [v] w λr w'=>r= .bool (jN bs)∧ak [] w w':=by
 obtain⟨a,n,c,rfl,hn⟩:=BA hv
 have hK:=ak.refl [] w
 have iG:=hb.1
 refine cX [.tmp 2] 45 Tryz.func12 rfl XY rfl rfl ?_
 refine zr<|zA<|ag<|aQ<|zr<|zA<|ag<|cS ?_
 refine fY (λi:Nat=>[(0,.slice a n c),(3,.int .i64 (i:Int))]) (λi w'=>ak [] w w'∧i<=bs.length∧∀j,j<i->oD (bB bs j)=true∧kc bs (bB bs j).aP=(j:Int)) (λi=>bs.length-i) (0) (⟨rfl,rfl⟩) (⟨hK,om,by intro i hi;omega⟩) ?_
 intro gg w1 e1 hI
 obtain⟨hK,hk,dA⟩:=hI
 have hv:=hv.ext hK
 refine aQ<|zr<|zm<|zm<|dZ iO rfl<|fA rfl rfl rfl<|ag<|zc rfl (λh1=>?_) (λh1=>?_)
 have hg:=sC (bs:=bs) (i:=gg) om
 obtain⟨b,off,a1,n1,c1,a2,n2,c2,rfl,hc,fU,fJ,dS,eH⟩:=BB hv hg
 have qZ:=hb.2 gg om
 refine bz<|aQ<|cS<|zr<|zm<|zm<|zi iO gT rfl rfl om<|zL Bq gT rfl hc rfl<|aC (aaE (bB bs gg) qZ.1 qZ.2.1 qZ.2.2 _ _ w1 (Dp dS eH)) ?_
 rintro v2 w2 ⟨dC,aq⟩
 have eH:=aq.size
 have hK:=hK.ext aq;have hv:=hv.ext aq;have hc:=hc.ext aq
 obtain rfl:=dC
 refine eM rfl<|zm ?_
 apply fB 10 16 26 [16,17,18,19,20,21,22,23,24,25,26] (λw'=>w2=w') rfl
 intro h2
 replace h2:=bw h2
 refine zs<|zs<|zs<|zs<|zs<|zs<|zs<|zs<|zs<|zp rfl<|ag ?_
 exact mg rfl rfl
 intro h2
 replace h2:=bw h2
 refine zm<|zm<|zm<|zi iO gT rfl rfl om<|zf xD rfl<|zl cm rfl (hc 0 _ rfl)<|aC (QD bs om _ _ _ _ hv) ?_
 rintro _ _ ⟨rfl,rfl⟩
 refine zm<|uA rfl rfl rfl rfl rfl<|zp rfl<|ag ?_
 exact mg rfl rfl
 rintro xx _ rfl
 refine ag<|zc rfl (λh3=>?_) (λh3=>?_)
 have hq:=QB (bs:=bs) (i:=gg) om (λhh=>by rw[hh.1,hh.2] at h3;simp at h3)
 refine zr<|zA<|ag<|aV ?_
 exact⟨_,rfl,by rw[hq];rfl,hK⟩
 simp only[Bool.or_eq_false_iff,Bool.not_eq_false',decide_eq_false_iff_not,ne_eq,Classical.not_not] at h3
 refine bz<|df<|zm<|eI rfl rfl rfl (wrap_i64 _ om om)<|zA<|ag ?_
 exact⟨gg+1,⟨rfl,rfl⟩,⟨hK,om,by intro i hi;rcases Nat.lt_or_ge i gg with h|h;exact dA i h;rw[show i=gg by omega];exact h3⟩,om⟩
 have hq:=QC (λi hi=>dA i om)
 clear dA
 refine gD<|gF rfl<|zr<|zm<|dZ iO rfl<|aC (E6 _ _ _ _) ?_
 rintro _ _ ⟨rfl,rfl⟩
 refine zm ?_
 apply fZ 6 30 36 [30,31,32,33,34,35,36] (λw'=>w1=w') rfl
 intro h4
 replace h4:=bw h4
 simp at h4
 have h0:=sC (bs:=bs) (i:=0) om
 obtain⟨b,off,a1,n1,c1,a2,n2,c2,rfl,hc,fU,fJ,dS,eH⟩:=BB hv h0
 refine zm<|zi (i:=0) iO gT rfl rfl om<|zf xD rfl<|zl cm rfl (hc 0 _ rfl)<|cY rfl rfl<|zp rfl<|ag ?_
 exact mg rfl rfl
 intro h4
 replace h4:=bw h4
 refine zs<|zs<|zs<|zs<|zs<|zp rfl<|ag ?_
 exact mg rfl rfl
 rintro xx _ rfl
 refine zm ?_
 apply fZ 7 37 44 [37,38,39,40,41,42,43,44] (λw'=>w1=w') rfl
 intro h5
 replace h5:=bw h5
 simp at h5
 have h0:=sC (bs:=bs) (i:=0) om
 obtain⟨b,off,a1,n1,c1,a2,n2,c2,rfl,hc,fU,fJ,dS,eH⟩:=BB hv h0
 subst fU
 refine zm<|zi (i:=0) iO gT rfl rfl om<|zf xF rfl<|zl eS rfl (hc 1 _ rfl)<|dZ bh rfl<|dQ rfl rfl rfl<|zp rfl<|ag ?_
 exact mg rfl rfl
 intro h5
 replace h5:=bw h5
 refine zs<|zs<|zs<|zs<|zs<|zs<|zp rfl<|ag ?_
 exact mg rfl rfl
 rintro xx _ rfl
 refine zA<|ag<|aV ?_
 exact⟨_,rfl,show Value.bool _=Value.bool _ from cA _ (by rw[hq];exact aaD hn (λ_=>rfl)),hK⟩
end Go.Proofs.YtigijcjccmdmhaaGreatDoor
