/- Lemmas for the law FnNames, no statement of their own: no conditions. -/
import Derived.Below
import Derived.Calls
import Derived.IntWalk
import Derived.Laws.AppendOwn
import Derived.Laws.Slices
import Derived.Laws.Small
import Derived.Laws.Strings
import Derived.Laws.Strings2
import Derived.Orders
import Derived.Tactics
set_option maxHeartbeats 4000000
set_option linter.unusedVariables false
set_option linter.unusedSimpArgs false
namespace Go.Proofs.YtcildnfcpkpomaaGreatDoor
open Go
variable {p:Prop} {a:Int} {E b bytes d i j m n o off sz t:Nat} {l:List Oper} {k k':IntKind} {c:Code} {x y:Operand} {P:Program} {f:FuncId} {w w' w0:World} {S:Value->World->Prop} {v z:Value} {D L L':List Nat} {vs xs:List Value} {g:Option Nat} {ops:Array Oper} {Q:Exit->Act->World->Prop} {F r:List (Value->World->Prop)}
abbrev pt (b:Nat):Value:=.pointer<|some ⟨b,0,none⟩
abbrev sc (b n c:Nat):Value:=.slice (some ⟨b,0,none⟩) n c
theorem om (h:p:=by omega):p:=h
theorem so (h:p:=by simp;omega):p:=h
theorem sm (h:p:=by simp):p:=h
theorem sx (h:p:=by simp<;>omega):p:=h
theorem de (h:p:=by decide):p:=h
abbrev rA:=List.range'
abbrev NG (f:Func):Prop:=(f.name== "runtime.NumGoroutine")=false
theorem ng {f:Func} (h:(f.name== "runtime.NumGoroutine")=false:=by kernel_rfl):NG f:=h
theorem mA {b:Type} {a:b} {s t:List b}:a∈s++t↔a∈s\/a∈t:=List.mem_append
theorem mC {c:Type} {a b:c} {l:List c}:a∈b::l↔a=b\/a∈l:=List.mem_cons
theorem gE {a:Type} {l:List a} (h:i<l.length):l[i]?=some l[i]:=List.getElem?_eq_getElem h
theorem lL {k:Nat} (h:n<m) (g:m<=k):n<k:=Nat.lt_of_lt_of_le h g
theorem lR (n:Nat):n<=n:=Nat.le_refl n
theorem bE (b:Bool):b=true\/b=false:=Bool.eq_false_or_eq_true b
theorem gG {b:Type} {l:List b} {a:b}:l.getD i a=l[i]?.getD a:=List.getD_eq_getElem?_getD
theorem lA {a:Type} {s t:List a}:(s++t).length=s.length+t.length:=List.length_append
theorem lC {b:Type} {a:b} {s:List b}:(a::s).length=s.length+1:=List.length_cons
theorem mR {b:Type} {a:b} (s:List b) {t:List b} (h:a∈t):a∈s++t:=List.mem_append_right s h
theorem mK {b:Type} (y:b) {a:b} {l:List b} (h:a∈l):a∈y::l:=List.mem_cons_of_mem y h
theorem iN {c:Prop} {h:Decidable c} (k:¬c) {a:Type} {t e:a}:(ite c t e)=e:=if_neg k
theorem iP {c:Prop} {h:Decidable c} (k:c) {a:Type} {t e:a}:(ite c t e)=t:=if_pos k
theorem dT [i:Decidable p] (h:p):decide p=true:=decide_eq_true h
theorem dF [i:Decidable p] (h:¬p):decide p=false:=decide_eq_false h
theorem aE (a b:Bool):((a&&b)=true)=(a=true/\b=true):=Bool.and_eq_true a b
theorem oE (a b:Bool):((a||b)=true)=(a=true\/b=true):=Bool.or_eq_true a b
theorem dE [i:Decidable p]:(decide p=true)=p:=decide_eq_true_eq

abbrev Env:=Nat->Value
def iR (e:Env) (d:Nat) (v:Value):Env:=λt=>bif Nat.beq t d then v else e t
theorem ni (e:Env) (d:Nat) (v:Value):iR e d v d=v:=by simp[iR,Nat.beq_refl]
theorem J2 (e:Env) (v:Value) (h:t≠d):iR e d v t=e t:=by grind [iR,Nat.beq,Nat.eq_of_beq_eq_true]
structure Fits (n:Nat) (e:Env) (a:Act):Prop where
 defers:a.defers=[]
 size:a.tmps.size=n
 get:∀t,a.tmps.getD t undef=e t
def ev (e:Env):Operand->Value
 | .tmp t=>e t
 | .const v=>v
 | .global g=>.pointer<|some ⟨g,0,none⟩
 | .func f=>.func (.func f) #[] #[]
theorem Fits.eval {e:Env} {a:Act} (h:Fits n e a):a.eval=ev e:=by funext x;cases x<;>simp[Act.eval,ev];rw[<-h.get,Array.getD_eq_getD_getElem?]
theorem abj (a:Array Value) (d t:Nat) (v u:Value) (b:d<a.size):(a.setIfInBounds d v).getD t u=if t=d then v else a.getD t u:=by
 simp only[Array.getD_eq_getD_getElem?,Array.getElem?_setIfInBounds];by_cases h:t=d
 .subst h;simp[b]
 .have:¬d=t:=λe=>h e.symm;simp[h,this]
theorem Fits.put {e:Env} {a:Act} (h:Fits n e a) (f:Nat.blt d n=true) (v:Value):Fits n (iR e d v) (a.put (some d) v):=by
 have b:d<n:=by simpa[Nat.blt_eq] using f
 refine⟨h.defers,by simp[Act.put,h.size],λt=>?_⟩;simp only[Act.put];rw[abj _ _ _ _ _ (by rw[h.size];exact b),h.get];by_cases c:t=d
 .subst c;simp[ni]
 .rw[J2 _ _ c,iN c]
@[reducible] def bW (e:Env):Option Nat->Value->Env
 |some d,v=>iR e d v
 |none,_=>e
def cC (n:Nat):Option Nat->Bool
 |some d=>Nat.blt d n
 |none=>true
theorem Fits.bW {e:Env} {a:Act} (h:Fits n e a) {d:Option Nat} (b:cC n d=true) (v:Value):Fits n (bW e d v) (a.put d v):=by
 cases d with
 |none=>exact h
 |some d=>exact h.put b v
def ql (n:Nat) (K:Env->World->Prop) (Q:Exit->Act->World->Prop):Exit->Act->World->Prop
 | .normal,a,w=>∃e,Fits n e a/\K e w
 |x,a,w=>Q x a w
def OW (P:Program) (n:Nat) (b:Array Oper) (K:Env->World->Prop) (l:List Oper) (e:Env) (w:World):Prop:=
 ∀a,Fits n e a->∀Q,wpList P b (ql n K Q) l a w
def l0 (n:Nat) (N R:Env->World->Prop) (X:Nat->Env->World->Prop):Exit->Act->World->Prop
 | .normal,a,w=>∃e,Fits n e a/\N e w
 | .ret,a,w=>∃e,Fits n e a/\R e w
 | .exit i,a,w=>∃e,Fits n e a/\X i e w
 |_,_,_=>False
def CW (P:Program) (n:Nat) (c:Code) (N R:Env->World->Prop) (X:Nat->Env->World->Prop) (e:Env) (w:World):Prop:=
 ∀a,Fits n e a->c.wp P (l0 n N R X) a w
section
variable {P:Program} {n:Nat} {N R:Env->World->Prop} {X:Nat->Env->World->Prop} {e:Env} {w:World}
theorem CW.mono {f g:Env->World->Prop} {j:Nat->Env->World->Prop} (h:CW P n c N R X e w) 
  (l:∀e w,N e w->f e w) (m:∀e w,R e w->g e w) (o:∀i e w,X i e w->j i e w):CW P n c f g j e w:=λa p=>
 wp_mono (h a p) λx a w d=>by
  cases x<;>simp only[l0] at d⊢
  .obtain⟨e,b,hk⟩:=d;exact⟨e,b,l _ _ hk⟩
  .obtain⟨e,b,hk⟩:=d;exact⟨e,b,o _ _ _ hk⟩
  .obtain⟨e,b,hk⟩:=d;exact⟨e,b,m _ _ hk⟩
theorem jS {x y:Code} (h:CW P n x (λe w=>CW P n y N R X e w) R X e w):CW P n (x.seq y) N R X e w:=λa c=>
 wp_seq (wp_mono (h a c) λex a w b=>by
  cases ex<;>simp only[l0] at b<;>simp only[Exit.then]<;>first|exact b|skip
  obtain⟨e,d,hk⟩:=b;exact hk a d)
theorem iw (h:N e w):CW P n .skip N R X e w:=λ_ a=>wp_skip ⟨e,a,h⟩
theorem kF (h:R e w):CW P n .ret N R X e w:=λ_ a=>wp_ret ⟨e,a,h⟩
theorem A4 (h:X i e w):CW P n (.exit i) N R X e w:=λ_ a=>wp_exit ⟨e,a,h⟩
theorem tO (h:CW P n c N R (λj e w=>bif Nat.beq j i then N e w else X j e w) e w):CW P n (.block i c) N R X e w:=λa g=>
 wp_block (wp_mono (h a g) λex a w d=>by
  cases ex<;>simp only[l0] at d<;>simp only[Exit.inBlock]<;>first|exact d|skip
  rename_i j;obtain⟨e,f,hk⟩:=d;by_cases b:j=i
  .subst b;simp only[if_true,l0];rw[Nat.beq_refl] at hk;exact⟨e,f,hk⟩
  .have hb:Nat.beq j i=false:=by
    cases l:Nat.beq j i with
    |true=>exact absurd (Nat.eq_of_beq_eq_true l) b
    |false=>rfl
   rw[hb] at hk;simp only[b,if_false,l0];exact⟨e,f,hk⟩)
theorem A5 {A B:Prop} (h:Nat.beq j i=true) (k:A):(bif Nat.beq j i then A else B):=by rw[h];exact k
theorem Fe {A B:Prop} (h:Nat.beq j i=false) (k:B):(bif Nat.beq j i then A else B):=by rw[h];exact k
theorem SL {c:Operand} {x y:Code} {t:Bool} (d:ev e c= .bool t) (f:t=true->CW P n x N R X e w) (g:t=false->CW P n y N R X e w):
  CW P n (.cond c x y) N R X e w:=λa b=>
 wp_cond_split (t:=t) (by rw[b.eval];exact d) (λh=>f h a b) λh=>g h a b
theorem SM {c:Operand} {x y:Code} (a:ev e c= .bool false) (b:CW P n y N R X e w):CW P n (.cond c x y) N R X e w:=
 SL a (λh=>by cases h) λ_=>b
theorem lx {id:Nat} (h:OW P n l.toArray N l e w):CW P n (.region id l.toArray false) N R X e w:=λa c=>
 wp_mono (wp_region_lit<|h a c λ_ _ _=>False) λex a w b=>by cases ex<;>simp only[ql] at b<;>simp only[l0]<;>exact b
def Holds:List (Nat×Value)->Env->Prop
 |[],_=>True
 |[p],e=>e p.1=p.2
 |p::r,e=>e p.1=p.2/\Holds r e
def ba (e:Env):List (Nat×Value)->Env
 |[]=>e
 |p::r=>iR (ba e r) p.1 p.2
theorem abl {p:Nat×Value} {r:List (Nat×Value)} (h:Holds (p::r) e):e p.1=p.2/\Holds r e:=by grind [Holds]
theorem J3:∀{l:List (Nat×Value)},Holds l e->ba e l=e
 |[],_=>rfl
 |p::r,h=>by
  obtain⟨b,c⟩:=abl h;simp only[ba,J3 c];funext t;by_cases a:t=p.1
  .subst a;rw[ni,b]
  .rw[J2 _ _ a]
theorem eJ {c:Code} {G:Type} (L:G->List (Nat×Value)) (I:G->World->Prop) (A:G->Nat) (C:G) (O:Holds (L C) e) (Q:I C w) 
  (q:∀g w K,I g w->CW P n c (λJ w'=>∃r,Holds (L r) J/\I r w'/\A r<A g) R X (ba K (L g)) w):
  CW P n (.loop c) N R X e w:=by
 intro a S b k B;have F:∀m (g:G) (e:Env) (a:Act) (w:World),A g=m->Fits n e a->Holds (L g) e->I g w->
   ∃x z w',l0 n N R X x z w'/\Arrives P (lone (b.at a (.code c:: .inLoop c::k)) B w) b k B x z w':=by
  intro m;induction m using Nat.strongRecOn with
  |_ m Z=>
   intro g e a w Y T U V;have H:=q g w e V;rw[J3 U] at H;obtain⟨x,d,i,j,s⟩:=H a T b (.inLoop c::k) B;cases x with
   |normal=>obtain⟨u,o,r,D,E,M⟩:=j;obtain⟨y,t,v,p,f⟩:=Z (A r) (Y▸M) r u d i rfl o D E;exact⟨y,t,v,p,.of_steps (Steps.trans s<|.one step_inLoop) f⟩
   |exit id=>exact⟨_,d,i,by simpa only[l0] using j,.pass (x:=.inLoop c) rfl (λ_ _=>.inl sm) s⟩
   |goto l=>simp[l0] at j
   |ret=>exact⟨_,d,i,by simpa only[l0] using j,.pass (x:=.inLoop c) rfl (λ_ _=>.inl sm) s⟩
   |panic _=>simp[l0] at j
   |outgrown=>simp[l0] at j
 obtain⟨x,z,w',j,s⟩:=F _ C e a w rfl S O Q;exact⟨x,z,w',j,.of_steps (.one step_loop) s⟩
theorem jn {c:Code} {G:Type} (L:G->List (Nat×Value)) (I:G->World->Prop) 
  (h:CW P n c (λa w'=>∃g,Holds (L g) a/\I g w') R X e w) (k:∀g w' b,I g w'->N (ba b (L g)) w'):CW P n c N R X e w:=
 h.mono (λa w' ⟨g,d,f⟩=>by have:=k g w' a f;rwa [J3 d] at this) (λ_ _ h=>h) λ_ _ _ h=>h
end
/-! ### A function -/
def tP (P:Program) (f:FuncId):Prop:=∃fn,P.funcs[f]?=some fn/\fn.body.isNone=false/\(fn.name== "runtime.NumGoroutine")=false
theorem tP.mk' {fn:Func} (h:P.funcs[f]?=some fn) (hb:fn.body.isNone=false) (a:(fn.name== "runtime.NumGoroutine")=false):tP P f:=⟨fn,h,hb,a⟩
def bB (P:Program) (f:FuncId) (a:List Value) (w:World) (S:Value->World->Prop):Prop:=
 tP P f/\Calls P f a.toArray w λe w'=>∃v,e= .returned v/\S v w'
theorem bB.mono {a:List Value} {b:Value->World->Prop} (h:bB P f a w S) (d:∀v w',S v w'->b v w'):bB P f a w b:=
 ⟨h.1,Calls.mono h.2 λ_ _ ⟨v,c,e⟩=>⟨v,c,d _ _ e⟩⟩
def CV (e:Env):List ResultVar->Option Value
 |[.tmp t]=>some<|e t
 |[.tmp t,.tmp u]=>some<|.tuple #[e t,e u]
 |[.tmp t,.tmp u,.tmp x]=>some<|.tuple #[e t,e u,e x]
 |[]=>some<|.tuple #[]
 |_=>none
theorem SN {fn:Func} {rs:List ResultVar} (c:fn.results=rs.toArray) {a:Array Value} {e:Env} (b:∀t,a.getD t undef=e t) (h:CV e rs=some v) (P:Program) (w:World):
  (results fn a).run P w= .ok v w:=by
 match rs,h with
 |[.tmp t],h=>simp only[CV,Option.some.injEq] at h;subst h;rw[<-b];exact results_tmp c _ _ _
 |[.tmp t,.tmp u],h=>simp only[CV,Option.some.injEq] at h;subst h;rw[<-b,<-b];exact results_tmp2 c _ _ _
 |[.tmp t,.tmp u,.tmp x],h=>simp only[CV,Option.some.injEq] at h;subst h;rw[<-b,<-b,<-b];simp[results,c]
 |[],h=>simp only[CV,Option.some.injEq] at h;subst h;exact results_none c _ _ _
def start (a:List Value):Env:=λt=>a.getD t undef
theorem SO (a:List Value) (m:Nat):Fits (a.length+m) (start a) {tmps:=a.toArray++Array.replicate m undef,defers:=[]}:=by
 refine⟨rfl,sm,λt=>?_⟩;simp only[start,Array.getD_eq_getD_getElem?,gG,Array.getElem?_append,List.size_toArray,List.getElem?_toArray];by_cases h:t<a.length
 .rw[iP h]
 .rw[iN h,List.getElem?_eq_none om];by_cases b:t-a.length<m<;>simp[b]
theorem bY {P:Program} {f:FuncId} {fn:Func} {c:Code} {b:List Value} {w:World} {S:Value->World->Prop} (rs:List ResultVar) (n:Nat) 
  (l:P.funcs[f]?=some fn) (hb:fn.body=some c) (p:(fn.name== "runtime.NumGoroutine")=false) (m:fn.results=rs.toArray) (o:b.length+(fn.ntmps-b.length)=n)
  (h:CW P n c (λe w'=>∃v,CV e rs=some v/\S v w') (λe w'=>∃v,CV e rs=some v/\S v w') (λ_ _ _=>False) (start b) w):bB P f b w S:=by
 refine⟨⟨fn,l,by rw[hb];rfl,p⟩,calls_of_wp l hb<|wp_mono (h _ ?_) λx a w' i=>?_⟩
 .rw[<-o];simpa using SO b (fn.ntmps-b.length)
 .cases x<;>simp only[l0] at i
  .obtain⟨e,d,v,j,g⟩:=i;exact bodyPost_end (SN m d.get j P w') d.defers ⟨v,rfl,g⟩
  .obtain⟨e,d,g⟩:=i;exact g.elim
  .obtain⟨e,d,v,j,g⟩:=i;exact bodyPost_ret (SN m d.get j P w') d.defers ⟨v,rfl,g⟩
def SP (P:Program) (e:Env) (t ty:Nat) (v:Value) (w:World):Prop:=∃a,e t= .pointer (some a)/\(loadVar ty a).run P w= .ok v w
structure ak (L:List Nat) (w w':World):Prop where
 os:w'.os=w.os
 tape:w'.tape=w.tape
 output:w'.output=w.output
 size:w.heap.size<=w'.heap.size
 block:∀k,k<w.heap.size->k∉L->w'.heap[k]?=w.heap[k]?
theorem ak.refl (L:List Nat) (w:World):ak L w w:=⟨rfl,rfl,rfl,lR _,λ_ _ _=>rfl⟩
theorem ak.trans {a b c:World} (h:ak L a b) (k:ak L b c):ak L a c:=
 ⟨k.os.trans h.os,k.tape.trans h.tape,k.output.trans h.output,Nat.le_trans h.size k.size,λi d e=>(k.block i (lL d h.size) e).trans<|h.block i d e⟩
theorem ak.mono {a b:World} (h:ak L a b) (c:∀x∈L,x∈L'):ak L' a b:=
 ⟨h.os,h.tape,h.output,h.size,λk hk d=>h.block k hk λe=>d<|c k e⟩
theorem ak.any {a b:World} (h:ak [] a b):ak L a b:=h.mono sm
theorem ak.drew (L:List Nat) (w:World):ak L w {w with drawn:=w.drawn+1}:=⟨rfl,rfl,rfl,lR _,λ_ _ _=>rfl⟩
theorem ak.alloc (L:List Nat) (w:World) (o:Obj):ak L w (w.alloc o):=⟨rfl,rfl,rfl,sm,λk hk _=>heap_alloc_old w o k hk⟩
theorem ak.below {a b:World} (h:ak L a b) {B:Nat} (e:B<=a.heap.size) (c:∀x∈L,B<=x):Go.RowKit.Below B a b:=
 ⟨h.os,h.tape,h.output,h.size,λk hk=>h.block k om λd=>by have:=c k d;omega⟩
theorem ak.since {a b c:World} (h:ak L a b) (k:ak L' b c) (g:∀x∈L',x∈L\/a.heap.size<=x):ak L a c:=
 ⟨k.os.trans h.os,k.tape.trans h.tape,k.output.trans h.output,Nat.le_trans h.size k.size,λi e f=>
  (k.block i (lL e h.size) (λj=>by rcases g i j with d|d;exact f d;omega)).trans (h.block i e f)⟩
def aJ (w:World) (b:Nat) (a:Array Value) (T:TypeId):Prop:=w.heap[b]?=some (.cells a T (0,0))
theorem aJ.aG {a:Array Value} {T:TypeId} (h:aJ w b a T) (k:ak L w w') (hb:b∉L):aJ w' b a T:=
 (k.block b (Array.getElem?_eq_some_iff.1 h).1 hb).trans h
theorem aJ.lt {a:Array Value} {T:TypeId} (h:aJ w b a T):b<w.heap.size:=(Array.getElem?_eq_some_iff.1 h).1
theorem aJ.cell {a:Array Value} {T:TypeId} (h:aJ w b a T) (i:Nat):w.cell? ⟨b,i,none⟩=a[i]?:=cell_of_row w b i a T (0,0) h
theorem aJ.frozen {a:Array Value} {T:TypeId} (h:aJ w b a T) (i:Nat):w.frozen? ⟨b,i,none⟩=false:=by simp only[World.frozen?];rw[show w.heap[b]?=_ from h];simp
theorem aJ.alloc (w:World) (a:Array Value) (T:TypeId):aJ (w.alloc<|.cells a T) w.heap.size a T:=heap_alloc_new w _
theorem aJ.set {a:Array Value} {T:TypeId} (h:aJ w b a T) (i:Nat) (v:Value):aJ (w.setCell ⟨b,i,none⟩ v) b (a.setIfInBounds i v) T:=by unfold aJ at*;simp only[World.setCell,Array.getElem?_modify,if_true,h];simp
theorem ak.setCell (w:World) (b i:Nat) (v:Value):ak [b] w (w.setCell ⟨b,i,none⟩ v):=
 ⟨rfl,rfl,rfl,by simp[World.setCell],λk _ a=>Go.RowKit.Below.heap_setCell w _ v k<|by simpa using a⟩
inductive C where
 |val (v:Value)
 |sl (size:Nat) (rows:List (List C))
inductive cg (L:List Nat) (w:World):Value->C->Prop
 |val (v:Value):cg L w v (.val v)
 |nil (a:Option Addr) (cap size:Nat):cg L w (.slice a 0 cap) (.sl size [])
 |sl (b off len cap size:Nat) (rows:List (List C)) (f:Nat->Nat->Value) (hl:rows.length=len) (hc:len<=cap) (hb:b<w.heap.size) (hL:b∉L)
   (hs:∀row∈rows,row.length=size)
   (lh:∀i j,i<len->j<size->w.cell? ⟨b,off+i*size+j,none⟩=some (f i j))
   (jh:∀i j row c,rows[i]?=some row->row[j]?=some c->cg L w (f i j) c):cg L w (.slice (some ⟨b,off,none⟩) len cap) (.sl size rows)
theorem cg.aG {c:C} (h:cg L w v c) (k:ak L w w'):cg L w' v c:=by
 induction h with
 |val v=>exact .val v
 |nil a c s=>exact .nil a c s
 |sl b off len cap size rows f m e hb d n p _ o=>
  exact .sl b off len cap size rows f m e (lL hb k.size) d n
   (λi j g l=>(World.cell?_of_block<|k.block b hb d).trans<|p i j g l) o
theorem cg.fresh {c:C} (h:cg L w v c) (g:∀x∈L',x∈L\/w.heap.size<=x):cg L' w v c:=by
 induction h with
 |val v=>exact .val v
 |nil a c s=>exact .nil a c s
 |sl b off len cap size rows f j i hb e l o _ n=>exact .sl b off len cap size rows f j i hb (λm=>by rcases g b m with d|d;exact e d;omega) l o n
theorem cg.weaken {c:C} (h:cg L w v c) (a:∀x∈L',x∈L):cg L' w v c:=h.fresh λx b=>.inl<|a x b
theorem cg.none {c:C} (h:cg L w v c):cg [] w v c:=h.weaken sm
def dz (L:List Nat) (w:World):List Value->List C->Prop
 |[],[]=>True
 |v::vs,c::cs=>cg L w v c/\dz L w vs cs
 |_,_=>False
theorem dz.length:∀{vs:List Value} {a:List C},dz L w vs a->vs.length=a.length
 |[],[],_=>rfl
 |_::_,_::_,h=>by simp[dz.length h.2]
theorem dz.get:∀{vs:List Value} {a:List C},dz L w vs a->∀{j:Nat} {v:Value} {c:C},vs[j]?=some v->a[j]?=some c->cg L w v c
 |_::_,_::_,h,0,_,_,hv,hc=>by simp at hv hc;subst hv;subst hc;exact h.1
 |_::_,_::_,h,j+1,_,_,hv,hc=>dz.get h.2 (j:=j) (by simpa using hv)<|by simpa using hc
theorem dz.of:∀{vs:List Value} {a:List C},vs.length=a.length->(∀(j:Nat) (v:Value) (c:C),vs[j]?=some v->a[j]?=some c->cg L w v c)->dz L w vs a
 |[],[],_,_=>trivial
 |v::vs,c::a,hl,h=>⟨h 0 v c rfl rfl,dz.of (by simpa using hl) λj f b e d=>h (j+1) f b (by simpa using e)<|by simpa using d⟩
theorem dz.aG {a:List C} (h:dz L w vs a) (k:ak L w w'):dz L w' vs a:=dz.of h.length λ_ _ _ c b=>(h.get c b).aG k
theorem dz.fresh {a:List C} (h:dz L w vs a) (b:∀x∈L',x∈L\/w.heap.size<=x):dz L' w vs a:=dz.of h.length λ_ _ _ d c=>(h.get d c).fresh b
theorem dz.append:∀{vs:List Value} {b:List C} {vs':List Value} {cs':List C},dz L w vs b->dz L w vs' cs'->dz L w (vs++vs') (b++cs')
 |[],[],_,_,_,a=>a
 |_::_,_::_,_,_,h,a=>⟨h.1,dz.append h.2 a⟩
def iZ (L:List Nat) (w:World) (v:Value) (a:List C):Prop:=∃vs:List Value,v= .agg vs.toArray/\dz L w vs a
theorem iZ.aG {a:List C} (h:iZ L w v a) (k:ak L w w'):iZ L w' v a:=
 let⟨vs,e,h⟩:=h;⟨vs,e,h.aG k⟩
theorem iZ.fresh {a:List C} (h:iZ L w v a) (b:∀x∈L',x∈L\/w.heap.size<=x):iZ L' w v a:=
 let⟨vs,e,h⟩:=h;⟨vs,e,h.fresh b⟩
def fP (w:World) (b a:Nat) (c:List Value):Prop:=∀(j:Nat) (v:Value),c[j]?=some v->w.cell? ⟨b,a+j,none⟩=some v
theorem sO {size:Nat} {rows:List (List C)} (h:cg L w v (.sl size rows)):∃a cap,v= .slice a rows.length cap/\rows.length<=cap:=by
 cases h with
 |nil a c s=>exact⟨a,c,rfl,Nat.zero_le _⟩
 |sl b off len cap size rows f d _=>exact⟨_,cap,by rw[d],om⟩
theorem zh {a:Option Addr} {len cap size:Nat} {rows:List (List C)} (h:cg L w (.slice a len cap) (.sl size rows)) {row:List C} (d:rows[i]?=some row):
  ∃b off vs,a=some ⟨b,off,none⟩/\b<w.heap.size/\b∉L/\vs.length=size/\fP w b (off+i*size) vs/\dz L w vs row:=by
 cases h with
 |nil=>simp at d
 |sl b off len cap size rows f _ _ hb n o r q=>
  have t:i<rows.length:=(List.getElem?_eq_some_iff.1 d).1;have p:row.length=size:=o row<|List.mem_of_getElem? d;refine⟨b,off,(List.range size).map<|f i,rfl,hb,n,sm,λj v l=>?_,dz.of (by simp[p]) λj v c m s=>?_⟩
  .have g:j<size:=by have:=(List.getElem?_eq_some_iff.1 l).1;simpa using this
   have e:f i j=v:=by simpa[List.getElem?_map,g] using l
   rw[<-e];exact r i j om g
  .have g:j<size:=by have:=(List.getElem?_eq_some_iff.1 m).1;simpa using this
   have e:f i j=v:=by simpa[List.getElem?_map,g] using m
   rw[<-e];exact q i j row c d s
theorem abo (b d cap size:Nat) (rows:List (List C)) (a:List (List Value)) (n:a.length=rows.length) (t:rows.length<=cap) (hb:b<w.heap.size) (s:b∉L) 
  (p:∀row∈rows,row.length=size)
  (u:∀(i:Nat) (vs:List Value),a[i]?=some vs->fP w b (d+i*size) vs)
  (r:∀(i:Nat) (vs:List Value) (row:List C),a[i]?=some vs->rows[i]?=some row->dz L w vs row):cg L w (.slice (some ⟨b,d,none⟩) rows.length cap) (.sl size rows):=by
 refine .sl b d rows.length cap size rows (λi j=>(a.getD i []).getD j undef) rfl t hb s p (λi j f l=>?_) λi j row c f l=>?_
 .obtain⟨vs,e⟩:∃vs,a[i]?=some vs:=⟨a[i]'om,gE om⟩;obtain⟨row,q⟩:∃row,rows[i]?=some row:=⟨rows[i]'f,gE f⟩;have m:=(r i vs row e q).length;rw[p row (List.mem_of_getElem? q)] at m;have g:vs[j]?=some vs[j]:=gE om;have:=u i vs e j _ g;rw[this];simp[gG,e,g]
 .obtain⟨vs,e⟩:∃vs,a[i]?=some vs:=⟨a[i]'(by have:=(List.getElem?_eq_some_iff.1 f).1;omega),gE (by have:=(List.getElem?_eq_some_iff.1 f).1;omega)⟩;have o:=r i vs row e f;have m:=o.length;have v:=(List.getElem?_eq_some_iff.1 l).1;have g:vs[j]?=some vs[j]:=gE om;have:=o.get g l;simpa[gG,e,g] using this
theorem abp {len cap size:Nat} {rows:List (List C)} (h:cg L w (.slice (some ⟨b,off,none⟩) len cap) (.sl size rows)) (i:Nat) (t:i<=len) (a:Option Addr) 
  (o:i<cap->a=some ⟨b,off+i*size,none⟩) (d:i=cap->a=some ⟨b,off,none⟩):cg L w (.slice a (len-i)<|cap-i) (.sl size<|rows.drop i):=by
 cases h with
 |nil=>rw[List.drop_nil,show i=0 from by omega];exact .nil _ _ _
 |sl b off len cap size rows f p _ hb n q s r=>
  by_cases e:i<cap
  .rw[o e];refine .sl b (off+i*size) (len-i) (cap-i) size (rows.drop i) (λk j=>f (i+k) j) (by simp[p]) om hb n (λrow m=>q row<|List.mem_of_mem_drop m) (λk j hk g=>?_) λk j row c hk g=>?_
   .have:=s (i+k) j om g;rw[<-this];congr 2;rw[Nat.add_mul];omega
   .exact r (i+k) j row c (by simpa using hk) g
  .have:i=cap:=by omega
   subst this;rw[d rfl];have l:len=i:=by omega
   have m:rows.drop i=[]:=by apply List.drop_of_length_le;omega
   rw[m];have:=cg.sl (L:=L) (w:=w) b off 0 0 size [] f rfl (lR _) hb n sm om sm;simpa[l] using this
def jv (w:World) (T:TypeId) (c:Nat) (v:Value) (g:Option Nat) (n:Nat) (d:List Value):Prop:=
 d.length=n*c/\
 ((v= .slice none 0 0/\n=0/\g=none)\/
  ∃b cap a,g=some b/\v= .slice (some ⟨b,0,none⟩) n cap/\aJ w b a T/\n<=cap/\cap<=maxLen/\a.size=cap*c/\a.toList.take (n*c)=d)
theorem jv.nil (w:World) (T:TypeId) (a:Nat):jv w T a (.slice none 0 0) none 0 []:=by grind [jv]
theorem jv.aG {T:TypeId} (h:jv w T sz v g n xs) (k:ak L w w') (c:∀b,g=some b->b∉L):jv w' T sz v g n xs:=by
 refine⟨h.1,?_⟩;rcases h.2 with h|⟨b,cap,a,e,d,hb,r⟩
 .exact .inl h
 .exact .inr ⟨b,cap,a,e,d,hb.aG k<|c b e,r⟩
theorem jv.lt {T:TypeId} (h:jv w T sz v g n xs):∀b,g=some b->b<w.heap.size:=by
 intro b e;rcases h.2 with⟨_,_,h⟩|⟨b',cap,cur,e',hv,hb,r⟩
 .rw[e] at h;cases h
 .rw[e] at e';cases e';exact hb.lt
theorem jv.len {T:TypeId} (h:jv w T sz v g n xs):∃a cap,v= .slice a n cap:=by grind [jv]
section
variable {P:Program} {w:World}
theorem SQ {t ty T:TypeId} {i:TypeInfo} {C bytes:Nat} (F:P.underlying t=some (.slice T)) (E:P.info? T=some i) (L:i.zero=some z) 
  (Q:i.size=C) (X:i.bytes=bytes) (zk:z.cells.size=C)
  {v:Value} {g:Option Nat} {n:Nat} {l:List Value} (A:jv w T C v g n l)
  (q d m c:Nat) (a:List Value) (r:a.length=m*C) (R:fP w q d a) (S:∀u∈a,u.oneCell'=true) (U:0<m)
  (K:n+m<=maxLen) (O:(n+m)*bytes<=140737488355328):
  ∃M D w',(Builtin.append_ #[t,t] ty #[v,.slice (some ⟨q,d,none⟩) m c]).run P w= .ok M w'/\jv w' T C M D (n+m) (l++a)/\ak g.toList w w'/\
   (D=g\/D=some w.heap.size):=by
 subst Q;subst X;have J4:n+m<=9223372036854775807:=by simp only[maxLen] at K;omega
 have e:(l++a).length=(n+m)*i.size:=by rw[lA,A.1,r,Nat.add_mul]
 have N:∀b o j:Nat,(⟨b,o,none⟩:Addr).add j=⟨b,o+j,none⟩:=λb o j=>by unfold Addr.add;split<;>simp_all
 have J:∀j u,a[j]?=some u->w.cell? ((⟨q,d,none⟩:Addr).add j)=some u:=λj u s=>by rw[N];exact R j u s
 have f:∀(old:Nat),old<n+m->
   jv (w.drew.alloc<|.cells (l.toArray++a.toArray++Builtin.zeroCells z.cells (grownCap w (n+m) old T-(n+m))) T) T i.size
    (.slice (some ⟨w.heap.size,0,none⟩) (n+m)<|grownCap w (n+m) old T) (some w.heap.size) (n+m) (l++a)/\
   ak g.toList w (w.drew.alloc<|.cells (l.toArray++a.toArray++Builtin.zeroCells z.cells (grownCap w (n+m) old T-(n+m))) T):=by
  intro old _;have Z:=grownCap_ge w (n+m) old T;have H:grownCap w (n+m) old T<=maxLen:=grownCap_le_maxLen w (n+m) old T K;refine⟨⟨e,.inr ⟨w.heap.size,_,_,rfl,rfl,heap_alloc_new w.drew _,Z,H,?_,?_⟩⟩,⟨rfl,rfl,rfl,sm,λk hk _=>heap_alloc_old w.drew _ k hk⟩⟩
  .simp only[Array.size_append,List.size_toArray,size_zeroCells,zk,A.1,r,<-Nat.add_mul]
   congr 1
   omega
  .simp only[Array.toList_append,List.append_assoc];rw[<-List.append_assoc,<-e];exact List.take_left
 rcases A.2 with⟨rfl,rfl,rfl⟩|⟨b,cap,cur,rfl,rfl,hb,nj,H,cD,uY⟩
 .have V:l=[]:=List.eq_nil_of_length_eq_zero (by simpa using A.1);subst V;have B:=run_append_nil (P:=P) w t ty T i z F E L ⟨q,d,none⟩ m c a r J U om (by have hb:=O;simp only[Nat.zero_add] at hb;omega);have y:=f 0 om;simp only[Nat.zero_add,List.nil_append,Array.empty_append] at y⊢;exact⟨_,_,_,B,y.1,y.2,.inr rfl⟩
 .by_cases I:n+m<=cap
  .have Y:n*i.size+a.length<=cur.size:=by rw[r,cD,<-Nat.add_mul];exact Nat.mul_le_mul_right _ I
   have B:=run_append_room (P:=P) w t ty T i F E b n cap cur hb ⟨q,d,none⟩ m c a r J S I Y;refine⟨_,some b,_,B,⟨e,.inr ⟨b,cap,_,rfl,rfl,setRow_heap w b cur _ T _ hb,I,H,?_,?_⟩⟩,⟨rfl,rfl,rfl,sm,λk _ hk=>setRow_other w b k _<|by simpa using hk⟩,.inl rfl⟩
   .simp only[List.size_toArray,lA,List.length_take,List.length_drop,Array.length_toList];omega
   .rw[uY,<-e];exact List.take_left
  .have p:∀j u,l[j]?=some u->w.cell? ((⟨b,0,none⟩:Addr).add j)=some u:=λj u s=>by
    rw[N,hb.cell];rw[<-uY,List.getElem?_take] at s;split at s
    .simpa using s
    .cases s
   have B:=run_append_grow (P:=P) w t ty T i z F E L ⟨b,0,none⟩ n cap l A.1 p ⟨q,d,none⟩ m c a r J om om<|growslice_fits om O;have y:=f cap om;exact⟨_,_,_,B,y.1,y.2,.inr rfl⟩
end
structure iL (L:List Nat) (w:World) (T:TypeId) (sz:Nat) (v:Value) (g:Option Nat) (rows:List (List C)) (xs:List Value):Prop where
 own:jv w T sz v g rows.length xs
 rep:dz (g.toList++L) w xs rows.flatten
 row:∀row∈rows,row.length=sz
 out:∀b,g=some b->b∉L
theorem iL.nil (L:List Nat) (w:World) (T:TypeId) (a:Nat):iL L w T a (.slice none 0 0) none [] []:=
 ⟨jv.nil _ _ _,trivial,sm,sm⟩
theorem iL.aG {T:TypeId} {rows:List (List C)} (h:iL L w T sz v g rows xs) (k:ak L' w w') 
  (c:∀x∈L',x∈L):iL L w' T sz v g rows xs:=
 ⟨h.own.aG k λb e a=>h.out b e<|c b a,h.rep.aG<|k.mono λx a=>by simp[c x a],h.row,h.out⟩
theorem iL.more {d:List Nat} {T:TypeId} {rows:List (List C)} (h:iL L w T sz v g rows xs) 
  (f:∀x∈d,x∈L\/w.heap.size<=x):iL d w T sz v g rows xs:=
 ⟨h.own,h.rep.fresh (λx a=>by
   rcases mA.1 a with a|a
   .exact .inl<|by simp[a]
   .rcases f x a with c|c
    .exact .inl<|by simp[c]
    .exact .inr c),h.row,λb e a=>by rcases f b a with c|c;exact h.out b e c;have:=h.own.lt b e;omega⟩
theorem iL.len {T:TypeId} {rows:List (List C)} (h:iL L w T sz v g rows xs):∃a cap,v= .slice a rows.length cap:=h.own.len
theorem CZ {b:Type}:∀{rows:List (List b)},(∀row∈rows,row.length=sz)->∀{i j:Nat} {row:List b} {c:b},rows[i]?=some row->row[j]?=some c->rows.flatten[i*sz+j]?=some c
 |r::rows,h,0,j,row,c,hi,hj=>by simp only[List.getElem?_cons_zero,Option.some.injEq] at hi;subst hi;simp only[List.flatten_cons,Nat.zero_mul,Nat.zero_add];rw[List.getElem?_append_left (List.getElem?_eq_some_iff.1 hj).1];exact hj
 |r::rows,h,i+1,j,row,c,hi,hj=>by have a:r.length=sz:=h r sm;have:=CZ (rows:=rows) (λrow a=>h row<|by simp[a]) (i:=i) (by simpa using hi) hj;rw[List.flatten_cons,List.getElem?_append_right (by rw[a,Nat.add_mul];omega),a];rw[<-this];congr 1;rw[Nat.add_mul];omega
theorem Nv {a:Type}:∀{rows:List (List a)},(∀row∈rows,row.length=sz)->rows.flatten.length=rows.length*sz:=by intro x;induction x<;>grind
theorem iL.done {T:TypeId} {rows:List (List C)} (h:iL L w T sz v g rows xs):cg L w v (.sl sz rows):=by
 have n:=h.rep.fresh (L':=L) λx p=>.inl (by simp[p]);rcases h.own.2 with⟨rfl,hn,_⟩|⟨b,cap,cur,e,rfl,hb,nj,mu,cD,uY⟩
 .rw[List.length_eq_zero_iff.1 hn];exact .nil _ _ _
 .have o:=h.own.1;refine .sl b 0 rows.length cap sz rows (λi j=>xs.getD (i*sz+j) undef) rfl nj hb.lt (h.out b e) h.row (λi j f m=>?_) λi j row c f m=>?_
  .have a:i*sz+j<xs.length:=by
    rw[o];have:(i+1)*sz<=rows.length*sz:=Nat.mul_le_mul_right _ f;rw[Nat.add_mul] at this;omega
   rw[Nat.zero_add,hb.cell,gG,gE a];simp only[Option.getD_some];have d:xs[i*sz+j]?=some xs[i*sz+j]:=gE a;rw[<-d,<-uY,List.getElem?_take,iP (by rw[<-o];exact a)];simp
  .have l:=CZ h.row f m;have a:i*sz+j<xs.length:=by rw[n.length];exact(List.getElem?_eq_some_iff.1 l).1
   have d:xs[i*sz+j]?=some xs[i*sz+j]:=gE a;have:=n.get d l;rw[gG,d];exact this
theorem iL.app {P:Program} {L:List Nat} {w:World} {t ty T:TypeId} {i:TypeInfo} {j bytes:Nat} (K:P.underlying t=some (.slice T)) (J:P.info? T=some i) (M:i.zero=some z) 
  (A:i.size=j) (N:i.bytes=bytes) (S:z.cells.size=j)
  {v:Value} {g:Option Nat} {rows:List (List C)} {r:List Value} (h:iL L w T j v g rows r)
  (o f m c:Nat) (new:List (List C)) (d:List Value) (s:new.length=m) (R:0<m) (y:∀row∈new,row.length=j) (B:fP w o f d) (E:∀u∈d,u.oneCell'=true)
  (q:dz (g.toList++L) w d new.flatten) (I:∀x∈L,x<w.heap.size)
  (hb:(rows.length+m)*(bytes+1)<=140737488355328):
  ∃n l w',(Builtin.append_ #[t,t] ty #[v,.slice (some ⟨o,f,none⟩) m c]).run P w= .ok n w'/\iL L w' T j n l (rows++new) (r++d)/\ak g.toList w w'/\
   (l=g\/l=some w.heap.size):=by
 have Q:d.length=m*j:=by rw[q.length,Nv y,s]
 have U:(rows.length+m)*bytes+(rows.length+m)<=140737488355328:=by rw[Nat.mul_add,Nat.mul_one] at hb;exact hb
 obtain⟨n,l,w',O,D,hk,p⟩:=SQ (P:=P) (w:=w) (ty:=ty) K J M A N S h.own o f m c d Q B E R (by unfold maxLen;omega) om;refine⟨n,l,w',O,⟨by rw[lA,s];exact D,?_,?_,?_⟩,hk,p⟩
 .have F:=(h.rep.append q).aG (hk.mono (L':=g.toList++L) λx a=>by simp[a]);rw[List.flatten_append];have H:dz (g.toList++L) w (r++d) (rows.flatten++new.flatten):=h.rep.append q;rcases p with rfl|rfl
  .exact F
  .exact(H.fresh (L':=(some w.heap.size).toList++(g.toList++L)) (λx a=>by
    rcases mA.1 a with a|a
    .right;simp at a;omega
    .exact .inl a)).aG (hk.mono λx a=>by simp[a]) |>.fresh (λx a=>.inl (by
    rcases mA.1 a with a|a
    .exact List.mem_append_left _ a
    .exact mR _<|mR _ a))
 .intro row a;rcases mA.1 a with a|a
  .exact h.row row a
  .exact y row a
 .intro b e a;rcases p with rfl|rfl
  .exact h.out b e a
  .have:=I b a;simp at e;omega
def gate (c:Array Oper) (e:Env):Option (Nat×Bool)->Bool
 |none=>true
 |some (j,a)=>match(c.toList[j]?).bind (·.dst) with
  |some t=>match e t with
   | .bool b=>b==a
   |_=>false
  |none=>false
theorem Ff {e:Env} {a:Act} (h:Fits n e a) (o:Oper):Region.wanted o (yielded ops a.tmps)=gate ops e o.guard:=by
 unfold Region.wanted gate;cases l:o.guard with
 |none=>rfl
 |some p=>
  obtain⟨j,c⟩:=p;simp only[yielded];have g:ops.toList[j]?=ops[j]?:=by simp
  rw[g];cases i:(ops[j]?).bind (·.dst) with
  |none=>cases c<;>rfl
  |some t=>
   simp only[Option.bind_some];have d:=h.get t;rw[Array.getD_eq_getD_getElem?] at d;cases f:a.tmps[t]? with
   |none=>rw[f] at d;simp only[Option.getD_none] at d;rw[<-d];cases c<;>simp[undef]
   |some v=>rw[f] at d;simp only[Option.getD_some] at d;rw[<-d];cases v<;>cases c<;>first|rfl|(rename_i b;cases b<;>rfl)
section
variable {P:Program} {n:Nat} {ops:Array Oper} {K:Env->World->Prop} {rest:List Oper} {e:Env} {w w':World}
 {dst:Option Nat} {ty:TypeId} {pos:String} {after:Array Edge} {g:Option (Nat×Bool)}
theorem aW (h:K e w):OW P n ops K [] e w:=λ_ a _=>⟨e,a,h⟩
theorem fC {op:Op} (d:gate ops e g=true) (c:cC n dst=true) (f:(execOp (ev e) ⟨dst,op,ty,pos,after,g⟩).run P w= .ok (.value v) w') 
  (k:OW P n ops K rest (bW e dst v) w'):OW P n ops K (⟨dst,op,ty,pos,after,g⟩::rest) e w:=λa b Q=>by
 unfold wpList;rw[iP (by rw[Ff b];exact d)];refine .inl ?_;unfold Oper.wp;rw[b.eval,f,Oper.upon_value];exact k _ (b.bW c v) Q
theorem J6 {op:Op} (c:gate ops e g=true) (f:(execOp (ev e) ⟨none,op,ty,pos,after,g⟩).run P w= .ok .skip w') 
  (k:OW P n ops K rest e w'):OW P n ops K (⟨none,op,ty,pos,after,g⟩::rest) e w:=λa b Q=>by
 unfold wpList;rw[iP (by rw[Ff b];exact c)];refine .inl ?_;unfold Oper.wp;rw[b.eval,f,Oper.upon_skip];exact k _ (b.bW (d:=none) rfl undef) Q
theorem Nw {op:Op} (d:gate ops e g=false) (c:cC n dst=true) (k:OW P n ops K rest (bW e dst undef) w):OW P n ops K (⟨dst,op,ty,pos,after,g⟩::rest) e w:=λa b Q=>by unfold wpList;rw[iN (by rw[Ff b];simp[d])];exact k _ (b.bW c undef) Q
theorem cP {op:Op} (k:OW P n ops K rest (bW e dst undef) w) (b:gate ops e g=false:=by rfl) (a:cC n dst=true:=by rfl):OW P n ops K (⟨dst,op,ty,pos,after,g⟩::rest) e w:=Nw b a k
theorem Nx {a:List Value} (h:tP P f):(callFunc f a.toArray).run P w= .ok (.enter f a.toArray) w:=by
 obtain⟨fn,d,hb,e⟩:=h;have b:¬fn.name= "runtime.NumGoroutine":=by simpa using e
 have c:¬fn.body=none:=by intro h;simp[h] at hb
 simp[callFunc,d,c,b]
theorem abu {c:List Operand} {b:Array TypeId} (j:gate ops e g=true) (i:cC n dst=true) (h:bB P f (c.map<|ev e) w S) 
  (k:∀v w',S v w'->OW P n ops K rest (bW e dst v) w'):OW P n ops K (⟨dst,.call {callee:=.value<|.func f,args:=c.toArray,argTypes:=b},ty,pos,after,g⟩::rest) e w:=λa d Q=>by
 unfold wpList;rw[iP (by rw[Ff d];exact j)];refine .inl ?_;unfold Oper.wp;have o:(execOp (ev e) ⟨dst,.call {callee:=.value<|.func f,args:=c.toArray,argTypes:=b},ty,pos,after,g⟩).run P w= .ok (.enter f (c.map<|ev e).toArray) w:=by simp only[execOp,resolve,ev,Deferred.ofValue,Sem.run_bind,Sem.run_pure,Result.andThen_ok,invoke];simp[Nx h.1]
 rw[d.eval,o,Oper.upon_enter];exact Calls.mono h.2 λx w' ⟨v,m,l⟩=>by subst m;exact k v w' l _ (d.bW i v) Q
theorem aA {b:List Operand} {a:Array TypeId} (h:bB P f (b.map<|ev e) w S) (k:∀v w',S v w'->OW P n ops K rest (bW e dst v) w') (d:gate ops e g=true:=by rfl) (c:cC n dst=true:=by rfl):OW P n ops K (⟨dst,.call {callee:=.value<|.func f,args:=b.toArray,argTypes:=a},ty,pos,after,g⟩::rest) e w:=abu d c h k
theorem abv (b:gate ops e g=true) (a:cC n dst=true) (k:OW P n ops K rest (bW e dst<|ev e x) w):OW P n ops K (⟨dst,.move x,ty,pos,after,g⟩::rest) e w:=
 fC b a (by simp[execOp]) k
theorem abw (b:gate ops e g=true) (a:cC n dst=true) (k:OW P n ops K rest (bW e dst<|ev e x) w):OW P n ops K (⟨dst,.assign x,ty,pos,after,g⟩::rest) e w:=
 fC b a (by simp[execOp]) k
theorem SR {c:Operand} {t:Bool} (d:gate ops e g=true) (b:cC n dst=true) (a:ev e c= .bool t) (k:OW P n ops K rest (bW e dst<|bif t then ev e x else ev e y) w):
  OW P n ops K (⟨dst,.pick c x y,ty,pos,after,g⟩::rest) e w:=
 fC d b (by cases t<;>simp[execOp,a,asBool]) k
theorem Hj {a:Addr} (c:gate ops e g=true) (b:cC n dst=true) (d:ev e x= .pointer (some a)) (k:OW P n ops K rest (bW e dst (.pointer<|some a)) w):
  OW P n ops K (⟨dst,.nilCheck x,ty,pos,after,g⟩::rest) e w:=
 fC c b (by simp[execOp,d]) k
/-! ### rb blocks -/
theorem SS {T:TypeId} {a:Array Value} (c:gate ops e g=true) (b:cC n dst=true) (d:(ev e x).cells=a) 
  (k:∀w',ak [] w w'->aJ w' w.heap.size a T->w'.heap.size=w.heap.size+1->OW P n ops K rest (bW e dst (.pointer<|some ⟨w.heap.size,0,none⟩)) w'):
  OW P n ops K (⟨dst,.box T x,ty,pos,after,g⟩::rest) e w:=
 fC c b (w':=w.alloc<|.cells a T) (by simp[execOp,Instr.box,newVar,newRow,d]) (k _ (ak.alloc _ _ _) (aJ.alloc _ _ _) sm)
def TI (P:Program) (T:TypeId) (a bytes:Nat) (z:Value):Prop:=(P.info? T).map (λi=>(i.zero,i.size,i.bytes))=some (some z,a,bytes)
theorem TI.get {T:TypeId} (h:TI P T sz bytes z):∃i,P.info? T=some i/\i.zero=some z/\i.size=sz/\i.bytes=bytes:=by
 unfold TI at h;cases a:P.info? T with
 |none=>simp[a] at h
 |some i=>simp[a] at h;exact⟨i,rfl,h.1,h.2.1,h.2.2⟩
theorem TI.rX {T:TypeId} (h:TI P T sz bytes z) (w:World):(sizeOf T).run P w= .ok sz w:=by obtain⟨i,a,_,b,hb⟩:=h.get;simp[sizeOf,typeInfo,a,b]
theorem TI.J7 {T:TypeId} (h:TI P T sz bytes z) (w:World):(zeroValue T).run P w= .ok z w:=by obtain⟨i,a,b,_,hb⟩:=h.get;simp[zeroValue,typeInfo,a,b]
theorem SU {T:TypeId} {a:Array Value} (b:TI P T sz bytes z) (d:gate ops e g=true) (c:cC n dst=true) (f:z.cells=a) 
  (k:∀w',ak [] w w'->aJ w' w.heap.size a T->w'.heap.size=w.heap.size+1->OW P n ops K rest (bW e dst (.pointer<|some ⟨w.heap.size,0,none⟩)) w'):
  OW P n ops K (⟨dst,.alloc T,ty,pos,after,g⟩::rest) e w:=
 fC d c (w':=w.alloc<|.cells a T) (by simp[execOp,Instr.alloc,b.J7,newVar,newRow,f]) (k _ (ak.alloc _ _ _) (aJ.alloc _ _ _) sm)
/-! ### Addresses,loads,stores -/
def pO (P:Program) (T:TypeId):Bool:=match P.underlying T with
 |some (.struct _)|some (.array _ _)|none=>false
 |_=>true
theorem abx {T:TypeId} (h:pO P T=true) (w:World):(isAgg T).run P w= .ok false w:=by
 unfold pO at h;cases a:P.underlying T with
 |none=>simp[a] at h
 |some d=>cases d<;>simp[a] at h<;>simp[isAgg,underlying,a]
def tR (P:Program) (T:TypeId):Bool:=match P.underlying T with
 |some (.struct _)|some (.array _ _)=>true
 |_=>false
theorem SV {T:TypeId} (h:tR P T=true) (w:World):(isAgg T).run P w= .ok true w:=by
 unfold tR at h;cases a:P.underlying T with
 |none=>simp[a] at h
 |some d=>cases d<;>simp[a] at h<;>simp[isAgg,underlying,a]
theorem tS (b o j:Nat):(⟨b,o,none⟩:Addr).add j=⟨b,o+j,none⟩:=by unfold Addr.add;split<;>simp_all
theorem aby {T:TypeId} {a:Addr} (b:pO P T=true) (f:gate ops e g=true) (d:cC n dst=true) (i:ev e x= .pointer (some a)) (c:w.cell? a=some v) 
  (k:OW P n ops K rest (bW e dst v) w):OW P n ops K (⟨dst,.load T x,ty,pos,after,g⟩::rest) e w:=
 fC f d (by simp[execOp,Instr.loadAt,Instr.sureAddr,i,loadVar,abx b,c]) k
theorem abz {T:TypeId} {x:Operand} {b o:Nat} {a:List Value} (c:tR P T=true) (q:TI P T sz bytes z) (i:gate ops e g=true) (f:cC n dst=true) 
  (p:ev e x= .pointer (some ⟨b,o,none⟩)) (d:fP w b o a) (l:a.length=sz)
  (k:OW P n ops K rest (bW e dst<|.agg a.toArray) w):OW P n ops K (⟨dst,.load T x,ty,pos,after,g⟩::rest) e w:=
 fC i f (by have:=run_loadCells_list (P:=P) w ⟨b,o,none⟩ a (λj v m=>by rw[tS];exact d j v m);rw[l] at this;simp[execOp,Instr.loadAt,Instr.sureAddr,p,loadVar,SV c,q.rX,this]) k
theorem abA {u:Value} (a:v.oneCell'=true) (c:w.cell? ⟨b,o,none⟩=some u) (d:w.frozen? ⟨b,o,none⟩=false):(storeCells ⟨b,o,none⟩ [v]).run P w= .ok () (w.setCell ⟨b,o,none⟩ v):=by simp[storeCells,tS,run_store P w _ v _ a,c,d]
theorem J8 {T:TypeId} {x y:Operand} {b o:Nat} {v:Value} {a:Array Value} {U:TypeId} (q:TI P T sz bytes z) (d:sz=1) (i:gate ops e g=true) 
  (m:ev e x= .pointer (some ⟨b,o,none⟩)) (p:ev e y=v) (c:v.oneCell'=true) (hb:aJ w b a U) (j:o<a.size)
  (k:∀w',ak [b] w w'->aJ w' b (a.setIfInBounds o v) U->w'.heap.size=w.heap.size->OW P n ops K rest e w'):OW P n ops K (⟨none,.store T x y,ty,pos,after,g⟩::rest) e w:=
 J6 i (w':=w.setCell ⟨b,o,none⟩ v) (by
  have f:v.cells=#[v]:=by cases v<;>first|rfl|(simp[Value.oneCell'] at c)
  have l:=abA (P:=P) (w:=w) (b:=b) (o:=o) (v:=v) (u:=a[o]) c (by rw[hb.cell,Array.getElem?_eq_getElem j])<|hb.frozen o;subst d;simp[execOp,Instr.storeAt,Instr.sureAddr,m,p,storeVar,f,q.rX,l]) (k _ (ak.setCell _ _ _ _) (hb.set o v)<|by simp[World.setCell])
theorem SW:∀(vs:List Value) (i:Nat) (pre:List Value) (w:World) (b:Nat) (U:TypeId) (a:Array Value),aJ w b a U->a.size=pre.length+vs.length->i=pre.length->a.toList.take i=pre->(∀u∈vs,u.oneCell'=true)->
  ∃w',(storeCells ⟨b,0,none⟩ vs i).run P w= .ok () w'/\ak [b] w w'/\aJ w' b (pre++vs).toArray U/\w'.heap.size=w.heap.size
 |[],i,pre,w,b,U,a,hb,c,j,d,_=>by
  refine⟨w,rfl,ak.refl _ _,?_,rfl⟩;have:a=(pre++[]).toArray:=by apply Array.ext';simp only[List.append_nil] at*;rw[<-d,List.take_of_length_le (by simp;simp at c;omega)]
  rw[<-this];exact hb
 |v::vs,i,pre,w,b,U,a,hb,c,j,d,h1=>by
  have e:i<a.size:=by simp at c;omega
  have f:(store ((⟨b,0,none⟩:Addr).add i) v).run P w= .ok () (w.setCell ⟨b,i,none⟩ v):=by rw[tS,Nat.zero_add,run_store P w _ v _<|h1 v sm,hb.cell,Array.getElem?_eq_getElem e,hb.frozen];simp
  obtain⟨w',l,hk,g,n⟩:=SW vs (i+1) (pre++[v]) (w.setCell ⟨b,i,none⟩ v) b U (a.setIfInBounds i v) (hb.set i v) (by simp at c⊢;omega) so
   (by rw[Array.toList_setIfInBounds,List.take_add_one,List.getElem?_set_self<|by simpa using e,List.take_set_of_le<|lR i,d];simp)
   λu m=>h1 u<|by simp[m]
  refine⟨w',?_,(ak.setCell w b i v).trans hk,by simpa using g,by rw[n];simp[World.setCell]⟩;simp only[storeCells,Sem.run_bind,f,Result.andThen_ok];exact l
theorem abB {T:TypeId} {x y:Operand} {b:Nat} {a:List Value} {c:Array Value} {U:TypeId} (q:TI P T sz bytes z) (i:gate ops e g=true) 
  (m:ev e x= .pointer (some ⟨b,0,none⟩)) (o:ev e y= .agg a.toArray) (j:a.length=sz) (f:∀u∈a,u.oneCell'=true) (hb:aJ w b c U) (r:c.size=sz)
  (k:∀w',ak [b] w w'->aJ w' b a.toArray U->w'.heap.size=w.heap.size->OW P n ops K rest e w'):OW P n ops K (⟨none,.store T x y,ty,pos,after,g⟩::rest) e w:=by
 obtain⟨w',l,hk,d,p⟩:=SW (P:=P) a 0 [] w b U c hb so rfl sm f;exact J6 i (w':=w') (by simp[execOp,Instr.storeAt,Instr.sureAddr,m,o,storeVar,Value.cells,q.rX,j,l])<|k _ hk (by simpa using d) p
def gN (P:Program) (S i:Nat):Option Nat:=match P.underlying S with
 |some (.struct a)=>match a[i]? with
  |some f=>match P.info? f.type with
   |some t=>if t.size=0 then none else some f.offset
   |none=>none
  |none=>none
 |_=>none
theorem abC {S:Nat} (h:gN P S i=some off):(Instr.fieldAt S (.pointer<|some ⟨b,o,none⟩) i).run P w= .ok (.pointer<|some ⟨b,o+off,none⟩) w:=by
 unfold gN at h;cases e:P.underlying S with
 |none=>simp[e] at h
 |some d=>
  cases d<;>simp[e] at h;rename_i j;cases a:j[i]? with
  |none=>simp[a] at h
  |some f=>
   simp only[a] at h;cases c:P.info? f.type with
   |none=>simp[c] at h
   |some t=>
    simp only[c] at h;by_cases g:t.size=0
    .simp[g] at h
    .simp[g] at h;simp[Instr.fieldAt,run_underlying e,a,Instr.sureAddr,fieldPlace,sizeOf,typeInfo,c,g,tS,h]
theorem SX {S:Nat} (a:gN P S i=some off) (d:gate ops e g=true) (c:cC n dst=true) (f:ev e x= .pointer (some ⟨b,o,none⟩)) 
  (k:OW P n ops K rest (bW e dst (.pointer<|some ⟨b,o+off,none⟩)) w):OW P n ops K (⟨dst,.fieldAddr S x i,ty,pos,after,g⟩::rest) e w:=
 fC d c (by simp[execOp,f,abC a]) k
theorem SY {T E:TypeId} {x y:Operand} {b o len cap i:Nat} {p:IntKind} (d:P.underlying T=some (.slice E)) (c:TI P E sz bytes z) (j:gate ops e g=true) (f:cC n dst=true) 
  (l:ev e x= .slice (some ⟨b,o,none⟩) len cap) (m:ev e y= .int p (i:Int)) (q:i<len)
  (k:OW P n ops K rest (bW e dst (.pointer<|some ⟨b,o+i*sz,none⟩)) w):OW P n ops K (⟨dst,.indexAddr T x y,ty,pos,after,g⟩::rest) e w:=
 fC j f (by
  have a:¬len<=i:=by omega
  simp[execOp,Instr.indexAt,l,m,asIntOf,run_underlying d,a,c.rX,tS]) k
theorem J9 {T E:TypeId} {a:Option Addr} {cap:Nat} (hT:P.underlying T=some (.slice E)) (hg:gate ops e g=true) (hd:cC n dst=true) (hx:ev e x= .slice a m cap) 
  (k:OW P n ops K rest (bW e dst<|.int .i64 m) w):OW P n ops K (⟨dst,.call {callee:=.builtin .len,args:=#[x],argTypes:=#[T]},ty,pos,after,g⟩::rest) e w:=
 fC hg hd (by simp[execOp,resolve,invoke,builtin,hx,Builtin.len_,run_underlying hT,goInt]) k
theorem abD {T:TypeId} {s:ByteArray} (a:P.underlying T=some .string) (c:gate ops e g=true) (b:cC n dst=true) (f:ev e x= .string s) (d:s.size=m) 
  (k:OW P n ops K rest (bW e dst<|.int .i64 m) w):OW P n ops K (⟨dst,.call {callee:=.builtin .len,args:=#[x],argTypes:=#[T]},ty,pos,after,g⟩::rest) e w:=
 fC c b (by simp[execOp,resolve,invoke,builtin,f,Builtin.len_,run_underlying a,goInt,d]) k
theorem SZ (b:gate ops e g=true) (a:cC n dst=true) (d:ev e x= .tuple vs.toArray) (c:vs[i]?=some v) 
  (k:OW P n ops K rest (bW e dst v) w):OW P n ops K (⟨dst,.extract x i,ty,pos,after,g⟩::rest) e w:=
 fC b a (by simp[execOp,Instr.extract,d,c]) k
end
abbrev str (l:List UInt8):Value:=.string ⟨l.toArray⟩
section
variable {P:Program} {n:Nat} {ops:Array Oper} {K:Env->World->Prop} {rest:List Oper} {e:Env} {w w':World}
 {dst:Option Nat} {ty:TypeId} {pos:String} {after:Array Edge} {g:Option (Nat×Bool)} {T T':TypeId} {x y:Operand}
theorem Ka {b:Int} (hg:gate ops e g=true) (hd:cC n dst=true) (hx:ev e x= .int k a) (hy:ev e y= .int k' b) (hk:k=k':=by rfl) 
  (c:OW P n ops K rest (bW e dst<|.bool (decide<|a<b)) w):OW P n ops K (⟨dst,.binOp .lss T x y T',ty,pos,after,g⟩::rest) e w:=
 fC hg hd (by subst hk;cases k<;>simp[execOp,eqGuard,hx,hy,binOp,Op.intCmp]) c
theorem abE {b:Int} (hg:gate ops e g=true) (hd:cC n dst=true) (hx:ev e x= .int k a) (hy:ev e y= .int k' b) (hk:k=k':=by rfl) 
  (c:OW P n ops K rest (bW e dst<|.bool (decide<|a<=b)) w):OW P n ops K (⟨dst,.binOp .leq T x y T',ty,pos,after,g⟩::rest) e w:=
 fC hg hd (by subst hk;cases k<;>simp[execOp,eqGuard,hx,hy,binOp,Op.intCmp]) c
theorem Hk {b:Int} (hg:gate ops e g=true) (hd:cC n dst=true) (hx:ev e x= .int k a) (hy:ev e y= .int k' b) (hk:k=k':=by rfl) 
  (c:OW P n ops K rest (bW e dst<|.bool (decide<|b<a)) w):OW P n ops K (⟨dst,.binOp .gtr T x y T',ty,pos,after,g⟩::rest) e w:=
 fC hg hd (by subst hk;cases k<;>simp[execOp,eqGuard,hx,hy,binOp,Op.intCmp]) c
theorem abF {b:Int} (hg:gate ops e g=true) (hd:cC n dst=true) (hx:ev e x= .int k a) (hy:ev e y= .int k' b) (hk:k=k':=by rfl) 
  (c:OW P n ops K rest (bW e dst<|.bool (decide<|b<=a)) w):OW P n ops K (⟨dst,.binOp .geq T x y T',ty,pos,after,g⟩::rest) e w:=
 fC hg hd (by subst hk;cases k<;>simp[execOp,eqGuard,hx,hy,binOp,Op.intCmp]) c
theorem xN {b:Int} (hg:gate ops e g=true) (hd:cC n dst=true) (hx:ev e x= .int k a) (hy:ev e y= .int k' b) (hk:k=k':=by rfl) 
  (c:OW P n ops K rest (bW e dst<|.bool (decide<|a=b)) w):OW P n ops K (⟨dst,.binOp .eql T x y T',ty,pos,after,g⟩::rest) e w:=
 fC hg hd (by
  have h:(a==b)=decide (a=b):=by by_cases h:a=b<;>simp[h]
  subst hk;cases k<;>simp[execOp,eqGuard,hx,hy,binOp,Op.intCmp,h]) c
theorem Hl {b:Int} (hg:gate ops e g=true) (hd:cC n dst=true) (hx:ev e x= .int k a) (hy:ev e y= .int k' b) (hk:k=k':=by rfl) 
  (c:OW P n ops K rest (bW e dst<|.bool (decide<|a≠b)) w):OW P n ops K (⟨dst,.binOp .neq T x y T',ty,pos,after,g⟩::rest) e w:=
 fC hg hd (by
  have h:(a !=b)=decide (a≠b):=by by_cases h:a=b<;>simp[h]
  subst hk;cases k<;>simp[execOp,eqGuard,hx,hy,binOp,Op.intCmp,h]) c
theorem l6 {b c:Int} (hg:gate ops e g=true) (hd:cC n dst=true) (hx:ev e x= .int k a) (hy:ev e y= .int k' b) (hk:k=k':=by rfl) (hc:k.wrap (a+b)=c) 
  (c':OW P n ops K rest (bW e dst<|.int k c) w):OW P n ops K (⟨dst,.binOp .add T x y T',ty,pos,after,g⟩::rest) e w:=
 fC hg hd (by subst hk;cases k<;>simp[execOp,eqGuard,hx,hy,binOp,Op.intArith,hc]) c'
theorem xO {b c:Int} (hg:gate ops e g=true) (hd:cC n dst=true) (hx:ev e x= .int k a) (hy:ev e y= .int k' b) (hk:k=k':=by rfl) (hc:k.wrap (a-b)=c) 
  (c':OW P n ops K rest (bW e dst<|.int k c) w):OW P n ops K (⟨dst,.binOp .sub T x y T',ty,pos,after,g⟩::rest) e w:=
 fC hg hd (by subst hk;cases k<;>simp[execOp,eqGuard,hx,hy,binOp,Op.intArith,hc]) c'
theorem Kb {b c:Int} (hg:gate ops e g=true) (hd:cC n dst=true) (hx:ev e x= .int k a) (hy:ev e y= .int k' b) (hk:k=k':=by rfl) (hc:k.wrap (a*b)=c) 
  (c':OW P n ops K rest (bW e dst<|.int k c) w):OW P n ops K (⟨dst,.binOp .mul T x y T',ty,pos,after,g⟩::rest) e w:=
 fC hg hd (by subst hk;cases k<;>simp[execOp,eqGuard,hx,hy,binOp,Op.intArith,hc]) c'
theorem Ny {a:Nat} {c:Int} (l:gate ops e g=true) (j:cC n dst=true) (m:ev e x= .int k (a:Int)) (o:ev e y= .int k' (b:Int)) (hk:k=k':=by rfl) (hb:0<b) (i:k.wrap ((a/b:Nat):Int)=c) 
  (d:OW P n ops K rest (bW e dst<|.int k c) w):OW P n ops K (⟨dst,.binOp .quo T x y T',ty,pos,after,g⟩::rest) e w:=
 fC l j (by
  have f:¬b=0:=by omega
  subst hk;cases k<;>simp[execOp,eqGuard,m,o,binOp,Op.intDiv,f]<;>(try rw[<-i])<;>(try simp)) d
theorem Hm {a:Nat} (j:gate ops e g=true) (i:cC n dst=true) (l:ev e x= .int k (a:Int)) (m:ev e y= .int k' (b:Int)) (hk:k=k':=by rfl) (hb:0<b) 
  (c:OW P n ops K rest (bW e dst<|.int k ((a%b:Nat):Int)) w):OW P n ops K (⟨dst,.binOp .rem T x y T',ty,pos,after,g⟩::rest) e w:=
 fC j i (by
  have d:¬b=0:=by omega
  have f:(a:Int).tmod (b:Int)=((a:Int)%(b:Int)):=Int.tmod_eq_emod_of_nonneg om;subst hk;cases k<;>simp[execOp,eqGuard,l,m,binOp,Op.intDiv,d,f]) c
theorem ka {b:Bool} (hg:gate ops e g=true) (hd:cC n dst=true) (hx:ev e x= .bool b) (c:OW P n ops K rest (bW e dst (.bool<|!b)) w):
  OW P n ops K (⟨dst,.unOp .not T x,ty,pos,after,g⟩::rest) e w:=
 fC hg hd (by simp[execOp,Op.unary,hx]) c
theorem abG {a b:Bool} (hT:P.underlying T=some .bool) (hg:gate ops e g=true) (hd:cC n dst=true) (hx:ev e x= .bool a) (hy:ev e y= .bool b) 
  (c:OW P n ops K rest (bW e dst (.bool<|a==b)) w):OW P n ops K (⟨dst,.binOp .eql T x y T',ty,pos,after,g⟩::rest) e w:=
 fC hg hd (by simp[execOp,eqGuard,hx,hy,run_eql_bool w T a b hT]) c
theorem abH {a b:Bool} (hT:P.underlying T=some .bool) (hg:gate ops e g=true) (hd:cC n dst=true) (hx:ev e x= .bool a) (hy:ev e y= .bool b) 
  (c:OW P n ops K rest (bW e dst (.bool<|!(a==b))) w):OW P n ops K (⟨dst,.binOp .neq T x y T',ty,pos,after,g⟩::rest) e w:=
 fC hg hd (by simp[execOp,eqGuard,hx,hy,run_neq_bool w T a b hT]) c
/-! ### Strings -/
theorem S0 {a b:List UInt8} (hg:gate ops e g=true) (hd:cC n dst=true) (hx:ev e x=str a) (hy:ev e y=str b) (hs:a.length+b.length<=9223372036854775807) 
  (c:OW P n ops K rest (bW e dst (str<|a++b)) w):OW P n ops K (⟨dst,.binOp .add T x y T',ty,pos,after,g⟩::rest) e w:=
 fC hg hd (by
  have f:¬(IntKind.i64.max<(a.length:Int)+(b.length:Int)):=by
   have:IntKind.i64.max=9223372036854775807:=by decide
   omega
  have d:(⟨a.toArray⟩:ByteArray)++⟨b.toArray⟩=⟨(a++b).toArray⟩:=by apply ByteArray.ext;simp
  simp[execOp,eqGuard,hx,hy,binOp,Op.stringOp,ByteArray.size,d];omega) c
theorem iS {a b:List UInt8} (j:ev e x=str a) (l:ev e y=str b) (i:a.length+b.length<=9223372036854775807) (c:OW P n ops K rest (bW e dst (str<|a++b)) w) (f:gate ops e g=true:=by rfl) (d:cC n dst=true:=by rfl):OW P n ops K (⟨dst,.binOp .add T x y T',ty,pos,after,g⟩::rest) e w:=S0 f d j l i c
theorem C1 {a b:List UInt8} (hg:gate ops e g=true) (hd:cC n dst=true) (hx:ev e x=str a) (hy:ev e y=str b) 
  (c:OW P n ops K rest (bW e dst<|.bool (decide<|a=b)) w):OW P n ops K (⟨dst,.binOp .eql T x y T',ty,pos,after,g⟩::rest) e w:=
 fC hg hd (by
  have h:(a==b)=decide (a=b):=by by_cases h:a=b<;>simp[h]
  simp[execOp,eqGuard,hx,hy,binOp,Op.stringOp,h]) c
theorem Nz {a b:List UInt8} (hg:gate ops e g=true) (hd:cC n dst=true) (hx:ev e x=str a) (hy:ev e y=str b) 
  (c:OW P n ops K rest (bW e dst<|.bool (decide<|a≠b)) w):OW P n ops K (⟨dst,.binOp .neq T x y T',ty,pos,after,g⟩::rest) e w:=
 fC hg hd (by
  have h:(a==b)=decide (a=b):=by by_cases h:a=b<;>simp[h]
  simp[execOp,eqGuard,hx,hy,binOp,Op.stringOp,h]) c
theorem kH {a:List UInt8} {b:UInt8} (j:P.underlying T=some .string) (o:gate ops e g=true) (l:cC n dst=true) (q:ev e x=str a) (r:ev e y= .int k (i:Int)) (p:a[i]?=some b) 
  (c:OW P n ops K rest (bW e dst<|.int .u8 b.toNat) w):OW P n ops K (⟨dst,.index T x y,ty,pos,after,g⟩::rest) e w:=
 fC o l (by
  obtain⟨_,m⟩:=List.getElem?_eq_some_iff.1 p;have d:=run_index_string (P:=P) w T ⟨a.toArray⟩ k (i:Int) j;have f:(⟨a.toArray⟩:ByteArray).size=a.length:=by simp[ByteArray.size]
  rw[dif_pos (by rw[f];omega)] at d;simp only[execOp,q,r,Sem.run_bind,d];simp only[Result.andThen_ok,Sem.run_pure,Int.toNat_natCast];rw[<-m];rfl) c
theorem abI {a:List UInt8} {c b:Option Value} {l h:Nat} (m:P.underlying T=some .string) 
  (d:(c=none/\l=0)\/∃k,c=some (.int k (l:Int))) (e:(b=none/\h=a.length)\/∃k,b=some (.int k (h:Int))) (i:l<=h) (j:h<=a.length):
  (Instr.sliceAt T (str a) c b none).run P w= .ok (str ((a.drop l).take<|h-l)) w:=by
 have f:(⟨a.toArray⟩:ByteArray).extract l h=⟨((a.drop l).take<|h-l).toArray⟩:=ByteArray.extract_mk a l h;have g:(⟨a.toArray⟩:ByteArray).size=a.length:=by simp[ByteArray.size]
 rcases d with⟨rfl,rfl⟩|⟨k,rfl⟩<;>rcases e with⟨rfl,rfl⟩|⟨k',rfl⟩<;>
  simp[Instr.sliceAt,Instr.slice,run_underlying m,Instr.sliceBounds,Instr.sliceBound,asIntOf,g,i,j,f]
theorem C4 {a:List UInt8} {d b:Option Operand} {l h:Nat} (o:P.underlying T=some .string) (q:gate ops e g=true) (p:cC n dst=true) (r:ev e x=str a) 
  (f:(d.map (ev e)=none/\l=0)\/∃k,d.map (ev e)=some (.int k (l:Int))) (i:(b.map (ev e)=none/\h=a.length)\/∃k,b.map (ev e)=some (.int k (h:Int))) (j:l<=h) (m:h<=a.length)
  (c:OW P n ops K rest (bW e dst<|str ((a.drop l).take<|h-l)) w):OW P n ops K (⟨dst,.slice T x d b none,ty,pos,after,g⟩::rest) e w:=
 fC q p (by simp only[execOp,r,Option.map_none,Sem.run_bind,abI o f i j m];rfl) c
theorem Fh {L:List Nat} {E:TypeId} {i:Operand} {b a len cap l:Nat} {k:IntKind} (o:P.underlying T=some (.slice E)) (m:TI P E sz bytes z) (r:gate ops e g=true) (q:cC n dst=true) 
  (s:ev e x= .slice (some ⟨b,a,none⟩) len cap) (j:ev e i= .int k (l:Int)) (d:l<=len) {rows:List (List C)} (f:cg L w (.slice (some ⟨b,a,none⟩) len cap) (.sl sz rows))
  (c:∀v,cg L w v (.sl sz (rows.drop l))->OW P n ops K rest (bW e dst v) w):OW P n ops K (⟨dst,.slice T x (some i) none none,ty,pos,after,g⟩::rest) e w:=by
 have t:len<=cap:=by cases f with|nil=>exact Nat.zero_le _|sl _ _ _ _ _ _ _ d p=>exact p
 refine fC r q (v:=.slice (if cap=l then some ⟨b,a,none⟩ else some ⟨b,a+l*sz,none⟩) (len-l)<|cap-l) (w':=w) ?_ (c _<|abp f l d _ (λh=>iN om) λh=>iP om);simp[execOp,Instr.sliceAt,Instr.slice,s,j,run_underlying o,Instr.sliceBounds,Instr.sliceBound,asIntOf,d,m.rX,tS]
theorem zq {S D:TypeId} {d:TypeDesc} {c:Int} (i:P.underlying S=some d) (f:P.underlying D=some (.int k')) (m:gate ops e g=true) (l:cC n dst=true) (o:ev e x= .int k a) (j:k'.wrap a=c) 
  (b:OW P n ops K rest (bW e dst<|.int k' c) w):OW P n ops K (⟨dst,.convert S D x,ty,pos,after,g⟩::rest) e w:=
 fC m l (by simp[execOp,convert,o,run_underlying i,run_underlying f,Conv.intToInt,j]) b
end
theorem aJ.ext {a:Array Value} {T:TypeId} (h:aJ w b a T) (k:ak [] w w'):aJ w' b a T:=h.aG k sm
theorem cg.ext {c:C} (h:cg L w v c) (k:ak [] w w'):cg L w' v c:=h.aG k.any
theorem iZ.ext {a:List C} (h:iZ L w v a) (k:ak [] w w'):iZ L w' v a:=h.aG k.any
theorem iL.ext {T:TypeId} {rows:List (List C)} (h:iL L w T sz v g rows xs) (k:ak [] w w'):iL L w' T sz v g rows xs:=h.aG k sm
theorem ak.ext (h:ak L w0 w) (k:ak [] w w'):ak L w0 w':=h.trans k.any
theorem fP.ext (h:fP w b off vs) (k:ak [] w w'):fP w' b off vs:=λj v c=>by have a:=h j v c;have hb:b<w.heap.size:=World.block_lt_of_cell? w ⟨b,off+j,none⟩ a;exact(World.cell?_of_block<|k.block b hb sm).trans a
theorem aJ.at {T:TypeId} (h:aJ w b vs.toArray T) (a:vs[i]?=some v):w.cell? ⟨b,i,none⟩=some v:=by rw[h.cell];simpa using a
theorem aJ.all {T:TypeId} (h:aJ w b vs.toArray T):fP w b 0 vs:=λj v a=>by rw[Nat.zero_add];exact h.at a
theorem wrap_i64 (x:Int) (a: -9223372036854775808<=x) (b:x<=9223372036854775807):IntKind.i64.wrap x=x:=by simp only[IntKind.wrap,IntKind.bits,IntKind.signed];simp;omega
theorem wrap_u8 (x:Int) (a:0<=x) (b:x<=255):IntKind.u8.wrap x=x:=by simp only[IntKind.wrap,IntKind.bits,IntKind.signed];simp;omega
theorem wrap_u64 (x:Int) (a:0<=x) (b:x<=18446744073709551615):IntKind.u64.wrap x=x:=by simp only[IntKind.wrap,IntKind.bits,IntKind.signed];simp;omega
section
variable {P:Program} {n:Nat} {ops:Array Oper} {K:Env->World->Prop} {rest:List Oper} {e:Env} {w w':World}
 {dst:Option Nat} {ty:TypeId} {pos:String} {after:Array Edge} {g:Option (Nat×Bool)} {T:TypeId} {x:Operand}
theorem abJ (b:gate ops e g=true) (a:cC n dst=true) (c:ev e x= .agg vs.toArray) 
  (k:∀w',ak [] w w'->aJ w' w.heap.size vs.toArray T->w'.heap.size=w.heap.size+1->OW P n ops K rest (bW e dst (.pointer<|some ⟨w.heap.size,0,none⟩)) w'):
  OW P n ops K (⟨dst,.box T x,ty,pos,after,g⟩::rest) e w:=SS b a (by rw[c];rfl) k
theorem eK (c:ev e x= .agg vs.toArray) (k:∀w',ak [] w w'->aJ w' w.heap.size vs.toArray T->w'.heap.size=w.heap.size+1->OW P n ops K rest (bW e dst (.pointer<|some ⟨w.heap.size,0,none⟩)) w') (b:gate ops e g=true:=by rfl) (a:cC n dst=true:=by rfl):OW P n ops K (⟨dst,.box T x,ty,pos,after,g⟩::rest) e w:=abJ b a c k
theorem NA (b:gate ops e g=true) (a:cC n dst=true) (c:(ev e x).cells=[v].toArray) 
  (k:∀w',ak [] w w'->aJ w' w.heap.size [v].toArray T->w'.heap.size=w.heap.size+1->OW P n ops K rest (bW e dst (.pointer<|some ⟨w.heap.size,0,none⟩)) w'):
  OW P n ops K (⟨dst,.box T x,ty,pos,after,g⟩::rest) e w:=SS b a c k
theorem dx (a:TI P T sz bytes (.agg vs.toArray)) (c:gate ops e g=true) (b:cC n dst=true) (_:vs=vs) 
  (k:∀w',ak [] w w'->aJ w' w.heap.size vs.toArray T->w'.heap.size=w.heap.size+1->OW P n ops K rest (bW e dst (.pointer<|some ⟨w.heap.size,0,none⟩)) w'):
  OW P n ops K (⟨dst,.alloc T,ty,pos,after,g⟩::rest) e w:=SU a c b rfl k
theorem abK (a:TI P T sz bytes z) (c:gate ops e g=true) (b:cC n dst=true) (d:z.cells=[v].toArray) 
  (k:∀w',ak [] w w'->aJ w' w.heap.size [v].toArray T->w'.heap.size=w.heap.size+1->OW P n ops K rest (bW e dst (.pointer<|some ⟨w.heap.size,0,none⟩)) w'):
  OW P n ops K (⟨dst,.alloc T,ty,pos,after,g⟩::rest) e w:=SU a c b d k
theorem wA (h:e t=v):iR e t v=e:=by grind [ni,J2]
theorem vg {b:Bool} (d:e t= .bool b) (c:b=true->OW P n ops K l (iR e t<|.bool true) w) (a:b=false->OW P n ops K l (iR e t<|.bool false) w):OW P n ops K l e w:=by cases b<;>grind [wA]
theorem Fi {b:Bool} (a:e t= .bool b) (h:OW P n ops K l (iR e t<|.bool b) w):OW P n ops K l e w:=by rwa [wA a] at h
def aZ (D:List Nat) (x e:Env):Env:=λt=>bif D.contains t then x t else e t
def eM (D:List Nat) (e a:Env):Prop:=∀t,D.contains t=false->a t=e t
theorem zt {e:Env}:eM D e e:=λ_ _=>rfl
theorem Kc {e a:Env} (b:D.contains d=true) (h:eM D e a):eM D e (iR a d v):=by grind [eM,iR,J2]
theorem NB {a:List Nat} {e b x:Env} (c:a.all D.contains=true) (h:eM D e b):eM D e (aZ a x b):=by grind [eM,aZ]
theorem asH [Decidable p] (h:decide p=true):p:=of_decide_eq_true h
theorem asI [Decidable p] (h:decide p=false):¬p:=of_decide_eq_false h
theorem asJ {b:Bool} (h:(!b)=true):b=false:=by simpa using h
theorem asK {b:Bool} (h:(!b)=false):b=true:=by simpa using h
theorem zu {e a:Env} (h:eM D e a):aZ D a e=a:=by grind [eM,aZ]
theorem Oper.NC {o:Oper} {a:Act} {w:World} {H g:Act->World->Prop} {Q f:Exit->Act->World->Prop} (h:∀a w,H a w->g a w) 
  (i:∀c a w,Q (.panic c) a w->f (.panic c) a w) (j:LetsOut Q->LetsOut f) (b:o.wp P a w H Q):o.wp P a w g f:=by
 unfold Oper.wp at*;generalize(execOp a.eval o).run P w=r at*;cases r with
 |ok n w'=>
  cases n<;>simp only[Oper.upon] at b⊢<;>
   first
    |exact h _ _ b
    |exact Calls.mono b (λe _ d=>by cases e<;>first|exact h _ _ d|exact i _ _ _ d|exact j d)
    |exact Rows.mono b (λ_ _ d=>h _ _ d)
 |halt x w'=>cases x<;>simp only[Oper.upon] at b⊢<;>first|exact i _ _ _ b|exact b
theorem ND {N:Env->World->Prop} {g:List Oper} (k:∀c b w',Fits n c b->N c w'->wpList P ops (ql n K Q) g b w'):
  ∀(f:List Oper) (a:Act) (w:World),wpList P ops (ql n N Q) f a w->wpList P ops (ql n K Q) (f++g) a w
 |[],a,w,h=>by simp only[wpList,ql] at h;obtain⟨c,p,q⟩:=h;exact k c a w p q
 |o::l,a,w,h=>by
  have d:LetsOut (ql n N Q)->LetsOut (ql n K Q):=fun⟨a,w,hq⟩=>⟨a,w,hq⟩;simp only[List.cons_append];unfold wpList at h⊢;by_cases e:Region.wanted o (yielded ops a.tmps)=true
  .rw[iP e] at h⊢;rcases h with h|⟨j,m⟩
   .exact .inl<|Oper.NC (λb w' i=>ND k l b w' i) (λ_ _ _ h=>h) d h
   .exact .inr ⟨j,d m⟩
  .rw[iN e] at h⊢;exact ND k l _ w h
theorem xP {c d:List Oper} {N:Env->World->Prop} (h:OW P n ops N c e w) (k:∀b w',N b w'->OW P n ops K d b w'):OW P n ops K (c++d) e w:=λa g Q=>
 ND (λb f w' i j=>k b w' j f i Q) c a w (h a g Q)
theorem NF {l:List Oper} (m g i:Nat) (D:List Nat) {c r:Bool} (J:World->Prop) (j:e g= .bool c) 
  (p:c=true->OW P n ops (λa w'=>eM D e a/\a i= .bool r/\J w') (l.take m) (iR e g<|.bool true) w)
  (o:c=false->OW P n ops (λa w'=>eM D e a/\a i= .bool false/\J w') (l.take m) (iR e g<|.bool false) w)
  (k:∀x w',J w'->OW P n ops K (l.drop m) (iR (aZ D x e) i (.bool (c&&r))) w'):OW P n ops K l e w:=by
 rw[<-List.take_append_drop m l];cases c with
 |true=>have h:=p rfl;rw[wA j] at h;refine xP h λa w' ⟨b,f,d⟩=>?_;have:=k a w' d;rw[zu b,Bool.true_and,wA f] at this;exact this
 |false=>have h:=o rfl;rw[wA j] at h;refine xP h λa w' ⟨b,f,d⟩=>?_;have:=k a w' d;rw[zu b,Bool.false_and,wA f] at this;exact this
theorem C5 {l:List Oper} (m g i:Nat) (D:List Nat) {c r:Bool} (J:World->Prop) (j:e g= .bool c) 
  (p:c=true->OW P n ops (λa w'=>eM D e a/\a i= .bool true/\J w') (l.take m) (iR e g<|.bool true) w)
  (o:c=false->OW P n ops (λa w'=>eM D e a/\a i= .bool r/\J w') (l.take m) (iR e g<|.bool false) w)
  (k:∀x w',J w'->OW P n ops K (l.drop m) (iR (aZ D x e) i (.bool (c||r))) w'):OW P n ops K l e w:=by
 rw[<-List.take_append_drop m l];cases c with
 |true=>have h:=p rfl;rw[wA j] at h;refine xP h λa w' ⟨b,f,d⟩=>?_;have:=k a w' d;rw[zu b,Bool.true_or,wA f] at this;exact this
 |false=>have h:=o rfl;rw[wA j] at h;refine xP h λa w' ⟨b,f,d⟩=>?_;have:=k a w' d;rw[zu b,Bool.false_or,wA f] at this;exact this
theorem abL {a:List UInt8} (hT:P.underlying T=some .string) (hg:gate ops e g=true) (hd:cC n dst=true) (hx:ev e x=str a) 
  (k:OW P n ops K rest (bW e dst<|.int .i64 (a.length:Nat)) w):OW P n ops K (⟨dst,.call {callee:=.builtin .len,args:=#[x],argTypes:=#[T]},ty,pos,after,g⟩::rest) e w:=
 abD hT hg hd hx (by simp[ByteArray.size]) k
theorem jG {l:List (Nat×Operand)} (hb:(Instr.build T (l.map λp=>(p.1,ev e p.2)).toArray).run P w= .ok v w) (b:gate ops e g=true) (a:cC n dst=true) 
  (k:OW P n ops K rest (bW e dst v) w):OW P n ops K (⟨dst,.build T l.toArray,ty,pos,after,g⟩::rest) e w:=
 fC b a (by simp only[execOp,List.map_toArray,Sem.run_bind,hb];rfl) k
end
theorem ga {e:Env} {ty:Nat} {T:TypeId} (a:tR P ty=true) (g:TI P ty sz bytes z) (c:e t= .pointer (some ⟨b,0,none⟩)) (hb:aJ w b vs.toArray T) (d:vs.length=sz):
  SP P e t ty (.agg vs.toArray) w:=by
 refine⟨⟨b,0,none⟩,c,?_⟩;have:=run_loadCells_list (P:=P) w ⟨b,0,none⟩ vs (λj v f=>by rw[tS];exact hb.all j v f);rw[d] at this;simp[loadVar,SV a,g.rX,this]
def zZ:Nat->List Value->List (Nat×Value)
 |_,[]=>[]
 |k,v::l=>(k,v)::zZ (k+1) l
theorem mg {e a:Env} {q:Prop} (b:p) (c:q) (h:eM D e a:=by repeat(first|with_reducible exact zt|refine Kc rfl ?_|refine NB rfl ?_)):eM D e a/\p/\q:=⟨h,b,c⟩
theorem dn {q r:Prop} (a:p) (b:q) (c:r:=by first|exact qp|exact zt):p/\q/\r:=⟨a,b,c⟩
def o9 (F:List (Value->World->Prop)) (i:Nat):Value->World->Prop:=F.getD i λ_ _=>True
def Hn (F:List (Value->World->Prop)) (a:Nat->Value) (w:World):List Nat->Prop
 |[]=>True
 |[j]=>o9 F j (a j) w
 |j::r=>o9 F j (a j) w/\Hn F a w r
theorem abM {a:Nat->Value}:∀{l:List Nat},(∀j∈l,o9 F j (a j) w)->Hn F a w l:=by intro x;induction x<;>grind [o9,Hn]
def vh (a:List Nat) (b:Nat->Value):List Nat->List (Nat×Value)
 |[]=>[]
 |j::r=>(a.getD j 0,b j)::vh a b r
structure Kept (KK:World->World->Prop):Prop where
 refl:∀w,KK w w
 trans:∀{a b c},KK a b->KK b c->KK a c
 of:∀{a b},ak [] a b->KK a b
theorem cE:Kept (ak []):=⟨ak.refl _,ak.trans,id⟩
def KS (b:Nat) (c:List Value) (T:TypeId) (w d:World):Prop:=ak [b] w d/\(aJ w b c.toArray T->aJ d b c.toArray T)/\
 ((∃a:List Value,a.length=c.length/\aJ w b a.toArray T)->∃a:List Value,a.length=c.length/\aJ d b a.toArray T)
theorem C6 (b:Nat) (a:List Value) (T:TypeId):Kept (KS b a T):=
 ⟨λ_=>⟨ak.refl _ _,id,id⟩,λh k=>⟨h.1.trans k.1,λx=>k.2.1<|h.2.1 x,λx=>k.2.2<|h.2.2 x⟩,
  λh=>⟨h.any,λx=>x.aG h sm,fun⟨us,hl,x⟩=>⟨us,hl,x.aG h sm⟩⟩⟩
def rf (a:World->World->Prop):List (Value->World->Prop)->Prop
 |[]=>True
 |f::r=>(∀v w w',f v w->a w w'->f v w')/\rf a r
theorem S1 {b:World->World->Prop}:∀{F:List (Value->World->Prop)},rf b F->∀f∈F,∀v w w',f v w->b w w'->f v w'
 |[],_,_,h=>by cases h
 |g::r,h,f,a=>by
  rcases mC.1 a with rfl|a
  .exact h.1
  .exact S1 h.2 f a
theorem bU {a:World->World->Prop} {V:Value} (h:rf a r):rf a ((λv _=>v=V)::r):=⟨λ_ _ _ h _=>h,h⟩
theorem nk {a:World->World->Prop} {c:Prop} {V:Value} (h:rf a r):rf a ((λv _=>c->v=V)::r):=⟨λ_ _ _ h _=>h,h⟩
theorem C7 {a:List Value} {T:TypeId} (h:rf (KS b a T) r):rf (KS b a T) ((λ_ w=>aJ w b a.toArray T)::r):=⟨λ_ _ _ h k=>k.2.1 h,h⟩
theorem qq {a:World->World->Prop} {f:Value->World->Prop} (b:∀v w w',f v w->a w w'->f v w') (h:rf a r):rf a (f::r):=⟨b,h⟩
theorem qp {e:Env}:eM [d] e (bW e (some d) v):=Kc sm zt
def NH (d:World->World->Prop) (P:Program) (n:Nat) (c:Array Oper) (W b:List Nat) (F:List (Value->World->Prop)) (g:Env) (i:World) (k:Nat) (o:Oper) (a:List Nat):Prop:=
 ∀(x:Env) (vs:Nat->Value) (w:World) (e:Env),d i w->Hn F vs w a->e=ba (aZ W x g) (vh b vs a)->
  OW P n c (λf w'=>d w w'/\o9 F k (f<|b.getD k 0) w'/\eM [b.getD k 0] e f) [o] e w
def vi (b:World->World->Prop) (P:Program) (n:Nat) (a:Array Oper) (W c:List Nat) (F:List (Value->World->Prop)) (e:Env) (f:World):Nat->List Oper->List (List Nat)->Prop
 |_,[],_=>True
 |_,_::_,[]=>True
 |k,o::l,d::r=>NH b P n a W c F e f k o d/\vi b P n a W c F e f (k+1) l r
def waits (o:Oper) (j:Nat):Bool:=o.after.toList.any λe=>Region.binds .any e&&e.on==j
def vj (l:List Oper) (m:Nat) (W b:List Nat) (a:List (List Nat)):Bool:=
 decide (m<=l.length)&&decide (b.length=m)&&decide (a.length=m)&&decide (b.Nodup)&&
 (List.range l.length).all (λk=>match l[k]? with
  |some o=>o.after.toList.all (λe=>!Region.binds .any e||decide (e.on<k))&&
   (if k<m then W.contains (b.getD k 0)&&(a.getD k []).all (λj=>waits o j&&decide (j<m)) else(List.range k).all (λj=>(List.range<|k+1).any λx=>decide (j<x)&&(match l[x]? with|some c=>waits c j|none=>false)))
  |none=>false)
theorem fz {b:World->World->Prop} {P:Program} {n:Nat} {a:Array Oper} {W c:List Nat} {F:List (Value->World->Prop)} {e:Env} {f:World} {k:Nat} {o:Oper} {l:List Oper} {d:List Nat} {r:List (List Nat)} 
  (h:NH b P n a W c F e f k o d) (g:vi b P n a W c F e f (k+1) l r):vi b P n a W c F e f k (o::l) (d::r):=⟨h,g⟩
theorem S2 {c:World->World->Prop} {W e:List Nat} {f:Env}:∀(l:List Oper) (a:List (List Nat)) (k:Nat),vi c P n ops W e F f w0 k l a->
  ∀(i:Nat) (o:Oper) (d:List Nat),l[i]?=some o->a[i]?=some d->NH c P n ops W e F f w0 (k+i) o d
 |[],_,_,_,i,o,d,b,_=>by simp at b
 |_::_,[],_,_,i,o,d,_,hd=>by simp at hd
 |o'::l,d'::r,k,h,i,o,d,b,hd=>by
  cases i with
  |zero=>simp at b hd;subst b;subst hd;exact h.1
  |succ i=>have:=S2 l r (k+1) h.2 i o d (by simpa using b) (by simpa using hd);rw[show k+1+i=k+(i+1) from by omega] at this;exact this
theorem Ho {e:Env}:∀{l:List (Nat×Value)},(∀p∈l,e p.1=p.2)->ba e l=e
 |[],_=>rfl
 |p::r,h=>by simp only[ba,Ho (e:=e) (l:=r) λq a=>h q (by simp[a])];exact wA<|h p sm
theorem abN {a:World->World->Prop} (c:∀f∈F,∀v w w',f v w->a w w'->f v w') (i:Nat) (h:o9 F i v w) (k:a w w'):o9 F i v w':=by
 unfold o9 at*;rw[gG] at*;cases b:F[i]? with
 |none=>simp
 |some f=>simp only[b,Option.getD_some] at h⊢;exact c f (List.mem_of_getElem? b) v w w' h k
section
variable {P:Program} {n:Nat} {l:List Oper} {m:Nat} {W ds:List Nat} {deps:List (List Nat)}
theorem Fj (f:vj l m W ds deps=true):m<=l.length/\ds.length=m/\deps.length=m/\ds.Nodup/\
  ∀k o,l[k]?=some o->(∀e∈o.after,Region.binds .any e=true->e.on<k)/\
   (k<m->W.contains (ds.getD k 0)=true/\∀j∈deps.getD k [],waits o j=true/\j<m)/\(m<=k->∀j,j<k->∃x b,j<x/\x<=k/\l[x]?=some b/\waits b j=true):=by
 simp only[vj,aE,dE] at f;obtain⟨⟨⟨⟨n,p⟩,q⟩,r⟩,s⟩:=f;refine⟨n,p,q,r,λk o hk=>?_⟩;have i:k<l.length:=(List.getElem?_eq_some_iff.1 hk).1;have:=List.all_eq_true.1 s k<|List.mem_range.2 i;simp only[hk,aE] at this;obtain⟨t,hb⟩:=this;refine⟨λe u y=>?_,λg=>?_,λ_ j c=>?_⟩
 .have:=List.all_eq_true.1 t e (by simpa using u);simpa[y] using this
 .rw[iP g] at hb;simp only[aE,List.all_eq_true,dE] at hb;exact⟨hb.1,λj c=>hb.2 j c⟩
 .rw[iN om] at hb;have:=List.all_eq_true.1 hb j<|List.mem_range.2 c;obtain⟨x,v,a⟩:=List.any_eq_true.1 this;rw[List.mem_range] at v;simp only[aE,dE] at a;cases d:l[x]? with
  |none=>rw[d] at a;cases a.2
  |some b=>rw[d] at a;exact⟨x,b,a.1,om,d,a.2⟩
theorem NI {o:Oper} (h:waits o j=true):∃e∈o.after,Region.binds .any e=true/\e.on=j:=by grind [waits]
def Kd (l:List Oper) (a:Array Bool):Prop:=∀j o,l[j]?=some o->a.getD j false=true->∀e∈o.after,Region.binds .any e=true->a.getD e.on false=true
theorem NJ {k:Nat} {o:Oper} {a:Array Bool} (t:Kd l a) (m:l[k]?=some o) (n:∀e∈o.after,Region.binds .any e=true->a.getD e.on false=true) 
  (p:∀j,j<k->∃x b,j<x/\x<=k/\l[x]?=some b/\waits b j=true):∀d j,j+d=k->0<d->a.getD j false=true:=by
 intro d;induction d using Nat.strongRecOn with
 |_ d r=>
  intro j _ _;obtain⟨x,b,_,_,c,i⟩:=p j om;obtain⟨e,f,hb,g⟩:=NI i;rcases Nat.lt_or_ge x k with q|q
  .have:=r (k-x) om x om om;rw[<-g];exact t x b c this e f hb
  .have s:x=k:=by omega
   subst s;rw[m] at c;cases c;rw[<-g];exact n e f hb
theorem Ke (O:vj l m W ds deps=true) {Q:Exit->Act->World->Prop}:∀(c k:Nat) (b:Array Bool) (a:Act) (w:World),m<=k->k+c=l.length->b.size=l.length->
  (∀j,j<l.length->(b.getD j true=false↔k<=j))->wpList P l.toArray Q (l.drop k) a w->wpAny P .any l.toArray Q c b a w:=by
 obtain⟨_,_,_,_,B⟩:=Fj O;intro c;induction c with
 |zero=>
  intro k b a w J hk y g h;have p:k=l.length:=by omega
  refine⟨?_,?_⟩
  .cases v:Region.ready .any l.toArray b with
   |nil=>rfl
   |cons i _=>
    have r:i∈Region.ready .any l.toArray b:=by rw[v];simp
    obtain⟨z,o,d,_⟩:=mem_ready.1 r;have A:i<l.length:=by simpa using(Array.getElem?_eq_some_iff.1 d).1
    have:=(g i A).1 z;omega
  .rw[p,List.drop_length] at h;exact h
 |succ c H=>
  intro k b a w J hk y g h;have p:k<l.length:=by omega
  obtain⟨o,d⟩:∃o,l[k]?=some o:=⟨l[k],gE p⟩;have C:∀j,j<k->b.getD j false=true:=λj n=>by
   have u:¬b.getD j true=false:=λS=>by have:=(g j om).1 S;omega
   rw[Array.getD_eq_getD_getElem?] at u⊢;have:j<b.size:=by omega
   rw[Array.getElem?_eq_getElem this] at u⊢;simpa using u
  have E:k∈Region.ready .any l.toArray b:=mem_ready.2 ⟨(g k p).2<|lR _,o,by simpa using d,λe q hb=>C _<|(B k o d).1 e q hb⟩;have t:∀i,i∈Region.ready .any l.toArray b->i=k:=λi r=>by
   obtain⟨z,Y,s,M⟩:=mem_ready.1 r;have A:i<l.length:=by simpa using(Array.getElem?_eq_some_iff.1 s).1
   have U:=(g i A).1 z;rcases Nat.eq_or_lt_of_le U with q|_
   .exact q.symm
   .have X:Kd l b:=λj o d n e q hb=>by
     have T:j<k:=by
      rcases Nat.lt_or_ge j k with h|h
      .exact h
      .have Z:=(List.getElem?_eq_some_iff.1 d).1;have f:=(g j Z).2 h;rw[Array.getD_eq_getD_getElem?,Array.getElem?_eq_getElem om] at n f;simp at n f;rw[f] at n;cases n
     have:=(B j o d).1 e q hb;exact C _ om
    have:=NJ X (by simpa using s) M ((B i Y<|by simpa using s).2.2 om) (i-k) k om om;have f:=(g k p).2<|lR _;rw[Array.getD_eq_getD_getElem?] at this f;have K:k<b.size:=by omega
    rw[Array.getElem?_eq_getElem K] at this f;simp at this f;rw[f] at this;cases this
  refine⟨λv=>(by rw[v] at E;cases E),λi r=>?_⟩;have:=t i r;subst this;have R:l.drop i=o::l.drop (i+1):=by
   rw[List.drop_eq_getElem_cons p]
   congr 1
   exact(List.getElem?_eq_some_iff.1 d).2
  rw[R] at h;have D:∀j,j<l.length->((b.setIfInBounds i true).getD j true=false↔i+1<=j):=λj n=>by
   by_cases I:i=j
   .subst I;have:i<b.size:=by omega
    simp[Array.getD_eq_getD_getElem?,this]
   .rw[getD_set_ne true I,g j n];omega
  unfold wpOp;have V:l.toArray[i]?=some o:=by simpa using d
  simp only[V];unfold wpList at h;by_cases F:Region.wanted o (yielded l.toArray a.tmps)=true
  .rw[iP F] at h⊢;exact h.imp (λh=>Oper.wp_mono (λL w' N=>H (i+1) _ L w' om om (by simpa using y) D N) h) id
  .rw[iN F] at h⊢;exact H (i+1) _ _ w om om (by simpa using y) D h
theorem abP {K:World->World->Prop} (zv:Kept K) {N:Env->World->Prop} {e0:Env} {w0:World} (hB:vj l m W ds deps=true) (hF:∀f∈F,∀v w w',f v w->K w w'->f v w') 
  (hc:vi K P n l.toArray W ds F e0 w0 0 (l.take m) deps)
  (C:∀(x:Env) (vs:Nat->Value) (w:World),K w0 w->(∀i,i<m->o9 F i (vs i) w)->OW P n l.toArray N (l.drop m) (ba (aZ W x e0) (vh ds vs (List.range m))) w) (Q:Exit->Act->World->Prop):
  ∀(c:Nat) (b:Array Bool) (e:Env) (a:Act) (w:World),Fits n e a->K w0 w->eM W e0 e->b.size=l.length->
   ((List.range l.length).filter λj=>!b.getD j true).length=c->
   (∀j,m<=j->j<l.length->b.getD j true=false)->(∀j,j<m->b.getD j true=true->o9 F j (e<|ds.getD j 0) w)->Kd l b->
   wpAny P .any l.toArray (ql n N Q) c b a w:=by
 obtain⟨Fk,_,_,jw,nu⟩:=Fj hB;have A9:∀(b:Array Bool) (j:Nat),b.size=l.length->j<l.length->¬b.getD j true=false->b.getD j false=true:=λb j z g u=>by rw[Array.getD_eq_getD_getElem?] at u⊢;rw[Array.getElem?_eq_getElem om] at u⊢;simpa using u
 have Hp:∀(b:Array Bool) (j:Nat),b.size=l.length->j<l.length->b.getD j false=true->b.getD j true=true:=λb j z g u=>by rw[Array.getD_eq_getD_getElem?] at u⊢;rw[Array.getElem?_eq_getElem om] at u⊢;simpa using u
 intro c;induction c with
 |zero=>
  intro b e a w Z hk O z Da Y T nq;have D:∀j,j<l.length->b.getD j true=true:=λj g=>by
   cases hg:b.getD j true with
   |true=>rfl
   |false=>
    have:j∈(List.range l.length).filter λj=>!b.getD j true:=by rw[List.mem_filter,List.mem_range];exact⟨g,by rw[hg];rfl⟩
    rw[List.length_eq_zero_iff.1 Da] at this;cases this
  have hm:m=l.length:=by
   rcases Nat.lt_or_ge m l.length with h|h
   .have:=Y m (lR _) h;rw[D m h] at this;cases this
   .omega
  have A:=C e (λi=>e<|ds.getD i 0) w hk λi L=>T i L<|D i om;rw[zu O,Ho (by
   intro p R;have:∀(r:List Nat),p∈vh ds (λi=>e<|ds.getD i 0) r->e p.1=p.2:=by
    intro r;induction r with
    |nil=>intro h;cases h
    |cons j r I=>
     intro h;rcases mC.1 h with h|h
     .subst h;rfl
     .exact I h
   exact this _ R)] at A
  have q:=A a Z Q;exact Ke hB 0 m b a w (lR _) om z (λj g=>⟨λh=>(by rw[D j g] at h;cases h),λh=>om⟩) q
 |succ c I=>
  intro b e a w Z hk O z Da Y T nq;by_cases V:∀j,j<m->b.getD j true=true
  .have A:=C e (λi=>e<|ds.getD i 0) w hk λi L=>T i L<|V i L;rw[zu O,Ho (by
    intro p R;have:∀(r:List Nat),p∈vh ds (λi=>e<|ds.getD i 0) r->e p.1=p.2:=by
     intro r;induction r with
     |nil=>intro h;cases h
     |cons j r I=>
      intro h;rcases mC.1 h with h|h
      .subst h;rfl
      .exact I h
    exact this _ R)] at A
   have q:=A a Z Q;have Bb:∀j,j<l.length->(b.getD j true=false↔m<=j):=λj g=>by
    constructor
    .intro h;rcases Nat.lt_or_ge j m with s|s
     .rw[V j s] at h;cases h
     .exact s
    .intro h;exact Y j h g
   have Bc:m+(c+1)=l.length:=by
    rw[<-Da];have:∀k,k<=l.length->m<=k->((List.range k).filter λj=>!b.getD j true).length=k-m:=by
     intro k;induction k with
     |zero=>intro _ h;simp
     |succ k y=>
      intro gY _;rw[List.range_succ,List.filter_append,lA];rcases Nat.lt_or_ge k m with s|s
      .have S4:k+1=m:=by omega
       have hz:((List.range k).filter λj=>!b.getD j true)=[]:=by rw[List.filter_eq_nil_iff];intro j g;rw[List.mem_range] at g;rw[V j om];simp
       have E:(!b.getD k true)=false:=by rw[V k s];rfl
       simp only[hz,List.filter_cons,E,List.filter_nil,List.length_nil];simp;omega
      .rw[y om s];have E:(!b.getD k true)=true:=by rw[(Bb k om).2 s];rfl
       simp only[List.filter_cons,E,List.filter_nil,if_true,lC,List.length_nil];omega
    have:=this l.length (lR _) Fk;omega
   exact Ke hB (c+1) m b a w (lR _) Bc z Bb q
  .have hex:∃j,j<m/\b.getD j true=false/\∀i,i<j->b.getD i true=true:=by
    have:∀k,(∃j,j<k/\b.getD j true=false/\∀i,i<j->b.getD i true=true)\/∀j,j<k->b.getD j true=true:=by
     intro k;induction k with
     |zero=>right;intro j g;omega
     |succ k y=>
      rcases y with⟨j,g,u,q⟩|h
      .exact .inl ⟨j,om,u,q⟩
      .cases hg:b.getD k true with
       |false=>exact .inl ⟨k,om,hg,h⟩
       |true=>
        right;intro j g;rcases Nat.lt_or_ge j k with s|s
        .exact h j s
        .rw[show j=k from by omega];exact hg
    rcases this m with h|h
    .exact h
    .exact absurd h V
   obtain⟨J,_,Hr,Hs⟩:=hex;obtain⟨o0,Ht⟩:∃o,l[J]?=some o:=⟨l[J]'om,gE om⟩;have pP:J∈Region.ready .any l.toArray b:=mem_ready.2 ⟨Hr,o0,by simpa using Ht,λed H hb=>by have eF:=(nu J o0 Ht).1 ed H hb;exact A9 b _ z om (by rw[Hs _ eF];simp)⟩;refine⟨λhr=>(by rw[hr] at pP;cases pP),λi L=>?_⟩;obtain⟨hu,o,ho,D⟩:=mem_ready.1 L;have jo:i<l.length:=by simpa using(Array.getElem?_eq_some_iff.1 ho).1
   have U:l[i]?=some o:=by simpa using ho
   have rY:i<m:=by
    rcases Nat.lt_or_ge i m with h|h
    .exact h
    .have:=Hp b J z om<|NJ nq U D ((nu i o U).2.2 h) (i-J) J om om;rw[Hr] at this;cases this
   obtain⟨hW,Bd⟩:=(nu i o U).2.1 rY;obtain⟨dp,Be⟩:∃d,deps[i]?=some d:=⟨deps[i]'om,gE om⟩;have Db:deps.getD i []=dp:=by rw[gG,Be];rfl
   rw[Db] at Bd;have jz:=S2 (l.take m) deps 0 hc i o dp (by rw[List.getElem?_take,iP rY];exact U) Be;rw[Nat.zero_add] at jz;have u:=jz e (λj=>e<|ds.getD j 0) w _ hk (abM λj g=>by obtain⟨hwj,Dc⟩:=Bd j g;obtain⟨ed,H,hb,wI⟩:=NI hwj;exact T j Dc<|Hp b j z om (by rw[<-wI];exact D ed H hb)) rfl;rw[zu O,Ho (by
    intro p R;have:∀(r:List Nat),p∈vh ds (λi=>e<|ds.getD i 0) r->e p.1=p.2:=by
     intro r;induction r with
     |nil=>intro h;cases h
     |cons j r I=>
      intro h;rcases mC.1 h with h|h
      .subst h;rfl
      .exact I h
    exact this _ R)] at u
   have q:=u a Z Q;have next:∀(B:Act) (w':World),ql n (λX w'=>K w w'/\o9 F i (X<|ds.getD i 0) w'/\eM [ds.getD i 0] e X) Q .normal B w'->
     wpAny P .any l.toArray (ql n N Q) c (b.setIfInBounds i true) B w':=λB w' S=>by
    obtain⟨X,NM,qt,Hu,rh⟩:=S;refine I _ X B w' NM (zv.trans hk qt) ?_ (by simpa using z) ?_ ?_ ?_ ?_
    .intro t A;have dD:t≠ds.getD i 0:=λH=>by rw[H,hW] at A;cases A
     rw[rh t (by simpa using dD)];exact O t A
    .have Bc:∀k,k<=l.length->((List.range k).filter λj=>!(b.setIfInBounds i true).getD j true).length+(if i<k then 1 else 0)=((List.range k).filter λj=>!b.getD j true).length:=by
      intro k;induction k with
      |zero=>simp
      |succ k y=>
       intro gY;have tT:=y om;rw[List.range_succ,List.filter_append,lA,List.filter_append,lA];by_cases wJ:i=k
       .subst wJ;rw[iN om] at tT;have eF:i<b.size:=by omega
        have E:(b.setIfInBounds i true).getD i true=true:=by simp[Array.getD_eq_getD_getElem?,eF]
        rw[iP om];simp only[List.filter_cons,E,hu,List.filter_nil,Bool.not_true,Bool.not_false,if_true,Bool.false_eq_true,if_false,lC,List.length_nil];omega
       .have E:(b.setIfInBounds i true).getD k true=b.getD k true:=getD_set_ne true wJ;simp only[List.filter_cons,E,List.filter_nil];have hii:(i<k+1)↔(i<k):=by omega
        by_cases qm:i<k
        .have c1:i<k+1:=by omega
         rw[iP qm] at tT;rw[iP c1];split<;>simp only[lC,List.length_nil]<;>omega
        .have c1:¬i<k+1:=by omega
         rw[iN qm] at tT;rw[iN c1];split<;>simp only[lC,List.length_nil]<;>omega
     have:=Bc l.length<|lR _;rw[iP jo] at this;omega
    .intro j NN qo;rw[getD_set_ne true om];exact Y j NN qo
    .intro j Dc g;by_cases M:i=j
     .subst M;exact Hu
     .rw[getD_set_ne true M] at g;have dD:ds.getD j 0≠ds.getD i 0:=by
       rw[gG,gG,gE om,gE om];simp only[Option.getD_some];intro H;exact M ((List.getElem_inj jw).1 H.symm)
      rw[rh _ (by simpa using dD)];exact abN hF j (T j Dc g) qt
    .intro j oj Dd g e2 lz aP;have xQ:∀x,b.getD x false=true->(b.setIfInBounds i true).getD x false=true:=λx hx=>by
      by_cases Hv:i=x
      .subst Hv;have:i<b.size:=by omega
       simp[Array.getD_eq_getD_getElem?,this]
      .rw[getD_set_ne false Hv];exact hx
     by_cases M:i=j
     .subst M;rw[U] at Dd;cases Dd;exact xQ _<|D e2 lz aP
     .rw[getD_set_ne false M] at g;exact xQ _<|nq j oj Dd g e2 lz aP
   unfold wpOp;simp only[ho];unfold wpList at q;by_cases hw:Region.wanted o (yielded l.toArray a.tmps)=true
   .rw[iP hw] at q⊢;rcases q with q|⟨q,h3⟩
    .refine .inl<|Oper.NC (λB w' s=>next B w' s) (λ_ _ _ h=>h) (fun⟨a,w,S⟩=>⟨a,w,S⟩) q
    .exact .inr ⟨q,by obtain⟨B,w',S⟩:=h3;exact⟨B,w',S⟩⟩
   .rw[iN hw] at q⊢;exact next _ _ q
theorem S5 {N R:Env->World->Prop} {X:Nat->Env->World->Prop} {id:Nat} {e0:Env} {w0:World} (z:P.follows .mixedOrders=true) {d:World->World->Prop} (f:Kept d) (m:Nat) (W g:List Nat) (b:List (List Nat)) (F:List (Value->World->Prop)) 
  (r:vj l m W g b=true) (u:rf d F)
  (y:∀s,d w0 s->vi d P n l.toArray W g F e0 s 0 (l.take m) b)
  (e:∀(x:Env) (vs:Nat->Value) (w:World),d w0 w->(∀i,i<m->o9 F i (vs i) w)->OW P n l.toArray N (l.drop m) (ba (aZ W x e0) (vh g vs (List.range m))) w):
  CW P n (.region id l.toArray true) N R X e0 w0:=λa v=>by
 refine wp_region_any z ?_;have q:ak [] w0 {w0 with drawn:=w0.drawn+1}:=ak.drew _ _;have:=abP f (N:=N) (e0:=e0) (w0:={w0 with drawn:=w0.drawn+1}) r (S1 u) (y _<|f.of q) (λx vs w hk=>e x vs w<|f.trans (f.of q) hk) (l0 n N R X) l.length (Array.replicate l.length false) e0 a _ v (f.refl _) zt sm
  (by
   have:((List.range l.length).filter λj=>!(Array.replicate l.length false).getD j true)=List.range l.length:=by rw[List.filter_eq_self];intro j c;rw[List.mem_range] at c;simp[Array.getD_eq_getD_getElem?,c]
   rw[this];simp)
  (by intro j _ c;simp[Array.getD_eq_getD_getElem?,c])
  (by
   intro j c h;have:=(Fj r).1;have p:j<l.length:=by omega
   simp[Array.getD_eq_getD_getElem?,p] at h)
  (by intro j o A c;have p:j<l.length:=(List.getElem?_eq_some_iff.1 A).1;simp[Array.getD_eq_getD_getElem?,p] at c)
 have t:ql n N (l0 n N R X)=l0 n N R X:=by funext x a w;cases x<;>rfl
 rw[t] at this;simpa using this
end
abbrev aj:=List UInt8
inductive aq where
 |mk (au:aj) (ag:List aq)
def aq.au:aq->aj| .mk a _=>a
def aq.ag:aq->List aq| .mk _ p=>p
def fj (c:UInt8):Bool:=(97<=c&&c<=122)||(48<=c&&c<=57)||c==43||c==45||c==42||c==62
theorem S6 (c:UInt8):((((((decide ((97:Int)<=c.toNat)&&decide ((c.toNat:Int)<=122))||(decide ((48:Int)<=c.toNat)&&decide ((c.toNat:Int)<=57)))||decide ((c.toNat:Int)=43))||decide ((c.toNat:Int)=45))||decide ((c.toNat:Int)=42))||decide ((c.toNat:Int)=62))=fj c:=by
 have b:∀k:UInt8,decide (k<=c)=decide ((k.toNat:Int)<=c.toNat):=λk=>by simp[UInt8.le_iff_toNat_le]
 have d:∀k:UInt8,decide (c<=k)=decide ((c.toNat:Int)<=k.toNat):=λk=>by simp[UInt8.le_iff_toNat_le]
 have a:∀k:UInt8,(c==k)=decide ((c.toNat:Int)=k.toNat):=λk=>by rw[Bool.eq_iff_iff];simp[<-UInt8.toNat_inj];omega
 unfold fj;rw[b,d,b,d,a,a,a,a];rfl
def ji (rd:aj->Option (aq×aj)):Nat->aj->Option (List aq×aj)
 |0,_=>none
 |n+1,s=>match rd s with
  |none=>none
  |some (t,r)=>match r with
   |[]=>none
   |c::r'=>if c=41 then some ([t],r') else if c=32 then(ji rd n r').map λp=>(t::p.1,p.2) else none
def eW:Nat->aj->Option (aq×aj)
 |0,s=>match s with
  |[]=>none
  |c::_=>if c=40 then none else if s.takeWhile fj=[] then none else some (.mk (s.takeWhile fj) [],s.dropWhile fj)
 |d+1,s=>match s with
  |[]=>none
  |c::r=>if c=40 then(ji (eW d) (r.length+1) r).map λp=>(.mk [] p.1,p.2)
   else if s.takeWhile fj=[] then none else some (.mk (s.takeWhile fj) [],s.dropWhile fj)
def Kf (rd:aj->Option (aq×aj)):Prop:=∀s t r,rd s=some (t,r)->∃k,0<k/\k<=s.length/\r=s.drop k
theorem Hw (p:UInt8->Bool):∀s:aj,s.dropWhile p=s.drop (s.takeWhile p).length:=by intro x;induction x<;>grind [List.dropWhile,List.takeWhile]
theorem Hx (p:UInt8->Bool) (s:aj):(s.takeWhile p).length<=s.length:=by induction s<;>grind [List.takeWhile]
theorem S7 {rd:aj->Option (aq×aj)} (m:Kf rd):∀n s j r,ji rd n s=some (j,r)->∃k,0<k/\k<=s.length/\r=s.drop k/\j.length<=k
 |0,_,_,_,h=>by simp[ji] at h
 |n+1,s,j,r,h=>by
  unfold ji at h;cases e:rd s with
  |none=>simp[e] at h
  |some p=>
   obtain⟨t,v⟩:=p;obtain⟨k,_,_,rfl⟩:=m s t v e;simp only[e] at h;cases a:s.drop k with
   |nil=>simp[a] at h
   |cons c f=>
    simp only[a] at h;have i:f=s.drop (k+1):=by rw[<-List.drop_drop,a];rfl
    have b:k+1<=s.length:=by have:=congrArg List.length a;simp at this;omega
    by_cases o:c=41
    .rw[iP o] at h;simp at h;exact⟨k+1,om,b,by rw[<-h.2,i],by rw[<-h.1];simp⟩
    .rw[iN o] at h;by_cases u:c=32
     .rw[iP u] at h;cases d:ji rd n f with
      |none=>simp[d] at h
      |some q=>
       obtain⟨l,g⟩:=q;simp[d] at h;obtain⟨k',_,_,y,_⟩:=S7 m n f l g d;refine⟨k+1+k',om,?_,?_,?_⟩
       .have:=congrArg List.length i;simp at this;omega
       .rw[<-h.2,y,i,List.drop_drop]
       .rw[<-h.1];simp;omega
     .rw[iN u] at h;cases h
theorem Kg:∀d,Kf (eW d)
 |0,s,t,r,h=>by
  cases s with
  |nil=>simp[eW] at h
  |cons c s=>
   simp only[eW] at h;by_cases b:c=40
   .rw[iP b] at h;cases h
   .rw[iN b] at h;by_cases a:(c::s).takeWhile fj=[]
    .rw[iP a] at h;cases h
    .rw[iN a] at h;simp only[Option.some.injEq,Prod.mk.injEq] at h;refine⟨((c::s).takeWhile fj).length,?_,Hx _ _,by rw[<-h.2,Hw]⟩;exact List.length_pos_iff.2 a
 |d+1,s,t,r,h=>by
  cases s with
  |nil=>simp[eW] at h
  |cons c s=>
   simp only[eW] at h;by_cases b:c=40
   .rw[iP b] at h;cases e:ji (eW d) (s.length+1) s with
    |none=>simp[e] at h
    |some q=>obtain⟨g,f⟩:=q;simp[e] at h;obtain⟨k',_,_,i,_⟩:=S7 (Kg d) _ s g f e;exact⟨k'+1,om,by simp;omega,by rw[<-h.2,i];rfl⟩
   .rw[iN b] at h;by_cases a:(c::s).takeWhile fj=[]
    .rw[iP a] at h;cases h
    .rw[iN a] at h;simp only[Option.some.injEq,Prod.mk.injEq] at h;refine⟨((c::s).takeWhile fj).length,?_,Hx _ _,by rw[<-h.2,Hw]⟩;exact List.length_pos_iff.2 a
theorem S8 {rd:aj->Option (aq×aj)} (a:Kf rd):∀n m s,s.length<n->s.length<m->ji rd n s=ji rd m s
 |0,_,_,h,_=>by omega
 |_+1,0,_,_,h=>by omega
 |n+1,m+1,s,_,_=>by
  unfold ji;cases e:rd s with
  |none=>rfl
  |some p=>
   obtain⟨t,f⟩:=p;obtain⟨k,_,_,rfl⟩:=a s t f e;simp only;cases d:s.drop k with
   |nil=>rfl
   |cons c b=>
    simp only;have g:b.length+1+k=s.length:=by have:=congrArg List.length d;simp at this;omega
    rw[S8 a n m b om om]
def rT (d:Nat) (s:aj):Option (aq×aj):=match d with
 |0=>none
 |d+1=>eW d s
theorem NO:∀d,Kf (rT d)
 |0=>λs t r h=>by simp[rT] at h
 |d+1=>Kg d
def nW (d:Nat) (s:aj):Option (List aq×aj):=ji (rT d) (s.length+1) s
theorem Hy (d:Nat) (s:aj):nW d s=match rT d s with
  |none=>none
  |some (t,r)=>match r with
   |[]=>none
   |c::a=>if c=41 then some ([t],a) else if c=32 then(nW d a).map λp=>(t::p.1,p.2) else none:=by
 unfold nW
 conv=>lhs;unfold ji
 cases e:rT d s with
 |none=>rfl
 |some p=>
  obtain⟨t,f⟩:=p;obtain⟨k,_,_,rfl⟩:=NO d s t f e;simp only;cases b:s.drop k with
  |nil=>rfl
  |cons c a=>
   simp only;have g:a.length+1+k=s.length:=by have:=congrArg List.length b;simp at this;omega
   rw[S8 (NO d) s.length (a.length+1) a om om]
theorem abV:∀n s,ji (rT 0) n s=none
 |0,_=>rfl
 |n+1,s=>by simp[ji,rT]
theorem Fm (d:Nat) (r:aj):eW d (40::r)=(nW d r).map λp=>(.mk [] p.1,p.2):=by
 cases d with
 |zero=>simp[eW,nW,abV]
 |succ d=>simp[eW,nW];rfl
theorem Hz (d:Nat) (c:UInt8) (r:aj) (h:c≠40):eW d (c::r)=if(c::r).takeWhile fj=[] then none else some (.mk ((c::r).takeWhile fj) [],(c::r).dropWhile fj):=by cases d<;>simp[eW,h]
theorem S9 (d:Nat):eW d []=none:=by cases d<;>rfl
theorem drop_cons {a:Type} {s:List a} {c:a} (h:s[i]?=some c):s.drop i=c::s.drop (i+1):=by grind [List.getElem?_eq_some_iff,List.drop_eq_getElem_cons]
theorem Ta (p:UInt8->Bool):∀(s:aj) (k:Nat),k<=(s.takeWhile p).length->(k<(s.takeWhile p).length↔k<s.length/\p (s.getD k 0)=true):=by intro x;induction x<;>grind [List.takeWhile,lC,List.getD_cons_succ]
theorem jH {s:aj} {k:Nat} (h:k<s.length):s[k]?=some (s.getD k 0):=by grind
theorem Kh (p:UInt8->Bool) (s:aj):s.take (s.takeWhile p).length=s.takeWhile p:=by induction s<;>grind [List.takeWhile]
theorem abW (s:aj) (i k:Nat):(s.drop i).getD k 0=s.getD (i+k) 0:=by grind
theorem abX (s:aj) {k:Nat} (a:i<=k) (h:k-i<=((s.drop i).takeWhile fj).length):k-i<((s.drop i).takeWhile fj).length↔k<s.length/\fj (s.getD k 0)=true:=by grind [Ta,abW]
def De (n:Nat) (o:Option (aq×aj)) (t:aq) (a:Int):Prop:=match o with
 |some (b,r)=>t=b/\a=((n-r.length:Nat):Int)
 |none=>a= -1
theorem abY {s:aj} {k:Nat} {t:aq} {a:Int} (c:De s.length (rT d<|s.drop k) t a) (b:a<0\/(s.length:Int)<=a) (e:0<s.length):nW d (s.drop k)=none:=by grind [Hy,De,rT]
theorem abZ {s:aj} {k:Nat} {t:aq} {a:Int} (b:De s.length (rT d<|s.drop k) t a) (i:0<=a) (l:a<s.length):
  ∃m:Nat,a=m/\k<m/\m<s.length/\nW d (s.drop k)=(if s.getD m 0=41 then some ([t],s.drop<|m+1) else if s.getD m 0=32 then(nW d (s.drop<|m+1)).map λp=>(t::p.1,p.2) else none):=by
 rw[Hy];unfold De at b;cases c:rT d (s.drop k) with
 |none=>rw[c] at b;omega
 |some p=>
  obtain⟨_,r⟩:=p;rw[c] at b;obtain⟨rfl,f⟩:=b;obtain⟨j,_,g,rfl⟩:=NO d _ _ _ c;rw[List.length_drop] at g;rw[List.drop_drop,List.length_drop] at f;have e:k+j<s.length:=by omega
  refine⟨k+j,om,om,e,?_⟩;simp only[List.drop_drop];rw[drop_cons (jH e)]
theorem map_append {o:Option (List aq×aj)} {a:List aq} {t:aq}:(o.map λp=>(t::p.1,p.2)).map (λp=>(a++p.1,p.2))=o.map λp=>((a++[t])++p.1,p.2):=by cases o<;>simp
def bS (s:aj):Option aq:=
 if 12000<s.length then none else match eW 60 s with
  |some (t,[])=>some t
  |_=>none
theorem ab0 {s:aj} {t:aq} {j:Int} (l:s.length<=12000) (a:De s.length (rT 61<|s.drop 0) t j):decide (j=(s.length:Int))=(bS s).isSome/\∀b,bS s=some b->t=b:=by
 have e:rT 61 (s.drop 0)=eW 60 s:=rfl;rw[e] at a;unfold De at a;unfold bS;rw[iN om];cases g:eW 60 s with
 |none=>rw[g] at a;refine⟨?_,λb h=>by cases h⟩;simp only[Option.isSome_none,decide_eq_false_iff_not];simp only at a;omega
 |some p=>
  obtain⟨b,r⟩:=p;rw[g] at a;obtain⟨rfl,f⟩:=a;obtain⟨k,_,_,i⟩:=Kg 60 s _ _ g;cases r with
  |nil=>refine⟨?_,λb h=>by simpa using h⟩;simp at f⊢;exact f
  |cons c _=>refine⟨?_,λb h=>by cases h⟩;have d:=congrArg List.length i;simp only[lC,List.length_drop] at d f;simp only[Option.isSome_none,decide_eq_false_iff_not];omega
mutual
def aq.text:aq->aj
 | .mk a b=>if a=[] then 40::(lO b++[41]) else a
def lO:List aq->aj
 |[]=>[]
 |t::ts=>match ts with
  |[]=>t.text
  |_::_=>t.text++32::lO ts
end
mutual
def aq.enc:aq->List C
 | .mk a b=>[.val<|str a,.sl 2 (di b)]
def di:List aq->List (List C)
 |[]=>[]
 |t::ts=>t.enc::di ts
end
theorem zw:∀a,di a=a.map aq.enc:=by intro x;induction x<;>grind [di]
theorem iz (a:List aq):(di a).length=a.length:=by simp[zw]
theorem pQ:∀t:aq,t.enc.length=2
 | .mk _ _=>by simp[aq.enc]
theorem Tb (a:List aq):∀row,row∈di a->row.length=2:=by grind [zw,pQ]
theorem NP (a b:List aq):di (a++b)=di a++di b:=by simp[zw]
theorem Ki {a:List aq} {t:aq} (h:a[i]?=some t):(di a)[i]?=some t.enc:=by grind [zw]
theorem Kj (a:List aq) (i:Nat):di (a.drop i)=(di a).drop i:=by simp[zw,List.map_drop]
def bg (L:List Nat) (w:World) (v:Value) (t:aq):Prop:=iZ L w v t.enc
theorem bg.ext {t:aq} (h:bg L w v t) (k:ak [] w w'):bg L w' v t:=iZ.ext h k
def cY (L:List Nat) (w:World) (v:Value) (a:List aq):Prop:=cg L w v (.sl 2<|di a)
theorem cY.ext {t:List aq} (h:cY L w v t) (k:ak [] w w'):cY L w' v t:=cg.ext h k
theorem db {t:aq} (h:bg L w v t):∃a n c,v= .agg #[str t.au,.slice a n c]/\n=t.ag.length/\cY L w (.slice a n c) t.ag:=by
 obtain⟨vs,rfl,b⟩:=h;cases t with
 |mk at_ f=>
  rw[aq.enc] at b
  match vs,b with
  |[_,_],b=>obtain⟨e,d,_⟩:=b;cases e;obtain⟨a,c,rfl,_⟩:=sO d;exact⟨a,_,c,rfl,iz f,d⟩
  |[],b=>exact b.elim
  |[_],b=>exact b.2.elim
  |_::_::_::_,b=>exact b.2.2.elim
theorem jI {a:aj} {ps:List aq} (h:cY L w v ps):bg L w (.agg #[str a,v]) (.mk a ps):=
 ⟨[str a,v],rfl,by rw[aq.enc];exact⟨.val _,h,trivial⟩⟩
theorem kI {t:aq} (h:cY L w v t.ag):bg L w (.agg #[str t.au,v]) t:=by cases t;exact jI h
theorem lB:cY L w (.slice none 0 0) []:=by unfold cY;rw[di];exact .nil _ _ _
theorem ik {a:Option Addr} {c:Nat} {g:List aq} {t:aq} (h:cY L w (.slice a n c) g) (o:g[i]?=some t):
  ∃b off e d f,a=some ⟨b,off,none⟩/\fP w b (off+i*2) [str t.au,.slice e d f]/\d=t.ag.length/\cY L w (.slice e d f) t.ag:=by
 obtain⟨b,off,vs,j,hb,_,_,l,r⟩:=zh h<|Ki o;obtain⟨e,d,f,m,p,q⟩:=db (t:=t) ⟨vs,rfl,r⟩;have s:vs=[str t.au,.slice e d f]:=by have:=congrArg (λv=>match v with|Value.agg x=>x.toList|_=>[]) m;simpa using this
 subst s;exact⟨b,off,e,d,f,j,l,p,q⟩
theorem aJ.aB {a:Array Value} {T:TypeId} (h:aJ w b a T) (k:ak L w w') (hb:b∉L):aJ w' b a T:=h.aG k hb
theorem cg.aB {c:C} (h:cg L w v c) (k:ak L' w w') (a:∀x∈L',x∈L):cg L w' v c:=h.aG<|k.mono a
theorem bg.aB {t:aq} (h:bg L w v t) (k:ak L' w w') (a:∀x∈L',x∈L):bg L w' v t:=iZ.aG h<|k.mono a
theorem cY.aB {t:List aq} (h:cY L w v t) (k:ak L' w w') (a:∀x∈L',x∈L):cY L w' v t:=cg.aG h<|k.mono a
theorem iL.aB {T:TypeId} {rows:List (List C)} (h:iL L w T sz v g rows xs) (k:ak L' w w') (a:∀x∈L',x∈L):iL L w' T sz v g rows xs:=h.aG k a
theorem ak.aB (h:ak L w0 w) (k:ak L' w w') (a:∀x∈L',x∈L\/w0.heap.size<=x):ak L w0 w':=h.since k a
theorem tU:∀x∈w.heap.size::L,x∈L\/w.heap.size<=x:=by grind
theorem aJ.grow {a:Array Value} {T:TypeId} (h:aJ w b a T):aJ w b a T:=h
theorem ak.grow (h:ak L w w'):ak L w w':=h
theorem bg.grow {t:aq} (h:bg L w v t):bg (w.heap.size::L) w v t:=iZ.fresh h tU
theorem cY.grow {t:List aq} (h:cY L w v t):cY (w.heap.size::L) w v t:=cg.fresh h tU
theorem iL.grow {T:TypeId} {rows:List (List C)} (h:iL L w T sz v g rows xs):iL (w.heap.size::L) w T sz v g rows xs:=h.more tU
theorem iL.alloc {T:TypeId} {rows:List (List C)} (h:iL L w T sz v g rows xs) (k:ak [] w w') (_:w'.heap.size=w.heap.size+1):iL (w.heap.size::L) w' T sz v g rows xs:=h.grow.ext k
theorem bg.lj {x y:Value} {t:aq} (h:bg L w (.agg #[x,y]) t):dz L w [x,y] t.enc:=by
 obtain⟨vs,a,b⟩:=h;have c:vs=[x,y]:=by have:=congrArg (λv=>match v with|Value.agg x=>x.toList|_=>[]) a;simpa using this.symm
 rw[<-c];exact b
theorem Tc {A B:List Nat}:∀x∈A++(b::B),x∈b::(A++B):=by grind
section
variable {P:Program} {n:Nat} {ops:Array Oper} {K:Env->World->Prop} {rest:List Oper} {e:Env} {w w':World}
 {dst:Option Nat} {ty:TypeId} {pos:String} {after:Array Edge} {g:Option (Nat×Bool)} {T:TypeId} {x y:Operand}
theorem ab2 {a:List Value} {U:TypeId} (l:TI P T 1 bytes z) (d:gate ops e g=true) (i:ev e x= .pointer (some ⟨b,o,none⟩)) (j:ev e y=v) 
  (c:v.oneCell'=true) (hb:aJ w b a.toArray U) (f:Nat.blt o a.length=true)
  (k:∀w',ak [b] w w'->aJ w' b (a.set o v).toArray U->w'.heap.size=w.heap.size->OW P n ops K rest e w'):OW P n ops K (⟨none,.store T x y,ty,pos,after,g⟩::rest) e w:=by grind [J8,Nat.blt_eq]
theorem gZ {U:TypeId} (j:TI P T 1 bytes z) (f:ev e x= .pointer (some ⟨b,o,none⟩)) (i:ev e y=v) (a:v.oneCell'=true) (hb:aJ w b vs.toArray U) (d:Nat.blt o vs.length=true) (k:∀w',ak [b] w w'->aJ w' b (vs.set o v).toArray U->w'.heap.size=w.heap.size->OW P n ops K rest e w') (c:gate ops e g=true:=by rfl):OW P n ops K (⟨none,.store T x y,ty,pos,after,g⟩::rest) e w:=ab2 j c f i a hb d k
theorem ab3 {b:Nat} {a c:List Value} {U:TypeId} (o:TI P T sz bytes z) (i:gate ops e g=true) 
  (l:ev e x= .pointer (some ⟨b,0,none⟩)) (m:ev e y= .agg a.toArray) (j:Nat.beq a.length sz=true) (f:a.all Value.oneCell'=true) (hb:aJ w b c.toArray U) (d:Nat.beq c.length sz=true)
  (k:∀w',ak [b] w w'->aJ w' b a.toArray U->w'.heap.size=w.heap.size->OW P n ops K rest e w'):OW P n ops K (⟨none,.store T x y,ty,pos,after,g⟩::rest) e w:=by grind [abB,Nat.eq_of_beq_eq_true,List.all_eq_true]
theorem cI {a:List Value} {U:TypeId} (m:TI P T sz bytes z) (j:ev e x= .pointer (some ⟨b,0,none⟩)) (l:ev e y= .agg vs.toArray) (d:vs.all Value.oneCell'=true) (hb:aJ w b a.toArray U) (c:Nat.beq a.length sz=true) (k:∀w',ak [b] w w'->aJ w' b vs.toArray U->w'.heap.size=w.heap.size->OW P n ops K rest e w') (f:gate ops e g=true:=by rfl) (i:Nat.beq vs.length sz=true:=by rfl):OW P n ops K (⟨none,.store T x y,ty,pos,after,g⟩::rest) e w:=ab3 m f j l i d hb c k
theorem ab4 {vs:List Value} {v:Value} (n:P.underlying T=some (.slice E)) (g:TI P E sz bytes z) (l:z.cells.size=sz) (t:0<sz) (s:sz<=16777216) 
  (q:v.cells=vs.toArray) (j:vs.length=sz):(Instr.buildSlice T 1 #[(0,v)]).run P w= .ok (.slice (some ⟨w.heap.size,0,none⟩) 1 1) (w.alloc<|.cells vs.toArray E):=by
 have m:¬sz=0:=by omega
 have hb:¬(16777216<sz):=by omega
 have f:Instr.fill (λi=>some (i*sz,sz)) ((Array.range<|1*sz).map (z.cells[·%z.cells.size]!)) [(0,v)]=some vs.toArray:=by
  simp only[Instr.fill,Nat.zero_mul,q,Nat.zero_add];rw[iN (by simp[j])]
  congr 1
  have e:∀(b:List Value) (i:Nat) (pre:List Value) (a:Array Value),a.size=pre.length+b.length->a.toList.take i=pre->i=pre.length->
    ((b.zipIdx i).foldl (fun(a:Array Value) (p:Value×Nat)=>a.setIfInBounds (0+p.2) p.1) a)=(pre++b).toArray:=by
   intro b;induction b with
   |nil=>intro i pre a c d o;apply Array.ext';simp only[List.zipIdx_nil,List.foldl_nil,List.append_nil];rw[<-d,List.take_of_length_le (by simp at c⊢;omega)]
   |cons u b r=>intro i pre a c d o;rw[List.zipIdx_cons,List.foldl_cons];simp only[lC] at c;have:=r (i+1) (pre++[u]) (a.setIfInBounds (0+i) u) so (by rw[Nat.zero_add,Array.toList_setIfInBounds,List.take_add_one,List.getElem?_set_self so,List.take_set_of_le<|lR i,d];simp) so;rw[this];simp
  have:=e vs 0 [] ((Array.range<|1*sz).map (z.cells[·%z.cells.size]!)) (by simp[j]) sm rfl;simpa using this
 simp only[Instr.buildSlice,Sem.run_bind,run_underlying n,Result.andThen_ok,g.rX,Nat.one_mul];rw[Nat.one_mul] at f;simp[hb,m,g.J7,f,newRow]
theorem ab5 {vs:List Value} {v:Value} {q:Operand} (c:P.underlying T=some (.slice E)) (b:TI P E sz bytes z) (f:gate ops e g=true) (d:cC n dst=true) (m:Nat.beq z.cells.size sz=true) (o:Nat.blt 0 sz=true) (a:Nat.ble sz 16777216=true) 
  (j:ev e q=v) (l:v.cells=vs.toArray) (i:Nat.beq vs.length sz=true)
  (k:∀w',ak [] w w'->aJ w' w.heap.size vs.toArray E->w'.heap.size=w.heap.size+1->OW P n ops K rest (bW e dst<|.slice (some ⟨w.heap.size,0,none⟩) 1 1) w'):
  OW P n ops K (⟨dst,.buildSlice T 1 #[(0,q)],ty,pos,after,g⟩::rest) e w:=
 fC f d (w':=w.alloc<|.cells vs.toArray E) (by have:=ab4 (P:=P) (w:=w) (vs:=vs) (v:=v) c b (Nat.eq_of_beq_eq_true m) (by simpa[Nat.blt_eq] using o) (Nat.le_of_ble_eq_true a) l<|Nat.eq_of_beq_eq_true i;simp[execOp,j,this]) (k _ (ak.alloc _ _ _) (aJ.alloc _ _ _) sm)
theorem fX {q:Operand} (c:P.underlying T=some (.slice E)) (b:TI P E sz bytes z) (j:ev e q=v) (l:v.cells=vs.toArray) (k:∀w',ak [] w w'->aJ w' w.heap.size vs.toArray E->w'.heap.size=w.heap.size+1->OW P n ops K rest (bW e dst<|.slice (some ⟨w.heap.size,0,none⟩) 1 1) w') (f:gate ops e g=true:=by rfl) (d:cC n dst=true:=by rfl) (m:Nat.beq z.cells.size sz=true:=by rfl) (o:Nat.blt 0 sz=true:=by rfl) (a:Nat.ble sz 16777216=true:=by rfl) (i:Nat.beq vs.length sz=true:=by rfl):OW P n ops K (⟨dst,.buildSlice T 1 #[(0,q)],ty,pos,after,g⟩::rest) e w:=ab5 c b f d m o a j l i k
theorem Te {L:List Nat} {v:Value} {l:Option Nat} {rows new:List (List C)} {r a:List Value} {b o m c:Nat} (J:P.underlying t=some (.slice E)) (H:TI P E sz bytes z) (O:gate ops e g=true) (N:cC n dst=true) (U:Nat.beq z.cells.size sz=true) 
  (S:ev e x=v) (B:iL L w E sz v l rows r) (T:ev e y= .slice (some ⟨b,o,none⟩) m c) (q:new.length=m) (uZ:0<m) (V:∀row∈new,row.length=sz) (M:fP w b o a) (F:∀u∈a,u.oneCell'=true)
  (R:dz (l.toList++L) w a new.flatten) (I:∀x∈L,x<w.heap.size) (hb:(rows.length+m)*(bytes+1)<=140737488355328)
  (k:∀j d f w',iL L w' E sz (.slice j (rows.length+m) d) f (rows++new) (r++a)->ak l.toList w w'->(f=l\/f=some w.heap.size)->OW P n ops K rest (bW e dst<|.slice j (rows.length+m) d) w'):
  OW P n ops K (⟨dst,.call {callee:=.builtin .append,args:=#[x,y],argTypes:=#[t,t]},ty,pos,after,g⟩::rest) e w:=by
 obtain⟨i,Q,A,D,X⟩:=H.get;obtain⟨_,f,w',Y,s,hk,Z⟩:=iL.app (P:=P) (ty:=ty) J Q A D X (Nat.eq_of_beq_eq_true U) B b o m c new a q uZ V M F R I hb;obtain⟨j,d,p⟩:=s.len;rw[lA,q] at p;subst p;exact fC O N (w':=w') (by simp only[execOp,resolve,invoke,builtin,Sem.run_bind,Sem.run_pure,Result.andThen_ok,List.map_toArray,List.map_cons,List.map_nil,S,T,Y])<|k j d f w' s hk Z
end
theorem iL.sep {T:TypeId} {rows:List (List C)} (h:iL L w T sz v g rows xs) (hb:b∈L):b∉g.toList:=by intro a;exact h.out b (by simpa using a) hb
theorem Tf {P:Program} {n:Nat} {j:Array Oper} {K:Env->World->Prop} {rest:List Oper} {e:Env} {w:World} 
  {i:Option Nat} {ty:TypeId} {pos:String} {f:Array Edge} {g:Option (Nat×Bool)} {x y:Operand}
  {L:List Nat} {t E l bytes:Nat} {z:Value} {v:Value} {p:Option Nat} {rows:List (List C)} {row:List C} {A a:List Value} {b o c:Nat} (I:P.underlying t=some (.slice E)) (F:TI P E l bytes z) (N:gate j e g=true) (M:cC n i=true) (S:Nat.beq z.cells.size l=true)
  (Q:ev e x=v) (R:ev e y= .slice (some ⟨b,o,none⟩) 1 c) (B:iL L w E l v p rows A) (T:row.length=l) (J:fP w b o a) (D:∀u∈a,u.oneCell'=true)
  (O:dz (p.toList++L) w a row) (H:∀x∈L,x<w.heap.size) (hb:(rows.length+1)*(bytes+1)<=140737488355328)
  (k:∀s d q w',iL L w' E l (.slice s (rows.length+1) d) q (rows++[row]) (A++a)->ak p.toList w w'->(q=p\/q=some w.heap.size)->OW P n j K rest (bW e i<|.slice s (rows.length+1) d) w'):
  OW P n j K (⟨i,.call {callee:=.builtin .append,args:=#[x,y],argTypes:=#[t,t]},ty,pos,f,g⟩::rest) e w:=
 Te (new:=[row]) (m:=1) I F N M S Q B R rfl de (by intro r h;simp at h;rw[h];exact T) J D (by simpa using O) H hb k
theorem dz.HA:∀{vs:List Value} {b:List C},dz L w vs b->(∀c∈b,∀v,c= .val v->v.oneCell'=true)->∀u∈vs,u.oneCell'=true
 |[],[],_,_,u,a=>by simp at a
 |v::vs,c::b,h,hc,u,a=>by
  rcases mC.1 a with rfl|a
  .cases h.1 with
   |val=>exact hc _ sm _ rfl
   |nil=>rfl
   |sl=>rfl
  .exact dz.HA h.2 (λc e v d=>hc c (by simp[e]) v d) u a
def Bf (P:Program) (e:Env) (w:World):ResultVar->Value->Prop
 | .tmp t,v=>e t=v
 | .cell t ty,v=>SP P e t ty v w
def Kk (P:Program) (e:Env) (w:World):List ResultVar->List Value->Prop
 |[],[]=>True
 |[r],[v]=>Bf P e w r v
 |r::rs,v::vs=>Bf P e w r v/\Kk P e w rs vs
 |_,_=>False
def Bg:List Value->Value
 |[v]=>v
 |vs=>.tuple vs.toArray
def Kl (b:Array Value):ResultVar->Sem Value
 | .tmp t=>pure<|b.getD t undef
 | .cell a t=>do loadVar t (<-asAddr (b.getD a undef))
theorem HB (fn:Func) (a:Array Value):results fn a=(do let vs<-fn.results.mapM (Kl a);pure (if h:vs.size=1 then vs[0] else .tuple vs)):=rfl
theorem xR {e:Env} {tmps:Array Value} (b:∀t,tmps.getD t undef=e t) {r:ResultVar} (h:Bf P e w r v):(Kl tmps r).run P w= .ok v w:=by
 cases r with
 |tmp t=>simp only[Bf] at h;simp only[Kl,b,h];rfl
 |cell t ty=>obtain⟨a,c,d⟩:=h;simp only[Kl,b,c,asAddr,Sem.run_bind,Sem.run_pure,Result.andThen_ok,d]
theorem Tg {fn:Func} {rs:List ResultVar} (d:fn.results=rs.toArray) {tmps:Array Value} {e:Env} (a:∀t,tmps.getD t undef=e t) (h:Kk P e w rs vs) (n:rs.length<=4):
  (results fn tmps).run P w= .ok (Bg vs) w:=by
 match rs,vs,h with
 |[],[],_=>simp[HB,d,Bg]
 |[r],[v],h=>have b:=xR (tmps:=tmps) a<|show Bf P e w r v from h;simp[HB,d,Bg,b]
 |[r,g],[v,i],h=>have b:=xR (tmps:=tmps) a h.1;have c:=xR (tmps:=tmps) a<|show Bf P e w g i from h.2;simp[HB,d,Bg,b,c]
 |[r,g,j],[v,i,l],h=>have b:=xR (tmps:=tmps) a h.1;have c:=xR (tmps:=tmps) a h.2.1;have f:=xR (tmps:=tmps) a<|show Bf P e w j l from h.2.2;simp[HB,d,Bg,b,c,f]
 |[r,g,j,o],[v,i,l,p],h=>have b:=xR (tmps:=tmps) a h.1;have c:=xR (tmps:=tmps) a h.2.1;have f:=xR (tmps:=tmps) a h.2.2.1;have m:=xR (tmps:=tmps) a<|show Bf P e w o p from h.2.2.2;simp[HB,d,Bg,b,c,f,m]
 |_::_::_::_::_::_,_,_=>simp at n
theorem kV {P:Program} {f:FuncId} {fn:Func} {c:Code} {b:List Value} {w:World} {S:Value->World->Prop} (rs:List ResultVar) (n:Nat) 
  (l:P.funcs[f]?=some fn) (hb:fn.body=some c) (q:(fn.name== "runtime.NumGoroutine")=false) (o:fn.results=rs.toArray) (p:b.length+(fn.ntmps-b.length)=n) (m:Nat.ble rs.length 4=true)
  (h:CW P n c (λe w'=>∃vs,Kk P e w' rs vs/\S (Bg vs) w') (λe w'=>∃vs,Kk P e w' rs vs/\S (Bg vs) w') (λ_ _ _=>False) (start b) w):bB P f b w S:=by
 refine⟨⟨fn,l,by rw[hb];rfl,q⟩,calls_of_wp l hb<|wp_mono (h _ ?_) λx a w' i=>?_⟩
 .rw[<-p];simpa using SO b (fn.ntmps-b.length)
 .cases x<;>simp only[l0] at i
  .obtain⟨e,d,vs,j,g⟩:=i;exact bodyPost_end (Tg o d.get j<|Nat.le_of_ble_eq_true m) d.defers ⟨_,rfl,g⟩
  .obtain⟨e,d,g⟩:=i;exact g.elim
  .obtain⟨e,d,vs,j,g⟩:=i;exact bodyPost_ret (Tg o d.get j<|Nat.le_of_ble_eq_true m) d.defers ⟨_,rfl,g⟩
section
variable {P:Program} {n:Nat} {ops:Array Oper} {K:Env->World->Prop} {rest:List Oper} {e:Env} {w:World}
 {dst:Option Nat} {ty:TypeId} {pos:String} {after:Array Edge} {g:Option (Nat×Bool)}
theorem ab6 {at_:Array TypeId} {i j z:Int} (b:gate ops e g=true) (a:cC n dst=true) (c:ev e x= .int k i) (d:ev e y= .int k j) (f:(if j<i then j else i)=z) 
  (l:OW P n ops K rest (bW e dst<|.int k z) w):OW P n ops K (⟨dst,.call {callee:=.builtin .min,args:=#[x,y],argTypes:=at_},ty,pos,after,g⟩::rest) e w:=
 fC b a (by simp[execOp,resolve,invoke,builtin,c,d,Builtin.min_,Builtin.min2,f]) l
theorem ab7 {at_:Array TypeId} {b:Operand} {i j a z:Int} (d:gate ops e g=true) (c:cC n dst=true) (f:ev e x= .int k i) (l:ev e y= .int k j) (p:ev e b= .int k a) (m:(if a<(if j<i then j else i) then a else(if j<i then j else i))=z) 
  (o:OW P n ops K rest (bW e dst<|.int k z) w):OW P n ops K (⟨dst,.call {callee:=.builtin .min,args:=#[x,y,b],argTypes:=at_},ty,pos,after,g⟩::rest) e w:=
 fC d c (by simp[execOp,resolve,invoke,builtin,f,l,p,Builtin.min_,Builtin.min2,m]) o
theorem Th {at_:Array TypeId} {i j z:Int} (b:gate ops e g=true) (a:cC n dst=true) (c:ev e x= .int k i) (d:ev e y= .int k j) (f:(if i<j then j else i)=z) 
  (l:OW P n ops K rest (bW e dst<|.int k z) w):OW P n ops K (⟨dst,.call {callee:=.builtin .max,args:=#[x,y],argTypes:=at_},ty,pos,after,g⟩::rest) e w:=
 fC b a (by simp[execOp,resolve,invoke,builtin,c,d,Builtin.max_,Builtin.max2,f]) l
theorem NQ {fn:Fn} {a:List Operand} (c:gate ops e g=true) (b:cC n dst=true) (d:a.map (ev e)=vs) 
  (f:OW P n ops K rest (bW e dst<|.func fn #[] vs.toArray) w):OW P n ops K (⟨dst,.makeFunc fn #[] a.toArray,ty,pos,after,g⟩::rest) e w:=
 fC c b (by subst d;simp[execOp,Instr.makeFunc]) f
theorem HC {c:Operand} {b:List Value} {i:List Operand} {d:Array TypeId} (o:gate ops e g=true) (m:cC n dst=true) (l:ev e c= .func (.func f) #[] b.toArray) (h:bB P f (i.map (ev e)++b) w S) 
  (k:∀v w',S v w'->OW P n ops K rest (bW e dst v) w'):OW P n ops K (⟨dst,.call {callee:=.value c,args:=i.toArray,argTypes:=d},ty,pos,after,g⟩::rest) e w:=λa j Q=>by
 unfold wpList;rw[iP (by rw[Ff j];exact o)];refine .inl ?_;unfold Oper.wp;have r:(execOp (ev e) ⟨dst,.call {callee:=.value c,args:=i.toArray,argTypes:=d},ty,pos,after,g⟩).run P w= .ok (.enter f (i.map (ev e)++b).toArray) w:=by simp only[execOp,resolve,l,Deferred.ofValue,Sem.run_bind,Sem.run_pure,Result.andThen_ok,invoke];simp[Nx h.1]
 rw[j.eval,r,Oper.upon_enter];exact Calls.mono h.2 λx w' ⟨v,q,p⟩=>by subst q;exact k v w' p _ (j.bW m v) Q
end
def fQ (a:List aj):List (List C):=a.map λx=>[.val (str x)]
theorem pR (a:List aj):(fQ a).length=a.length:=by simp[fQ]
theorem Ti {a:List aj} {x:aj} (h:a[i]?=some x):(fQ a)[i]?=some [.val (str x)]:=by simp[fQ,h]
def bu (L:List Nat) (w:World) (v:Value) (a:List aj):Prop:=cg L w v (.sl 1<|fQ a)
theorem bu.ext {a:List aj} (h:bu L w v a) (k:ak [] w w'):bu L w' v a:=cg.ext h k
theorem bu.aB {a:List aj} (h:bu L w v a) (k:ak L' w w') (b:∀x∈L',x∈L):bu L w' v a:=cg.aG h<|k.mono b
theorem dX {b:List aj} (h:bu L w v b):∃a n c,v= .slice a n c/\n=b.length:=by grind [bu,sO,pR]
theorem Tj {x:aj} (h:dz L w vs [.val (str x)]):vs=[str x]:=by
 match vs,h with
 |[v],h=>obtain⟨a,_⟩:=h;cases a;rfl
 |[],h=>exact h.elim
 |_::_::_,h=>exact h.2.elim
theorem nv {a:Option Addr} {c:Nat} {e:List aj} {x:aj} (h:bu L w (.slice a n c) e) (g:e[i]?=some x):
  ∃b off,a=some ⟨b,off,none⟩/\fP w b (off+i*1) [str x]:=by
 obtain⟨b,off,vs,f,hb,_,_,d,j⟩:=zh h<|Ti g;rw[Tj j] at d;exact⟨b,off,f,d⟩
abbrev bP (a:List aj) (i:Nat):aj:=a.getD i []
theorem jx {xs:List aj} (h:i<xs.length):xs[i]?=some (bP xs i):=by grind
structure Bk where
 aO:aj
 cM:List aj
 code:List aj
def Bk.enc (b:Bk):List C:=[.val<|str b.aO,.sl 1<|fQ b.cM,.sl 1 (fQ b.code)]
def ri (L:List Nat) (w:World) (v:Value) (b:Bk):Prop:=iZ L w v b.enc
theorem ri.ext {b:Bk} (h:ri L w v b) (k:ak [] w w'):ri L w' v b:=iZ.ext h k
theorem Tl {b:Bk} (h:dz L w vs b.enc):∃a c,vs=[str b.aO,a,c]/\bu L w a b.cM/\bu L w c b.code:=by
 rw[Bk.enc] at h
 match vs,h with
 |[_,a,c],h=>obtain⟨d,e,f,_⟩:=h;cases d;exact⟨a,c,rfl,e,f⟩
 |[],h=>exact h.elim
 |[_],h=>exact h.2.elim
 |[_,_],h=>exact h.2.2.elim
 |_::_::_::_::_,h=>exact h.2.2.2.elim
theorem Dg {b:Bk} (h:ri L w v b):∃d a c1 e c c2,v= .agg #[str b.aO,.slice d a c1,.slice e c c2]/\
  a=b.cM.length/\c=b.code.length/\bu L w (.slice d a c1) b.cM/\bu L w (.slice e c c2) b.code:=by
 obtain⟨vs,rfl,l⟩:=h;obtain⟨_,_,rfl,f,g⟩:=Tl l;obtain⟨d,a,c1,rfl,i⟩:=dX f;obtain⟨e,c,c2,rfl,j⟩:=dX g;exact⟨d,a,c1,e,c,c2,rfl,i,j,f,g⟩
theorem Dh {b:Bk} {a c:Value} (d:bu L w a b.cM) (e:bu L w c b.code):ri L w (.agg #[str b.aO,a,c]) b:=
 ⟨[str b.aO,a,c],rfl,.val _,d,e,trivial⟩
def pd (L:List Nat) (w:World) (v:Value) (bs:List Bk):Prop:=cg L w v (.sl 3<|bs.map Bk.enc)
theorem pd.ext {bs:List Bk} (h:pd L w v bs) (k:ak [] w w'):pd L w' v bs:=cg.ext h k
theorem Fo {bs:List Bk} (h:pd L w v bs):∃a n c,v= .slice a n c/\n=bs.length:=by grind [pd,sO]
theorem Di {a:Option Addr} {c:Nat} {bs:List Bk} {k:Bk} (h:pd L w (.slice a n c) bs) (r:bs[i]?=some k):
  ∃b off f d c1 g e c2,a=some ⟨b,off,none⟩/\fP w b (off+i*3) [str k.aO,.slice f d c1,.slice g e c2]/\
   d=k.cM.length/\e=k.code.length/\bu L w (.slice f d c1) k.cM/\bu L w (.slice g e c2) k.code:=by
 obtain⟨b,off,vs,p,hb,_,_,q,s⟩:=zh h (show(bs.map Bk.enc)[i]?=some k.enc by simp[r]);obtain⟨_,_,rfl,j,l⟩:=Tl s;obtain⟨f,d,c1,rfl,m⟩:=dX j;obtain⟨g,e,c2,rfl,o⟩:=dX l;exact⟨b,off,f,d,c1,g,e,c2,p,q,m,o,j,l⟩
def Km (p:Prop) (w:World) (b a:Nat) (c:List Value):Prop:=p->fP w b a c
theorem Km.ext (h:Km p w b off vs) (k:ak [] w w'):Km p w' b off vs:=λa=>(h a).ext k
def Kn (p:Prop) (L:List Nat) (w:World) (v:Value) (a:List aq):Prop:=p->cY L w v a
theorem Kn.ext {a:List aq} (h:Kn p L w v a) (k:ak [] w w'):Kn p L w' v a:=λb=>(h b).ext k
end Go.Proofs.YtcildnfcpkpomaaGreatDoor
