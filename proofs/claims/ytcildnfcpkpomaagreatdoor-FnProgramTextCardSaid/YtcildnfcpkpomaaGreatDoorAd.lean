/- Lemmas for the law FnProgramText, no statement of their own: no conditions. -/
import Derived.Test.YtcildnfcpkpomaaGreatDoorAc
import Derived.Deep.Strs
import Derived.Laws.MakeOwn
set_option maxHeartbeats 4000000
set_option linter.unusedVariables false
set_option linter.unusedSimpArgs false
namespace Go.Proofs.YtcildnfcpkpomaaGreatDoor
open Go
variable {N R:Env->World->Prop} {G L:List Nat} {w w' w0:World} {B E b bytes d i k m n off sz t:Nat} {o:Oper} {l:List Oper} {r:List (List Nat)} {V v z:Value} {e0:Env} {X:Nat->Env->World->Prop} {J:List Nat->List Value->World->Prop} {p q:Prop} {c:Operand} {a:Int} {vs xs:List Value} {P:Program} {ops:Array Oper} {k':IntKind} {rows:List (List C)}
section
variable {P:Program} {n:Nat} {l:List Oper} {m:Nat} {W ds:List Nat} {deps:List (List Nat)}
theorem VW {N:Env->World->Prop} {Inv:(Nat->Bool)->Env->World->Prop} (U:vE l m W ds deps=true) 
  (step:∀(S:Nat->Bool) (e:Env) (w:World) (i:Nat) (o:Oper),i<m->l[i]?=some o->S i=false->(∀j,waits o j=true->S j=true)->Inv S e w->
   OW P n l.toArray (λA w'=>Inv (λj=>if j=i then true else S j) A w') [o] e w)
  (u:∀(S:Nat->Bool) (e:Env) (w:World),(∀i,i<m->S i=true)->Inv S e w->OW P n l.toArray N (l.drop m) e w) (Q:Exit->Act->World->Prop):
  ∀(c:Nat) (b:Array Bool) (e:Env) (a:Act) (w:World),Fits n e a->b.size=l.length->
   ((List.range l.length).filter λj=>!b.getD j true).length=c->
   (∀j,m<=j->j<l.length->b.getD j true=false)->Inv (λj=>b.getD j false) e w->Kz l b->
   wpAny P .any l.toArray (qD n N Q) c b a w:=by
 obtain⟨FP,_,_,_,mG⟩:=FN U;have K:∀(b:Array Bool) (j:Nat),b.size=l.length->j<l.length->¬b.getD j true=false->b.getD j false=true:=λb j q d p=>by rw[Array.getD_eq_getD_getElem?] at p⊢;rw[Array.getElem?_eq_getElem om] at p⊢;simpa using p
 have HU:∀(b:Array Bool) (j:Nat),b.size=l.length->j<l.length->b.getD j false=true->b.getD j true=true:=λb j q d p=>by rw[Array.getD_eq_getD_getElem?] at p⊢;rw[Array.getElem?_eq_getElem om] at p⊢;simpa using p
 intro c;induction c with
 |zero=>
  intro b e a w F q M D E nX;have v:∀j,j<l.length->b.getD j true=true:=λj d=>by
   cases H:b.getD j true with
   |true=>rfl
   |false=>
    have:j∈(List.range l.length).filter λj=>!b.getD j true:=by rw[List.mem_filter,List.mem_range];exact⟨d,by rw[H];rfl⟩
    rw[List.length_eq_zero_iff.1 M] at this;cases this
  have hm:m=l.length:=by
   rcases Nat.lt_or_ge m l.length with h|h
   .have:=D m (lR _) h;rw[v m h] at this;cases this
   .omega
  have ht:=u _ e w (λi I=>K b i q om (by rw[v i om];simp)) E;have f:=ht a F Q;exact KB U 0 m b a w (lR _) om q (λj d=>⟨λh=>(by rw[v j d] at h;cases h),λh=>om⟩) f
 |succ c ih=>
  intro b e a w F q M D E nX;by_cases C:∀j,j<m->b.getD j true=true
  .have ht:=u _ e w (λi I=>K b i q om (by rw[C i I];simp)) E;have f:=ht a F Q;have Bu:∀j,j<l.length->(b.getD j true=false↔m<=j):=λj d=>by
    constructor
    .intro h;rcases Nat.lt_or_ge j m with g|g
     .rw[C j g] at h;cases h
     .exact g
    .intro h;exact D j h d
   have L:m+(c+1)=l.length:=by
    rw[<-M];have:∀k,k<=l.length->m<=k->((List.range k).filter λj=>!b.getD j true).length=k-m:=by
     intro k;induction k with
     |zero=>intro _ h;simp
     |succ k r=>
      intro iq _;rw[List.range_succ,List.filter_append,lA];rcases Nat.lt_or_ge k m with g|g
      .have Tm:k+1=m:=by omega
       have hz:((List.range k).filter λj=>!b.getD j true)=[]:=by rw[List.filter_eq_nil_iff];intro j d;rw[List.mem_range] at d;rw[C j om];simp
       have s:(!b.getD k true)=false:=by rw[C k g];rfl
       simp only[hz,List.filter_cons,s,List.filter_nil,List.length_nil];simp;omega
      .rw[r om g];have s:(!b.getD k true)=true:=by rw[(Bu k om).2 g];rfl
       simp only[List.filter_cons,s,List.filter_nil,if_true,lC,List.length_nil];omega
    have:=this l.length (lR _) FP;omega
   exact KB U (c+1) m b a w (lR _) L q Bu f
  .have Y:∃j,j<m/\b.getD j true=false/\∀i,i<j->b.getD i true=true:=by
    have:∀k,(∃j,j<k/\b.getD j true=false/\∀i,i<j->b.getD i true=true)\/∀j,j<k->b.getD j true=true:=by
     intro k;induction k with
     |zero=>right;intro j d;omega
     |succ k r=>
      rcases r with⟨j,d,p,f⟩|h
      .exact .inl ⟨j,om,p,f⟩
      .cases H:b.getD k true with
       |false=>exact .inl ⟨k,om,H,h⟩
       |true=>
        right;intro j d;rcases Nat.lt_or_ge j k with g|g
        .exact h j g
        .rw[show j=k from by omega];exact H
    rcases this m with h|h
    .exact h
    .exact absurd h C
   obtain⟨y,_,HW,HX⟩:=Y;obtain⟨o0,HY⟩:∃o,l[y]?=some o:=⟨l[y]'om,gE om⟩;have pX:y∈Region.ready .any l.toArray b:=mem_ready.2 ⟨HW,o0,by simpa using HY,λT X hb=>by have R:=(mG y o0 HY).1 T X hb;exact K b _ q om (by rw[HX _ R];simp)⟩;refine⟨λhr=>(by rw[hr] at pX;cases pX),λi I=>?_⟩;obtain⟨hu,o,Z,v⟩:=mem_ready.1 I;have mF:i<l.length:=by simpa using(Array.getElem?_eq_some_iff.1 Z).1
   have J:l[i]?=some o:=by simpa using Z
   have sn:i<m:=by
    rcases Nat.lt_or_ge i m with h|h
    .exact h
    .have:=HU b y q om<|Oc nX J v ((mG i o J).2.2 h) (i-y) y om om;rw[HW] at this;cases this
   have vS:b.getD i false=false:=by
    cases h:b.getD i false with
    |false=>rfl
    |true=>rw[HU b i q mF h] at hu;cases hu
   have p:=step (λj=>b.getD j false) e w i o sn J vS (λj d=>by obtain⟨T,X,hb,wP⟩:=Ob d;rw[<-wP];exact v T X hb) E;have f:=p a F Q;have next:∀(t:Act) (w':World),qD n (λA w'=>Inv (λj=>if j=i then true else b.getD j false) A w') Q .normal t w'->
     wpAny P .any l.toArray (qD n N Q) c (b.setIfInBounds i true) t w':=λt w' B=>by
    obtain⟨A,Of,V⟩:=B;refine ih _ A t w' Of (by simpa using q) ?_ ?_ ?_ ?_
    .have L:∀k,k<=l.length->((List.range k).filter λj=>!(b.setIfInBounds i true).getD j true).length+(if i<k then 1 else 0)=((List.range k).filter λj=>!b.getD j true).length:=by
      intro k;induction k with
      |zero=>simp
      |succ k r=>
       intro iq;have tZ:=r om;rw[List.range_succ,List.filter_append,lA,List.filter_append,lA];by_cases wQ:i=k
       .subst wQ;rw[iN om] at tZ;have R:i<b.size:=by omega
        have s:(b.setIfInBounds i true).getD i true=true:=by simp[Array.getD_eq_getD_getElem?,R]
        rw[iP om];simp only[List.filter_cons,s,hu,List.filter_nil,Bool.not_true,Bool.not_false,if_true,Bool.false_eq_true,if_false,lC,List.length_nil];omega
       .have s:(b.setIfInBounds i true).getD k true=b.getD k true:=getD_set_ne true wQ;simp only[List.filter_cons,s,List.filter_nil];have hii:(i<k+1)↔(i<k):=by omega
        by_cases qE:i<k
        .have c1:i<k+1:=by omega
         rw[iP qE] at tZ;rw[iP c1];split<;>simp only[lC,List.length_nil]<;>omega
        .have c1:¬i<k+1:=by omega
         rw[iN qE] at tZ;rw[iN c1];split<;>simp only[lC,List.length_nil]<;>omega
     have:=L l.length<|lR _;rw[iP mF] at this;omega
    .intro j Og xX;rw[getD_set_ne true om];exact D j Og xX
    .have s:(λj=>(b.setIfInBounds i true).getD j false)=λj=>if j=i then true else b.getD j false:=by
      funext j;by_cases z:i=j
      .subst z;have:i<b.size:=by omega
       simp[Array.getD_eq_getD_getElem?,this]
      .rw[getD_set_ne false z,iN λh=>z h.symm]
     rw[s];exact V
    .intro j oj O d e2 kK aM;have x6:∀x,b.getD x false=true->(b.setIfInBounds i true).getD x false=true:=λx hx=>by
      by_cases H0:i=x
      .subst H0;have:i<b.size:=by omega
       simp[Array.getD_eq_getD_getElem?,this]
      .rw[getD_set_ne false H0];exact hx
     by_cases z:i=j
     .subst z;rw[J] at O;cases O;exact x6 _<|v e2 kK aM
     .rw[getD_set_ne false z] at d;exact x6 _<|nX j oj O d e2 kK aM
   unfold wpOp;simp only[Z];unfold wpList at f;by_cases hw:Region.wanted o (yielded l.toArray a.tmps)=true
   .rw[iP hw] at f⊢;rcases f with f|⟨f,h3⟩
    .refine .inl<|Oper.N7 (λt w' g=>next t w' g) (λ_ _ _ h=>h) (fun⟨a,w,B⟩=>⟨a,w,B⟩) f
    .exact .inr ⟨f,by obtain⟨t,w',B⟩:=h3;exact⟨t,w',B⟩⟩
   .rw[iN hw] at f⊢;exact next _ _ f
inductive Ie where
 |v (V:Value)
 |p (f:List Nat->Value->World->Prop)
 |e (t:Nat)
 |w (t:Nat) (V:Value)
 |q (t:Nat) (f:Value->Prop)
def Ie.F:Ie->List Nat->Value->World->Prop
 | .v V=>λ_ v _=>v=V
 | .p f=>f
 | .e _=>λ_ _ _=>True
 | .w _ V=>λ_ v _=>v=V
 | .q _ f=>λ_ v _=>f v
def Ie.lk:Ie->Option Nat
 | .e t=>some t
 | .w t _=>some t
 | .q t _=>some t
 |_=>none
abbrev nD:Ie:=.p λ_ _ _=>True
def yq (b:List Ie) (c:List Nat) (G:List Nat) (aU:List Value) (w:World):List Nat->(List (Nat×Value)->Prop)->Prop
 |[],k=>k []
 |j::r,k=>match b.getD j nD with
  | .v V=>yq b c G aU w r λa=>k ((c.getD j 0,V)::a)
  | .p f=>∀v,f G v w->yq b c G aU w r λa=>k ((c.getD j 0,v)::a)
  | .e t=>yq b c G aU w r λa=>k ((c.getD j 0,aU.getD t undef)::a)
  | .w _ V=>yq b c G aU w r λa=>k ((c.getD j 0,V)::a)
  | .q t f=>∀v,aU.getD t undef=v->f v->yq b c G aU w r λa=>k ((c.getD j 0,v)::a)
theorem Ca {a:List Ie} {g:List Nat} {aU:List Value} {vs:Nat->Value}:∀{deps:List Nat} {k:List (Nat×Value)->Prop},yq a g G aU w deps k->
  (∀j∈deps,(a.getD j nD).F G (vs j) w/\∀t,(a.getD j nD).lk=some t->aU.getD t undef=vs j)->k (vC g vs deps)
 |[],k,h,_=>h
 |j::r,k,h,hd=>by
  obtain⟨b,l⟩:=hd j<|List.mem_cons_self ..;unfold yq at h;have c:∀i∈r,_:=λi m=>hd i<|mK _ m;cases e:a.getD j nD with
  |v V=>rw[e] at h b;have d:vs j=V:=b;subst d;exact Ca (deps:=r) h c
  |p f=>rw[e] at h b;exact Ca (deps:=r) (h _ b) c
  |e t=>rw[e] at h;have d:=l t (by rw[e];rfl);simp only[d] at h;exact Ca (deps:=r) h c
  |w t V=>rw[e] at h b;have d:vs j=V:=b;subst d;exact Ca (deps:=r) h c
  |q t f=>rw[e] at h b;exact Ca (deps:=r) (h _ (l t (by rw[e];rfl)) b) c
def fI (G:List Nat) (w:World):Prop:=∀x∈G,x<w.heap.size
def LB (P:Program) (n:Nat) (e:Array Oper) (W d:List Nat) (c:List Ie) (g:Env) (j:List Nat) (l:World) (i:Nat) (o:Oper) (b:List Nat):Prop:=
 ∀(x:Env) (w:World) (G:List Nat) (aU:List Value),Fr j l G w->fI G w->yq c d G aU w b λa=>
  OW P n e (λf w'=>aj [] w w'/\(c.getD i nD).F G (f<|d.getD i 0) w'/\eO [d.getD i 0] (aY (aX W x g) a) f) [o] (aY (aX W x g) a) w
def VX (P:Program) (n:Nat) (g:Array Oper) (W e:List Nat) (c:List Ie) (j:List (List Nat->List Value->World->Prop)) (l:Env) (m:List Nat) (p:World) (t i:Nat) (o:Oper) (b:List Nat):Prop:=
 ∀(x:Env) (w:World) (G:List Nat) (aU:List Value),Fr m p G w->fI G w->j.getD t (λ_ _ _=>True) G aU w->aU.length=t->yq c e G aU w b λa=>
  OW P n g (λf w'=>(∃d,Fr G w d w'/\fI d w'/\j.getD (t+1) (λ_ _ _=>True) d (aU++[f (e.getD i 0)]) w'/\(c.getD i nD).F d (f<|e.getD i 0) w')/\eO [e.getD i 0] (aY (aX W x l) a) f) [o] (aY (aX W x l) a) w
def Gi (P:Program) (n:Nat) (c:Array Oper) (W e:List Nat) (b:List Ie) (j:List (List Nat->List Value->World->Prop)) (f:Env) (d:List Nat) (g:World) (i:Nat) (o:Oper) (a:List Nat):Prop:=
 match(b.getD i nD).lk with
 |some t=>VX P n c W e b j f d g t i o a
 |none=>LB P n c W e b f d g i o a
def xh (P:Program) (n:Nat) (b:Array Oper) (W f:List Nat) (a:List Ie) (e:List (List Nat->List Value->World->Prop)) (g:Env) (c:List Nat) (i:World):Nat->List Oper->List (List Nat)->Prop
 |_,[],_=>True
 |_,_::_,[]=>True
 |k,o::l,d::r=>Gi P n b W f a e g c i k o d/\xh P n b W f a e g c i (k+1) l r
section
variable {P:Program} {n:Nat} {ops:Array Oper} {W ds:List Nat} {its:List Ie} {Js:List (List Nat->List Value->World->Prop)} {e0:Env} {G0:List Nat} {w0:World}
theorem vf {l:List Oper} {d:List Nat} (h:LB P n ops W ds its e0 G0 w0 k o d) (a:xh P n ops W ds its Js e0 G0 w0 (k+1) l r) (hk:(its.getD k nD).lk=none:=by rfl):xh P n ops W ds its Js e0 G0 w0 k (o::l) (d::r):=
 ⟨by unfold Gi;rw[hk];exact h,a⟩
theorem ve (t:Nat) {l:List Oper} {d:List Nat} (h:VX P n ops W ds its Js e0 G0 w0 t k o d) (a:xh P n ops W ds its Js e0 G0 w0 (k+1) l r) (hk:(its.getD k nD).lk=some t:=by rfl):xh P n ops W ds its Js e0 G0 w0 k (o::l) (d::r):=
 ⟨by unfold Gi;rw[hk];exact h,a⟩
theorem VY:∀(l:List Oper) (deps:List (List Nat)) (k:Nat),xh P n ops W ds its Js e0 G0 w0 k l deps->∀(i:Nat) (o:Oper) (d:List Nat),l[i]?=some o->deps[i]?=some d->Gi P n ops W ds its Js e0 G0 w0 (k+i) o d
 |[],_,_,_,i,o,d,h,_=>by simp at h
 |_::_,[],_,_,i,o,d,_,h=>by simp at h
 |o::l,d::r,k,h,0,o',d',ho,hd=>by simp at ho hd;subst ho;subst hd;exact h.1
 |o::l,d::r,k,h,i+1,o',d',ho,hd=>by have:=VY l r (k+1) h.2 i o' d' (by simpa using ho) (by simpa using hd);rwa [show k+1+i=k+(i+1) by omega] at this
end
def PI (l:List Oper) (m:Nat) (a:List Nat) (b:List Ie):Bool:=
 (List.range a.length).all (λt=>decide (a.getD t 0<m)&&((b.getD (a.getD t 0) nD).lk==some t)&&(decide (t=0)||(match l[a.getD t 0]? with|some o=>waits o (a.getD (t-1) 0)|none=>false)))&&
 (List.range m).all (λi=>match(b.getD i nD).lk with|some t=>decide (t<a.length)&&decide (a.getD t 0=i)|none=>true)
theorem aiw {l:List Oper} {m:Nat} {d:List Nat} {e:List Ie} (h:PI l m d e=true):
  (∀t,t<d.length->d.getD t 0<m/\(e.getD (d.getD t 0) nD).lk=some t/\(t≠0->∃o,l[d.getD t 0]?=some o/\waits o (d.getD (t-1) 0)=true))/\
  ∀i t,i<m->(e.getD i nD).lk=some t->t<d.length/\d.getD t 0=i:=by
 unfold PI at h;rw[aE,List.all_eq_true,List.all_eq_true] at h;obtain⟨j,n⟩:=h;refine⟨λt r=>?_,λi t q p=>?_⟩
 .have:=j t<|List.mem_range.2 r;simp only[aE,dE,beq_iff_eq,oE] at this;obtain⟨⟨a,b⟩,c⟩:=this;refine⟨a,b,λg=>?_⟩;rcases c with c|c
  .exact absurd c g
  .cases f:l[d.getD t 0]? with
   |none=>rw[f] at c;cases c
   |some o=>rw[f] at c;exact⟨o,rfl,c⟩
 .have:=n i<|List.mem_range.2 q;rw[p] at this;simpa using this
def Cb:List Ie->Prop
 |[]=>True
 | .p f::r=>(∀G v w a w',f G v w->Fr G w a w'->f a v w')/\Cb r
 | .v _::r=>Cb r
 | .e _::r=>Cb r
 | .w _ _::r=>Cb r
 | .q _ _::r=>Cb r
theorem Gj:∀{its:List Ie},Cb its->∀q∈its,∀G v w b w',q.F G v w->Fr G w b w'->q.F b v w'
 | .p f::r,h,q,a,G,v,w,b,w',hf,hk=>by
  rcases mC.1 a with e|a
  .subst e;exact h.1 _ _ _ _ _ hf hk
  .exact Gj (its:=r) h.2 q a _ _ _ _ _ hf hk
 | .v V::r,h,q,a,G,v,w,b,w',hf,hk=>by
  rcases mC.1 a with e|a
  .subst e;exact hf
  .exact Gj (its:=r) h q a _ _ _ _ _ hf hk
 | .e V::r,h,q,a,G,v,w,b,w',hf,hk=>by
  rcases mC.1 a with e|a
  .subst e;exact hf
  .exact Gj (its:=r) h q a _ _ _ _ _ hf hk
 | .w t V::r,h,q,a,G,v,w,b,w',hf,hk=>by
  rcases mC.1 a with e|a
  .subst e;exact hf
  .exact Gj (its:=r) h q a _ _ _ _ _ hf hk
 | .q t f::r,h,q,a,G,v,w,b,w',hf,hk=>by
  rcases mC.1 a with e|a
  .subst e;exact hf
  .exact Gj (its:=r) h q a _ _ _ _ _ hf hk
theorem V0 {a:List Ie} (h:Cb a) (i:Nat) {c:List Nat} (b:(a.getD i nD).F G v w) (hk:Fr G w c w'):(a.getD i nD).F c v w':=by
 rw[gG] at b⊢;cases e:a[i]? with
 |none=>trivial
 |some q=>rw[e] at b;exact Gj h q (List.mem_of_getElem? e) _ _ _ _ _ b hk
def LC:List (List Nat->List Value->World->Prop)->Prop
 |[]=>True
 |J::r=>(∀G vs w w',J G vs w->aj [] w w'->J G vs w')/\LC r
theorem IA:∀{Js:List (List Nat->List Value->World->Prop)},LC Js->∀(k:Nat) {G:List Nat} {vs:List Value} {w w':World},Js.getD k (λ_ _ _=>True) G vs w->aj [] w w'->Js.getD k (λ_ _ _=>True) G vs w'
 |[],_,k,_,_,_,_,_,_=>by simp
 |J::r,h,0,_,_,_,_,hj,hk=>h.1 _ _ _ _ hj hk
 |J::r,h,k+1,_,_,_,_,hj,hk=>by have:=IA (Js:=r) h.2 k (by simpa using hj) hk;simpa using this
theorem j6 {a:Type} {l:List a} (h:l.length=0):l=[]:=by grind
theorem j7 {b:Type} {l:List b} (h:l.length=1):∃a,l=[a]:=List.length_eq_one_iff.1 h
theorem mo {c:Type} {l:List c} (h:l.length=2):∃a b,l=[a,b]:=by
 match l,h with|[a,b],_=>exact⟨a,b,rfl⟩
theorem Cc {d:Type} {l:List d} (h:l.length=3):∃a b c,l=[a,b,c]:=by
 match l,h with|[a,b,c],_=>exact⟨a,b,c,rfl⟩
theorem PJ {e:Type} {l:List e} (h:l.length=4):∃a b c d,l=[a,b,c,d]:=by
 match l,h with|[a,b,c,d],_=>exact⟨a,b,c,d,rfl⟩
theorem V2 {f:Type} {l:List f} (h:l.length=5):∃a b c d e,l=[a,b,c,d,e]:=by
 match l,h with|[a,b,c,d,e],_=>exact⟨a,b,c,d,e,rfl⟩
theorem aix {g:Type} {l:List g} (h:l.length=6):∃a b c d e f,l=[a,b,c,d,e,f]:=by
 match l,h with|[a,b,c,d,e,f],_=>exact⟨a,b,c,d,e,f,rfl⟩
theorem Cd {W a:List Nat} {e:Env} (b:eO W e0 e) (r:List Nat):aY (aX W e e0) (vC a (λi=>e<|a.getD i 0) r)=e:=by
 rw[zF b,HT (by
  intro p c;have:∀(r:List Nat),p∈vC a (λi=>e<|a.getD i 0) r->e p.1=p.2:=by
   intro r;induction r with
   |nil=>intro h;cases h
   |cons j r d=>
    intro h;rcases mC.1 h with h|h
    .subst h;rfl
    .exact d h
  exact this _ c)]
theorem kC {N R:Env->World->Prop} {X:Nat->Env->World->Prop} {id:Nat} {C:Env} {y:World} (hm:P.follows .mixedOrders=true) (J:List Nat) (m:Nat) (W c:List Nat) (g:List (List Nat)) (q:List Ie) (b:List Nat) (T:List (List Nat->List Value->World->Prop)) 
  (hB:vE l m W c g=true) (hE:PI l m b q=true) (hL:fI J y) (hF:Cb q) (hJ:LC T) (h0:T.getD 0 (λ_ _ _=>True) J [] y)
  (hc:xh P n l.toArray W c q T C J y 0 (l.take m) g)
  (ht:∀(x:Env) (w:World) (G:List Nat) (aU:List Value),Fr J y G w->fI G w->T.getD b.length (λ_ _ _=>True) G aU w->aU.length=b.length->yq q c G aU w (List.range m) λacc=>OW P n l.toArray N (l.drop m) (aY (aX W x C) acc) w):
  CW P n (.region id l.toArray true) N R X C y:=λa ha=>by
 refine wp_region_any hm ?_;have gY:aj [] y {y with drawn:=y.drawn+1}:=aj.drew _ _;obtain⟨_,_,_,jO,mG⟩:=FN hB;obtain⟨L,kK⟩:=aiw hE;have dD:∀i j,i<m->j<m->i≠j->c.getD j 0≠c.getD i 0:=λi j hi f nq=>by rw[gG,gG,gE om,gE om];simp only[Option.getD_some];intro V;exact nq ((List.getElem_inj jO).1 V.symm)
 let Inv:(Nat->Bool)->Env->World->Prop:=λS e w=>∃G k,eO W C e/\Fr J y G w/\fI G w/\k<=b.length/\(∀t,t<b.length->(S (b.getD t 0)=true↔t<k))/\
  T.getD k (λ_ _ _=>True) G ((b.take k).map λi=>e<|c.getD i 0) w/\∀i,i<m->S i=true->(q.getD i nD).F G (e<|c.getD i 0) w
 have IB:∀(S:Nat->Bool) (e:Env) (k:Nat),(∀t,t<b.length->(S (b.getD t 0)=true↔t<k))->k<=b.length->∀j t,j<m->S j=true->(q.getD j nD).lk=some t->((b.take k).map λi=>e<|c.getD i 0).getD t undef=e (c.getD j 0):=by intro S e k A hk j t f F V;obtain⟨r,s⟩:=kK j t f V;have K:t<k:=(A t r).1 (by rw[s];exact F);rw[gG,List.getElem?_map,List.getElem?_take,iP K,gE r];rw[gG,gE r] at s;simp only[Option.getD_some] at s;simp[s]
 have step:∀(S:Nat->Bool) (e:Env) (w:World) (i:Nat) (o:Oper),i<m->l[i]?=some o->S i=false->(∀j,waits o j=true->S j=true)->Inv S e w->
   OW P n l.toArray (λp w'=>Inv (λj=>if j=i then true else S j) p w') [o] e w:=by
  rintro S e w i o sn Z vS Ce ⟨G,k,rz,bN,qT,iq,A,xi,p9⟩;obtain⟨hW,Bw⟩:=(mG i o Z).2.1 sn;obtain⟨dp,Bx⟩:∃d,g[i]?=some d:=⟨g[i]'om,gE om⟩;have vF:g.getD i []=dp:=by rw[gG,Bx];rfl
  rw[vF] at Bw;have E:=VY (l.take m) g 0 hc i o dp (by rw[List.getElem?_take,iP sn];exact Z) Bx;rw[Nat.zero_add] at E;have hd:∀j∈dp,(q.getD j nD).F G (e (c.getD j 0)) w/\∀t,(q.getD j nD).lk=some t->((b.take k).map λi=>e<|c.getD i 0).getD t undef=e (c.getD j 0):=λj f=>by obtain⟨r,s⟩:=Bw j f;exact⟨p9 j s<|Ce j r,λt D=>IB S e k A iq j t s (Ce j r) D⟩
  have IC:∀p,eO [c.getD i 0] e p->eO W C p:=λp h t D0=>by
   have Gk:t≠c.getD i 0:=λV=>by rw[V,hW] at D0;cases D0
   rw[h t (by simpa using Gk)];exact rz t D0
  have Cf:∀p,eO [c.getD i 0] e p->∀j,j<m->j≠i->p (c.getD j 0)=e (c.getD j 0):=λp h j f B=>h _ (by simpa using dD i j sn f λh=>B h.symm);have fO:[o]=[o]++[]:=rfl;cases O:(q.getD i nD).lk with
  |none=>
   unfold Gi at E;rw[O] at E;have r:=Ca (E e w G _ bN qT) (vs:=λj=>e<|c.getD j 0) hd;rw[Cd rz] at r;rw[fO];refine x5 r ?_;rintro p w' ⟨qH,z6,H⟩;refine bf ⟨G,k,IC p H,bN.ext qH,λx hx=>lL (qT x hx) qH.size,iq,λt z=>?_,?_,λj f F=>?_⟩
   .have I:b.getD t 0≠i:=λh=>by have:=(L t z).2.1;rw[h,O] at this;cases this
    simp only[iN I];exact A t z
   .have U:((b.take k).map λi=>p<|c.getD i 0)=(b.take k).map λi=>e (c.getD i 0):=by
     apply List.map_congr_left;intro j f;obtain⟨t,v⟩:=List.mem_iff_getElem?.1 f;rw[List.getElem?_take] at v;split at v
     .have z:t<b.length:=(List.getElem?_eq_some_iff.1 v).1;have wP:b.getD t 0=j:=by rw[gG,v];rfl
      have K:=L t z;rw[wP] at K;exact Cf p H j K.1 λh=>by rw[h,O] at K;cases K.2.1
     .cases v
    rw[U];exact IA hJ k xi qH
   .by_cases B:j=i
    .rw[B];exact z6
    .simp only[iN B] at F;rw[Cf p H j f B];exact V0 hF j (p9 j f F)<|Fr.of qH sm
  |some t=>
   unfold Gi at E;rw[O] at E;obtain⟨z,I⟩:=kK i t sn O;have uF:k=t:=by
    have r:¬t<k:=λh=>by have:=(A t z).2 h;rw[I,vS] at this;cases this
    rcases Nat.eq_zero_or_pos t with h0|h0
    .omega
    .obtain⟨_,nY,ID⟩:=(L t z).2.2 om;rw[I,Z] at nY;cases nY;have:=(A (t-1) om).1<|Ce _ ID;omega
   subst uF;have Y:((b.take k).map λi=>e<|c.getD i 0).length=k:=by simp;omega
   have r:=Ca (E e w G _ bN qT xi Y) (vs:=λj=>e<|c.getD j 0) hd;rw[Cd rz] at r;rw[fO];refine x5 r ?_;rintro p w' ⟨⟨G',yr,D1,Gl,z6⟩,H⟩;have IE:∀u,u<b.length->b.getD u 0=i->u=k:=λu r s=>by have:=(L u r).2.1;rw[s,O] at this;cases this;rfl
   refine bf ⟨G',k+1,IC p H,bN.go yr,D1,om,λu Q=>?_,?_,λj f F=>?_⟩
   .by_cases s:b.getD u 0=i
    .have:=IE u Q s;simp only[iP s];exact⟨λ_=>om,λ_=>trivial⟩
    .simp only[iN s];rw[A u Q];have:u≠k:=λh=>by rw[h] at s;exact s I
     omega
   .have U:((b.take<|k+1).map λi=>p<|c.getD i 0)=((b.take k).map λi=>e<|c.getD i 0)++[p (c.getD i 0)]:=by
     have s:b[k]?=some i:=by rw[gG,gE z] at I;rw[gE z];simpa using I
     rw[List.take_add_one,s,List.map_append]
     congr 1
     apply List.map_congr_left;intro j f;obtain⟨u,v⟩:=List.mem_iff_getElem?.1 f;rw[List.getElem?_take] at v;split at v
     .rename_i eN;have Q:u<b.length:=(List.getElem?_eq_some_iff.1 v).1;have wP:b.getD u 0=j:=by rw[gG,v];rfl
      exact Cf p H j (by have:=(L u Q).1;rw[wP] at this;exact this) λh=>by have:=IE u Q<|wP.trans h;omega
     .cases v
    rw[U];exact Gl
   .by_cases B:j=i
    .rw[B];exact z6
    .simp only[iN B] at F;rw[Cf p H j f B];exact V0 hF j (p9 j f F) yr
 have tail:∀(S:Nat->Bool) (e:Env) (w:World),(∀i,i<m->S i=true)->Inv S e w->OW P n l.toArray N (l.drop m) e w:=by
  rintro S e w Ch ⟨G,k,rz,bN,qT,iq,A,xi,p9⟩;have hk:k=b.length:=by
   rcases Nat.lt_or_ge k b.length with h|h
   .have:=(A k h).1<|Ch _ (L k h).1;omega
   .omega
  subst hk;have r:=Ca (ht e w G _ bN qT xi sm) (vs:=λj=>e<|c.getD j 0) (λj f=>by have M:=List.mem_range.1 f;exact⟨p9 j M<|Ch j M,λt D=>IB S e _ A iq j t M (Ch j M) D⟩);rw[Cd rz] at r;exact r
 have jr:∀j,(Array.replicate l.length false).getD j false=false:=λj=>by rw[Array.getD_eq_getD_getElem?,Array.getElem?_replicate];split<;>rfl
 have PK:Inv (λj=>(Array.replicate l.length false).getD j false) C {y with drawn:=y.drawn+1}:=by
  refine⟨J,0,zE,Fr.of gY sm,λx hx=>hL x hx,Nat.zero_le _,λt z=>?_,IA hJ 0 h0 gY,λi hi vS=>?_⟩
  .constructor
   .intro h;exact absurd ((jr (b.getD t 0)).symm.trans h) sm
   .intro h;omega
  .exact absurd ((jr i).symm.trans vS) sm
 have:=VW (N:=N) (Inv:=Inv) hB step tail (mc n N R X) l.length (Array.replicate l.length false) C a _ ha sm
  (by
   have:((List.range l.length).filter λj=>!(Array.replicate l.length false).getD j true)=List.range l.length:=by rw[List.filter_eq_self];intro j f;rw[List.mem_range] at f;simp[Array.getD_eq_getD_getElem?,f]
   rw[this];simp)
  (by intro j _ f;simp[Array.getD_eq_getD_getElem?,f])
  PK
  (by intro j o Z f;have M:j<l.length:=(List.getElem?_eq_some_iff.1 Z).1;simp[Array.getD_eq_getD_getElem?,M] at f)
 have U:qD n N (mc n N R X)=mc n N R X:=by funext x a w;cases x<;>rfl
 rw[U] at this;simpa using this
end
section
variable {P:Program} {n:Nat} {ops:Array Oper} {e:Env} {w w':World} {G:List Nat}
theorem fv (h:v=V:=by rfl):OW P n ops (λa w'=>aj [] w w'/\(Ie.v V).F G (a d) w'/\eO [d] e a) [] (cj e (some d) v) w:=
 bf ⟨aj.refl _ _,by subst h;exact ni _ _ _,qG⟩
theorem fk (k:aj [] w w') (h:v=V:=by rfl):OW P n ops (λa w'=>aj [] w w'/\(Ie.v V).F G (a d) w'/\eO [d] e a) [] (cj e (some d) v) w':=
 bf ⟨k,by subst h;exact ni _ _ _,qG⟩
theorem ff {f:List Nat->Value->World->Prop} (k:aj [] w w') (h:f G v w'):OW P n ops (λa w'=>aj [] w w'/\(Ie.p f).F G (a d) w'/\eO [d] e a) [] (cj e (some d) v) w':=
 bf ⟨k,by show f G (jc e d v d) w';rw[ni];exact h,qG⟩
theorem fe {aU:List Value} (a:List Nat) (k:Fr G w a w') (c:fI a w') (h:J a (aU++[v]) w'):OW P n ops (λb w'=>(∃a,Fr G w a w'/\fI a w'/\J a (aU++[b d]) w'/\(Ie.e t).F a (b d) w')/\eO [d] e b) [] (cj e (some d) v) w':=
 bf ⟨⟨a,k,c,by show J a (aU++[jc e d v d]) w';rw[ni];exact h,trivial⟩,qG⟩
theorem fw {aU:List Value} (a:List Nat) (k:Fr G w a w') (c:fI a w') (h:J a (aU++[v]) w') (f:v=V:=by rfl):OW P n ops (λb w'=>(∃a,Fr G w a w'/\fI a w'/\J a (aU++[b d]) w'/\(Ie.w t V).F a (b d) w')/\eO [d] e b) [] (cj e (some d) v) w':=
 bf ⟨⟨a,k,c,by show J a (aU++[jc e d v d]) w';rw[ni];exact h,by subst f;exact ni _ _ _⟩,qG⟩
theorem fq {f:Value->Prop} {aU:List Value} (a:List Nat) (k:Fr G w a w') (c:fI a w') (h:J a (aU++[v]) w') (g:f v):OW P n ops (λb w'=>(∃a,Fr G w a w'/\fI a w'/\J a (aU++[b d]) w'/\(Ie.q t f).F a (b d) w')/\eO [d] e b) [] (cj e (some d) v) w':=
 bf ⟨⟨a,k,c,by show J a (aU++[jc e d v d]) w';rw[ni];exact h,by show f (jc e d v d);rw[ni];exact g⟩,qG⟩
end
inductive Iu where
 |v (V:Value)
 |p (f:List Nat->Value->World->Prop)
 |e (t:Nat)
 |w (t:Nat) (V:Value)
 |d (f:List Value->Value)
 |u
def Iu.F:Iu->List Nat->Value->World->Prop
 | .v V=>λ_ v _=>v=V
 | .p f=>f
 | .w _ V=>λ_ v _=>v=V
 |_=>λ_ _ _=>True
def Iu.lk:Iu->Option Nat
 | .e t=>some t
 | .w t _=>some t
 |_=>none
def Iu.tl:Iu->Bool
 | .u=>true
 |_=>false
def Iu.late:Iu->Bool
 | .u=>true
 | .d _=>true
 |_=>false
abbrev gD:Iu:=.p λ_ _ _=>True
def uG (b:List Iu) (c:List Nat) (G:List Nat) (aU:List Value) (w:World):List Nat->(List (Nat×Value)->Prop)->Prop
 |[],k=>k []
 |j::r,k=>match b.getD j gD with
  | .v V=>uG b c G aU w r λa=>k ((c.getD j 0,V)::a)
  | .p f=>∀v,f G v w->uG b c G aU w r λa=>k ((c.getD j 0,v)::a)
  | .e t=>uG b c G aU w r λa=>k ((c.getD j 0,aU.getD t undef)::a)
  | .w _ V=>uG b c G aU w r λa=>k ((c.getD j 0,V)::a)
  | .d f=>uG b c G aU w r λa=>k ((c.getD j 0,f aU)::a)
  | .u=>∀v,uG b c G aU w r λa=>k ((c.getD j 0,v)::a)
def V3 (q:Iu) (G:List Nat) (aU:List Value) (v:Value) (w:World):Prop:=q.F G v w/\(∀t,q= .e t->aU.getD t undef=v)/\∀f,q= .d f->f aU=v
theorem xj {b:List Iu} {l:List Nat} {aU:List Value} {vs:Nat->Value}:∀{deps:List Nat} {k:List (Nat×Value)->Prop},uG b l G aU w deps k->
  (∀j∈deps,V3 (b.getD j gD) G aU (vs j) w)->k (vC l vs deps)
 |[],k,h,_=>h
 |j::r,k,h,hd=>by
  obtain⟨c,m,o⟩:=hd j<|List.mem_cons_self ..;unfold uG at h;have g:∀i∈r,_:=λi n=>hd i<|mK _ n;cases e:b.getD j gD with
  |v V=>rw[e] at h c;have a:vs j=V:=c;subst a;exact xj (deps:=r) h g
  |p f=>rw[e] at h c;exact xj (deps:=r) (h _ c) g
  |e t=>rw[e] at h;have a:=m t e;simp only[a] at h;exact xj (deps:=r) h g
  |w t V=>rw[e] at h c;have a:vs j=V:=c;subst a;exact xj (deps:=r) h g
  |d f=>rw[e] at h;have a:=o f e;simp only[a] at h;exact xj (deps:=r) h g
  |u=>rw[e] at h;exact xj (deps:=r) (h _) g
section
variable (P:Program) (n:Nat) (ops:Array Oper) (W ds:List Nat) (its:List Iu) (Js:List (List Nat->List Value->World->Prop)) (JF:(Nat->Bool)->List Nat->List Value->World->Prop) (e0:Env) (G0:List Nat) (w0:World)
def LD (i:Nat) (o:Oper) (b:List Nat):Prop:=
 ∀(x:Env) (w:World) (G:List Nat) (aU:List Value),Fr G0 w0 G w->fI G w->uG its ds G aU w b λa=>
  OW P n ops (λc w'=>aj [] w w'/\(its.getD i gD).F G (c<|ds.getD i 0) w'/\eO [ds.getD i 0] (aY (aX W x e0) a) c) [o] (aY (aX W x e0) a) w
def IF (t i:Nat) (o:Oper) (b:List Nat):Prop:=
 ∀(x:Env) (w:World) (G:List Nat) (aU:List Value),Fr G0 w0 G w->fI G w->Js.getD t (λ_ _ _=>True) G aU w->aU.length=t->uG its ds G aU w b λa=>
  OW P n ops (λd w'=>(∃c,Fr G w c w'/\fI c w'/\Js.getD (t+1) (λ_ _ _=>True) c (aU++[d (ds.getD i 0)]) w'/\(its.getD i gD).F c (d<|ds.getD i 0) w')/\eO [ds.getD i 0] (aY (aX W x e0) a) d) [o] (aY (aX W x e0) a) w
def PL (ne:Nat) (f:List Value->Value) (i:Nat) (o:Oper) (b:List Nat):Prop:=
 ∀(x:Env) (w:World) (G:List Nat) (aU:List Value) (S:Nat->Bool),Fr G0 w0 G w->fI G w->JF S G aU w->aU.length=ne->uG its ds G aU w b λa=>
  OW P n ops (λc w'=>aj [] w w'/\c (ds.getD i 0)=f aU/\eO [ds.getD i 0] (aY (aX W x e0) a) c) [o] (aY (aX W x e0) a) w
def PM (ne i:Nat) (o:Oper) (b:List Nat):Prop:=
 ∀(x:Env) (w:World) (G:List Nat) (aU:List Value) (S:Nat->Bool),Fr G0 w0 G w->fI G w->JF S G aU w->S i=false->aU.length=ne->uG its ds G aU w b λa=>
  OW P n ops (λd w'=>(∃c,Fr G w c w'/\fI c w'/\JF (λj=>if j=i then true else S j) c aU w')/\eO [ds.getD i 0] (aY (aX W x e0) a) d) [o] (aY (aX W x e0) a) w
def uc (ne i:Nat) (o:Oper) (a:List Nat):Prop:=match its.getD i gD with
 | .e t=>IF P n ops W ds its Js e0 G0 w0 t i o a
 | .w t _=>IF P n ops W ds its Js e0 G0 w0 t i o a
 | .d f=>PL P n ops W ds its JF e0 G0 w0 ne f i o a
 | .u=>PM P n ops W ds its JF e0 G0 w0 ne i o a
 |_=>LD P n ops W ds its e0 G0 w0 i o a
def sC (ne:Nat):Nat->List Oper->List (List Nat)->Prop
 |_,[],_=>True
 |_,_::_,[]=>True
 |k,o::l,d::r=>uc P n ops W ds its Js JF e0 G0 w0 ne k o d/\sC ne (k+1) l r
end
section
variable {P:Program} {n:Nat} {ops:Array Oper} {W ds:List Nat} {its:List Iu} {Js:List (List Nat->List Value->World->Prop)} {JF:(Nat->Bool)->List Nat->List Value->World->Prop} {e0:Env} {G0:List Nat} {w0:World} {ne:Nat}
theorem uf {d:List Nat} (h:LD P n ops W ds its e0 G0 w0 k o d) (a:sC P n ops W ds its Js JF e0 G0 w0 ne (k+1) l r) (hk:(its.getD k gD).lk=none/\(its.getD k gD).late=false:=by exact⟨rfl,rfl⟩):sC P n ops W ds its Js JF e0 G0 w0 ne k (o::l) (d::r):=by grind [LD,sC,Ie.lk,Iu.lk,Iu.late,uc]
theorem ue (t:Nat) {d:List Nat} (h:IF P n ops W ds its Js e0 G0 w0 t k o d) (a:sC P n ops W ds its Js JF e0 G0 w0 ne (k+1) l r) (hk:(its.getD k gD).lk=some t:=by rfl):sC P n ops W ds its Js JF e0 G0 w0 ne k (o::l) (d::r):=by grind [IF,sC,Ie.lk,Iu.lk,uc]
theorem ud {d:List Nat} {f:List Value->Value} (h:PL P n ops W ds its JF e0 G0 w0 ne f k o d) (a:sC P n ops W ds its Js JF e0 G0 w0 ne (k+1) l r) (hk:its.getD k gD= .d f:=by rfl):sC P n ops W ds its Js JF e0 G0 w0 ne k (o::l) (d::r):=by grind [PL,sC,uc]
theorem uu {d:List Nat} (h:PM P n ops W ds its JF e0 G0 w0 ne k o d) (a:sC P n ops W ds its Js JF e0 G0 w0 ne (k+1) l r) (hk:its.getD k gD= .u:=by rfl):sC P n ops W ds its Js JF e0 G0 w0 ne k (o::l) (d::r):=by grind [PM,sC,uc]
theorem V4:∀(l:List Oper) (a:List (List Nat)) (k:Nat),sC P n ops W ds its Js JF e0 G0 w0 ne k l a->∀(i:Nat) (o:Oper) (d:List Nat),l[i]?=some o->a[i]?=some d->uc P n ops W ds its Js JF e0 G0 w0 ne (k+i) o d
 |[],_,_,_,i,o,d,h,_=>by simp at h
 |_::_,[],_,_,i,o,d,_,h=>by simp at h
 |o::l,d::r,k,h,0,o',d',ho,hd=>by simp at ho hd;subst ho;subst hd;exact h.1
 |o::l,d::r,k,h,i+1,o',d',ho,hd=>by have:=V4 l r (k+1) h.2 i o' d' (by simpa using ho) (by simpa using hd);rwa [show k+1+i=k+(i+1) by omega] at this
end
def uB (l:List Oper) (m:Nat) (a:List Nat) (b:List Iu):Bool:=
 (List.range a.length).all (λt=>decide (a.getD t 0<m)&&((b.getD (a.getD t 0) gD).lk==some t)&&(decide (t=0)||(match l[a.getD t 0]? with|some o=>waits o (a.getD (t-1) 0)|none=>false)))&&
 (List.range m).all (λi=>(match(b.getD i gD).lk with|some t=>decide (t<a.length)&&decide (a.getD t 0=i)|none=>true)&&
  (!(b.getD i gD).late||decide (a.length=0)||(match l[i]? with|some o=>waits o (a.getD (a.length-1) 0)|none=>false)))&&
 decide (b.length<=m)
theorem aiy {d:List Nat} {e:List Iu} (h:uB l m d e=true):
  (∀t,t<d.length->d.getD t 0<m/\(e.getD (d.getD t 0) gD).lk=some t/\(t≠0->∃o,l[d.getD t 0]?=some o/\waits o (d.getD (t-1) 0)=true))/\
  (∀i t,i<m->(e.getD i gD).lk=some t->t<d.length/\d.getD t 0=i)/\
  (∀i,i<m->(e.getD i gD).late=true->d.length≠0->∃o,l[i]?=some o/\waits o (d.getD (d.length-1) 0)=true)/\e.length<=m:=by
 unfold uB at h;rw[aE,aE,List.all_eq_true,List.all_eq_true,dE] at h;obtain⟨⟨p,j⟩,q⟩:=h;refine⟨λt u=>?_,λi t g r=>?_,λi g f s=>?_,q⟩
 .have:=p t<|List.mem_range.2 u;simp only[aE,dE,beq_iff_eq,oE] at this;obtain⟨⟨a,b⟩,c⟩:=this;refine⟨a,b,λn=>?_⟩;rcases c with c|c
  .exact absurd c n
  .cases f:l[d.getD t 0]? with
   |none=>rw[f] at c;cases c
   |some o=>rw[f] at c;exact⟨o,rfl,c⟩
 .have:=j i<|List.mem_range.2 g;rw[r] at this;simp only[aE,dE] at this;exact this.1
 .have:=j i<|List.mem_range.2 g;rw[aE,f] at this;have:=this.2;simp only[Bool.not_true,Bool.false_or,oE,dE] at this;rcases this with c|c
  .exact absurd c s
  .cases f:l[i]? with
   |none=>rw[f] at c;cases c
   |some o=>rw[f] at c;exact⟨o,rfl,c⟩
def IG:List Iu->Prop
 |[]=>True
 | .p f::r=>(∀G v w a w',f G v w->Fr G w a w'->f a v w')/\IG r
 |_::r=>IG r
theorem D3:∀{its:List Iu},IG its->∀q∈its,∀G v w b w',q.F G v w->Fr G w b w'->q.F b v w'
 |s::r,h,q,hq,G,v,w,b,w',hf,hk=>by
  rcases mC.1 hq with e|a
  .subst e;cases q with
   |p f=>exact h.1 _ _ _ _ _ hf hk
   |_=>exact hf
  .cases s with
   |p f=>exact D3 (its:=r) h.2 q a _ _ _ _ _ hf hk
   |v V=>exact D3 (its:=r) h q a _ _ _ _ _ hf hk
   |e t=>exact D3 (its:=r) h q a _ _ _ _ _ hf hk
   |w t V=>exact D3 (its:=r) h q a _ _ _ _ _ hf hk
   |d f=>exact D3 (its:=r) h q a _ _ _ _ _ hf hk
   |u=>exact D3 (its:=r) h q a _ _ _ _ _ hf hk
theorem V5 {a:List Iu} (h:IG a) (i:Nat) {c:List Nat} (b:(a.getD i gD).F G v w) (hk:Fr G w c w'):(a.getD i gD).F c v w':=by
 rw[gG] at b⊢;cases e:a[i]? with
 |none=>trivial
 |some q=>rw[e] at b;exact D3 h q (List.mem_of_getElem? e) _ _ _ _ _ b hk
section
variable {P:Program} {n:Nat} {l:List Oper} {m:Nat} {W ds:List Nat} {deps:List (List Nat)}
theorem V6 {N R:Env->World->Prop} {X:Nat->Env->World->Prop} {id:Nat} {Z:Env} {K:World} (hm:P.follows .mixedOrders=true) (G0:List Nat) (m:Nat) (W s:List Nat) (B:List (List Nat)) (c:List Iu) (b:List Nat) (Js:List (List Nat->List Value->World->Prop)) (JF:(Nat->Bool)->List Nat->List Value->World->Prop) 
  (hB:vE l m W s B=true) (hE:uB l m b c=true) (hL:fI G0 K) (hF:IG c) (hJ:LC Js) (V7:∀S G vs w w',JF S G vs w->aj [] w w'->JF S G vs w') (h0:Js.getD 0 (λ_ _ _=>True) G0 [] K)
  (LF:∀G vs w,Js.getD b.length (λ_ _ _=>True) G vs w->vs.length=b.length->JF (λ_=>false) G vs w)
  (hc:sC P n l.toArray W s c Js JF Z G0 K b.length 0 (l.take m) B)
  (ht:∀(x:Env) (w:World) (G:List Nat) (aU:List Value),Fr G0 K G w->fI G w->JF (λi=>(c.getD i gD).tl) G aU w->aU.length=b.length->uG c s G aU w (List.range m) λacc=>OW P n l.toArray N (l.drop m) (aY (aX W x Z) acc) w):
  CW P n (.region id l.toArray true) N R X Z K:=λa ha=>by
 refine wp_region_any hm ?_;have gY:aj [] K {K with drawn:=K.drawn+1}:=aj.drew _ _;obtain⟨_,_,_,jO,mG⟩:=FN hB;obtain⟨oo,kK,Ci,_⟩:=aiy hE;have dD:∀i j,i<m->j<m->i≠j->s.getD j 0≠s.getD i 0:=λi j hi q nq=>by rw[gG,gG,gE om,gE om];simp only[Option.getD_some];intro he;exact nq ((List.getElem_inj jO).1 he.symm)
 let I:Nat->Env->List Value:=λk e=>(b.take k).map λi=>e<|s.getD i 0;let Y:(Nat->Bool)->Nat->Bool:=λS i=>S i&&(c.getD i gD).tl;let Inv:(Nat->Bool)->Env->World->Prop:=λS e w=>∃G k,eO W Z e/\Fr G0 K G w/\fI G w/\k<=b.length/\(∀t,t<b.length->(S (b.getD t 0)=true↔t<k))/\
  (k<b.length->Js.getD k (λ_ _ _=>True) G (I k e) w/\∀i,i<m->S i=true->(c.getD i gD).late=false)/\(k=b.length->JF (Y S) G (I k e) w)/\
  ∀i,i<m->S i=true->(c.getD i gD).F G (e<|s.getD i 0) w/\∀f,c.getD i gD= .d f->f (I k e)=e (s.getD i 0)
 have IB:∀(S:Nat->Bool) (e:Env) (k:Nat),(∀t,t<b.length->(S (b.getD t 0)=true↔t<k))->k<=b.length->∀j t,j<m->S j=true->(c.getD j gD).lk=some t->(I k e).getD t undef=e (s.getD j 0):=by intro S e k O hk j t q F he;obtain⟨y,C⟩:=kK j t q he;have U:t<k:=(O t y).1 (by rw[C];exact F);show((b.take k).map λi=>e<|s.getD i 0).getD t undef=_;rw[gG,List.getElem?_map,List.getElem?_take,iP U,gE y];rw[gG,gE y] at C;simp only[Option.getD_some] at C;simp[C]
 have IH:∀k e,k<=b.length->(I k e).length=k:=λk e hk=>by show((b.take k).map _).length=k;simp;omega
 have step:∀(S:Nat->Bool) (e:Env) (w:World) (i:Nat) (o:Oper),i<m->l[i]?=some o->S i=false->(∀j,waits o j=true->S j=true)->Inv S e w->
   OW P n l.toArray (λg w'=>Inv (λj=>if j=i then true else S j) g w') [o] e w:=by
  rintro S e w i o sn ho vS Ce ⟨G,k,rz,bN,qT,iq,O,xi,Gm,p9⟩;obtain⟨hW,Bw⟩:=(mG i o ho).2.1 sn;obtain⟨dp,Bx⟩:∃d,B[i]?=some d:=⟨B[i]'om,gE om⟩;have vF:B.getD i []=dp:=by rw[gG,Bx];rfl
  rw[vF] at Bw;have A:=V4 (l.take m) B 0 hc i o dp (by rw[List.getElem?_take,iP sn];exact ho) Bx;rw[Nat.zero_add] at A;have hd:∀j∈dp,V3 (c.getD j gD) G (I k e) (e (s.getD j 0)) w:=λj q=>by obtain⟨y,C⟩:=Bw j q;have U:=p9 j C<|Ce j y;exact⟨U.1,λt het=>IB S e k O iq j t C (Ce j y) (by rw[het];rfl),U.2⟩
  have IC:∀g,eO [s.getD i 0] e g->eO W Z g:=λg h t D0=>by
   have Gk:t≠s.getD i 0:=λhe=>by rw[he,hW] at D0;cases D0
   rw[h t (by simpa using Gk)];exact rz t D0
  have Cf:∀g,eO [s.getD i 0] e g->∀j,j<m->j≠i->g (s.getD j 0)=e (s.getD j 0):=λg h j q z=>h _ (by simpa using dD i j sn q λh=>z h.symm);have fO:[o]=[o]++[]:=rfl;have V8:∀g,eO [s.getD i 0] e g->∀k',k'<=b.length->(∀t,t<k'->b.getD t 0≠i)->I k' g=I k' e:=λg H k' qH oq=>by
   show(b.take k').map _=(b.take k').map _;apply List.map_congr_left;intro j q;obtain⟨t,oX⟩:=List.mem_iff_getElem?.1 q;rw[List.getElem?_take] at oX;split at oX
   .rename_i eN;have E:t<b.length:=(List.getElem?_eq_some_iff.1 oX).1;have wP:b.getD t 0=j:=by rw[gG,oX];rfl
    exact Cf g H j (by have:=(oo t E).1;rw[wP] at this;exact this) λh=>oq t eN<|wP.trans h
   .cases oX
  -- what is late comes behind the last effect
  have V9:(c.getD i gD).late=true->k=b.length:=λhl=>by
   rcases Nat.eq_zero_or_pos b.length with h0|h0
   .omega
   .obtain⟨o',nY,ID⟩:=Ci i sn hl om;rw[ho] at nY;cases nY;have:=(O (b.length-1) om).1<|Ce _ ID;omega
  -- an operation that is no effect in the order
  have T:∀(g:Env) (w':World) (M:List Nat),(c.getD i gD).lk=none->eO [s.getD i 0] e g->Fr G w M w'->fI M w'->
    (k<b.length->Js.getD k (λ_ _ _=>True) M (I k e) w'/\(c.getD i gD).late=false)->(k=b.length->JF (Y λj=>if j=i then true else S j) M (I k e) w')->
    (c.getD i gD).F M (g<|s.getD i 0) w'->(∀f,c.getD i gD= .d f->f (I k e)=g (s.getD i 0))->Inv (λj=>if j=i then true else S j) g w':=by
   intro g w' M uA H yr D1 Cj tq z6 hDi;have oq:∀t,t<b.length->b.getD t 0≠i:=λt E h=>by have:=(oo t E).2.1;rw[h,uA] at this;cases this
   have D4:=V8 g H k iq λt ht=>oq t om;refine⟨M,k,IC g H,bN.go yr,D1,iq,λt E=>?_,λeN=>⟨?_,λj q F=>?_⟩,λD=>?_,λj q F=>?_⟩
   .simp only[iN (oq t E)];exact O t E
   .rw[D4];exact(Cj eN).1
   .by_cases z:j=i
    .rw[z];exact(Cj eN).2
    .simp only[iN z] at F;exact(xi eN).2 j q F
   .rw[D4];exact tq D
   .rw[D4];by_cases z:j=i
    .rw[z];exact⟨z6,hDi⟩
    .simp only[iN z] at F;rw[Cf g H j q z];exact⟨V5 hF j (p9 j q F).1 yr,(p9 j q F).2⟩
  have Wa:(c.getD i gD).tl=false->Y (λj=>if j=i then true else S j)=Y S:=λh=>by
   funext j;show((if j=i then true else S j)&&(c.getD j gD).tl)=(S j&&(c.getD j gD).tl);by_cases z:j=i
   .rw[z,h];simp
   .rw[iN z]
  -- the cases
  have J:LD P n l.toArray W s c Z G0 K i o dp->(c.getD i gD).lk=none->(c.getD i gD).late=false->(∀f,c.getD i gD≠ .d f)->(c.getD i gD).tl=false->OW P n l.toArray (λg w'=>Inv (λj=>if j=i then true else S j) g w') [o] e w:=by intro A uA II PN Wb;have y:=xj (A e w G _ bN qT) (vs:=λj=>e<|s.getD j 0) hd;rw[Cd rz] at y;rw[fO];refine x5 y ?_;rintro g w' ⟨qH,z6,H⟩;exact bf (T g w' G uA H (Fr.of qH sm) (λx hx=>lL (qT x hx) qH.size) (λeN=>⟨IA hJ k (xi eN).1 qH,II⟩) (λD=>by rw[Wa Wb];exact V7 _ _ _ _ _ (Gm D) qH) z6 λf Q=>absurd Q<|PN f)
  have effC:∀t,(c.getD i gD).lk=some t->IF P n l.toArray W s c Js Z G0 K t i o dp->(c.getD i gD).late=false->(∀f,c.getD i gD≠ .d f)->(c.getD i gD).tl=false->OW P n l.toArray (λg w'=>Inv (λj=>if j=i then true else S j) g w') [o] e w:=by
   intro t uA A II PN Wb;obtain⟨E,uC⟩:=kK i t sn uA;have uF:k=t:=by
    have y:¬t<k:=λh=>by have:=(O t E).2 h;rw[uC,vS] at this;cases this
    rcases Nat.eq_zero_or_pos t with h0|h0
    .omega
    .obtain⟨o',nY,ID⟩:=(oo t E).2.2 om;rw[uC,ho] at nY;cases nY;have:=(O (t-1) om).1<|Ce _ ID;omega
   subst uF;have y:=xj (A e w G _ bN qT (xi E).1<|IH k e iq) (vs:=λj=>e<|s.getD j 0) hd;rw[Cd rz] at y;rw[fO];refine x5 y ?_;rintro g w' ⟨⟨M,yr,D1,Gl,z6⟩,H⟩;have IE:∀L,L<b.length->b.getD L 0=i->L=k:=λL y C=>by have:=(oo L y).2.1;rw[C,uA] at this;cases this;rfl
   have D4:I k g=I k e:=V8 g H k iq (λL _ h=>by have:=IE L om h;omega);have fy:I (k+1) g=I k e++[g (s.getD i 0)]:=by
    have C:b[k]?=some i:=by rw[gG,gE E] at uC;rw[gE E];simpa using uC
    rw[<-D4];show(b.take<|k+1).map _=(b.take k).map _++_;rw[List.take_add_one,C,List.map_append];rfl
   have Wc:∀j,j<m->(if j=i then true else S j)=true->(c.getD j gD).late=false:=λj q F=>by
    by_cases z:j=i
    .rw[z];exact II
    .rw[iN z] at F;exact(xi E).2 j q F
   refine bf ⟨M,k+1,IC g H,bN.go yr,D1,om,λL Cg=>?_,λ_=>⟨by rw[fy];exact Gl,Wc⟩,λD=>?_,λj q F=>?_⟩
   .by_cases C:b.getD L 0=i
    .have:=IE L Cg C;simp only[iP C];exact⟨λ_=>om,λ_=>trivial⟩
    .simp only[iN C];rw[O L Cg];have:L≠k:=λh=>by rw[h] at C;exact C uC
     omega
   .have e1:Y (λj=>if j=i then true else S j)=λ_=>false:=by
     funext j;show((if j=i then true else S j)&&(c.getD j gD).tl)=false;by_cases DE:j<m
     .cases hb:(if j=i then true else S j) with
      |false=>rfl
      |true=>
       have U:=Wc j DE hb;cases e:c.getD j gD with
       |u=>rw[e] at U;cases U
       |_=>rfl
     .rw[gG,List.getElem?_eq_none om];simp[Iu.tl]
    rw[e1];exact LF _ _ _ (by rw[fy,<-D];exact Gl) (by rw[IH _ _ om];omega)
   .by_cases z:j=i
    .rw[z];exact⟨z6,λf Q=>absurd Q<|PN f⟩
    .simp only[iN z] at F;rw[Cf g H j q z];refine⟨V5 hF j (p9 j q F).1 yr,λf Q=>?_⟩;have:=(xi E).2 j q F;rw[Q] at this;cases this
  cases r:c.getD i gD with
  |v V=>unfold uc at A;rw[r] at A;exact J A (by rw[r];rfl) (by rw[r];rfl) (λf h=>by rw[r] at h;cases h) (by rw[r];rfl)
  |p f=>unfold uc at A;rw[r] at A;exact J A (by rw[r];rfl) (by rw[r];rfl) (λf h=>by rw[r] at h;cases h) (by rw[r];rfl)
  |e t=>unfold uc at A;rw[r] at A;exact effC t (by rw[r];rfl) A (by rw[r];rfl) (λf h=>by rw[r] at h;cases h) (by rw[r];rfl)
  |w t V=>unfold uc at A;rw[r] at A;exact effC t (by rw[r];rfl) A (by rw[r];rfl) (λf h=>by rw[r] at h;cases h) (by rw[r];rfl)
  |d f=>unfold uc at A;rw[r] at A;have D:=V9 (by rw[r];rfl);have y:=xj (A e w G _ _ bN qT (Gm D) (by rw[IH k e iq];exact D)) (vs:=λj=>e<|s.getD j 0) hd;rw[Cd rz] at y;rw[fO];refine x5 y ?_;rintro g w' ⟨qH,D5,H⟩;exact bf (T g w' G (by rw[r];rfl) H (Fr.of qH sm) (λx hx=>lL (qT x hx) qH.size) (λeN=>om) (λD=>by rw[Wa (by rw[r];rfl)];exact V7 _ _ _ _ _ (Gm D) qH) (by rw[r];trivial) λf' Q=>by rw[r] at Q;cases Q;exact D5.symm)
  |u=>
   unfold uc at A;rw[r] at A;have D:=V9 (by rw[r];rfl);have y:=xj (A e w G _ _ bN qT (Gm D) (by show(S i&&_)=false;rw[vS];rfl) (by rw[IH k e iq];exact D)) (vs:=λj=>e<|s.getD j 0) hd;rw[Cd rz] at y;rw[fO];refine x5 y ?_;rintro g w' ⟨⟨M,yr,D1,Gl⟩,H⟩;refine bf (T g w' M (by rw[r];rfl) H yr D1 (λeN=>om) (λD=>?_) (by rw[r];trivial) λf' Q=>by rw[r] at Q;cases Q);have e1:Y (λj=>if j=i then true else S j)=λj=>if j=i then true else Y S j:=by
    funext j;show((if j=i then true else S j)&&(c.getD j gD).tl)=if j=i then true else(S j&&(c.getD j gD).tl)
    by_cases z:j=i
    .rw[iP z,iP z,z,r];rfl
    .rw[iN z,iN z]
   rw[e1];exact Gl
 have tail:∀(S:Nat->Bool) (e:Env) (w:World),(∀i,i<m->S i=true)->Inv S e w->OW P n l.toArray N (l.drop m) e w:=by
  rintro S e w Ch ⟨G,k,rz,bN,qT,iq,O,xi,Gm,p9⟩;have hk:k=b.length:=by
   rcases Nat.lt_or_ge k b.length with h|h
   .have:=(O k h).1<|Ch _ (oo k h).1;omega
   .omega
  subst hk;have e1:Y S=λi=>(c.getD i gD).tl:=by
   funext j;show(S j&&(c.getD j gD).tl)=_;by_cases DE:j<m
   .rw[Ch j DE];rfl
   .rw[gG,List.getElem?_eq_none om];simp[Iu.tl]
  have q:=Gm rfl;rw[e1] at q;have y:=xj (ht e w G _ bN qT q (IH _ e<|lR _)) (vs:=λj=>e<|s.getD j 0) (λj q=>by have qI:=List.mem_range.1 q;have U:=p9 j qI<|Ch j qI;exact⟨U.1,λt het=>IB S e _ O iq j t qI (Ch j qI) (by rw[het];rfl),U.2⟩);rw[Cd rz] at y;exact y
 have jr:∀j,(Array.replicate l.length false).getD j false=false:=λj=>by rw[Array.getD_eq_getD_getElem?,Array.getElem?_replicate];split<;>rfl
 have PK:Inv (λj=>(Array.replicate l.length false).getD j false) Z {K with drawn:=K.drawn+1}:=by
  have HV:=IA hJ 0 h0 gY;refine⟨G0,0,zE,Fr.of gY sm,λx hx=>hL x hx,Nat.zero_le _,λt E=>?_,λ_=>⟨HV,λi hi vS=>?_⟩,λD=>?_,λi hi vS=>?_⟩
  .constructor
   .intro h;exact absurd ((jr (b.getD t 0)).symm.trans h) sm
   .intro h;omega
  .exact absurd ((jr i).symm.trans vS) sm
  .have e1:Y (λj=>(Array.replicate l.length false).getD j false)=λ_=>false:=by
    funext j;show((Array.replicate l.length false).getD j false&&_)=false;rw[jr];rfl
   rw[e1];exact LF _ _ _ (by rw[<-D];exact HV) (by show((b.take 0).map _).length=_;simpa using D)
  .exact absurd ((jr i).symm.trans vS) sm
 have:=VW (N:=N) (Inv:=Inv) hB step tail (mc n N R X) l.length (Array.replicate l.length false) Z a _ ha sm
  (by
   have:((List.range l.length).filter λj=>!(Array.replicate l.length false).getD j true)=List.range l.length:=by rw[List.filter_eq_self];intro j q;rw[List.mem_range] at q;simp[Array.getD_eq_getD_getElem?,q]
   rw[this];simp)
  (by intro j _ q;simp[Array.getD_eq_getD_getElem?,q])
  PK
  (by intro j o ho q;have qI:j<l.length:=(List.getElem?_eq_some_iff.1 ho).1;simp[Array.getD_eq_getD_getElem?,qI] at q)
 have e1:qD n N (mc n N R X)=mc n N R X:=by funext x a w;cases x<;>rfl
 rw[e1] at this;simpa using this
end
section
variable {P:Program} {n:Nat} {ops:Array Oper} {e:Env} {w w':World} {G:List Nat}
theorem uv (h:v=V:=by rfl):OW P n ops (λa w'=>aj [] w w'/\(Iu.v V).F G (a d) w'/\eO [d] e a) [] (cj e (some d) v) w:=
 bf ⟨aj.refl _ _,by subst h;exact ni _ _ _,qG⟩
theorem up {f:List Nat->Value->World->Prop} (k:aj [] w w') (h:f G v w'):OW P n ops (λa w'=>aj [] w w'/\(Iu.p f).F G (a d) w'/\eO [d] e a) [] (cj e (some d) v) w':=
 bf ⟨k,by show f G (jc e d v d) w';rw[ni];exact h,qG⟩
theorem uE {aU:List Value} (a:List Nat) (k:Fr G w a w') (c:fI a w') (h:J a (aU++[v]) w'):OW P n ops (λb w'=>(∃a,Fr G w a w'/\fI a w'/\J a (aU++[b d]) w'/\(Iu.e t).F a (b d) w')/\eO [d] e b) [] (cj e (some d) v) w':=
 bf ⟨⟨a,k,c,by show J a (aU++[jc e d v d]) w';rw[ni];exact h,trivial⟩,qG⟩
theorem uW {aU:List Value} (a:List Nat) (k:Fr G w a w') (c:fI a w') (h:J a (aU++[v]) w') (f:v=V:=by rfl):OW P n ops (λb w'=>(∃a,Fr G w a w'/\fI a w'/\J a (aU++[b d]) w'/\(Iu.w t V).F a (b d) w')/\eO [d] e b) [] (cj e (some d) v) w':=
 bf ⟨⟨a,k,c,by show J a (aU++[jc e d v d]) w';rw[ni];exact h,by subst f;exact ni _ _ _⟩,qG⟩
theorem uD (k:aj [] w w') (h:v=V:=by rfl):OW P n ops (λa w'=>aj [] w w'/\a d=V/\eO [d] e a) [] (cj e (some d) v) w':=by grind [bf,ni,qG]
theorem uU {Q:List Nat->World->Prop} (a:List Nat) (k:Fr G w a w') (c:fI a w') (h:Q a w'):OW P n ops (λb w'=>(∃a,Fr G w a w'/\fI a w'/\Q a w')/\eO [d] e b) [] e w':=
 bf ⟨⟨a,k,c,h⟩,zE⟩
end
class vT (p:Prop) (q:outParam Prop):Prop where
 imp:p->q
instance (priority:=low) {p:Prop}:vT p p:=⟨id⟩
instance {p:Prop} {i:Decidable p}:vT (@decide p i=true) p:=⟨of_decide_eq_true⟩
instance {p:Prop} {i:Decidable p}:vT (@decide p i=false) (¬p):=⟨of_decide_eq_false⟩
instance {b:Bool}:vT ((!b)=true) (b=false):=⟨λh=>by simpa using h⟩
instance {b:Bool}:vT ((!b)=false) (b=true):=⟨λh=>by simpa using h⟩
theorem jw [t:vT p q] (h:p):q:=t.imp h
section
variable {P:Program} {n:Nat} {N R:Env->World->Prop} {X:Nat->Env->World->Prop} {e:Env} {w:World}
theorem zc {x y:Code} {t:Bool} (a:ev e c= .bool t) [hp:vT (t=true) p] [hq:vT (t=false) q] (b:p->CW P n x N R X e w) (d:q->CW P n y N R X e w):CW P n (.cond c x y) N R X e w:=
 abT a (λh=>b<|hp.imp h) λh=>d<|hq.imp h
theorem zr {id:Nat} {y:Code} (h:OW P n l.toArray (λe w=>CW P n y N R X e w) l e w):CW P n ((Code.region id l.toArray false).seq y) N R X e w:=j1<|mf h
end
section
variable {P:Program} {n:Nat} {ops:Array Oper} {K:Env->World->Prop} {rest:List Oper} {e:Env} {w:World}
 {dst:Option Nat} {ty:TypeId} {pos:String} {after:Array Edge} {g:Option (Nat×Bool)} {x y:Operand} {T T':TypeId}
theorem zm (k:OW P n ops K rest (cj e dst<|ev e x) w) (b:gate ops e g=true:=by rfl) (a:cK n dst=true:=by rfl):OW P n ops K (⟨dst,.move x,ty,pos,after,g⟩::rest) e w:=ab2 b a k
theorem zA (k:OW P n ops K rest (cj e dst<|ev e x) w) (b:gate ops e g=true:=by rfl) (a:cK n dst=true:=by rfl):OW P n ops K (⟨dst,.assign x,ty,pos,after,g⟩::rest) e w:=ab3 b a k
theorem zs {op:Op} (k:OW P n ops K rest (cj e dst undef) w) (b:gate ops e g=false:=by rfl) (a:cK n dst=true:=by rfl):OW P n ops K (⟨dst,op,ty,pos,after,g⟩::rest) e w:=NY b a k
theorem zp {t:Bool} (a:ev e c= .bool t) (k:OW P n ops K rest (cj e dst<|bif t then ev e x else ev e y) w) (d:gate ops e g=true:=by rfl) (b:cK n dst=true:=by rfl):OW P n ops K (⟨dst,.pick c x y,ty,pos,after,g⟩::rest) e w:=Ta d b a k
theorem zf {S:Nat} {o:Nat} (a:gX P S i=some off) (f:ev e x= .pointer (some ⟨b,o,none⟩)) (k:OW P n ops K rest (cj e dst (.pointer<|some ⟨b,o+off,none⟩)) w) (d:gate ops e g=true:=by rfl) (c:cK n dst=true:=by rfl):
  OW P n ops K (⟨dst,.fieldAddr S x i,ty,pos,after,g⟩::rest) e w:=Te a d c f k
theorem zl {a:Addr} (b:qF P T=true) (i:ev e x= .pointer (some a)) (c:w.cell? a=some v) (k:OW P n ops K rest (cj e dst v) w) (f:gate ops e g=true:=by rfl) (d:cK n dst=true:=by rfl):
  OW P n ops K (⟨dst,.load T x,ty,pos,after,g⟩::rest) e w:=ab6 b f d i c k
theorem zL {o:Nat} (a:tY P T=true) (l:TI P T sz bytes z) (j:ev e x= .pointer (some ⟨b,o,none⟩)) (c:fZ w b o vs) (i:vs.length=sz) (k:OW P n ops K rest (cj e dst<|.agg vs.toArray) w) (f:gate ops e g=true:=by rfl) (d:cK n dst=true:=by rfl):
  OW P n ops K (⟨dst,.load T x,ty,pos,after,g⟩::rest) e w:=ab7 a l f d j c i k
theorem zi {T E:TypeId} {o len a i:Nat} {q:IntKind} (d:P.underlying T=some (.slice E)) (c:TI P E sz bytes z) (m:ev e x= .slice (some ⟨b,o,none⟩) len a) (p:ev e y= .int q (i:Int)) (l:i<len) 
  (k:OW P n ops K rest (cj e dst (.pointer<|some ⟨b,o+i*sz,none⟩)) w) (j:gate ops e g=true:=by rfl) (f:cK n dst=true:=by rfl):OW P n ops K (⟨dst,.indexAddr T x y,ty,pos,after,g⟩::rest) e w:=Tf d c j f m p l k
theorem zx (d:ev e x= .tuple vs.toArray) (c:vs[i]?=some v) (k:OW P n ops K rest (cj e dst v) w) (b:gate ops e g=true:=by rfl) (a:cK n dst=true:=by rfl):
  OW P n ops K (⟨dst,.extract x i,ty,pos,after,g⟩::rest) e w:=Tg b a d c k
end
theorem vfm {W c:List Nat} {a:List Ie} {e:List (List Nat->List Value->World->Prop)} {b:List Nat} {d:List Nat} (f:xh P n ops W c a e e0 b w0 (k+1) l r) (h:LB P n ops W c a e0 b w0 k o d:=by exact λ_ _ _ _ _ _=>zm fv) (hk:(a.getD k nD).lk=none:=by rfl):xh P n ops W c a e e0 b w0 k (o::l) (d::r):=vf h f hk
theorem vk {W c:List Nat} {a:List It} {f:World} {d:List Nat} (aC:aj [] f w0) (h:∀(x:Env) (w:World),aj [] f w->dq a c w d λb=>OW P n ops (λe w'=>aj [] w w'/\(a.getD k<|.p λ_ _=>True).F (e<|c.getD k 0) w'/\eO [c.getD k 0] (aY (aX W x e0) b) e) [o] (aY (aX W x e0) b) w) (g:sr P n ops W c a e0 w0 (k+1) l r):sr P n ops W c a e0 w0 k (o::l) (d::r):=vc (λx w hk=>h x w<|aj.trans aC hk) g
theorem Ck {W b:List Nat} {a:List It} {d:List Nat} (c:sr P n ops W b a e0 w0 (k+1) l r) (h:Ik P n ops W b a e0 w0 k o d:=by exact λ_ _ _=>zm pv):sr P n ops W b a e0 w0 k (o::l) (d::r):=⟨h,c⟩
theorem vcs {W b:List Nat} {a:List It} {d:List Nat} (c:sr P n ops W b a e0 w0 (k+1) l r) (h:Ik P n ops W b a e0 w0 k o d:=by exact λ_ _ _=>NY rfl rfl pv):sr P n ops W b a e0 w0 k (o::l) (d::r):=⟨h,c⟩
class FO (P:Program) (S i:Nat) (off:outParam Nat):Prop where h:gX P S i=some off
class O1 (P:Program) (T:Nat):Prop where h:qF P T=true
class OA (P:Program) (T:Nat):Prop where h:tY P T=true
class oY (P:Program) (T:Nat) (sz bytes:outParam Nat) (z:outParam Value):Prop where h:TI P T sz bytes z
class UL (P:Program) (T:Nat) (d:outParam TypeDesc):Prop where h:P.underlying T=some d
instance:OA Tryz.prog 103:=⟨fN⟩
instance:OA Tryz.prog 117:=⟨ag1⟩
instance:OA Tryz.prog 144:=⟨U2⟩
instance:OA Tryz.prog 39:=⟨BT⟩
instance:OA Tryz.prog 61:=⟨iL⟩
instance:OA Tryz.prog 80:=⟨Im⟩
instance:UL Tryz.prog 158 (.array 40 61):=⟨Io⟩
instance:UL Tryz.prog 159 (.array 40 4):=⟨F4⟩
instance:UL Tryz.prog 4 .bool:=⟨aha⟩
instance:FO Tryz.prog 103 0 0:=⟨ml⟩
instance:FO Tryz.prog 103 1 1:=⟨kn⟩
instance:FO Tryz.prog 117 0 0:=⟨ahb⟩
instance:FO Tryz.prog 117 1 1:=⟨ahc⟩
instance:FO Tryz.prog 142 0 0:=⟨ahd⟩
instance:FO Tryz.prog 142 1 1:=⟨ahe⟩
instance:FO Tryz.prog 142 2 2:=⟨ahf⟩
instance:FO Tryz.prog 142 3 3:=⟨ahg⟩
instance:FO Tryz.prog 142 4 4:=⟨ahh⟩
instance:FO Tryz.prog 142 5 5:=⟨ahi⟩
instance:FO Tryz.prog 144 0 0:=⟨ahj⟩
instance:FO Tryz.prog 144 1 1:=⟨U4⟩
instance:FO Tryz.prog 144 10 11:=⟨ahk⟩
instance:FO Tryz.prog 144 2 2:=⟨ahl⟩
instance:FO Tryz.prog 144 3 3:=⟨K8⟩
instance:FO Tryz.prog 144 4 4:=⟨ahm⟩
instance:FO Tryz.prog 144 5 5:=⟨ahn⟩
instance:FO Tryz.prog 144 6 6:=⟨aho⟩
instance:FO Tryz.prog 144 7 7:=⟨U5⟩
instance:FO Tryz.prog 144 8 9:=⟨U6⟩
instance:FO Tryz.prog 144 9 10:=⟨ahp⟩
instance:FO Tryz.prog 161 0 0:=⟨ahq⟩
instance:FO Tryz.prog 161 1 80:=⟨ahr⟩
instance:FO Tryz.prog 161 2 120:=⟨ahs⟩
instance:FO Tryz.prog 161 3 121:=⟨aht⟩
instance:FO Tryz.prog 169 0 0:=⟨ahu⟩
instance:FO Tryz.prog 169 1 1:=⟨ahv⟩
instance:FO Tryz.prog 169 2 2:=⟨ahw⟩
instance:FO Tryz.prog 169 3 3:=⟨ahx⟩
instance:FO Tryz.prog 195 0 0:=⟨ahy⟩
instance:FO Tryz.prog 195 1 1:=⟨ahz⟩
instance:FO Tryz.prog 39 0 0:=⟨O9⟩
instance:FO Tryz.prog 39 1 1:=⟨Pa⟩
instance:FO Tryz.prog 39 2 2:=⟨BU⟩
instance:FO Tryz.prog 61 0 0:=⟨Pb⟩
instance:FO Tryz.prog 61 1 1:=⟨vL⟩
instance:FO Tryz.prog 80 0 0:=⟨ahA⟩
instance:FO Tryz.prog 80 1 1:=⟨U7⟩
instance:FO Tryz.prog 80 2 2:=⟨U8⟩
instance:FO Tryz.prog 84 0 0:=⟨ahB⟩
instance:FO Tryz.prog 84 1 1:=⟨U9⟩
instance:oY Tryz.prog 101 1 24 (.slice none 0 0):=⟨F5⟩
instance:oY Tryz.prog 103 2 40 (.agg #[.string ⟨#[]⟩,.slice none 0 0]):=⟨aO⟩
instance:oY Tryz.prog 110 1 24 (.slice none 0 0):=⟨Va⟩
instance:oY Tryz.prog 117 2 48 (.agg #[.slice none 0 0,.slice none 0 0]):=⟨DR⟩
instance:oY Tryz.prog 140 1 24 (.slice none 0 0):=⟨K9⟩
instance:oY Tryz.prog 144 12 216 (.agg #[.string ⟨#[]⟩,.slice none 0 0,.int .i64 0,.slice none 0 0,.slice none 0 0,.slice none 0 0,.slice none 0 0,.string ⟨#[]⟩,.slice none 0 0,.int .i64 0,.string ⟨#[]⟩,.int .i64 0]):=⟨ob⟩
instance:oY Tryz.prog 23 1 24 (.slice none 0 0):=⟨Vb⟩
instance:oY Tryz.prog 25 1 24 (.slice none 0 0):=⟨oc⟩
instance:oY Tryz.prog 3 1 8 (.int .i64 0):=⟨th⟩
instance:oY Tryz.prog 39 3 64 (.agg #[.string ⟨#[]⟩,.slice none 0 0,.slice none 0 0]):=⟨ix⟩
instance:oY Tryz.prog 4 1 1 (.bool false):=⟨zR⟩
instance:oY Tryz.prog 5 1 1 (.int .u8 0):=⟨Iq⟩
instance:oY Tryz.prog 59 1 24 (.slice none 0 0):=⟨F6⟩
instance:oY Tryz.prog 61 2 40 (.agg #[.string ⟨#[]⟩,.slice none 0 0]):=⟨bV⟩
instance:oY Tryz.prog 80 3 64 (.agg #[.string ⟨#[]⟩,.slice none 0 0,.slice none 0 0]):=⟨od⟩
instance:oY Tryz.prog 9 1 16 (.string ⟨#[]⟩):=⟨bw⟩
instance:oY Tryz.prog 99 2 32 (.agg #[.pointer none,.slice none 0 0]):=⟨Pc⟩
instance:UL Tryz.prog 204 (.int .u64):=⟨Lc⟩
instance:UL Tryz.prog 3 (.int .i64):=⟨yh⟩
instance:UL Tryz.prog 5 (.int .u8):=⟨zS⟩
instance:O1 Tryz.prog 101:=⟨jC⟩
instance:O1 Tryz.prog 110:=⟨ahC⟩
instance:O1 Tryz.prog 134:=⟨Pd⟩
instance:O1 Tryz.prog 140:=⟨ahD⟩
instance:O1 Tryz.prog 22:=⟨ahE⟩
instance:O1 Tryz.prog 23:=⟨ahF⟩
instance:O1 Tryz.prog 25:=⟨wZ⟩
instance:O1 Tryz.prog 3:=⟨Ld⟩
instance:O1 Tryz.prog 4:=⟨Ir⟩
instance:O1 Tryz.prog 5:=⟨ahG⟩
instance:O1 Tryz.prog 59:=⟨rF⟩
instance:O1 Tryz.prog 9:=⟨gI⟩
instance:UL Tryz.prog 101 (.slice 103):=⟨cT⟩
instance:UL Tryz.prog 110 (.slice 3):=⟨F7⟩
instance:UL Tryz.prog 140 (.slice 144):=⟨BV⟩
instance:UL Tryz.prog 22 (.slice 5):=⟨DS⟩
instance:UL Tryz.prog 23 (.slice 39):=⟨lE⟩
instance:UL Tryz.prog 25 (.slice 9):=⟨bA⟩
instance:UL Tryz.prog 50 (.slice 80):=⟨F8⟩
instance:UL Tryz.prog 59 (.slice 61):=⟨ic⟩
instance:UL Tryz.prog 9 .string:=⟨ji⟩
section
variable {P:Program} {n:Nat} {ops:Array Oper} {K:Env->World->Prop} {rest:List Oper} {e:Env} {w:World}
 {dst:Option Nat} {ty:TypeId} {pos:String} {after:Array Edge} {g:Option (Nat×Bool)} {x y:Operand} {T T' E:TypeId}
theorem wN {a:Addr} (k:OW P n ops K rest (cj e dst (.pointer<|some a)) w) (d:ev e x= .pointer (some a):=by rfl) (c:gate ops e g=true:=by rfl) (b:cK n dst=true:=by rfl):OW P n ops K (⟨dst,.nilCheck x,ty,pos,after,g⟩::rest) e w:=HN c b d k
theorem wF {S:Nat} {o:Nat} [hS:FO P S i off] (k:OW P n ops K rest (cj e dst (.pointer<|some ⟨b,o+off,none⟩)) w) (d:ev e x= .pointer (some ⟨b,o,none⟩):=by rfl) (c:gate ops e g=true:=by rfl) (a:cK n dst=true:=by rfl):
  OW P n ops K (⟨dst,.fieldAddr S x i,ty,pos,after,g⟩::rest) e w:=Te hS.h c a d k
theorem wB {o:Nat} {U:Nat} [hT:O1 P T] (k:OW P n ops K rest (cj e dst v) w) (f:ev e x= .pointer (some ⟨b,o,none⟩):=by rfl) (hb:aK w b vs.toArray U:=by first|with_reducible assumption|exact eE.je (by with_reducible assumption)|assumption) (a:vs[o]?=some v:=by rfl) (d:gate ops e g=true:=by rfl) (c:cK n dst=true:=by rfl):
  OW P n ops K (⟨dst,.load T x,ty,pos,after,g⟩::rest) e w:=zl hT.h f (hb.at a) k d c
theorem wM {U:Nat} [hT:OA P T] [kI:oY P T sz bytes z] (k:OW P n ops K rest (cj e dst<|.agg vs.toArray) w) (f:ev e x= .pointer (some ⟨b,0,none⟩):=by rfl) (hb:aK w b vs.toArray U:=by first|with_reducible assumption|exact eE.je (by with_reducible assumption)|assumption) (d:vs.length=sz:=by rfl) (c:gate ops e g=true:=by rfl) (a:cK n dst=true:=by rfl):
  OW P n ops K (⟨dst,.load T x,ty,pos,after,g⟩::rest) e w:=zL hT.h kI.h f hb.all d k c a
theorem wC {o:Nat} [hT:O1 P T] (k:OW P n ops K rest (cj e dst v) w) (f:ev e x= .pointer (some ⟨b,o,none⟩):=by rfl) (hb:fZ w b o vs:=by first|with_reducible assumption|exact gm.cells (by with_reducible assumption)|assumption) (a:vs[0]?=some v:=by rfl) (d:gate ops e g=true:=by rfl) (c:cK n dst=true:=by rfl):
  OW P n ops K (⟨dst,.load T x,ty,pos,after,g⟩::rest) e w:=zl hT.h f (hb 0 _ a) k d c
theorem wD {o:Nat} [hT:O1 P T] (k:OW P n ops K rest (cj e dst v) w) (f:ev e x= .pointer (some ⟨b,o+1,none⟩):=by rfl) (hb:fZ w b o vs:=by first|with_reducible assumption|exact gm.cells (by with_reducible assumption)|assumption) (a:vs[1]?=some v:=by rfl) (d:gate ops e g=true:=by rfl) (c:cK n dst=true:=by rfl):
  OW P n ops K (⟨dst,.load T x,ty,pos,after,g⟩::rest) e w:=zl hT.h f (hb 1 _ a) k d c
theorem wE {o:Nat} [hT:OA P T] [kI:oY P T sz bytes z] (k:OW P n ops K rest (cj e dst<|.agg vs.toArray) w) (f:ev e x= .pointer (some ⟨b,o,none⟩):=by rfl) (hb:fZ w b o vs:=by first|with_reducible assumption|exact gm.cells (by with_reducible assumption)|assumption) (d:vs.length=sz:=by rfl) (c:gate ops e g=true:=by rfl) (a:cK n dst=true:=by rfl):
  OW P n ops K (⟨dst,.load T x,ty,pos,after,g⟩::rest) e w:=zL hT.h kI.h f hb d k c a
theorem wi {o len a:Nat} {m:IntKind} [hT:UL P T (.slice E)] [hE:oY P E sz bytes z] (k:OW P n ops K rest (cj e dst (.pointer<|some ⟨b,o+i*sz,none⟩)) w) (j:ev e x= .slice (some ⟨b,o,none⟩) len a:=by rfl) (l:ev e y= .int m (i:Int):=by rfl) (f:i<len:=by omega) 
  (d:gate ops e g=true:=by rfl) (c:cK n dst=true:=by rfl):OW P n ops K (⟨dst,.indexAddr T x y,ty,pos,after,g⟩::rest) e w:=Tf hT.h hE.h d c j l f k
theorem wp {t:Bool} (k:OW P n ops K rest (cj e dst<|bif t then ev e x else ev e y) w) (a:ev e c= .bool t:=by rfl) (d:gate ops e g=true:=by rfl) (b:cK n dst=true:=by rfl):OW P n ops K (⟨dst,.pick c x y,ty,pos,after,g⟩::rest) e w:=Ta d b a k
theorem wx (k:OW P n ops K rest (cj e dst v) w) (d:ev e x= .tuple vs.toArray:=by rfl) (c:vs[i]?=some v:=by rfl) (b:gate ops e g=true:=by rfl) (a:cK n dst=true:=by rfl):
  OW P n ops K (⟨dst,.extract x i,ty,pos,after,g⟩::rest) e w:=Tg b a d c k
theorem Cl {k:IntKind} {b:Int} (c:OW P n ops K rest (cj e dst<|.bool (decide<|a=b)) w) (hx:ev e x= .int k a:=by rfl) (hy:ev e y= .int k' b:=by rfl) (hk:k=k':=by rfl) (hg:gate ops e g=true:=by rfl) (hd:cK n dst=true:=by rfl):OW P n ops K (⟨dst,.binOp .eql T x y T',ty,pos,after,g⟩::rest) e w:=xZ (hg:=hg) (hd:=hd) (hx:=hx) (hy:=hy) (hk:=hk) (c:=c)
theorem Cm {k:IntKind} {b:Int} (c:OW P n ops K rest (cj e dst<|.bool (decide<|a≠b)) w) (hx:ev e x= .int k a:=by rfl) (hy:ev e y= .int k' b:=by rfl) (hk:k=k':=by rfl) (hg:gate ops e g=true:=by rfl) (hd:cK n dst=true:=by rfl):OW P n ops K (⟨dst,.binOp .neq T x y T',ty,pos,after,g⟩::rest) e w:=HP (hg:=hg) (hd:=hd) (hx:=hx) (hy:=hy) (hk:=hk) (c:=c)
theorem Cn {k:IntKind} {b:Int} (c:OW P n ops K rest (cj e dst<|.bool (decide<|a<b)) w) (hx:ev e x= .int k a:=by rfl) (hy:ev e y= .int k' b:=by rfl) (hk:k=k':=by rfl) (hg:gate ops e g=true:=by rfl) (hd:cK n dst=true:=by rfl):OW P n ops K (⟨dst,.binOp .lss T x y T',ty,pos,after,g⟩::rest) e w:=Kw (hg:=hg) (hd:=hd) (hx:=hx) (hy:=hy) (hk:=hk) (c:=c)
theorem Co {k:IntKind} {b:Int} (c:OW P n ops K rest (cj e dst<|.bool (decide<|a<=b)) w) (hx:ev e x= .int k a:=by rfl) (hy:ev e y= .int k' b:=by rfl) (hk:k=k':=by rfl) (hg:gate ops e g=true:=by rfl) (hd:cK n dst=true:=by rfl):OW P n ops K (⟨dst,.binOp .leq T x y T',ty,pos,after,g⟩::rest) e w:=acd (hg:=hg) (hd:=hd) (hx:=hx) (hy:=hy) (hk:=hk) (c:=c)
theorem Cp {k:IntKind} {b:Int} (c:OW P n ops K rest (cj e dst<|.bool (decide<|b<a)) w) (hx:ev e x= .int k a:=by rfl) (hy:ev e y= .int k' b:=by rfl) (hk:k=k':=by rfl) (hg:gate ops e g=true:=by rfl) (hd:cK n dst=true:=by rfl):OW P n ops K (⟨dst,.binOp .gtr T x y T',ty,pos,after,g⟩::rest) e w:=HO (hg:=hg) (hd:=hd) (hx:=hx) (hy:=hy) (hk:=hk) (c:=c)
theorem Cq {k:IntKind} {b:Int} (c:OW P n ops K rest (cj e dst<|.bool (decide<|b<=a)) w) (hx:ev e x= .int k a:=by rfl) (hy:ev e y= .int k' b:=by rfl) (hk:k=k':=by rfl) (hg:gate ops e g=true:=by rfl) (hd:cK n dst=true:=by rfl):OW P n ops K (⟨dst,.binOp .geq T x y T',ty,pos,after,g⟩::rest) e w:=ace (hg:=hg) (hd:=hd) (hx:=hx) (hy:=hy) (hk:=hk) (c:=c)
theorem Cr {a b:List UInt8} (c:OW P n ops K rest (cj e dst<|.bool (decide<|a=b)) w) (hx:ev e x=str a:=by rfl) (hy:ev e y=str b:=by rfl) (hg:gate ops e g=true:=by rfl) (hd:cK n dst=true:=by rfl):OW P n ops K (⟨dst,.binOp .eql T x y T',ty,pos,after,g⟩::rest) e w:=FK (hg:=hg) (hd:=hd) (hx:=hx) (hy:=hy) (c:=c)
theorem Cs {a b:List UInt8} (c:OW P n ops K rest (cj e dst<|.bool (decide<|a≠b)) w) (hx:ev e x=str a:=by rfl) (hy:ev e y=str b:=by rfl) (hg:gate ops e g=true:=by rfl) (hd:cK n dst=true:=by rfl):OW P n ops K (⟨dst,.binOp .neq T x y T',ty,pos,after,g⟩::rest) e w:=N4 (hg:=hg) (hd:=hd) (hx:=hx) (hy:=hy) (c:=c)
theorem Ct {b:Bool} (c:OW P n ops K rest (cj e dst (.bool<|!b)) w) (hx:ev e x= .bool b:=by rfl) (hg:gate ops e g=true:=by rfl) (hd:cK n dst=true:=by rfl):OW P n ops K (⟨dst,.unOp .not T x,ty,pos,after,g⟩::rest) e w:=kj (hg:=hg) (hd:=hd) (hx:=hx) (c:=c)
theorem Cu {a b:Bool} [hT:UL P T .bool] (c:OW P n ops K rest (cj e dst (.bool<|a==b)) w) (hx:ev e x= .bool a:=by rfl) (hy:ev e y= .bool b:=by rfl) (hg:gate ops e g=true:=by rfl) (hd:cK n dst=true:=by rfl):OW P n ops K (⟨dst,.binOp .eql T x y T',ty,pos,after,g⟩::rest) e w:=acf (hT:=hT.h) (hg:=hg) (hd:=hd) (hx:=hx) (hy:=hy) (c:=c)
theorem Cv {a b:Bool} [hT:UL P T .bool] (c:OW P n ops K rest (cj e dst (.bool<|!(a==b))) w) (hx:ev e x= .bool a:=by rfl) (hy:ev e y= .bool b:=by rfl) (hg:gate ops e g=true:=by rfl) (hd:cK n dst=true:=by rfl):OW P n ops K (⟨dst,.binOp .neq T x y T',ty,pos,after,g⟩::rest) e w:=acg (hT:=hT.h) (hg:=hg) (hd:=hd) (hx:=hx) (hy:=hy) (c:=c)
theorem Cw {T E:TypeId} {x:Operand} {a:Option Addr} {b:Nat} [hT:UL P T (.slice E)] (k:OW P n ops K rest (cj e dst<|.int .i64 m) w) (hx:ev e x= .slice a m b:=by rfl) (hg:gate ops e g=true:=by rfl) (hd:cK n dst=true:=by rfl):OW P n ops K (⟨dst,.call {callee:=.builtin .len,args:=#[x],argTypes:=#[T]},ty,pos,after,g⟩::rest) e w:=Kv (hT:=hT.h) (hg:=hg) (hd:=hd) (hx:=hx) (k:=k)
theorem Cx {a:List UInt8} [hT:UL P T .string] (k:OW P n ops K rest (cj e dst<|.int .i64 (a.length:Nat)) w) (hx:ev e x=str a:=by rfl) (hg:gate ops e g=true:=by rfl) (hd:cK n dst=true:=by rfl):OW P n ops K (⟨dst,.call {callee:=.builtin .len,args:=#[x],argTypes:=#[T]},ty,pos,after,g⟩::rest) e w:=acj (hT:=hT.h) (hg:=hg) (hd:=hd) (hx:=hx) (k:=k)
theorem Cy {k:IntKind} {b c:Int} (c':OW P n ops K rest (cj e dst<|.int k c) w) (hx:ev e x= .int k a:=by rfl) (hy:ev e y= .int k' b:=by rfl) (hk:k=k':=by rfl) (hc:k.wrap (a+b)=c:=by exact wrap_i64 _ om om) (hg:gate ops e g=true:=by rfl) (hd:cK n dst=true:=by rfl):OW P n ops K (⟨dst,.binOp .add T x y T',ty,pos,after,g⟩::rest) e w:=oJ (hg:=hg) (hd:=hd) (hx:=hx) (hy:=hy) (hk:=hk) (hc:=hc) (c':=c')
theorem D6 {k:IntKind} {b c:Int} (c':OW P n ops K rest (cj e dst<|.int k c) w) (hx:ev e x= .int k a:=by rfl) (hy:ev e y= .int k' b:=by rfl) (hk:k=k':=by rfl) (hc:k.wrap (a-b)=c:=by exact wrap_i64 _ om om) (hg:gate ops e g=true:=by rfl) (hd:cK n dst=true:=by rfl):OW P n ops K (⟨dst,.binOp .sub T x y T',ty,pos,after,g⟩::rest) e w:=x4 (hg:=hg) (hd:=hd) (hx:=hx) (hy:=hy) (hk:=hk) (hc:=hc) (c':=c')
theorem D7 {k:IntKind} {b c:Int} (c':OW P n ops K rest (cj e dst<|.int k c) w) (hx:ev e x= .int k a:=by rfl) (hy:ev e y= .int k' b:=by rfl) (hk:k=k':=by rfl) (hc:k.wrap (a*b)=c:=by exact wrap_i64 _ om om) (hg:gate ops e g=true:=by rfl) (hd:cK n dst=true:=by rfl):OW P n ops K (⟨dst,.binOp .mul T x y T',ty,pos,after,g⟩::rest) e w:=Kx (hg:=hg) (hd:=hd) (hx:=hx) (hy:=hy) (hk:=hk) (hc:=hc) (c':=c')
theorem D8 {a b:List UInt8} (c:OW P n ops K rest (cj e dst (str<|a++b)) w) (hx:ev e x=str a:=by rfl) (hy:ev e y=str b:=by rfl) (hs:a.length+b.length<=9223372036854775807:=by(simp;omega)) (hg:gate ops e g=true:=by rfl) (hd:cK n dst=true:=by rfl):OW P n ops K (⟨dst,.binOp .add T x y T',ty,pos,after,g⟩::rest) e w:=Th (hg:=hg) (hd:=hd) (hx:=hx) (hy:=hy) (hs:=hs) (c:=c)
end
theorem bQ {e f a b:Prop} (k:aj [] w w') (ta:e) (g:f) (y:a->b->p) (c:aj [] w w'->e->a:=by intro k h;exact h.ext k) (d:aj [] w w'->f->b:=by intro k h;exact h.ext k):p:=y (c k ta)<|d k g
theorem cQ {g i j a b c:Prop} (k:aj [] w w') (ta:g) (l:i) (m:j) (y:a->b->c->p) (d:aj [] w w'->g->a:=by intro k h;exact h.ext k) (e:aj [] w w'->i->b:=by intro k h;exact h.ext k) (f:aj [] w w'->j->c:=by intro k h;exact h.ext k):p:=y (d k ta) (e k l)<|f k m
theorem gO {j l m n a b c d:Prop} (k:aj [] w w') (ta:j) (o:l) (q:m) (r:n) (y:a->b->c->d->p) (e:aj [] w w'->j->a:=by intro k h;exact h.ext k) (f:aj [] w w'->l->b:=by intro k h;exact h.ext k) (g:aj [] w w'->m->c:=by intro k h;exact h.ext k) (i:aj [] w w'->n->d:=by intro k h;exact h.ext k):p:=y (e k ta) (f k o) (g k q)<|i k r
theorem kT {m n o q r a b c d e:Prop} (k:aj [] w w') (ta:m) (s:n) (t:o) (u:q) (v:r) (y:a->b->c->d->e->p) (f:aj [] w w'->m->a:=by intro k h;exact h.ext k) (g:aj [] w w'->n->b:=by intro k h;exact h.ext k) (i:aj [] w w'->o->c:=by intro k h;exact h.ext k) (j:aj [] w w'->q->d:=by intro k h;exact h.ext k) (l:aj [] w w'->r->e:=by intro k h;exact h.ext k):p:=y (f k ta) (g k s) (i k t) (j k u)<|l k v
theorem uH {o q r s t u a b c d e f:Prop} (k:aj [] w w') (ta:o) (v:q) (z:r) (A:s) (B:t) (C:u) (y:a->b->c->d->e->f->p) (g:aj [] w w'->o->a:=by intro k h;exact h.ext k) (i:aj [] w w'->q->b:=by intro k h;exact h.ext k) (j:aj [] w w'->r->c:=by intro k h;exact h.ext k) (l:aj [] w w'->s->d:=by intro k h;exact h.ext k) (m:aj [] w w'->t->e:=by intro k h;exact h.ext k) (n:aj [] w w'->u->f:=by intro k h;exact h.ext k):p:=y (g k ta) (i k v) (j k z) (l k A) (m k B)<|n k C
theorem Gn {r s t u v z A a b c d e f g:Prop} (k:aj [] w w') (ta:r) (B:s) (C:t) (D:u) (E:v) (F:z) (H:A) (y:a->b->c->d->e->f->g->p) (i:aj [] w w'->r->a:=by intro k h;exact h.ext k) (j:aj [] w w'->s->b:=by intro k h;exact h.ext k) (l:aj [] w w'->t->c:=by intro k h;exact h.ext k) (m:aj [] w w'->u->d:=by intro k h;exact h.ext k) (n:aj [] w w'->v->e:=by intro k h;exact h.ext k) (o:aj [] w w'->z->f:=by intro k h;exact h.ext k) (q:aj [] w w'->A->g:=by intro k h;exact h.ext k):p:=y (i k ta) (j k B) (l k C) (m k D) (n k E) (o k F)<|q k H
theorem D9 {t u v z A B C D a b c d e f g i:Prop} (k:aj [] w w') (ta:t) (E:u) (F:v) (H:z) (I:A) (J:B) (K:C) (L:D) (y:a->b->c->d->e->f->g->i->p) (j:aj [] w w'->t->a:=by intro k h;exact h.ext k) (l:aj [] w w'->u->b:=by intro k h;exact h.ext k) (m:aj [] w w'->v->c:=by intro k h;exact h.ext k) (n:aj [] w w'->z->d:=by intro k h;exact h.ext k) (o:aj [] w w'->A->e:=by intro k h;exact h.ext k) (q:aj [] w w'->B->f:=by intro k h;exact h.ext k) (r:aj [] w w'->C->g:=by intro k h;exact h.ext k) (s:aj [] w w'->D->i:=by intro k h;exact h.ext k):p:=y (j k ta) (l k E) (m k F) (n k H) (o k I) (q k J) (r k K)<|s k L
theorem aiA {v z A B C D E F H a b c d e f g i j:Prop} (k:aj [] w w') (ta:v) (I:z) (J:A) (K:B) (L:C) (M:D) (N:E) (O:F) (P:H) (y:a->b->c->d->e->f->g->i->j->p) (l:aj [] w w'->v->a:=by intro k h;exact h.ext k) (m:aj [] w w'->z->b:=by intro k h;exact h.ext k) (n:aj [] w w'->A->c:=by intro k h;exact h.ext k) (o:aj [] w w'->B->d:=by intro k h;exact h.ext k) (q:aj [] w w'->C->e:=by intro k h;exact h.ext k) (r:aj [] w w'->D->f:=by intro k h;exact h.ext k) (s:aj [] w w'->E->g:=by intro k h;exact h.ext k) (t:aj [] w w'->F->i:=by intro k h;exact h.ext k) (u:aj [] w w'->H->j:=by intro k h;exact h.ext k):p:=y (l k ta) (m k I) (n k J) (o k K) (q k L) (r k M) (s k N) (t k O)<|u k P
structure Hd (q:Prop):Prop where out:q
theorem W (k:q) (h:Hd q->p:=by intro k;(repeat(first|refine zm ?_|refine zA ?_|refine zr ?_|refine bf ?_|refine zs ?_|refine wF ?_|refine wB ?_|refine wC ?_|refine wD ?_|refine wM ?_|refine wE ?_|refine wN ?_|refine wp ?_|refine wx ?_|refine j1 ?_|refine iD ?_|refine mf ?_|refine vw ?_|refine Cl ?_|refine Cm ?_|refine Cn ?_|refine Co ?_|refine Cp ?_|refine Cq ?_|refine Cr ?_|refine Cs ?_|refine Ct ?_|refine Cw ?_|refine Cx ?_|refine Cu ?_|refine Cv ?_|refine wi ?_|refine Cy ?_|refine D6 ?_|refine D7 ?_|refine D8 ?_|refine la ?_|refine Bn ?_|refine Bo rfl ?_|refine FG rfl ?_));exact k.out):p:=h ⟨k⟩
theorem WL (k:q) (h:Hd q->p:=by intro k;(repeat(first|refine zm ?_|refine zA ?_|refine zr ?_|refine bf ?_|refine zs ?_|refine wF ?_|refine wN ?_|refine wp ?_|refine wx ?_|refine j1 ?_|refine iD ?_|refine mf ?_|refine vw ?_|refine Cl ?_|refine Cm ?_|refine Cn ?_|refine Co ?_|refine Cp ?_|refine Cq ?_|refine Cr ?_|refine Cs ?_|refine Ct ?_|refine Cw ?_|refine Cx ?_|refine Cu ?_|refine Cv ?_|refine wi ?_|refine Cy ?_|refine D6 ?_|refine D7 ?_|refine D8 ?_|refine la ?_|refine Bn ?_|refine Bo rfl ?_|refine FG rfl ?_));exact k.out):p:=h ⟨k⟩
theorem WI (k:q) (h:Hd q->p:=by intro k;(repeat(first|refine zm ?_|refine zA ?_|refine zr ?_|refine bf ?_|refine zs ?_|refine wF ?_|refine wB ?_|refine wC ?_|refine wD ?_|refine wM ?_|refine wE ?_|refine wN ?_|refine wp ?_|refine wx ?_|refine j1 ?_|refine iD ?_|refine mf ?_|refine vw ?_|refine Cl ?_|refine Cm ?_|refine Cn ?_|refine Co ?_|refine Cp ?_|refine Cq ?_|refine Cr ?_|refine Cs ?_|refine Ct ?_|refine Cw ?_|refine Cx ?_|refine Cu ?_|refine Cv ?_|refine Cy ?_|refine D6 ?_|refine D7 ?_|refine D8 ?_|refine la ?_|refine Bn ?_|refine Bo rfl ?_|refine FG rfl ?_));exact k.out):p:=h ⟨k⟩
theorem WA (k:q) (h:Hd q->p:=by intro k;(repeat(first|refine zm ?_|refine zA ?_|refine zr ?_|refine bf ?_|refine zs ?_|refine wF ?_|refine wB ?_|refine wC ?_|refine wD ?_|refine wM ?_|refine wE ?_|refine wN ?_|refine wp ?_|refine wx ?_|refine j1 ?_|refine iD ?_|refine mf ?_|refine vw ?_|refine Cl ?_|refine Cm ?_|refine Cn ?_|refine Co ?_|refine Cp ?_|refine Cq ?_|refine Cr ?_|refine Cs ?_|refine Ct ?_|refine Cw ?_|refine Cx ?_|refine Cu ?_|refine Cv ?_|refine wi ?_|refine D8 ?_|refine la ?_|refine Bn ?_|refine Bo rfl ?_|refine FG rfl ?_));exact k.out):p:=h ⟨k⟩
theorem WS (k:q) (h:Hd q->p:=by intro k;(repeat(first|refine zm ?_|refine zA ?_|refine zr ?_|refine bf ?_|refine zs ?_|refine wF ?_|refine wB ?_|refine wC ?_|refine wD ?_|refine wM ?_|refine wE ?_|refine wN ?_|refine wp ?_|refine wx ?_|refine j1 ?_|refine iD ?_|refine mf ?_|refine vw ?_|refine Cl ?_|refine Cm ?_|refine Cn ?_|refine Co ?_|refine Cp ?_|refine Cq ?_|refine Cr ?_|refine Cs ?_|refine Ct ?_|refine Cw ?_|refine Cx ?_|refine Cu ?_|refine Cv ?_|refine wi ?_|refine Cy ?_|refine D6 ?_|refine D7 ?_|refine la ?_|refine Bn ?_|refine Bo rfl ?_|refine FG rfl ?_));exact k.out):p:=h ⟨k⟩
theorem WZ (k:q) (h:Hd q->p:=by intro k;(repeat(first|refine zm ?_|refine zA ?_|refine zr ?_|refine zs ?_|refine wF ?_|refine wB ?_|refine wC ?_|refine wD ?_|refine wM ?_|refine wE ?_|refine wN ?_|refine wp ?_|refine wx ?_|refine j1 ?_|refine iD ?_|refine mf ?_|refine vw ?_|refine Cl ?_|refine Cm ?_|refine Cn ?_|refine Co ?_|refine Cp ?_|refine Cq ?_|refine Cr ?_|refine Cs ?_|refine Ct ?_|refine Cw ?_|refine Cx ?_|refine Cu ?_|refine Cv ?_|refine wi ?_|refine Cy ?_|refine D6 ?_|refine D7 ?_|refine D8 ?_|refine la ?_|refine Bn ?_|refine Bo rfl ?_|refine FG rfl ?_));exact k.out):p:=h ⟨k⟩
theorem oM {D:List Nat} {e a:Env} (b:p) (c:q) (h:eO D e a:=by repeat(first|with_reducible exact zE|refine Ky rfl ?_|refine N6 rfl ?_)):eO D e a/\p/\q:=⟨h,b,c⟩
theorem oQ (h:p:=by refine W ?_;exact oM rfl (by first|rfl|exact aj.refl _ _|assumption)):p:=h
section
variable {P:Program} {n:Nat} {ops:Array Oper} {K:Env->World->Prop} {e:Env} {w:World} {l:List Oper} (m tc tp:Nat) (J:World->Prop) {c r:Bool} {p:Prop}
theorem oO (f:e tc= .bool c) (d:OW P n ops (λa w'=>eO (List.range' tc<|tp+1-tc) e a/\a tp= .bool true/\J w') (l.take m) (jc e tc<|.bool true) w) [t:vT (c=false) p] 
  (b:p->OW P n ops (λa w'=>eO (List.range' tc<|tp+1-tc) e a/\a tp= .bool r/\J w') (l.take m) (jc e tc<|.bool false) w)
  (k:∀x w',J w'->OW P n ops K (l.drop m) (jc (aX (List.range' tc (tp+1-tc)) x e) tp (.bool (c||r))) w'):OW P n ops K l e w:=
 Dx m tc tp _ J f (λ_=>d) (λh=>b<|t.imp h) k
theorem oA (f:e tc= .bool c) (b:OW P n ops (λa w'=>eO (List.range' tc<|tp+1-tc) e a/\a tp= .bool false/\J w') (l.take m) (jc e tc<|.bool false) w) [t:vT (c=true) p] 
  (d:p->OW P n ops (λa w'=>eO (List.range' tc<|tp+1-tc) e a/\a tp= .bool r/\J w') (l.take m) (jc e tc<|.bool true) w)
  (k:∀x w',J w'->OW P n ops K (l.drop m) (jc (aX (List.range' tc (tp+1-tc)) x e) tp (.bool (c&&r))) w'):OW P n ops K l e w:=
 N9 m tc tp _ J f (λh=>d<|t.imp h) (λ_=>b) k
theorem oP (f:e tc= .bool c) (d:OW P n ops (λa w'=>eO (List.range' tc<|tp+1-tc) e a/\a tp= .bool true/\w=w') (l.take m) (jc e tc<|.bool true) w) [t:vT (c=false) p] 
  (b:p->OW P n ops (λa w'=>eO (List.range' tc<|tp+1-tc) e a/\a tp= .bool r/\w=w') (l.take m) (jc e tc<|.bool false) w)
  (k:∀x,OW P n ops K (l.drop m) (jc (aX (List.range' tc (tp+1-tc)) x e) tp (.bool (c||r))) w):OW P n ops K l e w:=
 Dx m tc tp _ (w=·) f (λ_=>d) (λh=>b<|t.imp h) λx _ g=>g▸k x
theorem oB (f:e tc= .bool c) (b:OW P n ops (λa w'=>eO (List.range' tc<|tp+1-tc) e a/\a tp= .bool false/\w=w') (l.take m) (jc e tc<|.bool false) w) [t:vT (c=true) p] 
  (d:p->OW P n ops (λa w'=>eO (List.range' tc<|tp+1-tc) e a/\a tp= .bool r/\w=w') (l.take m) (jc e tc<|.bool true) w)
  (k:∀x,OW P n ops K (l.drop m) (jc (aX (List.range' tc (tp+1-tc)) x e) tp (.bool (c&&r))) w):OW P n ops K l e w:=
 N9 m tc tp _ (w=·) f (λh=>d<|t.imp h) (λ_=>b) λx _ g=>g▸k x
end
abbrev it (l:List Value):List It:=l.map It.v
theorem dV {n:Nat} {l:List Oper} {N R:Env->World->Prop} {X:Nat->Env->World->Prop} {id:Nat} {e:Env} {f:World} (p:P.follows .mixedOrders=true) (m:Nat) (c:List Nat) (a:List (List Nat)) (b:List It) 
  (i:vE l m c c a=true) (j:b.all It.Ij=true)
  (o:∀g,aj [] f g->sr P n l.toArray c c b e g 0 (l.take m) a)
  (q:∀(x:Env) (w:World),aj [] f w->dq b c w (List.range m) λd=>OW P n l.toArray N (l.drop m) (aY (aX c x e) d) w):
  CW P n (.region id l.toArray true) N R X e f:=km p m c c a b i j o q
section
variable {P:Program} {n:Nat} {ops:Array Oper} {W ds:List Nat} {e0:Env} {wz w0:World} {k:Nat} {o:Oper} {l:List Oper} {d:List Nat} {r:List (List Nat)}
theorem V1 {a:List It} (aC:aj [] wz w0) (b:sr P n ops W ds a e0 w0 (k+1) l r) (h:Ik P n ops W ds a e0 w0 k o d:=by intro x w hk;first|exact zm pv|exact zA pv|exact zs pv|exact wF pv|exact wB pv (hb:=aK.ext (by first|with_reducible assumption|assumption)<|aj.trans aC hk)|exact wB pv (hb:=eE.je (eE.ext (by first|with_reducible assumption|assumption)<|aj.trans aC hk))|exact wM pv (hb:=aK.ext (by first|with_reducible assumption|assumption)<|aj.trans aC hk)|exact wM pv (hb:=eE.je (eE.ext (by first|with_reducible assumption|assumption)<|aj.trans aC hk))|exact wC pv (hb:=fZ.ext (by first|with_reducible assumption|assumption)<|aj.trans aC hk)|exact wC pv (hb:=gm.cells (gm.ext (by first|with_reducible assumption|assumption)<|aj.trans aC hk))|exact wD pv (hb:=fZ.ext (by first|with_reducible assumption|assumption)<|aj.trans aC hk)|exact wD pv (hb:=gm.cells (gm.ext (by first|with_reducible assumption|assumption)<|aj.trans aC hk))|exact wE pv (hb:=fZ.ext (by first|with_reducible assumption|assumption)<|aj.trans aC hk)|exact wE pv (hb:=gm.cells (gm.ext (by first|with_reducible assumption|assumption)<|aj.trans aC hk))|exact wN pv|(refine wp ?_;exact pv)|exact wx pv|exact Cl pv|exact Cm pv|exact Cn pv|exact Co pv|exact Cp pv|exact Cq pv|exact Cr pv|exact Cs pv|exact Ct pv|exact Cw pv|exact Cx pv|exact Cu pv|exact Cv pv|exact wi pv|exact Cy pv|exact D6 pv|exact D7 pv|exact D8 pv):sr P n ops W ds a e0 w0 k (o::l) (d::r):=⟨h,b⟩
theorem F1 {a:List Ie} {c:List (List Nat->List Value->World->Prop)} {b:List Nat} (e:xh P n ops W ds a c e0 b w0 (k+1) l r) (h:LB P n ops W ds a e0 b w0 k o d:=by intro x w G aU bN qT;first|exact zm fv|exact zA fv|exact zs fv|exact wF fv|exact wB fv (hb:=eE.je<|eE.go (by first|with_reducible assumption|assumption) bN)|exact wM fv (hb:=eE.je<|eE.go (by first|with_reducible assumption|assumption) bN)|exact wC fv (hb:=gm.cells<|gm.go (by first|with_reducible assumption|assumption) bN)|exact wD fv (hb:=gm.cells<|gm.go (by first|with_reducible assumption|assumption) bN)|exact wE fv (hb:=gm.cells<|gm.go (by first|with_reducible assumption|assumption) bN)|exact wN fv|(refine wp ?_;exact fv)|exact wx fv|exact Cl fv|exact Cm fv|exact Cn fv|exact Co fv|exact Cp fv|exact Cq fv|exact Cr fv|exact Cs fv|exact Ct fv|exact Cw fv|exact Cx fv|exact Cu fv|exact Cv fv|exact wi fv|exact Cy fv|exact D6 fv|exact D7 fv|exact D8 fv) (hk:(a.getD k nD).lk=none:=by rfl):xh P n ops W ds a c e0 b w0 k (o::l) (d::r):=vf h e hk
end
theorem VA (k:q) (h:Hd q->p:=by intro k;(repeat(refine V1 aC ?_));exact k.out):p:=h ⟨k⟩
theorem VZ (h:p:=by(repeat(refine V1 aC ?_));exact trivial):p:=h
theorem FZ (h:p:=by(repeat(refine F1 ?_));exact trivial):p:=h
theorem FA (k:q) (h:Hd q->p:=by intro k;(repeat(refine F1 ?_));exact k.out):p:=h ⟨k⟩
section
variable {P:Program} {n:Nat} {ops:Array Oper} {K:Env->World->Prop} {rest:List Oper} {e:Env} {w:World}
 {dst:Option Nat} {ty:TypeId} {pos:String} {after:Array Edge} {g:Option (Nat×Bool)} {x y:Operand}
/-! ### Elements that are stored -/
def setAt (a:Array Value) (k:Nat):List Value->Array Value
 |[]=>a
 |v::vs=>setAt (a.setIfInBounds k v) (k+1) vs
theorem IJ:∀(vs:List Value) (a:Array Value) (k:Nat),(setAt a k vs).size=a.size:=by intro x;induction x<;>grind [setAt]
theorem LG:∀(vs:List Value) (a:Array Value) (k:Nat),k+vs.length<=a.size->(setAt a k vs).toList=a.toList.take k++(vs++a.toList.drop (k+vs.length))
 |[],a,k,_=>by simp[setAt]
 |v::vs,a,k,h=>by
  unfold setAt;simp only[lC] at h;rw[LG vs _ _ so,Array.toList_setIfInBounds];have hk:k<a.toList.length:=by simp;omega
  rw[List.take_add_one,List.getElem?_set_self hk,List.take_set_of_le (lR k)];rw[List.drop_set_of_lt om];simp only[Option.toList_some,List.append_assoc,List.cons_append,List.nil_append,lC];rw[show k+1+vs.length=k+(vs.length+1) from by omega]
theorem PO:∀(vs:List Value) (i:Nat) (w:World) (b o:Nat) (U:TypeId) (a:Array Value),aK w b a U->o+i+vs.length<=a.size->(∀u∈vs,u.oneCell'=true)->
  ∃w',(storeCells ⟨b,o,none⟩ vs i).run P w= .ok () w'/\aj [b] w w'/\aK w' b (setAt a (o+i) vs) U/\w'.heap.size=w.heap.size
 |[],i,w,b,o,U,a,hb,_,_=>⟨w,rfl,aj.refl _ _,hb,rfl⟩
 |v::vs,i,w,b,o,U,a,hb,hs,h1=>by
  simp only[lC] at hs;have j:o+i<a.size:=by omega
  have c:(store ((⟨b,o,none⟩:Addr).add i) v).run P w= .ok () (w.setCell ⟨b,o+i,none⟩ v):=by rw[wJ,run_store P w _ v _<|h1 v sm,hb.cell,Array.getElem?_eq_getElem j,hb.frozen];simp
  obtain⟨w',d,hk,g,f⟩:=PO vs (i+1) (w.setCell ⟨b,o+i,none⟩ v) b o U (a.setIfInBounds (o+i) v) (hb.set (o+i) v) so λu e=>h1 u (by simp[e]);refine⟨w',?_,(aj.setCell w b (o+i) v).trans hk,g,by rw[f];simp[World.setCell]⟩;simp only[storeCells,Sem.run_bind,c,Result.andThen_ok];exact d
theorem Wd {c:Type}:∀{rows:List (List c)} {i:Nat} {row:List c},(∀r∈rows,r.length=sz)->i<rows.length->row.length=sz->(rows.set i row).flatten=rows.flatten.take (i*sz)++(row++rows.flatten.drop (i*sz+sz))
 |r::rows,0,row,h,_,a=>by have b:r.length=sz:=h r sm;simp[<-b]
 |r::rows,i+1,row,h,hi,a=>by
  have b:r.length=sz:=h r sm;have f:=Wd (rows:=rows) (i:=i) (row:=row) (λr a=>h r<|by simp[a]) (by simpa using hi) a;rw[List.set_cons_succ,List.flatten_cons,List.flatten_cons,f];have d:(i+1)*sz=r.length+i*sz:=by rw[b,Nat.add_mul];omega
  have e:(i+1)*sz+sz=r.length+(i*sz+sz):=by omega
  rw[e,d,List.take_length_add_append,List.drop_length_add_append,List.append_assoc]
theorem dy.take {w:World}:∀{k:Nat} {vs:List Value} {a:List C},dy L w vs a->dy L w (vs.take k) (a.take k)
 |0,_,_,_=>by simp[dy]
 |_+1,[],[],_=>trivial
 |_+1,_::_,_::_,h=>⟨h.1,dy.take h.2⟩
theorem dy.drop {w:World}:∀{k:Nat} {vs:List Value} {a:List C},dy L w vs a->dy L w (vs.drop k) (a.drop k)
 |0,_,_,h=>h
 |_+1,[],[],_=>trivial
 |k+1,_::_,_::_,h=>dy.drop (k:=k) h.2
theorem aiB {T:Nat} {v:Value} {a:List Value} {row:List C} {B:Nat} {L:List Nat} {E f:Nat} {N c:Nat} {rows:List (List C)} {b o i:Nat} (kI:TI P T sz bytes z) (S:gate ops e g=true) 
  (t:ev e x= .pointer (some ⟨b,o,none⟩)) (Z:ev e y=v) (Y:v.cells=a.toArray) (U:o=i*sz) (m:Gr B L w E sz (.slice (some ⟨b,0,none⟩) N c) (some f) rows) (F:i<rows.length) (R:a.all Value.oneCell'=true)
  (D:row.length=sz) (H:dy (f::L) w a row)
  (k:∀w',aj [f] w w'->w'.heap.size=w.heap.size->Gr B L w' E sz (.slice (some ⟨b,0,none⟩) N c) (some f) (rows.set i row)->OW P n ops K rest e w'):
  OW P n ops K (⟨none,.store T x y,ty,pos,after,g⟩::rest) e w:=by
 subst U;obtain⟨xs,⟨⟨nj,h|⟨_,_,q,pE,Q,hb,O,nV,j,V⟩⟩,M,I,p⟩⟩:=m.own
 .obtain⟨h,_⟩:=h;cases h
 .cases Q;cases pE;have d:a.length=sz:=by rw[H.length,D]
  have s:(i+1)*sz<=rows.length*sz:=Nat.mul_le_mul_right _ F;have We:rows.length*sz<=c*sz:=Nat.mul_le_mul_right _ O;rw[Nat.add_mul,Nat.one_mul] at s;obtain⟨w',jN,hk,J,A⟩:=PO (P:=P) a 0 w f (i*sz) E q hb (by rw[j,d];omega) λu X=>List.all_eq_true.1 R u X;rw[Nat.add_zero] at J;refine Ku S (w':=w') (by simp[execOp,Instr.storeAt,Instr.sureAddr,t,Z,storeVar,Y,kI.tX,d,jN])<|k w' hk A ⟨⟨xs.take (i*sz)++(a++xs.drop (i*sz+sz)),⟨⟨?_,.inr ⟨f,c,_,rfl,sm,J,by simpa using O,nV,by rw[IJ];exact j,?_⟩⟩,?_,?_,p⟩⟩,m.low,λx t=>by rw[A];exact m.cP x t,by rw[A];exact m.bsz⟩
  .rw[lA,lA,List.length_take,List.length_drop,List.length_set,nj,d];omega
  .rw[LG _ _ _ (by rw[j,d];omega),List.length_set,<-V,d,List.take_append,List.take_append];simp only[List.length_take,Array.length_toList,j,d,List.take_take,List.drop_take];rw[Nat.min_eq_right<|show i*sz<=rows.length*sz by omega,Nat.min_eq_left<|show i*sz<=rows.length*sz by omega,Nat.min_eq_left<|show i*sz<=c*sz by omega,List.take_of_length_le (l:=a) om];rw[show rows.length*sz-i*sz-sz=rows.length*sz-(i*sz+sz) from by omega]
  .rw[Wd I F D];refine dy.append (dy.aG M.take<|hk.mono sm)<|dy.append (H.aG<|hk.mono sm) (dy.aG M.drop<|hk.mono sm)
  .intro r sZ;rcases List.mem_or_eq_of_mem_set sZ with h|h
   .exact I r h
   .rw[h];exact D
/-! ### Slices that are built of several ag -/
theorem Wf (a:Nat):∀(c:List Value) (i:Nat) (b:Array Value),((c.zipIdx i).foldl (fun(b:Array Value) (p:Value×Nat)=>b.setIfInBounds (a+p.2) p.1) b)=setAt b (a+i) c
 |[],_,_=>rfl
 |u::c,i,b=>by rw[List.zipIdx_cons,List.foldl_cons,Wf a c];rfl
theorem Wg:∀(d:List Value) (b:List (List Value)) (k:Nat) (a:Array Value),d.map Value.cells=b.map List.toArray->(∀vs∈b,vs.length=sz)->a.size=(k+d.length)*sz->
  ∃c,Instr.fill (λi=>some (i*sz,sz)) a ((d.zipIdx k).map λp=>(p.2,p.1))=some c/\c.toList=a.toList.take (k*sz)++b.flatten
 |[],[],k,a,_,_,f=>⟨a,rfl,by simp only[List.length_nil,Nat.add_zero] at f;simp only[List.flatten_nil,List.append_nil];rw[List.take_of_length_le (by simp[f])]⟩
 |[],_::_,_,_,h,_,_=>by simp at h
 |_::_,[],_,_,h,_,_=>by simp at h
 |u::d,vs::b,k,a,h,hl,f=>by
  simp only[List.map_cons,List.cons.injEq] at h;have g:vs.length=sz:=hl vs sm;simp only[lC] at f;have e:(k+(d.length+1))*sz=k*sz+sz+d.length*sz:=by rw[Nat.add_mul,Nat.add_mul,Nat.one_mul];omega
  rw[List.zipIdx_cons,List.map_cons];obtain⟨c,o,q⟩:=Wg d b (k+1) (setAt a (k*sz) vs) h.2 (λv s=>hl v<|by simp[s]) (by rw[IJ,f];congr 1;omega);refine⟨c,?_,?_⟩
  .unfold Instr.fill;simp only[h.1];rw[iN (by simp[g];omega)];have j:=Wf (k*sz) vs 0 a;simp only[Nat.add_zero] at j;have r:Array.foldl (fun(a:Array Value) (p:Value×Nat)=>a.setIfInBounds (k*sz+p.2) p.1) a vs.toArray.zipIdx=setAt a (k*sz) vs:=by rw[<-j];simp
   rw[r];exact o
  .have n:(k+1)*sz=k*sz+sz:=by rw[Nat.add_mul,Nat.one_mul]
   have m:min (k*sz) a.size=k*sz:=Nat.min_eq_left om;rw[q,LG _ _ _ (by rw[g];omega),n,List.flatten_cons,List.take_append,List.take_append];simp only[List.length_take,Array.length_toList,m,g,List.take_take];rw[Nat.min_eq_right<|show k*sz<=k*sz+sz by omega,show k*sz+sz-k*sz=sz from by omega,List.take_of_length_le (l:=vs) om,Nat.sub_self,List.take_zero,List.append_nil,List.append_assoc]
theorem aiD {T:TypeId} {us:List Value} {vss:List (List Value)} (f:P.underlying T=some (.slice E)) (b:TI P E sz bytes z) (m:0<sz) (c:0<us.length) (n:us.length*sz<=16777216) 
  (l:us.map Value.cells=vss.map List.toArray) (j:∀vs∈vss,vs.length=sz):(Instr.buildSlice T us.length ((us.zipIdx 0).map λp=>(p.2,p.1)).toArray).run P w= .ok (.slice (some ⟨w.heap.size,0,none⟩) us.length us.length) (w.alloc<|.cells vss.flatten.toArray E):=by
 have e:¬us.length*sz=0:=by have:0<us.length*sz:=Nat.mul_pos c m;omega
 have hb:¬(16777216<us.length*sz):=by omega
 obtain⟨a,i,d⟩:=Wg us vss 0 ((Array.range<|us.length*sz).map (z.cells[·%z.cells.size]!)) l j sm;have g:a=vss.flatten.toArray:=by apply Array.ext';simpa using d
 subst g;simp[Instr.buildSlice,Sem.run_bind,run_underlying f,Result.andThen_ok,b.tX,hb,e,b.N0,i,newRow]
theorem sD {m:Nat} {T:TypeId} {ag:Array (Nat×Operand)} (a:List Operand) (vss:List (List Value)) (o:P.underlying T=some (.slice E)) (l:TI P E sz bytes z) (s:gate ops e g=true) (r:cK n dst=true) 
  (v:ag=((a.zipIdx 0).map λp=>(p.2,p.1)).toArray) (u:m=a.length) (B:Nat.blt 0 sz=true) (f:Nat.blt 0 a.length=true) (j:Nat.ble (a.length*sz) 16777216=true)
  (y:a.map (λq=>(ev e q).cells)=vss.map List.toArray) (t:vss.all (λvs=>Nat.beq vs.length sz)=true)
  (k:∀w',aj [] w w'->aK w' w.heap.size vss.flatten.toArray E->w'.heap.size=w.heap.size+1->OW P n ops K rest (cj e dst<|.slice (some ⟨w.heap.size,0,none⟩) m m) w'):
  OW P n ops K (⟨dst,.buildSlice T m ag,ty,pos,after,g⟩::rest) e w:=by
 subst v u;have c:(a.map<|ev e).length=a.length:=by simp
 have d:=aiD (P:=P) (w:=w) (us:=a.map<|ev e) (vss:=vss) o l (by simpa[Nat.blt_eq] using B) (by simpa[Nat.blt_eq] using f) (by rw[c];exact Nat.le_of_ble_eq_true j) (by rw[List.map_map];exact y) λvs h=>Nat.eq_of_beq_eq_true<|List.all_eq_true.1 t vs h;rw[c] at d;have b:((a.zipIdx 0).map λp=>(p.2,p.1)).toArray.map (fun(p:Nat×Operand)=>(p.1,ev e p.2))=(((a.map<|ev e).zipIdx 0).map λp=>(p.2,p.1)).toArray:=by
  rw[List.map_toArray,List.map_map]
  congr 1
  have:∀(a:List Operand) (i:Nat),(a.zipIdx i).map ((fun(p:Nat×Operand)=>(p.1,ev e p.2))∘λp=>(p.2,p.1))=((a.map<|ev e).zipIdx i).map λp=>(p.2,p.1):=by
   intro a;induction a with
   |nil=>intro i;rfl
   |cons q a A=>intro i;simp only[List.zipIdx_cons,List.map_cons,List.map,A];rfl
  exact this a 0
 exact fS s r (w':=w.alloc<|.cells vss.flatten.toArray E) (by have C:(Array.map (λx=>(x.fst,ev e x.snd)) ((a.zipIdx 0).map λp=>(p.2,p.1)).toArray)=(((a.map<|ev e).zipIdx 0).map λp=>(p.2,p.1)).toArray:=b;simp only[execOp];rw[C,Sem.run_bind,d];simp) (k _ (aj.alloc _ _ _) (aK.alloc _ _ _) sm)
/-! ### Slices that are appended whole -/
theorem Wi {w:World}:∀{rows:List (List C)} {f:Nat->List Value},(∀i row,rows[i]?=some row->dy L w (f i) row)->dy L w ((List.range rows.length).map f).flatten rows.flatten
 |[],_,_=>trivial
 |r::rows,f,h=>by rw[lC,List.range_succ_eq_map,List.map_cons,List.map_map,List.flatten_cons,List.flatten_cons];exact(h 0 r rfl).append (Wi (f:=f∘Nat.succ) λi row a=>h (i+1) row<|by simpa using a)
theorem aiF {w:World} {a:List Value} (h:fZ w b off xs) (k:fZ w b (off+xs.length) a):fZ w b off (xs++a):=by grind [fZ]
theorem Wj {w:World} {sz:Nat}:∀{n off:Nat} {f:Nat->List Value},(∀i,i<n->(f i).length=sz/\fZ w b (off+i*sz) (f i))->fZ w b off ((List.range n).map f).flatten
 |0,_,_,_=>λj v g=>by simp at g
 |n+1,off,f,h=>by rw[List.range_succ_eq_map,List.map_cons,List.map_map,List.flatten_cons];obtain⟨c,a⟩:=h 0 om;rw[Nat.zero_mul,Nat.add_zero] at a;refine aiF a<|Wj (sz:=sz) λi _=>?_;obtain⟨d,e⟩:=h (i+1) om;refine⟨d,?_⟩;rw[c];rwa [show off+(i+1)*sz=off+sz+i*sz from by rw[Nat.add_mul];omega] at e
theorem Wk {w:World} {a:Option Addr} {len d size:Nat} (h:cA L w (.slice a len d) (.sl size rows)) (r:0<rows.length):
  ∃b off vs,a=some ⟨b,off,none⟩/\b<w.heap.size/\b∉L/\fZ w b off vs/\dy L w vs rows.flatten/\len=rows.length/\∀row∈rows,row.length=size:=by
 cases h with
 |nil=>simp at r
 |sl b off len d size rows f q _ hb p n u t=>
  refine⟨b,off,((List.range rows.length).map λi=>(List.range size).map<|f i).flatten,rfl,hb,p,Wj (sz:=size) λi l=>⟨by simp,λj v m=>?_⟩,Wi λi row l=>?_,q.symm,n⟩
  .have g:j<size:=by have:=(List.getElem?_eq_some_iff.1 m).1;simpa using this
   have e:f i j=v:=by simpa[List.getElem?_map,g] using m
   rw[<-e];exact u i j om g
  .have s:=n row<|List.mem_of_getElem? l;refine dy.of (by simp[s]) λj v c o y=>?_;have g:j<size:=by have:=(List.getElem?_eq_some_iff.1 o).1;simpa using this
   have e:f i j=v:=by simpa[List.getElem?_map,g] using o
   rw[<-e];exact t i j row c l y
theorem Wl {t ty T:TypeId} {i:TypeInfo} (e:P.underlying t=some (.slice T)) (d:P.info? T=some i) 
  {a:Option Addr} {m cap:Nat} (h:m<=cap) {a2:Option Addr} {c2:Nat}:
  (Builtin.append_ #[t,t] ty #[.slice a m cap,.slice a2 0 c2]).run P w= .ok (.slice a m cap) w:=by
 have c:(Builtin.firstCells i.size 0<|.slice a2 0 c2).run P w= .ok #[] w:=by
  cases a2 with
  |none=>simp[Builtin.firstCells]
  |some b=>exact run_firstCells_some (P:=P) (w:=w) i.size 0 b 0 c2 [] sm sm
 cases a<;>simp[Builtin.append_,run_underlying e,sizeOf,typeInfo,d,Builtin.lenOf,h,c,storeCells]
theorem yt {B:Nat} {L:List Nat} {v:Value} {o:Option Nat} {rows new:List (List C)} {a2:Option Addr} {u c2:Nat} (F:P.underlying t=some (.slice E)) (D:TI P E sz bytes z) (I:gate ops e g=true) (H:cK n dst=true) (Y:Nat.beq z.cells.size sz=true) (R:Nat.ble bytes 1000=true) 
  (p:ev e x=v) (N:ev e y= .slice a2 u c2) (f:Gr B L w E sz v o rows) (M:cA (o.toList++L) w (.slice a2 u c2) (.sl sz new)) (S:∀row∈new,∀c∈row,∀v,c= .val v->v.oneCell'=true)
  (hn:rows.length+new.length<100000000)
  (k:∀l d q w',Gr B L w' E sz (.slice l (rows.length+new.length) d) q (rows++new)->aj o.toList w w'->OW P n ops K rest (cj e dst (.slice l (rows.length+new.length) d)) w'):
  OW P n ops K (⟨dst,.call {callee:=.builtin .append,args:=#[x,y],argTypes:=#[t,t]},ty,pos,after,g⟩::rest) e w:=by
 obtain⟨xs,r⟩:=f.own;have BD:bytes<=1000:=Nat.le_of_ble_eq_true R;by_cases J:0<new.length
 .obtain⟨b,off,vs,rfl,hb,_,s,A,rfl,Z⟩:=Wk M J;refine Tw F D I H Y p r N rfl J Z s ?_ A f.cP (Nat.le_trans (Nat.mul_le_mul (show rows.length+new.length<=100000000 by omega)<|show bytes+1<=1001 by omega) de) ?_
  .refine dy.H6 A λc s v X=>?_;obtain⟨row,j,T⟩:=List.mem_flatten.1 s;exact S row j c T v X
  .intro l d q w' jS hk kL;refine k l d q w' ⟨⟨_,jS⟩,λb hb=>?_,λx p=>lL (f.cP x p) hk.size,Nat.le_trans f.bsz hk.size⟩ hk;rcases kL with h|h
   .rw[h] at hb;exact f.low b hb
   .rw[h] at hb;cases hb;exact f.bsz
 .have lT:new=[]:=List.length_eq_zero_iff.1 om;subst lT;obtain⟨a,cap,rfl⟩:=r.len;have Q:u=0:=by
   obtain⟨_,_,U,_⟩:=sX M;cases U;rfl
  subst Q;have O:rows.length<=cap:=by
   rcases r.own.2 with⟨h,j,_⟩|⟨_,_,_,_,h,_,j,_⟩
   .rw[j];omega
   .cases h;exact j
  obtain⟨i,V,_,_,_⟩:=D.get;have jN:=Wl (P:=P) (w:=w) (t:=t) (ty:=ty) F V (a:=a) (m:=rows.length) (cap:=cap) O (a2:=a2) (c2:=c2);refine fS I H (v:=.slice a rows.length cap) (w':=w) (by simp only[execOp,resolve,invoke,builtin,Sem.run_bind,Sem.run_pure,Result.andThen_ok,List.map_toArray,List.map_cons,List.map_nil,p,N,jN]) ?_;have:=k a cap o w (by simpa using f)<|aj.refl _ _;simpa using this
end
theorem Wm {T N:Nat} (hb:aK w b xs.toArray T) (a:xs.length=N*sz) (c:N<=100000000):iX w T sz (.slice (some ⟨b,0,none⟩) N N) (some b) N xs:=
 ⟨a,.inr ⟨b,N,_,rfl,rfl,hb,lR _,by unfold maxLen;omega,by simpa using a,by rw[<-a];simp⟩⟩
theorem aiG {T:Nat} {xs:List ak} (hb:aK w b (xs.map λx=>str x).toArray T) (c:xs.length<=100000000) (a:b∉L):bo L w (.slice (some ⟨b,0,none⟩) xs.length xs.length) xs:=
 cN.rep (T:=T) (g:=some b) (Wm hb sm c) λx d=>by cases d;exact a
theorem aiH {T N:Nat} (hb:aK w b xs.toArray T) (d:dy (b::L) w xs rows.flatten) (e:∀r∈rows,r.length=sz) (g:N=rows.length) (i:N<=100000000) (c:B<=b) (j:b∉L) (f:∀x∈L,x<w.heap.size):
  Gr B L w T sz (.slice (some ⟨b,0,none⟩) N N) (some b) rows:=by
 subst g;refine⟨⟨xs,⟨Wm hb (by rw[d.length,NX e]) i,d,e,λx a=>by cases a;exact j⟩⟩,λx a=>by cases a;exact c,f,Nat.le_trans c<|Nat.le_of_lt hb.lt⟩
theorem aiI {e:List aq}:∀row,row∈da e->∀c∈row,∀v,c=C.val v->v.oneCell'=true:=by
 intro row d c b v a;rw[zH] at d;obtain⟨t,_,rfl⟩:=List.mem_map.1 d;cases t;rw[aq.enc] at b;simp only[mC,List.not_mem_nil,or_false] at b;rcases b with h|h
 .rw[h] at a;cases a;rfl
 .rw[h] at a;cases a
theorem aiJ {T:Nat} {f g l m n o:Value} {t1 t2 t3:aq} (hb:aK w b [f,g,l,m,n,o].toArray T) (p:aV L w (.agg #[f,g]) t1) (q:aV L w (.agg #[l,m]) t2) (r:aV L w (.agg #[n,o]) t3) (s:b∉L):
  cD L w (.slice (some ⟨b,0,none⟩) 3 3) [t1,t2,t3]:=by
 have t:=Oi [t1,t2,t3];have u:dy L w [f,g,l,m,n,o] (da [t1,t2,t3]).flatten:=by
  have e:(da [t1,t2,t3]).flatten=t1.enc++(t2.enc++t3.enc):=by simp[da]
  rw[e];exact dy.append (vs:=[f,g]) p.jR<|dy.append (vs:=[l,m]) q.jR r.jR
 refine S9 b 0 3 2 (da [t1,t2,t3]) [[f,g],[l,m],[n,o]] (by simp[iu]) (by simp[iu]) hb.lt s t (λi vs a=>?_) λi vs row a d=>?_
 .intro j v c;rw[hb.cell]
  match i,a with
  |0,a=>simp at a;subst a;match j,c with
   |0,c=>simpa using c
   |1,c=>simpa using c
   |j+2,c=>simp at c
  |1,a=>simp at a;subst a;match j,c with
   |0,c=>simpa using c
   |1,c=>simpa using c
   |j+2,c=>simp at c
  |2,a=>simp at a;subst a;match j,c with
   |0,c=>simpa using c
   |1,c=>simpa using c
   |j+2,c=>simp at c
  |i+3,a=>simp at a
 .match i,a with
  |0,a=>simp at a;subst a;simp[da] at d;subst d;exact p.jR
  |1,a=>simp at a;subst a;simp[da] at d;subst d;exact q.jR
  |2,a=>simp at a;subst a;simp[da] at d;subst d;exact r.jR
  |i+3,a=>simp at a
theorem aiK {bs:List Bk} {b:Bk} (h:b∈bs):(px b).length<=(oN bs).length:=Ic<|List.mem_map.2 ⟨b,h,rfl⟩
theorem aiL (b:Bk):(dz [114,101,103,115] b.ck).length<=(px b).length:=Ic sm
theorem aiM (b:Bk):(dz [99,111,100,101] b.code).length<=(px b).length:=Ic sm
theorem Wn {bs:List Bk} (h:i<bs.length):bX bs i∈bs:=by simp[bX,gE h]
section
open Go Go.ChangeShapes Go.WideShapes
theorem aiN {a:Addr} (h:w.cell? a=some v):a=⟨a.block,a.off,none⟩/\a.block<w.heap.size:=by
 obtain⟨b,o,s⟩:=a;unfold World.cell? at h;split at h
 .rename_i c _ _ d;cases s with
  |some s=>simp at h
  |none=>exact⟨rfl,(Array.getElem?_eq_some_iff.1 d).1⟩
 .cases h
theorem aiO {a:Addr} (h:a=⟨a.block,a.off,none⟩) (i:Nat):a.add i=⟨a.block,a.off+i,none⟩:=by rw[h];exact wJ _ _ _
section
variable {H:Type} {enc:TypeId×Value->H} {P:Program} {w:World} {held:Bool}
end
end
theorem IK (a b c:Int) (w:World):bD Tryz.prog 67 [.int .i64 a,.int .i64 b,.int .i64 c] w λv w'=>v= .bool (decide (b<=a)&&decide (a<=c))/\w=w':=by refine cu [.tmp 6] 15 Tryz.func67 rfl agA rfl rfl ?_;refine W ?_;apply oB 4 10 14 rfl oQ;intro _;exact oQ;intro _;refine W ?_;exact⟨_,rfl,rfl,rfl⟩
theorem aiP (c:UInt8) (w:World):bD Tryz.prog 137 [.int .u8 c.toNat] w λv w'=>v= .bool (fi c)/\w=w':=by refine cu [.tmp 2] 33 Tryz.func137 rfl aeV rfl rfl ?_;refine W ?_;apply oB 3 5 8 rfl oQ;intro _;exact oQ;intro a;refine WZ ?_;apply oP 7 9 16 rfl oQ;intro _;refine WZ ?_;apply oB 3 12 15 rfl oQ;intro _;exact oQ;intro a;exact oQ;intro a;refine WZ ?_;apply oP 3 17 20 rfl oQ;intro _;exact oQ;intro a;refine WZ ?_;apply oP 3 21 24 rfl oQ;intro _;exact oQ;intro a;refine WZ ?_;apply oP 3 25 28 rfl oQ;intro _;exact oQ;intro a;refine WZ ?_;apply oP 3 29 32 rfl oQ;intro _;exact oQ;intro a;refine W ?_;exact⟨_,rfl,congrArg Value.bool (To c),rfl⟩
def aiQ (L:List Nat) (s:ak) (d i:Nat) (v:Value) (w:World):Prop:=
 ∃t b a,v= .tuple #[b,.int .i64 a]/\aV L w b t/\DG s.length (rT d<|s.drop i) t a
theorem aiR (s:ak) (hs:s.length<=12000):∀(d i:Nat) (L:List Nat) (w:World),d<=61->i<=s.length->(∀x∈L,x<w.heap.size)->
  bD Tryz.prog 107 [str s,.int .i64 (i:Int),.int .i64 ((61:Int)-(d:Int))] w λv w'=>aiQ L s d i v w'/\aj [] w w':=by
 intro d;induction d with
 |zero=>intro i L w hd hi hL;have c:=aj.refl [] w;refine kM [.cell 6 103,.tmp 7] 87 Tryz.func107 rfl K6 rfl rfl rfl ?_;refine zr<|dj aO rfl rfl rfl λA F e du=>?_;have c:=c.grow;have c:=c.ext F;refine zA<|bf<|zr<|jE (Ip _) rfl rfl<|dj aO rfl rfl rfl λw2 C j dS=>?_;have c:=c.grow;have c:=c.ext C;have e:=e.grow;have e:=e.ext C;refine cF aO rfl rfl rfl j rfl λV B j gj=>?_;have c:=c.aB B sx;have e:=e.aB B sx;refine bf<|j1<|zr<|zm<|HO rfl rfl rfl rfl rfl<|zm ?_;apply Dx 5 15 20 [15,16,17,18,19,20] (λw'=>V=w') rfl;intro E;replace E:=jw E;refine W ?_;exact mg rfl rfl;intro E;replace E:=jw E;refine W ?_;exact mg rfl rfl;rintro X _ rfl;refine bf<|zc rfl (λu=>?_) λu=>?_;refine W ?_;refine cF aO rfl rfl rfl e rfl λN aJ e gS=>?_;have c:=c.aB aJ sx;refine W ?_;exact⟨[_,_],⟨gh fN aO rfl e rfl,rfl⟩,⟨.mk [] [],_,_,rfl,jB ld,rfl⟩,c⟩;exfalso;simp at u
 |succ d ih=>
  intro i L w hd hi hL;have c:=aj.refl [] w;by_cases mF:i<s.length
  .have D:=drop_cons<|jP mF;have Wo:=H3 fi<|s.drop i;rw[List.length_drop] at Wo;refine kM [.cell 6 103,.tmp 7] 87 Tryz.func107 rfl K6 rfl rfl rfl<|zr<|dj aO rfl rfl rfl λA F e du=>?_;have c:=c.grow;have c:=c.ext F;refine zA<|bf<|zr<|jE (Ip _) rfl rfl<|dj aO rfl rfl rfl λw2 C j dS=>?_;have c:=c.grow;have c:=c.ext C;have e:=e.grow;have e:=e.ext C;refine cF aO rfl rfl rfl j rfl λV B j gj=>?_;have c:=c.aB B sx;have e:=e.aB B sx;refine W ?_;apply oP 5 15 20 rfl oQ;intro _;exact oQ;intro X;refine bf<|zc rfl (λu=>?_) λu=>?_;exfalso;simp at u;omega;refine W ?_;refine kJ ji rfl rfl rfl rfl (jP mF)<|HP rfl rfl rfl rfl rfl<|bf<|zc rfl (λh3=>?_) λh3=>?_;have dD:s.getD i 0≠40:=λh=>h3 (by rw[h];rfl);refine W ?_;refine eW (λk:Nat=>[(0,str s),(1,.int .i64 (k:Int)),(6,.pointer<|some ⟨w.heap.size,0,none⟩),(8,.pointer<|some ⟨A.heap.size,0,none⟩),(9,.int .i64 (i:Int))]) (λk w'=>w'=V/\i<=k/\k-i<=((s.drop i).takeWhile fi).length) (λk=>s.length-k) i (⟨rfl,rfl,rfl,rfl,rfl⟩) (⟨rfl,lR _,om⟩) λK N e4 T=>?_;obtain⟨rfl,wQ,Gp⟩:=T;have Eb:=acx s wQ Gp;refine WZ ?_;apply oB 5 31 36 rfl oQ;intro _;refine zm<|zm<|kJ ji rfl rfl rfl rfl (jP om)<|aA (aiP _ _) ?_;rintro _ _ ⟨rfl,rfl⟩;exact oQ;intro X;refine bf<|zc rfl (λh5=>?_) λh5=>?_;have eN:=Eb.2 (by simpa using h5);refine W ?_;exact⟨K+1,⟨rfl,rfl,rfl,rfl,rfl⟩,⟨rfl,om,om⟩,om⟩;have Y:K-i=((s.drop i).takeWhile fi).length:=Nat.le_antisymm Gp (Nat.le_of_not_lt λhh=>by have f:=Eb.1 hh;rw[f.2,Bool.and_true,decide_eq_false_iff_not] at h5;omega);refine W ?_;refine Dw ji rfl rfl rfl (.inr ⟨_,rfl⟩) (.inr ⟨_,rfl⟩) om om<|zf ml rfl<|ir bw rfl rfl rfl j rfl λw5 H j _=>?_;have c:=c.aB H sx;have e:=e.aB H sx;refine W ?_;refine zc rfl (λM=>?_) λM=>?_;have r:rT (d+1) (s.drop i)=none:=by rw[Y,KE] at M;show eZ d _=none;rw[D,H5 _ _ _ dD,<-D,iP M]
   refine W ?_;refine cF aO rfl rfl rfl e rfl λw6 z e ll=>?_;have c:=c.aB z sx;refine W ?_;exact⟨[_,_],⟨gh fN aO rfl e rfl,rfl⟩,⟨.mk _ [],_,_,rfl,jB ld,by rw[r];rfl⟩,c⟩;have r:rT (d+1) (s.drop i)=some (.mk ((s.drop i).takeWhile fi) [],(s.drop i).dropWhile fi):=by rw[Y,KE] at M;show eZ d _=_;rw[D,H5 _ _ _ dD,<-D,iN M]
   refine W ?_;refine cF aO rfl rfl rfl e rfl λw6 z e ll=>?_;have c:=c.aB z sx;refine zA<|bf<|la<|⟨[_,_],⟨gh fN aO rfl e rfl,rfl⟩,⟨.mk _ [],_,_,rfl,jB ld,?_⟩,c⟩;rw[r];refine⟨by rw[Y,KE],?_⟩;rw[H2,List.length_drop,List.length_drop];show(K:Int)=_;omega;have Z:s.getD i 0=40:=UInt8.toNat_inj.1 (by have O:(40:UInt8).toNat=40:=rfl;rw[O];omega);refine WZ ?_;refine eW (λq:List aq×Nat×Option Addr×Nat×Option Nat×List Value=>[(0,str s),(1,.int .i64 (q.2.1:Int)),(2,.int .i64<|(61:Int)-((d+1:Nat):Int)),(6,.pointer<|some ⟨w.heap.size,0,none⟩),(8,.pointer<|some ⟨A.heap.size,0,none⟩)]) (λq w'=>aj [] w w'/\aK w' w.heap.size [str [],.slice none 0 0].toArray 103/\aK w' A.heap.size [str [],.slice q.2.2.1 q.1.length q.2.2.2.1].toArray 103/\iF (w.heap.size::A.heap.size::L) w' 103 2 (.slice q.2.2.1 q.1.length q.2.2.2.1) q.2.2.2.2.1 (da q.1) q.2.2.2.2.2/\(∀b,q.2.2.2.2.1=some b->w.heap.size<=b)/\q.2.1<s.length/\i<=q.2.1/\q.1.length<=q.2.1/\A.heap.size<w'.heap.size/\nZ d (s.drop<|i+1)=(nZ d (s.drop<|q.2.1+1)).map λp=>(q.1++p.1,p.2)) (λq=>s.length-q.2.1) (([],i,none,0,none,[])) (⟨rfl,rfl,rfl,rfl,rfl⟩) (⟨c,e,j,iF.nil _ _ _ _,sm,mF,lR _,sm,om,sm⟩) λK N e4 T=>?_;obtain⟨l,k,a,_,g,xs⟩:=K;dsimp only at T⊢;obtain⟨c,e,j,n,hg,hk,wQ,_,_,U⟩:=T;have hLx:∀x∈g.toList++(w.heap.size::A.heap.size::L),x<N.heap.size:=by intro x f;simp at f;rcases f with f|rfl|rfl|f;exact n.own.lt x f;omega;omega;have E:=hL x f;have u:=c.size;omega
   refine WA ?_;refine Cy ?_;refine zm<|oJ rfl rfl rfl rfl rfl (show IntKind.i64.wrap ((61:Int)-((d+1:Nat):Int)+1)=(61:Int)-(d:Int) by rw[wrap_i64 _ om om];omega)<|aA (ih (k+1) (g.toList++(w.heap.size::A.heap.size::L)) N om om hLx) ?_;rintro _ w5 ⟨yv,H⟩;have mq:=H.size;refine gO H c e j n λc e j n=>?_;obtain⟨t,_,_,rfl,y,hm⟩:=yv;obtain⟨_,_,_,rfl,eA,_⟩:=cW y;subst eA;refine W ?_;refine dj aO rfl rfl rfl λw6 z qg ll=>?_;have c:=c.grow;have c:=c.ext z;have e:=e.grow;have e:=e.ext z;have j:=j.grow;have j:=j.ext z;have n:=n.alloc z ll;have y:=y.grow;have y:=y.ext z;refine cF aO rfl rfl rfl qg rfl λ_ I qg _=>?_;have c:=c.aB I sx;have e:=e.aB I sx;have j:=j.aB I sx;have n:=n.aB I sx;have y:=y.aB I sx;refine W ?_;apply oP 5 61 66 rfl oQ;intro _;exact oQ;intro X;refine bf<|zc rfl (λS=>?_) λS=>?_;have r:rT (d+1) (s.drop i)=none:=by show eZ d _=none;rw[D,Z,FQ,U,acy hm (by simpa using S) om];rfl
   refine W ?_;refine cF aO rfl rfl rfl e rfl λw8 R e l3=>?_;have c:=c.aB R sx;have n:=n.aB R sx;refine W ?_;exact⟨[_,_],⟨gh fN aO rfl e rfl,rfl⟩,⟨.mk [] l,_,_,rfl,jB<|n.done.weaken λx f=>by simp[f],by rw[r];rfl⟩,c⟩;simp at S;obtain⟨m,rfl,_,PT,fJ⟩:=acz hm S.1 om;refine W ?_;refine fW cT aO rfl rfl λw8 R aiT l3=>kT R c e j n y λc e j n y=>?_;refine Tx cT aO rfl rfl rfl rfl rfl n (pY t) aiT.all (by simp[Value.oneCell']) (y.jR.fresh λx f=>.inl<|Tu x f) ?_ ?_ ?_;intro x f;simp at f;rcases f with rfl|rfl|rfl|f;(·omega);(·omega);(·omega);(·have E:=hL x f;have u:=c.size;omega);rw[iu];omega;intro a2 Aa g2 _ o Q jx;have e1:(da l).length+1=(l++[t]).length:=by simp[iu]
   have e2:da l++[t.enc]=da (l++[t]):=by simp[Oj,da]
   rw[e1] at o⊢;rw[e2] at o;have cH:=Q.size;have DU:∀b,g2=some b->w.heap.size<=b:=by intro b hb;rcases jx with h|h;(·rw[h] at hb;exact hg b hb);(·rw[h] at hb;cases hb;omega)
   have c:=c.aB Q λx f=>.inr (hg x<|by simpa using f);have e:=e.aB Q<|n.sep sm;have j:=j.aB Q<|n.sep sm;refine zf kn rfl<|ir F5 rfl rfl rfl j rfl λ_ df j _=>?_;have c:=c.aB df sx;have e:=e.aB df sx;have o:=o.aB df sx;refine W ?_;refine kJ ji rfl rfl rfl rfl (jP PT)<|xZ rfl rfl rfl rfl rfl<|bf<|zc rfl (λh9=>?_) λh9=>?_;have P:s.getD m 0=41:=UInt8.toNat_inj.1 (by have O:(41:UInt8).toNat=41:=rfl;rw[O];omega);have r:rT (d+1) (s.drop i)=some (.mk [] (l++[t]),s.drop<|m+1):=by show eZ d _=_;rw[D,Z,FQ,U,fJ,iP P];rfl
   refine W ?_;refine cF aO rfl rfl rfl e rfl λfb J e uJ=>?_;have c:=c.aB J sx;have o:=o.aB J sx;refine W ?_;exact⟨[_,_],⟨gh fN aO rfl e rfl,rfl⟩,⟨.mk [] (l++[t]),_,_,rfl,jB<|o.done.weaken λx f=>by simp[f],by rw[r];exact⟨rfl,by rw[List.length_drop];omega⟩⟩,c⟩;have P:s.getD m 0≠41:=λh=>h9 (by rw[h];rfl);refine W ?_;refine kJ ji rfl rfl rfl rfl (jP PT)<|HP rfl rfl rfl rfl rfl<|bf<|zc rfl (λgi=>?_) λgi=>?_;have PU:s.getD m 0≠32:=λh=>gi (by rw[h];rfl);have r:rT (d+1) (s.drop i)=none:=by show eZ d _=_;rw[D,Z,FQ,U,fJ,iN P,iN PU];rfl
   refine W ?_;refine cF aO rfl rfl rfl e rfl λfb J e uJ=>?_;have c:=c.aB J sx;have o:=o.aB J sx;refine W ?_;exact⟨[_,_],⟨gh fN aO rfl e rfl,rfl⟩,⟨.mk [] (l++[t]),_,_,rfl,jB<|o.done.weaken λx f=>by simp[f],by rw[r];rfl⟩,c⟩;have PU:s.getD m 0=32:=UInt8.toNat_inj.1 (by have O:(32:UInt8).toNat=32:=rfl;rw[O];omega);refine WZ ?_;exact⟨(l++[t],m,a2,Aa,g2,_),⟨rfl,rfl,rfl,rfl,rfl⟩,⟨c,e,j,o.more (by intro x f;exact .inl (by simp at f⊢;rcases f with f|f|f<;>simp[f])),DU,PT,by dsimp only;omega,by simp;omega,om,by rw[U,fJ,iN P,iP PU,map_append]⟩,by dsimp only;omega⟩
  refine kM [.cell 6 103,.tmp 7] 87 Tryz.func107 rfl K6 rfl rfl rfl<|zr<|dj aO rfl rfl rfl λA F e du=>?_;have c:=c.grow;have c:=c.ext F;refine zA<|bf<|zr<|jE (Ip _) rfl rfl<|dj aO rfl rfl rfl λw2 C j dS=>?_;have c:=c.grow;have c:=c.ext C;have e:=e.grow;have e:=e.ext C;refine cF aO rfl rfl rfl j rfl λV B j gj=>?_;have c:=c.aB B sx;have e:=e.aB B sx;refine W ?_;apply oP 5 15 20 rfl oQ;intro _;exact oQ;intro X;refine bf<|zc rfl (λu=>?_) λu=>?_;have r:rT (d+1) (s.drop i)=none:=by rw[List.drop_of_length_le om];exact Tr d
  refine W ?_;refine cF aO rfl rfl rfl e rfl λN aJ e gS=>?_;have c:=c.aB aJ sx;refine W ?_;exact⟨[_,_],⟨gh fN aO rfl e rfl,rfl⟩,⟨.mk [] [],_,_,rfl,jB ld,by rw[r];rfl⟩,c⟩;exfalso;simp at u;omega
theorem Ab (s:ak) (L:List Nat) (w:World) (u:∀x∈L,x<w.heap.size):
  bD Tryz.prog 78 [str s] w λv w'=>(∃t j,v= .tuple #[j,.bool (bP s).isSome]/\aV L w' j t/\∀i,bP s=some i->t=i)/\aj [] w w':=by
 have a:=aj.refl [] w;refine kM [.cell 2 103,.tmp 3] 20 Tryz.func78 rfl UZ rfl rfl rfl ?_;refine zr<|dj aO rfl rfl rfl λz p b _=>?_;have a:=a.grow;have a:=a.ext p;refine W ?_;refine zc rfl (λr=>?_) λr=>?_;have o:bP s=none:=by unfold bP;rw[iP om]
 refine zr<|jE (Ip _) rfl rfl<|cF aO rfl rfl rfl b rfl λA e b _=>?_;have a:=a.aB e sx;refine W ?_;exact⟨[_,_],⟨gh fN aO rfl b rfl,rfl⟩,⟨.mk [] [],_,by rw[o];rfl,jB ld,λi h=>by rw[o] at h;cases h⟩,a⟩;refine iD<|zr<|zm<|aA (aiR s om 61 0 (w.heap.size::L) z om om (by intro x d;rcases mC.1 d with rfl|d;(·omega);(·have:=u x d;omega))) ?_;rintro _ A ⟨q,e⟩;have B:=e.size;refine bQ e a b λa b=>?_;obtain⟨t,j,_,rfl,c,y⟩:=q;obtain⟨_,_,_,rfl,_,_⟩:=cW c;refine W ?_;refine dj aO rfl rfl rfl λ_ f m _=>?_;have a:=a.grow;have a:=a.ext f;have b:=b.grow;have b:=b.ext f;have c:=c.grow;have c:=c.ext f;refine cF aO rfl rfl rfl m rfl λ_ g m _=>?_;have a:=a.aB g sx;have b:=b.aB g sx;have c:=c.aB g sx;refine W ?_;refine cF aO rfl rfl rfl b rfl λ_ n b _=>?_;have a:=a.aB n sx;have c:=c.aB n sx;refine W ?_;have l:=acA om y;exact⟨[_,_],⟨gh fN aO rfl b rfl,rfl⟩,⟨t,_,by rw[<-l.1];rfl,jh.fresh c λx d=>.inl<|by simp[d],l.2⟩,a⟩
theorem LI (t:aq) (v:Value) (L:List Nat) (w:World) (q:aV L w v t):bD Tryz.prog 140 [v] w λr w'=>r=str (bC t)/\aj [] w w':=by obtain⟨a,n,c,rfl,m,f⟩:=cW q;have e:=aj.refl [] w;refine cu [.tmp 2] 17 Tryz.func140 rfl aeY rfl rfl ?_;refine zr<|eK rfl λ_ o _ _=>bQ o e f λe f=>?_;refine W ?_;apply oP 5 6 11 rfl oQ;intro _;refine WZ ?_;exact oQ;intro _;refine bf<|zc rfl (λd=>?_) λd=>?_;have g:bC t=[]:=vH (by simp at d;rcases d with h|h;(·exact .inl h);(·right;subst m;simpa using h));refine W ?_;exact⟨_,rfl,by rw[g];rfl,e⟩;simp at d;have s:=d.2;have p:∃l,t.ag[0]?=some l:=⟨t.ag[0]'om,gE om⟩;obtain⟨l,j⟩:=p;obtain⟨b,off,_,_,_,rfl,_,_,_⟩:=gB f j;have g:bC t=l.au:=FU d.1 j;refine WI ?_;refine zi (i:=0) cT aO rfl rfl (by rw[m];exact(List.getElem?_eq_some_iff.1 j).1) ?_;refine W ?_;exact⟨_,rfl,by rw[g];rfl,e⟩
theorem Wp (s:ak) (i:s.length<9223372036854775807) (w:World):bD Tryz.prog 102 [str s] w λr w'=>r= .bool (nu s)/\w=w':=by refine cu [.tmp 2] 39 Tryz.func102 rfl aep rfl rfl ?_;refine W ?_;refine eW (λk:Nat=>[(0,str s),(3,.int .i64 (k:Int))]) (λk w'=>w'=w/\k<=s.length/\∀j,j<k->BF s j=true) (λk=>s.length-k) (0) (⟨rfl,rfl⟩) (⟨rfl,om,by intro j g;omega⟩) λd _ _ f=>?_;obtain⟨rfl,hk,c⟩:=f;refine W ?_;refine zc rfl (λe=>?_) λe=>?_;refine W ?_;refine kJ ji rfl rfl rfl rfl (jP om)<|WZ ?_;apply oB 5 14 19 rfl oQ;intro _;refine zm<|zm<|kJ ji rfl rfl rfl rfl (jP om) ?_;exact oQ;intro b;refine WZ ?_;apply oP 15 20 35 rfl oQ;intro _;refine WZ ?_;apply oB 5 23 28 rfl oQ;intro _;refine zm<|zm<|kJ ji rfl rfl rfl rfl (jP om) ?_;exact oQ;intro b;refine WZ ?_;apply oB 5 29 34 rfl oQ;intro _;refine zm<|zm<|kJ ji rfl rfl rfl rfl (jP om) ?_;exact oQ;intro b;exact oQ;intro b;refine kj rfl rfl rfl<|bf<|zc rfl (λa=>?_) λa=>?_;rw[KO] at a;refine W ?_;exact⟨_,rfl,by rw[TX om a];rfl,rfl⟩;rw[KO] at a;refine W ?_;exact⟨d+1,⟨rfl,rfl⟩,⟨rfl,om,T0 c a⟩,om⟩;refine W ?_;exact⟨_,rfl,by rw[TZ λj g=>c j om];rfl,rfl⟩
def IM (s:ak):Value:=.tuple #[.int .i64<|(numeral s).getD 0,.bool (numeral s).isSome]
theorem LJ (s:ak) (w:World):bD Tryz.prog 142 [str s] w λv w'=>v=IM s/\w=w':=by
 refine cu [.tmp 2,.tmp 3] 57 Tryz.func142 rfl ae0 rfl rfl ?_;refine W ?_;apply oB 4 12 16 rfl oQ;intro u;refine zm<|kJ (i:=0) ji rfl rfl rfl rfl (jP om) ?_;exact oQ;intro A;refine W ?_;refine jq (λ_:Unit=>[(0,str s),(4,.int .i64<|sq s),(5,str<|fj s)]) (λ_ w'=>w'=w) ?_ ?_;refine zc rfl (λe=>?_) λe=>?_;have f:0<s.length/\s.getD 0 0=45:=by have b:=TW 45<|s.getD 0 0;simp only[show((45:UInt8).toNat:Int)=45 from rfl] at b;rw[b] at e;simpa using e
 refine W ?_;refine Dw (l:=1) ji rfl rfl rfl (.inr ⟨_,rfl⟩) (.inl ⟨rfl,rfl⟩) om om<|zA<|bf ?_;exact⟨(),⟨rfl,by rw[sq,iP f];rfl,by have u:fj s=(s.drop 1).take (s.length-1):=by{rw[fj,iP f,List.take_of_length_le sm]};rw[u];exact rfl⟩,rfl⟩;have f:¬(0<s.length/\s.getD 0 0=45):=by have b:=TW 45<|s.getD 0 0;simp only[show((45:UInt8).toNat:Int)=45 from rfl] at b;rw[b] at e;simpa using e
 refine WZ ?_;exact⟨(),⟨rfl,by rw[sq,iN f];rfl,by rw[fj,iN f];exact rfl⟩,rfl⟩;intro _ F _ p;obtain rfl:=p;refine W ?_;refine zc rfl (λm=>?_) λm=>?_;have g:numeral s=some 0:=by unfold numeral;rw[iP m]
 refine W ?_;exact⟨_,rfl,by unfold IM;rw[g];rfl,rfl⟩;have r:=m;refine W ?_;refine aA (IK _ _ _ _) ?_;rintro _ _ ⟨rfl,rfl⟩;refine WZ ?_;apply oP 4 25 29 rfl oQ;intro D;simp at D;refine zm<|kJ (i:=0) ji rfl rfl rfl rfl (jP om) ?_;exact oQ;intro A;refine bf<|zc rfl (λn=>?_) λn=>?_;have g:numeral s=none:=acK r<|acO n;refine W ?_;exact⟨_,rfl,by unfold IM;rw[g];rfl,rfl⟩;have y:=acP n;refine W ?_;refine eW (λk:Nat=>[(4,.int .i64<|sq s),(5,str<|fj s),(6,.int .i64 (val ((fj s).take k):Nat)),(7,.int .i64 (k:Int))]) (λk w'=>w'=F/\k<=(fj s).length/\((fj s).take k).all iJ=true) (λk=>(fj s).length-k) (0) (⟨rfl,rfl,rfl,rfl⟩) (⟨rfl,om,sm⟩) λd _ _ p=>?_;obtain⟨rfl,hk,c⟩:=p;refine W ?_;refine zc rfl (λE=>?_) λE=>?_;have a:d<(fj s).length:=by omega
 have j:=TV _ c;have C:val ((fj s).take d)<100:=lL j<|Nat.le_trans (Nat.pow_le_pow_right om (show((fj s).take d).length<=2 by simp;omega)) de;clear j;refine W ?_;refine kJ ji rfl rfl rfl rfl (jP a)<|WZ ?_;apply oP 5 40 45 rfl oQ;intro _;refine zm<|zm<|kJ ji rfl rfl rfl rfl (jP a) ?_;exact oQ;intro A;refine bf<|zc rfl (λo=>?_) λo=>?_;have g:numeral s=none:=acL r a<|T2 o;refine W ?_;exact⟨_,rfl,by unfold IM;rw[g];rfl,rfl⟩;have q:=T3 o;have H:=q.1;have I:=q.2.1;refine W ?_;refine kJ ji rfl rfl rfl rfl (jP a)<|x4 rfl rfl rfl rfl rfl (wrap_u8 _ om om)<|zD zS yh rfl rfl rfl (wrap_i64 _ om om)<|W ?_;exact⟨d+1,⟨rfl,rfl,by rw[Om a,TU];show Value.int _ _=Value.int _ _;congr 1;omega,rfl⟩,⟨rfl,om,by rw[Om a,List.all_append,c];simp only[List.all_cons,q.2.2];rfl⟩,om⟩;have t:(fj s).take d=fj s:=List.take_of_length_le om;rw[t] at c;have j:=TV _ c;have C:val (fj s)<1000:=lL j<|Nat.le_trans (Nat.pow_le_pow_right om y.2.1) de;clear j;rw[t];have B:=acN s;have z: -1000<sq s*(val (fj s):Int)/\sq s*(val (fj s):Int)<1000:=by rcases B with h|h<;>rw[h]<;>omega
 refine W ?_;exact⟨_,rfl,by unfold IM;rw[acM r y c];rfl,rfl⟩
theorem aiU (t:aq) (v:Value) (L:List Nat) (w:World) (i:aV L w v t):bD Tryz.prog 181 [v] w λr w'=>r= .int .i64 (ub t.au)/\aj [] w w':=by
 obtain⟨a,n,c,rfl,d,_⟩:=cW i;have e:=aj.refl [] w;refine cu [.tmp 2] 19 Tryz.func181 rfl afD rfl rfl ?_;refine zr<|eK rfl λ_ g _ _=>?_;have e:=e.ext g;refine W ?_;refine aA (LJ _ _) ?_;rintro _ _ ⟨rfl,rfl⟩;refine W ?_;apply oP 4 13 17 rfl oQ;intro _;refine zm<|aA (IK _ _ _ _) ?_;rintro _ _ ⟨rfl,rfl⟩;exact oQ;intro _;refine bf<|zc rfl (λb=>?_) λb=>?_;have f:ub t.au= -1:=by unfold ub;cases d:numeral t.au with|none=>rfl|some k=>rw[d] at b;simp at b;exact iN om
 refine W ?_;exact⟨_,rfl,by rw[f];rfl,e⟩;have f:ub t.au=(numeral t.au).getD 0:=by unfold ub;cases d:numeral t.au with|none=>rw[d] at b;simp at b|some k=>rw[d] at b;simp at b;exact iP om
 refine W ?_;exact⟨_,rfl,by rw[f];rfl,e⟩
theorem PV:∀(m:Nat) (t:aq),t.size<=m->t.size<=100000->WF t->∀(d:Bool) (v:Value) (L:List Nat) (w:World),aV L w v t->
  bD Tryz.prog 135 [v,.bool d,.bool false] w λr w'=>r= .bool (fX d t)/\aj [] w w':=by
 intro m;induction m with
 |zero=>intro t h;cases t;simp[aq.size] at h
 |succ m M=>
  intro t _ _ y d v L w V;obtain⟨a,n,c,rfl,T,f⟩:=cW V;have e:=aj.refl [] w;have mP:=lD t;refine cu [.tmp 6] 72 Tryz.func135 rfl aeU rfl rfl ?_;refine zr<|eK rfl λF g u _=>bQ g e f λe f=>?_;refine W ?_;refine zc rfl (λB=>?_) λB=>?_;refine WZ ?_;apply oP 7 15 22 rfl oQ;intro _;refine WZ ?_;apply oB 4 17 21 rfl oQ;intro _;refine WZ ?_;exact oQ;intro p;exact oQ;intro p;refine WZ ?_;apply oP 7 23 30 rfl oQ;intro _;refine zm<|zm<|Bq (t:=25) (b:=false) rfl ?_;exact oQ;intro p;refine W ?_;exact⟨_,rfl,show Value.bool _=Value.bool _ from congrArg _<|by rw[T6 B,Bool.or_false],e⟩;have o:t.au=[]:=Classical.not_not.1 B;have j:=y.pos o;have ot:=ek j;obtain⟨b,off,_,_,_,rfl,_,_,_⟩:=gB f ot;refine WI ?_;refine zi (i:=0) cT aO rfl rfl (by rw[T];exact j)<|W ?_;refine zc rfl (λC=>?_) λC=>?_;refine WZ ?_;apply oA 7 42 49 (aj [] F) rfl oQ;intro _;have K:t.ag.length=2:=by omega
  have Z:=ek (ps:=t.ag) (i:=1) om;obtain⟨O,Q,X,sE,Y,q,J,tt,E⟩:=gB f Z;cases q;refine zf kn rfl<|zl jC rfl (u.at rfl)<|zi (i:=1) cT aO rfl rfl om<|zL fN aO rfl J rfl<|zm<|aA (M (nth t.ag 1) (by have:=kP (t:=t) (i:=1) om;omega) (by have:=kP (t:=t) (i:=1) om;omega) (y.nth om) true _ L F<|jQ E) ?_;rintro _ H ⟨rfl,s⟩;have dA:=s.size;exact oQ;intro p H s;have e:=e.ext s;refine zA<|bf<|la<|⟨_,rfl,show Value.bool _=Value.bool _ from congrArg _ ?_,e⟩;rw[Ot o j C]
  congr 1
  exact decide_eq_decide.2 om;have P:=C;refine WZ ?_;apply oB 3 52 55 rfl oQ;intro _;exact oQ;intro p;refine bf<|zc rfl (λD=>?_) λD=>?_;have hb:=Ov o j P<|acW D;refine W ?_;exact⟨_,rfl,by rw[hb];rfl,e⟩;have N:(nth t.ag 0).au=[116]\/(nth t.ag 0).au=[99]:=acV D;refine W ?_;refine eW (λk:Nat=>[(3,.pointer<|some ⟨w.heap.size,0,none⟩),(1,.bool d),(2,.bool false),(8,.int .i64 (k:Int))]) (λk w'=>aj [] w w'/\aj [] F w'/\1<=k/\k<=t.ag.length/\(t.ag.drop 1).all (fX d)=(t.ag.drop k).all (fX d)) (λk=>t.ag.length-k) (1) (⟨rfl,rfl,rfl,rfl⟩) (⟨e,aj.refl [] _,om,om,rfl⟩) λl H _ S=>?_;obtain⟨e,g,hk,_,z⟩:=S;refine bQ g f u λf u=>?_;refine W ?_;refine zc rfl (λR=>?_) λR=>?_;have U:=ek (ps:=t.ag) (i:=l) om;obtain⟨O,Q,X,sE,Y,q,J,tt,E⟩:=gB f U;cases q;refine W ?_;refine aA (M (nth t.ag l) (by have:=kP (t:=t) (i:=l) om;omega) (by have:=kP (t:=t) (i:=l) om;omega) (y.nth om) d _ L H<|jQ E) ?_;rintro _ _ ⟨rfl,I⟩;have fl:=I.size;refine bQ I e g λe g=>?_;refine kj rfl rfl rfl<|bf<|zc rfl (λA=>?_) λA=>?_;have hb:fX d t=false:=by rw[Ou o j N,z,T7 om,A];rfl
  refine W ?_;exact⟨_,rfl,by rw[hb];rfl,e⟩;refine W ?_;exact⟨l+1,⟨rfl,rfl,rfl,rfl⟩,⟨e,g,om,om,by rw[z,T7 om,A];rfl⟩,om⟩;have hb:fX d t=true:=by rw[Ou o j N,z,List.drop_of_length_le om];rfl
  refine W ?_;exact⟨_,rfl,by rw[hb];rfl,e⟩

end Go.Proofs.YtcildnfcpkpomaaGreatDoor
