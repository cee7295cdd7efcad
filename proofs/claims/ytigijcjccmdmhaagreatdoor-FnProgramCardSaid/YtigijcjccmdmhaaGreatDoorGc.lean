/- Lemmas for the law FnProgram, no statement of their own: no conditions. -/
import Derived.Test.YtigijcjccmdmhaaGreatDoorGb
namespace Go.Proofs.YtigijcjccmdmhaaGreatDoor
open Go
variable {E N b bytes d i j k n sz t:Nat} {G G' G0 L:List Nat} {w w' w0:World} {l:List Oper} {r:List (List Nat)} {m m1 m2:Mk} {V u v z:Value} {e0:Env} {J:List Nat->List Value->World->Prop} {vs:Array Value} {T:Ty} {g:Option Nat} {ps xs ys:List aj} {s:da} {q1 q2 q3 q4 q5 q6:Operand} {a a1 a2 a3 a4 a5 a6 h x:aj} {ts:List aA} {e:Ex}
section
variable {P:Program} {n:Nat} {l:List Oper} {m:Nat} {W ds:List Nat} {deps:List (List Nat)}
theorem Sg {N:Env->World->Prop} {Inv:(Nat->Bool)->Env->World->Prop} (hB:vU l m W ds deps=true) 
  (step:∀(S:Nat->Bool) (e:Env) (w:World) (i:Nat) (o:Oper),i<m->l[i]?=some o->S i=false->(∀j,waits o j=true->S j=true)->Inv S e w->
   OW P n l.toArray (λe' w'=>Inv (λj=>if j=i then true else S j) e' w') [o] e w)
  (tail:∀(S:Nat->Bool) (e:Env) (w:World),(∀i,i<m->S i=true)->Inv S e w->OW P n l.toArray N (l.drop m) e w) (Q:Exit->Act->World->Prop):
  ∀(fuel:Nat) (listed:Array Bool) (e:Env) (a:Act) (w:World),Fits n e a->listed.size=l.length->
   ((List.range l.length).filter λj=>!listed.getD j true).length=fuel->
   (∀j,m<=j->j<l.length->listed.getD j true=false)->Inv (λj=>listed.getD j false) e w->HB l listed->
   wpAny P .any l.toArray (pC n N Q) fuel listed a w:=by
 obtain⟨C5,EJ,Kp,jy,ow⟩:=C4 hB
 have zj:∀(listed:Array Bool) (j:Nat),listed.size=l.length->j<l.length->¬listed.getD j true=false->listed.getD j false=true:=λlisted j hs hj h1=>by
  rw[Array.getD_eq_getD_getElem?] at h1⊢
  rw[Array.getElem?_eq_getElem om] at h1⊢
  simpa using h1
 have EK:∀(listed:Array Bool) (j:Nat),listed.size=l.length->j<l.length->listed.getD j false=true->listed.getD j true=true:=λlisted j hs hj h1=>by
  rw[Array.getD_eq_getD_getElem?] at h1⊢
  rw[Array.getElem?_eq_getElem om] at h1⊢
  simpa using h1
 intro fuel
 induction fuel with
 |zero=>
  intro listed e a w hf hs Bm gw hI ov
  have dA:∀j,j<l.length->listed.getD j true=true:=λj hj=>by
   cases hg:listed.getD j true with
   |true=>rfl
   |false=>
    have:j∈(List.range l.length).filter λj=>!listed.getD j true:=by rw[List.mem_filter,List.mem_range];exact⟨hj,by rw[hg];rfl⟩
    rw[List.length_eq_zero_iff.1 Bm] at this;cases this
  have hm:m=l.length:=by
   rcases Nat.lt_or_ge m l.length with h|h
   ·have:=gw m (lR _) h;rw[dA m h] at this;cases this
   ·omega
  have ht:=tail _ e w (λi hi=>zj listed i hs om (by rw[dA i om];simp)) hI
  have h2:=ht a hf Q
  exact HC hB 0 m listed a w (lR _) om hs (λj hj=>⟨λh=>(by rw[dA j hj] at h;cases h),λh=>om⟩) h2
 |succ fuel ih=>
  intro listed e a w hf hs Bm gw hI ov
  by_cases ux:∀j,j<m->listed.getD j true=true
  ·have ht:=tail _ e w (λi hi=>zj listed i hs om (by rw[ux i hi];simp)) hI
   have h2:=ht a hf Q
   have zn:∀j,j<l.length->(listed.getD j true=false↔m<=j):=λj hj=>by
    constructor
    ·intro h
     rcases Nat.lt_or_ge j m with h'|h'
     ·rw[ux j h'] at h;cases h
     ·exact h'
    ·intro h;exact gw j h hj
   have zo:m+(fuel+1)=l.length:=by
    rw[<-Bm]
    have:∀k,k<=l.length->m<=k->((List.range k).filter λj=>!listed.getD j true).length=k-m:=by
     intro k
     induction k with
     |zero=>intro _ h;simp
     |succ k ihk=>
      intro gS Bi
      rw[List.range_succ,List.filter_append,lA]
      rcases Nat.lt_or_ge k m with h'|h'
      ·have PF:k+1=m:=by omega
       have hz:((List.range k).filter λj=>!listed.getD j true)=[]:=by
        rw[List.filter_eq_nil_iff]
        intro j hj
        rw[List.mem_range] at hj
        rw[ux j om];simp
       have e1:(!listed.getD k true)=false:=by rw[ux k h'];rfl
       simp only[hz,List.filter_cons,e1,List.filter_nil,List.length_nil]
       simp;omega
      ·rw[ihk om h']
       have e1:(!listed.getD k true)=true:=by rw[(zn k om).2 h'];rfl
       simp only[List.filter_cons,e1,List.filter_nil,if_true,lC,List.length_nil]
       omega
    have:=this l.length (lR _) C5
    omega
   exact HC hB (fuel+1) m listed a w (lR _) zo hs zn h2
  ·have hex:∃j,j<m∧listed.getD j true=false∧∀i,i<j->listed.getD i true=true:=by
    have:∀k,(∃j,j<k∧listed.getD j true=false∧∀i,i<j->listed.getD i true=true)∨∀j,j<k->listed.getD j true=true:=by
     intro k
     induction k with
     |zero=>right;intro j hj;omega
     |succ k ihk=>
      rcases ihk with⟨j,hj,h1,h2⟩|h
      ·exact .inl ⟨j,om,h1,h2⟩
      ·cases hg:listed.getD k true with
       |false=>exact .inl ⟨k,om,hg,h⟩
       |true=>
        right
        intro j hj
        rcases Nat.lt_or_ge j k with h'|h'
        ·exact h j h'
        ·rw[show j=k from by omega];exact hg
    rcases this m with h|h
    ·exact h
    ·exact absurd h ux
   obtain⟨j0,EL,EM,EN⟩:=hex
   obtain⟨o0,EO⟩:∃o,l[j0]?=some o:=⟨l[j0]'om,gE om⟩
   have nK:j0∈Region.ready .any l.toArray listed:=mem_ready.2 ⟨EM,o0,by simpa using EO,λed he hb=>by
    have eU:=(ow j0 o0 EO).1 ed he hb
    exact zj listed _ hs om (by rw[EN _ eU];simp)⟩
   refine⟨λhr=>(by rw[hr] at nK;cases nK),λi hi=>?_⟩
   obtain⟨hu,o,ho,dA⟩:=mem_ready.1 hi
   have mL:i<l.length:=by simpa using(Array.getElem?_eq_some_iff.1 ho).1
   have mP:l[i]?=some o:=by simpa using ho
   have qP:i<m:=by
    rcases Nat.lt_or_ge i m with h|h
    ·exact h
    ·have:=EK listed j0 hs om (Kn ov mP dA ((ow i o mP).2.2 h) (i-j0) j0 om om)
     rw[EM] at this;cases this
   have tL:listed.getD i false=false:=by
    cases h:listed.getD i false with
    |false=>rfl
    |true=>rw[EK listed i hs mL h] at hu;cases hu
   have h1:=step (λj=>listed.getD j false) e w i o qP mP tL (λj hj=>by
    obtain⟨ed,he,hb,uy⟩:=Km hj
    rw[<-uy];exact dA ed he hb) hI
   have h2:=h1 a hf Q
   have next:∀(a':Act) (w':World),pC n (λe' w'=>Inv (λj=>if j=i then true else listed.getD j false) e' w') Q .normal a' w'->
     wpAny P .any l.toArray (pC n N Q) fuel (listed.setIfInBounds i true) a' w':=λa' w' hq=>by
    obtain⟨e',Kq,hI'⟩:=hq
    refine ih _ e' a' w' Kq (by simpa using hs) ?_ ?_ ?_ ?_
    ·have zo:∀k,k<=l.length->((List.range k).filter λj=>!(listed.setIfInBounds i true).getD j true).length+(if i<k then 1 else 0)=((List.range k).filter λj=>!listed.getD j true).length:=by
      intro k
      induction k with
      |zero=>simp
      |succ k ihk=>
       intro gS
       have xA:=ihk om
       rw[List.range_succ,List.filter_append,lA,List.filter_append,lA]
       by_cases uz:i=k
       ·subst uz
        rw[iN om] at xA
        have eU:i<listed.size:=by omega
        have e1:(listed.setIfInBounds i true).getD i true=true:=by simp[Array.getD_eq_getD_getElem?,eU]
        rw[iP om]
        simp only[List.filter_cons,e1,hu,List.filter_nil,Bool.not_true,Bool.not_false,if_true,Bool.false_eq_true,if_false,lC,List.length_nil]
        omega
       ·have e1:(listed.setIfInBounds i true).getD k true=listed.getD k true:=getD_set_ne true uz
        simp only[List.filter_cons,e1,List.filter_nil]
        have Xs:(i<k+1)↔(i<k):=by omega
        by_cases pD:i<k
        ·have c1:i<k+1:=by omega
         rw[iP pD] at xA;rw[iP c1];split<;>simp only[lC,List.length_nil]<;>omega
        ·have c1:¬i<k+1:=by omega
         rw[iN pD] at xA;rw[iN c1];split<;>simp only[lC,List.length_nil]<;>omega
     have:=zo l.length (lR _)
     rw[iP mL] at this
     omega
    ·intro j Ks vQ
     rw[getD_set_ne true om];exact gw j Ks vQ
    ·have e1:(λj=>(listed.setIfInBounds i true).getD j false)=λj=>if j=i then true else listed.getD j false:=by
      funext j
      by_cases lV:i=j
      ·subst lV
       have:i<listed.size:=by omega
       simp[Array.getD_eq_getD_getElem?,this]
      ·rw[getD_set_ne false lV,iN (λh=>lV h.symm)]
     rw[e1];exact hI'
    ·intro j oj Bn hj e2 mq aZ
     have vV:∀x,listed.getD x false=true->(listed.setIfInBounds i true).getD x false=true:=λx hx=>by
      by_cases ER:i=x
      ·subst ER
       have:i<listed.size:=by omega
       simp[Array.getD_eq_getD_getElem?,this]
      ·rw[getD_set_ne false ER];exact hx
     by_cases lV:i=j
     ·subst lV
      rw[mP] at Bn;cases Bn
      exact vV _ (dA e2 mq aZ)
     ·rw[getD_set_ne false lV] at hj
      exact vV _ (ov j oj Bn hj e2 mq aZ)
   unfold wpOp
   simp only[ho]
   unfold wpList at h2
   by_cases hw:Region.wanted o (yielded l.toArray a.tmps)=true
   ·rw[iP hw] at h2⊢
    rcases h2 with h2|⟨h2,h3⟩
    ·refine .inl (Oper.Kj (λa' w' h'=>next a' w' h') (λ_ _ _ h=>h) (fun⟨a,w,hq⟩=>⟨a,w,hq⟩) h2)
    ·exact .inr ⟨h2,by obtain⟨a',w',hq⟩:=h3;exact⟨a',w',hq⟩⟩
   ·rw[iN hw] at h2⊢
    exact next _ _ h2
inductive Ie where
 |v (V:Value)
 |p (f:List Nat->Value->World->Prop)
 |e (t:Nat)
 |w (t:Nat) (V:Value)
 |q (t:Nat) (f:Value->Prop)
def Ie.F:Ie->List Nat->Value->World->Prop
 | .v V=>λ_ v _=>v=V
 | .p f=>f
 | .e _=>λ_ _ _=>True
 | .w _ V=>λ_ v _=>v=V
 | .q _ f=>λ_ v _=>f v
def Ie.l6:Ie->Option Nat
 | .e t=>some t
 | .w t _=>some t
 | .q t _=>some t
 |_=>none
abbrev nh:Ie:=.p λ_ _ _=>True
def wD (its:List Ie) (ds:List Nat) (G:List Nat) (aW:List Value) (w:World):List Nat->(List (Nat×Value)->Prop)->Prop
 |[],k=>k []
 |j::r,k=>match its.getD j nh with
  | .v V=>wD its ds G aW w r λacc=>k ((ds.getD j 0,V)::acc)
  | .p f=>∀v,f G v w->wD its ds G aW w r λacc=>k ((ds.getD j 0,v)::acc)
  | .e t=>wD its ds G aW w r λacc=>k ((ds.getD j 0,aW.getD t undef)::acc)
  | .w _ V=>wD its ds G aW w r λacc=>k ((ds.getD j 0,V)::acc)
  | .q t f=>∀v,aW.getD t undef=v->f v->wD its ds G aW w r λacc=>k ((ds.getD j 0,v)::acc)
theorem Am {its:List Ie} {ds:List Nat} {aW:List Value} {vs:Nat->Value}:∀{deps:List Nat} {k:List (Nat×Value)->Prop},wD its ds G aW w deps k->
  (∀j,j∈deps->(its.getD j nh).F G (vs j) w∧∀t,(its.getD j nh).l6=some t->aW.getD t undef=vs j)->k (tn ds vs deps)
 |[],k,h,_=>h
 |j::r,k,h,hd=>by
  obtain⟨hp,he⟩:=hd j (List.mem_cons_self ..)
  unfold wD at h
  have hr:∀i,i∈r->_:=λi hi=>hd i (mK _ hi)
  cases e:its.getD j nh with
  |v V=>
   rw[e] at h hp
   have hv:vs j=V:=hp
   subst hv
   exact Am (deps:=r) h hr
  |p f=>
   rw[e] at h hp
   exact Am (deps:=r) (h _ hp) hr
  |e t=>
   rw[e] at h
   have hv:=he t (by rw[e];rfl)
   simp only[hv] at h
   exact Am (deps:=r) h hr
  |w t V=>
   rw[e] at h hp
   have hv:vs j=V:=hp
   subst hv
   exact Am (deps:=r) h hr
  |q t f=>
   rw[e] at h hp
   exact Am (deps:=r) (h _ (he t (by rw[e];rfl)) hp) hr
def fy (G:List Nat) (w:World):Prop:=∀x,x∈G->x<w.heap.size
def Mb (P:Program) (n:Nat) (ops:Array Oper) (W ds:List Nat) (its:List Ie) (e0:Env) (G0:List Nat) (w0:World) (i:Nat) (o:Oper) (deps:List Nat):Prop:=
 ∀(x:Env) (w:World) (G:List Nat) (aW:List Value),Fr G0 w0 G w->fy G w->wD its ds G aW w deps λacc=>
  OW P n ops (λe' w'=>ak [] w w'∧(its.getD i nh).F G (e' (ds.getD i 0)) w'∧gv [ds.getD i 0] (aM (aN W x e0) acc) e') [o] (aM (aN W x e0) acc) w
def Sh (P:Program) (n:Nat) (ops:Array Oper) (W ds:List Nat) (its:List Ie) (Js:List (List Nat->List Value->World->Prop)) (e0:Env) (G0:List Nat) (w0:World) (t i:Nat) (o:Oper) (deps:List Nat):Prop:=
 ∀(x:Env) (w:World) (G:List Nat) (aW:List Value),Fr G0 w0 G w->fy G w->Js.getD t (λ_ _ _=>True) G aW w->aW.length=t->wD its ds G aW w deps λacc=>
  OW P n ops (λe' w'=>(∃G',Fr G w G' w'∧fy G' w'∧Js.getD (t+1) (λ_ _ _=>True) G' (aW++[e' (ds.getD i 0)]) w'∧(its.getD i nh).F G' (e' (ds.getD i 0)) w')∧gv [ds.getD i 0] (aM (aN W x e0) acc) e') [o] (aM (aN W x e0) acc) w
def Dz (P:Program) (n:Nat) (ops:Array Oper) (W ds:List Nat) (its:List Ie) (Js:List (List Nat->List Value->World->Prop)) (e0:Env) (G0:List Nat) (w0:World) (i:Nat) (o:Oper) (deps:List Nat):Prop:=
 match(its.getD i nh).l6 with
 |some t=>Sh P n ops W ds its Js e0 G0 w0 t i o deps
 |none=>Mb P n ops W ds its e0 G0 w0 i o deps
def ya (P:Program) (n:Nat) (ops:Array Oper) (W ds:List Nat) (its:List Ie) (Js:List (List Nat->List Value->World->Prop)) (e0:Env) (G0:List Nat) (w0:World):Nat->List Oper->List (List Nat)->Prop
 |_,[],_=>True
 |_,_::_,[]=>True
 |k,o::l,d::r=>Dz P n ops W ds its Js e0 G0 w0 k o d∧ya P n ops W ds its Js e0 G0 w0 (k+1) l r
section
variable {P:Program} {n:Nat} {ops:Array Oper} {W ds:List Nat} {its:List Ie} {Js:List (List Nat->List Value->World->Prop)} {e0:Env} {G0:List Nat} {w0:World}
theorem vf {o:Oper} {l:List Oper} {d:List Nat} (h:Mb P n ops W ds its e0 G0 w0 k o d) (hr:ya P n ops W ds its Js e0 G0 w0 (k+1) l r) (hk:(its.getD k nh).l6=none:=by rfl):ya P n ops W ds its Js e0 G0 w0 k (o::l) (d::r):=
 ⟨by unfold Dz;rw[hk];exact h,hr⟩
theorem ve (t:Nat) {o:Oper} {l:List Oper} {d:List Nat} (h:Sh P n ops W ds its Js e0 G0 w0 t k o d) (hr:ya P n ops W ds its Js e0 G0 w0 (k+1) l r) (hk:(its.getD k nh).l6=some t:=by rfl):ya P n ops W ds its Js e0 G0 w0 k (o::l) (d::r):=
 ⟨by unfold Dz;rw[hk];exact h,hr⟩
theorem Si:∀(l:List Oper) (deps:List (List Nat)) (k:Nat),ya P n ops W ds its Js e0 G0 w0 k l deps->∀(i:Nat) (o:Oper) (d:List Nat),l[i]?=some o->deps[i]?=some d->Dz P n ops W ds its Js e0 G0 w0 (k+i) o d
 |[],_,_,_,i,o,d,h,_=>by simp at h
 |_::_,[],_,_,i,o,d,_,h=>by simp at h
 |o::l,d::r,k,h,0,o',d',ho,hd=>by
  simp at ho hd;subst ho;subst hd;exact h.1
 |o::l,d::r,k,h,i+1,o',d',ho,hd=>by
  have:=Si l r (k+1) h.2 i o' d' (by simpa using ho) (by simpa using hd)
  rwa [show k+1+i=k+(i+1) by omega] at this
end
def Mc (l:List Oper) (m:Nat) (effs:List Nat) (its:List Ie):Bool:=
 (List.range effs.length).all (λt=>decide (effs.getD t 0<m)&&((its.getD (effs.getD t 0) nh).l6==some t)&&(decide (t=0)||(match l[effs.getD t 0]? with|some o=>waits o (effs.getD (t-1) 0)|none=>false)))&&
 (List.range m).all (λi=>match(its.getD i nh).l6 with|some t=>decide (t<effs.length)&&decide (effs.getD t 0=i)|none=>true)
theorem acI {l:List Oper} {m:Nat} {effs:List Nat} {its:List Ie} (h:Mc l m effs its=true):
  (∀t,t<effs.length->effs.getD t 0<m∧(its.getD (effs.getD t 0) nh).l6=some t∧(t≠0->∃o,l[effs.getD t 0]?=some o∧waits o (effs.getD (t-1) 0)=true))∧
  ∀i t,i<m->(its.getD i nh).l6=some t->t<effs.length∧effs.getD t 0=i:=by
 unfold Mc at h
 rw[aE,List.all_eq_true,List.all_eq_true] at h
 obtain⟨h1,h2⟩:=h
 refine⟨λt ht=>?_,λi t hi he=>?_⟩
 ·have:=h1 t (List.mem_range.2 ht)
  simp only[aE,dE,beq_iff_eq,oE] at this
  obtain⟨⟨a,b⟩,c⟩:=this
  refine⟨a,b,λh0=>?_⟩
  rcases c with c|c
  ·exact absurd c h0
  ·cases hl:l[effs.getD t 0]? with
   |none=>rw[hl] at c;cases c
   |some o=>rw[hl] at c;exact⟨o,rfl,c⟩
 ·have:=h2 i (List.mem_range.2 hi)
  rw[he] at this
  simpa using this
def An:List Ie->Prop
 |[]=>True
 | .p f::r=>(∀G v w G' w',f G v w->Fr G w G' w'->f G' v w')∧An r
 | .v _::r=>An r
 | .e _::r=>An r
 | .w _ _::r=>An r
 | .q _ _::r=>An r
theorem DA:∀{its:List Ie},An its->∀q,q∈its->∀G v w G' w',q.F G v w->Fr G w G' w'->q.F G' v w'
 | .p f::r,h,q,hq,G,v,w,G',w',hf,hk=>by
  rcases mC.1 hq with e|hq
  ·subst e;exact h.1 _ _ _ _ _ hf hk
  ·exact DA (its:=r) h.2 q hq _ _ _ _ _ hf hk
 | .v V::r,h,q,hq,G,v,w,G',w',hf,hk=>by
  rcases mC.1 hq with e|hq
  ·subst e;exact hf
  ·exact DA (its:=r) h q hq _ _ _ _ _ hf hk
 | .e V::r,h,q,hq,G,v,w,G',w',hf,hk=>by
  rcases mC.1 hq with e|hq
  ·subst e;exact hf
  ·exact DA (its:=r) h q hq _ _ _ _ _ hf hk
 | .w t V::r,h,q,hq,G,v,w,G',w',hf,hk=>by
  rcases mC.1 hq with e|hq
  ·subst e;exact hf
  ·exact DA (its:=r) h q hq _ _ _ _ _ hf hk
 | .q t f::r,h,q,hq,G,v,w,G',w',hf,hk=>by
  rcases mC.1 hq with e|hq
  ·subst e;exact hf
  ·exact DA (its:=r) h q hq _ _ _ _ _ hf hk
theorem Sj {its:List Ie} (h:An its) (i:Nat) (hf:(its.getD i nh).F G v w) (hk:Fr G w G' w'):(its.getD i nh).F G' v w':=by
 rw[gG] at hf⊢
 cases e:its[i]? with
 |none=>trivial
 |some q=>rw[e] at hf;exact DA h q (List.mem_of_getElem? e) _ _ _ _ _ hf hk
def Iv:List (List Nat->List Value->World->Prop)->Prop
 |[]=>True
 |J::r=>(∀G vs w w',J G vs w->ak [] w w'->J G vs w')∧Iv r
theorem Fx:∀{Js:List (List Nat->List Value->World->Prop)},Iv Js->∀(k:Nat) {G:List Nat} {vs:List Value} {w w':World},Js.getD k (λ_ _ _=>True) G vs w->ak [] w w'->Js.getD k (λ_ _ _=>True) G vs w'
 |[],_,k,_,_,_,_,_,_=>by simp
 |J::r,h,0,_,_,_,_,hj,hk=>h.1 _ _ _ _ hj hk
 |J::r,h,k+1,_,_,_,_,hj,hk=>by
  have:=Fx (Js:=r) h.2 k (by simpa using hj) hk
  simpa using this
theorem jO {α:Type} {l:List α} (h:l.length=0):l=[]:=List.length_eq_zero_iff.1 h
theorem jP {α:Type} {l:List α} (h:l.length=1):∃a,l=[a]:=List.length_eq_one_iff.1 h
theorem lH {α:Type} {l:List α} (h:l.length=2):∃a b,l=[a,b]:=by
 match l,h with|[a,b],_=>exact⟨a,b,rfl⟩
theorem Ao {α:Type} {l:List α} (h:l.length=3):∃a b c,l=[a,b,c]:=by
 match l,h with|[a,b,c],_=>exact⟨a,b,c,rfl⟩
theorem Md {α:Type} {l:List α} (h:l.length=4):∃a b c d,l=[a,b,c,d]:=by
 match l,h with|[a,b,c,d],_=>exact⟨a,b,c,d,rfl⟩
theorem Sk {α:Type} {l:List α} (h:l.length=5):∃a b c d e,l=[a,b,c,d,e]:=by
 match l,h with|[a,b,c,d,e],_=>exact⟨a,b,c,d,e,rfl⟩
theorem acJ {α:Type} {l:List α} (h:l.length=6):∃a b c d e f,l=[a,b,c,d,e,f]:=by
 match l,h with|[a,b,c,d,e,f],_=>exact⟨a,b,c,d,e,f,rfl⟩
theorem Ap {W ds:List Nat} {e:Env} (ha:gv W e0 e) (r:List Nat):aM (aN W e e0) (tn ds (λi=>e (ds.getD i 0)) r)=e:=by
 rw[zh ha,EI (by
  intro p hp
  have:∀(r:List Nat),p∈tn ds (λi=>e (ds.getD i 0)) r->e p.1=p.2:=by
   intro r
   induction r with
   |nil=>intro h;cases h
   |cons j r ih=>
    intro h
    rcases mC.1 h with h|h
    ·subst h;rfl
    ·exact ih h
  exact this _ hp)]
theorem kc {N R:Env->World->Prop} {X:Nat->Env->World->Prop} {id:Nat} {e0:Env} {w0:World} (hm:P.follows .mixedOrders=true) (G0:List Nat) (m:Nat) (W ds:List Nat) (deps:List (List Nat)) (its:List Ie) (effs:List Nat) (Js:List (List Nat->List Value->World->Prop)) 
  (hB:vU l m W ds deps=true) (hE:Mc l m effs its=true) (hL:fy G0 w0) (hF:An its) (hJ:Iv Js) (h0:Js.getD 0 (λ_ _ _=>True) G0 [] w0)
  (hc:ya P n l.toArray W ds its Js e0 G0 w0 0 (l.take m) deps)
  (ht:∀(x:Env) (w:World) (G:List Nat) (aW:List Value),Fr G0 w0 G w->fy G w->Js.getD effs.length (λ_ _ _=>True) G aW w->aW.length=effs.length->wD its ds G aW w (List.range m) λacc=>OW P n l.toArray N (l.drop m) (aM (aN W x e0) acc) w):
  CW P n (.region id l.toArray true) N R X e0 w0:=λa ha=>by
 refine wp_region_any hm ?_
 have gN:ak [] w0 {w0 with drawn:=w0.drawn+1}:=ak.drew _ _
 obtain⟨C5,EJ,Kp,jy,ow⟩:=C4 hB
 obtain⟨oA,mq⟩:=acI hE
 have eN:∀i j,i<m->j<m->i≠j->ds.getD j 0≠ds.getD i 0:=λi j hi hj lV=>by
  rw[gG,gG,gE om,gE om]
  simp only[Option.getD_some]
  intro he
  exact lV ((List.getElem_inj jy).1 he.symm)
 let Inv:(Nat->Bool)->Env->World->Prop:=λS e w=>∃G k,gv W e0 e∧Fr G0 w0 G w∧fy G w∧k<=effs.length∧(∀t,t<effs.length->(S (effs.getD t 0)=true↔t<k))∧
  Js.getD k (λ_ _ _=>True) G ((effs.take k).map λi=>e (ds.getD i 0)) w∧∀i,i<m->S i=true->(its.getD i nh).F G (e (ds.getD i 0)) w
 have Fy:∀(S:Nat->Bool) (e:Env) (k:Nat),(∀t,t<effs.length->(S (effs.getD t 0)=true↔t<k))->k<=effs.length->∀j t,j<m->S j=true->(its.getD j nh).l6=some t->((effs.take k).map λi=>e (ds.getD i 0)).getD t undef=e (ds.getD j 0):=by
  intro S e k hS hk j t hj l7 he
  obtain⟨h1,h2⟩:=mq j t hj he
  have h3:t<k:=(hS t h1).1 (by rw[h2];exact l7)
  rw[gG,List.getElem?_map,List.getElem?_take,iP h3,gE h1]
  rw[gG,gE h1] at h2
  simp only[Option.getD_some] at h2
  simp[h2]
 have step:∀(S:Nat->Bool) (e:Env) (w:World) (i:Nat) (o:Oper),i<m->l[i]?=some o->S i=false->(∀j,waits o j=true->S j=true)->Inv S e w->
   OW P n l.toArray (λe' w'=>Inv (λj=>if j=i then true else S j) e' w') [o] e w:=by
  rintro S e w i o qP ho tL Aq ⟨G,k,qe,bY,qw,gS,hS,uP,o6⟩
  obtain⟨hW,zq⟩:=(ow i o ho).2.1 qP
  obtain⟨dp,zt⟩:∃d,deps[i]?=some d:=⟨deps[i]'om,gE om⟩
  have EP:deps.getD i []=dp:=by rw[gG,zt];rfl
  rw[EP] at zq
  have jn:=Si (l.take m) deps 0 hc i o dp (by rw[List.getElem?_take,iP qP];exact ho) zt
  rw[Nat.zero_add] at jn
  have hd:∀j,j∈dp->(its.getD j nh).F G (e (ds.getD j 0)) w∧∀t,(its.getD j nh).l6=some t->((effs.take k).map λi=>e (ds.getD i 0)).getD t undef=e (ds.getD j 0):=λj hj=>by
   obtain⟨h1,h2⟩:=zq j hj
   exact⟨o6 j h2 (Aq j h1),λt het=>Fy S e k hS gS j t h2 (Aq j h1) het⟩
  have Fz:∀e',gv [ds.getD i 0] e e'->gv W e0 e':=λe' h t BR=>by
   have DB:t≠ds.getD i 0:=λhe=>by rw[he,hW] at BR;cases BR
   rw[h t (by simpa using DB)];exact qe t BR
  have Ar:∀e',gv [ds.getD i 0] e e'->∀j,j<m->j≠i->e' (ds.getD j 0)=e (ds.getD j 0):=λe' h j hj jt=>h _ (by simpa using eN i j qP hj (λh=>jt h.symm))
  have gi:[o]=[o]++[]:=rfl
  cases sI:(its.getD i nh).l6 with
  |none=>
   unfold Dz at jn
   rw[sI] at jn
   have h1:=Am (jn e w G _ bY qw) (vs:=λj=>e (ds.getD j 0)) hd
   rw[Ap qe] at h1
   rw[gi]
   refine vT h1 ?_
   rintro e' w' ⟨pE,yb,l8⟩
   refine ag ⟨G,k,Fz e' l8,bY.ext pE,λx hx=>lL (qw x hx) pE.size,gS,λt gw=>?_,?_,λj hj l7=>?_⟩
   ·have sJ:effs.getD t 0≠i:=λh=>by have:=(oA t gw).2.1;rw[h,sI] at this;cases this
    simp only[iN sJ]
    exact hS t gw
   ·have e1:((effs.take k).map λi=>e' (ds.getD i 0))=(effs.take k).map λi=>e (ds.getD i 0):=by
     apply List.map_congr_left
     intro j hj
     obtain⟨t,nX⟩:=List.mem_iff_getElem?.1 hj
     rw[List.getElem?_take] at nX
     split at nX
     ·have gw:t<effs.length:=(List.getElem?_eq_some_iff.1 nX).1
      have uy:effs.getD t 0=j:=by rw[gG,nX];rfl
      have h3:=oA t gw
      rw[uy] at h3
      exact Ar e' l8 j h3.1 (λh=>by rw[h,sI] at h3;cases h3.2.1)
     ·cases nX
    rw[e1];exact Fx hJ k uP pE
   ·by_cases jt:j=i
    ·rw[jt];exact yb
    ·simp only[iN jt] at l7
     rw[Ar e' l8 j hj jt]
     exact Sj hF j (o6 j hj l7) (Fr.of pE sm)
  |some t=>
   unfold Dz at jn
   rw[sI] at jn
   obtain⟨gw,sJ⟩:=mq i t qP sI
   have sK:k=t:=by
    have h1:¬t<k:=λh=>by have:=(hS t gw).2 h;rw[sJ,tL] at this;cases this
    rcases Nat.eq_zero_or_pos t with h0|h0
    ·omega
    ·obtain⟨o',mP,FA⟩:=(oA t gw).2.2 om
     rw[sJ,ho] at mP
     cases mP
     have:=(hS (t-1) om).1 (Aq _ FA)
     omega
   subst sK
   have hlen:((effs.take k).map λi=>e (ds.getD i 0)).length=k:=by simp;omega
   have h1:=Am (jn e w G _ bY qw uP hlen) (vs:=λj=>e (ds.getD j 0)) hd
   rw[Ap qe] at h1
   rw[gi]
   refine vT h1 ?_
   rintro e' w' ⟨⟨G',wE,BS,DC,yb⟩,l8⟩
   have FB:∀t',t'<effs.length->effs.getD t' 0=i->t'=k:=λt' h1 h2=>by
    have:=(oA t' h1).2.1
    rw[h2,sI] at this
    cases this;rfl
   refine ag ⟨G',k+1,Fz e' l8,bY.go wE,BS,om,λt' As=>?_,?_,λj hj l7=>?_⟩
   ·by_cases h2:effs.getD t' 0=i
    ·have:=FB t' As h2
     simp only[iP h2]
     exact⟨λ_=>om,λ_=>trivial⟩
    ·simp only[iN h2]
     rw[hS t' As]
     have:t'≠k:=λh=>by rw[h] at h2;exact h2 sJ
     omega
   ·have e1:((effs.take (k+1)).map λi=>e' (ds.getD i 0))=((effs.take k).map λi=>e (ds.getD i 0))++[e' (ds.getD i 0)]:=by
     have h2:effs[k]?=some i:=by
      rw[gG,gE gw] at sJ
      rw[gE gw]
      simpa using sJ
     rw[List.take_add_one,h2,List.map_append]
     congr 1
     apply List.map_congr_left
     intro j hj
     obtain⟨t',nX⟩:=List.mem_iff_getElem?.1 hj
     rw[List.getElem?_take] at nX
     split at nX
     ·rename_i eU
      have As:t'<effs.length:=(List.getElem?_eq_some_iff.1 nX).1
      have uy:effs.getD t' 0=j:=by rw[gG,nX];rfl
      exact Ar e' l8 j (by have:=(oA t' As).1;rw[uy] at this;exact this) (λh=>by have:=FB t' As (uy.trans h);omega)
     ·cases nX
    rw[e1];exact DC
   ·by_cases jt:j=i
    ·rw[jt];exact yb
    ·simp only[iN jt] at l7
     rw[Ar e' l8 j hj jt]
     exact Sj hF j (o6 j hj l7) wE
 have tail:∀(S:Nat->Bool) (e:Env) (w:World),(∀i,i<m->S i=true)->Inv S e w->OW P n l.toArray N (l.drop m) e w:=by
  rintro S e w Au ⟨G,k,qe,bY,qw,gS,hS,uP,o6⟩
  have hk:k=effs.length:=by
   rcases Nat.lt_or_ge k effs.length with h|h
   ·have:=(hS k h).1 (Au _ (oA k h).1);omega
   ·omega
  subst hk
  have h1:=Am (ht e w G _ bY qw uP sm) (vs:=λj=>e (ds.getD j 0)) (λj hj=>by
   have pF:=List.mem_range.1 hj
   exact⟨o6 j pF (Au j pF),λt het=>Fy S e _ hS gS j t pF (Au j pF) het⟩)
  rw[Ap qe] at h1
  exact h1
 have ie:∀j,(Array.replicate l.length false).getD j false=false:=λj=>by
  rw[Array.getD_eq_getD_getElem?,Array.getElem?_replicate];split<;>rfl
 have Me:Inv (λj=>(Array.replicate l.length false).getD j false) e0 {w0 with drawn:=w0.drawn+1}:=by
  refine⟨G0,0,Bg,Fr.of gN sm,λx hx=>hL x hx,Nat.zero_le _,λt gw=>?_,Fx hJ 0 h0 gN,λi hi tL=>?_⟩
  ·constructor
   ·intro h;exact absurd ((ie (effs.getD t 0)).symm.trans h) sm
   ·intro h;omega
  ·exact absurd ((ie i).symm.trans tL) sm
 have:=Sg (N:=N) (Inv:=Inv) hB step tail (lu n N R X) l.length (Array.replicate l.length false) e0 a _ ha sm
  (by
   have:((List.range l.length).filter λj=>!(Array.replicate l.length false).getD j true)=List.range l.length:=by
    rw[List.filter_eq_self]
    intro j hj
    rw[List.mem_range] at hj
    simp[Array.getD_eq_getD_getElem?,hj]
   rw[this];simp)
  (by intro j _ hj;simp[Array.getD_eq_getD_getElem?,hj])
  Me
  (by
   intro j o ho hj
   have pF:j<l.length:=(List.getElem?_eq_some_iff.1 ho).1
   simp[Array.getD_eq_getD_getElem?,pF] at hj)
 have e1:pC n N (lu n N R X)=lu n N R X:=by
  funext x a w;cases x<;>rfl
 rw[e1] at this
 simpa using this
end
section
variable {P:Program} {n:Nat} {ops:Array Oper} {e:Env} {w w':World} {G:List Nat}
theorem fv (h:v=V:=by rfl):OW P n ops (λe' w'=>ak [] w w'∧(Ie.v V).F G (e' d) w'∧gv [d] e e') [] (cO e (some d) v) w:=
 ag ⟨ak.refl _ _,by subst h;exact nJ _ _ _,qO⟩
theorem fk (k:ak [] w w') (h:v=V:=by rfl):OW P n ops (λe' w'=>ak [] w w'∧(Ie.v V).F G (e' d) w'∧gv [d] e e') [] (cO e (some d) v) w':=
 ag ⟨k,by subst h;exact nJ _ _ _,qO⟩
theorem ff {f:List Nat->Value->World->Prop} (k:ak [] w w') (h:f G v w'):OW P n ops (λe' w'=>ak [] w w'∧(Ie.p f).F G (e' d) w'∧gv [d] e e') [] (cO e (some d) v) w':=
 ag ⟨k,by show f G (kI e d v d) w';rw[nJ];exact h,qO⟩
theorem fe {aW:List Value} (G':List Nat) (k:Fr G w G' w') (hl:fy G' w') (h:J G' (aW++[v]) w'):OW P n ops (λe' w'=>(∃G',Fr G w G' w'∧fy G' w'∧J G' (aW++[e' d]) w'∧(Ie.e t).F G' (e' d) w')∧gv [d] e e') [] (cO e (some d) v) w':=
 ag ⟨⟨G',k,hl,by show J G' (aW++[kI e d v d]) w';rw[nJ];exact h,trivial⟩,qO⟩
theorem fw {aW:List Value} (G':List Nat) (k:Fr G w G' w') (hl:fy G' w') (h:J G' (aW++[v]) w') (hv:v=V:=by rfl):OW P n ops (λe' w'=>(∃G',Fr G w G' w'∧fy G' w'∧J G' (aW++[e' d]) w'∧(Ie.w t V).F G' (e' d) w')∧gv [d] e e') [] (cO e (some d) v) w':=
 ag ⟨⟨G',k,hl,by show J G' (aW++[kI e d v d]) w';rw[nJ];exact h,by subst hv;exact nJ _ _ _⟩,qO⟩
theorem fq {f:Value->Prop} {aW:List Value} (G':List Nat) (k:Fr G w G' w') (hl:fy G' w') (h:J G' (aW++[v]) w') (hv:f v):OW P n ops (λe' w'=>(∃G',Fr G w G' w'∧fy G' w'∧J G' (aW++[e' d]) w'∧(Ie.q t f).F G' (e' d) w')∧gv [d] e e') [] (cO e (some d) v) w':=
 ag ⟨⟨G',k,hl,by show J G' (aW++[kI e d v d]) w';rw[nJ];exact h,by show f (kI e d v d);rw[nJ];exact hv⟩,qO⟩
end
theorem cR {P:Program} {ops:Array Oper} {W ds:List Nat} {its:List Ie} {Js:List (List Nat->List Value->World->Prop)} {o:Oper} {d:List Nat} (hr:ya P n ops W ds its Js e0 G0 w0 (k+1) l r) (h:Mb P n ops W ds its e0 G0 w0 k o d:=by exact λ_ _ _ _ _ _=>zm fv) (hk:(its.getD k nh).l6=none:=by rfl):ya P n ops W ds its Js e0 G0 w0 k (o::l) (d::r):=vf h hr hk
inductive Iu where
 |v (V:Value)
 |p (f:List Nat->Value->World->Prop)
 |e (t:Nat)
 |w (t:Nat) (V:Value)
 |d (f:List Value->Value)
 |u
def Iu.F:Iu->List Nat->Value->World->Prop
 | .v V=>λ_ v _=>v=V
 | .p f=>f
 | .w _ V=>λ_ v _=>v=V
 |_=>λ_ _ _=>True
def Iu.l6:Iu->Option Nat
 | .e t=>some t
 | .w t _=>some t
 |_=>none
def Iu.rS:Iu->Bool
 | .u=>true
 |_=>false
def Iu.late:Iu->Bool
 | .u=>true
 | .d _=>true
 |_=>false
abbrev fW:Iu:=.p λ_ _ _=>True
def sL (its:List Iu) (ds:List Nat) (G:List Nat) (aW:List Value) (w:World):List Nat->(List (Nat×Value)->Prop)->Prop
 |[],k=>k []
 |j::r,k=>match its.getD j fW with
  | .v V=>sL its ds G aW w r λacc=>k ((ds.getD j 0,V)::acc)
  | .p f=>∀v,f G v w->sL its ds G aW w r λacc=>k ((ds.getD j 0,v)::acc)
  | .e t=>sL its ds G aW w r λacc=>k ((ds.getD j 0,aW.getD t undef)::acc)
  | .w _ V=>sL its ds G aW w r λacc=>k ((ds.getD j 0,V)::acc)
  | .d f=>sL its ds G aW w r λacc=>k ((ds.getD j 0,f aW)::acc)
  | .u=>∀v,sL its ds G aW w r λacc=>k ((ds.getD j 0,v)::acc)
def Sl (q:Iu) (G:List Nat) (aW:List Value) (v:Value) (w:World):Prop:=q.F G v w∧(∀t,q= .e t->aW.getD t undef=v)∧∀f,q= .d f->f aW=v
theorem uQ {its:List Iu} {ds:List Nat} {aW:List Value} {vs:Nat->Value}:∀{deps:List Nat} {k:List (Nat×Value)->Prop},sL its ds G aW w deps k->
  (∀j,j∈deps->Sl (its.getD j fW) G aW (vs j) w)->k (tn ds vs deps)
 |[],k,h,_=>h
 |j::r,k,h,hd=>by
  obtain⟨hp,he,hq⟩:=hd j (List.mem_cons_self ..)
  unfold sL at h
  have hr:∀i,i∈r->_:=λi hi=>hd i (mK _ hi)
  cases e:its.getD j fW with
  |v V=>
   rw[e] at h hp
   have hv:vs j=V:=hp
   subst hv
   exact uQ (deps:=r) h hr
  |p f=>
   rw[e] at h hp
   exact uQ (deps:=r) (h _ hp) hr
  |e t=>
   rw[e] at h
   have hv:=he t e
   simp only[hv] at h
   exact uQ (deps:=r) h hr
  |w t V=>
   rw[e] at h hp
   have hv:vs j=V:=hp
   subst hv
   exact uQ (deps:=r) h hr
  |d f=>
   rw[e] at h
   have hv:=hq f e
   simp only[hv] at h
   exact uQ (deps:=r) h hr
  |u=>
   rw[e] at h
   exact uQ (deps:=r) (h _) hr
section
variable (P:Program) (n:Nat) (ops:Array Oper) (W ds:List Nat) (its:List Iu) (Js:List (List Nat->List Value->World->Prop)) (JF:(Nat->Bool)->List Nat->List Value->World->Prop) (e0:Env) (G0:List Nat) (w0:World)
def Mf (i:Nat) (o:Oper) (deps:List Nat):Prop:=
 ∀(x:Env) (w:World) (G:List Nat) (aW:List Value),Fr G0 w0 G w->fy G w->sL its ds G aW w deps λacc=>
  OW P n ops (λe' w'=>ak [] w w'∧(its.getD i fW).F G (e' (ds.getD i 0)) w'∧gv [ds.getD i 0] (aM (aN W x e0) acc) e') [o] (aM (aN W x e0) acc) w
def Iw (t i:Nat) (o:Oper) (deps:List Nat):Prop:=
 ∀(x:Env) (w:World) (G:List Nat) (aW:List Value),Fr G0 w0 G w->fy G w->Js.getD t (λ_ _ _=>True) G aW w->aW.length=t->sL its ds G aW w deps λacc=>
  OW P n ops (λe' w'=>(∃G',Fr G w G' w'∧fy G' w'∧Js.getD (t+1) (λ_ _ _=>True) G' (aW++[e' (ds.getD i 0)]) w'∧(its.getD i fW).F G' (e' (ds.getD i 0)) w')∧gv [ds.getD i 0] (aM (aN W x e0) acc) e') [o] (aM (aN W x e0) acc) w
def Sm (ne:Nat) (f:List Value->Value) (i:Nat) (o:Oper) (deps:List Nat):Prop:=
 ∀(x:Env) (w:World) (G:List Nat) (aW:List Value) (S:Nat->Bool),Fr G0 w0 G w->fy G w->JF S G aW w->aW.length=ne->sL its ds G aW w deps λacc=>
  OW P n ops (λe' w'=>ak [] w w'∧e' (ds.getD i 0)=f aW∧gv [ds.getD i 0] (aM (aN W x e0) acc) e') [o] (aM (aN W x e0) acc) w
def Sn (ne i:Nat) (o:Oper) (deps:List Nat):Prop:=
 ∀(x:Env) (w:World) (G:List Nat) (aW:List Value) (S:Nat->Bool),Fr G0 w0 G w->fy G w->JF S G aW w->S i=false->aW.length=ne->sL its ds G aW w deps λacc=>
  OW P n ops (λe' w'=>(∃G',Fr G w G' w'∧fy G' w'∧JF (λj=>if j=i then true else S j) G' aW w')∧gv [ds.getD i 0] (aM (aN W x e0) acc) e') [o] (aM (aN W x e0) acc) w
def uc (ne i:Nat) (o:Oper) (deps:List Nat):Prop:=match its.getD i fW with
 | .e t=>Iw P n ops W ds its Js e0 G0 w0 t i o deps
 | .w t _=>Iw P n ops W ds its Js e0 G0 w0 t i o deps
 | .d f=>Sm P n ops W ds its JF e0 G0 w0 ne f i o deps
 | .u=>Sn P n ops W ds its JF e0 G0 w0 ne i o deps
 |_=>Mf P n ops W ds its e0 G0 w0 i o deps
def uR (ne:Nat):Nat->List Oper->List (List Nat)->Prop
 |_,[],_=>True
 |_,_::_,[]=>True
 |k,o::l,d::r=>uc P n ops W ds its Js JF e0 G0 w0 ne k o d∧uR ne (k+1) l r
end
section
variable {P:Program} {n:Nat} {ops:Array Oper} {W ds:List Nat} {its:List Iu} {Js:List (List Nat->List Value->World->Prop)} {JF:(Nat->Bool)->List Nat->List Value->World->Prop} {e0:Env} {G0:List Nat} {w0:World} {ne:Nat}
theorem uf {o:Oper} {d:List Nat} (h:Mf P n ops W ds its e0 G0 w0 k o d) (hr:uR P n ops W ds its Js JF e0 G0 w0 ne (k+1) l r) (hk:(its.getD k fW).l6=none∧(its.getD k fW).late=false:=by exact⟨rfl,rfl⟩):uR P n ops W ds its Js JF e0 G0 w0 ne k (o::l) (d::r):=
 ⟨(by
  unfold uc
  obtain⟨h1,h2⟩:=hk
  cases e:its.getD k fW with
  |e t=>rw[e] at h1;cases h1
  |w t V=>rw[e] at h1;cases h1
  |d f=>rw[e] at h2;cases h2
  |u=>rw[e] at h2;cases h2
  |v V=>exact h
  |p f=>exact h),hr⟩
theorem ue (t:Nat) {o:Oper} {d:List Nat} (h:Iw P n ops W ds its Js e0 G0 w0 t k o d) (hr:uR P n ops W ds its Js JF e0 G0 w0 ne (k+1) l r) (hk:(its.getD k fW).l6=some t:=by rfl):uR P n ops W ds its Js JF e0 G0 w0 ne k (o::l) (d::r):=
 ⟨(by
  unfold uc
  cases e:its.getD k fW with
  |e t'=>rw[e] at hk;cases hk;exact h
  |w t' V=>rw[e] at hk;cases hk;exact h
  |d f=>rw[e] at hk;cases hk
  |u=>rw[e] at hk;cases hk
  |v V=>rw[e] at hk;cases hk
  |p f=>rw[e] at hk;cases hk),hr⟩
theorem ud {o:Oper} {d:List Nat} {f:List Value->Value} (h:Sm P n ops W ds its JF e0 G0 w0 ne f k o d) (hr:uR P n ops W ds its Js JF e0 G0 w0 ne (k+1) l r) (hk:its.getD k fW= .d f:=by rfl):uR P n ops W ds its Js JF e0 G0 w0 ne k (o::l) (d::r):=
 ⟨by unfold uc;rw[hk];exact h,hr⟩
theorem uu {o:Oper} {d:List Nat} (h:Sn P n ops W ds its JF e0 G0 w0 ne k o d) (hr:uR P n ops W ds its Js JF e0 G0 w0 ne (k+1) l r) (hk:its.getD k fW= .u:=by rfl):uR P n ops W ds its Js JF e0 G0 w0 ne k (o::l) (d::r):=
 ⟨by unfold uc;rw[hk];exact h,hr⟩
theorem So:∀(l:List Oper) (deps:List (List Nat)) (k:Nat),uR P n ops W ds its Js JF e0 G0 w0 ne k l deps->∀(i:Nat) (o:Oper) (d:List Nat),l[i]?=some o->deps[i]?=some d->uc P n ops W ds its Js JF e0 G0 w0 ne (k+i) o d
 |[],_,_,_,i,o,d,h,_=>by simp at h
 |_::_,[],_,_,i,o,d,_,h=>by simp at h
 |o::l,d::r,k,h,0,o',d',ho,hd=>by
  simp at ho hd;subst ho;subst hd;exact h.1
 |o::l,d::r,k,h,i+1,o',d',ho,hd=>by
  have:=So l r (k+1) h.2 i o' d' (by simpa using ho) (by simpa using hd)
  rwa [show k+1+i=k+(i+1) by omega] at this
end
def uB (l:List Oper) (m:Nat) (effs:List Nat) (its:List Iu):Bool:=
 (List.range effs.length).all (λt=>decide (effs.getD t 0<m)&&((its.getD (effs.getD t 0) fW).l6==some t)&&(decide (t=0)||(match l[effs.getD t 0]? with|some o=>waits o (effs.getD (t-1) 0)|none=>false)))&&
 (List.range m).all (λi=>(match(its.getD i fW).l6 with|some t=>decide (t<effs.length)&&decide (effs.getD t 0=i)|none=>true)&&
  (!(its.getD i fW).late||decide (effs.length=0)||(match l[i]? with|some o=>waits o (effs.getD (effs.length-1) 0)|none=>false)))&&
 decide (its.length<=m)
theorem acK {m:Nat} {effs:List Nat} {its:List Iu} (h:uB l m effs its=true):
  (∀t,t<effs.length->effs.getD t 0<m∧(its.getD (effs.getD t 0) fW).l6=some t∧(t≠0->∃o,l[effs.getD t 0]?=some o∧waits o (effs.getD (t-1) 0)=true))∧
  (∀i t,i<m->(its.getD i fW).l6=some t->t<effs.length∧effs.getD t 0=i)∧
  (∀i,i<m->(its.getD i fW).late=true->effs.length≠0->∃o,l[i]?=some o∧waits o (effs.getD (effs.length-1) 0)=true)∧its.length<=m:=by
 unfold uB at h
 rw[aE,aE,List.all_eq_true,List.all_eq_true,dE] at h
 obtain⟨⟨h1,h2⟩,h3⟩:=h
 refine⟨λt ht=>?_,λi t hi he=>?_,λi hi hl hn=>?_,h3⟩
 ·have:=h1 t (List.mem_range.2 ht)
  simp only[aE,dE,beq_iff_eq,oE] at this
  obtain⟨⟨a,b⟩,c⟩:=this
  refine⟨a,b,λh0=>?_⟩
  rcases c with c|c
  ·exact absurd c h0
  ·cases hl:l[effs.getD t 0]? with
   |none=>rw[hl] at c;cases c
   |some o=>rw[hl] at c;exact⟨o,rfl,c⟩
 ·have:=h2 i (List.mem_range.2 hi)
  rw[he] at this
  simp only[aE,dE] at this
  exact this.1
 ·have:=h2 i (List.mem_range.2 hi)
  rw[aE,hl] at this
  have:=this.2
  simp only[Bool.not_true,Bool.false_or,oE,dE] at this
  rcases this with c|c
  ·exact absurd c hn
  ·cases hl:l[i]? with
   |none=>rw[hl] at c;cases c
   |some o=>rw[hl] at c;exact⟨o,rfl,c⟩
def FC:List Iu->Prop
 |[]=>True
 | .p f::r=>(∀G v w G' w',f G v w->Fr G w G' w'->f G' v w')∧FC r
 |_::r=>FC r
theorem BT:∀{its:List Iu},FC its->∀q,q∈its->∀G v w G' w',q.F G v w->Fr G w G' w'->q.F G' v w'
 |s::r,h,q,hq,G,v,w,G',w',hf,hk=>by
  rcases mC.1 hq with e|oK
  ·subst e
   cases q with
   |p f=>exact h.1 _ _ _ _ _ hf hk
   |_=>exact hf
  ·cases s with
   |p f=>exact BT (its:=r) h.2 q oK _ _ _ _ _ hf hk
   |v V=>exact BT (its:=r) h q oK _ _ _ _ _ hf hk
   |e t=>exact BT (its:=r) h q oK _ _ _ _ _ hf hk
   |w t V=>exact BT (its:=r) h q oK _ _ _ _ _ hf hk
   |d f=>exact BT (its:=r) h q oK _ _ _ _ _ hf hk
   |u=>exact BT (its:=r) h q oK _ _ _ _ _ hf hk
theorem Sp {its:List Iu} (h:FC its) (i:Nat) (hf:(its.getD i fW).F G v w) (hk:Fr G w G' w'):(its.getD i fW).F G' v w':=by
 rw[gG] at hf⊢
 cases e:its[i]? with
 |none=>trivial
 |some q=>rw[e] at hf;exact BT h q (List.mem_of_getElem? e) _ _ _ _ _ hf hk
section
variable {P:Program} {n:Nat} {l:List Oper} {m:Nat} {W ds:List Nat} {deps:List (List Nat)}
theorem Sq {N R:Env->World->Prop} {X:Nat->Env->World->Prop} {id:Nat} {e0:Env} {w0:World} (hm:P.follows .mixedOrders=true) (G0:List Nat) (m:Nat) (W ds:List Nat) (deps:List (List Nat)) (its:List Iu) (effs:List Nat) (Js:List (List Nat->List Value->World->Prop)) (JF:(Nat->Bool)->List Nat->List Value->World->Prop) 
  (hB:vU l m W ds deps=true) (hE:uB l m effs its=true) (hL:fy G0 w0) (hF:FC its) (hJ:Iv Js) (Sr:∀S G vs w w',JF S G vs w->ak [] w w'->JF S G vs w') (h0:Js.getD 0 (λ_ _ _=>True) G0 [] w0)
  (Ix:∀G vs w,Js.getD effs.length (λ_ _ _=>True) G vs w->vs.length=effs.length->JF (λ_=>false) G vs w)
  (hc:uR P n l.toArray W ds its Js JF e0 G0 w0 effs.length 0 (l.take m) deps)
  (ht:∀(x:Env) (w:World) (G:List Nat) (aW:List Value),Fr G0 w0 G w->fy G w->JF (λi=>(its.getD i fW).rS) G aW w->aW.length=effs.length->sL its ds G aW w (List.range m) λacc=>OW P n l.toArray N (l.drop m) (aM (aN W x e0) acc) w):
  CW P n (.region id l.toArray true) N R X e0 w0:=λa ha=>by
 refine wp_region_any hm ?_
 have gN:ak [] w0 {w0 with drawn:=w0.drawn+1}:=ak.drew _ _
 obtain⟨C5,EJ,Kp,jy,ow⟩:=C4 hB
 obtain⟨oA,mq,he3,mL⟩:=acK hE
 have eN:∀i j,i<m->j<m->i≠j->ds.getD j 0≠ds.getD i 0:=λi j hi hj lV=>by
  rw[gG,gG,gE om,gE om]
  simp only[Option.getD_some]
  intro he
  exact lV ((List.getElem_inj jy).1 he.symm)
 let vl:Nat->Env->List Value:=λk e=>(effs.take k).map λi=>e (ds.getD i 0)
 let US:(Nat->Bool)->Nat->Bool:=λS i=>S i&&(its.getD i fW).rS
 let Inv:(Nat->Bool)->Env->World->Prop:=λS e w=>∃G k,gv W e0 e∧Fr G0 w0 G w∧fy G w∧k<=effs.length∧(∀t,t<effs.length->(S (effs.getD t 0)=true↔t<k))∧
  (k<effs.length->Js.getD k (λ_ _ _=>True) G (vl k e) w∧∀i,i<m->S i=true->(its.getD i fW).late=false)∧(k=effs.length->JF (US S) G (vl k e) w)∧
  ∀i,i<m->S i=true->(its.getD i fW).F G (e (ds.getD i 0)) w∧∀f,its.getD i fW= .d f->f (vl k e)=e (ds.getD i 0)
 have Fy:∀(S:Nat->Bool) (e:Env) (k:Nat),(∀t,t<effs.length->(S (effs.getD t 0)=true↔t<k))->k<=effs.length->∀j t,j<m->S j=true->(its.getD j fW).l6=some t->(vl k e).getD t undef=e (ds.getD j 0):=by
  intro S e k hS hk j t hj l7 he
  obtain⟨h1,h2⟩:=mq j t hj he
  have h3:t<k:=(hS t h1).1 (by rw[h2];exact l7)
  show((effs.take k).map λi=>e (ds.getD i 0)).getD t undef=_
  rw[gG,List.getElem?_map,List.getElem?_take,iP h3,gE h1]
  rw[gG,gE h1] at h2
  simp only[Option.getD_some] at h2
  simp[h2]
 have FD:∀k e,k<=effs.length->(vl k e).length=k:=λk e hk=>by show((effs.take k).map _).length=k;simp;omega
 have step:∀(S:Nat->Bool) (e:Env) (w:World) (i:Nat) (o:Oper),i<m->l[i]?=some o->S i=false->(∀j,waits o j=true->S j=true)->Inv S e w->
   OW P n l.toArray (λe' w'=>Inv (λj=>if j=i then true else S j) e' w') [o] e w:=by
  rintro S e w i o qP ho tL Aq ⟨G,k,qe,bY,qw,gS,hS,uP,DD,o6⟩
  obtain⟨hW,zq⟩:=(ow i o ho).2.1 qP
  obtain⟨dp,zt⟩:∃d,deps[i]?=some d:=⟨deps[i]'om,gE om⟩
  have EP:deps.getD i []=dp:=by rw[gG,zt];rfl
  rw[EP] at zq
  have jn:=So (l.take m) deps 0 hc i o dp (by rw[List.getElem?_take,iP qP];exact ho) zt
  rw[Nat.zero_add] at jn
  have hd:∀j,j∈dp->Sl (its.getD j fW) G (vl k e) (e (ds.getD j 0)) w:=λj hj=>by
   obtain⟨h1,h2⟩:=zq j hj
   have h3:=o6 j h2 (Aq j h1)
   exact⟨h3.1,λt het=>Fy S e k hS gS j t h2 (Aq j h1) (by rw[het];rfl),h3.2⟩
  have Fz:∀e',gv [ds.getD i 0] e e'->gv W e0 e':=λe' h t BR=>by
   have DB:t≠ds.getD i 0:=λhe=>by rw[he,hW] at BR;cases BR
   rw[h t (by simpa using DB)];exact qe t BR
  have Ar:∀e',gv [ds.getD i 0] e e'->∀j,j<m->j≠i->e' (ds.getD j 0)=e (ds.getD j 0):=λe' h j hj jt=>h _ (by simpa using eN i j qP hj (λh=>jt h.symm))
  have gi:[o]=[o]++[]:=rfl
  have Ss:∀e',gv [ds.getD i 0] e e'->∀k',k'<=effs.length->(∀t,t<k'->effs.getD t 0≠i)->vl k' e'=vl k' e:=λe' l8 k' pE ni=>by
   show(effs.take k').map _=(effs.take k').map _
   apply List.map_congr_left
   intro j hj
   obtain⟨t,nX⟩:=List.mem_iff_getElem?.1 hj
   rw[List.getElem?_take] at nX
   split at nX
   ·rename_i eU
    have gw:t<effs.length:=(List.getElem?_eq_some_iff.1 nX).1
    have uy:effs.getD t 0=j:=by rw[gG,nX];rfl
    exact Ar e' l8 j (by have:=(oA t gw).1;rw[uy] at this;exact this) (λh=>ni t eU (uy.trans h))
   ·cases nX
  -- what is late comes behind the last effect
  have St:(its.getD i fW).late=true->k=effs.length:=λhl=>by
   rcases Nat.eq_zero_or_pos effs.length with h0|h0
   ·omega
   ·obtain⟨o',mP,FA⟩:=he3 i qP hl om
    rw[ho] at mP;cases mP
    have:=(hS (effs.length-1) om).1 (Aq _ FA)
    omega
  -- an operation that is no effect in the order
  have main:∀(e':Env) (w':World) (G':List Nat),(its.getD i fW).l6=none->gv [ds.getD i 0] e e'->Fr G w G' w'->fy G' w'->
    (k<effs.length->Js.getD k (λ_ _ _=>True) G' (vl k e) w'∧(its.getD i fW).late=false)->(k=effs.length->JF (US λj=>if j=i then true else S j) G' (vl k e) w')->
    (its.getD i fW).F G' (e' (ds.getD i 0)) w'->(∀f,its.getD i fW= .d f->f (vl k e)=e' (ds.getD i 0))->Inv (λj=>if j=i then true else S j) e' w':=by
   intro e' w' G' sI l8 wE BS DE rU yb hDi
   have ni:∀t,t<effs.length->effs.getD t 0≠i:=λt gw h=>by have:=(oA t gw).2.1;rw[h,sI] at this;cases this
   have BU:=Ss e' l8 k gS (λt ht=>ni t om)
   refine⟨G',k,Fz e' l8,bY.go wE,BS,gS,λt gw=>?_,λeU=>⟨?_,λj hj l7=>?_⟩,λl9=>?_,λj hj l7=>?_⟩
   ·simp only[iN (ni t gw)];exact hS t gw
   ·rw[BU];exact(DE eU).1
   ·by_cases jt:j=i
    ·rw[jt];exact(DE eU).2
    ·simp only[iN jt] at l7;exact(uP eU).2 j hj l7
   ·rw[BU];exact rU l9
   ·rw[BU]
    by_cases jt:j=i
    ·rw[jt];exact⟨yb,hDi⟩
    ·simp only[iN jt] at l7
     rw[Ar e' l8 j hj jt]
     exact⟨Sp hF j (o6 j hj l7).1 wE,(o6 j hj l7).2⟩
  have Su:(its.getD i fW).rS=false->US (λj=>if j=i then true else S j)=US S:=λh=>by
   funext j
   show((if j=i then true else S j)&&(its.getD j fW).rS)=(S j&&(its.getD j fW).rS)
   by_cases jt:j=i
   ·rw[jt,h];simp
   ·rw[iN jt]
  -- the cases
  have floatC:Mf P n l.toArray W ds its e0 G0 w0 i o dp->(its.getD i fW).l6=none->(its.getD i fW).late=false->(∀f,its.getD i fW≠ .d f)->(its.getD i fW).rS=false->OW P n l.toArray (λe' w'=>Inv (λj=>if j=i then true else S j) e' w') [o] e w:=by
   intro jn sI FE Mg Sv
   have h1:=uQ (jn e w G _ bY qw) (vs:=λj=>e (ds.getD j 0)) hd
   rw[Ap qe] at h1
   rw[gi]
   refine vT h1 ?_
   rintro e' w' ⟨pE,yb,l8⟩
   exact ag (main e' w' G sI l8 (Fr.of pE sm) (λx hx=>lL (qw x hx) pE.size) (λeU=>⟨Fx hJ k (uP eU).1 pE,FE⟩) (λl9=>by rw[Su Sv];exact Sr _ _ _ _ _ (DD l9) pE) yb (λf hf=>absurd hf (Mg f)))
  have effC:∀t,(its.getD i fW).l6=some t->Iw P n l.toArray W ds its Js e0 G0 w0 t i o dp->(its.getD i fW).late=false->(∀f,its.getD i fW≠ .d f)->(its.getD i fW).rS=false->OW P n l.toArray (λe' w'=>Inv (λj=>if j=i then true else S j) e' w') [o] e w:=by
   intro t sI jn FE Mg Sv
   obtain⟨gw,sJ⟩:=mq i t qP sI
   have sK:k=t:=by
    have h1:¬t<k:=λh=>by have:=(hS t gw).2 h;rw[sJ,tL] at this;cases this
    rcases Nat.eq_zero_or_pos t with h0|h0
    ·omega
    ·obtain⟨o',mP,FA⟩:=(oA t gw).2.2 om
     rw[sJ,ho] at mP
     cases mP
     have:=(hS (t-1) om).1 (Aq _ FA)
     omega
   subst sK
   have h1:=uQ (jn e w G _ bY qw (uP gw).1 (FD k e gS)) (vs:=λj=>e (ds.getD j 0)) hd
   rw[Ap qe] at h1
   rw[gi]
   refine vT h1 ?_
   rintro e' w' ⟨⟨G',wE,BS,DC,yb⟩,l8⟩
   have FB:∀t',t'<effs.length->effs.getD t' 0=i->t'=k:=λt' h1 h2=>by
    have:=(oA t' h1).2.1
    rw[h2,sI] at this
    cases this;rfl
   have BU:vl k e'=vl k e:=Ss e' l8 k gS (λt' ox h=>by have:=FB t' om h;omega)
   have fO:vl (k+1) e'=vl k e++[e' (ds.getD i 0)]:=by
    have h2:effs[k]?=some i:=by
     rw[gG,gE gw] at sJ
     rw[gE gw]
     simpa using sJ
    rw[<-BU]
    show(effs.take (k+1)).map _=(effs.take k).map _++_
    rw[List.take_add_one,h2,List.map_append]
    rfl
   have Sw:∀j,j<m->(if j=i then true else S j)=true->(its.getD j fW).late=false:=λj hj l7=>by
    by_cases jt:j=i
    ·rw[jt];exact FE
    ·rw[iN jt] at l7;exact(uP gw).2 j hj l7
   refine ag ⟨G',k+1,Fz e' l8,bY.go wE,BS,om,λt' As=>?_,λ_=>⟨by rw[fO];exact DC,Sw⟩,λl9=>?_,λj hj l7=>?_⟩
   ·by_cases h2:effs.getD t' 0=i
    ·have:=FB t' As h2
     simp only[iP h2]
     exact⟨λ_=>om,λ_=>trivial⟩
    ·simp only[iN h2]
     rw[hS t' As]
     have:t'≠k:=λh=>by rw[h] at h2;exact h2 sJ
     omega
   ·have e1:US (λj=>if j=i then true else S j)=λ_=>false:=by
     funext j
     show((if j=i then true else S j)&&(its.getD j fW).rS)=false
     by_cases zu:j<m
     ·cases hb:(if j=i then true else S j) with
      |false=>rfl
      |true=>
       have h3:=Sw j zu hb
       cases e:its.getD j fW with
       |u=>rw[e] at h3;cases h3
       |_=>rfl
     ·rw[gG,List.getElem?_eq_none om]
      simp[Iu.rS]
    rw[e1]
    exact Ix _ _ _ (by rw[fO,<-l9];exact DC) (by rw[FD _ _ om];omega)
   ·by_cases jt:j=i
    ·rw[jt];exact⟨yb,λf hf=>absurd hf (Mg f)⟩
    ·simp only[iN jt] at l7
     rw[Ar e' l8 j hj jt]
     refine⟨Sp hF j (o6 j hj l7).1 wE,λf hf=>?_⟩
     have:=(uP gw).2 j hj l7
     rw[hf] at this;cases this
  cases jQ:its.getD i fW with
  |v V=>unfold uc at jn;rw[jQ] at jn;exact floatC jn (by rw[jQ];rfl) (by rw[jQ];rfl) (λf h=>by rw[jQ] at h;cases h) (by rw[jQ];rfl)
  |p f=>unfold uc at jn;rw[jQ] at jn;exact floatC jn (by rw[jQ];rfl) (by rw[jQ];rfl) (λf h=>by rw[jQ] at h;cases h) (by rw[jQ];rfl)
  |e t=>unfold uc at jn;rw[jQ] at jn;exact effC t (by rw[jQ];rfl) jn (by rw[jQ];rfl) (λf h=>by rw[jQ] at h;cases h) (by rw[jQ];rfl)
  |w t V=>unfold uc at jn;rw[jQ] at jn;exact effC t (by rw[jQ];rfl) jn (by rw[jQ];rfl) (λf h=>by rw[jQ] at h;cases h) (by rw[jQ];rfl)
  |d f=>
   unfold uc at jn;rw[jQ] at jn
   have l9:=St (by rw[jQ];rfl)
   have h1:=uQ (jn e w G _ _ bY qw (DD l9) (by rw[FD k e gS];exact l9)) (vs:=λj=>e (ds.getD j 0)) hd
   rw[Ap qe] at h1
   rw[gi]
   refine vT h1 ?_
   rintro e' w' ⟨pE,Ft,l8⟩
   exact ag (main e' w' G (by rw[jQ];rfl) l8 (Fr.of pE sm) (λx hx=>lL (qw x hx) pE.size) (λeU=>om) (λl9=>by rw[Su (by rw[jQ];rfl)];exact Sr _ _ _ _ _ (DD l9) pE) (by rw[jQ];trivial) (λf' hf=>by rw[jQ] at hf;cases hf;exact Ft.symm))
  |u=>
   unfold uc at jn;rw[jQ] at jn
   have l9:=St (by rw[jQ];rfl)
   have h1:=uQ (jn e w G _ _ bY qw (DD l9) (by show(S i&&_)=false;rw[tL];rfl) (by rw[FD k e gS];exact l9)) (vs:=λj=>e (ds.getD j 0)) hd
   rw[Ap qe] at h1
   rw[gi]
   refine vT h1 ?_
   rintro e' w' ⟨⟨G',wE,BS,DC⟩,l8⟩
   refine ag (main e' w' G' (by rw[jQ];rfl) l8 wE BS (λeU=>om) (λl9=>?_) (by rw[jQ];trivial) (λf' hf=>by rw[jQ] at hf;cases hf))
   have e1:US (λj=>if j=i then true else S j)=λj=>if j=i then true else US S j:=by
    funext j
    show((if j=i then true else S j)&&(its.getD j fW).rS)=if j=i then true else(S j&&(its.getD j fW).rS)
    by_cases jt:j=i
    ·rw[iP jt,iP jt,jt,jQ];rfl
    ·rw[iN jt,iN jt]
   rw[e1];exact DC
 have tail:∀(S:Nat->Bool) (e:Env) (w:World),(∀i,i<m->S i=true)->Inv S e w->OW P n l.toArray N (l.drop m) e w:=by
  rintro S e w Au ⟨G,k,qe,bY,qw,gS,hS,uP,DD,o6⟩
  have hk:k=effs.length:=by
   rcases Nat.lt_or_ge k effs.length with h|h
   ·have:=(hS k h).1 (Au _ (oA k h).1);omega
   ·omega
  subst hk
  have e1:US S=λi=>(its.getD i fW).rS:=by
   funext j
   show(S j&&(its.getD j fW).rS)=_
   by_cases zu:j<m
   ·rw[Au j zu];rfl
   ·rw[gG,List.getElem?_eq_none om]
    simp[Iu.rS]
  have hj:=DD rfl
  rw[e1] at hj
  have h1:=uQ (ht e w G _ bY qw hj (FD _ e (lR _))) (vs:=λj=>e (ds.getD j 0)) (λj hj=>by
   have pF:=List.mem_range.1 hj
   have h3:=o6 j pF (Au j pF)
   exact⟨h3.1,λt het=>Fy S e _ hS gS j t pF (Au j pF) (by rw[het];rfl),h3.2⟩)
  rw[Ap qe] at h1
  exact h1
 have ie:∀j,(Array.replicate l.length false).getD j false=false:=λj=>by
  rw[Array.getD_eq_getD_getElem?,Array.getElem?_replicate];split<;>rfl
 have Me:Inv (λj=>(Array.replicate l.length false).getD j false) e0 {w0 with drawn:=w0.drawn+1}:=by
  have EL:=Fx hJ 0 h0 gN
  refine⟨G0,0,Bg,Fr.of gN sm,λx hx=>hL x hx,Nat.zero_le _,λt gw=>?_,λ_=>⟨EL,λi hi tL=>?_⟩,λl9=>?_,λi hi tL=>?_⟩
  ·constructor
   ·intro h;exact absurd ((ie (effs.getD t 0)).symm.trans h) sm
   ·intro h;omega
  ·exact absurd ((ie i).symm.trans tL) sm
  ·have e1:US (λj=>(Array.replicate l.length false).getD j false)=λ_=>false:=by
    funext j
    show((Array.replicate l.length false).getD j false&&_)=false
    rw[ie];rfl
   rw[e1]
   exact Ix _ _ _ (by rw[<-l9];exact EL) (by show((effs.take 0).map _).length=_;simpa using l9)
  ·exact absurd ((ie i).symm.trans tL) sm
 have:=Sg (N:=N) (Inv:=Inv) hB step tail (lu n N R X) l.length (Array.replicate l.length false) e0 a _ ha sm
  (by
   have:((List.range l.length).filter λj=>!(Array.replicate l.length false).getD j true)=List.range l.length:=by
    rw[List.filter_eq_self]
    intro j hj
    rw[List.mem_range] at hj
    simp[Array.getD_eq_getD_getElem?,hj]
   rw[this];simp)
  (by intro j _ hj;simp[Array.getD_eq_getD_getElem?,hj])
  Me
  (by
   intro j o ho hj
   have pF:j<l.length:=(List.getElem?_eq_some_iff.1 ho).1
   simp[Array.getD_eq_getD_getElem?,pF] at hj)
 have e1:pC n N (lu n N R X)=lu n N R X:=by
  funext x a w;cases x<;>rfl
 rw[e1] at this
 simpa using this
end
section
variable {P:Program} {n:Nat} {ops:Array Oper} {e:Env} {w w':World} {G:List Nat}
theorem uv (h:v=V:=by rfl):OW P n ops (λe' w'=>ak [] w w'∧(Iu.v V).F G (e' d) w'∧gv [d] e e') [] (cO e (some d) v) w:=
 ag ⟨ak.refl _ _,by subst h;exact nJ _ _ _,qO⟩
theorem up {f:List Nat->Value->World->Prop} (k:ak [] w w') (h:f G v w'):OW P n ops (λe' w'=>ak [] w w'∧(Iu.p f).F G (e' d) w'∧gv [d] e e') [] (cO e (some d) v) w':=
 ag ⟨k,by show f G (kI e d v d) w';rw[nJ];exact h,qO⟩
theorem uE {aW:List Value} (G':List Nat) (k:Fr G w G' w') (hl:fy G' w') (h:J G' (aW++[v]) w'):OW P n ops (λe' w'=>(∃G',Fr G w G' w'∧fy G' w'∧J G' (aW++[e' d]) w'∧(Iu.e t).F G' (e' d) w')∧gv [d] e e') [] (cO e (some d) v) w':=
 ag ⟨⟨G',k,hl,by show J G' (aW++[kI e d v d]) w';rw[nJ];exact h,trivial⟩,qO⟩
theorem uW {aW:List Value} (G':List Nat) (k:Fr G w G' w') (hl:fy G' w') (h:J G' (aW++[v]) w') (hv:v=V:=by rfl):OW P n ops (λe' w'=>(∃G',Fr G w G' w'∧fy G' w'∧J G' (aW++[e' d]) w'∧(Iu.w t V).F G' (e' d) w')∧gv [d] e e') [] (cO e (some d) v) w':=
 ag ⟨⟨G',k,hl,by show J G' (aW++[kI e d v d]) w';rw[nJ];exact h,by subst hv;exact nJ _ _ _⟩,qO⟩
theorem uD (k:ak [] w w') (h:v=V:=by rfl):OW P n ops (λe' w'=>ak [] w w'∧e' d=V∧gv [d] e e') [] (cO e (some d) v) w':=
 ag ⟨k,by subst h;exact nJ _ _ _,qO⟩
theorem uU {Q:List Nat->World->Prop} (G':List Nat) (k:Fr G w G' w') (hl:fy G' w') (h:Q G' w'):OW P n ops (λe' w'=>(∃G',Fr G w G' w'∧fy G' w'∧Q G' w')∧gv [d] e e') [] e w':=
 ag ⟨⟨G',k,hl,h⟩,Bg⟩
end
structure fh (L:List Nat) (w:World) (b:Nat) (vs:Array Value) (T:TypeId):Prop where
 ju:aY w b vs T
 out:b∉L
theorem fh.lt {T:TypeId} (h:fh L w b vs T):b<w.heap.size:=h.ju.lt
theorem fh.at {vs:List Value} {T:TypeId} (h:fh L w b vs.toArray T) (hv:vs[i]?=some v):w.cell? ⟨b,i,none⟩=some v:=h.ju.at hv
theorem fh.all {vs:List Value} {T:TypeId} (h:fh L w b vs.toArray T):iH w b 0 vs:=h.ju.all
theorem fh.go {L':List Nat} {T:TypeId} (h:fh L w b vs T) (k:Fr L w L' w'):fh L' w' b vs T:=
 ⟨h.ju.aO k.aO h.out,λhx=>by
  rcases k.mem b hx with h1|h1
  ·exact h.out h1
  ·have:=h.ju.lt;omega⟩
theorem fh.ext {T:TypeId} (h:fh L w b vs T) (k:ak [] w w'):fh L w' b vs T:=⟨h.ju.ext k,h.out⟩
theorem fh.aL {T:TypeId} (h:fh L w b vs T) (k:ak G w w') (hG:∀x,x∈G->x∈L):fh L w' b vs T:=h.go (Fr.of k hG)
theorem aY.o {T:TypeId} (h:aY w b vs T) (hL:∀x,x∈L->x<b):fh L w b vs T:=⟨h,λhx=>by have:=hL b hx;omega⟩
theorem dh.rs {T:TypeId} (h:dh w T v g xs):bI [] w v xs:=h.rep sm
theorem kr {T:TypeId} (h:dh w T v g xs):∃a c,v= .slice a xs.length c:=jX.len h
section
variable {P:Program} {n:Nat} {ops:Array Oper} {K:Env->World->Prop} {rest:List Oper} {e:Env} {w:World} {dst:Option Nat} {ty:TypeId} {pos:String} {after:Array Edge} {g:Option (Nat×Bool)} {x y:Operand}
theorem Sx {v:Value} {gb:Option Nat} {xs:List aj} {s:aj} {b U:Nat} (hT:P.underlying t=some (.slice E)) (hE:TI P E 1 bytes z) (hg:gate ops e g=true) (hd:dw n dst=true) (hz:Nat.beq z.cells.size 1=true) (ig:Nat.ble bytes 1000=true) 
  (hx:ev e x=v) (hy:ev e y= .slice (some ⟨b,0,none⟩) 1 1) (hO:dh w E v gb xs) (hb:aY w b [str s].toArray U) (hn:xs.length<100000000)
  (k:∀v' g' w',dh w' E v' g' (xs++[s])->ak gb.toList w w'->Fr gb.toList w g'.toList w'->OW P n ops K rest (cO e dst v') w'):
  OW P n ops K (⟨dst,.call {callee:=.builtin .append,args:=#[x,y],argTypes:=#[t,t]},ty,pos,after,g⟩::rest) e w:=by
 refine BP (L:=[]) (row:=[.val (str s)]) hT hE hg hd hz ig hx hy (hO.R6 _) rfl hb.all (by simp[Value.oneCell']) ⟨.val _,trivial⟩ (by rw[rP];exact hn) ?_
 intro v' g' w' kn hk k7
 rw[R7] at kn
 refine k v' g' w' kn.wc hk.aO ⟨hk.aO,λq hq=>?_⟩
 rcases k7 with h|h
 ·rw[h] at hq;exact .inl hq
 ·rw[h] at hq;simp at hq;right;omega
theorem lk {T:Nat} (hT:P.underlying T=some (.slice E)) (hE:TI P E 1 bytes z) (hg:gate ops e g=true) (hd:dw n dst=true) (h1:ev e q1=str a1) (h2:ev e q2=str a2) 
  (k:∀w',ak [] w w'->aY w' w.heap.size [str a1,str a2].toArray E->w'.heap.size=w.heap.size+1->OW P n ops K rest (cO e dst (.slice (some ⟨w.heap.size,0,none⟩) 2 2)) w'):
  OW P n ops K (⟨dst,.buildSlice T 2 #[(0,q1),(1,q2)],ty,pos,after,g⟩::rest) e w:=
 sB [q1,q2] [[str a1],[str a2]] hT hE hg hd rfl rfl rfl rfl rfl (by simp[h1,h2,Value.cells]) rfl k
theorem pQ {T:Nat} (hT:P.underlying T=some (.slice E)) (hE:TI P E 1 bytes z) (hg:gate ops e g=true) (hd:dw n dst=true) (h1:ev e q1=str a1) (h2:ev e q2=str a2) (h3:ev e q3=str a3) 
  (k:∀w',ak [] w w'->aY w' w.heap.size [str a1,str a2,str a3].toArray E->w'.heap.size=w.heap.size+1->OW P n ops K rest (cO e dst (.slice (some ⟨w.heap.size,0,none⟩) 3 3)) w'):
  OW P n ops K (⟨dst,.buildSlice T 3 #[(0,q1),(1,q2),(2,q3)],ty,pos,after,g⟩::rest) e w:=
 sB [q1,q2,q3] [[str a1],[str a2],[str a3]] hT hE hg hd rfl rfl rfl rfl rfl (by simp[h1,h2,h3,Value.cells]) rfl k
theorem yc {T:Nat} (hT:P.underlying T=some (.slice E)) (hE:TI P E 1 bytes z) (hg:gate ops e g=true) (hd:dw n dst=true) (h1:ev e q1=str a1) (h2:ev e q2=str a2) (h3:ev e q3=str a3) (h4:ev e q4=str a4) 
  (k:∀w',ak [] w w'->aY w' w.heap.size [str a1,str a2,str a3,str a4].toArray E->w'.heap.size=w.heap.size+1->OW P n ops K rest (cO e dst (.slice (some ⟨w.heap.size,0,none⟩) 4 4)) w'):
  OW P n ops K (⟨dst,.buildSlice T 4 #[(0,q1),(1,q2),(2,q3),(3,q4)],ty,pos,after,g⟩::rest) e w:=
 sB [q1,q2,q3,q4] [[str a1],[str a2],[str a3],[str a4]] hT hE hg hd rfl rfl rfl rfl rfl (by simp[h1,h2,h3,h4,Value.cells]) rfl k
theorem Sy {T:Nat} (hT:P.underlying T=some (.slice E)) (hE:TI P E 1 bytes z) (hg:gate ops e g=true) (hd:dw n dst=true) (h1:ev e q1=str a1) (h2:ev e q2=str a2) (h3:ev e q3=str a3) (h4:ev e q4=str a4) (h5:ev e q5=str a5) 
  (k:∀w',ak [] w w'->aY w' w.heap.size [str a1,str a2,str a3,str a4,str a5].toArray E->w'.heap.size=w.heap.size+1->OW P n ops K rest (cO e dst (.slice (some ⟨w.heap.size,0,none⟩) 5 5)) w'):
  OW P n ops K (⟨dst,.buildSlice T 5 #[(0,q1),(1,q2),(2,q3),(3,q4),(4,q5)],ty,pos,after,g⟩::rest) e w:=
 sB [q1,q2,q3,q4,q5] [[str a1],[str a2],[str a3],[str a4],[str a5]] hT hE hg hd rfl rfl rfl rfl rfl (by simp[h1,h2,h3,h4,h5,Value.cells]) rfl k
theorem acN {T:Nat} (hT:P.underlying T=some (.slice E)) (hE:TI P E 1 bytes z) (hg:gate ops e g=true) (hd:dw n dst=true) (h1:ev e q1=str a1) (h2:ev e q2=str a2) (h3:ev e q3=str a3) (h4:ev e q4=str a4) (h5:ev e q5=str a5) (h6:ev e q6=str a6) 
  (k:∀w',ak [] w w'->aY w' w.heap.size [str a1,str a2,str a3,str a4,str a5,str a6].toArray E->w'.heap.size=w.heap.size+1->OW P n ops K rest (cO e dst (.slice (some ⟨w.heap.size,0,none⟩) 6 6)) w'):
  OW P n ops K (⟨dst,.buildSlice T 6 #[(0,q1),(1,q2),(2,q3),(3,q4),(4,q5),(5,q6)],ty,pos,after,g⟩::rest) e w:=
 sB [q1,q2,q3,q4,q5,q6] [[str a1],[str a2],[str a3],[str a4],[str a5],[str a6]] hT hE hg hd rfl rfl rfl rfl rfl (by simp[h1,h2,h3,h4,h5,h6,Value.cells]) rfl k
theorem Sz {T:Nat} {q7 q8:Operand} {a7 a8:aj} (hT:P.underlying T=some (.slice E)) (hE:TI P E 1 bytes z) (hg:gate ops e g=true) (hd:dw n dst=true) (h1:ev e q1=str a1) (h2:ev e q2=str a2) (h3:ev e q3=str a3) (h4:ev e q4=str a4) (h5:ev e q5=str a5) (h6:ev e q6=str a6) (h7:ev e q7=str a7) (h8:ev e q8=str a8) 
  (k:∀w',ak [] w w'->aY w' w.heap.size [str a1,str a2,str a3,str a4,str a5,str a6,str a7,str a8].toArray E->w'.heap.size=w.heap.size+1->OW P n ops K rest (cO e dst (.slice (some ⟨w.heap.size,0,none⟩) 8 8)) w'):
  OW P n ops K (⟨dst,.buildSlice T 8 #[(0,q1),(1,q2),(2,q3),(3,q4),(4,q5),(5,q6),(6,q7),(7,q8)],ty,pos,after,g⟩::rest) e w:=
 sB [q1,q2,q3,q4,q5,q6,q7,q8] [[str a1],[str a2],[str a3],[str a4],[str a5],[str a6],[str a7],[str a8]] hT hE hg hd rfl rfl rfl rfl rfl (by simp[h1,h2,h3,h4,h5,h6,h7,h8,Value.cells]) rfl k
theorem acO {T:Nat} {q7 q8 q9 Mh:Operand} {a7 a8 a9 Iy:aj} (hT:P.underlying T=some (.slice E)) (hE:TI P E 1 bytes z) (hg:gate ops e g=true) (hd:dw n dst=true) (h1:ev e q1=str a1) (h2:ev e q2=str a2) (h3:ev e q3=str a3) (h4:ev e q4=str a4) (h5:ev e q5=str a5) (h6:ev e q6=str a6) (h7:ev e q7=str a7) (h8:ev e q8=str a8) (h9:ev e q9=str a9) (gI:ev e Mh=str Iy) 
  (k:∀w',ak [] w w'->aY w' w.heap.size [str a1,str a2,str a3,str a4,str a5,str a6,str a7,str a8,str a9,str Iy].toArray E->w'.heap.size=w.heap.size+1->OW P n ops K rest (cO e dst (.slice (some ⟨w.heap.size,0,none⟩) 10 10)) w'):
  OW P n ops K (⟨dst,.buildSlice T 10 #[(0,q1),(1,q2),(2,q3),(3,q4),(4,q5),(5,q6),(6,q7),(7,q8),(8,q9),(9,Mh)],ty,pos,after,g⟩::rest) e w:=
 sB [q1,q2,q3,q4,q5,q6,q7,q8,q9,Mh] [[str a1],[str a2],[str a3],[str a4],[str a5],[str a6],[str a7],[str a8],[str a9],[str Iy]] hT hE hg hd rfl rfl rfl rfl rfl (by simp[h1,h2,h3,h4,h5,h6,h7,h8,h9,gI,Value.cells]) rfl k
end
theorem bS.eq {t u:aA} (h:bS L w v t) (e:t=u):bS L w v u:=e▸h
theorem fI {a:Option Addr} {c:Nat} (h:fG L w (.slice a n c) ts) (hi:i<ts.length):
  ∃b off pa pc,a=some ⟨b,off,none⟩∧ja L w b (off+i*2) [str (nth ts i).az,.slice pa (nth ts i).au.length pc]∧bS L w (.agg #[str (nth ts i).az,.slice pa (nth ts i).au.length pc]) (nth ts i):=by
 obtain⟨b,off,vs,ha,hb,hL,hl,hc,hr⟩:=ze h (Kw (iM hi))
 obtain⟨pa,pn,pc,he,hn,hp⟩:=dN (t:=nth ts i) ⟨vs,rfl,hr⟩
 have hv:vs=[str (nth ts i).az,.slice pa pn pc]:=by
  have:=congrArg (λv=>match v with|Value.agg x=>x.toList|_=>[]) he
  simpa using this
 subst hv hn
 exact⟨b,off,pa,pc,ha,⟨hc,hb,hL⟩,mS hp⟩
theorem aY.wc {T:Nat} (xs:List aj) (h:aY w b (xs.map λx=>str x).toArray T) (hl:xs.length<=100000:=by simp):dh w T (.slice (some ⟨b,0,none⟩) xs.length xs.length) (some b) xs:=
 ⟨by simp,.inr ⟨b,xs.length,_,rfl,rfl,h,lR _,Nat.le_trans hl de,sm,by rw[Nat.mul_one,List.take_of_length_le sm]⟩⟩
theorem aY.eF {T:Nat} (xs:List aj) (h:aY w b (xs.map λx=>str x).toArray T) (hL:b∉L) (hl:xs.length<=100000:=by simp):bI L w (.slice (some ⟨b,0,none⟩) xs.length xs.length) xs:=
 (h.wc xs hl).rep λq hq=>by cases hq;exact hL
theorem aY.ll {T:Nat} (h:aY w b #[] T):dh w T (.slice (some ⟨b,0,none⟩) 0 0) (some b) []:=Sb h
theorem sM (h:n<1000):(bf n).length<=3:=by
 have h1:∀k,k<10->(bf k).length=1:=λk hk=>by unfold bf;rw[iP hk];rfl
 have h2:∀k,k<100->(bf k).length<=2:=λk hk=>by
  unfold bf
  split
  ·simp
  ·have:=h1 (k/10) om
   simp;omega
 unfold bf
 split
 ·simp
 ·have:=h2 (n/10) om
  simp;omega
theorem lI (h:aj) (ps:List aj):(bP h ps).length=h.length+2+jZ ps:=by
 simp only[bP,lC,lA,List.length_nil,Rh]
 unfold jZ;omega
theorem SA {m:Nat}:∀xs:List aj,(∀s,s∈xs->s.length<=m)->(xs.map List.length).sum<=xs.length*m
 |[],_=>by simp
 |x::xs,h=>by
  have h1:=h x sm
  have h2:=SA xs (λs hs=>h s (by simp[hs]))
  simp only[List.map_cons,List.sum_cons,lC,Nat.add_mul];omega
theorem Av {m:Nat} (xs:List aj) (h:∀s,s∈xs->s.length<=m):jZ xs<=xs.length*(m+1):=by
 have:=SA xs h
 unfold jZ;rw[Nat.mul_add];omega
structure kt (s:da):Prop where
 types:Ab (fj s)
 regs:∀p,p∈s->p.2.1<1000
theorem FF (h:kt s) (x:aj):kT s x<1000:=by
 unfold kT
 cases hf:s.reverse.find? λp=>decide (p.1=x) with
 |none=>simp
 |some p=>exact h.regs p (List.mem_reverse.1 (List.mem_of_find?_eq_some hf))
theorem Iz (h:kt s) (x:aj):(kE s x).n<=16:=by
 unfold kE
 cases hl:look (fj s) x with
 |none=>decide
 |some T=>exact h.types x T hl
theorem pR (h:T.n<=16):(bL T).length<=256:=by have:=BM T;omega
theorem tM (h:T.n<=16):(dX (bL T)).length<=272:=by have:=pR h;rw[LR];omega
theorem kt.snoc (h:kt s) {r:Nat} (hr:r<1000) (hT:T.n<=16):kt (s++[(x,r,T)]):=by
 refine⟨by rw[Dw];exact Fl h.types hT,λp hp=>?_⟩
 rcases mA.1 hp with hp|hp
 ·exact h.regs p hp
 ·simp only[List.mem_singleton] at hp;rw[hp];exact hr
def Aw (s:aj):Prop:=∃T:Ty,T.n<=16∧s=dX (bL T)
/-! ### The type of a package's tuple -/
def ma (s:da) (aX:List aj) (on:aj):List aj:=aX.map (λx=>bL (kE s x))++(if on≠[] then[on] else[])
def DF:Option Ty->aj
 |some T=>dX (bL T)
 |none=>[]
def tN (s:da) (aX:List aj) (on:Option Ty):List aA:=aX.map (λx=>pN (kE s x))++(match on with|some T=>[Ad (pN T)]|none=>[])
theorem DG (s:da) (aX:List aj) (on:Option Ty):ma s aX (DF on)=(tN s aX on).map aA.text:=by
 unfold ma tN
 rw[List.map_append,List.map_map]
 congr 1
 cases on with
 |none=>rfl
 |some T=>
  have eN:dX (bL T)≠[]:=by simp[dX]
  refine(iP (show DF (some T)≠[] from eN)).trans ?_
  simp[DF,RX,bL]
theorem SB (s:da) (aX:List aj) (on:aj):(ma s aX on).length<=aX.length+1:=by
 unfold ma
 rw[lA,List.length_map]
 split<;>simp
theorem SC (h:kt s) {aX:List aj} {on:aj} (kM:on.length<=272):∀t,t∈ma s aX on->t.length<=272:=λt ht=>by
 unfold ma at ht
 rcases mA.1 ht with ht|ht
 ·obtain⟨x,_,rfl⟩:=List.mem_map.1 ht
  have:=pR (Iz h x);omega
 ·split at ht
  ·simp only[List.mem_singleton] at ht;rw[ht];exact kM
  ·simp at ht
theorem FG (h:kt s) {aX:List aj} {on:aj} (hn:aX.length<=40) (kM:on.length<=272):(bP [116] (ma s aX on)).length<=11200:=by
 have h1:=Av _ (SC h (aX:=aX) kM)
 have h2:=SB s aX on
 have h3:(ma s aX on).length*(272+1)<=41*(272+1):=Nat.mul_le_mul om (lR _)
 rw[lI];simp only[lC,List.length_nil];omega
theorem acP (s:da) (aX:List aj) (on:Option Ty):aX.length<=(tN s aX on).length:=by
 unfold tN;rw[lA,List.length_map];omega
theorem acQ (s:da) (aX:List aj) (on:Option Ty):∀t,t∈tN s aX on->Good t:=λt ht=>by
 unfold tN at ht
 rcases mA.1 ht with ht|ht
 ·obtain⟨x,_,rfl⟩:=List.mem_map.1 ht
  exact Du _
 ·cases on with
  |none=>simp at ht
  |some T=>simp only[List.mem_singleton] at ht;rw[ht];exact RW (Du T)
theorem SD (h:kt s) {aX:List aj} {on:Option Ty} (hn:aX.length<=40) (kM:∀T,on=some T->T.n<=16):
  ba (bP [116] (ma s aX (DF on)))=some (we [116] (tN s aX on)):=by
 have hg:=abo (h:=[116]) de de (acQ s aX on)
 rw[DG,<-Q5 de]
 refine Le hg ?_ ?_
 ·show aA.depth.deeps (cj [116]::tN s aX on)<=60
  refine La λp hp=>?_
  rcases mC.1 hp with rfl|hp
  ·have:(cj [116]).depth=0:=rfl
   omega
  ·unfold tN at hp
   rcases mA.1 hp with hp|hp
   ·obtain⟨x,_,rfl⟩:=List.mem_map.1 hp
    have:=Dv (kE s x)
    have:=Iz h x
    omega
   ·cases on with
    |none=>simp at hp
    |some T=>
     simp only[List.mem_singleton] at hp
     have:=Dv T
     have:=kM T rfl
     rw[hp,RY];omega
 ·rw[Q5 de,<-DG]
  have:=FG h (aX:=aX) (on:=DF on) hn (by
   cases on with
   |none=>simp[DF]
   |some T=>exact tM (kM T rfl))
  omega
/-! ### The state stays small -/
structure fE (m:Mk):Prop where
 types:∀s,s∈m.types->s.length<=100000
 code:∀s,s∈m.code->s.length<=100000
theorem fE.dH (h:fE m) {k:aj} (hk:k.length<=100000):fE (m.dH k):=⟨λs hs=>by
 rcases mA.1 hs with hs|hs
 ·exact h.types s hs
 ·simp only[List.mem_singleton] at hs;rw[hs];exact hk,h.code⟩
theorem fE.cY (h:fE m) {hd:aj} (hk:(bP hd ps).length<=100000):fE (m.cY hd ps):=⟨h.types,λs hs=>by
 rcases mA.1 hs with hs|hs
 ·exact h.code s hs
 ·simp only[List.mem_singleton] at hs;rw[hs];exact hk⟩
structure acR (m m':Mk) (dt dc:Nat):Prop where
 blocks:m'.blocks=m.blocks
 bW:m'.bW=m.bW
 types:m'.types.length=m.types.length+dt
 code:m'.code.length=m.code.length+dc
theorem SE (m:Mk) (s:da) (ton:Nat) (aX:List aj) (on aP kind:aj) (cE:List aj):acR m (o8 m s ton aX on aP kind cE).m 4 4:=by
 refine⟨rfl,rfl,?_,?_⟩<;>simp[o8,Mk.dH,Mk.cY]
theorem SF (m:Mk) (s:da) (ton:Nat) (aX:List aj) (on aP kind:aj) (cE:List aj):(o8 m s ton aX on aP kind cE).w=bP [116] (ma s aX on):=rfl
theorem SG (hm:fE m) (hs:kt s) {ton:Nat} (ht:ton<1000) {aX:List aj} (hn:aX.length<=40) {on aP kind:aj} (kM:on.length<=272) (hl:aP.length<=10) (hk:kind.length<=272) {cE:List aj} (eN:cE.length<=2) (Mi:∀x,x∈cE->x.length<=272) (fD:m.types.length+4<1000):fE (o8 m s ton aX on aP kind cE).m:=by
 have hw:=FG hs hn kM
 have dec:∀k,k<1000->(bf k).length<=3:=λk hk=>sM hk
 have alE:=Av cE Mi
 have SH:(bP [99] (bP [116] (ma s aX on)::cE)).length<=12000:=by
  rw[lI]
  have:jZ (bP [116] (ma s aX on)::cE)=1+(bP [116] (ma s aX on)).length+jZ cE:=by unfold jZ;simp;omega
  have h3:cE.length*(272+1)<=2*(272+1):=Nat.mul_le_mul eN (lR _)
  simp only[lC,List.length_nil];omega
 have regs:∀x,x∈aX.map (λx=>bf (kT s x))++(if on≠[] then[bf ton] else[])->x.length<=3:=λx hx=>by
  rcases mA.1 hx with hx|hx
  ·obtain⟨y,_,rfl⟩:=List.mem_map.1 hx
   exact dec _ (FF hs y)
  ·split at hx
   ·simp only[List.mem_singleton] at hx;rw[hx];exact dec _ ht
   ·simp at hx
 have oC:(aX.map (λx=>bf (kT s x))++(if on≠[] then[bf ton] else[])).length<=41:=by
  rw[lA,List.length_map]
  split<;>simp<;>omega
 unfold o8
 have s2:∀a b:aj,jZ [a,b]=2+a.length+b.length:=λa b=>by simp[jZ];omega
 have s3:∀a b c:aj,jZ [a,b,c]=3+a.length+b.length+c.length:=λa b c=>by simp[jZ];omega
 have s4:∀a b c d:aj,jZ [a,b,c,d]=4+a.length+b.length+c.length+d.length:=λa b c d=>by simp[jZ];omega
 have nK:=dec m.types.length om
 have cV:=dec (m.types.length+1) om
 have cS:=dec (m.types.length+2) om
 have IA:=dec (m.types.length+3) om
 refine fE.cY (fE.dH (fE.cY (fE.dH (fE.cY (fE.dH (fE.cY (fE.dH hm ?_) ?_) ?_) ?_) ?_) ?_) ?_) ?_
 ·exact Nat.le_trans hw om
 ·have h1:=Av _ regs
  have h2:(aX.map (λx=>bf (kT s x))++(if on≠[] then[bf ton] else[])).length*(3+1)<=41*(3+1):=Nat.mul_le_mul oC (lR _)
  rw[lI]
  have:jZ (bf m.types.length::(aX.map (λx=>bf (kT s x))++(if on≠[] then[bf ton] else[])))=1+(bf m.types.length).length+jZ (aX.map (λx=>bf (kT s x))++(if on≠[] then[bf ton] else[])):=by unfold jZ;simp;omega
  rw[this]
  simp only[lC,List.length_nil];omega
 ·exact Nat.le_trans SH om
 ·rw[lI,s2];simp only[lC,List.length_nil];omega
 ·rw[lI,s2];have:=hw;unfold ma at this SH;simp only[lC,List.length_nil];unfold ma at hw;omega
 ·rw[lI,s3];simp only[lC,List.length_nil];omega
 ·omega
 ·rw[lI,s4];have:=hw;unfold ma at this;simp only[lC,List.length_nil];omega
structure Ext (m m':Mk) (k:Nat) (new:List Tk):Prop where
 blocks:m'.blocks=m.blocks
 bW:m'.bW=m.bW++new
 count:m'.count=m.count+new.length
 types:m.types.length<=m'.types.length∧m'.types.length<=m.types.length+k
 code:m'.code.length<=m.code.length+2*k
theorem Ext.refl (m:Mk):Ext m m 0 []:=⟨rfl,sm,rfl,om,om⟩
theorem Ext.trans {p q:List Tk} (h:Ext m m1 j p) (h2:Ext m1 m2 k q):Ext m m2 (j+k) (p++q):=
 ⟨h2.blocks.trans h.blocks,by rw[h2.bW,h.bW,List.append_assoc],by rw[h2.count,h.count,lA];omega,by have:=h.types;have:=h2.types;omega,by have:=h.code;have:=h2.code;omega⟩
theorem Ext.more {m':Mk} {p:List Tk} (h:Ext m m' j p) (hk:j<=k):Ext m m' k p:=⟨h.blocks,h.bW,h.count,by have:=h.types;omega,by have:=h.code;omega⟩
theorem Mj {s:aj} (h:qo s=true):s.length<=4:=by
 unfold qo at h
 rw[oE] at h
 rcases h with h|h
 ·cases hn:numeral s with
  |none=>rw[hn] at h;cases h
  |some z=>exact QQ hn
 ·unfold eP at h
  simp only[aE,dE] at h;omega
theorem oL (h:e.ok):e.az.length<=4:=by
 cases e with
 |«at» s=>exact Mj h
 |_=>simp[Ex.az]
theorem Ax (a b:aj):jZ [a,b]=2+a.length+b.length:=by simp[jZ];omega
theorem FH {m:Mk} (hm:fE m) (hs:kt s) (ha:a.length<=4) (ht:m.types.length<1000):Ext m (cG m s a).1 1 []∧fE (cG m s a).1∧(cG m s a).2<1000:=by
 unfold cG
 split
 ·exact⟨(Ext.refl m).more om,hm,FF hs a⟩
 ·refine⟨⟨rfl,by simp[Mk.dH,Mk.cY],rfl,by simp[Mk.dH,Mk.cY],by simp[Mk.dH,Mk.cY]⟩,fE.cY (fE.dH hm sm) ?_,ht⟩
  have:=sM ht
  rw[lI,Ax];simp only[lC,List.length_nil];omega
/-! ### Tasks -/
structure oM (t:Tk):Prop where
 ok:t.expr.ok
 type:∃T,bM t.expr (fj t.sc)=some T
 sc:kt t.sc
 bud:5*t.sc.length+2*t.expr.n<=240
 room:t.regs.length+t.loads+8*t.expr.n<=990
 regs:∀r,r∈t.regs->r.length<=100000
 loads:t.loads=0∨∃ts:List aA,t.regs.head?=some (bP [116] (ts.map aA.text))∧t.loads<=ts.length∧ba (bP [116] (ts.map aA.text))=some (we [116] ts)
 self:t.self=[]∨∃a b,t.self=[a,b]∧a.length<=272∧b.length<=11200∧t.regs.length=3∧∀r,r∈t.regs->r.length<=11200
 bm:Aw t.bm
 on:t.on<1000
 aP:t.aP.length<=4
theorem Ml (s:da) (k:Nat) (aX:List aj):fj (iT s k aX [])=aX.map λx=>(x,kE s x):=by
 unfold iT fj
 rw[List.nil_append,List.map_map]
 have:∀(l:List aj) (j:Nat),(l.zipIdx j).map ((λp:aj×Nat×Ty=>(p.1,p.2.2))∘λp=>(p.1,k+p.2,kE s p.1))=l.map λx=>(x,kE s x):=by
  intro l
  induction l with
  |nil=>intro j;rfl
  |cons x l ih=>intro j;simp only[List.zipIdx_cons,List.map_cons,Function.comp,ih]
 exact this aX 0
theorem Mm:∀{aX:List aj} {x:aj},x∈aX->look (aX.map λx=>(x,kE s x)) x=some (kE s x):=by
 intro aX x h
 have key:∀(l:List aj),(∃y,y∈l∧y=x)->(l.map λx=>(x,kE s x)).find? (λp=>decide (p.1=x))=some (x,kE s x):=by
  intro l
  induction l with
  |nil=>rintro⟨_,hy,_⟩;simp at hy
  |cons y l ih=>
   intro hh
   rw[List.map_cons,List.find?_cons]
   by_cases e:y=x
   ·rw[dT e,e]
   ·rw[dF e]
    obtain⟨z,hz,SI⟩:=hh
    rcases mC.1 hz with hz|hz
    ·exact absurd (hz▸SI) e
    ·exact ih ⟨z,hz,SI⟩
 unfold look
 rw[<-List.map_reverse,key aX.reverse ⟨x,List.mem_reverse.2 h,rfl⟩];rfl
theorem SJ (h:kt s) (k:Nat) (aX:List aj) (hn:k+aX.length<1000):kt (iT s k aX []):=by
 refine⟨λx T hT=>?_,λp hp=>?_⟩
 ·rw[Ml] at hT
  have hx:x∈aX:=by
   unfold look at hT
   cases hf:(aX.map λx=>(x,kE s x)).reverse.find? (λp=>decide (p.1=x)) with
   |none=>rw[hf] at hT;cases hT
   |some q=>
    have h1:=List.find?_some hf
    have h2:=List.mem_reverse.1 (List.mem_of_find?_eq_some hf)
    obtain⟨y,hy,rfl⟩:=List.mem_map.1 h2
    rw[<-of_decide_eq_true h1];exact hy
  rw[Mm hx] at hT
  cases hT;exact Iz h x
 ·unfold iT at hp
  rw[List.nil_append] at hp
  obtain⟨q,hq,rfl⟩:=List.mem_map.1 hp
  have:=List.snd_lt_of_mem_zipIdx hq
  show k+q.2<1000;omega
theorem yd (s:da) (k:Nat) (aX:List aj):(iT s k aX []).length=aX.length:=by simp[iT]
theorem Mn (h:(look (fj s) x).isSome=true):look (fj s) x=some (kE s x):=by
 unfold kE
 cases hl:look (fj s) x with
 |none=>rw[hl] at h;cases h
 |some T=>rfl
theorem Mo {bd:List aj} (hb:5*s.length+2*e.n<=240) (hf:∀x,Fv x e->x∉bd->(look (fj s) x).isSome=true):(cF e bd []).length<=34∧(cF e bd []).length<=s.length:=by
 have h1:=tC e bd []
 have h2:(cF e bd []).length<=(s.map Prod.fst).length:=LG (wj e bd [] List.nodup_nil) λx hx=>by
  rcases(qp x e bd []).1 hx with h|⟨hx,hb⟩
  ·simp at h
  ·have:=hf x hx hb
   unfold look at this
   cases hq:(fj s).reverse.find? λp=>decide (p.1=x) with
   |none=>rw[hq] at this;cases this
   |some q=>
    have h3:=List.find?_some hq
    have h4:=List.mem_reverse.1 (List.mem_of_find?_eq_some hq)
    unfold fj at h4
    obtain⟨p,hp,rfl⟩:=List.mem_map.1 h4
    rw[<-of_decide_eq_true h3]
    exact List.mem_map.2 ⟨p,hp,rfl⟩
 simp only[List.length_nil,Nat.zero_add,List.length_map] at h1 h2
 omega
theorem SK {ton:Nat} {aX:List aj} {on aP kind:aj} {cE:List aj}:Ext m (o8 m s ton aX on aP kind cE).m 4 []:=by
 have h:=SE m s ton aX on aP kind cE
 exact⟨h.blocks,by rw[h.bW];simp,rfl,by rw[h.types];omega,by rw[h.code];omega⟩
theorem Ay {m:Mk} (h:m.count<1000):m.aP.length<=4:=by
 unfold Mk.aP
 have:=sM h
 simp only[lC];omega
theorem SL {m:Mk} {f:aj} {A B:Ty} (hs:kt s) (bF:(Ex.fn f x A B e).ok) (ht:bM (.fn f x A B e) (fj s)=some T) (hb:5*s.length+2*(Ex.fn f x A B e).n<=240) (hc:m.count<1000):oM (Ai m s f x A B e)∧(cF (.fn f x A B e) [] []).length<=34∧1+A.n+B.n<=16:=by
 obtain⟨hf,hx,eN,hA,hB,he⟩:=bF
 have sN:∀y,Fv y (.fn f x A B e)->y∉([]:List aj)->(look (fj s) y).isSome=true:=λy hy _=>pL ht hy
 obtain⟨gi,iZ⟩:=Mo hb sN
 have xL:1+A.n+B.n<=16∧bM e (fj s++[(f,.op true A B),(x,A)])=some B:=by
  unfold bM at ht
  split at ht
  ·rename_i kS
   cases DH:bM e (fj s++[(f,.op true A B),(x,A)]) with
   |none=>rw[DH] at ht;cases ht
   |some C=>
    rw[DH,Option.bind_some] at ht
    split at ht
    ·rename_i hq;rw[ace.1 hq];exact⟨kS,rfl⟩
    ·cases ht
  ·cases ht
 have Az:(Ty.op true A B).n<=16:=xL.1
 have wF:(bL (.op true A B)).length<=256:=pR Az
 have hn:(Ex.fn f x A B e).n=3+A.n+B.n+e.n:=rfl
 rw[hn] at hb
 have hA1:=A.pos
 have IB:=B.pos
 have IC:=SJ hs 3 (cF (.fn f x A B e) [] []) om
 have FI:(oH m s f x A B e).w=bP [116] (ma s (cF (.fn f x A B e) [] []) []):=SF ..
 have ID:(oH m s f x A B e).w.length<=11200:=by rw[FI];exact FG hs om sm
 have fD:bM e (fj (Ah s f x A B e))=some B:=by
  rw[<-xL.2]
  unfold Ah
  rw[Dw]
  refine qq e _ _ λy IE hy=>?_
  rw[mX,Aa]
  by_cases e1:x=y
  ·rw[iP e1,iP e1]
  ·rw[iN e1,iN e1]
   by_cases e2:f=y
   ·have h0:0<im f e:=(wk hf e).2 (e2▸hy)
    rw[iP e2,iP h0,Dw,mX,iP e2]
   ·rw[iN e2]
    have SM:Fv y (.fn f x A B e):=⟨λe'=>e2 e'.symm,λe'=>e1 e'.symm,hy⟩
    have rV:y∈cF (.fn f x A B e) [] []:=(qp y _ [] []).2 (.inr ⟨SM,sm⟩)
    have hl:look (fj (iT s 3 (cF (.fn f x A B e) [] []) [])) y=look (fj s) y:=by
     rw[Ml,Mm rV,Mn (pL ht SM)]
    split
    ·rw[Dw,mX,iN e2,hl]
    ·exact hl
 have SN:kt (Ah s f x A B e):=by
  unfold Ah
  split
  ·exact(IC.snoc om Az).snoc om hA
  ·exact IC.snoc om hA
 have oZ:5*(Ah s f x A B e).length+2*e.n<=240:=by
  unfold Ah
  rw[lA]
  split
  ·rw[lA,yd];simp only[lC,List.length_nil];omega
  ·rw[yd];simp only[lC,List.length_nil];omega
 refine⟨{ok:=he,type:=⟨B,fD⟩,sc:=SN,bud:=oZ,room:=?_,regs:=?_,loads:=?_,self:=?_,bm:=⟨B,hB,rfl⟩,on:=?_,aP:=Ay hc},gi,xL.1⟩
 ·show 3+(cF (.fn f x A B e) [] []).length+8*e.n<=990
  omega
 ·intro r hr
  have rM:r∈[(oH m s f x A B e).w,bL A,dX (bL B)]:=hr
  simp only[mC,List.not_mem_nil,or_false] at rM
  rcases rM with rfl|rfl|rfl
  ·omega
  ·have:=pR hA;omega
  ·have:=tM hB;omega
 ·refine .inr ⟨tN s (cF (.fn f x A B e) [] []) none,?_,acP _ _ _,?_⟩
  ·show some (oH m s f x A B e).w=_
   rw[FI,<-DG];rfl
  ·rw[<-DG];exact SD hs om sm
 ·show(if 0<im f e then[bL (.op true A B),(oH m s f x A B e).w] else[])=[]∨_
  by_cases h0:0<im f e
  ·refine .inr ⟨bL (.op true A B),(oH m s f x A B e).w,iP h0,om,ID,rfl,λr hr=>?_⟩
   have rM:r∈[(oH m s f x A B e).w,bL A,dX (bL B)]:=hr
   simp only[mC,List.not_mem_nil,or_false] at rM
   rcases rM with rfl|rfl|rfl
   ·exact ID
   ·have:=pR hA;omega
   ·have:=tM hB;omega
  ·exact .inl (iN h0)
 ·show(2:Nat)<1000;omega
theorem acS {f:aj} {A B:Ty} (hm:fE m) (hs:kt s) (bF:(Ex.fn f x A B e).ok) (ht:bM (.fn f x A B e) (fj s)=some T) (hb:5*s.length+2*(Ex.fn f x A B e).n<=240) (fD:m.types.length+4<1000) (hc:m.count<1000):
  Ext m (Aj m s f x A B e).1 4 [Ai m s f x A B e]∧fE (Aj m s f x A B e).1∧(Aj m s f x A B e).2<1000∧oM (Ai m s f x A B e):=by
 obtain⟨hi,gi,Az⟩:=SL (m:=m) hs bF ht hb hc
 obtain⟨_,_,_,hA,hB,_⟩:=bF
 have wF:(bL (.op true A B)).length<=256:=pR Az
 have hp:Ext m.lG (oH m s f x A B e).m 4 []:=SK
 have FJ:fE m.lG:=⟨hm.types,hm.code⟩
 have oB:fE (oH m s f x A B e).m:=SG FJ hs om om sm (by have:=Ay hc;omega) om sm (λy hy=>by
  simp only[mC,List.not_mem_nil,or_false] at hy
  rcases hy with rfl|rfl
  ·have:=pR hA;omega
  ·exact tM hB) fD
 have h1:(oH m s f x A B e).m.bW=m.bW:=by rw[hp.bW];simp[Mk.lG]
 have h2:(oH m s f x A B e).m.count=m.count+1:=by rw[hp.count];simp[Mk.lG]
 refine⟨⟨hp.blocks,?_,h2,hp.types,hp.code⟩,⟨oB.types,oB.code⟩,?_,hi⟩
 ·show(oH m s f x A B e).m.bW++[Ai m s f x A B e]=m.bW++[Ai m s f x A B e]
  rw[h1]
 ·show m.types.length+3<1000;omega
theorem acT {m:Mk} {ton:Nat} {bm name:aj} {kind:Ty} {rest:Ex} (hs:kt s) (kM:Aw bm) (wF:kind.n<=16) (bF:rest.ok) (ht:bM rest (fj s++[(name,kind)])=some T) (hb:5*(s.length+1)+2*rest.n<=240) (hc:m.count<1000):oM (Il m s ton bm name kind rest)∧(cF rest [name] []).length<=34:=by
 obtain⟨O,hO,rfl⟩:=kM
 have sN:∀y,Fv y rest->y∉[name]->(look (fj s) y).isSome=true:=λy hy hn=>by
  have:=pL ht hy
  rw[mX,iN (λe=>hn (by rw[e];simp))] at this;exact this
 obtain⟨gi,iZ⟩:=Mo om sN
 have IC:=SJ hs 2 (cF rest [name] []) om
 have FI:(oI m s ton (dX (bL O)) name kind rest).w=bP [116] (ma s (cF rest [name] []) (dX (bL O))):=SF ..
 have ID:(oI m s ton (dX (bL O)) name kind rest).w.length<=11200:=by rw[FI];exact FG hs om (tM hO)
 have fD:bM rest (fj (iT s 2 (cF rest [name] []) []++[(name,1,kind)]))=some T:=by
  rw[<-ht,Dw]
  refine qq rest _ _ λy IE hy=>?_
  rw[mX,mX]
  by_cases e1:name=y
  ·rw[iP e1,iP e1]
  ·rw[iN e1,iN e1]
   have gC:y∉[name]:=λh=>e1 (by simpa using h:y=name).symm
   have rV:y∈cF rest [name] []:=(qp y _ [name] []).2 (.inr ⟨hy,gC⟩)
   rw[Ml,Mm rV,Mn (sN y hy gC)]
 refine⟨{ok:=bF,type:=⟨T,fD⟩,sc:=IC.snoc om wF,bud:=?_,room:=?_,regs:=?_,loads:=?_,self:=.inl rfl,bm:=⟨O,hO,rfl⟩,on:=?_,aP:=Ay hc},gi⟩
 ·show 5*(iT s 2 (cF rest [name] []) []++[(name,1,kind)]).length+2*rest.n<=240
  rw[lA,yd];simp only[lC,List.length_nil];omega
 ·show 2+((cF rest [name] []).length+1)+8*rest.n<=990
  omega
 ·intro r hr
  have rM:r∈[(oI m s ton (dX (bL O)) name kind rest).w,bL kind]:=hr
  simp only[mC,List.not_mem_nil,or_false] at rM
  rcases rM with rfl|rfl
  ·omega
  ·have:=pR wF;omega
 ·refine .inr ⟨tN s (cF rest [name] []) (some O),?_,?_,?_⟩
  ·show some (oI m s ton (dX (bL O)) name kind rest).w=_
   rw[FI,<-DG];rfl
  ·show(cF rest [name] []).length+1<=_
   unfold tN;rw[lA,List.length_map];simp
  ·rw[<-DG];exact SD hs om (λT hT=>by cases hT;exact hO)
 ·show 2+(cF rest [name] []).length<1000;omega
theorem acU {ton:Nat} {bm name:aj} {kind:Ty} {rest:Ex} (hm:fE m) (hs:kt s) (ri:ton<1000) (kM:Aw bm) (wF:kind.n<=16) (bF:rest.ok) (ht:bM rest (fj s++[(name,kind)])=some T) (hb:5*(s.length+1)+2*rest.n<=240) (fD:m.types.length+4<1000) (hc:m.count<1000):
  Ext m (tH m s ton bm name kind rest).1 4 [Il m s ton bm name kind rest]∧fE (tH m s ton bm name kind rest).1∧(tH m s ton bm name kind rest).2.1<1000∧Aw (tH m s ton bm name kind rest).2.2∧oM (Il m s ton bm name kind rest):=by
 obtain⟨hi,gi⟩:=acT (m:=m) (ton:=ton) hs kM wF bF ht hb hc
 obtain⟨O,hO,rfl⟩:=kM
 have hp:Ext m.lG (oI m s ton (dX (bL O)) name kind rest).m 4 []:=SK
 have FJ:fE m.lG:=⟨hm.types,hm.code⟩
 have oB:fE (oI m s ton (dX (bL O)) name kind rest).m:=SG FJ hs ri om (tM hO) (by have:=Ay hc;omega) (tM wF) sm (λy hy=>by
  simp only[List.mem_singleton] at hy
  rw[hy];have:=pR wF;omega) fD
 have h1:(oI m s ton (dX (bL O)) name kind rest).m.bW=m.bW:=by rw[hp.bW];simp[Mk.lG]
 have h2:(oI m s ton (dX (bL O)) name kind rest).m.count=m.count+1:=by rw[hp.count];simp[Mk.lG]
 refine⟨⟨hp.blocks,?_,h2,hp.types,hp.code⟩,⟨oB.types,oB.code⟩,?_,⟨kind,wF,rfl⟩,hi⟩
 ·show(oI m s ton (dX (bL O)) name kind rest).m.bW++[_]=m.bW++[_]
  rw[h1]
 ·show m.types.length+3<1000;omega
theorem FK (m:Mk) (k:aj):Ext m (m.dH k) 1 []:=⟨rfl,by simp[Mk.dH],rfl,by simp[Mk.dH],by simp[Mk.dH]⟩
theorem tO (m:Mk) (h:aj) (ps:List aj):Ext m (m.cY h ps) 1 []:=⟨rfl,by simp[Mk.cY],rfl,by simp[Mk.cY],by simp[Mk.cY]⟩
theorem ye (m:Mk) (k:aj):(m.dH k).types.length=m.types.length+1:=by simp[Mk.dH]
theorem oN (m:Mk) (h:aj) (ps:List aj):(m.cY h ps).types=m.types:=rfl
theorem my {n:Nat} (h:n<1000):(bf n).length<=3:=sM h
theorem nY {m:Mk} (h:fE m) {hd:aj} (hh:hd.length<=5) (hp:ps.length<=4) (hs:∀p,p∈ps->p.length<=300):fE (m.cY hd ps):=h.cY (by
 have h1:=Av (m:=300) ps hs
 have h2:ps.length*301<=4*301:=Nat.mul_le_mul hp (lR _)
 rw[lI];omega)
theorem DI {s:aj} (h:eP s=true):s.length<=4:=by
 unfold eP at h
 simp only[aE,dE] at h
 exact h.1.1.2
def ld (ts:List Tk):Nat:=(ts.map λt=>t.expr.n+1).sum
theorem FL (a b:List Tk):ld (a++b)=ld a+ld b:=by unfold ld;rw[List.map_append,List.sum_append]
theorem Mp (t:Tk):ld [t]=t.expr.n+1:=by simp[ld]
theorem FM:ld []=0:=rfl
theorem SO {b:aj} (hm:fE m) (hs:kt s) (ha:a.length<=4) (hb:b.length<=4) (ht:m.types.length+1<1000):
  (Ext m (cG m s a).1 1 []∧fE (cG m s a).1∧(cG m s a).2<1000)∧Ext m (cG (cG m s a).1 s b).1 2 []∧fE (cG (cG m s a).1 s b).1∧(cG (cG m s a).1 s b).2<1000:=by
 have h1:=FH hm hs ha om
 have h2:=FH (m:=(cG m s a).1) (a:=b) h1.2.1 hs hb (by have:=h1.1.types;omega)
 exact⟨h1,h1.1.trans h2.1,h2.2⟩
structure SP (m m':Mk) (r:Nat) (n:Nat) (new:List Tk):Prop where
 ext:Ext m m' 4 new
 sml:fE m'
 dH:r<1000
 inv:∀k,k∈new->oM k
 num:ld new+1<=n
theorem Mq (hm:fE m) (hs:kt s) (bF:e.ok) (ht:bM e (fj s)=some T) (hb:5*s.length+2*e.n<=240) (fD:m.types.length+8*e.n<=1000) (hc:m.count<1000):
  ∃new,SP m (mZ m s T e).1 (mZ m s T e).2 e.n new:=by
 have hT:=l4 hs.types ht
 have hk:=pR hT
 have two:∀(h a b:aj),a.length<=4->b.length<=4->h.length<=5->m.types.length+8<=1000->∀n,1<=n->
   SP m (((cG (cG m s a).1 s b).1.dH (bL T)).cY h [bf (cG (cG m s a).1 s b).1.types.length,bf (cG m s a).2,bf (cG (cG m s a).1 s b).2]) (cG (cG m s a).1 s b).1.types.length n []:=by
  intro h a b ha hb hh h8 n hn
  obtain⟨⟨e1,_,r1⟩,e2,s2,r2⟩:=SO hm hs ha hb om
  have Mr:=e2.types
  refine⟨(e2.trans ((FK _ _).trans (tO _ _ _))),nY (s2.dH om) hh sm ?_,om,sm,by simp[FM];omega⟩
  intro p hp
  simp only[mC,List.not_mem_nil,or_false] at hp
  rcases hp with rfl|rfl|rfl
  ·have:=my (n:=(cG (cG m s a).1 s b).1.types.length) om;omega
  ·have:=my r1;omega
  ·have:=my r2;omega
 cases e with
 |«at» a=>
  obtain⟨h1,h2,h3⟩:=FH hm hs (Mj bF) (by simp only[Ex.n] at fD;omega)
  exact⟨[],h1.more om,h2,h3,sm,by simp[FM,Ex.n]⟩
 |un h a=>
  simp only[Ex.n] at fD
  have yf:=a.pos
  obtain⟨h1,h2,h3⟩:=FH hm hs (oL bF.2) om
  have Mr:=h1.types
  refine⟨[],((h1.trans ((FK _ _).trans (tO _ _ _)))).more om,nY (h2.dH om) sm sm ?_,?_,sm,by simp[FM,Ex.n]⟩
  ·intro p hp
   simp only[mC,List.not_mem_nil,or_false] at hp
   rcases hp with rfl|rfl|rfl
   ·have:=my (n:=(cG m s a.az).1.types.length) om;omega
   ·have:=my h3;omega
   ·split<;>simp
  ·show(cG m s a.az).1.types.length<1000;omega
 |bi h a b=>
  simp only[Ex.n] at fD
  have yf:=a.pos
  refine⟨[],two (qv h) a.az b.az (oL bF.2.1) (oL bF.2.2) ?_ om _ (Ex.pos _)⟩
  unfold qv;split
  ·simp
  ·split
   ·simp
   ·split<;>simp
 |ite a b c=>
  simp only[Ex.n] at fD
  exact⟨[],two (qv cC) a.az b.az (oL bF.1) (oL bF.2.1) de om _ (Ex.pos _)⟩
 |lt x a b=>
  simp only[Ex.n] at fD
  exact⟨[],two (qv gQ) x a.az (DI bF.1) (oL bF.2.1) de om _ (Ex.pos _)⟩
 |fn f x A B e=>
  simp only[Ex.n] at fD
  obtain⟨h1,h2,h3,h4⟩:=acS hm hs bF ht hb om hc
  refine⟨_,h1,h2,h3,λk hk=>by simp only[List.mem_singleton] at hk;rw[hk];exact h4,?_⟩
  rw[Mp];simp only[Ai,Ex.n];omega
theorem SQ (hm:fE m) {s:Nat} (hs:s<1000) (ht:m.types.length+3<1000):Ext m (sG m s) 6 []∧fE (sG m s)∧(sG m s).types.length=m.types.length+3:=by
 have h0:=my hs
 have h1:=my (n:=m.types.length) om
 have h2:=my (n:=m.types.length+1) om
 have h3:=my (n:=m.types.length+2) om
 unfold sG
 have z:([]:aj).length<=100000:=by simp
 refine⟨(FK _ _).trans ((tO _ _ _).trans ((FK _ _).trans ((tO _ _ _).trans ((FK _ _).trans (tO _ _ _))))),?_,by simp[Mk.dH,Mk.cY]⟩
 refine nY (fE.dH (nY (fE.dH (nY (fE.dH hm z) sm sm ?_) z) sm sm ?_) z) sm sm ?_
 all_goals
  intro p hp
  simp only[mC,List.not_mem_nil,or_false] at hp
  rcases hp with rfl|rfl|rfl<;>first|omega|simp
theorem acV (hm:fE m) {f x on:Nat} (hf:f<1000) (hx:x<1000) (ho:on<1000) (ht:m.types.length+3<1000):Ext m (xW m f x on) 10 []∧fE (xW m f x on):=by
 obtain⟨h1,h2,h3⟩:=SQ hm hf ht
 have d1:=my (n:=m.types.length+1) om
 have d2:=my (n:=m.types.length+2) om
 have d3:=my hx
 have d4:=my ho
 unfold xW
 refine⟨h1.trans ((tO _ _ _).trans ((tO _ _ _).trans ((tO _ _ _).trans (tO _ _ _)))),?_⟩
 refine nY (nY (nY (nY h2 sm sm ?_) sm sm ?_) sm sm ?_) sm sm ?_
 all_goals
  intro p hp
  simp only[mC,List.not_mem_nil,or_false] at hp
  first
  |(rcases hp with rfl|rfl<;>first|omega|simp)
  |(rw[hp];omega)
theorem acW (hm:fE m) {on r:Nat} (ho:on<1000) (hr:r<1000) (ht:m.types.length+3<1000):Ext m (xX m on r) 10 []∧fE (xX m on r):=by
 obtain⟨h1,h2,h3⟩:=SQ hm ho ht
 have d1:=my (n:=m.types.length+1) om
 have d2:=my (n:=m.types.length+2) om
 have d3:=my hr
 unfold xX
 refine⟨(h1.trans ((tO _ _ _).trans ((tO _ _ _).trans (tO _ _ _)))).more om,?_⟩
 refine nY (nY (nY h2 sm sm ?_) sm sm ?_) sm sm ?_
 all_goals
  intro p hp
  simp only[mC,List.not_mem_nil,or_false] at hp
  first
  |(rcases hp with rfl|rfl<;>first|omega|simp)
  |(rw[hp];omega)
structure nZ (m:Mk) (s:da) (on:Nat) (bm:aj) (e:Ex):Prop where
 sml:fE m
 sc:kt s
 ok:e.ok
 type:∃T,bM e (fj s)=some T
 bud:5*s.length+2*e.n<=240
 room:m.types.length+8*e.n<=1000
 on:on<1000
 bm:Aw bm
 cnt:m.count+e.n<=900
structure uS (m:Mk) (s:da) (on:Nat) (bm:aj) (e:Ex) (T:Ty):Prop where
 ok:(bV e).s.ok
 type:bM (bV e).s (fj s)=some T
 small:T.n<=16
 nW:nW s (bV e).s=T
 le:(bV e).s.n<=e.n
 last:(bV e).name=[]->(bV e).s=e
 rest:(bV e).name≠[]->eP (bV e).name=true∧(bV e).rest.ok∧(∃U,bM (bV e).rest (fj s++[((bV e).name,T)])=some U)∧(bV e).s.n+(bV e).rest.n+2<=e.n
theorem nZ.goal {on:Nat} {bm:aj} (h:nZ m s on bm e):∃T,uS m s on bm e T:=by
 obtain⟨T,hT⟩:=h.type
 have same:bV e=⟨[],e,e⟩->∃T,uS m s on bm e T:=λhg=>by
  refine⟨T,?_,?_,l4 h.sc.types hT,?_,?_,?_,?_⟩
  ·rw[hg];exact h.ok
  ·rw[hg];exact hT
  ·rw[hg];unfold nW;rw[hT];rfl
  ·rw[hg];exact lR _
  ·intro _;rw[hg]
  ·intro hn;rw[hg] at hn;exact absurd rfl hn
 have bF:=h.ok
 cases e with
 |lt x a b=>
  unfold bM at hT
  cases ha:bM a (fj s) with
  |none=>rw[ha] at hT;cases hT
  |some A=>
   rw[ha,Option.bind_some] at hT
   refine⟨A,bF.2.1,ha,l4 h.sc.types ha,by show(bM a (fj s)).getD .i=A;rw[ha];rfl,by simp only[bV,Ex.n];omega,λhn=>absurd hn (uL bF.1),λ_=>⟨bF.1,bF.2.2,⟨T,hT⟩,by simp only[bV,Ex.n];omega⟩⟩
 |«at» a=>exact same rfl
 |un a b=>exact same rfl
 |bi a b c=>exact same rfl
 |ite a b c=>exact same rfl
 |fn a b c d f=>exact same rfl
def fm (m:Mk) (s:da) (on:Nat) (bm name:aj) (kind:Ty) (rest:Ex):Mk×Nat×aj:=if name≠[] then tH m s on bm name kind rest else(m,on,bm)
structure Cut (m m':Mk) (on':Nat) (onOf':aj) (n:Nat) (new:List Tk):Prop where
 ext:Ext m m' 4 new
 sml:fE m'
 on:on'<1000
 bm:Aw onOf'
 inv:∀k,k∈new->oM k
 num:ld new<=n
theorem SR {m0:Mk} {on:Nat} {bm:aj} (h:nZ m0 s on bm e) (g:uS m0 s on bm e T) (hm:fE m) (fD:m.types.length+4<1000) (hc:m.count<1000) (h3:2<=(bV e).s.n):
  ∃new,Cut m (fm m s on bm (bV e).name T (bV e).rest).1 (fm m s on bm (bV e).name T (bV e).rest).2.1 (fm m s on bm (bV e).name T (bV e).rest).2.2 (e.n-(bV e).s.n) new:=by
 by_cases hn:(bV e).name=[]
 ·unfold fm
  rw[iN (by simp[hn])]
  exact⟨[],(Ext.refl m).more om,hm,h.on,h.bm,sm,by simp[FM]⟩
 ·unfold fm
  rw[iP hn]
  obtain⟨gC,FN,⟨U,hU⟩,rj⟩:=g.rest hn
  have hb:=h.bud
  obtain⟨h1,h2,h3,h4,h5⟩:=acU (name:=(bV e).name) hm h.sc h.on h.bm g.small FN hU om fD hc
  refine⟨_,h1,h2,h3,h4,λk hk=>by simp only[List.mem_singleton] at hk;rw[hk];exact h5,?_⟩
  rw[Mp]
  show(bV e).rest.n+1<=_
  omega
structure Fin (m m':Mk) (n:Nat) (new:List Tk):Prop where
 ext:Ext m m' 20 new
 sml:fE m'
 inv:∀k,k∈new->oM k
 num:ld new+1<=n
structure On (m m':Mk) (s:da) (on:Nat) (bm:aj) (n:Nat) (r:Ex) (new:List Tk):Prop where
 ext:Ext m m' 20 new
 inv:nZ m' s on bm r
 bW:∀k,k∈new->oM k
 num:ld new+r.n+1<=n
theorem acX {on:Nat} {bm:aj} (h:nZ m s on bm e) (g:uS m s on bm e T) (hn:(bV e).name=[]):
  ∃new,Fin m (xX (mZ m s T (bV e).s).1 on (mZ m s T (bV e).s).2) e.n new:=by
 have hr:=h.room
 have hc:=h.cnt
 have hp:=(bV e).s.pos
 have hle:=g.le
 obtain⟨new,hP⟩:=Mq h.sml h.sc g.ok g.type (by have:=h.bud;omega) om om
 have ht:=hP.ext.types
 obtain⟨h1,h2⟩:=acW hP.sml h.on hP.dH om
 exact⟨new,by have:=hP.ext.trans h1;rw[List.append_nil] at this;exact this.more om,h2,hP.inv,by have:=hP.num;omega⟩
theorem SS {on:Nat} {bm:aj} (h:nZ m s on bm e) (g:uS m s on bm e T) (hn:(bV e).name≠[]):
  ∃new,On m (mZ m s T (bV e).s).1 (s++[((bV e).name,(mZ m s T (bV e).s).2,T)]) on bm e.n (bV e).rest new:=by
 have hr:=h.room
 have hc:=h.cnt
 have hp:=(bV e).s.pos
 have hle:=g.le
 obtain⟨gC,FN,⟨U,hU⟩,rj⟩:=g.rest hn
 obtain⟨new,hP⟩:=Mq h.sml h.sc g.ok g.type (by have:=h.bud;omega) om om
 have ht:=hP.ext.types
 have hct:=hP.ext.count
 have IF:=hP.num
 have hlen:new.length<=ld new:=by
  unfold ld
  clear hP hct IF
  induction new with
  |nil=>simp
  |cons t l ih=>simp only[lC,List.map_cons,List.sum_cons];omega
 refine⟨new,hP.ext.more om,⟨hP.sml,h.sc.snoc hP.dH g.small,FN,⟨U,by rw[Dw];exact hU⟩,?_,om,h.on,h.bm,om⟩,hP.inv,om⟩
 have:=h.bud
 simp only[lA,lC,List.length_nil];omega
theorem acZ {on:Nat} {bm:aj} {f x:Ex} (h:nZ m s on bm e) (g:uS m s on bm e T) (hs:(bV e).s= .bi kD f x):
  ∃new,Cut (cG (cG m s f.az).1 s x.az).1 (fm (cG (cG m s f.az).1 s x.az).1 s on bm (bV e).name T (bV e).rest).1 (fm (cG (cG m s f.az).1 s x.az).1 s on bm (bV e).name T (bV e).rest).2.1 (fm (cG (cG m s f.az).1 s x.az).1 s on bm (bV e).name T (bV e).rest).2.2 (e.n-3) new∧
   Fin m (xW (fm (cG (cG m s f.az).1 s x.az).1 s on bm (bV e).name T (bV e).rest).1 (cG m s f.az).2 (cG (cG m s f.az).1 s x.az).2 (fm (cG (cG m s f.az).1 s x.az).1 s on bm (bV e).name T (bV e).rest).2.1) e.n new:=by
 have bF:=g.ok
 rw[hs] at bF
 have hr:=h.room
 have hc:=h.cnt
 have hle:=g.le
 have Ms:3<=(bV e).s.n:=by rw[hs];simp only[Ex.n];have:=f.pos;have:=x.pos;omega
 obtain⟨⟨e1,s1,r1⟩,e2,s2,r2⟩:=SO h.sml h.sc (oL bF.2.1) (oL bF.2.2) om
 have t2:=e2.types
 have c2:=e2.count
 simp only[List.length_nil] at c2
 obtain⟨new,hC⟩:=SR h g s2 om om om
 have t3:=hC.ext.types
 obtain⟨h1,h2⟩:=acV hC.sml r1 r2 hC.on om
 refine⟨new,⟨hC.ext,hC.sml,hC.on,hC.bm,hC.inv,by have:=hC.num;omega⟩,?_,h2,hC.inv,by have:=hC.num;omega⟩
 have:=(e2.trans hC.ext).trans h1
 rw[List.append_nil,List.nil_append] at this;exact this.more om
def Mt (m:Mk) (s:da) (on:Nat) (bm:aj) (x:Ex):Tk:=⟨m.aP,m.types,0,[],s,x,on,bm,m.types.length⟩
def FO (m:Mk) (s:da) (on:Nat) (bm:aj) (r:Nat) (x:Ex):Mk:={(m.lG.cY Fs [bf r,m.aP]) with bW:=m.bW++[Mt m s on bm x]}
theorem SU {on:Nat} {bm:aj} {c x y:Ex} (h:nZ m s on bm e) (g:uS m s on bm e T) (hs:(bV e).s= .ite c x y):
  ∃new yg,Cut (cG m s c.az).1 (fm (cG m s c.az).1 s on bm (bV e).name T (bV e).rest).1 (fm (cG m s c.az).1 s on bm (bV e).name T (bV e).rest).2.1 (fm (cG m s c.az).1 s on bm (bV e).name T (bV e).rest).2.2 (e.n-(bV e).s.n) new∧
   On m (FO (fm (cG m s c.az).1 s on bm (bV e).name T (bV e).rest).1 s (fm (cG m s c.az).1 s on bm (bV e).name T (bV e).rest).2.1 (fm (cG m s c.az).1 s on bm (bV e).name T (bV e).rest).2.2 (cG m s c.az).2 x) s
    (fm (cG m s c.az).1 s on bm (bV e).name T (bV e).rest).2.1 (fm (cG m s c.az).1 s on bm (bV e).name T (bV e).rest).2.2 e.n y yg:=by
 have bF:=g.ok
 have fD:=g.type
 rw[hs] at bF fD
 have hr:=h.room
 have hc:=h.cnt
 have hle:=g.le
 have hb:=h.bud
 have hcp:=c.pos
 have Ms:(bV e).s.n=1+c.n+x.n+y.n:=by rw[hs];rfl
 have hxp:=x.pos
 have hyp:=y.pos
 obtain⟨e1,s1,r1⟩:=FH h.sml h.sc (oL bF.1) om
 have t1:=e1.types
 have c1:=e1.count
 simp only[List.length_nil] at c1
 obtain⟨new,hC⟩:=SR h g s1 om om om
 generalize fm (cG m s c.az).1 s on bm (bV e).name T (bV e).rest=Q at hC⊢
 obtain⟨m2,yh,SV⟩:=Q
 dsimp only at hC⊢
 have t3:=hC.ext.types
 have c3:=hC.ext.count
 have IF:=hC.num
 have hlen:new.length<=ld new:=by
  unfold ld
  clear hC c3 IF t3
  induction new with
  |nil=>simp
  |cons t l ih=>simp only[lC,List.map_cons,List.sum_cons];omega
 have hl:=Ay (m:=m2) om
 have tys:(∃X,bM x (fj s)=some X)∧∃Y,bM y (fj s)=some Y:=by
  unfold bM at fD
  cases h1:bM c (fj s) with
  |none=>rw[h1] at fD;cases fD
  |some A=>
   cases h2:bM x (fj s) with
   |none=>rw[h1,h2] at fD;cases fD
   |some B=>
    cases h3:bM y (fj s) with
    |none=>rw[h1,h2,h3] at fD;cases fD
    |some D=>exact⟨⟨B,rfl⟩,⟨D,rfl⟩⟩
 have iG:oM (Mt m2 s yh SV x):=
  ⟨bF.2.1,tys.1,h.sc,by show 5*s.length+2*x.n<=240;omega,by show m2.types.length+0+8*x.n<=990;omega,hC.sml.types,.inl rfl,.inl rfl,hC.bm,hC.on,hl⟩
 refine⟨new,new++[Mt m2 s yh SV x],hC,⟨?_,⟨?_,h.sc,bF.2.2,tys.2,om,?_,hC.on,hC.bm,?_⟩,?_,?_⟩⟩
 ·have he:=e1.trans hC.ext
  rw[List.nil_append] at he
  refine⟨he.blocks,?_,?_,?_,?_⟩
  ·show m2.bW++[_]=_
   rw[he.bW,List.append_assoc]
  ·show m2.count+1=_
   rw[he.count,lA];simp;omega
  ·have:=he.types;exact⟨this.1,by show m2.types.length<=_;omega⟩
  ·have:=he.code
   show(m2.code++[_]).length<=_
   simp only[lA,lC,List.length_nil];omega
 ·have:=nY (m:=m2.lG) (hd:=Fs) (ps:=[bf (cG m s c.az).2,m2.aP]) ⟨hC.sml.types,hC.sml.code⟩ de sm (λp hp=>by
   simp only[mC,List.not_mem_nil,or_false] at hp
   rcases hp with rfl|rfl
   ·have:=my r1;omega
   ·omega)
  exact⟨this.types,this.code⟩
 ·show m2.types.length+_<=_;omega
 ·show m2.count+1+_<=_;omega
 ·intro k hk
  rcases mA.1 hk with hk|hk
  ·exact hC.inv k hk
  ·simp only[List.mem_singleton] at hk;rw[hk];exact iG
 ·rw[FL,Mp]
  show _+(x.n+1)+_+1<=_
  omega
def pe (m:Mk) (ts:List aA):Nat->Mk
 |0=>m
 |k+1=>((pe m ts k).dH (nth ts k).text).cY sF [bf (pe m ts k).types.length,[48],bf k]
def AA (m:Mk) (aP:aj) (regs:List aj) (a b:aj):Mk:=
 let code:=bP [99] regs
 let r:=m.types.length
 (((((m.dH code).cY sD [bf r,aP]).dH (bP [116] [code,b])).cY l5 [bf (r+1),bf r,[48]]).dH a).cY sE [bf (r+2),bf (r+1),a,b]
def oa (m:Mk) (regs:List aj):Mk:={m with code:=[],types:=regs}
def IG (m:Mk) (t:Tk):Mk:=match t.self with
 |[a,b]=>AA m t.aP t.regs a b
 |_=>m
def nj (t:Tk):List aA:=match ba (t.regs.getD 0 [105]) with
 |some x=>x.au.drop 1
 |none=>[]
def qx (m:Mk) (t:Tk):Mk:=IG (pe (oa m t.regs) (nj t) t.loads) t
theorem Mu {t:Tk} (h:t.regs.head?=some (bP [116] (ts.map aA.text))) (hp:ba (bP [116] (ts.map aA.text))=some (we [116] ts)):nj t=ts∧ba (t.regs.getD 0 [105])=some (we [116] ts):=by
 have e:t.regs.getD 0 [105]=bP [116] (ts.map aA.text):=by
  cases hr:t.regs with
  |nil=>rw[hr] at h;cases h
  |cons a l=>rw[hr] at h;simpa using h
 unfold nj
 rw[e,hp]
 exact⟨rfl,rfl⟩
structure BV (m m':Mk) (regs:List aj) (k:Nat):Prop where
 blocks:m'.blocks=m.blocks
 bW:m'.bW=m.bW
 count:m'.count=m.count
 types:m'.types.length=regs.length+k
 code:m'.code.length<=k
 sml:fE m'
theorem Mv {regs:List aj} (h:∀r,r∈regs->r.length<=100000):BV m (oa m regs) regs 0:=⟨rfl,rfl,rfl,rfl,by simp[oa],⟨h,by simp[oa]⟩⟩
theorem Mw {m:Mk} {regs:List aj} (h:∀r,r∈regs->r.length<=100000) (mW:∀t,t∈ts->t.text.length<=100000):∀k,regs.length+k<1000->k<=ts.length->BV m (pe (oa m regs) ts k) regs k
 |0,_,_=>Mv h
 |k+1,hk,hl=>by
  have ih:=Mw (m:=m) h mW k om om
  have d1:=my (n:=(pe (oa m regs) ts k).types.length) (by rw[ih.types];omega)
  have d2:=my (n:=k) om
  refine⟨ih.blocks,ih.bW,ih.count,by show(((pe (oa m regs) ts k).types++[_])).length=_;rw[lA,ih.types];rfl,?_,?_⟩
  ·show((pe (oa m regs) ts k).code++[_]).length<=_
   have:=ih.code
   rw[lA];simp;omega
  ·refine nY (ih.sml.dH ?_) sm sm ?_
   ·have:=mW (nth ts k) (by unfold nth;rw[gG,gE om];exact List.getElem_mem _)
    omega
   ·intro p hp
    simp only[mC,List.not_mem_nil,or_false] at hp
    rcases hp with rfl|rfl|rfl
    ·omega
    ·simp
    ·omega
theorem SW {regs:List aj} (h3:regs.length=3) (h:∀r,r∈regs->r.length<=11200):(bP [99] regs).length<=33610:=by
 have h1:=Av (m:=11200) regs h
 rw[h3] at h1
 rw[lI]
 simp only[lC,List.length_nil];omega
theorem ac0 (a b c d:aj):jZ [a,b,c,d]=4+a.length+b.length+c.length+d.length:=by simp[jZ];omega
theorem ac1 (hm:fE m) {aP:aj} (hl:aP.length<=4) {regs:List aj} (h3:regs.length=3) (h:∀r,r∈regs->r.length<=11200) {b:aj} (ha:a.length<=272) (hb:b.length<=11200) (ht:m.types.length+3<1000):fE (AA m aP regs a b):=by
 have hc:=SW h3 h
 have d1:=my (n:=m.types.length) om
 have d2:=my (n:=m.types.length+1) om
 have d3:=my (n:=m.types.length+2) om
 have hw:(bP [116] [bP [99] regs,b]).length<=45000:=by rw[lI,Ax];simp only[lC,List.length_nil];omega
 unfold AA
 refine fE.cY (fE.dH (nY (fE.dH (nY (fE.dH hm ?_) sm sm ?_) ?_) sm sm ?_) ?_) ?_
 ·omega
 ·intro p hp
  simp only[mC,List.not_mem_nil,or_false] at hp
  rcases hp with rfl|rfl<;>omega
 ·omega
 ·intro p hp
  simp only[mC,List.not_mem_nil,or_false] at hp
  rcases hp with rfl|rfl|rfl
  ·omega
  ·omega
  ·simp
 ·omega
 ·rw[lI,ac0];simp only[lC,List.length_nil];omega
theorem ac2 {m':Mk} {regs:List aj} (h:BV m m' regs k) (aP a b:aj) (hs:fE (AA m' aP regs a b)):BV m (AA m' aP regs a b) regs (k+3):=
 ⟨h.blocks,h.bW,h.count,by have:=h.types;simp[AA,Mk.dH,Mk.cY];omega,by have:=h.code;simp[AA,Mk.dH,Mk.cY];omega,hs⟩
theorem SX {s:aj} (h:s∈ps):s.length<=jZ ps:=by
 unfold jZ
 have:∀{xs:List aj},s∈xs->s.length<=(xs.map List.length).sum:=by
  intro xs
  induction xs with
  |nil=>intro h;cases h
  |cons x xs ih=>
   intro h
   rw[List.map_cons,List.sum_cons]
   rcases mC.1 h with rfl|h
   ·omega
   ·have:=ih h;omega
 have:=this h;omega
theorem Mx {m:Mk} {t:Tk} (h:oM t):BV m (qx m t) t.regs (t.loads+(if t.self=[] then 0 else 3)):=by
 have hr:=h.room
 have hp:=t.expr.pos
 have h1:BV m (pe (oa m t.regs) (nj t) t.loads) t.regs t.loads:=by
  rcases h.loads with h0|⟨ts,hh,hl,FP⟩
  ·rw[h0];exact Mv h.regs
  ·obtain⟨e1,_⟩:=Mu hh FP
   rw[e1]
   refine Mw h.regs (λx hx=>?_) _ om hl
   have h2:=h.regs _ (List.mem_of_mem_head? hh)
   rw[lI] at h2
   have:=SX (List.mem_map_of_mem (f:=aA.text) hx)
   omega
 unfold qx IG
 rcases h.self with h0|⟨a,b,hs,ha,hb,h3,hl⟩
 ·rw[h0,iP rfl];exact h1
 ·rw[hs,iN sm]
  refine ac2 h1 _ _ _ (ac1 h1.sml h.aP h3 hl ha hb ?_)
  rw[h1.types];omega
theorem SY {t:Tk} (h:oM t) (hc:m.count+t.expr.n<=900):nZ (qx m t) t.sc t.on t.bm t.expr:=by
 have hb:=Mx (m:=m) h
 have hr:=h.room
 refine⟨hb.sml,h.sc,h.ok,h.type,h.bud,?_,h.on,h.bm,by rw[hb.count];exact hc⟩
 rw[hb.types]
 split<;>omega
/-! ### A block's body -/
def mz:Nat->At->Ex->Mk
 |0,a,_=>a.m
 |k+1,a,e=>match kF a e with
  | .inl m=>m
  | .inr p=>mz k p.1 p.2
theorem IH (m:Mk) (s:da) (on:Nat) (bm:aj) (g:Goal):Im ⟨m,s,on,bm⟩ g=⟨(fm m s on bm g.name (nW s g.s) g.rest).1,s,(fm m s on bm g.name (nW s g.s) g.rest).2.1,(fm m s on bm g.name (nW s g.s) g.rest).2.2⟩:=by
 unfold Im fm
 split<;>rfl
theorem SZ {on:Nat} {bm:aj} (h:nZ m s on bm e):match kF ⟨m,s,on,bm⟩ e with
  | .inl m'=>∃new,Fin m m' e.n new
  | .inr p=>∃new,On m p.1.m p.1.s p.1.on p.1.bm e.n p.2 new:=by
 obtain⟨T,g⟩:=h.goal
 have hY:=g.nW
 have simple:kF ⟨m,s,on,bm⟩ e=(if(bV e).name=[] then .inl (xX (mZ m s (nW s (bV e).s) (bV e).s).1 on (mZ m s (nW s (bV e).s) (bV e).s).2) else .inr (⟨(mZ m s (nW s (bV e).s) (bV e).s).1,s++[((bV e).name,(mZ m s (nW s (bV e).s) (bV e).s).2,nW s (bV e).s)],on,bm⟩,(bV e).rest))->
   match kF ⟨m,s,on,bm⟩ e with
   | .inl m'=>∃new,Fin m m' e.n new
   | .inr p=>∃new,On m p.1.m p.1.s p.1.on p.1.bm e.n p.2 new:=λhs=>by
  rw[hs,hY]
  by_cases hn:(bV e).name=[]
  ·rw[iP hn];exact acX h g hn
  ·rw[iN hn];exact SS h g hn
 cases hg:(bV e).s with
 |«at» a=>exact simple (by unfold kF;simp only[hg])
 |un a b=>exact simple (by unfold kF;simp only[hg])
 |lt a b c=>exact simple (by unfold kF;simp only[hg])
 |fn a b c d f=>exact simple (by unfold kF;simp only[hg])
 |bi hd f x=>
  by_cases hc:hd=kD
  ·subst hc
   have hs:kF ⟨m,s,on,bm⟩ e= .inl (xW (fm (cG (cG m s f.az).1 s x.az).1 s on bm (bV e).name T (bV e).rest).1 (cG m s f.az).2 (cG (cG m s f.az).1 s x.az).2 (fm (cG (cG m s f.az).1 s x.az).1 s on bm (bV e).name T (bV e).rest).2.1):=by
    unfold kF
    simp only[hg,if_true,IH]
    rw[<-hg,hY]
   rw[hs]
   obtain⟨new,_,hF⟩:=acZ h g hg
   exact⟨new,hF⟩
  ·exact simple (by unfold kF;simp only[hg,iN hc])
 |ite c x y=>
  have hs:kF ⟨m,s,on,bm⟩ e= .inr (⟨FO (fm (cG m s c.az).1 s on bm (bV e).name T (bV e).rest).1 s (fm (cG m s c.az).1 s on bm (bV e).name T (bV e).rest).2.1 (fm (cG m s c.az).1 s on bm (bV e).name T (bV e).rest).2.2 (cG m s c.az).2 x,s,
    (fm (cG m s c.az).1 s on bm (bV e).name T (bV e).rest).2.1,(fm (cG m s c.az).1 s on bm (bV e).name T (bV e).rest).2.2⟩,y):=by
   unfold kF
   simp only[hg,IH]
   rw[<-hg,hY];rfl
  rw[hs]
  obtain⟨_,new,_,hO⟩:=SU h g hg
  exact⟨new,hO⟩
structure wG (m m':Mk) (s:da) (on:Nat) (bm:aj) (n k:Nat) (r:Ex) (new:List Tk):Prop where
 ext:Ext m m' k new
 inv:nZ m' s on bm r
 bW:∀k,k∈new->oM k
 num:ld new+r.n<=n
 steps:k+20*r.n<=20*n
theorem wG.start {on:Nat} {bm:aj} (h:nZ m s on bm e):wG m m s on bm e.n 0 e []:=⟨Ext.refl m,h,sm,by simp[FM],om⟩
theorem wG.step {s2:da} {on yh:Nat} {bm DJ:aj} {r r2:Ex} {new yg:List Tk} (h:wG m m1 s on bm n k r new) (h2:On m1 m2 s2 yh DJ r.n r2 yg):wG m m2 s2 yh DJ n (k+20) r2 (new++yg):=
 ⟨h.ext.trans h2.ext,h2.inv,λt ht=>by rcases mA.1 ht with ht|ht;exact h.bW t ht;exact h2.bW t ht,by rw[FL];have:=h.num;have:=h2.num;omega,by have:=h.steps;have:=h2.num;omega⟩
structure My (m m':Mk) (n:Nat) (new:List Tk):Prop where
 ext:Ext m m' (20*n) new
 sml:fE m'
 inv:∀k,k∈new->oM k
 num:ld new+1<=n
theorem wG.fin {on:Nat} {bm:aj} {r:Ex} {new yg:List Tk} (h:wG m m1 s on bm n k r new) (h2:Fin m1 m2 r.n yg):My m m2 n (new++yg):=by
 have h3:=h.steps
 have h4:=r.pos
 refine⟨(h.ext.trans h2.ext).more om,h2.sml,λt ht=>?_,by rw[FL];have:=h.num;have:=h2.num;omega⟩
 rcases mA.1 ht with ht|ht
 ·exact h.bW t ht
 ·exact h2.inv t ht
theorem II:∀(k:Nat) {m:Mk} {s:da} {on:Nat} {bm:aj} {e:Ex},nZ m s on bm e->e.n<=k->∃new,My m (mz k ⟨m,s,on,bm⟩ e) e.n new
 |0,_,_,_,_,e,_,hk=>absurd hk (by have:=e.pos;omega)
 |k+1,m,s,on,bm,e,h,hk=>by
  have h1:=SZ h
  unfold mz
  cases hs:kF ⟨m,s,on,bm⟩ e with
  |inl m'=>
   rw[hs] at h1
   obtain⟨new,h1⟩:=h1
   exact⟨_,(wG.start h).fin h1⟩
  |inr p=>
   rw[hs] at h1
   obtain⟨⟨m1,s1,uT,ac3⟩,e1⟩:=p
   obtain⟨new,h1⟩:=h1
   dsimp only at h1⊢
   obtain⟨yg,h2⟩:=II k h1.inv (by have:=h1.num;omega)
   have h3:=h1.num
   refine⟨new++yg,(h1.ext.trans h2.ext).more om,h2.sml,λt ht=>?_,by rw[FL];have:=h2.num;omega⟩
   rcases mA.1 ht with ht|ht
   ·exact h1.bW t ht
   ·exact h2.inv t ht
theorem ac4:∀(k:Nat) {m:Mk} {s:da} {on:Nat} {bm:aj} {e:Ex},nZ m s on bm e->e.n<=k->mz k ⟨m,s,on,bm⟩ e=mz e.n ⟨m,s,on,bm⟩ e:=by
 have key:∀(k j:Nat) {m:Mk} {s:da} {on:Nat} {bm:aj} {e:Ex},nZ m s on bm e->e.n<=k->e.n<=j->mz k ⟨m,s,on,bm⟩ e=mz j ⟨m,s,on,bm⟩ e:=by
  intro k
  induction k with
  |zero=>intro j _ _ _ _ e _ hk;have:=e.pos;omega
  |succ k ih=>
   intro j m s on bm e h hk hj
   cases j with
   |zero=>have:=e.pos;omega
   |succ j=>
    have h1:=SZ h
    unfold mz
    cases hs:kF ⟨m,s,on,bm⟩ e with
    |inl m'=>rfl
    |inr p=>
     rw[hs] at h1
     obtain⟨⟨m1,s1,uT,ac3⟩,e1⟩:=p
     obtain⟨new,h1⟩:=h1
     dsimp only at h1⊢
     have h3:=h1.num
     exact ih j h1.inv om om
 exact λk m s on bm e h hk=>key k e.n h hk (lR _)
/-! ### A program -/
def BW (m:Mk) (aP:aj) (regs:List aj):Mk:={m with blocks:=m.blocks++[⟨aP,regs,m.code⟩]}
abbrev sT:aj:=[40,116,41]
def sO (T:Ty):Mk:=
 let on:=dX (bL T)
 let code:=bP [99] [sT,bL T]
 ((((⟨[],[],0,false,[],[sT,code,bP [116] [code,sT],on]⟩:Mk).cY l5 [[48]]).cY sD [[49],Ag]).cY l5 [[50],[49],[48]]).cY sE [[51],[50],on,sT]
def FQ (e:Ex) (T:Ty):Tk:=⟨BN,[],0,[],[],e,3,dX (bL T),0⟩
def rW (e:Ex) (T:Ty):Mk:=mz e.n ⟨sO T,[],3,dX (bL T)⟩ e
def BX (e:Ex) (T:Ty):Mk:=BW {(BW (rW e T) BN []) with code:=[[40,104,97,108,116,32,49,41]]} Ag [sT,bL T]
def DK (m:Mk) (t:Tk):Mk:=BW (mz t.expr.n ⟨qx m t,t.sc,t.on,t.bm⟩ t.expr) t.aP t.regs
def ir (ts:List Tk) (i:Nat):Tk:=ts.getD i ⟨[],[],0,[],[],.at [],0,[],0⟩
def yi:Nat->Mk->Nat->Mk
 |0,m,_=>m
 |k+1,m,i=>if i<m.bW.length then yi k (DK m (ir m.bW i)) (i+1) else m
def ofM (e:Ex) (T:Ty):Mk:=yi 1000 (BX e T) 0
structure rX (m:Mk) (i:Nat):Prop where
 le:i<=m.bW.length
 count:m.count=m.bW.length
 num:i+ld (m.bW.drop i)<=120
 inv:∀t,t∈m.bW.drop i->oM t
 wb:∀b,b∈m.blocks->b.small∧b.aP.length<=10
 bnum:m.blocks.length=i+2
theorem S0 (bF:e.ok) (ht:bM e []=some T) (hn:e.n<=120):nZ (sO T) [] 3 (dX (bL T)) e:=by
 have hT:=l4 (Γ:=[]) (λs T h=>by simp[look] at h) ht
 have h1:=pR hT
 have h2:=tM hT
 have hc:(bP [99] [sT,bL T]).length<=300:=by rw[lI,Ax];simp only[lC,List.length_nil];omega
 have ho:Aw (dX (bL T)):=⟨T,hT,rfl⟩
 refine⟨?_,⟨λs T h=>by simp[fj,look] at h,sm⟩,bF,⟨T,ht⟩,by simp;omega,by simp[sO,Mk.cY];omega,om,ho,by simp[sO,Mk.cY];omega⟩
 unfold sO
 refine nY (nY (nY (nY ⟨?_,sm⟩ sm sm ?_) sm sm ?_) sm sm ?_) sm sm ?_
 ·intro s hs
  simp only[mC,List.not_mem_nil,or_false] at hs
  rcases hs with rfl|rfl|rfl|rfl
  ·simp
  ·omega
  ·rw[lI,Ax];simp only[lC,List.length_nil];omega
  ·omega
 all_goals
  intro p hp
  simp only[mC,List.not_mem_nil,or_false] at hp
  first
  |(rcases hp with rfl|rfl|rfl|rfl<;>first|omega|simp)
  |(rcases hp with rfl|rfl|rfl<;>first|omega|simp)
  |(rcases hp with rfl|rfl<;>first|omega|simp)
  |(rw[hp];simp)
theorem S1 (bF:e.ok) (ht:bM e []=some T) (hn:e.n<=120):∃new,My (sO T) (rW e T) e.n new:=II _ (S0 bF ht hn) (lR _)
theorem S2 (ts:List Tk):ts.length<=ld ts:=by
 unfold ld
 induction ts with
 |nil=>simp
 |cons t l ih=>simp only[lC,List.map_cons,List.sum_cons];omega
theorem ac5 (m:Mk) (l:aj) (r:List aj):(BW m l r).blocks=m.blocks++[⟨l,r,m.code⟩]:=rfl
theorem Mz (bF:e.ok) (ht:bM e []=some T) (hn:e.n<=120):rX (BX e T) 0:=by
 obtain⟨new,h⟩:=S1 bF ht hn
 have h1:=h.ext.bW
 have h2:=h.ext.count
 have h3:=h.num
 have h4:=h.ext.code
 have h5:=h.ext.blocks
 have hb:(BX e T).blocks=[⟨BN,[],(rW e T).code⟩,⟨Ag,[sT,bL T],[[40,104,97,108,116,32,49,41]]⟩]:=by
  unfold BX
  rw[ac5]
  show(rW e T).blocks++_++_=_
  rw[h5];rfl
 have ox:(BX e T).bW=new:=by
  show(rW e T).bW=new
  rw[h1];rfl
 refine⟨Nat.zero_le _,?_,?_,?_,?_,by rw[hb];rfl⟩
 ·rw[ox]
  show(rW e T).count=_
  rw[h2];simp[sO,Mk.cY]
 ·rw[ox,List.drop_zero];omega
 ·rw[ox,List.drop_zero];exact h.inv
 ·intro b gx
  rw[hb] at gx
  have h6:(sO T).code.length=4:=rfl
  simp only[mC,List.not_mem_nil,or_false] at gx
  rcases gx with rfl|rfl
  ·exact⟨⟨by simp,sm,by show(rW e T).code.length<_;omega⟩,sm⟩
  ·exact⟨⟨by simp,sm,sm⟩,sm⟩
theorem IJ {ts:List Tk} (hi:i<ts.length):ts.drop i=ir ts i::ts.drop (i+1):=by
 rw[List.drop_eq_getElem_cons hi]
 simp[ir,gE hi]
theorem rX.task (h:rX m i) (hi:i<m.bW.length):oM (ir m.bW i)∧m.count+(ir m.bW i).expr.n<=900∧m.bW.length<=120:=by
 have h1:=h.num
 have hl:=S2 (m.bW.drop i)
 rw[List.length_drop] at hl
 have h2:ld (m.bW.drop i)=(ir m.bW i).expr.n+1+ld (m.bW.drop (i+1)):=by rw[IJ hi];simp[ld]
 have h3:=h.count
 exact⟨h.inv _ (by rw[IJ hi];simp),om,om⟩
theorem rX.step (h:rX m i) (hi:i<m.bW.length):rX (DK m (ir m.bW i)) (i+1):=by
 obtain⟨hT,hc,_⟩:=h.task hi
 have h1:=h.num
 have h2:ld (m.bW.drop i)=(ir m.bW i).expr.n+1+ld (m.bW.drop (i+1)):=by rw[IJ hi];simp[ld]
 have hb:=Mx (m:=m) hT
 obtain⟨new,hF⟩:=II _ (SY hT hc) (lR _)
 have e1:=hF.ext.bW
 have e2:=hF.ext.count
 have e3:=hF.ext.code
 have e4:=hF.ext.blocks
 have e5:=hF.num
 have hbc:=hb.code
 rw[hb.bW] at e1
 rw[hb.count] at e2
 rw[hb.blocks] at e4
 have hr:=hT.room
 have hd:(m.bW++new).drop (i+1)=m.bW.drop (i+1)++new:=by rw[List.drop_append_of_le_length hi]
 have ht:(DK m (ir m.bW i)).bW=m.bW++new:=e1
 refine⟨by rw[ht,lA];omega,?_,?_,?_,?_,?_⟩
 ·rw[ht,lA,<-h.count];exact e2
 ·rw[ht,hd,FL];omega
 ·intro t DL
  rw[ht,hd] at DL
  rcases mA.1 DL with DL|DL
  ·exact h.inv t (by rw[IJ hi];simp[DL])
  ·exact hF.inv t DL
 ·intro b gx
  have DM:b∈m.blocks++[⟨(ir m.bW i).aP,(ir m.bW i).regs,(mz (ir m.bW i).expr.n ⟨qx m (ir m.bW i),(ir m.bW i).sc,(ir m.bW i).on,(ir m.bW i).bm⟩ (ir m.bW i).expr).code⟩]:=by rw[<-e4];exact gx
  rcases mA.1 DM with DM|DM
  ·exact h.wb b DM
  ·simp only[List.mem_singleton] at DM
   rw[DM]
   have hl:=hT.aP
   refine⟨⟨by show(ir m.bW i).aP.length<_;omega,by show(ir m.bW i).regs.length<_;omega,?_⟩,by show(ir m.bW i).aP.length<=_;omega⟩
   refine Nat.lt_of_le_of_lt e3 ?_
   have:(if(ir m.bW i).self=[] then 0 else 3)<=3:=by split<;>omega
   omega
 ·show((mz _ _ _).blocks++[_]).length=_
  rw[e4,lA,h.bnum];rfl
theorem S3 (h:¬i<m.bW.length):∀k,yi k m i=m
 |0=>rfl
 |k+1=>by unfold yi;rw[iN h]
theorem S4 (h:i<m.bW.length) (k:Nat):yi (k+1) m i=yi k (DK m (ir m.bW i)) (i+1):=by
 rw[yi,iP h]
theorem rX.small (h:rX m i):xO m.blocks:=by
 have h1:=h.num
 refine⟨by rw[h.bnum];omega,λj hj=>(h.wb _ ?_).1⟩
 unfold bz
 rw[gG,gE hj];exact List.getElem_mem hj
theorem rX.labels (h:rX m i):∀b,b∈m.blocks->b.aP.length<=10:=λb hb=>(h.wb b hb).2
theorem AB (h:aj):(iA h=true∧gT h=false∧h≠cC∧h≠gQ∧h≠il∧eX h=(1,3))∨(iA h=false∧gT h=false∧h=cC∧eX h=(1,4))∨
  (iA h=false∧gT h=false∧h=gQ∧eX h=(2,4))∨(iA h=false∧gT h=false∧h=il∧eX h=(5,6))∨(iA h=false∧gT h=true∧h≠cC∧h≠gQ∧h≠il∧eX h=(1,2))∨
  (iA h=false∧gT h=false∧h≠cC∧h≠gQ∧h≠il∧eX h=(0,0)):=by
 by_cases hb:iA h=true
 ·left
  have hk:eX h=(1,3):=by unfold eX;rw[iP hb]
  have aZ:=hb
  simp only[iA,oE,dE] at aZ
  rcases aZ with(((e|e)|e)|e)|e<;>subst e<;>refine⟨rfl,rfl,by decide,by decide,by decide,hk⟩
 ·have gW:iA h=false:=by simpa using hb
  right
  by_cases h1:h=cC
  ·left;exact⟨gW,by rw[h1];rfl,h1,by rw[h1];rfl⟩
  ·right
   by_cases h2:h=gQ
   ·left;exact⟨gW,by rw[h2];rfl,h2,by rw[h2];rfl⟩
   ·right
    by_cases h3:h=il
    ·left;exact⟨gW,by rw[h3];rfl,h3,by rw[h3];rfl⟩
    ·right
     by_cases h4:gT h=true
     ·left;exact⟨gW,h4,h1,h2,h3,by unfold eX;rw[iN hb,iN h1,iN h2,iN h3,iP h4]⟩
     ·right;exact⟨gW,by simpa using h4,h1,h2,h3,by unfold eX;rw[iN hb,iN h1,iN h2,iN h3,iN h4]⟩
theorem IK:eX cC=(1,4)∧eX gQ=(2,4)∧eX il=(5,6)∧gT cC=false∧gT gQ=false∧gT il=false∧iA cC=false∧iA gQ=false∧iA il=false:=⟨rfl,rfl,rfl,rfl,rfl,rfl,rfl,rfl,rfl⟩
def DN (ps:List aA):Bool:=(decide ((eX (nth ps 0).az).1<=1)||eP (nth ps 1).az)&&
 (decide ((eX (nth ps 0).az).1≠5)||(eP (nth ps 2).az&&decide ((nth ps 1).az≠(nth ps 2).az)&&kq (nth ps 3)&&kq (nth ps 4)))
theorem ac6 (ps:List aA):nS ps=(decide ((eX (nth ps 0).az).1≠0)&&decide (ps.length=(eX (nth ps 0).az).2)&&DN ps&&(ps.drop (eX (nth ps 0).az).1).all dU):=by
 unfold DN
 match ps with
 |[]=>simp[nS,nth,aA.az,eX,iA,gT]
 |[h]=>rcases AB h.az with⟨h1,h2,h3,h4,h5,hk⟩|⟨h1,h2,h3,hk⟩|⟨h1,h2,h3,hk⟩|⟨h1,h2,h3,hk⟩|⟨h1,h2,h3,h4,h5,hk⟩|⟨h1,h2,h3,h4,h5,hk⟩<;>simp[nS,nth,hk]
 |[h,a]=>rcases AB h.az with⟨h1,h2,h3,h4,h5,hk⟩|⟨h1,h2,h3,hk⟩|⟨h1,h2,h3,hk⟩|⟨h1,h2,h3,hk⟩|⟨h1,h2,h3,h4,h5,hk⟩|⟨h1,h2,h3,h4,h5,hk⟩<;>simp[nS,nth,hk,h1,h2,h3,IK]
 |[h,a,b]=>rcases AB h.az with⟨h1,h2,h3,h4,h5,hk⟩|⟨h1,h2,h3,hk⟩|⟨h1,h2,h3,hk⟩|⟨h1,h2,h3,hk⟩|⟨h1,h2,h3,h4,h5,hk⟩|⟨h1,h2,h3,h4,h5,hk⟩<;>simp[nS,nth,hk,h1,h2,h3,IK]
 |[h,a,b,c]=>rcases AB h.az with⟨h1,h2,h3,h4,h5,hk⟩|⟨h1,h2,h3,hk⟩|⟨h1,h2,h3,hk⟩|⟨h1,h2,h3,hk⟩|⟨h1,h2,h3,h4,h5,hk⟩|⟨h1,h2,h3,h4,h5,hk⟩<;>simp[nS,nth,hk,h1,h2,h3,IK]<;>try simp[*]
 |[h,a,b,c,d]=>rcases AB h.az with⟨h1,h2,h3,h4,h5,hk⟩|⟨h1,h2,h3,hk⟩|⟨h1,h2,h3,hk⟩|⟨h1,h2,h3,hk⟩|⟨h1,h2,h3,h4,h5,hk⟩|⟨h1,h2,h3,h4,h5,hk⟩<;>simp[nS,nth,hk]
 |[h,a,b,c,d,e]=>rcases AB h.az with⟨h1,h2,h3,h4,h5,hk⟩|⟨h1,h2,h3,hk⟩|⟨h1,h2,h3,hk⟩|⟨h1,h2,h3,hk⟩|⟨h1,h2,h3,h4,h5,hk⟩|⟨h1,h2,h3,h4,h5,hk⟩<;>simp[nS,nth,hk,h3,IK]<;>try simp[*,Bool.and_assoc]
 |h::a::b::c::d::e::f::r=>rcases AB h.az with⟨h1,h2,h3,h4,h5,hk⟩|⟨h1,h2,h3,hk⟩|⟨h1,h2,h3,hk⟩|⟨h1,h2,h3,hk⟩|⟨h1,h2,h3,h4,h5,hk⟩|⟨h1,h2,h3,h4,h5,hk⟩<;>simp[nS,nth,hk]<;>omega
theorem S5 (t:aA):dU t=if t.az≠[] then qo t.az else nS t.au:=by cases t with|mk a ps=>rw[dU];rfl
theorem ac7 {t:aA} (ha:t.az=[]):dU t=(decide ((eX (nth t.au 0).az).1≠0)&&decide (t.au.length=(eX (nth t.au 0).az).2)&&DN t.au&&(t.au.drop (eX (nth t.au 0).az).1).all dU):=by
 rw[S5,iN (by simp[ha]),ac6]
theorem S6 (ps:List aA):sC ps=(decide (ps.length=3)&&(decide ((nth ps 0).az=[62])||decide ((nth ps 0).az=[42]))&&(o4 (nth ps 1)&&o4 (nth ps 2))):=by
 match ps with
 |[]=>simp[sC]
 |[h]=>simp[sC]
 |[h,a]=>simp[sC]
 |[h,a,b]=>simp[sC,nth]
 |h::a::b::c::r=>simp[sC]
/-! ### Texts -/
def wH (s:aj):Bool:=match ba s with
 |some t=>kq t
 |none=>false
theorem S7 {s:aj}:wH s=true↔∃T:Ty,T.n<=16∧s=T.text:=by
 unfold wH
 constructor
 ·intro h
  cases hp:ba s with
  |none=>rw[hp] at h;cases h
  |some t=>
   rw[hp] at h
   obtain⟨u,rfl,hu⟩:=(xT (tu hp)).1 h
   exact⟨u,hu,((BF hp).2.2.1).symm⟩
 ·rintro⟨T,hT,rfl⟩
  rw[Ty.ba om]
  exact(xT T.oF.wf).2 ⟨T,rfl,hT⟩
theorem S8:wH T.text=decide (T.n<=16):=by
 by_cases h:T.n<=16
 ·rw[dT h];exact S7.2 ⟨T,h,rfl⟩
 ·rw[dF h]
  cases hs:wH T.text with
  |false=>rfl
  |true=>obtain⟨U,hU,e⟩:=S7.1 hs;rw[Ty.inj e] at h;exact absurd hU h
def BY (s sg:aj):Option (Ty×Ty)->Prop
 |some (a,b)=>∃f,sg=ko f∧s=(Ty.op f a b).text∧(Ty.op f a b).n<=16
 |none=>∀f a b,sg=ko f->s=(Ty.op f a b).text->¬(Ty.op f a b).n<=16
def IL (t:aA):Bool:=dU t&&decide (fP t<=120)
def mB (s:aj):Bool:=match ba s with
 |some t=>IL t
 |none=>false
theorem ac8 {t:aA} (hw:WF t):IL t=true↔∃e:Ex,t=e.av∧e.ok∧e.n<=120:=by
 unfold IL
 rw[aE,dE,acb hw]
 constructor
 ·rintro⟨⟨e,rfl,h⟩,hn⟩;exact⟨e,rfl,h,by rw[Ex.fP h] at hn;exact hn⟩
 ·rintro⟨e,rfl,h,hn⟩;exact⟨⟨e,rfl,h⟩,by rw[Ex.fP h];exact hn⟩
theorem wI {s:aj}:mB s=true↔∃e:Ex,ba s=some e.av∧e.ok∧e.n<=120:=by
 unfold mB
 cases hp:ba s with
 |none=>simp
 |some t=>simp only[Option.some.injEq];exact ac8 (tu hp)
theorem S9 {ps:List aA} (i:Nat):jN (ps.take i)<=jN ps:=by
 conv=>rhs;rw[<-List.take_append_drop i ps,Ly]
 omega
theorem ac9 (t:aA):jN t.au<=t.size:=by
 cases t with
 |mk a ps=>have:=LA ps;simp only[aA.size,aA.au];omega
theorem Ta:∀(m:Nat) (t:aA),t.size<=m->t.size<=10000000->WF t->∀(v:Value) (L:List Nat) (w:World),bS L w v t->
  bZ Tryz.prog 107 [v] w λr w'=>r= .int .i64 (fP t:Int)∧ak [] w w':=by
 intro m
 induction m with
 |zero=>intro t h;have:=xJ t;omega
 |succ m ih=>
  intro t hm mW dx v L w hv
  obtain⟨a,n,c,rfl,hn,bc⟩:=dN hv
  subst hn
  have oX:=xI t
  have hhs:=ac9 t
  have hK:=ak.refl [] w
  refine cU [.tmp 2] 24 Tryz.func107 rfl XR rfl rfl ?_
  refine zr<|fA rfl ?_
  intro w1 aJ aU dV
  have hK:=hK.ext aJ
  refine zA<|ag<|aQ<|zr<|zf dB rfl<|zl cg rfl (aU.at rfl)<|jF rfl rfl rfl rfl<|ag<|zc rfl (λh1=>?_) (λh1=>?_)
  have hq:fP t=1:=by rw[Lz,iP h1]
  refine zr<|zA<|ag<|aV ?_
  exact⟨_,rfl,by rw[hq];rfl,hK⟩
  have hq:fP t=jN t.au:=by rw[Lz,iN h1]
  refine bA<|zr<|zA<|ag<|aQ<|zr<|zA<|ag<|cP ?_
  refine fZ (λk:Nat=>[(1,.pointer (some ⟨w.heap.size,0,none⟩)),(3,.int .i64 ((jN (t.au.take k):Nat):Int)),(4,.int .i64 (k:Int))]) (λk w'=>ak [] w w'∧aY w' w.heap.size [str t.az,.slice a t.au.length c].toArray 66∧k<=t.au.length) (λk=>t.au.length-k) (0) (⟨rfl,rfl,rfl⟩) (⟨hK,aU,om⟩) ?_
  intro gg w2 e2 hI
  obtain⟨hK,aU,hk⟩:=hI
  refine aQ<|zr<|zm<|zf cM rfl<|zl cK rfl (aU.at rfl)<|eh cw rfl<|fJ rfl rfl rfl<|ag<|zc rfl (λh2=>?_) (λh2=>?_)
  have gh:=iM (ps:=t.au) (i:=gg) om
  obtain⟨b1,ga,pa,pn,pc,rfl,kS,fR,iy⟩:=j8 bc gh
  subst fR
  have BH:=dx.nth (i:=gg) om
  have ow:=lX (t:=t) (i:=gg) om
  have bg:=RA gh
  have hle:=S9 (ps:=t.au) (gg+1)
  refine bA<|aQ<|cP<|db<|zm<|zf cM rfl<|zl cK rfl (aU.at rfl)<|zm<|zi cw aH rfl rfl om<|zL bT aH rfl (kS.ext hK) rfl<|aC (ih (nth t.au gg) om om BH _ L w2 ((mS iy).ext hK)) ?_
  rintro v3 w3 ⟨et,aK⟩
  have gd:=aK.size
  have hK:=hK.ext aK;have aU:=aU.ext aK
  obtain rfl:=et
  refine eE rfl rfl rfl (wrap_i64 _ om om)<|zA<|ag<|db<|zm<|eE rfl rfl rfl (wrap_i64 _ om om)<|zA<|ag ?_
  exact⟨gg+1,⟨rfl,congrArg (Value.int .i64) om,rfl⟩,⟨hK,aU,om⟩,om⟩
  have gJ:gg=t.au.length:=by omega
  subst gJ
  refine gF<|gH rfl<|zr<|zm<|zA<|ag<|aV ?_
  exact⟨_,rfl,by rw[hq,List.take_length];rfl,hK⟩
theorem ada:∀(m:Nat) (t:aA),t.size<=m->t.size<=10000000->WF t->∀(v:Value) (L:List Nat) (w:World),bS L w v t->
  bZ Tryz.prog 181 [v] w λr w'=>r= .bool (o4 t)∧ak [] w w':=by
 intro m
 induction m with
 |zero=>intro t h;have:=xJ t;omega
 |succ m ih=>
  intro t hm mW dx v L w hv
  obtain⟨a,n,c,rfl,hn,bc⟩:=dN hv
  subst hn
  have hK:=ak.refl [] w
  have oX:=xI t
  refine cU [.tmp 2] 41 Tryz.func181 rfl YP rfl rfl ?_
  refine zr<|fA rfl ?_
  intro w1 aJ aU dV
  have hK:=hK.ext aJ;have bc:=bc.ext aJ
  refine zA<|ag<|aQ<|zr<|zf dB rfl<|zl cg rfl (aU.at rfl)<|jF rfl rfl rfl rfl<|ag<|zc rfl (λh1=>?_) (λh1=>?_)
  have hq:o4 t=decide (t.az=[105]):=by rw[RB,iP h1]
  refine zr<|zf dB rfl<|zl cg rfl (aU.at rfl)<|cW rfl rfl<|zA<|ag<|aV ?_
  exact⟨_,rfl,by rw[hq];rfl,hK⟩
  have ha:t.az=[]:=Classical.not_not.1 h1
  have kR:=dx.pos ha
  have hq:o4 t=sC t.au:=by rw[RB,iN (λh=>h ha)]
  obtain⟨b,off,pa,pn,pc,rfl,er,fR,iy⟩:=j8 bc (iM kR)
  refine bA<|aQ<|zr<|zf cM rfl<|zl cK rfl (aU.at rfl)<|eh cw rfl<|ur rfl rfl rfl rfl rfl<|zm ?_
  apply fo 15 13 28 [13,14,15,16,17,18,19,20,21,22,23,24,25,26,27,28] (λw'=>w1=w') rfl
  intro h2
  replace h2:=bu h2
  refine zs<|zs<|zs<|zs<|zs<|zs<|zs<|zs<|zs<|zs<|zs<|zs<|zs<|zs<|zp rfl<|ag ?_
  exact mg rfl rfl
  intro h2
  replace h2:=bu h2
  refine zf cM rfl<|zl cK rfl (aU.at rfl)<|zi (i:=0) cw aH rfl rfl om<|zf dB rfl<|zl cg rfl (er 0 _ rfl)<|jF rfl rfl rfl rfl<|zm ?_
  apply fU 7 20 27 [20,21,22,23,24,25,26,27] (λw'=>w1=w') rfl
  intro h3
  replace h3:=bu h3
  refine zf cM rfl<|zl cK rfl (aU.at rfl)<|zi (i:=0) cw aH rfl rfl om<|zf dB rfl<|zl cg rfl (er 0 _ rfl)<|jF rfl rfl rfl rfl<|zp rfl<|ag ?_
  exact mg rfl rfl
  intro h3
  replace h3:=bu h3
  refine zs<|zs<|zs<|zs<|zs<|zs<|zp rfl<|ag ?_
  exact mg rfl rfl
  rintro xx _ rfl
  refine zp rfl<|ag ?_
  exact mg rfl rfl
  rintro xx _ rfl
  refine ag<|zc rfl (λh4=>?_) (λh4=>?_)
  have hz:sC t.au=false:=by rw[S6];simp only[oE,aE,dE] at h4;rcases h4 with h|⟨h1,h2⟩;(·rw[dF om];rfl);(·rw[dF h1,dF h2];simp)
  refine zr<|zA<|ag<|aV ?_
  exact⟨_,rfl,by rw[hq,hz];rfl,hK⟩
  simp only[Bool.or_eq_false_iff,Bool.and_eq_false_iff,decide_eq_false_iff_not,Classical.not_not] at h4
  obtain⟨h31,Tb⟩:=h4
  have h3:t.au.length=3:=om
  have oK:sC t.au=(o4 (nth t.au 1)&&o4 (nth t.au 2)):=by rw[S6,dT h3];rcases Tb with h|h<;>rw[h]<;>rfl
  obtain⟨b1,ga,gY,qT,gZ,e1,bC,sv,oY⟩:=j8 bc (iM (i:=1) om)
  cases e1
  subst sv
  obtain⟨b2,nk,jc,AD,jd,e2,bX,IM,MA⟩:=j8 bc (iM (i:=2) om)
  cases e2
  subst IM
  have dy:=lX (t:=t) (i:=1) om
  have dR:=lX (t:=t) (i:=2) om
  have dd:=mS oY
  have eA:=mS MA
  refine bA<|zr<|zf cM rfl<|zl cK rfl (aU.at rfl)<|zi (i:=1) cw aH rfl rfl om<|zL bT aH rfl bC rfl<|aC (ih (nth t.au 1) om om (dx.nth om) _ L w1 dd) ?_
  rintro v2 w2 ⟨dz,aq⟩
  have dR:=aq.size
  have hK:=hK.ext aq;have aU:=aU.ext aq;have bX:=bX.ext aq;have eA:=eA.ext aq
  obtain rfl:=dz
  refine zm ?_
  apply fU 6 34 40 [34,35,36,37,38,39,40] (ak [] w2) rfl
  intro h5
  replace h5:=bu h5
  have FT:=ak.refl [] w2
  refine zf cM rfl<|zl cK rfl (aU.at rfl)<|zi (i:=2) cw aH rfl rfl om<|zL bT aH rfl bX rfl<|aC (ih (nth t.au 2) om om (dx.nth om) _ L w2 eA) ?_
  rintro v3 w3 ⟨et,aK⟩
  have gd:=aK.size
  have FT:=FT.ext aK
  obtain rfl:=et
  refine zp rfl<|ag ?_
  exact mg rfl FT
  intro h5
  replace h5:=bu h5
  have FT:=ak.refl [] w2
  refine zs<|zs<|zs<|zs<|zs<|zp rfl<|ag ?_
  exact mg rfl FT
  intro xx w3 aK
  have hK:=hK.ext aK
  refine zA<|ag<|aV ?_
  exact⟨_,rfl,by rw[hq,oK];rfl,hK⟩
theorem AE (t:aA) (mW:t.size<=10000000) (dx:WF t) (v:Value) (L:List Nat) (w:World) (hv:bS L w v t):
  bZ Tryz.prog 141 [v] w λr w'=>r= .bool (kq t)∧ak [] w w':=by
 have dI:=hv
 obtain⟨a,n,c,rfl,hn,bc⟩:=dN hv
 have hK:=ak.refl [] w
 refine cU [.tmp 2] 10 Tryz.func141 rfl Yn rfl rfl ?_
 refine zr<|fA rfl ?_
 intro w1 aJ aU dV
 have hK:=hK.ext aJ;have dI:=dI.ext aJ
 refine zA<|ag<|zr<|zL bT aH rfl aU.all rfl<|aC (ada t.size t (lR _) mW dx _ L w1 dI) ?_
 rintro v2 w2 ⟨dz,aq⟩
 have dR:=aq.size
 have hK:=hK.ext aq;have dI:=dI.ext aq;have aU:=aU.ext aq
 obtain rfl:=dz
 refine zm ?_
 apply fU 4 5 9 [5,6,7,8,9] (ak [] w2) rfl
 intro h1
 replace h1:=bu h1
 have uV:=ak.refl [] w2
 refine zL bT aH rfl aU.all rfl<|aC (Ta t.size t (lR _) mW dx _ L w2 dI) ?_
 rintro v3 w3 ⟨et,aK⟩
 have gd:=aK.size
 have uV:=uV.ext aK
 obtain rfl:=et
 refine qN rfl rfl rfl rfl rfl<|zp rfl<|ag ?_
 exact mg rfl uV
 intro h1
 replace h1:=bu h1
 have uV:=ak.refl [] w2
 refine zs<|zs<|zs<|zp rfl<|ag ?_
 exact mg rfl uV
 intro xx w3 aK
 have hK:=hK.ext aK
 refine zA<|ag<|aV ?_
 exact⟨_,rfl,congrArg Value.bool (show _=kq t from by unfold kq;congr 1;exact decide_eq_decide.2 om),hK⟩
theorem adb {s:aj} {t:aA} (h:Dr s t):((ba s).isSome&&kq t)=wH s:=by
 unfold wH
 cases hp:ba s with
 |none=>rfl
 |some u=>rw[h.1 u hp];rfl
theorem MB (s:aj) (w:World):bZ Tryz.prog 187 [str s] w λr w'=>r= .bool (wH s)∧ak [] w w':=by
 have hK:=ak.refl [] w
 refine cU [.tmp 2] 15 Tryz.func187 rfl YV rfl rfl ?_
 refine zr<|zA<|ag<|zr<|zm<|aC (H5 s [] w sm) ?_
 rintro v1 w1 ⟨fO,aJ⟩
 have dy:=aJ.size
 have hK:=hK.ext aJ
 obtain⟨t,tv,rfl,ht,hp⟩:=fO
 obtain⟨pa,pn,pc,rfl,fR,bc⟩:=dN ht
 refine zm<|zx (i:=0) rfl rfl<|zx (i:=1) rfl rfl<|eC aH rfl rfl rfl ?_
 intro w2 aq bO eK
 have hK:=hK.grow;have hK:=hK.ext aq;have ht:=ht.grow;have ht:=ht.ext aq
 refine dk aH rfl rfl rfl bO rfl ?_
 intro w3 aK bO iK
 have hK:=hK.aL aK sx;have ht:=ht.aL aK sx
 refine zA<|ag<|zr<|zm<|zm ?_
 apply fU 3 11 14 [11,12,13,14] (ak [] w3) rfl
 intro h1
 replace h1:=bu h1
 have lZ:=ak.refl [] w3
 obtain⟨u,hu⟩:=Option.isSome_iff_exists.1 h1
 have e:=hp.1 u hu
 subst e
 refine zL bT aH rfl bO.all rfl<|aC (AE t (by have:=By hu;omega) (tu hu) _ _ w3 ht) ?_
 rintro v4 w4 ⟨eJ,aD⟩
 have gK:=aD.size
 have lZ:=lZ.ext aD
 obtain rfl:=eJ
 refine zp rfl<|ag ?_
 exact mg rfl lZ
 intro h1
 replace h1:=bu h1
 have lZ:=ak.refl [] w3
 refine zs<|zs<|zp rfl<|ag ?_
 exact mg rfl lZ
 intro xx w4 aD
 have hK:=hK.ext aD
 refine zA<|ag<|aV ?_
 exact⟨_,rfl,congrArg Value.bool (adb hp),hK⟩
def sP:Option (Ty×Ty)->aj
 |some p=>p.1.text
 |none=>[]
def yj:Option (Ty×Ty)->aj
 |some p=>p.2.text
 |none=>[]
def MC (o:Option (Ty×Ty)):Value:=.tuple #[str (sP o),str (yj o),.bool o.isSome]
theorem ade {s sg:aj} {t:aA} (hp:Dr s t) (h:(((!(ba s).isSome||!kq t)||decide (t.az≠[]))||decide ((nth t.au 0).az≠sg))=true):BY s sg none:=by
 intro f a b e1 e2 hn
 have bc:ba s=some (Ty.op f a b).av:=by rw[e2];exact Ty.ba om
 have e:=hp.1 _ bc
 subst e
 have ht:kq (Ty.op f a b).av=true:=(xT (tu bc)).2 ⟨_,rfl,hn⟩
 rw[bc,ht] at h
 simp[Ty.av,aA.az,aA.au,nth,cj,e1] at h
theorem adf {s sg:aj} {t:aA} (hp:Dr s t) (h:(((!(ba s).isSome||!kq t)||decide (t.az≠[]))||decide ((nth t.au 0).az≠sg))=false):∃f A B,t=(Ty.op f A B).av∧(Ty.op f A B).n<=16∧BY s sg (some (A,B)):=by
 simp only[Bool.or_eq_false_iff,Bool.not_eq_false',decide_eq_false_iff_not,Classical.not_not] at h
 obtain⟨⟨⟨h1,h2⟩,h3⟩,h4⟩:=h
 obtain⟨u,hu⟩:=Option.isSome_iff_exists.1 h1
 have e:=hp.1 u hu
 subst e
 obtain⟨T,rfl,hn⟩:=(xT (tu hu)).1 h2
 cases T with
 |i=>simp[Ty.av,cj,aA.az] at h3
 |op f A B=>exact⟨f,A,B,rfl,hn,f,by rw[<-h4];rfl,(BF hu).2.2.1.symm,hn⟩
theorem Tc (s sg:aj) (w:World):bZ Tryz.prog 189 [str s,str sg] w λr w'=>(∃o,BY s sg o∧r=MC o)∧ak [] w w':=by
 have hK:=ak.refl [] w
 refine cU [.tmp 4,.tmp 5,.tmp 6] 45 Tryz.func189 rfl YW rfl rfl ?_
 refine zr<|zA<|zA<|zA<|ag<|zr<|zm<|aC (H5 s [] w sm) ?_
 rintro v1 w1 ⟨fO,aJ⟩
 have dy:=aJ.size
 have hK:=hK.ext aJ
 obtain⟨t,tv,rfl,ht,hp⟩:=fO
 obtain⟨pa,pn,pc,rfl,fR,bc⟩:=dN ht
 subst fR
 refine zm<|zx (i:=0) rfl rfl<|zx (i:=1) rfl rfl<|eC aH rfl rfl rfl ?_
 intro w2 aq cH eK
 have hK:=hK.grow;have hK:=hK.ext aq;have ht:=ht.grow;have ht:=ht.ext aq;have bc:=bc.grow;have bc:=bc.ext aq
 refine dk aH rfl rfl rfl cH rfl ?_
 intro w3 aK cH iK
 have hK:=hK.aL aK sx;have ht:=ht.aL aK sx;have bc:=bc.aL aK sx
 refine zA<|ag<|aQ<|zr<|zm<|eH rfl<|zm ?_
 apply fo 4 16 20 [16,17,18,19,20] (ak [] w3) rfl
 intro h1
 replace h1:=bu h1
 have FU:=ak.refl [] w3
 refine zs<|zs<|zs<|zp rfl<|ag ?_
 exact mg rfl FU
 intro h1
 replace h1:=bu h1
 have FU:=ak.refl [] w3
 obtain⟨u,hu⟩:=Option.isSome_iff_exists.1 h1
 have e:=hp.1 u hu
 subst e
 refine zL bT aH rfl cH.all rfl<|aC (AE t (by have:=By hu;omega) (tu hu) _ _ w3 ht) ?_
 rintro v4 w4 ⟨eJ,aD⟩
 have gK:=aD.size
 have FU:=FU.ext aD
 obtain rfl:=eJ
 refine eH rfl<|zp rfl<|ag ?_
 exact mg rfl FU
 intro xx w5 aT
 have hK:=hK.ext aT;have bc:=bc.ext aT;have cH:=cH.ext aT
 refine zm ?_
 apply fo 4 21 25 [21,22,23,24,25] (λw'=>w5=w') rfl
 intro h2
 replace h2:=bu h2
 refine zs<|zs<|zs<|zp rfl<|ag ?_
 exact mg rfl rfl
 intro h2
 replace h2:=bu h2
 refine zf dB rfl<|zl cg rfl (cH.at rfl)<|jF rfl rfl rfl rfl<|zp rfl<|ag ?_
 exact mg rfl rfl
 rintro xx _ rfl
 refine zm ?_
 apply fo 8 26 34 [26,27,28,29,30,31,32,33,34] (λw'=>w5=w') rfl
 intro h3
 replace h3:=bu h3
 refine zs<|zs<|zs<|zs<|zs<|zs<|zs<|zp rfl<|ag ?_
 exact mg rfl rfl
 intro h3
 replace h3:=bu h3
 simp only[Bool.or_eq_false_iff,Bool.not_eq_false',decide_eq_false_iff_not,Classical.not_not] at h3
 obtain⟨⟨q1,q2⟩,q3⟩:=h3
 obtain⟨u,hu⟩:=Option.isSome_iff_exists.1 q1
 have e:=hp.1 u hu
 subst e
 have kR:=(tu hu).pos q3
 obtain⟨b0,AF,qa,qn,qc,e0,er,_,_⟩:=j8 bc (iM kR)
 subst e0
 refine zf cM rfl<|zl cK rfl (cH.at rfl)<|zi (i:=0) cw aH rfl rfl om<|zf dB rfl<|zl cg rfl (er 0 _ rfl)<|zm<|jF rfl rfl rfl rfl<|zp rfl<|ag ?_
 exact mg rfl rfl
 rintro xx _ rfl
 refine ag<|zc rfl (λh4=>?_) (λh4=>?_)
 refine zr<|zA<|zA<|zA<|ag<|aV ?_
 exact⟨_,rfl,⟨none,ade hp h4,rfl⟩,hK⟩
 obtain⟨f,A,B,e,hn,hT⟩:=adf hp h4
 subst e
 have RE:(Ty.op f A B).n=1+A.n+B.n:=rfl
 have hA:=Ty.size A
 have hB:=Ty.size B
 have MD:=Ty.len A
 have ME:=Ty.len B
 have Dk:(Ty.op f A B).av.au.length=3:=rfl
 obtain⟨b1,ga,gY,qT,gZ,e1,bC,sv,oY⟩:=j8 bc (iM (i:=1) om)
 subst e1
 subst sv
 obtain⟨b2,nk,jc,AD,jd,e2,bX,IM,MA⟩:=j8 bc (iM (i:=2) om)
 cases e2
 subst IM
 have dd:bS _ w5 _ A.av:=mS oY
 have eA:bS _ w5 _ B.av:=mS MA
 refine bA<|aQ ?_
 apply mx eu 13 (rA 35 10++[4,5,6]) (rA 35 10++[4,5,6]) [[],[0],[1],[2],[3],[],[5],[6],[7],[8],[4],[9],[]] [It.v _,It.v _,It.v _,It.v _,It.v _,It.v _,It.v _,It.v _,It.v _,It.v _,It.v _,It.v _,It.v _] de rfl
 intro wd aB
 refine vc (λ_ _ _=>zf cM rfl pv) ?_
 refine vk aB (λx w6 bD=>?_) ?_
 have cH:=cH.ext bD
 refine zl cK rfl (cH.at rfl) ?_
 exact pv
 refine vk aB (λx w6 bD=>?_) ?_
 refine zi (i:=1) cw aH rfl rfl ((show 1<3 from om)) ?_
 exact pv
 refine vk aB (λx w6 bD=>?_) ?_
 have bC:=bC.ext bD
 refine zL bT aH rfl bC rfl ?_
 exact pv
 refine vk aB (λx w6 bD=>?_) ?_
 have dd:=dd.ext bD
 refine aC (tx A.av.size A.av (lR _) A.oF.wf om (show A.text.length<=100000000 from om) _ _ w6 dd) ?_
 rintro v7 w7 ⟨iV,cv⟩
 have pg:=cv.size
 obtain rfl:=iV
 exact pk cv
 refine vc (λ_ _ _=>zf cM rfl pv) ?_
 refine vk aB (λx w6 bD=>?_) ?_
 have cH:=cH.ext bD
 refine zl cK rfl (cH.at rfl) ?_
 exact pv
 refine vk aB (λx w6 bD=>?_) ?_
 refine zi (i:=2) cw aH rfl rfl ((show 2<3 from om)) ?_
 exact pv
 refine vk aB (λx w6 bD=>?_) ?_
 have bX:=bX.ext bD
 refine zL bT aH rfl bX rfl ?_
 exact pv
 refine vk aB (λx w6 bD=>?_) ?_
 have eA:=eA.ext bD
 refine aC (tx B.av.size B.av (lR _) B.oF.wf om (show B.text.length<=100000000 from om) _ _ w6 eA) ?_
 rintro v7 w7 ⟨iV,cv⟩
 have pg:=cv.size
 obtain rfl:=iV
 exact pk cv
 refine vc (λ_ _ _=>zA pv) ?_
 refine vc (λ_ _ _=>zA pv) ?_
 refine vc (λ_ _ _=>zA pv) ?_
 exact trivial
 intro x qy wJ
 have hK:=hK.ext wJ
 change OW _ _ _ _ [] (aM (aN _ x _) (zZ 35 [_,_,_,_,_,_,_,_,_,_]++[(4,_),(5,_),(6,_)])) _
 refine ag<|aV ?_
 exact⟨_,rfl,⟨some (A,B),hT,rfl⟩,hK⟩
theorem Td (s:aj) (w:World):bZ Tryz.prog 158 [str s] w λr w'=>(∃o,BY s [62] o∧r=MC o)∧ak [] w w':=by
 have hK:=ak.refl [] w
 refine cU [.tmp 2,.tmp 3,.tmp 4] 10 Tryz.func158 rfl YD rfl rfl ?_
 refine zr<|zA<|zA<|zA<|ag<|zr<|zm<|aC (Tc s [62] w) ?_
 rintro v1 w1 ⟨fO,aJ⟩
 have dy:=aJ.size
 have hK:=hK.ext aJ
 obtain⟨o,ho,rfl⟩:=fO
 refine zx (i:=0) rfl rfl<|zx (i:=1) rfl rfl<|zx (i:=2) rfl rfl<|zA<|zA<|zA<|ag<|aV ?_
 exact⟨_,rfl,⟨o,ho,rfl⟩,hK⟩
theorem Te (s:aj) (w:World):bZ Tryz.prog 157 [str s] w λr w'=>(∃o,BY s [42] o∧r=MC o)∧ak [] w w':=by
 have hK:=ak.refl [] w
 refine cU [.tmp 2,.tmp 3,.tmp 4] 10 Tryz.func157 rfl YC rfl rfl ?_
 refine zr<|zA<|zA<|zA<|ag<|zr<|zm<|aC (Tc s [42] w) ?_
 rintro v1 w1 ⟨fO,aJ⟩
 have dy:=aJ.size
 have hK:=hK.ext aJ
 obtain⟨o,ho,rfl⟩:=fO
 refine zx (i:=0) rfl rfl<|zx (i:=1) rfl rfl<|zx (i:=2) rfl rfl<|zA<|zA<|zA<|ag<|aV ?_
 exact⟨_,rfl,⟨o,ho,rfl⟩,hK⟩
theorem Tf (hT:T.n<=16) (f:Bool) {o:Option (Ty×Ty)} (h:BY T.text (ko f) o):o=match T with| .op g a b=>if g=f then some (a,b) else none| .i=>none:=by
 cases o with
 |some p=>
  obtain⟨g,h1,h2,h3⟩:=h
  have e:=Ty.inj h2
  subst e
  have:f=g:=by cases f<;>cases g<;>first|rfl|(simp[ko] at h1)
  subst this
  simp
 |none=>
  cases T with
  |i=>rfl
  |op g a b=>
   have eN:¬g=f:=λe=>h f a b rfl (by rw[e]) (by rw[<-e];exact hT)
   simp[eN]
theorem Tg (h:T.n<=16):wH T.text=true:=by rw[S8];exact dT h
theorem Th (f:Bool) (A B:Ty) (hA:A.n<=16) (hB:B.n<=16) (w:World):
  bZ Tryz.prog 154 [.bool f,str A.text,str B.text] w λr w'=>r= .tuple #[str (if 1+A.n+B.n<=16 then(Ty.op f A B).text else[]),.bool (decide (1+A.n+B.n<=16))]∧ak [] w w':=by
 have hK:=ak.refl [] w
 have MD:=Ty.len A
 have ME:=Ty.len B
 have Tb:=Lw f
 have pS:(((((([40]++ko f)++[32])++A.text)++[32])++B.text)++[41])=(Ty.op f A B).text:=by rw[Ty.H6];simp
 have hy:wH (Ty.op f A B).text=decide (1+A.n+B.n<=16):=S8
 refine cU [.tmp 6,.tmp 7] 34 Tryz.func154 rfl YA rfl rfl ?_
 refine zr<|zA<|zA<|ag<|zr<|zA<|ag<|aQ<|zr<|zm<|ag ?_
 refine jh (λ_:Unit=>[(0,.bool f),(1,str A.text),(2,str B.text),(8,str (ko f))]) (λ_ w'=>w'=w) ?_ ?_
 refine zc rfl (λh1=>?_) (λh1=>?_)
 have hf:=h1
 refine db<|zA<|ag ?_
 exact⟨(),⟨rfl,rfl,rfl,by rw[hf];rfl⟩,rfl⟩
 have hf:=h1
 refine bA ?_
 exact⟨(),⟨rfl,rfl,rfl,by rw[hf];rfl⟩,rfl⟩
 intro gu w1 e1 hI
 subst hI
 refine zr<|zm<|cm rfl rfl so<|cm rfl rfl so<|zm<|cm rfl rfl so<|cm rfl rfl so<|zm<|cm rfl rfl so<|cm rfl rfl so<|zA<|ag<|aQ<|zr<|zm<|aC (MB A.text w1) ?_
 rintro v2 w2 ⟨dz,aq⟩
 have dR:=aq.size
 have hK:=hK.ext aq
 obtain rfl:=dz.trans (congrArg Value.bool (Tg hA))
 refine eH rfl<|zm<|EH (t:=23) (b:=false) rfl<|zm<|aC (MB B.text w2) ?_
 rintro v3 w3 ⟨et,aK⟩
 have gd:=aK.size
 have hK:=hK.ext aK
 obtain rfl:=et.trans (congrArg Value.bool (Tg hB))
 refine eH rfl<|zp rfl<|zm<|EH (t:=28) (b:=false) rfl<|zm<|aC (MB _ w3) ?_
 rintro v4 w4 ⟨eJ,aD⟩
 have gK:=aD.size
 have hK:=hK.ext aD
 obtain rfl:=eJ.trans (congrArg Value.bool ((congrArg wH pS).trans hy))
 refine eH rfl<|zp rfl<|ag<|zc rfl (λh2=>?_) (λh2=>?_)
 have hn:¬1+A.n+B.n<=16:=by simpa using h2
 refine zr<|zA<|zA<|ag<|aV ?_
 have hr:Value.tuple #[str (if 1+A.n+B.n<=16 then(Ty.op f A B).text else[]),.bool (decide (1+A.n+B.n<=16))]=Value.tuple #[str [],.bool false]:=by rw[iN hn,dF hn]
 exact⟨_,rfl,hr.symm,hK⟩
 have hn:1+A.n+B.n<=16:=by simpa using h2
 refine bA<|zr<|zm<|zA<|zA<|ag<|aV ?_
 have hr:Value.tuple #[str (if 1+A.n+B.n<=16 then(Ty.op f A B).text else[]),.bool (decide (1+A.n+B.n<=16))]=Value.tuple #[str (((((([40]++ko f)++[32])++A.text)++[32])++B.text)++[41]),.bool true]:=by rw[iP hn,dT hn,pS]
 exact⟨_,rfl,hr.symm,hK⟩
theorem Ti (c:UInt8):(decide ((c.toNat:Int)<97)||decide ((122:Int)<(c.toNat:Int)))=!(decide (97<=c)&&decide (c<=122)):=by
 have h1:decide (97<=c)=decide ((97:Int)<=c.toNat):=(E6 97 c).symm
 have h2:decide (c<=122)=decide ((c.toNat:Int)<=122):=decide_eq_decide.2 (by rw[UInt8.le_iff_toNat_le];have:(122:UInt8).toNat=122:=rfl;omega)
 rw[h1,h2,Bool.not_and,<-decide_not,<-decide_not]
 congr 1<;>exact decide_eq_decide.2 om
theorem adg {s:aj} (h1:1<=k) (hk:k<s.length) (h:ij (s.getD k 0)=false):(s.drop 1).all ij=false:=by
 rw[List.all_eq_false]
 refine⟨s.getD k 0,?_,by rw[h];simp⟩
 rw[List.mem_iff_getElem?]
 refine⟨k-1,?_⟩
 rw[List.getElem?_drop,show 1+(k-1)=k by omega]
 exact jH hk
theorem adh {s:aj} (h:∀k,1<=k->k<s.length->ij (s.getD k 0)=true):(s.drop 1).all ij=true:=by
 rw[List.all_eq_true]
 intro c hc
 obtain⟨i,hi⟩:=List.mem_iff_getElem?.1 hc
 rw[List.getElem?_drop] at hi
 have hl:=(List.getElem?_eq_some_iff.1 hi).1
 have:=h (1+i) om hl
 rw[jH hl] at hi
 cases hi
 exact this
theorem uX (s:aj) (w:World):bZ Tryz.prog 139 [str s] w λv w'=>v= .bool (eP s)∧w=w':=by
 have hN:eP s=(((decide (1<=s.length)&&decide (s.length<=4))&&(decide (97<=s.getD 0 0)&&decide (s.getD 0 0<=122)))&&(s.drop 1).all ij):=rfl
 have hz:∀c:UInt8,(decide ((c.toNat:Int)<48)||decide ((57:Int)<(c.toNat:Int)))=!ij c:=by
  intro c
  cases hd:ij c with
  |true=>have:=(Bw c).1 hd;simp;omega
  |false=>rw[Bool.not_false,oE,dE,dE];apply Classical.byContradiction;intro hh;have:=(Bw c).2 om;rw[hd] at this;cases this
 refine cU [.tmp 2] 34 Tryz.func139 rfl Yl rfl rfl ?_
 refine zr<|zA<|ag<|aQ<|zr<|zm<|kL fc rfl rfl rfl<|aC (E3 _ _ _ _) ?_
 rintro _ _ ⟨rfl,rfl⟩
 refine eH rfl<|zm ?_
 apply fo 4 8 12 [8,9,10,11,12] (λw'=>w=w') rfl
 intro h1
 replace h1:=bu h1
 refine zs<|zs<|zs<|zp rfl<|ag ?_
 exact mg rfl rfl
 intro h1
 replace h1:=bu h1
 have hl:1<=s.length∧s.length<=4:=(by simp at h1;omega)
 refine zm<|kC (i:=0) fc rfl rfl rfl rfl (jH om)<|fJ rfl rfl rfl<|zp rfl<|ag ?_
 exact mg rfl rfl
 rintro xx _ rfl
 refine zm ?_
 apply fo 4 13 17 [13,14,15,16,17] (λw'=>w=w') rfl
 intro h2
 replace h2:=bu h2
 refine zs<|zs<|zs<|zp rfl<|ag ?_
 exact mg rfl rfl
 intro h2
 replace h2:=bu h2
 have hl:1<=s.length∧s.length<=4:=(by simp at h2;omega)
 refine zm<|kC (i:=0) fc rfl rfl rfl rfl (jH om)<|jx rfl rfl rfl rfl rfl<|zp rfl<|ag ?_
 exact mg rfl rfl
 rintro xx _ rfl
 refine ag<|zc rfl (λh3=>?_) (λh3=>?_)
 have hq:eP s=false:=(by rw[hN];rw[Bool.or_assoc,Ti] at h3;simp only[oE,Bool.not_eq_true',Bool.and_eq_false_iff,decide_eq_false_iff_not] at h3;simp only[Bool.and_eq_false_iff,decide_eq_false_iff_not];left;rcases h3 with(h|h)|h;(·left;left;omega);(·left;right;omega);(·right;exact h))
 refine zr<|zA<|ag<|aV ?_
 exact⟨_,rfl,by rw[hq];rfl,rfl⟩
 have hl:(1<=s.length∧s.length<=4)∧(decide (97<=s.getD 0 0)&&decide (s.getD 0 0<=122))=true:=(by rw[Bool.or_assoc,Ti] at h3;simp only[Bool.or_eq_false_iff,Bool.not_eq_false'] at h3;refine⟨?_,h3.2⟩;have h1:=h3.1;simp at h1;omega)
 have hq:eP s=(s.drop 1).all ij:=(by rw[hN,hl.2,dT hl.1.1,dT hl.1.2];rfl)
 refine bA<|aQ<|zr<|zA<|ag<|cP ?_
 refine fZ (λk:Nat=>[(0,str s),(3,.int .i64 (k:Int))]) (λk w'=>w'=w∧1<=k∧k<=s.length∧∀j,1<=j->j<k->ij (s.getD j 0)=true) (λk=>s.length-k) (1) (⟨rfl,rfl⟩) (⟨rfl,om,om,by intro j h1 h2;omega⟩) ?_
 intro gg w1 e1 hI
 obtain⟨rfl,aJ,hk,dA⟩:=hI
 refine aQ<|zr<|zm<|zm<|kL fc rfl rfl rfl<|fJ rfl rfl rfl<|ag<|zc rfl (λh4=>?_) (λh4=>?_)
 refine bA<|aQ<|cP<|zr<|zm<|zm<|kC fc rfl rfl rfl rfl (jH om)<|fJ rfl rfl rfl<|zm ?_
 apply fo 5 28 33 [28,29,30,31,32,33] (λw'=>w1=w') rfl
 intro h5
 replace h5:=bu h5
 refine zs<|zs<|zs<|zs<|zp rfl<|ag ?_
 exact mg rfl rfl
 intro h5
 replace h5:=bu h5
 refine zm<|zm<|kC fc rfl rfl rfl rfl (jH om)<|jx rfl rfl rfl rfl rfl<|zp rfl<|ag ?_
 exact mg rfl rfl
 rintro xx _ rfl
 refine ag<|zc rfl (λh6=>?_) (λh6=>?_)
 have hd:ij (s.getD gg 0)=false:=(by rw[hz] at h6;simpa using h6)
 refine zr<|zA<|ag<|aV ?_
 exact⟨_,rfl,by rw[hq,adg aJ om hd];rfl,rfl⟩
 have hd:ij (s.getD gg 0)=true:=(by rw[hz] at h6;simpa using h6)
 refine bA<|db<|zm<|eE rfl rfl rfl (wrap_i64 _ om om)<|zA<|ag ?_
 exact⟨gg+1,⟨rfl,rfl⟩,⟨rfl,om,om,by intro j h1 h2;rcases Nat.lt_or_ge j gg with h|h;exact dA j h1 h;rw[show j=gg by omega];exact hd⟩,om⟩
 refine gF<|gH rfl<|zr<|zA<|ag<|aV ?_
 exact⟨_,rfl,by rw[hq,adh (λj h1 h2=>dA j h1 om)];rfl,rfl⟩
def MF (h:aj):Value:=.tuple #[.int .i64 ((eX h).1:Int),.int .i64 ((eX h).2:Int)]
theorem yk {a:Nat} (e:eX h=(a,b)):MF h= .tuple #[.int .i64 (a:Int),.int .i64 (b:Int)]:=by unfold MF;rw[e]
theorem adi (e:iA h=true):eX h=(1,3):=by unfold eX;rw[iP e]
theorem adj (e:gT h=true):eX h=(1,2):=by
 unfold gT at e
 simp only[oE,dE] at e
 rcases e with e|e<;>subst e<;>decide
theorem IN (h:aj) (w:World):bZ Tryz.prog 140 [str h] w λv w'=>v=MF h∧w=w':=by
 refine cU [.tmp 2,.tmp 3] 20 Tryz.func140 rfl Ym rfl rfl ?_
 refine zr<|zA<|zA<|ag<|aQ<|zr<|zm<|ag<|cP<|aQ<|zr<|cW rfl rfl<|zA<|ag ?_
 refine jh (λ_:Unit=>[(4,str h),(5,.bool (iA h))]) (λ_ w'=>w'=w) ?_ ?_
 refine zc rfl (λh1=>?_) (λh1=>?_)
 refine bA ?_
 exact⟨(),⟨rfl,congrArg Value.bool (show decide (h=[43])=iA h from by rw[dT h1,show iA h=true from by rw[h1];rfl])⟩,rfl⟩
 have n1:=h1
 refine zr<|cW rfl rfl<|zA<|ag<|zc rfl (λh2=>?_) (λh2=>?_)
 refine bA ?_
 exact⟨(),⟨rfl,congrArg Value.bool (show decide (h=[45])=iA h from by rw[dT h2,show iA h=true from by rw[h2];rfl])⟩,rfl⟩
 have n2:=h2
 refine zr<|cW rfl rfl<|zA<|ag<|zc rfl (λh3=>?_) (λh3=>?_)
 refine bA ?_
 exact⟨(),⟨rfl,congrArg Value.bool (show decide (h=[42])=iA h from by rw[dT h3,show iA h=true from by rw[h3];rfl])⟩,rfl⟩
 have n3:=h3
 refine zr<|cW rfl rfl<|zA<|ag<|zc rfl (λh4=>?_) (λh4=>?_)
 refine bA ?_
 exact⟨(),⟨rfl,congrArg Value.bool (show decide (h=kD)=iA h from by rw[dT h4,show iA h=true from by rw[h4];rfl])⟩,rfl⟩
 have n4:=h4
 refine db<|cW rfl rfl<|zA<|ag ?_
 exact⟨(),⟨rfl,congrArg Value.bool (show decide (h=xU)=iA h from by unfold iA;rw[dF n1,dF n2,dF n3,dF n4];rfl)⟩,rfl⟩
 intro gu w1 e1 hI
 obtain rfl:=hI.symm
 refine zc rfl (λh5=>?_) (λh5=>?_)
 have hq:=h5
 refine zr<|zA<|zA<|ag<|aV ?_
 exact⟨_,rfl,(yk (adi hq)).symm,rfl⟩
 have b0:=h5
 refine zr<|cW rfl rfl<|zA<|ag<|zc rfl (λh6=>?_) (λh6=>?_)
 have hq:=h6
 refine zr<|zA<|zA<|ag<|aV ?_
 exact⟨_,rfl,(yk (by rw[hq];rfl)).symm,rfl⟩
 have m1:=h6
 refine zr<|cW rfl rfl<|zA<|ag<|zc rfl (λh7=>?_) (λh7=>?_)
 have hq:=h7
 refine zr<|zA<|zA<|ag<|aV ?_
 exact⟨_,rfl,(yk (by rw[hq];rfl)).symm,rfl⟩
 have m2:=h7
 refine zr<|cW rfl rfl<|zA<|ag<|zc rfl (λh8=>?_) (λh8=>?_)
 have hq:=h8
 refine zr<|zA<|zA<|ag<|aV ?_
 exact⟨_,rfl,(yk (by rw[hq];rfl)).symm,rfl⟩
 have m3:=h8
 refine aQ<|zr<|cW rfl rfl<|zA<|ag ?_
 refine jh (λ_:Unit=>[(4,str h),(17,.bool (gT h))]) (λ_ w'=>w'=w) ?_ ?_
 refine zc rfl (λh9=>?_) (λh9=>?_)
 refine bA ?_
 exact⟨(),⟨rfl,congrArg Value.bool (show decide (h=BL)=gT h from by rw[dT h9,show gT h=true from by rw[h9];rfl])⟩,rfl⟩
 have n5:=h9
 refine db<|cW rfl rfl<|zA<|ag ?_
 exact⟨(),⟨rfl,congrArg Value.bool (show decide (h=qZ)=gT h from by unfold gT;rw[dF n5];rfl)⟩,rfl⟩
 intro gu w2 e2 hI
 obtain rfl:=hI.symm
 refine zc rfl (λgI=>?_) (λgI=>?_)
 have hq:=gI
 refine zr<|zA<|zA<|ag<|aV ?_
 exact⟨_,rfl,(yk (adj hq)).symm,rfl⟩
 have m4:=gI
 refine bA<|zr<|zA<|zA<|ag<|aV ?_
 exact⟨_,rfl,(yk (by unfold eX;rw[iN (by rw[b0];simp),iN m1,iN m2,iN m3,iN (by rw[m4];simp)])).symm,rfl⟩
theorem adk (h:aj):((eX h).1=0∧(eX h).2=0)∨((eX h).1=1∧(eX h).2=2)∨((eX h).1=1∧(eX h).2=3)∨((eX h).1=1∧(eX h).2=4)∨((eX h).1=2∧(eX h).2=4)∨((eX h).1=5∧(eX h).2=6):=by
 unfold eX
 split
 ·simp
 ·split
  ·simp
  ·split
   ·simp
   ·split
    ·simp
    ·split<;>simp
theorem adl {ps:List aA} {f:aA->Bool} (h:∀j,k<=j->j<ps.length->f (nth ps j)=true):(ps.drop k).all f=true:=by
 rw[List.all_eq_true]
 intro c hc
 obtain⟨i,hi⟩:=List.mem_iff_getElem?.1 hc
 rw[List.getElem?_drop] at hi
 have hl:=(List.getElem?_eq_some_iff.1 hi).1
 have:=h (k+i) om hl
 rw[iM hl] at hi
 cases hi
 exact this
theorem adm {ps:List aA} {f:aA->Bool} (h1:k<=j) (h2:j<ps.length) (h:f (nth ps j)=false):(ps.drop k).all f=false:=by
 rw[List.all_eq_false]
 refine⟨nth ps j,?_,by rw[h];simp⟩
 rw[List.mem_iff_getElem?]
 refine⟨j-k,?_⟩
 rw[List.getElem?_drop,show k+(j-k)=j by omega]
 exact iM h2
def BZ (ps:List aA):Bool:=eP (nth ps 2).az&&decide ((nth ps 1).az≠(nth ps 2).az)&&kq (nth ps 3)&&kq (nth ps 4)
theorem adn (ps:List aA) (k:Nat):k≠5∨(k=5∧eP (nth ps 2).az=false)∨(k=5∧eP (nth ps 2).az=true∧(nth ps 1).az=(nth ps 2).az)∨(k=5∧eP (nth ps 2).az=true∧(nth ps 1).az≠(nth ps 2).az∧kq (nth ps 3)=false)∨
  (k=5∧eP (nth ps 2).az=true∧(nth ps 1).az≠(nth ps 2).az∧kq (nth ps 3)=true∧kq (nth ps 4)=false)∨(k=5∧eP (nth ps 2).az=true∧(nth ps 1).az≠(nth ps 2).az∧kq (nth ps 3)=true∧kq (nth ps 4)=true):=by
 by_cases h5:k=5
 ·right
  cases h2:eP (nth ps 2).az
  ·exact .inl ⟨h5,rfl⟩
  ·right
   by_cases he:(nth ps 1).az=(nth ps 2).az
   ·exact .inl ⟨h5,rfl,he⟩
   ·right
    cases h3:kq (nth ps 3)
    ·exact .inl ⟨h5,rfl,he,rfl⟩
    ·right
     cases h4:kq (nth ps 4)
     ·exact .inl ⟨h5,rfl,he,rfl,rfl⟩
     ·exact .inr ⟨h5,rfl,he,rfl,rfl⟩
 ·exact .inl h5
theorem ado:∀(m:Nat) (t:aA),t.size<=m->t.size<=10000000->WF t->∀(v:Value) (L:List Nat) (w:World),bS L w v t->
  bZ Tryz.prog 106 [v] w λr w'=>r= .bool (dU t)∧ak [] w w':=by
 intro m
 induction m with
 |zero=>intro t h;have:=xJ t;omega
 |succ m ih=>
  intro t hm mW dx v L w hv
  obtain⟨a,n,c,rfl,hn,bc⟩:=dN hv
  subst hn
  have hK:=ak.refl [] w
  have oX:=xI t
  refine cU [.tmp 2] 105 Tryz.func106 rfl XQ rfl rfl ?_
  refine zr<|fA rfl ?_
  intro w1 aJ aU dV
  have hK:=hK.ext aJ;have bc:=bc.ext aJ
  refine zA<|ag<|aQ<|zr<|zf dB rfl<|zl cg rfl (aU.at rfl)<|jF rfl rfl rfl rfl<|ag<|zc rfl (λh1=>?_) (λh1=>?_)
  have hq:dU t=qo t.az:=by rw[S5,iP h1]
  refine zr<|zf dB rfl<|zl cg rfl (aU.at rfl)<|aC (HO _ _) ?_
  rintro _ _ ⟨rfl,rfl⟩
  refine zm<|zx (i:=0) rfl rfl<|zx (i:=1) rfl rfl<|zA<|zA<|ag<|zr<|zm<|zm ?_
  apply fo 4 18 22 [18,19,20,21,22] (λw'=>w1=w') rfl
  intro h2
  replace h2:=bu h2
  refine zs<|zs<|zs<|zp rfl<|ag ?_
  exact mg rfl rfl
  intro h2
  replace h2:=bu h2
  refine zf dB rfl<|zl cg rfl (aU.at rfl)<|aC (uX _ _) ?_
  rintro _ _ ⟨rfl,rfl⟩
  refine zp rfl<|ag ?_
  exact mg rfl rfl
  rintro xx _ rfl
  refine zA<|ag<|aV ?_
  exact⟨_,rfl,by rw[hq];rfl,hK⟩
  have ha:t.az=[]:=Classical.not_not.1 h1
  have kR:=dx.pos ha
  have hq:=ac7 ha
  obtain⟨b,off,pa,pn,pc,rfl,er,fR,iy⟩:=j8 bc (iM kR)
  have ln:=adk (nth t.au 0).az
  refine bA<|zr<|zf cM rfl<|zl cK rfl (aU.at rfl)<|zi (i:=0) cw aH rfl rfl om<|zf dB rfl<|zl cg rfl (er 0 _ rfl)<|aC (IN _ _) ?_
  rintro _ _ ⟨rfl,rfl⟩
  refine zm<|zx (i:=0) rfl rfl<|zx (i:=1) rfl rfl<|zA<|zA<|ag<|aQ<|zr<|zm<|dO rfl rfl rfl<|zm ?_
  apply fo 6 34 40 [34,35,36,37,38,39,40] (λw'=>w1=w') rfl
  intro h3
  replace h3:=bu h3
  refine zs<|zs<|zs<|zs<|zs<|zp rfl<|ag ?_
  exact mg rfl rfl
  intro h3
  replace h3:=bu h3
  refine zf cM rfl<|zl cK rfl (aU.at rfl)<|eh cw rfl<|zm<|ur rfl rfl rfl rfl rfl<|zp rfl<|ag ?_
  exact mg rfl rfl
  rintro xx _ rfl
  refine ag<|zc rfl (λh4=>?_) (λh4=>?_)
  have hz:dU t=false:=(by rw[hq];simp only[oE,dE] at h4;rcases h4 with h|h;(·rw[show decide ((eX (nth t.au 0).az).1≠0)=false from dF om];rfl);(·rw[show decide (t.au.length=(eX (nth t.au 0).az).2)=false from dF om];simp))
  refine zr<|zA<|ag<|aV ?_
  exact⟨_,rfl,by rw[hz];rfl,hK⟩
  have gN:(eX (nth t.au 0).az).1≠0∧t.au.length=(eX (nth t.au 0).az).2:=(by simp only[Bool.or_eq_false_iff,decide_eq_false_iff_not] at h4;omega)
  obtain⟨gN,gS⟩:=gN
  have B0:dU t=(DN t.au&&(t.au.drop (eX (nth t.au 0).az).1).all dU):=by rw[hq,dT gN,dT gS];rfl
  refine bA<|aQ<|zr<|zm<|jx rfl rfl rfl rfl rfl<|zm ?_
  apply fU 8 43 51 [43,44,45,46,47,48,49,50,51] (λw'=>w1=w') rfl
  intro h5
  replace h5:=bu h5
  have BB:1<t.au.length:=(by have h7:=h5;omega)
  obtain⟨b1,ga,gY,qT,gZ,e1,bC,sv,oY⟩:=j8 bc (iM (i:=1) BB)
  cases e1
  refine zf cM rfl<|zl cK rfl (aU.at rfl)<|zi (i:=1) cw aH rfl rfl om<|zf dB rfl<|zl cg rfl (bC 0 _ rfl)<|aC (uX _ _) ?_
  rintro _ _ ⟨rfl,rfl⟩
  refine eH rfl<|zp rfl<|ag ?_
  exact mg rfl rfl
  intro h5
  replace h5:=bu h5
  refine zs<|zs<|zs<|zs<|zs<|zs<|zs<|zp rfl<|ag ?_
  exact mg rfl rfl
  rintro xx _ rfl
  refine ag<|zc rfl (λh6=>?_) (λh6=>?_)
  have hz:dU t=false:=(by simp only[aE,dE,Bool.not_eq_true'] at h6;rw[B0];unfold DN;rw[show decide ((eX (nth t.au 0).az).1<=1)=false from dF om,h6.2];rfl)
  refine zr<|zA<|ag<|aV ?_
  exact⟨_,rfl,by rw[hz];rfl,hK⟩
  have qi:(decide ((eX (nth t.au 0).az).1<=1)||eP (nth t.au 1).az)=true:=(by simp only[Bool.and_eq_false_iff,decide_eq_false_iff_not,Bool.not_eq_false'] at h6;rcases h6 with h|h;(·rw[dT om];rfl);(·rw[h];simp))
  have oK:dU t=((decide ((eX (nth t.au 0).az).1≠5)||BZ t.au)&&(t.au.drop (eX (nth t.au 0).az).1).all dU):=by rw[B0];unfold DN;rw[qi];rfl
  have FV:(eX (nth t.au 0).az).1=5->t.au.length=6:=(by intro h;omega)
  have jE:∀i,i<t.au.length->∃pa pn pc,iH w1 b (off+i*2) [str (nth t.au i).az,.slice pa pn pc]∧bS L w1 (.agg #[str (nth t.au i).az,.slice pa pn pc]) (nth t.au i):=(by intro i hi;obtain⟨b1,ga,gY,qT,gZ,e1,bC,sv,oY⟩:=j8 bc (iM hi);cases e1;exact⟨_,_,_,bC,mS oY⟩)
  refine bA<|aQ<|aQ ?_
  refine jh (λ_:Unit=>[(1,.pointer (some ⟨w.heap.size,0,none⟩)),(5,.int .i64 ((eX (nth t.au 0).az).1:Int)),(6,.int .i64 ((eX (nth t.au 0).az).2:Int)),(91,.bool (decide ((eX (nth t.au 0).az).1=5)&&!BZ t.au))]) (λ_ w'=>ak [] w w'∧ak [] w1 w') ?_ ?_
  rcases adn t.au (eX (nth t.au 0).az).1 with lp|lp|lp|lp|lp|lp
  apply mx eu 40 (rA 52 40) (rA 52 40) [[],[0],[1],[2],[2,3],[2,4],[2,5],[2,6],[2,7],[2,8],[2,9],[10],[10,11],[10,12],[10,13],[10,14],[10],[10,16],[10,17],[10,18],[10,19],[10,15,20],[2,10,21],[2,22],[23],[23,24],[23,25],[23,26],[23,27],[23,28],[2,23,29],[2,30],[31],[31,32],[31,33],[31,34],[31,35],[31,36],[2,31,37],[2,38]] [It.v _,It.v _,It.v (.bool false),It.v _,It.v _,It.v _,It.v _,It.v _,It.v _,It.v _,It.v _,It.v _,It.v _,It.v _,It.v _,It.v _,It.v _,It.v _,It.v _,It.v _,It.v _,It.v _,It.v _,It.v _,It.v _,It.v _,It.v _,It.v _,It.v _,It.v _,It.v _,It.v _,It.v _,It.v _,It.v _,It.v _,It.v _,It.v _,It.v _,It.v _] de rfl
  intro wd aB
  refine eM ?_
  refine vk aB (λx w2 aq=>?_) ?_
  refine dO rfl rfl rfl ?_
  exact pv
  refine vc (λx w2 aq=>?_) ?_
  refine zm ?_
  exact pv (by exact congrArg Value.bool (dF om))
  refine vc (λx w2 aq=>?_) ?_
  exact du pv
  refine vk aB (λx w2 aq=>?_) ?_
  exact du pv
  refine vk aB (λx w2 aq=>?_) ?_
  exact du pv
  refine vc (λx w2 aq=>?_) ?_
  exact du pv
  refine vk aB (λx w2 aq=>?_) ?_
  exact du pv
  refine vk aB (λx w2 aq=>?_) ?_
  exact du pv
  refine vc (λx w2 aq=>?_) ?_
  exact du pv
  refine vc (λx w2 aq=>?_) ?_
  exact du pv
  refine vc (λx w2 aq=>?_) ?_
  exact du pv
  refine vk aB (λx w2 aq=>?_) ?_
  exact du pv
  refine vk aB (λx w2 aq=>?_) ?_
  exact du pv
  refine vc (λx w2 aq=>?_) ?_
  exact du pv
  refine vk aB (λx w2 aq=>?_) ?_
  exact du pv
  refine vc (λx w2 aq=>?_) ?_
  exact du pv
  refine vk aB (λx w2 aq=>?_) ?_
  exact du pv
  refine vk aB (λx w2 aq=>?_) ?_
  exact du pv
  refine vc (λx w2 aq=>?_) ?_
  exact du pv
  refine vk aB (λx w2 aq=>?_) ?_
  exact du pv
  refine vk aB (λx w2 aq=>?_) ?_
  exact du pv
  refine vc (λx w2 aq=>?_) ?_
  exact du pv
  refine vc (λx w2 aq=>?_) ?_
  exact du pv
  refine vc (λx w2 aq=>?_) ?_
  exact du pv
  refine vk aB (λx w2 aq=>?_) ?_
  exact du pv
  refine vk aB (λx w2 aq=>?_) ?_
  exact du pv
  refine vk aB (λx w2 aq=>?_) ?_
  exact du pv
  refine vk aB (λx w2 aq=>?_) ?_
  exact du pv
  refine vc (λx w2 aq=>?_) ?_
  exact du pv
  refine vc (λx w2 aq=>?_) ?_
  exact du pv
  refine vc (λx w2 aq=>?_) ?_
  exact du pv
  refine vc (λx w2 aq=>?_) ?_
  exact du pv
  refine vk aB (λx w2 aq=>?_) ?_
  exact du pv
  refine vk aB (λx w2 aq=>?_) ?_
  exact du pv
  refine vk aB (λx w2 aq=>?_) ?_
  exact du pv
  refine vk aB (λx w2 aq=>?_) ?_
  exact du pv
  refine vc (λx w2 aq=>?_) ?_
  exact du pv
  refine vc (λx w2 aq=>?_) ?_
  exact du pv
  refine vc (λ_ _ _=>zp rfl pv) ?_
  exact trivial
  intro x pT iB
  have hK:=hK.ext iB
  change OW _ _ _ _ [] (aM (aN _ x _) (zZ 52 [_,_,_,_,_,_,_,_,_,_,_,_,_,_,_,_,_,_,_,_,_,_,_,_,_,_,_,_,_,_,_,_,_,_,_,_,_,_,_,_])) _
  refine ag ?_
  exact⟨(),⟨rfl,rfl,rfl,congrArg Value.bool (show false=_ from by rw[dF lp];rfl)⟩,hK,iB⟩
  obtain⟨h5,h2⟩:=lp
  have h6:=FV h5
  obtain⟨jc,AD,jd,bX,eA⟩:=jE 2 om
  apply mx eu 40 (rA 52 40) (rA 52 40) [[],[0],[1],[2],[2,3],[2,4],[2,5],[2,6],[2,7],[2,8],[2,9],[10],[10,11],[10,12],[10,13],[10,14],[10],[10,16],[10,17],[10,18],[10,19],[10,15,20],[2,10,21],[2,22],[23],[23,24],[23,25],[23,26],[23,27],[23,28],[2,23,29],[2,30],[31],[31,32],[31,33],[31,34],[31,35],[31,36],[2,31,37],[2,38]] [It.v _,It.v _,It.v (.bool true),It.v _,It.v _,It.v _,It.v _,It.v _,It.v _,It.v _,It.v (.bool true),It.v _,It.v _,It.v _,It.v _,It.v _,It.v _,It.v _,It.v _,It.v _,It.v _,It.v _,It.v _,It.v (.bool true),It.v _,It.v _,It.v _,It.v _,It.v _,It.v _,It.v _,It.v (.bool true),It.v _,It.v _,It.v _,It.v _,It.v _,It.v _,It.v _,It.v _] de rfl
  intro wd aB
  refine eM ?_
  refine vk aB (λx w2 aq=>?_) ?_
  refine dO rfl rfl rfl ?_
  exact pv
  refine vc (λx w2 aq=>?_) ?_
  refine zm ?_
  exact pv (by exact congrArg Value.bool (dT om))
  refine vc (λ_ _ _=>zf cM rfl pv) ?_
  refine vk aB (λx w2 aq=>?_) ?_
  have aU:=aU.ext aq
  refine zl cK rfl (aU.at rfl) ?_
  exact pv
  refine vk aB (λx w2 aq=>?_) ?_
  refine zi (i:=2) cw aH rfl rfl om ?_
  exact pv
  refine vc (λ_ _ _=>zf dB rfl pv) ?_
  refine vk aB (λx w2 aq=>?_) ?_
  have bX:=bX.ext aq
  refine zl cg rfl (bX 0 _ rfl) ?_
  exact pv
  refine vk aB (λx w2 aq=>?_) ?_
  refine aC (uX _ _) ?_
  rintro _ _ ⟨rfl,rfl⟩
  exact pv
  refine vc (λ_ _ _=>eH rfl pv) ?_
  refine vc (λx w2 aq=>?_) ?_
  refine zm ?_
  exact pv (by exact congrArg Value.bool (show(!eP (nth t.au 2).az)=true from by rw[h2];rfl))
  refine vc (λx w2 aq=>?_) ?_
  exact du pv
  refine vk aB (λx w2 aq=>?_) ?_
  exact du pv
  refine vk aB (λx w2 aq=>?_) ?_
  exact du pv
  refine vc (λx w2 aq=>?_) ?_
  exact du pv
  refine vk aB (λx w2 aq=>?_) ?_
  exact du pv
  refine vc (λx w2 aq=>?_) ?_
  exact du pv
  refine vk aB (λx w2 aq=>?_) ?_
  exact du pv
  refine vk aB (λx w2 aq=>?_) ?_
  exact du pv
  refine vc (λx w2 aq=>?_) ?_
  exact du pv
  refine vk aB (λx w2 aq=>?_) ?_
  exact du pv
  refine vk aB (λx w2 aq=>?_) ?_
  exact du pv
  refine vc (λ_ _ _=>zp rfl pv) ?_
  refine vc (λx w2 aq=>?_) ?_
  refine zm ?_
  exact pv (by exact rfl)
  refine vc (λx w2 aq=>?_) ?_
  exact du pv
  refine vk aB (λx w2 aq=>?_) ?_
  exact du pv
  refine vk aB (λx w2 aq=>?_) ?_
  exact du pv
  refine vk aB (λx w2 aq=>?_) ?_
  exact du pv
  refine vk aB (λx w2 aq=>?_) ?_
  exact du pv
  refine vc (λx w2 aq=>?_) ?_
  exact du pv
  refine vc (λ_ _ _=>zp rfl pv) ?_
  refine vc (λx w2 aq=>?_) ?_
  refine zm ?_
  exact pv (by exact rfl)
  refine vc (λx w2 aq=>?_) ?_
  exact du pv
  refine vk aB (λx w2 aq=>?_) ?_
  exact du pv
  refine vk aB (λx w2 aq=>?_) ?_
  exact du pv
  refine vk aB (λx w2 aq=>?_) ?_
  exact du pv
  refine vk aB (λx w2 aq=>?_) ?_
  exact du pv
  refine vc (λx w2 aq=>?_) ?_
  exact du pv
  refine vc (λ_ _ _=>zp rfl pv) ?_
  refine vc (λ_ _ _=>zp rfl pv) ?_
  exact trivial
  intro x pT iB
  have hK:=hK.ext iB
  change OW _ _ _ _ [] (aM (aN _ x _) (zZ 52 [_,_,_,_,_,_,_,_,_,_,_,_,_,_,_,_,_,_,_,_,_,_,_,_,_,_,_,_,_,_,_,_,_,_,_,_,_,_,_,_])) _
  refine ag ?_
  exact⟨(),⟨rfl,rfl,rfl,congrArg Value.bool (show true=_ from by unfold BZ;rw[dT h5,h2];rfl)⟩,hK,iB⟩
  obtain⟨h5,h2,jJ⟩:=lp
  have h6:=FV h5
  obtain⟨gY,qT,gZ,bC,dd⟩:=jE 1 om
  obtain⟨jc,AD,jd,bX,eA⟩:=jE 2 om
  apply mx eu 40 (rA 52 40) (rA 52 40) [[],[0],[1],[2],[2,3],[2,4],[2,5],[2,6],[2,7],[2,8],[2,9],[10],[10,11],[10,12],[10,13],[10,14],[10],[10,16],[10,17],[10,18],[10,19],[10,15,20],[2,10,21],[2,22],[23],[23,24],[23,25],[23,26],[23,27],[23,28],[2,23,29],[2,30],[31],[31,32],[31,33],[31,34],[31,35],[31,36],[2,31,37],[2,38]] [It.v _,It.v _,It.v (.bool true),It.v _,It.v _,It.v _,It.v _,It.v _,It.v _,It.v _,It.v (.bool false),It.v _,It.v _,It.v _,It.v _,It.v _,It.v _,It.v _,It.v _,It.v _,It.v _,It.v _,It.v _,It.v (.bool true),It.v _,It.v _,It.v _,It.v _,It.v _,It.v _,It.v _,It.v (.bool true),It.v _,It.v _,It.v _,It.v _,It.v _,It.v _,It.v _,It.v _] de rfl
  intro wd aB
  refine eM ?_
  refine vk aB (λx w2 aq=>?_) ?_
  refine dO rfl rfl rfl ?_
  exact pv
  refine vc (λx w2 aq=>?_) ?_
  refine zm ?_
  exact pv (by exact congrArg Value.bool (dT om))
  refine vc (λ_ _ _=>zf cM rfl pv) ?_
  refine vk aB (λx w2 aq=>?_) ?_
  have aU:=aU.ext aq
  refine zl cK rfl (aU.at rfl) ?_
  exact pv
  refine vk aB (λx w2 aq=>?_) ?_
  refine zi (i:=2) cw aH rfl rfl om ?_
  exact pv
  refine vc (λ_ _ _=>zf dB rfl pv) ?_
  refine vk aB (λx w2 aq=>?_) ?_
  have bX:=bX.ext aq
  refine zl cg rfl (bX 0 _ rfl) ?_
  exact pv
  refine vk aB (λx w2 aq=>?_) ?_
  refine aC (uX _ _) ?_
  rintro _ _ ⟨rfl,rfl⟩
  exact pv
  refine vc (λ_ _ _=>eH rfl pv) ?_
  refine vc (λx w2 aq=>?_) ?_
  refine zm ?_
  exact pv (by exact congrArg Value.bool (show(!eP (nth t.au 2).az)=false from by rw[h2];rfl))
  refine vc (λ_ _ _=>zf cM rfl pv) ?_
  refine vk aB (λx w2 aq=>?_) ?_
  have aU:=aU.ext aq
  refine zl cK rfl (aU.at rfl) ?_
  exact pv
  refine vk aB (λx w2 aq=>?_) ?_
  refine zi (i:=1) cw aH rfl rfl om ?_
  exact pv
  refine vc (λ_ _ _=>zf dB rfl pv) ?_
  refine vk aB (λx w2 aq=>?_) ?_
  have bC:=bC.ext aq
  refine zl cg rfl (bC 0 _ rfl) ?_
  exact pv
  refine vc (λ_ _ _=>zf cM rfl pv) ?_
  refine vk aB (λx w2 aq=>?_) ?_
  have aU:=aU.ext aq
  refine zl cK rfl (aU.at rfl) ?_
  exact pv
  refine vk aB (λx w2 aq=>?_) ?_
  refine zi (i:=2) cw aH rfl rfl om ?_
  exact pv
  refine vc (λ_ _ _=>zf dB rfl pv) ?_
  refine vk aB (λx w2 aq=>?_) ?_
  have bX:=bX.ext aq
  refine zl cg rfl (bX 0 _ rfl) ?_
  exact pv
  refine vk aB (λx w2 aq=>?_) ?_
  refine cW rfl rfl ?_
  exact pv
  refine vc (λ_ _ _=>zp rfl pv) ?_
  refine vc (λx w2 aq=>?_) ?_
  refine zm ?_
  exact pv (by exact congrArg Value.bool (dT jJ))
  refine vc (λx w2 aq=>?_) ?_
  exact du pv
  refine vk aB (λx w2 aq=>?_) ?_
  exact du pv
  refine vk aB (λx w2 aq=>?_) ?_
  exact du pv
  refine vk aB (λx w2 aq=>?_) ?_
  exact du pv
  refine vk aB (λx w2 aq=>?_) ?_
  exact du pv
  refine vc (λx w2 aq=>?_) ?_
  exact du pv
  refine vc (λ_ _ _=>zp rfl pv) ?_
  refine vc (λx w2 aq=>?_) ?_
  refine zm ?_
  exact pv (by exact rfl)
  refine vc (λx w2 aq=>?_) ?_
  exact du pv
  refine vk aB (λx w2 aq=>?_) ?_
  exact du pv
  refine vk aB (λx w2 aq=>?_) ?_
  exact du pv
  refine vk aB (λx w2 aq=>?_) ?_
  exact du pv
  refine vk aB (λx w2 aq=>?_) ?_
  exact du pv
  refine vc (λx w2 aq=>?_) ?_
  exact du pv
  refine vc (λ_ _ _=>zp rfl pv) ?_
  refine vc (λ_ _ _=>zp rfl pv) ?_
  exact trivial
  intro x pT iB
  have hK:=hK.ext iB
  change OW _ _ _ _ [] (aM (aN _ x _) (zZ 52 [_,_,_,_,_,_,_,_,_,_,_,_,_,_,_,_,_,_,_,_,_,_,_,_,_,_,_,_,_,_,_,_,_,_,_,_,_,_,_,_])) _
  refine ag ?_
  exact⟨(),⟨rfl,rfl,rfl,congrArg Value.bool (show true=_ from by unfold BZ;rw[dT h5,h2,dF (λh=>h jJ)];rfl)⟩,hK,iB⟩
  obtain⟨h5,h2,jJ,h3⟩:=lp
  have h6:=FV h5
  obtain⟨gY,qT,gZ,bC,dd⟩:=jE 1 om
  obtain⟨jc,AD,jd,bX,eA⟩:=jE 2 om
  obtain⟨pU,Tj,pV,ew,eY⟩:=jE 3 om
  have gd:=lX (t:=t) (i:=3) om
  apply mx eu 40 (rA 52 40) (rA 52 40) [[],[0],[1],[2],[2,3],[2,4],[2,5],[2,6],[2,7],[2,8],[2,9],[10],[10,11],[10,12],[10,13],[10,14],[10],[10,16],[10,17],[10,18],[10,19],[10,15,20],[2,10,21],[2,22],[23],[23,24],[23,25],[23,26],[23,27],[23,28],[2,23,29],[2,30],[31],[31,32],[31,33],[31,34],[31,35],[31,36],[2,31,37],[2,38]] [It.v _,It.v _,It.v (.bool true),It.v _,It.v _,It.v _,It.v _,It.v _,It.v _,It.v _,It.v (.bool false),It.v _,It.v _,It.v _,It.v _,It.v _,It.v _,It.v _,It.v _,It.v _,It.v _,It.v _,It.v _,It.v (.bool false),It.v _,It.v _,It.v _,It.v _,It.v _,It.v _,It.v _,It.v (.bool true),It.v _,It.v _,It.v _,It.v _,It.v _,It.v _,It.v _,It.v _] de rfl
  intro wd aB
  refine eM ?_
  refine vk aB (λx w2 aq=>?_) ?_
  refine dO rfl rfl rfl ?_
  exact pv
  refine vc (λx w2 aq=>?_) ?_
  refine zm ?_
  exact pv (by exact congrArg Value.bool (dT om))
  refine vc (λ_ _ _=>zf cM rfl pv) ?_
  refine vk aB (λx w2 aq=>?_) ?_
  have aU:=aU.ext aq
  refine zl cK rfl (aU.at rfl) ?_
  exact pv
  refine vk aB (λx w2 aq=>?_) ?_
  refine zi (i:=2) cw aH rfl rfl om ?_
  exact pv
  refine vc (λ_ _ _=>zf dB rfl pv) ?_
  refine vk aB (λx w2 aq=>?_) ?_
  have bX:=bX.ext aq
  refine zl cg rfl (bX 0 _ rfl) ?_
  exact pv
  refine vk aB (λx w2 aq=>?_) ?_
  refine aC (uX _ _) ?_
  rintro _ _ ⟨rfl,rfl⟩
  exact pv
  refine vc (λ_ _ _=>eH rfl pv) ?_
  refine vc (λx w2 aq=>?_) ?_
  refine zm ?_
  exact pv (by exact congrArg Value.bool (show(!eP (nth t.au 2).az)=false from by rw[h2];rfl))
  refine vc (λ_ _ _=>zf cM rfl pv) ?_
  refine vk aB (λx w2 aq=>?_) ?_
  have aU:=aU.ext aq
  refine zl cK rfl (aU.at rfl) ?_
  exact pv
  refine vk aB (λx w2 aq=>?_) ?_
  refine zi (i:=1) cw aH rfl rfl om ?_
  exact pv
  refine vc (λ_ _ _=>zf dB rfl pv) ?_
  refine vk aB (λx w2 aq=>?_) ?_
  have bC:=bC.ext aq
  refine zl cg rfl (bC 0 _ rfl) ?_
  exact pv
  refine vc (λ_ _ _=>zf cM rfl pv) ?_
  refine vk aB (λx w2 aq=>?_) ?_
  have aU:=aU.ext aq
  refine zl cK rfl (aU.at rfl) ?_
  exact pv
  refine vk aB (λx w2 aq=>?_) ?_
  refine zi (i:=2) cw aH rfl rfl om ?_
  exact pv
  refine vc (λ_ _ _=>zf dB rfl pv) ?_
  refine vk aB (λx w2 aq=>?_) ?_
  have bX:=bX.ext aq
  refine zl cg rfl (bX 0 _ rfl) ?_
  exact pv
  refine vk aB (λx w2 aq=>?_) ?_
  refine cW rfl rfl ?_
  exact pv
  refine vc (λ_ _ _=>zp rfl pv) ?_
  refine vc (λx w2 aq=>?_) ?_
  refine zm ?_
  exact pv (by exact congrArg Value.bool (dF jJ))
  refine vc (λ_ _ _=>zf cM rfl pv) ?_
  refine vk aB (λx w2 aq=>?_) ?_
  have aU:=aU.ext aq
  refine zl cK rfl (aU.at rfl) ?_
  exact pv
  refine vk aB (λx w2 aq=>?_) ?_
  refine zi (i:=3) cw aH rfl rfl om ?_
  exact pv
  refine vk aB (λx w2 aq=>?_) ?_
  have ew:=ew.ext aq
  refine zL bT aH rfl ew rfl ?_
  exact pv
  refine vk aB (λx w2 aq=>?_) ?_
  have eY:=eY.ext aq
  refine aC (AE (nth t.au 3) om (dx.nth om) _ _ w2 eY) ?_
  rintro v3 w3 ⟨et,aK⟩
  have gd:=aK.size
  obtain rfl:=et
  exact pk aK
  refine vc (λ_ _ _=>eH rfl pv) ?_
  refine vc (λ_ _ _=>zp rfl pv) ?_
  refine vc (λx w2 aq=>?_) ?_
  refine zm ?_
  exact pv (by exact congrArg Value.bool (show(!kq (nth t.au 3))=true from by rw[h3];rfl))
  refine vc (λx w2 aq=>?_) ?_
  exact du pv
  refine vk aB (λx w2 aq=>?_) ?_
  exact du pv
  refine vk aB (λx w2 aq=>?_) ?_
  exact du pv
  refine vk aB (λx w2 aq=>?_) ?_
  exact du pv
  refine vk aB (λx w2 aq=>?_) ?_
  exact du pv
  refine vc (λx w2 aq=>?_) ?_
  exact du pv
  refine vc (λ_ _ _=>zp rfl pv) ?_
  refine vc (λ_ _ _=>zp rfl pv) ?_
  exact trivial
  intro x pT iB
  have hK:=hK.ext iB
  change OW _ _ _ _ [] (aM (aN _ x _) (zZ 52 [_,_,_,_,_,_,_,_,_,_,_,_,_,_,_,_,_,_,_,_,_,_,_,_,_,_,_,_,_,_,_,_,_,_,_,_,_,_,_,_])) _
  refine ag ?_
  exact⟨(),⟨rfl,rfl,rfl,congrArg Value.bool (show true=_ from by unfold BZ;rw[dT h5,h2,h3,Bool.and_false];rfl)⟩,hK,iB⟩
  obtain⟨h5,h2,jJ,h3,h4⟩:=lp
  have h6:=FV h5
  obtain⟨gY,qT,gZ,bC,dd⟩:=jE 1 om
  obtain⟨jc,AD,jd,bX,eA⟩:=jE 2 om
  obtain⟨pU,Tj,pV,ew,eY⟩:=jE 3 om
  obtain⟨MG,pn4,MH,jI,pW⟩:=jE 4 om
  have gd:=lX (t:=t) (i:=3) om
  have gK:=lX (t:=t) (i:=4) om
  apply mx eu 40 (rA 52 40) (rA 52 40) [[],[0],[1],[2],[2,3],[2,4],[2,5],[2,6],[2,7],[2,8],[2,9],[10],[10,11],[10,12],[10,13],[10,14],[10],[10,16],[10,17],[10,18],[10,19],[10,15,20],[2,10,21],[2,22],[23],[23,24],[23,25],[23,26],[23,27],[23,28],[2,23,29],[2,30],[31],[31,32],[31,33],[31,34],[31,35],[31,36],[2,31,37],[2,38]] [It.v _,It.v _,It.v (.bool true),It.v _,It.v _,It.v _,It.v _,It.v _,It.v _,It.v _,It.v (.bool false),It.v _,It.v _,It.v _,It.v _,It.v _,It.v _,It.v _,It.v _,It.v _,It.v _,It.v _,It.v _,It.v (.bool false),It.v _,It.v _,It.v _,It.v _,It.v _,It.v _,It.v _,It.v (.bool false),It.v _,It.v _,It.v _,It.v _,It.v _,It.v _,It.v _,It.v _] de rfl
  intro wd aB
  refine eM ?_
  refine vk aB (λx w2 aq=>?_) ?_
  refine dO rfl rfl rfl ?_
  exact pv
  refine vc (λx w2 aq=>?_) ?_
  refine zm ?_
  exact pv (by exact congrArg Value.bool (dT om))
  refine vc (λ_ _ _=>zf cM rfl pv) ?_
  refine vk aB (λx w2 aq=>?_) ?_
  have aU:=aU.ext aq
  refine zl cK rfl (aU.at rfl) ?_
  exact pv
  refine vk aB (λx w2 aq=>?_) ?_
  refine zi (i:=2) cw aH rfl rfl om ?_
  exact pv
  refine vc (λ_ _ _=>zf dB rfl pv) ?_
  refine vk aB (λx w2 aq=>?_) ?_
  have bX:=bX.ext aq
  refine zl cg rfl (bX 0 _ rfl) ?_
  exact pv
  refine vk aB (λx w2 aq=>?_) ?_
  refine aC (uX _ _) ?_
  rintro _ _ ⟨rfl,rfl⟩
  exact pv
  refine vc (λ_ _ _=>eH rfl pv) ?_
  refine vc (λx w2 aq=>?_) ?_
  refine zm ?_
  exact pv (by exact congrArg Value.bool (show(!eP (nth t.au 2).az)=false from by rw[h2];rfl))
  refine vc (λ_ _ _=>zf cM rfl pv) ?_
  refine vk aB (λx w2 aq=>?_) ?_
  have aU:=aU.ext aq
  refine zl cK rfl (aU.at rfl) ?_
  exact pv
  refine vk aB (λx w2 aq=>?_) ?_
  refine zi (i:=1) cw aH rfl rfl om ?_
  exact pv
  refine vc (λ_ _ _=>zf dB rfl pv) ?_
  refine vk aB (λx w2 aq=>?_) ?_
  have bC:=bC.ext aq
  refine zl cg rfl (bC 0 _ rfl) ?_
  exact pv
  refine vc (λ_ _ _=>zf cM rfl pv) ?_
  refine vk aB (λx w2 aq=>?_) ?_
  have aU:=aU.ext aq
  refine zl cK rfl (aU.at rfl) ?_
  exact pv
  refine vk aB (λx w2 aq=>?_) ?_
  refine zi (i:=2) cw aH rfl rfl om ?_
  exact pv
  refine vc (λ_ _ _=>zf dB rfl pv) ?_
  refine vk aB (λx w2 aq=>?_) ?_
  have bX:=bX.ext aq
  refine zl cg rfl (bX 0 _ rfl) ?_
  exact pv
  refine vk aB (λx w2 aq=>?_) ?_
  refine cW rfl rfl ?_
  exact pv
  refine vc (λ_ _ _=>zp rfl pv) ?_
  refine vc (λx w2 aq=>?_) ?_
  refine zm ?_
  exact pv (by exact congrArg Value.bool (dF jJ))
  refine vc (λ_ _ _=>zf cM rfl pv) ?_
  refine vk aB (λx w2 aq=>?_) ?_
  have aU:=aU.ext aq
  refine zl cK rfl (aU.at rfl) ?_
  exact pv
  refine vk aB (λx w2 aq=>?_) ?_
  refine zi (i:=3) cw aH rfl rfl om ?_
  exact pv
  refine vk aB (λx w2 aq=>?_) ?_
  have ew:=ew.ext aq
  refine zL bT aH rfl ew rfl ?_
  exact pv
  refine vk aB (λx w2 aq=>?_) ?_
  have eY:=eY.ext aq
  refine aC (AE (nth t.au 3) om (dx.nth om) _ _ w2 eY) ?_
  rintro v3 w3 ⟨et,aK⟩
  have gd:=aK.size
  obtain rfl:=et
  exact pk aK
  refine vc (λ_ _ _=>eH rfl pv) ?_
  refine vc (λ_ _ _=>zp rfl pv) ?_
  refine vc (λx w2 aq=>?_) ?_
  refine zm ?_
  exact pv (by exact congrArg Value.bool (show(!kq (nth t.au 3))=false from by rw[h3];rfl))
  refine vc (λ_ _ _=>zf cM rfl pv) ?_
  refine vk aB (λx w2 aq=>?_) ?_
  have aU:=aU.ext aq
  refine zl cK rfl (aU.at rfl) ?_
  exact pv
  refine vk aB (λx w2 aq=>?_) ?_
  refine zi (i:=4) cw aH rfl rfl om ?_
  exact pv
  refine vk aB (λx w2 aq=>?_) ?_
  have jI:=jI.ext aq
  refine zL bT aH rfl jI rfl ?_
  exact pv
  refine vk aB (λx w2 aq=>?_) ?_
  have pW:=pW.ext aq
  refine aC (AE (nth t.au 4) om (dx.nth om) _ _ w2 pW) ?_
  rintro v3 w3 ⟨et,aK⟩
  have gd:=aK.size
  obtain rfl:=et
  exact pk aK
  refine vc (λ_ _ _=>eH rfl pv) ?_
  refine vc (λ_ _ _=>zp rfl pv) ?_
  refine vc (λ_ _ _=>zp rfl pv) ?_
  exact trivial
  intro x pT iB
  have hK:=hK.ext iB
  change OW _ _ _ _ [] (aM (aN _ x _) (zZ 52 [_,_,_,_,_,_,_,_,_,_,_,_,_,_,_,_,_,_,_,_,_,_,_,_,_,_,_,_,_,_,_,_,_,_,_,_,_,_,_,_])) _
  refine ag ?_
  exact⟨(),⟨rfl,rfl,rfl,congrArg Value.bool (show(!kq (nth t.au 4))=_ from by unfold BZ;rw[dT h5,h2,h3,h4,Bool.and_false];rfl)⟩,hK,iB⟩
  obtain⟨h5,h2,jJ,h3,h4⟩:=lp
  have h6:=FV h5
  obtain⟨gY,qT,gZ,bC,dd⟩:=jE 1 om
  obtain⟨jc,AD,jd,bX,eA⟩:=jE 2 om
  obtain⟨pU,Tj,pV,ew,eY⟩:=jE 3 om
  obtain⟨MG,pn4,MH,jI,pW⟩:=jE 4 om
  have gd:=lX (t:=t) (i:=3) om
  have gK:=lX (t:=t) (i:=4) om
  apply mx eu 40 (rA 52 40) (rA 52 40) [[],[0],[1],[2],[2,3],[2,4],[2,5],[2,6],[2,7],[2,8],[2,9],[10],[10,11],[10,12],[10,13],[10,14],[10],[10,16],[10,17],[10,18],[10,19],[10,15,20],[2,10,21],[2,22],[23],[23,24],[23,25],[23,26],[23,27],[23,28],[2,23,29],[2,30],[31],[31,32],[31,33],[31,34],[31,35],[31,36],[2,31,37],[2,38]] [It.v _,It.v _,It.v (.bool true),It.v _,It.v _,It.v _,It.v _,It.v _,It.v _,It.v _,It.v (.bool false),It.v _,It.v _,It.v _,It.v _,It.v _,It.v _,It.v _,It.v _,It.v _,It.v _,It.v _,It.v _,It.v (.bool false),It.v _,It.v _,It.v _,It.v _,It.v _,It.v _,It.v _,It.v (.bool false),It.v _,It.v _,It.v _,It.v _,It.v _,It.v _,It.v _,It.v _] de rfl
  intro wd aB
  refine eM ?_
  refine vk aB (λx w2 aq=>?_) ?_
  refine dO rfl rfl rfl ?_
  exact pv
  refine vc (λx w2 aq=>?_) ?_
  refine zm ?_
  exact pv (by exact congrArg Value.bool (dT om))
  refine vc (λ_ _ _=>zf cM rfl pv) ?_
  refine vk aB (λx w2 aq=>?_) ?_
  have aU:=aU.ext aq
  refine zl cK rfl (aU.at rfl) ?_
  exact pv
  refine vk aB (λx w2 aq=>?_) ?_
  refine zi (i:=2) cw aH rfl rfl om ?_
  exact pv
  refine vc (λ_ _ _=>zf dB rfl pv) ?_
  refine vk aB (λx w2 aq=>?_) ?_
  have bX:=bX.ext aq
  refine zl cg rfl (bX 0 _ rfl) ?_
  exact pv
  refine vk aB (λx w2 aq=>?_) ?_
  refine aC (uX _ _) ?_
  rintro _ _ ⟨rfl,rfl⟩
  exact pv
  refine vc (λ_ _ _=>eH rfl pv) ?_
  refine vc (λx w2 aq=>?_) ?_
  refine zm ?_
  exact pv (by exact congrArg Value.bool (show(!eP (nth t.au 2).az)=false from by rw[h2];rfl))
  refine vc (λ_ _ _=>zf cM rfl pv) ?_
  refine vk aB (λx w2 aq=>?_) ?_
  have aU:=aU.ext aq
  refine zl cK rfl (aU.at rfl) ?_
  exact pv
  refine vk aB (λx w2 aq=>?_) ?_
  refine zi (i:=1) cw aH rfl rfl om ?_
  exact pv
  refine vc (λ_ _ _=>zf dB rfl pv) ?_
  refine vk aB (λx w2 aq=>?_) ?_
  have bC:=bC.ext aq
  refine zl cg rfl (bC 0 _ rfl) ?_
  exact pv
  refine vc (λ_ _ _=>zf cM rfl pv) ?_
  refine vk aB (λx w2 aq=>?_) ?_
  have aU:=aU.ext aq
  refine zl cK rfl (aU.at rfl) ?_
  exact pv
  refine vk aB (λx w2 aq=>?_) ?_
  refine zi (i:=2) cw aH rfl rfl om ?_
  exact pv
  refine vc (λ_ _ _=>zf dB rfl pv) ?_
  refine vk aB (λx w2 aq=>?_) ?_
  have bX:=bX.ext aq
  refine zl cg rfl (bX 0 _ rfl) ?_
  exact pv
  refine vk aB (λx w2 aq=>?_) ?_
  refine cW rfl rfl ?_
  exact pv
  refine vc (λ_ _ _=>zp rfl pv) ?_
  refine vc (λx w2 aq=>?_) ?_
  refine zm ?_
  exact pv (by exact congrArg Value.bool (dF jJ))
  refine vc (λ_ _ _=>zf cM rfl pv) ?_
  refine vk aB (λx w2 aq=>?_) ?_
  have aU:=aU.ext aq
  refine zl cK rfl (aU.at rfl) ?_
  exact pv
  refine vk aB (λx w2 aq=>?_) ?_
  refine zi (i:=3) cw aH rfl rfl om ?_
  exact pv
  refine vk aB (λx w2 aq=>?_) ?_
  have ew:=ew.ext aq
  refine zL bT aH rfl ew rfl ?_
  exact pv
  refine vk aB (λx w2 aq=>?_) ?_
  have eY:=eY.ext aq
  refine aC (AE (nth t.au 3) om (dx.nth om) _ _ w2 eY) ?_
  rintro v3 w3 ⟨et,aK⟩
  have gd:=aK.size
  obtain rfl:=et
  exact pk aK
  refine vc (λ_ _ _=>eH rfl pv) ?_
  refine vc (λ_ _ _=>zp rfl pv) ?_
  refine vc (λx w2 aq=>?_) ?_
  refine zm ?_
  exact pv (by exact congrArg Value.bool (show(!kq (nth t.au 3))=false from by rw[h3];rfl))
  refine vc (λ_ _ _=>zf cM rfl pv) ?_
  refine vk aB (λx w2 aq=>?_) ?_
  have aU:=aU.ext aq
  refine zl cK rfl (aU.at rfl) ?_
  exact pv
  refine vk aB (λx w2 aq=>?_) ?_
  refine zi (i:=4) cw aH rfl rfl om ?_
  exact pv
  refine vk aB (λx w2 aq=>?_) ?_
  have jI:=jI.ext aq
  refine zL bT aH rfl jI rfl ?_
  exact pv
  refine vk aB (λx w2 aq=>?_) ?_
  have pW:=pW.ext aq
  refine aC (AE (nth t.au 4) om (dx.nth om) _ _ w2 pW) ?_
  rintro v3 w3 ⟨et,aK⟩
  have gd:=aK.size
  obtain rfl:=et
  exact pk aK
  refine vc (λ_ _ _=>eH rfl pv) ?_
  refine vc (λ_ _ _=>zp rfl pv) ?_
  refine vc (λ_ _ _=>zp rfl pv) ?_
  exact trivial
  intro x pT iB
  have hK:=hK.ext iB
  change OW _ _ _ _ [] (aM (aN _ x _) (zZ 52 [_,_,_,_,_,_,_,_,_,_,_,_,_,_,_,_,_,_,_,_,_,_,_,_,_,_,_,_,_,_,_,_,_,_,_,_,_,_,_,_])) _
  refine ag ?_
  exact⟨(),⟨rfl,rfl,rfl,congrArg Value.bool (show(!kq (nth t.au 4))=_ from by unfold BZ;rw[dT h5,h2,h3,h4,dT jJ];rfl)⟩,hK,iB⟩
  intro gu qz yl hI
  obtain⟨hK,aG⟩:=hI
  have aU:=aU.ext aG;have bc:=bc.ext aG
  refine zc rfl (λh7=>?_) (λh7=>?_)
  have hz:dU t=false:=(by simp only[aE,dE,Bool.not_eq_true'] at h7;rw[oK,dF (λh=>h h7.1),h7.2];rfl)
  refine zr<|zA<|ag<|aV ?_
  exact⟨_,rfl,by rw[hz];rfl,hK⟩
  have IP:dU t=(t.au.drop (eX (nth t.au 0).az).1).all dU:=(by simp only[Bool.and_eq_false_iff,decide_eq_false_iff_not,Bool.not_eq_false'] at h7;rw[oK];rcases h7 with h|h;(·rw[dT h];rfl);(·rw[h,Bool.or_true];rfl))
  refine bA<|aQ<|zr<|zm<|zA<|ag<|cP ?_
  refine fZ (λk:Nat=>[(1,.pointer (some ⟨w.heap.size,0,none⟩)),(6,.int .i64 ((eX (nth t.au 0).az).2:Int)),(7,.int .i64 (k:Int))]) (λk w'=>ak [] w w'∧ak [] qz w'∧(eX (nth t.au 0).az).1<=k∧k<=t.au.length∧∀j,(eX (nth t.au 0).az).1<=j->j<k->dU (nth t.au j)=true) (λk=>t.au.length-k) ((eX (nth t.au 0).az).1) (⟨rfl,rfl,rfl⟩) (⟨hK,ak.refl _ _,lR _,om,by intro j h1 h2;omega⟩) ?_
  intro gg nP DO hI
  obtain⟨hK,ku,aJ,hk,dA⟩:=hI
  have aU:=aU.ext ku;have bc:=bc.ext ku
  refine aQ<|zr<|zm<|zm<|fJ rfl rfl rfl<|ag<|zc rfl (λh8=>?_) (λh8=>?_)
  have iu:gg<t.au.length:=om
  obtain⟨b1,ga,gY,qT,gZ,e1,bC,sv,oY⟩:=j8 bc (iM iu)
  cases e1
  subst sv
  have dd:=mS oY
  have dy:=lX iu
  refine bA<|aQ<|cP<|zr<|zf cM rfl<|zl cK rfl (aU.at rfl)<|zm<|zi cw aH rfl rfl iu<|zL bT aH rfl bC rfl<|aC (ih (nth t.au gg) om om (dx.nth iu) _ _ nP dd) ?_
  rintro v44 pX ⟨adr,jR⟩
  have alL:=jR.size
  have hK:=hK.ext jR;have ku:=ku.ext jR
  obtain rfl:=adr
  refine eH rfl<|ag<|zc rfl (λh9=>?_) (λh9=>?_)
  have hz:dU t=false:=(by rw[IP];exact adm aJ iu (by simpa using h9))
  refine zr<|zA<|ag<|aV ?_
  exact⟨_,rfl,by rw[hz];rfl,hK⟩
  have hy:dU (nth t.au gg)=true:=(by simpa using h9)
  refine bA<|db<|zm<|eE rfl rfl rfl (wrap_i64 _ om om)<|zA<|ag ?_
  exact⟨gg+1,⟨rfl,rfl,rfl⟩,⟨hK,ku,om,om,by intro j h1 h2;rcases Nat.lt_or_ge j gg with h|h;exact dA j h1 h;rw[show j=gg by omega];exact hy⟩,om⟩
  refine gF<|gH rfl<|zr<|zA<|ag<|aV ?_
  exact⟨_,rfl,by rw[IP,adl (λj h1 h2=>dA j h1 om)];rfl,hK⟩
section
variable {P:Program} {w:World}
theorem ads {t ty T:TypeId} {i:TypeInfo} {sz bytes:Nat} (ht:P.underlying t=some (.slice T)) (hi:P.info? T=some i) (hz:i.zero=some z) 
  (Bc:i.size=sz) (ig:i.bytes=bytes) (xu:z.cells.size=sz)
  {v:Value} {g:Option Nat} {n:Nat} {xs:List Value} (dY:jX w T sz v g n xs)
  (ab aoff m c:Nat) (news:List Value) (hl:news.length=m*sz) (Bd:iH w ab aoff news) (h1:∀u∈news,u.oneCell'=true) (hm:0<m) (adt:0<i.size)
  (zg:n+m<=maxLen) (xv:(n+m)*bytes<=140737488355328):
  ∃v' g' w',(Builtin.append_ #[t,t] ty #[v,.slice (some ⟨ab,aoff,none⟩) m c]).run P w= .ok v' w'∧jX w' T sz v' g' (n+m) (xs++news)∧
   ((g'=g∧ak g.toList w w'∧∀b,g=some b->∃cur U,aY w b cur U∧0<cur.size)∨(g'=some w.heap.size∧ak [] w w')):=by
 subst Bc
 subst ig
 have Hy:n+m<=9223372036854775807:=by simp only[maxLen] at zg;omega
 have hlen:(xs++news).length=(n+m)*i.size:=by rw[lA,dY.1,hl,Nat.add_mul]
 have vR:∀b o j:Nat,(⟨b,o,none⟩:Addr).add j=⟨b,o+j,none⟩:=λb o j=>by unfold Addr.add;split<;>simp_all
 have uq:∀j u,news[j]?=some u->w.cell? ((⟨ab,aoff,none⟩:Addr).add j)=some u:=λj u hu=>by rw[vR];exact Bd j u hu
 have grown:∀(old:Nat),old<n+m->
   jX (w.drew.alloc (.cells (xs.toArray++news.toArray++Builtin.zeroCells z.cells (grownCap w (n+m) old T-(n+m))) T)) T i.size
    (.slice (some ⟨w.heap.size,0,none⟩) (n+m) (grownCap w (n+m) old T)) (some w.heap.size) (n+m) (xs++news)∧
   ak [] w (w.drew.alloc (.cells (xs.toArray++news.toArray++Builtin.zeroCells z.cells (grownCap w (n+m) old T-(n+m))) T)):=by
  intro old ho
  have rL:=grownCap_ge w (n+m) old T
  have mo:grownCap w (n+m) old T<=maxLen:=grownCap_le_maxLen w (n+m) old T zg
  refine⟨⟨hlen,.inr ⟨w.heap.size,_,_,rfl,rfl,heap_alloc_new w.drew _,rL,mo,?_,?_⟩⟩,⟨rfl,rfl,rfl,sm,λk hk _=>heap_alloc_old w.drew _ k hk⟩⟩
  ·simp only[Array.size_append,List.size_toArray,size_zeroCells,xu,dY.1,hl,<-Nat.add_mul]
   congr 1
   omega
  ·simp only[Array.toList_append,List.append_assoc]
   rw[<-List.append_assoc,<-hlen]
   exact List.take_left
 rcases dY.2 with⟨rfl,rfl,rfl⟩|⟨b,cap,cur,rfl,rfl,hb,mM,mo,cJ,th⟩
 ·have hx:xs=[]:=List.eq_nil_of_length_eq_zero (by simpa using dY.1)
  subst hx
  have hr:=run_append_nil (P:=P) w t ty T i z ht hi hz ⟨ab,aoff,none⟩ m c news hl uq hm om (by have hb:=xv;simp only[Nat.zero_add] at hb;omega)
  have lx:=grown 0 om
  simp only[Nat.zero_add,List.nil_append,Array.empty_append] at lx⊢
  exact⟨_,_,_,hr,lx.1,.inr ⟨rfl,lx.2⟩⟩
 ·by_cases sn:n+m<=cap
  ·have lv:n*i.size+news.length<=cur.size:=by rw[hl,cJ,<-Nat.add_mul];exact Nat.mul_le_mul_right _ sn
   have hr:=run_append_room (P:=P) w t ty T i ht hi b n cap cur hb ⟨ab,aoff,none⟩ m c news hl uq h1 sn lv
   refine⟨_,some b,_,hr,⟨hlen,.inr ⟨b,cap,_,rfl,rfl,setRow_heap w b cur _ T _ hb,sn,mo,?_,?_⟩⟩,.inl ⟨rfl,⟨rfl,rfl,rfl,sm,λk _ hk=>setRow_other w b k _ (by simpa using hk)⟩,λb' gW=>?_⟩⟩
   ·simp only[List.size_toArray,lA,List.length_take,List.length_drop,Array.length_toList]
    omega
   ·rw[th,<-hlen]
    exact List.take_left
   ·cases gW
    refine⟨cur,T,hb,?_⟩
    rw[cJ]
    exact Nat.mul_pos om adt
  ·have holds:∀j u,xs[j]?=some u->w.cell? ((⟨b,0,none⟩:Addr).add j)=some u:=λj u hu=>by
    rw[vR,hb.cell]
    rw[<-th,List.getElem?_take] at hu
    split at hu
    ·simpa using hu
    ·cases hu
   have hr:=run_append_grow (P:=P) w t ty T i z ht hi hz ⟨b,0,none⟩ n cap xs dY.1 holds ⟨ab,aoff,none⟩ m c news hl uq om om (growslice_fits om xv)
   have lx:=grown cap om
   exact⟨_,_,_,hr,lx.1,.inr ⟨rfl,lx.2⟩⟩
end
def qA (G:List Nat) (w:World) (T:TypeId) (g:Option Nat):Prop:=∀x,x∈g.toList->x∈G∨aY w x #[] T
theorem qA.ext {T:TypeId} (h:qA G w T g) (k:ak [] w w'):qA G w' T g:=λx hx=>(h x hx).imp id λh=>h.ext k
theorem qA.sub {T:TypeId} (h:∀x,x∈g.toList->x∈G):qA G w T g:=λx hx=>.inl (h x hx)
section
variable {P:Program} {n:Nat} {ops:Array Oper} {K:Env->World->Prop} {rest:List Oper} {e:Env} {w:World} {dst:Option Nat} {ty:TypeId} {pos:String} {after:Array Edge} {g:Option (Nat×Bool)} {x y:Operand}
theorem DP {G L:List Nat} {v u:Value} {gb:Option Nat} {xs ys:List aj} (hT:P.underlying t=some (.slice E)) (hE:TI P E 1 bytes z) (hg:gate ops e g=true) (hd:dw n dst=true) (hz:Nat.beq z.cells.size 1=true) (ig:Nat.ble bytes 1000=true) 
  (hx:ev e x=v) (hy:ev e y=u) (hO:dh w E v gb xs) (hu:bI L w u ys) (hG:fy G w) (bF:qA G w E gb) (hn:xs.length+ys.length<100000000)
  (k:∀v' g' w' G',dh w' E v' g' (xs++ys)->qA G' w' E g'->(∀x,x∈g'.toList->x∈gb.toList∨w.heap.size<=x)->(∀x,x∈G->x∈G')->Fr G w G' w'->fy G' w'->ak gb.toList w w'->OW P n ops K rest (cO e dst v') w'):
  OW P n ops K (⟨dst,.call {callee:=.builtin .append,args:=#[x,y],argTypes:=#[t,t]},ty,pos,after,g⟩::rest) e w:=by
 obtain⟨i,hi,Bp,iY,LV⟩:=hE.get
 have Dm:bytes<=1000:=Nat.le_of_ble_eq_true ig
 obtain⟨a2,n2,c2,rfl,fu⟩:=eI hu
 subst fu
 by_cases hp:0<ys.length
 ·obtain⟨ab,aoff,vs,rfl,H9,alM,hc,H4,_,iI⟩:=Rr hu (by rw[rP];exact hp)
  have bo:=LW H4
  subst bo
  obtain⟨v',g',w',kl,xC,adu⟩:=ads (P:=P) (ty:=ty) hT hi Bp iY LV (Nat.eq_of_beq_eq_true hz) hO ab aoff ys.length c2 (ys.map λx=>str x) sm hc (by intro u hu;obtain⟨s,_,rfl⟩:=List.mem_map.1 hu;rfl) hp (by rw[iY];decide) (by simp only[maxLen];omega)
   (Nat.le_trans (Nat.mul_le_mul (show xs.length+ys.length<=100000000 by omega) Dm) de)
  have MI:dh w' E v' g' (xs++ys):=by
   unfold dh
   rw[lA,List.map_append]
   exact xC
  refine fT hg hd (v:=v') (w':=w') (by
   simp only[execOp,resolve,invoke,builtin,Sem.run_bind,Sem.run_pure,Result.andThen_ok,List.map_toArray,List.map_cons,List.map_nil,hx,hy,kl]) ?_
  rcases adu with⟨rfl,hk,FW⟩|⟨rfl,hk⟩
  ·have AG:∀q,q∈g'.toList->q∈G:=λq hq=>by
    rcases bF q hq with h|h
    ·exact h
    ·obtain⟨cur,U,hb,hs⟩:=FW q (by simpa using hq)
     unfold aY at h hb
     rw[h] at hb
     cases hb
     simp at hs
   exact k v' g' w' G MI (qA.sub AG) (λq hq=>.inl hq) (λq hq=>hq) (Fr.of hk AG) (λq hq=>lL (hG q hq) hk.size) hk
  ·have eU:w.heap.size<w'.heap.size:=MI.lt _ sm
   refine k v' _ w' (w.heap.size::G) MI (qA.sub sm) (λq hq=>.inr (by simp at hq;omega)) (λq hq=>mK _ hq) ⟨hk.any,λq hq=>?_⟩ (λq hq=>?_) hk.any
   ·rcases mC.1 hq with h|h
    ·right;omega
    ·exact .inl h
   ·rcases mC.1 hq with h|h
    ·omega
    ·exact lL (hG q h) hk.size
 ·have nR:ys=[]:=List.length_eq_zero_iff.1 om
  subst nR
  obtain⟨a,cap,rfl⟩:=kr hO
  have C1:xs.length<=cap:=by
   rcases hO.2 with⟨h,h2,_⟩|⟨_,_,_,_,h,_,h2,_⟩
   ·rw[h2];omega
   ·cases h;exact h2
  have kl:=Rs (P:=P) (w:=w) (t:=t) (ty:=ty) hT hi (a:=a) (m:=xs.length) (cap:=cap) C1 (a2:=a2) (c2:=c2)
  refine fT hg hd (v:=.slice a xs.length cap) (w':=w) (by
   simp only[execOp,resolve,invoke,builtin,Sem.run_bind,Sem.run_pure,Result.andThen_ok,List.map_toArray,List.map_cons,List.map_nil,hx,hy]
   have e2:([]:List aj).length=0:=rfl
   rw[e2]
   simp only[kl,Sem.run_bind,Sem.run_pure,Result.andThen_ok]) ?_
  exact k _ gb w G (by rw[List.append_nil];exact hO) bF (λq hq=>.inl hq) (λq hq=>hq) (Fr.refl _ _) hG (ak.refl _ _)
theorem adv {T:Nat} (hT:P.underlying T=some (.slice E)) (hE:TI P E sz bytes z) (hg:gate ops e g=true) (hd:dw n dst=true) 
  (k:∀w',ak [] w w'->aY w' w.heap.size #[] E->w'.heap.size=w.heap.size+1->OW P n ops K rest (cO e dst (.slice (some ⟨w.heap.size,0,none⟩) 0 0)) w'):
  OW P n ops K (⟨dst,.buildSlice T 0 #[],ty,pos,after,g⟩::rest) e w:=
 fT hg hd (w':=w.alloc (.cells #[] E)) (by simp[execOp,QK (P:=P) (w:=w) hT hE]) (k _ (ak.alloc _ _ _) (aY.alloc _ _ _) sm)
theorem gM {T:Nat} (hT:P.underlying T=some (.slice E)) (hE:TI P E sz bytes z) (k:∀w',ak [] w w'->aY w' w.heap.size #[] E->w'.heap.size=w.heap.size+1->OW P n ops K rest (cO e dst (.slice (some ⟨w.heap.size,0,none⟩) 0 0)) w') (hg:gate ops e g=true:=by rfl) (hd:dw n dst=true:=by rfl):OW P n ops K (⟨dst,.buildSlice T 0 #[],ty,pos,after,g⟩::rest) e w:=adv hT hE hg hd k
end
def LP (N:Nat) (G G0:List Nat) (w:World) (T:TypeId) (v:Value) (xs:List aj):Prop:=∃g,dh w T v g xs∧qA G w T g∧∀x,x∈g.toList->x∉G0∧N<=x
theorem LP.ext {T:TypeId} (h:LP N G G0 w T v xs) (k:ak [] w w'):LP N G G0 w' T v xs:=let⟨g,h1,h2,h3⟩:=h;⟨g,h1.ext k,h2.ext k,h3⟩
structure Out (N:Nat) (G0:List Nat) (w w':World):Prop where
 ex:∃H,ak H w w'∧∀x,x∈H->x∉G0∧N<=x
theorem Out.ju (h:Out N G0 w w') {cs:Array Value} {T:TypeId} (hb:aY w b cs T) (hG:b∈G0):aY w' b cs T:=let⟨_,k,hH⟩:=h.ex;hb.aO k λhx=>(hH b hx).1 hG
theorem Out.since (h:Out w0.heap.size G0 w w') (k:ak L w0 w):ak L w0 w':=let⟨_,kk,hH⟩:=h.ex;k.since kk λx hx=>.inr (hH x hx).2
section
variable {P:Program} {n:Nat} {ops:Array Oper} {K:Env->World->Prop} {rest:List Oper} {e:Env} {w:World} {dst:Option Nat} {ty:TypeId} {pos:String} {after:Array Edge} {g:Option (Nat×Bool)} {x y:Operand}
theorem FX {N:Nat} {G0:List Nat} {bb:Nat} {u:Value} {ys:List aj} (hT:P.underlying t=some (.slice E)) (hE:TI P E 1 bytes z) (hg:gate ops e g=true) (hd:dw n dst=true) (hz:Nat.beq z.cells.size 1=true) (ig:Nat.ble bytes 1000=true) 
  (hx:ev e x= .slice (some ⟨bb,0,none⟩) 0 0) (hy:ev e y=u) (hb:fh G0 w bb #[] E) (Tl:N<=bb) (hu:bI G0 w u ys) (hG:fy G0 w) (hn:ys.length<100000000)
  (k:∀v' w' G',(∀q,q∈G0->q∈G')->LP N G' G0 w' E v' ys->Fr G0 w G' w'->fy G' w'->Out N G0 w w'->OW P n ops K rest (cO e dst v') w'):
  OW P n ops K (⟨dst,.call {callee:=.builtin .append,args:=#[x,y],argTypes:=#[t,t]},ty,pos,after,g⟩::rest) e w:=by
 refine DP hT hE hg hd hz ig hx hy hb.ju.ll hu hG (λq hq=>.inr (by simp at hq;subst hq;exact hb.ju)) (by simpa using hn) ?_
 intro v' g' w' G' hO hZ hs kv bY hl hk
 refine k v' w' G' kv ⟨g',hO,hZ,λq hq=>⟨λTm=>?_,?_⟩⟩ bY hl ⟨_,hk,λq hq=>?_⟩
 ·rcases hs q hq with h|h
  ·simp at h;subst h;exact hb.out Tm
  ·have:=hG q Tm;omega
 ·rcases hs q hq with h|h
  ·simp at h;subst h;exact Tl
  ·have:=hb.ju.lt;omega
 ·simp at hq;subst hq;exact⟨hb.out,Tl⟩
theorem IQ {N:Nat} {G G0:List Nat} {v u:Value} {xs ys:List aj} (hT:P.underlying t=some (.slice E)) (hE:TI P E 1 bytes z) (hg:gate ops e g=true) (hd:dw n dst=true) (hz:Nat.beq z.cells.size 1=true) (ig:Nat.ble bytes 1000=true) 
  (hx:ev e x=v) (hy:ev e y=u) (hO:LP N G G0 w E v xs) (hu:bI G w u ys) (hG:fy G w) (kv:∀q,q∈G0->q∈G) (hn:xs.length+ys.length<100000000)
  (k:∀v' w',bI G0 w' v' (xs++ys)->Fr G w G0 w'->fy G0 w'->Out N G0 w w'->OW P n ops K rest (cO e dst v') w'):
  OW P n ops K (⟨dst,.call {callee:=.builtin .append,args:=#[x,y],argTypes:=#[t,t]},ty,pos,after,g⟩::rest) e w:=by
 obtain⟨gb,h1,h2,h3⟩:=hO
 refine DP hT hE hg hd hz ig hx hy h1 hu hG h2 hn ?_
 intro v' g' w' G' hO hZ hs Tn bY hl hk
 refine k v' w' (hO.rep λb hb jS=>?_) (bY.to λq hq=>.inl (Tn q (kv q hq))) (λq hq=>hl q (Tn q (kv q hq))) ⟨_,hk,λq hq=>h3 q hq⟩
 rcases hs b (by simp[hb]) with h|h
 ·exact(h3 b h).1 jS
 ·have:=hG b (kv b jS);omega
end
theorem ey.out {T:TypeId} {rows:List (List C)} (h:ey G w T sz v g rows) (k:Fr G w G' w') (ho:Out N G0 w w') (hg:∀x,x∈g.toList->x∈G0):ey G' w' T sz v g rows:=
 let⟨_,kk,hH⟩:=ho.ex;h.aO k kk λx hx fF=>(hH x fF).1 (hg x hx)
section
variable {P:Program} {n:Nat} {ops:Array Oper} {K:Env->World->Prop} {rest:List Oper} {e:Env} {w:World} {pos:String} {ty:TypeId} {after:Array Edge} {g:Option (Nat×Bool)} {x y:Operand}
theorem sQ {G:List Nat} {T:Nat} {v:Value} {vs:List Value} {row:List C} {E gb:Nat} {N c:Nat} {rows:List (List C)} {b o i:Nat} (kK:TI P T sz bytes z) (hg:gate ops e g=true) 
  (hx:ev e x= .pointer (some ⟨b,o,none⟩)) (hy:ev e y=v) (hv:v.cells=vs.toArray) (ho:o=i*sz) (hO:ey G w E sz (.slice (some ⟨b,0,none⟩) N c) (some gb) rows) (hG:fy G w) (oD:gb∈G) (hi:i<rows.length) (h1:vs.all Value.oneCell'=true)
  (oC:row.length=sz) (hr:dQ G w vs row)
  (k:∀w',ak [gb] w w'->w'.heap.size=w.heap.size->ey G w' E sz (.slice (some ⟨b,0,none⟩) N c) (some gb) (rows.set i row)->OW P n ops K rest e w'):
  OW P n ops K (⟨none,.store T x y,ty,pos,after,g⟩::rest) e w:=by
 obtain⟨⟨xs,dY,ie⟩,iI⟩:=hO
 have rR:∀q,q∈gb::G.filter (λq=>decide (q≠gb))->q∈G∨w.heap.size<=q:=λq hq=>by
  rcases mC.1 hq with h|h
  ·exact .inl (h▸oD)
  ·exact .inl (List.mem_filter.1 h).1
 have hGr:Gr 0 (G.filter λq=>decide (q≠gb)) w E sz (.slice (some ⟨b,0,none⟩) N c) (some gb) rows:=
  ⟨⟨xs,dY,ie.fresh rR,iI,λq hq oK=>by cases hq;simpa using(List.mem_filter.1 oK).2⟩,λ_ _=>Nat.zero_le _,λq hq=>hG q (List.mem_filter.1 hq).1,Nat.zero_le _⟩
 refine abW kK hg hx hy hv ho hGr hi h1 oC (hr.fresh rR) ?_
 intro w' hk hz kn
 obtain⟨xs',h'⟩:=kn.own
 refine k w' hk hz ⟨⟨xs',h'.own,h'.rep.fresh λq hq=>?_⟩,h'.row⟩
 by_cases To:q=gb
 ·exact .inl (by simp[To])
 ·exact .inl (by simp[To,hq])
end
theorem adx {s:aj} {t:aA} (h:Dr s t):(((ba s).isSome&&dU t)&&decide ((fP t:Int)<=120))=mB s:=by
 unfold mB IL
 cases hp:ba s with
 |none=>rfl
 |some u=>rw[h.1 u hp];exact congrArg (λb=>dU u&&b) (decide_eq_decide.2 om)
theorem FY (s:aj) (L:List Nat) (w:World) (hL:∀x,x∈L->x<w.heap.size):
  bZ Tryz.prog 81 [str s] w λv w'=>(∃t tv,v= .tuple #[tv,.bool (mB s)]∧bS L w' tv t∧Dr s t)∧ak [] w w':=by
 have hK:=ak.refl [] w
 refine lz [.cell 2 66,.tmp 3] 22 Tryz.func81 rfl ZH rfl rfl rfl ?_
 refine zr<|eC aH rfl rfl rfl ?_
 intro w1 aJ aZ dV
 have hK:=hK.grow;have hK:=hK.ext aJ
 refine zA<|ag<|zr<|zm<|aC (H5 s (w.heap.size::L) w1 (by intro x hx;rcases mC.1 hx with rfl|hx;omega;have:=hL x hx;omega)) ?_
 rintro v2 w2 ⟨dz,aq⟩
 have dR:=aq.size
 have hK:=hK.ext aq;have aZ:=aZ.ext aq
 obtain⟨t,tv,rfl,ht,hp⟩:=dz
 obtain⟨pa,pn,pc,rfl,fR,bc⟩:=dN ht
 subst fR
 have dx:∀h:(ba s).isSome=true,WF t∧t.size<=12001:=λh=>Dq hp.1 h
 refine zm<|zx (i:=0) rfl rfl<|zx (i:=1) rfl rfl<|eC aH rfl rfl rfl ?_
 intro w3 aK aI iK
 have hK:=hK.grow;have hK:=hK.ext aK;have aZ:=aZ.grow;have aZ:=aZ.ext aK;have ht:=ht.grow;have ht:=ht.ext aK
 refine dk aH rfl rfl rfl aI rfl ?_
 intro w4 aD aI iL
 have hK:=hK.aL aD sx;have aZ:=aZ.aL aD sx;have ht:=ht.aL aD sx
 refine zA<|ag<|aQ ?_
 refine qf eu (cQ w.heap.size ([str t.az,.slice pa t.au.length pc]) 66) 13 (rA 11 11++[100011,3]) (rA 11 11++[100011,3]) [[],[],[1],[2],[2,3],[2,4],[5],[6],[6,7],[6,8],[6,9],[0],[10]] [λv _=>v=(.agg #[str t.az,.slice pa t.au.length pc]),λv _=>v=(.bool ((ba s).isSome)),λv _=>v=(.bool ((ba s).isSome)),λv _=>((ba s).isSome)=true->v=(.agg #[str t.az,.slice pa t.au.length pc]),λv _=>((ba s).isSome)=true->v=(.bool (dU t)),λv _=>v=(.bool ((ba s).isSome&&dU t)),λv _=>v=(.bool ((ba s).isSome&&dU t)),λv _=>((ba s).isSome&&dU t)=true->v=(.agg #[str t.az,.slice pa t.au.length pc]),λv _=>((ba s).isSome&&dU t)=true->v=(.int .i64 (fP t:Int)),λv _=>((ba s).isSome&&dU t)=true->v=(.bool (decide ((fP t:Int)<=120))),λv _=>v=(.bool (((ba s).isSome&&dU t)&&decide ((fP t:Int)<=120))),λ_ ww=>aY ww w.heap.size ([str t.az,.slice pa t.au.length pc]).toArray 66,λv _=>v=(.bool (((ba s).isSome&&dU t)&&decide ((fP t:Int)<=120)))] de (cX (cX (cX (eV (eV (cX (cX (eV (eV (eV (cX (C3 (cX trivial))))))))))))) (λwd aB=>?_) ?_
 refine bN ?_ ?_
 intro x vs w5 e aT hd he
 replace aT:=(cQ w.heap.size ([str t.az,.slice pa t.au.length pc]) 66).trans aB aT
 have aI:=aI.aL aT.1 sx
 replace he:e=aM (aN _ x _) []:=he
 subst he
 refine zL bT aH rfl aI.all rfl<|ag ?_
 exact dn ((cQ w.heap.size ([str t.az,.slice pa t.au.length pc]) 66).refl _) rfl
 refine bN ?_ ?_
 intro x vs w5 e aT hd he
 replace aT:=(cQ w.heap.size ([str t.az,.slice pa t.au.length pc]) 66).trans aB aT
 replace he:e=aM (aN _ x _) []:=he
 subst he
 refine zm<|ag ?_
 exact dn ((cQ w.heap.size ([str t.az,.slice pa t.au.length pc]) 66).refl _) rfl
 refine bN ?_ ?_
 intro x vs w5 e aT hd he
 have d1:vs 1=(.bool ((ba s).isSome)):=hd
 replace aT:=(cQ w.heap.size ([str t.az,.slice pa t.au.length pc]) 66).trans aB aT
 replace he:e=aM (aN _ x _) [(12,vs 1)]:=he
 rw[d1] at he
 subst he
 refine zm<|ag ?_
 exact dn ((cQ w.heap.size ([str t.az,.slice pa t.au.length pc]) 66).refl _) rfl
 refine bN ?_ ?_
 intro x vs w5 e aT hd he
 have d2:vs 2=(.bool ((ba s).isSome)):=hd
 replace aT:=(cQ w.heap.size ([str t.az,.slice pa t.au.length pc]) 66).trans aB aT
 have aI:=aI.aL aT.1 sx
 rcases bE ((ba s).isSome) with hg|hg
 rw[hg] at d2
 replace he:e=aM (aN _ x _) [(13,vs 2)]:=he
 rw[d2] at he
 subst he
 refine zL bT aH rfl aI.all rfl<|ag ?_
 exact dn ((cQ w.heap.size ([str t.az,.slice pa t.au.length pc]) 66).refl _) (show((ba s).isSome)=true->_=((.agg #[str t.az,.slice pa t.au.length pc]):Value) from λ_=>rfl)
 rw[hg] at d2
 replace he:e=aM (aN _ x _) [(13,vs 2)]:=he
 rw[d2] at he
 subst he
 refine zs<|ag ?_
 exact dn ((cQ w.heap.size ([str t.az,.slice pa t.au.length pc]) 66).refl _) (show((ba s).isSome)=true->_=(_:Value) from λhh=>nomatch hg.symm.trans hh)
 refine bN ?_ ?_
 intro x vs w5 e aT hd he
 have aR:(vs 2=(.bool ((ba s).isSome)))∧(((ba s).isSome)=true->vs 3=(.agg #[str t.az,.slice pa t.au.length pc])):=hd
 obtain⟨d2,d3⟩:=aR
 replace aT:=(cQ w.heap.size ([str t.az,.slice pa t.au.length pc]) 66).trans aB aT
 have ht:=ht.aL aT.1 sx
 rcases bE ((ba s).isSome) with hg|hg
 rw[hg] at d2
 replace d3:=d3 hg
 replace he:e=aM (aN _ x _) [(13,vs 2),(14,vs 3)]:=he
 rw[d2,d3] at he
 subst he
 refine aC (ado t.size t (lR _) (by have:=(dx hg).2;omega) (dx hg).1 _ _ w5 ht) ?_
 rintro v6 w6 ⟨kU,bD⟩
 have ob:=bD.size
 obtain rfl:=kU
 refine ag ?_
 exact dn ((cQ w.heap.size ([str t.az,.slice pa t.au.length pc]) 66).of bD) (show((ba s).isSome)=true->_=((.bool (dU t)):Value) from λ_=>rfl)
 rw[hg] at d2
 replace he:e=aM (aN _ x _) [(13,vs 2),(14,vs 3)]:=he
 rw[d2] at he
 subst he
 refine zs<|ag ?_
 exact dn ((cQ w.heap.size ([str t.az,.slice pa t.au.length pc]) 66).refl _) (show((ba s).isSome)=true->_=(_:Value) from λhh=>nomatch hg.symm.trans hh)
 refine bN ?_ ?_
 intro x vs w5 e aT hd he
 have aR:(vs 2=(.bool ((ba s).isSome)))∧(((ba s).isSome)=true->vs 4=(.bool (dU t))):=hd
 obtain⟨d2,d4⟩:=aR
 replace aT:=(cQ w.heap.size ([str t.az,.slice pa t.au.length pc]) 66).trans aB aT
 rcases bE ((ba s).isSome) with hg|hg
 rw[hg] at d2
 replace d4:=d4 hg
 replace he:e=aM (aN _ x _) [(13,vs 2),(15,vs 4)]:=he
 rw[d2,d4] at he
 subst he
 refine zp rfl<|ag ?_
 exact dn ((cQ w.heap.size ([str t.az,.slice pa t.au.length pc]) 66).refl _) (by first|rfl|(rw[hg];rfl))
 rw[hg] at d2
 replace he:e=aM (aN _ x _) [(13,vs 2),(15,vs 4)]:=he
 rw[d2] at he
 subst he
 refine zp rfl<|ag ?_
 exact dn ((cQ w.heap.size ([str t.az,.slice pa t.au.length pc]) 66).refl _) (by first|rfl|(rw[hg];rfl))
 refine bN ?_ ?_
 intro x vs w5 e aT hd he
 have d5:vs 5=(.bool ((ba s).isSome&&dU t)):=hd
 replace aT:=(cQ w.heap.size ([str t.az,.slice pa t.au.length pc]) 66).trans aB aT
 replace he:e=aM (aN _ x _) [(16,vs 5)]:=he
 rw[d5] at he
 subst he
 refine zm<|ag ?_
 exact dn ((cQ w.heap.size ([str t.az,.slice pa t.au.length pc]) 66).refl _) rfl
 refine bN ?_ ?_
 intro x vs w5 e aT hd he
 have d6:vs 6=(.bool ((ba s).isSome&&dU t)):=hd
 replace aT:=(cQ w.heap.size ([str t.az,.slice pa t.au.length pc]) 66).trans aB aT
 have aI:=aI.aL aT.1 sx
 rcases bE ((ba s).isSome&&dU t) with hg|hg
 rw[hg] at d6
 replace he:e=aM (aN _ x _) [(17,vs 6)]:=he
 rw[d6] at he
 subst he
 refine zL bT aH rfl aI.all rfl<|ag ?_
 exact dn ((cQ w.heap.size ([str t.az,.slice pa t.au.length pc]) 66).refl _) (show((ba s).isSome&&dU t)=true->_=((.agg #[str t.az,.slice pa t.au.length pc]):Value) from λ_=>rfl)
 rw[hg] at d6
 replace he:e=aM (aN _ x _) [(17,vs 6)]:=he
 rw[d6] at he
 subst he
 refine zs<|ag ?_
 exact dn ((cQ w.heap.size ([str t.az,.slice pa t.au.length pc]) 66).refl _) (show((ba s).isSome&&dU t)=true->_=(_:Value) from λhh=>nomatch hg.symm.trans hh)
 refine bN ?_ ?_
 intro x vs w5 e aT hd he
 have aR:(vs 6=(.bool ((ba s).isSome&&dU t)))∧(((ba s).isSome&&dU t)=true->vs 7=(.agg #[str t.az,.slice pa t.au.length pc])):=hd
 obtain⟨d6,d7⟩:=aR
 replace aT:=(cQ w.heap.size ([str t.az,.slice pa t.au.length pc]) 66).trans aB aT
 have ht:=ht.aL aT.1 sx
 rcases bE ((ba s).isSome&&dU t) with hg|hg
 rw[hg] at d6
 replace d7:=d7 hg
 replace he:e=aM (aN _ x _) [(17,vs 6),(18,vs 7)]:=he
 rw[d6,d7] at he
 subst he
 refine aC (Ta t.size t (lR _) (by have:=(dx ((aE _ _).mp hg).1).2;omega) (dx ((aE _ _).mp hg).1).1 _ _ w5 ht) ?_
 rintro v6 w6 ⟨kU,bD⟩
 have ob:=bD.size
 obtain rfl:=kU
 refine ag ?_
 exact dn ((cQ w.heap.size ([str t.az,.slice pa t.au.length pc]) 66).of bD) (show((ba s).isSome&&dU t)=true->_=((.int .i64 (fP t:Int)):Value) from λ_=>rfl)
 rw[hg] at d6
 replace he:e=aM (aN _ x _) [(17,vs 6),(18,vs 7)]:=he
 rw[d6] at he
 subst he
 refine zs<|ag ?_
 exact dn ((cQ w.heap.size ([str t.az,.slice pa t.au.length pc]) 66).refl _) (show((ba s).isSome&&dU t)=true->_=(_:Value) from λhh=>nomatch hg.symm.trans hh)
 refine bN ?_ ?_
 intro x vs w5 e aT hd he
 have aR:(vs 6=(.bool ((ba s).isSome&&dU t)))∧(((ba s).isSome&&dU t)=true->vs 8=(.int .i64 (fP t:Int))):=hd
 obtain⟨d6,d8⟩:=aR
 replace aT:=(cQ w.heap.size ([str t.az,.slice pa t.au.length pc]) 66).trans aB aT
 rcases bE ((ba s).isSome&&dU t) with hg|hg
 rw[hg] at d6
 replace d8:=d8 hg
 replace he:e=aM (aN _ x _) [(17,vs 6),(19,vs 8)]:=he
 rw[d6,d8] at he
 subst he
 refine qN rfl rfl rfl rfl rfl<|ag ?_
 exact dn ((cQ w.heap.size ([str t.az,.slice pa t.au.length pc]) 66).refl _) (show((ba s).isSome&&dU t)=true->_=((.bool (decide ((fP t:Int)<=120))):Value) from λ_=>rfl)
 rw[hg] at d6
 replace he:e=aM (aN _ x _) [(17,vs 6),(19,vs 8)]:=he
 rw[d6] at he
 subst he
 refine zs<|ag ?_
 exact dn ((cQ w.heap.size ([str t.az,.slice pa t.au.length pc]) 66).refl _) (show((ba s).isSome&&dU t)=true->_=(_:Value) from λhh=>nomatch hg.symm.trans hh)
 refine bN ?_ ?_
 intro x vs w5 e aT hd he
 have aR:(vs 6=(.bool ((ba s).isSome&&dU t)))∧(((ba s).isSome&&dU t)=true->vs 9=(.bool (decide ((fP t:Int)<=120)))):=hd
 obtain⟨d6,d9⟩:=aR
 replace aT:=(cQ w.heap.size ([str t.az,.slice pa t.au.length pc]) 66).trans aB aT
 rcases bE ((ba s).isSome&&dU t) with hg|hg
 rw[hg] at d6
 replace d9:=d9 hg
 replace he:e=aM (aN _ x _) [(17,vs 6),(20,vs 9)]:=he
 rw[d6,d9] at he
 subst he
 refine zp rfl<|ag ?_
 exact dn ((cQ w.heap.size ([str t.az,.slice pa t.au.length pc]) 66).refl _) (by first|rfl|(rw[hg];rfl))
 rw[hg] at d6
 replace he:e=aM (aN _ x _) [(17,vs 6),(20,vs 9)]:=he
 rw[d6] at he
 subst he
 refine zp rfl<|ag ?_
 exact dn ((cQ w.heap.size ([str t.az,.slice pa t.au.length pc]) 66).refl _) (by first|rfl|(rw[hg];rfl))
 refine bN ?_ ?_
 intro x vs w5 e aT hd he
 have d0:vs 0=(.agg #[str t.az,.slice pa t.au.length pc]):=hd
 replace aT:=(cQ w.heap.size ([str t.az,.slice pa t.au.length pc]) 66).trans aB aT
 obtain⟨us,uY,uZ⟩:=aT.2.2 ⟨_,(by rfl),aZ⟩
 replace he:e=aM (aN _ x _) [(11,vs 0)]:=he
 rw[d0] at he
 subst he
 refine dk aH rfl rfl rfl uZ (by rw[uY];rfl) ?_
 intro w6 bD hb lB
 refine ag ?_
 exact dn ⟨bD,λ_=>hb,λ_=>⟨_,rfl,hb⟩⟩ hb
 refine bN ?_ ?_
 intro x vs w5 e aT hd he
 have d10:vs 10=(.bool (((ba s).isSome&&dU t)&&decide ((fP t:Int)<=120))):=hd
 replace aT:=(cQ w.heap.size ([str t.az,.slice pa t.au.length pc]) 66).trans aB aT
 replace he:e=aM (aN _ x _) [(21,vs 10)]:=he
 rw[d10] at he
 subst he
 refine zA<|ag ?_
 exact dn ((cQ w.heap.size ([str t.az,.slice pa t.au.length pc]) 66).refl _) rfl
 exact trivial
 intro x vs pX jR bJ
 have d0:vs 0=(.agg #[str t.az,.slice pa t.au.length pc]):=bJ 0 de
 have d1:vs 1=(.bool ((ba s).isSome)):=bJ 1 de
 have d2:vs 2=(.bool ((ba s).isSome)):=bJ 2 de
 have d3:((ba s).isSome)=true->vs 3=(.agg #[str t.az,.slice pa t.au.length pc]):=bJ 3 de
 have d4:((ba s).isSome)=true->vs 4=(.bool (dU t)):=bJ 4 de
 have d5:vs 5=(.bool ((ba s).isSome&&dU t)):=bJ 5 de
 have d6:vs 6=(.bool ((ba s).isSome&&dU t)):=bJ 6 de
 have d7:((ba s).isSome&&dU t)=true->vs 7=(.agg #[str t.az,.slice pa t.au.length pc]):=bJ 7 de
 have d8:((ba s).isSome&&dU t)=true->vs 8=(.int .i64 (fP t:Int)):=bJ 8 de
 have d9:((ba s).isSome&&dU t)=true->vs 9=(.bool (decide ((fP t:Int)<=120))):=bJ 9 de
 have d10:vs 10=(.bool (((ba s).isSome&&dU t)&&decide ((fP t:Int)<=120))):=bJ 10 de
 have d11:aY pX w.heap.size ([str t.az,.slice pa t.au.length pc]).toArray 66:=bJ 11 de
 have d12:vs 12=(.bool (((ba s).isSome&&dU t)&&decide ((fP t:Int)<=120))):=bJ 12 de
 have hK:=hK.aL jR.1 sx;have ht:=ht.aL jR.1 sx
 have aZ:=d11
 change OW _ _ _ _ [] (aM (aN _ x _) (zZ 11 [vs 0,vs 1,vs 2,vs 3,vs 4,vs 5,vs 6,vs 7,vs 8,vs 9,vs 10]++[(100011,vs 11),(3,vs 12)])) _
 rw[d0,d1,d2,d5,d6,d10,d12]
 refine ag<|aV ?_
 exact⟨[_,_],⟨gR bT aH rfl aZ rfl,rfl⟩,⟨t,_,by rw[adx hp];rfl,ht.jj (λx hx=>by simp[hx]),hp⟩,hK⟩
theorem MJ (s:aj) (w:World):bZ Tryz.prog 86 [str s] w λr w'=>r= .bool (mB s)∧ak [] w w':=by
 have hK:=ak.refl [] w
 refine cU [.tmp 2] 11 Tryz.func86 rfl ZL rfl rfl ?_
 refine zr<|zA<|ag<|zr<|zm<|aC (FY s [] w sm) ?_
 rintro v1 w1 ⟨fO,aJ⟩
 have dy:=aJ.size
 have hK:=hK.ext aJ
 obtain⟨t,tv,rfl,ht,hp⟩:=fO
 obtain⟨pa,pn,pc,rfl,fR,bc⟩:=dN ht
 refine zm<|zx (i:=0) rfl rfl<|zx (i:=1) rfl rfl<|eC aH rfl rfl rfl ?_
 intro w2 aq bO eK
 have hK:=hK.grow;have hK:=hK.ext aq
 refine dk aH rfl rfl rfl bO rfl ?_
 intro w3 aK bO iK
 have hK:=hK.aL aK sx
 refine zA<|ag<|zr<|zm<|zA<|ag<|aV ?_
 exact⟨_,rfl,rfl,hK⟩
def oc (xs ys:List aj) (s d:aj):Nat->aj
 |0=>d
 |k+1=>if aF xs k=s then aF ys k else oc xs ys s d k
theorem Tp {xs' ys':List aj} {s d:aj}:∀{k:Nat},(∀i,i<k->aF xs i=aF xs' i∧aF ys i=aF ys' i)->oc xs ys s d k=oc xs' ys' s d k
 |0,_=>rfl
 |k+1,h=>by
  unfold oc
  rw[(h k om).1,(h k om).2,Tp λi hi=>h i om]
theorem Tq (h:i<xs.length):aF (xs++ys) i=aF xs i:=by
 simp only[aF,gG]
 rw[List.getElem?_append_left h]
theorem Tr (h:i=xs.length):aF (xs++[x]) i=x:=by
 subst h;simp[aF]
theorem Tt {xs:List aj} {y s d:aj} (h:xs.length=ys.length):oc (xs++[x]) (ys++[y]) s d (xs++[x]).length=if x=s then y else oc xs ys s d xs.length:=by
 rw[lA,List.length_singleton,oc,Tr rfl,Tr h,Tp (xs':=xs) (ys':=ys)]
 intro i hi
 exact⟨Tq hi,Tq om⟩
theorem Tu {α:Type} {Q:List α->Prop} (h0:Q []) (h1:∀l a,Q l->Q (l++[a])) (l:List α):Q l:=by
 have:∀r:List α,Q r.reverse:=by
  intro r
  induction r with
  |nil=>exact h0
  |cons a r ih=>rw[List.reverse_cons];exact h1 _ _ ih
 have:=this l.reverse
 rwa [List.reverse_reverse] at this
def Tv:Option Ty->aj
 |some T=>T.text
 |none=>[]
theorem Tw (s:aj):∀Γ:Sc,oc (Γ.map Prod.fst) (Γ.map λp=>p.2.text) s [] Γ.length=Tv (look Γ s):=by
 refine Tu rfl λΓ p ih=>?_
 ·obtain⟨x,T⟩:=p
  have:=Tt (xs:=Γ.map Prod.fst) (ys:=Γ.map λp=>p.2.text) (x:=x) (y:=T.text) (s:=s) (d:=[]) sm
  rw[mX,List.map_append,List.map_append,lA]
  simp only[List.map_cons,List.map_nil,lA,List.length_map,List.length_singleton] at this⊢
  rw[this,ih]
  split<;>rfl
theorem ady (s:aj):∀ρ:Rn,oc (ρ.map Prod.fst) (ρ.map Prod.snd) s s ρ.length=rb ρ s:=by
 refine Tu rfl λρ p ih=>?_
 ·obtain⟨x,y⟩:=p
  have:=Tt (xs:=ρ.map Prod.fst) (ys:=ρ.map Prod.snd) (x:=x) (y:=y) (s:=s) (d:=s) sm
  rw[Fm,List.map_append,List.map_append,lA]
  simp only[List.map_cons,List.map_nil,lA,List.length_map,List.length_singleton] at this⊢
  rw[this,ih]
theorem FZ (xs ys:List aj) (hl:xs.length=ys.length) (hx:xs.length<=1000000000) (s:aj) (v u:Value) (L L2:List Nat) (w:World) (hv:bI L w v xs) (hu:bI L2 w u ys):
  bZ Tryz.prog 153 [v,u,str s] w λr w'=>r=str (oc xs ys s [] xs.length)∧ak [] w w':=by
 obtain⟨a,n,c,rfl,hn⟩:=eI hv
 obtain⟨a2,n2,c2,rfl,fu⟩:=eI hu
 subst hn fu
 have hK:=ak.refl [] w
 refine cU [.tmp 6] 25 Tryz.func153 rfl Yz rfl rfl ?_
 refine zr<|zA<|ag<|aQ<|zr<|zm<|eh bh rfl<|mO rfl rfl rfl rfl rfl (wrap_i64 _ om om)<|zA<|ag<|cP ?_
 refine fZ (λk:Nat=>[(0,.slice a xs.length c),(1,.slice a2 ys.length c2),(2,str s),(7,.int .i64 ((k:Int)-1))]) (λk w'=>w'=w∧k<=xs.length∧oc xs ys s [] xs.length=oc xs ys s [] k) (λk=>k) xs.length (⟨rfl,rfl,rfl,rfl⟩) (⟨rfl,lR _,rfl⟩) ?_
 intro gg w1 e1 hI
 obtain⟨e,hk,hq⟩:=hI
 subst e
 refine aQ<|zr<|zm<|lU rfl rfl rfl rfl rfl<|ag<|zc rfl (λh1=>?_) (λh1=>?_)
 have aR:∃k,gg=k+1:=⟨gg-1,om⟩
 obtain⟨k,rfl⟩:=aR
 have va:=lj (xs:=xs) (i:=k) om
 have MK:=lj (xs:=ys) (i:=k) om
 obtain⟨b1,ga,rfl,bC⟩:=qU hv va
 obtain⟨b2,nk,rfl,bX⟩:=qU hu MK
 have hi:((k+1:Nat):Int)-1=(k:Int):=by omega
 rw[hi]
 refine bA<|aQ<|cP<|zr<|zm<|zm<|zi bh bB rfl rfl om<|zl cg rfl (bC 0 _ rfl)<|zm<|cW rfl rfl<|ag<|zc rfl (λh2=>?_) (λh2=>?_)
 refine zr<|zm<|zm<|zi bh bB rfl rfl om<|zl cg rfl (bX 0 _ rfl)<|zA<|ag<|aV ?_
 exact⟨_,rfl,by rw[hq,oc,iP h2];rfl,hK⟩
 have eN:=h2
 refine bA<|db<|zm<|mO rfl rfl rfl rfl rfl (wrap_i64 _ om om)<|zA<|ag ?_
 exact⟨k,⟨rfl,rfl,rfl,rfl⟩,⟨rfl,om,by rw[hq,oc,iN eN]⟩,om⟩
 have h0:gg=0:=by omega
 refine gF<|gH rfl<|zr<|zA<|ag<|aV ?_
 exact⟨_,rfl,by rw[hq,h0];rfl,hK⟩
theorem adz (xs ys:List aj) (hl:xs.length=ys.length) (hx:xs.length<=1000000000) (s:aj) (v u:Value) (L L2:List Nat) (w:World) (hv:bI L w v xs) (hu:bI L2 w u ys):
  bZ Tryz.prog 202 [v,u,str s] w λr w'=>r=str (oc xs ys s s xs.length)∧ak [] w w':=by
 obtain⟨a,n,c,rfl,hn⟩:=eI hv
 obtain⟨a2,n2,c2,rfl,fu⟩:=eI hu
 subst hn fu
 have hK:=ak.refl [] w
 refine cU [.tmp 6] 26 Tryz.func202 rfl YY rfl rfl ?_
 refine zr<|zA<|ag<|aQ<|zr<|zm<|eh bh rfl<|mO rfl rfl rfl rfl rfl (wrap_i64 _ om om)<|zA<|ag<|cP ?_
 refine fZ (λk:Nat=>[(0,.slice a xs.length c),(1,.slice a2 ys.length c2),(2,str s),(7,.int .i64 ((k:Int)-1))]) (λk w'=>w'=w∧k<=xs.length∧oc xs ys s s xs.length=oc xs ys s s k) (λk=>k) xs.length (⟨rfl,rfl,rfl,rfl⟩) (⟨rfl,lR _,rfl⟩) ?_
 intro gg w1 e1 hI
 obtain⟨e,hk,hq⟩:=hI
 subst e
 refine aQ<|zr<|zm<|lU rfl rfl rfl rfl rfl<|ag<|zc rfl (λh1=>?_) (λh1=>?_)
 have aR:∃k,gg=k+1:=⟨gg-1,om⟩
 obtain⟨k,rfl⟩:=aR
 have va:=lj (xs:=xs) (i:=k) om
 have MK:=lj (xs:=ys) (i:=k) om
 obtain⟨b1,ga,rfl,bC⟩:=qU hv va
 obtain⟨b2,nk,rfl,bX⟩:=qU hu MK
 have hi:((k+1:Nat):Int)-1=(k:Int):=by omega
 rw[hi]
 refine bA<|aQ<|cP<|zr<|zm<|zm<|zi bh bB rfl rfl om<|zl cg rfl (bC 0 _ rfl)<|zm<|cW rfl rfl<|ag<|zc rfl (λh2=>?_) (λh2=>?_)
 refine zr<|zm<|zm<|zi bh bB rfl rfl om<|zl cg rfl (bX 0 _ rfl)<|zA<|ag<|aV ?_
 exact⟨_,rfl,by rw[hq,oc,iP h2];rfl,hK⟩
 have eN:=h2
 refine bA<|db<|zm<|mO rfl rfl rfl rfl rfl (wrap_i64 _ om om)<|zA<|ag ?_
 exact⟨k,⟨rfl,rfl,rfl,rfl⟩,⟨rfl,om,by rw[hq,oc,iN eN]⟩,om⟩
 have h0:gg=0:=by omega
 refine gF<|gH rfl<|zr<|zm<|zA<|ag<|aV ?_
 exact⟨_,rfl,by rw[hq,h0];rfl,hK⟩
theorem IS:∀row,row∈ji xs->∀c,c∈row->∀v,c= .val v->v.oneCell'=true:=by
 intro row hr
 simp only[ji,List.mem_map] at hr
 obtain⟨x,_,rfl⟩:=hr
 intro c hc u hu
 simp only[mC,List.not_mem_nil,or_false] at hc
 subst hc
 cases hu
 rfl
theorem Tx (xs ys:List aj):ji xs++ji ys=ji (xs++ys):=by simp[ji]
theorem tP (xs ys:List aj) (hx:xs.length+ys.length<100000000) (v u:Value) (L:List Nat) (w:World) (hv:bI L w v xs) (hu:bI L w u ys) (hL:∀x,x∈L->x<w.heap.size):
  bZ Tryz.prog 119 [v,u] w λr w'=>bI L w' r (xs++ys)∧ak [] w w':=by
 obtain⟨a,n,c,rfl,hn⟩:=eI hv
 obtain⟨a2,n2,c2,rfl,fu⟩:=eI hu
 subst hn fu
 have hK:=ak.refl [] w
 refine cU [.tmp 4] 10 Tryz.func119 rfl PT rfl rfl ?_
 refine zr<|zA<|ag<|zr<|zU w.heap.size L bh bB rfl rfl (lR _) hL ?_
 intro w1 aJ dV hO
 have hK:=hK.ext aJ
 have fS:=cD.ext (cD.fresh hv (L':=w.heap.size::L) zw) aJ
 refine zm<|xQ bh bB rfl rfl rfl rfl rfl rfl hO fS IS (by rw[rP];simp;omega) ?_
 intro a4 je g4 w2 od aq
 have hK:=hO.since hK aq
 have ML:=cD.ext (cD.fresh hu (L':=g4.toList++L) (λx hx=>by rcases mA.1 hx with hx|hx;(·exact .inr (od.low x (by simpa using hx)));(·exact .inl hx))) hK
 refine zm<|xQ bh bB rfl rfl rfl rfl rfl rfl od ML IS (by simp only[lA,rP];simp;omega) ?_
 intro a5 Tz g5 w3 lq aK
 have hK:=od.since hK aK
 refine zA<|ag<|aV ?_
 exact⟨_,rfl,(by have:=lq.done;rw[List.nil_append,Tx] at this;exact this),hK⟩
def sR (t:aA) (i:Nat):List aj:=if(nth t.au 0).az=gQ∧i=3 then[(nth t.au 1).az] else if(nth t.au 0).az=il then[(nth t.au 1).az,(nth t.au 2).az] else[]
theorem TA (h:e.ok) (ha:e.jk=false) (i:Nat):sR e.av i=e.binds i:=by
 cases e with
 |«at» s=>cases ha
 |un hd a=>
  have h1:hd≠gQ∧hd≠il:=by constructor<;>intro e<;>rw[e] at h<;>exact absurd h.1 de
  simp[sR,Ex.av,aA.au,nth,cj,aA.az,h1.1,h1.2,Ex.binds]
 |bi hd a b=>
  have h1:hd≠gQ∧hd≠il:=by constructor<;>intro e<;>rw[e] at h<;>exact absurd h.1 de
  simp[sR,Ex.av,aA.au,nth,cj,aA.az,h1.1,h1.2,Ex.binds]
 |ite a b c=>simp[sR,Ex.av,aA.au,nth,cj,aA.az,Ex.binds]
 |lt x a b=>
  by_cases h3:i=3
  ·subst h3;simp[sR,Ex.av,aA.au,nth,cj,aA.az,Ex.binds]
  ·have:(Ex.lt x a b).binds i=[]:=by unfold Ex.binds;split<;>first|rfl|simp_all
   rw[this]
   simp[sR,Ex.av,aA.au,nth,cj,aA.az,h3]
 |fn f x A B b=>simp[sR,Ex.av,aA.au,nth,cj,aA.az,Ex.binds]
theorem TC (t:aA) (h0:0<t.au.length) (B0:(nth t.au 0).az=gQ->1<t.au.length) (oK:(nth t.au 0).az=il->2<t.au.length) (i:Nat) (v:Value) (L:List Nat) (w:World) (hv:bS L w v t):
  bZ Tryz.prog 201 [v,.int .i64 (i:Int)] w λr w'=>(∀Lr,(∀x,x∈Lr->x<w.heap.size)->bI Lr w' r (sR t i))∧ak [] w w':=by
 obtain⟨a,n,c,rfl,hn,bc⟩:=dN hv
 subst hn
 have hK:=ak.refl [] w
 obtain⟨b,off,pa,pn,pc,rfl,er,fR,iy⟩:=j8 bc (iM h0)
 have jE:∀i,i<t.au.length->∃pa pn pc,iH w b (off+i*2) [str (nth t.au i).az,.slice pa pn pc]:=by intro i hi;obtain⟨b1,ga,gY,qT,gZ,e1,bC,sv,oY⟩:=j8 bc (iM hi);cases e1;exact⟨_,_,_,bC⟩
 refine cU [.tmp 4] 41 Tryz.func201 rfl YX rfl rfl ?_
 refine zr<|fA rfl ?_
 intro w1 aJ aZ dV
 have hK:=hK.ext aJ;have er:=er.ext aJ
 refine zA<|ag<|aQ<|cP<|zr<|zf cM rfl<|zl cK rfl (aZ.at rfl)<|zi (i:=0) cw aH rfl rfl om<|zf dB rfl<|zl cg rfl (er 0 _ rfl)<|cW rfl rfl<|zm ?_
 apply fU 3 12 15 [12,13,14,15] (λw'=>w1=w') rfl
 intro h1
 replace h1:=bu h1
 refine zm<|dO rfl rfl rfl<|zp rfl<|ag ?_
 exact mg rfl rfl
 intro h1
 replace h1:=bu h1
 refine zs<|zs<|zp rfl<|ag ?_
 exact mg rfl rfl
 rintro xx _ rfl
 refine zA<|ag<|zc rfl (λh2=>?_) (λh2=>?_)
 have hq:(nth t.au 0).az=gQ∧i=3:=(by simp only[aE,dE] at h2;exact⟨h2.1,om⟩)
 obtain⟨gY,qT,gZ,bC⟩:=jE 1 (B0 hq.1)
 have bC:=bC.ext hK
 have gi:=B0 hq.1
 have hb:sR t i=[(nth t.au 1).az]:=iP hq
 refine zr<|zf cM rfl<|zl cK rfl (aZ.at rfl)<|zi (i:=1) cw aH rfl rfl om<|zf dB rfl<|zl cg rfl (bC 0 _ rfl)<|gA bh bB rfl rfl ?_
 intro w2 aq vg eK
 have hK:=hK.ext aq
 refine zA<|ag<|aV ?_
 exact⟨_,rfl,λLr IT=>(by rw[hb];exact aY.eF [(nth t.au 1).az] vg (λhx=>by have:=IT _ hx;omega)),hK⟩
 have wu:¬((nth t.au 0).az=gQ∧i=3):=(λhh=>by simp only[Bool.and_eq_false_iff,decide_eq_false_iff_not] at h2;rcases h2 with h|h;(·exact h hh.1);(·exact h om))
 refine zr<|zf cM rfl<|zl cK rfl (aZ.at rfl)<|zi (i:=0) cw aH rfl rfl om<|zf dB rfl<|zl cg rfl (er 0 _ rfl)<|cW rfl rfl<|zA<|ag<|zc rfl (λh3=>?_) (λh3=>?_)
 have hq:=h3
 have iZ:=oK hq
 obtain⟨gY,qT,gZ,bC⟩:=jE 1 om
 obtain⟨jc,AD,jd,bX⟩:=jE 2 om
 have bC:=bC.ext hK;have bX:=bX.ext hK
 have hb:sR t i=[(nth t.au 1).az,(nth t.au 2).az]:=by unfold sR;rw[iN wu,iP hq]
 refine aQ ?_
 apply wC eu 11 (rA 29 11) (rA 29 11) [[],[0],[1],[2],[3],[],[5],[6],[7],[8],[4,9]] [It.v _,It.v _,It.v _,It.v _,It.v _,It.v _,It.v _,It.v _,It.v _,It.v _,It.p (fun(v:Value) (ww:World)=>∃bb,v= .slice (some ⟨bb,0,none⟩) 2 2∧w.heap.size<=bb∧aY ww bb [str (nth t.au 1).az,str (nth t.au 2).az].toArray 9)] de (by exact⟨λv w w' ⟨bb,e,h1,h2⟩ k=>⟨bb,e,h1,h2.ext k⟩,trivial⟩)
 intro wd aB
 refine vc (λ_ _ _=>zf cM rfl pv) ?_
 refine vk aB (λx w2 aq=>?_) ?_
 have aZ:=aZ.ext aq
 refine zl cK rfl (aZ.at rfl) ?_
 exact pv
 refine vk aB (λx w2 aq=>?_) ?_
 refine zi (i:=1) cw aH rfl rfl om ?_
 exact pv
 refine vc (λ_ _ _=>zf dB rfl pv) ?_
 refine vk aB (λx w2 aq=>?_) ?_
 have bC:=bC.ext aq
 refine zl cg rfl (bC 0 _ rfl) ?_
 exact pv
 refine vc (λ_ _ _=>zf cM rfl pv) ?_
 refine vk aB (λx w2 aq=>?_) ?_
 have aZ:=aZ.ext aq
 refine zl cK rfl (aZ.at rfl) ?_
 exact pv
 refine vk aB (λx w2 aq=>?_) ?_
 refine zi (i:=2) cw aH rfl rfl om ?_
 exact pv
 refine vc (λ_ _ _=>zf dB rfl pv) ?_
 refine vk aB (λx w2 aq=>?_) ?_
 have bX:=bX.ext aq
 refine zl cg rfl (bX 0 _ rfl) ?_
 exact pv
 refine vk aB (λx w2 aq=>?_) ?_
 have hK:=hK.ext aq
 have ph:=hK.size
 refine lk bh bB rfl rfl rfl rfl ?_
 intro w3 aK ym iK
 exact pf aK (⟨_,rfl,ph,ym⟩)
 exact trivial
 intro x pT iB
 intro v10 d10
 have hK:=hK.ext iB
 change OW _ _ _ _ _ (aM (aN _ x _) (zZ 29 [_,_,_,_,_,_,_,_,_,_,_])) _
 obtain⟨bb,e39,ke,ym⟩:=d10
 refine zA<|ag<|aV ?_
 exact⟨_,rfl,λLr IT=>(by rw[hb];subst e39;exact aY.eF [(nth t.au 1).az,(nth t.au 2).az] ym (λhx=>by have:=IT _ hx;omega)),hK⟩
 have hb:sR t i=[]:=(by unfold sR;rw[iN wu,iN h3])
 refine bA<|zr<|zU w.heap.size [] bh bB rfl rfl hK.size sm ?_
 intro w2 aq dV hO
 have hK:=hK.ext aq
 refine zA<|ag<|aV ?_
 exact⟨_,rfl,λLr IT=>(by rw[hb];exact cD.nil _ _ _),hK⟩
theorem F0 (h:e.ok) (ha:e.jk=false):0<e.av.au.length∧((nth e.av.au 0).az=gQ->1<e.av.au.length)∧((nth e.av.au 0).az=il->2<e.av.au.length):=by
 cases e with
 |«at» s=>cases ha
 |un hd a=>
  have hn:hd≠il:=by intro e;rw[e] at h;exact absurd h.1 de
  exact⟨by simp[Ex.av,aA.au],λ_=>by simp[Ex.av,aA.au],λh=>absurd h hn⟩
 |bi hd a b=>exact⟨by simp[Ex.av,aA.au],λ_=>by simp[Ex.av,aA.au],λh=>by simp[Ex.av,aA.au]⟩
 |ite a b c=>exact⟨by simp[Ex.av,aA.au],λ_=>by simp[Ex.av,aA.au],λh=>by simp[Ex.av,aA.au]⟩
 |lt x a b=>exact⟨by simp[Ex.av,aA.au],λ_=>by simp[Ex.av,aA.au],λh=>by simp[Ex.av,aA.au]⟩
 |fn f x A B b=>exact⟨by simp[Ex.av,aA.au],λ_=>by simp[Ex.av,aA.au],λh=>by simp[Ex.av,aA.au]⟩
theorem TD (e:Ex) (i:Nat):(e.binds i).length<=2:=by unfold Ex.binds;split<;>simp
theorem TE (x:aj) (e:Ex) (k:Nat):tE x e (k+1)=tE x e k+if x∈e.binds (e.from+k) then 0 else im x (fL e k):=rfl
theorem TF (x:aj) (e:Ex):∀{i j:Nat},i<=j->tE x e i<=tE x e j
 |i,0,h=>by have:i=0:=om;subst this;exact lR _
 |i,j+1,h=>by
  rcases Nat.lt_or_ge i (j+1) with h1|h1
  ·have:=TF x e (i:=i) (j:=j) om;rw[TE];omega
  ·have:i=j+1:=by omega
   subst this;exact lR _
theorem vh (h:e.ok):e.av.az≠[]↔e.jk=true:=by
 cases e with
 |«at» s=>exact⟨λ_=>rfl,λ_=>pJ h⟩
 |_=>exact⟨λhh=>absurd rfl hh,λhh=>by cases hh⟩
theorem F1 (e:Ex):e.from+e.kids.length<=6:=by cases e<;>simp[Ex.from,Ex.kids]
theorem adB (s:aj):∀(m:Nat) (e:Ex),e.n<=m->e.n<=1000000->e.ok->∀(v:Value) (L:List Nat) (w:World),bS L w v e.av->
  bZ Tryz.prog 206 [v,str s] w λr w'=>r= .int .i64 (im s e:Int)∧ak [] w w':=by
 intro m
 induction m with
 |zero=>intro e h;have:=e.pos;omega
 |succ m ih=>
  intro e hm mW bF v L w hv
  have dI:=hv
  obtain⟨a,n,c,rfl,hn,bc⟩:=dN hv
  subst hn
  have hK:=ak.refl [] w
  have hce:=count_le s e
  have IU:=F1 e
  refine cU [.tmp 4] 47 Tryz.func206 rfl Y2 rfl rfl ?_
  refine zr<|fA rfl ?_
  intro w1 aJ aZ dV
  have hK:=hK.ext aJ;have bc:=bc.ext aJ;have dI:=dI.ext aJ
  refine zA<|ag<|aQ<|zr<|zf dB rfl<|zl cg rfl (aZ.at rfl)<|jF rfl rfl rfl rfl<|ag<|zc rfl (λh1=>?_) (λh1=>?_)
  have aR:∃x,e= .at x:=(by have ha:=(vh bF).1 h1;cases e<;>first|exact⟨_,rfl⟩|cases ha)
  obtain⟨x,rfl⟩:=aR
  refine aQ<|zr<|zf dB rfl<|zl cg rfl (aZ.at rfl)<|zm<|cW rfl rfl<|ag<|zc rfl (λh2=>?_) (λh2=>?_)
  have hq:im s (.at x)=1:=iP h2
  refine zr<|zA<|ag<|aV ?_
  exact⟨_,rfl,by rw[hq];rfl,hK⟩
  have hq:im s (.at x)=0:=iN h2
  refine bA<|zr<|zA<|ag<|aV ?_
  exact⟨_,rfl,by rw[hq];rfl,hK⟩
  have fx:e.jk=false:=(by cases hh:e.jk;rfl;exact absurd ((vh bF).2 hh) h1)
  obtain⟨F2,oX,jG,wK⟩:=Ex.au fx
  obtain⟨jS,DQ,DR⟩:=F0 bF fx
  have F3:=LD bF fx
  have l9:eX (nth e.av.au 0).az=(e.from,e.from+e.kids.length):=by rw[jG];exact F3
  obtain⟨b,off,pa,pn,pc,rfl,er,fR,iy⟩:=j8 bc (iM jS)
  refine bA<|zr<|zA<|ag<|zr<|zf cM rfl<|zl cK rfl (aZ.at rfl)<|zi (i:=0) cw aH rfl rfl om<|zf dB rfl<|zl cg rfl (er 0 _ rfl)<|aC (IN _ _) ?_
  rintro _ _ ⟨rfl,rfl⟩
  rw[yk l9]
  refine zm<|zx (i:=0) rfl rfl<|zx (i:=1) rfl rfl<|zA<|zA<|ag<|aQ<|zr<|zm<|zA<|ag<|cP ?_
  refine fZ (λk:Nat=>[(1,str s),(2,.pointer (some ⟨w.heap.size,0,none⟩)),(5,.int .i64 (tE s e k:Int)),(7,.int .i64 ((e.from+e.kids.length:Nat):Int)),(8,.int .i64 ((e.from+k:Nat):Int))]) (λk w'=>ak [] w w'∧ak [] w1 w'∧k<=e.kids.length) (λk=>e.kids.length-k) (0) (⟨rfl,rfl,rfl,rfl,rfl⟩) (⟨hK,ak.refl _ _,om⟩) ?_
  intro gg w2 e2 hI
  obtain⟨hK,ku,hk⟩:=hI
  have aZ:=aZ.ext ku;have bc:=bc.ext ku;have dI:=dI.ext ku
  refine aQ<|zr<|zm<|zm<|fJ rfl rfl rfl<|ag<|zc rfl (λh3=>?_) (λh3=>?_)
  have iu:gg<e.kids.length:=om
  have sK:=wK gg iu
  obtain⟨b1,ga,gY,qT,gZ,e1,bC,sv,oY⟩:=j8 bc (iM (i:=e.from+gg) om)
  cases e1
  subst sv
  have dd:=(mS oY).eq sK
  have tQ:=Fk bF iu
  have bg:=TE s e gg
  have hmo:=TF s e (i:=gg+1) (j:=e.kids.length) om
  have hto:=RF fx s
  refine bA<|aQ<|cP<|zr<|zL bT aH rfl aZ.all rfl<|zm<|aC (TC e.av jS DQ DR (e.from+gg) _ _ w2 dI) ?_
  rintro v3 w3 ⟨et,aK⟩
  have gd:=aK.size
  have hK:=hK.ext aK;have aZ:=aZ.ext aK;have ku:=ku.ext aK;have bC:=bC.ext aK;have dd:=dd.ext aK
  have uw:=et [] sm
  rw[TA bF fx] at uw
  have hbf:=TD e (e.from+gg)
  refine zm<|aC (z6 (e.binds (e.from+gg)) om s _ [] w3 uw) ?_
  rintro v4 w4 ⟨eJ,aD⟩
  have gK:=aD.size
  have hK:=hK.ext aD;have aZ:=aZ.ext aD;have ku:=ku.ext aD;have bC:=bC.ext aD;have dd:=dd.ext aD
  obtain rfl:=eJ
  refine eH rfl<|ag<|zc rfl (λh4=>?_) (λh4=>?_)
  have ni:¬s∈e.binds (e.from+gg):=(by simpa using h4)
  rw[iN ni] at bg
  refine db<|zm<|zf cM rfl<|zl cK rfl (aZ.at rfl)<|zm<|zi cw aH rfl rfl om<|zL bT aH rfl bC rfl<|zm<|aC (ih (fL e gg) om om tQ.1 _ _ w4 dd) ?_
  rintro v5 w5 ⟨kQ,aT⟩
  have oW:=aT.size
  have hK:=hK.ext aT;have ku:=ku.ext aT
  obtain rfl:=kQ
  refine eE rfl rfl rfl (wrap_i64 _ om om)<|zA<|ag<|db<|zm<|eE rfl rfl rfl (wrap_i64 _ om om)<|zA<|ag ?_
  exact⟨gg+1,⟨rfl,rfl,congrArg (Value.int .i64) om,rfl,congrArg (Value.int .i64) om⟩,⟨hK,ku,om⟩,om⟩
  have ni:s∈e.binds (e.from+gg):=(by simpa using h4)
  rw[iP ni] at bg
  refine bA<|db<|zm<|eE rfl rfl rfl (wrap_i64 _ om om)<|zA<|ag ?_
  exact⟨gg+1,⟨rfl,rfl,congrArg (Value.int .i64) om,rfl,congrArg (Value.int .i64) om⟩,⟨hK,ku,om⟩,om⟩
  have gJ:gg=e.kids.length:=by omega
  refine gF<|gH rfl<|zr<|zm<|zA<|ag<|aV ?_
  exact⟨_,rfl,by rw[RF fx s,gJ];rfl,hK⟩
theorem TG (e:Ex) (bd l:List aj) (k:Nat):nT e bd l (k+1)=cF (fL e k) (bd++e.binds (e.from+k)) (nT e bd l k):=rfl
def kN (e:Ex) (k:Nat):Nat:=((e.kids.take k).map Ex.n).sum
theorem yn (h:k<e.kids.length):kN e (k+1)=kN e k+(fL e k).n:=by
 have h1:e.kids[k]?=some (fL e k):=by simp[fL,gE h]
 unfold kN
 rw[List.take_add_one,h1,List.map_append,List.sum_append]
 simp
theorem B1 (e:Ex) (k:Nat):kN e k<=e.n:=by
 have h1:kN e k<=(e.kids.map Ex.n).sum:=by
  conv=>rhs;rw[<-List.take_append_drop k e.kids,List.map_append,List.sum_append]
  unfold kN;omega
 have h2:(e.kids.map Ex.n).sum<=e.n:=by cases e<;>simp[Ex.kids,Ex.n]<;>omega
 omega
theorem TH (e:Ex) (bd l:List aj):∀{k:Nat},k<=e.kids.length->(nT e bd l k).length<=l.length+kN e k
 |0,_=>by simp[nT,kN]
 |k+1,hk=>by
  rw[TG,yn om]
  have h1:=tC (fL e k) (bd++e.binds (e.from+k)) (nT e bd l k)
  have h2:=TH e bd l (k:=k) om
  omega
theorem IV:∀(m:Nat) (e:Ex),e.n<=m->e.n<=1000->e.ok->∀(bd l:List aj),bd.length+2*e.n<=100000->l.length+e.n<=100000->∀(v vb vl:Value) (g:Option Nat) (w:World),
  bS g.toList w v e.av->bI g.toList w vb bd->dh w 9 vl g l->
  bZ Tryz.prog 175 [v,vb,vl] w λr w'=>∃g',dh w' 9 r g' (cF e bd l)∧Fr g.toList w g'.toList w':=by
 intro m
 induction m with
 |zero=>intro e h;have:=e.pos;omega
 |succ m ih=>
  intro e hm mW bF bd l uw hl v vb vl g w hv yo gL
  obtain⟨a,n,c,rfl,hn,bc⟩:=dN hv
  subst hn
  obtain⟨ab,nb,cb,rfl,TJ⟩:=eI yo
  subst TJ
  obtain⟨al,cl,rfl⟩:=kr gL
  have pY:=gL.lt
  have oO:=gL.rs
  have hR:=Fr.refl g.toList w
  have IU:=F1 e
  have dI:=mS bc
  refine cU [.tmp 6] 65 Tryz.func175 rfl YJ rfl rfl ?_
  refine zr<|fA rfl ?_
  intro w1 aJ bO dV
  have hR:=hR.ext aJ;have bc:=bc.ext aJ;have yo:=yo.ext aJ;have gL:=gL.ext aJ;have oO:=oO.ext aJ;have dI:=dI.ext aJ
  refine zA<|ag<|aQ<|zr<|zf dB rfl<|zl cg rfl (bO.at rfl)<|jF rfl rfl rfl rfl<|ag<|zc rfl (λh1=>?_) (λh1=>?_)
  have aR:∃x,e= .at x:=(by have ha:=(vh bF).1 h1;cases e<;>first|exact⟨_,rfl⟩|cases ha)
  obtain⟨x,rfl⟩:=aR
  refine aQ<|zr<|zf dB rfl<|zl cg rfl (bO.at rfl)<|aC (uX _ _) ?_
  rintro _ _ ⟨rfl,rfl⟩
  refine eH rfl<|zm ?_
  apply fo 5 17 22 [17,18,19,20,21,22] (ak [] w1) rfl
  intro h2
  replace h2:=bu h2
  have F4:=ak.refl [] w1
  refine zs<|zs<|zs<|zs<|zp rfl<|ag ?_
  exact mg rfl F4
  intro h2
  replace h2:=bu h2
  have F4:=ak.refl [] w1
  refine zm<|zf dB rfl<|zl cg rfl (bO.at rfl)<|aC (z6 bd om x _ _ w1 yo) ?_
  rintro v2 w2 ⟨dz,aq⟩
  have dR:=aq.size
  have F4:=F4.ext aq
  obtain rfl:=dz
  refine zp rfl<|ag ?_
  exact mg rfl F4
  intro xx w3 aK
  have hR:=hR.ext aK;have gL:=gL.ext aK;have oO:=oO.ext aK;have bO:=bO.ext aK
  refine zm ?_
  apply fo 5 23 28 [23,24,25,26,27,28] (ak [] w3) rfl
  intro h3
  replace h3:=bu h3
  have F5:=ak.refl [] w3
  refine zs<|zs<|zs<|zs<|zp rfl<|ag ?_
  exact mg rfl F5
  intro h3
  replace h3:=bu h3
  have F5:=ak.refl [] w3
  refine zm<|zf dB rfl<|zl cg rfl (bO.at rfl)<|aC (z6 l om x _ _ w3 oO) ?_
  rintro v4 w4 ⟨eJ,aD⟩
  have gK:=aD.size
  have F5:=F5.ext aD
  obtain rfl:=eJ
  refine zp rfl<|ag ?_
  exact mg rfl F5
  intro xx w5 aT
  have hR:=hR.ext aT;have gL:=gL.ext aT;have bO:=bO.ext aT
  refine ag<|zc rfl (λh4=>?_) (λh4=>?_)
  have hq:cF (.at x) bd l=l:=iP h4
  refine zr<|zm<|zA<|ag<|aV ?_
  exact⟨_,rfl,g,by rw[hq];exact gL,hR⟩
  have hq:cF (.at x) bd l=l++[x]:=iN (λhh=>Bool.noConfusion (hh.symm.trans h4))
  refine bA<|zr<|zm<|zf dB rfl<|zl cg rfl (bO.at rfl)<|gA bh bB rfl rfl ?_
  intro w6 bD IW lB
  have hR:=hR.ext bD;have gL:=gL.ext bD
  refine Sx bh bB rfl rfl rfl rfl rfl rfl gL IW om ?_
  intro v5 g5 w7 lq cv nq
  have hR:=hR.go nq
  refine zA<|ag<|aV ?_
  exact⟨_,rfl,g5,by rw[hq];exact lq,hR⟩
  have fx:e.jk=false:=(by cases hh:e.jk;rfl;exact absurd ((vh bF).2 hh) h1)
  obtain⟨F2,oX,jG,wK⟩:=Ex.au fx
  obtain⟨jS,DQ,DR⟩:=F0 bF fx
  have F3:=LD bF fx
  have l9:eX (nth e.av.au 0).az=(e.from,e.from+e.kids.length):=by rw[jG];exact F3
  obtain⟨b,off,pa,pc,rfl,er,hT0⟩:=fI bc jS
  have bO:=bO.o pY
  refine bA<|zr<|zf cM rfl<|zl cK rfl (bO.at rfl)<|zi (i:=0) cw aH rfl rfl om<|zf dB rfl<|zl cg rfl (er.cells 0 _ rfl)<|aC (IN _ _) ?_
  rintro _ _ ⟨rfl,rfl⟩
  rw[yk l9]
  refine zm<|zx (i:=0) rfl rfl<|zx (i:=1) rfl rfl<|zA<|zA<|ag<|aQ<|zr<|zm<|zA<|ag<|cP ?_
  refine fZ (λq:Nat×Value×Option Nat=>[(1,.slice ab bd.length cb),(2,q.2.1),(3,.pointer (some ⟨w.heap.size,0,none⟩)),(8,.int .i64 ((e.from+e.kids.length:Nat):Int)),(9,.int .i64 ((e.from+q.1:Nat):Int))]) (λq w'=>Fr g.toList w q.2.2.toList w'∧Fr g.toList w1 q.2.2.toList w'∧dh w' 9 q.2.1 q.2.2 (nT e bd l q.1)∧q.1<=e.kids.length) (λq=>e.kids.length-q.1) ((0,.slice al l.length cl,g)) (⟨rfl,rfl,rfl,rfl,rfl⟩) (⟨hR,Fr.refl _ _,gL,sm⟩) ?_
  intro gg w2 e2 hI
  obtain⟨k,vl,gl⟩:=gg
  dsimp only at hI⊢
  obtain⟨hR,ku,gL,hk⟩:=hI
  have bO:=bO.go ku;have bc:=bc.go ku;have yo:=yo.go ku;have dI:=dI.go ku
  refine aQ<|zr<|zm<|zm<|fJ rfl rfl rfl<|ag<|zc rfl (λh5=>?_) (λh5=>?_)
  have iu:k<e.kids.length:=om
  have sK:=wK k iu
  obtain⟨b1,ga,gY,gZ,e1,bC,dd⟩:=fI bc (i:=e.from+k) om
  cases e1
  have dd:=dd.eq sK
  have tQ:=Fk bF iu
  have bg:=TG e bd l k
  have hbf:=TD e (e.from+k)
  have pb:=TH e bd l (k:=k) om
  have AH:=yn iu
  have gS:=B1 e (k+1)
  refine bA<|aQ<|cP ?_
  apply kc eu gl.toList 13 (rA 50 13) (rA 50 13) [[],[0],[],[1,2],[3],[],[],[5,6],[],[],[8,9],[7,10],[]] [Ie.v _,Ie.v _,Ie.v _,Ie.v _,Ie.v _,Ie.p (fun(G:List Nat) (v:Value) (ww:World)=>∃bb,v= .slice (some ⟨bb,0,none⟩) 0 0∧fh G ww bb #[] 9),Ie.v _,Ie.e 0,Ie.v _,Ie.v _,Ie.p (fun(G:List Nat) (v:Value) (ww:World)=>bI G ww v (e.binds (e.from+k))),Ie.e 1,Ie.v _] [7,11] [fun(G:List Nat) (vs:List Value) (ww:World)=>dh ww 9 vl gl (nT e bd l k)∧(∀x,x∈gl.toList->x∈G),fun(G:List Nat) (vs:List Value) (ww:World)=>(dh ww 9 vl gl (nT e bd l k)∧(∀x,x∈gl.toList->x∈G))∧∃g7,dh ww 9 (vs.getD 0 undef) g7 bd∧qA G ww 9 g7∧(∀x,x∈g7.toList->x∉gl.toList),fun(G:List Nat) (vs:List Value) (ww:World)=>(dh ww 9 vl gl (nT e bd l k)∧(∀x,x∈gl.toList->x∈G))∧∃g7,dh ww 9 (vs.getD 1 undef) g7 (bd++e.binds (e.from+k))∧qA G ww 9 g7∧(∀x,x∈g7.toList->x∉gl.toList)] de rfl gL.lt (by exact⟨λG v w G' w' ⟨bb,e,h⟩ k=>⟨bb,e,h.go k⟩,λG v w G' w' h k=>bI.go h k,trivial⟩) (by exact⟨λG vs w w' h k=>⟨h.1.ext k,h.2⟩,λG vs w w' ⟨h1,g7,h2,h3,h4⟩ k=>⟨⟨h1.1.ext k,h1.2⟩,g7,h2.ext k,h3.ext k,h4⟩,λG vs w w' ⟨h1,g7,h2,h3,h4⟩ k=>⟨⟨h1.1.ext k,h1.2⟩,g7,h2.ext k,h3.ext k,h4⟩,trivial⟩) (⟨gL,λx hx=>hx⟩)
  refine vf (λ_ _ _ _ _ _=>zf cM rfl fv) ?_
  refine vf (λx w3 G3 aW fX iW=>?_) ?_
  have bO:=bO.go fX
  refine zl cK rfl (bO.at rfl) ?_
  exact fv
  refine cR ?_
  refine vf (λ_ _ _ _ _ _=>zi cw aH rfl rfl om fv) ?_
  refine vf (λx w3 G3 aW fX iW=>?_) ?_
  have bC:=bC.go fX
  refine zL bT aH rfl bC.cells rfl ?_
  exact fv
  refine vf (λx w3 G3 aW fX iW=>?_) ?_
  refine gM bh bB ?_
  intro w4 aD B2 iL
  exact ff aD (⟨_,rfl,B2.o iW⟩)
  refine cR ?_
  refine ve 0 (λx w3 G3 aW fX iW hJ hlen=>?_) ?_
  have bo:=jO hlen
  subst bo
  have yo:=yo.go fX
  intro v5 d5
  obtain⟨bb,e5,gx⟩:=d5
  subst e5
  have hJ:dh w3 9 vl gl (nT e bd l k)∧(∀x,x∈gl.toList->x∈G3):=hJ
  refine DP bh bB rfl rfl rfl rfl rfl rfl gx.ju.ll yo ‹_› (λx hx=>.inr (by simp at hx;subst hx;exact gx.ju)) so ?_
  intro v9 g9 w4 G9 dK DS ph kV df fi aG
  exact fe G9 df fi (⟨⟨hJ.1.aO aG (λb hb hx=>gx.out (by simp at hx;subst hx;exact hJ.2 _ (by simp[hb]))),λx hx=>kV x (hJ.2 x hx)⟩,g9,dK,DS,λx hx fF=>(ph x hx).elim (λh=>gx.out (by simp at h;subst h;exact hJ.2 _ fF)) (λh=>by have:=iW x (hJ.2 x fF);omega)⟩)
  refine vf (λx w3 G3 aW fX iW=>?_) ?_
  have bO:=bO.go fX
  refine zL bT aH rfl bO.all rfl ?_
  exact fv
  refine cR ?_
  refine vf (λx w3 G3 aW fX iW=>?_) ?_
  have dI:=dI.go fX
  refine aC (TC e.av jS DQ DR (e.from+k) _ _ w3 dI) ?_
  rintro v4 w4 ⟨eJ,aD⟩
  have gK:=aD.size
  have adE:=eJ
  exact ff aD ((by have h9:=adE _ iW;rw[TA bF fx] at h9;exact h9))
  refine ve 1 (λx w3 G3 aW fX iW hJ hlen=>?_) ?_
  obtain⟨q0,bo⟩:=jP hlen
  subst bo
  intro v10 d10
  have hJ:(dh w3 9 vl gl (nT e bd l k)∧(∀x,x∈gl.toList->x∈G3))∧∃g7,dh w3 9 q0 g7 bd∧qA G3 w3 9 g7∧(∀x,x∈g7.toList->x∉gl.toList):=hJ
  obtain⟨⟨DE,rU⟩,g7,B3,B4,IX⟩:=hJ
  refine DP bh bB rfl rfl rfl rfl rfl rfl B3 d10 ‹_› B4 om ?_
  intro v9 g9 w4 G9 dK DS ph kV df fi aG
  exact fe G9 df fi (⟨⟨DE.aO aG (λb hb hx=>IX b hx (by simp[hb])),λx hx=>kV x (rU x hx)⟩,g9,dK,DS,λx hx fF=>(ph x hx).elim (λh=>IX x h fF) (λh=>by have:=iW x (rU x fF);omega)⟩)
  refine cR ?_
  exact trivial
  intro x qz F6 aW DT MM hJ hlen
  obtain⟨q0,q1,bo⟩:=lH hlen
  subst bo
  intro v5 d5
  intro v10 d10
  have hR:=hR.go DT;have ku:=ku.go DT;have dd:=dd.go DT
  change OW _ _ _ _ _ (aM (aN _ x _) (zZ 50 [_,_,_,_,_,_,_,_,_,_,_,_,_])) _
  have hJ:(dh qz 9 vl gl (nT e bd l k)∧(∀x,x∈gl.toList->x∈F6))∧∃g7,dh qz 9 q1 g7 (bd++e.binds (e.from+k))∧qA F6 qz 9 g7∧(∀x,x∈g7.toList->x∉gl.toList):=hJ
  obtain⟨⟨DE,rU⟩,g7,B3,B4,IX⟩:=hJ
  refine aC (ih (fL e k) om om tQ.1 (bd++e.binds (e.from+k)) (nT e bd l k) (by rw[lA];omega) om _ _ _ gl qz (dd.jj (λx hx=>rU x hx)) (B3.rep (λb hb=>IX b (by simp[hb]))) DE) ?_
  rintro MN nP ⟨MO,IY,F7⟩
  refine zA<|ag<|db<|zm<|eE rfl rfl rfl (wrap_i64 _ om om)<|zA<|ag ?_
  exact⟨(k+1,MN,MO),⟨rfl,rfl,rfl,rfl,congrArg (Value.int .i64) so⟩,⟨(hR.to (λx hx=>.inl (rU x hx))).go F7,(ku.to (λx hx=>.inl (rU x hx))).go F7,IY,by simp;omega⟩,by simp;omega⟩
  have gJ:k=e.kids.length:=by omega
  refine gF<|gH rfl<|zr<|zm<|zA<|ag<|aV ?_
  exact⟨_,rfl,gl,by rw[acd fx,<-gJ];exact gL,hR⟩
theorem adF (s:aj) (w:World):bZ Tryz.prog 152 [str s] w λv w'=>(∃a n c,v= .tuple #[.slice a n c,.bool (mB s)]∧(mB s=true->∃e:Ex,ba s=some e.av∧e.ok∧e.n<=120∧bI [] w' (.slice a n c) (cF e [] [])))∧ak [] w w':=by
 have hK:=ak.refl [] w
 refine cU [.tmp 2,.tmp 3] 18 Tryz.func152 rfl Yy rfl rfl ?_
 refine zr<|zA<|zA<|ag<|zr<|zm<|aC (FY s [] w sm) ?_
 rintro v1 w1 ⟨fO,aJ⟩
 have dy:=aJ.size
 have hK:=hK.ext aJ
 obtain⟨t,tv,rfl,ht,hp⟩:=fO
 obtain⟨pa,pn,pc,rfl,fR,bc⟩:=dN ht
 refine zm<|zx (i:=0) rfl rfl<|zx (i:=1) rfl rfl<|eC aH rfl rfl rfl ?_
 intro w2 aq aI eK
 have hK:=hK.grow;have hK:=hK.ext aq;have ht:=ht.grow;have ht:=ht.ext aq
 refine dk aH rfl rfl rfl aI rfl ?_
 intro w3 aK aI iK
 have hK:=hK.aL aK sx;have ht:=ht.aL aK sx
 refine zA<|ag<|aQ<|zr<|zm<|eH rfl<|ag<|zc rfl (λh1=>?_) (λh1=>?_)
 have hx:mB s=false:=by simpa using h1
 refine zr<|gM bh bB ?_
 intro w4 aD mc iL
 have hK:=hK.ext aD
 refine zA<|zA<|ag<|aV ?_
 exact⟨_,rfl,⟨_,_,_,by rw[hx];rfl,λh=>by rw[hx] at h;cases h⟩,hK⟩
 have hx:mB s=true:=by simpa using h1
 obtain⟨e,he,bF,hn⟩:=wI.1 hx
 have e2:=hp.1 _ he
 subst e2
 refine bA<|zr<|zL bT aH rfl aI.all rfl<|gM bh bB ?_
 intro w4 aD IZ I0
 have ht:=ht.ext aD;have hK:=hK.ext aD
 refine gM bh bB ?_
 have Mr:=bS.grow (ht.jj (L':=[]) sm)
 intro w5 aT wi F8
 have ht:=Mr.ext aT
 have hK:=hK.ext aT
 refine aC (IV 120 e hn om bF [] [] so so _ _ _ (some _) w5 ht (cD.nil _ _ _) wi.ll) ?_
 rintro v9 w6 ⟨g9,dK,df⟩
 obtain⟨a9,c9,rfl⟩:=kr dK
 have hK:=hK.since df.aO (λx hx=>.inr (by simp at hx;omega))
 refine zA<|zA<|ag<|aV ?_
 exact⟨_,rfl,⟨_,_,_,by rw[hx];rfl,λ_=>⟨e,he,bF,hn,dK.rs⟩⟩,hK⟩
theorem DU {b:aj} (h:cj a=cj b):a=b:=by simpa[cj] using h
theorem qB:∀{e f:Ex},e.ok->f.ok->e.av=f.av->e=f
 | .at s,.at r,_,_,h=>by rw[DU h]
 | .at s,.un ..,h1,_,h=>absurd (congrArg aA.az h) (pJ h1)
 | .at s,.bi ..,h1,_,h=>absurd (congrArg aA.az h) (pJ h1)
 | .at s,.ite ..,h1,_,h=>absurd (congrArg aA.az h) (pJ h1)
 | .at s,.lt ..,h1,_,h=>absurd (congrArg aA.az h) (pJ h1)
 | .at s,.fn ..,h1,_,h=>absurd (congrArg aA.az h) (pJ h1)
 | .un ..,.at s,_,h1,h=>absurd (congrArg aA.az h).symm (pJ h1)
 | .bi ..,.at s,_,h1,h=>absurd (congrArg aA.az h).symm (pJ h1)
 | .ite ..,.at s,_,h1,h=>absurd (congrArg aA.az h).symm (pJ h1)
 | .lt ..,.at s,_,h1,h=>absurd (congrArg aA.az h).symm (pJ h1)
 | .fn ..,.at s,_,h1,h=>absurd (congrArg aA.az h).symm (pJ h1)
 | .un h a,.un h' a',k,k',e=>by
  have e:=congrArg aA.au e
  simp only[Ex.av,aA.au,List.cons.injEq,and_true] at e
  rw[DU e.1,qB k.2 k'.2 e.2]
 | .bi h a b,.bi h' a' b',k,k',e=>by
  have e:=congrArg aA.au e
  simp only[Ex.av,aA.au,List.cons.injEq,and_true] at e
  rw[DU e.1,qB k.2.1 k'.2.1 e.2.1,qB k.2.2 k'.2.2 e.2.2]
 | .ite a b c,.ite a' b' c',k,k',e=>by
  have e:=congrArg aA.au e
  simp only[Ex.av,aA.au,List.cons.injEq,and_true] at e
  rw[qB k.1 k'.1 e.2.1,qB k.2.1 k'.2.1 e.2.2.1,qB k.2.2 k'.2.2 e.2.2.2]
 | .lt x a b,.lt x' a' b',k,k',e=>by
  have e:=congrArg aA.au e
  simp only[Ex.av,aA.au,List.cons.injEq,and_true] at e
  rw[DU e.2.1,qB k.2.1 k'.2.1 e.2.2.1,qB k.2.2 k'.2.2 e.2.2.2]
 | .fn f x A B b,.fn f' x' A' B' b',k,k',e=>by
  have e:=congrArg aA.au e
  simp only[Ex.av,aA.au,List.cons.injEq,and_true] at e
  rw[DU e.2.1,DU e.2.2.1,Fj e.2.2.2.1,Fj e.2.2.2.2.1,qB k.2.2.2.2.2 k'.2.2.2.2.2 e.2.2.2.2.2]
 | .un ..,.bi ..,_,_,e=>by have e:=congrArg aA.au e;simp[Ex.av,aA.au] at e
 | .un ..,.ite ..,_,_,e=>by have e:=congrArg aA.au e;simp[Ex.av,aA.au] at e
 | .un ..,.lt ..,_,_,e=>by have e:=congrArg aA.au e;simp[Ex.av,aA.au] at e
 | .un ..,.fn ..,_,_,e=>by have e:=congrArg aA.au e;simp[Ex.av,aA.au] at e
 | .bi ..,.un ..,_,_,e=>by have e:=congrArg aA.au e;simp[Ex.av,aA.au] at e
 | .bi ..,.ite ..,_,_,e=>by have e:=congrArg aA.au e;simp[Ex.av,aA.au] at e
 | .bi ..,.lt ..,_,_,e=>by have e:=congrArg aA.au e;simp[Ex.av,aA.au] at e
 | .bi ..,.fn ..,_,_,e=>by have e:=congrArg aA.au e;simp[Ex.av,aA.au] at e
 | .ite ..,.un ..,_,_,e=>by have e:=congrArg aA.au e;simp[Ex.av,aA.au] at e
 | .ite ..,.bi ..,_,_,e=>by have e:=congrArg aA.au e;simp[Ex.av,aA.au] at e
 | .ite ..,.lt ..,_,_,e=>by have e:=congrArg aA.au e;simp[Ex.av,aA.au,cj] at e
 | .ite ..,.fn ..,_,_,e=>by have e:=congrArg aA.au e;simp[Ex.av,aA.au] at e
 | .lt ..,.un ..,_,_,e=>by have e:=congrArg aA.au e;simp[Ex.av,aA.au] at e
 | .lt ..,.bi ..,_,_,e=>by have e:=congrArg aA.au e;simp[Ex.av,aA.au] at e
 | .lt ..,.ite ..,_,_,e=>by have e:=congrArg aA.au e;simp[Ex.av,aA.au,cj] at e
 | .lt ..,.fn ..,_,_,e=>by have e:=congrArg aA.au e;simp[Ex.av,aA.au] at e
 | .fn ..,.un ..,_,_,e=>by have e:=congrArg aA.au e;simp[Ex.av,aA.au] at e
 | .fn ..,.bi ..,_,_,e=>by have e:=congrArg aA.au e;simp[Ex.av,aA.au] at e
 | .fn ..,.ite ..,_,_,e=>by have e:=congrArg aA.au e;simp[Ex.av,aA.au] at e
 | .fn ..,.lt ..,_,_,e=>by have e:=congrArg aA.au e;simp[Ex.av,aA.au] at e
def adG (s:aj) (e:Ex):Prop:=ba s=some e.av∧e.ok∧e.n<=120∧cF e [] []=[]
theorem adH (s:aj) (w:World):bZ Tryz.prog 113 [str s] w λv w'=>(∃b,v= .bool b∧(b=true↔∃e:Ex,adG s e))∧ak [] w w':=by
 have hK:=ak.refl [] w
 refine cU [.tmp 2] 16 Tryz.func113 rfl XY rfl rfl ?_
 refine zr<|zA<|ag<|zr<|zm<|aC (adF s w) ?_
 rintro v1 w1 ⟨fO,aJ⟩
 have dy:=aJ.size
 have hK:=hK.ext aJ
 obtain⟨a,n,c,rfl,hf⟩:=fO
 refine zm<|zx (i:=0) rfl rfl<|zx (i:=1) rfl rfl<|zA<|zA<|ag<|zr<|zm<|zm ?_
 apply fU 4 11 15 [11,12,13,14,15] (λw'=>w1=w') rfl
 intro h1
 replace h1:=bu h1
 refine zm<|eh bh rfl<|dO rfl rfl rfl<|zp rfl<|ag ?_
 exact mg rfl rfl
 intro h1
 replace h1:=bu h1
 refine zs<|zs<|zs<|zp rfl<|ag ?_
 exact mg rfl rfl
 rintro xx _ rfl
 refine zA<|ag<|aV<|⟨_,rfl,⟨_,rfl,?_⟩,hK⟩
 rw[aE,dE]
 constructor
 rintro⟨h1,h2⟩;obtain⟨e,he,bF,hn,hs⟩:=hf h1;obtain⟨_,_,_,e2,e3⟩:=eI hs;cases e2;exact⟨e,he,bF,hn,List.length_eq_zero_iff.1 om⟩
 rintro⟨e,he,bF,hn,h0⟩;have hx:mB s=true:=wI.2 ⟨e,he,bF,hn⟩;refine⟨hx,?_⟩;obtain⟨e',uA,adI,CY,hs⟩:=hf hx;rw[he] at uA;have:=qB bF adI (Option.some.inj uA);subst this;rw[h0] at hs;obtain⟨_,_,_,e2,e3⟩:=eI hs;cases e2;simp at e3;omega
def kG (ai:List aj) (ρ:Rn) (e:Ex) (n:Nat):Nat->List Ex×Nat
 |0=>([],n)
 |k+1=>((kG ai ρ e n k).1++[(ck ai (fL e k) ρ (kG ai ρ e n k).2).1],(ck ai (fL e k) ρ (kG ai ρ e n k).2).2)
theorem MP (ai:List aj) (ρ:Rn) (e:Ex) (n:Nat):∀k,(kG ai ρ e n k).1.length=k
 |0=>rfl
 |k+1=>by simp[kG,MP ai ρ e n k]
def jT (ai:List aj) (ρ:Rn) (n:Nat):Ex->Rn
 | .fn f x _ _ _=>ρ++[(f,dj cx (bK cx ai n)),(x,dj cx (bK cx ai (bK cx ai n+1)))]
 |_=>ρ
def nF (ai:List aj) (n:Nat):Ex->Nat
 | .fn _ _ _ _ _=>bK cx ai (bK cx ai n+1)+1
 |_=>n
def wL (ai:List aj) (n:Nat):Ex->List aA
 | .fn _ _ A B _=>[cj il,cj (dj cx (bK cx ai n)),cj (dj cx (bK cx ai (bK cx ai n+1))),A.av,B.av]
 |e=>[cj e.head]
def isLt:Ex->Bool
 | .lt _ _ _=>true
 |_=>false
theorem adJ (ai:List aj) (ρ:Rn) (n:Nat) (ha:e.jk=false) (hl:isLt e=false):
  (ck ai e ρ n).1.av= .mk [] (wL ai n e++(kG ai (jT ai ρ n e) e (nF ai n e) e.kids.length).1.map Ex.av)∧(ck ai e ρ n).2=(kG ai (jT ai ρ n e) e (nF ai n e) e.kids.length).2:=by
 cases e with
 |«at» s=>cases ha
 |lt x a b=>cases hl
 |un h a=>exact⟨rfl,rfl⟩
 |bi h a b=>exact⟨rfl,rfl⟩
 |ite a b c=>exact⟨rfl,rfl⟩
 |fn f x A B b=>exact⟨rfl,rfl⟩
theorem adK (ai:List aj) (n:Nat) (ha:e.jk=false) (hl:isLt e=false):(wL ai n e).length=e.from:=by
 cases e with
 |«at» s=>cases ha
 |lt x a b=>cases hl
 |_=>rfl
theorem adL (ai:List aj) (n:Nat) (hk:e.ok) (ha:e.jk=false) (hf:e.head≠il):wL ai n e=[cj e.head]∧nF ai n e=n:=by
 cases e with
 |fn f x A B b=>exact absurd rfl hf
 |_=>exact⟨rfl,rfl⟩
theorem TK (ai:List aj) (ρ:Rn) (n:Nat) (hf:e.head≠il):jT ai ρ n e=ρ:=by
 cases e with
 |fn f x A B b=>exact absurd rfl hf
 |_=>rfl
theorem I1 (h:e.ok) (he:e.head=gQ):∃x a b,e= .lt x a b:=by
 cases e with
 |lt x a b=>exact⟨x,a,b,rfl⟩
 |un hd a=>have he:hd=gQ:=he;rw[he] at h;exact absurd h.1 de
 |bi hd a b=>have he:hd=gQ:=he;rw[he] at h;exact absurd h.1 de
 |«at» s=>cases he
 |ite a b c=>cases he
 |fn f x A B b=>cases he
theorem I2 (h:e.ok) (he:e.head=il):∃f x A B b,e= .fn f x A B b:=by
 cases e with
 |fn f x A B b=>exact⟨f,x,A,B,b,rfl⟩
 |un hd a=>have he:hd=il:=he;rw[he] at h;exact absurd h.1 de
 |bi hd a b=>have he:hd=il:=he;rw[he] at h;exact absurd h.1 de
 |«at» s=>cases he
 |ite a b c=>cases he
 |lt x a b=>cases he
theorem TL (h:e.ok) (he:e.head=cC):∃a b c,e= .ite a b c:=by
 cases e with
 |ite a b c=>exact⟨a,b,c,rfl⟩
 |un hd a=>have he:hd=cC:=he;rw[he] at h;exact absurd h.1 de
 |bi hd a b=>have he:hd=cC:=he;rw[he] at h;exact absurd h.1 de
 |«at» s=>cases he
 |lt x a b=>cases he
 |fn f x A B b=>cases he
theorem not_lt (he:e.head≠gQ):isLt e=false:=by
 cases e with
 |lt x a b=>exact absurd rfl he
 |_=>rfl
theorem TM (ha:e.jk=false) (hl:isLt e=false) (hf:e.head≠il):e.av.au=[cj e.head]++e.kids.map Ex.av:=by
 cases e with
 |«at» s=>cases ha
 |lt x a b=>cases hl
 |fn f x A B b=>exact absurd rfl hf
 |_=>rfl
def mf (pre:List aA) (acc:List Ex) (e:Ex):List aA:=pre++acc.map Ex.av++(e.kids.drop acc.length).map Ex.av
theorem TN {pre:List aA} {acc:List Ex} {y:Ex} (h:acc.length<e.kids.length):(mf pre acc e).set (pre.length+acc.length) y.av=mf pre (acc++[y]) e:=by
 have h1:e.kids[acc.length]?=some (fL e acc.length):=by simp[fL,gE h]
 unfold mf
 rw[List.drop_eq_getElem_cons h,List.map_cons,List.set_append_right _ _ sm,lA,List.length_map,Nat.sub_self]
 simp
theorem TO {pre:List aA} {acc:List Ex} (h:acc.length<=e.kids.length):(mf pre acc e).length=pre.length+e.kids.length:=by
 simp[mf];omega
theorem TP {pre:List aA} {acc:List Ex} (h:acc.length=e.kids.length):mf pre acc e=pre++acc.map Ex.av:=by
 unfold mf
 rw[List.drop_of_length_le om];simp
structure RN (L:List Nat) (w:World) (br:Nat) (ai:List aj) (n:Nat):Prop where
 mem:br∈L
 box:∃vf,aY w br [vf,.int .i64 (n:Int)].toArray 188∧bI L w vf ai
theorem RN.ext {br:Nat} {ai:List aj} (h:RN L w br ai n) (k:ak [] w w'):RN L w' br ai n:=let⟨v,h1,h2⟩:=h.box;⟨h.mem,v,h1.ext k,h2.ext k⟩
theorem RN.lt {br:Nat} {ai:List aj} (h:RN L w br ai n):br<w.heap.size:=let⟨_,h1,_⟩:=h.box;h1.lt
theorem RN.re {L':List Nat} {br:Nat} {ai:List aj} (h:RN L w br ai n) (hb:br∈L') (hL:∀x,x∈L'->x∈L∨w.heap.size<=x):RN L' w br ai n:=let⟨v,h1,h2⟩:=h.box;⟨hb,v,h1,h2.fresh hL⟩
theorem RN.aO {br:Nat} {ai:List aj} (h:RN L w br ai n) (k:ak G w w') (hb:br∉G) (hG:∀x,x∈G->x∈L):RN L w' br ai n:=
 let⟨v,h1,h2⟩:=h.box;⟨h.mem,v,h1.aO k hb,h2.aL k hG⟩
theorem RN.out {br:Nat} {ai:List aj} (h:RN G w br ai n) (k:Fr G w G' w') (ho:Out N G0 w w') (hb:br∈G0) (gW:br∈G'):RN G' w' br ai n:=
 let⟨v,h1,h2⟩:=h.box;⟨gW,v,ho.ju h1 hb,h2.go k⟩
theorem DV (c:UInt8) (ai:List aj) (n:Nat):bK c ai n<=n+ai.length+1:=(oG c ai n).2
theorem MQ (ai:List aj) (n:Nat) (hn:n<=100000) (hb:ai.length<=10000) (br:Nat) (L:List Nat) (w:World) (h:RN L w br ai n):
  bZ Tryz.prog 203 [.pointer (some ⟨br,0,none⟩)] w λr w'=>(r=str (dj cx (bK cx ai n))∧RN L w' br ai (bK cx ai n+1))∧ak [br] w w':=by
 have MR:=DV cx ai n
 have rV:=h.mem
 refine cU [.tmp 2] 26 Tryz.func203 rfl YZ rfl rfl ?_
 refine zr<|zA<|ag<|cP ?_
 refine fZ (λk:Nat=>[(0,.pointer (some ⟨br,0,none⟩))]) (λk w'=>ak [br] w w'∧RN L w' br ai k∧n<=k∧bK cx ai k=bK cx ai n) (λk=>bK cx ai n+1-k) n rfl (⟨ak.refl _ _,h,lR _,rfl⟩) ?_
 intro gg w1 e1 hI
 obtain⟨hK,⟨_,vf,iG,fS⟩,hk,hq⟩:=hI
 have hle:=(oG cx ai gg).1
 refine cP<|zr<|zm<|di rfl<|zf HL rfl<|zl qQ rfl (iG.at rfl)<|aC (iS (gg+1) gg om om w1) ?_
 rintro v2 w2 ⟨dz,aq⟩
 have dR:=aq.size
 have hK:=hK.ext aq;have iG:=iG.ext aq;have fS:=fS.ext aq
 obtain rfl:=dz
 refine cm rfl rfl (by have:=Ds _ gg (lR _);simp;omega)<|zA<|ag<|zr<|zm<|zm<|di rfl<|zf HL rfl<|zl qQ rfl (iG.at rfl)<|eE rfl rfl rfl (wrap_i64 _ om om)<|di rfl<|zf HL rfl<|gX (o:=1) tt rfl rfl rfl iG rfl ?_
 intro w3 aK iG dP
 have fS:=fS.aL aK (by simpa using rV)
 have hK:=hK.trans aK
 refine ag<|zr<|zm<|di rfl<|zf Z7 rfl<|zl eO rfl (iG.at rfl)<|zm<|aC (z6 ai om (dj cx gg) _ _ w3 fS) ?_
 rintro v4 w4 ⟨eJ,aD⟩
 have gK:=aD.size
 have hK:=hK.ext aD;have iG:=iG.ext aD;have fS:=fS.ext aD
 obtain rfl:=eJ
 refine eH rfl<|ag<|zc rfl (λh1=>?_) (λh1=>?_)
 have ni:dj cx gg∉ai:=(by simpa using h1)
 have F9:bK cx ai n=gg:=hq.symm.trans (RK ni)
 refine zr<|zm<|zA<|ag<|aV ?_
 exact⟨_,rfl,⟨by rw[F9];rfl,rV,_,by rw[F9];exact iG,fS⟩,hK⟩
 have ni:dj cx gg∈ai:=(by simpa using h1)
 have hfs:=RJ ni
 have Rk:=(oG cx ai (gg+1)).1
 refine bA ?_
 exact⟨gg+1,rfl,⟨hK,⟨rV,vf,iG,fS⟩,om,om⟩,om⟩
theorem TQ (ai:List aj) (ρ:Rn) (e:Ex) (n:Nat):∀k,k<=e.kids.length->n<=(kG ai ρ e n k).2∧(kG ai ρ e n k).2<=n+kN e k*(ai.length+2)
 |0,_=>by simp[kG]
 |k+1,hk=>by
  have h1:=TQ ai ρ e n k om
  have h2:=jz ai (fL e k) ρ (kG ai ρ e n k).2
  rw[yn om,Nat.add_mul]
  show n<=(ck ai (fL e k) ρ (kG ai ρ e n k).2).2∧(ck ai (fL e k) ρ (kG ai ρ e n k).2).2<=_
  omega
end Go.Proofs.YtigijcjccmdmhaaGreatDoor
