/- Lemmas for the law FnFind, no statement of their own: no conditions. -/
import Derived.Test.YtigijcjccmdmhaaGreatDoorFb
namespace Go.Proofs.YtigijcjccmdmhaaGreatDoor
open Go
section
variable {P:Program} {n:Nat} {l:List Oper} {m:Nat} {W ds:List Nat} {deps:List (List Nat)}
def Sb {N:Env->World->Prop} {Inv:(Nat->Bool)->Env->World->Prop} (hB:wa l m W ds deps=true)
  (step:∀(S:Nat->Bool) (e:Env) (w:World) (i:Nat) (o:Oper),i<m->l[i]?=some o->S i=false->(∀j,waits o j=true->S j=true)->Inv S e w->
   OW P n l.toArray (λe' w'=>Inv (λj=>if j=i then true else S j) e' w') [o] e w)
  (tail:∀(S:Nat->Bool) (e:Env) (w:World),(∀i,i<m->S i=true)->Inv S e w->OW P n l.toArray N (l.drop m) e w) (Q:Exit->Act->World->Prop):
  ∀(fuel:Nat) (listed:Array Bool) (e:Env) (a:Act) (w:World),Fits n e a->listed.size=l.length->
   ((List.range l.length).filter λj=>!listed.getD j true).length=fuel->
   (∀j,m<=j->j<l.length->listed.getD j true=false)->Inv (λj=>listed.getD j false) e w->Hz l listed->
   wpAny P .any l.toArray (pF n N Q) fuel listed a w:=by
 obtain⟨C8,EN,Ko,jA,oz⟩:=C7 hB
 have y0:∀(listed:Array Bool) (j:Nat),listed.size=l.length->j<l.length->¬listed.getD j true=false->listed.getD j false=true:=λlisted j hs hj h1=>by
  rw[Array.getD_eq_getD_getElem?] at h1⊢
  rw[Array.getElem?_eq_getElem om] at h1⊢
  simpa using h1
 have EO:∀(listed:Array Bool) (j:Nat),listed.size=l.length->j<l.length->listed.getD j false=true->listed.getD j true=true:=λlisted j hs hj h1=>by
  rw[Array.getD_eq_getD_getElem?] at h1⊢
  rw[Array.getElem?_eq_getElem om] at h1⊢
  simpa using h1
 intro fuel
 induction fuel with
 |zero=>
  intro listed e a w hf hs Bm gx hI oy
  have dA:∀j,j<l.length->listed.getD j true=true:=λj hj=>by
   cases hg:listed.getD j true with
   |true=>rfl
   |false=>
    have:j∈(List.range l.length).filter λj=>!listed.getD j true:=by rw[List.mem_filter,List.mem_range];exact⟨hj,by rw[hg];rfl⟩
    rw[List.length_eq_zero_iff.1 Bm] at this;cases this
  have hm:m=l.length:=by
   rcases Nat.lt_or_ge m l.length with h|h
   ·have:=gx m (lR _) h;rw[dA m h] at this;cases this
   ·omega
  have ht:=tail _ e w (λi hi=>y0 listed i hs om (by rw[dA i om];simp)) hI
  have h2:=ht a hf Q
  exact HA hB 0 m listed a w (lR _) om hs (λj hj=>⟨λh=>(by rw[dA j hj] at h;cases h),λh=>om⟩) h2
 |succ fuel ih=>
  intro listed e a w hf hs Bm gx hI oy
  by_cases uF:∀j,j<m->listed.getD j true=true
  ·have ht:=tail _ e w (λi hi=>y0 listed i hs om (by rw[uF i hi];simp)) hI
   have h2:=ht a hf Q
   have zg:∀j,j<l.length->(listed.getD j true=false↔m<=j):=λj hj=>by
    constructor
    ·intro h
     rcases Nat.lt_or_ge j m with h'|h'
     ·rw[uF j h'] at h;cases h
     ·exact h'
    ·intro h;exact gx j h hj
   have zh:m+(fuel+1)=l.length:=by
    rw[<-Bm]
    have:∀k,k<=l.length->m<=k->((List.range k).filter λj=>!listed.getD j true).length=k-m:=by
     intro k
     induction k with
     |zero=>intro _ h;simp
     |succ k ihk=>
      intro gR Bi
      rw[List.range_succ,List.filter_append,lA]
      rcases Nat.lt_or_ge k m with h'|h'
      ·have PA:k+1=m:=by omega
       have hz:((List.range k).filter λj=>!listed.getD j true)=[]:=by
        rw[List.filter_eq_nil_iff]
        intro j hj
        rw[List.mem_range] at hj
        rw[uF j om];simp
       have e1:(!listed.getD k true)=false:=by rw[uF k h'];rfl
       simp only[hz,List.filter_cons,e1,List.filter_nil,lN]
       simp;omega
      ·rw[ihk om h']
       have e1:(!listed.getD k true)=true:=by rw[(zg k om).2 h'];rfl
       simp only[List.filter_cons,e1,List.filter_nil,if_true,lC,lN]
       omega
    have:=this l.length (lR _) C8
    omega
   exact HA hB (fuel+1) m listed a w (lR _) zh hs zg h2
  ·have hex:∃j,j<m∧listed.getD j true=false∧∀i,i<j->listed.getD i true=true:=by
    have:∀k,(∃j,j<k∧listed.getD j true=false∧∀i,i<j->listed.getD i true=true)∨∀j,j<k->listed.getD j true=true:=by
     intro k
     induction k with
     |zero=>right;intro j hj;omega
     |succ k ihk=>
      rcases ihk with⟨j,hj,h1,h2⟩|h
      ·exact .inl ⟨j,om,h1,h2⟩
      ·cases hg:listed.getD k true with
       |false=>exact .inl ⟨k,om,hg,h⟩
       |true=>
        right
        intro j hj
        rcases Nat.lt_or_ge j k with h'|h'
        ·exact h j h'
        ·rw[show j=k from by omega];exact hg
    rcases this m with h|h
    ·exact h
    ·exact absurd h uF
   obtain⟨j0,EP,ER,ES⟩:=hex
   obtain⟨o0,ET⟩:∃o,l[j0]?=some o:=⟨l[j0]'om,gE om⟩
   have oY:j0∈Region.ready .any l.toArray listed:=mem_ready.2 ⟨ER,o0,by simpa using ET,λed he hb=>by
    have eW:=(oz j0 o0 ET).1 ed he hb
    exact y0 listed _ hs om (by rw[ES _ eW];simp)⟩
   refine⟨λhr=>(by rw[hr] at oY;cases oY),λi hi=>?_⟩
   obtain⟨hu,o,ho,dA⟩:=mem_ready.1 hi
   have mJ:i<l.length:=by simpa using(Array.getElem?_eq_some_iff.1 ho).1
   have mO:l[i]?=some o:=by simpa using ho
   have qS:i<m:=by
    rcases Nat.lt_or_ge i m with h|h
    ·exact h
    ·have:=EO listed j0 hs om (Km oy mO dA ((oz i o mO).2.2 h) (i-j0) j0 om om)
     rw[ER] at this;cases this
   have tR:listed.getD i false=false:=by
    cases h:listed.getD i false with
    |false=>rfl
    |true=>rw[EO listed i hs mJ h] at hu;cases hu
   have h1:=step (λj=>listed.getD j false) e w i o qS mO tR (λj hj=>by
    obtain⟨ed,he,hb,uG⟩:=Kl hj
    rw[<-uG];exact dA ed he hb) hI
   have h2:=h1 a hf Q
   have next:∀(a':Act) (w':World),pF n (λe' w'=>Inv (λj=>if j=i then true else listed.getD j false) e' w') Q .normal a' w'->
     wpAny P .any l.toArray (pF n N Q) fuel (listed.setIfInBounds i true) a' w':=λa' w' hq=>by
    obtain⟨e',Kp,hI'⟩:=hq
    refine ih _ e' a' w' Kp (by simpa using hs) ?_ ?_ ?_ ?_
    ·have zh:∀k,k<=l.length->((List.range k).filter λj=>!(listed.setIfInBounds i true).getD j true).length+(if i<k then 1 else 0)=((List.range k).filter λj=>!listed.getD j true).length:=by
      intro k
      induction k with
      |zero=>simp
      |succ k ihk=>
       intro gR
       have xz:=ihk om
       rw[List.range_succ,List.filter_append,lA,List.filter_append,lA]
       by_cases uH:i=k
       ·subst uH
        rw[iN om] at xz
        have eW:i<listed.size:=by omega
        have e1:(listed.setIfInBounds i true).getD i true=true:=by simp[Array.getD_eq_getD_getElem?,eW]
        rw[iP om]
        simp only[List.filter_cons,e1,hu,List.filter_nil,Bool.not_true,Bool.not_false,if_true,Bool.false_eq_true,if_false,lC,lN]
        omega
       ·have e1:(listed.setIfInBounds i true).getD k true=listed.getD k true:=getD_set_ne true uH
        simp only[List.filter_cons,e1,List.filter_nil]
        have Xo:(i<k+1)↔(i<k):=by omega
        by_cases pG:i<k
        ·have c1:i<k+1:=by omega
         rw[iP pG] at xz;rw[iP c1];split<;>simp only[lC,lN]<;>omega
        ·have c1:¬i<k+1:=by omega
         rw[iN pG] at xz;rw[iN c1];split<;>simp only[lC,lN]<;>omega
     have:=zh l.length (lR _)
     rw[iP mJ] at this
     omega
    ·intro j Kr vW
     rw[getD_set_ne true om];exact gx j Kr vW
    ·have e1:(λj=>(listed.setIfInBounds i true).getD j false)=λj=>if j=i then true else listed.getD j false:=by
      funext j
      by_cases ll:i=j
      ·subst ll
       have:i<listed.size:=by omega
       simp[Array.getD_eq_getD_getElem?,this]
      ·rw[getD_set_ne false ll,iN (λh=>ll h.symm)]
     rw[e1];exact hI'
    ·intro j oj Bn hj e2 mP aZ
     have wb:∀x,listed.getD x false=true->(listed.setIfInBounds i true).getD x false=true:=λx hx=>by
      by_cases EV:i=x
      ·subst EV
       have:i<listed.size:=by omega
       simp[Array.getD_eq_getD_getElem?,this]
      ·rw[getD_set_ne false EV];exact hx
     by_cases ll:i=j
     ·subst ll
      rw[mO] at Bn;cases Bn
      exact wb _ (dA e2 mP aZ)
     ·rw[getD_set_ne false ll] at hj
      exact wb _ (oy j oj Bn hj e2 mP aZ)
   unfold wpOp
   simp only[ho]
   unfold wpList at h2
   by_cases hw:Region.wanted o (yielded l.toArray a.tmps)=true
   ·rw[iP hw] at h2⊢
    rcases h2 with h2|⟨h2,h3⟩
    ·refine .inl (Oper.Ki (λa' w' h'=>next a' w' h') (λ_ _ _ h=>h) (fun⟨a,w,hq⟩=>⟨a,w,hq⟩) h2)
    ·exact .inr ⟨h2,by obtain⟨a',w',hq⟩:=h3;exact⟨a',w',hq⟩⟩
   ·rw[iN hw] at h2⊢
    exact next _ _ h2
inductive Ie where
 |v (V:Value)
 |p (f:List Nat->Value->World->Prop)
 |e (t:Nat)
 |w (t:Nat) (V:Value)
 |q (t:Nat) (f:Value->Prop)
def Ie.F:Ie->List Nat->Value->World->Prop
 | .v V=>λ_ v _=>v=V
 | .p f=>f
 | .e _=>λ_ _ _=>True
 | .w _ V=>λ_ v _=>v=V
 | .q _ f=>λ_ v _=>f v
def Ie.l9:Ie->Option Nat
 | .e t=>some t
 | .w t _=>some t
 | .q t _=>some t
 |_=>none
abbrev nj:Ie:=.p λ_ _ _=>True
def wF (its:List Ie) (ds:List Nat) (G:List Nat) (aW:List Value) (w:World):List Nat->(List (Nat×Value)->Prop)->Prop
 |[],k=>k []
 |j::r,k=>match its.getD j nj with
  | .v V=>wF its ds G aW w r λacc=>k ((ds.getD j 0,V)::acc)
  | .p f=>∀v,f G v w->wF its ds G aW w r λacc=>k ((ds.getD j 0,v)::acc)
  | .e t=>wF its ds G aW w r λacc=>k ((ds.getD j 0,aW.getD t undef)::acc)
  | .w _ V=>wF its ds G aW w r λacc=>k ((ds.getD j 0,V)::acc)
  | .q t f=>∀v,aW.getD t undef=v->f v->wF its ds G aW w r λacc=>k ((ds.getD j 0,v)::acc)
def Aj {its:List Ie} {ds:List Nat} {G:List Nat} {aW:List Value} {w:World} {vs:Nat->Value}:∀{deps:List Nat} {k:List (Nat×Value)->Prop},wF its ds G aW w deps k->
  (∀j,j∈deps->(its.getD j nj).F G (vs j) w∧∀t,(its.getD j nj).l9=some t->aW.getD t undef=vs j)->k (tx ds vs deps)
 |[],k,h,_=>h
 |j::r,k,h,hd=>by
  obtain⟨hp,he⟩:=hd j (List.mem_cons_self ..)
  unfold wF at h
  have hr:∀i,i∈r->_:=λi hi=>hd i (mK _ hi)
  cases e:its.getD j nj with
  |v V=>
   rw[e] at h hp
   have hv:vs j=V:=hp
   subst hv
   exact Aj (deps:=r) h hr
  |p f=>
   rw[e] at h hp
   exact Aj (deps:=r) (h _ hp) hr
  |e t=>
   rw[e] at h
   have hv:=he t (by rw[e];rfl)
   simp only[hv] at h
   exact Aj (deps:=r) h hr
  |w t V=>
   rw[e] at h hp
   have hv:vs j=V:=hp
   subst hv
   exact Aj (deps:=r) h hr
  |q t f=>
   rw[e] at h hp
   exact Aj (deps:=r) (h _ (he t (by rw[e];rfl)) hp) hr
def fy (G:List Nat) (w:World):Prop:=∀x,x∈G->x<w.heap.size
def LZ (P:Program) (n:Nat) (ops:Array Oper) (W ds:List Nat) (its:List Ie) (e0:Env) (G0:List Nat) (w0:World) (i:Nat) (o:Oper) (deps:List Nat):Prop:=
 ∀(x:Env) (w:World) (G:List Nat) (aW:List Value),Fr G0 w0 G w->fy G w->wF its ds G aW w deps λacc=>
  OW P n ops (λe' w'=>ak [] w w'∧(its.getD i nj).F G (e' (ds.getD i 0)) w'∧gv [ds.getD i 0] (aM (aN W x e0) acc) e') [o] (aM (aN W x e0) acc) w
def Sd (P:Program) (n:Nat) (ops:Array Oper) (W ds:List Nat) (its:List Ie) (Js:List (List Nat->List Value->World->Prop)) (e0:Env) (G0:List Nat) (w0:World) (t i:Nat) (o:Oper) (deps:List Nat):Prop:=
 ∀(x:Env) (w:World) (G:List Nat) (aW:List Value),Fr G0 w0 G w->fy G w->Js.getD t (λ_ _ _=>True) G aW w->aW.length=t->wF its ds G aW w deps λacc=>
  OW P n ops (λe' w'=>(∃G',Fr G w G' w'∧fy G' w'∧Js.getD (t+1) (λ_ _ _=>True) G' (aW++[e' (ds.getD i 0)]) w'∧(its.getD i nj).F G' (e' (ds.getD i 0)) w')∧gv [ds.getD i 0] (aM (aN W x e0) acc) e') [o] (aM (aN W x e0) acc) w
def DE (P:Program) (n:Nat) (ops:Array Oper) (W ds:List Nat) (its:List Ie) (Js:List (List Nat->List Value->World->Prop)) (e0:Env) (G0:List Nat) (w0:World) (i:Nat) (o:Oper) (deps:List Nat):Prop:=
 match(its.getD i nj).l9 with
 |some t=>Sd P n ops W ds its Js e0 G0 w0 t i o deps
 |none=>LZ P n ops W ds its e0 G0 w0 i o deps
def x5 (P:Program) (n:Nat) (ops:Array Oper) (W ds:List Nat) (its:List Ie) (Js:List (List Nat->List Value->World->Prop)) (e0:Env) (G0:List Nat) (w0:World):Nat->List Oper->List (List Nat)->Prop
 |_,[],_=>True
 |_,_::_,[]=>True
 |k,o::l,d::r=>DE P n ops W ds its Js e0 G0 w0 k o d∧x5 P n ops W ds its Js e0 G0 w0 (k+1) l r
section
variable {P:Program} {n:Nat} {ops:Array Oper} {W ds:List Nat} {its:List Ie} {Js:List (List Nat->List Value->World->Prop)} {e0:Env} {G0:List Nat} {w0:World}
def vf {k:Nat} {o:Oper} {l:List Oper} {d:List Nat} {r:List (List Nat)} (h:LZ P n ops W ds its e0 G0 w0 k o d) (hr:x5 P n ops W ds its Js e0 G0 w0 (k+1) l r) (hk:(its.getD k nj).l9=none:=by rfl):x5 P n ops W ds its Js e0 G0 w0 k (o::l) (d::r):=
 ⟨by unfold DE;rw[hk];exact h,hr⟩
def ve (t:Nat) {k:Nat} {o:Oper} {l:List Oper} {d:List Nat} {r:List (List Nat)} (h:Sd P n ops W ds its Js e0 G0 w0 t k o d) (hr:x5 P n ops W ds its Js e0 G0 w0 (k+1) l r) (hk:(its.getD k nj).l9=some t:=by rfl):x5 P n ops W ds its Js e0 G0 w0 k (o::l) (d::r):=
 ⟨by unfold DE;rw[hk];exact h,hr⟩
def Se:∀(l:List Oper) (deps:List (List Nat)) (k:Nat),x5 P n ops W ds its Js e0 G0 w0 k l deps->∀(i:Nat) (o:Oper) (d:List Nat),l[i]?=some o->deps[i]?=some d->DE P n ops W ds its Js e0 G0 w0 (k+i) o d
 |[],_,_,_,i,o,d,h,_=>by simp at h
 |_::_,[],_,_,i,o,d,_,h=>by simp at h
 |o::l,d::r,k,h,0,o',d',ho,hd=>by
  simp at ho hd;subst ho;subst hd;exact h.1
 |o::l,d::r,k,h,i+1,o',d',ho,hd=>by
  have:=Se l r (k+1) h.2 i o' d' (by simpa using ho) (by simpa using hd)
  rwa [show k+1+i=k+(i+1) by omega] at this
end
def Ma (l:List Oper) (m:Nat) (effs:List Nat) (its:List Ie):Bool:=
 (List.range effs.length).all (λt=>decide (effs.getD t 0<m)&&((its.getD (effs.getD t 0) nj).l9==some t)&&(decide (t=0)||(match l[effs.getD t 0]? with|some o=>waits o (effs.getD (t-1) 0)|none=>false)))&&
 (List.range m).all (λi=>match(its.getD i nj).l9 with|some t=>decide (t<effs.length)&&decide (effs.getD t 0=i)|none=>true)
def acE {l:List Oper} {m:Nat} {effs:List Nat} {its:List Ie} (h:Ma l m effs its=true):
  (∀t,t<effs.length->effs.getD t 0<m∧(its.getD (effs.getD t 0) nj).l9=some t∧(t≠0->∃o,l[effs.getD t 0]?=some o∧waits o (effs.getD (t-1) 0)=true))∧
  ∀i t,i<m->(its.getD i nj).l9=some t->t<effs.length∧effs.getD t 0=i:=by
 unfold Ma at h
 rw[aE,List.all_eq_true,List.all_eq_true] at h
 obtain⟨h1,h2⟩:=h
 refine⟨λt ht=>?_,λi t hi he=>?_⟩
 ·have:=h1 t (List.mem_range.2 ht)
  simp only[aE,dE,beq_iff_eq,oE] at this
  obtain⟨⟨a,b⟩,c⟩:=this
  refine⟨a,b,λh0=>?_⟩
  rcases c with c|c
  ·exact absurd c h0
  ·cases hl:l[effs.getD t 0]? with
   |none=>rw[hl] at c;cases c
   |some o=>rw[hl] at c;exact⟨o,rfl,c⟩
 ·have:=h2 i (List.mem_range.2 hi)
  rw[he] at this
  simpa using this
def Ak:List Ie->Prop
 |[]=>True
 | .p f::r=>(∀G v w G' w',f G v w->Fr G w G' w'->f G' v w')∧Ak r
 | .v _::r=>Ak r
 | .e _::r=>Ak r
 | .w _ _::r=>Ak r
 | .q _ _::r=>Ak r
def DF:∀{its:List Ie},Ak its->∀q,q∈its->∀G v w G' w',q.F G v w->Fr G w G' w'->q.F G' v w'
 | .p f::r,h,q,hq,G,v,w,G',w',hf,hk=>by
  rcases mC.1 hq with e|hq
  ·subst e;exact h.1 _ _ _ _ _ hf hk
  ·exact DF (its:=r) h.2 q hq _ _ _ _ _ hf hk
 | .v V::r,h,q,hq,G,v,w,G',w',hf,hk=>by
  rcases mC.1 hq with e|hq
  ·subst e;exact hf
  ·exact DF (its:=r) h q hq _ _ _ _ _ hf hk
 | .e V::r,h,q,hq,G,v,w,G',w',hf,hk=>by
  rcases mC.1 hq with e|hq
  ·subst e;exact hf
  ·exact DF (its:=r) h q hq _ _ _ _ _ hf hk
 | .w t V::r,h,q,hq,G,v,w,G',w',hf,hk=>by
  rcases mC.1 hq with e|hq
  ·subst e;exact hf
  ·exact DF (its:=r) h q hq _ _ _ _ _ hf hk
 | .q t f::r,h,q,hq,G,v,w,G',w',hf,hk=>by
  rcases mC.1 hq with e|hq
  ·subst e;exact hf
  ·exact DF (its:=r) h q hq _ _ _ _ _ hf hk
def Sf {its:List Ie} (h:Ak its) (i:Nat) {G:List Nat} {v:Value} {w:World} {G':List Nat} {w':World} (hf:(its.getD i nj).F G v w) (hk:Fr G w G' w'):(its.getD i nj).F G' v w':=by
 rw[gG] at hf⊢
 cases e:its[i]? with
 |none=>trivial
 |some q=>rw[e] at hf;exact DF h q (List.mem_of_getElem? e) _ _ _ _ _ hf hk
def Ir:List (List Nat->List Value->World->Prop)->Prop
 |[]=>True
 |J::r=>(∀G vs w w',J G vs w->ak [] w w'->J G vs w')∧Ir r
def Fz:∀{Js:List (List Nat->List Value->World->Prop)},Ir Js->∀(k:Nat) {G:List Nat} {vs:List Value} {w w':World},Js.getD k (λ_ _ _=>True) G vs w->ak [] w w'->Js.getD k (λ_ _ _=>True) G vs w'
 |[],_,k,_,_,_,_,h,_=>by simpa using h
 |J::r,h,0,_,_,_,_,hj,hk=>h.1 _ _ _ _ hj hk
 |J::r,h,k+1,_,_,_,_,hj,hk=>by
  have:=Fz (Js:=r) h.2 k (by simpa using hj) hk
  simpa using this
def jR {α:Type} {l:List α} (h:l.length=0):l=[]:=List.length_eq_zero_iff.1 h
def jS {α:Type} {l:List α} (h:l.length=1):∃a,l=[a]:=List.length_eq_one_iff.1 h
def lP {α:Type} {l:List α} (h:l.length=2):∃a b,l=[a,b]:=by
 match l,h with|[a,b],_=>exact⟨a,b,rfl⟩
def Al {α:Type} {l:List α} (h:l.length=3):∃a b c,l=[a,b,c]:=by
 match l,h with|[a,b,c],_=>exact⟨a,b,c,rfl⟩
def Mb {α:Type} {l:List α} (h:l.length=4):∃a b c d,l=[a,b,c,d]:=by
 match l,h with|[a,b,c,d],_=>exact⟨a,b,c,d,rfl⟩
def Sg {α:Type} {l:List α} (h:l.length=5):∃a b c d e,l=[a,b,c,d,e]:=by
 match l,h with|[a,b,c,d,e],_=>exact⟨a,b,c,d,e,rfl⟩
def acF {α:Type} {l:List α} (h:l.length=6):∃a b c d e f,l=[a,b,c,d,e,f]:=by
 match l,h with|[a,b,c,d,e,f],_=>exact⟨a,b,c,d,e,f,rfl⟩
def Am {W ds:List Nat} {e0 e:Env} (ha:gv W e0 e) (r:List Nat):aM (aN W e e0) (tx ds (λi=>e (ds.getD i 0)) r)=e:=by
 rw[yZ ha,EM (by
  intro p hp
  have:∀(r:List Nat),p∈tx ds (λi=>e (ds.getD i 0)) r->e p.1=p.2:=by
   intro r
   induction r with
   |nil=>intro h;cases h
   |cons j r ih=>
    intro h
    rcases mC.1 h with h|h
    ·subst h;rfl
    ·exact ih h
  exact this _ hp)]
def kf {N R:Env->World->Prop} {X:Nat->Env->World->Prop} {id:Nat} {e0:Env} {w0:World} (hm:P.follows .mixedOrders=true) (G0:List Nat) (m:Nat) (W ds:List Nat) (deps:List (List Nat)) (its:List Ie) (effs:List Nat) (Js:List (List Nat->List Value->World->Prop))
  (hB:wa l m W ds deps=true) (hE:Ma l m effs its=true) (hL:fy G0 w0) (hF:Ak its) (hJ:Ir Js) (h0:Js.getD 0 (λ_ _ _=>True) G0 [] w0)
  (hc:x5 P n l.toArray W ds its Js e0 G0 w0 0 (l.take m) deps)
  (ht:∀(x:Env) (w:World) (G:List Nat) (aW:List Value),Fr G0 w0 G w->fy G w->Js.getD effs.length (λ_ _ _=>True) G aW w->aW.length=effs.length->wF its ds G aW w (List.range m) λacc=>OW P n l.toArray N (l.drop m) (aM (aN W x e0) acc) w):
  CW P n (.region id l.toArray true) N R X e0 w0:=λa ha=>by
 refine wp_region_any hm ?_
 have gN:ak [] w0 {w0 with drawn:=w0.drawn+1}:=ak.drew _ _
 obtain⟨C8,EN,Ko,jA,oz⟩:=C7 hB
 obtain⟨o6,mP⟩:=acE hE
 have eN:∀i j,i<m->j<m->i≠j->ds.getD j 0≠ds.getD i 0:=λi j hi hj ll=>by
  rw[gG,gG,gE om,gE om]
  simp only[Option.getD_some]
  intro he
  exact ll ((List.getElem_inj jA).1 he.symm)
 let Inv:(Nat->Bool)->Env->World->Prop:=λS e w=>∃G k,gv W e0 e∧Fr G0 w0 G w∧fy G w∧k<=effs.length∧(∀t,t<effs.length->(S (effs.getD t 0)=true↔t<k))∧
  Js.getD k (λ_ _ _=>True) G ((effs.take k).map λi=>e (ds.getD i 0)) w∧∀i,i<m->S i=true->(its.getD i nj).F G (e (ds.getD i 0)) w
 have FA:∀(S:Nat->Bool) (e:Env) (k:Nat),(∀t,t<effs.length->(S (effs.getD t 0)=true↔t<k))->k<=effs.length->∀j t,j<m->S j=true->(its.getD j nj).l9=some t->((effs.take k).map λi=>e (ds.getD i 0)).getD t undef=e (ds.getD j 0):=by
  intro S e k hS hk j t hj ma he
  obtain⟨h1,h2⟩:=mP j t hj he
  have h3:t<k:=(hS t h1).1 (by rw[h2];exact ma)
  rw[gG,List.getElem?_map,List.getElem?_take,iP h3,gE h1]
  rw[gG,gE h1] at h2
  simp only[Option.getD_some] at h2
  simp[h2]
 have step:∀(S:Nat->Bool) (e:Env) (w:World) (i:Nat) (o:Oper),i<m->l[i]?=some o->S i=false->(∀j,waits o j=true->S j=true)->Inv S e w->
   OW P n l.toArray (λe' w'=>Inv (λj=>if j=i then true else S j) e' w') [o] e w:=by
  rintro S e w i o qS ho tR An ⟨G,k,qk,bZ,qA,gR,hS,uV,o9⟩
  obtain⟨hW,zj⟩:=(oz i o ho).2.1 qS
  obtain⟨dp,zk⟩:∃d,deps[i]?=some d:=⟨deps[i]'om,gE om⟩
  have EU:deps.getD i []=dp:=by rw[gG,zk];rfl
  rw[EU] at zj
  have jq:=Se (l.take m) deps 0 hc i o dp (by rw[List.getElem?_take,iP qS];exact ho) zk
  rw[Nat.zero_add] at jq
  have hd:∀j,j∈dp->(its.getD j nj).F G (e (ds.getD j 0)) w∧∀t,(its.getD j nj).l9=some t->((effs.take k).map λi=>e (ds.getD i 0)).getD t undef=e (ds.getD j 0):=λj hj=>by
   obtain⟨h1,h2⟩:=zj j hj
   exact⟨o9 j h2 (An j h1),λt het=>FA S e k hS gR j t h2 (An j h1) het⟩
  have FB:∀e',gv [ds.getD i 0] e e'->gv W e0 e':=λe' h t BU=>by
   have DG:t≠ds.getD i 0:=λhe=>by rw[he,hW] at BU;cases BU
   rw[h t (by simpa using DG)];exact qk t BU
  have Ao:∀e',gv [ds.getD i 0] e e'->∀j,j<m->j≠i->e' (ds.getD j 0)=e (ds.getD j 0):=λe' h j hj jv=>h _ (by simpa using eN i j qS hj (λh=>jv h.symm))
  have gi:[o]=[o]++[]:=rfl
  cases sN:(its.getD i nj).l9 with
  |none=>
   unfold DE at jq
   rw[sN] at jq
   have h1:=Aj (jq e w G _ bZ qA) (vs:=λj=>e (ds.getD j 0)) hd
   rw[Am qk] at h1
   rw[gi]
   refine vZ h1 ?_
   rintro e' w' ⟨pH,x6,mc⟩
   refine ag ⟨G,k,FB e' mc,bZ.ext pH,λx hx=>lL (qA x hx) pH.size,gR,λt gx=>?_,?_,λj hj ma=>?_⟩
   ·have sO:effs.getD t 0≠i:=λh=>by have:=(o6 t gx).2.1;rw[h,sN] at this;cases this
    simp only[iN sO]
    exact hS t gx
   ·have e1:((effs.take k).map λi=>e' (ds.getD i 0))=(effs.take k).map λi=>e (ds.getD i 0):=by
     apply List.map_congr_left
     intro j hj
     obtain⟨t,oa⟩:=List.mem_iff_getElem?.1 hj
     rw[List.getElem?_take] at oa
     split at oa
     ·have gx:t<effs.length:=(List.getElem?_eq_some_iff.1 oa).1
      have uG:effs.getD t 0=j:=by rw[gG,oa];rfl
      have h3:=o6 t gx
      rw[uG] at h3
      exact Ao e' mc j h3.1 (λh=>by rw[h,sN] at h3;cases h3.2.1)
     ·cases oa
    rw[e1];exact Fz hJ k uV pH
   ·by_cases jv:j=i
    ·rw[jv];exact x6
    ·simp only[iN jv] at ma
     rw[Ao e' mc j hj jv]
     exact Sf hF j (o9 j hj ma) (Fr.of pH sm)
  |some t=>
   unfold DE at jq
   rw[sN] at jq
   obtain⟨gx,sO⟩:=mP i t qS sN
   have sP:k=t:=by
    have h1:¬t<k:=λh=>by have:=(hS t gx).2 h;rw[sO,tR] at this;cases this
    rcases Nat.eq_zero_or_pos t with h0|h0
    ·omega
    ·obtain⟨o',mO,FC⟩:=(o6 t gx).2.2 om
     rw[sO,ho] at mO
     cases mO
     have:=(hS (t-1) om).1 (An _ FC)
     omega
   subst sP
   have hlen:((effs.take k).map λi=>e (ds.getD i 0)).length=k:=by simp;omega
   have h1:=Aj (jq e w G _ bZ qA uV hlen) (vs:=λj=>e (ds.getD j 0)) hd
   rw[Am qk] at h1
   rw[gi]
   refine vZ h1 ?_
   rintro e' w' ⟨⟨G',wG,BV,DH,x6⟩,mc⟩
   have FD:∀t',t'<effs.length->effs.getD t' 0=i->t'=k:=λt' h1 h2=>by
    have:=(o6 t' h1).2.1
    rw[h2,sN] at this
    cases this;rfl
   refine ag ⟨G',k+1,FB e' mc,bZ.go wG,BV,om,λt' Ap=>?_,?_,λj hj ma=>?_⟩
   ·by_cases h2:effs.getD t' 0=i
    ·have:=FD t' Ap h2
     simp only[iP h2]
     exact⟨λ_=>om,λ_=>trivial⟩
    ·simp only[iN h2]
     rw[hS t' Ap]
     have:t'≠k:=λh=>by rw[h] at h2;exact h2 sO
     omega
   ·have e1:((effs.take (k+1)).map λi=>e' (ds.getD i 0))=((effs.take k).map λi=>e (ds.getD i 0))++[e' (ds.getD i 0)]:=by
     have h2:effs[k]?=some i:=by
      rw[gG,gE gx] at sO
      rw[gE gx]
      simpa using sO
     rw[List.take_add_one,h2,List.map_append]
     congr 1
     apply List.map_congr_left
     intro j hj
     obtain⟨t',oa⟩:=List.mem_iff_getElem?.1 hj
     rw[List.getElem?_take] at oa
     split at oa
     ·rename_i eW
      have Ap:t'<effs.length:=(List.getElem?_eq_some_iff.1 oa).1
      have uG:effs.getD t' 0=j:=by rw[gG,oa];rfl
      exact Ao e' mc j (by have:=(o6 t' Ap).1;rw[uG] at this;exact this) (λh=>by have:=FD t' Ap (uG.trans h);omega)
     ·cases oa
    rw[e1];exact DH
   ·by_cases jv:j=i
    ·rw[jv];exact x6
    ·simp only[iN jv] at ma
     rw[Ao e' mc j hj jv]
     exact Sf hF j (o9 j hj ma) wG
 have tail:∀(S:Nat->Bool) (e:Env) (w:World),(∀i,i<m->S i=true)->Inv S e w->OW P n l.toArray N (l.drop m) e w:=by
  rintro S e w Aq ⟨G,k,qk,bZ,qA,gR,hS,uV,o9⟩
  have hk:k=effs.length:=by
   rcases Nat.lt_or_ge k effs.length with h|h
   ·have:=(hS k h).1 (Aq _ (o6 k h).1);omega
   ·omega
  subst hk
  have h1:=Aj (ht e w G _ bZ qA uV sm) (vs:=λj=>e (ds.getD j 0)) (λj hj=>by
   have pI:=List.mem_range.1 hj
   exact⟨o9 j pI (Aq j pI),λt het=>FA S e _ hS gR j t pI (Aq j pI) het⟩)
  rw[Am qk] at h1
  exact h1
 have jo:∀j,(Array.replicate l.length false).getD j false=false:=λj=>by
  rw[Array.getD_eq_getD_getElem?,Array.getElem?_replicate];split<;>rfl
 have Mc:Inv (λj=>(Array.replicate l.length false).getD j false) e0 {w0 with drawn:=w0.drawn+1}:=by
  refine⟨G0,0,Bg,Fr.of gN sm,λx hx=>hL x hx,Nat.zero_le _,λt gx=>?_,Fz hJ 0 h0 gN,λi hi tR=>?_⟩
  ·constructor
   ·intro h;exact absurd ((jo (effs.getD t 0)).symm.trans h) sm
   ·intro h;omega
  ·exact absurd ((jo i).symm.trans tR) sm
 have:=Sb (N:=N) (Inv:=Inv) hB step tail (lD n N R X) l.length (Array.replicate l.length false) e0 a _ ha sm
  (by
   have:((List.range l.length).filter λj=>!(Array.replicate l.length false).getD j true)=List.range l.length:=by
    rw[List.filter_eq_self]
    intro j hj
    rw[List.mem_range] at hj
    simp[Array.getD_eq_getD_getElem?,hj]
   rw[this];simp)
  (by intro j _ hj;simp[Array.getD_eq_getD_getElem?,hj])
  Mc
  (by
   intro j o ho hj
   have pI:j<l.length:=(List.getElem?_eq_some_iff.1 ho).1
   simp[Array.getD_eq_getD_getElem?,pI] at hj)
 have e1:pF n N (lD n N R X)=lD n N R X:=by
  funext x a w;cases x<;>rfl
 rw[e1] at this
 simpa using this
end
section
variable {P:Program} {n:Nat} {ops:Array Oper} {e:Env} {w w':World} {G:List Nat}
def fv {d:Nat} {v V:Value} (h:v=V:=by rfl):OW P n ops (λe' w'=>ak [] w w'∧(Ie.v V).F G (e' d) w'∧gv [d] e e') [] (cQ e (some d) v) w:=
 ag ⟨ak.refl _ _,by subst h;exact nL _ _ _,qR⟩
def fk {d:Nat} {v V:Value} (k:ak [] w w') (h:v=V:=by rfl):OW P n ops (λe' w'=>ak [] w w'∧(Ie.v V).F G (e' d) w'∧gv [d] e e') [] (cQ e (some d) v) w':=
 ag ⟨k,by subst h;exact nL _ _ _,qR⟩
def ff {d:Nat} {v:Value} {f:List Nat->Value->World->Prop} (k:ak [] w w') (h:f G v w'):OW P n ops (λe' w'=>ak [] w w'∧(Ie.p f).F G (e' d) w'∧gv [d] e e') [] (cQ e (some d) v) w':=
 ag ⟨k,by show f G (kK e d v d) w';rw[nL];exact h,qR⟩
def fe {d t:Nat} {v:Value} {aW:List Value} {J:List Nat->List Value->World->Prop} (G':List Nat) (k:Fr G w G' w') (hl:fy G' w') (h:J G' (aW++[v]) w'):OW P n ops (λe' w'=>(∃G',Fr G w G' w'∧fy G' w'∧J G' (aW++[e' d]) w'∧(Ie.e t).F G' (e' d) w')∧gv [d] e e') [] (cQ e (some d) v) w':=
 ag ⟨⟨G',k,hl,by show J G' (aW++[kK e d v d]) w';rw[nL];exact h,trivial⟩,qR⟩
def fw {d t:Nat} {v V:Value} {aW:List Value} {J:List Nat->List Value->World->Prop} (G':List Nat) (k:Fr G w G' w') (hl:fy G' w') (h:J G' (aW++[v]) w') (hv:v=V:=by rfl):OW P n ops (λe' w'=>(∃G',Fr G w G' w'∧fy G' w'∧J G' (aW++[e' d]) w'∧(Ie.w t V).F G' (e' d) w')∧gv [d] e e') [] (cQ e (some d) v) w':=
 ag ⟨⟨G',k,hl,by show J G' (aW++[kK e d v d]) w';rw[nL];exact h,by subst hv;exact nL _ _ _⟩,qR⟩
def fq {d t:Nat} {v:Value} {f:Value->Prop} {aW:List Value} {J:List Nat->List Value->World->Prop} (G':List Nat) (k:Fr G w G' w') (hl:fy G' w') (h:J G' (aW++[v]) w') (hv:f v):OW P n ops (λe' w'=>(∃G',Fr G w G' w'∧fy G' w'∧J G' (aW++[e' d]) w'∧(Ie.q t f).F G' (e' d) w')∧gv [d] e e') [] (cQ e (some d) v) w':=
 ag ⟨⟨G',k,hl,by show J G' (aW++[kK e d v d]) w';rw[nL];exact h,by show f (kK e d v d);rw[nL];exact hv⟩,qR⟩
end
def cT {P:Program} {n:Nat} {ops:Array Oper} {W ds:List Nat} {its:List Ie} {Js:List (List Nat->List Value->World->Prop)} {e0:Env} {G0:List Nat} {w0:World} {k:Nat} {o:Oper} {l:List Oper} {d:List Nat} {r:List (List Nat)} (hr:x5 P n ops W ds its Js e0 G0 w0 (k+1) l r) (h:LZ P n ops W ds its e0 G0 w0 k o d:=by exact λ_ _ _ _ _ _=>zm fv) (hk:(its.getD k nj).l9=none:=by rfl):x5 P n ops W ds its Js e0 G0 w0 k (o::l) (d::r):=vf h hr hk
inductive Iu where
 |v (V:Value)
 |p (f:List Nat->Value->World->Prop)
 |e (t:Nat)
 |w (t:Nat) (V:Value)
 |d (f:List Value->Value)
 |u
def Iu.F:Iu->List Nat->Value->World->Prop
 | .v V=>λ_ v _=>v=V
 | .p f=>f
 | .w _ V=>λ_ v _=>v=V
 |_=>λ_ _ _=>True
def Iu.l9:Iu->Option Nat
 | .e t=>some t
 | .w t _=>some t
 |_=>none
def Iu.rX:Iu->Bool
 | .u=>true
 |_=>false
def Iu.late:Iu->Bool
 | .u=>true
 | .d _=>true
 |_=>false
abbrev fW:Iu:=.p λ_ _ _=>True
def sQ (its:List Iu) (ds:List Nat) (G:List Nat) (aW:List Value) (w:World):List Nat->(List (Nat×Value)->Prop)->Prop
 |[],k=>k []
 |j::r,k=>match its.getD j fW with
  | .v V=>sQ its ds G aW w r λacc=>k ((ds.getD j 0,V)::acc)
  | .p f=>∀v,f G v w->sQ its ds G aW w r λacc=>k ((ds.getD j 0,v)::acc)
  | .e t=>sQ its ds G aW w r λacc=>k ((ds.getD j 0,aW.getD t undef)::acc)
  | .w _ V=>sQ its ds G aW w r λacc=>k ((ds.getD j 0,V)::acc)
  | .d f=>sQ its ds G aW w r λacc=>k ((ds.getD j 0,f aW)::acc)
  | .u=>∀v,sQ its ds G aW w r λacc=>k ((ds.getD j 0,v)::acc)
def Sh (q:Iu) (G:List Nat) (aW:List Value) (v:Value) (w:World):Prop:=q.F G v w∧(∀t,q= .e t->aW.getD t undef=v)∧∀f,q= .d f->f aW=v
def uX {its:List Iu} {ds:List Nat} {G:List Nat} {aW:List Value} {w:World} {vs:Nat->Value}:∀{deps:List Nat} {k:List (Nat×Value)->Prop},sQ its ds G aW w deps k->
  (∀j,j∈deps->Sh (its.getD j fW) G aW (vs j) w)->k (tx ds vs deps)
 |[],k,h,_=>h
 |j::r,k,h,hd=>by
  obtain⟨hp,he,hq⟩:=hd j (List.mem_cons_self ..)
  unfold sQ at h
  have hr:∀i,i∈r->_:=λi hi=>hd i (mK _ hi)
  cases e:its.getD j fW with
  |v V=>
   rw[e] at h hp
   have hv:vs j=V:=hp
   subst hv
   exact uX (deps:=r) h hr
  |p f=>
   rw[e] at h hp
   exact uX (deps:=r) (h _ hp) hr
  |e t=>
   rw[e] at h
   have hv:=he t e
   simp only[hv] at h
   exact uX (deps:=r) h hr
  |w t V=>
   rw[e] at h hp
   have hv:vs j=V:=hp
   subst hv
   exact uX (deps:=r) h hr
  |d f=>
   rw[e] at h
   have hv:=hq f e
   simp only[hv] at h
   exact uX (deps:=r) h hr
  |u=>
   rw[e] at h
   exact uX (deps:=r) (h _) hr
section
variable (P:Program) (n:Nat) (ops:Array Oper) (W ds:List Nat) (its:List Iu) (Js:List (List Nat->List Value->World->Prop)) (JF:(Nat->Bool)->List Nat->List Value->World->Prop) (e0:Env) (G0:List Nat) (w0:World)
def Md (i:Nat) (o:Oper) (deps:List Nat):Prop:=
 ∀(x:Env) (w:World) (G:List Nat) (aW:List Value),Fr G0 w0 G w->fy G w->sQ its ds G aW w deps λacc=>
  OW P n ops (λe' w'=>ak [] w w'∧(its.getD i fW).F G (e' (ds.getD i 0)) w'∧gv [ds.getD i 0] (aM (aN W x e0) acc) e') [o] (aM (aN W x e0) acc) w
def Is (t i:Nat) (o:Oper) (deps:List Nat):Prop:=
 ∀(x:Env) (w:World) (G:List Nat) (aW:List Value),Fr G0 w0 G w->fy G w->Js.getD t (λ_ _ _=>True) G aW w->aW.length=t->sQ its ds G aW w deps λacc=>
  OW P n ops (λe' w'=>(∃G',Fr G w G' w'∧fy G' w'∧Js.getD (t+1) (λ_ _ _=>True) G' (aW++[e' (ds.getD i 0)]) w'∧(its.getD i fW).F G' (e' (ds.getD i 0)) w')∧gv [ds.getD i 0] (aM (aN W x e0) acc) e') [o] (aM (aN W x e0) acc) w
def Si (ne:Nat) (f:List Value->Value) (i:Nat) (o:Oper) (deps:List Nat):Prop:=
 ∀(x:Env) (w:World) (G:List Nat) (aW:List Value) (S:Nat->Bool),Fr G0 w0 G w->fy G w->JF S G aW w->aW.length=ne->sQ its ds G aW w deps λacc=>
  OW P n ops (λe' w'=>ak [] w w'∧e' (ds.getD i 0)=f aW∧gv [ds.getD i 0] (aM (aN W x e0) acc) e') [o] (aM (aN W x e0) acc) w
def Sj (ne i:Nat) (o:Oper) (deps:List Nat):Prop:=
 ∀(x:Env) (w:World) (G:List Nat) (aW:List Value) (S:Nat->Bool),Fr G0 w0 G w->fy G w->JF S G aW w->S i=false->aW.length=ne->sQ its ds G aW w deps λacc=>
  OW P n ops (λe' w'=>(∃G',Fr G w G' w'∧fy G' w'∧JF (λj=>if j=i then true else S j) G' aW w')∧gv [ds.getD i 0] (aM (aN W x e0) acc) e') [o] (aM (aN W x e0) acc) w
def uc (ne i:Nat) (o:Oper) (deps:List Nat):Prop:=match its.getD i fW with
 | .e t=>Is P n ops W ds its Js e0 G0 w0 t i o deps
 | .w t _=>Is P n ops W ds its Js e0 G0 w0 t i o deps
 | .d f=>Si P n ops W ds its JF e0 G0 w0 ne f i o deps
 | .u=>Sj P n ops W ds its JF e0 G0 w0 ne i o deps
 |_=>Md P n ops W ds its e0 G0 w0 i o deps
def uY (ne:Nat):Nat->List Oper->List (List Nat)->Prop
 |_,[],_=>True
 |_,_::_,[]=>True
 |k,o::l,d::r=>uc P n ops W ds its Js JF e0 G0 w0 ne k o d∧uY ne (k+1) l r
end
section
variable {P:Program} {n:Nat} {ops:Array Oper} {W ds:List Nat} {its:List Iu} {Js:List (List Nat->List Value->World->Prop)} {JF:(Nat->Bool)->List Nat->List Value->World->Prop} {e0:Env} {G0:List Nat} {w0:World} {ne:Nat}
def uf {k:Nat} {o:Oper} {l:List Oper} {d:List Nat} {r:List (List Nat)} (h:Md P n ops W ds its e0 G0 w0 k o d) (hr:uY P n ops W ds its Js JF e0 G0 w0 ne (k+1) l r) (hk:(its.getD k fW).l9=none∧(its.getD k fW).late=false:=by exact⟨rfl,rfl⟩):uY P n ops W ds its Js JF e0 G0 w0 ne k (o::l) (d::r):=
 ⟨(by
  unfold uc
  obtain⟨h1,h2⟩:=hk
  cases e:its.getD k fW with
  |e t=>rw[e] at h1;cases h1
  |w t V=>rw[e] at h1;cases h1
  |d f=>rw[e] at h2;cases h2
  |u=>rw[e] at h2;cases h2
  |v V=>exact h
  |p f=>exact h),hr⟩
def ue (t:Nat) {k:Nat} {o:Oper} {l:List Oper} {d:List Nat} {r:List (List Nat)} (h:Is P n ops W ds its Js e0 G0 w0 t k o d) (hr:uY P n ops W ds its Js JF e0 G0 w0 ne (k+1) l r) (hk:(its.getD k fW).l9=some t:=by rfl):uY P n ops W ds its Js JF e0 G0 w0 ne k (o::l) (d::r):=
 ⟨(by
  unfold uc
  cases e:its.getD k fW with
  |e t'=>rw[e] at hk;cases hk;exact h
  |w t' V=>rw[e] at hk;cases hk;exact h
  |d f=>rw[e] at hk;cases hk
  |u=>rw[e] at hk;cases hk
  |v V=>rw[e] at hk;cases hk
  |p f=>rw[e] at hk;cases hk),hr⟩
def ud {k:Nat} {o:Oper} {l:List Oper} {d:List Nat} {r:List (List Nat)} {f:List Value->Value} (h:Si P n ops W ds its JF e0 G0 w0 ne f k o d) (hr:uY P n ops W ds its Js JF e0 G0 w0 ne (k+1) l r) (hk:its.getD k fW= .d f:=by rfl):uY P n ops W ds its Js JF e0 G0 w0 ne k (o::l) (d::r):=
 ⟨by unfold uc;rw[hk];exact h,hr⟩
def uu {k:Nat} {o:Oper} {l:List Oper} {d:List Nat} {r:List (List Nat)} (h:Sj P n ops W ds its JF e0 G0 w0 ne k o d) (hr:uY P n ops W ds its Js JF e0 G0 w0 ne (k+1) l r) (hk:its.getD k fW= .u:=by rfl):uY P n ops W ds its Js JF e0 G0 w0 ne k (o::l) (d::r):=
 ⟨by unfold uc;rw[hk];exact h,hr⟩
def Sk:∀(l:List Oper) (deps:List (List Nat)) (k:Nat),uY P n ops W ds its Js JF e0 G0 w0 ne k l deps->∀(i:Nat) (o:Oper) (d:List Nat),l[i]?=some o->deps[i]?=some d->uc P n ops W ds its Js JF e0 G0 w0 ne (k+i) o d
 |[],_,_,_,i,o,d,h,_=>by simp at h
 |_::_,[],_,_,i,o,d,_,h=>by simp at h
 |o::l,d::r,k,h,0,o',d',ho,hd=>by
  simp at ho hd;subst ho;subst hd;exact h.1
 |o::l,d::r,k,h,i+1,o',d',ho,hd=>by
  have:=Sk l r (k+1) h.2 i o' d' (by simpa using ho) (by simpa using hd)
  rwa [show k+1+i=k+(i+1) by omega] at this
end
def uB (l:List Oper) (m:Nat) (effs:List Nat) (its:List Iu):Bool:=
 (List.range effs.length).all (λt=>decide (effs.getD t 0<m)&&((its.getD (effs.getD t 0) fW).l9==some t)&&(decide (t=0)||(match l[effs.getD t 0]? with|some o=>waits o (effs.getD (t-1) 0)|none=>false)))&&
 (List.range m).all (λi=>(match(its.getD i fW).l9 with|some t=>decide (t<effs.length)&&decide (effs.getD t 0=i)|none=>true)&&
  (!(its.getD i fW).late||decide (effs.length=0)||(match l[i]? with|some o=>waits o (effs.getD (effs.length-1) 0)|none=>false)))&&
 decide (its.length<=m)
def acG {l:List Oper} {m:Nat} {effs:List Nat} {its:List Iu} (h:uB l m effs its=true):
  (∀t,t<effs.length->effs.getD t 0<m∧(its.getD (effs.getD t 0) fW).l9=some t∧(t≠0->∃o,l[effs.getD t 0]?=some o∧waits o (effs.getD (t-1) 0)=true))∧
  (∀i t,i<m->(its.getD i fW).l9=some t->t<effs.length∧effs.getD t 0=i)∧
  (∀i,i<m->(its.getD i fW).late=true->effs.length≠0->∃o,l[i]?=some o∧waits o (effs.getD (effs.length-1) 0)=true)∧its.length<=m:=by
 unfold uB at h
 rw[aE,aE,List.all_eq_true,List.all_eq_true,dE] at h
 obtain⟨⟨h1,h2⟩,h3⟩:=h
 refine⟨λt ht=>?_,λi t hi he=>?_,λi hi hl hn=>?_,h3⟩
 ·have:=h1 t (List.mem_range.2 ht)
  simp only[aE,dE,beq_iff_eq,oE] at this
  obtain⟨⟨a,b⟩,c⟩:=this
  refine⟨a,b,λh0=>?_⟩
  rcases c with c|c
  ·exact absurd c h0
  ·cases hl:l[effs.getD t 0]? with
   |none=>rw[hl] at c;cases c
   |some o=>rw[hl] at c;exact⟨o,rfl,c⟩
 ·have:=h2 i (List.mem_range.2 hi)
  rw[he] at this
  simp only[aE,dE] at this
  exact this.1
 ·have:=h2 i (List.mem_range.2 hi)
  rw[aE,hl] at this
  have:=this.2
  simp only[Bool.not_true,Bool.false_or,oE,dE] at this
  rcases this with c|c
  ·exact absurd c hn
  ·cases hl:l[i]? with
   |none=>rw[hl] at c;cases c
   |some o=>rw[hl] at c;exact⟨o,rfl,c⟩
def FE:List Iu->Prop
 |[]=>True
 | .p f::r=>(∀G v w G' w',f G v w->Fr G w G' w'->f G' v w')∧FE r
 |_::r=>FE r
def BW:∀{its:List Iu},FE its->∀q,q∈its->∀G v w G' w',q.F G v w->Fr G w G' w'->q.F G' v w'
 |s::r,h,q,hq,G,v,w,G',w',hf,hk=>by
  rcases mC.1 hq with e|oO
  ·subst e
   cases q with
   |p f=>exact h.1 _ _ _ _ _ hf hk
   |_=>exact hf
  ·cases s with
   |p f=>exact BW (its:=r) h.2 q oO _ _ _ _ _ hf hk
   |v V=>exact BW (its:=r) h q oO _ _ _ _ _ hf hk
   |e t=>exact BW (its:=r) h q oO _ _ _ _ _ hf hk
   |w t V=>exact BW (its:=r) h q oO _ _ _ _ _ hf hk
   |d f=>exact BW (its:=r) h q oO _ _ _ _ _ hf hk
   |u=>exact BW (its:=r) h q oO _ _ _ _ _ hf hk
def Sl {its:List Iu} (h:FE its) (i:Nat) {G:List Nat} {v:Value} {w:World} {G':List Nat} {w':World} (hf:(its.getD i fW).F G v w) (hk:Fr G w G' w'):(its.getD i fW).F G' v w':=by
 rw[gG] at hf⊢
 cases e:its[i]? with
 |none=>trivial
 |some q=>rw[e] at hf;exact BW h q (List.mem_of_getElem? e) _ _ _ _ _ hf hk
section
variable {P:Program} {n:Nat} {l:List Oper} {m:Nat} {W ds:List Nat} {deps:List (List Nat)}
def Sm {N R:Env->World->Prop} {X:Nat->Env->World->Prop} {id:Nat} {e0:Env} {w0:World} (hm:P.follows .mixedOrders=true) (G0:List Nat) (m:Nat) (W ds:List Nat) (deps:List (List Nat)) (its:List Iu) (effs:List Nat) (Js:List (List Nat->List Value->World->Prop)) (JF:(Nat->Bool)->List Nat->List Value->World->Prop)
  (hB:wa l m W ds deps=true) (hE:uB l m effs its=true) (hL:fy G0 w0) (hF:FE its) (hJ:Ir Js) (Sn:∀S G vs w w',JF S G vs w->ak [] w w'->JF S G vs w') (h0:Js.getD 0 (λ_ _ _=>True) G0 [] w0)
  (Iv:∀G vs w,Js.getD effs.length (λ_ _ _=>True) G vs w->vs.length=effs.length->JF (λ_=>false) G vs w)
  (hc:uY P n l.toArray W ds its Js JF e0 G0 w0 effs.length 0 (l.take m) deps)
  (ht:∀(x:Env) (w:World) (G:List Nat) (aW:List Value),Fr G0 w0 G w->fy G w->JF (λi=>(its.getD i fW).rX) G aW w->aW.length=effs.length->sQ its ds G aW w (List.range m) λacc=>OW P n l.toArray N (l.drop m) (aM (aN W x e0) acc) w):
  CW P n (.region id l.toArray true) N R X e0 w0:=λa ha=>by
 refine wp_region_any hm ?_
 have gN:ak [] w0 {w0 with drawn:=w0.drawn+1}:=ak.drew _ _
 obtain⟨C8,EN,Ko,jA,oz⟩:=C7 hB
 obtain⟨o6,mP,he3,mJ⟩:=acG hE
 have eN:∀i j,i<m->j<m->i≠j->ds.getD j 0≠ds.getD i 0:=λi j hi hj ll=>by
  rw[gG,gG,gE om,gE om]
  simp only[Option.getD_some]
  intro he
  exact ll ((List.getElem_inj jA).1 he.symm)
 let vl:Nat->Env->List Value:=λk e=>(effs.take k).map λi=>e (ds.getD i 0)
 let US:(Nat->Bool)->Nat->Bool:=λS i=>S i&&(its.getD i fW).rX
 let Inv:(Nat->Bool)->Env->World->Prop:=λS e w=>∃G k,gv W e0 e∧Fr G0 w0 G w∧fy G w∧k<=effs.length∧(∀t,t<effs.length->(S (effs.getD t 0)=true↔t<k))∧
  (k<effs.length->Js.getD k (λ_ _ _=>True) G (vl k e) w∧∀i,i<m->S i=true->(its.getD i fW).late=false)∧(k=effs.length->JF (US S) G (vl k e) w)∧
  ∀i,i<m->S i=true->(its.getD i fW).F G (e (ds.getD i 0)) w∧∀f,its.getD i fW= .d f->f (vl k e)=e (ds.getD i 0)
 have FA:∀(S:Nat->Bool) (e:Env) (k:Nat),(∀t,t<effs.length->(S (effs.getD t 0)=true↔t<k))->k<=effs.length->∀j t,j<m->S j=true->(its.getD j fW).l9=some t->(vl k e).getD t undef=e (ds.getD j 0):=by
  intro S e k hS hk j t hj ma he
  obtain⟨h1,h2⟩:=mP j t hj he
  have h3:t<k:=(hS t h1).1 (by rw[h2];exact ma)
  show((effs.take k).map λi=>e (ds.getD i 0)).getD t undef=_
  rw[gG,List.getElem?_map,List.getElem?_take,iP h3,gE h1]
  rw[gG,gE h1] at h2
  simp only[Option.getD_some] at h2
  simp[h2]
 have FF:∀k e,k<=effs.length->(vl k e).length=k:=λk e hk=>by show((effs.take k).map _).length=k;simp;omega
 have step:∀(S:Nat->Bool) (e:Env) (w:World) (i:Nat) (o:Oper),i<m->l[i]?=some o->S i=false->(∀j,waits o j=true->S j=true)->Inv S e w->
   OW P n l.toArray (λe' w'=>Inv (λj=>if j=i then true else S j) e' w') [o] e w:=by
  rintro S e w i o qS ho tR An ⟨G,k,qk,bZ,qA,gR,hS,uV,DI,o9⟩
  obtain⟨hW,zj⟩:=(oz i o ho).2.1 qS
  obtain⟨dp,zk⟩:∃d,deps[i]?=some d:=⟨deps[i]'om,gE om⟩
  have EU:deps.getD i []=dp:=by rw[gG,zk];rfl
  rw[EU] at zj
  have jq:=Sk (l.take m) deps 0 hc i o dp (by rw[List.getElem?_take,iP qS];exact ho) zk
  rw[Nat.zero_add] at jq
  have hd:∀j,j∈dp->Sh (its.getD j fW) G (vl k e) (e (ds.getD j 0)) w:=λj hj=>by
   obtain⟨h1,h2⟩:=zj j hj
   have h3:=o9 j h2 (An j h1)
   exact⟨h3.1,λt het=>FA S e k hS gR j t h2 (An j h1) (by rw[het];rfl),h3.2⟩
  have FB:∀e',gv [ds.getD i 0] e e'->gv W e0 e':=λe' h t BU=>by
   have DG:t≠ds.getD i 0:=λhe=>by rw[he,hW] at BU;cases BU
   rw[h t (by simpa using DG)];exact qk t BU
  have Ao:∀e',gv [ds.getD i 0] e e'->∀j,j<m->j≠i->e' (ds.getD j 0)=e (ds.getD j 0):=λe' h j hj jv=>h _ (by simpa using eN i j qS hj (λh=>jv h.symm))
  have gi:[o]=[o]++[]:=rfl
  have So:∀e',gv [ds.getD i 0] e e'->∀k',k'<=effs.length->(∀t,t<k'->effs.getD t 0≠i)->vl k' e'=vl k' e:=λe' mc k' pH nk=>by
   show(effs.take k').map _=(effs.take k').map _
   apply List.map_congr_left
   intro j hj
   obtain⟨t,oa⟩:=List.mem_iff_getElem?.1 hj
   rw[List.getElem?_take] at oa
   split at oa
   ·rename_i eW
    have gx:t<effs.length:=(List.getElem?_eq_some_iff.1 oa).1
    have uG:effs.getD t 0=j:=by rw[gG,oa];rfl
    exact Ao e' mc j (by have:=(o6 t gx).1;rw[uG] at this;exact this) (λh=>nk t eW (uG.trans h))
   ·cases oa
  -- what is late comes behind the last effect
  have Sp:(its.getD i fW).late=true->k=effs.length:=λhl=>by
   rcases Nat.eq_zero_or_pos effs.length with h0|h0
   ·omega
   ·obtain⟨o',mO,FC⟩:=he3 i qS hl om
    rw[ho] at mO;cases mO
    have:=(hS (effs.length-1) om).1 (An _ FC)
    omega
  -- an operation that is no effect in the order
  have main:∀(e':Env) (w':World) (G':List Nat),(its.getD i fW).l9=none->gv [ds.getD i 0] e e'->Fr G w G' w'->fy G' w'->
    (k<effs.length->Js.getD k (λ_ _ _=>True) G' (vl k e) w'∧(its.getD i fW).late=false)->(k=effs.length->JF (US λj=>if j=i then true else S j) G' (vl k e) w')->
    (its.getD i fW).F G' (e' (ds.getD i 0)) w'->(∀f,its.getD i fW= .d f->f (vl k e)=e' (ds.getD i 0))->Inv (λj=>if j=i then true else S j) e' w':=by
   intro e' w' G' sN mc wG BV DJ rY x6 hDi
   have nk:∀t,t<effs.length->effs.getD t 0≠i:=λt gx h=>by have:=(o6 t gx).2.1;rw[h,sN] at this;cases this
   have BX:=So e' mc k gR (λt ht=>nk t om)
   refine⟨G',k,FB e' mc,bZ.go wG,BV,gR,λt gx=>?_,λeW=>⟨?_,λj hj ma=>?_⟩,λmf=>?_,λj hj ma=>?_⟩
   ·simp only[iN (nk t gx)];exact hS t gx
   ·rw[BX];exact(DJ eW).1
   ·by_cases jv:j=i
    ·rw[jv];exact(DJ eW).2
    ·simp only[iN jv] at ma;exact(uV eW).2 j hj ma
   ·rw[BX];exact rY mf
   ·rw[BX]
    by_cases jv:j=i
    ·rw[jv];exact⟨x6,hDi⟩
    ·simp only[iN jv] at ma
     rw[Ao e' mc j hj jv]
     exact⟨Sl hF j (o9 j hj ma).1 wG,(o9 j hj ma).2⟩
  have Sq:(its.getD i fW).rX=false->US (λj=>if j=i then true else S j)=US S:=λh=>by
   funext j
   show((if j=i then true else S j)&&(its.getD j fW).rX)=(S j&&(its.getD j fW).rX)
   by_cases jv:j=i
   ·rw[jv,h];simp
   ·rw[iN jv]
  -- the cases
  have floatC:Md P n l.toArray W ds its e0 G0 w0 i o dp->(its.getD i fW).l9=none->(its.getD i fW).late=false->(∀f,its.getD i fW≠ .d f)->(its.getD i fW).rX=false->OW P n l.toArray (λe' w'=>Inv (λj=>if j=i then true else S j) e' w') [o] e w:=by
   intro jq sN FG Me Sr
   have h1:=uX (jq e w G _ bZ qA) (vs:=λj=>e (ds.getD j 0)) hd
   rw[Am qk] at h1
   rw[gi]
   refine vZ h1 ?_
   rintro e' w' ⟨pH,x6,mc⟩
   exact ag (main e' w' G sN mc (Fr.of pH sm) (λx hx=>lL (qA x hx) pH.size) (λeW=>⟨Fz hJ k (uV eW).1 pH,FG⟩) (λmf=>by rw[Sq Sr];exact Sn _ _ _ _ _ (DI mf) pH) x6 (λf hf=>absurd hf (Me f)))
  have effC:∀t,(its.getD i fW).l9=some t->Is P n l.toArray W ds its Js e0 G0 w0 t i o dp->(its.getD i fW).late=false->(∀f,its.getD i fW≠ .d f)->(its.getD i fW).rX=false->OW P n l.toArray (λe' w'=>Inv (λj=>if j=i then true else S j) e' w') [o] e w:=by
   intro t sN jq FG Me Sr
   obtain⟨gx,sO⟩:=mP i t qS sN
   have sP:k=t:=by
    have h1:¬t<k:=λh=>by have:=(hS t gx).2 h;rw[sO,tR] at this;cases this
    rcases Nat.eq_zero_or_pos t with h0|h0
    ·omega
    ·obtain⟨o',mO,FC⟩:=(o6 t gx).2.2 om
     rw[sO,ho] at mO
     cases mO
     have:=(hS (t-1) om).1 (An _ FC)
     omega
   subst sP
   have h1:=uX (jq e w G _ bZ qA (uV gx).1 (FF k e gR)) (vs:=λj=>e (ds.getD j 0)) hd
   rw[Am qk] at h1
   rw[gi]
   refine vZ h1 ?_
   rintro e' w' ⟨⟨G',wG,BV,DH,x6⟩,mc⟩
   have FD:∀t',t'<effs.length->effs.getD t' 0=i->t'=k:=λt' h1 h2=>by
    have:=(o6 t' h1).2.1
    rw[h2,sN] at this
    cases this;rfl
   have BX:vl k e'=vl k e:=So e' mc k gR (λt' oA h=>by have:=FD t' om h;omega)
   have fO:vl (k+1) e'=vl k e++[e' (ds.getD i 0)]:=by
    have h2:effs[k]?=some i:=by
     rw[gG,gE gx] at sO
     rw[gE gx]
     simpa using sO
    rw[<-BX]
    show(effs.take (k+1)).map _=(effs.take k).map _++_
    rw[List.take_add_one,h2,List.map_append]
    rfl
   have Ss:∀j,j<m->(if j=i then true else S j)=true->(its.getD j fW).late=false:=λj hj ma=>by
    by_cases jv:j=i
    ·rw[jv];exact FG
    ·rw[iN jv] at ma;exact(uV gx).2 j hj ma
   refine ag ⟨G',k+1,FB e' mc,bZ.go wG,BV,om,λt' Ap=>?_,λ_=>⟨by rw[fO];exact DH,Ss⟩,λmf=>?_,λj hj ma=>?_⟩
   ·by_cases h2:effs.getD t' 0=i
    ·have:=FD t' Ap h2
     simp only[iP h2]
     exact⟨λ_=>om,λ_=>trivial⟩
    ·simp only[iN h2]
     rw[hS t' Ap]
     have:t'≠k:=λh=>by rw[h] at h2;exact h2 sO
     omega
   ·have e1:US (λj=>if j=i then true else S j)=λ_=>false:=by
     funext j
     show((if j=i then true else S j)&&(its.getD j fW).rX)=false
     by_cases zn:j<m
     ·cases hb:(if j=i then true else S j) with
      |false=>rfl
      |true=>
       have h3:=Ss j zn hb
       cases e:its.getD j fW with
       |u=>rw[e] at h3;cases h3
       |_=>rfl
     ·rw[gG,List.getElem?_eq_none om]
      simp[Iu.rX]
    rw[e1]
    exact Iv _ _ _ (by rw[fO,<-mf];exact DH) (by rw[FF _ _ om];omega)
   ·by_cases jv:j=i
    ·rw[jv];exact⟨x6,λf hf=>absurd hf (Me f)⟩
    ·simp only[iN jv] at ma
     rw[Ao e' mc j hj jv]
     refine⟨Sl hF j (o9 j hj ma).1 wG,λf hf=>?_⟩
     have:=(uV gx).2 j hj ma
     rw[hf] at this;cases this
  cases jw:its.getD i fW with
  |v V=>unfold uc at jq;rw[jw] at jq;exact floatC jq (by rw[jw];rfl) (by rw[jw];rfl) (λf h=>by rw[jw] at h;cases h) (by rw[jw];rfl)
  |p f=>unfold uc at jq;rw[jw] at jq;exact floatC jq (by rw[jw];rfl) (by rw[jw];rfl) (λf h=>by rw[jw] at h;cases h) (by rw[jw];rfl)
  |e t=>unfold uc at jq;rw[jw] at jq;exact effC t (by rw[jw];rfl) jq (by rw[jw];rfl) (λf h=>by rw[jw] at h;cases h) (by rw[jw];rfl)
  |w t V=>unfold uc at jq;rw[jw] at jq;exact effC t (by rw[jw];rfl) jq (by rw[jw];rfl) (λf h=>by rw[jw] at h;cases h) (by rw[jw];rfl)
  |d f=>
   unfold uc at jq;rw[jw] at jq
   have mf:=Sp (by rw[jw];rfl)
   have h1:=uX (jq e w G _ _ bZ qA (DI mf) (by rw[FF k e gR];exact mf)) (vs:=λj=>e (ds.getD j 0)) hd
   rw[Am qk] at h1
   rw[gi]
   refine vZ h1 ?_
   rintro e' w' ⟨pH,Fw,mc⟩
   exact ag (main e' w' G (by rw[jw];rfl) mc (Fr.of pH sm) (λx hx=>lL (qA x hx) pH.size) (λeW=>om) (λmf=>by rw[Sq (by rw[jw];rfl)];exact Sn _ _ _ _ _ (DI mf) pH) (by rw[jw];trivial) (λf' hf=>by rw[jw] at hf;cases hf;exact Fw.symm))
  |u=>
   unfold uc at jq;rw[jw] at jq
   have mf:=Sp (by rw[jw];rfl)
   have h1:=uX (jq e w G _ _ bZ qA (DI mf) (by show(S i&&_)=false;rw[tR];rfl) (by rw[FF k e gR];exact mf)) (vs:=λj=>e (ds.getD j 0)) hd
   rw[Am qk] at h1
   rw[gi]
   refine vZ h1 ?_
   rintro e' w' ⟨⟨G',wG,BV,DH⟩,mc⟩
   refine ag (main e' w' G' (by rw[jw];rfl) mc wG BV (λeW=>om) (λmf=>?_) (by rw[jw];trivial) (λf' hf=>by rw[jw] at hf;cases hf))
   have e1:US (λj=>if j=i then true else S j)=λj=>if j=i then true else US S j:=by
    funext j
    show((if j=i then true else S j)&&(its.getD j fW).rX)=if j=i then true else(S j&&(its.getD j fW).rX)
    by_cases jv:j=i
    ·rw[iP jv,iP jv,jv,jw];rfl
    ·rw[iN jv,iN jv]
   rw[e1];exact DH
 have tail:∀(S:Nat->Bool) (e:Env) (w:World),(∀i,i<m->S i=true)->Inv S e w->OW P n l.toArray N (l.drop m) e w:=by
  rintro S e w Aq ⟨G,k,qk,bZ,qA,gR,hS,uV,DI,o9⟩
  have hk:k=effs.length:=by
   rcases Nat.lt_or_ge k effs.length with h|h
   ·have:=(hS k h).1 (Aq _ (o6 k h).1);omega
   ·omega
  subst hk
  have e1:US S=λi=>(its.getD i fW).rX:=by
   funext j
   show(S j&&(its.getD j fW).rX)=_
   by_cases zn:j<m
   ·rw[Aq j zn];rfl
   ·rw[gG,List.getElem?_eq_none om]
    simp[Iu.rX]
  have hj:=DI rfl
  rw[e1] at hj
  have h1:=uX (ht e w G _ bZ qA hj (FF _ e (lR _))) (vs:=λj=>e (ds.getD j 0)) (λj hj=>by
   have pI:=List.mem_range.1 hj
   have h3:=o9 j pI (Aq j pI)
   exact⟨h3.1,λt het=>FA S e _ hS gR j t pI (Aq j pI) (by rw[het];rfl),h3.2⟩)
  rw[Am qk] at h1
  exact h1
 have jo:∀j,(Array.replicate l.length false).getD j false=false:=λj=>by
  rw[Array.getD_eq_getD_getElem?,Array.getElem?_replicate];split<;>rfl
 have Mc:Inv (λj=>(Array.replicate l.length false).getD j false) e0 {w0 with drawn:=w0.drawn+1}:=by
  have EP:=Fz hJ 0 h0 gN
  refine⟨G0,0,Bg,Fr.of gN sm,λx hx=>hL x hx,Nat.zero_le _,λt gx=>?_,λ_=>⟨EP,λi hi tR=>?_⟩,λmf=>?_,λi hi tR=>?_⟩
  ·constructor
   ·intro h;exact absurd ((jo (effs.getD t 0)).symm.trans h) sm
   ·intro h;omega
  ·exact absurd ((jo i).symm.trans tR) sm
  ·have e1:US (λj=>(Array.replicate l.length false).getD j false)=λ_=>false:=by
    funext j
    show((Array.replicate l.length false).getD j false&&_)=false
    rw[jo];rfl
   rw[e1]
   exact Iv _ _ _ (by rw[<-mf];exact EP) (by show((effs.take 0).map _).length=_;simpa using mf)
  ·exact absurd ((jo i).symm.trans tR) sm
 have:=Sb (N:=N) (Inv:=Inv) hB step tail (lD n N R X) l.length (Array.replicate l.length false) e0 a _ ha sm
  (by
   have:((List.range l.length).filter λj=>!(Array.replicate l.length false).getD j true)=List.range l.length:=by
    rw[List.filter_eq_self]
    intro j hj
    rw[List.mem_range] at hj
    simp[Array.getD_eq_getD_getElem?,hj]
   rw[this];simp)
  (by intro j _ hj;simp[Array.getD_eq_getD_getElem?,hj])
  Mc
  (by
   intro j o ho hj
   have pI:j<l.length:=(List.getElem?_eq_some_iff.1 ho).1
   simp[Array.getD_eq_getD_getElem?,pI] at hj)
 have e1:pF n N (lD n N R X)=lD n N R X:=by
  funext x a w;cases x<;>rfl
 rw[e1] at this
 simpa using this
end
section
variable {P:Program} {n:Nat} {ops:Array Oper} {e:Env} {w w':World} {G:List Nat}
def uv {d:Nat} {v V:Value} (h:v=V:=by rfl):OW P n ops (λe' w'=>ak [] w w'∧(Iu.v V).F G (e' d) w'∧gv [d] e e') [] (cQ e (some d) v) w:=
 ag ⟨ak.refl _ _,by subst h;exact nL _ _ _,qR⟩
def up {d:Nat} {v:Value} {f:List Nat->Value->World->Prop} (k:ak [] w w') (h:f G v w'):OW P n ops (λe' w'=>ak [] w w'∧(Iu.p f).F G (e' d) w'∧gv [d] e e') [] (cQ e (some d) v) w':=
 ag ⟨k,by show f G (kK e d v d) w';rw[nL];exact h,qR⟩
def uE {d t:Nat} {v:Value} {aW:List Value} {J:List Nat->List Value->World->Prop} (G':List Nat) (k:Fr G w G' w') (hl:fy G' w') (h:J G' (aW++[v]) w'):OW P n ops (λe' w'=>(∃G',Fr G w G' w'∧fy G' w'∧J G' (aW++[e' d]) w'∧(Iu.e t).F G' (e' d) w')∧gv [d] e e') [] (cQ e (some d) v) w':=
 ag ⟨⟨G',k,hl,by show J G' (aW++[kK e d v d]) w';rw[nL];exact h,trivial⟩,qR⟩
def uW {d t:Nat} {v V:Value} {aW:List Value} {J:List Nat->List Value->World->Prop} (G':List Nat) (k:Fr G w G' w') (hl:fy G' w') (h:J G' (aW++[v]) w') (hv:v=V:=by rfl):OW P n ops (λe' w'=>(∃G',Fr G w G' w'∧fy G' w'∧J G' (aW++[e' d]) w'∧(Iu.w t V).F G' (e' d) w')∧gv [d] e e') [] (cQ e (some d) v) w':=
 ag ⟨⟨G',k,hl,by show J G' (aW++[kK e d v d]) w';rw[nL];exact h,by subst hv;exact nL _ _ _⟩,qR⟩
def uD {d:Nat} {v V:Value} (k:ak [] w w') (h:v=V:=by rfl):OW P n ops (λe' w'=>ak [] w w'∧e' d=V∧gv [d] e e') [] (cQ e (some d) v) w':=
 ag ⟨k,by subst h;exact nL _ _ _,qR⟩
def uU {d:Nat} {Q:List Nat->World->Prop} (G':List Nat) (k:Fr G w G' w') (hl:fy G' w') (h:Q G' w'):OW P n ops (λe' w'=>(∃G',Fr G w G' w'∧fy G' w'∧Q G' w')∧gv [d] e e') [] e w':=
 ag ⟨⟨G',k,hl,h⟩,Bg⟩
end
structure fi (L:List Nat) (w:World) (b:Nat) (vs:Array Value) (T:TypeId):Prop where
 jx:aY w b vs T
 out:b∉L
def fi.lt {L:List Nat} {w:World} {b:Nat} {vs:Array Value} {T:TypeId} (h:fi L w b vs T):b<w.heap.size:=h.jx.lt
def fi.at {L:List Nat} {w:World} {b:Nat} {vs:List Value} {T:TypeId} (h:fi L w b vs.toArray T) {i:Nat} {v:Value} (hv:vs[i]?=some v):w.cell? ⟨b,i,none⟩=some v:=h.jx.at hv
def fi.all {L:List Nat} {w:World} {b:Nat} {vs:List Value} {T:TypeId} (h:fi L w b vs.toArray T):iS w b 0 vs:=h.jx.all
def fi.go {L L':List Nat} {w w':World} {b:Nat} {vs:Array Value} {T:TypeId} (h:fi L w b vs T) (k:Fr L w L' w'):fi L' w' b vs T:=
 ⟨h.jx.aO k.aO h.out,λhx=>by
  rcases k.mem b hx with h1|h1
  ·exact h.out h1
  ·have:=h.jx.lt;omega⟩
def fi.ext {L:List Nat} {w w':World} {b:Nat} {vs:Array Value} {T:TypeId} (h:fi L w b vs T) (k:ak [] w w'):fi L w' b vs T:=⟨h.jx.ext k,h.out⟩
def fi.aL {L G:List Nat} {w w':World} {b:Nat} {vs:Array Value} {T:TypeId} (h:fi L w b vs T) (k:ak G w w') (hG:∀x,x∈G->x∈L):fi L w' b vs T:=h.go (Fr.of k hG)
def aY.o {L:List Nat} {w:World} {b:Nat} {vs:Array Value} {T:TypeId} (h:aY w b vs T) (hL:∀x,x∈L->x<b):fi L w b vs T:=⟨h,λhx=>by have:=hL b hx;omega⟩
def dj.rs {w:World} {T:TypeId} {v:Value} {g:Option Nat} {xs:List aj} (h:dj w T v g xs):bI [] w v xs:=h.rep sm
def kv {w:World} {T:TypeId} {v:Value} {g:Option Nat} {xs:List aj} (h:dj w T v g xs):∃a c,v= .slice a xs.length c:=jZ.len h
section
variable {P:Program} {n:Nat} {ops:Array Oper} {K:Env->World->Prop} {rest:List Oper} {e:Env} {w:World} {dst:Option Nat} {ty:TypeId} {pos:String} {after:Array Edge} {g:Option (Nat×Bool)} {x y:Operand}
def St {t E bytes:Nat} {z:Value} {v:Value} {gb:Option Nat} {xs:List aj} {s:aj} {b U:Nat} (hT:P.underlying t=some (.slice E)) (hE:TI P E 1 bytes z) (hg:gate ops e g=true) (hd:dy n dst=true) (hz:Nat.beq z.cells.size 1=true) (ij:Nat.ble bytes 1000=true)
  (hx:ev e x=v) (hy:ev e y= .slice (some ⟨b,0,none⟩) 1 1) (hO:dj w E v gb xs) (hb:aY w b [str s].toArray U) (hn:xs.length<100000000)
  (k:∀v' g' w',dj w' E v' g' (xs++[s])->ak gb.toList w w'->Fr gb.toList w g'.toList w'->OW P n ops K rest (cQ e dst v') w'):
  OW P n ops K (⟨dst,.call {callee:=.builtin .append,args:=#[x,y],argTypes:=#[t,t]},ty,pos,after,g⟩::rest) e w:=by
 refine BS (L:=[]) (row:=[.val (str s)]) hT hE hg hd hz ij hx hy (hO.R2 _) rfl hb.all (by simp[Value.oneCell']) ⟨.val _,trivial⟩ (by rw[rS];exact hn) ?_
 intro v' g' w' kr hk k8
 rw[R3] at kr
 refine k v' g' w' kr.wg hk.aO ⟨hk.aO,λq hq=>?_⟩
 rcases k8 with h|h
 ·rw[h] at hq;exact .inl hq
 ·rw[h] at hq;simp at hq;right;omega
def lq {T E bytes:Nat} {z:Value} {q1 q2:Operand} {a1 a2:aj} (hT:P.underlying T=some (.slice E)) (hE:TI P E 1 bytes z) (hg:gate ops e g=true) (hd:dy n dst=true) (h1:ev e q1=str a1) (h2:ev e q2=str a2)
  (k:∀w',ak [] w w'->aY w' w.heap.size [str a1,str a2].toArray E->w'.heap.size=w.heap.size+1->OW P n ops K rest (cQ e dst (.slice (some ⟨w.heap.size,0,none⟩) 2 2)) w'):
  OW P n ops K (⟨dst,.buildSlice T 2 #[(0,q1),(1,q2)],ty,pos,after,g⟩::rest) e w:=
 sG [q1,q2] [[str a1],[str a2]] hT hE hg hd rfl rfl rfl rfl rfl (by simp[h1,h2,Value.cells]) rfl k
def pU {T E bytes:Nat} {z:Value} {q1 q2 q3:Operand} {a1 a2 a3:aj} (hT:P.underlying T=some (.slice E)) (hE:TI P E 1 bytes z) (hg:gate ops e g=true) (hd:dy n dst=true) (h1:ev e q1=str a1) (h2:ev e q2=str a2) (h3:ev e q3=str a3)
  (k:∀w',ak [] w w'->aY w' w.heap.size [str a1,str a2,str a3].toArray E->w'.heap.size=w.heap.size+1->OW P n ops K rest (cQ e dst (.slice (some ⟨w.heap.size,0,none⟩) 3 3)) w'):
  OW P n ops K (⟨dst,.buildSlice T 3 #[(0,q1),(1,q2),(2,q3)],ty,pos,after,g⟩::rest) e w:=
 sG [q1,q2,q3] [[str a1],[str a2],[str a3]] hT hE hg hd rfl rfl rfl rfl rfl (by simp[h1,h2,h3,Value.cells]) rfl k
def ya {T E bytes:Nat} {z:Value} {q1 q2 q3 q4:Operand} {a1 a2 a3 a4:aj} (hT:P.underlying T=some (.slice E)) (hE:TI P E 1 bytes z) (hg:gate ops e g=true) (hd:dy n dst=true) (h1:ev e q1=str a1) (h2:ev e q2=str a2) (h3:ev e q3=str a3) (h4:ev e q4=str a4)
  (k:∀w',ak [] w w'->aY w' w.heap.size [str a1,str a2,str a3,str a4].toArray E->w'.heap.size=w.heap.size+1->OW P n ops K rest (cQ e dst (.slice (some ⟨w.heap.size,0,none⟩) 4 4)) w'):
  OW P n ops K (⟨dst,.buildSlice T 4 #[(0,q1),(1,q2),(2,q3),(3,q4)],ty,pos,after,g⟩::rest) e w:=
 sG [q1,q2,q3,q4] [[str a1],[str a2],[str a3],[str a4]] hT hE hg hd rfl rfl rfl rfl rfl (by simp[h1,h2,h3,h4,Value.cells]) rfl k
def Mf {T E bytes:Nat} {z:Value} {q1 q2 q3 q4 q5:Operand} {a1 a2 a3 a4 a5:aj} (hT:P.underlying T=some (.slice E)) (hE:TI P E 1 bytes z) (hg:gate ops e g=true) (hd:dy n dst=true) (h1:ev e q1=str a1) (h2:ev e q2=str a2) (h3:ev e q3=str a3) (h4:ev e q4=str a4) (h5:ev e q5=str a5)
  (k:∀w',ak [] w w'->aY w' w.heap.size [str a1,str a2,str a3,str a4,str a5].toArray E->w'.heap.size=w.heap.size+1->OW P n ops K rest (cQ e dst (.slice (some ⟨w.heap.size,0,none⟩) 5 5)) w'):
  OW P n ops K (⟨dst,.buildSlice T 5 #[(0,q1),(1,q2),(2,q3),(3,q4),(4,q5)],ty,pos,after,g⟩::rest) e w:=
 sG [q1,q2,q3,q4,q5] [[str a1],[str a2],[str a3],[str a4],[str a5]] hT hE hg hd rfl rfl rfl rfl rfl (by simp[h1,h2,h3,h4,h5,Value.cells]) rfl k
def acJ {T E bytes:Nat} {z:Value} {q1 q2 q3 q4 q5 q6:Operand} {a1 a2 a3 a4 a5 a6:aj} (hT:P.underlying T=some (.slice E)) (hE:TI P E 1 bytes z) (hg:gate ops e g=true) (hd:dy n dst=true) (h1:ev e q1=str a1) (h2:ev e q2=str a2) (h3:ev e q3=str a3) (h4:ev e q4=str a4) (h5:ev e q5=str a5) (h6:ev e q6=str a6)
  (k:∀w',ak [] w w'->aY w' w.heap.size [str a1,str a2,str a3,str a4,str a5,str a6].toArray E->w'.heap.size=w.heap.size+1->OW P n ops K rest (cQ e dst (.slice (some ⟨w.heap.size,0,none⟩) 6 6)) w'):
  OW P n ops K (⟨dst,.buildSlice T 6 #[(0,q1),(1,q2),(2,q3),(3,q4),(4,q5),(5,q6)],ty,pos,after,g⟩::rest) e w:=
 sG [q1,q2,q3,q4,q5,q6] [[str a1],[str a2],[str a3],[str a4],[str a5],[str a6]] hT hE hg hd rfl rfl rfl rfl rfl (by simp[h1,h2,h3,h4,h5,h6,Value.cells]) rfl k
def Su {T E bytes:Nat} {z:Value} {q1 q2 q3 q4 q5 q6 q7 q8:Operand} {a1 a2 a3 a4 a5 a6 a7 a8:aj} (hT:P.underlying T=some (.slice E)) (hE:TI P E 1 bytes z) (hg:gate ops e g=true) (hd:dy n dst=true) (h1:ev e q1=str a1) (h2:ev e q2=str a2) (h3:ev e q3=str a3) (h4:ev e q4=str a4) (h5:ev e q5=str a5) (h6:ev e q6=str a6) (h7:ev e q7=str a7) (h8:ev e q8=str a8)
  (k:∀w',ak [] w w'->aY w' w.heap.size [str a1,str a2,str a3,str a4,str a5,str a6,str a7,str a8].toArray E->w'.heap.size=w.heap.size+1->OW P n ops K rest (cQ e dst (.slice (some ⟨w.heap.size,0,none⟩) 8 8)) w'):
  OW P n ops K (⟨dst,.buildSlice T 8 #[(0,q1),(1,q2),(2,q3),(3,q4),(4,q5),(5,q6),(6,q7),(7,q8)],ty,pos,after,g⟩::rest) e w:=
 sG [q1,q2,q3,q4,q5,q6,q7,q8] [[str a1],[str a2],[str a3],[str a4],[str a5],[str a6],[str a7],[str a8]] hT hE hg hd rfl rfl rfl rfl rfl (by simp[h1,h2,h3,h4,h5,h6,h7,h8,Value.cells]) rfl k
def acK {T E bytes:Nat} {z:Value} {q1 q2 q3 q4 q5 q6 q7 q8 q9 Mg:Operand} {a1 a2 a3 a4 a5 a6 a7 a8 a9 Iw:aj} (hT:P.underlying T=some (.slice E)) (hE:TI P E 1 bytes z) (hg:gate ops e g=true) (hd:dy n dst=true) (h1:ev e q1=str a1) (h2:ev e q2=str a2) (h3:ev e q3=str a3) (h4:ev e q4=str a4) (h5:ev e q5=str a5) (h6:ev e q6=str a6) (h7:ev e q7=str a7) (h8:ev e q8=str a8) (h9:ev e q9=str a9) (gI:ev e Mg=str Iw)
  (k:∀w',ak [] w w'->aY w' w.heap.size [str a1,str a2,str a3,str a4,str a5,str a6,str a7,str a8,str a9,str Iw].toArray E->w'.heap.size=w.heap.size+1->OW P n ops K rest (cQ e dst (.slice (some ⟨w.heap.size,0,none⟩) 10 10)) w'):
  OW P n ops K (⟨dst,.buildSlice T 10 #[(0,q1),(1,q2),(2,q3),(3,q4),(4,q5),(5,q6),(6,q7),(7,q8),(8,q9),(9,Mg)],ty,pos,after,g⟩::rest) e w:=
 sG [q1,q2,q3,q4,q5,q6,q7,q8,q9,Mg] [[str a1],[str a2],[str a3],[str a4],[str a5],[str a6],[str a7],[str a8],[str a9],[str Iw]] hT hE hg hd rfl rfl rfl rfl rfl (by simp[h1,h2,h3,h4,h5,h6,h7,h8,h9,gI,Value.cells]) rfl k
end
def bT.eq {L:List Nat} {w:World} {v:Value} {t u:aA} (h:bT L w v t) (e:t=u):bT L w v u:=e▸h
def fK {L:List Nat} {w:World} {a:Option Addr} {n c i:Nat} {ts:List aA} (h:fI L w (.slice a n c) ts) (hi:i<ts.length):
  ∃b off pa pc,a=some ⟨b,off,none⟩∧jb L w b (off+i*2) [str (nth ts i).az,.slice pa (nth ts i).au.length pc]∧bT L w (.agg #[str (nth ts i).az,.slice pa (nth ts i).au.length pc]) (nth ts i):=by
 obtain⟨b,off,vs,ha,hb,hL,hl,hc,hr⟩:=yX h (Kv (iK hi))
 obtain⟨pa,pn,pc,he,hn,hp⟩:=dO (t:=nth ts i) ⟨vs,rfl,hr⟩
 have hv:vs=[str (nth ts i).az,.slice pa pn pc]:=by
  have:=cA (λv=>match v with|Value.agg x=>x.toList|_=>[]) he
  simpa using this
 subst hv hn
 exact⟨b,off,pa,pc,ha,⟨hc,hb,hL⟩,mT hp⟩
def aY.wg {w:World} {b T:Nat} (xs:List aj) (h:aY w b (xs.map λx=>str x).toArray T) (hl:xs.length<=100000:=by simp):dj w T (.slice (some ⟨b,0,none⟩) xs.length xs.length) (some b) xs:=
 ⟨by simp,.inr ⟨b,xs.length,_,rfl,rfl,h,lR _,Nat.le_trans hl de,sm,by rw[Nat.mul_one,List.take_of_length_le sm]⟩⟩
def aY.eF {L:List Nat} {w:World} {b T:Nat} (xs:List aj) (h:aY w b (xs.map λx=>str x).toArray T) (hL:b∉L) (hl:xs.length<=100000:=by simp):bI L w (.slice (some ⟨b,0,none⟩) xs.length xs.length) xs:=
 (h.wg xs hl).rep λq hq=>by cases hq;exact hL
def aY.lr {w:World} {b T:Nat} (h:aY w b #[] T):dj w T (.slice (some ⟨b,0,none⟩) 0 0) (some b) []:=R7 h
def sR {n:Nat} (h:n<1000):(bf n).length<=3:=by
 have h1:∀k,k<10->(bf k).length=1:=λk hk=>by unfold bf;rw[iP hk];rfl
 have h2:∀k,k<100->(bf k).length<=2:=λk hk=>by
  unfold bf
  split
  ·simp
  ·have:=h1 (k/10) om
   simp;omega
 unfold bf
 split
 ·simp
 ·have:=h2 (n/10) om
  simp;omega
def lQ (h:aj) (ps:List aj):(bO h ps).length=h.length+2+j3 ps:=by
 simp only[bO,lC,lA,lN,Re]
 unfold j3;omega
def Sv {m:Nat}:∀xs:List aj,(∀s,s∈xs->s.length<=m)->(xs.map List.length).sum<=xs.length*m
 |[],_=>by simp
 |x::xs,h=>by
  have h1:=h x sm
  have h2:=Sv xs (λs hs=>h s (by simp[hs]))
  simp only[List.map_cons,List.sum_cons,lC,Nat.add_mul];omega
def Ar {m:Nat} (xs:List aj) (h:∀s,s∈xs->s.length<=m):j3 xs<=xs.length*(m+1):=by
 have:=Sv xs h
 unfold j3;rw[Nat.mul_add];omega
structure kx (s:dd):Prop where
 types:z7 (fl s)
 regs:∀p,p∈s->p.2.1<1000
def FH {s:dd} (h:kx s) (x:aj):kU s x<1000:=by
 unfold kU
 cases hf:s.reverse.find? λp=>decide (p.1=x) with
 |none=>simp
 |some p=>exact h.regs p (List.mem_reverse.1 (List.mem_of_find?_eq_some hf))
def Ix {s:dd} (h:kx s) (x:aj):(kG s x).n<=16:=by
 unfold kG
 cases hl:look (fl s) x with
 |none=>decide
 |some T=>exact h.types x T hl
def pV {T:Ty} (h:T.n<=16):(bL T).length<=256:=by have:=BP T;omega
def tS {T:Ty} (h:T.n<=16):(dX (bL T)).length<=272:=by have:=pV h;rw[LO];omega
def kx.snoc {s:dd} (h:kx s) {x:aj} {r:Nat} {T:Ty} (hr:r<1000) (hT:T.n<=16):kx (s++[(x,r,T)]):=by
 refine⟨by rw[DB];exact Fo h.types hT,λp hp=>?_⟩
 rcases mA.1 hp with hp|hp
 ·exact h.regs p hp
 ·simp only[mS] at hp;rw[hp];exact hr
def As (s:aj):Prop:=∃T:Ty,T.n<=16∧s=dX (bL T)
/-! ### The type of a package's tuple -/
def mh (s:dd) (aX:List aj) (on:aj):List aj:=aX.map (λx=>bL (kG s x))++(if on≠[] then[on] else[])
def DK:Option Ty->aj
 |some T=>dX (bL T)
 |none=>[]
def tT (s:dd) (aX:List aj) (on:Option Ty):List aA:=aX.map (λx=>pR (kG s x))++(match on with|some T=>[Aa (pR T)]|none=>[])
def DL (s:dd) (aX:List aj) (on:Option Ty):mh s aX (DK on)=(tT s aX on).map aA.text:=by
 unfold mh tT
 rw[List.map_append,List.map_map]
 congr 1
 cases on with
 |none=>rfl
 |some T=>
  have eN:dX (bL T)≠[]:=by simp[dX]
  refine(iP (show DK (some T)≠[] from eN)).trans ?_
  simp[DK,RT,bL]
def Sw (s:dd) (aX:List aj) (on:aj):(mh s aX on).length<=aX.length+1:=by
 unfold mh
 rw[lA,List.length_map]
 split<;>simp
def Sx {s:dd} (h:kx s) {aX:List aj} {on:aj} (kP:on.length<=272):∀t,t∈mh s aX on->t.length<=272:=λt ht=>by
 unfold mh at ht
 rcases mA.1 ht with ht|ht
 ·obtain⟨x,_,rfl⟩:=List.mem_map.1 ht
  have:=pV (Ix h x);omega
 ·split at ht
  ·simp only[mS] at ht;rw[ht];exact kP
  ·simp at ht
def FI {s:dd} (h:kx s) {aX:List aj} {on:aj} (hn:aX.length<=40) (kP:on.length<=272):(bO [116] (mh s aX on)).length<=11200:=by
 have h1:=Ar _ (Sx h (aX:=aX) kP)
 have h2:=Sw s aX on
 have h3:(mh s aX on).length*(272+1)<=41*(272+1):=Nat.mul_le_mul om (lR _)
 rw[lQ];simp only[lC,lN];omega
def acL (s:dd) (aX:List aj) (on:Option Ty):aX.length<=(tT s aX on).length:=by
 unfold tT;rw[lA,List.length_map];omega
def acM (s:dd) (aX:List aj) (on:Option Ty):∀t,t∈tT s aX on->Good t:=λt ht=>by
 unfold tT at ht
 rcases mA.1 ht with ht|ht
 ·obtain⟨x,_,rfl⟩:=List.mem_map.1 ht
  exact Dz _
 ·cases on with
  |none=>simp at ht
  |some T=>simp only[mS] at ht;rw[ht];exact RS (Dz T)
def Sy {s:dd} (h:kx s) {aX:List aj} {on:Option Ty} (hn:aX.length<=40) (kP:∀T,on=some T->T.n<=16):
  ba (bO [116] (mh s aX (DK on)))=some (wh [116] (tT s aX on)):=by
 have hg:=abj (h:=[116]) de de (acM s aX on)
 rw[DL,<-Q1 de]
 refine Lc hg ?_ ?_
 ·show aA.depth.deeps (cg [116]::tT s aX on)<=60
  refine K8 λp hp=>?_
  rcases mC.1 hp with rfl|hp
  ·have:(cg [116]).depth=0:=rfl
   omega
  ·unfold tT at hp
   rcases mA.1 hp with hp|hp
   ·obtain⟨x,_,rfl⟩:=List.mem_map.1 hp
    have:=DA (kG s x)
    have:=Ix h x
    omega
   ·cases on with
    |none=>simp at hp
    |some T=>
     simp only[mS] at hp
     have:=DA T
     have:=kP T rfl
     rw[hp,RU];omega
 ·rw[Q1 de,<-DL]
  have:=FI h (aX:=aX) (on:=DK on) hn (by
   cases on with
   |none=>simp[DK]
   |some T=>exact tS (kP T rfl))
  omega
/-! ### The state stays small -/
structure fF (m:Mk):Prop where
 types:∀s,s∈m.types->s.length<=100000
 code:∀s,s∈m.code->s.length<=100000
def fF.dI {m:Mk} (h:fF m) {k:aj} (hk:k.length<=100000):fF (m.dI k):=⟨λs hs=>by
 rcases mA.1 hs with hs|hs
 ·exact h.types s hs
 ·simp only[mS] at hs;rw[hs];exact hk,h.code⟩
def fF.da {m:Mk} (h:fF m) {hd:aj} {ps:List aj} (hk:(bO hd ps).length<=100000):fF (m.da hd ps):=⟨h.types,λs hs=>by
 rcases mA.1 hs with hs|hs
 ·exact h.code s hs
 ·simp only[mS] at hs;rw[hs];exact hk⟩
structure acN (m m':Mk) (dt dc:Nat):Prop where
 blocks:m'.blocks=m.blocks
 bX:m'.bX=m.bX
 types:m'.types.length=m.types.length+dt
 code:m'.code.length=m.code.length+dc
def Sz (m:Mk) (s:dd) (ton:Nat) (aX:List aj) (on aP kind:aj) (cP:List aj):acN m (pd m s ton aX on aP kind cP).m 4 4:=by
 refine⟨rfl,rfl,?_,?_⟩<;>simp[pd,Mk.dI,Mk.da]
def SA (m:Mk) (s:dd) (ton:Nat) (aX:List aj) (on aP kind:aj) (cP:List aj):(pd m s ton aX on aP kind cP).w=bO [116] (mh s aX on):=rfl
def SB {m:Mk} {s:dd} (hm:fF m) (hs:kx s) {ton:Nat} (ht:ton<1000) {aX:List aj} (hn:aX.length<=40) {on aP kind:aj} (kP:on.length<=272) (hl:aP.length<=10) (hk:kind.length<=272) {cP:List aj} (eN:cP.length<=2) (Mh:∀x,x∈cP->x.length<=272) (fE:m.types.length+4<1000):fF (pd m s ton aX on aP kind cP).m:=by
 have hw:=FI hs hn kP
 have dec:∀k,k<1000->(bf k).length<=3:=λk hk=>sR hk
 have alz:=Ar cP Mh
 have SC:(bO [99] (bO [116] (mh s aX on)::cP)).length<=12000:=by
  rw[lQ]
  have:j3 (bO [116] (mh s aX on)::cP)=1+(bO [116] (mh s aX on)).length+j3 cP:=by unfold j3;simp;omega
  have h3:cP.length*(272+1)<=2*(272+1):=Nat.mul_le_mul eN (lR _)
  simp only[lC,lN];omega
 have regs:∀x,x∈aX.map (λx=>bf (kU s x))++(if on≠[] then[bf ton] else[])->x.length<=3:=λx hx=>by
  rcases mA.1 hx with hx|hx
  ·obtain⟨y,_,rfl⟩:=List.mem_map.1 hx
   exact dec _ (FH hs y)
  ·split at hx
   ·simp only[mS] at hx;rw[hx];exact dec _ ht
   ·simp at hx
 have oH:(aX.map (λx=>bf (kU s x))++(if on≠[] then[bf ton] else[])).length<=41:=by
  rw[lA,List.length_map]
  split<;>simp<;>omega
 unfold pd
 have s2:∀a b:aj,j3 [a,b]=2+a.length+b.length:=λa b=>by simp[j3];omega
 have s3:∀a b c:aj,j3 [a,b,c]=3+a.length+b.length+c.length:=λa b c=>by simp[j3];omega
 have s4:∀a b c d:aj,j3 [a,b,c,d]=4+a.length+b.length+c.length+d.length:=λa b c d=>by simp[j3];omega
 have oY:=dec m.types.length om
 have cW:=dec (m.types.length+1) om
 have cU:=dec (m.types.length+2) om
 have Iy:=dec (m.types.length+3) om
 refine fF.da (fF.dI (fF.da (fF.dI (fF.da (fF.dI (fF.da (fF.dI hm ?_) ?_) ?_) ?_) ?_) ?_) ?_) ?_
 ·exact Nat.le_trans hw om
 ·have h1:=Ar _ regs
  have h2:(aX.map (λx=>bf (kU s x))++(if on≠[] then[bf ton] else[])).length*(3+1)<=41*(3+1):=Nat.mul_le_mul oH (lR _)
  rw[lQ]
  have:j3 (bf m.types.length::(aX.map (λx=>bf (kU s x))++(if on≠[] then[bf ton] else[])))=1+(bf m.types.length).length+j3 (aX.map (λx=>bf (kU s x))++(if on≠[] then[bf ton] else[])):=by unfold j3;simp;omega
  rw[this]
  simp only[lC,lN];omega
 ·exact Nat.le_trans SC om
 ·rw[lQ,s2];simp only[lC,lN];omega
 ·rw[lQ,s2];have:=hw;unfold mh at this SC;simp only[lC,lN];unfold mh at hw;omega
 ·rw[lQ,s3];simp only[lC,lN];omega
 ·omega
 ·rw[lQ,s4];have:=hw;unfold mh at this;simp only[lC,lN];omega
structure Ext (m m':Mk) (k:Nat) (new:List Tk):Prop where
 blocks:m'.blocks=m.blocks
 bX:m'.bX=m.bX++new
 count:m'.count=m.count+new.length
 types:m.types.length<=m'.types.length∧m'.types.length<=m.types.length+k
 code:m'.code.length<=m.code.length+2*k
def Ext.refl (m:Mk):Ext m m 0 []:=⟨rfl,sm,rfl,om,om⟩
def Ext.trans {m m1 m2:Mk} {j k:Nat} {p q:List Tk} (h:Ext m m1 j p) (h2:Ext m1 m2 k q):Ext m m2 (j+k) (p++q):=
 ⟨h2.blocks.trans h.blocks,by rw[h2.bX,h.bX,List.append_assoc],by rw[h2.count,h.count,lA];omega,by have:=h.types;have:=h2.types;omega,by have:=h.code;have:=h2.code;omega⟩
def Ext.more {m m':Mk} {j k:Nat} {p:List Tk} (h:Ext m m' j p) (hk:j<=k):Ext m m' k p:=⟨h.blocks,h.bX,h.count,by have:=h.types;omega,by have:=h.code;omega⟩
def Mi {s:aj} (h:qu s=true):s.length<=4:=by
 unfold qu at h
 rw[oE] at h
 rcases h with h|h
 ·cases hn:numeral s with
  |none=>rw[hn] at h;cases h
  |some z=>exact QM hn
 ·unfold eQ at h
  simp only[aE,dE] at h;omega
def oP {e:Ex} (h:e.ok):e.az.length<=4:=by
 cases e with
 |«at» s=>exact Mi h
 |_=>simp[Ex.az]
def Au (a b:aj):j3 [a,b]=2+a.length+b.length:=by simp[j3];omega
def FJ {m:Mk} {s:dd} {a:aj} (hm:fF m) (hs:kx s) (ha:a.length<=4) (ht:m.types.length<1000):Ext m (cH m s a).1 1 []∧fF (cH m s a).1∧(cH m s a).2<1000:=by
 unfold cH
 split
 ·exact⟨(Ext.refl m).more om,hm,FH hs a⟩
 ·refine⟨⟨rfl,by simp[Mk.dI,Mk.da],rfl,by simp[Mk.dI,Mk.da],by simp[Mk.dI,Mk.da]⟩,fF.da (fF.dI hm sm) ?_,ht⟩
  have:=sR ht
  rw[lQ,Au];simp only[lC,lN];omega
/-! ### Tasks -/
structure oQ (t:Tk):Prop where
 ok:t.expr.ok
 type:∃T,bM t.expr (fl t.sc)=some T
 sc:kx t.sc
 bud:5*t.sc.length+2*t.expr.n<=240
 room:t.regs.length+t.loads+8*t.expr.n<=990
 regs:∀r,r∈t.regs->r.length<=100000
 loads:t.loads=0∨∃ts:List aA,t.regs.head?=some (bO [116] (ts.map aA.text))∧t.loads<=ts.length∧ba (bO [116] (ts.map aA.text))=some (wh [116] ts)
 self:t.self=[]∨∃a b,t.self=[a,b]∧a.length<=272∧b.length<=11200∧t.regs.length=3∧∀r,r∈t.regs->r.length<=11200
 bm:As t.bm
 on:t.on<1000
 aP:t.aP.length<=4
def Mj (s:dd) (k:Nat) (aX:List aj):fl (iR s k aX [])=aX.map λx=>(x,kG s x):=by
 unfold iR fl
 rw[List.nil_append,List.map_map]
 have:∀(l:List aj) (j:Nat),(l.zipIdx j).map ((λp:aj×Nat×Ty=>(p.1,p.2.2))∘λp=>(p.1,k+p.2,kG s p.1))=l.map λx=>(x,kG s x):=by
  intro l
  induction l with
  |nil=>intro j;rfl
  |cons x l ih=>intro j;simp only[List.zipIdx_cons,List.map_cons,Function.comp,ih]
 exact this aX 0
def Ml {s:dd}:∀{aX:List aj} {x:aj},x∈aX->look (aX.map λx=>(x,kG s x)) x=some (kG s x):=by
 intro aX x h
 have key:∀(l:List aj),(∃y,y∈l∧y=x)->(l.map λx=>(x,kG s x)).find? (λp=>decide (p.1=x))=some (x,kG s x):=by
  intro l
  induction l with
  |nil=>rintro⟨_,hy,_⟩;simp at hy
  |cons y l ih=>
   intro hh
   rw[List.map_cons,List.find?_cons]
   by_cases e:y=x
   ·rw[dT e,e]
   ·rw[dF e]
    obtain⟨z,hz,SD⟩:=hh
    rcases mC.1 hz with hz|hz
    ·exact absurd (hz▸SD) e
    ·exact ih ⟨z,hz,SD⟩
 unfold look
 rw[<-List.map_reverse,key aX.reverse ⟨x,List.mem_reverse.2 h,rfl⟩];rfl
def SE {s:dd} (h:kx s) (k:Nat) (aX:List aj) (hn:k+aX.length<1000):kx (iR s k aX []):=by
 refine⟨λx T hT=>?_,λp hp=>?_⟩
 ·rw[Mj] at hT
  have hx:x∈aX:=by
   unfold look at hT
   cases hf:(aX.map λx=>(x,kG s x)).reverse.find? (λp=>decide (p.1=x)) with
   |none=>rw[hf] at hT;cases hT
   |some q=>
    have h1:=List.find?_some hf
    have h2:=List.mem_reverse.1 (List.mem_of_find?_eq_some hf)
    obtain⟨y,hy,rfl⟩:=List.mem_map.1 h2
    rw[<-of_decide_eq_true h1];exact hy
  rw[Ml hx] at hT
  cases hT;exact Ix h x
 ·unfold iR at hp
  rw[List.nil_append] at hp
  obtain⟨q,hq,rfl⟩:=List.mem_map.1 hp
  have:=List.snd_lt_of_mem_zipIdx hq
  show k+q.2<1000;omega
def yb (s:dd) (k:Nat) (aX:List aj):(iR s k aX []).length=aX.length:=by simp[iR]
def Mm {s:dd} {x:aj} (h:(look (fl s) x).isSome=true):look (fl s) x=some (kG s x):=by
 unfold kG
 cases hl:look (fl s) x with
 |none=>rw[hl] at h;cases h
 |some T=>rfl
def Mn {e:Ex} {s:dd} {bd:List aj} (hb:5*s.length+2*e.n<=240) (hf:∀x,Fv x e->x∉bd->(look (fl s) x).isSome=true):(cG e bd []).length<=34∧(cG e bd []).length<=s.length:=by
 have h1:=tJ e bd []
 have h2:(cG e bd []).length<=(s.map Prod.fst).length:=LD (wm e bd [] List.nodup_nil) λx hx=>by
  rcases(qv x e bd []).1 hx with h|⟨hx,hb⟩
  ·simp at h
  ·have:=hf x hx hb
   unfold look at this
   cases hq:(fl s).reverse.find? λp=>decide (p.1=x) with
   |none=>rw[hq] at this;cases this
   |some q=>
    have h3:=List.find?_some hq
    have h4:=List.mem_reverse.1 (List.mem_of_find?_eq_some hq)
    unfold fl at h4
    obtain⟨p,hp,rfl⟩:=List.mem_map.1 h4
    rw[<-of_decide_eq_true h3]
    exact List.mem_map.2 ⟨p,hp,rfl⟩
 simp only[lN,Nat.zero_add,List.length_map] at h1 h2
 omega
def SF {m:Mk} {s:dd} {ton:Nat} {aX:List aj} {on aP kind:aj} {cP:List aj}:Ext m (pd m s ton aX on aP kind cP).m 4 []:=by
 have h:=Sz m s ton aX on aP kind cP
 exact⟨h.blocks,by rw[h.bX];simp,rfl,by rw[h.types];omega,by rw[h.code];omega⟩
def Av {m:Mk} (h:m.count<1000):m.aP.length<=4:=by
 unfold Mk.aP
 have:=sR h
 simp only[lC];omega
def SG {m:Mk} {s:dd} {f x:aj} {A B:Ty} {e:Ex} {T:Ty} (hs:kx s) (bD:(Ex.fn f x A B e).ok) (ht:bM (.fn f x A B e) (fl s)=some T) (hb:5*s.length+2*(Ex.fn f x A B e).n<=240) (hc:m.count<1000):oQ (Af m s f x A B e)∧(cG (.fn f x A B e) [] []).length<=34∧1+A.n+B.n<=16:=by
 obtain⟨hf,hx,eN,hA,hB,he⟩:=bD
 have sS:∀y,Fv y (.fn f x A B e)->y∉([]:List aj)->(look (fl s) y).isSome=true:=λy hy _=>pP ht hy
 obtain⟨gi,ja⟩:=Mn hb sS
 have xK:1+A.n+B.n<=16∧bM e (fl s++[(f,.op true A B),(x,A)])=some B:=by
  unfold bM at ht
  split at ht
  ·rename_i kT
   cases DM:bM e (fl s++[(f,.op true A B),(x,A)]) with
   |none=>rw[DM] at ht;cases ht
   |some C=>
    rw[DM,bS] at ht
    split at ht
    ·rename_i hq;rw[ab9.1 hq];exact⟨kT,rfl⟩
    ·cases ht
  ·cases ht
 have Aw:(Ty.op true A B).n<=16:=xK.1
 have wH:(bL (.op true A B)).length<=256:=pV Aw
 have hn:(Ex.fn f x A B e).n=3+A.n+B.n+e.n:=rfl
 rw[hn] at hb
 have hA1:=A.pos
 have Iz:=B.pos
 have IA:=SE hs 3 (cG (.fn f x A B e) [] []) om
 have FK:(oL m s f x A B e).w=bO [116] (mh s (cG (.fn f x A B e) [] []) []):=SA ..
 have IB:(oL m s f x A B e).w.length<=11200:=by rw[FK];exact FI hs om sm
 have fE:bM e (fl (Ae s f x A B e))=some B:=by
  rw[<-xK.2]
  unfold Ae
  rw[DB]
  refine qw e _ _ λy IC hy=>?_
  rw[mZ,z6]
  by_cases e1:x=y
  ·rw[iP e1,iP e1]
  ·rw[iN e1,iN e1]
   by_cases e2:f=y
   ·have h0:0<ir f e:=(wo hf e).2 (e2▸hy)
    rw[iP e2,iP h0,DB,mZ,iP e2]
   ·rw[iN e2]
    have SH:Fv y (.fn f x A B e):=⟨λe'=>e2 e'.symm,λe'=>e1 e'.symm,hy⟩
    have rZ:y∈cG (.fn f x A B e) [] []:=(qv y _ [] []).2 (.inr ⟨SH,sm⟩)
    have hl:look (fl (iR s 3 (cG (.fn f x A B e) [] []) [])) y=look (fl s) y:=by
     rw[Mj,Ml rZ,Mm (pP ht SH)]
    split
    ·rw[DB,mZ,iN e2,hl]
    ·exact hl
 have SI:kx (Ae s f x A B e):=by
  unfold Ae
  split
  ·exact(IA.snoc om Aw).snoc om hA
  ·exact IA.snoc om hA
 have o5:5*(Ae s f x A B e).length+2*e.n<=240:=by
  unfold Ae
  rw[lA]
  split
  ·rw[lA,yb];simp only[lC,lN];omega
  ·rw[yb];simp only[lC,lN];omega
 refine⟨{ok:=he,type:=⟨B,fE⟩,sc:=SI,bud:=o5,room:=?_,regs:=?_,loads:=?_,self:=?_,bm:=⟨B,hB,rfl⟩,on:=?_,aP:=Av hc},gi,xK.1⟩
 ·show 3+(cG (.fn f x A B e) [] []).length+8*e.n<=990
  omega
 ·intro r hr
  have rP:r∈[(oL m s f x A B e).w,bL A,dX (bL B)]:=hr
  simp only[mC,nN,oF] at rP
  rcases rP with rfl|rfl|rfl
  ·omega
  ·have:=pV hA;omega
  ·have:=tS hB;omega
 ·refine .inr ⟨tT s (cG (.fn f x A B e) [] []) none,?_,acL _ _ _,?_⟩
  ·show some (oL m s f x A B e).w=_
   rw[FK,<-DL];rfl
  ·rw[<-DL];exact Sy hs om sm
 ·show(if 0<ir f e then[bL (.op true A B),(oL m s f x A B e).w] else[])=[]∨_
  by_cases h0:0<ir f e
  ·refine .inr ⟨bL (.op true A B),(oL m s f x A B e).w,iP h0,om,IB,rfl,λr hr=>?_⟩
   have rP:r∈[(oL m s f x A B e).w,bL A,dX (bL B)]:=hr
   simp only[mC,nN,oF] at rP
   rcases rP with rfl|rfl|rfl
   ·exact IB
   ·have:=pV hA;omega
   ·have:=tS hB;omega
  ·exact .inl (iN h0)
 ·show(2:Nat)<1000;omega
def acO {m:Mk} {s:dd} {f x:aj} {A B:Ty} {e:Ex} {T:Ty} (hm:fF m) (hs:kx s) (bD:(Ex.fn f x A B e).ok) (ht:bM (.fn f x A B e) (fl s)=some T) (hb:5*s.length+2*(Ex.fn f x A B e).n<=240) (fE:m.types.length+4<1000) (hc:m.count<1000):
  Ext m (Ag m s f x A B e).1 4 [Af m s f x A B e]∧fF (Ag m s f x A B e).1∧(Ag m s f x A B e).2<1000∧oQ (Af m s f x A B e):=by
 obtain⟨hi,gi,Aw⟩:=SG (m:=m) hs bD ht hb hc
 obtain⟨_,_,_,hA,hB,_⟩:=bD
 have wH:(bL (.op true A B)).length<=256:=pV Aw
 have hp:Ext m.lO (oL m s f x A B e).m 4 []:=SF
 have FL:fF m.lO:=⟨hm.types,hm.code⟩
 have qZ:fF (oL m s f x A B e).m:=SB FL hs om om sm (by have:=Av hc;omega) om sm (λy hy=>by
  simp only[mC,nN,oF] at hy
  rcases hy with rfl|rfl
  ·have:=pV hA;omega
  ·exact tS hB) fE
 have h1:(oL m s f x A B e).m.bX=m.bX:=by rw[hp.bX];simp[Mk.lO]
 have h2:(oL m s f x A B e).m.count=m.count+1:=by rw[hp.count];simp[Mk.lO]
 refine⟨⟨hp.blocks,?_,h2,hp.types,hp.code⟩,⟨qZ.types,qZ.code⟩,?_,hi⟩
 ·show(oL m s f x A B e).m.bX++[Af m s f x A B e]=m.bX++[Af m s f x A B e]
  rw[h1]
 ·show m.types.length+3<1000;omega
def acP {m:Mk} {s:dd} {ton:Nat} {bm name:aj} {kind:Ty} {rest:Ex} {T:Ty} (hs:kx s) (kP:As bm) (wH:kind.n<=16) (bD:rest.ok) (ht:bM rest (fl s++[(name,kind)])=some T) (hb:5*(s.length+1)+2*rest.n<=240) (hc:m.count<1000):oQ (Ij m s ton bm name kind rest)∧(cG rest [name] []).length<=34:=by
 obtain⟨O,hO,rfl⟩:=kP
 have sS:∀y,Fv y rest->y∉[name]->(look (fl s) y).isSome=true:=λy hy hn=>by
  have:=pP ht hy
  rw[mZ,iN (λe=>hn (by rw[e];simp))] at this;exact this
 obtain⟨gi,ja⟩:=Mn om sS
 have IA:=SE hs 2 (cG rest [name] []) om
 have FK:(oM m s ton (dX (bL O)) name kind rest).w=bO [116] (mh s (cG rest [name] []) (dX (bL O))):=SA ..
 have IB:(oM m s ton (dX (bL O)) name kind rest).w.length<=11200:=by rw[FK];exact FI hs om (tS hO)
 have fE:bM rest (fl (iR s 2 (cG rest [name] []) []++[(name,1,kind)]))=some T:=by
  rw[<-ht,DB]
  refine qw rest _ _ λy IC hy=>?_
  rw[mZ,mZ]
  by_cases e1:name=y
  ·rw[iP e1,iP e1]
  ·rw[iN e1,iN e1]
   have gM:y∉[name]:=λh=>e1 (by simpa using h:y=name).symm
   have rZ:y∈cG rest [name] []:=(qv y _ [name] []).2 (.inr ⟨hy,gM⟩)
   rw[Mj,Ml rZ,Mm (sS y hy gM)]
 refine⟨{ok:=bD,type:=⟨T,fE⟩,sc:=IA.snoc om wH,bud:=?_,room:=?_,regs:=?_,loads:=?_,self:=.inl rfl,bm:=⟨O,hO,rfl⟩,on:=?_,aP:=Av hc},gi⟩
 ·show 5*(iR s 2 (cG rest [name] []) []++[(name,1,kind)]).length+2*rest.n<=240
  rw[lA,yb];simp only[lC,lN];omega
 ·show 2+((cG rest [name] []).length+1)+8*rest.n<=990
  omega
 ·intro r hr
  have rP:r∈[(oM m s ton (dX (bL O)) name kind rest).w,bL kind]:=hr
  simp only[mC,nN,oF] at rP
  rcases rP with rfl|rfl
  ·omega
  ·have:=pV wH;omega
 ·refine .inr ⟨tT s (cG rest [name] []) (some O),?_,?_,?_⟩
  ·show some (oM m s ton (dX (bL O)) name kind rest).w=_
   rw[FK,<-DL];rfl
  ·show(cG rest [name] []).length+1<=_
   unfold tT;rw[lA,List.length_map];simp
  ·rw[<-DL];exact Sy hs om (λT hT=>by cases hT;exact hO)
 ·show 2+(cG rest [name] []).length<1000;omega
def acQ {m:Mk} {s:dd} {ton:Nat} {bm name:aj} {kind:Ty} {rest:Ex} {T:Ty} (hm:fF m) (hs:kx s) (rl:ton<1000) (kP:As bm) (wH:kind.n<=16) (bD:rest.ok) (ht:bM rest (fl s++[(name,kind)])=some T) (hb:5*(s.length+1)+2*rest.n<=240) (fE:m.types.length+4<1000) (hc:m.count<1000):
  Ext m (tN m s ton bm name kind rest).1 4 [Ij m s ton bm name kind rest]∧fF (tN m s ton bm name kind rest).1∧(tN m s ton bm name kind rest).2.1<1000∧As (tN m s ton bm name kind rest).2.2∧oQ (Ij m s ton bm name kind rest):=by
 obtain⟨hi,gi⟩:=acP (m:=m) (ton:=ton) hs kP wH bD ht hb hc
 obtain⟨O,hO,rfl⟩:=kP
 have hp:Ext m.lO (oM m s ton (dX (bL O)) name kind rest).m 4 []:=SF
 have FL:fF m.lO:=⟨hm.types,hm.code⟩
 have qZ:fF (oM m s ton (dX (bL O)) name kind rest).m:=SB FL hs rl om (tS hO) (by have:=Av hc;omega) (tS wH) sm (λy hy=>by
  simp only[mS] at hy
  rw[hy];have:=pV wH;omega) fE
 have h1:(oM m s ton (dX (bL O)) name kind rest).m.bX=m.bX:=by rw[hp.bX];simp[Mk.lO]
 have h2:(oM m s ton (dX (bL O)) name kind rest).m.count=m.count+1:=by rw[hp.count];simp[Mk.lO]
 refine⟨⟨hp.blocks,?_,h2,hp.types,hp.code⟩,⟨qZ.types,qZ.code⟩,?_,⟨kind,wH,rfl⟩,hi⟩
 ·show(oM m s ton (dX (bL O)) name kind rest).m.bX++[_]=m.bX++[_]
  rw[h1]
 ·show m.types.length+3<1000;omega
def FM (m:Mk) (k:aj):Ext m (m.dI k) 1 []:=⟨rfl,by simp[Mk.dI],rfl,by simp[Mk.dI],by simp[Mk.dI]⟩
def tU (m:Mk) (h:aj) (ps:List aj):Ext m (m.da h ps) 1 []:=⟨rfl,by simp[Mk.da],rfl,by simp[Mk.da],by simp[Mk.da]⟩
def yc (m:Mk) (k:aj):(m.dI k).types.length=m.types.length+1:=by simp[Mk.dI]
def oR (m:Mk) (h:aj) (ps:List aj):(m.da h ps).types=m.types:=rfl
def mw {n:Nat} (h:n<1000):(bf n).length<=3:=sR h
def ob {m:Mk} (h:fF m) {hd:aj} {ps:List aj} (hh:hd.length<=5) (hp:ps.length<=4) (hs:∀p,p∈ps->p.length<=300):fF (m.da hd ps):=h.da (by
 have h1:=Ar (m:=300) ps hs
 have h2:ps.length*301<=4*301:=Nat.mul_le_mul hp (lR _)
 rw[lQ];omega)
def DN {s:aj} (h:eQ s=true):s.length<=4:=by
 unfold eQ at h
 simp only[aE,dE] at h
 exact h.1.1.2
def lf (ts:List Tk):Nat:=(ts.map λt=>t.expr.n+1).sum
def FN (a b:List Tk):lf (a++b)=lf a+lf b:=by unfold lf;rw[List.map_append,List.sum_append]
def Mo (t:Tk):lf [t]=t.expr.n+1:=by simp[lf]
def FO:lf []=0:=rfl
def SJ {m:Mk} {s:dd} {a b:aj} (hm:fF m) (hs:kx s) (ha:a.length<=4) (hb:b.length<=4) (ht:m.types.length+1<1000):
  (Ext m (cH m s a).1 1 []∧fF (cH m s a).1∧(cH m s a).2<1000)∧Ext m (cH (cH m s a).1 s b).1 2 []∧fF (cH (cH m s a).1 s b).1∧(cH (cH m s a).1 s b).2<1000:=by
 have h1:=FJ hm hs ha om
 have h2:=FJ (m:=(cH m s a).1) (a:=b) h1.2.1 hs hb (by have:=h1.1.types;omega)
 exact⟨h1,h1.1.trans h2.1,h2.2⟩
structure SK (m m':Mk) (r:Nat) (n:Nat) (new:List Tk):Prop where
 ext:Ext m m' 4 new
 sml:fF m'
 dI:r<1000
 inv:∀k,k∈new->oQ k
 num:lf new+1<=n
def Mp {m:Mk} {s:dd} {e:Ex} {T:Ty} (hm:fF m) (hs:kx s) (bD:e.ok) (ht:bM e (fl s)=some T) (hb:5*s.length+2*e.n<=240) (fE:m.types.length+8*e.n<=1000) (hc:m.count<1000):
  ∃new,SK m (ni m s T e).1 (ni m s T e).2 e.n new:=by
 have hT:=l7 hs.types ht
 have hk:=pV hT
 have two:∀(h a b:aj),a.length<=4->b.length<=4->h.length<=5->m.types.length+8<=1000->∀n,1<=n->
   SK m (((cH (cH m s a).1 s b).1.dI (bL T)).da h [bf (cH (cH m s a).1 s b).1.types.length,bf (cH m s a).2,bf (cH (cH m s a).1 s b).2]) (cH (cH m s a).1 s b).1.types.length n []:=by
  intro h a b ha hb hh h8 n hn
  obtain⟨⟨e1,_,r1⟩,e2,s2,r2⟩:=SJ hm hs ha hb om
  have Mq:=e2.types
  refine⟨(e2.trans ((FM _ _).trans (tU _ _ _))),ob (s2.dI om) hh sm ?_,om,sm,by simp[FO];omega⟩
  intro p hp
  simp only[mC,nN,oF] at hp
  rcases hp with rfl|rfl|rfl
  ·have:=mw (n:=(cH (cH m s a).1 s b).1.types.length) om;omega
  ·have:=mw r1;omega
  ·have:=mw r2;omega
 cases e with
 |«at» a=>
  obtain⟨h1,h2,h3⟩:=FJ hm hs (Mi bD) (by simp only[Ex.n] at fE;omega)
  exact⟨[],h1.more om,h2,h3,sm,by simp[FO,Ex.n]⟩
 |un h a=>
  simp only[Ex.n] at fE
  have yd:=a.pos
  obtain⟨h1,h2,h3⟩:=FJ hm hs (oP bD.2) om
  have Mq:=h1.types
  refine⟨[],((h1.trans ((FM _ _).trans (tU _ _ _)))).more om,ob (h2.dI om) sm sm ?_,?_,sm,by simp[FO,Ex.n]⟩
  ·intro p hp
   simp only[mC,nN,oF] at hp
   rcases hp with rfl|rfl|rfl
   ·have:=mw (n:=(cH m s a.az).1.types.length) om;omega
   ·have:=mw h3;omega
   ·split<;>simp
  ·show(cH m s a.az).1.types.length<1000;omega
 |bi h a b=>
  simp only[Ex.n] at fE
  have yd:=a.pos
  refine⟨[],two (qz h) a.az b.az (oP bD.2.1) (oP bD.2.2) ?_ om _ (Ex.pos _)⟩
  unfold qz;split
  ·simp
  ·split
   ·simp
   ·split<;>simp
 |ite a b c=>
  simp only[Ex.n] at fE
  exact⟨[],two (qz cE) a.az b.az (oP bD.1) (oP bD.2.1) de om _ (Ex.pos _)⟩
 |lt x a b=>
  simp only[Ex.n] at fE
  exact⟨[],two (qz gO) x a.az (DN bD.1) (oP bD.2.1) de om _ (Ex.pos _)⟩
 |fn f x A B e=>
  simp only[Ex.n] at fE
  obtain⟨h1,h2,h3,h4⟩:=acO hm hs bD ht hb om hc
  refine⟨_,h1,h2,h3,λk hk=>by simp only[mS] at hk;rw[hk];exact h4,?_⟩
  rw[Mo];simp only[Af,Ex.n];omega
def SL {m:Mk} (hm:fF m) {s:Nat} (hs:s<1000) (ht:m.types.length+3<1000):Ext m (sL m s) 6 []∧fF (sL m s)∧(sL m s).types.length=m.types.length+3:=by
 have h0:=mw hs
 have h1:=mw (n:=m.types.length) om
 have h2:=mw (n:=m.types.length+1) om
 have h3:=mw (n:=m.types.length+2) om
 unfold sL
 have z:([]:aj).length<=100000:=by simp
 refine⟨(FM _ _).trans ((tU _ _ _).trans ((FM _ _).trans ((tU _ _ _).trans ((FM _ _).trans (tU _ _ _))))),?_,by simp[Mk.dI,Mk.da]⟩
 refine ob (fF.dI (ob (fF.dI (ob (fF.dI hm z) sm sm ?_) z) sm sm ?_) z) sm sm ?_
 all_goals
  intro p hp
  simp only[mC,nN,oF] at hp
  rcases hp with rfl|rfl|rfl<;>first|omega|simp
def acR {m:Mk} (hm:fF m) {f x on:Nat} (hf:f<1000) (hx:x<1000) (ho:on<1000) (ht:m.types.length+3<1000):Ext m (xU m f x on) 10 []∧fF (xU m f x on):=by
 obtain⟨h1,h2,h3⟩:=SL hm hf ht
 have d1:=mw (n:=m.types.length+1) om
 have d2:=mw (n:=m.types.length+2) om
 have d3:=mw hx
 have d4:=mw ho
 unfold xU
 refine⟨h1.trans ((tU _ _ _).trans ((tU _ _ _).trans ((tU _ _ _).trans (tU _ _ _)))),?_⟩
 refine ob (ob (ob (ob h2 sm sm ?_) sm sm ?_) sm sm ?_) sm sm ?_
 all_goals
  intro p hp
  simp only[mC,nN,oF] at hp
  first
  |(rcases hp with rfl|rfl<;>first|omega|simp)
  |(rw[hp];omega)
def acS {m:Mk} (hm:fF m) {on r:Nat} (ho:on<1000) (hr:r<1000) (ht:m.types.length+3<1000):Ext m (xV m on r) 10 []∧fF (xV m on r):=by
 obtain⟨h1,h2,h3⟩:=SL hm ho ht
 have d1:=mw (n:=m.types.length+1) om
 have d2:=mw (n:=m.types.length+2) om
 have d3:=mw hr
 unfold xV
 refine⟨(h1.trans ((tU _ _ _).trans ((tU _ _ _).trans (tU _ _ _)))).more om,?_⟩
 refine ob (ob (ob h2 sm sm ?_) sm sm ?_) sm sm ?_
 all_goals
  intro p hp
  simp only[mC,nN,oF] at hp
  first
  |(rcases hp with rfl|rfl<;>first|omega|simp)
  |(rw[hp];omega)
structure oc (m:Mk) (s:dd) (on:Nat) (bm:aj) (e:Ex):Prop where
 sml:fF m
 sc:kx s
 ok:e.ok
 type:∃T,bM e (fl s)=some T
 bud:5*s.length+2*e.n<=240
 room:m.types.length+8*e.n<=1000
 on:on<1000
 bm:As bm
 cnt:m.count+e.n<=900
structure uZ (m:Mk) (s:dd) (on:Nat) (bm:aj) (e:Ex) (T:Ty):Prop where
 ok:(bW e).s.ok
 type:bM (bW e).s (fl s)=some T
 small:T.n<=16
 nZ:nZ s (bW e).s=T
 le:(bW e).s.n<=e.n
 last:(bW e).name=[]->(bW e).s=e
 rest:(bW e).name≠[]->eQ (bW e).name=true∧(bW e).rest.ok∧(∃U,bM (bW e).rest (fl s++[((bW e).name,T)])=some U)∧(bW e).s.n+(bW e).rest.n+2<=e.n
def oc.goal {m:Mk} {s:dd} {on:Nat} {bm:aj} {e:Ex} (h:oc m s on bm e):∃T,uZ m s on bm e T:=by
 obtain⟨T,hT⟩:=h.type
 have same:bW e=⟨[],e,e⟩->∃T,uZ m s on bm e T:=λhg=>by
  refine⟨T,?_,?_,l7 h.sc.types hT,?_,?_,?_,?_⟩
  ·rw[hg];exact h.ok
  ·rw[hg];exact hT
  ·rw[hg];unfold nZ;rw[hT];rfl
  ·rw[hg];exact lR _
  ·intro _;rw[hg]
  ·intro hn;rw[hg] at hn;exact absurd rfl hn
 have bD:=h.ok
 cases e with
 |lt x a b=>
  unfold bM at hT
  cases ha:bM a (fl s) with
  |none=>rw[ha] at hT;cases hT
  |some A=>
   rw[ha,bS] at hT
   refine⟨A,bD.2.1,ha,l7 h.sc.types ha,by show(bM a (fl s)).getD .i=A;rw[ha];rfl,by simp only[bW,Ex.n];omega,λhn=>absurd hn (uQ bD.1),λ_=>⟨bD.1,bD.2.2,⟨T,hT⟩,by simp only[bW,Ex.n];omega⟩⟩
 |«at» a=>exact same rfl
 |un a b=>exact same rfl
 |bi a b c=>exact same rfl
 |ite a b c=>exact same rfl
 |fn a b c d f=>exact same rfl
def fp (m:Mk) (s:dd) (on:Nat) (bm name:aj) (kind:Ty) (rest:Ex):Mk×Nat×aj:=if name≠[] then tN m s on bm name kind rest else(m,on,bm)
structure Cut (m m':Mk) (on':Nat) (onOf':aj) (n:Nat) (new:List Tk):Prop where
 ext:Ext m m' 4 new
 sml:fF m'
 on:on'<1000
 bm:As onOf'
 inv:∀k,k∈new->oQ k
 num:lf new<=n
def SM {m m0:Mk} {s:dd} {on:Nat} {bm:aj} {e:Ex} {T:Ty} (h:oc m0 s on bm e) (g:uZ m0 s on bm e T) (hm:fF m) (fE:m.types.length+4<1000) (hc:m.count<1000) (h3:2<=(bW e).s.n):
  ∃new,Cut m (fp m s on bm (bW e).name T (bW e).rest).1 (fp m s on bm (bW e).name T (bW e).rest).2.1 (fp m s on bm (bW e).name T (bW e).rest).2.2 (e.n-(bW e).s.n) new:=by
 by_cases hn:(bW e).name=[]
 ·unfold fp
  rw[iN (by simp[hn])]
  exact⟨[],(Ext.refl m).more om,hm,h.on,h.bm,sm,by simp[FO]⟩
 ·unfold fp
  rw[iP hn]
  obtain⟨gM,FP,⟨U,hU⟩,rm⟩:=g.rest hn
  have hb:=h.bud
  obtain⟨h1,h2,h3,h4,h5⟩:=acQ (name:=(bW e).name) hm h.sc h.on h.bm g.small FP hU om fE hc
  refine⟨_,h1,h2,h3,h4,λk hk=>by simp only[mS] at hk;rw[hk];exact h5,?_⟩
  rw[Mo]
  show(bW e).rest.n+1<=_
  omega
structure Fin (m m':Mk) (n:Nat) (new:List Tk):Prop where
 ext:Ext m m' 20 new
 sml:fF m'
 inv:∀k,k∈new->oQ k
 num:lf new+1<=n
structure On (m m':Mk) (s:dd) (on:Nat) (bm:aj) (n:Nat) (r:Ex) (new:List Tk):Prop where
 ext:Ext m m' 20 new
 inv:oc m' s on bm r
 bX:∀k,k∈new->oQ k
 num:lf new+r.n+1<=n
def acT {m:Mk} {s:dd} {on:Nat} {bm:aj} {e:Ex} {T:Ty} (h:oc m s on bm e) (g:uZ m s on bm e T) (hn:(bW e).name=[]):
  ∃new,Fin m (xV (ni m s T (bW e).s).1 on (ni m s T (bW e).s).2) e.n new:=by
 have hr:=h.room
 have hc:=h.cnt
 have hp:=(bW e).s.pos
 have hle:=g.le
 obtain⟨new,hP⟩:=Mp h.sml h.sc g.ok g.type (by have:=h.bud;omega) om om
 have ht:=hP.ext.types
 obtain⟨h1,h2⟩:=acS hP.sml h.on hP.dI om
 exact⟨new,by have:=hP.ext.trans h1;rw[List.append_nil] at this;exact this.more om,h2,hP.inv,by have:=hP.num;omega⟩
def SN {m:Mk} {s:dd} {on:Nat} {bm:aj} {e:Ex} {T:Ty} (h:oc m s on bm e) (g:uZ m s on bm e T) (hn:(bW e).name≠[]):
  ∃new,On m (ni m s T (bW e).s).1 (s++[((bW e).name,(ni m s T (bW e).s).2,T)]) on bm e.n (bW e).rest new:=by
 have hr:=h.room
 have hc:=h.cnt
 have hp:=(bW e).s.pos
 have hle:=g.le
 obtain⟨gM,FP,⟨U,hU⟩,rm⟩:=g.rest hn
 obtain⟨new,hP⟩:=Mp h.sml h.sc g.ok g.type (by have:=h.bud;omega) om om
 have ht:=hP.ext.types
 have hct:=hP.ext.count
 have ID:=hP.num
 have hlen:new.length<=lf new:=by
  unfold lf
  clear hP hct ID
  induction new with
  |nil=>simp
  |cons t l ih=>simp only[lC,List.map_cons,List.sum_cons];omega
 refine⟨new,hP.ext.more om,⟨hP.sml,h.sc.snoc hP.dI g.small,FP,⟨U,by rw[DB];exact hU⟩,?_,om,h.on,h.bm,om⟩,hP.inv,om⟩
 have:=h.bud
 simp only[lA,lC,lN];omega
def acV {m:Mk} {s:dd} {on:Nat} {bm:aj} {e f x:Ex} {T:Ty} (h:oc m s on bm e) (g:uZ m s on bm e T) (hs:(bW e).s= .bi kF f x):
  ∃new,Cut (cH (cH m s f.az).1 s x.az).1 (fp (cH (cH m s f.az).1 s x.az).1 s on bm (bW e).name T (bW e).rest).1 (fp (cH (cH m s f.az).1 s x.az).1 s on bm (bW e).name T (bW e).rest).2.1 (fp (cH (cH m s f.az).1 s x.az).1 s on bm (bW e).name T (bW e).rest).2.2 (e.n-3) new∧
   Fin m (xU (fp (cH (cH m s f.az).1 s x.az).1 s on bm (bW e).name T (bW e).rest).1 (cH m s f.az).2 (cH (cH m s f.az).1 s x.az).2 (fp (cH (cH m s f.az).1 s x.az).1 s on bm (bW e).name T (bW e).rest).2.1) e.n new:=by
 have bD:=g.ok
 rw[hs] at bD
 have hr:=h.room
 have hc:=h.cnt
 have hle:=g.le
 have Mr:3<=(bW e).s.n:=by rw[hs];simp only[Ex.n];have:=f.pos;have:=x.pos;omega
 obtain⟨⟨e1,s1,r1⟩,e2,s2,r2⟩:=SJ h.sml h.sc (oP bD.2.1) (oP bD.2.2) om
 have t2:=e2.types
 have c2:=e2.count
 simp only[lN] at c2
 obtain⟨new,hC⟩:=SM h g s2 om om om
 have t3:=hC.ext.types
 obtain⟨h1,h2⟩:=acR hC.sml r1 r2 hC.on om
 refine⟨new,⟨hC.ext,hC.sml,hC.on,hC.bm,hC.inv,by have:=hC.num;omega⟩,?_,h2,hC.inv,by have:=hC.num;omega⟩
 have:=(e2.trans hC.ext).trans h1
 rw[List.append_nil,List.nil_append] at this;exact this.more om
def Ms (m:Mk) (s:dd) (on:Nat) (bm:aj) (x:Ex):Tk:=⟨m.aP,m.types,0,[],s,x,on,bm,m.types.length⟩
def FQ (m:Mk) (s:dd) (on:Nat) (bm:aj) (r:Nat) (x:Ex):Mk:={(m.lO.da Fu [bf r,m.aP]) with bX:=m.bX++[Ms m s on bm x]}
def SO {m:Mk} {s:dd} {on:Nat} {bm:aj} {e c x y:Ex} {T:Ty} (h:oc m s on bm e) (g:uZ m s on bm e T) (hs:(bW e).s= .ite c x y):
  ∃new ye,Cut (cH m s c.az).1 (fp (cH m s c.az).1 s on bm (bW e).name T (bW e).rest).1 (fp (cH m s c.az).1 s on bm (bW e).name T (bW e).rest).2.1 (fp (cH m s c.az).1 s on bm (bW e).name T (bW e).rest).2.2 (e.n-(bW e).s.n) new∧
   On m (FQ (fp (cH m s c.az).1 s on bm (bW e).name T (bW e).rest).1 s (fp (cH m s c.az).1 s on bm (bW e).name T (bW e).rest).2.1 (fp (cH m s c.az).1 s on bm (bW e).name T (bW e).rest).2.2 (cH m s c.az).2 x) s
    (fp (cH m s c.az).1 s on bm (bW e).name T (bW e).rest).2.1 (fp (cH m s c.az).1 s on bm (bW e).name T (bW e).rest).2.2 e.n y ye:=by
 have bD:=g.ok
 have fE:=g.type
 rw[hs] at bD fE
 have hr:=h.room
 have hc:=h.cnt
 have hle:=g.le
 have hb:=h.bud
 have hcp:=c.pos
 have Mr:(bW e).s.n=1+c.n+x.n+y.n:=by rw[hs];rfl
 have hxp:=x.pos
 have hyp:=y.pos
 obtain⟨e1,s1,r1⟩:=FJ h.sml h.sc (oP bD.1) om
 have t1:=e1.types
 have c1:=e1.count
 simp only[lN] at c1
 obtain⟨new,hC⟩:=SM h g s1 om om om
 generalize fp (cH m s c.az).1 s on bm (bW e).name T (bW e).rest=Q at hC⊢
 obtain⟨m2,yf,SP⟩:=Q
 dsimp only at hC⊢
 have t3:=hC.ext.types
 have c3:=hC.ext.count
 have ID:=hC.num
 have hlen:new.length<=lf new:=by
  unfold lf
  clear hC c3 ID t3
  induction new with
  |nil=>simp
  |cons t l ih=>simp only[lC,List.map_cons,List.sum_cons];omega
 have hl:=Av (m:=m2) om
 have tys:(∃X,bM x (fl s)=some X)∧∃Y,bM y (fl s)=some Y:=by
  unfold bM at fE
  cases h1:bM c (fl s) with
  |none=>rw[h1] at fE;cases fE
  |some A=>
   cases h2:bM x (fl s) with
   |none=>rw[h1,h2] at fE;cases fE
   |some B=>
    cases h3:bM y (fl s) with
    |none=>rw[h1,h2,h3] at fE;cases fE
    |some D=>exact⟨⟨B,rfl⟩,⟨D,rfl⟩⟩
 have iH:oQ (Ms m2 s yf SP x):=
  ⟨bD.2.1,tys.1,h.sc,by show 5*s.length+2*x.n<=240;omega,by show m2.types.length+0+8*x.n<=990;omega,hC.sml.types,.inl rfl,.inl rfl,hC.bm,hC.on,hl⟩
 refine⟨new,new++[Ms m2 s yf SP x],hC,⟨?_,⟨?_,h.sc,bD.2.2,tys.2,om,?_,hC.on,hC.bm,?_⟩,?_,?_⟩⟩
 ·have he:=e1.trans hC.ext
  rw[List.nil_append] at he
  refine⟨he.blocks,?_,?_,?_,?_⟩
  ·show m2.bX++[_]=_
   rw[he.bX,List.append_assoc]
  ·show m2.count+1=_
   rw[he.count,lA];simp;omega
  ·have:=he.types;exact⟨this.1,by show m2.types.length<=_;omega⟩
  ·have:=he.code
   show(m2.code++[_]).length<=_
   simp only[lA,lC,lN];omega
 ·have:=ob (m:=m2.lO) (hd:=Fu) (ps:=[bf (cH m s c.az).2,m2.aP]) ⟨hC.sml.types,hC.sml.code⟩ de sm (λp hp=>by
   simp only[mC,nN,oF] at hp
   rcases hp with rfl|rfl
   ·have:=mw r1;omega
   ·omega)
  exact⟨this.types,this.code⟩
 ·show m2.types.length+_<=_;omega
 ·show m2.count+1+_<=_;omega
 ·intro k hk
  rcases mA.1 hk with hk|hk
  ·exact hC.inv k hk
  ·simp only[mS] at hk;rw[hk];exact iH
 ·rw[FN,Mo]
  show _+(x.n+1)+_+1<=_
  omega
def pj (m:Mk) (ts:List aA):Nat->Mk
 |0=>m
 |k+1=>((pj m ts k).dI (nth ts k).text).da sK [bf (pj m ts k).types.length,[48],bf k]
def Ax (m:Mk) (aP:aj) (regs:List aj) (a b:aj):Mk:=
 let code:=bO [99] regs
 let r:=m.types.length
 (((((m.dI code).da sI [bf r,aP]).dI (bO [116] [code,b])).da l8 [bf (r+1),bf r,[48]]).dI a).da sJ [bf (r+2),bf (r+1),a,b]
def od (m:Mk) (regs:List aj):Mk:={m with code:=[],types:=regs}
def IE (m:Mk) (t:Tk):Mk:=match t.self with
 |[a,b]=>Ax m t.aP t.regs a b
 |_=>m
def nq (t:Tk):List aA:=match ba (t.regs.getD 0 [105]) with
 |some x=>x.au.drop 1
 |none=>[]
def qB (m:Mk) (t:Tk):Mk:=IE (pj (od m t.regs) (nq t) t.loads) t
def Mt {t:Tk} {ts:List aA} (h:t.regs.head?=some (bO [116] (ts.map aA.text))) (hp:ba (bO [116] (ts.map aA.text))=some (wh [116] ts)):nq t=ts∧ba (t.regs.getD 0 [105])=some (wh [116] ts):=by
 have e:t.regs.getD 0 [105]=bO [116] (ts.map aA.text):=by
  cases hr:t.regs with
  |nil=>rw[hr] at h;cases h
  |cons a l=>rw[hr] at h;simpa using h
 unfold nq
 rw[e,hp]
 exact⟨rfl,rfl⟩
structure BY (m m':Mk) (regs:List aj) (k:Nat):Prop where
 blocks:m'.blocks=m.blocks
 bX:m'.bX=m.bX
 count:m'.count=m.count
 types:m'.types.length=regs.length+k
 code:m'.code.length<=k
 sml:fF m'
def Mu {m:Mk} {regs:List aj} (h:∀r,r∈regs->r.length<=100000):BY m (od m regs) regs 0:=⟨rfl,rfl,rfl,rfl,by simp[od],⟨h,by simp[od]⟩⟩
def Mv {m:Mk} {regs:List aj} {ts:List aA} (h:∀r,r∈regs->r.length<=100000) (mY:∀t,t∈ts->t.text.length<=100000):∀k,regs.length+k<1000->k<=ts.length->BY m (pj (od m regs) ts k) regs k
 |0,_,_=>Mu h
 |k+1,hk,hl=>by
  have ih:=Mv (m:=m) h mY k om om
  have d1:=mw (n:=(pj (od m regs) ts k).types.length) (by rw[ih.types];omega)
  have d2:=mw (n:=k) om
  refine⟨ih.blocks,ih.bX,ih.count,by show(((pj (od m regs) ts k).types++[_])).length=_;rw[lA,ih.types];rfl,?_,?_⟩
  ·show((pj (od m regs) ts k).code++[_]).length<=_
   have:=ih.code
   rw[lA];simp;omega
  ·refine ob (ih.sml.dI ?_) sm sm ?_
   ·have:=mY (nth ts k) (by unfold nth;rw[gG,gE om];exact List.getElem_mem _)
    omega
   ·intro p hp
    simp only[mC,nN,oF] at hp
    rcases hp with rfl|rfl|rfl
    ·omega
    ·simp
    ·omega
def SQ {regs:List aj} (h3:regs.length=3) (h:∀r,r∈regs->r.length<=11200):(bO [99] regs).length<=33610:=by
 have h1:=Ar (m:=11200) regs h
 rw[h3] at h1
 rw[lQ]
 simp only[lC,lN];omega
def acW (a b c d:aj):j3 [a,b,c,d]=4+a.length+b.length+c.length+d.length:=by simp[j3];omega
def acX {m:Mk} (hm:fF m) {aP:aj} (hl:aP.length<=4) {regs:List aj} (h3:regs.length=3) (h:∀r,r∈regs->r.length<=11200) {a b:aj} (ha:a.length<=272) (hb:b.length<=11200) (ht:m.types.length+3<1000):fF (Ax m aP regs a b):=by
 have hc:=SQ h3 h
 have d1:=mw (n:=m.types.length) om
 have d2:=mw (n:=m.types.length+1) om
 have d3:=mw (n:=m.types.length+2) om
 have hw:(bO [116] [bO [99] regs,b]).length<=45000:=by rw[lQ,Au];simp only[lC,lN];omega
 unfold Ax
 refine fF.da (fF.dI (ob (fF.dI (ob (fF.dI hm ?_) sm sm ?_) ?_) sm sm ?_) ?_) ?_
 ·omega
 ·intro p hp
  simp only[mC,nN,oF] at hp
  rcases hp with rfl|rfl<;>omega
 ·omega
 ·intro p hp
  simp only[mC,nN,oF] at hp
  rcases hp with rfl|rfl|rfl
  ·omega
  ·omega
  ·simp
 ·omega
 ·rw[lQ,acW];simp only[lC,lN];omega
def acY {m m':Mk} {regs:List aj} {k:Nat} (h:BY m m' regs k) (aP a b:aj) (hs:fF (Ax m' aP regs a b)):BY m (Ax m' aP regs a b) regs (k+3):=
 ⟨h.blocks,h.bX,h.count,by have:=h.types;simp[Ax,Mk.dI,Mk.da];omega,by have:=h.code;simp[Ax,Mk.dI,Mk.da];omega,hs⟩
def SR {s:aj} {ps:List aj} (h:s∈ps):s.length<=j3 ps:=by
 unfold j3
 have:∀{xs:List aj},s∈xs->s.length<=(xs.map List.length).sum:=by
  intro xs
  induction xs with
  |nil=>intro h;cases h
  |cons x xs ih=>
   intro h
   rw[List.map_cons,List.sum_cons]
   rcases mC.1 h with rfl|h
   ·omega
   ·have:=ih h;omega
 have:=this h;omega
def Mw {m:Mk} {t:Tk} (h:oQ t):BY m (qB m t) t.regs (t.loads+(if t.self=[] then 0 else 3)):=by
 have hr:=h.room
 have hp:=t.expr.pos
 have h1:BY m (pj (od m t.regs) (nq t) t.loads) t.regs t.loads:=by
  rcases h.loads with h0|⟨ts,hh,hl,FT⟩
  ·rw[h0];exact Mu h.regs
  ·obtain⟨e1,_⟩:=Mt hh FT
   rw[e1]
   refine Mv h.regs (λx hx=>?_) _ om hl
   have h2:=h.regs _ (List.mem_of_mem_head? hh)
   rw[lQ] at h2
   have:=SR (List.mem_map_of_mem (f:=aA.text) hx)
   omega
 unfold qB IE
 rcases h.self with h0|⟨a,b,hs,ha,hb,h3,hl⟩
 ·rw[h0,iP rfl];exact h1
 ·rw[hs,iN sm]
  refine acY h1 _ _ _ (acX h1.sml h.aP h3 hl ha hb ?_)
  rw[h1.types];omega
def SS {m:Mk} {t:Tk} (h:oQ t) (hc:m.count+t.expr.n<=900):oc (qB m t) t.sc t.on t.bm t.expr:=by
 have hb:=Mw (m:=m) h
 have hr:=h.room
 refine⟨hb.sml,h.sc,h.ok,h.type,h.bud,?_,h.on,h.bm,by rw[hb.count];exact hc⟩
 rw[hb.types]
 split<;>omega
/-! ### A block's body -/
def mx:Nat->At->Ex->Mk
 |0,a,_=>a.m
 |k+1,a,e=>match kH a e with
  | .inl m=>m
  | .inr p=>mx k p.1 p.2
def IF (m:Mk) (s:dd) (on:Nat) (bm:aj) (g:Goal):Ik ⟨m,s,on,bm⟩ g=⟨(fp m s on bm g.name (nZ s g.s) g.rest).1,s,(fp m s on bm g.name (nZ s g.s) g.rest).2.1,(fp m s on bm g.name (nZ s g.s) g.rest).2.2⟩:=by
 unfold Ik fp
 split<;>rfl
def SU {m:Mk} {s:dd} {on:Nat} {bm:aj} {e:Ex} (h:oc m s on bm e):match kH ⟨m,s,on,bm⟩ e with
  | .inl m'=>∃new,Fin m m' e.n new
  | .inr p=>∃new,On m p.1.m p.1.s p.1.on p.1.bm e.n p.2 new:=by
 obtain⟨T,g⟩:=h.goal
 have hY:=g.nZ
 have simple:kH ⟨m,s,on,bm⟩ e=(if(bW e).name=[] then .inl (xV (ni m s (nZ s (bW e).s) (bW e).s).1 on (ni m s (nZ s (bW e).s) (bW e).s).2) else .inr (⟨(ni m s (nZ s (bW e).s) (bW e).s).1,s++[((bW e).name,(ni m s (nZ s (bW e).s) (bW e).s).2,nZ s (bW e).s)],on,bm⟩,(bW e).rest))->
   match kH ⟨m,s,on,bm⟩ e with
   | .inl m'=>∃new,Fin m m' e.n new
   | .inr p=>∃new,On m p.1.m p.1.s p.1.on p.1.bm e.n p.2 new:=λhs=>by
  rw[hs,hY]
  by_cases hn:(bW e).name=[]
  ·rw[iP hn];exact acT h g hn
  ·rw[iN hn];exact SN h g hn
 cases hg:(bW e).s with
 |«at» a=>exact simple (by unfold kH;simp only[hg])
 |un a b=>exact simple (by unfold kH;simp only[hg])
 |lt a b c=>exact simple (by unfold kH;simp only[hg])
 |fn a b c d f=>exact simple (by unfold kH;simp only[hg])
 |bi hd f x=>
  by_cases hc:hd=kF
  ·subst hc
   have hs:kH ⟨m,s,on,bm⟩ e= .inl (xU (fp (cH (cH m s f.az).1 s x.az).1 s on bm (bW e).name T (bW e).rest).1 (cH m s f.az).2 (cH (cH m s f.az).1 s x.az).2 (fp (cH (cH m s f.az).1 s x.az).1 s on bm (bW e).name T (bW e).rest).2.1):=by
    unfold kH
    simp only[hg,if_true,IF]
    rw[<-hg,hY]
   rw[hs]
   obtain⟨new,_,hF⟩:=acV h g hg
   exact⟨new,hF⟩
  ·exact simple (by unfold kH;simp only[hg,iN hc])
 |ite c x y=>
  have hs:kH ⟨m,s,on,bm⟩ e= .inr (⟨FQ (fp (cH m s c.az).1 s on bm (bW e).name T (bW e).rest).1 s (fp (cH m s c.az).1 s on bm (bW e).name T (bW e).rest).2.1 (fp (cH m s c.az).1 s on bm (bW e).name T (bW e).rest).2.2 (cH m s c.az).2 x,s,
    (fp (cH m s c.az).1 s on bm (bW e).name T (bW e).rest).2.1,(fp (cH m s c.az).1 s on bm (bW e).name T (bW e).rest).2.2⟩,y):=by
   unfold kH
   simp only[hg,IF]
   rw[<-hg,hY];rfl
  rw[hs]
  obtain⟨_,new,_,hO⟩:=SO h g hg
  exact⟨new,hO⟩
structure wI (m m':Mk) (s:dd) (on:Nat) (bm:aj) (n k:Nat) (r:Ex) (new:List Tk):Prop where
 ext:Ext m m' k new
 inv:oc m' s on bm r
 bX:∀k,k∈new->oQ k
 num:lf new+r.n<=n
 steps:k+20*r.n<=20*n
def wI.start {m:Mk} {s:dd} {on:Nat} {bm:aj} {e:Ex} (h:oc m s on bm e):wI m m s on bm e.n 0 e []:=⟨Ext.refl m,h,sm,by simp[FO],om⟩
def wI.step {m m1 m2:Mk} {s s2:dd} {on yf:Nat} {bm DO:aj} {n k:Nat} {r r2:Ex} {new ye:List Tk} (h:wI m m1 s on bm n k r new) (h2:On m1 m2 s2 yf DO r.n r2 ye):wI m m2 s2 yf DO n (k+20) r2 (new++ye):=
 ⟨h.ext.trans h2.ext,h2.inv,λt ht=>by rcases mA.1 ht with ht|ht;exact h.bX t ht;exact h2.bX t ht,by rw[FN];have:=h.num;have:=h2.num;omega,by have:=h.steps;have:=h2.num;omega⟩
structure Mx (m m':Mk) (n:Nat) (new:List Tk):Prop where
 ext:Ext m m' (20*n) new
 sml:fF m'
 inv:∀k,k∈new->oQ k
 num:lf new+1<=n
def wI.fin {m m1 m2:Mk} {s:dd} {on:Nat} {bm:aj} {n k:Nat} {r:Ex} {new ye:List Tk} (h:wI m m1 s on bm n k r new) (h2:Fin m1 m2 r.n ye):Mx m m2 n (new++ye):=by
 have h3:=h.steps
 have h4:=r.pos
 refine⟨(h.ext.trans h2.ext).more om,h2.sml,λt ht=>?_,by rw[FN];have:=h.num;have:=h2.num;omega⟩
 rcases mA.1 ht with ht|ht
 ·exact h.bX t ht
 ·exact h2.inv t ht
def IG:∀(k:Nat) {m:Mk} {s:dd} {on:Nat} {bm:aj} {e:Ex},oc m s on bm e->e.n<=k->∃new,Mx m (mx k ⟨m,s,on,bm⟩ e) e.n new
 |0,_,_,_,_,e,_,hk=>absurd hk (by have:=e.pos;omega)
 |k+1,m,s,on,bm,e,h,hk=>by
  have h1:=SU h
  unfold mx
  cases hs:kH ⟨m,s,on,bm⟩ e with
  |inl m'=>
   rw[hs] at h1
   obtain⟨new,h1⟩:=h1
   exact⟨_,(wI.start h).fin h1⟩
  |inr p=>
   rw[hs] at h1
   obtain⟨⟨m1,s1,va,acZ⟩,e1⟩:=p
   obtain⟨new,h1⟩:=h1
   dsimp only at h1⊢
   obtain⟨ye,h2⟩:=IG k h1.inv (by have:=h1.num;omega)
   have h3:=h1.num
   refine⟨new++ye,(h1.ext.trans h2.ext).more om,h2.sml,λt ht=>?_,by rw[FN];have:=h2.num;omega⟩
   rcases mA.1 ht with ht|ht
   ·exact h1.bX t ht
   ·exact h2.inv t ht
def ac0:∀(k:Nat) {m:Mk} {s:dd} {on:Nat} {bm:aj} {e:Ex},oc m s on bm e->e.n<=k->mx k ⟨m,s,on,bm⟩ e=mx e.n ⟨m,s,on,bm⟩ e:=by
 have key:∀(k j:Nat) {m:Mk} {s:dd} {on:Nat} {bm:aj} {e:Ex},oc m s on bm e->e.n<=k->e.n<=j->mx k ⟨m,s,on,bm⟩ e=mx j ⟨m,s,on,bm⟩ e:=by
  intro k
  induction k with
  |zero=>intro j _ _ _ _ e _ hk;have:=e.pos;omega
  |succ k ih=>
   intro j m s on bm e h hk hj
   cases j with
   |zero=>have:=e.pos;omega
   |succ j=>
    have h1:=SU h
    unfold mx
    cases hs:kH ⟨m,s,on,bm⟩ e with
    |inl m'=>rfl
    |inr p=>
     rw[hs] at h1
     obtain⟨⟨m1,s1,va,acZ⟩,e1⟩:=p
     obtain⟨new,h1⟩:=h1
     dsimp only at h1⊢
     have h3:=h1.num
     exact ih j h1.inv om om
 exact λk m s on bm e h hk=>key k e.n h hk (lR _)
/-! ### A program -/
def BZ (m:Mk) (aP:aj) (regs:List aj):Mk:={m with blocks:=m.blocks++[⟨aP,regs,m.code⟩]}
abbrev sT:aj:=[40,116,41]
def sU (T:Ty):Mk:=
 let on:=dX (bL T)
 let code:=bO [99] [sT,bL T]
 ((((⟨[],[],0,false,[],[sT,code,bO [116] [code,sT],on]⟩:Mk).da l8 [[48]]).da sI [[49],Ad]).da l8 [[50],[49],[48]]).da sJ [[51],[50],on,sT]
def FU (e:Ex) (T:Ty):Tk:=⟨BQ,[],0,[],[],e,3,dX (bL T),0⟩
def r5 (e:Ex) (T:Ty):Mk:=mx e.n ⟨sU T,[],3,dX (bL T)⟩ e
def B0 (e:Ex) (T:Ty):Mk:=BZ {(BZ (r5 e T) BQ []) with code:=[[40,104,97,108,116,32,49,41]]} Ad [sT,bL T]
def DP (m:Mk) (t:Tk):Mk:=BZ (mx t.expr.n ⟨qB m t,t.sc,t.on,t.bm⟩ t.expr) t.aP t.regs
def iv (ts:List Tk) (i:Nat):Tk:=ts.getD i ⟨[],[],0,[],[],.at [],0,[],0⟩
def yg:Nat->Mk->Nat->Mk
 |0,m,_=>m
 |k+1,m,i=>if i<m.bX.length then yg k (DP m (iv m.bX i)) (i+1) else m
def ofM (e:Ex) (T:Ty):Mk:=yg 1000 (B0 e T) 0
structure r6 (m:Mk) (i:Nat):Prop where
 le:i<=m.bX.length
 count:m.count=m.bX.length
 num:i+lf (m.bX.drop i)<=120
 inv:∀t,t∈m.bX.drop i->oQ t
 xN:∀b,b∈m.blocks->b.small∧b.aP.length<=10
 bnum:m.blocks.length=i+2
def SV {e:Ex} {T:Ty} (bD:e.ok) (ht:bM e []=some T) (hn:e.n<=120):oc (sU T) [] 3 (dX (bL T)) e:=by
 have hT:=l7 (Γ:=[]) (λs T h=>by simp[look] at h) ht
 have h1:=pV hT
 have h2:=tS hT
 have hc:(bO [99] [sT,bL T]).length<=300:=by rw[lQ,Au];simp only[lC,lN];omega
 have ho:As (dX (bL T)):=⟨T,hT,rfl⟩
 refine⟨?_,⟨λs T h=>by simp[fl,look] at h,sm⟩,bD,⟨T,ht⟩,by simp;omega,by simp[sU,Mk.da];omega,om,ho,by simp[sU,Mk.da];omega⟩
 unfold sU
 refine ob (ob (ob (ob ⟨?_,sm⟩ sm sm ?_) sm sm ?_) sm sm ?_) sm sm ?_
 ·intro s hs
  simp only[mC,nN,oF] at hs
  rcases hs with rfl|rfl|rfl|rfl
  ·simp
  ·omega
  ·rw[lQ,Au];simp only[lC,lN];omega
  ·omega
 all_goals
  intro p hp
  simp only[mC,nN,oF] at hp
  first
  |(rcases hp with rfl|rfl|rfl|rfl<;>first|omega|simp)
  |(rcases hp with rfl|rfl|rfl<;>first|omega|simp)
  |(rcases hp with rfl|rfl<;>first|omega|simp)
  |(rw[hp];simp)
def SW {e:Ex} {T:Ty} (bD:e.ok) (ht:bM e []=some T) (hn:e.n<=120):∃new,Mx (sU T) (r5 e T) e.n new:=IG _ (SV bD ht hn) (lR _)
def SX (ts:List Tk):ts.length<=lf ts:=by
 unfold lf
 induction ts with
 |nil=>simp
 |cons t l ih=>simp only[lC,List.map_cons,List.sum_cons];omega
def ac1 (m:Mk) (l:aj) (r:List aj):(BZ m l r).blocks=m.blocks++[⟨l,r,m.code⟩]:=rfl
def My {e:Ex} {T:Ty} (bD:e.ok) (ht:bM e []=some T) (hn:e.n<=120):r6 (B0 e T) 0:=by
 obtain⟨new,h⟩:=SW bD ht hn
 have h1:=h.ext.bX
 have h2:=h.ext.count
 have h3:=h.num
 have h4:=h.ext.code
 have h5:=h.ext.blocks
 have hb:(B0 e T).blocks=[⟨BQ,[],(r5 e T).code⟩,⟨Ad,[sT,bL T],[[40,104,97,108,116,32,49,41]]⟩]:=by
  unfold B0
  rw[ac1]
  show(r5 e T).blocks++_++_=_
  rw[h5];rfl
 have oA:(B0 e T).bX=new:=by
  show(r5 e T).bX=new
  rw[h1];rfl
 refine⟨Nat.zero_le _,?_,?_,?_,?_,by rw[hb];rfl⟩
 ·rw[oA]
  show(r5 e T).count=_
  rw[h2];simp[sU,Mk.da]
 ·rw[oA,List.drop_zero];omega
 ·rw[oA,List.drop_zero];exact h.inv
 ·intro b gz
  rw[hb] at gz
  have h6:(sU T).code.length=4:=rfl
  simp only[mC,nN,oF] at gz
  rcases gz with rfl|rfl
  ·exact⟨⟨by simp,sm,by show(r5 e T).code.length<_;omega⟩,sm⟩
  ·exact⟨⟨by simp,sm,sm⟩,sm⟩
def IH {ts:List Tk} {i:Nat} (hi:i<ts.length):ts.drop i=iv ts i::ts.drop (i+1):=by
 rw[List.drop_eq_getElem_cons hi]
 simp[iv,gE hi]
def r6.task {m:Mk} {i:Nat} (h:r6 m i) (hi:i<m.bX.length):oQ (iv m.bX i)∧m.count+(iv m.bX i).expr.n<=900∧m.bX.length<=120:=by
 have h1:=h.num
 have hl:=SX (m.bX.drop i)
 rw[List.length_drop] at hl
 have h2:lf (m.bX.drop i)=(iv m.bX i).expr.n+1+lf (m.bX.drop (i+1)):=by rw[IH hi];simp[lf]
 have h3:=h.count
 exact⟨h.inv _ (by rw[IH hi];simp),om,om⟩
def r6.step {m:Mk} {i:Nat} (h:r6 m i) (hi:i<m.bX.length):r6 (DP m (iv m.bX i)) (i+1):=by
 obtain⟨hT,hc,_⟩:=h.task hi
 have h1:=h.num
 have h2:lf (m.bX.drop i)=(iv m.bX i).expr.n+1+lf (m.bX.drop (i+1)):=by rw[IH hi];simp[lf]
 have hb:=Mw (m:=m) hT
 obtain⟨new,hF⟩:=IG _ (SS hT hc) (lR _)
 have e1:=hF.ext.bX
 have e2:=hF.ext.count
 have e3:=hF.ext.code
 have e4:=hF.ext.blocks
 have e5:=hF.num
 have hbc:=hb.code
 rw[hb.bX] at e1
 rw[hb.count] at e2
 rw[hb.blocks] at e4
 have hr:=hT.room
 have hd:(m.bX++new).drop (i+1)=m.bX.drop (i+1)++new:=by rw[List.drop_append_of_le_length hi]
 have ht:(DP m (iv m.bX i)).bX=m.bX++new:=e1
 refine⟨by rw[ht,lA];omega,?_,?_,?_,?_,?_⟩
 ·rw[ht,lA,<-h.count];exact e2
 ·rw[ht,hd,FN];omega
 ·intro t DQ
  rw[ht,hd] at DQ
  rcases mA.1 DQ with DQ|DQ
  ·exact h.inv t (by rw[IH hi];simp[DQ])
  ·exact hF.inv t DQ
 ·intro b gz
  have DR:b∈m.blocks++[⟨(iv m.bX i).aP,(iv m.bX i).regs,(mx (iv m.bX i).expr.n ⟨qB m (iv m.bX i),(iv m.bX i).sc,(iv m.bX i).on,(iv m.bX i).bm⟩ (iv m.bX i).expr).code⟩]:=by rw[<-e4];exact gz
  rcases mA.1 DR with DR|DR
  ·exact h.xN b DR
  ·simp only[mS] at DR
   rw[DR]
   have hl:=hT.aP
   refine⟨⟨by show(iv m.bX i).aP.length<_;omega,by show(iv m.bX i).regs.length<_;omega,?_⟩,by show(iv m.bX i).aP.length<=_;omega⟩
   refine Nat.lt_of_le_of_lt e3 ?_
   have:(if(iv m.bX i).self=[] then 0 else 3)<=3:=by split<;>omega
   omega
 ·show((mx _ _ _).blocks++[_]).length=_
  rw[e4,lA,h.bnum];rfl
def SY {m:Mk} {i:Nat} (h:¬i<m.bX.length):∀k,yg k m i=m
 |0=>rfl
 |k+1=>by unfold yg;rw[iN h]
def SZ {m:Mk} {i:Nat} (h:i<m.bX.length) (k:Nat):yg (k+1) m i=yg k (DP m (iv m.bX i)) (i+1):=by
 rw[yg,iP h]
def r6.small {m:Mk} {i:Nat} (h:r6 m i):BE m.blocks:=by
 have h1:=h.num
 refine⟨by rw[h.bnum];omega,λj hj=>(h.xN _ ?_).1⟩
 unfold bB
 rw[gG,gE hj];exact List.getElem_mem hj
def r6.labels {m:Mk} {i:Nat} (h:r6 m i):∀b,b∈m.blocks->b.aP.length<=10:=λb hb=>(h.xN b hb).2
def Ay (h:aj):(iB h=true∧gS h=false∧h≠cE∧h≠gO∧h≠iq∧eZ h=(1,3))∨(iB h=false∧gS h=false∧h=cE∧eZ h=(1,4))∨
  (iB h=false∧gS h=false∧h=gO∧eZ h=(2,4))∨(iB h=false∧gS h=false∧h=iq∧eZ h=(5,6))∨(iB h=false∧gS h=true∧h≠cE∧h≠gO∧h≠iq∧eZ h=(1,2))∨
  (iB h=false∧gS h=false∧h≠cE∧h≠gO∧h≠iq∧eZ h=(0,0)):=by
 by_cases hb:iB h=true
 ·left
  have hk:eZ h=(1,3):=by unfold eZ;rw[iP hb]
  have aZ:=hb
  simp only[iB,oE,dE] at aZ
  rcases aZ with(((e|e)|e)|e)|e<;>subst e<;>refine⟨rfl,rfl,by decide,by decide,by decide,hk⟩
 ·have gX:iB h=false:=by simpa using hb
  right
  by_cases h1:h=cE
  ·left;exact⟨gX,by rw[h1];rfl,h1,by rw[h1];rfl⟩
  ·right
   by_cases h2:h=gO
   ·left;exact⟨gX,by rw[h2];rfl,h2,by rw[h2];rfl⟩
   ·right
    by_cases h3:h=iq
    ·left;exact⟨gX,by rw[h3];rfl,h3,by rw[h3];rfl⟩
    ·right
     by_cases h4:gS h=true
     ·left;exact⟨gX,h4,h1,h2,h3,by unfold eZ;rw[iN hb,iN h1,iN h2,iN h3,iP h4]⟩
     ·right;exact⟨gX,by simpa using h4,h1,h2,h3,by unfold eZ;rw[iN hb,iN h1,iN h2,iN h3,iN h4]⟩
def II:eZ cE=(1,4)∧eZ gO=(2,4)∧eZ iq=(5,6)∧gS cE=false∧gS gO=false∧gS iq=false∧iB cE=false∧iB gO=false∧iB iq=false:=⟨rfl,rfl,rfl,rfl,rfl,rfl,rfl,rfl,rfl⟩
def DS (ps:List aA):Bool:=(decide ((eZ (nth ps 0).az).1<=1)||eQ (nth ps 1).az)&&
 (decide ((eZ (nth ps 0).az).1≠5)||(eQ (nth ps 2).az&&decide ((nth ps 1).az≠(nth ps 2).az)&&ku (nth ps 3)&&ku (nth ps 4)))
def ac2 (ps:List aA):nV ps=(decide ((eZ (nth ps 0).az).1≠0)&&decide (ps.length=(eZ (nth ps 0).az).2)&&DS ps&&(ps.drop (eZ (nth ps 0).az).1).all dV):=by
 unfold DS
 match ps with
 |[]=>simp[nV,nth,aA.az,eZ,iB,gS]
 |[h]=>rcases Ay h.az with⟨h1,h2,h3,h4,h5,hk⟩|⟨h1,h2,h3,hk⟩|⟨h1,h2,h3,hk⟩|⟨h1,h2,h3,hk⟩|⟨h1,h2,h3,h4,h5,hk⟩|⟨h1,h2,h3,h4,h5,hk⟩<;>simp[nV,nth,hk]
 |[h,a]=>rcases Ay h.az with⟨h1,h2,h3,h4,h5,hk⟩|⟨h1,h2,h3,hk⟩|⟨h1,h2,h3,hk⟩|⟨h1,h2,h3,hk⟩|⟨h1,h2,h3,h4,h5,hk⟩|⟨h1,h2,h3,h4,h5,hk⟩<;>simp[nV,nth,hk,h1,h2,h3,II]
 |[h,a,b]=>rcases Ay h.az with⟨h1,h2,h3,h4,h5,hk⟩|⟨h1,h2,h3,hk⟩|⟨h1,h2,h3,hk⟩|⟨h1,h2,h3,hk⟩|⟨h1,h2,h3,h4,h5,hk⟩|⟨h1,h2,h3,h4,h5,hk⟩<;>simp[nV,nth,hk,h1,h2,h3,II]
 |[h,a,b,c]=>rcases Ay h.az with⟨h1,h2,h3,h4,h5,hk⟩|⟨h1,h2,h3,hk⟩|⟨h1,h2,h3,hk⟩|⟨h1,h2,h3,hk⟩|⟨h1,h2,h3,h4,h5,hk⟩|⟨h1,h2,h3,h4,h5,hk⟩<;>simp[nV,nth,hk,h1,h2,h3,II]<;>try simp[*]
 |[h,a,b,c,d]=>rcases Ay h.az with⟨h1,h2,h3,h4,h5,hk⟩|⟨h1,h2,h3,hk⟩|⟨h1,h2,h3,hk⟩|⟨h1,h2,h3,hk⟩|⟨h1,h2,h3,h4,h5,hk⟩|⟨h1,h2,h3,h4,h5,hk⟩<;>simp[nV,nth,hk]
 |[h,a,b,c,d,e]=>rcases Ay h.az with⟨h1,h2,h3,h4,h5,hk⟩|⟨h1,h2,h3,hk⟩|⟨h1,h2,h3,hk⟩|⟨h1,h2,h3,hk⟩|⟨h1,h2,h3,h4,h5,hk⟩|⟨h1,h2,h3,h4,h5,hk⟩<;>simp[nV,nth,hk,h3,II]<;>try simp[*,Bool.and_assoc]
 |h::a::b::c::d::e::f::r=>rcases Ay h.az with⟨h1,h2,h3,h4,h5,hk⟩|⟨h1,h2,h3,hk⟩|⟨h1,h2,h3,hk⟩|⟨h1,h2,h3,hk⟩|⟨h1,h2,h3,h4,h5,hk⟩|⟨h1,h2,h3,h4,h5,hk⟩<;>simp[nV,nth,hk]<;>omega
def S0 (t:aA):dV t=if t.az≠[] then qu t.az else nV t.au:=by cases t with|mk a ps=>rw[dV];rfl
def ac3 {t:aA} (ha:t.az=[]):dV t=(decide ((eZ (nth t.au 0).az).1≠0)&&decide (t.au.length=(eZ (nth t.au 0).az).2)&&DS t.au&&(t.au.drop (eZ (nth t.au 0).az).1).all dV):=by
 rw[S0,iN (by simp[ha]),ac2]
def S1 (ps:List aA):sH ps=(decide (ps.length=3)&&(decide ((nth ps 0).az=[62])||decide ((nth ps 0).az=[42]))&&(o7 (nth ps 1)&&o7 (nth ps 2))):=by
 match ps with
 |[]=>simp[sH]
 |[h]=>simp[sH]
 |[h,a]=>simp[sH]
 |[h,a,b]=>simp[sH,nth]
 |h::a::b::c::r=>simp[sH]
/-! ### Texts -/
def wJ (s:aj):Bool:=match ba s with
 |some t=>ku t
 |none=>false
def S2 {s:aj}:wJ s=true↔∃T:Ty,T.n<=16∧s=T.text:=by
 unfold wJ
 constructor
 ·intro h
  cases hp:ba s with
  |none=>rw[hp] at h;cases h
  |some t=>
   rw[hp] at h
   obtain⟨u,rfl,hu⟩:=(xR (tF hp)).1 h
   exact⟨u,hu,((BI hp).2.2.1).symm⟩
 ·rintro⟨T,hT,rfl⟩
  rw[Ty.ba om]
  exact(xR T.oJ.wf).2 ⟨T,rfl,hT⟩
def S3 {T:Ty}:wJ T.text=decide (T.n<=16):=by
 by_cases h:T.n<=16
 ·rw[dT h];exact S2.2 ⟨T,h,rfl⟩
 ·rw[dF h]
  cases hs:wJ T.text with
  |false=>rfl
  |true=>obtain⟨U,hU,e⟩:=S2.1 hs;rw[Ty.inj e] at h;exact absurd hU h
def B1 (s sg:aj):Option (Ty×Ty)->Prop
 |some (a,b)=>∃f,sg=kt f∧s=(Ty.op f a b).text∧(Ty.op f a b).n<=16
 |none=>∀f a b,sg=kt f->s=(Ty.op f a b).text->¬(Ty.op f a b).n<=16
def IJ (t:aA):Bool:=dV t&&decide (fP t<=120)
def my (s:aj):Bool:=match ba s with
 |some t=>IJ t
 |none=>false
def ac4 {t:aA} (hw:WF t):IJ t=true↔∃e:Ex,t=e.av∧e.ok∧e.n<=120:=by
 unfold IJ
 rw[aE,dE,ab7 hw]
 constructor
 ·rintro⟨⟨e,rfl,h⟩,hn⟩;exact⟨e,rfl,h,by rw[Ex.fP h] at hn;exact hn⟩
 ·rintro⟨e,rfl,h,hn⟩;exact⟨⟨e,rfl,h⟩,by rw[Ex.fP h];exact hn⟩
def wK {s:aj}:my s=true↔∃e:Ex,ba s=some e.av∧e.ok∧e.n<=120:=by
 unfold my
 cases hp:ba s with
 |none=>simp
 |some t=>simp only[Option.some.injEq];exact ac4 (tF hp)
def S4 {ps:List aA} (i:Nat):jQ (ps.take i)<=jQ ps:=by
 conv=>rhs;rw[<-List.take_append_drop i ps,Lv]
 omega
def ac5 (t:aA):jQ t.au<=t.size:=by
 cases t with
 |mk a ps=>have:=Ly ps;simp only[aA.size,aA.au];omega
def S5:∀(m:Nat) (t:aA),t.size<=m->t.size<=10000000->WF t->∀(v:Value) (L:List Nat) (w:World),bT L w v t->
  ck Tryz.prog 107 [v] w λr w'=>r= .int .i64 (fP t:Int)∧ak [] w w':=by
 intro m
 induction m with
 |zero=>intro t h;have:=xJ t;omega
 |succ m ih=>
  intro t hm mY dz v L w hv
  obtain⟨a,n,c,rfl,hn,bc⟩:=dO hv
  subst hn
  have pK:=xI t
  have hhs:=ac5 t
  have hK:=ak.refl [] w
  refine cX [.tmp 2] 24 Tryz.func107 rfl XM rfl rfl ?_
  refine zr<|fG rfl ?_
  intro w1 aK aT eh
  have hK:=hK.ext aK
  refine zA<|ag<|aQ<|zr<|zf dB rfl<|zl cm rfl (aT.at rfl)<|jI rfl rfl rfl rfl<|ag<|zc rfl (λh1=>?_) (λh1=>?_)
  have hq:fP t=1:=by rw[Lw,iP h1]
  refine zr<|zA<|ag<|aV ?_
  exact⟨_,rfl,by rw[hq];rfl,hK⟩
  have hq:fP t=jQ t.au:=by rw[Lw,iN h1]
  refine bz<|zr<|zA<|ag<|aQ<|zr<|zA<|ag<|cS ?_
  refine fY (λk:Nat=>[(1,.pointer (some ⟨w.heap.size,0,none⟩)),(3,.int .i64 ((jQ (t.au.take k):Nat):Int)),(4,.int .i64 (k:Int))]) (λk w'=>ak [] w w'∧aY w' w.heap.size [str t.az,.slice a t.au.length c].toArray 66∧k<=t.au.length) (λk=>t.au.length-k) (0) (⟨rfl,rfl,rfl⟩) (⟨hK,aT,om⟩) ?_
  intro gg w2 e2 hI
  obtain⟨hK,aT,hk⟩:=hI
  refine aQ<|zr<|zm<|zf cN rfl<|zl cK rfl (aT.at rfl)<|dZ cw rfl<|fA rfl rfl rfl<|ag<|zc rfl (λh2=>?_) (λh2=>?_)
  have gh:=iK (ps:=t.au) (i:=gg) om
  obtain⟨b1,ga,pa,pn,pc,rfl,kT,fR,iz⟩:=j9 bc gh
  subst fR
  have BK:=dz.nth (i:=gg) om
  have oz:=l3 (t:=t) (i:=gg) om
  have bg:=Rw gh
  have hle:=S4 (ps:=t.au) (gg+1)
  refine bz<|aQ<|cS<|df<|zm<|zf cN rfl<|zl cK rfl (aT.at rfl)<|zm<|zi cw aH rfl rfl om<|zL bU aH rfl (kT.ext hK) rfl<|aC (ih (nth t.au gg) om om BK _ L w2 ((mT iz).ext hK)) ?_
  rintro v3 w3 ⟨er,aJ⟩
  have gd:=aJ.size
  have hK:=hK.ext aJ;have aT:=aT.ext aJ
  obtain rfl:=er
  refine eI rfl rfl rfl (wrap_i64 _ om om)<|zA<|ag<|df<|zm<|eI rfl rfl rfl (wrap_i64 _ om om)<|zA<|ag ?_
  exact⟨gg+1,⟨rfl,cA (Value.int .i64) om,rfl⟩,⟨hK,aT,om⟩,om⟩
  have gJ:gg=t.au.length:=by omega
  subst gJ
  refine gD<|gF rfl<|zr<|zm<|zA<|ag<|aV ?_
  exact⟨_,rfl,by rw[hq,List.take_length];rfl,hK⟩
def ac6:∀(m:Nat) (t:aA),t.size<=m->t.size<=10000000->WF t->∀(v:Value) (L:List Nat) (w:World),bT L w v t->
  ck Tryz.prog 181 [v] w λr w'=>r= .bool (o7 t)∧ak [] w w':=by
 intro m
 induction m with
 |zero=>intro t h;have:=xJ t;omega
 |succ m ih=>
  intro t hm mY dz v L w hv
  obtain⟨a,n,c,rfl,hn,bc⟩:=dO hv
  subst hn
  have hK:=ak.refl [] w
  have pK:=xI t
  refine cX [.tmp 2] 41 Tryz.func181 rfl YI rfl rfl ?_
  refine zr<|fG rfl ?_
  intro w1 aK aT eh
  have hK:=hK.ext aK;have bc:=bc.ext aK
  refine zA<|ag<|aQ<|zr<|zf dB rfl<|zl cm rfl (aT.at rfl)<|jI rfl rfl rfl rfl<|ag<|zc rfl (λh1=>?_) (λh1=>?_)
  have hq:o7 t=decide (t.az=[105]):=by rw[Rx,iP h1]
  refine zr<|zf dB rfl<|zl cm rfl (aT.at rfl)<|cY rfl rfl<|zA<|ag<|aV ?_
  exact⟨_,rfl,by rw[hq];rfl,hK⟩
  have ha:t.az=[]:=Classical.not_not.1 h1
  have kS:=dz.pos ha
  have hq:o7 t=sH t.au:=by rw[Rx,iN (λh=>h ha)]
  obtain⟨b,off,pa,pn,pc,rfl,eC,fR,iz⟩:=j9 bc (iK kS)
  refine bz<|aQ<|zr<|zf cN rfl<|zl cK rfl (aT.at rfl)<|dZ cw rfl<|uA rfl rfl rfl rfl rfl<|zm ?_
  apply fB 15 13 28 [13,14,15,16,17,18,19,20,21,22,23,24,25,26,27,28] (λw'=>w1=w') rfl
  intro h2
  replace h2:=bw h2
  refine zs<|zs<|zs<|zs<|zs<|zs<|zs<|zs<|zs<|zs<|zs<|zs<|zs<|zs<|zp rfl<|ag ?_
  exact mg rfl rfl
  intro h2
  replace h2:=bw h2
  refine zf cN rfl<|zl cK rfl (aT.at rfl)<|zi (i:=0) cw aH rfl rfl om<|zf dB rfl<|zl cm rfl (eC 0 _ rfl)<|jI rfl rfl rfl rfl<|zm ?_
  apply fZ 7 20 27 [20,21,22,23,24,25,26,27] (λw'=>w1=w') rfl
  intro h3
  replace h3:=bw h3
  refine zf cN rfl<|zl cK rfl (aT.at rfl)<|zi (i:=0) cw aH rfl rfl om<|zf dB rfl<|zl cm rfl (eC 0 _ rfl)<|jI rfl rfl rfl rfl<|zp rfl<|ag ?_
  exact mg rfl rfl
  intro h3
  replace h3:=bw h3
  refine zs<|zs<|zs<|zs<|zs<|zs<|zp rfl<|ag ?_
  exact mg rfl rfl
  rintro xx _ rfl
  refine zp rfl<|ag ?_
  exact mg rfl rfl
  rintro xx _ rfl
  refine ag<|zc rfl (λh4=>?_) (λh4=>?_)
  have hz:sH t.au=false:=by rw[S1];simp only[oE,aE,dE] at h4;rcases h4 with h|⟨h1,h2⟩;(·rw[dF om];rfl);(·rw[dF h1,dF h2];simp)
  refine zr<|zA<|ag<|aV ?_
  exact⟨_,rfl,by rw[hq,hz];rfl,hK⟩
  simp only[Bool.or_eq_false_iff,Bool.and_eq_false_iff,decide_eq_false_iff_not,Classical.not_not] at h4
  obtain⟨h31,S6⟩:=h4
  have h3:t.au.length=3:=om
  have oO:sH t.au=(o7 (nth t.au 1)&&o7 (nth t.au 2)):=by rw[S1,dT h3];rcases S6 with h|h<;>rw[h]<;>rfl
  obtain⟨b1,ga,gZ,qW,ia,e1,bC,sB,o4⟩:=j9 bc (iK (i:=1) om)
  cases e1
  subst sB
  obtain⟨b2,nu,jd,Az,je,e2,bY,IK,Mz⟩:=j9 bc (iK (i:=2) om)
  cases e2
  subst IK
  have dS:=l3 (t:=t) (i:=1) om
  have eH:=l3 (t:=t) (i:=2) om
  have dh:=mT o4
  have ew:=mT Mz
  refine bz<|zr<|zf cN rfl<|zl cK rfl (aT.at rfl)<|zi (i:=1) cw aH rfl rfl om<|zL bU aH rfl bC rfl<|aC (ih (nth t.au 1) om om (dz.nth om) _ L w1 dh) ?_
  rintro v2 w2 ⟨dC,aq⟩
  have eH:=aq.size
  have hK:=hK.ext aq;have aT:=aT.ext aq;have bY:=bY.ext aq;have ew:=ew.ext aq
  obtain rfl:=dC
  refine zm ?_
  apply fZ 6 34 40 [34,35,36,37,38,39,40] (ak [] w2) rfl
  intro h5
  replace h5:=bw h5
  have FV:=ak.refl [] w2
  refine zf cN rfl<|zl cK rfl (aT.at rfl)<|zi (i:=2) cw aH rfl rfl om<|zL bU aH rfl bY rfl<|aC (ih (nth t.au 2) om om (dz.nth om) _ L w2 ew) ?_
  rintro v3 w3 ⟨er,aJ⟩
  have gd:=aJ.size
  have FV:=FV.ext aJ
  obtain rfl:=er
  refine zp rfl<|ag ?_
  exact mg rfl FV
  intro h5
  replace h5:=bw h5
  have FV:=ak.refl [] w2
  refine zs<|zs<|zs<|zs<|zs<|zp rfl<|ag ?_
  exact mg rfl FV
  intro xx w3 aJ
  have hK:=hK.ext aJ
  refine zA<|ag<|aV ?_
  exact⟨_,rfl,by rw[hq,oO];rfl,hK⟩
def AA (t:aA) (mY:t.size<=10000000) (dz:WF t) (v:Value) (L:List Nat) (w:World) (hv:bT L w v t):
  ck Tryz.prog 141 [v] w λr w'=>r= .bool (ku t)∧ak [] w w':=by
 have dK:=hv
 obtain⟨a,n,c,rfl,hn,bc⟩:=dO hv
 have hK:=ak.refl [] w
 refine cX [.tmp 2] 10 Tryz.func141 rfl Yg rfl rfl ?_
 refine zr<|fG rfl ?_
 intro w1 aK aT eh
 have hK:=hK.ext aK;have dK:=dK.ext aK
 refine zA<|ag<|zr<|zL bU aH rfl aT.all rfl<|aC (ac6 t.size t (lR _) mY dz _ L w1 dK) ?_
 rintro v2 w2 ⟨dC,aq⟩
 have eH:=aq.size
 have hK:=hK.ext aq;have dK:=dK.ext aq;have aT:=aT.ext aq
 obtain rfl:=dC
 refine zm ?_
 apply fZ 4 5 9 [5,6,7,8,9] (ak [] w2) rfl
 intro h1
 replace h1:=bw h1
 have vg:=ak.refl [] w2
 refine zL bU aH rfl aT.all rfl<|aC (S5 t.size t (lR _) mY dz _ L w2 dK) ?_
 rintro v3 w3 ⟨er,aJ⟩
 have gd:=aJ.size
 have vg:=vg.ext aJ
 obtain rfl:=er
 refine qQ rfl rfl rfl rfl rfl<|zp rfl<|ag ?_
 exact mg rfl vg
 intro h1
 replace h1:=bw h1
 have vg:=ak.refl [] w2
 refine zs<|zs<|zs<|zp rfl<|ag ?_
 exact mg rfl vg
 intro xx w3 aJ
 have hK:=hK.ext aJ
 refine zA<|ag<|aV ?_
 exact⟨_,rfl,cA Value.bool (show _=ku t from by unfold ku;congr 1;exact decide_eq_decide.2 om),hK⟩
def ac7 {s:aj} {t:aA} (h:Dw s t):((ba s).isSome&&ku t)=wJ s:=by
 unfold wJ
 cases hp:ba s with
 |none=>rfl
 |some u=>rw[h.1 u hp];rfl
def MA (s:aj) (w:World):ck Tryz.prog 187 [str s] w λr w'=>r= .bool (wJ s)∧ak [] w w':=by
 have hK:=ak.refl [] w
 refine cX [.tmp 2] 15 Tryz.func187 rfl YO rfl rfl ?_
 refine zr<|zA<|ag<|zr<|zm<|aC (H3 s [] w sm) ?_
 rintro v1 w1 ⟨fO,aK⟩
 have dS:=aK.size
 have hK:=hK.ext aK
 obtain⟨t,tv,rfl,ht,hp⟩:=fO
 obtain⟨pa,pn,pc,rfl,fR,bc⟩:=dO ht
 refine zm<|zx (i:=0) rfl rfl<|zx (i:=1) rfl rfl<|eD aH rfl rfl rfl ?_
 intro w2 aq bR eO
 have hK:=hK.grow;have hK:=hK.ext aq;have ht:=ht.grow;have ht:=ht.ext aq
 refine dw aH rfl rfl rfl bR rfl ?_
 intro w3 aJ bR iJ
 have hK:=hK.aL aJ sx;have ht:=ht.aL aJ sx
 refine zA<|ag<|zr<|zm<|zm ?_
 apply fZ 3 11 14 [11,12,13,14] (ak [] w3) rfl
 intro h1
 replace h1:=bw h1
 have l5:=ak.refl [] w3
 obtain⟨u,hu⟩:=Option.isSome_iff_exists.1 h1
 have e:=hp.1 u hu
 subst e
 refine zL bU aH rfl bR.all rfl<|aC (AA t (by have:=Bz hu;omega) (tF hu) _ _ w3 ht) ?_
 rintro v4 w4 ⟨eJ,aF⟩
 have gK:=aF.size
 have l5:=l5.ext aF
 obtain rfl:=eJ
 refine zp rfl<|ag ?_
 exact mg rfl l5
 intro h1
 replace h1:=bw h1
 have l5:=ak.refl [] w3
 refine zs<|zs<|zp rfl<|ag ?_
 exact mg rfl l5
 intro xx w4 aF
 have hK:=hK.ext aF
 refine zA<|ag<|aV ?_
 exact⟨_,rfl,cA Value.bool (ac7 hp),hK⟩
def sV:Option (Ty×Ty)->aj
 |some p=>p.1.text
 |none=>[]
def yh:Option (Ty×Ty)->aj
 |some p=>p.2.text
 |none=>[]
def MB (o:Option (Ty×Ty)):Value:=.tuple #[str (sV o),str (yh o),.bool o.isSome]
def ac8 {s sg:aj} {t:aA} (hp:Dw s t) (h:(((!(ba s).isSome||!ku t)||decide (t.az≠[]))||decide ((nth t.au 0).az≠sg))=true):B1 s sg none:=by
 intro f a b e1 e2 hn
 have bc:ba s=some (Ty.op f a b).av:=by rw[e2];exact Ty.ba om
 have e:=hp.1 _ bc
 subst e
 have ht:ku (Ty.op f a b).av=true:=(xR (tF bc)).2 ⟨_,rfl,hn⟩
 rw[bc,ht] at h
 simp[Ty.av,aA.az,aA.au,nth,cg,e1] at h
def ac9 {s sg:aj} {t:aA} (hp:Dw s t) (h:(((!(ba s).isSome||!ku t)||decide (t.az≠[]))||decide ((nth t.au 0).az≠sg))=false):∃f A B,t=(Ty.op f A B).av∧(Ty.op f A B).n<=16∧B1 s sg (some (A,B)):=by
 simp only[Bool.or_eq_false_iff,Bool.not_eq_false',decide_eq_false_iff_not,Classical.not_not] at h
 obtain⟨⟨⟨h1,h2⟩,h3⟩,h4⟩:=h
 obtain⟨u,hu⟩:=Option.isSome_iff_exists.1 h1
 have e:=hp.1 u hu
 subst e
 obtain⟨T,rfl,hn⟩:=(xR (tF hu)).1 h2
 cases T with
 |i=>simp[Ty.av,cg,aA.az] at h3
 |op f A B=>exact⟨f,A,B,rfl,hn,f,by rw[<-h4];rfl,(BI hu).2.2.1.symm,hn⟩
def S7 (s sg:aj) (w:World):ck Tryz.prog 189 [str s,str sg] w λr w'=>(∃o,B1 s sg o∧r=MB o)∧ak [] w w':=by
 have hK:=ak.refl [] w
 refine cX [.tmp 4,.tmp 5,.tmp 6] 45 Tryz.func189 rfl YP rfl rfl ?_
 refine zr<|zA<|zA<|zA<|ag<|zr<|zm<|aC (H3 s [] w sm) ?_
 rintro v1 w1 ⟨fO,aK⟩
 have dS:=aK.size
 have hK:=hK.ext aK
 obtain⟨t,tv,rfl,ht,hp⟩:=fO
 obtain⟨pa,pn,pc,rfl,fR,bc⟩:=dO ht
 subst fR
 refine zm<|zx (i:=0) rfl rfl<|zx (i:=1) rfl rfl<|eD aH rfl rfl rfl ?_
 intro w2 aq cI eO
 have hK:=hK.grow;have hK:=hK.ext aq;have ht:=ht.grow;have ht:=ht.ext aq;have bc:=bc.grow;have bc:=bc.ext aq
 refine dw aH rfl rfl rfl cI rfl ?_
 intro w3 aJ cI iJ
 have hK:=hK.aL aJ sx;have ht:=ht.aL aJ sx;have bc:=bc.aL aJ sx
 refine zA<|ag<|aQ<|zr<|zm<|eM rfl<|zm ?_
 apply fB 4 16 20 [16,17,18,19,20] (ak [] w3) rfl
 intro h1
 replace h1:=bw h1
 have FW:=ak.refl [] w3
 refine zs<|zs<|zs<|zp rfl<|ag ?_
 exact mg rfl FW
 intro h1
 replace h1:=bw h1
 have FW:=ak.refl [] w3
 obtain⟨u,hu⟩:=Option.isSome_iff_exists.1 h1
 have e:=hp.1 u hu
 subst e
 refine zL bU aH rfl cI.all rfl<|aC (AA t (by have:=Bz hu;omega) (tF hu) _ _ w3 ht) ?_
 rintro v4 w4 ⟨eJ,aF⟩
 have gK:=aF.size
 have FW:=FW.ext aF
 obtain rfl:=eJ
 refine eM rfl<|zp rfl<|ag ?_
 exact mg rfl FW
 intro xx w5 aU
 have hK:=hK.ext aU;have bc:=bc.ext aU;have cI:=cI.ext aU
 refine zm ?_
 apply fB 4 21 25 [21,22,23,24,25] (λw'=>w5=w') rfl
 intro h2
 replace h2:=bw h2
 refine zs<|zs<|zs<|zp rfl<|ag ?_
 exact mg rfl rfl
 intro h2
 replace h2:=bw h2
 refine zf dB rfl<|zl cm rfl (cI.at rfl)<|jI rfl rfl rfl rfl<|zp rfl<|ag ?_
 exact mg rfl rfl
 rintro xx _ rfl
 refine zm ?_
 apply fB 8 26 34 [26,27,28,29,30,31,32,33,34] (λw'=>w5=w') rfl
 intro h3
 replace h3:=bw h3
 refine zs<|zs<|zs<|zs<|zs<|zs<|zs<|zp rfl<|ag ?_
 exact mg rfl rfl
 intro h3
 replace h3:=bw h3
 simp only[Bool.or_eq_false_iff,Bool.not_eq_false',decide_eq_false_iff_not,Classical.not_not] at h3
 obtain⟨⟨q1,q2⟩,q3⟩:=h3
 obtain⟨u,hu⟩:=Option.isSome_iff_exists.1 q1
 have e:=hp.1 u hu
 subst e
 have kS:=(tF hu).pos q3
 obtain⟨b0,AB,qa,qn,qc,e0,eC,_,_⟩:=j9 bc (iK kS)
 subst e0
 refine zf cN rfl<|zl cK rfl (cI.at rfl)<|zi (i:=0) cw aH rfl rfl om<|zf dB rfl<|zl cm rfl (eC 0 _ rfl)<|zm<|jI rfl rfl rfl rfl<|zp rfl<|ag ?_
 exact mg rfl rfl
 rintro xx _ rfl
 refine ag<|zc rfl (λh4=>?_) (λh4=>?_)
 refine zr<|zA<|zA<|zA<|ag<|aV ?_
 exact⟨_,rfl,⟨none,ac8 hp h4,rfl⟩,hK⟩
 obtain⟨f,A,B,e,hn,hT⟩:=ac9 hp h4
 subst e
 have RA:(Ty.op f A B).n=1+A.n+B.n:=rfl
 have hA:=Ty.size A
 have hB:=Ty.size B
 have MC:=Ty.len A
 have MD:=Ty.len B
 have Dq:(Ty.op f A B).av.au.length=3:=rfl
 obtain⟨b1,ga,gZ,qW,ia,e1,bC,sB,o4⟩:=j9 bc (iK (i:=1) om)
 subst e1
 subst sB
 obtain⟨b2,nu,jd,Az,je,e2,bY,IK,Mz⟩:=j9 bc (iK (i:=2) om)
 cases e2
 subst IK
 have dh:bT _ w5 _ A.av:=mT o4
 have ew:bT _ w5 _ B.av:=mT Mz
 refine bz<|aQ ?_
 apply mv et 13 (rA 35 10++[4,5,6]) (rA 35 10++[4,5,6]) [[],[0],[1],[2],[3],[],[5],[6],[7],[8],[4],[9],[]] [It.v _,It.v _,It.v _,It.v _,It.v _,It.v _,It.v _,It.v _,It.v _,It.v _,It.v _,It.v _,It.v _] de rfl
 intro wd aB
 refine vc (λ_ _ _=>zf cN rfl pv) ?_
 refine vk aB (λx w6 bF=>?_) ?_
 have cI:=cI.ext bF
 refine zl cK rfl (cI.at rfl) ?_
 exact pv
 refine vk aB (λx w6 bF=>?_) ?_
 refine zi (i:=1) cw aH rfl rfl ((show 1<3 from om)) ?_
 exact pv
 refine vk aB (λx w6 bF=>?_) ?_
 have bC:=bC.ext bF
 refine zL bU aH rfl bC rfl ?_
 exact pv
 refine vk aB (λx w6 bF=>?_) ?_
 have dh:=dh.ext bF
 refine aC (tI A.av.size A.av (lR _) A.oJ.wf om (show A.text.length<=100000000 from om) _ _ w6 dh) ?_
 rintro v7 w7 ⟨iV,cz⟩
 have po:=cz.size
 obtain rfl:=iV
 exact pk cz
 refine vc (λ_ _ _=>zf cN rfl pv) ?_
 refine vk aB (λx w6 bF=>?_) ?_
 have cI:=cI.ext bF
 refine zl cK rfl (cI.at rfl) ?_
 exact pv
 refine vk aB (λx w6 bF=>?_) ?_
 refine zi (i:=2) cw aH rfl rfl ((show 2<3 from om)) ?_
 exact pv
 refine vk aB (λx w6 bF=>?_) ?_
 have bY:=bY.ext bF
 refine zL bU aH rfl bY rfl ?_
 exact pv
 refine vk aB (λx w6 bF=>?_) ?_
 have ew:=ew.ext bF
 refine aC (tI B.av.size B.av (lR _) B.oJ.wf om (show B.text.length<=100000000 from om) _ _ w6 ew) ?_
 rintro v7 w7 ⟨iV,cz⟩
 have po:=cz.size
 obtain rfl:=iV
 exact pk cz
 refine vc (λ_ _ _=>zA pv) ?_
 refine vc (λ_ _ _=>zA pv) ?_
 refine vc (λ_ _ _=>zA pv) ?_
 exact trivial
 intro x pW wL
 have hK:=hK.ext wL
 change OW _ _ _ _ [] (aM (aN _ x _) (zZ 35 [_,_,_,_,_,_,_,_,_,_]++[(4,_),(5,_),(6,_)])) _
 refine ag<|aV ?_
 exact⟨_,rfl,⟨some (A,B),hT,rfl⟩,hK⟩
def S8 (s:aj) (w:World):ck Tryz.prog 158 [str s] w λr w'=>(∃o,B1 s [62] o∧r=MB o)∧ak [] w w':=by
 have hK:=ak.refl [] w
 refine cX [.tmp 2,.tmp 3,.tmp 4] 10 Tryz.func158 rfl Yw rfl rfl ?_
 refine zr<|zA<|zA<|zA<|ag<|zr<|zm<|aC (S7 s [62] w) ?_
 rintro v1 w1 ⟨fO,aK⟩
 have dS:=aK.size
 have hK:=hK.ext aK
 obtain⟨o,ho,rfl⟩:=fO
 refine zx (i:=0) rfl rfl<|zx (i:=1) rfl rfl<|zx (i:=2) rfl rfl<|zA<|zA<|zA<|ag<|aV ?_
 exact⟨_,rfl,⟨o,ho,rfl⟩,hK⟩
def S9 (s:aj) (w:World):ck Tryz.prog 157 [str s] w λr w'=>(∃o,B1 s [42] o∧r=MB o)∧ak [] w w':=by
 have hK:=ak.refl [] w
 refine cX [.tmp 2,.tmp 3,.tmp 4] 10 Tryz.func157 rfl Yv rfl rfl ?_
 refine zr<|zA<|zA<|zA<|ag<|zr<|zm<|aC (S7 s [42] w) ?_
 rintro v1 w1 ⟨fO,aK⟩
 have dS:=aK.size
 have hK:=hK.ext aK
 obtain⟨o,ho,rfl⟩:=fO
 refine zx (i:=0) rfl rfl<|zx (i:=1) rfl rfl<|zx (i:=2) rfl rfl<|zA<|zA<|zA<|ag<|aV ?_
 exact⟨_,rfl,⟨o,ho,rfl⟩,hK⟩
def Ta {T:Ty} (hT:T.n<=16) (f:Bool) {o:Option (Ty×Ty)} (h:B1 T.text (kt f) o):o=match T with| .op g a b=>if g=f then some (a,b) else none| .i=>none:=by
 cases o with
 |some p=>
  obtain⟨g,h1,h2,h3⟩:=h
  have e:=Ty.inj h2
  subst e
  have:f=g:=by cases f<;>cases g<;>first|rfl|(simp[kt] at h1)
  subst this
  simp
 |none=>
  cases T with
  |i=>rfl
  |op g a b=>
   have eN:¬g=f:=λe=>h f a b rfl (by rw[e]) (by rw[<-e];exact hT)
   simp[eN]
def Tb {T:Ty} (h:T.n<=16):wJ T.text=true:=by rw[S3];exact dT h
def Tc (f:Bool) (A B:Ty) (hA:A.n<=16) (hB:B.n<=16) (w:World):
  ck Tryz.prog 154 [.bool f,str A.text,str B.text] w λr w'=>r= .tuple #[str (if 1+A.n+B.n<=16 then(Ty.op f A B).text else[]),.bool (decide (1+A.n+B.n<=16))]∧ak [] w w':=by
 have hK:=ak.refl [] w
 have MC:=Ty.len A
 have MD:=Ty.len B
 have S6:=Lu f
 have pX:(((((([40]++kt f)++[32])++A.text)++[32])++B.text)++[41])=(Ty.op f A B).text:=by rw[Ty.H4];simp
 have hy:wJ (Ty.op f A B).text=decide (1+A.n+B.n<=16):=S3
 refine cX [.tmp 6,.tmp 7] 34 Tryz.func154 rfl Yt rfl rfl ?_
 refine zr<|zA<|zA<|ag<|zr<|zA<|ag<|aQ<|zr<|zm<|ag ?_
 refine ji (λ_:Unit=>[(0,.bool f),(1,str A.text),(2,str B.text),(8,str (kt f))]) (λ_ w'=>w'=w) ?_ ?_
 refine zc rfl (λh1=>?_) (λh1=>?_)
 have hf:=h1
 refine df<|zA<|ag ?_
 exact⟨(),⟨rfl,rfl,rfl,by rw[hf];rfl⟩,rfl⟩
 have hf:=h1
 refine bz ?_
 exact⟨(),⟨rfl,rfl,rfl,by rw[hf];rfl⟩,rfl⟩
 intro gu w1 e1 hI
 subst hI
 refine zr<|zm<|cu rfl rfl so<|cu rfl rfl so<|zm<|cu rfl rfl so<|cu rfl rfl so<|zm<|cu rfl rfl so<|cu rfl rfl so<|zA<|ag<|aQ<|zr<|zm<|aC (MA A.text w1) ?_
 rintro v2 w2 ⟨dC,aq⟩
 have eH:=aq.size
 have hK:=hK.ext aq
 obtain rfl:=dC.trans (cA Value.bool (Tb hA))
 refine eM rfl<|zm<|EL (t:=23) (b:=false) rfl<|zm<|aC (MA B.text w2) ?_
 rintro v3 w3 ⟨er,aJ⟩
 have gd:=aJ.size
 have hK:=hK.ext aJ
 obtain rfl:=er.trans (cA Value.bool (Tb hB))
 refine eM rfl<|zp rfl<|zm<|EL (t:=28) (b:=false) rfl<|zm<|aC (MA _ w3) ?_
 rintro v4 w4 ⟨eJ,aF⟩
 have gK:=aF.size
 have hK:=hK.ext aF
 obtain rfl:=eJ.trans (cA Value.bool ((cA wJ pX).trans hy))
 refine eM rfl<|zp rfl<|ag<|zc rfl (λh2=>?_) (λh2=>?_)
 have hn:¬1+A.n+B.n<=16:=by simpa using h2
 refine zr<|zA<|zA<|ag<|aV ?_
 have hr:Value.tuple #[str (if 1+A.n+B.n<=16 then(Ty.op f A B).text else[]),.bool (decide (1+A.n+B.n<=16))]=Value.tuple #[str [],.bool false]:=by rw[iN hn,dF hn]
 exact⟨_,rfl,hr.symm,hK⟩
 have hn:1+A.n+B.n<=16:=by simpa using h2
 refine bz<|zr<|zm<|zA<|zA<|ag<|aV ?_
 have hr:Value.tuple #[str (if 1+A.n+B.n<=16 then(Ty.op f A B).text else[]),.bool (decide (1+A.n+B.n<=16))]=Value.tuple #[str (((((([40]++kt f)++[32])++A.text)++[32])++B.text)++[41]),.bool true]:=by rw[iP hn,dT hn,pX]
 exact⟨_,rfl,hr.symm,hK⟩
def Td (c:UInt8):(decide ((c.toNat:Int)<97)||decide ((122:Int)<(c.toNat:Int)))=!(decide (97<=c)&&decide (c<=122)):=by
 have h1:decide (97<=c)=decide ((97:Int)<=c.toNat):=(E9 97 c).symm
 have h2:decide (c<=122)=decide ((c.toNat:Int)<=122):=decide_eq_decide.2 (by rw[UInt8.le_iff_toNat_le];have:(122:UInt8).toNat=122:=rfl;omega)
 rw[h1,h2,Bool.not_and,<-decide_not,<-decide_not]
 congr 1<;>exact decide_eq_decide.2 om
def ada {s:aj} {k:Nat} (h1:1<=k) (hk:k<s.length) (h:il (s.getD k 0)=false):(s.drop 1).all il=false:=by
 rw[List.all_eq_false]
 refine⟨s.getD k 0,?_,by rw[h];simp⟩
 rw[List.mem_iff_getElem?]
 refine⟨k-1,?_⟩
 rw[List.getElem?_drop,show 1+(k-1)=k by omega]
 exact jK hk
def adb {s:aj} (h:∀k,1<=k->k<s.length->il (s.getD k 0)=true):(s.drop 1).all il=true:=by
 rw[List.all_eq_true]
 intro c hc
 obtain⟨i,hi⟩:=List.mem_iff_getElem?.1 hc
 rw[List.getElem?_drop] at hi
 have hl:=(List.getElem?_eq_some_iff.1 hi).1
 have:=h (1+i) om hl
 rw[jK hl] at hi
 cases hi
 exact this
def vh (s:aj) (w:World):ck Tryz.prog 139 [str s] w λv w'=>v= .bool (eQ s)∧w=w':=by
 have hN:eQ s=(((decide (1<=s.length)&&decide (s.length<=4))&&(decide (97<=s.getD 0 0)&&decide (s.getD 0 0<=122)))&&(s.drop 1).all il):=rfl
 have hz:∀c:UInt8,(decide ((c.toNat:Int)<48)||decide ((57:Int)<(c.toNat:Int)))=!il c:=by
  intro c
  cases hd:il c with
  |true=>have:=(Bx c).1 hd;simp;omega
  |false=>rw[Bool.not_false,oE,dE,dE];apply Classical.byContradiction;intro hh;have:=(Bx c).2 om;rw[hd] at this;cases this
 refine cX [.tmp 2] 34 Tryz.func139 rfl Ye rfl rfl ?_
 refine zr<|zA<|ag<|aQ<|zr<|zm<|kO fh rfl rfl rfl<|aC (E6 _ _ _ _) ?_
 rintro _ _ ⟨rfl,rfl⟩
 refine eM rfl<|zm ?_
 apply fB 4 8 12 [8,9,10,11,12] (λw'=>w=w') rfl
 intro h1
 replace h1:=bw h1
 refine zs<|zs<|zs<|zp rfl<|ag ?_
 exact mg rfl rfl
 intro h1
 replace h1:=bw h1
 have hl:1<=s.length∧s.length<=4:=(by simp at h1;omega)
 refine zm<|kE (i:=0) fh rfl rfl rfl rfl (jK om)<|fA rfl rfl rfl<|zp rfl<|ag ?_
 exact mg rfl rfl
 rintro xx _ rfl
 refine zm ?_
 apply fB 4 13 17 [13,14,15,16,17] (λw'=>w=w') rfl
 intro h2
 replace h2:=bw h2
 refine zs<|zs<|zs<|zp rfl<|ag ?_
 exact mg rfl rfl
 intro h2
 replace h2:=bw h2
 have hl:1<=s.length∧s.length<=4:=(by simp at h2;omega)
 refine zm<|kE (i:=0) fh rfl rfl rfl rfl (jK om)<|jz rfl rfl rfl rfl rfl<|zp rfl<|ag ?_
 exact mg rfl rfl
 rintro xx _ rfl
 refine ag<|zc rfl (λh3=>?_) (λh3=>?_)
 have hq:eQ s=false:=(by rw[hN];rw[Bool.or_assoc,Td] at h3;simp only[oE,Bool.not_eq_true',Bool.and_eq_false_iff,decide_eq_false_iff_not] at h3;simp only[Bool.and_eq_false_iff,decide_eq_false_iff_not];left;rcases h3 with(h|h)|h;(·left;left;omega);(·left;right;omega);(·right;exact h))
 refine zr<|zA<|ag<|aV ?_
 exact⟨_,rfl,by rw[hq];rfl,rfl⟩
 have hl:(1<=s.length∧s.length<=4)∧(decide (97<=s.getD 0 0)&&decide (s.getD 0 0<=122))=true:=(by rw[Bool.or_assoc,Td] at h3;simp only[Bool.or_eq_false_iff,Bool.not_eq_false'] at h3;refine⟨?_,h3.2⟩;have h1:=h3.1;simp at h1;omega)
 have hq:eQ s=(s.drop 1).all il:=(by rw[hN,hl.2,dT hl.1.1,dT hl.1.2];rfl)
 refine bz<|aQ<|zr<|zA<|ag<|cS ?_
 refine fY (λk:Nat=>[(0,str s),(3,.int .i64 (k:Int))]) (λk w'=>w'=w∧1<=k∧k<=s.length∧∀j,1<=j->j<k->il (s.getD j 0)=true) (λk=>s.length-k) (1) (⟨rfl,rfl⟩) (⟨rfl,om,om,by intro j h1 h2;omega⟩) ?_
 intro gg w1 e1 hI
 obtain⟨rfl,aK,hk,dA⟩:=hI
 refine aQ<|zr<|zm<|zm<|kO fh rfl rfl rfl<|fA rfl rfl rfl<|ag<|zc rfl (λh4=>?_) (λh4=>?_)
 refine bz<|aQ<|cS<|zr<|zm<|zm<|kE fh rfl rfl rfl rfl (jK om)<|fA rfl rfl rfl<|zm ?_
 apply fB 5 28 33 [28,29,30,31,32,33] (λw'=>w1=w') rfl
 intro h5
 replace h5:=bw h5
 refine zs<|zs<|zs<|zs<|zp rfl<|ag ?_
 exact mg rfl rfl
 intro h5
 replace h5:=bw h5
 refine zm<|zm<|kE fh rfl rfl rfl rfl (jK om)<|jz rfl rfl rfl rfl rfl<|zp rfl<|ag ?_
 exact mg rfl rfl
 rintro xx _ rfl
 refine ag<|zc rfl (λh6=>?_) (λh6=>?_)
 have hd:il (s.getD gg 0)=false:=(by rw[hz] at h6;simpa using h6)
 refine zr<|zA<|ag<|aV ?_
 exact⟨_,rfl,by rw[hq,ada aK om hd];rfl,rfl⟩
 have hd:il (s.getD gg 0)=true:=(by rw[hz] at h6;simpa using h6)
 refine bz<|df<|zm<|eI rfl rfl rfl (wrap_i64 _ om om)<|zA<|ag ?_
 exact⟨gg+1,⟨rfl,rfl⟩,⟨rfl,om,om,by intro j h1 h2;rcases Nat.lt_or_ge j gg with h|h;exact dA j h1 h;rw[show j=gg by omega];exact hd⟩,om⟩
 refine gD<|gF rfl<|zr<|zA<|ag<|aV ?_
 exact⟨_,rfl,by rw[hq,adb (λj h1 h2=>dA j h1 om)];rfl,rfl⟩
def ME (h:aj):Value:=.tuple #[.int .i64 ((eZ h).1:Int),.int .i64 ((eZ h).2:Int)]
def yi {h:aj} {a b:Nat} (e:eZ h=(a,b)):ME h= .tuple #[.int .i64 (a:Int),.int .i64 (b:Int)]:=by unfold ME;rw[e]
def ade {h:aj} (e:iB h=true):eZ h=(1,3):=by unfold eZ;rw[iP e]
def adf {h:aj} (e:gS h=true):eZ h=(1,2):=by
 unfold gS at e
 simp only[oE,dE] at e
 rcases e with e|e<;>subst e<;>decide
def IL (h:aj) (w:World):ck Tryz.prog 140 [str h] w λv w'=>v=ME h∧w=w':=by
 refine cX [.tmp 2,.tmp 3] 20 Tryz.func140 rfl Yf rfl rfl ?_
 refine zr<|zA<|zA<|ag<|aQ<|zr<|zm<|ag<|cS<|aQ<|zr<|cY rfl rfl<|zA<|ag ?_
 refine ji (λ_:Unit=>[(4,str h),(5,.bool (iB h))]) (λ_ w'=>w'=w) ?_ ?_
 refine zc rfl (λh1=>?_) (λh1=>?_)
 refine bz ?_
 exact⟨(),⟨rfl,cA Value.bool (show decide (h=[43])=iB h from by rw[dT h1,show iB h=true from by rw[h1];rfl])⟩,rfl⟩
 have n1:=h1
 refine zr<|cY rfl rfl<|zA<|ag<|zc rfl (λh2=>?_) (λh2=>?_)
 refine bz ?_
 exact⟨(),⟨rfl,cA Value.bool (show decide (h=[45])=iB h from by rw[dT h2,show iB h=true from by rw[h2];rfl])⟩,rfl⟩
 have n2:=h2
 refine zr<|cY rfl rfl<|zA<|ag<|zc rfl (λh3=>?_) (λh3=>?_)
 refine bz ?_
 exact⟨(),⟨rfl,cA Value.bool (show decide (h=[42])=iB h from by rw[dT h3,show iB h=true from by rw[h3];rfl])⟩,rfl⟩
 have n3:=h3
 refine zr<|cY rfl rfl<|zA<|ag<|zc rfl (λh4=>?_) (λh4=>?_)
 refine bz ?_
 exact⟨(),⟨rfl,cA Value.bool (show decide (h=kF)=iB h from by rw[dT h4,show iB h=true from by rw[h4];rfl])⟩,rfl⟩
 have n4:=h4
 refine df<|cY rfl rfl<|zA<|ag ?_
 exact⟨(),⟨rfl,cA Value.bool (show decide (h=xS)=iB h from by unfold iB;rw[dF n1,dF n2,dF n3,dF n4];rfl)⟩,rfl⟩
 intro gu w1 e1 hI
 obtain rfl:=hI.symm
 refine zc rfl (λh5=>?_) (λh5=>?_)
 have hq:=h5
 refine zr<|zA<|zA<|ag<|aV ?_
 exact⟨_,rfl,(yi (ade hq)).symm,rfl⟩
 have b0:=h5
 refine zr<|cY rfl rfl<|zA<|ag<|zc rfl (λh6=>?_) (λh6=>?_)
 have hq:=h6
 refine zr<|zA<|zA<|ag<|aV ?_
 exact⟨_,rfl,(yi (by rw[hq];rfl)).symm,rfl⟩
 have m1:=h6
 refine zr<|cY rfl rfl<|zA<|ag<|zc rfl (λh7=>?_) (λh7=>?_)
 have hq:=h7
 refine zr<|zA<|zA<|ag<|aV ?_
 exact⟨_,rfl,(yi (by rw[hq];rfl)).symm,rfl⟩
 have m2:=h7
 refine zr<|cY rfl rfl<|zA<|ag<|zc rfl (λh8=>?_) (λh8=>?_)
 have hq:=h8
 refine zr<|zA<|zA<|ag<|aV ?_
 exact⟨_,rfl,(yi (by rw[hq];rfl)).symm,rfl⟩
 have m3:=h8
 refine aQ<|zr<|cY rfl rfl<|zA<|ag ?_
 refine ji (λ_:Unit=>[(4,str h),(17,.bool (gS h))]) (λ_ w'=>w'=w) ?_ ?_
 refine zc rfl (λh9=>?_) (λh9=>?_)
 refine bz ?_
 exact⟨(),⟨rfl,cA Value.bool (show decide (h=BO)=gS h from by rw[dT h9,show gS h=true from by rw[h9];rfl])⟩,rfl⟩
 have n5:=h9
 refine df<|cY rfl rfl<|zA<|ag ?_
 exact⟨(),⟨rfl,cA Value.bool (show decide (h=rh)=gS h from by unfold gS;rw[dF n5];rfl)⟩,rfl⟩
 intro gu w2 e2 hI
 obtain rfl:=hI.symm
 refine zc rfl (λgI=>?_) (λgI=>?_)
 have hq:=gI
 refine zr<|zA<|zA<|ag<|aV ?_
 exact⟨_,rfl,(yi (adf hq)).symm,rfl⟩
 have m4:=gI
 refine bz<|zr<|zA<|zA<|ag<|aV ?_
 exact⟨_,rfl,(yi (by unfold eZ;rw[iN (by rw[b0];simp),iN m1,iN m2,iN m3,iN (by rw[m4];simp)])).symm,rfl⟩
def adg (h:aj):((eZ h).1=0∧(eZ h).2=0)∨((eZ h).1=1∧(eZ h).2=2)∨((eZ h).1=1∧(eZ h).2=3)∨((eZ h).1=1∧(eZ h).2=4)∨((eZ h).1=2∧(eZ h).2=4)∨((eZ h).1=5∧(eZ h).2=6):=by
 unfold eZ
 split
 ·simp
 ·split
  ·simp
  ·split
   ·simp
   ·split
    ·simp
    ·split<;>simp
def adh {ps:List aA} {k:Nat} {f:aA->Bool} (h:∀j,k<=j->j<ps.length->f (nth ps j)=true):(ps.drop k).all f=true:=by
 rw[List.all_eq_true]
 intro c hc
 obtain⟨i,hi⟩:=List.mem_iff_getElem?.1 hc
 rw[List.getElem?_drop] at hi
 have hl:=(List.getElem?_eq_some_iff.1 hi).1
 have:=h (k+i) om hl
 rw[iK hl] at hi
 cases hi
 exact this
def adi {ps:List aA} {k j:Nat} {f:aA->Bool} (h1:k<=j) (h2:j<ps.length) (h:f (nth ps j)=false):(ps.drop k).all f=false:=by
 rw[List.all_eq_false]
 refine⟨nth ps j,?_,by rw[h];simp⟩
 rw[List.mem_iff_getElem?]
 refine⟨j-k,?_⟩
 rw[List.getElem?_drop,show k+(j-k)=j by omega]
 exact iK h2
def B2 (ps:List aA):Bool:=eQ (nth ps 2).az&&decide ((nth ps 1).az≠(nth ps 2).az)&&ku (nth ps 3)&&ku (nth ps 4)
def adj (ps:List aA) (k:Nat):k≠5∨(k=5∧eQ (nth ps 2).az=false)∨(k=5∧eQ (nth ps 2).az=true∧(nth ps 1).az=(nth ps 2).az)∨(k=5∧eQ (nth ps 2).az=true∧(nth ps 1).az≠(nth ps 2).az∧ku (nth ps 3)=false)∨
  (k=5∧eQ (nth ps 2).az=true∧(nth ps 1).az≠(nth ps 2).az∧ku (nth ps 3)=true∧ku (nth ps 4)=false)∨(k=5∧eQ (nth ps 2).az=true∧(nth ps 1).az≠(nth ps 2).az∧ku (nth ps 3)=true∧ku (nth ps 4)=true):=by
 by_cases h5:k=5
 ·right
  cases h2:eQ (nth ps 2).az
  ·exact .inl ⟨h5,rfl⟩
  ·right
   by_cases he:(nth ps 1).az=(nth ps 2).az
   ·exact .inl ⟨h5,rfl,he⟩
   ·right
    cases h3:ku (nth ps 3)
    ·exact .inl ⟨h5,rfl,he,rfl⟩
    ·right
     cases h4:ku (nth ps 4)
     ·exact .inl ⟨h5,rfl,he,rfl,rfl⟩
     ·exact .inr ⟨h5,rfl,he,rfl,rfl⟩
 ·exact .inl h5
def adk:∀(m:Nat) (t:aA),t.size<=m->t.size<=10000000->WF t->∀(v:Value) (L:List Nat) (w:World),bT L w v t->
  ck Tryz.prog 106 [v] w λr w'=>r= .bool (dV t)∧ak [] w w':=by
 intro m
 induction m with
 |zero=>intro t h;have:=xJ t;omega
 |succ m ih=>
  intro t hm mY dz v L w hv
  obtain⟨a,n,c,rfl,hn,bc⟩:=dO hv
  subst hn
  have hK:=ak.refl [] w
  have pK:=xI t
  refine cX [.tmp 2] 105 Tryz.func106 rfl XL rfl rfl ?_
  refine zr<|fG rfl ?_
  intro w1 aK aT eh
  have hK:=hK.ext aK;have bc:=bc.ext aK
  refine zA<|ag<|aQ<|zr<|zf dB rfl<|zl cm rfl (aT.at rfl)<|jI rfl rfl rfl rfl<|ag<|zc rfl (λh1=>?_) (λh1=>?_)
  have hq:dV t=qu t.az:=by rw[S0,iP h1]
  refine zr<|zf dB rfl<|zl cm rfl (aT.at rfl)<|aC (HN _ _) ?_
  rintro _ _ ⟨rfl,rfl⟩
  refine zm<|zx (i:=0) rfl rfl<|zx (i:=1) rfl rfl<|zA<|zA<|ag<|zr<|zm<|zm ?_
  apply fB 4 18 22 [18,19,20,21,22] (λw'=>w1=w') rfl
  intro h2
  replace h2:=bw h2
  refine zs<|zs<|zs<|zp rfl<|ag ?_
  exact mg rfl rfl
  intro h2
  replace h2:=bw h2
  refine zf dB rfl<|zl cm rfl (aT.at rfl)<|aC (vh _ _) ?_
  rintro _ _ ⟨rfl,rfl⟩
  refine zp rfl<|ag ?_
  exact mg rfl rfl
  rintro xx _ rfl
  refine zA<|ag<|aV ?_
  exact⟨_,rfl,by rw[hq];rfl,hK⟩
  have ha:t.az=[]:=Classical.not_not.1 h1
  have kS:=dz.pos ha
  have hq:=ac3 ha
  obtain⟨b,off,pa,pn,pc,rfl,eC,fR,iz⟩:=j9 bc (iK kS)
  have lu:=adg (nth t.au 0).az
  refine bz<|zr<|zf cN rfl<|zl cK rfl (aT.at rfl)<|zi (i:=0) cw aH rfl rfl om<|zf dB rfl<|zl cm rfl (eC 0 _ rfl)<|aC (IL _ _) ?_
  rintro _ _ ⟨rfl,rfl⟩
  refine zm<|zx (i:=0) rfl rfl<|zx (i:=1) rfl rfl<|zA<|zA<|ag<|aQ<|zr<|zm<|dQ rfl rfl rfl<|zm ?_
  apply fB 6 34 40 [34,35,36,37,38,39,40] (λw'=>w1=w') rfl
  intro h3
  replace h3:=bw h3
  refine zs<|zs<|zs<|zs<|zs<|zp rfl<|ag ?_
  exact mg rfl rfl
  intro h3
  replace h3:=bw h3
  refine zf cN rfl<|zl cK rfl (aT.at rfl)<|dZ cw rfl<|zm<|uA rfl rfl rfl rfl rfl<|zp rfl<|ag ?_
  exact mg rfl rfl
  rintro xx _ rfl
  refine ag<|zc rfl (λh4=>?_) (λh4=>?_)
  have hz:dV t=false:=(by rw[hq];simp only[oE,dE] at h4;rcases h4 with h|h;(·rw[show decide ((eZ (nth t.au 0).az).1≠0)=false from dF om];rfl);(·rw[show decide (t.au.length=(eZ (nth t.au 0).az).2)=false from dF om];simp))
  refine zr<|zA<|ag<|aV ?_
  exact⟨_,rfl,by rw[hz];rfl,hK⟩
  have gN:(eZ (nth t.au 0).az).1≠0∧t.au.length=(eZ (nth t.au 0).az).2:=(by simp only[Bool.or_eq_false_iff,decide_eq_false_iff_not] at h4;omega)
  obtain⟨gN,gR⟩:=gN
  have B3:dV t=(DS t.au&&(t.au.drop (eZ (nth t.au 0).az).1).all dV):=by rw[hq,dT gN,dT gR];rfl
  refine bz<|aQ<|zr<|zm<|jz rfl rfl rfl rfl rfl<|zm ?_
  apply fZ 8 43 51 [43,44,45,46,47,48,49,50,51] (λw'=>w1=w') rfl
  intro h5
  replace h5:=bw h5
  have BD:1<t.au.length:=(by have h7:=h5;omega)
  obtain⟨b1,ga,gZ,qW,ia,e1,bC,sB,o4⟩:=j9 bc (iK (i:=1) BD)
  cases e1
  refine zf cN rfl<|zl cK rfl (aT.at rfl)<|zi (i:=1) cw aH rfl rfl om<|zf dB rfl<|zl cm rfl (bC 0 _ rfl)<|aC (vh _ _) ?_
  rintro _ _ ⟨rfl,rfl⟩
  refine eM rfl<|zp rfl<|ag ?_
  exact mg rfl rfl
  intro h5
  replace h5:=bw h5
  refine zs<|zs<|zs<|zs<|zs<|zs<|zs<|zp rfl<|ag ?_
  exact mg rfl rfl
  rintro xx _ rfl
  refine ag<|zc rfl (λh6=>?_) (λh6=>?_)
  have hz:dV t=false:=(by simp only[aE,dE,Bool.not_eq_true'] at h6;rw[B3];unfold DS;rw[show decide ((eZ (nth t.au 0).az).1<=1)=false from dF om,h6.2];rfl)
  refine zr<|zA<|ag<|aV ?_
  exact⟨_,rfl,by rw[hz];rfl,hK⟩
  have qp:(decide ((eZ (nth t.au 0).az).1<=1)||eQ (nth t.au 1).az)=true:=(by simp only[Bool.and_eq_false_iff,decide_eq_false_iff_not,Bool.not_eq_false'] at h6;rcases h6 with h|h;(·rw[dT om];rfl);(·rw[h];simp))
  have oO:dV t=((decide ((eZ (nth t.au 0).az).1≠5)||B2 t.au)&&(t.au.drop (eZ (nth t.au 0).az).1).all dV):=by rw[B3];unfold DS;rw[qp];rfl
  have FX:(eZ (nth t.au 0).az).1=5->t.au.length=6:=(by intro h;omega)
  have jH:∀i,i<t.au.length->∃pa pn pc,iS w1 b (off+i*2) [str (nth t.au i).az,.slice pa pn pc]∧bT L w1 (.agg #[str (nth t.au i).az,.slice pa pn pc]) (nth t.au i):=(by intro i hi;obtain⟨b1,ga,gZ,qW,ia,e1,bC,sB,o4⟩:=j9 bc (iK hi);cases e1;exact⟨_,_,_,bC,mT o4⟩)
  refine bz<|aQ<|aQ ?_
  refine ji (λ_:Unit=>[(1,.pointer (some ⟨w.heap.size,0,none⟩)),(5,.int .i64 ((eZ (nth t.au 0).az).1:Int)),(6,.int .i64 ((eZ (nth t.au 0).az).2:Int)),(91,.bool (decide ((eZ (nth t.au 0).az).1=5)&&!B2 t.au))]) (λ_ w'=>ak [] w w'∧ak [] w1 w') ?_ ?_
  rcases adj t.au (eZ (nth t.au 0).az).1 with lv|lv|lv|lv|lv|lv
  apply mv et 40 (rA 52 40) (rA 52 40) [[],[0],[1],[2],[2,3],[2,4],[2,5],[2,6],[2,7],[2,8],[2,9],[10],[10,11],[10,12],[10,13],[10,14],[10],[10,16],[10,17],[10,18],[10,19],[10,15,20],[2,10,21],[2,22],[23],[23,24],[23,25],[23,26],[23,27],[23,28],[2,23,29],[2,30],[31],[31,32],[31,33],[31,34],[31,35],[31,36],[2,31,37],[2,38]] [It.v _,It.v _,It.v (.bool false),It.v _,It.v _,It.v _,It.v _,It.v _,It.v _,It.v _,It.v _,It.v _,It.v _,It.v _,It.v _,It.v _,It.v _,It.v _,It.v _,It.v _,It.v _,It.v _,It.v _,It.v _,It.v _,It.v _,It.v _,It.v _,It.v _,It.v _,It.v _,It.v _,It.v _,It.v _,It.v _,It.v _,It.v _,It.v _,It.v _,It.v _] de rfl
  intro wd aB
  refine eK ?_
  refine vk aB (λx w2 aq=>?_) ?_
  refine dQ rfl rfl rfl ?_
  exact pv
  refine vc (λx w2 aq=>?_) ?_
  refine zm ?_
  exact pv (by exact cA Value.bool (dF om))
  refine vc (λx w2 aq=>?_) ?_
  exact dv pv
  refine vk aB (λx w2 aq=>?_) ?_
  exact dv pv
  refine vk aB (λx w2 aq=>?_) ?_
  exact dv pv
  refine vc (λx w2 aq=>?_) ?_
  exact dv pv
  refine vk aB (λx w2 aq=>?_) ?_
  exact dv pv
  refine vk aB (λx w2 aq=>?_) ?_
  exact dv pv
  refine vc (λx w2 aq=>?_) ?_
  exact dv pv
  refine vc (λx w2 aq=>?_) ?_
  exact dv pv
  refine vc (λx w2 aq=>?_) ?_
  exact dv pv
  refine vk aB (λx w2 aq=>?_) ?_
  exact dv pv
  refine vk aB (λx w2 aq=>?_) ?_
  exact dv pv
  refine vc (λx w2 aq=>?_) ?_
  exact dv pv
  refine vk aB (λx w2 aq=>?_) ?_
  exact dv pv
  refine vc (λx w2 aq=>?_) ?_
  exact dv pv
  refine vk aB (λx w2 aq=>?_) ?_
  exact dv pv
  refine vk aB (λx w2 aq=>?_) ?_
  exact dv pv
  refine vc (λx w2 aq=>?_) ?_
  exact dv pv
  refine vk aB (λx w2 aq=>?_) ?_
  exact dv pv
  refine vk aB (λx w2 aq=>?_) ?_
  exact dv pv
  refine vc (λx w2 aq=>?_) ?_
  exact dv pv
  refine vc (λx w2 aq=>?_) ?_
  exact dv pv
  refine vc (λx w2 aq=>?_) ?_
  exact dv pv
  refine vk aB (λx w2 aq=>?_) ?_
  exact dv pv
  refine vk aB (λx w2 aq=>?_) ?_
  exact dv pv
  refine vk aB (λx w2 aq=>?_) ?_
  exact dv pv
  refine vk aB (λx w2 aq=>?_) ?_
  exact dv pv
  refine vc (λx w2 aq=>?_) ?_
  exact dv pv
  refine vc (λx w2 aq=>?_) ?_
  exact dv pv
  refine vc (λx w2 aq=>?_) ?_
  exact dv pv
  refine vc (λx w2 aq=>?_) ?_
  exact dv pv
  refine vk aB (λx w2 aq=>?_) ?_
  exact dv pv
  refine vk aB (λx w2 aq=>?_) ?_
  exact dv pv
  refine vk aB (λx w2 aq=>?_) ?_
  exact dv pv
  refine vk aB (λx w2 aq=>?_) ?_
  exact dv pv
  refine vc (λx w2 aq=>?_) ?_
  exact dv pv
  refine vc (λx w2 aq=>?_) ?_
  exact dv pv
  refine vc (λ_ _ _=>zp rfl pv) ?_
  exact trivial
  intro x pY iC
  have hK:=hK.ext iC
  change OW _ _ _ _ [] (aM (aN _ x _) (zZ 52 [_,_,_,_,_,_,_,_,_,_,_,_,_,_,_,_,_,_,_,_,_,_,_,_,_,_,_,_,_,_,_,_,_,_,_,_,_,_,_,_])) _
  refine ag ?_
  exact⟨(),⟨rfl,rfl,rfl,cA Value.bool (show false=_ from by rw[dF lv];rfl)⟩,hK,iC⟩
  obtain⟨h5,h2⟩:=lv
  have h6:=FX h5
  obtain⟨jd,Az,je,bY,ew⟩:=jH 2 om
  apply mv et 40 (rA 52 40) (rA 52 40) [[],[0],[1],[2],[2,3],[2,4],[2,5],[2,6],[2,7],[2,8],[2,9],[10],[10,11],[10,12],[10,13],[10,14],[10],[10,16],[10,17],[10,18],[10,19],[10,15,20],[2,10,21],[2,22],[23],[23,24],[23,25],[23,26],[23,27],[23,28],[2,23,29],[2,30],[31],[31,32],[31,33],[31,34],[31,35],[31,36],[2,31,37],[2,38]] [It.v _,It.v _,It.v (.bool true),It.v _,It.v _,It.v _,It.v _,It.v _,It.v _,It.v _,It.v (.bool true),It.v _,It.v _,It.v _,It.v _,It.v _,It.v _,It.v _,It.v _,It.v _,It.v _,It.v _,It.v _,It.v (.bool true),It.v _,It.v _,It.v _,It.v _,It.v _,It.v _,It.v _,It.v (.bool true),It.v _,It.v _,It.v _,It.v _,It.v _,It.v _,It.v _,It.v _] de rfl
  intro wd aB
  refine eK ?_
  refine vk aB (λx w2 aq=>?_) ?_
  refine dQ rfl rfl rfl ?_
  exact pv
  refine vc (λx w2 aq=>?_) ?_
  refine zm ?_
  exact pv (by exact cA Value.bool (dT om))
  refine vc (λ_ _ _=>zf cN rfl pv) ?_
  refine vk aB (λx w2 aq=>?_) ?_
  have aT:=aT.ext aq
  refine zl cK rfl (aT.at rfl) ?_
  exact pv
  refine vk aB (λx w2 aq=>?_) ?_
  refine zi (i:=2) cw aH rfl rfl om ?_
  exact pv
  refine vc (λ_ _ _=>zf dB rfl pv) ?_
  refine vk aB (λx w2 aq=>?_) ?_
  have bY:=bY.ext aq
  refine zl cm rfl (bY 0 _ rfl) ?_
  exact pv
  refine vk aB (λx w2 aq=>?_) ?_
  refine aC (vh _ _) ?_
  rintro _ _ ⟨rfl,rfl⟩
  exact pv
  refine vc (λ_ _ _=>eM rfl pv) ?_
  refine vc (λx w2 aq=>?_) ?_
  refine zm ?_
  exact pv (by exact cA Value.bool (show(!eQ (nth t.au 2).az)=true from by rw[h2];rfl))
  refine vc (λx w2 aq=>?_) ?_
  exact dv pv
  refine vk aB (λx w2 aq=>?_) ?_
  exact dv pv
  refine vk aB (λx w2 aq=>?_) ?_
  exact dv pv
  refine vc (λx w2 aq=>?_) ?_
  exact dv pv
  refine vk aB (λx w2 aq=>?_) ?_
  exact dv pv
  refine vc (λx w2 aq=>?_) ?_
  exact dv pv
  refine vk aB (λx w2 aq=>?_) ?_
  exact dv pv
  refine vk aB (λx w2 aq=>?_) ?_
  exact dv pv
  refine vc (λx w2 aq=>?_) ?_
  exact dv pv
  refine vk aB (λx w2 aq=>?_) ?_
  exact dv pv
  refine vk aB (λx w2 aq=>?_) ?_
  exact dv pv
  refine vc (λ_ _ _=>zp rfl pv) ?_
  refine vc (λx w2 aq=>?_) ?_
  refine zm ?_
  exact pv (by exact rfl)
  refine vc (λx w2 aq=>?_) ?_
  exact dv pv
  refine vk aB (λx w2 aq=>?_) ?_
  exact dv pv
  refine vk aB (λx w2 aq=>?_) ?_
  exact dv pv
  refine vk aB (λx w2 aq=>?_) ?_
  exact dv pv
  refine vk aB (λx w2 aq=>?_) ?_
  exact dv pv
  refine vc (λx w2 aq=>?_) ?_
  exact dv pv
  refine vc (λ_ _ _=>zp rfl pv) ?_
  refine vc (λx w2 aq=>?_) ?_
  refine zm ?_
  exact pv (by exact rfl)
  refine vc (λx w2 aq=>?_) ?_
  exact dv pv
  refine vk aB (λx w2 aq=>?_) ?_
  exact dv pv
  refine vk aB (λx w2 aq=>?_) ?_
  exact dv pv
  refine vk aB (λx w2 aq=>?_) ?_
  exact dv pv
  refine vk aB (λx w2 aq=>?_) ?_
  exact dv pv
  refine vc (λx w2 aq=>?_) ?_
  exact dv pv
  refine vc (λ_ _ _=>zp rfl pv) ?_
  refine vc (λ_ _ _=>zp rfl pv) ?_
  exact trivial
  intro x pY iC
  have hK:=hK.ext iC
  change OW _ _ _ _ [] (aM (aN _ x _) (zZ 52 [_,_,_,_,_,_,_,_,_,_,_,_,_,_,_,_,_,_,_,_,_,_,_,_,_,_,_,_,_,_,_,_,_,_,_,_,_,_,_,_])) _
  refine ag ?_
  exact⟨(),⟨rfl,rfl,rfl,cA Value.bool (show true=_ from by unfold B2;rw[dT h5,h2];rfl)⟩,hK,iC⟩
  obtain⟨h5,h2,jM⟩:=lv
  have h6:=FX h5
  obtain⟨gZ,qW,ia,bC,dh⟩:=jH 1 om
  obtain⟨jd,Az,je,bY,ew⟩:=jH 2 om
  apply mv et 40 (rA 52 40) (rA 52 40) [[],[0],[1],[2],[2,3],[2,4],[2,5],[2,6],[2,7],[2,8],[2,9],[10],[10,11],[10,12],[10,13],[10,14],[10],[10,16],[10,17],[10,18],[10,19],[10,15,20],[2,10,21],[2,22],[23],[23,24],[23,25],[23,26],[23,27],[23,28],[2,23,29],[2,30],[31],[31,32],[31,33],[31,34],[31,35],[31,36],[2,31,37],[2,38]] [It.v _,It.v _,It.v (.bool true),It.v _,It.v _,It.v _,It.v _,It.v _,It.v _,It.v _,It.v (.bool false),It.v _,It.v _,It.v _,It.v _,It.v _,It.v _,It.v _,It.v _,It.v _,It.v _,It.v _,It.v _,It.v (.bool true),It.v _,It.v _,It.v _,It.v _,It.v _,It.v _,It.v _,It.v (.bool true),It.v _,It.v _,It.v _,It.v _,It.v _,It.v _,It.v _,It.v _] de rfl
  intro wd aB
  refine eK ?_
  refine vk aB (λx w2 aq=>?_) ?_
  refine dQ rfl rfl rfl ?_
  exact pv
  refine vc (λx w2 aq=>?_) ?_
  refine zm ?_
  exact pv (by exact cA Value.bool (dT om))
  refine vc (λ_ _ _=>zf cN rfl pv) ?_
  refine vk aB (λx w2 aq=>?_) ?_
  have aT:=aT.ext aq
  refine zl cK rfl (aT.at rfl) ?_
  exact pv
  refine vk aB (λx w2 aq=>?_) ?_
  refine zi (i:=2) cw aH rfl rfl om ?_
  exact pv
  refine vc (λ_ _ _=>zf dB rfl pv) ?_
  refine vk aB (λx w2 aq=>?_) ?_
  have bY:=bY.ext aq
  refine zl cm rfl (bY 0 _ rfl) ?_
  exact pv
  refine vk aB (λx w2 aq=>?_) ?_
  refine aC (vh _ _) ?_
  rintro _ _ ⟨rfl,rfl⟩
  exact pv
  refine vc (λ_ _ _=>eM rfl pv) ?_
  refine vc (λx w2 aq=>?_) ?_
  refine zm ?_
  exact pv (by exact cA Value.bool (show(!eQ (nth t.au 2).az)=false from by rw[h2];rfl))
  refine vc (λ_ _ _=>zf cN rfl pv) ?_
  refine vk aB (λx w2 aq=>?_) ?_
  have aT:=aT.ext aq
  refine zl cK rfl (aT.at rfl) ?_
  exact pv
  refine vk aB (λx w2 aq=>?_) ?_
  refine zi (i:=1) cw aH rfl rfl om ?_
  exact pv
  refine vc (λ_ _ _=>zf dB rfl pv) ?_
  refine vk aB (λx w2 aq=>?_) ?_
  have bC:=bC.ext aq
  refine zl cm rfl (bC 0 _ rfl) ?_
  exact pv
  refine vc (λ_ _ _=>zf cN rfl pv) ?_
  refine vk aB (λx w2 aq=>?_) ?_
  have aT:=aT.ext aq
  refine zl cK rfl (aT.at rfl) ?_
  exact pv
  refine vk aB (λx w2 aq=>?_) ?_
  refine zi (i:=2) cw aH rfl rfl om ?_
  exact pv
  refine vc (λ_ _ _=>zf dB rfl pv) ?_
  refine vk aB (λx w2 aq=>?_) ?_
  have bY:=bY.ext aq
  refine zl cm rfl (bY 0 _ rfl) ?_
  exact pv
  refine vk aB (λx w2 aq=>?_) ?_
  refine cY rfl rfl ?_
  exact pv
  refine vc (λ_ _ _=>zp rfl pv) ?_
  refine vc (λx w2 aq=>?_) ?_
  refine zm ?_
  exact pv (by exact cA Value.bool (dT jM))
  refine vc (λx w2 aq=>?_) ?_
  exact dv pv
  refine vk aB (λx w2 aq=>?_) ?_
  exact dv pv
  refine vk aB (λx w2 aq=>?_) ?_
  exact dv pv
  refine vk aB (λx w2 aq=>?_) ?_
  exact dv pv
  refine vk aB (λx w2 aq=>?_) ?_
  exact dv pv
  refine vc (λx w2 aq=>?_) ?_
  exact dv pv
  refine vc (λ_ _ _=>zp rfl pv) ?_
  refine vc (λx w2 aq=>?_) ?_
  refine zm ?_
  exact pv (by exact rfl)
  refine vc (λx w2 aq=>?_) ?_
  exact dv pv
  refine vk aB (λx w2 aq=>?_) ?_
  exact dv pv
  refine vk aB (λx w2 aq=>?_) ?_
  exact dv pv
  refine vk aB (λx w2 aq=>?_) ?_
  exact dv pv
  refine vk aB (λx w2 aq=>?_) ?_
  exact dv pv
  refine vc (λx w2 aq=>?_) ?_
  exact dv pv
  refine vc (λ_ _ _=>zp rfl pv) ?_
  refine vc (λ_ _ _=>zp rfl pv) ?_
  exact trivial
  intro x pY iC
  have hK:=hK.ext iC
  change OW _ _ _ _ [] (aM (aN _ x _) (zZ 52 [_,_,_,_,_,_,_,_,_,_,_,_,_,_,_,_,_,_,_,_,_,_,_,_,_,_,_,_,_,_,_,_,_,_,_,_,_,_,_,_])) _
  refine ag ?_
  exact⟨(),⟨rfl,rfl,rfl,cA Value.bool (show true=_ from by unfold B2;rw[dT h5,h2,dF (λh=>h jM)];rfl)⟩,hK,iC⟩
  obtain⟨h5,h2,jM,h3⟩:=lv
  have h6:=FX h5
  obtain⟨gZ,qW,ia,bC,dh⟩:=jH 1 om
  obtain⟨jd,Az,je,bY,ew⟩:=jH 2 om
  obtain⟨pZ,Te,p3,eu,fa⟩:=jH 3 om
  have gd:=l3 (t:=t) (i:=3) om
  apply mv et 40 (rA 52 40) (rA 52 40) [[],[0],[1],[2],[2,3],[2,4],[2,5],[2,6],[2,7],[2,8],[2,9],[10],[10,11],[10,12],[10,13],[10,14],[10],[10,16],[10,17],[10,18],[10,19],[10,15,20],[2,10,21],[2,22],[23],[23,24],[23,25],[23,26],[23,27],[23,28],[2,23,29],[2,30],[31],[31,32],[31,33],[31,34],[31,35],[31,36],[2,31,37],[2,38]] [It.v _,It.v _,It.v (.bool true),It.v _,It.v _,It.v _,It.v _,It.v _,It.v _,It.v _,It.v (.bool false),It.v _,It.v _,It.v _,It.v _,It.v _,It.v _,It.v _,It.v _,It.v _,It.v _,It.v _,It.v _,It.v (.bool false),It.v _,It.v _,It.v _,It.v _,It.v _,It.v _,It.v _,It.v (.bool true),It.v _,It.v _,It.v _,It.v _,It.v _,It.v _,It.v _,It.v _] de rfl
  intro wd aB
  refine eK ?_
  refine vk aB (λx w2 aq=>?_) ?_
  refine dQ rfl rfl rfl ?_
  exact pv
  refine vc (λx w2 aq=>?_) ?_
  refine zm ?_
  exact pv (by exact cA Value.bool (dT om))
  refine vc (λ_ _ _=>zf cN rfl pv) ?_
  refine vk aB (λx w2 aq=>?_) ?_
  have aT:=aT.ext aq
  refine zl cK rfl (aT.at rfl) ?_
  exact pv
  refine vk aB (λx w2 aq=>?_) ?_
  refine zi (i:=2) cw aH rfl rfl om ?_
  exact pv
  refine vc (λ_ _ _=>zf dB rfl pv) ?_
  refine vk aB (λx w2 aq=>?_) ?_
  have bY:=bY.ext aq
  refine zl cm rfl (bY 0 _ rfl) ?_
  exact pv
  refine vk aB (λx w2 aq=>?_) ?_
  refine aC (vh _ _) ?_
  rintro _ _ ⟨rfl,rfl⟩
  exact pv
  refine vc (λ_ _ _=>eM rfl pv) ?_
  refine vc (λx w2 aq=>?_) ?_
  refine zm ?_
  exact pv (by exact cA Value.bool (show(!eQ (nth t.au 2).az)=false from by rw[h2];rfl))
  refine vc (λ_ _ _=>zf cN rfl pv) ?_
  refine vk aB (λx w2 aq=>?_) ?_
  have aT:=aT.ext aq
  refine zl cK rfl (aT.at rfl) ?_
  exact pv
  refine vk aB (λx w2 aq=>?_) ?_
  refine zi (i:=1) cw aH rfl rfl om ?_
  exact pv
  refine vc (λ_ _ _=>zf dB rfl pv) ?_
  refine vk aB (λx w2 aq=>?_) ?_
  have bC:=bC.ext aq
  refine zl cm rfl (bC 0 _ rfl) ?_
  exact pv
  refine vc (λ_ _ _=>zf cN rfl pv) ?_
  refine vk aB (λx w2 aq=>?_) ?_
  have aT:=aT.ext aq
  refine zl cK rfl (aT.at rfl) ?_
  exact pv
  refine vk aB (λx w2 aq=>?_) ?_
  refine zi (i:=2) cw aH rfl rfl om ?_
  exact pv
  refine vc (λ_ _ _=>zf dB rfl pv) ?_
  refine vk aB (λx w2 aq=>?_) ?_
  have bY:=bY.ext aq
  refine zl cm rfl (bY 0 _ rfl) ?_
  exact pv
  refine vk aB (λx w2 aq=>?_) ?_
  refine cY rfl rfl ?_
  exact pv
  refine vc (λ_ _ _=>zp rfl pv) ?_
  refine vc (λx w2 aq=>?_) ?_
  refine zm ?_
  exact pv (by exact cA Value.bool (dF jM))
  refine vc (λ_ _ _=>zf cN rfl pv) ?_
  refine vk aB (λx w2 aq=>?_) ?_
  have aT:=aT.ext aq
  refine zl cK rfl (aT.at rfl) ?_
  exact pv
  refine vk aB (λx w2 aq=>?_) ?_
  refine zi (i:=3) cw aH rfl rfl om ?_
  exact pv
  refine vk aB (λx w2 aq=>?_) ?_
  have eu:=eu.ext aq
  refine zL bU aH rfl eu rfl ?_
  exact pv
  refine vk aB (λx w2 aq=>?_) ?_
  have fa:=fa.ext aq
  refine aC (AA (nth t.au 3) om (dz.nth om) _ _ w2 fa) ?_
  rintro v3 w3 ⟨er,aJ⟩
  have gd:=aJ.size
  obtain rfl:=er
  exact pk aJ
  refine vc (λ_ _ _=>eM rfl pv) ?_
  refine vc (λ_ _ _=>zp rfl pv) ?_
  refine vc (λx w2 aq=>?_) ?_
  refine zm ?_
  exact pv (by exact cA Value.bool (show(!ku (nth t.au 3))=true from by rw[h3];rfl))
  refine vc (λx w2 aq=>?_) ?_
  exact dv pv
  refine vk aB (λx w2 aq=>?_) ?_
  exact dv pv
  refine vk aB (λx w2 aq=>?_) ?_
  exact dv pv
  refine vk aB (λx w2 aq=>?_) ?_
  exact dv pv
  refine vk aB (λx w2 aq=>?_) ?_
  exact dv pv
  refine vc (λx w2 aq=>?_) ?_
  exact dv pv
  refine vc (λ_ _ _=>zp rfl pv) ?_
  refine vc (λ_ _ _=>zp rfl pv) ?_
  exact trivial
  intro x pY iC
  have hK:=hK.ext iC
  change OW _ _ _ _ [] (aM (aN _ x _) (zZ 52 [_,_,_,_,_,_,_,_,_,_,_,_,_,_,_,_,_,_,_,_,_,_,_,_,_,_,_,_,_,_,_,_,_,_,_,_,_,_,_,_])) _
  refine ag ?_
  exact⟨(),⟨rfl,rfl,rfl,cA Value.bool (show true=_ from by unfold B2;rw[dT h5,h2,h3,Bool.and_false];rfl)⟩,hK,iC⟩
  obtain⟨h5,h2,jM,h3,h4⟩:=lv
  have h6:=FX h5
  obtain⟨gZ,qW,ia,bC,dh⟩:=jH 1 om
  obtain⟨jd,Az,je,bY,ew⟩:=jH 2 om
  obtain⟨pZ,Te,p3,eu,fa⟩:=jH 3 om
  obtain⟨MF,pn4,MG,jL,p4⟩:=jH 4 om
  have gd:=l3 (t:=t) (i:=3) om
  have gK:=l3 (t:=t) (i:=4) om
  apply mv et 40 (rA 52 40) (rA 52 40) [[],[0],[1],[2],[2,3],[2,4],[2,5],[2,6],[2,7],[2,8],[2,9],[10],[10,11],[10,12],[10,13],[10,14],[10],[10,16],[10,17],[10,18],[10,19],[10,15,20],[2,10,21],[2,22],[23],[23,24],[23,25],[23,26],[23,27],[23,28],[2,23,29],[2,30],[31],[31,32],[31,33],[31,34],[31,35],[31,36],[2,31,37],[2,38]] [It.v _,It.v _,It.v (.bool true),It.v _,It.v _,It.v _,It.v _,It.v _,It.v _,It.v _,It.v (.bool false),It.v _,It.v _,It.v _,It.v _,It.v _,It.v _,It.v _,It.v _,It.v _,It.v _,It.v _,It.v _,It.v (.bool false),It.v _,It.v _,It.v _,It.v _,It.v _,It.v _,It.v _,It.v (.bool false),It.v _,It.v _,It.v _,It.v _,It.v _,It.v _,It.v _,It.v _] de rfl
  intro wd aB
  refine eK ?_
  refine vk aB (λx w2 aq=>?_) ?_
  refine dQ rfl rfl rfl ?_
  exact pv
  refine vc (λx w2 aq=>?_) ?_
  refine zm ?_
  exact pv (by exact cA Value.bool (dT om))
  refine vc (λ_ _ _=>zf cN rfl pv) ?_
  refine vk aB (λx w2 aq=>?_) ?_
  have aT:=aT.ext aq
  refine zl cK rfl (aT.at rfl) ?_
  exact pv
  refine vk aB (λx w2 aq=>?_) ?_
  refine zi (i:=2) cw aH rfl rfl om ?_
  exact pv
  refine vc (λ_ _ _=>zf dB rfl pv) ?_
  refine vk aB (λx w2 aq=>?_) ?_
  have bY:=bY.ext aq
  refine zl cm rfl (bY 0 _ rfl) ?_
  exact pv
  refine vk aB (λx w2 aq=>?_) ?_
  refine aC (vh _ _) ?_
  rintro _ _ ⟨rfl,rfl⟩
  exact pv
  refine vc (λ_ _ _=>eM rfl pv) ?_
  refine vc (λx w2 aq=>?_) ?_
  refine zm ?_
  exact pv (by exact cA Value.bool (show(!eQ (nth t.au 2).az)=false from by rw[h2];rfl))
  refine vc (λ_ _ _=>zf cN rfl pv) ?_
  refine vk aB (λx w2 aq=>?_) ?_
  have aT:=aT.ext aq
  refine zl cK rfl (aT.at rfl) ?_
  exact pv
  refine vk aB (λx w2 aq=>?_) ?_
  refine zi (i:=1) cw aH rfl rfl om ?_
  exact pv
  refine vc (λ_ _ _=>zf dB rfl pv) ?_
  refine vk aB (λx w2 aq=>?_) ?_
  have bC:=bC.ext aq
  refine zl cm rfl (bC 0 _ rfl) ?_
  exact pv
  refine vc (λ_ _ _=>zf cN rfl pv) ?_
  refine vk aB (λx w2 aq=>?_) ?_
  have aT:=aT.ext aq
  refine zl cK rfl (aT.at rfl) ?_
  exact pv
  refine vk aB (λx w2 aq=>?_) ?_
  refine zi (i:=2) cw aH rfl rfl om ?_
  exact pv
  refine vc (λ_ _ _=>zf dB rfl pv) ?_
  refine vk aB (λx w2 aq=>?_) ?_
  have bY:=bY.ext aq
  refine zl cm rfl (bY 0 _ rfl) ?_
  exact pv
  refine vk aB (λx w2 aq=>?_) ?_
  refine cY rfl rfl ?_
  exact pv
  refine vc (λ_ _ _=>zp rfl pv) ?_
  refine vc (λx w2 aq=>?_) ?_
  refine zm ?_
  exact pv (by exact cA Value.bool (dF jM))
  refine vc (λ_ _ _=>zf cN rfl pv) ?_
  refine vk aB (λx w2 aq=>?_) ?_
  have aT:=aT.ext aq
  refine zl cK rfl (aT.at rfl) ?_
  exact pv
  refine vk aB (λx w2 aq=>?_) ?_
  refine zi (i:=3) cw aH rfl rfl om ?_
  exact pv
  refine vk aB (λx w2 aq=>?_) ?_
  have eu:=eu.ext aq
  refine zL bU aH rfl eu rfl ?_
  exact pv
  refine vk aB (λx w2 aq=>?_) ?_
  have fa:=fa.ext aq
  refine aC (AA (nth t.au 3) om (dz.nth om) _ _ w2 fa) ?_
  rintro v3 w3 ⟨er,aJ⟩
  have gd:=aJ.size
  obtain rfl:=er
  exact pk aJ
  refine vc (λ_ _ _=>eM rfl pv) ?_
  refine vc (λ_ _ _=>zp rfl pv) ?_
  refine vc (λx w2 aq=>?_) ?_
  refine zm ?_
  exact pv (by exact cA Value.bool (show(!ku (nth t.au 3))=false from by rw[h3];rfl))
  refine vc (λ_ _ _=>zf cN rfl pv) ?_
  refine vk aB (λx w2 aq=>?_) ?_
  have aT:=aT.ext aq
  refine zl cK rfl (aT.at rfl) ?_
  exact pv
  refine vk aB (λx w2 aq=>?_) ?_
  refine zi (i:=4) cw aH rfl rfl om ?_
  exact pv
  refine vk aB (λx w2 aq=>?_) ?_
  have jL:=jL.ext aq
  refine zL bU aH rfl jL rfl ?_
  exact pv
  refine vk aB (λx w2 aq=>?_) ?_
  have p4:=p4.ext aq
  refine aC (AA (nth t.au 4) om (dz.nth om) _ _ w2 p4) ?_
  rintro v3 w3 ⟨er,aJ⟩
  have gd:=aJ.size
  obtain rfl:=er
  exact pk aJ
  refine vc (λ_ _ _=>eM rfl pv) ?_
  refine vc (λ_ _ _=>zp rfl pv) ?_
  refine vc (λ_ _ _=>zp rfl pv) ?_
  exact trivial
  intro x pY iC
  have hK:=hK.ext iC
  change OW _ _ _ _ [] (aM (aN _ x _) (zZ 52 [_,_,_,_,_,_,_,_,_,_,_,_,_,_,_,_,_,_,_,_,_,_,_,_,_,_,_,_,_,_,_,_,_,_,_,_,_,_,_,_])) _
  refine ag ?_
  exact⟨(),⟨rfl,rfl,rfl,cA Value.bool (show(!ku (nth t.au 4))=_ from by unfold B2;rw[dT h5,h2,h3,h4,Bool.and_false];rfl)⟩,hK,iC⟩
  obtain⟨h5,h2,jM,h3,h4⟩:=lv
  have h6:=FX h5
  obtain⟨gZ,qW,ia,bC,dh⟩:=jH 1 om
  obtain⟨jd,Az,je,bY,ew⟩:=jH 2 om
  obtain⟨pZ,Te,p3,eu,fa⟩:=jH 3 om
  obtain⟨MF,pn4,MG,jL,p4⟩:=jH 4 om
  have gd:=l3 (t:=t) (i:=3) om
  have gK:=l3 (t:=t) (i:=4) om
  apply mv et 40 (rA 52 40) (rA 52 40) [[],[0],[1],[2],[2,3],[2,4],[2,5],[2,6],[2,7],[2,8],[2,9],[10],[10,11],[10,12],[10,13],[10,14],[10],[10,16],[10,17],[10,18],[10,19],[10,15,20],[2,10,21],[2,22],[23],[23,24],[23,25],[23,26],[23,27],[23,28],[2,23,29],[2,30],[31],[31,32],[31,33],[31,34],[31,35],[31,36],[2,31,37],[2,38]] [It.v _,It.v _,It.v (.bool true),It.v _,It.v _,It.v _,It.v _,It.v _,It.v _,It.v _,It.v (.bool false),It.v _,It.v _,It.v _,It.v _,It.v _,It.v _,It.v _,It.v _,It.v _,It.v _,It.v _,It.v _,It.v (.bool false),It.v _,It.v _,It.v _,It.v _,It.v _,It.v _,It.v _,It.v (.bool false),It.v _,It.v _,It.v _,It.v _,It.v _,It.v _,It.v _,It.v _] de rfl
  intro wd aB
  refine eK ?_
  refine vk aB (λx w2 aq=>?_) ?_
  refine dQ rfl rfl rfl ?_
  exact pv
  refine vc (λx w2 aq=>?_) ?_
  refine zm ?_
  exact pv (by exact cA Value.bool (dT om))
  refine vc (λ_ _ _=>zf cN rfl pv) ?_
  refine vk aB (λx w2 aq=>?_) ?_
  have aT:=aT.ext aq
  refine zl cK rfl (aT.at rfl) ?_
  exact pv
  refine vk aB (λx w2 aq=>?_) ?_
  refine zi (i:=2) cw aH rfl rfl om ?_
  exact pv
  refine vc (λ_ _ _=>zf dB rfl pv) ?_
  refine vk aB (λx w2 aq=>?_) ?_
  have bY:=bY.ext aq
  refine zl cm rfl (bY 0 _ rfl) ?_
  exact pv
  refine vk aB (λx w2 aq=>?_) ?_
  refine aC (vh _ _) ?_
  rintro _ _ ⟨rfl,rfl⟩
  exact pv
  refine vc (λ_ _ _=>eM rfl pv) ?_
  refine vc (λx w2 aq=>?_) ?_
  refine zm ?_
  exact pv (by exact cA Value.bool (show(!eQ (nth t.au 2).az)=false from by rw[h2];rfl))
  refine vc (λ_ _ _=>zf cN rfl pv) ?_
  refine vk aB (λx w2 aq=>?_) ?_
  have aT:=aT.ext aq
  refine zl cK rfl (aT.at rfl) ?_
  exact pv
  refine vk aB (λx w2 aq=>?_) ?_
  refine zi (i:=1) cw aH rfl rfl om ?_
  exact pv
  refine vc (λ_ _ _=>zf dB rfl pv) ?_
  refine vk aB (λx w2 aq=>?_) ?_
  have bC:=bC.ext aq
  refine zl cm rfl (bC 0 _ rfl) ?_
  exact pv
  refine vc (λ_ _ _=>zf cN rfl pv) ?_
  refine vk aB (λx w2 aq=>?_) ?_
  have aT:=aT.ext aq
  refine zl cK rfl (aT.at rfl) ?_
  exact pv
  refine vk aB (λx w2 aq=>?_) ?_
  refine zi (i:=2) cw aH rfl rfl om ?_
  exact pv
  refine vc (λ_ _ _=>zf dB rfl pv) ?_
  refine vk aB (λx w2 aq=>?_) ?_
  have bY:=bY.ext aq
  refine zl cm rfl (bY 0 _ rfl) ?_
  exact pv
  refine vk aB (λx w2 aq=>?_) ?_
  refine cY rfl rfl ?_
  exact pv
  refine vc (λ_ _ _=>zp rfl pv) ?_
  refine vc (λx w2 aq=>?_) ?_
  refine zm ?_
  exact pv (by exact cA Value.bool (dF jM))
  refine vc (λ_ _ _=>zf cN rfl pv) ?_
  refine vk aB (λx w2 aq=>?_) ?_
  have aT:=aT.ext aq
  refine zl cK rfl (aT.at rfl) ?_
  exact pv
  refine vk aB (λx w2 aq=>?_) ?_
  refine zi (i:=3) cw aH rfl rfl om ?_
  exact pv
  refine vk aB (λx w2 aq=>?_) ?_
  have eu:=eu.ext aq
  refine zL bU aH rfl eu rfl ?_
  exact pv
  refine vk aB (λx w2 aq=>?_) ?_
  have fa:=fa.ext aq
  refine aC (AA (nth t.au 3) om (dz.nth om) _ _ w2 fa) ?_
  rintro v3 w3 ⟨er,aJ⟩
  have gd:=aJ.size
  obtain rfl:=er
  exact pk aJ
  refine vc (λ_ _ _=>eM rfl pv) ?_
  refine vc (λ_ _ _=>zp rfl pv) ?_
  refine vc (λx w2 aq=>?_) ?_
  refine zm ?_
  exact pv (by exact cA Value.bool (show(!ku (nth t.au 3))=false from by rw[h3];rfl))
  refine vc (λ_ _ _=>zf cN rfl pv) ?_
  refine vk aB (λx w2 aq=>?_) ?_
  have aT:=aT.ext aq
  refine zl cK rfl (aT.at rfl) ?_
  exact pv
  refine vk aB (λx w2 aq=>?_) ?_
  refine zi (i:=4) cw aH rfl rfl om ?_
  exact pv
  refine vk aB (λx w2 aq=>?_) ?_
  have jL:=jL.ext aq
  refine zL bU aH rfl jL rfl ?_
  exact pv
  refine vk aB (λx w2 aq=>?_) ?_
  have p4:=p4.ext aq
  refine aC (AA (nth t.au 4) om (dz.nth om) _ _ w2 p4) ?_
  rintro v3 w3 ⟨er,aJ⟩
  have gd:=aJ.size
  obtain rfl:=er
  exact pk aJ
  refine vc (λ_ _ _=>eM rfl pv) ?_
  refine vc (λ_ _ _=>zp rfl pv) ?_
  refine vc (λ_ _ _=>zp rfl pv) ?_
  exact trivial
  intro x pY iC
  have hK:=hK.ext iC
  change OW _ _ _ _ [] (aM (aN _ x _) (zZ 52 [_,_,_,_,_,_,_,_,_,_,_,_,_,_,_,_,_,_,_,_,_,_,_,_,_,_,_,_,_,_,_,_,_,_,_,_,_,_,_,_])) _
  refine ag ?_
  exact⟨(),⟨rfl,rfl,rfl,cA Value.bool (show(!ku (nth t.au 4))=_ from by unfold B2;rw[dT h5,h2,h3,h4,dT jM];rfl)⟩,hK,iC⟩
  intro gu qC yj hI
  obtain⟨hK,aG⟩:=hI
  have aT:=aT.ext aG;have bc:=bc.ext aG
  refine zc rfl (λh7=>?_) (λh7=>?_)
  have hz:dV t=false:=(by simp only[aE,dE,Bool.not_eq_true'] at h7;rw[oO,dF (λh=>h h7.1),h7.2];rfl)
  refine zr<|zA<|ag<|aV ?_
  exact⟨_,rfl,by rw[hz];rfl,hK⟩
  have IM:dV t=(t.au.drop (eZ (nth t.au 0).az).1).all dV:=(by simp only[Bool.and_eq_false_iff,decide_eq_false_iff_not,Bool.not_eq_false'] at h7;rw[oO];rcases h7 with h|h;(·rw[dT h];rfl);(·rw[h,Bool.or_true];rfl))
  refine bz<|aQ<|zr<|zm<|zA<|ag<|cS ?_
  refine fY (λk:Nat=>[(1,.pointer (some ⟨w.heap.size,0,none⟩)),(6,.int .i64 ((eZ (nth t.au 0).az).2:Int)),(7,.int .i64 (k:Int))]) (λk w'=>ak [] w w'∧ak [] qC w'∧(eZ (nth t.au 0).az).1<=k∧k<=t.au.length∧∀j,(eZ (nth t.au 0).az).1<=j->j<k->dV (nth t.au j)=true) (λk=>t.au.length-k) ((eZ (nth t.au 0).az).1) (⟨rfl,rfl,rfl⟩) (⟨hK,ak.refl _ _,lR _,om,by intro j h1 h2;omega⟩) ?_
  intro gg nS DT hI
  obtain⟨hK,ky,aK,hk,dA⟩:=hI
  have aT:=aT.ext ky;have bc:=bc.ext ky
  refine aQ<|zr<|zm<|zm<|fA rfl rfl rfl<|ag<|zc rfl (λh8=>?_) (λh8=>?_)
  have iw:gg<t.au.length:=om
  obtain⟨b1,ga,gZ,qW,ia,e1,bC,sB,o4⟩:=j9 bc (iK iw)
  cases e1
  subst sB
  have dh:=mT o4
  have dS:=l3 iw
  refine bz<|aQ<|cS<|zr<|zf cN rfl<|zl cK rfl (aT.at rfl)<|zm<|zi cw aH rfl rfl iw<|zL bU aH rfl bC rfl<|aC (ih (nth t.au gg) om om (dz.nth iw) _ _ nS dh) ?_
  rintro v44 p5 ⟨adn,jT⟩
  have alG:=jT.size
  have hK:=hK.ext jT;have ky:=ky.ext jT
  obtain rfl:=adn
  refine eM rfl<|ag<|zc rfl (λh9=>?_) (λh9=>?_)
  have hz:dV t=false:=(by rw[IM];exact adi aK iw (by simpa using h9))
  refine zr<|zA<|ag<|aV ?_
  exact⟨_,rfl,by rw[hz];rfl,hK⟩
  have hy:dV (nth t.au gg)=true:=(by simpa using h9)
  refine bz<|df<|zm<|eI rfl rfl rfl (wrap_i64 _ om om)<|zA<|ag ?_
  exact⟨gg+1,⟨rfl,rfl,rfl⟩,⟨hK,ky,om,om,by intro j h1 h2;rcases Nat.lt_or_ge j gg with h|h;exact dA j h1 h;rw[show j=gg by omega];exact hy⟩,om⟩
  refine gD<|gF rfl<|zr<|zA<|ag<|aV ?_
  exact⟨_,rfl,by rw[IM,adh (λj h1 h2=>dA j h1 om)];rfl,hK⟩
section
variable {P:Program} {w:World}
def ado {t ty T:TypeId} {i:TypeInfo} {z:Value} {sz bytes:Nat} (ht:P.underlying t=some (.slice T)) (hi:P.info? T=some i) (hz:i.zero=some z)
  (Bc:i.size=sz) (ij:i.bytes=bytes) (xr:z.cells.size=sz)
  {v:Value} {g:Option Nat} {n:Nat} {xs:List Value} (ey:jZ w T sz v g n xs)
  (ab aoff m c:Nat) (news:List Value) (hl:news.length=m*sz) (Bd:iS w ab aoff news) (h1:∀u∈news,u.oneCell'=true) (hm:0<m) (adp:0<i.size)
  (yY:n+m<=maxLen) (xu:(n+m)*bytes<=140737488355328):
  ∃v' g' w',(Builtin.append_ #[t,t] ty #[v,.slice (some ⟨ab,aoff,none⟩) m c]).run P w= .ok v' w'∧jZ w' T sz v' g' (n+m) (xs++news)∧
   ((g'=g∧ak g.toList w w'∧∀b,g=some b->∃cur U,aY w b cur U∧0<cur.size)∨(g'=some w.heap.size∧ak [] w w')):=by
 subst Bc
 subst ij
 have Hv:n+m<=9223372036854775807:=by simp only[maxLen] at yY;omega
 have hlen:(xs++news).length=(n+m)*i.size:=by rw[lA,ey.1,hl,Nat.add_mul]
 have vX:∀b o j:Nat,(⟨b,o,none⟩:Addr).add j=⟨b,o+j,none⟩:=λb o j=>by unfold Addr.add;split<;>simp_all
 have uz:∀j u,news[j]?=some u->w.cell? ((⟨ab,aoff,none⟩:Addr).add j)=some u:=λj u hu=>by rw[vX];exact Bd j u hu
 have grown:∀(old:Nat),old<n+m->
   jZ (w.drew.alloc (.cells (xs.toArray++news.toArray++Builtin.zeroCells z.cells (grownCap w (n+m) old T-(n+m))) T)) T i.size
    (.slice (some ⟨w.heap.size,0,none⟩) (n+m) (grownCap w (n+m) old T)) (some w.heap.size) (n+m) (xs++news)∧
   ak [] w (w.drew.alloc (.cells (xs.toArray++news.toArray++Builtin.zeroCells z.cells (grownCap w (n+m) old T-(n+m))) T)):=by
  intro old ho
  have rO:=grownCap_ge w (n+m) old T
  have mL:grownCap w (n+m) old T<=maxLen:=grownCap_le_maxLen w (n+m) old T yY
  refine⟨⟨hlen,.inr ⟨w.heap.size,_,_,rfl,rfl,heap_alloc_new w.drew _,rO,mL,?_,?_⟩⟩,⟨rfl,rfl,rfl,sm,λk hk _=>heap_alloc_old w.drew _ k hk⟩⟩
  ·simp only[Array.size_append,List.size_toArray,size_zeroCells,xr,ey.1,hl,<-Nat.add_mul]
   congr 1
   omega
  ·simp only[Array.toList_append,List.append_assoc]
   rw[<-List.append_assoc,<-hlen]
   exact List.take_left
 rcases ey.2 with⟨rfl,rfl,rfl⟩|⟨b,cap,cur,rfl,rfl,hb,nM,mL,cL,tn⟩
 ·have hx:xs=[]:=List.eq_nil_of_length_eq_zero (by simpa using ey.1)
  subst hx
  have hr:=run_append_nil (P:=P) w t ty T i z ht hi hz ⟨ab,aoff,none⟩ m c news hl uz hm om (by have hb:=xu;simp only[Nat.zero_add] at hb;omega)
  have lF:=grown 0 om
  simp only[Nat.zero_add,List.nil_append,Array.empty_append] at lF⊢
  exact⟨_,_,_,hr,lF.1,.inr ⟨rfl,lF.2⟩⟩
 ·by_cases su:n+m<=cap
  ·have lE:n*i.size+news.length<=cur.size:=by rw[hl,cL,<-Nat.add_mul];exact Nat.mul_le_mul_right _ su
   have hr:=run_append_room (P:=P) w t ty T i ht hi b n cap cur hb ⟨ab,aoff,none⟩ m c news hl uz h1 su lE
   refine⟨_,some b,_,hr,⟨hlen,.inr ⟨b,cap,_,rfl,rfl,setRow_heap w b cur _ T _ hb,su,mL,?_,?_⟩⟩,.inl ⟨rfl,⟨rfl,rfl,rfl,sm,λk _ hk=>setRow_other w b k _ (by simpa using hk)⟩,λb' gX=>?_⟩⟩
   ·simp only[List.size_toArray,lA,List.length_take,List.length_drop,Array.length_toList]
    omega
   ·rw[tn,<-hlen]
    exact List.take_left
   ·cases gX
    refine⟨cur,T,hb,?_⟩
    rw[cL]
    exact Nat.mul_pos om adp
  ·have holds:∀j u,xs[j]?=some u->w.cell? ((⟨b,0,none⟩:Addr).add j)=some u:=λj u hu=>by
    rw[vX,hb.cell]
    rw[<-tn,List.getElem?_take] at hu
    split at hu
    ·simpa using hu
    ·cases hu
   have hr:=run_append_grow (P:=P) w t ty T i z ht hi hz ⟨b,0,none⟩ n cap xs ey.1 holds ⟨ab,aoff,none⟩ m c news hl uz om om (growslice_fits om xu)
   have lF:=grown cap om
   exact⟨_,_,_,hr,lF.1,.inr ⟨rfl,lF.2⟩⟩
end
def qD (G:List Nat) (w:World) (T:TypeId) (g:Option Nat):Prop:=∀x,x∈g.toList->x∈G∨aY w x #[] T
def qD.ext {G:List Nat} {w w':World} {T:TypeId} {g:Option Nat} (h:qD G w T g) (k:ak [] w w'):qD G w' T g:=λx hx=>(h x hx).imp id λh=>h.ext k
def qD.sub {G:List Nat} {w:World} {T:TypeId} {g:Option Nat} (h:∀x,x∈g.toList->x∈G):qD G w T g:=λx hx=>.inl (h x hx)
section
variable {P:Program} {n:Nat} {ops:Array Oper} {K:Env->World->Prop} {rest:List Oper} {e:Env} {w:World} {dst:Option Nat} {ty:TypeId} {pos:String} {after:Array Edge} {g:Option (Nat×Bool)} {x y:Operand}
def DU {G L:List Nat} {t E bytes:Nat} {z:Value} {v u:Value} {gb:Option Nat} {xs ys:List aj} (hT:P.underlying t=some (.slice E)) (hE:TI P E 1 bytes z) (hg:gate ops e g=true) (hd:dy n dst=true) (hz:Nat.beq z.cells.size 1=true) (ij:Nat.ble bytes 1000=true)
  (hx:ev e x=v) (hy:ev e y=u) (hO:dj w E v gb xs) (hu:bI L w u ys) (hG:fy G w) (bD:qD G w E gb) (hn:xs.length+ys.length<100000000)
  (k:∀v' g' w' G',dj w' E v' g' (xs++ys)->qD G' w' E g'->(∀x,x∈g'.toList->x∈gb.toList∨w.heap.size<=x)->(∀x,x∈G->x∈G')->Fr G w G' w'->fy G' w'->ak gb.toList w w'->OW P n ops K rest (cQ e dst v') w'):
  OW P n ops K (⟨dst,.call {callee:=.builtin .append,args:=#[x,y],argTypes:=#[t,t]},ty,pos,after,g⟩::rest) e w:=by
 obtain⟨i,hi,Bp,iY,LS⟩:=hE.get
 have Ds:bytes<=1000:=Nat.le_of_ble_eq_true ij
 obtain⟨a2,n2,c2,rfl,fJ⟩:=eP hu
 subst fJ
 by_cases hp:0<ys.length
 ·obtain⟨ab,aoff,vs,rfl,H7,alH,hc,H2,_,iZ⟩:=Rm hu (by rw[rS];exact hp)
  have bo:=LU H2
  subst bo
  obtain⟨v',g',w',kn,xB,adq⟩:=ado (P:=P) (ty:=ty) hT hi Bp iY LS (Nat.eq_of_beq_eq_true hz) hO ab aoff ys.length c2 (ys.map λx=>str x) sm hc (by intro u hu;obtain⟨s,_,rfl⟩:=List.mem_map.1 hu;rfl) hp (by rw[iY];decide) (by simp only[maxLen];omega)
   (Nat.le_trans (Nat.mul_le_mul (show xs.length+ys.length<=100000000 by omega) Ds) de)
  have MH:dj w' E v' g' (xs++ys):=by
   unfold dj
   rw[lA,List.map_append]
   exact xB
  refine fT hg hd (v:=v') (w':=w') (by
   simp only[execOp,resolve,invoke,builtin,Sem.run_bind,Sem.run_pure,Result.andThen_ok,List.map_toArray,List.map_cons,List.map_nil,hx,hy,kn]) ?_
  rcases adq with⟨rfl,hk,FY⟩|⟨rfl,hk⟩
  ·have AD:∀q,q∈g'.toList->q∈G:=λq hq=>by
    rcases bD q hq with h|h
    ·exact h
    ·obtain⟨cur,U,hb,hs⟩:=FY q (by simpa using hq)
     unfold aY at h hb
     rw[h] at hb
     cases hb
     simp at hs
   exact k v' g' w' G MH (qD.sub AD) (λq hq=>.inl hq) (λq hq=>hq) (Fr.of hk AD) (λq hq=>lL (hG q hq) hk.size) hk
  ·have eW:w.heap.size<w'.heap.size:=MH.lt _ sm
   refine k v' _ w' (w.heap.size::G) MH (qD.sub sm) (λq hq=>.inr (by simp at hq;omega)) (λq hq=>mK _ hq) ⟨hk.any,λq hq=>?_⟩ (λq hq=>?_) hk.any
   ·rcases mC.1 hq with h|h
    ·right;omega
    ·exact .inl h
   ·rcases mC.1 hq with h|h
    ·omega
    ·exact lL (hG q h) hk.size
 ·have nU:ys=[]:=List.length_eq_zero_iff.1 om
  subst nU
  obtain⟨a,cap,rfl⟩:=kv hO
  have C5:xs.length<=cap:=by
   rcases hO.2 with⟨h,h2,_⟩|⟨_,_,_,_,h,_,h2,_⟩
   ·rw[h2];omega
   ·cases h;exact h2
  have kn:=Ro (P:=P) (w:=w) (t:=t) (ty:=ty) hT hi (a:=a) (m:=xs.length) (cap:=cap) C5 (a2:=a2) (c2:=c2)
  refine fT hg hd (v:=.slice a xs.length cap) (w':=w) (by
   simp only[execOp,resolve,invoke,builtin,Sem.run_bind,Sem.run_pure,Result.andThen_ok,List.map_toArray,List.map_cons,List.map_nil,hx,hy]
   have e2:([]:List aj).length=0:=rfl
   rw[e2]
   simp only[kn,Sem.run_bind,Sem.run_pure,Result.andThen_ok]) ?_
  exact k _ gb w G (by rw[List.append_nil];exact hO) bD (λq hq=>.inl hq) (λq hq=>hq) (Fr.refl _ _) hG (ak.refl _ _)
def adr {T E sz bytes:Nat} {z:Value} (hT:P.underlying T=some (.slice E)) (hE:TI P E sz bytes z) (hg:gate ops e g=true) (hd:dy n dst=true)
  (k:∀w',ak [] w w'->aY w' w.heap.size #[] E->w'.heap.size=w.heap.size+1->OW P n ops K rest (cQ e dst (.slice (some ⟨w.heap.size,0,none⟩) 0 0)) w'):
  OW P n ops K (⟨dst,.buildSlice T 0 #[],ty,pos,after,g⟩::rest) e w:=
 fT hg hd (w':=w.alloc (.cells #[] E)) (by simp[execOp,QH (P:=P) (w:=w) hT hE]) (k _ (ak.alloc _ _ _) (aY.alloc _ _ _) sm)
def gP {T E sz bytes:Nat} {z:Value} (hT:P.underlying T=some (.slice E)) (hE:TI P E sz bytes z) (k:∀w',ak [] w w'->aY w' w.heap.size #[] E->w'.heap.size=w.heap.size+1->OW P n ops K rest (cQ e dst (.slice (some ⟨w.heap.size,0,none⟩) 0 0)) w') (hg:gate ops e g=true:=by rfl) (hd:dy n dst=true:=by rfl):OW P n ops K (⟨dst,.buildSlice T 0 #[],ty,pos,after,g⟩::rest) e w:=adr hT hE hg hd k
end
def LP (N:Nat) (G G0:List Nat) (w:World) (T:TypeId) (v:Value) (xs:List aj):Prop:=∃g,dj w T v g xs∧qD G w T g∧∀x,x∈g.toList->x∉G0∧N<=x
def LP.ext {N:Nat} {G G0:List Nat} {w w':World} {T:TypeId} {v:Value} {xs:List aj} (h:LP N G G0 w T v xs) (k:ak [] w w'):LP N G G0 w' T v xs:=let⟨g,h1,h2,h3⟩:=h;⟨g,h1.ext k,h2.ext k,h3⟩
structure Out (N:Nat) (G0:List Nat) (w w':World):Prop where
 ex:∃H,ak H w w'∧∀x,x∈H->x∉G0∧N<=x
def Out.jx {N:Nat} {G0:List Nat} {w w':World} (h:Out N G0 w w') {b:Nat} {cs:Array Value} {T:TypeId} (hb:aY w b cs T) (hG:b∈G0):aY w' b cs T:=let⟨_,k,hH⟩:=h.ex;hb.aO k λhx=>(hH b hx).1 hG
def Out.since {G0 L:List Nat} {w0 w w':World} (h:Out w0.heap.size G0 w w') (k:ak L w0 w):ak L w0 w':=let⟨_,kk,hH⟩:=h.ex;k.since kk λx hx=>.inr (hH x hx).2
section
variable {P:Program} {n:Nat} {ops:Array Oper} {K:Env->World->Prop} {rest:List Oper} {e:Env} {w:World} {dst:Option Nat} {ty:TypeId} {pos:String} {after:Array Edge} {g:Option (Nat×Bool)} {x y:Operand}
def FZ {N:Nat} {G0:List Nat} {t E bytes bb:Nat} {z:Value} {u:Value} {ys:List aj} (hT:P.underlying t=some (.slice E)) (hE:TI P E 1 bytes z) (hg:gate ops e g=true) (hd:dy n dst=true) (hz:Nat.beq z.cells.size 1=true) (ij:Nat.ble bytes 1000=true)
  (hx:ev e x= .slice (some ⟨bb,0,none⟩) 0 0) (hy:ev e y=u) (hb:fi G0 w bb #[] E) (Tf:N<=bb) (hu:bI G0 w u ys) (hG:fy G0 w) (hn:ys.length<100000000)
  (k:∀v' w' G',(∀q,q∈G0->q∈G')->LP N G' G0 w' E v' ys->Fr G0 w G' w'->fy G' w'->Out N G0 w w'->OW P n ops K rest (cQ e dst v') w'):
  OW P n ops K (⟨dst,.call {callee:=.builtin .append,args:=#[x,y],argTypes:=#[t,t]},ty,pos,after,g⟩::rest) e w:=by
 refine DU hT hE hg hd hz ij hx hy hb.jx.lr hu hG (λq hq=>.inr (by simp at hq;subst hq;exact hb.jx)) (by simpa using hn) ?_
 intro v' g' w' G' hO hZ hs kz bZ hl hk
 refine k v' w' G' kz ⟨g',hO,hZ,λq hq=>⟨λTg=>?_,?_⟩⟩ bZ hl ⟨_,hk,λq hq=>?_⟩
 ·rcases hs q hq with h|h
  ·simp at h;subst h;exact hb.out Tg
  ·have:=hG q Tg;omega
 ·rcases hs q hq with h|h
  ·simp at h;subst h;exact Tf
  ·have:=hb.jx.lt;omega
 ·simp at hq;subst hq;exact⟨hb.out,Tf⟩
def IN {N:Nat} {G G0:List Nat} {t E bytes:Nat} {z:Value} {v u:Value} {xs ys:List aj} (hT:P.underlying t=some (.slice E)) (hE:TI P E 1 bytes z) (hg:gate ops e g=true) (hd:dy n dst=true) (hz:Nat.beq z.cells.size 1=true) (ij:Nat.ble bytes 1000=true)
  (hx:ev e x=v) (hy:ev e y=u) (hO:LP N G G0 w E v xs) (hu:bI G w u ys) (hG:fy G w) (kz:∀q,q∈G0->q∈G) (hn:xs.length+ys.length<100000000)
  (k:∀v' w',bI G0 w' v' (xs++ys)->Fr G w G0 w'->fy G0 w'->Out N G0 w w'->OW P n ops K rest (cQ e dst v') w'):
  OW P n ops K (⟨dst,.call {callee:=.builtin .append,args:=#[x,y],argTypes:=#[t,t]},ty,pos,after,g⟩::rest) e w:=by
 obtain⟨gb,h1,h2,h3⟩:=hO
 refine DU hT hE hg hd hz ij hx hy h1 hu hG h2 hn ?_
 intro v' g' w' G' hO hZ hs Th bZ hl hk
 refine k v' w' (hO.rep λb hb jU=>?_) (bZ.to λq hq=>.inl (Th q (kz q hq))) (λq hq=>hl q (Th q (kz q hq))) ⟨_,hk,λq hq=>h3 q hq⟩
 rcases hs b (by simp[hb]) with h|h
 ·exact(h3 b h).1 jU
 ·have:=hG b (kz b jU);omega
end
def eE.out {N:Nat} {G G' G0:List Nat} {w w':World} {T:TypeId} {sz:Nat} {v:Value} {g:Option Nat} {rows:List (List C)} (h:eE G w T sz v g rows) (k:Fr G w G' w') (ho:Out N G0 w w') (hg:∀x,x∈g.toList->x∈G0):eE G' w' T sz v g rows:=
 let⟨_,kk,hH⟩:=ho.ex;h.aO k kk λx hx fH=>(hH x fH).1 (hg x hx)
section
variable {P:Program} {n:Nat} {ops:Array Oper} {K:Env->World->Prop} {rest:List Oper} {e:Env} {w:World} {pos:String} {ty:TypeId} {after:Array Edge} {g:Option (Nat×Bool)} {x y:Operand}
def sW {G:List Nat} {T sz bytes:Nat} {z v:Value} {vs:List Value} {row:List C} {E gb:Nat} {N c:Nat} {rows:List (List C)} {b o i:Nat} (kM:TI P T sz bytes z) (hg:gate ops e g=true)
  (hx:ev e x= .pointer (some ⟨b,o,none⟩)) (hy:ev e y=v) (hv:v.cells=vs.toArray) (ho:o=i*sz) (hO:eE G w E sz (.slice (some ⟨b,0,none⟩) N c) (some gb) rows) (hG:fy G w) (oI:gb∈G) (hi:i<rows.length) (h1:vs.all Value.oneCell'=true)
  (oH:row.length=sz) (hr:dR G w vs row)
  (k:∀w',ak [gb] w w'->w'.heap.size=w.heap.size->eE G w' E sz (.slice (some ⟨b,0,none⟩) N c) (some gb) (rows.set i row)->OW P n ops K rest e w'):
  OW P n ops K (⟨none,.store T x y,ty,pos,after,g⟩::rest) e w:=by
 obtain⟨⟨xs,ey,jo⟩,iZ⟩:=hO
 have rW:∀q,q∈gb::G.filter (λq=>decide (q≠gb))->q∈G∨w.heap.size<=q:=λq hq=>by
  rcases mC.1 hq with h|h
  ·exact .inl (h▸oI)
  ·exact .inl (List.mem_filter.1 h).1
 have hGr:Gr 0 (G.filter λq=>decide (q≠gb)) w E sz (.slice (some ⟨b,0,none⟩) N c) (some gb) rows:=
  ⟨⟨xs,ey,jo.fresh rW,iZ,λq hq oO=>by cases hq;simpa using(List.mem_filter.1 oO).2⟩,λ_ _=>Nat.zero_le _,λq hq=>hG q (List.mem_filter.1 hq).1,Nat.zero_le _⟩
 refine abR kM hg hx hy hv ho hGr hi h1 oH (hr.fresh rW) ?_
 intro w' hk hz kr
 obtain⟨xs',h'⟩:=kr.own
 refine k w' hk hz ⟨⟨xs',h'.own,h'.rep.fresh λq hq=>?_⟩,h'.row⟩
 by_cases Ti:q=gb
 ·exact .inl (by simp[Ti])
 ·exact .inl (by simp[Ti,hq])
end
def adt {s:aj} {t:aA} (h:Dw s t):(((ba s).isSome&&dV t)&&decide ((fP t:Int)<=120))=my s:=by
 unfold my IJ
 cases hp:ba s with
 |none=>rfl
 |some u=>rw[h.1 u hp];exact cA (λb=>dV u&&b) (decide_eq_decide.2 om)
def F0 (s:aj) (L:List Nat) (w:World) (hL:∀x,x∈L->x<w.heap.size):
  ck Tryz.prog 81 [str s] w λv w'=>(∃t tv,v= .tuple #[tv,.bool (my s)]∧bT L w' tv t∧Dw s t)∧ak [] w w':=by
 have hK:=ak.refl [] w
 refine lH [.cell 2 66,.tmp 3] 22 Tryz.func81 rfl ZB rfl rfl rfl ?_
 refine zr<|eD aH rfl rfl rfl ?_
 intro w1 aK aZ eh
 have hK:=hK.grow;have hK:=hK.ext aK
 refine zA<|ag<|zr<|zm<|aC (H3 s (w.heap.size::L) w1 (by intro x hx;rcases mC.1 hx with rfl|hx;omega;have:=hL x hx;omega)) ?_
 rintro v2 w2 ⟨dC,aq⟩
 have eH:=aq.size
 have hK:=hK.ext aq;have aZ:=aZ.ext aq
 obtain⟨t,tv,rfl,ht,hp⟩:=dC
 obtain⟨pa,pn,pc,rfl,fR,bc⟩:=dO ht
 subst fR
 have dz:∀h:(ba s).isSome=true,WF t∧t.size<=12001:=λh=>Dv hp.1 h
 refine zm<|zx (i:=0) rfl rfl<|zx (i:=1) rfl rfl<|eD aH rfl rfl rfl ?_
 intro w3 aJ aI iJ
 have hK:=hK.grow;have hK:=hK.ext aJ;have aZ:=aZ.grow;have aZ:=aZ.ext aJ;have ht:=ht.grow;have ht:=ht.ext aJ
 refine dw aH rfl rfl rfl aI rfl ?_
 intro w4 aF aI iU
 have hK:=hK.aL aF sx;have aZ:=aZ.aL aF sx;have ht:=ht.aL aF sx
 refine zA<|ag<|aQ ?_
 refine ql et (cR w.heap.size ([str t.az,.slice pa t.au.length pc]) 66) 13 (rA 11 11++[100011,3]) (rA 11 11++[100011,3]) [[],[],[1],[2],[2,3],[2,4],[5],[6],[6,7],[6,8],[6,9],[0],[10]] [λv _=>v=(.agg #[str t.az,.slice pa t.au.length pc]),λv _=>v=(.bool ((ba s).isSome)),λv _=>v=(.bool ((ba s).isSome)),λv _=>((ba s).isSome)=true->v=(.agg #[str t.az,.slice pa t.au.length pc]),λv _=>((ba s).isSome)=true->v=(.bool (dV t)),λv _=>v=(.bool ((ba s).isSome&&dV t)),λv _=>v=(.bool ((ba s).isSome&&dV t)),λv _=>((ba s).isSome&&dV t)=true->v=(.agg #[str t.az,.slice pa t.au.length pc]),λv _=>((ba s).isSome&&dV t)=true->v=(.int .i64 (fP t:Int)),λv _=>((ba s).isSome&&dV t)=true->v=(.bool (decide ((fP t:Int)<=120))),λv _=>v=(.bool (((ba s).isSome&&dV t)&&decide ((fP t:Int)<=120))),λ_ ww=>aY ww w.heap.size ([str t.az,.slice pa t.au.length pc]).toArray 66,λv _=>v=(.bool (((ba s).isSome&&dV t)&&decide ((fP t:Int)<=120)))] de (cZ (cZ (cZ (eX (eX (cZ (cZ (eX (eX (eX (cZ (C6 (cZ trivial))))))))))))) (λwd aB=>?_) ?_
 refine bN ?_ ?_
 intro x vs w5 e aU hd he
 replace aU:=(cR w.heap.size ([str t.az,.slice pa t.au.length pc]) 66).trans aB aU
 have aI:=aI.aL aU.1 sx
 replace he:e=aM (aN _ x _) []:=he
 subst he
 refine zL bU aH rfl aI.all rfl<|ag ?_
 exact dn ((cR w.heap.size ([str t.az,.slice pa t.au.length pc]) 66).refl _) rfl
 refine bN ?_ ?_
 intro x vs w5 e aU hd he
 replace aU:=(cR w.heap.size ([str t.az,.slice pa t.au.length pc]) 66).trans aB aU
 replace he:e=aM (aN _ x _) []:=he
 subst he
 refine zm<|ag ?_
 exact dn ((cR w.heap.size ([str t.az,.slice pa t.au.length pc]) 66).refl _) rfl
 refine bN ?_ ?_
 intro x vs w5 e aU hd he
 have d1:vs 1=(.bool ((ba s).isSome)):=hd
 replace aU:=(cR w.heap.size ([str t.az,.slice pa t.au.length pc]) 66).trans aB aU
 replace he:e=aM (aN _ x _) [(12,vs 1)]:=he
 rw[d1] at he
 subst he
 refine zm<|ag ?_
 exact dn ((cR w.heap.size ([str t.az,.slice pa t.au.length pc]) 66).refl _) rfl
 refine bN ?_ ?_
 intro x vs w5 e aU hd he
 have d2:vs 2=(.bool ((ba s).isSome)):=hd
 replace aU:=(cR w.heap.size ([str t.az,.slice pa t.au.length pc]) 66).trans aB aU
 have aI:=aI.aL aU.1 sx
 rcases bE ((ba s).isSome) with hg|hg
 rw[hg] at d2
 replace he:e=aM (aN _ x _) [(13,vs 2)]:=he
 rw[d2] at he
 subst he
 refine zL bU aH rfl aI.all rfl<|ag ?_
 exact dn ((cR w.heap.size ([str t.az,.slice pa t.au.length pc]) 66).refl _) (show((ba s).isSome)=true->_=((.agg #[str t.az,.slice pa t.au.length pc]):Value) from λ_=>rfl)
 rw[hg] at d2
 replace he:e=aM (aN _ x _) [(13,vs 2)]:=he
 rw[d2] at he
 subst he
 refine zs<|ag ?_
 exact dn ((cR w.heap.size ([str t.az,.slice pa t.au.length pc]) 66).refl _) (show((ba s).isSome)=true->_=(_:Value) from λhh=>nomatch hg.symm.trans hh)
 refine bN ?_ ?_
 intro x vs w5 e aU hd he
 have aR:(vs 2=(.bool ((ba s).isSome)))∧(((ba s).isSome)=true->vs 3=(.agg #[str t.az,.slice pa t.au.length pc])):=hd
 obtain⟨d2,d3⟩:=aR
 replace aU:=(cR w.heap.size ([str t.az,.slice pa t.au.length pc]) 66).trans aB aU
 have ht:=ht.aL aU.1 sx
 rcases bE ((ba s).isSome) with hg|hg
 rw[hg] at d2
 replace d3:=d3 hg
 replace he:e=aM (aN _ x _) [(13,vs 2),(14,vs 3)]:=he
 rw[d2,d3] at he
 subst he
 refine aC (adk t.size t (lR _) (by have:=(dz hg).2;omega) (dz hg).1 _ _ w5 ht) ?_
 rintro v6 w6 ⟨lx,bF⟩
 have oS:=bF.size
 obtain rfl:=lx
 refine ag ?_
 exact dn ((cR w.heap.size ([str t.az,.slice pa t.au.length pc]) 66).of bF) (show((ba s).isSome)=true->_=((.bool (dV t)):Value) from λ_=>rfl)
 rw[hg] at d2
 replace he:e=aM (aN _ x _) [(13,vs 2),(14,vs 3)]:=he
 rw[d2] at he
 subst he
 refine zs<|ag ?_
 exact dn ((cR w.heap.size ([str t.az,.slice pa t.au.length pc]) 66).refl _) (show((ba s).isSome)=true->_=(_:Value) from λhh=>nomatch hg.symm.trans hh)
 refine bN ?_ ?_
 intro x vs w5 e aU hd he
 have aR:(vs 2=(.bool ((ba s).isSome)))∧(((ba s).isSome)=true->vs 4=(.bool (dV t))):=hd
 obtain⟨d2,d4⟩:=aR
 replace aU:=(cR w.heap.size ([str t.az,.slice pa t.au.length pc]) 66).trans aB aU
 rcases bE ((ba s).isSome) with hg|hg
 rw[hg] at d2
 replace d4:=d4 hg
 replace he:e=aM (aN _ x _) [(13,vs 2),(15,vs 4)]:=he
 rw[d2,d4] at he
 subst he
 refine zp rfl<|ag ?_
 exact dn ((cR w.heap.size ([str t.az,.slice pa t.au.length pc]) 66).refl _) (by first|rfl|(rw[hg];rfl))
 rw[hg] at d2
 replace he:e=aM (aN _ x _) [(13,vs 2),(15,vs 4)]:=he
 rw[d2] at he
 subst he
 refine zp rfl<|ag ?_
 exact dn ((cR w.heap.size ([str t.az,.slice pa t.au.length pc]) 66).refl _) (by first|rfl|(rw[hg];rfl))
 refine bN ?_ ?_
 intro x vs w5 e aU hd he
 have d5:vs 5=(.bool ((ba s).isSome&&dV t)):=hd
 replace aU:=(cR w.heap.size ([str t.az,.slice pa t.au.length pc]) 66).trans aB aU
 replace he:e=aM (aN _ x _) [(16,vs 5)]:=he
 rw[d5] at he
 subst he
 refine zm<|ag ?_
 exact dn ((cR w.heap.size ([str t.az,.slice pa t.au.length pc]) 66).refl _) rfl
 refine bN ?_ ?_
 intro x vs w5 e aU hd he
 have d6:vs 6=(.bool ((ba s).isSome&&dV t)):=hd
 replace aU:=(cR w.heap.size ([str t.az,.slice pa t.au.length pc]) 66).trans aB aU
 have aI:=aI.aL aU.1 sx
 rcases bE ((ba s).isSome&&dV t) with hg|hg
 rw[hg] at d6
 replace he:e=aM (aN _ x _) [(17,vs 6)]:=he
 rw[d6] at he
 subst he
 refine zL bU aH rfl aI.all rfl<|ag ?_
 exact dn ((cR w.heap.size ([str t.az,.slice pa t.au.length pc]) 66).refl _) (show((ba s).isSome&&dV t)=true->_=((.agg #[str t.az,.slice pa t.au.length pc]):Value) from λ_=>rfl)
 rw[hg] at d6
 replace he:e=aM (aN _ x _) [(17,vs 6)]:=he
 rw[d6] at he
 subst he
 refine zs<|ag ?_
 exact dn ((cR w.heap.size ([str t.az,.slice pa t.au.length pc]) 66).refl _) (show((ba s).isSome&&dV t)=true->_=(_:Value) from λhh=>nomatch hg.symm.trans hh)
 refine bN ?_ ?_
 intro x vs w5 e aU hd he
 have aR:(vs 6=(.bool ((ba s).isSome&&dV t)))∧(((ba s).isSome&&dV t)=true->vs 7=(.agg #[str t.az,.slice pa t.au.length pc])):=hd
 obtain⟨d6,d7⟩:=aR
 replace aU:=(cR w.heap.size ([str t.az,.slice pa t.au.length pc]) 66).trans aB aU
 have ht:=ht.aL aU.1 sx
 rcases bE ((ba s).isSome&&dV t) with hg|hg
 rw[hg] at d6
 replace d7:=d7 hg
 replace he:e=aM (aN _ x _) [(17,vs 6),(18,vs 7)]:=he
 rw[d6,d7] at he
 subst he
 refine aC (S5 t.size t (lR _) (by have:=(dz ((aE _ _).mp hg).1).2;omega) (dz ((aE _ _).mp hg).1).1 _ _ w5 ht) ?_
 rintro v6 w6 ⟨lx,bF⟩
 have oS:=bF.size
 obtain rfl:=lx
 refine ag ?_
 exact dn ((cR w.heap.size ([str t.az,.slice pa t.au.length pc]) 66).of bF) (show((ba s).isSome&&dV t)=true->_=((.int .i64 (fP t:Int)):Value) from λ_=>rfl)
 rw[hg] at d6
 replace he:e=aM (aN _ x _) [(17,vs 6),(18,vs 7)]:=he
 rw[d6] at he
 subst he
 refine zs<|ag ?_
 exact dn ((cR w.heap.size ([str t.az,.slice pa t.au.length pc]) 66).refl _) (show((ba s).isSome&&dV t)=true->_=(_:Value) from λhh=>nomatch hg.symm.trans hh)
 refine bN ?_ ?_
 intro x vs w5 e aU hd he
 have aR:(vs 6=(.bool ((ba s).isSome&&dV t)))∧(((ba s).isSome&&dV t)=true->vs 8=(.int .i64 (fP t:Int))):=hd
 obtain⟨d6,d8⟩:=aR
 replace aU:=(cR w.heap.size ([str t.az,.slice pa t.au.length pc]) 66).trans aB aU
 rcases bE ((ba s).isSome&&dV t) with hg|hg
 rw[hg] at d6
 replace d8:=d8 hg
 replace he:e=aM (aN _ x _) [(17,vs 6),(19,vs 8)]:=he
 rw[d6,d8] at he
 subst he
 refine qQ rfl rfl rfl rfl rfl<|ag ?_
 exact dn ((cR w.heap.size ([str t.az,.slice pa t.au.length pc]) 66).refl _) (show((ba s).isSome&&dV t)=true->_=((.bool (decide ((fP t:Int)<=120))):Value) from λ_=>rfl)
 rw[hg] at d6
 replace he:e=aM (aN _ x _) [(17,vs 6),(19,vs 8)]:=he
 rw[d6] at he
 subst he
 refine zs<|ag ?_
 exact dn ((cR w.heap.size ([str t.az,.slice pa t.au.length pc]) 66).refl _) (show((ba s).isSome&&dV t)=true->_=(_:Value) from λhh=>nomatch hg.symm.trans hh)
 refine bN ?_ ?_
 intro x vs w5 e aU hd he
 have aR:(vs 6=(.bool ((ba s).isSome&&dV t)))∧(((ba s).isSome&&dV t)=true->vs 9=(.bool (decide ((fP t:Int)<=120)))):=hd
 obtain⟨d6,d9⟩:=aR
 replace aU:=(cR w.heap.size ([str t.az,.slice pa t.au.length pc]) 66).trans aB aU
 rcases bE ((ba s).isSome&&dV t) with hg|hg
 rw[hg] at d6
 replace d9:=d9 hg
 replace he:e=aM (aN _ x _) [(17,vs 6),(20,vs 9)]:=he
 rw[d6,d9] at he
 subst he
 refine zp rfl<|ag ?_
 exact dn ((cR w.heap.size ([str t.az,.slice pa t.au.length pc]) 66).refl _) (by first|rfl|(rw[hg];rfl))
 rw[hg] at d6
 replace he:e=aM (aN _ x _) [(17,vs 6),(20,vs 9)]:=he
 rw[d6] at he
 subst he
 refine zp rfl<|ag ?_
 exact dn ((cR w.heap.size ([str t.az,.slice pa t.au.length pc]) 66).refl _) (by first|rfl|(rw[hg];rfl))
 refine bN ?_ ?_
 intro x vs w5 e aU hd he
 have d0:vs 0=(.agg #[str t.az,.slice pa t.au.length pc]):=hd
 replace aU:=(cR w.heap.size ([str t.az,.slice pa t.au.length pc]) 66).trans aB aU
 obtain⟨us,vi,vj⟩:=aU.2.2 ⟨_,(by rfl),aZ⟩
 replace he:e=aM (aN _ x _) [(11,vs 0)]:=he
 rw[d0] at he
 subst he
 refine dw aH rfl rfl rfl vj (by rw[vi];rfl) ?_
 intro w6 bF hb lI
 refine ag ?_
 exact dn ⟨bF,λ_=>hb,λ_=>⟨_,rfl,hb⟩⟩ hb
 refine bN ?_ ?_
 intro x vs w5 e aU hd he
 have d10:vs 10=(.bool (((ba s).isSome&&dV t)&&decide ((fP t:Int)<=120))):=hd
 replace aU:=(cR w.heap.size ([str t.az,.slice pa t.au.length pc]) 66).trans aB aU
 replace he:e=aM (aN _ x _) [(21,vs 10)]:=he
 rw[d10] at he
 subst he
 refine zA<|ag ?_
 exact dn ((cR w.heap.size ([str t.az,.slice pa t.au.length pc]) 66).refl _) rfl
 exact trivial
 intro x vs p5 jT bJ
 have d0:vs 0=(.agg #[str t.az,.slice pa t.au.length pc]):=bJ 0 de
 have d1:vs 1=(.bool ((ba s).isSome)):=bJ 1 de
 have d2:vs 2=(.bool ((ba s).isSome)):=bJ 2 de
 have d3:((ba s).isSome)=true->vs 3=(.agg #[str t.az,.slice pa t.au.length pc]):=bJ 3 de
 have d4:((ba s).isSome)=true->vs 4=(.bool (dV t)):=bJ 4 de
 have d5:vs 5=(.bool ((ba s).isSome&&dV t)):=bJ 5 de
 have d6:vs 6=(.bool ((ba s).isSome&&dV t)):=bJ 6 de
 have d7:((ba s).isSome&&dV t)=true->vs 7=(.agg #[str t.az,.slice pa t.au.length pc]):=bJ 7 de
 have d8:((ba s).isSome&&dV t)=true->vs 8=(.int .i64 (fP t:Int)):=bJ 8 de
 have d9:((ba s).isSome&&dV t)=true->vs 9=(.bool (decide ((fP t:Int)<=120))):=bJ 9 de
 have d10:vs 10=(.bool (((ba s).isSome&&dV t)&&decide ((fP t:Int)<=120))):=bJ 10 de
 have d11:aY p5 w.heap.size ([str t.az,.slice pa t.au.length pc]).toArray 66:=bJ 11 de
 have d12:vs 12=(.bool (((ba s).isSome&&dV t)&&decide ((fP t:Int)<=120))):=bJ 12 de
 have hK:=hK.aL jT.1 sx;have ht:=ht.aL jT.1 sx
 have aZ:=d11
 change OW _ _ _ _ [] (aM (aN _ x _) (zZ 11 [vs 0,vs 1,vs 2,vs 3,vs 4,vs 5,vs 6,vs 7,vs 8,vs 9,vs 10]++[(100011,vs 11),(3,vs 12)])) _
 rw[d0,d1,d2,d5,d6,d10,d12]
 refine ag<|aV ?_
 exact⟨[_,_],⟨gQ bU aH rfl aZ rfl,rfl⟩,⟨t,_,by rw[adt hp];rfl,ht.jk (λx hx=>by simp[hx]),hp⟩,hK⟩
def MI (s:aj) (w:World):ck Tryz.prog 86 [str s] w λr w'=>r= .bool (my s)∧ak [] w w':=by
 have hK:=ak.refl [] w
 refine cX [.tmp 2] 11 Tryz.func86 rfl ZF rfl rfl ?_
 refine zr<|zA<|ag<|zr<|zm<|aC (F0 s [] w sm) ?_
 rintro v1 w1 ⟨fO,aK⟩
 have dS:=aK.size
 have hK:=hK.ext aK
 obtain⟨t,tv,rfl,ht,hp⟩:=fO
 obtain⟨pa,pn,pc,rfl,fR,bc⟩:=dO ht
 refine zm<|zx (i:=0) rfl rfl<|zx (i:=1) rfl rfl<|eD aH rfl rfl rfl ?_
 intro w2 aq bR eO
 have hK:=hK.grow;have hK:=hK.ext aq
 refine dw aH rfl rfl rfl bR rfl ?_
 intro w3 aJ bR iJ
 have hK:=hK.aL aJ sx
 refine zA<|ag<|zr<|zm<|zA<|ag<|aV ?_
 exact⟨_,rfl,rfl,hK⟩
def oe (xs ys:List aj) (s d:aj):Nat->aj
 |0=>d
 |k+1=>if aD xs k=s then aD ys k else oe xs ys s d k
def Tj {xs ys xs' ys':List aj} {s d:aj}:∀{k:Nat},(∀i,i<k->aD xs i=aD xs' i∧aD ys i=aD ys' i)->oe xs ys s d k=oe xs' ys' s d k
 |0,_=>rfl
 |k+1,h=>by
  unfold oe
  rw[(h k om).1,(h k om).2,Tj λi hi=>h i om]
def Tl {xs ys:List aj} {i:Nat} (h:i<xs.length):aD (xs++ys) i=aD xs i:=by
 simp only[aD,gG]
 rw[List.getElem?_append_left h]
def Tm {xs:List aj} {x:aj} {i:Nat} (h:i=xs.length):aD (xs++[x]) i=x:=by
 subst h;simp[aD]
def Tn {xs ys:List aj} {x y s d:aj} (h:xs.length=ys.length):oe (xs++[x]) (ys++[y]) s d (xs++[x]).length=if x=s then y else oe xs ys s d xs.length:=by
 rw[lA,List.length_singleton,oe,Tm rfl,Tm h,Tj (xs':=xs) (ys':=ys)]
 intro i hi
 exact⟨Tl hi,Tl om⟩
def To {α:Type} {Q:List α->Prop} (h0:Q []) (h1:∀l a,Q l->Q (l++[a])) (l:List α):Q l:=by
 have:∀r:List α,Q r.reverse:=by
  intro r
  induction r with
  |nil=>exact h0
  |cons a r ih=>rw[List.reverse_cons];exact h1 _ _ ih
 have:=this l.reverse
 rwa [List.reverse_reverse] at this
def Tp:Option Ty->aj
 |some T=>T.text
 |none=>[]
def Tq (s:aj):∀Γ:Sc,oe (Γ.map Prod.fst) (Γ.map λp=>p.2.text) s [] Γ.length=Tp (look Γ s):=by
 refine To rfl λΓ p ih=>?_
 ·obtain⟨x,T⟩:=p
  have:=Tn (xs:=Γ.map Prod.fst) (ys:=Γ.map λp=>p.2.text) (x:=x) (y:=T.text) (s:=s) (d:=[]) sm
  rw[mZ,List.map_append,List.map_append,lA]
  simp only[List.map_cons,List.map_nil,lA,List.length_map,List.length_singleton] at this⊢
  rw[this,ih]
  split<;>rfl
def adu (s:aj):∀ρ:Rn,oe (ρ.map Prod.fst) (ρ.map Prod.snd) s s ρ.length=ri ρ s:=by
 refine To rfl λρ p ih=>?_
 ·obtain⟨x,y⟩:=p
  have:=Tn (xs:=ρ.map Prod.fst) (ys:=ρ.map Prod.snd) (x:=x) (y:=y) (s:=s) (d:=s) sm
  rw[Fp,List.map_append,List.map_append,lA]
  simp only[List.map_cons,List.map_nil,lA,List.length_map,List.length_singleton] at this⊢
  rw[this,ih]
def F1 (xs ys:List aj) (hl:xs.length=ys.length) (hx:xs.length<=1000000000) (s:aj) (v u:Value) (L L2:List Nat) (w:World) (hv:bI L w v xs) (hu:bI L2 w u ys):
  ck Tryz.prog 153 [v,u,str s] w λr w'=>r=str (oe xs ys s [] xs.length)∧ak [] w w':=by
 obtain⟨a,n,c,rfl,hn⟩:=eP hv
 obtain⟨a2,n2,c2,rfl,fJ⟩:=eP hu
 subst hn fJ
 have hK:=ak.refl [] w
 refine cX [.tmp 6] 25 Tryz.func153 rfl Ys rfl rfl ?_
 refine zr<|zA<|ag<|aQ<|zr<|zm<|dZ bh rfl<|mN rfl rfl rfl rfl rfl (wrap_i64 _ om om)<|zA<|ag<|cS ?_
 refine fY (λk:Nat=>[(0,.slice a xs.length c),(1,.slice a2 ys.length c2),(2,str s),(7,.int .i64 ((k:Int)-1))]) (λk w'=>w'=w∧k<=xs.length∧oe xs ys s [] xs.length=oe xs ys s [] k) (λk=>k) xs.length (⟨rfl,rfl,rfl,rfl⟩) (⟨rfl,lR _,rfl⟩) ?_
 intro gg w1 e1 hI
 obtain⟨e,hk,hq⟩:=hI
 subst e
 refine aQ<|zr<|zm<|l0 rfl rfl rfl rfl rfl<|ag<|zc rfl (λh1=>?_) (λh1=>?_)
 have aR:∃k,gg=k+1:=⟨gg-1,om⟩
 obtain⟨k,rfl⟩:=aR
 have vm:=lp (xs:=xs) (i:=k) om
 have MJ:=lp (xs:=ys) (i:=k) om
 obtain⟨b1,ga,rfl,bC⟩:=qX hv vm
 obtain⟨b2,nu,rfl,bY⟩:=qX hu MJ
 have hi:((k+1:Nat):Int)-1=(k:Int):=by omega
 rw[hi]
 refine bz<|aQ<|cS<|zr<|zm<|zm<|zi bh bA rfl rfl om<|zl cm rfl (bC 0 _ rfl)<|zm<|cY rfl rfl<|ag<|zc rfl (λh2=>?_) (λh2=>?_)
 refine zr<|zm<|zm<|zi bh bA rfl rfl om<|zl cm rfl (bY 0 _ rfl)<|zA<|ag<|aV ?_
 exact⟨_,rfl,by rw[hq,oe,iP h2];rfl,hK⟩
 have eN:=h2
 refine bz<|df<|zm<|mN rfl rfl rfl rfl rfl (wrap_i64 _ om om)<|zA<|ag ?_
 exact⟨k,⟨rfl,rfl,rfl,rfl⟩,⟨rfl,om,by rw[hq,oe,iN eN]⟩,om⟩
 have h0:gg=0:=by omega
 refine gD<|gF rfl<|zr<|zA<|ag<|aV ?_
 exact⟨_,rfl,by rw[hq,h0];rfl,hK⟩
def adv (xs ys:List aj) (hl:xs.length=ys.length) (hx:xs.length<=1000000000) (s:aj) (v u:Value) (L L2:List Nat) (w:World) (hv:bI L w v xs) (hu:bI L2 w u ys):
  ck Tryz.prog 202 [v,u,str s] w λr w'=>r=str (oe xs ys s s xs.length)∧ak [] w w':=by
 obtain⟨a,n,c,rfl,hn⟩:=eP hv
 obtain⟨a2,n2,c2,rfl,fJ⟩:=eP hu
 subst hn fJ
 have hK:=ak.refl [] w
 refine cX [.tmp 6] 26 Tryz.func202 rfl YR rfl rfl ?_
 refine zr<|zA<|ag<|aQ<|zr<|zm<|dZ bh rfl<|mN rfl rfl rfl rfl rfl (wrap_i64 _ om om)<|zA<|ag<|cS ?_
 refine fY (λk:Nat=>[(0,.slice a xs.length c),(1,.slice a2 ys.length c2),(2,str s),(7,.int .i64 ((k:Int)-1))]) (λk w'=>w'=w∧k<=xs.length∧oe xs ys s s xs.length=oe xs ys s s k) (λk=>k) xs.length (⟨rfl,rfl,rfl,rfl⟩) (⟨rfl,lR _,rfl⟩) ?_
 intro gg w1 e1 hI
 obtain⟨e,hk,hq⟩:=hI
 subst e
 refine aQ<|zr<|zm<|l0 rfl rfl rfl rfl rfl<|ag<|zc rfl (λh1=>?_) (λh1=>?_)
 have aR:∃k,gg=k+1:=⟨gg-1,om⟩
 obtain⟨k,rfl⟩:=aR
 have vm:=lp (xs:=xs) (i:=k) om
 have MJ:=lp (xs:=ys) (i:=k) om
 obtain⟨b1,ga,rfl,bC⟩:=qX hv vm
 obtain⟨b2,nu,rfl,bY⟩:=qX hu MJ
 have hi:((k+1:Nat):Int)-1=(k:Int):=by omega
 rw[hi]
 refine bz<|aQ<|cS<|zr<|zm<|zm<|zi bh bA rfl rfl om<|zl cm rfl (bC 0 _ rfl)<|zm<|cY rfl rfl<|ag<|zc rfl (λh2=>?_) (λh2=>?_)
 refine zr<|zm<|zm<|zi bh bA rfl rfl om<|zl cm rfl (bY 0 _ rfl)<|zA<|ag<|aV ?_
 exact⟨_,rfl,by rw[hq,oe,iP h2];rfl,hK⟩
 have eN:=h2
 refine bz<|df<|zm<|mN rfl rfl rfl rfl rfl (wrap_i64 _ om om)<|zA<|ag ?_
 exact⟨k,⟨rfl,rfl,rfl,rfl⟩,⟨rfl,om,by rw[hq,oe,iN eN]⟩,om⟩
 have h0:gg=0:=by omega
 refine gD<|gF rfl<|zr<|zm<|zA<|ag<|aV ?_
 exact⟨_,rfl,by rw[hq,h0];rfl,hK⟩
def IP {xs:List aj}:∀row,row∈jj xs->∀c,c∈row->∀v,c= .val v->v.oneCell'=true:=by
 intro row hr
 simp only[jj,List.mem_map] at hr
 obtain⟨x,_,rfl⟩:=hr
 intro c hc u hu
 simp only[mC,nN,oF] at hc
 subst hc
 cases hu
 rfl
def Tr (xs ys:List aj):jj xs++jj ys=jj (xs++ys):=by simp[jj]
def tV (xs ys:List aj) (hx:xs.length+ys.length<100000000) (v u:Value) (L:List Nat) (w:World) (hv:bI L w v xs) (hu:bI L w u ys) (hL:∀x,x∈L->x<w.heap.size):
  ck Tryz.prog 119 [v,u] w λr w'=>bI L w' r (xs++ys)∧ak [] w w':=by
 obtain⟨a,n,c,rfl,hn⟩:=eP hv
 obtain⟨a2,n2,c2,rfl,fJ⟩:=eP hu
 subst hn fJ
 have hK:=ak.refl [] w
 refine cX [.tmp 4] 10 Tryz.func119 rfl PN rfl rfl ?_
 refine zr<|zA<|ag<|zr<|zQ w.heap.size L bh bA rfl rfl (lR _) hL ?_
 intro w1 aK eh hO
 have hK:=hK.ext aK
 have fS:=cF.ext (cF.fresh hv (L':=w.heap.size::L) zq) aK
 refine zm<|xO bh bA rfl rfl rfl rfl rfl rfl hO fS IP (by rw[rS];simp;omega) ?_
 intro a4 jf g4 w2 og aq
 have hK:=hO.since hK aq
 have MK:=cF.ext (cF.fresh hu (L':=g4.toList++L) (λx hx=>by rcases mA.1 hx with hx|hx;(·exact .inr (og.low x (by simpa using hx)));(·exact .inl hx))) hK
 refine zm<|xO bh bA rfl rfl rfl rfl rfl rfl og MK IP (by simp only[lA,rS];simp;omega) ?_
 intro a5 Tt g5 w3 ly aJ
 have hK:=og.since hK aJ
 refine zA<|ag<|aV ?_
 exact⟨_,rfl,(by have:=ly.done;rw[List.nil_append,Tr] at this;exact this),hK⟩
def sX (t:aA) (i:Nat):List aj:=if(nth t.au 0).az=gO∧i=3 then[(nth t.au 1).az] else if(nth t.au 0).az=iq then[(nth t.au 1).az,(nth t.au 2).az] else[]
def Tu {e:Ex} (h:e.ok) (ha:e.jl=false) (i:Nat):sX e.av i=e.binds i:=by
 cases e with
 |«at» s=>cases ha
 |un hd a=>
  have h1:hd≠gO∧hd≠iq:=by constructor<;>intro e<;>rw[e] at h<;>exact absurd h.1 de
  simp[sX,Ex.av,aA.au,nth,cg,aA.az,h1.1,h1.2,Ex.binds]
 |bi hd a b=>
  have h1:hd≠gO∧hd≠iq:=by constructor<;>intro e<;>rw[e] at h<;>exact absurd h.1 de
  simp[sX,Ex.av,aA.au,nth,cg,aA.az,h1.1,h1.2,Ex.binds]
 |ite a b c=>simp[sX,Ex.av,aA.au,nth,cg,aA.az,Ex.binds]
 |lt x a b=>
  by_cases h3:i=3
  ·subst h3;simp[sX,Ex.av,aA.au,nth,cg,aA.az,Ex.binds]
  ·have:(Ex.lt x a b).binds i=[]:=by unfold Ex.binds;split<;>first|rfl|simp_all
   rw[this]
   simp[sX,Ex.av,aA.au,nth,cg,aA.az,h3]
 |fn f x A B b=>simp[sX,Ex.av,aA.au,nth,cg,aA.az,Ex.binds]
def Tv (t:aA) (h0:0<t.au.length) (B3:(nth t.au 0).az=gO->1<t.au.length) (oO:(nth t.au 0).az=iq->2<t.au.length) (i:Nat) (v:Value) (L:List Nat) (w:World) (hv:bT L w v t):
  ck Tryz.prog 201 [v,.int .i64 (i:Int)] w λr w'=>(∀Lr,(∀x,x∈Lr->x<w.heap.size)->bI Lr w' r (sX t i))∧ak [] w w':=by
 obtain⟨a,n,c,rfl,hn,bc⟩:=dO hv
 subst hn
 have hK:=ak.refl [] w
 obtain⟨b,off,pa,pn,pc,rfl,eC,fR,iz⟩:=j9 bc (iK h0)
 have jH:∀i,i<t.au.length->∃pa pn pc,iS w b (off+i*2) [str (nth t.au i).az,.slice pa pn pc]:=by intro i hi;obtain⟨b1,ga,gZ,qW,ia,e1,bC,sB,o4⟩:=j9 bc (iK hi);cases e1;exact⟨_,_,_,bC⟩
 refine cX [.tmp 4] 41 Tryz.func201 rfl YQ rfl rfl ?_
 refine zr<|fG rfl ?_
 intro w1 aK aZ eh
 have hK:=hK.ext aK;have eC:=eC.ext aK
 refine zA<|ag<|aQ<|cS<|zr<|zf cN rfl<|zl cK rfl (aZ.at rfl)<|zi (i:=0) cw aH rfl rfl om<|zf dB rfl<|zl cm rfl (eC 0 _ rfl)<|cY rfl rfl<|zm ?_
 apply fZ 3 12 15 [12,13,14,15] (λw'=>w1=w') rfl
 intro h1
 replace h1:=bw h1
 refine zm<|dQ rfl rfl rfl<|zp rfl<|ag ?_
 exact mg rfl rfl
 intro h1
 replace h1:=bw h1
 refine zs<|zs<|zp rfl<|ag ?_
 exact mg rfl rfl
 rintro xx _ rfl
 refine zA<|ag<|zc rfl (λh2=>?_) (λh2=>?_)
 have hq:(nth t.au 0).az=gO∧i=3:=(by simp only[aE,dE] at h2;exact⟨h2.1,om⟩)
 obtain⟨gZ,qW,ia,bC⟩:=jH 1 (B3 hq.1)
 have bC:=bC.ext hK
 have gi:=B3 hq.1
 have hb:sX t i=[(nth t.au 1).az]:=iP hq
 refine zr<|zf cN rfl<|zl cK rfl (aZ.at rfl)<|zi (i:=1) cw aH rfl rfl om<|zf dB rfl<|zl cm rfl (bC 0 _ rfl)<|gH bh bA rfl rfl ?_
 intro w2 aq vq eO
 have hK:=hK.ext aq
 refine zA<|ag<|aV ?_
 exact⟨_,rfl,λLr IQ=>(by rw[hb];exact aY.eF [(nth t.au 1).az] vq (λhx=>by have:=IQ _ hx;omega)),hK⟩
 have wy:¬((nth t.au 0).az=gO∧i=3):=(λhh=>by simp only[Bool.and_eq_false_iff,decide_eq_false_iff_not] at h2;rcases h2 with h|h;(·exact h hh.1);(·exact h om))
 refine zr<|zf cN rfl<|zl cK rfl (aZ.at rfl)<|zi (i:=0) cw aH rfl rfl om<|zf dB rfl<|zl cm rfl (eC 0 _ rfl)<|cY rfl rfl<|zA<|ag<|zc rfl (λh3=>?_) (λh3=>?_)
 have hq:=h3
 have ja:=oO hq
 obtain⟨gZ,qW,ia,bC⟩:=jH 1 om
 obtain⟨jd,Az,je,bY⟩:=jH 2 om
 have bC:=bC.ext hK;have bY:=bY.ext hK
 have hb:sX t i=[(nth t.au 1).az,(nth t.au 2).az]:=by unfold sX;rw[iN wy,iP hq]
 refine aQ ?_
 apply wE et 11 (rA 29 11) (rA 29 11) [[],[0],[1],[2],[3],[],[5],[6],[7],[8],[4,9]] [It.v _,It.v _,It.v _,It.v _,It.v _,It.v _,It.v _,It.v _,It.v _,It.v _,It.p (fun(v:Value) (ww:World)=>∃bb,v= .slice (some ⟨bb,0,none⟩) 2 2∧w.heap.size<=bb∧aY ww bb [str (nth t.au 1).az,str (nth t.au 2).az].toArray 9)] de (by exact⟨λv w w' ⟨bb,e,h1,h2⟩ k=>⟨bb,e,h1,h2.ext k⟩,trivial⟩)
 intro wd aB
 refine vc (λ_ _ _=>zf cN rfl pv) ?_
 refine vk aB (λx w2 aq=>?_) ?_
 have aZ:=aZ.ext aq
 refine zl cK rfl (aZ.at rfl) ?_
 exact pv
 refine vk aB (λx w2 aq=>?_) ?_
 refine zi (i:=1) cw aH rfl rfl om ?_
 exact pv
 refine vc (λ_ _ _=>zf dB rfl pv) ?_
 refine vk aB (λx w2 aq=>?_) ?_
 have bC:=bC.ext aq
 refine zl cm rfl (bC 0 _ rfl) ?_
 exact pv
 refine vc (λ_ _ _=>zf cN rfl pv) ?_
 refine vk aB (λx w2 aq=>?_) ?_
 have aZ:=aZ.ext aq
 refine zl cK rfl (aZ.at rfl) ?_
 exact pv
 refine vk aB (λx w2 aq=>?_) ?_
 refine zi (i:=2) cw aH rfl rfl om ?_
 exact pv
 refine vc (λ_ _ _=>zf dB rfl pv) ?_
 refine vk aB (λx w2 aq=>?_) ?_
 have bY:=bY.ext aq
 refine zl cm rfl (bY 0 _ rfl) ?_
 exact pv
 refine vk aB (λx w2 aq=>?_) ?_
 have hK:=hK.ext aq
 have pq:=hK.size
 refine lq bh bA rfl rfl rfl rfl ?_
 intro w3 aJ yk iJ
 exact pf aJ (⟨_,rfl,pq,yk⟩)
 exact trivial
 intro x pY iC
 intro v10 d10
 have hK:=hK.ext iC
 change OW _ _ _ _ _ (aM (aN _ x _) (zZ 29 [_,_,_,_,_,_,_,_,_,_,_])) _
 obtain⟨bb,e39,kV,yk⟩:=d10
 refine zA<|ag<|aV ?_
 exact⟨_,rfl,λLr IQ=>(by rw[hb];subst e39;exact aY.eF [(nth t.au 1).az,(nth t.au 2).az] yk (λhx=>by have:=IQ _ hx;omega)),hK⟩
 have hb:sX t i=[]:=(by unfold sX;rw[iN wy,iN h3])
 refine bz<|zr<|zQ w.heap.size [] bh bA rfl rfl hK.size sm ?_
 intro w2 aq eh hO
 have hK:=hK.ext aq
 refine zA<|ag<|aV ?_
 exact⟨_,rfl,λLr IQ=>(by rw[hb];exact cF.nil _ _ _),hK⟩
def F2 {e:Ex} (h:e.ok) (ha:e.jl=false):0<e.av.au.length∧((nth e.av.au 0).az=gO->1<e.av.au.length)∧((nth e.av.au 0).az=iq->2<e.av.au.length):=by
 cases e with
 |«at» s=>cases ha
 |un hd a=>
  have hn:hd≠iq:=by intro e;rw[e] at h;exact absurd h.1 de
  exact⟨by simp[Ex.av,aA.au],λ_=>by simp[Ex.av,aA.au],λh=>absurd h hn⟩
 |bi hd a b=>exact⟨by simp[Ex.av,aA.au],λ_=>by simp[Ex.av,aA.au],λh=>by simp[Ex.av,aA.au]⟩
 |ite a b c=>exact⟨by simp[Ex.av,aA.au],λ_=>by simp[Ex.av,aA.au],λh=>by simp[Ex.av,aA.au]⟩
 |lt x a b=>exact⟨by simp[Ex.av,aA.au],λ_=>by simp[Ex.av,aA.au],λh=>by simp[Ex.av,aA.au]⟩
 |fn f x A B b=>exact⟨by simp[Ex.av,aA.au],λ_=>by simp[Ex.av,aA.au],λh=>by simp[Ex.av,aA.au]⟩
def Tw (e:Ex) (i:Nat):(e.binds i).length<=2:=by unfold Ex.binds;split<;>simp
def Tx (x:aj) (e:Ex) (k:Nat):tK x e (k+1)=tK x e k+if x∈e.binds (e.from+k) then 0 else ir x (fL e k):=rfl
def Tz (x:aj) (e:Ex):∀{i j:Nat},i<=j->tK x e i<=tK x e j
 |i,0,h=>by have:i=0:=om;subst this;exact lR _
 |i,j+1,h=>by
  rcases Nat.lt_or_ge i (j+1) with h1|h1
  ·have:=Tz x e (i:=i) (j:=j) om;rw[Tx];omega
  ·have:i=j+1:=by omega
   subst this;exact lR _
def vu {e:Ex} (h:e.ok):e.av.az≠[]↔e.jl=true:=by
 cases e with
 |«at» s=>exact⟨λ_=>rfl,λ_=>pN h⟩
 |_=>exact⟨λhh=>absurd rfl hh,λhh=>by cases hh⟩
def F3 (e:Ex):e.from+e.kids.length<=6:=by cases e<;>simp[Ex.from,Ex.kids]
def adx (s:aj):∀(m:Nat) (e:Ex),e.n<=m->e.n<=1000000->e.ok->∀(v:Value) (L:List Nat) (w:World),bT L w v e.av->
  ck Tryz.prog 206 [v,str s] w λr w'=>r= .int .i64 (ir s e:Int)∧ak [] w w':=by
 intro m
 induction m with
 |zero=>intro e h;have:=e.pos;omega
 |succ m ih=>
  intro e hm mY bD v L w hv
  have dK:=hv
  obtain⟨a,n,c,rfl,hn,bc⟩:=dO hv
  subst hn
  have hK:=ak.refl [] w
  have hce:=count_le s e
  have IS:=F3 e
  refine cX [.tmp 4] 47 Tryz.func206 rfl YV rfl rfl ?_
  refine zr<|fG rfl ?_
  intro w1 aK aZ eh
  have hK:=hK.ext aK;have bc:=bc.ext aK;have dK:=dK.ext aK
  refine zA<|ag<|aQ<|zr<|zf dB rfl<|zl cm rfl (aZ.at rfl)<|jI rfl rfl rfl rfl<|ag<|zc rfl (λh1=>?_) (λh1=>?_)
  have aR:∃x,e= .at x:=(by have ha:=(vu bD).1 h1;cases e<;>first|exact⟨_,rfl⟩|cases ha)
  obtain⟨x,rfl⟩:=aR
  refine aQ<|zr<|zf dB rfl<|zl cm rfl (aZ.at rfl)<|zm<|cY rfl rfl<|ag<|zc rfl (λh2=>?_) (λh2=>?_)
  have hq:ir s (.at x)=1:=iP h2
  refine zr<|zA<|ag<|aV ?_
  exact⟨_,rfl,by rw[hq];rfl,hK⟩
  have hq:ir s (.at x)=0:=iN h2
  refine bz<|zr<|zA<|ag<|aV ?_
  exact⟨_,rfl,by rw[hq];rfl,hK⟩
  have fx:e.jl=false:=(by cases hh:e.jl;rfl;exact absurd ((vu bD).2 hh) h1)
  obtain⟨F4,pK,jJ,wM⟩:=Ex.au fx
  obtain⟨jU,DV,DW⟩:=F2 bD fx
  have F5:=LB bD fx
  have mf:eZ (nth e.av.au 0).az=(e.from,e.from+e.kids.length):=by rw[jJ];exact F5
  obtain⟨b,off,pa,pn,pc,rfl,eC,fR,iz⟩:=j9 bc (iK jU)
  refine bz<|zr<|zA<|ag<|zr<|zf cN rfl<|zl cK rfl (aZ.at rfl)<|zi (i:=0) cw aH rfl rfl om<|zf dB rfl<|zl cm rfl (eC 0 _ rfl)<|aC (IL _ _) ?_
  rintro _ _ ⟨rfl,rfl⟩
  rw[yi mf]
  refine zm<|zx (i:=0) rfl rfl<|zx (i:=1) rfl rfl<|zA<|zA<|ag<|aQ<|zr<|zm<|zA<|ag<|cS ?_
  refine fY (λk:Nat=>[(1,str s),(2,.pointer (some ⟨w.heap.size,0,none⟩)),(5,.int .i64 (tK s e k:Int)),(7,.int .i64 ((e.from+e.kids.length:Nat):Int)),(8,.int .i64 ((e.from+k:Nat):Int))]) (λk w'=>ak [] w w'∧ak [] w1 w'∧k<=e.kids.length) (λk=>e.kids.length-k) (0) (⟨rfl,rfl,rfl,rfl,rfl⟩) (⟨hK,ak.refl _ _,om⟩) ?_
  intro gg w2 e2 hI
  obtain⟨hK,ky,hk⟩:=hI
  have aZ:=aZ.ext ky;have bc:=bc.ext ky;have dK:=dK.ext ky
  refine aQ<|zr<|zm<|zm<|fA rfl rfl rfl<|ag<|zc rfl (λh3=>?_) (λh3=>?_)
  have iw:gg<e.kids.length:=om
  have sP:=wM gg iw
  obtain⟨b1,ga,gZ,qW,ia,e1,bC,sB,o4⟩:=j9 bc (iK (i:=e.from+gg) om)
  cases e1
  subst sB
  have dh:=(mT o4).eq sP
  have tW:=Fm bD iw
  have bg:=Tx s e gg
  have hmo:=Tz s e (i:=gg+1) (j:=e.kids.length) om
  have hto:=RB fx s
  refine bz<|aQ<|cS<|zr<|zL bU aH rfl aZ.all rfl<|zm<|aC (Tv e.av jU DV DW (e.from+gg) _ _ w2 dK) ?_
  rintro v3 w3 ⟨er,aJ⟩
  have gd:=aJ.size
  have hK:=hK.ext aJ;have aZ:=aZ.ext aJ;have ky:=ky.ext aJ;have bC:=bC.ext aJ;have dh:=dh.ext aJ
  have uC:=er [] sm
  rw[Tu bD fx] at uC
  have hbf:=Tw e (e.from+gg)
  refine zm<|aC (zX (e.binds (e.from+gg)) om s _ [] w3 uC) ?_
  rintro v4 w4 ⟨eJ,aF⟩
  have gK:=aF.size
  have hK:=hK.ext aF;have aZ:=aZ.ext aF;have ky:=ky.ext aF;have bC:=bC.ext aF;have dh:=dh.ext aF
  obtain rfl:=eJ
  refine eM rfl<|ag<|zc rfl (λh4=>?_) (λh4=>?_)
  have nk:¬s∈e.binds (e.from+gg):=(by simpa using h4)
  rw[iN nk] at bg
  refine df<|zm<|zf cN rfl<|zl cK rfl (aZ.at rfl)<|zm<|zi cw aH rfl rfl om<|zL bU aH rfl bC rfl<|zm<|aC (ih (fL e gg) om om tW.1 _ _ w4 dh) ?_
  rintro v5 w5 ⟨ln,aU⟩
  have pJ:=aU.size
  have hK:=hK.ext aU;have ky:=ky.ext aU
  obtain rfl:=ln
  refine eI rfl rfl rfl (wrap_i64 _ om om)<|zA<|ag<|df<|zm<|eI rfl rfl rfl (wrap_i64 _ om om)<|zA<|ag ?_
  exact⟨gg+1,⟨rfl,rfl,cA (Value.int .i64) om,rfl,cA (Value.int .i64) om⟩,⟨hK,ky,om⟩,om⟩
  have nk:s∈e.binds (e.from+gg):=(by simpa using h4)
  rw[iP nk] at bg
  refine bz<|df<|zm<|eI rfl rfl rfl (wrap_i64 _ om om)<|zA<|ag ?_
  exact⟨gg+1,⟨rfl,rfl,cA (Value.int .i64) om,rfl,cA (Value.int .i64) om⟩,⟨hK,ky,om⟩,om⟩
  have gJ:gg=e.kids.length:=by omega
  refine gD<|gF rfl<|zr<|zm<|zA<|ag<|aV ?_
  exact⟨_,rfl,by rw[RB fx s,gJ];rfl,hK⟩
def TA (e:Ex) (bd l:List aj) (k:Nat):nW e bd l (k+1)=cG (fL e k) (bd++e.binds (e.from+k)) (nW e bd l k):=rfl
def kN (e:Ex) (k:Nat):Nat:=((e.kids.take k).map Ex.n).sum
def yl {e:Ex} {k:Nat} (h:k<e.kids.length):kN e (k+1)=kN e k+(fL e k).n:=by
 have h1:e.kids[k]?=some (fL e k):=by simp[fL,gE h]
 unfold kN
 rw[List.take_add_one,h1,List.map_append,List.sum_append]
 simp
def B4 (e:Ex) (k:Nat):kN e k<=e.n:=by
 have h1:kN e k<=(e.kids.map Ex.n).sum:=by
  conv=>rhs;rw[<-List.take_append_drop k e.kids,List.map_append,List.sum_append]
  unfold kN;omega
 have h2:(e.kids.map Ex.n).sum<=e.n:=by cases e<;>simp[Ex.kids,Ex.n]<;>omega
 omega
def TC (e:Ex) (bd l:List aj):∀{k:Nat},k<=e.kids.length->(nW e bd l k).length<=l.length+kN e k
 |0,_=>by simp[nW,kN]
 |k+1,hk=>by
  rw[TA,yl om]
  have h1:=tJ (fL e k) (bd++e.binds (e.from+k)) (nW e bd l k)
  have h2:=TC e bd l (k:=k) om
  omega
def IT:∀(m:Nat) (e:Ex),e.n<=m->e.n<=1000->e.ok->∀(bd l:List aj),bd.length+2*e.n<=100000->l.length+e.n<=100000->∀(v vb vl:Value) (g:Option Nat) (w:World),
  bT g.toList w v e.av->bI g.toList w vb bd->dj w 9 vl g l->
  ck Tryz.prog 175 [v,vb,vl] w λr w'=>∃g',dj w' 9 r g' (cG e bd l)∧Fr g.toList w g'.toList w':=by
 intro m
 induction m with
 |zero=>intro e h;have:=e.pos;omega
 |succ m ih=>
  intro e hm mY bD bd l uC hl v vb vl g w hv ym gL
  obtain⟨a,n,c,rfl,hn,bc⟩:=dO hv
  subst hn
  obtain⟨ab,nb,cb,rfl,TD⟩:=eP ym
  subst TD
  obtain⟨al,cl,rfl⟩:=kv gL
  have p6:=gL.lt
  have oT:=gL.rs
  have hR:=Fr.refl g.toList w
  have IS:=F3 e
  have dK:=mT bc
  refine cX [.tmp 6] 65 Tryz.func175 rfl YC rfl rfl ?_
  refine zr<|fG rfl ?_
  intro w1 aK bR eh
  have hR:=hR.ext aK;have bc:=bc.ext aK;have ym:=ym.ext aK;have gL:=gL.ext aK;have oT:=oT.ext aK;have dK:=dK.ext aK
  refine zA<|ag<|aQ<|zr<|zf dB rfl<|zl cm rfl (bR.at rfl)<|jI rfl rfl rfl rfl<|ag<|zc rfl (λh1=>?_) (λh1=>?_)
  have aR:∃x,e= .at x:=(by have ha:=(vu bD).1 h1;cases e<;>first|exact⟨_,rfl⟩|cases ha)
  obtain⟨x,rfl⟩:=aR
  refine aQ<|zr<|zf dB rfl<|zl cm rfl (bR.at rfl)<|aC (vh _ _) ?_
  rintro _ _ ⟨rfl,rfl⟩
  refine eM rfl<|zm ?_
  apply fB 5 17 22 [17,18,19,20,21,22] (ak [] w1) rfl
  intro h2
  replace h2:=bw h2
  have F6:=ak.refl [] w1
  refine zs<|zs<|zs<|zs<|zp rfl<|ag ?_
  exact mg rfl F6
  intro h2
  replace h2:=bw h2
  have F6:=ak.refl [] w1
  refine zm<|zf dB rfl<|zl cm rfl (bR.at rfl)<|aC (zX bd om x _ _ w1 ym) ?_
  rintro v2 w2 ⟨dC,aq⟩
  have eH:=aq.size
  have F6:=F6.ext aq
  obtain rfl:=dC
  refine zp rfl<|ag ?_
  exact mg rfl F6
  intro xx w3 aJ
  have hR:=hR.ext aJ;have gL:=gL.ext aJ;have oT:=oT.ext aJ;have bR:=bR.ext aJ
  refine zm ?_
  apply fB 5 23 28 [23,24,25,26,27,28] (ak [] w3) rfl
  intro h3
  replace h3:=bw h3
  have F7:=ak.refl [] w3
  refine zs<|zs<|zs<|zs<|zp rfl<|ag ?_
  exact mg rfl F7
  intro h3
  replace h3:=bw h3
  have F7:=ak.refl [] w3
  refine zm<|zf dB rfl<|zl cm rfl (bR.at rfl)<|aC (zX l om x _ _ w3 oT) ?_
  rintro v4 w4 ⟨eJ,aF⟩
  have gK:=aF.size
  have F7:=F7.ext aF
  obtain rfl:=eJ
  refine zp rfl<|ag ?_
  exact mg rfl F7
  intro xx w5 aU
  have hR:=hR.ext aU;have gL:=gL.ext aU;have bR:=bR.ext aU
  refine ag<|zc rfl (λh4=>?_) (λh4=>?_)
  have hq:cG (.at x) bd l=l:=iP h4
  refine zr<|zm<|zA<|ag<|aV ?_
  exact⟨_,rfl,g,by rw[hq];exact gL,hR⟩
  have hq:cG (.at x) bd l=l++[x]:=iN (λhh=>Bool.noConfusion (hh.symm.trans h4))
  refine bz<|zr<|zm<|zf dB rfl<|zl cm rfl (bR.at rfl)<|gH bh bA rfl rfl ?_
  intro w6 bF IU lI
  have hR:=hR.ext bF;have gL:=gL.ext bF
  refine St bh bA rfl rfl rfl rfl rfl rfl gL IU om ?_
  intro v5 g5 w7 ly cz nv
  have hR:=hR.go nv
  refine zA<|ag<|aV ?_
  exact⟨_,rfl,g5,by rw[hq];exact ly,hR⟩
  have fx:e.jl=false:=(by cases hh:e.jl;rfl;exact absurd ((vu bD).2 hh) h1)
  obtain⟨F4,pK,jJ,wM⟩:=Ex.au fx
  obtain⟨jU,DV,DW⟩:=F2 bD fx
  have F5:=LB bD fx
  have mf:eZ (nth e.av.au 0).az=(e.from,e.from+e.kids.length):=by rw[jJ];exact F5
  obtain⟨b,off,pa,pc,rfl,eC,hT0⟩:=fK bc jU
  have bR:=bR.o p6
  refine bz<|zr<|zf cN rfl<|zl cK rfl (bR.at rfl)<|zi (i:=0) cw aH rfl rfl om<|zf dB rfl<|zl cm rfl (eC.cells 0 _ rfl)<|aC (IL _ _) ?_
  rintro _ _ ⟨rfl,rfl⟩
  rw[yi mf]
  refine zm<|zx (i:=0) rfl rfl<|zx (i:=1) rfl rfl<|zA<|zA<|ag<|aQ<|zr<|zm<|zA<|ag<|cS ?_
  refine fY (λq:Nat×Value×Option Nat=>[(1,.slice ab bd.length cb),(2,q.2.1),(3,.pointer (some ⟨w.heap.size,0,none⟩)),(8,.int .i64 ((e.from+e.kids.length:Nat):Int)),(9,.int .i64 ((e.from+q.1:Nat):Int))]) (λq w'=>Fr g.toList w q.2.2.toList w'∧Fr g.toList w1 q.2.2.toList w'∧dj w' 9 q.2.1 q.2.2 (nW e bd l q.1)∧q.1<=e.kids.length) (λq=>e.kids.length-q.1) ((0,.slice al l.length cl,g)) (⟨rfl,rfl,rfl,rfl,rfl⟩) (⟨hR,Fr.refl _ _,gL,sm⟩) ?_
  intro gg w2 e2 hI
  obtain⟨k,vl,gl⟩:=gg
  dsimp only at hI⊢
  obtain⟨hR,ky,gL,hk⟩:=hI
  have bR:=bR.go ky;have bc:=bc.go ky;have ym:=ym.go ky;have dK:=dK.go ky
  refine aQ<|zr<|zm<|zm<|fA rfl rfl rfl<|ag<|zc rfl (λh5=>?_) (λh5=>?_)
  have iw:k<e.kids.length:=om
  have sP:=wM k iw
  obtain⟨b1,ga,gZ,ia,e1,bC,dh⟩:=fK bc (i:=e.from+k) om
  cases e1
  have dh:=dh.eq sP
  have tW:=Fm bD iw
  have bg:=TA e bd l k
  have hbf:=Tw e (e.from+k)
  have pg:=TC e bd l (k:=k) om
  have AE:=yl iw
  have gR:=B4 e (k+1)
  refine bz<|aQ<|cS ?_
  apply kf et gl.toList 13 (rA 50 13) (rA 50 13) [[],[0],[],[1,2],[3],[],[],[5,6],[],[],[8,9],[7,10],[]] [Ie.v _,Ie.v _,Ie.v _,Ie.v _,Ie.v _,Ie.p (fun(G:List Nat) (v:Value) (ww:World)=>∃bb,v= .slice (some ⟨bb,0,none⟩) 0 0∧fi G ww bb #[] 9),Ie.v _,Ie.e 0,Ie.v _,Ie.v _,Ie.p (fun(G:List Nat) (v:Value) (ww:World)=>bI G ww v (e.binds (e.from+k))),Ie.e 1,Ie.v _] [7,11] [fun(G:List Nat) (vs:List Value) (ww:World)=>dj ww 9 vl gl (nW e bd l k)∧(∀x,x∈gl.toList->x∈G),fun(G:List Nat) (vs:List Value) (ww:World)=>(dj ww 9 vl gl (nW e bd l k)∧(∀x,x∈gl.toList->x∈G))∧∃g7,dj ww 9 (vs.getD 0 undef) g7 bd∧qD G ww 9 g7∧(∀x,x∈g7.toList->x∉gl.toList),fun(G:List Nat) (vs:List Value) (ww:World)=>(dj ww 9 vl gl (nW e bd l k)∧(∀x,x∈gl.toList->x∈G))∧∃g7,dj ww 9 (vs.getD 1 undef) g7 (bd++e.binds (e.from+k))∧qD G ww 9 g7∧(∀x,x∈g7.toList->x∉gl.toList)] de rfl gL.lt (by exact⟨λG v w G' w' ⟨bb,e,h⟩ k=>⟨bb,e,h.go k⟩,λG v w G' w' h k=>bI.go h k,trivial⟩) (by exact⟨λG vs w w' h k=>⟨h.1.ext k,h.2⟩,λG vs w w' ⟨h1,g7,h2,h3,h4⟩ k=>⟨⟨h1.1.ext k,h1.2⟩,g7,h2.ext k,h3.ext k,h4⟩,λG vs w w' ⟨h1,g7,h2,h3,h4⟩ k=>⟨⟨h1.1.ext k,h1.2⟩,g7,h2.ext k,h3.ext k,h4⟩,trivial⟩) (⟨gL,λx hx=>hx⟩)
  refine vf (λ_ _ _ _ _ _=>zf cN rfl fv) ?_
  refine vf (λx w3 G3 aW fX iW=>?_) ?_
  have bR:=bR.go fX
  refine zl cK rfl (bR.at rfl) ?_
  exact fv
  refine cT ?_
  refine vf (λ_ _ _ _ _ _=>zi cw aH rfl rfl om fv) ?_
  refine vf (λx w3 G3 aW fX iW=>?_) ?_
  have bC:=bC.go fX
  refine zL bU aH rfl bC.cells rfl ?_
  exact fv
  refine vf (λx w3 G3 aW fX iW=>?_) ?_
  refine gP bh bA ?_
  intro w4 aF B5 iU
  exact ff aF (⟨_,rfl,B5.o iW⟩)
  refine cT ?_
  refine ve 0 (λx w3 G3 aW fX iW hJ hlen=>?_) ?_
  have bo:=jR hlen
  subst bo
  have ym:=ym.go fX
  intro v5 d5
  obtain⟨bb,e5,gz⟩:=d5
  subst e5
  have hJ:dj w3 9 vl gl (nW e bd l k)∧(∀x,x∈gl.toList->x∈G3):=hJ
  refine DU bh bA rfl rfl rfl rfl rfl rfl gz.jx.lr ym ‹_› (λx hx=>.inr (by simp at hx;subst hx;exact gz.jx)) so ?_
  intro v9 g9 w4 G9 dL DX pq kW di fj aG
  exact fe G9 di fj (⟨⟨hJ.1.aO aG (λb hb hx=>gz.out (by simp at hx;subst hx;exact hJ.2 _ (by simp[hb]))),λx hx=>kW x (hJ.2 x hx)⟩,g9,dL,DX,λx hx fH=>(pq x hx).elim (λh=>gz.out (by simp at h;subst h;exact hJ.2 _ fH)) (λh=>by have:=iW x (hJ.2 x fH);omega)⟩)
  refine vf (λx w3 G3 aW fX iW=>?_) ?_
  have bR:=bR.go fX
  refine zL bU aH rfl bR.all rfl ?_
  exact fv
  refine cT ?_
  refine vf (λx w3 G3 aW fX iW=>?_) ?_
  have dK:=dK.go fX
  refine aC (Tv e.av jU DV DW (e.from+k) _ _ w3 dK) ?_
  rintro v4 w4 ⟨eJ,aF⟩
  have gK:=aF.size
  have adA:=eJ
  exact ff aF ((by have h9:=adA _ iW;rw[Tu bD fx] at h9;exact h9))
  refine ve 1 (λx w3 G3 aW fX iW hJ hlen=>?_) ?_
  obtain⟨q0,bo⟩:=jS hlen
  subst bo
  intro v10 d10
  have hJ:(dj w3 9 vl gl (nW e bd l k)∧(∀x,x∈gl.toList->x∈G3))∧∃g7,dj w3 9 q0 g7 bd∧qD G3 w3 9 g7∧(∀x,x∈g7.toList->x∉gl.toList):=hJ
  obtain⟨⟨DJ,rY⟩,g7,F8,B6,IV⟩:=hJ
  refine DU bh bA rfl rfl rfl rfl rfl rfl F8 d10 ‹_› B6 om ?_
  intro v9 g9 w4 G9 dL DX pq kW di fj aG
  exact fe G9 di fj (⟨⟨DJ.aO aG (λb hb hx=>IV b hx (by simp[hb])),λx hx=>kW x (rY x hx)⟩,g9,dL,DX,λx hx fH=>(pq x hx).elim (λh=>IV x h fH) (λh=>by have:=iW x (rY x fH);omega)⟩)
  refine cT ?_
  exact trivial
  intro x qC F9 aW DY ML hJ hlen
  obtain⟨q0,q1,bo⟩:=lP hlen
  subst bo
  intro v5 d5
  intro v10 d10
  have hR:=hR.go DY;have ky:=ky.go DY;have dh:=dh.go DY
  change OW _ _ _ _ _ (aM (aN _ x _) (zZ 50 [_,_,_,_,_,_,_,_,_,_,_,_,_])) _
  have hJ:(dj qC 9 vl gl (nW e bd l k)∧(∀x,x∈gl.toList->x∈F9))∧∃g7,dj qC 9 q1 g7 (bd++e.binds (e.from+k))∧qD F9 qC 9 g7∧(∀x,x∈g7.toList->x∉gl.toList):=hJ
  obtain⟨⟨DJ,rY⟩,g7,F8,B6,IV⟩:=hJ
  refine aC (ih (fL e k) om om tW.1 (bd++e.binds (e.from+k)) (nW e bd l k) (by rw[lA];omega) om _ _ _ gl qC (dh.jk (λx hx=>rY x hx)) (F8.rep (λb hb=>IV b (by simp[hb]))) DJ) ?_
  rintro MM nS ⟨MN,IW,Ga⟩
  refine zA<|ag<|df<|zm<|eI rfl rfl rfl (wrap_i64 _ om om)<|zA<|ag ?_
  exact⟨(k+1,MM,MN),⟨rfl,rfl,rfl,rfl,cA (Value.int .i64) so⟩,⟨(hR.to (λx hx=>.inl (rY x hx))).go Ga,(ky.to (λx hx=>.inl (rY x hx))).go Ga,IW,by simp;omega⟩,by simp;omega⟩
  have gJ:k=e.kids.length:=by omega
  refine gD<|gF rfl<|zr<|zm<|zA<|ag<|aV ?_
  exact⟨_,rfl,gl,by rw[ab8 fx,<-gJ];exact gL,hR⟩
def adB (s:aj) (w:World):ck Tryz.prog 152 [str s] w λv w'=>(∃a n c,v= .tuple #[.slice a n c,.bool (my s)]∧(my s=true->∃e:Ex,ba s=some e.av∧e.ok∧e.n<=120∧bI [] w' (.slice a n c) (cG e [] [])))∧ak [] w w':=by
 have hK:=ak.refl [] w
 refine cX [.tmp 2,.tmp 3] 18 Tryz.func152 rfl Yr rfl rfl ?_
 refine zr<|zA<|zA<|ag<|zr<|zm<|aC (F0 s [] w sm) ?_
 rintro v1 w1 ⟨fO,aK⟩
 have dS:=aK.size
 have hK:=hK.ext aK
 obtain⟨t,tv,rfl,ht,hp⟩:=fO
 obtain⟨pa,pn,pc,rfl,fR,bc⟩:=dO ht
 refine zm<|zx (i:=0) rfl rfl<|zx (i:=1) rfl rfl<|eD aH rfl rfl rfl ?_
 intro w2 aq aI eO
 have hK:=hK.grow;have hK:=hK.ext aq;have ht:=ht.grow;have ht:=ht.ext aq
 refine dw aH rfl rfl rfl aI rfl ?_
 intro w3 aJ aI iJ
 have hK:=hK.aL aJ sx;have ht:=ht.aL aJ sx
 refine zA<|ag<|aQ<|zr<|zm<|eM rfl<|ag<|zc rfl (λh1=>?_) (λh1=>?_)
 have hx:my s=false:=by simpa using h1
 refine zr<|gP bh bA ?_
 intro w4 aF mz iU
 have hK:=hK.ext aF
 refine zA<|zA<|ag<|aV ?_
 exact⟨_,rfl,⟨_,_,_,by rw[hx];rfl,λh=>by rw[hx] at h;cases h⟩,hK⟩
 have hx:my s=true:=by simpa using h1
 obtain⟨e,he,bD,hn⟩:=wK.1 hx
 have e2:=hp.1 _ he
 subst e2
 refine bz<|zr<|zL bU aH rfl aI.all rfl<|gP bh bA ?_
 intro w4 aF IX IY
 have ht:=ht.ext aF;have hK:=hK.ext aF
 refine gP bh bA ?_
 have Mq:=bT.grow (ht.jk (L':=[]) sm)
 intro w5 aU wk Gb
 have ht:=Mq.ext aU
 have hK:=hK.ext aU
 refine aC (IT 120 e hn om bD [] [] so so _ _ _ (some _) w5 ht (cF.nil _ _ _) wk.lr) ?_
 rintro v9 w6 ⟨g9,dL,di⟩
 obtain⟨a9,c9,rfl⟩:=kv dL
 have hK:=hK.since di.aO (λx hx=>.inr (by simp at hx;omega))
 refine zA<|zA<|ag<|aV ?_
 exact⟨_,rfl,⟨_,_,_,by rw[hx];rfl,λ_=>⟨e,he,bD,hn,dL.rs⟩⟩,hK⟩
def DZ {a b:aj} (h:cg a=cg b):a=b:=by simpa[cg] using h
def qE:∀{e f:Ex},e.ok->f.ok->e.av=f.av->e=f
 | .at s,.at r,_,_,h=>by rw[DZ h]
 | .at s,.un ..,h1,_,h=>absurd (cA aA.az h) (pN h1)
 | .at s,.bi ..,h1,_,h=>absurd (cA aA.az h) (pN h1)
 | .at s,.ite ..,h1,_,h=>absurd (cA aA.az h) (pN h1)
 | .at s,.lt ..,h1,_,h=>absurd (cA aA.az h) (pN h1)
 | .at s,.fn ..,h1,_,h=>absurd (cA aA.az h) (pN h1)
 | .un ..,.at s,_,h1,h=>absurd (cA aA.az h).symm (pN h1)
 | .bi ..,.at s,_,h1,h=>absurd (cA aA.az h).symm (pN h1)
 | .ite ..,.at s,_,h1,h=>absurd (cA aA.az h).symm (pN h1)
 | .lt ..,.at s,_,h1,h=>absurd (cA aA.az h).symm (pN h1)
 | .fn ..,.at s,_,h1,h=>absurd (cA aA.az h).symm (pN h1)
 | .un h a,.un h' a',k,k',e=>by
  have e:=cA aA.au e
  simp only[Ex.av,aA.au,List.cons.injEq,and_true] at e
  rw[DZ e.1,qE k.2 k'.2 e.2]
 | .bi h a b,.bi h' a' b',k,k',e=>by
  have e:=cA aA.au e
  simp only[Ex.av,aA.au,List.cons.injEq,and_true] at e
  rw[DZ e.1,qE k.2.1 k'.2.1 e.2.1,qE k.2.2 k'.2.2 e.2.2]
 | .ite a b c,.ite a' b' c',k,k',e=>by
  have e:=cA aA.au e
  simp only[Ex.av,aA.au,List.cons.injEq,and_true] at e
  rw[qE k.1 k'.1 e.2.1,qE k.2.1 k'.2.1 e.2.2.1,qE k.2.2 k'.2.2 e.2.2.2]
 | .lt x a b,.lt x' a' b',k,k',e=>by
  have e:=cA aA.au e
  simp only[Ex.av,aA.au,List.cons.injEq,and_true] at e
  rw[DZ e.2.1,qE k.2.1 k'.2.1 e.2.2.1,qE k.2.2 k'.2.2 e.2.2.2]
 | .fn f x A B b,.fn f' x' A' B' b',k,k',e=>by
  have e:=cA aA.au e
  simp only[Ex.av,aA.au,List.cons.injEq,and_true] at e
  rw[DZ e.2.1,DZ e.2.2.1,Fl e.2.2.2.1,Fl e.2.2.2.2.1,qE k.2.2.2.2.2 k'.2.2.2.2.2 e.2.2.2.2.2]
 | .un ..,.bi ..,_,_,e=>by have e:=cA aA.au e;simp[Ex.av,aA.au] at e
 | .un ..,.ite ..,_,_,e=>by have e:=cA aA.au e;simp[Ex.av,aA.au] at e
 | .un ..,.lt ..,_,_,e=>by have e:=cA aA.au e;simp[Ex.av,aA.au] at e
 | .un ..,.fn ..,_,_,e=>by have e:=cA aA.au e;simp[Ex.av,aA.au] at e
 | .bi ..,.un ..,_,_,e=>by have e:=cA aA.au e;simp[Ex.av,aA.au] at e
 | .bi ..,.ite ..,_,_,e=>by have e:=cA aA.au e;simp[Ex.av,aA.au] at e
 | .bi ..,.lt ..,_,_,e=>by have e:=cA aA.au e;simp[Ex.av,aA.au] at e
 | .bi ..,.fn ..,_,_,e=>by have e:=cA aA.au e;simp[Ex.av,aA.au] at e
 | .ite ..,.un ..,_,_,e=>by have e:=cA aA.au e;simp[Ex.av,aA.au] at e
 | .ite ..,.bi ..,_,_,e=>by have e:=cA aA.au e;simp[Ex.av,aA.au] at e
 | .ite ..,.lt ..,_,_,e=>by have e:=cA aA.au e;simp[Ex.av,aA.au,cg] at e
 | .ite ..,.fn ..,_,_,e=>by have e:=cA aA.au e;simp[Ex.av,aA.au] at e
 | .lt ..,.un ..,_,_,e=>by have e:=cA aA.au e;simp[Ex.av,aA.au] at e
 | .lt ..,.bi ..,_,_,e=>by have e:=cA aA.au e;simp[Ex.av,aA.au] at e
 | .lt ..,.ite ..,_,_,e=>by have e:=cA aA.au e;simp[Ex.av,aA.au,cg] at e
 | .lt ..,.fn ..,_,_,e=>by have e:=cA aA.au e;simp[Ex.av,aA.au] at e
 | .fn ..,.un ..,_,_,e=>by have e:=cA aA.au e;simp[Ex.av,aA.au] at e
 | .fn ..,.bi ..,_,_,e=>by have e:=cA aA.au e;simp[Ex.av,aA.au] at e
 | .fn ..,.ite ..,_,_,e=>by have e:=cA aA.au e;simp[Ex.av,aA.au] at e
 | .fn ..,.lt ..,_,_,e=>by have e:=cA aA.au e;simp[Ex.av,aA.au] at e
def adC (s:aj) (e:Ex):Prop:=ba s=some e.av∧e.ok∧e.n<=120∧cG e [] []=[]
def adD (s:aj) (w:World):ck Tryz.prog 113 [str s] w λv w'=>(∃b,v= .bool b∧(b=true↔∃e:Ex,adC s e))∧ak [] w w':=by
 have hK:=ak.refl [] w
 refine cX [.tmp 2] 16 Tryz.func113 rfl XS rfl rfl ?_
 refine zr<|zA<|ag<|zr<|zm<|aC (adB s w) ?_
 rintro v1 w1 ⟨fO,aK⟩
 have dS:=aK.size
 have hK:=hK.ext aK
 obtain⟨a,n,c,rfl,hf⟩:=fO
 refine zm<|zx (i:=0) rfl rfl<|zx (i:=1) rfl rfl<|zA<|zA<|ag<|zr<|zm<|zm ?_
 apply fZ 4 11 15 [11,12,13,14,15] (λw'=>w1=w') rfl
 intro h1
 replace h1:=bw h1
 refine zm<|dZ bh rfl<|dQ rfl rfl rfl<|zp rfl<|ag ?_
 exact mg rfl rfl
 intro h1
 replace h1:=bw h1
 refine zs<|zs<|zs<|zp rfl<|ag ?_
 exact mg rfl rfl
 rintro xx _ rfl
 refine zA<|ag<|aV<|⟨_,rfl,⟨_,rfl,?_⟩,hK⟩
 rw[aE,dE]
 constructor
 rintro⟨h1,h2⟩;obtain⟨e,he,bD,hn,hs⟩:=hf h1;obtain⟨_,_,_,e2,e3⟩:=eP hs;cases e2;exact⟨e,he,bD,hn,List.length_eq_zero_iff.1 om⟩
 rintro⟨e,he,bD,hn,h0⟩;have hx:my s=true:=wK.2 ⟨e,he,bD,hn⟩;refine⟨hx,?_⟩;obtain⟨e',uI,adE,C3,hs⟩:=hf hx;rw[he] at uI;have:=qE bD adE (Option.some.inj uI);subst this;rw[h0] at hs;obtain⟨_,_,_,e2,e3⟩:=eP hs;cases e2;simp at e3;omega
def kI (ai:List aj) (ρ:Rn) (e:Ex) (n:Nat):Nat->List Ex×Nat
 |0=>([],n)
 |k+1=>((kI ai ρ e n k).1++[(cj ai (fL e k) ρ (kI ai ρ e n k).2).1],(cj ai (fL e k) ρ (kI ai ρ e n k).2).2)
def MO (ai:List aj) (ρ:Rn) (e:Ex) (n:Nat):∀k,(kI ai ρ e n k).1.length=k
 |0=>rfl
 |k+1=>by simp[kI,MO ai ρ e n k]
def jV (ai:List aj) (ρ:Rn) (n:Nat):Ex->Rn
 | .fn f x _ _ _=>ρ++[(f,dm cx (bK cx ai n)),(x,dm cx (bK cx ai (bK cx ai n+1)))]
 |_=>ρ
def nF (ai:List aj) (n:Nat):Ex->Nat
 | .fn _ _ _ _ _=>bK cx ai (bK cx ai n+1)+1
 |_=>n
def wN (ai:List aj) (n:Nat):Ex->List aA
 | .fn _ _ A B _=>[cg iq,cg (dm cx (bK cx ai n)),cg (dm cx (bK cx ai (bK cx ai n+1))),A.av,B.av]
 |e=>[cg e.head]
def isLt:Ex->Bool
 | .lt _ _ _=>true
 |_=>false
def adF (ai:List aj) {e:Ex} (ρ:Rn) (n:Nat) (ha:e.jl=false) (hl:isLt e=false):
  (cj ai e ρ n).1.av= .mk [] (wN ai n e++(kI ai (jV ai ρ n e) e (nF ai n e) e.kids.length).1.map Ex.av)∧(cj ai e ρ n).2=(kI ai (jV ai ρ n e) e (nF ai n e) e.kids.length).2:=by
 cases e with
 |«at» s=>cases ha
 |lt x a b=>cases hl
 |un h a=>exact⟨rfl,rfl⟩
 |bi h a b=>exact⟨rfl,rfl⟩
 |ite a b c=>exact⟨rfl,rfl⟩
 |fn f x A B b=>exact⟨rfl,rfl⟩
def adG (ai:List aj) (n:Nat) {e:Ex} (ha:e.jl=false) (hl:isLt e=false):(wN ai n e).length=e.from:=by
 cases e with
 |«at» s=>cases ha
 |lt x a b=>cases hl
 |_=>rfl
def adH (ai:List aj) (n:Nat) {e:Ex} (hk:e.ok) (ha:e.jl=false) (hf:e.head≠iq):wN ai n e=[cg e.head]∧nF ai n e=n:=by
 cases e with
 |fn f x A B b=>exact absurd rfl hf
 |_=>exact⟨rfl,rfl⟩
def TE (ai:List aj) (ρ:Rn) (n:Nat) {e:Ex} (hf:e.head≠iq):jV ai ρ n e=ρ:=by
 cases e with
 |fn f x A B b=>exact absurd rfl hf
 |_=>rfl
def IZ {e:Ex} (h:e.ok) (he:e.head=gO):∃x a b,e= .lt x a b:=by
 cases e with
 |lt x a b=>exact⟨x,a,b,rfl⟩
 |un hd a=>have he:hd=gO:=he;rw[he] at h;exact absurd h.1 de
 |bi hd a b=>have he:hd=gO:=he;rw[he] at h;exact absurd h.1 de
 |«at» s=>cases he
 |ite a b c=>cases he
 |fn f x A B b=>cases he
def I0 {e:Ex} (h:e.ok) (he:e.head=iq):∃f x A B b,e= .fn f x A B b:=by
 cases e with
 |fn f x A B b=>exact⟨f,x,A,B,b,rfl⟩
 |un hd a=>have he:hd=iq:=he;rw[he] at h;exact absurd h.1 de
 |bi hd a b=>have he:hd=iq:=he;rw[he] at h;exact absurd h.1 de
 |«at» s=>cases he
 |ite a b c=>cases he
 |lt x a b=>cases he
def TF {e:Ex} (h:e.ok) (he:e.head=cE):∃a b c,e= .ite a b c:=by
 cases e with
 |ite a b c=>exact⟨a,b,c,rfl⟩
 |un hd a=>have he:hd=cE:=he;rw[he] at h;exact absurd h.1 de
 |bi hd a b=>have he:hd=cE:=he;rw[he] at h;exact absurd h.1 de
 |«at» s=>cases he
 |lt x a b=>cases he
 |fn f x A B b=>cases he
def not_lt {e:Ex} (he:e.head≠gO):isLt e=false:=by
 cases e with
 |lt x a b=>exact absurd rfl he
 |_=>rfl
def TG {e:Ex} (ha:e.jl=false) (hl:isLt e=false) (hf:e.head≠iq):e.av.au=[cg e.head]++e.kids.map Ex.av:=by
 cases e with
 |«at» s=>cases ha
 |lt x a b=>cases hl
 |fn f x A B b=>exact absurd rfl hf
 |_=>rfl
def mi (pre:List aA) (acc:List Ex) (e:Ex):List aA:=pre++acc.map Ex.av++(e.kids.drop acc.length).map Ex.av
def TH {pre:List aA} {acc:List Ex} {e y:Ex} (h:acc.length<e.kids.length):(mi pre acc e).set (pre.length+acc.length) y.av=mi pre (acc++[y]) e:=by
 have h1:e.kids[acc.length]?=some (fL e acc.length):=by simp[fL,gE h]
 unfold mi
 rw[List.drop_eq_getElem_cons h,List.map_cons,List.set_append_right _ _ sm,lA,List.length_map,Nat.sub_self]
 simp
def TJ {pre:List aA} {acc:List Ex} {e:Ex} (h:acc.length<=e.kids.length):(mi pre acc e).length=pre.length+e.kids.length:=by
 simp[mi];omega
def TK {pre:List aA} {acc:List Ex} {e:Ex} (h:acc.length=e.kids.length):mi pre acc e=pre++acc.map Ex.av:=by
 unfold mi
 rw[List.drop_of_length_le om];simp
structure RN (L:List Nat) (w:World) (br:Nat) (ai:List aj) (n:Nat):Prop where
 mem:br∈L
 box:∃vf,aY w br [vf,.int .i64 (n:Int)].toArray 188∧bI L w vf ai
def RN.ext {L:List Nat} {w w':World} {br:Nat} {ai:List aj} {n:Nat} (h:RN L w br ai n) (k:ak [] w w'):RN L w' br ai n:=let⟨v,h1,h2⟩:=h.box;⟨h.mem,v,h1.ext k,h2.ext k⟩
def RN.lt {L:List Nat} {w:World} {br:Nat} {ai:List aj} {n:Nat} (h:RN L w br ai n):br<w.heap.size:=let⟨_,h1,_⟩:=h.box;h1.lt
def RN.re {L L':List Nat} {w:World} {br:Nat} {ai:List aj} {n:Nat} (h:RN L w br ai n) (hb:br∈L') (hL:∀x,x∈L'->x∈L∨w.heap.size<=x):RN L' w br ai n:=let⟨v,h1,h2⟩:=h.box;⟨hb,v,h1,h2.fresh hL⟩
def RN.aO {L G:List Nat} {w w':World} {br:Nat} {ai:List aj} {n:Nat} (h:RN L w br ai n) (k:ak G w w') (hb:br∉G) (hG:∀x,x∈G->x∈L):RN L w' br ai n:=
 let⟨v,h1,h2⟩:=h.box;⟨h.mem,v,h1.aO k hb,h2.aL k hG⟩
def RN.out {N:Nat} {G G' G0:List Nat} {w w':World} {br:Nat} {ai:List aj} {n:Nat} (h:RN G w br ai n) (k:Fr G w G' w') (ho:Out N G0 w w') (hb:br∈G0) (gX:br∈G'):RN G' w' br ai n:=
 let⟨v,h1,h2⟩:=h.box;⟨gX,v,ho.jx h1 hb,h2.go k⟩
def D0 (c:UInt8) (ai:List aj) (n:Nat):bK c ai n<=n+ai.length+1:=(oK c ai n).2
def MP (ai:List aj) (n:Nat) (hn:n<=100000) (hb:ai.length<=10000) (br:Nat) (L:List Nat) (w:World) (h:RN L w br ai n):
  ck Tryz.prog 203 [.pointer (some ⟨br,0,none⟩)] w λr w'=>(r=str (dm cx (bK cx ai n))∧RN L w' br ai (bK cx ai n+1))∧ak [br] w w':=by
 have MQ:=D0 cx ai n
 have rZ:=h.mem
 refine cX [.tmp 2] 26 Tryz.func203 rfl YS rfl rfl ?_
 refine zr<|zA<|ag<|cS ?_
 refine fY (λk:Nat=>[(0,.pointer (some ⟨br,0,none⟩))]) (λk w'=>ak [br] w w'∧RN L w' br ai k∧n<=k∧bK cx ai k=bK cx ai n) (λk=>bK cx ai n+1-k) n rfl (⟨ak.refl _ _,h,lR _,rfl⟩) ?_
 intro gg w1 e1 hI
 obtain⟨hK,⟨_,vf,iH,fS⟩,hk,hq⟩:=hI
 have hle:=(oK cx ai gg).1
 refine cS<|zr<|zm<|dk rfl<|zf HK rfl<|zl qT rfl (iH.at rfl)<|aC (iQ (gg+1) gg om om w1) ?_
 rintro v2 w2 ⟨dC,aq⟩
 have eH:=aq.size
 have hK:=hK.ext aq;have iH:=iH.ext aq;have fS:=fS.ext aq
 obtain rfl:=dC
 refine cu rfl rfl (by have:=Dx _ gg (lR _);simp;omega)<|zA<|ag<|zr<|zm<|zm<|dk rfl<|zf HK rfl<|zl qT rfl (iH.at rfl)<|eI rfl rfl rfl (wrap_i64 _ om om)<|dk rfl<|zf HK rfl<|gY (o:=1) tE rfl rfl rfl iH rfl ?_
 intro w3 aJ iH dP
 have fS:=fS.aL aJ (by simpa using rZ)
 have hK:=hK.trans aJ
 refine ag<|zr<|zm<|dk rfl<|zf Z2 rfl<|zl eS rfl (iH.at rfl)<|zm<|aC (zX ai om (dm cx gg) _ _ w3 fS) ?_
 rintro v4 w4 ⟨eJ,aF⟩
 have gK:=aF.size
 have hK:=hK.ext aF;have iH:=iH.ext aF;have fS:=fS.ext aF
 obtain rfl:=eJ
 refine eM rfl<|ag<|zc rfl (λh1=>?_) (λh1=>?_)
 have nk:dm cx gg∉ai:=(by simpa using h1)
 have Gc:bK cx ai n=gg:=hq.symm.trans (RG nk)
 refine zr<|zm<|zA<|ag<|aV ?_
 exact⟨_,rfl,⟨by rw[Gc];rfl,rZ,_,by rw[Gc];exact iH,fS⟩,hK⟩
 have nk:dm cx gg∈ai:=(by simpa using h1)
 have hfs:=RF nk
 have Rg:=(oK cx ai (gg+1)).1
 refine bz ?_
 exact⟨gg+1,rfl,⟨hK,⟨rZ,vf,iH,fS⟩,om,om⟩,om⟩
def TL (ai:List aj) (ρ:Rn) (e:Ex) (n:Nat):∀k,k<=e.kids.length->n<=(kI ai ρ e n k).2∧(kI ai ρ e n k).2<=n+kN e k*(ai.length+2)
 |0,_=>by simp[kI]
 |k+1,hk=>by
  have h1:=TL ai ρ e n k om
  have h2:=jB ai (fL e k) ρ (kI ai ρ e n k).2
  rw[yl om,Nat.add_mul]
  show n<=(cj ai (fL e k) ρ (kI ai ρ e n k).2).2∧(cj ai (fL e k) ρ (kI ai ρ e n k).2).2<=_
  omega
end Go.Proofs.YtigijcjccmdmhaaGreatDoor
