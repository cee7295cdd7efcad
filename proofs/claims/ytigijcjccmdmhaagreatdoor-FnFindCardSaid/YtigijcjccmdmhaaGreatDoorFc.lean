/- Lemmas for the law FnFind, no statement of their own: no conditions. -/
import Derived.Test.YtigijcjccmdmhaaGreatDoorFb
namespace Go.Proofs.YtigijcjccmdmhaaGreatDoor
open Go
variable {E N b bytes d i j k n sz t:Nat} {G G' G0 L:List Nat} {w w' w0:World} {l:List Oper} {r:List (List Nat)} {m m1 m2:Mk} {V u v z:Value} {e0:Env} {J:List Nat->List Value->World->Prop} {vs:Array Value} {T:Ty} {g:Option Nat} {ps xs ys:List aj} {s:da} {q1 q2 q3 q4 q5 q6:Operand} {a a1 a2 a3 a4 a5 a6 h x:aj} {ts:List aA} {e:Ex}
section
variable {P:Program} {n:Nat} {l:List Oper} {m:Nat} {W ds:List Nat} {deps:List (List Nat)}
theorem R5 {N:Env->World->Prop} {Inv:(Nat->Bool)->Env->World->Prop} (hB:vU l m W ds deps=true) 
  (step:∀(S:Nat->Bool) (e:Env) (w:World) (i:Nat) (o:Oper),i<m->l[i]?=some o->S i=false->(∀j,waits o j=true->S j=true)->Inv S e w->
   OW P n l.toArray (λe' w'=>Inv (λj=>if j=i then true else S j) e' w') [o] e w)
  (tail:∀(S:Nat->Bool) (e:Env) (w:World),(∀i,i<m->S i=true)->Inv S e w->OW P n l.toArray N (l.drop m) e w) (Q:Exit->Act->World->Prop):
  ∀(fuel:Nat) (listed:Array Bool) (e:Env) (a:Act) (w:World),Fits n e a->listed.size=l.length->
   ((List.range l.length).filter λj=>!listed.getD j true).length=fuel->
   (∀j,m<=j->j<l.length->listed.getD j true=false)->Inv (λj=>listed.getD j false) e w->Ht l listed->
   wpAny P .any l.toArray (pz n N Q) fuel listed a w:=by
 obtain⟨C1,EH,Ki,jy,ou⟩:=CZ hB
 have yU:∀(listed:Array Bool) (j:Nat),listed.size=l.length->j<l.length->¬listed.getD j true=false->listed.getD j false=true:=λlisted j hs hj h1=>by
  rw[Array.getD_eq_getD_getElem?] at h1⊢
  rw[Array.getElem?_eq_getElem om] at h1⊢
  simpa using h1
 have EI:∀(listed:Array Bool) (j:Nat),listed.size=l.length->j<l.length->listed.getD j false=true->listed.getD j true=true:=λlisted j hs hj h1=>by
  rw[Array.getD_eq_getD_getElem?] at h1⊢
  rw[Array.getElem?_eq_getElem om] at h1⊢
  simpa using h1
 intro fuel
 induction fuel with
 |zero=>
  intro listed e a w hf hs Bf gv hI ot
  have dy:∀j,j<l.length->listed.getD j true=true:=λj hj=>by
   cases hg:listed.getD j true with
   |true=>rfl
   |false=>
    have:j∈(List.range l.length).filter λj=>!listed.getD j true:=by rw[List.mem_filter,List.mem_range];exact⟨hj,by rw[hg];rfl⟩
    rw[List.length_eq_zero_iff.1 Bf] at this;cases this
  have hm:m=l.length:=by
   rcases Nat.lt_or_ge m l.length with h|h
   ·have:=gv m (lR _) h;rw[dy m h] at this;cases this
   ·omega
  have ht:=tail _ e w (λi hi=>yU listed i hs om (by rw[dy i om];simp)) hI
  have h2:=ht a hf Q
  exact Hu hB 0 m listed a w (lR _) om hs (λj hj=>⟨λh=>(by rw[dy j hj] at h;cases h),λh=>om⟩) h2
 |succ fuel ih=>
  intro listed e a w hf hs Bf gv hI ot
  by_cases uw:∀j,j<m->listed.getD j true=true
  ·have ht:=tail _ e w (λi hi=>yU listed i hs om (by rw[uw i hi];simp)) hI
   have h2:=ht a hf Q
   have yW:∀j,j<l.length->(listed.getD j true=false↔m<=j):=λj hj=>by
    constructor
    ·intro h
     rcases Nat.lt_or_ge j m with h'|h'
     ·rw[uw j h'] at h;cases h
     ·exact h'
    ·intro h;exact gv j h hj
   have yX:m+(fuel+1)=l.length:=by
    rw[<-Bf]
    have:∀k,k<=l.length->m<=k->((List.range k).filter λj=>!listed.getD j true).length=k-m:=by
     intro k
     induction k with
     |zero=>intro _ h;simp
     |succ k ihk=>
      intro gP Bc
      rw[List.range_succ,List.filter_append,lA]
      rcases Nat.lt_or_ge k m with h'|h'
      ·have Pu:k+1=m:=by omega
       have hz:((List.range k).filter λj=>!listed.getD j true)=[]:=by
        rw[List.filter_eq_nil_iff]
        intro j hj
        rw[List.mem_range] at hj
        rw[uw j om];simp
       have e1:(!listed.getD k true)=false:=by rw[uw k h'];rfl
       simp only[hz,List.filter_cons,e1,List.filter_nil,List.length_nil]
       simp;omega
      ·rw[ihk om h']
       have e1:(!listed.getD k true)=true:=by rw[(yW k om).2 h'];rfl
       simp only[List.filter_cons,e1,List.filter_nil,if_true,lC,List.length_nil]
       omega
    have:=this l.length (lR _) C1
    omega
   exact Hu hB (fuel+1) m listed a w (lR _) yX hs yW h2
  ·have hex:∃j,j<m∧listed.getD j true=false∧∀i,i<j->listed.getD i true=true:=by
    have:∀k,(∃j,j<k∧listed.getD j true=false∧∀i,i<j->listed.getD i true=true)∨∀j,j<k->listed.getD j true=true:=by
     intro k
     induction k with
     |zero=>right;intro j hj;omega
     |succ k ihk=>
      rcases ihk with⟨j,hj,h1,h2⟩|h
      ·exact .inl ⟨j,om,h1,h2⟩
      ·cases hg:listed.getD k true with
       |false=>exact .inl ⟨k,om,hg,h⟩
       |true=>
        right
        intro j hj
        rcases Nat.lt_or_ge j k with h'|h'
        ·exact h j h'
        ·rw[show j=k from by omega];exact hg
    rcases this m with h|h
    ·exact h
    ·exact absurd h uw
   obtain⟨j0,EJ,EK,EL⟩:=hex
   obtain⟨o0,EM⟩:∃o,l[j0]?=some o:=⟨l[j0]'om,gE om⟩
   have oS:j0∈Region.ready .any l.toArray listed:=mem_ready.2 ⟨EK,o0,by simpa using EM,λed he hb=>by
    have eU:=(ou j0 o0 EM).1 ed he hb
    exact yU listed _ hs om (by rw[EL _ eU];simp)⟩
   refine⟨λhr=>(by rw[hr] at oS;cases oS),λi hi=>?_⟩
   obtain⟨hu,o,ho,dy⟩:=mem_ready.1 hi
   have mG:i<l.length:=by simpa using(Array.getElem?_eq_some_iff.1 ho).1
   have mL:l[i]?=some o:=by simpa using ho
   have qM:i<m:=by
    rcases Nat.lt_or_ge i m with h|h
    ·exact h
    ·have:=EI listed j0 hs om (Kg ot mL dy ((ou i o mL).2.2 h) (i-j0) j0 om om)
     rw[EK] at this;cases this
   have tL:listed.getD i false=false:=by
    cases h:listed.getD i false with
    |false=>rfl
    |true=>rw[EI listed i hs mG h] at hu;cases hu
   have h1:=step (λj=>listed.getD j false) e w i o qM mL tL (λj hj=>by
    obtain⟨ed,he,hb,ux⟩:=Kf hj
    rw[<-ux];exact dy ed he hb) hI
   have h2:=h1 a hf Q
   have next:∀(a':Act) (w':World),pz n (λe' w'=>Inv (λj=>if j=i then true else listed.getD j false) e' w') Q .normal a' w'->
     wpAny P .any l.toArray (pz n N Q) fuel (listed.setIfInBounds i true) a' w':=λa' w' hq=>by
    obtain⟨e',Kj,hI'⟩:=hq
    refine ih _ e' a' w' Kj (by simpa using hs) ?_ ?_ ?_ ?_
    ·have yX:∀k,k<=l.length->((List.range k).filter λj=>!(listed.setIfInBounds i true).getD j true).length+(if i<k then 1 else 0)=((List.range k).filter λj=>!listed.getD j true).length:=by
      intro k
      induction k with
      |zero=>simp
      |succ k ihk=>
       intro gP
       have xp:=ihk om
       rw[List.range_succ,List.filter_append,lA,List.filter_append,lA]
       by_cases uy:i=k
       ·subst uy
        rw[iN om] at xp
        have eU:i<listed.size:=by omega
        have e1:(listed.setIfInBounds i true).getD i true=true:=by simp[Array.getD_eq_getD_getElem?,eU]
        rw[iP om]
        simp only[List.filter_cons,e1,hu,List.filter_nil,Bool.not_true,Bool.not_false,if_true,Bool.false_eq_true,if_false,lC,List.length_nil]
        omega
       ·have e1:(listed.setIfInBounds i true).getD k true=listed.getD k true:=getD_set_ne true uy
        simp only[List.filter_cons,e1,List.filter_nil]
        have Xi:(i<k+1)↔(i<k):=by omega
        by_cases pA:i<k
        ·have c1:i<k+1:=by omega
         rw[iP pA] at xp;rw[iP c1];split<;>simp only[lC,List.length_nil]<;>omega
        ·have c1:¬i<k+1:=by omega
         rw[iN pA] at xp;rw[iN c1];split<;>simp only[lC,List.length_nil]<;>omega
     have:=yX l.length (lR _)
     rw[iP mG] at this
     omega
    ·intro j Kl vQ
     rw[getD_set_ne true om];exact gv j Kl vQ
    ·have e1:(λj=>(listed.setIfInBounds i true).getD j false)=λj=>if j=i then true else listed.getD j false:=by
      funext j
      by_cases lj:i=j
      ·subst lj
       have:i<listed.size:=by omega
       simp[Array.getD_eq_getD_getElem?,this]
      ·rw[getD_set_ne false lj,iN (λh=>lj h.symm)]
     rw[e1];exact hI'
    ·intro j oj Bg hj e2 mM aZ
     have vV:∀x,listed.getD x false=true->(listed.setIfInBounds i true).getD x false=true:=λx hx=>by
      by_cases EO:i=x
      ·subst EO
       have:i<listed.size:=by omega
       simp[Array.getD_eq_getD_getElem?,this]
      ·rw[getD_set_ne false EO];exact hx
     by_cases lj:i=j
     ·subst lj
      rw[mL] at Bg;cases Bg
      exact vV _ (dy e2 mM aZ)
     ·rw[getD_set_ne false lj] at hj
      exact vV _ (ot j oj Bg hj e2 mM aZ)
   unfold wpOp
   simp only[ho]
   unfold wpList at h2
   by_cases hw:Region.wanted o (yielded l.toArray a.tmps)=true
   ·rw[iP hw] at h2⊢
    rcases h2 with h2|⟨h2,h3⟩
    ·refine .inl (Oper.Kc (λa' w' h'=>next a' w' h') (λ_ _ _ h=>h) (fun⟨a,w,hq⟩=>⟨a,w,hq⟩) h2)
    ·exact .inr ⟨h2,by obtain⟨a',w',hq⟩:=h3;exact⟨a',w',hq⟩⟩
   ·rw[iN hw] at h2⊢
    exact next _ _ h2
inductive Ie where
 |v (V:Value)
 |p (f:List Nat->Value->World->Prop)
 |e (t:Nat)
 |w (t:Nat) (V:Value)
 |q (t:Nat) (f:Value->Prop)
def Ie.F:Ie->List Nat->Value->World->Prop
 | .v V=>λ_ v _=>v=V
 | .p f=>f
 | .e _=>λ_ _ _=>True
 | .w _ V=>λ_ v _=>v=V
 | .q _ f=>λ_ v _=>f v
def Ie.l6:Ie->Option Nat
 | .e t=>some t
 | .w t _=>some t
 | .q t _=>some t
 |_=>none
abbrev mY:Ie:=.p λ_ _ _=>True
def wy (its:List Ie) (ds:List Nat) (G:List Nat) (aW:List Value) (w:World):List Nat->(List (Nat×Value)->Prop)->Prop
 |[],k=>k []
 |j::r,k=>match its.getD j mY with
  | .v V=>wy its ds G aW w r λacc=>k ((ds.getD j 0,V)::acc)
  | .p f=>∀v,f G v w->wy its ds G aW w r λacc=>k ((ds.getD j 0,v)::acc)
  | .e t=>wy its ds G aW w r λacc=>k ((ds.getD j 0,aW.getD t undef)::acc)
  | .w _ V=>wy its ds G aW w r λacc=>k ((ds.getD j 0,V)::acc)
  | .q t f=>∀v,aW.getD t undef=v->f v->wy its ds G aW w r λacc=>k ((ds.getD j 0,v)::acc)
theorem Ad {its:List Ie} {ds:List Nat} {aW:List Value} {vs:Nat->Value}:∀{deps:List Nat} {k:List (Nat×Value)->Prop},wy its ds G aW w deps k->
  (∀j,j∈deps->(its.getD j mY).F G (vs j) w∧∀t,(its.getD j mY).l6=some t->aW.getD t undef=vs j)->k (tm ds vs deps)
 |[],k,h,_=>h
 |j::r,k,h,hd=>by
  obtain⟨hp,he⟩:=hd j (List.mem_cons_self ..)
  unfold wy at h
  have hr:∀i,i∈r->_:=λi hi=>hd i (mK _ hi)
  cases e:its.getD j mY with
  |v V=>
   rw[e] at h hp
   have hv:vs j=V:=hp
   subst hv
   exact Ad (deps:=r) h hr
  |p f=>
   rw[e] at h hp
   exact Ad (deps:=r) (h _ hp) hr
  |e t=>
   rw[e] at h
   have hv:=he t (by rw[e];rfl)
   simp only[hv] at h
   exact Ad (deps:=r) h hr
  |w t V=>
   rw[e] at h hp
   have hv:vs j=V:=hp
   subst hv
   exact Ad (deps:=r) h hr
  |q t f=>
   rw[e] at h hp
   exact Ad (deps:=r) (h _ (he t (by rw[e];rfl)) hp) hr
def fu (G:List Nat) (w:World):Prop:=∀x,x∈G->x<w.heap.size
def LS (P:Program) (n:Nat) (ops:Array Oper) (W ds:List Nat) (its:List Ie) (e0:Env) (G0:List Nat) (w0:World) (i:Nat) (o:Oper) (deps:List Nat):Prop:=
 ∀(x:Env) (w:World) (G:List Nat) (aW:List Value),Fr G0 w0 G w->fu G w->wy its ds G aW w deps λacc=>
  OW P n ops (λe' w'=>ak [] w w'∧(its.getD i mY).F G (e' (ds.getD i 0)) w'∧gm [ds.getD i 0] (aM (aN W x e0) acc) e') [o] (aM (aN W x e0) acc) w
def R6 (P:Program) (n:Nat) (ops:Array Oper) (W ds:List Nat) (its:List Ie) (Js:List (List Nat->List Value->World->Prop)) (e0:Env) (G0:List Nat) (w0:World) (t i:Nat) (o:Oper) (deps:List Nat):Prop:=
 ∀(x:Env) (w:World) (G:List Nat) (aW:List Value),Fr G0 w0 G w->fu G w->Js.getD t (λ_ _ _=>True) G aW w->aW.length=t->wy its ds G aW w deps λacc=>
  OW P n ops (λe' w'=>(∃G',Fr G w G' w'∧fu G' w'∧Js.getD (t+1) (λ_ _ _=>True) G' (aW++[e' (ds.getD i 0)]) w'∧(its.getD i mY).F G' (e' (ds.getD i 0)) w')∧gm [ds.getD i 0] (aM (aN W x e0) acc) e') [o] (aM (aN W x e0) acc) w
def Dy (P:Program) (n:Nat) (ops:Array Oper) (W ds:List Nat) (its:List Ie) (Js:List (List Nat->List Value->World->Prop)) (e0:Env) (G0:List Nat) (w0:World) (i:Nat) (o:Oper) (deps:List Nat):Prop:=
 match(its.getD i mY).l6 with
 |some t=>R6 P n ops W ds its Js e0 G0 w0 t i o deps
 |none=>LS P n ops W ds its e0 G0 w0 i o deps
def xV (P:Program) (n:Nat) (ops:Array Oper) (W ds:List Nat) (its:List Ie) (Js:List (List Nat->List Value->World->Prop)) (e0:Env) (G0:List Nat) (w0:World):Nat->List Oper->List (List Nat)->Prop
 |_,[],_=>True
 |_,_::_,[]=>True
 |k,o::l,d::r=>Dy P n ops W ds its Js e0 G0 w0 k o d∧xV P n ops W ds its Js e0 G0 w0 (k+1) l r
section
variable {P:Program} {n:Nat} {ops:Array Oper} {W ds:List Nat} {its:List Ie} {Js:List (List Nat->List Value->World->Prop)} {e0:Env} {G0:List Nat} {w0:World}
theorem vf {o:Oper} {l:List Oper} {d:List Nat} (h:LS P n ops W ds its e0 G0 w0 k o d) (hr:xV P n ops W ds its Js e0 G0 w0 (k+1) l r) (hk:(its.getD k mY).l6=none:=by rfl):xV P n ops W ds its Js e0 G0 w0 k (o::l) (d::r):=
 ⟨by unfold Dy;rw[hk];exact h,hr⟩
theorem ve (t:Nat) {o:Oper} {l:List Oper} {d:List Nat} (h:R6 P n ops W ds its Js e0 G0 w0 t k o d) (hr:xV P n ops W ds its Js e0 G0 w0 (k+1) l r) (hk:(its.getD k mY).l6=some t:=by rfl):xV P n ops W ds its Js e0 G0 w0 k (o::l) (d::r):=
 ⟨by unfold Dy;rw[hk];exact h,hr⟩
theorem R7:∀(l:List Oper) (deps:List (List Nat)) (k:Nat),xV P n ops W ds its Js e0 G0 w0 k l deps->∀(i:Nat) (o:Oper) (d:List Nat),l[i]?=some o->deps[i]?=some d->Dy P n ops W ds its Js e0 G0 w0 (k+i) o d
 |[],_,_,_,i,o,d,h,_=>by simp at h
 |_::_,[],_,_,i,o,d,_,h=>by simp at h
 |o::l,d::r,k,h,0,o',d',ho,hd=>by
  simp at ho hd;subst ho;subst hd;exact h.1
 |o::l,d::r,k,h,i+1,o',d',ho,hd=>by
  have:=R7 l r (k+1) h.2 i o' d' (by simpa using ho) (by simpa using hd)
  rwa [show k+1+i=k+(i+1) by omega] at this
end
def LU (l:List Oper) (m:Nat) (effs:List Nat) (its:List Ie):Bool:=
 (List.range effs.length).all (λt=>decide (effs.getD t 0<m)&&((its.getD (effs.getD t 0) mY).l6==some t)&&(decide (t=0)||(match l[effs.getD t 0]? with|some o=>waits o (effs.getD (t-1) 0)|none=>false)))&&
 (List.range m).all (λi=>match(its.getD i mY).l6 with|some t=>decide (t<effs.length)&&decide (effs.getD t 0=i)|none=>true)
theorem acy {l:List Oper} {m:Nat} {effs:List Nat} {its:List Ie} (h:LU l m effs its=true):
  (∀t,t<effs.length->effs.getD t 0<m∧(its.getD (effs.getD t 0) mY).l6=some t∧(t≠0->∃o,l[effs.getD t 0]?=some o∧waits o (effs.getD (t-1) 0)=true))∧
  ∀i t,i<m->(its.getD i mY).l6=some t->t<effs.length∧effs.getD t 0=i:=by
 unfold LU at h
 rw[aE,List.all_eq_true,List.all_eq_true] at h
 obtain⟨h1,h2⟩:=h
 refine⟨λt ht=>?_,λi t hi he=>?_⟩
 ·have:=h1 t (List.mem_range.2 ht)
  simp only[aE,dE,beq_iff_eq,oE] at this
  obtain⟨⟨a,b⟩,c⟩:=this
  refine⟨a,b,λh0=>?_⟩
  rcases c with c|c
  ·exact absurd c h0
  ·cases hl:l[effs.getD t 0]? with
   |none=>rw[hl] at c;cases c
   |some o=>rw[hl] at c;exact⟨o,rfl,c⟩
 ·have:=h2 i (List.mem_range.2 hi)
  rw[he] at this
  simpa using this
def Ae:List Ie->Prop
 |[]=>True
 | .p f::r=>(∀G v w G' w',f G v w->Fr G w G' w'->f G' v w')∧Ae r
 | .v _::r=>Ae r
 | .e _::r=>Ae r
 | .w _ _::r=>Ae r
 | .q _ _::r=>Ae r
theorem Dz:∀{its:List Ie},Ae its->∀q,q∈its->∀G v w G' w',q.F G v w->Fr G w G' w'->q.F G' v w'
 | .p f::r,h,q,hq,G,v,w,G',w',hf,hk=>by
  rcases mC.1 hq with e|hq
  ·subst e;exact h.1 _ _ _ _ _ hf hk
  ·exact Dz (its:=r) h.2 q hq _ _ _ _ _ hf hk
 | .v V::r,h,q,hq,G,v,w,G',w',hf,hk=>by
  rcases mC.1 hq with e|hq
  ·subst e;exact hf
  ·exact Dz (its:=r) h q hq _ _ _ _ _ hf hk
 | .e V::r,h,q,hq,G,v,w,G',w',hf,hk=>by
  rcases mC.1 hq with e|hq
  ·subst e;exact hf
  ·exact Dz (its:=r) h q hq _ _ _ _ _ hf hk
 | .w t V::r,h,q,hq,G,v,w,G',w',hf,hk=>by
  rcases mC.1 hq with e|hq
  ·subst e;exact hf
  ·exact Dz (its:=r) h q hq _ _ _ _ _ hf hk
 | .q t f::r,h,q,hq,G,v,w,G',w',hf,hk=>by
  rcases mC.1 hq with e|hq
  ·subst e;exact hf
  ·exact Dz (its:=r) h q hq _ _ _ _ _ hf hk
theorem R8 {its:List Ie} (h:Ae its) (i:Nat) (hf:(its.getD i mY).F G v w) (hk:Fr G w G' w'):(its.getD i mY).F G' v w':=by
 rw[gG] at hf⊢
 cases e:its[i]? with
 |none=>trivial
 |some q=>rw[e] at hf;exact Dz h q (List.mem_of_getElem? e) _ _ _ _ _ hf hk
def Ik:List (List Nat->List Value->World->Prop)->Prop
 |[]=>True
 |J::r=>(∀G vs w w',J G vs w->ak [] w w'->J G vs w')∧Ik r
theorem Fs:∀{Js:List (List Nat->List Value->World->Prop)},Ik Js->∀(k:Nat) {G:List Nat} {vs:List Value} {w w':World},Js.getD k (λ_ _ _=>True) G vs w->ak [] w w'->Js.getD k (λ_ _ _=>True) G vs w'
 |[],_,k,_,_,_,_,_,_=>by simp
 |J::r,h,0,_,_,_,_,hj,hk=>h.1 _ _ _ _ hj hk
 |J::r,h,k+1,_,_,_,_,hj,hk=>by
  have:=Fs (Js:=r) h.2 k (by simpa using hj) hk
  simpa using this
theorem jP {α:Type} {l:List α} (h:l.length=0):l=[]:=List.length_eq_zero_iff.1 h
theorem jQ {α:Type} {l:List α} (h:l.length=1):∃a,l=[a]:=List.length_eq_one_iff.1 h
theorem lM {α:Type} {l:List α} (h:l.length=2):∃a b,l=[a,b]:=by
 match l,h with|[a,b],_=>exact⟨a,b,rfl⟩
theorem Af {α:Type} {l:List α} (h:l.length=3):∃a b c,l=[a,b,c]:=by
 match l,h with|[a,b,c],_=>exact⟨a,b,c,rfl⟩
theorem LV {α:Type} {l:List α} (h:l.length=4):∃a b c d,l=[a,b,c,d]:=by
 match l,h with|[a,b,c,d],_=>exact⟨a,b,c,d,rfl⟩
theorem R9 {α:Type} {l:List α} (h:l.length=5):∃a b c d e,l=[a,b,c,d,e]:=by
 match l,h with|[a,b,c,d,e],_=>exact⟨a,b,c,d,e,rfl⟩
theorem acz {α:Type} {l:List α} (h:l.length=6):∃a b c d e f,l=[a,b,c,d,e,f]:=by
 match l,h with|[a,b,c,d,e,f],_=>exact⟨a,b,c,d,e,f,rfl⟩
theorem Ag {W ds:List Nat} {e:Env} (ha:gm W e0 e) (r:List Nat):aM (aN W e e0) (tm ds (λi=>e (ds.getD i 0)) r)=e:=by
 rw[yT ha,EG (by
  intro p hp
  have:∀(r:List Nat),p∈tm ds (λi=>e (ds.getD i 0)) r->e p.1=p.2:=by
   intro r
   induction r with
   |nil=>intro h;cases h
   |cons j r ih=>
    intro h
    rcases mC.1 h with h|h
    ·subst h;rfl
    ·exact ih h
  exact this _ hp)]
theorem kc {N R:Env->World->Prop} {X:Nat->Env->World->Prop} {id:Nat} {e0:Env} {w0:World} (hm:P.follows .mixedOrders=true) (G0:List Nat) (m:Nat) (W ds:List Nat) (deps:List (List Nat)) (its:List Ie) (effs:List Nat) (Js:List (List Nat->List Value->World->Prop)) 
  (hB:vU l m W ds deps=true) (hE:LU l m effs its=true) (hL:fu G0 w0) (hF:Ae its) (hJ:Ik Js) (h0:Js.getD 0 (λ_ _ _=>True) G0 [] w0)
  (hc:xV P n l.toArray W ds its Js e0 G0 w0 0 (l.take m) deps)
  (ht:∀(x:Env) (w:World) (G:List Nat) (aW:List Value),Fr G0 w0 G w->fu G w->Js.getD effs.length (λ_ _ _=>True) G aW w->aW.length=effs.length->wy its ds G aW w (List.range m) λacc=>OW P n l.toArray N (l.drop m) (aM (aN W x e0) acc) w):
  CW P n (.region id l.toArray true) N R X e0 w0:=λa ha=>by
 refine wp_region_any hm ?_
 have gL:ak [] w0 {w0 with drawn:=w0.drawn+1}:=ak.drew _ _
 obtain⟨C1,EH,Ki,jy,ou⟩:=CZ hB
 obtain⟨oX,mM⟩:=acy hE
 have eK:∀i j,i<m->j<m->i≠j->ds.getD j 0≠ds.getD i 0:=λi j hi hj lj=>by
  rw[gG,gG,gE om,gE om]
  simp only[Option.getD_some]
  intro he
  exact lj ((List.getElem_inj jy).1 he.symm)
 let Inv:(Nat->Bool)->Env->World->Prop:=λS e w=>∃G k,gm W e0 e∧Fr G0 w0 G w∧fu G w∧k<=effs.length∧(∀t,t<effs.length->(S (effs.getD t 0)=true↔t<k))∧
  Js.getD k (λ_ _ _=>True) G ((effs.take k).map λi=>e (ds.getD i 0)) w∧∀i,i<m->S i=true->(its.getD i mY).F G (e (ds.getD i 0)) w
 have Ft:∀(S:Nat->Bool) (e:Env) (k:Nat),(∀t,t<effs.length->(S (effs.getD t 0)=true↔t<k))->k<=effs.length->∀j t,j<m->S j=true->(its.getD j mY).l6=some t->((effs.take k).map λi=>e (ds.getD i 0)).getD t undef=e (ds.getD j 0):=by
  intro S e k hS hk j t hj l7 he
  obtain⟨h1,h2⟩:=mM j t hj he
  have h3:t<k:=(hS t h1).1 (by rw[h2];exact l7)
  rw[gG,List.getElem?_map,List.getElem?_take,iP h3,gE h1]
  rw[gG,gE h1] at h2
  simp only[Option.getD_some] at h2
  simp[h2]
 have step:∀(S:Nat->Bool) (e:Env) (w:World) (i:Nat) (o:Oper),i<m->l[i]?=some o->S i=false->(∀j,waits o j=true->S j=true)->Inv S e w->
   OW P n l.toArray (λe' w'=>Inv (λj=>if j=i then true else S j) e' w') [o] e w:=by
  rintro S e w i o qM ho tL Ah ⟨G,k,qe,bY,qu,gP,hS,uO,o3⟩
  obtain⟨hW,yY⟩:=(ou i o ho).2.1 qM
  obtain⟨dp,yZ⟩:∃d,deps[i]?=some d:=⟨deps[i]'om,gE om⟩
  have EN:deps.getD i []=dp:=by rw[gG,yZ];rfl
  rw[EN] at yY
  have jn:=R7 (l.take m) deps 0 hc i o dp (by rw[List.getElem?_take,iP qM];exact ho) yZ
  rw[Nat.zero_add] at jn
  have hd:∀j,j∈dp->(its.getD j mY).F G (e (ds.getD j 0)) w∧∀t,(its.getD j mY).l6=some t->((effs.take k).map λi=>e (ds.getD i 0)).getD t undef=e (ds.getD j 0):=λj hj=>by
   obtain⟨h1,h2⟩:=yY j hj
   exact⟨o3 j h2 (Ah j h1),λt het=>Ft S e k hS gP j t h2 (Ah j h1) het⟩
  have Fu:∀e',gm [ds.getD i 0] e e'->gm W e0 e':=λe' h t BO=>by
   have DA:t≠ds.getD i 0:=λhe=>by rw[he,hW] at BO;cases BO
   rw[h t (by simpa using DA)];exact qe t BO
  have Ai:∀e',gm [ds.getD i 0] e e'->∀j,j<m->j≠i->e' (ds.getD j 0)=e (ds.getD j 0):=λe' h j hj jt=>h _ (by simpa using eK i j qM hj (λh=>jt h.symm))
  have gd:[o]=[o]++[]:=rfl
  cases sH:(its.getD i mY).l6 with
  |none=>
   unfold Dy at jn
   rw[sH] at jn
   have h1:=Ad (jn e w G _ bY qu) (vs:=λj=>e (ds.getD j 0)) hd
   rw[Ag qe] at h1
   rw[gd]
   refine vT h1 ?_
   rintro e' w' ⟨pB,xW,l8⟩
   refine ag ⟨G,k,Fu e' l8,bY.ext pB,λx hx=>lL (qu x hx) pB.size,gP,λt gv=>?_,?_,λj hj l7=>?_⟩
   ·have sI:effs.getD t 0≠i:=λh=>by have:=(oX t gv).2.1;rw[h,sH] at this;cases this
    simp only[iN sI]
    exact hS t gv
   ·have e1:((effs.take k).map λi=>e' (ds.getD i 0))=(effs.take k).map λi=>e (ds.getD i 0):=by
     apply List.map_congr_left
     intro j hj
     obtain⟨t,nV⟩:=List.mem_iff_getElem?.1 hj
     rw[List.getElem?_take] at nV
     split at nV
     ·have gv:t<effs.length:=(List.getElem?_eq_some_iff.1 nV).1
      have ux:effs.getD t 0=j:=by rw[gG,nV];rfl
      have h3:=oX t gv
      rw[ux] at h3
      exact Ai e' l8 j h3.1 (λh=>by rw[h,sH] at h3;cases h3.2.1)
     ·cases nV
    rw[e1];exact Fs hJ k uO pB
   ·by_cases jt:j=i
    ·rw[jt];exact xW
    ·simp only[iN jt] at l7
     rw[Ai e' l8 j hj jt]
     exact R8 hF j (o3 j hj l7) (Fr.of pB sm)
  |some t=>
   unfold Dy at jn
   rw[sH] at jn
   obtain⟨gv,sI⟩:=mM i t qM sH
   have sJ:k=t:=by
    have h1:¬t<k:=λh=>by have:=(hS t gv).2 h;rw[sI,tL] at this;cases this
    rcases Nat.eq_zero_or_pos t with h0|h0
    ·omega
    ·obtain⟨o',mL,Fw⟩:=(oX t gv).2.2 om
     rw[sI,ho] at mL
     cases mL
     have:=(hS (t-1) om).1 (Ah _ Fw)
     omega
   subst sJ
   have hlen:((effs.take k).map λi=>e (ds.getD i 0)).length=k:=by simp;omega
   have h1:=Ad (jn e w G _ bY qu uO hlen) (vs:=λj=>e (ds.getD j 0)) hd
   rw[Ag qe] at h1
   rw[gd]
   refine vT h1 ?_
   rintro e' w' ⟨⟨G',wA,BP,DB,xW⟩,l8⟩
   have Fx:∀t',t'<effs.length->effs.getD t' 0=i->t'=k:=λt' h1 h2=>by
    have:=(oX t' h1).2.1
    rw[h2,sH] at this
    cases this;rfl
   refine ag ⟨G',k+1,Fu e' l8,bY.go wA,BP,om,λt' Aj=>?_,?_,λj hj l7=>?_⟩
   ·by_cases h2:effs.getD t' 0=i
    ·have:=Fx t' Aj h2
     simp only[iP h2]
     exact⟨λ_=>om,λ_=>trivial⟩
    ·simp only[iN h2]
     rw[hS t' Aj]
     have:t'≠k:=λh=>by rw[h] at h2;exact h2 sI
     omega
   ·have e1:((effs.take (k+1)).map λi=>e' (ds.getD i 0))=((effs.take k).map λi=>e (ds.getD i 0))++[e' (ds.getD i 0)]:=by
     have h2:effs[k]?=some i:=by
      rw[gG,gE gv] at sI
      rw[gE gv]
      simpa using sI
     rw[List.take_add_one,h2,List.map_append]
     congr 1
     apply List.map_congr_left
     intro j hj
     obtain⟨t',nV⟩:=List.mem_iff_getElem?.1 hj
     rw[List.getElem?_take] at nV
     split at nV
     ·rename_i eU
      have Aj:t'<effs.length:=(List.getElem?_eq_some_iff.1 nV).1
      have ux:effs.getD t' 0=j:=by rw[gG,nV];rfl
      exact Ai e' l8 j (by have:=(oX t' Aj).1;rw[ux] at this;exact this) (λh=>by have:=Fx t' Aj (ux.trans h);omega)
     ·cases nV
    rw[e1];exact DB
   ·by_cases jt:j=i
    ·rw[jt];exact xW
    ·simp only[iN jt] at l7
     rw[Ai e' l8 j hj jt]
     exact R8 hF j (o3 j hj l7) wA
 have tail:∀(S:Nat->Bool) (e:Env) (w:World),(∀i,i<m->S i=true)->Inv S e w->OW P n l.toArray N (l.drop m) e w:=by
  rintro S e w Ak ⟨G,k,qe,bY,qu,gP,hS,uO,o3⟩
  have hk:k=effs.length:=by
   rcases Nat.lt_or_ge k effs.length with h|h
   ·have:=(hS k h).1 (Ak _ (oX k h).1);omega
   ·omega
  subst hk
  have h1:=Ad (ht e w G _ bY qu uO sm) (vs:=λj=>e (ds.getD j 0)) (λj hj=>by
   have pC:=List.mem_range.1 hj
   exact⟨o3 j pC (Ak j pC),λt het=>Ft S e _ hS gP j t pC (Ak j pC) het⟩)
  rw[Ag qe] at h1
  exact h1
 have jm:∀j,(Array.replicate l.length false).getD j false=false:=λj=>by
  rw[Array.getD_eq_getD_getElem?,Array.getElem?_replicate];split<;>rfl
 have LW:Inv (λj=>(Array.replicate l.length false).getD j false) e0 {w0 with drawn:=w0.drawn+1}:=by
  refine⟨G0,0,Ba,Fr.of gL sm,λx hx=>hL x hx,Nat.zero_le _,λt gv=>?_,Fs hJ 0 h0 gL,λi hi tL=>?_⟩
  ·constructor
   ·intro h;exact absurd ((jm (effs.getD t 0)).symm.trans h) sm
   ·intro h;omega
  ·exact absurd ((jm i).symm.trans tL) sm
 have:=R5 (N:=N) (Inv:=Inv) hB step tail (lz n N R X) l.length (Array.replicate l.length false) e0 a _ ha sm
  (by
   have:((List.range l.length).filter λj=>!(Array.replicate l.length false).getD j true)=List.range l.length:=by
    rw[List.filter_eq_self]
    intro j hj
    rw[List.mem_range] at hj
    simp[Array.getD_eq_getD_getElem?,hj]
   rw[this];simp)
  (by intro j _ hj;simp[Array.getD_eq_getD_getElem?,hj])
  LW
  (by
   intro j o ho hj
   have pC:j<l.length:=(List.getElem?_eq_some_iff.1 ho).1
   simp[Array.getD_eq_getD_getElem?,pC] at hj)
 have e1:pz n N (lz n N R X)=lz n N R X:=by
  funext x a w;cases x<;>rfl
 rw[e1] at this
 simpa using this
end
section
variable {P:Program} {n:Nat} {ops:Array Oper} {e:Env} {w w':World} {G:List Nat}
theorem fv (h:v=V:=by rfl):OW P n ops (λe' w'=>ak [] w w'∧(Ie.v V).F G (e' d) w'∧gm [d] e e') [] (cO e (some d) v) w:=
 ag ⟨ak.refl _ _,by subst h;exact nH _ _ _,qL⟩
theorem fk (k:ak [] w w') (h:v=V:=by rfl):OW P n ops (λe' w'=>ak [] w w'∧(Ie.v V).F G (e' d) w'∧gm [d] e e') [] (cO e (some d) v) w':=
 ag ⟨k,by subst h;exact nH _ _ _,qL⟩
theorem ff {f:List Nat->Value->World->Prop} (k:ak [] w w') (h:f G v w'):OW P n ops (λe' w'=>ak [] w w'∧(Ie.p f).F G (e' d) w'∧gm [d] e e') [] (cO e (some d) v) w':=
 ag ⟨k,by show f G (kI e d v d) w';rw[nH];exact h,qL⟩
theorem fe {aW:List Value} (G':List Nat) (k:Fr G w G' w') (hl:fu G' w') (h:J G' (aW++[v]) w'):OW P n ops (λe' w'=>(∃G',Fr G w G' w'∧fu G' w'∧J G' (aW++[e' d]) w'∧(Ie.e t).F G' (e' d) w')∧gm [d] e e') [] (cO e (some d) v) w':=
 ag ⟨⟨G',k,hl,by show J G' (aW++[kI e d v d]) w';rw[nH];exact h,trivial⟩,qL⟩
theorem fw {aW:List Value} (G':List Nat) (k:Fr G w G' w') (hl:fu G' w') (h:J G' (aW++[v]) w') (hv:v=V:=by rfl):OW P n ops (λe' w'=>(∃G',Fr G w G' w'∧fu G' w'∧J G' (aW++[e' d]) w'∧(Ie.w t V).F G' (e' d) w')∧gm [d] e e') [] (cO e (some d) v) w':=
 ag ⟨⟨G',k,hl,by show J G' (aW++[kI e d v d]) w';rw[nH];exact h,by subst hv;exact nH _ _ _⟩,qL⟩
theorem fq {f:Value->Prop} {aW:List Value} (G':List Nat) (k:Fr G w G' w') (hl:fu G' w') (h:J G' (aW++[v]) w') (hv:f v):OW P n ops (λe' w'=>(∃G',Fr G w G' w'∧fu G' w'∧J G' (aW++[e' d]) w'∧(Ie.q t f).F G' (e' d) w')∧gm [d] e e') [] (cO e (some d) v) w':=
 ag ⟨⟨G',k,hl,by show J G' (aW++[kI e d v d]) w';rw[nH];exact h,by show f (kI e d v d);rw[nH];exact hv⟩,qL⟩
end
theorem cR {P:Program} {ops:Array Oper} {W ds:List Nat} {its:List Ie} {Js:List (List Nat->List Value->World->Prop)} {o:Oper} {d:List Nat} (hr:xV P n ops W ds its Js e0 G0 w0 (k+1) l r) (h:LS P n ops W ds its e0 G0 w0 k o d:=by exact λ_ _ _ _ _ _=>zm fv) (hk:(its.getD k mY).l6=none:=by rfl):xV P n ops W ds its Js e0 G0 w0 k (o::l) (d::r):=vf h hr hk
inductive Iu where
 |v (V:Value)
 |p (f:List Nat->Value->World->Prop)
 |e (t:Nat)
 |w (t:Nat) (V:Value)
 |d (f:List Value->Value)
 |u
def Iu.F:Iu->List Nat->Value->World->Prop
 | .v V=>λ_ v _=>v=V
 | .p f=>f
 | .w _ V=>λ_ v _=>v=V
 |_=>λ_ _ _=>True
def Iu.l6:Iu->Option Nat
 | .e t=>some t
 | .w t _=>some t
 |_=>none
def Iu.rQ:Iu->Bool
 | .u=>true
 |_=>false
def Iu.late:Iu->Bool
 | .u=>true
 | .d _=>true
 |_=>false
abbrev fU:Iu:=.p λ_ _ _=>True
def sK (its:List Iu) (ds:List Nat) (G:List Nat) (aW:List Value) (w:World):List Nat->(List (Nat×Value)->Prop)->Prop
 |[],k=>k []
 |j::r,k=>match its.getD j fU with
  | .v V=>sK its ds G aW w r λacc=>k ((ds.getD j 0,V)::acc)
  | .p f=>∀v,f G v w->sK its ds G aW w r λacc=>k ((ds.getD j 0,v)::acc)
  | .e t=>sK its ds G aW w r λacc=>k ((ds.getD j 0,aW.getD t undef)::acc)
  | .w _ V=>sK its ds G aW w r λacc=>k ((ds.getD j 0,V)::acc)
  | .d f=>sK its ds G aW w r λacc=>k ((ds.getD j 0,f aW)::acc)
  | .u=>∀v,sK its ds G aW w r λacc=>k ((ds.getD j 0,v)::acc)
def Sa (q:Iu) (G:List Nat) (aW:List Value) (v:Value) (w:World):Prop:=q.F G v w∧(∀t,q= .e t->aW.getD t undef=v)∧∀f,q= .d f->f aW=v
theorem uP {its:List Iu} {ds:List Nat} {aW:List Value} {vs:Nat->Value}:∀{deps:List Nat} {k:List (Nat×Value)->Prop},sK its ds G aW w deps k->
  (∀j,j∈deps->Sa (its.getD j fU) G aW (vs j) w)->k (tm ds vs deps)
 |[],k,h,_=>h
 |j::r,k,h,hd=>by
  obtain⟨hp,he,hq⟩:=hd j (List.mem_cons_self ..)
  unfold sK at h
  have hr:∀i,i∈r->_:=λi hi=>hd i (mK _ hi)
  cases e:its.getD j fU with
  |v V=>
   rw[e] at h hp
   have hv:vs j=V:=hp
   subst hv
   exact uP (deps:=r) h hr
  |p f=>
   rw[e] at h hp
   exact uP (deps:=r) (h _ hp) hr
  |e t=>
   rw[e] at h
   have hv:=he t e
   simp only[hv] at h
   exact uP (deps:=r) h hr
  |w t V=>
   rw[e] at h hp
   have hv:vs j=V:=hp
   subst hv
   exact uP (deps:=r) h hr
  |d f=>
   rw[e] at h
   have hv:=hq f e
   simp only[hv] at h
   exact uP (deps:=r) h hr
  |u=>
   rw[e] at h
   exact uP (deps:=r) (h _) hr
section
variable (P:Program) (n:Nat) (ops:Array Oper) (W ds:List Nat) (its:List Iu) (Js:List (List Nat->List Value->World->Prop)) (JF:(Nat->Bool)->List Nat->List Value->World->Prop) (e0:Env) (G0:List Nat) (w0:World)
def LX (i:Nat) (o:Oper) (deps:List Nat):Prop:=
 ∀(x:Env) (w:World) (G:List Nat) (aW:List Value),Fr G0 w0 G w->fu G w->sK its ds G aW w deps λacc=>
  OW P n ops (λe' w'=>ak [] w w'∧(its.getD i fU).F G (e' (ds.getD i 0)) w'∧gm [ds.getD i 0] (aM (aN W x e0) acc) e') [o] (aM (aN W x e0) acc) w
def Il (t i:Nat) (o:Oper) (deps:List Nat):Prop:=
 ∀(x:Env) (w:World) (G:List Nat) (aW:List Value),Fr G0 w0 G w->fu G w->Js.getD t (λ_ _ _=>True) G aW w->aW.length=t->sK its ds G aW w deps λacc=>
  OW P n ops (λe' w'=>(∃G',Fr G w G' w'∧fu G' w'∧Js.getD (t+1) (λ_ _ _=>True) G' (aW++[e' (ds.getD i 0)]) w'∧(its.getD i fU).F G' (e' (ds.getD i 0)) w')∧gm [ds.getD i 0] (aM (aN W x e0) acc) e') [o] (aM (aN W x e0) acc) w
def Sb (ne:Nat) (f:List Value->Value) (i:Nat) (o:Oper) (deps:List Nat):Prop:=
 ∀(x:Env) (w:World) (G:List Nat) (aW:List Value) (S:Nat->Bool),Fr G0 w0 G w->fu G w->JF S G aW w->aW.length=ne->sK its ds G aW w deps λacc=>
  OW P n ops (λe' w'=>ak [] w w'∧e' (ds.getD i 0)=f aW∧gm [ds.getD i 0] (aM (aN W x e0) acc) e') [o] (aM (aN W x e0) acc) w
def Sd (ne i:Nat) (o:Oper) (deps:List Nat):Prop:=
 ∀(x:Env) (w:World) (G:List Nat) (aW:List Value) (S:Nat->Bool),Fr G0 w0 G w->fu G w->JF S G aW w->S i=false->aW.length=ne->sK its ds G aW w deps λacc=>
  OW P n ops (λe' w'=>(∃G',Fr G w G' w'∧fu G' w'∧JF (λj=>if j=i then true else S j) G' aW w')∧gm [ds.getD i 0] (aM (aN W x e0) acc) e') [o] (aM (aN W x e0) acc) w
def uc (ne i:Nat) (o:Oper) (deps:List Nat):Prop:=match its.getD i fU with
 | .e t=>Il P n ops W ds its Js e0 G0 w0 t i o deps
 | .w t _=>Il P n ops W ds its Js e0 G0 w0 t i o deps
 | .d f=>Sb P n ops W ds its JF e0 G0 w0 ne f i o deps
 | .u=>Sd P n ops W ds its JF e0 G0 w0 ne i o deps
 |_=>LX P n ops W ds its e0 G0 w0 i o deps
def uQ (ne:Nat):Nat->List Oper->List (List Nat)->Prop
 |_,[],_=>True
 |_,_::_,[]=>True
 |k,o::l,d::r=>uc P n ops W ds its Js JF e0 G0 w0 ne k o d∧uQ ne (k+1) l r
end
section
variable {P:Program} {n:Nat} {ops:Array Oper} {W ds:List Nat} {its:List Iu} {Js:List (List Nat->List Value->World->Prop)} {JF:(Nat->Bool)->List Nat->List Value->World->Prop} {e0:Env} {G0:List Nat} {w0:World} {ne:Nat}
theorem uf {o:Oper} {d:List Nat} (h:LX P n ops W ds its e0 G0 w0 k o d) (hr:uQ P n ops W ds its Js JF e0 G0 w0 ne (k+1) l r) (hk:(its.getD k fU).l6=none∧(its.getD k fU).late=false:=by exact⟨rfl,rfl⟩):uQ P n ops W ds its Js JF e0 G0 w0 ne k (o::l) (d::r):=
 ⟨(by
  unfold uc
  obtain⟨h1,h2⟩:=hk
  cases e:its.getD k fU with
  |e t=>rw[e] at h1;cases h1
  |w t V=>rw[e] at h1;cases h1
  |d f=>rw[e] at h2;cases h2
  |u=>rw[e] at h2;cases h2
  |v V=>exact h
  |p f=>exact h),hr⟩
theorem ue (t:Nat) {o:Oper} {d:List Nat} (h:Il P n ops W ds its Js e0 G0 w0 t k o d) (hr:uQ P n ops W ds its Js JF e0 G0 w0 ne (k+1) l r) (hk:(its.getD k fU).l6=some t:=by rfl):uQ P n ops W ds its Js JF e0 G0 w0 ne k (o::l) (d::r):=
 ⟨(by
  unfold uc
  cases e:its.getD k fU with
  |e t'=>rw[e] at hk;cases hk;exact h
  |w t' V=>rw[e] at hk;cases hk;exact h
  |d f=>rw[e] at hk;cases hk
  |u=>rw[e] at hk;cases hk
  |v V=>rw[e] at hk;cases hk
  |p f=>rw[e] at hk;cases hk),hr⟩
theorem ud {o:Oper} {d:List Nat} {f:List Value->Value} (h:Sb P n ops W ds its JF e0 G0 w0 ne f k o d) (hr:uQ P n ops W ds its Js JF e0 G0 w0 ne (k+1) l r) (hk:its.getD k fU= .d f:=by rfl):uQ P n ops W ds its Js JF e0 G0 w0 ne k (o::l) (d::r):=
 ⟨by unfold uc;rw[hk];exact h,hr⟩
theorem uu {o:Oper} {d:List Nat} (h:Sd P n ops W ds its JF e0 G0 w0 ne k o d) (hr:uQ P n ops W ds its Js JF e0 G0 w0 ne (k+1) l r) (hk:its.getD k fU= .u:=by rfl):uQ P n ops W ds its Js JF e0 G0 w0 ne k (o::l) (d::r):=
 ⟨by unfold uc;rw[hk];exact h,hr⟩
theorem Se:∀(l:List Oper) (deps:List (List Nat)) (k:Nat),uQ P n ops W ds its Js JF e0 G0 w0 ne k l deps->∀(i:Nat) (o:Oper) (d:List Nat),l[i]?=some o->deps[i]?=some d->uc P n ops W ds its Js JF e0 G0 w0 ne (k+i) o d
 |[],_,_,_,i,o,d,h,_=>by simp at h
 |_::_,[],_,_,i,o,d,_,h=>by simp at h
 |o::l,d::r,k,h,0,o',d',ho,hd=>by
  simp at ho hd;subst ho;subst hd;exact h.1
 |o::l,d::r,k,h,i+1,o',d',ho,hd=>by
  have:=Se l r (k+1) h.2 i o' d' (by simpa using ho) (by simpa using hd)
  rwa [show k+1+i=k+(i+1) by omega] at this
end
def uB (l:List Oper) (m:Nat) (effs:List Nat) (its:List Iu):Bool:=
 (List.range effs.length).all (λt=>decide (effs.getD t 0<m)&&((its.getD (effs.getD t 0) fU).l6==some t)&&(decide (t=0)||(match l[effs.getD t 0]? with|some o=>waits o (effs.getD (t-1) 0)|none=>false)))&&
 (List.range m).all (λi=>(match(its.getD i fU).l6 with|some t=>decide (t<effs.length)&&decide (effs.getD t 0=i)|none=>true)&&
  (!(its.getD i fU).late||decide (effs.length=0)||(match l[i]? with|some o=>waits o (effs.getD (effs.length-1) 0)|none=>false)))&&
 decide (its.length<=m)
theorem acA {m:Nat} {effs:List Nat} {its:List Iu} (h:uB l m effs its=true):
  (∀t,t<effs.length->effs.getD t 0<m∧(its.getD (effs.getD t 0) fU).l6=some t∧(t≠0->∃o,l[effs.getD t 0]?=some o∧waits o (effs.getD (t-1) 0)=true))∧
  (∀i t,i<m->(its.getD i fU).l6=some t->t<effs.length∧effs.getD t 0=i)∧
  (∀i,i<m->(its.getD i fU).late=true->effs.length≠0->∃o,l[i]?=some o∧waits o (effs.getD (effs.length-1) 0)=true)∧its.length<=m:=by
 unfold uB at h
 rw[aE,aE,List.all_eq_true,List.all_eq_true,dE] at h
 obtain⟨⟨h1,h2⟩,h3⟩:=h
 refine⟨λt ht=>?_,λi t hi he=>?_,λi hi hl hn=>?_,h3⟩
 ·have:=h1 t (List.mem_range.2 ht)
  simp only[aE,dE,beq_iff_eq,oE] at this
  obtain⟨⟨a,b⟩,c⟩:=this
  refine⟨a,b,λh0=>?_⟩
  rcases c with c|c
  ·exact absurd c h0
  ·cases hl:l[effs.getD t 0]? with
   |none=>rw[hl] at c;cases c
   |some o=>rw[hl] at c;exact⟨o,rfl,c⟩
 ·have:=h2 i (List.mem_range.2 hi)
  rw[he] at this
  simp only[aE,dE] at this
  exact this.1
 ·have:=h2 i (List.mem_range.2 hi)
  rw[aE,hl] at this
  have:=this.2
  simp only[Bool.not_true,Bool.false_or,oE,dE] at this
  rcases this with c|c
  ·exact absurd c hn
  ·cases hl:l[i]? with
   |none=>rw[hl] at c;cases c
   |some o=>rw[hl] at c;exact⟨o,rfl,c⟩
def Fy:List Iu->Prop
 |[]=>True
 | .p f::r=>(∀G v w G' w',f G v w->Fr G w G' w'->f G' v w')∧Fy r
 |_::r=>Fy r
theorem BQ:∀{its:List Iu},Fy its->∀q,q∈its->∀G v w G' w',q.F G v w->Fr G w G' w'->q.F G' v w'
 |s::r,h,q,hq,G,v,w,G',w',hf,hk=>by
  rcases mC.1 hq with e|oI
  ·subst e
   cases q with
   |p f=>exact h.1 _ _ _ _ _ hf hk
   |_=>exact hf
  ·cases s with
   |p f=>exact BQ (its:=r) h.2 q oI _ _ _ _ _ hf hk
   |v V=>exact BQ (its:=r) h q oI _ _ _ _ _ hf hk
   |e t=>exact BQ (its:=r) h q oI _ _ _ _ _ hf hk
   |w t V=>exact BQ (its:=r) h q oI _ _ _ _ _ hf hk
   |d f=>exact BQ (its:=r) h q oI _ _ _ _ _ hf hk
   |u=>exact BQ (its:=r) h q oI _ _ _ _ _ hf hk
theorem Sf {its:List Iu} (h:Fy its) (i:Nat) (hf:(its.getD i fU).F G v w) (hk:Fr G w G' w'):(its.getD i fU).F G' v w':=by
 rw[gG] at hf⊢
 cases e:its[i]? with
 |none=>trivial
 |some q=>rw[e] at hf;exact BQ h q (List.mem_of_getElem? e) _ _ _ _ _ hf hk
section
variable {P:Program} {n:Nat} {l:List Oper} {m:Nat} {W ds:List Nat} {deps:List (List Nat)}
theorem Sg {N R:Env->World->Prop} {X:Nat->Env->World->Prop} {id:Nat} {e0:Env} {w0:World} (hm:P.follows .mixedOrders=true) (G0:List Nat) (m:Nat) (W ds:List Nat) (deps:List (List Nat)) (its:List Iu) (effs:List Nat) (Js:List (List Nat->List Value->World->Prop)) (JF:(Nat->Bool)->List Nat->List Value->World->Prop) 
  (hB:vU l m W ds deps=true) (hE:uB l m effs its=true) (hL:fu G0 w0) (hF:Fy its) (hJ:Ik Js) (Sh:∀S G vs w w',JF S G vs w->ak [] w w'->JF S G vs w') (h0:Js.getD 0 (λ_ _ _=>True) G0 [] w0)
  (Im:∀G vs w,Js.getD effs.length (λ_ _ _=>True) G vs w->vs.length=effs.length->JF (λ_=>false) G vs w)
  (hc:uQ P n l.toArray W ds its Js JF e0 G0 w0 effs.length 0 (l.take m) deps)
  (ht:∀(x:Env) (w:World) (G:List Nat) (aW:List Value),Fr G0 w0 G w->fu G w->JF (λi=>(its.getD i fU).rQ) G aW w->aW.length=effs.length->sK its ds G aW w (List.range m) λacc=>OW P n l.toArray N (l.drop m) (aM (aN W x e0) acc) w):
  CW P n (.region id l.toArray true) N R X e0 w0:=λa ha=>by
 refine wp_region_any hm ?_
 have gL:ak [] w0 {w0 with drawn:=w0.drawn+1}:=ak.drew _ _
 obtain⟨C1,EH,Ki,jy,ou⟩:=CZ hB
 obtain⟨oX,mM,he3,mG⟩:=acA hE
 have eK:∀i j,i<m->j<m->i≠j->ds.getD j 0≠ds.getD i 0:=λi j hi hj lj=>by
  rw[gG,gG,gE om,gE om]
  simp only[Option.getD_some]
  intro he
  exact lj ((List.getElem_inj jy).1 he.symm)
 let vl:Nat->Env->List Value:=λk e=>(effs.take k).map λi=>e (ds.getD i 0)
 let US:(Nat->Bool)->Nat->Bool:=λS i=>S i&&(its.getD i fU).rQ
 let Inv:(Nat->Bool)->Env->World->Prop:=λS e w=>∃G k,gm W e0 e∧Fr G0 w0 G w∧fu G w∧k<=effs.length∧(∀t,t<effs.length->(S (effs.getD t 0)=true↔t<k))∧
  (k<effs.length->Js.getD k (λ_ _ _=>True) G (vl k e) w∧∀i,i<m->S i=true->(its.getD i fU).late=false)∧(k=effs.length->JF (US S) G (vl k e) w)∧
  ∀i,i<m->S i=true->(its.getD i fU).F G (e (ds.getD i 0)) w∧∀f,its.getD i fU= .d f->f (vl k e)=e (ds.getD i 0)
 have Ft:∀(S:Nat->Bool) (e:Env) (k:Nat),(∀t,t<effs.length->(S (effs.getD t 0)=true↔t<k))->k<=effs.length->∀j t,j<m->S j=true->(its.getD j fU).l6=some t->(vl k e).getD t undef=e (ds.getD j 0):=by
  intro S e k hS hk j t hj l7 he
  obtain⟨h1,h2⟩:=mM j t hj he
  have h3:t<k:=(hS t h1).1 (by rw[h2];exact l7)
  show((effs.take k).map λi=>e (ds.getD i 0)).getD t undef=_
  rw[gG,List.getElem?_map,List.getElem?_take,iP h3,gE h1]
  rw[gG,gE h1] at h2
  simp only[Option.getD_some] at h2
  simp[h2]
 have Fz:∀k e,k<=effs.length->(vl k e).length=k:=λk e hk=>by show((effs.take k).map _).length=k;simp;omega
 have step:∀(S:Nat->Bool) (e:Env) (w:World) (i:Nat) (o:Oper),i<m->l[i]?=some o->S i=false->(∀j,waits o j=true->S j=true)->Inv S e w->
   OW P n l.toArray (λe' w'=>Inv (λj=>if j=i then true else S j) e' w') [o] e w:=by
  rintro S e w i o qM ho tL Ah ⟨G,k,qe,bY,qu,gP,hS,uO,DC,o3⟩
  obtain⟨hW,yY⟩:=(ou i o ho).2.1 qM
  obtain⟨dp,yZ⟩:∃d,deps[i]?=some d:=⟨deps[i]'om,gE om⟩
  have EN:deps.getD i []=dp:=by rw[gG,yZ];rfl
  rw[EN] at yY
  have jn:=Se (l.take m) deps 0 hc i o dp (by rw[List.getElem?_take,iP qM];exact ho) yZ
  rw[Nat.zero_add] at jn
  have hd:∀j,j∈dp->Sa (its.getD j fU) G (vl k e) (e (ds.getD j 0)) w:=λj hj=>by
   obtain⟨h1,h2⟩:=yY j hj
   have h3:=o3 j h2 (Ah j h1)
   exact⟨h3.1,λt het=>Ft S e k hS gP j t h2 (Ah j h1) (by rw[het];rfl),h3.2⟩
  have Fu:∀e',gm [ds.getD i 0] e e'->gm W e0 e':=λe' h t BO=>by
   have DA:t≠ds.getD i 0:=λhe=>by rw[he,hW] at BO;cases BO
   rw[h t (by simpa using DA)];exact qe t BO
  have Ai:∀e',gm [ds.getD i 0] e e'->∀j,j<m->j≠i->e' (ds.getD j 0)=e (ds.getD j 0):=λe' h j hj jt=>h _ (by simpa using eK i j qM hj (λh=>jt h.symm))
  have gd:[o]=[o]++[]:=rfl
  have Si:∀e',gm [ds.getD i 0] e e'->∀k',k'<=effs.length->(∀t,t<k'->effs.getD t 0≠i)->vl k' e'=vl k' e:=λe' l8 k' pB mZ=>by
   show(effs.take k').map _=(effs.take k').map _
   apply List.map_congr_left
   intro j hj
   obtain⟨t,nV⟩:=List.mem_iff_getElem?.1 hj
   rw[List.getElem?_take] at nV
   split at nV
   ·rename_i eU
    have gv:t<effs.length:=(List.getElem?_eq_some_iff.1 nV).1
    have ux:effs.getD t 0=j:=by rw[gG,nV];rfl
    exact Ai e' l8 j (by have:=(oX t gv).1;rw[ux] at this;exact this) (λh=>mZ t eU (ux.trans h))
   ·cases nV
  -- what is late comes behind the last effect
  have Sj:(its.getD i fU).late=true->k=effs.length:=λhl=>by
   rcases Nat.eq_zero_or_pos effs.length with h0|h0
   ·omega
   ·obtain⟨o',mL,Fw⟩:=he3 i qM hl om
    rw[ho] at mL;cases mL
    have:=(hS (effs.length-1) om).1 (Ah _ Fw)
    omega
  -- an operation that is no effect in the order
  have main:∀(e':Env) (w':World) (G':List Nat),(its.getD i fU).l6=none->gm [ds.getD i 0] e e'->Fr G w G' w'->fu G' w'->
    (k<effs.length->Js.getD k (λ_ _ _=>True) G' (vl k e) w'∧(its.getD i fU).late=false)->(k=effs.length->JF (US λj=>if j=i then true else S j) G' (vl k e) w')->
    (its.getD i fU).F G' (e' (ds.getD i 0)) w'->(∀f,its.getD i fU= .d f->f (vl k e)=e' (ds.getD i 0))->Inv (λj=>if j=i then true else S j) e' w':=by
   intro e' w' G' sH l8 wA BP DD rR xW hDi
   have mZ:∀t,t<effs.length->effs.getD t 0≠i:=λt gv h=>by have:=(oX t gv).2.1;rw[h,sH] at this;cases this
   have BR:=Si e' l8 k gP (λt ht=>mZ t om)
   refine⟨G',k,Fu e' l8,bY.go wA,BP,gP,λt gv=>?_,λeU=>⟨?_,λj hj l7=>?_⟩,λl9=>?_,λj hj l7=>?_⟩
   ·simp only[iN (mZ t gv)];exact hS t gv
   ·rw[BR];exact(DD eU).1
   ·by_cases jt:j=i
    ·rw[jt];exact(DD eU).2
    ·simp only[iN jt] at l7;exact(uO eU).2 j hj l7
   ·rw[BR];exact rR l9
   ·rw[BR]
    by_cases jt:j=i
    ·rw[jt];exact⟨xW,hDi⟩
    ·simp only[iN jt] at l7
     rw[Ai e' l8 j hj jt]
     exact⟨Sf hF j (o3 j hj l7).1 wA,(o3 j hj l7).2⟩
  have Sk:(its.getD i fU).rQ=false->US (λj=>if j=i then true else S j)=US S:=λh=>by
   funext j
   show((if j=i then true else S j)&&(its.getD j fU).rQ)=(S j&&(its.getD j fU).rQ)
   by_cases jt:j=i
   ·rw[jt,h];simp
   ·rw[iN jt]
  -- the cases
  have floatC:LX P n l.toArray W ds its e0 G0 w0 i o dp->(its.getD i fU).l6=none->(its.getD i fU).late=false->(∀f,its.getD i fU≠ .d f)->(its.getD i fU).rQ=false->OW P n l.toArray (λe' w'=>Inv (λj=>if j=i then true else S j) e' w') [o] e w:=by
   intro jn sH FA LY Sl
   have h1:=uP (jn e w G _ bY qu) (vs:=λj=>e (ds.getD j 0)) hd
   rw[Ag qe] at h1
   rw[gd]
   refine vT h1 ?_
   rintro e' w' ⟨pB,xW,l8⟩
   exact ag (main e' w' G sH l8 (Fr.of pB sm) (λx hx=>lL (qu x hx) pB.size) (λeU=>⟨Fs hJ k (uO eU).1 pB,FA⟩) (λl9=>by rw[Sk Sl];exact Sh _ _ _ _ _ (DC l9) pB) xW (λf hf=>absurd hf (LY f)))
  have effC:∀t,(its.getD i fU).l6=some t->Il P n l.toArray W ds its Js e0 G0 w0 t i o dp->(its.getD i fU).late=false->(∀f,its.getD i fU≠ .d f)->(its.getD i fU).rQ=false->OW P n l.toArray (λe' w'=>Inv (λj=>if j=i then true else S j) e' w') [o] e w:=by
   intro t sH jn FA LY Sl
   obtain⟨gv,sI⟩:=mM i t qM sH
   have sJ:k=t:=by
    have h1:¬t<k:=λh=>by have:=(hS t gv).2 h;rw[sI,tL] at this;cases this
    rcases Nat.eq_zero_or_pos t with h0|h0
    ·omega
    ·obtain⟨o',mL,Fw⟩:=(oX t gv).2.2 om
     rw[sI,ho] at mL
     cases mL
     have:=(hS (t-1) om).1 (Ah _ Fw)
     omega
   subst sJ
   have h1:=uP (jn e w G _ bY qu (uO gv).1 (Fz k e gP)) (vs:=λj=>e (ds.getD j 0)) hd
   rw[Ag qe] at h1
   rw[gd]
   refine vT h1 ?_
   rintro e' w' ⟨⟨G',wA,BP,DB,xW⟩,l8⟩
   have Fx:∀t',t'<effs.length->effs.getD t' 0=i->t'=k:=λt' h1 h2=>by
    have:=(oX t' h1).2.1
    rw[h2,sH] at this
    cases this;rfl
   have BR:vl k e'=vl k e:=Si e' l8 k gP (λt' ov h=>by have:=Fx t' om h;omega)
   have fM:vl (k+1) e'=vl k e++[e' (ds.getD i 0)]:=by
    have h2:effs[k]?=some i:=by
     rw[gG,gE gv] at sI
     rw[gE gv]
     simpa using sI
    rw[<-BR]
    show(effs.take (k+1)).map _=(effs.take k).map _++_
    rw[List.take_add_one,h2,List.map_append]
    rfl
   have Sm:∀j,j<m->(if j=i then true else S j)=true->(its.getD j fU).late=false:=λj hj l7=>by
    by_cases jt:j=i
    ·rw[jt];exact FA
    ·rw[iN jt] at l7;exact(uO gv).2 j hj l7
   refine ag ⟨G',k+1,Fu e' l8,bY.go wA,BP,om,λt' Aj=>?_,λ_=>⟨by rw[fM];exact DB,Sm⟩,λl9=>?_,λj hj l7=>?_⟩
   ·by_cases h2:effs.getD t' 0=i
    ·have:=Fx t' Aj h2
     simp only[iP h2]
     exact⟨λ_=>om,λ_=>trivial⟩
    ·simp only[iN h2]
     rw[hS t' Aj]
     have:t'≠k:=λh=>by rw[h] at h2;exact h2 sI
     omega
   ·have e1:US (λj=>if j=i then true else S j)=λ_=>false:=by
     funext j
     show((if j=i then true else S j)&&(its.getD j fU).rQ)=false
     by_cases y0:j<m
     ·cases hb:(if j=i then true else S j) with
      |false=>rfl
      |true=>
       have h3:=Sm j y0 hb
       cases e:its.getD j fU with
       |u=>rw[e] at h3;cases h3
       |_=>rfl
     ·rw[gG,List.getElem?_eq_none om]
      simp[Iu.rQ]
    rw[e1]
    exact Im _ _ _ (by rw[fM,<-l9];exact DB) (by rw[Fz _ _ om];omega)
   ·by_cases jt:j=i
    ·rw[jt];exact⟨xW,λf hf=>absurd hf (LY f)⟩
    ·simp only[iN jt] at l7
     rw[Ai e' l8 j hj jt]
     refine⟨Sf hF j (o3 j hj l7).1 wA,λf hf=>?_⟩
     have:=(uO gv).2 j hj l7
     rw[hf] at this;cases this
  cases ju:its.getD i fU with
  |v V=>unfold uc at jn;rw[ju] at jn;exact floatC jn (by rw[ju];rfl) (by rw[ju];rfl) (λf h=>by rw[ju] at h;cases h) (by rw[ju];rfl)
  |p f=>unfold uc at jn;rw[ju] at jn;exact floatC jn (by rw[ju];rfl) (by rw[ju];rfl) (λf h=>by rw[ju] at h;cases h) (by rw[ju];rfl)
  |e t=>unfold uc at jn;rw[ju] at jn;exact effC t (by rw[ju];rfl) jn (by rw[ju];rfl) (λf h=>by rw[ju] at h;cases h) (by rw[ju];rfl)
  |w t V=>unfold uc at jn;rw[ju] at jn;exact effC t (by rw[ju];rfl) jn (by rw[ju];rfl) (λf h=>by rw[ju] at h;cases h) (by rw[ju];rfl)
  |d f=>
   unfold uc at jn;rw[ju] at jn
   have l9:=Sj (by rw[ju];rfl)
   have h1:=uP (jn e w G _ _ bY qu (DC l9) (by rw[Fz k e gP];exact l9)) (vs:=λj=>e (ds.getD j 0)) hd
   rw[Ag qe] at h1
   rw[gd]
   refine vT h1 ?_
   rintro e' w' ⟨pB,Fo,l8⟩
   exact ag (main e' w' G (by rw[ju];rfl) l8 (Fr.of pB sm) (λx hx=>lL (qu x hx) pB.size) (λeU=>om) (λl9=>by rw[Sk (by rw[ju];rfl)];exact Sh _ _ _ _ _ (DC l9) pB) (by rw[ju];trivial) (λf' hf=>by rw[ju] at hf;cases hf;exact Fo.symm))
  |u=>
   unfold uc at jn;rw[ju] at jn
   have l9:=Sj (by rw[ju];rfl)
   have h1:=uP (jn e w G _ _ bY qu (DC l9) (by show(S i&&_)=false;rw[tL];rfl) (by rw[Fz k e gP];exact l9)) (vs:=λj=>e (ds.getD j 0)) hd
   rw[Ag qe] at h1
   rw[gd]
   refine vT h1 ?_
   rintro e' w' ⟨⟨G',wA,BP,DB⟩,l8⟩
   refine ag (main e' w' G' (by rw[ju];rfl) l8 wA BP (λeU=>om) (λl9=>?_) (by rw[ju];trivial) (λf' hf=>by rw[ju] at hf;cases hf))
   have e1:US (λj=>if j=i then true else S j)=λj=>if j=i then true else US S j:=by
    funext j
    show((if j=i then true else S j)&&(its.getD j fU).rQ)=if j=i then true else(S j&&(its.getD j fU).rQ)
    by_cases jt:j=i
    ·rw[iP jt,iP jt,jt,ju];rfl
    ·rw[iN jt,iN jt]
   rw[e1];exact DB
 have tail:∀(S:Nat->Bool) (e:Env) (w:World),(∀i,i<m->S i=true)->Inv S e w->OW P n l.toArray N (l.drop m) e w:=by
  rintro S e w Ak ⟨G,k,qe,bY,qu,gP,hS,uO,DC,o3⟩
  have hk:k=effs.length:=by
   rcases Nat.lt_or_ge k effs.length with h|h
   ·have:=(hS k h).1 (Ak _ (oX k h).1);omega
   ·omega
  subst hk
  have e1:US S=λi=>(its.getD i fU).rQ:=by
   funext j
   show(S j&&(its.getD j fU).rQ)=_
   by_cases y0:j<m
   ·rw[Ak j y0];rfl
   ·rw[gG,List.getElem?_eq_none om]
    simp[Iu.rQ]
  have hj:=DC rfl
  rw[e1] at hj
  have h1:=uP (ht e w G _ bY qu hj (Fz _ e (lR _))) (vs:=λj=>e (ds.getD j 0)) (λj hj=>by
   have pC:=List.mem_range.1 hj
   have h3:=o3 j pC (Ak j pC)
   exact⟨h3.1,λt het=>Ft S e _ hS gP j t pC (Ak j pC) (by rw[het];rfl),h3.2⟩)
  rw[Ag qe] at h1
  exact h1
 have jm:∀j,(Array.replicate l.length false).getD j false=false:=λj=>by
  rw[Array.getD_eq_getD_getElem?,Array.getElem?_replicate];split<;>rfl
 have LW:Inv (λj=>(Array.replicate l.length false).getD j false) e0 {w0 with drawn:=w0.drawn+1}:=by
  have EJ:=Fs hJ 0 h0 gL
  refine⟨G0,0,Ba,Fr.of gL sm,λx hx=>hL x hx,Nat.zero_le _,λt gv=>?_,λ_=>⟨EJ,λi hi tL=>?_⟩,λl9=>?_,λi hi tL=>?_⟩
  ·constructor
   ·intro h;exact absurd ((jm (effs.getD t 0)).symm.trans h) sm
   ·intro h;omega
  ·exact absurd ((jm i).symm.trans tL) sm
  ·have e1:US (λj=>(Array.replicate l.length false).getD j false)=λ_=>false:=by
    funext j
    show((Array.replicate l.length false).getD j false&&_)=false
    rw[jm];rfl
   rw[e1]
   exact Im _ _ _ (by rw[<-l9];exact EJ) (by show((effs.take 0).map _).length=_;simpa using l9)
  ·exact absurd ((jm i).symm.trans tL) sm
 have:=R5 (N:=N) (Inv:=Inv) hB step tail (lz n N R X) l.length (Array.replicate l.length false) e0 a _ ha sm
  (by
   have:((List.range l.length).filter λj=>!(Array.replicate l.length false).getD j true)=List.range l.length:=by
    rw[List.filter_eq_self]
    intro j hj
    rw[List.mem_range] at hj
    simp[Array.getD_eq_getD_getElem?,hj]
   rw[this];simp)
  (by intro j _ hj;simp[Array.getD_eq_getD_getElem?,hj])
  LW
  (by
   intro j o ho hj
   have pC:j<l.length:=(List.getElem?_eq_some_iff.1 ho).1
   simp[Array.getD_eq_getD_getElem?,pC] at hj)
 have e1:pz n N (lz n N R X)=lz n N R X:=by
  funext x a w;cases x<;>rfl
 rw[e1] at this
 simpa using this
end
section
variable {P:Program} {n:Nat} {ops:Array Oper} {e:Env} {w w':World} {G:List Nat}
theorem uv (h:v=V:=by rfl):OW P n ops (λe' w'=>ak [] w w'∧(Iu.v V).F G (e' d) w'∧gm [d] e e') [] (cO e (some d) v) w:=
 ag ⟨ak.refl _ _,by subst h;exact nH _ _ _,qL⟩
theorem up {f:List Nat->Value->World->Prop} (k:ak [] w w') (h:f G v w'):OW P n ops (λe' w'=>ak [] w w'∧(Iu.p f).F G (e' d) w'∧gm [d] e e') [] (cO e (some d) v) w':=
 ag ⟨k,by show f G (kI e d v d) w';rw[nH];exact h,qL⟩
theorem uE {aW:List Value} (G':List Nat) (k:Fr G w G' w') (hl:fu G' w') (h:J G' (aW++[v]) w'):OW P n ops (λe' w'=>(∃G',Fr G w G' w'∧fu G' w'∧J G' (aW++[e' d]) w'∧(Iu.e t).F G' (e' d) w')∧gm [d] e e') [] (cO e (some d) v) w':=
 ag ⟨⟨G',k,hl,by show J G' (aW++[kI e d v d]) w';rw[nH];exact h,trivial⟩,qL⟩
theorem uW {aW:List Value} (G':List Nat) (k:Fr G w G' w') (hl:fu G' w') (h:J G' (aW++[v]) w') (hv:v=V:=by rfl):OW P n ops (λe' w'=>(∃G',Fr G w G' w'∧fu G' w'∧J G' (aW++[e' d]) w'∧(Iu.w t V).F G' (e' d) w')∧gm [d] e e') [] (cO e (some d) v) w':=
 ag ⟨⟨G',k,hl,by show J G' (aW++[kI e d v d]) w';rw[nH];exact h,by subst hv;exact nH _ _ _⟩,qL⟩
theorem uD (k:ak [] w w') (h:v=V:=by rfl):OW P n ops (λe' w'=>ak [] w w'∧e' d=V∧gm [d] e e') [] (cO e (some d) v) w':=
 ag ⟨k,by subst h;exact nH _ _ _,qL⟩
theorem uU {Q:List Nat->World->Prop} (G':List Nat) (k:Fr G w G' w') (hl:fu G' w') (h:Q G' w'):OW P n ops (λe' w'=>(∃G',Fr G w G' w'∧fu G' w'∧Q G' w')∧gm [d] e e') [] e w':=
 ag ⟨⟨G',k,hl,h⟩,Ba⟩
end
structure fg (L:List Nat) (w:World) (b:Nat) (vs:Array Value) (T:TypeId):Prop where
 jv:aY w b vs T
 out:b∉L
theorem fg.lt {T:TypeId} (h:fg L w b vs T):b<w.heap.size:=h.jv.lt
theorem fg.at {vs:List Value} {T:TypeId} (h:fg L w b vs.toArray T) (hv:vs[i]?=some v):w.cell? ⟨b,i,none⟩=some v:=h.jv.at hv
theorem fg.all {vs:List Value} {T:TypeId} (h:fg L w b vs.toArray T):iQ w b 0 vs:=h.jv.all
theorem fg.go {L':List Nat} {T:TypeId} (h:fg L w b vs T) (k:Fr L w L' w'):fg L' w' b vs T:=
 ⟨h.jv.aO k.aO h.out,λhx=>by
  rcases k.mem b hx with h1|h1
  ·exact h.out h1
  ·have:=h.jv.lt;omega⟩
theorem fg.ext {T:TypeId} (h:fg L w b vs T) (k:ak [] w w'):fg L w' b vs T:=⟨h.jv.ext k,h.out⟩
theorem fg.aL {T:TypeId} (h:fg L w b vs T) (k:ak G w w') (hG:∀x,x∈G->x∈L):fg L w' b vs T:=h.go (Fr.of k hG)
theorem aY.o {T:TypeId} (h:aY w b vs T) (hL:∀x,x∈L->x<b):fg L w b vs T:=⟨h,λhx=>by have:=hL b hx;omega⟩
theorem dh.rs {T:TypeId} (h:dh w T v g xs):bI [] w v xs:=h.rep sm
theorem kt {T:TypeId} (h:dh w T v g xs):∃a c,v= .slice a xs.length c:=jX.len h
section
variable {P:Program} {n:Nat} {ops:Array Oper} {K:Env->World->Prop} {rest:List Oper} {e:Env} {w:World} {dst:Option Nat} {ty:TypeId} {pos:String} {after:Array Edge} {g:Option (Nat×Bool)} {x y:Operand}
theorem Sn {v:Value} {gb:Option Nat} {xs:List aj} {s:aj} {b U:Nat} (hT:P.underlying t=some (.slice E)) (hE:TI P E 1 bytes z) (hg:gate ops e g=true) (hd:dw n dst=true) (hz:Nat.beq z.cells.size 1=true) (ie:Nat.ble bytes 1000=true) 
  (hx:ev e x=v) (hy:ev e y= .slice (some ⟨b,0,none⟩) 1 1) (hO:dh w E v gb xs) (hb:aY w b [str s].toArray U) (hn:xs.length<100000000)
  (k:∀v' g' w',dh w' E v' g' (xs++[s])->ak gb.toList w w'->Fr gb.toList w g'.toList w'->OW P n ops K rest (cO e dst v') w'):
  OW P n ops K (⟨dst,.call {callee:=.builtin .append,args:=#[x,y],argTypes:=#[t,t]},ty,pos,after,g⟩::rest) e w:=by
 refine BM (L:=[]) (row:=[.val (str s)]) hT hE hg hd hz ie hx hy (hO.RW _) rfl hb.all (by simp[Value.oneCell']) ⟨.val _,trivial⟩ (by rw[rM];exact hn) ?_
 intro v' g' w' ko hk kZ
 rw[RX] at ko
 refine k v' g' w' ko.vY hk.aO ⟨hk.aO,λq hq=>?_⟩
 rcases kZ with h|h
 ·rw[h] at hq;exact .inl hq
 ·rw[h] at hq;simp at hq;right;omega
theorem ln {T:Nat} (hT:P.underlying T=some (.slice E)) (hE:TI P E 1 bytes z) (hg:gate ops e g=true) (hd:dw n dst=true) (h1:ev e q1=str a1) (h2:ev e q2=str a2) 
  (k:∀w',ak [] w w'->aY w' w.heap.size [str a1,str a2].toArray E->w'.heap.size=w.heap.size+1->OW P n ops K rest (cO e dst (.slice (some ⟨w.heap.size,0,none⟩) 2 2)) w'):
  OW P n ops K (⟨dst,.buildSlice T 2 #[(0,q1),(1,q2)],ty,pos,after,g⟩::rest) e w:=
 sA [q1,q2] [[str a1],[str a2]] hT hE hg hd rfl rfl rfl rfl rfl (by simp[h1,h2,Value.cells]) rfl k
theorem pO {T:Nat} (hT:P.underlying T=some (.slice E)) (hE:TI P E 1 bytes z) (hg:gate ops e g=true) (hd:dw n dst=true) (h1:ev e q1=str a1) (h2:ev e q2=str a2) (h3:ev e q3=str a3) 
  (k:∀w',ak [] w w'->aY w' w.heap.size [str a1,str a2,str a3].toArray E->w'.heap.size=w.heap.size+1->OW P n ops K rest (cO e dst (.slice (some ⟨w.heap.size,0,none⟩) 3 3)) w'):
  OW P n ops K (⟨dst,.buildSlice T 3 #[(0,q1),(1,q2),(2,q3)],ty,pos,after,g⟩::rest) e w:=
 sA [q1,q2,q3] [[str a1],[str a2],[str a3]] hT hE hg hd rfl rfl rfl rfl rfl (by simp[h1,h2,h3,Value.cells]) rfl k
theorem xX {T:Nat} (hT:P.underlying T=some (.slice E)) (hE:TI P E 1 bytes z) (hg:gate ops e g=true) (hd:dw n dst=true) (h1:ev e q1=str a1) (h2:ev e q2=str a2) (h3:ev e q3=str a3) (h4:ev e q4=str a4) 
  (k:∀w',ak [] w w'->aY w' w.heap.size [str a1,str a2,str a3,str a4].toArray E->w'.heap.size=w.heap.size+1->OW P n ops K rest (cO e dst (.slice (some ⟨w.heap.size,0,none⟩) 4 4)) w'):
  OW P n ops K (⟨dst,.buildSlice T 4 #[(0,q1),(1,q2),(2,q3),(3,q4)],ty,pos,after,g⟩::rest) e w:=
 sA [q1,q2,q3,q4] [[str a1],[str a2],[str a3],[str a4]] hT hE hg hd rfl rfl rfl rfl rfl (by simp[h1,h2,h3,h4,Value.cells]) rfl k
theorem LZ {T:Nat} (hT:P.underlying T=some (.slice E)) (hE:TI P E 1 bytes z) (hg:gate ops e g=true) (hd:dw n dst=true) (h1:ev e q1=str a1) (h2:ev e q2=str a2) (h3:ev e q3=str a3) (h4:ev e q4=str a4) (h5:ev e q5=str a5) 
  (k:∀w',ak [] w w'->aY w' w.heap.size [str a1,str a2,str a3,str a4,str a5].toArray E->w'.heap.size=w.heap.size+1->OW P n ops K rest (cO e dst (.slice (some ⟨w.heap.size,0,none⟩) 5 5)) w'):
  OW P n ops K (⟨dst,.buildSlice T 5 #[(0,q1),(1,q2),(2,q3),(3,q4),(4,q5)],ty,pos,after,g⟩::rest) e w:=
 sA [q1,q2,q3,q4,q5] [[str a1],[str a2],[str a3],[str a4],[str a5]] hT hE hg hd rfl rfl rfl rfl rfl (by simp[h1,h2,h3,h4,h5,Value.cells]) rfl k
theorem acD {T:Nat} (hT:P.underlying T=some (.slice E)) (hE:TI P E 1 bytes z) (hg:gate ops e g=true) (hd:dw n dst=true) (h1:ev e q1=str a1) (h2:ev e q2=str a2) (h3:ev e q3=str a3) (h4:ev e q4=str a4) (h5:ev e q5=str a5) (h6:ev e q6=str a6) 
  (k:∀w',ak [] w w'->aY w' w.heap.size [str a1,str a2,str a3,str a4,str a5,str a6].toArray E->w'.heap.size=w.heap.size+1->OW P n ops K rest (cO e dst (.slice (some ⟨w.heap.size,0,none⟩) 6 6)) w'):
  OW P n ops K (⟨dst,.buildSlice T 6 #[(0,q1),(1,q2),(2,q3),(3,q4),(4,q5),(5,q6)],ty,pos,after,g⟩::rest) e w:=
 sA [q1,q2,q3,q4,q5,q6] [[str a1],[str a2],[str a3],[str a4],[str a5],[str a6]] hT hE hg hd rfl rfl rfl rfl rfl (by simp[h1,h2,h3,h4,h5,h6,Value.cells]) rfl k
theorem So {T:Nat} {q7 q8:Operand} {a7 a8:aj} (hT:P.underlying T=some (.slice E)) (hE:TI P E 1 bytes z) (hg:gate ops e g=true) (hd:dw n dst=true) (h1:ev e q1=str a1) (h2:ev e q2=str a2) (h3:ev e q3=str a3) (h4:ev e q4=str a4) (h5:ev e q5=str a5) (h6:ev e q6=str a6) (h7:ev e q7=str a7) (h8:ev e q8=str a8) 
  (k:∀w',ak [] w w'->aY w' w.heap.size [str a1,str a2,str a3,str a4,str a5,str a6,str a7,str a8].toArray E->w'.heap.size=w.heap.size+1->OW P n ops K rest (cO e dst (.slice (some ⟨w.heap.size,0,none⟩) 8 8)) w'):
  OW P n ops K (⟨dst,.buildSlice T 8 #[(0,q1),(1,q2),(2,q3),(3,q4),(4,q5),(5,q6),(6,q7),(7,q8)],ty,pos,after,g⟩::rest) e w:=
 sA [q1,q2,q3,q4,q5,q6,q7,q8] [[str a1],[str a2],[str a3],[str a4],[str a5],[str a6],[str a7],[str a8]] hT hE hg hd rfl rfl rfl rfl rfl (by simp[h1,h2,h3,h4,h5,h6,h7,h8,Value.cells]) rfl k
theorem acE {T:Nat} {q7 q8 q9 Ma:Operand} {a7 a8 a9 Io:aj} (hT:P.underlying T=some (.slice E)) (hE:TI P E 1 bytes z) (hg:gate ops e g=true) (hd:dw n dst=true) (h1:ev e q1=str a1) (h2:ev e q2=str a2) (h3:ev e q3=str a3) (h4:ev e q4=str a4) (h5:ev e q5=str a5) (h6:ev e q6=str a6) (h7:ev e q7=str a7) (h8:ev e q8=str a8) (h9:ev e q9=str a9) (gF:ev e Ma=str Io) 
  (k:∀w',ak [] w w'->aY w' w.heap.size [str a1,str a2,str a3,str a4,str a5,str a6,str a7,str a8,str a9,str Io].toArray E->w'.heap.size=w.heap.size+1->OW P n ops K rest (cO e dst (.slice (some ⟨w.heap.size,0,none⟩) 10 10)) w'):
  OW P n ops K (⟨dst,.buildSlice T 10 #[(0,q1),(1,q2),(2,q3),(3,q4),(4,q5),(5,q6),(6,q7),(7,q8),(8,q9),(9,Ma)],ty,pos,after,g⟩::rest) e w:=
 sA [q1,q2,q3,q4,q5,q6,q7,q8,q9,Ma] [[str a1],[str a2],[str a3],[str a4],[str a5],[str a6],[str a7],[str a8],[str a9],[str Io]] hT hE hg hd rfl rfl rfl rfl rfl (by simp[h1,h2,h3,h4,h5,h6,h7,h8,h9,gF,Value.cells]) rfl k
end
theorem bS.eq {t u:aA} (h:bS L w v t) (e:t=u):bS L w v u:=e▸h
theorem fI {a:Option Addr} {c:Nat} (h:fG L w (.slice a n c) ts) (hi:i<ts.length):
  ∃b off pa pc,a=some ⟨b,off,none⟩∧iZ L w b (off+i*2) [str (nth ts i).az,.slice pa (nth ts i).au.length pc]∧bS L w (.agg #[str (nth ts i).az,.slice pa (nth ts i).au.length pc]) (nth ts i):=by
 obtain⟨b,off,vs,ha,hb,hL,hl,hc,hr⟩:=yR h (Kp (iI hi))
 obtain⟨pa,pn,pc,he,hn,hp⟩:=dM (t:=nth ts i) ⟨vs,rfl,hr⟩
 have hv:vs=[str (nth ts i).az,.slice pa pn pc]:=by
  have:=congrArg (λv=>match v with|Value.agg x=>x.toList|_=>[]) he
  simpa using this
 subst hv hn
 exact⟨b,off,pa,pc,ha,⟨hc,hb,hL⟩,mO hp⟩
theorem aY.vY {T:Nat} (xs:List aj) (h:aY w b (xs.map λx=>str x).toArray T) (hl:xs.length<=100000:=by simp):dh w T (.slice (some ⟨b,0,none⟩) xs.length xs.length) (some b) xs:=
 ⟨by simp,.inr ⟨b,xs.length,_,rfl,rfl,h,lR _,Nat.le_trans hl de,sm,by rw[Nat.mul_one,List.take_of_length_le sm]⟩⟩
theorem aY.eD {T:Nat} (xs:List aj) (h:aY w b (xs.map λx=>str x).toArray T) (hL:b∉L) (hl:xs.length<=100000:=by simp):bI L w (.slice (some ⟨b,0,none⟩) xs.length xs.length) xs:=
 (h.vY xs hl).rep λq hq=>by cases hq;exact hL
theorem aY.lp {T:Nat} (h:aY w b #[] T):dh w T (.slice (some ⟨b,0,none⟩) 0 0) (some b) []:=R1 h
theorem sL (h:n<1000):(bf n).length<=3:=by
 have h1:∀k,k<10->(bf k).length=1:=λk hk=>by unfold bf;rw[iP hk];rfl
 have h2:∀k,k<100->(bf k).length<=2:=λk hk=>by
  unfold bf
  split
  ·simp
  ·have:=h1 (k/10) om
   simp;omega
 unfold bf
 split
 ·simp
 ·have:=h2 (n/10) om
  simp;omega
theorem lN (h:aj) (ps:List aj):(bO h ps).length=h.length+2+jZ ps:=by
 simp only[bO,lC,lA,List.length_nil,Q8]
 unfold jZ;omega
theorem Sp {m:Nat}:∀xs:List aj,(∀s,s∈xs->s.length<=m)->(xs.map List.length).sum<=xs.length*m
 |[],_=>by simp
 |x::xs,h=>by
  have h1:=h x sm
  have h2:=Sp xs (λs hs=>h s (by simp[hs]))
  simp only[List.map_cons,List.sum_cons,lC,Nat.add_mul];omega
theorem Al {m:Nat} (xs:List aj) (h:∀s,s∈xs->s.length<=m):jZ xs<=xs.length*(m+1):=by
 have:=Sp xs h
 unfold jZ;rw[Nat.mul_add];omega
structure ku (s:da):Prop where
 types:zV (fi s)
 regs:∀p,p∈s->p.2.1<1000
theorem FB (h:ku s) (x:aj):kS s x<1000:=by
 unfold kS
 cases hf:s.reverse.find? λp=>decide (p.1=x) with
 |none=>simp
 |some p=>exact h.regs p (List.mem_reverse.1 (List.mem_of_find?_eq_some hf))
theorem Ip (h:ku s) (x:aj):(kE s x).n<=16:=by
 unfold kE
 cases hl:look (fi s) x with
 |none=>decide
 |some T=>exact h.types x T hl
theorem pP (h:T.n<=16):(bL T).length<=256:=by have:=BJ T;omega
theorem tM (h:T.n<=16):(dV (bL T)).length<=272:=by have:=pP h;rw[LI];omega
theorem ku.snoc (h:ku s) {r:Nat} (hr:r<1000) (hT:T.n<=16):ku (s++[(x,r,T)]):=by
 refine⟨by rw[Dv];exact Fh h.types hT,λp hp=>?_⟩
 rcases mA.1 hp with hp|hp
 ·exact h.regs p hp
 ·simp only[List.mem_singleton] at hp;rw[hp];exact hr
def Am (s:aj):Prop:=∃T:Ty,T.n<=16∧s=dV (bL T)
/-! ### The type of a package's tuple -/
def ma (s:da) (aX:List aj) (on:aj):List aj:=aX.map (λx=>bL (kE s x))++(if on≠[] then[on] else[])
def DE:Option Ty->aj
 |some T=>dV (bL T)
 |none=>[]
def tN (s:da) (aX:List aj) (on:Option Ty):List aA:=aX.map (λx=>pL (kE s x))++(match on with|some T=>[zX (pL T)]|none=>[])
theorem DF (s:da) (aX:List aj) (on:Option Ty):ma s aX (DE on)=(tN s aX on).map aA.text:=by
 unfold ma tN
 rw[List.map_append,List.map_map]
 congr 1
 cases on with
 |none=>rfl
 |some T=>
  have eK:dV (bL T)≠[]:=by simp[dV]
  refine(iP (show DE (some T)≠[] from eK)).trans ?_
  simp[DE,RM,bL]
theorem Sq (s:da) (aX:List aj) (on:aj):(ma s aX on).length<=aX.length+1:=by
 unfold ma
 rw[lA,List.length_map]
 split<;>simp
theorem Sr (h:ku s) {aX:List aj} {on:aj} (kM:on.length<=272):∀t,t∈ma s aX on->t.length<=272:=λt ht=>by
 unfold ma at ht
 rcases mA.1 ht with ht|ht
 ·obtain⟨x,_,rfl⟩:=List.mem_map.1 ht
  have:=pP (Ip h x);omega
 ·split at ht
  ·simp only[List.mem_singleton] at ht;rw[ht];exact kM
  ·simp at ht
theorem FC (h:ku s) {aX:List aj} {on:aj} (hn:aX.length<=40) (kM:on.length<=272):(bO [116] (ma s aX on)).length<=11200:=by
 have h1:=Al _ (Sr h (aX:=aX) kM)
 have h2:=Sq s aX on
 have h3:(ma s aX on).length*(272+1)<=41*(272+1):=Nat.mul_le_mul om (lR _)
 rw[lN];simp only[lC,List.length_nil];omega
theorem acF (s:da) (aX:List aj) (on:Option Ty):aX.length<=(tN s aX on).length:=by
 unfold tN;rw[lA,List.length_map];omega
theorem acG (s:da) (aX:List aj) (on:Option Ty):∀t,t∈tN s aX on->Good t:=λt ht=>by
 unfold tN at ht
 rcases mA.1 ht with ht|ht
 ·obtain⟨x,_,rfl⟩:=List.mem_map.1 ht
  exact Dt _
 ·cases on with
  |none=>simp at ht
  |some T=>simp only[List.mem_singleton] at ht;rw[ht];exact RL (Dt T)
theorem Ss (h:ku s) {aX:List aj} {on:Option Ty} (hn:aX.length<=40) (kM:∀T,on=some T->T.n<=16):
  ba (bO [116] (ma s aX (DE on)))=some (vZ [116] (tN s aX on)):=by
 have hg:=abd (h:=[116]) de de (acG s aX on)
 rw[DF,<-QV de]
 refine K6 hg ?_ ?_
 ·show aA.depth.deeps (bZ [116]::tN s aX on)<=60
  refine K2 λp hp=>?_
  rcases mC.1 hp with rfl|hp
  ·have:(bZ [116]).depth=0:=rfl
   omega
  ·unfold tN at hp
   rcases mA.1 hp with hp|hp
   ·obtain⟨x,_,rfl⟩:=List.mem_map.1 hp
    have:=Du (kE s x)
    have:=Ip h x
    omega
   ·cases on with
    |none=>simp at hp
    |some T=>
     simp only[List.mem_singleton] at hp
     have:=Du T
     have:=kM T rfl
     rw[hp,RO];omega
 ·rw[QV de,<-DF]
  have:=FC h (aX:=aX) (on:=DE on) hn (by
   cases on with
   |none=>simp[DE]
   |some T=>exact tM (kM T rfl))
  omega
/-! ### The state stays small -/
structure fD (m:Mk):Prop where
 types:∀s,s∈m.types->s.length<=100000
 code:∀s,s∈m.code->s.length<=100000
theorem fD.dG (h:fD m) {k:aj} (hk:k.length<=100000):fD (m.dG k):=⟨λs hs=>by
 rcases mA.1 hs with hs|hs
 ·exact h.types s hs
 ·simp only[List.mem_singleton] at hs;rw[hs];exact hk,h.code⟩
theorem fD.cY (h:fD m) {hd:aj} (hk:(bO hd ps).length<=100000):fD (m.cY hd ps):=⟨h.types,λs hs=>by
 rcases mA.1 hs with hs|hs
 ·exact h.code s hs
 ·simp only[List.mem_singleton] at hs;rw[hs];exact hk⟩
structure acH (m m':Mk) (dt dc:Nat):Prop where
 blocks:m'.blocks=m.blocks
 bW:m'.bW=m.bW
 types:m'.types.length=m.types.length+dt
 code:m'.code.length=m.code.length+dc
theorem St (m:Mk) (s:da) (ton:Nat) (aX:List aj) (on aP kind:aj) (cN:List aj):acH m (o5 m s ton aX on aP kind cN).m 4 4:=by
 refine⟨rfl,rfl,?_,?_⟩<;>simp[o5,Mk.dG,Mk.cY]
theorem Su (m:Mk) (s:da) (ton:Nat) (aX:List aj) (on aP kind:aj) (cN:List aj):(o5 m s ton aX on aP kind cN).w=bO [116] (ma s aX on):=rfl
theorem Sv (hm:fD m) (hs:ku s) {ton:Nat} (ht:ton<1000) {aX:List aj} (hn:aX.length<=40) {on aP kind:aj} (kM:on.length<=272) (hl:aP.length<=10) (hk:kind.length<=272) {cN:List aj} (eK:cN.length<=2) (Mb:∀x,x∈cN->x.length<=272) (fC:m.types.length+4<1000):fD (o5 m s ton aX on aP kind cN).m:=by
 have hw:=FC hs hn kM
 have dec:∀k,k<1000->(bf k).length<=3:=λk hk=>sL hk
 have als:=Al cN Mb
 have Sw:(bO [99] (bO [116] (ma s aX on)::cN)).length<=12000:=by
  rw[lN]
  have:jZ (bO [116] (ma s aX on)::cN)=1+(bO [116] (ma s aX on)).length+jZ cN:=by unfold jZ;simp;omega
  have h3:cN.length*(272+1)<=2*(272+1):=Nat.mul_le_mul eK (lR _)
  simp only[lC,List.length_nil];omega
 have regs:∀x,x∈aX.map (λx=>bf (kS s x))++(if on≠[] then[bf ton] else[])->x.length<=3:=λx hx=>by
  rcases mA.1 hx with hx|hx
  ·obtain⟨y,_,rfl⟩:=List.mem_map.1 hx
   exact dec _ (FB hs y)
  ·split at hx
   ·simp only[List.mem_singleton] at hx;rw[hx];exact dec _ ht
   ·simp at hx
 have oA:(aX.map (λx=>bf (kS s x))++(if on≠[] then[bf ton] else[])).length<=41:=by
  rw[lA,List.length_map]
  split<;>simp<;>omega
 unfold o5
 have s2:∀a b:aj,jZ [a,b]=2+a.length+b.length:=λa b=>by simp[jZ];omega
 have s3:∀a b c:aj,jZ [a,b,c]=3+a.length+b.length+c.length:=λa b c=>by simp[jZ];omega
 have s4:∀a b c d:aj,jZ [a,b,c,d]=4+a.length+b.length+c.length+d.length:=λa b c d=>by simp[jZ];omega
 have oS:=dec m.types.length om
 have cU:=dec (m.types.length+1) om
 have cS:=dec (m.types.length+2) om
 have Iq:=dec (m.types.length+3) om
 refine fD.cY (fD.dG (fD.cY (fD.dG (fD.cY (fD.dG (fD.cY (fD.dG hm ?_) ?_) ?_) ?_) ?_) ?_) ?_) ?_
 ·exact Nat.le_trans hw om
 ·have h1:=Al _ regs
  have h2:(aX.map (λx=>bf (kS s x))++(if on≠[] then[bf ton] else[])).length*(3+1)<=41*(3+1):=Nat.mul_le_mul oA (lR _)
  rw[lN]
  have:jZ (bf m.types.length::(aX.map (λx=>bf (kS s x))++(if on≠[] then[bf ton] else[])))=1+(bf m.types.length).length+jZ (aX.map (λx=>bf (kS s x))++(if on≠[] then[bf ton] else[])):=by unfold jZ;simp;omega
  rw[this]
  simp only[lC,List.length_nil];omega
 ·exact Nat.le_trans Sw om
 ·rw[lN,s2];simp only[lC,List.length_nil];omega
 ·rw[lN,s2];have:=hw;unfold ma at this Sw;simp only[lC,List.length_nil];unfold ma at hw;omega
 ·rw[lN,s3];simp only[lC,List.length_nil];omega
 ·omega
 ·rw[lN,s4];have:=hw;unfold ma at this;simp only[lC,List.length_nil];omega
structure Ext (m m':Mk) (k:Nat) (new:List Tk):Prop where
 blocks:m'.blocks=m.blocks
 bW:m'.bW=m.bW++new
 count:m'.count=m.count+new.length
 types:m.types.length<=m'.types.length∧m'.types.length<=m.types.length+k
 code:m'.code.length<=m.code.length+2*k
theorem Ext.refl (m:Mk):Ext m m 0 []:=⟨rfl,sm,rfl,om,om⟩
theorem Ext.trans {p q:List Tk} (h:Ext m m1 j p) (h2:Ext m1 m2 k q):Ext m m2 (j+k) (p++q):=
 ⟨h2.blocks.trans h.blocks,by rw[h2.bW,h.bW,List.append_assoc],by rw[h2.count,h.count,lA];omega,by have:=h.types;have:=h2.types;omega,by have:=h.code;have:=h2.code;omega⟩
theorem Ext.more {m':Mk} {p:List Tk} (h:Ext m m' j p) (hk:j<=k):Ext m m' k p:=⟨h.blocks,h.bW,h.count,by have:=h.types;omega,by have:=h.code;omega⟩
theorem Mc {s:aj} (h:ql s=true):s.length<=4:=by
 unfold ql at h
 rw[oE] at h
 rcases h with h|h
 ·cases hn:numeral s with
  |none=>rw[hn] at h;cases h
  |some z=>exact QG hn
 ·unfold eO at h
  simp only[aE,dE] at h;omega
theorem oJ (h:e.ok):e.az.length<=4:=by
 cases e with
 |«at» s=>exact Mc h
 |_=>simp[Ex.az]
theorem An (a b:aj):jZ [a,b]=2+a.length+b.length:=by simp[jZ];omega
theorem FD {m:Mk} (hm:fD m) (hs:ku s) (ha:a.length<=4) (ht:m.types.length<1000):Ext m (cF m s a).1 1 []∧fD (cF m s a).1∧(cF m s a).2<1000:=by
 unfold cF
 split
 ·exact⟨(Ext.refl m).more om,hm,FB hs a⟩
 ·refine⟨⟨rfl,by simp[Mk.dG,Mk.cY],rfl,by simp[Mk.dG,Mk.cY],by simp[Mk.dG,Mk.cY]⟩,fD.cY (fD.dG hm sm) ?_,ht⟩
  have:=sL ht
  rw[lN,An];simp only[lC,List.length_nil];omega
/-! ### Tasks -/
structure oK (t:Tk):Prop where
 ok:t.expr.ok
 type:∃T,bM t.expr (fi t.sc)=some T
 sc:ku t.sc
 bud:5*t.sc.length+2*t.expr.n<=240
 room:t.regs.length+t.loads+8*t.expr.n<=990
 regs:∀r,r∈t.regs->r.length<=100000
 loads:t.loads=0∨∃ts:List aA,t.regs.head?=some (bO [116] (ts.map aA.text))∧t.loads<=ts.length∧ba (bO [116] (ts.map aA.text))=some (vZ [116] ts)
 self:t.self=[]∨∃a b,t.self=[a,b]∧a.length<=272∧b.length<=11200∧t.regs.length=3∧∀r,r∈t.regs->r.length<=11200
 bm:Am t.bm
 on:t.on<1000
 aP:t.aP.length<=4
theorem Md (s:da) (k:Nat) (aX:List aj):fi (iO s k aX [])=aX.map λx=>(x,kE s x):=by
 unfold iO fi
 rw[List.nil_append,List.map_map]
 have:∀(l:List aj) (j:Nat),(l.zipIdx j).map ((λp:aj×Nat×Ty=>(p.1,p.2.2))∘λp=>(p.1,k+p.2,kE s p.1))=l.map λx=>(x,kE s x):=by
  intro l
  induction l with
  |nil=>intro j;rfl
  |cons x l ih=>intro j;simp only[List.zipIdx_cons,List.map_cons,Function.comp,ih]
 exact this aX 0
theorem Me:∀{aX:List aj} {x:aj},x∈aX->look (aX.map λx=>(x,kE s x)) x=some (kE s x):=by
 intro aX x h
 have key:∀(l:List aj),(∃y,y∈l∧y=x)->(l.map λx=>(x,kE s x)).find? (λp=>decide (p.1=x))=some (x,kE s x):=by
  intro l
  induction l with
  |nil=>rintro⟨_,hy,_⟩;simp at hy
  |cons y l ih=>
   intro hh
   rw[List.map_cons,List.find?_cons]
   by_cases e:y=x
   ·rw[dT e,e]
   ·rw[dF e]
    obtain⟨z,hz,Sx⟩:=hh
    rcases mC.1 hz with hz|hz
    ·exact absurd (hz▸Sx) e
    ·exact ih ⟨z,hz,Sx⟩
 unfold look
 rw[<-List.map_reverse,key aX.reverse ⟨x,List.mem_reverse.2 h,rfl⟩];rfl
theorem Sy (h:ku s) (k:Nat) (aX:List aj) (hn:k+aX.length<1000):ku (iO s k aX []):=by
 refine⟨λx T hT=>?_,λp hp=>?_⟩
 ·rw[Md] at hT
  have hx:x∈aX:=by
   unfold look at hT
   cases hf:(aX.map λx=>(x,kE s x)).reverse.find? (λp=>decide (p.1=x)) with
   |none=>rw[hf] at hT;cases hT
   |some q=>
    have h1:=List.find?_some hf
    have h2:=List.mem_reverse.1 (List.mem_of_find?_eq_some hf)
    obtain⟨y,hy,rfl⟩:=List.mem_map.1 h2
    rw[<-of_decide_eq_true h1];exact hy
  rw[Me hx] at hT
  cases hT;exact Ip h x
 ·unfold iO at hp
  rw[List.nil_append] at hp
  obtain⟨q,hq,rfl⟩:=List.mem_map.1 hp
  have:=List.snd_lt_of_mem_zipIdx hq
  show k+q.2<1000;omega
theorem xY (s:da) (k:Nat) (aX:List aj):(iO s k aX []).length=aX.length:=by simp[iO]
theorem Mf (h:(look (fi s) x).isSome=true):look (fi s) x=some (kE s x):=by
 unfold kE
 cases hl:look (fi s) x with
 |none=>rw[hl] at h;cases h
 |some T=>rfl
theorem Mg {bd:List aj} (hb:5*s.length+2*e.n<=240) (hf:∀x,Fv x e->x∉bd->(look (fi s) x).isSome=true):(cE e bd []).length<=34∧(cE e bd []).length<=s.length:=by
 have h1:=tC e bd []
 have h2:(cE e bd []).length<=(s.map Prod.fst).length:=Lw (we e bd [] List.nodup_nil) λx hx=>by
  rcases(qm x e bd []).1 hx with h|⟨hx,hb⟩
  ·simp at h
  ·have:=hf x hx hb
   unfold look at this
   cases hq:(fi s).reverse.find? λp=>decide (p.1=x) with
   |none=>rw[hq] at this;cases this
   |some q=>
    have h3:=List.find?_some hq
    have h4:=List.mem_reverse.1 (List.mem_of_find?_eq_some hq)
    unfold fi at h4
    obtain⟨p,hp,rfl⟩:=List.mem_map.1 h4
    rw[<-of_decide_eq_true h3]
    exact List.mem_map.2 ⟨p,hp,rfl⟩
 simp only[List.length_nil,Nat.zero_add,List.length_map] at h1 h2
 omega
theorem Sz {ton:Nat} {aX:List aj} {on aP kind:aj} {cN:List aj}:Ext m (o5 m s ton aX on aP kind cN).m 4 []:=by
 have h:=St m s ton aX on aP kind cN
 exact⟨h.blocks,by rw[h.bW];simp,rfl,by rw[h.types];omega,by rw[h.code];omega⟩
theorem Ao {m:Mk} (h:m.count<1000):m.aP.length<=4:=by
 unfold Mk.aP
 have:=sL h
 simp only[lC];omega
theorem SA {m:Mk} {f:aj} {A B:Ty} (hs:ku s) (bD:(Ex.fn f x A B e).ok) (ht:bM (.fn f x A B e) (fi s)=some T) (hb:5*s.length+2*(Ex.fn f x A B e).n<=240) (hc:m.count<1000):oK (z8 m s f x A B e)∧(cE (.fn f x A B e) [] []).length<=34∧1+A.n+B.n<=16:=by
 obtain⟨hf,hx,eK,hA,hB,he⟩:=bD
 have sM:∀y,Fv y (.fn f x A B e)->y∉([]:List aj)->(look (fi s) y).isSome=true:=λy hy _=>pJ ht hy
 obtain⟨gd,iY⟩:=Mg hb sM
 have xD:1+A.n+B.n<=16∧bM e (fi s++[(f,.op true A B),(x,A)])=some B:=by
  unfold bM at ht
  split at ht
  ·rename_i kR
   cases DG:bM e (fi s++[(f,.op true A B),(x,A)]) with
   |none=>rw[DG] at ht;cases ht
   |some C=>
    rw[DG,Option.bind_some] at ht
    split at ht
    ·rename_i hq;rw[ab3.1 hq];exact⟨kR,rfl⟩
    ·cases ht
  ·cases ht
 have Ap:(Ty.op true A B).n<=16:=xD.1
 have wB:(bL (.op true A B)).length<=256:=pP Ap
 have hn:(Ex.fn f x A B e).n=3+A.n+B.n+e.n:=rfl
 rw[hn] at hb
 have hA1:=A.pos
 have Ir:=B.pos
 have Is:=Sy hs 3 (cE (.fn f x A B e) [] []) om
 have FE:(oF m s f x A B e).w=bO [116] (ma s (cE (.fn f x A B e) [] []) []):=Su ..
 have Iv:(oF m s f x A B e).w.length<=11200:=by rw[FE];exact FC hs om sm
 have fC:bM e (fi (z7 s f x A B e))=some B:=by
  rw[<-xD.2]
  unfold z7
  rw[Dv]
  refine qo e _ _ λy Iw hy=>?_
  rw[mV,zU]
  by_cases e1:x=y
  ·rw[iP e1,iP e1]
  ·rw[iN e1,iN e1]
   by_cases e2:f=y
   ·have h0:0<im f e:=(wg hf e).2 (e2▸hy)
    rw[iP e2,iP h0,Dv,mV,iP e2]
   ·rw[iN e2]
    have SB:Fv y (.fn f x A B e):=⟨λe'=>e2 e'.symm,λe'=>e1 e'.symm,hy⟩
    have rS:y∈cE (.fn f x A B e) [] []:=(qm y _ [] []).2 (.inr ⟨SB,sm⟩)
    have hl:look (fi (iO s 3 (cE (.fn f x A B e) [] []) [])) y=look (fi s) y:=by
     rw[Md,Me rS,Mf (pJ ht SB)]
    split
    ·rw[Dv,mV,iN e2,hl]
    ·exact hl
 have SC:ku (z7 s f x A B e):=by
  unfold z7
  split
  ·exact(Is.snoc om Ap).snoc om hA
  ·exact Is.snoc om hA
 have oW:5*(z7 s f x A B e).length+2*e.n<=240:=by
  unfold z7
  rw[lA]
  split
  ·rw[lA,xY];simp only[lC,List.length_nil];omega
  ·rw[xY];simp only[lC,List.length_nil];omega
 refine⟨{ok:=he,type:=⟨B,fC⟩,sc:=SC,bud:=oW,room:=?_,regs:=?_,loads:=?_,self:=?_,bm:=⟨B,hB,rfl⟩,on:=?_,aP:=Ao hc},gd,xD.1⟩
 ·show 3+(cE (.fn f x A B e) [] []).length+8*e.n<=990
  omega
 ·intro r hr
  have rJ:r∈[(oF m s f x A B e).w,bL A,dV (bL B)]:=hr
  simp only[mC,List.not_mem_nil,or_false] at rJ
  rcases rJ with rfl|rfl|rfl
  ·omega
  ·have:=pP hA;omega
  ·have:=tM hB;omega
 ·refine .inr ⟨tN s (cE (.fn f x A B e) [] []) none,?_,acF _ _ _,?_⟩
  ·show some (oF m s f x A B e).w=_
   rw[FE,<-DF];rfl
  ·rw[<-DF];exact Ss hs om sm
 ·show(if 0<im f e then[bL (.op true A B),(oF m s f x A B e).w] else[])=[]∨_
  by_cases h0:0<im f e
  ·refine .inr ⟨bL (.op true A B),(oF m s f x A B e).w,iP h0,om,Iv,rfl,λr hr=>?_⟩
   have rJ:r∈[(oF m s f x A B e).w,bL A,dV (bL B)]:=hr
   simp only[mC,List.not_mem_nil,or_false] at rJ
   rcases rJ with rfl|rfl|rfl
   ·exact Iv
   ·have:=pP hA;omega
   ·have:=tM hB;omega
  ·exact .inl (iN h0)
 ·show(2:Nat)<1000;omega
theorem acI {f:aj} {A B:Ty} (hm:fD m) (hs:ku s) (bD:(Ex.fn f x A B e).ok) (ht:bM (.fn f x A B e) (fi s)=some T) (hb:5*s.length+2*(Ex.fn f x A B e).n<=240) (fC:m.types.length+4<1000) (hc:m.count<1000):
  Ext m (Aa m s f x A B e).1 4 [z8 m s f x A B e]∧fD (Aa m s f x A B e).1∧(Aa m s f x A B e).2<1000∧oK (z8 m s f x A B e):=by
 obtain⟨hi,gd,Ap⟩:=SA (m:=m) hs bD ht hb hc
 obtain⟨_,_,_,hA,hB,_⟩:=bD
 have wB:(bL (.op true A B)).length<=256:=pP Ap
 have hp:Ext m.lK (oF m s f x A B e).m 4 []:=Sz
 have FF:fD m.lK:=⟨hm.types,hm.code⟩
 have qT:fD (oF m s f x A B e).m:=Sv FF hs om om sm (by have:=Ao hc;omega) om sm (λy hy=>by
  simp only[mC,List.not_mem_nil,or_false] at hy
  rcases hy with rfl|rfl
  ·have:=pP hA;omega
  ·exact tM hB) fC
 have h1:(oF m s f x A B e).m.bW=m.bW:=by rw[hp.bW];simp[Mk.lK]
 have h2:(oF m s f x A B e).m.count=m.count+1:=by rw[hp.count];simp[Mk.lK]
 refine⟨⟨hp.blocks,?_,h2,hp.types,hp.code⟩,⟨qT.types,qT.code⟩,?_,hi⟩
 ·show(oF m s f x A B e).m.bW++[z8 m s f x A B e]=m.bW++[z8 m s f x A B e]
  rw[h1]
 ·show m.types.length+3<1000;omega
theorem acJ {m:Mk} {ton:Nat} {bm name:aj} {kind:Ty} {rest:Ex} (hs:ku s) (kM:Am bm) (wB:kind.n<=16) (bD:rest.ok) (ht:bM rest (fi s++[(name,kind)])=some T) (hb:5*(s.length+1)+2*rest.n<=240) (hc:m.count<1000):oK (Ia m s ton bm name kind rest)∧(cE rest [name] []).length<=34:=by
 obtain⟨O,hO,rfl⟩:=kM
 have sM:∀y,Fv y rest->y∉[name]->(look (fi s) y).isSome=true:=λy hy hn=>by
  have:=pJ ht hy
  rw[mV,iN (λe=>hn (by rw[e];simp))] at this;exact this
 obtain⟨gd,iY⟩:=Mg om sM
 have Is:=Sy hs 2 (cE rest [name] []) om
 have FE:(oG m s ton (dV (bL O)) name kind rest).w=bO [116] (ma s (cE rest [name] []) (dV (bL O))):=Su ..
 have Iv:(oG m s ton (dV (bL O)) name kind rest).w.length<=11200:=by rw[FE];exact FC hs om (tM hO)
 have fC:bM rest (fi (iO s 2 (cE rest [name] []) []++[(name,1,kind)]))=some T:=by
  rw[<-ht,Dv]
  refine qo rest _ _ λy Iw hy=>?_
  rw[mV,mV]
  by_cases e1:name=y
  ·rw[iP e1,iP e1]
  ·rw[iN e1,iN e1]
   have gK:y∉[name]:=λh=>e1 (by simpa using h:y=name).symm
   have rS:y∈cE rest [name] []:=(qm y _ [name] []).2 (.inr ⟨hy,gK⟩)
   rw[Md,Me rS,Mf (sM y hy gK)]
 refine⟨{ok:=bD,type:=⟨T,fC⟩,sc:=Is.snoc om wB,bud:=?_,room:=?_,regs:=?_,loads:=?_,self:=.inl rfl,bm:=⟨O,hO,rfl⟩,on:=?_,aP:=Ao hc},gd⟩
 ·show 5*(iO s 2 (cE rest [name] []) []++[(name,1,kind)]).length+2*rest.n<=240
  rw[lA,xY];simp only[lC,List.length_nil];omega
 ·show 2+((cE rest [name] []).length+1)+8*rest.n<=990
  omega
 ·intro r hr
  have rJ:r∈[(oG m s ton (dV (bL O)) name kind rest).w,bL kind]:=hr
  simp only[mC,List.not_mem_nil,or_false] at rJ
  rcases rJ with rfl|rfl
  ·omega
  ·have:=pP wB;omega
 ·refine .inr ⟨tN s (cE rest [name] []) (some O),?_,?_,?_⟩
  ·show some (oG m s ton (dV (bL O)) name kind rest).w=_
   rw[FE,<-DF];rfl
  ·show(cE rest [name] []).length+1<=_
   unfold tN;rw[lA,List.length_map];simp
  ·rw[<-DF];exact Ss hs om (λT hT=>by cases hT;exact hO)
 ·show 2+(cE rest [name] []).length<1000;omega
theorem acK {ton:Nat} {bm name:aj} {kind:Ty} {rest:Ex} (hm:fD m) (hs:ku s) (rb:ton<1000) (kM:Am bm) (wB:kind.n<=16) (bD:rest.ok) (ht:bM rest (fi s++[(name,kind)])=some T) (hb:5*(s.length+1)+2*rest.n<=240) (fC:m.types.length+4<1000) (hc:m.count<1000):
  Ext m (tH m s ton bm name kind rest).1 4 [Ia m s ton bm name kind rest]∧fD (tH m s ton bm name kind rest).1∧(tH m s ton bm name kind rest).2.1<1000∧Am (tH m s ton bm name kind rest).2.2∧oK (Ia m s ton bm name kind rest):=by
 obtain⟨hi,gd⟩:=acJ (m:=m) (ton:=ton) hs kM wB bD ht hb hc
 obtain⟨O,hO,rfl⟩:=kM
 have hp:Ext m.lK (oG m s ton (dV (bL O)) name kind rest).m 4 []:=Sz
 have FF:fD m.lK:=⟨hm.types,hm.code⟩
 have qT:fD (oG m s ton (dV (bL O)) name kind rest).m:=Sv FF hs rb om (tM hO) (by have:=Ao hc;omega) (tM wB) sm (λy hy=>by
  simp only[List.mem_singleton] at hy
  rw[hy];have:=pP wB;omega) fC
 have h1:(oG m s ton (dV (bL O)) name kind rest).m.bW=m.bW:=by rw[hp.bW];simp[Mk.lK]
 have h2:(oG m s ton (dV (bL O)) name kind rest).m.count=m.count+1:=by rw[hp.count];simp[Mk.lK]
 refine⟨⟨hp.blocks,?_,h2,hp.types,hp.code⟩,⟨qT.types,qT.code⟩,?_,⟨kind,wB,rfl⟩,hi⟩
 ·show(oG m s ton (dV (bL O)) name kind rest).m.bW++[_]=m.bW++[_]
  rw[h1]
 ·show m.types.length+3<1000;omega
theorem FG (m:Mk) (k:aj):Ext m (m.dG k) 1 []:=⟨rfl,by simp[Mk.dG],rfl,by simp[Mk.dG],by simp[Mk.dG]⟩
theorem tO (m:Mk) (h:aj) (ps:List aj):Ext m (m.cY h ps) 1 []:=⟨rfl,by simp[Mk.cY],rfl,by simp[Mk.cY],by simp[Mk.cY]⟩
theorem xZ (m:Mk) (k:aj):(m.dG k).types.length=m.types.length+1:=by simp[Mk.dG]
theorem oL (m:Mk) (h:aj) (ps:List aj):(m.cY h ps).types=m.types:=rfl
theorem mr {n:Nat} (h:n<1000):(bf n).length<=3:=sL h
theorem nW {m:Mk} (h:fD m) {hd:aj} (hh:hd.length<=5) (hp:ps.length<=4) (hs:∀p,p∈ps->p.length<=300):fD (m.cY hd ps):=h.cY (by
 have h1:=Al (m:=300) ps hs
 have h2:ps.length*301<=4*301:=Nat.mul_le_mul hp (lR _)
 rw[lN];omega)
theorem DH {s:aj} (h:eO s=true):s.length<=4:=by
 unfold eO at h
 simp only[aE,dE] at h
 exact h.1.1.2
def la (ts:List Tk):Nat:=(ts.map λt=>t.expr.n+1).sum
theorem FH (a b:List Tk):la (a++b)=la a+la b:=by unfold la;rw[List.map_append,List.sum_append]
theorem Mh (t:Tk):la [t]=t.expr.n+1:=by simp[la]
theorem FI:la []=0:=rfl
theorem SD {b:aj} (hm:fD m) (hs:ku s) (ha:a.length<=4) (hb:b.length<=4) (ht:m.types.length+1<1000):
  (Ext m (cF m s a).1 1 []∧fD (cF m s a).1∧(cF m s a).2<1000)∧Ext m (cF (cF m s a).1 s b).1 2 []∧fD (cF (cF m s a).1 s b).1∧(cF (cF m s a).1 s b).2<1000:=by
 have h1:=FD hm hs ha om
 have h2:=FD (m:=(cF m s a).1) (a:=b) h1.2.1 hs hb (by have:=h1.1.types;omega)
 exact⟨h1,h1.1.trans h2.1,h2.2⟩
structure SE (m m':Mk) (r:Nat) (n:Nat) (new:List Tk):Prop where
 ext:Ext m m' 4 new
 sml:fD m'
 dG:r<1000
 inv:∀k,k∈new->oK k
 num:la new+1<=n
theorem Mi (hm:fD m) (hs:ku s) (bD:e.ok) (ht:bM e (fi s)=some T) (hb:5*s.length+2*e.n<=240) (fC:m.types.length+8*e.n<=1000) (hc:m.count<1000):
  ∃new,SE m (mX m s T e).1 (mX m s T e).2 e.n new:=by
 have hT:=l4 hs.types ht
 have hk:=pP hT
 have two:∀(h a b:aj),a.length<=4->b.length<=4->h.length<=5->m.types.length+8<=1000->∀n,1<=n->
   SE m (((cF (cF m s a).1 s b).1.dG (bL T)).cY h [bf (cF (cF m s a).1 s b).1.types.length,bf (cF m s a).2,bf (cF (cF m s a).1 s b).2]) (cF (cF m s a).1 s b).1.types.length n []:=by
  intro h a b ha hb hh h8 n hn
  obtain⟨⟨e1,_,r1⟩,e2,s2,r2⟩:=SD hm hs ha hb om
  have Mj:=e2.types
  refine⟨(e2.trans ((FG _ _).trans (tO _ _ _))),nW (s2.dG om) hh sm ?_,om,sm,by simp[FI];omega⟩
  intro p hp
  simp only[mC,List.not_mem_nil,or_false] at hp
  rcases hp with rfl|rfl|rfl
  ·have:=mr (n:=(cF (cF m s a).1 s b).1.types.length) om;omega
  ·have:=mr r1;omega
  ·have:=mr r2;omega
 cases e with
 |«at» a=>
  obtain⟨h1,h2,h3⟩:=FD hm hs (Mc bD) (by simp only[Ex.n] at fC;omega)
  exact⟨[],h1.more om,h2,h3,sm,by simp[FI,Ex.n]⟩
 |un h a=>
  simp only[Ex.n] at fC
  have x4:=a.pos
  obtain⟨h1,h2,h3⟩:=FD hm hs (oJ bD.2) om
  have Mj:=h1.types
  refine⟨[],((h1.trans ((FG _ _).trans (tO _ _ _)))).more om,nW (h2.dG om) sm sm ?_,?_,sm,by simp[FI,Ex.n]⟩
  ·intro p hp
   simp only[mC,List.not_mem_nil,or_false] at hp
   rcases hp with rfl|rfl|rfl
   ·have:=mr (n:=(cF m s a.az).1.types.length) om;omega
   ·have:=mr h3;omega
   ·split<;>simp
  ·show(cF m s a.az).1.types.length<1000;omega
 |bi h a b=>
  simp only[Ex.n] at fC
  have x4:=a.pos
  refine⟨[],two (qt h) a.az b.az (oJ bD.2.1) (oJ bD.2.2) ?_ om _ (Ex.pos _)⟩
  unfold qt;split
  ·simp
  ·split
   ·simp
   ·split<;>simp
 |ite a b c=>
  simp only[Ex.n] at fC
  exact⟨[],two (qt cC) a.az b.az (oJ bD.1) (oJ bD.2.1) de om _ (Ex.pos _)⟩
 |lt x a b=>
  simp only[Ex.n] at fC
  exact⟨[],two (qt gM) x a.az (DH bD.1) (oJ bD.2.1) de om _ (Ex.pos _)⟩
 |fn f x A B e=>
  simp only[Ex.n] at fC
  obtain⟨h1,h2,h3,h4⟩:=acI hm hs bD ht hb om hc
  refine⟨_,h1,h2,h3,λk hk=>by simp only[List.mem_singleton] at hk;rw[hk];exact h4,?_⟩
  rw[Mh];simp only[z8,Ex.n];omega
theorem SF (hm:fD m) {s:Nat} (hs:s<1000) (ht:m.types.length+3<1000):Ext m (sF m s) 6 []∧fD (sF m s)∧(sF m s).types.length=m.types.length+3:=by
 have h0:=mr hs
 have h1:=mr (n:=m.types.length) om
 have h2:=mr (n:=m.types.length+1) om
 have h3:=mr (n:=m.types.length+2) om
 unfold sF
 have z:([]:aj).length<=100000:=by simp
 refine⟨(FG _ _).trans ((tO _ _ _).trans ((FG _ _).trans ((tO _ _ _).trans ((FG _ _).trans (tO _ _ _))))),?_,by simp[Mk.dG,Mk.cY]⟩
 refine nW (fD.dG (nW (fD.dG (nW (fD.dG hm z) sm sm ?_) z) sm sm ?_) z) sm sm ?_
 all_goals
  intro p hp
  simp only[mC,List.not_mem_nil,or_false] at hp
  rcases hp with rfl|rfl|rfl<;>first|omega|simp
theorem acL (hm:fD m) {f x on:Nat} (hf:f<1000) (hx:x<1000) (ho:on<1000) (ht:m.types.length+3<1000):Ext m (xO m f x on) 10 []∧fD (xO m f x on):=by
 obtain⟨h1,h2,h3⟩:=SF hm hf ht
 have d1:=mr (n:=m.types.length+1) om
 have d2:=mr (n:=m.types.length+2) om
 have d3:=mr hx
 have d4:=mr ho
 unfold xO
 refine⟨h1.trans ((tO _ _ _).trans ((tO _ _ _).trans ((tO _ _ _).trans (tO _ _ _)))),?_⟩
 refine nW (nW (nW (nW h2 sm sm ?_) sm sm ?_) sm sm ?_) sm sm ?_
 all_goals
  intro p hp
  simp only[mC,List.not_mem_nil,or_false] at hp
  first
  |(rcases hp with rfl|rfl<;>first|omega|simp)
  |(rw[hp];omega)
theorem acM (hm:fD m) {on r:Nat} (ho:on<1000) (hr:r<1000) (ht:m.types.length+3<1000):Ext m (xP m on r) 10 []∧fD (xP m on r):=by
 obtain⟨h1,h2,h3⟩:=SF hm ho ht
 have d1:=mr (n:=m.types.length+1) om
 have d2:=mr (n:=m.types.length+2) om
 have d3:=mr hr
 unfold xP
 refine⟨(h1.trans ((tO _ _ _).trans ((tO _ _ _).trans (tO _ _ _)))).more om,?_⟩
 refine nW (nW (nW h2 sm sm ?_) sm sm ?_) sm sm ?_
 all_goals
  intro p hp
  simp only[mC,List.not_mem_nil,or_false] at hp
  first
  |(rcases hp with rfl|rfl<;>first|omega|simp)
  |(rw[hp];omega)
structure nX (m:Mk) (s:da) (on:Nat) (bm:aj) (e:Ex):Prop where
 sml:fD m
 sc:ku s
 ok:e.ok
 type:∃T,bM e (fi s)=some T
 bud:5*s.length+2*e.n<=240
 room:m.types.length+8*e.n<=1000
 on:on<1000
 bm:Am bm
 cnt:m.count+e.n<=900
structure uR (m:Mk) (s:da) (on:Nat) (bm:aj) (e:Ex) (T:Ty):Prop where
 ok:(bV e).s.ok
 type:bM (bV e).s (fi s)=some T
 small:T.n<=16
 nU:nU s (bV e).s=T
 le:(bV e).s.n<=e.n
 last:(bV e).name=[]->(bV e).s=e
 rest:(bV e).name≠[]->eO (bV e).name=true∧(bV e).rest.ok∧(∃U,bM (bV e).rest (fi s++[((bV e).name,T)])=some U)∧(bV e).s.n+(bV e).rest.n+2<=e.n
theorem nX.goal {on:Nat} {bm:aj} (h:nX m s on bm e):∃T,uR m s on bm e T:=by
 obtain⟨T,hT⟩:=h.type
 have same:bV e=⟨[],e,e⟩->∃T,uR m s on bm e T:=λhg=>by
  refine⟨T,?_,?_,l4 h.sc.types hT,?_,?_,?_,?_⟩
  ·rw[hg];exact h.ok
  ·rw[hg];exact hT
  ·rw[hg];unfold nU;rw[hT];rfl
  ·rw[hg];exact lR _
  ·intro _;rw[hg]
  ·intro hn;rw[hg] at hn;exact absurd rfl hn
 have bD:=h.ok
 cases e with
 |lt x a b=>
  unfold bM at hT
  cases ha:bM a (fi s) with
  |none=>rw[ha] at hT;cases hT
  |some A=>
   rw[ha,Option.bind_some] at hT
   refine⟨A,bD.2.1,ha,l4 h.sc.types ha,by show(bM a (fi s)).getD .i=A;rw[ha];rfl,by simp only[bV,Ex.n];omega,λhn=>absurd hn (uK bD.1),λ_=>⟨bD.1,bD.2.2,⟨T,hT⟩,by simp only[bV,Ex.n];omega⟩⟩
 |«at» a=>exact same rfl
 |un a b=>exact same rfl
 |bi a b c=>exact same rfl
 |ite a b c=>exact same rfl
 |fn a b c d f=>exact same rfl
def fm (m:Mk) (s:da) (on:Nat) (bm name:aj) (kind:Ty) (rest:Ex):Mk×Nat×aj:=if name≠[] then tH m s on bm name kind rest else(m,on,bm)
structure Cut (m m':Mk) (on':Nat) (onOf':aj) (n:Nat) (new:List Tk):Prop where
 ext:Ext m m' 4 new
 sml:fD m'
 on:on'<1000
 bm:Am onOf'
 inv:∀k,k∈new->oK k
 num:la new<=n
theorem SG {m0:Mk} {on:Nat} {bm:aj} (h:nX m0 s on bm e) (g:uR m0 s on bm e T) (hm:fD m) (fC:m.types.length+4<1000) (hc:m.count<1000) (h3:2<=(bV e).s.n):
  ∃new,Cut m (fm m s on bm (bV e).name T (bV e).rest).1 (fm m s on bm (bV e).name T (bV e).rest).2.1 (fm m s on bm (bV e).name T (bV e).rest).2.2 (e.n-(bV e).s.n) new:=by
 by_cases hn:(bV e).name=[]
 ·unfold fm
  rw[iN (by simp[hn])]
  exact⟨[],(Ext.refl m).more om,hm,h.on,h.bm,sm,by simp[FI]⟩
 ·unfold fm
  rw[iP hn]
  obtain⟨gK,FJ,⟨U,hU⟩,rf⟩:=g.rest hn
  have hb:=h.bud
  obtain⟨h1,h2,h3,h4,h5⟩:=acK (name:=(bV e).name) hm h.sc h.on h.bm g.small FJ hU om fC hc
  refine⟨_,h1,h2,h3,h4,λk hk=>by simp only[List.mem_singleton] at hk;rw[hk];exact h5,?_⟩
  rw[Mh]
  show(bV e).rest.n+1<=_
  omega
structure Fin (m m':Mk) (n:Nat) (new:List Tk):Prop where
 ext:Ext m m' 20 new
 sml:fD m'
 inv:∀k,k∈new->oK k
 num:la new+1<=n
structure On (m m':Mk) (s:da) (on:Nat) (bm:aj) (n:Nat) (r:Ex) (new:List Tk):Prop where
 ext:Ext m m' 20 new
 inv:nX m' s on bm r
 bW:∀k,k∈new->oK k
 num:la new+r.n+1<=n
theorem acN {on:Nat} {bm:aj} (h:nX m s on bm e) (g:uR m s on bm e T) (hn:(bV e).name=[]):
  ∃new,Fin m (xP (mX m s T (bV e).s).1 on (mX m s T (bV e).s).2) e.n new:=by
 have hr:=h.room
 have hc:=h.cnt
 have hp:=(bV e).s.pos
 have hle:=g.le
 obtain⟨new,hP⟩:=Mi h.sml h.sc g.ok g.type (by have:=h.bud;omega) om om
 have ht:=hP.ext.types
 obtain⟨h1,h2⟩:=acM hP.sml h.on hP.dG om
 exact⟨new,by have:=hP.ext.trans h1;rw[List.append_nil] at this;exact this.more om,h2,hP.inv,by have:=hP.num;omega⟩
theorem SH {on:Nat} {bm:aj} (h:nX m s on bm e) (g:uR m s on bm e T) (hn:(bV e).name≠[]):
  ∃new,On m (mX m s T (bV e).s).1 (s++[((bV e).name,(mX m s T (bV e).s).2,T)]) on bm e.n (bV e).rest new:=by
 have hr:=h.room
 have hc:=h.cnt
 have hp:=(bV e).s.pos
 have hle:=g.le
 obtain⟨gK,FJ,⟨U,hU⟩,rf⟩:=g.rest hn
 obtain⟨new,hP⟩:=Mi h.sml h.sc g.ok g.type (by have:=h.bud;omega) om om
 have ht:=hP.ext.types
 have hct:=hP.ext.count
 have Ix:=hP.num
 have hlen:new.length<=la new:=by
  unfold la
  clear hP hct Ix
  induction new with
  |nil=>simp
  |cons t l ih=>simp only[lC,List.map_cons,List.sum_cons];omega
 refine⟨new,hP.ext.more om,⟨hP.sml,h.sc.snoc hP.dG g.small,FJ,⟨U,by rw[Dv];exact hU⟩,?_,om,h.on,h.bm,om⟩,hP.inv,om⟩
 have:=h.bud
 simp only[lA,lC,List.length_nil];omega
theorem acP {on:Nat} {bm:aj} {f x:Ex} (h:nX m s on bm e) (g:uR m s on bm e T) (hs:(bV e).s= .bi kD f x):
  ∃new,Cut (cF (cF m s f.az).1 s x.az).1 (fm (cF (cF m s f.az).1 s x.az).1 s on bm (bV e).name T (bV e).rest).1 (fm (cF (cF m s f.az).1 s x.az).1 s on bm (bV e).name T (bV e).rest).2.1 (fm (cF (cF m s f.az).1 s x.az).1 s on bm (bV e).name T (bV e).rest).2.2 (e.n-3) new∧
   Fin m (xO (fm (cF (cF m s f.az).1 s x.az).1 s on bm (bV e).name T (bV e).rest).1 (cF m s f.az).2 (cF (cF m s f.az).1 s x.az).2 (fm (cF (cF m s f.az).1 s x.az).1 s on bm (bV e).name T (bV e).rest).2.1) e.n new:=by
 have bD:=g.ok
 rw[hs] at bD
 have hr:=h.room
 have hc:=h.cnt
 have hle:=g.le
 have Ml:3<=(bV e).s.n:=by rw[hs];simp only[Ex.n];have:=f.pos;have:=x.pos;omega
 obtain⟨⟨e1,s1,r1⟩,e2,s2,r2⟩:=SD h.sml h.sc (oJ bD.2.1) (oJ bD.2.2) om
 have t2:=e2.types
 have c2:=e2.count
 simp only[List.length_nil] at c2
 obtain⟨new,hC⟩:=SG h g s2 om om om
 have t3:=hC.ext.types
 obtain⟨h1,h2⟩:=acL hC.sml r1 r2 hC.on om
 refine⟨new,⟨hC.ext,hC.sml,hC.on,hC.bm,hC.inv,by have:=hC.num;omega⟩,?_,h2,hC.inv,by have:=hC.num;omega⟩
 have:=(e2.trans hC.ext).trans h1
 rw[List.append_nil,List.nil_append] at this;exact this.more om
def Mm (m:Mk) (s:da) (on:Nat) (bm:aj) (x:Ex):Tk:=⟨m.aP,m.types,0,[],s,x,on,bm,m.types.length⟩
def FK (m:Mk) (s:da) (on:Nat) (bm:aj) (r:Nat) (x:Ex):Mk:={(m.lK.cY Fm [bf r,m.aP]) with bW:=m.bW++[Mm m s on bm x]}
theorem SI {on:Nat} {bm:aj} {c x y:Ex} (h:nX m s on bm e) (g:uR m s on bm e T) (hs:(bV e).s= .ite c x y):
  ∃new x5,Cut (cF m s c.az).1 (fm (cF m s c.az).1 s on bm (bV e).name T (bV e).rest).1 (fm (cF m s c.az).1 s on bm (bV e).name T (bV e).rest).2.1 (fm (cF m s c.az).1 s on bm (bV e).name T (bV e).rest).2.2 (e.n-(bV e).s.n) new∧
   On m (FK (fm (cF m s c.az).1 s on bm (bV e).name T (bV e).rest).1 s (fm (cF m s c.az).1 s on bm (bV e).name T (bV e).rest).2.1 (fm (cF m s c.az).1 s on bm (bV e).name T (bV e).rest).2.2 (cF m s c.az).2 x) s
    (fm (cF m s c.az).1 s on bm (bV e).name T (bV e).rest).2.1 (fm (cF m s c.az).1 s on bm (bV e).name T (bV e).rest).2.2 e.n y x5:=by
 have bD:=g.ok
 have fC:=g.type
 rw[hs] at bD fC
 have hr:=h.room
 have hc:=h.cnt
 have hle:=g.le
 have hb:=h.bud
 have hcp:=c.pos
 have Ml:(bV e).s.n=1+c.n+x.n+y.n:=by rw[hs];rfl
 have hxp:=x.pos
 have hyp:=y.pos
 obtain⟨e1,s1,r1⟩:=FD h.sml h.sc (oJ bD.1) om
 have t1:=e1.types
 have c1:=e1.count
 simp only[List.length_nil] at c1
 obtain⟨new,hC⟩:=SG h g s1 om om om
 generalize fm (cF m s c.az).1 s on bm (bV e).name T (bV e).rest=Q at hC⊢
 obtain⟨m2,x6,SJ⟩:=Q
 dsimp only at hC⊢
 have t3:=hC.ext.types
 have c3:=hC.ext.count
 have Ix:=hC.num
 have hlen:new.length<=la new:=by
  unfold la
  clear hC c3 Ix t3
  induction new with
  |nil=>simp
  |cons t l ih=>simp only[lC,List.map_cons,List.sum_cons];omega
 have hl:=Ao (m:=m2) om
 have tys:(∃X,bM x (fi s)=some X)∧∃Y,bM y (fi s)=some Y:=by
  unfold bM at fC
  cases h1:bM c (fi s) with
  |none=>rw[h1] at fC;cases fC
  |some A=>
   cases h2:bM x (fi s) with
   |none=>rw[h1,h2] at fC;cases fC
   |some B=>
    cases h3:bM y (fi s) with
    |none=>rw[h1,h2,h3] at fC;cases fC
    |some D=>exact⟨⟨B,rfl⟩,⟨D,rfl⟩⟩
 have iF:oK (Mm m2 s x6 SJ x):=
  ⟨bD.2.1,tys.1,h.sc,by show 5*s.length+2*x.n<=240;omega,by show m2.types.length+0+8*x.n<=990;omega,hC.sml.types,.inl rfl,.inl rfl,hC.bm,hC.on,hl⟩
 refine⟨new,new++[Mm m2 s x6 SJ x],hC,⟨?_,⟨?_,h.sc,bD.2.2,tys.2,om,?_,hC.on,hC.bm,?_⟩,?_,?_⟩⟩
 ·have he:=e1.trans hC.ext
  rw[List.nil_append] at he
  refine⟨he.blocks,?_,?_,?_,?_⟩
  ·show m2.bW++[_]=_
   rw[he.bW,List.append_assoc]
  ·show m2.count+1=_
   rw[he.count,lA];simp;omega
  ·have:=he.types;exact⟨this.1,by show m2.types.length<=_;omega⟩
  ·have:=he.code
   show(m2.code++[_]).length<=_
   simp only[lA,lC,List.length_nil];omega
 ·have:=nW (m:=m2.lK) (hd:=Fm) (ps:=[bf (cF m s c.az).2,m2.aP]) ⟨hC.sml.types,hC.sml.code⟩ de sm (λp hp=>by
   simp only[mC,List.not_mem_nil,or_false] at hp
   rcases hp with rfl|rfl
   ·have:=mr r1;omega
   ·omega)
  exact⟨this.types,this.code⟩
 ·show m2.types.length+_<=_;omega
 ·show m2.count+1+_<=_;omega
 ·intro k hk
  rcases mA.1 hk with hk|hk
  ·exact hC.inv k hk
  ·simp only[List.mem_singleton] at hk;rw[hk];exact iF
 ·rw[FH,Mh]
  show _+(x.n+1)+_+1<=_
  omega
def o9 (m:Mk) (ts:List aA):Nat->Mk
 |0=>m
 |k+1=>((o9 m ts k).dG (nth ts k).text).cY sE [bf (o9 m ts k).types.length,[48],bf k]
def Aq (m:Mk) (aP:aj) (regs:List aj) (a b:aj):Mk:=
 let code:=bO [99] regs
 let r:=m.types.length
 (((((m.dG code).cY sC [bf r,aP]).dG (bO [116] [code,b])).cY l5 [bf (r+1),bf r,[48]]).dG a).cY sD [bf (r+2),bf (r+1),a,b]
def nY (m:Mk) (regs:List aj):Mk:={m with code:=[],types:=regs}
def Iy (m:Mk) (t:Tk):Mk:=match t.self with
 |[a,b]=>Aq m t.aP t.regs a b
 |_=>m
def nh (t:Tk):List aA:=match ba (t.regs.getD 0 [105]) with
 |some x=>x.au.drop 1
 |none=>[]
def qv (m:Mk) (t:Tk):Mk:=Iy (o9 (nY m t.regs) (nh t) t.loads) t
theorem Mn {t:Tk} (h:t.regs.head?=some (bO [116] (ts.map aA.text))) (hp:ba (bO [116] (ts.map aA.text))=some (vZ [116] ts)):nh t=ts∧ba (t.regs.getD 0 [105])=some (vZ [116] ts):=by
 have e:t.regs.getD 0 [105]=bO [116] (ts.map aA.text):=by
  cases hr:t.regs with
  |nil=>rw[hr] at h;cases h
  |cons a l=>rw[hr] at h;simpa using h
 unfold nh
 rw[e,hp]
 exact⟨rfl,rfl⟩
structure BS (m m':Mk) (regs:List aj) (k:Nat):Prop where
 blocks:m'.blocks=m.blocks
 bW:m'.bW=m.bW
 count:m'.count=m.count
 types:m'.types.length=regs.length+k
 code:m'.code.length<=k
 sml:fD m'
theorem Mo {regs:List aj} (h:∀r,r∈regs->r.length<=100000):BS m (nY m regs) regs 0:=⟨rfl,rfl,rfl,rfl,by simp[nY],⟨h,by simp[nY]⟩⟩
theorem Mp {m:Mk} {regs:List aj} (h:∀r,r∈regs->r.length<=100000) (mU:∀t,t∈ts->t.text.length<=100000):∀k,regs.length+k<1000->k<=ts.length->BS m (o9 (nY m regs) ts k) regs k
 |0,_,_=>Mo h
 |k+1,hk,hl=>by
  have ih:=Mp (m:=m) h mU k om om
  have d1:=mr (n:=(o9 (nY m regs) ts k).types.length) (by rw[ih.types];omega)
  have d2:=mr (n:=k) om
  refine⟨ih.blocks,ih.bW,ih.count,by show(((o9 (nY m regs) ts k).types++[_])).length=_;rw[lA,ih.types];rfl,?_,?_⟩
  ·show((o9 (nY m regs) ts k).code++[_]).length<=_
   have:=ih.code
   rw[lA];simp;omega
  ·refine nW (ih.sml.dG ?_) sm sm ?_
   ·have:=mU (nth ts k) (by unfold nth;rw[gG,gE om];exact List.getElem_mem _)
    omega
   ·intro p hp
    simp only[mC,List.not_mem_nil,or_false] at hp
    rcases hp with rfl|rfl|rfl
    ·omega
    ·simp
    ·omega
theorem SK {regs:List aj} (h3:regs.length=3) (h:∀r,r∈regs->r.length<=11200):(bO [99] regs).length<=33610:=by
 have h1:=Al (m:=11200) regs h
 rw[h3] at h1
 rw[lN]
 simp only[lC,List.length_nil];omega
theorem acQ (a b c d:aj):jZ [a,b,c,d]=4+a.length+b.length+c.length+d.length:=by simp[jZ];omega
theorem acR (hm:fD m) {aP:aj} (hl:aP.length<=4) {regs:List aj} (h3:regs.length=3) (h:∀r,r∈regs->r.length<=11200) {b:aj} (ha:a.length<=272) (hb:b.length<=11200) (ht:m.types.length+3<1000):fD (Aq m aP regs a b):=by
 have hc:=SK h3 h
 have d1:=mr (n:=m.types.length) om
 have d2:=mr (n:=m.types.length+1) om
 have d3:=mr (n:=m.types.length+2) om
 have hw:(bO [116] [bO [99] regs,b]).length<=45000:=by rw[lN,An];simp only[lC,List.length_nil];omega
 unfold Aq
 refine fD.cY (fD.dG (nW (fD.dG (nW (fD.dG hm ?_) sm sm ?_) ?_) sm sm ?_) ?_) ?_
 ·omega
 ·intro p hp
  simp only[mC,List.not_mem_nil,or_false] at hp
  rcases hp with rfl|rfl<;>omega
 ·omega
 ·intro p hp
  simp only[mC,List.not_mem_nil,or_false] at hp
  rcases hp with rfl|rfl|rfl
  ·omega
  ·omega
  ·simp
 ·omega
 ·rw[lN,acQ];simp only[lC,List.length_nil];omega
theorem acS {m':Mk} {regs:List aj} (h:BS m m' regs k) (aP a b:aj) (hs:fD (Aq m' aP regs a b)):BS m (Aq m' aP regs a b) regs (k+3):=
 ⟨h.blocks,h.bW,h.count,by have:=h.types;simp[Aq,Mk.dG,Mk.cY];omega,by have:=h.code;simp[Aq,Mk.dG,Mk.cY];omega,hs⟩
theorem SL {s:aj} (h:s∈ps):s.length<=jZ ps:=by
 unfold jZ
 have:∀{xs:List aj},s∈xs->s.length<=(xs.map List.length).sum:=by
  intro xs
  induction xs with
  |nil=>intro h;cases h
  |cons x xs ih=>
   intro h
   rw[List.map_cons,List.sum_cons]
   rcases mC.1 h with rfl|h
   ·omega
   ·have:=ih h;omega
 have:=this h;omega
theorem Mq {m:Mk} {t:Tk} (h:oK t):BS m (qv m t) t.regs (t.loads+(if t.self=[] then 0 else 3)):=by
 have hr:=h.room
 have hp:=t.expr.pos
 have h1:BS m (o9 (nY m t.regs) (nh t) t.loads) t.regs t.loads:=by
  rcases h.loads with h0|⟨ts,hh,hl,FL⟩
  ·rw[h0];exact Mo h.regs
  ·obtain⟨e1,_⟩:=Mn hh FL
   rw[e1]
   refine Mp h.regs (λx hx=>?_) _ om hl
   have h2:=h.regs _ (List.mem_of_mem_head? hh)
   rw[lN] at h2
   have:=SL (List.mem_map_of_mem (f:=aA.text) hx)
   omega
 unfold qv Iy
 rcases h.self with h0|⟨a,b,hs,ha,hb,h3,hl⟩
 ·rw[h0,iP rfl];exact h1
 ·rw[hs,iN sm]
  refine acS h1 _ _ _ (acR h1.sml h.aP h3 hl ha hb ?_)
  rw[h1.types];omega
theorem SM {t:Tk} (h:oK t) (hc:m.count+t.expr.n<=900):nX (qv m t) t.sc t.on t.bm t.expr:=by
 have hb:=Mq (m:=m) h
 have hr:=h.room
 refine⟨hb.sml,h.sc,h.ok,h.type,h.bud,?_,h.on,h.bm,by rw[hb.count];exact hc⟩
 rw[hb.types]
 split<;>omega
/-! ### A block's body -/
def mu:Nat->At->Ex->Mk
 |0,a,_=>a.m
 |k+1,a,e=>match kF a e with
  | .inl m=>m
  | .inr p=>mu k p.1 p.2
theorem Iz (m:Mk) (s:da) (on:Nat) (bm:aj) (g:Goal):Ib ⟨m,s,on,bm⟩ g=⟨(fm m s on bm g.name (nU s g.s) g.rest).1,s,(fm m s on bm g.name (nU s g.s) g.rest).2.1,(fm m s on bm g.name (nU s g.s) g.rest).2.2⟩:=by
 unfold Ib fm
 split<;>rfl
theorem SN {on:Nat} {bm:aj} (h:nX m s on bm e):match kF ⟨m,s,on,bm⟩ e with
  | .inl m'=>∃new,Fin m m' e.n new
  | .inr p=>∃new,On m p.1.m p.1.s p.1.on p.1.bm e.n p.2 new:=by
 obtain⟨T,g⟩:=h.goal
 have hY:=g.nU
 have simple:kF ⟨m,s,on,bm⟩ e=(if(bV e).name=[] then .inl (xP (mX m s (nU s (bV e).s) (bV e).s).1 on (mX m s (nU s (bV e).s) (bV e).s).2) else .inr (⟨(mX m s (nU s (bV e).s) (bV e).s).1,s++[((bV e).name,(mX m s (nU s (bV e).s) (bV e).s).2,nU s (bV e).s)],on,bm⟩,(bV e).rest))->
   match kF ⟨m,s,on,bm⟩ e with
   | .inl m'=>∃new,Fin m m' e.n new
   | .inr p=>∃new,On m p.1.m p.1.s p.1.on p.1.bm e.n p.2 new:=λhs=>by
  rw[hs,hY]
  by_cases hn:(bV e).name=[]
  ·rw[iP hn];exact acN h g hn
  ·rw[iN hn];exact SH h g hn
 cases hg:(bV e).s with
 |«at» a=>exact simple (by unfold kF;simp only[hg])
 |un a b=>exact simple (by unfold kF;simp only[hg])
 |lt a b c=>exact simple (by unfold kF;simp only[hg])
 |fn a b c d f=>exact simple (by unfold kF;simp only[hg])
 |bi hd f x=>
  by_cases hc:hd=kD
  ·subst hc
   have hs:kF ⟨m,s,on,bm⟩ e= .inl (xO (fm (cF (cF m s f.az).1 s x.az).1 s on bm (bV e).name T (bV e).rest).1 (cF m s f.az).2 (cF (cF m s f.az).1 s x.az).2 (fm (cF (cF m s f.az).1 s x.az).1 s on bm (bV e).name T (bV e).rest).2.1):=by
    unfold kF
    simp only[hg,if_true,Iz]
    rw[<-hg,hY]
   rw[hs]
   obtain⟨new,_,hF⟩:=acP h g hg
   exact⟨new,hF⟩
  ·exact simple (by unfold kF;simp only[hg,iN hc])
 |ite c x y=>
  have hs:kF ⟨m,s,on,bm⟩ e= .inr (⟨FK (fm (cF m s c.az).1 s on bm (bV e).name T (bV e).rest).1 s (fm (cF m s c.az).1 s on bm (bV e).name T (bV e).rest).2.1 (fm (cF m s c.az).1 s on bm (bV e).name T (bV e).rest).2.2 (cF m s c.az).2 x,s,
    (fm (cF m s c.az).1 s on bm (bV e).name T (bV e).rest).2.1,(fm (cF m s c.az).1 s on bm (bV e).name T (bV e).rest).2.2⟩,y):=by
   unfold kF
   simp only[hg,Iz]
   rw[<-hg,hY];rfl
  rw[hs]
  obtain⟨_,new,_,hO⟩:=SI h g hg
  exact⟨new,hO⟩
structure wC (m m':Mk) (s:da) (on:Nat) (bm:aj) (n k:Nat) (r:Ex) (new:List Tk):Prop where
 ext:Ext m m' k new
 inv:nX m' s on bm r
 bW:∀k,k∈new->oK k
 num:la new+r.n<=n
 steps:k+20*r.n<=20*n
theorem wC.start {on:Nat} {bm:aj} (h:nX m s on bm e):wC m m s on bm e.n 0 e []:=⟨Ext.refl m,h,sm,by simp[FI],om⟩
theorem wC.step {s2:da} {on x6:Nat} {bm DI:aj} {r r2:Ex} {new x5:List Tk} (h:wC m m1 s on bm n k r new) (h2:On m1 m2 s2 x6 DI r.n r2 x5):wC m m2 s2 x6 DI n (k+20) r2 (new++x5):=
 ⟨h.ext.trans h2.ext,h2.inv,λt ht=>by rcases mA.1 ht with ht|ht;exact h.bW t ht;exact h2.bW t ht,by rw[FH];have:=h.num;have:=h2.num;omega,by have:=h.steps;have:=h2.num;omega⟩
structure Mr (m m':Mk) (n:Nat) (new:List Tk):Prop where
 ext:Ext m m' (20*n) new
 sml:fD m'
 inv:∀k,k∈new->oK k
 num:la new+1<=n
theorem wC.fin {on:Nat} {bm:aj} {r:Ex} {new x5:List Tk} (h:wC m m1 s on bm n k r new) (h2:Fin m1 m2 r.n x5):Mr m m2 n (new++x5):=by
 have h3:=h.steps
 have h4:=r.pos
 refine⟨(h.ext.trans h2.ext).more om,h2.sml,λt ht=>?_,by rw[FH];have:=h.num;have:=h2.num;omega⟩
 rcases mA.1 ht with ht|ht
 ·exact h.bW t ht
 ·exact h2.inv t ht
theorem IA:∀(k:Nat) {m:Mk} {s:da} {on:Nat} {bm:aj} {e:Ex},nX m s on bm e->e.n<=k->∃new,Mr m (mu k ⟨m,s,on,bm⟩ e) e.n new
 |0,_,_,_,_,e,_,hk=>absurd hk (by have:=e.pos;omega)
 |k+1,m,s,on,bm,e,h,hk=>by
  have h1:=SN h
  unfold mu
  cases hs:kF ⟨m,s,on,bm⟩ e with
  |inl m'=>
   rw[hs] at h1
   obtain⟨new,h1⟩:=h1
   exact⟨_,(wC.start h).fin h1⟩
  |inr p=>
   rw[hs] at h1
   obtain⟨⟨m1,s1,uS,acT⟩,e1⟩:=p
   obtain⟨new,h1⟩:=h1
   dsimp only at h1⊢
   obtain⟨x5,h2⟩:=IA k h1.inv (by have:=h1.num;omega)
   have h3:=h1.num
   refine⟨new++x5,(h1.ext.trans h2.ext).more om,h2.sml,λt ht=>?_,by rw[FH];have:=h2.num;omega⟩
   rcases mA.1 ht with ht|ht
   ·exact h1.bW t ht
   ·exact h2.inv t ht
theorem acU:∀(k:Nat) {m:Mk} {s:da} {on:Nat} {bm:aj} {e:Ex},nX m s on bm e->e.n<=k->mu k ⟨m,s,on,bm⟩ e=mu e.n ⟨m,s,on,bm⟩ e:=by
 have key:∀(k j:Nat) {m:Mk} {s:da} {on:Nat} {bm:aj} {e:Ex},nX m s on bm e->e.n<=k->e.n<=j->mu k ⟨m,s,on,bm⟩ e=mu j ⟨m,s,on,bm⟩ e:=by
  intro k
  induction k with
  |zero=>intro j _ _ _ _ e _ hk;have:=e.pos;omega
  |succ k ih=>
   intro j m s on bm e h hk hj
   cases j with
   |zero=>have:=e.pos;omega
   |succ j=>
    have h1:=SN h
    unfold mu
    cases hs:kF ⟨m,s,on,bm⟩ e with
    |inl m'=>rfl
    |inr p=>
     rw[hs] at h1
     obtain⟨⟨m1,s1,uS,acT⟩,e1⟩:=p
     obtain⟨new,h1⟩:=h1
     dsimp only at h1⊢
     have h3:=h1.num
     exact ih j h1.inv om om
 exact λk m s on bm e h hk=>key k e.n h hk (lR _)
/-! ### A program -/
def BT (m:Mk) (aP:aj) (regs:List aj):Mk:={m with blocks:=m.blocks++[⟨aP,regs,m.code⟩]}
abbrev sT:aj:=[40,116,41]
def sN (T:Ty):Mk:=
 let on:=dV (bL T)
 let code:=bO [99] [sT,bL T]
 ((((⟨[],[],0,false,[],[sT,code,bO [116] [code,sT],on]⟩:Mk).cY l5 [[48]]).cY sC [[49],z6]).cY l5 [[50],[49],[48]]).cY sD [[51],[50],on,sT]
def FM (e:Ex) (T:Ty):Tk:=⟨BK,[],0,[],[],e,3,dV (bL T),0⟩
def rU (e:Ex) (T:Ty):Mk:=mu e.n ⟨sN T,[],3,dV (bL T)⟩ e
def BU (e:Ex) (T:Ty):Mk:=BT {(BT (rU e T) BK []) with code:=[[40,104,97,108,116,32,49,41]]} z6 [sT,bL T]
def DJ (m:Mk) (t:Tk):Mk:=BT (mu t.expr.n ⟨qv m t,t.sc,t.on,t.bm⟩ t.expr) t.aP t.regs
def ir (ts:List Tk) (i:Nat):Tk:=ts.getD i ⟨[],[],0,[],[],.at [],0,[],0⟩
def ya:Nat->Mk->Nat->Mk
 |0,m,_=>m
 |k+1,m,i=>if i<m.bW.length then ya k (DJ m (ir m.bW i)) (i+1) else m
def ofM (e:Ex) (T:Ty):Mk:=ya 1000 (BU e T) 0
structure rV (m:Mk) (i:Nat):Prop where
 le:i<=m.bW.length
 count:m.count=m.bW.length
 num:i+la (m.bW.drop i)<=120
 inv:∀t,t∈m.bW.drop i->oK t
 xH:∀b,b∈m.blocks->b.small∧b.aP.length<=10
 bnum:m.blocks.length=i+2
theorem SO (bD:e.ok) (ht:bM e []=some T) (hn:e.n<=120):nX (sN T) [] 3 (dV (bL T)) e:=by
 have hT:=l4 (Γ:=[]) (λs T h=>by simp[look] at h) ht
 have h1:=pP hT
 have h2:=tM hT
 have hc:(bO [99] [sT,bL T]).length<=300:=by rw[lN,An];simp only[lC,List.length_nil];omega
 have ho:Am (dV (bL T)):=⟨T,hT,rfl⟩
 refine⟨?_,⟨λs T h=>by simp[fi,look] at h,sm⟩,bD,⟨T,ht⟩,by simp;omega,by simp[sN,Mk.cY];omega,om,ho,by simp[sN,Mk.cY];omega⟩
 unfold sN
 refine nW (nW (nW (nW ⟨?_,sm⟩ sm sm ?_) sm sm ?_) sm sm ?_) sm sm ?_
 ·intro s hs
  simp only[mC,List.not_mem_nil,or_false] at hs
  rcases hs with rfl|rfl|rfl|rfl
  ·simp
  ·omega
  ·rw[lN,An];simp only[lC,List.length_nil];omega
  ·omega
 all_goals
  intro p hp
  simp only[mC,List.not_mem_nil,or_false] at hp
  first
  |(rcases hp with rfl|rfl|rfl|rfl<;>first|omega|simp)
  |(rcases hp with rfl|rfl|rfl<;>first|omega|simp)
  |(rcases hp with rfl|rfl<;>first|omega|simp)
  |(rw[hp];simp)
theorem SP (bD:e.ok) (ht:bM e []=some T) (hn:e.n<=120):∃new,Mr (sN T) (rU e T) e.n new:=IA _ (SO bD ht hn) (lR _)
theorem SQ (ts:List Tk):ts.length<=la ts:=by
 unfold la
 induction ts with
 |nil=>simp
 |cons t l ih=>simp only[lC,List.map_cons,List.sum_cons];omega
theorem acV (m:Mk) (l:aj) (r:List aj):(BT m l r).blocks=m.blocks++[⟨l,r,m.code⟩]:=rfl
theorem Ms (bD:e.ok) (ht:bM e []=some T) (hn:e.n<=120):rV (BU e T) 0:=by
 obtain⟨new,h⟩:=SP bD ht hn
 have h1:=h.ext.bW
 have h2:=h.ext.count
 have h3:=h.num
 have h4:=h.ext.code
 have h5:=h.ext.blocks
 have hb:(BU e T).blocks=[⟨BK,[],(rU e T).code⟩,⟨z6,[sT,bL T],[[40,104,97,108,116,32,49,41]]⟩]:=by
  unfold BU
  rw[acV]
  show(rU e T).blocks++_++_=_
  rw[h5];rfl
 have ov:(BU e T).bW=new:=by
  show(rU e T).bW=new
  rw[h1];rfl
 refine⟨Nat.zero_le _,?_,?_,?_,?_,by rw[hb];rfl⟩
 ·rw[ov]
  show(rU e T).count=_
  rw[h2];simp[sN,Mk.cY]
 ·rw[ov,List.drop_zero];omega
 ·rw[ov,List.drop_zero];exact h.inv
 ·intro b gw
  rw[hb] at gw
  have h6:(sN T).code.length=4:=rfl
  simp only[mC,List.not_mem_nil,or_false] at gw
  rcases gw with rfl|rfl
  ·exact⟨⟨by simp,sm,by show(rU e T).code.length<_;omega⟩,sm⟩
  ·exact⟨⟨by simp,sm,sm⟩,sm⟩
theorem IB {ts:List Tk} (hi:i<ts.length):ts.drop i=ir ts i::ts.drop (i+1):=by
 rw[List.drop_eq_getElem_cons hi]
 simp[ir,gE hi]
theorem rV.task (h:rV m i) (hi:i<m.bW.length):oK (ir m.bW i)∧m.count+(ir m.bW i).expr.n<=900∧m.bW.length<=120:=by
 have h1:=h.num
 have hl:=SQ (m.bW.drop i)
 rw[List.length_drop] at hl
 have h2:la (m.bW.drop i)=(ir m.bW i).expr.n+1+la (m.bW.drop (i+1)):=by rw[IB hi];simp[la]
 have h3:=h.count
 exact⟨h.inv _ (by rw[IB hi];simp),om,om⟩
theorem rV.step (h:rV m i) (hi:i<m.bW.length):rV (DJ m (ir m.bW i)) (i+1):=by
 obtain⟨hT,hc,_⟩:=h.task hi
 have h1:=h.num
 have h2:la (m.bW.drop i)=(ir m.bW i).expr.n+1+la (m.bW.drop (i+1)):=by rw[IB hi];simp[la]
 have hb:=Mq (m:=m) hT
 obtain⟨new,hF⟩:=IA _ (SM hT hc) (lR _)
 have e1:=hF.ext.bW
 have e2:=hF.ext.count
 have e3:=hF.ext.code
 have e4:=hF.ext.blocks
 have e5:=hF.num
 have hbc:=hb.code
 rw[hb.bW] at e1
 rw[hb.count] at e2
 rw[hb.blocks] at e4
 have hr:=hT.room
 have hd:(m.bW++new).drop (i+1)=m.bW.drop (i+1)++new:=by rw[List.drop_append_of_le_length hi]
 have ht:(DJ m (ir m.bW i)).bW=m.bW++new:=e1
 refine⟨by rw[ht,lA];omega,?_,?_,?_,?_,?_⟩
 ·rw[ht,lA,<-h.count];exact e2
 ·rw[ht,hd,FH];omega
 ·intro t DK
  rw[ht,hd] at DK
  rcases mA.1 DK with DK|DK
  ·exact h.inv t (by rw[IB hi];simp[DK])
  ·exact hF.inv t DK
 ·intro b gw
  have DL:b∈m.blocks++[⟨(ir m.bW i).aP,(ir m.bW i).regs,(mu (ir m.bW i).expr.n ⟨qv m (ir m.bW i),(ir m.bW i).sc,(ir m.bW i).on,(ir m.bW i).bm⟩ (ir m.bW i).expr).code⟩]:=by rw[<-e4];exact gw
  rcases mA.1 DL with DL|DL
  ·exact h.xH b DL
  ·simp only[List.mem_singleton] at DL
   rw[DL]
   have hl:=hT.aP
   refine⟨⟨by show(ir m.bW i).aP.length<_;omega,by show(ir m.bW i).regs.length<_;omega,?_⟩,by show(ir m.bW i).aP.length<=_;omega⟩
   refine Nat.lt_of_le_of_lt e3 ?_
   have:(if(ir m.bW i).self=[] then 0 else 3)<=3:=by split<;>omega
   omega
 ·show((mu _ _ _).blocks++[_]).length=_
  rw[e4,lA,h.bnum];rfl
theorem SR (h:¬i<m.bW.length):∀k,ya k m i=m
 |0=>rfl
 |k+1=>by unfold ya;rw[iN h]
theorem SS (h:i<m.bW.length) (k:Nat):ya (k+1) m i=ya k (DJ m (ir m.bW i)) (i+1):=by
 rw[ya,iP h]
theorem rV.small (h:rV m i):By m.blocks:=by
 have h1:=h.num
 refine⟨by rw[h.bnum];omega,λj hj=>(h.xH _ ?_).1⟩
 unfold bB
 rw[gG,gE hj];exact List.getElem_mem hj
theorem rV.labels (h:rV m i):∀b,b∈m.blocks->b.aP.length<=10:=λb hb=>(h.xH b hb).2
theorem Ar (h:aj):(iz h=true∧gQ h=false∧h≠cC∧h≠gM∧h≠il∧eX h=(1,3))∨(iz h=false∧gQ h=false∧h=cC∧eX h=(1,4))∨
  (iz h=false∧gQ h=false∧h=gM∧eX h=(2,4))∨(iz h=false∧gQ h=false∧h=il∧eX h=(5,6))∨(iz h=false∧gQ h=true∧h≠cC∧h≠gM∧h≠il∧eX h=(1,2))∨
  (iz h=false∧gQ h=false∧h≠cC∧h≠gM∧h≠il∧eX h=(0,0)):=by
 by_cases hb:iz h=true
 ·left
  have hk:eX h=(1,3):=by unfold eX;rw[iP hb]
  have aZ:=hb
  simp only[iz,oE,dE] at aZ
  rcases aZ with(((e|e)|e)|e)|e<;>subst e<;>refine⟨rfl,rfl,by decide,by decide,by decide,hk⟩
 ·have gV:iz h=false:=by simpa using hb
  right
  by_cases h1:h=cC
  ·left;exact⟨gV,by rw[h1];rfl,h1,by rw[h1];rfl⟩
  ·right
   by_cases h2:h=gM
   ·left;exact⟨gV,by rw[h2];rfl,h2,by rw[h2];rfl⟩
   ·right
    by_cases h3:h=il
    ·left;exact⟨gV,by rw[h3];rfl,h3,by rw[h3];rfl⟩
    ·right
     by_cases h4:gQ h=true
     ·left;exact⟨gV,h4,h1,h2,h3,by unfold eX;rw[iN hb,iN h1,iN h2,iN h3,iP h4]⟩
     ·right;exact⟨gV,by simpa using h4,h1,h2,h3,by unfold eX;rw[iN hb,iN h1,iN h2,iN h3,iN h4]⟩
theorem IC:eX cC=(1,4)∧eX gM=(2,4)∧eX il=(5,6)∧gQ cC=false∧gQ gM=false∧gQ il=false∧iz cC=false∧iz gM=false∧iz il=false:=⟨rfl,rfl,rfl,rfl,rfl,rfl,rfl,rfl,rfl⟩
def DM (ps:List aA):Bool:=(decide ((eX (nth ps 0).az).1<=1)||eO (nth ps 1).az)&&
 (decide ((eX (nth ps 0).az).1≠5)||(eO (nth ps 2).az&&decide ((nth ps 1).az≠(nth ps 2).az)&&kr (nth ps 3)&&kr (nth ps 4)))
theorem acW (ps:List aA):nQ ps=(decide ((eX (nth ps 0).az).1≠0)&&decide (ps.length=(eX (nth ps 0).az).2)&&DM ps&&(ps.drop (eX (nth ps 0).az).1).all dS):=by
 unfold DM
 match ps with
 |[]=>simp[nQ,nth,aA.az,eX,iz,gQ]
 |[h]=>rcases Ar h.az with⟨h1,h2,h3,h4,h5,hk⟩|⟨h1,h2,h3,hk⟩|⟨h1,h2,h3,hk⟩|⟨h1,h2,h3,hk⟩|⟨h1,h2,h3,h4,h5,hk⟩|⟨h1,h2,h3,h4,h5,hk⟩<;>simp[nQ,nth,hk]
 |[h,a]=>rcases Ar h.az with⟨h1,h2,h3,h4,h5,hk⟩|⟨h1,h2,h3,hk⟩|⟨h1,h2,h3,hk⟩|⟨h1,h2,h3,hk⟩|⟨h1,h2,h3,h4,h5,hk⟩|⟨h1,h2,h3,h4,h5,hk⟩<;>simp[nQ,nth,hk,h1,h2,h3,IC]
 |[h,a,b]=>rcases Ar h.az with⟨h1,h2,h3,h4,h5,hk⟩|⟨h1,h2,h3,hk⟩|⟨h1,h2,h3,hk⟩|⟨h1,h2,h3,hk⟩|⟨h1,h2,h3,h4,h5,hk⟩|⟨h1,h2,h3,h4,h5,hk⟩<;>simp[nQ,nth,hk,h1,h2,h3,IC]
 |[h,a,b,c]=>rcases Ar h.az with⟨h1,h2,h3,h4,h5,hk⟩|⟨h1,h2,h3,hk⟩|⟨h1,h2,h3,hk⟩|⟨h1,h2,h3,hk⟩|⟨h1,h2,h3,h4,h5,hk⟩|⟨h1,h2,h3,h4,h5,hk⟩<;>simp[nQ,nth,hk,h1,h2,h3,IC]<;>try simp[*]
 |[h,a,b,c,d]=>rcases Ar h.az with⟨h1,h2,h3,h4,h5,hk⟩|⟨h1,h2,h3,hk⟩|⟨h1,h2,h3,hk⟩|⟨h1,h2,h3,hk⟩|⟨h1,h2,h3,h4,h5,hk⟩|⟨h1,h2,h3,h4,h5,hk⟩<;>simp[nQ,nth,hk]
 |[h,a,b,c,d,e]=>rcases Ar h.az with⟨h1,h2,h3,h4,h5,hk⟩|⟨h1,h2,h3,hk⟩|⟨h1,h2,h3,hk⟩|⟨h1,h2,h3,hk⟩|⟨h1,h2,h3,h4,h5,hk⟩|⟨h1,h2,h3,h4,h5,hk⟩<;>simp[nQ,nth,hk,h3,IC]<;>try simp[*,Bool.and_assoc]
 |h::a::b::c::d::e::f::r=>rcases Ar h.az with⟨h1,h2,h3,h4,h5,hk⟩|⟨h1,h2,h3,hk⟩|⟨h1,h2,h3,hk⟩|⟨h1,h2,h3,hk⟩|⟨h1,h2,h3,h4,h5,hk⟩|⟨h1,h2,h3,h4,h5,hk⟩<;>simp[nQ,nth,hk]<;>omega
theorem SU (t:aA):dS t=if t.az≠[] then ql t.az else nQ t.au:=by cases t with|mk a ps=>rw[dS];rfl
theorem acX {t:aA} (ha:t.az=[]):dS t=(decide ((eX (nth t.au 0).az).1≠0)&&decide (t.au.length=(eX (nth t.au 0).az).2)&&DM t.au&&(t.au.drop (eX (nth t.au 0).az).1).all dS):=by
 rw[SU,iN (by simp[ha]),acW]
theorem SV (ps:List aA):sB ps=(decide (ps.length=3)&&(decide ((nth ps 0).az=[62])||decide ((nth ps 0).az=[42]))&&(oY (nth ps 1)&&oY (nth ps 2))):=by
 match ps with
 |[]=>simp[sB]
 |[h]=>simp[sB]
 |[h,a]=>simp[sB]
 |[h,a,b]=>simp[sB,nth]
 |h::a::b::c::r=>simp[sB]
/-! ### Texts -/
def wD (s:aj):Bool:=match ba s with
 |some t=>kr t
 |none=>false
theorem SW {s:aj}:wD s=true↔∃T:Ty,T.n<=16∧s=T.text:=by
 unfold wD
 constructor
 ·intro h
  cases hp:ba s with
  |none=>rw[hp] at h;cases h
  |some t=>
   rw[hp] at h
   obtain⟨u,rfl,hu⟩:=(xL (tt hp)).1 h
   exact⟨u,hu,((BC hp).2.2.1).symm⟩
 ·rintro⟨T,hT,rfl⟩
  rw[Ty.ba om]
  exact(xL T.oC.wf).2 ⟨T,rfl,hT⟩
theorem SX:wD T.text=decide (T.n<=16):=by
 by_cases h:T.n<=16
 ·rw[dT h];exact SW.2 ⟨T,h,rfl⟩
 ·rw[dF h]
  cases hs:wD T.text with
  |false=>rfl
  |true=>obtain⟨U,hU,e⟩:=SW.1 hs;rw[Ty.inj e] at h;exact absurd hU h
def BV (s sg:aj):Option (Ty×Ty)->Prop
 |some (a,b)=>∃f,sg=kq f∧s=(Ty.op f a b).text∧(Ty.op f a b).n<=16
 |none=>∀f a b,sg=kq f->s=(Ty.op f a b).text->¬(Ty.op f a b).n<=16
def ID (t:aA):Bool:=dS t&&decide (fN t<=120)
def mv (s:aj):Bool:=match ba s with
 |some t=>ID t
 |none=>false
theorem acY {t:aA} (hw:WF t):ID t=true↔∃e:Ex,t=e.av∧e.ok∧e.n<=120:=by
 unfold ID
 rw[aE,dE,ab1 hw]
 constructor
 ·rintro⟨⟨e,rfl,h⟩,hn⟩;exact⟨e,rfl,h,by rw[Ex.fN h] at hn;exact hn⟩
 ·rintro⟨e,rfl,h,hn⟩;exact⟨⟨e,rfl,h⟩,by rw[Ex.fN h];exact hn⟩
theorem wE {s:aj}:mv s=true↔∃e:Ex,ba s=some e.av∧e.ok∧e.n<=120:=by
 unfold mv
 cases hp:ba s with
 |none=>simp
 |some t=>simp only[Option.some.injEq];exact acY (tt hp)
theorem SY {ps:List aA} (i:Nat):jO (ps.take i)<=jO ps:=by
 conv=>rhs;rw[<-List.take_append_drop i ps,Lo]
 omega
theorem acZ (t:aA):jO t.au<=t.size:=by
 cases t with
 |mk a ps=>have:=Lq ps;simp only[aA.size,aA.au];omega
theorem SZ:∀(m:Nat) (t:aA),t.size<=m->t.size<=10000000->WF t->∀(v:Value) (L:List Nat) (w:World),bS L w v t->
  cj Tryz.prog 107 [v] w λr w'=>r= .int .i64 (fN t:Int)∧ak [] w w':=by
 intro m
 induction m with
 |zero=>intro t h;have:=xC t;omega
 |succ m ih=>
  intro t hm mU dx v L w hv
  obtain⟨a,n,c,rfl,hn,bc⟩:=dM hv
  subst hn
  have pE:=xB t
  have hhs:=acZ t
  have hK:=ak.refl [] w
  refine cV [.tmp 2] 24 Tryz.func107 rfl XG rfl rfl ?_
  refine zr<|fE rfl ?_
  intro w1 aK aT dY
  have hK:=hK.ext aK
  refine zA<|ag<|aQ<|zr<|zf dz rfl<|zl ck rfl (aT.at rfl)<|jG rfl rfl rfl rfl<|ag<|zc rfl (λh1=>?_) (λh1=>?_)
  have hq:fN t=1:=by rw[Lp,iP h1]
  refine zr<|zA<|ag<|aV ?_
  exact⟨_,rfl,by rw[hq];rfl,hK⟩
  have hq:fN t=jO t.au:=by rw[Lp,iN h1]
  refine bz<|zr<|zA<|ag<|aQ<|zr<|zA<|ag<|cQ ?_
  refine fW (λk:Nat=>[(1,.pointer (some ⟨w.heap.size,0,none⟩)),(3,.int .i64 ((jO (t.au.take k):Nat):Int)),(4,.int .i64 (k:Int))]) (λk w'=>ak [] w w'∧aY w' w.heap.size [str t.az,.slice a t.au.length c].toArray 66∧k<=t.au.length) (λk=>t.au.length-k) (0) (⟨rfl,rfl,rfl⟩) (⟨hK,aT,om⟩) ?_
  intro gg w2 e2 hI
  obtain⟨hK,aT,hk⟩:=hI
  refine aQ<|zr<|zm<|zf cL rfl<|zl cI rfl (aT.at rfl)<|dX cv rfl<|fy rfl rfl rfl<|ag<|zc rfl (λh2=>?_) (λh2=>?_)
  have ga:=iI (ps:=t.au) (i:=gg) om
  obtain⟨b1,fY,pa,pn,pc,rfl,kR,fP,ix⟩:=j7 bc ga
  subst fP
  have BE:=dx.nth (i:=gg) om
  have ou:=lY (t:=t) (i:=gg) om
  have bg:=Rq ga
  have hle:=SY (ps:=t.au) (gg+1)
  refine bz<|aQ<|cQ<|db<|zm<|zf cL rfl<|zl cI rfl (aT.at rfl)<|zm<|zi cv aH rfl rfl om<|zL bT aH rfl (kR.ext hK) rfl<|aC (ih (nth t.au gg) om om BE _ L w2 ((mO ix).ext hK)) ?_
  rintro v3 w3 ⟨eh,aJ⟩
  have fZ:=aJ.size
  have hK:=hK.ext aJ;have aT:=aT.ext aJ
  obtain rfl:=eh
  refine eF rfl rfl rfl (wrap_i64 _ om om)<|zA<|ag<|db<|zm<|eF rfl rfl rfl (wrap_i64 _ om om)<|zA<|ag ?_
  exact⟨gg+1,⟨rfl,congrArg (Value.int .i64) om,rfl⟩,⟨hK,aT,om⟩,om⟩
  have gH:gg=t.au.length:=by omega
  subst gH
  refine gB<|gC rfl<|zr<|zm<|zA<|ag<|aV ?_
  exact⟨_,rfl,by rw[hq,List.take_length];rfl,hK⟩
theorem ac0:∀(m:Nat) (t:aA),t.size<=m->t.size<=10000000->WF t->∀(v:Value) (L:List Nat) (w:World),bS L w v t->
  cj Tryz.prog 181 [v] w λr w'=>r= .bool (oY t)∧ak [] w w':=by
 intro m
 induction m with
 |zero=>intro t h;have:=xC t;omega
 |succ m ih=>
  intro t hm mU dx v L w hv
  obtain⟨a,n,c,rfl,hn,bc⟩:=dM hv
  subst hn
  have hK:=ak.refl [] w
  have pE:=xB t
  refine cV [.tmp 2] 41 Tryz.func181 rfl YC rfl rfl ?_
  refine zr<|fE rfl ?_
  intro w1 aK aT dY
  have hK:=hK.ext aK;have bc:=bc.ext aK
  refine zA<|ag<|aQ<|zr<|zf dz rfl<|zl ck rfl (aT.at rfl)<|jG rfl rfl rfl rfl<|ag<|zc rfl (λh1=>?_) (λh1=>?_)
  have hq:oY t=decide (t.az=[105]):=by rw[Rr,iP h1]
  refine zr<|zf dz rfl<|zl ck rfl (aT.at rfl)<|cW rfl rfl<|zA<|ag<|aV ?_
  exact⟨_,rfl,by rw[hq];rfl,hK⟩
  have ha:t.az=[]:=Classical.not_not.1 h1
  have kQ:=dx.pos ha
  have hq:oY t=sB t.au:=by rw[Rr,iN (λh=>h ha)]
  obtain⟨b,off,pa,pn,pc,rfl,ey,fP,ix⟩:=j7 bc (iI kQ)
  refine bz<|aQ<|zr<|zf cL rfl<|zl cI rfl (aT.at rfl)<|dX cv rfl<|uq rfl rfl rfl rfl rfl<|zm ?_
  apply fz 15 13 28 [13,14,15,16,17,18,19,20,21,22,23,24,25,26,27,28] (λw'=>w1=w') rfl
  intro h2
  replace h2:=bw h2
  refine zs<|zs<|zs<|zs<|zs<|zs<|zs<|zs<|zs<|zs<|zs<|zs<|zs<|zs<|zp rfl<|ag ?_
  exact mg rfl rfl
  intro h2
  replace h2:=bw h2
  refine zf cL rfl<|zl cI rfl (aT.at rfl)<|zi (i:=0) cv aH rfl rfl om<|zf dz rfl<|zl ck rfl (ey 0 _ rfl)<|jG rfl rfl rfl rfl<|zm ?_
  apply fX 7 20 27 [20,21,22,23,24,25,26,27] (λw'=>w1=w') rfl
  intro h3
  replace h3:=bw h3
  refine zf cL rfl<|zl cI rfl (aT.at rfl)<|zi (i:=0) cv aH rfl rfl om<|zf dz rfl<|zl ck rfl (ey 0 _ rfl)<|jG rfl rfl rfl rfl<|zp rfl<|ag ?_
  exact mg rfl rfl
  intro h3
  replace h3:=bw h3
  refine zs<|zs<|zs<|zs<|zs<|zs<|zp rfl<|ag ?_
  exact mg rfl rfl
  rintro xx _ rfl
  refine zp rfl<|ag ?_
  exact mg rfl rfl
  rintro xx _ rfl
  refine ag<|zc rfl (λh4=>?_) (λh4=>?_)
  have hz:sB t.au=false:=by rw[SV];simp only[oE,aE,dE] at h4;rcases h4 with h|⟨h1,h2⟩;(·rw[dF om];rfl);(·rw[dF h1,dF h2];simp)
  refine zr<|zA<|ag<|aV ?_
  exact⟨_,rfl,by rw[hq,hz];rfl,hK⟩
  simp only[Bool.or_eq_false_iff,Bool.and_eq_false_iff,decide_eq_false_iff_not,Classical.not_not] at h4
  obtain⟨h31,S0⟩:=h4
  have h3:t.au.length=3:=om
  have oI:sB t.au=(oY (nth t.au 1)&&oY (nth t.au 2)):=by rw[SV,dT h3];rcases S0 with h|h<;>rw[h]<;>rfl
  obtain⟨b1,fY,gX,qQ,gY,e1,bC,ss,oV⟩:=j7 bc (iI (i:=1) om)
  cases e1
  subst ss
  obtain⟨b2,ni,jb,As,jc,e2,bX,IE,Mt⟩:=j7 bc (iI (i:=2) om)
  cases e2
  subst IE
  have dQ:=lY (t:=t) (i:=1) om
  have eE:=lY (t:=t) (i:=2) om
  have dd:=mO oV
  have et:=mO Mt
  refine bz<|zr<|zf cL rfl<|zl cI rfl (aT.at rfl)<|zi (i:=1) cv aH rfl rfl om<|zL bT aH rfl bC rfl<|aC (ih (nth t.au 1) om om (dx.nth om) _ L w1 dd) ?_
  rintro v2 w2 ⟨dA,aq⟩
  have eE:=aq.size
  have hK:=hK.ext aq;have aT:=aT.ext aq;have bX:=bX.ext aq;have et:=et.ext aq
  obtain rfl:=dA
  refine zm ?_
  apply fX 6 34 40 [34,35,36,37,38,39,40] (ak [] w2) rfl
  intro h5
  replace h5:=bw h5
  have FN:=ak.refl [] w2
  refine zf cL rfl<|zl cI rfl (aT.at rfl)<|zi (i:=2) cv aH rfl rfl om<|zL bT aH rfl bX rfl<|aC (ih (nth t.au 2) om om (dx.nth om) _ L w2 et) ?_
  rintro v3 w3 ⟨eh,aJ⟩
  have fZ:=aJ.size
  have FN:=FN.ext aJ
  obtain rfl:=eh
  refine zp rfl<|ag ?_
  exact mg rfl FN
  intro h5
  replace h5:=bw h5
  have FN:=ak.refl [] w2
  refine zs<|zs<|zs<|zs<|zs<|zp rfl<|ag ?_
  exact mg rfl FN
  intro xx w3 aJ
  have hK:=hK.ext aJ
  refine zA<|ag<|aV ?_
  exact⟨_,rfl,by rw[hq,oI];rfl,hK⟩
theorem Au (t:aA) (mU:t.size<=10000000) (dx:WF t) (v:Value) (L:List Nat) (w:World) (hv:bS L w v t):
  cj Tryz.prog 141 [v] w λr w'=>r= .bool (kr t)∧ak [] w w':=by
 have dI:=hv
 obtain⟨a,n,c,rfl,hn,bc⟩:=dM hv
 have hK:=ak.refl [] w
 refine cV [.tmp 2] 10 Tryz.func141 rfl Ya rfl rfl ?_
 refine zr<|fE rfl ?_
 intro w1 aK aT dY
 have hK:=hK.ext aK;have dI:=dI.ext aK
 refine zA<|ag<|zr<|zL bT aH rfl aT.all rfl<|aC (ac0 t.size t (lR _) mU dx _ L w1 dI) ?_
 rintro v2 w2 ⟨dA,aq⟩
 have eE:=aq.size
 have hK:=hK.ext aq;have dI:=dI.ext aq;have aT:=aT.ext aq
 obtain rfl:=dA
 refine zm ?_
 apply fX 4 5 9 [5,6,7,8,9] (ak [] w2) rfl
 intro h1
 replace h1:=bw h1
 have uT:=ak.refl [] w2
 refine zL bT aH rfl aT.all rfl<|aC (SZ t.size t (lR _) mU dx _ L w2 dI) ?_
 rintro v3 w3 ⟨eh,aJ⟩
 have fZ:=aJ.size
 have uT:=uT.ext aJ
 obtain rfl:=eh
 refine qK rfl rfl rfl rfl rfl<|zp rfl<|ag ?_
 exact mg rfl uT
 intro h1
 replace h1:=bw h1
 have uT:=ak.refl [] w2
 refine zs<|zs<|zs<|zp rfl<|ag ?_
 exact mg rfl uT
 intro xx w3 aJ
 have hK:=hK.ext aJ
 refine zA<|ag<|aV ?_
 exact⟨_,rfl,congrArg Value.bool (show _=kr t from by unfold kr;congr 1;exact decide_eq_decide.2 om),hK⟩
theorem ac1 {s:aj} {t:aA} (h:Dq s t):((ba s).isSome&&kr t)=wD s:=by
 unfold wD
 cases hp:ba s with
 |none=>rfl
 |some u=>rw[h.1 u hp];rfl
theorem Mu (s:aj) (w:World):cj Tryz.prog 187 [str s] w λr w'=>r= .bool (wD s)∧ak [] w w':=by
 have hK:=ak.refl [] w
 refine cV [.tmp 2] 15 Tryz.func187 rfl YI rfl rfl ?_
 refine zr<|zA<|ag<|zr<|zm<|aC (HW s [] w sm) ?_
 rintro v1 w1 ⟨fM,aK⟩
 have dQ:=aK.size
 have hK:=hK.ext aK
 obtain⟨t,tv,rfl,ht,hp⟩:=fM
 obtain⟨pa,pn,pc,rfl,fP,bc⟩:=dM ht
 refine zm<|zx (i:=0) rfl rfl<|zx (i:=1) rfl rfl<|eA aH rfl rfl rfl ?_
 intro w2 aq bR eM
 have hK:=hK.grow;have hK:=hK.ext aq;have ht:=ht.grow;have ht:=ht.ext aq
 refine du aH rfl rfl rfl bR rfl ?_
 intro w3 aJ bR iH
 have hK:=hK.aL aJ sx;have ht:=ht.aL aJ sx
 refine zA<|ag<|zr<|zm<|zm ?_
 apply fX 3 11 14 [11,12,13,14] (ak [] w3) rfl
 intro h1
 replace h1:=bw h1
 have l0:=ak.refl [] w3
 obtain⟨u,hu⟩:=Option.isSome_iff_exists.1 h1
 have e:=hp.1 u hu
 subst e
 refine zL bT aH rfl bR.all rfl<|aC (Au t (by have:=Bt hu;omega) (tt hu) _ _ w3 ht) ?_
 rintro v4 w4 ⟨eH,aF⟩
 have gI:=aF.size
 have l0:=l0.ext aF
 obtain rfl:=eH
 refine zp rfl<|ag ?_
 exact mg rfl l0
 intro h1
 replace h1:=bw h1
 have l0:=ak.refl [] w3
 refine zs<|zs<|zp rfl<|ag ?_
 exact mg rfl l0
 intro xx w4 aF
 have hK:=hK.ext aF
 refine zA<|ag<|aV ?_
 exact⟨_,rfl,congrArg Value.bool (ac1 hp),hK⟩
def sO:Option (Ty×Ty)->aj
 |some p=>p.1.text
 |none=>[]
def yb:Option (Ty×Ty)->aj
 |some p=>p.2.text
 |none=>[]
def Mv (o:Option (Ty×Ty)):Value:=.tuple #[str (sO o),str (yb o),.bool o.isSome]
theorem ac2 {s sg:aj} {t:aA} (hp:Dq s t) (h:(((!(ba s).isSome||!kr t)||decide (t.az≠[]))||decide ((nth t.au 0).az≠sg))=true):BV s sg none:=by
 intro f a b e1 e2 hn
 have bc:ba s=some (Ty.op f a b).av:=by rw[e2];exact Ty.ba om
 have e:=hp.1 _ bc
 subst e
 have ht:kr (Ty.op f a b).av=true:=(xL (tt bc)).2 ⟨_,rfl,hn⟩
 rw[bc,ht] at h
 simp[Ty.av,aA.az,aA.au,nth,bZ,e1] at h
theorem ac3 {s sg:aj} {t:aA} (hp:Dq s t) (h:(((!(ba s).isSome||!kr t)||decide (t.az≠[]))||decide ((nth t.au 0).az≠sg))=false):∃f A B,t=(Ty.op f A B).av∧(Ty.op f A B).n<=16∧BV s sg (some (A,B)):=by
 simp only[Bool.or_eq_false_iff,Bool.not_eq_false',decide_eq_false_iff_not,Classical.not_not] at h
 obtain⟨⟨⟨h1,h2⟩,h3⟩,h4⟩:=h
 obtain⟨u,hu⟩:=Option.isSome_iff_exists.1 h1
 have e:=hp.1 u hu
 subst e
 obtain⟨T,rfl,hn⟩:=(xL (tt hu)).1 h2
 cases T with
 |i=>simp[Ty.av,bZ,aA.az] at h3
 |op f A B=>exact⟨f,A,B,rfl,hn,f,by rw[<-h4];rfl,(BC hu).2.2.1.symm,hn⟩
theorem S1 (s sg:aj) (w:World):cj Tryz.prog 189 [str s,str sg] w λr w'=>(∃o,BV s sg o∧r=Mv o)∧ak [] w w':=by
 have hK:=ak.refl [] w
 refine cV [.tmp 4,.tmp 5,.tmp 6] 45 Tryz.func189 rfl YJ rfl rfl ?_
 refine zr<|zA<|zA<|zA<|ag<|zr<|zm<|aC (HW s [] w sm) ?_
 rintro v1 w1 ⟨fM,aK⟩
 have dQ:=aK.size
 have hK:=hK.ext aK
 obtain⟨t,tv,rfl,ht,hp⟩:=fM
 obtain⟨pa,pn,pc,rfl,fP,bc⟩:=dM ht
 subst fP
 refine zm<|zx (i:=0) rfl rfl<|zx (i:=1) rfl rfl<|eA aH rfl rfl rfl ?_
 intro w2 aq cG eM
 have hK:=hK.grow;have hK:=hK.ext aq;have ht:=ht.grow;have ht:=ht.ext aq;have bc:=bc.grow;have bc:=bc.ext aq
 refine du aH rfl rfl rfl cG rfl ?_
 intro w3 aJ cG iH
 have hK:=hK.aL aJ sx;have ht:=ht.aL aJ sx;have bc:=bc.aL aJ sx
 refine zA<|ag<|aQ<|zr<|zm<|eJ rfl<|zm ?_
 apply fz 4 16 20 [16,17,18,19,20] (ak [] w3) rfl
 intro h1
 replace h1:=bw h1
 have FO:=ak.refl [] w3
 refine zs<|zs<|zs<|zp rfl<|ag ?_
 exact mg rfl FO
 intro h1
 replace h1:=bw h1
 have FO:=ak.refl [] w3
 obtain⟨u,hu⟩:=Option.isSome_iff_exists.1 h1
 have e:=hp.1 u hu
 subst e
 refine zL bT aH rfl cG.all rfl<|aC (Au t (by have:=Bt hu;omega) (tt hu) _ _ w3 ht) ?_
 rintro v4 w4 ⟨eH,aF⟩
 have gI:=aF.size
 have FO:=FO.ext aF
 obtain rfl:=eH
 refine eJ rfl<|zp rfl<|ag ?_
 exact mg rfl FO
 intro xx w5 aU
 have hK:=hK.ext aU;have bc:=bc.ext aU;have cG:=cG.ext aU
 refine zm ?_
 apply fz 4 21 25 [21,22,23,24,25] (λw'=>w5=w') rfl
 intro h2
 replace h2:=bw h2
 refine zs<|zs<|zs<|zp rfl<|ag ?_
 exact mg rfl rfl
 intro h2
 replace h2:=bw h2
 refine zf dz rfl<|zl ck rfl (cG.at rfl)<|jG rfl rfl rfl rfl<|zp rfl<|ag ?_
 exact mg rfl rfl
 rintro xx _ rfl
 refine zm ?_
 apply fz 8 26 34 [26,27,28,29,30,31,32,33,34] (λw'=>w5=w') rfl
 intro h3
 replace h3:=bw h3
 refine zs<|zs<|zs<|zs<|zs<|zs<|zs<|zp rfl<|ag ?_
 exact mg rfl rfl
 intro h3
 replace h3:=bw h3
 simp only[Bool.or_eq_false_iff,Bool.not_eq_false',decide_eq_false_iff_not,Classical.not_not] at h3
 obtain⟨⟨q1,q2⟩,q3⟩:=h3
 obtain⟨u,hu⟩:=Option.isSome_iff_exists.1 q1
 have e:=hp.1 u hu
 subst e
 have kQ:=(tt hu).pos q3
 obtain⟨b0,Av,qa,qn,qc,e0,ey,_,_⟩:=j7 bc (iI kQ)
 subst e0
 refine zf cL rfl<|zl cI rfl (cG.at rfl)<|zi (i:=0) cv aH rfl rfl om<|zf dz rfl<|zl ck rfl (ey 0 _ rfl)<|zm<|jG rfl rfl rfl rfl<|zp rfl<|ag ?_
 exact mg rfl rfl
 rintro xx _ rfl
 refine ag<|zc rfl (λh4=>?_) (λh4=>?_)
 refine zr<|zA<|zA<|zA<|ag<|aV ?_
 exact⟨_,rfl,⟨none,ac2 hp h4,rfl⟩,hK⟩
 obtain⟨f,A,B,e,hn,hT⟩:=ac3 hp h4
 subst e
 have Ru:(Ty.op f A B).n=1+A.n+B.n:=rfl
 have hA:=Ty.size A
 have hB:=Ty.size B
 have Mw:=Ty.len A
 have Mx:=Ty.len B
 have Dj:(Ty.op f A B).av.au.length=3:=rfl
 obtain⟨b1,fY,gX,qQ,gY,e1,bC,ss,oV⟩:=j7 bc (iI (i:=1) om)
 subst e1
 subst ss
 obtain⟨b2,ni,jb,As,jc,e2,bX,IE,Mt⟩:=j7 bc (iI (i:=2) om)
 cases e2
 subst IE
 have dd:bS _ w5 _ A.av:=mO oV
 have et:bS _ w5 _ B.av:=mO Mt
 refine bz<|aQ ?_
 apply mq ei 13 (rA 35 10++[4,5,6]) (rA 35 10++[4,5,6]) [[],[0],[1],[2],[3],[],[5],[6],[7],[8],[4],[9],[]] [It.v _,It.v _,It.v _,It.v _,It.v _,It.v _,It.v _,It.v _,It.v _,It.v _,It.v _,It.v _,It.v _] de rfl
 intro wd aB
 refine vc (λ_ _ _=>zf cL rfl pv) ?_
 refine vk aB (λx w6 bF=>?_) ?_
 have cG:=cG.ext bF
 refine zl cI rfl (cG.at rfl) ?_
 exact pv
 refine vk aB (λx w6 bF=>?_) ?_
 refine zi (i:=1) cv aH rfl rfl ((show 1<3 from om)) ?_
 exact pv
 refine vk aB (λx w6 bF=>?_) ?_
 have bC:=bC.ext bF
 refine zL bT aH rfl bC rfl ?_
 exact pv
 refine vk aB (λx w6 bF=>?_) ?_
 have dd:=dd.ext bF
 refine aC (tx A.av.size A.av (lR _) A.oC.wf om (show A.text.length<=100000000 from om) _ _ w6 dd) ?_
 rintro v7 w7 ⟨iT,cw⟩
 have pb:=cw.size
 obtain rfl:=iT
 exact pk cw
 refine vc (λ_ _ _=>zf cL rfl pv) ?_
 refine vk aB (λx w6 bF=>?_) ?_
 have cG:=cG.ext bF
 refine zl cI rfl (cG.at rfl) ?_
 exact pv
 refine vk aB (λx w6 bF=>?_) ?_
 refine zi (i:=2) cv aH rfl rfl ((show 2<3 from om)) ?_
 exact pv
 refine vk aB (λx w6 bF=>?_) ?_
 have bX:=bX.ext bF
 refine zL bT aH rfl bX rfl ?_
 exact pv
 refine vk aB (λx w6 bF=>?_) ?_
 have et:=et.ext bF
 refine aC (tx B.av.size B.av (lR _) B.oC.wf om (show B.text.length<=100000000 from om) _ _ w6 et) ?_
 rintro v7 w7 ⟨iT,cw⟩
 have pb:=cw.size
 obtain rfl:=iT
 exact pk cw
 refine vc (λ_ _ _=>zA pv) ?_
 refine vc (λ_ _ _=>zA pv) ?_
 refine vc (λ_ _ _=>zA pv) ?_
 exact trivial
 intro x pQ wF
 have hK:=hK.ext wF
 change OW _ _ _ _ [] (aM (aN _ x _) (zZ 35 [_,_,_,_,_,_,_,_,_,_]++[(4,_),(5,_),(6,_)])) _
 refine ag<|aV ?_
 exact⟨_,rfl,⟨some (A,B),hT,rfl⟩,hK⟩
theorem S2 (s:aj) (w:World):cj Tryz.prog 158 [str s] w λr w'=>(∃o,BV s [62] o∧r=Mv o)∧ak [] w w':=by
 have hK:=ak.refl [] w
 refine cV [.tmp 2,.tmp 3,.tmp 4] 10 Tryz.func158 rfl Yq rfl rfl ?_
 refine zr<|zA<|zA<|zA<|ag<|zr<|zm<|aC (S1 s [62] w) ?_
 rintro v1 w1 ⟨fM,aK⟩
 have dQ:=aK.size
 have hK:=hK.ext aK
 obtain⟨o,ho,rfl⟩:=fM
 refine zx (i:=0) rfl rfl<|zx (i:=1) rfl rfl<|zx (i:=2) rfl rfl<|zA<|zA<|zA<|ag<|aV ?_
 exact⟨_,rfl,⟨o,ho,rfl⟩,hK⟩
theorem S3 (s:aj) (w:World):cj Tryz.prog 157 [str s] w λr w'=>(∃o,BV s [42] o∧r=Mv o)∧ak [] w w':=by
 have hK:=ak.refl [] w
 refine cV [.tmp 2,.tmp 3,.tmp 4] 10 Tryz.func157 rfl Yp rfl rfl ?_
 refine zr<|zA<|zA<|zA<|ag<|zr<|zm<|aC (S1 s [42] w) ?_
 rintro v1 w1 ⟨fM,aK⟩
 have dQ:=aK.size
 have hK:=hK.ext aK
 obtain⟨o,ho,rfl⟩:=fM
 refine zx (i:=0) rfl rfl<|zx (i:=1) rfl rfl<|zx (i:=2) rfl rfl<|zA<|zA<|zA<|ag<|aV ?_
 exact⟨_,rfl,⟨o,ho,rfl⟩,hK⟩
theorem S4 (hT:T.n<=16) (f:Bool) {o:Option (Ty×Ty)} (h:BV T.text (kq f) o):o=match T with| .op g a b=>if g=f then some (a,b) else none| .i=>none:=by
 cases o with
 |some p=>
  obtain⟨g,h1,h2,h3⟩:=h
  have e:=Ty.inj h2
  subst e
  have:f=g:=by cases f<;>cases g<;>first|rfl|(simp[kq] at h1)
  subst this
  simp
 |none=>
  cases T with
  |i=>rfl
  |op g a b=>
   have eK:¬g=f:=λe=>h f a b rfl (by rw[e]) (by rw[<-e];exact hT)
   simp[eK]
theorem S5 (h:T.n<=16):wD T.text=true:=by rw[SX];exact dT h
theorem S6 (f:Bool) (A B:Ty) (hA:A.n<=16) (hB:B.n<=16) (w:World):
  cj Tryz.prog 154 [.bool f,str A.text,str B.text] w λr w'=>r= .tuple #[str (if 1+A.n+B.n<=16 then(Ty.op f A B).text else[]),.bool (decide (1+A.n+B.n<=16))]∧ak [] w w':=by
 have hK:=ak.refl [] w
 have Mw:=Ty.len A
 have Mx:=Ty.len B
 have S0:=Ln f
 have pR:(((((([40]++kq f)++[32])++A.text)++[32])++B.text)++[41])=(Ty.op f A B).text:=by rw[Ty.HX];simp
 have hy:wD (Ty.op f A B).text=decide (1+A.n+B.n<=16):=SX
 refine cV [.tmp 6,.tmp 7] 34 Tryz.func154 rfl Yn rfl rfl ?_
 refine zr<|zA<|zA<|ag<|zr<|zA<|ag<|aQ<|zr<|zm<|ag ?_
 refine jg (λ_:Unit=>[(0,.bool f),(1,str A.text),(2,str B.text),(8,str (kq f))]) (λ_ w'=>w'=w) ?_ ?_
 refine zc rfl (λh1=>?_) (λh1=>?_)
 have hf:=h1
 refine db<|zA<|ag ?_
 exact⟨(),⟨rfl,rfl,rfl,by rw[hf];rfl⟩,rfl⟩
 have hf:=h1
 refine bz ?_
 exact⟨(),⟨rfl,rfl,rfl,by rw[hf];rfl⟩,rfl⟩
 intro gu w1 e1 hI
 subst hI
 refine zr<|zm<|cm rfl rfl so<|cm rfl rfl so<|zm<|cm rfl rfl so<|cm rfl rfl so<|zm<|cm rfl rfl so<|cm rfl rfl so<|zA<|ag<|aQ<|zr<|zm<|aC (Mu A.text w1) ?_
 rintro v2 w2 ⟨dA,aq⟩
 have eE:=aq.size
 have hK:=hK.ext aq
 obtain rfl:=dA.trans (congrArg Value.bool (S5 hA))
 refine eJ rfl<|zm<|EF (t:=23) (b:=false) rfl<|zm<|aC (Mu B.text w2) ?_
 rintro v3 w3 ⟨eh,aJ⟩
 have fZ:=aJ.size
 have hK:=hK.ext aJ
 obtain rfl:=eh.trans (congrArg Value.bool (S5 hB))
 refine eJ rfl<|zp rfl<|zm<|EF (t:=28) (b:=false) rfl<|zm<|aC (Mu _ w3) ?_
 rintro v4 w4 ⟨eH,aF⟩
 have gI:=aF.size
 have hK:=hK.ext aF
 obtain rfl:=eH.trans (congrArg Value.bool ((congrArg wD pR).trans hy))
 refine eJ rfl<|zp rfl<|ag<|zc rfl (λh2=>?_) (λh2=>?_)
 have hn:¬1+A.n+B.n<=16:=by simpa using h2
 refine zr<|zA<|zA<|ag<|aV ?_
 have hr:Value.tuple #[str (if 1+A.n+B.n<=16 then(Ty.op f A B).text else[]),.bool (decide (1+A.n+B.n<=16))]=Value.tuple #[str [],.bool false]:=by rw[iN hn,dF hn]
 exact⟨_,rfl,hr.symm,hK⟩
 have hn:1+A.n+B.n<=16:=by simpa using h2
 refine bz<|zr<|zm<|zA<|zA<|ag<|aV ?_
 have hr:Value.tuple #[str (if 1+A.n+B.n<=16 then(Ty.op f A B).text else[]),.bool (decide (1+A.n+B.n<=16))]=Value.tuple #[str (((((([40]++kq f)++[32])++A.text)++[32])++B.text)++[41]),.bool true]:=by rw[iP hn,dT hn,pR]
 exact⟨_,rfl,hr.symm,hK⟩
theorem S7 (c:UInt8):(decide ((c.toNat:Int)<97)||decide ((122:Int)<(c.toNat:Int)))=!(decide (97<=c)&&decide (c<=122)):=by
 have h1:decide (97<=c)=decide ((97:Int)<=c.toNat):=(E3 97 c).symm
 have h2:decide (c<=122)=decide ((c.toNat:Int)<=122):=decide_eq_decide.2 (by rw[UInt8.le_iff_toNat_le];have:(122:UInt8).toNat=122:=rfl;omega)
 rw[h1,h2,Bool.not_and,<-decide_not,<-decide_not]
 congr 1<;>exact decide_eq_decide.2 om
theorem ac4 {s:aj} (h1:1<=k) (hk:k<s.length) (h:ij (s.getD k 0)=false):(s.drop 1).all ij=false:=by
 rw[List.all_eq_false]
 refine⟨s.getD k 0,?_,by rw[h];simp⟩
 rw[List.mem_iff_getElem?]
 refine⟨k-1,?_⟩
 rw[List.getElem?_drop,show 1+(k-1)=k by omega]
 exact jI hk
theorem ac5 {s:aj} (h:∀k,1<=k->k<s.length->ij (s.getD k 0)=true):(s.drop 1).all ij=true:=by
 rw[List.all_eq_true]
 intro c hc
 obtain⟨i,hi⟩:=List.mem_iff_getElem?.1 hc
 rw[List.getElem?_drop] at hi
 have hl:=(List.getElem?_eq_some_iff.1 hi).1
 have:=h (1+i) om hl
 rw[jI hl] at hi
 cases hi
 exact this
theorem uV (s:aj) (w:World):cj Tryz.prog 139 [str s] w λv w'=>v= .bool (eO s)∧w=w':=by
 have hN:eO s=(((decide (1<=s.length)&&decide (s.length<=4))&&(decide (97<=s.getD 0 0)&&decide (s.getD 0 0<=122)))&&(s.drop 1).all ij):=rfl
 have hz:∀c:UInt8,(decide ((c.toNat:Int)<48)||decide ((57:Int)<(c.toNat:Int)))=!ij c:=by
  intro c
  cases hd:ij c with
  |true=>have:=(Bq c).1 hd;simp;omega
  |false=>rw[Bool.not_false,oE,dE,dE];apply Classical.byContradiction;intro hh;have:=(Bq c).2 om;rw[hd] at this;cases this
 refine cV [.tmp 2] 34 Tryz.func139 rfl X8 rfl rfl ?_
 refine zr<|zA<|ag<|aQ<|zr<|zm<|kL fc rfl rfl rfl<|aC (E0 _ _ _ _) ?_
 rintro _ _ ⟨rfl,rfl⟩
 refine eJ rfl<|zm ?_
 apply fz 4 8 12 [8,9,10,11,12] (λw'=>w=w') rfl
 intro h1
 replace h1:=bw h1
 refine zs<|zs<|zs<|zp rfl<|ag ?_
 exact mg rfl rfl
 intro h1
 replace h1:=bw h1
 have hl:1<=s.length∧s.length<=4:=(by simp at h1;omega)
 refine zm<|kC (i:=0) fc rfl rfl rfl rfl (jI om)<|fy rfl rfl rfl<|zp rfl<|ag ?_
 exact mg rfl rfl
 rintro xx _ rfl
 refine zm ?_
 apply fz 4 13 17 [13,14,15,16,17] (λw'=>w=w') rfl
 intro h2
 replace h2:=bw h2
 refine zs<|zs<|zs<|zp rfl<|ag ?_
 exact mg rfl rfl
 intro h2
 replace h2:=bw h2
 have hl:1<=s.length∧s.length<=4:=(by simp at h2;omega)
 refine zm<|kC (i:=0) fc rfl rfl rfl rfl (jI om)<|jx rfl rfl rfl rfl rfl<|zp rfl<|ag ?_
 exact mg rfl rfl
 rintro xx _ rfl
 refine ag<|zc rfl (λh3=>?_) (λh3=>?_)
 have hq:eO s=false:=(by rw[hN];rw[Bool.or_assoc,S7] at h3;simp only[oE,Bool.not_eq_true',Bool.and_eq_false_iff,decide_eq_false_iff_not] at h3;simp only[Bool.and_eq_false_iff,decide_eq_false_iff_not];left;rcases h3 with(h|h)|h;(·left;left;omega);(·left;right;omega);(·right;exact h))
 refine zr<|zA<|ag<|aV ?_
 exact⟨_,rfl,by rw[hq];rfl,rfl⟩
 have hl:(1<=s.length∧s.length<=4)∧(decide (97<=s.getD 0 0)&&decide (s.getD 0 0<=122))=true:=(by rw[Bool.or_assoc,S7] at h3;simp only[Bool.or_eq_false_iff,Bool.not_eq_false'] at h3;refine⟨?_,h3.2⟩;have h1:=h3.1;simp at h1;omega)
 have hq:eO s=(s.drop 1).all ij:=(by rw[hN,hl.2,dT hl.1.1,dT hl.1.2];rfl)
 refine bz<|aQ<|zr<|zA<|ag<|cQ ?_
 refine fW (λk:Nat=>[(0,str s),(3,.int .i64 (k:Int))]) (λk w'=>w'=w∧1<=k∧k<=s.length∧∀j,1<=j->j<k->ij (s.getD j 0)=true) (λk=>s.length-k) (1) (⟨rfl,rfl⟩) (⟨rfl,om,om,by intro j h1 h2;omega⟩) ?_
 intro gg w1 e1 hI
 obtain⟨rfl,aK,hk,dy⟩:=hI
 refine aQ<|zr<|zm<|zm<|kL fc rfl rfl rfl<|fy rfl rfl rfl<|ag<|zc rfl (λh4=>?_) (λh4=>?_)
 refine bz<|aQ<|cQ<|zr<|zm<|zm<|kC fc rfl rfl rfl rfl (jI om)<|fy rfl rfl rfl<|zm ?_
 apply fz 5 28 33 [28,29,30,31,32,33] (λw'=>w1=w') rfl
 intro h5
 replace h5:=bw h5
 refine zs<|zs<|zs<|zs<|zp rfl<|ag ?_
 exact mg rfl rfl
 intro h5
 replace h5:=bw h5
 refine zm<|zm<|kC fc rfl rfl rfl rfl (jI om)<|jx rfl rfl rfl rfl rfl<|zp rfl<|ag ?_
 exact mg rfl rfl
 rintro xx _ rfl
 refine ag<|zc rfl (λh6=>?_) (λh6=>?_)
 have hd:ij (s.getD gg 0)=false:=(by rw[hz] at h6;simpa using h6)
 refine zr<|zA<|ag<|aV ?_
 exact⟨_,rfl,by rw[hq,ac4 aK om hd];rfl,rfl⟩
 have hd:ij (s.getD gg 0)=true:=(by rw[hz] at h6;simpa using h6)
 refine bz<|db<|zm<|eF rfl rfl rfl (wrap_i64 _ om om)<|zA<|ag ?_
 exact⟨gg+1,⟨rfl,rfl⟩,⟨rfl,om,om,by intro j h1 h2;rcases Nat.lt_or_ge j gg with h|h;exact dy j h1 h;rw[show j=gg by omega];exact hd⟩,om⟩
 refine gB<|gC rfl<|zr<|zA<|ag<|aV ?_
 exact⟨_,rfl,by rw[hq,ac5 (λj h1 h2=>dy j h1 om)];rfl,rfl⟩
def My (h:aj):Value:=.tuple #[.int .i64 ((eX h).1:Int),.int .i64 ((eX h).2:Int)]
theorem yc {a:Nat} (e:eX h=(a,b)):My h= .tuple #[.int .i64 (a:Int),.int .i64 (b:Int)]:=by unfold My;rw[e]
theorem ac6 (e:iz h=true):eX h=(1,3):=by unfold eX;rw[iP e]
theorem ac7 (e:gQ h=true):eX h=(1,2):=by
 unfold gQ at e
 simp only[oE,dE] at e
 rcases e with e|e<;>subst e<;>decide
theorem IF (h:aj) (w:World):cj Tryz.prog 140 [str h] w λv w'=>v=My h∧w=w':=by
 refine cV [.tmp 2,.tmp 3] 20 Tryz.func140 rfl X9 rfl rfl ?_
 refine zr<|zA<|zA<|ag<|aQ<|zr<|zm<|ag<|cQ<|aQ<|zr<|cW rfl rfl<|zA<|ag ?_
 refine jg (λ_:Unit=>[(4,str h),(5,.bool (iz h))]) (λ_ w'=>w'=w) ?_ ?_
 refine zc rfl (λh1=>?_) (λh1=>?_)
 refine bz ?_
 exact⟨(),⟨rfl,congrArg Value.bool (show decide (h=[43])=iz h from by rw[dT h1,show iz h=true from by rw[h1];rfl])⟩,rfl⟩
 have n1:=h1
 refine zr<|cW rfl rfl<|zA<|ag<|zc rfl (λh2=>?_) (λh2=>?_)
 refine bz ?_
 exact⟨(),⟨rfl,congrArg Value.bool (show decide (h=[45])=iz h from by rw[dT h2,show iz h=true from by rw[h2];rfl])⟩,rfl⟩
 have n2:=h2
 refine zr<|cW rfl rfl<|zA<|ag<|zc rfl (λh3=>?_) (λh3=>?_)
 refine bz ?_
 exact⟨(),⟨rfl,congrArg Value.bool (show decide (h=[42])=iz h from by rw[dT h3,show iz h=true from by rw[h3];rfl])⟩,rfl⟩
 have n3:=h3
 refine zr<|cW rfl rfl<|zA<|ag<|zc rfl (λh4=>?_) (λh4=>?_)
 refine bz ?_
 exact⟨(),⟨rfl,congrArg Value.bool (show decide (h=kD)=iz h from by rw[dT h4,show iz h=true from by rw[h4];rfl])⟩,rfl⟩
 have n4:=h4
 refine db<|cW rfl rfl<|zA<|ag ?_
 exact⟨(),⟨rfl,congrArg Value.bool (show decide (h=xM)=iz h from by unfold iz;rw[dF n1,dF n2,dF n3,dF n4];rfl)⟩,rfl⟩
 intro gu w1 e1 hI
 obtain rfl:=hI.symm
 refine zc rfl (λh5=>?_) (λh5=>?_)
 have hq:=h5
 refine zr<|zA<|zA<|ag<|aV ?_
 exact⟨_,rfl,(yc (ac6 hq)).symm,rfl⟩
 have b0:=h5
 refine zr<|cW rfl rfl<|zA<|ag<|zc rfl (λh6=>?_) (λh6=>?_)
 have hq:=h6
 refine zr<|zA<|zA<|ag<|aV ?_
 exact⟨_,rfl,(yc (by rw[hq];rfl)).symm,rfl⟩
 have m1:=h6
 refine zr<|cW rfl rfl<|zA<|ag<|zc rfl (λh7=>?_) (λh7=>?_)
 have hq:=h7
 refine zr<|zA<|zA<|ag<|aV ?_
 exact⟨_,rfl,(yc (by rw[hq];rfl)).symm,rfl⟩
 have m2:=h7
 refine zr<|cW rfl rfl<|zA<|ag<|zc rfl (λh8=>?_) (λh8=>?_)
 have hq:=h8
 refine zr<|zA<|zA<|ag<|aV ?_
 exact⟨_,rfl,(yc (by rw[hq];rfl)).symm,rfl⟩
 have m3:=h8
 refine aQ<|zr<|cW rfl rfl<|zA<|ag ?_
 refine jg (λ_:Unit=>[(4,str h),(17,.bool (gQ h))]) (λ_ w'=>w'=w) ?_ ?_
 refine zc rfl (λh9=>?_) (λh9=>?_)
 refine bz ?_
 exact⟨(),⟨rfl,congrArg Value.bool (show decide (h=BI)=gQ h from by rw[dT h9,show gQ h=true from by rw[h9];rfl])⟩,rfl⟩
 have n5:=h9
 refine db<|cW rfl rfl<|zA<|ag ?_
 exact⟨(),⟨rfl,congrArg Value.bool (show decide (h=qW)=gQ h from by unfold gQ;rw[dF n5];rfl)⟩,rfl⟩
 intro gu w2 e2 hI
 obtain rfl:=hI.symm
 refine zc rfl (λgF=>?_) (λgF=>?_)
 have hq:=gF
 refine zr<|zA<|zA<|ag<|aV ?_
 exact⟨_,rfl,(yc (ac7 hq)).symm,rfl⟩
 have m4:=gF
 refine bz<|zr<|zA<|zA<|ag<|aV ?_
 exact⟨_,rfl,(yc (by unfold eX;rw[iN (by rw[b0];simp),iN m1,iN m2,iN m3,iN (by rw[m4];simp)])).symm,rfl⟩
theorem ac8 (h:aj):((eX h).1=0∧(eX h).2=0)∨((eX h).1=1∧(eX h).2=2)∨((eX h).1=1∧(eX h).2=3)∨((eX h).1=1∧(eX h).2=4)∨((eX h).1=2∧(eX h).2=4)∨((eX h).1=5∧(eX h).2=6):=by
 unfold eX
 split
 ·simp
 ·split
  ·simp
  ·split
   ·simp
   ·split
    ·simp
    ·split<;>simp
theorem ac9 {ps:List aA} {f:aA->Bool} (h:∀j,k<=j->j<ps.length->f (nth ps j)=true):(ps.drop k).all f=true:=by
 rw[List.all_eq_true]
 intro c hc
 obtain⟨i,hi⟩:=List.mem_iff_getElem?.1 hc
 rw[List.getElem?_drop] at hi
 have hl:=(List.getElem?_eq_some_iff.1 hi).1
 have:=h (k+i) om hl
 rw[iI hl] at hi
 cases hi
 exact this
theorem ada {ps:List aA} {f:aA->Bool} (h1:k<=j) (h2:j<ps.length) (h:f (nth ps j)=false):(ps.drop k).all f=false:=by
 rw[List.all_eq_false]
 refine⟨nth ps j,?_,by rw[h];simp⟩
 rw[List.mem_iff_getElem?]
 refine⟨j-k,?_⟩
 rw[List.getElem?_drop,show k+(j-k)=j by omega]
 exact iI h2
def BW (ps:List aA):Bool:=eO (nth ps 2).az&&decide ((nth ps 1).az≠(nth ps 2).az)&&kr (nth ps 3)&&kr (nth ps 4)
theorem adb (ps:List aA) (k:Nat):k≠5∨(k=5∧eO (nth ps 2).az=false)∨(k=5∧eO (nth ps 2).az=true∧(nth ps 1).az=(nth ps 2).az)∨(k=5∧eO (nth ps 2).az=true∧(nth ps 1).az≠(nth ps 2).az∧kr (nth ps 3)=false)∨
  (k=5∧eO (nth ps 2).az=true∧(nth ps 1).az≠(nth ps 2).az∧kr (nth ps 3)=true∧kr (nth ps 4)=false)∨(k=5∧eO (nth ps 2).az=true∧(nth ps 1).az≠(nth ps 2).az∧kr (nth ps 3)=true∧kr (nth ps 4)=true):=by
 by_cases h5:k=5
 ·right
  cases h2:eO (nth ps 2).az
  ·exact .inl ⟨h5,rfl⟩
  ·right
   by_cases he:(nth ps 1).az=(nth ps 2).az
   ·exact .inl ⟨h5,rfl,he⟩
   ·right
    cases h3:kr (nth ps 3)
    ·exact .inl ⟨h5,rfl,he,rfl⟩
    ·right
     cases h4:kr (nth ps 4)
     ·exact .inl ⟨h5,rfl,he,rfl,rfl⟩
     ·exact .inr ⟨h5,rfl,he,rfl,rfl⟩
 ·exact .inl h5
theorem ade:∀(m:Nat) (t:aA),t.size<=m->t.size<=10000000->WF t->∀(v:Value) (L:List Nat) (w:World),bS L w v t->
  cj Tryz.prog 106 [v] w λr w'=>r= .bool (dS t)∧ak [] w w':=by
 intro m
 induction m with
 |zero=>intro t h;have:=xC t;omega
 |succ m ih=>
  intro t hm mU dx v L w hv
  obtain⟨a,n,c,rfl,hn,bc⟩:=dM hv
  subst hn
  have hK:=ak.refl [] w
  have pE:=xB t
  refine cV [.tmp 2] 105 Tryz.func106 rfl XF rfl rfl ?_
  refine zr<|fE rfl ?_
  intro w1 aK aT dY
  have hK:=hK.ext aK;have bc:=bc.ext aK
  refine zA<|ag<|aQ<|zr<|zf dz rfl<|zl ck rfl (aT.at rfl)<|jG rfl rfl rfl rfl<|ag<|zc rfl (λh1=>?_) (λh1=>?_)
  have hq:dS t=ql t.az:=by rw[SU,iP h1]
  refine zr<|zf dz rfl<|zl ck rfl (aT.at rfl)<|aC (HH _ _) ?_
  rintro _ _ ⟨rfl,rfl⟩
  refine zm<|zx (i:=0) rfl rfl<|zx (i:=1) rfl rfl<|zA<|zA<|ag<|zr<|zm<|zm ?_
  apply fz 4 18 22 [18,19,20,21,22] (λw'=>w1=w') rfl
  intro h2
  replace h2:=bw h2
  refine zs<|zs<|zs<|zp rfl<|ag ?_
  exact mg rfl rfl
  intro h2
  replace h2:=bw h2
  refine zf dz rfl<|zl ck rfl (aT.at rfl)<|aC (uV _ _) ?_
  rintro _ _ ⟨rfl,rfl⟩
  refine zp rfl<|ag ?_
  exact mg rfl rfl
  rintro xx _ rfl
  refine zA<|ag<|aV ?_
  exact⟨_,rfl,by rw[hq];rfl,hK⟩
  have ha:t.az=[]:=Classical.not_not.1 h1
  have kQ:=dx.pos ha
  have hq:=acX ha
  obtain⟨b,off,pa,pn,pc,rfl,ey,fP,ix⟩:=j7 bc (iI kQ)
  have lq:=ac8 (nth t.au 0).az
  refine bz<|zr<|zf cL rfl<|zl cI rfl (aT.at rfl)<|zi (i:=0) cv aH rfl rfl om<|zf dz rfl<|zl ck rfl (ey 0 _ rfl)<|aC (IF _ _) ?_
  rintro _ _ ⟨rfl,rfl⟩
  refine zm<|zx (i:=0) rfl rfl<|zx (i:=1) rfl rfl<|zA<|zA<|ag<|aQ<|zr<|zm<|dO rfl rfl rfl<|zm ?_
  apply fz 6 34 40 [34,35,36,37,38,39,40] (λw'=>w1=w') rfl
  intro h3
  replace h3:=bw h3
  refine zs<|zs<|zs<|zs<|zs<|zp rfl<|ag ?_
  exact mg rfl rfl
  intro h3
  replace h3:=bw h3
  refine zf cL rfl<|zl cI rfl (aT.at rfl)<|dX cv rfl<|zm<|uq rfl rfl rfl rfl rfl<|zp rfl<|ag ?_
  exact mg rfl rfl
  rintro xx _ rfl
  refine ag<|zc rfl (λh4=>?_) (λh4=>?_)
  have hz:dS t=false:=(by rw[hq];simp only[oE,dE] at h4;rcases h4 with h|h;(·rw[show decide ((eX (nth t.au 0).az).1≠0)=false from dF om];rfl);(·rw[show decide (t.au.length=(eX (nth t.au 0).az).2)=false from dF om];simp))
  refine zr<|zA<|ag<|aV ?_
  exact⟨_,rfl,by rw[hz];rfl,hK⟩
  have gL:(eX (nth t.au 0).az).1≠0∧t.au.length=(eX (nth t.au 0).az).2:=(by simp only[Bool.or_eq_false_iff,decide_eq_false_iff_not] at h4;omega)
  obtain⟨gL,gP⟩:=gL
  have BX:dS t=(DM t.au&&(t.au.drop (eX (nth t.au 0).az).1).all dS):=by rw[hq,dT gL,dT gP];rfl
  refine bz<|aQ<|zr<|zm<|jx rfl rfl rfl rfl rfl<|zm ?_
  apply fX 8 43 51 [43,44,45,46,47,48,49,50,51] (λw'=>w1=w') rfl
  intro h5
  replace h5:=bw h5
  have Bx:1<t.au.length:=(by have h7:=h5;omega)
  obtain⟨b1,fY,gX,qQ,gY,e1,bC,ss,oV⟩:=j7 bc (iI (i:=1) Bx)
  cases e1
  refine zf cL rfl<|zl cI rfl (aT.at rfl)<|zi (i:=1) cv aH rfl rfl om<|zf dz rfl<|zl ck rfl (bC 0 _ rfl)<|aC (uV _ _) ?_
  rintro _ _ ⟨rfl,rfl⟩
  refine eJ rfl<|zp rfl<|ag ?_
  exact mg rfl rfl
  intro h5
  replace h5:=bw h5
  refine zs<|zs<|zs<|zs<|zs<|zs<|zs<|zp rfl<|ag ?_
  exact mg rfl rfl
  rintro xx _ rfl
  refine ag<|zc rfl (λh6=>?_) (λh6=>?_)
  have hz:dS t=false:=(by simp only[aE,dE,Bool.not_eq_true'] at h6;rw[BX];unfold DM;rw[show decide ((eX (nth t.au 0).az).1<=1)=false from dF om,h6.2];rfl)
  refine zr<|zA<|ag<|aV ?_
  exact⟨_,rfl,by rw[hz];rfl,hK⟩
  have qi:(decide ((eX (nth t.au 0).az).1<=1)||eO (nth t.au 1).az)=true:=(by simp only[Bool.and_eq_false_iff,decide_eq_false_iff_not,Bool.not_eq_false'] at h6;rcases h6 with h|h;(·rw[dT om];rfl);(·rw[h];simp))
  have oI:dS t=((decide ((eX (nth t.au 0).az).1≠5)||BW t.au)&&(t.au.drop (eX (nth t.au 0).az).1).all dS):=by rw[BX];unfold DM;rw[qi];rfl
  have FP:(eX (nth t.au 0).az).1=5->t.au.length=6:=(by intro h;omega)
  have jF:∀i,i<t.au.length->∃pa pn pc,iQ w1 b (off+i*2) [str (nth t.au i).az,.slice pa pn pc]∧bS L w1 (.agg #[str (nth t.au i).az,.slice pa pn pc]) (nth t.au i):=(by intro i hi;obtain⟨b1,fY,gX,qQ,gY,e1,bC,ss,oV⟩:=j7 bc (iI hi);cases e1;exact⟨_,_,_,bC,mO oV⟩)
  refine bz<|aQ<|aQ ?_
  refine jg (λ_:Unit=>[(1,.pointer (some ⟨w.heap.size,0,none⟩)),(5,.int .i64 ((eX (nth t.au 0).az).1:Int)),(6,.int .i64 ((eX (nth t.au 0).az).2:Int)),(91,.bool (decide ((eX (nth t.au 0).az).1=5)&&!BW t.au))]) (λ_ w'=>ak [] w w'∧ak [] w1 w') ?_ ?_
  rcases adb t.au (eX (nth t.au 0).az).1 with lr|lr|lr|lr|lr|lr
  apply mq ei 40 (rA 52 40) (rA 52 40) [[],[0],[1],[2],[2,3],[2,4],[2,5],[2,6],[2,7],[2,8],[2,9],[10],[10,11],[10,12],[10,13],[10,14],[10],[10,16],[10,17],[10,18],[10,19],[10,15,20],[2,10,21],[2,22],[23],[23,24],[23,25],[23,26],[23,27],[23,28],[2,23,29],[2,30],[31],[31,32],[31,33],[31,34],[31,35],[31,36],[2,31,37],[2,38]] [It.v _,It.v _,It.v (.bool false),It.v _,It.v _,It.v _,It.v _,It.v _,It.v _,It.v _,It.v _,It.v _,It.v _,It.v _,It.v _,It.v _,It.v _,It.v _,It.v _,It.v _,It.v _,It.v _,It.v _,It.v _,It.v _,It.v _,It.v _,It.v _,It.v _,It.v _,It.v _,It.v _,It.v _,It.v _,It.v _,It.v _,It.v _,It.v _,It.v _,It.v _] de rfl
  intro wd aB
  refine eI ?_
  refine vk aB (λx w2 aq=>?_) ?_
  refine dO rfl rfl rfl ?_
  exact pv
  refine vc (λx w2 aq=>?_) ?_
  refine zm ?_
  exact pv (by exact congrArg Value.bool (dF om))
  refine vc (λx w2 aq=>?_) ?_
  exact dm pv
  refine vk aB (λx w2 aq=>?_) ?_
  exact dm pv
  refine vk aB (λx w2 aq=>?_) ?_
  exact dm pv
  refine vc (λx w2 aq=>?_) ?_
  exact dm pv
  refine vk aB (λx w2 aq=>?_) ?_
  exact dm pv
  refine vk aB (λx w2 aq=>?_) ?_
  exact dm pv
  refine vc (λx w2 aq=>?_) ?_
  exact dm pv
  refine vc (λx w2 aq=>?_) ?_
  exact dm pv
  refine vc (λx w2 aq=>?_) ?_
  exact dm pv
  refine vk aB (λx w2 aq=>?_) ?_
  exact dm pv
  refine vk aB (λx w2 aq=>?_) ?_
  exact dm pv
  refine vc (λx w2 aq=>?_) ?_
  exact dm pv
  refine vk aB (λx w2 aq=>?_) ?_
  exact dm pv
  refine vc (λx w2 aq=>?_) ?_
  exact dm pv
  refine vk aB (λx w2 aq=>?_) ?_
  exact dm pv
  refine vk aB (λx w2 aq=>?_) ?_
  exact dm pv
  refine vc (λx w2 aq=>?_) ?_
  exact dm pv
  refine vk aB (λx w2 aq=>?_) ?_
  exact dm pv
  refine vk aB (λx w2 aq=>?_) ?_
  exact dm pv
  refine vc (λx w2 aq=>?_) ?_
  exact dm pv
  refine vc (λx w2 aq=>?_) ?_
  exact dm pv
  refine vc (λx w2 aq=>?_) ?_
  exact dm pv
  refine vk aB (λx w2 aq=>?_) ?_
  exact dm pv
  refine vk aB (λx w2 aq=>?_) ?_
  exact dm pv
  refine vk aB (λx w2 aq=>?_) ?_
  exact dm pv
  refine vk aB (λx w2 aq=>?_) ?_
  exact dm pv
  refine vc (λx w2 aq=>?_) ?_
  exact dm pv
  refine vc (λx w2 aq=>?_) ?_
  exact dm pv
  refine vc (λx w2 aq=>?_) ?_
  exact dm pv
  refine vc (λx w2 aq=>?_) ?_
  exact dm pv
  refine vk aB (λx w2 aq=>?_) ?_
  exact dm pv
  refine vk aB (λx w2 aq=>?_) ?_
  exact dm pv
  refine vk aB (λx w2 aq=>?_) ?_
  exact dm pv
  refine vk aB (λx w2 aq=>?_) ?_
  exact dm pv
  refine vc (λx w2 aq=>?_) ?_
  exact dm pv
  refine vc (λx w2 aq=>?_) ?_
  exact dm pv
  refine vc (λ_ _ _=>zp rfl pv) ?_
  exact trivial
  intro x pS iA
  have hK:=hK.ext iA
  change OW _ _ _ _ [] (aM (aN _ x _) (zZ 52 [_,_,_,_,_,_,_,_,_,_,_,_,_,_,_,_,_,_,_,_,_,_,_,_,_,_,_,_,_,_,_,_,_,_,_,_,_,_,_,_])) _
  refine ag ?_
  exact⟨(),⟨rfl,rfl,rfl,congrArg Value.bool (show false=_ from by rw[dF lr];rfl)⟩,hK,iA⟩
  obtain⟨h5,h2⟩:=lr
  have h6:=FP h5
  obtain⟨jb,As,jc,bX,et⟩:=jF 2 om
  apply mq ei 40 (rA 52 40) (rA 52 40) [[],[0],[1],[2],[2,3],[2,4],[2,5],[2,6],[2,7],[2,8],[2,9],[10],[10,11],[10,12],[10,13],[10,14],[10],[10,16],[10,17],[10,18],[10,19],[10,15,20],[2,10,21],[2,22],[23],[23,24],[23,25],[23,26],[23,27],[23,28],[2,23,29],[2,30],[31],[31,32],[31,33],[31,34],[31,35],[31,36],[2,31,37],[2,38]] [It.v _,It.v _,It.v (.bool true),It.v _,It.v _,It.v _,It.v _,It.v _,It.v _,It.v _,It.v (.bool true),It.v _,It.v _,It.v _,It.v _,It.v _,It.v _,It.v _,It.v _,It.v _,It.v _,It.v _,It.v _,It.v (.bool true),It.v _,It.v _,It.v _,It.v _,It.v _,It.v _,It.v _,It.v (.bool true),It.v _,It.v _,It.v _,It.v _,It.v _,It.v _,It.v _,It.v _] de rfl
  intro wd aB
  refine eI ?_
  refine vk aB (λx w2 aq=>?_) ?_
  refine dO rfl rfl rfl ?_
  exact pv
  refine vc (λx w2 aq=>?_) ?_
  refine zm ?_
  exact pv (by exact congrArg Value.bool (dT om))
  refine vc (λ_ _ _=>zf cL rfl pv) ?_
  refine vk aB (λx w2 aq=>?_) ?_
  have aT:=aT.ext aq
  refine zl cI rfl (aT.at rfl) ?_
  exact pv
  refine vk aB (λx w2 aq=>?_) ?_
  refine zi (i:=2) cv aH rfl rfl om ?_
  exact pv
  refine vc (λ_ _ _=>zf dz rfl pv) ?_
  refine vk aB (λx w2 aq=>?_) ?_
  have bX:=bX.ext aq
  refine zl ck rfl (bX 0 _ rfl) ?_
  exact pv
  refine vk aB (λx w2 aq=>?_) ?_
  refine aC (uV _ _) ?_
  rintro _ _ ⟨rfl,rfl⟩
  exact pv
  refine vc (λ_ _ _=>eJ rfl pv) ?_
  refine vc (λx w2 aq=>?_) ?_
  refine zm ?_
  exact pv (by exact congrArg Value.bool (show(!eO (nth t.au 2).az)=true from by rw[h2];rfl))
  refine vc (λx w2 aq=>?_) ?_
  exact dm pv
  refine vk aB (λx w2 aq=>?_) ?_
  exact dm pv
  refine vk aB (λx w2 aq=>?_) ?_
  exact dm pv
  refine vc (λx w2 aq=>?_) ?_
  exact dm pv
  refine vk aB (λx w2 aq=>?_) ?_
  exact dm pv
  refine vc (λx w2 aq=>?_) ?_
  exact dm pv
  refine vk aB (λx w2 aq=>?_) ?_
  exact dm pv
  refine vk aB (λx w2 aq=>?_) ?_
  exact dm pv
  refine vc (λx w2 aq=>?_) ?_
  exact dm pv
  refine vk aB (λx w2 aq=>?_) ?_
  exact dm pv
  refine vk aB (λx w2 aq=>?_) ?_
  exact dm pv
  refine vc (λ_ _ _=>zp rfl pv) ?_
  refine vc (λx w2 aq=>?_) ?_
  refine zm ?_
  exact pv (by exact rfl)
  refine vc (λx w2 aq=>?_) ?_
  exact dm pv
  refine vk aB (λx w2 aq=>?_) ?_
  exact dm pv
  refine vk aB (λx w2 aq=>?_) ?_
  exact dm pv
  refine vk aB (λx w2 aq=>?_) ?_
  exact dm pv
  refine vk aB (λx w2 aq=>?_) ?_
  exact dm pv
  refine vc (λx w2 aq=>?_) ?_
  exact dm pv
  refine vc (λ_ _ _=>zp rfl pv) ?_
  refine vc (λx w2 aq=>?_) ?_
  refine zm ?_
  exact pv (by exact rfl)
  refine vc (λx w2 aq=>?_) ?_
  exact dm pv
  refine vk aB (λx w2 aq=>?_) ?_
  exact dm pv
  refine vk aB (λx w2 aq=>?_) ?_
  exact dm pv
  refine vk aB (λx w2 aq=>?_) ?_
  exact dm pv
  refine vk aB (λx w2 aq=>?_) ?_
  exact dm pv
  refine vc (λx w2 aq=>?_) ?_
  exact dm pv
  refine vc (λ_ _ _=>zp rfl pv) ?_
  refine vc (λ_ _ _=>zp rfl pv) ?_
  exact trivial
  intro x pS iA
  have hK:=hK.ext iA
  change OW _ _ _ _ [] (aM (aN _ x _) (zZ 52 [_,_,_,_,_,_,_,_,_,_,_,_,_,_,_,_,_,_,_,_,_,_,_,_,_,_,_,_,_,_,_,_,_,_,_,_,_,_,_,_])) _
  refine ag ?_
  exact⟨(),⟨rfl,rfl,rfl,congrArg Value.bool (show true=_ from by unfold BW;rw[dT h5,h2];rfl)⟩,hK,iA⟩
  obtain⟨h5,h2,jK⟩:=lr
  have h6:=FP h5
  obtain⟨gX,qQ,gY,bC,dd⟩:=jF 1 om
  obtain⟨jb,As,jc,bX,et⟩:=jF 2 om
  apply mq ei 40 (rA 52 40) (rA 52 40) [[],[0],[1],[2],[2,3],[2,4],[2,5],[2,6],[2,7],[2,8],[2,9],[10],[10,11],[10,12],[10,13],[10,14],[10],[10,16],[10,17],[10,18],[10,19],[10,15,20],[2,10,21],[2,22],[23],[23,24],[23,25],[23,26],[23,27],[23,28],[2,23,29],[2,30],[31],[31,32],[31,33],[31,34],[31,35],[31,36],[2,31,37],[2,38]] [It.v _,It.v _,It.v (.bool true),It.v _,It.v _,It.v _,It.v _,It.v _,It.v _,It.v _,It.v (.bool false),It.v _,It.v _,It.v _,It.v _,It.v _,It.v _,It.v _,It.v _,It.v _,It.v _,It.v _,It.v _,It.v (.bool true),It.v _,It.v _,It.v _,It.v _,It.v _,It.v _,It.v _,It.v (.bool true),It.v _,It.v _,It.v _,It.v _,It.v _,It.v _,It.v _,It.v _] de rfl
  intro wd aB
  refine eI ?_
  refine vk aB (λx w2 aq=>?_) ?_
  refine dO rfl rfl rfl ?_
  exact pv
  refine vc (λx w2 aq=>?_) ?_
  refine zm ?_
  exact pv (by exact congrArg Value.bool (dT om))
  refine vc (λ_ _ _=>zf cL rfl pv) ?_
  refine vk aB (λx w2 aq=>?_) ?_
  have aT:=aT.ext aq
  refine zl cI rfl (aT.at rfl) ?_
  exact pv
  refine vk aB (λx w2 aq=>?_) ?_
  refine zi (i:=2) cv aH rfl rfl om ?_
  exact pv
  refine vc (λ_ _ _=>zf dz rfl pv) ?_
  refine vk aB (λx w2 aq=>?_) ?_
  have bX:=bX.ext aq
  refine zl ck rfl (bX 0 _ rfl) ?_
  exact pv
  refine vk aB (λx w2 aq=>?_) ?_
  refine aC (uV _ _) ?_
  rintro _ _ ⟨rfl,rfl⟩
  exact pv
  refine vc (λ_ _ _=>eJ rfl pv) ?_
  refine vc (λx w2 aq=>?_) ?_
  refine zm ?_
  exact pv (by exact congrArg Value.bool (show(!eO (nth t.au 2).az)=false from by rw[h2];rfl))
  refine vc (λ_ _ _=>zf cL rfl pv) ?_
  refine vk aB (λx w2 aq=>?_) ?_
  have aT:=aT.ext aq
  refine zl cI rfl (aT.at rfl) ?_
  exact pv
  refine vk aB (λx w2 aq=>?_) ?_
  refine zi (i:=1) cv aH rfl rfl om ?_
  exact pv
  refine vc (λ_ _ _=>zf dz rfl pv) ?_
  refine vk aB (λx w2 aq=>?_) ?_
  have bC:=bC.ext aq
  refine zl ck rfl (bC 0 _ rfl) ?_
  exact pv
  refine vc (λ_ _ _=>zf cL rfl pv) ?_
  refine vk aB (λx w2 aq=>?_) ?_
  have aT:=aT.ext aq
  refine zl cI rfl (aT.at rfl) ?_
  exact pv
  refine vk aB (λx w2 aq=>?_) ?_
  refine zi (i:=2) cv aH rfl rfl om ?_
  exact pv
  refine vc (λ_ _ _=>zf dz rfl pv) ?_
  refine vk aB (λx w2 aq=>?_) ?_
  have bX:=bX.ext aq
  refine zl ck rfl (bX 0 _ rfl) ?_
  exact pv
  refine vk aB (λx w2 aq=>?_) ?_
  refine cW rfl rfl ?_
  exact pv
  refine vc (λ_ _ _=>zp rfl pv) ?_
  refine vc (λx w2 aq=>?_) ?_
  refine zm ?_
  exact pv (by exact congrArg Value.bool (dT jK))
  refine vc (λx w2 aq=>?_) ?_
  exact dm pv
  refine vk aB (λx w2 aq=>?_) ?_
  exact dm pv
  refine vk aB (λx w2 aq=>?_) ?_
  exact dm pv
  refine vk aB (λx w2 aq=>?_) ?_
  exact dm pv
  refine vk aB (λx w2 aq=>?_) ?_
  exact dm pv
  refine vc (λx w2 aq=>?_) ?_
  exact dm pv
  refine vc (λ_ _ _=>zp rfl pv) ?_
  refine vc (λx w2 aq=>?_) ?_
  refine zm ?_
  exact pv (by exact rfl)
  refine vc (λx w2 aq=>?_) ?_
  exact dm pv
  refine vk aB (λx w2 aq=>?_) ?_
  exact dm pv
  refine vk aB (λx w2 aq=>?_) ?_
  exact dm pv
  refine vk aB (λx w2 aq=>?_) ?_
  exact dm pv
  refine vk aB (λx w2 aq=>?_) ?_
  exact dm pv
  refine vc (λx w2 aq=>?_) ?_
  exact dm pv
  refine vc (λ_ _ _=>zp rfl pv) ?_
  refine vc (λ_ _ _=>zp rfl pv) ?_
  exact trivial
  intro x pS iA
  have hK:=hK.ext iA
  change OW _ _ _ _ [] (aM (aN _ x _) (zZ 52 [_,_,_,_,_,_,_,_,_,_,_,_,_,_,_,_,_,_,_,_,_,_,_,_,_,_,_,_,_,_,_,_,_,_,_,_,_,_,_,_])) _
  refine ag ?_
  exact⟨(),⟨rfl,rfl,rfl,congrArg Value.bool (show true=_ from by unfold BW;rw[dT h5,h2,dF (λh=>h jK)];rfl)⟩,hK,iA⟩
  obtain⟨h5,h2,jK,h3⟩:=lr
  have h6:=FP h5
  obtain⟨gX,qQ,gY,bC,dd⟩:=jF 1 om
  obtain⟨jb,As,jc,bX,et⟩:=jF 2 om
  obtain⟨pT,S8,pU,er,eY⟩:=jF 3 om
  have fZ:=lY (t:=t) (i:=3) om
  apply mq ei 40 (rA 52 40) (rA 52 40) [[],[0],[1],[2],[2,3],[2,4],[2,5],[2,6],[2,7],[2,8],[2,9],[10],[10,11],[10,12],[10,13],[10,14],[10],[10,16],[10,17],[10,18],[10,19],[10,15,20],[2,10,21],[2,22],[23],[23,24],[23,25],[23,26],[23,27],[23,28],[2,23,29],[2,30],[31],[31,32],[31,33],[31,34],[31,35],[31,36],[2,31,37],[2,38]] [It.v _,It.v _,It.v (.bool true),It.v _,It.v _,It.v _,It.v _,It.v _,It.v _,It.v _,It.v (.bool false),It.v _,It.v _,It.v _,It.v _,It.v _,It.v _,It.v _,It.v _,It.v _,It.v _,It.v _,It.v _,It.v (.bool false),It.v _,It.v _,It.v _,It.v _,It.v _,It.v _,It.v _,It.v (.bool true),It.v _,It.v _,It.v _,It.v _,It.v _,It.v _,It.v _,It.v _] de rfl
  intro wd aB
  refine eI ?_
  refine vk aB (λx w2 aq=>?_) ?_
  refine dO rfl rfl rfl ?_
  exact pv
  refine vc (λx w2 aq=>?_) ?_
  refine zm ?_
  exact pv (by exact congrArg Value.bool (dT om))
  refine vc (λ_ _ _=>zf cL rfl pv) ?_
  refine vk aB (λx w2 aq=>?_) ?_
  have aT:=aT.ext aq
  refine zl cI rfl (aT.at rfl) ?_
  exact pv
  refine vk aB (λx w2 aq=>?_) ?_
  refine zi (i:=2) cv aH rfl rfl om ?_
  exact pv
  refine vc (λ_ _ _=>zf dz rfl pv) ?_
  refine vk aB (λx w2 aq=>?_) ?_
  have bX:=bX.ext aq
  refine zl ck rfl (bX 0 _ rfl) ?_
  exact pv
  refine vk aB (λx w2 aq=>?_) ?_
  refine aC (uV _ _) ?_
  rintro _ _ ⟨rfl,rfl⟩
  exact pv
  refine vc (λ_ _ _=>eJ rfl pv) ?_
  refine vc (λx w2 aq=>?_) ?_
  refine zm ?_
  exact pv (by exact congrArg Value.bool (show(!eO (nth t.au 2).az)=false from by rw[h2];rfl))
  refine vc (λ_ _ _=>zf cL rfl pv) ?_
  refine vk aB (λx w2 aq=>?_) ?_
  have aT:=aT.ext aq
  refine zl cI rfl (aT.at rfl) ?_
  exact pv
  refine vk aB (λx w2 aq=>?_) ?_
  refine zi (i:=1) cv aH rfl rfl om ?_
  exact pv
  refine vc (λ_ _ _=>zf dz rfl pv) ?_
  refine vk aB (λx w2 aq=>?_) ?_
  have bC:=bC.ext aq
  refine zl ck rfl (bC 0 _ rfl) ?_
  exact pv
  refine vc (λ_ _ _=>zf cL rfl pv) ?_
  refine vk aB (λx w2 aq=>?_) ?_
  have aT:=aT.ext aq
  refine zl cI rfl (aT.at rfl) ?_
  exact pv
  refine vk aB (λx w2 aq=>?_) ?_
  refine zi (i:=2) cv aH rfl rfl om ?_
  exact pv
  refine vc (λ_ _ _=>zf dz rfl pv) ?_
  refine vk aB (λx w2 aq=>?_) ?_
  have bX:=bX.ext aq
  refine zl ck rfl (bX 0 _ rfl) ?_
  exact pv
  refine vk aB (λx w2 aq=>?_) ?_
  refine cW rfl rfl ?_
  exact pv
  refine vc (λ_ _ _=>zp rfl pv) ?_
  refine vc (λx w2 aq=>?_) ?_
  refine zm ?_
  exact pv (by exact congrArg Value.bool (dF jK))
  refine vc (λ_ _ _=>zf cL rfl pv) ?_
  refine vk aB (λx w2 aq=>?_) ?_
  have aT:=aT.ext aq
  refine zl cI rfl (aT.at rfl) ?_
  exact pv
  refine vk aB (λx w2 aq=>?_) ?_
  refine zi (i:=3) cv aH rfl rfl om ?_
  exact pv
  refine vk aB (λx w2 aq=>?_) ?_
  have er:=er.ext aq
  refine zL bT aH rfl er rfl ?_
  exact pv
  refine vk aB (λx w2 aq=>?_) ?_
  have eY:=eY.ext aq
  refine aC (Au (nth t.au 3) om (dx.nth om) _ _ w2 eY) ?_
  rintro v3 w3 ⟨eh,aJ⟩
  have fZ:=aJ.size
  obtain rfl:=eh
  exact pk aJ
  refine vc (λ_ _ _=>eJ rfl pv) ?_
  refine vc (λ_ _ _=>zp rfl pv) ?_
  refine vc (λx w2 aq=>?_) ?_
  refine zm ?_
  exact pv (by exact congrArg Value.bool (show(!kr (nth t.au 3))=true from by rw[h3];rfl))
  refine vc (λx w2 aq=>?_) ?_
  exact dm pv
  refine vk aB (λx w2 aq=>?_) ?_
  exact dm pv
  refine vk aB (λx w2 aq=>?_) ?_
  exact dm pv
  refine vk aB (λx w2 aq=>?_) ?_
  exact dm pv
  refine vk aB (λx w2 aq=>?_) ?_
  exact dm pv
  refine vc (λx w2 aq=>?_) ?_
  exact dm pv
  refine vc (λ_ _ _=>zp rfl pv) ?_
  refine vc (λ_ _ _=>zp rfl pv) ?_
  exact trivial
  intro x pS iA
  have hK:=hK.ext iA
  change OW _ _ _ _ [] (aM (aN _ x _) (zZ 52 [_,_,_,_,_,_,_,_,_,_,_,_,_,_,_,_,_,_,_,_,_,_,_,_,_,_,_,_,_,_,_,_,_,_,_,_,_,_,_,_])) _
  refine ag ?_
  exact⟨(),⟨rfl,rfl,rfl,congrArg Value.bool (show true=_ from by unfold BW;rw[dT h5,h2,h3,Bool.and_false];rfl)⟩,hK,iA⟩
  obtain⟨h5,h2,jK,h3,h4⟩:=lr
  have h6:=FP h5
  obtain⟨gX,qQ,gY,bC,dd⟩:=jF 1 om
  obtain⟨jb,As,jc,bX,et⟩:=jF 2 om
  obtain⟨pT,S8,pU,er,eY⟩:=jF 3 om
  obtain⟨Mz,pn4,MA,jJ,pV⟩:=jF 4 om
  have fZ:=lY (t:=t) (i:=3) om
  have gI:=lY (t:=t) (i:=4) om
  apply mq ei 40 (rA 52 40) (rA 52 40) [[],[0],[1],[2],[2,3],[2,4],[2,5],[2,6],[2,7],[2,8],[2,9],[10],[10,11],[10,12],[10,13],[10,14],[10],[10,16],[10,17],[10,18],[10,19],[10,15,20],[2,10,21],[2,22],[23],[23,24],[23,25],[23,26],[23,27],[23,28],[2,23,29],[2,30],[31],[31,32],[31,33],[31,34],[31,35],[31,36],[2,31,37],[2,38]] [It.v _,It.v _,It.v (.bool true),It.v _,It.v _,It.v _,It.v _,It.v _,It.v _,It.v _,It.v (.bool false),It.v _,It.v _,It.v _,It.v _,It.v _,It.v _,It.v _,It.v _,It.v _,It.v _,It.v _,It.v _,It.v (.bool false),It.v _,It.v _,It.v _,It.v _,It.v _,It.v _,It.v _,It.v (.bool false),It.v _,It.v _,It.v _,It.v _,It.v _,It.v _,It.v _,It.v _] de rfl
  intro wd aB
  refine eI ?_
  refine vk aB (λx w2 aq=>?_) ?_
  refine dO rfl rfl rfl ?_
  exact pv
  refine vc (λx w2 aq=>?_) ?_
  refine zm ?_
  exact pv (by exact congrArg Value.bool (dT om))
  refine vc (λ_ _ _=>zf cL rfl pv) ?_
  refine vk aB (λx w2 aq=>?_) ?_
  have aT:=aT.ext aq
  refine zl cI rfl (aT.at rfl) ?_
  exact pv
  refine vk aB (λx w2 aq=>?_) ?_
  refine zi (i:=2) cv aH rfl rfl om ?_
  exact pv
  refine vc (λ_ _ _=>zf dz rfl pv) ?_
  refine vk aB (λx w2 aq=>?_) ?_
  have bX:=bX.ext aq
  refine zl ck rfl (bX 0 _ rfl) ?_
  exact pv
  refine vk aB (λx w2 aq=>?_) ?_
  refine aC (uV _ _) ?_
  rintro _ _ ⟨rfl,rfl⟩
  exact pv
  refine vc (λ_ _ _=>eJ rfl pv) ?_
  refine vc (λx w2 aq=>?_) ?_
  refine zm ?_
  exact pv (by exact congrArg Value.bool (show(!eO (nth t.au 2).az)=false from by rw[h2];rfl))
  refine vc (λ_ _ _=>zf cL rfl pv) ?_
  refine vk aB (λx w2 aq=>?_) ?_
  have aT:=aT.ext aq
  refine zl cI rfl (aT.at rfl) ?_
  exact pv
  refine vk aB (λx w2 aq=>?_) ?_
  refine zi (i:=1) cv aH rfl rfl om ?_
  exact pv
  refine vc (λ_ _ _=>zf dz rfl pv) ?_
  refine vk aB (λx w2 aq=>?_) ?_
  have bC:=bC.ext aq
  refine zl ck rfl (bC 0 _ rfl) ?_
  exact pv
  refine vc (λ_ _ _=>zf cL rfl pv) ?_
  refine vk aB (λx w2 aq=>?_) ?_
  have aT:=aT.ext aq
  refine zl cI rfl (aT.at rfl) ?_
  exact pv
  refine vk aB (λx w2 aq=>?_) ?_
  refine zi (i:=2) cv aH rfl rfl om ?_
  exact pv
  refine vc (λ_ _ _=>zf dz rfl pv) ?_
  refine vk aB (λx w2 aq=>?_) ?_
  have bX:=bX.ext aq
  refine zl ck rfl (bX 0 _ rfl) ?_
  exact pv
  refine vk aB (λx w2 aq=>?_) ?_
  refine cW rfl rfl ?_
  exact pv
  refine vc (λ_ _ _=>zp rfl pv) ?_
  refine vc (λx w2 aq=>?_) ?_
  refine zm ?_
  exact pv (by exact congrArg Value.bool (dF jK))
  refine vc (λ_ _ _=>zf cL rfl pv) ?_
  refine vk aB (λx w2 aq=>?_) ?_
  have aT:=aT.ext aq
  refine zl cI rfl (aT.at rfl) ?_
  exact pv
  refine vk aB (λx w2 aq=>?_) ?_
  refine zi (i:=3) cv aH rfl rfl om ?_
  exact pv
  refine vk aB (λx w2 aq=>?_) ?_
  have er:=er.ext aq
  refine zL bT aH rfl er rfl ?_
  exact pv
  refine vk aB (λx w2 aq=>?_) ?_
  have eY:=eY.ext aq
  refine aC (Au (nth t.au 3) om (dx.nth om) _ _ w2 eY) ?_
  rintro v3 w3 ⟨eh,aJ⟩
  have fZ:=aJ.size
  obtain rfl:=eh
  exact pk aJ
  refine vc (λ_ _ _=>eJ rfl pv) ?_
  refine vc (λ_ _ _=>zp rfl pv) ?_
  refine vc (λx w2 aq=>?_) ?_
  refine zm ?_
  exact pv (by exact congrArg Value.bool (show(!kr (nth t.au 3))=false from by rw[h3];rfl))
  refine vc (λ_ _ _=>zf cL rfl pv) ?_
  refine vk aB (λx w2 aq=>?_) ?_
  have aT:=aT.ext aq
  refine zl cI rfl (aT.at rfl) ?_
  exact pv
  refine vk aB (λx w2 aq=>?_) ?_
  refine zi (i:=4) cv aH rfl rfl om ?_
  exact pv
  refine vk aB (λx w2 aq=>?_) ?_
  have jJ:=jJ.ext aq
  refine zL bT aH rfl jJ rfl ?_
  exact pv
  refine vk aB (λx w2 aq=>?_) ?_
  have pV:=pV.ext aq
  refine aC (Au (nth t.au 4) om (dx.nth om) _ _ w2 pV) ?_
  rintro v3 w3 ⟨eh,aJ⟩
  have fZ:=aJ.size
  obtain rfl:=eh
  exact pk aJ
  refine vc (λ_ _ _=>eJ rfl pv) ?_
  refine vc (λ_ _ _=>zp rfl pv) ?_
  refine vc (λ_ _ _=>zp rfl pv) ?_
  exact trivial
  intro x pS iA
  have hK:=hK.ext iA
  change OW _ _ _ _ [] (aM (aN _ x _) (zZ 52 [_,_,_,_,_,_,_,_,_,_,_,_,_,_,_,_,_,_,_,_,_,_,_,_,_,_,_,_,_,_,_,_,_,_,_,_,_,_,_,_])) _
  refine ag ?_
  exact⟨(),⟨rfl,rfl,rfl,congrArg Value.bool (show(!kr (nth t.au 4))=_ from by unfold BW;rw[dT h5,h2,h3,h4,Bool.and_false];rfl)⟩,hK,iA⟩
  obtain⟨h5,h2,jK,h3,h4⟩:=lr
  have h6:=FP h5
  obtain⟨gX,qQ,gY,bC,dd⟩:=jF 1 om
  obtain⟨jb,As,jc,bX,et⟩:=jF 2 om
  obtain⟨pT,S8,pU,er,eY⟩:=jF 3 om
  obtain⟨Mz,pn4,MA,jJ,pV⟩:=jF 4 om
  have fZ:=lY (t:=t) (i:=3) om
  have gI:=lY (t:=t) (i:=4) om
  apply mq ei 40 (rA 52 40) (rA 52 40) [[],[0],[1],[2],[2,3],[2,4],[2,5],[2,6],[2,7],[2,8],[2,9],[10],[10,11],[10,12],[10,13],[10,14],[10],[10,16],[10,17],[10,18],[10,19],[10,15,20],[2,10,21],[2,22],[23],[23,24],[23,25],[23,26],[23,27],[23,28],[2,23,29],[2,30],[31],[31,32],[31,33],[31,34],[31,35],[31,36],[2,31,37],[2,38]] [It.v _,It.v _,It.v (.bool true),It.v _,It.v _,It.v _,It.v _,It.v _,It.v _,It.v _,It.v (.bool false),It.v _,It.v _,It.v _,It.v _,It.v _,It.v _,It.v _,It.v _,It.v _,It.v _,It.v _,It.v _,It.v (.bool false),It.v _,It.v _,It.v _,It.v _,It.v _,It.v _,It.v _,It.v (.bool false),It.v _,It.v _,It.v _,It.v _,It.v _,It.v _,It.v _,It.v _] de rfl
  intro wd aB
  refine eI ?_
  refine vk aB (λx w2 aq=>?_) ?_
  refine dO rfl rfl rfl ?_
  exact pv
  refine vc (λx w2 aq=>?_) ?_
  refine zm ?_
  exact pv (by exact congrArg Value.bool (dT om))
  refine vc (λ_ _ _=>zf cL rfl pv) ?_
  refine vk aB (λx w2 aq=>?_) ?_
  have aT:=aT.ext aq
  refine zl cI rfl (aT.at rfl) ?_
  exact pv
  refine vk aB (λx w2 aq=>?_) ?_
  refine zi (i:=2) cv aH rfl rfl om ?_
  exact pv
  refine vc (λ_ _ _=>zf dz rfl pv) ?_
  refine vk aB (λx w2 aq=>?_) ?_
  have bX:=bX.ext aq
  refine zl ck rfl (bX 0 _ rfl) ?_
  exact pv
  refine vk aB (λx w2 aq=>?_) ?_
  refine aC (uV _ _) ?_
  rintro _ _ ⟨rfl,rfl⟩
  exact pv
  refine vc (λ_ _ _=>eJ rfl pv) ?_
  refine vc (λx w2 aq=>?_) ?_
  refine zm ?_
  exact pv (by exact congrArg Value.bool (show(!eO (nth t.au 2).az)=false from by rw[h2];rfl))
  refine vc (λ_ _ _=>zf cL rfl pv) ?_
  refine vk aB (λx w2 aq=>?_) ?_
  have aT:=aT.ext aq
  refine zl cI rfl (aT.at rfl) ?_
  exact pv
  refine vk aB (λx w2 aq=>?_) ?_
  refine zi (i:=1) cv aH rfl rfl om ?_
  exact pv
  refine vc (λ_ _ _=>zf dz rfl pv) ?_
  refine vk aB (λx w2 aq=>?_) ?_
  have bC:=bC.ext aq
  refine zl ck rfl (bC 0 _ rfl) ?_
  exact pv
  refine vc (λ_ _ _=>zf cL rfl pv) ?_
  refine vk aB (λx w2 aq=>?_) ?_
  have aT:=aT.ext aq
  refine zl cI rfl (aT.at rfl) ?_
  exact pv
  refine vk aB (λx w2 aq=>?_) ?_
  refine zi (i:=2) cv aH rfl rfl om ?_
  exact pv
  refine vc (λ_ _ _=>zf dz rfl pv) ?_
  refine vk aB (λx w2 aq=>?_) ?_
  have bX:=bX.ext aq
  refine zl ck rfl (bX 0 _ rfl) ?_
  exact pv
  refine vk aB (λx w2 aq=>?_) ?_
  refine cW rfl rfl ?_
  exact pv
  refine vc (λ_ _ _=>zp rfl pv) ?_
  refine vc (λx w2 aq=>?_) ?_
  refine zm ?_
  exact pv (by exact congrArg Value.bool (dF jK))
  refine vc (λ_ _ _=>zf cL rfl pv) ?_
  refine vk aB (λx w2 aq=>?_) ?_
  have aT:=aT.ext aq
  refine zl cI rfl (aT.at rfl) ?_
  exact pv
  refine vk aB (λx w2 aq=>?_) ?_
  refine zi (i:=3) cv aH rfl rfl om ?_
  exact pv
  refine vk aB (λx w2 aq=>?_) ?_
  have er:=er.ext aq
  refine zL bT aH rfl er rfl ?_
  exact pv
  refine vk aB (λx w2 aq=>?_) ?_
  have eY:=eY.ext aq
  refine aC (Au (nth t.au 3) om (dx.nth om) _ _ w2 eY) ?_
  rintro v3 w3 ⟨eh,aJ⟩
  have fZ:=aJ.size
  obtain rfl:=eh
  exact pk aJ
  refine vc (λ_ _ _=>eJ rfl pv) ?_
  refine vc (λ_ _ _=>zp rfl pv) ?_
  refine vc (λx w2 aq=>?_) ?_
  refine zm ?_
  exact pv (by exact congrArg Value.bool (show(!kr (nth t.au 3))=false from by rw[h3];rfl))
  refine vc (λ_ _ _=>zf cL rfl pv) ?_
  refine vk aB (λx w2 aq=>?_) ?_
  have aT:=aT.ext aq
  refine zl cI rfl (aT.at rfl) ?_
  exact pv
  refine vk aB (λx w2 aq=>?_) ?_
  refine zi (i:=4) cv aH rfl rfl om ?_
  exact pv
  refine vk aB (λx w2 aq=>?_) ?_
  have jJ:=jJ.ext aq
  refine zL bT aH rfl jJ rfl ?_
  exact pv
  refine vk aB (λx w2 aq=>?_) ?_
  have pV:=pV.ext aq
  refine aC (Au (nth t.au 4) om (dx.nth om) _ _ w2 pV) ?_
  rintro v3 w3 ⟨eh,aJ⟩
  have fZ:=aJ.size
  obtain rfl:=eh
  exact pk aJ
  refine vc (λ_ _ _=>eJ rfl pv) ?_
  refine vc (λ_ _ _=>zp rfl pv) ?_
  refine vc (λ_ _ _=>zp rfl pv) ?_
  exact trivial
  intro x pS iA
  have hK:=hK.ext iA
  change OW _ _ _ _ [] (aM (aN _ x _) (zZ 52 [_,_,_,_,_,_,_,_,_,_,_,_,_,_,_,_,_,_,_,_,_,_,_,_,_,_,_,_,_,_,_,_,_,_,_,_,_,_,_,_])) _
  refine ag ?_
  exact⟨(),⟨rfl,rfl,rfl,congrArg Value.bool (show(!kr (nth t.au 4))=_ from by unfold BW;rw[dT h5,h2,h3,h4,dT jK];rfl)⟩,hK,iA⟩
  intro gu qw yd hI
  obtain⟨hK,aG⟩:=hI
  have aT:=aT.ext aG;have bc:=bc.ext aG
  refine zc rfl (λh7=>?_) (λh7=>?_)
  have hz:dS t=false:=(by simp only[aE,dE,Bool.not_eq_true'] at h7;rw[oI,dF (λh=>h h7.1),h7.2];rfl)
  refine zr<|zA<|ag<|aV ?_
  exact⟨_,rfl,by rw[hz];rfl,hK⟩
  have IG:dS t=(t.au.drop (eX (nth t.au 0).az).1).all dS:=(by simp only[Bool.and_eq_false_iff,decide_eq_false_iff_not,Bool.not_eq_false'] at h7;rw[oI];rcases h7 with h|h;(·rw[dT h];rfl);(·rw[h,Bool.or_true];rfl))
  refine bz<|aQ<|zr<|zm<|zA<|ag<|cQ ?_
  refine fW (λk:Nat=>[(1,.pointer (some ⟨w.heap.size,0,none⟩)),(6,.int .i64 ((eX (nth t.au 0).az).2:Int)),(7,.int .i64 (k:Int))]) (λk w'=>ak [] w w'∧ak [] qw w'∧(eX (nth t.au 0).az).1<=k∧k<=t.au.length∧∀j,(eX (nth t.au 0).az).1<=j->j<k->dS (nth t.au j)=true) (λk=>t.au.length-k) ((eX (nth t.au 0).az).1) (⟨rfl,rfl,rfl⟩) (⟨hK,ak.refl _ _,lR _,om,by intro j h1 h2;omega⟩) ?_
  intro gg nN DN hI
  obtain⟨hK,kv,aK,hk,dy⟩:=hI
  have aT:=aT.ext kv;have bc:=bc.ext kv
  refine aQ<|zr<|zm<|zm<|fy rfl rfl rfl<|ag<|zc rfl (λh8=>?_) (λh8=>?_)
  have iu:gg<t.au.length:=om
  obtain⟨b1,fY,gX,qQ,gY,e1,bC,ss,oV⟩:=j7 bc (iI iu)
  cases e1
  subst ss
  have dd:=mO oV
  have dQ:=lY iu
  refine bz<|aQ<|cQ<|zr<|zf cL rfl<|zl cI rfl (aT.at rfl)<|zm<|zi cv aH rfl rfl iu<|zL bT aH rfl bC rfl<|aC (ih (nth t.au gg) om om (dx.nth iu) _ _ nN dd) ?_
  rintro v44 pW ⟨adh,jR⟩
  have alA:=jR.size
  have hK:=hK.ext jR;have kv:=kv.ext jR
  obtain rfl:=adh
  refine eJ rfl<|ag<|zc rfl (λh9=>?_) (λh9=>?_)
  have hz:dS t=false:=(by rw[IG];exact ada aK iu (by simpa using h9))
  refine zr<|zA<|ag<|aV ?_
  exact⟨_,rfl,by rw[hz];rfl,hK⟩
  have hy:dS (nth t.au gg)=true:=(by simpa using h9)
  refine bz<|db<|zm<|eF rfl rfl rfl (wrap_i64 _ om om)<|zA<|ag ?_
  exact⟨gg+1,⟨rfl,rfl,rfl⟩,⟨hK,kv,om,om,by intro j h1 h2;rcases Nat.lt_or_ge j gg with h|h;exact dy j h1 h;rw[show j=gg by omega];exact hy⟩,om⟩
  refine gB<|gC rfl<|zr<|zA<|ag<|aV ?_
  exact⟨_,rfl,by rw[IG,ac9 (λj h1 h2=>dy j h1 om)];rfl,hK⟩
section
variable {P:Program} {w:World}
theorem adi {t ty T:TypeId} {i:TypeInfo} {sz bytes:Nat} (ht:P.underlying t=some (.slice T)) (hi:P.info? T=some i) (hz:i.zero=some z) 
  (A6:i.size=sz) (ie:i.bytes=bytes) (xk:z.cells.size=sz)
  {v:Value} {g:Option Nat} {n:Nat} {xs:List Value} (eu:jX w T sz v g n xs)
  (ab aoff m c:Nat) (news:List Value) (hl:news.length=m*sz) (A7:iQ w ab aoff news) (h1:∀u∈news,u.oneCell'=true) (hm:0<m) (adj:0<i.size)
  (yS:n+m<=maxLen) (xl:(n+m)*bytes<=140737488355328):
  ∃v' g' w',(Builtin.append_ #[t,t] ty #[v,.slice (some ⟨ab,aoff,none⟩) m c]).run P w= .ok v' w'∧jX w' T sz v' g' (n+m) (xs++news)∧
   ((g'=g∧ak g.toList w w'∧∀b,g=some b->∃cur U,aY w b cur U∧0<cur.size)∨(g'=some w.heap.size∧ak [] w w')):=by
 subst A6
 subst ie
 have Hp:n+m<=9223372036854775807:=by simp only[maxLen] at yS;omega
 have hlen:(xs++news).length=(n+m)*i.size:=by rw[lA,eu.1,hl,Nat.add_mul]
 have vR:∀b o j:Nat,(⟨b,o,none⟩:Addr).add j=⟨b,o+j,none⟩:=λb o j=>by unfold Addr.add;split<;>simp_all
 have uo:∀j u,news[j]?=some u->w.cell? ((⟨ab,aoff,none⟩:Addr).add j)=some u:=λj u hu=>by rw[vR];exact A7 j u hu
 have grown:∀(old:Nat),old<n+m->
   jX (w.drew.alloc (.cells (xs.toArray++news.toArray++Builtin.zeroCells z.cells (grownCap w (n+m) old T-(n+m))) T)) T i.size
    (.slice (some ⟨w.heap.size,0,none⟩) (n+m) (grownCap w (n+m) old T)) (some w.heap.size) (n+m) (xs++news)∧
   ak [] w (w.drew.alloc (.cells (xs.toArray++news.toArray++Builtin.zeroCells z.cells (grownCap w (n+m) old T-(n+m))) T)):=by
  intro old ho
  have rI:=grownCap_ge w (n+m) old T
  have mH:grownCap w (n+m) old T<=maxLen:=grownCap_le_maxLen w (n+m) old T yS
  refine⟨⟨hlen,.inr ⟨w.heap.size,_,_,rfl,rfl,heap_alloc_new w.drew _,rI,mH,?_,?_⟩⟩,⟨rfl,rfl,rfl,sm,λk hk _=>heap_alloc_old w.drew _ k hk⟩⟩
  ·simp only[Array.size_append,List.size_toArray,size_zeroCells,xk,eu.1,hl,<-Nat.add_mul]
   congr 1
   omega
  ·simp only[Array.toList_append,List.append_assoc]
   rw[<-List.append_assoc,<-hlen]
   exact List.take_left
 rcases eu.2 with⟨rfl,rfl,rfl⟩|⟨b,cap,cur,rfl,rfl,hb,nI,mH,cJ,tg⟩
 ·have hx:xs=[]:=List.eq_nil_of_length_eq_zero (by simpa using eu.1)
  subst hx
  have hr:=run_append_nil (P:=P) w t ty T i z ht hi hz ⟨ab,aoff,none⟩ m c news hl uo hm om (by have hb:=xl;simp only[Nat.zero_add] at hb;omega)
  have lD:=grown 0 om
  simp only[Nat.zero_add,List.nil_append,Array.empty_append] at lD⊢
  exact⟨_,_,_,hr,lD.1,.inr ⟨rfl,lD.2⟩⟩
 ·by_cases sj:n+m<=cap
  ·have lB:n*i.size+news.length<=cur.size:=by rw[hl,cJ,<-Nat.add_mul];exact Nat.mul_le_mul_right _ sj
   have hr:=run_append_room (P:=P) w t ty T i ht hi b n cap cur hb ⟨ab,aoff,none⟩ m c news hl uo h1 sj lB
   refine⟨_,some b,_,hr,⟨hlen,.inr ⟨b,cap,_,rfl,rfl,setRow_heap w b cur _ T _ hb,sj,mH,?_,?_⟩⟩,.inl ⟨rfl,⟨rfl,rfl,rfl,sm,λk _ hk=>setRow_other w b k _ (by simpa using hk)⟩,λb' gV=>?_⟩⟩
   ·simp only[List.size_toArray,lA,List.length_take,List.length_drop,Array.length_toList]
    omega
   ·rw[tg,<-hlen]
    exact List.take_left
   ·cases gV
    refine⟨cur,T,hb,?_⟩
    rw[cJ]
    exact Nat.mul_pos om adj
  ·have holds:∀j u,xs[j]?=some u->w.cell? ((⟨b,0,none⟩:Addr).add j)=some u:=λj u hu=>by
    rw[vR,hb.cell]
    rw[<-tg,List.getElem?_take] at hu
    split at hu
    ·simpa using hu
    ·cases hu
   have hr:=run_append_grow (P:=P) w t ty T i z ht hi hz ⟨b,0,none⟩ n cap xs eu.1 holds ⟨ab,aoff,none⟩ m c news hl uo om om (growslice_fits om xl)
   have lD:=grown cap om
   exact⟨_,_,_,hr,lD.1,.inr ⟨rfl,lD.2⟩⟩
end
def qx (G:List Nat) (w:World) (T:TypeId) (g:Option Nat):Prop:=∀x,x∈g.toList->x∈G∨aY w x #[] T
theorem qx.ext {T:TypeId} (h:qx G w T g) (k:ak [] w w'):qx G w' T g:=λx hx=>(h x hx).imp id λh=>h.ext k
theorem qx.sub {T:TypeId} (h:∀x,x∈g.toList->x∈G):qx G w T g:=λx hx=>.inl (h x hx)
section
variable {P:Program} {n:Nat} {ops:Array Oper} {K:Env->World->Prop} {rest:List Oper} {e:Env} {w:World} {dst:Option Nat} {ty:TypeId} {pos:String} {after:Array Edge} {g:Option (Nat×Bool)} {x y:Operand}
theorem DO {G L:List Nat} {v u:Value} {gb:Option Nat} {xs ys:List aj} (hT:P.underlying t=some (.slice E)) (hE:TI P E 1 bytes z) (hg:gate ops e g=true) (hd:dw n dst=true) (hz:Nat.beq z.cells.size 1=true) (ie:Nat.ble bytes 1000=true) 
  (hx:ev e x=v) (hy:ev e y=u) (hO:dh w E v gb xs) (hu:bI L w u ys) (hG:fu G w) (bD:qx G w E gb) (hn:xs.length+ys.length<100000000)
  (k:∀v' g' w' G',dh w' E v' g' (xs++ys)->qx G' w' E g'->(∀x,x∈g'.toList->x∈gb.toList∨w.heap.size<=x)->(∀x,x∈G->x∈G')->Fr G w G' w'->fu G' w'->ak gb.toList w w'->OW P n ops K rest (cO e dst v') w'):
  OW P n ops K (⟨dst,.call {callee:=.builtin .append,args:=#[x,y],argTypes:=#[t,t]},ty,pos,after,g⟩::rest) e w:=by
 obtain⟨i,hi,Bi,iW,LL⟩:=hE.get
 have Dl:bytes<=1000:=Nat.le_of_ble_eq_true ie
 obtain⟨a2,n2,c2,rfl,fH⟩:=eN hu
 subst fH
 by_cases hp:0<ys.length
 ·obtain⟨ab,aoff,vs,rfl,H0,alB,hc,HV,_,iX⟩:=Rg hu (by rw[rM];exact hp)
  have bo:=LM HV
  subst bo
  obtain⟨v',g',w',kl,xr,adk⟩:=adi (P:=P) (ty:=ty) hT hi Bi iW LL (Nat.eq_of_beq_eq_true hz) hO ab aoff ys.length c2 (ys.map λx=>str x) sm hc (by intro u hu;obtain⟨s,_,rfl⟩:=List.mem_map.1 hu;rfl) hp (by rw[iW];decide) (by simp only[maxLen];omega)
   (Nat.le_trans (Nat.mul_le_mul (show xs.length+ys.length<=100000000 by omega) Dl) de)
  have MB:dh w' E v' g' (xs++ys):=by
   unfold dh
   rw[lA,List.map_append]
   exact xr
  refine fR hg hd (v:=v') (w':=w') (by
   simp only[execOp,resolve,invoke,builtin,Sem.run_bind,Sem.run_pure,Result.andThen_ok,List.map_toArray,List.map_cons,List.map_nil,hx,hy,kl]) ?_
  rcases adk with⟨rfl,hk,FQ⟩|⟨rfl,hk⟩
  ·have Aw:∀q,q∈g'.toList->q∈G:=λq hq=>by
    rcases bD q hq with h|h
    ·exact h
    ·obtain⟨cur,U,hb,hs⟩:=FQ q (by simpa using hq)
     unfold aY at h hb
     rw[h] at hb
     cases hb
     simp at hs
   exact k v' g' w' G MB (qx.sub Aw) (λq hq=>.inl hq) (λq hq=>hq) (Fr.of hk Aw) (λq hq=>lL (hG q hq) hk.size) hk
  ·have eU:w.heap.size<w'.heap.size:=MB.lt _ sm
   refine k v' _ w' (w.heap.size::G) MB (qx.sub sm) (λq hq=>.inr (by simp at hq;omega)) (λq hq=>mK _ hq) ⟨hk.any,λq hq=>?_⟩ (λq hq=>?_) hk.any
   ·rcases mC.1 hq with h|h
    ·right;omega
    ·exact .inl h
   ·rcases mC.1 hq with h|h
    ·omega
    ·exact lL (hG q h) hk.size
 ·have nP:ys=[]:=List.length_eq_zero_iff.1 om
  subst nP
  obtain⟨a,cap,rfl⟩:=kt hO
  have CX:xs.length<=cap:=by
   rcases hO.2 with⟨h,h2,_⟩|⟨_,_,_,_,h,_,h2,_⟩
   ·rw[h2];omega
   ·cases h;exact h2
  have kl:=Rh (P:=P) (w:=w) (t:=t) (ty:=ty) hT hi (a:=a) (m:=xs.length) (cap:=cap) CX (a2:=a2) (c2:=c2)
  refine fR hg hd (v:=.slice a xs.length cap) (w':=w) (by
   simp only[execOp,resolve,invoke,builtin,Sem.run_bind,Sem.run_pure,Result.andThen_ok,List.map_toArray,List.map_cons,List.map_nil,hx,hy]
   have e2:([]:List aj).length=0:=rfl
   rw[e2]
   simp only[kl,Sem.run_bind,Sem.run_pure,Result.andThen_ok]) ?_
  exact k _ gb w G (by rw[List.append_nil];exact hO) bD (λq hq=>.inl hq) (λq hq=>hq) (Fr.refl _ _) hG (ak.refl _ _)
theorem adl {T:Nat} (hT:P.underlying T=some (.slice E)) (hE:TI P E sz bytes z) (hg:gate ops e g=true) (hd:dw n dst=true) 
  (k:∀w',ak [] w w'->aY w' w.heap.size #[] E->w'.heap.size=w.heap.size+1->OW P n ops K rest (cO e dst (.slice (some ⟨w.heap.size,0,none⟩) 0 0)) w'):
  OW P n ops K (⟨dst,.buildSlice T 0 #[],ty,pos,after,g⟩::rest) e w:=
 fR hg hd (w':=w.alloc (.cells #[] E)) (by simp[execOp,QB (P:=P) (w:=w) hT hE]) (k _ (ak.alloc _ _ _) (aY.alloc _ _ _) sm)
theorem gN {T:Nat} (hT:P.underlying T=some (.slice E)) (hE:TI P E sz bytes z) (k:∀w',ak [] w w'->aY w' w.heap.size #[] E->w'.heap.size=w.heap.size+1->OW P n ops K rest (cO e dst (.slice (some ⟨w.heap.size,0,none⟩) 0 0)) w') (hg:gate ops e g=true:=by rfl) (hd:dw n dst=true:=by rfl):OW P n ops K (⟨dst,.buildSlice T 0 #[],ty,pos,after,g⟩::rest) e w:=adl hT hE hg hd k
end
def LP (N:Nat) (G G0:List Nat) (w:World) (T:TypeId) (v:Value) (xs:List aj):Prop:=∃g,dh w T v g xs∧qx G w T g∧∀x,x∈g.toList->x∉G0∧N<=x
theorem LP.ext {T:TypeId} (h:LP N G G0 w T v xs) (k:ak [] w w'):LP N G G0 w' T v xs:=let⟨g,h1,h2,h3⟩:=h;⟨g,h1.ext k,h2.ext k,h3⟩
structure Out (N:Nat) (G0:List Nat) (w w':World):Prop where
 ex:∃H,ak H w w'∧∀x,x∈H->x∉G0∧N<=x
theorem Out.jv (h:Out N G0 w w') {cs:Array Value} {T:TypeId} (hb:aY w b cs T) (hG:b∈G0):aY w' b cs T:=let⟨_,k,hH⟩:=h.ex;hb.aO k λhx=>(hH b hx).1 hG
theorem Out.since (h:Out w0.heap.size G0 w w') (k:ak L w0 w):ak L w0 w':=let⟨_,kk,hH⟩:=h.ex;k.since kk λx hx=>.inr (hH x hx).2
section
variable {P:Program} {n:Nat} {ops:Array Oper} {K:Env->World->Prop} {rest:List Oper} {e:Env} {w:World} {dst:Option Nat} {ty:TypeId} {pos:String} {after:Array Edge} {g:Option (Nat×Bool)} {x y:Operand}
theorem FT {N:Nat} {G0:List Nat} {bb:Nat} {u:Value} {ys:List aj} (hT:P.underlying t=some (.slice E)) (hE:TI P E 1 bytes z) (hg:gate ops e g=true) (hd:dw n dst=true) (hz:Nat.beq z.cells.size 1=true) (ie:Nat.ble bytes 1000=true) 
  (hx:ev e x= .slice (some ⟨bb,0,none⟩) 0 0) (hy:ev e y=u) (hb:fg G0 w bb #[] E) (S9:N<=bb) (hu:bI G0 w u ys) (hG:fu G0 w) (hn:ys.length<100000000)
  (k:∀v' w' G',(∀q,q∈G0->q∈G')->LP N G' G0 w' E v' ys->Fr G0 w G' w'->fu G' w'->Out N G0 w w'->OW P n ops K rest (cO e dst v') w'):
  OW P n ops K (⟨dst,.call {callee:=.builtin .append,args:=#[x,y],argTypes:=#[t,t]},ty,pos,after,g⟩::rest) e w:=by
 refine DO hT hE hg hd hz ie hx hy hb.jv.lp hu hG (λq hq=>.inr (by simp at hq;subst hq;exact hb.jv)) (by simpa using hn) ?_
 intro v' g' w' G' hO hZ hs kx bY hl hk
 refine k v' w' G' kx ⟨g',hO,hZ,λq hq=>⟨λTa=>?_,?_⟩⟩ bY hl ⟨_,hk,λq hq=>?_⟩
 ·rcases hs q hq with h|h
  ·simp at h;subst h;exact hb.out Ta
  ·have:=hG q Ta;omega
 ·rcases hs q hq with h|h
  ·simp at h;subst h;exact S9
  ·have:=hb.jv.lt;omega
 ·simp at hq;subst hq;exact⟨hb.out,S9⟩
theorem IH {N:Nat} {G G0:List Nat} {v u:Value} {xs ys:List aj} (hT:P.underlying t=some (.slice E)) (hE:TI P E 1 bytes z) (hg:gate ops e g=true) (hd:dw n dst=true) (hz:Nat.beq z.cells.size 1=true) (ie:Nat.ble bytes 1000=true) 
  (hx:ev e x=v) (hy:ev e y=u) (hO:LP N G G0 w E v xs) (hu:bI G w u ys) (hG:fu G w) (kx:∀q,q∈G0->q∈G) (hn:xs.length+ys.length<100000000)
  (k:∀v' w',bI G0 w' v' (xs++ys)->Fr G w G0 w'->fu G0 w'->Out N G0 w w'->OW P n ops K rest (cO e dst v') w'):
  OW P n ops K (⟨dst,.call {callee:=.builtin .append,args:=#[x,y],argTypes:=#[t,t]},ty,pos,after,g⟩::rest) e w:=by
 obtain⟨gb,h1,h2,h3⟩:=hO
 refine DO hT hE hg hd hz ie hx hy h1 hu hG h2 hn ?_
 intro v' g' w' G' hO hZ hs Tb bY hl hk
 refine k v' w' (hO.rep λb hb jS=>?_) (bY.to λq hq=>.inl (Tb q (kx q hq))) (λq hq=>hl q (Tb q (kx q hq))) ⟨_,hk,λq hq=>h3 q hq⟩
 rcases hs b (by simp[hb]) with h|h
 ·exact(h3 b h).1 jS
 ·have:=hG b (kx b jS);omega
end
theorem eC.out {T:TypeId} {rows:List (List C)} (h:eC G w T sz v g rows) (k:Fr G w G' w') (ho:Out N G0 w w') (hg:∀x,x∈g.toList->x∈G0):eC G' w' T sz v g rows:=
 let⟨_,kk,hH⟩:=ho.ex;h.aO k kk λx hx fF=>(hH x fF).1 (hg x hx)
section
variable {P:Program} {n:Nat} {ops:Array Oper} {K:Env->World->Prop} {rest:List Oper} {e:Env} {w:World} {pos:String} {ty:TypeId} {after:Array Edge} {g:Option (Nat×Bool)} {x y:Operand}
theorem sP {G:List Nat} {T:Nat} {v:Value} {vs:List Value} {row:List C} {E gb:Nat} {N c:Nat} {rows:List (List C)} {b o i:Nat} (kK:TI P T sz bytes z) (hg:gate ops e g=true) 
  (hx:ev e x= .pointer (some ⟨b,o,none⟩)) (hy:ev e y=v) (hv:v.cells=vs.toArray) (ho:o=i*sz) (hO:eC G w E sz (.slice (some ⟨b,0,none⟩) N c) (some gb) rows) (hG:fu G w) (oB:gb∈G) (hi:i<rows.length) (h1:vs.all Value.oneCell'=true)
  (oA:row.length=sz) (hr:dP G w vs row)
  (k:∀w',ak [gb] w w'->w'.heap.size=w.heap.size->eC G w' E sz (.slice (some ⟨b,0,none⟩) N c) (some gb) (rows.set i row)->OW P n ops K rest e w'):
  OW P n ops K (⟨none,.store T x y,ty,pos,after,g⟩::rest) e w:=by
 obtain⟨⟨xs,eu,jm⟩,iX⟩:=hO
 have rP:∀q,q∈gb::G.filter (λq=>decide (q≠gb))->q∈G∨w.heap.size<=q:=λq hq=>by
  rcases mC.1 hq with h|h
  ·exact .inl (h▸oB)
  ·exact .inl (List.mem_filter.1 h).1
 have hGr:Gr 0 (G.filter λq=>decide (q≠gb)) w E sz (.slice (some ⟨b,0,none⟩) N c) (some gb) rows:=
  ⟨⟨xs,eu,jm.fresh rP,iX,λq hq oI=>by cases hq;simpa using(List.mem_filter.1 oI).2⟩,λ_ _=>Nat.zero_le _,λq hq=>hG q (List.mem_filter.1 hq).1,Nat.zero_le _⟩
 refine abL kK hg hx hy hv ho hGr hi h1 oA (hr.fresh rP) ?_
 intro w' hk hz ko
 obtain⟨xs',h'⟩:=ko.own
 refine k w' hk hz ⟨⟨xs',h'.own,h'.rep.fresh λq hq=>?_⟩,h'.row⟩
 by_cases Tc:q=gb
 ·exact .inl (by simp[Tc])
 ·exact .inl (by simp[Tc,hq])
end
theorem adn {s:aj} {t:aA} (h:Dq s t):(((ba s).isSome&&dS t)&&decide ((fN t:Int)<=120))=mv s:=by
 unfold mv ID
 cases hp:ba s with
 |none=>rfl
 |some u=>rw[h.1 u hp];exact congrArg (λb=>dS u&&b) (decide_eq_decide.2 om)
theorem FU (s:aj) (L:List Nat) (w:World) (hL:∀x,x∈L->x<w.heap.size):
  cj Tryz.prog 81 [str s] w λv w'=>(∃t tv,v= .tuple #[tv,.bool (mv s)]∧bS L w' tv t∧Dq s t)∧ak [] w w':=by
 have hK:=ak.refl [] w
 refine lF [.cell 2 66,.tmp 3] 22 Tryz.func81 rfl Zv rfl rfl rfl ?_
 refine zr<|eA aH rfl rfl rfl ?_
 intro w1 aK aZ dY
 have hK:=hK.grow;have hK:=hK.ext aK
 refine zA<|ag<|zr<|zm<|aC (HW s (w.heap.size::L) w1 (by intro x hx;rcases mC.1 hx with rfl|hx;omega;have:=hL x hx;omega)) ?_
 rintro v2 w2 ⟨dA,aq⟩
 have eE:=aq.size
 have hK:=hK.ext aq;have aZ:=aZ.ext aq
 obtain⟨t,tv,rfl,ht,hp⟩:=dA
 obtain⟨pa,pn,pc,rfl,fP,bc⟩:=dM ht
 subst fP
 have dx:∀h:(ba s).isSome=true,WF t∧t.size<=12001:=λh=>Dp hp.1 h
 refine zm<|zx (i:=0) rfl rfl<|zx (i:=1) rfl rfl<|eA aH rfl rfl rfl ?_
 intro w3 aJ aI iH
 have hK:=hK.grow;have hK:=hK.ext aJ;have aZ:=aZ.grow;have aZ:=aZ.ext aJ;have ht:=ht.grow;have ht:=ht.ext aJ
 refine du aH rfl rfl rfl aI rfl ?_
 intro w4 aF aI iS
 have hK:=hK.aL aF sx;have aZ:=aZ.aL aF sx;have ht:=ht.aL aF sx
 refine zA<|ag<|aQ ?_
 refine qf ei (cP w.heap.size ([str t.az,.slice pa t.au.length pc]) 66) 13 (rA 11 11++[100011,3]) (rA 11 11++[100011,3]) [[],[],[1],[2],[2,3],[2,4],[5],[6],[6,7],[6,8],[6,9],[0],[10]] [λv _=>v=(.agg #[str t.az,.slice pa t.au.length pc]),λv _=>v=(.bool ((ba s).isSome)),λv _=>v=(.bool ((ba s).isSome)),λv _=>((ba s).isSome)=true->v=(.agg #[str t.az,.slice pa t.au.length pc]),λv _=>((ba s).isSome)=true->v=(.bool (dS t)),λv _=>v=(.bool ((ba s).isSome&&dS t)),λv _=>v=(.bool ((ba s).isSome&&dS t)),λv _=>((ba s).isSome&&dS t)=true->v=(.agg #[str t.az,.slice pa t.au.length pc]),λv _=>((ba s).isSome&&dS t)=true->v=(.int .i64 (fN t:Int)),λv _=>((ba s).isSome&&dS t)=true->v=(.bool (decide ((fN t:Int)<=120))),λv _=>v=(.bool (((ba s).isSome&&dS t)&&decide ((fN t:Int)<=120))),λ_ ww=>aY ww w.heap.size ([str t.az,.slice pa t.au.length pc]).toArray 66,λv _=>v=(.bool (((ba s).isSome&&dS t)&&decide ((fN t:Int)<=120)))] de (cX (cX (cX (eV (eV (cX (cX (eV (eV (eV (cX (CY (cX trivial))))))))))))) (λwd aB=>?_) ?_
 refine bN ?_ ?_
 intro x vs w5 e aU hd he
 replace aU:=(cP w.heap.size ([str t.az,.slice pa t.au.length pc]) 66).trans aB aU
 have aI:=aI.aL aU.1 sx
 replace he:e=aM (aN _ x _) []:=he
 subst he
 refine zL bT aH rfl aI.all rfl<|ag ?_
 exact dn ((cP w.heap.size ([str t.az,.slice pa t.au.length pc]) 66).refl _) rfl
 refine bN ?_ ?_
 intro x vs w5 e aU hd he
 replace aU:=(cP w.heap.size ([str t.az,.slice pa t.au.length pc]) 66).trans aB aU
 replace he:e=aM (aN _ x _) []:=he
 subst he
 refine zm<|ag ?_
 exact dn ((cP w.heap.size ([str t.az,.slice pa t.au.length pc]) 66).refl _) rfl
 refine bN ?_ ?_
 intro x vs w5 e aU hd he
 have d1:vs 1=(.bool ((ba s).isSome)):=hd
 replace aU:=(cP w.heap.size ([str t.az,.slice pa t.au.length pc]) 66).trans aB aU
 replace he:e=aM (aN _ x _) [(12,vs 1)]:=he
 rw[d1] at he
 subst he
 refine zm<|ag ?_
 exact dn ((cP w.heap.size ([str t.az,.slice pa t.au.length pc]) 66).refl _) rfl
 refine bN ?_ ?_
 intro x vs w5 e aU hd he
 have d2:vs 2=(.bool ((ba s).isSome)):=hd
 replace aU:=(cP w.heap.size ([str t.az,.slice pa t.au.length pc]) 66).trans aB aU
 have aI:=aI.aL aU.1 sx
 rcases bE ((ba s).isSome) with hg|hg
 rw[hg] at d2
 replace he:e=aM (aN _ x _) [(13,vs 2)]:=he
 rw[d2] at he
 subst he
 refine zL bT aH rfl aI.all rfl<|ag ?_
 exact dn ((cP w.heap.size ([str t.az,.slice pa t.au.length pc]) 66).refl _) (show((ba s).isSome)=true->_=((.agg #[str t.az,.slice pa t.au.length pc]):Value) from λ_=>rfl)
 rw[hg] at d2
 replace he:e=aM (aN _ x _) [(13,vs 2)]:=he
 rw[d2] at he
 subst he
 refine zs<|ag ?_
 exact dn ((cP w.heap.size ([str t.az,.slice pa t.au.length pc]) 66).refl _) (show((ba s).isSome)=true->_=(_:Value) from λhh=>nomatch hg.symm.trans hh)
 refine bN ?_ ?_
 intro x vs w5 e aU hd he
 have aR:(vs 2=(.bool ((ba s).isSome)))∧(((ba s).isSome)=true->vs 3=(.agg #[str t.az,.slice pa t.au.length pc])):=hd
 obtain⟨d2,d3⟩:=aR
 replace aU:=(cP w.heap.size ([str t.az,.slice pa t.au.length pc]) 66).trans aB aU
 have ht:=ht.aL aU.1 sx
 rcases bE ((ba s).isSome) with hg|hg
 rw[hg] at d2
 replace d3:=d3 hg
 replace he:e=aM (aN _ x _) [(13,vs 2),(14,vs 3)]:=he
 rw[d2,d3] at he
 subst he
 refine aC (ade t.size t (lR _) (by have:=(dx hg).2;omega) (dx hg).1 _ _ w5 ht) ?_
 rintro v6 w6 ⟨lu,bF⟩
 have oM:=bF.size
 obtain rfl:=lu
 refine ag ?_
 exact dn ((cP w.heap.size ([str t.az,.slice pa t.au.length pc]) 66).of bF) (show((ba s).isSome)=true->_=((.bool (dS t)):Value) from λ_=>rfl)
 rw[hg] at d2
 replace he:e=aM (aN _ x _) [(13,vs 2),(14,vs 3)]:=he
 rw[d2] at he
 subst he
 refine zs<|ag ?_
 exact dn ((cP w.heap.size ([str t.az,.slice pa t.au.length pc]) 66).refl _) (show((ba s).isSome)=true->_=(_:Value) from λhh=>nomatch hg.symm.trans hh)
 refine bN ?_ ?_
 intro x vs w5 e aU hd he
 have aR:(vs 2=(.bool ((ba s).isSome)))∧(((ba s).isSome)=true->vs 4=(.bool (dS t))):=hd
 obtain⟨d2,d4⟩:=aR
 replace aU:=(cP w.heap.size ([str t.az,.slice pa t.au.length pc]) 66).trans aB aU
 rcases bE ((ba s).isSome) with hg|hg
 rw[hg] at d2
 replace d4:=d4 hg
 replace he:e=aM (aN _ x _) [(13,vs 2),(15,vs 4)]:=he
 rw[d2,d4] at he
 subst he
 refine zp rfl<|ag ?_
 exact dn ((cP w.heap.size ([str t.az,.slice pa t.au.length pc]) 66).refl _) (by first|rfl|(rw[hg];rfl))
 rw[hg] at d2
 replace he:e=aM (aN _ x _) [(13,vs 2),(15,vs 4)]:=he
 rw[d2] at he
 subst he
 refine zp rfl<|ag ?_
 exact dn ((cP w.heap.size ([str t.az,.slice pa t.au.length pc]) 66).refl _) (by first|rfl|(rw[hg];rfl))
 refine bN ?_ ?_
 intro x vs w5 e aU hd he
 have d5:vs 5=(.bool ((ba s).isSome&&dS t)):=hd
 replace aU:=(cP w.heap.size ([str t.az,.slice pa t.au.length pc]) 66).trans aB aU
 replace he:e=aM (aN _ x _) [(16,vs 5)]:=he
 rw[d5] at he
 subst he
 refine zm<|ag ?_
 exact dn ((cP w.heap.size ([str t.az,.slice pa t.au.length pc]) 66).refl _) rfl
 refine bN ?_ ?_
 intro x vs w5 e aU hd he
 have d6:vs 6=(.bool ((ba s).isSome&&dS t)):=hd
 replace aU:=(cP w.heap.size ([str t.az,.slice pa t.au.length pc]) 66).trans aB aU
 have aI:=aI.aL aU.1 sx
 rcases bE ((ba s).isSome&&dS t) with hg|hg
 rw[hg] at d6
 replace he:e=aM (aN _ x _) [(17,vs 6)]:=he
 rw[d6] at he
 subst he
 refine zL bT aH rfl aI.all rfl<|ag ?_
 exact dn ((cP w.heap.size ([str t.az,.slice pa t.au.length pc]) 66).refl _) (show((ba s).isSome&&dS t)=true->_=((.agg #[str t.az,.slice pa t.au.length pc]):Value) from λ_=>rfl)
 rw[hg] at d6
 replace he:e=aM (aN _ x _) [(17,vs 6)]:=he
 rw[d6] at he
 subst he
 refine zs<|ag ?_
 exact dn ((cP w.heap.size ([str t.az,.slice pa t.au.length pc]) 66).refl _) (show((ba s).isSome&&dS t)=true->_=(_:Value) from λhh=>nomatch hg.symm.trans hh)
 refine bN ?_ ?_
 intro x vs w5 e aU hd he
 have aR:(vs 6=(.bool ((ba s).isSome&&dS t)))∧(((ba s).isSome&&dS t)=true->vs 7=(.agg #[str t.az,.slice pa t.au.length pc])):=hd
 obtain⟨d6,d7⟩:=aR
 replace aU:=(cP w.heap.size ([str t.az,.slice pa t.au.length pc]) 66).trans aB aU
 have ht:=ht.aL aU.1 sx
 rcases bE ((ba s).isSome&&dS t) with hg|hg
 rw[hg] at d6
 replace d7:=d7 hg
 replace he:e=aM (aN _ x _) [(17,vs 6),(18,vs 7)]:=he
 rw[d6,d7] at he
 subst he
 refine aC (SZ t.size t (lR _) (by have:=(dx ((aE _ _).mp hg).1).2;omega) (dx ((aE _ _).mp hg).1).1 _ _ w5 ht) ?_
 rintro v6 w6 ⟨lu,bF⟩
 have oM:=bF.size
 obtain rfl:=lu
 refine ag ?_
 exact dn ((cP w.heap.size ([str t.az,.slice pa t.au.length pc]) 66).of bF) (show((ba s).isSome&&dS t)=true->_=((.int .i64 (fN t:Int)):Value) from λ_=>rfl)
 rw[hg] at d6
 replace he:e=aM (aN _ x _) [(17,vs 6),(18,vs 7)]:=he
 rw[d6] at he
 subst he
 refine zs<|ag ?_
 exact dn ((cP w.heap.size ([str t.az,.slice pa t.au.length pc]) 66).refl _) (show((ba s).isSome&&dS t)=true->_=(_:Value) from λhh=>nomatch hg.symm.trans hh)
 refine bN ?_ ?_
 intro x vs w5 e aU hd he
 have aR:(vs 6=(.bool ((ba s).isSome&&dS t)))∧(((ba s).isSome&&dS t)=true->vs 8=(.int .i64 (fN t:Int))):=hd
 obtain⟨d6,d8⟩:=aR
 replace aU:=(cP w.heap.size ([str t.az,.slice pa t.au.length pc]) 66).trans aB aU
 rcases bE ((ba s).isSome&&dS t) with hg|hg
 rw[hg] at d6
 replace d8:=d8 hg
 replace he:e=aM (aN _ x _) [(17,vs 6),(19,vs 8)]:=he
 rw[d6,d8] at he
 subst he
 refine qK rfl rfl rfl rfl rfl<|ag ?_
 exact dn ((cP w.heap.size ([str t.az,.slice pa t.au.length pc]) 66).refl _) (show((ba s).isSome&&dS t)=true->_=((.bool (decide ((fN t:Int)<=120))):Value) from λ_=>rfl)
 rw[hg] at d6
 replace he:e=aM (aN _ x _) [(17,vs 6),(19,vs 8)]:=he
 rw[d6] at he
 subst he
 refine zs<|ag ?_
 exact dn ((cP w.heap.size ([str t.az,.slice pa t.au.length pc]) 66).refl _) (show((ba s).isSome&&dS t)=true->_=(_:Value) from λhh=>nomatch hg.symm.trans hh)
 refine bN ?_ ?_
 intro x vs w5 e aU hd he
 have aR:(vs 6=(.bool ((ba s).isSome&&dS t)))∧(((ba s).isSome&&dS t)=true->vs 9=(.bool (decide ((fN t:Int)<=120)))):=hd
 obtain⟨d6,d9⟩:=aR
 replace aU:=(cP w.heap.size ([str t.az,.slice pa t.au.length pc]) 66).trans aB aU
 rcases bE ((ba s).isSome&&dS t) with hg|hg
 rw[hg] at d6
 replace d9:=d9 hg
 replace he:e=aM (aN _ x _) [(17,vs 6),(20,vs 9)]:=he
 rw[d6,d9] at he
 subst he
 refine zp rfl<|ag ?_
 exact dn ((cP w.heap.size ([str t.az,.slice pa t.au.length pc]) 66).refl _) (by first|rfl|(rw[hg];rfl))
 rw[hg] at d6
 replace he:e=aM (aN _ x _) [(17,vs 6),(20,vs 9)]:=he
 rw[d6] at he
 subst he
 refine zp rfl<|ag ?_
 exact dn ((cP w.heap.size ([str t.az,.slice pa t.au.length pc]) 66).refl _) (by first|rfl|(rw[hg];rfl))
 refine bN ?_ ?_
 intro x vs w5 e aU hd he
 have d0:vs 0=(.agg #[str t.az,.slice pa t.au.length pc]):=hd
 replace aU:=(cP w.heap.size ([str t.az,.slice pa t.au.length pc]) 66).trans aB aU
 obtain⟨us,uX,uY⟩:=aU.2.2 ⟨_,(by rfl),aZ⟩
 replace he:e=aM (aN _ x _) [(11,vs 0)]:=he
 rw[d0] at he
 subst he
 refine du aH rfl rfl rfl uY (by rw[uX];rfl) ?_
 intro w6 bF hb lG
 refine ag ?_
 exact dn ⟨bF,λ_=>hb,λ_=>⟨_,rfl,hb⟩⟩ hb
 refine bN ?_ ?_
 intro x vs w5 e aU hd he
 have d10:vs 10=(.bool (((ba s).isSome&&dS t)&&decide ((fN t:Int)<=120))):=hd
 replace aU:=(cP w.heap.size ([str t.az,.slice pa t.au.length pc]) 66).trans aB aU
 replace he:e=aM (aN _ x _) [(21,vs 10)]:=he
 rw[d10] at he
 subst he
 refine zA<|ag ?_
 exact dn ((cP w.heap.size ([str t.az,.slice pa t.au.length pc]) 66).refl _) rfl
 exact trivial
 intro x vs pW jR bJ
 have d0:vs 0=(.agg #[str t.az,.slice pa t.au.length pc]):=bJ 0 de
 have d1:vs 1=(.bool ((ba s).isSome)):=bJ 1 de
 have d2:vs 2=(.bool ((ba s).isSome)):=bJ 2 de
 have d3:((ba s).isSome)=true->vs 3=(.agg #[str t.az,.slice pa t.au.length pc]):=bJ 3 de
 have d4:((ba s).isSome)=true->vs 4=(.bool (dS t)):=bJ 4 de
 have d5:vs 5=(.bool ((ba s).isSome&&dS t)):=bJ 5 de
 have d6:vs 6=(.bool ((ba s).isSome&&dS t)):=bJ 6 de
 have d7:((ba s).isSome&&dS t)=true->vs 7=(.agg #[str t.az,.slice pa t.au.length pc]):=bJ 7 de
 have d8:((ba s).isSome&&dS t)=true->vs 8=(.int .i64 (fN t:Int)):=bJ 8 de
 have d9:((ba s).isSome&&dS t)=true->vs 9=(.bool (decide ((fN t:Int)<=120))):=bJ 9 de
 have d10:vs 10=(.bool (((ba s).isSome&&dS t)&&decide ((fN t:Int)<=120))):=bJ 10 de
 have d11:aY pW w.heap.size ([str t.az,.slice pa t.au.length pc]).toArray 66:=bJ 11 de
 have d12:vs 12=(.bool (((ba s).isSome&&dS t)&&decide ((fN t:Int)<=120))):=bJ 12 de
 have hK:=hK.aL jR.1 sx;have ht:=ht.aL jR.1 sx
 have aZ:=d11
 change OW _ _ _ _ [] (aM (aN _ x _) (zZ 11 [vs 0,vs 1,vs 2,vs 3,vs 4,vs 5,vs 6,vs 7,vs 8,vs 9,vs 10]++[(100011,vs 11),(3,vs 12)])) _
 rw[d0,d1,d2,d5,d6,d10,d12]
 refine ag<|aV ?_
 exact⟨[_,_],⟨gO bT aH rfl aZ rfl,rfl⟩,⟨t,_,by rw[adn hp];rfl,ht.ji (λx hx=>by simp[hx]),hp⟩,hK⟩
theorem MC (s:aj) (w:World):cj Tryz.prog 86 [str s] w λr w'=>r= .bool (mv s)∧ak [] w w':=by
 have hK:=ak.refl [] w
 refine cV [.tmp 2] 11 Tryz.func86 rfl Zz rfl rfl ?_
 refine zr<|zA<|ag<|zr<|zm<|aC (FU s [] w sm) ?_
 rintro v1 w1 ⟨fM,aK⟩
 have dQ:=aK.size
 have hK:=hK.ext aK
 obtain⟨t,tv,rfl,ht,hp⟩:=fM
 obtain⟨pa,pn,pc,rfl,fP,bc⟩:=dM ht
 refine zm<|zx (i:=0) rfl rfl<|zx (i:=1) rfl rfl<|eA aH rfl rfl rfl ?_
 intro w2 aq bR eM
 have hK:=hK.grow;have hK:=hK.ext aq
 refine du aH rfl rfl rfl bR rfl ?_
 intro w3 aJ bR iH
 have hK:=hK.aL aJ sx
 refine zA<|ag<|zr<|zm<|zA<|ag<|aV ?_
 exact⟨_,rfl,rfl,hK⟩
def nZ (xs ys:List aj) (s d:aj):Nat->aj
 |0=>d
 |k+1=>if aD xs k=s then aD ys k else nZ xs ys s d k
theorem Td {xs' ys':List aj} {s d:aj}:∀{k:Nat},(∀i,i<k->aD xs i=aD xs' i∧aD ys i=aD ys' i)->nZ xs ys s d k=nZ xs' ys' s d k
 |0,_=>rfl
 |k+1,h=>by
  unfold nZ
  rw[(h k om).1,(h k om).2,Td λi hi=>h i om]
theorem Te (h:i<xs.length):aD (xs++ys) i=aD xs i:=by
 simp only[aD,gG]
 rw[List.getElem?_append_left h]
theorem Tf (h:i=xs.length):aD (xs++[x]) i=x:=by
 subst h;simp[aD]
theorem Tg {xs:List aj} {y s d:aj} (h:xs.length=ys.length):nZ (xs++[x]) (ys++[y]) s d (xs++[x]).length=if x=s then y else nZ xs ys s d xs.length:=by
 rw[lA,List.length_singleton,nZ,Tf rfl,Tf h,Td (xs':=xs) (ys':=ys)]
 intro i hi
 exact⟨Te hi,Te om⟩
theorem Th {α:Type} {Q:List α->Prop} (h0:Q []) (h1:∀l a,Q l->Q (l++[a])) (l:List α):Q l:=by
 have:∀r:List α,Q r.reverse:=by
  intro r
  induction r with
  |nil=>exact h0
  |cons a r ih=>rw[List.reverse_cons];exact h1 _ _ ih
 have:=this l.reverse
 rwa [List.reverse_reverse] at this
def Ti:Option Ty->aj
 |some T=>T.text
 |none=>[]
theorem Tj (s:aj):∀Γ:Sc,nZ (Γ.map Prod.fst) (Γ.map λp=>p.2.text) s [] Γ.length=Ti (look Γ s):=by
 refine Th rfl λΓ p ih=>?_
 ·obtain⟨x,T⟩:=p
  have:=Tg (xs:=Γ.map Prod.fst) (ys:=Γ.map λp=>p.2.text) (x:=x) (y:=T.text) (s:=s) (d:=[]) sm
  rw[mV,List.map_append,List.map_append,lA]
  simp only[List.map_cons,List.map_nil,lA,List.length_map,List.length_singleton] at this⊢
  rw[this,ih]
  split<;>rfl
theorem ado (s:aj):∀ρ:Rn,nZ (ρ.map Prod.fst) (ρ.map Prod.snd) s s ρ.length=qX ρ s:=by
 refine Th rfl λρ p ih=>?_
 ·obtain⟨x,y⟩:=p
  have:=Tg (xs:=ρ.map Prod.fst) (ys:=ρ.map Prod.snd) (x:=x) (y:=y) (s:=s) (d:=s) sm
  rw[Fi,List.map_append,List.map_append,lA]
  simp only[List.map_cons,List.map_nil,lA,List.length_map,List.length_singleton] at this⊢
  rw[this,ih]
theorem FV (xs ys:List aj) (hl:xs.length=ys.length) (hx:xs.length<=1000000000) (s:aj) (v u:Value) (L L2:List Nat) (w:World) (hv:bI L w v xs) (hu:bI L2 w u ys):
  cj Tryz.prog 153 [v,u,str s] w λr w'=>r=str (nZ xs ys s [] xs.length)∧ak [] w w':=by
 obtain⟨a,n,c,rfl,hn⟩:=eN hv
 obtain⟨a2,n2,c2,rfl,fH⟩:=eN hu
 subst hn fH
 have hK:=ak.refl [] w
 refine cV [.tmp 6] 25 Tryz.func153 rfl Ym rfl rfl ?_
 refine zr<|zA<|ag<|aQ<|zr<|zm<|dX bh rfl<|mJ rfl rfl rfl rfl rfl (wrap_i64 _ om om)<|zA<|ag<|cQ ?_
 refine fW (λk:Nat=>[(0,.slice a xs.length c),(1,.slice a2 ys.length c2),(2,str s),(7,.int .i64 ((k:Int)-1))]) (λk w'=>w'=w∧k<=xs.length∧nZ xs ys s [] xs.length=nZ xs ys s [] k) (λk=>k) xs.length (⟨rfl,rfl,rfl,rfl⟩) (⟨rfl,lR _,rfl⟩) ?_
 intro gg w1 e1 hI
 obtain⟨e,hk,hq⟩:=hI
 subst e
 refine aQ<|zr<|zm<|lX rfl rfl rfl rfl rfl<|ag<|zc rfl (λh1=>?_) (λh1=>?_)
 have aR:∃k,gg=k+1:=⟨gg-1,om⟩
 obtain⟨k,rfl⟩:=aR
 have uZ:=ll (xs:=xs) (i:=k) om
 have MD:=ll (xs:=ys) (i:=k) om
 obtain⟨b1,fY,rfl,bC⟩:=qR hv uZ
 obtain⟨b2,ni,rfl,bX⟩:=qR hu MD
 have hi:((k+1:Nat):Int)-1=(k:Int):=by omega
 rw[hi]
 refine bz<|aQ<|cQ<|zr<|zm<|zm<|zi bh bA rfl rfl om<|zl ck rfl (bC 0 _ rfl)<|zm<|cW rfl rfl<|ag<|zc rfl (λh2=>?_) (λh2=>?_)
 refine zr<|zm<|zm<|zi bh bA rfl rfl om<|zl ck rfl (bX 0 _ rfl)<|zA<|ag<|aV ?_
 exact⟨_,rfl,by rw[hq,nZ,iP h2];rfl,hK⟩
 have eK:=h2
 refine bz<|db<|zm<|mJ rfl rfl rfl rfl rfl (wrap_i64 _ om om)<|zA<|ag ?_
 exact⟨k,⟨rfl,rfl,rfl,rfl⟩,⟨rfl,om,by rw[hq,nZ,iN eK]⟩,om⟩
 have h0:gg=0:=by omega
 refine gB<|gC rfl<|zr<|zA<|ag<|aV ?_
 exact⟨_,rfl,by rw[hq,h0];rfl,hK⟩
theorem adp (xs ys:List aj) (hl:xs.length=ys.length) (hx:xs.length<=1000000000) (s:aj) (v u:Value) (L L2:List Nat) (w:World) (hv:bI L w v xs) (hu:bI L2 w u ys):
  cj Tryz.prog 202 [v,u,str s] w λr w'=>r=str (nZ xs ys s s xs.length)∧ak [] w w':=by
 obtain⟨a,n,c,rfl,hn⟩:=eN hv
 obtain⟨a2,n2,c2,rfl,fH⟩:=eN hu
 subst hn fH
 have hK:=ak.refl [] w
 refine cV [.tmp 6] 26 Tryz.func202 rfl YL rfl rfl ?_
 refine zr<|zA<|ag<|aQ<|zr<|zm<|dX bh rfl<|mJ rfl rfl rfl rfl rfl (wrap_i64 _ om om)<|zA<|ag<|cQ ?_
 refine fW (λk:Nat=>[(0,.slice a xs.length c),(1,.slice a2 ys.length c2),(2,str s),(7,.int .i64 ((k:Int)-1))]) (λk w'=>w'=w∧k<=xs.length∧nZ xs ys s s xs.length=nZ xs ys s s k) (λk=>k) xs.length (⟨rfl,rfl,rfl,rfl⟩) (⟨rfl,lR _,rfl⟩) ?_
 intro gg w1 e1 hI
 obtain⟨e,hk,hq⟩:=hI
 subst e
 refine aQ<|zr<|zm<|lX rfl rfl rfl rfl rfl<|ag<|zc rfl (λh1=>?_) (λh1=>?_)
 have aR:∃k,gg=k+1:=⟨gg-1,om⟩
 obtain⟨k,rfl⟩:=aR
 have uZ:=ll (xs:=xs) (i:=k) om
 have MD:=ll (xs:=ys) (i:=k) om
 obtain⟨b1,fY,rfl,bC⟩:=qR hv uZ
 obtain⟨b2,ni,rfl,bX⟩:=qR hu MD
 have hi:((k+1:Nat):Int)-1=(k:Int):=by omega
 rw[hi]
 refine bz<|aQ<|cQ<|zr<|zm<|zm<|zi bh bA rfl rfl om<|zl ck rfl (bC 0 _ rfl)<|zm<|cW rfl rfl<|ag<|zc rfl (λh2=>?_) (λh2=>?_)
 refine zr<|zm<|zm<|zi bh bA rfl rfl om<|zl ck rfl (bX 0 _ rfl)<|zA<|ag<|aV ?_
 exact⟨_,rfl,by rw[hq,nZ,iP h2];rfl,hK⟩
 have eK:=h2
 refine bz<|db<|zm<|mJ rfl rfl rfl rfl rfl (wrap_i64 _ om om)<|zA<|ag ?_
 exact⟨k,⟨rfl,rfl,rfl,rfl⟩,⟨rfl,om,by rw[hq,nZ,iN eK]⟩,om⟩
 have h0:gg=0:=by omega
 refine gB<|gC rfl<|zr<|zm<|zA<|ag<|aV ?_
 exact⟨_,rfl,by rw[hq,h0];rfl,hK⟩
theorem II:∀row,row∈jh xs->∀c,c∈row->∀v,c= .val v->v.oneCell'=true:=by
 intro row hr
 simp only[jh,List.mem_map] at hr
 obtain⟨x,_,rfl⟩:=hr
 intro c hc u hu
 simp only[mC,List.not_mem_nil,or_false] at hc
 subst hc
 cases hu
 rfl
theorem Tl (xs ys:List aj):jh xs++jh ys=jh (xs++ys):=by simp[jh]
theorem tP (xs ys:List aj) (hx:xs.length+ys.length<100000000) (v u:Value) (L:List Nat) (w:World) (hv:bI L w v xs) (hu:bI L w u ys) (hL:∀x,x∈L->x<w.heap.size):
  cj Tryz.prog 119 [v,u] w λr w'=>bI L w' r (xs++ys)∧ak [] w w':=by
 obtain⟨a,n,c,rfl,hn⟩:=eN hv
 obtain⟨a2,n2,c2,rfl,fH⟩:=eN hu
 subst hn fH
 have hK:=ak.refl [] w
 refine cV [.tmp 4] 10 Tryz.func119 rfl PH rfl rfl ?_
 refine zr<|zA<|ag<|zr<|zJ w.heap.size L bh bA rfl rfl (lR _) hL ?_
 intro w1 aK dY hO
 have hK:=hK.ext aK
 have fQ:=cD.ext (cD.fresh hv (L':=w.heap.size::L) zg) aK
 refine zm<|xI bh bA rfl rfl rfl rfl rfl rfl hO fQ II (by rw[rM];simp;omega) ?_
 intro a4 jd g4 w2 oa aq
 have hK:=hO.since hK aq
 have ME:=cD.ext (cD.fresh hu (L':=g4.toList++L) (λx hx=>by rcases mA.1 hx with hx|hx;(·exact .inr (oa.low x (by simpa using hx)));(·exact .inl hx))) hK
 refine zm<|xI bh bA rfl rfl rfl rfl rfl rfl oa ME II (by simp only[lA,rM];simp;omega) ?_
 intro a5 Tm g5 w3 lv aJ
 have hK:=oa.since hK aJ
 refine zA<|ag<|aV ?_
 exact⟨_,rfl,(by have:=lv.done;rw[List.nil_append,Tl] at this;exact this),hK⟩
def sQ (t:aA) (i:Nat):List aj:=if(nth t.au 0).az=gM∧i=3 then[(nth t.au 1).az] else if(nth t.au 0).az=il then[(nth t.au 1).az,(nth t.au 2).az] else[]
theorem Tn (h:e.ok) (ha:e.jj=false) (i:Nat):sQ e.av i=e.binds i:=by
 cases e with
 |«at» s=>cases ha
 |un hd a=>
  have h1:hd≠gM∧hd≠il:=by constructor<;>intro e<;>rw[e] at h<;>exact absurd h.1 de
  simp[sQ,Ex.av,aA.au,nth,bZ,aA.az,h1.1,h1.2,Ex.binds]
 |bi hd a b=>
  have h1:hd≠gM∧hd≠il:=by constructor<;>intro e<;>rw[e] at h<;>exact absurd h.1 de
  simp[sQ,Ex.av,aA.au,nth,bZ,aA.az,h1.1,h1.2,Ex.binds]
 |ite a b c=>simp[sQ,Ex.av,aA.au,nth,bZ,aA.az,Ex.binds]
 |lt x a b=>
  by_cases h3:i=3
  ·subst h3;simp[sQ,Ex.av,aA.au,nth,bZ,aA.az,Ex.binds]
  ·have:(Ex.lt x a b).binds i=[]:=by unfold Ex.binds;split<;>first|rfl|simp_all
   rw[this]
   simp[sQ,Ex.av,aA.au,nth,bZ,aA.az,h3]
 |fn f x A B b=>simp[sQ,Ex.av,aA.au,nth,bZ,aA.az,Ex.binds]
theorem To (t:aA) (h0:0<t.au.length) (BX:(nth t.au 0).az=gM->1<t.au.length) (oI:(nth t.au 0).az=il->2<t.au.length) (i:Nat) (v:Value) (L:List Nat) (w:World) (hv:bS L w v t):
  cj Tryz.prog 201 [v,.int .i64 (i:Int)] w λr w'=>(∀Lr,(∀x,x∈Lr->x<w.heap.size)->bI Lr w' r (sQ t i))∧ak [] w w':=by
 obtain⟨a,n,c,rfl,hn,bc⟩:=dM hv
 subst hn
 have hK:=ak.refl [] w
 obtain⟨b,off,pa,pn,pc,rfl,ey,fP,ix⟩:=j7 bc (iI h0)
 have jF:∀i,i<t.au.length->∃pa pn pc,iQ w b (off+i*2) [str (nth t.au i).az,.slice pa pn pc]:=by intro i hi;obtain⟨b1,fY,gX,qQ,gY,e1,bC,ss,oV⟩:=j7 bc (iI hi);cases e1;exact⟨_,_,_,bC⟩
 refine cV [.tmp 4] 41 Tryz.func201 rfl YK rfl rfl ?_
 refine zr<|fE rfl ?_
 intro w1 aK aZ dY
 have hK:=hK.ext aK;have ey:=ey.ext aK
 refine zA<|ag<|aQ<|cQ<|zr<|zf cL rfl<|zl cI rfl (aZ.at rfl)<|zi (i:=0) cv aH rfl rfl om<|zf dz rfl<|zl ck rfl (ey 0 _ rfl)<|cW rfl rfl<|zm ?_
 apply fX 3 12 15 [12,13,14,15] (λw'=>w1=w') rfl
 intro h1
 replace h1:=bw h1
 refine zm<|dO rfl rfl rfl<|zp rfl<|ag ?_
 exact mg rfl rfl
 intro h1
 replace h1:=bw h1
 refine zs<|zs<|zp rfl<|ag ?_
 exact mg rfl rfl
 rintro xx _ rfl
 refine zA<|ag<|zc rfl (λh2=>?_) (λh2=>?_)
 have hq:(nth t.au 0).az=gM∧i=3:=(by simp only[aE,dE] at h2;exact⟨h2.1,om⟩)
 obtain⟨gX,qQ,gY,bC⟩:=jF 1 (BX hq.1)
 have bC:=bC.ext hK
 have gd:=BX hq.1
 have hb:sQ t i=[(nth t.au 1).az]:=iP hq
 refine zr<|zf cL rfl<|zl cI rfl (aZ.at rfl)<|zi (i:=1) cv aH rfl rfl om<|zf dz rfl<|zl ck rfl (bC 0 _ rfl)<|gD bh bA rfl rfl ?_
 intro w2 aq va eM
 have hK:=hK.ext aq
 refine zA<|ag<|aV ?_
 exact⟨_,rfl,λLr IJ=>(by rw[hb];exact aY.eD [(nth t.au 1).az] va (λhx=>by have:=IJ _ hx;omega)),hK⟩
 have wk:¬((nth t.au 0).az=gM∧i=3):=(λhh=>by simp only[Bool.and_eq_false_iff,decide_eq_false_iff_not] at h2;rcases h2 with h|h;(·exact h hh.1);(·exact h om))
 refine zr<|zf cL rfl<|zl cI rfl (aZ.at rfl)<|zi (i:=0) cv aH rfl rfl om<|zf dz rfl<|zl ck rfl (ey 0 _ rfl)<|cW rfl rfl<|zA<|ag<|zc rfl (λh3=>?_) (λh3=>?_)
 have hq:=h3
 have iY:=oI hq
 obtain⟨gX,qQ,gY,bC⟩:=jF 1 om
 obtain⟨jb,As,jc,bX⟩:=jF 2 om
 have bC:=bC.ext hK;have bX:=bX.ext hK
 have hb:sQ t i=[(nth t.au 1).az,(nth t.au 2).az]:=by unfold sQ;rw[iN wk,iP hq]
 refine aQ ?_
 apply wv ei 11 (rA 29 11) (rA 29 11) [[],[0],[1],[2],[3],[],[5],[6],[7],[8],[4,9]] [It.v _,It.v _,It.v _,It.v _,It.v _,It.v _,It.v _,It.v _,It.v _,It.v _,It.p (fun(v:Value) (ww:World)=>∃bb,v= .slice (some ⟨bb,0,none⟩) 2 2∧w.heap.size<=bb∧aY ww bb [str (nth t.au 1).az,str (nth t.au 2).az].toArray 9)] de (by exact⟨λv w w' ⟨bb,e,h1,h2⟩ k=>⟨bb,e,h1,h2.ext k⟩,trivial⟩)
 intro wd aB
 refine vc (λ_ _ _=>zf cL rfl pv) ?_
 refine vk aB (λx w2 aq=>?_) ?_
 have aZ:=aZ.ext aq
 refine zl cI rfl (aZ.at rfl) ?_
 exact pv
 refine vk aB (λx w2 aq=>?_) ?_
 refine zi (i:=1) cv aH rfl rfl om ?_
 exact pv
 refine vc (λ_ _ _=>zf dz rfl pv) ?_
 refine vk aB (λx w2 aq=>?_) ?_
 have bC:=bC.ext aq
 refine zl ck rfl (bC 0 _ rfl) ?_
 exact pv
 refine vc (λ_ _ _=>zf cL rfl pv) ?_
 refine vk aB (λx w2 aq=>?_) ?_
 have aZ:=aZ.ext aq
 refine zl cI rfl (aZ.at rfl) ?_
 exact pv
 refine vk aB (λx w2 aq=>?_) ?_
 refine zi (i:=2) cv aH rfl rfl om ?_
 exact pv
 refine vc (λ_ _ _=>zf dz rfl pv) ?_
 refine vk aB (λx w2 aq=>?_) ?_
 have bX:=bX.ext aq
 refine zl ck rfl (bX 0 _ rfl) ?_
 exact pv
 refine vk aB (λx w2 aq=>?_) ?_
 have hK:=hK.ext aq
 have pd:=hK.size
 refine ln bh bA rfl rfl rfl rfl ?_
 intro w3 aJ ye iH
 exact pf aJ (⟨_,rfl,pd,ye⟩)
 exact trivial
 intro x pS iA
 intro v10 d10
 have hK:=hK.ext iA
 change OW _ _ _ _ _ (aM (aN _ x _) (zZ 29 [_,_,_,_,_,_,_,_,_,_,_])) _
 obtain⟨bb,e39,kT,ye⟩:=d10
 refine zA<|ag<|aV ?_
 exact⟨_,rfl,λLr IJ=>(by rw[hb];subst e39;exact aY.eD [(nth t.au 1).az,(nth t.au 2).az] ye (λhx=>by have:=IJ _ hx;omega)),hK⟩
 have hb:sQ t i=[]:=(by unfold sQ;rw[iN wk,iN h3])
 refine bz<|zr<|zJ w.heap.size [] bh bA rfl rfl hK.size sm ?_
 intro w2 aq dY hO
 have hK:=hK.ext aq
 refine zA<|ag<|aV ?_
 exact⟨_,rfl,λLr IJ=>(by rw[hb];exact cD.nil _ _ _),hK⟩
theorem FW (h:e.ok) (ha:e.jj=false):0<e.av.au.length∧((nth e.av.au 0).az=gM->1<e.av.au.length)∧((nth e.av.au 0).az=il->2<e.av.au.length):=by
 cases e with
 |«at» s=>cases ha
 |un hd a=>
  have hn:hd≠il:=by intro e;rw[e] at h;exact absurd h.1 de
  exact⟨by simp[Ex.av,aA.au],λ_=>by simp[Ex.av,aA.au],λh=>absurd h hn⟩
 |bi hd a b=>exact⟨by simp[Ex.av,aA.au],λ_=>by simp[Ex.av,aA.au],λh=>by simp[Ex.av,aA.au]⟩
 |ite a b c=>exact⟨by simp[Ex.av,aA.au],λ_=>by simp[Ex.av,aA.au],λh=>by simp[Ex.av,aA.au]⟩
 |lt x a b=>exact⟨by simp[Ex.av,aA.au],λ_=>by simp[Ex.av,aA.au],λh=>by simp[Ex.av,aA.au]⟩
 |fn f x A B b=>exact⟨by simp[Ex.av,aA.au],λ_=>by simp[Ex.av,aA.au],λh=>by simp[Ex.av,aA.au]⟩
theorem Tp (e:Ex) (i:Nat):(e.binds i).length<=2:=by unfold Ex.binds;split<;>simp
theorem Tq (x:aj) (e:Ex) (k:Nat):tE x e (k+1)=tE x e k+if x∈e.binds (e.from+k) then 0 else im x (fJ e k):=rfl
theorem Tr (x:aj) (e:Ex):∀{i j:Nat},i<=j->tE x e i<=tE x e j
 |i,0,h=>by have:i=0:=om;subst this;exact lR _
 |i,j+1,h=>by
  rcases Nat.lt_or_ge i (j+1) with h1|h1
  ·have:=Tr x e (i:=i) (j:=j) om;rw[Tq];omega
  ·have:i=j+1:=by omega
   subst this;exact lR _
theorem vg (h:e.ok):e.av.az≠[]↔e.jj=true:=by
 cases e with
 |«at» s=>exact⟨λ_=>rfl,λ_=>pH h⟩
 |_=>exact⟨λhh=>absurd rfl hh,λhh=>by cases hh⟩
theorem FX (e:Ex):e.from+e.kids.length<=6:=by cases e<;>simp[Ex.from,Ex.kids]
theorem adr (s:aj):∀(m:Nat) (e:Ex),e.n<=m->e.n<=1000000->e.ok->∀(v:Value) (L:List Nat) (w:World),bS L w v e.av->
  cj Tryz.prog 206 [v,str s] w λr w'=>r= .int .i64 (im s e:Int)∧ak [] w w':=by
 intro m
 induction m with
 |zero=>intro e h;have:=e.pos;omega
 |succ m ih=>
  intro e hm mU bD v L w hv
  have dI:=hv
  obtain⟨a,n,c,rfl,hn,bc⟩:=dM hv
  subst hn
  have hK:=ak.refl [] w
  have hce:=count_le s e
  have IK:=FX e
  refine cV [.tmp 4] 47 Tryz.func206 rfl YP rfl rfl ?_
  refine zr<|fE rfl ?_
  intro w1 aK aZ dY
  have hK:=hK.ext aK;have bc:=bc.ext aK;have dI:=dI.ext aK
  refine zA<|ag<|aQ<|zr<|zf dz rfl<|zl ck rfl (aZ.at rfl)<|jG rfl rfl rfl rfl<|ag<|zc rfl (λh1=>?_) (λh1=>?_)
  have aR:∃x,e= .at x:=(by have ha:=(vg bD).1 h1;cases e<;>first|exact⟨_,rfl⟩|cases ha)
  obtain⟨x,rfl⟩:=aR
  refine aQ<|zr<|zf dz rfl<|zl ck rfl (aZ.at rfl)<|zm<|cW rfl rfl<|ag<|zc rfl (λh2=>?_) (λh2=>?_)
  have hq:im s (.at x)=1:=iP h2
  refine zr<|zA<|ag<|aV ?_
  exact⟨_,rfl,by rw[hq];rfl,hK⟩
  have hq:im s (.at x)=0:=iN h2
  refine bz<|zr<|zA<|ag<|aV ?_
  exact⟨_,rfl,by rw[hq];rfl,hK⟩
  have fp:e.jj=false:=(by cases hh:e.jj;rfl;exact absurd ((vg bD).2 hh) h1)
  obtain⟨FY,pE,jH,wG⟩:=Ex.au fp
  obtain⟨jS,DP,DQ⟩:=FW bD fp
  have FZ:=Lu bD fp
  have l9:eX (nth e.av.au 0).az=(e.from,e.from+e.kids.length):=by rw[jH];exact FZ
  obtain⟨b,off,pa,pn,pc,rfl,ey,fP,ix⟩:=j7 bc (iI jS)
  refine bz<|zr<|zA<|ag<|zr<|zf cL rfl<|zl cI rfl (aZ.at rfl)<|zi (i:=0) cv aH rfl rfl om<|zf dz rfl<|zl ck rfl (ey 0 _ rfl)<|aC (IF _ _) ?_
  rintro _ _ ⟨rfl,rfl⟩
  rw[yc l9]
  refine zm<|zx (i:=0) rfl rfl<|zx (i:=1) rfl rfl<|zA<|zA<|ag<|aQ<|zr<|zm<|zA<|ag<|cQ ?_
  refine fW (λk:Nat=>[(1,str s),(2,.pointer (some ⟨w.heap.size,0,none⟩)),(5,.int .i64 (tE s e k:Int)),(7,.int .i64 ((e.from+e.kids.length:Nat):Int)),(8,.int .i64 ((e.from+k:Nat):Int))]) (λk w'=>ak [] w w'∧ak [] w1 w'∧k<=e.kids.length) (λk=>e.kids.length-k) (0) (⟨rfl,rfl,rfl,rfl,rfl⟩) (⟨hK,ak.refl _ _,om⟩) ?_
  intro gg w2 e2 hI
  obtain⟨hK,kv,hk⟩:=hI
  have aZ:=aZ.ext kv;have bc:=bc.ext kv;have dI:=dI.ext kv
  refine aQ<|zr<|zm<|zm<|fy rfl rfl rfl<|ag<|zc rfl (λh3=>?_) (λh3=>?_)
  have iu:gg<e.kids.length:=om
  have sJ:=wG gg iu
  obtain⟨b1,fY,gX,qQ,gY,e1,bC,ss,oV⟩:=j7 bc (iI (i:=e.from+gg) om)
  cases e1
  subst ss
  have dd:=(mO oV).eq sJ
  have tQ:=Fg bD iu
  have bg:=Tq s e gg
  have hmo:=Tr s e (i:=gg+1) (j:=e.kids.length) om
  have hto:=Rv fp s
  refine bz<|aQ<|cQ<|zr<|zL bT aH rfl aZ.all rfl<|zm<|aC (To e.av jS DP DQ (e.from+gg) _ _ w2 dI) ?_
  rintro v3 w3 ⟨eh,aJ⟩
  have fZ:=aJ.size
  have hK:=hK.ext aJ;have aZ:=aZ.ext aJ;have kv:=kv.ext aJ;have bC:=bC.ext aJ;have dd:=dd.ext aJ
  have ur:=eh [] sm
  rw[Tn bD fp] at ur
  have hbf:=Tp e (e.from+gg)
  refine zm<|aC (zR (e.binds (e.from+gg)) om s _ [] w3 ur) ?_
  rintro v4 w4 ⟨eH,aF⟩
  have gI:=aF.size
  have hK:=hK.ext aF;have aZ:=aZ.ext aF;have kv:=kv.ext aF;have bC:=bC.ext aF;have dd:=dd.ext aF
  obtain rfl:=eH
  refine eJ rfl<|ag<|zc rfl (λh4=>?_) (λh4=>?_)
  have mZ:¬s∈e.binds (e.from+gg):=(by simpa using h4)
  rw[iN mZ] at bg
  refine db<|zm<|zf cL rfl<|zl cI rfl (aZ.at rfl)<|zm<|zi cv aH rfl rfl om<|zL bT aH rfl bC rfl<|zm<|aC (ih (fJ e gg) om om tQ.1 _ _ w4 dd) ?_
  rintro v5 w5 ⟨lk,aU⟩
  have pD:=aU.size
  have hK:=hK.ext aU;have kv:=kv.ext aU
  obtain rfl:=lk
  refine eF rfl rfl rfl (wrap_i64 _ om om)<|zA<|ag<|db<|zm<|eF rfl rfl rfl (wrap_i64 _ om om)<|zA<|ag ?_
  exact⟨gg+1,⟨rfl,rfl,congrArg (Value.int .i64) om,rfl,congrArg (Value.int .i64) om⟩,⟨hK,kv,om⟩,om⟩
  have mZ:s∈e.binds (e.from+gg):=(by simpa using h4)
  rw[iP mZ] at bg
  refine bz<|db<|zm<|eF rfl rfl rfl (wrap_i64 _ om om)<|zA<|ag ?_
  exact⟨gg+1,⟨rfl,rfl,congrArg (Value.int .i64) om,rfl,congrArg (Value.int .i64) om⟩,⟨hK,kv,om⟩,om⟩
  have gH:gg=e.kids.length:=by omega
  refine gB<|gC rfl<|zr<|zm<|zA<|ag<|aV ?_
  exact⟨_,rfl,by rw[Rv fp s,gH];rfl,hK⟩
theorem Tt (e:Ex) (bd l:List aj) (k:Nat):nR e bd l (k+1)=cE (fJ e k) (bd++e.binds (e.from+k)) (nR e bd l k):=rfl
def kN (e:Ex) (k:Nat):Nat:=((e.kids.take k).map Ex.n).sum
theorem yf (h:k<e.kids.length):kN e (k+1)=kN e k+(fJ e k).n:=by
 have h1:e.kids[k]?=some (fJ e k):=by simp[fJ,gE h]
 unfold kN
 rw[List.take_add_one,h1,List.map_append,List.sum_append]
 simp
theorem BY (e:Ex) (k:Nat):kN e k<=e.n:=by
 have h1:kN e k<=(e.kids.map Ex.n).sum:=by
  conv=>rhs;rw[<-List.take_append_drop k e.kids,List.map_append,List.sum_append]
  unfold kN;omega
 have h2:(e.kids.map Ex.n).sum<=e.n:=by cases e<;>simp[Ex.kids,Ex.n]<;>omega
 omega
theorem Tu (e:Ex) (bd l:List aj):∀{k:Nat},k<=e.kids.length->(nR e bd l k).length<=l.length+kN e k
 |0,_=>by simp[nR,kN]
 |k+1,hk=>by
  rw[Tt,yf om]
  have h1:=tC (fJ e k) (bd++e.binds (e.from+k)) (nR e bd l k)
  have h2:=Tu e bd l (k:=k) om
  omega
theorem IL:∀(m:Nat) (e:Ex),e.n<=m->e.n<=1000->e.ok->∀(bd l:List aj),bd.length+2*e.n<=100000->l.length+e.n<=100000->∀(v vb vl:Value) (g:Option Nat) (w:World),
  bS g.toList w v e.av->bI g.toList w vb bd->dh w 9 vl g l->
  cj Tryz.prog 175 [v,vb,vl] w λr w'=>∃g',dh w' 9 r g' (cE e bd l)∧Fr g.toList w g'.toList w':=by
 intro m
 induction m with
 |zero=>intro e h;have:=e.pos;omega
 |succ m ih=>
  intro e hm mU bD bd l ur hl v vb vl g w hv yg gJ
  obtain⟨a,n,c,rfl,hn,bc⟩:=dM hv
  subst hn
  obtain⟨ab,nb,cb,rfl,Tv⟩:=eN yg
  subst Tv
  obtain⟨al,cl,rfl⟩:=kt gJ
  have pX:=gJ.lt
  have oN:=gJ.rs
  have hR:=Fr.refl g.toList w
  have IK:=FX e
  have dI:=mO bc
  refine cV [.tmp 6] 65 Tryz.func175 rfl Yw rfl rfl ?_
  refine zr<|fE rfl ?_
  intro w1 aK bR dY
  have hR:=hR.ext aK;have bc:=bc.ext aK;have yg:=yg.ext aK;have gJ:=gJ.ext aK;have oN:=oN.ext aK;have dI:=dI.ext aK
  refine zA<|ag<|aQ<|zr<|zf dz rfl<|zl ck rfl (bR.at rfl)<|jG rfl rfl rfl rfl<|ag<|zc rfl (λh1=>?_) (λh1=>?_)
  have aR:∃x,e= .at x:=(by have ha:=(vg bD).1 h1;cases e<;>first|exact⟨_,rfl⟩|cases ha)
  obtain⟨x,rfl⟩:=aR
  refine aQ<|zr<|zf dz rfl<|zl ck rfl (bR.at rfl)<|aC (uV _ _) ?_
  rintro _ _ ⟨rfl,rfl⟩
  refine eJ rfl<|zm ?_
  apply fz 5 17 22 [17,18,19,20,21,22] (ak [] w1) rfl
  intro h2
  replace h2:=bw h2
  have F0:=ak.refl [] w1
  refine zs<|zs<|zs<|zs<|zp rfl<|ag ?_
  exact mg rfl F0
  intro h2
  replace h2:=bw h2
  have F0:=ak.refl [] w1
  refine zm<|zf dz rfl<|zl ck rfl (bR.at rfl)<|aC (zR bd om x _ _ w1 yg) ?_
  rintro v2 w2 ⟨dA,aq⟩
  have eE:=aq.size
  have F0:=F0.ext aq
  obtain rfl:=dA
  refine zp rfl<|ag ?_
  exact mg rfl F0
  intro xx w3 aJ
  have hR:=hR.ext aJ;have gJ:=gJ.ext aJ;have oN:=oN.ext aJ;have bR:=bR.ext aJ
  refine zm ?_
  apply fz 5 23 28 [23,24,25,26,27,28] (ak [] w3) rfl
  intro h3
  replace h3:=bw h3
  have F1:=ak.refl [] w3
  refine zs<|zs<|zs<|zs<|zp rfl<|ag ?_
  exact mg rfl F1
  intro h3
  replace h3:=bw h3
  have F1:=ak.refl [] w3
  refine zm<|zf dz rfl<|zl ck rfl (bR.at rfl)<|aC (zR l om x _ _ w3 oN) ?_
  rintro v4 w4 ⟨eH,aF⟩
  have gI:=aF.size
  have F1:=F1.ext aF
  obtain rfl:=eH
  refine zp rfl<|ag ?_
  exact mg rfl F1
  intro xx w5 aU
  have hR:=hR.ext aU;have gJ:=gJ.ext aU;have bR:=bR.ext aU
  refine ag<|zc rfl (λh4=>?_) (λh4=>?_)
  have hq:cE (.at x) bd l=l:=iP h4
  refine zr<|zm<|zA<|ag<|aV ?_
  exact⟨_,rfl,g,by rw[hq];exact gJ,hR⟩
  have hq:cE (.at x) bd l=l++[x]:=iN (λhh=>Bool.noConfusion (hh.symm.trans h4))
  refine bz<|zr<|zm<|zf dz rfl<|zl ck rfl (bR.at rfl)<|gD bh bA rfl rfl ?_
  intro w6 bF IM lG
  have hR:=hR.ext bF;have gJ:=gJ.ext bF
  refine Sn bh bA rfl rfl rfl rfl rfl rfl gJ IM om ?_
  intro v5 g5 w7 lv cw nj
  have hR:=hR.go nj
  refine zA<|ag<|aV ?_
  exact⟨_,rfl,g5,by rw[hq];exact lv,hR⟩
  have fp:e.jj=false:=(by cases hh:e.jj;rfl;exact absurd ((vg bD).2 hh) h1)
  obtain⟨FY,pE,jH,wG⟩:=Ex.au fp
  obtain⟨jS,DP,DQ⟩:=FW bD fp
  have FZ:=Lu bD fp
  have l9:eX (nth e.av.au 0).az=(e.from,e.from+e.kids.length):=by rw[jH];exact FZ
  obtain⟨b,off,pa,pc,rfl,ey,hT0⟩:=fI bc jS
  have bR:=bR.o pX
  refine bz<|zr<|zf cL rfl<|zl cI rfl (bR.at rfl)<|zi (i:=0) cv aH rfl rfl om<|zf dz rfl<|zl ck rfl (ey.cells 0 _ rfl)<|aC (IF _ _) ?_
  rintro _ _ ⟨rfl,rfl⟩
  rw[yc l9]
  refine zm<|zx (i:=0) rfl rfl<|zx (i:=1) rfl rfl<|zA<|zA<|ag<|aQ<|zr<|zm<|zA<|ag<|cQ ?_
  refine fW (λq:Nat×Value×Option Nat=>[(1,.slice ab bd.length cb),(2,q.2.1),(3,.pointer (some ⟨w.heap.size,0,none⟩)),(8,.int .i64 ((e.from+e.kids.length:Nat):Int)),(9,.int .i64 ((e.from+q.1:Nat):Int))]) (λq w'=>Fr g.toList w q.2.2.toList w'∧Fr g.toList w1 q.2.2.toList w'∧dh w' 9 q.2.1 q.2.2 (nR e bd l q.1)∧q.1<=e.kids.length) (λq=>e.kids.length-q.1) ((0,.slice al l.length cl,g)) (⟨rfl,rfl,rfl,rfl,rfl⟩) (⟨hR,Fr.refl _ _,gJ,sm⟩) ?_
  intro gg w2 e2 hI
  obtain⟨k,vl,gl⟩:=gg
  dsimp only at hI⊢
  obtain⟨hR,kv,gJ,hk⟩:=hI
  have bR:=bR.go kv;have bc:=bc.go kv;have yg:=yg.go kv;have dI:=dI.go kv
  refine aQ<|zr<|zm<|zm<|fy rfl rfl rfl<|ag<|zc rfl (λh5=>?_) (λh5=>?_)
  have iu:k<e.kids.length:=om
  have sJ:=wG k iu
  obtain⟨b1,fY,gX,gY,e1,bC,dd⟩:=fI bc (i:=e.from+k) om
  cases e1
  have dd:=dd.eq sJ
  have tQ:=Fg bD iu
  have bg:=Tt e bd l k
  have hbf:=Tp e (e.from+k)
  have o7:=Tu e bd l (k:=k) om
  have Ax:=yf iu
  have gP:=BY e (k+1)
  refine bz<|aQ<|cQ ?_
  apply kc ei gl.toList 13 (rA 50 13) (rA 50 13) [[],[0],[],[1,2],[3],[],[],[5,6],[],[],[8,9],[7,10],[]] [Ie.v _,Ie.v _,Ie.v _,Ie.v _,Ie.v _,Ie.p (fun(G:List Nat) (v:Value) (ww:World)=>∃bb,v= .slice (some ⟨bb,0,none⟩) 0 0∧fg G ww bb #[] 9),Ie.v _,Ie.e 0,Ie.v _,Ie.v _,Ie.p (fun(G:List Nat) (v:Value) (ww:World)=>bI G ww v (e.binds (e.from+k))),Ie.e 1,Ie.v _] [7,11] [fun(G:List Nat) (vs:List Value) (ww:World)=>dh ww 9 vl gl (nR e bd l k)∧(∀x,x∈gl.toList->x∈G),fun(G:List Nat) (vs:List Value) (ww:World)=>(dh ww 9 vl gl (nR e bd l k)∧(∀x,x∈gl.toList->x∈G))∧∃g7,dh ww 9 (vs.getD 0 undef) g7 bd∧qx G ww 9 g7∧(∀x,x∈g7.toList->x∉gl.toList),fun(G:List Nat) (vs:List Value) (ww:World)=>(dh ww 9 vl gl (nR e bd l k)∧(∀x,x∈gl.toList->x∈G))∧∃g7,dh ww 9 (vs.getD 1 undef) g7 (bd++e.binds (e.from+k))∧qx G ww 9 g7∧(∀x,x∈g7.toList->x∉gl.toList)] de rfl gJ.lt (by exact⟨λG v w G' w' ⟨bb,e,h⟩ k=>⟨bb,e,h.go k⟩,λG v w G' w' h k=>bI.go h k,trivial⟩) (by exact⟨λG vs w w' h k=>⟨h.1.ext k,h.2⟩,λG vs w w' ⟨h1,g7,h2,h3,h4⟩ k=>⟨⟨h1.1.ext k,h1.2⟩,g7,h2.ext k,h3.ext k,h4⟩,λG vs w w' ⟨h1,g7,h2,h3,h4⟩ k=>⟨⟨h1.1.ext k,h1.2⟩,g7,h2.ext k,h3.ext k,h4⟩,trivial⟩) (⟨gJ,λx hx=>hx⟩)
  refine vf (λ_ _ _ _ _ _=>zf cL rfl fv) ?_
  refine vf (λx w3 G3 aW fV iU=>?_) ?_
  have bR:=bR.go fV
  refine zl cI rfl (bR.at rfl) ?_
  exact fv
  refine cR ?_
  refine vf (λ_ _ _ _ _ _=>zi cv aH rfl rfl om fv) ?_
  refine vf (λx w3 G3 aW fV iU=>?_) ?_
  have bC:=bC.go fV
  refine zL bT aH rfl bC.cells rfl ?_
  exact fv
  refine vf (λx w3 G3 aW fV iU=>?_) ?_
  refine gN bh bA ?_
  intro w4 aF BZ iS
  exact ff aF (⟨_,rfl,BZ.o iU⟩)
  refine cR ?_
  refine ve 0 (λx w3 G3 aW fV iU hJ hlen=>?_) ?_
  have bo:=jP hlen
  subst bo
  have yg:=yg.go fV
  intro v5 d5
  obtain⟨bb,e5,gw⟩:=d5
  subst e5
  have hJ:dh w3 9 vl gl (nR e bd l k)∧(∀x,x∈gl.toList->x∈G3):=hJ
  refine DO bh bA rfl rfl rfl rfl rfl rfl gw.jv.lp yg ‹_› (λx hx=>.inr (by simp at hx;subst hx;exact gw.jv)) so ?_
  intro v9 g9 w4 G9 dJ DR pd kU df fh aG
  exact fe G9 df fh (⟨⟨hJ.1.aO aG (λb hb hx=>gw.out (by simp at hx;subst hx;exact hJ.2 _ (by simp[hb]))),λx hx=>kU x (hJ.2 x hx)⟩,g9,dJ,DR,λx hx fF=>(pd x hx).elim (λh=>gw.out (by simp at h;subst h;exact hJ.2 _ fF)) (λh=>by have:=iU x (hJ.2 x fF);omega)⟩)
  refine vf (λx w3 G3 aW fV iU=>?_) ?_
  have bR:=bR.go fV
  refine zL bT aH rfl bR.all rfl ?_
  exact fv
  refine cR ?_
  refine vf (λx w3 G3 aW fV iU=>?_) ?_
  have dI:=dI.go fV
  refine aC (To e.av jS DP DQ (e.from+k) _ _ w3 dI) ?_
  rintro v4 w4 ⟨eH,aF⟩
  have gI:=aF.size
  have adu:=eH
  exact ff aF ((by have h9:=adu _ iU;rw[Tn bD fp] at h9;exact h9))
  refine ve 1 (λx w3 G3 aW fV iU hJ hlen=>?_) ?_
  obtain⟨q0,bo⟩:=jQ hlen
  subst bo
  intro v10 d10
  have hJ:(dh w3 9 vl gl (nR e bd l k)∧(∀x,x∈gl.toList->x∈G3))∧∃g7,dh w3 9 q0 g7 bd∧qx G3 w3 9 g7∧(∀x,x∈g7.toList->x∉gl.toList):=hJ
  obtain⟨⟨DD,rR⟩,g7,F2,B0,IN⟩:=hJ
  refine DO bh bA rfl rfl rfl rfl rfl rfl F2 d10 ‹_› B0 om ?_
  intro v9 g9 w4 G9 dJ DR pd kU df fh aG
  exact fe G9 df fh (⟨⟨DD.aO aG (λb hb hx=>IN b hx (by simp[hb])),λx hx=>kU x (rR x hx)⟩,g9,dJ,DR,λx hx fF=>(pd x hx).elim (λh=>IN x h fF) (λh=>by have:=iU x (rR x fF);omega)⟩)
  refine cR ?_
  exact trivial
  intro x qw F3 aW DS MF hJ hlen
  obtain⟨q0,q1,bo⟩:=lM hlen
  subst bo
  intro v5 d5
  intro v10 d10
  have hR:=hR.go DS;have kv:=kv.go DS;have dd:=dd.go DS
  change OW _ _ _ _ _ (aM (aN _ x _) (zZ 50 [_,_,_,_,_,_,_,_,_,_,_,_,_])) _
  have hJ:(dh qw 9 vl gl (nR e bd l k)∧(∀x,x∈gl.toList->x∈F3))∧∃g7,dh qw 9 q1 g7 (bd++e.binds (e.from+k))∧qx F3 qw 9 g7∧(∀x,x∈g7.toList->x∉gl.toList):=hJ
  obtain⟨⟨DD,rR⟩,g7,F2,B0,IN⟩:=hJ
  refine aC (ih (fJ e k) om om tQ.1 (bd++e.binds (e.from+k)) (nR e bd l k) (by rw[lA];omega) om _ _ _ gl qw (dd.ji (λx hx=>rR x hx)) (F2.rep (λb hb=>IN b (by simp[hb]))) DD) ?_
  rintro MG nN ⟨MH,IP,F4⟩
  refine zA<|ag<|db<|zm<|eF rfl rfl rfl (wrap_i64 _ om om)<|zA<|ag ?_
  exact⟨(k+1,MG,MH),⟨rfl,rfl,rfl,rfl,congrArg (Value.int .i64) so⟩,⟨(hR.to (λx hx=>.inl (rR x hx))).go F4,(kv.to (λx hx=>.inl (rR x hx))).go F4,IP,by simp;omega⟩,by simp;omega⟩
  have gH:k=e.kids.length:=by omega
  refine gB<|gC rfl<|zr<|zm<|zA<|ag<|aV ?_
  exact⟨_,rfl,gl,by rw[ab2 fp,<-gH];exact gJ,hR⟩
theorem adv (s:aj) (w:World):cj Tryz.prog 152 [str s] w λv w'=>(∃a n c,v= .tuple #[.slice a n c,.bool (mv s)]∧(mv s=true->∃e:Ex,ba s=some e.av∧e.ok∧e.n<=120∧bI [] w' (.slice a n c) (cE e [] [])))∧ak [] w w':=by
 have hK:=ak.refl [] w
 refine cV [.tmp 2,.tmp 3] 18 Tryz.func152 rfl Yl rfl rfl ?_
 refine zr<|zA<|zA<|ag<|zr<|zm<|aC (FU s [] w sm) ?_
 rintro v1 w1 ⟨fM,aK⟩
 have dQ:=aK.size
 have hK:=hK.ext aK
 obtain⟨t,tv,rfl,ht,hp⟩:=fM
 obtain⟨pa,pn,pc,rfl,fP,bc⟩:=dM ht
 refine zm<|zx (i:=0) rfl rfl<|zx (i:=1) rfl rfl<|eA aH rfl rfl rfl ?_
 intro w2 aq aI eM
 have hK:=hK.grow;have hK:=hK.ext aq;have ht:=ht.grow;have ht:=ht.ext aq
 refine du aH rfl rfl rfl aI rfl ?_
 intro w3 aJ aI iH
 have hK:=hK.aL aJ sx;have ht:=ht.aL aJ sx
 refine zA<|ag<|aQ<|zr<|zm<|eJ rfl<|ag<|zc rfl (λh1=>?_) (λh1=>?_)
 have hx:mv s=false:=by simpa using h1
 refine zr<|gN bh bA ?_
 intro w4 aF mw iS
 have hK:=hK.ext aF
 refine zA<|zA<|ag<|aV ?_
 exact⟨_,rfl,⟨_,_,_,by rw[hx];rfl,λh=>by rw[hx] at h;cases h⟩,hK⟩
 have hx:mv s=true:=by simpa using h1
 obtain⟨e,he,bD,hn⟩:=wE.1 hx
 have e2:=hp.1 _ he
 subst e2
 refine bz<|zr<|zL bT aH rfl aI.all rfl<|gN bh bA ?_
 intro w4 aF IQ IS
 have ht:=ht.ext aF;have hK:=hK.ext aF
 refine gN bh bA ?_
 have Mj:=bS.grow (ht.ji (L':=[]) sm)
 intro w5 aU wc F5
 have ht:=Mj.ext aU
 have hK:=hK.ext aU
 refine aC (IL 120 e hn om bD [] [] so so _ _ _ (some _) w5 ht (cD.nil _ _ _) wc.lp) ?_
 rintro v9 w6 ⟨g9,dJ,df⟩
 obtain⟨a9,c9,rfl⟩:=kt dJ
 have hK:=hK.since df.aO (λx hx=>.inr (by simp at hx;omega))
 refine zA<|zA<|ag<|aV ?_
 exact⟨_,rfl,⟨_,_,_,by rw[hx];rfl,λ_=>⟨e,he,bD,hn,dJ.rs⟩⟩,hK⟩
theorem DT {b:aj} (h:bZ a=bZ b):a=b:=by simpa[bZ] using h
theorem qy:∀{e f:Ex},e.ok->f.ok->e.av=f.av->e=f
 | .at s,.at r,_,_,h=>by rw[DT h]
 | .at s,.un ..,h1,_,h=>absurd (congrArg aA.az h) (pH h1)
 | .at s,.bi ..,h1,_,h=>absurd (congrArg aA.az h) (pH h1)
 | .at s,.ite ..,h1,_,h=>absurd (congrArg aA.az h) (pH h1)
 | .at s,.lt ..,h1,_,h=>absurd (congrArg aA.az h) (pH h1)
 | .at s,.fn ..,h1,_,h=>absurd (congrArg aA.az h) (pH h1)
 | .un ..,.at s,_,h1,h=>absurd (congrArg aA.az h).symm (pH h1)
 | .bi ..,.at s,_,h1,h=>absurd (congrArg aA.az h).symm (pH h1)
 | .ite ..,.at s,_,h1,h=>absurd (congrArg aA.az h).symm (pH h1)
 | .lt ..,.at s,_,h1,h=>absurd (congrArg aA.az h).symm (pH h1)
 | .fn ..,.at s,_,h1,h=>absurd (congrArg aA.az h).symm (pH h1)
 | .un h a,.un h' a',k,k',e=>by
  have e:=congrArg aA.au e
  simp only[Ex.av,aA.au,List.cons.injEq,and_true] at e
  rw[DT e.1,qy k.2 k'.2 e.2]
 | .bi h a b,.bi h' a' b',k,k',e=>by
  have e:=congrArg aA.au e
  simp only[Ex.av,aA.au,List.cons.injEq,and_true] at e
  rw[DT e.1,qy k.2.1 k'.2.1 e.2.1,qy k.2.2 k'.2.2 e.2.2]
 | .ite a b c,.ite a' b' c',k,k',e=>by
  have e:=congrArg aA.au e
  simp only[Ex.av,aA.au,List.cons.injEq,and_true] at e
  rw[qy k.1 k'.1 e.2.1,qy k.2.1 k'.2.1 e.2.2.1,qy k.2.2 k'.2.2 e.2.2.2]
 | .lt x a b,.lt x' a' b',k,k',e=>by
  have e:=congrArg aA.au e
  simp only[Ex.av,aA.au,List.cons.injEq,and_true] at e
  rw[DT e.2.1,qy k.2.1 k'.2.1 e.2.2.1,qy k.2.2 k'.2.2 e.2.2.2]
 | .fn f x A B b,.fn f' x' A' B' b',k,k',e=>by
  have e:=congrArg aA.au e
  simp only[Ex.av,aA.au,List.cons.injEq,and_true] at e
  rw[DT e.2.1,DT e.2.2.1,Ff e.2.2.2.1,Ff e.2.2.2.2.1,qy k.2.2.2.2.2 k'.2.2.2.2.2 e.2.2.2.2.2]
 | .un ..,.bi ..,_,_,e=>by have e:=congrArg aA.au e;simp[Ex.av,aA.au] at e
 | .un ..,.ite ..,_,_,e=>by have e:=congrArg aA.au e;simp[Ex.av,aA.au] at e
 | .un ..,.lt ..,_,_,e=>by have e:=congrArg aA.au e;simp[Ex.av,aA.au] at e
 | .un ..,.fn ..,_,_,e=>by have e:=congrArg aA.au e;simp[Ex.av,aA.au] at e
 | .bi ..,.un ..,_,_,e=>by have e:=congrArg aA.au e;simp[Ex.av,aA.au] at e
 | .bi ..,.ite ..,_,_,e=>by have e:=congrArg aA.au e;simp[Ex.av,aA.au] at e
 | .bi ..,.lt ..,_,_,e=>by have e:=congrArg aA.au e;simp[Ex.av,aA.au] at e
 | .bi ..,.fn ..,_,_,e=>by have e:=congrArg aA.au e;simp[Ex.av,aA.au] at e
 | .ite ..,.un ..,_,_,e=>by have e:=congrArg aA.au e;simp[Ex.av,aA.au] at e
 | .ite ..,.bi ..,_,_,e=>by have e:=congrArg aA.au e;simp[Ex.av,aA.au] at e
 | .ite ..,.lt ..,_,_,e=>by have e:=congrArg aA.au e;simp[Ex.av,aA.au,bZ] at e
 | .ite ..,.fn ..,_,_,e=>by have e:=congrArg aA.au e;simp[Ex.av,aA.au] at e
 | .lt ..,.un ..,_,_,e=>by have e:=congrArg aA.au e;simp[Ex.av,aA.au] at e
 | .lt ..,.bi ..,_,_,e=>by have e:=congrArg aA.au e;simp[Ex.av,aA.au] at e
 | .lt ..,.ite ..,_,_,e=>by have e:=congrArg aA.au e;simp[Ex.av,aA.au,bZ] at e
 | .lt ..,.fn ..,_,_,e=>by have e:=congrArg aA.au e;simp[Ex.av,aA.au] at e
 | .fn ..,.un ..,_,_,e=>by have e:=congrArg aA.au e;simp[Ex.av,aA.au] at e
 | .fn ..,.bi ..,_,_,e=>by have e:=congrArg aA.au e;simp[Ex.av,aA.au] at e
 | .fn ..,.ite ..,_,_,e=>by have e:=congrArg aA.au e;simp[Ex.av,aA.au] at e
 | .fn ..,.lt ..,_,_,e=>by have e:=congrArg aA.au e;simp[Ex.av,aA.au] at e
def adw (s:aj) (e:Ex):Prop:=ba s=some e.av∧e.ok∧e.n<=120∧cE e [] []=[]
theorem adx (s:aj) (w:World):cj Tryz.prog 113 [str s] w λv w'=>(∃b,v= .bool b∧(b=true↔∃e:Ex,adw s e))∧ak [] w w':=by
 have hK:=ak.refl [] w
 refine cV [.tmp 2] 16 Tryz.func113 rfl XM rfl rfl ?_
 refine zr<|zA<|ag<|zr<|zm<|aC (adv s w) ?_
 rintro v1 w1 ⟨fM,aK⟩
 have dQ:=aK.size
 have hK:=hK.ext aK
 obtain⟨a,n,c,rfl,hf⟩:=fM
 refine zm<|zx (i:=0) rfl rfl<|zx (i:=1) rfl rfl<|zA<|zA<|ag<|zr<|zm<|zm ?_
 apply fX 4 11 15 [11,12,13,14,15] (λw'=>w1=w') rfl
 intro h1
 replace h1:=bw h1
 refine zm<|dX bh rfl<|dO rfl rfl rfl<|zp rfl<|ag ?_
 exact mg rfl rfl
 intro h1
 replace h1:=bw h1
 refine zs<|zs<|zs<|zp rfl<|ag ?_
 exact mg rfl rfl
 rintro xx _ rfl
 refine zA<|ag<|aV<|⟨_,rfl,⟨_,rfl,?_⟩,hK⟩
 rw[aE,dE]
 constructor
 rintro⟨h1,h2⟩;obtain⟨e,he,bD,hn,hs⟩:=hf h1;obtain⟨_,_,_,e2,e3⟩:=eN hs;cases e2;exact⟨e,he,bD,hn,List.length_eq_zero_iff.1 om⟩
 rintro⟨e,he,bD,hn,h0⟩;have hx:mv s=true:=wE.2 ⟨e,he,bD,hn⟩;refine⟨hx,?_⟩;obtain⟨e',uz,ady,CU,hs⟩:=hf hx;rw[he] at uz;have:=qy bD ady (Option.some.inj uz);subst this;rw[h0] at hs;obtain⟨_,_,_,e2,e3⟩:=eN hs;cases e2;simp at e3;omega
def kG (ai:List aj) (ρ:Rn) (e:Ex) (n:Nat):Nat->List Ex×Nat
 |0=>([],n)
 |k+1=>((kG ai ρ e n k).1++[(cg ai (fJ e k) ρ (kG ai ρ e n k).2).1],(cg ai (fJ e k) ρ (kG ai ρ e n k).2).2)
theorem MI (ai:List aj) (ρ:Rn) (e:Ex) (n:Nat):∀k,(kG ai ρ e n k).1.length=k
 |0=>rfl
 |k+1=>by simp[kG,MI ai ρ e n k]
def jT (ai:List aj) (ρ:Rn) (n:Nat):Ex->Rn
 | .fn f x _ _ _=>ρ++[(f,dj cx (bK cx ai n)),(x,dj cx (bK cx ai (bK cx ai n+1)))]
 |_=>ρ
def nF (ai:List aj) (n:Nat):Ex->Nat
 | .fn _ _ _ _ _=>bK cx ai (bK cx ai n+1)+1
 |_=>n
def wH (ai:List aj) (n:Nat):Ex->List aA
 | .fn _ _ A B _=>[bZ il,bZ (dj cx (bK cx ai n)),bZ (dj cx (bK cx ai (bK cx ai n+1))),A.av,B.av]
 |e=>[bZ e.head]
def isLt:Ex->Bool
 | .lt _ _ _=>true
 |_=>false
theorem adz (ai:List aj) (ρ:Rn) (n:Nat) (ha:e.jj=false) (hl:isLt e=false):
  (cg ai e ρ n).1.av= .mk [] (wH ai n e++(kG ai (jT ai ρ n e) e (nF ai n e) e.kids.length).1.map Ex.av)∧(cg ai e ρ n).2=(kG ai (jT ai ρ n e) e (nF ai n e) e.kids.length).2:=by
 cases e with
 |«at» s=>cases ha
 |lt x a b=>cases hl
 |un h a=>exact⟨rfl,rfl⟩
 |bi h a b=>exact⟨rfl,rfl⟩
 |ite a b c=>exact⟨rfl,rfl⟩
 |fn f x A B b=>exact⟨rfl,rfl⟩
theorem adA (ai:List aj) (n:Nat) (ha:e.jj=false) (hl:isLt e=false):(wH ai n e).length=e.from:=by
 cases e with
 |«at» s=>cases ha
 |lt x a b=>cases hl
 |_=>rfl
theorem adB (ai:List aj) (n:Nat) (hk:e.ok) (ha:e.jj=false) (hf:e.head≠il):wH ai n e=[bZ e.head]∧nF ai n e=n:=by
 cases e with
 |fn f x A B b=>exact absurd rfl hf
 |_=>exact⟨rfl,rfl⟩
theorem Tw (ai:List aj) (ρ:Rn) (n:Nat) (hf:e.head≠il):jT ai ρ n e=ρ:=by
 cases e with
 |fn f x A B b=>exact absurd rfl hf
 |_=>rfl
theorem IT (h:e.ok) (he:e.head=gM):∃x a b,e= .lt x a b:=by
 cases e with
 |lt x a b=>exact⟨x,a,b,rfl⟩
 |un hd a=>have he:hd=gM:=he;rw[he] at h;exact absurd h.1 de
 |bi hd a b=>have he:hd=gM:=he;rw[he] at h;exact absurd h.1 de
 |«at» s=>cases he
 |ite a b c=>cases he
 |fn f x A B b=>cases he
theorem IU (h:e.ok) (he:e.head=il):∃f x A B b,e= .fn f x A B b:=by
 cases e with
 |fn f x A B b=>exact⟨f,x,A,B,b,rfl⟩
 |un hd a=>have he:hd=il:=he;rw[he] at h;exact absurd h.1 de
 |bi hd a b=>have he:hd=il:=he;rw[he] at h;exact absurd h.1 de
 |«at» s=>cases he
 |ite a b c=>cases he
 |lt x a b=>cases he
theorem Tx (h:e.ok) (he:e.head=cC):∃a b c,e= .ite a b c:=by
 cases e with
 |ite a b c=>exact⟨a,b,c,rfl⟩
 |un hd a=>have he:hd=cC:=he;rw[he] at h;exact absurd h.1 de
 |bi hd a b=>have he:hd=cC:=he;rw[he] at h;exact absurd h.1 de
 |«at» s=>cases he
 |lt x a b=>cases he
 |fn f x A B b=>cases he
theorem not_lt (he:e.head≠gM):isLt e=false:=by
 cases e with
 |lt x a b=>exact absurd rfl he
 |_=>rfl
theorem Tz (ha:e.jj=false) (hl:isLt e=false) (hf:e.head≠il):e.av.au=[bZ e.head]++e.kids.map Ex.av:=by
 cases e with
 |«at» s=>cases ha
 |lt x a b=>cases hl
 |fn f x A B b=>exact absurd rfl hf
 |_=>rfl
def mc (pre:List aA) (acc:List Ex) (e:Ex):List aA:=pre++acc.map Ex.av++(e.kids.drop acc.length).map Ex.av
theorem TA {pre:List aA} {acc:List Ex} {y:Ex} (h:acc.length<e.kids.length):(mc pre acc e).set (pre.length+acc.length) y.av=mc pre (acc++[y]) e:=by
 have h1:e.kids[acc.length]?=some (fJ e acc.length):=by simp[fJ,gE h]
 unfold mc
 rw[List.drop_eq_getElem_cons h,List.map_cons,List.set_append_right _ _ sm,lA,List.length_map,Nat.sub_self]
 simp
theorem TC {pre:List aA} {acc:List Ex} (h:acc.length<=e.kids.length):(mc pre acc e).length=pre.length+e.kids.length:=by
 simp[mc];omega
theorem TD {pre:List aA} {acc:List Ex} (h:acc.length=e.kids.length):mc pre acc e=pre++acc.map Ex.av:=by
 unfold mc
 rw[List.drop_of_length_le om];simp
structure RN (L:List Nat) (w:World) (br:Nat) (ai:List aj) (n:Nat):Prop where
 mem:br∈L
 box:∃vf,aY w br [vf,.int .i64 (n:Int)].toArray 188∧bI L w vf ai
theorem RN.ext {br:Nat} {ai:List aj} (h:RN L w br ai n) (k:ak [] w w'):RN L w' br ai n:=let⟨v,h1,h2⟩:=h.box;⟨h.mem,v,h1.ext k,h2.ext k⟩
theorem RN.lt {br:Nat} {ai:List aj} (h:RN L w br ai n):br<w.heap.size:=let⟨_,h1,_⟩:=h.box;h1.lt
theorem RN.re {L':List Nat} {br:Nat} {ai:List aj} (h:RN L w br ai n) (hb:br∈L') (hL:∀x,x∈L'->x∈L∨w.heap.size<=x):RN L' w br ai n:=let⟨v,h1,h2⟩:=h.box;⟨hb,v,h1,h2.fresh hL⟩
theorem RN.aO {br:Nat} {ai:List aj} (h:RN L w br ai n) (k:ak G w w') (hb:br∉G) (hG:∀x,x∈G->x∈L):RN L w' br ai n:=
 let⟨v,h1,h2⟩:=h.box;⟨h.mem,v,h1.aO k hb,h2.aL k hG⟩
theorem RN.out {br:Nat} {ai:List aj} (h:RN G w br ai n) (k:Fr G w G' w') (ho:Out N G0 w w') (hb:br∈G0) (gV:br∈G'):RN G' w' br ai n:=
 let⟨v,h1,h2⟩:=h.box;⟨gV,v,ho.jv h1 hb,h2.go k⟩
theorem DU (c:UInt8) (ai:List aj) (n:Nat):bK c ai n<=n+ai.length+1:=(oD c ai n).2
theorem MJ (ai:List aj) (n:Nat) (hn:n<=100000) (hb:ai.length<=10000) (br:Nat) (L:List Nat) (w:World) (h:RN L w br ai n):
  cj Tryz.prog 203 [.pointer (some ⟨br,0,none⟩)] w λr w'=>(r=str (dj cx (bK cx ai n))∧RN L w' br ai (bK cx ai n+1))∧ak [br] w w':=by
 have MK:=DU cx ai n
 have rS:=h.mem
 refine cV [.tmp 2] 26 Tryz.func203 rfl YM rfl rfl ?_
 refine zr<|zA<|ag<|cQ ?_
 refine fW (λk:Nat=>[(0,.pointer (some ⟨br,0,none⟩))]) (λk w'=>ak [br] w w'∧RN L w' br ai k∧n<=k∧bK cx ai k=bK cx ai n) (λk=>bK cx ai n+1-k) n rfl (⟨ak.refl _ _,h,lR _,rfl⟩) ?_
 intro gg w1 e1 hI
 obtain⟨hK,⟨_,vf,iF,fQ⟩,hk,hq⟩:=hI
 have hle:=(oD cx ai gg).1
 refine cQ<|zr<|zm<|di rfl<|zf HE rfl<|zl qN rfl (iF.at rfl)<|aC (iM (gg+1) gg om om w1) ?_
 rintro v2 w2 ⟨dA,aq⟩
 have eE:=aq.size
 have hK:=hK.ext aq;have iF:=iF.ext aq;have fQ:=fQ.ext aq
 obtain rfl:=dA
 refine cm rfl rfl (by have:=Dr _ gg (lR _);simp;omega)<|zA<|ag<|zr<|zm<|zm<|di rfl<|zf HE rfl<|zl qN rfl (iF.at rfl)<|eF rfl rfl rfl (wrap_i64 _ om om)<|di rfl<|zf HE rfl<|gW (o:=1) tq rfl rfl rfl iF rfl ?_
 intro w3 aJ iF dN
 have fQ:=fQ.aL aJ (by simpa using rS)
 have hK:=hK.trans aJ
 refine ag<|zr<|zm<|di rfl<|zf ZW rfl<|zl eQ rfl (iF.at rfl)<|zm<|aC (zR ai om (dj cx gg) _ _ w3 fQ) ?_
 rintro v4 w4 ⟨eH,aF⟩
 have gI:=aF.size
 have hK:=hK.ext aF;have iF:=iF.ext aF;have fQ:=fQ.ext aF
 obtain rfl:=eH
 refine eJ rfl<|ag<|zc rfl (λh1=>?_) (λh1=>?_)
 have mZ:dj cx gg∉ai:=(by simpa using h1)
 have F6:bK cx ai n=gg:=hq.symm.trans (RA mZ)
 refine zr<|zm<|zA<|ag<|aV ?_
 exact⟨_,rfl,⟨by rw[F6];rfl,rS,_,by rw[F6];exact iF,fQ⟩,hK⟩
 have mZ:dj cx gg∈ai:=(by simpa using h1)
 have hfs:=Rz mZ
 have Ra:=(oD cx ai (gg+1)).1
 refine bz ?_
 exact⟨gg+1,rfl,⟨hK,⟨rS,vf,iF,fQ⟩,om,om⟩,om⟩
theorem TE (ai:List aj) (ρ:Rn) (e:Ex) (n:Nat):∀k,k<=e.kids.length->n<=(kG ai ρ e n k).2∧(kG ai ρ e n k).2<=n+kN e k*(ai.length+2)
 |0,_=>by simp[kG]
 |k+1,hk=>by
  have h1:=TE ai ρ e n k om
  have h2:=jz ai (fJ e k) ρ (kG ai ρ e n k).2
  rw[yf om,Nat.add_mul]
  show n<=(cg ai (fJ e k) ρ (kG ai ρ e n k).2).2∧(cg ai (fJ e k) ρ (kG ai ρ e n k).2).2<=_
  omega
end Go.Proofs.YtigijcjccmdmhaaGreatDoor
