/- Lemmas for the law FnWants, no statement of their own: no conditions. -/
import Derived.Test.YtcildnfcpkpomaaGreatDoorGc
import Derived.Deep.Strs
import Derived.Laws.MakeOwn
set_option maxHeartbeats 4000000
set_option linter.unusedVariables false
set_option linter.unusedSimpArgs false
namespace Go.Proofs.YtcildnfcpkpomaaGreatDoor
open Go
variable {w w' w0:World} {k k':IntKind} {B E N U b bytes i m n o off sz t:Nat} {l:List Oper} {L L' d:List Nat} {r:List (List Nat)} {V v z:Value} {e0:Env} {p q:Prop} {c:Operand} {a:Int} {vs xs:List Value} {P:Program} {ops:Array Oper} {rows:List (List C)} {ps:List cM}
inductive Iu where
 |v (V:Value)
 |p (f:List Nat->Value->World->Prop)
 |e (t:Nat)
 |w (t:Nat) (V:Value)
 |d (f:List Value->Value)
 |u
def Iu.F:Iu->List Nat->Value->World->Prop
 | .v V=>λ_ v _=>v=V
 | .p f=>f
 | .w _ V=>λ_ v _=>v=V
 |_=>λ_ _ _=>True
def Iu.lq:Iu->Option Nat
 | .e t=>some t
 | .w t _=>some t
 |_=>none
def Iu.tI:Iu->Bool
 | .u=>true
 |_=>false
def Iu.late:Iu->Bool
 | .u=>true
 | .d _=>true
 |_=>false
abbrev gH:Iu:=.p λ_ _ _=>True
def uT (b:List Iu) (c:List Nat) (G:List Nat) (aU:List Value) (w:World):List Nat->(List (Nat×Value)->Prop)->Prop
 |[],k=>k []
 |j::r,k=>match b.getD j gH with
  | .v V=>uT b c G aU w r λa=>k ((c.getD j 0,V)::a)
  | .p f=>∀v,f G v w->uT b c G aU w r λa=>k ((c.getD j 0,v)::a)
  | .e t=>uT b c G aU w r λa=>k ((c.getD j 0,aU.getD t undef)::a)
  | .w _ V=>uT b c G aU w r λa=>k ((c.getD j 0,V)::a)
  | .d f=>uT b c G aU w r λa=>k ((c.getD j 0,f aU)::a)
  | .u=>∀v,uT b c G aU w r λa=>k ((c.getD j 0,v)::a)
def Wu (q:Iu) (G:List Nat) (aU:List Value) (v:Value) (w:World):Prop:=q.F G v w/\(∀t,q= .e t->aU.getD t undef=v)/\∀f,q= .d f->f aU=v
theorem xJ {b:List Iu} {l:List Nat} {G:List Nat} {aU:List Value} {vs:Nat->Value}:∀{deps:List Nat} {k:List (Nat×Value)->Prop},uT b l G aU w deps k->
  (∀j∈deps,Wu (b.getD j gH) G aU (vs j) w)->k (vM l vs deps)
 |[],k,h,_=>h
 |j::r,k,h,hd=>by
  obtain⟨c,m,o⟩:=hd j<|List.mem_cons_self ..;unfold uT at h;have g:∀i∈r,_:=λi n=>hd i<|mK _ n;cases e:b.getD j gH with
  |v V=>rw[e] at h c;have a:vs j=V:=c;subst a;exact xJ (deps:=r) h g
  |p f=>rw[e] at h c;exact xJ (deps:=r) (h _ c) g
  |e t=>rw[e] at h;have a:=m t e;simp only[a] at h;exact xJ (deps:=r) h g
  |w t V=>rw[e] at h c;have a:vs j=V:=c;subst a;exact xJ (deps:=r) h g
  |d f=>rw[e] at h;have a:=o f e;simp only[a] at h;exact xJ (deps:=r) h g
  |u=>rw[e] at h;exact xJ (deps:=r) (h _) g
section
variable (P:Program) (n:Nat) (ops:Array Oper) (W ds:List Nat) (its:List Iu) (Js:List (List Nat->List Value->World->Prop)) (JF:(Nat->Bool)->List Nat->List Value->World->Prop) (e0:Env) (G0:List Nat) (w0:World)
def LO (i:Nat) (o:Oper) (b:List Nat):Prop:=
 ∀(x:Env) (w:World) (G:List Nat) (aU:List Value),Fr G0 w0 G w->fG G w->uT its ds G aU w b λa=>
  OW P n ops (λc w'=>ak [] w w'/\(its.getD i gH).F G (c<|ds.getD i 0) w'/\eP [ds.getD i 0] (ba (aZ W x e0) a) c) [o] (ba (aZ W x e0) a) w
def IT (t i:Nat) (o:Oper) (b:List Nat):Prop:=
 ∀(x:Env) (w:World) (G:List Nat) (aU:List Value),Fr G0 w0 G w->fG G w->Js.getD t (λ_ _ _=>True) G aU w->aU.length=t->uT its ds G aU w b λa=>
  OW P n ops (λd w'=>(∃c,Fr G w c w'/\fG c w'/\Js.getD (t+1) (λ_ _ _=>True) c (aU++[d (ds.getD i 0)]) w'/\(its.getD i gH).F c (d<|ds.getD i 0) w')/\eP [ds.getD i 0] (ba (aZ W x e0) a) d) [o] (ba (aZ W x e0) a) w
def PR (ne:Nat) (f:List Value->Value) (i:Nat) (o:Oper) (b:List Nat):Prop:=
 ∀(x:Env) (w:World) (G:List Nat) (aU:List Value) (S:Nat->Bool),Fr G0 w0 G w->fG G w->JF S G aU w->aU.length=ne->uT its ds G aU w b λa=>
  OW P n ops (λc w'=>ak [] w w'/\c (ds.getD i 0)=f aU/\eP [ds.getD i 0] (ba (aZ W x e0) a) c) [o] (ba (aZ W x e0) a) w
def PS (ne i:Nat) (o:Oper) (b:List Nat):Prop:=
 ∀(x:Env) (w:World) (G:List Nat) (aU:List Value) (S:Nat->Bool),Fr G0 w0 G w->fG G w->JF S G aU w->S i=false->aU.length=ne->uT its ds G aU w b λa=>
  OW P n ops (λd w'=>(∃c,Fr G w c w'/\fG c w'/\JF (λj=>if j=i then true else S j) c aU w')/\eP [ds.getD i 0] (ba (aZ W x e0) a) d) [o] (ba (aZ W x e0) a) w
def uc (ne i:Nat) (o:Oper) (a:List Nat):Prop:=match its.getD i gH with
 | .e t=>IT P n ops W ds its Js e0 G0 w0 t i o a
 | .w t _=>IT P n ops W ds its Js e0 G0 w0 t i o a
 | .d f=>PR P n ops W ds its JF e0 G0 w0 ne f i o a
 | .u=>PS P n ops W ds its JF e0 G0 w0 ne i o a
 |_=>LO P n ops W ds its e0 G0 w0 i o a
def sI (ne:Nat):Nat->List Oper->List (List Nat)->Prop
 |_,[],_=>True
 |_,_::_,[]=>True
 |k,o::l,d::r=>uc P n ops W ds its Js JF e0 G0 w0 ne k o d/\sI ne (k+1) l r
end
section
variable {P:Program} {n:Nat} {ops:Array Oper} {W ds:List Nat} {its:List Iu} {Js:List (List Nat->List Value->World->Prop)} {JF:(Nat->Bool)->List Nat->List Value->World->Prop} {e0:Env} {G0:List Nat} {w0:World} {ne:Nat}
theorem uf {k:Nat} {o:Oper} (h:LO P n ops W ds its e0 G0 w0 k o d) (a:sI P n ops W ds its Js JF e0 G0 w0 ne (k+1) l r) (hk:(its.getD k gH).lq=none/\(its.getD k gH).late=false:=by exact⟨rfl,rfl⟩):sI P n ops W ds its Js JF e0 G0 w0 ne k (o::l) (d::r):=by grind [LO,sI,Ie.lq,Iu.lq,Iu.late,uc]
theorem ue (t:Nat) {k:Nat} {o:Oper} (h:IT P n ops W ds its Js e0 G0 w0 t k o d) (a:sI P n ops W ds its Js JF e0 G0 w0 ne (k+1) l r) (hk:(its.getD k gH).lq=some t:=by rfl):sI P n ops W ds its Js JF e0 G0 w0 ne k (o::l) (d::r):=by grind [IT,sI,Ie.lq,Iu.lq,uc]
theorem ud {k:Nat} {o:Oper} {f:List Value->Value} (h:PR P n ops W ds its JF e0 G0 w0 ne f k o d) (a:sI P n ops W ds its Js JF e0 G0 w0 ne (k+1) l r) (hk:its.getD k gH= .d f:=by rfl):sI P n ops W ds its Js JF e0 G0 w0 ne k (o::l) (d::r):=by grind [PR,sI,uc]
theorem uu {k:Nat} {o:Oper} (h:PS P n ops W ds its JF e0 G0 w0 ne k o d) (a:sI P n ops W ds its Js JF e0 G0 w0 ne (k+1) l r) (hk:its.getD k gH= .u:=by rfl):sI P n ops W ds its Js JF e0 G0 w0 ne k (o::l) (d::r):=by grind [PS,sI,uc]
theorem Wv:∀(l:List Oper) (a:List (List Nat)) (k:Nat),sI P n ops W ds its Js JF e0 G0 w0 ne k l a->∀(i:Nat) (o:Oper) (d:List Nat),l[i]?=some o->a[i]?=some d->uc P n ops W ds its Js JF e0 G0 w0 ne (k+i) o d
 |[],_,_,_,i,o,d,h,_=>by simp at h
 |_::_,[],_,_,i,o,d,_,h=>by simp at h
 |o::l,d::r,k,h,0,o',d',ho,hd=>by simp at ho hd;subst ho;subst hd;exact h.1
 |o::l,d::r,k,h,i+1,o',d',ho,hd=>by have:=Wv l r (k+1) h.2 i o' d' (by simpa using ho) (by simpa using hd);rwa [show k+1+i=k+(i+1) by omega] at this
end
def uB (l:List Oper) (m:Nat) (a:List Nat) (b:List Iu):Bool:=
 (List.range a.length).all (λt=>decide (a.getD t 0<m)&&((b.getD (a.getD t 0) gH).lq==some t)&&(decide (t=0)||(match l[a.getD t 0]? with|some o=>waits o (a.getD (t-1) 0)|none=>false)))&&
 (List.range m).all (λi=>(match(b.getD i gH).lq with|some t=>decide (t<a.length)&&decide (a.getD t 0=i)|none=>true)&&
  (!(b.getD i gH).late||decide (a.length=0)||(match l[i]? with|some o=>waits o (a.getD (a.length-1) 0)|none=>false)))&&
 decide (b.length<=m)
theorem aiT {d:List Nat} {e:List Iu} (h:uB l m d e=true):
  (∀t,t<d.length->d.getD t 0<m/\(e.getD (d.getD t 0) gH).lq=some t/\(t≠0->∃o,l[d.getD t 0]?=some o/\waits o (d.getD (t-1) 0)=true))/\
  (∀i t,i<m->(e.getD i gH).lq=some t->t<d.length/\d.getD t 0=i)/\
  (∀i,i<m->(e.getD i gH).late=true->d.length≠0->∃o,l[i]?=some o/\waits o (d.getD (d.length-1) 0)=true)/\e.length<=m:=by
 unfold uB at h;rw[aE,aE,List.all_eq_true,List.all_eq_true,dE] at h;obtain⟨⟨p,j⟩,q⟩:=h;refine⟨λt u=>?_,λi t g r=>?_,λi g f s=>?_,q⟩
 .have:=p t<|List.mem_range.2 u;simp only[aE,dE,beq_iff_eq,oE] at this;obtain⟨⟨a,b⟩,c⟩:=this;refine⟨a,b,λn=>?_⟩;rcases c with c|c
  .exact absurd c n
  .cases f:l[d.getD t 0]? with
   |none=>rw[f] at c;cases c
   |some o=>rw[f] at c;exact⟨o,rfl,c⟩
 .have:=j i<|List.mem_range.2 g;rw[r] at this;simp only[aE,dE] at this;exact this.1
 .have:=j i<|List.mem_range.2 g;rw[aE,f] at this;have:=this.2;simp only[Bool.not_true,Bool.false_or,oE,dE] at this;rcases this with c|c
  .exact absurd c s
  .cases f:l[i]? with
   |none=>rw[f] at c;cases c
   |some o=>rw[f] at c;exact⟨o,rfl,c⟩
def IU:List Iu->Prop
 |[]=>True
 | .p f::r=>(∀G v w a w',f G v w->Fr G w a w'->f a v w')/\IU r
 |_::r=>IU r
theorem Ec:∀{its:List Iu},IU its->∀q∈its,∀G v w b w',q.F G v w->Fr G w b w'->q.F b v w'
 |s::r,h,q,hq,G,v,w,b,w',hf,hk=>by
  rcases mC.1 hq with e|a
  .subst e;cases q with
   |p f=>exact h.1 _ _ _ _ _ hf hk
   |_=>exact hf
  .cases s with
   |p f=>exact Ec (its:=r) h.2 q a _ _ _ _ _ hf hk
   |v V=>exact Ec (its:=r) h q a _ _ _ _ _ hf hk
   |e t=>exact Ec (its:=r) h q a _ _ _ _ _ hf hk
   |w t V=>exact Ec (its:=r) h q a _ _ _ _ _ hf hk
   |d f=>exact Ec (its:=r) h q a _ _ _ _ _ hf hk
   |u=>exact Ec (its:=r) h q a _ _ _ _ _ hf hk
theorem Ww {a:List Iu} (h:IU a) (i:Nat) {G:List Nat} {c:List Nat} (b:(a.getD i gH).F G v w) (hk:Fr G w c w'):(a.getD i gH).F c v w':=by
 rw[gG] at b⊢;cases e:a[i]? with
 |none=>trivial
 |some q=>rw[e] at b;exact Ec h q (List.mem_of_getElem? e) _ _ _ _ _ b hk
section
variable {P:Program} {n:Nat} {l:List Oper} {m:Nat} {W ds:List Nat} {deps:List (List Nat)}
theorem Wx {N R:Env->World->Prop} {X:Nat->Env->World->Prop} {id:Nat} {Z:Env} {K:World} (hm:P.follows .mixedOrders=true) (G0:List Nat) (m:Nat) (W s:List Nat) (B:List (List Nat)) (c:List Iu) (b:List Nat) (Js:List (List Nat->List Value->World->Prop)) (JF:(Nat->Bool)->List Nat->List Value->World->Prop) 
  (hB:vO l m W s B=true) (hE:uB l m b c=true) (hL:fG G0 K) (hF:IU c) (hJ:LN Js) (Wy:∀S G vs w w',JF S G vs w->ak [] w w'->JF S G vs w') (h0:Js.getD 0 (λ_ _ _=>True) G0 [] K)
  (LQ:∀G vs w,Js.getD b.length (λ_ _ _=>True) G vs w->vs.length=b.length->JF (λ_=>false) G vs w)
  (hc:sI P n l.toArray W s c Js JF Z G0 K b.length 0 (l.take m) B)
  (ht:∀(x:Env) (w:World) (G:List Nat) (aU:List Value),Fr G0 K G w->fG G w->JF (λi=>(c.getD i gH).tI) G aU w->aU.length=b.length->uT c s G aU w (List.range m) λacc=>OW P n l.toArray N (l.drop m) (ba (aZ W x Z) acc) w):
  CW P n (.region id l.toArray true) N R X Z K:=λa ha=>by
 refine wp_region_any hm ?_;have gK:ak [] K {K with drawn:=K.drawn+1}:=ak.drew _ _;obtain⟨_,_,_,jw,mM⟩:=F4 hB;obtain⟨pd,lQ,IV,_⟩:=aiT hE;have dz:∀i j,i<m->j<m->i≠j->s.getD j 0≠s.getD i 0:=λi j hi q mN=>by rw[gG,gG,gE om,gE om];simp only[Option.getD_some];intro he;exact mN ((List.getElem_inj jw).1 he.symm)
 let I:Nat->Env->List Value:=λk e=>(b.take k).map λi=>e<|s.getD i 0;let Y:(Nat->Bool)->Nat->Bool:=λS i=>S i&&(c.getD i gH).tI;let Inv:(Nat->Bool)->Env->World->Prop:=λS e w=>∃G k,eP W Z e/\Fr G0 K G w/\fG G w/\k<=b.length/\(∀t,t<b.length->(S (b.getD t 0)=true↔t<k))/\
  (k<b.length->Js.getD k (λ_ _ _=>True) G (I k e) w/\∀i,i<m->S i=true->(c.getD i gH).late=false)/\(k=b.length->JF (Y S) G (I k e) w)/\
  ∀i,i<m->S i=true->(c.getD i gH).F G (e<|s.getD i 0) w/\∀f,c.getD i gH= .d f->f (I k e)=e (s.getD i 0)
 have IN:∀(S:Nat->Bool) (e:Env) (k:Nat),(∀t,t<b.length->(S (b.getD t 0)=true↔t<k))->k<=b.length->∀j t,j<m->S j=true->(c.getD j gH).lq=some t->(I k e).getD t undef=e (s.getD j 0):=by intro S e k O hk j t q F he;obtain⟨y,C⟩:=lQ j t q he;have U:t<k:=(O t y).1 (by rw[C];exact F);show((b.take k).map λi=>e<|s.getD i 0).getD t undef=_;rw[gG,List.getElem?_map,List.getElem?_take,iP U,gE y];rw[gG,gE y] at C;simp only[Option.getD_some] at C;simp[C]
 have IW:∀k e,k<=b.length->(I k e).length=k:=λk e hk=>by show((b.take k).map _).length=k;simp;omega
 have step:∀(S:Nat->Bool) (e:Env) (w:World) (i:Nat) (o:Oper),i<m->l[i]?=some o->S i=false->(∀j,waits o j=true->S j=true)->Inv S e w->
   OW P n l.toArray (λg w'=>Inv (λj=>if j=i then true else S j) g w') [o] e w:=by
  rintro S e w i o sy ho we Cj ⟨G,k,rF,bL,qW,il,O,xI,GC,qf⟩;obtain⟨hW,BI⟩:=(mM i o ho).2.1 sy;obtain⟨dp,BJ⟩:∃d,B[i]?=some d:=⟨B[i]'om,gE om⟩;have DJ:B.getD i []=dp:=by rw[gG,BJ];rfl
  rw[DJ] at BI;have A:=Wv (l.take m) B 0 hc i o dp (by rw[List.getElem?_take,iP sy];exact ho) BJ;rw[Nat.zero_add] at A;have hd:∀j∈dp,Wu (c.getD j gH) G (I k e) (e (s.getD j 0)) w:=λj q=>by obtain⟨y,C⟩:=BI j q;have U:=qf j C<|Cj j y;exact⟨U.1,λt het=>IN S e k O il j t C (Cj j y) (by rw[het];rfl),U.2⟩
  have IP:∀g,eP [s.getD i 0] e g->eP W Z g:=λg h t Ea=>by
   have GA:t≠s.getD i 0:=λhe=>by rw[he,hW] at Ea;cases Ea
   rw[h t (by simpa using GA)];exact rF t Ea
  have Ck:∀g,eP [s.getD i 0] e g->∀j,j<m->j≠i->g (s.getD j 0)=e (s.getD j 0):=λg h j q z=>h _ (by simpa using dz i j sy q λh=>z h.symm);have gq:[o]=[o]++[]:=rfl;have Wz:∀g,eP [s.getD i 0] e g->∀k',k'<=b.length->(∀t,t<k'->b.getD t 0≠i)->I k' g=I k' e:=λg H k' qJ oF=>by
   show(b.take k').map _=(b.take k').map _;apply List.map_congr_left;intro j q;obtain⟨t,mW⟩:=List.mem_iff_getElem?.1 q;rw[List.getElem?_take] at mW;split at mW
   .rename_i eI;have E:t<b.length:=(List.getElem?_eq_some_iff.1 mW).1;have xj:b.getD t 0=j:=by rw[gG,mW];rfl
    exact Ck g H j (by have:=(pd t E).1;rw[xj] at this;exact this) λh=>oF t eI<|xj.trans h
   .cases mW
  -- what is late comes behind the last effect
  have WB:(c.getD i gH).late=true->k=b.length:=λhl=>by
   rcases Nat.eq_zero_or_pos b.length with h0|h0
   .omega
   .obtain⟨o',ou,IQ⟩:=IV i sy hl om;rw[ho] at ou;cases ou;have:=(O (b.length-1) om).1<|Cj _ IQ;omega
  -- an operation that is no effect in the order
  have T:∀(g:Env) (w':World) (M:List Nat),(c.getD i gH).lq=none->eP [s.getD i 0] e g->Fr G w M w'->fG M w'->
    (k<b.length->Js.getD k (λ_ _ _=>True) M (I k e) w'/\(c.getD i gH).late=false)->(k=b.length->JF (Y λj=>if j=i then true else S j) M (I k e) w')->
    (c.getD i gH).F M (g<|s.getD i 0) w'->(∀f,c.getD i gH= .d f->f (I k e)=g (s.getD i 0))->Inv (λj=>if j=i then true else S j) g w':=by
   intro g w' M uR H yM Eb Cn tJ Ap hDi;have oF:∀t,t<b.length->b.getD t 0≠i:=λt E h=>by have:=(pd t E).2.1;rw[h,uR] at this;cases this
   have Ed:=Wz g H k il λt ht=>oF t om;refine⟨M,k,IP g H,bL.go yM,Eb,il,λt E=>?_,λeI=>⟨?_,λj q F=>?_⟩,λD=>?_,λj q F=>?_⟩
   .simp only[iN (oF t E)];exact O t E
   .rw[Ed];exact(Cn eI).1
   .by_cases z:j=i
    .rw[z];exact(Cn eI).2
    .simp only[iN z] at F;exact(xI eI).2 j q F
   .rw[Ed];exact tJ D
   .rw[Ed];by_cases z:j=i
    .rw[z];exact⟨Ap,hDi⟩
    .simp only[iN z] at F;rw[Ck g H j q z];exact⟨Ww hF j (qf j q F).1 yM,(qf j q F).2⟩
  have WC:(c.getD i gH).tI=false->Y (λj=>if j=i then true else S j)=Y S:=λh=>by
   funext j;show((if j=i then true else S j)&&(c.getD j gH).tI)=(S j&&(c.getD j gH).tI);by_cases z:j=i
   .rw[z,h];simp
   .rw[iN z]
  -- the cases
  have J:LO P n l.toArray W s c Z G0 K i o dp->(c.getD i gH).lq=none->(c.getD i gH).late=false->(∀f,c.getD i gH≠ .d f)->(c.getD i gH).tI=false->OW P n l.toArray (λg w'=>Inv (λj=>if j=i then true else S j) g w') [o] e w:=by intro A uR IX PT WD;have y:=xJ (A e w G _ bL qW) (vs:=λj=>e<|s.getD j 0) hd;rw[Ci rF] at y;rw[gq];refine yx y ?_;rintro g w' ⟨qJ,Ap,H⟩;exact aV (T g w' G uR H (Fr.of qJ sm) (λx hx=>lL (qW x hx) qJ.size) (λeI=>⟨IM hJ k (xI eI).1 qJ,IX⟩) (λD=>by rw[WC WD];exact Wy _ _ _ _ _ (GC D) qJ) Ap λf Q=>absurd Q<|PT f)
  have effC:∀t,(c.getD i gH).lq=some t->IT P n l.toArray W s c Js Z G0 K t i o dp->(c.getD i gH).late=false->(∀f,c.getD i gH≠ .d f)->(c.getD i gH).tI=false->OW P n l.toArray (λg w'=>Inv (λj=>if j=i then true else S j) g w') [o] e w:=by
   intro t uR A IX PT WD;obtain⟨E,uS⟩:=lQ i t sy uR;have rU:k=t:=by
    have y:¬t<k:=λh=>by have:=(O t E).2 h;rw[uS,we] at this;cases this
    rcases Nat.eq_zero_or_pos t with h0|h0
    .omega
    .obtain⟨o',ou,IQ⟩:=(pd t E).2.2 om;rw[uS,ho] at ou;cases ou;have:=(O (t-1) om).1<|Cj _ IQ;omega
   subst rU;have y:=xJ (A e w G _ bL qW (xI E).1<|IW k e il) (vs:=λj=>e<|s.getD j 0) hd;rw[Ci rF] at y;rw[gq];refine yx y ?_;rintro g w' ⟨⟨M,yM,Eb,GB,Ap⟩,H⟩;have IS:∀L,L<b.length->b.getD L 0=i->L=k:=λL y C=>by have:=(pd L y).2.1;rw[C,uR] at this;cases this;rfl
   have Ed:I k g=I k e:=Wz g H k il (λL _ h=>by have:=IS L om h;omega);have fo:I (k+1) g=I k e++[g (s.getD i 0)]:=by
    have C:b[k]?=some i:=by rw[gG,gE E] at uS;rw[gE E];simpa using uS
    rw[<-Ed];show(b.take<|k+1).map _=(b.take k).map _++_;rw[List.take_add_one,C,List.map_append];rfl
   have WE:∀j,j<m->(if j=i then true else S j)=true->(c.getD j gH).late=false:=λj q F=>by
    by_cases z:j=i
    .rw[z];exact IX
    .rw[iN z] at F;exact(xI E).2 j q F
   refine aV ⟨M,k+1,IP g H,bL.go yM,Eb,om,λL Cl=>?_,λ_=>⟨by rw[fo];exact GB,WE⟩,λD=>?_,λj q F=>?_⟩
   .by_cases C:b.getD L 0=i
    .have:=IS L Cl C;simp only[iP C];exact⟨λ_=>om,λ_=>trivial⟩
    .simp only[iN C];rw[O L Cl];have:L≠k:=λh=>by rw[h] at C;exact C uS
     omega
   .have e1:Y (λj=>if j=i then true else S j)=λ_=>false:=by
     funext j;show((if j=i then true else S j)&&(c.getD j gH).tI)=false;by_cases DK:j<m
     .cases hb:(if j=i then true else S j) with
      |false=>rfl
      |true=>
       have U:=WE j DK hb;cases e:c.getD j gH with
       |u=>rw[e] at U;cases U
       |_=>rfl
     .rw[gG,List.getElem?_eq_none om];simp[Iu.tI]
    rw[e1];exact LQ _ _ _ (by rw[fo,<-D];exact GB) (by rw[IW _ _ om];omega)
   .by_cases z:j=i
    .rw[z];exact⟨Ap,λf Q=>absurd Q<|PT f⟩
    .simp only[iN z] at F;rw[Ck g H j q z];refine⟨Ww hF j (qf j q F).1 yM,λf Q=>?_⟩;have:=(xI E).2 j q F;rw[Q] at this;cases this
  cases r:c.getD i gH with
  |v V=>unfold uc at A;rw[r] at A;exact J A (by rw[r];rfl) (by rw[r];rfl) (λf h=>by rw[r] at h;cases h) (by rw[r];rfl)
  |p f=>unfold uc at A;rw[r] at A;exact J A (by rw[r];rfl) (by rw[r];rfl) (λf h=>by rw[r] at h;cases h) (by rw[r];rfl)
  |e t=>unfold uc at A;rw[r] at A;exact effC t (by rw[r];rfl) A (by rw[r];rfl) (λf h=>by rw[r] at h;cases h) (by rw[r];rfl)
  |w t V=>unfold uc at A;rw[r] at A;exact effC t (by rw[r];rfl) A (by rw[r];rfl) (λf h=>by rw[r] at h;cases h) (by rw[r];rfl)
  |d f=>unfold uc at A;rw[r] at A;have D:=WB (by rw[r];rfl);have y:=xJ (A e w G _ _ bL qW (GC D) (by rw[IW k e il];exact D)) (vs:=λj=>e<|s.getD j 0) hd;rw[Ci rF] at y;rw[gq];refine yx y ?_;rintro g w' ⟨qJ,Ee,H⟩;exact aV (T g w' G (by rw[r];rfl) H (Fr.of qJ sm) (λx hx=>lL (qW x hx) qJ.size) (λeI=>om) (λD=>by rw[WC (by rw[r];rfl)];exact Wy _ _ _ _ _ (GC D) qJ) (by rw[r];trivial) λf' Q=>by rw[r] at Q;cases Q;exact Ee.symm)
  |u=>
   unfold uc at A;rw[r] at A;have D:=WB (by rw[r];rfl);have y:=xJ (A e w G _ _ bL qW (GC D) (by show(S i&&_)=false;rw[we];rfl) (by rw[IW k e il];exact D)) (vs:=λj=>e<|s.getD j 0) hd;rw[Ci rF] at y;rw[gq];refine yx y ?_;rintro g w' ⟨⟨M,yM,Eb,GB⟩,H⟩;refine aV (T g w' M (by rw[r];rfl) H yM Eb (λeI=>om) (λD=>?_) (by rw[r];trivial) λf' Q=>by rw[r] at Q;cases Q);have e1:Y (λj=>if j=i then true else S j)=λj=>if j=i then true else Y S j:=by
    funext j;show((if j=i then true else S j)&&(c.getD j gH).tI)=if j=i then true else(S j&&(c.getD j gH).tI)
    by_cases z:j=i
    .rw[iP z,iP z,z,r];rfl
    .rw[iN z,iN z]
   rw[e1];exact GB
 have tail:∀(S:Nat->Bool) (e:Env) (w:World),(∀i,i<m->S i=true)->Inv S e w->OW P n l.toArray N (l.drop m) e w:=by
  rintro S e w Cm ⟨G,k,rF,bL,qW,il,O,xI,GC,qf⟩;have hk:k=b.length:=by
   rcases Nat.lt_or_ge k b.length with h|h
   .have:=(O k h).1<|Cm _ (pd k h).1;omega
   .omega
  subst hk;have e1:Y S=λi=>(c.getD i gH).tI:=by
   funext j;show(S j&&(c.getD j gH).tI)=_;by_cases DK:j<m
   .rw[Cm j DK];rfl
   .rw[gG,List.getElem?_eq_none om];simp[Iu.tI]
  have q:=GC rfl;rw[e1] at q;have y:=xJ (ht e w G _ bL qW q (IW _ e<|lR _)) (vs:=λj=>e<|s.getD j 0) (λj q=>by have qK:=List.mem_range.1 q;have U:=qf j qK<|Cm j qK;exact⟨U.1,λt het=>IN S e _ O il j t qK (Cm j qK) (by rw[het];rfl),U.2⟩);rw[Ci rF] at y;exact y
 have jq:∀j,(Array.replicate l.length false).getD j false=false:=λj=>by rw[Array.getD_eq_getD_getElem?,Array.getElem?_replicate];split<;>rfl
 have PQ:Inv (λj=>(Array.replicate l.length false).getD j false) Z {K with drawn:=K.drawn+1}:=by
  have H4:=IM hJ 0 h0 gK;refine⟨G0,0,zX,Fr.of gK sm,λx hx=>hL x hx,Nat.zero_le _,λt E=>?_,λ_=>⟨H4,λi hi we=>?_⟩,λD=>?_,λi hi we=>?_⟩
  .constructor
   .intro h;exact absurd ((jq (b.getD t 0)).symm.trans h) sm
   .intro h;omega
  .exact absurd ((jq i).symm.trans we) sm
  .have e1:Y (λj=>(Array.replicate l.length false).getD j false)=λ_=>false:=by
    funext j;show((Array.replicate l.length false).getD j false&&_)=false;rw[jq];rfl
   rw[e1];exact LQ _ _ _ (by rw[<-D];exact H4) (by show((b.take 0).map _).length=_;simpa using D)
  .exact absurd ((jq i).symm.trans we) sm
 have:=Wp (N:=N) (Inv:=Inv) hB step tail (mm n N R X) l.length (Array.replicate l.length false) Z a _ ha sm
  (by
   have:((List.range l.length).filter λj=>!(Array.replicate l.length false).getD j true)=List.range l.length:=by rw[List.filter_eq_self];intro j q;rw[List.mem_range] at q;simp[Array.getD_eq_getD_getElem?,q]
   rw[this];simp)
  (by intro j _ q;simp[Array.getD_eq_getD_getElem?,q])
  PQ
  (by intro j o ho q;have qK:j<l.length:=(List.getElem?_eq_some_iff.1 ho).1;simp[Array.getD_eq_getD_getElem?,qK] at q)
 have e1:qE n N (mm n N R X)=mm n N R X:=by funext x a w;cases x<;>rfl
 rw[e1] at this;simpa using this
end
section
variable {P:Program} {n:Nat} {ops:Array Oper} {e:Env} {w w':World} {G:List Nat}
theorem uv {d:Nat} (h:v=V:=by rfl):OW P n ops (λa w'=>ak [] w w'/\(Iu.v V).F G (a d) w'/\eP [d] e a) [] (bX e (some d) v) w:=
 aV ⟨ak.refl _ _,by subst h;exact nI _ _ _,qH⟩
theorem up {d:Nat} {f:List Nat->Value->World->Prop} (k:ak [] w w') (h:f G v w'):OW P n ops (λa w'=>ak [] w w'/\(Iu.p f).F G (a d) w'/\eP [d] e a) [] (bX e (some d) v) w':=
 aV ⟨k,by show f G (iZ e d v d) w';rw[nI];exact h,qH⟩
theorem uE {d:Nat} {aU:List Value} {J:List Nat->List Value->World->Prop} (a:List Nat) (k:Fr G w a w') (c:fG a w') (h:J a (aU++[v]) w'):OW P n ops (λb w'=>(∃a,Fr G w a w'/\fG a w'/\J a (aU++[b d]) w'/\(Iu.e t).F a (b d) w')/\eP [d] e b) [] (bX e (some d) v) w':=
 aV ⟨⟨a,k,c,by show J a (aU++[iZ e d v d]) w';rw[nI];exact h,trivial⟩,qH⟩
theorem uW {d:Nat} {aU:List Value} {J:List Nat->List Value->World->Prop} (a:List Nat) (k:Fr G w a w') (c:fG a w') (h:J a (aU++[v]) w') (f:v=V:=by rfl):OW P n ops (λb w'=>(∃a,Fr G w a w'/\fG a w'/\J a (aU++[b d]) w'/\(Iu.w t V).F a (b d) w')/\eP [d] e b) [] (bX e (some d) v) w':=
 aV ⟨⟨a,k,c,by show J a (aU++[iZ e d v d]) w';rw[nI];exact h,by subst f;exact nI _ _ _⟩,qH⟩
theorem uD {d:Nat} (k:ak [] w w') (h:v=V:=by rfl):OW P n ops (λa w'=>ak [] w w'/\a d=V/\eP [d] e a) [] (bX e (some d) v) w':=by grind [aV,nI,qH]
theorem uU {d:Nat} {Q:List Nat->World->Prop} (a:List Nat) (k:Fr G w a w') (c:fG a w') (h:Q a w'):OW P n ops (λb w'=>(∃a,Fr G w a w'/\fG a w'/\Q a w')/\eP [d] e b) [] e w':=
 aV ⟨⟨a,k,c,h⟩,zX⟩
end
class wg (p:Prop) (q:outParam Prop):Prop where
 imp:p->q
instance (priority:=low) {p:Prop}:wg p p:=⟨id⟩
instance {p:Prop} {i:Decidable p}:wg (@decide p i=true) p:=⟨of_decide_eq_true⟩
instance {p:Prop} {i:Decidable p}:wg (@decide p i=false) (¬p):=⟨of_decide_eq_false⟩
instance {b:Bool}:wg ((!b)=true) (b=false):=⟨λh=>by simpa using h⟩
instance {b:Bool}:wg ((!b)=false) (b=true):=⟨λh=>by simpa using h⟩
theorem jx [t:wg p q] (h:p):q:=t.imp h
section
variable {P:Program} {n:Nat} {N R:Env->World->Prop} {X:Nat->Env->World->Prop} {e:Env} {w:World}
theorem zc {x y:Code} {t:Bool} (a:ev e c= .bool t) [hp:wg (t=true) p] [hq:wg (t=false) q] (b:p->CW P n x N R X e w) (d:q->CW P n y N R X e w):CW P n (.cond c x y) N R X e w:=
 Tv a (λh=>b<|hp.imp h) λh=>d<|hq.imp h
theorem zr {id:Nat} {y:Code} (h:OW P n l.toArray (λe w=>CW P n y N R X e w) l e w):CW P n ((Code.region id l.toArray false).seq y) N R X e w:=j1<|lh h
end
section
variable {P:Program} {n:Nat} {ops:Array Oper} {K:Env->World->Prop} {rest:List Oper} {e:Env} {w:World}
 {dst:Option Nat} {ty:TypeId} {pos:String} {after:Array Edge} {g:Option (Nat×Bool)} {x y:Operand} {T T':TypeId}
theorem zm (k:OW P n ops K rest (bX e dst<|ev e x) w) (b:gate ops e g=true:=by rfl) (a:cD n dst=true:=by rfl):OW P n ops K (⟨dst,.move x,ty,pos,after,g⟩::rest) e w:=acv b a k
theorem zA (k:OW P n ops K rest (bX e dst<|ev e x) w) (b:gate ops e g=true:=by rfl) (a:cD n dst=true:=by rfl):OW P n ops K (⟨dst,.assign x,ty,pos,after,g⟩::rest) e w:=acw b a k
theorem zs {op:Op} (k:OW P n ops K rest (bX e dst undef) w) (b:gate ops e g=false:=by rfl) (a:cD n dst=true:=by rfl):OW P n ops K (⟨dst,op,ty,pos,after,g⟩::rest) e w:=N9 b a k
theorem zp {t:Bool} (a:ev e c= .bool t) (k:OW P n ops K rest (bX e dst<|bif t then ev e x else ev e y) w) (d:gate ops e g=true:=by rfl) (b:cD n dst=true:=by rfl):OW P n ops K (⟨dst,.pick c x y,ty,pos,after,g⟩::rest) e w:=TJ d b a k
theorem zf {S:Nat} (a:gW P S i=some off) (f:ev e x= .pointer (some ⟨b,o,none⟩)) (k:OW P n ops K rest (bX e dst (.pointer<|some ⟨b,o+off,none⟩)) w) (d:gate ops e g=true:=by rfl) (c:cD n dst=true:=by rfl):
  OW P n ops K (⟨dst,.fieldAddr S x i,ty,pos,after,g⟩::rest) e w:=TQ a d c f k
theorem zl {a:Addr} (b:p6 P T=true) (i:ev e x= .pointer (some a)) (c:w.cell? a=some v) (k:OW P n ops K rest (bX e dst v) w) (f:gate ops e g=true:=by rfl) (d:cD n dst=true:=by rfl):
  OW P n ops K (⟨dst,.load T x,ty,pos,after,g⟩::rest) e w:=acy b f d i c k
theorem zL (a:uz P T=true) (l:TI P T sz bytes z) (j:ev e x= .pointer (some ⟨b,o,none⟩)) (c:fW w b o vs) (i:vs.length=sz) (k:OW P n ops K rest (bX e dst<|.agg vs.toArray) w) (f:gate ops e g=true:=by rfl) (d:cD n dst=true:=by rfl):
  OW P n ops K (⟨dst,.load T x,ty,pos,after,g⟩::rest) e w:=acz a l f d j c i k
theorem zi {T E:TypeId} {len cap i:Nat} {p:IntKind} (c:P.underlying T=some (.slice E)) (a:TI P E sz bytes z) (l:ev e x= .slice (some ⟨b,o,none⟩) len cap) (m:ev e y= .int p (i:Int)) (j:i<len) 
  (k:OW P n ops K rest (bX e dst (.pointer<|some ⟨b,o+i*sz,none⟩)) w) (f:gate ops e g=true:=by rfl) (d:cD n dst=true:=by rfl):OW P n ops K (⟨dst,.indexAddr T x y,ty,pos,after,g⟩::rest) e w:=TR c a f d l m j k
theorem zx (d:ev e x= .tuple vs.toArray) (c:vs[i]?=some v) (k:OW P n ops K rest (bX e dst v) w) (b:gate ops e g=true:=by rfl) (a:cD n dst=true:=by rfl):
  OW P n ops K (⟨dst,.extract x i,ty,pos,after,g⟩::rest) e w:=TT b a d c k
end
theorem vfm {W c:List Nat} {a:List Ie} {e:List (List Nat->List Value->World->Prop)} {b:List Nat} {k:Nat} {o:Oper} (f:xH P n ops W c a e e0 b w0 (k+1) l r) (h:LM P n ops W c a e0 b w0 k o d:=by exact λ_ _ _ _ _ _=>zm fv) (hk:(a.getD k nS).lq=none:=by rfl):xH P n ops W c a e e0 b w0 k (o::l) (d::r):=vf h f hk
theorem vk {W c:List Nat} {a:List It} {f:World} {k:Nat} {o:Oper} (aC:ak [] f w0) (h:∀(x:Env) (w:World),ak [] f w->dq a c w d λb=>OW P n ops (λe w'=>ak [] w w'/\(a.getD k<|.p λ_ _=>True).F (e<|c.getD k 0) w'/\eP [c.getD k 0] (ba (aZ W x e0) b) e) [o] (ba (aZ W x e0) b) w) (g:sD P n ops W c a e0 w0 (k+1) l r):sD P n ops W c a e0 w0 k (o::l) (d::r):=vc (λx w hk=>h x w<|ak.trans aC hk) g
theorem Co {W b:List Nat} {a:List It} {k:Nat} {o:Oper} (c:sD P n ops W b a e0 w0 (k+1) l r) (h:Ix P n ops W b a e0 w0 k o d:=by exact λ_ _ _=>zm pv):sD P n ops W b a e0 w0 k (o::l) (d::r):=⟨h,c⟩
theorem vcs {W b:List Nat} {a:List It} {k:Nat} {o:Oper} (c:sD P n ops W b a e0 w0 (k+1) l r) (h:Ix P n ops W b a e0 w0 k o d:=by exact λ_ _ _=>N9 rfl rfl pv):sD P n ops W b a e0 w0 k (o::l) (d::r):=⟨h,c⟩
class FO (P:Program) (S i:Nat) (off:outParam Nat):Prop where h:gW P S i=some off
class O1 (P:Program) (T:Nat):Prop where h:p6 P T=true
class OA (P:Program) (T:Nat):Prop where h:uz P T=true
class oG (P:Program) (T:Nat) (sz bytes:outParam Nat) (z:outParam Value):Prop where h:TI P T sz bytes z
class UL (P:Program) (T:Nat) (d:outParam TypeDesc):Prop where h:P.underlying T=some d
instance:OA Tryz.prog 103:=⟨fO⟩
instance:OA Tryz.prog 117:=⟨ahp⟩
instance:OA Tryz.prog 144:=⟨Vr⟩
instance:OA Tryz.prog 39:=⟨Gg⟩
instance:OA Tryz.prog 61:=⟨jg⟩
instance:OA Tryz.prog 80:=⟨D0⟩
instance:UL Tryz.prog 158 (.array 40 61):=⟨IA⟩
instance:UL Tryz.prog 159 (.array 40 4):=⟨Gh⟩
instance:UL Tryz.prog 4 .bool:=⟨ahy⟩
instance:FO Tryz.prog 103 0 0:=⟨mv⟩
instance:FO Tryz.prog 103 1 1:=⟨kt⟩
instance:FO Tryz.prog 117 0 0:=⟨ahz⟩
instance:FO Tryz.prog 117 1 1:=⟨ahA⟩
instance:FO Tryz.prog 142 0 0:=⟨ahB⟩
instance:FO Tryz.prog 142 1 1:=⟨ahC⟩
instance:FO Tryz.prog 142 2 2:=⟨ahD⟩
instance:FO Tryz.prog 142 3 3:=⟨ahE⟩
instance:FO Tryz.prog 142 4 4:=⟨ahF⟩
instance:FO Tryz.prog 142 5 5:=⟨ahG⟩
instance:FO Tryz.prog 144 0 0:=⟨ahH⟩
instance:FO Tryz.prog 144 1 1:=⟨Vt⟩
instance:FO Tryz.prog 144 10 11:=⟨ahI⟩
instance:FO Tryz.prog 144 2 2:=⟨ahJ⟩
instance:FO Tryz.prog 144 3 3:=⟨Ln⟩
instance:FO Tryz.prog 144 4 4:=⟨ahK⟩
instance:FO Tryz.prog 144 5 5:=⟨ahL⟩
instance:FO Tryz.prog 144 6 6:=⟨ahM⟩
instance:FO Tryz.prog 144 7 7:=⟨Vu⟩
instance:FO Tryz.prog 144 8 9:=⟨Vv⟩
instance:FO Tryz.prog 144 9 10:=⟨ahN⟩
instance:FO Tryz.prog 161 0 0:=⟨ahO⟩
instance:FO Tryz.prog 161 1 80:=⟨ahP⟩
instance:FO Tryz.prog 161 2 120:=⟨ahQ⟩
instance:FO Tryz.prog 161 3 121:=⟨ahR⟩
instance:FO Tryz.prog 169 0 0:=⟨ahS⟩
instance:FO Tryz.prog 169 1 1:=⟨ahT⟩
instance:FO Tryz.prog 169 2 2:=⟨ahU⟩
instance:FO Tryz.prog 169 3 3:=⟨ahV⟩
instance:FO Tryz.prog 195 0 0:=⟨ahW⟩
instance:FO Tryz.prog 195 1 1:=⟨ahX⟩
instance:FO Tryz.prog 39 0 0:=⟨Pc⟩
instance:FO Tryz.prog 39 1 1:=⟨Pd⟩
instance:FO Tryz.prog 39 2 2:=⟨BY⟩
instance:FO Tryz.prog 61 0 0:=⟨Pe⟩
instance:FO Tryz.prog 61 1 1:=⟨Ae⟩
instance:FO Tryz.prog 80 0 0:=⟨ahY⟩
instance:FO Tryz.prog 80 1 1:=⟨Vw⟩
instance:FO Tryz.prog 80 2 2:=⟨Vx⟩
instance:FO Tryz.prog 84 0 0:=⟨ahZ⟩
instance:FO Tryz.prog 84 1 1:=⟨Vy⟩
instance:oG Tryz.prog 101 1 24 (.slice none 0 0):=⟨Gj⟩
instance:oG Tryz.prog 103 2 40 (.agg #[.string ⟨#[]⟩,.slice none 0 0]):=⟨aO⟩
instance:oG Tryz.prog 110 1 24 (.slice none 0 0):=⟨Vz⟩
instance:oG Tryz.prog 117 2 48 (.agg #[.slice none 0 0,.slice none 0 0]):=⟨D1⟩
instance:oG Tryz.prog 140 1 24 (.slice none 0 0):=⟨Lo⟩
instance:oG Tryz.prog 144 12 216 (.agg #[.string ⟨#[]⟩,.slice none 0 0,.int .i64 0,.slice none 0 0,.slice none 0 0,.slice none 0 0,.slice none 0 0,.string ⟨#[]⟩,.slice none 0 0,.int .i64 0,.string ⟨#[]⟩,.int .i64 0]):=⟨ox⟩
instance:oG Tryz.prog 23 1 24 (.slice none 0 0):=⟨VB⟩
instance:oG Tryz.prog 25 1 24 (.slice none 0 0):=⟨oy⟩
instance:oG Tryz.prog 3 1 8 (.int .i64 0):=⟨tF⟩
instance:oG Tryz.prog 39 3 64 (.agg #[.string ⟨#[]⟩,.slice none 0 0,.slice none 0 0]):=⟨iD⟩
instance:oG Tryz.prog 4 1 1 (.bool false):=⟨Af⟩
instance:oG Tryz.prog 5 1 1 (.int .u8 0):=⟨IC⟩
instance:oG Tryz.prog 50 1 24 (.slice none 0 0):=⟨Pf⟩
instance:oG Tryz.prog 59 1 24 (.slice none 0 0):=⟨ID⟩
instance:oG Tryz.prog 61 2 40 (.agg #[.string ⟨#[]⟩,.slice none 0 0]):=⟨bZ⟩
instance:oG Tryz.prog 80 3 64 (.agg #[.string ⟨#[]⟩,.slice none 0 0,.slice none 0 0]):=⟨lk⟩
instance:oG Tryz.prog 9 1 16 (.string ⟨#[]⟩):=⟨bj⟩
instance:oG Tryz.prog 99 2 32 (.agg #[.pointer none,.slice none 0 0]):=⟨Pg⟩
instance:UL Tryz.prog 204 (.int .u64):=⟨Lp⟩
instance:UL Tryz.prog 3 (.int .i64):=⟨yD⟩
instance:UL Tryz.prog 5 (.int .u8):=⟨Ag⟩
instance:O1 Tryz.prog 101:=⟨jE⟩
instance:O1 Tryz.prog 110:=⟨ah0⟩
instance:O1 Tryz.prog 134:=⟨Ph⟩
instance:O1 Tryz.prog 140:=⟨ah1⟩
instance:O1 Tryz.prog 22:=⟨ah2⟩
instance:O1 Tryz.prog 23:=⟨ah3⟩
instance:O1 Tryz.prog 25:=⟨xB⟩
instance:O1 Tryz.prog 3:=⟨Lq⟩
instance:O1 Tryz.prog 4:=⟨IE⟩
instance:O1 Tryz.prog 5:=⟨ah4⟩
instance:O1 Tryz.prog 50:=⟨ah5⟩
instance:O1 Tryz.prog 59:=⟨vU⟩
instance:O1 Tryz.prog 9:=⟨fT⟩
instance:UL Tryz.prog 101 (.slice 103):=⟨cT⟩
instance:UL Tryz.prog 110 (.slice 3):=⟨Gk⟩
instance:UL Tryz.prog 140 (.slice 144):=⟨BZ⟩
instance:UL Tryz.prog 22 (.slice 5):=⟨D3⟩
instance:UL Tryz.prog 23 (.slice 39):=⟨kG⟩
instance:UL Tryz.prog 25 (.slice 9):=⟨bu⟩
instance:UL Tryz.prog 50 (.slice 80):=⟨Ah⟩
instance:UL Tryz.prog 59 (.slice 61):=⟨iF⟩
instance:UL Tryz.prog 9 .string:=⟨jh⟩
section
variable {P:Program} {n:Nat} {ops:Array Oper} {K:Env->World->Prop} {rest:List Oper} {e:Env} {w:World}
 {dst:Option Nat} {ty:TypeId} {pos:String} {after:Array Edge} {g:Option (Nat×Bool)} {x y:Operand} {T T' E:TypeId}
theorem wN {a:Addr} (k:OW P n ops K rest (bX e dst (.pointer<|some a)) w) (d:ev e x= .pointer (some a):=by rfl) (c:gate ops e g=true:=by rfl) (b:cD n dst=true:=by rfl):OW P n ops K (⟨dst,.nilCheck x,ty,pos,after,g⟩::rest) e w:=HW c b d k
theorem wF {S:Nat} [hS:FO P S i off] (k:OW P n ops K rest (bX e dst (.pointer<|some ⟨b,o+off,none⟩)) w) (d:ev e x= .pointer (some ⟨b,o,none⟩):=by rfl) (c:gate ops e g=true:=by rfl) (a:cD n dst=true:=by rfl):
  OW P n ops K (⟨dst,.fieldAddr S x i,ty,pos,after,g⟩::rest) e w:=TQ hS.h c a d k
theorem wB [hT:O1 P T] (k:OW P n ops K rest (bX e dst v) w) (f:ev e x= .pointer (some ⟨b,o,none⟩):=by rfl) (hb:aK w b vs.toArray U:=by first|with_reducible assumption|exact eC.jc (by with_reducible assumption)|assumption) (a:vs[o]?=some v:=by rfl) (d:gate ops e g=true:=by rfl) (c:cD n dst=true:=by rfl):
  OW P n ops K (⟨dst,.load T x,ty,pos,after,g⟩::rest) e w:=zl hT.h f (hb.at a) k d c
theorem wM [hT:OA P T] [kQ:oG P T sz bytes z] (k:OW P n ops K rest (bX e dst<|.agg vs.toArray) w) (f:ev e x= .pointer (some ⟨b,0,none⟩):=by rfl) (hb:aK w b vs.toArray U:=by first|with_reducible assumption|exact eC.jc (by with_reducible assumption)|assumption) (d:vs.length=sz:=by rfl) (c:gate ops e g=true:=by rfl) (a:cD n dst=true:=by rfl):
  OW P n ops K (⟨dst,.load T x,ty,pos,after,g⟩::rest) e w:=zL hT.h kQ.h f hb.all d k c a
theorem wC [hT:O1 P T] (k:OW P n ops K rest (bX e dst v) w) (f:ev e x= .pointer (some ⟨b,o,none⟩):=by rfl) (hb:fW w b o vs:=by first|with_reducible assumption|exact gB.cells (by with_reducible assumption)|assumption) (a:vs[0]?=some v:=by rfl) (d:gate ops e g=true:=by rfl) (c:cD n dst=true:=by rfl):
  OW P n ops K (⟨dst,.load T x,ty,pos,after,g⟩::rest) e w:=zl hT.h f (hb 0 _ a) k d c
theorem wD [hT:O1 P T] (k:OW P n ops K rest (bX e dst v) w) (f:ev e x= .pointer (some ⟨b,o+1,none⟩):=by rfl) (hb:fW w b o vs:=by first|with_reducible assumption|exact gB.cells (by with_reducible assumption)|assumption) (a:vs[1]?=some v:=by rfl) (d:gate ops e g=true:=by rfl) (c:cD n dst=true:=by rfl):
  OW P n ops K (⟨dst,.load T x,ty,pos,after,g⟩::rest) e w:=zl hT.h f (hb 1 _ a) k d c
theorem wE [hT:OA P T] [kQ:oG P T sz bytes z] (k:OW P n ops K rest (bX e dst<|.agg vs.toArray) w) (f:ev e x= .pointer (some ⟨b,o,none⟩):=by rfl) (hb:fW w b o vs:=by first|with_reducible assumption|exact gB.cells (by with_reducible assumption)|assumption) (d:vs.length=sz:=by rfl) (c:gate ops e g=true:=by rfl) (a:cD n dst=true:=by rfl):
  OW P n ops K (⟨dst,.load T x,ty,pos,after,g⟩::rest) e w:=zL hT.h kQ.h f hb d k c a
theorem wi {len cap:Nat} {l:IntKind} [hT:UL P T (.slice E)] [hE:oG P E sz bytes z] (k:OW P n ops K rest (bX e dst (.pointer<|some ⟨b,o+i*sz,none⟩)) w) (f:ev e x= .slice (some ⟨b,o,none⟩) len cap:=by rfl) (j:ev e y= .int l (i:Int):=by rfl) (d:i<len:=by omega) 
  (c:gate ops e g=true:=by rfl) (a:cD n dst=true:=by rfl):OW P n ops K (⟨dst,.indexAddr T x y,ty,pos,after,g⟩::rest) e w:=TR hT.h hE.h c a f j d k
theorem wp {t:Bool} (k:OW P n ops K rest (bX e dst<|bif t then ev e x else ev e y) w) (a:ev e c= .bool t:=by rfl) (d:gate ops e g=true:=by rfl) (b:cD n dst=true:=by rfl):OW P n ops K (⟨dst,.pick c x y,ty,pos,after,g⟩::rest) e w:=TJ d b a k
theorem wx (k:OW P n ops K rest (bX e dst v) w) (d:ev e x= .tuple vs.toArray:=by rfl) (c:vs[i]?=some v:=by rfl) (b:gate ops e g=true:=by rfl) (a:cD n dst=true:=by rfl):
  OW P n ops K (⟨dst,.extract x i,ty,pos,after,g⟩::rest) e w:=TT b a d c k
theorem Cp {b:Int} (c:OW P n ops K rest (bX e dst<|.bool (decide<|a=b)) w) (hx:ev e x= .int k a:=by rfl) (hy:ev e y= .int k' b:=by rfl) (hk:k=k':=by rfl) (hg:gate ops e g=true:=by rfl) (hd:cD n dst=true:=by rfl):OW P n ops K (⟨dst,.binOp .eql T x y T',ty,pos,after,g⟩::rest) e w:=yu (hg:=hg) (hd:=hd) (hx:=hx) (hy:=hy) (hk:=hk) (c:=c)
theorem Cq {b:Int} (c:OW P n ops K rest (bX e dst<|.bool (decide<|a≠b)) w) (hx:ev e x= .int k a:=by rfl) (hy:ev e y= .int k' b:=by rfl) (hk:k=k':=by rfl) (hg:gate ops e g=true:=by rfl) (hd:cD n dst=true:=by rfl):OW P n ops K (⟨dst,.binOp .neq T x y T',ty,pos,after,g⟩::rest) e w:=HY (hg:=hg) (hd:=hd) (hx:=hx) (hy:=hy) (hk:=hk) (c:=c)
theorem Cr {b:Int} (c:OW P n ops K rest (bX e dst<|.bool (decide<|a<b)) w) (hx:ev e x= .int k a:=by rfl) (hy:ev e y= .int k' b:=by rfl) (hk:k=k':=by rfl) (hg:gate ops e g=true:=by rfl) (hd:cD n dst=true:=by rfl):OW P n ops K (⟨dst,.binOp .lss T x y T',ty,pos,after,g⟩::rest) e w:=KO (hg:=hg) (hd:=hd) (hx:=hx) (hy:=hy) (hk:=hk) (c:=c)
theorem Cs {b:Int} (c:OW P n ops K rest (bX e dst<|.bool (decide<|a<=b)) w) (hx:ev e x= .int k a:=by rfl) (hy:ev e y= .int k' b:=by rfl) (hk:k=k':=by rfl) (hg:gate ops e g=true:=by rfl) (hd:cD n dst=true:=by rfl):OW P n ops K (⟨dst,.binOp .leq T x y T',ty,pos,after,g⟩::rest) e w:=acE (hg:=hg) (hd:=hd) (hx:=hx) (hy:=hy) (hk:=hk) (c:=c)
theorem Ct {b:Int} (c:OW P n ops K rest (bX e dst<|.bool (decide<|b<a)) w) (hx:ev e x= .int k a:=by rfl) (hy:ev e y= .int k' b:=by rfl) (hk:k=k':=by rfl) (hg:gate ops e g=true:=by rfl) (hd:cD n dst=true:=by rfl):OW P n ops K (⟨dst,.binOp .gtr T x y T',ty,pos,after,g⟩::rest) e w:=HX (hg:=hg) (hd:=hd) (hx:=hx) (hy:=hy) (hk:=hk) (c:=c)
theorem Cu {b:Int} (c:OW P n ops K rest (bX e dst<|.bool (decide<|b<=a)) w) (hx:ev e x= .int k a:=by rfl) (hy:ev e y= .int k' b:=by rfl) (hk:k=k':=by rfl) (hg:gate ops e g=true:=by rfl) (hd:cD n dst=true:=by rfl):OW P n ops K (⟨dst,.binOp .geq T x y T',ty,pos,after,g⟩::rest) e w:=acF (hg:=hg) (hd:=hd) (hx:=hx) (hy:=hy) (hk:=hk) (c:=c)
theorem Cv {a b:List UInt8} (c:OW P n ops K rest (bX e dst<|.bool (decide<|a=b)) w) (hx:ev e x=str a:=by rfl) (hy:ev e y=str b:=by rfl) (hg:gate ops e g=true:=by rfl) (hd:cD n dst=true:=by rfl):OW P n ops K (⟨dst,.binOp .eql T x y T',ty,pos,after,g⟩::rest) e w:=Dy (hg:=hg) (hd:=hd) (hx:=hx) (hy:=hy) (c:=c)
theorem Cw {a b:List UInt8} (c:OW P n ops K rest (bX e dst<|.bool (decide<|a≠b)) w) (hx:ev e x=str a:=by rfl) (hy:ev e y=str b:=by rfl) (hg:gate ops e g=true:=by rfl) (hd:cD n dst=true:=by rfl):OW P n ops K (⟨dst,.binOp .neq T x y T',ty,pos,after,g⟩::rest) e w:=Oc (hg:=hg) (hd:=hd) (hx:=hx) (hy:=hy) (c:=c)
theorem Cx {b:Bool} (c:OW P n ops K rest (bX e dst (.bool<|!b)) w) (hx:ev e x= .bool b:=by rfl) (hg:gate ops e g=true:=by rfl) (hd:cD n dst=true:=by rfl):OW P n ops K (⟨dst,.unOp .not T x,ty,pos,after,g⟩::rest) e w:=j4 (hg:=hg) (hd:=hd) (hx:=hx) (c:=c)
theorem Cy {a b:Bool} [hT:UL P T .bool] (c:OW P n ops K rest (bX e dst (.bool<|a==b)) w) (hx:ev e x= .bool a:=by rfl) (hy:ev e y= .bool b:=by rfl) (hg:gate ops e g=true:=by rfl) (hd:cD n dst=true:=by rfl):OW P n ops K (⟨dst,.binOp .eql T x y T',ty,pos,after,g⟩::rest) e w:=acG (hT:=hT.h) (hg:=hg) (hd:=hd) (hx:=hx) (hy:=hy) (c:=c)
theorem Cz {a b:Bool} [hT:UL P T .bool] (c:OW P n ops K rest (bX e dst (.bool<|!(a==b))) w) (hx:ev e x= .bool a:=by rfl) (hy:ev e y= .bool b:=by rfl) (hg:gate ops e g=true:=by rfl) (hd:cD n dst=true:=by rfl):OW P n ops K (⟨dst,.binOp .neq T x y T',ty,pos,after,g⟩::rest) e w:=acH (hT:=hT.h) (hg:=hg) (hd:=hd) (hx:=hx) (hy:=hy) (c:=c)
theorem CA {T E:TypeId} {x:Operand} {a:Option Addr} {cap:Nat} [hT:UL P T (.slice E)] (k:OW P n ops K rest (bX e dst<|.int .i64 m) w) (hx:ev e x= .slice a m cap:=by rfl) (hg:gate ops e g=true:=by rfl) (hd:cD n dst=true:=by rfl):OW P n ops K (⟨dst,.call {callee:=.builtin .len,args:=#[x],argTypes:=#[T]},ty,pos,after,g⟩::rest) e w:=KN (hT:=hT.h) (hg:=hg) (hd:=hd) (hx:=hx) (k:=k)
theorem CB {a:List UInt8} [hT:UL P T .string] (k:OW P n ops K rest (bX e dst<|.int .i64 (a.length:Nat)) w) (hx:ev e x=str a:=by rfl) (hg:gate ops e g=true:=by rfl) (hd:cD n dst=true:=by rfl):OW P n ops K (⟨dst,.call {callee:=.builtin .len,args:=#[x],argTypes:=#[T]},ty,pos,after,g⟩::rest) e w:=acL (hT:=hT.h) (hg:=hg) (hd:=hd) (hx:=hx) (k:=k)
theorem CC {b c:Int} (c':OW P n ops K rest (bX e dst<|.int k c) w) (hx:ev e x= .int k a:=by rfl) (hy:ev e y= .int k' b:=by rfl) (hk:k=k':=by rfl) (hc:k.wrap (a+b)=c:=by exact wrap_i64 _ om om) (hg:gate ops e g=true:=by rfl) (hd:cD n dst=true:=by rfl):OW P n ops K (⟨dst,.binOp .add T x y T',ty,pos,after,g⟩::rest) e w:=mq (hg:=hg) (hd:=hd) (hx:=hx) (hy:=hy) (hk:=hk) (hc:=hc) (c':=c')
theorem Ef {b c:Int} (c':OW P n ops K rest (bX e dst<|.int k c) w) (hx:ev e x= .int k a:=by rfl) (hy:ev e y= .int k' b:=by rfl) (hk:k=k':=by rfl) (hc:k.wrap (a-b)=c:=by exact wrap_i64 _ om om) (hg:gate ops e g=true:=by rfl) (hd:cD n dst=true:=by rfl):OW P n ops K (⟨dst,.binOp .sub T x y T',ty,pos,after,g⟩::rest) e w:=yw (hg:=hg) (hd:=hd) (hx:=hx) (hy:=hy) (hk:=hk) (hc:=hc) (c':=c')
theorem Eg {b c:Int} (c':OW P n ops K rest (bX e dst<|.int k c) w) (hx:ev e x= .int k a:=by rfl) (hy:ev e y= .int k' b:=by rfl) (hk:k=k':=by rfl) (hc:k.wrap (a*b)=c:=by exact wrap_i64 _ om om) (hg:gate ops e g=true:=by rfl) (hd:cD n dst=true:=by rfl):OW P n ops K (⟨dst,.binOp .mul T x y T',ty,pos,after,g⟩::rest) e w:=KP (hg:=hg) (hd:=hd) (hx:=hx) (hy:=hy) (hk:=hk) (hc:=hc) (c':=c')
theorem Eh {a b:List UInt8} (c:OW P n ops K rest (bX e dst (str<|a++b)) w) (hx:ev e x=str a:=by rfl) (hy:ev e y=str b:=by rfl) (hs:a.length+b.length<=9223372036854775807:=by(simp;omega)) (hg:gate ops e g=true:=by rfl) (hd:cD n dst=true:=by rfl):OW P n ops K (⟨dst,.binOp .add T x y T',ty,pos,after,g⟩::rest) e w:=TU (hg:=hg) (hd:=hd) (hx:=hx) (hy:=hy) (hs:=hs) (c:=c)
end
theorem bK {e f a b:Prop} (k:ak [] w w') (ta:e) (g:f) (y:a->b->p) (c:ak [] w w'->e->a:=by intro k h;exact h.ext k) (d:ak [] w w'->f->b:=by intro k h;exact h.ext k):p:=y (c k ta)<|d k g
theorem cN {g i j a b c:Prop} (k:ak [] w w') (ta:g) (l:i) (m:j) (y:a->b->c->p) (d:ak [] w w'->g->a:=by intro k h;exact h.ext k) (e:ak [] w w'->i->b:=by intro k h;exact h.ext k) (f:ak [] w w'->j->c:=by intro k h;exact h.ext k):p:=y (d k ta) (e k l)<|f k m
theorem gN {j l m n a b c d:Prop} (k:ak [] w w') (ta:j) (o:l) (q:m) (r:n) (y:a->b->c->d->p) (e:ak [] w w'->j->a:=by intro k h;exact h.ext k) (f:ak [] w w'->l->b:=by intro k h;exact h.ext k) (g:ak [] w w'->m->c:=by intro k h;exact h.ext k) (i:ak [] w w'->n->d:=by intro k h;exact h.ext k):p:=y (e k ta) (f k o) (g k q)<|i k r
theorem kJ {m n o q r a b c d e:Prop} (k:ak [] w w') (ta:m) (s:n) (t:o) (u:q) (v:r) (y:a->b->c->d->e->p) (f:ak [] w w'->m->a:=by intro k h;exact h.ext k) (g:ak [] w w'->n->b:=by intro k h;exact h.ext k) (i:ak [] w w'->o->c:=by intro k h;exact h.ext k) (j:ak [] w w'->q->d:=by intro k h;exact h.ext k) (l:ak [] w w'->r->e:=by intro k h;exact h.ext k):p:=y (f k ta) (g k s) (i k t) (j k u)<|l k v
theorem uV {o q r s t u a b c d e f:Prop} (k:ak [] w w') (ta:o) (v:q) (z:r) (A:s) (B:t) (C:u) (y:a->b->c->d->e->f->p) (g:ak [] w w'->o->a:=by intro k h;exact h.ext k) (i:ak [] w w'->q->b:=by intro k h;exact h.ext k) (j:ak [] w w'->r->c:=by intro k h;exact h.ext k) (l:ak [] w w'->s->d:=by intro k h;exact h.ext k) (m:ak [] w w'->t->e:=by intro k h;exact h.ext k) (n:ak [] w w'->u->f:=by intro k h;exact h.ext k):p:=y (g k ta) (i k v) (j k z) (l k A) (m k B)<|n k C
theorem GD {r s t u v z A a b c d e f g:Prop} (k:ak [] w w') (ta:r) (B:s) (C:t) (D:u) (E:v) (F:z) (H:A) (y:a->b->c->d->e->f->g->p) (i:ak [] w w'->r->a:=by intro k h;exact h.ext k) (j:ak [] w w'->s->b:=by intro k h;exact h.ext k) (l:ak [] w w'->t->c:=by intro k h;exact h.ext k) (m:ak [] w w'->u->d:=by intro k h;exact h.ext k) (n:ak [] w w'->v->e:=by intro k h;exact h.ext k) (o:ak [] w w'->z->f:=by intro k h;exact h.ext k) (q:ak [] w w'->A->g:=by intro k h;exact h.ext k):p:=y (i k ta) (j k B) (l k C) (m k D) (n k E) (o k F)<|q k H
theorem Ei {t u v z A B C D a b c d e f g i:Prop} (k:ak [] w w') (ta:t) (E:u) (F:v) (H:z) (I:A) (J:B) (K:C) (L:D) (y:a->b->c->d->e->f->g->i->p) (j:ak [] w w'->t->a:=by intro k h;exact h.ext k) (l:ak [] w w'->u->b:=by intro k h;exact h.ext k) (m:ak [] w w'->v->c:=by intro k h;exact h.ext k) (n:ak [] w w'->z->d:=by intro k h;exact h.ext k) (o:ak [] w w'->A->e:=by intro k h;exact h.ext k) (q:ak [] w w'->B->f:=by intro k h;exact h.ext k) (r:ak [] w w'->C->g:=by intro k h;exact h.ext k) (s:ak [] w w'->D->i:=by intro k h;exact h.ext k):p:=y (j k ta) (l k E) (m k F) (n k H) (o k I) (q k J) (r k K)<|s k L
theorem aiV {v z A B C D E F H a b c d e f g i j:Prop} (k:ak [] w w') (ta:v) (I:z) (J:A) (K:B) (L:C) (M:D) (N:E) (O:F) (P:H) (y:a->b->c->d->e->f->g->i->j->p) (l:ak [] w w'->v->a:=by intro k h;exact h.ext k) (m:ak [] w w'->z->b:=by intro k h;exact h.ext k) (n:ak [] w w'->A->c:=by intro k h;exact h.ext k) (o:ak [] w w'->B->d:=by intro k h;exact h.ext k) (q:ak [] w w'->C->e:=by intro k h;exact h.ext k) (r:ak [] w w'->D->f:=by intro k h;exact h.ext k) (s:ak [] w w'->E->g:=by intro k h;exact h.ext k) (t:ak [] w w'->F->i:=by intro k h;exact h.ext k) (u:ak [] w w'->H->j:=by intro k h;exact h.ext k):p:=y (l k ta) (m k I) (n k J) (o k K) (q k L) (r k M) (s k N) (t k O)<|u k P
structure Hd (q:Prop):Prop where out:q
theorem W (k:q) (h:Hd q->p:=by intro k;(repeat(first|refine zm ?_|refine zA ?_|refine zr ?_|refine aV ?_|refine zs ?_|refine wF ?_|refine wB ?_|refine wC ?_|refine wD ?_|refine wM ?_|refine wE ?_|refine wN ?_|refine wp ?_|refine wx ?_|refine j1 ?_|refine iA ?_|refine lh ?_|refine ux ?_|refine Cp ?_|refine Cq ?_|refine Cr ?_|refine Cs ?_|refine Ct ?_|refine Cu ?_|refine Cv ?_|refine Cw ?_|refine Cx ?_|refine CA ?_|refine CB ?_|refine Cy ?_|refine Cz ?_|refine wi ?_|refine CC ?_|refine Ef ?_|refine Eg ?_|refine Eh ?_|refine kP ?_|refine Bz ?_|refine BA rfl ?_|refine F0 rfl ?_));exact k.out):p:=h ⟨k⟩
theorem WL (k:q) (h:Hd q->p:=by intro k;(repeat(first|refine zm ?_|refine zA ?_|refine zr ?_|refine aV ?_|refine zs ?_|refine wF ?_|refine wN ?_|refine wp ?_|refine wx ?_|refine j1 ?_|refine iA ?_|refine lh ?_|refine ux ?_|refine Cp ?_|refine Cq ?_|refine Cr ?_|refine Cs ?_|refine Ct ?_|refine Cu ?_|refine Cv ?_|refine Cw ?_|refine Cx ?_|refine CA ?_|refine CB ?_|refine Cy ?_|refine Cz ?_|refine wi ?_|refine CC ?_|refine Ef ?_|refine Eg ?_|refine Eh ?_|refine kP ?_|refine Bz ?_|refine BA rfl ?_|refine F0 rfl ?_));exact k.out):p:=h ⟨k⟩
theorem WI (k:q) (h:Hd q->p:=by intro k;(repeat(first|refine zm ?_|refine zA ?_|refine zr ?_|refine aV ?_|refine zs ?_|refine wF ?_|refine wB ?_|refine wC ?_|refine wD ?_|refine wM ?_|refine wE ?_|refine wN ?_|refine wp ?_|refine wx ?_|refine j1 ?_|refine iA ?_|refine lh ?_|refine ux ?_|refine Cp ?_|refine Cq ?_|refine Cr ?_|refine Cs ?_|refine Ct ?_|refine Cu ?_|refine Cv ?_|refine Cw ?_|refine Cx ?_|refine CA ?_|refine CB ?_|refine Cy ?_|refine Cz ?_|refine CC ?_|refine Ef ?_|refine Eg ?_|refine Eh ?_|refine kP ?_|refine Bz ?_|refine BA rfl ?_|refine F0 rfl ?_));exact k.out):p:=h ⟨k⟩
theorem WA (k:q) (h:Hd q->p:=by intro k;(repeat(first|refine zm ?_|refine zA ?_|refine zr ?_|refine aV ?_|refine zs ?_|refine wF ?_|refine wB ?_|refine wC ?_|refine wD ?_|refine wM ?_|refine wE ?_|refine wN ?_|refine wp ?_|refine wx ?_|refine j1 ?_|refine iA ?_|refine lh ?_|refine ux ?_|refine Cp ?_|refine Cq ?_|refine Cr ?_|refine Cs ?_|refine Ct ?_|refine Cu ?_|refine Cv ?_|refine Cw ?_|refine Cx ?_|refine CA ?_|refine CB ?_|refine Cy ?_|refine Cz ?_|refine wi ?_|refine Eh ?_|refine kP ?_|refine Bz ?_|refine BA rfl ?_|refine F0 rfl ?_));exact k.out):p:=h ⟨k⟩
theorem WS (k:q) (h:Hd q->p:=by intro k;(repeat(first|refine zm ?_|refine zA ?_|refine zr ?_|refine aV ?_|refine zs ?_|refine wF ?_|refine wB ?_|refine wC ?_|refine wD ?_|refine wM ?_|refine wE ?_|refine wN ?_|refine wp ?_|refine wx ?_|refine j1 ?_|refine iA ?_|refine lh ?_|refine ux ?_|refine Cp ?_|refine Cq ?_|refine Cr ?_|refine Cs ?_|refine Ct ?_|refine Cu ?_|refine Cv ?_|refine Cw ?_|refine Cx ?_|refine CA ?_|refine CB ?_|refine Cy ?_|refine Cz ?_|refine wi ?_|refine CC ?_|refine Ef ?_|refine Eg ?_|refine kP ?_|refine Bz ?_|refine BA rfl ?_|refine F0 rfl ?_));exact k.out):p:=h ⟨k⟩
theorem WZ (k:q) (h:Hd q->p:=by intro k;(repeat(first|refine zm ?_|refine zA ?_|refine zr ?_|refine zs ?_|refine wF ?_|refine wB ?_|refine wC ?_|refine wD ?_|refine wM ?_|refine wE ?_|refine wN ?_|refine wp ?_|refine wx ?_|refine j1 ?_|refine iA ?_|refine lh ?_|refine ux ?_|refine Cp ?_|refine Cq ?_|refine Cr ?_|refine Cs ?_|refine Ct ?_|refine Cu ?_|refine Cv ?_|refine Cw ?_|refine Cx ?_|refine CA ?_|refine CB ?_|refine Cy ?_|refine Cz ?_|refine wi ?_|refine CC ?_|refine Ef ?_|refine Eg ?_|refine Eh ?_|refine kP ?_|refine Bz ?_|refine BA rfl ?_|refine F0 rfl ?_));exact k.out):p:=h ⟨k⟩
theorem oM {D:List Nat} {e a:Env} (b:p) (c:q) (h:eP D e a:=by repeat(first|with_reducible exact zX|refine KQ rfl ?_|refine Oe rfl ?_)):eP D e a/\p/\q:=⟨h,b,c⟩
theorem oQ (h:p:=by refine W ?_;exact oM rfl (by first|rfl|exact ak.refl _ _|assumption)):p:=h
section
variable {P:Program} {n:Nat} {ops:Array Oper} {K:Env->World->Prop} {e:Env} {w:World} {l:List Oper} (m tc tp:Nat) (J:World->Prop) {c r:Bool} {p:Prop}
theorem oO (f:e tc= .bool c) (d:OW P n ops (λa w'=>eP (List.range' tc<|tp+1-tc) e a/\a tp= .bool true/\J w') (l.take m) (iZ e tc<|.bool true) w) [t:wg (c=false) p] 
  (b:p->OW P n ops (λa w'=>eP (List.range' tc<|tp+1-tc) e a/\a tp= .bool r/\J w') (l.take m) (iZ e tc<|.bool false) w)
  (k:∀x w',J w'->OW P n ops K (l.drop m) (iZ (aZ (List.range' tc (tp+1-tc)) x e) tp (.bool (c||r))) w'):OW P n ops K l e w:=
 DD m tc tp _ J f (λ_=>d) (λh=>b<|t.imp h) k
theorem oA (f:e tc= .bool c) (b:OW P n ops (λa w'=>eP (List.range' tc<|tp+1-tc) e a/\a tp= .bool false/\J w') (l.take m) (iZ e tc<|.bool false) w) [t:wg (c=true) p] 
  (d:p->OW P n ops (λa w'=>eP (List.range' tc<|tp+1-tc) e a/\a tp= .bool r/\J w') (l.take m) (iZ e tc<|.bool true) w)
  (k:∀x w',J w'->OW P n ops K (l.drop m) (iZ (aZ (List.range' tc (tp+1-tc)) x e) tp (.bool (c&&r))) w'):OW P n ops K l e w:=
 Oh m tc tp _ J f (λh=>d<|t.imp h) (λ_=>b) k
theorem oP (f:e tc= .bool c) (d:OW P n ops (λa w'=>eP (List.range' tc<|tp+1-tc) e a/\a tp= .bool true/\w=w') (l.take m) (iZ e tc<|.bool true) w) [t:wg (c=false) p] 
  (b:p->OW P n ops (λa w'=>eP (List.range' tc<|tp+1-tc) e a/\a tp= .bool r/\w=w') (l.take m) (iZ e tc<|.bool false) w)
  (k:∀x,OW P n ops K (l.drop m) (iZ (aZ (List.range' tc (tp+1-tc)) x e) tp (.bool (c||r))) w):OW P n ops K l e w:=
 DD m tc tp _ (w=·) f (λ_=>d) (λh=>b<|t.imp h) λx _ g=>g▸k x
theorem oB (f:e tc= .bool c) (b:OW P n ops (λa w'=>eP (List.range' tc<|tp+1-tc) e a/\a tp= .bool false/\w=w') (l.take m) (iZ e tc<|.bool false) w) [t:wg (c=true) p] 
  (d:p->OW P n ops (λa w'=>eP (List.range' tc<|tp+1-tc) e a/\a tp= .bool r/\w=w') (l.take m) (iZ e tc<|.bool true) w)
  (k:∀x,OW P n ops K (l.drop m) (iZ (aZ (List.range' tc (tp+1-tc)) x e) tp (.bool (c&&r))) w):OW P n ops K l e w:=
 Oh m tc tp _ (w=·) f (λh=>d<|t.imp h) (λ_=>b) λx _ g=>g▸k x
end
abbrev it (l:List Value):List It:=l.map It.v
theorem dV {n:Nat} {l:List Oper} {N R:Env->World->Prop} {X:Nat->Env->World->Prop} {id:Nat} {e:Env} {f:World} (p:P.follows .mixedOrders=true) (m:Nat) (c:List Nat) (a:List (List Nat)) (b:List It) 
  (i:vO l m c c a=true) (j:b.all It.Iw=true)
  (o:∀g,ak [] f g->sD P n l.toArray c c b e g 0 (l.take m) a)
  (q:∀(x:Env) (w:World),ak [] f w->dq b c w (List.range m) λd=>OW P n l.toArray N (l.drop m) (ba (aZ c x e) d) w):
  CW P n (.region id l.toArray true) N R X e f:=kF p m c c a b i j o q
section
variable {P:Program} {n:Nat} {ops:Array Oper} {W ds:List Nat} {e0:Env} {wz w0:World} {k:Nat} {o:Oper} {l:List Oper} {d:List Nat} {r:List (List Nat)}
theorem V1 {a:List It} (aC:ak [] wz w0) (b:sD P n ops W ds a e0 w0 (k+1) l r) (h:Ix P n ops W ds a e0 w0 k o d:=by intro x w hk;first|exact zm pv|exact zA pv|exact zs pv|exact wF pv|exact wB pv (hb:=aK.ext (by first|with_reducible assumption|assumption)<|ak.trans aC hk)|exact wB pv (hb:=eC.jc (eC.ext (by first|with_reducible assumption|assumption)<|ak.trans aC hk))|exact wM pv (hb:=aK.ext (by first|with_reducible assumption|assumption)<|ak.trans aC hk)|exact wM pv (hb:=eC.jc (eC.ext (by first|with_reducible assumption|assumption)<|ak.trans aC hk))|exact wC pv (hb:=fW.ext (by first|with_reducible assumption|assumption)<|ak.trans aC hk)|exact wC pv (hb:=gB.cells (gB.ext (by first|with_reducible assumption|assumption)<|ak.trans aC hk))|exact wD pv (hb:=fW.ext (by first|with_reducible assumption|assumption)<|ak.trans aC hk)|exact wD pv (hb:=gB.cells (gB.ext (by first|with_reducible assumption|assumption)<|ak.trans aC hk))|exact wE pv (hb:=fW.ext (by first|with_reducible assumption|assumption)<|ak.trans aC hk)|exact wE pv (hb:=gB.cells (gB.ext (by first|with_reducible assumption|assumption)<|ak.trans aC hk))|exact wN pv|(refine wp ?_;exact pv)|exact wx pv|exact Cp pv|exact Cq pv|exact Cr pv|exact Cs pv|exact Ct pv|exact Cu pv|exact Cv pv|exact Cw pv|exact Cx pv|exact CA pv|exact CB pv|exact Cy pv|exact Cz pv|exact wi pv|exact CC pv|exact Ef pv|exact Eg pv|exact Eh pv):sD P n ops W ds a e0 w0 k (o::l) (d::r):=⟨h,b⟩
theorem F1 {a:List Ie} {c:List (List Nat->List Value->World->Prop)} {b:List Nat} (e:xH P n ops W ds a c e0 b w0 (k+1) l r) (h:LM P n ops W ds a e0 b w0 k o d:=by intro x w G aU bL qW;first|exact zm fv|exact zA fv|exact zs fv|exact wF fv|exact wB fv (hb:=eC.jc<|eC.go (by first|with_reducible assumption|assumption) bL)|exact wM fv (hb:=eC.jc<|eC.go (by first|with_reducible assumption|assumption) bL)|exact wC fv (hb:=gB.cells<|gB.go (by first|with_reducible assumption|assumption) bL)|exact wD fv (hb:=gB.cells<|gB.go (by first|with_reducible assumption|assumption) bL)|exact wE fv (hb:=gB.cells<|gB.go (by first|with_reducible assumption|assumption) bL)|exact wN fv|(refine wp ?_;exact fv)|exact wx fv|exact Cp fv|exact Cq fv|exact Cr fv|exact Cs fv|exact Ct fv|exact Cu fv|exact Cv fv|exact Cw fv|exact Cx fv|exact CA fv|exact CB fv|exact Cy fv|exact Cz fv|exact wi fv|exact CC fv|exact Ef fv|exact Eg fv|exact Eh fv) (hk:(a.getD k nS).lq=none:=by rfl):xH P n ops W ds a c e0 b w0 k (o::l) (d::r):=vf h e hk
end
theorem VA (k:q) (h:Hd q->p:=by intro k;(repeat(refine V1 aC ?_));exact k.out):p:=h ⟨k⟩
theorem VZ (h:p:=by(repeat(refine V1 aC ?_));exact trivial):p:=h
theorem FZ (h:p:=by(repeat(refine F1 ?_));exact trivial):p:=h
theorem FA (k:q) (h:Hd q->p:=by intro k;(repeat(refine F1 ?_));exact k.out):p:=h ⟨k⟩
section
variable {P:Program} {n:Nat} {ops:Array Oper} {K:Env->World->Prop} {rest:List Oper} {e:Env} {w:World}
 {dst:Option Nat} {ty:TypeId} {pos:String} {after:Array Edge} {g:Option (Nat×Bool)} {x y:Operand}
/-! ### Elements that are stored -/
def setAt (a:Array Value) (k:Nat):List Value->Array Value
 |[]=>a
 |v::vs=>setAt (a.setIfInBounds k v) (k+1) vs
theorem IY:∀(vs:List Value) (a:Array Value) (k:Nat),(setAt a k vs).size=a.size:=by intro x;induction x<;>grind [setAt]
theorem LR:∀(vs:List Value) (a:Array Value) (k:Nat),k+vs.length<=a.size->(setAt a k vs).toList=a.toList.take k++(vs++a.toList.drop (k+vs.length))
 |[],a,k,_=>by simp[setAt]
 |v::vs,a,k,h=>by
  unfold setAt;simp only[lC] at h;rw[LR vs _ _ so,Array.toList_setIfInBounds];have hk:k<a.toList.length:=by simp;omega
  rw[List.take_add_one,List.getElem?_set_self hk,List.take_set_of_le (lR k)];rw[List.drop_set_of_lt om];simp only[Option.toList_some,List.append_assoc,List.cons_append,List.nil_append,lC];rw[show k+1+vs.length=k+(vs.length+1) from by omega]
theorem PU:∀(vs:List Value) (i:Nat) (w:World) (b o:Nat) (U:TypeId) (a:Array Value),aK w b a U->o+i+vs.length<=a.size->(∀u∈vs,u.oneCell'=true)->
  ∃w',(storeCells ⟨b,o,none⟩ vs i).run P w= .ok () w'/\ak [b] w w'/\aK w' b (setAt a (o+i) vs) U/\w'.heap.size=w.heap.size
 |[],i,w,b,o,U,a,hb,_,_=>⟨w,rfl,ak.refl _ _,hb,rfl⟩
 |v::vs,i,w,b,o,U,a,hb,hs,h1=>by
  simp only[lC] at hs;have g:o+i<a.size:=by omega
  have c:(store ((⟨b,o,none⟩:Addr).add i) v).run P w= .ok () (w.setCell ⟨b,o+i,none⟩ v):=by rw[uA,run_store P w _ v _<|h1 v sm,hb.cell,Array.getElem?_eq_getElem g,hb.frozen];simp
  obtain⟨w',d,hk,j,f⟩:=PU vs (i+1) (w.setCell ⟨b,o+i,none⟩ v) b o U (a.setIfInBounds (o+i) v) (hb.set (o+i) v) so λu e=>h1 u (by simp[e]);refine⟨w',?_,(ak.setCell w b (o+i) v).trans hk,j,by rw[f];simp[World.setCell]⟩;simp only[storeCells,Sem.run_bind,c,Result.andThen_ok];exact d
theorem WG {c:Type}:∀{rows:List (List c)} {i:Nat} {row:List c},(∀r∈rows,r.length=sz)->i<rows.length->row.length=sz->(rows.set i row).flatten=rows.flatten.take (i*sz)++(row++rows.flatten.drop (i*sz+sz))
 |r::rows,0,row,h,_,a=>by have b:r.length=sz:=h r sm;simp[<-b]
 |r::rows,i+1,row,h,hi,a=>by
  have b:r.length=sz:=h r sm;have f:=WG (rows:=rows) (i:=i) (row:=row) (λr a=>h r<|by simp[a]) (by simpa using hi) a;rw[List.set_cons_succ,List.flatten_cons,List.flatten_cons,f];have d:(i+1)*sz=r.length+i*sz:=by rw[b,Nat.add_mul];omega
  have e:(i+1)*sz+sz=r.length+(i*sz+sz):=by omega
  rw[e,d,List.take_length_add_append,List.drop_length_add_append,List.append_assoc]
theorem dC.take {w:World}:∀{k:Nat} {vs:List Value} {a:List C},dC L w vs a->dC L w (vs.take k) (a.take k)
 |0,_,_,_=>by simp[dC]
 |_+1,[],[],_=>trivial
 |_+1,_::_,_::_,h=>⟨h.1,dC.take h.2⟩
theorem dC.drop {w:World}:∀{k:Nat} {vs:List Value} {a:List C},dC L w vs a->dC L w (vs.drop k) (a.drop k)
 |0,_,_,h=>h
 |_+1,[],[],_=>trivial
 |k+1,_::_,_::_,h=>dC.drop (k:=k) h.2
theorem aiW {T:Nat} {v:Value} {a:List Value} {row:List C} {B:Nat} {L:List Nat} {E f:Nat} {N c:Nat} {rows:List (List C)} {b o i:Nat} (kQ:TI P T sz bytes z) (S:gate ops e g=true) 
  (t:ev e x= .pointer (some ⟨b,o,none⟩)) (Z:ev e y=v) (Y:v.cells=a.toArray) (U:o=i*sz) (m:Gr B L w E sz (.slice (some ⟨b,0,none⟩) N c) (some f) rows) (F:i<rows.length) (R:a.all Value.oneCell'=true)
  (D:row.length=sz) (H:dC (f::L) w a row)
  (k:∀w',ak [f] w w'->w'.heap.size=w.heap.size->Gr B L w' E sz (.slice (some ⟨b,0,none⟩) N c) (some f) (rows.set i row)->OW P n ops K rest e w'):
  OW P n ops K (⟨none,.store T x y,ty,pos,after,g⟩::rest) e w:=by
 subst U;obtain⟨xs,⟨⟨l4,h|⟨_,cap,q,mZ,Q,hb,O,mL,j,V⟩⟩,M,I,p⟩⟩:=m.own
 .obtain⟨h,_⟩:=h;cases h
 .cases Q;cases mZ;have d:a.length=sz:=by rw[H.length,D]
  have s:(i+1)*sz<=rows.length*sz:=Nat.mul_le_mul_right _ F;have WH:rows.length*sz<=c*sz:=Nat.mul_le_mul_right _ O;rw[Nat.add_mul,Nat.one_mul] at s;obtain⟨w',ko,hk,J,A⟩:=PU (P:=P) a 0 w f (i*sz) E q hb (by rw[j,d];omega) λu X=>List.all_eq_true.1 R u X;rw[Nat.add_zero] at J;refine KJ S (w':=w') (by simp[execOp,Instr.storeAt,Instr.sureAddr,t,Z,storeVar,Y,kQ.sw,d,ko])<|k w' hk A ⟨⟨xs.take (i*sz)++(a++xs.drop (i*sz+sz)),⟨⟨?_,.inr ⟨f,c,_,rfl,sm,J,by simpa using O,mL,by rw[IY];exact j,?_⟩⟩,?_,?_,p⟩⟩,m.low,λx t=>by rw[A];exact m.cP x t,by rw[A];exact m.bsz⟩
  .rw[lA,lA,List.length_take,List.length_drop,List.length_set,l4,d];omega
  .rw[LR _ _ _ (by rw[j,d];omega),List.length_set,<-V,d,List.take_append,List.take_append];simp only[List.length_take,Array.length_toList,j,d,List.take_take,List.drop_take];rw[Nat.min_eq_right<|show i*sz<=rows.length*sz by omega,Nat.min_eq_left<|show i*sz<=rows.length*sz by omega,Nat.min_eq_left<|show i*sz<=c*sz by omega,List.take_of_length_le (l:=a) om];rw[show rows.length*sz-i*sz-sz=rows.length*sz-(i*sz+sz) from by omega]
  .rw[WG I F D];refine dC.append (dC.aG M.take<|hk.mono sm)<|dC.append (H.aG<|hk.mono sm) (dC.aG M.drop<|hk.mono sm)
  .intro r tq;rcases List.mem_or_eq_of_mem_set tq with h|h
   .exact I r h
   .rw[h];exact D
/-! ### Slices that are built of several ag -/
theorem WJ (a:Nat):∀(c:List Value) (i:Nat) (b:Array Value),((c.zipIdx i).foldl (fun(b:Array Value) (p:Value×Nat)=>b.setIfInBounds (a+p.2) p.1) b)=setAt b (a+i) c
 |[],_,_=>rfl
 |u::c,i,b=>by rw[List.zipIdx_cons,List.foldl_cons,WJ a c];rfl
theorem WK:∀(d:List Value) (b:List (List Value)) (k:Nat) (a:Array Value),d.map Value.cells=b.map List.toArray->(∀vs∈b,vs.length=sz)->a.size=(k+d.length)*sz->
  ∃c,Instr.fill (λi=>some (i*sz,sz)) a ((d.zipIdx k).map λp=>(p.2,p.1))=some c/\c.toList=a.toList.take (k*sz)++b.flatten
 |[],[],k,a,_,_,f=>⟨a,rfl,by simp only[List.length_nil,Nat.add_zero] at f;simp only[List.flatten_nil,List.append_nil];rw[List.take_of_length_le (by simp[f])]⟩
 |[],_::_,_,_,h,_,_=>by simp at h
 |_::_,[],_,_,h,_,_=>by simp at h
 |u::d,vs::b,k,a,h,hl,f=>by
  simp only[List.map_cons,List.cons.injEq] at h;have g:vs.length=sz:=hl vs sm;simp only[lC] at f;have e:(k+(d.length+1))*sz=k*sz+sz+d.length*sz:=by rw[Nat.add_mul,Nat.add_mul,Nat.one_mul];omega
  rw[List.zipIdx_cons,List.map_cons];obtain⟨c,o,q⟩:=WK d b (k+1) (setAt a (k*sz) vs) h.2 (λv s=>hl v<|by simp[s]) (by rw[IY,f];congr 1;omega);refine⟨c,?_,?_⟩
  .unfold Instr.fill;simp only[h.1];rw[iN (by simp[g];omega)];have j:=WJ (k*sz) vs 0 a;simp only[Nat.add_zero] at j;have r:Array.foldl (fun(a:Array Value) (p:Value×Nat)=>a.setIfInBounds (k*sz+p.2) p.1) a vs.toArray.zipIdx=setAt a (k*sz) vs:=by rw[<-j];simp
   rw[r];exact o
  .have n:(k+1)*sz=k*sz+sz:=by rw[Nat.add_mul,Nat.one_mul]
   have m:min (k*sz) a.size=k*sz:=Nat.min_eq_left om;rw[q,LR _ _ _ (by rw[g];omega),n,List.flatten_cons,List.take_append,List.take_append];simp only[List.length_take,Array.length_toList,m,g,List.take_take];rw[Nat.min_eq_right<|show k*sz<=k*sz+sz by omega,show k*sz+sz-k*sz=sz from by omega,List.take_of_length_le (l:=vs) om,Nat.sub_self,List.take_zero,List.append_nil,List.append_assoc]
theorem aiY {T:TypeId} {us:List Value} {vss:List (List Value)} (e:P.underlying T=some (.slice E)) (b:TI P E sz bytes z) (l:0<sz) (m:0<us.length) (n:us.length*sz<=16777216) 
  (j:us.map Value.cells=vss.map List.toArray) (i:∀vs∈vss,vs.length=sz):(Instr.buildSlice T us.length ((us.zipIdx 0).map λp=>(p.2,p.1)).toArray).run P w= .ok (.slice (some ⟨w.heap.size,0,none⟩) us.length us.length) (w.alloc<|.cells vss.flatten.toArray E):=by
 have d:¬us.length*sz=0:=by have:0<us.length*sz:=Nat.mul_pos m l;omega
 have hb:¬(16777216<us.length*sz):=by omega
 obtain⟨a,g,c⟩:=WK us vss 0 ((Array.range<|us.length*sz).map (z.cells[·%z.cells.size]!)) j i sm;have f:a=vss.flatten.toArray:=by apply Array.ext';simpa using c
 subst f;simp[Instr.buildSlice,Sem.run_bind,run_underlying e,Result.andThen_ok,b.sw,hb,d,b.KL,g,newRow]
theorem tK {m:Nat} {T:TypeId} {ag:Array (Nat×Operand)} (a:List Operand) (vss:List (List Value)) (l:P.underlying T=some (.slice E)) (j:TI P E sz bytes z) (r:gate ops e g=true) (o:cD n dst=true) 
  (u:ag=((a.zipIdx 0).map λp=>(p.2,p.1)).toArray) (t:m=a.length) (A:Nat.blt 0 sz=true) (C:Nat.blt 0 a.length=true) (f:Nat.ble (a.length*sz) 16777216=true)
  (v:a.map (λq=>(ev e q).cells)=vss.map List.toArray) (s:vss.all (λvs=>Nat.beq vs.length sz)=true)
  (k:∀w',ak [] w w'->aK w' w.heap.size vss.flatten.toArray E->w'.heap.size=w.heap.size+1->OW P n ops K rest (bX e dst<|.slice (some ⟨w.heap.size,0,none⟩) m m) w'):
  OW P n ops K (⟨dst,.buildSlice T m ag,ty,pos,after,g⟩::rest) e w:=by
 subst u t;have c:(a.map<|ev e).length=a.length:=by simp
 have d:=aiY (P:=P) (w:=w) (us:=a.map<|ev e) (vss:=vss) l j (by simpa[Nat.blt_eq] using A) (by simpa[Nat.blt_eq] using C) (by rw[c];exact Nat.le_of_ble_eq_true f) (by rw[List.map_map];exact v) λvs h=>Nat.eq_of_beq_eq_true<|List.all_eq_true.1 s vs h;rw[c] at d;have b:((a.zipIdx 0).map λp=>(p.2,p.1)).toArray.map (fun(p:Nat×Operand)=>(p.1,ev e p.2))=(((a.map<|ev e).zipIdx 0).map λp=>(p.2,p.1)).toArray:=by
  rw[List.map_toArray,List.map_map]
  congr 1
  have:∀(a:List Operand) (i:Nat),(a.zipIdx i).map ((fun(p:Nat×Operand)=>(p.1,ev e p.2))∘λp=>(p.2,p.1))=((a.map<|ev e).zipIdx i).map λp=>(p.2,p.1):=by
   intro a;induction a with
   |nil=>intro i;rfl
   |cons q a y=>intro i;simp only[List.zipIdx_cons,List.map_cons,List.map,y];rfl
  exact this a 0
 exact fI r o (w':=w.alloc<|.cells vss.flatten.toArray E) (by have B:(Array.map (λx=>(x.fst,ev e x.snd)) ((a.zipIdx 0).map λp=>(p.2,p.1)).toArray)=(((a.map<|ev e).zipIdx 0).map λp=>(p.2,p.1)).toArray:=b;simp only[execOp];rw[B,Sem.run_bind,d];simp) (k _ (ak.alloc _ _ _) (aK.alloc _ _ _) sm)
/-! ### Slices that are appended whole -/
theorem WN {w:World}:∀{rows:List (List C)} {f:Nat->List Value},(∀i row,rows[i]?=some row->dC L w (f i) row)->dC L w ((List.range rows.length).map f).flatten rows.flatten
 |[],_,_=>trivial
 |r::rows,f,h=>by rw[lC,List.range_succ_eq_map,List.map_cons,List.map_map,List.flatten_cons,List.flatten_cons];exact(h 0 r rfl).append (WN (f:=f∘Nat.succ) λi row a=>h (i+1) row<|by simpa using a)
theorem ai0 {w:World} {a:List Value} (h:fW w b off xs) (k:fW w b (off+xs.length) a):fW w b off (xs++a):=by grind [fW]
theorem WO {w:World} {sz:Nat}:∀{n off:Nat} {f:Nat->List Value},(∀i,i<n->(f i).length=sz/\fW w b (off+i*sz) (f i))->fW w b off ((List.range n).map f).flatten
 |0,_,_,_=>λj v g=>by simp at g
 |n+1,off,f,h=>by rw[List.range_succ_eq_map,List.map_cons,List.map_map,List.flatten_cons];obtain⟨c,a⟩:=h 0 om;rw[Nat.zero_mul,Nat.add_zero] at a;refine ai0 a<|WO (sz:=sz) λi _=>?_;obtain⟨d,e⟩:=h (i+1) om;refine⟨d,?_⟩;rw[c];rwa [show off+(i+1)*sz=off+sz+i*sz from by rw[Nat.add_mul];omega] at e
theorem WQ {w:World} {a:Option Addr} {len cap size:Nat} (h:cg L w (.slice a len cap) (.sl size rows)) (q:0<rows.length):
  ∃b off vs,a=some ⟨b,off,none⟩/\b<w.heap.size/\b∉L/\fW w b off vs/\dC L w vs rows.flatten/\len=rows.length/\∀row∈rows,row.length=size:=by
 cases h with
 |nil=>simp at q
 |sl b off len cap size rows f p _ hb o m t s=>
  refine⟨b,off,((List.range rows.length).map λi=>(List.range size).map<|f i).flatten,rfl,hb,o,WO (sz:=size) λi g=>⟨by simp,λj v l=>?_⟩,WN λi row g=>?_,p.symm,m⟩
  .have d:j<size:=by have:=(List.getElem?_eq_some_iff.1 l).1;simpa using this
   have e:f i j=v:=by simpa[List.getElem?_map,d] using l
   rw[<-e];exact t i j om d
  .have r:=m row<|List.mem_of_getElem? g;refine dC.of (by simp[r]) λj v c n u=>?_;have d:j<size:=by have:=(List.getElem?_eq_some_iff.1 n).1;simpa using this
   have e:f i j=v:=by simpa[List.getElem?_map,d] using n
   rw[<-e];exact s i j row c g u
theorem WR {t ty T:TypeId} {i:TypeInfo} (e:P.underlying t=some (.slice T)) (d:P.info? T=some i) 
  {a:Option Addr} {m cap:Nat} (h:m<=cap) {a2:Option Addr} {c2:Nat}:
  (Builtin.append_ #[t,t] ty #[.slice a m cap,.slice a2 0 c2]).run P w= .ok (.slice a m cap) w:=by
 have c:(Builtin.firstCells i.size 0<|.slice a2 0 c2).run P w= .ok #[] w:=by
  cases a2 with
  |none=>simp[Builtin.firstCells]
  |some b=>exact run_firstCells_some (P:=P) (w:=w) i.size 0 b 0 c2 [] sm sm
 cases a<;>simp[Builtin.append_,run_underlying e,sizeOf,typeInfo,d,Builtin.lenOf,h,c,storeCells]
theorem xL {B:Nat} {L:List Nat} {v:Value} {o:Option Nat} {rows new:List (List C)} {a2:Option Addr} {u c2:Nat} (F:P.underlying t=some (.slice E)) (D:TI P E sz bytes z) (I:gate ops e g=true) (H:cD n dst=true) (X:Nat.beq z.cells.size sz=true) (Z:Nat.ble bytes 1000=true) 
  (p:ev e x=v) (N:ev e y= .slice a2 u c2) (f:Gr B L w E sz v o rows) (M:cg (o.toList++L) w (.slice a2 u c2) (.sl sz new)) (R:∀row∈new,∀c∈row,∀v,c= .val v->v.oneCell'=true)
  (hn:rows.length+new.length<100000000)
  (k:∀l d q w',Gr B L w' E sz (.slice l (rows.length+new.length) d) q (rows++new)->ak o.toList w w'->OW P n ops K rest (bX e dst (.slice l (rows.length+new.length) d)) w'):
  OW P n ops K (⟨dst,.call {callee:=.builtin .append,args:=#[x,y],argTypes:=#[t,t]},ty,pos,after,g⟩::rest) e w:=by
 obtain⟨xs,r⟩:=f.own;have F9:bytes<=1000:=Nat.le_of_ble_eq_true Z;by_cases J:0<new.length
 .obtain⟨b,off,vs,rfl,hb,_,s,A,rfl,Y⟩:=WQ M J;refine T9 F D I H X p r N rfl J Y s ?_ A f.cP (Nat.le_trans (Nat.mul_le_mul (show rows.length+new.length<=100000000 by omega)<|show bytes+1<=1001 by omega) de) ?_
  .refine dC.Ih A λc s v V=>?_;obtain⟨row,j,S⟩:=List.mem_flatten.1 s;exact R row j c S v V
  .intro l d q w' jR hk lT;refine k l d q w' ⟨⟨_,jR⟩,λb hb=>?_,λx p=>lL (f.cP x p) hk.size,Nat.le_trans f.bsz hk.size⟩ hk;rcases lT with h|h
   .rw[h] at hb;exact f.low b hb
   .rw[h] at hb;cases hb;exact f.bsz
 .have pb:new=[]:=List.length_eq_zero_iff.1 om;subst pb;obtain⟨a,cap,rfl⟩:=r.len;have Q:u=0:=by
   obtain⟨_,_,T,_⟩:=tl M;cases T;rfl
  subst Q;have O:rows.length<=cap:=by
   rcases r.own.2 with⟨h,j,_⟩|⟨_,_,_,_,h,_,j,_⟩
   .rw[j];omega
   .cases h;exact j
  obtain⟨i,U,_,_,_⟩:=D.get;have ko:=WR (P:=P) (w:=w) (t:=t) (ty:=ty) F U (a:=a) (m:=rows.length) (cap:=cap) O (a2:=a2) (c2:=c2);refine fI I H (v:=.slice a rows.length cap) (w':=w) (by simp only[execOp,resolve,invoke,builtin,Sem.run_bind,Sem.run_pure,Result.andThen_ok,List.map_toArray,List.map_cons,List.map_nil,p,N,ko]) ?_;have:=k a cap o w (by simpa using f)<|ak.refl _ _;simpa using this
end
theorem ai1 {T:Nat} (hb:aK w b xs.toArray T) (a:xs.length=N*sz) (c:N<=100000000):jD w T sz (.slice (some ⟨b,0,none⟩) N N) (some b) N xs:=
 ⟨a,.inr ⟨b,N,_,rfl,rfl,hb,lR _,by unfold maxLen;omega,by simpa using a,by rw[<-a];simp⟩⟩
theorem ai2 {T:Nat} (hb:aK w b xs.toArray T) (d:dC (b::L) w xs rows.flatten) (e:∀r∈rows,r.length=sz) (g:N=rows.length) (i:N<=100000000) (c:B<=b) (j:b∉L) (f:∀x∈L,x<w.heap.size):
  Gr B L w T sz (.slice (some ⟨b,0,none⟩) N N) (some b) rows:=by
 subst g;refine⟨⟨xs,⟨ai1 hb (by rw[d.length,N8 e]) i,d,e,λx a=>by cases a;exact j⟩⟩,λx a=>by cases a;exact c,f,Nat.le_trans c<|Nat.le_of_lt hb.lt⟩
theorem ai3 {e:List aq}:∀row,row∈dj e->∀c∈row,∀v,c=C.val v->v.oneCell'=true:=by
 intro row d c b v a;rw[z6] at d;obtain⟨t,_,rfl⟩:=List.mem_map.1 d;cases t;rw[aq.enc] at b;simp only[mC,List.not_mem_nil,or_false] at b;rcases b with h|h
 .rw[h] at a;cases a;rfl
 .rw[h] at a;cases a
section
open Go Go.ChangeShapes Go.WideShapes
theorem ai4 {a:Addr} (h:w.cell? a=some v):a=⟨a.block,a.off,none⟩/\a.block<w.heap.size:=by
 obtain⟨b,o,s⟩:=a;unfold World.cell? at h;split at h
 .rename_i c _ _ d;cases s with
  |some s=>simp at h
  |none=>exact⟨rfl,(Array.getElem?_eq_some_iff.1 d).1⟩
 .cases h
theorem ai5 {a:Addr} (h:a=⟨a.block,a.off,none⟩) (i:Nat):a.add i=⟨a.block,a.off+i,none⟩:=by rw[h];exact uA _ _ _
section
variable {H:Type} {enc:TypeId×Value->H} {P:Program} {w:World} {held:Bool}
end
end
theorem IZ (a b c:Int) (w:World):bz Tryz.prog 67 [.int .i64 a,.int .i64 b,.int .i64 c] w λv w'=>v= .bool (decide (b<=a)&&decide (a<=c))/\w=w':=by refine bY [.tmp 6] 15 Tryz.func67 rfl agU rfl rfl ?_;refine W ?_;apply oB 4 10 14 rfl oQ;intro _;exact oQ;intro _;refine W ?_;exact⟨_,rfl,rfl,rfl⟩
theorem ai6 (c:UInt8) (w:World):bz Tryz.prog 137 [.int .u8 c.toNat] w λv w'=>v= .bool (fm c)/\w=w':=by refine bY [.tmp 2] 33 Tryz.func137 rfl aff rfl rfl ?_;refine W ?_;apply oB 3 5 8 rfl oQ;intro _;exact oQ;intro a;refine WZ ?_;apply oP 7 9 16 rfl oQ;intro _;refine WZ ?_;apply oB 3 12 15 rfl oQ;intro _;exact oQ;intro a;exact oQ;intro a;refine WZ ?_;apply oP 3 17 20 rfl oQ;intro _;exact oQ;intro a;refine WZ ?_;apply oP 3 21 24 rfl oQ;intro _;exact oQ;intro a;refine WZ ?_;apply oP 3 25 28 rfl oQ;intro _;exact oQ;intro a;refine WZ ?_;apply oP 3 29 32 rfl oQ;intro _;exact oQ;intro a;refine W ?_;exact⟨_,rfl,congrArg Value.bool (T1 c),rfl⟩
def ai7 (L:List Nat) (s:aj) (d i:Nat) (v:Value) (w:World):Prop:=
 ∃t b a,v= .tuple #[b,.int .i64 a]/\bg L w b t/\DM s.length (rT d<|s.drop i) t a
theorem ai8 (s:aj) (hs:s.length<=12000):∀(d i:Nat) (L:List Nat) (w:World),d<=61->i<=s.length->(∀x∈L,x<w.heap.size)->
  bz Tryz.prog 107 [str s,.int .i64 (i:Int),.int .i64 ((61:Int)-(d:Int))] w λv w'=>ai7 L s d i v w'/\ak [] w w':=by
 intro d;induction d with
 |zero=>intro i L w hd hi hL;have c:=ak.refl [] w;refine lj [.cell 6 103,.tmp 7] 87 Tryz.func107 rfl Lm rfl rfl rfl ?_;refine zr<|du aO rfl rfl rfl λA F e dd=>?_;have c:=c.grow;have c:=c.ext F;refine zA<|aV<|zr<|jv (IB _) rfl rfl<|du aO rfl rfl rfl λw2 C j dN=>?_;have c:=c.grow;have c:=c.ext C;have e:=e.grow;have e:=e.ext C;refine cH aO rfl rfl rfl j rfl λV B j gO=>?_;have c:=c.aB B sx;have e:=e.aB B sx;refine aV<|j1<|zr<|zm<|HX rfl rfl rfl rfl rfl<|zm ?_;apply DD 5 15 20 [15,16,17,18,19,20] (λw'=>V=w') rfl;intro E;replace E:=jx E;refine W ?_;exact mg rfl rfl;intro E;replace E:=jx E;refine W ?_;exact mg rfl rfl;rintro X _ rfl;refine aV<|zc rfl (λu=>?_) λu=>?_;refine W ?_;refine cH aO rfl rfl rfl e rfl λN aJ e gT=>?_;have c:=c.aB aJ sx;refine W ?_;exact⟨[_,_],⟨gA fO aO rfl e rfl,rfl⟩,⟨.mk [] [],_,_,rfl,jQ lS,rfl⟩,c⟩;exfalso;simp at u
 |succ d ih=>
  intro i L w hd hi hL;have c:=ak.refl [] w;by_cases iQ:i<s.length
  .have D:=drop_cons<|jP iQ;have WT:=Ib fm<|s.drop i;rw[List.length_drop] at WT;refine lj [.cell 6 103,.tmp 7] 87 Tryz.func107 rfl Lm rfl rfl rfl<|zr<|du aO rfl rfl rfl λA F e dd=>?_;have c:=c.grow;have c:=c.ext F;refine zA<|aV<|zr<|jv (IB _) rfl rfl<|du aO rfl rfl rfl λw2 C j dN=>?_;have c:=c.grow;have c:=c.ext C;have e:=e.grow;have e:=e.ext C;refine cH aO rfl rfl rfl j rfl λV B j gO=>?_;have c:=c.aB B sx;have e:=e.aB B sx;refine W ?_;apply oP 5 15 20 rfl oQ;intro _;exact oQ;intro X;refine aV<|zc rfl (λu=>?_) λu=>?_;exfalso;simp at u;omega;refine W ?_;refine kR jh rfl rfl rfl rfl (jP iQ)<|HY rfl rfl rfl rfl rfl<|aV<|zc rfl (λh3=>?_) λh3=>?_;have dz:s.getD i 0≠40:=λh=>h3 (by rw[h];rfl);refine W ?_;refine ey (λk:Nat=>[(0,str s),(1,.int .i64 (k:Int)),(6,.pointer<|some ⟨w.heap.size,0,none⟩),(8,.pointer<|some ⟨A.heap.size,0,none⟩),(9,.int .i64 (i:Int))]) (λk w'=>w'=V/\i<=k/\k-i<=((s.drop i).takeWhile fm).length) (λk=>s.length-k) i (⟨rfl,rfl,rfl,rfl,rfl⟩) (⟨rfl,lR _,om⟩) λK N e4 T=>?_;obtain⟨rfl,xk,GF⟩:=T;have Ek:=acX s xk GF;refine WZ ?_;apply oB 5 31 36 rfl oQ;intro _;refine zm<|zm<|kR jh rfl rfl rfl rfl (jP om)<|aA (ai6 _ _) ?_;rintro _ _ ⟨rfl,rfl⟩;exact oQ;intro X;refine aV<|zc rfl (λh5=>?_) λh5=>?_;have eI:=Ek.2 (by simpa using h5);refine W ?_;exact⟨K+1,⟨rfl,rfl,rfl,rfl,rfl⟩,⟨rfl,om,om⟩,om⟩;have Z:K-i=((s.drop i).takeWhile fm).length:=Nat.le_antisymm GF (Nat.le_of_not_lt λhh=>by have f:=Ek.1 hh;rw[f.2,Bool.and_true,decide_eq_false_iff_not] at h5;omega);refine W ?_;refine DA jh rfl rfl rfl (.inr ⟨_,rfl⟩) (.inr ⟨_,rfl⟩) om om<|zf mv rfl<|im bj rfl rfl rfl j rfl λw5 H j _=>?_;have c:=c.aB H sx;have e:=e.aB H sx;refine W ?_;refine zc rfl (λM=>?_) λM=>?_;have r:rT (d+1) (s.drop i)=none:=by rw[Z,KX] at M;show eY d _=none;rw[D,Ig _ _ _ dz,<-D,iP M]
   refine W ?_;refine cH aO rfl rfl rfl e rfl λw6 z e l7=>?_;have c:=c.aB z sx;refine W ?_;exact⟨[_,_],⟨gA fO aO rfl e rfl,rfl⟩,⟨.mk _ [],_,_,rfl,jQ lS,by rw[r];rfl⟩,c⟩;have r:rT (d+1) (s.drop i)=some (.mk ((s.drop i).takeWhile fm) [],(s.drop i).dropWhile fm):=by rw[Z,KX] at M;show eY d _=_;rw[D,Ig _ _ _ dz,<-D,iN M]
   refine W ?_;refine cH aO rfl rfl rfl e rfl λw6 z e l7=>?_;have c:=c.aB z sx;refine zA<|aV<|kP<|⟨[_,_],⟨gA fO aO rfl e rfl,rfl⟩,⟨.mk _ [],_,_,rfl,jQ lS,?_⟩,c⟩;rw[r];refine⟨by rw[Z,KX],?_⟩;rw[Ia,List.length_drop,List.length_drop];show(K:Int)=_;omega;have PX:s.getD i 0=40:=UInt8.toNat_inj.1 (by have O:(40:UInt8).toNat=40:=rfl;rw[O];omega);refine WZ ?_;refine ey (λq:List aq×Nat×Option Addr×Nat×Option Nat×List Value=>[(0,str s),(1,.int .i64 (q.2.1:Int)),(2,.int .i64<|(61:Int)-((d+1:Nat):Int)),(6,.pointer<|some ⟨w.heap.size,0,none⟩),(8,.pointer<|some ⟨A.heap.size,0,none⟩)]) (λq w'=>ak [] w w'/\aK w' w.heap.size [str [],.slice none 0 0].toArray 103/\aK w' A.heap.size [str [],.slice q.2.2.1 q.1.length q.2.2.2.1].toArray 103/\iS (w.heap.size::A.heap.size::L) w' 103 2 (.slice q.2.2.1 q.1.length q.2.2.2.1) q.2.2.2.2.1 (dj q.1) q.2.2.2.2.2/\(∀b,q.2.2.2.2.1=some b->w.heap.size<=b)/\q.2.1<s.length/\i<=q.2.1/\q.1.length<=q.2.1/\A.heap.size<w'.heap.size/\ov d (s.drop<|i+1)=(ov d (s.drop<|q.2.1+1)).map λp=>(q.1++p.1,p.2)) (λq=>s.length-q.2.1) (([],i,none,0,none,[])) (⟨rfl,rfl,rfl,rfl,rfl⟩) (⟨c,e,j,iS.nil _ _ _ _,sm,iQ,lR _,sm,om,sm⟩) λK N e4 T=>?_;obtain⟨l,k,a,_,g,xs⟩:=K;dsimp only at T⊢;obtain⟨c,e,j,n,hg,hk,xk,_,_,U⟩:=T;have hLx:∀x∈g.toList++(w.heap.size::A.heap.size::L),x<N.heap.size:=by intro x f;simp at f;rcases f with f|rfl|rfl|f;exact n.own.lt x f;omega;omega;have E:=hL x f;have u:=c.size;omega
   refine WA ?_;refine CC ?_;refine zm<|mq rfl rfl rfl rfl rfl (show IntKind.i64.wrap ((61:Int)-((d+1:Nat):Int)+1)=(61:Int)-(d:Int) by rw[wrap_i64 _ om om];omega)<|aA (ih (k+1) (g.toList++(w.heap.size::A.heap.size::L)) N om om hLx) ?_;rintro _ w5 ⟨xN,H⟩;have nT:=H.size;refine gN H c e j n λc e j n=>?_;obtain⟨t,_,_,rfl,y,hm⟩:=xN;obtain⟨_,_,_,rfl,eu,_⟩:=cY y;subst eu;refine W ?_;refine du aO rfl rfl rfl λw6 z qj l7=>?_;have c:=c.grow;have c:=c.ext z;have e:=e.grow;have e:=e.ext z;have j:=j.grow;have j:=j.ext z;have n:=n.alloc z l7;have y:=y.grow;have y:=y.ext z;refine cH aO rfl rfl rfl qj rfl λ_ I qj _=>?_;have c:=c.aB I sx;have e:=e.aB I sx;have j:=j.aB I sx;have n:=n.aB I sx;have y:=y.aB I sx;refine W ?_;apply oP 5 61 66 rfl oQ;intro _;exact oQ;intro X;refine aV<|zc rfl (λS=>?_) λS=>?_;have r:rT (d+1) (s.drop i)=none:=by show eY d _=none;rw[D,PX,F7,U,acY hm (by simpa using S) om];rfl
   refine W ?_;refine cH aO rfl rfl rfl e rfl λw8 R e lG=>?_;have c:=c.aB R sx;have n:=n.aB R sx;refine W ?_;exact⟨[_,_],⟨gA fO aO rfl e rfl,rfl⟩,⟨.mk [] l,_,_,rfl,jQ<|n.done.weaken λx f=>by simp[f],by rw[r];rfl⟩,c⟩;simp at S;obtain⟨m,rfl,_,Y,fC⟩:=acZ hm S.1 om;refine W ?_;refine fJ cT aO rfl rfl λw8 R aja lG=>kJ R c e j n y λc e j n y=>?_;refine Ua cT aO rfl rfl rfl rfl rfl n (p8 t) aja.all (by simp[Value.oneCell']) (y.lD.fresh λx f=>.inl<|T7 x f) ?_ ?_ ?_;intro x f;simp at f;rcases f with rfl|rfl|rfl|f;(·omega);(·omega);(·omega);(·have E:=hL x f;have u:=c.size;omega);rw[iE];omega;intro a2 El g2 _ o Q jy;have e1:(dj l).length+1=(l++[t]).length:=by simp[iE]
   have e2:dj l++[t.enc]=dj (l++[t]):=by simp[Ou,dj]
   rw[e1] at o⊢;rw[e2] at o;have cJ:=Q.size;have D5:∀b,g2=some b->w.heap.size<=b:=by intro b hb;rcases jy with h|h;(·rw[h] at hb;exact hg b hb);(·rw[h] at hb;cases hb;omega)
   have c:=c.aB Q λx f=>.inr (hg x<|by simpa using f);have e:=e.aB Q<|n.sep sm;have j:=j.aB Q<|n.sep sm;refine zf kt rfl<|im Gj rfl rfl rfl j rfl λ_ cZ j _=>?_;have c:=c.aB cZ sx;have e:=e.aB cZ sx;have o:=o.aB cZ sx;refine W ?_;refine kR jh rfl rfl rfl rfl (jP Y)<|yu rfl rfl rfl rfl rfl<|aV<|zc rfl (λh9=>?_) λh9=>?_;have P:s.getD m 0=41:=UInt8.toNat_inj.1 (by have O:(41:UInt8).toNat=41:=rfl;rw[O];omega);have r:rT (d+1) (s.drop i)=some (.mk [] (l++[t]),s.drop<|m+1):=by show eY d _=_;rw[D,PX,F7,U,fC,iP P];rfl
   refine W ?_;refine cH aO rfl rfl rfl e rfl λfg J e wh=>?_;have c:=c.aB J sx;have o:=o.aB J sx;refine W ?_;exact⟨[_,_],⟨gA fO aO rfl e rfl,rfl⟩,⟨.mk [] (l++[t]),_,_,rfl,jQ<|o.done.weaken λx f=>by simp[f],by rw[r];exact⟨rfl,by rw[List.length_drop];omega⟩⟩,c⟩;have P:s.getD m 0≠41:=λh=>h9 (by rw[h];rfl);refine W ?_;refine kR jh rfl rfl rfl rfl (jP Y)<|HY rfl rfl rfl rfl rfl<|aV<|zc rfl (λfZ=>?_) λfZ=>?_;have PY:s.getD m 0≠32:=λh=>fZ (by rw[h];rfl);have r:rT (d+1) (s.drop i)=none:=by show eY d _=_;rw[D,PX,F7,U,fC,iN P,iN PY];rfl
   refine W ?_;refine cH aO rfl rfl rfl e rfl λfg J e wh=>?_;have c:=c.aB J sx;have o:=o.aB J sx;refine W ?_;exact⟨[_,_],⟨gA fO aO rfl e rfl,rfl⟩,⟨.mk [] (l++[t]),_,_,rfl,jQ<|o.done.weaken λx f=>by simp[f],by rw[r];rfl⟩,c⟩;have PY:s.getD m 0=32:=UInt8.toNat_inj.1 (by have O:(32:UInt8).toNat=32:=rfl;rw[O];omega);refine WZ ?_;exact⟨(l++[t],m,a2,El,g2,_),⟨rfl,rfl,rfl,rfl,rfl⟩,⟨c,e,j,o.more (by intro x f;exact .inl (by simp at f⊢;rcases f with f|f|f<;>simp[f])),D5,Y,by dsimp only;omega,by simp;omega,om,by rw[U,fC,iN P,iP PY,map_append]⟩,by dsimp only;omega⟩
  refine lj [.cell 6 103,.tmp 7] 87 Tryz.func107 rfl Lm rfl rfl rfl<|zr<|du aO rfl rfl rfl λA F e dd=>?_;have c:=c.grow;have c:=c.ext F;refine zA<|aV<|zr<|jv (IB _) rfl rfl<|du aO rfl rfl rfl λw2 C j dN=>?_;have c:=c.grow;have c:=c.ext C;have e:=e.grow;have e:=e.ext C;refine cH aO rfl rfl rfl j rfl λV B j gO=>?_;have c:=c.aB B sx;have e:=e.aB B sx;refine W ?_;apply oP 5 15 20 rfl oQ;intro _;exact oQ;intro X;refine aV<|zc rfl (λu=>?_) λu=>?_;have r:rT (d+1) (s.drop i)=none:=by rw[List.drop_of_length_le om];exact T4 d
  refine W ?_;refine cH aO rfl rfl rfl e rfl λN aJ e gT=>?_;have c:=c.aB aJ sx;refine W ?_;exact⟨[_,_],⟨gA fO aO rfl e rfl,rfl⟩,⟨.mk [] [],_,_,rfl,jQ lS,by rw[r];rfl⟩,c⟩;exfalso;simp at u;omega
theorem Aq (s:aj) (L:List Nat) (w:World) (u:∀x∈L,x<w.heap.size):
  bz Tryz.prog 78 [str s] w λv w'=>(∃t j,v= .tuple #[j,.bool (bS s).isSome]/\bg L w' j t/\∀i,bS s=some i->t=i)/\ak [] w w':=by
 have a:=ak.refl [] w;refine lj [.cell 2 103,.tmp 3] 20 Tryz.func78 rfl Vo rfl rfl rfl ?_;refine zr<|du aO rfl rfl rfl λz p b _=>?_;have a:=a.grow;have a:=a.ext p;refine W ?_;refine zc rfl (λr=>?_) λr=>?_;have o:bS s=none:=by unfold bS;rw[iP om]
 refine zr<|jv (IB _) rfl rfl<|cH aO rfl rfl rfl b rfl λA e b _=>?_;have a:=a.aB e sx;refine W ?_;exact⟨[_,_],⟨gA fO aO rfl b rfl,rfl⟩,⟨.mk [] [],_,by rw[o];rfl,jQ lS,λi h=>by rw[o] at h;cases h⟩,a⟩;refine iA<|zr<|zm<|aA (ai8 s om 61 0 (w.heap.size::L) z om om (by intro x d;rcases mC.1 d with rfl|d;(·omega);(·have:=u x d;omega))) ?_;rintro _ A ⟨q,e⟩;have B:=e.size;refine bK e a b λa b=>?_;obtain⟨t,j,_,rfl,c,y⟩:=q;obtain⟨_,_,_,rfl,_,_⟩:=cY c;refine W ?_;refine du aO rfl rfl rfl λ_ f m _=>?_;have a:=a.grow;have a:=a.ext f;have b:=b.grow;have b:=b.ext f;have c:=c.grow;have c:=c.ext f;refine cH aO rfl rfl rfl m rfl λ_ g m _=>?_;have a:=a.aB g sx;have b:=b.aB g sx;have c:=c.aB g sx;refine W ?_;refine cH aO rfl rfl rfl b rfl λ_ n b _=>?_;have a:=a.aB n sx;have c:=c.aB n sx;refine W ?_;have l:=ac0 om y;exact⟨[_,_],⟨gA fO aO rfl b rfl,rfl⟩,⟨t,_,by rw[<-l.1];rfl,jf.fresh c λx d=>.inl<|by simp[d],l.2⟩,a⟩
theorem LU (t:aq) (v:Value) (L:List Nat) (w:World) (q:bg L w v t):bz Tryz.prog 140 [v] w λr w'=>r=str (bA t)/\ak [] w w':=by obtain⟨a,n,c,rfl,m,f⟩:=cY q;have e:=ak.refl [] w;refine bY [.tmp 2] 17 Tryz.func140 rfl afi rfl rfl ?_;refine zr<|eJ rfl λ_ o _ _=>bK o e f λe f=>?_;refine W ?_;apply oP 5 6 11 rfl oQ;intro _;refine WZ ?_;exact oQ;intro _;refine aV<|zc rfl (λd=>?_) λd=>?_;have g:bA t=[]:=DT (by simp at d;rcases d with h|h;(·exact .inl h);(·right;subst m;simpa using h));refine W ?_;exact⟨_,rfl,by rw[g];rfl,e⟩;simp at d;have s:=d.2;have p:∃l,t.ag[0]?=some l:=⟨t.ag[0]'om,gE om⟩;obtain⟨l,j⟩:=p;obtain⟨b,off,_,_,_,rfl,_,_,_⟩:=gX f j;have g:bA t=l.au:=Im d.1 j;refine WI ?_;refine zi (i:=0) cT aO rfl rfl (by rw[m];exact(List.getElem?_eq_some_iff.1 j).1) ?_;refine W ?_;exact⟨_,rfl,by rw[g];rfl,e⟩
theorem WU (s:aj) (i:s.length<9223372036854775807) (w:World):bz Tryz.prog 102 [str s] w λr w'=>r= .bool (oZ s)/\w=w':=by refine bY [.tmp 2] 39 Tryz.func102 rfl aeG rfl rfl ?_;refine W ?_;refine ey (λk:Nat=>[(0,str s),(3,.int .i64 (k:Int))]) (λk w'=>w'=w/\k<=s.length/\∀j,j<k->DS s j=true) (λk=>s.length-k) (0) (⟨rfl,rfl⟩) (⟨rfl,om,by intro j g;omega⟩) λd _ _ f=>?_;obtain⟨rfl,hk,c⟩:=f;refine W ?_;refine zc rfl (λe=>?_) λe=>?_;refine W ?_;refine kR jh rfl rfl rfl rfl (jP om)<|WZ ?_;apply oB 5 14 19 rfl oQ;intro _;refine zm<|zm<|kR jh rfl rfl rfl rfl (jP om) ?_;exact oQ;intro b;refine WZ ?_;apply oP 15 20 35 rfl oQ;intro _;refine WZ ?_;apply oB 5 23 28 rfl oQ;intro _;refine zm<|zm<|kR jh rfl rfl rfl rfl (jP om) ?_;exact oQ;intro b;refine WZ ?_;apply oB 5 29 34 rfl oQ;intro _;refine zm<|zm<|kR jh rfl rfl rfl rfl (jP om) ?_;exact oQ;intro b;exact oQ;intro b;refine j4 rfl rfl rfl<|aV<|zc rfl (λa=>?_) λa=>?_;rw[K7] at a;refine W ?_;exact⟨_,rfl,by rw[Un om a];rfl,rfl⟩;rw[K7] at a;refine W ?_;exact⟨d+1,⟨rfl,rfl⟩,⟨rfl,om,Up c a⟩,om⟩;refine W ?_;exact⟨_,rfl,by rw[Uo λj g=>c j om];rfl,rfl⟩
def I1 (s:aj):Value:=.tuple #[.int .i64<|(numeral s).getD 0,.bool (numeral s).isSome]
theorem LV (s:aj) (w:World):bz Tryz.prog 142 [str s] w λv w'=>v=I1 s/\w=w':=by
 refine bY [.tmp 2,.tmp 3] 57 Tryz.func142 rfl afk rfl rfl ?_;refine W ?_;apply oB 4 12 16 rfl oQ;intro u;refine zm<|kR (i:=0) jh rfl rfl rfl rfl (jP om) ?_;exact oQ;intro A;refine W ?_;refine jo (λ_:Unit=>[(0,str s),(4,.int .i64<|sA s),(5,str<|eZ s)]) (λ_ w'=>w'=w) ?_ ?_;refine zc rfl (λe=>?_) λe=>?_;have f:0<s.length/\s.getD 0 0=45:=by have b:=Um 45<|s.getD 0 0;simp only[show((45:UInt8).toNat:Int)=45 from rfl] at b;rw[b] at e;simpa using e
 refine W ?_;refine DA (l:=1) jh rfl rfl rfl (.inr ⟨_,rfl⟩) (.inl ⟨rfl,rfl⟩) om om<|zA<|aV ?_;exact⟨(),⟨rfl,by rw[sA,iP f];rfl,by have u:eZ s=(s.drop 1).take (s.length-1):=by{rw[eZ,iP f,List.take_of_length_le sm]};rw[u];exact rfl⟩,rfl⟩;have f:¬(0<s.length/\s.getD 0 0=45):=by have b:=Um 45<|s.getD 0 0;simp only[show((45:UInt8).toNat:Int)=45 from rfl] at b;rw[b] at e;simpa using e
 refine WZ ?_;exact⟨(),⟨rfl,by rw[sA,iN f];rfl,by rw[eZ,iN f];exact rfl⟩,rfl⟩;intro _ F _ p;obtain rfl:=p;refine W ?_;refine zc rfl (λm=>?_) λm=>?_;have g:numeral s=some 0:=by unfold numeral;rw[iP m]
 refine W ?_;exact⟨_,rfl,by unfold I1;rw[g];rfl,rfl⟩;have r:=m;refine W ?_;refine aA (IZ _ _ _ _) ?_;rintro _ _ ⟨rfl,rfl⟩;refine WZ ?_;apply oP 4 25 29 rfl oQ;intro D;simp at D;refine zm<|kR (i:=0) jh rfl rfl rfl rfl (jP om) ?_;exact oQ;intro A;refine aV<|zc rfl (λn=>?_) λn=>?_;have g:numeral s=none:=ada r<|adg n;refine W ?_;exact⟨_,rfl,by unfold I1;rw[g];rfl,rfl⟩;have y:=adh n;refine W ?_;refine ey (λk:Nat=>[(4,.int .i64<|sA s),(5,str<|eZ s),(6,.int .i64 (val ((eZ s).take k):Nat)),(7,.int .i64 (k:Int))]) (λk w'=>w'=F/\k<=(eZ s).length/\((eZ s).take k).all jb=true) (λk=>(eZ s).length-k) (0) (⟨rfl,rfl,rfl,rfl⟩) (⟨rfl,om,sm⟩) λd _ _ p=>?_;obtain⟨rfl,hk,c⟩:=p;refine W ?_;refine zc rfl (λE=>?_) λE=>?_;have a:d<(eZ s).length:=by omega
 have j:=Uk _ c;have C:val ((eZ s).take d)<100:=lL j<|Nat.le_trans (Nat.pow_le_pow_right om (show((eZ s).take d).length<=2 by simp;omega)) de;clear j;refine W ?_;refine kR jh rfl rfl rfl rfl (jP a)<|WZ ?_;apply oP 5 40 45 rfl oQ;intro _;refine zm<|zm<|kR jh rfl rfl rfl rfl (jP a) ?_;exact oQ;intro A;refine aV<|zc rfl (λo=>?_) λo=>?_;have g:numeral s=none:=adb r a<|Ur o;refine W ?_;exact⟨_,rfl,by unfold I1;rw[g];rfl,rfl⟩;have q:=Us o;have H:=q.1;have I:=q.2.1;refine W ?_;refine kR jh rfl rfl rfl rfl (jP a)<|yw rfl rfl rfl rfl rfl (wrap_u8 _ om om)<|zW Ag yD rfl rfl rfl (wrap_i64 _ om om)<|W ?_;exact⟨d+1,⟨rfl,rfl,by rw[Ox a,Uj];show Value.int _ _=Value.int _ _;congr 1;omega,rfl⟩,⟨rfl,om,by rw[Ox a,List.all_append,c];simp only[List.all_cons,q.2.2];rfl⟩,om⟩;have t:(eZ s).take d=eZ s:=List.take_of_length_le om;rw[t] at c;have j:=Uk _ c;have C:val (eZ s)<1000:=lL j<|Nat.le_trans (Nat.pow_le_pow_right om y.2.1) de;clear j;rw[t];have B:=adf s;have z: -1000<sA s*(val (eZ s):Int)/\sA s*(val (eZ s):Int)<1000:=by rcases B with h|h<;>rw[h]<;>omega
 refine W ?_;exact⟨_,rfl,by unfold I1;rw[ade r y c];rfl,rfl⟩
theorem ajb (t:aq) (v:Value) (L:List Nat) (w:World) (i:bg L w v t):bz Tryz.prog 181 [v] w λr w'=>r= .int .i64 (uG t.au)/\ak [] w w':=by
 obtain⟨a,n,c,rfl,d,_⟩:=cY i;have e:=ak.refl [] w;refine bY [.tmp 2] 19 Tryz.func181 rfl afT rfl rfl ?_;refine zr<|eJ rfl λ_ g _ _=>?_;have e:=e.ext g;refine W ?_;refine aA (LV _ _) ?_;rintro _ _ ⟨rfl,rfl⟩;refine W ?_;apply oP 4 13 17 rfl oQ;intro _;refine zm<|aA (IZ _ _ _ _) ?_;rintro _ _ ⟨rfl,rfl⟩;exact oQ;intro _;refine aV<|zc rfl (λb=>?_) λb=>?_;have f:uG t.au= -1:=by unfold uG;cases d:numeral t.au with|none=>rfl|some k=>rw[d] at b;simp at b;exact iN om
 refine W ?_;exact⟨_,rfl,by rw[f];rfl,e⟩;have f:uG t.au=(numeral t.au).getD 0:=by unfold uG;cases d:numeral t.au with|none=>rw[d] at b;simp at b|some k=>rw[d] at b;simp at b;exact iP om
 refine W ?_;exact⟨_,rfl,by rw[f];rfl,e⟩
theorem PZ:∀(m:Nat) (t:aq),t.size<=m->t.size<=100000->WF t->∀(d:Bool) (v:Value) (L:List Nat) (w:World),bg L w v t->
  bz Tryz.prog 135 [v,.bool d,.bool false] w λr w'=>r= .bool (fY d t)/\ak [] w w':=by
 intro m;induction m with
 |zero=>intro t h;cases t;simp[aq.size] at h
 |succ m M=>
  intro t _ _ y d v L w V;obtain⟨a,n,c,rfl,T,f⟩:=cY V;have e:=ak.refl [] w;have nU:=ow t;refine bY [.tmp 6] 72 Tryz.func135 rfl afe rfl rfl ?_;refine zr<|eJ rfl λF g u _=>bK g e f λe f=>?_;refine W ?_;refine zc rfl (λB=>?_) λB=>?_;refine WZ ?_;apply oP 7 15 22 rfl oQ;intro _;refine WZ ?_;apply oB 4 17 21 rfl oQ;intro _;refine WZ ?_;exact oQ;intro p;exact oQ;intro p;refine WZ ?_;apply oP 7 23 30 rfl oQ;intro _;refine zm<|zm<|DC (t:=25) (b:=false) rfl ?_;exact oQ;intro p;refine W ?_;exact⟨_,rfl,show Value.bool _=Value.bool _ from congrArg _<|by rw[Uv B,Bool.or_false],e⟩;have o:t.au=[]:=Classical.not_not.1 B;have j:=y.pos o;have nh:=et j;obtain⟨b,off,_,_,_,rfl,_,_,_⟩:=gX f nh;refine WI ?_;refine zi (i:=0) cT aO rfl rfl (by rw[T];exact j)<|W ?_;refine zc rfl (λC=>?_) λC=>?_;refine WZ ?_;apply oA 7 42 49 (ak [] F) rfl oQ;intro _;have K:t.ag.length=2:=by omega
  have Z:=et (ps:=t.ag) (i:=1) om;obtain⟨O,Q,X,sJ,Y,q,J,tL,E⟩:=gX f Z;cases q;refine zf kt rfl<|zl jE rfl (u.at rfl)<|zi (i:=1) cT aO rfl rfl om<|zL fO aO rfl J rfl<|zm<|aA (M (nth t.ag 1) (by have:=kD (t:=t) (i:=1) om;omega) (by have:=kD (t:=t) (i:=1) om;omega) (y.nth om) true _ L F<|kq E) ?_;rintro _ H ⟨rfl,s⟩;have dA:=s.size;exact oQ;intro p H s;have e:=e.ext s;refine zA<|aV<|kP<|⟨_,rfl,show Value.bool _=Value.bool _ from congrArg _ ?_,e⟩;rw[OB o j C]
  congr 1
  exact decide_eq_decide.2 om;have P:=C;refine WZ ?_;apply oB 3 52 55 rfl oQ;intro _;exact oQ;intro p;refine aV<|zc rfl (λD=>?_) λD=>?_;have hb:=Uw o j P<|ado D;refine W ?_;exact⟨_,rfl,by rw[hb];rfl,e⟩;have N:(nth t.ag 0).au=[116]\/(nth t.ag 0).au=[99]:=adn D;refine W ?_;refine ey (λk:Nat=>[(3,.pointer<|some ⟨w.heap.size,0,none⟩),(1,.bool d),(2,.bool false),(8,.int .i64 (k:Int))]) (λk w'=>ak [] w w'/\ak [] F w'/\1<=k/\k<=t.ag.length/\(t.ag.drop 1).all (fY d)=(t.ag.drop k).all (fY d)) (λk=>t.ag.length-k) (1) (⟨rfl,rfl,rfl,rfl⟩) (⟨e,ak.refl [] _,om,om,rfl⟩) λl H _ S=>?_;obtain⟨e,g,hk,_,z⟩:=S;refine bK g f u λf u=>?_;refine W ?_;refine zc rfl (λR=>?_) λR=>?_;have U:=et (ps:=t.ag) (i:=l) om;obtain⟨O,Q,X,sJ,Y,q,J,tL,E⟩:=gX f U;cases q;refine W ?_;refine aA (M (nth t.ag l) (by have:=kD (t:=t) (i:=l) om;omega) (by have:=kD (t:=t) (i:=l) om;omega) (y.nth om) d _ L H<|kq E) ?_;rintro _ _ ⟨rfl,I⟩;have fD:=I.size;refine bK I e g λe g=>?_;refine j4 rfl rfl rfl<|aV<|zc rfl (λA=>?_) λA=>?_;have hb:fY d t=false:=by rw[OC o j N,z,Ux om,A];rfl
  refine W ?_;exact⟨_,rfl,by rw[hb];rfl,e⟩;refine W ?_;exact⟨l+1,⟨rfl,rfl,rfl,rfl⟩,⟨e,g,om,om,by rw[z,Ux om,A];rfl⟩,om⟩;have hb:fY d t=true:=by rw[OC o j N,z,List.drop_of_length_le om];rfl
  refine W ?_;exact⟨_,rfl,by rw[hb];rfl,e⟩

theorem ajc (t:aq) (D:t.size<=100000) (B:WF t) (z:Int) (v:Value) (L:List Nat) (w:World) (E:bg L w v t):
  bz Tryz.prog 141 [v,.int .u8 z] w λr w'=>r= .bool (jT z t)/\ak [] w w':=by
 have e:=E;obtain⟨a,n,c,rfl,_,_⟩:=cY E;have b:=ak.refl [] w;have K:=rI t;refine bY [.tmp 4] 39 Tryz.func141 rfl afj rfl rfl ?_;refine zr<|eJ rfl λI F A _=>bK F b e λb e=>?_;refine W ?_;refine jo (λ_:Unit=>[(2,.pointer<|some ⟨w.heap.size,0,none⟩),(7,.int .u8 z),(8,.bool (decide (z=114)||decide (z=42)))]) (λ_ w'=>w'=I) ?_ ?_;refine zc rfl (λo=>?_) λo=>?_;refine WZ ?_;exact⟨(),⟨rfl,rfl,congrArg Value.bool<|BN o⟩,rfl⟩;refine W ?_;exact⟨(),⟨rfl,rfl,congrArg Value.bool<|BO o⟩,rfl⟩;intro _ y _ H;obtain rfl:=H;refine zc rfl (λp=>?_) λp=>?_;have f:=BP p;refine W ?_;refine aA (ajb t _ L y e) ?_;rintro _ j ⟨rfl,d⟩;have C:=d.size;have b:=b.ext d;refine W ?_;exact⟨_,rfl,show Value.bool _=Value.bool _ from congrArg _ (by rw[jT,iP f];rfl),b⟩;have f:=BQ p;refine W ?_;refine zc rfl (λq=>?_) λq=>?_;have g:=q;refine W ?_;refine aA (LV _ _) ?_;rintro _ _ ⟨rfl,rfl⟩;refine W ?_;exact⟨_,rfl,show Value.bool _=Value.bool _ from congrArg _<|by rw[jT,iN f,iP g],b⟩;have g:=q;refine W ?_;refine zc rfl (λs=>?_) λs=>?_;have i:=s;refine W ?_;refine aA (WU _ om _) ?_;rintro _ _ ⟨rfl,rfl⟩;refine W ?_;exact⟨_,rfl,show Value.bool _=Value.bool _ from congrArg _<|by rw[jT,iN f,iN g,iP i],b⟩;have i:=s;refine W ?_;refine zc rfl (λu=>?_) λu=>?_;have m:=u;refine W ?_;refine aA (LU t _ L y e) ?_;rintro _ j ⟨rfl,d⟩;have C:=d.size;refine cN d b e A λb e A=>?_;refine WZ ?_;apply oA 3 33 36 (ak [] j) rfl oQ;intro _;refine W ?_;refine aA (PZ t.size t (lR _) D B false _ L j e) ?_;rintro _ J ⟨rfl,l⟩;have M:=l.size;exact oQ;intro _ J l;have b:=b.ext l;refine W ?_;exact⟨_,rfl,show Value.bool _=Value.bool _ from congrArg _<|by rw[jT,iN f,iN g,iN i,iP m],b⟩;have m:=u;refine W ?_;refine aA (PZ t.size t (lR _) D B false _ L y e) ?_;rintro _ j ⟨rfl,d⟩;have C:=d.size;have b:=b.ext d;refine W ?_;exact⟨_,rfl,show Value.bool _=Value.bool _ from congrArg _<|by rw[jT,iN f,iN g,iN i,iN m],b⟩
theorem ajd (h:aj) (w:World):bz Tryz.prog 139 [str h] w λr w'=>r=str (shapeOf h)/\w=w':=by refine bY [.tmp 2] 25 Tryz.func139 rfl afg rfl rfl ?_;refine W ?_;refine zc rfl (λm=>?_) λm=>?_;have a:=m;refine W ?_;exact⟨_,rfl,show str _=str _ from congrArg _<|by rw[shapeOf,iP a],rfl⟩;have a:=m;refine W ?_;refine jo (λ_:Unit=>[(3,str h),(6,.bool (decide (h=[109,111,118])||decide (h=[111,112,101,110])))]) (λ_ w'=>w'=w) ?_ ?_;refine zc rfl (λn=>?_) λn=>?_;refine WZ ?_;exact⟨(),⟨rfl,congrArg Value.bool<|BN n⟩,rfl⟩;refine W ?_;exact⟨(),⟨rfl,congrArg Value.bool<|BO n⟩,rfl⟩;intro l D _ e;obtain rfl:=e;refine zc rfl (λo=>?_) λo=>?_;have b:=BP o;refine W ?_;exact⟨_,rfl,show str _=str _ from congrArg _<|by rw[shapeOf,iN a,iP b],rfl⟩;have b:=BQ o;refine W ?_;refine jo (λ_:Unit=>[(3,str h),(9,.bool (decide (h=[97,100,100])||decide (h=[115,117,98])||decide (h=[109,117,108])))]) (λ_ w'=>w'=D) ?_ ?_;refine zc rfl (λp=>?_) λp=>?_;refine WZ ?_;exact⟨(),⟨rfl,congrArg Value.bool<|OD p⟩,rfl⟩;have C:=p;refine W ?_;refine zc rfl (λq=>?_) λq=>?_;refine WZ ?_;exact⟨(),⟨rfl,congrArg Value.bool<|OE C q⟩,rfl⟩;refine W ?_;exact⟨(),⟨rfl,congrArg Value.bool<|OF C q⟩,rfl⟩;intro l E _ e;obtain rfl:=e;refine zc rfl (λs=>?_) λs=>?_;have c:=OG s;refine W ?_;exact⟨_,rfl,show str _=str _ from congrArg _<|by rw[shapeOf,iN a,iN b,iP c],rfl⟩;have c:=OH s;refine W ?_;refine zc rfl (λt=>?_) λt=>?_;have d:=t;refine W ?_;exact⟨_,rfl,show str _=str _ from congrArg _<|by rw[shapeOf,iN a,iN b,iN c,iP d],rfl⟩;have d:=t;refine W ?_;refine zc rfl (λu=>?_) λu=>?_;have f:=u;refine W ?_;exact⟨_,rfl,show str _=str _ from congrArg _<|by rw[shapeOf,iN a,iN b,iN c,iN d,iP f],rfl⟩;have f:=u;refine W ?_;refine jo (λ_:Unit=>[(3,str h),(17,.bool (decide (h=[108,97,98])||decide (h=[122,101,114,111])))]) (λ_ w'=>w'=E) ?_ ?_;refine zc rfl (λv=>?_) λv=>?_;refine WZ ?_;exact⟨(),⟨rfl,congrArg Value.bool<|BN v⟩,rfl⟩;refine W ?_;exact⟨(),⟨rfl,congrArg Value.bool<|BO v⟩,rfl⟩;intro l F _ e;obtain rfl:=e;refine zc rfl (λj=>?_) λj=>?_;have g:=BP j;refine W ?_;exact⟨_,rfl,show str _=str _ from congrArg _<|by rw[shapeOf,iN a,iN b,iN c,iN d,iN f,iP g],rfl⟩;have g:=BQ j;refine W ?_;refine zc rfl (λA=>?_) λA=>?_;have i:=A;refine W ?_;exact⟨_,rfl,show str _=str _ from congrArg _<|by rw[shapeOf,iN a,iN b,iN c,iN d,iN f,iN g,iP i],rfl⟩;have i:=A;refine W ?_;refine jo (λ_:Unit=>[(3,str h),(22,.bool (decide (h=[106,117,109,112])||decide (h=[104,97,108,116])))]) (λ_ w'=>w'=F) ?_ ?_;refine zc rfl (λy=>?_) λy=>?_;refine WZ ?_;exact⟨(),⟨rfl,congrArg Value.bool<|BN y⟩,rfl⟩;refine W ?_;exact⟨(),⟨rfl,congrArg Value.bool<|BO y⟩,rfl⟩;intro l _ _ e;obtain rfl:=e;refine zc rfl (λz=>?_) λz=>?_;have B:=BP z;refine W ?_;exact⟨_,rfl,show str _=str _ from congrArg _<|by rw[shapeOf,iN a,iN b,iN c,iN d,iN f,iN g,iN i,iP B],rfl⟩;have B:=BQ z;refine W ?_;exact⟨_,rfl,show str _=str _ from congrArg _<|by rw[shapeOf,iN a,iN b,iN c,iN d,iN f,iN g,iN i,iN B],rfl⟩
theorem WV (t:aq) (hs:t.size<=100000) (N:WF t) (v:Value) (L:List Nat) (w:World) (K:bg L w v t):
  bz Tryz.prog 110 [v] w λr w'=>r= .bool (mO t)/\ak [] w w':=by
 have u:=K;obtain⟨a,n,c,rfl,C,f⟩:=cY K;have e:=ak.refl [] w;have Em:=ow t;have mz:=ads<|bA t;refine bY [.tmp 2] 67 Tryz.func110 rfl aeN rfl rfl ?_;refine zr<|eJ rfl λw1 g l _=>cN g e f u λe f u=>?_;refine W ?_;refine aA (LU t _ L w1 u) ?_;rintro _ w2 ⟨rfl,H⟩;have dA:=H.size;refine cN H e f l λe f l=>?_;refine aA (ajd _ _) ?_;rintro _ _ ⟨rfl,rfl⟩;refine W ?_;refine zc rfl (λj=>?_) λj=>?_;refine W ?_;exact⟨_,rfl,by rw[UB j];rfl,e⟩;have y:=j;refine WZ ?_;apply oB 8 14 22 rfl oQ;intro R;refine WZ ?_;exact oQ;intro xx;refine WZ ?_;apply oP 5 23 28 rfl oQ;intro _;refine WZ ?_;exact oQ;intro xx;refine aV<|zc rfl (λz=>?_) λz=>?_;have hb:=(UA C).symm.trans z;refine W ?_;exact⟨_,rfl,by rw[OK hb];rfl,e⟩;have hb:=(UA C).symm.trans z;have R:=adr hb;have q:=OJ y;refine W ?_;refine ey (λk:Nat=>[(1,.pointer<|some ⟨w.heap.size,0,none⟩),(3,str (shapeOf<|bA t)),(4,.int .i64 (k:Int))]) (λk w'=>ak [] w w'/\ak [] w2 w'/\1<=k/\k<=t.ag.length/\∀i,i<k->1<=i->vR t i=true) (λk=>t.ag.length-k) (1) (⟨rfl,rfl,rfl⟩) (⟨e,ak.refl [] _,om,om,by intro i J j;omega⟩) λd _ _ T=>?_;obtain⟨e,g,hk,_,I⟩:=T;refine bK g f l λf l=>?_;refine W ?_;refine zc rfl (λS=>?_) λS=>?_;have U:=et (ps:=t.ag) (i:=d) om;obtain⟨b,off,Y,pn,Z,rfl,_,O,o⟩:=gX f U;have mM:=List.length_pos_iff.2 y;refine WZ ?_;apply kF dk 14 (rA 36 14) (rA 36 14) [[],[0],[],[1,2],[3],[],[],[],[7],[6,8],[9],[5,10],[4,11],[12]] [It.v _,It.v _,It.v _,It.v _,It.v _,It.v _,It.v _,It.v _,It.v _,It.v _,It.v _,It.v _,It.v _,It.v (.bool<|!vR t d)] de rfl;intro _ aC;refine VA ?_;refine vk aC (λx s m=>?_) ?_;refine ac6 rfl rfl rfl rfl (show(if((shapeOf<|bA t).length:Int)<(d:Int) then((shapeOf<|bA t).length:Int) else(d:Int))=((min d (shapeOf<|bA t).length:Nat):Int) from by split<;>omega) ?_;exact pv;refine vk aC (λx s m=>?_) ?_;refine yw rfl rfl rfl rfl rfl (show IntKind.i64.wrap (((min d (shapeOf<|bA t).length:Nat):Int)-1)=((min d (shapeOf<|bA t).length-1:Nat):Int) from by rw[wrap_i64 _ om om];omega) ?_;exact pv;refine vk aC (λx s m=>?_) ?_;refine kR jh rfl rfl rfl rfl (jP om) ?_;exact pv;refine vk aC (λx s m=>?_) ?_;have o:=o.ext m;refine aA (ajc (nth t.ag d) (by have:=kD (t:=t) (i:=d) om;omega) (N.nth om) _ _ L s<|kq o) ?_;rintro _ _ ⟨rfl,F⟩;have nT:=F.size;exact pk F;exact VZ;intro x _ P;refine bK P e g λe g=>?_;change OW _ _ _ _ [] (ba (aZ _ x _)<|zZ 36 [_,_,_,_,_,_,_,_,_,_,_,_,_,_]) _;refine aV<|zc rfl (λA=>?_) λA=>?_;have D:vR t d=false:=by simpa using A
 refine W ?_;exact⟨_,rfl,by rw[adt om hk D];rfl,e⟩;have D:vR t d=true:=by simpa using A
 refine W ?_;exact⟨d+1,⟨rfl,rfl,rfl⟩,⟨e,g,om,om,by intro i J j;rcases Nat.lt_or_ge i d with h|h;exact I i h j;rw[show i=d by omega];exact D⟩,om⟩;have E:=adu y hb λi J=>I i om;have X:=et q.2.1;obtain⟨b,off,Y,pn,Z,rfl,_,O,o⟩:=gX f X;refine WI ?_;refine zi (i:=0) cT aO rfl rfl (by rw[C];exact q.2.1)<|W ?_;refine zc rfl (λB=>?_) λB=>?_;have p:bA t=[103,101,116]:=q.2.2.trans B;have Ar:=adq hb p;have V:=et (ps:=t.ag) (i:=3) om;obtain⟨_,_,_,_,_,Q,M,_,_⟩:=gX f V;cases Q;refine zr<|zf kt rfl<|zl jE rfl (l.at rfl)<|zi (i:=3) cT aO rfl rfl om<|zf mv rfl<|zl fT rfl (M 0 _ rfl)<|aA (LV _ _) ?_;rintro _ _ ⟨rfl,rfl⟩;refine W ?_;exact⟨_,rfl,show Value.bool _=Value.bool _ from congrArg _<|by rw[E,show decide (bA t≠[103,101,116])=false from dF λh=>h p,Bool.false_or],e⟩;have p:bA t≠[103,101,116]:=λh=>B<|q.2.2.symm.trans h;refine W ?_;exact⟨_,rfl,by rw[E,dT p];rfl,e⟩
theorem aje (s:aj) (w:World):bz Tryz.prog 103 [str s] w λr w'=>r= .bool (uI s)/\ak [] w w':=by have a:=ak.refl [] w;refine bY [.tmp 2] 15 Tryz.func103 rfl aeH rfl rfl ?_;refine W ?_;refine aA (Aq s [] w sm) ?_;rintro _ _ ⟨p,f⟩;have y:=f.size;have a:=a.ext f;obtain⟨t,_,rfl,b,l⟩:=p;obtain⟨_,_,_,rfl,_,_⟩:=cY b;refine W ?_;refine du aO rfl rfl rfl λ_ g i _=>?_;have a:=a.grow;have a:=a.ext g;have b:=b.grow;have b:=b.ext g;refine cH aO rfl rfl rfl i rfl λm e i _=>?_;have a:=a.aB e sx;have b:=b.aB e sx;refine W ?_;apply oA 3 11 14 (ak [] m) rfl oQ;intro q;obtain⟨u,d⟩:=Option.isSome_iff_exists.1 q;have n:=l u d;have j:=vQ d;have o:=BM d;rw[<-n] at j o;refine W ?_;refine aA (PZ t.size t (lR _) om j false _ _ m b) ?_;rintro _ v ⟨rfl,c⟩;have z:=c.size;exact oQ;intro _ v c;have a:=a.ext c;refine W ?_;exact⟨_,rfl,show Value.bool _=Value.bool _ from congrArg _<|K8 l,a⟩
theorem I3 (s:aj) (w:World):bz Tryz.prog 83 [str s] w λr w'=>r= .bool (uJ s)/\ak [] w w':=by have a:=ak.refl [] w;refine bY [.tmp 2] 15 Tryz.func83 rfl ag9 rfl rfl ?_;refine W ?_;refine aA (Aq s [] w sm) ?_;rintro _ _ ⟨p,f⟩;have y:=f.size;have a:=a.ext f;obtain⟨t,_,rfl,b,l⟩:=p;obtain⟨_,_,_,rfl,_,_⟩:=cY b;refine W ?_;refine du aO rfl rfl rfl λ_ g i _=>?_;have a:=a.grow;have a:=a.ext g;have b:=b.grow;have b:=b.ext g;refine cH aO rfl rfl rfl i rfl λm e i _=>?_;have a:=a.aB e sx;have b:=b.aB e sx;refine W ?_;apply oA 3 11 14 (ak [] m) rfl oQ;intro q;obtain⟨u,d⟩:=Option.isSome_iff_exists.1 q;have n:=l u d;have j:=vQ d;have o:=BM d;rw[<-n] at j o;refine W ?_;refine aA (WV t om j _ _ m b) ?_;rintro _ v ⟨rfl,c⟩;have z:=c.size;exact oQ;intro _ v c;have a:=a.ext c;refine W ?_;exact⟨_,rfl,show Value.bool _=Value.bool _ from congrArg _<|K8 l,a⟩
theorem LW (s:aj) (w:World):bz Tryz.prog 84 [str s] w λr w'=>r= .bool (Ga s)/\ak [] w w':=by have a:=ak.refl [] w;refine bY [.tmp 2] 31 Tryz.func84 rfl aha rfl rfl ?_;refine W ?_;refine aA (Aq s [] w sm) ?_;rintro _ _ ⟨C,o⟩;have I:=o.size;have a:=a.ext o;obtain⟨t,_,rfl,d,v⟩:=C;obtain⟨_,_,_,rfl,q,c⟩:=cY d;refine W ?_;refine du aO rfl rfl rfl λ_ l e _=>?_;have a:=a.grow;have a:=a.ext l;have d:=d.grow;have d:=d.ext l;have c:=c.grow;have c:=c.ext l;refine cH aO rfl rfl rfl e rfl λy g e _=>?_;have a:=a.aB g sx;have d:=d.aB g sx;have c:=c.aB g sx;refine W ?_;apply oA 3 11 14 (ak [] y) rfl oQ;intro D;obtain⟨F,n⟩:=Option.isSome_iff_exists.1 D;have A:=v F n;have p:=vQ n;have B:=BM n;rw[<-A] at p B;refine W ?_;refine aA (WV t om p _ _ y d) ?_;rintro _ H ⟨rfl,j⟩;have J:=j.size;exact oQ;intro z H j;refine cN j a c e λa c e=>?_;refine WZ ?_;apply oB 15 15 30 rfl oQ;intro u;simp only[aE] at u;have m:=adv u.2;have E:=et m;obtain⟨b,off,_,_,_,rfl,_,_,_⟩:=gX c E;refine WI ?_;refine zi (i:=0) cT aO rfl rfl (by rw[q];exact m)<|WZ ?_;apply oP 7 22 29 rfl oQ;intro _;refine WI ?_;refine zi (i:=0) cT aO rfl rfl (by rw[q];exact m)<|WZ ?_;exact oQ;intro z;exact oQ;intro z;refine W ?_;exact⟨_,rfl,show Value.bool _=Value.bool _ from congrArg _ (by rw[Bool.and_assoc];exact K8 (f:=K9) v),a⟩
theorem WW (bs:List Bk) (hb:bs.length<9223372036854775807) (l:aj) (v:Value) (L:List Nat) (w:World) (m:lE L w v bs):
  bz Tryz.prog 50 [v,str l] w λr w'=>r= .int .i64 (l6 bs l)/\w=w':=by
 obtain⟨a,n,c,rfl,_⟩:=Aa m;refine bY [.tmp 4] 20 Tryz.func50 rfl agF rfl rfl ?_;refine W ?_;refine ey (λk:Nat=>[(0,.slice a n c),(1,str l),(5,.int .i64 (k:Int))]) (λk w'=>w'=w/\k<=bs.length/\∀i,i<k->(cA bs i).aM≠l) (λk=>bs.length-k) (0) (⟨rfl,rfl,rfl⟩) (⟨rfl,om,by intro i j;omega⟩) λd _ _ p=>?_;obtain⟨rfl,hk,e⟩:=p;refine W ?_;refine zc rfl (λo=>?_) λo=>?_;have q:=qM (bs:=bs) (i:=d) om;obtain⟨b,off,_,_,c1,_,_,c2,rfl,_,_,_,_,_⟩:=DP m q;refine W ?_;refine zc rfl (λf=>?_) λf=>?_;have g:=UC om e f;refine W ?_;exact⟨_,rfl,by rw[g];rfl,rfl⟩;refine W ?_;exact⟨d+1,⟨rfl,rfl,rfl⟩,⟨rfl,om,by intro i j;rcases Nat.lt_or_ge i d with h|h;exact e i h;rw[show i=d by omega];exact f⟩,om⟩;have g:=adx λi j=>e i om;refine W ?_;exact⟨_,rfl,by rw[g];rfl,rfl⟩
theorem ajg (k:Bk) (Y:k.aM.length<1000000000) (V:k.cO.length<1000000000) (X:k.code.length<1000000000) (v:Value) (L:List Nat) (w:World) (O:rG L w v k):
  bz Tryz.prog 66 [v] w λr w'=>r= .bool (lU k)/\ak [] w w':=by
 obtain⟨_,_,c1,_,P,c2,rfl,F,y,m,f⟩:=DO O;have a:=ak.refl [] w;refine bY [.tmp 2] 65 Tryz.func66 rfl agT rfl rfl ?_;refine zr<|eJ rfl λQ d u _=>cN d a m f λa m f=>?_;refine W ?_;refine aA (WU _ om _) ?_;rintro _ _ ⟨rfl,rfl⟩;refine WZ ?_;apply oP 5 9 14 rfl oQ;intro _;refine WZ ?_;exact oQ;intro T;refine WZ ?_;apply oP 6 15 21 rfl oQ;intro _;refine W ?_;refine aA (IZ _ _ _ _) ?_;rintro _ _ ⟨rfl,rfl⟩;exact oQ;intro T;refine aV<|zc rfl (λo=>?_) λo=>?_;rw[Lc F y] at o;have hb:=UD (b:=k)<|Uz o;refine W ?_;exact⟨_,rfl,by rw[hb];rfl,a⟩;rw[Lc F y] at o;have hb:(oZ k.aM&&decide (k.cO.length<=40)&&(decide (1<=k.code.length)&&decide (k.code.length<=80)))=true:=Uy o;refine W ?_;refine ey (λi:Nat=>[(1,.pointer<|some ⟨w.heap.size,0,none⟩),(3,.int .i64 (i:Int))]) (λi w'=>ak [] w w'/\ak [] Q w'/\i<=k.cO.length/\∀j,j<i->uI (bM k.cO j)=true) (λi=>k.cO.length-i) (0) (⟨rfl,rfl⟩) (⟨a,ak.refl [] _,om,by intro i q;omega⟩) λc H _ A=>?_;obtain⟨a,d,hk,l⟩:=A;refine cN d m f u λm f u=>?_;refine W ?_;refine zc rfl (λK=>?_) λK=>?_;have B:=js (xs:=k.cO) (i:=c) om;obtain⟨b,off,rfl,N⟩:=mr m B;refine W ?_;refine aA (aje _ H) ?_;rintro _ R ⟨rfl,C⟩;have U:=C.size;refine bK C a d λa d=>?_;refine j4 rfl rfl rfl<|aV<|zc rfl (λz=>?_) λz=>?_;have s:=UE (b:=k) (i:=c) om (by simpa using z);refine W ?_;exact⟨_,rfl,by rw[s];rfl,a⟩;refine W ?_;exact⟨c+1,⟨rfl,rfl⟩,⟨a,d,om,by intro i q;rcases Nat.lt_or_ge i c with h|h;exact l i h;rw[show i=c by omega];simpa using z⟩,om⟩;have J:∀i,i<k.cO.length->uI (bM k.cO i)=true:=λi q=>l i om;clear l d hk;refine W ?_;refine ey (λi:Nat=>[(1,.pointer<|some ⟨w.heap.size,0,none⟩),(4,.int .i64 (i:Int))]) (λi w'=>ak [] w w'/\ak [] H w'/\i<=k.code.length/\∀j,j<i->tu k.code j=true) (λi=>k.code.length-i) (0) (⟨rfl,rfl⟩) (⟨a,ak.refl [] _,om,by intro i q;omega⟩) λc R _ A=>?_;obtain⟨a,d,hk,l⟩:=A;refine bK d f u λf u=>?_;refine W ?_;refine zc rfl (λM=>?_) λM=>?_;have B:=js (xs:=k.code) (i:=c) om;obtain⟨b,off,rfl,N⟩:=mr f B;refine W ?_;refine DZ [43,44,45,46,47,48,49,50,51,52,53,54,55,56,57,58,59,60,61,62,63,64] [(64,.bool (!uJ (bM k.code c)||(Ga (bM k.code c) !=decide ((c:Int)=(P:Int)-1))))] ?_ ?_;rcases bE (!uJ (bM k.code c)) with gZ|gZ;apply kF dk 22 (rA 43 22) (rA 43 22) [[],[0],[],[1,2],[3],[4],[5],[6],[7],[7,8],[7],[7,9,10],[7,11],[7,12],[7],[7],[7,15],[7,16],[7,17],[7,14,18],[7,13,19],[7,20]] [It.v _,It.v _,It.v _,It.v _,It.v _,It.v _,It.v _,It.v (.bool true),It.v _,It.v _,It.v _,It.v _,It.v _,It.v _,It.v _,It.v _,It.v _,It.v _,It.v _,It.v _,It.v _,It.v _] de rfl;intro S aC;refine VA ?_;refine vk aC (λx g t=>?_) ?_;refine aA (I3 _ g) ?_;rintro _ I ⟨rfl,e⟩;have E:=e.size;exact pk e;refine VA ?_;refine vc (λx g t=>?_) ?_;refine WZ ?_;exact pv (by exact congrArg Value.bool gZ);exact VZ;intro x D n;change OW _ _ _ _ [] (ba (aZ _ x _) (zZ 43 [_,_,_,_,_,_,_,_,_,_,_,_,_,_,_,_,_,_,_,_,_,_])) _;refine W ?_;exact kE n;apply kF dk 22 (rA 43 22) (rA 43 22) [[],[0],[],[1,2],[3],[4],[5],[6],[7],[7,8],[7],[7,9,10],[7,11],[7,12],[7],[7],[7,15],[7,16],[7,17],[7,14,18],[7,13,19],[7,20]] [It.v _,It.v _,It.v _,It.v _,It.v _,It.v _,It.v _,It.v (.bool false),It.v _,It.v _,It.v _,It.v _,It.v _,It.v _,It.v _,It.v _,It.v _,It.v _,It.v _,It.v _,It.v _,It.v _] de rfl;intro S aC;refine VA ?_;refine vk aC (λx g t=>?_) ?_;refine aA (I3 _ g) ?_;rintro _ I ⟨rfl,e⟩;have E:=e.size;exact pk e;refine VA ?_;refine vc (λx g t=>?_) ?_;refine WZ ?_;exact pv (by exact congrArg Value.bool gZ);refine VA ?_;refine vk aC (λx g t=>?_) ?_;refine aA (LW _ g) ?_;rintro _ I ⟨rfl,e⟩;have E:=e.size;exact pk e;exact VZ;intro x D n;change OW _ _ _ _ [] (ba (aZ _ x _) (zZ 43 [_,_,_,_,_,_,_,_,_,_,_,_,_,_,_,_,_,_,_,_,_,_])) _;refine W ?_;exact kE n;intro x D n;refine bK n a d λa d=>?_;refine zc rfl (λp=>?_) λp=>?_;rw[OL y om] at p;have s:=UF (b:=k) (i:=c) om (by simpa using p);refine W ?_;exact⟨_,rfl,by rw[s];rfl,a⟩;rw[OL y om] at p;refine W ?_;exact⟨c+1,⟨rfl,rfl⟩,⟨a,d,om,by intro i q;rcases Nat.lt_or_ge i c with h|h;exact l i h;rw[show i=c by omega];simpa using p⟩,om⟩;have s:=UG hb J λi q=>l i om;refine W ?_;exact⟨_,rfl,by rw[s];rfl,a⟩
theorem WX (bs:List Bk) (hb:o3 bs) (v:Value) (L:List Nat) (w:World) (d:lE L w v bs):
  bz Tryz.prog 33 [v] w λr w'=>r= .bool (eK bs)/\ak [] w w':=by
 obtain⟨a,n,c,rfl,O⟩:=Aa d;have e:=ak.refl [] w;have Q:=hb.1;refine bY [.tmp 2] 45 Tryz.func33 rfl agr rfl rfl ?_;refine W ?_;refine ey (λi:Nat=>[(0,.slice a n c),(3,.int .i64 (i:Int))]) (λi w'=>ak [] w w'/\i<=bs.length/\∀j,j<i->lU (cA bs j)=true/\l6 bs (cA bs j).aM=(j:Int)) (λi=>bs.length-i) (0) (⟨rfl,rfl⟩) (⟨e,om,by intro i D;omega⟩) λf P _ M=>?_;obtain⟨e,hk,o⟩:=M;have d:=d.ext e;refine W ?_;refine zc rfl (λI=>?_) λI=>?_;have N:=qM (bs:=bs) (i:=f) om;obtain⟨b,off,y,E,c1,z,F,c2,rfl,g,q,B,p,m⟩:=DP d N;have u:=hb.2 f om;refine W ?_;refine aA (ajg (cA bs f) u.1 u.2.1 u.2.2 _ _ P<|z8 p m) ?_;rintro _ _ ⟨rfl,A⟩;have m:=A.size;refine cN A e d g λe d g=>?_;refine WZ ?_;apply oP 10 16 26 rfl oQ;intro _;refine zm<|zm<|zm<|zi kG iD rfl rfl om<|zf Pc rfl<|zl fT rfl (g 0 _ rfl)<|aA (WW bs om _ _ _ _ d) ?_;rintro _ _ ⟨rfl,rfl⟩;exact oQ;intro H;refine aV<|zc rfl (λl=>?_) λl=>?_;have t:=UH (bs:=bs) (i:=f) om (λC=>by rw[C.1,C.2] at l;simp at l);refine W ?_;exact⟨_,rfl,by rw[t];rfl,e⟩;simp only[Bool.or_eq_false_iff,Bool.not_eq_false',decide_eq_false_iff_not,ne_eq,Classical.not_not] at l;refine W ?_;exact⟨f+1,⟨rfl,rfl⟩,⟨e,om,by intro i D;rcases Nat.lt_or_ge i f with h|h;exact o i h;rw[show i=f by omega];exact l⟩,om⟩;have t:=UI λi D=>o i om;clear o;refine W ?_;refine aA (IZ _ _ _ _) ?_;rintro _ _ ⟨rfl,rfl⟩;refine WZ ?_;apply oB 6 30 36 rfl oQ;intro J;simp at J;have s:=qM (bs:=bs) (i:=0) om;obtain⟨b,off,y,E,c1,z,F,c2,rfl,g,q,B,p,m⟩:=DP d s;refine zm<|zi (i:=0) kG iD rfl rfl om<|zf Pc rfl<|zl fT rfl (g 0 _ rfl) ?_;exact oQ;intro H;refine WZ ?_;apply oB 7 37 44 rfl oQ;intro K;simp at K;have s:=qM (bs:=bs) (i:=0) om;obtain⟨b,off,y,E,c1,z,F,c2,rfl,g,q,B,p,m⟩:=DP d s;subst q;refine zm<|zi (i:=0) kG iD rfl rfl om<|zf Pd rfl<|zl xB rfl (g 1 _ rfl) ?_;exact oQ;intro H;refine W ?_;exact⟨_,rfl,show Value.bool _=Value.bool _ from congrArg _ (by rw[t];exact ady O λ_=>rfl),e⟩
def cM.enc (b:cM):List C:=[.val<|str b.aM,.sl 2<|dj b.regs,.sl 2 (dj b.code)]
def pe (L:List Nat) (w:World) (v:Value) (b:cM):Prop:=jf L w v b.enc
theorem pe.ext {b:cM} (h:pe L w v b) (k:ak [] w w'):pe L w' v b:=jf.ext h k
theorem pe.grow {b:cM} (h:pe L w v b):pe (w.heap.size::L) w v b:=jf.fresh h uF
theorem pe.aB {b:cM} (h:pe L w v b) (k:ak L' w w') (a:∀x∈L',x∈L):pe L w' v b:=jf.aG h<|k.mono a
theorem pe.dQ {b:cM} (h:pe L w v b) (a:∀x∈L',x∈L):pe L' w v b:=jf.fresh h λx c=>.inl<|a x c
theorem WY {b:cM} (h:dC L w vs b.enc):∃a c,vs=[str b.aM,a,c]/\cX L w a b.regs/\cX L w c b.code:=by
 rw[cM.enc] at h
 match vs,h with
 |[_,a,c],h=>obtain⟨d,e,f,_⟩:=h;cases d;exact⟨a,c,rfl,e,f⟩
 |[],h=>exact h.elim
 |[_],h=>exact h.2.elim
 |[_,_],h=>exact h.2.2.elim
 |_::_::_::_::_,h=>exact h.2.2.2.elim
theorem yS {b:List aq} (h:cX L w v b):∃a c,v= .slice a b.length c:=by grind [cX,tl,iE]
theorem W0 {b:cM} (h:pe L w v b):∃a c1 c c2,v= .agg #[str b.aM,.slice a b.regs.length c1,.slice c b.code.length c2]/\
  cX L w (.slice a b.regs.length c1) b.regs/\cX L w (.slice c b.code.length c2) b.code:=by
 obtain⟨vs,rfl,f⟩:=h;obtain⟨_,_,rfl,d,e⟩:=WY f;obtain⟨a,c1,rfl⟩:=yS d;obtain⟨c,c2,rfl⟩:=yS e;exact⟨a,c1,c,c2,rfl,d,e⟩
theorem P2 {l:aj} {r c:List aq} {a b:Value} (d:cX L w a r) (e:cX L w b c):pe L w (.agg #[str l,a,b]) ⟨l,r,c⟩:=
 ⟨[str l,a,b],rfl,.val _,d,e,trivial⟩
theorem pe.lD {x y:Value} {b:cM} (h:pe L w (.agg #[x,y,z]) b):dC L w [x,y,z] b.enc:=by
 obtain⟨vs,a,c⟩:=h;have d:vs=[x,y,z]:=by have:=congrArg (λv=>match v with|Value.agg x=>x.toList|_=>[]) a;simpa using this.symm
 rw[<-d];exact c
def jz (L:List Nat) (w:World) (v:Value) (a:List cM):Prop:=cg L w v (.sl 3<|a.map cM.enc)
theorem jz.ext (h:jz L w v ps) (k:ak [] w w'):jz L w' v ps:=cg.ext h k
theorem jz.grow {b:List cM} (h:jz L w v b):jz (w.heap.size::L) w v b:=cg.fresh h uF
theorem jz.aB {b:List cM} (h:jz L w v b) (k:ak L' w w') (a:∀x∈L',x∈L):jz L w' v b:=cg.aG h<|k.mono a
theorem jz.dQ {b:List cM} (h:jz L w v b) (a:∀x∈L',x∈L):jz L' w v b:=cg.fresh h λx c=>.inl<|a x c
theorem W1:jz L w (.slice none 0 0) []:=.nil _ _ _
theorem xO (h:jz L w v ps):∃a c,v= .slice a ps.length c:=by grind [jz,tl]
theorem CF {a:Option Addr} {c:Nat} {k:cM} (h:jz L w (.slice a n c) ps) (m:ps[i]?=some k):
  ∃b off d c1 e c2,a=some ⟨b,off,none⟩/\fW w b (off+i*3) [str k.aM,.slice d k.regs.length c1,.slice e k.code.length c2]/\cX L w (.slice d k.regs.length c1) k.regs/\cX L w (.slice e k.code.length c2) k.code:=by
 obtain⟨b,off,vs,j,hb,_,_,l,o⟩:=zS h (show(ps.map cM.enc)[i]?=some k.enc by simp[m]);obtain⟨_,_,rfl,f,g⟩:=WY o;obtain⟨d,c1,rfl⟩:=yS f;obtain⟨e,c2,rfl⟩:=yS g;exact⟨b,off,d,c1,e,c2,j,l,f,g⟩
theorem Gr.prog {T:TypeId} {g:Option Nat} (h:Gr B L w T 3 v g (ps.map cM.enc)):jz L w v ps:=h.done
section
variable {P:Program} {n:Nat} {ops:Array Oper} {K:Env->World->Prop} {rest:List Oper} {e:Env} {w:World}
 {dst:Option Nat} {ty:TypeId} {pos:String} {after:Array Edge} {g:Option (Nat×Bool)} {x y:Operand}
theorem ajh {B:Nat} {L:List Nat} {v r s A:Value} {m:Option Nat} {d:List cM} {f:cM} {b U:Nat} (I:P.underlying t=some (.slice E)) (F:TI P E 3 bytes z) (M:gate ops e g=true) (J:cD n dst=true) (S:Nat.beq z.cells.size 3=true) (T:Nat.ble bytes 1000=true) 
  (Q:ev e x=v) (R:ev e y= .slice (some ⟨b,0,none⟩) 1 1) (H:Gr B L w E 3 v m (d.map cM.enc)) (hb:aK w b [r,s,A].toArray U)
  (q:pe (m.toList++L) w (.agg #[r,s,A]) f) (N:d.length<100000000)
  (k:∀j a l w',Gr B L w' E 3 (.slice j (d++[f]).length a) l ((d++[f]).map cM.enc)->ak m.toList w w'->OW P n ops K rest (bX e dst (.slice j (d++[f]).length a)) w'):
  OW P n ops K (⟨dst,.call {callee:=.builtin .append,args:=#[x,y],argTypes:=#[t,t]},ty,pos,after,g⟩::rest) e w:=by
 refine F8 I F M J S T Q R H hb rfl ?_ q.lD (by simpa using N) ?_
 .rw[List.all_eq_true];refine λu O=>dC.Ih q.lD (λc o v i=>?_) u O;rw[cM.enc] at o;simp only[mC,List.not_mem_nil,or_false] at o;rcases o with h|h|h
  .rw[h] at i;cases i;rfl
  .rw[h] at i;cases i
  .rw[h] at i;cases i
 .intro j a l w' p hk;have C:(d.map cM.enc).length+1=(d++[f]).length:=by simp
  have D:d.map cM.enc++[f.enc]=(d++[f]).map cM.enc:=by simp
  rw[C] at p⊢;rw[D] at p;exact k j a l w' p hk
end
theorem wj:∀(m:Nat) (t:aq),t.size<=m->WF t->t.size<=100000000->t.text.length<=100000000->∀(v:Value) (L:List Nat) (w:World),bg L w v t->
  bz Tryz.prog 116 [v] w λr w'=>r=str t.text/\ak [] w w':=by
 intro m;induction m with
 |zero=>intro t h e;have:=OR e;omega
 |succ m N=>
  intro t _ e _ _ v L w K;obtain⟨a,n,c,rfl,I,A⟩:=cY K;subst I;have U:=ow t;have d:=ak.refl [] w;refine bY [.tmp 2] 31 Tryz.func116 rfl aeT rfl rfl ?_;refine zr<|eJ rfl λ_ z f _=>?_;have d:=d.ext z;refine W ?_;refine zc rfl (λo=>?_) λo=>?_;have J:=U9 e (by rw[e.leaf o];rfl);refine W ?_;exact⟨_,rfl,show str _=str _ from congrArg _ J.symm,d⟩;have j:t.au=[]:=Classical.not_not.1 o;refine W ?_;refine ey (λk:Nat=>[(1,.pointer<|some ⟨w.heap.size,0,none⟩),(3,str (xz<|t.ag.take k)),(4,.int .i64 (k:Int))]) (λk w'=>ak [] w w'/\aK w' w.heap.size [str t.au,.slice a t.ag.length c].toArray 103/\k<=t.ag.length) (λk=>t.ag.length-k) (0) (⟨rfl,rfl,rfl⟩) (⟨d,f,om⟩) λb P _ p=>?_;obtain⟨d,f,hk⟩:=p;refine W ?_;refine zc rfl (λF=>?_) λF=>?_;have B:=et (ps:=t.ag) (i:=b) om;obtain⟨_,_,_,_,_,rfl,M,C,D⟩:=gX A B;subst C;have y:=e.nth (i:=b) om;have T:=kD (t:=t) (i:=b) om;have u:=O2 e j hk;have S:=O2 e j (k:=b+1) om;have s:=Vb (ps:=t.ag) (k:=b) om;have g:=congrArg List.length s;rw[lA] at g;refine W ?_;refine jo (λ_:Unit=>[(1,.pointer<|some ⟨w.heap.size,0,none⟩),(3,str<|xz (t.ag.take b)++(if b=0 then[] else[32])),(4,.int .i64 (b:Int))]) (λ_ w'=>w'=P) ?_ ?_;refine zc rfl (λH=>?_) λH=>?_;have l:¬b=0:=by omega
  refine W ?_;exact⟨(),⟨rfl,by rw[iN l];rfl,rfl⟩,rfl⟩;have l:b=0:=by omega
  refine WZ ?_;exact⟨(),⟨rfl,by rw[iP l,List.append_nil];rfl,rfl⟩,rfl⟩;intro _ Q _ p;obtain rfl:=p;refine WL ?_;refine zl jE rfl (f.at rfl)<|zm<|zi cT aO rfl rfl om<|zL fO aO rfl (M.ext d) rfl<|aA (N (nth t.ag b) om y om om _ L Q<|(kq D).ext d) ?_;rintro _ _ ⟨rfl,q⟩;have R:=q.size;refine bK q d f λd f=>?_;refine ja rfl rfl om<|W ?_;exact⟨b+1,⟨rfl,by rw[s];rfl,rfl⟩,⟨d,f,om⟩,om⟩;have E:b=t.ag.length:=by omega
  have O:=Vc e j;have u:=O2 e j hk;subst E;refine WS ?_;refine ja rfl rfl (by simp at u⊢;omega)<|zA<|aV<|kP ?_;exact⟨_,rfl,show str _=str _ from congrArg _ O,d⟩
theorem Aw (h:aj) (ps:List aj) (y:(eM h ps).length<=1000000000) (v:Value) (L:List Nat) (w:World) (l:bw L w v ps):bz Tryz.prog 79 [str h,v] w λr w'=>r=str (eM h ps)/\ak [] w w':=by
 obtain⟨a,n,c,rfl,t⟩:=dU l;subst t;have d:=ak.refl [] w;have f:=λk=>aeC (h:=h) (ps:=ps) k;have u:(xA h ps 0).length=h.length+1:=by simp[xA,rL]
 have o:=f 0;have z:ps.length<=(eM h ps).length:=by simp only[eM,lC,lA,Vi,kr];omega
 refine bY [.tmp 4] 24 Tryz.func79 rfl ag4 rfl rfl ?_;refine WS ?_;refine ja rfl rfl (by simp only[lC,List.length_nil];omega)<|W ?_;refine ey (λk:Nat=>[(1,.slice a ps.length c),(5,str<|xA h ps k),(6,.int .i64 (k:Int))]) (λk w'=>ak [] w w'/\k<=ps.length) (λk=>ps.length-k) (0) (⟨rfl,show str _=str _ from congrArg _<|by simp[xA,rL],rfl⟩) (⟨d,om⟩) λb _ _ q=>?_;obtain⟨d,hk⟩:=q;refine W ?_;refine zc rfl (λp=>?_) λp=>?_;have s:=js (xs:=ps) (i:=b) om;obtain⟨_,_,rfl,m⟩:=mr l s;have j:=aeA (h:=h) (ps:=ps) (k:=b) om;have e:=congrArg List.length j;simp only[lA,lC,List.length_nil] at e;have g:=f<|b+1;refine WS ?_;refine ja rfl rfl (by simp only[lC,List.length_nil];omega)<|WL ?_;refine zl fT rfl (m.ext d 0 _ rfl)<|ja rfl rfl (by simp only[lA,lC,List.length_nil];omega)<|W ?_;exact⟨b+1,⟨rfl,show str _=str _ from congrArg _ j.symm,rfl⟩,⟨d,om⟩,om⟩;have g:=f b;refine WS ?_;refine ja rfl rfl (by simp only[lC,List.length_nil];omega)<|zA<|aV<|kP ?_;exact⟨_,rfl,show str _=str _ from congrArg _<|aeB om,d⟩
def apart:List (Option Nat×Option Nat)->Prop
 |[]=>True
 |g::gs=>(∀x,x∈jS g->x∉iB gs)/\apart gs
theorem LX (g:Option Nat×Option Nat) (a:List (Option Nat×Option Nat)):iB (g::a)=jS g++iB a:=by simp[iB]
theorem P3 (a:List (Option Nat×Option Nat)) (g:Option Nat×Option Nat):iB (a++[g])=iB a++jS g:=by simp[iB]
section
variable {P:Program} {n:Nat} {ops:Array Oper} {K:Env->World->Prop} {rest:List Oper} {e:Env} {w:World}
 {dst:Option Nat} {ty:TypeId} {pos:String} {after:Array Edge} {g:Option (Nat×Bool)} {x y:Operand}
end
end Go.Proofs.YtcildnfcpkpomaaGreatDoor
