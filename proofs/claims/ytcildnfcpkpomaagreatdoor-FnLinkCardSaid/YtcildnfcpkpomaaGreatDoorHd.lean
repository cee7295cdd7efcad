/- Lemmas for the law FnLink, no statement of their own: no conditions. -/
import Derived.Test.YtcildnfcpkpomaaGreatDoorHc
import Derived.Deep.Strs
import Derived.Laws.MakeOwn
set_option maxHeartbeats 4000000
set_option linter.unusedVariables false
set_option linter.unusedSimpArgs false
namespace Go.Proofs.YtcildnfcpkpomaaGreatDoor
open Go
variable {w w' w0:World} {k k':IntKind} {B E N U b bytes i m n o off sz t:Nat} {l:List Oper} {L L' d:List Nat} {r:List (List Nat)} {V v z:Value} {e0:Env} {p q:Prop} {c:Operand} {a:Int} {vs xs:List Value} {P:Program} {ops:Array Oper} {rows:List (List C)} {ps:List cw}
inductive Iu where
 |v (V:Value)
 |p (f:List Nat->Value->World->Prop)
 |e (t:Nat)
 |w (t:Nat) (V:Value)
 |d (f:List Value->Value)
 |u
def Iu.F:Iu->List Nat->Value->World->Prop
 | .v V=>λ_ v _=>v=V
 | .p f=>f
 | .w _ V=>λ_ v _=>v=V
 |_=>λ_ _ _=>True
def Iu.lE:Iu->Option Nat
 | .e t=>some t
 | .w t _=>some t
 |_=>none
def Iu.tV:Iu->Bool
 | .u=>true
 |_=>false
def Iu.late:Iu->Bool
 | .u=>true
 | .d _=>true
 |_=>false
abbrev gJ:Iu:=.p λ_ _ _=>True
def vA (b:List Iu) (c:List Nat) (G:List Nat) (aU:List Value) (w:World):List Nat->(List (Nat×Value)->Prop)->Prop
 |[],k=>k []
 |j::r,k=>match b.getD j gJ with
  | .v V=>vA b c G aU w r λa=>k ((c.getD j 0,V)::a)
  | .p f=>∀v,f G v w->vA b c G aU w r λa=>k ((c.getD j 0,v)::a)
  | .e t=>vA b c G aU w r λa=>k ((c.getD j 0,aU.getD t undef)::a)
  | .w _ V=>vA b c G aU w r λa=>k ((c.getD j 0,V)::a)
  | .d f=>vA b c G aU w r λa=>k ((c.getD j 0,f aU)::a)
  | .u=>∀v,vA b c G aU w r λa=>k ((c.getD j 0,v)::a)
def W3 (q:Iu) (G:List Nat) (aU:List Value) (v:Value) (w:World):Prop:=q.F G v w/\(∀t,q= .e t->aU.getD t undef=v)/\∀f,q= .d f->f aU=v
theorem yh {b:List Iu} {l:List Nat} {G:List Nat} {aU:List Value} {vs:Nat->Value}:∀{deps:List Nat} {k:List (Nat×Value)->Prop},vA b l G aU w deps k->
  (∀j∈deps,W3 (b.getD j gJ) G aU (vs j) w)->k (wm l vs deps)
 |[],k,h,_=>h
 |j::r,k,h,hd=>by
  obtain⟨c,m,o⟩:=hd j<|List.mem_cons_self ..;unfold vA at h;have g:∀i∈r,_:=λi n=>hd i<|mK _ n;cases e:b.getD j gJ with
  |v V=>rw[e] at h c;have a:vs j=V:=c;subst a;exact yh (deps:=r) h g
  |p f=>rw[e] at h c;exact yh (deps:=r) (h _ c) g
  |e t=>rw[e] at h;have a:=m t e;simp only[a] at h;exact yh (deps:=r) h g
  |w t V=>rw[e] at h c;have a:vs j=V:=c;subst a;exact yh (deps:=r) h g
  |d f=>rw[e] at h;have a:=o f e;simp only[a] at h;exact yh (deps:=r) h g
  |u=>rw[e] at h;exact yh (deps:=r) (h _) g
section
variable (P:Program) (n:Nat) (ops:Array Oper) (W ds:List Nat) (its:List Iu) (Js:List (List Nat->List Value->World->Prop)) (JF:(Nat->Bool)->List Nat->List Value->World->Prop) (e0:Env) (G0:List Nat) (w0:World)
def Ml (i:Nat) (o:Oper) (b:List Nat):Prop:=
 ∀(x:Env) (w:World) (G:List Nat) (aU:List Value),Fr G0 w0 G w->fL G w->vA its ds G aU w b λa=>
  OW P n ops (λc w'=>aj [] w w'/\(its.getD i gJ).F G (c<|ds.getD i 0) w'/\eR [ds.getD i 0] (ba (aZ W x e0) a) c) [o] (ba (aZ W x e0) a) w
def Ja (t i:Nat) (o:Oper) (b:List Nat):Prop:=
 ∀(x:Env) (w:World) (G:List Nat) (aU:List Value),Fr G0 w0 G w->fL G w->Js.getD t (λ_ _ _=>True) G aU w->aU.length=t->vA its ds G aU w b λa=>
  OW P n ops (λd w'=>(∃c,Fr G w c w'/\fL c w'/\Js.getD (t+1) (λ_ _ _=>True) c (aU++[d (ds.getD i 0)]) w'/\(its.getD i gJ).F c (d<|ds.getD i 0) w')/\eR [ds.getD i 0] (ba (aZ W x e0) a) d) [o] (ba (aZ W x e0) a) w
def Qg (ne:Nat) (f:List Value->Value) (i:Nat) (o:Oper) (b:List Nat):Prop:=
 ∀(x:Env) (w:World) (G:List Nat) (aU:List Value) (S:Nat->Bool),Fr G0 w0 G w->fL G w->JF S G aU w->aU.length=ne->vA its ds G aU w b λa=>
  OW P n ops (λc w'=>aj [] w w'/\c (ds.getD i 0)=f aU/\eR [ds.getD i 0] (ba (aZ W x e0) a) c) [o] (ba (aZ W x e0) a) w
def Qh (ne i:Nat) (o:Oper) (b:List Nat):Prop:=
 ∀(x:Env) (w:World) (G:List Nat) (aU:List Value) (S:Nat->Bool),Fr G0 w0 G w->fL G w->JF S G aU w->S i=false->aU.length=ne->vA its ds G aU w b λa=>
  OW P n ops (λd w'=>(∃c,Fr G w c w'/\fL c w'/\JF (λj=>if j=i then true else S j) c aU w')/\eR [ds.getD i 0] (ba (aZ W x e0) a) d) [o] (ba (aZ W x e0) a) w
def uc (ne i:Nat) (o:Oper) (a:List Nat):Prop:=match its.getD i gJ with
 | .e t=>Ja P n ops W ds its Js e0 G0 w0 t i o a
 | .w t _=>Ja P n ops W ds its Js e0 G0 w0 t i o a
 | .d f=>Qg P n ops W ds its JF e0 G0 w0 ne f i o a
 | .u=>Qh P n ops W ds its JF e0 G0 w0 ne i o a
 |_=>Ml P n ops W ds its e0 G0 w0 i o a
def sZ (ne:Nat):Nat->List Oper->List (List Nat)->Prop
 |_,[],_=>True
 |_,_::_,[]=>True
 |k,o::l,d::r=>uc P n ops W ds its Js JF e0 G0 w0 ne k o d/\sZ ne (k+1) l r
end
section
variable {P:Program} {n:Nat} {ops:Array Oper} {W ds:List Nat} {its:List Iu} {Js:List (List Nat->List Value->World->Prop)} {JF:(Nat->Bool)->List Nat->List Value->World->Prop} {e0:Env} {G0:List Nat} {w0:World} {ne:Nat}
theorem uf {k:Nat} {o:Oper} (h:Ml P n ops W ds its e0 G0 w0 k o d) (a:sZ P n ops W ds its Js JF e0 G0 w0 ne (k+1) l r) (hk:(its.getD k gJ).lE=none/\(its.getD k gJ).late=false:=by exact⟨rfl,rfl⟩):sZ P n ops W ds its Js JF e0 G0 w0 ne k (o::l) (d::r):=by grind [Ml,sZ,Ie.lE,Iu.lE,Iu.late,uc]
theorem ue (t:Nat) {k:Nat} {o:Oper} (h:Ja P n ops W ds its Js e0 G0 w0 t k o d) (a:sZ P n ops W ds its Js JF e0 G0 w0 ne (k+1) l r) (hk:(its.getD k gJ).lE=some t:=by rfl):sZ P n ops W ds its Js JF e0 G0 w0 ne k (o::l) (d::r):=by grind [Ja,sZ,Ie.lE,Iu.lE,uc]
theorem ud {k:Nat} {o:Oper} {f:List Value->Value} (h:Qg P n ops W ds its JF e0 G0 w0 ne f k o d) (a:sZ P n ops W ds its Js JF e0 G0 w0 ne (k+1) l r) (hk:its.getD k gJ= .d f:=by rfl):sZ P n ops W ds its Js JF e0 G0 w0 ne k (o::l) (d::r):=by grind [Qg,sZ,uc]
theorem uu {k:Nat} {o:Oper} (h:Qh P n ops W ds its JF e0 G0 w0 ne k o d) (a:sZ P n ops W ds its Js JF e0 G0 w0 ne (k+1) l r) (hk:its.getD k gJ= .u:=by rfl):sZ P n ops W ds its Js JF e0 G0 w0 ne k (o::l) (d::r):=by grind [Qh,sZ,uc]
theorem W4:∀(l:List Oper) (a:List (List Nat)) (k:Nat),sZ P n ops W ds its Js JF e0 G0 w0 ne k l a->∀(i:Nat) (o:Oper) (d:List Nat),l[i]?=some o->a[i]?=some d->uc P n ops W ds its Js JF e0 G0 w0 ne (k+i) o d
 |[],_,_,_,i,o,d,h,_=>by simp at h
 |_::_,[],_,_,i,o,d,_,h=>by simp at h
 |o::l,d::r,k,h,0,o',d',ho,hd=>by simp at ho hd;subst ho;subst hd;exact h.1
 |o::l,d::r,k,h,i+1,o',d',ho,hd=>by have:=W4 l r (k+1) h.2 i o' d' (by simpa using ho) (by simpa using hd);rwa [show k+1+i=k+(i+1) by omega] at this
end
def uB (l:List Oper) (m:Nat) (a:List Nat) (b:List Iu):Bool:=
 (List.range a.length).all (λt=>decide (a.getD t 0<m)&&((b.getD (a.getD t 0) gJ).lE==some t)&&(decide (t=0)||(match l[a.getD t 0]? with|some o=>waits o (a.getD (t-1) 0)|none=>false)))&&
 (List.range m).all (λi=>(match(b.getD i gJ).lE with|some t=>decide (t<a.length)&&decide (a.getD t 0=i)|none=>true)&&
  (!(b.getD i gJ).late||decide (a.length=0)||(match l[i]? with|some o=>waits o (a.getD (a.length-1) 0)|none=>false)))&&
 decide (b.length<=m)
theorem ajC {d:List Nat} {e:List Iu} (h:uB l m d e=true):
  (∀t,t<d.length->d.getD t 0<m/\(e.getD (d.getD t 0) gJ).lE=some t/\(t≠0->∃o,l[d.getD t 0]?=some o/\waits o (d.getD (t-1) 0)=true))/\
  (∀i t,i<m->(e.getD i gJ).lE=some t->t<d.length/\d.getD t 0=i)/\
  (∀i,i<m->(e.getD i gJ).late=true->d.length≠0->∃o,l[i]?=some o/\waits o (d.getD (d.length-1) 0)=true)/\e.length<=m:=by
 unfold uB at h;rw[aE,aE,List.all_eq_true,List.all_eq_true,dE] at h;obtain⟨⟨p,j⟩,q⟩:=h;refine⟨λt u=>?_,λi t g r=>?_,λi g f s=>?_,q⟩
 .have:=p t<|List.mem_range.2 u;simp only[aE,dE,beq_iff_eq,oE] at this;obtain⟨⟨a,b⟩,c⟩:=this;refine⟨a,b,λn=>?_⟩;rcases c with c|c
  .exact absurd c n
  .cases f:l[d.getD t 0]? with
   |none=>rw[f] at c;cases c
   |some o=>rw[f] at c;exact⟨o,rfl,c⟩
 .have:=j i<|List.mem_range.2 g;rw[r] at this;simp only[aE,dE] at this;exact this.1
 .have:=j i<|List.mem_range.2 g;rw[aE,f] at this;have:=this.2;simp only[Bool.not_true,Bool.false_or,oE,dE] at this;rcases this with c|c
  .exact absurd c s
  .cases f:l[i]? with
   |none=>rw[f] at c;cases c
   |some o=>rw[f] at c;exact⟨o,rfl,c⟩
def Jb:List Iu->Prop
 |[]=>True
 | .p f::r=>(∀G v w a w',f G v w->Fr G w a w'->f a v w')/\Jb r
 |_::r=>Jb r
theorem Ey:∀{its:List Iu},Jb its->∀q∈its,∀G v w b w',q.F G v w->Fr G w b w'->q.F b v w'
 |s::r,h,q,hq,G,v,w,b,w',hf,hk=>by
  rcases mC.1 hq with e|a
  .subst e;cases q with
   |p f=>exact h.1 _ _ _ _ _ hf hk
   |_=>exact hf
  .cases s with
   |p f=>exact Ey (its:=r) h.2 q a _ _ _ _ _ hf hk
   |v V=>exact Ey (its:=r) h q a _ _ _ _ _ hf hk
   |e t=>exact Ey (its:=r) h q a _ _ _ _ _ hf hk
   |w t V=>exact Ey (its:=r) h q a _ _ _ _ _ hf hk
   |d f=>exact Ey (its:=r) h q a _ _ _ _ _ hf hk
   |u=>exact Ey (its:=r) h q a _ _ _ _ _ hf hk
theorem W5 {a:List Iu} (h:Jb a) (i:Nat) {G:List Nat} {c:List Nat} (b:(a.getD i gJ).F G v w) (hk:Fr G w c w'):(a.getD i gJ).F c v w':=by
 rw[gG] at b⊢;cases e:a[i]? with
 |none=>trivial
 |some q=>rw[e] at b;exact Ey h q (List.mem_of_getElem? e) _ _ _ _ _ b hk
section
variable {P:Program} {n:Nat} {l:List Oper} {m:Nat} {W ds:List Nat} {deps:List (List Nat)}
theorem W6 {N R:Env->World->Prop} {X:Nat->Env->World->Prop} {id:Nat} {Y:Env} {K:World} (hm:P.follows .mixedOrders=true) (G0:List Nat) (m:Nat) (W s:List Nat) (B:List (List Nat)) (c:List Iu) (b:List Nat) (Js:List (List Nat->List Value->World->Prop)) (JF:(Nat->Bool)->List Nat->List Value->World->Prop) 
  (hB:wq l m W s B=true) (hE:uB l m b c=true) (hL:fL G0 K) (hF:Jb c) (hJ:Mj Js) (W7:∀S G vs w w',JF S G vs w->aj [] w w'->JF S G vs w') (h0:Js.getD 0 (λ_ _ _=>True) G0 [] K)
  (Mm:∀G vs w,Js.getD b.length (λ_ _ _=>True) G vs w->vs.length=b.length->JF (λ_=>false) G vs w)
  (hc:sZ P n l.toArray W s c Js JF Y G0 K b.length 0 (l.take m) B)
  (ht:∀(x:Env) (w:World) (G:List Nat) (aU:List Value),Fr G0 K G w->fL G w->JF (λi=>(c.getD i gJ).tV) G aU w->aU.length=b.length->vA c s G aU w (List.range m) λacc=>OW P n l.toArray N (l.drop m) (ba (aZ W x Y) acc) w):
  CW P n (.region id l.toArray true) N R X Y K:=λa ha=>by
 refine wp_region_any hm ?_;have gZ:aj [] K {K with drawn:=K.drawn+1}:=aj.drew _ _;obtain⟨_,_,_,jT,nh⟩:=Gm hB;obtain⟨oL,lO,GN,_⟩:=ajC hE;have dH:∀i j,i<m->j<m->i≠j->s.getD j 0≠s.getD i 0:=λi j hi q ni=>by rw[gG,gG,gE om,gE om];simp only[Option.getD_some];intro he;exact ni ((List.getElem_inj jT).1 he.symm)
 let I:Nat->Env->List Value:=λk e=>(b.take k).map λi=>e<|s.getD i 0;let U:(Nat->Bool)->Nat->Bool:=λS i=>S i&&(c.getD i gJ).tV;let Inv:(Nat->Bool)->Env->World->Prop:=λS e w=>∃G k,eR W Y e/\Fr G0 K G w/\fL G w/\k<=b.length/\(∀t,t<b.length->(S (b.getD t 0)=true↔t<k))/\
  (k<b.length->Js.getD k (λ_ _ _=>True) G (I k e) w/\∀i,i<m->S i=true->(c.getD i gJ).late=false)/\(k=b.length->JF (U S) G (I k e) w)/\
  ∀i,i<m->S i=true->(c.getD i gJ).F G (e<|s.getD i 0) w/\∀f,c.getD i gJ= .d f->f (I k e)=e (s.getD i 0)
 have I6:∀(S:Nat->Bool) (e:Env) (k:Nat),(∀t,t<b.length->(S (b.getD t 0)=true↔t<k))->k<=b.length->∀j t,j<m->S j=true->(c.getD j gJ).lE=some t->(I k e).getD t undef=e (s.getD j 0):=by intro S e k O hk j t q H he;obtain⟨y,C⟩:=lO j t q he;have T:t<k:=(O t y).1 (by rw[C];exact H);show((b.take k).map λi=>e<|s.getD i 0).getD t undef=_;rw[gG,List.getElem?_map,List.getElem?_take,iP T,gE y];rw[gG,gE y] at C;simp only[Option.getD_some] at C;simp[C]
 have Jc:∀k e,k<=b.length->(I k e).length=k:=λk e hk=>by show((b.take k).map _).length=k;simp;omega
 have step:∀(S:Nat->Bool) (e:Env) (w:World) (i:Nat) (o:Oper),i<m->l[i]?=some o->S i=false->(∀j,waits o j=true->S j=true)->Inv S e w->
   OW P n l.toArray (λg w'=>Inv (λj=>if j=i then true else S j) g w') [o] e w:=by
  rintro S e w i o sN ho wT CD ⟨G,k,rV,bL,ry,fT,O,yg,GO,qz⟩;obtain⟨hW,B0⟩:=(nh i o ho).2.1 sN;obtain⟨dp,B1⟩:∃d,B[i]?=some d:=⟨B[i]'om,gE om⟩;have D6:B.getD i []=dp:=by rw[gG,B1];rfl
  rw[D6] at B0;have A:=W4 (l.take m) B 0 hc i o dp (by rw[List.getElem?_take,iP sN];exact ho) B1;rw[Nat.zero_add] at A;have hd:∀j∈dp,W3 (c.getD j gJ) G (I k e) (e (s.getD j 0)) w:=λj q=>by obtain⟨y,C⟩:=B0 j q;have T:=qz j C<|CD j y;exact⟨T.1,λt het=>I6 S e k O fT j t C (CD j y) (by rw[het];rfl),T.2⟩
  have I7:∀g,eR [s.getD i 0] e g->eR W Y g:=λg h t Ev=>by
   have GL:t≠s.getD i 0:=λhe=>by rw[he,hW] at Ev;cases Ev
   rw[h t (by simpa using GL)];exact rV t Ev
  have CE:∀g,eR [s.getD i 0] e g->∀j,j<m->j≠i->g (s.getD j 0)=e (s.getD j 0):=λg h j q z=>h _ (by simpa using dH i j sN q λh=>z h.symm);have gd:[o]=[o]++[]:=rfl;have W8:∀g,eR [s.getD i 0] e g->∀k',k'<=b.length->(∀t,t<k'->b.getD t 0≠i)->I k' g=I k' e:=λg F k' rh oN=>by
   show(b.take k').map _=(b.take k').map _;apply List.map_congr_left;intro j q;obtain⟨t,nB⟩:=List.mem_iff_getElem?.1 q;rw[List.getElem?_take] at nB;split at nB
   .rename_i eI;have E:t<b.length:=(List.getElem?_eq_some_iff.1 nB).1;have xP:b.getD t 0=j:=by rw[gG,nB];rfl
    exact CE g F j (by have:=(oL t E).1;rw[xP] at this;exact this) λh=>oN t eI<|xP.trans h
   .cases nB
  -- what is late comes behind the last effect
  have W9:(c.getD i gJ).late=true->k=b.length:=λhl=>by
   rcases Nat.eq_zero_or_pos b.length with h0|h0
   .omega
   .obtain⟨o',oC,I8⟩:=GN i sN hl om;rw[ho] at oC;cases oC;have:=(O (b.length-1) om).1<|CD _ I8;omega
  -- an operation that is no effect in the order
  have main:∀(g:Env) (w':World) (M:List Nat),(c.getD i gJ).lE=none->eR [s.getD i 0] e g->Fr G w M w'->fL M w'->
    (k<b.length->Js.getD k (λ_ _ _=>True) M (I k e) w'/\(c.getD i gJ).late=false)->(k=b.length->JF (U λj=>if j=i then true else S j) M (I k e) w')->
    (c.getD i gJ).F M (g<|s.getD i 0) w'->(∀f,c.getD i gJ= .d f->f (I k e)=g (s.getD i 0))->Inv (λj=>if j=i then true else S j) g w':=by
   intro g w' M vw F zq Ew CH tW AJ hDi;have oN:∀t,t<b.length->b.getD t 0≠i:=λt E h=>by have:=(oL t E).2.1;rw[h,vw] at this;cases this
   have Ez:=W8 g F k fT λt ht=>oN t om;refine⟨M,k,I7 g F,bL.go zq,Ew,fT,λt E=>?_,λeI=>⟨?_,λj q H=>?_⟩,λD=>?_,λj q H=>?_⟩
   .simp only[iN (oN t E)];exact O t E
   .rw[Ez];exact(CH eI).1
   .by_cases z:j=i
    .rw[z];exact(CH eI).2
    .simp only[iN z] at H;exact(yg eI).2 j q H
   .rw[Ez];exact tW D
   .rw[Ez];by_cases z:j=i
    .rw[z];exact⟨AJ,hDi⟩
    .simp only[iN z] at H;rw[CE g F j q z];exact⟨W5 hF j (qz j q H).1 zq,(qz j q H).2⟩
  have Xa:(c.getD i gJ).tV=false->U (λj=>if j=i then true else S j)=U S:=λh=>by
   funext j;show((if j=i then true else S j)&&(c.getD j gJ).tV)=(S j&&(c.getD j gJ).tV);by_cases z:j=i
   .rw[z,h];simp
   .rw[iN z]
  -- the cases
  have J:Ml P n l.toArray W s c Y G0 K i o dp->(c.getD i gJ).lE=none->(c.getD i gJ).late=false->(∀f,c.getD i gJ≠ .d f)->(c.getD i gJ).tV=false->OW P n l.toArray (λg w'=>Inv (λj=>if j=i then true else S j) g w') [o] e w:=by intro A vw Jd Qi Xb;have y:=yh (A e w G _ bL ry) (vs:=λj=>e<|s.getD j 0) hd;rw[CC rV] at y;rw[gd];refine yR y ?_;rintro g w' ⟨rh,AJ,F⟩;exact aV (main g w' G vw F (Fr.of rh sm) (λx hx=>lL (ry x hx) rh.size) (λeI=>⟨I5 hJ k (yg eI).1 rh,Jd⟩) (λD=>by rw[Xa Xb];exact W7 _ _ _ _ _ (GO D) rh) AJ λf Q=>absurd Q<|Qi f)
  have effC:∀t,(c.getD i gJ).lE=some t->Ja P n l.toArray W s c Js Y G0 K t i o dp->(c.getD i gJ).late=false->(∀f,c.getD i gJ≠ .d f)->(c.getD i gJ).tV=false->OW P n l.toArray (λg w'=>Inv (λj=>if j=i then true else S j) g w') [o] e w:=by
   intro t vw A Jd Qi Xb;obtain⟨E,vz⟩:=lO i t sN vw;have sj:k=t:=by
    have y:¬t<k:=λh=>by have:=(O t E).2 h;rw[vz,wT] at this;cases this
    rcases Nat.eq_zero_or_pos t with h0|h0
    .omega
    .obtain⟨o',oC,I8⟩:=(oL t E).2.2 om;rw[vz,ho] at oC;cases oC;have:=(O (t-1) om).1<|CD _ I8;omega
   subst sj;have y:=yh (A e w G _ bL ry (yg E).1<|Jc k e fT) (vs:=λj=>e<|s.getD j 0) hd;rw[CC rV] at y;rw[gd];refine yR y ?_;rintro g w' ⟨⟨M,zq,Ew,GM,AJ⟩,F⟩;have I9:∀L,L<b.length->b.getD L 0=i->L=k:=λL y C=>by have:=(oL L y).2.1;rw[C,vw] at this;cases this;rfl
   have Ez:I k g=I k e:=W8 g F k fT (λL _ h=>by have:=I9 L om h;omega);have fl:I (k+1) g=I k e++[g (s.getD i 0)]:=by
    have C:b[k]?=some i:=by rw[gG,gE E] at vz;rw[gE E];simpa using vz
    rw[<-Ez];show(b.take<|k+1).map _=(b.take k).map _++_;rw[List.take_add_one,C,List.map_append];rfl
   have Xc:∀j,j<m->(if j=i then true else S j)=true->(c.getD j gJ).late=false:=λj q H=>by
    by_cases z:j=i
    .rw[z];exact Jd
    .rw[iN z] at H;exact(yg E).2 j q H
   refine aV ⟨M,k+1,I7 g F,bL.go zq,Ew,om,λL CF=>?_,λ_=>⟨by rw[fl];exact GM,Xc⟩,λD=>?_,λj q H=>?_⟩
   .by_cases C:b.getD L 0=i
    .have:=I9 L CF C;simp only[iP C];exact⟨λ_=>om,λ_=>trivial⟩
    .simp only[iN C];rw[O L CF];have:L≠k:=λh=>by rw[h] at C;exact C vz
     omega
   .have Z:U (λj=>if j=i then true else S j)=λ_=>false:=by
     funext j;show((if j=i then true else S j)&&(c.getD j gJ).tV)=false;by_cases D7:j<m
     .cases hb:(if j=i then true else S j) with
      |false=>rfl
      |true=>
       have T:=Xc j D7 hb;cases e:c.getD j gJ with
       |u=>rw[e] at T;cases T
       |_=>rfl
     .rw[gG,List.getElem?_eq_none om];simp[Iu.tV]
    rw[Z];exact Mm _ _ _ (by rw[fl,<-D];exact GM) (by rw[Jc _ _ om];omega)
   .by_cases z:j=i
    .rw[z];exact⟨AJ,λf Q=>absurd Q<|Qi f⟩
    .simp only[iN z] at H;rw[CE g F j q z];refine⟨W5 hF j (qz j q H).1 zq,λf Q=>?_⟩;have:=(yg E).2 j q H;rw[Q] at this;cases this
  cases r:c.getD i gJ with
  |v V=>unfold uc at A;rw[r] at A;exact J A (by rw[r];rfl) (by rw[r];rfl) (λf h=>by rw[r] at h;cases h) (by rw[r];rfl)
  |p f=>unfold uc at A;rw[r] at A;exact J A (by rw[r];rfl) (by rw[r];rfl) (λf h=>by rw[r] at h;cases h) (by rw[r];rfl)
  |e t=>unfold uc at A;rw[r] at A;exact effC t (by rw[r];rfl) A (by rw[r];rfl) (λf h=>by rw[r] at h;cases h) (by rw[r];rfl)
  |w t V=>unfold uc at A;rw[r] at A;exact effC t (by rw[r];rfl) A (by rw[r];rfl) (λf h=>by rw[r] at h;cases h) (by rw[r];rfl)
  |d f=>unfold uc at A;rw[r] at A;have D:=W9 (by rw[r];rfl);have y:=yh (A e w G _ _ bL ry (GO D) (by rw[Jc k e fT];exact D)) (vs:=λj=>e<|s.getD j 0) hd;rw[CC rV] at y;rw[gd];refine yR y ?_;rintro g w' ⟨rh,EA,F⟩;exact aV (main g w' G (by rw[r];rfl) F (Fr.of rh sm) (λx hx=>lL (ry x hx) rh.size) (λeI=>om) (λD=>by rw[Xa (by rw[r];rfl)];exact W7 _ _ _ _ _ (GO D) rh) (by rw[r];trivial) λf' Q=>by rw[r] at Q;cases Q;exact EA.symm)
  |u=>
   unfold uc at A;rw[r] at A;have D:=W9 (by rw[r];rfl);have y:=yh (A e w G _ _ bL ry (GO D) (by show(S i&&_)=false;rw[wT];rfl) (by rw[Jc k e fT];exact D)) (vs:=λj=>e<|s.getD j 0) hd;rw[CC rV] at y;rw[gd];refine yR y ?_;rintro g w' ⟨⟨M,zq,Ew,GM⟩,F⟩;refine aV (main g w' M (by rw[r];rfl) F zq Ew (λeI=>om) (λD=>?_) (by rw[r];trivial) λf' Q=>by rw[r] at Q;cases Q);have Z:U (λj=>if j=i then true else S j)=λj=>if j=i then true else U S j:=by
    funext j;show((if j=i then true else S j)&&(c.getD j gJ).tV)=if j=i then true else(S j&&(c.getD j gJ).tV)
    by_cases z:j=i
    .rw[iP z,iP z,z,r];rfl
    .rw[iN z,iN z]
   rw[Z];exact GM
 have tail:∀(S:Nat->Bool) (e:Env) (w:World),(∀i,i<m->S i=true)->Inv S e w->OW P n l.toArray N (l.drop m) e w:=by
  rintro S e w CG ⟨G,k,rV,bL,ry,fT,O,yg,GO,qz⟩;have hk:k=b.length:=by
   rcases Nat.lt_or_ge k b.length with h|h
   .have:=(O k h).1<|CG _ (oL k h).1;omega
   .omega
  subst hk;have Z:U S=λi=>(c.getD i gJ).tV:=by
   funext j;show(S j&&(c.getD j gJ).tV)=_;by_cases D7:j<m
   .rw[CG j D7];rfl
   .rw[gG,List.getElem?_eq_none om];simp[Iu.tV]
  have q:=GO rfl;rw[Z] at q;have y:=yh (ht e w G _ bL ry q (Jc _ e<|lR _)) (vs:=λj=>e<|s.getD j 0) (λj q=>by have ri:=List.mem_range.1 q;have T:=qz j ri<|CG j ri;exact⟨T.1,λt het=>I6 S e _ O fT j t ri (CG j ri) (by rw[het];rfl),T.2⟩);rw[CC rV] at y;exact y
 have js:∀j,(Array.replicate l.length false).getD j false=false:=λj=>by rw[Array.getD_eq_getD_getElem?,Array.getElem?_replicate];split<;>rfl
 have Qf:Inv (λj=>(Array.replicate l.length false).getD j false) Y {K with drawn:=K.drawn+1}:=by
  have D5:=I5 hJ 0 h0 gZ;refine⟨G0,0,An,Fr.of gZ sm,λx hx=>hL x hx,Nat.zero_le _,λt E=>?_,λ_=>⟨D5,λi hi wT=>?_⟩,λD=>?_,λi hi wT=>?_⟩
  .constructor
   .intro h;exact absurd ((js (b.getD t 0)).symm.trans h) sm
   .intro h;omega
  .exact absurd ((js i).symm.trans wT) sm
  .have Z:U (λj=>(Array.replicate l.length false).getD j false)=λ_=>false:=by
    funext j;show((Array.replicate l.length false).getD j false&&_)=false;rw[js];rfl
   rw[Z];exact Mm _ _ _ (by rw[<-D];exact D5) (by show((b.take 0).map _).length=_;simpa using D)
  .exact absurd ((js i).symm.trans wT) sm
 have:=WX (N:=N) (Inv:=Inv) hB step tail (mB n N R X) l.length (Array.replicate l.length false) Y a _ ha sm
  (by
   have:((List.range l.length).filter λj=>!(Array.replicate l.length false).getD j true)=List.range l.length:=by rw[List.filter_eq_self];intro j q;rw[List.mem_range] at q;simp[Array.getD_eq_getD_getElem?,q]
   rw[this];simp)
  (by intro j _ q;simp[Array.getD_eq_getD_getElem?,q])
  Qf
  (by intro j o ho q;have ri:j<l.length:=(List.getElem?_eq_some_iff.1 ho).1;simp[Array.getD_eq_getD_getElem?,ri] at q)
 have Z:qX n N (mB n N R X)=mB n N R X:=by funext x a w;cases x<;>rfl
 rw[Z] at this;simpa using this
end
section
variable {P:Program} {n:Nat} {ops:Array Oper} {e:Env} {w w':World} {G:List Nat}
theorem uv {d:Nat} (h:v=V:=by rfl):OW P n ops (λa w'=>aj [] w w'/\(Iu.v V).F G (a d) w'/\eR [d] e a) [] (bU e (some d) v) w:=
 aV ⟨aj.refl _ _,by subst h;exact nU _ _ _,rb⟩
theorem up {d:Nat} {f:List Nat->Value->World->Prop} (k:aj [] w w') (h:f G v w'):OW P n ops (λa w'=>aj [] w w'/\(Iu.p f).F G (a d) w'/\eR [d] e a) [] (bU e (some d) v) w':=
 aV ⟨k,by show f G (iY e d v d) w';rw[nU];exact h,rb⟩
theorem uE {d:Nat} {aU:List Value} {J:List Nat->List Value->World->Prop} (a:List Nat) (k:Fr G w a w') (c:fL a w') (h:J a (aU++[v]) w'):OW P n ops (λb w'=>(∃a,Fr G w a w'/\fL a w'/\J a (aU++[b d]) w'/\(Iu.e t).F a (b d) w')/\eR [d] e b) [] (bU e (some d) v) w':=
 aV ⟨⟨a,k,c,by show J a (aU++[iY e d v d]) w';rw[nU];exact h,trivial⟩,rb⟩
theorem uW {d:Nat} {aU:List Value} {J:List Nat->List Value->World->Prop} (a:List Nat) (k:Fr G w a w') (c:fL a w') (h:J a (aU++[v]) w') (f:v=V:=by rfl):OW P n ops (λb w'=>(∃a,Fr G w a w'/\fL a w'/\J a (aU++[b d]) w'/\(Iu.w t V).F a (b d) w')/\eR [d] e b) [] (bU e (some d) v) w':=
 aV ⟨⟨a,k,c,by show J a (aU++[iY e d v d]) w';rw[nU];exact h,by subst f;exact nU _ _ _⟩,rb⟩
theorem uD {d:Nat} (k:aj [] w w') (h:v=V:=by rfl):OW P n ops (λa w'=>aj [] w w'/\a d=V/\eR [d] e a) [] (bU e (some d) v) w':=by grind [aV,nU,rb]
theorem uU {d:Nat} {Q:List Nat->World->Prop} (a:List Nat) (k:Fr G w a w') (c:fL a w') (h:Q a w'):OW P n ops (λb w'=>(∃a,Fr G w a w'/\fL a w'/\Q a w')/\eR [d] e b) [] e w':=
 aV ⟨⟨a,k,c,h⟩,An⟩
end
class wU (p:Prop) (q:outParam Prop):Prop where
 imp:p->q
instance (priority:=low) {p:Prop}:wU p p:=⟨id⟩
instance {p:Prop} {i:Decidable p}:wU (@decide p i=true) p:=⟨of_decide_eq_true⟩
instance {p:Prop} {i:Decidable p}:wU (@decide p i=false) (¬p):=⟨of_decide_eq_false⟩
instance {b:Bool}:wU ((!b)=true) (b=false):=⟨λh=>by simpa using h⟩
instance {b:Bool}:wU ((!b)=false) (b=true):=⟨λh=>by simpa using h⟩
theorem jK [t:wU p q] (h:p):q:=t.imp h
section
variable {P:Program} {n:Nat} {N R:Env->World->Prop} {X:Nat->Env->World->Prop} {e:Env} {w:World}
theorem zc {x y:Code} {t:Bool} (a:ev e c= .bool t) [hp:wU (t=true) p] [hq:wU (t=false) q] (b:p->CW P n x N R X e w) (d:q->CW P n y N R X e w):CW P n (.cond c x y) N R X e w:=
 Ua a (λh=>b<|hp.imp h) λh=>d<|hq.imp h
theorem zr {id:Nat} {y:Code} (h:OW P n l.toArray (λe w=>CW P n y N R X e w) l e w):CW P n ((Code.region id l.toArray false).seq y) N R X e w:=ka<|lv h
end
section
variable {P:Program} {n:Nat} {ops:Array Oper} {K:Env->World->Prop} {rest:List Oper} {e:Env} {w:World}
 {dst:Option Nat} {ty:TypeId} {pos:String} {after:Array Edge} {g:Option (Nat×Bool)} {x y:Operand} {T T':TypeId}
theorem zm (k:OW P n ops K rest (bU e dst<|ev e x) w) (b:gate ops e g=true:=by rfl) (a:cJ n dst=true:=by rfl):OW P n ops K (⟨dst,.move x,ty,pos,after,g⟩::rest) e w:=adi b a k
theorem zA (k:OW P n ops K rest (bU e dst<|ev e x) w) (b:gate ops e g=true:=by rfl) (a:cJ n dst=true:=by rfl):OW P n ops K (⟨dst,.assign x,ty,pos,after,g⟩::rest) e w:=adj b a k
theorem zs {op:Op} (k:OW P n ops K rest (bU e dst undef) w) (b:gate ops e g=false:=by rfl) (a:cJ n dst=true:=by rfl):OW P n ops K (⟨dst,op,ty,pos,after,g⟩::rest) e w:=Ox b a k
theorem zp {t:Bool} (a:ev e c= .bool t) (k:OW P n ops K rest (bU e dst<|bif t then ev e x else ev e y) w) (d:gate ops e g=true:=by rfl) (b:cJ n dst=true:=by rfl):OW P n ops K (⟨dst,.pick c x y,ty,pos,after,g⟩::rest) e w:=Ug d b a k
theorem zf {S:Nat} (a:gY P S i=some off) (f:ev e x= .pointer (some ⟨b,o,none⟩)) (k:OW P n ops K rest (bU e dst (.pointer<|some ⟨b,o+off,none⟩)) w) (d:gate ops e g=true:=by rfl) (c:cJ n dst=true:=by rfl):
  OW P n ops K (⟨dst,.fieldAddr S x i,ty,pos,after,g⟩::rest) e w:=Ul a d c f k
theorem zl {a:Addr} (b:qp P T=true) (i:ev e x= .pointer (some a)) (c:w.cell? a=some v) (k:OW P n ops K rest (bU e dst v) w) (f:gate ops e g=true:=by rfl) (d:cJ n dst=true:=by rfl):
  OW P n ops K (⟨dst,.load T x,ty,pos,after,g⟩::rest) e w:=adl b f d i c k
theorem zL (a:uP P T=true) (l:TI P T sz bytes z) (j:ev e x= .pointer (some ⟨b,o,none⟩)) (c:fZ w b o vs) (i:vs.length=sz) (k:OW P n ops K rest (bU e dst<|.agg vs.toArray) w) (f:gate ops e g=true:=by rfl) (d:cJ n dst=true:=by rfl):
  OW P n ops K (⟨dst,.load T x,ty,pos,after,g⟩::rest) e w:=adm a l f d j c i k
theorem zi {T E:TypeId} {len cap i:Nat} {p:IntKind} (c:P.underlying T=some (.slice E)) (a:TI P E sz bytes z) (l:ev e x= .slice (some ⟨b,o,none⟩) len cap) (m:ev e y= .int p (i:Int)) (j:i<len) 
  (k:OW P n ops K rest (bU e dst (.pointer<|some ⟨b,o+i*sz,none⟩)) w) (f:gate ops e g=true:=by rfl) (d:cJ n dst=true:=by rfl):OW P n ops K (⟨dst,.indexAddr T x y,ty,pos,after,g⟩::rest) e w:=Um c a f d l m j k
theorem zx (d:ev e x= .tuple vs.toArray) (c:vs[i]?=some v) (k:OW P n ops K rest (bU e dst v) w) (b:gate ops e g=true:=by rfl) (a:cJ n dst=true:=by rfl):
  OW P n ops K (⟨dst,.extract x i,ty,pos,after,g⟩::rest) e w:=Un b a d c k
end
theorem vfm {W c:List Nat} {a:List Ie} {e:List (List Nat->List Value->World->Prop)} {b:List Nat} {k:Nat} {o:Oper} (f:yf P n ops W c a e e0 b w0 (k+1) l r) (h:Mi P n ops W c a e0 b w0 k o d:=by exact λ_ _ _ _ _ _=>zm fv) (hk:(a.getD k oc).lE=none:=by rfl):yf P n ops W c a e e0 b w0 k (o::l) (d::r):=vf h f hk
theorem vk {W c:List Nat} {a:List It} {f:World} {k:Nat} {o:Oper} (aC:aj [] f w0) (h:∀(x:Env) (w:World),aj [] f w->dq a c w d λb=>OW P n ops (λe w'=>aj [] w w'/\(a.getD k<|.p λ_ _=>True).F (e<|c.getD k 0) w'/\eR [c.getD k 0] (ba (aZ W x e0) b) e) [o] (ba (aZ W x e0) b) w) (g:sU P n ops W c a e0 w0 (k+1) l r):sU P n ops W c a e0 w0 k (o::l) (d::r):=vc (λx w hk=>h x w<|aj.trans aC hk) g
theorem CI {W b:List Nat} {a:List It} {k:Nat} {o:Oper} (c:sU P n ops W b a e0 w0 (k+1) l r) (h:IP P n ops W b a e0 w0 k o d:=by exact λ_ _ _=>zm pv):sU P n ops W b a e0 w0 k (o::l) (d::r):=⟨h,c⟩
theorem vcs {W b:List Nat} {a:List It} {k:Nat} {o:Oper} (c:sU P n ops W b a e0 w0 (k+1) l r) (h:IP P n ops W b a e0 w0 k o d:=by exact λ_ _ _=>Ox rfl rfl pv):sU P n ops W b a e0 w0 k (o::l) (d::r):=⟨h,c⟩
class FO (P:Program) (S i:Nat) (off:outParam Nat):Prop where h:gY P S i=some off
class O1 (P:Program) (T:Nat):Prop where h:qp P T=true
class OA (P:Program) (T:Nat):Prop where h:uP P T=true
class oR (P:Program) (T:Nat) (sz bytes:outParam Nat) (z:outParam Value):Prop where h:TI P T sz bytes z
class UL (P:Program) (T:Nat) (d:outParam TypeDesc):Prop where h:P.underlying T=some d
instance:OA Tryz.prog 103:=⟨fQ⟩
instance:OA Tryz.prog 117:=⟨ah8⟩
instance:OA Tryz.prog 144:=⟨VV⟩
instance:OA Tryz.prog 39:=⟨Ay⟩
instance:OA Tryz.prog 61:=⟨jh⟩
instance:OA Tryz.prog 80:=⟨Ch⟩
instance:UL Tryz.prog 158 (.array 40 61):=⟨IT⟩
instance:UL Tryz.prog 159 (.array 40 4):=⟨Gx⟩
instance:UL Tryz.prog 4 .bool:=⟨aii⟩
instance:FO Tryz.prog 103 0 0:=⟨mG⟩
instance:FO Tryz.prog 103 1 1:=⟨kC⟩
instance:FO Tryz.prog 117 0 0:=⟨aij⟩
instance:FO Tryz.prog 117 1 1:=⟨aik⟩
instance:FO Tryz.prog 142 0 0:=⟨ail⟩
instance:FO Tryz.prog 142 1 1:=⟨aim⟩
instance:FO Tryz.prog 142 2 2:=⟨ain⟩
instance:FO Tryz.prog 142 3 3:=⟨aio⟩
instance:FO Tryz.prog 142 4 4:=⟨aip⟩
instance:FO Tryz.prog 142 5 5:=⟨aiq⟩
instance:FO Tryz.prog 144 0 0:=⟨air⟩
instance:FO Tryz.prog 144 1 1:=⟨VX⟩
instance:FO Tryz.prog 144 10 11:=⟨ais⟩
instance:FO Tryz.prog 144 2 2:=⟨ait⟩
instance:FO Tryz.prog 144 3 3:=⟨LK⟩
instance:FO Tryz.prog 144 4 4:=⟨aiu⟩
instance:FO Tryz.prog 144 5 5:=⟨aiv⟩
instance:FO Tryz.prog 144 6 6:=⟨aiw⟩
instance:FO Tryz.prog 144 7 7:=⟨VY⟩
instance:FO Tryz.prog 144 8 9:=⟨V0⟩
instance:FO Tryz.prog 144 9 10:=⟨aix⟩
instance:FO Tryz.prog 161 0 0:=⟨aiy⟩
instance:FO Tryz.prog 161 1 80:=⟨aiz⟩
instance:FO Tryz.prog 161 2 120:=⟨aiA⟩
instance:FO Tryz.prog 161 3 121:=⟨aiB⟩
instance:FO Tryz.prog 169 0 0:=⟨aiC⟩
instance:FO Tryz.prog 169 1 1:=⟨aiD⟩
instance:FO Tryz.prog 169 2 2:=⟨aiE⟩
instance:FO Tryz.prog 169 3 3:=⟨aiF⟩
instance:FO Tryz.prog 195 0 0:=⟨aiG⟩
instance:FO Tryz.prog 195 1 1:=⟨aiH⟩
instance:FO Tryz.prog 39 0 0:=⟨PB⟩
instance:FO Tryz.prog 39 1 1:=⟨PC⟩
instance:FO Tryz.prog 39 2 2:=⟨Ci⟩
instance:FO Tryz.prog 61 0 0:=⟨PD⟩
instance:FO Tryz.prog 61 1 1:=⟨Az⟩
instance:FO Tryz.prog 80 0 0:=⟨aiI⟩
instance:FO Tryz.prog 80 1 1:=⟨V2⟩
instance:FO Tryz.prog 80 2 2:=⟨V3⟩
instance:FO Tryz.prog 84 0 0:=⟨aiJ⟩
instance:FO Tryz.prog 84 1 1:=⟨V4⟩
instance:oR Tryz.prog 101 1 24 (.slice none 0 0):=⟨Gy⟩
instance:oR Tryz.prog 103 2 40 (.agg #[.string ⟨#[]⟩,.slice none 0 0]):=⟨aP⟩
instance:oR Tryz.prog 110 1 24 (.slice none 0 0):=⟨V5⟩
instance:oR Tryz.prog 117 2 48 (.agg #[.slice none 0 0,.slice none 0 0]):=⟨El⟩
instance:oR Tryz.prog 140 1 24 (.slice none 0 0):=⟨LL⟩
instance:oR Tryz.prog 144 12 216 (.agg #[.string ⟨#[]⟩,.slice none 0 0,.int .i64 0,.slice none 0 0,.slice none 0 0,.slice none 0 0,.slice none 0 0,.string ⟨#[]⟩,.slice none 0 0,.int .i64 0,.string ⟨#[]⟩,.int .i64 0]):=⟨oG⟩
instance:oR Tryz.prog 23 1 24 (.slice none 0 0):=⟨V6⟩
instance:oR Tryz.prog 25 1 24 (.slice none 0 0):=⟨oH⟩
instance:oR Tryz.prog 3 1 8 (.int .i64 0):=⟨pO⟩
instance:oR Tryz.prog 39 3 64 (.agg #[.string ⟨#[]⟩,.slice none 0 0,.slice none 0 0]):=⟨fR⟩
instance:oR Tryz.prog 4 1 1 (.bool false):=⟨vg⟩
instance:oR Tryz.prog 5 1 1 (.int .u8 0):=⟨IV⟩
instance:oR Tryz.prog 50 1 24 (.slice none 0 0):=⟨PE⟩
instance:oR Tryz.prog 59 1 24 (.slice none 0 0):=⟨IW⟩
instance:oR Tryz.prog 61 2 40 (.agg #[.string ⟨#[]⟩,.slice none 0 0]):=⟨bZ⟩
instance:oR Tryz.prog 80 3 64 (.agg #[.string ⟨#[]⟩,.slice none 0 0,.slice none 0 0]):=⟨j3⟩
instance:oR Tryz.prog 9 1 16 (.string ⟨#[]⟩):=⟨bw⟩
instance:oR Tryz.prog 99 2 32 (.agg #[.pointer none,.slice none 0 0]):=⟨PF⟩
instance:UL Tryz.prog 204 (.int .u64):=⟨LM⟩
instance:UL Tryz.prog 3 (.int .i64):=⟨yW⟩
instance:UL Tryz.prog 5 (.int .u8):=⟨AA⟩
instance:O1 Tryz.prog 101:=⟨jD⟩
instance:O1 Tryz.prog 110:=⟨aiK⟩
instance:O1 Tryz.prog 134:=⟨PG⟩
instance:O1 Tryz.prog 140:=⟨aiL⟩
instance:O1 Tryz.prog 22:=⟨aiM⟩
instance:O1 Tryz.prog 23:=⟨aiN⟩
instance:O1 Tryz.prog 25:=⟨vh⟩
instance:O1 Tryz.prog 3:=⟨IX⟩
instance:O1 Tryz.prog 4:=⟨Em⟩
instance:O1 Tryz.prog 5:=⟨aiO⟩
instance:O1 Tryz.prog 50:=⟨aiP⟩
instance:O1 Tryz.prog 59:=⟨wL⟩
instance:O1 Tryz.prog 9:=⟨gH⟩
instance:UL Tryz.prog 101 (.slice 103):=⟨cW⟩
instance:UL Tryz.prog 110 (.slice 3):=⟨xZ⟩
instance:UL Tryz.prog 140 (.slice 144):=⟨Cj⟩
instance:UL Tryz.prog 22 (.slice 5):=⟨En⟩
instance:UL Tryz.prog 23 (.slice 39):=⟨jb⟩
instance:UL Tryz.prog 25 (.slice 9):=⟨bz⟩
instance:UL Tryz.prog 50 (.slice 80):=⟨x5⟩
instance:UL Tryz.prog 59 (.slice 61):=⟨iH⟩
instance:UL Tryz.prog 75 (.slice 4):=⟨LN⟩
instance:UL Tryz.prog 9 .string:=⟨ji⟩
section
variable {P:Program} {n:Nat} {ops:Array Oper} {K:Env->World->Prop} {rest:List Oper} {e:Env} {w:World}
 {dst:Option Nat} {ty:TypeId} {pos:String} {after:Array Edge} {g:Option (Nat×Bool)} {x y:Operand} {T T' E:TypeId}
theorem wN {a:Addr} (k:OW P n ops K rest (bU e dst (.pointer<|some a)) w) (d:ev e x= .pointer (some a):=by rfl) (c:gate ops e g=true:=by rfl) (b:cJ n dst=true:=by rfl):OW P n ops K (⟨dst,.nilCheck x,ty,pos,after,g⟩::rest) e w:=Ij c b d k
theorem wF {S:Nat} [hS:FO P S i off] (k:OW P n ops K rest (bU e dst (.pointer<|some ⟨b,o+off,none⟩)) w) (d:ev e x= .pointer (some ⟨b,o,none⟩):=by rfl) (c:gate ops e g=true:=by rfl) (a:cJ n dst=true:=by rfl):
  OW P n ops K (⟨dst,.fieldAddr S x i,ty,pos,after,g⟩::rest) e w:=Ul hS.h c a d k
theorem wB [hT:O1 P T] (k:OW P n ops K rest (bU e dst v) w) (f:ev e x= .pointer (some ⟨b,o,none⟩):=by rfl) (hb:aK w b vs.toArray U:=by first|with_reducible assumption|exact eC.jd (by with_reducible assumption)|assumption) (a:vs[o]?=some v:=by rfl) (d:gate ops e g=true:=by rfl) (c:cJ n dst=true:=by rfl):
  OW P n ops K (⟨dst,.load T x,ty,pos,after,g⟩::rest) e w:=zl hT.h f (hb.at a) k d c
theorem wM [hT:OA P T] [kX:oR P T sz bytes z] (k:OW P n ops K rest (bU e dst<|.agg vs.toArray) w) (f:ev e x= .pointer (some ⟨b,0,none⟩):=by rfl) (hb:aK w b vs.toArray U:=by first|with_reducible assumption|exact eC.jd (by with_reducible assumption)|assumption) (d:vs.length=sz:=by rfl) (c:gate ops e g=true:=by rfl) (a:cJ n dst=true:=by rfl):
  OW P n ops K (⟨dst,.load T x,ty,pos,after,g⟩::rest) e w:=zL hT.h kX.h f hb.all d k c a
theorem wC [hT:O1 P T] (k:OW P n ops K rest (bU e dst v) w) (f:ev e x= .pointer (some ⟨b,o,none⟩):=by rfl) (hb:fZ w b o vs:=by first|with_reducible assumption|exact gC.cells (by with_reducible assumption)|assumption) (a:vs[0]?=some v:=by rfl) (d:gate ops e g=true:=by rfl) (c:cJ n dst=true:=by rfl):
  OW P n ops K (⟨dst,.load T x,ty,pos,after,g⟩::rest) e w:=zl hT.h f (hb 0 _ a) k d c
theorem wD [hT:O1 P T] (k:OW P n ops K rest (bU e dst v) w) (f:ev e x= .pointer (some ⟨b,o+1,none⟩):=by rfl) (hb:fZ w b o vs:=by first|with_reducible assumption|exact gC.cells (by with_reducible assumption)|assumption) (a:vs[1]?=some v:=by rfl) (d:gate ops e g=true:=by rfl) (c:cJ n dst=true:=by rfl):
  OW P n ops K (⟨dst,.load T x,ty,pos,after,g⟩::rest) e w:=zl hT.h f (hb 1 _ a) k d c
theorem wE [hT:OA P T] [kX:oR P T sz bytes z] (k:OW P n ops K rest (bU e dst<|.agg vs.toArray) w) (f:ev e x= .pointer (some ⟨b,o,none⟩):=by rfl) (hb:fZ w b o vs:=by first|with_reducible assumption|exact gC.cells (by with_reducible assumption)|assumption) (d:vs.length=sz:=by rfl) (c:gate ops e g=true:=by rfl) (a:cJ n dst=true:=by rfl):
  OW P n ops K (⟨dst,.load T x,ty,pos,after,g⟩::rest) e w:=zL hT.h kX.h f hb d k c a
theorem wi {len cap:Nat} {l:IntKind} [hT:UL P T (.slice E)] [hE:oR P E sz bytes z] (k:OW P n ops K rest (bU e dst (.pointer<|some ⟨b,o+i*sz,none⟩)) w) (f:ev e x= .slice (some ⟨b,o,none⟩) len cap:=by rfl) (j:ev e y= .int l (i:Int):=by rfl) (d:i<len:=by omega) 
  (c:gate ops e g=true:=by rfl) (a:cJ n dst=true:=by rfl):OW P n ops K (⟨dst,.indexAddr T x y,ty,pos,after,g⟩::rest) e w:=Um hT.h hE.h c a f j d k
theorem wp {t:Bool} (k:OW P n ops K rest (bU e dst<|bif t then ev e x else ev e y) w) (a:ev e c= .bool t:=by rfl) (d:gate ops e g=true:=by rfl) (b:cJ n dst=true:=by rfl):OW P n ops K (⟨dst,.pick c x y,ty,pos,after,g⟩::rest) e w:=Ug d b a k
theorem wx (k:OW P n ops K rest (bU e dst v) w) (d:ev e x= .tuple vs.toArray:=by rfl) (c:vs[i]?=some v:=by rfl) (b:gate ops e g=true:=by rfl) (a:cJ n dst=true:=by rfl):
  OW P n ops K (⟨dst,.extract x i,ty,pos,after,g⟩::rest) e w:=Un b a d c k
theorem CJ {b:Int} (c:OW P n ops K rest (bU e dst<|.bool (decide<|a=b)) w) (hx:ev e x= .int k a:=by rfl) (hy:ev e y= .int k' b:=by rfl) (hk:k=k':=by rfl) (hg:gate ops e g=true:=by rfl) (hd:cJ n dst=true:=by rfl):OW P n ops K (⟨dst,.binOp .eql T x y T',ty,pos,after,g⟩::rest) e w:=yP (hg:=hg) (hd:=hd) (hx:=hx) (hy:=hy) (hk:=hk) (c:=c)
theorem CK {b:Int} (c:OW P n ops K rest (bU e dst<|.bool (decide<|a≠b)) w) (hx:ev e x= .int k a:=by rfl) (hy:ev e y= .int k' b:=by rfl) (hk:k=k':=by rfl) (hg:gate ops e g=true:=by rfl) (hd:cJ n dst=true:=by rfl):OW P n ops K (⟨dst,.binOp .neq T x y T',ty,pos,after,g⟩::rest) e w:=Il (hg:=hg) (hd:=hd) (hx:=hx) (hy:=hy) (hk:=hk) (c:=c)
theorem CL {b:Int} (c:OW P n ops K rest (bU e dst<|.bool (decide<|a<b)) w) (hx:ev e x= .int k a:=by rfl) (hy:ev e y= .int k' b:=by rfl) (hk:k=k':=by rfl) (hg:gate ops e g=true:=by rfl) (hd:cJ n dst=true:=by rfl):OW P n ops K (⟨dst,.binOp .lss T x y T',ty,pos,after,g⟩::rest) e w:=K9 (hg:=hg) (hd:=hd) (hx:=hx) (hy:=hy) (hk:=hk) (c:=c)
theorem CM {b:Int} (c:OW P n ops K rest (bU e dst<|.bool (decide<|a<=b)) w) (hx:ev e x= .int k a:=by rfl) (hy:ev e y= .int k' b:=by rfl) (hk:k=k':=by rfl) (hg:gate ops e g=true:=by rfl) (hd:cJ n dst=true:=by rfl):OW P n ops K (⟨dst,.binOp .leq T x y T',ty,pos,after,g⟩::rest) e w:=adr (hg:=hg) (hd:=hd) (hx:=hx) (hy:=hy) (hk:=hk) (c:=c)
theorem CN {b:Int} (c:OW P n ops K rest (bU e dst<|.bool (decide<|b<a)) w) (hx:ev e x= .int k a:=by rfl) (hy:ev e y= .int k' b:=by rfl) (hk:k=k':=by rfl) (hg:gate ops e g=true:=by rfl) (hd:cJ n dst=true:=by rfl):OW P n ops K (⟨dst,.binOp .gtr T x y T',ty,pos,after,g⟩::rest) e w:=Ik (hg:=hg) (hd:=hd) (hx:=hx) (hy:=hy) (hk:=hk) (c:=c)
theorem CP {b:Int} (c:OW P n ops K rest (bU e dst<|.bool (decide<|b<=a)) w) (hx:ev e x= .int k a:=by rfl) (hy:ev e y= .int k' b:=by rfl) (hk:k=k':=by rfl) (hg:gate ops e g=true:=by rfl) (hd:cJ n dst=true:=by rfl):OW P n ops K (⟨dst,.binOp .geq T x y T',ty,pos,after,g⟩::rest) e w:=ads (hg:=hg) (hd:=hd) (hx:=hx) (hy:=hy) (hk:=hk) (c:=c)
theorem CQ {a b:List UInt8} (c:OW P n ops K rest (bU e dst<|.bool (decide<|a=b)) w) (hx:ev e x=str a:=by rfl) (hy:ev e y=str b:=by rfl) (hg:gate ops e g=true:=by rfl) (hd:cJ n dst=true:=by rfl):OW P n ops K (⟨dst,.binOp .eql T x y T',ty,pos,after,g⟩::rest) e w:=Gl (hg:=hg) (hd:=hd) (hx:=hx) (hy:=hy) (c:=c)
theorem CR {a b:List UInt8} (c:OW P n ops K rest (bU e dst<|.bool (decide<|a≠b)) w) (hx:ev e x=str a:=by rfl) (hy:ev e y=str b:=by rfl) (hg:gate ops e g=true:=by rfl) (hd:cJ n dst=true:=by rfl):OW P n ops K (⟨dst,.binOp .neq T x y T',ty,pos,after,g⟩::rest) e w:=OB (hg:=hg) (hd:=hd) (hx:=hx) (hy:=hy) (c:=c)
theorem CS {b:Bool} (c:OW P n ops K rest (bU e dst (.bool<|!b)) w) (hx:ev e x= .bool b:=by rfl) (hg:gate ops e g=true:=by rfl) (hd:cJ n dst=true:=by rfl):OW P n ops K (⟨dst,.unOp .not T x,ty,pos,after,g⟩::rest) e w:=kz (hg:=hg) (hd:=hd) (hx:=hx) (c:=c)
theorem CT {a b:Bool} [hT:UL P T .bool] (c:OW P n ops K rest (bU e dst (.bool<|a==b)) w) (hx:ev e x= .bool a:=by rfl) (hy:ev e y= .bool b:=by rfl) (hg:gate ops e g=true:=by rfl) (hd:cJ n dst=true:=by rfl):OW P n ops K (⟨dst,.binOp .eql T x y T',ty,pos,after,g⟩::rest) e w:=adt (hT:=hT.h) (hg:=hg) (hd:=hd) (hx:=hx) (hy:=hy) (c:=c)
theorem CU {a b:Bool} [hT:UL P T .bool] (c:OW P n ops K rest (bU e dst (.bool<|!(a==b))) w) (hx:ev e x= .bool a:=by rfl) (hy:ev e y= .bool b:=by rfl) (hg:gate ops e g=true:=by rfl) (hd:cJ n dst=true:=by rfl):OW P n ops K (⟨dst,.binOp .neq T x y T',ty,pos,after,g⟩::rest) e w:=adu (hT:=hT.h) (hg:=hg) (hd:=hd) (hx:=hx) (hy:=hy) (c:=c)
theorem CV {T E:TypeId} {x:Operand} {a:Option Addr} {cap:Nat} [hT:UL P T (.slice E)] (k:OW P n ops K rest (bU e dst<|.int .i64 m) w) (hx:ev e x= .slice a m cap:=by rfl) (hg:gate ops e g=true:=by rfl) (hd:cJ n dst=true:=by rfl):OW P n ops K (⟨dst,.call {callee:=.builtin .len,args:=#[x],argTypes:=#[T]},ty,pos,after,g⟩::rest) e w:=K8 (hT:=hT.h) (hg:=hg) (hd:=hd) (hx:=hx) (k:=k)
theorem CX {a:List UInt8} [hT:UL P T .string] (k:OW P n ops K rest (bU e dst<|.int .i64 (a.length:Nat)) w) (hx:ev e x=str a:=by rfl) (hg:gate ops e g=true:=by rfl) (hd:cJ n dst=true:=by rfl):OW P n ops K (⟨dst,.call {callee:=.builtin .len,args:=#[x],argTypes:=#[T]},ty,pos,after,g⟩::rest) e w:=ady (hT:=hT.h) (hg:=hg) (hd:=hd) (hx:=hx) (k:=k)
theorem CY {b c:Int} (c':OW P n ops K rest (bU e dst<|.int k c) w) (hx:ev e x= .int k a:=by rfl) (hy:ev e y= .int k' b:=by rfl) (hk:k=k':=by rfl) (hc:k.wrap (a+b)=c:=by exact wrap_i64 _ om om) (hg:gate ops e g=true:=by rfl) (hd:cJ n dst=true:=by rfl):OW P n ops K (⟨dst,.binOp .add T x y T',ty,pos,after,g⟩::rest) e w:=lx (hg:=hg) (hd:=hd) (hx:=hx) (hy:=hy) (hk:=hk) (hc:=hc) (c':=c')
theorem EB {b c:Int} (c':OW P n ops K rest (bU e dst<|.int k c) w) (hx:ev e x= .int k a:=by rfl) (hy:ev e y= .int k' b:=by rfl) (hk:k=k':=by rfl) (hc:k.wrap (a-b)=c:=by exact wrap_i64 _ om om) (hg:gate ops e g=true:=by rfl) (hd:cJ n dst=true:=by rfl):OW P n ops K (⟨dst,.binOp .sub T x y T',ty,pos,after,g⟩::rest) e w:=wk (hg:=hg) (hd:=hd) (hx:=hx) (hy:=hy) (hk:=hk) (hc:=hc) (c':=c')
theorem EC {b c:Int} (c':OW P n ops K rest (bU e dst<|.int k c) w) (hx:ev e x= .int k a:=by rfl) (hy:ev e y= .int k' b:=by rfl) (hk:k=k':=by rfl) (hc:k.wrap (a*b)=c:=by exact wrap_i64 _ om om) (hg:gate ops e g=true:=by rfl) (hd:cJ n dst=true:=by rfl):OW P n ops K (⟨dst,.binOp .mul T x y T',ty,pos,after,g⟩::rest) e w:=Lc (hg:=hg) (hd:=hd) (hx:=hx) (hy:=hy) (hk:=hk) (hc:=hc) (c':=c')
theorem ED {a b:List UInt8} (c:OW P n ops K rest (bU e dst (str<|a++b)) w) (hx:ev e x=str a:=by rfl) (hy:ev e y=str b:=by rfl) (hs:a.length+b.length<=9223372036854775807:=by(simp;omega)) (hg:gate ops e g=true:=by rfl) (hd:cJ n dst=true:=by rfl):OW P n ops K (⟨dst,.binOp .add T x y T',ty,pos,after,g⟩::rest) e w:=Uo (hg:=hg) (hd:=hd) (hx:=hx) (hy:=hy) (hs:=hs) (c:=c)
end
theorem bJ {e f a b:Prop} (k:aj [] w w') (ta:e) (g:f) (y:a->b->p) (c:aj [] w w'->e->a:=by intro k h;exact h.ext k) (d:aj [] w w'->f->b:=by intro k h;exact h.ext k):p:=y (c k ta)<|d k g
theorem cV {g i j a b c:Prop} (k:aj [] w w') (ta:g) (l:i) (m:j) (y:a->b->c->p) (d:aj [] w w'->g->a:=by intro k h;exact h.ext k) (e:aj [] w w'->i->b:=by intro k h;exact h.ext k) (f:aj [] w w'->j->c:=by intro k h;exact h.ext k):p:=y (d k ta) (e k l)<|f k m
theorem gK {j l m n a b c d:Prop} (k:aj [] w w') (ta:j) (o:l) (q:m) (r:n) (y:a->b->c->d->p) (e:aj [] w w'->j->a:=by intro k h;exact h.ext k) (f:aj [] w w'->l->b:=by intro k h;exact h.ext k) (g:aj [] w w'->m->c:=by intro k h;exact h.ext k) (i:aj [] w w'->n->d:=by intro k h;exact h.ext k):p:=y (e k ta) (f k o) (g k q)<|i k r
theorem kq {m n o q r a b c d e:Prop} (k:aj [] w w') (ta:m) (s:n) (t:o) (u:q) (v:r) (y:a->b->c->d->e->p) (f:aj [] w w'->m->a:=by intro k h;exact h.ext k) (g:aj [] w w'->n->b:=by intro k h;exact h.ext k) (i:aj [] w w'->o->c:=by intro k h;exact h.ext k) (j:aj [] w w'->q->d:=by intro k h;exact h.ext k) (l:aj [] w w'->r->e:=by intro k h;exact h.ext k):p:=y (f k ta) (g k s) (i k t) (j k u)<|l k v
theorem vB {o q r s t u a b c d e f:Prop} (k:aj [] w w') (ta:o) (v:q) (z:r) (A:s) (B:t) (C:u) (y:a->b->c->d->e->f->p) (g:aj [] w w'->o->a:=by intro k h;exact h.ext k) (i:aj [] w w'->q->b:=by intro k h;exact h.ext k) (j:aj [] w w'->r->c:=by intro k h;exact h.ext k) (l:aj [] w w'->s->d:=by intro k h;exact h.ext k) (m:aj [] w w'->t->e:=by intro k h;exact h.ext k) (n:aj [] w w'->u->f:=by intro k h;exact h.ext k):p:=y (g k ta) (i k v) (j k z) (l k A) (m k B)<|n k C
theorem GP {r s t u v z A a b c d e f g:Prop} (k:aj [] w w') (ta:r) (B:s) (C:t) (D:u) (E:v) (F:z) (H:A) (y:a->b->c->d->e->f->g->p) (i:aj [] w w'->r->a:=by intro k h;exact h.ext k) (j:aj [] w w'->s->b:=by intro k h;exact h.ext k) (l:aj [] w w'->t->c:=by intro k h;exact h.ext k) (m:aj [] w w'->u->d:=by intro k h;exact h.ext k) (n:aj [] w w'->v->e:=by intro k h;exact h.ext k) (o:aj [] w w'->z->f:=by intro k h;exact h.ext k) (q:aj [] w w'->A->g:=by intro k h;exact h.ext k):p:=y (i k ta) (j k B) (l k C) (m k D) (n k E) (o k F)<|q k H
theorem EE {t u v z A B C D a b c d e f g i:Prop} (k:aj [] w w') (ta:t) (E:u) (F:v) (H:z) (I:A) (J:B) (K:C) (L:D) (y:a->b->c->d->e->f->g->i->p) (j:aj [] w w'->t->a:=by intro k h;exact h.ext k) (l:aj [] w w'->u->b:=by intro k h;exact h.ext k) (m:aj [] w w'->v->c:=by intro k h;exact h.ext k) (n:aj [] w w'->z->d:=by intro k h;exact h.ext k) (o:aj [] w w'->A->e:=by intro k h;exact h.ext k) (q:aj [] w w'->B->f:=by intro k h;exact h.ext k) (r:aj [] w w'->C->g:=by intro k h;exact h.ext k) (s:aj [] w w'->D->i:=by intro k h;exact h.ext k):p:=y (j k ta) (l k E) (m k F) (n k H) (o k I) (q k J) (r k K)<|s k L
theorem ajE {v z A B C D E F H a b c d e f g i j:Prop} (k:aj [] w w') (ta:v) (I:z) (J:A) (K:B) (L:C) (M:D) (N:E) (O:F) (P:H) (y:a->b->c->d->e->f->g->i->j->p) (l:aj [] w w'->v->a:=by intro k h;exact h.ext k) (m:aj [] w w'->z->b:=by intro k h;exact h.ext k) (n:aj [] w w'->A->c:=by intro k h;exact h.ext k) (o:aj [] w w'->B->d:=by intro k h;exact h.ext k) (q:aj [] w w'->C->e:=by intro k h;exact h.ext k) (r:aj [] w w'->D->f:=by intro k h;exact h.ext k) (s:aj [] w w'->E->g:=by intro k h;exact h.ext k) (t:aj [] w w'->F->i:=by intro k h;exact h.ext k) (u:aj [] w w'->H->j:=by intro k h;exact h.ext k):p:=y (l k ta) (m k I) (n k J) (o k K) (q k L) (r k M) (s k N) (t k O)<|u k P
structure Hd (q:Prop):Prop where out:q
theorem W (k:q) (h:Hd q->p:=by intro k;(repeat(first|refine zm ?_|refine zA ?_|refine zr ?_|refine aV ?_|refine zs ?_|refine wF ?_|refine wB ?_|refine wC ?_|refine wD ?_|refine wM ?_|refine wE ?_|refine wN ?_|refine wp ?_|refine wx ?_|refine ka ?_|refine iF ?_|refine lv ?_|refine uO ?_|refine CJ ?_|refine CK ?_|refine CL ?_|refine CM ?_|refine CN ?_|refine CP ?_|refine CQ ?_|refine CR ?_|refine CS ?_|refine CV ?_|refine CX ?_|refine CT ?_|refine CU ?_|refine wi ?_|refine CY ?_|refine EB ?_|refine EC ?_|refine ED ?_|refine kW ?_|refine BT ?_|refine BU rfl ?_|refine Gi rfl ?_));exact k.out):p:=h ⟨k⟩
theorem WL (k:q) (h:Hd q->p:=by intro k;(repeat(first|refine zm ?_|refine zA ?_|refine zr ?_|refine aV ?_|refine zs ?_|refine wF ?_|refine wN ?_|refine wp ?_|refine wx ?_|refine ka ?_|refine iF ?_|refine lv ?_|refine uO ?_|refine CJ ?_|refine CK ?_|refine CL ?_|refine CM ?_|refine CN ?_|refine CP ?_|refine CQ ?_|refine CR ?_|refine CS ?_|refine CV ?_|refine CX ?_|refine CT ?_|refine CU ?_|refine wi ?_|refine CY ?_|refine EB ?_|refine EC ?_|refine ED ?_|refine kW ?_|refine BT ?_|refine BU rfl ?_|refine Gi rfl ?_));exact k.out):p:=h ⟨k⟩
theorem WI (k:q) (h:Hd q->p:=by intro k;(repeat(first|refine zm ?_|refine zA ?_|refine zr ?_|refine aV ?_|refine zs ?_|refine wF ?_|refine wB ?_|refine wC ?_|refine wD ?_|refine wM ?_|refine wE ?_|refine wN ?_|refine wp ?_|refine wx ?_|refine ka ?_|refine iF ?_|refine lv ?_|refine uO ?_|refine CJ ?_|refine CK ?_|refine CL ?_|refine CM ?_|refine CN ?_|refine CP ?_|refine CQ ?_|refine CR ?_|refine CS ?_|refine CV ?_|refine CX ?_|refine CT ?_|refine CU ?_|refine CY ?_|refine EB ?_|refine EC ?_|refine ED ?_|refine kW ?_|refine BT ?_|refine BU rfl ?_|refine Gi rfl ?_));exact k.out):p:=h ⟨k⟩
theorem WA (k:q) (h:Hd q->p:=by intro k;(repeat(first|refine zm ?_|refine zA ?_|refine zr ?_|refine aV ?_|refine zs ?_|refine wF ?_|refine wB ?_|refine wC ?_|refine wD ?_|refine wM ?_|refine wE ?_|refine wN ?_|refine wp ?_|refine wx ?_|refine ka ?_|refine iF ?_|refine lv ?_|refine uO ?_|refine CJ ?_|refine CK ?_|refine CL ?_|refine CM ?_|refine CN ?_|refine CP ?_|refine CQ ?_|refine CR ?_|refine CS ?_|refine CV ?_|refine CX ?_|refine CT ?_|refine CU ?_|refine wi ?_|refine ED ?_|refine kW ?_|refine BT ?_|refine BU rfl ?_|refine Gi rfl ?_));exact k.out):p:=h ⟨k⟩
theorem WS (k:q) (h:Hd q->p:=by intro k;(repeat(first|refine zm ?_|refine zA ?_|refine zr ?_|refine aV ?_|refine zs ?_|refine wF ?_|refine wB ?_|refine wC ?_|refine wD ?_|refine wM ?_|refine wE ?_|refine wN ?_|refine wp ?_|refine wx ?_|refine ka ?_|refine iF ?_|refine lv ?_|refine uO ?_|refine CJ ?_|refine CK ?_|refine CL ?_|refine CM ?_|refine CN ?_|refine CP ?_|refine CQ ?_|refine CR ?_|refine CS ?_|refine CV ?_|refine CX ?_|refine CT ?_|refine CU ?_|refine wi ?_|refine CY ?_|refine EB ?_|refine EC ?_|refine kW ?_|refine BT ?_|refine BU rfl ?_|refine Gi rfl ?_));exact k.out):p:=h ⟨k⟩
theorem WZ (k:q) (h:Hd q->p:=by intro k;(repeat(first|refine zm ?_|refine zA ?_|refine zr ?_|refine zs ?_|refine wF ?_|refine wB ?_|refine wC ?_|refine wD ?_|refine wM ?_|refine wE ?_|refine wN ?_|refine wp ?_|refine wx ?_|refine ka ?_|refine iF ?_|refine lv ?_|refine uO ?_|refine CJ ?_|refine CK ?_|refine CL ?_|refine CM ?_|refine CN ?_|refine CP ?_|refine CQ ?_|refine CR ?_|refine CS ?_|refine CV ?_|refine CX ?_|refine CT ?_|refine CU ?_|refine wi ?_|refine CY ?_|refine EB ?_|refine EC ?_|refine ED ?_|refine kW ?_|refine BT ?_|refine BU rfl ?_|refine Gi rfl ?_));exact k.out):p:=h ⟨k⟩
theorem oM {D:List Nat} {e a:Env} (b:p) (c:q) (h:eR D e a:=by repeat(first|with_reducible exact An|refine Ld rfl ?_|refine OD rfl ?_)):eR D e a/\p/\q:=⟨h,b,c⟩
theorem oQ (h:p:=by refine W ?_;exact oM rfl (by first|rfl|exact aj.refl _ _|assumption)):p:=h
section
variable {P:Program} {n:Nat} {ops:Array Oper} {K:Env->World->Prop} {e:Env} {w:World} {l:List Oper} (m tc tp:Nat) (J:World->Prop) {c r:Bool} {p:Prop}
theorem oO (f:e tc= .bool c) (d:OW P n ops (λa w'=>eR (List.range' tc<|tp+1-tc) e a/\a tp= .bool true/\J w') (l.take m) (iY e tc<|.bool true) w) [t:wU (c=false) p] 
  (b:p->OW P n ops (λa w'=>eR (List.range' tc<|tp+1-tc) e a/\a tp= .bool r/\J w') (l.take m) (iY e tc<|.bool false) w)
  (k:∀x w',J w'->OW P n ops K (l.drop m) (iY (aZ (List.range' tc (tp+1-tc)) x e) tp (.bool (c||r))) w'):OW P n ops K l e w:=
 DZ m tc tp _ J f (λ_=>d) (λh=>b<|t.imp h) k
theorem oA (f:e tc= .bool c) (b:OW P n ops (λa w'=>eR (List.range' tc<|tp+1-tc) e a/\a tp= .bool false/\J w') (l.take m) (iY e tc<|.bool false) w) [t:wU (c=true) p] 
  (d:p->OW P n ops (λa w'=>eR (List.range' tc<|tp+1-tc) e a/\a tp= .bool r/\J w') (l.take m) (iY e tc<|.bool true) w)
  (k:∀x w',J w'->OW P n ops K (l.drop m) (iY (aZ (List.range' tc (tp+1-tc)) x e) tp (.bool (c&&r))) w'):OW P n ops K l e w:=
 OG m tc tp _ J f (λh=>d<|t.imp h) (λ_=>b) k
theorem oP (f:e tc= .bool c) (d:OW P n ops (λa w'=>eR (List.range' tc<|tp+1-tc) e a/\a tp= .bool true/\w=w') (l.take m) (iY e tc<|.bool true) w) [t:wU (c=false) p] 
  (b:p->OW P n ops (λa w'=>eR (List.range' tc<|tp+1-tc) e a/\a tp= .bool r/\w=w') (l.take m) (iY e tc<|.bool false) w)
  (k:∀x,OW P n ops K (l.drop m) (iY (aZ (List.range' tc (tp+1-tc)) x e) tp (.bool (c||r))) w):OW P n ops K l e w:=
 DZ m tc tp _ (w=·) f (λ_=>d) (λh=>b<|t.imp h) λx _ g=>g▸k x
theorem oB (f:e tc= .bool c) (b:OW P n ops (λa w'=>eR (List.range' tc<|tp+1-tc) e a/\a tp= .bool false/\w=w') (l.take m) (iY e tc<|.bool false) w) [t:wU (c=true) p] 
  (d:p->OW P n ops (λa w'=>eR (List.range' tc<|tp+1-tc) e a/\a tp= .bool r/\w=w') (l.take m) (iY e tc<|.bool true) w)
  (k:∀x,OW P n ops K (l.drop m) (iY (aZ (List.range' tc (tp+1-tc)) x e) tp (.bool (c&&r))) w):OW P n ops K l e w:=
 OG m tc tp _ (w=·) f (λh=>d<|t.imp h) (λ_=>b) λx _ g=>g▸k x
end
abbrev it (l:List Value):List It:=l.map It.v
theorem dV {n:Nat} {l:List Oper} {N R:Env->World->Prop} {X:Nat->Env->World->Prop} {id:Nat} {e:Env} {f:World} (p:P.follows .mixedOrders=true) (m:Nat) (c:List Nat) (a:List (List Nat)) (b:List It) 
  (i:wq l m c c a=true) (j:b.all It.IN=true)
  (o:∀g,aj [] f g->sU P n l.toArray c c b e g 0 (l.take m) a)
  (q:∀(x:Env) (w:World),aj [] f w->dq b c w (List.range m) λd=>OW P n l.toArray N (l.drop m) (ba (aZ c x e) d) w):
  CW P n (.region id l.toArray true) N R X e f:=j1 p m c c a b i j o q
section
variable {P:Program} {n:Nat} {ops:Array Oper} {W ds:List Nat} {e0:Env} {wz w0:World} {k:Nat} {o:Oper} {l:List Oper} {d:List Nat} {r:List (List Nat)}
theorem V1 {a:List It} (aC:aj [] wz w0) (b:sU P n ops W ds a e0 w0 (k+1) l r) (h:IP P n ops W ds a e0 w0 k o d:=by intro x w hk;first|exact zm pv|exact zA pv|exact zs pv|exact wF pv|exact wB pv (hb:=aK.ext (by first|with_reducible assumption|assumption)<|aj.trans aC hk)|exact wB pv (hb:=eC.jd (eC.ext (by first|with_reducible assumption|assumption)<|aj.trans aC hk))|exact wM pv (hb:=aK.ext (by first|with_reducible assumption|assumption)<|aj.trans aC hk)|exact wM pv (hb:=eC.jd (eC.ext (by first|with_reducible assumption|assumption)<|aj.trans aC hk))|exact wC pv (hb:=fZ.ext (by first|with_reducible assumption|assumption)<|aj.trans aC hk)|exact wC pv (hb:=gC.cells (gC.ext (by first|with_reducible assumption|assumption)<|aj.trans aC hk))|exact wD pv (hb:=fZ.ext (by first|with_reducible assumption|assumption)<|aj.trans aC hk)|exact wD pv (hb:=gC.cells (gC.ext (by first|with_reducible assumption|assumption)<|aj.trans aC hk))|exact wE pv (hb:=fZ.ext (by first|with_reducible assumption|assumption)<|aj.trans aC hk)|exact wE pv (hb:=gC.cells (gC.ext (by first|with_reducible assumption|assumption)<|aj.trans aC hk))|exact wN pv|(refine wp ?_;exact pv)|exact wx pv|exact CJ pv|exact CK pv|exact CL pv|exact CM pv|exact CN pv|exact CP pv|exact CQ pv|exact CR pv|exact CS pv|exact CV pv|exact CX pv|exact CT pv|exact CU pv|exact wi pv|exact CY pv|exact EB pv|exact EC pv|exact ED pv):sU P n ops W ds a e0 w0 k (o::l) (d::r):=⟨h,b⟩
theorem F1 {a:List Ie} {c:List (List Nat->List Value->World->Prop)} {b:List Nat} (e:yf P n ops W ds a c e0 b w0 (k+1) l r) (h:Mi P n ops W ds a e0 b w0 k o d:=by intro x w G aU bL ry;first|exact zm fv|exact zA fv|exact zs fv|exact wF fv|exact wB fv (hb:=eC.jd<|eC.go (by first|with_reducible assumption|assumption) bL)|exact wM fv (hb:=eC.jd<|eC.go (by first|with_reducible assumption|assumption) bL)|exact wC fv (hb:=gC.cells<|gC.go (by first|with_reducible assumption|assumption) bL)|exact wD fv (hb:=gC.cells<|gC.go (by first|with_reducible assumption|assumption) bL)|exact wE fv (hb:=gC.cells<|gC.go (by first|with_reducible assumption|assumption) bL)|exact wN fv|(refine wp ?_;exact fv)|exact wx fv|exact CJ fv|exact CK fv|exact CL fv|exact CM fv|exact CN fv|exact CP fv|exact CQ fv|exact CR fv|exact CS fv|exact CV fv|exact CX fv|exact CT fv|exact CU fv|exact wi fv|exact CY fv|exact EB fv|exact EC fv|exact ED fv) (hk:(a.getD k oc).lE=none:=by rfl):yf P n ops W ds a c e0 b w0 k (o::l) (d::r):=vf h e hk
end
theorem VA (k:q) (h:Hd q->p:=by intro k;(repeat(refine V1 aC ?_));exact k.out):p:=h ⟨k⟩
theorem VZ (h:p:=by(repeat(refine V1 aC ?_));exact trivial):p:=h
theorem FZ (h:p:=by(repeat(refine F1 ?_));exact trivial):p:=h
theorem FA (k:q) (h:Hd q->p:=by intro k;(repeat(refine F1 ?_));exact k.out):p:=h ⟨k⟩
/-! ### Rows of zero values -/
theorem Xd (z:Array Value):∀n:Nat,(madeCells z (n*z.size)).toList=(List.replicate n z.toList).flatten
 |0=>by simp[madeCells]
 |n+1=>by
  have d:=Xd z n;have e:(madeCells z<|n*z.size).toList=(List.range<|n*z.size).map λi=>z[i%z.size]!:=by simp[madeCells]
  have b:(madeCells z<|(n+1)*z.size).toList=(List.range<|(n+1)*z.size).map λi=>z[i%z.size]!:=by simp[madeCells]
  rw[b,Nat.add_mul,Nat.one_mul,Nat.add_comm,List.range_add,List.map_append,List.replicate_succ,List.flatten_cons,<-d,e]
  congr 1
  .refine List.ext_getElem sm λi c _=>?_;have a:i<z.size:=by simpa using c
   simp[Nat.mod_eq_of_lt a,a]
  .rw[List.map_map];refine List.map_congr_left λi _=>?_;simp
section
variable {P:Program} {n:Nat} {ops:Array Oper} {K:Env->World->Prop} {rest:List Oper} {e:Env} {w:World}
 {dst:Option Nat} {ty:TypeId} {pos:String} {after:Array Edge} {g:Option (Nat×Bool)} {x y:Operand}
/-! ### Elements that are stored -/
def setAt (a:Array Value) (k:Nat):List Value->Array Value
 |[]=>a
 |v::vs=>setAt (a.setIfInBounds k v) (k+1) vs
theorem Je:∀(vs:List Value) (a:Array Value) (k:Nat),(setAt a k vs).size=a.size:=by intro x;induction x<;>grind [setAt]
theorem Mn:∀(vs:List Value) (a:Array Value) (k:Nat),k+vs.length<=a.size->(setAt a k vs).toList=a.toList.take k++(vs++a.toList.drop (k+vs.length))
 |[],a,k,_=>by simp[setAt]
 |v::vs,a,k,h=>by
  unfold setAt;simp only[lC] at h;rw[Mn vs _ _ so,Array.toList_setIfInBounds];have hk:k<a.toList.length:=by simp;omega
  rw[List.take_add_one,List.getElem?_set_self hk,List.take_set_of_le (lR k)];rw[List.drop_set_of_lt om];simp only[Option.toList_some,List.append_assoc,List.cons_append,List.nil_append,lC];rw[show k+1+vs.length=k+(vs.length+1) from by omega]
theorem Qj:∀(vs:List Value) (i:Nat) (w:World) (b o:Nat) (U:TypeId) (a:Array Value),aK w b a U->o+i+vs.length<=a.size->(∀u∈vs,u.oneCell'=true)->
  ∃w',(storeCells ⟨b,o,none⟩ vs i).run P w= .ok () w'/\aj [b] w w'/\aK w' b (setAt a (o+i) vs) U/\w'.heap.size=w.heap.size
 |[],i,w,b,o,U,a,hb,_,_=>⟨w,rfl,aj.refl _ _,hb,rfl⟩
 |v::vs,i,w,b,o,U,a,hb,hs,h1=>by
  simp only[lC] at hs;have j:o+i<a.size:=by omega
  have c:(store ((⟨b,o,none⟩:Addr).add i) v).run P w= .ok () (w.setCell ⟨b,o+i,none⟩ v):=by rw[qq,run_store P w _ v _<|h1 v sm,hb.cell,Array.getElem?_eq_getElem j,hb.frozen];simp
  obtain⟨w',d,hk,g,f⟩:=Qj vs (i+1) (w.setCell ⟨b,o+i,none⟩ v) b o U (a.setIfInBounds (o+i) v) (hb.set (o+i) v) so λu e=>h1 u (by simp[e]);refine⟨w',?_,(aj.setCell w b (o+i) v).trans hk,g,by rw[f];simp[World.setCell]⟩;simp only[storeCells,Sem.run_bind,c,Result.andThen_ok];exact d
theorem Xe {c:Type}:∀{rows:List (List c)} {i:Nat} {row:List c},(∀r∈rows,r.length=sz)->i<rows.length->row.length=sz->(rows.set i row).flatten=rows.flatten.take (i*sz)++(row++rows.flatten.drop (i*sz+sz))
 |r::rows,0,row,h,_,a=>by have b:r.length=sz:=h r sm;simp[<-b]
 |r::rows,i+1,row,h,hi,a=>by
  have b:r.length=sz:=h r sm;have f:=Xe (rows:=rows) (i:=i) (row:=row) (λr a=>h r<|by simp[a]) (by simpa using hi) a;rw[List.set_cons_succ,List.flatten_cons,List.flatten_cons,f];have d:(i+1)*sz=r.length+i*sz:=by rw[b,Nat.add_mul];omega
  have e:(i+1)*sz+sz=r.length+(i*sz+sz):=by omega
  rw[e,d,List.take_length_add_append,List.drop_length_add_append,List.append_assoc]
theorem dG.take {w:World}:∀{k:Nat} {vs:List Value} {a:List C},dG L w vs a->dG L w (vs.take k) (a.take k)
 |0,_,_,_=>by simp[dG]
 |_+1,[],[],_=>trivial
 |_+1,_::_,_::_,h=>⟨h.1,dG.take h.2⟩
theorem dG.drop {w:World}:∀{k:Nat} {vs:List Value} {a:List C},dG L w vs a->dG L w (vs.drop k) (a.drop k)
 |0,_,_,h=>h
 |_+1,[],[],_=>trivial
 |k+1,_::_,_::_,h=>dG.drop (k:=k) h.2
theorem ajF {T:Nat} {v:Value} {a:List Value} {row:List C} {B:Nat} {L:List Nat} {E f:Nat} {N c:Nat} {rows:List (List C)} {b o i:Nat} (Z:TI P T sz bytes z) (R:gate ops e g=true) 
  (s:ev e x= .pointer (some ⟨b,o,none⟩)) (Y:ev e y=v) (X:v.cells=a.toArray) (S:o=i*sz) (m:Gr B L w E sz (.slice (some ⟨b,0,none⟩) N c) (some f) rows) (D:i<rows.length) (Q:a.all Value.oneCell'=true)
  (A:row.length=sz) (F:dG (f::L) w a row)
  (k:∀w',aj [f] w w'->w'.heap.size=w.heap.size->Gr B L w' E sz (.slice (some ⟨b,0,none⟩) N c) (some f) (rows.set i row)->OW P n ops K rest e w'):
  OW P n ops K (⟨none,.store T x y,ty,pos,after,g⟩::rest) e w:=by
 subst S;obtain⟨xs,⟨⟨nW,h|⟨_,cap,p,nG,O,hb,M,mY,j,U⟩⟩,J,H,zt⟩⟩:=m.own
 .obtain⟨h,_⟩:=h;cases h
 .cases O;cases nG;have d:a.length=sz:=by rw[F.length,A]
  have q:(i+1)*sz<=rows.length*sz:=Nat.mul_le_mul_right _ D;have Xf:rows.length*sz<=c*sz:=Nat.mul_le_mul_right _ M;rw[Nat.add_mul,Nat.one_mul] at q;obtain⟨w',ky,hk,I,t⟩:=Qj (P:=P) a 0 w f (i*sz) E p hb (by rw[j,d];omega) λu V=>List.all_eq_true.1 Q u V;rw[Nat.add_zero] at I;refine K5 R (w':=w') (by simp[execOp,Instr.storeAt,Instr.sureAddr,s,Y,storeVar,X,Z.qZ,d,ky])<|k w' hk t ⟨⟨xs.take (i*sz)++(a++xs.drop (i*sz+sz)),⟨⟨?_,.inr ⟨f,c,_,rfl,sm,I,by simpa using M,mY,by rw[Je];exact j,?_⟩⟩,?_,?_,zt⟩⟩,m.low,λx s=>by rw[t];exact m.cU x s,by rw[t];exact m.bsz⟩
  .rw[lA,lA,List.length_take,List.length_drop,List.length_set,nW,d];omega
  .rw[Mn _ _ _ (by rw[j,d];omega),List.length_set,<-U,d,List.take_append,List.take_append];simp only[List.length_take,Array.length_toList,j,d,List.take_take,List.drop_take];rw[Nat.min_eq_right<|show i*sz<=rows.length*sz by omega,Nat.min_eq_left<|show i*sz<=rows.length*sz by omega,Nat.min_eq_left<|show i*sz<=c*sz by omega,List.take_of_length_le (l:=a) om];rw[show rows.length*sz-i*sz-sz=rows.length*sz-(i*sz+sz) from by omega]
  .rw[Xe H D A];refine dG.append (dG.aG J.take<|hk.mono sm)<|dG.append (F.aG<|hk.mono sm) (dG.aG J.drop<|hk.mono sm)
  .intro r tN;rcases List.mem_or_eq_of_mem_set tN with h|h
   .exact H r h
   .rw[h];exact A
/-! ### Slices that are built of several ag -/
theorem Xg (a:Nat):∀(c:List Value) (i:Nat) (b:Array Value),((c.zipIdx i).foldl (fun(b:Array Value) (p:Value×Nat)=>b.setIfInBounds (a+p.2) p.1) b)=setAt b (a+i) c
 |[],_,_=>rfl
 |u::c,i,b=>by rw[List.zipIdx_cons,List.foldl_cons,Xg a c];rfl
theorem Xh:∀(d:List Value) (b:List (List Value)) (k:Nat) (a:Array Value),d.map Value.cells=b.map List.toArray->(∀vs∈b,vs.length=sz)->a.size=(k+d.length)*sz->
  ∃c,Instr.fill (λi=>some (i*sz,sz)) a ((d.zipIdx k).map λp=>(p.2,p.1))=some c/\c.toList=a.toList.take (k*sz)++b.flatten
 |[],[],k,a,_,_,f=>⟨a,rfl,by simp only[List.length_nil,Nat.add_zero] at f;simp only[List.flatten_nil,List.append_nil];rw[List.take_of_length_le (by simp[f])]⟩
 |[],_::_,_,_,h,_,_=>by simp at h
 |_::_,[],_,_,h,_,_=>by simp at h
 |u::d,vs::b,k,a,h,hl,f=>by
  simp only[List.map_cons,List.cons.injEq] at h;have g:vs.length=sz:=hl vs sm;simp only[lC] at f;have e:(k+(d.length+1))*sz=k*sz+sz+d.length*sz:=by rw[Nat.add_mul,Nat.add_mul,Nat.one_mul];omega
  rw[List.zipIdx_cons,List.map_cons];obtain⟨c,o,q⟩:=Xh d b (k+1) (setAt a (k*sz) vs) h.2 (λv s=>hl v<|by simp[s]) (by rw[Je,f];congr 1;omega);refine⟨c,?_,?_⟩
  .unfold Instr.fill;simp only[h.1];rw[iN (by simp[g];omega)];have j:=Xg (k*sz) vs 0 a;simp only[Nat.add_zero] at j;have r:Array.foldl (fun(a:Array Value) (p:Value×Nat)=>a.setIfInBounds (k*sz+p.2) p.1) a vs.toArray.zipIdx=setAt a (k*sz) vs:=by rw[<-j];simp
   rw[r];exact o
  .have n:(k+1)*sz=k*sz+sz:=by rw[Nat.add_mul,Nat.one_mul]
   have m:min (k*sz) a.size=k*sz:=Nat.min_eq_left om;rw[q,Mn _ _ _ (by rw[g];omega),n,List.flatten_cons,List.take_append,List.take_append];simp only[List.length_take,Array.length_toList,m,g,List.take_take];rw[Nat.min_eq_right<|show k*sz<=k*sz+sz by omega,show k*sz+sz-k*sz=sz from by omega,List.take_of_length_le (l:=vs) om,Nat.sub_self,List.take_zero,List.append_nil,List.append_assoc]
theorem ajG {T:TypeId} {us:List Value} {vss:List (List Value)} (e:P.underlying T=some (.slice E)) (b:TI P E sz bytes z) (l:0<sz) (m:0<us.length) (n:us.length*sz<=16777216) 
  (j:us.map Value.cells=vss.map List.toArray) (i:∀vs∈vss,vs.length=sz):(Instr.buildSlice T us.length ((us.zipIdx 0).map λp=>(p.2,p.1)).toArray).run P w= .ok (.slice (some ⟨w.heap.size,0,none⟩) us.length us.length) (w.alloc<|.cells vss.flatten.toArray E):=by
 have d:¬us.length*sz=0:=by have:0<us.length*sz:=Nat.mul_pos m l;omega
 have hb:¬(16777216<us.length*sz):=by omega
 obtain⟨a,g,c⟩:=Xh us vss 0 ((Array.range<|us.length*sz).map (z.cells[·%z.cells.size]!)) j i sm;have f:a=vss.flatten.toArray:=by apply Array.ext';simpa using c
 subst f;simp[Instr.buildSlice,Sem.run_bind,run_underlying e,Result.andThen_ok,b.qZ,hb,d,b.K6,g,newRow]
theorem tX {m:Nat} {T:TypeId} {ag:Array (Nat×Operand)} (a:List Operand) (vss:List (List Value)) (l:P.underlying T=some (.slice E)) (j:TI P E sz bytes z) (r:gate ops e g=true) (o:cJ n dst=true) 
  (u:ag=((a.zipIdx 0).map λp=>(p.2,p.1)).toArray) (t:m=a.length) (B:Nat.blt 0 sz=true) (C:Nat.blt 0 a.length=true) (f:Nat.ble (a.length*sz) 16777216=true)
  (v:a.map (λq=>(ev e q).cells)=vss.map List.toArray) (s:vss.all (λvs=>Nat.beq vs.length sz)=true)
  (k:∀w',aj [] w w'->aK w' w.heap.size vss.flatten.toArray E->w'.heap.size=w.heap.size+1->OW P n ops K rest (bU e dst<|.slice (some ⟨w.heap.size,0,none⟩) m m) w'):
  OW P n ops K (⟨dst,.buildSlice T m ag,ty,pos,after,g⟩::rest) e w:=by
 subst u t;have c:(a.map<|ev e).length=a.length:=by simp
 have d:=ajG (P:=P) (w:=w) (us:=a.map<|ev e) (vss:=vss) l j (by simpa[Nat.blt_eq] using B) (by simpa[Nat.blt_eq] using C) (by rw[c];exact Nat.le_of_ble_eq_true f) (by rw[List.map_map];exact v) λvs h=>Nat.eq_of_beq_eq_true<|List.all_eq_true.1 s vs h;rw[c] at d;have b:((a.zipIdx 0).map λp=>(p.2,p.1)).toArray.map (fun(p:Nat×Operand)=>(p.1,ev e p.2))=(((a.map<|ev e).zipIdx 0).map λp=>(p.2,p.1)).toArray:=by
  rw[List.map_toArray,List.map_map]
  congr 1
  have:∀(a:List Operand) (i:Nat),(a.zipIdx i).map ((fun(p:Nat×Operand)=>(p.1,ev e p.2))∘λp=>(p.2,p.1))=((a.map<|ev e).zipIdx i).map λp=>(p.2,p.1):=by
   intro a;induction a with
   |nil=>intro i;rfl
   |cons q a y=>intro i;simp only[List.zipIdx_cons,List.map_cons,List.map,y];rfl
  exact this a 0
 exact fp r o (w':=w.alloc<|.cells vss.flatten.toArray E) (by have A:(Array.map (λx=>(x.fst,ev e x.snd)) ((a.zipIdx 0).map λp=>(p.2,p.1)).toArray)=(((a.map<|ev e).zipIdx 0).map λp=>(p.2,p.1)).toArray:=b;simp only[execOp];rw[A,Sem.run_bind,d];simp) (k _ (aj.alloc _ _ _) (aK.alloc _ _ _) sm)
/-! ### Slices that are appended whole -/
theorem Xi {w:World}:∀{rows:List (List C)} {f:Nat->List Value},(∀i row,rows[i]?=some row->dG L w (f i) row)->dG L w ((List.range rows.length).map f).flatten rows.flatten
 |[],_,_=>trivial
 |r::rows,f,h=>by rw[lC,List.range_succ_eq_map,List.map_cons,List.map_map,List.flatten_cons,List.flatten_cons];exact(h 0 r rfl).append (Xi (f:=f∘Nat.succ) λi row a=>h (i+1) row<|by simpa using a)
theorem ajI {w:World} {a:List Value} (h:fZ w b off xs) (k:fZ w b (off+xs.length) a):fZ w b off (xs++a):=by grind [fZ]
theorem Xj {w:World} {sz:Nat}:∀{n off:Nat} {f:Nat->List Value},(∀i,i<n->(f i).length=sz/\fZ w b (off+i*sz) (f i))->fZ w b off ((List.range n).map f).flatten
 |0,_,_,_=>λj v g=>by simp at g
 |n+1,off,f,h=>by rw[List.range_succ_eq_map,List.map_cons,List.map_map,List.flatten_cons];obtain⟨c,a⟩:=h 0 om;rw[Nat.zero_mul,Nat.add_zero] at a;refine ajI a<|Xj (sz:=sz) λi _=>?_;obtain⟨d,e⟩:=h (i+1) om;refine⟨d,?_⟩;rw[c];rwa [show off+(i+1)*sz=off+sz+i*sz from by rw[Nat.add_mul];omega] at e
theorem Xk {w:World} {a:Option Addr} {len cap size:Nat} (h:cj L w (.slice a len cap) (.sl size rows)) (q:0<rows.length):
  ∃b off vs,a=some ⟨b,off,none⟩/\b<w.heap.size/\b∉L/\fZ w b off vs/\dG L w vs rows.flatten/\len=rows.length/\∀row∈rows,row.length=size:=by
 cases h with
 |nil=>simp at q
 |sl b off len cap size rows f p _ hb o m t s=>
  refine⟨b,off,((List.range rows.length).map λi=>(List.range size).map<|f i).flatten,rfl,hb,o,Xj (sz:=size) λi g=>⟨by simp,λj v l=>?_⟩,Xi λi row g=>?_,p.symm,m⟩
  .have d:j<size:=by have:=(List.getElem?_eq_some_iff.1 l).1;simpa using this
   have e:f i j=v:=by simpa[List.getElem?_map,d] using l
   rw[<-e];exact t i j om d
  .have r:=m row<|List.mem_of_getElem? g;refine dG.of (by simp[r]) λj v c n u=>?_;have d:j<size:=by have:=(List.getElem?_eq_some_iff.1 n).1;simpa using this
   have e:f i j=v:=by simpa[List.getElem?_map,d] using n
   rw[<-e];exact s i j row c g u
theorem Xl {t ty T:TypeId} {i:TypeInfo} (e:P.underlying t=some (.slice T)) (d:P.info? T=some i) 
  {a:Option Addr} {m cap:Nat} (h:m<=cap) {a2:Option Addr} {c2:Nat}:
  (Builtin.append_ #[t,t] ty #[.slice a m cap,.slice a2 0 c2]).run P w= .ok (.slice a m cap) w:=by
 have c:(Builtin.firstCells i.size 0<|.slice a2 0 c2).run P w= .ok #[] w:=by
  cases a2 with
  |none=>simp[Builtin.firstCells]
  |some b=>exact run_firstCells_some (P:=P) (w:=w) i.size 0 b 0 c2 [] sm sm
 cases a<;>simp[Builtin.append_,run_underlying e,sizeOf,typeInfo,d,Builtin.lenOf,h,c,storeCells]
theorem wV {B:Nat} {L:List Nat} {v:Value} {o:Option Nat} {rows new:List (List C)} {a2:Option Addr} {u c2:Nat} (F:P.underlying t=some (.slice E)) (D:TI P E sz bytes z) (I:gate ops e g=true) (H:cJ n dst=true) (X:Nat.beq z.cells.size sz=true) (Q:Nat.ble bytes 1000=true) 
  (p:ev e x=v) (N:ev e y= .slice a2 u c2) (f:Gr B L w E sz v o rows) (M:cj (o.toList++L) w (.slice a2 u c2) (.sl sz new)) (R:∀row∈new,∀c∈row,∀v,c= .val v->v.oneCell'=true)
  (hn:rows.length+new.length<100000000)
  (k:∀l d q w',Gr B L w' E sz (.slice l (rows.length+new.length) d) q (rows++new)->aj o.toList w w'->OW P n ops K rest (bU e dst (.slice l (rows.length+new.length) d)) w'):
  OW P n ops K (⟨dst,.call {callee:=.builtin .append,args:=#[x,y],argTypes:=#[t,t]},ty,pos,after,g⟩::rest) e w:=by
 obtain⟨xs,r⟩:=f.own;have B4:bytes<=1000:=Nat.le_of_ble_eq_true Q;by_cases J:0<new.length
 .obtain⟨b,off,vs,rfl,hb,_,s,A,rfl,Y⟩:=Xk M J;refine UC F D I H X p r N rfl J Y s ?_ A f.cU (Nat.le_trans (Nat.mul_le_mul (show rows.length+new.length<=100000000 by omega)<|show bytes+1<=1001 by omega) de) ?_
  .refine dG.IC A λc s v V=>?_;obtain⟨row,j,S⟩:=List.mem_flatten.1 s;exact R row j c S v V
  .intro l d q w' Z hk l7;refine k l d q w' ⟨⟨_,Z⟩,λb hb=>?_,λx p=>lL (f.cU x p) hk.size,Nat.le_trans f.bsz hk.size⟩ hk;rcases l7 with h|h
   .rw[h] at hb;exact f.low b hb
   .rw[h] at hb;cases hb;exact f.bsz
 .have pw:new=[]:=List.length_eq_zero_iff.1 om;subst pw;obtain⟨a,cap,rfl⟩:=r.len;have O:u=0:=by
   obtain⟨_,_,T,_⟩:=tL M;cases T;rfl
  subst O;have yQ:rows.length<=cap:=by
   rcases r.own.2 with⟨h,j,_⟩|⟨_,_,_,_,h,_,j,_⟩
   .rw[j];omega
   .cases h;exact j
  obtain⟨i,U,_,_,_⟩:=D.get;have ky:=Xl (P:=P) (w:=w) (t:=t) (ty:=ty) F U (a:=a) (m:=rows.length) (cap:=cap) yQ (a2:=a2) (c2:=c2);refine fp I H (v:=.slice a rows.length cap) (w':=w) (by simp only[execOp,resolve,invoke,builtin,Sem.run_bind,Sem.run_pure,Result.andThen_ok,List.map_toArray,List.map_cons,List.map_nil,p,N,ky]) ?_;have:=k a cap o w (by simpa using f)<|aj.refl _ _;simpa using this
end
theorem ajJ {T:Nat} (hb:aK w b xs.toArray T) (a:xs.length=N*sz) (c:N<=100000000):jC w T sz (.slice (some ⟨b,0,none⟩) N N) (some b) N xs:=
 ⟨a,.inr ⟨b,N,_,rfl,rfl,hb,lR _,by unfold maxLen;omega,by simpa using a,by rw[<-a];simp⟩⟩
theorem ajK {T:Nat} (hb:aK w b xs.toArray T) (d:dG (b::L) w xs rows.flatten) (e:∀r∈rows,r.length=sz) (g:N=rows.length) (i:N<=100000000) (c:B<=b) (j:b∉L) (f:∀x∈L,x<w.heap.size):
  Gr B L w T sz (.slice (some ⟨b,0,none⟩) N N) (some b) rows:=by
 subst g;refine⟨⟨xs,⟨ajJ hb (by rw[d.length,Ow e]) i,d,e,λx a=>by cases a;exact j⟩⟩,λx a=>by cases a;exact c,f,Nat.le_trans c<|Nat.le_of_lt hb.lt⟩
theorem ajL {e:List aq}:∀row,row∈du e->∀c∈row,∀v,c=C.val v->v.oneCell'=true:=by
 intro row d c b v a;rw[Aq] at d;obtain⟨t,_,rfl⟩:=List.mem_map.1 d;cases t;rw[aq.enc] at b;simp only[mC,List.not_mem_nil,or_false] at b;rcases b with h|h
 .rw[h] at a;cases a;rfl
 .rw[h] at a;cases a
section
open Go Go.ChangeShapes Go.WideShapes
theorem ajM {a:Addr} (h:w.cell? a=some v):a=⟨a.block,a.off,none⟩/\a.block<w.heap.size:=by
 obtain⟨b,o,s⟩:=a;unfold World.cell? at h;split at h
 .rename_i c _ _ d;cases s with
  |some s=>simp at h
  |none=>exact⟨rfl,(Array.getElem?_eq_some_iff.1 d).1⟩
 .cases h
theorem ajN {a:Addr} (h:a=⟨a.block,a.off,none⟩) (i:Nat):a.add i=⟨a.block,a.off+i,none⟩:=by rw[h];exact qq _ _ _
section
variable {H:Type} {enc:TypeId×Value->H} {P:Program} {w:World} {held:Bool}
end
end
theorem Jf (a b c:Int) (w:World):bu Tryz.prog 67 [.int .i64 a,.int .i64 b,.int .i64 c] w λv w'=>v= .bool (decide (b<=a)&&decide (a<=c))/\w=w':=by refine cg [.tmp 6] 15 Tryz.func67 rfl ahG rfl rfl ?_;refine W ?_;apply oB 4 10 14 rfl oQ;intro _;exact oQ;intro _;refine W ?_;exact⟨_,rfl,rfl,rfl⟩
theorem ajO (c:UInt8) (w:World):bu Tryz.prog 137 [.int .u8 c.toNat] w λv w'=>v= .bool (fA c)/\w=w':=by refine cg [.tmp 2] 33 Tryz.func137 rfl afX rfl rfl ?_;refine W ?_;apply oB 3 5 8 rfl oQ;intro _;exact oQ;intro a;refine WZ ?_;apply oP 7 9 16 rfl oQ;intro _;refine WZ ?_;apply oB 3 12 15 rfl oQ;intro _;exact oQ;intro a;exact oQ;intro a;refine WZ ?_;apply oP 3 17 20 rfl oQ;intro _;exact oQ;intro a;refine WZ ?_;apply oP 3 21 24 rfl oQ;intro _;exact oQ;intro a;refine WZ ?_;apply oP 3 25 28 rfl oQ;intro _;exact oQ;intro a;refine WZ ?_;apply oP 3 29 32 rfl oQ;intro _;exact oQ;intro a;refine W ?_;exact⟨_,rfl,congrArg Value.bool (Uu c),rfl⟩
def ajP (L:List Nat) (s:ak) (d i:Nat) (v:Value) (w:World):Prop:=
 ∃t b a,v= .tuple #[b,.int .i64 a]/\bg L w b t/\D9 s.length (rT d<|s.drop i) t a
theorem ajQ (s:ak) (hs:s.length<=12000):∀(d i:Nat) (L:List Nat) (w:World),d<=61->i<=s.length->(∀x∈L,x<w.heap.size)->
  bu Tryz.prog 107 [str s,.int .i64 (i:Int),.int .i64 ((61:Int)-(d:Int))] w λv w'=>ajP L s d i v w'/\aj [] w w':=by
 intro d;induction d with
 |zero=>intro i L w hd hi hL;have c:=aj.refl [] w;refine ly [.cell 6 103,.tmp 7] 87 Tryz.func107 rfl LI rfl rfl rfl ?_;refine zr<|dy aP rfl rfl rfl λA F e dw=>?_;have c:=c.grow;have c:=c.ext F;refine zA<|aV<|zr<|jF (IU _) rfl rfl<|dy aP rfl rfl rfl λw2 C j dN=>?_;have c:=c.grow;have c:=c.ext C;have e:=e.grow;have e:=e.ext C;refine cN aP rfl rfl rfl j rfl λV B j gQ=>?_;have c:=c.aB B sx;have e:=e.aB B sx;refine aV<|ka<|zr<|zm<|Ik rfl rfl rfl rfl rfl<|zm ?_;apply DZ 5 15 20 [15,16,17,18,19,20] (λw'=>V=w') rfl;intro E;replace E:=jK E;refine W ?_;exact mg rfl rfl;intro E;replace E:=jK E;refine W ?_;exact mg rfl rfl;rintro X _ rfl;refine aV<|zc rfl (λu=>?_) λu=>?_;refine W ?_;refine cN aP rfl rfl rfl e rfl λN aJ e iu=>?_;have c:=c.aB aJ sx;refine W ?_;exact⟨[_,_],⟨gB fQ aP rfl e rfl,rfl⟩,⟨.mk [] [],_,_,rfl,jV l6,rfl⟩,c⟩;exfalso;simp at u
 |succ d ih=>
  intro i L w hd hi hL;have c:=aj.refl [] w;by_cases jw:i<s.length
  .have D:=drop_cons<|jU jw;have Xm:=Iz fA<|s.drop i;rw[List.length_drop] at Xm;refine ly [.cell 6 103,.tmp 7] 87 Tryz.func107 rfl LI rfl rfl rfl<|zr<|dy aP rfl rfl rfl λA F e dw=>?_;have c:=c.grow;have c:=c.ext F;refine zA<|aV<|zr<|jF (IU _) rfl rfl<|dy aP rfl rfl rfl λw2 C j dN=>?_;have c:=c.grow;have c:=c.ext C;have e:=e.grow;have e:=e.ext C;refine cN aP rfl rfl rfl j rfl λV B j gQ=>?_;have c:=c.aB B sx;have e:=e.aB B sx;refine W ?_;apply oP 5 15 20 rfl oQ;intro _;exact oQ;intro X;refine aV<|zc rfl (λu=>?_) λu=>?_;exfalso;simp at u;omega;refine W ?_;refine kY ji rfl rfl rfl rfl (jU jw)<|Il rfl rfl rfl rfl rfl<|aV<|zc rfl (λh3=>?_) λh3=>?_;have dH:s.getD i 0≠40:=λh=>h3 (by rw[h];rfl);refine W ?_;refine et (λk:Nat=>[(0,str s),(1,.int .i64 (k:Int)),(6,.pointer<|some ⟨w.heap.size,0,none⟩),(8,.pointer<|some ⟨A.heap.size,0,none⟩),(9,.int .i64 (i:Int))]) (λk w'=>w'=V/\i<=k/\k-i<=((s.drop i).takeWhile fA).length) (λk=>s.length-k) i (⟨rfl,rfl,rfl,rfl,rfl⟩) (⟨rfl,lR _,om⟩) λK N e4 T=>?_;obtain⟨rfl,xQ,GQ⟩:=T;have EG:=adJ s xQ GQ;refine WZ ?_;apply oB 5 31 36 rfl oQ;intro _;refine zm<|zm<|kY ji rfl rfl rfl rfl (jU om)<|aA (ajO _ _) ?_;rintro _ _ ⟨rfl,rfl⟩;exact oQ;intro X;refine aV<|zc rfl (λh5=>?_) λh5=>?_;have eI:=EG.2 (by simpa using h5);refine W ?_;exact⟨K+1,⟨rfl,rfl,rfl,rfl,rfl⟩,⟨rfl,om,om⟩,om⟩;have Y:K-i=((s.drop i).takeWhile fA).length:=Nat.le_antisymm GQ (Nat.le_of_not_lt λhh=>by have f:=EG.1 hh;rw[f.2,Bool.and_true,decide_eq_false_iff_not] at h5;omega);refine W ?_;refine DW ji rfl rfl rfl (.inr ⟨_,rfl⟩) (.inr ⟨_,rfl⟩) om om<|zf mG rfl<|ia bw rfl rfl rfl j rfl λw5 H j _=>?_;have c:=c.aB H sx;have e:=e.aB H sx;refine W ?_;refine zc rfl (λM=>?_) λM=>?_;have r:rT (d+1) (s.drop i)=none:=by rw[Y,Lj] at M;show eZ d _=none;rw[D,IB _ _ _ dH,<-D,iP M]
   refine W ?_;refine cN aP rfl rfl rfl e rfl λw6 z e mr=>?_;have c:=c.aB z sx;refine W ?_;exact⟨[_,_],⟨gB fQ aP rfl e rfl,rfl⟩,⟨.mk _ [],_,_,rfl,jV l6,by rw[r];rfl⟩,c⟩;have r:rT (d+1) (s.drop i)=some (.mk ((s.drop i).takeWhile fA) [],(s.drop i).dropWhile fA):=by rw[Y,Lj] at M;show eZ d _=_;rw[D,IB _ _ _ dH,<-D,iN M]
   refine W ?_;refine cN aP rfl rfl rfl e rfl λw6 z e mr=>?_;have c:=c.aB z sx;refine zA<|aV<|kW<|⟨[_,_],⟨gB fQ aP rfl e rfl,rfl⟩,⟨.mk _ [],_,_,rfl,jV l6,?_⟩,c⟩;rw[r];refine⟨by rw[Y,Lj],?_⟩;rw[Iy,List.length_drop,List.length_drop];show(K:Int)=_;omega;have Z:s.getD i 0=40:=UInt8.toNat_inj.1 (by have O:(40:UInt8).toNat=40:=rfl;rw[O];omega);refine WZ ?_;refine et (λq:List aq×Nat×Option Addr×Nat×Option Nat×List Value=>[(0,str s),(1,.int .i64 (q.2.1:Int)),(2,.int .i64<|(61:Int)-((d+1:Nat):Int)),(6,.pointer<|some ⟨w.heap.size,0,none⟩),(8,.pointer<|some ⟨A.heap.size,0,none⟩)]) (λq w'=>aj [] w w'/\aK w' w.heap.size [str [],.slice none 0 0].toArray 103/\aK w' A.heap.size [str [],.slice q.2.2.1 q.1.length q.2.2.2.1].toArray 103/\iS (w.heap.size::A.heap.size::L) w' 103 2 (.slice q.2.2.1 q.1.length q.2.2.2.1) q.2.2.2.2.1 (du q.1) q.2.2.2.2.2/\(∀b,q.2.2.2.2.1=some b->w.heap.size<=b)/\q.2.1<s.length/\i<=q.2.1/\q.1.length<=q.2.1/\A.heap.size<w'.heap.size/\oD d (s.drop<|i+1)=(oD d (s.drop<|q.2.1+1)).map λp=>(q.1++p.1,p.2)) (λq=>s.length-q.2.1) (([],i,none,0,none,[])) (⟨rfl,rfl,rfl,rfl,rfl⟩) (⟨c,e,j,iS.nil _ _ _ _,sm,jw,lR _,sm,om,sm⟩) λK N e4 T=>?_;obtain⟨l,k,a,_,g,xs⟩:=K;dsimp only at T⊢;obtain⟨c,e,j,n,hg,hk,xQ,_,_,U⟩:=T;have hLx:∀x∈g.toList++(w.heap.size::A.heap.size::L),x<N.heap.size:=by intro x f;simp at f;rcases f with f|rfl|rfl|f;exact n.own.lt x f;omega;omega;have E:=hL x f;have u:=c.size;omega
   refine WA ?_;refine CY ?_;refine zm<|lx rfl rfl rfl rfl rfl (show IntKind.i64.wrap ((61:Int)-((d+1:Nat):Int)+1)=(61:Int)-(d:Int) by rw[wrap_i64 _ om om];omega)<|aA (ih (k+1) (g.toList++(w.heap.size::A.heap.size::L)) N om om hLx) ?_;rintro _ w5 ⟨vD,H⟩;have kF:=H.size;refine gK H c e j n λc e j n=>?_;obtain⟨t,_,_,rfl,y,hm⟩:=vD;obtain⟨_,_,_,rfl,eD,_⟩:=db y;subst eD;refine W ?_;refine dy aP rfl rfl rfl λw6 z qD mr=>?_;have c:=c.grow;have c:=c.ext z;have e:=e.grow;have e:=e.ext z;have j:=j.grow;have j:=j.ext z;have n:=n.alloc z mr;have y:=y.grow;have y:=y.ext z;refine cN aP rfl rfl rfl qD rfl λ_ I qD _=>?_;have c:=c.aB I sx;have e:=e.aB I sx;have j:=j.aB I sx;have n:=n.aB I sx;have y:=y.aB I sx;refine W ?_;apply oP 5 61 66 rfl oQ;intro _;exact oQ;intro X;refine aV<|zc rfl (λS=>?_) λS=>?_;have r:rT (d+1) (s.drop i)=none:=by show eZ d _=none;rw[D,Z,Gp,U,adK hm (by simpa using S) om];rfl
   refine W ?_;refine cN aP rfl rfl rfl e rfl λw8 R e ld=>?_;have c:=c.aB R sx;have n:=n.aB R sx;refine W ?_;exact⟨[_,_],⟨gB fQ aP rfl e rfl,rfl⟩,⟨.mk [] l,_,_,rfl,jV<|n.done.weaken λx f=>by simp[f],by rw[r];rfl⟩,c⟩;simp at S;obtain⟨m,rfl,_,Qo,fH⟩:=adL hm S.1 om;refine W ?_;refine fM cW aP rfl rfl λw8 R ajS ld=>kq R c e j n y λc e j n y=>?_;refine UD cW aP rfl rfl rfl rfl rfl n (qu t) ajS.all (by simp[Value.oneCell']) (y.lP.fresh λx f=>.inl<|UA x f) ?_ ?_ ?_;intro x f;simp at f;rcases f with rfl|rfl|rfl|f;(·omega);(·omega);(·omega);(·have E:=hL x f;have u:=c.size;omega);rw[iG];omega;intro a2 EH g2 _ o Q je;have e1:(du l).length+1=(l++[t]).length:=by simp[iG]
   have e2:du l++[t.enc]=du (l++[t]):=by simp[OR,du]
   rw[e1] at o⊢;rw[e2] at o;have cz:=Q.size;have yX:∀b,g2=some b->w.heap.size<=b:=by intro b hb;rcases je with h|h;(·rw[h] at hb;exact hg b hb);(·rw[h] at hb;cases hb;omega)
   have c:=c.aB Q λx f=>.inr (hg x<|by simpa using f);have e:=e.aB Q<|n.sep sm;have j:=j.aB Q<|n.sep sm;refine zf kC rfl<|ia Gy rfl rfl rfl j rfl λ_ bY j _=>?_;have c:=c.aB bY sx;have e:=e.aB bY sx;have o:=o.aB bY sx;refine W ?_;refine kY ji rfl rfl rfl rfl (jU Qo)<|yP rfl rfl rfl rfl rfl<|aV<|zc rfl (λh9=>?_) λh9=>?_;have P:s.getD m 0=41:=UInt8.toNat_inj.1 (by have O:(41:UInt8).toNat=41:=rfl;rw[O];omega);have r:rT (d+1) (s.drop i)=some (.mk [] (l++[t]),s.drop<|m+1):=by show eZ d _=_;rw[D,Z,Gp,U,fH,iP P];rfl
   refine W ?_;refine cN aP rfl rfl rfl e rfl λeM J e wW=>?_;have c:=c.aB J sx;have o:=o.aB J sx;refine W ?_;exact⟨[_,_],⟨gB fQ aP rfl e rfl,rfl⟩,⟨.mk [] (l++[t]),_,_,rfl,jV<|o.done.weaken λx f=>by simp[f],by rw[r];exact⟨rfl,by rw[List.length_drop];omega⟩⟩,c⟩;have P:s.getD m 0≠41:=λh=>h9 (by rw[h];rfl);refine W ?_;refine kY ji rfl rfl rfl rfl (jU Qo)<|Il rfl rfl rfl rfl rfl<|aV<|zc rfl (λgx=>?_) λgx=>?_;have Qp:s.getD m 0≠32:=λh=>gx (by rw[h];rfl);have r:rT (d+1) (s.drop i)=none:=by show eZ d _=_;rw[D,Z,Gp,U,fH,iN P,iN Qp];rfl
   refine W ?_;refine cN aP rfl rfl rfl e rfl λeM J e wW=>?_;have c:=c.aB J sx;have o:=o.aB J sx;refine W ?_;exact⟨[_,_],⟨gB fQ aP rfl e rfl,rfl⟩,⟨.mk [] (l++[t]),_,_,rfl,jV<|o.done.weaken λx f=>by simp[f],by rw[r];rfl⟩,c⟩;have Qp:s.getD m 0=32:=UInt8.toNat_inj.1 (by have O:(32:UInt8).toNat=32:=rfl;rw[O];omega);refine WZ ?_;exact⟨(l++[t],m,a2,EH,g2,_),⟨rfl,rfl,rfl,rfl,rfl⟩,⟨c,e,j,o.more (by intro x f;exact .inl (by simp at f⊢;rcases f with f|f|f<;>simp[f])),yX,Qo,by dsimp only;omega,by simp;omega,om,by rw[U,fH,iN P,iP Qp,map_append]⟩,by dsimp only;omega⟩
  refine ly [.cell 6 103,.tmp 7] 87 Tryz.func107 rfl LI rfl rfl rfl<|zr<|dy aP rfl rfl rfl λA F e dw=>?_;have c:=c.grow;have c:=c.ext F;refine zA<|aV<|zr<|jF (IU _) rfl rfl<|dy aP rfl rfl rfl λw2 C j dN=>?_;have c:=c.grow;have c:=c.ext C;have e:=e.grow;have e:=e.ext C;refine cN aP rfl rfl rfl j rfl λV B j gQ=>?_;have c:=c.aB B sx;have e:=e.aB B sx;refine W ?_;apply oP 5 15 20 rfl oQ;intro _;exact oQ;intro X;refine aV<|zc rfl (λu=>?_) λu=>?_;have r:rT (d+1) (s.drop i)=none:=by rw[List.drop_of_length_le om];exact Ux d
  refine W ?_;refine cN aP rfl rfl rfl e rfl λN aJ e iu=>?_;have c:=c.aB aJ sx;refine W ?_;exact⟨[_,_],⟨gB fQ aP rfl e rfl,rfl⟩,⟨.mk [] [],_,_,rfl,jV l6,by rw[r];rfl⟩,c⟩;exfalso;simp at u;omega
theorem C1 (s:ak) (L:List Nat) (w:World) (u:∀x∈L,x<w.heap.size):
  bu Tryz.prog 78 [str s] w λv w'=>(∃t j,v= .tuple #[j,.bool (bT s).isSome]/\bg L w' j t/\∀i,bT s=some i->t=i)/\aj [] w w':=by
 have a:=aj.refl [] w;refine ly [.cell 2 103,.tmp 3] 20 Tryz.func78 rfl VS rfl rfl rfl ?_;refine zr<|dy aP rfl rfl rfl λz p b _=>?_;have a:=a.grow;have a:=a.ext p;refine W ?_;refine zc rfl (λr=>?_) λr=>?_;have o:bT s=none:=by unfold bT;rw[iP om]
 refine zr<|jF (IU _) rfl rfl<|cN aP rfl rfl rfl b rfl λA e b _=>?_;have a:=a.aB e sx;refine W ?_;exact⟨[_,_],⟨gB fQ aP rfl b rfl,rfl⟩,⟨.mk [] [],_,by rw[o];rfl,jV l6,λi h=>by rw[o] at h;cases h⟩,a⟩;refine iF<|zr<|zm<|aA (ajQ s om 61 0 (w.heap.size::L) z om om (by intro x d;rcases mC.1 d with rfl|d;(·omega);(·have:=u x d;omega))) ?_;rintro _ A ⟨q,e⟩;have B:=e.size;refine bJ e a b λa b=>?_;obtain⟨t,j,_,rfl,c,y⟩:=q;obtain⟨_,_,_,rfl,_,_⟩:=db c;refine W ?_;refine dy aP rfl rfl rfl λ_ f m _=>?_;have a:=a.grow;have a:=a.ext f;have b:=b.grow;have b:=b.ext f;have c:=c.grow;have c:=c.ext f;refine cN aP rfl rfl rfl m rfl λ_ g m _=>?_;have a:=a.aB g sx;have b:=b.aB g sx;have c:=c.aB g sx;refine W ?_;refine cN aP rfl rfl rfl b rfl λ_ n b _=>?_;have a:=a.aB n sx;have c:=c.aB n sx;refine W ?_;have l:=adM om y;exact⟨[_,_],⟨gB fQ aP rfl b rfl,rfl⟩,⟨t,_,by rw[<-l.1];rfl,jg.fresh c λx d=>.inl<|by simp[d],l.2⟩,a⟩
theorem Mp (t:aq) (v:Value) (L:List Nat) (w:World) (q:bg L w v t):bu Tryz.prog 140 [v] w λr w'=>r=str (bC t)/\aj [] w w':=by obtain⟨a,n,c,rfl,m,f⟩:=db q;have e:=aj.refl [] w;refine cg [.tmp 2] 17 Tryz.func140 rfl afZ rfl rfl ?_;refine zr<|eJ rfl λ_ o _ _=>bJ o e f λe f=>?_;refine W ?_;apply oP 5 6 11 rfl oQ;intro _;refine WZ ?_;exact oQ;intro _;refine aV<|zc rfl (λd=>?_) λd=>?_;have g:bC t=[]:=Ed (by simp at d;rcases d with h|h;(·exact .inl h);(·right;subst m;simpa using h));refine W ?_;exact⟨_,rfl,by rw[g];rfl,e⟩;simp at d;have s:=d.2;have p:∃l,t.ag[0]?=some l:=⟨t.ag[0]'om,gE om⟩;obtain⟨l,j⟩:=p;obtain⟨b,off,_,_,_,rfl,_,_,_⟩:=iB f j;have g:bC t=l.au:=II d.1 j;refine WI ?_;refine zi (i:=0) cW aP rfl rfl (by rw[m];exact(List.getElem?_eq_some_iff.1 j).1) ?_;refine W ?_;exact⟨_,rfl,by rw[g];rfl,e⟩
theorem Xn (s:ak) (i:s.length<9223372036854775807) (w:World):bu Tryz.prog 102 [str s] w λr w'=>r= .bool (ph s)/\w=w':=by refine cg [.tmp 2] 39 Tryz.func102 rfl afq rfl rfl ?_;refine W ?_;refine et (λk:Nat=>[(0,str s),(3,.int .i64 (k:Int))]) (λk w'=>w'=w/\k<=s.length/\∀j,j<k->Ec s j=true) (λk=>s.length-k) (0) (⟨rfl,rfl⟩) (⟨rfl,om,by intro j g;omega⟩) λd _ _ f=>?_;obtain⟨rfl,hk,c⟩:=f;refine W ?_;refine zc rfl (λe=>?_) λe=>?_;refine W ?_;refine kY ji rfl rfl rfl rfl (jU om)<|WZ ?_;apply oB 5 14 19 rfl oQ;intro _;refine zm<|zm<|kY ji rfl rfl rfl rfl (jU om) ?_;exact oQ;intro b;refine WZ ?_;apply oP 15 20 35 rfl oQ;intro _;refine WZ ?_;apply oB 5 23 28 rfl oQ;intro _;refine zm<|zm<|kY ji rfl rfl rfl rfl (jU om) ?_;exact oQ;intro b;refine WZ ?_;apply oB 5 29 34 rfl oQ;intro _;refine zm<|zm<|kY ji rfl rfl rfl rfl (jU om) ?_;exact oQ;intro b;exact oQ;intro b;refine kz rfl rfl rfl<|aV<|zc rfl (λa=>?_) λa=>?_;rw[Ls] at a;refine W ?_;exact⟨_,rfl,by rw[UT om a];rfl,rfl⟩;rw[Ls] at a;refine W ?_;exact⟨d+1,⟨rfl,rfl⟩,⟨rfl,om,UW c a⟩,om⟩;refine W ?_;exact⟨_,rfl,by rw[UU λj g=>c j om];rfl,rfl⟩
def Jh (s:ak):Value:=.tuple #[.int .i64<|(numeral s).getD 0,.bool (numeral s).isSome]
theorem Mq (s:ak) (w:World):bu Tryz.prog 142 [str s] w λv w'=>v=Jh s/\w=w':=by
 refine cg [.tmp 2,.tmp 3] 57 Tryz.func142 rfl af1 rfl rfl ?_;refine W ?_;apply oB 4 12 16 rfl oQ;intro u;refine zm<|kY (i:=0) ji rfl rfl rfl rfl (jU om) ?_;exact oQ;intro A;refine W ?_;refine jl (λ_:Unit=>[(0,str s),(4,.int .i64<|sP s),(5,str<|fg s)]) (λ_ w'=>w'=w) ?_ ?_;refine zc rfl (λe=>?_) λe=>?_;have f:0<s.length/\s.getD 0 0=45:=by have b:=UR 45<|s.getD 0 0;simp only[show((45:UInt8).toNat:Int)=45 from rfl] at b;rw[b] at e;simpa using e
 refine W ?_;refine DW (l:=1) ji rfl rfl rfl (.inr ⟨_,rfl⟩) (.inl ⟨rfl,rfl⟩) om om<|zA<|aV ?_;exact⟨(),⟨rfl,by rw[sP,iP f];rfl,by have u:fg s=(s.drop 1).take (s.length-1):=by{rw[fg,iP f,List.take_of_length_le sm]};rw[u];exact rfl⟩,rfl⟩;have f:¬(0<s.length/\s.getD 0 0=45):=by have b:=UR 45<|s.getD 0 0;simp only[show((45:UInt8).toNat:Int)=45 from rfl] at b;rw[b] at e;simpa using e
 refine WZ ?_;exact⟨(),⟨rfl,by rw[sP,iN f];rfl,by rw[fg,iN f];exact rfl⟩,rfl⟩;intro _ F _ p;obtain rfl:=p;refine W ?_;refine zc rfl (λm=>?_) λm=>?_;have g:numeral s=some 0:=by unfold numeral;rw[iP m]
 refine W ?_;exact⟨_,rfl,by unfold Jh;rw[g];rfl,rfl⟩;have r:=m;refine W ?_;refine aA (Jf _ _ _ _) ?_;rintro _ _ ⟨rfl,rfl⟩;refine WZ ?_;apply oP 4 25 29 rfl oQ;intro D;simp at D;refine zm<|kY (i:=0) ji rfl rfl rfl rfl (jU om) ?_;exact oQ;intro A;refine aV<|zc rfl (λn=>?_) λn=>?_;have g:numeral s=none:=adV r<|adZ n;refine W ?_;exact⟨_,rfl,by unfold Jh;rw[g];rfl,rfl⟩;have y:=ad0 n;refine W ?_;refine et (λk:Nat=>[(4,.int .i64<|sP s),(5,str<|fg s),(6,.int .i64 (val ((fg s).take k):Nat)),(7,.int .i64 (k:Int))]) (λk w'=>w'=F/\k<=(fg s).length/\((fg s).take k).all ja=true) (λk=>(fg s).length-k) (0) (⟨rfl,rfl,rfl,rfl⟩) (⟨rfl,om,sm⟩) λd _ _ p=>?_;obtain⟨rfl,hk,c⟩:=p;refine W ?_;refine zc rfl (λE=>?_) λE=>?_;have a:d<(fg s).length:=by omega
 have j:=UP _ c;have C:val ((fg s).take d)<100:=lL j<|Nat.le_trans (Nat.pow_le_pow_right om (show((fg s).take d).length<=2 by simp;omega)) de;clear j;refine W ?_;refine kY ji rfl rfl rfl rfl (jU a)<|WZ ?_;apply oP 5 40 45 rfl oQ;intro _;refine zm<|zm<|kY ji rfl rfl rfl rfl (jU a) ?_;exact oQ;intro A;refine aV<|zc rfl (λo=>?_) λo=>?_;have g:numeral s=none:=adW r a<|UY o;refine W ?_;exact⟨_,rfl,by unfold Jh;rw[g];rfl,rfl⟩;have q:=UZ o;have H:=q.1;have I:=q.2.1;refine W ?_;refine kY ji rfl rfl rfl rfl (jU a)<|wk rfl rfl rfl rfl rfl (wrap_u8 _ om om)<|Am AA yW rfl rfl rfl (wrap_i64 _ om om)<|W ?_;exact⟨d+1,⟨rfl,rfl,by rw[OV a,UO];show Value.int _ _=Value.int _ _;congr 1;omega,rfl⟩,⟨rfl,om,by rw[OV a,List.all_append,c];simp only[List.all_cons,q.2.2];rfl⟩,om⟩;have t:(fg s).take d=fg s:=List.take_of_length_le om;rw[t] at c;have j:=UP _ c;have C:val (fg s)<1000:=lL j<|Nat.le_trans (Nat.pow_le_pow_right om y.2.1) de;clear j;rw[t];have B:=adY s;have z: -1000<sP s*(val (fg s):Int)/\sP s*(val (fg s):Int)<1000:=by rcases B with h|h<;>rw[h]<;>omega
 refine W ?_;exact⟨_,rfl,by unfold Jh;rw[adX r y c];rfl,rfl⟩
theorem ajT (t:aq) (v:Value) (L:List Nat) (w:World) (i:bg L w v t):bu Tryz.prog 181 [v] w λr w'=>r= .int .i64 (uV t.au)/\aj [] w w':=by
 obtain⟨a,n,c,rfl,d,_⟩:=db i;have e:=aj.refl [] w;refine cg [.tmp 2] 19 Tryz.func181 rfl agB rfl rfl ?_;refine zr<|eJ rfl λ_ g _ _=>?_;have e:=e.ext g;refine W ?_;refine aA (Mq _ _) ?_;rintro _ _ ⟨rfl,rfl⟩;refine W ?_;apply oP 4 13 17 rfl oQ;intro _;refine zm<|aA (Jf _ _ _ _) ?_;rintro _ _ ⟨rfl,rfl⟩;exact oQ;intro _;refine aV<|zc rfl (λb=>?_) λb=>?_;have f:uV t.au= -1:=by unfold uV;cases d:numeral t.au with|none=>rfl|some k=>rw[d] at b;simp at b;exact iN om
 refine W ?_;exact⟨_,rfl,by rw[f];rfl,e⟩;have f:uV t.au=(numeral t.au).getD 0:=by unfold uV;cases d:numeral t.au with|none=>rw[d] at b;simp at b|some k=>rw[d] at b;simp at b;exact iP om
 refine W ?_;exact⟨_,rfl,by rw[f];rfl,e⟩
theorem Qq:∀(m:Nat) (t:aq),t.size<=m->t.size<=100000->WF t->∀(d:Bool) (v:Value) (L:List Nat) (w:World),bg L w v t->
  bu Tryz.prog 135 [v,.bool d,.bool false] w λr w'=>r= .bool (ga d t)/\aj [] w w':=by
 intro m;induction m with
 |zero=>intro t h;cases t;simp[aq.size] at h
 |succ m M=>
  intro t _ _ y d v L w V;obtain⟨a,n,c,rfl,T,f⟩:=db V;have e:=aj.refl [] w;have od:=oF t;refine cg [.tmp 6] 72 Tryz.func135 rfl afW rfl rfl ?_;refine zr<|eJ rfl λF g u _=>bJ g e f λe f=>?_;refine W ?_;refine zc rfl (λB=>?_) λB=>?_;refine WZ ?_;apply oP 7 15 22 rfl oQ;intro _;refine WZ ?_;apply oB 4 17 21 rfl oQ;intro _;refine WZ ?_;exact oQ;intro p;exact oQ;intro p;refine WZ ?_;apply oP 7 23 30 rfl oQ;intro _;refine zm<|zm<|DY (t:=25) (b:=false) rfl ?_;exact oQ;intro p;refine W ?_;exact⟨_,rfl,show Value.bool _=Value.bool _ from congrArg _<|by rw[U2 B,Bool.or_false],e⟩;have o:t.au=[]:=Classical.not_not.1 B;have j:=y.pos o;have nH:=eK j;obtain⟨b,off,_,_,_,rfl,_,_,_⟩:=iB f nH;refine WI ?_;refine zi (i:=0) cW aP rfl rfl (by rw[T];exact j)<|W ?_;refine zc rfl (λC=>?_) λC=>?_;refine WZ ?_;apply oA 7 42 49 (aj [] F) rfl oQ;intro _;have K:t.ag.length=2:=by omega
  have Z:=eK (ps:=t.ag) (i:=1) om;obtain⟨O,Q,Y,s0,X,q,J,tY,E⟩:=iB f Z;cases q;refine zf kC rfl<|zl jD rfl (u.at rfl)<|zi (i:=1) cW aP rfl rfl om<|zL fQ aP rfl J rfl<|zm<|aA (M (nth t.ag 1) (by have:=kZ (t:=t) (i:=1) om;omega) (by have:=kZ (t:=t) (i:=1) om;omega) (y.nth om) true _ L F<|kA E) ?_;rintro _ H ⟨rfl,s⟩;have di:=s.size;exact oQ;intro p H s;have e:=e.ext s;refine zA<|aV<|kW<|⟨_,rfl,show Value.bool _=Value.bool _ from congrArg _ ?_,e⟩;rw[OZ o j C]
  congr 1
  exact decide_eq_decide.2 om;have P:=C;refine WZ ?_;apply oB 3 52 55 rfl oQ;intro _;exact oQ;intro p;refine aV<|zc rfl (λD=>?_) λD=>?_;have hb:=U3 o j P<|ad7 D;refine W ?_;exact⟨_,rfl,by rw[hb];rfl,e⟩;have N:(nth t.ag 0).au=[116]\/(nth t.ag 0).au=[99]:=ad6 D;refine W ?_;refine et (λk:Nat=>[(3,.pointer<|some ⟨w.heap.size,0,none⟩),(1,.bool d),(2,.bool false),(8,.int .i64 (k:Int))]) (λk w'=>aj [] w w'/\aj [] F w'/\1<=k/\k<=t.ag.length/\(t.ag.drop 1).all (ga d)=(t.ag.drop k).all (ga d)) (λk=>t.ag.length-k) (1) (⟨rfl,rfl,rfl,rfl⟩) (⟨e,aj.refl [] _,om,om,rfl⟩) λl H _ S=>?_;obtain⟨e,g,hk,_,z⟩:=S;refine bJ g f u λf u=>?_;refine W ?_;refine zc rfl (λR=>?_) λR=>?_;have U:=eK (ps:=t.ag) (i:=l) om;obtain⟨O,Q,Y,s0,X,q,J,tY,E⟩:=iB f U;cases q;refine W ?_;refine aA (M (nth t.ag l) (by have:=kZ (t:=t) (i:=l) om;omega) (by have:=kZ (t:=t) (i:=l) om;omega) (y.nth om) d _ L H<|kA E) ?_;rintro _ _ ⟨rfl,I⟩;have eP:=I.size;refine bJ I e g λe g=>?_;refine kz rfl rfl rfl<|aV<|zc rfl (λA=>?_) λA=>?_;have hb:ga d t=false:=by rw[O0 o j N,z,U4 om,A];rfl
  refine W ?_;exact⟨_,rfl,by rw[hb];rfl,e⟩;refine W ?_;exact⟨l+1,⟨rfl,rfl,rfl,rfl⟩,⟨e,g,om,om,by rw[z,U4 om,A];rfl⟩,om⟩;have hb:ga d t=true:=by rw[O0 o j N,z,List.drop_of_length_le om];rfl
  refine W ?_;exact⟨_,rfl,by rw[hb];rfl,e⟩

theorem ajU (t:aq) (D:t.size<=100000) (B:WF t) (z:Int) (v:Value) (L:List Nat) (w:World) (E:bg L w v t):
  bu Tryz.prog 141 [v,.int .u8 z] w λr w'=>r= .bool (jZ z t)/\aj [] w w':=by
 have e:=E;obtain⟨a,n,c,rfl,_,_⟩:=db E;have b:=aj.refl [] w;have K:=sQ t;refine cg [.tmp 4] 39 Tryz.func141 rfl af0 rfl rfl ?_;refine zr<|eJ rfl λI F A _=>bJ F b e λb e=>?_;refine W ?_;refine jl (λ_:Unit=>[(2,.pointer<|some ⟨w.heap.size,0,none⟩),(7,.int .u8 z),(8,.bool (decide (z=114)||decide (z=42)))]) (λ_ w'=>w'=I) ?_ ?_;refine zc rfl (λo=>?_) λo=>?_;refine WZ ?_;exact⟨(),⟨rfl,rfl,congrArg Value.bool<|B6 o⟩,rfl⟩;refine W ?_;exact⟨(),⟨rfl,rfl,congrArg Value.bool<|B7 o⟩,rfl⟩;intro _ y _ H;obtain rfl:=H;refine zc rfl (λp=>?_) λp=>?_;have f:=B8 p;refine W ?_;refine aA (ajT t _ L y e) ?_;rintro _ j ⟨rfl,d⟩;have C:=d.size;have b:=b.ext d;refine W ?_;exact⟨_,rfl,show Value.bool _=Value.bool _ from congrArg _ (by rw[jZ,iP f];rfl),b⟩;have f:=B9 p;refine W ?_;refine zc rfl (λq=>?_) λq=>?_;have g:=q;refine W ?_;refine aA (Mq _ _) ?_;rintro _ _ ⟨rfl,rfl⟩;refine W ?_;exact⟨_,rfl,show Value.bool _=Value.bool _ from congrArg _<|by rw[jZ,iN f,iP g],b⟩;have g:=q;refine W ?_;refine zc rfl (λs=>?_) λs=>?_;have i:=s;refine W ?_;refine aA (Xn _ om _) ?_;rintro _ _ ⟨rfl,rfl⟩;refine W ?_;exact⟨_,rfl,show Value.bool _=Value.bool _ from congrArg _<|by rw[jZ,iN f,iN g,iP i],b⟩;have i:=s;refine W ?_;refine zc rfl (λu=>?_) λu=>?_;have m:=u;refine W ?_;refine aA (Mp t _ L y e) ?_;rintro _ j ⟨rfl,d⟩;have C:=d.size;refine cV d b e A λb e A=>?_;refine WZ ?_;apply oA 3 33 36 (aj [] j) rfl oQ;intro _;refine W ?_;refine aA (Qq t.size t (lR _) D B false _ L j e) ?_;rintro _ J ⟨rfl,l⟩;have M:=l.size;exact oQ;intro _ J l;have b:=b.ext l;refine W ?_;exact⟨_,rfl,show Value.bool _=Value.bool _ from congrArg _<|by rw[jZ,iN f,iN g,iN i,iP m],b⟩;have m:=u;refine W ?_;refine aA (Qq t.size t (lR _) D B false _ L y e) ?_;rintro _ j ⟨rfl,d⟩;have C:=d.size;have b:=b.ext d;refine W ?_;exact⟨_,rfl,show Value.bool _=Value.bool _ from congrArg _<|by rw[jZ,iN f,iN g,iN i,iN m],b⟩
theorem ajV (h:ak) (w:World):bu Tryz.prog 139 [str h] w λr w'=>r=str (shapeOf h)/\w=w':=by refine cg [.tmp 2] 25 Tryz.func139 rfl afY rfl rfl ?_;refine W ?_;refine zc rfl (λm=>?_) λm=>?_;have a:=m;refine W ?_;exact⟨_,rfl,show str _=str _ from congrArg _<|by rw[shapeOf,iP a],rfl⟩;have a:=m;refine W ?_;refine jl (λ_:Unit=>[(3,str h),(6,.bool (decide (h=[109,111,118])||decide (h=[111,112,101,110])))]) (λ_ w'=>w'=w) ?_ ?_;refine zc rfl (λn=>?_) λn=>?_;refine WZ ?_;exact⟨(),⟨rfl,congrArg Value.bool<|B6 n⟩,rfl⟩;refine W ?_;exact⟨(),⟨rfl,congrArg Value.bool<|B7 n⟩,rfl⟩;intro j D _ e;obtain rfl:=e;refine zc rfl (λo=>?_) λo=>?_;have b:=B8 o;refine W ?_;exact⟨_,rfl,show str _=str _ from congrArg _<|by rw[shapeOf,iN a,iP b],rfl⟩;have b:=B9 o;refine W ?_;refine jl (λ_:Unit=>[(3,str h),(9,.bool (decide (h=[97,100,100])||decide (h=[115,117,98])||decide (h=[109,117,108])))]) (λ_ w'=>w'=D) ?_ ?_;refine zc rfl (λp=>?_) λp=>?_;refine WZ ?_;exact⟨(),⟨rfl,congrArg Value.bool<|O2 p⟩,rfl⟩;have C:=p;refine W ?_;refine zc rfl (λq=>?_) λq=>?_;refine WZ ?_;exact⟨(),⟨rfl,congrArg Value.bool<|O3 C q⟩,rfl⟩;refine W ?_;exact⟨(),⟨rfl,congrArg Value.bool<|O4 C q⟩,rfl⟩;intro j E _ e;obtain rfl:=e;refine zc rfl (λs=>?_) λs=>?_;have c:=O5 s;refine W ?_;exact⟨_,rfl,show str _=str _ from congrArg _<|by rw[shapeOf,iN a,iN b,iP c],rfl⟩;have c:=O6 s;refine W ?_;refine zc rfl (λt=>?_) λt=>?_;have d:=t;refine W ?_;exact⟨_,rfl,show str _=str _ from congrArg _<|by rw[shapeOf,iN a,iN b,iN c,iP d],rfl⟩;have d:=t;refine W ?_;refine zc rfl (λu=>?_) λu=>?_;have f:=u;refine W ?_;exact⟨_,rfl,show str _=str _ from congrArg _<|by rw[shapeOf,iN a,iN b,iN c,iN d,iP f],rfl⟩;have f:=u;refine W ?_;refine jl (λ_:Unit=>[(3,str h),(17,.bool (decide (h=[108,97,98])||decide (h=[122,101,114,111])))]) (λ_ w'=>w'=E) ?_ ?_;refine zc rfl (λv=>?_) λv=>?_;refine WZ ?_;exact⟨(),⟨rfl,congrArg Value.bool<|B6 v⟩,rfl⟩;refine W ?_;exact⟨(),⟨rfl,congrArg Value.bool<|B7 v⟩,rfl⟩;intro j F _ e;obtain rfl:=e;refine zc rfl (λl=>?_) λl=>?_;have g:=B8 l;refine W ?_;exact⟨_,rfl,show str _=str _ from congrArg _<|by rw[shapeOf,iN a,iN b,iN c,iN d,iN f,iP g],rfl⟩;have g:=B9 l;refine W ?_;refine zc rfl (λA=>?_) λA=>?_;have i:=A;refine W ?_;exact⟨_,rfl,show str _=str _ from congrArg _<|by rw[shapeOf,iN a,iN b,iN c,iN d,iN f,iN g,iP i],rfl⟩;have i:=A;refine W ?_;refine jl (λ_:Unit=>[(3,str h),(22,.bool (decide (h=[106,117,109,112])||decide (h=[104,97,108,116])))]) (λ_ w'=>w'=F) ?_ ?_;refine zc rfl (λy=>?_) λy=>?_;refine WZ ?_;exact⟨(),⟨rfl,congrArg Value.bool<|B6 y⟩,rfl⟩;refine W ?_;exact⟨(),⟨rfl,congrArg Value.bool<|B7 y⟩,rfl⟩;intro j _ _ e;obtain rfl:=e;refine zc rfl (λz=>?_) λz=>?_;have B:=B8 z;refine W ?_;exact⟨_,rfl,show str _=str _ from congrArg _<|by rw[shapeOf,iN a,iN b,iN c,iN d,iN f,iN g,iN i,iP B],rfl⟩;have B:=B9 z;refine W ?_;exact⟨_,rfl,show str _=str _ from congrArg _<|by rw[shapeOf,iN a,iN b,iN c,iN d,iN f,iN g,iN i,iN B],rfl⟩
theorem Xo (t:aq) (hs:t.size<=100000) (N:WF t) (v:Value) (L:List Nat) (w:World) (K:bg L w v t):
  bu Tryz.prog 110 [v] w λr w'=>r= .bool (nj t)/\aj [] w w':=by
 have u:=K;obtain⟨a,n,c,rfl,C,f⟩:=db K;have e:=aj.refl [] w;have C3:=oF t;have nI:=aeb<|bC t;refine cg [.tmp 2] 67 Tryz.func110 rfl afx rfl rfl ?_;refine zr<|eJ rfl λw1 g l _=>cV g e f u λe f u=>?_;refine W ?_;refine aA (Mp t _ L w1 u) ?_;rintro _ w2 ⟨rfl,H⟩;have di:=H.size;refine cV H e f l λe f l=>?_;refine aA (ajV _ _) ?_;rintro _ _ ⟨rfl,rfl⟩;refine W ?_;refine zc rfl (λj=>?_) λj=>?_;refine W ?_;exact⟨_,rfl,by rw[U8 j];rfl,e⟩;have y:=j;refine WZ ?_;apply oB 8 14 22 rfl oQ;intro R;refine WZ ?_;exact oQ;intro xx;refine WZ ?_;apply oP 5 23 28 rfl oQ;intro _;refine WZ ?_;exact oQ;intro xx;refine aV<|zc rfl (λz=>?_) λz=>?_;have hb:=(U7 C).symm.trans z;refine W ?_;exact⟨_,rfl,by rw[O9 hb];rfl,e⟩;have hb:=(U7 C).symm.trans z;have R:=aea hb;have q:=O8 y;refine W ?_;refine et (λk:Nat=>[(1,.pointer<|some ⟨w.heap.size,0,none⟩),(3,str (shapeOf<|bC t)),(4,.int .i64 (k:Int))]) (λk w'=>aj [] w w'/\aj [] w2 w'/\1<=k/\k<=t.ag.length/\∀i,i<k->1<=i->wH t i=true) (λk=>t.ag.length-k) (1) (⟨rfl,rfl,rfl⟩) (⟨e,aj.refl [] _,om,om,by intro i J j;omega⟩) λd _ _ T=>?_;obtain⟨e,g,hk,_,I⟩:=T;refine bJ g f l λf l=>?_;refine W ?_;refine zc rfl (λS=>?_) λS=>?_;have U:=eK (ps:=t.ag) (i:=d) om;obtain⟨b,off,Y,pn,Z,rfl,_,O,o⟩:=iB f U;have nh:=List.length_pos_iff.2 y;refine WZ ?_;apply j1 dh 14 (rA 36 14) (rA 36 14) [[],[0],[],[1,2],[3],[],[],[],[7],[6,8],[9],[5,10],[4,11],[12]] [It.v _,It.v _,It.v _,It.v _,It.v _,It.v _,It.v _,It.v _,It.v _,It.v _,It.v _,It.v _,It.v _,It.v (.bool<|!wH t d)] de rfl;intro _ aC;refine VA ?_;refine vk aC (λx s m=>?_) ?_;refine adS rfl rfl rfl rfl (show(if((shapeOf<|bC t).length:Int)<(d:Int) then((shapeOf<|bC t).length:Int) else(d:Int))=((min d (shapeOf<|bC t).length:Nat):Int) from by split<;>omega) ?_;exact pv;refine vk aC (λx s m=>?_) ?_;refine wk rfl rfl rfl rfl rfl (show IntKind.i64.wrap (((min d (shapeOf<|bC t).length:Nat):Int)-1)=((min d (shapeOf<|bC t).length-1:Nat):Int) from by rw[wrap_i64 _ om om];omega) ?_;exact pv;refine vk aC (λx s m=>?_) ?_;refine kY ji rfl rfl rfl rfl (jU om) ?_;exact pv;refine vk aC (λx s m=>?_) ?_;have o:=o.ext m;refine aA (ajU (nth t.ag d) (by have:=kZ (t:=t) (i:=d) om;omega) (N.nth om) _ _ L s<|kA o) ?_;rintro _ _ ⟨rfl,E⟩;have kF:=E.size;exact pk E;exact VZ;intro x _ P;refine bJ P e g λe g=>?_;change OW _ _ _ _ [] (ba (aZ _ x _)<|zZ 36 [_,_,_,_,_,_,_,_,_,_,_,_,_,_]) _;refine aV<|zc rfl (λA=>?_) λA=>?_;have D:wH t d=false:=by simpa using A
 refine W ?_;exact⟨_,rfl,by rw[aec om hk D];rfl,e⟩;have D:wH t d=true:=by simpa using A
 refine W ?_;exact⟨d+1,⟨rfl,rfl,rfl⟩,⟨e,g,om,om,by intro i J j;rcases Nat.lt_or_ge i d with h|h;exact I i h j;rw[show i=d by omega];exact D⟩,om⟩;have F:=aed y hb λi J=>I i om;have V:=eK q.2.1;obtain⟨b,off,Y,pn,Z,rfl,_,O,o⟩:=iB f V;refine WI ?_;refine zi (i:=0) cW aP rfl rfl (by rw[C];exact q.2.1)<|W ?_;refine zc rfl (λB=>?_) λB=>?_;have p:bC t=[103,101,116]:=q.2.2.trans B;have AL:=ad9 hb p;have X:=eK (ps:=t.ag) (i:=3) om;obtain⟨_,_,_,_,_,Q,M,_,_⟩:=iB f X;cases Q;refine zr<|zf kC rfl<|zl jD rfl (l.at rfl)<|zi (i:=3) cW aP rfl rfl om<|zf mG rfl<|zl gH rfl (M 0 _ rfl)<|aA (Mq _ _) ?_;rintro _ _ ⟨rfl,rfl⟩;refine W ?_;exact⟨_,rfl,show Value.bool _=Value.bool _ from congrArg _<|by rw[F,show decide (bC t≠[103,101,116])=false from dF λh=>h p,Bool.false_or],e⟩;have p:bC t≠[103,101,116]:=λh=>B<|q.2.2.symm.trans h;refine W ?_;exact⟨_,rfl,by rw[F,dT p];rfl,e⟩
theorem ajW (s:ak) (w:World):bu Tryz.prog 103 [str s] w λr w'=>r= .bool (uY s)/\aj [] w w':=by have a:=aj.refl [] w;refine cg [.tmp 2] 15 Tryz.func103 rfl afr rfl rfl ?_;refine W ?_;refine aA (C1 s [] w sm) ?_;rintro _ _ ⟨p,f⟩;have y:=f.size;have a:=a.ext f;obtain⟨t,_,rfl,b,l⟩:=p;obtain⟨_,_,_,rfl,_,_⟩:=db b;refine W ?_;refine dy aP rfl rfl rfl λ_ g i _=>?_;have a:=a.grow;have a:=a.ext g;have b:=b.grow;have b:=b.ext g;refine cN aP rfl rfl rfl i rfl λm e i _=>?_;have a:=a.aB e sx;have b:=b.aB e sx;refine W ?_;apply oA 3 11 14 (aj [] m) rfl oQ;intro q;obtain⟨u,d⟩:=Option.isSome_iff_exists.1 q;have n:=l u d;have j:=wG d;have o:=B5 d;rw[<-n] at j o;refine W ?_;refine aA (Qq t.size t (lR _) om j false _ _ m b) ?_;rintro _ v ⟨rfl,c⟩;have z:=c.size;exact oQ;intro _ v c;have a:=a.ext c;refine W ?_;exact⟨_,rfl,show Value.bool _=Value.bool _ from congrArg _<|Lt l,a⟩
theorem Jj (s:ak) (w:World):bu Tryz.prog 83 [str s] w λr w'=>r= .bool (uZ s)/\aj [] w w':=by have a:=aj.refl [] w;refine cg [.tmp 2] 15 Tryz.func83 rfl ahT rfl rfl ?_;refine W ?_;refine aA (C1 s [] w sm) ?_;rintro _ _ ⟨p,f⟩;have y:=f.size;have a:=a.ext f;obtain⟨t,_,rfl,b,l⟩:=p;obtain⟨_,_,_,rfl,_,_⟩:=db b;refine W ?_;refine dy aP rfl rfl rfl λ_ g i _=>?_;have a:=a.grow;have a:=a.ext g;have b:=b.grow;have b:=b.ext g;refine cN aP rfl rfl rfl i rfl λm e i _=>?_;have a:=a.aB e sx;have b:=b.aB e sx;refine W ?_;apply oA 3 11 14 (aj [] m) rfl oQ;intro q;obtain⟨u,d⟩:=Option.isSome_iff_exists.1 q;have n:=l u d;have j:=wG d;have o:=B5 d;rw[<-n] at j o;refine W ?_;refine aA (Xo t om j _ _ m b) ?_;rintro _ v ⟨rfl,c⟩;have z:=c.size;exact oQ;intro _ v c;have a:=a.ext c;refine W ?_;exact⟨_,rfl,show Value.bool _=Value.bool _ from congrArg _<|Lt l,a⟩
theorem Mr (s:ak) (w:World):bu Tryz.prog 84 [str s] w λr w'=>r= .bool (Gs s)/\aj [] w w':=by have a:=aj.refl [] w;refine cg [.tmp 2] 31 Tryz.func84 rfl ahU rfl rfl ?_;refine W ?_;refine aA (C1 s [] w sm) ?_;rintro _ _ ⟨C,o⟩;have I:=o.size;have a:=a.ext o;obtain⟨t,_,rfl,d,v⟩:=C;obtain⟨_,_,_,rfl,q,c⟩:=db d;refine W ?_;refine dy aP rfl rfl rfl λ_ l e _=>?_;have a:=a.grow;have a:=a.ext l;have d:=d.grow;have d:=d.ext l;have c:=c.grow;have c:=c.ext l;refine cN aP rfl rfl rfl e rfl λy g e _=>?_;have a:=a.aB g sx;have d:=d.aB g sx;have c:=c.aB g sx;refine W ?_;apply oA 3 11 14 (aj [] y) rfl oQ;intro D;obtain⟨F,n⟩:=Option.isSome_iff_exists.1 D;have A:=v F n;have p:=wG n;have B:=B5 n;rw[<-A] at p B;refine W ?_;refine aA (Xo t om p _ _ y d) ?_;rintro _ H ⟨rfl,j⟩;have J:=j.size;exact oQ;intro z H j;refine cV j a c e λa c e=>?_;refine WZ ?_;apply oB 15 15 30 rfl oQ;intro u;simp only[aE] at u;have m:=aee u.2;have E:=eK m;obtain⟨b,off,_,_,_,rfl,_,_,_⟩:=iB c E;refine WI ?_;refine zi (i:=0) cW aP rfl rfl (by rw[q];exact m)<|WZ ?_;apply oP 7 22 29 rfl oQ;intro _;refine WI ?_;refine zi (i:=0) cW aP rfl rfl (by rw[q];exact m)<|WZ ?_;exact oQ;intro z;exact oQ;intro z;refine W ?_;exact⟨_,rfl,show Value.bool _=Value.bool _ from congrArg _ (by rw[Bool.and_assoc];exact Lt (f:=Lu) v),a⟩
theorem ajX (bs:List Bk) (hb:bs.length<9223372036854775807) (l:ak) (v:Value) (L:List Nat) (w:World) (m:kh L w v bs):
  bu Tryz.prog 50 [v,str l] w λr w'=>r= .int .i64 (qw bs l)/\w=w':=by
 obtain⟨a,n,c,rfl,_⟩:=uS m;refine cg [.tmp 4] 20 Tryz.func50 rfl aho rfl rfl ?_;refine W ?_;refine et (λk:Nat=>[(0,.slice a n c),(1,str l),(5,.int .i64 (k:Int))]) (λk w'=>w'=w/\k<=bs.length/\∀i,i<k->(cm bs i).aM≠l) (λk=>bs.length-k) (0) (⟨rfl,rfl,rfl⟩) (⟨rfl,om,by intro i j;omega⟩) λd _ _ p=>?_;obtain⟨rfl,hk,e⟩:=p;refine W ?_;refine zc rfl (λo=>?_) λo=>?_;have q:=l8 (bs:=bs) (i:=d) om;obtain⟨b,off,_,_,c1,_,_,c2,rfl,_,_,_,_,_⟩:=xT m q;refine W ?_;refine zc rfl (λf=>?_) λf=>?_;have g:=U9 om e f;refine W ?_;exact⟨_,rfl,by rw[g];rfl,rfl⟩;refine W ?_;exact⟨d+1,⟨rfl,rfl,rfl⟩,⟨rfl,om,by intro i j;rcases Nat.lt_or_ge i d with h|h;exact e i h;rw[show i=d by omega];exact f⟩,om⟩;have g:=aeg λi j=>e i om;refine W ?_;exact⟨_,rfl,by rw[g];rfl,rfl⟩
theorem ajY (k:Bk) (Y:k.aM.length<1000000000) (V:k.cQ.length<1000000000) (X:k.code.length<1000000000) (v:Value) (L:List Nat) (w:World) (O:pL L w v k):
  bu Tryz.prog 66 [v] w λr w'=>r= .bool (mo k)/\aj [] w w':=by
 obtain⟨_,_,c1,_,P,c2,rfl,F,y,m,f⟩:=yU O;have a:=aj.refl [] w;refine cg [.tmp 2] 65 Tryz.func66 rfl ahF rfl rfl ?_;refine zr<|eJ rfl λQ d u _=>cV d a m f λa m f=>?_;refine W ?_;refine aA (Xn _ om _) ?_;rintro _ _ ⟨rfl,rfl⟩;refine WZ ?_;apply oP 5 9 14 rfl oQ;intro _;refine WZ ?_;exact oQ;intro T;refine WZ ?_;apply oP 6 15 21 rfl oQ;intro _;refine W ?_;refine aA (Jf _ _ _ _) ?_;rintro _ _ ⟨rfl,rfl⟩;exact oQ;intro T;refine aV<|zc rfl (λo=>?_) λo=>?_;rw[Lw F y] at o;have hb:=Va (b:=k)<|U6 o;refine W ?_;exact⟨_,rfl,by rw[hb];rfl,a⟩;rw[Lw F y] at o;have hb:(ph k.aM&&decide (k.cQ.length<=40)&&(decide (1<=k.code.length)&&decide (k.code.length<=80)))=true:=U5 o;refine W ?_;refine et (λi:Nat=>[(1,.pointer<|some ⟨w.heap.size,0,none⟩),(3,.int .i64 (i:Int))]) (λi w'=>aj [] w w'/\aj [] Q w'/\i<=k.cQ.length/\∀j,j<i->uY (bV k.cQ j)=true) (λi=>k.cQ.length-i) (0) (⟨rfl,rfl⟩) (⟨a,aj.refl [] _,om,by intro i q;omega⟩) λc H _ A=>?_;obtain⟨a,d,hk,l⟩:=A;refine cV d m f u λm f u=>?_;refine W ?_;refine zc rfl (λK=>?_) λK=>?_;have B:=jW (xs:=k.cQ) (i:=c) om;obtain⟨b,off,rfl,N⟩:=pg m B;refine W ?_;refine aA (ajW _ H) ?_;rintro _ R ⟨rfl,C⟩;have U:=C.size;refine bJ C a d λa d=>?_;refine kz rfl rfl rfl<|aV<|zc rfl (λz=>?_) λz=>?_;have s:=Vb (b:=k) (i:=c) om (by simpa using z);refine W ?_;exact⟨_,rfl,by rw[s];rfl,a⟩;refine W ?_;exact⟨c+1,⟨rfl,rfl⟩,⟨a,d,om,by intro i q;rcases Nat.lt_or_ge i c with h|h;exact l i h;rw[show i=c by omega];simpa using z⟩,om⟩;have J:∀i,i<k.cQ.length->uY (bV k.cQ i)=true:=λi q=>l i om;clear l d hk;refine W ?_;refine et (λi:Nat=>[(1,.pointer<|some ⟨w.heap.size,0,none⟩),(4,.int .i64 (i:Int))]) (λi w'=>aj [] w w'/\aj [] H w'/\i<=k.code.length/\∀j,j<i->tP k.code j=true) (λi=>k.code.length-i) (0) (⟨rfl,rfl⟩) (⟨a,aj.refl [] _,om,by intro i q;omega⟩) λc R _ A=>?_;obtain⟨a,d,hk,l⟩:=A;refine bJ d f u λf u=>?_;refine W ?_;refine zc rfl (λM=>?_) λM=>?_;have B:=jW (xs:=k.code) (i:=c) om;obtain⟨b,off,rfl,N⟩:=pg f B;refine W ?_;refine Ek [43,44,45,46,47,48,49,50,51,52,53,54,55,56,57,58,59,60,61,62,63,64] [(64,.bool (!uZ (bV k.code c)||(Gs (bV k.code c) !=decide ((c:Int)=(P:Int)-1))))] ?_ ?_;rcases bE (!uZ (bV k.code c)) with ig|ig;apply j1 dh 22 (rA 43 22) (rA 43 22) [[],[0],[],[1,2],[3],[4],[5],[6],[7],[7,8],[7],[7,9,10],[7,11],[7,12],[7],[7],[7,15],[7,16],[7,17],[7,14,18],[7,13,19],[7,20]] [It.v _,It.v _,It.v _,It.v _,It.v _,It.v _,It.v _,It.v (.bool true),It.v _,It.v _,It.v _,It.v _,It.v _,It.v _,It.v _,It.v _,It.v _,It.v _,It.v _,It.v _,It.v _,It.v _] de rfl;intro S aC;refine VA ?_;refine vk aC (λx g t=>?_) ?_;refine aA (Jj _ g) ?_;rintro _ I ⟨rfl,e⟩;have E:=e.size;exact pk e;refine VA ?_;refine vc (λx g t=>?_) ?_;refine WZ ?_;exact pv (by exact congrArg Value.bool ig);exact VZ;intro x D n;change OW _ _ _ _ [] (ba (aZ _ x _) (zZ 43 [_,_,_,_,_,_,_,_,_,_,_,_,_,_,_,_,_,_,_,_,_,_])) _;refine W ?_;exact kE n;apply j1 dh 22 (rA 43 22) (rA 43 22) [[],[0],[],[1,2],[3],[4],[5],[6],[7],[7,8],[7],[7,9,10],[7,11],[7,12],[7],[7],[7,15],[7,16],[7,17],[7,14,18],[7,13,19],[7,20]] [It.v _,It.v _,It.v _,It.v _,It.v _,It.v _,It.v _,It.v (.bool false),It.v _,It.v _,It.v _,It.v _,It.v _,It.v _,It.v _,It.v _,It.v _,It.v _,It.v _,It.v _,It.v _,It.v _] de rfl;intro S aC;refine VA ?_;refine vk aC (λx g t=>?_) ?_;refine aA (Jj _ g) ?_;rintro _ I ⟨rfl,e⟩;have E:=e.size;exact pk e;refine VA ?_;refine vc (λx g t=>?_) ?_;refine WZ ?_;exact pv (by exact congrArg Value.bool ig);refine VA ?_;refine vk aC (λx g t=>?_) ?_;refine aA (Mr _ g) ?_;rintro _ I ⟨rfl,e⟩;have E:=e.size;exact pk e;exact VZ;intro x D n;change OW _ _ _ _ [] (ba (aZ _ x _) (zZ 43 [_,_,_,_,_,_,_,_,_,_,_,_,_,_,_,_,_,_,_,_,_,_])) _;refine W ?_;exact kE n;intro x D n;refine bJ n a d λa d=>?_;refine zc rfl (λp=>?_) λp=>?_;rw[Pa y om] at p;have s:=Vc (b:=k) (i:=c) om (by simpa using p);refine W ?_;exact⟨_,rfl,by rw[s];rfl,a⟩;rw[Pa y om] at p;refine W ?_;exact⟨c+1,⟨rfl,rfl⟩,⟨a,d,om,by intro i q;rcases Nat.lt_or_ge i c with h|h;exact l i h;rw[show i=c by omega];simpa using p⟩,om⟩;have s:=Vd hb J λi q=>l i om;refine W ?_;exact⟨_,rfl,by rw[s];rfl,a⟩
theorem Ms (bs:List Bk) (hb:mE bs) (v:Value) (L:List Nat) (w:World) (d:kh L w v bs):
  bu Tryz.prog 33 [v] w λr w'=>r= .bool (gP bs)/\aj [] w w':=by
 obtain⟨a,n,c,rfl,O⟩:=uS d;have e:=aj.refl [] w;have Q:=hb.1;refine cg [.tmp 2] 45 Tryz.func33 rfl ahc rfl rfl ?_;refine W ?_;refine et (λi:Nat=>[(0,.slice a n c),(3,.int .i64 (i:Int))]) (λi w'=>aj [] w w'/\i<=bs.length/\∀j,j<i->mo (cm bs j)=true/\qw bs (cm bs j).aM=(j:Int)) (λi=>bs.length-i) (0) (⟨rfl,rfl⟩) (⟨e,om,by intro i D;omega⟩) λf P _ M=>?_;obtain⟨e,hk,o⟩:=M;have d:=d.ext e;refine W ?_;refine zc rfl (λI=>?_) λI=>?_;have N:=l8 (bs:=bs) (i:=f) om;obtain⟨b,off,y,E,c1,z,F,c2,rfl,g,q,B,p,m⟩:=xT d N;have u:=hb.2 f om;refine W ?_;refine aA (ajY (cm bs f) u.1 u.2.1 u.2.2 _ _ P<|tO p m) ?_;rintro _ _ ⟨rfl,A⟩;have m:=A.size;refine cV A e d g λe d g=>?_;refine WZ ?_;apply oP 10 16 26 rfl oQ;intro _;refine zm<|zm<|zm<|zi jb fR rfl rfl om<|zf PB rfl<|zl gH rfl (g 0 _ rfl)<|aA (ajX bs om _ _ _ _ d) ?_;rintro _ _ ⟨rfl,rfl⟩;exact oQ;intro H;refine aV<|zc rfl (λl=>?_) λl=>?_;have t:=Ve (bs:=bs) (i:=f) om (λC=>by rw[C.1,C.2] at l;simp at l);refine W ?_;exact⟨_,rfl,by rw[t];rfl,e⟩;simp only[Bool.or_eq_false_iff,Bool.not_eq_false',decide_eq_false_iff_not,ne_eq,Classical.not_not] at l;refine W ?_;exact⟨f+1,⟨rfl,rfl⟩,⟨e,om,by intro i D;rcases Nat.lt_or_ge i f with h|h;exact o i h;rw[show i=f by omega];exact l⟩,om⟩;have t:=Vf λi D=>o i om;clear o;refine W ?_;refine aA (Jf _ _ _ _) ?_;rintro _ _ ⟨rfl,rfl⟩;refine WZ ?_;apply oB 6 30 36 rfl oQ;intro J;simp at J;have s:=l8 (bs:=bs) (i:=0) om;obtain⟨b,off,y,E,c1,z,F,c2,rfl,g,q,B,p,m⟩:=xT d s;refine zm<|zi (i:=0) jb fR rfl rfl om<|zf PB rfl<|zl gH rfl (g 0 _ rfl) ?_;exact oQ;intro H;refine WZ ?_;apply oB 7 37 44 rfl oQ;intro K;simp at K;have s:=l8 (bs:=bs) (i:=0) om;obtain⟨b,off,y,E,c1,z,F,c2,rfl,g,q,B,p,m⟩:=xT d s;subst q;refine zm<|zi (i:=0) jb fR rfl rfl om<|zf PC rfl<|zl vh rfl (g 1 _ rfl) ?_;exact oQ;intro H;refine W ?_;exact⟨_,rfl,show Value.bool _=Value.bool _ from congrArg _ (by rw[t];exact aeh O λ_=>rfl),e⟩
def cw.enc (b:cw):List C:=[.val<|str b.aM,.sl 2<|du b.regs,.sl 2 (du b.code)]
def px (L:List Nat) (w:World) (v:Value) (b:cw):Prop:=jg L w v b.enc
theorem px.ext {b:cw} (h:px L w v b) (k:aj [] w w'):px L w' v b:=jg.ext h k
theorem px.grow {b:cw} (h:px L w v b):px (w.heap.size::L) w v b:=jg.fresh h uR
theorem px.aB {b:cw} (h:px L w v b) (k:aj L' w w') (a:∀x∈L',x∈L):px L w' v b:=jg.aG h<|k.mono a
theorem px.dY {b:cw} (h:px L w v b) (a:∀x∈L',x∈L):px L' w v b:=jg.fresh h λx c=>.inl<|a x c
theorem Xp {b:cw} (h:dG L w vs b.enc):∃a c,vs=[str b.aM,a,c]/\da L w a b.regs/\da L w c b.code:=by
 rw[cw.enc] at h
 match vs,h with
 |[_,a,c],h=>obtain⟨d,e,f,_⟩:=h;cases d;exact⟨a,c,rfl,e,f⟩
 |[],h=>exact h.elim
 |[_],h=>exact h.2.elim
 |[_,_],h=>exact h.2.2.elim
 |_::_::_::_::_,h=>exact h.2.2.2.elim
theorem zy {b:List aq} (h:da L w v b):∃a c,v= .slice a b.length c:=by grind [da,tL,iG]
theorem Xq {b:cw} (h:px L w v b):∃a c1 c c2,v= .agg #[str b.aM,.slice a b.regs.length c1,.slice c b.code.length c2]/\
  da L w (.slice a b.regs.length c1) b.regs/\da L w (.slice c b.code.length c2) b.code:=by
 obtain⟨vs,rfl,f⟩:=h;obtain⟨_,_,rfl,d,e⟩:=Xp f;obtain⟨a,c1,rfl⟩:=zy d;obtain⟨c,c2,rfl⟩:=zy e;exact⟨a,c1,c,c2,rfl,d,e⟩
theorem Qs {l:ak} {r c:List aq} {a b:Value} (d:da L w a r) (e:da L w b c):px L w (.agg #[str l,a,b]) ⟨l,r,c⟩:=
 ⟨[str l,a,b],rfl,.val _,d,e,trivial⟩
theorem px.lP {x y:Value} {b:cw} (h:px L w (.agg #[x,y,z]) b):dG L w [x,y,z] b.enc:=by
 obtain⟨vs,a,c⟩:=h;have d:vs=[x,y,z]:=by have:=congrArg (λv=>match v with|Value.agg x=>x.toList|_=>[]) a;simpa using this.symm
 rw[<-d];exact c
def jf (L:List Nat) (w:World) (v:Value) (a:List cw):Prop:=cj L w v (.sl 3<|a.map cw.enc)
theorem jf.ext (h:jf L w v ps) (k:aj [] w w'):jf L w' v ps:=cj.ext h k
theorem jf.grow {b:List cw} (h:jf L w v b):jf (w.heap.size::L) w v b:=cj.fresh h uR
theorem jf.aB {b:List cw} (h:jf L w v b) (k:aj L' w w') (a:∀x∈L',x∈L):jf L w' v b:=cj.aG h<|k.mono a
theorem jf.dY {b:List cw} (h:jf L w v b) (a:∀x∈L',x∈L):jf L' w v b:=cj.fresh h λx c=>.inl<|a x c
theorem Xr:jf L w (.slice none 0 0) []:=.nil _ _ _
theorem ua (h:jf L w v ps):∃a c,v= .slice a ps.length c:=by grind [jf,tL]
theorem yj {a:Option Addr} {c:Nat} {k:cw} (h:jf L w (.slice a n c) ps) (m:ps[i]?=some k):
  ∃b off d c1 e c2,a=some ⟨b,off,none⟩/\fZ w b (off+i*3) [str k.aM,.slice d k.regs.length c1,.slice e k.code.length c2]/\da L w (.slice d k.regs.length c1) k.regs/\da L w (.slice e k.code.length c2) k.code:=by
 obtain⟨b,off,vs,j,hb,_,_,l,o⟩:=Ah h (show(ps.map cw.enc)[i]?=some k.enc by simp[m]);obtain⟨_,_,rfl,f,g⟩:=Xp o;obtain⟨d,c1,rfl⟩:=zy f;obtain⟨e,c2,rfl⟩:=zy g;exact⟨b,off,d,c1,e,c2,j,l,f,g⟩
theorem Gr.prog {T:TypeId} {g:Option Nat} (h:Gr B L w T 3 v g (ps.map cw.enc)):jf L w v ps:=h.done
section
variable {P:Program} {n:Nat} {ops:Array Oper} {K:Env->World->Prop} {rest:List Oper} {e:Env} {w:World}
 {dst:Option Nat} {ty:TypeId} {pos:String} {after:Array Edge} {g:Option (Nat×Bool)} {x y:Operand}
theorem ajZ {B:Nat} {L:List Nat} {v r s A:Value} {m:Option Nat} {d:List cw} {f:cw} {b U:Nat} (J:P.underlying t=some (.slice E)) (H:TI P E 3 bytes z) (N:gate ops e g=true) (M:cJ n dst=true) (T:Nat.beq z.cells.size 3=true) (F:Nat.ble bytes 1000=true) 
  (R:ev e x=v) (S:ev e y= .slice (some ⟨b,0,none⟩) 1 1) (I:Gr B L w E 3 v m (d.map cw.enc)) (hb:aK w b [r,s,A].toArray U)
  (q:px (m.toList++L) w (.agg #[r,s,A]) f) (O:d.length<100000000)
  (k:∀j a l w',Gr B L w' E 3 (.slice j (d++[f]).length a) l ((d++[f]).map cw.enc)->aj m.toList w w'->OW P n ops K rest (bU e dst (.slice j (d++[f]).length a)) w'):
  OW P n ops K (⟨dst,.call {callee:=.builtin .append,args:=#[x,y],argTypes:=#[t,t]},ty,pos,after,g⟩::rest) e w:=by
 refine Gq J H N M T F R S I hb rfl ?_ q.lP (by simpa using O) ?_
 .rw[List.all_eq_true];refine λu Q=>dG.IC q.lP (λc o v i=>?_) u Q;rw[cw.enc] at o;simp only[mC,List.not_mem_nil,or_false] at o;rcases o with h|h|h
  .rw[h] at i;cases i;rfl
  .rw[h] at i;cases i
  .rw[h] at i;cases i
 .intro j a l w' p hk;have C:(d.map cw.enc).length+1=(d++[f]).length:=by simp
  have D:d.map cw.enc++[f.enc]=(d++[f]).map cw.enc:=by simp
  rw[C] at p⊢;rw[D] at p;exact k j a l w' p hk
end
theorem wX:∀(m:Nat) (t:aq),t.size<=m->WF t->t.size<=100000000->t.text.length<=100000000->∀(v:Value) (L:List Nat) (w:World),bg L w v t->
  bu Tryz.prog 116 [v] w λr w'=>r=str t.text/\aj [] w w':=by
 intro m;induction m with
 |zero=>intro t h e;have:=Pf e;omega
 |succ m N=>
  intro t _ e _ _ v L w K;obtain⟨a,n,c,rfl,I,A⟩:=db K;subst I;have U:=oF t;have d:=aj.refl [] w;refine cg [.tmp 2] 31 Tryz.func116 rfl afD rfl rfl ?_;refine zr<|eJ rfl λ_ z f _=>?_;have d:=d.ext z;refine W ?_;refine zc rfl (λo=>?_) λo=>?_;have J:=VD e (by rw[e.leaf o];rfl);refine W ?_;exact⟨_,rfl,show str _=str _ from congrArg _ J.symm,d⟩;have j:t.au=[]:=Classical.not_not.1 o;refine W ?_;refine et (λk:Nat=>[(1,.pointer<|some ⟨w.heap.size,0,none⟩),(3,str (xX<|t.ag.take k)),(4,.int .i64 (k:Int))]) (λk w'=>aj [] w w'/\aK w' w.heap.size [str t.au,.slice a t.ag.length c].toArray 103/\k<=t.ag.length) (λk=>t.ag.length-k) (0) (⟨rfl,rfl,rfl⟩) (⟨d,f,om⟩) λb P _ p=>?_;obtain⟨d,f,hk⟩:=p;refine W ?_;refine zc rfl (λF=>?_) λF=>?_;have C:=eK (ps:=t.ag) (i:=b) om;obtain⟨_,_,_,_,_,rfl,M,B,D⟩:=iB A C;subst B;have y:=e.nth (i:=b) om;have T:=kZ (t:=t) (i:=b) om;have u:=Pr e j hk;have S:=Pr e j (k:=b+1) om;have s:=VF (ps:=t.ag) (k:=b) om;have g:=congrArg List.length s;rw[lA] at g;refine W ?_;refine jl (λ_:Unit=>[(1,.pointer<|some ⟨w.heap.size,0,none⟩),(3,str<|xX (t.ag.take b)++(if b=0 then[] else[32])),(4,.int .i64 (b:Int))]) (λ_ w'=>w'=P) ?_ ?_;refine zc rfl (λH=>?_) λH=>?_;have l:¬b=0:=by omega
  refine W ?_;exact⟨(),⟨rfl,by rw[iN l];rfl,rfl⟩,rfl⟩;have l:b=0:=by omega
  refine WZ ?_;exact⟨(),⟨rfl,by rw[iP l,List.append_nil];rfl,rfl⟩,rfl⟩;intro _ Q _ p;obtain rfl:=p;refine WL ?_;refine zl jD rfl (f.at rfl)<|zm<|zi cW aP rfl rfl om<|zL fQ aP rfl (M.ext d) rfl<|aA (N (nth t.ag b) om y om om _ L Q<|(kA D).ext d) ?_;rintro _ _ ⟨rfl,q⟩;have R:=q.size;refine bJ q d f λd f=>?_;refine iZ rfl rfl om<|W ?_;exact⟨b+1,⟨rfl,by rw[s];rfl,rfl⟩,⟨d,f,om⟩,om⟩;have E:b=t.ag.length:=by omega
  have O:=VG e j;have u:=Pr e j hk;subst E;refine WS ?_;refine iZ rfl rfl (by simp at u⊢;omega)<|zA<|aV<|kW ?_;exact⟨_,rfl,show str _=str _ from congrArg _ O,d⟩
theorem AR (h:ak) (ps:List ak) (y:(eN h ps).length<=1000000000) (v:Value) (L:List Nat) (w:World) (l:bo L w v ps):bu Tryz.prog 79 [str h,v] w λr w'=>r=str (eN h ps)/\aj [] w w':=by
 obtain⟨a,n,c,rfl,t⟩:=er l;subst t;have d:=aj.refl [] w;have f:=λk=>afm (h:=h) (ps:=ps) k;have u:(xY h ps 0).length=h.length+1:=by simp[xY,r5]
 have o:=f 0;have z:ps.length<=(eN h ps).length:=by simp only[eN,lC,lA,VM,kB];omega
 refine cg [.tmp 4] 24 Tryz.func79 rfl ahP rfl rfl ?_;refine WS ?_;refine iZ rfl rfl (by simp only[lC,List.length_nil];omega)<|W ?_;refine et (λk:Nat=>[(1,.slice a ps.length c),(5,str<|xY h ps k),(6,.int .i64 (k:Int))]) (λk w'=>aj [] w w'/\k<=ps.length) (λk=>ps.length-k) (0) (⟨rfl,show str _=str _ from congrArg _<|by simp[xY,r5],rfl⟩) (⟨d,om⟩) λb _ _ q=>?_;obtain⟨d,hk⟩:=q;refine W ?_;refine zc rfl (λp=>?_) λp=>?_;have s:=jW (xs:=ps) (i:=b) om;obtain⟨_,_,rfl,m⟩:=pg l s;have j:=afk (h:=h) (ps:=ps) (k:=b) om;have e:=congrArg List.length j;simp only[lA,lC,List.length_nil] at e;have g:=f<|b+1;refine WS ?_;refine iZ rfl rfl (by simp only[lC,List.length_nil];omega)<|WL ?_;refine zl gH rfl (m.ext d 0 _ rfl)<|iZ rfl rfl (by simp only[lA,lC,List.length_nil];omega)<|W ?_;exact⟨b+1,⟨rfl,show str _=str _ from congrArg _ j.symm,rfl⟩,⟨d,om⟩,om⟩;have g:=f b;refine WS ?_;refine iZ rfl rfl (by simp only[lC,List.length_nil];omega)<|zA<|aV<|kW ?_;exact⟨_,rfl,show str _=str _ from congrArg _<|afl om,d⟩
def apart:List (Option Nat×Option Nat)->Prop
 |[]=>True
 |g::gs=>(∀x,x∈jY g->x∉iC gs)/\apart gs
theorem Mt (g:Option Nat×Option Nat) (a:List (Option Nat×Option Nat)):iC (g::a)=jY g++iC a:=by simp[iC]
theorem Qt (a:List (Option Nat×Option Nat)) (g:Option Nat×Option Nat):iC (a++[g])=iC a++jY g:=by simp[iC]
section
variable {P:Program} {n:Nat} {ops:Array Oper} {K:Env->World->Prop} {rest:List Oper} {e:Env} {w:World}
 {dst:Option Nat} {ty:TypeId} {pos:String} {after:Array Edge} {g:Option (Nat×Bool)} {x y:Operand}
end
end Go.Proofs.YtcildnfcpkpomaaGreatDoor
