/- Lemmas for the law FnNames, no statement of their own: no conditions. -/
import Derived.Test.YtcildnfcpkpomaaGreatDoorFc
import Derived.Deep.Strs
import Derived.Laws.MakeOwn
set_option maxHeartbeats 4000000
set_option linter.unusedVariables false
set_option linter.unusedSimpArgs false
namespace Go.Proofs.YtcildnfcpkpomaaGreatDoor
open Go
variable {w w' w0:World} {k k':IntKind} {B E N U b bytes i m n o off sz t:Nat} {l:List Oper} {L L' d:List Nat} {r:List (List Nat)} {V v z:Value} {e0:Env} {p q:Prop} {c:Operand} {a:Int} {vs xs:List Value} {P:Program} {ops:Array Oper} {rows:List (List C)} {ps:List cW}
inductive Iu where
 |v (V:Value)
 |p (f:List Nat->Value->World->Prop)
 |e (t:Nat)
 |w (t:Nat) (V:Value)
 |d (f:List Value->Value)
 |u
def Iu.F:Iu->List Nat->Value->World->Prop
 | .v V=>λ_ v _=>v=V
 | .p f=>f
 | .w _ V=>λ_ v _=>v=V
 |_=>λ_ _ _=>True
def Iu.k7:Iu->Option Nat
 | .e t=>some t
 | .w t _=>some t
 |_=>none
def Iu.s0:Iu->Bool
 | .u=>true
 |_=>false
def Iu.late:Iu->Bool
 | .u=>true
 | .d _=>true
 |_=>false
abbrev gm:Iu:=.p λ_ _ _=>True
def uo (b:List Iu) (c:List Nat) (G:List Nat) (aU:List Value) (w:World):List Nat->(List (Nat×Value)->Prop)->Prop
 |[],k=>k []
 |j::r,k=>match b.getD j gm with
  | .v V=>uo b c G aU w r λa=>k ((c.getD j 0,V)::a)
  | .p f=>∀v,f G v w->uo b c G aU w r λa=>k ((c.getD j 0,v)::a)
  | .e t=>uo b c G aU w r λa=>k ((c.getD j 0,aU.getD t undef)::a)
  | .w _ V=>uo b c G aU w r λa=>k ((c.getD j 0,V)::a)
  | .d f=>uo b c G aU w r λa=>k ((c.getD j 0,f aU)::a)
  | .u=>∀v,uo b c G aU w r λa=>k ((c.getD j 0,v)::a)
def VJ (q:Iu) (G:List Nat) (aU:List Value) (v:Value) (w:World):Prop:=q.F G v w/\(∀t,q= .e t->aU.getD t undef=v)/\∀f,q= .d f->f aU=v
theorem xd {b:List Iu} {l:List Nat} {G:List Nat} {aU:List Value} {vs:Nat->Value}:∀{deps:List Nat} {k:List (Nat×Value)->Prop},uo b l G aU w deps k->
  (∀j∈deps,VJ (b.getD j gm) G aU (vs j) w)->k (vh l vs deps)
 |[],k,h,_=>h
 |j::r,k,h,hd=>by
  obtain⟨c,m,o⟩:=hd j<|List.mem_cons_self ..;unfold uo at h;have g:∀i∈r,_:=λi n=>hd i<|mK _ n;cases e:b.getD j gm with
  |v V=>rw[e] at h c;have a:vs j=V:=c;subst a;exact xd (deps:=r) h g
  |p f=>rw[e] at h c;exact xd (deps:=r) (h _ c) g
  |e t=>rw[e] at h;have a:=m t e;simp only[a] at h;exact xd (deps:=r) h g
  |w t V=>rw[e] at h c;have a:vs j=V:=c;subst a;exact xd (deps:=r) h g
  |d f=>rw[e] at h;have a:=o f e;simp only[a] at h;exact xd (deps:=r) h g
  |u=>rw[e] at h;exact xd (deps:=r) (h _) g
section
variable (P:Program) (n:Nat) (ops:Array Oper) (W ds:List Nat) (its:List Iu) (Js:List (List Nat->List Value->World->Prop)) (JF:(Nat->Bool)->List Nat->List Value->World->Prop) (e0:Env) (G0:List Nat) (w0:World)
def K8 (i:Nat) (o:Oper) (b:List Nat):Prop:=
 ∀(x:Env) (w:World) (G:List Nat) (aU:List Value),Fr G0 w0 G w->fB G w->uo its ds G aU w b λa=>
  OW P n ops (λc w'=>ak [] w w'/\(its.getD i gm).F G (c<|ds.getD i 0) w'/\eM [ds.getD i 0] (ba (aZ W x e0) a) c) [o] (ba (aZ W x e0) a) w
def Ia (t i:Nat) (o:Oper) (b:List Nat):Prop:=
 ∀(x:Env) (w:World) (G:List Nat) (aU:List Value),Fr G0 w0 G w->fB G w->Js.getD t (λ_ _ _=>True) G aU w->aU.length=t->uo its ds G aU w b λa=>
  OW P n ops (λd w'=>(∃c,Fr G w c w'/\fB c w'/\Js.getD (t+1) (λ_ _ _=>True) c (aU++[d (ds.getD i 0)]) w'/\(its.getD i gm).F c (d<|ds.getD i 0) w')/\eM [ds.getD i 0] (ba (aZ W x e0) a) d) [o] (ba (aZ W x e0) a) w
def Pe (ne:Nat) (f:List Value->Value) (i:Nat) (o:Oper) (b:List Nat):Prop:=
 ∀(x:Env) (w:World) (G:List Nat) (aU:List Value) (S:Nat->Bool),Fr G0 w0 G w->fB G w->JF S G aU w->aU.length=ne->uo its ds G aU w b λa=>
  OW P n ops (λc w'=>ak [] w w'/\c (ds.getD i 0)=f aU/\eM [ds.getD i 0] (ba (aZ W x e0) a) c) [o] (ba (aZ W x e0) a) w
def Pf (ne i:Nat) (o:Oper) (b:List Nat):Prop:=
 ∀(x:Env) (w:World) (G:List Nat) (aU:List Value) (S:Nat->Bool),Fr G0 w0 G w->fB G w->JF S G aU w->S i=false->aU.length=ne->uo its ds G aU w b λa=>
  OW P n ops (λd w'=>(∃c,Fr G w c w'/\fB c w'/\JF (λj=>if j=i then true else S j) c aU w')/\eM [ds.getD i 0] (ba (aZ W x e0) a) d) [o] (ba (aZ W x e0) a) w
def uc (ne i:Nat) (o:Oper) (a:List Nat):Prop:=match its.getD i gm with
 | .e t=>Ia P n ops W ds its Js e0 G0 w0 t i o a
 | .w t _=>Ia P n ops W ds its Js e0 G0 w0 t i o a
 | .d f=>Pe P n ops W ds its JF e0 G0 w0 ne f i o a
 | .u=>Pf P n ops W ds its JF e0 G0 w0 ne i o a
 |_=>K8 P n ops W ds its e0 G0 w0 i o a
def sj (ne:Nat):Nat->List Oper->List (List Nat)->Prop
 |_,[],_=>True
 |_,_::_,[]=>True
 |k,o::l,d::r=>uc P n ops W ds its Js JF e0 G0 w0 ne k o d/\sj ne (k+1) l r
end
section
variable {P:Program} {n:Nat} {ops:Array Oper} {W ds:List Nat} {its:List Iu} {Js:List (List Nat->List Value->World->Prop)} {JF:(Nat->Bool)->List Nat->List Value->World->Prop} {e0:Env} {G0:List Nat} {w0:World} {ne:Nat}
theorem uf {k:Nat} {o:Oper} (h:K8 P n ops W ds its e0 G0 w0 k o d) (a:sj P n ops W ds its Js JF e0 G0 w0 ne (k+1) l r) (hk:(its.getD k gm).k7=none/\(its.getD k gm).late=false:=by exact⟨rfl,rfl⟩):sj P n ops W ds its Js JF e0 G0 w0 ne k (o::l) (d::r):=by grind [K8,sj,Ie.k7,Iu.k7,Iu.late,uc]
theorem ue (t:Nat) {k:Nat} {o:Oper} (h:Ia P n ops W ds its Js e0 G0 w0 t k o d) (a:sj P n ops W ds its Js JF e0 G0 w0 ne (k+1) l r) (hk:(its.getD k gm).k7=some t:=by rfl):sj P n ops W ds its Js JF e0 G0 w0 ne k (o::l) (d::r):=by grind [Ia,sj,Ie.k7,Iu.k7,uc]
theorem ud {k:Nat} {o:Oper} {f:List Value->Value} (h:Pe P n ops W ds its JF e0 G0 w0 ne f k o d) (a:sj P n ops W ds its Js JF e0 G0 w0 ne (k+1) l r) (hk:its.getD k gm= .d f:=by rfl):sj P n ops W ds its Js JF e0 G0 w0 ne k (o::l) (d::r):=by grind [Pe,sj,uc]
theorem uu {k:Nat} {o:Oper} (h:Pf P n ops W ds its JF e0 G0 w0 ne k o d) (a:sj P n ops W ds its Js JF e0 G0 w0 ne (k+1) l r) (hk:its.getD k gm= .u:=by rfl):sj P n ops W ds its Js JF e0 G0 w0 ne k (o::l) (d::r):=by grind [Pf,sj,uc]
theorem VK:∀(l:List Oper) (a:List (List Nat)) (k:Nat),sj P n ops W ds its Js JF e0 G0 w0 ne k l a->∀(i:Nat) (o:Oper) (d:List Nat),l[i]?=some o->a[i]?=some d->uc P n ops W ds its Js JF e0 G0 w0 ne (k+i) o d
 |[],_,_,_,i,o,d,h,_=>by simp at h
 |_::_,[],_,_,i,o,d,_,h=>by simp at h
 |o::l,d::r,k,h,0,o',d',ho,hd=>by simp at ho hd;subst ho;subst hd;exact h.1
 |o::l,d::r,k,h,i+1,o',d',ho,hd=>by have:=VK l r (k+1) h.2 i o' d' (by simpa using ho) (by simpa using hd);rwa [show k+1+i=k+(i+1) by omega] at this
end
def uB (l:List Oper) (m:Nat) (a:List Nat) (b:List Iu):Bool:=
 (List.range a.length).all (λt=>decide (a.getD t 0<m)&&((b.getD (a.getD t 0) gm).k7==some t)&&(decide (t=0)||(match l[a.getD t 0]? with|some o=>waits o (a.getD (t-1) 0)|none=>false)))&&
 (List.range m).all (λi=>(match(b.getD i gm).k7 with|some t=>decide (t<a.length)&&decide (a.getD t 0=i)|none=>true)&&
  (!(b.getD i gm).late||decide (a.length=0)||(match l[i]? with|some o=>waits o (a.getD (a.length-1) 0)|none=>false)))&&
 decide (b.length<=m)
theorem ahT {d:List Nat} {e:List Iu} (h:uB l m d e=true):
  (∀t,t<d.length->d.getD t 0<m/\(e.getD (d.getD t 0) gm).k7=some t/\(t≠0->∃o,l[d.getD t 0]?=some o/\waits o (d.getD (t-1) 0)=true))/\
  (∀i t,i<m->(e.getD i gm).k7=some t->t<d.length/\d.getD t 0=i)/\
  (∀i,i<m->(e.getD i gm).late=true->d.length≠0->∃o,l[i]?=some o/\waits o (d.getD (d.length-1) 0)=true)/\e.length<=m:=by
 unfold uB at h;rw[aE,aE,List.all_eq_true,List.all_eq_true,dE] at h;obtain⟨⟨p,j⟩,q⟩:=h;refine⟨λt u=>?_,λi t g r=>?_,λi g f s=>?_,q⟩
 .have:=p t<|List.mem_range.2 u;simp only[aE,dE,beq_iff_eq,oE] at this;obtain⟨⟨a,b⟩,c⟩:=this;refine⟨a,b,λn=>?_⟩;rcases c with c|c
  .exact absurd c n
  .cases f:l[d.getD t 0]? with
   |none=>rw[f] at c;cases c
   |some o=>rw[f] at c;exact⟨o,rfl,c⟩
 .have:=j i<|List.mem_range.2 g;rw[r] at this;simp only[aE,dE] at this;exact this.1
 .have:=j i<|List.mem_range.2 g;rw[aE,f] at this;have:=this.2;simp only[Bool.not_true,Bool.false_or,oE,dE] at this;rcases this with c|c
  .exact absurd c s
  .cases f:l[i]? with
   |none=>rw[f] at c;cases c
   |some o=>rw[f] at c;exact⟨o,rfl,c⟩
def Ib:List Iu->Prop
 |[]=>True
 | .p f::r=>(∀G v w a w',f G v w->Fr G w a w'->f a v w')/\Ib r
 |_::r=>Ib r
theorem DE:∀{its:List Iu},Ib its->∀q∈its,∀G v w b w',q.F G v w->Fr G w b w'->q.F b v w'
 |s::r,h,q,hq,G,v,w,b,w',hf,hk=>by
  rcases mC.1 hq with e|a
  .subst e;cases q with
   |p f=>exact h.1 _ _ _ _ _ hf hk
   |_=>exact hf
  .cases s with
   |p f=>exact DE (its:=r) h.2 q a _ _ _ _ _ hf hk
   |v V=>exact DE (its:=r) h q a _ _ _ _ _ hf hk
   |e t=>exact DE (its:=r) h q a _ _ _ _ _ hf hk
   |w t V=>exact DE (its:=r) h q a _ _ _ _ _ hf hk
   |d f=>exact DE (its:=r) h q a _ _ _ _ _ hf hk
   |u=>exact DE (its:=r) h q a _ _ _ _ _ hf hk
theorem VL {a:List Iu} (h:Ib a) (i:Nat) {G:List Nat} {c:List Nat} (b:(a.getD i gm).F G v w) (hk:Fr G w c w'):(a.getD i gm).F c v w':=by
 rw[gG] at b⊢;cases e:a[i]? with
 |none=>trivial
 |some q=>rw[e] at b;exact DE h q (List.mem_of_getElem? e) _ _ _ _ _ b hk
section
variable {P:Program} {n:Nat} {l:List Oper} {m:Nat} {W ds:List Nat} {deps:List (List Nat)}
theorem VM {N R:Env->World->Prop} {X:Nat->Env->World->Prop} {id:Nat} {Z:Env} {K:World} (hm:P.follows .mixedOrders=true) (G0:List Nat) (m:Nat) (W s:List Nat) (B:List (List Nat)) (c:List Iu) (b:List Nat) (Js:List (List Nat->List Value->World->Prop)) (JF:(Nat->Bool)->List Nat->List Value->World->Prop) 
  (hB:vj l m W s B=true) (hE:uB l m b c=true) (hL:fB G0 K) (hF:Ib c) (hJ:K7 Js) (VN:∀S G vs w w',JF S G vs w->ak [] w w'->JF S G vs w') (h0:Js.getD 0 (λ_ _ _=>True) G0 [] K)
  (K9:∀G vs w,Js.getD b.length (λ_ _ _=>True) G vs w->vs.length=b.length->JF (λ_=>false) G vs w)
  (hc:sj P n l.toArray W s c Js JF Z G0 K b.length 0 (l.take m) B)
  (ht:∀(x:Env) (w:World) (G:List Nat) (aU:List Value),Fr G0 K G w->fB G w->JF (λi=>(c.getD i gm).s0) G aU w->aU.length=b.length->uo c s G aU w (List.range m) λacc=>OW P n l.toArray N (l.drop m) (ba (aZ W x Z) acc) w):
  CW P n (.region id l.toArray true) N R X Z K:=λa ha=>by
 refine wp_region_any hm ?_;have gz:ak [] K {K with drawn:=K.drawn+1}:=ak.drew _ _;obtain⟨_,_,_,jw,nu⟩:=Fj hB;obtain⟨oS,lz,Ic,_⟩:=ahT hE;have dD:∀i j,i<m->j<m->i≠j->s.getD j 0≠s.getD i 0:=λi j hi q mv=>by rw[gG,gG,gE om,gE om];simp only[Option.getD_some];intro he;exact mv ((List.getElem_inj jw).1 he.symm)
 let I:Nat->Env->List Value:=λk e=>(b.take k).map λi=>e<|s.getD i 0;let Y:(Nat->Bool)->Nat->Bool:=λS i=>S i&&(c.getD i gm).s0;let Inv:(Nat->Bool)->Env->World->Prop:=λS e w=>∃G k,eM W Z e/\Fr G0 K G w/\fB G w/\k<=b.length/\(∀t,t<b.length->(S (b.getD t 0)=true↔t<k))/\
  (k<b.length->Js.getD k (λ_ _ _=>True) G (I k e) w/\∀i,i<m->S i=true->(c.getD i gm).late=false)/\(k=b.length->JF (Y S) G (I k e) w)/\
  ∀i,i<m->S i=true->(c.getD i gm).F G (e<|s.getD i 0) w/\∀f,c.getD i gm= .d f->f (I k e)=e (s.getD i 0)
 have H6:∀(S:Nat->Bool) (e:Env) (k:Nat),(∀t,t<b.length->(S (b.getD t 0)=true↔t<k))->k<=b.length->∀j t,j<m->S j=true->(c.getD j gm).k7=some t->(I k e).getD t undef=e (s.getD j 0):=by intro S e k O hk j t q F he;obtain⟨y,C⟩:=lz j t q he;have U:t<k:=(O t y).1 (by rw[C];exact F);show((b.take k).map λi=>e<|s.getD i 0).getD t undef=_;rw[gG,List.getElem?_map,List.getElem?_take,iP U,gE y];rw[gG,gE y] at C;simp only[Option.getD_some] at C;simp[C]
 have Ig:∀k e,k<=b.length->(I k e).length=k:=λk e hk=>by show((b.take k).map _).length=k;simp;omega
 have step:∀(S:Nat->Bool) (e:Env) (w:World) (i:Nat) (o:Oper),i<m->l[i]?=some o->S i=false->(∀j,waits o j=true->S j=true)->Inv S e w->
   OW P n l.toArray (λg w'=>Inv (λj=>if j=i then true else S j) g w') [o] e w:=by
  rintro S e w i o rY ho vD BO ⟨G,k,rh,bK,qF,gY,O,wZ,FT,pU⟩;obtain⟨hW,Bd⟩:=(nu i o ho).2.1 rY;obtain⟨dp,Be⟩:∃d,B[i]?=some d:=⟨B[i]'om,gE om⟩;have Db:B.getD i []=dp:=by rw[gG,Be];rfl
  rw[Db] at Bd;have A:=VK (l.take m) B 0 hc i o dp (by rw[List.getElem?_take,iP rY];exact ho) Be;rw[Nat.zero_add] at A;have hd:∀j∈dp,VJ (c.getD j gm) G (I k e) (e (s.getD j 0)) w:=λj q=>by obtain⟨y,C⟩:=Bd j q;have U:=pU j C<|BO j y;exact⟨U.1,λt het=>H6 S e k O gY j t C (BO j y) (by rw[het];rfl),U.2⟩
  have H7:∀g,eM [s.getD i 0] e g->eM W Z g:=λg h t DC=>by
   have FP:t≠s.getD i 0:=λhe=>by rw[he,hW] at DC;cases DC
   rw[h t (by simpa using FP)];exact rh t DC
  have BP:∀g,eM [s.getD i 0] e g->∀j,j<m->j≠i->g (s.getD j 0)=e (s.getD j 0):=λg h j q z=>h _ (by simpa using dD i j rY q λh=>z h.symm);have fZ:[o]=[o]++[]:=rfl;have VO:∀g,eM [s.getD i 0] e g->∀k',k'<=b.length->(∀t,t<k'->b.getD t 0≠i)->I k' g=I k' e:=λg H k' qt od=>by
   show(b.take k').map _=(b.take k').map _;apply List.map_congr_left;intro j q;obtain⟨t,mI⟩:=List.mem_iff_getElem?.1 q;rw[List.getElem?_take] at mI;split at mI
   .rename_i eF;have E:t<b.length:=(List.getElem?_eq_some_iff.1 mI).1;have wI:b.getD t 0=j:=by rw[gG,mI];rfl
    exact BP g H j (by have:=(oS t E).1;rw[wI] at this;exact this) λh=>od t eF<|wI.trans h
   .cases mI
  -- what is late comes behind the last effect
  have VP:(c.getD i gm).late=true->k=b.length:=λhl=>by
   rcases Nat.eq_zero_or_pos b.length with h0|h0
   .omega
   .obtain⟨o',nV,H8⟩:=Ic i rY hl om;rw[ho] at nV;cases nV;have:=(O (b.length-1) om).1<|BO _ H8;omega
  -- an operation that is no effect in the order
  have T:∀(g:Env) (w':World) (M:List Nat),(c.getD i gm).k7=none->eM [s.getD i 0] e g->Fr G w M w'->fB M w'->
    (k<b.length->Js.getD k (λ_ _ _=>True) M (I k e) w'/\(c.getD i gm).late=false)->(k=b.length->JF (Y λj=>if j=i then true else S j) M (I k e) w')->
    (c.getD i gm).F M (g<|s.getD i 0) w'->(∀f,c.getD i gm= .d f->f (I k e)=g (s.getD i 0))->Inv (λj=>if j=i then true else S j) g w':=by
   intro g w' M uk H yg DD BS s5 zQ hDi;have od:∀t,t<b.length->b.getD t 0≠i:=λt E h=>by have:=(oS t E).2.1;rw[h,uk] at this;cases this
   have DF:=VO g H k gY λt ht=>od t om;refine⟨M,k,H7 g H,bK.go yg,DD,gY,λt E=>?_,λeF=>⟨?_,λj q F=>?_⟩,λD=>?_,λj q F=>?_⟩
   .simp only[iN (od t E)];exact O t E
   .rw[DF];exact(BS eF).1
   .by_cases z:j=i
    .rw[z];exact(BS eF).2
    .simp only[iN z] at F;exact(wZ eF).2 j q F
   .rw[DF];exact s5 D
   .rw[DF];by_cases z:j=i
    .rw[z];exact⟨zQ,hDi⟩
    .simp only[iN z] at F;rw[BP g H j q z];exact⟨VL hF j (pU j q F).1 yg,(pU j q F).2⟩
  have VQ:(c.getD i gm).s0=false->Y (λj=>if j=i then true else S j)=Y S:=λh=>by
   funext j;show((if j=i then true else S j)&&(c.getD j gm).s0)=(S j&&(c.getD j gm).s0);by_cases z:j=i
   .rw[z,h];simp
   .rw[iN z]
  -- the cases
  have J:K8 P n l.toArray W s c Z G0 K i o dp->(c.getD i gm).k7=none->(c.getD i gm).late=false->(∀f,c.getD i gm≠ .d f)->(c.getD i gm).s0=false->OW P n l.toArray (λg w'=>Inv (λj=>if j=i then true else S j) g w') [o] e w:=by intro A uk Ih Pg VR;have y:=xd (A e w G _ bK qF) (vs:=λj=>e<|s.getD j 0) hd;rw[BN rh] at y;rw[fZ];refine xP y ?_;rintro g w' ⟨qt,zQ,H⟩;exact aW (T g w' G uk H (Fr.of qt sm) (λx hx=>lL (qF x hx) qt.size) (λeF=>⟨H5 hJ k (wZ eF).1 qt,Ih⟩) (λD=>by rw[VQ VR];exact VN _ _ _ _ _ (FT D) qt) zQ λf Q=>absurd Q<|Pg f)
  have effC:∀t,(c.getD i gm).k7=some t->Ia P n l.toArray W s c Js Z G0 K t i o dp->(c.getD i gm).late=false->(∀f,c.getD i gm≠ .d f)->(c.getD i gm).s0=false->OW P n l.toArray (λg w'=>Inv (λj=>if j=i then true else S j) g w') [o] e w:=by
   intro t uk A Ih Pg VR;obtain⟨E,um⟩:=lz i t rY uk;have rC:k=t:=by
    have y:¬t<k:=λh=>by have:=(O t E).2 h;rw[um,vD] at this;cases this
    rcases Nat.eq_zero_or_pos t with h0|h0
    .omega
    .obtain⟨o',nV,H8⟩:=(oS t E).2.2 om;rw[um,ho] at nV;cases nV;have:=(O (t-1) om).1<|BO _ H8;omega
   subst rC;have y:=xd (A e w G _ bK qF (wZ E).1<|Ig k e gY) (vs:=λj=>e<|s.getD j 0) hd;rw[BN rh] at y;rw[fZ];refine xP y ?_;rintro g w' ⟨⟨M,yg,DD,FQ,zQ⟩,H⟩;have H9:∀L,L<b.length->b.getD L 0=i->L=k:=λL y C=>by have:=(oS L y).2.1;rw[C,uk] at this;cases this;rfl
   have DF:I k g=I k e:=VO g H k gY (λL _ h=>by have:=H9 L om h;omega);have fF:I (k+1) g=I k e++[g (s.getD i 0)]:=by
    have C:b[k]?=some i:=by rw[gG,gE E] at um;rw[gE E];simpa using um
    rw[<-DF];show(b.take<|k+1).map _=(b.take k).map _++_;rw[List.take_add_one,C,List.map_append];rfl
   have VS:∀j,j<m->(if j=i then true else S j)=true->(c.getD j gm).late=false:=λj q F=>by
    by_cases z:j=i
    .rw[z];exact Ih
    .rw[iN z] at F;exact(wZ E).2 j q F
   refine aW ⟨M,k+1,H7 g H,bK.go yg,DD,om,λL BQ=>?_,λ_=>⟨by rw[fF];exact FQ,VS⟩,λD=>?_,λj q F=>?_⟩
   .by_cases C:b.getD L 0=i
    .have:=H9 L BQ C;simp only[iP C];exact⟨λ_=>om,λ_=>trivial⟩
    .simp only[iN C];rw[O L BQ];have:L≠k:=λh=>by rw[h] at C;exact C um
     omega
   .have e1:Y (λj=>if j=i then true else S j)=λ_=>false:=by
     funext j;show((if j=i then true else S j)&&(c.getD j gm).s0)=false;by_cases Dc:j<m
     .cases hb:(if j=i then true else S j) with
      |false=>rfl
      |true=>
       have U:=VS j Dc hb;cases e:c.getD j gm with
       |u=>rw[e] at U;cases U
       |_=>rfl
     .rw[gG,List.getElem?_eq_none om];simp[Iu.s0]
    rw[e1];exact K9 _ _ _ (by rw[fF,<-D];exact FQ) (by rw[Ig _ _ om];omega)
   .by_cases z:j=i
    .rw[z];exact⟨zQ,λf Q=>absurd Q<|Pg f⟩
    .simp only[iN z] at F;rw[BP g H j q z];refine⟨VL hF j (pU j q F).1 yg,λf Q=>?_⟩;have:=(wZ E).2 j q F;rw[Q] at this;cases this
  cases r:c.getD i gm with
  |v V=>unfold uc at A;rw[r] at A;exact J A (by rw[r];rfl) (by rw[r];rfl) (λf h=>by rw[r] at h;cases h) (by rw[r];rfl)
  |p f=>unfold uc at A;rw[r] at A;exact J A (by rw[r];rfl) (by rw[r];rfl) (λf h=>by rw[r] at h;cases h) (by rw[r];rfl)
  |e t=>unfold uc at A;rw[r] at A;exact effC t (by rw[r];rfl) A (by rw[r];rfl) (λf h=>by rw[r] at h;cases h) (by rw[r];rfl)
  |w t V=>unfold uc at A;rw[r] at A;exact effC t (by rw[r];rfl) A (by rw[r];rfl) (λf h=>by rw[r] at h;cases h) (by rw[r];rfl)
  |d f=>unfold uc at A;rw[r] at A;have D:=VP (by rw[r];rfl);have y:=xd (A e w G _ _ bK qF (FT D) (by rw[Ig k e gY];exact D)) (vs:=λj=>e<|s.getD j 0) hd;rw[BN rh] at y;rw[fZ];refine xP y ?_;rintro g w' ⟨qt,DG,H⟩;exact aW (T g w' G (by rw[r];rfl) H (Fr.of qt sm) (λx hx=>lL (qF x hx) qt.size) (λeF=>om) (λD=>by rw[VQ (by rw[r];rfl)];exact VN _ _ _ _ _ (FT D) qt) (by rw[r];trivial) λf' Q=>by rw[r] at Q;cases Q;exact DG.symm)
  |u=>
   unfold uc at A;rw[r] at A;have D:=VP (by rw[r];rfl);have y:=xd (A e w G _ _ bK qF (FT D) (by show(S i&&_)=false;rw[vD];rfl) (by rw[Ig k e gY];exact D)) (vs:=λj=>e<|s.getD j 0) hd;rw[BN rh] at y;rw[fZ];refine xP y ?_;rintro g w' ⟨⟨M,yg,DD,FQ⟩,H⟩;refine aW (T g w' M (by rw[r];rfl) H yg DD (λeF=>om) (λD=>?_) (by rw[r];trivial) λf' Q=>by rw[r] at Q;cases Q);have e1:Y (λj=>if j=i then true else S j)=λj=>if j=i then true else Y S j:=by
    funext j;show((if j=i then true else S j)&&(c.getD j gm).s0)=if j=i then true else(S j&&(c.getD j gm).s0)
    by_cases z:j=i
    .rw[iP z,iP z,z,r];rfl
    .rw[iN z,iN z]
   rw[e1];exact FQ
 have tail:∀(S:Nat->Bool) (e:Env) (w:World),(∀i,i<m->S i=true)->Inv S e w->OW P n l.toArray N (l.drop m) e w:=by
  rintro S e w BR ⟨G,k,rh,bK,qF,gY,O,wZ,FT,pU⟩;have hk:k=b.length:=by
   rcases Nat.lt_or_ge k b.length with h|h
   .have:=(O k h).1<|BR _ (oS k h).1;omega
   .omega
  subst hk;have e1:Y S=λi=>(c.getD i gm).s0:=by
   funext j;show(S j&&(c.getD j gm).s0)=_;by_cases Dc:j<m
   .rw[BR j Dc];rfl
   .rw[gG,List.getElem?_eq_none om];simp[Iu.s0]
  have q:=FT rfl;rw[e1] at q;have y:=xd (ht e w G _ bK qF q (Ig _ e<|lR _)) (vs:=λj=>e<|s.getD j 0) (λj q=>by have qu:=List.mem_range.1 q;have U:=pU j qu<|BR j qu;exact⟨U.1,λt het=>H6 S e _ O gY j t qu (BR j qu) (by rw[het];rfl),U.2⟩);rw[BN rh] at y;exact y
 have jh:∀j,(Array.replicate l.length false).getD j false=false:=λj=>by rw[Array.getD_eq_getD_getElem?,Array.getElem?_replicate];split<;>rfl
 have Pd:Inv (λj=>(Array.replicate l.length false).getD j false) Z {K with drawn:=K.drawn+1}:=by
  have Hq:=H5 hJ 0 h0 gz;refine⟨G0,0,zt,Fr.of gz sm,λx hx=>hL x hx,Nat.zero_le _,λt E=>?_,λ_=>⟨Hq,λi hi vD=>?_⟩,λD=>?_,λi hi vD=>?_⟩
  .constructor
   .intro h;exact absurd ((jh (b.getD t 0)).symm.trans h) sm
   .intro h;omega
  .exact absurd ((jh i).symm.trans vD) sm
  .have e1:Y (λj=>(Array.replicate l.length false).getD j false)=λ_=>false:=by
    funext j;show((Array.replicate l.length false).getD j false&&_)=false;rw[jh];rfl
   rw[e1];exact K9 _ _ _ (by rw[<-D];exact Hq) (by show((b.take 0).map _).length=_;simpa using D)
  .exact absurd ((jh i).symm.trans vD) sm
 have:=VE (N:=N) (Inv:=Inv) hB step tail (l0 n N R X) l.length (Array.replicate l.length false) Z a _ ha sm
  (by
   have:((List.range l.length).filter λj=>!(Array.replicate l.length false).getD j true)=List.range l.length:=by rw[List.filter_eq_self];intro j q;rw[List.mem_range] at q;simp[Array.getD_eq_getD_getElem?,q]
   rw[this];simp)
  (by intro j _ q;simp[Array.getD_eq_getD_getElem?,q])
  Pd
  (by intro j o ho q;have qu:j<l.length:=(List.getElem?_eq_some_iff.1 ho).1;simp[Array.getD_eq_getD_getElem?,qu] at q)
 have e1:ql n N (l0 n N R X)=l0 n N R X:=by funext x a w;cases x<;>rfl
 rw[e1] at this;simpa using this
end
section
variable {P:Program} {n:Nat} {ops:Array Oper} {e:Env} {w w':World} {G:List Nat}
theorem uv {d:Nat} (h:v=V:=by rfl):OW P n ops (λa w'=>ak [] w w'/\(Iu.v V).F G (a d) w'/\eM [d] e a) [] (bW e (some d) v) w:=
 aW ⟨ak.refl _ _,by subst h;exact ni _ _ _,qp⟩
theorem up {d:Nat} {f:List Nat->Value->World->Prop} (k:ak [] w w') (h:f G v w'):OW P n ops (λa w'=>ak [] w w'/\(Iu.p f).F G (a d) w'/\eM [d] e a) [] (bW e (some d) v) w':=
 aW ⟨k,by show f G (iR e d v d) w';rw[ni];exact h,qp⟩
theorem uE {d:Nat} {aU:List Value} {J:List Nat->List Value->World->Prop} (a:List Nat) (k:Fr G w a w') (c:fB a w') (h:J a (aU++[v]) w'):OW P n ops (λb w'=>(∃a,Fr G w a w'/\fB a w'/\J a (aU++[b d]) w'/\(Iu.e t).F a (b d) w')/\eM [d] e b) [] (bW e (some d) v) w':=
 aW ⟨⟨a,k,c,by show J a (aU++[iR e d v d]) w';rw[ni];exact h,trivial⟩,qp⟩
theorem uW {d:Nat} {aU:List Value} {J:List Nat->List Value->World->Prop} (a:List Nat) (k:Fr G w a w') (c:fB a w') (h:J a (aU++[v]) w') (f:v=V:=by rfl):OW P n ops (λb w'=>(∃a,Fr G w a w'/\fB a w'/\J a (aU++[b d]) w'/\(Iu.w t V).F a (b d) w')/\eM [d] e b) [] (bW e (some d) v) w':=
 aW ⟨⟨a,k,c,by show J a (aU++[iR e d v d]) w';rw[ni];exact h,by subst f;exact ni _ _ _⟩,qp⟩
theorem uD {d:Nat} (k:ak [] w w') (h:v=V:=by rfl):OW P n ops (λa w'=>ak [] w w'/\a d=V/\eM [d] e a) [] (bW e (some d) v) w':=by grind [aW,ni,qp]
theorem uU {d:Nat} {Q:List Nat->World->Prop} (a:List Nat) (k:Fr G w a w') (c:fB a w') (h:Q a w'):OW P n ops (λb w'=>(∃a,Fr G w a w'/\fB a w'/\Q a w')/\eM [d] e b) [] e w':=
 aW ⟨⟨a,k,c,h⟩,zt⟩
end
class vE (p:Prop) (q:outParam Prop):Prop where
 imp:p->q
instance (priority:=low) {p:Prop}:vE p p:=⟨id⟩
instance {p:Prop} {i:Decidable p}:vE (@decide p i=true) p:=⟨of_decide_eq_true⟩
instance {p:Prop} {i:Decidable p}:vE (@decide p i=false) (¬p):=⟨of_decide_eq_false⟩
instance {b:Bool}:vE ((!b)=true) (b=false):=⟨λh=>by simpa using h⟩
instance {b:Bool}:vE ((!b)=false) (b=true):=⟨λh=>by simpa using h⟩
theorem jq [t:vE p q] (h:p):q:=t.imp h
section
variable {P:Program} {n:Nat} {N R:Env->World->Prop} {X:Nat->Env->World->Prop} {e:Env} {w:World}
theorem zc {x y:Code} {t:Bool} (a:ev e c= .bool t) [hp:vE (t=true) p] [hq:vE (t=false) q] (b:p->CW P n x N R X e w) (d:q->CW P n y N R X e w):CW P n (.cond c x y) N R X e w:=
 SL a (λh=>b<|hp.imp h) λh=>d<|hq.imp h
theorem zr {id:Nat} {y:Code} (h:OW P n l.toArray (λe w=>CW P n y N R X e w) l e w):CW P n ((Code.region id l.toArray false).seq y) N R X e w:=jS<|lx h
end
section
variable {P:Program} {n:Nat} {ops:Array Oper} {K:Env->World->Prop} {rest:List Oper} {e:Env} {w:World}
 {dst:Option Nat} {ty:TypeId} {pos:String} {after:Array Edge} {g:Option (Nat×Bool)} {x y:Operand} {T T':TypeId}
theorem zm (k:OW P n ops K rest (bW e dst<|ev e x) w) (b:gate ops e g=true:=by rfl) (a:cC n dst=true:=by rfl):OW P n ops K (⟨dst,.move x,ty,pos,after,g⟩::rest) e w:=abv b a k
theorem zA (k:OW P n ops K rest (bW e dst<|ev e x) w) (b:gate ops e g=true:=by rfl) (a:cC n dst=true:=by rfl):OW P n ops K (⟨dst,.assign x,ty,pos,after,g⟩::rest) e w:=abw b a k
theorem zs {op:Op} (k:OW P n ops K rest (bW e dst undef) w) (b:gate ops e g=false:=by rfl) (a:cC n dst=true:=by rfl):OW P n ops K (⟨dst,op,ty,pos,after,g⟩::rest) e w:=Nw b a k
theorem zp {t:Bool} (a:ev e c= .bool t) (k:OW P n ops K rest (bW e dst<|bif t then ev e x else ev e y) w) (d:gate ops e g=true:=by rfl) (b:cC n dst=true:=by rfl):OW P n ops K (⟨dst,.pick c x y,ty,pos,after,g⟩::rest) e w:=SR d b a k
theorem zf {S:Nat} (a:gN P S i=some off) (f:ev e x= .pointer (some ⟨b,o,none⟩)) (k:OW P n ops K rest (bW e dst (.pointer<|some ⟨b,o+off,none⟩)) w) (d:gate ops e g=true:=by rfl) (c:cC n dst=true:=by rfl):
  OW P n ops K (⟨dst,.fieldAddr S x i,ty,pos,after,g⟩::rest) e w:=SX a d c f k
theorem zl {a:Addr} (b:pO P T=true) (i:ev e x= .pointer (some a)) (c:w.cell? a=some v) (k:OW P n ops K rest (bW e dst v) w) (f:gate ops e g=true:=by rfl) (d:cC n dst=true:=by rfl):
  OW P n ops K (⟨dst,.load T x,ty,pos,after,g⟩::rest) e w:=aby b f d i c k
theorem zL (a:tR P T=true) (l:TI P T sz bytes z) (j:ev e x= .pointer (some ⟨b,o,none⟩)) (c:fP w b o vs) (i:vs.length=sz) (k:OW P n ops K rest (bW e dst<|.agg vs.toArray) w) (f:gate ops e g=true:=by rfl) (d:cC n dst=true:=by rfl):
  OW P n ops K (⟨dst,.load T x,ty,pos,after,g⟩::rest) e w:=abz a l f d j c i k
theorem zi {T E:TypeId} {len cap i:Nat} {p:IntKind} (c:P.underlying T=some (.slice E)) (a:TI P E sz bytes z) (l:ev e x= .slice (some ⟨b,o,none⟩) len cap) (m:ev e y= .int p (i:Int)) (j:i<len) 
  (k:OW P n ops K rest (bW e dst (.pointer<|some ⟨b,o+i*sz,none⟩)) w) (f:gate ops e g=true:=by rfl) (d:cC n dst=true:=by rfl):OW P n ops K (⟨dst,.indexAddr T x y,ty,pos,after,g⟩::rest) e w:=SY c a f d l m j k
theorem zx (d:ev e x= .tuple vs.toArray) (c:vs[i]?=some v) (k:OW P n ops K rest (bW e dst v) w) (b:gate ops e g=true:=by rfl) (a:cC n dst=true:=by rfl):
  OW P n ops K (⟨dst,.extract x i,ty,pos,after,g⟩::rest) e w:=SZ b a d c k
end
theorem vfm {W c:List Nat} {a:List Ie} {e:List (List Nat->List Value->World->Prop)} {b:List Nat} {k:Nat} {o:Oper} (f:wY P n ops W c a e e0 b w0 (k+1) l r) (h:K6 P n ops W c a e0 b w0 k o d:=by exact λ_ _ _ _ _ _=>zm fv) (hk:(a.getD k nD).k7=none:=by rfl):wY P n ops W c a e e0 b w0 k (o::l) (d::r):=vf h f hk
theorem vk {W c:List Nat} {a:List It} {f:World} {k:Nat} {o:Oper} (aC:ak [] f w0) (h:∀(x:Env) (w:World),ak [] f w->dq a c w d λb=>OW P n ops (λe w'=>ak [] w w'/\(a.getD k<|.p λ_ _=>True).F (e<|c.getD k 0) w'/\eM [c.getD k 0] (ba (aZ W x e0) b) e) [o] (ba (aZ W x e0) b) w) (g:r8 P n ops W c a e0 w0 (k+1) l r):r8 P n ops W c a e0 w0 k (o::l) (d::r):=vc (λx w hk=>h x w<|ak.trans aC hk) g
theorem BT {W b:List Nat} {a:List It} {k:Nat} {o:Oper} (c:r8 P n ops W b a e0 w0 (k+1) l r) (h:HO P n ops W b a e0 w0 k o d:=by exact λ_ _ _=>zm pv):r8 P n ops W b a e0 w0 k (o::l) (d::r):=⟨h,c⟩
theorem vcs {W b:List Nat} {a:List It} {k:Nat} {o:Oper} (c:r8 P n ops W b a e0 w0 (k+1) l r) (h:HO P n ops W b a e0 w0 k o d:=by exact λ_ _ _=>Nw rfl rfl pv):r8 P n ops W b a e0 w0 k (o::l) (d::r):=⟨h,c⟩
class FO (P:Program) (S i:Nat) (off:outParam Nat):Prop where h:gN P S i=some off
class O1 (P:Program) (T:Nat):Prop where h:pO P T=true
class OA (P:Program) (T:Nat):Prop where h:tR P T=true
class oe (P:Program) (T:Nat) (sz bytes:outParam Nat) (z:outParam Value):Prop where h:TI P T sz bytes z
class UL (P:Program) (T:Nat) (d:outParam TypeDesc):Prop where h:P.underlying T=some d
instance:OA Tryz.prog 103:=⟨fJ⟩
instance:OA Tryz.prog 117:=⟨agq⟩
instance:OA Tryz.prog 144:=⟨UE⟩
instance:OA Tryz.prog 39:=⟨Fw⟩
instance:OA Tryz.prog 61:=⟨jk⟩
instance:OA Tryz.prog 80:=⟨Fx⟩
instance:UL Tryz.prog 158 (.array 40 61):=⟨HR⟩
instance:UL Tryz.prog 159 (.array 40 4):=⟨Fy⟩
instance:UL Tryz.prog 4 .bool:=⟨agz⟩
instance:FO Tryz.prog 103 0 0:=⟨l9⟩
instance:FO Tryz.prog 103 1 1:=⟨kf⟩
instance:FO Tryz.prog 117 0 0:=⟨agA⟩
instance:FO Tryz.prog 117 1 1:=⟨agB⟩
instance:FO Tryz.prog 142 0 0:=⟨agC⟩
instance:FO Tryz.prog 142 1 1:=⟨agD⟩
instance:FO Tryz.prog 142 2 2:=⟨agE⟩
instance:FO Tryz.prog 142 3 3:=⟨agF⟩
instance:FO Tryz.prog 142 4 4:=⟨agG⟩
instance:FO Tryz.prog 142 5 5:=⟨agH⟩
instance:FO Tryz.prog 144 0 0:=⟨agI⟩
instance:FO Tryz.prog 144 1 1:=⟨UG⟩
instance:FO Tryz.prog 144 10 11:=⟨agJ⟩
instance:FO Tryz.prog 144 2 2:=⟨agK⟩
instance:FO Tryz.prog 144 3 3:=⟨KH⟩
instance:FO Tryz.prog 144 4 4:=⟨agL⟩
instance:FO Tryz.prog 144 5 5:=⟨agM⟩
instance:FO Tryz.prog 144 6 6:=⟨agN⟩
instance:FO Tryz.prog 144 7 7:=⟨UH⟩
instance:FO Tryz.prog 144 8 9:=⟨UI⟩
instance:FO Tryz.prog 144 9 10:=⟨agO⟩
instance:FO Tryz.prog 161 0 0:=⟨agP⟩
instance:FO Tryz.prog 161 1 80:=⟨agQ⟩
instance:FO Tryz.prog 161 2 120:=⟨agR⟩
instance:FO Tryz.prog 161 3 121:=⟨agS⟩
instance:FO Tryz.prog 169 0 0:=⟨agT⟩
instance:FO Tryz.prog 169 1 1:=⟨agU⟩
instance:FO Tryz.prog 169 2 2:=⟨agV⟩
instance:FO Tryz.prog 169 3 3:=⟨agW⟩
instance:FO Tryz.prog 195 0 0:=⟨agX⟩
instance:FO Tryz.prog 195 1 1:=⟨agY⟩
instance:FO Tryz.prog 39 0 0:=⟨Oz⟩
instance:FO Tryz.prog 39 1 1:=⟨OB⟩
instance:FO Tryz.prog 39 2 2:=⟨Bu⟩
instance:FO Tryz.prog 61 0 0:=⟨OC⟩
instance:FO Tryz.prog 61 1 1:=⟨zE⟩
instance:FO Tryz.prog 80 0 0:=⟨agZ⟩
instance:FO Tryz.prog 80 1 1:=⟨UJ⟩
instance:FO Tryz.prog 80 2 2:=⟨UK⟩
instance:FO Tryz.prog 84 0 0:=⟨ag0⟩
instance:FO Tryz.prog 84 1 1:=⟨UM⟩
instance:oe Tryz.prog 101 1 24 (.slice none 0 0):=⟨Fz⟩
instance:oe Tryz.prog 103 2 40 (.agg #[.string ⟨#[]⟩,.slice none 0 0]):=⟨aM⟩
instance:oe Tryz.prog 110 1 24 (.slice none 0 0):=⟨UN⟩
instance:oe Tryz.prog 117 2 48 (.agg #[.slice none 0 0,.slice none 0 0]):=⟨Dt⟩
instance:oe Tryz.prog 140 1 24 (.slice none 0 0):=⟨KI⟩
instance:oe Tryz.prog 144 12 216 (.agg #[.string ⟨#[]⟩,.slice none 0 0,.int .i64 0,.slice none 0 0,.slice none 0 0,.slice none 0 0,.slice none 0 0,.string ⟨#[]⟩,.slice none 0 0,.int .i64 0,.string ⟨#[]⟩,.int .i64 0]):=⟨nX⟩
instance:oe Tryz.prog 23 1 24 (.slice none 0 0):=⟨UO⟩
instance:oe Tryz.prog 25 1 24 (.slice none 0 0):=⟨nY⟩
instance:oe Tryz.prog 3 1 8 (.int .i64 0):=⟨sX⟩
instance:oe Tryz.prog 39 3 64 (.agg #[.string ⟨#[]⟩,.slice none 0 0,.slice none 0 0]):=⟨ja⟩
instance:oe Tryz.prog 4 1 1 (.bool false):=⟨zF⟩
instance:oe Tryz.prog 5 1 1 (.int .u8 0):=⟨HT⟩
instance:oe Tryz.prog 50 1 24 (.slice none 0 0):=⟨OD⟩
instance:oe Tryz.prog 59 1 24 (.slice none 0 0):=⟨HU⟩
instance:oe Tryz.prog 61 2 40 (.agg #[.string ⟨#[]⟩,.slice none 0 0]):=⟨bX⟩
instance:oe Tryz.prog 80 3 64 (.agg #[.string ⟨#[]⟩,.slice none 0 0,.slice none 0 0]):=⟨mB⟩
instance:oe Tryz.prog 9 1 16 (.string ⟨#[]⟩):=⟨bo⟩
instance:oe Tryz.prog 99 2 32 (.agg #[.pointer none,.slice none 0 0]):=⟨UP⟩
instance:UL Tryz.prog 204 (.int .u64):=⟨KJ⟩
instance:UL Tryz.prog 3 (.int .i64):=⟨xY⟩
instance:UL Tryz.prog 5 (.int .u8):=⟨zG⟩
instance:O1 Tryz.prog 101:=⟨jy⟩
instance:O1 Tryz.prog 110:=⟨ag1⟩
instance:O1 Tryz.prog 134:=⟨OE⟩
instance:O1 Tryz.prog 140:=⟨ag2⟩
instance:O1 Tryz.prog 22:=⟨ag3⟩
instance:O1 Tryz.prog 23:=⟨ag4⟩
instance:O1 Tryz.prog 25:=⟨wT⟩
instance:O1 Tryz.prog 3:=⟨KL⟩
instance:O1 Tryz.prog 4:=⟨HV⟩
instance:O1 Tryz.prog 5:=⟨ag5⟩
instance:O1 Tryz.prog 50:=⟨ag6⟩
instance:O1 Tryz.prog 59:=⟨vv⟩
instance:O1 Tryz.prog 9:=⟨fS⟩
instance:UL Tryz.prog 101 (.slice 103):=⟨cQ⟩
instance:UL Tryz.prog 110 (.slice 3):=⟨FB⟩
instance:UL Tryz.prog 140 (.slice 144):=⟨Bv⟩
instance:UL Tryz.prog 22 (.slice 5):=⟨Du⟩
instance:UL Tryz.prog 23 (.slice 39):=⟨lE⟩
instance:UL Tryz.prog 25 (.slice 9):=⟨bw⟩
instance:UL Tryz.prog 50 (.slice 80):=⟨Dv⟩
instance:UL Tryz.prog 59 (.slice 61):=⟨iA⟩
instance:UL Tryz.prog 9 .string:=⟨jb⟩
section
variable {P:Program} {n:Nat} {ops:Array Oper} {K:Env->World->Prop} {rest:List Oper} {e:Env} {w:World}
 {dst:Option Nat} {ty:TypeId} {pos:String} {after:Array Edge} {g:Option (Nat×Bool)} {x y:Operand} {T T' E:TypeId}
theorem wN {a:Addr} (k:OW P n ops K rest (bW e dst (.pointer<|some a)) w) (d:ev e x= .pointer (some a):=by rfl) (c:gate ops e g=true:=by rfl) (b:cC n dst=true:=by rfl):OW P n ops K (⟨dst,.nilCheck x,ty,pos,after,g⟩::rest) e w:=Hj c b d k
theorem wF {S:Nat} [hS:FO P S i off] (k:OW P n ops K rest (bW e dst (.pointer<|some ⟨b,o+off,none⟩)) w) (d:ev e x= .pointer (some ⟨b,o,none⟩):=by rfl) (c:gate ops e g=true:=by rfl) (a:cC n dst=true:=by rfl):
  OW P n ops K (⟨dst,.fieldAddr S x i,ty,pos,after,g⟩::rest) e w:=SX hS.h c a d k
theorem wB [hT:O1 P T] (k:OW P n ops K rest (bW e dst v) w) (f:ev e x= .pointer (some ⟨b,o,none⟩):=by rfl) (hb:aJ w b vs.toArray U:=by first|with_reducible assumption|exact et.iV (by with_reducible assumption)|assumption) (a:vs[o]?=some v:=by rfl) (d:gate ops e g=true:=by rfl) (c:cC n dst=true:=by rfl):
  OW P n ops K (⟨dst,.load T x,ty,pos,after,g⟩::rest) e w:=zl hT.h f (hb.at a) k d c
theorem wM [hT:OA P T] [kG:oe P T sz bytes z] (k:OW P n ops K rest (bW e dst<|.agg vs.toArray) w) (f:ev e x= .pointer (some ⟨b,0,none⟩):=by rfl) (hb:aJ w b vs.toArray U:=by first|with_reducible assumption|exact et.iV (by with_reducible assumption)|assumption) (d:vs.length=sz:=by rfl) (c:gate ops e g=true:=by rfl) (a:cC n dst=true:=by rfl):
  OW P n ops K (⟨dst,.load T x,ty,pos,after,g⟩::rest) e w:=zL hT.h kG.h f hb.all d k c a
theorem wC [hT:O1 P T] (k:OW P n ops K rest (bW e dst v) w) (f:ev e x= .pointer (some ⟨b,o,none⟩):=by rfl) (hb:fP w b o vs:=by first|with_reducible assumption|exact gd.cells (by with_reducible assumption)|assumption) (a:vs[0]?=some v:=by rfl) (d:gate ops e g=true:=by rfl) (c:cC n dst=true:=by rfl):
  OW P n ops K (⟨dst,.load T x,ty,pos,after,g⟩::rest) e w:=zl hT.h f (hb 0 _ a) k d c
theorem wD [hT:O1 P T] (k:OW P n ops K rest (bW e dst v) w) (f:ev e x= .pointer (some ⟨b,o+1,none⟩):=by rfl) (hb:fP w b o vs:=by first|with_reducible assumption|exact gd.cells (by with_reducible assumption)|assumption) (a:vs[1]?=some v:=by rfl) (d:gate ops e g=true:=by rfl) (c:cC n dst=true:=by rfl):
  OW P n ops K (⟨dst,.load T x,ty,pos,after,g⟩::rest) e w:=zl hT.h f (hb 1 _ a) k d c
theorem wE [hT:OA P T] [kG:oe P T sz bytes z] (k:OW P n ops K rest (bW e dst<|.agg vs.toArray) w) (f:ev e x= .pointer (some ⟨b,o,none⟩):=by rfl) (hb:fP w b o vs:=by first|with_reducible assumption|exact gd.cells (by with_reducible assumption)|assumption) (d:vs.length=sz:=by rfl) (c:gate ops e g=true:=by rfl) (a:cC n dst=true:=by rfl):
  OW P n ops K (⟨dst,.load T x,ty,pos,after,g⟩::rest) e w:=zL hT.h kG.h f hb d k c a
theorem wi {len cap:Nat} {l:IntKind} [hT:UL P T (.slice E)] [hE:oe P E sz bytes z] (k:OW P n ops K rest (bW e dst (.pointer<|some ⟨b,o+i*sz,none⟩)) w) (f:ev e x= .slice (some ⟨b,o,none⟩) len cap:=by rfl) (j:ev e y= .int l (i:Int):=by rfl) (d:i<len:=by omega) 
  (c:gate ops e g=true:=by rfl) (a:cC n dst=true:=by rfl):OW P n ops K (⟨dst,.indexAddr T x y,ty,pos,after,g⟩::rest) e w:=SY hT.h hE.h c a f j d k
theorem wp {t:Bool} (k:OW P n ops K rest (bW e dst<|bif t then ev e x else ev e y) w) (a:ev e c= .bool t:=by rfl) (d:gate ops e g=true:=by rfl) (b:cC n dst=true:=by rfl):OW P n ops K (⟨dst,.pick c x y,ty,pos,after,g⟩::rest) e w:=SR d b a k
theorem wx (k:OW P n ops K rest (bW e dst v) w) (d:ev e x= .tuple vs.toArray:=by rfl) (c:vs[i]?=some v:=by rfl) (b:gate ops e g=true:=by rfl) (a:cC n dst=true:=by rfl):
  OW P n ops K (⟨dst,.extract x i,ty,pos,after,g⟩::rest) e w:=SZ b a d c k
theorem BU {b:Int} (c:OW P n ops K rest (bW e dst<|.bool (decide<|a=b)) w) (hx:ev e x= .int k a:=by rfl) (hy:ev e y= .int k' b:=by rfl) (hk:k=k':=by rfl) (hg:gate ops e g=true:=by rfl) (hd:cC n dst=true:=by rfl):OW P n ops K (⟨dst,.binOp .eql T x y T',ty,pos,after,g⟩::rest) e w:=xN (hg:=hg) (hd:=hd) (hx:=hx) (hy:=hy) (hk:=hk) (c:=c)
theorem BV {b:Int} (c:OW P n ops K rest (bW e dst<|.bool (decide<|a≠b)) w) (hx:ev e x= .int k a:=by rfl) (hy:ev e y= .int k' b:=by rfl) (hk:k=k':=by rfl) (hg:gate ops e g=true:=by rfl) (hd:cC n dst=true:=by rfl):OW P n ops K (⟨dst,.binOp .neq T x y T',ty,pos,after,g⟩::rest) e w:=Hl (hg:=hg) (hd:=hd) (hx:=hx) (hy:=hy) (hk:=hk) (c:=c)
theorem BW {b:Int} (c:OW P n ops K rest (bW e dst<|.bool (decide<|a<b)) w) (hx:ev e x= .int k a:=by rfl) (hy:ev e y= .int k' b:=by rfl) (hk:k=k':=by rfl) (hg:gate ops e g=true:=by rfl) (hd:cC n dst=true:=by rfl):OW P n ops K (⟨dst,.binOp .lss T x y T',ty,pos,after,g⟩::rest) e w:=Ka (hg:=hg) (hd:=hd) (hx:=hx) (hy:=hy) (hk:=hk) (c:=c)
theorem BX {b:Int} (c:OW P n ops K rest (bW e dst<|.bool (decide<|a<=b)) w) (hx:ev e x= .int k a:=by rfl) (hy:ev e y= .int k' b:=by rfl) (hk:k=k':=by rfl) (hg:gate ops e g=true:=by rfl) (hd:cC n dst=true:=by rfl):OW P n ops K (⟨dst,.binOp .leq T x y T',ty,pos,after,g⟩::rest) e w:=abE (hg:=hg) (hd:=hd) (hx:=hx) (hy:=hy) (hk:=hk) (c:=c)
theorem BY {b:Int} (c:OW P n ops K rest (bW e dst<|.bool (decide<|b<a)) w) (hx:ev e x= .int k a:=by rfl) (hy:ev e y= .int k' b:=by rfl) (hk:k=k':=by rfl) (hg:gate ops e g=true:=by rfl) (hd:cC n dst=true:=by rfl):OW P n ops K (⟨dst,.binOp .gtr T x y T',ty,pos,after,g⟩::rest) e w:=Hk (hg:=hg) (hd:=hd) (hx:=hx) (hy:=hy) (hk:=hk) (c:=c)
theorem BZ {b:Int} (c:OW P n ops K rest (bW e dst<|.bool (decide<|b<=a)) w) (hx:ev e x= .int k a:=by rfl) (hy:ev e y= .int k' b:=by rfl) (hk:k=k':=by rfl) (hg:gate ops e g=true:=by rfl) (hd:cC n dst=true:=by rfl):OW P n ops K (⟨dst,.binOp .geq T x y T',ty,pos,after,g⟩::rest) e w:=abF (hg:=hg) (hd:=hd) (hx:=hx) (hy:=hy) (hk:=hk) (c:=c)
theorem B0 {a b:List UInt8} (c:OW P n ops K rest (bW e dst<|.bool (decide<|a=b)) w) (hx:ev e x=str a:=by rfl) (hy:ev e y=str b:=by rfl) (hg:gate ops e g=true:=by rfl) (hd:cC n dst=true:=by rfl):OW P n ops K (⟨dst,.binOp .eql T x y T',ty,pos,after,g⟩::rest) e w:=C1 (hg:=hg) (hd:=hd) (hx:=hx) (hy:=hy) (c:=c)
theorem B1 {a b:List UInt8} (c:OW P n ops K rest (bW e dst<|.bool (decide<|a≠b)) w) (hx:ev e x=str a:=by rfl) (hy:ev e y=str b:=by rfl) (hg:gate ops e g=true:=by rfl) (hd:cC n dst=true:=by rfl):OW P n ops K (⟨dst,.binOp .neq T x y T',ty,pos,after,g⟩::rest) e w:=Nz (hg:=hg) (hd:=hd) (hx:=hx) (hy:=hy) (c:=c)
theorem B2 {b:Bool} (c:OW P n ops K rest (bW e dst (.bool<|!b)) w) (hx:ev e x= .bool b:=by rfl) (hg:gate ops e g=true:=by rfl) (hd:cC n dst=true:=by rfl):OW P n ops K (⟨dst,.unOp .not T x,ty,pos,after,g⟩::rest) e w:=ka (hg:=hg) (hd:=hd) (hx:=hx) (c:=c)
theorem B3 {a b:Bool} [hT:UL P T .bool] (c:OW P n ops K rest (bW e dst (.bool<|a==b)) w) (hx:ev e x= .bool a:=by rfl) (hy:ev e y= .bool b:=by rfl) (hg:gate ops e g=true:=by rfl) (hd:cC n dst=true:=by rfl):OW P n ops K (⟨dst,.binOp .eql T x y T',ty,pos,after,g⟩::rest) e w:=abG (hT:=hT.h) (hg:=hg) (hd:=hd) (hx:=hx) (hy:=hy) (c:=c)
theorem B4 {a b:Bool} [hT:UL P T .bool] (c:OW P n ops K rest (bW e dst (.bool<|!(a==b))) w) (hx:ev e x= .bool a:=by rfl) (hy:ev e y= .bool b:=by rfl) (hg:gate ops e g=true:=by rfl) (hd:cC n dst=true:=by rfl):OW P n ops K (⟨dst,.binOp .neq T x y T',ty,pos,after,g⟩::rest) e w:=abH (hT:=hT.h) (hg:=hg) (hd:=hd) (hx:=hx) (hy:=hy) (c:=c)
theorem B5 {T E:TypeId} {x:Operand} {a:Option Addr} {cap:Nat} [hT:UL P T (.slice E)] (k:OW P n ops K rest (bW e dst<|.int .i64 m) w) (hx:ev e x= .slice a m cap:=by rfl) (hg:gate ops e g=true:=by rfl) (hd:cC n dst=true:=by rfl):OW P n ops K (⟨dst,.call {callee:=.builtin .len,args:=#[x],argTypes:=#[T]},ty,pos,after,g⟩::rest) e w:=J9 (hT:=hT.h) (hg:=hg) (hd:=hd) (hx:=hx) (k:=k)
theorem B6 {a:List UInt8} [hT:UL P T .string] (k:OW P n ops K rest (bW e dst<|.int .i64 (a.length:Nat)) w) (hx:ev e x=str a:=by rfl) (hg:gate ops e g=true:=by rfl) (hd:cC n dst=true:=by rfl):OW P n ops K (⟨dst,.call {callee:=.builtin .len,args:=#[x],argTypes:=#[T]},ty,pos,after,g⟩::rest) e w:=abL (hT:=hT.h) (hg:=hg) (hd:=hd) (hx:=hx) (k:=k)
theorem B7 {b c:Int} (c':OW P n ops K rest (bW e dst<|.int k c) w) (hx:ev e x= .int k a:=by rfl) (hy:ev e y= .int k' b:=by rfl) (hk:k=k':=by rfl) (hc:k.wrap (a+b)=c:=by exact wrap_i64 _ om om) (hg:gate ops e g=true:=by rfl) (hd:cC n dst=true:=by rfl):OW P n ops K (⟨dst,.binOp .add T x y T',ty,pos,after,g⟩::rest) e w:=l6 (hg:=hg) (hd:=hd) (hx:=hx) (hy:=hy) (hk:=hk) (hc:=hc) (c':=c')
theorem DH {b c:Int} (c':OW P n ops K rest (bW e dst<|.int k c) w) (hx:ev e x= .int k a:=by rfl) (hy:ev e y= .int k' b:=by rfl) (hk:k=k':=by rfl) (hc:k.wrap (a-b)=c:=by exact wrap_i64 _ om om) (hg:gate ops e g=true:=by rfl) (hd:cC n dst=true:=by rfl):OW P n ops K (⟨dst,.binOp .sub T x y T',ty,pos,after,g⟩::rest) e w:=xO (hg:=hg) (hd:=hd) (hx:=hx) (hy:=hy) (hk:=hk) (hc:=hc) (c':=c')
theorem DI {b c:Int} (c':OW P n ops K rest (bW e dst<|.int k c) w) (hx:ev e x= .int k a:=by rfl) (hy:ev e y= .int k' b:=by rfl) (hk:k=k':=by rfl) (hc:k.wrap (a*b)=c:=by exact wrap_i64 _ om om) (hg:gate ops e g=true:=by rfl) (hd:cC n dst=true:=by rfl):OW P n ops K (⟨dst,.binOp .mul T x y T',ty,pos,after,g⟩::rest) e w:=Kb (hg:=hg) (hd:=hd) (hx:=hx) (hy:=hy) (hk:=hk) (hc:=hc) (c':=c')
theorem DJ {a b:List UInt8} (c:OW P n ops K rest (bW e dst (str<|a++b)) w) (hx:ev e x=str a:=by rfl) (hy:ev e y=str b:=by rfl) (hs:a.length+b.length<=9223372036854775807:=by(simp;omega)) (hg:gate ops e g=true:=by rfl) (hd:cC n dst=true:=by rfl):OW P n ops K (⟨dst,.binOp .add T x y T',ty,pos,after,g⟩::rest) e w:=S0 (hg:=hg) (hd:=hd) (hx:=hx) (hy:=hy) (hs:=hs) (c:=c)
end
theorem bN {e f a b:Prop} (k:ak [] w w') (ta:e) (g:f) (y:a->b->p) (c:ak [] w w'->e->a:=by intro k h;exact h.ext k) (d:ak [] w w'->f->b:=by intro k h;exact h.ext k):p:=y (c k ta)<|d k g
theorem cS {g i j a b c:Prop} (k:ak [] w w') (ta:g) (l:i) (m:j) (y:a->b->c->p) (d:ak [] w w'->g->a:=by intro k h;exact h.ext k) (e:ak [] w w'->i->b:=by intro k h;exact h.ext k) (f:ak [] w w'->j->c:=by intro k h;exact h.ext k):p:=y (d k ta) (e k l)<|f k m
theorem gT {j l m n a b c d:Prop} (k:ak [] w w') (ta:j) (o:l) (q:m) (r:n) (y:a->b->c->d->p) (e:ak [] w w'->j->a:=by intro k h;exact h.ext k) (f:ak [] w w'->l->b:=by intro k h;exact h.ext k) (g:ak [] w w'->m->c:=by intro k h;exact h.ext k) (i:ak [] w w'->n->d:=by intro k h;exact h.ext k):p:=y (e k ta) (f k o) (g k q)<|i k r
theorem kj {m n o q r a b c d e:Prop} (k:ak [] w w') (ta:m) (s:n) (t:o) (u:q) (v:r) (y:a->b->c->d->e->p) (f:ak [] w w'->m->a:=by intro k h;exact h.ext k) (g:ak [] w w'->n->b:=by intro k h;exact h.ext k) (i:ak [] w w'->o->c:=by intro k h;exact h.ext k) (j:ak [] w w'->q->d:=by intro k h;exact h.ext k) (l:ak [] w w'->r->e:=by intro k h;exact h.ext k):p:=y (f k ta) (g k s) (i k t) (j k u)<|l k v
theorem uq {o q r s t u a b c d e f:Prop} (k:ak [] w w') (ta:o) (v:q) (z:r) (A:s) (B:t) (C:u) (y:a->b->c->d->e->f->p) (g:ak [] w w'->o->a:=by intro k h;exact h.ext k) (i:ak [] w w'->q->b:=by intro k h;exact h.ext k) (j:ak [] w w'->r->c:=by intro k h;exact h.ext k) (l:ak [] w w'->s->d:=by intro k h;exact h.ext k) (m:ak [] w w'->t->e:=by intro k h;exact h.ext k) (n:ak [] w w'->u->f:=by intro k h;exact h.ext k):p:=y (g k ta) (i k v) (j k z) (l k A) (m k B)<|n k C
theorem FU {r s t u v z A a b c d e f g:Prop} (k:ak [] w w') (ta:r) (B:s) (C:t) (D:u) (E:v) (F:z) (H:A) (y:a->b->c->d->e->f->g->p) (i:ak [] w w'->r->a:=by intro k h;exact h.ext k) (j:ak [] w w'->s->b:=by intro k h;exact h.ext k) (l:ak [] w w'->t->c:=by intro k h;exact h.ext k) (m:ak [] w w'->u->d:=by intro k h;exact h.ext k) (n:ak [] w w'->v->e:=by intro k h;exact h.ext k) (o:ak [] w w'->z->f:=by intro k h;exact h.ext k) (q:ak [] w w'->A->g:=by intro k h;exact h.ext k):p:=y (i k ta) (j k B) (l k C) (m k D) (n k E) (o k F)<|q k H
theorem DK {t u v z A B C D a b c d e f g i:Prop} (k:ak [] w w') (ta:t) (E:u) (F:v) (H:z) (I:A) (J:B) (K:C) (L:D) (y:a->b->c->d->e->f->g->i->p) (j:ak [] w w'->t->a:=by intro k h;exact h.ext k) (l:ak [] w w'->u->b:=by intro k h;exact h.ext k) (m:ak [] w w'->v->c:=by intro k h;exact h.ext k) (n:ak [] w w'->z->d:=by intro k h;exact h.ext k) (o:ak [] w w'->A->e:=by intro k h;exact h.ext k) (q:ak [] w w'->B->f:=by intro k h;exact h.ext k) (r:ak [] w w'->C->g:=by intro k h;exact h.ext k) (s:ak [] w w'->D->i:=by intro k h;exact h.ext k):p:=y (j k ta) (l k E) (m k F) (n k H) (o k I) (q k J) (r k K)<|s k L
theorem ahV {v z A B C D E F H a b c d e f g i j:Prop} (k:ak [] w w') (ta:v) (I:z) (J:A) (K:B) (L:C) (M:D) (N:E) (O:F) (P:H) (y:a->b->c->d->e->f->g->i->j->p) (l:ak [] w w'->v->a:=by intro k h;exact h.ext k) (m:ak [] w w'->z->b:=by intro k h;exact h.ext k) (n:ak [] w w'->A->c:=by intro k h;exact h.ext k) (o:ak [] w w'->B->d:=by intro k h;exact h.ext k) (q:ak [] w w'->C->e:=by intro k h;exact h.ext k) (r:ak [] w w'->D->f:=by intro k h;exact h.ext k) (s:ak [] w w'->E->g:=by intro k h;exact h.ext k) (t:ak [] w w'->F->i:=by intro k h;exact h.ext k) (u:ak [] w w'->H->j:=by intro k h;exact h.ext k):p:=y (l k ta) (m k I) (n k J) (o k K) (q k L) (r k M) (s k N) (t k O)<|u k P
structure Hd (q:Prop):Prop where out:q
theorem W (k:q) (h:Hd q->p:=by intro k;(repeat(first|refine zm ?_|refine zA ?_|refine zr ?_|refine aW ?_|refine zs ?_|refine wF ?_|refine wB ?_|refine wC ?_|refine wD ?_|refine wM ?_|refine wE ?_|refine wN ?_|refine wp ?_|refine wx ?_|refine jS ?_|refine iw ?_|refine lx ?_|refine tO ?_|refine BU ?_|refine BV ?_|refine BW ?_|refine BX ?_|refine BY ?_|refine BZ ?_|refine B0 ?_|refine B1 ?_|refine B2 ?_|refine B5 ?_|refine B6 ?_|refine B3 ?_|refine B4 ?_|refine wi ?_|refine B7 ?_|refine DH ?_|refine DI ?_|refine DJ ?_|refine kF ?_|refine A4 ?_|refine A5 rfl ?_|refine Fe rfl ?_));exact k.out):p:=h ⟨k⟩
theorem WL (k:q) (h:Hd q->p:=by intro k;(repeat(first|refine zm ?_|refine zA ?_|refine zr ?_|refine aW ?_|refine zs ?_|refine wF ?_|refine wN ?_|refine wp ?_|refine wx ?_|refine jS ?_|refine iw ?_|refine lx ?_|refine tO ?_|refine BU ?_|refine BV ?_|refine BW ?_|refine BX ?_|refine BY ?_|refine BZ ?_|refine B0 ?_|refine B1 ?_|refine B2 ?_|refine B5 ?_|refine B6 ?_|refine B3 ?_|refine B4 ?_|refine wi ?_|refine B7 ?_|refine DH ?_|refine DI ?_|refine DJ ?_|refine kF ?_|refine A4 ?_|refine A5 rfl ?_|refine Fe rfl ?_));exact k.out):p:=h ⟨k⟩
theorem WI (k:q) (h:Hd q->p:=by intro k;(repeat(first|refine zm ?_|refine zA ?_|refine zr ?_|refine aW ?_|refine zs ?_|refine wF ?_|refine wB ?_|refine wC ?_|refine wD ?_|refine wM ?_|refine wE ?_|refine wN ?_|refine wp ?_|refine wx ?_|refine jS ?_|refine iw ?_|refine lx ?_|refine tO ?_|refine BU ?_|refine BV ?_|refine BW ?_|refine BX ?_|refine BY ?_|refine BZ ?_|refine B0 ?_|refine B1 ?_|refine B2 ?_|refine B5 ?_|refine B6 ?_|refine B3 ?_|refine B4 ?_|refine B7 ?_|refine DH ?_|refine DI ?_|refine DJ ?_|refine kF ?_|refine A4 ?_|refine A5 rfl ?_|refine Fe rfl ?_));exact k.out):p:=h ⟨k⟩
theorem WA (k:q) (h:Hd q->p:=by intro k;(repeat(first|refine zm ?_|refine zA ?_|refine zr ?_|refine aW ?_|refine zs ?_|refine wF ?_|refine wB ?_|refine wC ?_|refine wD ?_|refine wM ?_|refine wE ?_|refine wN ?_|refine wp ?_|refine wx ?_|refine jS ?_|refine iw ?_|refine lx ?_|refine tO ?_|refine BU ?_|refine BV ?_|refine BW ?_|refine BX ?_|refine BY ?_|refine BZ ?_|refine B0 ?_|refine B1 ?_|refine B2 ?_|refine B5 ?_|refine B6 ?_|refine B3 ?_|refine B4 ?_|refine wi ?_|refine DJ ?_|refine kF ?_|refine A4 ?_|refine A5 rfl ?_|refine Fe rfl ?_));exact k.out):p:=h ⟨k⟩
theorem WS (k:q) (h:Hd q->p:=by intro k;(repeat(first|refine zm ?_|refine zA ?_|refine zr ?_|refine aW ?_|refine zs ?_|refine wF ?_|refine wB ?_|refine wC ?_|refine wD ?_|refine wM ?_|refine wE ?_|refine wN ?_|refine wp ?_|refine wx ?_|refine jS ?_|refine iw ?_|refine lx ?_|refine tO ?_|refine BU ?_|refine BV ?_|refine BW ?_|refine BX ?_|refine BY ?_|refine BZ ?_|refine B0 ?_|refine B1 ?_|refine B2 ?_|refine B5 ?_|refine B6 ?_|refine B3 ?_|refine B4 ?_|refine wi ?_|refine B7 ?_|refine DH ?_|refine DI ?_|refine kF ?_|refine A4 ?_|refine A5 rfl ?_|refine Fe rfl ?_));exact k.out):p:=h ⟨k⟩
theorem WZ (k:q) (h:Hd q->p:=by intro k;(repeat(first|refine zm ?_|refine zA ?_|refine zr ?_|refine zs ?_|refine wF ?_|refine wB ?_|refine wC ?_|refine wD ?_|refine wM ?_|refine wE ?_|refine wN ?_|refine wp ?_|refine wx ?_|refine jS ?_|refine iw ?_|refine lx ?_|refine tO ?_|refine BU ?_|refine BV ?_|refine BW ?_|refine BX ?_|refine BY ?_|refine BZ ?_|refine B0 ?_|refine B1 ?_|refine B2 ?_|refine B5 ?_|refine B6 ?_|refine B3 ?_|refine B4 ?_|refine wi ?_|refine B7 ?_|refine DH ?_|refine DI ?_|refine DJ ?_|refine kF ?_|refine A4 ?_|refine A5 rfl ?_|refine Fe rfl ?_));exact k.out):p:=h ⟨k⟩
theorem oM {D:List Nat} {e a:Env} (b:p) (c:q) (h:eM D e a:=by repeat(first|with_reducible exact zt|refine Kc rfl ?_|refine NB rfl ?_)):eM D e a/\p/\q:=⟨h,b,c⟩
theorem oQ (h:p:=by refine W ?_;exact oM rfl (by first|rfl|exact ak.refl _ _|assumption)):p:=h
section
variable {P:Program} {n:Nat} {ops:Array Oper} {K:Env->World->Prop} {e:Env} {w:World} {l:List Oper} (m tc tp:Nat) (J:World->Prop) {c r:Bool} {p:Prop}
theorem oO (f:e tc= .bool c) (d:OW P n ops (λa w'=>eM (List.range' tc<|tp+1-tc) e a/\a tp= .bool true/\J w') (l.take m) (iR e tc<|.bool true) w) [t:vE (c=false) p] 
  (b:p->OW P n ops (λa w'=>eM (List.range' tc<|tp+1-tc) e a/\a tp= .bool r/\J w') (l.take m) (iR e tc<|.bool false) w)
  (k:∀x w',J w'->OW P n ops K (l.drop m) (iR (aZ (List.range' tc (tp+1-tc)) x e) tp (.bool (c||r))) w'):OW P n ops K l e w:=
 C5 m tc tp _ J f (λ_=>d) (λh=>b<|t.imp h) k
theorem oA (f:e tc= .bool c) (b:OW P n ops (λa w'=>eM (List.range' tc<|tp+1-tc) e a/\a tp= .bool false/\J w') (l.take m) (iR e tc<|.bool false) w) [t:vE (c=true) p] 
  (d:p->OW P n ops (λa w'=>eM (List.range' tc<|tp+1-tc) e a/\a tp= .bool r/\J w') (l.take m) (iR e tc<|.bool true) w)
  (k:∀x w',J w'->OW P n ops K (l.drop m) (iR (aZ (List.range' tc (tp+1-tc)) x e) tp (.bool (c&&r))) w'):OW P n ops K l e w:=
 NF m tc tp _ J f (λh=>d<|t.imp h) (λ_=>b) k
theorem oP (f:e tc= .bool c) (d:OW P n ops (λa w'=>eM (List.range' tc<|tp+1-tc) e a/\a tp= .bool true/\w=w') (l.take m) (iR e tc<|.bool true) w) [t:vE (c=false) p] 
  (b:p->OW P n ops (λa w'=>eM (List.range' tc<|tp+1-tc) e a/\a tp= .bool r/\w=w') (l.take m) (iR e tc<|.bool false) w)
  (k:∀x,OW P n ops K (l.drop m) (iR (aZ (List.range' tc (tp+1-tc)) x e) tp (.bool (c||r))) w):OW P n ops K l e w:=
 C5 m tc tp _ (w=·) f (λ_=>d) (λh=>b<|t.imp h) λx _ g=>g▸k x
theorem oB (f:e tc= .bool c) (b:OW P n ops (λa w'=>eM (List.range' tc<|tp+1-tc) e a/\a tp= .bool false/\w=w') (l.take m) (iR e tc<|.bool false) w) [t:vE (c=true) p] 
  (d:p->OW P n ops (λa w'=>eM (List.range' tc<|tp+1-tc) e a/\a tp= .bool r/\w=w') (l.take m) (iR e tc<|.bool true) w)
  (k:∀x,OW P n ops K (l.drop m) (iR (aZ (List.range' tc (tp+1-tc)) x e) tp (.bool (c&&r))) w):OW P n ops K l e w:=
 NF m tc tp _ (w=·) f (λh=>d<|t.imp h) (λ_=>b) λx _ g=>g▸k x
end
abbrev it (l:List Value):List It:=l.map It.v
theorem dV {n:Nat} {l:List Oper} {N R:Env->World->Prop} {X:Nat->Env->World->Prop} {id:Nat} {e:Env} {f:World} (p:P.follows .mixedOrders=true) (m:Nat) (c:List Nat) (a:List (List Nat)) (b:List It) 
  (i:vj l m c c a=true) (j:b.all It.HN=true)
  (o:∀g,ak [] f g->r8 P n l.toArray c c b e g 0 (l.take m) a)
  (q:∀(x:Env) (w:World),ak [] f w->dq b c w (List.range m) λd=>OW P n l.toArray N (l.drop m) (ba (aZ c x e) d) w):
  CW P n (.region id l.toArray true) N R X e f:=ke p m c c a b i j o q
section
variable {P:Program} {n:Nat} {ops:Array Oper} {W ds:List Nat} {e0:Env} {wz w0:World} {k:Nat} {o:Oper} {l:List Oper} {d:List Nat} {r:List (List Nat)}
theorem V1 {a:List It} (aC:ak [] wz w0) (b:r8 P n ops W ds a e0 w0 (k+1) l r) (h:HO P n ops W ds a e0 w0 k o d:=by intro x w hk;first|exact zm pv|exact zA pv|exact zs pv|exact wF pv|exact wB pv (hb:=aJ.ext (by first|with_reducible assumption|assumption)<|ak.trans aC hk)|exact wB pv (hb:=et.iV (et.ext (by first|with_reducible assumption|assumption)<|ak.trans aC hk))|exact wM pv (hb:=aJ.ext (by first|with_reducible assumption|assumption)<|ak.trans aC hk)|exact wM pv (hb:=et.iV (et.ext (by first|with_reducible assumption|assumption)<|ak.trans aC hk))|exact wC pv (hb:=fP.ext (by first|with_reducible assumption|assumption)<|ak.trans aC hk)|exact wC pv (hb:=gd.cells (gd.ext (by first|with_reducible assumption|assumption)<|ak.trans aC hk))|exact wD pv (hb:=fP.ext (by first|with_reducible assumption|assumption)<|ak.trans aC hk)|exact wD pv (hb:=gd.cells (gd.ext (by first|with_reducible assumption|assumption)<|ak.trans aC hk))|exact wE pv (hb:=fP.ext (by first|with_reducible assumption|assumption)<|ak.trans aC hk)|exact wE pv (hb:=gd.cells (gd.ext (by first|with_reducible assumption|assumption)<|ak.trans aC hk))|exact wN pv|(refine wp ?_;exact pv)|exact wx pv|exact BU pv|exact BV pv|exact BW pv|exact BX pv|exact BY pv|exact BZ pv|exact B0 pv|exact B1 pv|exact B2 pv|exact B5 pv|exact B6 pv|exact B3 pv|exact B4 pv|exact wi pv|exact B7 pv|exact DH pv|exact DI pv|exact DJ pv):r8 P n ops W ds a e0 w0 k (o::l) (d::r):=⟨h,b⟩
theorem F1 {a:List Ie} {c:List (List Nat->List Value->World->Prop)} {b:List Nat} (e:wY P n ops W ds a c e0 b w0 (k+1) l r) (h:K6 P n ops W ds a e0 b w0 k o d:=by intro x w G aU bK qF;first|exact zm fv|exact zA fv|exact zs fv|exact wF fv|exact wB fv (hb:=et.iV<|et.go (by first|with_reducible assumption|assumption) bK)|exact wM fv (hb:=et.iV<|et.go (by first|with_reducible assumption|assumption) bK)|exact wC fv (hb:=gd.cells<|gd.go (by first|with_reducible assumption|assumption) bK)|exact wD fv (hb:=gd.cells<|gd.go (by first|with_reducible assumption|assumption) bK)|exact wE fv (hb:=gd.cells<|gd.go (by first|with_reducible assumption|assumption) bK)|exact wN fv|(refine wp ?_;exact fv)|exact wx fv|exact BU fv|exact BV fv|exact BW fv|exact BX fv|exact BY fv|exact BZ fv|exact B0 fv|exact B1 fv|exact B2 fv|exact B5 fv|exact B6 fv|exact B3 fv|exact B4 fv|exact wi fv|exact B7 fv|exact DH fv|exact DI fv|exact DJ fv) (hk:(a.getD k nD).k7=none:=by rfl):wY P n ops W ds a c e0 b w0 k (o::l) (d::r):=vf h e hk
end
theorem VA (k:q) (h:Hd q->p:=by intro k;(repeat(refine V1 aC ?_));exact k.out):p:=h ⟨k⟩
theorem VZ (h:p:=by(repeat(refine V1 aC ?_));exact trivial):p:=h
theorem FZ (h:p:=by(repeat(refine F1 ?_));exact trivial):p:=h
theorem FA (k:q) (h:Hd q->p:=by intro k;(repeat(refine F1 ?_));exact k.out):p:=h ⟨k⟩
section
variable {P:Program} {n:Nat} {ops:Array Oper} {K:Env->World->Prop} {rest:List Oper} {e:Env} {w:World}
 {dst:Option Nat} {ty:TypeId} {pos:String} {after:Array Edge} {g:Option (Nat×Bool)} {x y:Operand}
/-! ### Elements that are stored -/
def setAt (a:Array Value) (k:Nat):List Value->Array Value
 |[]=>a
 |v::vs=>setAt (a.setIfInBounds k v) (k+1) vs
theorem Ii:∀(vs:List Value) (a:Array Value) (k:Nat),(setAt a k vs).size=a.size:=by intro x;induction x<;>grind [setAt]
theorem Lc:∀(vs:List Value) (a:Array Value) (k:Nat),k+vs.length<=a.size->(setAt a k vs).toList=a.toList.take k++(vs++a.toList.drop (k+vs.length))
 |[],a,k,_=>by simp[setAt]
 |v::vs,a,k,h=>by
  unfold setAt;simp only[lC] at h;rw[Lc vs _ _ so,Array.toList_setIfInBounds];have hk:k<a.toList.length:=by simp;omega
  rw[List.take_add_one,List.getElem?_set_self hk,List.take_set_of_le (lR k)];rw[List.drop_set_of_lt om];simp only[Option.toList_some,List.append_assoc,List.cons_append,List.nil_append,lC];rw[show k+1+vs.length=k+(vs.length+1) from by omega]
theorem Ph:∀(vs:List Value) (i:Nat) (w:World) (b o:Nat) (U:TypeId) (a:Array Value),aJ w b a U->o+i+vs.length<=a.size->(∀u∈vs,u.oneCell'=true)->
  ∃w',(storeCells ⟨b,o,none⟩ vs i).run P w= .ok () w'/\ak [b] w w'/\aJ w' b (setAt a (o+i) vs) U/\w'.heap.size=w.heap.size
 |[],i,w,b,o,U,a,hb,_,_=>⟨w,rfl,ak.refl _ _,hb,rfl⟩
 |v::vs,i,w,b,o,U,a,hb,hs,h1=>by
  simp only[lC] at hs;have j:o+i<a.size:=by omega
  have c:(store ((⟨b,o,none⟩:Addr).add i) v).run P w= .ok () (w.setCell ⟨b,o+i,none⟩ v):=by rw[tS,run_store P w _ v _<|h1 v sm,hb.cell,Array.getElem?_eq_getElem j,hb.frozen];simp
  obtain⟨w',e,hk,d,g⟩:=Ph vs (i+1) (w.setCell ⟨b,o+i,none⟩ v) b o U (a.setIfInBounds (o+i) v) (hb.set (o+i) v) so λu f=>h1 u (by simp[f]);refine⟨w',?_,(ak.setCell w b (o+i) v).trans hk,d,by rw[g];simp[World.setCell]⟩;simp only[storeCells,Sem.run_bind,c,Result.andThen_ok];exact e
theorem VT {c:Type}:∀{rows:List (List c)} {i:Nat} {row:List c},(∀r∈rows,r.length=sz)->i<rows.length->row.length=sz->(rows.set i row).flatten=rows.flatten.take (i*sz)++(row++rows.flatten.drop (i*sz+sz))
 |r::rows,0,row,h,_,a=>by have b:r.length=sz:=h r sm;simp[<-b]
 |r::rows,i+1,row,h,hi,a=>by
  have b:r.length=sz:=h r sm;have f:=VT (rows:=rows) (i:=i) (row:=row) (λr a=>h r<|by simp[a]) (by simpa using hi) a;rw[List.set_cons_succ,List.flatten_cons,List.flatten_cons,f];have d:(i+1)*sz=r.length+i*sz:=by rw[b,Nat.add_mul];omega
  have e:(i+1)*sz+sz=r.length+(i*sz+sz):=by omega
  rw[e,d,List.take_length_add_append,List.drop_length_add_append,List.append_assoc]
theorem dz.take {w:World}:∀{k:Nat} {vs:List Value} {a:List C},dz L w vs a->dz L w (vs.take k) (a.take k)
 |0,_,_,_=>by simp[dz]
 |_+1,[],[],_=>trivial
 |_+1,_::_,_::_,h=>⟨h.1,dz.take h.2⟩
theorem dz.drop {w:World}:∀{k:Nat} {vs:List Value} {a:List C},dz L w vs a->dz L w (vs.drop k) (a.drop k)
 |0,_,_,h=>h
 |_+1,[],[],_=>trivial
 |k+1,_::_,_::_,h=>dz.drop (k:=k) h.2
theorem ahW {T:Nat} {v:Value} {a:List Value} {row:List C} {B:Nat} {L:List Nat} {E f:Nat} {N c:Nat} {rows:List (List C)} {b o i:Nat} (kG:TI P T sz bytes z) (S:gate ops e g=true) 
  (t:ev e x= .pointer (some ⟨b,o,none⟩)) (Z:ev e y=v) (Y:v.cells=a.toArray) (U:o=i*sz) (m:Gr B L w E sz (.slice (some ⟨b,0,none⟩) N c) (some f) rows) (H:i<rows.length) (R:a.all Value.oneCell'=true)
  (D:row.length=sz) (I:dz (f::L) w a row)
  (k:∀w',ak [f] w w'->w'.heap.size=w.heap.size->Gr B L w' E sz (.slice (some ⟨b,0,none⟩) N c) (some f) (rows.set i row)->OW P n ops K rest e w'):
  OW P n ops K (⟨none,.store T x y,ty,pos,after,g⟩::rest) e w:=by
 subst U;obtain⟨xs,⟨⟨l5,h|⟨_,cap,q,mM,Q,hb,O,mu,j,V⟩⟩,M,J,p⟩⟩:=m.own
 .obtain⟨h,_⟩:=h;cases h
 .cases Q;cases mM;have d:a.length=sz:=by rw[I.length,D]
  have s:(i+1)*sz<=rows.length*sz:=Nat.mul_le_mul_right _ H;have VU:rows.length*sz<=c*sz:=Nat.mul_le_mul_right _ O;rw[Nat.add_mul,Nat.one_mul] at s;obtain⟨w',j9,hk,F,A⟩:=Ph (P:=P) a 0 w f (i*sz) E q hb (by rw[j,d];omega) λu X=>List.all_eq_true.1 R u X;rw[Nat.add_zero] at F;refine J6 S (w':=w') (by simp[execOp,Instr.storeAt,Instr.sureAddr,t,Z,storeVar,Y,kG.rX,d,j9])<|k w' hk A ⟨⟨xs.take (i*sz)++(a++xs.drop (i*sz+sz)),⟨⟨?_,.inr ⟨f,c,_,rfl,sm,F,by simpa using O,mu,by rw[Ii];exact j,?_⟩⟩,?_,?_,p⟩⟩,m.low,λx t=>by rw[A];exact m.cN x t,by rw[A];exact m.bsz⟩
  .rw[lA,lA,List.length_take,List.length_drop,List.length_set,l5,d];omega
  .rw[Lc _ _ _ (by rw[j,d];omega),List.length_set,<-V,d,List.take_append,List.take_append];simp only[List.length_take,Array.length_toList,j,d,List.take_take,List.drop_take];rw[Nat.min_eq_right<|show i*sz<=rows.length*sz by omega,Nat.min_eq_left<|show i*sz<=rows.length*sz by omega,Nat.min_eq_left<|show i*sz<=c*sz by omega,List.take_of_length_le (l:=a) om];rw[show rows.length*sz-i*sz-sz=rows.length*sz-(i*sz+sz) from by omega]
  .rw[VT J H D];refine dz.append (dz.aG M.take<|hk.mono sm)<|dz.append (I.aG<|hk.mono sm) (dz.aG M.drop<|hk.mono sm)
  .intro r sQ;rcases List.mem_or_eq_of_mem_set sQ with h|h
   .exact J r h
   .rw[h];exact D
/-! ### Slices that are built of several ag -/
theorem VV (a:Nat):∀(c:List Value) (i:Nat) (b:Array Value),((c.zipIdx i).foldl (fun(b:Array Value) (p:Value×Nat)=>b.setIfInBounds (a+p.2) p.1) b)=setAt b (a+i) c
 |[],_,_=>rfl
 |u::c,i,b=>by rw[List.zipIdx_cons,List.foldl_cons,VV a c];rfl
theorem VW:∀(d:List Value) (b:List (List Value)) (k:Nat) (a:Array Value),d.map Value.cells=b.map List.toArray->(∀vs∈b,vs.length=sz)->a.size=(k+d.length)*sz->
  ∃c,Instr.fill (λi=>some (i*sz,sz)) a ((d.zipIdx k).map λp=>(p.2,p.1))=some c/\c.toList=a.toList.take (k*sz)++b.flatten
 |[],[],k,a,_,_,f=>⟨a,rfl,by simp only[List.length_nil,Nat.add_zero] at f;simp only[List.flatten_nil,List.append_nil];rw[List.take_of_length_le (by simp[f])]⟩
 |[],_::_,_,_,h,_,_=>by simp at h
 |_::_,[],_,_,h,_,_=>by simp at h
 |u::d,vs::b,k,a,h,hl,f=>by
  simp only[List.map_cons,List.cons.injEq] at h;have g:vs.length=sz:=hl vs sm;simp only[lC] at f;have e:(k+(d.length+1))*sz=k*sz+sz+d.length*sz:=by rw[Nat.add_mul,Nat.add_mul,Nat.one_mul];omega
  rw[List.zipIdx_cons,List.map_cons];obtain⟨c,o,q⟩:=VW d b (k+1) (setAt a (k*sz) vs) h.2 (λv s=>hl v<|by simp[s]) (by rw[Ii,f];congr 1;omega);refine⟨c,?_,?_⟩
  .unfold Instr.fill;simp only[h.1];rw[iN (by simp[g];omega)];have j:=VV (k*sz) vs 0 a;simp only[Nat.add_zero] at j;have r:Array.foldl (fun(a:Array Value) (p:Value×Nat)=>a.setIfInBounds (k*sz+p.2) p.1) a vs.toArray.zipIdx=setAt a (k*sz) vs:=by rw[<-j];simp
   rw[r];exact o
  .have n:(k+1)*sz=k*sz+sz:=by rw[Nat.add_mul,Nat.one_mul]
   have m:min (k*sz) a.size=k*sz:=Nat.min_eq_left om;rw[q,Lc _ _ _ (by rw[g];omega),n,List.flatten_cons,List.take_append,List.take_append];simp only[List.length_take,Array.length_toList,m,g,List.take_take];rw[Nat.min_eq_right<|show k*sz<=k*sz+sz by omega,show k*sz+sz-k*sz=sz from by omega,List.take_of_length_le (l:=vs) om,Nat.sub_self,List.take_zero,List.append_nil,List.append_assoc]
theorem ahY {T:TypeId} {us:List Value} {vss:List (List Value)} (e:P.underlying T=some (.slice E)) (b:TI P E sz bytes z) (l:0<sz) (m:0<us.length) (n:us.length*sz<=16777216) 
  (j:us.map Value.cells=vss.map List.toArray) (i:∀vs∈vss,vs.length=sz):(Instr.buildSlice T us.length ((us.zipIdx 0).map λp=>(p.2,p.1)).toArray).run P w= .ok (.slice (some ⟨w.heap.size,0,none⟩) us.length us.length) (w.alloc<|.cells vss.flatten.toArray E):=by
 have d:¬us.length*sz=0:=by have:0<us.length*sz:=Nat.mul_pos m l;omega
 have hb:¬(16777216<us.length*sz):=by omega
 obtain⟨a,g,c⟩:=VW us vss 0 ((Array.range<|us.length*sz).map (z.cells[·%z.cells.size]!)) j i sm;have f:a=vss.flatten.toArray:=by apply Array.ext';simpa using c
 subst f;simp[Instr.buildSlice,Sem.run_bind,run_underlying e,Result.andThen_ok,b.rX,hb,d,b.J7,g,newRow]
theorem ur {m:Nat} {T:TypeId} {ag:Array (Nat×Operand)} (a:List Operand) (vss:List (List Value)) (l:P.underlying T=some (.slice E)) (j:TI P E sz bytes z) (r:gate ops e g=true) (o:cC n dst=true) 
  (u:ag=((a.zipIdx 0).map λp=>(p.2,p.1)).toArray) (t:m=a.length) (A:Nat.blt 0 sz=true) (C:Nat.blt 0 a.length=true) (f:Nat.ble (a.length*sz) 16777216=true)
  (v:a.map (λq=>(ev e q).cells)=vss.map List.toArray) (s:vss.all (λvs=>Nat.beq vs.length sz)=true)
  (k:∀w',ak [] w w'->aJ w' w.heap.size vss.flatten.toArray E->w'.heap.size=w.heap.size+1->OW P n ops K rest (bW e dst<|.slice (some ⟨w.heap.size,0,none⟩) m m) w'):
  OW P n ops K (⟨dst,.buildSlice T m ag,ty,pos,after,g⟩::rest) e w:=by
 subst u t;have c:(a.map<|ev e).length=a.length:=by simp
 have d:=ahY (P:=P) (w:=w) (us:=a.map<|ev e) (vss:=vss) l j (by simpa[Nat.blt_eq] using A) (by simpa[Nat.blt_eq] using C) (by rw[c];exact Nat.le_of_ble_eq_true f) (by rw[List.map_map];exact v) λvs h=>Nat.eq_of_beq_eq_true<|List.all_eq_true.1 s vs h;rw[c] at d;have b:((a.zipIdx 0).map λp=>(p.2,p.1)).toArray.map (fun(p:Nat×Operand)=>(p.1,ev e p.2))=(((a.map<|ev e).zipIdx 0).map λp=>(p.2,p.1)).toArray:=by
  rw[List.map_toArray,List.map_map]
  congr 1
  have:∀(a:List Operand) (i:Nat),(a.zipIdx i).map ((fun(p:Nat×Operand)=>(p.1,ev e p.2))∘λp=>(p.2,p.1))=((a.map<|ev e).zipIdx i).map λp=>(p.2,p.1):=by
   intro a;induction a with
   |nil=>intro i;rfl
   |cons q a y=>intro i;simp only[List.zipIdx_cons,List.map_cons,List.map,y];rfl
  exact this a 0
 exact fC r o (w':=w.alloc<|.cells vss.flatten.toArray E) (by have B:(Array.map (λx=>(x.fst,ev e x.snd)) ((a.zipIdx 0).map λp=>(p.2,p.1)).toArray)=(((a.map<|ev e).zipIdx 0).map λp=>(p.2,p.1)).toArray:=b;simp only[execOp];rw[B,Sem.run_bind,d];simp) (k _ (ak.alloc _ _ _) (aJ.alloc _ _ _) sm)
/-! ### Slices that are appended whole -/
theorem VY {w:World}:∀{rows:List (List C)} {f:Nat->List Value},(∀i row,rows[i]?=some row->dz L w (f i) row)->dz L w ((List.range rows.length).map f).flatten rows.flatten
 |[],_,_=>trivial
 |r::rows,f,h=>by rw[lC,List.range_succ_eq_map,List.map_cons,List.map_map,List.flatten_cons,List.flatten_cons];exact(h 0 r rfl).append (VY (f:=f∘Nat.succ) λi row a=>h (i+1) row<|by simpa using a)
theorem ah0 {w:World} {a:List Value} (h:fP w b off xs) (k:fP w b (off+xs.length) a):fP w b off (xs++a):=by grind [fP]
theorem V0 {w:World} {sz:Nat}:∀{n off:Nat} {f:Nat->List Value},(∀i,i<n->(f i).length=sz/\fP w b (off+i*sz) (f i))->fP w b off ((List.range n).map f).flatten
 |0,_,_,_=>λj v g=>by simp at g
 |n+1,off,f,h=>by rw[List.range_succ_eq_map,List.map_cons,List.map_map,List.flatten_cons];obtain⟨c,a⟩:=h 0 om;rw[Nat.zero_mul,Nat.add_zero] at a;refine ah0 a<|V0 (sz:=sz) λi _=>?_;obtain⟨d,e⟩:=h (i+1) om;refine⟨d,?_⟩;rw[c];rwa [show off+(i+1)*sz=off+sz+i*sz from by rw[Nat.add_mul];omega] at e
theorem V2 {w:World} {a:Option Addr} {len cap size:Nat} (h:cg L w (.slice a len cap) (.sl size rows)) (q:0<rows.length):
  ∃b off vs,a=some ⟨b,off,none⟩/\b<w.heap.size/\b∉L/\fP w b off vs/\dz L w vs rows.flatten/\len=rows.length/\∀row∈rows,row.length=size:=by
 cases h with
 |nil=>simp at q
 |sl b off len cap size rows f p _ hb o m t s=>
  refine⟨b,off,((List.range rows.length).map λi=>(List.range size).map<|f i).flatten,rfl,hb,o,V0 (sz:=size) λi g=>⟨by simp,λj v l=>?_⟩,VY λi row g=>?_,p.symm,m⟩
  .have d:j<size:=by have:=(List.getElem?_eq_some_iff.1 l).1;simpa using this
   have e:f i j=v:=by simpa[List.getElem?_map,d] using l
   rw[<-e];exact t i j om d
  .have r:=m row<|List.mem_of_getElem? g;refine dz.of (by simp[r]) λj v c n u=>?_;have d:j<size:=by have:=(List.getElem?_eq_some_iff.1 n).1;simpa using this
   have e:f i j=v:=by simpa[List.getElem?_map,d] using n
   rw[<-e];exact s i j row c g u
theorem V3 {t ty T:TypeId} {i:TypeInfo} (e:P.underlying t=some (.slice T)) (d:P.info? T=some i) 
  {a:Option Addr} {m cap:Nat} (h:m<=cap) {a2:Option Addr} {c2:Nat}:
  (Builtin.append_ #[t,t] ty #[.slice a m cap,.slice a2 0 c2]).run P w= .ok (.slice a m cap) w:=by
 have c:(Builtin.firstCells i.size 0<|.slice a2 0 c2).run P w= .ok #[] w:=by
  cases a2 with
  |none=>simp[Builtin.firstCells]
  |some b=>exact run_firstCells_some (P:=P) (w:=w) i.size 0 b 0 c2 [] sm sm
 cases a<;>simp[Builtin.append_,run_underlying e,sizeOf,typeInfo,d,Builtin.lenOf,h,c,storeCells]
theorem yh {B:Nat} {L:List Nat} {v:Value} {o:Option Nat} {rows new:List (List C)} {a2:Option Addr} {u c2:Nat} (F:P.underlying t=some (.slice E)) (D:TI P E sz bytes z) (I:gate ops e g=true) (H:cC n dst=true) (X:Nat.beq z.cells.size sz=true) (Z:Nat.ble bytes 1000=true) 
  (p:ev e x=v) (N:ev e y= .slice a2 u c2) (f:Gr B L w E sz v o rows) (M:cg (o.toList++L) w (.slice a2 u c2) (.sl sz new)) (R:∀row∈new,∀c∈row,∀v,c= .val v->v.oneCell'=true)
  (hn:rows.length+new.length<100000000)
  (k:∀l d q w',Gr B L w' E sz (.slice l (rows.length+new.length) d) q (rows++new)->ak o.toList w w'->OW P n ops K rest (bW e dst (.slice l (rows.length+new.length) d)) w'):
  OW P n ops K (⟨dst,.call {callee:=.builtin .append,args:=#[x,y],argTypes:=#[t,t]},ty,pos,after,g⟩::rest) e w:=by
 obtain⟨xs,r⟩:=f.own;have Fp:bytes<=1000:=Nat.le_of_ble_eq_true Z;by_cases J:0<new.length
 .obtain⟨b,off,vs,rfl,hb,_,s,A,rfl,Y⟩:=V2 M J;refine Te F D I H X p r N rfl J Y s ?_ A f.cN (Nat.le_trans (Nat.mul_le_mul (show rows.length+new.length<=100000000 by omega)<|show bytes+1<=1001 by omega) de) ?_
  .refine dz.HA A λc s v V=>?_;obtain⟨row,j,S⟩:=List.mem_flatten.1 s;exact R row j c S v V
  .intro l d q w' jJ hk lD;refine k l d q w' ⟨⟨_,jJ⟩,λb hb=>?_,λx p=>lL (f.cN x p) hk.size,Nat.le_trans f.bsz hk.size⟩ hk;rcases lD with h|h
   .rw[h] at hb;exact f.low b hb
   .rw[h] at hb;cases hb;exact f.bsz
 .have oR:new=[]:=List.length_eq_zero_iff.1 om;subst oR;obtain⟨a,cap,rfl⟩:=r.len;have Q:u=0:=by
   obtain⟨_,_,T,_⟩:=sO M;cases T;rfl
  subst Q;have O:rows.length<=cap:=by
   rcases r.own.2 with⟨h,j,_⟩|⟨_,_,_,_,h,_,j,_⟩
   .rw[j];omega
   .cases h;exact j
  obtain⟨i,U,_,_,_⟩:=D.get;have j9:=V3 (P:=P) (w:=w) (t:=t) (ty:=ty) F U (a:=a) (m:=rows.length) (cap:=cap) O (a2:=a2) (c2:=c2);refine fC I H (v:=.slice a rows.length cap) (w':=w) (by simp only[execOp,resolve,invoke,builtin,Sem.run_bind,Sem.run_pure,Result.andThen_ok,List.map_toArray,List.map_cons,List.map_nil,p,N,j9]) ?_;have:=k a cap o w (by simpa using f)<|ak.refl _ _;simpa using this
end
theorem ah1 {T:Nat} (hb:aJ w b xs.toArray T) (a:xs.length=N*sz) (c:N<=100000000):jv w T sz (.slice (some ⟨b,0,none⟩) N N) (some b) N xs:=
 ⟨a,.inr ⟨b,N,_,rfl,rfl,hb,lR _,by unfold maxLen;omega,by simpa using a,by rw[<-a];simp⟩⟩
theorem ah2 {T:Nat} (hb:aJ w b xs.toArray T) (d:dz (b::L) w xs rows.flatten) (e:∀r∈rows,r.length=sz) (g:N=rows.length) (i:N<=100000000) (c:B<=b) (j:b∉L) (f:∀x∈L,x<w.heap.size):
  Gr B L w T sz (.slice (some ⟨b,0,none⟩) N N) (some b) rows:=by
 subst g;refine⟨⟨xs,⟨ah1 hb (by rw[d.length,Nv e]) i,d,e,λx a=>by cases a;exact j⟩⟩,λx a=>by cases a;exact c,f,Nat.le_trans c<|Nat.le_of_lt hb.lt⟩
theorem ah3 {e:List aq}:∀row,row∈di e->∀c∈row,∀v,c=C.val v->v.oneCell'=true:=by
 intro row d c b v a;rw[zw] at d;obtain⟨t,_,rfl⟩:=List.mem_map.1 d;cases t;rw[aq.enc] at b;simp only[mC,List.not_mem_nil,or_false] at b;rcases b with h|h
 .rw[h] at a;cases a;rfl
 .rw[h] at a;cases a
section
open Go Go.ChangeShapes Go.WideShapes
theorem ah4 {a:Addr} (h:w.cell? a=some v):a=⟨a.block,a.off,none⟩/\a.block<w.heap.size:=by
 obtain⟨b,o,s⟩:=a;unfold World.cell? at h;split at h
 .rename_i c _ _ d;cases s with
  |some s=>simp at h
  |none=>exact⟨rfl,(Array.getElem?_eq_some_iff.1 d).1⟩
 .cases h
theorem ah5 {a:Addr} (h:a=⟨a.block,a.off,none⟩) (i:Nat):a.add i=⟨a.block,a.off+i,none⟩:=by rw[h];exact tS _ _ _
section
variable {H:Type} {enc:TypeId×Value->H} {P:Program} {w:World} {held:Bool}
end
end
theorem Ij (a b c:Int) (w:World):bB Tryz.prog 67 [.int .i64 a,.int .i64 b,.int .i64 c] w λv w'=>v= .bool (decide (b<=a)&&decide (a<=c))/\w=w':=by refine bY [.tmp 6] 15 Tryz.func67 rfl afT rfl rfl ?_;refine W ?_;apply oB 4 10 14 rfl oQ;intro _;exact oQ;intro _;refine W ?_;exact⟨_,rfl,rfl,rfl⟩
theorem ah6 (c:UInt8) (w:World):bB Tryz.prog 137 [.int .u8 c.toNat] w λv w'=>v= .bool (fj c)/\w=w':=by refine bY [.tmp 2] 33 Tryz.func137 rfl aem rfl rfl ?_;refine W ?_;apply oB 3 5 8 rfl oQ;intro _;exact oQ;intro a;refine WZ ?_;apply oP 7 9 16 rfl oQ;intro _;refine WZ ?_;apply oB 3 12 15 rfl oQ;intro _;exact oQ;intro a;exact oQ;intro a;refine WZ ?_;apply oP 3 17 20 rfl oQ;intro _;exact oQ;intro a;refine WZ ?_;apply oP 3 21 24 rfl oQ;intro _;exact oQ;intro a;refine WZ ?_;apply oP 3 25 28 rfl oQ;intro _;exact oQ;intro a;refine WZ ?_;apply oP 3 29 32 rfl oQ;intro _;exact oQ;intro a;refine W ?_;exact⟨_,rfl,congrArg Value.bool (S6 c),rfl⟩
def ah7 (L:List Nat) (s:aj) (d i:Nat) (v:Value) (w:World):Prop:=
 ∃t b a,v= .tuple #[b,.int .i64 a]/\bg L w b t/\De s.length (rT d<|s.drop i) t a
theorem ah8 (s:aj) (hs:s.length<=12000):∀(d i:Nat) (L:List Nat) (w:World),d<=61->i<=s.length->(∀x∈L,x<w.heap.size)->
  bB Tryz.prog 107 [str s,.int .i64 (i:Int),.int .i64 ((61:Int)-(d:Int))] w λv w'=>ah7 L s d i v w'/\ak [] w w':=by
 intro d;induction d with
 |zero=>intro i L w hd hi hL;have c:=ak.refl [] w;refine kV [.cell 6 103,.tmp 7] 87 Tryz.func107 rfl KF rfl rfl rfl ?_;refine zr<|dx aM rfl rfl rfl λA F e dk=>?_;have c:=c.grow;have c:=c.ext F;refine zA<|aW<|zr<|jG (HS _) rfl rfl<|dx aM rfl rfl rfl λw2 C j dW=>?_;have c:=c.grow;have c:=c.ext C;have e:=e.grow;have e:=e.ext C;refine cI aM rfl rfl rfl j rfl λV B j gU=>?_;have c:=c.aB B sx;have e:=e.aB B sx;refine aW<|jS<|zr<|zm<|Hk rfl rfl rfl rfl rfl<|zm ?_;apply C5 5 15 20 [15,16,17,18,19,20] (λw'=>V=w') rfl;intro E;replace E:=jq E;refine W ?_;exact mg rfl rfl;intro E;replace E:=jq E;refine W ?_;exact mg rfl rfl;rintro X _ rfl;refine aW<|zc rfl (λu=>?_) λu=>?_;refine W ?_;refine cI aM rfl rfl rfl e rfl λN aK e ic=>?_;have c:=c.aB aK sx;refine W ?_;exact⟨[_,_],⟨ga fJ aM rfl e rfl,rfl⟩,⟨.mk [] [],_,_,rfl,jI lB,rfl⟩,c⟩;exfalso;simp at u
 |succ d ih=>
  intro i L w hd hi hL;have c:=ak.refl [] w;by_cases jo:i<s.length
  .have D:=drop_cons<|jH jo;have V4:=Hx fj<|s.drop i;rw[List.length_drop] at V4;refine kV [.cell 6 103,.tmp 7] 87 Tryz.func107 rfl KF rfl rfl rfl<|zr<|dx aM rfl rfl rfl λA F e dk=>?_;have c:=c.grow;have c:=c.ext F;refine zA<|aW<|zr<|jG (HS _) rfl rfl<|dx aM rfl rfl rfl λw2 C j dW=>?_;have c:=c.grow;have c:=c.ext C;have e:=e.grow;have e:=e.ext C;refine cI aM rfl rfl rfl j rfl λV B j gU=>?_;have c:=c.aB B sx;have e:=e.aB B sx;refine W ?_;apply oP 5 15 20 rfl oQ;intro _;exact oQ;intro X;refine aW<|zc rfl (λu=>?_) λu=>?_;exfalso;simp at u;omega;refine W ?_;refine kH jb rfl rfl rfl rfl (jH jo)<|Hl rfl rfl rfl rfl rfl<|aW<|zc rfl (λh3=>?_) λh3=>?_;have dD:s.getD i 0≠40:=λh=>h3 (by rw[h];rfl);refine W ?_;refine eJ (λk:Nat=>[(0,str s),(1,.int .i64 (k:Int)),(6,.pointer<|some ⟨w.heap.size,0,none⟩),(8,.pointer<|some ⟨A.heap.size,0,none⟩),(9,.int .i64 (i:Int))]) (λk w'=>w'=V/\i<=k/\k-i<=((s.drop i).takeWhile fj).length) (λk=>s.length-k) i (⟨rfl,rfl,rfl,rfl,rfl⟩) (⟨rfl,lR _,om⟩) λK N e4 T=>?_;obtain⟨rfl,wJ,FV⟩:=T;have DM:=abX s wJ FV;refine WZ ?_;apply oB 5 31 36 rfl oQ;intro _;refine zm<|zm<|kH jb rfl rfl rfl rfl (jH om)<|aA (ah6 _ _) ?_;rintro _ _ ⟨rfl,rfl⟩;exact oQ;intro X;refine aW<|zc rfl (λh5=>?_) λh5=>?_;have eF:=DM.2 (by simpa using h5);refine W ?_;exact⟨K+1,⟨rfl,rfl,rfl,rfl,rfl⟩,⟨rfl,om,om⟩,om⟩;have Y:K-i=((s.drop i).takeWhile fj).length:=Nat.le_antisymm FV (Nat.le_of_not_lt λhh=>by have f:=DM.1 hh;rw[f.2,Bool.and_true,decide_eq_false_iff_not] at h5;omega);refine W ?_;refine C4 jb rfl rfl rfl (.inr ⟨_,rfl⟩) (.inr ⟨_,rfl⟩) om om<|zf l9 rfl<|gZ bo rfl rfl rfl j rfl λw5 H j _=>?_;have c:=c.aB H sx;have e:=e.aB H sx;refine W ?_;refine zc rfl (λM=>?_) λM=>?_;have o:rT (d+1) (s.drop i)=none:=by rw[Y,Kh] at M;show eW d _=none;rw[D,Hz _ _ _ dD,<-D,iP M]
   refine W ?_;refine cI aM rfl rfl rfl e rfl λw6 z e lQ=>?_;have c:=c.aB z sx;refine W ?_;exact⟨[_,_],⟨ga fJ aM rfl e rfl,rfl⟩,⟨.mk _ [],_,_,rfl,jI lB,by rw[o];rfl⟩,c⟩;have o:rT (d+1) (s.drop i)=some (.mk ((s.drop i).takeWhile fj) [],(s.drop i).dropWhile fj):=by rw[Y,Kh] at M;show eW d _=_;rw[D,Hz _ _ _ dD,<-D,iN M]
   refine W ?_;refine cI aM rfl rfl rfl e rfl λw6 z e lQ=>?_;have c:=c.aB z sx;refine zA<|aW<|kF<|⟨[_,_],⟨ga fJ aM rfl e rfl,rfl⟩,⟨.mk _ [],_,_,rfl,jI lB,?_⟩,c⟩;rw[o];refine⟨by rw[Y,Kh],?_⟩;rw[Hw,List.length_drop,List.length_drop];show(K:Int)=_;omega;have Z:s.getD i 0=40:=UInt8.toNat_inj.1 (by have O:(40:UInt8).toNat=40:=rfl;rw[O];omega);refine WZ ?_;refine eJ (λq:List aq×Nat×Option Addr×Nat×Option Nat×List Value=>[(0,str s),(1,.int .i64 (q.2.1:Int)),(2,.int .i64<|(61:Int)-((d+1:Nat):Int)),(6,.pointer<|some ⟨w.heap.size,0,none⟩),(8,.pointer<|some ⟨A.heap.size,0,none⟩)]) (λq w'=>ak [] w w'/\aJ w' w.heap.size [str [],.slice none 0 0].toArray 103/\aJ w' A.heap.size [str [],.slice q.2.2.1 q.1.length q.2.2.2.1].toArray 103/\iL (w.heap.size::A.heap.size::L) w' 103 2 (.slice q.2.2.1 q.1.length q.2.2.2.1) q.2.2.2.2.1 (di q.1) q.2.2.2.2.2/\(∀b,q.2.2.2.2.1=some b->w.heap.size<=b)/\q.2.1<s.length/\i<=q.2.1/\q.1.length<=q.2.1/\A.heap.size<w'.heap.size/\nW d (s.drop<|i+1)=(nW d (s.drop<|q.2.1+1)).map λp=>(q.1++p.1,p.2)) (λq=>s.length-q.2.1) (([],i,none,0,none,[])) (⟨rfl,rfl,rfl,rfl,rfl⟩) (⟨c,e,j,iL.nil _ _ _ _,sm,jo,lR _,sm,om,sm⟩) λK N e4 T=>?_;obtain⟨l,k,a,_,g,xs⟩:=K;dsimp only at T⊢;obtain⟨c,e,j,n,hg,hk,wJ,_,_,U⟩:=T;have hLx:∀x∈g.toList++(w.heap.size::A.heap.size::L),x<N.heap.size:=by intro x f;simp at f;rcases f with f|rfl|rfl|f;exact n.own.lt x f;omega;omega;have E:=hL x f;have u:=c.size;omega
   refine WA ?_;refine B7 ?_;refine zm<|l6 rfl rfl rfl rfl rfl (show IntKind.i64.wrap ((61:Int)-((d+1:Nat):Int)+1)=(61:Int)-(d:Int) by rw[wrap_i64 _ om om];omega)<|aA (ih (k+1) (g.toList++(w.heap.size::A.heap.size::L)) N om om hLx) ?_;rintro _ w5 ⟨DN,H⟩;have oT:=H.size;refine gT H c e j n λc e j n=>?_;obtain⟨t,_,_,rfl,y,hm⟩:=DN;obtain⟨_,_,_,rfl,eD,_⟩:=db y;subst eD;refine W ?_;refine dx aM rfl rfl rfl λw6 z pY lQ=>?_;have c:=c.grow;have c:=c.ext z;have e:=e.grow;have e:=e.ext z;have j:=j.grow;have j:=j.ext z;have n:=n.alloc z lQ;have y:=y.grow;have y:=y.ext z;refine cI aM rfl rfl rfl pY rfl λ_ I pY _=>?_;have c:=c.aB I sx;have e:=e.aB I sx;have j:=j.aB I sx;have n:=n.aB I sx;have y:=y.aB I sx;refine W ?_;apply oP 5 61 66 rfl oQ;intro _;exact oQ;intro X;refine aW<|zc rfl (λS=>?_) λS=>?_;have o:rT (d+1) (s.drop i)=none:=by show eW d _=none;rw[D,Z,Fm,U,abY hm (by simpa using S) om];rfl
   refine W ?_;refine cI aM rfl rfl rfl e rfl λw8 R e ll=>?_;have c:=c.aB R sx;have n:=n.aB R sx;refine W ?_;exact⟨[_,_],⟨ga fJ aM rfl e rfl,rfl⟩,⟨.mk [] l,_,_,rfl,jI<|n.done.weaken λx f=>by simp[f],by rw[o];rfl⟩,c⟩;simp at S;obtain⟨m,rfl,_,Pn,fL⟩:=abZ hm S.1 om;refine W ?_;refine fX cQ aM rfl rfl λw8 R aia ll=>kj R c e j n y λc e j n y=>?_;refine Tf cQ aM rfl rfl rfl rfl rfl n (pQ t) aia.all (by simp[Value.oneCell']) (y.lj.fresh λx f=>.inl<|Tc x f) ?_ ?_ ?_;intro x f;simp at f;rcases f with rfl|rfl|rfl|f;(·omega);(·omega);(·omega);(·have E:=hL x f;have u:=c.size;omega);rw[iz];omega;intro a2 DO g2 _ r Q jr;have e1:(di l).length+1=(l++[t]).length:=by simp[iz]
   have e2:di l++[t.enc]=di (l++[t]):=by simp[NP,di]
   rw[e1] at r⊢;rw[e2] at r;have cK:=Q.size;have Dx:∀b,g2=some b->w.heap.size<=b:=by intro b hb;rcases jr with h|h;(·rw[h] at hb;exact hg b hb);(·rw[h] at hb;cases hb;omega)
   have c:=c.aB Q λx f=>.inr (hg x<|by simpa using f);have e:=e.aB Q<|n.sep sm;have j:=j.aB Q<|n.sep sm;refine zf kf rfl<|gZ Fz rfl rfl rfl j rfl λ_ cX j _=>?_;have c:=c.aB cX sx;have e:=e.aB cX sx;have r:=r.aB cX sx;refine W ?_;refine kH jb rfl rfl rfl rfl (jH Pn)<|xN rfl rfl rfl rfl rfl<|aW<|zc rfl (λh9=>?_) λh9=>?_;have P:s.getD m 0=41:=UInt8.toNat_inj.1 (by have O:(41:UInt8).toNat=41:=rfl;rw[O];omega);have o:rT (d+1) (s.drop i)=some (.mk [] (l++[t]),s.drop<|m+1):=by show eW d _=_;rw[D,Z,Fm,U,fL,iP P];rfl
   refine W ?_;refine cI aM rfl rfl rfl e rfl λfi J e vF=>?_;have c:=c.aB J sx;have r:=r.aB J sx;refine W ?_;exact⟨[_,_],⟨ga fJ aM rfl e rfl,rfl⟩,⟨.mk [] (l++[t]),_,_,rfl,jI<|r.done.weaken λx f=>by simp[f],by rw[o];exact⟨rfl,by rw[List.length_drop];omega⟩⟩,c⟩;have P:s.getD m 0≠41:=λh=>h9 (by rw[h];rfl);refine W ?_;refine kH jb rfl rfl rfl rfl (jH Pn)<|Hl rfl rfl rfl rfl rfl<|aW<|zc rfl (λfY=>?_) λfY=>?_;have Po:s.getD m 0≠32:=λh=>fY (by rw[h];rfl);have o:rT (d+1) (s.drop i)=none:=by show eW d _=_;rw[D,Z,Fm,U,fL,iN P,iN Po];rfl
   refine W ?_;refine cI aM rfl rfl rfl e rfl λfi J e vF=>?_;have c:=c.aB J sx;have r:=r.aB J sx;refine W ?_;exact⟨[_,_],⟨ga fJ aM rfl e rfl,rfl⟩,⟨.mk [] (l++[t]),_,_,rfl,jI<|r.done.weaken λx f=>by simp[f],by rw[o];rfl⟩,c⟩;have Po:s.getD m 0=32:=UInt8.toNat_inj.1 (by have O:(32:UInt8).toNat=32:=rfl;rw[O];omega);refine WZ ?_;exact⟨(l++[t],m,a2,DO,g2,_),⟨rfl,rfl,rfl,rfl,rfl⟩,⟨c,e,j,r.more (by intro x f;exact .inl (by simp at f⊢;rcases f with f|f|f<;>simp[f])),Dx,Pn,by dsimp only;omega,by simp;omega,om,by rw[U,fL,iN P,iP Po,map_append]⟩,by dsimp only;omega⟩
  refine kV [.cell 6 103,.tmp 7] 87 Tryz.func107 rfl KF rfl rfl rfl<|zr<|dx aM rfl rfl rfl λA F e dk=>?_;have c:=c.grow;have c:=c.ext F;refine zA<|aW<|zr<|jG (HS _) rfl rfl<|dx aM rfl rfl rfl λw2 C j dW=>?_;have c:=c.grow;have c:=c.ext C;have e:=e.grow;have e:=e.ext C;refine cI aM rfl rfl rfl j rfl λV B j gU=>?_;have c:=c.aB B sx;have e:=e.aB B sx;refine W ?_;apply oP 5 15 20 rfl oQ;intro _;exact oQ;intro X;refine aW<|zc rfl (λu=>?_) λu=>?_;have o:rT (d+1) (s.drop i)=none:=by rw[List.drop_of_length_le om];exact S9 d
  refine W ?_;refine cI aM rfl rfl rfl e rfl λN aK e ic=>?_;have c:=c.aB aK sx;refine W ?_;exact⟨[_,_],⟨ga fJ aM rfl e rfl,rfl⟩,⟨.mk [] [],_,_,rfl,jI lB,by rw[o];rfl⟩,c⟩;exfalso;simp at u;omega
theorem zS (s:aj) (L:List Nat) (w:World) (u:∀x∈L,x<w.heap.size):
  bB Tryz.prog 78 [str s] w λv w'=>(∃t j,v= .tuple #[j,.bool (bS s).isSome]/\bg L w' j t/\∀i,bS s=some i->t=i)/\ak [] w w':=by
 have a:=ak.refl [] w;refine kV [.cell 2 103,.tmp 3] 20 Tryz.func78 rfl UB rfl rfl rfl ?_;refine zr<|dx aM rfl rfl rfl λz p b _=>?_;have a:=a.grow;have a:=a.ext p;refine W ?_;refine zc rfl (λr=>?_) λr=>?_;have o:bS s=none:=by unfold bS;rw[iP om]
 refine zr<|jG (HS _) rfl rfl<|cI aM rfl rfl rfl b rfl λA e b _=>?_;have a:=a.aB e sx;refine W ?_;exact⟨[_,_],⟨ga fJ aM rfl b rfl,rfl⟩,⟨.mk [] [],_,by rw[o];rfl,jI lB,λi h=>by rw[o] at h;cases h⟩,a⟩;refine iw<|zr<|zm<|aA (ah8 s om 61 0 (w.heap.size::L) z om om (by intro x d;rcases mC.1 d with rfl|d;(·omega);(·have:=u x d;omega))) ?_;rintro _ A ⟨q,e⟩;have B:=e.size;refine bN e a b λa b=>?_;obtain⟨t,j,_,rfl,c,y⟩:=q;obtain⟨_,_,_,rfl,_,_⟩:=db c;refine W ?_;refine dx aM rfl rfl rfl λ_ f m _=>?_;have a:=a.grow;have a:=a.ext f;have b:=b.grow;have b:=b.ext f;have c:=c.grow;have c:=c.ext f;refine cI aM rfl rfl rfl m rfl λ_ g m _=>?_;have a:=a.aB g sx;have b:=b.aB g sx;have c:=c.aB g sx;refine W ?_;refine cI aM rfl rfl rfl b rfl λ_ n b _=>?_;have a:=a.aB n sx;have c:=c.aB n sx;refine W ?_;have l:=ab0 om y;exact⟨[_,_],⟨ga fJ aM rfl b rfl,rfl⟩,⟨t,_,by rw[<-l.1];rfl,iZ.fresh c λx d=>.inl<|by simp[d],l.2⟩,a⟩
theorem Le (t:aq) (v:Value) (L:List Nat) (w:World) (q:bg L w v t):bB Tryz.prog 140 [v] w λr w'=>r=str (bz t)/\ak [] w w':=by obtain⟨a,n,c,rfl,m,f⟩:=db q;have e:=ak.refl [] w;refine bY [.tmp 2] 17 Tryz.func140 rfl aep rfl rfl ?_;refine zr<|eK rfl λ_ o _ _=>bN o e f λe f=>?_;refine W ?_;apply oP 5 6 11 rfl oQ;intro _;refine WZ ?_;exact oQ;intro _;refine aW<|zc rfl (λd=>?_) λd=>?_;have g:bz t=[]:=Dm (by simp at d;rcases d with h|h;(·exact .inl h);(·right;subst m;simpa using h));refine W ?_;exact⟨_,rfl,by rw[g];rfl,e⟩;simp at d;have s:=d.2;have p:∃l,t.ag[0]?=some l:=⟨t.ag[0]'om,gE om⟩;obtain⟨l,j⟩:=p;obtain⟨b,off,_,_,_,rfl,_,_,_⟩:=ik f j;have g:bz t=l.au:=HG d.1 j;refine WI ?_;refine zi (i:=0) cQ aM rfl rfl (by rw[m];exact(List.getElem?_eq_some_iff.1 j).1) ?_;refine W ?_;exact⟨_,rfl,by rw[g];rfl,e⟩
theorem V5 (s:aj) (i:s.length<9223372036854775807) (w:World):bB Tryz.prog 102 [str s] w λr w'=>r= .bool (oG s)/\w=w':=by refine bY [.tmp 2] 39 Tryz.func102 rfl adN rfl rfl ?_;refine W ?_;refine eJ (λk:Nat=>[(0,str s),(3,.int .i64 (k:Int))]) (λk w'=>w'=w/\k<=s.length/\∀j,j<k->Dl s j=true) (λk=>s.length-k) (0) (⟨rfl,rfl⟩) (⟨rfl,om,by intro j g;omega⟩) λd _ _ f=>?_;obtain⟨rfl,hk,c⟩:=f;refine W ?_;refine zc rfl (λe=>?_) λe=>?_;refine W ?_;refine kH jb rfl rfl rfl rfl (jH om)<|WZ ?_;apply oB 5 14 19 rfl oQ;intro _;refine zm<|zm<|kH jb rfl rfl rfl rfl (jH om) ?_;exact oQ;intro b;refine WZ ?_;apply oP 15 20 35 rfl oQ;intro _;refine WZ ?_;apply oB 5 23 28 rfl oQ;intro _;refine zm<|zm<|kH jb rfl rfl rfl rfl (jH om) ?_;exact oQ;intro b;refine WZ ?_;apply oB 5 29 34 rfl oQ;intro _;refine zm<|zm<|kH jb rfl rfl rfl rfl (jH om) ?_;exact oQ;intro b;exact oQ;intro b;refine ka rfl rfl rfl<|aW<|zc rfl (λa=>?_) λa=>?_;rw[Kq] at a;refine W ?_;exact⟨_,rfl,by rw[Tv om a];rfl,rfl⟩;rw[Kq] at a;refine W ?_;exact⟨d+1,⟨rfl,rfl⟩,⟨rfl,om,Tx c a⟩,om⟩;refine W ?_;exact⟨_,rfl,by rw[Tw λj g=>c j om];rfl,rfl⟩
def Il (s:aj):Value:=.tuple #[.int .i64<|(numeral s).getD 0,.bool (numeral s).isSome]
theorem Lf (s:aj) (w:World):bB Tryz.prog 142 [str s] w λv w'=>v=Il s/\w=w':=by
 refine bY [.tmp 2,.tmp 3] 57 Tryz.func142 rfl aer rfl rfl ?_;refine W ?_;apply oB 4 12 16 rfl oQ;intro u;refine zm<|kH (i:=0) jb rfl rfl rfl rfl (jH om) ?_;exact oQ;intro A;refine W ?_;refine jn (λ_:Unit=>[(0,str s),(4,.int .i64<|rZ s),(5,str<|eX s)]) (λ_ w'=>w'=w) ?_ ?_;refine zc rfl (λe=>?_) λe=>?_;have f:0<s.length/\s.getD 0 0=45:=by have b:=Tu 45<|s.getD 0 0;simp only[show((45:UInt8).toNat:Int)=45 from rfl] at b;rw[b] at e;simpa using e
 refine W ?_;refine C4 (l:=1) jb rfl rfl rfl (.inr ⟨_,rfl⟩) (.inl ⟨rfl,rfl⟩) om om<|zA<|aW ?_;exact⟨(),⟨rfl,by rw[rZ,iP f];rfl,by have u:eX s=(s.drop 1).take (s.length-1):=by{rw[eX,iP f,List.take_of_length_le sm]};rw[u];exact rfl⟩,rfl⟩;have f:¬(0<s.length/\s.getD 0 0=45):=by have b:=Tu 45<|s.getD 0 0;simp only[show((45:UInt8).toNat:Int)=45 from rfl] at b;rw[b] at e;simpa using e
 refine WZ ?_;exact⟨(),⟨rfl,by rw[rZ,iN f];rfl,by rw[eX,iN f];exact rfl⟩,rfl⟩;intro _ F _ p;obtain rfl:=p;refine W ?_;refine zc rfl (λm=>?_) λm=>?_;have g:numeral s=some 0:=by unfold numeral;rw[iP m]
 refine W ?_;exact⟨_,rfl,by unfold Il;rw[g];rfl,rfl⟩;have r:=m;refine W ?_;refine aA (Ij _ _ _ _) ?_;rintro _ _ ⟨rfl,rfl⟩;refine WZ ?_;apply oP 4 25 29 rfl oQ;intro D;simp at D;refine zm<|kH (i:=0) jb rfl rfl rfl rfl (jH om) ?_;exact oQ;intro A;refine aW<|zc rfl (λn=>?_) λn=>?_;have g:numeral s=none:=aca r<|acf n;refine W ?_;exact⟨_,rfl,by unfold Il;rw[g];rfl,rfl⟩;have y:=acg n;refine W ?_;refine eJ (λk:Nat=>[(4,.int .i64<|rZ s),(5,str<|eX s),(6,.int .i64 (val ((eX s).take k):Nat)),(7,.int .i64 (k:Int))]) (λk w'=>w'=F/\k<=(eX s).length/\((eX s).take k).all iU=true) (λk=>(eX s).length-k) (0) (⟨rfl,rfl,rfl,rfl⟩) (⟨rfl,om,sm⟩) λd _ _ p=>?_;obtain⟨rfl,hk,c⟩:=p;refine W ?_;refine zc rfl (λE=>?_) λE=>?_;have a:d<(eX s).length:=by omega
 have j:=Tr _ c;have C:val ((eX s).take d)<100:=lL j<|Nat.le_trans (Nat.pow_le_pow_right om (show((eX s).take d).length<=2 by simp;omega)) de;clear j;refine W ?_;refine kH jb rfl rfl rfl rfl (jH a)<|WZ ?_;apply oP 5 40 45 rfl oQ;intro _;refine zm<|zm<|kH jb rfl rfl rfl rfl (jH a) ?_;exact oQ;intro A;refine aW<|zc rfl (λo=>?_) λo=>?_;have g:numeral s=none:=acb r a<|TH o;refine W ?_;exact⟨_,rfl,by unfold Il;rw[g];rfl,rfl⟩;have q:=TJ o;have H:=q.1;have I:=q.2.1;refine W ?_;refine kH jb rfl rfl rfl rfl (jH a)<|xO rfl rfl rfl rfl rfl (wrap_u8 _ om om)<|zq zG xY rfl rfl rfl (wrap_i64 _ om om)<|W ?_;exact⟨d+1,⟨rfl,rfl,by rw[NS a,Tq];show Value.int _ _=Value.int _ _;congr 1;omega,rfl⟩,⟨rfl,om,by rw[NS a,List.all_append,c];simp only[List.all_cons,q.2.2];rfl⟩,om⟩;have t:(eX s).take d=eX s:=List.take_of_length_le om;rw[t] at c;have j:=Tr _ c;have C:val (eX s)<1000:=lL j<|Nat.le_trans (Nat.pow_le_pow_right om y.2.1) de;clear j;rw[t];have B:=ace s;have z: -1000<rZ s*(val (eX s):Int)/\rZ s*(val (eX s):Int)<1000:=by rcases B with h|h<;>rw[h]<;>omega
 refine W ?_;exact⟨_,rfl,by unfold Il;rw[acd r y c];rfl,rfl⟩
theorem aib (t:aq) (v:Value) (L:List Nat) (w:World) (i:bg L w v t):bB Tryz.prog 181 [v] w λr w'=>r= .int .i64 (tW t.au)/\ak [] w w':=by
 obtain⟨a,n,c,rfl,d,_⟩:=db i;have e:=ak.refl [] w;refine bY [.tmp 2] 19 Tryz.func181 rfl ae0 rfl rfl ?_;refine zr<|eK rfl λ_ g _ _=>?_;have e:=e.ext g;refine W ?_;refine aA (Lf _ _) ?_;rintro _ _ ⟨rfl,rfl⟩;refine W ?_;apply oP 4 13 17 rfl oQ;intro _;refine zm<|aA (Ij _ _ _ _) ?_;rintro _ _ ⟨rfl,rfl⟩;exact oQ;intro _;refine aW<|zc rfl (λb=>?_) λb=>?_;have f:tW t.au= -1:=by unfold tW;cases d:numeral t.au with|none=>rfl|some k=>rw[d] at b;simp at b;exact iN om
 refine W ?_;exact⟨_,rfl,by rw[f];rfl,e⟩;have f:tW t.au=(numeral t.au).getD 0:=by unfold tW;cases d:numeral t.au with|none=>rw[d] at b;simp at b|some k=>rw[d] at b;simp at b;exact iP om
 refine W ?_;exact⟨_,rfl,by rw[f];rfl,e⟩
theorem Pp:∀(m:Nat) (t:aq),t.size<=m->t.size<=100000->WF t->∀(d:Bool) (v:Value) (L:List Nat) (w:World),bg L w v t->
  bB Tryz.prog 135 [v,.bool d,.bool false] w λr w'=>r= .bool (fR d t)/\ak [] w w':=by
 intro m;induction m with
 |zero=>intro t h;cases t;simp[aq.size] at h
 |succ m M=>
  intro t _ _ z d v L w V;obtain⟨a,n,c,rfl,T,f⟩:=db V;have e:=ak.refl [] w;have og:=oH t;refine bY [.tmp 6] 72 Tryz.func135 rfl ael rfl rfl ?_;refine zr<|eK rfl λF g u _=>bN g e f λe f=>?_;refine W ?_;refine zc rfl (λB=>?_) λB=>?_;refine WZ ?_;apply oP 7 15 22 rfl oQ;intro _;refine WZ ?_;apply oB 4 17 21 rfl oQ;intro _;refine WZ ?_;exact oQ;intro p;exact oQ;intro p;refine WZ ?_;apply oP 7 23 30 rfl oQ;intro _;refine zm<|zm<|Fi (t:=25) (b:=false) rfl ?_;exact oQ;intro p;refine W ?_;exact⟨_,rfl,show Value.bool _=Value.bool _ from congrArg _<|by rw[TO B,Bool.or_false],e⟩;have o:t.au=[]:=Classical.not_not.1 B;have j:=z.pos o;have mN:=ew j;obtain⟨b,off,_,_,_,rfl,_,_,_⟩:=ik f mN;refine WI ?_;refine zi (i:=0) cQ aM rfl rfl (by rw[T];exact j)<|W ?_;refine zc rfl (λC=>?_) λC=>?_;refine WZ ?_;apply oA 7 42 49 (ak [] F) rfl oQ;intro _;have K:t.ag.length=2:=by omega
  have Z:=ew (ps:=t.ag) (i:=1) om;obtain⟨O,Q,X,sk,Y,q,J,s8,E⟩:=ik f Z;cases q;refine zf kf rfl<|zl jy rfl (u.at rfl)<|zi (i:=1) cQ aM rfl rfl om<|zL fJ aM rfl J rfl<|zm<|aA (M (nth t.ag 1) (by have:=kW (t:=t) (i:=1) om;omega) (by have:=kW (t:=t) (i:=1) om;omega) (z.nth om) true _ L F<|kI E) ?_;rintro _ H ⟨rfl,s⟩;have dJ:=s.size;exact oQ;intro p H s;have e:=e.ext s;refine zA<|aW<|kF<|⟨_,rfl,show Value.bool _=Value.bool _ from congrArg _ ?_,e⟩;rw[NV o j C]
  congr 1
  exact decide_eq_decide.2 om;have P:=C;refine WZ ?_;apply oB 3 52 55 rfl oQ;intro _;exact oQ;intro p;refine aW<|zc rfl (λD=>?_) λD=>?_;have hb:=TP o j P<|aco D;refine W ?_;exact⟨_,rfl,by rw[hb];rfl,e⟩;have N:(nth t.ag 0).au=[116]\/(nth t.ag 0).au=[99]:=acn D;refine W ?_;refine eJ (λk:Nat=>[(3,.pointer<|some ⟨w.heap.size,0,none⟩),(1,.bool d),(2,.bool false),(8,.int .i64 (k:Int))]) (λk w'=>ak [] w w'/\ak [] F w'/\1<=k/\k<=t.ag.length/\(t.ag.drop 1).all (fR d)=(t.ag.drop k).all (fR d)) (λk=>t.ag.length-k) (1) (⟨rfl,rfl,rfl,rfl⟩) (⟨e,ak.refl [] _,om,om,rfl⟩) λl H _ S=>?_;obtain⟨e,g,hk,_,y⟩:=S;refine bN g f u λf u=>?_;refine W ?_;refine zc rfl (λR=>?_) λR=>?_;have U:=ew (ps:=t.ag) (i:=l) om;obtain⟨O,Q,X,sk,Y,q,J,s8,E⟩:=ik f U;cases q;refine W ?_;refine aA (M (nth t.ag l) (by have:=kW (t:=t) (i:=l) om;omega) (by have:=kW (t:=t) (i:=l) om;omega) (z.nth om) d _ L H<|kI E) ?_;rintro _ _ ⟨rfl,I⟩;have fy:=I.size;refine bN I e g λe g=>?_;refine ka rfl rfl rfl<|aW<|zc rfl (λA=>?_) λA=>?_;have hb:fR d t=false:=by rw[NW o j N,y,TQ om,A];rfl
  refine W ?_;exact⟨_,rfl,by rw[hb];rfl,e⟩;refine W ?_;exact⟨l+1,⟨rfl,rfl,rfl,rfl⟩,⟨e,g,om,om,by rw[y,TQ om,A];rfl⟩,om⟩;have hb:fR d t=true:=by rw[NW o j N,y,List.drop_of_length_le om];rfl
  refine W ?_;exact⟨_,rfl,by rw[hb];rfl,e⟩

theorem aic (t:aq) (D:t.size<=100000) (B:WF t) (z:Int) (v:Value) (L:List Nat) (w:World) (E:bg L w v t):
  bB Tryz.prog 141 [v,.int .u8 z] w λr w'=>r= .bool (jL z t)/\ak [] w w':=by
 have e:=E;obtain⟨a,n,c,rfl,_,_⟩:=db E;have b:=ak.refl [] w;have K:=r5 t;refine bY [.tmp 4] 39 Tryz.func141 rfl aeq rfl rfl ?_;refine zr<|eK rfl λI F A _=>bN F b e λb e=>?_;refine W ?_;refine jn (λ_:Unit=>[(2,.pointer<|some ⟨w.heap.size,0,none⟩),(7,.int .u8 z),(8,.bool (decide (z=114)||decide (z=42)))]) (λ_ w'=>w'=I) ?_ ?_;refine zc rfl (λo=>?_) λo=>?_;refine WZ ?_;exact⟨(),⟨rfl,rfl,congrArg Value.bool<|Bj o⟩,rfl⟩;refine W ?_;exact⟨(),⟨rfl,rfl,congrArg Value.bool<|Bl o⟩,rfl⟩;intro _ y _ H;obtain rfl:=H;refine zc rfl (λp=>?_) λp=>?_;have f:=Bm p;refine W ?_;refine aA (aib t _ L y e) ?_;rintro _ j ⟨rfl,d⟩;have C:=d.size;have b:=b.ext d;refine W ?_;exact⟨_,rfl,show Value.bool _=Value.bool _ from congrArg _ (by rw[jL,iP f];rfl),b⟩;have f:=Bn p;refine W ?_;refine zc rfl (λq=>?_) λq=>?_;have g:=q;refine W ?_;refine aA (Lf _ _) ?_;rintro _ _ ⟨rfl,rfl⟩;refine W ?_;exact⟨_,rfl,show Value.bool _=Value.bool _ from congrArg _<|by rw[jL,iN f,iP g],b⟩;have g:=q;refine W ?_;refine zc rfl (λs=>?_) λs=>?_;have i:=s;refine W ?_;refine aA (V5 _ om _) ?_;rintro _ _ ⟨rfl,rfl⟩;refine W ?_;exact⟨_,rfl,show Value.bool _=Value.bool _ from congrArg _<|by rw[jL,iN f,iN g,iP i],b⟩;have i:=s;refine W ?_;refine zc rfl (λu=>?_) λu=>?_;have m:=u;refine W ?_;refine aA (Le t _ L y e) ?_;rintro _ j ⟨rfl,d⟩;have C:=d.size;refine cS d b e A λb e A=>?_;refine WZ ?_;apply oA 3 33 36 (ak [] j) rfl oQ;intro _;refine W ?_;refine aA (Pp t.size t (lR _) D B false _ L j e) ?_;rintro _ J ⟨rfl,l⟩;have M:=l.size;exact oQ;intro _ J l;have b:=b.ext l;refine W ?_;exact⟨_,rfl,show Value.bool _=Value.bool _ from congrArg _<|by rw[jL,iN f,iN g,iN i,iP m],b⟩;have m:=u;refine W ?_;refine aA (Pp t.size t (lR _) D B false _ L y e) ?_;rintro _ j ⟨rfl,d⟩;have C:=d.size;have b:=b.ext d;refine W ?_;exact⟨_,rfl,show Value.bool _=Value.bool _ from congrArg _<|by rw[jL,iN f,iN g,iN i,iN m],b⟩
theorem aid (h:aj) (w:World):bB Tryz.prog 139 [str h] w λr w'=>r=str (shapeOf h)/\w=w':=by refine bY [.tmp 2] 25 Tryz.func139 rfl aen rfl rfl ?_;refine W ?_;refine zc rfl (λm=>?_) λm=>?_;have a:=m;refine W ?_;exact⟨_,rfl,show str _=str _ from congrArg _<|by rw[shapeOf,iP a],rfl⟩;have a:=m;refine W ?_;refine jn (λ_:Unit=>[(3,str h),(6,.bool (decide (h=[109,111,118])||decide (h=[111,112,101,110])))]) (λ_ w'=>w'=w) ?_ ?_;refine zc rfl (λn=>?_) λn=>?_;refine WZ ?_;exact⟨(),⟨rfl,congrArg Value.bool<|Bj n⟩,rfl⟩;refine W ?_;exact⟨(),⟨rfl,congrArg Value.bool<|Bl n⟩,rfl⟩;intro l D _ e;obtain rfl:=e;refine zc rfl (λo=>?_) λo=>?_;have b:=Bm o;refine W ?_;exact⟨_,rfl,show str _=str _ from congrArg _<|by rw[shapeOf,iN a,iP b],rfl⟩;have b:=Bn o;refine W ?_;refine jn (λ_:Unit=>[(3,str h),(9,.bool (decide (h=[97,100,100])||decide (h=[115,117,98])||decide (h=[109,117,108])))]) (λ_ w'=>w'=D) ?_ ?_;refine zc rfl (λp=>?_) λp=>?_;refine WZ ?_;exact⟨(),⟨rfl,congrArg Value.bool<|NX p⟩,rfl⟩;have C:=p;refine W ?_;refine zc rfl (λq=>?_) λq=>?_;refine WZ ?_;exact⟨(),⟨rfl,congrArg Value.bool<|NY C q⟩,rfl⟩;refine W ?_;exact⟨(),⟨rfl,congrArg Value.bool<|NZ C q⟩,rfl⟩;intro l E _ e;obtain rfl:=e;refine zc rfl (λs=>?_) λs=>?_;have c:=N0 s;refine W ?_;exact⟨_,rfl,show str _=str _ from congrArg _<|by rw[shapeOf,iN a,iN b,iP c],rfl⟩;have c:=N2 s;refine W ?_;refine zc rfl (λt=>?_) λt=>?_;have d:=t;refine W ?_;exact⟨_,rfl,show str _=str _ from congrArg _<|by rw[shapeOf,iN a,iN b,iN c,iP d],rfl⟩;have d:=t;refine W ?_;refine zc rfl (λu=>?_) λu=>?_;have f:=u;refine W ?_;exact⟨_,rfl,show str _=str _ from congrArg _<|by rw[shapeOf,iN a,iN b,iN c,iN d,iP f],rfl⟩;have f:=u;refine W ?_;refine jn (λ_:Unit=>[(3,str h),(17,.bool (decide (h=[108,97,98])||decide (h=[122,101,114,111])))]) (λ_ w'=>w'=E) ?_ ?_;refine zc rfl (λv=>?_) λv=>?_;refine WZ ?_;exact⟨(),⟨rfl,congrArg Value.bool<|Bj v⟩,rfl⟩;refine W ?_;exact⟨(),⟨rfl,congrArg Value.bool<|Bl v⟩,rfl⟩;intro l F _ e;obtain rfl:=e;refine zc rfl (λj=>?_) λj=>?_;have g:=Bm j;refine W ?_;exact⟨_,rfl,show str _=str _ from congrArg _<|by rw[shapeOf,iN a,iN b,iN c,iN d,iN f,iP g],rfl⟩;have g:=Bn j;refine W ?_;refine zc rfl (λA=>?_) λA=>?_;have i:=A;refine W ?_;exact⟨_,rfl,show str _=str _ from congrArg _<|by rw[shapeOf,iN a,iN b,iN c,iN d,iN f,iN g,iP i],rfl⟩;have i:=A;refine W ?_;refine jn (λ_:Unit=>[(3,str h),(22,.bool (decide (h=[106,117,109,112])||decide (h=[104,97,108,116])))]) (λ_ w'=>w'=F) ?_ ?_;refine zc rfl (λy=>?_) λy=>?_;refine WZ ?_;exact⟨(),⟨rfl,congrArg Value.bool<|Bj y⟩,rfl⟩;refine W ?_;exact⟨(),⟨rfl,congrArg Value.bool<|Bl y⟩,rfl⟩;intro l _ _ e;obtain rfl:=e;refine zc rfl (λz=>?_) λz=>?_;have B:=Bm z;refine W ?_;exact⟨_,rfl,show str _=str _ from congrArg _<|by rw[shapeOf,iN a,iN b,iN c,iN d,iN f,iN g,iN i,iP B],rfl⟩;have B:=Bn z;refine W ?_;exact⟨_,rfl,show str _=str _ from congrArg _<|by rw[shapeOf,iN a,iN b,iN c,iN d,iN f,iN g,iN i,iN B],rfl⟩
theorem V6 (t:aq) (hs:t.size<=100000) (N:WF t) (v:Value) (L:List Nat) (w:World) (K:bg L w v t):
  bB Tryz.prog 110 [v] w λr w'=>r= .bool (mw t)/\ak [] w w':=by
 have u:=K;obtain⟨a,n,c,rfl,C,f⟩:=db K;have e:=ak.refl [] w;have DP:=oH t;have p4:=acs<|bz t;refine bY [.tmp 2] 67 Tryz.func110 rfl adU rfl rfl ?_;refine zr<|eK rfl λw1 g l _=>cS g e f u λe f u=>?_;refine W ?_;refine aA (Le t _ L w1 u) ?_;rintro _ w2 ⟨rfl,H⟩;have dJ:=H.size;refine cS H e f l λe f l=>?_;refine aA (aid _ _) ?_;rintro _ _ ⟨rfl,rfl⟩;refine W ?_;refine zc rfl (λj=>?_) λj=>?_;refine W ?_;exact⟨_,rfl,by rw[TV j];rfl,e⟩;have y:=j;refine WZ ?_;apply oB 8 14 22 rfl oQ;intro R;refine WZ ?_;exact oQ;intro xx;refine WZ ?_;apply oP 5 23 28 rfl oQ;intro _;refine WZ ?_;exact oQ;intro xx;refine aW<|zc rfl (λz=>?_) λz=>?_;have hb:=(TU C).symm.trans z;refine W ?_;exact⟨_,rfl,by rw[N5 hb];rfl,e⟩;have hb:=(TU C).symm.trans z;have R:=acr hb;have q:=N4 y;refine W ?_;refine eJ (λk:Nat=>[(1,.pointer<|some ⟨w.heap.size,0,none⟩),(3,str (shapeOf<|bz t)),(4,.int .i64 (k:Int))]) (λk w'=>ak [] w w'/\ak [] w2 w'/\1<=k/\k<=t.ag.length/\∀i,i<k->1<=i->vq t i=true) (λk=>t.ag.length-k) (1) (⟨rfl,rfl,rfl⟩) (⟨e,ak.refl [] _,om,om,by intro i J j;omega⟩) λd _ _ T=>?_;obtain⟨e,g,hk,_,I⟩:=T;refine bN g f l λf l=>?_;refine W ?_;refine zc rfl (λS=>?_) λS=>?_;have U:=ew (ps:=t.ag) (i:=d) om;obtain⟨b,off,Y,pn,Z,rfl,_,O,o⟩:=ik f U;have nu:=List.length_pos_iff.2 y;refine WZ ?_;apply ke dj 14 (rA 36 14) (rA 36 14) [[],[0],[],[1,2],[3],[],[],[],[7],[6,8],[9],[5,10],[4,11],[12]] [It.v _,It.v _,It.v _,It.v _,It.v _,It.v _,It.v _,It.v _,It.v _,It.v _,It.v _,It.v _,It.v _,It.v (.bool<|!vq t d)] de rfl;intro _ aC;refine VA ?_;refine vk aC (λx s m=>?_) ?_;refine ab6 rfl rfl rfl rfl (show(if((shapeOf<|bz t).length:Int)<(d:Int) then((shapeOf<|bz t).length:Int) else(d:Int))=((min d (shapeOf<|bz t).length:Nat):Int) from by split<;>omega) ?_;exact pv;refine vk aC (λx s m=>?_) ?_;refine xO rfl rfl rfl rfl rfl (show IntKind.i64.wrap (((min d (shapeOf<|bz t).length:Nat):Int)-1)=((min d (shapeOf<|bz t).length-1:Nat):Int) from by rw[wrap_i64 _ om om];omega) ?_;exact pv;refine vk aC (λx s m=>?_) ?_;refine kH jb rfl rfl rfl rfl (jH om) ?_;exact pv;refine vk aC (λx s m=>?_) ?_;have o:=o.ext m;refine aA (aic (nth t.ag d) (by have:=kW (t:=t) (i:=d) om;omega) (N.nth om) _ _ L s<|kI o) ?_;rintro _ _ ⟨rfl,F⟩;have oT:=F.size;exact pk F;exact VZ;intro x _ P;refine bN P e g λe g=>?_;change OW _ _ _ _ [] (ba (aZ _ x _)<|zZ 36 [_,_,_,_,_,_,_,_,_,_,_,_,_,_]) _;refine aW<|zc rfl (λA=>?_) λA=>?_;have D:vq t d=false:=by simpa using A
 refine W ?_;exact⟨_,rfl,by rw[acu om hk D];rfl,e⟩;have D:vq t d=true:=by simpa using A
 refine W ?_;exact⟨d+1,⟨rfl,rfl,rfl⟩,⟨e,g,om,om,by intro i J j;rcases Nat.lt_or_ge i d with h|h;exact I i h j;rw[show i=d by omega];exact D⟩,om⟩;have E:=acv y hb λi J=>I i om;have V:=ew q.2.1;obtain⟨b,off,Y,pn,Z,rfl,_,O,o⟩:=ik f V;refine WI ?_;refine zi (i:=0) cQ aM rfl rfl (by rw[C];exact q.2.1)<|W ?_;refine zc rfl (λB=>?_) λB=>?_;have p:bz t=[103,101,116]:=q.2.2.trans B;have zT:=acq hb p;have X:=ew (ps:=t.ag) (i:=3) om;obtain⟨_,_,_,_,_,Q,M,_,_⟩:=ik f X;cases Q;refine zr<|zf kf rfl<|zl jy rfl (l.at rfl)<|zi (i:=3) cQ aM rfl rfl om<|zf l9 rfl<|zl fS rfl (M 0 _ rfl)<|aA (Lf _ _) ?_;rintro _ _ ⟨rfl,rfl⟩;refine W ?_;exact⟨_,rfl,show Value.bool _=Value.bool _ from congrArg _<|by rw[E,show decide (bz t≠[103,101,116])=false from dF λh=>h p,Bool.false_or],e⟩;have p:bz t≠[103,101,116]:=λh=>B<|q.2.2.symm.trans h;refine W ?_;exact⟨_,rfl,by rw[E,dT p];rfl,e⟩
theorem aie (s:aj) (w:World):bB Tryz.prog 103 [str s] w λr w'=>r= .bool (tY s)/\ak [] w w':=by have a:=ak.refl [] w;refine bY [.tmp 2] 15 Tryz.func103 rfl adO rfl rfl ?_;refine W ?_;refine aA (zS s [] w sm) ?_;rintro _ _ ⟨n,f⟩;have y:=f.size;have a:=a.ext f;obtain⟨t,_,rfl,b,l⟩:=n;obtain⟨_,_,_,rfl,_,_⟩:=db b;refine W ?_;refine dx aM rfl rfl rfl λ_ g i _=>?_;have a:=a.grow;have a:=a.ext g;have b:=b.grow;have b:=b.ext g;refine cI aM rfl rfl rfl i rfl λm e i _=>?_;have a:=a.aB e sx;have b:=b.aB e sx;refine W ?_;apply oA 3 11 14 (ak [] m) rfl oQ;intro p;obtain⟨q,d⟩:=Option.isSome_iff_exists.1 p;have v:=l q d;have j:=vm d;have o:=Bi d;rw[<-v] at j o;refine W ?_;refine aA (Pp t.size t (lR _) om j false _ _ m b) ?_;rintro _ u ⟨rfl,c⟩;have z:=c.size;exact oQ;intro _ u c;have a:=a.ext c;refine W ?_;exact⟨_,rfl,show Value.bool _=Value.bool _ from congrArg _<|Kr l,a⟩
theorem Io (s:aj) (w:World):bB Tryz.prog 83 [str s] w λr w'=>r= .bool (tZ s)/\ak [] w w':=by have a:=ak.refl [] w;refine bY [.tmp 2] 15 Tryz.func83 rfl af9 rfl rfl ?_;refine W ?_;refine aA (zS s [] w sm) ?_;rintro _ _ ⟨n,f⟩;have y:=f.size;have a:=a.ext f;obtain⟨t,_,rfl,b,l⟩:=n;obtain⟨_,_,_,rfl,_,_⟩:=db b;refine W ?_;refine dx aM rfl rfl rfl λ_ g i _=>?_;have a:=a.grow;have a:=a.ext g;have b:=b.grow;have b:=b.ext g;refine cI aM rfl rfl rfl i rfl λm e i _=>?_;have a:=a.aB e sx;have b:=b.aB e sx;refine W ?_;apply oA 3 11 14 (ak [] m) rfl oQ;intro p;obtain⟨q,d⟩:=Option.isSome_iff_exists.1 p;have v:=l q d;have j:=vm d;have o:=Bi d;rw[<-v] at j o;refine W ?_;refine aA (V6 t om j _ _ m b) ?_;rintro _ u ⟨rfl,c⟩;have z:=c.size;exact oQ;intro _ u c;have a:=a.ext c;refine W ?_;exact⟨_,rfl,show Value.bool _=Value.bool _ from congrArg _<|Kr l,a⟩
theorem Lg (s:aj) (w:World):bB Tryz.prog 84 [str s] w λr w'=>r= .bool (Fq s)/\ak [] w w':=by have a:=ak.refl [] w;refine bY [.tmp 2] 31 Tryz.func84 rfl aga rfl rfl ?_;refine W ?_;refine aA (zS s [] w sm) ?_;rintro _ _ ⟨A,o⟩;have I:=o.size;have a:=a.ext o;obtain⟨t,_,rfl,d,v⟩:=A;obtain⟨_,_,_,rfl,q,c⟩:=db d;refine W ?_;refine dx aM rfl rfl rfl λ_ l e _=>?_;have a:=a.grow;have a:=a.ext l;have d:=d.grow;have d:=d.ext l;have c:=c.grow;have c:=c.ext l;refine cI aM rfl rfl rfl e rfl λy g e _=>?_;have a:=a.aB g sx;have d:=d.aB g sx;have c:=c.aB g sx;refine W ?_;apply oA 3 11 14 (ak [] y) rfl oQ;intro C;obtain⟨E,n⟩:=Option.isSome_iff_exists.1 C;have H:=v E n;have p:=vm n;have B:=Bi n;rw[<-H] at p B;refine W ?_;refine aA (V6 t om p _ _ y d) ?_;rintro _ F ⟨rfl,j⟩;have J:=j.size;exact oQ;intro z F j;refine cS j a c e λa c e=>?_;refine WZ ?_;apply oB 15 15 30 rfl oQ;intro u;simp only[aE] at u;have m:=acw u.2;have D:=ew m;obtain⟨b,off,_,_,_,rfl,_,_,_⟩:=ik c D;refine WI ?_;refine zi (i:=0) cQ aM rfl rfl (by rw[q];exact m)<|WZ ?_;apply oP 7 22 29 rfl oQ;intro _;refine WI ?_;refine zi (i:=0) cQ aM rfl rfl (by rw[q];exact m)<|WZ ?_;exact oQ;intro z;exact oQ;intro z;refine W ?_;exact⟨_,rfl,show Value.bool _=Value.bool _ from congrArg _ (by rw[Bool.and_assoc];exact Kr (f:=Ks) v),a⟩
theorem aih (bs:List Bk) (hb:bs.length<9223372036854775807) (l:aj) (v:Value) (L:List Nat) (w:World) (m:pd L w v bs):
  bB Tryz.prog 50 [v,str l] w λr w'=>r= .int .i64 (mx bs l)/\w=w':=by
 obtain⟨a,n,c,rfl,_⟩:=Fo m;refine bY [.tmp 4] 20 Tryz.func50 rfl afF rfl rfl ?_;refine W ?_;refine eJ (λk:Nat=>[(0,.slice a n c),(1,str l),(5,.int .i64 (k:Int))]) (λk w'=>w'=w/\k<=bs.length/\∀i,i<k->(cA bs i).aO≠l) (λk=>bs.length-k) (0) (⟨rfl,rfl,rfl⟩) (⟨rfl,om,by intro i j;omega⟩) λd _ _ p=>?_;obtain⟨rfl,hk,e⟩:=p;refine W ?_;refine zc rfl (λo=>?_) λo=>?_;have q:=r6 (bs:=bs) (i:=d) om;obtain⟨b,off,_,_,c1,_,_,c2,rfl,_,_,_,_,_⟩:=Di m q;refine W ?_;refine zc rfl (λf=>?_) λf=>?_;have g:=TW om e f;refine W ?_;exact⟨_,rfl,by rw[g];rfl,rfl⟩;refine W ?_;exact⟨d+1,⟨rfl,rfl,rfl⟩,⟨rfl,om,by intro i j;rcases Nat.lt_or_ge i d with h|h;exact e i h;rw[show i=d by omega];exact f⟩,om⟩;have g:=acy λi j=>e i om;refine W ?_;exact⟨_,rfl,by rw[g];rfl,rfl⟩
theorem aii (k:Bk) (Y:k.aO.length<1000000000) (U:k.cM.length<1000000000) (V:k.code.length<1000000000) (v:Value) (L:List Nat) (w:World) (O:ri L w v k):
  bB Tryz.prog 66 [v] w λr w'=>r= .bool (my k)/\ak [] w w':=by
 obtain⟨_,_,c1,_,P,c2,rfl,E,y,m,f⟩:=Dg O;have a:=ak.refl [] w;refine bY [.tmp 2] 65 Tryz.func66 rfl afS rfl rfl ?_;refine zr<|eK rfl λQ d u _=>cS d a m f λa m f=>?_;refine W ?_;refine aA (V5 _ om _) ?_;rintro _ _ ⟨rfl,rfl⟩;refine WZ ?_;apply oP 5 9 14 rfl oQ;intro _;refine WZ ?_;exact oQ;intro T;refine WZ ?_;apply oP 6 15 21 rfl oQ;intro _;refine W ?_;refine aA (Ij _ _ _ _) ?_;rintro _ _ ⟨rfl,rfl⟩;exact oQ;intro T;refine aW<|zc rfl (λo=>?_) λo=>?_;rw[Kt E y] at o;have hb:=TX (b:=k)<|TT o;refine W ?_;exact⟨_,rfl,by rw[hb];rfl,a⟩;rw[Kt E y] at o;have hb:(oG k.aO&&decide (k.cM.length<=40)&&(decide (1<=k.code.length)&&decide (k.code.length<=80)))=true:=TR o;refine W ?_;refine eJ (λi:Nat=>[(1,.pointer<|some ⟨w.heap.size,0,none⟩),(3,.int .i64 (i:Int))]) (λi w'=>ak [] w w'/\ak [] Q w'/\i<=k.cM.length/\∀j,j<i->tY (bP k.cM j)=true) (λi=>k.cM.length-i) (0) (⟨rfl,rfl⟩) (⟨a,ak.refl [] _,om,by intro i q;omega⟩) λc H _ A=>?_;obtain⟨a,d,hk,l⟩:=A;refine cS d m f u λm f u=>?_;refine W ?_;refine zc rfl (λK=>?_) λK=>?_;have B:=jx (xs:=k.cM) (i:=c) om;obtain⟨b,off,rfl,N⟩:=nv m B;refine W ?_;refine aA (aie _ H) ?_;rintro _ R ⟨rfl,C⟩;have X:=C.size;refine bN C a d λa d=>?_;refine ka rfl rfl rfl<|aW<|zc rfl (λz=>?_) λz=>?_;have s:=TZ (b:=k) (i:=c) om (by simpa using z);refine W ?_;exact⟨_,rfl,by rw[s];rfl,a⟩;refine W ?_;exact⟨c+1,⟨rfl,rfl⟩,⟨a,d,om,by intro i q;rcases Nat.lt_or_ge i c with h|h;exact l i h;rw[show i=c by omega];simpa using z⟩,om⟩;have J:∀i,i<k.cM.length->tY (bP k.cM i)=true:=λi q=>l i om;clear l d hk;refine W ?_;refine eJ (λi:Nat=>[(1,.pointer<|some ⟨w.heap.size,0,none⟩),(4,.int .i64 (i:Int))]) (λi w'=>ak [] w w'/\ak [] H w'/\i<=k.code.length/\∀j,j<i->sR k.code j=true) (λi=>k.code.length-i) (0) (⟨rfl,rfl⟩) (⟨a,ak.refl [] _,om,by intro i q;omega⟩) λc R _ A=>?_;obtain⟨a,d,hk,l⟩:=A;refine bN d f u λf u=>?_;refine W ?_;refine zc rfl (λM=>?_) λM=>?_;have B:=jx (xs:=k.code) (i:=c) om;obtain⟨b,off,rfl,N⟩:=nv f B;refine W ?_;refine Ds [43,44,45,46,47,48,49,50,51,52,53,54,55,56,57,58,59,60,61,62,63,64] [(64,.bool (!tZ (bP k.code c)||(Fq (bP k.code c) !=decide ((c:Int)=(P:Int)-1))))] ?_ ?_;rcases bE (!tZ (bP k.code c)) with gP|gP;apply ke dj 22 (rA 43 22) (rA 43 22) [[],[0],[],[1,2],[3],[4],[5],[6],[7],[7,8],[7],[7,9,10],[7,11],[7,12],[7],[7],[7,15],[7,16],[7,17],[7,14,18],[7,13,19],[7,20]] [It.v _,It.v _,It.v _,It.v _,It.v _,It.v _,It.v _,It.v (.bool true),It.v _,It.v _,It.v _,It.v _,It.v _,It.v _,It.v _,It.v _,It.v _,It.v _,It.v _,It.v _,It.v _,It.v _] de rfl;intro S aC;refine VA ?_;refine vk aC (λx g t=>?_) ?_;refine aA (Io _ g) ?_;rintro _ I ⟨rfl,e⟩;have F:=e.size;exact pk e;refine VA ?_;refine vc (λx g t=>?_) ?_;refine WZ ?_;exact pv (by exact congrArg Value.bool gP);exact VZ;intro x D n;change OW _ _ _ _ [] (ba (aZ _ x _) (zZ 43 [_,_,_,_,_,_,_,_,_,_,_,_,_,_,_,_,_,_,_,_,_,_])) _;refine W ?_;exact kE n;apply ke dj 22 (rA 43 22) (rA 43 22) [[],[0],[],[1,2],[3],[4],[5],[6],[7],[7,8],[7],[7,9,10],[7,11],[7,12],[7],[7],[7,15],[7,16],[7,17],[7,14,18],[7,13,19],[7,20]] [It.v _,It.v _,It.v _,It.v _,It.v _,It.v _,It.v _,It.v (.bool false),It.v _,It.v _,It.v _,It.v _,It.v _,It.v _,It.v _,It.v _,It.v _,It.v _,It.v _,It.v _,It.v _,It.v _] de rfl;intro S aC;refine VA ?_;refine vk aC (λx g t=>?_) ?_;refine aA (Io _ g) ?_;rintro _ I ⟨rfl,e⟩;have F:=e.size;exact pk e;refine VA ?_;refine vc (λx g t=>?_) ?_;refine WZ ?_;exact pv (by exact congrArg Value.bool gP);refine VA ?_;refine vk aC (λx g t=>?_) ?_;refine aA (Lg _ g) ?_;rintro _ I ⟨rfl,e⟩;have F:=e.size;exact pk e;exact VZ;intro x D n;change OW _ _ _ _ [] (ba (aZ _ x _) (zZ 43 [_,_,_,_,_,_,_,_,_,_,_,_,_,_,_,_,_,_,_,_,_,_])) _;refine W ?_;exact kE n;intro x D n;refine bN n a d λa d=>?_;refine zc rfl (λp=>?_) λp=>?_;rw[N6 y om] at p;have s:=T0 (b:=k) (i:=c) om (by simpa using p);refine W ?_;exact⟨_,rfl,by rw[s];rfl,a⟩;rw[N6 y om] at p;refine W ?_;exact⟨c+1,⟨rfl,rfl⟩,⟨a,d,om,by intro i q;rcases Nat.lt_or_ge i c with h|h;exact l i h;rw[show i=c by omega];simpa using p⟩,om⟩;have s:=T1 hb J λi q=>l i om;refine W ?_;exact⟨_,rfl,by rw[s];rfl,a⟩
theorem V7 (bs:List Bk) (hb:xV bs) (v:Value) (L:List Nat) (w:World) (d:pd L w v bs):
  bB Tryz.prog 33 [v] w λr w'=>r= .bool (ia bs)/\ak [] w w':=by
 obtain⟨a,n,c,rfl,O⟩:=Fo d;have e:=ak.refl [] w;have Q:=hb.1;refine bY [.tmp 2] 45 Tryz.func33 rfl afv rfl rfl ?_;refine W ?_;refine eJ (λi:Nat=>[(0,.slice a n c),(3,.int .i64 (i:Int))]) (λi w'=>ak [] w w'/\i<=bs.length/\∀j,j<i->my (cA bs j)=true/\mx bs (cA bs j).aO=(j:Int)) (λi=>bs.length-i) (0) (⟨rfl,rfl⟩) (⟨e,om,by intro i D;omega⟩) λf P _ M=>?_;obtain⟨e,hk,o⟩:=M;have d:=d.ext e;refine W ?_;refine zc rfl (λI=>?_) λI=>?_;have N:=r6 (bs:=bs) (i:=f) om;obtain⟨b,off,y,E,c1,z,F,c2,rfl,g,q,B,p,m⟩:=Di d N;have u:=hb.2 f om;refine W ?_;refine aA (aii (cA bs f) u.1 u.2.1 u.2.2 _ _ P<|Dh p m) ?_;rintro _ _ ⟨rfl,A⟩;have m:=A.size;refine cS A e d g λe d g=>?_;refine WZ ?_;apply oP 10 16 26 rfl oQ;intro _;refine zm<|zm<|zm<|zi lE ja rfl rfl om<|zf Oz rfl<|zl fS rfl (g 0 _ rfl)<|aA (aih bs om _ _ _ _ d) ?_;rintro _ _ ⟨rfl,rfl⟩;exact oQ;intro H;refine aW<|zc rfl (λl=>?_) λl=>?_;have t:=T2 (bs:=bs) (i:=f) om (λC=>by rw[C.1,C.2] at l;simp at l);refine W ?_;exact⟨_,rfl,by rw[t];rfl,e⟩;simp only[Bool.or_eq_false_iff,Bool.not_eq_false',decide_eq_false_iff_not,ne_eq,Classical.not_not] at l;refine W ?_;exact⟨f+1,⟨rfl,rfl⟩,⟨e,om,by intro i D;rcases Nat.lt_or_ge i f with h|h;exact o i h;rw[show i=f by omega];exact l⟩,om⟩;have t:=T3 λi D=>o i om;clear o;refine W ?_;refine aA (Ij _ _ _ _) ?_;rintro _ _ ⟨rfl,rfl⟩;refine WZ ?_;apply oB 6 30 36 rfl oQ;intro J;simp at J;have s:=r6 (bs:=bs) (i:=0) om;obtain⟨b,off,y,E,c1,z,F,c2,rfl,g,q,B,p,m⟩:=Di d s;refine zm<|zi (i:=0) lE ja rfl rfl om<|zf Oz rfl<|zl fS rfl (g 0 _ rfl) ?_;exact oQ;intro H;refine WZ ?_;apply oB 7 37 44 rfl oQ;intro K;simp at K;have s:=r6 (bs:=bs) (i:=0) om;obtain⟨b,off,y,E,c1,z,F,c2,rfl,g,q,B,p,m⟩:=Di d s;subst q;refine zm<|zi (i:=0) lE ja rfl rfl om<|zf OB rfl<|zl wT rfl (g 1 _ rfl) ?_;exact oQ;intro H;refine W ?_;exact⟨_,rfl,show Value.bool _=Value.bool _ from congrArg _ (by rw[t];exact acz O λ_=>rfl),e⟩
def cW.enc (b:cW):List C:=[.val<|str b.aO,.sl 2<|di b.regs,.sl 2 (di b.code)]
def oU (L:List Nat) (w:World) (v:Value) (b:cW):Prop:=iZ L w v b.enc
theorem oU.ext {b:cW} (h:oU L w v b) (k:ak [] w w'):oU L w' v b:=iZ.ext h k
theorem oU.grow {b:cW} (h:oU L w v b):oU (w.heap.size::L) w v b:=iZ.fresh h tU
theorem oU.aB {b:cW} (h:oU L w v b) (k:ak L' w w') (a:∀x∈L',x∈L):oU L w' v b:=iZ.aG h<|k.mono a
theorem oU.dR {b:cW} (h:oU L w v b) (a:∀x∈L',x∈L):oU L' w v b:=iZ.fresh h λx c=>.inl<|a x c
theorem V8 {b:cW} (h:dz L w vs b.enc):∃a c,vs=[str b.aO,a,c]/\cY L w a b.regs/\cY L w c b.code:=by
 rw[cW.enc] at h
 match vs,h with
 |[_,a,c],h=>obtain⟨d,e,f,_⟩:=h;cases d;exact⟨a,c,rfl,e,f⟩
 |[],h=>exact h.elim
 |[_],h=>exact h.2.elim
 |[_,_],h=>exact h.2.2.elim
 |_::_::_::_::_,h=>exact h.2.2.2.elim
theorem yo {b:List aq} (h:cY L w v b):∃a c,v= .slice a b.length c:=by grind [cY,sO,iz]
theorem V9 {b:cW} (h:oU L w v b):∃a c1 c c2,v= .agg #[str b.aO,.slice a b.regs.length c1,.slice c b.code.length c2]/\
  cY L w (.slice a b.regs.length c1) b.regs/\cY L w (.slice c b.code.length c2) b.code:=by
 obtain⟨vs,rfl,f⟩:=h;obtain⟨_,_,rfl,d,e⟩:=V8 f;obtain⟨a,c1,rfl⟩:=yo d;obtain⟨c,c2,rfl⟩:=yo e;exact⟨a,c1,c,c2,rfl,d,e⟩
theorem Pr {l:aj} {r c:List aq} {a b:Value} (d:cY L w a r) (e:cY L w b c):oU L w (.agg #[str l,a,b]) ⟨l,r,c⟩:=
 ⟨[str l,a,b],rfl,.val _,d,e,trivial⟩
theorem oU.lj {x y:Value} {b:cW} (h:oU L w (.agg #[x,y,z]) b):dz L w [x,y,z] b.enc:=by
 obtain⟨vs,a,c⟩:=h;have d:vs=[x,y,z]:=by have:=congrArg (λv=>match v with|Value.agg x=>x.toList|_=>[]) a;simpa using this.symm
 rw[<-d];exact c
def j1 (L:List Nat) (w:World) (v:Value) (a:List cW):Prop:=cg L w v (.sl 3<|a.map cW.enc)
theorem j1.ext (h:j1 L w v ps) (k:ak [] w w'):j1 L w' v ps:=cg.ext h k
theorem j1.grow {b:List cW} (h:j1 L w v b):j1 (w.heap.size::L) w v b:=cg.fresh h tU
theorem j1.aB {b:List cW} (h:j1 L w v b) (k:ak L' w w') (a:∀x∈L',x∈L):j1 L w' v b:=cg.aG h<|k.mono a
theorem j1.dR {b:List cW} (h:j1 L w v b) (a:∀x∈L',x∈L):j1 L' w v b:=cg.fresh h λx c=>.inl<|a x c
theorem Wa:j1 L w (.slice none 0 0) []:=.nil _ _ _
theorem B9 (h:j1 L w v ps):∃a c,v= .slice a ps.length c:=by grind [j1,sO]
theorem FW {a:Option Addr} {c:Nat} {k:cW} (h:j1 L w (.slice a n c) ps) (m:ps[i]?=some k):
  ∃b off d c1 e c2,a=some ⟨b,off,none⟩/\fP w b (off+i*3) [str k.aO,.slice d k.regs.length c1,.slice e k.code.length c2]/\cY L w (.slice d k.regs.length c1) k.regs/\cY L w (.slice e k.code.length c2) k.code:=by
 obtain⟨b,off,vs,j,hb,_,_,l,o⟩:=zh h (show(ps.map cW.enc)[i]?=some k.enc by simp[m]);obtain⟨_,_,rfl,f,g⟩:=V8 o;obtain⟨d,c1,rfl⟩:=yo f;obtain⟨e,c2,rfl⟩:=yo g;exact⟨b,off,d,c1,e,c2,j,l,f,g⟩
theorem Gr.prog {T:TypeId} {g:Option Nat} (h:Gr B L w T 3 v g (ps.map cW.enc)):j1 L w v ps:=h.done
section
variable {P:Program} {n:Nat} {ops:Array Oper} {K:Env->World->Prop} {rest:List Oper} {e:Env} {w:World}
 {dst:Option Nat} {ty:TypeId} {pos:String} {after:Array Edge} {g:Option (Nat×Bool)} {x y:Operand}
theorem aij {B:Nat} {L:List Nat} {v r s A:Value} {m:Option Nat} {d:List cW} {f:cW} {b U:Nat} (I:P.underlying t=some (.slice E)) (F:TI P E 3 bytes z) (M:gate ops e g=true) (J:cC n dst=true) (S:Nat.beq z.cells.size 3=true) (T:Nat.ble bytes 1000=true) 
  (Q:ev e x=v) (R:ev e y= .slice (some ⟨b,0,none⟩) 1 1) (H:Gr B L w E 3 v m (d.map cW.enc)) (hb:aJ w b [r,s,A].toArray U)
  (q:oU (m.toList++L) w (.agg #[r,s,A]) f) (N:d.length<100000000)
  (k:∀j a l w',Gr B L w' E 3 (.slice j (d++[f]).length a) l ((d++[f]).map cW.enc)->ak m.toList w w'->OW P n ops K rest (bW e dst (.slice j (d++[f]).length a)) w'):
  OW P n ops K (⟨dst,.call {callee:=.builtin .append,args:=#[x,y],argTypes:=#[t,t]},ty,pos,after,g⟩::rest) e w:=by
 refine HD I F M J S T Q R H hb rfl ?_ q.lj (by simpa using N) ?_
 .rw[List.all_eq_true];refine λu O=>dz.HA q.lj (λc o v i=>?_) u O;rw[cW.enc] at o;simp only[mC,List.not_mem_nil,or_false] at o;rcases o with h|h|h
  .rw[h] at i;cases i;rfl
  .rw[h] at i;cases i
  .rw[h] at i;cases i
 .intro j a l w' p hk;have C:(d.map cW.enc).length+1=(d++[f]).length:=by simp
  have D:d.map cW.enc++[f.enc]=(d++[f]).map cW.enc:=by simp
  rw[C] at p⊢;rw[D] at p;exact k j a l w' p hk
end
theorem vG:∀(m:Nat) (t:aq),t.size<=m->WF t->t.size<=100000000->t.text.length<=100000000->∀(v:Value) (L:List Nat) (w:World),bg L w v t->
  bB Tryz.prog 116 [v] w λr w'=>r=str t.text/\ak [] w w':=by
 intro m;induction m with
 |zero=>intro t h e;have:=Ua e;omega
 |succ m M=>
  intro t _ e _ _ v L w K;obtain⟨a,n,c,rfl,I,A⟩:=db K;subst I;have U:=oH t;have d:=ak.refl [] w;refine bY [.tmp 2] 31 Tryz.func116 rfl ad0 rfl rfl ?_;refine zr<|eK rfl λ_ z f _=>?_;have d:=d.ext z;refine W ?_;refine zc rfl (λo=>?_) λo=>?_;have J:=adw e (by rw[e.leaf o];rfl);refine W ?_;exact⟨_,rfl,show str _=str _ from congrArg _ J.symm,d⟩;have j:t.au=[]:=Classical.not_not.1 o;refine W ?_;refine eJ (λk:Nat=>[(1,.pointer<|some ⟨w.heap.size,0,none⟩),(3,str (wR<|t.ag.take k)),(4,.int .i64 (k:Int))]) (λk w'=>ak [] w w'/\aJ w' w.heap.size [str t.au,.slice a t.ag.length c].toArray 103/\k<=t.ag.length) (λk=>t.ag.length-k) (0) (⟨rfl,rfl,rfl⟩) (⟨d,f,om⟩) λb O _ p=>?_;obtain⟨d,f,hk⟩:=p;refine W ?_;refine zc rfl (λF=>?_) λF=>?_;have B:=ew (ps:=t.ag) (i:=b) om;obtain⟨_,_,_,_,_,rfl,N,C,D⟩:=ik A B;subst C;have y:=e.nth (i:=b) om;have T:=kW (t:=t) (i:=b) om;have u:=Ok e j hk;have S:=Ok e j (k:=b+1) om;have s:=Uq (ps:=t.ag) (k:=b) om;have g:=congrArg List.length s;rw[lA] at g;refine W ?_;refine jn (λ_:Unit=>[(1,.pointer<|some ⟨w.heap.size,0,none⟩),(3,str<|wR (t.ag.take b)++(if b=0 then[] else[32])),(4,.int .i64 (b:Int))]) (λ_ w'=>w'=O) ?_ ?_;refine zc rfl (λH=>?_) λH=>?_;have l:¬b=0:=by omega
  refine W ?_;exact⟨(),⟨rfl,by rw[iN l];rfl,rfl⟩,rfl⟩;have l:b=0:=by omega
  refine WZ ?_;exact⟨(),⟨rfl,by rw[iP l,List.append_nil];rfl,rfl⟩,rfl⟩;intro _ P _ p;obtain rfl:=p;refine WL ?_;refine zl jy rfl (f.at rfl)<|zm<|zi cQ aM rfl rfl om<|zL fJ aM rfl (N.ext d) rfl<|aA (M (nth t.ag b) om y om om _ L P<|(kI D).ext d) ?_;rintro _ _ ⟨rfl,q⟩;have R:=q.size;refine bN q d f λd f=>?_;refine iS rfl rfl om<|W ?_;exact⟨b+1,⟨rfl,by rw[s];rfl,rfl⟩,⟨d,f,om⟩,om⟩;have E:b=t.ag.length:=by omega
  have Q:=Ur e j;have u:=Ok e j hk;subst E;refine WS ?_;refine iS rfl rfl (by simp at u⊢;omega)<|zA<|aW<|kF ?_;exact⟨_,rfl,show str _=str _ from congrArg _ Q,d⟩
theorem zW (h:aj) (ps:List aj) (y:(eH h ps).length<=1000000000) (v:Value) (L:List Nat) (w:World) (l:bu L w v ps):bB Tryz.prog 79 [str h,v] w λr w'=>r=str (eH h ps)/\ak [] w w':=by
 obtain⟨a,n,c,rfl,t⟩:=dX l;subst t;have d:=ak.refl [] w;have f:=λk=>adJ (h:=h) (ps:=ps) k;have u:(wS h ps 0).length=h.length+1:=by simp[wS,rm]
 have o:=f 0;have z:ps.length<=(eH h ps).length:=by simp only[eH,lC,lA,Ux,kc];omega
 refine bY [.tmp 4] 24 Tryz.func79 rfl af4 rfl rfl ?_;refine WS ?_;refine iS rfl rfl (by simp only[lC,List.length_nil];omega)<|W ?_;refine eJ (λk:Nat=>[(1,.slice a ps.length c),(5,str<|wS h ps k),(6,.int .i64 (k:Int))]) (λk w'=>ak [] w w'/\k<=ps.length) (λk=>ps.length-k) (0) (⟨rfl,show str _=str _ from congrArg _<|by simp[wS,rm],rfl⟩) (⟨d,om⟩) λb _ _ q=>?_;obtain⟨d,hk⟩:=q;refine W ?_;refine zc rfl (λp=>?_) λp=>?_;have s:=jx (xs:=ps) (i:=b) om;obtain⟨_,_,rfl,m⟩:=nv l s;have j:=adH (h:=h) (ps:=ps) (k:=b) om;have e:=congrArg List.length j;simp only[lA,lC,List.length_nil] at e;have g:=f<|b+1;refine WS ?_;refine iS rfl rfl (by simp only[lC,List.length_nil];omega)<|WL ?_;refine zl fS rfl (m.ext d 0 _ rfl)<|iS rfl rfl (by simp only[lA,lC,List.length_nil];omega)<|W ?_;exact⟨b+1,⟨rfl,show str _=str _ from congrArg _ j.symm,rfl⟩,⟨d,om⟩,om⟩;have g:=f b;refine WS ?_;refine iS rfl rfl (by simp only[lC,List.length_nil];omega)<|zA<|aW<|kF ?_;exact⟨_,rfl,show str _=str _ from congrArg _<|adI om,d⟩
def apart:List (Option Nat×Option Nat)->Prop
 |[]=>True
 |g::gs=>(∀x,x∈jK g->x∉ix gs)/\apart gs
theorem Lh (g:Option Nat×Option Nat) (a:List (Option Nat×Option Nat)):ix (g::a)=jK g++ix a:=by simp[ix]
theorem Pt (a:List (Option Nat×Option Nat)) (g:Option Nat×Option Nat):ix (a++[g])=ix a++jK g:=by simp[ix]
section
variable {P:Program} {n:Nat} {ops:Array Oper} {K:Env->World->Prop} {rest:List Oper} {e:Env} {w:World}
 {dst:Option Nat} {ty:TypeId} {pos:String} {after:Array Edge} {g:Option (Nat×Bool)} {x y:Operand}
end
end Go.Proofs.YtcildnfcpkpomaaGreatDoor
