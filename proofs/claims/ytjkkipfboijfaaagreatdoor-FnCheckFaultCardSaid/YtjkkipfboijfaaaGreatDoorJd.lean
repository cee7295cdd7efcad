/- Lemmas for the law FnCheckFault, no statement of their own: no conditions. -/
import Derived.Test.YtjkkipfboijfaaaGreatDoorJc
import Derived.Deep.Strs
import Derived.Laws.MakeOwn
set_option maxHeartbeats 4000000
set_option linter.all false
namespace Go.Proofs.YtjkkipfboijfaaaGreatDoor
open Go
variable {N R:Env->World->Prop} {l:List Oper} {e0:Env} {w w' w0:World} {k k':IntKind} {B E b bytes i m n o off sz t:Nat} {L d:List Nat} {r:List (List Nat)} {V v z:Value} {X:Nat->Env->World->Prop} {J:List Nat->List Value->World->Prop} {p q:Prop} {c:Operand} {a:Int} {vs xs:List Value} {P:Program} {ops:Array Oper} {row:List C} {rows:List (List C)}
section
variable {P:Program} {n:Nat} {l:List Oper} {m:Nat} {W ds:List Nat} {deps:List (List Nat)}
def ajD {N:Env->World->Prop} {Inv:(Nat->Bool)->Env->World->Prop} (Z:vY l m W ds deps=true) 
  (step:∀(S:Nat->Bool) (e:Env) (w:World) (i:Nat) (o:Oper),i<m->l[i]?=some o->S i=false->(∀j,waits o j=true->S j=true)->(∀j z,l[j]?=some z->S j=true->∀k,waits z k=true->S k=true)->Inv S e w->
   OW P n l.toArray (λB w'=>Inv (λj=>if j=i then true else S j) B w') [o] e w)
  (u:∀(S:Nat->Bool) (e:Env) (w:World),(∀i,i<m->S i=true)->Inv S e w->OW P n l.toArray N (l.drop m) e w) (Q:Exit->Act->World->Prop):
  ∀(c:Nat) (b:Array Bool) (e:Env) (a:Act) (w:World),Fits n e a->b.size=l.length->
   ((List.range l.length).filter λj=>!b.getD j true).length=c->
   (∀j,m<=j->j<l.length->b.getD j true=false)->Inv (λj=>b.getD j false) e w->K3 l b->
   wpAny P .any l.toArray (sd n N Q) c b a w:=by
 obtain⟨vZ,_,_,_,nO⟩:=H7 Z;have T:∀(b:Array Bool) (j:Nat),b.size=l.length->j<l.length->¬b.getD j true=false->b.getD j false=true:=λb j q d p=>by rw[Array.getD_eq_getD_getElem?] at p⊢;rw[Array.getElem?_eq_getElem om] at p⊢;simpa using p
 have H9:∀(b:Array Bool) (j:Nat),b.size=l.length->j<l.length->b.getD j false=true->b.getD j true=true:=λb j q d p=>by rw[Array.getD_eq_getD_getElem?] at p⊢;rw[Array.getElem?_eq_getElem om] at p⊢;simpa using p
 intro c;induction c with
 |zero=>
  intro b e a w J q X M I O;have v:∀j,j<l.length->b.getD j true=true:=λj d=>by
   cases K:b.getD j true with
   |true=>rfl
   |false=>
    have:j∈(List.range l.length).filter λj=>!b.getD j true:=by rw[List.mem_filter,List.mem_range];exact⟨d,by rw[K];rfl⟩
    rw[List.length_eq_zero_iff.1 X] at this;cases this
  have hm:m=l.length:=by
   rcases Nat.lt_or_ge m l.length with h|h
   .have:=M m (lR _) h;rw[v m h] at this;cases this
   .omega
  have ht:=u _ e w (λi L=>T b i q om (by rw[v i om];simp)) I;have f:=ht a J Q;exact K4 Z 0 m b a w (lR _) om q (λj d=>⟨λh=>(by rw[v j d] at h;cases h),λh=>om⟩) f
 |succ c ih=>
  intro b e a w J q X M I O;by_cases H:∀j,j<m->b.getD j true=true
  .have ht:=u _ e w (λi L=>T b i q om (by rw[H i L];simp)) I;have f:=ht a J Q;have BL:∀j,j<l.length->(b.getD j true=false↔m<=j):=λj d=>by
    constructor
    .intro h;rcases Nat.lt_or_ge j m with g|g
     .rw[H j g] at h;cases h
     .exact g
    .intro h;exact M j h d
   have U:m+(c+1)=l.length:=by
    rw[<-X];have:∀k,k<=l.length->m<=k->((List.range k).filter λj=>!b.getD j true).length=k-m:=by
     intro k;induction k with
     |zero=>intro _ h;simp
     |succ k r=>
      intro jc _;rw[List.range_succ,List.filter_append,lA];rcases Nat.lt_or_ge k m with g|g
      .have Ut:k+1=m:=by omega
       have hz:((List.range k).filter λj=>!b.getD j true)=[]:=by rw[List.filter_eq_nil_iff];intro j d;rw[List.mem_range] at d;rw[H j om];simp
       have s:(!b.getD k true)=false:=by rw[H k g];rfl
       simp only[hz,List.filter_cons,s,List.filter_nil,List.length_nil];simp;omega
      .rw[r om g];have s:(!b.getD k true)=true:=by rw[(BL k om).2 g];rfl
       simp only[List.filter_cons,s,List.filter_nil,if_true,lC,List.length_nil];omega
    have:=this l.length (lR _) vZ;omega
   exact K4 Z (c+1) m b a w (lR _) U q BL f
  .have hex:∃j,j<m/\b.getD j true=false/\∀i,i<j->b.getD i true=true:=by
    have:∀k,(∃j,j<k/\b.getD j true=false/\∀i,i<j->b.getD i true=true)\/∀j,j<k->b.getD j true=true:=by
     intro k;induction k with
     |zero=>right;intro j d;omega
     |succ k r=>
      rcases r with⟨j,d,p,f⟩|h
      .exact .inl ⟨j,om,p,f⟩
      .cases K:b.getD k true with
       |false=>exact .inl ⟨k,om,K,h⟩
       |true=>
        right;intro j d;rcases Nat.lt_or_ge j k with g|g
        .exact h j g
        .rw[show j=k from by omega];exact K
    rcases this m with h|h
    .exact h
    .exact absurd h H
   obtain⟨y,_,Ib,Ic⟩:=hex;obtain⟨o0,Ig⟩:∃o,l[y]?=some o:=⟨l[y]'om,gE om⟩;have pZ:y∈Region.ready .any l.toArray b:=mem_ready.2 ⟨Ib,o0,by simpa using Ig,λC D hb=>by have Y:=(nO y o0 Ig).1 C D hb;exact T b _ q om (by rw[Ic _ Y];simp)⟩;refine⟨λhr=>(by rw[hr] at pZ;cases pZ),λi L=>?_⟩;obtain⟨hu,o,ho,v⟩:=mem_ready.1 L;have mq:i<l.length:=by simpa using(Array.getElem?_eq_some_iff.1 ho).1
   have R:l[i]?=some o:=by simpa using ho
   have yD:i<m:=by
    rcases Nat.lt_or_ge i m with h|h
    .exact h
    .have:=H9 b y q om<|OP O R v ((nO i o R).2.2 h) (i-y) y om om;rw[Ib] at this;cases this
   have Ci:b.getD i false=false:=by
    cases h:b.getD i false with
    |false=>rfl
    |true=>rw[H9 b i q mq h] at hu;cases hu
   have p:=step (λj=>b.getD j false) e w i o yD R Ci (λj d=>by
    obtain⟨C,D,hb,V⟩:=K2 d;rw[<-V];exact v C D hb) (λj z F d k hk=>by
    obtain⟨C,D,hb,V⟩:=K2 hk;rw[<-V];exact O j z F d C D hb) I
   have f:=p a J Q;have next:∀(t:Act) (w':World),sd n (λB w'=>Inv (λj=>if j=i then true else b.getD j false) B w') Q .normal t w'->
     wpAny P .any l.toArray (sd n N Q) c (b.setIfInBounds i true) t w':=λt w' E=>by
    obtain⟨B,OR,hI'⟩:=E;refine ih _ B t w' OR (by simpa using q) ?_ ?_ ?_ ?_
    .have U:∀k,k<=l.length->((List.range k).filter λj=>!(b.setIfInBounds i true).getD j true).length+(if i<k then 1 else 0)=((List.range k).filter λj=>!b.getD j true).length:=by
      intro k;induction k with
      |zero=>simp
      |succ k r=>
       intro jc;have uV:=r om;rw[List.range_succ,List.filter_append,lA,List.filter_append,lA];by_cases xA:i=k
       .subst xA;rw[iN om] at uV;have Y:i<b.size:=by omega
        have s:(b.setIfInBounds i true).getD i true=true:=by simp[Array.getD_eq_getD_getElem?,Y]
        rw[iP om];simp only[List.filter_cons,s,hu,List.filter_nil,Bool.not_true,Bool.not_false,if_true,Bool.false_eq_true,if_false,lC,List.length_nil];omega
       .have s:(b.setIfInBounds i true).getD k true=b.getD k true:=getD_set_ne true xA;simp only[List.filter_cons,s,List.filter_nil];have hii:(i<k+1)↔(i<k):=by omega
        by_cases ru:i<k
        .have c1:i<k+1:=by omega
         rw[iP ru] at uV;rw[iP c1];split<;>simp only[lC,List.length_nil]<;>omega
        .have c1:¬i<k+1:=by omega
         rw[iN ru] at uV;rw[iN c1];split<;>simp only[lC,List.length_nil]<;>omega
     have:=U l.length<|lR _;rw[iP mq] at this;omega
    .intro j OS yy;rw[getD_set_ne true om];exact M j OS yy
    .have s:(λj=>(b.setIfInBounds i true).getD j false)=λj=>if j=i then true else b.getD j false:=by
      funext j;by_cases A:i=j
      .subst A;have:i<b.size:=by omega
       simp[Array.getD_eq_getD_getElem?,this]
      .rw[getD_set_ne false A,iN λh=>A h.symm]
     rw[s];exact hI'
    .intro j z F d e2 mv aM;have we:∀x,b.getD x false=true->(b.setIfInBounds i true).getD x false=true:=λx hx=>by
      by_cases Il:i=x
      .subst Il;have:i<b.size:=by omega
       simp[Array.getD_eq_getD_getElem?,this]
      .rw[getD_set_ne false Il];exact hx
     by_cases A:i=j
     .subst A;rw[R] at F;cases F;exact we _<|v e2 mv aM
     .rw[getD_set_ne false A] at d;exact we _<|O j z F d e2 mv aM
   unfold wpOp;simp only[ho];unfold wpList at f;by_cases hw:Region.wanted o (yielded l.toArray a.tmps)=true
   .rw[iP hw] at f⊢;rcases f with f|⟨f,h3⟩
    .refine .inl<|Oper.OK (λt w' g=>next t w' g) (λ_ _ _ h=>h) (fun⟨a,w,E⟩=>⟨a,w,E⟩) f
    .exact .inr ⟨f,by obtain⟨t,w',E⟩:=h3;exact⟨t,w',E⟩⟩
   .rw[iN hw] at f⊢;exact next _ _ f
end
def gF (G:List Nat) (w:World):Prop:=∀x∈G,x<w.heap.size
def Mh:List (List Nat->List Value->World->Prop)->Prop
 |[]=>True
 |J::r=>(∀G vs w w',J G vs w->ak [] w w'->J G vs w')/\Mh r
def Mi:∀{Js:List (List Nat->List Value->World->Prop)},Mh Js->∀(k:Nat) {G:List Nat} {vs:List Value} {w w':World},Js.getD k (λ_ _ _=>True) G vs w->ak [] w w'->Js.getD k (λ_ _ _=>True) G vs w'
 |[],_,k,_,_,_,_,_,_=>by simp
 |J::r,h,0,_,_,_,_,hj,hk=>h.1 _ _ _ _ hj hk
 |J::r,h,k+1,_,_,_,_,hj,hk=>by have:=Mi (Js:=r) h.2 k (by simpa using hj) hk;simpa using this
def ke {a:Type} {l:List a} (h:l.length=0):l=[]:=by grind
def kf {b:Type} {l:List b} (h:l.length=1):∃a,l=[a]:=List.length_eq_one_iff.1 h
def nu {c:Type} {l:List c} (h:l.length=2):∃a b,l=[a,b]:=by
 match l,h with|[a,b],_=>exact⟨a,b,rfl⟩
def Cj {d:Type} {l:List d} (h:l.length=3):∃a b c,l=[a,b,c]:=by
 match l,h with|[a,b,c],_=>exact⟨a,b,c,rfl⟩
def Qf {e:Type} {l:List e} (h:l.length=4):∃a b c d,l=[a,b,c,d]:=by
 match l,h with|[a,b,c,d],_=>exact⟨a,b,c,d,rfl⟩
def WX {f:Type} {l:List f} (h:l.length=5):∃a b c d e,l=[a,b,c,d,e]:=by
 match l,h with|[a,b,c,d,e],_=>exact⟨a,b,c,d,e,rfl⟩
def ajF {g:Type} {l:List g} (h:l.length=6):∃a b c d e f,l=[a,b,c,d,e,f]:=by
 match l,h with|[a,b,c,d,e,f],_=>exact⟨a,b,c,d,e,f,rfl⟩
theorem IX {W a:List Nat} {e:Env} (b:fM W e0 e) (r:List Nat):bf (aY W e e0) (xu a (λi=>e<|a.getD i 0) r)=e:=by
 rw[Ad b,H6 (by
  intro p c;have:∀(r:List Nat),p∈xu a (λi=>e<|a.getD i 0) r->e p.1=p.2:=by
   intro r;induction r with
   |nil=>intro h;cases h
   |cons j r d=>
    intro h;rcases mC.1 h with h|h
    .subst h;rfl
    .exact d h
  exact this _ c)]
inductive Ie where
 |v (V:Value)
 |p (f:List Nat->Value->World->Prop)
 |e (t:Nat)
 |w (t:Nat) (V:Value)
 |q (t:Nat) (f:Value->Prop)
 |d (f:List Value->Value)
 |u
def Ie.F:Ie->List Nat->Value->World->Prop
 | .v V=>λ_ v _=>v=V
 | .p f=>f
 | .w _ V=>λ_ v _=>v=V
 | .q _ f=>λ_ v _=>f v
 |_=>λ_ _ _=>True
def Ie.vu:Ie->Option Nat
 | .e t=>some t
 | .w t _=>some t
 | .q t _=>some t
 |_=>none
def Ie.s5:Ie->Bool
 | .u=>true
 |_=>false
def Ie.late:Ie->Bool
 | .u=>true
 | .d _=>true
 |_=>false
abbrev fS:Ie:=.p λ_ _ _=>True
def s8 (b:List Ie) (c:List Nat) (G:List Nat) (bm:List Value) (w:World):List Nat->(List (Nat×Value)->Prop)->Prop
 |[],k=>k []
 |j::r,k=>match b.getD j fS with
  | .v V=>s8 b c G bm w r λa=>k ((c.getD j 0,V)::a)
  | .p f=>∀v,f G v w->s8 b c G bm w r λa=>k ((c.getD j 0,v)::a)
  | .e t=>s8 b c G bm w r λa=>k ((c.getD j 0,bm.getD t undef)::a)
  | .w _ V=>s8 b c G bm w r λa=>k ((c.getD j 0,V)::a)
  | .q t f=>∀v,bm.getD t undef=v->f v->s8 b c G bm w r λa=>k ((c.getD j 0,v)::a)
  | .d f=>s8 b c G bm w r λa=>k ((c.getD j 0,f bm)::a)
  | .u=>∀v,s8 b c G bm w r λa=>k ((c.getD j 0,v)::a)
def WY (q:Ie) (G:List Nat) (bm:List Value) (v:Value) (w:World):Prop:=q.F G v w/\(∀t,q.vu=some t->bm.getD t undef=v)/\∀f,q= .d f->f bm=v
def wG {g:List Ie} {l:List Nat} {G:List Nat} {bm:List Value} {vs:Nat->Value}:∀{deps:List Nat} {k:List (Nat×Value)->Prop},s8 g l G bm w deps k->
  (∀j∈deps,WY (g.getD j fS) G bm (vs j) w)->k (xu l vs deps)
 |[],k,h,_=>h
 |j::r,k,h,hd=>by
  obtain⟨a,m,o⟩:=hd j<|List.mem_cons_self ..;unfold s8 at h;have b:∀i∈r,_:=λi n=>hd i<|mK _ n;cases e:g.getD j fS with
  |v V=>rw[e] at h a;have c:vs j=V:=a;subst c;exact wG (deps:=r) h b
  |p f=>rw[e] at h a;exact wG (deps:=r) (h _ a) b
  |e t=>rw[e] at h;have c:=m t (by rw[e];rfl);simp only[c] at h;exact wG (deps:=r) h b
  |w t V=>rw[e] at h a;have c:vs j=V:=a;subst c;exact wG (deps:=r) h b
  |q t f=>rw[e] at h a;exact wG (deps:=r) (h _ (m t (by rw[e];rfl)) a) b
  |d f=>rw[e] at h;have c:=o f e;simp only[c] at h;exact wG (deps:=r) h b
  |u=>rw[e] at h;exact wG (deps:=r) (h _) b
section
variable (P:Program) (n:Nat) (ops:Array Oper) (W ds:List Nat) (its:List Ie) (Js:List (List Nat->List Value->World->Prop)) (JF:(Nat->Bool)->List Nat->List Value->World->Prop) (e0:Env) (G0:List Nat) (w0:World)
def IY (i:Nat) (o:Oper) (b:List Nat):Prop:=
 ∀(x:Env) (w:World) (G:List Nat) (bm:List Value),Fr G0 w0 G w->gF G w->s8 its ds G bm w b λa=>
  OW P n ops (λc w'=>ak [] w w'/\(its.getD i fS).F G (c<|ds.getD i 0) w'/\fM [ds.getD i 0] (bf (aY W x e0) a) c) [o] (bf (aY W x e0) a) w
def IZ (t i:Nat) (o:Oper) (b:List Nat):Prop:=
 ∀(x:Env) (w:World) (G:List Nat) (bm:List Value),Fr G0 w0 G w->gF G w->Js.getD t (λ_ _ _=>True) G bm w->bm.length=t->s8 its ds G bm w b λa=>
  OW P n ops (λd w'=>(∃c,Fr G w c w'/\gF c w'/\Js.getD (t+1) (λ_ _ _=>True) c (bm++[d (ds.getD i 0)]) w'/\(its.getD i fS).F c (d<|ds.getD i 0) w')/\fM [ds.getD i 0] (bf (aY W x e0) a) d) [o] (bf (aY W x e0) a) w
def ajG (a:Array Oper) (o:Oper) (S:Nat->Bool):Prop:=(∀j,waits o j=true->S j=true)/\∀j b,a[j]?=some b->S j=true->∀k,waits b k=true->S k=true
def W0 (ne:Nat) (f:List Value->Value) (i:Nat) (o:Oper) (b:List Nat):Prop:=
 ∀(x:Env) (w:World) (G:List Nat) (bm:List Value) (S:Nat->Bool),Fr G0 w0 G w->gF G w->ajG ops o S->JF (λj=>S j&&(its.getD j fS).s5) G bm w->bm.length=ne->s8 its ds G bm w b λa=>
  OW P n ops (λc w'=>ak [] w w'/\c (ds.getD i 0)=f bm/\fM [ds.getD i 0] (bf (aY W x e0) a) c) [o] (bf (aY W x e0) a) w
def W1 (ne i:Nat) (o:Oper) (b:List Nat):Prop:=
 ∀(x:Env) (w:World) (G:List Nat) (bm:List Value) (S:Nat->Bool),Fr G0 w0 G w->gF G w->JF S G bm w->S i=false->bm.length=ne->s8 its ds G bm w b λa=>
  OW P n ops (λd w'=>(∃c,Fr G w c w'/\gF c w'/\JF (λj=>if j=i then true else S j) c bm w')/\fM [ds.getD i 0] (bf (aY W x e0) a) d) [o] (bf (aY W x e0) a) w
def uc (ne i:Nat) (o:Oper) (a:List Nat):Prop:=match its.getD i fS with
 | .e t=>IZ P n ops W ds its Js e0 G0 w0 t i o a
 | .w t _=>IZ P n ops W ds its Js e0 G0 w0 t i o a
 | .q t _=>IZ P n ops W ds its Js e0 G0 w0 t i o a
 | .d f=>W0 P n ops W ds its JF e0 G0 w0 ne f i o a
 | .u=>W1 P n ops W ds its JF e0 G0 w0 ne i o a
 |_=>IY P n ops W ds its e0 G0 w0 i o a
def sB (ne:Nat):Nat->List Oper->List (List Nat)->Prop
 |_,[],_=>True
 |_,_::_,[]=>True
 |k,o::l,d::r=>uc P n ops W ds its Js JF e0 G0 w0 ne k o d/\sB ne (k+1) l r
end
section
variable {P:Program} {n:Nat} {ops:Array Oper} {W ds:List Nat} {its:List Ie} {Js:List (List Nat->List Value->World->Prop)} {JF:(Nat->Bool)->List Nat->List Value->World->Prop} {e0:Env} {G0:List Nat} {w0:World} {ne:Nat}
def vf {k:Nat} {o:Oper} (h:IY P n ops W ds its e0 G0 w0 k o d) (c:sB P n ops W ds its Js JF e0 G0 w0 ne (k+1) l r) (hk:(its.getD k fS).vu=none/\(its.getD k fS).late=false:=by exact⟨rfl,rfl⟩):sB P n ops W ds its Js JF e0 G0 w0 ne k (o::l) (d::r):=
 ⟨(by
  unfold uc;obtain⟨a,b⟩:=hk;cases e:its.getD k fS with
  |e t=>rw[e] at a;cases a
  |w t V=>rw[e] at a;cases a
  |q t f=>rw[e] at a;cases a
  |d f=>rw[e] at b;cases b
  |u=>rw[e] at b;cases b
  |v V=>exact h
  |p f=>exact h),c⟩
def ve (t:Nat) {k:Nat} {o:Oper} (h:IZ P n ops W ds its Js e0 G0 w0 t k o d) (b:sB P n ops W ds its Js JF e0 G0 w0 ne (k+1) l r) (hk:(its.getD k fS).vu=some t:=by rfl):sB P n ops W ds its Js JF e0 G0 w0 ne k (o::l) (d::r):=
 ⟨(by
  unfold uc;cases e:its.getD k fS with
  |e a=>rw[e] at hk;cases hk;exact h
  |w a V=>rw[e] at hk;cases hk;exact h
  |q a f=>rw[e] at hk;cases hk;exact h
  |d f=>rw[e] at hk;cases hk
  |u=>rw[e] at hk;cases hk
  |v V=>rw[e] at hk;cases hk
  |p f=>rw[e] at hk;cases hk),b⟩
def ud {k:Nat} {o:Oper} {f:List Value->Value} (h:W0 P n ops W ds its JF e0 G0 w0 ne f k o d) (a:sB P n ops W ds its Js JF e0 G0 w0 ne (k+1) l r) (hk:its.getD k fS= .d f:=by rfl):sB P n ops W ds its Js JF e0 G0 w0 ne k (o::l) (d::r):=
 ⟨by unfold uc;rw[hk];exact h,a⟩
def uu {k:Nat} {o:Oper} (h:W1 P n ops W ds its JF e0 G0 w0 ne k o d) (a:sB P n ops W ds its Js JF e0 G0 w0 ne (k+1) l r) (hk:its.getD k fS= .u:=by rfl):sB P n ops W ds its Js JF e0 G0 w0 ne k (o::l) (d::r):=
 ⟨by unfold uc;rw[hk];exact h,a⟩
def W2:∀(l:List Oper) (a:List (List Nat)) (k:Nat),sB P n ops W ds its Js JF e0 G0 w0 ne k l a->∀(i:Nat) (o:Oper) (d:List Nat),l[i]?=some o->a[i]?=some d->uc P n ops W ds its Js JF e0 G0 w0 ne (k+i) o d
 |[],_,_,_,i,o,d,h,_=>by simp at h
 |_::_,[],_,_,i,o,d,_,h=>by simp at h
 |o::l,d::r,k,h,0,o',d',ho,hd=>by simp at ho hd;subst ho;subst hd;exact h.1
 |o::l,d::r,k,h,i+1,o',d',ho,hd=>by have:=W2 l r (k+1) h.2 i o' d' (by simpa using ho) (by simpa using hd);rwa [show k+1+i=k+(i+1) by omega] at this
end
def uB (l:List Oper) (m:Nat) (a:List Nat) (b:List Ie):Bool:=
 (List.range a.length).all (λt=>decide (a.getD t 0<m)&&((b.getD (a.getD t 0) fS).vu==some t)&&(decide (t=0)||(match l[a.getD t 0]? with|some o=>waits o (a.getD (t-1) 0)|none=>false)))&&
 (List.range m).all (λi=>(match(b.getD i fS).vu with|some t=>decide (t<a.length)&&decide (a.getD t 0=i)|none=>true)&&
  (!(b.getD i fS).late||decide (a.length=0)||(match l[i]? with|some o=>waits o (a.getD (a.length-1) 0)|none=>false)))&&
 decide (b.length<=m)
def ajH {d:List Nat} {e:List Ie} (h:uB l m d e=true):
  (∀t,t<d.length->d.getD t 0<m/\(e.getD (d.getD t 0) fS).vu=some t/\(t≠0->∃o,l[d.getD t 0]?=some o/\waits o (d.getD (t-1) 0)=true))/\
  (∀i t,i<m->(e.getD i fS).vu=some t->t<d.length/\d.getD t 0=i)/\
  (∀i,i<m->(e.getD i fS).late=true->d.length≠0->∃o,l[i]?=some o/\waits o (d.getD (d.length-1) 0)=true)/\e.length<=m:=by
 unfold uB at h;rw[aE,aE,List.all_eq_true,List.all_eq_true,dE] at h;obtain⟨⟨p,j⟩,q⟩:=h;refine⟨λt u=>?_,λi t g r=>?_,λi g f s=>?_,q⟩
 .have:=p t<|List.mem_range.2 u;simp only[aE,dE,beq_iff_eq,oE] at this;obtain⟨⟨a,b⟩,c⟩:=this;refine⟨a,b,λn=>?_⟩;rcases c with c|c
  .exact absurd c n
  .cases f:l[d.getD t 0]? with
   |none=>rw[f] at c;cases c
   |some o=>rw[f] at c;exact⟨o,rfl,c⟩
 .have:=j i<|List.mem_range.2 g;rw[r] at this;simp only[aE,dE] at this;exact this.1
 .have:=j i<|List.mem_range.2 g;rw[aE,f] at this;have:=this.2;simp only[Bool.not_true,Bool.false_or,oE,dE] at this;rcases this with c|c
  .exact absurd c s
  .cases f:l[i]? with
   |none=>rw[f] at c;cases c
   |some o=>rw[f] at c;exact⟨o,rfl,c⟩
def Gw:List Ie->Prop
 |[]=>True
 | .p f::r=>(∀G v w a w',f G v w->Fr G w a w'->f a v w')/\Gw r
 |_::r=>Gw r
def Ck:∀{its:List Ie},Gw its->∀q∈its,∀G v w b w',q.F G v w->Fr G w b w'->q.F b v w'
 |s::r,h,q,hq,G,v,w,b,w',hf,hk=>by
  rcases mC.1 hq with e|a
  .subst e;cases q with
   |p f=>exact h.1 _ _ _ _ _ hf hk
   |_=>exact hf
  .cases s with
   |p f=>exact Ck (its:=r) h.2 q a _ _ _ _ _ hf hk
   |v V=>exact Ck (its:=r) h q a _ _ _ _ _ hf hk
   |e t=>exact Ck (its:=r) h q a _ _ _ _ _ hf hk
   |w t V=>exact Ck (its:=r) h q a _ _ _ _ _ hf hk
   |q t f=>exact Ck (its:=r) h q a _ _ _ _ _ hf hk
   |d f=>exact Ck (its:=r) h q a _ _ _ _ _ hf hk
   |u=>exact Ck (its:=r) h q a _ _ _ _ _ hf hk
def W3 {a:List Ie} (h:Gw a) (i:Nat) {G:List Nat} {c:List Nat} (b:(a.getD i fS).F G v w) (hk:Fr G w c w'):(a.getD i fS).F c v w':=by
 rw[gG] at b⊢;cases e:a[i]? with
 |none=>trivial
 |some q=>rw[e] at b;exact Ck h q (List.mem_of_getElem? e) _ _ _ _ _ b hk
section
variable {P:Program} {n:Nat} {l:List Oper} {m:Nat} {W ds:List Nat} {deps:List (List Nat)}
def Qg {N R:Env->World->Prop} {X:Nat->Env->World->Prop} {id:Nat} {e0:Env} {L:World} (hm:P.follows .mixedOrders=true) (G0:List Nat) (m:Nat) (W y:List Nat) (C:List (List Nat)) (c:List Ie) (b:List Nat) (Js:List (List Nat->List Value->World->Prop)) (JF:(Nat->Bool)->List Nat->List Value->World->Prop) 
  (hB:vY l m W y C=true) (hE:uB l m b c=true) (hL:gF G0 L) (hF:Gw c) (hJ:Mh Js) (W4:∀S G vs w w',JF S G vs w->ak [] w w'->JF S G vs w') (h0:Js.getD 0 (λ_ _ _=>True) G0 [] L)
  (Mj:∀G vs w,Js.getD b.length (λ_ _ _=>True) G vs w->vs.length=b.length->JF (λ_=>false) G vs w)
  (hc:sB P n l.toArray W y c Js JF e0 G0 L b.length 0 (l.take m) C)
  (ht:∀(x:Env) (w:World) (G:List Nat) (bm:List Value),Fr G0 L G w->gF G w->JF (λi=>(c.getD i fS).s5) G bm w->bm.length=b.length->s8 c y G bm w (List.range m) λacc=>OW P n l.toArray N (l.drop m) (bf (aY W x e0) acc) w):
  CW P n (.region id l.toArray true) N R X e0 L:=λa ha=>by
 refine wp_region_any hm ?_;have gP:ak [] L {L with drawn:=L.drawn+1}:=ak.drew _ _;obtain⟨_,_,_,kM,nO⟩:=H7 hB;obtain⟨rK,mv,I0,_⟩:=ajH hE;have dD:∀i j,i<m->j<m->i≠j->y.getD j 0≠y.getD i 0:=λi j hi s pA=>by rw[gG,gG,gE om,gE om];simp only[Option.getD_some];intro he;exact pA ((List.getElem_inj kM).1 he.symm)
 let J:Nat->Env->List Value:=λk e=>(b.take k).map λi=>e<|y.getD i 0;let US:(Nat->Bool)->Nat->Bool:=λS i=>S i&&(c.getD i fS).s5;let Inv:(Nat->Bool)->Env->World->Prop:=λS e w=>∃G k,fM W e0 e/\Fr G0 L G w/\gF G w/\k<=b.length/\(∀t,t<b.length->(S (b.getD t 0)=true↔t<k))/\
  (k<b.length->Js.getD k (λ_ _ _=>True) G (J k e) w/\∀i,i<m->S i=true->(c.getD i fS).late=false)/\(k=b.length->JF (US S) G (J k e) w)/\
  ∀i,i<m->S i=true->(c.getD i fS).F G (e<|y.getD i 0) w/\∀f,c.getD i fS= .d f->f (J k e)=e (y.getD i 0)
 have W5:∀(S:Nat->Bool) (e:Env) (k:Nat),(∀t,t<b.length->(S (b.getD t 0)=true↔t<k))->k<=b.length->∀j t,j<m->S j=true->(c.getD j fS).vu=some t->(J k e).getD t undef=e (y.getD j 0):=by intro S e k T hk j t s H he;obtain⟨A,D⟩:=mv j t s he;have Z:t<k:=(T t A).1 (by rw[D];exact H);show((b.take k).map λi=>e<|y.getD i 0).getD t undef=_;rw[gG,List.getElem?_map,List.getElem?_take,iP Z,gE A];rw[gG,gE A] at D;simp only[Option.getD_some] at D;simp[D]
 have I1:∀k e,k<=b.length->(J k e).length=k:=λk e hk=>by show((b.take k).map _).length=k;simp;omega
 have step:∀(S:Nat->Bool) (e:Env) (w:World) (i:Nat) (o:Oper),i<m->l[i]?=some o->S i=false->(∀j,waits o j=true->S j=true)->(∀j oj,l[j]?=some oj->S j=true->∀k,waits oj k=true->S k=true)->Inv S e w->
   OW P n l.toArray (λg w'=>Inv (λj=>if j=i then true else S j) g w') [o] e w:=by
  rintro S e w i o yD ho Ci I2 mr ⟨G,k,yE,bV,xN,jc,T,Gx,Gy,wq⟩;obtain⟨hW,Ih⟩:=(nO i o ho).2.1 yD;obtain⟨dp,Ii⟩:∃d,C[i]?=some d:=⟨C[i]'om,gE om⟩;have Ij:C.getD i []=dp:=by rw[gG,Ii];rfl
  rw[Ij] at Ih;have z:=W2 (l.take m) C 0 hc i o dp (by rw[List.getElem?_take,iP yD];exact ho) Ii;rw[Nat.zero_add] at z;have hd:∀j∈dp,WY (c.getD j fS) G (J k e) (e (y.getD j 0)) w:=λj s=>by obtain⟨A,D⟩:=Ih j s;have Z:=wq j D<|I2 j A;exact⟨Z.1,λt het=>W5 S e k T jc j t D (I2 j A) het,Z.2⟩
  have W6:∀g,fM [y.getD i 0] e g->fM W e0 g:=λg h t Qh=>by
   have D1:t≠y.getD i 0:=λhe=>by rw[he,hW] at Qh;cases Qh
   rw[h t (by simpa using D1)];exact yE t Qh
  have Qi:∀g,fM [y.getD i 0] e g->∀j,j<m->j≠i->g (y.getD j 0)=e (y.getD j 0):=λg h j s B=>h _ (by simpa using dD i j yD s λh=>B h.symm);have gR:[o]=[o]++[]:=rfl;have W7:∀g,fM [y.getD i 0] e g->∀k',k'<=b.length->(∀t,t<k'->b.getD t 0≠i)->J k' g=J k' e:=λg I k' wb o9=>by
   show(b.take k').map _=(b.take k').map _;apply List.map_congr_left;intro j s;obtain⟨t,Cl⟩:=List.mem_iff_getElem?.1 s;rw[List.getElem?_take] at Cl;split at Cl
   .rename_i eW;have F:t<b.length:=(List.getElem?_eq_some_iff.1 Cl).1;have BN:b.getD t 0=j:=by rw[gG,Cl];rfl
    exact Qi g I j (by have:=(rK t F).1;rw[BN] at this;exact this) λh=>o9 t eW<|BN.trans h
   .cases Cl
  -- what is late comes behind the last effect
  have W8:(c.getD i fS).late=true->k=b.length:=λhl=>by
   rcases Nat.eq_zero_or_pos b.length with h0|h0
   .omega
   .obtain⟨o',qA,Qj⟩:=I0 i yD hl om;rw[ho] at qA;cases qA;have:=(T (b.length-1) om).1<|I2 _ Qj;omega
  -- an operation that is no effect in the order
  have Y:∀(g:Env) (w':World) (O:List Nat),(c.getD i fS).vu=none->fM [y.getD i 0] e g->Fr G w O w'->gF O w'->
    (k<b.length->Js.getD k (λ_ _ _=>True) O (J k e) w'/\(c.getD i fS).late=false)->(k=b.length->JF (US λj=>if j=i then true else S j) O (J k e) w')->
    (c.getD i fS).F O (g<|y.getD i 0) w'->(∀f,c.getD i fS= .d f->f (J k e)=g (y.getD i 0))->Inv (λj=>if j=i then true else S j) g w':=by
   intro g w' O Gz I D3 I3 Cm uj I4 Qk;have o9:∀t,t<b.length->b.getD t 0≠i:=λt F h=>by have:=(rK t F).2.1;rw[h,Gz] at this;cases this
   have D4:=W7 g I k jc λt ht=>o9 t om;refine⟨O,k,W6 g I,bV.go D3,I3,jc,λt F=>?_,λeW=>⟨?_,λj s H=>?_⟩,λE=>?_,λj s H=>?_⟩
   .simp only[iN (o9 t F)];exact T t F
   .rw[D4];exact(Cm eW).1
   .by_cases B:j=i
    .rw[B];exact(Cm eW).2
    .simp only[iN B] at H;exact(Gx eW).2 j s H
   .rw[D4];exact uj E
   .rw[D4];by_cases B:j=i
    .rw[B];exact⟨I4,Qk⟩
    .simp only[iN B] at H;rw[Qi g I j s B];exact⟨W3 hF j (wq j s H).1 D3,(wq j s H).2⟩
  have W9:(c.getD i fS).s5=false->US (λj=>if j=i then true else S j)=US S:=λh=>by
   funext j;show((if j=i then true else S j)&&(c.getD j fS).s5)=(S j&&(c.getD j fS).s5);by_cases B:j=i
   .rw[B,h];simp
   .rw[iN B]
  -- the cases
  have K:IY P n l.toArray W y c e0 G0 L i o dp->(c.getD i fS).vu=none->(c.getD i fS).late=false->(∀f,c.getD i fS≠ .d f)->(c.getD i fS).s5=false->OW P n l.toArray (λg w'=>Inv (λj=>if j=i then true else S j) g w') [o] e w:=by intro z Gz I5 Ql Xa;have A:=wG (z e w G _ bV xN) (vs:=λj=>e<|y.getD j 0) hd;rw[IX yE] at A;rw[gR];refine BI A ?_;rintro g w' ⟨wb,I4,I⟩;exact aX (Y g w' G Gz I (Fr.of wb sm) (λx hx=>lL (xN x hx) wb.size) (λeW=>⟨Mi hJ k (Gx eW).1 wb,I5⟩) (λE=>by rw[W9 Xa];exact W4 _ _ _ _ _ (Gy E) wb) I4 λf U=>absurd U<|Ql f)
  have Q:∀t,(c.getD i fS).vu=some t->IZ P n l.toArray W y c Js e0 G0 L t i o dp->(c.getD i fS).late=false->(∀f,c.getD i fS≠ .d f)->(c.getD i fS).s5=false->OW P n l.toArray (λg w'=>Inv (λj=>if j=i then true else S j) g w') [o] e w:=by
   intro t Gz z I5 Ql Xa;obtain⟨F,I6⟩:=mv i t yD Gz;have kh:k=t:=by
    have A:¬t<k:=λh=>by have:=(T t F).2 h;rw[I6,Ci] at this;cases this
    rcases Nat.eq_zero_or_pos t with h0|h0
    .omega
    .obtain⟨o',qA,Qj⟩:=(rK t F).2.2 om;rw[I6,ho] at qA;cases qA;have:=(T (t-1) om).1<|I2 _ Qj;omega
   subst kh;have A:=wG (z e w G _ bV xN (Gx F).1<|I1 k e jc) (vs:=λj=>e<|y.getD j 0) hd;rw[IX yE] at A;rw[gR];refine BI A ?_;rintro g w' ⟨⟨O,D3,I3,Ml,I4⟩,I⟩;have Xb:∀M,M<b.length->b.getD M 0=i->M=k:=λM A D=>by have:=(rK M A).2.1;rw[D,Gz] at this;cases this;rfl
   have D4:J k g=J k e:=W7 g I k jc (λM _ h=>by have:=Xb M om h;omega);have eX:J (k+1) g=J k e++[g (y.getD i 0)]:=by
    have D:b[k]?=some i:=by rw[gG,gE F] at I6;rw[gE F];simpa using I6
    rw[<-D4];show(b.take<|k+1).map _=(b.take k).map _++_;rw[List.take_add_one,D,List.map_append];rfl
   have Xc:∀j,j<m->(if j=i then true else S j)=true->(c.getD j fS).late=false:=λj s H=>by
    by_cases B:j=i
    .rw[B];exact I5
    .rw[iN B] at H;exact(Gx F).2 j s H
   refine aX ⟨O,k+1,W6 g I,bV.go D3,I3,om,λM Xd=>?_,λ_=>⟨by rw[eX];exact Ml,Xc⟩,λE=>?_,λj s H=>?_⟩
   .by_cases D:b.getD M 0=i
    .have:=Xb M Xd D;simp only[iP D];exact⟨λ_=>om,λ_=>trivial⟩
    .simp only[iN D];rw[T M Xd];have:M≠k:=λh=>by rw[h] at D;exact D I6
     omega
   .have e1:US (λj=>if j=i then true else S j)=λ_=>false:=by
     funext j;show((if j=i then true else S j)&&(c.getD j fS).s5)=false;by_cases DC:j<m
     .cases hb:(if j=i then true else S j) with
      |false=>rfl
      |true=>
       have Z:=Xc j DC hb;cases e:c.getD j fS with
       |u=>rw[e] at Z;cases Z
       |_=>rfl
     .rw[gG,List.getElem?_eq_none om];simp[Ie.s5]
    rw[e1];exact Mj _ _ _ (by rw[eX,<-E];exact Ml) (by rw[I1 _ _ om];omega)
   .by_cases B:j=i
    .rw[B];exact⟨I4,λf U=>absurd U<|Ql f⟩
    .simp only[iN B] at H;rw[Qi g I j s B];refine⟨W3 hF j (wq j s H).1 D3,λf U=>?_⟩;have:=(Gx F).2 j s H;rw[U] at this;cases this
  cases r:c.getD i fS with
  |v V=>unfold uc at z;rw[r] at z;exact K z (by rw[r];rfl) (by rw[r];rfl) (λf h=>by rw[r] at h;cases h) (by rw[r];rfl)
  |p f=>unfold uc at z;rw[r] at z;exact K z (by rw[r];rfl) (by rw[r];rfl) (λf h=>by rw[r] at h;cases h) (by rw[r];rfl)
  |e t=>unfold uc at z;rw[r] at z;exact Q t (by rw[r];rfl) z (by rw[r];rfl) (λf h=>by rw[r] at h;cases h) (by rw[r];rfl)
  |w t V=>unfold uc at z;rw[r] at z;exact Q t (by rw[r];rfl) z (by rw[r];rfl) (λf h=>by rw[r] at h;cases h) (by rw[r];rfl)
  |q t f=>unfold uc at z;rw[r] at z;exact Q t (by rw[r];rfl) z (by rw[r];rfl) (λf h=>by rw[r] at h;cases h) (by rw[r];rfl)
  |d f=>unfold uc at z;rw[r] at z;have E:=W8 (by rw[r];rfl);have A:=wG (z e w G _ S bV xN ⟨I2,λj oj xB=>mr j oj<|by simpa using xB⟩ (Gy E) (by rw[I1 k e jc];exact E)) (vs:=λj=>e<|y.getD j 0) hd;rw[IX yE] at A;rw[gR];refine BI A ?_;rintro g w' ⟨wb,D5,I⟩;exact aX (Y g w' G (by rw[r];rfl) I (Fr.of wb sm) (λx hx=>lL (xN x hx) wb.size) (λeW=>om) (λE=>by rw[W9 (by rw[r];rfl)];exact W4 _ _ _ _ _ (Gy E) wb) (by rw[r];trivial) λf' U=>by rw[r] at U;cases U;exact D5.symm)
  |u=>
   unfold uc at z;rw[r] at z;have E:=W8 (by rw[r];rfl);have A:=wG (z e w G _ _ bV xN (Gy E) (by show(S i&&_)=false;rw[Ci];rfl) (by rw[I1 k e jc];exact E)) (vs:=λj=>e<|y.getD j 0) hd;rw[IX yE] at A;rw[gR];refine BI A ?_;rintro g w' ⟨⟨O,D3,I3,Ml⟩,I⟩;refine aX (Y g w' O (by rw[r];rfl) I D3 I3 (λeW=>om) (λE=>?_) (by rw[r];trivial) λf' U=>by rw[r] at U;cases U);have e1:US (λj=>if j=i then true else S j)=λj=>if j=i then true else US S j:=by
    funext j;show((if j=i then true else S j)&&(c.getD j fS).s5)=if j=i then true else(S j&&(c.getD j fS).s5)
    by_cases B:j=i
    .rw[iP B,iP B,B,r];rfl
    .rw[iN B,iN B]
   rw[e1];exact Ml
 have tail:∀(S:Nat->Bool) (e:Env) (w:World),(∀i,i<m->S i=true)->Inv S e w->OW P n l.toArray N (l.drop m) e w:=by
  rintro S e w Mm ⟨G,k,yE,bV,xN,jc,T,Gx,Gy,wq⟩;have hk:k=b.length:=by
   rcases Nat.lt_or_ge k b.length with h|h
   .have:=(T k h).1<|Mm _ (rK k h).1;omega
   .omega
  subst hk;have e1:US S=λi=>(c.getD i fS).s5:=by
   funext j;show(S j&&(c.getD j fS).s5)=_;by_cases DC:j<m
   .rw[Mm j DC];rfl
   .rw[gG,List.getElem?_eq_none om];simp[Ie.s5]
  have s:=Gy rfl;rw[e1] at s;have A:=wG (ht e w G _ bV xN s (I1 _ e<|lR _)) (vs:=λj=>e<|y.getD j 0) (λj s=>by have yF:=List.mem_range.1 s;have Z:=wq j yF<|Mm j yF;exact⟨Z.1,λt het=>W5 S e _ T jc j t yF (Mm j yF) het,Z.2⟩);rw[IX yE] at A;exact A
 have jS:∀j,(Array.replicate l.length false).getD j false=false:=λj=>by rw[Array.getD_eq_getD_getElem?,Array.getElem?_replicate];split<;>rfl
 have ajI:Inv (λj=>(Array.replicate l.length false).getD j false) e0 {L with drawn:=L.drawn+1}:=by
  have Ia:=Mi hJ 0 h0 gP;refine⟨G0,0,BH,Fr.of gP sm,λx hx=>hL x hx,Nat.zero_le _,λt F=>?_,λ_=>⟨Ia,λi hi Ci=>?_⟩,λE=>?_,λi hi Ci=>?_⟩
  .constructor
   .intro h;exact absurd ((jS (b.getD t 0)).symm.trans h) sm
   .intro h;omega
  .exact absurd ((jS i).symm.trans Ci) sm
  .have e1:US (λj=>(Array.replicate l.length false).getD j false)=λ_=>false:=by
    funext j;show((Array.replicate l.length false).getD j false&&_)=false;rw[jS];rfl
   rw[e1];exact Mj _ _ _ (by rw[<-E];exact Ia) (by show((b.take 0).map _).length=_;simpa using E)
  .exact absurd ((jS i).symm.trans Ci) sm
 have:=ajD (N:=N) (Inv:=Inv) hB step tail (oR n N R X) l.length (Array.replicate l.length false) e0 a _ ha sm
  (by
   have:((List.range l.length).filter λj=>!(Array.replicate l.length false).getD j true)=List.range l.length:=by rw[List.filter_eq_self];intro j s;rw[List.mem_range] at s;simp[Array.getD_eq_getD_getElem?,s]
   rw[this];simp)
  (by intro j _ s;simp[Array.getD_eq_getD_getElem?,s])
  ajI
  (by intro j o ho s;have yF:j<l.length:=(List.getElem?_eq_some_iff.1 ho).1;simp[Array.getD_eq_getD_getElem?,yF] at s)
 have e1:sd n N (oR n N R X)=oR n N R X:=by funext x a w;cases x<;>rfl
 rw[e1] at this;simpa using this
def kQ {N R:Env->World->Prop} {X:Nat->Env->World->Prop} {id:Nat} {j:Env} {f:World} (v:P.follows .mixedOrders=true) (e:List Nat) (m:Nat) (W g:List Nat) (b:List (List Nat)) (c:List Ie) (a:List Nat) (d:List (List Nat->List Value->World->Prop)) 
  (q:vY l m W g b=true) (r:uB l m a c=true) (t:gF e f) (s:Gw c) (o:Mh d) (p:d.getD 0 (λ_ _ _=>True) e [] f)
  (u:sB P n l.toArray W g c d (λ_=>d.getD a.length λ_ _ _=>True) j e f a.length 0 (l.take m) b)
  (y:∀(x:Env) (w:World) (G:List Nat) (bm:List Value),Fr e f G w->gF G w->d.getD a.length (λ_ _ _=>True) G bm w->bm.length=a.length->s8 c g G bm w (List.range m) λi=>OW P n l.toArray N (l.drop m) (bf (aY W x j) i) w):
  CW P n (.region id l.toArray true) N R X j f:=Qg v e m W g b c a d (λ_=>d.getD a.length λ_ _ _=>True) q r t s o (λ_ _ _ _ _ h k=>Mi o _ h k) p (λ_ _ _ h _=>h) u y
end
section
variable {P:Program} {n:Nat} {ops:Array Oper} {e:Env} {w w':World} {G:List Nat}
def fv {d:Nat} (h:v=V:=by rfl):OW P n ops (λa w'=>ak [] w w'/\(Ie.v V).F G (a d) w'/\fM [d] e a) [] (cC e (some d) v) w:=
 aX ⟨ak.refl _ _,by subst h;exact rr _ _ _,uT⟩
def fk {d:Nat} (k:ak [] w w') (h:v=V:=by rfl):OW P n ops (λa w'=>ak [] w w'/\(Ie.v V).F G (a d) w'/\fM [d] e a) [] (cC e (some d) v) w':=
 aX ⟨k,by subst h;exact rr _ _ _,uT⟩
def ff {d:Nat} {f:List Nat->Value->World->Prop} (k:ak [] w w') (h:f G v w'):OW P n ops (λa w'=>ak [] w w'/\(Ie.p f).F G (a d) w'/\fM [d] e a) [] (cC e (some d) v) w':=
 aX ⟨k,by show f G (jz e d v d) w';rw[rr];exact h,uT⟩
def fe {d:Nat} {bm:List Value} (a:List Nat) (k:Fr G w a w') (c:gF a w') (h:J a (bm++[v]) w'):OW P n ops (λb w'=>(∃a,Fr G w a w'/\gF a w'/\J a (bm++[b d]) w'/\(Ie.e t).F a (b d) w')/\fM [d] e b) [] (cC e (some d) v) w':=
 aX ⟨⟨a,k,c,by show J a (bm++[jz e d v d]) w';rw[rr];exact h,trivial⟩,uT⟩
def fw {d:Nat} {bm:List Value} (a:List Nat) (k:Fr G w a w') (c:gF a w') (h:J a (bm++[v]) w') (f:v=V:=by rfl):OW P n ops (λb w'=>(∃a,Fr G w a w'/\gF a w'/\J a (bm++[b d]) w'/\(Ie.w t V).F a (b d) w')/\fM [d] e b) [] (cC e (some d) v) w':=
 aX ⟨⟨a,k,c,by show J a (bm++[jz e d v d]) w';rw[rr];exact h,by subst f;exact rr _ _ _⟩,uT⟩
def fq {d:Nat} {f:Value->Prop} {bm:List Value} (a:List Nat) (k:Fr G w a w') (c:gF a w') (h:J a (bm++[v]) w') (g:f v):OW P n ops (λb w'=>(∃a,Fr G w a w'/\gF a w'/\J a (bm++[b d]) w'/\(Ie.q t f).F a (b d) w')/\fM [d] e b) [] (cC e (some d) v) w':=
 aX ⟨⟨a,k,c,by show J a (bm++[jz e d v d]) w';rw[rr];exact h,by show f (jz e d v d);rw[rr];exact g⟩,uT⟩
def uD {d:Nat} (k:ak [] w w') (h:v=V:=by rfl):OW P n ops (λa w'=>ak [] w w'/\a d=V/\fM [d] e a) [] (cC e (some d) v) w':=
 aX ⟨k,by subst h;exact rr _ _ _,uT⟩
def uU {d:Nat} {Q:List Nat->World->Prop} (a:List Nat) (k:Fr G w a w') (c:gF a w') (h:Q a w'):OW P n ops (λb w'=>(∃a,Fr G w a w'/\gF a w'/\Q a w')/\fM [d] e b) [] e w':=
 aX ⟨⟨a,k,c,h⟩,BH⟩
end

class wH (p:Prop) (q:outParam Prop):Prop where
 imp:p->q
instance (priority:=low) {p:Prop}:wH p p:=⟨id⟩
instance {p:Prop} {i:Decidable p}:wH (@decide p i=true) p:=⟨of_decide_eq_true⟩
instance {p:Prop} {i:Decidable p}:wH (@decide p i=false) (¬p):=⟨of_decide_eq_false⟩
instance {b:Bool}:wH ((!b)=true) (b=false):=⟨λh=>by simpa using h⟩
instance {b:Bool}:wH ((!b)=false) (b=true):=⟨λh=>by simpa using h⟩
def jY [t:wH p q] (h:p):q:=t.imp h
section
variable {P:Program} {n:Nat} {N R:Env->World->Prop} {X:Nat->Env->World->Prop} {e:Env} {w:World}
def zc {x y:Code} {t:Bool} (a:ev e c= .bool t) [hp:wH (t=true) p] [hq:wH (t=false) q] (b:p->CW P n x N R X e w) (d:q->CW P n y N R X e w):CW P n (.cond c x y) N R X e w:=
 ac6 a (λh=>b<|hp.imp h) λh=>d<|hq.imp h
def zr {id:Nat} {y:Code} (h:OW P n l.toArray (λe w=>CW P n y N R X e w) l e w):CW P n ((Code.region id l.toArray false).seq y) N R X e w:=jF<|mX h
end
section
variable {P:Program} {n:Nat} {ops:Array Oper} {K:Env->World->Prop} {rest:List Oper} {e:Env} {w:World}
 {dst:Option Nat} {ty:TypeId} {pos:String} {after:Array Edge} {g:Option (Nat×Bool)} {x y:Operand} {T T':TypeId}
def zm (k:OW P n ops K rest (cC e dst<|ev e x) w) (b:gate ops e g=true:=by rfl) (a:cN n dst=true:=by rfl):OW P n ops K (⟨dst,.move x,ty,pos,after,g⟩::rest) e w:=adh b a k
def zA (k:OW P n ops K rest (cC e dst<|ev e x) w) (b:gate ops e g=true:=by rfl) (a:cN n dst=true:=by rfl):OW P n ops K (⟨dst,.assign x,ty,pos,after,g⟩::rest) e w:=adi b a k
theorem zs {op:Op} (k:OW P n ops K rest (cC e dst undef) w) (b:gate ops e g=false:=by rfl) (a:cN n dst=true:=by rfl):OW P n ops K (⟨dst,op,ty,pos,after,g⟩::rest) e w:=OC b a k
def zp {t:Bool} (a:ev e c= .bool t) (k:OW P n ops K rest (cC e dst<|bif t then ev e x else ev e y) w) (d:gate ops e g=true:=by rfl) (b:cN n dst=true:=by rfl):OW P n ops K (⟨dst,.pick c x y,ty,pos,after,g⟩::rest) e w:=Uh d b a k
def zf {S:Nat} (a:ie P S i=some off) (f:ev e x= .pointer (some ⟨b,o,none⟩)) (k:OW P n ops K rest (cC e dst (.pointer<|some ⟨b,o+off,none⟩)) w) (d:gate ops e g=true:=by rfl) (c:cN n dst=true:=by rfl):
  OW P n ops K (⟨dst,.fieldAddr S x i,ty,pos,after,g⟩::rest) e w:=Ul a d c f k
def zl {a:Addr} (b:rz P T=true) (i:ev e x= .pointer (some a)) (c:w.cell? a=some v) (k:OW P n ops K rest (cC e dst v) w) (f:gate ops e g=true:=by rfl) (d:cN n dst=true:=by rfl):
  OW P n ops K (⟨dst,.load T x,ty,pos,after,g⟩::rest) e w:=adl b f d i c k
def zL (a:uS P T=true) (l:TI P T sz bytes z) (j:ev e x= .pointer (some ⟨b,o,none⟩)) (c:gj w b o vs) (i:vs.length=sz) (k:OW P n ops K rest (cC e dst<|.agg vs.toArray) w) (f:gate ops e g=true:=by rfl) (d:cN n dst=true:=by rfl):
  OW P n ops K (⟨dst,.load T x,ty,pos,after,g⟩::rest) e w:=adm a l f d j c i k
def zi {T E:TypeId} {len a i:Nat} {q:IntKind} (d:P.underlying T=some (.slice E)) (c:TI P E sz bytes z) (m:ev e x= .slice (some ⟨b,o,none⟩) len a) (p:ev e y= .int q (i:Int)) (l:i<len) 
  (k:OW P n ops K rest (cC e dst (.pointer<|some ⟨b,o+i*sz,none⟩)) w) (j:gate ops e g=true:=by rfl) (f:cN n dst=true:=by rfl):OW P n ops K (⟨dst,.indexAddr T x y,ty,pos,after,g⟩::rest) e w:=Um d c j f m p l k
def zx (d:ev e x= .tuple vs.toArray) (c:vs[i]?=some v) (k:OW P n ops K rest (cC e dst v) w) (b:gate ops e g=true:=by rfl) (a:cN n dst=true:=by rfl):
  OW P n ops K (⟨dst,.extract x i,ty,pos,after,g⟩::rest) e w:=Un b a d c k
end
def vfm {W c:List Nat} {a:List Ie} {f:List (List Nat->List Value->World->Prop)} {e:(Nat->Bool)->List Nat->List Value->World->Prop} {ne:Nat} {b:List Nat} {k:Nat} {o:Oper} (g:sB P n ops W c a f e e0 b w0 ne (k+1) l r) (h:IY P n ops W c a e0 b w0 k o d:=by exact λ_ _ _ _ _ _=>zm fv) (hk:(a.getD k fS).vu=none/\(a.getD k fS).late=false:=by exact⟨rfl,rfl⟩):sB P n ops W c a f e e0 b w0 ne k (o::l) (d::r):=vf h g hk
def vk {W c:List Nat} {a:List It} {f:World} {k:Nat} {o:Oper} (aC:ak [] f w0) (h:∀(x:Env) (w:World),ak [] f w->dq a c w d λb=>OW P n ops (λe w'=>ak [] w w'/\(a.getD k<|.p λ_ _=>True).F (e<|c.getD k 0) w'/\fM [c.getD k 0] (bf (aY W x e0) b) e) [o] (bf (aY W x e0) b) w) (g:sU P n ops W c a e0 w0 (k+1) l r):sU P n ops W c a e0 w0 k (o::l) (d::r):=vc (λx w hk=>h x w<|ak.trans aC hk) g
def Cn {W b:List Nat} {a:List It} {k:Nat} {o:Oper} (c:sU P n ops W b a e0 w0 (k+1) l r) (h:IH P n ops W b a e0 w0 k o d:=by exact λ_ _ _=>zm pv):sU P n ops W b a e0 w0 k (o::l) (d::r):=⟨h,c⟩
def vcs {W b:List Nat} {a:List It} {k:Nat} {o:Oper} (c:sU P n ops W b a e0 w0 (k+1) l r) (h:IH P n ops W b a e0 w0 k o d:=by exact λ_ _ _=>OC rfl rfl pv):sU P n ops W b a e0 w0 k (o::l) (d::r):=⟨h,c⟩
class FO (P:Program) (S i:Nat) (off:outParam Nat):Prop where h:ie P S i=some off
class O1 (P:Program) (T:Nat):Prop where h:rz P T=true
class OA (P:Program) (T:Nat):Prop where h:uS P T=true
class pI (P:Program) (T:Nat) (sz bytes:outParam Nat) (z:outParam Value):Prop where h:TI P T sz bytes z
class UL (P:Program) (T:Nat) (d:outParam TypeDesc):Prop where h:P.underlying T=some d
instance:OA Tryz.prog 140:=⟨aib⟩
instance:OA Tryz.prog 165:=⟨VX⟩
instance:OA Tryz.prog 30:=⟨DQ⟩
instance:OA Tryz.prog 52:=⟨IJ⟩
instance:OA Tryz.prog 57:=⟨jl⟩
instance:OA Tryz.prog 93:=⟨eU⟩
instance:UL Tryz.prog 59 (.array 40 57):=⟨Gg⟩
instance:UL Tryz.prog 60 (.array 40 4):=⟨DR⟩
instance:UL Tryz.prog 4 .bool:=⟨ail⟩
instance:FO Tryz.prog 140 0 0:=⟨aim⟩
instance:FO Tryz.prog 140 1 1:=⟨ain⟩
instance:FO Tryz.prog 163 0 0:=⟨aio⟩
instance:FO Tryz.prog 163 1 1:=⟨aip⟩
instance:FO Tryz.prog 163 2 2:=⟨aiq⟩
instance:FO Tryz.prog 163 3 3:=⟨air⟩
instance:FO Tryz.prog 163 4 4:=⟨ais⟩
instance:FO Tryz.prog 163 5 5:=⟨ait⟩
instance:FO Tryz.prog 165 0 0:=⟨aiu⟩
instance:FO Tryz.prog 165 1 1:=⟨V0⟩
instance:FO Tryz.prog 165 10 11:=⟨aiv⟩
instance:FO Tryz.prog 165 2 2:=⟨aiw⟩
instance:FO Tryz.prog 165 3 3:=⟨LA⟩
instance:FO Tryz.prog 165 4 4:=⟨aix⟩
instance:FO Tryz.prog 165 5 5:=⟨aiy⟩
instance:FO Tryz.prog 165 6 6:=⟨aiz⟩
instance:FO Tryz.prog 165 7 7:=⟨V2⟩
instance:FO Tryz.prog 165 8 9:=⟨V3⟩
instance:FO Tryz.prog 165 9 10:=⟨aiA⟩
instance:FO Tryz.prog 199 0 0:=⟨aiB⟩
instance:FO Tryz.prog 199 1 1:=⟨aiC⟩
instance:FO Tryz.prog 199 2 2:=⟨aiD⟩
instance:FO Tryz.prog 199 3 3:=⟨aiE⟩
instance:FO Tryz.prog 230 0 0:=⟨aiF⟩
instance:FO Tryz.prog 230 1 1:=⟨aiG⟩
instance:FO Tryz.prog 30 0 0:=⟨Px⟩
instance:FO Tryz.prog 30 1 1:=⟨LB⟩
instance:FO Tryz.prog 30 2 2:=⟨B2⟩
instance:FO Tryz.prog 52 0 0:=⟨aiH⟩
instance:FO Tryz.prog 52 1 1:=⟨V4⟩
instance:FO Tryz.prog 52 2 2:=⟨V5⟩
instance:FO Tryz.prog 57 0 0:=⟨Py⟩
instance:FO Tryz.prog 57 1 1:=⟨Aj⟩
instance:FO Tryz.prog 62 0 0:=⟨aiI⟩
instance:FO Tryz.prog 62 1 80:=⟨aiJ⟩
instance:FO Tryz.prog 62 2 120:=⟨aiK⟩
instance:FO Tryz.prog 62 3 121:=⟨aiL⟩
instance:FO Tryz.prog 75 0 0:=⟨aiM⟩
instance:FO Tryz.prog 75 1 1:=⟨V6⟩
instance:FO Tryz.prog 93 0 0:=⟨lr⟩
instance:FO Tryz.prog 93 1 1:=⟨jO⟩
instance:pI Tryz.prog 140 2 48 (.agg #[.slice none 0 0,.slice none 0 0]):=⟨DS⟩
instance:pI Tryz.prog 161 1 24 (.slice none 0 0):=⟨LC⟩
instance:pI Tryz.prog 165 12 216 (.agg #[.string ⟨#[]⟩,.slice none 0 0,.int .i64 0,.slice none 0 0,.slice none 0 0,.slice none 0 0,.slice none 0 0,.string ⟨#[]⟩,.slice none 0 0,.int .i64 0,.string ⟨#[]⟩,.int .i64 0]):=⟨o3⟩
instance:pI Tryz.prog 23 1 24 (.slice none 0 0):=⟨V7⟩
instance:pI Tryz.prog 28 1 24 (.slice none 0 0):=⟨o4⟩
instance:pI Tryz.prog 3 1 8 (.int .i64 0):=⟨sV⟩
instance:pI Tryz.prog 30 3 64 (.agg #[.string ⟨#[]⟩,.slice none 0 0,.slice none 0 0]):=⟨jf⟩
instance:pI Tryz.prog 4 1 1 (.bool false):=⟨yN⟩
instance:pI Tryz.prog 5 1 1 (.int .u8 0):=⟨IK⟩
instance:pI Tryz.prog 50 1 24 (.slice none 0 0):=⟨IL⟩
instance:pI Tryz.prog 52 3 64 (.agg #[.string ⟨#[]⟩,.slice none 0 0,.slice none 0 0]):=⟨p6⟩
instance:pI Tryz.prog 57 2 40 (.agg #[.string ⟨#[]⟩,.slice none 0 0]):=⟨cv⟩
instance:pI Tryz.prog 77 1 24 (.slice none 0 0):=⟨V8⟩
instance:pI Tryz.prog 88 2 32 (.agg #[.pointer none,.slice none 0 0]):=⟨Pz⟩
instance:pI Tryz.prog 9 1 16 (.string ⟨#[]⟩):=⟨bz⟩
instance:pI Tryz.prog 91 1 24 (.slice none 0 0):=⟨DT⟩
instance:pI Tryz.prog 93 2 40 (.agg #[.string ⟨#[]⟩,.slice none 0 0]):=⟨aK⟩
instance:UL Tryz.prog 142 (.int .u64):=⟨LD⟩
instance:UL Tryz.prog 3 (.int .i64):=⟨yO⟩
instance:UL Tryz.prog 5 (.int .u8):=⟨Ak⟩
instance:O1 Tryz.prog 161:=⟨aiN⟩
instance:O1 Tryz.prog 22:=⟨aiO⟩
instance:O1 Tryz.prog 23:=⟨aiP⟩
instance:O1 Tryz.prog 28:=⟨pD⟩
instance:O1 Tryz.prog 3:=⟨IM⟩
instance:O1 Tryz.prog 4:=⟨Gi⟩
instance:O1 Tryz.prog 5:=⟨aiQ⟩
instance:O1 Tryz.prog 50:=⟨sW⟩
instance:O1 Tryz.prog 55:=⟨PA⟩
instance:O1 Tryz.prog 77:=⟨aiR⟩
instance:O1 Tryz.prog 9:=⟨fA⟩
instance:O1 Tryz.prog 91:=⟨jg⟩
instance:UL Tryz.prog 161 (.slice 165):=⟨B3⟩
instance:UL Tryz.prog 22 (.slice 5):=⟨DU⟩
instance:UL Tryz.prog 23 (.slice 30):=⟨my⟩
instance:UL Tryz.prog 28 (.slice 9):=⟨bB⟩
instance:UL Tryz.prog 46 (.slice 52):=⟨Gj⟩
instance:UL Tryz.prog 50 (.slice 57):=⟨iX⟩
instance:UL Tryz.prog 77 (.slice 3):=⟨DV⟩
instance:UL Tryz.prog 91 (.slice 93):=⟨cH⟩
instance:UL Tryz.prog 9 .string:=⟨jm⟩
section
variable {P:Program} {n:Nat} {ops:Array Oper} {K:Env->World->Prop} {rest:List Oper} {e:Env} {w:World}
 {dst:Option Nat} {ty:TypeId} {pos:String} {after:Array Edge} {g:Option (Nat×Bool)} {x y:Operand} {T T' E:TypeId}
def wN {a:Addr} (k:OW P n ops K rest (cC e dst (.pointer<|some a)) w) (d:ev e x= .pointer (some a):=by rfl) (c:gate ops e g=true:=by rfl) (b:cN n dst=true:=by rfl):OW P n ops K (⟨dst,.nilCheck x,ty,pos,after,g⟩::rest) e w:=HY c b d k
def wF {S:Nat} [hS:FO P S i off] (k:OW P n ops K rest (cC e dst (.pointer<|some ⟨b,o+off,none⟩)) w) (d:ev e x= .pointer (some ⟨b,o,none⟩):=by rfl) (c:gate ops e g=true:=by rfl) (a:cN n dst=true:=by rfl):
  OW P n ops K (⟨dst,.fieldAddr S x i,ty,pos,after,g⟩::rest) e w:=Ul hS.h c a d k
def wB {U:Nat} [hT:O1 P T] (k:OW P n ops K rest (cC e dst v) w) (f:ev e x= .pointer (some ⟨b,o,none⟩):=by rfl) (hb:aL w b vs.toArray U:=by first|with_reducible assumption|exact eJ.jh (by with_reducible assumption)|assumption) (a:vs[o]?=some v:=by rfl) (d:gate ops e g=true:=by rfl) (c:cN n dst=true:=by rfl):
  OW P n ops K (⟨dst,.load T x,ty,pos,after,g⟩::rest) e w:=zl hT.h f (hb.at a) k d c
def wM {U:Nat} [hT:OA P T] [ll:pI P T sz bytes z] (k:OW P n ops K rest (cC e dst<|.agg vs.toArray) w) (f:ev e x= .pointer (some ⟨b,0,none⟩):=by rfl) (hb:aL w b vs.toArray U:=by first|with_reducible assumption|exact eJ.jh (by with_reducible assumption)|assumption) (d:vs.length=sz:=by rfl) (c:gate ops e g=true:=by rfl) (a:cN n dst=true:=by rfl):
  OW P n ops K (⟨dst,.load T x,ty,pos,after,g⟩::rest) e w:=zL hT.h ll.h f hb.all d k c a
def wC [hT:O1 P T] (k:OW P n ops K rest (cC e dst v) w) (f:ev e x= .pointer (some ⟨b,o,none⟩):=by rfl) (hb:gj w b o vs:=by first|with_reducible assumption|exact gD.cells (by with_reducible assumption)|assumption) (a:vs[0]?=some v:=by rfl) (d:gate ops e g=true:=by rfl) (c:cN n dst=true:=by rfl):
  OW P n ops K (⟨dst,.load T x,ty,pos,after,g⟩::rest) e w:=zl hT.h f (hb 0 _ a) k d c
def wD [hT:O1 P T] (k:OW P n ops K rest (cC e dst v) w) (f:ev e x= .pointer (some ⟨b,o+1,none⟩):=by rfl) (hb:gj w b o vs:=by first|with_reducible assumption|exact gD.cells (by with_reducible assumption)|assumption) (a:vs[1]?=some v:=by rfl) (d:gate ops e g=true:=by rfl) (c:cN n dst=true:=by rfl):
  OW P n ops K (⟨dst,.load T x,ty,pos,after,g⟩::rest) e w:=zl hT.h f (hb 1 _ a) k d c
def wE [hT:OA P T] [ll:pI P T sz bytes z] (k:OW P n ops K rest (cC e dst<|.agg vs.toArray) w) (f:ev e x= .pointer (some ⟨b,o,none⟩):=by rfl) (hb:gj w b o vs:=by first|with_reducible assumption|exact gD.cells (by with_reducible assumption)|assumption) (d:vs.length=sz:=by rfl) (c:gate ops e g=true:=by rfl) (a:cN n dst=true:=by rfl):
  OW P n ops K (⟨dst,.load T x,ty,pos,after,g⟩::rest) e w:=zL hT.h ll.h f hb d k c a
def wi {len a:Nat} {m:IntKind} [hT:UL P T (.slice E)] [hE:pI P E sz bytes z] (k:OW P n ops K rest (cC e dst (.pointer<|some ⟨b,o+i*sz,none⟩)) w) (j:ev e x= .slice (some ⟨b,o,none⟩) len a:=by rfl) (l:ev e y= .int m (i:Int):=by rfl) (f:i<len:=by omega) 
  (d:gate ops e g=true:=by rfl) (c:cN n dst=true:=by rfl):OW P n ops K (⟨dst,.indexAddr T x y,ty,pos,after,g⟩::rest) e w:=Um hT.h hE.h d c j l f k
def wp {t:Bool} (k:OW P n ops K rest (cC e dst<|bif t then ev e x else ev e y) w) (a:ev e c= .bool t:=by rfl) (d:gate ops e g=true:=by rfl) (b:cN n dst=true:=by rfl):OW P n ops K (⟨dst,.pick c x y,ty,pos,after,g⟩::rest) e w:=Uh d b a k
def wx (k:OW P n ops K rest (cC e dst v) w) (d:ev e x= .tuple vs.toArray:=by rfl) (c:vs[i]?=some v:=by rfl) (b:gate ops e g=true:=by rfl) (a:cN n dst=true:=by rfl):
  OW P n ops K (⟨dst,.extract x i,ty,pos,after,g⟩::rest) e w:=Un b a d c k
def Co {b:Int} (c:OW P n ops K rest (cC e dst<|.bool (decide<|a=b)) w) (hx:ev e x= .int k a:=by rfl) (hy:ev e y= .int k' b:=by rfl) (hk:k=k':=by rfl) (hg:gate ops e g=true:=by rfl) (hd:cN n dst=true:=by rfl):OW P n ops K (⟨dst,.binOp .eql T x y T',ty,pos,after,g⟩::rest) e w:=yB (hg:=hg) (hd:=hd) (hx:=hx) (hy:=hy) (hk:=hk) (c:=c)
def Cp {b:Int} (c:OW P n ops K rest (cC e dst<|.bool (decide<|a≠b)) w) (hx:ev e x= .int k a:=by rfl) (hy:ev e y= .int k' b:=by rfl) (hk:k=k':=by rfl) (hg:gate ops e g=true:=by rfl) (hd:cN n dst=true:=by rfl):OW P n ops K (⟨dst,.binOp .neq T x y T',ty,pos,after,g⟩::rest) e w:=H0 (hg:=hg) (hd:=hd) (hx:=hx) (hy:=hy) (hk:=hk) (c:=c)
def Cq {b:Int} (c:OW P n ops K rest (cC e dst<|.bool (decide<|a<b)) w) (hx:ev e x= .int k a:=by rfl) (hy:ev e y= .int k' b:=by rfl) (hk:k=k':=by rfl) (hg:gate ops e g=true:=by rfl) (hd:cN n dst=true:=by rfl):OW P n ops K (⟨dst,.binOp .lss T x y T',ty,pos,after,g⟩::rest) e w:=KZ (hg:=hg) (hd:=hd) (hx:=hx) (hy:=hy) (hk:=hk) (c:=c)
def Cr {b:Int} (c:OW P n ops K rest (cC e dst<|.bool (decide<|a<=b)) w) (hx:ev e x= .int k a:=by rfl) (hy:ev e y= .int k' b:=by rfl) (hk:k=k':=by rfl) (hg:gate ops e g=true:=by rfl) (hd:cN n dst=true:=by rfl):OW P n ops K (⟨dst,.binOp .leq T x y T',ty,pos,after,g⟩::rest) e w:=adr (hg:=hg) (hd:=hd) (hx:=hx) (hy:=hy) (hk:=hk) (c:=c)
def Cs {b:Int} (c:OW P n ops K rest (cC e dst<|.bool (decide<|b<a)) w) (hx:ev e x= .int k a:=by rfl) (hy:ev e y= .int k' b:=by rfl) (hk:k=k':=by rfl) (hg:gate ops e g=true:=by rfl) (hd:cN n dst=true:=by rfl):OW P n ops K (⟨dst,.binOp .gtr T x y T',ty,pos,after,g⟩::rest) e w:=HZ (hg:=hg) (hd:=hd) (hx:=hx) (hy:=hy) (hk:=hk) (c:=c)
def Ct {b:Int} (c:OW P n ops K rest (cC e dst<|.bool (decide<|b<=a)) w) (hx:ev e x= .int k a:=by rfl) (hy:ev e y= .int k' b:=by rfl) (hk:k=k':=by rfl) (hg:gate ops e g=true:=by rfl) (hd:cN n dst=true:=by rfl):OW P n ops K (⟨dst,.binOp .geq T x y T',ty,pos,after,g⟩::rest) e w:=ads (hg:=hg) (hd:=hd) (hx:=hx) (hy:=hy) (hk:=hk) (c:=c)
def Cu {a b:List UInt8} (c:OW P n ops K rest (cC e dst<|.bool (decide<|a=b)) w) (hx:ev e x=str a:=by rfl) (hy:ev e y=str b:=by rfl) (hg:gate ops e g=true:=by rfl) (hd:cN n dst=true:=by rfl):OW P n ops K (⟨dst,.binOp .eql T x y T',ty,pos,after,g⟩::rest) e w:=BG (hg:=hg) (hd:=hd) (hx:=hx) (hy:=hy) (c:=c)
def Cv {a b:List UInt8} (c:OW P n ops K rest (cC e dst<|.bool (decide<|a≠b)) w) (hx:ev e x=str a:=by rfl) (hy:ev e y=str b:=by rfl) (hg:gate ops e g=true:=by rfl) (hd:cN n dst=true:=by rfl):OW P n ops K (⟨dst,.binOp .neq T x y T',ty,pos,after,g⟩::rest) e w:=OH (hg:=hg) (hd:=hd) (hx:=hx) (hy:=hy) (c:=c)
def Cw {b:Bool} (c:OW P n ops K rest (cC e dst (.bool<|!b)) w) (hx:ev e x= .bool b:=by rfl) (hg:gate ops e g=true:=by rfl) (hd:cN n dst=true:=by rfl):OW P n ops K (⟨dst,.unOp .not T x,ty,pos,after,g⟩::rest) e w:=jU (hg:=hg) (hd:=hd) (hx:=hx) (c:=c)
def Cx {a b:Bool} [hT:UL P T .bool] (c:OW P n ops K rest (cC e dst (.bool<|a==b)) w) (hx:ev e x= .bool a:=by rfl) (hy:ev e y= .bool b:=by rfl) (hg:gate ops e g=true:=by rfl) (hd:cN n dst=true:=by rfl):OW P n ops K (⟨dst,.binOp .eql T x y T',ty,pos,after,g⟩::rest) e w:=adt (hT:=hT.h) (hg:=hg) (hd:=hd) (hx:=hx) (hy:=hy) (c:=c)
def Cy {a b:Bool} [hT:UL P T .bool] (c:OW P n ops K rest (cC e dst (.bool<|!(a==b))) w) (hx:ev e x= .bool a:=by rfl) (hy:ev e y= .bool b:=by rfl) (hg:gate ops e g=true:=by rfl) (hd:cN n dst=true:=by rfl):OW P n ops K (⟨dst,.binOp .neq T x y T',ty,pos,after,g⟩::rest) e w:=adu (hT:=hT.h) (hg:=hg) (hd:=hd) (hx:=hx) (hy:=hy) (c:=c)
def Cz {T E:TypeId} {x:Operand} {a:Option Addr} {b:Nat} [hT:UL P T (.slice E)] (k:OW P n ops K rest (cC e dst<|.int .i64 m) w) (hx:ev e x= .slice a m b:=by rfl) (hg:gate ops e g=true:=by rfl) (hd:cN n dst=true:=by rfl):OW P n ops K (⟨dst,.call {callee:=.builtin .len,args:=#[x],argTypes:=#[T]},ty,pos,after,g⟩::rest) e w:=KY (hT:=hT.h) (hg:=hg) (hd:=hd) (hx:=hx) (k:=k)
def CA {a:List UInt8} [hT:UL P T .string] (k:OW P n ops K rest (cC e dst<|.int .i64 (a.length:Nat)) w) (hx:ev e x=str a:=by rfl) (hg:gate ops e g=true:=by rfl) (hd:cN n dst=true:=by rfl):OW P n ops K (⟨dst,.call {callee:=.builtin .len,args:=#[x],argTypes:=#[T]},ty,pos,after,g⟩::rest) e w:=adx (hT:=hT.h) (hg:=hg) (hd:=hd) (hx:=hx) (k:=k)
def CB {b c:Int} (c':OW P n ops K rest (cC e dst<|.int k c) w) (hx:ev e x= .int k a:=by rfl) (hy:ev e y= .int k' b:=by rfl) (hk:k=k':=by rfl) (hc:k.wrap (a+b)=c:=by exact wrap_i64 _ om om) (hg:gate ops e g=true:=by rfl) (hd:cN n dst=true:=by rfl):OW P n ops K (⟨dst,.binOp .add T x y T',ty,pos,after,g⟩::rest) e w:=oU (hg:=hg) (hd:=hd) (hx:=hx) (hy:=hy) (hk:=hk) (hc:=hc) (c':=c')
def D6 {b c:Int} (c':OW P n ops K rest (cC e dst<|.int k c) w) (hx:ev e x= .int k a:=by rfl) (hy:ev e y= .int k' b:=by rfl) (hk:k=k':=by rfl) (hc:k.wrap (a-b)=c:=by exact wrap_i64 _ om om) (hg:gate ops e g=true:=by rfl) (hd:cN n dst=true:=by rfl):OW P n ops K (⟨dst,.binOp .sub T x y T',ty,pos,after,g⟩::rest) e w:=yC (hg:=hg) (hd:=hd) (hx:=hx) (hy:=hy) (hk:=hk) (hc:=hc) (c':=c')
def D7 {b c:Int} (c':OW P n ops K rest (cC e dst<|.int k c) w) (hx:ev e x= .int k a:=by rfl) (hy:ev e y= .int k' b:=by rfl) (hk:k=k':=by rfl) (hc:k.wrap (a*b)=c:=by exact wrap_i64 _ om om) (hg:gate ops e g=true:=by rfl) (hd:cN n dst=true:=by rfl):OW P n ops K (⟨dst,.binOp .mul T x y T',ty,pos,after,g⟩::rest) e w:=H2 (hg:=hg) (hd:=hd) (hx:=hx) (hy:=hy) (hk:=hk) (hc:=hc) (c':=c')
def D8 {a b:List UInt8} (c:OW P n ops K rest (cC e dst (str<|a++b)) w) (hx:ev e x=str a:=by rfl) (hy:ev e y=str b:=by rfl) (hs:a.length+b.length<=9223372036854775807:=by(simp;omega)) (hg:gate ops e g=true:=by rfl) (hd:cN n dst=true:=by rfl):OW P n ops K (⟨dst,.binOp .add T x y T',ty,pos,after,g⟩::rest) e w:=Uo (hg:=hg) (hd:=hd) (hx:=hx) (hy:=hy) (hs:=hs) (c:=c)
end
def bQ {e f a b:Prop} (k:ak [] w w') (ta:e) (g:f) (y:a->b->p) (c:ak [] w w'->e->a:=by intro k h;exact h.ext k) (d:ak [] w w'->f->b:=by intro k h;exact h.ext k):p:=y (c k ta)<|d k g
def cV {g i j a b c:Prop} (k:ak [] w w') (ta:g) (l:i) (m:j) (y:a->b->c->p) (d:ak [] w w'->g->a:=by intro k h;exact h.ext k) (e:ak [] w w'->i->b:=by intro k h;exact h.ext k) (f:ak [] w w'->j->c:=by intro k h;exact h.ext k):p:=y (d k ta) (e k l)<|f k m
def gY {j l m n a b c d:Prop} (k:ak [] w w') (ta:j) (o:l) (q:m) (r:n) (y:a->b->c->d->p) (e:ak [] w w'->j->a:=by intro k h;exact h.ext k) (f:ak [] w w'->l->b:=by intro k h;exact h.ext k) (g:ak [] w w'->m->c:=by intro k h;exact h.ext k) (i:ak [] w w'->n->d:=by intro k h;exact h.ext k):p:=y (e k ta) (f k o) (g k q)<|i k r
def kB {m n o q r a b c d e:Prop} (k:ak [] w w') (ta:m) (s:n) (t:o) (u:q) (v:r) (y:a->b->c->d->e->p) (f:ak [] w w'->m->a:=by intro k h;exact h.ext k) (g:ak [] w w'->n->b:=by intro k h;exact h.ext k) (i:ak [] w w'->o->c:=by intro k h;exact h.ext k) (j:ak [] w w'->q->d:=by intro k h;exact h.ext k) (l:ak [] w w'->r->e:=by intro k h;exact h.ext k):p:=y (f k ta) (g k s) (i k t) (j k u)<|l k v
def uk {o q r s t u a b c d e f:Prop} (k:ak [] w w') (ta:o) (v:q) (z:r) (A:s) (B:t) (C:u) (y:a->b->c->d->e->f->p) (g:ak [] w w'->o->a:=by intro k h;exact h.ext k) (i:ak [] w w'->q->b:=by intro k h;exact h.ext k) (j:ak [] w w'->r->c:=by intro k h;exact h.ext k) (l:ak [] w w'->s->d:=by intro k h;exact h.ext k) (m:ak [] w w'->t->e:=by intro k h;exact h.ext k) (n:ak [] w w'->u->f:=by intro k h;exact h.ext k):p:=y (g k ta) (i k v) (j k z) (l k A) (m k B)<|n k C
def GA {r s t u v z A a b c d e f g:Prop} (k:ak [] w w') (ta:r) (B:s) (C:t) (D:u) (E:v) (F:z) (H:A) (y:a->b->c->d->e->f->g->p) (i:ak [] w w'->r->a:=by intro k h;exact h.ext k) (j:ak [] w w'->s->b:=by intro k h;exact h.ext k) (l:ak [] w w'->t->c:=by intro k h;exact h.ext k) (m:ak [] w w'->u->d:=by intro k h;exact h.ext k) (n:ak [] w w'->v->e:=by intro k h;exact h.ext k) (o:ak [] w w'->z->f:=by intro k h;exact h.ext k) (q:ak [] w w'->A->g:=by intro k h;exact h.ext k):p:=y (i k ta) (j k B) (l k C) (m k D) (n k E) (o k F)<|q k H
def D9 {t u v z A B C D a b c d e f g i:Prop} (k:ak [] w w') (ta:t) (E:u) (F:v) (H:z) (I:A) (J:B) (K:C) (L:D) (y:a->b->c->d->e->f->g->i->p) (j:ak [] w w'->t->a:=by intro k h;exact h.ext k) (l:ak [] w w'->u->b:=by intro k h;exact h.ext k) (m:ak [] w w'->v->c:=by intro k h;exact h.ext k) (n:ak [] w w'->z->d:=by intro k h;exact h.ext k) (o:ak [] w w'->A->e:=by intro k h;exact h.ext k) (q:ak [] w w'->B->f:=by intro k h;exact h.ext k) (r:ak [] w w'->C->g:=by intro k h;exact h.ext k) (s:ak [] w w'->D->i:=by intro k h;exact h.ext k):p:=y (j k ta) (l k E) (m k F) (n k H) (o k I) (q k J) (r k K)<|s k L
def ajJ {v z A B C D E F H a b c d e f g i j:Prop} (k:ak [] w w') (ta:v) (I:z) (J:A) (K:B) (L:C) (M:D) (N:E) (O:F) (P:H) (y:a->b->c->d->e->f->g->i->j->p) (l:ak [] w w'->v->a:=by intro k h;exact h.ext k) (m:ak [] w w'->z->b:=by intro k h;exact h.ext k) (n:ak [] w w'->A->c:=by intro k h;exact h.ext k) (o:ak [] w w'->B->d:=by intro k h;exact h.ext k) (q:ak [] w w'->C->e:=by intro k h;exact h.ext k) (r:ak [] w w'->D->f:=by intro k h;exact h.ext k) (s:ak [] w w'->E->g:=by intro k h;exact h.ext k) (t:ak [] w w'->F->i:=by intro k h;exact h.ext k) (u:ak [] w w'->H->j:=by intro k h;exact h.ext k):p:=y (l k ta) (m k I) (n k J) (o k K) (q k L) (r k M) (s k N) (t k O)<|u k P
structure Hd (q:Prop):Prop where out:q
def W (k:q) (h:Hd q->p:=by intro k;(repeat(first|refine zm ?_|refine zA ?_|refine zr ?_|refine aX ?_|refine zs ?_|refine wF ?_|refine wB ?_|refine wC ?_|refine wD ?_|refine wM ?_|refine wE ?_|refine wN ?_|refine wp ?_|refine wx ?_|refine jF ?_|refine iH ?_|refine mX ?_|refine tV ?_|refine Co ?_|refine Cp ?_|refine Cq ?_|refine Cr ?_|refine Cs ?_|refine Ct ?_|refine Cu ?_|refine Cv ?_|refine Cw ?_|refine Cz ?_|refine CA ?_|refine Cx ?_|refine Cy ?_|refine wi ?_|refine CB ?_|refine D6 ?_|refine D7 ?_|refine D8 ?_|refine lO ?_|refine BD ?_|refine BE rfl ?_|refine F0 rfl ?_));exact k.out):p:=h ⟨k⟩
def WL (k:q) (h:Hd q->p:=by intro k;(repeat(first|refine zm ?_|refine zA ?_|refine zr ?_|refine aX ?_|refine zs ?_|refine wF ?_|refine wN ?_|refine wp ?_|refine wx ?_|refine jF ?_|refine iH ?_|refine mX ?_|refine tV ?_|refine Co ?_|refine Cp ?_|refine Cq ?_|refine Cr ?_|refine Cs ?_|refine Ct ?_|refine Cu ?_|refine Cv ?_|refine Cw ?_|refine Cz ?_|refine CA ?_|refine Cx ?_|refine Cy ?_|refine wi ?_|refine CB ?_|refine D6 ?_|refine D7 ?_|refine D8 ?_|refine lO ?_|refine BD ?_|refine BE rfl ?_|refine F0 rfl ?_));exact k.out):p:=h ⟨k⟩
def WI (k:q) (h:Hd q->p:=by intro k;(repeat(first|refine zm ?_|refine zA ?_|refine zr ?_|refine aX ?_|refine zs ?_|refine wF ?_|refine wB ?_|refine wC ?_|refine wD ?_|refine wM ?_|refine wE ?_|refine wN ?_|refine wp ?_|refine wx ?_|refine jF ?_|refine iH ?_|refine mX ?_|refine tV ?_|refine Co ?_|refine Cp ?_|refine Cq ?_|refine Cr ?_|refine Cs ?_|refine Ct ?_|refine Cu ?_|refine Cv ?_|refine Cw ?_|refine Cz ?_|refine CA ?_|refine Cx ?_|refine Cy ?_|refine CB ?_|refine D6 ?_|refine D7 ?_|refine D8 ?_|refine lO ?_|refine BD ?_|refine BE rfl ?_|refine F0 rfl ?_));exact k.out):p:=h ⟨k⟩
def WA (k:q) (h:Hd q->p:=by intro k;(repeat(first|refine zm ?_|refine zA ?_|refine zr ?_|refine aX ?_|refine zs ?_|refine wF ?_|refine wB ?_|refine wC ?_|refine wD ?_|refine wM ?_|refine wE ?_|refine wN ?_|refine wp ?_|refine wx ?_|refine jF ?_|refine iH ?_|refine mX ?_|refine tV ?_|refine Co ?_|refine Cp ?_|refine Cq ?_|refine Cr ?_|refine Cs ?_|refine Ct ?_|refine Cu ?_|refine Cv ?_|refine Cw ?_|refine Cz ?_|refine CA ?_|refine Cx ?_|refine Cy ?_|refine wi ?_|refine D8 ?_|refine lO ?_|refine BD ?_|refine BE rfl ?_|refine F0 rfl ?_));exact k.out):p:=h ⟨k⟩
def WS (k:q) (h:Hd q->p:=by intro k;(repeat(first|refine zm ?_|refine zA ?_|refine zr ?_|refine aX ?_|refine zs ?_|refine wF ?_|refine wB ?_|refine wC ?_|refine wD ?_|refine wM ?_|refine wE ?_|refine wN ?_|refine wp ?_|refine wx ?_|refine jF ?_|refine iH ?_|refine mX ?_|refine tV ?_|refine Co ?_|refine Cp ?_|refine Cq ?_|refine Cr ?_|refine Cs ?_|refine Ct ?_|refine Cu ?_|refine Cv ?_|refine Cw ?_|refine Cz ?_|refine CA ?_|refine Cx ?_|refine Cy ?_|refine wi ?_|refine CB ?_|refine D6 ?_|refine D7 ?_|refine lO ?_|refine BD ?_|refine BE rfl ?_|refine F0 rfl ?_));exact k.out):p:=h ⟨k⟩
def WZ (k:q) (h:Hd q->p:=by intro k;(repeat(first|refine zm ?_|refine zA ?_|refine zr ?_|refine zs ?_|refine wF ?_|refine wB ?_|refine wC ?_|refine wD ?_|refine wM ?_|refine wE ?_|refine wN ?_|refine wp ?_|refine wx ?_|refine jF ?_|refine iH ?_|refine mX ?_|refine tV ?_|refine Co ?_|refine Cp ?_|refine Cq ?_|refine Cr ?_|refine Cs ?_|refine Ct ?_|refine Cu ?_|refine Cv ?_|refine Cw ?_|refine Cz ?_|refine CA ?_|refine Cx ?_|refine Cy ?_|refine wi ?_|refine CB ?_|refine D6 ?_|refine D7 ?_|refine D8 ?_|refine lO ?_|refine BD ?_|refine BE rfl ?_|refine F0 rfl ?_));exact k.out):p:=h ⟨k⟩
def oM {D:List Nat} {e a:Env} (b:p) (c:q) (h:fM D e a:=by repeat(first|with_reducible exact BH|refine K0 rfl ?_|refine OJ rfl ?_)):fM D e a/\p/\q:=⟨h,b,c⟩
def oQ (h:p:=by refine W ?_;exact oM rfl (by first|rfl|exact ak.refl _ _|assumption)):p:=h
section
variable {P:Program} {n:Nat} {ops:Array Oper} {K:Env->World->Prop} {e:Env} {w:World} {l:List Oper} (m tc tp:Nat) (J:World->Prop) {c r:Bool} {p:Prop}
def oO (f:e tc= .bool c) (d:OW P n ops (λa w'=>fM (List.range' tc<|tp+1-tc) e a/\a tp= .bool true/\J w') (l.take m) (jz e tc<|.bool true) w) [t:wH (c=false) p] 
  (b:p->OW P n ops (λa w'=>fM (List.range' tc<|tp+1-tc) e a/\a tp= .bool r/\J w') (l.take m) (jz e tc<|.bool false) w)
  (k:∀x w',J w'->OW P n ops K (l.drop m) (jz (aY (List.range' tc (tp+1-tc)) x e) tp (.bool (c||r))) w'):OW P n ops K l e w:=
 Dw m tc tp _ J f (λ_=>d) (λh=>b<|t.imp h) k
def oA (f:e tc= .bool c) (b:OW P n ops (λa w'=>fM (List.range' tc<|tp+1-tc) e a/\a tp= .bool false/\J w') (l.take m) (jz e tc<|.bool false) w) [t:wH (c=true) p] 
  (d:p->OW P n ops (λa w'=>fM (List.range' tc<|tp+1-tc) e a/\a tp= .bool r/\J w') (l.take m) (jz e tc<|.bool true) w)
  (k:∀x w',J w'->OW P n ops K (l.drop m) (jz (aY (List.range' tc (tp+1-tc)) x e) tp (.bool (c&&r))) w'):OW P n ops K l e w:=
 OM m tc tp _ J f (λh=>d<|t.imp h) (λ_=>b) k
def oP (f:e tc= .bool c) (d:OW P n ops (λa w'=>fM (List.range' tc<|tp+1-tc) e a/\a tp= .bool true/\w=w') (l.take m) (jz e tc<|.bool true) w) [t:wH (c=false) p] 
  (b:p->OW P n ops (λa w'=>fM (List.range' tc<|tp+1-tc) e a/\a tp= .bool r/\w=w') (l.take m) (jz e tc<|.bool false) w)
  (k:∀x,OW P n ops K (l.drop m) (jz (aY (List.range' tc (tp+1-tc)) x e) tp (.bool (c||r))) w):OW P n ops K l e w:=
 Dw m tc tp _ (w=·) f (λ_=>d) (λh=>b<|t.imp h) λx _ g=>g▸k x
def oB (f:e tc= .bool c) (b:OW P n ops (λa w'=>fM (List.range' tc<|tp+1-tc) e a/\a tp= .bool false/\w=w') (l.take m) (jz e tc<|.bool false) w) [t:wH (c=true) p] 
  (d:p->OW P n ops (λa w'=>fM (List.range' tc<|tp+1-tc) e a/\a tp= .bool r/\w=w') (l.take m) (jz e tc<|.bool true) w)
  (k:∀x,OW P n ops K (l.drop m) (jz (aY (List.range' tc (tp+1-tc)) x e) tp (.bool (c&&r))) w):OW P n ops K l e w:=
 OM m tc tp _ (w=·) f (λh=>d<|t.imp h) (λ_=>b) λx _ g=>g▸k x
end
abbrev it (l:List Value):List It:=l.map It.v
def dV {n:Nat} {l:List Oper} {N R:Env->World->Prop} {X:Nat->Env->World->Prop} {id:Nat} {e:Env} {f:World} (p:P.follows .mixedOrders=true) (m:Nat) (c:List Nat) (a:List (List Nat)) (b:List It) 
  (i:vY l m c c a=true) (j:b.all It.IG=true)
  (o:∀g,ak [] f g->sU P n l.toArray c c b e g 0 (l.take m) a)
  (q:∀(x:Env) (w:World),ak [] f w->dq b c w (List.range m) λd=>OW P n l.toArray N (l.drop m) (bf (aY c x e) d) w):
  CW P n (.region id l.toArray true) N R X e f:=jN p m c c a b i j o q
section
variable {P:Program} {n:Nat} {ops:Array Oper} {W ds:List Nat} {e0:Env} {wz w0:World} {k:Nat} {o:Oper} {l:List Oper} {d:List Nat} {r:List (List Nat)}
def V1 {a:List It} (aC:ak [] wz w0) (b:sU P n ops W ds a e0 w0 (k+1) l r) (h:IH P n ops W ds a e0 w0 k o d:=by intro x w hk;first|exact zm pv|exact zA pv|exact zs pv|exact wF pv|exact wB pv (hb:=aL.ext (by first|with_reducible assumption|assumption)<|ak.trans aC hk)|exact wB pv (hb:=eJ.jh (eJ.ext (by first|with_reducible assumption|assumption)<|ak.trans aC hk))|exact wM pv (hb:=aL.ext (by first|with_reducible assumption|assumption)<|ak.trans aC hk)|exact wM pv (hb:=eJ.jh (eJ.ext (by first|with_reducible assumption|assumption)<|ak.trans aC hk))|exact wC pv (hb:=gj.ext (by first|with_reducible assumption|assumption)<|ak.trans aC hk)|exact wC pv (hb:=gD.cells (gD.ext (by first|with_reducible assumption|assumption)<|ak.trans aC hk))|exact wD pv (hb:=gj.ext (by first|with_reducible assumption|assumption)<|ak.trans aC hk)|exact wD pv (hb:=gD.cells (gD.ext (by first|with_reducible assumption|assumption)<|ak.trans aC hk))|exact wE pv (hb:=gj.ext (by first|with_reducible assumption|assumption)<|ak.trans aC hk)|exact wE pv (hb:=gD.cells (gD.ext (by first|with_reducible assumption|assumption)<|ak.trans aC hk))|exact wN pv|(refine wp ?_;exact pv)|exact wx pv|exact Co pv|exact Cp pv|exact Cq pv|exact Cr pv|exact Cs pv|exact Ct pv|exact Cu pv|exact Cv pv|exact Cw pv|exact Cz pv|exact CA pv|exact Cx pv|exact Cy pv|exact wi pv|exact CB pv|exact D6 pv|exact D7 pv|exact D8 pv):sU P n ops W ds a e0 w0 k (o::l) (d::r):=⟨h,b⟩
def F1 {a:List Ie} {e:List (List Nat->List Value->World->Prop)} {c:(Nat->Bool)->List Nat->List Value->World->Prop} {ne:Nat} {b:List Nat} (f:sB P n ops W ds a e c e0 b w0 ne (k+1) l r) (h:IY P n ops W ds a e0 b w0 k o d:=by intro x w G bm bV xN;first|exact zm fv|exact zA fv|exact zs fv|exact wF fv|exact wB fv (hb:=eJ.jh<|eJ.go (by first|with_reducible assumption|assumption) bV)|exact wM fv (hb:=eJ.jh<|eJ.go (by first|with_reducible assumption|assumption) bV)|exact wC fv (hb:=gD.cells<|gD.go (by first|with_reducible assumption|assumption) bV)|exact wD fv (hb:=gD.cells<|gD.go (by first|with_reducible assumption|assumption) bV)|exact wE fv (hb:=gD.cells<|gD.go (by first|with_reducible assumption|assumption) bV)|exact wN fv|(refine wp ?_;exact fv)|exact wx fv|exact Co fv|exact Cp fv|exact Cq fv|exact Cr fv|exact Cs fv|exact Ct fv|exact Cu fv|exact Cv fv|exact Cw fv|exact Cz fv|exact CA fv|exact Cx fv|exact Cy fv|exact wi fv|exact CB fv|exact D6 fv|exact D7 fv|exact D8 fv) (hk:(a.getD k fS).vu=none/\(a.getD k fS).late=false:=by exact⟨rfl,rfl⟩):sB P n ops W ds a e c e0 b w0 ne k (o::l) (d::r):=vf h f hk
end
def VA (k:q) (h:Hd q->p:=by intro k;(repeat(refine V1 aC ?_));exact k.out):p:=h ⟨k⟩
def VZ (h:p:=by(repeat(refine V1 aC ?_));exact trivial):p:=h
def FZ (h:p:=by(repeat(refine F1 ?_));exact trivial):p:=h
def FA (k:q) (h:Hd q->p:=by intro k;(repeat(refine F1 ?_));exact k.out):p:=h ⟨k⟩
/-! ### Rows of zero values -/
def Xe (z:Array Value):∀n:Nat,(madeCells z (n*z.size)).toList=(List.replicate n z.toList).flatten
 |0=>by simp[madeCells]
 |n+1=>by
  have d:=Xe z n;have e:(madeCells z<|n*z.size).toList=(List.range<|n*z.size).map λi=>z[i%z.size]!:=by simp[madeCells]
  have b:(madeCells z<|(n+1)*z.size).toList=(List.range<|(n+1)*z.size).map λi=>z[i%z.size]!:=by simp[madeCells]
  rw[b,Nat.add_mul,Nat.one_mul,Nat.add_comm,List.range_add,List.map_append,List.replicate_succ,List.flatten_cons,<-d,e]
  congr 1
  .refine List.ext_getElem sm λi c _=>?_;have a:i<z.size:=by simpa using c
   simp[Nat.mod_eq_of_lt a,a]
  .rw[List.map_map];refine List.map_congr_left λi _=>?_;simp
def Xf {zs:List Value} (h:dC L w zs row):∀n:Nat,dC L w (List.replicate n zs).flatten (List.replicate n row).flatten
 |0=>trivial
 |n+1=>by rw[List.replicate_succ,List.replicate_succ,List.flatten_cons,List.flatten_cons];exact h.append<|Xf h n
section
variable {P:Program} {n:Nat} {ops:Array Oper} {K:Env->World->Prop} {rest:List Oper} {e:Env} {w:World}
 {dst:Option Nat} {ty:TypeId} {pos:String} {after:Array Edge} {g:Option (Nat×Bool)} {x y:Operand}
def ajK {zs:List Value} {row:List C} {u s:IntKind} {o p:Int} (B N:Nat) (L:List Nat) (O:P.underlying t=some (.slice E)) (J:TI P E sz bytes z) (R:gate ops e g=true) (Q:cN n dst=true) 
  (m:z.cells=zs.toArray) (A:Nat.beq zs.length sz=true) (U:Nat.ble bytes 1000=true) (c:ev e x= .int u o) (T:ev e y= .int s p) (F:o=(N:Int)) (H:p=(N:Int)) (M:N<=100000000000)
  (q:∀L w,dC L w zs row) (I:B<=w.heap.size) (l:∀x∈L,x<w.heap.size)
  (k:∀w',ak [] w w'->w'.heap.size=w.heap.size+1->Gr B L w' E sz (.slice (some ⟨w.heap.size,0,none⟩) N N) (some w.heap.size) (List.replicate N row)->OW P n ops K rest (cC e dst<|.slice (some ⟨w.heap.size,0,none⟩) N N) w'):
  OW P n ops K (⟨dst,.makeSlice t x y,ty,pos,after,g⟩::rest) e w:=by
 subst F H;obtain⟨i,S,v,D,_⟩:=J.get;have Y:bytes<=1000:=Nat.le_of_ble_eq_true U;have j:zs.length=sz:=Nat.eq_of_beq_eq_true A;have X:z.cells.size=sz:=by rw[m];simpa using j
 have hb:(i.bytes:Int)*(N:Int)<=281474976710656:=by
  have:i.bytes*N<=1000*100000000000:=Nat.mul_le_mul om M;have h:((i.bytes*N:Nat):Int)<=281474976710656:=by omega
  rwa [Int.natCast_mul] at h
 have a:=run_make (P:=P) w t E i z O S v u s (N:Int) (N:Int) om (Int.le_refl _) hb om;simp only[Int.toNat_natCast] at a;have d:=Xe z.cells N;rw[X] at d;have f:z.cells.toList=zs:=by rw[m]
 rw[f] at d;have V:row.length=sz:=by rw[<-(q [] w).length,j]
 refine fY R Q (w':=w.alloc<|.cells (madeCells z.cells<|N*sz) E) (by rw[D] at a;simp[execOp,c,T,a])<|k _ (ak.alloc _ _ _) sm ⟨⟨(List.replicate N zs).flatten,⟨?_,?_,?_,?_⟩⟩,?_,?_,?_⟩
 .rw[List.length_replicate];refine⟨by rw[<-d];simp[size_madeCells],.inr ⟨w.heap.size,N,_,rfl,rfl,aL.alloc _ _ _,lR _,by unfold maxLen;omega,size_madeCells _ _,?_⟩⟩;rw[<-d,List.take_of_length_le (by simp[size_madeCells])]
 .exact Xf (q _ _) N
 .intro r a;rw[(List.mem_replicate.1 a).2];exact V
 .intro b hb c;cases hb;have:=l _ c;omega
 .intro b hb;cases hb;exact I
 .intro x c;have:=l x c;simp;omega
 .simp;omega
/-! ### Elements that are stored -/
def setAt (a:Array Value) (k:Nat):List Value->Array Value
 |[]=>a
 |v::vs=>setAt (a.setIfInBounds k v) (k+1) vs
theorem I7:∀(vs:List Value) (a:Array Value) (k:Nat),(setAt a k vs).size=a.size:=by intro x;induction x<;>grind [setAt]
theorem Mn:∀(vs:List Value) (a:Array Value) (k:Nat),k+vs.length<=a.size->(setAt a k vs).toList=a.toList.take k++(vs++a.toList.drop (k+vs.length))
 |[],a,k,_=>by simp[setAt]
 |v::vs,a,k,h=>by
  unfold setAt;simp only[lC] at h;rw[Mn vs _ _ so,Array.toList_setIfInBounds];have hk:k<a.toList.length:=by simp;omega
  rw[List.take_add_one,List.getElem?_set_self hk,List.take_set_of_le (lR k)];rw[List.drop_set_of_lt om];simp only[Option.toList_some,List.append_assoc,List.cons_append,List.nil_append,lC];rw[show k+1+vs.length=k+(vs.length+1) from by omega]
def Qm:∀(vs:List Value) (i:Nat) (w:World) (b o:Nat) (U:TypeId) (a:Array Value),aL w b a U->o+i+vs.length<=a.size->(∀u∈vs,u.oneCell'=true)->
  ∃w',(storeCells ⟨b,o,none⟩ vs i).run P w= .ok () w'/\ak [b] w w'/\aL w' b (setAt a (o+i) vs) U/\w'.heap.size=w.heap.size
 |[],i,w,b,o,U,a,hb,_,_=>⟨w,rfl,ak.refl _ _,hb,rfl⟩
 |v::vs,i,w,b,o,U,a,hb,hs,h1=>by
  simp only[lC] at hs;have j:o+i<a.size:=by omega
  have c:(store ((⟨b,o,none⟩:Addr).add i) v).run P w= .ok () (w.setCell ⟨b,o+i,none⟩ v):=by rw[xo,run_store P w _ v _<|h1 v sm,hb.cell,Array.getElem?_eq_getElem j,hb.frozen];simp
  obtain⟨w',d,hk,g,f⟩:=Qm vs (i+1) (w.setCell ⟨b,o+i,none⟩ v) b o U (a.setIfInBounds (o+i) v) (hb.set (o+i) v) so λu e=>h1 u (by simp[e]);refine⟨w',?_,(ak.setCell w b (o+i) v).trans hk,g,by rw[f];simp[World.setCell]⟩;simp only[storeCells,Sem.run_bind,c,Result.andThen_ok];exact d
theorem Xh {c:Type}:∀{rows:List (List c)} {i:Nat} {row:List c},(∀r∈rows,r.length=sz)->i<rows.length->row.length=sz->(rows.set i row).flatten=rows.flatten.take (i*sz)++(row++rows.flatten.drop (i*sz+sz))
 |r::rows,0,row,h,_,a=>by have b:r.length=sz:=h r sm;simp[<-b]
 |r::rows,i+1,row,h,hi,a=>by
  have b:r.length=sz:=h r sm;have f:=Xh (rows:=rows) (i:=i) (row:=row) (λr a=>h r<|by simp[a]) (by simpa using hi) a;rw[List.set_cons_succ,List.flatten_cons,List.flatten_cons,f];have d:(i+1)*sz=r.length+i*sz:=by rw[b,Nat.add_mul];omega
  have e:(i+1)*sz+sz=r.length+(i*sz+sz):=by omega
  rw[e,d,List.take_length_add_append,List.drop_length_add_append,List.append_assoc]
theorem dC.take {w:World}:∀{k:Nat} {vs:List Value} {a:List C},dC L w vs a->dC L w (vs.take k) (a.take k)
 |0,_,_,_=>by simp[dC]
 |_+1,[],[],_=>trivial
 |_+1,_::_,_::_,h=>⟨h.1,dC.take h.2⟩
theorem dC.drop {w:World}:∀{k:Nat} {vs:List Value} {a:List C},dC L w vs a->dC L w (vs.drop k) (a.drop k)
 |0,_,_,h=>h
 |_+1,[],[],_=>trivial
 |k+1,_::_,_::_,h=>dC.drop (k:=k) h.2
def Qn {T:Nat} {v:Value} {vs:List Value} {row:List C} {B:Nat} {L:List Nat} {E d:Nat} {N c:Nat} {rows:List (List C)} {b o i:Nat} (ll:TI P T sz bytes z) (R:gate ops e g=true) 
  (s:ev e x= .pointer (some ⟨b,o,none⟩)) (Y:ev e y=v) (X:v.cells=vs.toArray) (S:o=i*sz) (j:Gr B L w E sz (.slice (some ⟨b,0,none⟩) N c) (some d) rows) (D:i<rows.length) (Q:vs.all Value.oneCell'=true)
  (A:row.length=sz) (F:dC (d::L) w vs row)
  (k:∀w',ak [d] w w'->w'.heap.size=w.heap.size->Gr B L w' E sz (.slice (some ⟨b,0,none⟩) N c) (some d) (rows.set i row)->OW P n ops K rest e w'):
  OW P n ops K (⟨none,.store T x y,ty,pos,after,g⟩::rest) e w:=by
 subst S;obtain⟨xs,⟨⟨og,h|⟨_,_,p,qf,O,hb,M,ry,f,U⟩⟩,J,I,m⟩⟩:=j.own
 .obtain⟨h,_⟩:=h;cases h
 .cases O;cases qf;have a:vs.length=sz:=by rw[F.length,A]
  have q:(i+1)*sz<=rows.length*sz:=Nat.mul_le_mul_right _ D;have Xi:rows.length*sz<=c*sz:=Nat.mul_le_mul_right _ M;rw[Nat.add_mul,Nat.one_mul] at q;obtain⟨w',Z,hk,H,t⟩:=Qm (P:=P) vs 0 w d (i*sz) E p hb (by rw[f,a];omega) λu V=>List.all_eq_true.1 Q u V;rw[Nat.add_zero] at H;refine KX R (w':=w') (by simp[execOp,Instr.storeAt,Instr.sureAddr,s,Y,storeVar,X,ll.uR,a,Z])<|k w' hk t ⟨⟨xs.take (i*sz)++(vs++xs.drop (i*sz+sz)),⟨⟨?_,.inr ⟨d,c,_,rfl,sm,H,by simpa using M,ry,by rw[I7];exact f,?_⟩⟩,?_,?_,m⟩⟩,j.low,λx s=>by rw[t];exact j.cT x s,by rw[t];exact j.bsz⟩
  .rw[lA,lA,List.length_take,List.length_drop,List.length_set,og,a];omega
  .rw[Mn _ _ _ (by rw[f,a];omega),List.length_set,<-U,a,List.take_append,List.take_append];simp only[List.length_take,Array.length_toList,f,a,List.take_take,List.drop_take];rw[Nat.min_eq_right<|show i*sz<=rows.length*sz by omega,Nat.min_eq_left<|show i*sz<=rows.length*sz by omega,Nat.min_eq_left<|show i*sz<=c*sz by omega,List.take_of_length_le (l:=vs) om];rw[show rows.length*sz-i*sz-sz=rows.length*sz-(i*sz+sz) from by omega]
  .rw[Xh I D A];refine dC.append (dC.aG J.take<|hk.mono sm)<|dC.append (F.aG<|hk.mono sm) (dC.aG J.drop<|hk.mono sm)
  .intro r tY;rcases List.mem_or_eq_of_mem_set tY with h|h
   .exact I r h
   .rw[h];exact A
/-! ### Slices that are built of several ag -/
theorem Xj (a:Nat):∀(c:List Value) (i:Nat) (b:Array Value),((c.zipIdx i).foldl (fun(b:Array Value) (p:Value×Nat)=>b.setIfInBounds (a+p.2) p.1) b)=setAt b (a+i) c
 |[],_,_=>rfl
 |u::c,i,b=>by rw[List.zipIdx_cons,List.foldl_cons,Xj a c];rfl
def Xk:∀(d:List Value) (b:List (List Value)) (k:Nat) (a:Array Value),d.map Value.cells=b.map List.toArray->(∀vs∈b,vs.length=sz)->a.size=(k+d.length)*sz->
  ∃c,Instr.fill (λi=>some (i*sz,sz)) a ((d.zipIdx k).map λp=>(p.2,p.1))=some c/\c.toList=a.toList.take (k*sz)++b.flatten
 |[],[],k,a,_,_,f=>⟨a,rfl,by simp only[List.length_nil,Nat.add_zero] at f;simp only[List.flatten_nil,List.append_nil];rw[List.take_of_length_le (by simp[f])]⟩
 |[],_::_,_,_,h,_,_=>by simp at h
 |_::_,[],_,_,h,_,_=>by simp at h
 |u::d,vs::b,k,a,h,hl,f=>by
  simp only[List.map_cons,List.cons.injEq] at h;have g:vs.length=sz:=hl vs sm;simp only[lC] at f;have e:(k+(d.length+1))*sz=k*sz+sz+d.length*sz:=by rw[Nat.add_mul,Nat.add_mul,Nat.one_mul];omega
  rw[List.zipIdx_cons,List.map_cons];obtain⟨c,o,q⟩:=Xk d b (k+1) (setAt a (k*sz) vs) h.2 (λv s=>hl v<|by simp[s]) (by rw[I7,f];congr 1;omega);refine⟨c,?_,?_⟩
  .unfold Instr.fill;simp only[h.1];rw[iN (by simp[g];omega)];have j:=Xj (k*sz) vs 0 a;simp only[Nat.add_zero] at j;have r:Array.foldl (fun(a:Array Value) (p:Value×Nat)=>a.setIfInBounds (k*sz+p.2) p.1) a vs.toArray.zipIdx=setAt a (k*sz) vs:=by rw[<-j];simp
   rw[r];exact o
  .have n:(k+1)*sz=k*sz+sz:=by rw[Nat.add_mul,Nat.one_mul]
   have m:min (k*sz) a.size=k*sz:=Nat.min_eq_left om;rw[q,Mn _ _ _ (by rw[g];omega),n,List.flatten_cons,List.take_append,List.take_append];simp only[List.length_take,Array.length_toList,m,g,List.take_take];rw[Nat.min_eq_right<|show k*sz<=k*sz+sz by omega,show k*sz+sz-k*sz=sz from by omega,List.take_of_length_le (l:=vs) om,Nat.sub_self,List.take_zero,List.append_nil,List.append_assoc]
def ajN {T:TypeId} {us:List Value} {vss:List (List Value)} (f:P.underlying T=some (.slice E)) (b:TI P E sz bytes z) (m:0<sz) (c:0<us.length) (n:us.length*sz<=16777216) 
  (l:us.map Value.cells=vss.map List.toArray) (j:∀vs∈vss,vs.length=sz):(Instr.buildSlice T us.length ((us.zipIdx 0).map λp=>(p.2,p.1)).toArray).run P w= .ok (.slice (some ⟨w.heap.size,0,none⟩) us.length us.length) (w.alloc<|.cells vss.flatten.toArray E):=by
 have e:¬us.length*sz=0:=by have:0<us.length*sz:=Nat.mul_pos c m;omega
 have hb:¬(16777216<us.length*sz):=by omega
 obtain⟨a,i,d⟩:=Xk us vss 0 ((Array.range<|us.length*sz).map (z.cells[·%z.cells.size]!)) l j sm;have g:a=vss.flatten.toArray:=by apply Array.ext';simpa using d
 subst g;simp[Instr.buildSlice,Sem.run_bind,run_underlying f,Result.andThen_ok,b.uR,hb,e,b.OE,i,newRow]
def um {m:Nat} {T:TypeId} {ag:Array (Nat×Operand)} (a:List Operand) (vss:List (List Value)) (o:P.underlying T=some (.slice E)) (l:TI P E sz bytes z) (s:gate ops e g=true) (r:cN n dst=true) 
  (v:ag=((a.zipIdx 0).map λp=>(p.2,p.1)).toArray) (u:m=a.length) (B:Nat.blt 0 sz=true) (f:Nat.blt 0 a.length=true) (j:Nat.ble (a.length*sz) 16777216=true)
  (y:a.map (λq=>(ev e q).cells)=vss.map List.toArray) (t:vss.all (λvs=>Nat.beq vs.length sz)=true)
  (k:∀w',ak [] w w'->aL w' w.heap.size vss.flatten.toArray E->w'.heap.size=w.heap.size+1->OW P n ops K rest (cC e dst<|.slice (some ⟨w.heap.size,0,none⟩) m m) w'):
  OW P n ops K (⟨dst,.buildSlice T m ag,ty,pos,after,g⟩::rest) e w:=by
 subst v u;have c:(a.map<|ev e).length=a.length:=by simp
 have d:=ajN (P:=P) (w:=w) (us:=a.map<|ev e) (vss:=vss) o l (by simpa[Nat.blt_eq] using B) (by simpa[Nat.blt_eq] using f) (by rw[c];exact Nat.le_of_ble_eq_true j) (by rw[List.map_map];exact y) λvs h=>Nat.eq_of_beq_eq_true<|List.all_eq_true.1 t vs h;rw[c] at d;have b:((a.zipIdx 0).map λp=>(p.2,p.1)).toArray.map (fun(p:Nat×Operand)=>(p.1,ev e p.2))=(((a.map<|ev e).zipIdx 0).map λp=>(p.2,p.1)).toArray:=by
  rw[List.map_toArray,List.map_map]
  congr 1
  have:∀(a:List Operand) (i:Nat),(a.zipIdx i).map ((fun(p:Nat×Operand)=>(p.1,ev e p.2))∘λp=>(p.2,p.1))=((a.map<|ev e).zipIdx i).map λp=>(p.2,p.1):=by
   intro a;induction a with
   |nil=>intro i;rfl
   |cons q a A=>intro i;simp only[List.zipIdx_cons,List.map_cons,List.map,A];rfl
  exact this a 0
 exact fY s r (w':=w.alloc<|.cells vss.flatten.toArray E) (by have C:(Array.map (λx=>(x.fst,ev e x.snd)) ((a.zipIdx 0).map λp=>(p.2,p.1)).toArray)=(((a.map<|ev e).zipIdx 0).map λp=>(p.2,p.1)).toArray:=b;simp only[execOp];rw[C,Sem.run_bind,d];simp) (k _ (ak.alloc _ _ _) (aL.alloc _ _ _) sm)
/-! ### Slices that are appended whole -/
def Xm {w:World}:∀{rows:List (List C)} {f:Nat->List Value},(∀i row,rows[i]?=some row->dC L w (f i) row)->dC L w ((List.range rows.length).map f).flatten rows.flatten
 |[],_,_=>trivial
 |r::rows,f,h=>by rw[lC,List.range_succ_eq_map,List.map_cons,List.map_map,List.flatten_cons,List.flatten_cons];exact(h 0 r rfl).append (Xm (f:=f∘Nat.succ) λi row a=>h (i+1) row<|by simpa using a)
def ajP {w:World} {a:List Value} (h:gj w b off xs) (k:gj w b (off+xs.length) a):gj w b off (xs++a):=by grind [gj]
def Xn {w:World} {sz:Nat}:∀{n off:Nat} {f:Nat->List Value},(∀i,i<n->(f i).length=sz/\gj w b (off+i*sz) (f i))->gj w b off ((List.range n).map f).flatten
 |0,_,_,_=>λj v g=>by simp at g
 |n+1,off,f,h=>by rw[List.range_succ_eq_map,List.map_cons,List.map_map,List.flatten_cons];obtain⟨c,a⟩:=h 0 om;rw[Nat.zero_mul,Nat.add_zero] at a;refine ajP a<|Xn (sz:=sz) λi _=>?_;obtain⟨d,e⟩:=h (i+1) om;refine⟨d,?_⟩;rw[c];rwa [show off+(i+1)*sz=off+sz+i*sz from by rw[Nat.add_mul];omega] at e
def Xo {w:World} {a:Option Addr} {len d size:Nat} (h:cw L w (.slice a len d) (.sl size rows)) (r:0<rows.length):
  ∃b off vs,a=some ⟨b,off,none⟩/\b<w.heap.size/\b∉L/\gj w b off vs/\dC L w vs rows.flatten/\len=rows.length/\∀row∈rows,row.length=size:=by
 cases h with
 |nil=>simp at r
 |sl b off len d size rows f q _ hb p n u t=>
  refine⟨b,off,((List.range rows.length).map λi=>(List.range size).map<|f i).flatten,rfl,hb,p,Xn (sz:=size) λi l=>⟨by simp,λj v m=>?_⟩,Xm λi row l=>?_,q.symm,n⟩
  .have g:j<size:=by have:=(List.getElem?_eq_some_iff.1 m).1;simpa using this
   have e:f i j=v:=by simpa[List.getElem?_map,g] using m
   rw[<-e];exact u i j om g
  .have s:=n row<|List.mem_of_getElem? l;refine dC.of (by simp[s]) λj v c o y=>?_;have g:j<size:=by have:=(List.getElem?_eq_some_iff.1 o).1;simpa using this
   have e:f i j=v:=by simpa[List.getElem?_map,g] using o
   rw[<-e];exact t i j row c l y
def Xp {t ty T:TypeId} {i:TypeInfo} (e:P.underlying t=some (.slice T)) (d:P.info? T=some i) 
  {a:Option Addr} {m cap:Nat} (h:m<=cap) {a2:Option Addr} {c2:Nat}:
  (Builtin.append_ #[t,t] ty #[.slice a m cap,.slice a2 0 c2]).run P w= .ok (.slice a m cap) w:=by
 have c:(Builtin.firstCells i.size 0<|.slice a2 0 c2).run P w= .ok #[] w:=by
  cases a2 with
  |none=>simp[Builtin.firstCells]
  |some b=>exact run_firstCells_some (P:=P) (w:=w) i.size 0 b 0 c2 [] sm sm
 cases a<;>simp[Builtin.append_,run_underlying e,sizeOf,typeInfo,d,Builtin.lenOf,h,c,storeCells]
def xO {B:Nat} {L:List Nat} {v:Value} {o:Option Nat} {rows new:List (List C)} {a2:Option Addr} {u c2:Nat} (F:P.underlying t=some (.slice E)) (D:TI P E sz bytes z) (I:gate ops e g=true) (H:cN n dst=true) (X:Nat.beq z.cells.size sz=true) (Y:Nat.ble bytes 1000=true) 
  (p:ev e x=v) (N:ev e y= .slice a2 u c2) (f:Gr B L w E sz v o rows) (M:cw (o.toList++L) w (.slice a2 u c2) (.sl sz new)) (R:∀row∈new,∀c∈row,∀v,c= .val v->v.oneCell'=true)
  (hn:rows.length+new.length<100000000)
  (k:∀l d q w',Gr B L w' E sz (.slice l (rows.length+new.length) d) q (rows++new)->ak o.toList w w'->OW P n ops K rest (cC e dst (.slice l (rows.length+new.length) d)) w'):
  OW P n ops K (⟨dst,.call {callee:=.builtin .append,args:=#[x,y],argTypes:=#[t,t]},ty,pos,after,g⟩::rest) e w:=by
 obtain⟨xs,r⟩:=f.own;have DE:bytes<=1000:=Nat.le_of_ble_eq_true Y;by_cases J:0<new.length
 .obtain⟨b,off,vs,rfl,hb,_,s,A,rfl,Z⟩:=Xo M J;refine UD F D I H X p r N rfl J Z s ?_ A f.cT (Nat.le_trans (Nat.mul_le_mul (show rows.length+new.length<=100000000 by omega)<|show bytes+1<=1001 by omega) de) ?_
  .refine dC.Is A λc s v V=>?_;obtain⟨row,j,S⟩:=List.mem_flatten.1 s;exact R row j c S v V
  .intro l d q w' j5 hk mw;refine k l d q w' ⟨⟨_,j5⟩,λb hb=>?_,λx p=>lL (f.cT x p) hk.size,Nat.le_trans f.bsz hk.size⟩ hk;rcases mw with h|h
   .rw[h] at hb;exact f.low b hb
   .rw[h] at hb;cases hb;exact f.bsz
 .have ou:new=[]:=List.length_eq_zero_iff.1 om;subst ou;obtain⟨a,cap,rfl⟩:=r.len;have Q:u=0:=by
   obtain⟨_,_,T,_⟩:=tW M;cases T;rfl
  subst Q;have O:rows.length<=cap:=by
   rcases r.own.2 with⟨h,j,_⟩|⟨_,_,_,_,h,_,j,_⟩
   .rw[j];omega
   .cases h;exact j
  obtain⟨i,U,_,_,_⟩:=D.get;have kL:=Xp (P:=P) (w:=w) (t:=t) (ty:=ty) F U (a:=a) (m:=rows.length) (cap:=cap) O (a2:=a2) (c2:=c2);refine fY I H (v:=.slice a rows.length cap) (w':=w) (by simp only[execOp,resolve,invoke,builtin,Sem.run_bind,Sem.run_pure,Result.andThen_ok,List.map_toArray,List.map_cons,List.map_nil,p,N,kL]) ?_;have:=k a cap o w (by simpa using f)<|ak.refl _ _;simpa using this
end
def ajQ {T N:Nat} (hb:aL w b xs.toArray T) (a:xs.length=N*sz) (c:N<=100000000):jT w T sz (.slice (some ⟨b,0,none⟩) N N) (some b) N xs:=
 ⟨a,.inr ⟨b,N,_,rfl,rfl,hb,lR _,by unfold maxLen;omega,by simpa using a,by rw[<-a];simp⟩⟩
def ajR {T N:Nat} (hb:aL w b xs.toArray T) (d:dC (b::L) w xs rows.flatten) (e:∀r∈rows,r.length=sz) (g:N=rows.length) (i:N<=100000000) (c:B<=b) (j:b∉L) (f:∀x∈L,x<w.heap.size):
  Gr B L w T sz (.slice (some ⟨b,0,none⟩) N N) (some b) rows:=by
 subst g;refine⟨⟨xs,⟨ajQ hb (by rw[d.length,OB e]) i,d,e,λx a=>by cases a;exact j⟩⟩,λx a=>by cases a;exact c,f,Nat.le_trans c<|Nat.le_of_lt hb.lt⟩
def ajS {e:List au}:∀row,row∈dj e->∀c∈row,∀v,c=C.val v->v.oneCell'=true:=by
 intro row d c b v a;rw[yG] at d;obtain⟨t,_,rfl⟩:=List.mem_map.1 d;cases t;rw[au.enc] at b;simp only[mC,List.not_mem_nil,or_false] at b;rcases b with h|h
 .rw[h] at a;cases a;rfl
 .rw[h] at a;cases a
section
open Go Go.ChangeShapes Go.WideShapes
def ajT {a:Addr} (h:w.cell? a=some v):a=⟨a.block,a.off,none⟩/\a.block<w.heap.size:=by
 obtain⟨b,o,s⟩:=a;unfold World.cell? at h;split at h
 .rename_i c _ _ d;cases s with
  |some s=>simp at h
  |none=>exact⟨rfl,(Array.getElem?_eq_some_iff.1 d).1⟩
 .cases h
theorem ajU {a:Addr} (h:a=⟨a.block,a.off,none⟩) (i:Nat):a.add i=⟨a.block,a.off+i,none⟩:=by rw[h];exact xo _ _ _
section
variable {H:Type} {enc:TypeId×Value->H} {P:Program} {w:World} {held:Bool}
end
end
def Eb (a b c:Int) (w:World):bC Tryz.prog 28 [.int .i64 a,.int .i64 b,.int .i64 c] w λv w'=>v= .bool (decide (b<=a)&&decide (a<=c))/\w=w':=by refine cm [.tmp 6] 15 Tryz.func28 rfl ag9 rfl rfl ?_;refine W ?_;apply oB 4 10 14 rfl oQ;intro _;exact oQ;intro _;refine W ?_;exact⟨_,rfl,rfl,rfl⟩
def ajV (c:UInt8) (w:World):bC Tryz.prog 118 [.int .u8 c.toNat] w λv w'=>v= .bool (fy c)/\w=w':=by refine cm [.tmp 2] 33 Tryz.func118 rfl afJ rfl rfl ?_;refine W ?_;apply oB 3 5 8 rfl oQ;intro _;exact oQ;intro a;refine WZ ?_;apply oP 7 9 16 rfl oQ;intro _;refine WZ ?_;apply oB 3 12 15 rfl oQ;intro _;exact oQ;intro a;exact oQ;intro a;refine WZ ?_;apply oP 3 17 20 rfl oQ;intro _;exact oQ;intro a;refine WZ ?_;apply oP 3 21 24 rfl oQ;intro _;exact oQ;intro a;refine WZ ?_;apply oP 3 25 28 rfl oQ;intro _;exact oQ;intro a;refine WZ ?_;apply oP 3 29 32 rfl oQ;intro _;exact oQ;intro a;refine W ?_;exact⟨_,rfl,congrArg Value.bool (Uv c),rfl⟩
def ajW (L:List Nat) (s:aj) (d i:Nat) (v:Value) (w:World):Prop:=
 ∃t b a,v= .tuple #[b,.int .i64 a]/\ba L w b t/\DD s.length (rT d<|s.drop i) t a
def ajX (s:aj) (hs:s.length<=12000):∀(d i:Nat) (L:List Nat) (w:World),d<=61->i<=s.length->(∀x∈L,x<w.heap.size)->
  bC Tryz.prog 76 [str s,.int .i64 (i:Int),.int .i64 ((61:Int)-(d:Int))] w λv w'=>ajW L s d i v w'/\ak [] w w':=by
 intro d;induction d with
 |zero=>intro i L w hd hi hL;have c:=ak.refl [] w;refine lq [.cell 6 93,.tmp 7] 87 Tryz.func76 rfl Lz rfl rfl rfl ?_;refine zr<|dw aK rfl rfl rfl λA F e da=>?_;have c:=c.grow;have c:=c.ext F;refine zA<|aX<|zr<|jV (Gh _) rfl rfl<|dw aK rfl rfl rfl λw2 C j dS=>?_;have c:=c.grow;have c:=c.ext C;have e:=e.grow;have e:=e.ext C;refine cJ aK rfl rfl rfl j rfl λV B j iq=>?_;have c:=c.aB B sx;have e:=e.aB B sx;refine aX<|jF<|zr<|zm<|HZ rfl rfl rfl rfl rfl<|zm ?_;apply Dw 5 15 20 [15,16,17,18,19,20] (λw'=>V=w') rfl;intro E;replace E:=jY E;refine W ?_;exact mg rfl rfl;intro E;replace E:=jY E;refine W ?_;exact mg rfl rfl;rintro X _ rfl;refine aX<|zc rfl (λu=>?_) λu=>?_;refine W ?_;refine cJ aK rfl rfl rfl e rfl λN aH e gK=>?_;have c:=c.aB aH sx;refine W ?_;exact⟨[_,_],⟨gk eU aK rfl e rfl,rfl⟩,⟨.mk [] [],_,_,rfl,jM l8,rfl⟩,c⟩;exfalso;simp at u
 |succ d ih=>
  intro i L w hd hi hL;have c:=ak.refl [] w;by_cases mq:i<s.length
  .have D:=drop_cons<|j4 mq;have Xq:=Io fy<|s.drop i;rw[List.length_drop] at Xq;refine lq [.cell 6 93,.tmp 7] 87 Tryz.func76 rfl Lz rfl rfl rfl<|zr<|dw aK rfl rfl rfl λA F e da=>?_;have c:=c.grow;have c:=c.ext F;refine zA<|aX<|zr<|jV (Gh _) rfl rfl<|dw aK rfl rfl rfl λw2 C j dS=>?_;have c:=c.grow;have c:=c.ext C;have e:=e.grow;have e:=e.ext C;refine cJ aK rfl rfl rfl j rfl λV B j iq=>?_;have c:=c.aB B sx;have e:=e.aB B sx;refine W ?_;apply oP 5 15 20 rfl oQ;intro _;exact oQ;intro X;refine aX<|zc rfl (λu=>?_) λu=>?_;exfalso;simp at u;omega;refine W ?_;refine ln jm rfl rfl rfl rfl (j4 mq)<|H0 rfl rfl rfl rfl rfl<|aX<|zc rfl (λh3=>?_) λh3=>?_;have dD:s.getD i 0≠40:=λh=>h3 (by rw[h];rfl);refine W ?_;refine eZ (λk:Nat=>[(0,str s),(1,.int .i64 (k:Int)),(6,.pointer<|some ⟨w.heap.size,0,none⟩),(8,.pointer<|some ⟨A.heap.size,0,none⟩),(9,.int .i64 (i:Int))]) (λk w'=>w'=V/\i<=k/\k-i<=((s.drop i).takeWhile fy).length) (λk=>s.length-k) i (⟨rfl,rfl,rfl,rfl,rfl⟩) (⟨rfl,lR _,om⟩) λK N e4 T=>?_;obtain⟨rfl,xA,GB⟩:=T;have Ed:=adJ s xA GB;refine WZ ?_;apply oB 5 31 36 rfl oQ;intro _;refine zm<|zm<|ln jm rfl rfl rfl rfl (j4 om)<|aA (ajV _ _) ?_;rintro _ _ ⟨rfl,rfl⟩;exact oQ;intro X;refine aX<|zc rfl (λh5=>?_) λh5=>?_;have eW:=Ed.2 (by simpa using h5);refine W ?_;exact⟨K+1,⟨rfl,rfl,rfl,rfl,rfl⟩,⟨rfl,om,om⟩,om⟩;have Y:K-i=((s.drop i).takeWhile fy).length:=Nat.le_antisymm GB (Nat.le_of_not_lt λhh=>by have f:=Ed.1 hh;rw[f.2,Bool.and_true,decide_eq_false_iff_not] at h5;omega);refine W ?_;refine Du jm rfl rfl rfl (.inr ⟨_,rfl⟩) (.inr ⟨_,rfl⟩) om om<|zf lr rfl<|iw bz rfl rfl rfl j rfl λw5 H j _=>?_;have c:=c.aB H sx;have e:=e.aB H sx;refine W ?_;refine zc rfl (λM=>?_) λM=>?_;have o:rT (d+1) (s.drop i)=none:=by rw[Y,K7] at M;show fl d _=none;rw[D,Iq _ _ _ dD,<-D,iP M]
   refine W ?_;refine cJ aK rfl rfl rfl e rfl λw6 z e lW=>?_;have c:=c.aB z sx;refine W ?_;exact⟨[_,_],⟨gk eU aK rfl e rfl,rfl⟩,⟨.mk _ [],_,_,rfl,jM l8,by rw[o];rfl⟩,c⟩;have o:rT (d+1) (s.drop i)=some (.mk ((s.drop i).takeWhile fy) [],(s.drop i).dropWhile fy):=by rw[Y,K7] at M;show fl d _=_;rw[D,Iq _ _ _ dD,<-D,iN M]
   refine W ?_;refine cJ aK rfl rfl rfl e rfl λw6 z e lW=>?_;have c:=c.aB z sx;refine zA<|aX<|lO<|⟨[_,_],⟨gk eU aK rfl e rfl,rfl⟩,⟨.mk _ [],_,_,rfl,jM l8,?_⟩,c⟩;rw[o];refine⟨by rw[Y,K7],?_⟩;rw[Im,List.length_drop,List.length_drop];show(K:Int)=_;omega;have Z:s.getD i 0=40:=UInt8.toNat_inj.1 (by have O:(40:UInt8).toNat=40:=rfl;rw[O];omega);refine WZ ?_;refine eZ (λq:List au×Nat×Option Addr×Nat×Option Nat×List Value=>[(0,str s),(1,.int .i64 (q.2.1:Int)),(2,.int .i64<|(61:Int)-((d+1:Nat):Int)),(6,.pointer<|some ⟨w.heap.size,0,none⟩),(8,.pointer<|some ⟨A.heap.size,0,none⟩)]) (λq w'=>ak [] w w'/\aL w' w.heap.size [str [],.slice none 0 0].toArray 93/\aL w' A.heap.size [str [],.slice q.2.2.1 q.1.length q.2.2.2.1].toArray 93/\iU (w.heap.size::A.heap.size::L) w' 93 2 (.slice q.2.2.1 q.1.length q.2.2.2.1) q.2.2.2.2.1 (dj q.1) q.2.2.2.2.2/\(∀b,q.2.2.2.2.1=some b->w.heap.size<=b)/\q.2.1<s.length/\i<=q.2.1/\q.1.length<=q.2.1/\A.heap.size<w'.heap.size/\oV d (s.drop<|i+1)=(oV d (s.drop<|q.2.1+1)).map λp=>(q.1++p.1,p.2)) (λq=>s.length-q.2.1) (([],i,none,0,none,[])) (⟨rfl,rfl,rfl,rfl,rfl⟩) (⟨c,e,j,iU.nil _ _ _ _,sm,mq,lR _,sm,om,sm⟩) λK N e4 T=>?_;obtain⟨l,k,a,_,g,xs⟩:=K;dsimp only at T⊢;obtain⟨c,e,j,n,hg,hk,xA,_,_,U⟩:=T;have hLx:∀x∈g.toList++(w.heap.size::A.heap.size::L),x<N.heap.size:=by intro x f;simp at f;rcases f with f|rfl|rfl|f;exact n.own.lt x f;omega;omega;have E:=hL x f;have u:=c.size;omega
   refine WA ?_;refine CB ?_;refine zm<|oU rfl rfl rfl rfl rfl (show IntKind.i64.wrap ((61:Int)-((d+1:Nat):Int)+1)=(61:Int)-(d:Int) by rw[wrap_i64 _ om om];omega)<|aA (ih (k+1) (g.toList++(w.heap.size::A.heap.size::L)) N om om hLx) ?_;rintro _ w5 ⟨wI,H⟩;have mJ:=H.size;refine gY H c e j n λc e j n=>?_;obtain⟨t,_,_,rfl,y,hm⟩:=wI;obtain⟨_,_,_,rfl,eh,_⟩:=cQ y;subst eh;refine W ?_;refine dw aK rfl rfl rfl λw6 z qQ lW=>?_;have c:=c.grow;have c:=c.ext z;have e:=e.grow;have e:=e.ext z;have j:=j.grow;have j:=j.ext z;have n:=n.alloc z lW;have y:=y.grow;have y:=y.ext z;refine cJ aK rfl rfl rfl qQ rfl λ_ I qQ _=>?_;have c:=c.aB I sx;have e:=e.aB I sx;have j:=j.aB I sx;have n:=n.aB I sx;have y:=y.aB I sx;refine W ?_;apply oP 5 61 66 rfl oQ;intro _;exact oQ;intro X;refine aX<|zc rfl (λS=>?_) λS=>?_;have o:rT (d+1) (s.drop i)=none:=by show fl d _=none;rw[D,Z,F6,U,adK hm (by simpa using S) om];rfl
   refine W ?_;refine cJ aK rfl rfl rfl e rfl λw8 R e ly=>?_;have c:=c.aB R sx;have n:=n.aB R sx;refine W ?_;exact⟨[_,_],⟨gk eU aK rfl e rfl,rfl⟩,⟨.mk [] l,_,_,rfl,jM<|n.done.weaken λx f=>by simp[f],by rw[o];rfl⟩,c⟩;simp at S;obtain⟨m,rfl,_,Qr,fG⟩:=adL hm S.1 om;refine W ?_;refine gv cH aK rfl rfl λw8 R ajZ ly=>kB R c e j n y λc e j n y=>?_;refine UE cH aK rfl rfl rfl rfl rfl n (qB t) ajZ.all (by simp[Value.oneCell']) (y.l9.fresh λx f=>.inl<|UB x f) ?_ ?_ ?_;intro x f;simp at f;rcases f with rfl|rfl|rfl|f;(·omega);(·omega);(·omega);(·have E:=hL x f;have u:=c.size;omega);rw[iI];omega;intro a2 Ee g2 _ r Q ju;have e1:(dj l).length+1=(l++[t]).length:=by simp[iI]
   have e2:dj l++[t.enc]=dj (l++[t]):=by simp[OU,dj]
   rw[e1] at r⊢;rw[e2] at r;have cK:=Q.size;have xJ:∀b,g2=some b->w.heap.size<=b:=by intro b hb;rcases ju with h|h;(·rw[h] at hb;exact hg b hb);(·rw[h] at hb;cases hb;omega)
   have c:=c.aB Q λx f=>.inr (hg x<|by simpa using f);have e:=e.aB Q<|n.sep sm;have j:=j.aB Q<|n.sep sm;refine zf jO rfl<|iw DT rfl rfl rfl j rfl λ_ cS j _=>?_;have c:=c.aB cS sx;have e:=e.aB cS sx;have r:=r.aB cS sx;refine W ?_;refine ln jm rfl rfl rfl rfl (j4 Qr)<|yB rfl rfl rfl rfl rfl<|aX<|zc rfl (λh9=>?_) λh9=>?_;have P:s.getD m 0=41:=UInt8.toNat_inj.1 (by have O:(41:UInt8).toNat=41:=rfl;rw[O];omega);have o:rT (d+1) (s.drop i)=some (.mk [] (l++[t]),s.drop<|m+1):=by show fl d _=_;rw[D,Z,F6,U,fG,iP P];rfl
   refine W ?_;refine cJ aK rfl rfl rfl e rfl λfo J e wJ=>?_;have c:=c.aB J sx;have r:=r.aB J sx;refine W ?_;exact⟨[_,_],⟨gk eU aK rfl e rfl,rfl⟩,⟨.mk [] (l++[t]),_,_,rfl,jM<|r.done.weaken λx f=>by simp[f],by rw[o];exact⟨rfl,by rw[List.length_drop];omega⟩⟩,c⟩;have P:s.getD m 0≠41:=λh=>h9 (by rw[h];rfl);refine W ?_;refine ln jm rfl rfl rfl rfl (j4 Qr)<|H0 rfl rfl rfl rfl rfl<|aX<|zc rfl (λfR=>?_) λfR=>?_;have Qs:s.getD m 0≠32:=λh=>fR (by rw[h];rfl);have o:rT (d+1) (s.drop i)=none:=by show fl d _=_;rw[D,Z,F6,U,fG,iN P,iN Qs];rfl
   refine W ?_;refine cJ aK rfl rfl rfl e rfl λfo J e wJ=>?_;have c:=c.aB J sx;have r:=r.aB J sx;refine W ?_;exact⟨[_,_],⟨gk eU aK rfl e rfl,rfl⟩,⟨.mk [] (l++[t]),_,_,rfl,jM<|r.done.weaken λx f=>by simp[f],by rw[o];rfl⟩,c⟩;have Qs:s.getD m 0=32:=UInt8.toNat_inj.1 (by have O:(32:UInt8).toNat=32:=rfl;rw[O];omega);refine WZ ?_;exact⟨(l++[t],m,a2,Ee,g2,_),⟨rfl,rfl,rfl,rfl,rfl⟩,⟨c,e,j,r.more (by intro x f;exact .inl (by simp at f⊢;rcases f with f|f|f<;>simp[f])),xJ,Qr,by dsimp only;omega,by simp;omega,om,by rw[U,fG,iN P,iP Qs,map_append]⟩,by dsimp only;omega⟩
  refine lq [.cell 6 93,.tmp 7] 87 Tryz.func76 rfl Lz rfl rfl rfl<|zr<|dw aK rfl rfl rfl λA F e da=>?_;have c:=c.grow;have c:=c.ext F;refine zA<|aX<|zr<|jV (Gh _) rfl rfl<|dw aK rfl rfl rfl λw2 C j dS=>?_;have c:=c.grow;have c:=c.ext C;have e:=e.grow;have e:=e.ext C;refine cJ aK rfl rfl rfl j rfl λV B j iq=>?_;have c:=c.aB B sx;have e:=e.aB B sx;refine W ?_;apply oP 5 15 20 rfl oQ;intro _;exact oQ;intro X;refine aX<|zc rfl (λu=>?_) λu=>?_;have o:rT (d+1) (s.drop i)=none:=by rw[List.drop_of_length_le om];exact Uy d
  refine W ?_;refine cJ aK rfl rfl rfl e rfl λN aH e gK=>?_;have c:=c.aB aH sx;refine W ?_;exact⟨[_,_],⟨gk eU aK rfl e rfl,rfl⟩,⟨.mk [] [],_,_,rfl,jM l8,by rw[o];rfl⟩,c⟩;exfalso;simp at u;omega
def y0 (s:aj) (L:List Nat) (w:World) (u:∀x∈L,x<w.heap.size):
  bC Tryz.prog 54 [str s] w λv w'=>(∃t j,v= .tuple #[j,.bool (bU s).isSome]/\ba L w' j t/\∀i,bU s=some i->t=i)/\ak [] w w':=by
 have a:=ak.refl [] w;refine lq [.cell 2 93,.tmp 3] 20 Tryz.func54 rfl VU rfl rfl rfl ?_;refine zr<|dw aK rfl rfl rfl λz p b _=>?_;have a:=a.grow;have a:=a.ext p;refine W ?_;refine zc rfl (λr=>?_) λr=>?_;have o:bU s=none:=by unfold bU;rw[iP om]
 refine zr<|jV (Gh _) rfl rfl<|cJ aK rfl rfl rfl b rfl λA e b _=>?_;have a:=a.aB e sx;refine W ?_;exact⟨[_,_],⟨gk eU aK rfl b rfl,rfl⟩,⟨.mk [] [],_,by rw[o];rfl,jM l8,λi h=>by rw[o] at h;cases h⟩,a⟩;refine iH<|zr<|zm<|aA (ajX s om 61 0 (w.heap.size::L) z om om (by intro x d;rcases mC.1 d with rfl|d;(·omega);(·have:=u x d;omega))) ?_;rintro _ A ⟨q,e⟩;have B:=e.size;refine bQ e a b λa b=>?_;obtain⟨t,j,_,rfl,c,y⟩:=q;obtain⟨_,_,_,rfl,_,_⟩:=cQ c;refine W ?_;refine dw aK rfl rfl rfl λ_ g m _=>?_;have a:=a.grow;have a:=a.ext g;have b:=b.grow;have b:=b.ext g;have c:=c.grow;have c:=c.ext g;refine cJ aK rfl rfl rfl m rfl λ_ f m _=>?_;have a:=a.aB f sx;have b:=b.aB f sx;have c:=c.aB f sx;refine W ?_;refine cJ aK rfl rfl rfl b rfl λ_ n b _=>?_;have a:=a.aB n sx;have c:=c.aB n sx;refine W ?_;have l:=adM om y;exact⟨[_,_],⟨gk eU aK rfl b rfl,rfl⟩,⟨t,_,by rw[<-l.1];rfl,ja.fresh c λx d=>.inl<|by simp[d],l.2⟩,a⟩
def CD (t:au) (v:Value) (L:List Nat) (w:World) (q:ba L w v t):bC Tryz.prog 78 [v] w λr w'=>r=str (aT t)/\ak [] w w':=by obtain⟨a,n,c,rfl,m,f⟩:=cQ q;have e:=ak.refl [] w;refine cm [.tmp 2] 17 Tryz.func78 rfl ahS rfl rfl ?_;refine zr<|eH rfl λ_ o _ _=>bQ o e f λe f=>?_;refine W ?_;apply oP 5 6 11 rfl oQ;intro _;refine WZ ?_;exact oQ;intro _;refine aX<|zc rfl (λd=>?_) λd=>?_;have g:aT t=[]:=BT (by simp at d;rcases d with h|h;(·exact .inl h);(·right;subst m;simpa using h));refine W ?_;exact⟨_,rfl,by rw[g];rfl,e⟩;simp at d;have s:=d.2;have p:∃l,t.ag[0]?=some l:=⟨t.ag[0]'om,gE om⟩;obtain⟨l,j⟩:=p;obtain⟨b,off,_,_,_,rfl,_,_,_⟩:=fE f j;have g:aT t=l.aq:=Iy d.1 j;refine WI ?_;refine zi (i:=0) cH aK rfl rfl (by rw[m];exact(List.getElem?_eq_some_iff.1 j).1) ?_;refine W ?_;exact⟨_,rfl,by rw[g];rfl,e⟩
def Xr (s:aj) (i:s.length<9223372036854775807) (w:World):bC Tryz.prog 116 [str s] w λr w'=>r= .bool (pB s)/\w=w':=by refine cm [.tmp 2] 39 Tryz.func116 rfl afH rfl rfl ?_;refine W ?_;refine eZ (λk:Nat=>[(0,str s),(3,.int .i64 (k:Int))]) (λk w'=>w'=w/\k<=s.length/\∀j,j<k->DH s j=true) (λk=>s.length-k) (0) (⟨rfl,rfl⟩) (⟨rfl,om,by intro j g;omega⟩) λd _ _ f=>?_;obtain⟨rfl,hk,c⟩:=f;refine W ?_;refine zc rfl (λe=>?_) λe=>?_;refine W ?_;refine ln jm rfl rfl rfl rfl (j4 om)<|WZ ?_;apply oB 5 14 19 rfl oQ;intro _;refine zm<|zm<|ln jm rfl rfl rfl rfl (j4 om) ?_;exact oQ;intro b;refine WZ ?_;apply oP 15 20 35 rfl oQ;intro _;refine WZ ?_;apply oB 5 23 28 rfl oQ;intro _;refine zm<|zm<|ln jm rfl rfl rfl rfl (j4 om) ?_;exact oQ;intro b;refine WZ ?_;apply oB 5 29 34 rfl oQ;intro _;refine zm<|zm<|ln jm rfl rfl rfl rfl (j4 om) ?_;exact oQ;intro b;exact oQ;intro b;refine jU rfl rfl rfl<|aX<|zc rfl (λa=>?_) λa=>?_;rw[Le] at a;refine W ?_;exact⟨_,rfl,by rw[UT om a];rfl,rfl⟩;rw[Le] at a;refine W ?_;exact⟨d+1,⟨rfl,rfl⟩,⟨rfl,om,UW c a⟩,om⟩;refine W ?_;exact⟨_,rfl,by rw[UU λj g=>c j om];rfl,rfl⟩
def Ef (s:aj):Value:=.tuple #[.int .i64<|(numeral s).getD 0,.bool (numeral s).isSome]
def I9 (s:aj) (w:World):bC Tryz.prog 119 [str s] w λv w'=>v=Ef s/\w=w':=by
 refine cm [.tmp 2,.tmp 3] 57 Tryz.func119 rfl afK rfl rfl ?_;refine W ?_;apply oB 4 12 16 rfl oQ;intro u;refine zm<|ln (i:=0) jm rfl rfl rfl rfl (j4 om) ?_;exact oQ;intro A;refine W ?_;refine jk (λ_:Unit=>[(0,str s),(4,.int .i64<|qD s),(5,str<|fj s)]) (λ_ w'=>w'=w) ?_ ?_;refine zc rfl (λe=>?_) λe=>?_;have f:0<s.length/\s.getD 0 0=45:=by have b:=UR 45<|s.getD 0 0;simp only[show((45:UInt8).toNat:Int)=45 from rfl] at b;rw[b] at e;simpa using e
 refine W ?_;refine Du (l:=1) jm rfl rfl rfl (.inr ⟨_,rfl⟩) (.inl ⟨rfl,rfl⟩) om om<|zA<|aX ?_;exact⟨(),⟨rfl,by rw[qD,iP f];rfl,by have u:fj s=(s.drop 1).take (s.length-1):=by{rw[fj,iP f,List.take_of_length_le sm]};rw[u];exact rfl⟩,rfl⟩;have f:¬(0<s.length/\s.getD 0 0=45):=by have b:=UR 45<|s.getD 0 0;simp only[show((45:UInt8).toNat:Int)=45 from rfl] at b;rw[b] at e;simpa using e
 refine WZ ?_;exact⟨(),⟨rfl,by rw[qD,iN f];rfl,by rw[fj,iN f];exact rfl⟩,rfl⟩;intro _ F _ p;obtain rfl:=p;refine W ?_;refine zc rfl (λm=>?_) λm=>?_;have g:numeral s=some 0:=by unfold numeral;rw[iP m]
 refine W ?_;exact⟨_,rfl,by unfold Ef;rw[g];rfl,rfl⟩;have r:=m;refine W ?_;refine aA (Eb _ _ _ _) ?_;rintro _ _ ⟨rfl,rfl⟩;refine WZ ?_;apply oP 4 25 29 rfl oQ;intro D;simp at D;refine zm<|ln (i:=0) jm rfl rfl rfl rfl (j4 om) ?_;exact oQ;intro A;refine aX<|zc rfl (λn=>?_) λn=>?_;have g:numeral s=none:=adW r<|ad0 n;refine W ?_;exact⟨_,rfl,by unfold Ef;rw[g];rfl,rfl⟩;have y:=ad1 n;refine W ?_;refine eZ (λk:Nat=>[(4,.int .i64<|qD s),(5,str<|fj s),(6,.int .i64 (val ((fj s).take k):Nat)),(7,.int .i64 (k:Int))]) (λk w'=>w'=F/\k<=(fj s).length/\((fj s).take k).all je=true) (λk=>(fj s).length-k) (0) (⟨rfl,rfl,rfl,rfl⟩) (⟨rfl,om,sm⟩) λd _ _ p=>?_;obtain⟨rfl,hk,c⟩:=p;refine W ?_;refine zc rfl (λE=>?_) λE=>?_;have a:d<(fj s).length:=by omega
 have j:=OZ _ c;have C:val ((fj s).take d)<100:=lL j<|Nat.le_trans (Nat.pow_le_pow_right om (show((fj s).take d).length<=2 by simp;omega)) de;clear j;refine W ?_;refine ln jm rfl rfl rfl rfl (j4 a)<|WZ ?_;apply oP 5 40 45 rfl oQ;intro _;refine zm<|zm<|ln jm rfl rfl rfl rfl (j4 a) ?_;exact oQ;intro A;refine aX<|zc rfl (λo=>?_) λo=>?_;have g:numeral s=none:=adX r a<|UY o;refine W ?_;exact⟨_,rfl,by unfold Ef;rw[g];rfl,rfl⟩;have q:=UZ o;have H:=q.1;have I:=q.2.1;refine W ?_;refine ln jm rfl rfl rfl rfl (j4 a)<|yC rfl rfl rfl rfl rfl (wrap_u8 _ om om)<|Ac Ak yO rfl rfl rfl (wrap_i64 _ om om)<|W ?_;exact⟨d+1,⟨rfl,rfl,by rw[O0 a,UP];show Value.int _ _=Value.int _ _;congr 1;omega,rfl⟩,⟨rfl,om,by rw[O0 a,List.all_append,c];simp only[List.all_cons,q.2.2];rfl⟩,om⟩;have t:(fj s).take d=fj s:=List.take_of_length_le om;rw[t] at c;have j:=OZ _ c;have C:val (fj s)<1000:=lL j<|Nat.le_trans (Nat.pow_le_pow_right om y.2.1) de;clear j;rw[t];have B:=adZ s;have z: -1000<qD s*(val (fj s):Int)/\qD s*(val (fj s):Int)<1000:=by rcases B with h|h<;>rw[h]<;>omega
 refine W ?_;exact⟨_,rfl,by unfold Ef;rw[adY r y c];rfl,rfl⟩
def Eg (t:au) (v:Value) (L:List Nat) (w:World) (i:ba L w v t):bC Tryz.prog 77 [v] w λr w'=>r= .int .i64 (lQ t.aq)/\ak [] w w':=by
 obtain⟨a,n,c,rfl,d,_⟩:=cQ i;have e:=ak.refl [] w;refine cm [.tmp 2] 19 Tryz.func77 rfl ahR rfl rfl ?_;refine zr<|eH rfl λ_ g _ _=>?_;have e:=e.ext g;refine W ?_;refine aA (I9 _ _) ?_;rintro _ _ ⟨rfl,rfl⟩;refine W ?_;apply oP 4 13 17 rfl oQ;intro _;refine zm<|aA (Eb _ _ _ _) ?_;rintro _ _ ⟨rfl,rfl⟩;exact oQ;intro _;refine aX<|zc rfl (λb=>?_) λb=>?_;have f:lQ t.aq= -1:=by unfold lQ;cases d:numeral t.aq with|none=>rfl|some k=>rw[d] at b;simp at b;exact iN om
 refine W ?_;exact⟨_,rfl,by rw[f];rfl,e⟩;have f:lQ t.aq=(numeral t.aq).getD 0:=by unfold lQ;cases d:numeral t.aq with|none=>rw[d] at b;simp at b|some k=>rw[d] at b;simp at b;exact iP om
 refine W ?_;exact⟨_,rfl,by rw[f];rfl,e⟩
def Qt:∀(m:Nat) (t:au),t.size<=m->t.size<=100000->WF t->∀(d:Bool) (v:Value) (L:List Nat) (w:World),ba L w v t->
  bC Tryz.prog 158 [v,.bool d,.bool false] w λr w'=>r= .bool (gq d t)/\ak [] w w':=by
 intro m;induction m with
 |zero=>intro t h;cases t;simp[au.size] at h
 |succ m M=>
  intro t _ _ y d v L w V;obtain⟨a,n,c,rfl,T,f⟩:=cQ V;have e:=ak.refl [] w;have lz:=mc t;refine cm [.tmp 6] 72 Tryz.func158 rfl aga rfl rfl ?_;refine zr<|eH rfl λF g u _=>bQ g e f λe f=>?_;refine W ?_;refine zc rfl (λB=>?_) λB=>?_;refine WZ ?_;apply oP 7 15 22 rfl oQ;intro _;refine WZ ?_;apply oB 4 17 21 rfl oQ;intro _;refine WZ ?_;exact oQ;intro p;exact oQ;intro p;refine WZ ?_;apply oP 7 23 30 rfl oQ;intro _;refine zm<|zm<|xr (t:=25) (b:=false) rfl ?_;exact oQ;intro p;refine W ?_;exact⟨_,rfl,show Value.bool _=Value.bool _ from congrArg _<|by rw[U2 B,Bool.or_false],e⟩;have o:t.aq=[]:=Classical.not_not.1 B;have j:=y.pos o;have mL:=dN j;obtain⟨b,off,_,_,_,rfl,_,_,_⟩:=fE f mL;refine WI ?_;refine zi (i:=0) cH aK rfl rfl (by rw[T];exact j)<|W ?_;refine zc rfl (λC=>?_) λC=>?_;refine WZ ?_;apply oA 7 42 49 (ak [] F) rfl oQ;intro _;have K:t.ag.length=2:=by omega
  have Z:=dN (ps:=t.ag) (i:=1) om;obtain⟨O,Q,X,ti,Y,q,J,uo,E⟩:=fE f Z;cases q;refine zf jO rfl<|zl jg rfl (u.at rfl)<|zi (i:=1) cH aK rfl rfl om<|zL eU aK rfl J rfl<|zm<|aA (M (nth t.ag 1) (by have:=kO (t:=t) (i:=1) om;omega) (by have:=kO (t:=t) (i:=1) om;omega) (y.nth om) true _ L F<|iF E) ?_;rintro _ H ⟨rfl,s⟩;have dI:=s.size;exact oQ;intro p H s;have e:=e.ext s;refine zA<|aX<|lO<|⟨_,rfl,show Value.bool _=Value.bool _ from congrArg _ ?_,e⟩;rw[O4 o j C]
  congr 1
  exact decide_eq_decide.2 om;have P:=C;refine WZ ?_;apply oB 3 52 55 rfl oQ;intro _;exact oQ;intro p;refine aX<|zc rfl (λD=>?_) λD=>?_;have hb:=U3 o j P<|ad8 D;refine W ?_;exact⟨_,rfl,by rw[hb];rfl,e⟩;have N:(nth t.ag 0).aq=[116]\/(nth t.ag 0).aq=[99]:=ad7 D;refine W ?_;refine eZ (λk:Nat=>[(3,.pointer<|some ⟨w.heap.size,0,none⟩),(1,.bool d),(2,.bool false),(8,.int .i64 (k:Int))]) (λk w'=>ak [] w w'/\ak [] F w'/\1<=k/\k<=t.ag.length/\(t.ag.drop 1).all (gq d)=(t.ag.drop k).all (gq d)) (λk=>t.ag.length-k) (1) (⟨rfl,rfl,rfl,rfl⟩) (⟨e,ak.refl [] _,om,om,rfl⟩) λl H _ S=>?_;obtain⟨e,g,hk,_,z⟩:=S;refine bQ g f u λf u=>?_;refine W ?_;refine zc rfl (λR=>?_) λR=>?_;have U:=dN (ps:=t.ag) (i:=l) om;obtain⟨O,Q,X,ti,Y,q,J,uo,E⟩:=fE f U;cases q;refine W ?_;refine aA (M (nth t.ag l) (by have:=kO (t:=t) (i:=l) om;omega) (by have:=kO (t:=t) (i:=l) om;omega) (y.nth om) d _ L H<|iF E) ?_;rintro _ _ ⟨rfl,I⟩;have fB:=I.size;refine bQ I e g λe g=>?_;refine jU rfl rfl rfl<|aX<|zc rfl (λA=>?_) λA=>?_;have hb:gq d t=false:=by rw[O5 o j N,z,U4 om,A];rfl
  refine W ?_;exact⟨_,rfl,by rw[hb];rfl,e⟩;refine W ?_;exact⟨l+1,⟨rfl,rfl,rfl,rfl⟩,⟨e,g,om,om,by rw[z,U4 om,A];rfl⟩,om⟩;have hb:gq d t=true:=by rw[O5 o j N,z,List.drop_of_length_le om];rfl
  refine W ?_;exact⟨_,rfl,by rw[hb];rfl,e⟩

def aj0 (t:au) (D:t.size<=100000) (B:WF t) (z:Int) (v:Value) (L:List Nat) (w:World) (E:ba L w v t):
  bC Tryz.prog 168 [v,.int .u8 z] w λr w'=>r= .bool (j7 z t)/\ak [] w w':=by
 have e:=E;obtain⟨a,n,c,rfl,_,_⟩:=cQ E;have b:=ak.refl [] w;have K:=rB t;refine cm [.tmp 4] 39 Tryz.func168 rfl agi rfl rfl ?_;refine zr<|eH rfl λI F A _=>bQ F b e λb e=>?_;refine W ?_;refine jk (λ_:Unit=>[(2,.pointer<|some ⟨w.heap.size,0,none⟩),(7,.int .u8 z),(8,.bool (decide (z=114)||decide (z=42)))]) (λ_ w'=>w'=I) ?_ ?_;refine zc rfl (λo=>?_) λo=>?_;refine WZ ?_;exact⟨(),⟨rfl,rfl,congrArg Value.bool<|BV o⟩,rfl⟩;refine W ?_;exact⟨(),⟨rfl,rfl,congrArg Value.bool<|BW o⟩,rfl⟩;intro _ y _ H;obtain rfl:=H;refine zc rfl (λp=>?_) λp=>?_;have f:=BX p;refine W ?_;refine aA (Eg t _ L y e) ?_;rintro _ j ⟨rfl,d⟩;have C:=d.size;have b:=b.ext d;refine W ?_;exact⟨_,rfl,show Value.bool _=Value.bool _ from congrArg _ (by rw[j7,iP f];rfl),b⟩;have f:=BY p;refine W ?_;refine zc rfl (λq=>?_) λq=>?_;have g:=q;refine W ?_;refine aA (I9 _ _) ?_;rintro _ _ ⟨rfl,rfl⟩;refine W ?_;exact⟨_,rfl,show Value.bool _=Value.bool _ from congrArg _<|by rw[j7,iN f,iP g],b⟩;have g:=q;refine W ?_;refine zc rfl (λs=>?_) λs=>?_;have i:=s;refine W ?_;refine aA (Xr _ om _) ?_;rintro _ _ ⟨rfl,rfl⟩;refine W ?_;exact⟨_,rfl,show Value.bool _=Value.bool _ from congrArg _<|by rw[j7,iN f,iN g,iP i],b⟩;have i:=s;refine W ?_;refine zc rfl (λu=>?_) λu=>?_;have m:=u;refine W ?_;refine aA (CD t _ L y e) ?_;rintro _ j ⟨rfl,d⟩;have C:=d.size;refine cV d b e A λb e A=>?_;refine WZ ?_;apply oA 3 33 36 (ak [] j) rfl oQ;intro _;refine W ?_;refine aA (Qt t.size t (lR _) D B false _ L j e) ?_;rintro _ J ⟨rfl,l⟩;have M:=l.size;exact oQ;intro _ J l;have b:=b.ext l;refine W ?_;exact⟨_,rfl,show Value.bool _=Value.bool _ from congrArg _<|by rw[j7,iN f,iN g,iN i,iP m],b⟩;have m:=u;refine W ?_;refine aA (Qt t.size t (lR _) D B false _ L y e) ?_;rintro _ j ⟨rfl,d⟩;have C:=d.size;have b:=b.ext d;refine W ?_;exact⟨_,rfl,show Value.bool _=Value.bool _ from congrArg _<|by rw[j7,iN f,iN g,iN i,iN m],b⟩
def aj1 (h:aj) (w:World):bC Tryz.prog 167 [str h] w λr w'=>r=str (shapeOf h)/\w=w':=by refine cm [.tmp 2] 25 Tryz.func167 rfl agh rfl rfl ?_;refine W ?_;refine zc rfl (λm=>?_) λm=>?_;have a:=m;refine W ?_;exact⟨_,rfl,show str _=str _ from congrArg _<|by rw[shapeOf,iP a],rfl⟩;have a:=m;refine W ?_;refine jk (λ_:Unit=>[(3,str h),(6,.bool (decide (h=[109,111,118])||decide (h=[111,112,101,110])))]) (λ_ w'=>w'=w) ?_ ?_;refine zc rfl (λn=>?_) λn=>?_;refine WZ ?_;exact⟨(),⟨rfl,congrArg Value.bool<|BV n⟩,rfl⟩;refine W ?_;exact⟨(),⟨rfl,congrArg Value.bool<|BW n⟩,rfl⟩;intro l D _ e;obtain rfl:=e;refine zc rfl (λo=>?_) λo=>?_;have b:=BX o;refine W ?_;exact⟨_,rfl,show str _=str _ from congrArg _<|by rw[shapeOf,iN a,iP b],rfl⟩;have b:=BY o;refine W ?_;refine jk (λ_:Unit=>[(3,str h),(9,.bool (decide (h=[97,100,100])||decide (h=[115,117,98])||decide (h=[109,117,108])))]) (λ_ w'=>w'=D) ?_ ?_;refine zc rfl (λp=>?_) λp=>?_;refine WZ ?_;exact⟨(),⟨rfl,congrArg Value.bool<|Lf p⟩,rfl⟩;have C:=p;refine W ?_;refine zc rfl (λq=>?_) λq=>?_;refine WZ ?_;exact⟨(),⟨rfl,congrArg Value.bool<|Lg C q⟩,rfl⟩;refine W ?_;exact⟨(),⟨rfl,congrArg Value.bool<|Lh C q⟩,rfl⟩;intro l E _ e;obtain rfl:=e;refine zc rfl (λs=>?_) λs=>?_;have c:=Lj s;refine W ?_;exact⟨_,rfl,show str _=str _ from congrArg _<|by rw[shapeOf,iN a,iN b,iP c],rfl⟩;have c:=Lk s;refine W ?_;refine zc rfl (λt=>?_) λt=>?_;have d:=t;refine W ?_;exact⟨_,rfl,show str _=str _ from congrArg _<|by rw[shapeOf,iN a,iN b,iN c,iP d],rfl⟩;have d:=t;refine W ?_;refine zc rfl (λu=>?_) λu=>?_;have f:=u;refine W ?_;exact⟨_,rfl,show str _=str _ from congrArg _<|by rw[shapeOf,iN a,iN b,iN c,iN d,iP f],rfl⟩;have f:=u;refine W ?_;refine jk (λ_:Unit=>[(3,str h),(17,.bool (decide (h=[108,97,98])||decide (h=[122,101,114,111])))]) (λ_ w'=>w'=E) ?_ ?_;refine zc rfl (λv=>?_) λv=>?_;refine WZ ?_;exact⟨(),⟨rfl,congrArg Value.bool<|BV v⟩,rfl⟩;refine W ?_;exact⟨(),⟨rfl,congrArg Value.bool<|BW v⟩,rfl⟩;intro l F _ e;obtain rfl:=e;refine zc rfl (λj=>?_) λj=>?_;have g:=BX j;refine W ?_;exact⟨_,rfl,show str _=str _ from congrArg _<|by rw[shapeOf,iN a,iN b,iN c,iN d,iN f,iP g],rfl⟩;have g:=BY j;refine W ?_;refine zc rfl (λz=>?_) λz=>?_;have i:=z;refine W ?_;exact⟨_,rfl,show str _=str _ from congrArg _<|by rw[shapeOf,iN a,iN b,iN c,iN d,iN f,iN g,iP i],rfl⟩;have i:=z;refine W ?_;refine jk (λ_:Unit=>[(3,str h),(22,.bool (decide (h=[106,117,109,112])||decide (h=[104,97,108,116])))]) (λ_ w'=>w'=F) ?_ ?_;refine zc rfl (λy=>?_) λy=>?_;refine WZ ?_;exact⟨(),⟨rfl,congrArg Value.bool<|BV y⟩,rfl⟩;refine W ?_;exact⟨(),⟨rfl,congrArg Value.bool<|BW y⟩,rfl⟩;intro l _ _ e;obtain rfl:=e;refine zc rfl (λA=>?_) λA=>?_;have B:=BX A;refine W ?_;exact⟨_,rfl,show str _=str _ from congrArg _<|by rw[shapeOf,iN a,iN b,iN c,iN d,iN f,iN g,iN i,iP B],rfl⟩;have B:=BY A;refine W ?_;exact⟨_,rfl,show str _=str _ from congrArg _<|by rw[shapeOf,iN a,iN b,iN c,iN d,iN f,iN g,iN i,iN B],rfl⟩
def Xs (t:au) (hs:t.size<=100000) (N:WF t) (v:Value) (L:List Nat) (w:World) (K:ba L w v t):
  bC Tryz.prog 134 [v] w λr w'=>r= .bool (nP t)/\ak [] w w':=by
 have u:=K;obtain⟨a,n,c,rfl,C,f⟩:=cQ K;have e:=ak.refl [] w;have Eh:=mc t;have pJ:=aec<|aT t;refine cm [.tmp 2] 67 Tryz.func134 rfl afU rfl rfl ?_;refine zr<|eH rfl λw1 g l _=>cV g e f u λe f u=>?_;refine W ?_;refine aA (CD t _ L w1 u) ?_;rintro _ w2 ⟨rfl,H⟩;have dI:=H.size;refine cV H e f l λe f l=>?_;refine aA (aj1 _ _) ?_;rintro _ _ ⟨rfl,rfl⟩;refine W ?_;refine zc rfl (λj=>?_) λj=>?_;refine W ?_;exact⟨_,rfl,by rw[U8 j];rfl,e⟩;have y:=j;refine WZ ?_;apply oB 8 14 22 rfl oQ;intro R;refine WZ ?_;exact oQ;intro xx;refine WZ ?_;apply oP 5 23 28 rfl oQ;intro _;refine WZ ?_;exact oQ;intro xx;refine aX<|zc rfl (λz=>?_) λz=>?_;have hb:=(U7 C).symm.trans z;refine W ?_;exact⟨_,rfl,by rw[O8 hb];rfl,e⟩;have hb:=(U7 C).symm.trans z;have R:=aeb hb;have q:=O7 y;refine W ?_;refine eZ (λk:Nat=>[(1,.pointer<|some ⟨w.heap.size,0,none⟩),(3,str (shapeOf<|aT t)),(4,.int .i64 (k:Int))]) (λk w'=>ak [] w w'/\ak [] w2 w'/\1<=k/\k<=t.ag.length/\∀i,i<k->1<=i->wj t i=true) (λk=>t.ag.length-k) (1) (⟨rfl,rfl,rfl⟩) (⟨e,ak.refl [] _,om,om,by intro i J j;omega⟩) λd _ _ T=>?_;obtain⟨e,g,hk,_,I⟩:=T;refine bQ g f l λf l=>?_;refine W ?_;refine zc rfl (λS=>?_) λS=>?_;have U:=dN (ps:=t.ag) (i:=d) om;obtain⟨b,off,Y,pn,Z,rfl,_,O,o⟩:=fE f U;have nO:=List.length_pos_iff.2 y;refine WZ ?_;apply jN cY 14 (rA 36 14) (rA 36 14) [[],[0],[],[1,2],[3],[],[],[],[7],[6,8],[9],[5,10],[4,11],[12]] [It.v _,It.v _,It.v _,It.v _,It.v _,It.v _,It.v _,It.v _,It.v _,It.v _,It.v _,It.v _,It.v _,It.v (.bool<|!wj t d)] de rfl;intro _ aC;refine VA ?_;refine vk aC (λx s m=>?_) ?_;refine adS rfl rfl rfl rfl (show(if((shapeOf<|aT t).length:Int)<(d:Int) then((shapeOf<|aT t).length:Int) else(d:Int))=((min d (shapeOf<|aT t).length:Nat):Int) from by split<;>omega) ?_;exact pv;refine vk aC (λx s m=>?_) ?_;refine yC rfl rfl rfl rfl rfl (show IntKind.i64.wrap (((min d (shapeOf<|aT t).length:Nat):Int)-1)=((min d (shapeOf<|aT t).length-1:Nat):Int) from by rw[wrap_i64 _ om om];omega) ?_;exact pv;refine vk aC (λx s m=>?_) ?_;refine ln jm rfl rfl rfl rfl (j4 om) ?_;exact pv;refine vk aC (λx s m=>?_) ?_;have o:=o.ext m;refine aA (aj0 (nth t.ag d) (by have:=kO (t:=t) (i:=d) om;omega) (N.nth om) _ _ L s<|iF o) ?_;rintro _ _ ⟨rfl,F⟩;have mJ:=F.size;exact pk F;exact VZ;intro x _ Q;refine bQ Q e g λe g=>?_;change OW _ _ _ _ [] (bf (aY _ x _)<|zZ 36 [_,_,_,_,_,_,_,_,_,_,_,_,_,_]) _;refine aX<|zc rfl (λA=>?_) λA=>?_;have D:wj t d=false:=by simpa using A
 refine W ?_;exact⟨_,rfl,by rw[aed om hk D];rfl,e⟩;have D:wj t d=true:=by simpa using A
 refine W ?_;exact⟨d+1,⟨rfl,rfl,rfl⟩,⟨e,g,om,om,by intro i J j;rcases Nat.lt_or_ge i d with h|h;exact I i h j;rw[show i=d by omega];exact D⟩,om⟩;have E:=aee y hb λi J=>I i om;have V:=dN q.2.1;obtain⟨b,off,Y,pn,Z,rfl,_,O,o⟩:=fE f V;refine WI ?_;refine zi (i:=0) cH aK rfl rfl (by rw[C];exact q.2.1)<|W ?_;refine zc rfl (λB=>?_) λB=>?_;have p:aT t=[103,101,116]:=q.2.2.trans B;have zg:=aea hb p;have X:=dN (ps:=t.ag) (i:=3) om;obtain⟨_,_,_,_,_,P,M,_,_⟩:=fE f X;cases P;refine zr<|zf jO rfl<|zl jg rfl (l.at rfl)<|zi (i:=3) cH aK rfl rfl om<|zf lr rfl<|zl fA rfl (M 0 _ rfl)<|aA (I9 _ _) ?_;rintro _ _ ⟨rfl,rfl⟩;refine W ?_;exact⟨_,rfl,show Value.bool _=Value.bool _ from congrArg _<|by rw[E,show decide (aT t≠[103,101,116])=false from dF λh=>h p,Bool.false_or],e⟩;have p:aT t≠[103,101,116]:=λh=>B<|q.2.2.symm.trans h;refine W ?_;exact⟨_,rfl,by rw[E,dT p];rfl,e⟩
def aj2 (s:aj) (w:World):bC Tryz.prog 117 [str s] w λr w'=>r= .bool (uY s)/\ak [] w w':=by have a:=ak.refl [] w;refine cm [.tmp 2] 15 Tryz.func117 rfl afI rfl rfl ?_;refine W ?_;refine aA (y0 s [] w sm) ?_;rintro _ _ ⟨n,e⟩;have y:=e.size;have a:=a.ext e;obtain⟨t,_,rfl,b,l⟩:=n;obtain⟨_,_,_,rfl,_,_⟩:=cQ b;refine W ?_;refine dw aK rfl rfl rfl λ_ g i _=>?_;have a:=a.grow;have a:=a.ext g;have b:=b.grow;have b:=b.ext g;refine cJ aK rfl rfl rfl i rfl λm f i _=>?_;have a:=a.aB f sx;have b:=b.aB f sx;refine W ?_;apply oA 3 11 14 (ak [] m) rfl oQ;intro p;obtain⟨q,d⟩:=Option.isSome_iff_exists.1 p;have v:=l q d;have j:=wh d;have o:=BU d;rw[<-v] at j o;refine W ?_;refine aA (Qt t.size t (lR _) om j false _ _ m b) ?_;rintro _ u ⟨rfl,c⟩;have z:=c.size;exact oQ;intro _ u c;have a:=a.ext c;refine W ?_;exact⟨_,rfl,show Value.bool _=Value.bool _ from congrArg _<|Ll l,a⟩
def Jb (s:aj) (w:World):bC Tryz.prog 96 [str s] w λr w'=>r= .bool (uZ s)/\ak [] w w':=by have a:=ak.refl [] w;refine cm [.tmp 2] 15 Tryz.func96 rfl ah7 rfl rfl ?_;refine W ?_;refine aA (y0 s [] w sm) ?_;rintro _ _ ⟨n,e⟩;have y:=e.size;have a:=a.ext e;obtain⟨t,_,rfl,b,l⟩:=n;obtain⟨_,_,_,rfl,_,_⟩:=cQ b;refine W ?_;refine dw aK rfl rfl rfl λ_ g i _=>?_;have a:=a.grow;have a:=a.ext g;have b:=b.grow;have b:=b.ext g;refine cJ aK rfl rfl rfl i rfl λm f i _=>?_;have a:=a.aB f sx;have b:=b.aB f sx;refine W ?_;apply oA 3 11 14 (ak [] m) rfl oQ;intro p;obtain⟨q,d⟩:=Option.isSome_iff_exists.1 p;have v:=l q d;have j:=wh d;have o:=BU d;rw[<-v] at j o;refine W ?_;refine aA (Xs t om j _ _ m b) ?_;rintro _ u ⟨rfl,c⟩;have z:=c.size;exact oQ;intro _ u c;have a:=a.ext c;refine W ?_;exact⟨_,rfl,show Value.bool _=Value.bool _ from congrArg _<|Ll l,a⟩
def Mp (s:aj) (w:World):bC Tryz.prog 97 [str s] w λr w'=>r= .bool (F9 s)/\ak [] w w':=by have a:=ak.refl [] w;refine cm [.tmp 2] 31 Tryz.func97 rfl ah8 rfl rfl ?_;refine W ?_;refine aA (y0 s [] w sm) ?_;rintro _ _ ⟨A,o⟩;have I:=o.size;have a:=a.ext o;obtain⟨t,_,rfl,d,v⟩:=A;obtain⟨_,_,_,rfl,q,c⟩:=cQ d;refine W ?_;refine dw aK rfl rfl rfl λ_ l e _=>?_;have a:=a.grow;have a:=a.ext l;have d:=d.grow;have d:=d.ext l;have c:=c.grow;have c:=c.ext l;refine cJ aK rfl rfl rfl e rfl λy j e _=>?_;have a:=a.aB j sx;have d:=d.aB j sx;have c:=c.aB j sx;refine W ?_;apply oA 3 11 14 (ak [] y) rfl oQ;intro C;obtain⟨E,n⟩:=Option.isSome_iff_exists.1 C;have H:=v E n;have p:=wh n;have B:=BU n;rw[<-H] at p B;refine W ?_;refine aA (Xs t om p _ _ y d) ?_;rintro _ F ⟨rfl,g⟩;have J:=g.size;exact oQ;intro z F g;refine cV g a c e λa c e=>?_;refine WZ ?_;apply oB 15 15 30 rfl oQ;intro u;simp only[aE] at u;have m:=aef u.2;have D:=dN m;obtain⟨b,off,_,_,_,rfl,_,_,_⟩:=fE c D;refine WI ?_;refine zi (i:=0) cH aK rfl rfl (by rw[q];exact m)<|WZ ?_;apply oP 7 22 29 rfl oQ;intro _;refine WI ?_;refine zi (i:=0) cH aK rfl rfl (by rw[q];exact m)<|WZ ?_;exact oQ;intro z;exact oQ;intro z;refine W ?_;exact⟨_,rfl,show Value.bool _=Value.bool _ from congrArg _ (by rw[Bool.and_assoc];exact Ll (f:=Lm) v),a⟩
end Go.Proofs.YtjkkipfboijfaaaGreatDoor
