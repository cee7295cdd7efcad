/- Lemmas for the law FnLink, no statement of their own: no conditions. -/
import Derived.Test.YtcildnfcpkpomaaGreatDoorHb
set_option maxHeartbeats 4000000
set_option linter.unusedVariables false
set_option linter.unusedSimpArgs false
namespace Go.Proofs.YtcildnfcpkpomaaGreatDoor
open Go
variable {h s x:ak} {p t:aq} {ps ts:List aq} {b d i k m m' off sz:Nat} {c:UInt8} {G L L' L1:List Nat} {w w' w1 w2:World} {V v v1 v3 v4 v5 v6 v8:Value} {vs:List Value} {xs:List ak} {g:Option Nat} {rows:List (List C)} {J:List Nat->List Value->World->Prop}
theorem ai0 (n:Nat):(aS n).all fA=true:=by
 induction n using Nat.strongRecOn with
 |_ n b=>
  have a:∀k,k<10->fA (UInt8.ofNat (48+k))=true:=by decide
  unfold aS;by_cases h:n<10
  .rw[iP h,List.all_cons,a n h];rfl
  .rw[iN h,List.all_append,b (n/10) om,List.all_cons,a (n%10) om];rfl
theorem ai1 (n:Nat):Good (bK (97::aS n)):=.au _ sm (by rw[List.all_cons,ai0];decide)
section
variable {p:List cw} {st:TS} {o:Nat} {t:aq}
theorem step_ok (Y:Ep p) (g:x6 st) (N:st.length=40) (hg:Good t) (T:nk t=true) {b:TS} (h:stepT p st o t=some b):x6 b/\b.length=40:=by
 obtain⟨V,A,Q⟩:=IY T;have Z:ie (nth t.ag 1).au<st.length:=by
  rw[N];unfold ie uV;cases numeral (nth t.ag 1).au with
  |none=>decide
  |some z=>
   by_cases P:0<=z/\z<=39
   .simp only[P,and_self,if_true];omega
   .simp only[P,if_false];decide
 have set:∀{u:Option aq},(∀y,u=some y->Good y/\oI y)->eW st (ie (nth t.ag 1).au) u=some b->x6 b/\b.length=40:=fun{u} hu hs=>by obtain⟨X,R⟩:=aiU g Z hu hs;exact⟨X,R.trans N⟩
 have c:some st=some b->x6 b/\b.length=40:=λe=>by cases e;exact⟨g,N⟩
 have d:∀{q:Nat},eV st (nth t.ag q).au=none\/∃x,eV st (nth t.ag q).au=some x:=fun{q}=>by cases eV st (nth t.ag q).au<;>simp
 cases hk:ik st (eA (bC t) t.ag.length) t.ag (eA (bC t) t.ag.length).length with
 |none=>rw[Wk T hk] at h;cases h
 |some xs=>
  by_cases c1:bC t=[99,111,110,115,116]
  .rw[Wb c1] at h;exact set (λy e=>by cases e;exact⟨Eo.fG,Eo.eok⟩) h
  by_cases c2:bC t=[109,111,118]
  .rcases d (q:=2) with a|⟨x,a⟩
   .simp[stepT,mq,c2,a,eW] at h
   .rw[Wc c2 a] at h;exact set (λy e=>by cases e;exact⟨(Gz g a).fG,(Gz g a).eok⟩) h
  by_cases D:bC t=[97,100,100]\/bC t=[115,117,98]\/bC t=[109,117,108]
  .rcases d (q:=2) with a|⟨x,a⟩
   .rcases D with j|j|j<;>simp[stepT,mq,j,a,eW,tR] at h
   .rcases d (q:=3) with O|⟨y,O⟩
    .rcases D with j|j|j<;>simp[stepT,mq,j,a,O,eW,tR] at h
    .rw[Wd D a O] at h;split at h
     .exact set (λy e=>by cases e;exact⟨Eo.fG,Eo.eok⟩) h
     .cases h
  by_cases I:bC t=[110,101,119]
  .cases M:nZ st (t.ag.drop 2) with
   |none=>rw[Wf I M] at h;cases h
   |some _=>rw[We I M] at h;have n:=(V9 g M).2;exact set (λy e=>by cases e;exact⟨LD de de λt l=>(n t l).fG,V8 de λt l=>(n t l).eok⟩) h
  by_cases r:bC t=[103,101,116]
  .rcases d (q:=2) with a|⟨x,a⟩
   .simp[stepT,mq,r,a,eW] at h
   .rw[PJ r a] at h;split at h
    .rename_i S;have P:0<=xW (nth t.ag 3).au:=by
      have s:=Q 2 (by simp[eA,r]);rw[show(eA (bC t) t.ag.length).getD 2 0=109 from by simp[eA,r]] at s;have v:((numeral (nth t.ag 3).au).isSome&&decide (0<=(numeral (nth t.ag 3).au).getD 0))=true:=by rw[<-Pc];exact s
      rw[aE,dE] at v;exact v.2
     have E:=Gz g a;have B:=E.nth (i:=(xW (nth t.ag 3).au+1).toNat) om;exact set (λy e=>by cases e;exact⟨B.fG,B.eok⟩) h
    .cases h
  by_cases J:bC t=[108,97,98]
  .cases f:bQ p (nth t.ag 2).au with
   |none=>rw[LO J f] at h;cases h
   |some C=>rw[LO J f] at h;have n:=(PH Y f).2;exact set (λy e=>by cases e;exact⟨LD de de λt l=>(n t l).fG,V8 de λt l=>(n t l).eok⟩) h
  by_cases m:bC t=[112,97,99,107]
  .rcases d (q:=2) with a|⟨x,a⟩
   .simp[stepT,mq,m,a,eW] at h
   .rw[Wg m a] at h;split at h
    .have PM:t.ag.length=5:=by rw[A];simp[eA,m]
     have s:=Q 2 (by simp[eA,m]);rw[show(eA (bC t) t.ag.length).getD 2 0=69 from by simp[eA,m]] at s;have v:((decide ((nth t.ag 3).ag.length=2)&&decide (bC (nth t.ag 3)=[101]))&&ga false (nth t.ag 3))=true:=by rw[<-Pd];exact s
     rw[aE] at v;have U:=hg.nth (i:=3) om;exact set (λy e=>by cases e;exact⟨U,V7 U.wf _ v.2⟩) h
    .cases h
  by_cases K:bC t=[111,112,101,110]
  .rcases d (q:=2) with a|⟨x,a⟩
   .simp[stepT,mq,K,a,eW] at h
   .rw[PK K a] at h;split at h
    .rename_i S;have E:=Gz g a;have R:=E.eok.two S;have B:=E.nth (i:=1) om;exact set (λy e=>by cases e;exact⟨Pm (ai1 o) B.fG,aiQ (.au _) (by intro h;cases h) B.eok⟩) h
    .cases h
  by_cases L:bC t=[122,101,114,111]
  .rcases d (q:=1) with a|⟨x,a⟩
   .simp[stepT,L,a,tR] at h
   .rw[Wh L a] at h;cases f:bQ p (nth t.ag 2).au with
    |none=>rw[f] at h;cases h
    |some C=>
     rw[f,Option.bind_some] at h;split at h
     .exact c h
     .cases h
  by_cases F:bC t=[106,117,109,112]
  .rcases d (q:=1) with a|⟨x,a⟩
   .simp[stepT,F,a] at h
   .rw[Wi F a] at h;split at h
    .exact c h
    .cases h
  have H:bC t=[104,97,108,116]:=Classical.byContradiction λf=>V (by simp[eA,c1,c2,D,I,r,J,m,K,L,F,f]);rw[Wj H] at h;rcases d (q:=1) with a|⟨x,a⟩
  .rw[a] at h;cases h
  .rw[a] at h;exact c h
end
/-! ### Blocks -/
structure yY (b:cw):Prop where
 regs:b.regs.length<=40
 rok:∀t∈b.regs,rl t
 code:b.code.length<=80
 cok:∀t∈b.code,Ax t/\Good t/\nk t=true
theorem ai3 (h:bT s=some t) (e:ga false t=true):rl t:=by obtain⟨a,b,c,d⟩:=wI h;refine⟨a,?_,V7 a.wf _ e⟩;unfold sS;rw[aE,dE,dE,Cc a.wf,c];exact⟨b,d⟩
theorem PN {b:Bk} (h:mo b=true):yY (dz b):=by
 obtain⟨_,f,g⟩:=LF h;unfold mo at h;simp only[aE,dE] at h;refine⟨by simp[dz];omega,λt e=>?_,by simp[dz];omega,λt e=>?_⟩
 .obtain⟨s,d,rfl⟩:=List.mem_map.1 e;obtain⟨u,a,c⟩:=f s d;rw[LC a];exact ai3 a c
 .obtain⟨s,d,rfl⟩:=List.mem_map.1 e;obtain⟨u,a,c⟩:=g s d;rw[LC a];exact⟨afa a,(wI a).1,by rw[Vl];exact c⟩
theorem Ck {bs:List Bk} (h:gP bs=true):Ep (bs.map dz)/\∀b,b∈bs.map dz->yY b:=by
 have hb:=Cd h;have c:∀b,b∈bs.map dz->yY b:=λb a=>by obtain⟨k,hk,rfl⟩:=List.mem_map.1 a;exact PN<|hb k hk
 refine⟨⟨?_,λb a=>⟨(c b a).regs,(c b a).rok⟩⟩,c⟩;unfold gP at h;simp only[aE,dE] at h;simp;omega
theorem ai4 {b:cw} (h:yY b):x6 (Ce b)/\(Ce b).length=40:=by
 refine⟨λi t a=>?_,by simp[Ce]⟩;unfold Ce at a;rw[gG,List.getElem?_map] at a;by_cases c:i<40
 .rw[List.getElem?_range c] at a;simp only[Option.map_some,Option.getD_some] at a;split at a
  .rename_i hb;cases a;exact h.rok _ (List.mem_of_getElem?<|eK hb)
  .cases a
 .rw[List.getElem?_eq_none (by simpa using c)] at a;cases a
theorem Wo {p:List cw} {a:TS} {o:Nat} (h:stepT p a o t=none):(wJ p a o (t::ts)).2=0:=by unfold wJ;rw[h]
theorem PO {p:List cw} {b a:TS} {o:Nat} (h:stepT p b o t=some a):(wJ p b o (t::ts)).2=(wJ p a (tS o t) ts).2+1:=by
 conv=>lhs;unfold wJ
 rw[h]
theorem ai5 (h:i<ts.length):ts.drop i=nth ts i::ts.drop (i+1):=by rw[xU h,List.drop_eq_getElem_cons h]
theorem ai6 (h:Good t):t.text≠[]:=by grind [Vr]
theorem rl.short (h:rl t):t.text.length<=12000:=by have:=h.fits;unfold sS at this;rw[aE,dE,dE,Cc h.fG.wf] at this;exact this.2
structure GA (s:ak) (t:aq):Prop where
 some:∀t',bT s=some t'->t=t'
 none:s=[]->bC t=[]
theorem Wp:bT []=none:=by decide
/-! ### Types -/
inductive Ty where
 |i
 |op (f:Bool) (a b:Ty)
def k7 (f:Bool):ak:=if f then[62] else[42]
def Ty.av:Ty->aq
 | .i=>bK [105]
 | .op f a b=>.mk [] [bK<|k7 f,a.av,b.av]
def Ty.text (t:Ty):ak:=t.av.text
def Ty.n:Ty->Nat
 | .i=>1
 | .op _ a b=>1+a.n+b.n
theorem ai7 (f:Bool):Good (bK<|k7 f):=by cases f<;>exact .au _ de de
theorem Ty.fG (t:Ty):Good t.av:=by
 induction t with
 |i=>exact .au _ de de
 |op f a b c d=>
  refine .list _ sm λp e=>?_;simp only[mC,List.not_mem_nil,or_false] at e;rcases e with rfl|rfl|rfl
  .exact ai7 f
  .exact c
  .exact d
theorem ai8 (f:Bool):(bK<|k7 f).text=k7 f:=by cases f<;>exact sR de
theorem Ty.PQ:Ty.i.text=[105]:=sR de
theorem Ty.LU (f:Bool) (a b:Ty):(Ty.op f a b).text=40::(k7 f++32::(a.text++32::(b.text++[41]))):=by show(aq.mk [] [bK<|k7 f,a.av,b.av]).text=_;rw[tQ,rZ,rZ,rY,ai8];simp[Ty.text]
theorem PR (f:Bool):(k7 f).length=1:=by cases f<;>rfl
theorem Ty.pos (t:Ty):1<=t.n:=by cases t<;>simp[Ty.n];omega
theorem Ty.len (t:Ty):t.text.length+3<=4*t.n:=by induction t<;>grind [Ty.PQ,Ty.n,Ty.LU,PR]
theorem Ty.deep (t:Ty):t.av.depth+1<=t.n:=by
 induction t with
 |i=>simp[Ty.av,bK,aq.depth,aq.depth.deeps,Ty.n]
 |op f a b _ _=>have c:(bK<|k7 f).depth=0:=rfl;have d:=a.pos;have e:=b.pos;show aq.depth.deeps [bK<|k7 f,a.av,b.av]+1<=_;simp only[aq.depth.deeps,c,Ty.n];omega
theorem Ty.size (t:Ty):t.av.size<=5*t.n:=by
 induction t with
 |i=>simp[Ty.av,bK,aq.size,aq.size.sizes,Ty.n]
 |op f a b _ _=>
  have c:(bK<|k7 f).size=2:=by cases f<;>rfl
  show 1+0+aq.size.sizes [bK<|k7 f,a.av,b.av]<=_;simp only[aq.size.sizes,c,Ty.n];omega
theorem Ty.bT {t:Ty} (h:t.n<=60):bT t.text=some t.av:=Pj t.fG (by have:=t.deep;omega) (by have:=t.len;show t.text.length<=_;omega)
theorem Ty.ne (t:Ty):t.text≠[]:=ai6 t.fG
theorem IZ:∀{t u:Ty},t.av=u.av->t=u
 | .i,.i,_=>rfl
 | .i,.op _ _ _,h=>by simp[Ty.av,bK] at h
 | .op _ _ _,.i,h=>by simp[Ty.av,bK] at h
 | .op f a b,.op g c d,h=>by simp only[Ty.av,aq.mk.injEq,true_and,List.cons.injEq,and_true] at h;obtain⟨e,i,j⟩:=h;rw[IZ i,IZ j];cases f<;>cases g<;>first|rfl|(simp[bK,k7] at e)
theorem Ty.inj {t u:Ty} (h:t.text=u.text):t=u:=IZ (LB t.fG u.fG h)
/-! ### Forms that are types -/
mutual
def gI:aq->Nat
 | .mk a ps=>if a≠[] then 1 else kD ps
def kD:List aq->Nat
 |[]=>0
 |t::ts=>gI t+kD ts
end
theorem Wq:∀(xs a:List aq),kD (xs++a)=kD xs+kD a:=by intro x;induction x<;>grind [kD]
theorem PS (t:aq):gI t=if t.au≠[] then 1 else kD t.ag:=by cases t with|mk a ps=>rw[gI];rfl
theorem Wr (h:ps[i]?=some p):kD (ps.take<|i+1)=kD (ps.take i)+gI p:=by rw[List.take_add_one,h,Wq];simp[kD]
mutual
theorem ai9:∀t:aq,gI t<=t.size
 | .mk a ps=>by have:=PT ps;unfold gI;simp only[aq.size];split<;>omega
theorem PT:∀ps:List aq,kD ps<=aq.size.sizes ps
 |[]=>by simp[kD]
 |t::ts=>by have a:=ai9 t;have b:=PT ts;simp only[kD,aq.size.sizes];omega
end
theorem PU {a:ak} (h:a≠[]):gI (bK a)=1:=by simp[gI,bK,h]
theorem Ty.gI (t:Ty):gI t.av=t.n:=by
 induction t with
 |i=>simp[Ty.av,PU,Ty.n]
 |op f a b c d=>have e:Go.Proofs.YtcildnfcpkpomaaGreatDoor.gI (bK<|k7 f)=1:=PU (by cases f<;>decide);show Go.Proofs.YtcildnfcpkpomaaGreatDoor.gI (.mk [] [bK<|k7 f,a.av,b.av])=_;simp only[Go.Proofs.YtcildnfcpkpomaaGreatDoor.gI,kD,e,c,d,Ty.n];simp;omega
mutual
def qx:aq->Bool
 | .mk a ps=>if a≠[] then decide (a=[105]) else vi ps
def vi:List aq->Bool
 |[h,x,y]=>(decide (h.au=[62])||decide (h.au=[42]))&&(qx x&&qx y)
 |_=>false
end
theorem Ws (t:aq):qx t=if t.au≠[] then decide (t.au=[105]) else vi t.ag:=by cases t with|mk a ps=>rw[qx];rfl
theorem aja (c:WF t):qx t=true↔∃u:Ty,t=u.av:=by
 constructor
 .intro h;have o:∀m (t:aq),t.size<=m->WF t->qx t=true->∃u:Ty,t=u.av:=by
   intro m;induction m with
   |zero=>intro t _;have:=sQ t;omega
   |succ m q=>
    intro t z c h;cases c with
    |au a p=>simp only[qx,iP p,dE] at h;exact⟨.i,by rw[h];rfl⟩
    |list ps _ c=>
     simp only[qx] at h;rw[iN de] at h
     match ps,h with
     |[g,x,y],h=>
      simp only[vi,aE,oE,dE] at h;obtain⟨d,A,B⟩:=h;simp only[aq.size,aq.size.sizes] at z;obtain⟨u,rfl⟩:=q x om (c x sm) A;obtain⟨v,rfl⟩:=q y om (c y sm) B;have r:∀s:ak,s≠[]->g.au=s->g=bK s:=λs C e=>by
       have j:=c g sm;cases j with
       |au a p=>cases e;rfl
       |list _ _ _=>exact absurd e.symm C
      rcases d with d|d
      .exact⟨.op true u v,by rw[r _ de d];rfl⟩
      .exact⟨.op false u v,by rw[r _ de d];rfl⟩
  exact o t.size t (lR _) c h
 .rintro⟨u,rfl⟩;induction u with
  |i=>rfl
  |op f a b l n=>show qx (.mk [] [bK<|k7 f,a.av,b.av])=true;have:=l a.fG.wf;have:=n b.fG.wf;simp only[qx,vi, *];cases f<;>simp[bK,k7,aq.au]
def k8 (t:aq):Bool:=qx t&&decide (gI t<=16)
theorem Cl (a:WF t):k8 t=true↔∃u:Ty,t=u.av/\u.n<=16:=by
 unfold k8;rw[aE,dE,aja a];constructor
 .rintro⟨⟨u,rfl⟩,h⟩;exact⟨u,rfl,by rw[<-u.gI];exact h⟩
 .rintro⟨u,rfl,h⟩;exact⟨⟨u,rfl⟩,by rw[u.gI];exact h⟩
/-! ### Names -/
def eH (s:ak):Bool:=decide (1<=s.length)&&decide (s.length<=4)&&(decide (97<=s.getD 0 0)&&decide (s.getD 0 0<=122))&&(s.drop 1).all ja
def r7 (s:ak):Bool:=(numeral s).isSome||eH s
theorem yb (h:eH s=true):s≠[]:=by grind [eH]
/-! ### Expressions -/
inductive Ex where
 |at(s:ak)
 |un (h:ak) (a:Ex)
 |bi (h:ak) (a b:Ex)
 |ite (a b c:Ex)
 |lt (x:ak) (a b:Ex)
 |fn (f x:ak) (A B:Ty) (e:Ex)
abbrev ix:ak:=[105,102]
abbrev il:ak:=[108,101,116]
abbrev iI:ak:=[102,117,110]
abbrev Er:ak:=[102,115,116]
abbrev sV:ak:=[115,110,100]
abbrev lz:ak:=[99,97,108,108]
abbrev AD:ak:=[112,97,105,114]
def Ex.av:Ex->aq
 | .at s=>bK s
 | .un h a=>.mk [] [bK h,a.av]
 | .bi h a b=>.mk [] [bK h,a.av,b.av]
 | .ite a b c=>.mk [] [bK ix,a.av,b.av,c.av]
 | .lt x a b=>.mk [] [bK il,bK x,a.av,b.av]
 | .fn f x A B e=>.mk [] [bK iI,bK f,bK x,A.av,B.av,e.av]
def im (h:ak):Bool:=decide (h=Er)||decide (h=sV)
def iJ (h:ak):Bool:=decide (h=[43])||decide (h=[45])||decide (h=[42])||decide (h=lz)||decide (h=AD)
def Ex.ok:Ex->Prop
 | .at s=>r7 s=true
 | .un h a=>im h=true/\a.ok
 | .bi h a b=>iJ h=true/\a.ok/\b.ok
 | .ite a b c=>a.ok/\b.ok/\c.ok
 | .lt x a b=>eH x=true/\a.ok/\b.ok
 | .fn f x A B e=>eH f=true/\eH x=true/\f≠x/\A.n<=16/\B.n<=16/\e.ok
def Ex.n:Ex->Nat
 | .at _=>1
 | .un _ a=>1+a.n
 | .bi _ a b=>1+a.n+b.n
 | .ite a b c=>1+a.n+b.n+c.n
 | .lt _ a b=>2+a.n+b.n
 | .fn _ _ A B e=>3+A.n+B.n+e.n
mutual
def dZ:aq->Bool
 | .mk a ps=>if a≠[] then r7 a else pj ps
def pj:List aq->Bool
 |[h,a]=>im h.au&&dZ a
 |[h,a,b]=>iJ h.au&&(dZ a&&dZ b)
 |[h,a,b,c]=>if h.au=ix then dZ a&&(dZ b&&dZ c) else if h.au=il then eH a.au&&(dZ b&&dZ c) else false
 |[h,f,x,A,B,e]=>decide (h.au=iI)&&(eH f.au&&eH x.au&&decide (f.au≠x.au)&&k8 A&&k8 B&&dZ e)
 |_=>false
end
theorem Cm (c:WF t) (b:s≠[]) (e:t.au=s):t=bK s:=by
 cases c with
 |au a _=>cases e;rfl
 |list _ _ _=>exact absurd e.symm b
theorem Wt (k:im h=true):h≠[]:=by rintro rfl;cases k
theorem Wu (k:iJ h=true):h≠[]:=by rintro rfl;cases k
theorem rm (k:r7 s=true):s≠[]:=by rintro rfl;cases k
theorem ajc (d:WF t):dZ t=true↔∃e:Ex,t=e.av/\e.ok:=by
 constructor
 .intro h;have M:∀m (t:aq),t.size<=m->WF t->dZ t=true->∃e:Ex,t=e.av/\e.ok:=by
   intro m;induction m with
   |zero=>intro t _;have:=sQ t;omega
   |succ m j=>
    intro t D d h;cases d with
    |au a P=>simp only[dZ,iP P] at h;exact⟨.at a,rfl,h⟩
    |list ps _ d=>
     simp only[dZ] at h;rw[iN de] at h
     match ps,h with
     |[n,x],h=>simp only[pj,aE] at h;simp only[aq.size,aq.size.sizes] at D;obtain⟨u,rfl,o⟩:=j x om (d x sm) h.2;exact⟨.un n.au u,by rw[Cm (d n sm) (Wt h.1) rfl];rfl,h.1,o⟩
     |[n,x,y],h=>simp only[pj,aE] at h;simp only[aq.size,aq.size.sizes] at D;obtain⟨u,rfl,o⟩:=j x om (d x sm) h.2.1;obtain⟨v,rfl,r⟩:=j y om (d y sm) h.2.2;exact⟨.bi n.au u v,by rw[Cm (d n sm) (Wu h.1) rfl];rfl,h.1,o,r⟩
     |[n,x,y,z],h=>
      simp only[pj] at h;simp only[aq.size,aq.size.sizes] at D;split at h
      .rename_i p;simp only[aE] at h;obtain⟨u,rfl,o⟩:=j x om (d x sm) h.1;obtain⟨v,rfl,r⟩:=j y om (d y sm) h.2.1;obtain⟨q,rfl,K⟩:=j z om (d z sm) h.2.2;exact⟨.ite u v q,by rw[Cm (d n sm) de p];rfl,o,r,K⟩
      .split at h
       .rename_i p;simp only[aE] at h;obtain⟨v,rfl,r⟩:=j y om (d y sm) h.2.1;obtain⟨q,rfl,K⟩:=j z om (d z sm) h.2.2;exact⟨.lt x.au v q,by rw[Cm (d n sm) de p,Cm (d x sm) (yb h.1) rfl];rfl,h.1,r,K⟩
       .cases h
     |[n,f,x,A,B,e],h=>simp only[pj,aE,dE] at h;simp only[aq.size,aq.size.sizes] at D;obtain⟨p,⟨⟨⟨⟨C,E⟩,F⟩,H⟩,I⟩,J⟩:=h;obtain⟨u,rfl,o⟩:=j e om (d e sm) J;obtain⟨Q,rfl,O⟩:=(Cl<|d A sm).1 H;obtain⟨R,rfl,N⟩:=(Cl<|d B sm).1 I;exact⟨.fn f.au x.au Q R u,by rw[Cm (d n sm) de p,Cm (d f sm) (yb C) rfl,Cm (d x sm) (yb E) rfl];rfl,C,E,F,O,N,o⟩
  exact M t.size t (lR _) d h
 .rintro⟨e,rfl,i⟩;clear d;induction e with
  |«at» s=>show dZ (.mk s [])=true;simp only[dZ];rw[iP (rm i)];exact i
  |un h a g=>show dZ (.mk [] [bK h,a.av])=true;simp only[dZ];rw[iN de];simp only[pj,aE];exact⟨i.1,g i.2⟩
  |bi h a b g l=>show dZ (.mk [] [bK h,a.av,b.av])=true;simp only[dZ];rw[iN de];simp only[pj,aE];exact⟨i.1,g i.2.1,l i.2.2⟩
  |ite a b c g l L=>show dZ (.mk [] [bK ix,a.av,b.av,c.av])=true;simp only[dZ];rw[iN de];simp only[pj];rw[iP (show(bK ix).au=ix from rfl)];simp only[aE];exact⟨g i.1,l i.2.1,L i.2.2⟩
  |lt x a b g l=>show dZ (.mk [] [bK il,bK x,a.av,b.av])=true;simp only[dZ];rw[iN de];simp only[pj];rw[iN<|show¬(bK il).au=ix by decide,iP (show(bK il).au=il from rfl)];simp only[aE];exact⟨i.1,g i.2.1,l i.2.2⟩
  |fn f x A B e j=>show dZ (.mk [] [bK iI,bK f,bK x,A.av,B.av,e.av])=true;obtain⟨C,E,F,H,I,J⟩:=i;simp only[dZ];rw[iN de];simp only[pj,aE,dE];exact⟨rfl,⟨⟨⟨⟨C,E⟩,F⟩,(Cl A.fG.wf).2 ⟨A,rfl,H⟩⟩,(Cl B.fG.wf).2 ⟨B,rfl,I⟩⟩,j J⟩
/-! ### Parts -/
def Ex.head:Ex->ak
 | .at _=>[]
 | .un h _=>h
 | .bi h _ _=>h
 | .ite _ _ _=>ix
 | .lt _ _ _=>il
 | .fn _ _ _ _ _=>iI
def Ex.from:Ex->Nat
 | .lt _ _ _=>2
 | .fn _ _ _ _ _=>5
 |_=>1
def Ex.kids:Ex->List Ex
 | .at _=>[]
 | .un _ a=>[a]
 | .bi _ a b=>[a,b]
 | .ite a b c=>[a,b,c]
 | .lt _ a b=>[a,b]
 | .fn _ _ _ _ e=>[e]
def Ex.binds:Ex->Nat->List ak
 | .lt x _ _,3=>[x]
 | .fn f x _ _ _,_=>[f,x]
 |_,_=>[]
def Ex.jv:Ex->Bool
 | .at _=>true
 |_=>false
def gT (e:Ex) (j:Nat):Ex:=e.kids.getD j<|.at []
theorem Ex.wf {e:Ex} (h:e.ok):Good e.av:=by
 have num:∀s:ak,r7 s=true->s.all fA=true:=λs j=>by
  unfold r7 at j;rw[oE] at j;have q:∀c:UInt8,ja c=true->fA c=true:=λc m=>by unfold ja at m;unfold fA;rw[m];simp
  rcases j with j|j
  .cases n:numeral s with
   |none=>rw[n] at j;cases j
   |some z=>
    unfold numeral at n;split at n
    .rename_i e;rw[e];decide
    .split at n
     .cases n
     .split at n
      .rename_i o;rw[List.all_eq_true] at o⊢;intro c m;unfold fg at o;split at o
       .rename_i u;cases s with
        |nil=>simp at u
        |cons d r=>
         simp only[List.getD_cons_zero,List.drop_succ_cons,List.drop_zero] at u o;rcases mC.1 m with rfl|m
         .rw[u.2];decide
         .exact q c<|o c m
       .exact q c<|o c m
      .cases n
  .cases s with
   |nil=>rfl
   |cons c r=>
    simp only[eH,aE,dE,List.getD_cons_zero,List.drop_succ_cons,List.drop_zero] at j;obtain⟨⟨_,D,E⟩,C⟩:=j;rw[List.all_cons,aE];refine⟨?_,?_⟩
    .unfold fA;simp[D,E]
    .rw[List.all_eq_true] at C⊢;exact λd t=>q d<|C d t
 have y:∀s:ak,eH s=true->Good (bK s):=λs j=>.au _ (yb j)<|num s (by unfold r7;rw[j];simp);induction e with
 |«at» s=>exact .au _ (rm h)<|num s h
 |un t a g=>
  refine .list _ sm λp i=>?_;simp only[mC,List.not_mem_nil,or_false] at i;rcases i with rfl|rfl
  .obtain⟨k,_⟩:=h;simp only[im,oE,dE] at k;rcases k with k|k<;>(rw[k];exact .au _ de de)
  .exact g h.2
 |bi t a b g l=>
  refine .list _ sm λp i=>?_;simp only[mC,List.not_mem_nil,or_false] at i;rcases i with rfl|rfl|rfl
  .obtain⟨k,_⟩:=h;simp only[iJ,oE,dE] at k;rcases k with(((k|k)|k)|k)|k<;>(rw[k];exact .au _ de de)
  .exact g h.2.1
  .exact l h.2.2
 |ite a b c g l v=>
  refine .list _ sm λp i=>?_;simp only[mC,List.not_mem_nil,or_false] at i;rcases i with rfl|rfl|rfl|rfl
  .exact .au _ de de
  .exact g h.1
  .exact l h.2.1
  .exact v h.2.2
 |lt x a b g l=>
  refine .list _ sm λp i=>?_;simp only[mC,List.not_mem_nil,or_false] at i;rcases i with rfl|rfl|rfl|rfl
  .exact .au _ de de
  .exact y x h.1
  .exact g h.2.1
  .exact l h.2.2
 |fn f x A B e J=>
  refine .list _ sm λp i=>?_;simp only[mC,List.not_mem_nil,or_false] at i;obtain⟨H,I,_,_,_,F⟩:=h;rcases i with rfl|rfl|rfl|rfl|rfl|rfl
  .exact .au _ de de
  .exact y f H
  .exact y x I
  .exact A.fG
  .exact B.fG
  .exact J F
theorem Ex.ag {e:Ex} (h:e.jv=false):e.av.au=[]/\e.av.ag.length=e.from+e.kids.length/\(nth e.av.ag 0).au=e.head/\∀j,j<e.kids.length->nth e.av.ag (e.from+j)=(gT e j).av:=by
 cases e with
 |«at» s=>cases h
 |un g a=>exact⟨rfl,rfl,rfl,λj d=>by
  have:j=0:=by simp[Ex.kids] at d;omega
  subst this;rfl⟩
 |bi g a b=>refine⟨rfl,rfl,rfl,λj d=>?_⟩;simp only[Ex.kids,lC,List.length_nil] at d;rcases(show j=0\/j=1 by omega) with rfl|rfl<;>rfl
 |ite a b c=>refine⟨rfl,rfl,rfl,λj d=>?_⟩;simp only[Ex.kids,lC,List.length_nil] at d;rcases(show j=0\/j=1\/j=2 by omega) with rfl|rfl|rfl<;>rfl
 |lt x a b=>refine⟨rfl,rfl,rfl,λj d=>?_⟩;simp only[Ex.kids,lC,List.length_nil] at d;rcases(show j=0\/j=1 by omega) with rfl|rfl<;>rfl
 |fn f x A B e=>exact⟨rfl,rfl,rfl,λj d=>by
  have:j=0:=by simp[Ex.kids] at d;omega
  subst this;rfl⟩
theorem Ex.pos (e:Ex):1<=e.n:=by cases e<;>simp[Ex.n]<;>omega
theorem Ex.gI {e:Ex} (h:e.ok):gI e.av=e.n:=by
 have yd:∀s:ak,s≠[]->Go.Proofs.YtcildnfcpkpomaaGreatDoor.gI (bK s)=1:=λs o=>PU o;have j:∀ps:List aq,Go.Proofs.YtcildnfcpkpomaaGreatDoor.gI (.mk [] ps)=kD ps:=λps=>by simp[Go.Proofs.YtcildnfcpkpomaaGreatDoor.gI]
 induction e with
 |«at» s=>exact yd s<|rm h
 |un i a d=>show Go.Proofs.YtcildnfcpkpomaaGreatDoor.gI (.mk [] [bK i,a.av])=_;rw[j];simp only[kD,yd i<|Wt h.1,d h.2,Ex.n];omega
 |bi i a b d g=>show Go.Proofs.YtcildnfcpkpomaaGreatDoor.gI (.mk [] [bK i,a.av,b.av])=_;rw[j];simp only[kD,yd i<|Wu h.1,d h.2.1,g h.2.2,Ex.n];omega
 |ite a b c d g l=>show Go.Proofs.YtcildnfcpkpomaaGreatDoor.gI (.mk [] [bK ix,a.av,b.av,c.av])=_;rw[j];simp only[kD,yd ix de,d h.1,g h.2.1,l h.2.2,Ex.n];omega
 |lt x a b d g=>show Go.Proofs.YtcildnfcpkpomaaGreatDoor.gI (.mk [] [bK il,bK x,a.av,b.av])=_;rw[j];simp only[kD,yd il de,yd x<|yb h.1,d h.2.1,g h.2.2,Ex.n];omega
 |fn f x A B e q=>obtain⟨n,p,_,_,_,m⟩:=h;show Go.Proofs.YtcildnfcpkpomaaGreatDoor.gI (.mk [] [bK iI,bK f,bK x,A.av,B.av,e.av])=_;rw[j];simp only[kD,yd iI de,yd f<|yb n,yd x<|yb p,A.gI,B.gI,q m,Ex.n];omega
theorem I0 {e:Ex} (h:e.ok) {j:Nat} (a:j<e.kids.length):(gT e j).ok/\(gT e j).n<e.n:=by cases e<;>grind [Ex.ok,gT,Ty.n,Ex.n,Ex.kids]
def eS (h:ak):Nat×Nat:=
 if iJ h then(1,3) else if h=ix then(1,4) else if h=il then(2,4) else if h=iI then(5,6) else if im h then(1,2) else(0,0)
theorem PW {e:Ex} (h:e.ok) (g:e.jv=false):eS e.head=(e.from,e.from+e.kids.length):=by
 cases e with
 |«at» s=>cases g
 |un d a=>obtain⟨k,_⟩:=h;simp only[im,oE,dE] at k;rcases k with k|k<;>(subst k;rfl)
 |bi d a b=>show eS d=_;unfold eS;rw[h.1];rfl
 |ite a b c=>rfl
 |lt x a b=>rfl
 |fn f x A B e=>rfl
/-! ### Free aN -/
def Fv (x:ak):Ex->Prop
 | .at s=>s=x/\eH x=true
 | .un _ a=>Fv x a
 | .bi _ a b=>Fv x a\/Fv x b
 | .ite a b c=>Fv x a\/Fv x b\/Fv x c
 | .lt y a b=>Fv x a\/(x≠y/\Fv x b)
 | .fn f y _ _ e=>x≠f/\x≠y/\Fv x e
def dP:Ex->List ak->List ak->List ak
 | .at s,d,l=>if(!eH s||decide (s∈d)||decide (s∈l))=true then l else l++[s]
 | .un _ a,d,l=>dP a d l
 | .bi _ a b,d,l=>dP b d<|dP a d l
 | .ite a b c,d,l=>dP c d (dP b d<|dP a d l)
 | .lt x a b,d,l=>dP b (d++[x])<|dP a d l
 | .fn f x _ _ e,d,l=>dP e (d++[f,x]) l
theorem Es (x:ak):∀(e:Ex) (a l:List ak),x∈dP e a l↔x∈l\/(Fv x e/\x∉a):=by intro x;induction x<;>grind [dP,Fv,eH]
theorem ajd:∀(e:Ex) (a l:List ak),l.Nodup->(dP e a l).Nodup:=by intro x;induction x<;>grind [dP]
theorem PX:∀(e:Ex) (a l:List ak),(dP e a l).length<=l.length+e.n:=by intro x;induction x<;>grind [dP,Ty.n,Ex.n]
def r8 (e:Ex) (a l:List ak):Nat->List ak
 |0=>l
 |j+1=>dP (gT e j) (a++e.binds (e.from+j))<|r8 e a l j
theorem aje {e:Ex} (b:e.jv=false) (a l:List ak):dP e a l=r8 e a l e.kids.length:=by cases e<;>simp_all[Ex.jv,dP,r8,Ex.kids,gT,Ex.binds,Ex.from]
def k9 (x:ak):Ex->Nat
 | .at s=>if s=x then 1 else 0
 | .un _ a=>k9 x a
 | .bi _ a b=>k9 x a+k9 x b
 | .ite a b c=>k9 x a+k9 x b+k9 x c
 | .lt y a b=>k9 x a+if x=y then 0 else k9 x b
 | .fn f y _ _ e=>if x=f\/x=y then 0 else k9 x e
theorem ajf (a:eH x=true):∀e:Ex,0<k9 x e↔Fv x e:=by intro x;induction x<;>grind [eH,k9,Fv]
theorem count_le (x:ak):∀e:Ex,k9 x e<=e.n:=by intro x;induction x<;>grind [k9,Ty.n,Ex.n]
def Cn (x:ak) (e:Ex):Nat->Nat
 |0=>0
 |j+1=>Cn x e j+if x∈e.binds (e.from+j) then 0 else k9 x (gT e j)
theorem Ww {e:Ex} (a:e.jv=false) (x:ak):k9 x e=Cn x e e.kids.length:=by cases e<;>simp_all[Ex.jv,k9,Cn,Ex.kids,gT,Ex.binds,Ex.from]
/-! ### Types of expressions -/
abbrev Sc:=List<|ak×Ty
def look (a:Sc) (s:ak):Option Ty:=(a.reverse.find? λp=>decide<|p.1=s).map Prod.snd
theorem qy (a:Sc) (x s:ak) (T:Ty):look (a++[(x,T)]) s=if x=s then some T else look a s:=by grind [look]
theorem Co (a:Sc) (f x s:ak) (T U:Ty):look (a++[(f,T),(x,U)]) s=if x=s then some U else if f=s then some T else look a s:=by grind [look]
def l9 (a b:Ty):Bool:=decide<|a.text=b.text
theorem ajg {a b:Ty}:l9 a b=true↔a=b:=by grind [l9,Ty.inj]
def ma (h:ak):List Ty->Option Ty
 |[a]=>match a with
  | .op false c d=>if h=Er then some c else if h=sV then some d else none
  |_=>none
 |[a,b]=>
  if h=lz then match a with
   | .op true c d=>if l9 c b then some d else none
   |_=>none
  else if h=AD then(if 1+a.n+b.n<=16 then some (.op false a b) else none)
  else if l9 a .i&&l9 b .i then some .i else none
 |[a,b,c]=>if l9 a .i&&l9 b c then some b else none
 |_=>none
def bI:Ex->Sc->Option Ty
 | .at s,d=>if eH s then look d s else some .i
 | .un h a,d=>(bI a d).bind λA=>ma h [A]
 | .bi h a b,d=>(bI a d).bind λA=>(bI b d).bind λB=>ma h [A,B]
 | .ite a b c,d=>(bI a d).bind λA=>(bI b d).bind λB=>(bI c d).bind λC=>ma ix [A,B,C]
 | .lt x a b,d=>(bI a d).bind λA=>bI b<|d++[(x,A)]
 | .fn f x A B e,d=>if 1+A.n+B.n<=16 then(bI e<|d++[(f,.op true A B),(x,A)]).bind λC=>if l9 C B then some (.op true A B) else none else none
theorem sd:∀(e:Ex) (j g:Sc),(∀s,eH s=true->Fv s e->look j s=look g s)->bI e j=bI e g
 | .at s,j,g,h=>by
  unfold bI;by_cases d:eH s=true
  .rw[iP d,iP d];exact h s d ⟨rfl,d⟩
  .rw[iN d,iN d]
 | .un o a,j,g,h=>by unfold bI;rw[sd a j g h]
 | .bi o a b,j,g,h=>by unfold bI;rw[sd a j g λs d i=>h s d<|.inl i,sd b j g λs d i=>h s d (.inr i)]
 | .ite a b c,j,g,h=>by unfold bI;rw[sd a j g λs d i=>h s d<|.inl i,sd b j g λs d i=>h s d (.inr<|.inl i),sd c j g λs d i=>h s d (.inr<|.inr i)]
 | .lt x a b,j,g,h=>by
  unfold bI;rw[sd a j g λs d i=>h s d (.inl i)];cases bI a g with
  |none=>rfl
  |some A=>
   refine sd b _ _ λs d i=>?_;rw[qy,qy];by_cases e:x=s
   .rw[iP e,iP e]
   .rw[iN e,iN e];exact h s d<|.inr ⟨λm=>e m.symm,i⟩
 | .fn f x A B e,j,g,h=>by
  unfold bI;rw[sd e _ (g++[(f,.op true A B),(x,A)]) λs d i=>?_];rw[Co,Co];by_cases l:x=s
  .rw[iP l,iP l]
  .by_cases n:f=s
   .rw[iN l,iN l,iP n,iP n]
   .rw[iN l,iN l,iN n,iN n];exact h s d ⟨λm=>n m.symm,λm=>l m.symm,i⟩
def AE (a:Sc):Prop:=∀s T,look a s=some T->T.n<=16
theorem I1 {a:Sc} (h:AE a) {T:Ty} (b:T.n<=16):AE (a++[(x,T)]):=by grind [AE,Ty.n,Ex.n,qy]
theorem PY:∀{j:List Ty} {T:Ty},(∀k∈j,k.n<=16)->ma h j=some T->T.n<=16
 |[],T,_,e=>by cases e
 |[a],T,hk,e=>by
  have g:=hk a sm;cases a with
  |i=>cases e
  |op f c d=>
   cases f with
   |true=>cases e
   |false=>
    simp only[Ty.n] at g;simp only[ma] at e;split at e
    .cases e;omega
    .split at e
     .cases e;omega
     .cases e
 |[a,b],T,hk,e=>by
  have g:=hk a sm;have hb:=hk b sm;simp only[ma] at e;split at e
  .cases a with
   |i=>cases e
   |op f c d=>
    cases f with
    |false=>cases e
    |true=>
     simp only at e;split at e
     .cases e;simp only[Ty.n] at g;omega
     .cases e
  .split at e
   .split at e
    .rename_i l;cases e;simpa[Ty.n] using l
    .cases e
   .split at e
    .cases e;decide
    .cases e
 |[a,b,c],T,hk,e=>by
  simp only[ma] at e;split at e
  .cases e;exact hk b sm
  .cases e
 |_::_::_::_::_,T,_,e=>by cases e
theorem nq:∀{e:Ex} {Γ:Sc} {T:Ty},AE Γ->bI e Γ=some T->T.n<=16
 | .at s,Γ,T,d,h=>by
  unfold bI at h;split at h
  .exact d s T h
  .cases h;decide
 | .un l a,Γ,T,d,h=>by
  unfold bI at h;cases g:bI a Γ with
  |none=>rw[g] at h;cases h
  |some A=>rw[g,Option.bind_some] at h;exact PY (λk hk=>by simp at hk;rw[hk];exact nq d g) h
 | .bi l a b,Γ,T,d,h=>by
  unfold bI at h;cases g:bI a Γ with
  |none=>rw[g] at h;cases h
  |some A=>
   cases hb:bI b Γ with
   |none=>rw[g,hb] at h;cases h
   |some B=>rw[g,hb,Option.bind_some,Option.bind_some] at h;exact PY (λk hk=>by simp at hk;rcases hk with rfl|rfl;exact nq d g;exact nq d hb) h
 | .ite a b c,Γ,T,d,h=>by
  unfold bI at h;cases g:bI a Γ with
  |none=>rw[g] at h;cases h
  |some A=>
   cases hb:bI b Γ with
   |none=>rw[g,hb] at h;cases h
   |some B=>
    cases i:bI c Γ with
    |none=>rw[g,hb,i] at h;cases h
    |some C=>rw[g,hb,i,Option.bind_some,Option.bind_some,Option.bind_some] at h;exact PY (λk hk=>by simp at hk;rcases hk with rfl|rfl|rfl;exact nq d g;exact nq d hb;exact nq d i) h
 | .lt x a b,Γ,T,d,h=>by
  unfold bI at h;cases g:bI a Γ with
  |none=>rw[g] at h;cases h
  |some A=>rw[g,Option.bind_some] at h;exact nq (I1 d<|nq d g) h
 | .fn f x A B e,Γ,T,d,h=>by
  unfold bI at h;split at h
  .rename_i i;cases j:bI e (Γ++[(f,.op true A B),(x,A)]) with
   |none=>rw[j] at h;cases h
   |some C=>
    rw[j,Option.bind_some] at h;split at h
    .cases h;simpa[Ty.n] using i
    .cases h
  .cases h
/-! ### rS aN -/
theorem ajh (n:Nat):val (aS n)=n:=by
 induction n using Nat.strongRecOn with
 |_ n b=>
  have a:∀k,k<10->(UInt8.ofNat (48+k)).toNat=48+k:=λk hk=>by rw[UInt8.toNat_ofNat'];exact Nat.mod_eq_of_lt om
  unfold aS;by_cases h:n<10
  .rw[iP h];show 10*0+((UInt8.ofNat<|48+n).toNat-48)=n;rw[a n h];omega
  .rw[iN h,UO,b (n/10) om,a (n%10) om];omega
theorem aji {n:Nat} (h:aS n=aS m):n=m:=by grind [ajh]
def dj (c:UInt8) (k:Nat):ak:=c::aS k
theorem rp {j:Nat} (h:dj c k=dj c j):k=j:=by grind [aji,dj]
theorem PZ {b:Type} [BEq b] [LawfulBEq b]:∀{l m:List b},l.Nodup->(∀x∈l,x∈m)->l.length<=m.length
 |[],m,_,_=>by simp
 |a::l,m,hn,hs=>by rw[List.nodup_cons] at hn;have c:=hs a sm;have:=PZ (l:=l) (m:=m.erase a) hn.2 λx d=>(List.mem_erase_of_ne (fun(e:x=a)=>hn.1<|e▸d)).2 (hs x<|by simp[d]);rw[List.length_erase_of_mem c] at this;have:=List.length_pos_of_mem c;simp only[lC];omega
def rq (c:UInt8) (b:List ak):Nat->Nat->Nat
 |0,n=>n
 |a+1,n=>if dj c n∈b then rq c b a (n+1) else n
def bB (c:UInt8) (a:List ak) (n:Nat):Nat:=rq c a (a.length+1) n
theorem ajj (c:UInt8) (b:List ak):∀a n,n<=rq c b a n/\rq c b a n<=n+a:=by intro x;induction x<;>grind [rq]
theorem Wx (c:UInt8) (b:List ak):∀a n,dj c (rq c b a n)∉b\/∀j,j<a->dj c (n+j)∈b
 |0,n=>.inr λj e=>by omega
 |a+1,n=>by
  unfold rq;split
  .rename_i h;rcases Wx c b a (n+1) with d|d
   .exact .inl d
   .refine .inr λj e=>?_;cases j with
    |zero=>exact h
    |succ j=>have:=d j om;rw[show n+(j+1)=n+1+j from by omega];exact this
  .rename_i h;exact .inl h
theorem LW (c:UInt8) (d:List ak) (n:Nat):dj c (bB c d n)∉d:=by
 rcases Wx c d (d.length+1) n with h|h
 .exact h
 .exfalso;have i:((List.range<|d.length+1).map λj=>dj c<|n+j).Nodup:=by
   rw[List.nodup_iff_pairwise_ne,List.pairwise_map];refine List.Pairwise.imp ?_<|List.nodup_iff_pairwise_ne.1 List.nodup_range;intro a b f e;exact f (by have:=rp e;omega)
  have:=PZ i (m:=d) (λx l=>by obtain⟨j,g,rfl⟩:=List.mem_map.1 l;exact h j<|List.mem_range.1 g);simp at this;omega
theorem pP (c:UInt8) (a:List ak) (n:Nat):n<=bB c a n/\bB c a n<=n+a.length+1:=by grind [ajj,dG.length,bB]
theorem Wy {a:List ak} {n:Nat} (h:dj c n∈a):bB c a n=bB c a (n+1):=by
 have j:∀f g n,dj c (rq c a f n)∉a->dj c (rq c a g n)∉a->rq c a f n=rq c a g n:=by
  intro f;induction f with
  |zero=>
   intro g n b d;cases g with
   |zero=>rfl
   |succ g=>unfold rq at b⊢;rw[iN b]
  |succ f l=>
   intro g n b d;cases g with
   |zero=>unfold rq at d⊢;rw[iN d]
   |succ g=>
    unfold rq at b d⊢;by_cases i:dj c n∈a
    .rw[iP i] at b d⊢;rw[iP i];exact l g (n+1) b d
    .rw[iN i,iN i]
 have e:bB c a n=rq c a a.length (n+1):=by
  unfold bB
  conv=>lhs;unfold rq
  rw[iP h]
 have b:=LW c a n;rw[e] at b⊢;exact j _ _ _ b (LW c a<|n+1)
theorem Wz {a:List ak} {n:Nat} (h:dj c n∉a):bB c a n=n:=by unfold bB rq;rw[iN h]
theorem Cq (e:97<=c/\c<=122) (hk:k<1000):eH (dj c k)=true:=by
 have a:∀k,(aS k).all ja=true:=λk=>by
  induction k using Nat.strongRecOn with
  |_ k f=>
   have a:∀j,j<10->ja (UInt8.ofNat (48+j))=true:=by decide
   unfold aS;by_cases h:k<10
   .rw[iP h,List.all_cons,a k h];rfl
   .rw[iN h,List.all_append,f (k/10) om,List.all_cons,a (k%10) om];rfl
 have b:∀k,k<10->(aS k).length=1:=λk hk=>by unfold aS;rw[iP hk];rfl
 have d:∀k,k<100->(aS k).length<=2:=λk hk=>by
  unfold aS;split
  .simp
  .have:=b (k/10) om;simp;omega
 have g:(aS k).length<=3:=by
  unfold aS;split
  .simp
  .have:=d (k/10) om;simp;omega
 unfold eH dj;simp only[lC,List.getD_cons_zero,List.drop_succ_cons,List.drop_zero,a k,Bool.and_true,aE,dE];exact⟨⟨by omega,om⟩,e⟩
/-! ### Bound aN renamed -/
abbrev Rn:=List<|ak×ak
def se (a:Rn) (s:ak):ak:=((a.reverse.find? λp=>decide<|p.1=s).map Prod.snd).getD s
theorem P1 (a:Rn) (x y s:ak):se (a++[(x,y)]) s=if x=s then y else se a s:=by grind [se]
theorem WB (a:Rn) (f x s g y:ak):se (a++[(f,g),(x,y)]) s=if x=s then y else if f=s then g else se a s:=by grind [se]
abbrev cx:UInt8:=120
def cE (d:List ak):Ex->Rn->Nat->Ex×Nat
 | .at s,g,n=>(.at<|if eH s then se g s else s,n)
 | .un h a,g,n=>(.un h (cE d a g n).1,(cE d a g n).2)
 | .bi h a b,g,n=>(.bi h (cE d a g n).1 (cE d b g (cE d a g n).2).1,(cE d b g (cE d a g n).2).2)
 | .ite a b c,g,n=>(.ite (cE d a g n).1 (cE d b g (cE d a g n).2).1 (cE d c g (cE d b g (cE d a g n).2).2).1,(cE d c g (cE d b g (cE d a g n).2).2).2)
 | .lt x a b,g,n=>(.lt (dj cx<|bB cx d n) (cE d a g<|bB cx d n+1).1 (cE d b (g++[(x,dj cx<|bB cx d n)]) (cE d a g<|bB cx d n+1).2).1,
   (cE d b (g++[(x,dj cx<|bB cx d n)]) (cE d a g<|bB cx d n+1).2).2)
 | .fn f x A B e,g,n=>(.fn (dj cx<|bB cx d n) (dj cx (bB cx d<|bB cx d n+1)) A B (cE d e (g++[(f,dj cx<|bB cx d n),(x,dj cx (bB cx d<|bB cx d n+1))])<|bB cx d (bB cx d n+1)+1).1,
   (cE d e (g++[(f,dj cx<|bB cx d n),(x,dj cx (bB cx d<|bB cx d n+1))])<|bB cx d (bB cx d n+1)+1).2)
theorem j4 (d:List ak):∀(e:Ex) (g:Rn) (n:Nat),n<=(cE d e g n).2/\(cE d e g n).2+(d.length+2)<=n+(e.n)*(d.length+2)+(d.length+2)
 | .at s,g,n=>by simp only[cE,Ex.n];omega
 | .un h a,g,n=>by have:=j4 d a g n;simp only[cE,Ex.n,Nat.add_mul];omega
 | .bi h a b,g,n=>by have:=j4 d a g n;have:=j4 d b g (cE d a g n).2;simp only[cE,Ex.n,Nat.add_mul];omega
 | .ite a b c,g,n=>by have:=j4 d a g n;have:=j4 d b g (cE d a g n).2;have:=j4 d c g (cE d b g (cE d a g n).2).2;simp only[cE,Ex.n,Nat.add_mul];omega
 | .lt x a b,g,n=>by have i:=pP cx d n;have:=j4 d a g<|bB cx d n+1;have:=j4 d b (g++[(x,dj cx<|bB cx d n)]) (cE d a g<|bB cx d n+1).2;simp only[cE,Ex.n,Nat.add_mul];omega
 | .fn f x A B e,g,n=>by have i:=pP cx d n;have j:=pP cx d<|bB cx d n+1;have:=j4 d e (g++[(f,dj cx<|bB cx d n),(x,dj cx (bB cx d<|bB cx d n+1))])<|bB cx d (bB cx d n+1)+1;simp only[cE,Ex.n,Nat.add_mul];omega
theorem WC (a:List ak):∀(e:Ex) (b:Rn) (n:Nat),(cE a e b n).1.n=e.n:=by intro x;induction x<;>grind [cE,Ty.n,Ex.n]
theorem yZ (d:List ak):∀(e:Ex) (g:Rn) (n:Nat),e.ok->(cE d e g n).2<=1000->(∀s,eH s=true->Fv s e->eH (se g s)=true)->(cE d e g n).1.ok
 | .at s,g,n,h,_,j=>by
  show r7 _=true;by_cases i:eH s=true
  .rw[iP i];unfold r7;rw[j s i ⟨rfl,i⟩];simp
  .rw[iN i];exact h
 | .un z a,g,n,h,m,j=>⟨h.1,yZ d a g n h.2 m j⟩
 | .bi z a b,g,n,h,m,j=>by have p:=j4 d b g (cE d a g n).2;simp only[cE] at m;exact⟨h.1,yZ d a g n h.2.1 om λs i l=>j s i<|.inl l,yZ d b g _ h.2.2 m λs i l=>j s i<|.inr l⟩
 | .ite a b c,g,n,h,m,j=>by have p:=j4 d b g (cE d a g n).2;have E:=j4 d c g (cE d b g (cE d a g n).2).2;simp only[cE] at m;exact⟨yZ d a g n h.1 om λs i l=>j s i<|.inl l,yZ d b g _ h.2.1 om λs i l=>j s i (.inr<|.inl l),yZ d c g _ h.2.2 m λs i l=>j s i (.inr<|.inr l)⟩
 | .lt x a b,g,n,h,m,j=>by
  have u:=j4 d a g<|bB cx d n+1;have p:=j4 d b (g++[(x,dj cx<|bB cx d n)]) (cE d a g<|bB cx d n+1).2;simp only[cE] at m;have hk:eH (dj cx<|bB cx d n)=true:=Cq de om;refine⟨hk,yZ d a g _ h.2.1 om λs i l=>j s i<|.inl l,yZ d b _ _ h.2.2 m λs i l=>?_⟩;rw[P1];split
  .exact hk
  .rename_i e;exact j s i<|.inr ⟨λo=>e o.symm,l⟩
 | .fn f x A B e,g,n,h,m,j=>by
  have D:=pP cx d n;have u:=pP cx d<|bB cx d n+1;have p:=j4 d e (g++[(f,dj cx<|bB cx d n),(x,dj cx (bB cx d<|bB cx d n+1))])<|bB cx d (bB cx d n+1)+1;simp only[cE] at m;have hk:eH (dj cx<|bB cx d n)=true:=Cq de om;have q:eH (dj cx (bB cx d<|bB cx d n+1))=true:=Cq de om;obtain⟨_,_,_,v,y,C⟩:=h;refine⟨hk,q,λe=>by have:=rp e;omega,v,y,yZ d e _ _ C m λs i l=>?_⟩;rw[WB];split
  .exact q
  .rename_i r;split
   .exact hk
   .rename_i t;exact j s i ⟨λo=>t o.symm,λo=>r o.symm,l⟩
theorem y0 (d:List ak):∀(e:Ex) (g:Rn) (n:Nat) (j m:Sc),(cE d e g n).2<=1000->(∀s,eH s=true->Fv s e->eH (se g s)=true/\look m (se g s)=look j s/\∀k,n<=k->se g s≠dj cx k)->bI (cE d e g n).1 m=bI e j
 | .at s,g,n,j,m,_,h=>by
  unfold cE bI;by_cases i:eH s=true
  .obtain⟨y,z,_⟩:=h s i ⟨rfl,i⟩;rw[iP i,iP i,iP y,z]
  .rw[iN i,iN i,iN i]
 | .un E a,g,n,j,m,p,h=>by unfold cE bI;rw[y0 d a g n j m p h]
 | .bi E a b,g,n,j,m,p,h=>by have y:=j4 d a g n;have z:=j4 d b g (cE d a g n).2;simp only[cE] at p;unfold cE bI;rw[y0 d a g n j m om λs i l=>h s i<|.inl l,y0 d b g _ j m p λs i l=>?_];obtain⟨q,r,o⟩:=h s i<|.inr l;exact⟨q,r,λk hk=>o k om⟩
 | .ite a b c,g,n,j,m,p,h=>by
  have y:=j4 d a g n;have z:=j4 d b g (cE d a g n).2;have F:=j4 d c g (cE d b g (cE d a g n).2).2;simp only[cE] at p;unfold cE bI;rw[y0 d a g n j m om λs i l=>h s i<|.inl l,y0 d b g _ j m om λs i l=>?_,y0 d c g _ j m p λs i l=>?_]
  .obtain⟨q,r,o⟩:=h s i (.inr<|.inr l);exact⟨q,r,λk hk=>o k om⟩
  .obtain⟨q,r,o⟩:=h s i (.inr<|.inl l);exact⟨q,r,λk hk=>o k om⟩
 | .lt x a b,g,n,j,m,p,h=>by
  have C:=pP cx d n;have y:=j4 d a g<|bB cx d n+1;have z:=j4 d b (g++[(x,dj cx<|bB cx d n)]) (cE d a g<|bB cx d n+1).2;simp only[cE] at p;have hk:eH (dj cx<|bB cx d n)=true:=Cq de om;unfold cE bI;rw[y0 d a g _ j m om λs i l=>?_]
  .cases bI a j with
   |none=>rfl
   |some A=>
    refine y0 d b _ _ _ _ p λs i l=>?_;rw[P1,qy j];by_cases e:x=s
    .rw[iP e,iP e,qy,iP rfl];exact⟨hk,rfl,λk hk e=>by have:=rp e;omega⟩
    .rw[iN e,iN e];obtain⟨q,r,o⟩:=h s i<|.inr ⟨λu=>e u.symm,l⟩;rw[qy,iN λe=>o _ C.1 e.symm];exact⟨q,r,λk hk=>o k om⟩
  .obtain⟨q,r,o⟩:=h s i<|.inl l;exact⟨q,r,λk hk=>o k om⟩
 | .fn f x A B e,g,n,j,m,p,h=>by
  have C:=pP cx d n;have y:=pP cx d<|bB cx d n+1;have z:=j4 d e (g++[(f,dj cx<|bB cx d n),(x,dj cx (bB cx d<|bB cx d n+1))])<|bB cx d (bB cx d n+1)+1;simp only[cE] at p;have hk:eH (dj cx<|bB cx d n)=true:=Cq de om;have D:eH (dj cx (bB cx d<|bB cx d n+1))=true:=Cq de om;unfold cE bI;rw[y0 d e _ _ (j++[(f,.op true A B),(x,A)]) _ p λs i l=>?_];rw[WB,Co j];by_cases t:x=s
  .rw[iP t,iP t,Co,iP rfl];exact⟨D,rfl,λk hk e=>by have:=rp e;omega⟩
  .by_cases v:f=s
   .rw[iN t,iN t,iP v,iP v,Co,iN λe=>by have:=rp e;omega,iP rfl];exact⟨hk,rfl,λk hk e=>by have:=rp e;omega⟩
   .rw[iN t,iN t,iN v,iN v];obtain⟨q,r,o⟩:=h s i ⟨λu=>v u.symm,λu=>t u.symm,l⟩;rw[Co,iN λe=>o _ om e.symm,iN λe=>o _ C.1 e.symm];exact⟨q,r,λk hk=>o k om⟩
/-! ### The aN that are bound -/
def fK:Ex->List ak
 | .at _=>[]
 | .un _ a=>fK a
 | .bi _ a b=>fK a++fK b
 | .ite a b c=>fK a++(fK b++fK c)
 | .lt x a b=>x::(fK a++fK b)
 | .fn f x _ _ e=>f::x::fK e
theorem ze (d:List ak):∀(e:Ex) (i:Rn) (n:Nat),(fK (cE d e i n).1).Nodup/\∀y,y∈fK (cE d e i n).1->∃k,y=dj cx k/\n<=k/\k<(cE d e i n).2
 | .at s,i,n=>by simp[cE,fK]
 | .un D a,i,n=>ze d a i n
 | .bi D a b,i,n=>by
  have v:=j4 d a i n;have z:=j4 d b i (cE d a i n).2;obtain⟨r,m⟩:=ze d a i n;obtain⟨t,o⟩:=ze d b i (cE d a i n).2;simp only[cE,fK];refine⟨List.nodup_append.2 ⟨r,t,λx l y g e=>?_⟩,λy g=>?_⟩
  .obtain⟨k,rfl,_,hk⟩:=m x l;obtain⟨j,rfl,u,_⟩:=o y g;have:=rp e;omega
  .rcases mA.1 g with g|g
   .obtain⟨k,e,p,q⟩:=m y g;exact⟨k,e,p,om⟩
   .obtain⟨k,e,p,q⟩:=o y g;exact⟨k,e,om,q⟩
 | .ite a b c,i,n=>by
  have v:=j4 d a i n;have z:=j4 d b i (cE d a i n).2;have E:=j4 d c i (cE d b i (cE d a i n).2).2;obtain⟨r,m⟩:=ze d a i n;obtain⟨t,o⟩:=ze d b i (cE d a i n).2;obtain⟨c1,c2⟩:=ze d c i (cE d b i (cE d a i n).2).2;simp only[cE,fK];refine⟨List.nodup_append.2 ⟨r,List.nodup_append.2 ⟨t,c1,λx l y g e=>?_⟩,λx l y g e=>?_⟩,λy g=>?_⟩
  .obtain⟨k,rfl,_,hk⟩:=o x l;obtain⟨j,rfl,u,_⟩:=c2 y g;have:=rp e;omega
  .obtain⟨k,rfl,_,hk⟩:=m x l;rcases mA.1 g with g|g
   .obtain⟨j,rfl,u,_⟩:=o y g;have:=rp e;omega
   .obtain⟨j,rfl,u,_⟩:=c2 y g;have:=rp e;omega
  .rcases mA.1 g with g|g
   .obtain⟨k,e,p,q⟩:=m y g;exact⟨k,e,p,om⟩
   .rcases mA.1 g with g|g
    .obtain⟨k,e,p,q⟩:=o y g;exact⟨k,e,om,om⟩
    .obtain⟨k,e,p,q⟩:=c2 y g;exact⟨k,e,om,q⟩
 | .lt x a b,i,n=>by
  have C:=pP cx d n;have v:=j4 d a i<|bB cx d n+1;have z:=j4 d b (i++[(x,dj cx<|bB cx d n)]) (cE d a i<|bB cx d n+1).2;obtain⟨r,m⟩:=ze d a i<|bB cx d n+1;obtain⟨t,o⟩:=ze d b (i++[(x,dj cx<|bB cx d n)]) (cE d a i<|bB cx d n+1).2;simp only[cE,fK];refine⟨List.nodup_cons.2 ⟨λl=>?_,List.nodup_append.2 ⟨r,t,λx l y g e=>?_⟩⟩,λy g=>?_⟩
  .rcases mA.1 l with l|l
   .obtain⟨k,e,p,q⟩:=m _ l;have:=rp e;omega
   .obtain⟨k,e,p,q⟩:=o _ l;have:=rp e;omega
  .obtain⟨k,rfl,_,hk⟩:=m x l;obtain⟨j,rfl,u,_⟩:=o y g;have:=rp e;omega
  .rcases mC.1 g with rfl|g
   .exact⟨_,rfl,om,om⟩
   .rcases mA.1 g with g|g
    .obtain⟨k,e,p,q⟩:=m y g;exact⟨k,e,om,om⟩
    .obtain⟨k,e,p,q⟩:=o y g;exact⟨k,e,om,q⟩
 | .fn f x A B e,i,n=>by
  have C:=pP cx d n;have v:=pP cx d<|bB cx d n+1;have z:=j4 d e (i++[(f,dj cx<|bB cx d n),(x,dj cx (bB cx d<|bB cx d n+1))])<|bB cx d (bB cx d n+1)+1;obtain⟨r,m⟩:=ze d e (i++[(f,dj cx<|bB cx d n),(x,dj cx (bB cx d<|bB cx d n+1))])<|bB cx d (bB cx d n+1)+1;simp only[cE,fK];refine⟨List.nodup_cons.2 ⟨λl=>?_,List.nodup_cons.2 ⟨λl=>?_,r⟩⟩,λy g=>?_⟩
  .rcases mC.1 l with l|l
   .have:=rp l;omega
   .obtain⟨k,e,p,q⟩:=m _ l;have:=rp e;omega
  .obtain⟨k,e,p,q⟩:=m _ l;have:=rp e;omega
  .rcases mC.1 g with rfl|g
   .exact⟨_,rfl,om,om⟩
   .rcases mC.1 g with rfl|g
    .exact⟨_,rfl,om,om⟩
    .obtain⟨k,e,p,q⟩:=m y g;exact⟨k,e,om,q⟩
theorem rr:∀{e:Ex} {g:Sc} {T:Ty},bI e g=some T->Fv s e->(look g s).isSome=true
 | .at x,g,T,h,d=>by obtain⟨rfl,r⟩:=d;unfold bI at h;rw[iP r] at h;rw[h];rfl
 | .un q a,g,T,h,d=>by
  unfold bI at h;cases i:bI a g with
  |none=>rw[i] at h;cases h
  |some A=>exact rr i d
 | .bi q a b,g,T,h,d=>by
  unfold bI at h;cases i:bI a g with
  |none=>rw[i] at h;cases h
  |some A=>
   cases hb:bI b g with
   |none=>rw[i,hb] at h;cases h
   |some B=>exact d.elim (rr i)<|rr hb
 | .ite a b c,g,T,h,d=>by
  unfold bI at h;cases i:bI a g with
  |none=>rw[i] at h;cases h
  |some A=>
   cases hb:bI b g with
   |none=>rw[i,hb] at h;cases h
   |some B=>
    cases j:bI c g with
    |none=>rw[i,hb,j] at h;cases h
    |some C=>exact d.elim (rr i) λd=>d.elim (rr hb)<|rr j
 | .lt x a b,g,T,h,d=>by
  unfold bI at h;cases i:bI a g with
  |none=>rw[i] at h;cases h
  |some A=>
   rw[i,Option.bind_some] at h;rcases d with d|⟨m,d⟩
   .exact rr i d
   .have:=rr h d;rw[qy,iN λe=>m e.symm] at this;exact this
 | .fn f x A B e,g,T,h,d=>by
  unfold bI at h;split at h
  .cases l:bI e (g++[(f,.op true A B),(x,A)]) with
   |none=>rw[l] at h;cases h
   |some C=>obtain⟨n,o,p⟩:=d;have:=rr l p;rw[Co,iN λe=>o e.symm,iN λe=>n e.symm] at this;exact this
  .cases h
abbrev Bs:=List<|ak×Ex
abbrev cy:UInt8:=121
def nest (bs:Bs) (e:Ex):Ex:=bs.foldr (λp e=>.lt p.1 p.2 e) e
def dR (ai:List ak) (r:Bs×Ex×Nat):Bs×Ex×Nat:=
 if r.2.1.jv=true then r else(r.1++[(dj cy<|bB cy ai r.2.2,r.2.1)],.at (dj cy<|bB cy ai r.2.2),bB cy ai r.2.2+1)
def bf (ai:List ak):Ex->Nat->Bs×Ex×Nat
 | .at s,n=>([],.at s,n)
 | .un h a,n=>((dR ai<|bf ai a n).1,.un h (dR ai<|bf ai a n).2.1,(dR ai<|bf ai a n).2.2)
 | .bi h a b,n=>((dR ai<|bf ai a n).1++(dR ai<|bf ai b (dR ai<|bf ai a n).2.2).1,.bi h (dR ai<|bf ai a n).2.1 (dR ai<|bf ai b (dR ai<|bf ai a n).2.2).2.1,(dR ai<|bf ai b (dR ai<|bf ai a n).2.2).2.2)
 | .ite a b c,n=>((dR ai<|bf ai a n).1,.ite (dR ai<|bf ai a n).2.1 (nest (bf ai b (dR ai<|bf ai a n).2.2).1 (bf ai b (dR ai<|bf ai a n).2.2).2.1)
   (nest (bf ai c (bf ai b (dR ai<|bf ai a n).2.2).2.2).1 (bf ai c (bf ai b (dR ai<|bf ai a n).2.2).2.2).2.1),(bf ai c (bf ai b (dR ai<|bf ai a n).2.2).2.2).2.2)
 | .lt x a b,n=>((bf ai a n).1++(x,(bf ai a n).2.1)::(bf ai b (bf ai a n).2.2).1,(bf ai b (bf ai a n).2.2).2.1,(bf ai b (bf ai a n).2.2).2.2)
 | .fn f x A B e,n=>([],.fn f x A B<|nest (bf ai e n).1 (bf ai e n).2.1,(bf ai e n).2.2)
def oJ (a:List ak) (e:Ex) (n:Nat):Ex:=nest (bf a e n).1 (bf a e n).2.1
/-! ### How many aN -/
theorem sf (a:List ak) (r:Bs×Ex×Nat):r.2.2<=(dR a r).2.2/\(dR a r).2.2<=r.2.2+a.length+2:=by grind [dR,pP]
theorem jj (d:List ak):∀(e:Ex) (n:Nat),n<=(bf d e n).2.2/\(bf d e n).2.2+2*(d.length+2)<=n+e.n*(2*(d.length+2))
 | .at s,n=>⟨lR _,by simp only[bf,Ex.n];omega⟩
 | .un h a,n=>by have:=jj d a n;have:=sf d<|bf d a n;simp only[bf,Ex.n,Nat.add_mul];omega
 | .bi h a b,n=>by have:=jj d a n;have:=sf d<|bf d a n;have:=jj d b (dR d<|bf d a n).2.2;have:=sf d<|bf d b (dR d<|bf d a n).2.2;simp only[bf,Ex.n,Nat.add_mul];omega
 | .ite a b c,n=>by have:=jj d a n;have:=sf d<|bf d a n;have:=jj d b (dR d<|bf d a n).2.2;have:=jj d c (bf d b (dR d<|bf d a n).2.2).2.2;simp only[bf,Ex.n,Nat.add_mul];omega
 | .lt x a b,n=>by have:=jj d a n;have:=jj d b (bf d a n).2.2;simp only[bf,Ex.n,Nat.add_mul];omega
 | .fn f x A B e,n=>by have:=jj d e n;simp only[bf,Ex.n,Nat.add_mul];omega
/-! ### Types -/
def sW:Bs->Sc->Option Sc
 |[],a=>some a
 |(x,s)::bs,a=>(bI s a).bind λT=>sW bs<|a++[(x,T)]
theorem LX (bs:Bs) (e:Ex) (a:Sc):bI (nest bs e) a=(sW bs a).bind (bI e):=by induction bs generalizing a<;>grind [bI,nest,sW]
theorem P2 (bs b:Bs) (a:Sc):sW (bs++b) a=(sW bs a).bind (sW b):=by
 induction bs generalizing a with
 |nil=>rfl
 |cons p bs c=>
  obtain⟨x,s⟩:=p;show(bI s a).bind (λT=>sW (bs++b)<|a++[(x,T)])=((bI s a).bind λT=>sW bs<|a++[(x,T)]).bind (sW b);cases bI s a with
  |none=>rfl
  |some T=>exact c _
def GB (a:Sc) (s:ak):Prop:=∀p∈a,p.1≠s
theorem I2 {a b:Sc} (h:GB b s):look (a++b) s=look a s:=by grind [GB,look]
def rS (a:List ak) (e:Ex) (n m:Nat) (y:ak):Prop:=y∈fK e\/∃k,y=dj cy k/\n<=k/\k<m/\y∉a
structure Made (ai:List ak) (e:Ex) (n:Nat) (r:Bs×Ex×Nat) (Γ:Sc) (T:Ty) (Δ:Sc):Prop where
 binds:sW r.1 Γ=some (Γ++Δ)
 type:bI r.2.1 (Γ++Δ)=some T
 aN:∀p∈Δ,rS ai e n r.2.2 p.1
def Cr (a:List ak) (e:Ex) (n:Nat) (r:Bs×Ex×Nat):Prop:=∀s,(Fv s r.2.1\/∃p∈r.1,Fv s p.2)->Fv s e\/rS a e n r.2.2 s
structure WD (ai:List ak) (e:Ex):Prop where
 nodup:(fK e).Nodup
 nofree:∀x,x∈fK e->¬Fv x e
 noted:∀x,x∈fK e\/Fv x e->x∈ai
theorem rS.more {a:List ak} {e b:Ex} {n c:Nat} {y:ak} (h:rS a e n m y) (hb:∀x,x∈fK e->x∈fK b) (f:c<=n) (d:m<=m'):rS a b c m' y:=by grind [rS,fK]
theorem Cr.au {ai:List ak} {e:Ex} {n:Nat} {r:Bs×Ex×Nat} (h:Cr ai e n r) (a:n<=r.2.2):Cr ai e n (dR ai r):=by grind [Cr,dR,Fv,rS,bB,pP,LW]
theorem P3:∀(bs:Bs) (e:Ex) (s:ak),Fv s (nest bs e)->Fv s e\/∃p∈bs,Fv s p.2:=by intro x;induction x<;>grind [Fv,nest]
theorem Cr.sub {a:List ak} {e e':Ex} {n n':Nat} {r:Bs×Ex×Nat} (h:Cr a e n r) (b:∀s,Fv s e->Fv s e'\/s∈fK e') (hb:∀x,x∈fK e->x∈fK e') (d:n'<=n) (c:r.2.2<=m') (f:Fv s r.2.1\/∃p∈r.1,Fv s p.2):Fv s e'\/rS a e' n' m' s:=by grind [Cr,Fv,fK,rS]
theorem zg (d:List ak):∀(e:Ex) (n:Nat),Cr d e n (bf d e n)
 | .at s,n=>λs g=>g.elim .inl fun⟨p,i,_⟩=>by simp[bf] at i
 | .un m a,n=>λs g=>((zg d a n).au (jj d a n).1).sub (λs h=>.inl h) (λx h=>h) (lR _) (lR _) g
 | .bi m a b,n=>λs g=>by
  have l:=jj d a n;have o:=sf d<|bf d a n;have q:=jj d b (dR d<|bf d a n).2.2;have r:=sf d<|bf d b (dR d<|bf d a n).2.2;have j:=((zg d a n).au l.1).sub (e':=.bi m a b) (n':=n) (m':=(bf d (.bi m a b) n).2.2) (λs h=>.inl<|.inl h) (λx h=>mA.2<|.inl h) (lR _) (by simp only[bf];omega) (s:=s);have hb:=((zg d b (dR d<|bf d a n).2.2).au q.1).sub (e':=.bi m a b) (n':=n) (m':=(bf d (.bi m a b) n).2.2) (λs h=>.inl<|.inr h) (λx h=>mA.2<|.inr h) om (by simp only[bf];omega) (s:=s);rcases g with(g|g)|⟨p,i,g⟩
  .exact j<|.inl g
  .exact hb<|.inl g
  .rcases mA.1 i with i|i
   .exact j<|.inr ⟨p,i,g⟩
   .exact hb<|.inr ⟨p,i,g⟩
 | .ite a b c,n=>λs g=>by
  have l:=jj d a n;have o:=sf d<|bf d a n;have q:=jj d b (dR d<|bf d a n).2.2;have r:=jj d c (bf d b (dR d<|bf d a n).2.2).2.2;have j:=((zg d a n).au l.1).sub (e':=.ite a b c) (n':=n) (m':=(bf d (.ite a b c) n).2.2) (λs h=>.inl<|.inl h) (λx h=>mA.2<|.inl h) (lR _) (by simp only[bf];omega) (s:=s);have hb:=(zg d b (dR d<|bf d a n).2.2).sub (e':=.ite a b c) (n':=n) (m':=(bf d (.ite a b c) n).2.2) (λs h=>.inl (.inr<|.inl h)) (λx h=>mA.2<|.inr (mA.2<|.inl h)) om (by simp only[bf];omega) (s:=s);have t:=(zg d c (bf d b (dR d<|bf d a n).2.2).2.2).sub (e':=.ite a b c) (n':=n) (m':=(bf d (.ite a b c) n).2.2) (λs h=>.inl (.inr<|.inr h)) (λx h=>mA.2<|.inr (mA.2<|.inr h)) om (by simp only[bf];omega) (s:=s);rcases g with(g|g|g)|⟨p,i,g⟩
  .exact j<|.inl g
  .exact hb<|P3 _ _ _ g
  .exact t<|P3 _ _ _ g
  .exact j<|.inr ⟨p,i,g⟩
 | .lt x a b,n=>λs g=>by
  have l:=jj d a n;have q:=jj d b (bf d a n).2.2;have j:=(zg d a n).sub (e':=.lt x a b) (n':=n) (m':=(bf d (.lt x a b) n).2.2) (λs h=>.inl<|.inl h) (λy h=>mK _ (mA.2<|.inl h)) (lR _) (by simp only[bf];omega) (s:=s);have hb:=(zg d b (bf d a n).2.2).sub (e':=.lt x a b) (n':=n) (m':=(bf d (.lt x a b) n).2.2) (λs h=>by
   by_cases e:s=x
   .exact .inr (by rw[e];exact List.mem_cons_self ..)
   .exact .inl<|.inr ⟨e,h⟩) (λy h=>mK _ (mA.2<|.inr h)) om (by simp only[bf];omega) (s:=s)
  rcases g with g|⟨p,i,g⟩
  .exact hb<|.inl g
  .rcases mA.1 i with i|i
   .exact j<|.inr ⟨p,i,g⟩
   .rcases mC.1 i with rfl|i
    .exact j<|.inl g
    .exact hb<|.inr ⟨p,i,g⟩
 | .fn f x A B e,n=>λs g=>by
  rcases g with⟨l,o,g⟩|⟨p,i,_⟩
  .rcases zg d e n s (P3 _ _ _ g) with h|h
   .exact .inl ⟨l,o,h⟩
   .exact .inr (h.more (λy u=>mK _<|mK _ u) (lR _)<|lR _)
  .simp[bf] at i
theorem Made.au {ai:List ak} {e:Ex} {n:Nat} {r:Bs×Ex×Nat} {c:Sc} {T:Ty} {b:Sc} (h:Made ai e n r c T b) (m:n<=r.2.2) (d:(dR ai r).2.2<=1000):∃f,Made ai e n (dR ai r) c T f:=by
 unfold dR at d⊢;have l:=pP cy ai r.2.2;have j:=LW cy ai r.2.2;split
 .exact⟨b,h⟩
 .rename_i g;rw[iN g] at d;have hk:eH (dj cy<|bB cy ai r.2.2)=true:=Cq de (by dsimp only at d;omega);refine⟨b++[(dj cy<|bB cy ai r.2.2,T)],⟨?_,?_,?_⟩⟩
  .rw[P2,h.binds,Option.bind_some];show(bI r.2.1<|c++b).bind _=_;rw[h.type,Option.bind_some,List.append_assoc];rfl
  .show(if eH (dj cy<|bB cy ai r.2.2)=true then look (c++(b++[(dj cy<|bB cy ai r.2.2,T)])) (dj cy<|bB cy ai r.2.2) else some Ty.i)=some T;rw[iP hk,<-List.append_assoc,qy,iP rfl]
  .intro p a;rcases mA.1 a with a|a
   .exact(h.aN p a).more (λx i=>i) (lR _) (by dsimp only;omega)
   .simp only[List.mem_singleton] at a;subst a;exact .inr ⟨_,rfl,om,by dsimp only;omega,j⟩
theorem LY {b:List ak} {a:Ex} {n:Nat} {c:Sc} (h:∀p∈c,rS b a n m p.1) (d:s∉fK a) (e:s∈b):GB c s:=by grind [rS,fK,GB]
theorem ajk {c:List ak} {a b:Ex} {n:Nat} {d:Sc} (j:Fv s a\/rS c a n m s) (h:∀p∈d,rS c b m m' p.1) (e:∀x,x∈fK b->¬Fv x a) (f:∀x,x∈fK b->x∉fK a) (g:∀x,x∈fK b->x∈c) (i:∀x,x∈fK a\/Fv x a->x∈c):GB d s:=by grind [Fv,rS,fK,GB,rp]
theorem made (d:List ak):∀(e:Ex) (n:Nat) (l:Sc) (T:Ty),WD d e->(bf d e n).2.2<=1000->bI e l=some T->∃Δ,Made d e n (bf d e n) l T Δ
 | .at s,n,l,T,m,E,h=>⟨[],⟨by simp[bf,sW],by simpa[bf] using h,sm⟩⟩
 | .un hd a,n,l,T,m,E,h=>by
  have P:=jj d a n;have h2:=sf d<|bf d a n;simp only[bf] at E;unfold bI at h;cases z:bI a l with
  |none=>rw[z] at h;cases h
  |some A=>rw[z,Option.bind_some] at h;obtain⟨Δ,hΔ⟩:=made d a n l A ⟨m.nodup,m.nofree,m.noted⟩ om z;obtain⟨Y,L⟩:=hΔ.au P.1 E;refine⟨Y,⟨L.binds,?_,L.aN⟩⟩;show(bI (dR d<|bf d a n).2.1<|l++Y).bind (λA=>ma hd [A])=some T;rw[L.type,Option.bind_some];exact h
 | .bi hd a b,n,l,T,m,E,h=>by
  have P:=jj d a n;have h2:=sf d<|bf d a n;have h3:=jj d b (dR d<|bf d a n).2.2;have h4:=sf d<|bf d b (dR d<|bf d a n).2.2;have qz:=(zg d a n).au P.1;simp only[bf] at E;unfold bI at h;cases z:bI a l with
  |none=>rw[z] at h;cases h
  |some A=>
   cases hb:bI b l with
   |none=>rw[z,hb] at h;cases h
   |some B=>
    rw[z,hb,Option.bind_some,Option.bind_some] at h;have K:=List.nodup_append.1 m.nodup;obtain⟨t,o⟩:=made d a n l A ⟨K.1,λx i D=>m.nofree x (mA.2<|.inl i)<|.inl D,λx i=>m.noted x<|i.imp (λh=>mA.2<|.inl h) .inl⟩ om z;obtain⟨g,j⟩:=o.au P.1 om;have X:bI b (l++g)=some B:=by rw[<-hb];refine sd b _ _ λs Z J=>I2 (LY j.aN (λi=>m.nofree s (mA.2<|.inl i)<|.inr J)<|m.noted s (.inr<|.inr J))
    obtain⟨M,q⟩:=made d b (dR d<|bf d a n).2.2 (l++g) B ⟨K.2.1,λx i D=>m.nofree x (mA.2<|.inr i)<|.inr D,λx i=>m.noted x<|i.imp (λh=>mA.2<|.inr h) .inr⟩ om X;obtain⟨H,v⟩:=q.au h3.1 E;refine⟨g++H,⟨?_,?_,?_⟩⟩
    .show sW (_++_) l=_;rw[P2,j.binds,Option.bind_some,v.binds,List.append_assoc]
    .show(bI (dR d<|bf d a n).2.1<|l++(g++H)).bind (λA=>(bI (dR d<|bf d b (dR d<|bf d a n).2.2).2.1<|l++(g++H)).bind λB=>ma hd [A,B])=some T;have O:bI (dR d<|bf d a n).2.1 (l++(g++H))=some A:=by
      rw[<-j.type,<-List.append_assoc];refine sd _ _ _ λs Z J=>I2<|ajk (qz s<|.inl J) v.aN ?_ ?_ ?_ ?_
      .exact λx i D=>m.nofree x (mA.2<|.inr i)<|.inl D
      .exact λx i gv=>K.2.2 x gv x i rfl
      .exact λx i=>m.noted x<|.inl (mA.2<|.inr i)
      .exact λx i=>m.noted x<|i.imp (λh=>mA.2<|.inl h) .inl
     rw[O,Option.bind_some,<-List.append_assoc,v.type,Option.bind_some];exact h
    .intro p F;rcases mA.1 F with F|F
     .exact(j.aN p F).more (λx i=>mA.2<|.inl i) (lR _) (by simp only[bf];omega)
     .exact(v.aN p F).more (λx i=>mA.2<|.inr i) om (by simp only[bf];omega)
 | .ite a b c,n,l,T,m,E,h=>by
  have P:=jj d a n;have h2:=sf d<|bf d a n;have h3:=jj d b (dR d<|bf d a n).2.2;have h4:=jj d c (bf d b (dR d<|bf d a n).2.2).2.2;simp only[bf] at E;unfold bI at h;cases z:bI a l with
  |none=>rw[z] at h;cases h
  |some A=>
   cases hb:bI b l with
   |none=>rw[z,hb] at h;cases h
   |some B=>
    cases S:bI c l with
    |none=>rw[z,hb,S] at h;cases h
    |some C=>
     rw[z,hb,S,Option.bind_some,Option.bind_some,Option.bind_some] at h;have K:=List.nodup_append.1 m.nodup;have WE:=List.nodup_append.1 K.2.1;have I:∀x,x∈fK b->x∈fK (.ite a b c):=λx i=>mA.2<|.inr (mA.2<|.inl i);have U:∀x,x∈fK c->x∈fK (.ite a b c):=λx i=>mA.2<|.inr (mA.2<|.inr i);have r:∀x,x∈fK a->x∈fK (.ite a b c):=λx i=>mA.2<|.inl i;obtain⟨t,o⟩:=made d a n l A ⟨K.1,λx i D=>m.nofree x (r x i)<|.inl D,λx i=>m.noted x<|i.imp (r x) .inl⟩ om z;obtain⟨g,j⟩:=o.au P.1 om;have X:bI b (l++g)=some B:=by rw[<-hb];refine sd b _ _ λs Z J=>I2<|LY j.aN (λi=>m.nofree s (r s i) (.inr<|.inl J)) (m.noted s<|.inr (.inr<|.inl J))
     have qY:bI c (l++g)=some C:=by rw[<-S];refine sd c _ _ λs Z J=>I2<|LY j.aN (λi=>m.nofree s (r s i) (.inr<|.inr J)) (m.noted s<|.inr (.inr<|.inr J))
     obtain⟨M,q⟩:=made d b (dR d<|bf d a n).2.2 (l++g) B ⟨WE.1,λx i D=>m.nofree x (I x i) (.inr<|.inl D),λx i=>m.noted x (i.imp (I x) λh=>.inr<|.inl h)⟩ om X;obtain⟨_,N⟩:=made d c (bf d b (dR d<|bf d a n).2.2).2.2 (l++g) C ⟨WE.2.1,λx i D=>m.nofree x (U x i) (.inr<|.inr D),λx i=>m.noted x (i.imp (U x) λh=>.inr<|.inr h)⟩ E qY;refine⟨g,⟨j.binds,?_,?_⟩⟩
     .show(bI (dR d<|bf d a n).2.1<|l++g).bind (λA=>(bI (nest _ _)<|l++g).bind λB=>(bI (nest _ _)<|l++g).bind λC=>ma ix [A,B,C])=some T;rw[j.type,LX,LX,q.binds,N.binds,Option.bind_some,Option.bind_some,Option.bind_some,q.type,N.type,Option.bind_some,Option.bind_some];exact h
     .exact λp F=>(j.aN p F).more r (lR _) (by simp only[bf];omega)
 | .lt x a b,n,l,T,m,E,h=>by
  have P:=jj d a n;have h3:=jj d b (bf d a n).2.2;simp only[bf] at E;unfold bI at h;cases z:bI a l with
  |none=>rw[z] at h;cases h
  |some A=>
   rw[z,Option.bind_some] at h;have Q:=List.nodup_cons.1 m.nodup;have K:=List.nodup_append.1 Q.2;have r:∀y,y∈fK a->y∈fK (.lt x a b):=λy u=>mK _ (mA.2<|.inl u);have I:∀y,y∈fK b->y∈fK (.lt x a b):=λy u=>mK _ (mA.2<|.inr u);have WG:x∈fK (.lt x a b):=List.mem_cons_self ..;obtain⟨t,o⟩:=made d a n l A ⟨K.1,λy u D=>m.nofree y (r y u)<|.inl D,λy u=>m.noted y<|u.imp (r y) .inl⟩ om z;have X:bI b (l++(t++[(x,A)]))=some T:=by
    rw[<-h,<-List.append_assoc];refine sd b _ _ λs Z J=>?_;rw[qy,qy];by_cases e:x=s
    .rw[iP e,iP e]
    .rw[iN e,iN e];have GC:Fv s (.lt x a b):=.inr ⟨λe'=>e e'.symm,J⟩;exact I2<|LY o.aN (λi=>m.nofree s (r s i) GC) (m.noted s<|.inr GC)
   obtain⟨M,q⟩:=made d b (bf d a n).2.2 (l++(t++[(x,A)])) T ⟨K.2.1,λy u D=>by
    by_cases e:y=x
    .exact Q.1<|e▸mA.2 (.inr u)
    .exact m.nofree y (I y u)<|.inr ⟨e,D⟩,λy u=>by
    by_cases e:y=x
    .rw[e];exact m.noted x<|.inl WG
    .exact m.noted y<|u.imp (I y) λh=>.inr ⟨e,h⟩⟩ E X
   refine⟨t++(x,A)::M,⟨?_,?_,?_⟩⟩
   .show sW (_++(x,_)::_) l=_;rw[P2,o.binds,Option.bind_some];show(bI (bf d a n).2.1<|l++t).bind (λT=>sW _<|(l++t)++[(x,T)])=_;rw[o.type,Option.bind_some,List.append_assoc,q.binds];simp
   .show bI (bf d b (bf d a n).2.2).2.1 _=some T;have:=q.type;rw[show l++(t++(x,A)::M)=l++(t++[(x,A)])++M from by simp];exact this
   .intro p F;rcases mA.1 F with F|F
    .exact(o.aN p F).more r (lR _) (by simp only[bf];omega)
    .rcases mC.1 F with rfl|F
     .exact .inl WG
     .exact(q.aN p F).more I om (by simp only[bf];omega)
 | .fn f x A B e,n,l,T,m,E,h=>by
  simp only[bf] at E;unfold bI at h;split at h
  .rename_i S;cases he:bI e (l++[(f,.op true A B),(x,A)]) with
   |none=>rw[he] at h;cases h
   |some C=>
    rw[he,Option.bind_some] at h;have Q:=List.nodup_cons.1 m.nodup;have K:=List.nodup_cons.1 Q.2;have V:∀y,y∈fK e->y∈fK (.fn f x A B e):=λy u=>mK _<|mK _ u;obtain⟨t,o⟩:=made d e n (l++[(f,.op true A B),(x,A)]) C ⟨K.2,λy u D=>by
     by_cases O:y=x
     .exact K.1<|O▸u
     .by_cases R:y=f
      .exact Q.1<|R▸mK _ u
      .exact m.nofree y (V y u) ⟨R,O,D⟩,λy u=>by
     by_cases O:y=x
     .rw[O];exact m.noted x<|.inl (mK _<|List.mem_cons_self ..)
     .by_cases R:y=f
      .rw[R];exact m.noted f (.inl<|List.mem_cons_self ..)
      .exact m.noted y<|u.imp (V y) λh=>⟨R,O,h⟩⟩ E he
    refine⟨[],⟨by simp[bf,sW],?_,sm⟩⟩;show(if 1+A.n+B.n<=16 then(bI (nest (bf d e n).1 (bf d e n).2.1)<|(l++[])++[(f,.op true A B),(x,A)]).bind λC=>if l9 C B then some (.op true A B) else none else none)=some T;rw[iP S,List.append_nil,LX,o.binds,Option.bind_some,o.type,Option.bind_some];exact h
  .cases h
theorem ajl {b:List ak} {e:Ex} {n:Nat} {c:Sc} {T:Ty} (f:WD b e) (d:(bf b e n).2.2<=1000) (h:bI e c=some T):bI (oJ b e n) c=some T:=by obtain⟨_,a⟩:=made b e n c T f d h;unfold oJ;rw[LX,a.binds,Option.bind_some,a.type]
/-! ### Atoms of a form -/
mutual
def mH:aq->List ak->List ak
 | .mk a ps,l=>if a≠[] then(if a∈l then l else l++[a]) else qA ps l
def qA:List aq->List ak->List ak
 |[],l=>l
 |t::ts,l=>qA ts<|mH t l
end
theorem WH (t:aq) (l:List ak):mH t l=if t.au≠[] then(if t.au∈l then l else l++[t.au]) else qA t.ag l:=by cases t with|mk a ps=>rw[mH];rfl
theorem ajm:∀(xs a:List aq) (l:List ak),qA (xs++a) l=qA a (qA xs l):=by intro x;induction x<;>grind [qA]
theorem ajn (h:ps[i]?=some p) (l:List ak):qA (ps.take<|i+1) l=mH p (qA (ps.take i) l):=by rw[List.take_add_one,h,ajm];rfl
mutual
theorem ajo:∀(t:aq) (l:List ak),x∈l->x∈mH t l
 | .mk a ps,l,h=>by
  unfold mH;split
  .split
   .exact h
   .exact mA.2<|.inl h
  .exact P5 ps l h
theorem P5:∀(ps:List aq) (l:List ak),x∈l->x∈qA ps l
 |[],l,h=>h
 |t::ts,l,h=>by unfold qA;exact P5 ts _<|ajo t l h
end
mutual
theorem WJ:∀(t:aq) (l:List ak),(mH t l).length<=l.length+gI t
 | .mk a ps,l=>by
  unfold mH gI;split
  .split
   .omega
   .simp
  .exact P6 ps l
theorem P6:∀(ps:List aq) (l:List ak),(qA ps l).length<=l.length+kD ps
 |[],l=>by simp[qA,kD]
 |t::ts,l=>by have a:=WJ t l;have b:=P6 ts<|mH t l;unfold qA kD;omega
end
theorem ajp:∀{ps:List aq} {l:List ak} {p:aq},p∈ps->(∀l,x∈mH p l)->x∈qA ps l:=by intro x;induction x<;>grind [qA,P5]
theorem LZ (a:x≠[]) (l:List ak):x∈mH (bK x) l:=by grind [mH,bK]
theorem wP {p:aq} (a:p∈ps) (h:∀l,x∈mH p l) (l:List ak):x∈mH (.mk [] ps) l:=by grind [mH,ajp]
theorem zh:∀{e:Ex},e.ok->(x∈fK e\/Fv x e)->∀l,x∈mH e.av l
 | .at s,h,d,l=>by
  rcases d with d|⟨rfl,_⟩
  .simp[fK] at d
  .exact LZ (rm h) l
 | .un j a,h,d,l=>wP (p:=a.av) sm (zh h.2 d) l
 | .bi j a b,h,d,l=>by
  have g:(x∈fK a\/Fv x a)\/(x∈fK b\/Fv x b):=by
   rcases d with d|d
   .rcases mA.1 d with h|h
    .exact .inl<|.inl h
    .exact .inr<|.inl h
   .rcases d with h|h
    .exact .inl<|.inr h
    .exact .inr<|.inr h
  rcases g with g|hb
  .exact wP (p:=a.av) sm (zh h.2.1 g) l
  .exact wP (p:=b.av) sm (zh h.2.2 hb) l
 | .ite a b c,h,d,l=>by
  have g:(x∈fK a\/Fv x a)\/(x∈fK b\/Fv x b)\/(x∈fK c\/Fv x c):=by
   rcases d with d|d
   .rcases mA.1 d with h|h
    .exact .inl<|.inl h
    .rcases mA.1 h with h|h
     .exact .inr (.inl<|.inl h)
     .exact .inr (.inr<|.inl h)
   .rcases d with h|h|h
    .exact .inl<|.inr h
    .exact .inr (.inl<|.inr h)
    .exact .inr (.inr<|.inr h)
  rcases g with g|hb|i
  .exact wP (p:=a.av) sm (zh h.1 g) l
  .exact wP (p:=b.av) sm (zh h.2.1 hb) l
  .exact wP (p:=c.av) sm (zh h.2.2 i) l
 | .lt y a b,h,d,l=>by
  have g:x=y\/(x∈fK a\/Fv x a)\/(x∈fK b\/Fv x b):=by
   rcases d with d|d
   .rcases mC.1 d with h|h
    .exact .inl h
    .rcases mA.1 h with h|h
     .exact .inr (.inl<|.inl h)
     .exact .inr (.inr<|.inl h)
   .rcases d with h|⟨_,h⟩
    .exact .inr (.inl<|.inr h)
    .exact .inr (.inr<|.inr h)
  rcases g with rfl|g|hb
  .exact wP (p:=bK x) sm (λl=>LZ (yb h.1) l) l
  .exact wP (p:=a.av) sm (zh h.2.1 g) l
  .exact wP (p:=b.av) sm (zh h.2.2 hb) l
 | .fn f y A B e,h,d,l=>by
  obtain⟨n,o,_,_,_,m⟩:=h;have g:x=f\/x=y\/(x∈fK e\/Fv x e):=by
   rcases d with d|d
   .rcases mC.1 d with h|h
    .exact .inl h
    .rcases mC.1 h with h|h
     .exact .inr<|.inl h
     .exact .inr (.inr<|.inl h)
   .exact .inr (.inr<|.inr d.2.2)
  rcases g with rfl|rfl|g
  .exact wP (p:=bK x) sm (λl=>LZ (yb n) l) l
  .exact wP (p:=bK x) sm (λl=>LZ (yb o) l) l
  .exact wP (p:=e.av) sm (zh m g) l
/-! ### Expressions stay expressions -/
structure Ma (r:Bs×Ex×Nat):Prop where
 out:r.2.1.ok
 bs:∀p∈r.1,eH p.1=true/\p.2.ok
theorem Ma.au {ai:List ak} {r:Bs×Ex×Nat} (h:Ma r) (b:(dR ai r).2.2<=1000):Ma (dR ai r):=by
 unfold dR at b⊢;split
 .exact h
 .rename_i c;rw[iN c] at b;have hk:eH (dj cy<|bB cy ai r.2.2)=true:=Cq de (by dsimp only at b;omega);refine⟨?_,λp a=>?_⟩
  .show r7 _=true;unfold r7;rw[hk];simp
  .rcases mA.1 a with a|a
   .exact h.bs p a
   .simp only[List.mem_singleton] at a;subst a;exact⟨hk,h.out⟩
theorem Mb:∀{bs:Bs} {e:Ex},(∀p∈bs,eH p.1=true/\p.2.ok)->e.ok->(nest bs e).ok:=by intro x;induction x<;>grind [eH,Ex.ok,nest]
theorem zj (ai:List ak):∀(e:Ex) (n:Nat),e.ok->(bf ai e n).2.2<=1000->Ma (bf ai e n)
 | .at s,n,h,_=>⟨h,by simp[bf]⟩
 | .un v a,n,h,g=>by have j:=jj ai a n;have l:=sf ai<|bf ai a n;simp only[bf] at g;have d:=(zj ai a n h.2 om).au g;exact⟨⟨h.1,d.out⟩,d.bs⟩
 | .bi v a b,n,h,g=>by have j:=jj ai a n;have l:=sf ai<|bf ai a n;have m:=jj ai b (dR ai<|bf ai a n).2.2;have r:=sf ai<|bf ai b (dR ai<|bf ai a n).2.2;simp only[bf] at g;have d:=(zj ai a n h.2.1 om).au (ai:=ai) om;have hb:=(zj ai b (dR ai<|bf ai a n).2.2 h.2.2 om).au (ai:=ai) g;exact⟨⟨h.1,d.out,hb.out⟩,λp i=>(mA.1 i).elim (d.bs p)<|hb.bs p⟩
 | .ite a b c,n,h,g=>by have j:=jj ai a n;have l:=sf ai<|bf ai a n;have m:=jj ai b (dR ai<|bf ai a n).2.2;have r:=jj ai c (bf ai b (dR ai<|bf ai a n).2.2).2.2;simp only[bf] at g;have d:=(zj ai a n h.1 om).au (ai:=ai) om;have hb:=zj ai b (dR ai<|bf ai a n).2.2 h.2.1 om;have o:=zj ai c (bf ai b (dR ai<|bf ai a n).2.2).2.2 h.2.2 g;exact⟨⟨d.out,Mb hb.bs hb.out,Mb o.bs o.out⟩,d.bs⟩
 | .lt x a b,n,h,g=>by
  have j:=jj ai a n;have m:=jj ai b (bf ai a n).2.2;simp only[bf] at g;have d:=zj ai a n h.2.1 om;have hb:=zj ai b (bf ai a n).2.2 h.2.2 g;refine⟨hb.out,λp i=>?_⟩;rcases mA.1 i with i|i
  .exact d.bs p i
  .rcases mC.1 i with rfl|i
   .exact⟨h.1,d.out⟩
   .exact hb.bs p i
 | .fn f x A B e,n,h,g=>by obtain⟨z,C,q,t,u,y⟩:=h;simp only[bf] at g;have d:=zj ai e n y g;exact⟨⟨z,C,q,t,u,Mb d.bs d.out⟩,by simp[bf]⟩
def ru (bs:Bs):Nat:=(bs.map λp=>2+p.2.n).sum
theorem WK (a b:Bs):ru (a++b)=ru a+ru b:=by grind [ru]
theorem WM (p:ak×Ex) (b:Bs):ru (p::b)=2+p.2.n+ru b:=by simp[ru]
theorem P7 (bs:Bs) (e:Ex):(nest bs e).n=ru bs+e.n:=by induction bs<;>grind [nest,Ty.n,Ex.n,ru]
theorem Mc (a:List ak) (r:Bs×Ex×Nat):ru (dR a r).1+(dR a r).2.1.n<=ru r.1+r.2.1.n+3:=by grind [ru,dR,Ty.n,Ex.n]
theorem ye (d:List ak):∀(e:Ex) (n:Nat),ru (bf d e n).1+(bf d e n).2.1.n+3<=4*e.n
 | .at s,n=>by simp[bf,ru,Ex.n]
 | .un g a,n=>by have:=ye d a n;have:=Mc d<|bf d a n;simp only[bf,Ex.n];omega
 | .bi g a b,n=>by have:=ye d a n;have:=Mc d<|bf d a n;have:=ye d b (dR d<|bf d a n).2.2;have:=Mc d<|bf d b (dR d<|bf d a n).2.2;simp only[bf,Ex.n,WK];omega
 | .ite a b c,n=>by have:=ye d a n;have:=Mc d<|bf d a n;have:=ye d b (dR d<|bf d a n).2.2;have:=ye d c (bf d b (dR d<|bf d a n).2.2).2.2;simp only[bf,Ex.n,P7];omega
 | .lt x a b,n=>by have:=ye d a n;have:=ye d b (bf d a n).2.2;simp only[bf,Ex.n,WK,WM];omega
 | .fn f x A B e,n=>by have:=ye d e n;simp only[bf,Ex.n,P7];rw[show ru ([]:Bs)=0 from rfl];omega
/-! ### The normal form -/
def sh (e:Ex):Option Ex:=if(cE (dP e [] []) e [] 0).2<=100 then some (cE (dP e [] []) e [] 0).1 else none
def po (e:Ex):Option Ex:=(sh e).bind λp=>if(bf (mH p.av []) p 0).2.2<=100 then some (oJ (mH p.av []) p 0) else none
theorem P8 {e p:Ex} (h:e.ok) (a:sh e=some p):p.ok:=by
 unfold sh at a;split at a
 .cases a;exact yZ _ e [] 0 h om λs b _=>b
 .cases a
theorem P9 {e q:Ex} (h:e.ok) (a:po e=some q):q.ok:=by
 unfold po at a;cases b:sh e with
 |none=>rw[b] at a;cases a
 |some p=>
  rw[b,Option.bind_some] at a;split at a
  .cases a;have:=zj (mH p.av []) p 0 (P8 h b) om;exact Mb this.bs this.out
  .cases a
theorem WN {e q:Ex} {T:Ty} (h:e.ok) (i:bI e []=some T) (b:po e=some q):bI q []=some T:=by
 unfold po at b;cases a:sh e with
 |none=>rw[a] at b;cases b
 |some p=>
  have j:=P8 h a;rw[a,Option.bind_some] at b;split at b
  .rename_i m;cases b;unfold sh at a;split at a
   .rename_i n;cases a;have f:∀s,¬Fv s e:=λs c=>by have:=rr i c;simp[look] at this
    have g:bI (cE (dP e [] []) e [] 0).1 []=some T:=by rw[<-i];exact y0 _ e [] 0 [] [] om λs _ c=>absurd c<|f s
    have d:∀s,¬Fv s (cE (dP e [] []) e [] 0).1:=λs c=>by have:=rr g c;simp[look] at this
    refine ajl ⟨(ze _ e [] 0).1,λx _=>d x,λx l=>zh j l []⟩ om g
   .cases a
  .cases b
/-! ### Target types -/
def Cs (x:aq):aq:=.mk [] [bK [101],.mk [] [bK [116],.mk [] [bK [99],bK [118],x],bK [118]]]
def sX:Ty->aq
 | .i=>bK [105]
 | .op false a b=>.mk [] [bK [116],sX a,sX b]
 | .op true a b=>.mk [] [bK [101],.mk [] [bK [116],.mk [] [bK [99],bK [118],sX a,Cs (sX b)],bK [118]]]
def bD (t:Ty):ak:=(sX t).text
def dQ (s:ak):ak:=[40,101,32,40,116,32,40,99,32,118,32]++s++[41,32,118,41,41]
theorem wQ (c:UInt8) (h:fA c=true):Good (bK [c]):=.au _ sm<|by simp[h]
theorem WQ {x:aq} (h:Good x):Good (Cs x):=by
 refine .list _ sm λp a=>?_;simp only[mC,List.not_mem_nil,or_false] at a;rcases a with rfl|rfl
 .exact wQ _ de
 .refine .list _ sm λp a=>?_;simp only[mC,List.not_mem_nil,or_false] at a;rcases a with rfl|rfl|rfl
  .exact wQ _ de
  .refine .list _ sm λp a=>?_;simp only[mC,List.not_mem_nil,or_false] at a;rcases a with rfl|rfl|rfl
   .exact wQ _ de
   .exact wQ _ de
   .exact h
  .exact wQ _ de
theorem WR (x:aq):(Cs x).text=dQ x.text:=by simp_all[Cs,aq.text,Ty.text,dQ,bK,sR,tQ,rZ,rY]
theorem Qa (s:ak):(dQ s).length=s.length+16:=by simp[dQ]
theorem WT (x:aq):(Cs x).depth=max 3 (x.depth+3):=by have a:∀c:UInt8,(bK [c]).depth=0:=λc=>rfl;unfold Cs;simp only[aq.depth,aq.depth.deeps,bK];omega
theorem GF:∀t:Ty,Good (sX t)
 | .i=>wQ _ de
 | .op false a b=>by
  refine .list _ sm λp c=>?_;simp only[mC,List.not_mem_nil,or_false] at c;rcases c with rfl|rfl|rfl
  .exact wQ _ de
  .exact GF a
  .exact GF b
 | .op true a b=>by
  refine .list _ sm λp c=>?_;simp only[mC,List.not_mem_nil,or_false] at c;rcases c with rfl|rfl
  .exact wQ _ de
  .refine .list _ sm λp c=>?_;simp only[mC,List.not_mem_nil,or_false] at c;rcases c with rfl|rfl|rfl
   .exact wQ _ de
   .refine .list _ sm λp c=>?_;simp only[mC,List.not_mem_nil,or_false] at c;rcases c with rfl|rfl|rfl|rfl
    .exact wQ _ de
    .exact wQ _ de
    .exact GF a
    .exact WQ<|GF b
   .exact wQ _ de
theorem WU:bD .i=[105]:=sR sm
theorem WV (a b:Ty):bD (.op false a b)=[40,116,32]++bD a++[32]++bD b++[41]:=by simp_all[bD,bK,aq.text,Ty.text,sX,sR,tQ,rZ,rY]
theorem WW (a b:Ty):bD (.op true a b)=[40,101,32,40,116,32,40,99,32,118,32]++bD a++[32]++dQ (bD b)++[41,32,118,41,41]:=by simp_all[bD,dQ,bK,aq.text,Ty.text,sX,Cs,sR,tQ,rZ,rY,WR]
theorem Et:∀t:Ty,(bD t).length+16<=17*t.n
 | .i=>by rw[WU];simp[Ty.n]
 | .op false a b=>by have:=Et a;have:=Et b;rw[WV];simp only[lA,lC,List.length_nil,Ty.n];omega
 | .op true a b=>by have:=Et a;have:=Et b;rw[WW];simp only[lA,lC,List.length_nil,Ty.n,Qa];omega
theorem GG:∀t:Ty,(sX t).depth+3<=3*t.n
 | .i=>by simp[sX,bK,aq.depth,aq.depth.deeps,Ty.n]
 | .op false a b=>by have:=GG a;have:=GG b;have:=a.pos;have:=b.pos;simp only[sX,aq.depth,aq.depth.deeps,bK,Ty.n];omega
 | .op true a b=>by have:=GG a;have:=GG b;have:=a.pos;have:=b.pos;have c:=WT<|sX b;simp only[sX,aq.depth,aq.depth.deeps,bK,Ty.n,c];omega
/-! ### The maker's state -/
structure Tk where
 aM:ak
 regs:List ak
 loads:Nat
 self:List ak
 sc:List (ak×Nat×Ty)
 expr:Ex
 on:Nat
 aY:ak
 next:Nat
structure Mk where
 blocks:List Bk
 bN:List Tk
 count:Nat
 wide:Bool
 code:List ak
 types:List ak
abbrev cY:=List<|ak×Nat×Ty
def fx (s:cY):Sc:=s.map λp=>(p.1,p.2.2)
theorem GH (s:cY) (x:ak) (r:Nat) (T:Ty):fx (s++[(x,r,T)])=fx s++[(x,T)]:=by simp[fx]
def lQ (s:cY) (x:ak):Nat:=((s.reverse.find? λp=>decide<|p.1=x).map λp=>p.2.1).getD 0
def lB (s:cY) (x:ak):Ty:=(look (fx s) x).getD .i
def Mk.dI (m:Mk) (a:ak):Mk:={m with types:=m.types++[a],wide:=m.wide||decide (40<m.types.length+1)}
def Mk.cX (m:Mk) (h:ak) (a:List ak):Mk:={m with code:=m.code++[eN h a]}
def Mk.mI (m:Mk):Mk:={m with count:=m.count+1}
def Mk.aM (m:Mk):ak:=98::aS m.count
abbrev Md:ak:=[99,111,110,115,116]
abbrev nu:ak:=[110,101,119]
abbrev vj:ak:=[108,97,98]
abbrev vm:ak:=[112,97,99,107]
abbrev Ct:ak:=[111,112,101,110]
abbrev vq:ak:=[103,101,116]
abbrev pq:ak:=[109,111,118]
abbrev Cu:ak:=[106,117,109,112]
abbrev I4:ak:=[122,101,114,111]
abbrev Eu:ak:=[109,97,105,110]
abbrev Cv:ak:=[101,110,100]
def Ex.au:Ex->ak
 | .at s=>s
 |_=>[]
theorem Ex.sY (e:Ex):e.av.au=e.au:=by cases e<;>rfl
def cO (m:Mk) (s:cY) (a:ak):Mk×Nat:=if eH a then(m,lQ s a) else((m.dI [105]).cX Md [aS m.types.length,a],m.types.length)
structure Pk where
 m:Mk
 r:Nat
 w:ak
def qB (m:Mk) (s:cY) (b:Nat) (aN:List ak) (on aM a:ak) (cQ:List ak):Pk:=
 let regs:=aN.map (λx=>aS<|lQ s x)++(if on≠[] then[aS b] else[]);let c:=aN.map (λx=>bD<|lB s x)++(if on≠[] then[on] else[]);let w:=eN [116] c;let r:=m.types.length;let code:=eN [99] (w::cQ)
 ⟨(((((((m.dI w).cX nu (aS r::regs)).dI code).cX vj [aS<|r+1,aM]).dI<|eN [116] [code,w]).cX nu [aS<|r+2,aS<|r+1,aS r]).dI a).cX vm [aS<|r+3,aS<|r+2,a,w],r+3,w⟩
def jn (s:cY) (k:Nat) (aN:List ak) (a:cY):cY:=a++(aN.zipIdx).map λp=>(p.1,k+p.2,lB s p.1)
def pR (m:Mk) (s:cY) (f x:ak) (A B:Ty) (e:Ex):Pk:=qB m.mI s 0 (dP (.fn f x A B e) [] []) [] m.aM (bD<|.op true A B) [bD A,dQ (bD B)]
def Cw (s:cY) (f x:ak) (A B:Ty) (e:Ex):cY:=
 (if 0<k9 f e then jn s 3 (dP (.fn f x A B e) [] []) []++[(f,3+(dP (.fn f x A B e) [] []).length+2,.op true A B)] else jn s 3 (dP (.fn f x A B e) [] []) [])++[(x,1,A)]
def Cx (m:Mk) (s:cY) (f x:ak) (A B:Ty) (e:Ex):Tk:=
 ⟨m.aM,[(pR m s f x A B e).w,bD A,dQ (bD B)],(dP (.fn f x A B e) [] []).length,if 0<k9 f e then[bD<|.op true A B,(pR m s f x A B e).w] else[],Cw s f x A B e,e,2,dQ<|bD B,3⟩
def Cy (m:Mk) (s:cY) (f x:ak) (A B:Ty) (e:Ex):Mk×Nat:=
 ({(pR m s f x A B e).m with bN:=(pR m s f x A B e).m.bN++[Cx m s f x A B e]},(pR m s f x A B e).r)
def si (h:ak):ak:=if h=[43] then[97,100,100] else if h=[45] then[115,117,98] else if h=[42] then[109,117,108] else nu
def oK (m:Mk) (s:cY) (c:Ty):Ex->Mk×Nat
 | .at a=>cO m s a
 | .fn f x A B e=>Cy m s f x A B e
 | .un h a=>
  let p:=cO m s a.au
  ((p.1.dI<|bD c).cX vq [aS p.1.types.length,aS p.2,if h=sV then[49] else[48]],p.1.types.length)
 | .bi h a b=>
  let p:=cO m s a.au;let q:=cO p.1 s b.au
  ((q.1.dI<|bD c).cX (si h) [aS q.1.types.length,aS p.2,aS q.2],q.1.types.length)
 | .ite a b _=>
  let p:=cO m s a.au;let q:=cO p.1 s b.au
  ((q.1.dI<|bD c).cX (si ix) [aS q.1.types.length,aS p.2,aS q.2],q.1.types.length)
 | .lt x a _=>
  let p:=cO m s x;let q:=cO p.1 s a.au
  ((q.1.dI<|bD c).cX (si il) [aS q.1.types.length,aS p.2,aS q.2],q.1.types.length)
def pS (m:Mk) (s:cY) (b:Nat) (aY name:ak) (a:Ty) (rest:Ex):Pk:=qB m.mI s b (dP rest [name] []) aY m.aM (dQ<|bD a) [bD a]
def Me (m:Mk) (s:cY) (b:Nat) (aY name:ak) (a:Ty) (rest:Ex):Tk:=
 ⟨m.aM,[(pS m s b aY name a rest).w,bD a],(dP rest [name] []).length+1,[],jn s 2 (dP rest [name] []) []++[(name,1,a)],rest,2+(dP rest [name] []).length,aY,2⟩
def wR (m:Mk) (s:cY) (b:Nat) (aY name:ak) (a:Ty) (rest:Ex):Mk×Nat×ak:=
 ({(pS m s b aY name a rest).m with bN:=(pS m s b aY name a rest).m.bN++[Me m s b aY name a rest]},(pS m s b aY name a rest).r,dQ<|bD a)
def vu (m:Mk) (s:Nat):Mk:=
 let r:=m.types.length
 (((((m.dI []).cX Ct [aS r,aS s]).dI []).cX vq [aS<|r+1,aS r,[48]]).dI []).cX vq [aS<|r+2,aS r,[49]]
def AF (m:Mk) (f x:Nat) (on:Nat):Mk:=
 let r:=m.types.length
 ((((vu m f).cX pq [[48],aS (r+2)]).cX pq [[49],aS x]).cX pq [[50],aS on]).cX Cu [aS (r+1)]
def AG (m:Mk) (on r:Nat):Mk:=
 let q:=m.types.length
 (((vu m on).cX pq [[48],aS (q+2)]).cX pq [[49],aS r]).cX Cu [aS (q+1)]
structure Goal where
 name:ak
 s:Ex
 rest:Ex
def bM:Ex->Goal
 | .lt x a b=>⟨x,a,b⟩
 |e=>⟨[],e,e⟩
def pr (s:cY) (e:Ex):Ty:=(bI e<|fx s).getD .i
structure At where
 m:Mk
 s:cY
 on:Nat
 aY:ak
def Mf (a:At) (g:Goal):At:=
 if g.name≠[] then let c:=wR a.m a.s a.on a.aY g.name (pr a.s g.s) g.rest;⟨c.1,a.s,c.2.1,c.2.2⟩ else a
def lD (a:At) (e:Ex):Mk ⊕ At×Ex:=
 let g:=bM e
 match g.s with
 | .bi h f x=>
  if h=lz then
   let p:=cO a.m a.s f.au;let q:=cO p.1 a.s x.au;let b:=Mf {a with m:=q.1} g
   .inl (AF b.m p.2 q.2 b.on)
  else
   let p:=oK a.m a.s (pr a.s g.s) g.s
   if g.name=[] then .inl (AG p.1 a.on p.2) else .inr ({a with m:=p.1,s:=a.s++[(g.name,p.2,pr a.s g.s)]},g.rest)
 | .ite c x y=>
  let p:=cO a.m a.s c.au;let b:=Mf {a with m:=p.1} g;let aM:=b.m.aM;let d:=b.m.mI.cX I4 [aS p.2,aM];let i:Tk:=⟨aM,d.types,0,[],a.s,x,b.on,b.aY,d.types.length⟩
  .inr ({b with m:={d with bN:=d.bN++[i]}},y)
 |s=>
  let p:=oK a.m a.s (pr a.s s) s
  if g.name=[] then .inl (AG p.1 a.on p.2) else .inr ({a with m:=p.1,s:=a.s++[(g.name,p.2,pr a.s s)]},g.rest)
structure Fr (L:List Nat) (w:World) (L':List Nat) (w':World):Prop where
 aG:aj L w w'
 mem:∀x∈L',x∈L\/w.heap.size<=x
theorem Fr.refl (L:List Nat) (w:World):Fr L w L w:=⟨aj.refl L w,λx a=>.inl a⟩
theorem Fr.go {L2:List Nat} (h:Fr L w L1 w1) (k:Fr L1 w1 L2 w2):Fr L w L2 w2:=
 ⟨h.aG.since k.aG h.mem,λx b=>by
  rcases k.mem x b with a|a
  .exact h.mem x a
  .have:=h.aG.size;right;omega⟩
theorem Fr.ext (h:Fr L w L1 w1) (k:aj [] w1 w2):Fr L w L1 w2:=⟨h.aG.trans k.any,h.mem⟩
theorem Fr.aB (h:Fr L w L1 w1) (k:aj G w1 w2) (a:∀x∈G,x∈L1):Fr L w L1 w2:=⟨h.aG.since (k.mono a) h.mem,h.mem⟩
theorem Fr.of (k:aj G w w') (a:∀x∈G,x∈L):Fr L w L w':=⟨k.mono a,λx b=>.inl b⟩
theorem Fr.to {L2:List Nat} (h:Fr L w L1 w1) (b:∀x∈L2,x∈L1\/w.heap.size<=x):Fr L w L2 w1:=⟨h.aG,λx c=>by
 rcases b x c with a|a
 .exact h.mem x a
 .exact .inr a⟩
theorem Fr.grow (h:Fr L w L1 w1):Fr L w (w1.heap.size::L1) w1:=h.to λx a=>by
 rcases mC.1 a with rfl|a
 .exact .inr h.aG.size
 .exact .inl a
theorem cj.go {c:C} (h:cj L w v c) (k:Fr L w L' w'):cj L' w' v c:=by
 have b:cj (L++L') w v c:=h.fresh λx a=>by
  rcases mA.1 a with a|a
  .exact .inl a
  .exact k.mem x a
 exact(b.aG<|k.aG.mono λx a=>List.mem_append_left _ a).weaken λx a=>mR _ a
theorem dG.go {a:List C} (h:dG L w vs a) (k:Fr L w L' w'):dG L' w' vs a:=dG.of h.length λ_ _ _ c b=>(h.get c b).go k
theorem jg.go {a:List C} (h:jg L w v a) (k:Fr L w L' w'):jg L' w' v a:=let⟨vs,e,h⟩:=h;⟨vs,e,h.go k⟩
theorem bg.go (h:bg L w v t) (k:Fr L w L' w'):bg L' w' v t:=jg.go h k
theorem da.go {t:List aq} (h:da L w v t) (k:Fr L w L' w'):da L' w' v t:=cj.go h k
theorem bo.go (h:bo L w v xs) (k:Fr L w L' w'):bo L' w' v xs:=cj.go h k
theorem bo.fresh (h:bo L w v xs) (a:∀x∈L',x∈L\/w.heap.size<=x):bo L' w v xs:=cj.fresh h a
theorem bg.fresh (h:bg L w v t) (a:∀x∈L',x∈L\/w.heap.size<=x):bg L' w v t:=jg.fresh h a
structure gC (L:List Nat) (w:World) (b off:Nat) (vs:List Value):Prop where
 cells:fZ w b off vs
 lt:b<w.heap.size
 out:b∉L
theorem gC.go (h:gC L w b off vs) (k:Fr L w L' w'):gC L' w' b off vs:=
 ⟨λj v c=>(World.cell?_of_block<|k.aG.block b h.lt h.out).trans<|h.cells j v c,lL h.lt k.aG.size,λd=>by
  rcases k.mem b d with a|a
  .exact h.out a
  .have:=h.lt;omega⟩
theorem gC.ext (h:gC L w b off vs) (k:aj [] w w'):gC L w' b off vs:=h.go<|Fr.of k sm
theorem gC.aB (h:gC L w b off vs) (k:aj G w w') (a:∀x∈G,x∈L):gC L w' b off vs:=h.go (Fr.of k a)
/-! ### Tasks -/
def wS (a:List Nat):List (List C):=a.map λx:Nat=>[.val (.int .i64 (x:Int))]
def AH (L:List Nat) (w:World) (v:Value) (a:List Nat):Prop:=cj L w v (.sl 1<|wS a)
theorem AH.ext {a:List Nat} (h:AH L w v a) (k:aj [] w w'):AH L w' v a:=cj.ext h k
theorem AH.go {a:List Nat} (h:AH L w v a) (k:Fr L w L' w'):AH L' w' v a:=cj.go h k
theorem ajq {a:Option Addr} {n c x:Nat} {e:List Nat} (h:AH L w (.slice a n c) e) (l:e[i]?=some x):
  ∃b off,a=some ⟨b,off,none⟩/\fZ w b (off+i*1) [.int .i64 (x:Int)]:=by
 obtain⟨b,off,vs,g,hb,_,_,j,d⟩:=Ah h (show(wS e)[i]?=some [.val (.int .i64 (x:Int))] by simp[wS,l])
 match vs,d with
 |[v],d=>obtain⟨f,_⟩:=d;cases f;exact⟨b,off,g,j⟩
 |[],d=>exact d.elim
 |_::_::_,d=>exact d.2.elim
def kO (s:cY):List ak:=s.map λp=>p.1
def zk (s:cY):List Nat:=s.map λp=>p.2.1
def qC (s:cY):List ak:=s.map λp=>p.2.2.text
theorem ajr (s:cY) (x:ak) (r:Nat) (T:Ty):kO (s++[(x,r,T)])=kO s++[x]:=by simp[kO]
theorem ajs (s:cY) (x:ak) (r:Nat) (T:Ty):zk (s++[(x,r,T)])=zk s++[r]:=by simp[zk]
theorem ajt (s:cY) (x:ak) (r:Nat) (T:Ty):qC (s++[(x,r,T)])=qC s++[T.text]:=by simp[qC]
def Tk.enc (t:Tk):List C:=
 [.val<|str t.aM,.sl 1<|ic t.regs,.val<|.int .i64 (t.loads:Int),.sl 1<|ic t.self,.sl 1 (ic<|kO t.sc),.sl 1 (wS<|zk t.sc),.sl 1 (ic<|qC t.sc),.val<|str t.expr.av.au,.sl 2<|du t.expr.av.ag,.val<|.int .i64 (t.on:Int),.val<|str t.aY,.val (.int .i64 (t.next:Int))]
structure pT (L:List Nat) (w:World) (t:Tk) (v1 v3 v4 v5 v6 v8:Value):Prop where
 regs:bo L w v1 t.regs
 self:bo L w v3 t.self
 aN:bo L w v4 (kO t.sc)
 at_:AH L w v5 (zk t.sc)
 types:bo L w v6 (qC t.sc)
 ag:da L w v8 t.expr.av.ag
def rv (t:Tk) (a b c d e f:Value):List Value:=
 [str t.aM,a,.int .i64 (t.loads:Int),b,c,d,e,str t.expr.av.au,f,.int .i64 (t.on:Int),str t.aY,.int .i64 (t.next:Int)]
theorem aju {t:Tk} (h:dG L w vs t.enc):∃v1 v3 v4 v5 v6 v8,vs=rv t v1 v3 v4 v5 v6 v8/\pT L w t v1 v3 v4 v5 v6 v8:=by
 have a:=h.length;unfold Tk.enc at h a
 match vs,a,h with
 |[_,p,_,q,r,s,u,_,v,_,_,_],_,h=>obtain⟨c,d,e,f,g,i,j,l,m,n,b,o,_⟩:=h;cases c;cases e;cases l;cases n;cases b;cases o;exact⟨p,q,r,s,u,v,rfl,d,f,g,i,j,m⟩
theorem pT.Ea {t:Tk} (h:pT L w t v1 v3 v4 v5 v6 v8):dG L w (rv t v1 v3 v4 v5 v6 v8) t.enc:=
 ⟨.val _,h.regs,.val _,h.self,h.aN,h.at_,h.types,.val _,h.ag,.val _,.val _,.val _,trivial⟩
theorem pT.go {t:Tk} (h:pT L w t v1 v3 v4 v5 v6 v8) (k:Fr L w L' w'):pT L' w' t v1 v3 v4 v5 v6 v8:=
 ⟨h.regs.go k,h.self.go k,h.aN.go k,h.at_.go k,h.types.go k,h.ag.go k⟩
theorem pT.ext {t:Tk} (h:pT L w t v1 v3 v4 v5 v6 v8) (k:aj [] w w'):pT L w' t v1 v3 v4 v5 v6 v8:=h.go<|Fr.of k sm
theorem pT.aB {t:Tk} (h:pT L w t v1 v3 v4 v5 v6 v8) (k:aj G w w') (a:∀x∈G,x∈L):pT L w' t v1 v3 v4 v5 v6 v8:=h.go<|Fr.of k a
theorem pT.grow {t:Tk} (h:pT L w t v1 v3 v4 v5 v6 v8):pT (w.heap.size::L) w t v1 v3 v4 v5 v6 v8:=h.go<|(Fr.refl L w).grow
def iK (L:List Nat) (w:World) (T:TypeId) (b:Nat) (t:Tk):Prop:=∃v1 v3 v4 v5 v6 v8,aK w b (rv t v1 v3 v4 v5 v6 v8).toArray T/\pT L w t v1 v3 v4 v5 v6 v8
theorem iK.ext {T:TypeId} {t:Tk} (h:iK L w T b t) (k:aj [] w w'):iK L w' T b t:=by obtain⟨v1,v3,v4,v5,v6,v8,hb,a⟩:=h;exact⟨v1,v3,v4,v5,v6,v8,hb.aG k sm,a.ext k⟩
theorem iK.go {T:TypeId} {t:Tk} (h:iK L w T b t) (k:Fr L w L' w') (d:aj G w w') (hb:b∉G):iK L' w' T b t:=by obtain⟨v1,v3,v4,v5,v6,v8,a,c⟩:=h;exact⟨v1,v3,v4,v5,v6,v8,a.aG d hb,c.go k⟩
/-! ### The maker -/
theorem cZ.ajv {T:TypeId} (h:cZ w T v g xs):jC w T 1 v g (ic xs).length (xs.map λx=>str x):=by rw[rW];exact h
structure eh (L:List Nat) (w:World) (T:TypeId) (sz:Nat) (v:Value) (g:Option Nat) (rows:List (List C)):Prop where
 own:∃xs,jC w T sz v g rows.length xs/\dG L w xs rows.flatten
 row:∀row∈rows,row.length=sz
theorem eh.aG {T:TypeId} (h:eh L w T sz v g rows) (k:Fr L w L' w') (e:aj G w w') (d:∀x∈g.toList,x∉G):eh L' w' T sz v g rows:=by obtain⟨xs,a,c⟩:=h.own;exact⟨⟨xs,a.aG e λb hb=>d b<|by simp[hb],c.go k⟩,h.row⟩
theorem eh.len {T:TypeId} (h:eh L w T sz v g rows):∃a cap,v= .slice a rows.length cap:=by obtain⟨xs,b,_⟩:=h.own;exact b.len
theorem eh.lt {T:TypeId} (h:eh L w T sz v g rows):∀x∈g.toList,x<w.heap.size:=by obtain⟨xs,a,_⟩:=h.own;intro x b;exact a.lt x (by simpa using b)
theorem eh.rep {T:TypeId} (h:eh L w T sz v g rows) (d:∀x∈g.toList++L',x∈L\/w.heap.size<=x) (e:∀x∈g.toList,x∉L'):cj L' w v (.sl sz rows):=by obtain⟨xs,a,c⟩:=h.own;exact iS.done (L:=L') ⟨a,c.fresh d,h.row,λb hb=>e b<|by simp[hb]⟩
theorem eh.gr {B:Nat} {T:TypeId} (h:eh L w T sz v g rows) (e:∀x∈g.toList,x∈L) (d:∀b,g=some b->B<=b) (f:B<=w.heap.size):Gr B [] w T sz v g rows:=by obtain⟨xs,a,c⟩:=h.own;exact⟨⟨xs,a,c.fresh λx i=>.inl (e x<|by simpa using i),h.row,sm⟩,d,sm,f⟩
theorem Gr.down {B B':Nat} {T:TypeId} (h:Gr B L w T sz v g rows) (a:B'<=B):Gr B' L w T sz v g rows:=
 ⟨h.own,λb hb=>Nat.le_trans a<|h.low b hb,h.cU,Nat.le_trans a h.bsz⟩
structure vv where
 M:TypeId
 B:TypeId
 T:TypeId
 S:TypeId
structure iy (τ:vv) (E L:List Nat) (w:World) (b:Nat) (o:Bool) (vb vt vc vy:Value) (gb gt gc gy:Option Nat) (m:Mk):Prop where
 bl:eh L w τ.B 3 vb gb (m.blocks.map Bk.enc)
 ta:eh L w τ.T 12 vt gt (m.bN.map Tk.enc)
 co:(o=true/\cZ w τ.S vc gc m.code)\/(o=false/\gc=none/\bo L w vc m.code)
 ty:cZ w τ.S vy gy m.types
 eL:L=E++b::(gb.toList++(gt.toList++(gc.toList++gy.toList)))
 nd:L.Nodup
 cU:∀x∈L,x<w.heap.size
section
variable {τ:vv} {E L:List Nat} {w w':World} {b:Nat} {o:Bool} {vb vt vc vy:Value} {gb gt gc gy:Option Nat} {m:Mk}
theorem AI {A B C D E:List Nat} {b x:Nat}:x∈E++b::(A++(B++(C++D)))↔x∈E\/x=b\/x∈A\/x∈B\/x∈C\/x∈D:=by simp
theorem iy.mem (h:iy τ E L w b o vb vt vc vy gb gt gc gy m) {x:Nat}:x∈L↔x∈E\/x=b\/x∈gb.toList\/x∈gt.toList\/x∈gc.toList\/x∈gy.toList:=by rw[h.eL];exact AI
theorem iy.apart (h:iy τ E L w b o vb vt vc vy gb gt gc gy m):E.Nodup/\b∉E/\
  (∀x∈gb.toList,x∉E/\x≠b)/\(∀x∈gt.toList,x∉E/\x≠b/\x∉gb.toList)/\(∀x∈gc.toList,x∉E/\x≠b/\x∉gb.toList/\x∉gt.toList)/\
  (∀x∈gy.toList,x∉E/\x≠b/\x∉gb.toList/\x∉gt.toList/\x∉gc.toList):=by
 have j:=h.nd;rw[h.eL] at j;rw[List.nodup_append] at j;obtain⟨s,n,f⟩:=j;rw[List.nodup_cons] at n;obtain⟨g,p⟩:=n;rw[List.nodup_append] at p;obtain⟨_,q,i⟩:=p;rw[List.nodup_append] at q;obtain⟨_,l,r⟩:=q;rw[List.nodup_append] at l;obtain⟨_,_,t⟩:=l;refine⟨s,λhb=>f b hb b sm rfl,λx a=>⟨λd=>f x d x (by simp[a]) rfl,λe=>g<|by simp[<-e,a]⟩,λx a=>⟨λd=>f x d x (by simp[a]) rfl,λe=>g<|by simp[<-e,a],λc=>i x c x (by simp[a]) rfl⟩,
  λx a=>⟨λd=>f x d x (by simp[a]) rfl,λe=>g<|by simp[<-e,a],λc=>i x c x (by simp[a]) rfl,λc=>r x c x (by simp[a]) rfl⟩,
  λx a=>⟨λd=>f x d x (by simp[a]) rfl,λe=>g<|by simp[<-e,a],λc=>i x c x (by simp[a]) rfl,λc=>r x c x (by simp[a]) rfl,λc=>t x c x a rfl⟩⟩
theorem Qb (g:Option Nat):g.toList.Nodup:=by cases g<;>simp
theorem ajw {A B C D:Option Nat} {F:List Nat} {b:Nat} (a:F.Nodup) (c:b∉F) (d:∀x∈A.toList,x∉F/\x≠b) (hb:∀x∈B.toList,x∉F/\x≠b/\x∉A.toList) (e:∀x∈C.toList,x∉F/\x≠b/\x∉A.toList/\x∉B.toList) 
  (f:∀x∈D.toList,x∉F/\x≠b/\x∉A.toList/\x∉B.toList/\x∉C.toList):(F++b::(A.toList++(B.toList++(C.toList++D.toList)))).Nodup:=by grind [Qb,List.nodup_append,List.nodup_cons]
theorem iy.swap (h:iy τ E L w b o vb vt vc vy gb gt gc gy m) (k:aj G w w') (v:∀x∈G,x∈L/\x≠b/\x∉E) {gb' gt' gc' gy':Option Nat} 
  (i:∀x∈gb'.toList,x∈gb.toList\/w.heap.size<=x/\x∉gt'.toList/\x∉gc'.toList/\x∉gy'.toList) (l:∀x∈gt'.toList,x∈gt.toList\/w.heap.size<=x/\x∉gb'.toList/\x∉gc'.toList/\x∉gy'.toList)
  (p:∀x∈gc'.toList,x∈gc.toList\/w.heap.size<=x/\x∉gb'.toList/\x∉gt'.toList/\x∉gy'.toList) (r:∀x∈gy'.toList,x∈gy.toList\/w.heap.size<=x/\x∉gb'.toList/\x∉gt'.toList/\x∉gc'.toList):
  Fr L w (E++b::(gb'.toList++(gt'.toList++(gc'.toList++gy'.toList)))) w'/\(E++b::(gb'.toList++(gt'.toList++(gc'.toList++gy'.toList)))).Nodup:=by
 obtain⟨s,t,u,n,j,g⟩:=h.apart;have q:∀x,x∈E\/x=b->x<w.heap.size:=λx c=>h.cU x<|h.mem.2 (by rcases c with c|c<;>simp[c]);have f:∀x,w.heap.size<=x->x∉E/\x≠b:=λx c=>⟨λy=>by have:=q x<|.inl y;omega,λe=>by have:=q x<|.inr e;omega⟩;refine⟨⟨k.mono λx c=>(v x c).1,λx c=>?_⟩,ajw s t (λx c=>?_) (λx c=>?_) (λx c=>?_) λx c=>?_⟩
 .rw[AI] at c;rcases c with c|c|c|c|c|c
  .exact .inl (h.mem.2<|.inl c)
  .exact .inl<|h.mem.2 (.inr<|.inl c)
  .rcases i x c with a|a
   .exact .inl (h.mem.2<|by simp[a])
   .exact .inr a.1
  .rcases l x c with a|a
   .exact .inl (h.mem.2<|by simp[a])
   .exact .inr a.1
  .rcases p x c with a|a
   .exact .inl (h.mem.2<|by simp[a])
   .exact .inr a.1
  .rcases r x c with a|a
   .exact .inl (h.mem.2<|by simp[a])
   .exact .inr a.1
 .rcases i x c with a|a
  .exact u x a
  .exact f x a.1
 .rcases l x c with a|a
  .refine⟨(n x a).1,(n x a).2.1,λhb=>?_⟩;rcases i x hb with d|d
   .exact(n x a).2.2 d
   .exact d.2.1 c
  .exact⟨(f x a.1).1,(f x a.1).2,a.2.1⟩
 .rcases p x c with a|a
  .refine⟨(j x a).1,(j x a).2.1,λhb=>?_,λhb=>?_⟩
   .rcases i x hb with d|d
    .exact(j x a).2.2.1 d
    .exact d.2.2.1 c
   .rcases l x hb with d|d
    .exact(j x a).2.2.2 d
    .exact d.2.2.1 c
  .exact⟨(f x a.1).1,(f x a.1).2,a.2.1,a.2.2.1⟩
 .rcases r x c with a|a
  .refine⟨(g x a).1,(g x a).2.1,λhb=>?_,λhb=>?_,λhb=>?_⟩
   .rcases i x hb with d|d
    .exact(g x a).2.2.1 d
    .exact d.2.2.2 c
   .rcases l x hb with d|d
    .exact(g x a).2.2.2.1 d
    .exact d.2.2.2 c
   .rcases p x hb with d|d
    .exact(g x a).2.2.2.2 d
    .exact d.2.2.2 c
  .exact⟨(f x a.1).1,(f x a.1).2,a.2.1,a.2.2.1,a.2.2.2⟩
theorem iy.Mg (h:iy τ E L w b o vb vt vc vy gb gt gc gy m) {x:Nat} (a:x∈gb.toList\/x∈gt.toList\/x∈gc.toList\/x∈gy.toList):x<w.heap.size:=h.cU x (h.mem.2<|by simp only[a,or_true])
theorem cZ.lt {w:World} {T:TypeId} (h:cZ w T v g xs):∀x∈g.toList,x<w.heap.size:=λx a=>jC.lt h x<|by simpa using a
theorem iy.Qc (h:iy τ E L w b o vb vt vc vy gb gt gc gy m) {l:List ak} (c:cZ w' τ.S v g l) (k:aj gy.toList w w') (p:∀x,g=some x->gy=some x\/w.heap.size<=x):
  ∃L',iy τ E L' w' b o vb vt vc v gb gt gc g {m with types:=l}/\Fr L w L' w':=by
 obtain⟨_,_,_,_,_,e⟩:=h.apart;have q:∀x∈g.toList,x∈gy.toList\/w.heap.size<=x/\x∉gb.toList/\x∉gt.toList/\x∉gc.toList:=λx a=>by
  rcases p x (by simpa using a) with d|d
  .exact .inl<|by simp[d]
  .refine .inr ⟨d,λj=>?_,λj=>?_,λj=>?_⟩<;>have:=h.Mg (x:=x) (by simp[j])<;>omega
 obtain⟨i,n⟩:=h.swap k (λx a=>⟨h.mem.2<|by simp[a],(e x a).2.1,(e x a).1⟩) (gb':=gb) (gt':=gt) (gc':=gc) (gy':=g) (λx a=>.inl a) (λx a=>.inl a) (λx a=>.inl a) q;refine⟨_,⟨h.bl.aG i k λx a c=>(e x c).2.2.1 a,h.ta.aG i k λx a c=>(e x c).2.2.2.1 a,?_,c,rfl,n,?_⟩,i⟩
 .rcases h.co with⟨ho,d⟩|⟨ho,hn,d⟩
  .exact .inl ⟨ho,d.aG k λx a c=>(e x c).2.2.2.2<|by simp[a]⟩
  .exact .inr ⟨ho,hn,d.go i⟩
 .intro x a;rw[AI] at a;have f:=k.size;rcases a with a|a|a|a|a|a
  .exact lL (h.cU x (h.mem.2<|by simp[a])) f
  .exact lL (h.cU x (h.mem.2<|by simp[a])) f
  .exact lL (h.cU x (h.mem.2<|by simp[a])) f
  .exact lL (h.cU x (h.mem.2<|by simp[a])) f
  .exact lL (h.cU x (h.mem.2<|by simp[a])) f
  .exact c.lt x a
theorem iy.Mh (h:iy τ E L w b o vb vt vc vy gb gt gc gy m) {l:List ak} (c:cZ w' τ.S v g l) (k:aj gc.toList w w') (q:∀x,g=some x->gc=some x\/w.heap.size<=x):
  ∃L',iy τ E L' w' b true vb vt v vy gb gt g gy {m with code:=l}/\Fr L w L' w':=by
 obtain⟨_,_,_,_,e,n⟩:=h.apart;have r:∀x∈g.toList,x∈gc.toList\/w.heap.size<=x/\x∉gb.toList/\x∉gt.toList/\x∉gy.toList:=λx a=>by
  rcases q x (by simpa using a) with f|f
  .exact .inl<|by simp[f]
  .refine .inr ⟨f,λj=>?_,λj=>?_,λj=>?_⟩<;>have:=h.Mg (x:=x) (by simp[j])<;>omega
 obtain⟨i,p⟩:=h.swap k (λx a=>⟨h.mem.2<|by simp[a],(e x a).2.1,(e x a).1⟩) (gb':=gb) (gt':=gt) (gc':=g) (gy':=gy) (λx a=>.inl a) (λx a=>.inl a) r λx a=>.inl a;refine⟨_,⟨h.bl.aG i k λx a c=>(e x c).2.2.1 a,h.ta.aG i k λx a c=>(e x c).2.2.2 a,.inl ⟨rfl,c⟩,h.ty.aG k λx a c=>(n x<|by simp[a]).2.2.2.2 c,rfl,p,?_⟩,i⟩;intro x a;rw[AI] at a;have d:=k.size;rcases a with a|a|a|a|a|a
 .exact lL (h.cU x (h.mem.2<|by simp[a])) d
 .exact lL (h.cU x (h.mem.2<|by simp[a])) d
 .exact lL (h.cU x (h.mem.2<|by simp[a])) d
 .exact lL (h.cU x (h.mem.2<|by simp[a])) d
 .exact c.lt x a
 .exact lL (h.cU x (h.mem.2<|by simp[a])) d
theorem ajx (t:Tk) (a:v1.oneCell'=true) (b:v3.oneCell'=true) (c:v4.oneCell'=true) (d:v5.oneCell'=true) (e:v6.oneCell'=true) (f:v8.oneCell'=true):(rv t v1 v3 v4 v5 v6 v8).all Value.oneCell'=true:=by simp only[rv,List.all_cons,a,b,c,d,e,f];rfl
theorem GI {L:List Nat} {w:World} (h:cj L w v (.sl sz rows)):v.oneCell'=true:=by cases h<;>rfl
theorem pT.one {t:Tk} (h:pT L w t v1 v3 v4 v5 v6 v8):(rv t v1 v3 v4 v5 v6 v8).all Value.oneCell'=true:=ajx t (GI h.regs) (GI h.self) (GI h.aN) (GI h.at_) (GI h.types)<|GI h.ag
theorem iy.aG (h:iy τ E L w b o vb vt vc vy gb gt gc gy m) (k:aj G w w') (l:∀x∈G,x∈b::E):iy τ E L w' b o vb vt vc vy gb gt gc gy m:=by
 obtain⟨_,_,f,g,i,j⟩:=h.apart;have q:∀x∈G,x∈L:=λx a=>h.mem.2 (by rcases mC.1 (l x a) with c|c<;>simp[c]);have e:Fr L w L w':=Fr.of k q;have out:∀x,x∉E->x≠b->x∉G:=λx c n p=>by
  rcases mC.1 (l x p) with d|d
  .exact n d
  .exact c d
 refine⟨h.bl.aG e k λx a=>out x (f x a).1 (f x a).2,h.ta.aG e k λx a=>out x (g x a).1 (g x a).2.1,?_,h.ty.aG k λx a=>out x (j x<|by simp[a]).1 (j x<|by simp[a]).2.1,h.eL,h.nd,λx a=>lL (h.cU x a) k.size⟩;rcases h.co with⟨ho,c⟩|⟨ho,hn,c⟩
 .exact .inl ⟨ho,c.aG k λx a=>out x (i x<|by simp[a]).1 (i x<|by simp[a]).2.1⟩
 .exact .inr ⟨ho,hn,c.go e⟩
theorem iy.ext (h:iy τ E L w b o vb vt vc vy gb gt gc gy m) (k:aj [] w w'):iy τ E L w' b o vb vt vc vy gb gt gc gy m:=h.aG k sm
theorem iy.drop {x:Nat} (h:iy τ (x::E) L w b o vb vt vc vy gb gt gc gy m):∃L',L=x::L'/\iy τ E L' w b o vb vt vc vy gb gt gc gy m:=by
 have e:∀y,y∈E++b::(gb.toList++(gt.toList++(gc.toList++gy.toList)))->y∈L:=λy a=>by rw[h.eL];simp only[List.cons_append,mC];exact .inr a
 have c:Fr L w (E++b::(gb.toList++(gt.toList++(gc.toList++gy.toList)))) w:=(Fr.refl L w).to λy a=>.inl<|e y a;have d:=h.nd;rw[h.eL,List.cons_append,List.nodup_cons] at d;refine⟨_,h.eL,⟨h.bl.aG c (aj.refl [] w) sm,h.ta.aG c (aj.refl [] w) sm,?_,h.ty,rfl,d.2,λy a=>h.cU y<|e y a⟩⟩;rcases h.co with⟨ho,h1⟩|⟨ho,hn,h1⟩
 .exact .inl ⟨ho,h1⟩
 .exact .inr ⟨ho,hn,h1.go c⟩
def mkV (m:Mk) (a b vc c:Value):List Value:=[a,b,.int .i64 (m.count:Int),.bool m.wide,vc,c]
def dX (a:vv) (E L:List Nat) (w:World) (b:Nat) (o:Bool) (m:Mk):Prop:=∃vb vt vc vy gb gt gc gy,aK w b (mkV m vb vt vc vy).toArray a.M/\iy a E L w b o vb vt vc vy gb gt gc gy m
theorem dX.ext (h:dX τ E L w b o m) (k:aj [] w w'):dX τ E L w' b o m:=by obtain⟨vb,vt,vc,vy,gb,gt,gc,gy,a,c⟩:=h;exact⟨vb,vt,vc,vy,gb,gt,gc,gy,a.aG k sm,c.ext k⟩
theorem dX.aG (h:dX τ E L w b o m) (k:aj G w w') (d:∀x∈G,x∈E):dX τ E L w' b o m:=by obtain⟨vb,vt,vc,vy,gb,gt,gc,gy,e,c⟩:=h;exact⟨vb,vt,vc,vy,gb,gt,gc,gy,e.aG k λa=>c.apart.2.1<|d b a,c.aG k λx a=>mK _<|d x a⟩
theorem dX.drop {x:Nat} (h:dX τ (x::E) L w b o m):∃L',L=x::L'/\dX τ E L' w b o m:=by obtain⟨vb,vt,vc,vy,gb,gt,gc,gy,a,c⟩:=h;obtain⟨L',e,d⟩:=c.drop;exact⟨L',e,vb,vt,vc,vy,gb,gt,gc,gy,a,d⟩
theorem dX.mem (h:dX τ E L w b o m):(∀x∈b::E,x∈L)/\E.Nodup/\b∉E/\∀x∈L,x<w.heap.size:=by obtain⟨vb,vt,vc,vy,gb,gt,gc,gy,_,a⟩:=h;obtain⟨c,d,_⟩:=a.apart;exact⟨λx e=>a.mem.2 (by rcases mC.1 e with h|h<;>simp[h]),c,d,a.cU⟩
end
section
variable {P:Program} {n:Nat} {l:List Oper} {m:Nat} {W ds:List Nat} {deps:List (List Nat)}
theorem WX {N:Env->World->Prop} {Inv:(Nat->Bool)->Env->World->Prop} (U:wq l m W ds deps=true) 
  (step:∀(S:Nat->Bool) (e:Env) (w:World) (i:Nat) (o:Oper),i<m->l[i]?=some o->S i=false->(∀j,waits o j=true->S j=true)->Inv S e w->
   OW P n l.toArray (λA w'=>Inv (λj=>if j=i then true else S j) A w') [o] e w)
  (u:∀(S:Nat->Bool) (e:Env) (w:World),(∀i,i<m->S i=true)->Inv S e w->OW P n l.toArray N (l.drop m) e w) (Q:Exit->Act->World->Prop):
  ∀(c:Nat) (b:Array Bool) (e:Env) (a:Act) (w:World),Fits n e a->b.size=l.length->
   ((List.range l.length).filter λj=>!b.getD j true).length=c->
   (∀j,m<=j->j<l.length->b.getD j true=false)->Inv (λj=>b.getD j false) e w->Le l b->
   wpAny P .any l.toArray (qX n N Q) c b a w:=by
 obtain⟨wy,_,_,_,nh⟩:=Gm U;have K:∀(b:Array Bool) (j:Nat),b.size=l.length->j<l.length->¬b.getD j true=false->b.getD j false=true:=λb j q d p=>by rw[Array.getD_eq_getD_getElem?] at p⊢;rw[Array.getElem?_eq_getElem om] at p⊢;simpa using p
 have Iq:∀(b:Array Bool) (j:Nat),b.size=l.length->j<l.length->b.getD j false=true->b.getD j true=true:=λb j q d p=>by rw[Array.getD_eq_getD_getElem?] at p⊢;rw[Array.getElem?_eq_getElem om] at p⊢;simpa using p
 intro c;induction c with
 |zero=>
  intro b e a w F q M D E mZ;have v:∀j,j<l.length->b.getD j true=true:=λj d=>by
   cases H:b.getD j true with
   |true=>rfl
   |false=>
    have:j∈(List.range l.length).filter λj=>!b.getD j true:=by rw[List.mem_filter,List.mem_range];exact⟨d,by rw[H];rfl⟩
    rw[List.length_eq_zero_iff.1 M] at this;cases this
  have hm:m=l.length:=by
   rcases Nat.lt_or_ge m l.length with h|h
   .have:=D m (lR _) h;rw[v m h] at this;cases this
   .omega
  have ht:=u _ e w (λi I=>K b i q om (by rw[v i om];simp)) E;have f:=ht a F Q;exact Lf U 0 m b a w (lR _) om q (λj d=>⟨λh=>(by rw[v j d] at h;cases h),λh=>om⟩) f
 |succ c ih=>
  intro b e a w F q M D E mZ;by_cases C:∀j,j<m->b.getD j true=true
  .have ht:=u _ e w (λi I=>K b i q om (by rw[C i I];simp)) E;have f:=ht a F Q;have BY:∀j,j<l.length->(b.getD j true=false↔m<=j):=λj d=>by
    constructor
    .intro h;rcases Nat.lt_or_ge j m with g|g
     .rw[C j g] at h;cases h
     .exact g
    .intro h;exact D j h d
   have L:m+(c+1)=l.length:=by
    rw[<-M];have:∀k,k<=l.length->m<=k->((List.range k).filter λj=>!b.getD j true).length=k-m:=by
     intro k;induction k with
     |zero=>intro _ h;simp
     |succ k r=>
      intro fT _;rw[List.range_succ,List.filter_append,lA];rcases Nat.lt_or_ge k m with g|g
      .have Us:k+1=m:=by omega
       have hz:((List.range k).filter λj=>!b.getD j true)=[]:=by rw[List.filter_eq_nil_iff];intro j d;rw[List.mem_range] at d;rw[C j om];simp
       have s:(!b.getD k true)=false:=by rw[C k g];rfl
       simp only[hz,List.filter_cons,s,List.filter_nil,List.length_nil];simp;omega
      .rw[r om g];have s:(!b.getD k true)=true:=by rw[(BY k om).2 g];rfl
       simp only[List.filter_cons,s,List.filter_nil,if_true,lC,List.length_nil];omega
    have:=this l.length (lR _) wy;omega
   exact Lf U (c+1) m b a w (lR _) L q BY f
  .have Y:∃j,j<m/\b.getD j true=false/\∀i,i<j->b.getD i true=true:=by
    have:∀k,(∃j,j<k/\b.getD j true=false/\∀i,i<j->b.getD i true=true)\/∀j,j<k->b.getD j true=true:=by
     intro k;induction k with
     |zero=>right;intro j d;omega
     |succ k r=>
      rcases r with⟨j,d,p,f⟩|h
      .exact .inl ⟨j,om,p,f⟩
      .cases H:b.getD k true with
       |false=>exact .inl ⟨k,om,H,h⟩
       |true=>
        right;intro j d;rcases Nat.lt_or_ge j k with g|g
        .exact h j g
        .rw[show j=k from by omega];exact H
    rcases this m with h|h
    .exact h
    .exact absurd h C
   obtain⟨y,_,Ir,Is⟩:=Y;obtain⟨o0,Iv⟩:∃o,l[y]?=some o:=⟨l[y]'om,gE om⟩;have qt:y∈Region.ready .any l.toArray b:=mem_ready.2 ⟨Ir,o0,by simpa using Iv,λT X hb=>by have R:=(nh y o0 Iv).1 T X hb;exact K b _ q om (by rw[Is _ R];simp)⟩;refine⟨λhr=>(by rw[hr] at qt;cases qt),λi I=>?_⟩;obtain⟨hu,o,Z,v⟩:=mem_ready.1 I;have jw:i<l.length:=by simpa using(Array.getElem?_eq_some_iff.1 Z).1
   have J:l[i]?=some o:=by simpa using Z
   have sN:i<m:=by
    rcases Nat.lt_or_ge i m with h|h
    .exact h
    .have:=Iq b y q om<|OJ mZ J v ((nh i o J).2.2 h) (i-y) y om om;rw[Ir] at this;cases this
   have wT:b.getD i false=false:=by
    cases h:b.getD i false with
    |false=>rfl
    |true=>rw[Iq b i q jw h] at hu;cases hu
   have p:=step (λj=>b.getD j false) e w i o sN J wT (λj d=>by obtain⟨T,X,hb,xP⟩:=OI d;rw[<-xP];exact v T X hb) E;have f:=p a F Q;have next:∀(t:Act) (w':World),qX n (λA w'=>Inv (λj=>if j=i then true else b.getD j false) A w') Q .normal t w'->
     wpAny P .any l.toArray (qX n N Q) c (b.setIfInBounds i true) t w':=λt w' B=>by
    obtain⟨A,OM,V⟩:=B;refine ih _ A t w' OM (by simpa using q) ?_ ?_ ?_ ?_
    .have L:∀k,k<=l.length->((List.range k).filter λj=>!(b.setIfInBounds i true).getD j true).length+(if i<k then 1 else 0)=((List.range k).filter λj=>!b.getD j true).length:=by
      intro k;induction k with
      |zero=>simp
      |succ k r=>
       intro fT;have uQ:=r om;rw[List.range_succ,List.filter_append,lA,List.filter_append,lA];by_cases xQ:i=k
       .subst xQ;rw[iN om] at uQ;have R:i<b.size:=by omega
        have s:(b.setIfInBounds i true).getD i true=true:=by simp[Array.getD_eq_getD_getElem?,R]
        rw[iP om];simp only[List.filter_cons,s,hu,List.filter_nil,Bool.not_true,Bool.not_false,if_true,Bool.false_eq_true,if_false,lC,List.length_nil];omega
       .have s:(b.setIfInBounds i true).getD k true=b.getD k true:=getD_set_ne true xQ;simp only[List.filter_cons,s,List.filter_nil];have hii:(i<k+1)↔(i<k):=by omega
        by_cases qY:i<k
        .have c1:i<k+1:=by omega
         rw[iP qY] at uQ;rw[iP c1];split<;>simp only[lC,List.length_nil]<;>omega
        .have c1:¬i<k+1:=by omega
         rw[iN qY] at uQ;rw[iN c1];split<;>simp only[lC,List.length_nil]<;>omega
     have:=L l.length<|lR _;rw[iP jw] at this;omega
    .intro j OO pI;rw[getD_set_ne true om];exact D j OO pI
    .have s:(λj=>(b.setIfInBounds i true).getD j false)=λj=>if j=i then true else b.getD j false:=by
      funext j;by_cases z:i=j
      .subst z;have:i<b.size:=by omega
       simp[Array.getD_eq_getD_getElem?,this]
      .rw[getD_set_ne false z,iN λh=>z h.symm]
     rw[s];exact V
    .intro j oj O d e2 lO aR;have sO:∀x,b.getD x false=true->(b.setIfInBounds i true).getD x false=true:=λx hx=>by
      by_cases Ix:i=x
      .subst Ix;have:i<b.size:=by omega
       simp[Array.getD_eq_getD_getElem?,this]
      .rw[getD_set_ne false Ix];exact hx
     by_cases z:i=j
     .subst z;rw[J] at O;cases O;exact sO _<|v e2 lO aR
     .rw[getD_set_ne false z] at d;exact sO _<|mZ j oj O d e2 lO aR
   unfold wpOp;simp only[Z];unfold wpList at f;by_cases hw:Region.wanted o (yielded l.toArray a.tmps)=true
   .rw[iP hw] at f⊢;rcases f with f|⟨f,h3⟩
    .refine .inl<|Oper.OE (λt w' g=>next t w' g) (λ_ _ _ h=>h) (fun⟨a,w,B⟩=>⟨a,w,B⟩) f
    .exact .inr ⟨f,by obtain⟨t,w',B⟩:=h3;exact⟨t,w',B⟩⟩
   .rw[iN hw] at f⊢;exact next _ _ f
inductive Ie where
 |v (V:Value)
 |p (f:List Nat->Value->World->Prop)
 |e (t:Nat)
 |w (t:Nat) (V:Value)
 |q (t:Nat) (f:Value->Prop)
def Ie.F:Ie->List Nat->Value->World->Prop
 | .v V=>λ_ v _=>v=V
 | .p f=>f
 | .e _=>λ_ _ _=>True
 | .w _ V=>λ_ v _=>v=V
 | .q _ f=>λ_ v _=>f v
def Ie.lE:Ie->Option Nat
 | .e t=>some t
 | .w t _=>some t
 | .q t _=>some t
 |_=>none
abbrev oc:Ie:=.p λ_ _ _=>True
def zo (b:List Ie) (c:List Nat) (G:List Nat) (aU:List Value) (w:World):List Nat->(List (Nat×Value)->Prop)->Prop
 |[],k=>k []
 |j::r,k=>match b.getD j oc with
  | .v V=>zo b c G aU w r λa=>k ((c.getD j 0,V)::a)
  | .p f=>∀v,f G v w->zo b c G aU w r λa=>k ((c.getD j 0,v)::a)
  | .e t=>zo b c G aU w r λa=>k ((c.getD j 0,aU.getD t undef)::a)
  | .w _ V=>zo b c G aU w r λa=>k ((c.getD j 0,V)::a)
  | .q t f=>∀v,aU.getD t undef=v->f v->zo b c G aU w r λa=>k ((c.getD j 0,v)::a)
theorem Cz {a:List Ie} {g:List Nat} {aU:List Value} {vs:Nat->Value}:∀{deps:List Nat} {k:List (Nat×Value)->Prop},zo a g G aU w deps k->
  (∀j∈deps,(a.getD j oc).F G (vs j) w/\∀t,(a.getD j oc).lE=some t->aU.getD t undef=vs j)->k (wm g vs deps)
 |[],k,h,_=>h
 |j::r,k,h,hd=>by
  obtain⟨b,l⟩:=hd j<|List.mem_cons_self ..;unfold zo at h;have c:∀i∈r,_:=λi m=>hd i<|mK _ m;cases e:a.getD j oc with
  |v V=>rw[e] at h b;have d:vs j=V:=b;subst d;exact Cz (deps:=r) h c
  |p f=>rw[e] at h b;exact Cz (deps:=r) (h _ b) c
  |e t=>rw[e] at h;have d:=l t (by rw[e];rfl);simp only[d] at h;exact Cz (deps:=r) h c
  |w t V=>rw[e] at h b;have d:vs j=V:=b;subst d;exact Cz (deps:=r) h c
  |q t f=>rw[e] at h b;exact Cz (deps:=r) (h _ (l t (by rw[e];rfl)) b) c
def fL (G:List Nat) (w:World):Prop:=∀x∈G,x<w.heap.size
def Mi (P:Program) (n:Nat) (e:Array Oper) (W d:List Nat) (c:List Ie) (g:Env) (j:List Nat) (l:World) (i:Nat) (o:Oper) (b:List Nat):Prop:=
 ∀(x:Env) (w:World) (G:List Nat) (aU:List Value),Fr j l G w->fL G w->zo c d G aU w b λa=>
  OW P n e (λf w'=>aj [] w w'/\(c.getD i oc).F G (f<|d.getD i 0) w'/\eR [d.getD i 0] (ba (aZ W x g) a) f) [o] (ba (aZ W x g) a) w
def WY (P:Program) (n:Nat) (g:Array Oper) (W e:List Nat) (c:List Ie) (j:List (List Nat->List Value->World->Prop)) (l:Env) (m:List Nat) (p:World) (t i:Nat) (o:Oper) (b:List Nat):Prop:=
 ∀(x:Env) (w:World) (G:List Nat) (aU:List Value),Fr m p G w->fL G w->j.getD t (λ_ _ _=>True) G aU w->aU.length=t->zo c e G aU w b λa=>
  OW P n g (λf w'=>(∃d,Fr G w d w'/\fL d w'/\j.getD (t+1) (λ_ _ _=>True) d (aU++[f (e.getD i 0)]) w'/\(c.getD i oc).F d (f<|e.getD i 0) w')/\eR [e.getD i 0] (ba (aZ W x l) a) f) [o] (ba (aZ W x l) a) w
def GJ (P:Program) (n:Nat) (c:Array Oper) (W e:List Nat) (b:List Ie) (j:List (List Nat->List Value->World->Prop)) (f:Env) (d:List Nat) (g:World) (i:Nat) (o:Oper) (a:List Nat):Prop:=
 match(b.getD i oc).lE with
 |some t=>WY P n c W e b j f d g t i o a
 |none=>Mi P n c W e b f d g i o a
def yf (P:Program) (n:Nat) (b:Array Oper) (W f:List Nat) (a:List Ie) (e:List (List Nat->List Value->World->Prop)) (g:Env) (c:List Nat) (i:World):Nat->List Oper->List (List Nat)->Prop
 |_,[],_=>True
 |_,_::_,[]=>True
 |k,o::l,d::r=>GJ P n b W f a e g c i k o d/\yf P n b W f a e g c i (k+1) l r
section
variable {P:Program} {n:Nat} {ops:Array Oper} {W ds:List Nat} {its:List Ie} {Js:List (List Nat->List Value->World->Prop)} {e0:Env} {G0:List Nat} {w0:World}
theorem vf {o:Oper} {l:List Oper} {d:List Nat} {r:List (List Nat)} (h:Mi P n ops W ds its e0 G0 w0 k o d) (a:yf P n ops W ds its Js e0 G0 w0 (k+1) l r) (hk:(its.getD k oc).lE=none:=by rfl):yf P n ops W ds its Js e0 G0 w0 k (o::l) (d::r):=
 ⟨by unfold GJ;rw[hk];exact h,a⟩
theorem ve (t:Nat) {o:Oper} {l:List Oper} {d:List Nat} {r:List (List Nat)} (h:WY P n ops W ds its Js e0 G0 w0 t k o d) (a:yf P n ops W ds its Js e0 G0 w0 (k+1) l r) (hk:(its.getD k oc).lE=some t:=by rfl):yf P n ops W ds its Js e0 G0 w0 k (o::l) (d::r):=
 ⟨by unfold GJ;rw[hk];exact h,a⟩
theorem W0:∀(l:List Oper) (deps:List (List Nat)) (k:Nat),yf P n ops W ds its Js e0 G0 w0 k l deps->∀(i:Nat) (o:Oper) (d:List Nat),l[i]?=some o->deps[i]?=some d->GJ P n ops W ds its Js e0 G0 w0 (k+i) o d
 |[],_,_,_,i,o,d,h,_=>by simp at h
 |_::_,[],_,_,i,o,d,_,h=>by simp at h
 |o::l,d::r,k,h,0,o',d',ho,hd=>by simp at ho hd;subst ho;subst hd;exact h.1
 |o::l,d::r,k,h,i+1,o',d',ho,hd=>by have:=W0 l r (k+1) h.2 i o' d' (by simpa using ho) (by simpa using hd);rwa [show k+1+i=k+(i+1) by omega] at this
end
def Qd (l:List Oper) (m:Nat) (a:List Nat) (b:List Ie):Bool:=
 (List.range a.length).all (λt=>decide (a.getD t 0<m)&&((b.getD (a.getD t 0) oc).lE==some t)&&(decide (t=0)||(match l[a.getD t 0]? with|some o=>waits o (a.getD (t-1) 0)|none=>false)))&&
 (List.range m).all (λi=>match(b.getD i oc).lE with|some t=>decide (t<a.length)&&decide (a.getD t 0=i)|none=>true)
theorem ajA {l:List Oper} {m:Nat} {d:List Nat} {e:List Ie} (h:Qd l m d e=true):
  (∀t,t<d.length->d.getD t 0<m/\(e.getD (d.getD t 0) oc).lE=some t/\(t≠0->∃o,l[d.getD t 0]?=some o/\waits o (d.getD (t-1) 0)=true))/\
  ∀i t,i<m->(e.getD i oc).lE=some t->t<d.length/\d.getD t 0=i:=by
 unfold Qd at h;rw[aE,List.all_eq_true,List.all_eq_true] at h;obtain⟨j,n⟩:=h;refine⟨λt r=>?_,λi t q p=>?_⟩
 .have:=j t<|List.mem_range.2 r;simp only[aE,dE,beq_iff_eq,oE] at this;obtain⟨⟨a,b⟩,c⟩:=this;refine⟨a,b,λg=>?_⟩;rcases c with c|c
  .exact absurd c g
  .cases f:l[d.getD t 0]? with
   |none=>rw[f] at c;cases c
   |some o=>rw[f] at c;exact⟨o,rfl,c⟩
 .have:=n i<|List.mem_range.2 q;rw[p] at this;simpa using this
def CA:List Ie->Prop
 |[]=>True
 | .p f::r=>(∀G v w a w',f G v w->Fr G w a w'->f a v w')/\CA r
 | .v _::r=>CA r
 | .e _::r=>CA r
 | .w _ _::r=>CA r
 | .q _ _::r=>CA r
theorem GK:∀{its:List Ie},CA its->∀q∈its,∀G v w b w',q.F G v w->Fr G w b w'->q.F b v w'
 | .p f::r,h,q,a,G,v,w,b,w',hf,hk=>by
  rcases mC.1 a with e|a
  .subst e;exact h.1 _ _ _ _ _ hf hk
  .exact GK (its:=r) h.2 q a _ _ _ _ _ hf hk
 | .v V::r,h,q,a,G,v,w,b,w',hf,hk=>by
  rcases mC.1 a with e|a
  .subst e;exact hf
  .exact GK (its:=r) h q a _ _ _ _ _ hf hk
 | .e V::r,h,q,a,G,v,w,b,w',hf,hk=>by
  rcases mC.1 a with e|a
  .subst e;exact hf
  .exact GK (its:=r) h q a _ _ _ _ _ hf hk
 | .w t V::r,h,q,a,G,v,w,b,w',hf,hk=>by
  rcases mC.1 a with e|a
  .subst e;exact hf
  .exact GK (its:=r) h q a _ _ _ _ _ hf hk
 | .q t f::r,h,q,a,G,v,w,b,w',hf,hk=>by
  rcases mC.1 a with e|a
  .subst e;exact hf
  .exact GK (its:=r) h q a _ _ _ _ _ hf hk
theorem W1 {a:List Ie} (h:CA a) (i:Nat) {c:List Nat} (b:(a.getD i oc).F G v w) (hk:Fr G w c w'):(a.getD i oc).F c v w':=by
 rw[gG] at b⊢;cases e:a[i]? with
 |none=>trivial
 |some q=>rw[e] at b;exact GK h q (List.mem_of_getElem? e) _ _ _ _ _ b hk
def Mj:List (List Nat->List Value->World->Prop)->Prop
 |[]=>True
 |J::r=>(∀G vs w w',J G vs w->aj [] w w'->J G vs w')/\Mj r
theorem I5:∀{Js:List (List Nat->List Value->World->Prop)},Mj Js->∀(k:Nat) {G:List Nat} {vs:List Value} {w w':World},Js.getD k (λ_ _ _=>True) G vs w->aj [] w w'->Js.getD k (λ_ _ _=>True) G vs w'
 |[],_,k,_,_,_,_,_,_=>by simp
 |J::r,h,0,_,_,_,_,hj,hk=>h.1 _ _ _ _ hj hk
 |J::r,h,k+1,_,_,_,_,hj,hk=>by have:=I5 (Js:=r) h.2 k (by simpa using hj) hk;simpa using this
theorem km {a:Type} {l:List a} (h:l.length=0):l=[]:=by grind
theorem kn {b:Type} {l:List b} (h:l.length=1):∃a,l=[a]:=List.length_eq_one_iff.1 h
theorem mJ {c:Type} {l:List c} (h:l.length=2):∃a b,l=[a,b]:=by
 match l,h with|[a,b],_=>exact⟨a,b,rfl⟩
theorem CB {d:Type} {l:List d} (h:l.length=3):∃a b c,l=[a,b,c]:=by
 match l,h with|[a,b,c],_=>exact⟨a,b,c,rfl⟩
theorem Qe {e:Type} {l:List e} (h:l.length=4):∃a b c d,l=[a,b,c,d]:=by
 match l,h with|[a,b,c,d],_=>exact⟨a,b,c,d,rfl⟩
theorem W2 {f:Type} {l:List f} (h:l.length=5):∃a b c d e,l=[a,b,c,d,e]:=by
 match l,h with|[a,b,c,d,e],_=>exact⟨a,b,c,d,e,rfl⟩
theorem ajB {g:Type} {l:List g} (h:l.length=6):∃a b c d e f,l=[a,b,c,d,e,f]:=by
 match l,h with|[a,b,c,d,e,f],_=>exact⟨a,b,c,d,e,f,rfl⟩
theorem CC {W a:List Nat} {b e:Env} (c:eR W b e) (r:List Nat):ba (aZ W e b) (wm a (λi=>e<|a.getD i 0) r)=e:=by
 rw[Ao c,Ip (by
  intro p d;have:∀(r:List Nat),p∈wm a (λi=>e<|a.getD i 0) r->e p.1=p.2:=by
   intro r;induction r with
   |nil=>intro h;cases h
   |cons j r f=>
    intro h;rcases mC.1 h with h|h
    .subst h;rfl
    .exact f h
  exact this _ d)]
theorem kP {N R:Env->World->Prop} {X:Nat->Env->World->Prop} {id:Nat} {C:Env} {y:World} (hm:P.follows .mixedOrders=true) (J:List Nat) (m:Nat) (W c:List Nat) (g:List (List Nat)) (q:List Ie) (b:List Nat) (T:List (List Nat->List Value->World->Prop)) 
  (hB:wq l m W c g=true) (hE:Qd l m b q=true) (hL:fL J y) (hF:CA q) (hJ:Mj T) (h0:T.getD 0 (λ_ _ _=>True) J [] y)
  (hc:yf P n l.toArray W c q T C J y 0 (l.take m) g)
  (ht:∀(x:Env) (w:World) (G:List Nat) (aU:List Value),Fr J y G w->fL G w->T.getD b.length (λ_ _ _=>True) G aU w->aU.length=b.length->zo q c G aU w (List.range m) λacc=>OW P n l.toArray N (l.drop m) (ba (aZ W x C) acc) w):
  CW P n (.region id l.toArray true) N R X C y:=λa ha=>by
 refine wp_region_any hm ?_;have gZ:aj [] y {y with drawn:=y.drawn+1}:=aj.drew _ _;obtain⟨_,_,_,jT,nh⟩:=Gm hB;obtain⟨L,lO⟩:=ajA hE;have dH:∀i j,i<m->j<m->i≠j->c.getD j 0≠c.getD i 0:=λi j hi f ni=>by rw[gG,gG,gE om,gE om];simp only[Option.getD_some];intro V;exact ni ((List.getElem_inj jT).1 V.symm)
 let Inv:(Nat->Bool)->Env->World->Prop:=λS e w=>∃G k,eR W C e/\Fr J y G w/\fL G w/\k<=b.length/\(∀t,t<b.length->(S (b.getD t 0)=true↔t<k))/\
  T.getD k (λ_ _ _=>True) G ((b.take k).map λi=>e<|c.getD i 0) w/\∀i,i<m->S i=true->(q.getD i oc).F G (e<|c.getD i 0) w
 have I6:∀(S:Nat->Bool) (e:Env) (k:Nat),(∀t,t<b.length->(S (b.getD t 0)=true↔t<k))->k<=b.length->∀j t,j<m->S j=true->(q.getD j oc).lE=some t->((b.take k).map λi=>e<|c.getD i 0).getD t undef=e (c.getD j 0):=by intro S e k A hk j t f H V;obtain⟨r,s⟩:=lO j t f V;have K:t<k:=(A t r).1 (by rw[s];exact H);rw[gG,List.getElem?_map,List.getElem?_take,iP K,gE r];rw[gG,gE r] at s;simp only[Option.getD_some] at s;simp[s]
 have step:∀(S:Nat->Bool) (e:Env) (w:World) (i:Nat) (o:Oper),i<m->l[i]?=some o->S i=false->(∀j,waits o j=true->S j=true)->Inv S e w->
   OW P n l.toArray (λp w'=>Inv (λj=>if j=i then true else S j) p w') [o] e w:=by
  rintro S e w i o sN Z wT CD ⟨G,k,rV,bL,ry,fT,A,yg,qz⟩;obtain⟨hW,B0⟩:=(nh i o Z).2.1 sN;obtain⟨dp,B1⟩:∃d,g[i]?=some d:=⟨g[i]'om,gE om⟩;have D6:g.getD i []=dp:=by rw[gG,B1];rfl
  rw[D6] at B0;have E:=W0 (l.take m) g 0 hc i o dp (by rw[List.getElem?_take,iP sN];exact Z) B1;rw[Nat.zero_add] at E;have hd:∀j∈dp,(q.getD j oc).F G (e (c.getD j 0)) w/\∀t,(q.getD j oc).lE=some t->((b.take k).map λi=>e<|c.getD i 0).getD t undef=e (c.getD j 0):=λj f=>by obtain⟨r,s⟩:=B0 j f;exact⟨qz j s<|CD j r,λt D=>I6 S e k A fT j t s (CD j r) D⟩
  have I7:∀p,eR [c.getD i 0] e p->eR W C p:=λp h t Ev=>by
   have GL:t≠c.getD i 0:=λV=>by rw[V,hW] at Ev;cases Ev
   rw[h t (by simpa using GL)];exact rV t Ev
  have CE:∀p,eR [c.getD i 0] e p->∀j,j<m->j≠i->p (c.getD j 0)=e (c.getD j 0):=λp h j f B=>h _ (by simpa using dH i j sN f λh=>B h.symm);have gd:[o]=[o]++[]:=rfl;cases O:(q.getD i oc).lE with
  |none=>
   unfold GJ at E;rw[O] at E;have r:=Cz (E e w G _ bL ry) (vs:=λj=>e<|c.getD j 0) hd;rw[CC rV] at r;rw[gd];refine yR r ?_;rintro p w' ⟨rh,AJ,F⟩;refine aV ⟨G,k,I7 p F,bL.ext rh,λx hx=>lL (ry x hx) rh.size,fT,λt z=>?_,?_,λj f H=>?_⟩
   .have I:b.getD t 0≠i:=λh=>by have:=(L t z).2.1;rw[h,O] at this;cases this
    simp only[iN I];exact A t z
   .have U:((b.take k).map λi=>p<|c.getD i 0)=(b.take k).map λi=>e (c.getD i 0):=by
     apply List.map_congr_left;intro j f;obtain⟨t,v⟩:=List.mem_iff_getElem?.1 f;rw[List.getElem?_take] at v;split at v
     .have z:t<b.length:=(List.getElem?_eq_some_iff.1 v).1;have xP:b.getD t 0=j:=by rw[gG,v];rfl
      have K:=L t z;rw[xP] at K;exact CE p F j K.1 λh=>by rw[h,O] at K;cases K.2.1
     .cases v
    rw[U];exact I5 hJ k yg rh
   .by_cases B:j=i
    .rw[B];exact AJ
    .simp only[iN B] at H;rw[CE p F j f B];exact W1 hF j (qz j f H)<|Fr.of rh sm
  |some t=>
   unfold GJ at E;rw[O] at E;obtain⟨z,I⟩:=lO i t sN O;have sj:k=t:=by
    have r:¬t<k:=λh=>by have:=(A t z).2 h;rw[I,wT] at this;cases this
    rcases Nat.eq_zero_or_pos t with h0|h0
    .omega
    .obtain⟨_,oC,I8⟩:=(L t z).2.2 om;rw[I,Z] at oC;cases oC;have:=(A (t-1) om).1<|CD _ I8;omega
   subst sj;have Y:((b.take k).map λi=>e<|c.getD i 0).length=k:=by simp;omega
   have r:=Cz (E e w G _ bL ry yg Y) (vs:=λj=>e<|c.getD j 0) hd;rw[CC rV] at r;rw[gd];refine yR r ?_;rintro p w' ⟨⟨G',zq,Ew,GM,AJ⟩,F⟩;have I9:∀u,u<b.length->b.getD u 0=i->u=k:=λu r s=>by have:=(L u r).2.1;rw[s,O] at this;cases this;rfl
   refine aV ⟨G',k+1,I7 p F,bL.go zq,Ew,om,λu Q=>?_,?_,λj f H=>?_⟩
   .by_cases s:b.getD u 0=i
    .have:=I9 u Q s;simp only[iP s];exact⟨λ_=>om,λ_=>trivial⟩
    .simp only[iN s];rw[A u Q];have:u≠k:=λh=>by rw[h] at s;exact s I
     omega
   .have U:((b.take<|k+1).map λi=>p<|c.getD i 0)=((b.take k).map λi=>e<|c.getD i 0)++[p (c.getD i 0)]:=by
     have s:b[k]?=some i:=by rw[gG,gE z] at I;rw[gE z];simpa using I
     rw[List.take_add_one,s,List.map_append]
     congr 1
     apply List.map_congr_left;intro j f;obtain⟨u,v⟩:=List.mem_iff_getElem?.1 f;rw[List.getElem?_take] at v;split at v
     .rename_i eI;have Q:u<b.length:=(List.getElem?_eq_some_iff.1 v).1;have xP:b.getD u 0=j:=by rw[gG,v];rfl
      exact CE p F j (by have:=(L u Q).1;rw[xP] at this;exact this) λh=>by have:=I9 u Q<|xP.trans h;omega
     .cases v
    rw[U];exact GM
   .by_cases B:j=i
    .rw[B];exact AJ
    .simp only[iN B] at H;rw[CE p F j f B];exact W1 hF j (qz j f H) zq
 have tail:∀(S:Nat->Bool) (e:Env) (w:World),(∀i,i<m->S i=true)->Inv S e w->OW P n l.toArray N (l.drop m) e w:=by
  rintro S e w CG ⟨G,k,rV,bL,ry,fT,A,yg,qz⟩;have hk:k=b.length:=by
   rcases Nat.lt_or_ge k b.length with h|h
   .have:=(A k h).1<|CG _ (L k h).1;omega
   .omega
  subst hk;have r:=Cz (ht e w G _ bL ry yg sm) (vs:=λj=>e<|c.getD j 0) (λj f=>by have M:=List.mem_range.1 f;exact⟨qz j M<|CG j M,λt D=>I6 S e _ A fT j t M (CG j M) D⟩);rw[CC rV] at r;exact r
 have js:∀j,(Array.replicate l.length false).getD j false=false:=λj=>by rw[Array.getD_eq_getD_getElem?,Array.getElem?_replicate];split<;>rfl
 have Qf:Inv (λj=>(Array.replicate l.length false).getD j false) C {y with drawn:=y.drawn+1}:=by
  refine⟨J,0,An,Fr.of gZ sm,λx hx=>hL x hx,Nat.zero_le _,λt z=>?_,I5 hJ 0 h0 gZ,λi hi wT=>?_⟩
  .constructor
   .intro h;exact absurd ((js (b.getD t 0)).symm.trans h) sm
   .intro h;omega
  .exact absurd ((js i).symm.trans wT) sm
 have:=WX (N:=N) (Inv:=Inv) hB step tail (mB n N R X) l.length (Array.replicate l.length false) C a _ ha sm
  (by
   have:((List.range l.length).filter λj=>!(Array.replicate l.length false).getD j true)=List.range l.length:=by rw[List.filter_eq_self];intro j f;rw[List.mem_range] at f;simp[Array.getD_eq_getD_getElem?,f]
   rw[this];simp)
  (by intro j _ f;simp[Array.getD_eq_getD_getElem?,f])
  Qf
  (by intro j o Z f;have M:j<l.length:=(List.getElem?_eq_some_iff.1 Z).1;simp[Array.getD_eq_getD_getElem?,M] at f)
 have U:qX n N (mB n N R X)=mB n N R X:=by funext x a w;cases x<;>rfl
 rw[U] at this;simpa using this
end
section
variable {P:Program} {n:Nat} {ops:Array Oper} {e:Env} {w w':World} {G:List Nat}
theorem fv (h:v=V:=by rfl):OW P n ops (λa w'=>aj [] w w'/\(Ie.v V).F G (a d) w'/\eR [d] e a) [] (bU e (some d) v) w:=
 aV ⟨aj.refl _ _,by subst h;exact nU _ _ _,rb⟩
theorem fk (k:aj [] w w') (h:v=V:=by rfl):OW P n ops (λa w'=>aj [] w w'/\(Ie.v V).F G (a d) w'/\eR [d] e a) [] (bU e (some d) v) w':=
 aV ⟨k,by subst h;exact nU _ _ _,rb⟩
theorem ff {f:List Nat->Value->World->Prop} (k:aj [] w w') (h:f G v w'):OW P n ops (λa w'=>aj [] w w'/\(Ie.p f).F G (a d) w'/\eR [d] e a) [] (bU e (some d) v) w':=
 aV ⟨k,by show f G (iY e d v d) w';rw[nU];exact h,rb⟩
theorem fe {t:Nat} {aU:List Value} (a:List Nat) (k:Fr G w a w') (c:fL a w') (h:J a (aU++[v]) w'):OW P n ops (λb w'=>(∃a,Fr G w a w'/\fL a w'/\J a (aU++[b d]) w'/\(Ie.e t).F a (b d) w')/\eR [d] e b) [] (bU e (some d) v) w':=
 aV ⟨⟨a,k,c,by show J a (aU++[iY e d v d]) w';rw[nU];exact h,trivial⟩,rb⟩
theorem fw {t:Nat} {aU:List Value} (a:List Nat) (k:Fr G w a w') (c:fL a w') (h:J a (aU++[v]) w') (f:v=V:=by rfl):OW P n ops (λb w'=>(∃a,Fr G w a w'/\fL a w'/\J a (aU++[b d]) w'/\(Ie.w t V).F a (b d) w')/\eR [d] e b) [] (bU e (some d) v) w':=
 aV ⟨⟨a,k,c,by show J a (aU++[iY e d v d]) w';rw[nU];exact h,by subst f;exact nU _ _ _⟩,rb⟩
theorem fq {t:Nat} {f:Value->Prop} {aU:List Value} (a:List Nat) (k:Fr G w a w') (c:fL a w') (h:J a (aU++[v]) w') (g:f v):OW P n ops (λb w'=>(∃a,Fr G w a w'/\fL a w'/\J a (aU++[b d]) w'/\(Ie.q t f).F a (b d) w')/\eR [d] e b) [] (bU e (some d) v) w':=
 aV ⟨⟨a,k,c,by show J a (aU++[iY e d v d]) w';rw[nU];exact h,by show f (iY e d v d);rw[nU];exact g⟩,rb⟩
end
end Go.Proofs.YtcildnfcpkpomaaGreatDoor
