/- Lemmas for the law FnWants, no statement of their own: no conditions. -/
import Derived.Test.YtcildnfcpkpomaaGreatDoorGb
set_option maxHeartbeats 4000000
set_option linter.unusedVariables false
set_option linter.unusedSimpArgs false
namespace Go.Proofs.YtcildnfcpkpomaaGreatDoor
open Go
variable {h s x:aj} {p t:aq} {ps ts:List aq} {b d i k m m' off sz:Nat} {c:UInt8} {G L L' L1:List Nat} {w w' w1 w2:World} {V v v1 v3 v4 v5 v6 v8:Value} {vs:List Value} {xs:List aj} {g:Option Nat} {rows:List (List C)} {J:List Nat->List Value->World->Prop}
theorem aih (n:Nat):(aS n).all fm=true:=by
 induction n using Nat.strongRecOn with
 |_ n b=>
  have a:∀k,k<10->fm (UInt8.ofNat (48+k))=true:=by decide
  unfold aS;by_cases h:n<10
  .rw[iP h,List.all_cons,a n h];rfl
  .rw[iN h,List.all_append,b (n/10) om,List.all_cons,a (n%10) om];rfl
theorem aii (n:Nat):Good (bJ (97::aS n)):=.au _ sm (by rw[List.all_cons,aih];decide)
section
variable {p:List cM} {st:TS} {o:Nat} {t:aq}
theorem step_ok (Y:B0 p) (g:xC st) (N:st.length=40) (hg:Good t) (U:mP t=true) {b:TS} (h:stepT p st o t=some b):xC b/\b.length=40:=by
 obtain⟨V,A,Q⟩:=Gm U;have Z:gY (nth t.ag 1).au<st.length:=by
  rw[N];unfold gY uG;cases numeral (nth t.ag 1).au with
  |none=>decide
  |some z=>
   by_cases P:0<=z/\z<=39
   .simp only[P,and_self,if_true];omega
   .simp only[P,if_false];decide
 have set:∀{u:Option aq},(∀y,u=some y->Good y/\oz y)->eU st (gY (nth t.ag 1).au) u=some b->xC b/\b.length=40:=fun{u} hu hs=>by obtain⟨X,S⟩:=aia g Z hu hs;exact⟨X,S.trans N⟩
 have c:some st=some b->xC b/\b.length=40:=λe=>by cases e;exact⟨g,N⟩
 have d:∀{q:Nat},eT st (nth t.ag q).au=none\/∃x,eT st (nth t.ag q).au=some x:=fun{q}=>by cases eT st (nth t.ag q).au<;>simp
 cases hk:ia st (eA (bA t) t.ag.length) t.ag (eA (bA t) t.ag.length).length with
 |none=>rw[VP U hk] at h;cases h
 |some xs=>
  by_cases c1:bA t=[99,111,110,115,116]
  .rw[VG c1] at h;exact set (λy e=>by cases e;exact⟨D4.fB,D4.eok⟩) h
  by_cases c2:bA t=[109,111,118]
  .rcases d (q:=2) with a|⟨x,a⟩
   .simp[stepT,nQ,c2,a,eU] at h
   .rw[VH c2 a] at h;exact set (λy e=>by cases e;exact⟨(Gl g a).fB,(Gl g a).eok⟩) h
  by_cases D:bA t=[97,100,100]\/bA t=[115,117,98]\/bA t=[109,117,108]
  .rcases d (q:=2) with a|⟨x,a⟩
   .rcases D with j|j|j<;>simp[stepT,nQ,j,a,eU,tC] at h
   .rcases d (q:=3) with O|⟨y,O⟩
    .rcases D with j|j|j<;>simp[stepT,nQ,j,a,O,eU,tC] at h
    .rw[VI D a O] at h;split at h
     .exact set (λy e=>by cases e;exact⟨D4.fB,D4.eok⟩) h
     .cases h
  by_cases I:bA t=[110,101,119]
  .cases M:nO st (t.ag.drop 2) with
   |none=>rw[VK I M] at h;cases h
   |some _=>rw[VJ I M] at h;have n:=(VE g M).2;exact set (λy e=>by cases e;exact⟨Lh de de λt l=>(n t l).fB,VD de λt l=>(n t l).eok⟩) h
  by_cases r:bA t=[103,101,116]
  .rcases d (q:=2) with a|⟨x,a⟩
   .simp[stepT,nQ,r,a,eU] at h
   .rw[Pm r a] at h;split at h
    .rename_i T;have P:0<=xr (nth t.ag 3).au:=by
      have s:=Q 2 (by simp[eA,r]);rw[show(eA (bA t) t.ag.length).getD 2 0=109 from by simp[eA,r]] at s;have v:((numeral (nth t.ag 3).au).isSome&&decide (0<=(numeral (nth t.ag 3).au).getD 0))=true:=by rw[<-OO];exact s
      rw[aE,dE] at v;exact v.2
     have E:=Gl g a;have B:=E.nth (i:=(xr (nth t.ag 3).au+1).toNat) om;exact set (λy e=>by cases e;exact⟨B.fB,B.eok⟩) h
    .cases h
  by_cases J:bA t=[108,97,98]
  .cases f:bT p (nth t.ag 2).au with
   |none=>rw[IF J f] at h;cases h
   |some C=>rw[IF J f] at h;have n:=(Pj Y f).2;exact set (λy e=>by cases e;exact⟨Lh de de λt l=>(n t l).fB,VD de λt l=>(n t l).eok⟩) h
  by_cases m:bA t=[112,97,99,107]
  .rcases d (q:=2) with a|⟨x,a⟩
   .simp[stepT,nQ,m,a,eU] at h
   .rw[VL m a] at h;split at h
    .have Pp:t.ag.length=5:=by rw[A];simp[eA,m]
     have s:=Q 2 (by simp[eA,m]);rw[show(eA (bA t) t.ag.length).getD 2 0=69 from by simp[eA,m]] at s;have v:((decide ((nth t.ag 3).ag.length=2)&&decide (bA (nth t.ag 3)=[101]))&&fY false (nth t.ag 3))=true:=by rw[<-OP];exact s
     rw[aE] at v;have R:=hg.nth (i:=3) om;exact set (λy e=>by cases e;exact⟨R,VC R.wf _ v.2⟩) h
    .cases h
  by_cases K:bA t=[111,112,101,110]
  .rcases d (q:=2) with a|⟨x,a⟩
   .simp[stepT,nQ,K,a,eU] at h
   .rw[Pn K a] at h;split at h
    .rename_i T;have E:=Gl g a;have S:=E.eok.two T;have B:=E.nth (i:=1) om;exact set (λy e=>by cases e;exact⟨OX (aii o) B.fB,ah6 (.au _) (by intro h;cases h) B.eok⟩) h
    .cases h
  by_cases L:bA t=[122,101,114,111]
  .rcases d (q:=1) with a|⟨x,a⟩
   .simp[stepT,L,a,tC] at h
   .rw[VM L a] at h;cases f:bT p (nth t.ag 2).au with
    |none=>rw[f] at h;cases h
    |some C=>
     rw[f,Option.bind_some] at h;split at h
     .exact c h
     .cases h
  by_cases F:bA t=[106,117,109,112]
  .rcases d (q:=1) with a|⟨x,a⟩
   .simp[stepT,F,a] at h
   .rw[VN F a] at h;split at h
    .exact c h
    .cases h
  have H:bA t=[104,97,108,116]:=Classical.byContradiction λf=>V (by simp[eA,c1,c2,D,I,r,J,m,K,L,F,f]);rw[VO H] at h;rcases d (q:=1) with a|⟨x,a⟩
  .rw[a] at h;cases h
  .rw[a] at h;exact c h
end
/-! ### Blocks -/
structure vW (b:cM):Prop where
 regs:b.regs.length<=40
 rok:∀t∈b.regs,qO t
 code:b.code.length<=80
 cok:∀t∈b.code,Ad t/\Good t/\mP t=true
theorem aik (h:bS s=some t) (e:fY false t=true):qO t:=by obtain⟨a,b,c,d⟩:=vS h;refine⟨a,?_,VC a.wf _ e⟩;unfold sC;rw[aE,dE,dE,BT a.wf,c];exact⟨b,d⟩
theorem Pq {b:Bk} (h:lU b=true):vW (dv b):=by
 obtain⟨_,f,g⟩:=Ir h;unfold lU at h;simp only[aE,dE] at h;refine⟨by simp[dv];omega,λt e=>?_,by simp[dv];omega,λt e=>?_⟩
 .obtain⟨s,d,rfl⟩:=List.mem_map.1 e;obtain⟨u,a,c⟩:=f s d;rw[Iq a];exact aik a c
 .obtain⟨s,d,rfl⟩:=List.mem_map.1 e;obtain⟨u,a,c⟩:=g s d;rw[Iq a];exact⟨aeq a,(vS a).1,by rw[UP];exact c⟩
theorem B1 {bs:List Bk} (h:eK bs=true):B0 (bs.map dv)/\∀b,b∈bs.map dv->vW b:=by
 have hb:=Gc h;have c:∀b,b∈bs.map dv->vW b:=λb a=>by obtain⟨k,hk,rfl⟩:=List.mem_map.1 a;exact Pq<|hb k hk
 refine⟨⟨?_,λb a=>⟨(c b a).regs,(c b a).rok⟩⟩,c⟩;unfold eK at h;simp only[aE,dE] at h;simp;omega
theorem ail {b:cM} (h:vW b):xC (BV b)/\(BV b).length=40:=by
 refine⟨λi t a=>?_,by simp[BV]⟩;unfold BV at a;rw[gG,List.getElem?_map] at a;by_cases c:i<40
 .rw[List.getElem?_range c] at a;simp only[Option.map_some,Option.getD_some] at a;split at a
  .rename_i hb;cases a;exact h.rok _ (List.mem_of_getElem?<|et hb)
  .cases a
 .rw[List.getElem?_eq_none (by simpa using c)] at a;cases a
theorem VT {p:List cM} {a:TS} {o:Nat} (h:stepT p a o t=none):(xu p a o (t::ts)).2=0:=by unfold xu;rw[h]
theorem VU {p:List cM} {b a:TS} {o:Nat} (h:stepT p b o t=some a):(xu p b o (t::ts)).2=(xu p a (tE o t) ts).2+1:=by
 conv=>lhs;unfold xu
 rw[h]
theorem aim (h:i<ts.length):ts.drop i=nth ts i::ts.drop (i+1):=by rw[xp h,List.drop_eq_getElem_cons h]
theorem ain (h:Good t):t.text≠[]:=by grind [UY]
theorem qO.short (h:qO t):t.text.length<=12000:=by have:=h.fits;unfold sC at this;rw[aE,dE,dE,BT h.fB.wf] at this;exact this.2
structure Gn (s:aj) (t:aq):Prop where
 some:∀t',bS s=some t'->t=t'
 none:s=[]->bA t=[]
theorem VV:bS []=none:=by decide
/-! ### Types -/
inductive Ty where
 |i
 |op (f:Bool) (a b:Ty)
def kS (f:Bool):aj:=if f then[62] else[42]
def Ty.av:Ty->aq
 | .i=>bJ [105]
 | .op f a b=>.mk [] [bJ<|kS f,a.av,b.av]
def Ty.text (t:Ty):aj:=t.av.text
def Ty.n:Ty->Nat
 | .i=>1
 | .op _ a b=>1+a.n+b.n
theorem aio (f:Bool):Good (bJ<|kS f):=by cases f<;>exact .au _ de de
theorem Ty.fB (t:Ty):Good t.av:=by
 induction t with
 |i=>exact .au _ de de
 |op f a b c d=>
  refine .list _ sm λp e=>?_;simp only[mC,List.not_mem_nil,or_false] at e;rcases e with rfl|rfl|rfl
  .exact aio f
  .exact c
  .exact d
theorem aip (f:Bool):(bJ<|kS f).text=kS f:=by cases f<;>exact sB de
theorem Ty.Pr:Ty.i.text=[105]:=sB de
theorem Ty.Lw (f:Bool) (a b:Ty):(Ty.op f a b).text=40::(kS f++32::(a.text++32::(b.text++[41]))):=by show(aq.mk [] [bJ<|kS f,a.av,b.av]).text=_;rw[tw,rK,rK,rJ,aip];simp[Ty.text]
theorem Ps (f:Bool):(kS f).length=1:=by cases f<;>rfl
theorem Ty.pos (t:Ty):1<=t.n:=by cases t<;>simp[Ty.n];omega
theorem Ty.len (t:Ty):t.text.length+3<=4*t.n:=by induction t<;>grind [Ty.Pr,Ty.n,Ty.Lw,Ps]
theorem Ty.deep (t:Ty):t.av.depth+1<=t.n:=by
 induction t with
 |i=>simp[Ty.av,bJ,aq.depth,aq.depth.deeps,Ty.n]
 |op f a b _ _=>have c:(bJ<|kS f).depth=0:=rfl;have d:=a.pos;have e:=b.pos;show aq.depth.deeps [bJ<|kS f,a.av,b.av]+1<=_;simp only[aq.depth.deeps,c,Ty.n];omega
theorem Ty.size (t:Ty):t.av.size<=5*t.n:=by
 induction t with
 |i=>simp[Ty.av,bJ,aq.size,aq.size.sizes,Ty.n]
 |op f a b _ _=>
  have c:(bJ<|kS f).size=2:=by cases f<;>rfl
  show 1+0+aq.size.sizes [bJ<|kS f,a.av,b.av]<=_;simp only[aq.size.sizes,c,Ty.n];omega
theorem Ty.bS {t:Ty} (h:t.n<=60):bS t.text=some t.av:=OU t.fB (by have:=t.deep;omega) (by have:=t.len;show t.text.length<=_;omega)
theorem Ty.ne (t:Ty):t.text≠[]:=ain t.fB
theorem IG:∀{t u:Ty},t.av=u.av->t=u
 | .i,.i,_=>rfl
 | .i,.op _ _ _,h=>by simp[Ty.av,bJ] at h
 | .op _ _ _,.i,h=>by simp[Ty.av,bJ] at h
 | .op f a b,.op g c d,h=>by simp only[Ty.av,aq.mk.injEq,true_and,List.cons.injEq,and_true] at h;obtain⟨e,i,j⟩:=h;rw[IG i,IG j];cases f<;>cases g<;>first|rfl|(simp[bJ,kS] at e)
theorem Ty.inj {t u:Ty} (h:t.text=u.text):t=u:=IG (Lg t.fB u.fB h)
/-! ### Forms that are types -/
mutual
def gF:aq->Nat
 | .mk a ps=>if a≠[] then 1 else ku ps
def ku:List aq->Nat
 |[]=>0
 |t::ts=>gF t+ku ts
end
theorem VW:∀(xs a:List aq),ku (xs++a)=ku xs+ku a:=by intro x;induction x<;>grind [ku]
theorem Pt (t:aq):gF t=if t.au≠[] then 1 else ku t.ag:=by cases t with|mk a ps=>rw[gF];rfl
theorem VX (h:ps[i]?=some p):ku (ps.take<|i+1)=ku (ps.take i)+gF p:=by rw[List.take_add_one,h,VW];simp[ku]
mutual
theorem aiq:∀t:aq,gF t<=t.size
 | .mk a ps=>by have:=Pu ps;unfold gF;simp only[aq.size];split<;>omega
theorem Pu:∀ps:List aq,ku ps<=aq.size.sizes ps
 |[]=>by simp[ku]
 |t::ts=>by have a:=aiq t;have b:=Pu ts;simp only[ku,aq.size.sizes];omega
end
theorem Pv {a:aj} (h:a≠[]):gF (bJ a)=1:=by simp[gF,bJ,h]
theorem Ty.gF (t:Ty):gF t.av=t.n:=by
 induction t with
 |i=>simp[Ty.av,Pv,Ty.n]
 |op f a b c d=>have e:Go.Proofs.YtcildnfcpkpomaaGreatDoor.gF (bJ<|kS f)=1:=Pv (by cases f<;>decide);show Go.Proofs.YtcildnfcpkpomaaGreatDoor.gF (.mk [] [bJ<|kS f,a.av,b.av])=_;simp only[Go.Proofs.YtcildnfcpkpomaaGreatDoor.gF,ku,e,c,d,Ty.n];simp;omega
mutual
def qd:aq->Bool
 | .mk a ps=>if a≠[] then decide (a=[105]) else uL ps
def uL:List aq->Bool
 |[h,x,y]=>(decide (h.au=[62])||decide (h.au=[42]))&&(qd x&&qd y)
 |_=>false
end
theorem VY (t:aq):qd t=if t.au≠[] then decide (t.au=[105]) else uL t.ag:=by cases t with|mk a ps=>rw[qd];rfl
theorem air (c:WF t):qd t=true↔∃u:Ty,t=u.av:=by
 constructor
 .intro h;have o:∀m (t:aq),t.size<=m->WF t->qd t=true->∃u:Ty,t=u.av:=by
   intro m;induction m with
   |zero=>intro t _;have:=rI t;omega
   |succ m q=>
    intro t z c h;cases c with
    |au a p=>simp only[qd,iP p,dE] at h;exact⟨.i,by rw[h];rfl⟩
    |list ps _ c=>
     simp only[qd] at h;rw[iN de] at h
     match ps,h with
     |[g,x,y],h=>
      simp only[uL,aE,oE,dE] at h;obtain⟨d,A,B⟩:=h;simp only[aq.size,aq.size.sizes] at z;obtain⟨u,rfl⟩:=q x om (c x sm) A;obtain⟨v,rfl⟩:=q y om (c y sm) B;have r:∀s:aj,s≠[]->g.au=s->g=bJ s:=λs C e=>by
       have j:=c g sm;cases j with
       |au a p=>cases e;rfl
       |list _ _ _=>exact absurd e.symm C
      rcases d with d|d
      .exact⟨.op true u v,by rw[r _ de d];rfl⟩
      .exact⟨.op false u v,by rw[r _ de d];rfl⟩
  exact o t.size t (lR _) c h
 .rintro⟨u,rfl⟩;induction u with
  |i=>rfl
  |op f a b l n=>show qd (.mk [] [bJ<|kS f,a.av,b.av])=true;have:=l a.fB.wf;have:=n b.fB.wf;simp only[qd,uL, *];cases f<;>simp[bJ,kS,aq.au]
def kT (t:aq):Bool:=qd t&&decide (gF t<=16)
theorem B2 (a:WF t):kT t=true↔∃u:Ty,t=u.av/\u.n<=16:=by
 unfold kT;rw[aE,dE,air a];constructor
 .rintro⟨⟨u,rfl⟩,h⟩;exact⟨u,rfl,by rw[<-u.gF];exact h⟩
 .rintro⟨u,rfl,h⟩;exact⟨⟨u,rfl⟩,by rw[u.gF];exact h⟩
/-! ### Names -/
def eE (s:aj):Bool:=decide (1<=s.length)&&decide (s.length<=4)&&(decide (97<=s.getD 0 0)&&decide (s.getD 0 0<=122))&&(s.drop 1).all jb
def rM (s:aj):Bool:=(numeral s).isSome||eE s
theorem xD (h:eE s=true):s≠[]:=by grind [eE]
/-! ### Expressions -/
inductive Ex where
 |at(s:aj)
 |un (h:aj) (a:Ex)
 |bi (h:aj) (a b:Ex)
 |ite (a b c:Ex)
 |lt (x:aj) (a b:Ex)
 |fn (f x:aj) (A B:Ty) (e:Ex)
abbrev iv:aj:=[105,102]
abbrev ic:aj:=[108,101,116]
abbrev iH:aj:=[102,117,110]
abbrev D6:aj:=[102,115,116]
abbrev sE:aj:=[115,110,100]
abbrev ll:aj:=[99,97,108,108]
abbrev Aj:aj:=[112,97,105,114]
def Ex.av:Ex->aq
 | .at s=>bJ s
 | .un h a=>.mk [] [bJ h,a.av]
 | .bi h a b=>.mk [] [bJ h,a.av,b.av]
 | .ite a b c=>.mk [] [bJ iv,a.av,b.av,c.av]
 | .lt x a b=>.mk [] [bJ ic,bJ x,a.av,b.av]
 | .fn f x A B e=>.mk [] [bJ iH,bJ f,bJ x,A.av,B.av,e.av]
def ie (h:aj):Bool:=decide (h=D6)||decide (h=sE)
def iI (h:aj):Bool:=decide (h=[43])||decide (h=[45])||decide (h=[42])||decide (h=ll)||decide (h=Aj)
def Ex.ok:Ex->Prop
 | .at s=>rM s=true
 | .un h a=>ie h=true/\a.ok
 | .bi h a b=>iI h=true/\a.ok/\b.ok
 | .ite a b c=>a.ok/\b.ok/\c.ok
 | .lt x a b=>eE x=true/\a.ok/\b.ok
 | .fn f x A B e=>eE f=true/\eE x=true/\f≠x/\A.n<=16/\B.n<=16/\e.ok
def Ex.n:Ex->Nat
 | .at _=>1
 | .un _ a=>1+a.n
 | .bi _ a b=>1+a.n+b.n
 | .ite a b c=>1+a.n+b.n+c.n
 | .lt _ a b=>2+a.n+b.n
 | .fn _ _ A B e=>3+A.n+B.n+e.n
mutual
def dY:aq->Bool
 | .mk a ps=>if a≠[] then rM a else o5 ps
def o5:List aq->Bool
 |[h,a]=>ie h.au&&dY a
 |[h,a,b]=>iI h.au&&(dY a&&dY b)
 |[h,a,b,c]=>if h.au=iv then dY a&&(dY b&&dY c) else if h.au=ic then eE a.au&&(dY b&&dY c) else false
 |[h,f,x,A,B,e]=>decide (h.au=iH)&&(eE f.au&&eE x.au&&decide (f.au≠x.au)&&kT A&&kT B&&dY e)
 |_=>false
end
theorem B3 (c:WF t) (b:s≠[]) (e:t.au=s):t=bJ s:=by
 cases c with
 |au a _=>cases e;rfl
 |list _ _ _=>exact absurd e.symm b
theorem V0 (k:ie h=true):h≠[]:=by rintro rfl;cases k
theorem V2 (k:iI h=true):h≠[]:=by rintro rfl;cases k
theorem qP (k:rM s=true):s≠[]:=by rintro rfl;cases k
theorem ait (d:WF t):dY t=true↔∃e:Ex,t=e.av/\e.ok:=by
 constructor
 .intro h;have M:∀m (t:aq),t.size<=m->WF t->dY t=true->∃e:Ex,t=e.av/\e.ok:=by
   intro m;induction m with
   |zero=>intro t _;have:=rI t;omega
   |succ m j=>
    intro t D d h;cases d with
    |au a P=>simp only[dY,iP P] at h;exact⟨.at a,rfl,h⟩
    |list ps _ d=>
     simp only[dY] at h;rw[iN de] at h
     match ps,h with
     |[n,x],h=>simp only[o5,aE] at h;simp only[aq.size,aq.size.sizes] at D;obtain⟨u,rfl,o⟩:=j x om (d x sm) h.2;exact⟨.un n.au u,by rw[B3 (d n sm) (V0 h.1) rfl];rfl,h.1,o⟩
     |[n,x,y],h=>simp only[o5,aE] at h;simp only[aq.size,aq.size.sizes] at D;obtain⟨u,rfl,o⟩:=j x om (d x sm) h.2.1;obtain⟨v,rfl,r⟩:=j y om (d y sm) h.2.2;exact⟨.bi n.au u v,by rw[B3 (d n sm) (V2 h.1) rfl];rfl,h.1,o,r⟩
     |[n,x,y,z],h=>
      simp only[o5] at h;simp only[aq.size,aq.size.sizes] at D;split at h
      .rename_i p;simp only[aE] at h;obtain⟨u,rfl,o⟩:=j x om (d x sm) h.1;obtain⟨v,rfl,r⟩:=j y om (d y sm) h.2.1;obtain⟨q,rfl,K⟩:=j z om (d z sm) h.2.2;exact⟨.ite u v q,by rw[B3 (d n sm) de p];rfl,o,r,K⟩
      .split at h
       .rename_i p;simp only[aE] at h;obtain⟨v,rfl,r⟩:=j y om (d y sm) h.2.1;obtain⟨q,rfl,K⟩:=j z om (d z sm) h.2.2;exact⟨.lt x.au v q,by rw[B3 (d n sm) de p,B3 (d x sm) (xD h.1) rfl];rfl,h.1,r,K⟩
       .cases h
     |[n,f,x,A,B,e],h=>simp only[o5,aE,dE] at h;simp only[aq.size,aq.size.sizes] at D;obtain⟨p,⟨⟨⟨⟨C,E⟩,F⟩,H⟩,I⟩,J⟩:=h;obtain⟨u,rfl,o⟩:=j e om (d e sm) J;obtain⟨Q,rfl,O⟩:=(B2<|d A sm).1 H;obtain⟨R,rfl,N⟩:=(B2<|d B sm).1 I;exact⟨.fn f.au x.au Q R u,by rw[B3 (d n sm) de p,B3 (d f sm) (xD C) rfl,B3 (d x sm) (xD E) rfl];rfl,C,E,F,O,N,o⟩
  exact M t.size t (lR _) d h
 .rintro⟨e,rfl,i⟩;clear d;induction e with
  |«at» s=>show dY (.mk s [])=true;simp only[dY];rw[iP (qP i)];exact i
  |un h a g=>show dY (.mk [] [bJ h,a.av])=true;simp only[dY];rw[iN de];simp only[o5,aE];exact⟨i.1,g i.2⟩
  |bi h a b g l=>show dY (.mk [] [bJ h,a.av,b.av])=true;simp only[dY];rw[iN de];simp only[o5,aE];exact⟨i.1,g i.2.1,l i.2.2⟩
  |ite a b c g l L=>show dY (.mk [] [bJ iv,a.av,b.av,c.av])=true;simp only[dY];rw[iN de];simp only[o5];rw[iP (show(bJ iv).au=iv from rfl)];simp only[aE];exact⟨g i.1,l i.2.1,L i.2.2⟩
  |lt x a b g l=>show dY (.mk [] [bJ ic,bJ x,a.av,b.av])=true;simp only[dY];rw[iN de];simp only[o5];rw[iN<|show¬(bJ ic).au=iv by decide,iP (show(bJ ic).au=ic from rfl)];simp only[aE];exact⟨i.1,g i.2.1,l i.2.2⟩
  |fn f x A B e j=>show dY (.mk [] [bJ iH,bJ f,bJ x,A.av,B.av,e.av])=true;obtain⟨C,E,F,H,I,J⟩:=i;simp only[dY];rw[iN de];simp only[o5,aE,dE];exact⟨rfl,⟨⟨⟨⟨C,E⟩,F⟩,(B2 A.fB.wf).2 ⟨A,rfl,H⟩⟩,(B2 B.fB.wf).2 ⟨B,rfl,I⟩⟩,j J⟩
/-! ### Parts -/
def Ex.head:Ex->aj
 | .at _=>[]
 | .un h _=>h
 | .bi h _ _=>h
 | .ite _ _ _=>iv
 | .lt _ _ _=>ic
 | .fn _ _ _ _ _=>iH
def Ex.from:Ex->Nat
 | .lt _ _ _=>2
 | .fn _ _ _ _ _=>5
 |_=>1
def Ex.kids:Ex->List Ex
 | .at _=>[]
 | .un _ a=>[a]
 | .bi _ a b=>[a,b]
 | .ite a b c=>[a,b,c]
 | .lt _ a b=>[a,b]
 | .fn _ _ _ _ e=>[e]
def Ex.binds:Ex->Nat->List aj
 | .lt x _ _,3=>[x]
 | .fn f x _ _ _,_=>[f,x]
 |_,_=>[]
def Ex.ju:Ex->Bool
 | .at _=>true
 |_=>false
def gM (e:Ex) (j:Nat):Ex:=e.kids.getD j<|.at []
theorem Ex.wf {e:Ex} (h:e.ok):Good e.av:=by
 have num:∀s:aj,rM s=true->s.all fm=true:=λs j=>by
  unfold rM at j;rw[oE] at j;have q:∀c:UInt8,jb c=true->fm c=true:=λc m=>by unfold jb at m;unfold fm;rw[m];simp
  rcases j with j|j
  .cases n:numeral s with
   |none=>rw[n] at j;cases j
   |some z=>
    unfold numeral at n;split at n
    .rename_i e;rw[e];decide
    .split at n
     .cases n
     .split at n
      .rename_i o;rw[List.all_eq_true] at o⊢;intro c m;unfold eZ at o;split at o
       .rename_i u;cases s with
        |nil=>simp at u
        |cons d r=>
         simp only[List.getD_cons_zero,List.drop_succ_cons,List.drop_zero] at u o;rcases mC.1 m with rfl|m
         .rw[u.2];decide
         .exact q c<|o c m
       .exact q c<|o c m
      .cases n
  .cases s with
   |nil=>rfl
   |cons c r=>
    simp only[eE,aE,dE,List.getD_cons_zero,List.drop_succ_cons,List.drop_zero] at j;obtain⟨⟨_,D,E⟩,C⟩:=j;rw[List.all_cons,aE];refine⟨?_,?_⟩
    .unfold fm;simp[D,E]
    .rw[List.all_eq_true] at C⊢;exact λd t=>q d<|C d t
 have y:∀s:aj,eE s=true->Good (bJ s):=λs j=>.au _ (xD j)<|num s (by unfold rM;rw[j];simp);induction e with
 |«at» s=>exact .au _ (qP h)<|num s h
 |un t a g=>
  refine .list _ sm λp i=>?_;simp only[mC,List.not_mem_nil,or_false] at i;rcases i with rfl|rfl
  .obtain⟨k,_⟩:=h;simp only[ie,oE,dE] at k;rcases k with k|k<;>(rw[k];exact .au _ de de)
  .exact g h.2
 |bi t a b g l=>
  refine .list _ sm λp i=>?_;simp only[mC,List.not_mem_nil,or_false] at i;rcases i with rfl|rfl|rfl
  .obtain⟨k,_⟩:=h;simp only[iI,oE,dE] at k;rcases k with(((k|k)|k)|k)|k<;>(rw[k];exact .au _ de de)
  .exact g h.2.1
  .exact l h.2.2
 |ite a b c g l v=>
  refine .list _ sm λp i=>?_;simp only[mC,List.not_mem_nil,or_false] at i;rcases i with rfl|rfl|rfl|rfl
  .exact .au _ de de
  .exact g h.1
  .exact l h.2.1
  .exact v h.2.2
 |lt x a b g l=>
  refine .list _ sm λp i=>?_;simp only[mC,List.not_mem_nil,or_false] at i;rcases i with rfl|rfl|rfl|rfl
  .exact .au _ de de
  .exact y x h.1
  .exact g h.2.1
  .exact l h.2.2
 |fn f x A B e J=>
  refine .list _ sm λp i=>?_;simp only[mC,List.not_mem_nil,or_false] at i;obtain⟨H,I,_,_,_,F⟩:=h;rcases i with rfl|rfl|rfl|rfl|rfl|rfl
  .exact .au _ de de
  .exact y f H
  .exact y x I
  .exact A.fB
  .exact B.fB
  .exact J F
theorem Ex.ag {e:Ex} (h:e.ju=false):e.av.au=[]/\e.av.ag.length=e.from+e.kids.length/\(nth e.av.ag 0).au=e.head/\∀j,j<e.kids.length->nth e.av.ag (e.from+j)=(gM e j).av:=by
 cases e with
 |«at» s=>cases h
 |un g a=>exact⟨rfl,rfl,rfl,λj d=>by
  have:j=0:=by simp[Ex.kids] at d;omega
  subst this;rfl⟩
 |bi g a b=>refine⟨rfl,rfl,rfl,λj d=>?_⟩;simp only[Ex.kids,lC,List.length_nil] at d;rcases(show j=0\/j=1 by omega) with rfl|rfl<;>rfl
 |ite a b c=>refine⟨rfl,rfl,rfl,λj d=>?_⟩;simp only[Ex.kids,lC,List.length_nil] at d;rcases(show j=0\/j=1\/j=2 by omega) with rfl|rfl|rfl<;>rfl
 |lt x a b=>refine⟨rfl,rfl,rfl,λj d=>?_⟩;simp only[Ex.kids,lC,List.length_nil] at d;rcases(show j=0\/j=1 by omega) with rfl|rfl<;>rfl
 |fn f x A B e=>exact⟨rfl,rfl,rfl,λj d=>by
  have:j=0:=by simp[Ex.kids] at d;omega
  subst this;rfl⟩
theorem Ex.pos (e:Ex):1<=e.n:=by cases e<;>simp[Ex.n]<;>omega
theorem Ex.gF {e:Ex} (h:e.ok):gF e.av=e.n:=by
 have xF:∀s:aj,s≠[]->Go.Proofs.YtcildnfcpkpomaaGreatDoor.gF (bJ s)=1:=λs o=>Pv o;have j:∀ps:List aq,Go.Proofs.YtcildnfcpkpomaaGreatDoor.gF (.mk [] ps)=ku ps:=λps=>by simp[Go.Proofs.YtcildnfcpkpomaaGreatDoor.gF]
 induction e with
 |«at» s=>exact xF s<|qP h
 |un i a d=>show Go.Proofs.YtcildnfcpkpomaaGreatDoor.gF (.mk [] [bJ i,a.av])=_;rw[j];simp only[ku,xF i<|V0 h.1,d h.2,Ex.n];omega
 |bi i a b d g=>show Go.Proofs.YtcildnfcpkpomaaGreatDoor.gF (.mk [] [bJ i,a.av,b.av])=_;rw[j];simp only[ku,xF i<|V2 h.1,d h.2.1,g h.2.2,Ex.n];omega
 |ite a b c d g l=>show Go.Proofs.YtcildnfcpkpomaaGreatDoor.gF (.mk [] [bJ iv,a.av,b.av,c.av])=_;rw[j];simp only[ku,xF iv de,d h.1,g h.2.1,l h.2.2,Ex.n];omega
 |lt x a b d g=>show Go.Proofs.YtcildnfcpkpomaaGreatDoor.gF (.mk [] [bJ ic,bJ x,a.av,b.av])=_;rw[j];simp only[ku,xF ic de,xF x<|xD h.1,d h.2.1,g h.2.2,Ex.n];omega
 |fn f x A B e q=>obtain⟨n,p,_,_,_,m⟩:=h;show Go.Proofs.YtcildnfcpkpomaaGreatDoor.gF (.mk [] [bJ iH,bJ f,bJ x,A.av,B.av,e.av])=_;rw[j];simp only[ku,xF iH de,xF f<|xD n,xF x<|xD p,A.gF,B.gF,q m,Ex.n];omega
theorem IH {e:Ex} (h:e.ok) {j:Nat} (a:j<e.kids.length):(gM e j).ok/\(gM e j).n<e.n:=by cases e<;>grind [Ex.ok,gM,Ty.n,Ex.n,Ex.kids]
def eQ (h:aj):Nat×Nat:=
 if iI h then(1,3) else if h=iv then(1,4) else if h=ic then(2,4) else if h=iH then(5,6) else if ie h then(1,2) else(0,0)
theorem Px {e:Ex} (h:e.ok) (g:e.ju=false):eQ e.head=(e.from,e.from+e.kids.length):=by
 cases e with
 |«at» s=>cases g
 |un d a=>obtain⟨k,_⟩:=h;simp only[ie,oE,dE] at k;rcases k with k|k<;>(subst k;rfl)
 |bi d a b=>show eQ d=_;unfold eQ;rw[h.1];rfl
 |ite a b c=>rfl
 |lt x a b=>rfl
 |fn f x A B e=>rfl
/-! ### Free aN -/
def Fv (x:aj):Ex->Prop
 | .at s=>s=x/\eE x=true
 | .un _ a=>Fv x a
 | .bi _ a b=>Fv x a\/Fv x b
 | .ite a b c=>Fv x a\/Fv x b\/Fv x c
 | .lt y a b=>Fv x a\/(x≠y/\Fv x b)
 | .fn f y _ _ e=>x≠f/\x≠y/\Fv x e
def dM:Ex->List aj->List aj->List aj
 | .at s,d,l=>if(!eE s||decide (s∈d)||decide (s∈l))=true then l else l++[s]
 | .un _ a,d,l=>dM a d l
 | .bi _ a b,d,l=>dM b d<|dM a d l
 | .ite a b c,d,l=>dM c d (dM b d<|dM a d l)
 | .lt x a b,d,l=>dM b (d++[x])<|dM a d l
 | .fn f x _ _ e,d,l=>dM e (d++[f,x]) l
theorem D7 (x:aj):∀(e:Ex) (a l:List aj),x∈dM e a l↔x∈l\/(Fv x e/\x∉a):=by intro x;induction x<;>grind [dM,Fv,eE]
theorem aiu:∀(e:Ex) (a l:List aj),l.Nodup->(dM e a l).Nodup:=by intro x;induction x<;>grind [dM]
theorem Py:∀(e:Ex) (a l:List aj),(dM e a l).length<=l.length+e.n:=by intro x;induction x<;>grind [dM,Ty.n,Ex.n]
def rN (e:Ex) (a l:List aj):Nat->List aj
 |0=>l
 |j+1=>dM (gM e j) (a++e.binds (e.from+j))<|rN e a l j
theorem aiv {e:Ex} (b:e.ju=false) (a l:List aj):dM e a l=rN e a l e.kids.length:=by cases e<;>simp_all[Ex.ju,dM,rN,Ex.kids,gM,Ex.binds,Ex.from]
def kU (x:aj):Ex->Nat
 | .at s=>if s=x then 1 else 0
 | .un _ a=>kU x a
 | .bi _ a b=>kU x a+kU x b
 | .ite a b c=>kU x a+kU x b+kU x c
 | .lt y a b=>kU x a+if x=y then 0 else kU x b
 | .fn f y _ _ e=>if x=f\/x=y then 0 else kU x e
theorem aiw (a:eE x=true):∀e:Ex,0<kU x e↔Fv x e:=by intro x;induction x<;>grind [eE,kU,Fv]
theorem count_le (x:aj):∀e:Ex,kU x e<=e.n:=by intro x;induction x<;>grind [kU,Ty.n,Ex.n]
def B4 (x:aj) (e:Ex):Nat->Nat
 |0=>0
 |j+1=>B4 x e j+if x∈e.binds (e.from+j) then 0 else kU x (gM e j)
theorem V4 {e:Ex} (a:e.ju=false) (x:aj):kU x e=B4 x e e.kids.length:=by cases e<;>simp_all[Ex.ju,kU,B4,Ex.kids,gM,Ex.binds,Ex.from]
/-! ### Types of expressions -/
abbrev Sc:=List<|aj×Ty
def look (a:Sc) (s:aj):Option Ty:=(a.reverse.find? λp=>decide<|p.1=s).map Prod.snd
theorem qe (a:Sc) (x s:aj) (T:Ty):look (a++[(x,T)]) s=if x=s then some T else look a s:=by grind [look]
theorem B5 (a:Sc) (f x s:aj) (T U:Ty):look (a++[(f,T),(x,U)]) s=if x=s then some U else if f=s then some T else look a s:=by grind [look]
def lV (a b:Ty):Bool:=decide<|a.text=b.text
theorem aix {a b:Ty}:lV a b=true↔a=b:=by grind [lV,Ty.inj]
def lW (h:aj):List Ty->Option Ty
 |[a]=>match a with
  | .op false c d=>if h=D6 then some c else if h=sE then some d else none
  |_=>none
 |[a,b]=>
  if h=ll then match a with
   | .op true c d=>if lV c b then some d else none
   |_=>none
  else if h=Aj then(if 1+a.n+b.n<=16 then some (.op false a b) else none)
  else if lV a .i&&lV b .i then some .i else none
 |[a,b,c]=>if lV a .i&&lV b c then some b else none
 |_=>none
def bH:Ex->Sc->Option Ty
 | .at s,d=>if eE s then look d s else some .i
 | .un h a,d=>(bH a d).bind λA=>lW h [A]
 | .bi h a b,d=>(bH a d).bind λA=>(bH b d).bind λB=>lW h [A,B]
 | .ite a b c,d=>(bH a d).bind λA=>(bH b d).bind λB=>(bH c d).bind λC=>lW iv [A,B,C]
 | .lt x a b,d=>(bH a d).bind λA=>bH b<|d++[(x,A)]
 | .fn f x A B e,d=>if 1+A.n+B.n<=16 then(bH e<|d++[(f,.op true A B),(x,A)]).bind λC=>if lV C B then some (.op true A B) else none else none
theorem rO:∀(e:Ex) (j g:Sc),(∀s,eE s=true->Fv s e->look j s=look g s)->bH e j=bH e g
 | .at s,j,g,h=>by
  unfold bH;by_cases d:eE s=true
  .rw[iP d,iP d];exact h s d ⟨rfl,d⟩
  .rw[iN d,iN d]
 | .un o a,j,g,h=>by unfold bH;rw[rO a j g h]
 | .bi o a b,j,g,h=>by unfold bH;rw[rO a j g λs d i=>h s d<|.inl i,rO b j g λs d i=>h s d (.inr i)]
 | .ite a b c,j,g,h=>by unfold bH;rw[rO a j g λs d i=>h s d<|.inl i,rO b j g λs d i=>h s d (.inr<|.inl i),rO c j g λs d i=>h s d (.inr<|.inr i)]
 | .lt x a b,j,g,h=>by
  unfold bH;rw[rO a j g λs d i=>h s d (.inl i)];cases bH a g with
  |none=>rfl
  |some A=>
   refine rO b _ _ λs d i=>?_;rw[qe,qe];by_cases e:x=s
   .rw[iP e,iP e]
   .rw[iN e,iN e];exact h s d<|.inr ⟨λm=>e m.symm,i⟩
 | .fn f x A B e,j,g,h=>by
  unfold bH;rw[rO e _ (g++[(f,.op true A B),(x,A)]) λs d i=>?_];rw[B5,B5];by_cases l:x=s
  .rw[iP l,iP l]
  .by_cases n:f=s
   .rw[iN l,iN l,iP n,iP n]
   .rw[iN l,iN l,iN n,iN n];exact h s d ⟨λm=>n m.symm,λm=>l m.symm,i⟩
def Ak (a:Sc):Prop:=∀s T,look a s=some T->T.n<=16
theorem II {a:Sc} (h:Ak a) {T:Ty} (b:T.n<=16):Ak (a++[(x,T)]):=by grind [Ak,Ty.n,Ex.n,qe]
theorem Pz:∀{j:List Ty} {T:Ty},(∀k∈j,k.n<=16)->lW h j=some T->T.n<=16
 |[],T,_,e=>by cases e
 |[a],T,hk,e=>by
  have g:=hk a sm;cases a with
  |i=>cases e
  |op f c d=>
   cases f with
   |true=>cases e
   |false=>
    simp only[Ty.n] at g;simp only[lW] at e;split at e
    .cases e;omega
    .split at e
     .cases e;omega
     .cases e
 |[a,b],T,hk,e=>by
  have g:=hk a sm;have hb:=hk b sm;simp only[lW] at e;split at e
  .cases a with
   |i=>cases e
   |op f c d=>
    cases f with
    |false=>cases e
    |true=>
     simp only at e;split at e
     .cases e;simp only[Ty.n] at g;omega
     .cases e
  .split at e
   .split at e
    .rename_i l;cases e;simpa[Ty.n] using l
    .cases e
   .split at e
    .cases e;decide
    .cases e
 |[a,b,c],T,hk,e=>by
  simp only[lW] at e;split at e
  .cases e;exact hk b sm
  .cases e
 |_::_::_::_::_,T,_,e=>by cases e
theorem mQ:∀{e:Ex} {Γ:Sc} {T:Ty},Ak Γ->bH e Γ=some T->T.n<=16
 | .at s,Γ,T,d,h=>by
  unfold bH at h;split at h
  .exact d s T h
  .cases h;decide
 | .un l a,Γ,T,d,h=>by
  unfold bH at h;cases g:bH a Γ with
  |none=>rw[g] at h;cases h
  |some A=>rw[g,Option.bind_some] at h;exact Pz (λk hk=>by simp at hk;rw[hk];exact mQ d g) h
 | .bi l a b,Γ,T,d,h=>by
  unfold bH at h;cases g:bH a Γ with
  |none=>rw[g] at h;cases h
  |some A=>
   cases hb:bH b Γ with
   |none=>rw[g,hb] at h;cases h
   |some B=>rw[g,hb,Option.bind_some,Option.bind_some] at h;exact Pz (λk hk=>by simp at hk;rcases hk with rfl|rfl;exact mQ d g;exact mQ d hb) h
 | .ite a b c,Γ,T,d,h=>by
  unfold bH at h;cases g:bH a Γ with
  |none=>rw[g] at h;cases h
  |some A=>
   cases hb:bH b Γ with
   |none=>rw[g,hb] at h;cases h
   |some B=>
    cases i:bH c Γ with
    |none=>rw[g,hb,i] at h;cases h
    |some C=>rw[g,hb,i,Option.bind_some,Option.bind_some,Option.bind_some] at h;exact Pz (λk hk=>by simp at hk;rcases hk with rfl|rfl|rfl;exact mQ d g;exact mQ d hb;exact mQ d i) h
 | .lt x a b,Γ,T,d,h=>by
  unfold bH at h;cases g:bH a Γ with
  |none=>rw[g] at h;cases h
  |some A=>rw[g,Option.bind_some] at h;exact mQ (II d<|mQ d g) h
 | .fn f x A B e,Γ,T,d,h=>by
  unfold bH at h;split at h
  .rename_i i;cases j:bH e (Γ++[(f,.op true A B),(x,A)]) with
   |none=>rw[j] at h;cases h
   |some C=>
    rw[j,Option.bind_some] at h;split at h
    .cases h;simpa[Ty.n] using i
    .cases h
  .cases h
/-! ### rD aN -/
theorem aiy (n:Nat):val (aS n)=n:=by
 induction n using Nat.strongRecOn with
 |_ n b=>
  have a:∀k,k<10->(UInt8.ofNat (48+k)).toNat=48+k:=λk hk=>by rw[UInt8.toNat_ofNat'];exact Nat.mod_eq_of_lt om
  unfold aS;by_cases h:n<10
  .rw[iP h];show 10*0+((UInt8.ofNat<|48+n).toNat-48)=n;rw[a n h];omega
  .rw[iN h,Uj,b (n/10) om,a (n%10) om];omega
theorem aiz {n:Nat} (h:aS n=aS m):n=m:=by grind [aiy]
def df (c:UInt8) (k:Nat):aj:=c::aS k
theorem qQ {j:Nat} (h:df c k=df c j):k=j:=by grind [aiz,df]
theorem PA {b:Type} [BEq b] [LawfulBEq b]:∀{l m:List b},l.Nodup->(∀x∈l,x∈m)->l.length<=m.length
 |[],m,_,_=>by simp
 |a::l,m,hn,hs=>by rw[List.nodup_cons] at hn;have c:=hs a sm;have:=PA (l:=l) (m:=m.erase a) hn.2 λx d=>(List.mem_erase_of_ne (fun(e:x=a)=>hn.1<|e▸d)).2 (hs x<|by simp[d]);rw[List.length_erase_of_mem c] at this;have:=List.length_pos_of_mem c;simp only[lC];omega
def qR (c:UInt8) (b:List aj):Nat->Nat->Nat
 |0,n=>n
 |a+1,n=>if df c n∈b then qR c b a (n+1) else n
def bC (c:UInt8) (a:List aj) (n:Nat):Nat:=qR c a (a.length+1) n
theorem aiA (c:UInt8) (b:List aj):∀a n,n<=qR c b a n/\qR c b a n<=n+a:=by intro x;induction x<;>grind [qR]
theorem V5 (c:UInt8) (b:List aj):∀a n,df c (qR c b a n)∉b\/∀j,j<a->df c (n+j)∈b
 |0,n=>.inr λj e=>by omega
 |a+1,n=>by
  unfold qR;split
  .rename_i h;rcases V5 c b a (n+1) with d|d
   .exact .inl d
   .refine .inr λj e=>?_;cases j with
    |zero=>exact h
    |succ j=>have:=d j om;rw[show n+(j+1)=n+1+j from by omega];exact this
  .rename_i h;exact .inl h
theorem Lz (c:UInt8) (d:List aj) (n:Nat):df c (bC c d n)∉d:=by
 rcases V5 c d (d.length+1) n with h|h
 .exact h
 .exfalso;have i:((List.range<|d.length+1).map λj=>df c<|n+j).Nodup:=by
   rw[List.nodup_iff_pairwise_ne,List.pairwise_map];refine List.Pairwise.imp ?_<|List.nodup_iff_pairwise_ne.1 List.nodup_range;intro a b f e;exact f (by have:=qQ e;omega)
  have:=PA i (m:=d) (λx l=>by obtain⟨j,g,rfl⟩:=List.mem_map.1 l;exact h j<|List.mem_range.1 g);simp at this;omega
theorem pD (c:UInt8) (a:List aj) (n:Nat):n<=bC c a n/\bC c a n<=n+a.length+1:=by grind [aiA,dC.length,bC]
theorem V6 {a:List aj} {n:Nat} (h:df c n∈a):bC c a n=bC c a (n+1):=by
 have j:∀f g n,df c (qR c a f n)∉a->df c (qR c a g n)∉a->qR c a f n=qR c a g n:=by
  intro f;induction f with
  |zero=>
   intro g n b d;cases g with
   |zero=>rfl
   |succ g=>unfold qR at b⊢;rw[iN b]
  |succ f l=>
   intro g n b d;cases g with
   |zero=>unfold qR at d⊢;rw[iN d]
   |succ g=>
    unfold qR at b d⊢;by_cases i:df c n∈a
    .rw[iP i] at b d⊢;rw[iP i];exact l g (n+1) b d
    .rw[iN i,iN i]
 have e:bC c a n=qR c a a.length (n+1):=by
  unfold bC
  conv=>lhs;unfold qR
  rw[iP h]
 have b:=Lz c a n;rw[e] at b⊢;exact j _ _ _ b (Lz c a<|n+1)
theorem V7 {a:List aj} {n:Nat} (h:df c n∉a):bC c a n=n:=by unfold bC qR;rw[iN h]
theorem B6 (e:97<=c/\c<=122) (hk:k<1000):eE (df c k)=true:=by
 have a:∀k,(aS k).all jb=true:=λk=>by
  induction k using Nat.strongRecOn with
  |_ k f=>
   have a:∀j,j<10->jb (UInt8.ofNat (48+j))=true:=by decide
   unfold aS;by_cases h:k<10
   .rw[iP h,List.all_cons,a k h];rfl
   .rw[iN h,List.all_append,f (k/10) om,List.all_cons,a (k%10) om];rfl
 have b:∀k,k<10->(aS k).length=1:=λk hk=>by unfold aS;rw[iP hk];rfl
 have d:∀k,k<100->(aS k).length<=2:=λk hk=>by
  unfold aS;split
  .simp
  .have:=b (k/10) om;simp;omega
 have g:(aS k).length<=3:=by
  unfold aS;split
  .simp
  .have:=d (k/10) om;simp;omega
 unfold eE df;simp only[lC,List.getD_cons_zero,List.drop_succ_cons,List.drop_zero,a k,Bool.and_true,aE,dE];exact⟨⟨by omega,om⟩,e⟩
/-! ### Bound aN renamed -/
abbrev Rn:=List<|aj×aj
def rP (a:Rn) (s:aj):aj:=((a.reverse.find? λp=>decide<|p.1=s).map Prod.snd).getD s
theorem PB (a:Rn) (x y s:aj):rP (a++[(x,y)]) s=if x=s then y else rP a s:=by grind [rP]
theorem V8 (a:Rn) (f x s g y:aj):rP (a++[(f,g),(x,y)]) s=if x=s then y else if f=s then g else rP a s:=by grind [rP]
abbrev cx:UInt8:=120
def cu (d:List aj):Ex->Rn->Nat->Ex×Nat
 | .at s,g,n=>(.at<|if eE s then rP g s else s,n)
 | .un h a,g,n=>(.un h (cu d a g n).1,(cu d a g n).2)
 | .bi h a b,g,n=>(.bi h (cu d a g n).1 (cu d b g (cu d a g n).2).1,(cu d b g (cu d a g n).2).2)
 | .ite a b c,g,n=>(.ite (cu d a g n).1 (cu d b g (cu d a g n).2).1 (cu d c g (cu d b g (cu d a g n).2).2).1,(cu d c g (cu d b g (cu d a g n).2).2).2)
 | .lt x a b,g,n=>(.lt (df cx<|bC cx d n) (cu d a g<|bC cx d n+1).1 (cu d b (g++[(x,df cx<|bC cx d n)]) (cu d a g<|bC cx d n+1).2).1,
   (cu d b (g++[(x,df cx<|bC cx d n)]) (cu d a g<|bC cx d n+1).2).2)
 | .fn f x A B e,g,n=>(.fn (df cx<|bC cx d n) (df cx (bC cx d<|bC cx d n+1)) A B (cu d e (g++[(f,df cx<|bC cx d n),(x,df cx (bC cx d<|bC cx d n+1))])<|bC cx d (bC cx d n+1)+1).1,
   (cu d e (g++[(f,df cx<|bC cx d n),(x,df cx (bC cx d<|bC cx d n+1))])<|bC cx d (bC cx d n+1)+1).2)
theorem jU (d:List aj):∀(e:Ex) (g:Rn) (n:Nat),n<=(cu d e g n).2/\(cu d e g n).2+(d.length+2)<=n+(e.n)*(d.length+2)+(d.length+2)
 | .at s,g,n=>by simp only[cu,Ex.n];omega
 | .un h a,g,n=>by have:=jU d a g n;simp only[cu,Ex.n,Nat.add_mul];omega
 | .bi h a b,g,n=>by have:=jU d a g n;have:=jU d b g (cu d a g n).2;simp only[cu,Ex.n,Nat.add_mul];omega
 | .ite a b c,g,n=>by have:=jU d a g n;have:=jU d b g (cu d a g n).2;have:=jU d c g (cu d b g (cu d a g n).2).2;simp only[cu,Ex.n,Nat.add_mul];omega
 | .lt x a b,g,n=>by have i:=pD cx d n;have:=jU d a g<|bC cx d n+1;have:=jU d b (g++[(x,df cx<|bC cx d n)]) (cu d a g<|bC cx d n+1).2;simp only[cu,Ex.n,Nat.add_mul];omega
 | .fn f x A B e,g,n=>by have i:=pD cx d n;have j:=pD cx d<|bC cx d n+1;have:=jU d e (g++[(f,df cx<|bC cx d n),(x,df cx (bC cx d<|bC cx d n+1))])<|bC cx d (bC cx d n+1)+1;simp only[cu,Ex.n,Nat.add_mul];omega
theorem V9 (a:List aj):∀(e:Ex) (b:Rn) (n:Nat),(cu a e b n).1.n=e.n:=by intro x;induction x<;>grind [cu,Ty.n,Ex.n]
theorem yE (d:List aj):∀(e:Ex) (g:Rn) (n:Nat),e.ok->(cu d e g n).2<=1000->(∀s,eE s=true->Fv s e->eE (rP g s)=true)->(cu d e g n).1.ok
 | .at s,g,n,h,_,j=>by
  show rM _=true;by_cases i:eE s=true
  .rw[iP i];unfold rM;rw[j s i ⟨rfl,i⟩];simp
  .rw[iN i];exact h
 | .un z a,g,n,h,m,j=>⟨h.1,yE d a g n h.2 m j⟩
 | .bi z a b,g,n,h,m,j=>by have p:=jU d b g (cu d a g n).2;simp only[cu] at m;exact⟨h.1,yE d a g n h.2.1 om λs i l=>j s i<|.inl l,yE d b g _ h.2.2 m λs i l=>j s i<|.inr l⟩
 | .ite a b c,g,n,h,m,j=>by have p:=jU d b g (cu d a g n).2;have E:=jU d c g (cu d b g (cu d a g n).2).2;simp only[cu] at m;exact⟨yE d a g n h.1 om λs i l=>j s i<|.inl l,yE d b g _ h.2.1 om λs i l=>j s i (.inr<|.inl l),yE d c g _ h.2.2 m λs i l=>j s i (.inr<|.inr l)⟩
 | .lt x a b,g,n,h,m,j=>by
  have u:=jU d a g<|bC cx d n+1;have p:=jU d b (g++[(x,df cx<|bC cx d n)]) (cu d a g<|bC cx d n+1).2;simp only[cu] at m;have hk:eE (df cx<|bC cx d n)=true:=B6 de om;refine⟨hk,yE d a g _ h.2.1 om λs i l=>j s i<|.inl l,yE d b _ _ h.2.2 m λs i l=>?_⟩;rw[PB];split
  .exact hk
  .rename_i e;exact j s i<|.inr ⟨λo=>e o.symm,l⟩
 | .fn f x A B e,g,n,h,m,j=>by
  have D:=pD cx d n;have u:=pD cx d<|bC cx d n+1;have p:=jU d e (g++[(f,df cx<|bC cx d n),(x,df cx (bC cx d<|bC cx d n+1))])<|bC cx d (bC cx d n+1)+1;simp only[cu] at m;have hk:eE (df cx<|bC cx d n)=true:=B6 de om;have q:eE (df cx (bC cx d<|bC cx d n+1))=true:=B6 de om;obtain⟨_,_,_,v,y,C⟩:=h;refine⟨hk,q,λe=>by have:=qQ e;omega,v,y,yE d e _ _ C m λs i l=>?_⟩;rw[V8];split
  .exact q
  .rename_i r;split
   .exact hk
   .rename_i t;exact j s i ⟨λo=>t o.symm,λo=>r o.symm,l⟩
theorem yF (d:List aj):∀(e:Ex) (g:Rn) (n:Nat) (j m:Sc),(cu d e g n).2<=1000->(∀s,eE s=true->Fv s e->eE (rP g s)=true/\look m (rP g s)=look j s/\∀k,n<=k->rP g s≠df cx k)->bH (cu d e g n).1 m=bH e j
 | .at s,g,n,j,m,_,h=>by
  unfold cu bH;by_cases i:eE s=true
  .obtain⟨y,z,_⟩:=h s i ⟨rfl,i⟩;rw[iP i,iP i,iP y,z]
  .rw[iN i,iN i,iN i]
 | .un E a,g,n,j,m,p,h=>by unfold cu bH;rw[yF d a g n j m p h]
 | .bi E a b,g,n,j,m,p,h=>by have y:=jU d a g n;have z:=jU d b g (cu d a g n).2;simp only[cu] at p;unfold cu bH;rw[yF d a g n j m om λs i l=>h s i<|.inl l,yF d b g _ j m p λs i l=>?_];obtain⟨q,r,o⟩:=h s i<|.inr l;exact⟨q,r,λk hk=>o k om⟩
 | .ite a b c,g,n,j,m,p,h=>by
  have y:=jU d a g n;have z:=jU d b g (cu d a g n).2;have F:=jU d c g (cu d b g (cu d a g n).2).2;simp only[cu] at p;unfold cu bH;rw[yF d a g n j m om λs i l=>h s i<|.inl l,yF d b g _ j m om λs i l=>?_,yF d c g _ j m p λs i l=>?_]
  .obtain⟨q,r,o⟩:=h s i (.inr<|.inr l);exact⟨q,r,λk hk=>o k om⟩
  .obtain⟨q,r,o⟩:=h s i (.inr<|.inl l);exact⟨q,r,λk hk=>o k om⟩
 | .lt x a b,g,n,j,m,p,h=>by
  have C:=pD cx d n;have y:=jU d a g<|bC cx d n+1;have z:=jU d b (g++[(x,df cx<|bC cx d n)]) (cu d a g<|bC cx d n+1).2;simp only[cu] at p;have hk:eE (df cx<|bC cx d n)=true:=B6 de om;unfold cu bH;rw[yF d a g _ j m om λs i l=>?_]
  .cases bH a j with
   |none=>rfl
   |some A=>
    refine yF d b _ _ _ _ p λs i l=>?_;rw[PB,qe j];by_cases e:x=s
    .rw[iP e,iP e,qe,iP rfl];exact⟨hk,rfl,λk hk e=>by have:=qQ e;omega⟩
    .rw[iN e,iN e];obtain⟨q,r,o⟩:=h s i<|.inr ⟨λu=>e u.symm,l⟩;rw[qe,iN λe=>o _ C.1 e.symm];exact⟨q,r,λk hk=>o k om⟩
  .obtain⟨q,r,o⟩:=h s i<|.inl l;exact⟨q,r,λk hk=>o k om⟩
 | .fn f x A B e,g,n,j,m,p,h=>by
  have C:=pD cx d n;have y:=pD cx d<|bC cx d n+1;have z:=jU d e (g++[(f,df cx<|bC cx d n),(x,df cx (bC cx d<|bC cx d n+1))])<|bC cx d (bC cx d n+1)+1;simp only[cu] at p;have hk:eE (df cx<|bC cx d n)=true:=B6 de om;have D:eE (df cx (bC cx d<|bC cx d n+1))=true:=B6 de om;unfold cu bH;rw[yF d e _ _ (j++[(f,.op true A B),(x,A)]) _ p λs i l=>?_];rw[V8,B5 j];by_cases t:x=s
  .rw[iP t,iP t,B5,iP rfl];exact⟨D,rfl,λk hk e=>by have:=qQ e;omega⟩
  .by_cases v:f=s
   .rw[iN t,iN t,iP v,iP v,B5,iN λe=>by have:=qQ e;omega,iP rfl];exact⟨hk,rfl,λk hk e=>by have:=qQ e;omega⟩
   .rw[iN t,iN t,iN v,iN v];obtain⟨q,r,o⟩:=h s i ⟨λu=>v u.symm,λu=>t u.symm,l⟩;rw[B5,iN λe=>o _ om e.symm,iN λe=>o _ C.1 e.symm];exact⟨q,r,λk hk=>o k om⟩
/-! ### The aN that are bound -/
def fF:Ex->List aj
 | .at _=>[]
 | .un _ a=>fF a
 | .bi _ a b=>fF a++fF b
 | .ite a b c=>fF a++(fF b++fF c)
 | .lt x a b=>x::(fF a++fF b)
 | .fn f x _ _ e=>f::x::fF e
theorem yG (d:List aj):∀(e:Ex) (i:Rn) (n:Nat),(fF (cu d e i n).1).Nodup/\∀y,y∈fF (cu d e i n).1->∃k,y=df cx k/\n<=k/\k<(cu d e i n).2
 | .at s,i,n=>by simp[cu,fF]
 | .un D a,i,n=>yG d a i n
 | .bi D a b,i,n=>by
  have v:=jU d a i n;have z:=jU d b i (cu d a i n).2;obtain⟨r,m⟩:=yG d a i n;obtain⟨t,o⟩:=yG d b i (cu d a i n).2;simp only[cu,fF];refine⟨List.nodup_append.2 ⟨r,t,λx l y g e=>?_⟩,λy g=>?_⟩
  .obtain⟨k,rfl,_,hk⟩:=m x l;obtain⟨j,rfl,u,_⟩:=o y g;have:=qQ e;omega
  .rcases mA.1 g with g|g
   .obtain⟨k,e,p,q⟩:=m y g;exact⟨k,e,p,om⟩
   .obtain⟨k,e,p,q⟩:=o y g;exact⟨k,e,om,q⟩
 | .ite a b c,i,n=>by
  have v:=jU d a i n;have z:=jU d b i (cu d a i n).2;have E:=jU d c i (cu d b i (cu d a i n).2).2;obtain⟨r,m⟩:=yG d a i n;obtain⟨t,o⟩:=yG d b i (cu d a i n).2;obtain⟨c1,c2⟩:=yG d c i (cu d b i (cu d a i n).2).2;simp only[cu,fF];refine⟨List.nodup_append.2 ⟨r,List.nodup_append.2 ⟨t,c1,λx l y g e=>?_⟩,λx l y g e=>?_⟩,λy g=>?_⟩
  .obtain⟨k,rfl,_,hk⟩:=o x l;obtain⟨j,rfl,u,_⟩:=c2 y g;have:=qQ e;omega
  .obtain⟨k,rfl,_,hk⟩:=m x l;rcases mA.1 g with g|g
   .obtain⟨j,rfl,u,_⟩:=o y g;have:=qQ e;omega
   .obtain⟨j,rfl,u,_⟩:=c2 y g;have:=qQ e;omega
  .rcases mA.1 g with g|g
   .obtain⟨k,e,p,q⟩:=m y g;exact⟨k,e,p,om⟩
   .rcases mA.1 g with g|g
    .obtain⟨k,e,p,q⟩:=o y g;exact⟨k,e,om,om⟩
    .obtain⟨k,e,p,q⟩:=c2 y g;exact⟨k,e,om,q⟩
 | .lt x a b,i,n=>by
  have C:=pD cx d n;have v:=jU d a i<|bC cx d n+1;have z:=jU d b (i++[(x,df cx<|bC cx d n)]) (cu d a i<|bC cx d n+1).2;obtain⟨r,m⟩:=yG d a i<|bC cx d n+1;obtain⟨t,o⟩:=yG d b (i++[(x,df cx<|bC cx d n)]) (cu d a i<|bC cx d n+1).2;simp only[cu,fF];refine⟨List.nodup_cons.2 ⟨λl=>?_,List.nodup_append.2 ⟨r,t,λx l y g e=>?_⟩⟩,λy g=>?_⟩
  .rcases mA.1 l with l|l
   .obtain⟨k,e,p,q⟩:=m _ l;have:=qQ e;omega
   .obtain⟨k,e,p,q⟩:=o _ l;have:=qQ e;omega
  .obtain⟨k,rfl,_,hk⟩:=m x l;obtain⟨j,rfl,u,_⟩:=o y g;have:=qQ e;omega
  .rcases mC.1 g with rfl|g
   .exact⟨_,rfl,om,om⟩
   .rcases mA.1 g with g|g
    .obtain⟨k,e,p,q⟩:=m y g;exact⟨k,e,om,om⟩
    .obtain⟨k,e,p,q⟩:=o y g;exact⟨k,e,om,q⟩
 | .fn f x A B e,i,n=>by
  have C:=pD cx d n;have v:=pD cx d<|bC cx d n+1;have z:=jU d e (i++[(f,df cx<|bC cx d n),(x,df cx (bC cx d<|bC cx d n+1))])<|bC cx d (bC cx d n+1)+1;obtain⟨r,m⟩:=yG d e (i++[(f,df cx<|bC cx d n),(x,df cx (bC cx d<|bC cx d n+1))])<|bC cx d (bC cx d n+1)+1;simp only[cu,fF];refine⟨List.nodup_cons.2 ⟨λl=>?_,List.nodup_cons.2 ⟨λl=>?_,r⟩⟩,λy g=>?_⟩
  .rcases mC.1 l with l|l
   .have:=qQ l;omega
   .obtain⟨k,e,p,q⟩:=m _ l;have:=qQ e;omega
  .obtain⟨k,e,p,q⟩:=m _ l;have:=qQ e;omega
  .rcases mC.1 g with rfl|g
   .exact⟨_,rfl,om,om⟩
   .rcases mC.1 g with rfl|g
    .exact⟨_,rfl,om,om⟩
    .obtain⟨k,e,p,q⟩:=m y g;exact⟨k,e,om,q⟩
theorem qS:∀{e:Ex} {g:Sc} {T:Ty},bH e g=some T->Fv s e->(look g s).isSome=true
 | .at x,g,T,h,d=>by obtain⟨rfl,r⟩:=d;unfold bH at h;rw[iP r] at h;rw[h];rfl
 | .un q a,g,T,h,d=>by
  unfold bH at h;cases i:bH a g with
  |none=>rw[i] at h;cases h
  |some A=>exact qS i d
 | .bi q a b,g,T,h,d=>by
  unfold bH at h;cases i:bH a g with
  |none=>rw[i] at h;cases h
  |some A=>
   cases hb:bH b g with
   |none=>rw[i,hb] at h;cases h
   |some B=>exact d.elim (qS i)<|qS hb
 | .ite a b c,g,T,h,d=>by
  unfold bH at h;cases i:bH a g with
  |none=>rw[i] at h;cases h
  |some A=>
   cases hb:bH b g with
   |none=>rw[i,hb] at h;cases h
   |some B=>
    cases j:bH c g with
    |none=>rw[i,hb,j] at h;cases h
    |some C=>exact d.elim (qS i) λd=>d.elim (qS hb)<|qS j
 | .lt x a b,g,T,h,d=>by
  unfold bH at h;cases i:bH a g with
  |none=>rw[i] at h;cases h
  |some A=>
   rw[i,Option.bind_some] at h;rcases d with d|⟨m,d⟩
   .exact qS i d
   .have:=qS h d;rw[qe,iN λe=>m e.symm] at this;exact this
 | .fn f x A B e,g,T,h,d=>by
  unfold bH at h;split at h
  .cases l:bH e (g++[(f,.op true A B),(x,A)]) with
   |none=>rw[l] at h;cases h
   |some C=>obtain⟨n,o,p⟩:=d;have:=qS l p;rw[B5,iN λe=>o e.symm,iN λe=>n e.symm] at this;exact this
  .cases h
abbrev Bs:=List<|aj×Ex
abbrev cy:UInt8:=121
def nest (bs:Bs) (e:Ex):Ex:=bs.foldr (λp e=>.lt p.1 p.2 e) e
def dR (ai:List aj) (r:Bs×Ex×Nat):Bs×Ex×Nat:=
 if r.2.1.ju=true then r else(r.1++[(df cy<|bC cy ai r.2.2,r.2.1)],.at (df cy<|bC cy ai r.2.2),bC cy ai r.2.2+1)
def bf (ai:List aj):Ex->Nat->Bs×Ex×Nat
 | .at s,n=>([],.at s,n)
 | .un h a,n=>((dR ai<|bf ai a n).1,.un h (dR ai<|bf ai a n).2.1,(dR ai<|bf ai a n).2.2)
 | .bi h a b,n=>((dR ai<|bf ai a n).1++(dR ai<|bf ai b (dR ai<|bf ai a n).2.2).1,.bi h (dR ai<|bf ai a n).2.1 (dR ai<|bf ai b (dR ai<|bf ai a n).2.2).2.1,(dR ai<|bf ai b (dR ai<|bf ai a n).2.2).2.2)
 | .ite a b c,n=>((dR ai<|bf ai a n).1,.ite (dR ai<|bf ai a n).2.1 (nest (bf ai b (dR ai<|bf ai a n).2.2).1 (bf ai b (dR ai<|bf ai a n).2.2).2.1)
   (nest (bf ai c (bf ai b (dR ai<|bf ai a n).2.2).2.2).1 (bf ai c (bf ai b (dR ai<|bf ai a n).2.2).2.2).2.1),(bf ai c (bf ai b (dR ai<|bf ai a n).2.2).2.2).2.2)
 | .lt x a b,n=>((bf ai a n).1++(x,(bf ai a n).2.1)::(bf ai b (bf ai a n).2.2).1,(bf ai b (bf ai a n).2.2).2.1,(bf ai b (bf ai a n).2.2).2.2)
 | .fn f x A B e,n=>([],.fn f x A B<|nest (bf ai e n).1 (bf ai e n).2.1,(bf ai e n).2.2)
def oC (a:List aj) (e:Ex) (n:Nat):Ex:=nest (bf a e n).1 (bf a e n).2.1
/-! ### How many aN -/
theorem rQ (a:List aj) (r:Bs×Ex×Nat):r.2.2<=(dR a r).2.2/\(dR a r).2.2<=r.2.2+a.length+2:=by grind [dR,pD]
theorem ji (d:List aj):∀(e:Ex) (n:Nat),n<=(bf d e n).2.2/\(bf d e n).2.2+2*(d.length+2)<=n+e.n*(2*(d.length+2))
 | .at s,n=>⟨lR _,by simp only[bf,Ex.n];omega⟩
 | .un h a,n=>by have:=ji d a n;have:=rQ d<|bf d a n;simp only[bf,Ex.n,Nat.add_mul];omega
 | .bi h a b,n=>by have:=ji d a n;have:=rQ d<|bf d a n;have:=ji d b (dR d<|bf d a n).2.2;have:=rQ d<|bf d b (dR d<|bf d a n).2.2;simp only[bf,Ex.n,Nat.add_mul];omega
 | .ite a b c,n=>by have:=ji d a n;have:=rQ d<|bf d a n;have:=ji d b (dR d<|bf d a n).2.2;have:=ji d c (bf d b (dR d<|bf d a n).2.2).2.2;simp only[bf,Ex.n,Nat.add_mul];omega
 | .lt x a b,n=>by have:=ji d a n;have:=ji d b (bf d a n).2.2;simp only[bf,Ex.n,Nat.add_mul];omega
 | .fn f x A B e,n=>by have:=ji d e n;simp only[bf,Ex.n,Nat.add_mul];omega
/-! ### Types -/
def sF:Bs->Sc->Option Sc
 |[],a=>some a
 |(x,s)::bs,a=>(bH s a).bind λT=>sF bs<|a++[(x,T)]
theorem LA (bs:Bs) (e:Ex) (a:Sc):bH (nest bs e) a=(sF bs a).bind (bH e):=by induction bs generalizing a<;>grind [bH,nest,sF]
theorem PC (bs b:Bs) (a:Sc):sF (bs++b) a=(sF bs a).bind (sF b):=by
 induction bs generalizing a with
 |nil=>rfl
 |cons p bs c=>
  obtain⟨x,s⟩:=p;show(bH s a).bind (λT=>sF (bs++b)<|a++[(x,T)])=((bH s a).bind λT=>sF bs<|a++[(x,T)]).bind (sF b);cases bH s a with
  |none=>rfl
  |some T=>exact c _
def Gq (a:Sc) (s:aj):Prop:=∀p∈a,p.1≠s
theorem IJ {a b:Sc} (h:Gq b s):look (a++b) s=look a s:=by grind [Gq,look]
def rD (a:List aj) (e:Ex) (n m:Nat) (y:aj):Prop:=y∈fF e\/∃k,y=df cy k/\n<=k/\k<m/\y∉a
structure Made (ai:List aj) (e:Ex) (n:Nat) (r:Bs×Ex×Nat) (Γ:Sc) (T:Ty) (Δ:Sc):Prop where
 binds:sF r.1 Γ=some (Γ++Δ)
 type:bH r.2.1 (Γ++Δ)=some T
 aN:∀p∈Δ,rD ai e n r.2.2 p.1
def B7 (a:List aj) (e:Ex) (n:Nat) (r:Bs×Ex×Nat):Prop:=∀s,(Fv s r.2.1\/∃p∈r.1,Fv s p.2)->Fv s e\/rD a e n r.2.2 s
structure Wa (ai:List aj) (e:Ex):Prop where
 nodup:(fF e).Nodup
 nofree:∀x,x∈fF e->¬Fv x e
 noted:∀x,x∈fF e\/Fv x e->x∈ai
theorem rD.more {a:List aj} {e b:Ex} {n c:Nat} {y:aj} (h:rD a e n m y) (hb:∀x,x∈fF e->x∈fF b) (f:c<=n) (d:m<=m'):rD a b c m' y:=by grind [rD,fF]
theorem B7.au {ai:List aj} {e:Ex} {n:Nat} {r:Bs×Ex×Nat} (h:B7 ai e n r) (a:n<=r.2.2):B7 ai e n (dR ai r):=by grind [B7,dR,Fv,rD,bC,pD,Lz]
theorem PD:∀(bs:Bs) (e:Ex) (s:aj),Fv s (nest bs e)->Fv s e\/∃p∈bs,Fv s p.2:=by intro x;induction x<;>grind [Fv,nest]
theorem B7.sub {a:List aj} {e e':Ex} {n n':Nat} {r:Bs×Ex×Nat} (h:B7 a e n r) (b:∀s,Fv s e->Fv s e'\/s∈fF e') (hb:∀x,x∈fF e->x∈fF e') (d:n'<=n) (c:r.2.2<=m') (f:Fv s r.2.1\/∃p∈r.1,Fv s p.2):Fv s e'\/rD a e' n' m' s:=by grind [B7,Fv,fF,rD]
theorem yH (d:List aj):∀(e:Ex) (n:Nat),B7 d e n (bf d e n)
 | .at s,n=>λs g=>g.elim .inl fun⟨p,i,_⟩=>by simp[bf] at i
 | .un m a,n=>λs g=>((yH d a n).au (ji d a n).1).sub (λs h=>.inl h) (λx h=>h) (lR _) (lR _) g
 | .bi m a b,n=>λs g=>by
  have l:=ji d a n;have o:=rQ d<|bf d a n;have q:=ji d b (dR d<|bf d a n).2.2;have r:=rQ d<|bf d b (dR d<|bf d a n).2.2;have j:=((yH d a n).au l.1).sub (e':=.bi m a b) (n':=n) (m':=(bf d (.bi m a b) n).2.2) (λs h=>.inl<|.inl h) (λx h=>mA.2<|.inl h) (lR _) (by simp only[bf];omega) (s:=s);have hb:=((yH d b (dR d<|bf d a n).2.2).au q.1).sub (e':=.bi m a b) (n':=n) (m':=(bf d (.bi m a b) n).2.2) (λs h=>.inl<|.inr h) (λx h=>mA.2<|.inr h) om (by simp only[bf];omega) (s:=s);rcases g with(g|g)|⟨p,i,g⟩
  .exact j<|.inl g
  .exact hb<|.inl g
  .rcases mA.1 i with i|i
   .exact j<|.inr ⟨p,i,g⟩
   .exact hb<|.inr ⟨p,i,g⟩
 | .ite a b c,n=>λs g=>by
  have l:=ji d a n;have o:=rQ d<|bf d a n;have q:=ji d b (dR d<|bf d a n).2.2;have r:=ji d c (bf d b (dR d<|bf d a n).2.2).2.2;have j:=((yH d a n).au l.1).sub (e':=.ite a b c) (n':=n) (m':=(bf d (.ite a b c) n).2.2) (λs h=>.inl<|.inl h) (λx h=>mA.2<|.inl h) (lR _) (by simp only[bf];omega) (s:=s);have hb:=(yH d b (dR d<|bf d a n).2.2).sub (e':=.ite a b c) (n':=n) (m':=(bf d (.ite a b c) n).2.2) (λs h=>.inl (.inr<|.inl h)) (λx h=>mA.2<|.inr (mA.2<|.inl h)) om (by simp only[bf];omega) (s:=s);have t:=(yH d c (bf d b (dR d<|bf d a n).2.2).2.2).sub (e':=.ite a b c) (n':=n) (m':=(bf d (.ite a b c) n).2.2) (λs h=>.inl (.inr<|.inr h)) (λx h=>mA.2<|.inr (mA.2<|.inr h)) om (by simp only[bf];omega) (s:=s);rcases g with(g|g|g)|⟨p,i,g⟩
  .exact j<|.inl g
  .exact hb<|PD _ _ _ g
  .exact t<|PD _ _ _ g
  .exact j<|.inr ⟨p,i,g⟩
 | .lt x a b,n=>λs g=>by
  have l:=ji d a n;have q:=ji d b (bf d a n).2.2;have j:=(yH d a n).sub (e':=.lt x a b) (n':=n) (m':=(bf d (.lt x a b) n).2.2) (λs h=>.inl<|.inl h) (λy h=>mK _ (mA.2<|.inl h)) (lR _) (by simp only[bf];omega) (s:=s);have hb:=(yH d b (bf d a n).2.2).sub (e':=.lt x a b) (n':=n) (m':=(bf d (.lt x a b) n).2.2) (λs h=>by
   by_cases e:s=x
   .exact .inr (by rw[e];exact List.mem_cons_self ..)
   .exact .inl<|.inr ⟨e,h⟩) (λy h=>mK _ (mA.2<|.inr h)) om (by simp only[bf];omega) (s:=s)
  rcases g with g|⟨p,i,g⟩
  .exact hb<|.inl g
  .rcases mA.1 i with i|i
   .exact j<|.inr ⟨p,i,g⟩
   .rcases mC.1 i with rfl|i
    .exact j<|.inl g
    .exact hb<|.inr ⟨p,i,g⟩
 | .fn f x A B e,n=>λs g=>by
  rcases g with⟨l,o,g⟩|⟨p,i,_⟩
  .rcases yH d e n s (PD _ _ _ g) with h|h
   .exact .inl ⟨l,o,h⟩
   .exact .inr (h.more (λy u=>mK _<|mK _ u) (lR _)<|lR _)
  .simp[bf] at i
theorem Made.au {ai:List aj} {e:Ex} {n:Nat} {r:Bs×Ex×Nat} {c:Sc} {T:Ty} {b:Sc} (h:Made ai e n r c T b) (m:n<=r.2.2) (d:(dR ai r).2.2<=1000):∃f,Made ai e n (dR ai r) c T f:=by
 unfold dR at d⊢;have l:=pD cy ai r.2.2;have j:=Lz cy ai r.2.2;split
 .exact⟨b,h⟩
 .rename_i g;rw[iN g] at d;have hk:eE (df cy<|bC cy ai r.2.2)=true:=B6 de (by dsimp only at d;omega);refine⟨b++[(df cy<|bC cy ai r.2.2,T)],⟨?_,?_,?_⟩⟩
  .rw[PC,h.binds,Option.bind_some];show(bH r.2.1<|c++b).bind _=_;rw[h.type,Option.bind_some,List.append_assoc];rfl
  .show(if eE (df cy<|bC cy ai r.2.2)=true then look (c++(b++[(df cy<|bC cy ai r.2.2,T)])) (df cy<|bC cy ai r.2.2) else some Ty.i)=some T;rw[iP hk,<-List.append_assoc,qe,iP rfl]
  .intro p a;rcases mA.1 a with a|a
   .exact(h.aN p a).more (λx i=>i) (lR _) (by dsimp only;omega)
   .simp only[List.mem_singleton] at a;subst a;exact .inr ⟨_,rfl,om,by dsimp only;omega,j⟩
theorem LB {b:List aj} {a:Ex} {n:Nat} {c:Sc} (h:∀p∈c,rD b a n m p.1) (d:s∉fF a) (e:s∈b):Gq c s:=by grind [rD,fF,Gq]
theorem aiB {c:List aj} {a b:Ex} {n:Nat} {d:Sc} (j:Fv s a\/rD c a n m s) (h:∀p∈d,rD c b m m' p.1) (e:∀x,x∈fF b->¬Fv x a) (f:∀x,x∈fF b->x∉fF a) (g:∀x,x∈fF b->x∈c) (i:∀x,x∈fF a\/Fv x a->x∈c):Gq d s:=by grind [Fv,rD,fF,Gq,qQ]
theorem made (d:List aj):∀(e:Ex) (n:Nat) (l:Sc) (T:Ty),Wa d e->(bf d e n).2.2<=1000->bH e l=some T->∃Δ,Made d e n (bf d e n) l T Δ
 | .at s,n,l,T,m,E,h=>⟨[],⟨by simp[bf,sF],by simpa[bf] using h,sm⟩⟩
 | .un hd a,n,l,T,m,E,h=>by
  have P:=ji d a n;have h2:=rQ d<|bf d a n;simp only[bf] at E;unfold bH at h;cases z:bH a l with
  |none=>rw[z] at h;cases h
  |some A=>rw[z,Option.bind_some] at h;obtain⟨Δ,hΔ⟩:=made d a n l A ⟨m.nodup,m.nofree,m.noted⟩ om z;obtain⟨Y,L⟩:=hΔ.au P.1 E;refine⟨Y,⟨L.binds,?_,L.aN⟩⟩;show(bH (dR d<|bf d a n).2.1<|l++Y).bind (λA=>lW hd [A])=some T;rw[L.type,Option.bind_some];exact h
 | .bi hd a b,n,l,T,m,E,h=>by
  have P:=ji d a n;have h2:=rQ d<|bf d a n;have h3:=ji d b (dR d<|bf d a n).2.2;have h4:=rQ d<|bf d b (dR d<|bf d a n).2.2;have qf:=(yH d a n).au P.1;simp only[bf] at E;unfold bH at h;cases z:bH a l with
  |none=>rw[z] at h;cases h
  |some A=>
   cases hb:bH b l with
   |none=>rw[z,hb] at h;cases h
   |some B=>
    rw[z,hb,Option.bind_some,Option.bind_some] at h;have K:=List.nodup_append.1 m.nodup;obtain⟨t,o⟩:=made d a n l A ⟨K.1,λx i D=>m.nofree x (mA.2<|.inl i)<|.inl D,λx i=>m.noted x<|i.imp (λh=>mA.2<|.inl h) .inl⟩ om z;obtain⟨g,j⟩:=o.au P.1 om;have U:bH b (l++g)=some B:=by rw[<-hb];refine rO b _ _ λs Z J=>IJ (LB j.aN (λi=>m.nofree s (mA.2<|.inl i)<|.inr J)<|m.noted s (.inr<|.inr J))
    obtain⟨M,q⟩:=made d b (dR d<|bf d a n).2.2 (l++g) B ⟨K.2.1,λx i D=>m.nofree x (mA.2<|.inr i)<|.inr D,λx i=>m.noted x<|i.imp (λh=>mA.2<|.inr h) .inr⟩ om U;obtain⟨H,v⟩:=q.au h3.1 E;refine⟨g++H,⟨?_,?_,?_⟩⟩
    .show sF (_++_) l=_;rw[PC,j.binds,Option.bind_some,v.binds,List.append_assoc]
    .show(bH (dR d<|bf d a n).2.1<|l++(g++H)).bind (λA=>(bH (dR d<|bf d b (dR d<|bf d a n).2.2).2.1<|l++(g++H)).bind λB=>lW hd [A,B])=some T;have O:bH (dR d<|bf d a n).2.1 (l++(g++H))=some A:=by
      rw[<-j.type,<-List.append_assoc];refine rO _ _ _ λs Z J=>IJ<|aiB (qf s<|.inl J) v.aN ?_ ?_ ?_ ?_
      .exact λx i D=>m.nofree x (mA.2<|.inr i)<|.inl D
      .exact λx i gm=>K.2.2 x gm x i rfl
      .exact λx i=>m.noted x<|.inl (mA.2<|.inr i)
      .exact λx i=>m.noted x<|i.imp (λh=>mA.2<|.inl h) .inl
     rw[O,Option.bind_some,<-List.append_assoc,v.type,Option.bind_some];exact h
    .intro p F;rcases mA.1 F with F|F
     .exact(j.aN p F).more (λx i=>mA.2<|.inl i) (lR _) (by simp only[bf];omega)
     .exact(v.aN p F).more (λx i=>mA.2<|.inr i) om (by simp only[bf];omega)
 | .ite a b c,n,l,T,m,E,h=>by
  have P:=ji d a n;have h2:=rQ d<|bf d a n;have h3:=ji d b (dR d<|bf d a n).2.2;have h4:=ji d c (bf d b (dR d<|bf d a n).2.2).2.2;simp only[bf] at E;unfold bH at h;cases z:bH a l with
  |none=>rw[z] at h;cases h
  |some A=>
   cases hb:bH b l with
   |none=>rw[z,hb] at h;cases h
   |some B=>
    cases S:bH c l with
    |none=>rw[z,hb,S] at h;cases h
    |some C=>
     rw[z,hb,S,Option.bind_some,Option.bind_some,Option.bind_some] at h;have K:=List.nodup_append.1 m.nodup;have Wb:=List.nodup_append.1 K.2.1;have I:∀x,x∈fF b->x∈fF (.ite a b c):=λx i=>mA.2<|.inr (mA.2<|.inl i);have V:∀x,x∈fF c->x∈fF (.ite a b c):=λx i=>mA.2<|.inr (mA.2<|.inr i);have r:∀x,x∈fF a->x∈fF (.ite a b c):=λx i=>mA.2<|.inl i;obtain⟨t,o⟩:=made d a n l A ⟨K.1,λx i D=>m.nofree x (r x i)<|.inl D,λx i=>m.noted x<|i.imp (r x) .inl⟩ om z;obtain⟨g,j⟩:=o.au P.1 om;have U:bH b (l++g)=some B:=by rw[<-hb];refine rO b _ _ λs Z J=>IJ<|LB j.aN (λi=>m.nofree s (r s i) (.inr<|.inl J)) (m.noted s<|.inr (.inr<|.inl J))
     have qF:bH c (l++g)=some C:=by rw[<-S];refine rO c _ _ λs Z J=>IJ<|LB j.aN (λi=>m.nofree s (r s i) (.inr<|.inr J)) (m.noted s<|.inr (.inr<|.inr J))
     obtain⟨M,q⟩:=made d b (dR d<|bf d a n).2.2 (l++g) B ⟨Wb.1,λx i D=>m.nofree x (I x i) (.inr<|.inl D),λx i=>m.noted x (i.imp (I x) λh=>.inr<|.inl h)⟩ om U;obtain⟨_,N⟩:=made d c (bf d b (dR d<|bf d a n).2.2).2.2 (l++g) C ⟨Wb.2.1,λx i D=>m.nofree x (V x i) (.inr<|.inr D),λx i=>m.noted x (i.imp (V x) λh=>.inr<|.inr h)⟩ E qF;refine⟨g,⟨j.binds,?_,?_⟩⟩
     .show(bH (dR d<|bf d a n).2.1<|l++g).bind (λA=>(bH (nest _ _)<|l++g).bind λB=>(bH (nest _ _)<|l++g).bind λC=>lW iv [A,B,C])=some T;rw[j.type,LA,LA,q.binds,N.binds,Option.bind_some,Option.bind_some,Option.bind_some,q.type,N.type,Option.bind_some,Option.bind_some];exact h
     .exact λp F=>(j.aN p F).more r (lR _) (by simp only[bf];omega)
 | .lt x a b,n,l,T,m,E,h=>by
  have P:=ji d a n;have h3:=ji d b (bf d a n).2.2;simp only[bf] at E;unfold bH at h;cases z:bH a l with
  |none=>rw[z] at h;cases h
  |some A=>
   rw[z,Option.bind_some] at h;have Q:=List.nodup_cons.1 m.nodup;have K:=List.nodup_append.1 Q.2;have r:∀y,y∈fF a->y∈fF (.lt x a b):=λy u=>mK _ (mA.2<|.inl u);have I:∀y,y∈fF b->y∈fF (.lt x a b):=λy u=>mK _ (mA.2<|.inr u);have Wc:x∈fF (.lt x a b):=List.mem_cons_self ..;obtain⟨t,o⟩:=made d a n l A ⟨K.1,λy u D=>m.nofree y (r y u)<|.inl D,λy u=>m.noted y<|u.imp (r y) .inl⟩ om z;have U:bH b (l++(t++[(x,A)]))=some T:=by
    rw[<-h,<-List.append_assoc];refine rO b _ _ λs Z J=>?_;rw[qe,qe];by_cases e:x=s
    .rw[iP e,iP e]
    .rw[iN e,iN e];have Gs:Fv s (.lt x a b):=.inr ⟨λe'=>e e'.symm,J⟩;exact IJ<|LB o.aN (λi=>m.nofree s (r s i) Gs) (m.noted s<|.inr Gs)
   obtain⟨M,q⟩:=made d b (bf d a n).2.2 (l++(t++[(x,A)])) T ⟨K.2.1,λy u D=>by
    by_cases e:y=x
    .exact Q.1<|e▸mA.2 (.inr u)
    .exact m.nofree y (I y u)<|.inr ⟨e,D⟩,λy u=>by
    by_cases e:y=x
    .rw[e];exact m.noted x<|.inl Wc
    .exact m.noted y<|u.imp (I y) λh=>.inr ⟨e,h⟩⟩ E U
   refine⟨t++(x,A)::M,⟨?_,?_,?_⟩⟩
   .show sF (_++(x,_)::_) l=_;rw[PC,o.binds,Option.bind_some];show(bH (bf d a n).2.1<|l++t).bind (λT=>sF _<|(l++t)++[(x,T)])=_;rw[o.type,Option.bind_some,List.append_assoc,q.binds];simp
   .show bH (bf d b (bf d a n).2.2).2.1 _=some T;have:=q.type;rw[show l++(t++(x,A)::M)=l++(t++[(x,A)])++M from by simp];exact this
   .intro p F;rcases mA.1 F with F|F
    .exact(o.aN p F).more r (lR _) (by simp only[bf];omega)
    .rcases mC.1 F with rfl|F
     .exact .inl Wc
     .exact(q.aN p F).more I om (by simp only[bf];omega)
 | .fn f x A B e,n,l,T,m,E,h=>by
  simp only[bf] at E;unfold bH at h;split at h
  .rename_i S;cases he:bH e (l++[(f,.op true A B),(x,A)]) with
   |none=>rw[he] at h;cases h
   |some C=>
    rw[he,Option.bind_some] at h;have Q:=List.nodup_cons.1 m.nodup;have K:=List.nodup_cons.1 Q.2;have X:∀y,y∈fF e->y∈fF (.fn f x A B e):=λy u=>mK _<|mK _ u;obtain⟨t,o⟩:=made d e n (l++[(f,.op true A B),(x,A)]) C ⟨K.2,λy u D=>by
     by_cases O:y=x
     .exact K.1<|O▸u
     .by_cases R:y=f
      .exact Q.1<|R▸mK _ u
      .exact m.nofree y (X y u) ⟨R,O,D⟩,λy u=>by
     by_cases O:y=x
     .rw[O];exact m.noted x<|.inl (mK _<|List.mem_cons_self ..)
     .by_cases R:y=f
      .rw[R];exact m.noted f (.inl<|List.mem_cons_self ..)
      .exact m.noted y<|u.imp (X y) λh=>⟨R,O,h⟩⟩ E he
    refine⟨[],⟨by simp[bf,sF],?_,sm⟩⟩;show(if 1+A.n+B.n<=16 then(bH (nest (bf d e n).1 (bf d e n).2.1)<|(l++[])++[(f,.op true A B),(x,A)]).bind λC=>if lV C B then some (.op true A B) else none else none)=some T;rw[iP S,List.append_nil,LA,o.binds,Option.bind_some,o.type,Option.bind_some];exact h
  .cases h
theorem aiC {b:List aj} {e:Ex} {n:Nat} {c:Sc} {T:Ty} (f:Wa b e) (d:(bf b e n).2.2<=1000) (h:bH e c=some T):bH (oC b e n) c=some T:=by obtain⟨_,a⟩:=made b e n c T f d h;unfold oC;rw[LA,a.binds,Option.bind_some,a.type]
/-! ### Atoms of a form -/
mutual
def mw:aq->List aj->List aj
 | .mk a ps,l=>if a≠[] then(if a∈l then l else l++[a]) else qg ps l
def qg:List aq->List aj->List aj
 |[],l=>l
 |t::ts,l=>qg ts<|mw t l
end
theorem Wd (t:aq) (l:List aj):mw t l=if t.au≠[] then(if t.au∈l then l else l++[t.au]) else qg t.ag l:=by cases t with|mk a ps=>rw[mw];rfl
theorem aiD:∀(xs a:List aq) (l:List aj),qg (xs++a) l=qg a (qg xs l):=by intro x;induction x<;>grind [qg]
theorem aiE (h:ps[i]?=some p) (l:List aj):qg (ps.take<|i+1) l=mw p (qg (ps.take i) l):=by rw[List.take_add_one,h,aiD];rfl
mutual
theorem aiF:∀(t:aq) (l:List aj),x∈l->x∈mw t l
 | .mk a ps,l,h=>by
  unfold mw;split
  .split
   .exact h
   .exact mA.2<|.inl h
  .exact PF ps l h
theorem PF:∀(ps:List aq) (l:List aj),x∈l->x∈qg ps l
 |[],l,h=>h
 |t::ts,l,h=>by unfold qg;exact PF ts _<|aiF t l h
end
mutual
theorem We:∀(t:aq) (l:List aj),(mw t l).length<=l.length+gF t
 | .mk a ps,l=>by
  unfold mw gF;split
  .split
   .omega
   .simp
  .exact PG ps l
theorem PG:∀(ps:List aq) (l:List aj),(qg ps l).length<=l.length+ku ps
 |[],l=>by simp[qg,ku]
 |t::ts,l=>by have a:=We t l;have b:=PG ts<|mw t l;unfold qg ku;omega
end
theorem aiG:∀{ps:List aq} {l:List aj} {p:aq},p∈ps->(∀l,x∈mw p l)->x∈qg ps l:=by intro x;induction x<;>grind [qg,PF]
theorem LC (a:x≠[]) (l:List aj):x∈mw (bJ x) l:=by grind [mw,bJ]
theorem vX {p:aq} (a:p∈ps) (h:∀l,x∈mw p l) (l:List aj):x∈mw (.mk [] ps) l:=by grind [mw,aiG]
theorem yI:∀{e:Ex},e.ok->(x∈fF e\/Fv x e)->∀l,x∈mw e.av l
 | .at s,h,d,l=>by
  rcases d with d|⟨rfl,_⟩
  .simp[fF] at d
  .exact LC (qP h) l
 | .un j a,h,d,l=>vX (p:=a.av) sm (yI h.2 d) l
 | .bi j a b,h,d,l=>by
  have g:(x∈fF a\/Fv x a)\/(x∈fF b\/Fv x b):=by
   rcases d with d|d
   .rcases mA.1 d with h|h
    .exact .inl<|.inl h
    .exact .inr<|.inl h
   .rcases d with h|h
    .exact .inl<|.inr h
    .exact .inr<|.inr h
  rcases g with g|hb
  .exact vX (p:=a.av) sm (yI h.2.1 g) l
  .exact vX (p:=b.av) sm (yI h.2.2 hb) l
 | .ite a b c,h,d,l=>by
  have g:(x∈fF a\/Fv x a)\/(x∈fF b\/Fv x b)\/(x∈fF c\/Fv x c):=by
   rcases d with d|d
   .rcases mA.1 d with h|h
    .exact .inl<|.inl h
    .rcases mA.1 h with h|h
     .exact .inr (.inl<|.inl h)
     .exact .inr (.inr<|.inl h)
   .rcases d with h|h|h
    .exact .inl<|.inr h
    .exact .inr (.inl<|.inr h)
    .exact .inr (.inr<|.inr h)
  rcases g with g|hb|i
  .exact vX (p:=a.av) sm (yI h.1 g) l
  .exact vX (p:=b.av) sm (yI h.2.1 hb) l
  .exact vX (p:=c.av) sm (yI h.2.2 i) l
 | .lt y a b,h,d,l=>by
  have g:x=y\/(x∈fF a\/Fv x a)\/(x∈fF b\/Fv x b):=by
   rcases d with d|d
   .rcases mC.1 d with h|h
    .exact .inl h
    .rcases mA.1 h with h|h
     .exact .inr (.inl<|.inl h)
     .exact .inr (.inr<|.inl h)
   .rcases d with h|⟨_,h⟩
    .exact .inr (.inl<|.inr h)
    .exact .inr (.inr<|.inr h)
  rcases g with rfl|g|hb
  .exact vX (p:=bJ x) sm (λl=>LC (xD h.1) l) l
  .exact vX (p:=a.av) sm (yI h.2.1 g) l
  .exact vX (p:=b.av) sm (yI h.2.2 hb) l
 | .fn f y A B e,h,d,l=>by
  obtain⟨n,o,_,_,_,m⟩:=h;have g:x=f\/x=y\/(x∈fF e\/Fv x e):=by
   rcases d with d|d
   .rcases mC.1 d with h|h
    .exact .inl h
    .rcases mC.1 h with h|h
     .exact .inr<|.inl h
     .exact .inr (.inr<|.inl h)
   .exact .inr (.inr<|.inr d.2.2)
  rcases g with rfl|rfl|g
  .exact vX (p:=bJ x) sm (λl=>LC (xD n) l) l
  .exact vX (p:=bJ x) sm (λl=>LC (xD o) l) l
  .exact vX (p:=e.av) sm (yI m g) l
/-! ### Expressions stay expressions -/
structure LD (r:Bs×Ex×Nat):Prop where
 out:r.2.1.ok
 bs:∀p∈r.1,eE p.1=true/\p.2.ok
theorem LD.au {ai:List aj} {r:Bs×Ex×Nat} (h:LD r) (b:(dR ai r).2.2<=1000):LD (dR ai r):=by
 unfold dR at b⊢;split
 .exact h
 .rename_i c;rw[iN c] at b;have hk:eE (df cy<|bC cy ai r.2.2)=true:=B6 de (by dsimp only at b;omega);refine⟨?_,λp a=>?_⟩
  .show rM _=true;unfold rM;rw[hk];simp
  .rcases mA.1 a with a|a
   .exact h.bs p a
   .simp only[List.mem_singleton] at a;subst a;exact⟨hk,h.out⟩
theorem LF:∀{bs:Bs} {e:Ex},(∀p∈bs,eE p.1=true/\p.2.ok)->e.ok->(nest bs e).ok:=by intro x;induction x<;>grind [eE,Ex.ok,nest]
theorem yJ (ai:List aj):∀(e:Ex) (n:Nat),e.ok->(bf ai e n).2.2<=1000->LD (bf ai e n)
 | .at s,n,h,_=>⟨h,by simp[bf]⟩
 | .un v a,n,h,g=>by have j:=ji ai a n;have l:=rQ ai<|bf ai a n;simp only[bf] at g;have d:=(yJ ai a n h.2 om).au g;exact⟨⟨h.1,d.out⟩,d.bs⟩
 | .bi v a b,n,h,g=>by have j:=ji ai a n;have l:=rQ ai<|bf ai a n;have m:=ji ai b (dR ai<|bf ai a n).2.2;have r:=rQ ai<|bf ai b (dR ai<|bf ai a n).2.2;simp only[bf] at g;have d:=(yJ ai a n h.2.1 om).au (ai:=ai) om;have hb:=(yJ ai b (dR ai<|bf ai a n).2.2 h.2.2 om).au (ai:=ai) g;exact⟨⟨h.1,d.out,hb.out⟩,λp i=>(mA.1 i).elim (d.bs p)<|hb.bs p⟩
 | .ite a b c,n,h,g=>by have j:=ji ai a n;have l:=rQ ai<|bf ai a n;have m:=ji ai b (dR ai<|bf ai a n).2.2;have r:=ji ai c (bf ai b (dR ai<|bf ai a n).2.2).2.2;simp only[bf] at g;have d:=(yJ ai a n h.1 om).au (ai:=ai) om;have hb:=yJ ai b (dR ai<|bf ai a n).2.2 h.2.1 om;have o:=yJ ai c (bf ai b (dR ai<|bf ai a n).2.2).2.2 h.2.2 g;exact⟨⟨d.out,LF hb.bs hb.out,LF o.bs o.out⟩,d.bs⟩
 | .lt x a b,n,h,g=>by
  have j:=ji ai a n;have m:=ji ai b (bf ai a n).2.2;simp only[bf] at g;have d:=yJ ai a n h.2.1 om;have hb:=yJ ai b (bf ai a n).2.2 h.2.2 g;refine⟨hb.out,λp i=>?_⟩;rcases mA.1 i with i|i
  .exact d.bs p i
  .rcases mC.1 i with rfl|i
   .exact⟨h.1,d.out⟩
   .exact hb.bs p i
 | .fn f x A B e,n,h,g=>by obtain⟨z,C,q,t,u,y⟩:=h;simp only[bf] at g;have d:=yJ ai e n y g;exact⟨⟨z,C,q,t,u,LF d.bs d.out⟩,by simp[bf]⟩
def qT (bs:Bs):Nat:=(bs.map λp=>2+p.2.n).sum
theorem Wf (a b:Bs):qT (a++b)=qT a+qT b:=by grind [qT]
theorem Wg (p:aj×Ex) (b:Bs):qT (p::b)=2+p.2.n+qT b:=by simp[qT]
theorem PH (bs:Bs) (e:Ex):(nest bs e).n=qT bs+e.n:=by induction bs<;>grind [nest,Ty.n,Ex.n,qT]
theorem LG (a:List aj) (r:Bs×Ex×Nat):qT (dR a r).1+(dR a r).2.1.n<=qT r.1+r.2.1.n+3:=by grind [qT,dR,Ty.n,Ex.n]
theorem xG (d:List aj):∀(e:Ex) (n:Nat),qT (bf d e n).1+(bf d e n).2.1.n+3<=4*e.n
 | .at s,n=>by simp[bf,qT,Ex.n]
 | .un g a,n=>by have:=xG d a n;have:=LG d<|bf d a n;simp only[bf,Ex.n];omega
 | .bi g a b,n=>by have:=xG d a n;have:=LG d<|bf d a n;have:=xG d b (dR d<|bf d a n).2.2;have:=LG d<|bf d b (dR d<|bf d a n).2.2;simp only[bf,Ex.n,Wf];omega
 | .ite a b c,n=>by have:=xG d a n;have:=LG d<|bf d a n;have:=xG d b (dR d<|bf d a n).2.2;have:=xG d c (bf d b (dR d<|bf d a n).2.2).2.2;simp only[bf,Ex.n,PH];omega
 | .lt x a b,n=>by have:=xG d a n;have:=xG d b (bf d a n).2.2;simp only[bf,Ex.n,Wf,Wg];omega
 | .fn f x A B e,n=>by have:=xG d e n;simp only[bf,Ex.n,PH];rw[show qT ([]:Bs)=0 from rfl];omega
/-! ### The normal form -/
def rR (e:Ex):Option Ex:=if(cu (dM e [] []) e [] 0).2<=100 then some (cu (dM e [] []) e [] 0).1 else none
def o6 (e:Ex):Option Ex:=(rR e).bind λp=>if(bf (mw p.av []) p 0).2.2<=100 then some (oC (mw p.av []) p 0) else none
theorem PI {e p:Ex} (h:e.ok) (a:rR e=some p):p.ok:=by
 unfold rR at a;split at a
 .cases a;exact yE _ e [] 0 h om λs b _=>b
 .cases a
theorem PJ {e q:Ex} (h:e.ok) (a:o6 e=some q):q.ok:=by
 unfold o6 at a;cases b:rR e with
 |none=>rw[b] at a;cases a
 |some p=>
  rw[b,Option.bind_some] at a;split at a
  .cases a;have:=yJ (mw p.av []) p 0 (PI h b) om;exact LF this.bs this.out
  .cases a
theorem Wh {e q:Ex} {T:Ty} (h:e.ok) (i:bH e []=some T) (b:o6 e=some q):bH q []=some T:=by
 unfold o6 at b;cases a:rR e with
 |none=>rw[a] at b;cases b
 |some p=>
  have j:=PI h a;rw[a,Option.bind_some] at b;split at b
  .rename_i m;cases b;unfold rR at a;split at a
   .rename_i n;cases a;have f:∀s,¬Fv s e:=λs c=>by have:=qS i c;simp[look] at this
    have g:bH (cu (dM e [] []) e [] 0).1 []=some T:=by rw[<-i];exact yF _ e [] 0 [] [] om λs _ c=>absurd c<|f s
    have d:∀s,¬Fv s (cu (dM e [] []) e [] 0).1:=λs c=>by have:=qS g c;simp[look] at this
    refine aiC ⟨(yG _ e [] 0).1,λx _=>d x,λx l=>yI j l []⟩ om g
   .cases a
  .cases b
/-! ### Target types -/
def B8 (x:aq):aq:=.mk [] [bJ [101],.mk [] [bJ [116],.mk [] [bJ [99],bJ [118],x],bJ [118]]]
def sG:Ty->aq
 | .i=>bJ [105]
 | .op false a b=>.mk [] [bJ [116],sG a,sG b]
 | .op true a b=>.mk [] [bJ [101],.mk [] [bJ [116],.mk [] [bJ [99],bJ [118],sG a,B8 (sG b)],bJ [118]]]
def bD (t:Ty):aj:=(sG t).text
def dP (s:aj):aj:=[40,101,32,40,116,32,40,99,32,118,32]++s++[41,32,118,41,41]
theorem vY (c:UInt8) (h:fm c=true):Good (bJ [c]):=.au _ sm<|by simp[h]
theorem Wj {x:aq} (h:Good x):Good (B8 x):=by
 refine .list _ sm λp a=>?_;simp only[mC,List.not_mem_nil,or_false] at a;rcases a with rfl|rfl
 .exact vY _ de
 .refine .list _ sm λp a=>?_;simp only[mC,List.not_mem_nil,or_false] at a;rcases a with rfl|rfl|rfl
  .exact vY _ de
  .refine .list _ sm λp a=>?_;simp only[mC,List.not_mem_nil,or_false] at a;rcases a with rfl|rfl|rfl
   .exact vY _ de
   .exact vY _ de
   .exact h
  .exact vY _ de
theorem Wk (x:aq):(B8 x).text=dP x.text:=by simp_all[B8,aq.text,Ty.text,dP,bJ,sB,tw,rK,rJ]
theorem PK (s:aj):(dP s).length=s.length+16:=by simp[dP]
theorem Wl (x:aq):(B8 x).depth=max 3 (x.depth+3):=by have a:∀c:UInt8,(bJ [c]).depth=0:=λc=>rfl;unfold B8;simp only[aq.depth,aq.depth.deeps,bJ];omega
theorem Gu:∀t:Ty,Good (sG t)
 | .i=>vY _ de
 | .op false a b=>by
  refine .list _ sm λp c=>?_;simp only[mC,List.not_mem_nil,or_false] at c;rcases c with rfl|rfl|rfl
  .exact vY _ de
  .exact Gu a
  .exact Gu b
 | .op true a b=>by
  refine .list _ sm λp c=>?_;simp only[mC,List.not_mem_nil,or_false] at c;rcases c with rfl|rfl
  .exact vY _ de
  .refine .list _ sm λp c=>?_;simp only[mC,List.not_mem_nil,or_false] at c;rcases c with rfl|rfl|rfl
   .exact vY _ de
   .refine .list _ sm λp c=>?_;simp only[mC,List.not_mem_nil,or_false] at c;rcases c with rfl|rfl|rfl|rfl
    .exact vY _ de
    .exact vY _ de
    .exact Gu a
    .exact Wj<|Gu b
   .exact vY _ de
theorem Wm:bD .i=[105]:=sB sm
theorem Wn (a b:Ty):bD (.op false a b)=[40,116,32]++bD a++[32]++bD b++[41]:=by simp_all[bD,bJ,aq.text,Ty.text,sG,sB,tw,rK,rJ]
theorem Wo (a b:Ty):bD (.op true a b)=[40,101,32,40,116,32,40,99,32,118,32]++bD a++[32]++dP (bD b)++[41,32,118,41,41]:=by simp_all[bD,dP,bJ,aq.text,Ty.text,sG,B8,sB,tw,rK,rJ,Wk]
theorem D8:∀t:Ty,(bD t).length+16<=17*t.n
 | .i=>by rw[Wm];simp[Ty.n]
 | .op false a b=>by have:=D8 a;have:=D8 b;rw[Wn];simp only[lA,lC,List.length_nil,Ty.n];omega
 | .op true a b=>by have:=D8 a;have:=D8 b;rw[Wo];simp only[lA,lC,List.length_nil,Ty.n,PK];omega
theorem Gv:∀t:Ty,(sG t).depth+3<=3*t.n
 | .i=>by simp[sG,bJ,aq.depth,aq.depth.deeps,Ty.n]
 | .op false a b=>by have:=Gv a;have:=Gv b;have:=a.pos;have:=b.pos;simp only[sG,aq.depth,aq.depth.deeps,bJ,Ty.n];omega
 | .op true a b=>by have:=Gv a;have:=Gv b;have:=a.pos;have:=b.pos;have c:=Wl<|sG b;simp only[sG,aq.depth,aq.depth.deeps,bJ,Ty.n,c];omega
/-! ### The maker's state -/
structure Tk where
 aM:aj
 regs:List aj
 loads:Nat
 self:List aj
 sc:List (aj×Nat×Ty)
 expr:Ex
 on:Nat
 aY:aj
 next:Nat
structure Mk where
 blocks:List Bk
 bP:List Tk
 count:Nat
 wide:Bool
 code:List aj
 types:List aj
abbrev cV:=List<|aj×Nat×Ty
def fl (s:cV):Sc:=s.map λp=>(p.1,p.2.2)
theorem Gw (s:cV) (x:aj) (r:Nat) (T:Ty):fl (s++[(x,r,T)])=fl s++[(x,T)]:=by simp[fl]
def lF (s:cV) (x:aj):Nat:=((s.reverse.find? λp=>decide<|p.1=x).map λp=>p.2.1).getD 0
def ln (s:cV) (x:aj):Ty:=(look (fl s) x).getD .i
def Mk.dD (m:Mk) (a:aj):Mk:={m with types:=m.types++[a],wide:=m.wide||decide (40<m.types.length+1)}
def Mk.cU (m:Mk) (h:aj) (a:List aj):Mk:={m with code:=m.code++[eM h a]}
def Mk.mx (m:Mk):Mk:={m with count:=m.count+1}
def Mk.aM (m:Mk):aj:=98::aS m.count
abbrev LH:aj:=[99,111,110,115,116]
abbrev mS:aj:=[110,101,119]
abbrev uM:aj:=[108,97,98]
abbrev uN:aj:=[112,97,99,107]
abbrev B9:aj:=[111,112,101,110]
abbrev uO:aj:=[103,101,116]
abbrev o7:aj:=[109,111,118]
abbrev Ca:aj:=[106,117,109,112]
abbrev IL:aj:=[122,101,114,111]
abbrev D9:aj:=[109,97,105,110]
abbrev Cb:aj:=[101,110,100]
def Ex.au:Ex->aj
 | .at s=>s
 |_=>[]
theorem Ex.sH (e:Ex):e.av.au=e.au:=by cases e<;>rfl
def cI (m:Mk) (s:cV) (a:aj):Mk×Nat:=if eE a then(m,lF s a) else((m.dD [105]).cU LH [aS m.types.length,a],m.types.length)
structure Pk where
 m:Mk
 r:Nat
 w:aj
def qh (m:Mk) (s:cV) (b:Nat) (aN:List aj) (on aM a:aj) (cO:List aj):Pk:=
 let regs:=aN.map (λx=>aS<|lF s x)++(if on≠[] then[aS b] else[]);let c:=aN.map (λx=>bD<|ln s x)++(if on≠[] then[on] else[]);let w:=eM [116] c;let r:=m.types.length;let code:=eM [99] (w::cO)
 ⟨(((((((m.dD w).cU mS (aS r::regs)).dD code).cU uM [aS<|r+1,aM]).dD<|eM [116] [code,w]).cU mS [aS<|r+2,aS<|r+1,aS r]).dD a).cU uN [aS<|r+3,aS<|r+2,a,w],r+3,w⟩
def jm (s:cV) (k:Nat) (aN:List aj) (a:cV):cV:=a++(aN.zipIdx).map λp=>(p.1,k+p.2,ln s p.1)
def pE (m:Mk) (s:cV) (f x:aj) (A B:Ty) (e:Ex):Pk:=qh m.mx s 0 (dM (.fn f x A B e) [] []) [] m.aM (bD<|.op true A B) [bD A,dP (bD B)]
def Cc (s:cV) (f x:aj) (A B:Ty) (e:Ex):cV:=
 (if 0<kU f e then jm s 3 (dM (.fn f x A B e) [] []) []++[(f,3+(dM (.fn f x A B e) [] []).length+2,.op true A B)] else jm s 3 (dM (.fn f x A B e) [] []) [])++[(x,1,A)]
def Cd (m:Mk) (s:cV) (f x:aj) (A B:Ty) (e:Ex):Tk:=
 ⟨m.aM,[(pE m s f x A B e).w,bD A,dP (bD B)],(dM (.fn f x A B e) [] []).length,if 0<kU f e then[bD<|.op true A B,(pE m s f x A B e).w] else[],Cc s f x A B e,e,2,dP<|bD B,3⟩
def Ce (m:Mk) (s:cV) (f x:aj) (A B:Ty) (e:Ex):Mk×Nat:=
 ({(pE m s f x A B e).m with bP:=(pE m s f x A B e).m.bP++[Cd m s f x A B e]},(pE m s f x A B e).r)
def rS (h:aj):aj:=if h=[43] then[97,100,100] else if h=[45] then[115,117,98] else if h=[42] then[109,117,108] else mS
def oD (m:Mk) (s:cV) (c:Ty):Ex->Mk×Nat
 | .at a=>cI m s a
 | .fn f x A B e=>Ce m s f x A B e
 | .un h a=>
  let p:=cI m s a.au
  ((p.1.dD<|bD c).cU uO [aS p.1.types.length,aS p.2,if h=sE then[49] else[48]],p.1.types.length)
 | .bi h a b=>
  let p:=cI m s a.au;let q:=cI p.1 s b.au
  ((q.1.dD<|bD c).cU (rS h) [aS q.1.types.length,aS p.2,aS q.2],q.1.types.length)
 | .ite a b _=>
  let p:=cI m s a.au;let q:=cI p.1 s b.au
  ((q.1.dD<|bD c).cU (rS iv) [aS q.1.types.length,aS p.2,aS q.2],q.1.types.length)
 | .lt x a _=>
  let p:=cI m s x;let q:=cI p.1 s a.au
  ((q.1.dD<|bD c).cU (rS ic) [aS q.1.types.length,aS p.2,aS q.2],q.1.types.length)
def pF (m:Mk) (s:cV) (b:Nat) (aY name:aj) (a:Ty) (rest:Ex):Pk:=qh m.mx s b (dM rest [name] []) aY m.aM (dP<|bD a) [bD a]
def LI (m:Mk) (s:cV) (b:Nat) (aY name:aj) (a:Ty) (rest:Ex):Tk:=
 ⟨m.aM,[(pF m s b aY name a rest).w,bD a],(dM rest [name] []).length+1,[],jm s 2 (dM rest [name] []) []++[(name,1,a)],rest,2+(dM rest [name] []).length,aY,2⟩
def vZ (m:Mk) (s:cV) (b:Nat) (aY name:aj) (a:Ty) (rest:Ex):Mk×Nat×aj:=
 ({(pF m s b aY name a rest).m with bP:=(pF m s b aY name a rest).m.bP++[LI m s b aY name a rest]},(pF m s b aY name a rest).r,dP<|bD a)
def uP (m:Mk) (s:Nat):Mk:=
 let r:=m.types.length
 (((((m.dD []).cU B9 [aS r,aS s]).dD []).cU uO [aS<|r+1,aS r,[48]]).dD []).cU uO [aS<|r+2,aS r,[49]]
def Al (m:Mk) (f x:Nat) (on:Nat):Mk:=
 let r:=m.types.length
 ((((uP m f).cU o7 [[48],aS (r+2)]).cU o7 [[49],aS x]).cU o7 [[50],aS on]).cU Ca [aS (r+1)]
def Am (m:Mk) (on r:Nat):Mk:=
 let q:=m.types.length
 (((uP m on).cU o7 [[48],aS (q+2)]).cU o7 [[49],aS r]).cU Ca [aS (q+1)]
structure Goal where
 name:aj
 s:Ex
 rest:Ex
def bN:Ex->Goal
 | .lt x a b=>⟨x,a,b⟩
 |e=>⟨[],e,e⟩
def o8 (s:cV) (e:Ex):Ty:=(bH e<|fl s).getD .i
structure At where
 m:Mk
 s:cV
 on:Nat
 aY:aj
def LJ (a:At) (g:Goal):At:=
 if g.name≠[] then let c:=vZ a.m a.s a.on a.aY g.name (o8 a.s g.s) g.rest;⟨c.1,a.s,c.2.1,c.2.2⟩ else a
def lp (a:At) (e:Ex):Mk ⊕ At×Ex:=
 let g:=bN e
 match g.s with
 | .bi h f x=>
  if h=ll then
   let p:=cI a.m a.s f.au;let q:=cI p.1 a.s x.au;let b:=LJ {a with m:=q.1} g
   .inl (Al b.m p.2 q.2 b.on)
  else
   let p:=oD a.m a.s (o8 a.s g.s) g.s
   if g.name=[] then .inl (Am p.1 a.on p.2) else .inr ({a with m:=p.1,s:=a.s++[(g.name,p.2,o8 a.s g.s)]},g.rest)
 | .ite c x y=>
  let p:=cI a.m a.s c.au;let b:=LJ {a with m:=p.1} g;let aM:=b.m.aM;let d:=b.m.mx.cU IL [aS p.2,aM];let i:Tk:=⟨aM,d.types,0,[],a.s,x,b.on,b.aY,d.types.length⟩
  .inr ({b with m:={d with bP:=d.bP++[i]}},y)
 |s=>
  let p:=oD a.m a.s (o8 a.s s) s
  if g.name=[] then .inl (Am p.1 a.on p.2) else .inr ({a with m:=p.1,s:=a.s++[(g.name,p.2,o8 a.s s)]},g.rest)
structure Fr (L:List Nat) (w:World) (L':List Nat) (w':World):Prop where
 aG:ak L w w'
 mem:∀x∈L',x∈L\/w.heap.size<=x
theorem Fr.refl (L:List Nat) (w:World):Fr L w L w:=⟨ak.refl L w,λx a=>.inl a⟩
theorem Fr.go {L2:List Nat} (h:Fr L w L1 w1) (k:Fr L1 w1 L2 w2):Fr L w L2 w2:=
 ⟨h.aG.since k.aG h.mem,λx b=>by
  rcases k.mem x b with a|a
  .exact h.mem x a
  .have:=h.aG.size;right;omega⟩
theorem Fr.ext (h:Fr L w L1 w1) (k:ak [] w1 w2):Fr L w L1 w2:=⟨h.aG.trans k.any,h.mem⟩
theorem Fr.aB (h:Fr L w L1 w1) (k:ak G w1 w2) (a:∀x∈G,x∈L1):Fr L w L1 w2:=⟨h.aG.since (k.mono a) h.mem,h.mem⟩
theorem Fr.of (k:ak G w w') (a:∀x∈G,x∈L):Fr L w L w':=⟨k.mono a,λx b=>.inl b⟩
theorem Fr.to {L2:List Nat} (h:Fr L w L1 w1) (b:∀x∈L2,x∈L1\/w.heap.size<=x):Fr L w L2 w1:=⟨h.aG,λx c=>by
 rcases b x c with a|a
 .exact h.mem x a
 .exact .inr a⟩
theorem Fr.grow (h:Fr L w L1 w1):Fr L w (w1.heap.size::L1) w1:=h.to λx a=>by
 rcases mC.1 a with rfl|a
 .exact .inr h.aG.size
 .exact .inl a
theorem cg.go {c:C} (h:cg L w v c) (k:Fr L w L' w'):cg L' w' v c:=by
 have b:cg (L++L') w v c:=h.fresh λx a=>by
  rcases mA.1 a with a|a
  .exact .inl a
  .exact k.mem x a
 exact(b.aG<|k.aG.mono λx a=>List.mem_append_left _ a).weaken λx a=>mR _ a
theorem dC.go {a:List C} (h:dC L w vs a) (k:Fr L w L' w'):dC L' w' vs a:=dC.of h.length λ_ _ _ c b=>(h.get c b).go k
theorem jf.go {a:List C} (h:jf L w v a) (k:Fr L w L' w'):jf L' w' v a:=let⟨vs,e,h⟩:=h;⟨vs,e,h.go k⟩
theorem bg.go (h:bg L w v t) (k:Fr L w L' w'):bg L' w' v t:=jf.go h k
theorem cX.go {t:List aq} (h:cX L w v t) (k:Fr L w L' w'):cX L' w' v t:=cg.go h k
theorem bw.go (h:bw L w v xs) (k:Fr L w L' w'):bw L' w' v xs:=cg.go h k
theorem bw.fresh (h:bw L w v xs) (a:∀x∈L',x∈L\/w.heap.size<=x):bw L' w v xs:=cg.fresh h a
theorem bg.fresh (h:bg L w v t) (a:∀x∈L',x∈L\/w.heap.size<=x):bg L' w v t:=jf.fresh h a
structure gB (L:List Nat) (w:World) (b off:Nat) (vs:List Value):Prop where
 cells:fW w b off vs
 lt:b<w.heap.size
 out:b∉L
theorem gB.go (h:gB L w b off vs) (k:Fr L w L' w'):gB L' w' b off vs:=
 ⟨λj v c=>(World.cell?_of_block<|k.aG.block b h.lt h.out).trans<|h.cells j v c,lL h.lt k.aG.size,λd=>by
  rcases k.mem b d with a|a
  .exact h.out a
  .have:=h.lt;omega⟩
theorem gB.ext (h:gB L w b off vs) (k:ak [] w w'):gB L w' b off vs:=h.go<|Fr.of k sm
theorem gB.aB (h:gB L w b off vs) (k:ak G w w') (a:∀x∈G,x∈L):gB L w' b off vs:=h.go (Fr.of k a)
/-! ### Tasks -/
def wb (a:List Nat):List (List C):=a.map λx:Nat=>[.val (.int .i64 (x:Int))]
def An (L:List Nat) (w:World) (v:Value) (a:List Nat):Prop:=cg L w v (.sl 1<|wb a)
theorem An.ext {a:List Nat} (h:An L w v a) (k:ak [] w w'):An L w' v a:=cg.ext h k
theorem An.go {a:List Nat} (h:An L w v a) (k:Fr L w L' w'):An L' w' v a:=cg.go h k
theorem aiH {a:Option Addr} {n c x:Nat} {e:List Nat} (h:An L w (.slice a n c) e) (l:e[i]?=some x):
  ∃b off,a=some ⟨b,off,none⟩/\fW w b (off+i*1) [.int .i64 (x:Int)]:=by
 obtain⟨b,off,vs,g,hb,_,_,j,d⟩:=zS h (show(wb e)[i]?=some [.val (.int .i64 (x:Int))] by simp[wb,l])
 match vs,d with
 |[v],d=>obtain⟨f,_⟩:=d;cases f;exact⟨b,off,g,j⟩
 |[],d=>exact d.elim
 |_::_::_,d=>exact d.2.elim
def kH (s:cV):List aj:=s.map λp=>p.1
def yK (s:cV):List Nat:=s.map λp=>p.2.1
def qi (s:cV):List aj:=s.map λp=>p.2.2.text
theorem aiI (s:cV) (x:aj) (r:Nat) (T:Ty):kH (s++[(x,r,T)])=kH s++[x]:=by simp[kH]
theorem aiJ (s:cV) (x:aj) (r:Nat) (T:Ty):yK (s++[(x,r,T)])=yK s++[r]:=by simp[yK]
theorem aiK (s:cV) (x:aj) (r:Nat) (T:Ty):qi (s++[(x,r,T)])=qi s++[T.text]:=by simp[qi]
def Tk.enc (t:Tk):List C:=
 [.val<|str t.aM,.sl 1<|fX t.regs,.val<|.int .i64 (t.loads:Int),.sl 1<|fX t.self,.sl 1 (fX<|kH t.sc),.sl 1 (wb<|yK t.sc),.sl 1 (fX<|qi t.sc),.val<|str t.expr.av.au,.sl 2<|dj t.expr.av.ag,.val<|.int .i64 (t.on:Int),.val<|str t.aY,.val (.int .i64 (t.next:Int))]
structure pG (L:List Nat) (w:World) (t:Tk) (v1 v3 v4 v5 v6 v8:Value):Prop where
 regs:bw L w v1 t.regs
 self:bw L w v3 t.self
 aN:bw L w v4 (kH t.sc)
 at_:An L w v5 (yK t.sc)
 types:bw L w v6 (qi t.sc)
 ag:cX L w v8 t.expr.av.ag
def qV (t:Tk) (a b c d e f:Value):List Value:=
 [str t.aM,a,.int .i64 (t.loads:Int),b,c,d,e,str t.expr.av.au,f,.int .i64 (t.on:Int),str t.aY,.int .i64 (t.next:Int)]
theorem aiL {t:Tk} (h:dC L w vs t.enc):∃v1 v3 v4 v5 v6 v8,vs=qV t v1 v3 v4 v5 v6 v8/\pG L w t v1 v3 v4 v5 v6 v8:=by
 have a:=h.length;unfold Tk.enc at h a
 match vs,a,h with
 |[_,p,_,q,r,s,u,_,v,_,_,_],_,h=>obtain⟨c,d,e,f,g,i,j,l,m,n,b,o,_⟩:=h;cases c;cases e;cases l;cases n;cases b;cases o;exact⟨p,q,r,s,u,v,rfl,d,f,g,i,j,m⟩
theorem pG.DQ {t:Tk} (h:pG L w t v1 v3 v4 v5 v6 v8):dC L w (qV t v1 v3 v4 v5 v6 v8) t.enc:=
 ⟨.val _,h.regs,.val _,h.self,h.aN,h.at_,h.types,.val _,h.ag,.val _,.val _,.val _,trivial⟩
theorem pG.go {t:Tk} (h:pG L w t v1 v3 v4 v5 v6 v8) (k:Fr L w L' w'):pG L' w' t v1 v3 v4 v5 v6 v8:=
 ⟨h.regs.go k,h.self.go k,h.aN.go k,h.at_.go k,h.types.go k,h.ag.go k⟩
theorem pG.ext {t:Tk} (h:pG L w t v1 v3 v4 v5 v6 v8) (k:ak [] w w'):pG L w' t v1 v3 v4 v5 v6 v8:=h.go<|Fr.of k sm
theorem pG.aB {t:Tk} (h:pG L w t v1 v3 v4 v5 v6 v8) (k:ak G w w') (a:∀x∈G,x∈L):pG L w' t v1 v3 v4 v5 v6 v8:=h.go<|Fr.of k a
theorem pG.grow {t:Tk} (h:pG L w t v1 v3 v4 v5 v6 v8):pG (w.heap.size::L) w t v1 v3 v4 v5 v6 v8:=h.go<|(Fr.refl L w).grow
def iJ (L:List Nat) (w:World) (T:TypeId) (b:Nat) (t:Tk):Prop:=∃v1 v3 v4 v5 v6 v8,aK w b (qV t v1 v3 v4 v5 v6 v8).toArray T/\pG L w t v1 v3 v4 v5 v6 v8
theorem iJ.ext {T:TypeId} {t:Tk} (h:iJ L w T b t) (k:ak [] w w'):iJ L w' T b t:=by obtain⟨v1,v3,v4,v5,v6,v8,hb,a⟩:=h;exact⟨v1,v3,v4,v5,v6,v8,hb.aG k sm,a.ext k⟩
theorem iJ.go {T:TypeId} {t:Tk} (h:iJ L w T b t) (k:Fr L w L' w') (d:ak G w w') (hb:b∉G):iJ L' w' T b t:=by obtain⟨v1,v3,v4,v5,v6,v8,a,c⟩:=h;exact⟨v1,v3,v4,v5,v6,v8,a.aG d hb,c.go k⟩
/-! ### The maker -/
theorem cS.aiM {T:TypeId} (h:cS w T v g xs):jD w T 1 v g (fX xs).length (xs.map λx=>str x):=by rw[p9];exact h
structure dZ (L:List Nat) (w:World) (T:TypeId) (sz:Nat) (v:Value) (g:Option Nat) (rows:List (List C)):Prop where
 own:∃xs,jD w T sz v g rows.length xs/\dC L w xs rows.flatten
 row:∀row∈rows,row.length=sz
theorem dZ.aG {T:TypeId} (h:dZ L w T sz v g rows) (k:Fr L w L' w') (e:ak G w w') (d:∀x∈g.toList,x∉G):dZ L' w' T sz v g rows:=by obtain⟨xs,a,c⟩:=h.own;exact⟨⟨xs,a.aG e λb hb=>d b<|by simp[hb],c.go k⟩,h.row⟩
theorem dZ.len {T:TypeId} (h:dZ L w T sz v g rows):∃a cap,v= .slice a rows.length cap:=by obtain⟨xs,b,_⟩:=h.own;exact b.len
theorem dZ.lt {T:TypeId} (h:dZ L w T sz v g rows):∀x∈g.toList,x<w.heap.size:=by obtain⟨xs,a,_⟩:=h.own;intro x b;exact a.lt x (by simpa using b)
theorem dZ.rep {T:TypeId} (h:dZ L w T sz v g rows) (d:∀x∈g.toList++L',x∈L\/w.heap.size<=x) (e:∀x∈g.toList,x∉L'):cg L' w v (.sl sz rows):=by obtain⟨xs,a,c⟩:=h.own;exact iS.done (L:=L') ⟨a,c.fresh d,h.row,λb hb=>e b<|by simp[hb]⟩
theorem dZ.gr {B:Nat} {T:TypeId} (h:dZ L w T sz v g rows) (e:∀x∈g.toList,x∈L) (d:∀b,g=some b->B<=b) (f:B<=w.heap.size):Gr B [] w T sz v g rows:=by obtain⟨xs,a,c⟩:=h.own;exact⟨⟨xs,a,c.fresh λx i=>.inl (e x<|by simpa using i),h.row,sm⟩,d,sm,f⟩
theorem Gr.down {B B':Nat} {T:TypeId} (h:Gr B L w T sz v g rows) (a:B'<=B):Gr B' L w T sz v g rows:=
 ⟨h.own,λb hb=>Nat.le_trans a<|h.low b hb,h.cP,Nat.le_trans a h.bsz⟩
structure uQ where
 M:TypeId
 B:TypeId
 T:TypeId
 S:TypeId
structure iw (τ:uQ) (E L:List Nat) (w:World) (b:Nat) (o:Bool) (vb vt vc vy:Value) (gb gt gc gy:Option Nat) (m:Mk):Prop where
 bl:dZ L w τ.B 3 vb gb (m.blocks.map Bk.enc)
 ta:dZ L w τ.T 12 vt gt (m.bP.map Tk.enc)
 co:(o=true/\cS w τ.S vc gc m.code)\/(o=false/\gc=none/\bw L w vc m.code)
 ty:cS w τ.S vy gy m.types
 eL:L=E++b::(gb.toList++(gt.toList++(gc.toList++gy.toList)))
 nd:L.Nodup
 cP:∀x∈L,x<w.heap.size
section
variable {τ:uQ} {E L:List Nat} {w w':World} {b:Nat} {o:Bool} {vb vt vc vy:Value} {gb gt gc gy:Option Nat} {m:Mk}
theorem Ao {A B C D E:List Nat} {b x:Nat}:x∈E++b::(A++(B++(C++D)))↔x∈E\/x=b\/x∈A\/x∈B\/x∈C\/x∈D:=by simp
theorem iw.mem (h:iw τ E L w b o vb vt vc vy gb gt gc gy m) {x:Nat}:x∈L↔x∈E\/x=b\/x∈gb.toList\/x∈gt.toList\/x∈gc.toList\/x∈gy.toList:=by rw[h.eL];exact Ao
theorem iw.apart (h:iw τ E L w b o vb vt vc vy gb gt gc gy m):E.Nodup/\b∉E/\
  (∀x∈gb.toList,x∉E/\x≠b)/\(∀x∈gt.toList,x∉E/\x≠b/\x∉gb.toList)/\(∀x∈gc.toList,x∉E/\x≠b/\x∉gb.toList/\x∉gt.toList)/\
  (∀x∈gy.toList,x∉E/\x≠b/\x∉gb.toList/\x∉gt.toList/\x∉gc.toList):=by
 have j:=h.nd;rw[h.eL] at j;rw[List.nodup_append] at j;obtain⟨s,n,f⟩:=j;rw[List.nodup_cons] at n;obtain⟨g,p⟩:=n;rw[List.nodup_append] at p;obtain⟨_,q,i⟩:=p;rw[List.nodup_append] at q;obtain⟨_,l,r⟩:=q;rw[List.nodup_append] at l;obtain⟨_,_,t⟩:=l;refine⟨s,λhb=>f b hb b sm rfl,λx a=>⟨λd=>f x d x (by simp[a]) rfl,λe=>g<|by simp[<-e,a]⟩,λx a=>⟨λd=>f x d x (by simp[a]) rfl,λe=>g<|by simp[<-e,a],λc=>i x c x (by simp[a]) rfl⟩,
  λx a=>⟨λd=>f x d x (by simp[a]) rfl,λe=>g<|by simp[<-e,a],λc=>i x c x (by simp[a]) rfl,λc=>r x c x (by simp[a]) rfl⟩,
  λx a=>⟨λd=>f x d x (by simp[a]) rfl,λe=>g<|by simp[<-e,a],λc=>i x c x (by simp[a]) rfl,λc=>r x c x (by simp[a]) rfl,λc=>t x c x a rfl⟩⟩
theorem PL (g:Option Nat):g.toList.Nodup:=by cases g<;>simp
theorem aiN {A B C D:Option Nat} {F:List Nat} {b:Nat} (a:F.Nodup) (c:b∉F) (d:∀x∈A.toList,x∉F/\x≠b) (hb:∀x∈B.toList,x∉F/\x≠b/\x∉A.toList) (e:∀x∈C.toList,x∉F/\x≠b/\x∉A.toList/\x∉B.toList) 
  (f:∀x∈D.toList,x∉F/\x≠b/\x∉A.toList/\x∉B.toList/\x∉C.toList):(F++b::(A.toList++(B.toList++(C.toList++D.toList)))).Nodup:=by grind [PL,List.nodup_append,List.nodup_cons]
theorem iw.swap (h:iw τ E L w b o vb vt vc vy gb gt gc gy m) (k:ak G w w') (v:∀x∈G,x∈L/\x≠b/\x∉E) {gb' gt' gc' gy':Option Nat} 
  (i:∀x∈gb'.toList,x∈gb.toList\/w.heap.size<=x/\x∉gt'.toList/\x∉gc'.toList/\x∉gy'.toList) (l:∀x∈gt'.toList,x∈gt.toList\/w.heap.size<=x/\x∉gb'.toList/\x∉gc'.toList/\x∉gy'.toList)
  (p:∀x∈gc'.toList,x∈gc.toList\/w.heap.size<=x/\x∉gb'.toList/\x∉gt'.toList/\x∉gy'.toList) (r:∀x∈gy'.toList,x∈gy.toList\/w.heap.size<=x/\x∉gb'.toList/\x∉gt'.toList/\x∉gc'.toList):
  Fr L w (E++b::(gb'.toList++(gt'.toList++(gc'.toList++gy'.toList)))) w'/\(E++b::(gb'.toList++(gt'.toList++(gc'.toList++gy'.toList)))).Nodup:=by
 obtain⟨s,t,u,n,j,g⟩:=h.apart;have q:∀x,x∈E\/x=b->x<w.heap.size:=λx c=>h.cP x<|h.mem.2 (by rcases c with c|c<;>simp[c]);have f:∀x,w.heap.size<=x->x∉E/\x≠b:=λx c=>⟨λy=>by have:=q x<|.inl y;omega,λe=>by have:=q x<|.inr e;omega⟩;refine⟨⟨k.mono λx c=>(v x c).1,λx c=>?_⟩,aiN s t (λx c=>?_) (λx c=>?_) (λx c=>?_) λx c=>?_⟩
 .rw[Ao] at c;rcases c with c|c|c|c|c|c
  .exact .inl (h.mem.2<|.inl c)
  .exact .inl<|h.mem.2 (.inr<|.inl c)
  .rcases i x c with a|a
   .exact .inl (h.mem.2<|by simp[a])
   .exact .inr a.1
  .rcases l x c with a|a
   .exact .inl (h.mem.2<|by simp[a])
   .exact .inr a.1
  .rcases p x c with a|a
   .exact .inl (h.mem.2<|by simp[a])
   .exact .inr a.1
  .rcases r x c with a|a
   .exact .inl (h.mem.2<|by simp[a])
   .exact .inr a.1
 .rcases i x c with a|a
  .exact u x a
  .exact f x a.1
 .rcases l x c with a|a
  .refine⟨(n x a).1,(n x a).2.1,λhb=>?_⟩;rcases i x hb with d|d
   .exact(n x a).2.2 d
   .exact d.2.1 c
  .exact⟨(f x a.1).1,(f x a.1).2,a.2.1⟩
 .rcases p x c with a|a
  .refine⟨(j x a).1,(j x a).2.1,λhb=>?_,λhb=>?_⟩
   .rcases i x hb with d|d
    .exact(j x a).2.2.1 d
    .exact d.2.2.1 c
   .rcases l x hb with d|d
    .exact(j x a).2.2.2 d
    .exact d.2.2.1 c
  .exact⟨(f x a.1).1,(f x a.1).2,a.2.1,a.2.2.1⟩
 .rcases r x c with a|a
  .refine⟨(g x a).1,(g x a).2.1,λhb=>?_,λhb=>?_,λhb=>?_⟩
   .rcases i x hb with d|d
    .exact(g x a).2.2.1 d
    .exact d.2.2.2 c
   .rcases l x hb with d|d
    .exact(g x a).2.2.2.1 d
    .exact d.2.2.2 c
   .rcases p x hb with d|d
    .exact(g x a).2.2.2.2 d
    .exact d.2.2.2 c
  .exact⟨(f x a.1).1,(f x a.1).2,a.2.1,a.2.2.1,a.2.2.2⟩
theorem iw.LK (h:iw τ E L w b o vb vt vc vy gb gt gc gy m) {x:Nat} (a:x∈gb.toList\/x∈gt.toList\/x∈gc.toList\/x∈gy.toList):x<w.heap.size:=h.cP x (h.mem.2<|by simp only[a,or_true])
theorem cS.lt {w:World} {T:TypeId} (h:cS w T v g xs):∀x∈g.toList,x<w.heap.size:=λx a=>jD.lt h x<|by simpa using a
theorem iw.PM (h:iw τ E L w b o vb vt vc vy gb gt gc gy m) {l:List aj} (c:cS w' τ.S v g l) (k:ak gy.toList w w') (p:∀x,g=some x->gy=some x\/w.heap.size<=x):
  ∃L',iw τ E L' w' b o vb vt vc v gb gt gc g {m with types:=l}/\Fr L w L' w':=by
 obtain⟨_,_,_,_,_,e⟩:=h.apart;have q:∀x∈g.toList,x∈gy.toList\/w.heap.size<=x/\x∉gb.toList/\x∉gt.toList/\x∉gc.toList:=λx a=>by
  rcases p x (by simpa using a) with d|d
  .exact .inl<|by simp[d]
  .refine .inr ⟨d,λj=>?_,λj=>?_,λj=>?_⟩<;>have:=h.LK (x:=x) (by simp[j])<;>omega
 obtain⟨i,n⟩:=h.swap k (λx a=>⟨h.mem.2<|by simp[a],(e x a).2.1,(e x a).1⟩) (gb':=gb) (gt':=gt) (gc':=gc) (gy':=g) (λx a=>.inl a) (λx a=>.inl a) (λx a=>.inl a) q;refine⟨_,⟨h.bl.aG i k λx a c=>(e x c).2.2.1 a,h.ta.aG i k λx a c=>(e x c).2.2.2.1 a,?_,c,rfl,n,?_⟩,i⟩
 .rcases h.co with⟨ho,d⟩|⟨ho,hn,d⟩
  .exact .inl ⟨ho,d.aG k λx a c=>(e x c).2.2.2.2<|by simp[a]⟩
  .exact .inr ⟨ho,hn,d.go i⟩
 .intro x a;rw[Ao] at a;have f:=k.size;rcases a with a|a|a|a|a|a
  .exact lL (h.cP x (h.mem.2<|by simp[a])) f
  .exact lL (h.cP x (h.mem.2<|by simp[a])) f
  .exact lL (h.cP x (h.mem.2<|by simp[a])) f
  .exact lL (h.cP x (h.mem.2<|by simp[a])) f
  .exact lL (h.cP x (h.mem.2<|by simp[a])) f
  .exact c.lt x a
theorem iw.LL (h:iw τ E L w b o vb vt vc vy gb gt gc gy m) {l:List aj} (c:cS w' τ.S v g l) (k:ak gc.toList w w') (q:∀x,g=some x->gc=some x\/w.heap.size<=x):
  ∃L',iw τ E L' w' b true vb vt v vy gb gt g gy {m with code:=l}/\Fr L w L' w':=by
 obtain⟨_,_,_,_,e,n⟩:=h.apart;have r:∀x∈g.toList,x∈gc.toList\/w.heap.size<=x/\x∉gb.toList/\x∉gt.toList/\x∉gy.toList:=λx a=>by
  rcases q x (by simpa using a) with f|f
  .exact .inl<|by simp[f]
  .refine .inr ⟨f,λj=>?_,λj=>?_,λj=>?_⟩<;>have:=h.LK (x:=x) (by simp[j])<;>omega
 obtain⟨i,p⟩:=h.swap k (λx a=>⟨h.mem.2<|by simp[a],(e x a).2.1,(e x a).1⟩) (gb':=gb) (gt':=gt) (gc':=g) (gy':=gy) (λx a=>.inl a) (λx a=>.inl a) r λx a=>.inl a;refine⟨_,⟨h.bl.aG i k λx a c=>(e x c).2.2.1 a,h.ta.aG i k λx a c=>(e x c).2.2.2 a,.inl ⟨rfl,c⟩,h.ty.aG k λx a c=>(n x<|by simp[a]).2.2.2.2 c,rfl,p,?_⟩,i⟩;intro x a;rw[Ao] at a;have d:=k.size;rcases a with a|a|a|a|a|a
 .exact lL (h.cP x (h.mem.2<|by simp[a])) d
 .exact lL (h.cP x (h.mem.2<|by simp[a])) d
 .exact lL (h.cP x (h.mem.2<|by simp[a])) d
 .exact lL (h.cP x (h.mem.2<|by simp[a])) d
 .exact c.lt x a
 .exact lL (h.cP x (h.mem.2<|by simp[a])) d
theorem aiO (t:Tk) (a:v1.oneCell'=true) (b:v3.oneCell'=true) (c:v4.oneCell'=true) (d:v5.oneCell'=true) (e:v6.oneCell'=true) (f:v8.oneCell'=true):(qV t v1 v3 v4 v5 v6 v8).all Value.oneCell'=true:=by simp only[qV,List.all_cons,a,b,c,d,e,f];rfl
theorem Gx {L:List Nat} {w:World} (h:cg L w v (.sl sz rows)):v.oneCell'=true:=by cases h<;>rfl
theorem pG.one {t:Tk} (h:pG L w t v1 v3 v4 v5 v6 v8):(qV t v1 v3 v4 v5 v6 v8).all Value.oneCell'=true:=aiO t (Gx h.regs) (Gx h.self) (Gx h.aN) (Gx h.at_) (Gx h.types)<|Gx h.ag
theorem iw.aG (h:iw τ E L w b o vb vt vc vy gb gt gc gy m) (k:ak G w w') (l:∀x∈G,x∈b::E):iw τ E L w' b o vb vt vc vy gb gt gc gy m:=by
 obtain⟨_,_,f,g,i,j⟩:=h.apart;have q:∀x∈G,x∈L:=λx a=>h.mem.2 (by rcases mC.1 (l x a) with c|c<;>simp[c]);have e:Fr L w L w':=Fr.of k q;have out:∀x,x∉E->x≠b->x∉G:=λx c n p=>by
  rcases mC.1 (l x p) with d|d
  .exact n d
  .exact c d
 refine⟨h.bl.aG e k λx a=>out x (f x a).1 (f x a).2,h.ta.aG e k λx a=>out x (g x a).1 (g x a).2.1,?_,h.ty.aG k λx a=>out x (j x<|by simp[a]).1 (j x<|by simp[a]).2.1,h.eL,h.nd,λx a=>lL (h.cP x a) k.size⟩;rcases h.co with⟨ho,c⟩|⟨ho,hn,c⟩
 .exact .inl ⟨ho,c.aG k λx a=>out x (i x<|by simp[a]).1 (i x<|by simp[a]).2.1⟩
 .exact .inr ⟨ho,hn,c.go e⟩
theorem iw.ext (h:iw τ E L w b o vb vt vc vy gb gt gc gy m) (k:ak [] w w'):iw τ E L w' b o vb vt vc vy gb gt gc gy m:=h.aG k sm
theorem iw.drop {x:Nat} (h:iw τ (x::E) L w b o vb vt vc vy gb gt gc gy m):∃L',L=x::L'/\iw τ E L' w b o vb vt vc vy gb gt gc gy m:=by
 have e:∀y,y∈E++b::(gb.toList++(gt.toList++(gc.toList++gy.toList)))->y∈L:=λy a=>by rw[h.eL];simp only[List.cons_append,mC];exact .inr a
 have c:Fr L w (E++b::(gb.toList++(gt.toList++(gc.toList++gy.toList)))) w:=(Fr.refl L w).to λy a=>.inl<|e y a;have d:=h.nd;rw[h.eL,List.cons_append,List.nodup_cons] at d;refine⟨_,h.eL,⟨h.bl.aG c (ak.refl [] w) sm,h.ta.aG c (ak.refl [] w) sm,?_,h.ty,rfl,d.2,λy a=>h.cP y<|e y a⟩⟩;rcases h.co with⟨ho,h1⟩|⟨ho,hn,h1⟩
 .exact .inl ⟨ho,h1⟩
 .exact .inr ⟨ho,hn,h1.go c⟩
def mkV (m:Mk) (a b vc c:Value):List Value:=[a,b,.int .i64 (m.count:Int),.bool m.wide,vc,c]
def dX (a:uQ) (E L:List Nat) (w:World) (b:Nat) (o:Bool) (m:Mk):Prop:=∃vb vt vc vy gb gt gc gy,aK w b (mkV m vb vt vc vy).toArray a.M/\iw a E L w b o vb vt vc vy gb gt gc gy m
theorem dX.ext (h:dX τ E L w b o m) (k:ak [] w w'):dX τ E L w' b o m:=by obtain⟨vb,vt,vc,vy,gb,gt,gc,gy,a,c⟩:=h;exact⟨vb,vt,vc,vy,gb,gt,gc,gy,a.aG k sm,c.ext k⟩
theorem dX.aG (h:dX τ E L w b o m) (k:ak G w w') (d:∀x∈G,x∈E):dX τ E L w' b o m:=by obtain⟨vb,vt,vc,vy,gb,gt,gc,gy,e,c⟩:=h;exact⟨vb,vt,vc,vy,gb,gt,gc,gy,e.aG k λa=>c.apart.2.1<|d b a,c.aG k λx a=>mK _<|d x a⟩
theorem dX.drop {x:Nat} (h:dX τ (x::E) L w b o m):∃L',L=x::L'/\dX τ E L' w b o m:=by obtain⟨vb,vt,vc,vy,gb,gt,gc,gy,a,c⟩:=h;obtain⟨L',e,d⟩:=c.drop;exact⟨L',e,vb,vt,vc,vy,gb,gt,gc,gy,a,d⟩
theorem dX.mem (h:dX τ E L w b o m):(∀x∈b::E,x∈L)/\E.Nodup/\b∉E/\∀x∈L,x<w.heap.size:=by obtain⟨vb,vt,vc,vy,gb,gt,gc,gy,_,a⟩:=h;obtain⟨c,d,_⟩:=a.apart;exact⟨λx e=>a.mem.2 (by rcases mC.1 e with h|h<;>simp[h]),c,d,a.cP⟩
end
section
variable {P:Program} {n:Nat} {l:List Oper} {m:Nat} {W ds:List Nat} {deps:List (List Nat)}
theorem Wp {N:Env->World->Prop} {Inv:(Nat->Bool)->Env->World->Prop} (U:vO l m W ds deps=true) 
  (step:∀(S:Nat->Bool) (e:Env) (w:World) (i:Nat) (o:Oper),i<m->l[i]?=some o->S i=false->(∀j,waits o j=true->S j=true)->Inv S e w->
   OW P n l.toArray (λA w'=>Inv (λj=>if j=i then true else S j) A w') [o] e w)
  (u:∀(S:Nat->Bool) (e:Env) (w:World),(∀i,i<m->S i=true)->Inv S e w->OW P n l.toArray N (l.drop m) e w) (Q:Exit->Act->World->Prop):
  ∀(c:Nat) (b:Array Bool) (e:Env) (a:Act) (w:World),Fits n e a->b.size=l.length->
   ((List.range l.length).filter λj=>!b.getD j true).length=c->
   (∀j,m<=j->j<l.length->b.getD j true=false)->Inv (λj=>b.getD j false) e w->KR l b->
   wpAny P .any l.toArray (qE n N Q) c b a w:=by
 obtain⟨F5,_,_,_,mM⟩:=F4 U;have K:∀(b:Array Bool) (j:Nat),b.size=l.length->j<l.length->¬b.getD j true=false->b.getD j false=true:=λb j q d p=>by rw[Array.getD_eq_getD_getElem?] at p⊢;rw[Array.getElem?_eq_getElem om] at p⊢;simpa using p
 have H3:∀(b:Array Bool) (j:Nat),b.size=l.length->j<l.length->b.getD j false=true->b.getD j true=true:=λb j q d p=>by rw[Array.getD_eq_getD_getElem?] at p⊢;rw[Array.getElem?_eq_getElem om] at p⊢;simpa using p
 intro c;induction c with
 |zero=>
  intro b e a w F q M D E nL;have v:∀j,j<l.length->b.getD j true=true:=λj d=>by
   cases H:b.getD j true with
   |true=>rfl
   |false=>
    have:j∈(List.range l.length).filter λj=>!b.getD j true:=by rw[List.mem_filter,List.mem_range];exact⟨d,by rw[H];rfl⟩
    rw[List.length_eq_zero_iff.1 M] at this;cases this
  have hm:m=l.length:=by
   rcases Nat.lt_or_ge m l.length with h|h
   .have:=D m (lR _) h;rw[v m h] at this;cases this
   .omega
  have ht:=u _ e w (λi I=>K b i q om (by rw[v i om];simp)) E;have f:=ht a F Q;exact KT U 0 m b a w (lR _) om q (λj d=>⟨λh=>(by rw[v j d] at h;cases h),λh=>om⟩) f
 |succ c ih=>
  intro b e a w F q M D E nL;by_cases C:∀j,j<m->b.getD j true=true
  .have ht:=u _ e w (λi I=>K b i q om (by rw[C i I];simp)) E;have f:=ht a F Q;have BG:∀j,j<l.length->(b.getD j true=false↔m<=j):=λj d=>by
    constructor
    .intro h;rcases Nat.lt_or_ge j m with g|g
     .rw[C j g] at h;cases h
     .exact g
    .intro h;exact D j h d
   have L:m+(c+1)=l.length:=by
    rw[<-M];have:∀k,k<=l.length->m<=k->((List.range k).filter λj=>!b.getD j true).length=k-m:=by
     intro k;induction k with
     |zero=>intro _ h;simp
     |succ k r=>
      intro il _;rw[List.range_succ,List.filter_append,lA];rcases Nat.lt_or_ge k m with g|g
      .have TZ:k+1=m:=by omega
       have hz:((List.range k).filter λj=>!b.getD j true)=[]:=by rw[List.filter_eq_nil_iff];intro j d;rw[List.mem_range] at d;rw[C j om];simp
       have s:(!b.getD k true)=false:=by rw[C k g];rfl
       simp only[hz,List.filter_cons,s,List.filter_nil,List.length_nil];simp;omega
      .rw[r om g];have s:(!b.getD k true)=true:=by rw[(BG k om).2 g];rfl
       simp only[List.filter_cons,s,List.filter_nil,if_true,lC,List.length_nil];omega
    have:=this l.length (lR _) F5;omega
   exact KT U (c+1) m b a w (lR _) L q BG f
  .have Y:∃j,j<m/\b.getD j true=false/\∀i,i<j->b.getD i true=true:=by
    have:∀k,(∃j,j<k/\b.getD j true=false/\∀i,i<j->b.getD i true=true)\/∀j,j<k->b.getD j true=true:=by
     intro k;induction k with
     |zero=>right;intro j d;omega
     |succ k r=>
      rcases r with⟨j,d,p,f⟩|h
      .exact .inl ⟨j,om,p,f⟩
      .cases H:b.getD k true with
       |false=>exact .inl ⟨k,om,H,h⟩
       |true=>
        right;intro j d;rcases Nat.lt_or_ge j k with g|g
        .exact h j g
        .rw[show j=k from by omega];exact H
    rcases this m with h|h
    .exact h
    .exact absurd h C
   obtain⟨y,_,H5,H6⟩:=Y;obtain⟨o0,H7⟩:∃o,l[y]?=some o:=⟨l[y]'om,gE om⟩;have p7:y∈Region.ready .any l.toArray b:=mem_ready.2 ⟨H5,o0,by simpa using H7,λT X hb=>by have R:=(mM y o0 H7).1 T X hb;exact K b _ q om (by rw[H6 _ R];simp)⟩;refine⟨λhr=>(by rw[hr] at p7;cases p7),λi I=>?_⟩;obtain⟨hu,o,Z,v⟩:=mem_ready.1 I;have iQ:i<l.length:=by simpa using(Array.getElem?_eq_some_iff.1 Z).1
   have J:l[i]?=some o:=by simpa using Z
   have sy:i<m:=by
    rcases Nat.lt_or_ge i m with h|h
    .exact h
    .have:=H3 b y q om<|Ok nL J v ((mM i o J).2.2 h) (i-y) y om om;rw[H5] at this;cases this
   have we:b.getD i false=false:=by
    cases h:b.getD i false with
    |false=>rfl
    |true=>rw[H3 b i q iQ h] at hu;cases hu
   have p:=step (λj=>b.getD j false) e w i o sy J we (λj d=>by obtain⟨T,X,hb,xj⟩:=Oj d;rw[<-xj];exact v T X hb) E;have f:=p a F Q;have next:∀(t:Act) (w':World),qE n (λA w'=>Inv (λj=>if j=i then true else b.getD j false) A w') Q .normal t w'->
     wpAny P .any l.toArray (qE n N Q) c (b.setIfInBounds i true) t w':=λt w' B=>by
    obtain⟨A,Oo,V⟩:=B;refine ih _ A t w' Oo (by simpa using q) ?_ ?_ ?_ ?_
    .have L:∀k,k<=l.length->((List.range k).filter λj=>!(b.setIfInBounds i true).getD j true).length+(if i<k then 1 else 0)=((List.range k).filter λj=>!b.getD j true).length:=by
      intro k;induction k with
      |zero=>simp
      |succ k r=>
       intro il;have uC:=r om;rw[List.range_succ,List.filter_append,lA,List.filter_append,lA];by_cases xk:i=k
       .subst xk;rw[iN om] at uC;have R:i<b.size:=by omega
        have s:(b.setIfInBounds i true).getD i true=true:=by simp[Array.getD_eq_getD_getElem?,R]
        rw[iP om];simp only[List.filter_cons,s,hu,List.filter_nil,Bool.not_true,Bool.not_false,if_true,Bool.false_eq_true,if_false,lC,List.length_nil];omega
       .have s:(b.setIfInBounds i true).getD k true=b.getD k true:=getD_set_ne true xk;simp only[List.filter_cons,s,List.filter_nil];have hii:(i<k+1)↔(i<k):=by omega
        by_cases qF:i<k
        .have c1:i<k+1:=by omega
         rw[iP qF] at uC;rw[iP c1];split<;>simp only[lC,List.length_nil]<;>omega
        .have c1:¬i<k+1:=by omega
         rw[iN qF] at uC;rw[iN c1];split<;>simp only[lC,List.length_nil]<;>omega
     have:=L l.length<|lR _;rw[iP iQ] at this;omega
    .intro j Oq qG;rw[getD_set_ne true om];exact D j Oq qG
    .have s:(λj=>(b.setIfInBounds i true).getD j false)=λj=>if j=i then true else b.getD j false:=by
      funext j;by_cases z:i=j
      .subst z;have:i<b.size:=by omega
       simp[Array.getD_eq_getD_getElem?,this]
      .rw[getD_set_ne false z,iN λh=>z h.symm]
     rw[s];exact V
    .intro j oj O d e2 lQ aP;have yy:∀x,b.getD x false=true->(b.setIfInBounds i true).getD x false=true:=λx hx=>by
      by_cases H9:i=x
      .subst H9;have:i<b.size:=by omega
       simp[Array.getD_eq_getD_getElem?,this]
      .rw[getD_set_ne false H9];exact hx
     by_cases z:i=j
     .subst z;rw[J] at O;cases O;exact yy _<|v e2 lQ aP
     .rw[getD_set_ne false z] at d;exact yy _<|nL j oj O d e2 lQ aP
   unfold wpOp;simp only[Z];unfold wpList at f;by_cases hw:Region.wanted o (yielded l.toArray a.tmps)=true
   .rw[iP hw] at f⊢;rcases f with f|⟨f,h3⟩
    .refine .inl<|Oper.Of (λt w' g=>next t w' g) (λ_ _ _ h=>h) (fun⟨a,w,B⟩=>⟨a,w,B⟩) f
    .exact .inr ⟨f,by obtain⟨t,w',B⟩:=h3;exact⟨t,w',B⟩⟩
   .rw[iN hw] at f⊢;exact next _ _ f
inductive Ie where
 |v (V:Value)
 |p (f:List Nat->Value->World->Prop)
 |e (t:Nat)
 |w (t:Nat) (V:Value)
 |q (t:Nat) (f:Value->Prop)
def Ie.F:Ie->List Nat->Value->World->Prop
 | .v V=>λ_ v _=>v=V
 | .p f=>f
 | .e _=>λ_ _ _=>True
 | .w _ V=>λ_ v _=>v=V
 | .q _ f=>λ_ v _=>f v
def Ie.lq:Ie->Option Nat
 | .e t=>some t
 | .w t _=>some t
 | .q t _=>some t
 |_=>none
abbrev nS:Ie:=.p λ_ _ _=>True
def yL (b:List Ie) (c:List Nat) (G:List Nat) (aU:List Value) (w:World):List Nat->(List (Nat×Value)->Prop)->Prop
 |[],k=>k []
 |j::r,k=>match b.getD j nS with
  | .v V=>yL b c G aU w r λa=>k ((c.getD j 0,V)::a)
  | .p f=>∀v,f G v w->yL b c G aU w r λa=>k ((c.getD j 0,v)::a)
  | .e t=>yL b c G aU w r λa=>k ((c.getD j 0,aU.getD t undef)::a)
  | .w _ V=>yL b c G aU w r λa=>k ((c.getD j 0,V)::a)
  | .q t f=>∀v,aU.getD t undef=v->f v->yL b c G aU w r λa=>k ((c.getD j 0,v)::a)
theorem Cf {a:List Ie} {g:List Nat} {aU:List Value} {vs:Nat->Value}:∀{deps:List Nat} {k:List (Nat×Value)->Prop},yL a g G aU w deps k->
  (∀j∈deps,(a.getD j nS).F G (vs j) w/\∀t,(a.getD j nS).lq=some t->aU.getD t undef=vs j)->k (vM g vs deps)
 |[],k,h,_=>h
 |j::r,k,h,hd=>by
  obtain⟨b,l⟩:=hd j<|List.mem_cons_self ..;unfold yL at h;have c:∀i∈r,_:=λi m=>hd i<|mK _ m;cases e:a.getD j nS with
  |v V=>rw[e] at h b;have d:vs j=V:=b;subst d;exact Cf (deps:=r) h c
  |p f=>rw[e] at h b;exact Cf (deps:=r) (h _ b) c
  |e t=>rw[e] at h;have d:=l t (by rw[e];rfl);simp only[d] at h;exact Cf (deps:=r) h c
  |w t V=>rw[e] at h b;have d:vs j=V:=b;subst d;exact Cf (deps:=r) h c
  |q t f=>rw[e] at h b;exact Cf (deps:=r) (h _ (l t (by rw[e];rfl)) b) c
def fG (G:List Nat) (w:World):Prop:=∀x∈G,x<w.heap.size
def LM (P:Program) (n:Nat) (e:Array Oper) (W d:List Nat) (c:List Ie) (g:Env) (j:List Nat) (l:World) (i:Nat) (o:Oper) (b:List Nat):Prop:=
 ∀(x:Env) (w:World) (G:List Nat) (aU:List Value),Fr j l G w->fG G w->yL c d G aU w b λa=>
  OW P n e (λf w'=>ak [] w w'/\(c.getD i nS).F G (f<|d.getD i 0) w'/\eP [d.getD i 0] (ba (aZ W x g) a) f) [o] (ba (aZ W x g) a) w
def Wq (P:Program) (n:Nat) (g:Array Oper) (W e:List Nat) (c:List Ie) (j:List (List Nat->List Value->World->Prop)) (l:Env) (m:List Nat) (p:World) (t i:Nat) (o:Oper) (b:List Nat):Prop:=
 ∀(x:Env) (w:World) (G:List Nat) (aU:List Value),Fr m p G w->fG G w->j.getD t (λ_ _ _=>True) G aU w->aU.length=t->yL c e G aU w b λa=>
  OW P n g (λf w'=>(∃d,Fr G w d w'/\fG d w'/\j.getD (t+1) (λ_ _ _=>True) d (aU++[f (e.getD i 0)]) w'/\(c.getD i nS).F d (f<|e.getD i 0) w')/\eP [e.getD i 0] (ba (aZ W x l) a) f) [o] (ba (aZ W x l) a) w
def Gy (P:Program) (n:Nat) (c:Array Oper) (W e:List Nat) (b:List Ie) (j:List (List Nat->List Value->World->Prop)) (f:Env) (d:List Nat) (g:World) (i:Nat) (o:Oper) (a:List Nat):Prop:=
 match(b.getD i nS).lq with
 |some t=>Wq P n c W e b j f d g t i o a
 |none=>LM P n c W e b f d g i o a
def xH (P:Program) (n:Nat) (b:Array Oper) (W f:List Nat) (a:List Ie) (e:List (List Nat->List Value->World->Prop)) (g:Env) (c:List Nat) (i:World):Nat->List Oper->List (List Nat)->Prop
 |_,[],_=>True
 |_,_::_,[]=>True
 |k,o::l,d::r=>Gy P n b W f a e g c i k o d/\xH P n b W f a e g c i (k+1) l r
section
variable {P:Program} {n:Nat} {ops:Array Oper} {W ds:List Nat} {its:List Ie} {Js:List (List Nat->List Value->World->Prop)} {e0:Env} {G0:List Nat} {w0:World}
theorem vf {o:Oper} {l:List Oper} {d:List Nat} {r:List (List Nat)} (h:LM P n ops W ds its e0 G0 w0 k o d) (a:xH P n ops W ds its Js e0 G0 w0 (k+1) l r) (hk:(its.getD k nS).lq=none:=by rfl):xH P n ops W ds its Js e0 G0 w0 k (o::l) (d::r):=
 ⟨by unfold Gy;rw[hk];exact h,a⟩
theorem ve (t:Nat) {o:Oper} {l:List Oper} {d:List Nat} {r:List (List Nat)} (h:Wq P n ops W ds its Js e0 G0 w0 t k o d) (a:xH P n ops W ds its Js e0 G0 w0 (k+1) l r) (hk:(its.getD k nS).lq=some t:=by rfl):xH P n ops W ds its Js e0 G0 w0 k (o::l) (d::r):=
 ⟨by unfold Gy;rw[hk];exact h,a⟩
theorem Wr:∀(l:List Oper) (deps:List (List Nat)) (k:Nat),xH P n ops W ds its Js e0 G0 w0 k l deps->∀(i:Nat) (o:Oper) (d:List Nat),l[i]?=some o->deps[i]?=some d->Gy P n ops W ds its Js e0 G0 w0 (k+i) o d
 |[],_,_,_,i,o,d,h,_=>by simp at h
 |_::_,[],_,_,i,o,d,_,h=>by simp at h
 |o::l,d::r,k,h,0,o',d',ho,hd=>by simp at ho hd;subst ho;subst hd;exact h.1
 |o::l,d::r,k,h,i+1,o',d',ho,hd=>by have:=Wr l r (k+1) h.2 i o' d' (by simpa using ho) (by simpa using hd);rwa [show k+1+i=k+(i+1) by omega] at this
end
def PN (l:List Oper) (m:Nat) (a:List Nat) (b:List Ie):Bool:=
 (List.range a.length).all (λt=>decide (a.getD t 0<m)&&((b.getD (a.getD t 0) nS).lq==some t)&&(decide (t=0)||(match l[a.getD t 0]? with|some o=>waits o (a.getD (t-1) 0)|none=>false)))&&
 (List.range m).all (λi=>match(b.getD i nS).lq with|some t=>decide (t<a.length)&&decide (a.getD t 0=i)|none=>true)
theorem aiR {l:List Oper} {m:Nat} {d:List Nat} {e:List Ie} (h:PN l m d e=true):
  (∀t,t<d.length->d.getD t 0<m/\(e.getD (d.getD t 0) nS).lq=some t/\(t≠0->∃o,l[d.getD t 0]?=some o/\waits o (d.getD (t-1) 0)=true))/\
  ∀i t,i<m->(e.getD i nS).lq=some t->t<d.length/\d.getD t 0=i:=by
 unfold PN at h;rw[aE,List.all_eq_true,List.all_eq_true] at h;obtain⟨j,n⟩:=h;refine⟨λt r=>?_,λi t q p=>?_⟩
 .have:=j t<|List.mem_range.2 r;simp only[aE,dE,beq_iff_eq,oE] at this;obtain⟨⟨a,b⟩,c⟩:=this;refine⟨a,b,λg=>?_⟩;rcases c with c|c
  .exact absurd c g
  .cases f:l[d.getD t 0]? with
   |none=>rw[f] at c;cases c
   |some o=>rw[f] at c;exact⟨o,rfl,c⟩
 .have:=n i<|List.mem_range.2 q;rw[p] at this;simpa using this
def Cg:List Ie->Prop
 |[]=>True
 | .p f::r=>(∀G v w a w',f G v w->Fr G w a w'->f a v w')/\Cg r
 | .v _::r=>Cg r
 | .e _::r=>Cg r
 | .w _ _::r=>Cg r
 | .q _ _::r=>Cg r
theorem Gz:∀{its:List Ie},Cg its->∀q∈its,∀G v w b w',q.F G v w->Fr G w b w'->q.F b v w'
 | .p f::r,h,q,a,G,v,w,b,w',hf,hk=>by
  rcases mC.1 a with e|a
  .subst e;exact h.1 _ _ _ _ _ hf hk
  .exact Gz (its:=r) h.2 q a _ _ _ _ _ hf hk
 | .v V::r,h,q,a,G,v,w,b,w',hf,hk=>by
  rcases mC.1 a with e|a
  .subst e;exact hf
  .exact Gz (its:=r) h q a _ _ _ _ _ hf hk
 | .e V::r,h,q,a,G,v,w,b,w',hf,hk=>by
  rcases mC.1 a with e|a
  .subst e;exact hf
  .exact Gz (its:=r) h q a _ _ _ _ _ hf hk
 | .w t V::r,h,q,a,G,v,w,b,w',hf,hk=>by
  rcases mC.1 a with e|a
  .subst e;exact hf
  .exact Gz (its:=r) h q a _ _ _ _ _ hf hk
 | .q t f::r,h,q,a,G,v,w,b,w',hf,hk=>by
  rcases mC.1 a with e|a
  .subst e;exact hf
  .exact Gz (its:=r) h q a _ _ _ _ _ hf hk
theorem Ws {a:List Ie} (h:Cg a) (i:Nat) {c:List Nat} (b:(a.getD i nS).F G v w) (hk:Fr G w c w'):(a.getD i nS).F c v w':=by
 rw[gG] at b⊢;cases e:a[i]? with
 |none=>trivial
 |some q=>rw[e] at b;exact Gz h q (List.mem_of_getElem? e) _ _ _ _ _ b hk
def LN:List (List Nat->List Value->World->Prop)->Prop
 |[]=>True
 |J::r=>(∀G vs w w',J G vs w->ak [] w w'->J G vs w')/\LN r
theorem IM:∀{Js:List (List Nat->List Value->World->Prop)},LN Js->∀(k:Nat) {G:List Nat} {vs:List Value} {w w':World},Js.getD k (λ_ _ _=>True) G vs w->ak [] w w'->Js.getD k (λ_ _ _=>True) G vs w'
 |[],_,k,_,_,_,_,_,_=>by simp
 |J::r,h,0,_,_,_,_,hj,hk=>h.1 _ _ _ _ hj hk
 |J::r,h,k+1,_,_,_,_,hj,hk=>by have:=IM (Js:=r) h.2 k (by simpa using hj) hk;simpa using this
theorem j8 {a:Type} {l:List a} (h:l.length=0):l=[]:=by grind
theorem j9 {b:Type} {l:List b} (h:l.length=1):∃a,l=[a]:=List.length_eq_one_iff.1 h
theorem my {c:Type} {l:List c} (h:l.length=2):∃a b,l=[a,b]:=by
 match l,h with|[a,b],_=>exact⟨a,b,rfl⟩
theorem Ch {d:Type} {l:List d} (h:l.length=3):∃a b c,l=[a,b,c]:=by
 match l,h with|[a,b,c],_=>exact⟨a,b,c,rfl⟩
theorem PO {e:Type} {l:List e} (h:l.length=4):∃a b c d,l=[a,b,c,d]:=by
 match l,h with|[a,b,c,d],_=>exact⟨a,b,c,d,rfl⟩
theorem Wt {f:Type} {l:List f} (h:l.length=5):∃a b c d e,l=[a,b,c,d,e]:=by
 match l,h with|[a,b,c,d,e],_=>exact⟨a,b,c,d,e,rfl⟩
theorem aiS {g:Type} {l:List g} (h:l.length=6):∃a b c d e f,l=[a,b,c,d,e,f]:=by
 match l,h with|[a,b,c,d,e,f],_=>exact⟨a,b,c,d,e,f,rfl⟩
theorem Ci {W a:List Nat} {b e:Env} (c:eP W b e) (r:List Nat):ba (aZ W e b) (vM a (λi=>e<|a.getD i 0) r)=e:=by
 rw[zY c,H2 (by
  intro p d;have:∀(r:List Nat),p∈vM a (λi=>e<|a.getD i 0) r->e p.1=p.2:=by
   intro r;induction r with
   |nil=>intro h;cases h
   |cons j r f=>
    intro h;rcases mC.1 h with h|h
    .subst h;rfl
    .exact f h
  exact this _ d)]
theorem kI {N R:Env->World->Prop} {X:Nat->Env->World->Prop} {id:Nat} {C:Env} {y:World} (hm:P.follows .mixedOrders=true) (J:List Nat) (m:Nat) (W c:List Nat) (g:List (List Nat)) (q:List Ie) (b:List Nat) (T:List (List Nat->List Value->World->Prop)) 
  (hB:vO l m W c g=true) (hE:PN l m b q=true) (hL:fG J y) (hF:Cg q) (hJ:LN T) (h0:T.getD 0 (λ_ _ _=>True) J [] y)
  (hc:xH P n l.toArray W c q T C J y 0 (l.take m) g)
  (ht:∀(x:Env) (w:World) (G:List Nat) (aU:List Value),Fr J y G w->fG G w->T.getD b.length (λ_ _ _=>True) G aU w->aU.length=b.length->yL q c G aU w (List.range m) λacc=>OW P n l.toArray N (l.drop m) (ba (aZ W x C) acc) w):
  CW P n (.region id l.toArray true) N R X C y:=λa ha=>by
 refine wp_region_any hm ?_;have gK:ak [] y {y with drawn:=y.drawn+1}:=ak.drew _ _;obtain⟨_,_,_,jw,mM⟩:=F4 hB;obtain⟨L,lQ⟩:=aiR hE;have dz:∀i j,i<m->j<m->i≠j->c.getD j 0≠c.getD i 0:=λi j hi f mN=>by rw[gG,gG,gE om,gE om];simp only[Option.getD_some];intro V;exact mN ((List.getElem_inj jw).1 V.symm)
 let Inv:(Nat->Bool)->Env->World->Prop:=λS e w=>∃G k,eP W C e/\Fr J y G w/\fG G w/\k<=b.length/\(∀t,t<b.length->(S (b.getD t 0)=true↔t<k))/\
  T.getD k (λ_ _ _=>True) G ((b.take k).map λi=>e<|c.getD i 0) w/\∀i,i<m->S i=true->(q.getD i nS).F G (e<|c.getD i 0) w
 have IN:∀(S:Nat->Bool) (e:Env) (k:Nat),(∀t,t<b.length->(S (b.getD t 0)=true↔t<k))->k<=b.length->∀j t,j<m->S j=true->(q.getD j nS).lq=some t->((b.take k).map λi=>e<|c.getD i 0).getD t undef=e (c.getD j 0):=by intro S e k A hk j t f F V;obtain⟨r,s⟩:=lQ j t f V;have K:t<k:=(A t r).1 (by rw[s];exact F);rw[gG,List.getElem?_map,List.getElem?_take,iP K,gE r];rw[gG,gE r] at s;simp only[Option.getD_some] at s;simp[s]
 have step:∀(S:Nat->Bool) (e:Env) (w:World) (i:Nat) (o:Oper),i<m->l[i]?=some o->S i=false->(∀j,waits o j=true->S j=true)->Inv S e w->
   OW P n l.toArray (λp w'=>Inv (λj=>if j=i then true else S j) p w') [o] e w:=by
  rintro S e w i o sy Z we Cj ⟨G,k,rF,bL,qW,il,A,xI,qf⟩;obtain⟨hW,BI⟩:=(mM i o Z).2.1 sy;obtain⟨dp,BJ⟩:∃d,g[i]?=some d:=⟨g[i]'om,gE om⟩;have DJ:g.getD i []=dp:=by rw[gG,BJ];rfl
  rw[DJ] at BI;have E:=Wr (l.take m) g 0 hc i o dp (by rw[List.getElem?_take,iP sy];exact Z) BJ;rw[Nat.zero_add] at E;have hd:∀j∈dp,(q.getD j nS).F G (e (c.getD j 0)) w/\∀t,(q.getD j nS).lq=some t->((b.take k).map λi=>e<|c.getD i 0).getD t undef=e (c.getD j 0):=λj f=>by obtain⟨r,s⟩:=BI j f;exact⟨qf j s<|Cj j r,λt D=>IN S e k A il j t s (Cj j r) D⟩
  have IP:∀p,eP [c.getD i 0] e p->eP W C p:=λp h t Ea=>by
   have GA:t≠c.getD i 0:=λV=>by rw[V,hW] at Ea;cases Ea
   rw[h t (by simpa using GA)];exact rF t Ea
  have Ck:∀p,eP [c.getD i 0] e p->∀j,j<m->j≠i->p (c.getD j 0)=e (c.getD j 0):=λp h j f B=>h _ (by simpa using dz i j sy f λh=>B h.symm);have gq:[o]=[o]++[]:=rfl;cases O:(q.getD i nS).lq with
  |none=>
   unfold Gy at E;rw[O] at E;have r:=Cf (E e w G _ bL qW) (vs:=λj=>e<|c.getD j 0) hd;rw[Ci rF] at r;rw[gq];refine yx r ?_;rintro p w' ⟨qJ,Ap,H⟩;refine aV ⟨G,k,IP p H,bL.ext qJ,λx hx=>lL (qW x hx) qJ.size,il,λt z=>?_,?_,λj f F=>?_⟩
   .have I:b.getD t 0≠i:=λh=>by have:=(L t z).2.1;rw[h,O] at this;cases this
    simp only[iN I];exact A t z
   .have U:((b.take k).map λi=>p<|c.getD i 0)=(b.take k).map λi=>e (c.getD i 0):=by
     apply List.map_congr_left;intro j f;obtain⟨t,v⟩:=List.mem_iff_getElem?.1 f;rw[List.getElem?_take] at v;split at v
     .have z:t<b.length:=(List.getElem?_eq_some_iff.1 v).1;have xj:b.getD t 0=j:=by rw[gG,v];rfl
      have K:=L t z;rw[xj] at K;exact Ck p H j K.1 λh=>by rw[h,O] at K;cases K.2.1
     .cases v
    rw[U];exact IM hJ k xI qJ
   .by_cases B:j=i
    .rw[B];exact Ap
    .simp only[iN B] at F;rw[Ck p H j f B];exact Ws hF j (qf j f F)<|Fr.of qJ sm
  |some t=>
   unfold Gy at E;rw[O] at E;obtain⟨z,I⟩:=lQ i t sy O;have rU:k=t:=by
    have r:¬t<k:=λh=>by have:=(A t z).2 h;rw[I,we] at this;cases this
    rcases Nat.eq_zero_or_pos t with h0|h0
    .omega
    .obtain⟨_,ou,IQ⟩:=(L t z).2.2 om;rw[I,Z] at ou;cases ou;have:=(A (t-1) om).1<|Cj _ IQ;omega
   subst rU;have Y:((b.take k).map λi=>e<|c.getD i 0).length=k:=by simp;omega
   have r:=Cf (E e w G _ bL qW xI Y) (vs:=λj=>e<|c.getD j 0) hd;rw[Ci rF] at r;rw[gq];refine yx r ?_;rintro p w' ⟨⟨G',yM,Eb,GB,Ap⟩,H⟩;have IS:∀u,u<b.length->b.getD u 0=i->u=k:=λu r s=>by have:=(L u r).2.1;rw[s,O] at this;cases this;rfl
   refine aV ⟨G',k+1,IP p H,bL.go yM,Eb,om,λu Q=>?_,?_,λj f F=>?_⟩
   .by_cases s:b.getD u 0=i
    .have:=IS u Q s;simp only[iP s];exact⟨λ_=>om,λ_=>trivial⟩
    .simp only[iN s];rw[A u Q];have:u≠k:=λh=>by rw[h] at s;exact s I
     omega
   .have U:((b.take<|k+1).map λi=>p<|c.getD i 0)=((b.take k).map λi=>e<|c.getD i 0)++[p (c.getD i 0)]:=by
     have s:b[k]?=some i:=by rw[gG,gE z] at I;rw[gE z];simpa using I
     rw[List.take_add_one,s,List.map_append]
     congr 1
     apply List.map_congr_left;intro j f;obtain⟨u,v⟩:=List.mem_iff_getElem?.1 f;rw[List.getElem?_take] at v;split at v
     .rename_i eI;have Q:u<b.length:=(List.getElem?_eq_some_iff.1 v).1;have xj:b.getD u 0=j:=by rw[gG,v];rfl
      exact Ck p H j (by have:=(L u Q).1;rw[xj] at this;exact this) λh=>by have:=IS u Q<|xj.trans h;omega
     .cases v
    rw[U];exact GB
   .by_cases B:j=i
    .rw[B];exact Ap
    .simp only[iN B] at F;rw[Ck p H j f B];exact Ws hF j (qf j f F) yM
 have tail:∀(S:Nat->Bool) (e:Env) (w:World),(∀i,i<m->S i=true)->Inv S e w->OW P n l.toArray N (l.drop m) e w:=by
  rintro S e w Cm ⟨G,k,rF,bL,qW,il,A,xI,qf⟩;have hk:k=b.length:=by
   rcases Nat.lt_or_ge k b.length with h|h
   .have:=(A k h).1<|Cm _ (L k h).1;omega
   .omega
  subst hk;have r:=Cf (ht e w G _ bL qW xI sm) (vs:=λj=>e<|c.getD j 0) (λj f=>by have M:=List.mem_range.1 f;exact⟨qf j M<|Cm j M,λt D=>IN S e _ A il j t M (Cm j M) D⟩);rw[Ci rF] at r;exact r
 have jq:∀j,(Array.replicate l.length false).getD j false=false:=λj=>by rw[Array.getD_eq_getD_getElem?,Array.getElem?_replicate];split<;>rfl
 have PQ:Inv (λj=>(Array.replicate l.length false).getD j false) C {y with drawn:=y.drawn+1}:=by
  refine⟨J,0,zX,Fr.of gK sm,λx hx=>hL x hx,Nat.zero_le _,λt z=>?_,IM hJ 0 h0 gK,λi hi we=>?_⟩
  .constructor
   .intro h;exact absurd ((jq (b.getD t 0)).symm.trans h) sm
   .intro h;omega
  .exact absurd ((jq i).symm.trans we) sm
 have:=Wp (N:=N) (Inv:=Inv) hB step tail (mm n N R X) l.length (Array.replicate l.length false) C a _ ha sm
  (by
   have:((List.range l.length).filter λj=>!(Array.replicate l.length false).getD j true)=List.range l.length:=by rw[List.filter_eq_self];intro j f;rw[List.mem_range] at f;simp[Array.getD_eq_getD_getElem?,f]
   rw[this];simp)
  (by intro j _ f;simp[Array.getD_eq_getD_getElem?,f])
  PQ
  (by intro j o Z f;have M:j<l.length:=(List.getElem?_eq_some_iff.1 Z).1;simp[Array.getD_eq_getD_getElem?,M] at f)
 have U:qE n N (mm n N R X)=mm n N R X:=by funext x a w;cases x<;>rfl
 rw[U] at this;simpa using this
end
section
variable {P:Program} {n:Nat} {ops:Array Oper} {e:Env} {w w':World} {G:List Nat}
theorem fv (h:v=V:=by rfl):OW P n ops (λa w'=>ak [] w w'/\(Ie.v V).F G (a d) w'/\eP [d] e a) [] (bX e (some d) v) w:=
 aV ⟨ak.refl _ _,by subst h;exact nI _ _ _,qH⟩
theorem fk (k:ak [] w w') (h:v=V:=by rfl):OW P n ops (λa w'=>ak [] w w'/\(Ie.v V).F G (a d) w'/\eP [d] e a) [] (bX e (some d) v) w':=
 aV ⟨k,by subst h;exact nI _ _ _,qH⟩
theorem ff {f:List Nat->Value->World->Prop} (k:ak [] w w') (h:f G v w'):OW P n ops (λa w'=>ak [] w w'/\(Ie.p f).F G (a d) w'/\eP [d] e a) [] (bX e (some d) v) w':=
 aV ⟨k,by show f G (iZ e d v d) w';rw[nI];exact h,qH⟩
theorem fe {t:Nat} {aU:List Value} (a:List Nat) (k:Fr G w a w') (c:fG a w') (h:J a (aU++[v]) w'):OW P n ops (λb w'=>(∃a,Fr G w a w'/\fG a w'/\J a (aU++[b d]) w'/\(Ie.e t).F a (b d) w')/\eP [d] e b) [] (bX e (some d) v) w':=
 aV ⟨⟨a,k,c,by show J a (aU++[iZ e d v d]) w';rw[nI];exact h,trivial⟩,qH⟩
theorem fw {t:Nat} {aU:List Value} (a:List Nat) (k:Fr G w a w') (c:fG a w') (h:J a (aU++[v]) w') (f:v=V:=by rfl):OW P n ops (λb w'=>(∃a,Fr G w a w'/\fG a w'/\J a (aU++[b d]) w'/\(Ie.w t V).F a (b d) w')/\eP [d] e b) [] (bX e (some d) v) w':=
 aV ⟨⟨a,k,c,by show J a (aU++[iZ e d v d]) w';rw[nI];exact h,by subst f;exact nI _ _ _⟩,qH⟩
theorem fq {t:Nat} {f:Value->Prop} {aU:List Value} (a:List Nat) (k:Fr G w a w') (c:fG a w') (h:J a (aU++[v]) w') (g:f v):OW P n ops (λb w'=>(∃a,Fr G w a w'/\fG a w'/\J a (aU++[b d]) w'/\(Ie.q t f).F a (b d) w')/\eP [d] e b) [] (bX e (some d) v) w':=
 aV ⟨⟨a,k,c,by show J a (aU++[iZ e d v d]) w';rw[nI];exact h,by show f (iZ e d v d);rw[nI];exact g⟩,qH⟩
end
end Go.Proofs.YtcildnfcpkpomaaGreatDoor
