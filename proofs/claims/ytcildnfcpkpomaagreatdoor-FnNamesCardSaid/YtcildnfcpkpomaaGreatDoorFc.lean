/- Lemmas for the law FnNames, no statement of their own: no conditions. -/
import Derived.Test.YtcildnfcpkpomaaGreatDoorFb
set_option maxHeartbeats 4000000
set_option linter.unusedVariables false
set_option linter.unusedSimpArgs false
namespace Go.Proofs.YtcildnfcpkpomaaGreatDoor
open Go
variable {h s x:aj} {p t:aq} {ps ts:List aq} {b d i k m m' off sz:Nat} {c:UInt8} {G L L' L1:List Nat} {w w' w1 w2:World} {V v v1 v3 v4 v5 v6 v8:Value} {vs:List Value} {xs:List aj} {g:Option Nat} {rows:List (List C)} {J:List Nat->List Value->World->Prop}
theorem ahh (n:Nat):(aS n).all fj=true:=by
 induction n using Nat.strongRecOn with
 |_ n b=>
  have a:∀k,k<10->fj (UInt8.ofNat (48+k))=true:=by decide
  unfold aS;by_cases h:n<10
  .rw[iP h,List.all_cons,a n h];rfl
  .rw[iN h,List.all_append,b (n/10) om,List.all_cons,a (n%10) om];rfl
theorem ahi (n:Nat):Good (bJ (97::aS n)):=.au _ sm (by rw[List.all_cons,ahh];decide)
section
variable {p:List cW} {st:TS} {o:Nat} {t:aq}
theorem step_ok (Y:Bw p) (g:wU st) (N:st.length=40) (hg:Good t) (T:mz t=true) {b:TS} (h:stepT p st o t=some b):wU b/\b.length=40:=by
 obtain⟨V,A,U⟩:=FD T;have Z:gO (nth t.ag 1).au<st.length:=by
  rw[N];unfold gO tW;cases numeral (nth t.ag 1).au with
  |none=>decide
  |some z=>
   by_cases P:0<=z/\z<=39
   .simp only[P,and_self,if_true];omega
   .simp only[P,if_false];decide
 have set:∀{u:Option aq},(∀y,u=some y->Good y/\nZ y)->eR st (gO (nth t.ag 1).au) u=some b->wU b/\b.length=40:=fun{u} hu hs=>by obtain⟨X,R⟩:=ahb g Z hu hs;exact⟨X,R.trans N⟩
 have c:some st=some b->wU b/\b.length=40:=λe=>by cases e;exact⟨g,N⟩
 have d:∀{q:Nat},eQ st (nth t.ag q).au=none\/∃x,eQ st (nth t.ag q).au=some x:=fun{q}=>by cases eQ st (nth t.ag q).au<;>simp
 cases hk:gQ st (er (bz t) t.ag.length) t.ag (er (bz t) t.ag.length).length with
 |none=>rw[U5 T hk] at h;cases h
 |some xs=>
  by_cases c1:bz t=[99,111,110,115,116]
  .rw[UW c1] at h;exact set (λy e=>by cases e;exact⟨Dw.fE,Dw.eok⟩) h
  by_cases c2:bz t=[109,111,118]
  .rcases d (q:=2) with a|⟨x,a⟩
   .simp[stepT,nC,c2,a,eR] at h
   .rw[UX c2 a] at h;exact set (λy e=>by cases e;exact⟨(FC g a).fE,(FC g a).eok⟩) h
  by_cases D:bz t=[97,100,100]\/bz t=[115,117,98]\/bz t=[109,117,108]
  .rcases d (q:=2) with a|⟨x,a⟩
   .rcases D with j|j|j<;>simp[stepT,nC,j,a,eR,sV] at h
   .rcases d (q:=3) with O|⟨y,O⟩
    .rcases D with j|j|j<;>simp[stepT,nC,j,a,O,eR,sV] at h
    .rw[UY D a O] at h;split at h
     .exact set (λy e=>by cases e;exact⟨Dw.fE,Dw.eok⟩) h
     .cases h
  by_cases I:bz t=[110,101,119]
  .cases M:nA st (t.ag.drop 2) with
   |none=>rw[U0 I M] at h;cases h
   |some _=>rw[UZ I M] at h;have n:=(UT g M).2;exact set (λy e=>by cases e;exact⟨Ky de de λt l=>(n t l).fE,UR de λt l=>(n t l).eok⟩) h
  by_cases r:bz t=[103,101,116]
  .rcases d (q:=2) with a|⟨x,a⟩
   .simp[stepT,nC,r,a,eR] at h
   .rw[OH r a] at h;split at h
    .rename_i S;have P:0<=wP (nth t.ag 3).au:=by
      have s:=U 2 (by simp[er,r]);rw[show(er (bz t) t.ag.length).getD 2 0=109 from by simp[er,r]] at s;have v:((numeral (nth t.ag 3).au).isSome&&decide (0<=(numeral (nth t.ag 3).au).getD 0))=true:=by rw[<-N8];exact s
      rw[aE,dE] at v;exact v.2
     have E:=FC g a;have B:=E.nth (i:=(wP (nth t.ag 3).au+1).toNat) om;exact set (λy e=>by cases e;exact⟨B.fE,B.eok⟩) h
    .cases h
  by_cases J:bz t=[108,97,98]
  .cases f:bT p (nth t.ag 2).au with
   |none=>rw[HW J f] at h;cases h
   |some C=>rw[HW J f] at h;have n:=(OF Y f).2;exact set (λy e=>by cases e;exact⟨Ky de de λt l=>(n t l).fE,UR de λt l=>(n t l).eok⟩) h
  by_cases m:bz t=[112,97,99,107]
  .rcases d (q:=2) with a|⟨x,a⟩
   .simp[stepT,nC,m,a,eR] at h
   .rw[U1 m a] at h;split at h
    .have OK:t.ag.length=5:=by rw[A];simp[er,m]
     have s:=U 2 (by simp[er,m]);rw[show(er (bz t) t.ag.length).getD 2 0=69 from by simp[er,m]] at s;have v:((decide ((nth t.ag 3).ag.length=2)&&decide (bz (nth t.ag 3)=[101]))&&fR false (nth t.ag 3))=true:=by rw[<-N9];exact s
     rw[aE] at v;have Q:=hg.nth (i:=3) om;exact set (λy e=>by cases e;exact⟨Q,UQ Q.wf _ v.2⟩) h
    .cases h
  by_cases K:bz t=[111,112,101,110]
  .rcases d (q:=2) with a|⟨x,a⟩
   .simp[stepT,nC,K,a,eR] at h
   .rw[OI K a] at h;split at h
    .rename_i S;have E:=FC g a;have R:=E.eok.two S;have B:=E.nth (i:=1) om;exact set (λy e=>by cases e;exact⟨Oh (ahi o) B.fE,ag7 (.au _) (by intro h;cases h) B.eok⟩) h
    .cases h
  by_cases L:bz t=[122,101,114,111]
  .rcases d (q:=1) with a|⟨x,a⟩
   .simp[stepT,L,a,sV] at h
   .rw[U2 L a] at h;cases f:bT p (nth t.ag 2).au with
    |none=>rw[f] at h;cases h
    |some C=>
     rw[f,Option.bind_some] at h;split at h
     .exact c h
     .cases h
  by_cases F:bz t=[106,117,109,112]
  .rcases d (q:=1) with a|⟨x,a⟩
   .simp[stepT,F,a] at h
   .rw[U3 F a] at h;split at h
    .exact c h
    .cases h
  have H:bz t=[104,97,108,116]:=Classical.byContradiction λf=>V (by simp[er,c1,c2,D,I,r,J,m,K,L,F,f]);rw[U4 H] at h;rcases d (q:=1) with a|⟨x,a⟩
  .rw[a] at h;cases h
  .rw[a] at h;exact c h
end
/-! ### Blocks -/
structure zI (b:cW):Prop where
 regs:b.regs.length<=40
 rok:∀t∈b.regs,sd t
 code:b.code.length<=80
 cok:∀t∈b.code,zD t/\Good t/\mz t=true
theorem ahk (h:bS s=some t) (e:fR false t=true):sd t:=by obtain⟨a,b,c,d⟩:=xW h;refine⟨a,?_,UQ a.wf _ e⟩;unfold sU;rw[aE,dE,dE,Dq a.wf,c];exact⟨b,d⟩
theorem OL {b:Bk} (h:my b=true):zI (dM b):=by
 obtain⟨_,f,g⟩:=Of h;unfold my at h;simp only[aE,dE] at h;refine⟨by simp[dM];omega,λt e=>?_,by simp[dM];omega,λt e=>?_⟩
 .obtain⟨s,d,rfl⟩:=List.mem_map.1 e;obtain⟨u,a,c⟩:=f s d;rw[Oe a];exact ahk a c
 .obtain⟨s,d,rfl⟩:=List.mem_map.1 e;obtain⟨u,a,c⟩:=g s d;rw[Oe a];exact⟨adx a,(xW a).1,by rw[T9];exact c⟩
theorem HX {bs:List Bk} (h:ia bs=true):Bw (bs.map dM)/\∀b,b∈bs.map dM->zI b:=by
 have hb:=HJ h;have c:∀b,b∈bs.map dM->zI b:=λb a=>by obtain⟨k,hk,rfl⟩:=List.mem_map.1 a;exact OL<|hb k hk
 refine⟨⟨?_,λb a=>⟨(c b a).regs,(c b a).rok⟩⟩,c⟩;unfold ia at h;simp only[aE,dE] at h;simp;omega
theorem ahl {b:cW} (h:zI b):wU (Br b)/\(Br b).length=40:=by
 refine⟨λi t a=>?_,by simp[Br]⟩;unfold Br at a;rw[gG,List.getElem?_map] at a;by_cases c:i<40
 .rw[List.getElem?_range c] at a;simp only[Option.map_some,Option.getD_some] at a;split at a
  .rename_i hb;cases a;exact h.rok _ (List.mem_of_getElem?<|ew hb)
  .cases a
 .rw[List.getElem?_eq_none (by simpa using c)] at a;cases a
theorem U9 {p:List cW} {a:TS} {o:Nat} (h:stepT p a o t=none):(wQ p a o (t::ts)).2=0:=by unfold wQ;rw[h]
theorem Va {p:List cW} {b a:TS} {o:Nat} (h:stepT p b o t=some a):(wQ p b o (t::ts)).2=(wQ p a (sW o t) ts).2+1:=by
 conv=>lhs;unfold wQ
 rw[h]
theorem ahm (h:i<ts.length):ts.drop i=nth ts i::ts.drop (i+1):=by rw[wL h,List.drop_eq_getElem_cons h]
theorem ahn (h:Good t):t.text≠[]:=by grind [Uh]
structure FE (s:aj) (t:aq):Prop where
 some:∀t',bS s=some t'->t=t'
 none:s=[]->bz t=[]
theorem Vb:bS []=none:=by decide
/-! ### Types -/
inductive Ty where
 |i
 |op (f:Bool) (a b:Ty)
def kJ (f:Bool):aj:=if f then[62] else[42]
def Ty.av:Ty->aq
 | .i=>bJ [105]
 | .op f a b=>.mk [] [bJ<|kJ f,a.av,b.av]
def Ty.text (t:Ty):aj:=t.av.text
def Ty.n:Ty->Nat
 | .i=>1
 | .op _ a b=>1+a.n+b.n
theorem aho (f:Bool):Good (bJ<|kJ f):=by cases f<;>exact .au _ de de
theorem Ty.fE (t:Ty):Good t.av:=by
 induction t with
 |i=>exact .au _ de de
 |op f a b c d=>
  refine .list _ sm λp e=>?_;simp only[mC,List.not_mem_nil,or_false] at e;rcases e with rfl|rfl|rfl
  .exact aho f
  .exact c
  .exact d
theorem ahp (f:Bool):(bJ<|kJ f).text=kJ f:=by cases f<;>exact r7 de
theorem Ty.OM:Ty.i.text=[105]:=r7 de
theorem Ty.KP (f:Bool) (a b:Ty):(Ty.op f a b).text=40::(kJ f++32::(a.text++32::(b.text++[41]))):=by show(aq.mk [] [bJ<|kJ f,a.av,b.av]).text=_;rw[sS,rl,rl,rk,ahp];simp[Ty.text]
theorem OO (f:Bool):(kJ f).length=1:=by cases f<;>rfl
theorem Ty.pos (t:Ty):1<=t.n:=by cases t<;>simp[Ty.n];omega
theorem Ty.len (t:Ty):t.text.length+3<=4*t.n:=by induction t<;>grind [Ty.OM,Ty.n,Ty.KP,OO]
theorem Ty.deep (t:Ty):t.av.depth+1<=t.n:=by
 induction t with
 |i=>simp[Ty.av,bJ,aq.depth,aq.depth.deeps,Ty.n]
 |op f a b _ _=>have c:(bJ<|kJ f).depth=0:=rfl;have d:=a.pos;have e:=b.pos;show aq.depth.deeps [bJ<|kJ f,a.av,b.av]+1<=_;simp only[aq.depth.deeps,c,Ty.n];omega
theorem Ty.size (t:Ty):t.av.size<=5*t.n:=by
 induction t with
 |i=>simp[Ty.av,bJ,aq.size,aq.size.sizes,Ty.n]
 |op f a b _ _=>
  have c:(bJ<|kJ f).size=2:=by cases f<;>rfl
  show 1+0+aq.size.sizes [bJ<|kJ f,a.av,b.av]<=_;simp only[aq.size.sizes,c,Ty.n];omega
theorem Ty.bS {t:Ty} (h:t.n<=60):bS t.text=some t.av:=Od t.fE (by have:=t.deep;omega) (by have:=t.len;show t.text.length<=_;omega)
theorem Ty.ne (t:Ty):t.text≠[]:=ahn t.fE
theorem HY:∀{t u:Ty},t.av=u.av->t=u
 | .i,.i,_=>rfl
 | .i,.op _ _ _,h=>by simp[Ty.av,bJ] at h
 | .op _ _ _,.i,h=>by simp[Ty.av,bJ] at h
 | .op f a b,.op g c d,h=>by simp only[Ty.av,aq.mk.injEq,true_and,List.cons.injEq,and_true] at h;obtain⟨e,i,j⟩:=h;rw[HY i,HY j];cases f<;>cases g<;>first|rfl|(simp[bJ,kJ] at e)
theorem Ty.inj {t u:Ty} (h:t.text=u.text):t=u:=HY (Kx t.fE u.fE h)
/-! ### Forms that are types -/
mutual
def gk:aq->Nat
 | .mk a ps=>if a≠[] then 1 else kh ps
def kh:List aq->Nat
 |[]=>0
 |t::ts=>gk t+kh ts
end
theorem Vc:∀(xs a:List aq),kh (xs++a)=kh xs+kh a:=by intro x;induction x<;>grind [kh]
theorem OP (t:aq):gk t=if t.au≠[] then 1 else kh t.ag:=by cases t with|mk a ps=>rw[gk];rfl
theorem Vd (h:ps[i]?=some p):kh (ps.take<|i+1)=kh (ps.take i)+gk p:=by rw[List.take_add_one,h,Vc];simp[kh]
mutual
theorem ahq:∀t:aq,gk t<=t.size
 | .mk a ps=>by have:=OQ ps;unfold gk;simp only[aq.size];split<;>omega
theorem OQ:∀ps:List aq,kh ps<=aq.size.sizes ps
 |[]=>by simp[kh]
 |t::ts=>by have a:=ahq t;have b:=OQ ts;simp only[kh,aq.size.sizes];omega
end
theorem OR {a:aj} (h:a≠[]):gk (bJ a)=1:=by simp[gk,bJ,h]
theorem Ty.gk (t:Ty):gk t.av=t.n:=by
 induction t with
 |i=>simp[Ty.av,OR,Ty.n]
 |op f a b c d=>have e:Go.Proofs.YtcildnfcpkpomaaGreatDoor.gk (bJ<|kJ f)=1:=OR (by cases f<;>decide);show Go.Proofs.YtcildnfcpkpomaaGreatDoor.gk (.mk [] [bJ<|kJ f,a.av,b.av])=_;simp only[Go.Proofs.YtcildnfcpkpomaaGreatDoor.gk,kh,e,c,d,Ty.n];simp;omega
mutual
def pS:aq->Bool
 | .mk a ps=>if a≠[] then decide (a=[105]) else ua ps
def ua:List aq->Bool
 |[h,x,y]=>(decide (h.au=[62])||decide (h.au=[42]))&&(pS x&&pS y)
 |_=>false
end
theorem Ve (t:aq):pS t=if t.au≠[] then decide (t.au=[105]) else ua t.ag:=by cases t with|mk a ps=>rw[pS];rfl
theorem ahr (c:WF t):pS t=true↔∃u:Ty,t=u.av:=by
 constructor
 .intro h;have o:∀m (t:aq),t.size<=m->WF t->pS t=true->∃u:Ty,t=u.av:=by
   intro m;induction m with
   |zero=>intro t _;have:=r5 t;omega
   |succ m q=>
    intro t z c h;cases c with
    |au a p=>simp only[pS,iP p,dE] at h;exact⟨.i,by rw[h];rfl⟩
    |list ps _ c=>
     simp only[pS] at h;rw[iN de] at h
     match ps,h with
     |[g,x,y],h=>
      simp only[ua,aE,oE,dE] at h;obtain⟨d,A,B⟩:=h;simp only[aq.size,aq.size.sizes] at z;obtain⟨u,rfl⟩:=q x om (c x sm) A;obtain⟨v,rfl⟩:=q y om (c y sm) B;have r:∀s:aj,s≠[]->g.au=s->g=bJ s:=λs C e=>by
       have j:=c g sm;cases j with
       |au a p=>cases e;rfl
       |list _ _ _=>exact absurd e.symm C
      rcases d with d|d
      .exact⟨.op true u v,by rw[r _ de d];rfl⟩
      .exact⟨.op false u v,by rw[r _ de d];rfl⟩
  exact o t.size t (lR _) c h
 .rintro⟨u,rfl⟩;induction u with
  |i=>rfl
  |op f a b l n=>show pS (.mk [] [bJ<|kJ f,a.av,b.av])=true;have:=l a.fE.wf;have:=n b.fE.wf;simp only[pS,ua, *];cases f<;>simp[bJ,kJ,aq.au]
def kK (t:aq):Bool:=pS t&&decide (gk t<=16)
theorem Bx (a:WF t):kK t=true↔∃u:Ty,t=u.av/\u.n<=16:=by
 unfold kK;rw[aE,dE,ahr a];constructor
 .rintro⟨⟨u,rfl⟩,h⟩;exact⟨u,rfl,by rw[<-u.gk];exact h⟩
 .rintro⟨u,rfl,h⟩;exact⟨⟨u,rfl⟩,by rw[u.gk];exact h⟩
/-! ### Names -/
def ey (s:aj):Bool:=decide (1<=s.length)&&decide (s.length<=4)&&(decide (97<=s.getD 0 0)&&decide (s.getD 0 0<=122))&&(s.drop 1).all iU
def rp (s:aj):Bool:=(numeral s).isSome||ey s
theorem wV (h:ey s=true):s≠[]:=by grind [ey]
/-! ### Expressions -/
inductive Ex where
 |at(s:aj)
 |un (h:aj) (a:Ex)
 |bi (h:aj) (a b:Ex)
 |ite (a b c:Ex)
 |lt (x:aj) (a b:Ex)
 |fn (f x:aj) (A B:Ty) (e:Ex)
abbrev il:aj:=[105,102]
abbrev gR:aj:=[108,101,116]
abbrev iC:aj:=[102,117,110]
abbrev Dy:aj:=[102,115,116]
abbrev se:aj:=[115,110,100]
abbrev kX:aj:=[99,97,108,108]
abbrev zJ:aj:=[112,97,105,114]
def Ex.av:Ex->aq
 | .at s=>bJ s
 | .un h a=>.mk [] [bJ h,a.av]
 | .bi h a b=>.mk [] [bJ h,a.av,b.av]
 | .ite a b c=>.mk [] [bJ il,a.av,b.av,c.av]
 | .lt x a b=>.mk [] [bJ gR,bJ x,a.av,b.av]
 | .fn f x A B e=>.mk [] [bJ iC,bJ f,bJ x,A.av,B.av,e.av]
def gS (h:aj):Bool:=decide (h=Dy)||decide (h=se)
def iD (h:aj):Bool:=decide (h=[43])||decide (h=[45])||decide (h=[42])||decide (h=kX)||decide (h=zJ)
def Ex.ok:Ex->Prop
 | .at s=>rp s=true
 | .un h a=>gS h=true/\a.ok
 | .bi h a b=>iD h=true/\a.ok/\b.ok
 | .ite a b c=>a.ok/\b.ok/\c.ok
 | .lt x a b=>ey x=true/\a.ok/\b.ok
 | .fn f x A B e=>ey f=true/\ey x=true/\f≠x/\A.n<=16/\B.n<=16/\e.ok
def Ex.n:Ex->Nat
 | .at _=>1
 | .un _ a=>1+a.n
 | .bi _ a b=>1+a.n+b.n
 | .ite a b c=>1+a.n+b.n+c.n
 | .lt _ a b=>2+a.n+b.n
 | .fn _ _ A B e=>3+A.n+B.n+e.n
mutual
def dZ:aq->Bool
 | .mk a ps=>if a≠[] then rp a else oJ ps
def oJ:List aq->Bool
 |[h,a]=>gS h.au&&dZ a
 |[h,a,b]=>iD h.au&&(dZ a&&dZ b)
 |[h,a,b,c]=>if h.au=il then dZ a&&(dZ b&&dZ c) else if h.au=gR then ey a.au&&(dZ b&&dZ c) else false
 |[h,f,x,A,B,e]=>decide (h.au=iC)&&(ey f.au&&ey x.au&&decide (f.au≠x.au)&&kK A&&kK B&&dZ e)
 |_=>false
end
theorem By (c:WF t) (b:s≠[]) (e:t.au=s):t=bJ s:=by
 cases c with
 |au a _=>cases e;rfl
 |list _ _ _=>exact absurd e.symm b
theorem Vf (k:gS h=true):h≠[]:=by rintro rfl;cases k
theorem Vg (k:iD h=true):h≠[]:=by rintro rfl;cases k
theorem qy (k:rp s=true):s≠[]:=by rintro rfl;cases k
theorem aht (d:WF t):dZ t=true↔∃e:Ex,t=e.av/\e.ok:=by
 constructor
 .intro h;have M:∀m (t:aq),t.size<=m->WF t->dZ t=true->∃e:Ex,t=e.av/\e.ok:=by
   intro m;induction m with
   |zero=>intro t _;have:=r5 t;omega
   |succ m j=>
    intro t D d h;cases d with
    |au a P=>simp only[dZ,iP P] at h;exact⟨.at a,rfl,h⟩
    |list ps _ d=>
     simp only[dZ] at h;rw[iN de] at h
     match ps,h with
     |[n,x],h=>simp only[oJ,aE] at h;simp only[aq.size,aq.size.sizes] at D;obtain⟨u,rfl,o⟩:=j x om (d x sm) h.2;exact⟨.un n.au u,by rw[By (d n sm) (Vf h.1) rfl];rfl,h.1,o⟩
     |[n,x,y],h=>simp only[oJ,aE] at h;simp only[aq.size,aq.size.sizes] at D;obtain⟨u,rfl,o⟩:=j x om (d x sm) h.2.1;obtain⟨v,rfl,r⟩:=j y om (d y sm) h.2.2;exact⟨.bi n.au u v,by rw[By (d n sm) (Vg h.1) rfl];rfl,h.1,o,r⟩
     |[n,x,y,z],h=>
      simp only[oJ] at h;simp only[aq.size,aq.size.sizes] at D;split at h
      .rename_i p;simp only[aE] at h;obtain⟨u,rfl,o⟩:=j x om (d x sm) h.1;obtain⟨v,rfl,r⟩:=j y om (d y sm) h.2.1;obtain⟨q,rfl,K⟩:=j z om (d z sm) h.2.2;exact⟨.ite u v q,by rw[By (d n sm) de p];rfl,o,r,K⟩
      .split at h
       .rename_i p;simp only[aE] at h;obtain⟨v,rfl,r⟩:=j y om (d y sm) h.2.1;obtain⟨q,rfl,K⟩:=j z om (d z sm) h.2.2;exact⟨.lt x.au v q,by rw[By (d n sm) de p,By (d x sm) (wV h.1) rfl];rfl,h.1,r,K⟩
       .cases h
     |[n,f,x,A,B,e],h=>simp only[oJ,aE,dE] at h;simp only[aq.size,aq.size.sizes] at D;obtain⟨p,⟨⟨⟨⟨C,E⟩,F⟩,H⟩,I⟩,J⟩:=h;obtain⟨u,rfl,o⟩:=j e om (d e sm) J;obtain⟨Q,rfl,O⟩:=(Bx<|d A sm).1 H;obtain⟨R,rfl,N⟩:=(Bx<|d B sm).1 I;exact⟨.fn f.au x.au Q R u,by rw[By (d n sm) de p,By (d f sm) (wV C) rfl,By (d x sm) (wV E) rfl];rfl,C,E,F,O,N,o⟩
  exact M t.size t (lR _) d h
 .rintro⟨e,rfl,i⟩;clear d;induction e with
  |«at» s=>show dZ (.mk s [])=true;simp only[dZ];rw[iP (qy i)];exact i
  |un h a g=>show dZ (.mk [] [bJ h,a.av])=true;simp only[dZ];rw[iN de];simp only[oJ,aE];exact⟨i.1,g i.2⟩
  |bi h a b g l=>show dZ (.mk [] [bJ h,a.av,b.av])=true;simp only[dZ];rw[iN de];simp only[oJ,aE];exact⟨i.1,g i.2.1,l i.2.2⟩
  |ite a b c g l L=>show dZ (.mk [] [bJ il,a.av,b.av,c.av])=true;simp only[dZ];rw[iN de];simp only[oJ];rw[iP (show(bJ il).au=il from rfl)];simp only[aE];exact⟨g i.1,l i.2.1,L i.2.2⟩
  |lt x a b g l=>show dZ (.mk [] [bJ gR,bJ x,a.av,b.av])=true;simp only[dZ];rw[iN de];simp only[oJ];rw[iN<|show¬(bJ gR).au=il by decide,iP (show(bJ gR).au=gR from rfl)];simp only[aE];exact⟨i.1,g i.2.1,l i.2.2⟩
  |fn f x A B e j=>show dZ (.mk [] [bJ iC,bJ f,bJ x,A.av,B.av,e.av])=true;obtain⟨C,E,F,H,I,J⟩:=i;simp only[dZ];rw[iN de];simp only[oJ,aE,dE];exact⟨rfl,⟨⟨⟨⟨C,E⟩,F⟩,(Bx A.fE.wf).2 ⟨A,rfl,H⟩⟩,(Bx B.fE.wf).2 ⟨B,rfl,I⟩⟩,j J⟩
/-! ### Parts -/
def Ex.head:Ex->aj
 | .at _=>[]
 | .un h _=>h
 | .bi h _ _=>h
 | .ite _ _ _=>il
 | .lt _ _ _=>gR
 | .fn _ _ _ _ _=>iC
def Ex.from:Ex->Nat
 | .lt _ _ _=>2
 | .fn _ _ _ _ _=>5
 |_=>1
def Ex.kids:Ex->List Ex
 | .at _=>[]
 | .un _ a=>[a]
 | .bi _ a b=>[a,b]
 | .ite a b c=>[a,b,c]
 | .lt _ a b=>[a,b]
 | .fn _ _ _ _ e=>[e]
def Ex.binds:Ex->Nat->List aj
 | .lt x _ _,3=>[x]
 | .fn f x _ _ _,_=>[f,x]
 |_,_=>[]
def Ex.jl:Ex->Bool
 | .at _=>true
 |_=>false
def gH (e:Ex) (j:Nat):Ex:=e.kids.getD j<|.at []
theorem Ex.wf {e:Ex} (h:e.ok):Good e.av:=by
 have num:∀s:aj,rp s=true->s.all fj=true:=λs j=>by
  unfold rp at j;rw[oE] at j;have q:∀c:UInt8,iU c=true->fj c=true:=λc m=>by unfold iU at m;unfold fj;rw[m];simp
  rcases j with j|j
  .cases n:numeral s with
   |none=>rw[n] at j;cases j
   |some z=>
    unfold numeral at n;split at n
    .rename_i e;rw[e];decide
    .split at n
     .cases n
     .split at n
      .rename_i o;rw[List.all_eq_true] at o⊢;intro c m;unfold eX at o;split at o
       .rename_i u;cases s with
        |nil=>simp at u
        |cons d r=>
         simp only[List.getD_cons_zero,List.drop_succ_cons,List.drop_zero] at u o;rcases mC.1 m with rfl|m
         .rw[u.2];decide
         .exact q c<|o c m
       .exact q c<|o c m
      .cases n
  .cases s with
   |nil=>rfl
   |cons c r=>
    simp only[ey,aE,dE,List.getD_cons_zero,List.drop_succ_cons,List.drop_zero] at j;obtain⟨⟨_,D,E⟩,C⟩:=j;rw[List.all_cons,aE];refine⟨?_,?_⟩
    .unfold fj;simp[D,E]
    .rw[List.all_eq_true] at C⊢;exact λd t=>q d<|C d t
 have y:∀s:aj,ey s=true->Good (bJ s):=λs j=>.au _ (wV j)<|num s (by unfold rp;rw[j];simp);induction e with
 |«at» s=>exact .au _ (qy h)<|num s h
 |un t a g=>
  refine .list _ sm λp i=>?_;simp only[mC,List.not_mem_nil,or_false] at i;rcases i with rfl|rfl
  .obtain⟨k,_⟩:=h;simp only[gS,oE,dE] at k;rcases k with k|k<;>(rw[k];exact .au _ de de)
  .exact g h.2
 |bi t a b g l=>
  refine .list _ sm λp i=>?_;simp only[mC,List.not_mem_nil,or_false] at i;rcases i with rfl|rfl|rfl
  .obtain⟨k,_⟩:=h;simp only[iD,oE,dE] at k;rcases k with(((k|k)|k)|k)|k<;>(rw[k];exact .au _ de de)
  .exact g h.2.1
  .exact l h.2.2
 |ite a b c g l v=>
  refine .list _ sm λp i=>?_;simp only[mC,List.not_mem_nil,or_false] at i;rcases i with rfl|rfl|rfl|rfl
  .exact .au _ de de
  .exact g h.1
  .exact l h.2.1
  .exact v h.2.2
 |lt x a b g l=>
  refine .list _ sm λp i=>?_;simp only[mC,List.not_mem_nil,or_false] at i;rcases i with rfl|rfl|rfl|rfl
  .exact .au _ de de
  .exact y x h.1
  .exact g h.2.1
  .exact l h.2.2
 |fn f x A B e J=>
  refine .list _ sm λp i=>?_;simp only[mC,List.not_mem_nil,or_false] at i;obtain⟨H,I,_,_,_,F⟩:=h;rcases i with rfl|rfl|rfl|rfl|rfl|rfl
  .exact .au _ de de
  .exact y f H
  .exact y x I
  .exact A.fE
  .exact B.fE
  .exact J F
theorem Ex.ag {e:Ex} (h:e.jl=false):e.av.au=[]/\e.av.ag.length=e.from+e.kids.length/\(nth e.av.ag 0).au=e.head/\∀j,j<e.kids.length->nth e.av.ag (e.from+j)=(gH e j).av:=by
 cases e with
 |«at» s=>cases h
 |un g a=>exact⟨rfl,rfl,rfl,λj d=>by
  have:j=0:=by simp[Ex.kids] at d;omega
  subst this;rfl⟩
 |bi g a b=>refine⟨rfl,rfl,rfl,λj d=>?_⟩;simp only[Ex.kids,lC,List.length_nil] at d;rcases(show j=0\/j=1 by omega) with rfl|rfl<;>rfl
 |ite a b c=>refine⟨rfl,rfl,rfl,λj d=>?_⟩;simp only[Ex.kids,lC,List.length_nil] at d;rcases(show j=0\/j=1\/j=2 by omega) with rfl|rfl|rfl<;>rfl
 |lt x a b=>refine⟨rfl,rfl,rfl,λj d=>?_⟩;simp only[Ex.kids,lC,List.length_nil] at d;rcases(show j=0\/j=1 by omega) with rfl|rfl<;>rfl
 |fn f x A B e=>exact⟨rfl,rfl,rfl,λj d=>by
  have:j=0:=by simp[Ex.kids] at d;omega
  subst this;rfl⟩
theorem Ex.pos (e:Ex):1<=e.n:=by cases e<;>simp[Ex.n]<;>omega
theorem Ex.gk {e:Ex} (h:e.ok):gk e.av=e.n:=by
 have wW:∀s:aj,s≠[]->Go.Proofs.YtcildnfcpkpomaaGreatDoor.gk (bJ s)=1:=λs o=>OR o;have j:∀ps:List aq,Go.Proofs.YtcildnfcpkpomaaGreatDoor.gk (.mk [] ps)=kh ps:=λps=>by simp[Go.Proofs.YtcildnfcpkpomaaGreatDoor.gk]
 induction e with
 |«at» s=>exact wW s<|qy h
 |un i a d=>show Go.Proofs.YtcildnfcpkpomaaGreatDoor.gk (.mk [] [bJ i,a.av])=_;rw[j];simp only[kh,wW i<|Vf h.1,d h.2,Ex.n];omega
 |bi i a b d g=>show Go.Proofs.YtcildnfcpkpomaaGreatDoor.gk (.mk [] [bJ i,a.av,b.av])=_;rw[j];simp only[kh,wW i<|Vg h.1,d h.2.1,g h.2.2,Ex.n];omega
 |ite a b c d g l=>show Go.Proofs.YtcildnfcpkpomaaGreatDoor.gk (.mk [] [bJ il,a.av,b.av,c.av])=_;rw[j];simp only[kh,wW il de,d h.1,g h.2.1,l h.2.2,Ex.n];omega
 |lt x a b d g=>show Go.Proofs.YtcildnfcpkpomaaGreatDoor.gk (.mk [] [bJ gR,bJ x,a.av,b.av])=_;rw[j];simp only[kh,wW gR de,wW x<|wV h.1,d h.2.1,g h.2.2,Ex.n];omega
 |fn f x A B e q=>obtain⟨n,p,_,_,_,m⟩:=h;show Go.Proofs.YtcildnfcpkpomaaGreatDoor.gk (.mk [] [bJ iC,bJ f,bJ x,A.av,B.av,e.av])=_;rw[j];simp only[kh,wW iC de,wW f<|wV n,wW x<|wV p,A.gk,B.gk,q m,Ex.n];omega
theorem HZ {e:Ex} (h:e.ok) {j:Nat} (a:j<e.kids.length):(gH e j).ok/\(gH e j).n<e.n:=by cases e<;>grind [Ex.ok,gH,Ty.n,Ex.n,Ex.kids]
def eN (h:aj):Nat×Nat:=
 if iD h then(1,3) else if h=il then(1,4) else if h=gR then(2,4) else if h=iC then(5,6) else if gS h then(1,2) else(0,0)
theorem OT {e:Ex} (h:e.ok) (g:e.jl=false):eN e.head=(e.from,e.from+e.kids.length):=by
 cases e with
 |«at» s=>cases g
 |un d a=>obtain⟨k,_⟩:=h;simp only[gS,oE,dE] at k;rcases k with k|k<;>(subst k;rfl)
 |bi d a b=>show eN d=_;unfold eN;rw[h.1];rfl
 |ite a b c=>rfl
 |lt x a b=>rfl
 |fn f x A B e=>rfl
/-! ### Free aL -/
def Fv (x:aj):Ex->Prop
 | .at s=>s=x/\ey x=true
 | .un _ a=>Fv x a
 | .bi _ a b=>Fv x a\/Fv x b
 | .ite a b c=>Fv x a\/Fv x b\/Fv x c
 | .lt y a b=>Fv x a\/(x≠y/\Fv x b)
 | .fn f y _ _ e=>x≠f/\x≠y/\Fv x e
def dL:Ex->List aj->List aj->List aj
 | .at s,d,l=>if(!ey s||decide (s∈d)||decide (s∈l))=true then l else l++[s]
 | .un _ a,d,l=>dL a d l
 | .bi _ a b,d,l=>dL b d<|dL a d l
 | .ite a b c,d,l=>dL c d (dL b d<|dL a d l)
 | .lt x a b,d,l=>dL b (d++[x])<|dL a d l
 | .fn f x _ _ e,d,l=>dL e (d++[f,x]) l
theorem Dz (x:aj):∀(e:Ex) (a l:List aj),x∈dL e a l↔x∈l\/(Fv x e/\x∉a):=by intro x;induction x<;>grind [dL,Fv,ey]
theorem ahu:∀(e:Ex) (a l:List aj),l.Nodup->(dL e a l).Nodup:=by intro x;induction x<;>grind [dL]
theorem OU:∀(e:Ex) (a l:List aj),(dL e a l).length<=l.length+e.n:=by intro x;induction x<;>grind [dL,Ty.n,Ex.n]
def rq (e:Ex) (a l:List aj):Nat->List aj
 |0=>l
 |j+1=>dL (gH e j) (a++e.binds (e.from+j))<|rq e a l j
theorem ahv {e:Ex} (b:e.jl=false) (a l:List aj):dL e a l=rq e a l e.kids.length:=by cases e<;>simp_all[Ex.jl,dL,rq,Ex.kids,gH,Ex.binds,Ex.from]
def kL (x:aj):Ex->Nat
 | .at s=>if s=x then 1 else 0
 | .un _ a=>kL x a
 | .bi _ a b=>kL x a+kL x b
 | .ite a b c=>kL x a+kL x b+kL x c
 | .lt y a b=>kL x a+if x=y then 0 else kL x b
 | .fn f y _ _ e=>if x=f\/x=y then 0 else kL x e
theorem ahw (a:ey x=true):∀e:Ex,0<kL x e↔Fv x e:=by intro x;induction x<;>grind [ey,kL,Fv]
theorem count_le (x:aj):∀e:Ex,kL x e<=e.n:=by intro x;induction x<;>grind [kL,Ty.n,Ex.n]
def Bz (x:aj) (e:Ex):Nat->Nat
 |0=>0
 |j+1=>Bz x e j+if x∈e.binds (e.from+j) then 0 else kL x (gH e j)
theorem Vi {e:Ex} (a:e.jl=false) (x:aj):kL x e=Bz x e e.kids.length:=by cases e<;>simp_all[Ex.jl,kL,Bz,Ex.kids,gH,Ex.binds,Ex.from]
/-! ### Types of expressions -/
abbrev Sc:=List<|aj×Ty
def look (a:Sc) (s:aj):Option Ty:=(a.reverse.find? λp=>decide<|p.1=s).map Prod.snd
theorem pT (a:Sc) (x s:aj) (T:Ty):look (a++[(x,T)]) s=if x=s then some T else look a s:=by grind [look]
theorem BA (a:Sc) (f x s:aj) (T U:Ty):look (a++[(f,T),(x,U)]) s=if x=s then some U else if f=s then some T else look a s:=by grind [look]
def lF (a b:Ty):Bool:=decide<|a.text=b.text
theorem ahx {a b:Ty}:lF a b=true↔a=b:=by grind [lF,Ty.inj]
def lG (h:aj):List Ty->Option Ty
 |[a]=>match a with
  | .op false c d=>if h=Dy then some c else if h=se then some d else none
  |_=>none
 |[a,b]=>
  if h=kX then match a with
   | .op true c d=>if lF c b then some d else none
   |_=>none
  else if h=zJ then(if 1+a.n+b.n<=16 then some (.op false a b) else none)
  else if lF a .i&&lF b .i then some .i else none
 |[a,b,c]=>if lF a .i&&lF b c then some b else none
 |_=>none
def bH:Ex->Sc->Option Ty
 | .at s,d=>if ey s then look d s else some .i
 | .un h a,d=>(bH a d).bind λA=>lG h [A]
 | .bi h a b,d=>(bH a d).bind λA=>(bH b d).bind λB=>lG h [A,B]
 | .ite a b c,d=>(bH a d).bind λA=>(bH b d).bind λB=>(bH c d).bind λC=>lG il [A,B,C]
 | .lt x a b,d=>(bH a d).bind λA=>bH b<|d++[(x,A)]
 | .fn f x A B e,d=>if 1+A.n+B.n<=16 then(bH e<|d++[(f,.op true A B),(x,A)]).bind λC=>if lF C B then some (.op true A B) else none else none
theorem rr:∀(e:Ex) (j g:Sc),(∀s,ey s=true->Fv s e->look j s=look g s)->bH e j=bH e g
 | .at s,j,g,h=>by
  unfold bH;by_cases d:ey s=true
  .rw[iP d,iP d];exact h s d ⟨rfl,d⟩
  .rw[iN d,iN d]
 | .un o a,j,g,h=>by unfold bH;rw[rr a j g h]
 | .bi o a b,j,g,h=>by unfold bH;rw[rr a j g λs d i=>h s d<|.inl i,rr b j g λs d i=>h s d (.inr i)]
 | .ite a b c,j,g,h=>by unfold bH;rw[rr a j g λs d i=>h s d<|.inl i,rr b j g λs d i=>h s d (.inr<|.inl i),rr c j g λs d i=>h s d (.inr<|.inr i)]
 | .lt x a b,j,g,h=>by
  unfold bH;rw[rr a j g λs d i=>h s d (.inl i)];cases bH a g with
  |none=>rfl
  |some A=>
   refine rr b _ _ λs d i=>?_;rw[pT,pT];by_cases e:x=s
   .rw[iP e,iP e]
   .rw[iN e,iN e];exact h s d<|.inr ⟨λm=>e m.symm,i⟩
 | .fn f x A B e,j,g,h=>by
  unfold bH;rw[rr e _ (g++[(f,.op true A B),(x,A)]) λs d i=>?_];rw[BA,BA];by_cases l:x=s
  .rw[iP l,iP l]
  .by_cases n:f=s
   .rw[iN l,iN l,iP n,iP n]
   .rw[iN l,iN l,iN n,iN n];exact h s d ⟨λm=>n m.symm,λm=>l m.symm,i⟩
def zK (a:Sc):Prop:=∀s T,look a s=some T->T.n<=16
theorem H0 {a:Sc} (h:zK a) {T:Ty} (b:T.n<=16):zK (a++[(x,T)]):=by grind [zK,Ty.n,Ex.n,pT]
theorem OV:∀{j:List Ty} {T:Ty},(∀k∈j,k.n<=16)->lG h j=some T->T.n<=16
 |[],T,_,e=>by cases e
 |[a],T,hk,e=>by
  have g:=hk a sm;cases a with
  |i=>cases e
  |op f c d=>
   cases f with
   |true=>cases e
   |false=>
    simp only[Ty.n] at g;simp only[lG] at e;split at e
    .cases e;omega
    .split at e
     .cases e;omega
     .cases e
 |[a,b],T,hk,e=>by
  have g:=hk a sm;have hb:=hk b sm;simp only[lG] at e;split at e
  .cases a with
   |i=>cases e
   |op f c d=>
    cases f with
    |false=>cases e
    |true=>
     simp only at e;split at e
     .cases e;simp only[Ty.n] at g;omega
     .cases e
  .split at e
   .split at e
    .rename_i l;cases e;simpa[Ty.n] using l
    .cases e
   .split at e
    .cases e;decide
    .cases e
 |[a,b,c],T,hk,e=>by
  simp only[lG] at e;split at e
  .cases e;exact hk b sm
  .cases e
 |_::_::_::_::_,T,_,e=>by cases e
theorem mD:∀{e:Ex} {Γ:Sc} {T:Ty},zK Γ->bH e Γ=some T->T.n<=16
 | .at s,Γ,T,d,h=>by
  unfold bH at h;split at h
  .exact d s T h
  .cases h;decide
 | .un l a,Γ,T,d,h=>by
  unfold bH at h;cases g:bH a Γ with
  |none=>rw[g] at h;cases h
  |some A=>rw[g,Option.bind_some] at h;exact OV (λk hk=>by simp at hk;rw[hk];exact mD d g) h
 | .bi l a b,Γ,T,d,h=>by
  unfold bH at h;cases g:bH a Γ with
  |none=>rw[g] at h;cases h
  |some A=>
   cases hb:bH b Γ with
   |none=>rw[g,hb] at h;cases h
   |some B=>rw[g,hb,Option.bind_some,Option.bind_some] at h;exact OV (λk hk=>by simp at hk;rcases hk with rfl|rfl;exact mD d g;exact mD d hb) h
 | .ite a b c,Γ,T,d,h=>by
  unfold bH at h;cases g:bH a Γ with
  |none=>rw[g] at h;cases h
  |some A=>
   cases hb:bH b Γ with
   |none=>rw[g,hb] at h;cases h
   |some B=>
    cases i:bH c Γ with
    |none=>rw[g,hb,i] at h;cases h
    |some C=>rw[g,hb,i,Option.bind_some,Option.bind_some,Option.bind_some] at h;exact OV (λk hk=>by simp at hk;rcases hk with rfl|rfl|rfl;exact mD d g;exact mD d hb;exact mD d i) h
 | .lt x a b,Γ,T,d,h=>by
  unfold bH at h;cases g:bH a Γ with
  |none=>rw[g] at h;cases h
  |some A=>rw[g,Option.bind_some] at h;exact mD (H0 d<|mD d g) h
 | .fn f x A B e,Γ,T,d,h=>by
  unfold bH at h;split at h
  .rename_i i;cases j:bH e (Γ++[(f,.op true A B),(x,A)]) with
   |none=>rw[j] at h;cases h
   |some C=>
    rw[j,Option.bind_some] at h;split at h
    .cases h;simpa[Ty.n] using i
    .cases h
  .cases h
/-! ### rb aL -/
theorem ahy (n:Nat):val (aS n)=n:=by
 induction n using Nat.strongRecOn with
 |_ n b=>
  have a:∀k,k<10->(UInt8.ofNat (48+k)).toNat=48+k:=λk hk=>by rw[UInt8.toNat_ofNat'];exact Nat.mod_eq_of_lt om
  unfold aS;by_cases h:n<10
  .rw[iP h];show 10*0+((UInt8.ofNat<|48+n).toNat-48)=n;rw[a n h];omega
  .rw[iN h,Tq,b (n/10) om,a (n%10) om];omega
theorem ahz {n:Nat} (h:aS n=aS m):n=m:=by grind [ahy]
def dd (c:UInt8) (k:Nat):aj:=c::aS k
theorem qz {j:Nat} (h:dd c k=dd c j):k=j:=by grind [ahz,dd]
theorem OX {b:Type} [BEq b] [LawfulBEq b]:∀{l m:List b},l.Nodup->(∀x∈l,x∈m)->l.length<=m.length
 |[],m,_,_=>by simp
 |a::l,m,hn,hs=>by rw[List.nodup_cons] at hn;have c:=hs a sm;have:=OX (l:=l) (m:=m.erase a) hn.2 λx d=>(List.mem_erase_of_ne (fun(e:x=a)=>hn.1<|e▸d)).2 (hs x<|by simp[d]);rw[List.length_erase_of_mem c] at this;have:=List.length_pos_of_mem c;simp only[lC];omega
def qA (c:UInt8) (b:List aj):Nat->Nat->Nat
 |0,n=>n
 |a+1,n=>if dd c n∈b then qA c b a (n+1) else n
def bC (c:UInt8) (a:List aj) (n:Nat):Nat:=qA c a (a.length+1) n
theorem ahA (c:UInt8) (b:List aj):∀a n,n<=qA c b a n/\qA c b a n<=n+a:=by intro x;induction x<;>grind [qA]
theorem Vj (c:UInt8) (b:List aj):∀a n,dd c (qA c b a n)∉b\/∀j,j<a->dd c (n+j)∈b
 |0,n=>.inr λj e=>by omega
 |a+1,n=>by
  unfold qA;split
  .rename_i h;rcases Vj c b a (n+1) with d|d
   .exact .inl d
   .refine .inr λj e=>?_;cases j with
    |zero=>exact h
    |succ j=>have:=d j om;rw[show n+(j+1)=n+1+j from by omega];exact this
  .rename_i h;exact .inl h
theorem KR (c:UInt8) (d:List aj) (n:Nat):dd c (bC c d n)∉d:=by
 rcases Vj c d (d.length+1) n with h|h
 .exact h
 .exfalso;have i:((List.range<|d.length+1).map λj=>dd c<|n+j).Nodup:=by
   rw[List.nodup_iff_pairwise_ne,List.pairwise_map];refine List.Pairwise.imp ?_<|List.nodup_iff_pairwise_ne.1 List.nodup_range;intro a b f e;exact f (by have:=qz e;omega)
  have:=OX i (m:=d) (λx l=>by obtain⟨j,g,rfl⟩:=List.mem_map.1 l;exact h j<|List.mem_range.1 g);simp at this;omega
theorem pg (c:UInt8) (a:List aj) (n:Nat):n<=bC c a n/\bC c a n<=n+a.length+1:=by grind [ahA,dz.length,bC]
theorem Vk {a:List aj} {n:Nat} (h:dd c n∈a):bC c a n=bC c a (n+1):=by
 have j:∀f g n,dd c (qA c a f n)∉a->dd c (qA c a g n)∉a->qA c a f n=qA c a g n:=by
  intro f;induction f with
  |zero=>
   intro g n b d;cases g with
   |zero=>rfl
   |succ g=>unfold qA at b⊢;rw[iN b]
  |succ f l=>
   intro g n b d;cases g with
   |zero=>unfold qA at d⊢;rw[iN d]
   |succ g=>
    unfold qA at b d⊢;by_cases i:dd c n∈a
    .rw[iP i] at b d⊢;rw[iP i];exact l g (n+1) b d
    .rw[iN i,iN i]
 have e:bC c a n=qA c a a.length (n+1):=by
  unfold bC
  conv=>lhs;unfold qA
  rw[iP h]
 have b:=KR c a n;rw[e] at b⊢;exact j _ _ _ b (KR c a<|n+1)
theorem Vl {a:List aj} {n:Nat} (h:dd c n∉a):bC c a n=n:=by unfold bC qA;rw[iN h]
theorem BB (e:97<=c/\c<=122) (hk:k<1000):ey (dd c k)=true:=by
 have a:∀k,(aS k).all iU=true:=λk=>by
  induction k using Nat.strongRecOn with
  |_ k f=>
   have a:∀j,j<10->iU (UInt8.ofNat (48+j))=true:=by decide
   unfold aS;by_cases h:k<10
   .rw[iP h,List.all_cons,a k h];rfl
   .rw[iN h,List.all_append,f (k/10) om,List.all_cons,a (k%10) om];rfl
 have b:∀k,k<10->(aS k).length=1:=λk hk=>by unfold aS;rw[iP hk];rfl
 have d:∀k,k<100->(aS k).length<=2:=λk hk=>by
  unfold aS;split
  .simp
  .have:=b (k/10) om;simp;omega
 have g:(aS k).length<=3:=by
  unfold aS;split
  .simp
  .have:=d (k/10) om;simp;omega
 unfold ey dd;simp only[lC,List.getD_cons_zero,List.drop_succ_cons,List.drop_zero,a k,Bool.and_true,aE,dE];exact⟨⟨by omega,om⟩,e⟩
/-! ### Bound aL renamed -/
abbrev Rn:=List<|aj×aj
def ru (a:Rn) (s:aj):aj:=((a.reverse.find? λp=>decide<|p.1=s).map Prod.snd).getD s
theorem OY (a:Rn) (x y s:aj):ru (a++[(x,y)]) s=if x=s then y else ru a s:=by grind [ru]
theorem Vm (a:Rn) (f x s g y:aj):ru (a++[(f,g),(x,y)]) s=if x=s then y else if f=s then g else ru a s:=by grind [ru]
abbrev cx:UInt8:=120
def cu (d:List aj):Ex->Rn->Nat->Ex×Nat
 | .at s,g,n=>(.at<|if ey s then ru g s else s,n)
 | .un h a,g,n=>(.un h (cu d a g n).1,(cu d a g n).2)
 | .bi h a b,g,n=>(.bi h (cu d a g n).1 (cu d b g (cu d a g n).2).1,(cu d b g (cu d a g n).2).2)
 | .ite a b c,g,n=>(.ite (cu d a g n).1 (cu d b g (cu d a g n).2).1 (cu d c g (cu d b g (cu d a g n).2).2).1,(cu d c g (cu d b g (cu d a g n).2).2).2)
 | .lt x a b,g,n=>(.lt (dd cx<|bC cx d n) (cu d a g<|bC cx d n+1).1 (cu d b (g++[(x,dd cx<|bC cx d n)]) (cu d a g<|bC cx d n+1).2).1,
   (cu d b (g++[(x,dd cx<|bC cx d n)]) (cu d a g<|bC cx d n+1).2).2)
 | .fn f x A B e,g,n=>(.fn (dd cx<|bC cx d n) (dd cx (bC cx d<|bC cx d n+1)) A B (cu d e (g++[(f,dd cx<|bC cx d n),(x,dd cx (bC cx d<|bC cx d n+1))])<|bC cx d (bC cx d n+1)+1).1,
   (cu d e (g++[(f,dd cx<|bC cx d n),(x,dd cx (bC cx d<|bC cx d n+1))])<|bC cx d (bC cx d n+1)+1).2)
theorem jM (d:List aj):∀(e:Ex) (g:Rn) (n:Nat),n<=(cu d e g n).2/\(cu d e g n).2+(d.length+2)<=n+(e.n)*(d.length+2)+(d.length+2)
 | .at s,g,n=>by simp only[cu,Ex.n];omega
 | .un h a,g,n=>by have:=jM d a g n;simp only[cu,Ex.n,Nat.add_mul];omega
 | .bi h a b,g,n=>by have:=jM d a g n;have:=jM d b g (cu d a g n).2;simp only[cu,Ex.n,Nat.add_mul];omega
 | .ite a b c,g,n=>by have:=jM d a g n;have:=jM d b g (cu d a g n).2;have:=jM d c g (cu d b g (cu d a g n).2).2;simp only[cu,Ex.n,Nat.add_mul];omega
 | .lt x a b,g,n=>by have i:=pg cx d n;have:=jM d a g<|bC cx d n+1;have:=jM d b (g++[(x,dd cx<|bC cx d n)]) (cu d a g<|bC cx d n+1).2;simp only[cu,Ex.n,Nat.add_mul];omega
 | .fn f x A B e,g,n=>by have i:=pg cx d n;have j:=pg cx d<|bC cx d n+1;have:=jM d e (g++[(f,dd cx<|bC cx d n),(x,dd cx (bC cx d<|bC cx d n+1))])<|bC cx d (bC cx d n+1)+1;simp only[cu,Ex.n,Nat.add_mul];omega
theorem Vn (a:List aj):∀(e:Ex) (b:Rn) (n:Nat),(cu a e b n).1.n=e.n:=by intro x;induction x<;>grind [cu,Ty.n,Ex.n]
theorem xZ (d:List aj):∀(e:Ex) (g:Rn) (n:Nat),e.ok->(cu d e g n).2<=1000->(∀s,ey s=true->Fv s e->ey (ru g s)=true)->(cu d e g n).1.ok
 | .at s,g,n,h,_,j=>by
  show rp _=true;by_cases i:ey s=true
  .rw[iP i];unfold rp;rw[j s i ⟨rfl,i⟩];simp
  .rw[iN i];exact h
 | .un z a,g,n,h,m,j=>⟨h.1,xZ d a g n h.2 m j⟩
 | .bi z a b,g,n,h,m,j=>by have p:=jM d b g (cu d a g n).2;simp only[cu] at m;exact⟨h.1,xZ d a g n h.2.1 om λs i l=>j s i<|.inl l,xZ d b g _ h.2.2 m λs i l=>j s i<|.inr l⟩
 | .ite a b c,g,n,h,m,j=>by have p:=jM d b g (cu d a g n).2;have E:=jM d c g (cu d b g (cu d a g n).2).2;simp only[cu] at m;exact⟨xZ d a g n h.1 om λs i l=>j s i<|.inl l,xZ d b g _ h.2.1 om λs i l=>j s i (.inr<|.inl l),xZ d c g _ h.2.2 m λs i l=>j s i (.inr<|.inr l)⟩
 | .lt x a b,g,n,h,m,j=>by
  have u:=jM d a g<|bC cx d n+1;have p:=jM d b (g++[(x,dd cx<|bC cx d n)]) (cu d a g<|bC cx d n+1).2;simp only[cu] at m;have hk:ey (dd cx<|bC cx d n)=true:=BB de om;refine⟨hk,xZ d a g _ h.2.1 om λs i l=>j s i<|.inl l,xZ d b _ _ h.2.2 m λs i l=>?_⟩;rw[OY];split
  .exact hk
  .rename_i e;exact j s i<|.inr ⟨λo=>e o.symm,l⟩
 | .fn f x A B e,g,n,h,m,j=>by
  have D:=pg cx d n;have u:=pg cx d<|bC cx d n+1;have p:=jM d e (g++[(f,dd cx<|bC cx d n),(x,dd cx (bC cx d<|bC cx d n+1))])<|bC cx d (bC cx d n+1)+1;simp only[cu] at m;have hk:ey (dd cx<|bC cx d n)=true:=BB de om;have q:ey (dd cx (bC cx d<|bC cx d n+1))=true:=BB de om;obtain⟨_,_,_,v,y,C⟩:=h;refine⟨hk,q,λe=>by have:=qz e;omega,v,y,xZ d e _ _ C m λs i l=>?_⟩;rw[Vm];split
  .exact q
  .rename_i r;split
   .exact hk
   .rename_i t;exact j s i ⟨λo=>t o.symm,λo=>r o.symm,l⟩
theorem x4 (d:List aj):∀(e:Ex) (g:Rn) (n:Nat) (j m:Sc),(cu d e g n).2<=1000->(∀s,ey s=true->Fv s e->ey (ru g s)=true/\look m (ru g s)=look j s/\∀k,n<=k->ru g s≠dd cx k)->bH (cu d e g n).1 m=bH e j
 | .at s,g,n,j,m,_,h=>by
  unfold cu bH;by_cases i:ey s=true
  .obtain⟨y,z,_⟩:=h s i ⟨rfl,i⟩;rw[iP i,iP i,iP y,z]
  .rw[iN i,iN i,iN i]
 | .un E a,g,n,j,m,p,h=>by unfold cu bH;rw[x4 d a g n j m p h]
 | .bi E a b,g,n,j,m,p,h=>by have y:=jM d a g n;have z:=jM d b g (cu d a g n).2;simp only[cu] at p;unfold cu bH;rw[x4 d a g n j m om λs i l=>h s i<|.inl l,x4 d b g _ j m p λs i l=>?_];obtain⟨q,r,o⟩:=h s i<|.inr l;exact⟨q,r,λk hk=>o k om⟩
 | .ite a b c,g,n,j,m,p,h=>by
  have y:=jM d a g n;have z:=jM d b g (cu d a g n).2;have F:=jM d c g (cu d b g (cu d a g n).2).2;simp only[cu] at p;unfold cu bH;rw[x4 d a g n j m om λs i l=>h s i<|.inl l,x4 d b g _ j m om λs i l=>?_,x4 d c g _ j m p λs i l=>?_]
  .obtain⟨q,r,o⟩:=h s i (.inr<|.inr l);exact⟨q,r,λk hk=>o k om⟩
  .obtain⟨q,r,o⟩:=h s i (.inr<|.inl l);exact⟨q,r,λk hk=>o k om⟩
 | .lt x a b,g,n,j,m,p,h=>by
  have C:=pg cx d n;have y:=jM d a g<|bC cx d n+1;have z:=jM d b (g++[(x,dd cx<|bC cx d n)]) (cu d a g<|bC cx d n+1).2;simp only[cu] at p;have hk:ey (dd cx<|bC cx d n)=true:=BB de om;unfold cu bH;rw[x4 d a g _ j m om λs i l=>?_]
  .cases bH a j with
   |none=>rfl
   |some A=>
    refine x4 d b _ _ _ _ p λs i l=>?_;rw[OY,pT j];by_cases e:x=s
    .rw[iP e,iP e,pT,iP rfl];exact⟨hk,rfl,λk hk e=>by have:=qz e;omega⟩
    .rw[iN e,iN e];obtain⟨q,r,o⟩:=h s i<|.inr ⟨λu=>e u.symm,l⟩;rw[pT,iN λe=>o _ C.1 e.symm];exact⟨q,r,λk hk=>o k om⟩
  .obtain⟨q,r,o⟩:=h s i<|.inl l;exact⟨q,r,λk hk=>o k om⟩
 | .fn f x A B e,g,n,j,m,p,h=>by
  have C:=pg cx d n;have y:=pg cx d<|bC cx d n+1;have z:=jM d e (g++[(f,dd cx<|bC cx d n),(x,dd cx (bC cx d<|bC cx d n+1))])<|bC cx d (bC cx d n+1)+1;simp only[cu] at p;have hk:ey (dd cx<|bC cx d n)=true:=BB de om;have D:ey (dd cx (bC cx d<|bC cx d n+1))=true:=BB de om;unfold cu bH;rw[x4 d e _ _ (j++[(f,.op true A B),(x,A)]) _ p λs i l=>?_];rw[Vm,BA j];by_cases t:x=s
  .rw[iP t,iP t,BA,iP rfl];exact⟨D,rfl,λk hk e=>by have:=qz e;omega⟩
  .by_cases v:f=s
   .rw[iN t,iN t,iP v,iP v,BA,iN λe=>by have:=qz e;omega,iP rfl];exact⟨hk,rfl,λk hk e=>by have:=qz e;omega⟩
   .rw[iN t,iN t,iN v,iN v];obtain⟨q,r,o⟩:=h s i ⟨λu=>v u.symm,λu=>t u.symm,l⟩;rw[BA,iN λe=>o _ om e.symm,iN λe=>o _ C.1 e.symm];exact⟨q,r,λk hk=>o k om⟩
/-! ### The aL that are bound -/
def fA:Ex->List aj
 | .at _=>[]
 | .un _ a=>fA a
 | .bi _ a b=>fA a++fA b
 | .ite a b c=>fA a++(fA b++fA c)
 | .lt x a b=>x::(fA a++fA b)
 | .fn f x _ _ e=>f::x::fA e
theorem x5 (d:List aj):∀(e:Ex) (i:Rn) (n:Nat),(fA (cu d e i n).1).Nodup/\∀y,y∈fA (cu d e i n).1->∃k,y=dd cx k/\n<=k/\k<(cu d e i n).2
 | .at s,i,n=>by simp[cu,fA]
 | .un D a,i,n=>x5 d a i n
 | .bi D a b,i,n=>by
  have v:=jM d a i n;have z:=jM d b i (cu d a i n).2;obtain⟨r,m⟩:=x5 d a i n;obtain⟨t,o⟩:=x5 d b i (cu d a i n).2;simp only[cu,fA];refine⟨List.nodup_append.2 ⟨r,t,λx l y g e=>?_⟩,λy g=>?_⟩
  .obtain⟨k,rfl,_,hk⟩:=m x l;obtain⟨j,rfl,u,_⟩:=o y g;have:=qz e;omega
  .rcases mA.1 g with g|g
   .obtain⟨k,e,p,q⟩:=m y g;exact⟨k,e,p,om⟩
   .obtain⟨k,e,p,q⟩:=o y g;exact⟨k,e,om,q⟩
 | .ite a b c,i,n=>by
  have v:=jM d a i n;have z:=jM d b i (cu d a i n).2;have E:=jM d c i (cu d b i (cu d a i n).2).2;obtain⟨r,m⟩:=x5 d a i n;obtain⟨t,o⟩:=x5 d b i (cu d a i n).2;obtain⟨c1,c2⟩:=x5 d c i (cu d b i (cu d a i n).2).2;simp only[cu,fA];refine⟨List.nodup_append.2 ⟨r,List.nodup_append.2 ⟨t,c1,λx l y g e=>?_⟩,λx l y g e=>?_⟩,λy g=>?_⟩
  .obtain⟨k,rfl,_,hk⟩:=o x l;obtain⟨j,rfl,u,_⟩:=c2 y g;have:=qz e;omega
  .obtain⟨k,rfl,_,hk⟩:=m x l;rcases mA.1 g with g|g
   .obtain⟨j,rfl,u,_⟩:=o y g;have:=qz e;omega
   .obtain⟨j,rfl,u,_⟩:=c2 y g;have:=qz e;omega
  .rcases mA.1 g with g|g
   .obtain⟨k,e,p,q⟩:=m y g;exact⟨k,e,p,om⟩
   .rcases mA.1 g with g|g
    .obtain⟨k,e,p,q⟩:=o y g;exact⟨k,e,om,om⟩
    .obtain⟨k,e,p,q⟩:=c2 y g;exact⟨k,e,om,q⟩
 | .lt x a b,i,n=>by
  have C:=pg cx d n;have v:=jM d a i<|bC cx d n+1;have z:=jM d b (i++[(x,dd cx<|bC cx d n)]) (cu d a i<|bC cx d n+1).2;obtain⟨r,m⟩:=x5 d a i<|bC cx d n+1;obtain⟨t,o⟩:=x5 d b (i++[(x,dd cx<|bC cx d n)]) (cu d a i<|bC cx d n+1).2;simp only[cu,fA];refine⟨List.nodup_cons.2 ⟨λl=>?_,List.nodup_append.2 ⟨r,t,λx l y g e=>?_⟩⟩,λy g=>?_⟩
  .rcases mA.1 l with l|l
   .obtain⟨k,e,p,q⟩:=m _ l;have:=qz e;omega
   .obtain⟨k,e,p,q⟩:=o _ l;have:=qz e;omega
  .obtain⟨k,rfl,_,hk⟩:=m x l;obtain⟨j,rfl,u,_⟩:=o y g;have:=qz e;omega
  .rcases mC.1 g with rfl|g
   .exact⟨_,rfl,om,om⟩
   .rcases mA.1 g with g|g
    .obtain⟨k,e,p,q⟩:=m y g;exact⟨k,e,om,om⟩
    .obtain⟨k,e,p,q⟩:=o y g;exact⟨k,e,om,q⟩
 | .fn f x A B e,i,n=>by
  have C:=pg cx d n;have v:=pg cx d<|bC cx d n+1;have z:=jM d e (i++[(f,dd cx<|bC cx d n),(x,dd cx (bC cx d<|bC cx d n+1))])<|bC cx d (bC cx d n+1)+1;obtain⟨r,m⟩:=x5 d e (i++[(f,dd cx<|bC cx d n),(x,dd cx (bC cx d<|bC cx d n+1))])<|bC cx d (bC cx d n+1)+1;simp only[cu,fA];refine⟨List.nodup_cons.2 ⟨λl=>?_,List.nodup_cons.2 ⟨λl=>?_,r⟩⟩,λy g=>?_⟩
  .rcases mC.1 l with l|l
   .have:=qz l;omega
   .obtain⟨k,e,p,q⟩:=m _ l;have:=qz e;omega
  .obtain⟨k,e,p,q⟩:=m _ l;have:=qz e;omega
  .rcases mC.1 g with rfl|g
   .exact⟨_,rfl,om,om⟩
   .rcases mC.1 g with rfl|g
    .exact⟨_,rfl,om,om⟩
    .obtain⟨k,e,p,q⟩:=m y g;exact⟨k,e,om,q⟩
theorem qB:∀{e:Ex} {g:Sc} {T:Ty},bH e g=some T->Fv s e->(look g s).isSome=true
 | .at x,g,T,h,d=>by obtain⟨rfl,r⟩:=d;unfold bH at h;rw[iP r] at h;rw[h];rfl
 | .un q a,g,T,h,d=>by
  unfold bH at h;cases i:bH a g with
  |none=>rw[i] at h;cases h
  |some A=>exact qB i d
 | .bi q a b,g,T,h,d=>by
  unfold bH at h;cases i:bH a g with
  |none=>rw[i] at h;cases h
  |some A=>
   cases hb:bH b g with
   |none=>rw[i,hb] at h;cases h
   |some B=>exact d.elim (qB i)<|qB hb
 | .ite a b c,g,T,h,d=>by
  unfold bH at h;cases i:bH a g with
  |none=>rw[i] at h;cases h
  |some A=>
   cases hb:bH b g with
   |none=>rw[i,hb] at h;cases h
   |some B=>
    cases j:bH c g with
    |none=>rw[i,hb,j] at h;cases h
    |some C=>exact d.elim (qB i) λd=>d.elim (qB hb)<|qB j
 | .lt x a b,g,T,h,d=>by
  unfold bH at h;cases i:bH a g with
  |none=>rw[i] at h;cases h
  |some A=>
   rw[i,Option.bind_some] at h;rcases d with d|⟨m,d⟩
   .exact qB i d
   .have:=qB h d;rw[pT,iN λe=>m e.symm] at this;exact this
 | .fn f x A B e,g,T,h,d=>by
  unfold bH at h;split at h
  .cases l:bH e (g++[(f,.op true A B),(x,A)]) with
   |none=>rw[l] at h;cases h
   |some C=>obtain⟨n,o,p⟩:=d;have:=qB l p;rw[BA,iN λe=>o e.symm,iN λe=>n e.symm] at this;exact this
  .cases h
abbrev Bs:=List<|aj×Ex
abbrev cy:UInt8:=121
def nest (bs:Bs) (e:Ex):Ex:=bs.foldr (λp e=>.lt p.1 p.2 e) e
def dO (ai:List aj) (r:Bs×Ex×Nat):Bs×Ex×Nat:=
 if r.2.1.jl=true then r else(r.1++[(dd cy<|bC cy ai r.2.2,r.2.1)],.at (dd cy<|bC cy ai r.2.2),bC cy ai r.2.2+1)
def bf (ai:List aj):Ex->Nat->Bs×Ex×Nat
 | .at s,n=>([],.at s,n)
 | .un h a,n=>((dO ai<|bf ai a n).1,.un h (dO ai<|bf ai a n).2.1,(dO ai<|bf ai a n).2.2)
 | .bi h a b,n=>((dO ai<|bf ai a n).1++(dO ai<|bf ai b (dO ai<|bf ai a n).2.2).1,.bi h (dO ai<|bf ai a n).2.1 (dO ai<|bf ai b (dO ai<|bf ai a n).2.2).2.1,(dO ai<|bf ai b (dO ai<|bf ai a n).2.2).2.2)
 | .ite a b c,n=>((dO ai<|bf ai a n).1,.ite (dO ai<|bf ai a n).2.1 (nest (bf ai b (dO ai<|bf ai a n).2.2).1 (bf ai b (dO ai<|bf ai a n).2.2).2.1)
   (nest (bf ai c (bf ai b (dO ai<|bf ai a n).2.2).2.2).1 (bf ai c (bf ai b (dO ai<|bf ai a n).2.2).2.2).2.1),(bf ai c (bf ai b (dO ai<|bf ai a n).2.2).2.2).2.2)
 | .lt x a b,n=>((bf ai a n).1++(x,(bf ai a n).2.1)::(bf ai b (bf ai a n).2.2).1,(bf ai b (bf ai a n).2.2).2.1,(bf ai b (bf ai a n).2.2).2.2)
 | .fn f x A B e,n=>([],.fn f x A B<|nest (bf ai e n).1 (bf ai e n).2.1,(bf ai e n).2.2)
def oa (a:List aj) (e:Ex) (n:Nat):Ex:=nest (bf a e n).1 (bf a e n).2.1
/-! ### How many aL -/
theorem rv (a:List aj) (r:Bs×Ex×Nat):r.2.2<=(dO a r).2.2/\(dO a r).2.2<=r.2.2+a.length+2:=by grind [dO,pg]
theorem jc (d:List aj):∀(e:Ex) (n:Nat),n<=(bf d e n).2.2/\(bf d e n).2.2+2*(d.length+2)<=n+e.n*(2*(d.length+2))
 | .at s,n=>⟨lR _,by simp only[bf,Ex.n];omega⟩
 | .un h a,n=>by have:=jc d a n;have:=rv d<|bf d a n;simp only[bf,Ex.n,Nat.add_mul];omega
 | .bi h a b,n=>by have:=jc d a n;have:=rv d<|bf d a n;have:=jc d b (dO d<|bf d a n).2.2;have:=rv d<|bf d b (dO d<|bf d a n).2.2;simp only[bf,Ex.n,Nat.add_mul];omega
 | .ite a b c,n=>by have:=jc d a n;have:=rv d<|bf d a n;have:=jc d b (dO d<|bf d a n).2.2;have:=jc d c (bf d b (dO d<|bf d a n).2.2).2.2;simp only[bf,Ex.n,Nat.add_mul];omega
 | .lt x a b,n=>by have:=jc d a n;have:=jc d b (bf d a n).2.2;simp only[bf,Ex.n,Nat.add_mul];omega
 | .fn f x A B e,n=>by have:=jc d e n;simp only[bf,Ex.n,Nat.add_mul];omega
/-! ### Types -/
def sf:Bs->Sc->Option Sc
 |[],a=>some a
 |(x,s)::bs,a=>(bH s a).bind λT=>sf bs<|a++[(x,T)]
theorem KU (bs:Bs) (e:Ex) (a:Sc):bH (nest bs e) a=(sf bs a).bind (bH e):=by induction bs generalizing a<;>grind [bH,nest,sf]
theorem OZ (bs b:Bs) (a:Sc):sf (bs++b) a=(sf bs a).bind (sf b):=by
 induction bs generalizing a with
 |nil=>rfl
 |cons p bs c=>
  obtain⟨x,s⟩:=p;show(bH s a).bind (λT=>sf (bs++b)<|a++[(x,T)])=((bH s a).bind λT=>sf bs<|a++[(x,T)]).bind (sf b);cases bH s a with
  |none=>rfl
  |some T=>exact c _
def FF (a:Sc) (s:aj):Prop:=∀p∈a,p.1≠s
theorem H2 {a b:Sc} (h:FF b s):look (a++b) s=look a s:=by grind [FF,look]
def rb (a:List aj) (e:Ex) (n m:Nat) (y:aj):Prop:=y∈fA e\/∃k,y=dd cy k/\n<=k/\k<m/\y∉a
structure Made (ai:List aj) (e:Ex) (n:Nat) (r:Bs×Ex×Nat) (Γ:Sc) (T:Ty) (Δ:Sc):Prop where
 binds:sf r.1 Γ=some (Γ++Δ)
 type:bH r.2.1 (Γ++Δ)=some T
 aL:∀p∈Δ,rb ai e n r.2.2 p.1
def BC (a:List aj) (e:Ex) (n:Nat) (r:Bs×Ex×Nat):Prop:=∀s,(Fv s r.2.1\/∃p∈r.1,Fv s p.2)->Fv s e\/rb a e n r.2.2 s
structure Vo (ai:List aj) (e:Ex):Prop where
 nodup:(fA e).Nodup
 nofree:∀x,x∈fA e->¬Fv x e
 noted:∀x,x∈fA e\/Fv x e->x∈ai
theorem rb.more {a:List aj} {e b:Ex} {n c:Nat} {y:aj} (h:rb a e n m y) (hb:∀x,x∈fA e->x∈fA b) (f:c<=n) (d:m<=m'):rb a b c m' y:=by grind [rb,fA]
theorem BC.au {ai:List aj} {e:Ex} {n:Nat} {r:Bs×Ex×Nat} (h:BC ai e n r) (a:n<=r.2.2):BC ai e n (dO ai r):=by grind [BC,dO,Fv,rb,bC,pg,KR]
theorem O0:∀(bs:Bs) (e:Ex) (s:aj),Fv s (nest bs e)->Fv s e\/∃p∈bs,Fv s p.2:=by intro x;induction x<;>grind [Fv,nest]
theorem BC.sub {a:List aj} {e e':Ex} {n n':Nat} {r:Bs×Ex×Nat} (h:BC a e n r) (b:∀s,Fv s e->Fv s e'\/s∈fA e') (hb:∀x,x∈fA e->x∈fA e') (d:n'<=n) (c:r.2.2<=m') (f:Fv s r.2.1\/∃p∈r.1,Fv s p.2):Fv s e'\/rb a e' n' m' s:=by grind [BC,Fv,fA,rb]
theorem x6 (d:List aj):∀(e:Ex) (n:Nat),BC d e n (bf d e n)
 | .at s,n=>λs g=>g.elim .inl fun⟨p,i,_⟩=>by simp[bf] at i
 | .un m a,n=>λs g=>((x6 d a n).au (jc d a n).1).sub (λs h=>.inl h) (λx h=>h) (lR _) (lR _) g
 | .bi m a b,n=>λs g=>by
  have l:=jc d a n;have o:=rv d<|bf d a n;have q:=jc d b (dO d<|bf d a n).2.2;have r:=rv d<|bf d b (dO d<|bf d a n).2.2;have j:=((x6 d a n).au l.1).sub (e':=.bi m a b) (n':=n) (m':=(bf d (.bi m a b) n).2.2) (λs h=>.inl<|.inl h) (λx h=>mA.2<|.inl h) (lR _) (by simp only[bf];omega) (s:=s);have hb:=((x6 d b (dO d<|bf d a n).2.2).au q.1).sub (e':=.bi m a b) (n':=n) (m':=(bf d (.bi m a b) n).2.2) (λs h=>.inl<|.inr h) (λx h=>mA.2<|.inr h) om (by simp only[bf];omega) (s:=s);rcases g with(g|g)|⟨p,i,g⟩
  .exact j<|.inl g
  .exact hb<|.inl g
  .rcases mA.1 i with i|i
   .exact j<|.inr ⟨p,i,g⟩
   .exact hb<|.inr ⟨p,i,g⟩
 | .ite a b c,n=>λs g=>by
  have l:=jc d a n;have o:=rv d<|bf d a n;have q:=jc d b (dO d<|bf d a n).2.2;have r:=jc d c (bf d b (dO d<|bf d a n).2.2).2.2;have j:=((x6 d a n).au l.1).sub (e':=.ite a b c) (n':=n) (m':=(bf d (.ite a b c) n).2.2) (λs h=>.inl<|.inl h) (λx h=>mA.2<|.inl h) (lR _) (by simp only[bf];omega) (s:=s);have hb:=(x6 d b (dO d<|bf d a n).2.2).sub (e':=.ite a b c) (n':=n) (m':=(bf d (.ite a b c) n).2.2) (λs h=>.inl (.inr<|.inl h)) (λx h=>mA.2<|.inr (mA.2<|.inl h)) om (by simp only[bf];omega) (s:=s);have t:=(x6 d c (bf d b (dO d<|bf d a n).2.2).2.2).sub (e':=.ite a b c) (n':=n) (m':=(bf d (.ite a b c) n).2.2) (λs h=>.inl (.inr<|.inr h)) (λx h=>mA.2<|.inr (mA.2<|.inr h)) om (by simp only[bf];omega) (s:=s);rcases g with(g|g|g)|⟨p,i,g⟩
  .exact j<|.inl g
  .exact hb<|O0 _ _ _ g
  .exact t<|O0 _ _ _ g
  .exact j<|.inr ⟨p,i,g⟩
 | .lt x a b,n=>λs g=>by
  have l:=jc d a n;have q:=jc d b (bf d a n).2.2;have j:=(x6 d a n).sub (e':=.lt x a b) (n':=n) (m':=(bf d (.lt x a b) n).2.2) (λs h=>.inl<|.inl h) (λy h=>mK _ (mA.2<|.inl h)) (lR _) (by simp only[bf];omega) (s:=s);have hb:=(x6 d b (bf d a n).2.2).sub (e':=.lt x a b) (n':=n) (m':=(bf d (.lt x a b) n).2.2) (λs h=>by
   by_cases e:s=x
   .exact .inr (by rw[e];exact List.mem_cons_self ..)
   .exact .inl<|.inr ⟨e,h⟩) (λy h=>mK _ (mA.2<|.inr h)) om (by simp only[bf];omega) (s:=s)
  rcases g with g|⟨p,i,g⟩
  .exact hb<|.inl g
  .rcases mA.1 i with i|i
   .exact j<|.inr ⟨p,i,g⟩
   .rcases mC.1 i with rfl|i
    .exact j<|.inl g
    .exact hb<|.inr ⟨p,i,g⟩
 | .fn f x A B e,n=>λs g=>by
  rcases g with⟨l,o,g⟩|⟨p,i,_⟩
  .rcases x6 d e n s (O0 _ _ _ g) with h|h
   .exact .inl ⟨l,o,h⟩
   .exact .inr (h.more (λy u=>mK _<|mK _ u) (lR _)<|lR _)
  .simp[bf] at i
theorem Made.au {ai:List aj} {e:Ex} {n:Nat} {r:Bs×Ex×Nat} {c:Sc} {T:Ty} {b:Sc} (h:Made ai e n r c T b) (m:n<=r.2.2) (d:(dO ai r).2.2<=1000):∃f,Made ai e n (dO ai r) c T f:=by
 unfold dO at d⊢;have l:=pg cy ai r.2.2;have j:=KR cy ai r.2.2;split
 .exact⟨b,h⟩
 .rename_i g;rw[iN g] at d;have hk:ey (dd cy<|bC cy ai r.2.2)=true:=BB de (by dsimp only at d;omega);refine⟨b++[(dd cy<|bC cy ai r.2.2,T)],⟨?_,?_,?_⟩⟩
  .rw[OZ,h.binds,Option.bind_some];show(bH r.2.1<|c++b).bind _=_;rw[h.type,Option.bind_some,List.append_assoc];rfl
  .show(if ey (dd cy<|bC cy ai r.2.2)=true then look (c++(b++[(dd cy<|bC cy ai r.2.2,T)])) (dd cy<|bC cy ai r.2.2) else some Ty.i)=some T;rw[iP hk,<-List.append_assoc,pT,iP rfl]
  .intro p a;rcases mA.1 a with a|a
   .exact(h.aL p a).more (λx i=>i) (lR _) (by dsimp only;omega)
   .simp only[List.mem_singleton] at a;subst a;exact .inr ⟨_,rfl,om,by dsimp only;omega,j⟩
theorem KV {b:List aj} {a:Ex} {n:Nat} {c:Sc} (h:∀p∈c,rb b a n m p.1) (d:s∉fA a) (e:s∈b):FF c s:=by grind [rb,fA,FF]
theorem ahB {c:List aj} {a b:Ex} {n:Nat} {d:Sc} (j:Fv s a\/rb c a n m s) (h:∀p∈d,rb c b m m' p.1) (e:∀x,x∈fA b->¬Fv x a) (f:∀x,x∈fA b->x∉fA a) (g:∀x,x∈fA b->x∈c) (i:∀x,x∈fA a\/Fv x a->x∈c):FF d s:=by grind [Fv,rb,fA,FF,qz]
theorem made (d:List aj):∀(e:Ex) (n:Nat) (l:Sc) (T:Ty),Vo d e->(bf d e n).2.2<=1000->bH e l=some T->∃Δ,Made d e n (bf d e n) l T Δ
 | .at s,n,l,T,m,E,h=>⟨[],⟨by simp[bf,sf],by simpa[bf] using h,sm⟩⟩
 | .un hd a,n,l,T,m,E,h=>by
  have P:=jc d a n;have h2:=rv d<|bf d a n;simp only[bf] at E;unfold bH at h;cases z:bH a l with
  |none=>rw[z] at h;cases h
  |some A=>rw[z,Option.bind_some] at h;obtain⟨Δ,hΔ⟩:=made d a n l A ⟨m.nodup,m.nofree,m.noted⟩ om z;obtain⟨Y,L⟩:=hΔ.au P.1 E;refine⟨Y,⟨L.binds,?_,L.aL⟩⟩;show(bH (dO d<|bf d a n).2.1<|l++Y).bind (λA=>lG hd [A])=some T;rw[L.type,Option.bind_some];exact h
 | .bi hd a b,n,l,T,m,E,h=>by
  have P:=jc d a n;have h2:=rv d<|bf d a n;have h3:=jc d b (dO d<|bf d a n).2.2;have h4:=rv d<|bf d b (dO d<|bf d a n).2.2;have pU:=(x6 d a n).au P.1;simp only[bf] at E;unfold bH at h;cases z:bH a l with
  |none=>rw[z] at h;cases h
  |some A=>
   cases hb:bH b l with
   |none=>rw[z,hb] at h;cases h
   |some B=>
    rw[z,hb,Option.bind_some,Option.bind_some] at h;have K:=List.nodup_append.1 m.nodup;obtain⟨t,o⟩:=made d a n l A ⟨K.1,λx i D=>m.nofree x (mA.2<|.inl i)<|.inl D,λx i=>m.noted x<|i.imp (λh=>mA.2<|.inl h) .inl⟩ om z;obtain⟨g,j⟩:=o.au P.1 om;have S:bH b (l++g)=some B:=by rw[<-hb];refine rr b _ _ λs Z J=>H2 (KV j.aL (λi=>m.nofree s (mA.2<|.inl i)<|.inr J)<|m.noted s (.inr<|.inr J))
    obtain⟨M,q⟩:=made d b (dO d<|bf d a n).2.2 (l++g) B ⟨K.2.1,λx i D=>m.nofree x (mA.2<|.inr i)<|.inr D,λx i=>m.noted x<|i.imp (λh=>mA.2<|.inr h) .inr⟩ om S;obtain⟨H,v⟩:=q.au h3.1 E;refine⟨g++H,⟨?_,?_,?_⟩⟩
    .show sf (_++_) l=_;rw[OZ,j.binds,Option.bind_some,v.binds,List.append_assoc]
    .show(bH (dO d<|bf d a n).2.1<|l++(g++H)).bind (λA=>(bH (dO d<|bf d b (dO d<|bf d a n).2.2).2.1<|l++(g++H)).bind λB=>lG hd [A,B])=some T;have O:bH (dO d<|bf d a n).2.1 (l++(g++H))=some A:=by
      rw[<-j.type,<-List.append_assoc];refine rr _ _ _ λs Z J=>H2<|ahB (pU s<|.inl J) v.aL ?_ ?_ ?_ ?_
      .exact λx i D=>m.nofree x (mA.2<|.inr i)<|.inl D
      .exact λx i fW=>K.2.2 x fW x i rfl
      .exact λx i=>m.noted x<|.inl (mA.2<|.inr i)
      .exact λx i=>m.noted x<|i.imp (λh=>mA.2<|.inl h) .inl
     rw[O,Option.bind_some,<-List.append_assoc,v.type,Option.bind_some];exact h
    .intro p F;rcases mA.1 F with F|F
     .exact(j.aL p F).more (λx i=>mA.2<|.inl i) (lR _) (by simp only[bf];omega)
     .exact(v.aL p F).more (λx i=>mA.2<|.inr i) om (by simp only[bf];omega)
 | .ite a b c,n,l,T,m,E,h=>by
  have P:=jc d a n;have h2:=rv d<|bf d a n;have h3:=jc d b (dO d<|bf d a n).2.2;have h4:=jc d c (bf d b (dO d<|bf d a n).2.2).2.2;simp only[bf] at E;unfold bH at h;cases z:bH a l with
  |none=>rw[z] at h;cases h
  |some A=>
   cases hb:bH b l with
   |none=>rw[z,hb] at h;cases h
   |some B=>
    cases U:bH c l with
    |none=>rw[z,hb,U] at h;cases h
    |some C=>
     rw[z,hb,U,Option.bind_some,Option.bind_some,Option.bind_some] at h;have K:=List.nodup_append.1 m.nodup;have Vp:=List.nodup_append.1 K.2.1;have I:∀x,x∈fA b->x∈fA (.ite a b c):=λx i=>mA.2<|.inr (mA.2<|.inl i);have V:∀x,x∈fA c->x∈fA (.ite a b c):=λx i=>mA.2<|.inr (mA.2<|.inr i);have r:∀x,x∈fA a->x∈fA (.ite a b c):=λx i=>mA.2<|.inl i;obtain⟨t,o⟩:=made d a n l A ⟨K.1,λx i D=>m.nofree x (r x i)<|.inl D,λx i=>m.noted x<|i.imp (r x) .inl⟩ om z;obtain⟨g,j⟩:=o.au P.1 om;have S:bH b (l++g)=some B:=by rw[<-hb];refine rr b _ _ λs Z J=>H2<|KV j.aL (λi=>m.nofree s (r s i) (.inr<|.inl J)) (m.noted s<|.inr (.inr<|.inl J))
     have qm:bH c (l++g)=some C:=by rw[<-U];refine rr c _ _ λs Z J=>H2<|KV j.aL (λi=>m.nofree s (r s i) (.inr<|.inr J)) (m.noted s<|.inr (.inr<|.inr J))
     obtain⟨M,q⟩:=made d b (dO d<|bf d a n).2.2 (l++g) B ⟨Vp.1,λx i D=>m.nofree x (I x i) (.inr<|.inl D),λx i=>m.noted x (i.imp (I x) λh=>.inr<|.inl h)⟩ om S;obtain⟨_,N⟩:=made d c (bf d b (dO d<|bf d a n).2.2).2.2 (l++g) C ⟨Vp.2.1,λx i D=>m.nofree x (V x i) (.inr<|.inr D),λx i=>m.noted x (i.imp (V x) λh=>.inr<|.inr h)⟩ E qm;refine⟨g,⟨j.binds,?_,?_⟩⟩
     .show(bH (dO d<|bf d a n).2.1<|l++g).bind (λA=>(bH (nest _ _)<|l++g).bind λB=>(bH (nest _ _)<|l++g).bind λC=>lG il [A,B,C])=some T;rw[j.type,KU,KU,q.binds,N.binds,Option.bind_some,Option.bind_some,Option.bind_some,q.type,N.type,Option.bind_some,Option.bind_some];exact h
     .exact λp F=>(j.aL p F).more r (lR _) (by simp only[bf];omega)
 | .lt x a b,n,l,T,m,E,h=>by
  have P:=jc d a n;have h3:=jc d b (bf d a n).2.2;simp only[bf] at E;unfold bH at h;cases z:bH a l with
  |none=>rw[z] at h;cases h
  |some A=>
   rw[z,Option.bind_some] at h;have Q:=List.nodup_cons.1 m.nodup;have K:=List.nodup_append.1 Q.2;have r:∀y,y∈fA a->y∈fA (.lt x a b):=λy u=>mK _ (mA.2<|.inl u);have I:∀y,y∈fA b->y∈fA (.lt x a b):=λy u=>mK _ (mA.2<|.inr u);have Vq:x∈fA (.lt x a b):=List.mem_cons_self ..;obtain⟨t,o⟩:=made d a n l A ⟨K.1,λy u D=>m.nofree y (r y u)<|.inl D,λy u=>m.noted y<|u.imp (r y) .inl⟩ om z;have S:bH b (l++(t++[(x,A)]))=some T:=by
    rw[<-h,<-List.append_assoc];refine rr b _ _ λs Z J=>?_;rw[pT,pT];by_cases e:x=s
    .rw[iP e,iP e]
    .rw[iN e,iN e];have FG:Fv s (.lt x a b):=.inr ⟨λe'=>e e'.symm,J⟩;exact H2<|KV o.aL (λi=>m.nofree s (r s i) FG) (m.noted s<|.inr FG)
   obtain⟨M,q⟩:=made d b (bf d a n).2.2 (l++(t++[(x,A)])) T ⟨K.2.1,λy u D=>by
    by_cases e:y=x
    .exact Q.1<|e▸mA.2 (.inr u)
    .exact m.nofree y (I y u)<|.inr ⟨e,D⟩,λy u=>by
    by_cases e:y=x
    .rw[e];exact m.noted x<|.inl Vq
    .exact m.noted y<|u.imp (I y) λh=>.inr ⟨e,h⟩⟩ E S
   refine⟨t++(x,A)::M,⟨?_,?_,?_⟩⟩
   .show sf (_++(x,_)::_) l=_;rw[OZ,o.binds,Option.bind_some];show(bH (bf d a n).2.1<|l++t).bind (λT=>sf _<|(l++t)++[(x,T)])=_;rw[o.type,Option.bind_some,List.append_assoc,q.binds];simp
   .show bH (bf d b (bf d a n).2.2).2.1 _=some T;have:=q.type;rw[show l++(t++(x,A)::M)=l++(t++[(x,A)])++M from by simp];exact this
   .intro p F;rcases mA.1 F with F|F
    .exact(o.aL p F).more r (lR _) (by simp only[bf];omega)
    .rcases mC.1 F with rfl|F
     .exact .inl Vq
     .exact(q.aL p F).more I om (by simp only[bf];omega)
 | .fn f x A B e,n,l,T,m,E,h=>by
  simp only[bf] at E;unfold bH at h;split at h
  .rename_i U;cases he:bH e (l++[(f,.op true A B),(x,A)]) with
   |none=>rw[he] at h;cases h
   |some C=>
    rw[he,Option.bind_some] at h;have Q:=List.nodup_cons.1 m.nodup;have K:=List.nodup_cons.1 Q.2;have X:∀y,y∈fA e->y∈fA (.fn f x A B e):=λy u=>mK _<|mK _ u;obtain⟨t,o⟩:=made d e n (l++[(f,.op true A B),(x,A)]) C ⟨K.2,λy u D=>by
     by_cases O:y=x
     .exact K.1<|O▸u
     .by_cases R:y=f
      .exact Q.1<|R▸mK _ u
      .exact m.nofree y (X y u) ⟨R,O,D⟩,λy u=>by
     by_cases O:y=x
     .rw[O];exact m.noted x<|.inl (mK _<|List.mem_cons_self ..)
     .by_cases R:y=f
      .rw[R];exact m.noted f (.inl<|List.mem_cons_self ..)
      .exact m.noted y<|u.imp (X y) λh=>⟨R,O,h⟩⟩ E he
    refine⟨[],⟨by simp[bf,sf],?_,sm⟩⟩;show(if 1+A.n+B.n<=16 then(bH (nest (bf d e n).1 (bf d e n).2.1)<|(l++[])++[(f,.op true A B),(x,A)]).bind λC=>if lF C B then some (.op true A B) else none else none)=some T;rw[iP U,List.append_nil,KU,o.binds,Option.bind_some,o.type,Option.bind_some];exact h
  .cases h
theorem ahC {b:List aj} {e:Ex} {n:Nat} {c:Sc} {T:Ty} (f:Vo b e) (d:(bf b e n).2.2<=1000) (h:bH e c=some T):bH (oa b e n) c=some T:=by obtain⟨_,a⟩:=made b e n c T f d h;unfold oa;rw[KU,a.binds,Option.bind_some,a.type]
/-! ### Atoms of a form -/
mutual
def ma:aq->List aj->List aj
 | .mk a ps,l=>if a≠[] then(if a∈l then l else l++[a]) else pV ps l
def pV:List aq->List aj->List aj
 |[],l=>l
 |t::ts,l=>pV ts<|ma t l
end
theorem Vr (t:aq) (l:List aj):ma t l=if t.au≠[] then(if t.au∈l then l else l++[t.au]) else pV t.ag l:=by cases t with|mk a ps=>rw[ma];rfl
theorem ahD:∀(xs a:List aq) (l:List aj),pV (xs++a) l=pV a (pV xs l):=by intro x;induction x<;>grind [pV]
theorem ahE (h:ps[i]?=some p) (l:List aj):pV (ps.take<|i+1) l=ma p (pV (ps.take i) l):=by rw[List.take_add_one,h,ahD];rfl
mutual
theorem ahF:∀(t:aq) (l:List aj),x∈l->x∈ma t l
 | .mk a ps,l,h=>by
  unfold ma;split
  .split
   .exact h
   .exact mA.2<|.inl h
  .exact O3 ps l h
theorem O3:∀(ps:List aq) (l:List aj),x∈l->x∈pV ps l
 |[],l,h=>h
 |t::ts,l,h=>by unfold pV;exact O3 ts _<|ahF t l h
end
mutual
theorem Vs:∀(t:aq) (l:List aj),(ma t l).length<=l.length+gk t
 | .mk a ps,l=>by
  unfold ma gk;split
  .split
   .omega
   .simp
  .exact O4 ps l
theorem O4:∀(ps:List aq) (l:List aj),(pV ps l).length<=l.length+kh ps
 |[],l=>by simp[pV,kh]
 |t::ts,l=>by have a:=Vs t l;have b:=O4 ts<|ma t l;unfold pV kh;omega
end
theorem ahG:∀{ps:List aq} {l:List aj} {p:aq},p∈ps->(∀l,x∈ma p l)->x∈pV ps l:=by intro x;induction x<;>grind [pV,O3]
theorem KX (a:x≠[]) (l:List aj):x∈ma (bJ x) l:=by grind [ma,bJ]
theorem vz {p:aq} (a:p∈ps) (h:∀l,x∈ma p l) (l:List aj):x∈ma (.mk [] ps) l:=by grind [ma,ahG]
theorem yb:∀{e:Ex},e.ok->(x∈fA e\/Fv x e)->∀l,x∈ma e.av l
 | .at s,h,d,l=>by
  rcases d with d|⟨rfl,_⟩
  .simp[fA] at d
  .exact KX (qy h) l
 | .un j a,h,d,l=>vz (p:=a.av) sm (yb h.2 d) l
 | .bi j a b,h,d,l=>by
  have g:(x∈fA a\/Fv x a)\/(x∈fA b\/Fv x b):=by
   rcases d with d|d
   .rcases mA.1 d with h|h
    .exact .inl<|.inl h
    .exact .inr<|.inl h
   .rcases d with h|h
    .exact .inl<|.inr h
    .exact .inr<|.inr h
  rcases g with g|hb
  .exact vz (p:=a.av) sm (yb h.2.1 g) l
  .exact vz (p:=b.av) sm (yb h.2.2 hb) l
 | .ite a b c,h,d,l=>by
  have g:(x∈fA a\/Fv x a)\/(x∈fA b\/Fv x b)\/(x∈fA c\/Fv x c):=by
   rcases d with d|d
   .rcases mA.1 d with h|h
    .exact .inl<|.inl h
    .rcases mA.1 h with h|h
     .exact .inr (.inl<|.inl h)
     .exact .inr (.inr<|.inl h)
   .rcases d with h|h|h
    .exact .inl<|.inr h
    .exact .inr (.inl<|.inr h)
    .exact .inr (.inr<|.inr h)
  rcases g with g|hb|i
  .exact vz (p:=a.av) sm (yb h.1 g) l
  .exact vz (p:=b.av) sm (yb h.2.1 hb) l
  .exact vz (p:=c.av) sm (yb h.2.2 i) l
 | .lt y a b,h,d,l=>by
  have g:x=y\/(x∈fA a\/Fv x a)\/(x∈fA b\/Fv x b):=by
   rcases d with d|d
   .rcases mC.1 d with h|h
    .exact .inl h
    .rcases mA.1 h with h|h
     .exact .inr (.inl<|.inl h)
     .exact .inr (.inr<|.inl h)
   .rcases d with h|⟨_,h⟩
    .exact .inr (.inl<|.inr h)
    .exact .inr (.inr<|.inr h)
  rcases g with rfl|g|hb
  .exact vz (p:=bJ x) sm (λl=>KX (wV h.1) l) l
  .exact vz (p:=a.av) sm (yb h.2.1 g) l
  .exact vz (p:=b.av) sm (yb h.2.2 hb) l
 | .fn f y A B e,h,d,l=>by
  obtain⟨n,o,_,_,_,m⟩:=h;have g:x=f\/x=y\/(x∈fA e\/Fv x e):=by
   rcases d with d|d
   .rcases mC.1 d with h|h
    .exact .inl h
    .rcases mC.1 h with h|h
     .exact .inr<|.inl h
     .exact .inr (.inr<|.inl h)
   .exact .inr (.inr<|.inr d.2.2)
  rcases g with rfl|rfl|g
  .exact vz (p:=bJ x) sm (λl=>KX (wV n) l) l
  .exact vz (p:=bJ x) sm (λl=>KX (wV o) l) l
  .exact vz (p:=e.av) sm (yb m g) l
/-! ### Expressions stay expressions -/
structure KY (r:Bs×Ex×Nat):Prop where
 out:r.2.1.ok
 bs:∀p∈r.1,ey p.1=true/\p.2.ok
theorem KY.au {ai:List aj} {r:Bs×Ex×Nat} (h:KY r) (b:(dO ai r).2.2<=1000):KY (dO ai r):=by
 unfold dO at b⊢;split
 .exact h
 .rename_i c;rw[iN c] at b;have hk:ey (dd cy<|bC cy ai r.2.2)=true:=BB de (by dsimp only at b;omega);refine⟨?_,λp a=>?_⟩
  .show rp _=true;unfold rp;rw[hk];simp
  .rcases mA.1 a with a|a
   .exact h.bs p a
   .simp only[List.mem_singleton] at a;subst a;exact⟨hk,h.out⟩
theorem KZ:∀{bs:Bs} {e:Ex},(∀p∈bs,ey p.1=true/\p.2.ok)->e.ok->(nest bs e).ok:=by intro x;induction x<;>grind [ey,Ex.ok,nest]
theorem yd (ai:List aj):∀(e:Ex) (n:Nat),e.ok->(bf ai e n).2.2<=1000->KY (bf ai e n)
 | .at s,n,h,_=>⟨h,by simp[bf]⟩
 | .un v a,n,h,g=>by have j:=jc ai a n;have l:=rv ai<|bf ai a n;simp only[bf] at g;have d:=(yd ai a n h.2 om).au g;exact⟨⟨h.1,d.out⟩,d.bs⟩
 | .bi v a b,n,h,g=>by have j:=jc ai a n;have l:=rv ai<|bf ai a n;have m:=jc ai b (dO ai<|bf ai a n).2.2;have r:=rv ai<|bf ai b (dO ai<|bf ai a n).2.2;simp only[bf] at g;have d:=(yd ai a n h.2.1 om).au (ai:=ai) om;have hb:=(yd ai b (dO ai<|bf ai a n).2.2 h.2.2 om).au (ai:=ai) g;exact⟨⟨h.1,d.out,hb.out⟩,λp i=>(mA.1 i).elim (d.bs p)<|hb.bs p⟩
 | .ite a b c,n,h,g=>by have j:=jc ai a n;have l:=rv ai<|bf ai a n;have m:=jc ai b (dO ai<|bf ai a n).2.2;have r:=jc ai c (bf ai b (dO ai<|bf ai a n).2.2).2.2;simp only[bf] at g;have d:=(yd ai a n h.1 om).au (ai:=ai) om;have hb:=yd ai b (dO ai<|bf ai a n).2.2 h.2.1 om;have o:=yd ai c (bf ai b (dO ai<|bf ai a n).2.2).2.2 h.2.2 g;exact⟨⟨d.out,KZ hb.bs hb.out,KZ o.bs o.out⟩,d.bs⟩
 | .lt x a b,n,h,g=>by
  have j:=jc ai a n;have m:=jc ai b (bf ai a n).2.2;simp only[bf] at g;have d:=yd ai a n h.2.1 om;have hb:=yd ai b (bf ai a n).2.2 h.2.2 g;refine⟨hb.out,λp i=>?_⟩;rcases mA.1 i with i|i
  .exact d.bs p i
  .rcases mC.1 i with rfl|i
   .exact⟨h.1,d.out⟩
   .exact hb.bs p i
 | .fn f x A B e,n,h,g=>by obtain⟨z,C,q,t,u,y⟩:=h;simp only[bf] at g;have d:=yd ai e n y g;exact⟨⟨z,C,q,t,u,KZ d.bs d.out⟩,by simp[bf]⟩
def qC (bs:Bs):Nat:=(bs.map λp=>2+p.2.n).sum
theorem Vt (a b:Bs):qC (a++b)=qC a+qC b:=by grind [qC]
theorem Vu (p:aj×Ex) (b:Bs):qC (p::b)=2+p.2.n+qC b:=by simp[qC]
theorem O5 (bs:Bs) (e:Ex):(nest bs e).n=qC bs+e.n:=by induction bs<;>grind [nest,Ty.n,Ex.n,qC]
theorem K0 (a:List aj) (r:Bs×Ex×Nat):qC (dO a r).1+(dO a r).2.1.n<=qC r.1+r.2.1.n+3:=by grind [qC,dO,Ty.n,Ex.n]
theorem wX (d:List aj):∀(e:Ex) (n:Nat),qC (bf d e n).1+(bf d e n).2.1.n+3<=4*e.n
 | .at s,n=>by simp[bf,qC,Ex.n]
 | .un g a,n=>by have:=wX d a n;have:=K0 d<|bf d a n;simp only[bf,Ex.n];omega
 | .bi g a b,n=>by have:=wX d a n;have:=K0 d<|bf d a n;have:=wX d b (dO d<|bf d a n).2.2;have:=K0 d<|bf d b (dO d<|bf d a n).2.2;simp only[bf,Ex.n,Vt];omega
 | .ite a b c,n=>by have:=wX d a n;have:=K0 d<|bf d a n;have:=wX d b (dO d<|bf d a n).2.2;have:=wX d c (bf d b (dO d<|bf d a n).2.2).2.2;simp only[bf,Ex.n,O5];omega
 | .lt x a b,n=>by have:=wX d a n;have:=wX d b (bf d a n).2.2;simp only[bf,Ex.n,Vt,Vu];omega
 | .fn f x A B e,n=>by have:=wX d e n;simp only[bf,Ex.n,O5];rw[show qC ([]:Bs)=0 from rfl];omega
/-! ### The normal form -/
def rz (e:Ex):Option Ex:=if(cu (dL e [] []) e [] 0).2<=100 then some (cu (dL e [] []) e [] 0).1 else none
def oK (e:Ex):Option Ex:=(rz e).bind λp=>if(bf (ma p.av []) p 0).2.2<=100 then some (oa (ma p.av []) p 0) else none
theorem O6 {e p:Ex} (h:e.ok) (a:rz e=some p):p.ok:=by
 unfold rz at a;split at a
 .cases a;exact xZ _ e [] 0 h om λs b _=>b
 .cases a
theorem O7 {e q:Ex} (h:e.ok) (a:oK e=some q):q.ok:=by
 unfold oK at a;cases b:rz e with
 |none=>rw[b] at a;cases a
 |some p=>
  rw[b,Option.bind_some] at a;split at a
  .cases a;have:=yd (ma p.av []) p 0 (O6 h b) om;exact KZ this.bs this.out
  .cases a
theorem Vv {e q:Ex} {T:Ty} (h:e.ok) (i:bH e []=some T) (b:oK e=some q):bH q []=some T:=by
 unfold oK at b;cases a:rz e with
 |none=>rw[a] at b;cases b
 |some p=>
  have j:=O6 h a;rw[a,Option.bind_some] at b;split at b
  .rename_i m;cases b;unfold rz at a;split at a
   .rename_i n;cases a;have f:∀s,¬Fv s e:=λs c=>by have:=qB i c;simp[look] at this
    have g:bH (cu (dL e [] []) e [] 0).1 []=some T:=by rw[<-i];exact x4 _ e [] 0 [] [] om λs _ c=>absurd c<|f s
    have d:∀s,¬Fv s (cu (dL e [] []) e [] 0).1:=λs c=>by have:=qB g c;simp[look] at this
    refine ahC ⟨(x5 _ e [] 0).1,λx _=>d x,λx l=>yb j l []⟩ om g
   .cases a
  .cases b
/-! ### Target types -/
def BD (x:aq):aq:=.mk [] [bJ [101],.mk [] [bJ [116],.mk [] [bJ [99],bJ [118],x],bJ [118]]]
def sh:Ty->aq
 | .i=>bJ [105]
 | .op false a b=>.mk [] [bJ [116],sh a,sh b]
 | .op true a b=>.mk [] [bJ [101],.mk [] [bJ [116],.mk [] [bJ [99],bJ [118],sh a,BD (sh b)],bJ [118]]]
def bD (t:Ty):aj:=(sh t).text
def dN (s:aj):aj:=[40,101,32,40,116,32,40,99,32,118,32]++s++[41,32,118,41,41]
theorem vA (c:UInt8) (h:fj c=true):Good (bJ [c]):=.au _ sm<|by simp[h]
theorem Vx {x:aq} (h:Good x):Good (BD x):=by
 refine .list _ sm λp a=>?_;simp only[mC,List.not_mem_nil,or_false] at a;rcases a with rfl|rfl
 .exact vA _ de
 .refine .list _ sm λp a=>?_;simp only[mC,List.not_mem_nil,or_false] at a;rcases a with rfl|rfl|rfl
  .exact vA _ de
  .refine .list _ sm λp a=>?_;simp only[mC,List.not_mem_nil,or_false] at a;rcases a with rfl|rfl|rfl
   .exact vA _ de
   .exact vA _ de
   .exact h
  .exact vA _ de
theorem Vy (x:aq):(BD x).text=dN x.text:=by simp_all[BD,aq.text,Ty.text,dN,bJ,r7,sS,rl,rk]
theorem O8 (s:aj):(dN s).length=s.length+16:=by simp[dN]
theorem Vz (x:aq):(BD x).depth=max 3 (x.depth+3):=by have a:∀c:UInt8,(bJ [c]).depth=0:=λc=>rfl;unfold BD;simp only[aq.depth,aq.depth.deeps,bJ];omega
theorem FI:∀t:Ty,Good (sh t)
 | .i=>vA _ de
 | .op false a b=>by
  refine .list _ sm λp c=>?_;simp only[mC,List.not_mem_nil,or_false] at c;rcases c with rfl|rfl|rfl
  .exact vA _ de
  .exact FI a
  .exact FI b
 | .op true a b=>by
  refine .list _ sm λp c=>?_;simp only[mC,List.not_mem_nil,or_false] at c;rcases c with rfl|rfl
  .exact vA _ de
  .refine .list _ sm λp c=>?_;simp only[mC,List.not_mem_nil,or_false] at c;rcases c with rfl|rfl|rfl
   .exact vA _ de
   .refine .list _ sm λp c=>?_;simp only[mC,List.not_mem_nil,or_false] at c;rcases c with rfl|rfl|rfl|rfl
    .exact vA _ de
    .exact vA _ de
    .exact FI a
    .exact Vx<|FI b
   .exact vA _ de
theorem VB:bD .i=[105]:=r7 sm
theorem VC (a b:Ty):bD (.op false a b)=[40,116,32]++bD a++[32]++bD b++[41]:=by simp_all[bD,bJ,aq.text,Ty.text,sh,r7,sS,rl,rk]
theorem VD (a b:Ty):bD (.op true a b)=[40,101,32,40,116,32,40,99,32,118,32]++bD a++[32]++dN (bD b)++[41,32,118,41,41]:=by simp_all[bD,dN,bJ,aq.text,Ty.text,sh,BD,r7,sS,rl,rk,Vy]
theorem DA:∀t:Ty,(bD t).length+16<=17*t.n
 | .i=>by rw[VB];simp[Ty.n]
 | .op false a b=>by have:=DA a;have:=DA b;rw[VC];simp only[lA,lC,List.length_nil,Ty.n];omega
 | .op true a b=>by have:=DA a;have:=DA b;rw[VD];simp only[lA,lC,List.length_nil,Ty.n,O8];omega
theorem FJ:∀t:Ty,(sh t).depth+3<=3*t.n
 | .i=>by simp[sh,bJ,aq.depth,aq.depth.deeps,Ty.n]
 | .op false a b=>by have:=FJ a;have:=FJ b;have:=a.pos;have:=b.pos;simp only[sh,aq.depth,aq.depth.deeps,bJ,Ty.n];omega
 | .op true a b=>by have:=FJ a;have:=FJ b;have:=a.pos;have:=b.pos;have c:=Vz<|sh b;simp only[sh,aq.depth,aq.depth.deeps,bJ,Ty.n,c];omega
/-! ### The maker's state -/
structure Tk where
 aO:aj
 regs:List aj
 loads:Nat
 self:List aj
 sc:List (aj×Nat×Ty)
 expr:Ex
 on:Nat
 aX:aj
 next:Nat
structure Mk where
 blocks:List Bk
 bM:List Tk
 count:Nat
 wide:Bool
 code:List aj
 types:List aj
abbrev cT:=List<|aj×Nat×Ty
def fh (s:cT):Sc:=s.map λp=>(p.1,p.2.2)
theorem FK (s:cT) (x:aj) (r:Nat) (T:Ty):fh (s++[(x,r,T)])=fh s++[(x,T)]:=by simp[fh]
def lk (s:cT) (x:aj):Nat:=((s.reverse.find? λp=>decide<|p.1=x).map λp=>p.2.1).getD 0
def kY (s:cT) (x:aj):Ty:=(look (fh s) x).getD .i
def Mk.dA (m:Mk) (a:aj):Mk:={m with types:=m.types++[a],wide:=m.wide||decide (40<m.types.length+1)}
def Mk.cR (m:Mk) (h:aj) (a:List aj):Mk:={m with code:=m.code++[eH h a]}
def Mk.mc (m:Mk):Mk:={m with count:=m.count+1}
def Mk.aO (m:Mk):aj:=98::aS m.count
abbrev K1:aj:=[99,111,110,115,116]
abbrev mE:aj:=[110,101,119]
abbrev ub:aj:=[108,97,98]
abbrev ug:aj:=[112,97,99,107]
abbrev BE:aj:=[111,112,101,110]
abbrev uh:aj:=[103,101,116]
abbrev oL:aj:=[109,111,118]
abbrev BF:aj:=[106,117,109,112]
abbrev H4:aj:=[122,101,114,111]
abbrev DB:aj:=[109,97,105,110]
abbrev BG:aj:=[101,110,100]
def Ex.au:Ex->aj
 | .at s=>s
 |_=>[]
theorem Ex.si (e:Ex):e.av.au=e.au:=by cases e<;>rfl
def cF (m:Mk) (s:cT) (a:aj):Mk×Nat:=if ey a then(m,lk s a) else((m.dA [105]).cR K1 [aS m.types.length,a],m.types.length)
structure Pk where
 m:Mk
 r:Nat
 w:aj
def pW (m:Mk) (s:cT) (b:Nat) (aL:List aj) (on aO a:aj) (cM:List aj):Pk:=
 let regs:=aL.map (λx=>aS<|lk s x)++(if on≠[] then[aS b] else[]);let c:=aL.map (λx=>bD<|kY s x)++(if on≠[] then[on] else[]);let w:=eH [116] c;let r:=m.types.length;let code:=eH [99] (w::cM)
 ⟨(((((((m.dA w).cR mE (aS r::regs)).dA code).cR ub [aS<|r+1,aO]).dA<|eH [116] [code,w]).cR mE [aS<|r+2,aS<|r+1,aS r]).dA a).cR ug [aS<|r+3,aS<|r+2,a,w],r+3,w⟩
def jf (s:cT) (k:Nat) (aL:List aj) (a:cT):cT:=a++(aL.zipIdx).map λp=>(p.1,k+p.2,kY s p.1)
def ph (m:Mk) (s:cT) (f x:aj) (A B:Ty) (e:Ex):Pk:=pW m.mc s 0 (dL (.fn f x A B e) [] []) [] m.aO (bD<|.op true A B) [bD A,dN (bD B)]
def BH (s:cT) (f x:aj) (A B:Ty) (e:Ex):cT:=
 (if 0<kL f e then jf s 3 (dL (.fn f x A B e) [] []) []++[(f,3+(dL (.fn f x A B e) [] []).length+2,.op true A B)] else jf s 3 (dL (.fn f x A B e) [] []) [])++[(x,1,A)]
def BI (m:Mk) (s:cT) (f x:aj) (A B:Ty) (e:Ex):Tk:=
 ⟨m.aO,[(ph m s f x A B e).w,bD A,dN (bD B)],(dL (.fn f x A B e) [] []).length,if 0<kL f e then[bD<|.op true A B,(ph m s f x A B e).w] else[],BH s f x A B e,e,2,dN<|bD B,3⟩
def BJ (m:Mk) (s:cT) (f x:aj) (A B:Ty) (e:Ex):Mk×Nat:=
 ({(ph m s f x A B e).m with bM:=(ph m s f x A B e).m.bM++[BI m s f x A B e]},(ph m s f x A B e).r)
def rB (h:aj):aj:=if h=[43] then[97,100,100] else if h=[45] then[115,117,98] else if h=[42] then[109,117,108] else mE
def oc (m:Mk) (s:cT) (c:Ty):Ex->Mk×Nat
 | .at a=>cF m s a
 | .fn f x A B e=>BJ m s f x A B e
 | .un h a=>
  let p:=cF m s a.au
  ((p.1.dA<|bD c).cR uh [aS p.1.types.length,aS p.2,if h=se then[49] else[48]],p.1.types.length)
 | .bi h a b=>
  let p:=cF m s a.au;let q:=cF p.1 s b.au
  ((q.1.dA<|bD c).cR (rB h) [aS q.1.types.length,aS p.2,aS q.2],q.1.types.length)
 | .ite a b _=>
  let p:=cF m s a.au;let q:=cF p.1 s b.au
  ((q.1.dA<|bD c).cR (rB il) [aS q.1.types.length,aS p.2,aS q.2],q.1.types.length)
 | .lt x a _=>
  let p:=cF m s x;let q:=cF p.1 s a.au
  ((q.1.dA<|bD c).cR (rB gR) [aS q.1.types.length,aS p.2,aS q.2],q.1.types.length)
def pj (m:Mk) (s:cT) (b:Nat) (aX name:aj) (a:Ty) (rest:Ex):Pk:=pW m.mc s b (dL rest [name] []) aX m.aO (dN<|bD a) [bD a]
def K2 (m:Mk) (s:cT) (b:Nat) (aX name:aj) (a:Ty) (rest:Ex):Tk:=
 ⟨m.aO,[(pj m s b aX name a rest).w,bD a],(dL rest [name] []).length+1,[],jf s 2 (dL rest [name] []) []++[(name,1,a)],rest,2+(dL rest [name] []).length,aX,2⟩
def vB (m:Mk) (s:cT) (b:Nat) (aX name:aj) (a:Ty) (rest:Ex):Mk×Nat×aj:=
 ({(pj m s b aX name a rest).m with bM:=(pj m s b aX name a rest).m.bM++[K2 m s b aX name a rest]},(pj m s b aX name a rest).r,dN<|bD a)
def ui (m:Mk) (s:Nat):Mk:=
 let r:=m.types.length
 (((((m.dA []).cR BE [aS r,aS s]).dA []).cR uh [aS<|r+1,aS r,[48]]).dA []).cR uh [aS<|r+2,aS r,[49]]
def zM (m:Mk) (f x:Nat) (on:Nat):Mk:=
 let r:=m.types.length
 ((((ui m f).cR oL [[48],aS (r+2)]).cR oL [[49],aS x]).cR oL [[50],aS on]).cR BF [aS (r+1)]
def zN (m:Mk) (on r:Nat):Mk:=
 let q:=m.types.length
 (((ui m on).cR oL [[48],aS (q+2)]).cR oL [[49],aS r]).cR BF [aS (q+1)]
structure Goal where
 name:aj
 s:Ex
 rest:Ex
def bL:Ex->Goal
 | .lt x a b=>⟨x,a,b⟩
 |e=>⟨[],e,e⟩
def oN (s:cT) (e:Ex):Ty:=(bH e<|fh s).getD .i
structure At where
 m:Mk
 s:cT
 on:Nat
 aX:aj
def K3 (a:At) (g:Goal):At:=
 if g.name≠[] then let c:=vB a.m a.s a.on a.aX g.name (oN a.s g.s) g.rest;⟨c.1,a.s,c.2.1,c.2.2⟩ else a
def kZ (a:At) (e:Ex):Mk ⊕ At×Ex:=
 let g:=bL e
 match g.s with
 | .bi h f x=>
  if h=kX then
   let p:=cF a.m a.s f.au;let q:=cF p.1 a.s x.au;let b:=K3 {a with m:=q.1} g
   .inl (zM b.m p.2 q.2 b.on)
  else
   let p:=oc a.m a.s (oN a.s g.s) g.s
   if g.name=[] then .inl (zN p.1 a.on p.2) else .inr ({a with m:=p.1,s:=a.s++[(g.name,p.2,oN a.s g.s)]},g.rest)
 | .ite c x y=>
  let p:=cF a.m a.s c.au;let b:=K3 {a with m:=p.1} g;let aO:=b.m.aO;let d:=b.m.mc.cR H4 [aS p.2,aO];let i:Tk:=⟨aO,d.types,0,[],a.s,x,b.on,b.aX,d.types.length⟩
  .inr ({b with m:={d with bM:=d.bM++[i]}},y)
 |s=>
  let p:=oc a.m a.s (oN a.s s) s
  if g.name=[] then .inl (zN p.1 a.on p.2) else .inr ({a with m:=p.1,s:=a.s++[(g.name,p.2,oN a.s s)]},g.rest)
structure Fr (L:List Nat) (w:World) (L':List Nat) (w':World):Prop where
 aG:ak L w w'
 mem:∀x∈L',x∈L\/w.heap.size<=x
theorem Fr.refl (L:List Nat) (w:World):Fr L w L w:=⟨ak.refl L w,λx a=>.inl a⟩
theorem Fr.go {L2:List Nat} (h:Fr L w L1 w1) (k:Fr L1 w1 L2 w2):Fr L w L2 w2:=
 ⟨h.aG.since k.aG h.mem,λx b=>by
  rcases k.mem x b with a|a
  .exact h.mem x a
  .have:=h.aG.size;right;omega⟩
theorem Fr.ext (h:Fr L w L1 w1) (k:ak [] w1 w2):Fr L w L1 w2:=⟨h.aG.trans k.any,h.mem⟩
theorem Fr.aB (h:Fr L w L1 w1) (k:ak G w1 w2) (a:∀x∈G,x∈L1):Fr L w L1 w2:=⟨h.aG.since (k.mono a) h.mem,h.mem⟩
theorem Fr.of (k:ak G w w') (a:∀x∈G,x∈L):Fr L w L w':=⟨k.mono a,λx b=>.inl b⟩
theorem Fr.to {L2:List Nat} (h:Fr L w L1 w1) (b:∀x∈L2,x∈L1\/w.heap.size<=x):Fr L w L2 w1:=⟨h.aG,λx c=>by
 rcases b x c with a|a
 .exact h.mem x a
 .exact .inr a⟩
theorem Fr.grow (h:Fr L w L1 w1):Fr L w (w1.heap.size::L1) w1:=h.to λx a=>by
 rcases mC.1 a with rfl|a
 .exact .inr h.aG.size
 .exact .inl a
theorem cg.go {c:C} (h:cg L w v c) (k:Fr L w L' w'):cg L' w' v c:=by
 have b:cg (L++L') w v c:=h.fresh λx a=>by
  rcases mA.1 a with a|a
  .exact .inl a
  .exact k.mem x a
 exact(b.aG<|k.aG.mono λx a=>List.mem_append_left _ a).weaken λx a=>mR _ a
theorem dz.go {a:List C} (h:dz L w vs a) (k:Fr L w L' w'):dz L' w' vs a:=dz.of h.length λ_ _ _ c b=>(h.get c b).go k
theorem iZ.go {a:List C} (h:iZ L w v a) (k:Fr L w L' w'):iZ L' w' v a:=let⟨vs,e,h⟩:=h;⟨vs,e,h.go k⟩
theorem bg.go (h:bg L w v t) (k:Fr L w L' w'):bg L' w' v t:=iZ.go h k
theorem cY.go {t:List aq} (h:cY L w v t) (k:Fr L w L' w'):cY L' w' v t:=cg.go h k
theorem bu.go (h:bu L w v xs) (k:Fr L w L' w'):bu L' w' v xs:=cg.go h k
theorem bu.fresh (h:bu L w v xs) (a:∀x∈L',x∈L\/w.heap.size<=x):bu L' w v xs:=cg.fresh h a
theorem bg.fresh (h:bg L w v t) (a:∀x∈L',x∈L\/w.heap.size<=x):bg L' w v t:=iZ.fresh h a
structure gd (L:List Nat) (w:World) (b off:Nat) (vs:List Value):Prop where
 cells:fP w b off vs
 lt:b<w.heap.size
 out:b∉L
theorem gd.go (h:gd L w b off vs) (k:Fr L w L' w'):gd L' w' b off vs:=
 ⟨λj v c=>(World.cell?_of_block<|k.aG.block b h.lt h.out).trans<|h.cells j v c,lL h.lt k.aG.size,λd=>by
  rcases k.mem b d with a|a
  .exact h.out a
  .have:=h.lt;omega⟩
theorem gd.ext (h:gd L w b off vs) (k:ak [] w w'):gd L w' b off vs:=h.go<|Fr.of k sm
theorem gd.aB (h:gd L w b off vs) (k:ak G w w') (a:∀x∈G,x∈L):gd L w' b off vs:=h.go (Fr.of k a)
/-! ### Tasks -/
def vC (a:List Nat):List (List C):=a.map λx:Nat=>[.val (.int .i64 (x:Int))]
def zO (L:List Nat) (w:World) (v:Value) (a:List Nat):Prop:=cg L w v (.sl 1<|vC a)
theorem zO.ext {a:List Nat} (h:zO L w v a) (k:ak [] w w'):zO L w' v a:=cg.ext h k
theorem zO.go {a:List Nat} (h:zO L w v a) (k:Fr L w L' w'):zO L' w' v a:=cg.go h k
theorem ahH {a:Option Addr} {n c x:Nat} {e:List Nat} (h:zO L w (.slice a n c) e) (l:e[i]?=some x):
  ∃b off,a=some ⟨b,off,none⟩/\fP w b (off+i*1) [.int .i64 (x:Int)]:=by
 obtain⟨b,off,vs,g,hb,_,_,j,d⟩:=zh h (show(vC e)[i]?=some [.val (.int .i64 (x:Int))] by simp[vC,l])
 match vs,d with
 |[v],d=>obtain⟨f,_⟩:=d;cases f;exact⟨b,off,g,j⟩
 |[],d=>exact d.elim
 |_::_::_,d=>exact d.2.elim
def ku (s:cT):List aj:=s.map λp=>p.1
def ye (s:cT):List Nat:=s.map λp=>p.2.1
def pX (s:cT):List aj:=s.map λp=>p.2.2.text
theorem ahI (s:cT) (x:aj) (r:Nat) (T:Ty):ku (s++[(x,r,T)])=ku s++[x]:=by simp[ku]
theorem ahJ (s:cT) (x:aj) (r:Nat) (T:Ty):ye (s++[(x,r,T)])=ye s++[r]:=by simp[ye]
theorem ahK (s:cT) (x:aj) (r:Nat) (T:Ty):pX (s++[(x,r,T)])=pX s++[T.text]:=by simp[pX]
def Tk.enc (t:Tk):List C:=
 [.val<|str t.aO,.sl 1<|fQ t.regs,.val<|.int .i64 (t.loads:Int),.sl 1<|fQ t.self,.sl 1 (fQ<|ku t.sc),.sl 1 (vC<|ye t.sc),.sl 1 (fQ<|pX t.sc),.val<|str t.expr.av.au,.sl 2<|di t.expr.av.ag,.val<|.int .i64 (t.on:Int),.val<|str t.aX,.val (.int .i64 (t.next:Int))]
structure po (L:List Nat) (w:World) (t:Tk) (v1 v3 v4 v5 v6 v8:Value):Prop where
 regs:bu L w v1 t.regs
 self:bu L w v3 t.self
 aL:bu L w v4 (ku t.sc)
 at_:zO L w v5 (ye t.sc)
 types:bu L w v6 (pX t.sc)
 ag:cY L w v8 t.expr.av.ag
def qE (t:Tk) (a b c d e f:Value):List Value:=
 [str t.aO,a,.int .i64 (t.loads:Int),b,c,d,e,str t.expr.av.au,f,.int .i64 (t.on:Int),str t.aX,.int .i64 (t.next:Int)]
theorem ahL {t:Tk} (h:dz L w vs t.enc):∃v1 v3 v4 v5 v6 v8,vs=qE t v1 v3 v4 v5 v6 v8/\po L w t v1 v3 v4 v5 v6 v8:=by
 have a:=h.length;unfold Tk.enc at h a
 match vs,a,h with
 |[_,p,_,q,r,s,u,_,v,_,_,_],_,h=>obtain⟨c,d,e,f,g,i,j,l,m,n,b,o,_⟩:=h;cases c;cases e;cases l;cases n;cases b;cases o;exact⟨p,q,r,s,u,v,rfl,d,f,g,i,j,m⟩
theorem po.Dj {t:Tk} (h:po L w t v1 v3 v4 v5 v6 v8):dz L w (qE t v1 v3 v4 v5 v6 v8) t.enc:=
 ⟨.val _,h.regs,.val _,h.self,h.aL,h.at_,h.types,.val _,h.ag,.val _,.val _,.val _,trivial⟩
theorem po.go {t:Tk} (h:po L w t v1 v3 v4 v5 v6 v8) (k:Fr L w L' w'):po L' w' t v1 v3 v4 v5 v6 v8:=
 ⟨h.regs.go k,h.self.go k,h.aL.go k,h.at_.go k,h.types.go k,h.ag.go k⟩
theorem po.ext {t:Tk} (h:po L w t v1 v3 v4 v5 v6 v8) (k:ak [] w w'):po L w' t v1 v3 v4 v5 v6 v8:=h.go<|Fr.of k sm
theorem po.aB {t:Tk} (h:po L w t v1 v3 v4 v5 v6 v8) (k:ak G w w') (a:∀x∈G,x∈L):po L w' t v1 v3 v4 v5 v6 v8:=h.go<|Fr.of k a
theorem po.grow {t:Tk} (h:po L w t v1 v3 v4 v5 v6 v8):po (w.heap.size::L) w t v1 v3 v4 v5 v6 v8:=h.go<|(Fr.refl L w).grow
def iE (L:List Nat) (w:World) (T:TypeId) (b:Nat) (t:Tk):Prop:=∃v1 v3 v4 v5 v6 v8,aJ w b (qE t v1 v3 v4 v5 v6 v8).toArray T/\po L w t v1 v3 v4 v5 v6 v8
theorem iE.ext {T:TypeId} {t:Tk} (h:iE L w T b t) (k:ak [] w w'):iE L w' T b t:=by obtain⟨v1,v3,v4,v5,v6,v8,hb,a⟩:=h;exact⟨v1,v3,v4,v5,v6,v8,hb.aG k sm,a.ext k⟩
theorem iE.go {T:TypeId} {t:Tk} (h:iE L w T b t) (k:Fr L w L' w') (d:ak G w w') (hb:b∉G):iE L' w' T b t:=by obtain⟨v1,v3,v4,v5,v6,v8,a,c⟩:=h;exact⟨v1,v3,v4,v5,v6,v8,a.aG d hb,c.go k⟩
/-! ### The maker -/
theorem cV.ahM {T:TypeId} (h:cV w T v g xs):jv w T 1 v g (fQ xs).length (xs.map λx=>str x):=by rw[pR];exact h
structure eh (L:List Nat) (w:World) (T:TypeId) (sz:Nat) (v:Value) (g:Option Nat) (rows:List (List C)):Prop where
 own:∃xs,jv w T sz v g rows.length xs/\dz L w xs rows.flatten
 row:∀row∈rows,row.length=sz
theorem eh.aG {T:TypeId} (h:eh L w T sz v g rows) (k:Fr L w L' w') (e:ak G w w') (d:∀x∈g.toList,x∉G):eh L' w' T sz v g rows:=by obtain⟨xs,a,c⟩:=h.own;exact⟨⟨xs,a.aG e λb hb=>d b<|by simp[hb],c.go k⟩,h.row⟩
theorem eh.len {T:TypeId} (h:eh L w T sz v g rows):∃a cap,v= .slice a rows.length cap:=by obtain⟨xs,b,_⟩:=h.own;exact b.len
theorem eh.lt {T:TypeId} (h:eh L w T sz v g rows):∀x∈g.toList,x<w.heap.size:=by obtain⟨xs,a,_⟩:=h.own;intro x b;exact a.lt x (by simpa using b)
theorem eh.rep {T:TypeId} (h:eh L w T sz v g rows) (d:∀x∈g.toList++L',x∈L\/w.heap.size<=x) (e:∀x∈g.toList,x∉L'):cg L' w v (.sl sz rows):=by obtain⟨xs,a,c⟩:=h.own;exact iL.done (L:=L') ⟨a,c.fresh d,h.row,λb hb=>e b<|by simp[hb]⟩
theorem eh.gr {B:Nat} {T:TypeId} (h:eh L w T sz v g rows) (e:∀x∈g.toList,x∈L) (d:∀b,g=some b->B<=b) (f:B<=w.heap.size):Gr B [] w T sz v g rows:=by obtain⟨xs,a,c⟩:=h.own;exact⟨⟨xs,a,c.fresh λx i=>.inl (e x<|by simpa using i),h.row,sm⟩,d,sm,f⟩
theorem Gr.down {B B':Nat} {T:TypeId} (h:Gr B L w T sz v g rows) (a:B'<=B):Gr B' L w T sz v g rows:=
 ⟨h.own,λb hb=>Nat.le_trans a<|h.low b hb,h.cN,Nat.le_trans a h.bsz⟩
structure uj where
 M:TypeId
 B:TypeId
 T:TypeId
 S:TypeId
structure im (τ:uj) (E L:List Nat) (w:World) (b:Nat) (o:Bool) (vb vt vc vy:Value) (gb gt gc gy:Option Nat) (m:Mk):Prop where
 bl:eh L w τ.B 3 vb gb (m.blocks.map Bk.enc)
 ta:eh L w τ.T 12 vt gt (m.bM.map Tk.enc)
 co:(o=true/\cV w τ.S vc gc m.code)\/(o=false/\gc=none/\bu L w vc m.code)
 ty:cV w τ.S vy gy m.types
 eL:L=E++b::(gb.toList++(gt.toList++(gc.toList++gy.toList)))
 nd:L.Nodup
 cN:∀x∈L,x<w.heap.size
section
variable {τ:uj} {E L:List Nat} {w w':World} {b:Nat} {o:Bool} {vb vt vc vy:Value} {gb gt gc gy:Option Nat} {m:Mk}
theorem zP {A B C D E:List Nat} {b x:Nat}:x∈E++b::(A++(B++(C++D)))↔x∈E\/x=b\/x∈A\/x∈B\/x∈C\/x∈D:=by simp
theorem im.mem (h:im τ E L w b o vb vt vc vy gb gt gc gy m) {x:Nat}:x∈L↔x∈E\/x=b\/x∈gb.toList\/x∈gt.toList\/x∈gc.toList\/x∈gy.toList:=by rw[h.eL];exact zP
theorem im.apart (h:im τ E L w b o vb vt vc vy gb gt gc gy m):E.Nodup/\b∉E/\
  (∀x∈gb.toList,x∉E/\x≠b)/\(∀x∈gt.toList,x∉E/\x≠b/\x∉gb.toList)/\(∀x∈gc.toList,x∉E/\x≠b/\x∉gb.toList/\x∉gt.toList)/\
  (∀x∈gy.toList,x∉E/\x≠b/\x∉gb.toList/\x∉gt.toList/\x∉gc.toList):=by
 have j:=h.nd;rw[h.eL] at j;rw[List.nodup_append] at j;obtain⟨s,n,f⟩:=j;rw[List.nodup_cons] at n;obtain⟨g,p⟩:=n;rw[List.nodup_append] at p;obtain⟨_,q,i⟩:=p;rw[List.nodup_append] at q;obtain⟨_,l,r⟩:=q;rw[List.nodup_append] at l;obtain⟨_,_,t⟩:=l;refine⟨s,λhb=>f b hb b sm rfl,λx a=>⟨λd=>f x d x (by simp[a]) rfl,λe=>g<|by simp[<-e,a]⟩,λx a=>⟨λd=>f x d x (by simp[a]) rfl,λe=>g<|by simp[<-e,a],λc=>i x c x (by simp[a]) rfl⟩,
  λx a=>⟨λd=>f x d x (by simp[a]) rfl,λe=>g<|by simp[<-e,a],λc=>i x c x (by simp[a]) rfl,λc=>r x c x (by simp[a]) rfl⟩,
  λx a=>⟨λd=>f x d x (by simp[a]) rfl,λe=>g<|by simp[<-e,a],λc=>i x c x (by simp[a]) rfl,λc=>r x c x (by simp[a]) rfl,λc=>t x c x a rfl⟩⟩
theorem O9 (g:Option Nat):g.toList.Nodup:=by cases g<;>simp
theorem ahN {A B C D:Option Nat} {F:List Nat} {b:Nat} (a:F.Nodup) (c:b∉F) (d:∀x∈A.toList,x∉F/\x≠b) (hb:∀x∈B.toList,x∉F/\x≠b/\x∉A.toList) (e:∀x∈C.toList,x∉F/\x≠b/\x∉A.toList/\x∉B.toList) 
  (f:∀x∈D.toList,x∉F/\x≠b/\x∉A.toList/\x∉B.toList/\x∉C.toList):(F++b::(A.toList++(B.toList++(C.toList++D.toList)))).Nodup:=by grind [O9,List.nodup_append,List.nodup_cons]
theorem im.swap (h:im τ E L w b o vb vt vc vy gb gt gc gy m) (k:ak G w w') (v:∀x∈G,x∈L/\x≠b/\x∉E) {gb' gt' gc' gy':Option Nat} 
  (i:∀x∈gb'.toList,x∈gb.toList\/w.heap.size<=x/\x∉gt'.toList/\x∉gc'.toList/\x∉gy'.toList) (l:∀x∈gt'.toList,x∈gt.toList\/w.heap.size<=x/\x∉gb'.toList/\x∉gc'.toList/\x∉gy'.toList)
  (p:∀x∈gc'.toList,x∈gc.toList\/w.heap.size<=x/\x∉gb'.toList/\x∉gt'.toList/\x∉gy'.toList) (r:∀x∈gy'.toList,x∈gy.toList\/w.heap.size<=x/\x∉gb'.toList/\x∉gt'.toList/\x∉gc'.toList):
  Fr L w (E++b::(gb'.toList++(gt'.toList++(gc'.toList++gy'.toList)))) w'/\(E++b::(gb'.toList++(gt'.toList++(gc'.toList++gy'.toList)))).Nodup:=by
 obtain⟨s,t,u,n,j,g⟩:=h.apart;have q:∀x,x∈E\/x=b->x<w.heap.size:=λx c=>h.cN x<|h.mem.2 (by rcases c with c|c<;>simp[c]);have f:∀x,w.heap.size<=x->x∉E/\x≠b:=λx c=>⟨λy=>by have:=q x<|.inl y;omega,λe=>by have:=q x<|.inr e;omega⟩;refine⟨⟨k.mono λx c=>(v x c).1,λx c=>?_⟩,ahN s t (λx c=>?_) (λx c=>?_) (λx c=>?_) λx c=>?_⟩
 .rw[zP] at c;rcases c with c|c|c|c|c|c
  .exact .inl (h.mem.2<|.inl c)
  .exact .inl<|h.mem.2 (.inr<|.inl c)
  .rcases i x c with a|a
   .exact .inl (h.mem.2<|by simp[a])
   .exact .inr a.1
  .rcases l x c with a|a
   .exact .inl (h.mem.2<|by simp[a])
   .exact .inr a.1
  .rcases p x c with a|a
   .exact .inl (h.mem.2<|by simp[a])
   .exact .inr a.1
  .rcases r x c with a|a
   .exact .inl (h.mem.2<|by simp[a])
   .exact .inr a.1
 .rcases i x c with a|a
  .exact u x a
  .exact f x a.1
 .rcases l x c with a|a
  .refine⟨(n x a).1,(n x a).2.1,λhb=>?_⟩;rcases i x hb with d|d
   .exact(n x a).2.2 d
   .exact d.2.1 c
  .exact⟨(f x a.1).1,(f x a.1).2,a.2.1⟩
 .rcases p x c with a|a
  .refine⟨(j x a).1,(j x a).2.1,λhb=>?_,λhb=>?_⟩
   .rcases i x hb with d|d
    .exact(j x a).2.2.1 d
    .exact d.2.2.1 c
   .rcases l x hb with d|d
    .exact(j x a).2.2.2 d
    .exact d.2.2.1 c
  .exact⟨(f x a.1).1,(f x a.1).2,a.2.1,a.2.2.1⟩
 .rcases r x c with a|a
  .refine⟨(g x a).1,(g x a).2.1,λhb=>?_,λhb=>?_,λhb=>?_⟩
   .rcases i x hb with d|d
    .exact(g x a).2.2.1 d
    .exact d.2.2.2 c
   .rcases l x hb with d|d
    .exact(g x a).2.2.2.1 d
    .exact d.2.2.2 c
   .rcases p x hb with d|d
    .exact(g x a).2.2.2.2 d
    .exact d.2.2.2 c
  .exact⟨(f x a.1).1,(f x a.1).2,a.2.1,a.2.2.1,a.2.2.2⟩
theorem im.K4 (h:im τ E L w b o vb vt vc vy gb gt gc gy m) {x:Nat} (a:x∈gb.toList\/x∈gt.toList\/x∈gc.toList\/x∈gy.toList):x<w.heap.size:=h.cN x (h.mem.2<|by simp only[a,or_true])
theorem cV.lt {w:World} {T:TypeId} (h:cV w T v g xs):∀x∈g.toList,x<w.heap.size:=λx a=>jv.lt h x<|by simpa using a
theorem im.Pa (h:im τ E L w b o vb vt vc vy gb gt gc gy m) {l:List aj} (c:cV w' τ.S v g l) (k:ak gy.toList w w') (p:∀x,g=some x->gy=some x\/w.heap.size<=x):
  ∃L',im τ E L' w' b o vb vt vc v gb gt gc g {m with types:=l}/\Fr L w L' w':=by
 obtain⟨_,_,_,_,_,e⟩:=h.apart;have q:∀x∈g.toList,x∈gy.toList\/w.heap.size<=x/\x∉gb.toList/\x∉gt.toList/\x∉gc.toList:=λx a=>by
  rcases p x (by simpa using a) with d|d
  .exact .inl<|by simp[d]
  .refine .inr ⟨d,λj=>?_,λj=>?_,λj=>?_⟩<;>have:=h.K4 (x:=x) (by simp[j])<;>omega
 obtain⟨i,n⟩:=h.swap k (λx a=>⟨h.mem.2<|by simp[a],(e x a).2.1,(e x a).1⟩) (gb':=gb) (gt':=gt) (gc':=gc) (gy':=g) (λx a=>.inl a) (λx a=>.inl a) (λx a=>.inl a) q;refine⟨_,⟨h.bl.aG i k λx a c=>(e x c).2.2.1 a,h.ta.aG i k λx a c=>(e x c).2.2.2.1 a,?_,c,rfl,n,?_⟩,i⟩
 .rcases h.co with⟨ho,d⟩|⟨ho,hn,d⟩
  .exact .inl ⟨ho,d.aG k λx a c=>(e x c).2.2.2.2<|by simp[a]⟩
  .exact .inr ⟨ho,hn,d.go i⟩
 .intro x a;rw[zP] at a;have f:=k.size;rcases a with a|a|a|a|a|a
  .exact lL (h.cN x (h.mem.2<|by simp[a])) f
  .exact lL (h.cN x (h.mem.2<|by simp[a])) f
  .exact lL (h.cN x (h.mem.2<|by simp[a])) f
  .exact lL (h.cN x (h.mem.2<|by simp[a])) f
  .exact lL (h.cN x (h.mem.2<|by simp[a])) f
  .exact c.lt x a
theorem im.K5 (h:im τ E L w b o vb vt vc vy gb gt gc gy m) {l:List aj} (c:cV w' τ.S v g l) (k:ak gc.toList w w') (q:∀x,g=some x->gc=some x\/w.heap.size<=x):
  ∃L',im τ E L' w' b true vb vt v vy gb gt g gy {m with code:=l}/\Fr L w L' w':=by
 obtain⟨_,_,_,_,e,n⟩:=h.apart;have r:∀x∈g.toList,x∈gc.toList\/w.heap.size<=x/\x∉gb.toList/\x∉gt.toList/\x∉gy.toList:=λx a=>by
  rcases q x (by simpa using a) with f|f
  .exact .inl<|by simp[f]
  .refine .inr ⟨f,λj=>?_,λj=>?_,λj=>?_⟩<;>have:=h.K4 (x:=x) (by simp[j])<;>omega
 obtain⟨i,p⟩:=h.swap k (λx a=>⟨h.mem.2<|by simp[a],(e x a).2.1,(e x a).1⟩) (gb':=gb) (gt':=gt) (gc':=g) (gy':=gy) (λx a=>.inl a) (λx a=>.inl a) r λx a=>.inl a;refine⟨_,⟨h.bl.aG i k λx a c=>(e x c).2.2.1 a,h.ta.aG i k λx a c=>(e x c).2.2.2 a,.inl ⟨rfl,c⟩,h.ty.aG k λx a c=>(n x<|by simp[a]).2.2.2.2 c,rfl,p,?_⟩,i⟩;intro x a;rw[zP] at a;have d:=k.size;rcases a with a|a|a|a|a|a
 .exact lL (h.cN x (h.mem.2<|by simp[a])) d
 .exact lL (h.cN x (h.mem.2<|by simp[a])) d
 .exact lL (h.cN x (h.mem.2<|by simp[a])) d
 .exact lL (h.cN x (h.mem.2<|by simp[a])) d
 .exact c.lt x a
 .exact lL (h.cN x (h.mem.2<|by simp[a])) d
theorem ahO (t:Tk) (a:v1.oneCell'=true) (b:v3.oneCell'=true) (c:v4.oneCell'=true) (d:v5.oneCell'=true) (e:v6.oneCell'=true) (f:v8.oneCell'=true):(qE t v1 v3 v4 v5 v6 v8).all Value.oneCell'=true:=by simp only[qE,List.all_cons,a,b,c,d,e,f];rfl
theorem FL {L:List Nat} {w:World} (h:cg L w v (.sl sz rows)):v.oneCell'=true:=by cases h<;>rfl
theorem po.one {t:Tk} (h:po L w t v1 v3 v4 v5 v6 v8):(qE t v1 v3 v4 v5 v6 v8).all Value.oneCell'=true:=ahO t (FL h.regs) (FL h.self) (FL h.aL) (FL h.at_) (FL h.types)<|FL h.ag
theorem im.aG (h:im τ E L w b o vb vt vc vy gb gt gc gy m) (k:ak G w w') (l:∀x∈G,x∈b::E):im τ E L w' b o vb vt vc vy gb gt gc gy m:=by
 obtain⟨_,_,f,g,i,j⟩:=h.apart;have q:∀x∈G,x∈L:=λx a=>h.mem.2 (by rcases mC.1 (l x a) with c|c<;>simp[c]);have e:Fr L w L w':=Fr.of k q;have out:∀x,x∉E->x≠b->x∉G:=λx c n p=>by
  rcases mC.1 (l x p) with d|d
  .exact n d
  .exact c d
 refine⟨h.bl.aG e k λx a=>out x (f x a).1 (f x a).2,h.ta.aG e k λx a=>out x (g x a).1 (g x a).2.1,?_,h.ty.aG k λx a=>out x (j x<|by simp[a]).1 (j x<|by simp[a]).2.1,h.eL,h.nd,λx a=>lL (h.cN x a) k.size⟩;rcases h.co with⟨ho,c⟩|⟨ho,hn,c⟩
 .exact .inl ⟨ho,c.aG k λx a=>out x (i x<|by simp[a]).1 (i x<|by simp[a]).2.1⟩
 .exact .inr ⟨ho,hn,c.go e⟩
theorem im.ext (h:im τ E L w b o vb vt vc vy gb gt gc gy m) (k:ak [] w w'):im τ E L w' b o vb vt vc vy gb gt gc gy m:=h.aG k sm
theorem im.drop {x:Nat} (h:im τ (x::E) L w b o vb vt vc vy gb gt gc gy m):∃L',L=x::L'/\im τ E L' w b o vb vt vc vy gb gt gc gy m:=by
 have e:∀y,y∈E++b::(gb.toList++(gt.toList++(gc.toList++gy.toList)))->y∈L:=λy a=>by rw[h.eL];simp only[List.cons_append,mC];exact .inr a
 have c:Fr L w (E++b::(gb.toList++(gt.toList++(gc.toList++gy.toList)))) w:=(Fr.refl L w).to λy a=>.inl<|e y a;have d:=h.nd;rw[h.eL,List.cons_append,List.nodup_cons] at d;refine⟨_,h.eL,⟨h.bl.aG c (ak.refl [] w) sm,h.ta.aG c (ak.refl [] w) sm,?_,h.ty,rfl,d.2,λy a=>h.cN y<|e y a⟩⟩;rcases h.co with⟨ho,h1⟩|⟨ho,hn,h1⟩
 .exact .inl ⟨ho,h1⟩
 .exact .inr ⟨ho,hn,h1.go c⟩
def mkV (m:Mk) (a b vc c:Value):List Value:=[a,b,.int .i64 (m.count:Int),.bool m.wide,vc,c]
def dU (a:uj) (E L:List Nat) (w:World) (b:Nat) (o:Bool) (m:Mk):Prop:=∃vb vt vc vy gb gt gc gy,aJ w b (mkV m vb vt vc vy).toArray a.M/\im a E L w b o vb vt vc vy gb gt gc gy m
theorem dU.ext (h:dU τ E L w b o m) (k:ak [] w w'):dU τ E L w' b o m:=by obtain⟨vb,vt,vc,vy,gb,gt,gc,gy,a,c⟩:=h;exact⟨vb,vt,vc,vy,gb,gt,gc,gy,a.aG k sm,c.ext k⟩
theorem dU.aG (h:dU τ E L w b o m) (k:ak G w w') (d:∀x∈G,x∈E):dU τ E L w' b o m:=by obtain⟨vb,vt,vc,vy,gb,gt,gc,gy,e,c⟩:=h;exact⟨vb,vt,vc,vy,gb,gt,gc,gy,e.aG k λa=>c.apart.2.1<|d b a,c.aG k λx a=>mK _<|d x a⟩
theorem dU.drop {x:Nat} (h:dU τ (x::E) L w b o m):∃L',L=x::L'/\dU τ E L' w b o m:=by obtain⟨vb,vt,vc,vy,gb,gt,gc,gy,a,c⟩:=h;obtain⟨L',e,d⟩:=c.drop;exact⟨L',e,vb,vt,vc,vy,gb,gt,gc,gy,a,d⟩
theorem dU.mem (h:dU τ E L w b o m):(∀x∈b::E,x∈L)/\E.Nodup/\b∉E/\∀x∈L,x<w.heap.size:=by obtain⟨vb,vt,vc,vy,gb,gt,gc,gy,_,a⟩:=h;obtain⟨c,d,_⟩:=a.apart;exact⟨λx e=>a.mem.2 (by rcases mC.1 e with h|h<;>simp[h]),c,d,a.cN⟩
end
section
variable {P:Program} {n:Nat} {l:List Oper} {m:Nat} {W ds:List Nat} {deps:List (List Nat)}
theorem VE {N:Env->World->Prop} {Inv:(Nat->Bool)->Env->World->Prop} (U:vj l m W ds deps=true) 
  (step:∀(S:Nat->Bool) (e:Env) (w:World) (i:Nat) (o:Oper),i<m->l[i]?=some o->S i=false->(∀j,waits o j=true->S j=true)->Inv S e w->
   OW P n l.toArray (λA w'=>Inv (λj=>if j=i then true else S j) A w') [o] e w)
  (u:∀(S:Nat->Bool) (e:Env) (w:World),(∀i,i<m->S i=true)->Inv S e w->OW P n l.toArray N (l.drop m) e w) (Q:Exit->Act->World->Prop):
  ∀(c:Nat) (b:Array Bool) (e:Env) (a:Act) (w:World),Fits n e a->b.size=l.length->
   ((List.range l.length).filter λj=>!b.getD j true).length=c->
   (∀j,m<=j->j<l.length->b.getD j true=false)->Inv (λj=>b.getD j false) e w->Kd l b->
   wpAny P .any l.toArray (ql n N Q) c b a w:=by
 obtain⟨Fk,_,_,_,nu⟩:=Fj U;have K:∀(b:Array Bool) (j:Nat),b.size=l.length->j<l.length->¬b.getD j true=false->b.getD j false=true:=λb j q d p=>by rw[Array.getD_eq_getD_getElem?] at p⊢;rw[Array.getElem?_eq_getElem om] at p⊢;simpa using p
 have Hp:∀(b:Array Bool) (j:Nat),b.size=l.length->j<l.length->b.getD j false=true->b.getD j true=true:=λb j q d p=>by rw[Array.getD_eq_getD_getElem?] at p⊢;rw[Array.getElem?_eq_getElem om] at p⊢;simpa using p
 intro c;induction c with
 |zero=>
  intro b e a w F q M D E nq;have v:∀j,j<l.length->b.getD j true=true:=λj d=>by
   cases H:b.getD j true with
   |true=>rfl
   |false=>
    have:j∈(List.range l.length).filter λj=>!b.getD j true:=by rw[List.mem_filter,List.mem_range];exact⟨d,by rw[H];rfl⟩
    rw[List.length_eq_zero_iff.1 M] at this;cases this
  have hm:m=l.length:=by
   rcases Nat.lt_or_ge m l.length with h|h
   .have:=D m (lR _) h;rw[v m h] at this;cases this
   .omega
  have ht:=u _ e w (λi I=>K b i q om (by rw[v i om];simp)) E;have f:=ht a F Q;exact Ke U 0 m b a w (lR _) om q (λj d=>⟨λh=>(by rw[v j d] at h;cases h),λh=>om⟩) f
 |succ c ih=>
  intro b e a w F q M D E nq;by_cases C:∀j,j<m->b.getD j true=true
  .have ht:=u _ e w (λi I=>K b i q om (by rw[C i I];simp)) E;have f:=ht a F Q;have Bb:∀j,j<l.length->(b.getD j true=false↔m<=j):=λj d=>by
    constructor
    .intro h;rcases Nat.lt_or_ge j m with g|g
     .rw[C j g] at h;cases h
     .exact g
    .intro h;exact D j h d
   have L:m+(c+1)=l.length:=by
    rw[<-M];have:∀k,k<=l.length->m<=k->((List.range k).filter λj=>!b.getD j true).length=k-m:=by
     intro k;induction k with
     |zero=>intro _ h;simp
     |succ k r=>
      intro gY _;rw[List.range_succ,List.filter_append,lA];rcases Nat.lt_or_ge k m with g|g
      .have S4:k+1=m:=by omega
       have hz:((List.range k).filter λj=>!b.getD j true)=[]:=by rw[List.filter_eq_nil_iff];intro j d;rw[List.mem_range] at d;rw[C j om];simp
       have s:(!b.getD k true)=false:=by rw[C k g];rfl
       simp only[hz,List.filter_cons,s,List.filter_nil,List.length_nil];simp;omega
      .rw[r om g];have s:(!b.getD k true)=true:=by rw[(Bb k om).2 g];rfl
       simp only[List.filter_cons,s,List.filter_nil,if_true,lC,List.length_nil];omega
    have:=this l.length (lR _) Fk;omega
   exact Ke U (c+1) m b a w (lR _) L q Bb f
  .have Y:∃j,j<m/\b.getD j true=false/\∀i,i<j->b.getD i true=true:=by
    have:∀k,(∃j,j<k/\b.getD j true=false/\∀i,i<j->b.getD i true=true)\/∀j,j<k->b.getD j true=true:=by
     intro k;induction k with
     |zero=>right;intro j d;omega
     |succ k r=>
      rcases r with⟨j,d,p,f⟩|h
      .exact .inl ⟨j,om,p,f⟩
      .cases H:b.getD k true with
       |false=>exact .inl ⟨k,om,H,h⟩
       |true=>
        right;intro j d;rcases Nat.lt_or_ge j k with g|g
        .exact h j g
        .rw[show j=k from by omega];exact H
    rcases this m with h|h
    .exact h
    .exact absurd h C
   obtain⟨y,_,Hr,Hs⟩:=Y;obtain⟨o0,Ht⟩:∃o,l[y]?=some o:=⟨l[y]'om,gE om⟩;have pP:y∈Region.ready .any l.toArray b:=mem_ready.2 ⟨Hr,o0,by simpa using Ht,λT X hb=>by have R:=(nu y o0 Ht).1 T X hb;exact K b _ q om (by rw[Hs _ R];simp)⟩;refine⟨λhr=>(by rw[hr] at pP;cases pP),λi I=>?_⟩;obtain⟨hu,o,Z,v⟩:=mem_ready.1 I;have jo:i<l.length:=by simpa using(Array.getElem?_eq_some_iff.1 Z).1
   have J:l[i]?=some o:=by simpa using Z
   have rY:i<m:=by
    rcases Nat.lt_or_ge i m with h|h
    .exact h
    .have:=Hp b y q om<|NJ nq J v ((nu i o J).2.2 h) (i-y) y om om;rw[Hr] at this;cases this
   have vD:b.getD i false=false:=by
    cases h:b.getD i false with
    |false=>rfl
    |true=>rw[Hp b i q jo h] at hu;cases hu
   have p:=step (λj=>b.getD j false) e w i o rY J vD (λj d=>by obtain⟨T,X,hb,wI⟩:=NI d;rw[<-wI];exact v T X hb) E;have f:=p a F Q;have next:∀(t:Act) (w':World),ql n (λA w'=>Inv (λj=>if j=i then true else b.getD j false) A w') Q .normal t w'->
     wpAny P .any l.toArray (ql n N Q) c (b.setIfInBounds i true) t w':=λt w' B=>by
    obtain⟨A,NM,V⟩:=B;refine ih _ A t w' NM (by simpa using q) ?_ ?_ ?_ ?_
    .have L:∀k,k<=l.length->((List.range k).filter λj=>!(b.setIfInBounds i true).getD j true).length+(if i<k then 1 else 0)=((List.range k).filter λj=>!b.getD j true).length:=by
      intro k;induction k with
      |zero=>simp
      |succ k r=>
       intro gY;have tT:=r om;rw[List.range_succ,List.filter_append,lA,List.filter_append,lA];by_cases wJ:i=k
       .subst wJ;rw[iN om] at tT;have R:i<b.size:=by omega
        have s:(b.setIfInBounds i true).getD i true=true:=by simp[Array.getD_eq_getD_getElem?,R]
        rw[iP om];simp only[List.filter_cons,s,hu,List.filter_nil,Bool.not_true,Bool.not_false,if_true,Bool.false_eq_true,if_false,lC,List.length_nil];omega
       .have s:(b.setIfInBounds i true).getD k true=b.getD k true:=getD_set_ne true wJ;simp only[List.filter_cons,s,List.filter_nil];have hii:(i<k+1)↔(i<k):=by omega
        by_cases qm:i<k
        .have c1:i<k+1:=by omega
         rw[iP qm] at tT;rw[iP c1];split<;>simp only[lC,List.length_nil]<;>omega
        .have c1:¬i<k+1:=by omega
         rw[iN qm] at tT;rw[iN c1];split<;>simp only[lC,List.length_nil]<;>omega
     have:=L l.length<|lR _;rw[iP jo] at this;omega
    .intro j NN qo;rw[getD_set_ne true om];exact D j NN qo
    .have s:(λj=>(b.setIfInBounds i true).getD j false)=λj=>if j=i then true else b.getD j false:=by
      funext j;by_cases z:i=j
      .subst z;have:i<b.size:=by omega
       simp[Array.getD_eq_getD_getElem?,this]
      .rw[getD_set_ne false z,iN λh=>z h.symm]
     rw[s];exact V
    .intro j oj O d e2 lz aP;have xQ:∀x,b.getD x false=true->(b.setIfInBounds i true).getD x false=true:=λx hx=>by
      by_cases Hv:i=x
      .subst Hv;have:i<b.size:=by omega
       simp[Array.getD_eq_getD_getElem?,this]
      .rw[getD_set_ne false Hv];exact hx
     by_cases z:i=j
     .subst z;rw[J] at O;cases O;exact xQ _<|v e2 lz aP
     .rw[getD_set_ne false z] at d;exact xQ _<|nq j oj O d e2 lz aP
   unfold wpOp;simp only[Z];unfold wpList at f;by_cases hw:Region.wanted o (yielded l.toArray a.tmps)=true
   .rw[iP hw] at f⊢;rcases f with f|⟨f,h3⟩
    .refine .inl<|Oper.NC (λt w' g=>next t w' g) (λ_ _ _ h=>h) (fun⟨a,w,B⟩=>⟨a,w,B⟩) f
    .exact .inr ⟨f,by obtain⟨t,w',B⟩:=h3;exact⟨t,w',B⟩⟩
   .rw[iN hw] at f⊢;exact next _ _ f
inductive Ie where
 |v (V:Value)
 |p (f:List Nat->Value->World->Prop)
 |e (t:Nat)
 |w (t:Nat) (V:Value)
 |q (t:Nat) (f:Value->Prop)
def Ie.F:Ie->List Nat->Value->World->Prop
 | .v V=>λ_ v _=>v=V
 | .p f=>f
 | .e _=>λ_ _ _=>True
 | .w _ V=>λ_ v _=>v=V
 | .q _ f=>λ_ v _=>f v
def Ie.k7:Ie->Option Nat
 | .e t=>some t
 | .w t _=>some t
 | .q t _=>some t
 |_=>none
abbrev nD:Ie:=.p λ_ _ _=>True
def yf (b:List Ie) (c:List Nat) (G:List Nat) (aU:List Value) (w:World):List Nat->(List (Nat×Value)->Prop)->Prop
 |[],k=>k []
 |j::r,k=>match b.getD j nD with
  | .v V=>yf b c G aU w r λa=>k ((c.getD j 0,V)::a)
  | .p f=>∀v,f G v w->yf b c G aU w r λa=>k ((c.getD j 0,v)::a)
  | .e t=>yf b c G aU w r λa=>k ((c.getD j 0,aU.getD t undef)::a)
  | .w _ V=>yf b c G aU w r λa=>k ((c.getD j 0,V)::a)
  | .q t f=>∀v,aU.getD t undef=v->f v->yf b c G aU w r λa=>k ((c.getD j 0,v)::a)
theorem BK {a:List Ie} {g:List Nat} {aU:List Value} {vs:Nat->Value}:∀{deps:List Nat} {k:List (Nat×Value)->Prop},yf a g G aU w deps k->
  (∀j∈deps,(a.getD j nD).F G (vs j) w/\∀t,(a.getD j nD).k7=some t->aU.getD t undef=vs j)->k (vh g vs deps)
 |[],k,h,_=>h
 |j::r,k,h,hd=>by
  obtain⟨b,l⟩:=hd j<|List.mem_cons_self ..;unfold yf at h;have c:∀i∈r,_:=λi m=>hd i<|mK _ m;cases e:a.getD j nD with
  |v V=>rw[e] at h b;have d:vs j=V:=b;subst d;exact BK (deps:=r) h c
  |p f=>rw[e] at h b;exact BK (deps:=r) (h _ b) c
  |e t=>rw[e] at h;have d:=l t (by rw[e];rfl);simp only[d] at h;exact BK (deps:=r) h c
  |w t V=>rw[e] at h b;have d:vs j=V:=b;subst d;exact BK (deps:=r) h c
  |q t f=>rw[e] at h b;exact BK (deps:=r) (h _ (l t (by rw[e];rfl)) b) c
def fB (G:List Nat) (w:World):Prop:=∀x∈G,x<w.heap.size
def K6 (P:Program) (n:Nat) (e:Array Oper) (W d:List Nat) (c:List Ie) (g:Env) (j:List Nat) (l:World) (i:Nat) (o:Oper) (b:List Nat):Prop:=
 ∀(x:Env) (w:World) (G:List Nat) (aU:List Value),Fr j l G w->fB G w->yf c d G aU w b λa=>
  OW P n e (λf w'=>ak [] w w'/\(c.getD i nD).F G (f<|d.getD i 0) w'/\eM [d.getD i 0] (ba (aZ W x g) a) f) [o] (ba (aZ W x g) a) w
def VF (P:Program) (n:Nat) (g:Array Oper) (W e:List Nat) (c:List Ie) (j:List (List Nat->List Value->World->Prop)) (l:Env) (m:List Nat) (p:World) (t i:Nat) (o:Oper) (b:List Nat):Prop:=
 ∀(x:Env) (w:World) (G:List Nat) (aU:List Value),Fr m p G w->fB G w->j.getD t (λ_ _ _=>True) G aU w->aU.length=t->yf c e G aU w b λa=>
  OW P n g (λf w'=>(∃d,Fr G w d w'/\fB d w'/\j.getD (t+1) (λ_ _ _=>True) d (aU++[f (e.getD i 0)]) w'/\(c.getD i nD).F d (f<|e.getD i 0) w')/\eM [e.getD i 0] (ba (aZ W x l) a) f) [o] (ba (aZ W x l) a) w
def FM (P:Program) (n:Nat) (c:Array Oper) (W e:List Nat) (b:List Ie) (j:List (List Nat->List Value->World->Prop)) (f:Env) (d:List Nat) (g:World) (i:Nat) (o:Oper) (a:List Nat):Prop:=
 match(b.getD i nD).k7 with
 |some t=>VF P n c W e b j f d g t i o a
 |none=>K6 P n c W e b f d g i o a
def wY (P:Program) (n:Nat) (b:Array Oper) (W f:List Nat) (a:List Ie) (e:List (List Nat->List Value->World->Prop)) (g:Env) (c:List Nat) (i:World):Nat->List Oper->List (List Nat)->Prop
 |_,[],_=>True
 |_,_::_,[]=>True
 |k,o::l,d::r=>FM P n b W f a e g c i k o d/\wY P n b W f a e g c i (k+1) l r
section
variable {P:Program} {n:Nat} {ops:Array Oper} {W ds:List Nat} {its:List Ie} {Js:List (List Nat->List Value->World->Prop)} {e0:Env} {G0:List Nat} {w0:World}
theorem vf {o:Oper} {l:List Oper} {d:List Nat} {r:List (List Nat)} (h:K6 P n ops W ds its e0 G0 w0 k o d) (a:wY P n ops W ds its Js e0 G0 w0 (k+1) l r) (hk:(its.getD k nD).k7=none:=by rfl):wY P n ops W ds its Js e0 G0 w0 k (o::l) (d::r):=
 ⟨by unfold FM;rw[hk];exact h,a⟩
theorem ve (t:Nat) {o:Oper} {l:List Oper} {d:List Nat} {r:List (List Nat)} (h:VF P n ops W ds its Js e0 G0 w0 t k o d) (a:wY P n ops W ds its Js e0 G0 w0 (k+1) l r) (hk:(its.getD k nD).k7=some t:=by rfl):wY P n ops W ds its Js e0 G0 w0 k (o::l) (d::r):=
 ⟨by unfold FM;rw[hk];exact h,a⟩
theorem VG:∀(l:List Oper) (deps:List (List Nat)) (k:Nat),wY P n ops W ds its Js e0 G0 w0 k l deps->∀(i:Nat) (o:Oper) (d:List Nat),l[i]?=some o->deps[i]?=some d->FM P n ops W ds its Js e0 G0 w0 (k+i) o d
 |[],_,_,_,i,o,d,h,_=>by simp at h
 |_::_,[],_,_,i,o,d,_,h=>by simp at h
 |o::l,d::r,k,h,0,o',d',ho,hd=>by simp at ho hd;subst ho;subst hd;exact h.1
 |o::l,d::r,k,h,i+1,o',d',ho,hd=>by have:=VG l r (k+1) h.2 i o' d' (by simpa using ho) (by simpa using hd);rwa [show k+1+i=k+(i+1) by omega] at this
end
def Pb (l:List Oper) (m:Nat) (a:List Nat) (b:List Ie):Bool:=
 (List.range a.length).all (λt=>decide (a.getD t 0<m)&&((b.getD (a.getD t 0) nD).k7==some t)&&(decide (t=0)||(match l[a.getD t 0]? with|some o=>waits o (a.getD (t-1) 0)|none=>false)))&&
 (List.range m).all (λi=>match(b.getD i nD).k7 with|some t=>decide (t<a.length)&&decide (a.getD t 0=i)|none=>true)
theorem ahR {l:List Oper} {m:Nat} {d:List Nat} {e:List Ie} (h:Pb l m d e=true):
  (∀t,t<d.length->d.getD t 0<m/\(e.getD (d.getD t 0) nD).k7=some t/\(t≠0->∃o,l[d.getD t 0]?=some o/\waits o (d.getD (t-1) 0)=true))/\
  ∀i t,i<m->(e.getD i nD).k7=some t->t<d.length/\d.getD t 0=i:=by
 unfold Pb at h;rw[aE,List.all_eq_true,List.all_eq_true] at h;obtain⟨j,n⟩:=h;refine⟨λt r=>?_,λi t q p=>?_⟩
 .have:=j t<|List.mem_range.2 r;simp only[aE,dE,beq_iff_eq,oE] at this;obtain⟨⟨a,b⟩,c⟩:=this;refine⟨a,b,λg=>?_⟩;rcases c with c|c
  .exact absurd c g
  .cases f:l[d.getD t 0]? with
   |none=>rw[f] at c;cases c
   |some o=>rw[f] at c;exact⟨o,rfl,c⟩
 .have:=n i<|List.mem_range.2 q;rw[p] at this;simpa using this
def BL:List Ie->Prop
 |[]=>True
 | .p f::r=>(∀G v w a w',f G v w->Fr G w a w'->f a v w')/\BL r
 | .v _::r=>BL r
 | .e _::r=>BL r
 | .w _ _::r=>BL r
 | .q _ _::r=>BL r
theorem FN:∀{its:List Ie},BL its->∀q∈its,∀G v w b w',q.F G v w->Fr G w b w'->q.F b v w'
 | .p f::r,h,q,a,G,v,w,b,w',hf,hk=>by
  rcases mC.1 a with e|a
  .subst e;exact h.1 _ _ _ _ _ hf hk
  .exact FN (its:=r) h.2 q a _ _ _ _ _ hf hk
 | .v V::r,h,q,a,G,v,w,b,w',hf,hk=>by
  rcases mC.1 a with e|a
  .subst e;exact hf
  .exact FN (its:=r) h q a _ _ _ _ _ hf hk
 | .e V::r,h,q,a,G,v,w,b,w',hf,hk=>by
  rcases mC.1 a with e|a
  .subst e;exact hf
  .exact FN (its:=r) h q a _ _ _ _ _ hf hk
 | .w t V::r,h,q,a,G,v,w,b,w',hf,hk=>by
  rcases mC.1 a with e|a
  .subst e;exact hf
  .exact FN (its:=r) h q a _ _ _ _ _ hf hk
 | .q t f::r,h,q,a,G,v,w,b,w',hf,hk=>by
  rcases mC.1 a with e|a
  .subst e;exact hf
  .exact FN (its:=r) h q a _ _ _ _ _ hf hk
theorem VH {a:List Ie} (h:BL a) (i:Nat) {c:List Nat} (b:(a.getD i nD).F G v w) (hk:Fr G w c w'):(a.getD i nD).F c v w':=by
 rw[gG] at b⊢;cases e:a[i]? with
 |none=>trivial
 |some q=>rw[e] at b;exact FN h q (List.mem_of_getElem? e) _ _ _ _ _ b hk
def K7:List (List Nat->List Value->World->Prop)->Prop
 |[]=>True
 |J::r=>(∀G vs w w',J G vs w->ak [] w w'->J G vs w')/\K7 r
theorem H5:∀{Js:List (List Nat->List Value->World->Prop)},K7 Js->∀(k:Nat) {G:List Nat} {vs:List Value} {w w':World},Js.getD k (λ_ _ _=>True) G vs w->ak [] w w'->Js.getD k (λ_ _ _=>True) G vs w'
 |[],_,k,_,_,_,_,_,_=>by simp
 |J::r,h,0,_,_,_,_,hj,hk=>h.1 _ _ _ _ hj hk
 |J::r,h,k+1,_,_,_,_,hj,hk=>by have:=H5 (Js:=r) h.2 k (by simpa using hj) hk;simpa using this
theorem jW {a:Type} {l:List a} (h:l.length=0):l=[]:=by grind
theorem jX {b:Type} {l:List b} (h:l.length=1):∃a,l=[a]:=List.length_eq_one_iff.1 h
theorem mf {c:Type} {l:List c} (h:l.length=2):∃a b,l=[a,b]:=by
 match l,h with|[a,b],_=>exact⟨a,b,rfl⟩
theorem BM {d:Type} {l:List d} (h:l.length=3):∃a b c,l=[a,b,c]:=by
 match l,h with|[a,b,c],_=>exact⟨a,b,c,rfl⟩
theorem Pc {e:Type} {l:List e} (h:l.length=4):∃a b c d,l=[a,b,c,d]:=by
 match l,h with|[a,b,c,d],_=>exact⟨a,b,c,d,rfl⟩
theorem VI {f:Type} {l:List f} (h:l.length=5):∃a b c d e,l=[a,b,c,d,e]:=by
 match l,h with|[a,b,c,d,e],_=>exact⟨a,b,c,d,e,rfl⟩
theorem ahS {g:Type} {l:List g} (h:l.length=6):∃a b c d e f,l=[a,b,c,d,e,f]:=by
 match l,h with|[a,b,c,d,e,f],_=>exact⟨a,b,c,d,e,f,rfl⟩
theorem BN {W a:List Nat} {b e:Env} (c:eM W b e) (r:List Nat):ba (aZ W e b) (vh a (λi=>e<|a.getD i 0) r)=e:=by
 rw[zu c,Ho (by
  intro p d;have:∀(r:List Nat),p∈vh a (λi=>e<|a.getD i 0) r->e p.1=p.2:=by
   intro r;induction r with
   |nil=>intro h;cases h
   |cons j r f=>
    intro h;rcases mC.1 h with h|h
    .subst h;rfl
    .exact f h
  exact this _ d)]
theorem kv {N R:Env->World->Prop} {X:Nat->Env->World->Prop} {id:Nat} {C:Env} {y:World} (hm:P.follows .mixedOrders=true) (J:List Nat) (m:Nat) (W c:List Nat) (g:List (List Nat)) (q:List Ie) (b:List Nat) (T:List (List Nat->List Value->World->Prop)) 
  (hB:vj l m W c g=true) (hE:Pb l m b q=true) (hL:fB J y) (hF:BL q) (hJ:K7 T) (h0:T.getD 0 (λ_ _ _=>True) J [] y)
  (hc:wY P n l.toArray W c q T C J y 0 (l.take m) g)
  (ht:∀(x:Env) (w:World) (G:List Nat) (aU:List Value),Fr J y G w->fB G w->T.getD b.length (λ_ _ _=>True) G aU w->aU.length=b.length->yf q c G aU w (List.range m) λacc=>OW P n l.toArray N (l.drop m) (ba (aZ W x C) acc) w):
  CW P n (.region id l.toArray true) N R X C y:=λa ha=>by
 refine wp_region_any hm ?_;have gz:ak [] y {y with drawn:=y.drawn+1}:=ak.drew _ _;obtain⟨_,_,_,jw,nu⟩:=Fj hB;obtain⟨L,lz⟩:=ahR hE;have dD:∀i j,i<m->j<m->i≠j->c.getD j 0≠c.getD i 0:=λi j hi f mv=>by rw[gG,gG,gE om,gE om];simp only[Option.getD_some];intro V;exact mv ((List.getElem_inj jw).1 V.symm)
 let Inv:(Nat->Bool)->Env->World->Prop:=λS e w=>∃G k,eM W C e/\Fr J y G w/\fB G w/\k<=b.length/\(∀t,t<b.length->(S (b.getD t 0)=true↔t<k))/\
  T.getD k (λ_ _ _=>True) G ((b.take k).map λi=>e<|c.getD i 0) w/\∀i,i<m->S i=true->(q.getD i nD).F G (e<|c.getD i 0) w
 have H6:∀(S:Nat->Bool) (e:Env) (k:Nat),(∀t,t<b.length->(S (b.getD t 0)=true↔t<k))->k<=b.length->∀j t,j<m->S j=true->(q.getD j nD).k7=some t->((b.take k).map λi=>e<|c.getD i 0).getD t undef=e (c.getD j 0):=by intro S e k A hk j t f F V;obtain⟨r,s⟩:=lz j t f V;have K:t<k:=(A t r).1 (by rw[s];exact F);rw[gG,List.getElem?_map,List.getElem?_take,iP K,gE r];rw[gG,gE r] at s;simp only[Option.getD_some] at s;simp[s]
 have step:∀(S:Nat->Bool) (e:Env) (w:World) (i:Nat) (o:Oper),i<m->l[i]?=some o->S i=false->(∀j,waits o j=true->S j=true)->Inv S e w->
   OW P n l.toArray (λp w'=>Inv (λj=>if j=i then true else S j) p w') [o] e w:=by
  rintro S e w i o rY Z vD BO ⟨G,k,rh,bK,qF,gY,A,wZ,pU⟩;obtain⟨hW,Bd⟩:=(nu i o Z).2.1 rY;obtain⟨dp,Be⟩:∃d,g[i]?=some d:=⟨g[i]'om,gE om⟩;have Db:g.getD i []=dp:=by rw[gG,Be];rfl
  rw[Db] at Bd;have E:=VG (l.take m) g 0 hc i o dp (by rw[List.getElem?_take,iP rY];exact Z) Be;rw[Nat.zero_add] at E;have hd:∀j∈dp,(q.getD j nD).F G (e (c.getD j 0)) w/\∀t,(q.getD j nD).k7=some t->((b.take k).map λi=>e<|c.getD i 0).getD t undef=e (c.getD j 0):=λj f=>by obtain⟨r,s⟩:=Bd j f;exact⟨pU j s<|BO j r,λt D=>H6 S e k A gY j t s (BO j r) D⟩
  have H7:∀p,eM [c.getD i 0] e p->eM W C p:=λp h t DC=>by
   have FP:t≠c.getD i 0:=λV=>by rw[V,hW] at DC;cases DC
   rw[h t (by simpa using FP)];exact rh t DC
  have BP:∀p,eM [c.getD i 0] e p->∀j,j<m->j≠i->p (c.getD j 0)=e (c.getD j 0):=λp h j f B=>h _ (by simpa using dD i j rY f λh=>B h.symm);have fZ:[o]=[o]++[]:=rfl;cases O:(q.getD i nD).k7 with
  |none=>
   unfold FM at E;rw[O] at E;have r:=BK (E e w G _ bK qF) (vs:=λj=>e<|c.getD j 0) hd;rw[BN rh] at r;rw[fZ];refine xP r ?_;rintro p w' ⟨qt,zQ,H⟩;refine aW ⟨G,k,H7 p H,bK.ext qt,λx hx=>lL (qF x hx) qt.size,gY,λt z=>?_,?_,λj f F=>?_⟩
   .have I:b.getD t 0≠i:=λh=>by have:=(L t z).2.1;rw[h,O] at this;cases this
    simp only[iN I];exact A t z
   .have U:((b.take k).map λi=>p<|c.getD i 0)=(b.take k).map λi=>e (c.getD i 0):=by
     apply List.map_congr_left;intro j f;obtain⟨t,v⟩:=List.mem_iff_getElem?.1 f;rw[List.getElem?_take] at v;split at v
     .have z:t<b.length:=(List.getElem?_eq_some_iff.1 v).1;have wI:b.getD t 0=j:=by rw[gG,v];rfl
      have K:=L t z;rw[wI] at K;exact BP p H j K.1 λh=>by rw[h,O] at K;cases K.2.1
     .cases v
    rw[U];exact H5 hJ k wZ qt
   .by_cases B:j=i
    .rw[B];exact zQ
    .simp only[iN B] at F;rw[BP p H j f B];exact VH hF j (pU j f F)<|Fr.of qt sm
  |some t=>
   unfold FM at E;rw[O] at E;obtain⟨z,I⟩:=lz i t rY O;have rC:k=t:=by
    have r:¬t<k:=λh=>by have:=(A t z).2 h;rw[I,vD] at this;cases this
    rcases Nat.eq_zero_or_pos t with h0|h0
    .omega
    .obtain⟨_,nV,H8⟩:=(L t z).2.2 om;rw[I,Z] at nV;cases nV;have:=(A (t-1) om).1<|BO _ H8;omega
   subst rC;have Y:((b.take k).map λi=>e<|c.getD i 0).length=k:=by simp;omega
   have r:=BK (E e w G _ bK qF wZ Y) (vs:=λj=>e<|c.getD j 0) hd;rw[BN rh] at r;rw[fZ];refine xP r ?_;rintro p w' ⟨⟨G',yg,DD,FQ,zQ⟩,H⟩;have H9:∀u,u<b.length->b.getD u 0=i->u=k:=λu r s=>by have:=(L u r).2.1;rw[s,O] at this;cases this;rfl
   refine aW ⟨G',k+1,H7 p H,bK.go yg,DD,om,λu Q=>?_,?_,λj f F=>?_⟩
   .by_cases s:b.getD u 0=i
    .have:=H9 u Q s;simp only[iP s];exact⟨λ_=>om,λ_=>trivial⟩
    .simp only[iN s];rw[A u Q];have:u≠k:=λh=>by rw[h] at s;exact s I
     omega
   .have U:((b.take<|k+1).map λi=>p<|c.getD i 0)=((b.take k).map λi=>e<|c.getD i 0)++[p (c.getD i 0)]:=by
     have s:b[k]?=some i:=by rw[gG,gE z] at I;rw[gE z];simpa using I
     rw[List.take_add_one,s,List.map_append]
     congr 1
     apply List.map_congr_left;intro j f;obtain⟨u,v⟩:=List.mem_iff_getElem?.1 f;rw[List.getElem?_take] at v;split at v
     .rename_i eF;have Q:u<b.length:=(List.getElem?_eq_some_iff.1 v).1;have wI:b.getD u 0=j:=by rw[gG,v];rfl
      exact BP p H j (by have:=(L u Q).1;rw[wI] at this;exact this) λh=>by have:=H9 u Q<|wI.trans h;omega
     .cases v
    rw[U];exact FQ
   .by_cases B:j=i
    .rw[B];exact zQ
    .simp only[iN B] at F;rw[BP p H j f B];exact VH hF j (pU j f F) yg
 have tail:∀(S:Nat->Bool) (e:Env) (w:World),(∀i,i<m->S i=true)->Inv S e w->OW P n l.toArray N (l.drop m) e w:=by
  rintro S e w BR ⟨G,k,rh,bK,qF,gY,A,wZ,pU⟩;have hk:k=b.length:=by
   rcases Nat.lt_or_ge k b.length with h|h
   .have:=(A k h).1<|BR _ (L k h).1;omega
   .omega
  subst hk;have r:=BK (ht e w G _ bK qF wZ sm) (vs:=λj=>e<|c.getD j 0) (λj f=>by have M:=List.mem_range.1 f;exact⟨pU j M<|BR j M,λt D=>H6 S e _ A gY j t M (BR j M) D⟩);rw[BN rh] at r;exact r
 have jh:∀j,(Array.replicate l.length false).getD j false=false:=λj=>by rw[Array.getD_eq_getD_getElem?,Array.getElem?_replicate];split<;>rfl
 have Pd:Inv (λj=>(Array.replicate l.length false).getD j false) C {y with drawn:=y.drawn+1}:=by
  refine⟨J,0,zt,Fr.of gz sm,λx hx=>hL x hx,Nat.zero_le _,λt z=>?_,H5 hJ 0 h0 gz,λi hi vD=>?_⟩
  .constructor
   .intro h;exact absurd ((jh (b.getD t 0)).symm.trans h) sm
   .intro h;omega
  .exact absurd ((jh i).symm.trans vD) sm
 have:=VE (N:=N) (Inv:=Inv) hB step tail (l0 n N R X) l.length (Array.replicate l.length false) C a _ ha sm
  (by
   have:((List.range l.length).filter λj=>!(Array.replicate l.length false).getD j true)=List.range l.length:=by rw[List.filter_eq_self];intro j f;rw[List.mem_range] at f;simp[Array.getD_eq_getD_getElem?,f]
   rw[this];simp)
  (by intro j _ f;simp[Array.getD_eq_getD_getElem?,f])
  Pd
  (by intro j o Z f;have M:j<l.length:=(List.getElem?_eq_some_iff.1 Z).1;simp[Array.getD_eq_getD_getElem?,M] at f)
 have U:ql n N (l0 n N R X)=l0 n N R X:=by funext x a w;cases x<;>rfl
 rw[U] at this;simpa using this
end
section
variable {P:Program} {n:Nat} {ops:Array Oper} {e:Env} {w w':World} {G:List Nat}
theorem fv (h:v=V:=by rfl):OW P n ops (λa w'=>ak [] w w'/\(Ie.v V).F G (a d) w'/\eM [d] e a) [] (bW e (some d) v) w:=
 aW ⟨ak.refl _ _,by subst h;exact ni _ _ _,qp⟩
theorem fk (k:ak [] w w') (h:v=V:=by rfl):OW P n ops (λa w'=>ak [] w w'/\(Ie.v V).F G (a d) w'/\eM [d] e a) [] (bW e (some d) v) w':=
 aW ⟨k,by subst h;exact ni _ _ _,qp⟩
theorem ff {f:List Nat->Value->World->Prop} (k:ak [] w w') (h:f G v w'):OW P n ops (λa w'=>ak [] w w'/\(Ie.p f).F G (a d) w'/\eM [d] e a) [] (bW e (some d) v) w':=
 aW ⟨k,by show f G (iR e d v d) w';rw[ni];exact h,qp⟩
theorem fe {t:Nat} {aU:List Value} (a:List Nat) (k:Fr G w a w') (c:fB a w') (h:J a (aU++[v]) w'):OW P n ops (λb w'=>(∃a,Fr G w a w'/\fB a w'/\J a (aU++[b d]) w'/\(Ie.e t).F a (b d) w')/\eM [d] e b) [] (bW e (some d) v) w':=
 aW ⟨⟨a,k,c,by show J a (aU++[iR e d v d]) w';rw[ni];exact h,trivial⟩,qp⟩
theorem fw {t:Nat} {aU:List Value} (a:List Nat) (k:Fr G w a w') (c:fB a w') (h:J a (aU++[v]) w') (f:v=V:=by rfl):OW P n ops (λb w'=>(∃a,Fr G w a w'/\fB a w'/\J a (aU++[b d]) w'/\(Ie.w t V).F a (b d) w')/\eM [d] e b) [] (bW e (some d) v) w':=
 aW ⟨⟨a,k,c,by show J a (aU++[iR e d v d]) w';rw[ni];exact h,by subst f;exact ni _ _ _⟩,qp⟩
theorem fq {t:Nat} {f:Value->Prop} {aU:List Value} (a:List Nat) (k:Fr G w a w') (c:fB a w') (h:J a (aU++[v]) w') (g:f v):OW P n ops (λb w'=>(∃a,Fr G w a w'/\fB a w'/\J a (aU++[b d]) w'/\(Ie.q t f).F a (b d) w')/\eM [d] e b) [] (bW e (some d) v) w':=
 aW ⟨⟨a,k,c,by show J a (aU++[iR e d v d]) w';rw[ni];exact h,by show f (iR e d v d);rw[ni];exact g⟩,qp⟩
end
end Go.Proofs.YtcildnfcpkpomaaGreatDoor
