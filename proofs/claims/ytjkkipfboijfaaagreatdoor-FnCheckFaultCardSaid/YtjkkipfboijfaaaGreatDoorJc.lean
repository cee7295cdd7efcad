/- Lemmas for the law FnCheckFault, no statement of their own: no conditions. -/
import Derived.Test.YtjkkipfboijfaaaGreatDoorJb
set_option maxHeartbeats 4000000
set_option linter.all false
namespace Go.Proofs.YtjkkipfboijfaaaGreatDoor
open Go
variable {a h s x:aj} {t:au} {p:List dv} {ps ts:List au} {b i k m m' off sz:Nat} {c:UInt8} {G L L' L1:List Nat} {w w' w1 w2:World} {v v1 v3 v4 v5 v6 v8:Value} {vs:List Value} {xs:List aj} {g:Option Nat} {rows:List (List C)}
theorem ai2 (n:Nat):(aS n).all fy=true:=by
 induction n using Nat.strongRecOn with
 |_ n b=>
  have a:∀k,k<10->fy (UInt8.ofNat (48+k))=true:=by decide
  unfold aS;by_cases h:n<10
  .rw[iP h,List.all_cons,a n h];rfl
  .rw[iN h,List.all_append,b (n/10) om,List.all_cons,a (n%10) om];rfl
def PI (n:Nat):Good (bL (97::aS n)):=.aq _ sm (by rw[List.all_cons,ai2];decide)
section
variable {p:List dv} {st:TS} {o:Nat} {t:au}
def step_ok (Y:yP p) (g:jP st) (N:st.length=40) (hg:Good t) (T:nQ t=true) {b:TS} (h:stepT p st o t=some b):jP b/\b.length=40:=by
 obtain⟨V,A,Q⟩:=IN T;have Z:fO (nth t.ag 1).aq<st.length:=by
  rw[N];unfold fO lQ;cases numeral (nth t.ag 1).aq with
  |none=>decide
  |some z=>
   by_cases P:0<=z/\z<=39
   .simp only[P,and_self,if_true];omega
   .simp only[P,if_false];decide
 have set:∀{u:Option au},(∀y,u=some y->Good y/\o5 y)->eO st (fO (nth t.ag 1).aq) u=some b->jP b/\b.length=40:=fun{u} hu hs=>by obtain⟨X,R⟩:=aiW g Z hu hs;exact⟨X,R.trans N⟩
 have c:some st=some b->jP b/\b.length=40:=λe=>by cases e;exact⟨g,N⟩
 have d:∀{q:Nat},df st (nth t.ag q).aq=none\/∃x,df st (nth t.ag q).aq=some x:=fun{q}=>by cases df st (nth t.ag q).aq<;>simp
 cases hk:ij st (dY (aT t) t.ag.length) t.ag (dY (aT t) t.ag.length).length with
 |none=>rw[Wh T hk] at h;cases h
 |some xs=>
  by_cases c1:aT t=[99,111,110,115,116]
  .rw[Wc c1] at h;exact set (λy e=>by cases e;exact⟨ug.et,ug.eok⟩) h
  by_cases c2:aT t=[109,111,118]
  .rcases d (q:=2) with a|⟨x,a⟩
   .simp[stepT,fF,c2,a,eO] at h
   .rw[Wd c2 a] at h;exact set (λy e=>by cases e;exact⟨(qJ g a).et,(qJ g a).eok⟩) h
  by_cases D:aT t=[97,100,100]\/aT t=[115,117,98]\/aT t=[109,117,108]
  .rcases d (q:=2) with a|⟨x,a⟩
   .rcases D with j|j|j<;>simp[stepT,fF,j,a,eO,qH] at h
   .rcases d (q:=3) with O|⟨y,O⟩
    .rcases D with j|j|j<;>simp[stepT,fF,j,a,O,eO,qH] at h
    .rw[We D a O] at h;split at h
     .exact set (λy e=>by cases e;exact⟨ug.et,ug.eok⟩) h
     .cases h
  by_cases I:aT t=[110,101,119]
  .cases M:lP st (t.ag.drop 2) with
   |none=>rw[PC I M] at h;cases h
   |some _=>rw[LH I M] at h;have n:=(LG g M).2;exact set (λy e=>by cases e;exact⟨DL de de λt l=>(n t l).et,Wa de λt l=>(n t l).eok⟩) h
  by_cases r:aT t=[103,101,116]
  .rcases d (q:=2) with a|⟨x,a⟩
   .simp[stepT,fF,r,a,eO] at h
   .rw[PD r a] at h;split at h
    .rename_i S;have P:0<=qI (nth t.ag 3).aq:=by
      have s:=Q 2 (by simp[dY,r]);rw[show(dY (aT t) t.ag.length).getD 2 0=109 from by simp[dY,r]] at s;have v:((numeral (nth t.ag 3).aq).isSome&&decide (0<=(numeral (nth t.ag 3).aq).getD 0))=true:=by rw[<-Lq];exact s
      rw[aE,dE] at v;exact v.2
     have E:=qJ g a;have B:=E.nth (i:=(qI (nth t.ag 3).aq+1).toNat) om;exact set (λy e=>by cases e;exact⟨B.et,B.eok⟩) h
    .cases h
  by_cases J:aT t=[108,97,98]
  .cases f:bZ p (nth t.ag 2).aq with
   |none=>rw[LI J f] at h;cases h
   |some C=>rw[LI J f] at h;have n:=(LF Y f).2;exact set (λy e=>by cases e;exact⟨DL de de λt l=>(n t l).et,Wa de λt l=>(n t l).eok⟩) h
  by_cases m:aT t=[112,97,99,107]
  .rcases d (q:=2) with a|⟨x,a⟩
   .simp[stepT,fF,m,a,eO] at h
   .rw[Wf m a] at h;split at h
    .have PJ:t.ag.length=5:=by rw[A];simp[dY,m]
     have s:=Q 2 (by simp[dY,m]);rw[show(dY (aT t) t.ag.length).getD 2 0=69 from by simp[dY,m]] at s;have v:((decide ((nth t.ag 3).ag.length=2)&&decide (aT (nth t.ag 3)=[101]))&&gq false (nth t.ag 3))=true:=by rw[<-Ls];exact s
     rw[aE] at v;have U:=hg.nth (i:=3) om;exact set (λy e=>by cases e;exact⟨U,V9 U.wf _ v.2⟩) h
    .cases h
  by_cases K:aT t=[111,112,101,110]
  .rcases d (q:=2) with a|⟨x,a⟩
   .simp[stepT,fF,K,a,eO] at h
   .rw[PE K a] at h;split at h
    .rename_i S;have E:=qJ g a;have R:=E.eok.two S;have B:=E.nth (i:=1) om;exact set (λy e=>by cases e;exact⟨ID (PI o) B.et,aiS (.aq _) (by intro h;cases h) B.eok⟩) h
    .cases h
  by_cases L:aT t=[122,101,114,111]
  .rcases d (q:=1) with a|⟨x,a⟩
   .simp[stepT,L,a,qH] at h
   .rw[Wg L a] at h;cases f:bZ p (nth t.ag 2).aq with
    |none=>rw[f] at h;cases h
    |some C=>
     rw[f,Option.bind_some] at h;split at h
     .exact c h
     .cases h
  by_cases F:aT t=[106,117,109,112]
  .rcases d (q:=1) with a|⟨x,a⟩
   .simp[stepT,F,a] at h
   .rw[PF F a] at h;split at h
    .exact c h
    .cases h
  have H:aT t=[104,97,108,116]:=Classical.byContradiction λf=>V (by simp[dY,c1,c2,D,I,r,J,m,K,L,F,f]);rw[PG H] at h;rcases d (q:=1) with a|⟨x,a⟩
  .rw[a] at h;cases h
  .rw[a] at h;exact c h
end
/-! ### Blocks -/
structure DW (b:dv):Prop where
 regs:b.regs.length<=40
 rok:∀t∈b.regs,nj t
 code:b.code.length<=80
 cok:∀t∈b.code,xH t/\Good t/\nQ t=true
def ai4 (h:bU s=some t) (e:gq false t=true):nj t:=by obtain⟨a,b,c,d⟩:=ue h;refine⟨a,?_,V9 a.wf _ e⟩;unfold ot;rw[aE,dE,dE,wm a.wf,c];exact⟨b,d⟩
def ai5 {b:Bk} (h:mx b=true):DW (bN b):=by
 obtain⟨_,f,g⟩:=DM h;unfold mx at h;simp only[aE,dE] at h;refine⟨by simp[bN];omega,λt e=>?_,by simp[bN];omega,λt e=>?_⟩
 .obtain⟨s,d,rfl⟩:=List.mem_map.1 e;obtain⟨u,a,c⟩:=f s d;rw[Gb a];exact ai4 a c
 .obtain⟨s,d,rfl⟩:=List.mem_map.1 e;obtain⟨u,a,c⟩:=g s d;rw[Gb a];exact⟨afc a,(ue a).1,by rw[Vl];exact c⟩
def B4 {bs:List Bk} (h:iW bs=true):yP (bs.map bN)/\∀b,b∈bs.map bN->DW b:=by
 have hb:=yJ h;have c:∀b,b∈bs.map bN->DW b:=λb a=>by obtain⟨k,hk,rfl⟩:=List.mem_map.1 a;exact ai5<|hb k hk
 refine⟨⟨?_,λb a=>⟨(c b a).regs,(c b a).rok⟩⟩,c⟩;unfold iW at h;simp only[aE,dE] at h;simp;omega
def PK {b:dv} (h:DW b):jP (ni b)/\(ni b).length=40:=by
 refine⟨λi t a=>?_,by simp[ni]⟩;unfold ni at a;rw[gG,List.getElem?_map] at a;by_cases c:i<40
 .rw[List.getElem?_range c] at a;simp only[Option.map_some,Option.getD_some] at a;split at a
  .rename_i hb;cases a;exact h.rok _ (List.mem_of_getElem?<|dN hb)
  .cases a
 .rw[List.getElem?_eq_none (by simpa using c)] at a;cases a
theorem Wl {a:TS} {o:Nat} (h:stepT p a o t=none):(jB p a o (t::ts)).2=0:=by unfold jB;rw[h]
theorem Wm {b a:TS} {o:Nat} (h:stepT p b o t=some a):(jB p b o (t::ts)).2=(jB p a (nh o t) ts).2+1:=by
 conv=>lhs;unfold jB
 rw[h]
theorem PL (h:i<ts.length):ts.drop i=nth ts i::ts.drop (i+1):=by rw[wk h,List.drop_eq_getElem_cons h]
def Wn {p:List dv}:∀(ts:List au) (a:TS) (o:Nat),(jB p a o ts).2<=ts.length
 |[],_,_=>by simp[jB]
 |t::ts,a,o=>by
  cases h:stepT p a o t with
  |none=>rw[Wl h];omega
  |some b=>rw[Wm h];have:=Wn (p:=p) ts b<|nh o t;simp;omega
def oS:Option au->aj
 |some t=>t.text
 |none=>[]
def gw (a:TS):List aj:=a.map oS
theorem PM (a:TS):(gw a).length=a.length:=by simp[gw]
theorem PN {a:TS}:cu (gw a) i=oS (a.getD i none):=by unfold cu gw;rw[gG,List.getElem?_map,gG];cases a[i]?<;>rfl
def ai6 {a:TS}:(gw a).set i t.text=gw (a.set i<|some t):=by unfold gw;rw[List.map_set];rfl
theorem Gk (h:Good t):t.text≠[]:=by grind [Pd]
theorem nj.bU (h:nj t):bU t.text=some t:=by have:=h.fits;unfold ot at this;rw[aE,dE,dE,wm h.et.wf] at this;exact Lv h.et this.1 this.2
def nj.short (h:nj t):t.text.length<=12000:=by have:=h.fits;unfold ot at this;rw[aE,dE,dE,wm h.et.wf] at this;exact this.2
def qK (b:TS) (a:aj):aj:=if 0<=lQ a then cu (gw b) (fO a) else[]
theorem Gl {b:TS} (h:jr a=true):qK b a=oS (df b a):=by unfold qK;rw[iP<|show 0<=lQ a from of_decide_eq_true h,PN];rfl
def ai7 {b:TS} (h:jP b):(oS<|df b a).length<=12000:=by
 cases c:df b a with
 |none=>simp[oS]
 |some x=>exact(qJ h c).short
theorem PO {b:TS} (h:jP b) {y:au} (c:Good y):decide (oS (df b a)=y.text)=qH (df b a) y:=by
 cases d:df b a with
 |none=>rw[dF λe=>Gk c e.symm];rfl
 |some x=>rfl
theorem LM:iT.text=[105]:=by simp[iT,bL,qF]
structure yQ (s:aj) (t:au):Prop where
 some:∀t',bU s=some t'->t=t'
 none:s=[]->aT t=[]
def PQ {b:TS} (h:jP b) (hk:yQ (oS<|df b a) t):(∃x,df b a=some x/\t=x)\/(df b a=none/\aT t=[]):=by
 cases c:df b a with
 |none=>rw[c] at hk;exact .inr ⟨rfl,hk.none rfl⟩
 |some x=>rw[c] at hk;exact .inl ⟨x,rfl,hk.some x (qJ h c).bU⟩
def Gm (a:List aj):Bool:=decide<|iy a+3<=12000
def IP (c:UInt8) (a:List aj):(eC [c] a).length=iy a+3:=by simp only[eC,lC,lA,List.length_nil,Po];omega
def gS:Option au->aj
 |some y=>if y.text.length<=12000 then y.text else[]
 |none=>[]
theorem LN (y:au):gS (some y)=if y.text.length<=12000 then y.text else[]:=rfl
theorem LO {y:au} (h:nj y):gS (some y)=y.text:=iP h.short
theorem LQ:bU []=none:=by decide
def Wo {o:Option au} (i:∀t,o=some t->Good t) (g:TS) (d:Nat):(bU<|gS o).isSome=(eO g d o).isSome/\∀a,eO g d o=some a->gw a=(gw g).set d (gS o):=by
 cases o with
 |none=>exact⟨by rw[gS,LQ];rfl,λa h=>by cases h⟩
 |some y=>
  have c:=i y rfl;rw[LN];by_cases f:y.text.length<=12000
  .rw[iP f,Vt c];have e:ot y=decide (y.depth<=60/\y.text.length<=12000):=by unfold ot;rw[wm c.wf,<-Bool.decide_and]
   unfold eO;simp only[Option.bind_some,e,dE];by_cases b:y.depth<=60/\y.text.length<=12000
   .rw[iP b,iP b];refine⟨rfl,λa h=>?_⟩;cases h;exact ai6.symm
   .rw[iN b,iN b];exact⟨rfl,λa h=>by cases h⟩
  .rw[iN f,LQ];have e:ot y=false:=by
    unfold ot;rw[wm c.wf,dF f,Bool.and_false]
   unfold eO;simp only[Option.bind_some,e];exact⟨rfl,λa h=>by cases h⟩
def Am (b a:List aj):Bool:=decide (∀i,i<a.length->i<b.length/\cu b i=cu a i)
theorem Wp {f:TS} {a:List au} (h:∀t∈a,Good t):Am (gw f) (a.map au.text)=meets f a:=by
 unfold Am meets;refine decide_eq_decide.2 ⟨λg i d=>?_,λg i d=>?_⟩
 .have l:nth a i∈a:=List.mem_of_getElem?<|dN d;obtain⟨_,b⟩:=g i (by simpa using d);rw[PN] at b;have e:cu (a.map au.text) i=(nth a i).text:=by simp[cu,nth,gE d]
  rw[e] at b;cases c:f.getD i none with
  |none=>rw[c] at b;exact absurd b.symm (Gk<|h _ l)
  |some x=>rw[c] at b;exact dT b
 .have j:i<a.length:=by simpa using d
  have b:=g i j;have e:cu (a.map au.text) i=(nth a i).text:=by simp[cu,nth,gE j]
  rw[e,PN,PM];cases c:f.getD i none with
  |none=>rw[c] at b;cases b
  |some x=>rw[c] at b;refine⟨?_,of_decide_eq_true b⟩;refine Nat.lt_of_not_le λm=>?_;rw[gG,List.getElem?_eq_none m] at c;cases c
def PR {a:TS} (h:jP a):∀b:List au,(decide ([]∈b.map λu=>oS<|df a u.aq)=!(lP a b).isSome)/\∀xs,lP a b=some xs->b.map (λu=>oS<|df a u.aq)=xs.map au.text
 |[]=>⟨rfl,λxs e=>by cases e;rfl⟩
 |u::b=>by
  obtain⟨g,i⟩:=PR h b;unfold lP;cases d:df a u.aq with
  |none=>simp[oS,d]
  |some x=>
   have f:=Gk (qJ h d).et;simp only[List.map_cons,d,oS,mC,Option.bind_some,Option.isSome_map];refine⟨?_,λxs e=>?_⟩
   .rw[<-g];exact decide_eq_decide.2 ⟨λj=>j.resolve_left λe=>f e.symm,.inr⟩
   .cases c:lP a b with
    |none=>rw[c] at e;cases e
    |some l=>rw[c] at e;cases e;rw[List.map_cons,<-i l c];rfl
def uh (bS:List aj) (k:Nat):List aj:=(List.range 40).map λi=>if i<k then cu bS i else[]
theorem ai8 (bS:List aj):uh bS 0=List.replicate 40 []:=by
 refine List.ext_getElem? λi=>?_;rw[uh,List.getElem?_map,List.getElem?_replicate];by_cases h:i<40
 .rw[List.getElem?_range h,iP h];rfl
 .rw[List.getElem?_eq_none<|by simpa using h,iN h];rfl
theorem ai9 (bS:List aj) (hk:k<40):(uh bS k).set k (cu bS k)=uh bS (k+1):=by
 refine List.ext_getElem (by simp[uh]) λi _ _=>?_;rw[List.getElem_set];simp only[uh,List.getElem_map,List.getElem_range];by_cases h:k=i
 .subst h;rw[iP rfl,iP om]
 .rw[iN h];by_cases a:i<k
  .rw[iP a,iP om]
  .rw[iN a,iN om]
theorem aja {b:Bk} (h:mx b=true):uh b.bS b.bS.length=gw (ni<|bN b):=by
 have d:=(DM h).2.1;unfold uh gw ni;rw[List.map_map];refine List.map_congr_left λi _=>?_;have f:(bN b).regs.length=b.bS.length:=by simp[bN]
 simp only[Function.comp,f];by_cases hk:i<b.bS.length
 .rw[iP hk,iP hk];have c:b.bS[i]∈b.bS:=List.getElem_mem hk;obtain⟨t,a,_⟩:=d _ c;have e:nth (bN b).regs i=t:=by
   simp only[nth,bN,gG,List.getElem?_map,gE hk,Option.map_some,Option.getD_some];exact Gb a
  rw[e,oS,(ue a).2.2.1];simp[cu,hk]
 .rw[iN hk,iN hk];rfl
/-! ### Types -/
inductive Ty where
 |i
 |op (f:Bool) (a b:Ty)
def lu (f:Bool):aj:=if f then[62] else[42]
def Ty.aw:Ty->au
 | .i=>bL [105]
 | .op f a b=>.mk [] [bL<|lu f,a.aw,b.aw]
def Ty.text (t:Ty):aj:=t.aw.text
def Ty.n:Ty->Nat
 | .i=>1
 | .op _ a b=>1+a.n+b.n
def ajb (f:Bool):Good (bL<|lu f):=by cases f<;>exact .aq _ de de
theorem Ty.et (t:Ty):Good t.aw:=by
 induction t with
 |i=>exact .aq _ de de
 |op f a b c d=>
  refine .list _ sm λp e=>?_;simp only[mC,List.not_mem_nil,or_false] at e;rcases e with rfl|rfl|rfl
  .exact ajb f
  .exact c
  .exact d
theorem ajc (f:Bool):(bL<|lu f).text=lu f:=by cases f<;>exact qF de
theorem Ty.PS:Ty.i.text=[105]:=qF de
theorem Ty.LR (f:Bool) (a b:Ty):(Ty.op f a b).text=40::(lu f++32::(a.text++32::(b.text++[41]))):=by show(au.mk [] [bL<|lu f,a.aw,b.aw]).text=_;rw[si,qG,qG,rC,ajc];simp[Ty.text]
theorem PT (f:Bool):(lu f).length=1:=by cases f<;>rfl
theorem Ty.pos (t:Ty):1<=t.n:=by cases t<;>simp[Ty.n];omega
theorem Ty.len (t:Ty):t.text.length+3<=4*t.n:=by induction t<;>grind [Ty.PS,Ty.n,Ty.LR,PT]
def Ty.deep (t:Ty):t.aw.depth+1<=t.n:=by
 induction t with
 |i=>simp[Ty.aw,bL,au.depth,au.depth.deeps,Ty.n]
 |op f a b _ _=>have c:(bL<|lu f).depth=0:=rfl;have d:=a.pos;have e:=b.pos;show au.depth.deeps [bL<|lu f,a.aw,b.aw]+1<=_;simp only[au.depth.deeps,c,Ty.n];omega
theorem Ty.size (t:Ty):t.aw.size<=5*t.n:=by
 induction t with
 |i=>simp[Ty.aw,bL,au.size,au.size.sizes,Ty.n]
 |op f a b _ _=>
  have c:(bL<|lu f).size=2:=by cases f<;>rfl
  show 1+0+au.size.sizes [bL<|lu f,a.aw,b.aw]<=_;simp only[au.size.sizes,c,Ty.n];omega
theorem Ty.bU {t:Ty} (h:t.n<=60):bU t.text=some t.aw:=Lv t.et (by have:=t.deep;omega) (by have:=t.len;show t.text.length<=_;omega)
def Ty.ne (t:Ty):t.text≠[]:=Gk t.et
theorem IQ:∀{t u:Ty},t.aw=u.aw->t=u
 | .i,.i,_=>rfl
 | .i,.op _ _ _,h=>by simp[Ty.aw,bL] at h
 | .op _ _ _,.i,h=>by simp[Ty.aw,bL] at h
 | .op f a b,.op g c d,h=>by simp only[Ty.aw,au.mk.injEq,true_and,List.cons.injEq,and_true] at h;obtain⟨e,i,j⟩:=h;rw[IQ i,IQ j];cases f<;>cases g<;>first|rfl|(simp[bL,lu] at e)
theorem Ty.inj {t u:Ty} (h:t.text=u.text):t=u:=IQ (Lu t.et u.et h)
/-! ### Forms that are types -/
mutual
def gJ:au->Nat
 | .mk a ps=>if a≠[] then 1 else kP ps
def kP:List au->Nat
 |[]=>0
 |t::ts=>gJ t+kP ts
end
theorem Wq:∀(xs a:List au),kP (xs++a)=kP xs+kP a:=by intro x;induction x<;>grind [kP]
theorem PU (t:au):gJ t=if t.aq≠[] then 1 else kP t.ag:=by cases t with|mk a ps=>rw[gJ];rfl
def Wr {p:au} (h:ps[i]?=some p):kP (ps.take<|i+1)=kP (ps.take i)+gJ p:=by rw[List.take_add_one,h,Wq];simp[kP]
mutual
def ajd:∀t:au,gJ t<=t.size
 | .mk a ps=>by have:=PV ps;unfold gJ;simp only[au.size];split<;>omega
def PV:∀ps:List au,kP ps<=au.size.sizes ps
 |[]=>by simp[kP]
 |t::ts=>by have a:=ajd t;have b:=PV ts;simp only[kP,au.size.sizes];omega
end
theorem PW (h:a≠[]):gJ (bL a)=1:=by simp[gJ,bL,h]
theorem Ty.gJ (t:Ty):gJ t.aw=t.n:=by
 induction t with
 |i=>simp[Ty.aw,PW,Ty.n]
 |op f a b c d=>have e:Go.Proofs.YtjkkipfboijfaaaGreatDoor.gJ (bL<|lu f)=1:=PW (by cases f<;>decide);show Go.Proofs.YtjkkipfboijfaaaGreatDoor.gJ (.mk [] [bL<|lu f,a.aw,b.aw])=_;simp only[Go.Proofs.YtjkkipfboijfaaaGreatDoor.gJ,kP,e,c,d,Ty.n];simp;omega
mutual
def qL:au->Bool
 | .mk a ps=>if a≠[] then decide (a=[105]) else va ps
def va:List au->Bool
 |[h,x,y]=>(decide (h.aq=[62])||decide (h.aq=[42]))&&(qL x&&qL y)
 |_=>false
end
theorem Ws (t:au):qL t=if t.aq≠[] then decide (t.aq=[105]) else va t.ag:=by cases t with|mk a ps=>rw[qL];rfl
theorem aje (c:WF t):qL t=true↔∃u:Ty,t=u.aw:=by
 constructor
 .intro h;have o:∀m (t:au),t.size<=m->WF t->qL t=true->∃u:Ty,t=u.aw:=by
   intro m;induction m with
   |zero=>intro t _;have:=rB t;omega
   |succ m q=>
    intro t z c h;cases c with
    |aq a p=>simp only[qL,iP p,dE] at h;exact⟨.i,by rw[h];rfl⟩
    |list ps _ c=>
     simp only[qL] at h;rw[iN de] at h
     match ps,h with
     |[g,x,y],h=>
      simp only[va,aE,oE,dE] at h;obtain⟨d,A,B⟩:=h;simp only[au.size,au.size.sizes] at z;obtain⟨u,rfl⟩:=q x om (c x sm) A;obtain⟨v,rfl⟩:=q y om (c y sm) B;have r:∀s:aj,s≠[]->g.aq=s->g=bL s:=λs C e=>by
       have j:=c g sm;cases j with
       |aq a p=>cases e;rfl
       |list _ _ _=>exact absurd e.symm C
      rcases d with d|d
      .exact⟨.op true u v,by rw[r _ de d];rfl⟩
      .exact⟨.op false u v,by rw[r _ de d];rfl⟩
  exact o t.size t (lR _) c h
 .rintro⟨u,rfl⟩;induction u with
  |i=>rfl
  |op f a b l n=>show qL (.mk [] [bL<|lu f,a.aw,b.aw])=true;have:=l a.et.wf;have:=n b.et.wf;simp only[qL,va, *];cases f<;>simp[bL,lu,au.aq]
def lv (t:au):Bool:=qL t&&decide (gJ t<=16)
theorem B5 (a:WF t):lv t=true↔∃u:Ty,t=u.aw/\u.n<=16:=by
 unfold lv;rw[aE,dE,aje a];constructor
 .rintro⟨⟨u,rfl⟩,h⟩;exact⟨u,rfl,by rw[<-u.gJ];exact h⟩
 .rintro⟨u,rfl,h⟩;exact⟨⟨u,rfl⟩,by rw[u.gJ];exact h⟩
/-! ### Names -/
def eR (s:aj):Bool:=decide (1<=s.length)&&decide (s.length<=4)&&(decide (97<=s.getD 0 0)&&decide (s.getD 0 0<=122))&&(s.drop 1).all je
def sn (s:aj):Bool:=(numeral s).isSome||eR s
theorem xK (h:eR s=true):s≠[]:=by grind [eR]
/-! ### Expressions -/
inductive Ex where
 |at(s:aj)
 |un (h:aj) (a:Ex)
 |bi (h:aj) (a b:Ex)
 |ite (a b c:Ex)
 |lt (x:aj) (a b:Ex)
 |fn (f x:aj) (A B:Ty) (e:Ex)
abbrev iz:aj:=[105,102]
abbrev il:aj:=[108,101,116]
abbrev iJ:aj:=[102,117,110]
abbrev DX:aj:=[102,115,116]
abbrev sX:aj:=[115,110,100]
abbrev lS:aj:=[99,97,108,108]
abbrev An:aj:=[112,97,105,114]
def Ex.aw:Ex->au
 | .at s=>bL s
 | .un h a=>.mk [] [bL h,a.aw]
 | .bi h a b=>.mk [] [bL h,a.aw,b.aw]
 | .ite a b c=>.mk [] [bL iz,a.aw,b.aw,c.aw]
 | .lt x a b=>.mk [] [bL il,bL x,a.aw,b.aw]
 | .fn f x A B e=>.mk [] [bL iJ,bL f,bL x,A.aw,B.aw,e.aw]
def im (h:aj):Bool:=decide (h=DX)||decide (h=sX)
def iK (h:aj):Bool:=decide (h=[43])||decide (h=[45])||decide (h=[42])||decide (h=lS)||decide (h=An)
def Ex.ok:Ex->Prop
 | .at s=>sn s=true
 | .un h a=>im h=true/\a.ok
 | .bi h a b=>iK h=true/\a.ok/\b.ok
 | .ite a b c=>a.ok/\b.ok/\c.ok
 | .lt x a b=>eR x=true/\a.ok/\b.ok
 | .fn f x A B e=>eR f=true/\eR x=true/\f≠x/\A.n<=16/\B.n<=16/\e.ok
def Ex.n:Ex->Nat
 | .at _=>1
 | .un _ a=>1+a.n
 | .bi _ a b=>1+a.n+b.n
 | .ite a b c=>1+a.n+b.n+c.n
 | .lt _ a b=>2+a.n+b.n
 | .fn _ _ A B e=>3+A.n+B.n+e.n
mutual
def eD:au->Bool
 | .mk a ps=>if a≠[] then sn a else pE ps
def pE:List au->Bool
 |[h,a]=>im h.aq&&eD a
 |[h,a,b]=>iK h.aq&&(eD a&&eD b)
 |[h,a,b,c]=>if h.aq=iz then eD a&&(eD b&&eD c) else if h.aq=il then eR a.aq&&(eD b&&eD c) else false
 |[h,f,x,A,B,e]=>decide (h.aq=iJ)&&(eR f.aq&&eR x.aq&&decide (f.aq≠x.aq)&&lv A&&lv B&&eD e)
 |_=>false
end
theorem B6 (c:WF t) (b:s≠[]) (e:t.aq=s):t=bL s:=by
 cases c with
 |aq a _=>cases e;rfl
 |list _ _ _=>exact absurd e.symm b
theorem Wt (k:im h=true):h≠[]:=by rintro rfl;cases k
theorem Wu (k:iK h=true):h≠[]:=by rintro rfl;cases k
theorem rE (k:sn s=true):s≠[]:=by rintro rfl;cases k
theorem ajg (d:WF t):eD t=true↔∃e:Ex,t=e.aw/\e.ok:=by
 constructor
 .intro h;have M:∀m (t:au),t.size<=m->WF t->eD t=true->∃e:Ex,t=e.aw/\e.ok:=by
   intro m;induction m with
   |zero=>intro t _;have:=rB t;omega
   |succ m j=>
    intro t D d h;cases d with
    |aq a P=>simp only[eD,iP P] at h;exact⟨.at a,rfl,h⟩
    |list ps _ d=>
     simp only[eD] at h;rw[iN de] at h
     match ps,h with
     |[n,x],h=>simp only[pE,aE] at h;simp only[au.size,au.size.sizes] at D;obtain⟨u,rfl,o⟩:=j x om (d x sm) h.2;exact⟨.un n.aq u,by rw[B6 (d n sm) (Wt h.1) rfl];rfl,h.1,o⟩
     |[n,x,y],h=>simp only[pE,aE] at h;simp only[au.size,au.size.sizes] at D;obtain⟨u,rfl,o⟩:=j x om (d x sm) h.2.1;obtain⟨v,rfl,r⟩:=j y om (d y sm) h.2.2;exact⟨.bi n.aq u v,by rw[B6 (d n sm) (Wu h.1) rfl];rfl,h.1,o,r⟩
     |[n,x,y,z],h=>
      simp only[pE] at h;simp only[au.size,au.size.sizes] at D;split at h
      .rename_i p;simp only[aE] at h;obtain⟨u,rfl,o⟩:=j x om (d x sm) h.1;obtain⟨v,rfl,r⟩:=j y om (d y sm) h.2.1;obtain⟨q,rfl,K⟩:=j z om (d z sm) h.2.2;exact⟨.ite u v q,by rw[B6 (d n sm) de p];rfl,o,r,K⟩
      .split at h
       .rename_i p;simp only[aE] at h;obtain⟨v,rfl,r⟩:=j y om (d y sm) h.2.1;obtain⟨q,rfl,K⟩:=j z om (d z sm) h.2.2;exact⟨.lt x.aq v q,by rw[B6 (d n sm) de p,B6 (d x sm) (xK h.1) rfl];rfl,h.1,r,K⟩
       .cases h
     |[n,f,x,A,B,e],h=>simp only[pE,aE,dE] at h;simp only[au.size,au.size.sizes] at D;obtain⟨p,⟨⟨⟨⟨C,E⟩,F⟩,H⟩,I⟩,J⟩:=h;obtain⟨u,rfl,o⟩:=j e om (d e sm) J;obtain⟨Q,rfl,O⟩:=(B5<|d A sm).1 H;obtain⟨R,rfl,N⟩:=(B5<|d B sm).1 I;exact⟨.fn f.aq x.aq Q R u,by rw[B6 (d n sm) de p,B6 (d f sm) (xK C) rfl,B6 (d x sm) (xK E) rfl];rfl,C,E,F,O,N,o⟩
  exact M t.size t (lR _) d h
 .rintro⟨e,rfl,i⟩;clear d;induction e with
  |«at» s=>show eD (.mk s [])=true;simp only[eD];rw[iP (rE i)];exact i
  |un h a g=>show eD (.mk [] [bL h,a.aw])=true;simp only[eD];rw[iN de];simp only[pE,aE];exact⟨i.1,g i.2⟩
  |bi h a b g l=>show eD (.mk [] [bL h,a.aw,b.aw])=true;simp only[eD];rw[iN de];simp only[pE,aE];exact⟨i.1,g i.2.1,l i.2.2⟩
  |ite a b c g l L=>show eD (.mk [] [bL iz,a.aw,b.aw,c.aw])=true;simp only[eD];rw[iN de];simp only[pE];rw[iP (show(bL iz).aq=iz from rfl)];simp only[aE];exact⟨g i.1,l i.2.1,L i.2.2⟩
  |lt x a b g l=>show eD (.mk [] [bL il,bL x,a.aw,b.aw])=true;simp only[eD];rw[iN de];simp only[pE];rw[iN<|show¬(bL il).aq=iz by decide,iP (show(bL il).aq=il from rfl)];simp only[aE];exact⟨i.1,g i.2.1,l i.2.2⟩
  |fn f x A B e j=>show eD (.mk [] [bL iJ,bL f,bL x,A.aw,B.aw,e.aw])=true;obtain⟨C,E,F,H,I,J⟩:=i;simp only[eD];rw[iN de];simp only[pE,aE,dE];exact⟨rfl,⟨⟨⟨⟨C,E⟩,F⟩,(B5 A.et.wf).2 ⟨A,rfl,H⟩⟩,(B5 B.et.wf).2 ⟨B,rfl,I⟩⟩,j J⟩
/-! ### Parts -/
def Ex.head:Ex->aj
 | .at _=>[]
 | .un h _=>h
 | .bi h _ _=>h
 | .ite _ _ _=>iz
 | .lt _ _ _=>il
 | .fn _ _ _ _ _=>iJ
def Ex.from:Ex->Nat
 | .lt _ _ _=>2
 | .fn _ _ _ _ _=>5
 |_=>1
def Ex.kids:Ex->List Ex
 | .at _=>[]
 | .un _ a=>[a]
 | .bi _ a b=>[a,b]
 | .ite a b c=>[a,b,c]
 | .lt _ a b=>[a,b]
 | .fn _ _ _ _ e=>[e]
def Ex.binds:Ex->Nat->List aj
 | .lt x _ _,3=>[x]
 | .fn f x _ _ _,_=>[f,x]
 |_,_=>[]
def Ex.jC:Ex->Bool
 | .at _=>true
 |_=>false
def gW (e:Ex) (j:Nat):Ex:=e.kids.getD j<|.at []
theorem Ex.wf {e:Ex} (h:e.ok):Good e.aw:=by
 have num:∀s:aj,sn s=true->s.all fy=true:=λs j=>by
  unfold sn at j;rw[oE] at j;have q:∀c:UInt8,je c=true->fy c=true:=λc m=>by unfold je at m;unfold fy;rw[m];simp
  rcases j with j|j
  .cases n:numeral s with
   |none=>rw[n] at j;cases j
   |some z=>
    unfold numeral at n;split at n
    .rename_i e;rw[e];decide
    .split at n
     .cases n
     .split at n
      .rename_i o;rw[List.all_eq_true] at o⊢;intro c m;unfold fj at o;split at o
       .rename_i u;cases s with
        |nil=>simp at u
        |cons d r=>
         simp only[List.getD_cons_zero,List.drop_succ_cons,List.drop_zero] at u o;rcases mC.1 m with rfl|m
         .rw[u.2];decide
         .exact q c<|o c m
       .exact q c<|o c m
      .cases n
  .cases s with
   |nil=>rfl
   |cons c r=>
    simp only[eR,aE,dE,List.getD_cons_zero,List.drop_succ_cons,List.drop_zero] at j;obtain⟨⟨_,D,E⟩,C⟩:=j;rw[List.all_cons,aE];refine⟨?_,?_⟩
    .unfold fy;simp[D,E]
    .rw[List.all_eq_true] at C⊢;exact λd t=>q d<|C d t
 have y:∀s:aj,eR s=true->Good (bL s):=λs j=>.aq _ (xK j)<|num s (by unfold sn;rw[j];simp);induction e with
 |«at» s=>exact .aq _ (rE h)<|num s h
 |un t a g=>
  refine .list _ sm λp i=>?_;simp only[mC,List.not_mem_nil,or_false] at i;rcases i with rfl|rfl
  .obtain⟨k,_⟩:=h;simp only[im,oE,dE] at k;rcases k with k|k<;>(rw[k];exact .aq _ de de)
  .exact g h.2
 |bi t a b g l=>
  refine .list _ sm λp i=>?_;simp only[mC,List.not_mem_nil,or_false] at i;rcases i with rfl|rfl|rfl
  .obtain⟨k,_⟩:=h;simp only[iK,oE,dE] at k;rcases k with(((k|k)|k)|k)|k<;>(rw[k];exact .aq _ de de)
  .exact g h.2.1
  .exact l h.2.2
 |ite a b c g l v=>
  refine .list _ sm λp i=>?_;simp only[mC,List.not_mem_nil,or_false] at i;rcases i with rfl|rfl|rfl|rfl
  .exact .aq _ de de
  .exact g h.1
  .exact l h.2.1
  .exact v h.2.2
 |lt x a b g l=>
  refine .list _ sm λp i=>?_;simp only[mC,List.not_mem_nil,or_false] at i;rcases i with rfl|rfl|rfl|rfl
  .exact .aq _ de de
  .exact y x h.1
  .exact g h.2.1
  .exact l h.2.2
 |fn f x A B e J=>
  refine .list _ sm λp i=>?_;simp only[mC,List.not_mem_nil,or_false] at i;obtain⟨H,I,_,_,_,F⟩:=h;rcases i with rfl|rfl|rfl|rfl|rfl|rfl
  .exact .aq _ de de
  .exact y f H
  .exact y x I
  .exact A.et
  .exact B.et
  .exact J F
theorem Ex.ag {e:Ex} (h:e.jC=false):e.aw.aq=[]/\e.aw.ag.length=e.from+e.kids.length/\(nth e.aw.ag 0).aq=e.head/\∀j,j<e.kids.length->nth e.aw.ag (e.from+j)=(gW e j).aw:=by
 cases e with
 |«at» s=>cases h
 |un g a=>exact⟨rfl,rfl,rfl,λj d=>by
  have:j=0:=by simp[Ex.kids] at d;omega
  subst this;rfl⟩
 |bi g a b=>refine⟨rfl,rfl,rfl,λj d=>?_⟩;simp only[Ex.kids,lC,List.length_nil] at d;rcases(show j=0\/j=1 by omega) with rfl|rfl<;>rfl
 |ite a b c=>refine⟨rfl,rfl,rfl,λj d=>?_⟩;simp only[Ex.kids,lC,List.length_nil] at d;rcases(show j=0\/j=1\/j=2 by omega) with rfl|rfl|rfl<;>rfl
 |lt x a b=>refine⟨rfl,rfl,rfl,λj d=>?_⟩;simp only[Ex.kids,lC,List.length_nil] at d;rcases(show j=0\/j=1 by omega) with rfl|rfl<;>rfl
 |fn f x A B e=>exact⟨rfl,rfl,rfl,λj d=>by
  have:j=0:=by simp[Ex.kids] at d;omega
  subst this;rfl⟩
theorem Ex.pos (e:Ex):1<=e.n:=by cases e<;>simp[Ex.n]<;>omega
theorem Ex.gJ {e:Ex} (h:e.ok):gJ e.aw=e.n:=by
 have xL:∀s:aj,s≠[]->Go.Proofs.YtjkkipfboijfaaaGreatDoor.gJ (bL s)=1:=λs o=>PW o;have j:∀ps:List au,Go.Proofs.YtjkkipfboijfaaaGreatDoor.gJ (.mk [] ps)=kP ps:=λps=>by simp[Go.Proofs.YtjkkipfboijfaaaGreatDoor.gJ]
 induction e with
 |«at» s=>exact xL s<|rE h
 |un i a d=>show Go.Proofs.YtjkkipfboijfaaaGreatDoor.gJ (.mk [] [bL i,a.aw])=_;rw[j];simp only[kP,xL i<|Wt h.1,d h.2,Ex.n];omega
 |bi i a b d g=>show Go.Proofs.YtjkkipfboijfaaaGreatDoor.gJ (.mk [] [bL i,a.aw,b.aw])=_;rw[j];simp only[kP,xL i<|Wu h.1,d h.2.1,g h.2.2,Ex.n];omega
 |ite a b c d g l=>show Go.Proofs.YtjkkipfboijfaaaGreatDoor.gJ (.mk [] [bL iz,a.aw,b.aw,c.aw])=_;rw[j];simp only[kP,xL iz de,d h.1,g h.2.1,l h.2.2,Ex.n];omega
 |lt x a b d g=>show Go.Proofs.YtjkkipfboijfaaaGreatDoor.gJ (.mk [] [bL il,bL x,a.aw,b.aw])=_;rw[j];simp only[kP,xL il de,xL x<|xK h.1,d h.2.1,g h.2.2,Ex.n];omega
 |fn f x A B e q=>obtain⟨n,p,_,_,_,m⟩:=h;show Go.Proofs.YtjkkipfboijfaaaGreatDoor.gJ (.mk [] [bL iJ,bL f,bL x,A.aw,B.aw,e.aw])=_;rw[j];simp only[kP,xL iJ de,xL f<|xK n,xL x<|xK p,A.gJ,B.gJ,q m,Ex.n];omega
def IS {e:Ex} (h:e.ok) {j:Nat} (a:j<e.kids.length):(gW e j).ok/\(gW e j).n<e.n:=by cases e<;>grind [Ex.ok,gW,Ty.n,Ex.n,Ex.kids]
def fb (h:aj):Nat×Nat:=
 if iK h then(1,3) else if h=iz then(1,4) else if h=il then(2,4) else if h=iJ then(5,6) else if im h then(1,2) else(0,0)
def PY {e:Ex} (h:e.ok) (g:e.jC=false):fb e.head=(e.from,e.from+e.kids.length):=by
 cases e with
 |«at» s=>cases g
 |un d a=>obtain⟨k,_⟩:=h;simp only[im,oE,dE] at k;rcases k with k|k<;>(subst k;rfl)
 |bi d a b=>show fb d=_;unfold fb;rw[h.1];rfl
 |ite a b c=>rfl
 |lt x a b=>rfl
 |fn f x A B e=>rfl
/-! ### Free aP -/
def Fv (x:aj):Ex->Prop
 | .at s=>s=x/\eR x=true
 | .un _ a=>Fv x a
 | .bi _ a b=>Fv x a\/Fv x b
 | .ite a b c=>Fv x a\/Fv x b\/Fv x c
 | .lt y a b=>Fv x a\/(x≠y/\Fv x b)
 | .fn f y _ _ e=>x≠f/\x≠y/\Fv x e
def dQ:Ex->List aj->List aj->List aj
 | .at s,d,l=>if(!eR s||decide (s∈d)||decide (s∈l))=true then l else l++[s]
 | .un _ a,d,l=>dQ a d l
 | .bi _ a b,d,l=>dQ b d<|dQ a d l
 | .ite a b c,d,l=>dQ c d (dQ b d<|dQ a d l)
 | .lt x a b,d,l=>dQ b (d++[x])<|dQ a d l
 | .fn f x _ _ e,d,l=>dQ e (d++[f,x]) l
def DY (x:aj):∀(e:Ex) (a l:List aj),x∈dQ e a l↔x∈l\/(Fv x e/\x∉a):=by intro x;induction x<;>grind [dQ,Fv,eR]
def ajh:∀(e:Ex) (a l:List aj),l.Nodup->(dQ e a l).Nodup:=by intro x;induction x<;>grind [dQ]
def PZ:∀(e:Ex) (a l:List aj),(dQ e a l).length<=l.length+e.n:=by intro x;induction x<;>grind [dQ,Ty.n,Ex.n]
def sq (e:Ex) (a l:List aj):Nat->List aj
 |0=>l
 |j+1=>dQ (gW e j) (a++e.binds (e.from+j))<|sq e a l j
theorem aji {e:Ex} (b:e.jC=false) (a l:List aj):dQ e a l=sq e a l e.kids.length:=by cases e<;>simp_all[Ex.jC,dQ,sq,Ex.kids,gW,Ex.binds,Ex.from]
def lx (x:aj):Ex->Nat
 | .at s=>if s=x then 1 else 0
 | .un _ a=>lx x a
 | .bi _ a b=>lx x a+lx x b
 | .ite a b c=>lx x a+lx x b+lx x c
 | .lt y a b=>lx x a+if x=y then 0 else lx x b
 | .fn f y _ _ e=>if x=f\/x=y then 0 else lx x e
def ajj (a:eR x=true):∀e:Ex,0<lx x e↔Fv x e:=by intro x;induction x<;>grind [eR,lx,Fv]
def count_le (x:aj):∀e:Ex,lx x e<=e.n:=by intro x;induction x<;>grind [lx,Ty.n,Ex.n]
def B7 (x:aj) (e:Ex):Nat->Nat
 |0=>0
 |j+1=>B7 x e j+if x∈e.binds (e.from+j) then 0 else lx x (gW e j)
theorem Ww {e:Ex} (a:e.jC=false) (x:aj):lx x e=B7 x e e.kids.length:=by cases e<;>simp_all[Ex.jC,lx,B7,Ex.kids,gW,Ex.binds,Ex.from]
/-! ### Types of expressions -/
abbrev Sc:=List<|aj×Ty
def look (a:Sc) (s:aj):Option Ty:=(a.reverse.find? λp=>decide<|p.1=s).map Prod.snd
theorem qM (a:Sc) (x s:aj) (T:Ty):look (a++[(x,T)]) s=if x=s then some T else look a s:=by grind [look]
theorem B8 (a:Sc) (f x s:aj) (T U:Ty):look (a++[(f,T),(x,U)]) s=if x=s then some U else if f=s then some T else look a s:=by grind [look]
def mz (a b:Ty):Bool:=decide<|a.text=b.text
theorem ajk {a b:Ty}:mz a b=true↔a=b:=by grind [mz,Ty.inj]
def mB (h:aj):List Ty->Option Ty
 |[a]=>match a with
  | .op false c d=>if h=DX then some c else if h=sX then some d else none
  |_=>none
 |[a,b]=>
  if h=lS then match a with
   | .op true c d=>if mz c b then some d else none
   |_=>none
  else if h=An then(if 1+a.n+b.n<=16 then some (.op false a b) else none)
  else if mz a .i&&mz b .i then some .i else none
 |[a,b,c]=>if mz a .i&&mz b c then some b else none
 |_=>none
def bO:Ex->Sc->Option Ty
 | .at s,d=>if eR s then look d s else some .i
 | .un h a,d=>(bO a d).bind λA=>mB h [A]
 | .bi h a b,d=>(bO a d).bind λA=>(bO b d).bind λB=>mB h [A,B]
 | .ite a b c,d=>(bO a d).bind λA=>(bO b d).bind λB=>(bO c d).bind λC=>mB iz [A,B,C]
 | .lt x a b,d=>(bO a d).bind λA=>bO b<|d++[(x,A)]
 | .fn f x A B e,d=>if 1+A.n+B.n<=16 then(bO e<|d++[(f,.op true A B),(x,A)]).bind λC=>if mz C B then some (.op true A B) else none else none
theorem sr:∀(e:Ex) (j g:Sc),(∀s,eR s=true->Fv s e->look j s=look g s)->bO e j=bO e g
 | .at s,j,g,h=>by
  unfold bO;by_cases d:eR s=true
  .rw[iP d,iP d];exact h s d ⟨rfl,d⟩
  .rw[iN d,iN d]
 | .un o a,j,g,h=>by unfold bO;rw[sr a j g h]
 | .bi o a b,j,g,h=>by unfold bO;rw[sr a j g λs d i=>h s d<|.inl i,sr b j g λs d i=>h s d (.inr i)]
 | .ite a b c,j,g,h=>by unfold bO;rw[sr a j g λs d i=>h s d<|.inl i,sr b j g λs d i=>h s d (.inr<|.inl i),sr c j g λs d i=>h s d (.inr<|.inr i)]
 | .lt x a b,j,g,h=>by
  unfold bO;rw[sr a j g λs d i=>h s d (.inl i)];cases bO a g with
  |none=>rfl
  |some A=>
   refine sr b _ _ λs d i=>?_;rw[qM,qM];by_cases e:x=s
   .rw[iP e,iP e]
   .rw[iN e,iN e];exact h s d<|.inr ⟨λm=>e m.symm,i⟩
 | .fn f x A B e,j,g,h=>by
  unfold bO;rw[sr e _ (g++[(f,.op true A B),(x,A)]) λs d i=>?_];rw[B8,B8];by_cases l:x=s
  .rw[iP l,iP l]
  .by_cases n:f=s
   .rw[iN l,iN l,iP n,iP n]
   .rw[iN l,iN l,iN n,iN n];exact h s d ⟨λm=>n m.symm,λm=>l m.symm,i⟩
def Ao (a:Sc):Prop:=∀s T,look a s=some T->T.n<=16
def IT {a:Sc} (h:Ao a) {T:Ty} (b:T.n<=16):Ao (a++[(x,T)]):=by grind [Ao,Ty.n,Ex.n,qM]
def P1:∀{j:List Ty} {T:Ty},(∀k∈j,k.n<=16)->mB h j=some T->T.n<=16
 |[],T,_,e=>by cases e
 |[a],T,hk,e=>by
  have g:=hk a sm;cases a with
  |i=>cases e
  |op f c d=>
   cases f with
   |true=>cases e
   |false=>
    simp only[Ty.n] at g;simp only[mB] at e;split at e
    .cases e;omega
    .split at e
     .cases e;omega
     .cases e
 |[a,b],T,hk,e=>by
  have g:=hk a sm;have hb:=hk b sm;simp only[mB] at e;split at e
  .cases a with
   |i=>cases e
   |op f c d=>
    cases f with
    |false=>cases e
    |true=>
     simp only at e;split at e
     .cases e;simp only[Ty.n] at g;omega
     .cases e
  .split at e
   .split at e
    .rename_i l;cases e;simpa[Ty.n] using l
    .cases e
   .split at e
    .cases e;decide
    .cases e
 |[a,b,c],T,hk,e=>by
  simp only[mB] at e;split at e
  .cases e;exact hk b sm
  .cases e
 |_::_::_::_::_,T,_,e=>by cases e
def nR:∀{e:Ex} {Γ:Sc} {T:Ty},Ao Γ->bO e Γ=some T->T.n<=16
 | .at s,Γ,T,d,h=>by
  unfold bO at h;split at h
  .exact d s T h
  .cases h;decide
 | .un l a,Γ,T,d,h=>by
  unfold bO at h;cases g:bO a Γ with
  |none=>rw[g] at h;cases h
  |some A=>rw[g,Option.bind_some] at h;exact P1 (λk hk=>by simp at hk;rw[hk];exact nR d g) h
 | .bi l a b,Γ,T,d,h=>by
  unfold bO at h;cases g:bO a Γ with
  |none=>rw[g] at h;cases h
  |some A=>
   cases hb:bO b Γ with
   |none=>rw[g,hb] at h;cases h
   |some B=>rw[g,hb,Option.bind_some,Option.bind_some] at h;exact P1 (λk hk=>by simp at hk;rcases hk with rfl|rfl;exact nR d g;exact nR d hb) h
 | .ite a b c,Γ,T,d,h=>by
  unfold bO at h;cases g:bO a Γ with
  |none=>rw[g] at h;cases h
  |some A=>
   cases hb:bO b Γ with
   |none=>rw[g,hb] at h;cases h
   |some B=>
    cases i:bO c Γ with
    |none=>rw[g,hb,i] at h;cases h
    |some C=>rw[g,hb,i,Option.bind_some,Option.bind_some,Option.bind_some] at h;exact P1 (λk hk=>by simp at hk;rcases hk with rfl|rfl|rfl;exact nR d g;exact nR d hb;exact nR d i) h
 | .lt x a b,Γ,T,d,h=>by
  unfold bO at h;cases g:bO a Γ with
  |none=>rw[g] at h;cases h
  |some A=>rw[g,Option.bind_some] at h;exact nR (IT d<|nR d g) h
 | .fn f x A B e,Γ,T,d,h=>by
  unfold bO at h;split at h
  .rename_i i;cases j:bO e (Γ++[(f,.op true A B),(x,A)]) with
   |none=>rw[j] at h;cases h
   |some C=>
    rw[j,Option.bind_some] at h;split at h
    .cases h;simpa[Ty.n] using i
    .cases h
  .cases h
/-! ### sf aP -/
theorem ajl (n:Nat):val (aS n)=n:=by
 induction n using Nat.strongRecOn with
 |_ n b=>
  have a:∀k,k<10->(UInt8.ofNat (48+k)).toNat=48+k:=λk hk=>by rw[UInt8.toNat_ofNat'];exact Nat.mod_eq_of_lt om
  unfold aS;by_cases h:n<10
  .rw[iP h];show 10*0+((UInt8.ofNat<|48+n).toNat-48)=n;rw[a n h];omega
  .rw[iN h,UP,b (n/10) om,a (n%10) om];omega
theorem ajm {n:Nat} (h:aS n=aS m):n=m:=by grind [ajl]
def dm (c:UInt8) (k:Nat):aj:=c::aS k
theorem rF {j:Nat} (h:dm c k=dm c j):k=j:=by grind [ajm,dm]
def P2 {b:Type} [BEq b] [LawfulBEq b]:∀{l m:List b},l.Nodup->(∀x∈l,x∈m)->l.length<=m.length
 |[],m,_,_=>by simp
 |a::l,m,hn,hs=>by rw[List.nodup_cons] at hn;have c:=hs a sm;have:=P2 (l:=l) (m:=m.erase a) hn.2 λx d=>(List.mem_erase_of_ne (fun(e:x=a)=>hn.1<|e▸d)).2 (hs x<|by simp[d]);rw[List.length_erase_of_mem c] at this;have:=List.length_pos_of_mem c;simp only[lC];omega
def rG (c:UInt8) (b:List aj):Nat->Nat->Nat
 |0,n=>n
 |a+1,n=>if dm c n∈b then rG c b a (n+1) else n
def bI (c:UInt8) (a:List aj) (n:Nat):Nat:=rG c a (a.length+1) n
theorem ajn (c:UInt8) (b:List aj):∀a n,n<=rG c b a n/\rG c b a n<=n+a:=by intro x;induction x<;>grind [rG]
def Wx (c:UInt8) (b:List aj):∀a n,dm c (rG c b a n)∉b\/∀j,j<a->dm c (n+j)∈b
 |0,n=>.inr λj e=>by omega
 |a+1,n=>by
  unfold rG;split
  .rename_i h;rcases Wx c b a (n+1) with d|d
   .exact .inl d
   .refine .inr λj e=>?_;cases j with
    |zero=>exact h
    |succ j=>have:=d j om;rw[show n+(j+1)=n+1+j from by omega];exact this
  .rename_i h;exact .inl h
theorem LU (c:UInt8) (d:List aj) (n:Nat):dm c (bI c d n)∉d:=by
 rcases Wx c d (d.length+1) n with h|h
 .exact h
 .exfalso;have i:((List.range<|d.length+1).map λj=>dm c<|n+j).Nodup:=by
   rw[List.nodup_iff_pairwise_ne,List.pairwise_map];refine List.Pairwise.imp ?_<|List.nodup_iff_pairwise_ne.1 List.nodup_range;intro a b f e;exact f (by have:=rF e;omega)
  have:=P2 i (m:=d) (λx l=>by obtain⟨j,g,rfl⟩:=List.mem_map.1 l;exact h j<|List.mem_range.1 g);simp at this;omega
theorem p8 (c:UInt8) (a:List aj) (n:Nat):n<=bI c a n/\bI c a n<=n+a.length+1:=by grind [ajn,dC.length,bI]
def Wy {a:List aj} {n:Nat} (h:dm c n∈a):bI c a n=bI c a (n+1):=by
 have j:∀f g n,dm c (rG c a f n)∉a->dm c (rG c a g n)∉a->rG c a f n=rG c a g n:=by
  intro f;induction f with
  |zero=>
   intro g n b d;cases g with
   |zero=>rfl
   |succ g=>unfold rG at b⊢;rw[iN b]
  |succ f l=>
   intro g n b d;cases g with
   |zero=>unfold rG at d⊢;rw[iN d]
   |succ g=>
    unfold rG at b d⊢;by_cases i:dm c n∈a
    .rw[iP i] at b d⊢;rw[iP i];exact l g (n+1) b d
    .rw[iN i,iN i]
 have e:bI c a n=rG c a a.length (n+1):=by
  unfold bI
  conv=>lhs;unfold rG
  rw[iP h]
 have b:=LU c a n;rw[e] at b⊢;exact j _ _ _ b (LU c a<|n+1)
def Wz {a:List aj} {n:Nat} (h:dm c n∉a):bI c a n=n:=by unfold bI rG;rw[iN h]
def B9 (e:97<=c/\c<=122) (hk:k<1000):eR (dm c k)=true:=by
 have a:∀k,(aS k).all je=true:=λk=>by
  induction k using Nat.strongRecOn with
  |_ k f=>
   have a:∀j,j<10->je (UInt8.ofNat (48+j))=true:=by decide
   unfold aS;by_cases h:k<10
   .rw[iP h,List.all_cons,a k h];rfl
   .rw[iN h,List.all_append,f (k/10) om,List.all_cons,a (k%10) om];rfl
 have b:∀k,k<10->(aS k).length=1:=λk hk=>by unfold aS;rw[iP hk];rfl
 have d:∀k,k<100->(aS k).length<=2:=λk hk=>by
  unfold aS;split
  .simp
  .have:=b (k/10) om;simp;omega
 have g:(aS k).length<=3:=by
  unfold aS;split
  .simp
  .have:=d (k/10) om;simp;omega
 unfold eR dm;simp only[lC,List.getD_cons_zero,List.drop_succ_cons,List.drop_zero,a k,Bool.and_true,aE,dE];exact⟨⟨by omega,om⟩,e⟩
/-! ### Bound aP renamed -/
abbrev Rn:=List<|aj×aj
def su (a:Rn) (s:aj):aj:=((a.reverse.find? λp=>decide<|p.1=s).map Prod.snd).getD s
theorem P3 (a:Rn) (x y s:aj):su (a++[(x,y)]) s=if x=s then y else su a s:=by grind [su]
theorem WB (a:Rn) (f x s g y:aj):su (a++[(f,g),(x,y)]) s=if x=s then y else if f=s then g else su a s:=by grind [su]
abbrev cx:UInt8:=120
def cF (d:List aj):Ex->Rn->Nat->Ex×Nat
 | .at s,g,n=>(.at<|if eR s then su g s else s,n)
 | .un h a,g,n=>(.un h (cF d a g n).1,(cF d a g n).2)
 | .bi h a b,g,n=>(.bi h (cF d a g n).1 (cF d b g (cF d a g n).2).1,(cF d b g (cF d a g n).2).2)
 | .ite a b c,g,n=>(.ite (cF d a g n).1 (cF d b g (cF d a g n).2).1 (cF d c g (cF d b g (cF d a g n).2).2).1,(cF d c g (cF d b g (cF d a g n).2).2).2)
 | .lt x a b,g,n=>(.lt (dm cx<|bI cx d n) (cF d a g<|bI cx d n+1).1 (cF d b (g++[(x,dm cx<|bI cx d n)]) (cF d a g<|bI cx d n+1).2).1,
   (cF d b (g++[(x,dm cx<|bI cx d n)]) (cF d a g<|bI cx d n+1).2).2)
 | .fn f x A B e,g,n=>(.fn (dm cx<|bI cx d n) (dm cx (bI cx d<|bI cx d n+1)) A B (cF d e (g++[(f,dm cx<|bI cx d n),(x,dm cx (bI cx d<|bI cx d n+1))])<|bI cx d (bI cx d n+1)+1).1,
   (cF d e (g++[(f,dm cx<|bI cx d n),(x,dm cx (bI cx d<|bI cx d n+1))])<|bI cx d (bI cx d n+1)+1).2)
def j9 (d:List aj):∀(e:Ex) (g:Rn) (n:Nat),n<=(cF d e g n).2/\(cF d e g n).2+(d.length+2)<=n+(e.n)*(d.length+2)+(d.length+2)
 | .at s,g,n=>by simp only[cF,Ex.n];omega
 | .un h a,g,n=>by have:=j9 d a g n;simp only[cF,Ex.n,Nat.add_mul];omega
 | .bi h a b,g,n=>by have:=j9 d a g n;have:=j9 d b g (cF d a g n).2;simp only[cF,Ex.n,Nat.add_mul];omega
 | .ite a b c,g,n=>by have:=j9 d a g n;have:=j9 d b g (cF d a g n).2;have:=j9 d c g (cF d b g (cF d a g n).2).2;simp only[cF,Ex.n,Nat.add_mul];omega
 | .lt x a b,g,n=>by have i:=p8 cx d n;have:=j9 d a g<|bI cx d n+1;have:=j9 d b (g++[(x,dm cx<|bI cx d n)]) (cF d a g<|bI cx d n+1).2;simp only[cF,Ex.n,Nat.add_mul];omega
 | .fn f x A B e,g,n=>by have i:=p8 cx d n;have j:=p8 cx d<|bI cx d n+1;have:=j9 d e (g++[(f,dm cx<|bI cx d n),(x,dm cx (bI cx d<|bI cx d n+1))])<|bI cx d (bI cx d n+1)+1;simp only[cF,Ex.n,Nat.add_mul];omega
def WC (a:List aj):∀(e:Ex) (b:Rn) (n:Nat),(cF a e b n).1.n=e.n:=by intro x;induction x<;>grind [cF,Ty.n,Ex.n]
def yR (d:List aj):∀(e:Ex) (g:Rn) (n:Nat),e.ok->(cF d e g n).2<=1000->(∀s,eR s=true->Fv s e->eR (su g s)=true)->(cF d e g n).1.ok
 | .at s,g,n,h,_,j=>by
  show sn _=true;by_cases i:eR s=true
  .rw[iP i];unfold sn;rw[j s i ⟨rfl,i⟩];simp
  .rw[iN i];exact h
 | .un z a,g,n,h,m,j=>⟨h.1,yR d a g n h.2 m j⟩
 | .bi z a b,g,n,h,m,j=>by have p:=j9 d b g (cF d a g n).2;simp only[cF] at m;exact⟨h.1,yR d a g n h.2.1 om λs i l=>j s i<|.inl l,yR d b g _ h.2.2 m λs i l=>j s i<|.inr l⟩
 | .ite a b c,g,n,h,m,j=>by have p:=j9 d b g (cF d a g n).2;have E:=j9 d c g (cF d b g (cF d a g n).2).2;simp only[cF] at m;exact⟨yR d a g n h.1 om λs i l=>j s i<|.inl l,yR d b g _ h.2.1 om λs i l=>j s i (.inr<|.inl l),yR d c g _ h.2.2 m λs i l=>j s i (.inr<|.inr l)⟩
 | .lt x a b,g,n,h,m,j=>by
  have u:=j9 d a g<|bI cx d n+1;have p:=j9 d b (g++[(x,dm cx<|bI cx d n)]) (cF d a g<|bI cx d n+1).2;simp only[cF] at m;have hk:eR (dm cx<|bI cx d n)=true:=B9 de om;refine⟨hk,yR d a g _ h.2.1 om λs i l=>j s i<|.inl l,yR d b _ _ h.2.2 m λs i l=>?_⟩;rw[P3];split
  .exact hk
  .rename_i e;exact j s i<|.inr ⟨λo=>e o.symm,l⟩
 | .fn f x A B e,g,n,h,m,j=>by
  have D:=p8 cx d n;have u:=p8 cx d<|bI cx d n+1;have p:=j9 d e (g++[(f,dm cx<|bI cx d n),(x,dm cx (bI cx d<|bI cx d n+1))])<|bI cx d (bI cx d n+1)+1;simp only[cF] at m;have hk:eR (dm cx<|bI cx d n)=true:=B9 de om;have q:eR (dm cx (bI cx d<|bI cx d n+1))=true:=B9 de om;obtain⟨_,_,_,v,y,C⟩:=h;refine⟨hk,q,λe=>by have:=rF e;omega,v,y,yR d e _ _ C m λs i l=>?_⟩;rw[WB];split
  .exact q
  .rename_i r;split
   .exact hk
   .rename_i t;exact j s i ⟨λo=>t o.symm,λo=>r o.symm,l⟩
theorem yS (d:List aj):∀(e:Ex) (g:Rn) (n:Nat) (j m:Sc),(cF d e g n).2<=1000->(∀s,eR s=true->Fv s e->eR (su g s)=true/\look m (su g s)=look j s/\∀k,n<=k->su g s≠dm cx k)->bO (cF d e g n).1 m=bO e j
 | .at s,g,n,j,m,_,h=>by
  unfold cF bO;by_cases i:eR s=true
  .obtain⟨y,z,_⟩:=h s i ⟨rfl,i⟩;rw[iP i,iP i,iP y,z]
  .rw[iN i,iN i,iN i]
 | .un E a,g,n,j,m,p,h=>by unfold cF bO;rw[yS d a g n j m p h]
 | .bi E a b,g,n,j,m,p,h=>by have y:=j9 d a g n;have z:=j9 d b g (cF d a g n).2;simp only[cF] at p;unfold cF bO;rw[yS d a g n j m om λs i l=>h s i<|.inl l,yS d b g _ j m p λs i l=>?_];obtain⟨q,r,o⟩:=h s i<|.inr l;exact⟨q,r,λk hk=>o k om⟩
 | .ite a b c,g,n,j,m,p,h=>by
  have y:=j9 d a g n;have z:=j9 d b g (cF d a g n).2;have F:=j9 d c g (cF d b g (cF d a g n).2).2;simp only[cF] at p;unfold cF bO;rw[yS d a g n j m om λs i l=>h s i<|.inl l,yS d b g _ j m om λs i l=>?_,yS d c g _ j m p λs i l=>?_]
  .obtain⟨q,r,o⟩:=h s i (.inr<|.inr l);exact⟨q,r,λk hk=>o k om⟩
  .obtain⟨q,r,o⟩:=h s i (.inr<|.inl l);exact⟨q,r,λk hk=>o k om⟩
 | .lt x a b,g,n,j,m,p,h=>by
  have C:=p8 cx d n;have y:=j9 d a g<|bI cx d n+1;have z:=j9 d b (g++[(x,dm cx<|bI cx d n)]) (cF d a g<|bI cx d n+1).2;simp only[cF] at p;have hk:eR (dm cx<|bI cx d n)=true:=B9 de om;unfold cF bO;rw[yS d a g _ j m om λs i l=>?_]
  .cases bO a j with
   |none=>rfl
   |some A=>
    refine yS d b _ _ _ _ p λs i l=>?_;rw[P3,qM j];by_cases e:x=s
    .rw[iP e,iP e,qM,iP rfl];exact⟨hk,rfl,λk hk e=>by have:=rF e;omega⟩
    .rw[iN e,iN e];obtain⟨q,r,o⟩:=h s i<|.inr ⟨λu=>e u.symm,l⟩;rw[qM,iN λe=>o _ C.1 e.symm];exact⟨q,r,λk hk=>o k om⟩
  .obtain⟨q,r,o⟩:=h s i<|.inl l;exact⟨q,r,λk hk=>o k om⟩
 | .fn f x A B e,g,n,j,m,p,h=>by
  have C:=p8 cx d n;have y:=p8 cx d<|bI cx d n+1;have z:=j9 d e (g++[(f,dm cx<|bI cx d n),(x,dm cx (bI cx d<|bI cx d n+1))])<|bI cx d (bI cx d n+1)+1;simp only[cF] at p;have hk:eR (dm cx<|bI cx d n)=true:=B9 de om;have D:eR (dm cx (bI cx d<|bI cx d n+1))=true:=B9 de om;unfold cF bO;rw[yS d e _ _ (j++[(f,.op true A B),(x,A)]) _ p λs i l=>?_];rw[WB,B8 j];by_cases t:x=s
  .rw[iP t,iP t,B8,iP rfl];exact⟨D,rfl,λk hk e=>by have:=rF e;omega⟩
  .by_cases v:f=s
   .rw[iN t,iN t,iP v,iP v,B8,iN λe=>by have:=rF e;omega,iP rfl];exact⟨hk,rfl,λk hk e=>by have:=rF e;omega⟩
   .rw[iN t,iN t,iN v,iN v];obtain⟨q,r,o⟩:=h s i ⟨λu=>v u.symm,λu=>t u.symm,l⟩;rw[B8,iN λe=>o _ om e.symm,iN λe=>o _ C.1 e.symm];exact⟨q,r,λk hk=>o k om⟩
/-! ### The aP that are bound -/
def fP:Ex->List aj
 | .at _=>[]
 | .un _ a=>fP a
 | .bi _ a b=>fP a++fP b
 | .ite a b c=>fP a++(fP b++fP c)
 | .lt x a b=>x::(fP a++fP b)
 | .fn f x _ _ e=>f::x::fP e
def yT (d:List aj):∀(e:Ex) (i:Rn) (n:Nat),(fP (cF d e i n).1).Nodup/\∀y,y∈fP (cF d e i n).1->∃k,y=dm cx k/\n<=k/\k<(cF d e i n).2
 | .at s,i,n=>by simp[cF,fP]
 | .un D a,i,n=>yT d a i n
 | .bi D a b,i,n=>by
  have v:=j9 d a i n;have z:=j9 d b i (cF d a i n).2;obtain⟨r,m⟩:=yT d a i n;obtain⟨t,o⟩:=yT d b i (cF d a i n).2;simp only[cF,fP];refine⟨List.nodup_append.2 ⟨r,t,λx l y g e=>?_⟩,λy g=>?_⟩
  .obtain⟨k,rfl,_,hk⟩:=m x l;obtain⟨j,rfl,u,_⟩:=o y g;have:=rF e;omega
  .rcases mA.1 g with g|g
   .obtain⟨k,e,p,q⟩:=m y g;exact⟨k,e,p,om⟩
   .obtain⟨k,e,p,q⟩:=o y g;exact⟨k,e,om,q⟩
 | .ite a b c,i,n=>by
  have v:=j9 d a i n;have z:=j9 d b i (cF d a i n).2;have E:=j9 d c i (cF d b i (cF d a i n).2).2;obtain⟨r,m⟩:=yT d a i n;obtain⟨t,o⟩:=yT d b i (cF d a i n).2;obtain⟨c1,c2⟩:=yT d c i (cF d b i (cF d a i n).2).2;simp only[cF,fP];refine⟨List.nodup_append.2 ⟨r,List.nodup_append.2 ⟨t,c1,λx l y g e=>?_⟩,λx l y g e=>?_⟩,λy g=>?_⟩
  .obtain⟨k,rfl,_,hk⟩:=o x l;obtain⟨j,rfl,u,_⟩:=c2 y g;have:=rF e;omega
  .obtain⟨k,rfl,_,hk⟩:=m x l;rcases mA.1 g with g|g
   .obtain⟨j,rfl,u,_⟩:=o y g;have:=rF e;omega
   .obtain⟨j,rfl,u,_⟩:=c2 y g;have:=rF e;omega
  .rcases mA.1 g with g|g
   .obtain⟨k,e,p,q⟩:=m y g;exact⟨k,e,p,om⟩
   .rcases mA.1 g with g|g
    .obtain⟨k,e,p,q⟩:=o y g;exact⟨k,e,om,om⟩
    .obtain⟨k,e,p,q⟩:=c2 y g;exact⟨k,e,om,q⟩
 | .lt x a b,i,n=>by
  have C:=p8 cx d n;have v:=j9 d a i<|bI cx d n+1;have z:=j9 d b (i++[(x,dm cx<|bI cx d n)]) (cF d a i<|bI cx d n+1).2;obtain⟨r,m⟩:=yT d a i<|bI cx d n+1;obtain⟨t,o⟩:=yT d b (i++[(x,dm cx<|bI cx d n)]) (cF d a i<|bI cx d n+1).2;simp only[cF,fP];refine⟨List.nodup_cons.2 ⟨λl=>?_,List.nodup_append.2 ⟨r,t,λx l y g e=>?_⟩⟩,λy g=>?_⟩
  .rcases mA.1 l with l|l
   .obtain⟨k,e,p,q⟩:=m _ l;have:=rF e;omega
   .obtain⟨k,e,p,q⟩:=o _ l;have:=rF e;omega
  .obtain⟨k,rfl,_,hk⟩:=m x l;obtain⟨j,rfl,u,_⟩:=o y g;have:=rF e;omega
  .rcases mC.1 g with rfl|g
   .exact⟨_,rfl,om,om⟩
   .rcases mA.1 g with g|g
    .obtain⟨k,e,p,q⟩:=m y g;exact⟨k,e,om,om⟩
    .obtain⟨k,e,p,q⟩:=o y g;exact⟨k,e,om,q⟩
 | .fn f x A B e,i,n=>by
  have C:=p8 cx d n;have v:=p8 cx d<|bI cx d n+1;have z:=j9 d e (i++[(f,dm cx<|bI cx d n),(x,dm cx (bI cx d<|bI cx d n+1))])<|bI cx d (bI cx d n+1)+1;obtain⟨r,m⟩:=yT d e (i++[(f,dm cx<|bI cx d n),(x,dm cx (bI cx d<|bI cx d n+1))])<|bI cx d (bI cx d n+1)+1;simp only[cF,fP];refine⟨List.nodup_cons.2 ⟨λl=>?_,List.nodup_cons.2 ⟨λl=>?_,r⟩⟩,λy g=>?_⟩
  .rcases mC.1 l with l|l
   .have:=rF l;omega
   .obtain⟨k,e,p,q⟩:=m _ l;have:=rF e;omega
  .obtain⟨k,e,p,q⟩:=m _ l;have:=rF e;omega
  .rcases mC.1 g with rfl|g
   .exact⟨_,rfl,om,om⟩
   .rcases mC.1 g with rfl|g
    .exact⟨_,rfl,om,om⟩
    .obtain⟨k,e,p,q⟩:=m y g;exact⟨k,e,om,q⟩
theorem rH:∀{e:Ex} {g:Sc} {T:Ty},bO e g=some T->Fv s e->(look g s).isSome=true
 | .at x,g,T,h,d=>by obtain⟨rfl,r⟩:=d;unfold bO at h;rw[iP r] at h;rw[h];rfl
 | .un q a,g,T,h,d=>by
  unfold bO at h;cases i:bO a g with
  |none=>rw[i] at h;cases h
  |some A=>exact rH i d
 | .bi q a b,g,T,h,d=>by
  unfold bO at h;cases i:bO a g with
  |none=>rw[i] at h;cases h
  |some A=>
   cases hb:bO b g with
   |none=>rw[i,hb] at h;cases h
   |some B=>exact d.elim (rH i)<|rH hb
 | .ite a b c,g,T,h,d=>by
  unfold bO at h;cases i:bO a g with
  |none=>rw[i] at h;cases h
  |some A=>
   cases hb:bO b g with
   |none=>rw[i,hb] at h;cases h
   |some B=>
    cases j:bO c g with
    |none=>rw[i,hb,j] at h;cases h
    |some C=>exact d.elim (rH i) λd=>d.elim (rH hb)<|rH j
 | .lt x a b,g,T,h,d=>by
  unfold bO at h;cases i:bO a g with
  |none=>rw[i] at h;cases h
  |some A=>
   rw[i,Option.bind_some] at h;rcases d with d|⟨m,d⟩
   .exact rH i d
   .have:=rH h d;rw[qM,iN λe=>m e.symm] at this;exact this
 | .fn f x A B e,g,T,h,d=>by
  unfold bO at h;split at h
  .cases l:bO e (g++[(f,.op true A B),(x,A)]) with
   |none=>rw[l] at h;cases h
   |some C=>obtain⟨n,o,p⟩:=d;have:=rH l p;rw[B8,iN λe=>o e.symm,iN λe=>n e.symm] at this;exact this
  .cases h
abbrev Bs:=List<|aj×Ex
abbrev cy:UInt8:=121
def nest (bs:Bs) (e:Ex):Ex:=bs.foldr (λp e=>.lt p.1 p.2 e) e
def ei (ai:List aj) (r:Bs×Ex×Nat):Bs×Ex×Nat:=
 if r.2.1.jC=true then r else(r.1++[(dm cy<|bI cy ai r.2.2,r.2.1)],.at (dm cy<|bI cy ai r.2.2),bI cy ai r.2.2+1)
def bj (ai:List aj):Ex->Nat->Bs×Ex×Nat
 | .at s,n=>([],.at s,n)
 | .un h a,n=>((ei ai<|bj ai a n).1,.un h (ei ai<|bj ai a n).2.1,(ei ai<|bj ai a n).2.2)
 | .bi h a b,n=>((ei ai<|bj ai a n).1++(ei ai<|bj ai b (ei ai<|bj ai a n).2.2).1,.bi h (ei ai<|bj ai a n).2.1 (ei ai<|bj ai b (ei ai<|bj ai a n).2.2).2.1,(ei ai<|bj ai b (ei ai<|bj ai a n).2.2).2.2)
 | .ite a b c,n=>((ei ai<|bj ai a n).1,.ite (ei ai<|bj ai a n).2.1 (nest (bj ai b (ei ai<|bj ai a n).2.2).1 (bj ai b (ei ai<|bj ai a n).2.2).2.1)
   (nest (bj ai c (bj ai b (ei ai<|bj ai a n).2.2).2.2).1 (bj ai c (bj ai b (ei ai<|bj ai a n).2.2).2.2).2.1),(bj ai c (bj ai b (ei ai<|bj ai a n).2.2).2.2).2.2)
 | .lt x a b,n=>((bj ai a n).1++(x,(bj ai a n).2.1)::(bj ai b (bj ai a n).2.2).1,(bj ai b (bj ai a n).2.2).2.1,(bj ai b (bj ai a n).2.2).2.2)
 | .fn f x A B e,n=>([],.fn f x A B<|nest (bj ai e n).1 (bj ai e n).2.1,(bj ai e n).2.2)
def o6 (a:List aj) (e:Ex) (n:Nat):Ex:=nest (bj a e n).1 (bj a e n).2.1
/-! ### How many aP -/
def sv (a:List aj) (r:Bs×Ex×Nat):r.2.2<=(ei a r).2.2/\(ei a r).2.2<=r.2.2+a.length+2:=by grind [ei,p8]
def jn (d:List aj):∀(e:Ex) (n:Nat),n<=(bj d e n).2.2/\(bj d e n).2.2+2*(d.length+2)<=n+e.n*(2*(d.length+2))
 | .at s,n=>⟨lR _,by simp only[bj,Ex.n];omega⟩
 | .un h a,n=>by have:=jn d a n;have:=sv d<|bj d a n;simp only[bj,Ex.n,Nat.add_mul];omega
 | .bi h a b,n=>by have:=jn d a n;have:=sv d<|bj d a n;have:=jn d b (ei d<|bj d a n).2.2;have:=sv d<|bj d b (ei d<|bj d a n).2.2;simp only[bj,Ex.n,Nat.add_mul];omega
 | .ite a b c,n=>by have:=jn d a n;have:=sv d<|bj d a n;have:=jn d b (ei d<|bj d a n).2.2;have:=jn d c (bj d b (ei d<|bj d a n).2.2).2.2;simp only[bj,Ex.n,Nat.add_mul];omega
 | .lt x a b,n=>by have:=jn d a n;have:=jn d b (bj d a n).2.2;simp only[bj,Ex.n,Nat.add_mul];omega
 | .fn f x A B e,n=>by have:=jn d e n;simp only[bj,Ex.n,Nat.add_mul];omega
/-! ### Types -/
def sY:Bs->Sc->Option Sc
 |[],a=>some a
 |(x,s)::bs,a=>(bO s a).bind λT=>sY bs<|a++[(x,T)]
theorem LW (bs:Bs) (e:Ex) (a:Sc):bO (nest bs e) a=(sY bs a).bind (bO e):=by induction bs generalizing a<;>grind [bO,nest,sY]
theorem P4 (bs b:Bs) (a:Sc):sY (bs++b) a=(sY bs a).bind (sY b):=by
 induction bs generalizing a with
 |nil=>rfl
 |cons p bs c=>
  obtain⟨x,s⟩:=p;show(bO s a).bind (λT=>sY (bs++b)<|a++[(x,T)])=((bO s a).bind λT=>sY bs<|a++[(x,T)]).bind (sY b);cases bO s a with
  |none=>rfl
  |some T=>exact c _
def Gn (a:Sc) (s:aj):Prop:=∀p∈a,p.1≠s
def IU {a b:Sc} (h:Gn b s):look (a++b) s=look a s:=by grind [Gn,look]
def sf (a:List aj) (e:Ex) (n m:Nat) (y:aj):Prop:=y∈fP e\/∃k,y=dm cy k/\n<=k/\k<m/\y∉a
structure Made (ai:List aj) (e:Ex) (n:Nat) (r:Bs×Ex×Nat) (Γ:Sc) (T:Ty) (Δ:Sc):Prop where
 binds:sY r.1 Γ=some (Γ++Δ)
 type:bO r.2.1 (Γ++Δ)=some T
 aP:∀p∈Δ,sf ai e n r.2.2 p.1
def Ca (a:List aj) (e:Ex) (n:Nat) (r:Bs×Ex×Nat):Prop:=∀s,(Fv s r.2.1\/∃p∈r.1,Fv s p.2)->Fv s e\/sf a e n r.2.2 s
structure WD (ai:List aj) (e:Ex):Prop where
 nodup:(fP e).Nodup
 nofree:∀x,x∈fP e->¬Fv x e
 noted:∀x,x∈fP e\/Fv x e->x∈ai
def sf.more {a:List aj} {e b:Ex} {n c:Nat} {y:aj} (h:sf a e n m y) (hb:∀x,x∈fP e->x∈fP b) (f:c<=n) (d:m<=m'):sf a b c m' y:=by grind [sf,fP]
theorem Ca.aq {ai:List aj} {e:Ex} {n:Nat} {r:Bs×Ex×Nat} (h:Ca ai e n r) (a:n<=r.2.2):Ca ai e n (ei ai r):=by grind [Ca,ei,Fv,sf,bI,p8,LU]
def P5:∀(bs:Bs) (e:Ex) (s:aj),Fv s (nest bs e)->Fv s e\/∃p∈bs,Fv s p.2:=by intro x;induction x<;>grind [Fv,nest]
def Ca.sub {a:List aj} {e e':Ex} {n n':Nat} {r:Bs×Ex×Nat} (h:Ca a e n r) (b:∀s,Fv s e->Fv s e'\/s∈fP e') (hb:∀x,x∈fP e->x∈fP e') (d:n'<=n) (c:r.2.2<=m') (f:Fv s r.2.1\/∃p∈r.1,Fv s p.2):Fv s e'\/sf a e' n' m' s:=by grind [Ca,Fv,fP,sf]
def yU (d:List aj):∀(e:Ex) (n:Nat),Ca d e n (bj d e n)
 | .at s,n=>λs g=>g.elim .inl fun⟨p,i,_⟩=>by simp[bj] at i
 | .un m a,n=>λs g=>((yU d a n).aq (jn d a n).1).sub (λs h=>.inl h) (λx h=>h) (lR _) (lR _) g
 | .bi m a b,n=>λs g=>by
  have l:=jn d a n;have o:=sv d<|bj d a n;have q:=jn d b (ei d<|bj d a n).2.2;have r:=sv d<|bj d b (ei d<|bj d a n).2.2;have j:=((yU d a n).aq l.1).sub (e':=.bi m a b) (n':=n) (m':=(bj d (.bi m a b) n).2.2) (λs h=>.inl<|.inl h) (λx h=>mA.2<|.inl h) (lR _) (by simp only[bj];omega) (s:=s);have hb:=((yU d b (ei d<|bj d a n).2.2).aq q.1).sub (e':=.bi m a b) (n':=n) (m':=(bj d (.bi m a b) n).2.2) (λs h=>.inl<|.inr h) (λx h=>mA.2<|.inr h) om (by simp only[bj];omega) (s:=s);rcases g with(g|g)|⟨p,i,g⟩
  .exact j<|.inl g
  .exact hb<|.inl g
  .rcases mA.1 i with i|i
   .exact j<|.inr ⟨p,i,g⟩
   .exact hb<|.inr ⟨p,i,g⟩
 | .ite a b c,n=>λs g=>by
  have l:=jn d a n;have o:=sv d<|bj d a n;have q:=jn d b (ei d<|bj d a n).2.2;have r:=jn d c (bj d b (ei d<|bj d a n).2.2).2.2;have j:=((yU d a n).aq l.1).sub (e':=.ite a b c) (n':=n) (m':=(bj d (.ite a b c) n).2.2) (λs h=>.inl<|.inl h) (λx h=>mA.2<|.inl h) (lR _) (by simp only[bj];omega) (s:=s);have hb:=(yU d b (ei d<|bj d a n).2.2).sub (e':=.ite a b c) (n':=n) (m':=(bj d (.ite a b c) n).2.2) (λs h=>.inl (.inr<|.inl h)) (λx h=>mA.2<|.inr (mA.2<|.inl h)) om (by simp only[bj];omega) (s:=s);have t:=(yU d c (bj d b (ei d<|bj d a n).2.2).2.2).sub (e':=.ite a b c) (n':=n) (m':=(bj d (.ite a b c) n).2.2) (λs h=>.inl (.inr<|.inr h)) (λx h=>mA.2<|.inr (mA.2<|.inr h)) om (by simp only[bj];omega) (s:=s);rcases g with(g|g|g)|⟨p,i,g⟩
  .exact j<|.inl g
  .exact hb<|P5 _ _ _ g
  .exact t<|P5 _ _ _ g
  .exact j<|.inr ⟨p,i,g⟩
 | .lt x a b,n=>λs g=>by
  have l:=jn d a n;have q:=jn d b (bj d a n).2.2;have j:=(yU d a n).sub (e':=.lt x a b) (n':=n) (m':=(bj d (.lt x a b) n).2.2) (λs h=>.inl<|.inl h) (λy h=>mK _ (mA.2<|.inl h)) (lR _) (by simp only[bj];omega) (s:=s);have hb:=(yU d b (bj d a n).2.2).sub (e':=.lt x a b) (n':=n) (m':=(bj d (.lt x a b) n).2.2) (λs h=>by
   by_cases e:s=x
   .exact .inr (by rw[e];exact List.mem_cons_self ..)
   .exact .inl<|.inr ⟨e,h⟩) (λy h=>mK _ (mA.2<|.inr h)) om (by simp only[bj];omega) (s:=s)
  rcases g with g|⟨p,i,g⟩
  .exact hb<|.inl g
  .rcases mA.1 i with i|i
   .exact j<|.inr ⟨p,i,g⟩
   .rcases mC.1 i with rfl|i
    .exact j<|.inl g
    .exact hb<|.inr ⟨p,i,g⟩
 | .fn f x A B e,n=>λs g=>by
  rcases g with⟨l,o,g⟩|⟨p,i,_⟩
  .rcases yU d e n s (P5 _ _ _ g) with h|h
   .exact .inl ⟨l,o,h⟩
   .exact .inr (h.more (λy u=>mK _<|mK _ u) (lR _)<|lR _)
  .simp[bj] at i
theorem Made.aq {ai:List aj} {e:Ex} {n:Nat} {r:Bs×Ex×Nat} {c:Sc} {T:Ty} {b:Sc} (h:Made ai e n r c T b) (m:n<=r.2.2) (d:(ei ai r).2.2<=1000):∃f,Made ai e n (ei ai r) c T f:=by
 unfold ei at d⊢;have l:=p8 cy ai r.2.2;have j:=LU cy ai r.2.2;split
 .exact⟨b,h⟩
 .rename_i g;rw[iN g] at d;have hk:eR (dm cy<|bI cy ai r.2.2)=true:=B9 de (by dsimp only at d;omega);refine⟨b++[(dm cy<|bI cy ai r.2.2,T)],⟨?_,?_,?_⟩⟩
  .rw[P4,h.binds,Option.bind_some];show(bO r.2.1<|c++b).bind _=_;rw[h.type,Option.bind_some,List.append_assoc];rfl
  .show(if eR (dm cy<|bI cy ai r.2.2)=true then look (c++(b++[(dm cy<|bI cy ai r.2.2,T)])) (dm cy<|bI cy ai r.2.2) else some Ty.i)=some T;rw[iP hk,<-List.append_assoc,qM,iP rfl]
  .intro p a;rcases mA.1 a with a|a
   .exact(h.aP p a).more (λx i=>i) (lR _) (by dsimp only;omega)
   .simp only[List.mem_singleton] at a;subst a;exact .inr ⟨_,rfl,om,by dsimp only;omega,j⟩
def LX {b:List aj} {a:Ex} {n:Nat} {c:Sc} (h:∀p∈c,sf b a n m p.1) (d:s∉fP a) (e:s∈b):Gn c s:=by grind [sf,fP,Gn]
def ajo {c:List aj} {a b:Ex} {n:Nat} {d:Sc} (j:Fv s a\/sf c a n m s) (h:∀p∈d,sf c b m m' p.1) (e:∀x,x∈fP b->¬Fv x a) (f:∀x,x∈fP b->x∉fP a) (g:∀x,x∈fP b->x∈c) (i:∀x,x∈fP a\/Fv x a->x∈c):Gn d s:=by grind [Fv,sf,fP,Gn,rF]
def made (d:List aj):∀(e:Ex) (n:Nat) (l:Sc) (T:Ty),WD d e->(bj d e n).2.2<=1000->bO e l=some T->∃Δ,Made d e n (bj d e n) l T Δ
 | .at s,n,l,T,m,E,h=>⟨[],⟨by simp[bj,sY],by simpa[bj] using h,sm⟩⟩
 | .un hd a,n,l,T,m,E,h=>by
  have P:=jn d a n;have h2:=sv d<|bj d a n;simp only[bj] at E;unfold bO at h;cases z:bO a l with
  |none=>rw[z] at h;cases h
  |some A=>rw[z,Option.bind_some] at h;obtain⟨Δ,hΔ⟩:=made d a n l A ⟨m.nodup,m.nofree,m.noted⟩ om z;obtain⟨Y,L⟩:=hΔ.aq P.1 E;refine⟨Y,⟨L.binds,?_,L.aP⟩⟩;show(bO (ei d<|bj d a n).2.1<|l++Y).bind (λA=>mB hd [A])=some T;rw[L.type,Option.bind_some];exact h
 | .bi hd a b,n,l,T,m,E,h=>by
  have P:=jn d a n;have h2:=sv d<|bj d a n;have h3:=jn d b (ei d<|bj d a n).2.2;have h4:=sv d<|bj d b (ei d<|bj d a n).2.2;have wq:=(yU d a n).aq P.1;simp only[bj] at E;unfold bO at h;cases z:bO a l with
  |none=>rw[z] at h;cases h
  |some A=>
   cases hb:bO b l with
   |none=>rw[z,hb] at h;cases h
   |some B=>
    rw[z,hb,Option.bind_some,Option.bind_some] at h;have K:=List.nodup_append.1 m.nodup;obtain⟨t,o⟩:=made d a n l A ⟨K.1,λx i D=>m.nofree x (mA.2<|.inl i)<|.inl D,λx i=>m.noted x<|i.imp (λh=>mA.2<|.inl h) .inl⟩ om z;obtain⟨g,j⟩:=o.aq P.1 om;have U:bO b (l++g)=some B:=by rw[<-hb];refine sr b _ _ λs Z J=>IU (LX j.aP (λi=>m.nofree s (mA.2<|.inl i)<|.inr J)<|m.noted s (.inr<|.inr J))
    obtain⟨M,q⟩:=made d b (ei d<|bj d a n).2.2 (l++g) B ⟨K.2.1,λx i D=>m.nofree x (mA.2<|.inr i)<|.inr D,λx i=>m.noted x<|i.imp (λh=>mA.2<|.inr h) .inr⟩ om U;obtain⟨H,v⟩:=q.aq h3.1 E;refine⟨g++H,⟨?_,?_,?_⟩⟩
    .show sY (_++_) l=_;rw[P4,j.binds,Option.bind_some,v.binds,List.append_assoc]
    .show(bO (ei d<|bj d a n).2.1<|l++(g++H)).bind (λA=>(bO (ei d<|bj d b (ei d<|bj d a n).2.2).2.1<|l++(g++H)).bind λB=>mB hd [A,B])=some T;have O:bO (ei d<|bj d a n).2.1 (l++(g++H))=some A:=by
      rw[<-j.type,<-List.append_assoc];refine sr _ _ _ λs Z J=>IU<|ajo (wq s<|.inl J) v.aP ?_ ?_ ?_ ?_
      .exact λx i D=>m.nofree x (mA.2<|.inr i)<|.inl D
      .exact λx i gB=>K.2.2 x gB x i rfl
      .exact λx i=>m.noted x<|.inl (mA.2<|.inr i)
      .exact λx i=>m.noted x<|i.imp (λh=>mA.2<|.inl h) .inl
     rw[O,Option.bind_some,<-List.append_assoc,v.type,Option.bind_some];exact h
    .intro p F;rcases mA.1 F with F|F
     .exact(j.aP p F).more (λx i=>mA.2<|.inl i) (lR _) (by simp only[bj];omega)
     .exact(v.aP p F).more (λx i=>mA.2<|.inr i) om (by simp only[bj];omega)
 | .ite a b c,n,l,T,m,E,h=>by
  have P:=jn d a n;have h2:=sv d<|bj d a n;have h3:=jn d b (ei d<|bj d a n).2.2;have h4:=jn d c (bj d b (ei d<|bj d a n).2.2).2.2;simp only[bj] at E;unfold bO at h;cases z:bO a l with
  |none=>rw[z] at h;cases h
  |some A=>
   cases hb:bO b l with
   |none=>rw[z,hb] at h;cases h
   |some B=>
    cases S:bO c l with
    |none=>rw[z,hb,S] at h;cases h
    |some C=>
     rw[z,hb,S,Option.bind_some,Option.bind_some,Option.bind_some] at h;have K:=List.nodup_append.1 m.nodup;have WE:=List.nodup_append.1 K.2.1;have I:∀x,x∈fP b->x∈fP (.ite a b c):=λx i=>mA.2<|.inr (mA.2<|.inl i);have V:∀x,x∈fP c->x∈fP (.ite a b c):=λx i=>mA.2<|.inr (mA.2<|.inr i);have r:∀x,x∈fP a->x∈fP (.ite a b c):=λx i=>mA.2<|.inl i;obtain⟨t,o⟩:=made d a n l A ⟨K.1,λx i D=>m.nofree x (r x i)<|.inl D,λx i=>m.noted x<|i.imp (r x) .inl⟩ om z;obtain⟨g,j⟩:=o.aq P.1 om;have U:bO b (l++g)=some B:=by rw[<-hb];refine sr b _ _ λs Z J=>IU<|LX j.aP (λi=>m.nofree s (r s i) (.inr<|.inl J)) (m.noted s<|.inr (.inr<|.inl J))
     have ru:bO c (l++g)=some C:=by rw[<-S];refine sr c _ _ λs Z J=>IU<|LX j.aP (λi=>m.nofree s (r s i) (.inr<|.inr J)) (m.noted s<|.inr (.inr<|.inr J))
     obtain⟨M,q⟩:=made d b (ei d<|bj d a n).2.2 (l++g) B ⟨WE.1,λx i D=>m.nofree x (I x i) (.inr<|.inl D),λx i=>m.noted x (i.imp (I x) λh=>.inr<|.inl h)⟩ om U;obtain⟨_,N⟩:=made d c (bj d b (ei d<|bj d a n).2.2).2.2 (l++g) C ⟨WE.2.1,λx i D=>m.nofree x (V x i) (.inr<|.inr D),λx i=>m.noted x (i.imp (V x) λh=>.inr<|.inr h)⟩ E ru;refine⟨g,⟨j.binds,?_,?_⟩⟩
     .show(bO (ei d<|bj d a n).2.1<|l++g).bind (λA=>(bO (nest _ _)<|l++g).bind λB=>(bO (nest _ _)<|l++g).bind λC=>mB iz [A,B,C])=some T;rw[j.type,LW,LW,q.binds,N.binds,Option.bind_some,Option.bind_some,Option.bind_some,q.type,N.type,Option.bind_some,Option.bind_some];exact h
     .exact λp F=>(j.aP p F).more r (lR _) (by simp only[bj];omega)
 | .lt x a b,n,l,T,m,E,h=>by
  have P:=jn d a n;have h3:=jn d b (bj d a n).2.2;simp only[bj] at E;unfold bO at h;cases z:bO a l with
  |none=>rw[z] at h;cases h
  |some A=>
   rw[z,Option.bind_some] at h;have Q:=List.nodup_cons.1 m.nodup;have K:=List.nodup_append.1 Q.2;have r:∀y,y∈fP a->y∈fP (.lt x a b):=λy u=>mK _ (mA.2<|.inl u);have I:∀y,y∈fP b->y∈fP (.lt x a b):=λy u=>mK _ (mA.2<|.inr u);have WG:x∈fP (.lt x a b):=List.mem_cons_self ..;obtain⟨t,o⟩:=made d a n l A ⟨K.1,λy u D=>m.nofree y (r y u)<|.inl D,λy u=>m.noted y<|u.imp (r y) .inl⟩ om z;have U:bO b (l++(t++[(x,A)]))=some T:=by
    rw[<-h,<-List.append_assoc];refine sr b _ _ λs Z J=>?_;rw[qM,qM];by_cases e:x=s
    .rw[iP e,iP e]
    .rw[iN e,iN e];have Gp:Fv s (.lt x a b):=.inr ⟨λe'=>e e'.symm,J⟩;exact IU<|LX o.aP (λi=>m.nofree s (r s i) Gp) (m.noted s<|.inr Gp)
   obtain⟨M,q⟩:=made d b (bj d a n).2.2 (l++(t++[(x,A)])) T ⟨K.2.1,λy u D=>by
    by_cases e:y=x
    .exact Q.1<|e▸mA.2 (.inr u)
    .exact m.nofree y (I y u)<|.inr ⟨e,D⟩,λy u=>by
    by_cases e:y=x
    .rw[e];exact m.noted x<|.inl WG
    .exact m.noted y<|u.imp (I y) λh=>.inr ⟨e,h⟩⟩ E U
   refine⟨t++(x,A)::M,⟨?_,?_,?_⟩⟩
   .show sY (_++(x,_)::_) l=_;rw[P4,o.binds,Option.bind_some];show(bO (bj d a n).2.1<|l++t).bind (λT=>sY _<|(l++t)++[(x,T)])=_;rw[o.type,Option.bind_some,List.append_assoc,q.binds];simp
   .show bO (bj d b (bj d a n).2.2).2.1 _=some T;have:=q.type;rw[show l++(t++(x,A)::M)=l++(t++[(x,A)])++M from by simp];exact this
   .intro p F;rcases mA.1 F with F|F
    .exact(o.aP p F).more r (lR _) (by simp only[bj];omega)
    .rcases mC.1 F with rfl|F
     .exact .inl WG
     .exact(q.aP p F).more I om (by simp only[bj];omega)
 | .fn f x A B e,n,l,T,m,E,h=>by
  simp only[bj] at E;unfold bO at h;split at h
  .rename_i S;cases he:bO e (l++[(f,.op true A B),(x,A)]) with
   |none=>rw[he] at h;cases h
   |some C=>
    rw[he,Option.bind_some] at h;have Q:=List.nodup_cons.1 m.nodup;have K:=List.nodup_cons.1 Q.2;have X:∀y,y∈fP e->y∈fP (.fn f x A B e):=λy u=>mK _<|mK _ u;obtain⟨t,o⟩:=made d e n (l++[(f,.op true A B),(x,A)]) C ⟨K.2,λy u D=>by
     by_cases O:y=x
     .exact K.1<|O▸u
     .by_cases R:y=f
      .exact Q.1<|R▸mK _ u
      .exact m.nofree y (X y u) ⟨R,O,D⟩,λy u=>by
     by_cases O:y=x
     .rw[O];exact m.noted x<|.inl (mK _<|List.mem_cons_self ..)
     .by_cases R:y=f
      .rw[R];exact m.noted f (.inl<|List.mem_cons_self ..)
      .exact m.noted y<|u.imp (X y) λh=>⟨R,O,h⟩⟩ E he
    refine⟨[],⟨by simp[bj,sY],?_,sm⟩⟩;show(if 1+A.n+B.n<=16 then(bO (nest (bj d e n).1 (bj d e n).2.1)<|(l++[])++[(f,.op true A B),(x,A)]).bind λC=>if mz C B then some (.op true A B) else none else none)=some T;rw[iP S,List.append_nil,LW,o.binds,Option.bind_some,o.type,Option.bind_some];exact h
  .cases h
def ajp {b:List aj} {e:Ex} {n:Nat} {c:Sc} {T:Ty} (f:WD b e) (d:(bj b e n).2.2<=1000) (h:bO e c=some T):bO (o6 b e n) c=some T:=by obtain⟨_,a⟩:=made b e n c T f d h;unfold o6;rw[LW,a.binds,Option.bind_some,a.type]
/-! ### Atoms of a form -/
mutual
def nk:au->List aj->List aj
 | .mk a ps,l=>if a≠[] then(if a∈l then l else l++[a]) else qN ps l
def qN:List au->List aj->List aj
 |[],l=>l
 |t::ts,l=>qN ts<|nk t l
end
theorem WH (t:au) (l:List aj):nk t l=if t.aq≠[] then(if t.aq∈l then l else l++[t.aq]) else qN t.ag l:=by cases t with|mk a ps=>rw[nk];rfl
theorem ajq:∀(xs a:List au) (l:List aj),qN (xs++a) l=qN a (qN xs l):=by intro x;induction x<;>grind [qN]
def ajr {p:au} (h:ps[i]?=some p) (l:List aj):qN (ps.take<|i+1) l=nk p (qN (ps.take i) l):=by rw[List.take_add_one,h,ajq];rfl
mutual
theorem ajs:∀(t:au) (l:List aj),x∈l->x∈nk t l
 | .mk a ps,l,h=>by
  unfold nk;split
  .split
   .exact h
   .exact mA.2<|.inl h
  .exact P7 ps l h
theorem P7:∀(ps:List au) (l:List aj),x∈l->x∈qN ps l
 |[],l,h=>h
 |t::ts,l,h=>by unfold qN;exact P7 ts _<|ajs t l h
end
mutual
def WJ:∀(t:au) (l:List aj),(nk t l).length<=l.length+gJ t
 | .mk a ps,l=>by
  unfold nk gJ;split
  .split
   .omega
   .simp
  .exact P8 ps l
def P8:∀(ps:List au) (l:List aj),(qN ps l).length<=l.length+kP ps
 |[],l=>by simp[qN,kP]
 |t::ts,l=>by have a:=WJ t l;have b:=P8 ts<|nk t l;unfold qN kP;omega
end
theorem ajt:∀{ps:List au} {l:List aj} {p:au},p∈ps->(∀l,x∈nk p l)->x∈qN ps l:=by intro x;induction x<;>grind [qN,P7]
def LY (a:x≠[]) (l:List aj):x∈nk (bL x) l:=by grind [nk,bL]
def wu {p:au} (a:p∈ps) (h:∀l,x∈nk p l) (l:List aj):x∈nk (.mk [] ps) l:=by grind [nk,ajt]
def yV:∀{e:Ex},e.ok->(x∈fP e\/Fv x e)->∀l,x∈nk e.aw l
 | .at s,h,d,l=>by
  rcases d with d|⟨rfl,_⟩
  .simp[fP] at d
  .exact LY (rE h) l
 | .un j a,h,d,l=>wu (p:=a.aw) sm (yV h.2 d) l
 | .bi j a b,h,d,l=>by
  have g:(x∈fP a\/Fv x a)\/(x∈fP b\/Fv x b):=by
   rcases d with d|d
   .rcases mA.1 d with h|h
    .exact .inl<|.inl h
    .exact .inr<|.inl h
   .rcases d with h|h
    .exact .inl<|.inr h
    .exact .inr<|.inr h
  rcases g with g|hb
  .exact wu (p:=a.aw) sm (yV h.2.1 g) l
  .exact wu (p:=b.aw) sm (yV h.2.2 hb) l
 | .ite a b c,h,d,l=>by
  have g:(x∈fP a\/Fv x a)\/(x∈fP b\/Fv x b)\/(x∈fP c\/Fv x c):=by
   rcases d with d|d
   .rcases mA.1 d with h|h
    .exact .inl<|.inl h
    .rcases mA.1 h with h|h
     .exact .inr (.inl<|.inl h)
     .exact .inr (.inr<|.inl h)
   .rcases d with h|h|h
    .exact .inl<|.inr h
    .exact .inr (.inl<|.inr h)
    .exact .inr (.inr<|.inr h)
  rcases g with g|hb|i
  .exact wu (p:=a.aw) sm (yV h.1 g) l
  .exact wu (p:=b.aw) sm (yV h.2.1 hb) l
  .exact wu (p:=c.aw) sm (yV h.2.2 i) l
 | .lt y a b,h,d,l=>by
  have g:x=y\/(x∈fP a\/Fv x a)\/(x∈fP b\/Fv x b):=by
   rcases d with d|d
   .rcases mC.1 d with h|h
    .exact .inl h
    .rcases mA.1 h with h|h
     .exact .inr (.inl<|.inl h)
     .exact .inr (.inr<|.inl h)
   .rcases d with h|⟨_,h⟩
    .exact .inr (.inl<|.inr h)
    .exact .inr (.inr<|.inr h)
  rcases g with rfl|g|hb
  .exact wu (p:=bL x) sm (λl=>LY (xK h.1) l) l
  .exact wu (p:=a.aw) sm (yV h.2.1 g) l
  .exact wu (p:=b.aw) sm (yV h.2.2 hb) l
 | .fn f y A B e,h,d,l=>by
  obtain⟨n,o,_,_,_,m⟩:=h;have g:x=f\/x=y\/(x∈fP e\/Fv x e):=by
   rcases d with d|d
   .rcases mC.1 d with h|h
    .exact .inl h
    .rcases mC.1 h with h|h
     .exact .inr<|.inl h
     .exact .inr (.inr<|.inl h)
   .exact .inr (.inr<|.inr d.2.2)
  rcases g with rfl|rfl|g
  .exact wu (p:=bL x) sm (λl=>LY (xK n) l) l
  .exact wu (p:=bL x) sm (λl=>LY (xK o) l) l
  .exact wu (p:=e.aw) sm (yV m g) l
/-! ### Expressions stay expressions -/
structure LZ (r:Bs×Ex×Nat):Prop where
 out:r.2.1.ok
 bs:∀p∈r.1,eR p.1=true/\p.2.ok
theorem LZ.aq {ai:List aj} {r:Bs×Ex×Nat} (h:LZ r) (b:(ei ai r).2.2<=1000):LZ (ei ai r):=by
 unfold ei at b⊢;split
 .exact h
 .rename_i c;rw[iN c] at b;have hk:eR (dm cy<|bI cy ai r.2.2)=true:=B9 de (by dsimp only at b;omega);refine⟨?_,λp a=>?_⟩
  .show sn _=true;unfold sn;rw[hk];simp
  .rcases mA.1 a with a|a
   .exact h.bs p a
   .simp only[List.mem_singleton] at a;subst a;exact⟨hk,h.out⟩
def Ma:∀{bs:Bs} {e:Ex},(∀p∈bs,eR p.1=true/\p.2.ok)->e.ok->(nest bs e).ok:=by intro x;induction x<;>grind [eR,Ex.ok,nest]
def yW (ai:List aj):∀(e:Ex) (n:Nat),e.ok->(bj ai e n).2.2<=1000->LZ (bj ai e n)
 | .at s,n,h,_=>⟨h,by simp[bj]⟩
 | .un v a,n,h,g=>by have j:=jn ai a n;have l:=sv ai<|bj ai a n;simp only[bj] at g;have d:=(yW ai a n h.2 om).aq g;exact⟨⟨h.1,d.out⟩,d.bs⟩
 | .bi v a b,n,h,g=>by have j:=jn ai a n;have l:=sv ai<|bj ai a n;have m:=jn ai b (ei ai<|bj ai a n).2.2;have r:=sv ai<|bj ai b (ei ai<|bj ai a n).2.2;simp only[bj] at g;have d:=(yW ai a n h.2.1 om).aq (ai:=ai) om;have hb:=(yW ai b (ei ai<|bj ai a n).2.2 h.2.2 om).aq (ai:=ai) g;exact⟨⟨h.1,d.out,hb.out⟩,λp i=>(mA.1 i).elim (d.bs p)<|hb.bs p⟩
 | .ite a b c,n,h,g=>by have j:=jn ai a n;have l:=sv ai<|bj ai a n;have m:=jn ai b (ei ai<|bj ai a n).2.2;have r:=jn ai c (bj ai b (ei ai<|bj ai a n).2.2).2.2;simp only[bj] at g;have d:=(yW ai a n h.1 om).aq (ai:=ai) om;have hb:=yW ai b (ei ai<|bj ai a n).2.2 h.2.1 om;have o:=yW ai c (bj ai b (ei ai<|bj ai a n).2.2).2.2 h.2.2 g;exact⟨⟨d.out,Ma hb.bs hb.out,Ma o.bs o.out⟩,d.bs⟩
 | .lt x a b,n,h,g=>by
  have j:=jn ai a n;have m:=jn ai b (bj ai a n).2.2;simp only[bj] at g;have d:=yW ai a n h.2.1 om;have hb:=yW ai b (bj ai a n).2.2 h.2.2 g;refine⟨hb.out,λp i=>?_⟩;rcases mA.1 i with i|i
  .exact d.bs p i
  .rcases mC.1 i with rfl|i
   .exact⟨h.1,d.out⟩
   .exact hb.bs p i
 | .fn f x A B e,n,h,g=>by obtain⟨z,C,q,t,u,y⟩:=h;simp only[bj] at g;have d:=yW ai e n y g;exact⟨⟨z,C,q,t,u,Ma d.bs d.out⟩,by simp[bj]⟩
def rI (bs:Bs):Nat:=(bs.map λp=>2+p.2.n).sum
theorem WK (a b:Bs):rI (a++b)=rI a+rI b:=by grind [rI]
theorem WM (p:aj×Ex) (b:Bs):rI (p::b)=2+p.2.n+rI b:=by simp[rI]
theorem P9 (bs:Bs) (e:Ex):(nest bs e).n=rI bs+e.n:=by induction bs<;>grind [nest,Ty.n,Ex.n,rI]
def Mb (a:List aj) (r:Bs×Ex×Nat):rI (ei a r).1+(ei a r).2.1.n<=rI r.1+r.2.1.n+3:=by grind [rI,ei,Ty.n,Ex.n]
def xM (d:List aj):∀(e:Ex) (n:Nat),rI (bj d e n).1+(bj d e n).2.1.n+3<=4*e.n
 | .at s,n=>by simp[bj,rI,Ex.n]
 | .un g a,n=>by have:=xM d a n;have:=Mb d<|bj d a n;simp only[bj,Ex.n];omega
 | .bi g a b,n=>by have:=xM d a n;have:=Mb d<|bj d a n;have:=xM d b (ei d<|bj d a n).2.2;have:=Mb d<|bj d b (ei d<|bj d a n).2.2;simp only[bj,Ex.n,WK];omega
 | .ite a b c,n=>by have:=xM d a n;have:=Mb d<|bj d a n;have:=xM d b (ei d<|bj d a n).2.2;have:=xM d c (bj d b (ei d<|bj d a n).2.2).2.2;simp only[bj,Ex.n,P9];omega
 | .lt x a b,n=>by have:=xM d a n;have:=xM d b (bj d a n).2.2;simp only[bj,Ex.n,WK,WM];omega
 | .fn f x A B e,n=>by have:=xM d e n;simp only[bj,Ex.n,P9];rw[show rI ([]:Bs)=0 from rfl];omega
/-! ### The normal form -/
def sw (e:Ex):Option Ex:=if(cF (dQ e [] []) e [] 0).2<=100 then some (cF (dQ e [] []) e [] 0).1 else none
def pF (e:Ex):Option Ex:=(sw e).bind λp=>if(bj (nk p.aw []) p 0).2.2<=100 then some (o6 (nk p.aw []) p 0) else none
def Qa {e p:Ex} (h:e.ok) (a:sw e=some p):p.ok:=by
 unfold sw at a;split at a
 .cases a;exact yR _ e [] 0 h om λs b _=>b
 .cases a
def Qb {e q:Ex} (h:e.ok) (a:pF e=some q):q.ok:=by
 unfold pF at a;cases b:sw e with
 |none=>rw[b] at a;cases a
 |some p=>
  rw[b,Option.bind_some] at a;split at a
  .cases a;have:=yW (nk p.aw []) p 0 (Qa h b) om;exact Ma this.bs this.out
  .cases a
def WN {e q:Ex} {T:Ty} (h:e.ok) (i:bO e []=some T) (b:pF e=some q):bO q []=some T:=by
 unfold pF at b;cases a:sw e with
 |none=>rw[a] at b;cases b
 |some p=>
  have j:=Qa h a;rw[a,Option.bind_some] at b;split at b
  .rename_i m;cases b;unfold sw at a;split at a
   .rename_i n;cases a;have f:∀s,¬Fv s e:=λs c=>by have:=rH i c;simp[look] at this
    have g:bO (cF (dQ e [] []) e [] 0).1 []=some T:=by rw[<-i];exact yS _ e [] 0 [] [] om λs _ c=>absurd c<|f s
    have d:∀s,¬Fv s (cF (dQ e [] []) e [] 0).1:=λs c=>by have:=rH g c;simp[look] at this
    refine ajp ⟨(yT _ e [] 0).1,λx _=>d x,λx l=>yV j l []⟩ om g
   .cases a
  .cases b
/-! ### Target types -/
def Cb (x:au):au:=.mk [] [bL [101],.mk [] [bL [116],.mk [] [bL [99],bL [118],x],bL [118]]]
def sZ:Ty->au
 | .i=>bL [105]
 | .op false a b=>.mk [] [bL [116],sZ a,sZ b]
 | .op true a b=>.mk [] [bL [101],.mk [] [bL [116],.mk [] [bL [99],bL [118],sZ a,Cb (sZ b)],bL [118]]]
def bK (t:Ty):aj:=(sZ t).text
def dZ (s:aj):aj:=[40,101,32,40,116,32,40,99,32,118,32]++s++[41,32,118,41,41]
def wv (c:UInt8) (h:fy c=true):Good (bL [c]):=.aq _ sm<|by simp[h]
def WQ {x:au} (h:Good x):Good (Cb x):=by
 refine .list _ sm λp a=>?_;simp only[mC,List.not_mem_nil,or_false] at a;rcases a with rfl|rfl
 .exact wv _ de
 .refine .list _ sm λp a=>?_;simp only[mC,List.not_mem_nil,or_false] at a;rcases a with rfl|rfl|rfl
  .exact wv _ de
  .refine .list _ sm λp a=>?_;simp only[mC,List.not_mem_nil,or_false] at a;rcases a with rfl|rfl|rfl
   .exact wv _ de
   .exact wv _ de
   .exact h
  .exact wv _ de
theorem WR (x:au):(Cb x).text=dZ x.text:=by simp_all[Cb,au.text,Ty.text,dZ,bL,qF,si,qG,rC]
theorem Qc (s:aj):(dZ s).length=s.length+16:=by simp[dZ]
theorem WT (x:au):(Cb x).depth=max 3 (x.depth+3):=by have a:∀c:UInt8,(bL [c]).depth=0:=λc=>rfl;unfold Cb;simp only[au.depth,au.depth.deeps,bL];omega
def Gs:∀t:Ty,Good (sZ t)
 | .i=>wv _ de
 | .op false a b=>by
  refine .list _ sm λp c=>?_;simp only[mC,List.not_mem_nil,or_false] at c;rcases c with rfl|rfl|rfl
  .exact wv _ de
  .exact Gs a
  .exact Gs b
 | .op true a b=>by
  refine .list _ sm λp c=>?_;simp only[mC,List.not_mem_nil,or_false] at c;rcases c with rfl|rfl
  .exact wv _ de
  .refine .list _ sm λp c=>?_;simp only[mC,List.not_mem_nil,or_false] at c;rcases c with rfl|rfl|rfl
   .exact wv _ de
   .refine .list _ sm λp c=>?_;simp only[mC,List.not_mem_nil,or_false] at c;rcases c with rfl|rfl|rfl|rfl
    .exact wv _ de
    .exact wv _ de
    .exact Gs a
    .exact WQ<|Gs b
   .exact wv _ de
theorem WU:bK .i=[105]:=qF sm
theorem WV (a b:Ty):bK (.op false a b)=[40,116,32]++bK a++[32]++bK b++[41]:=by simp_all[bK,bL,au.text,Ty.text,sZ,qF,si,qG,rC]
theorem WW (a b:Ty):bK (.op true a b)=[40,101,32,40,116,32,40,99,32,118,32]++bK a++[32]++dZ (bK b)++[41,32,118,41,41]:=by simp_all[bK,dZ,bL,au.text,Ty.text,sZ,Cb,qF,si,qG,rC,WR]
def DZ:∀t:Ty,(bK t).length+16<=17*t.n
 | .i=>by rw[WU];simp[Ty.n]
 | .op false a b=>by have:=DZ a;have:=DZ b;rw[WV];simp only[lA,lC,List.length_nil,Ty.n];omega
 | .op true a b=>by have:=DZ a;have:=DZ b;rw[WW];simp only[lA,lC,List.length_nil,Ty.n,Qc];omega
def Gt:∀t:Ty,(sZ t).depth+3<=3*t.n
 | .i=>by simp[sZ,bL,au.depth,au.depth.deeps,Ty.n]
 | .op false a b=>by have:=Gt a;have:=Gt b;have:=a.pos;have:=b.pos;simp only[sZ,au.depth,au.depth.deeps,bL,Ty.n];omega
 | .op true a b=>by have:=Gt a;have:=Gt b;have:=a.pos;have:=b.pos;have c:=WT<|sZ b;simp only[sZ,au.depth,au.depth.deeps,bL,Ty.n,c];omega
/-! ### The maker's state -/
structure Tk where
 aQ:aj
 regs:List aj
 loads:Nat
 self:List aj
 sc:List (aj×Nat×Ty)
 expr:Ex
 on:Nat
 bg:aj
 next:Nat
structure Mk where
 blocks:List Bk
 bX:List Tk
 count:Nat
 wide:Bool
 code:List aj
 types:List aj
abbrev cX:=List<|aj×Nat×Ty
def fx (s:cX):Sc:=s.map λp=>(p.1,p.2.2)
theorem Gu (s:cX) (x:aj) (r:Nat) (T:Ty):fx (s++[(x,r,T)])=fx s++[(x,T)]:=by simp[fx]
def mh (s:cX) (x:aj):Nat:=((s.reverse.find? λp=>decide<|p.1=x).map λp=>p.2.1).getD 0
def lT (s:cX) (x:aj):Ty:=(look (fx s) x).getD .i
def Mk.dH (m:Mk) (a:aj):Mk:={m with types:=m.types++[a],wide:=m.wide||decide (40<m.types.length+1)}
def Mk.cW (m:Mk) (h:aj) (a:List aj):Mk:={m with code:=m.code++[eC h a]}
def Mk.nq (m:Mk):Mk:={m with count:=m.count+1}
def Mk.aQ (m:Mk):aj:=98::aS m.count
abbrev Mc:aj:=[99,111,110,115,116]
abbrev nS:aj:=[110,101,119]
abbrev vg:aj:=[108,97,98]
abbrev vh:aj:=[112,97,99,107]
abbrev Cc:aj:=[111,112,101,110]
abbrev vj:aj:=[103,101,116]
abbrev pG:aj:=[109,111,118]
abbrev Cd:aj:=[106,117,109,112]
abbrev IW:aj:=[122,101,114,111]
abbrev D0:aj:=[109,97,105,110]
abbrev Ce:aj:=[101,110,100]
def Ex.aq:Ex->aj
 | .at s=>s
 |_=>[]
theorem Ex.s0 (e:Ex):e.aw.aq=e.aq:=by cases e<;>rfl
def cL (m:Mk) (s:cX) (a:aj):Mk×Nat:=if eR a then(m,mh s a) else((m.dH [105]).cW Mc [aS m.types.length,a],m.types.length)
structure Pk where
 m:Mk
 r:Nat
 w:aj
def qO (m:Mk) (s:cX) (b:Nat) (aP:List aj) (on aQ a:aj) (bS:List aj):Pk:=
 let regs:=aP.map (λx=>aS<|mh s x)++(if on≠[] then[aS b] else[]);let c:=aP.map (λx=>bK<|lT s x)++(if on≠[] then[on] else[]);let w:=eC [116] c;let r:=m.types.length;let code:=eC [99] (w::bS)
 ⟨(((((((m.dH w).cW nS (aS r::regs)).dH code).cW vg [aS<|r+1,aQ]).dH<|eC [116] [code,w]).cW nS [aS<|r+2,aS<|r+1,aS r]).dH a).cW vh [aS<|r+3,aS<|r+2,a,w],r+3,w⟩
def js (s:cX) (k:Nat) (aP:List aj) (a:cX):cX:=a++(aP.zipIdx).map λp=>(p.1,k+p.2,lT s p.1)
def p9 (m:Mk) (s:cX) (f x:aj) (A B:Ty) (e:Ex):Pk:=qO m.nq s 0 (dQ (.fn f x A B e) [] []) [] m.aQ (bK<|.op true A B) [bK A,dZ (bK B)]
def Cf (s:cX) (f x:aj) (A B:Ty) (e:Ex):cX:=
 (if 0<lx f e then js s 3 (dQ (.fn f x A B e) [] []) []++[(f,3+(dQ (.fn f x A B e) [] []).length+2,.op true A B)] else js s 3 (dQ (.fn f x A B e) [] []) [])++[(x,1,A)]
def Cg (m:Mk) (s:cX) (f x:aj) (A B:Ty) (e:Ex):Tk:=
 ⟨m.aQ,[(p9 m s f x A B e).w,bK A,dZ (bK B)],(dQ (.fn f x A B e) [] []).length,if 0<lx f e then[bK<|.op true A B,(p9 m s f x A B e).w] else[],Cf s f x A B e,e,2,dZ<|bK B,3⟩
def Ch (m:Mk) (s:cX) (f x:aj) (A B:Ty) (e:Ex):Mk×Nat:=
 ({(p9 m s f x A B e).m with bX:=(p9 m s f x A B e).m.bX++[Cg m s f x A B e]},(p9 m s f x A B e).r)
def sA (h:aj):aj:=if h=[43] then[97,100,100] else if h=[45] then[115,117,98] else if h=[42] then[109,117,108] else nS
def o7 (m:Mk) (s:cX) (c:Ty):Ex->Mk×Nat
 | .at a=>cL m s a
 | .fn f x A B e=>Ch m s f x A B e
 | .un h a=>
  let p:=cL m s a.aq
  ((p.1.dH<|bK c).cW vj [aS p.1.types.length,aS p.2,if h=sX then[49] else[48]],p.1.types.length)
 | .bi h a b=>
  let p:=cL m s a.aq;let q:=cL p.1 s b.aq
  ((q.1.dH<|bK c).cW (sA h) [aS q.1.types.length,aS p.2,aS q.2],q.1.types.length)
 | .ite a b _=>
  let p:=cL m s a.aq;let q:=cL p.1 s b.aq
  ((q.1.dH<|bK c).cW (sA iz) [aS q.1.types.length,aS p.2,aS q.2],q.1.types.length)
 | .lt x a _=>
  let p:=cL m s x;let q:=cL p.1 s a.aq
  ((q.1.dH<|bK c).cW (sA il) [aS q.1.types.length,aS p.2,aS q.2],q.1.types.length)
def qd (m:Mk) (s:cX) (b:Nat) (bg name:aj) (a:Ty) (rest:Ex):Pk:=qO m.nq s b (dQ rest [name] []) bg m.aQ (dZ<|bK a) [bK a]
def Md (m:Mk) (s:cX) (b:Nat) (bg name:aj) (a:Ty) (rest:Ex):Tk:=
 ⟨m.aQ,[(qd m s b bg name a rest).w,bK a],(dQ rest [name] []).length+1,[],js s 2 (dQ rest [name] []) []++[(name,1,a)],rest,2+(dQ rest [name] []).length,bg,2⟩
def wy (m:Mk) (s:cX) (b:Nat) (bg name:aj) (a:Ty) (rest:Ex):Mk×Nat×aj:=
 ({(qd m s b bg name a rest).m with bX:=(qd m s b bg name a rest).m.bX++[Md m s b bg name a rest]},(qd m s b bg name a rest).r,dZ<|bK a)
def vm (m:Mk) (s:Nat):Mk:=
 let r:=m.types.length
 (((((m.dH []).cW Cc [aS r,aS s]).dH []).cW vj [aS<|r+1,aS r,[48]]).dH []).cW vj [aS<|r+2,aS r,[49]]
def Ap (m:Mk) (f x:Nat) (on:Nat):Mk:=
 let r:=m.types.length
 ((((vm m f).cW pG [[48],aS (r+2)]).cW pG [[49],aS x]).cW pG [[50],aS on]).cW Cd [aS (r+1)]
def Aq (m:Mk) (on r:Nat):Mk:=
 let q:=m.types.length
 (((vm m on).cW pG [[48],aS (q+2)]).cW pG [[49],aS r]).cW Cd [aS (q+1)]
structure Goal where
 name:aj
 s:Ex
 rest:Ex
def bW:Ex->Goal
 | .lt x a b=>⟨x,a,b⟩
 |e=>⟨[],e,e⟩
def pH (s:cX) (e:Ex):Ty:=(bO e<|fx s).getD .i
structure At where
 m:Mk
 s:cX
 on:Nat
 bg:aj
def Me (a:At) (g:Goal):At:=
 if g.name≠[] then let c:=wy a.m a.s a.on a.bg g.name (pH a.s g.s) g.rest;⟨c.1,a.s,c.2.1,c.2.2⟩ else a
def lU (a:At) (e:Ex):Mk ⊕ At×Ex:=
 let g:=bW e
 match g.s with
 | .bi h f x=>
  if h=lS then
   let p:=cL a.m a.s f.aq;let q:=cL p.1 a.s x.aq;let b:=Me {a with m:=q.1} g
   .inl (Ap b.m p.2 q.2 b.on)
  else
   let p:=o7 a.m a.s (pH a.s g.s) g.s
   if g.name=[] then .inl (Aq p.1 a.on p.2) else .inr ({a with m:=p.1,s:=a.s++[(g.name,p.2,pH a.s g.s)]},g.rest)
 | .ite c x y=>
  let p:=cL a.m a.s c.aq;let b:=Me {a with m:=p.1} g;let aQ:=b.m.aQ;let d:=b.m.nq.cW IW [aS p.2,aQ];let i:Tk:=⟨aQ,d.types,0,[],a.s,x,b.on,b.bg,d.types.length⟩
  .inr ({b with m:={d with bX:=d.bX++[i]}},y)
 |s=>
  let p:=o7 a.m a.s (pH a.s s) s
  if g.name=[] then .inl (Aq p.1 a.on p.2) else .inr ({a with m:=p.1,s:=a.s++[(g.name,p.2,pH a.s s)]},g.rest)
structure Fr (L:List Nat) (w:World) (L':List Nat) (w':World):Prop where
 aG:ak L w w'
 mem:∀x∈L',x∈L\/w.heap.size<=x
def Fr.refl (L:List Nat) (w:World):Fr L w L w:=⟨ak.refl L w,λx a=>.inl a⟩
def Fr.go {L2:List Nat} (h:Fr L w L1 w1) (k:Fr L1 w1 L2 w2):Fr L w L2 w2:=
 ⟨h.aG.since k.aG h.mem,λx b=>by
  rcases k.mem x b with a|a
  .exact h.mem x a
  .have:=h.aG.size;right;omega⟩
def Fr.ext (h:Fr L w L1 w1) (k:ak [] w1 w2):Fr L w L1 w2:=⟨h.aG.trans k.any,h.mem⟩
def Fr.aB (h:Fr L w L1 w1) (k:ak G w1 w2) (a:∀x∈G,x∈L1):Fr L w L1 w2:=⟨h.aG.since (k.mono a) h.mem,h.mem⟩
def Fr.of (k:ak G w w') (a:∀x∈G,x∈L):Fr L w L w':=⟨k.mono a,λx b=>.inl b⟩
def Fr.to {L2:List Nat} (h:Fr L w L1 w1) (b:∀x∈L2,x∈L1\/w.heap.size<=x):Fr L w L2 w1:=⟨h.aG,λx c=>by
 rcases b x c with a|a
 .exact h.mem x a
 .exact .inr a⟩
def Fr.grow (h:Fr L w L1 w1):Fr L w (w1.heap.size::L1) w1:=h.to λx a=>by
 rcases mC.1 a with rfl|a
 .exact .inr h.aG.size
 .exact .inl a
def cw.go {c:C} (h:cw L w v c) (k:Fr L w L' w'):cw L' w' v c:=by
 have b:cw (L++L') w v c:=h.fresh λx a=>by
  rcases mA.1 a with a|a
  .exact .inl a
  .exact k.mem x a
 exact(b.aG<|k.aG.mono λx a=>List.mem_append_left _ a).weaken λx a=>mR _ a
def dC.go {a:List C} (h:dC L w vs a) (k:Fr L w L' w'):dC L' w' vs a:=dC.of h.length λ_ _ _ c b=>(h.get c b).go k
def ja.go {a:List C} (h:ja L w v a) (k:Fr L w L' w'):ja L' w' v a:=let⟨vs,e,h⟩:=h;⟨vs,e,h.go k⟩
def ba.go (h:ba L w v t) (k:Fr L w L' w'):ba L' w' v t:=ja.go h k
def cP.go {t:List au} (h:cP L w v t) (k:Fr L w L' w'):cP L' w' v t:=cw.go h k
def bo.go (h:bo L w v xs) (k:Fr L w L' w'):bo L' w' v xs:=cw.go h k
def bo.fresh (h:bo L w v xs) (a:∀x∈L',x∈L\/w.heap.size<=x):bo L' w v xs:=cw.fresh h a
def ba.fresh (h:ba L w v t) (a:∀x∈L',x∈L\/w.heap.size<=x):ba L' w v t:=ja.fresh h a
structure gD (L:List Nat) (w:World) (b off:Nat) (vs:List Value):Prop where
 cells:gj w b off vs
 lt:b<w.heap.size
 out:b∉L
def gD.go (h:gD L w b off vs) (k:Fr L w L' w'):gD L' w' b off vs:=
 ⟨λj v c=>(World.cell?_of_block<|k.aG.block b h.lt h.out).trans<|h.cells j v c,lL h.lt k.aG.size,λd=>by
  rcases k.mem b d with a|a
  .exact h.out a
  .have:=h.lt;omega⟩
def gD.ext (h:gD L w b off vs) (k:ak [] w w'):gD L w' b off vs:=h.go<|Fr.of k sm
def gD.aB (h:gD L w b off vs) (k:ak G w w') (a:∀x∈G,x∈L):gD L w' b off vs:=h.go (Fr.of k a)
/-! ### Tasks -/
def wA (a:List Nat):List (List C):=a.map λx:Nat=>[.val (.int .i64 (x:Int))]
def Ar (L:List Nat) (w:World) (v:Value) (a:List Nat):Prop:=cw L w v (.sl 1<|wA a)
def Ar.ext {a:List Nat} (h:Ar L w v a) (k:ak [] w w'):Ar L w' v a:=cw.ext h k
def Ar.go {a:List Nat} (h:Ar L w v a) (k:Fr L w L' w'):Ar L' w' v a:=cw.go h k
def aju {a:Option Addr} {n c x:Nat} {e:List Nat} (h:Ar L w (.slice a n c) e) (l:e[i]?=some x):
  ∃b off,a=some ⟨b,off,none⟩/\gj w b (off+i*1) [.int .i64 (x:Int)]:=by
 obtain⟨b,off,vs,g,hb,_,_,j,d⟩:=z8 h (show(wA e)[i]?=some [.val (.int .i64 (x:Int))] by simp[wA,l])
 match vs,d with
 |[v],d=>obtain⟨f,_⟩:=d;cases f;exact⟨b,off,g,j⟩
 |[],d=>exact d.elim
 |_::_::_,d=>exact d.2.elim
def la (s:cX):List aj:=s.map λp=>p.1
def yX (s:cX):List Nat:=s.map λp=>p.2.1
def qP (s:cX):List aj:=s.map λp=>p.2.2.text
theorem ajv (s:cX) (x:aj) (r:Nat) (T:Ty):la (s++[(x,r,T)])=la s++[x]:=by simp[la]
theorem ajw (s:cX) (x:aj) (r:Nat) (T:Ty):yX (s++[(x,r,T)])=yX s++[r]:=by simp[yX]
theorem ajx (s:cX) (x:aj) (r:Nat) (T:Ty):qP (s++[(x,r,T)])=qP s++[T.text]:=by simp[qP]
def Tk.enc (t:Tk):List C:=
 [.val<|str t.aQ,.sl 1<|gm t.regs,.val<|.int .i64 (t.loads:Int),.sl 1<|gm t.self,.sl 1 (gm<|la t.sc),.sl 1 (wA<|yX t.sc),.sl 1 (gm<|qP t.sc),.val<|str t.expr.aw.aq,.sl 2<|dj t.expr.aw.ag,.val<|.int .i64 (t.on:Int),.val<|str t.bg,.val (.int .i64 (t.next:Int))]
structure qe (L:List Nat) (w:World) (t:Tk) (v1 v3 v4 v5 v6 v8:Value):Prop where
 regs:bo L w v1 t.regs
 self:bo L w v3 t.self
 aP:bo L w v4 (la t.sc)
 at_:Ar L w v5 (yX t.sc)
 types:bo L w v6 (qP t.sc)
 ag:cP L w v8 t.expr.aw.ag
def rJ (t:Tk) (a b c d e f:Value):List Value:=
 [str t.aQ,a,.int .i64 (t.loads:Int),b,c,d,e,str t.expr.aw.aq,f,.int .i64 (t.on:Int),str t.bg,.int .i64 (t.next:Int)]
def ajy {t:Tk} (h:dC L w vs t.enc):∃v1 v3 v4 v5 v6 v8,vs=rJ t v1 v3 v4 v5 v6 v8/\qe L w t v1 v3 v4 v5 v6 v8:=by
 have a:=h.length;unfold Tk.enc at h a
 match vs,a,h with
 |[_,p,_,q,r,s,u,_,v,_,_,_],_,h=>obtain⟨c,d,e,f,g,i,j,l,m,n,b,o,_⟩:=h;cases c;cases e;cases l;cases n;cases b;cases o;exact⟨p,q,r,s,u,v,rfl,d,f,g,i,j,m⟩
def qe.DF {t:Tk} (h:qe L w t v1 v3 v4 v5 v6 v8):dC L w (rJ t v1 v3 v4 v5 v6 v8) t.enc:=
 ⟨.val _,h.regs,.val _,h.self,h.aP,h.at_,h.types,.val _,h.ag,.val _,.val _,.val _,trivial⟩
def qe.go {t:Tk} (h:qe L w t v1 v3 v4 v5 v6 v8) (k:Fr L w L' w'):qe L' w' t v1 v3 v4 v5 v6 v8:=
 ⟨h.regs.go k,h.self.go k,h.aP.go k,h.at_.go k,h.types.go k,h.ag.go k⟩
def qe.ext {t:Tk} (h:qe L w t v1 v3 v4 v5 v6 v8) (k:ak [] w w'):qe L w' t v1 v3 v4 v5 v6 v8:=h.go<|Fr.of k sm
def qe.aB {t:Tk} (h:qe L w t v1 v3 v4 v5 v6 v8) (k:ak G w w') (a:∀x∈G,x∈L):qe L w' t v1 v3 v4 v5 v6 v8:=h.go<|Fr.of k a
def qe.grow {t:Tk} (h:qe L w t v1 v3 v4 v5 v6 v8):qe (w.heap.size::L) w t v1 v3 v4 v5 v6 v8:=h.go<|(Fr.refl L w).grow
def iL (L:List Nat) (w:World) (T:TypeId) (b:Nat) (t:Tk):Prop:=∃v1 v3 v4 v5 v6 v8,aL w b (rJ t v1 v3 v4 v5 v6 v8).toArray T/\qe L w t v1 v3 v4 v5 v6 v8
def iL.ext {T:TypeId} {t:Tk} (h:iL L w T b t) (k:ak [] w w'):iL L w' T b t:=by obtain⟨v1,v3,v4,v5,v6,v8,hb,a⟩:=h;exact⟨v1,v3,v4,v5,v6,v8,hb.aG k sm,a.ext k⟩
def iL.go {T:TypeId} {t:Tk} (h:iL L w T b t) (k:Fr L w L' w') (d:ak G w w') (hb:b∉G):iL L' w' T b t:=by obtain⟨v1,v3,v4,v5,v6,v8,a,c⟩:=h;exact⟨v1,v3,v4,v5,v6,v8,a.aG d hb,c.go k⟩
/-! ### The maker -/
def dk.ajz {T:TypeId} (h:dk w T v g xs):jT w T 1 v g (gm xs).length (xs.map λx=>str x):=by rw[oX];exact h
structure eE (L:List Nat) (w:World) (T:TypeId) (sz:Nat) (v:Value) (g:Option Nat) (rows:List (List C)):Prop where
 own:∃xs,jT w T sz v g rows.length xs/\dC L w xs rows.flatten
 row:∀row∈rows,row.length=sz
def eE.aG {T:TypeId} (h:eE L w T sz v g rows) (k:Fr L w L' w') (e:ak G w w') (d:∀x∈g.toList,x∉G):eE L' w' T sz v g rows:=by obtain⟨xs,a,c⟩:=h.own;exact⟨⟨xs,a.aG e λb hb=>d b<|by simp[hb],c.go k⟩,h.row⟩
theorem eE.len {T:TypeId} (h:eE L w T sz v g rows):∃a b,v= .slice a rows.length b:=by obtain⟨xs,c,_⟩:=h.own;exact c.len
theorem eE.lt {T:TypeId} (h:eE L w T sz v g rows):∀x∈g.toList,x<w.heap.size:=by obtain⟨xs,a,_⟩:=h.own;intro x b;exact a.lt x (by simpa using b)
theorem eE.rep {T:TypeId} (h:eE L w T sz v g rows) (d:∀x∈g.toList++L',x∈L\/w.heap.size<=x) (e:∀x∈g.toList,x∉L'):cw L' w v (.sl sz rows):=by obtain⟨xs,a,c⟩:=h.own;exact iU.done (L:=L') ⟨a,c.fresh d,h.row,λb hb=>e b<|by simp[hb]⟩
def eE.gr {B:Nat} {T:TypeId} (h:eE L w T sz v g rows) (e:∀x∈g.toList,x∈L) (d:∀b,g=some b->B<=b) (f:B<=w.heap.size):Gr B [] w T sz v g rows:=by obtain⟨xs,a,c⟩:=h.own;exact⟨⟨xs,a,c.fresh λx i=>.inl (e x<|by simpa using i),h.row,sm⟩,d,sm,f⟩
def Gr.down {B B':Nat} {T:TypeId} (h:Gr B L w T sz v g rows) (a:B'<=B):Gr B' L w T sz v g rows:=
 ⟨h.own,λb hb=>Nat.le_trans a<|h.low b hb,h.cT,Nat.le_trans a h.bsz⟩
structure vq where
 M:TypeId
 B:TypeId
 T:TypeId
 S:TypeId
structure iA (τ:vq) (E L:List Nat) (w:World) (b:Nat) (o:Bool) (vb vt vc vy:Value) (gb gt gc gy:Option Nat) (m:Mk):Prop where
 bl:eE L w τ.B 3 vb gb (m.blocks.map Bk.enc)
 ta:eE L w τ.T 12 vt gt (m.bX.map Tk.enc)
 co:(o=true/\dk w τ.S vc gc m.code)\/(o=false/\gc=none/\bo L w vc m.code)
 ty:dk w τ.S vy gy m.types
 eL:L=E++b::(gb.toList++(gt.toList++(gc.toList++gy.toList)))
 nd:L.Nodup
 cT:∀x∈L,x<w.heap.size
section
variable {τ:vq} {E L:List Nat} {w w':World} {b:Nat} {o:Bool} {vb vt vc vy:Value} {gb gt gc gy:Option Nat} {m:Mk}
theorem As {A B C D E:List Nat} {b x:Nat}:x∈E++b::(A++(B++(C++D)))↔x∈E\/x=b\/x∈A\/x∈B\/x∈C\/x∈D:=by simp
theorem iA.mem (h:iA τ E L w b o vb vt vc vy gb gt gc gy m) {x:Nat}:x∈L↔x∈E\/x=b\/x∈gb.toList\/x∈gt.toList\/x∈gc.toList\/x∈gy.toList:=by rw[h.eL];exact As
def iA.apart (h:iA τ E L w b o vb vt vc vy gb gt gc gy m):E.Nodup/\b∉E/\
  (∀x∈gb.toList,x∉E/\x≠b)/\(∀x∈gt.toList,x∉E/\x≠b/\x∉gb.toList)/\(∀x∈gc.toList,x∉E/\x≠b/\x∉gb.toList/\x∉gt.toList)/\
  (∀x∈gy.toList,x∉E/\x≠b/\x∉gb.toList/\x∉gt.toList/\x∉gc.toList):=by
 have j:=h.nd;rw[h.eL] at j;rw[List.nodup_append] at j;obtain⟨s,n,f⟩:=j;rw[List.nodup_cons] at n;obtain⟨g,p⟩:=n;rw[List.nodup_append] at p;obtain⟨_,q,i⟩:=p;rw[List.nodup_append] at q;obtain⟨_,l,r⟩:=q;rw[List.nodup_append] at l;obtain⟨_,_,t⟩:=l;refine⟨s,λhb=>f b hb b sm rfl,λx a=>⟨λd=>f x d x (by simp[a]) rfl,λe=>g<|by simp[<-e,a]⟩,λx a=>⟨λd=>f x d x (by simp[a]) rfl,λe=>g<|by simp[<-e,a],λc=>i x c x (by simp[a]) rfl⟩,
  λx a=>⟨λd=>f x d x (by simp[a]) rfl,λe=>g<|by simp[<-e,a],λc=>i x c x (by simp[a]) rfl,λc=>r x c x (by simp[a]) rfl⟩,
  λx a=>⟨λd=>f x d x (by simp[a]) rfl,λe=>g<|by simp[<-e,a],λc=>i x c x (by simp[a]) rfl,λc=>r x c x (by simp[a]) rfl,λc=>t x c x a rfl⟩⟩
theorem Qd (g:Option Nat):g.toList.Nodup:=by cases g<;>simp
def ajA {A B C D:Option Nat} {F:List Nat} {b:Nat} (a:F.Nodup) (c:b∉F) (d:∀x∈A.toList,x∉F/\x≠b) (hb:∀x∈B.toList,x∉F/\x≠b/\x∉A.toList) (e:∀x∈C.toList,x∉F/\x≠b/\x∉A.toList/\x∉B.toList) 
  (f:∀x∈D.toList,x∉F/\x≠b/\x∉A.toList/\x∉B.toList/\x∉C.toList):(F++b::(A.toList++(B.toList++(C.toList++D.toList)))).Nodup:=by grind [Qd,List.nodup_append,List.nodup_cons]
def iA.swap (h:iA τ E L w b o vb vt vc vy gb gt gc gy m) (k:ak G w w') (v:∀x∈G,x∈L/\x≠b/\x∉E) {gb' gt' gc' gy':Option Nat} 
  (i:∀x∈gb'.toList,x∈gb.toList\/w.heap.size<=x/\x∉gt'.toList/\x∉gc'.toList/\x∉gy'.toList) (l:∀x∈gt'.toList,x∈gt.toList\/w.heap.size<=x/\x∉gb'.toList/\x∉gc'.toList/\x∉gy'.toList)
  (p:∀x∈gc'.toList,x∈gc.toList\/w.heap.size<=x/\x∉gb'.toList/\x∉gt'.toList/\x∉gy'.toList) (r:∀x∈gy'.toList,x∈gy.toList\/w.heap.size<=x/\x∉gb'.toList/\x∉gt'.toList/\x∉gc'.toList):
  Fr L w (E++b::(gb'.toList++(gt'.toList++(gc'.toList++gy'.toList)))) w'/\(E++b::(gb'.toList++(gt'.toList++(gc'.toList++gy'.toList)))).Nodup:=by
 obtain⟨s,t,u,n,j,g⟩:=h.apart;have q:∀x,x∈E\/x=b->x<w.heap.size:=λx c=>h.cT x<|h.mem.2 (by rcases c with c|c<;>simp[c]);have f:∀x,w.heap.size<=x->x∉E/\x≠b:=λx c=>⟨λy=>by have:=q x<|.inl y;omega,λe=>by have:=q x<|.inr e;omega⟩;refine⟨⟨k.mono λx c=>(v x c).1,λx c=>?_⟩,ajA s t (λx c=>?_) (λx c=>?_) (λx c=>?_) λx c=>?_⟩
 .rw[As] at c;rcases c with c|c|c|c|c|c
  .exact .inl (h.mem.2<|.inl c)
  .exact .inl<|h.mem.2 (.inr<|.inl c)
  .rcases i x c with a|a
   .exact .inl (h.mem.2<|by simp[a])
   .exact .inr a.1
  .rcases l x c with a|a
   .exact .inl (h.mem.2<|by simp[a])
   .exact .inr a.1
  .rcases p x c with a|a
   .exact .inl (h.mem.2<|by simp[a])
   .exact .inr a.1
  .rcases r x c with a|a
   .exact .inl (h.mem.2<|by simp[a])
   .exact .inr a.1
 .rcases i x c with a|a
  .exact u x a
  .exact f x a.1
 .rcases l x c with a|a
  .refine⟨(n x a).1,(n x a).2.1,λhb=>?_⟩;rcases i x hb with d|d
   .exact(n x a).2.2 d
   .exact d.2.1 c
  .exact⟨(f x a.1).1,(f x a.1).2,a.2.1⟩
 .rcases p x c with a|a
  .refine⟨(j x a).1,(j x a).2.1,λhb=>?_,λhb=>?_⟩
   .rcases i x hb with d|d
    .exact(j x a).2.2.1 d
    .exact d.2.2.1 c
   .rcases l x hb with d|d
    .exact(j x a).2.2.2 d
    .exact d.2.2.1 c
  .exact⟨(f x a.1).1,(f x a.1).2,a.2.1,a.2.2.1⟩
 .rcases r x c with a|a
  .refine⟨(g x a).1,(g x a).2.1,λhb=>?_,λhb=>?_,λhb=>?_⟩
   .rcases i x hb with d|d
    .exact(g x a).2.2.1 d
    .exact d.2.2.2 c
   .rcases l x hb with d|d
    .exact(g x a).2.2.2.1 d
    .exact d.2.2.2 c
   .rcases p x hb with d|d
    .exact(g x a).2.2.2.2 d
    .exact d.2.2.2 c
  .exact⟨(f x a.1).1,(f x a.1).2,a.2.1,a.2.2.1,a.2.2.2⟩
def iA.Mf (h:iA τ E L w b o vb vt vc vy gb gt gc gy m) {x:Nat} (a:x∈gb.toList\/x∈gt.toList\/x∈gc.toList\/x∈gy.toList):x<w.heap.size:=h.cT x (h.mem.2<|by simp only[a,or_true])
theorem dk.lt {w:World} {T:TypeId} (h:dk w T v g xs):∀x∈g.toList,x<w.heap.size:=λx a=>jT.lt h x<|by simpa using a
def iA.Qe (h:iA τ E L w b o vb vt vc vy gb gt gc gy m) {l:List aj} (c:dk w' τ.S v g l) (k:ak gy.toList w w') (p:∀x,g=some x->gy=some x\/w.heap.size<=x):
  ∃L',iA τ E L' w' b o vb vt vc v gb gt gc g {m with types:=l}/\Fr L w L' w':=by
 obtain⟨_,_,_,_,_,e⟩:=h.apart;have q:∀x∈g.toList,x∈gy.toList\/w.heap.size<=x/\x∉gb.toList/\x∉gt.toList/\x∉gc.toList:=λx a=>by
  rcases p x (by simpa using a) with d|d
  .exact .inl<|by simp[d]
  .refine .inr ⟨d,λj=>?_,λj=>?_,λj=>?_⟩<;>have:=h.Mf (x:=x) (by simp[j])<;>omega
 obtain⟨i,n⟩:=h.swap k (λx a=>⟨h.mem.2<|by simp[a],(e x a).2.1,(e x a).1⟩) (gb':=gb) (gt':=gt) (gc':=gc) (gy':=g) (λx a=>.inl a) (λx a=>.inl a) (λx a=>.inl a) q;refine⟨_,⟨h.bl.aG i k λx a c=>(e x c).2.2.1 a,h.ta.aG i k λx a c=>(e x c).2.2.2.1 a,?_,c,rfl,n,?_⟩,i⟩
 .rcases h.co with⟨ho,d⟩|⟨ho,hn,d⟩
  .exact .inl ⟨ho,d.aG k λx a c=>(e x c).2.2.2.2<|by simp[a]⟩
  .exact .inr ⟨ho,hn,d.go i⟩
 .intro x a;rw[As] at a;have f:=k.size;rcases a with a|a|a|a|a|a
  .exact lL (h.cT x (h.mem.2<|by simp[a])) f
  .exact lL (h.cT x (h.mem.2<|by simp[a])) f
  .exact lL (h.cT x (h.mem.2<|by simp[a])) f
  .exact lL (h.cT x (h.mem.2<|by simp[a])) f
  .exact lL (h.cT x (h.mem.2<|by simp[a])) f
  .exact c.lt x a
def iA.Mg (h:iA τ E L w b o vb vt vc vy gb gt gc gy m) {l:List aj} (c:dk w' τ.S v g l) (k:ak gc.toList w w') (q:∀x,g=some x->gc=some x\/w.heap.size<=x):
  ∃L',iA τ E L' w' b true vb vt v vy gb gt g gy {m with code:=l}/\Fr L w L' w':=by
 obtain⟨_,_,_,_,e,n⟩:=h.apart;have r:∀x∈g.toList,x∈gc.toList\/w.heap.size<=x/\x∉gb.toList/\x∉gt.toList/\x∉gy.toList:=λx a=>by
  rcases q x (by simpa using a) with f|f
  .exact .inl<|by simp[f]
  .refine .inr ⟨f,λj=>?_,λj=>?_,λj=>?_⟩<;>have:=h.Mf (x:=x) (by simp[j])<;>omega
 obtain⟨i,p⟩:=h.swap k (λx a=>⟨h.mem.2<|by simp[a],(e x a).2.1,(e x a).1⟩) (gb':=gb) (gt':=gt) (gc':=g) (gy':=gy) (λx a=>.inl a) (λx a=>.inl a) r λx a=>.inl a;refine⟨_,⟨h.bl.aG i k λx a c=>(e x c).2.2.1 a,h.ta.aG i k λx a c=>(e x c).2.2.2 a,.inl ⟨rfl,c⟩,h.ty.aG k λx a c=>(n x<|by simp[a]).2.2.2.2 c,rfl,p,?_⟩,i⟩;intro x a;rw[As] at a;have d:=k.size;rcases a with a|a|a|a|a|a
 .exact lL (h.cT x (h.mem.2<|by simp[a])) d
 .exact lL (h.cT x (h.mem.2<|by simp[a])) d
 .exact lL (h.cT x (h.mem.2<|by simp[a])) d
 .exact lL (h.cT x (h.mem.2<|by simp[a])) d
 .exact c.lt x a
 .exact lL (h.cT x (h.mem.2<|by simp[a])) d
def ajB (t:Tk) (a:v1.oneCell'=true) (b:v3.oneCell'=true) (c:v4.oneCell'=true) (d:v5.oneCell'=true) (e:v6.oneCell'=true) (f:v8.oneCell'=true):(rJ t v1 v3 v4 v5 v6 v8).all Value.oneCell'=true:=by simp only[rJ,List.all_cons,a,b,c,d,e,f];rfl
def Gv {L:List Nat} {w:World} (h:cw L w v (.sl sz rows)):v.oneCell'=true:=by cases h<;>rfl
def qe.one {t:Tk} (h:qe L w t v1 v3 v4 v5 v6 v8):(rJ t v1 v3 v4 v5 v6 v8).all Value.oneCell'=true:=ajB t (Gv h.regs) (Gv h.self) (Gv h.aP) (Gv h.at_) (Gv h.types)<|Gv h.ag
def iA.aG (h:iA τ E L w b o vb vt vc vy gb gt gc gy m) (k:ak G w w') (l:∀x∈G,x∈b::E):iA τ E L w' b o vb vt vc vy gb gt gc gy m:=by
 obtain⟨_,_,f,g,i,j⟩:=h.apart;have q:∀x∈G,x∈L:=λx a=>h.mem.2 (by rcases mC.1 (l x a) with c|c<;>simp[c]);have e:Fr L w L w':=Fr.of k q;have out:∀x,x∉E->x≠b->x∉G:=λx c n p=>by
  rcases mC.1 (l x p) with d|d
  .exact n d
  .exact c d
 refine⟨h.bl.aG e k λx a=>out x (f x a).1 (f x a).2,h.ta.aG e k λx a=>out x (g x a).1 (g x a).2.1,?_,h.ty.aG k λx a=>out x (j x<|by simp[a]).1 (j x<|by simp[a]).2.1,h.eL,h.nd,λx a=>lL (h.cT x a) k.size⟩;rcases h.co with⟨ho,c⟩|⟨ho,hn,c⟩
 .exact .inl ⟨ho,c.aG k λx a=>out x (i x<|by simp[a]).1 (i x<|by simp[a]).2.1⟩
 .exact .inr ⟨ho,hn,c.go e⟩
def iA.ext (h:iA τ E L w b o vb vt vc vy gb gt gc gy m) (k:ak [] w w'):iA τ E L w' b o vb vt vc vy gb gt gc gy m:=h.aG k sm
theorem iA.drop {x:Nat} (h:iA τ (x::E) L w b o vb vt vc vy gb gt gc gy m):∃L',L=x::L'/\iA τ E L' w b o vb vt vc vy gb gt gc gy m:=by
 have e:∀y,y∈E++b::(gb.toList++(gt.toList++(gc.toList++gy.toList)))->y∈L:=λy a=>by rw[h.eL];simp only[List.cons_append,mC];exact .inr a
 have c:Fr L w (E++b::(gb.toList++(gt.toList++(gc.toList++gy.toList)))) w:=(Fr.refl L w).to λy a=>.inl<|e y a;have d:=h.nd;rw[h.eL,List.cons_append,List.nodup_cons] at d;refine⟨_,h.eL,⟨h.bl.aG c (ak.refl [] w) sm,h.ta.aG c (ak.refl [] w) sm,?_,h.ty,rfl,d.2,λy a=>h.cT y<|e y a⟩⟩;rcases h.co with⟨ho,h1⟩|⟨ho,hn,h1⟩
 .exact .inl ⟨ho,h1⟩
 .exact .inr ⟨ho,hn,h1.go c⟩
def mkV (m:Mk) (a b vc c:Value):List Value:=[a,b,.int .i64 (m.count:Int),.bool m.wide,vc,c]
def er (a:vq) (E L:List Nat) (w:World) (b:Nat) (o:Bool) (m:Mk):Prop:=∃vb vt vc vy gb gt gc gy,aL w b (mkV m vb vt vc vy).toArray a.M/\iA a E L w b o vb vt vc vy gb gt gc gy m
def er.ext (h:er τ E L w b o m) (k:ak [] w w'):er τ E L w' b o m:=by obtain⟨vb,vt,vc,vy,gb,gt,gc,gy,a,c⟩:=h;exact⟨vb,vt,vc,vy,gb,gt,gc,gy,a.aG k sm,c.ext k⟩
def er.aG (h:er τ E L w b o m) (k:ak G w w') (d:∀x∈G,x∈E):er τ E L w' b o m:=by obtain⟨vb,vt,vc,vy,gb,gt,gc,gy,e,c⟩:=h;exact⟨vb,vt,vc,vy,gb,gt,gc,gy,e.aG k λa=>c.apart.2.1<|d b a,c.aG k λx a=>mK _<|d x a⟩
theorem er.drop {x:Nat} (h:er τ (x::E) L w b o m):∃L',L=x::L'/\er τ E L' w b o m:=by obtain⟨vb,vt,vc,vy,gb,gt,gc,gy,a,c⟩:=h;obtain⟨L',e,d⟩:=c.drop;exact⟨L',e,vb,vt,vc,vy,gb,gt,gc,gy,a,d⟩
theorem er.mem (h:er τ E L w b o m):(∀x∈b::E,x∈L)/\E.Nodup/\b∉E/\∀x∈L,x<w.heap.size:=by obtain⟨vb,vt,vc,vy,gb,gt,gc,gy,_,a⟩:=h;obtain⟨c,d,_⟩:=a.apart;exact⟨λx e=>a.mem.2 (by rcases mC.1 e with h|h<;>simp[h]),c,d,a.cT⟩
end
end Go.Proofs.YtjkkipfboijfaaaGreatDoor
