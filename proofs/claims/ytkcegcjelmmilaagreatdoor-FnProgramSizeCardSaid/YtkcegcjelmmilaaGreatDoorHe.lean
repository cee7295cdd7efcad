/- Lemmas for the law FnProgramSize, no statement of their own: no conditions. -/
import Derived.Test.YtkcegcjelmmilaaGreatDoorHd
import Derived.Lib.OthersKept
namespace Go.Proofs.YtkcegcjelmmilaaGreatDoor
open Go
set_option maxHeartbeats 4000000
variable {e f:Ex} {B b bytes c g h i k n off q sz x:Nat} {s:cD} {E G L L1:List Nat} {w w' w0 w1 w2:World} {o:Bool} {m:Mk} {t:Tk} {vs xs:List Value} {P0:ai} {u v z:Value} {P:Pk} {rows:List (List C)} {bs:List Bk} {ps:List dy}
theorem aiw (o:Option Ty):U5 o=eE o:=by cases o<;>rfl
theorem VV {o:Option Ty} (h:eE o=[]):o=none:=by
 cases o with
 |none=>rfl
 |some T=>exact absurd h T.ne
theorem VW {o:Option Ty} (h:eE o≠[]):∃T,o=some T:=by
 cases o with
 |none=>exact absurd rfl h
 |some T=>exact⟨T,rfl⟩
def rm (e:Ex) (Γ:Sc):List ai:=e.kids.map λx=>eE (bw x Γ)
theorem aix {Γ:Sc} (ba:e.ok) (eJ:e.iv=false) (h1:e.head≠fV) (h2:e.head≠gF) (hΓ:xU Γ):
  ([]∈rm e Γ∧bw e Γ=none)∨∃Ts,rm e Γ=Ts.map Ty.text∧mc e.head Ts∧bw e Γ=kB e.head Ts∧∀T,T∈Ts->T.n<=16:=by
 cases e with
 |«at» s=>cases eJ
 |lt x a b=>exact absurd rfl h1
 |fn f x A B b=>exact absurd rfl h2
 |un h a=>
  show([]∈[eE (bw a Γ)]∧(bw a Γ).bind _=none)∨_
  cases ha:bw a Γ with
  |none=>exact .inl ⟨by simp[eE],rfl⟩
  |some A=>exact .inr ⟨[A],by simp[rm,Ex.kids,ha,eE],.inl ⟨ba.1,A,rfl⟩,by simp[bw,ha,Ex.head],by simpa using lv hΓ ha⟩
 |bi h a b=>
  show([]∈[eE (bw a Γ),eE (bw b Γ)]∧(bw a Γ).bind _=none)∨_
  cases ha:bw a Γ with
  |none=>exact .inl ⟨by simp[eE],rfl⟩
  |some A=>
   cases hb:bw b Γ with
   |none=>exact .inl ⟨by simp[eE],rfl⟩
   |some B=>exact .inr ⟨[A,B],by simp[rm,Ex.kids,ha,hb,eE],.inr (.inl ⟨ba.1,A,B,rfl⟩),by simp[bw,ha,hb,Ex.head],by intro T hT;simp at hT;rcases hT with rfl|rfl;exact lv hΓ ha;exact lv hΓ hb⟩
 |ite a b c=>
  show([]∈[eE (bw a Γ),eE (bw b Γ),eE (bw c Γ)]∧(bw a Γ).bind _=none)∨_
  cases ha:bw a Γ with
  |none=>exact .inl ⟨by simp[eE],rfl⟩
  |some A=>
   cases hb:bw b Γ with
   |none=>exact .inl ⟨by simp[eE],rfl⟩
   |some B=>
    cases hc:bw c Γ with
    |none=>exact .inl ⟨by simp[eE],rfl⟩
    |some C0=>exact .inr ⟨[A,B,C0],by simp[rm,Ex.kids,ha,hb,hc,eE],.inr (.inr ⟨rfl,A,B,C0,rfl⟩),by simp[bw,ha,hb,hc,Ex.head],by intro T hT;simp at hT;rcases hT with rfl|rfl|rfl;exact lv hΓ ha;exact lv hΓ hb;exact lv hΓ hc⟩
theorem VX {f x:ai} {A B:Ty} {Γ:Sc}:eE (bw (.fn f x A B e) Γ)=if(!decide (1+A.n+B.n<=16)||decide (eE (bw e (Γ++[(f,.op true A B),(x,A)]))≠B.text))=true then[] else(Ty.op true A B).text:=by
 show eE (if 1+A.n+B.n<=16 then(bw e (Γ++[(f,.op true A B),(x,A)])).bind λC=>if kA C B then some (.op true A B) else none else none)=_
 by_cases h:1+A.n+B.n<=16
 ·rw[iP h,dT h,Bool.not_true,Bool.false_or]
  cases hC:bw e (Γ++[(f,.op true A B),(x,A)]) with
  |none=>
   have hz:decide (eE none≠B.text)=true:=by simpa[eE] using λh:[]=B.text=>B.ne h.symm
   rw[iP hz];rfl
  |some C0=>
   show eE (if kA C0 B=true then some (.op true A B) else none)=_
   by_cases hq:C0.text=B.text
   ·rw[iP (show kA C0 B=true from dT hq),iN (by simp[eE,hq])];rfl
   ·rw[iN (show¬kA C0 B=true from by unfold kA;simpa using hq),iP (by simp[eE,hq])];rfl
 ·rw[iN h,dF h,iP sm];rfl
theorem aiy (e:Ex) (Γ:Sc):(rm e Γ).length<=3:=by
 rw[rm,List.length_map]
 cases e<;>simp[Ex.kids]
theorem aiz {Γ:Sc} (ba:e.ok) (eJ:e.iv=false) (h1:e.head≠fV) (h2:e.head≠gF) (hΓ:xU Γ) (v:Value) (L:List Nat) (w:World) (hv:bc L w v (rm e Γ)):
  bz Tryz.prog 124 [str e.head,v] w λr w'=>r=str (eE (bw e Γ))∧aj [] w w':=by
 rcases aix ba eJ h1 h2 hΓ with⟨hn,hq⟩|⟨Ts,hk,hj,hq,hT⟩
 ·rw[hq];exact aid e.head (rm e Γ) (by have:=aiy e Γ;omega) hn v L w hv
 ·rw[hq];exact air e.head Ts hj hT v L w (hk▸hv)
theorem aiA {Γ:Sc} (h:k<e.kids.length):(rm e Γ).take (k+1)=(rm e Γ).take k++[eE (bw (fL e k) Γ)]:=by
 rw[List.take_add_one]
 simp[rm,fL,gE h]
theorem VY:∀(m:Nat) (e:Ex),e.n<=m->e.n<=1000->e.ok->∀(Γ:Sc),Γ.length+2*e.n<=100000->xU Γ->∀(v vn vt:Value) (L:List Nat) (w:World),(∀x,x∈L->x<w.heap.size)->bB L w v e.au->bc L w vn (Γ.map Prod.fst)->bc L w vt (Γ.map λp=>p.2.text)->
  bz Tryz.prog 81 [v,vn,vt] w λr w'=>r=str (eE (bw e Γ))∧aj [] w w':=by
 intro m
 induction m with
 |zero=>intro e h;have:=e.pos;omega
 |succ m ih=>
  intro e hm lD ba Γ hΓl hΓ v vn vt L w lh hv jK dZ
  obtain⟨a,np,c,rfl,hn,aP⟩:=cU hv
  subst hn
  obtain⟨an,nn,cn,rfl,rP⟩:=dJ jK
  obtain⟨ay,ny,Hr,rfl,Jq⟩:=dJ dZ
  have hK:=aj.refl [] w
  have fl:(Γ.map Prod.fst).length=Γ.length:=by simp
  have iy:(Γ.map λp=>p.2.text).length=Γ.length:=by simp
  have JG:=GV e
  refine bS [.tmp 6] 132 Tryz.func81 rfl aba rfl rfl ?_
  refine zr<|eH rfl λw1 aI cQ dk=>ie aI hK aP jK dZ λhK aP jK dZ=>?_
  refine W ?_
  refine zc rfl (λh1=>?_) (λh1=>?_)
  have aQ:∃x,e= .at x:=(by have ha:=(vD ba).1 h1;cases e<;>first|exact⟨_,rfl⟩|cases ha)
  obtain⟨x,rfl⟩:=aQ
  refine W ?_
  refine aA (vA _ _) ?_
  rintro _ _ ⟨rfl,rfl⟩
  refine aZ<|zc rfl (λh2=>?_) (λh2=>?_)
  have hq:bw (.at x) Γ=look Γ x:=iP h2
  refine W ?_
  refine aA (GS (Γ.map Prod.fst) (Γ.map λp=>p.2.text) om om x _ _ _ _ w1 jK dZ) ?_
  rintro _ w2 ⟨rfl,az⟩
  have dm:=az.size
  have hK:=hK.ext az
  refine W ?_
  have yy:=U6 x Γ
  rw[<-fl] at yy
  exact⟨_,rfl,congrArg (λz=>str z) (by rw[hq,<-aiw];exact yy),hK⟩
  have hq:bw (.at x) Γ=some .i:=iN (λhh=>Bool.noConfusion (hh.symm.trans h2))
  refine W ?_
  exact⟨_,rfl,by rw[hq];rfl,hK⟩
  have eJ:e.iv=false:=(by cases hh:e.iv;rfl;exact absurd ((vD ba).2 hh) h1)
  obtain⟨GW,nZ,jd,qz⟩:=Ex.ak eJ
  obtain⟨jn,Ew,Ey⟩:=GU ba eJ
  obtain⟨b0,vj,x6,ya,e0,uh,jV⟩:=eW aP jn
  cases e0
  have uh:=uh.cells
  refine WI ?_
  refine zi (i:=0) cz aL rfl rfl jn<|W ?_
  refine zc rfl (λh3=>?_) (λh3=>?_)
  obtain⟨nx,ea,eb,rfl⟩:=JM ba (jd.symm.trans h3)
  have xe:(Ex.lt nx ea eb).n=2+ea.n+eb.n:=rfl
  have JQ:(Ex.lt nx ea eb).au.ak.length=4:=rfl
  obtain⟨b1,eX,gA,gm,e1,bK,cI⟩:=eW aP (i:=1) om
  cases e1
  obtain⟨b2,lF,iA,iw,e2,bU,dI⟩:=eW aP (i:=2) om
  cases e2
  have dI:bB L _ _ ea.au:=dI
  obtain⟨b3,A3,pR,pS,e3,dO,dY⟩:=eW aP (i:=3) om
  cases e3
  have dY:bB L _ _ eb.au:=dY
  refine WI ?_
  refine zi (i:=2) cz aL rfl rfl ((show 2<4 from om))<|W ?_
  refine aA (ih ea om om ba.2.1 Γ om hΓ _ _ _ L w1 (λx hx=>lL (lh x hx) hK.size) dI jK dZ) ?_
  rintro _ w2 ⟨rfl,az⟩
  have dm:=az.size
  refine I3 az hK jK dZ cQ bK dO dY λhK jK dZ cQ bK dO dY=>?_
  refine W ?_
  refine zc rfl (λh4=>?_) (λh4=>?_)
  have hz:bw ea Γ=none:=VV h4
  have hq:bw (.lt nx ea eb) Γ=none:=(show(bw ea Γ).bind _=none from by rw[hz];rfl)
  refine W ?_
  exact⟨_,rfl,by rw[hq];rfl,hK⟩
  obtain⟨A,hA⟩:=VW h4
  have hq:bw (.lt nx ea eb) Γ=bw eb (Γ++[(nx,A)]):=(show(bw ea Γ).bind _=_ from by rw[hA];rfl)
  have hGA:=F5 (x:=nx) hΓ (lv hΓ hA)
  have hAt:eE (bw ea Γ)=A.text:=by rw[hA];rfl
  refine WZ ?_
  apply uZ dj 18 (rA 41 17++[6]) (rA 41 17++[6]) [[],[0],[1],[2],[],[],[5],[6],[7],[8],[9],[4,10],[],[],[13],[12,14],[3,11,15],[16]] [It.v _,It.v _,It.v _,It.v _,It.v _,It.v _,It.v _,It.v _,It.v _,It.v _,It.p (fun(v:Value) (ww:World)=>bc L ww v [nx]),It.p (fun(v:Value) (ww:World)=>bc L ww v (Γ.map Prod.fst++[nx])),It.v _,It.v _,It.p (fun(v:Value) (ww:World)=>bc L ww v [eE (bw ea Γ)]),It.p (fun(v:Value) (ww:World)=>bc L ww v ((Γ.map λp=>p.2.text)++[eE (bw ea Γ)])),It.v _,It.v _] de (by exact⟨λv w w' h k=>bc.ext h k,λv w w' h k=>bc.ext h k,λv w w' h k=>bc.ext h k,λv w w' h k=>bc.ext h k,trivial⟩)
  intro wd aC
  refine VA ?_
  refine vk aC (λx w3 aH=>?_) ?_
  refine zi (i:=3) cz aL rfl rfl ((show 3<4 from om)) ?_
  exact pv
  refine VA ?_
  refine vk aC (λx w3 aH=>?_) ?_
  refine zi (i:=1) cz aL rfl rfl ((show 1<4 from om)) ?_
  exact pv
  refine VA ?_
  refine vk aC (λx w3 aH=>?_) ?_
  have hK:=hK.ext aH
  refine fc bh bf rfl rfl ?_
  intro w4 aO Om gQ
  have hK:=hK.ext aO
  exact pf aO ((aJ.dK [nx] Om (λhx=>by have:=lh _ hx;have:=hK.size;have:=aH.size;omega)))
  refine vk aC (λx w3 aH=>?_) ?_
  refine bI aH hK jK λhK jK=>?_
  intro v10 d10
  refine aA (ua (Γ.map Prod.fst) [nx] so _ _ L w3 jK d10 (λx hx=>lL (lh x hx) hK.size)) ?_
  rintro v4 w4 ⟨jR,aO⟩
  have fE:=aO.size
  have jA:=jR
  exact pf aO jA
  refine VA ?_
  refine vk aC (λx w3 aH=>?_) ?_
  have hK:=hK.ext aH
  refine fc bh bf rfl rfl λw4 aO CD gQ=>?_
  have hK:=hK.ext aO
  exact pf aO ((aJ.dK [eE (bw ea Γ)] CD (λhx=>by have:=lh _ hx;have:=hK.size;have:=aH.size;omega)))
  refine vk aC (λx w3 aH=>?_) ?_
  refine bI aH hK dZ λhK dZ=>?_
  intro l9 d14
  refine aA (ua (Γ.map λp=>p.2.text) [eE (bw ea Γ)] so (.slice ay ny Hr) _ L w3 dZ d14 (λx hx=>lL (lh x hx) hK.size)) ?_
  rintro v4 w4 ⟨jR,aO⟩
  have fE:=aO.size
  have jA:=jR
  exact pf aO jA
  refine vk aC (λx w3 aH=>?_) ?_
  refine bI aH hK dY λhK dY=>?_
  intro v11 d11
  intro A7 d15
  refine aA (ih eb om om ba.2.2 (Γ++[(nx,A)]) so hGA _ _ _ L w3 (λx hx=>lL (lh x hx) hK.size) dY (show bc L _ _ ((Γ++_).map _) from by rw[List.map_append];exact d11) (show bc L _ _ ((Γ++[(nx,A)]).map _) from by rw[List.map_append,List.map_singleton,<-hAt];exact d15)) ?_
  rintro _ w4 ⟨rfl,aO⟩
  have fE:=aO.size
  exact pk aO
  exact VZ
  intro x qw Cl
  intro v10 d10
  intro v11 d11
  intro l9 d14
  intro A7 d15
  have hK:=hK.ext Cl
  change OW _ _ _ _ [] (bo (bj _ x _) (zZ 41 [_,_,_,_,_,_,_,_,_,_,_,_,_,_,_,_,_]++[(6,_)])) _
  refine W ?_
  exact⟨_,rfl,congrArg (λz=>str (eE z)) hq.symm,hK⟩
  have oF:e.head≠fV:=λhh=>h3 (jd.trans hh)
  refine W ?_
  refine zc rfl (λh5=>?_) (λh5=>?_)
  obtain⟨nf,nx,tA,tB,eb,rfl⟩:=JN ba (jd.symm.trans h5)
  have xe:(Ex.fn nf nx tA tB eb).n=3+tA.n+tB.n+eb.n:=rfl
  have JV:(Ex.fn nf nx tA tB eb).au.ak.length=6:=rfl
  obtain⟨b1,eX,gA,gm,e1,bK,cI⟩:=eW aP (i:=1) om
  cases e1
  obtain⟨b2,lF,iA,iw,e2,bU,dI⟩:=eW aP (i:=2) om
  cases e2
  obtain⟨b3,A3,pR,pS,e3,dO,dY⟩:=eW aP (i:=3) om
  cases e3
  have dY:bB L _ _ tA.au:=dY
  obtain⟨b4,aiD,Nv,Nw,e4,jx,pT⟩:=eW aP (i:=4) om
  cases e4
  have pT:bB L _ _ tB.au:=pT
  obtain⟨b5,aiE,ET,EU,e5,j9,mP⟩:=eW aP (i:=5) om
  cases e5
  have mP:bB L _ _ eb.au:=mP
  have hAz:=tA.size
  have hBz:=tB.size
  have Ns:=tA.len
  have Nt:=tB.len
  refine WI ?_
  refine zi (i:=3) cz aL rfl rfl ((show 3<6 from om))<|W ?_
  refine aA (tW tA.au.size tA.au (lR _) tA.lu.wf om (show tA.text.length<=100000000 from om) _ _ w1 dY) ?_
  rintro _ w2 ⟨rfl,az⟩
  have dm:=az.size
  refine aeg az hK jK dZ cQ bK bU jx j9 pT λhK jK dZ cQ bK bU jx j9 pT=>?_
  have mP:=mP.ext az
  refine WI ?_
  refine zi (i:=4) cz aL rfl rfl ((show 4<6 from om))<|W ?_
  refine aA (tW tB.au.size tB.au (lR _) tB.lu.wf om (show tB.text.length<=100000000 from om) _ _ w2 pT) ?_
  rintro _ w3 ⟨rfl,aH⟩
  have fm:=aH.size
  refine Cd aH hK jK dZ cQ bK bU j9 mP λhK jK dZ cQ bK bU j9 mP=>?_
  refine W ?_
  refine aA (UR true tA tB ba.2.2.2.1 ba.2.2.2.2.1 w3) ?_
  rintro _ w4 ⟨rfl,aO⟩
  have fE:=aO.size
  refine Cd aO hK jK dZ cQ bK bU j9 mP λhK jK dZ cQ bK bU j9 mP=>?_
  have V0:∀x,x∈L->x<w4.heap.size:=(λx hx=>lL (lh x hx) hK.size)
  refine W ?_
  refine ix (λ_:Unit=>[(10,str (if 1+tA.n+tB.n<=16 then(Ty.op true tA tB).text else[])),(104,.bool (!decide (1+tA.n+tB.n<=16)||decide (eE (bw eb (Γ++[(nf,.op true tA tB),(nx,tA)]))≠tB.text)))]) (λ_ w'=>aj [] w w'∧aj [] w4 w') ?_ ?_
  rcases Classical.em (1+tA.n+tB.n<=16) with kO|kO
  apply uZ dj 29 (rA 76 29) (rA 76 29) [[],[0],[1],[2],[2,3],[2,4],[2,5],[2],[2],[2,8],[2,9],[2,10],[2,11],[2],[2,13],[2,14],[2,15],[2,16],[2,12,17],[2,7,18],[2],[2],[2],[2,21,22],[2,20,23],[2,6,19,24],[2],[2,25,26],[2,27]] [It.v _,It.v _,It.v (.bool false),It.v _,It.v _,It.v _,It.v _,It.v _,It.v _,It.v _,It.v _,It.v _,It.v _,It.v _,It.v _,It.v _,It.v _,It.v _,It.p (fun(v:Value) (ww:World)=>bc L ww v [nf,nx]),It.p (fun(v:Value) (ww:World)=>bc L ww v (Γ.map Prod.fst++[nf,nx])),It.v _,It.v _,It.v _,It.p (fun(v:Value) (ww:World)=>bc L ww v [(if 1+tA.n+tB.n<=16 then(Ty.op true tA tB).text else[]),tA.text]),It.p (fun(v:Value) (ww:World)=>bc L ww v ((Γ.map λp=>p.2.text)++[(if 1+tA.n+tB.n<=16 then(Ty.op true tA tB).text else[]),tA.text])),It.v _,It.v _,It.v _,It.v _] de (by exact⟨λv w w' h k=>bc.ext h k,λv w w' h k=>bc.ext h k,λv w w' h k=>bc.ext h k,λv w w' h k=>bc.ext h k,trivial⟩)
  intro wd aC
  refine VA ?_
  refine vc (λx w5 aN=>?_) ?_
  refine WZ ?_
  exact pv (by exact congrArg Value.bool (show(!decide (1+tA.n+tB.n<=16))=false from by rw[dT kO];rfl))
  refine VA ?_
  refine vk aC (λx w5 aN=>?_) ?_
  refine zi (i:=5) cz aL rfl rfl ((show 5<6 from om)) ?_
  exact pv
  refine VA ?_
  refine vk aC (λx w5 aN=>?_) ?_
  refine zi (i:=1) cz aL rfl rfl ((show 1<6 from om)) ?_
  exact pv
  refine VA ?_
  refine vk aC (λx w5 aN=>?_) ?_
  refine zi (i:=2) cz aL rfl rfl ((show 2<6 from om)) ?_
  exact pv
  refine VA ?_
  refine vk aC (λx w5 aN=>?_) ?_
  refine kL bh bf rfl rfl rfl rfl ?_
  intro w6 bN aiF kI
  exact pf bN ((aJ.dK [nf,nx] aiF (λhx=>by have:=V0 _ hx;have:=aN.size;omega)))
  refine vk aC (λx w5 aN=>?_) ?_
  refine bI aN hK jK λhK jK=>?_
  intro xo d18
  refine aA (ua (Γ.map Prod.fst) [nf,nx] so (.slice an nn cn) _ L w5 jK d18 (λx hx=>lL (lh x hx) hK.size)) ?_
  rintro v6 w6 ⟨Cn,bN⟩
  have od:=bN.size
  have jA:=Cn
  exact pf bN jA
  refine VA ?_
  refine vk aC (λx w5 aN=>?_) ?_
  refine kL bh bf rfl rfl rfl rfl λw6 bN Oo kI=>?_
  exact pf bN ((aJ.dK [(if 1+tA.n+tB.n<=16 then(Ty.op true tA tB).text else[]),tA.text] Oo (λhx=>by have:=V0 _ hx;have:=aN.size;omega)))
  refine vk aC (λx w5 aN=>?_) ?_
  refine bI aN hK dZ λhK dZ=>?_
  intro VD d23
  refine aA (ua (Γ.map λp=>p.2.text) [(if 1+tA.n+tB.n<=16 then(Ty.op true tA tB).text else[]),tA.text] so (.slice ay ny Hr) _ L w5 dZ d23 (λx hx=>lL (lh x hx) hK.size)) ?_
  rintro v6 w6 ⟨Cn,bN⟩
  have od:=bN.size
  have jA:=Cn
  exact pf bN jA
  refine vk aC (λx w5 aN=>?_) ?_
  refine bI aN hK mP λhK mP=>?_
  intro Kh d19
  intro v24 d24
  refine aA (ih eb om om ba.2.2.2.2.2 (Γ++[(nf,.op true tA tB),(nx,tA)]) so (by have:=F5 (x:=nx) (F5 (x:=nf) hΓ (T:=.op true tA tB) (show 1+tA.n+tB.n<=16 from kO)) ba.2.2.2.1;simpa using this) _ _ _ L w5 (λx hx=>lL (lh x hx) hK.size) mP (show bc L _ _ (List.map _ (Γ++[(nf,.op true tA tB),(nx,tA)])) from by rw[List.map_append];exact d19) (show bc L _ _ (List.map _ (Γ++[(nf,.op true tA tB),(nx,tA)])) from by rw[iP kO] at d24;rw[List.map_append];exact d24)) ?_
  rintro _ w6 ⟨rfl,bN⟩
  have od:=bN.size
  exact pk bN
  refine vc (λ_ _ _=>WZ pv) ?_
  refine vk aC (λx w5 aN=>?_) ?_
  refine WZ ?_
  exact pv
  refine vc (λ_ _ _=>WZ pv) ?_
  exact trivial
  intro x o4 iX
  intro xo d18
  intro Kh d19
  intro VD d23
  intro v24 d24
  have hK:=hK.ext iX
  change OW _ _ _ _ [] (bo (bj _ x _) (zZ 76 [_,_,_,_,_,_,_,_,_,_,_,_,_,_,_,_,_,_,_,_,_,_,_,_,_,_,_,_,_])) _
  refine W ?_
  exact⟨(),⟨rfl,congrArg Value.bool (show decide (eE (bw eb (Γ++[(nf,.op true tA tB),(nx,tA)]))≠tB.text)=_ from by rw[dT kO];rfl)⟩,hK,iX⟩
  apply k8 dj 29 (rA 76 29) (rA 76 29) [[],[0],[1],[2],[2,3],[2,4],[2,5],[2],[2],[2,8],[2,9],[2,10],[2,11],[2],[2,13],[2,14],[2,15],[2,16],[2,12,17],[2,7,18],[2],[2],[2],[2,21,22],[2,20,23],[2,6,19,24],[2],[2,25,26],[2,27]] [It.v _,It.v _,It.v (.bool true),It.v _,It.v _,It.v _,It.v _,It.v _,It.v _,It.v _,It.v _,It.v _,It.v _,It.v _,It.v _,It.v _,It.v _,It.v _,It.v _,It.v _,It.v _,It.v _,It.v _,It.v _,It.v _,It.v _,It.v _,It.v _,It.v _] de rfl
  intro wd aC
  refine VA ?_
  refine vc (λx w5 aN=>?_) ?_
  refine WZ ?_
  exact pv (by exact congrArg Value.bool (show(!decide (1+tA.n+tB.n<=16))=true from by rw[dF kO];rfl))
  refine vc (λx w5 aN=>?_) ?_
  exact cF pv
  refine vk aC (λx w5 aN=>?_) ?_
  exact cF pv
  refine vk aC (λx w5 aN=>?_) ?_
  exact cF pv
  refine vk aC (λx w5 aN=>?_) ?_
  exact cF pv
  refine vc (λx w5 aN=>?_) ?_
  exact cF pv
  refine vc (λx w5 aN=>?_) ?_
  exact cF pv
  refine vk aC (λx w5 aN=>?_) ?_
  exact cF pv
  refine vk aC (λx w5 aN=>?_) ?_
  exact cF pv
  refine vc (λx w5 aN=>?_) ?_
  exact cF pv
  refine vk aC (λx w5 aN=>?_) ?_
  exact cF pv
  refine vc (λx w5 aN=>?_) ?_
  exact cF pv
  refine vk aC (λx w5 aN=>?_) ?_
  exact cF pv
  refine vk aC (λx w5 aN=>?_) ?_
  exact cF pv
  refine vc (λx w5 aN=>?_) ?_
  exact cF pv
  refine vk aC (λx w5 aN=>?_) ?_
  exact cF pv
  refine vk aC (λx w5 aN=>?_) ?_
  exact cF pv
  refine vk aC (λx w5 aN=>?_) ?_
  exact cF pv
  refine vc (λx w5 aN=>?_) ?_
  exact cF pv
  refine vc (λx w5 aN=>?_) ?_
  exact cF pv
  refine vc (λx w5 aN=>?_) ?_
  exact cF pv
  refine vk aC (λx w5 aN=>?_) ?_
  exact cF pv
  refine vk aC (λx w5 aN=>?_) ?_
  exact cF pv
  refine vk aC (λx w5 aN=>?_) ?_
  exact cF pv
  refine vc (λx w5 aN=>?_) ?_
  exact cF pv
  refine vk aC (λx w5 aN=>?_) ?_
  exact cF pv
  refine vc (λ_ _ _=>WZ pv) ?_
  exact trivial
  intro x o4 iX
  have hK:=hK.ext iX
  change OW _ _ _ _ [] (bo (bj _ x _) (zZ 76 [_,_,_,_,_,_,_,_,_,_,_,_,_,_,_,_,_,_,_,_,_,_,_,_,_,_,_,_,_])) _
  refine W ?_
  exact⟨(),⟨rfl,congrArg Value.bool (show true=_ from by rw[dF kO];rfl)⟩,hK,iX⟩
  intro gu qu e45 hI
  obtain⟨hK,aB⟩:=hI
  refine zc rfl (λh6=>?_) (λh6=>?_)
  have hq:=(VX (f:=nf) (x:=nx) (A:=tA) (B:=tB) (e:=eb) (Γ:=Γ)).trans (iP h6)
  refine W ?_
  exact⟨_,rfl,congrArg (λz=>str z) hq.symm,hK⟩
  have hq:=(VX (f:=nf) (x:=nx) (A:=tA) (B:=tB) (e:=eb) (Γ:=Γ)).trans (iN (by rw[h6];simp))
  have h16:1+tA.n+tB.n<=16:=(by simp at h6;exact h6.1)
  refine W ?_
  exact⟨_,rfl,congrArg (λz=>str z) ((iP h16).trans hq.symm),hK⟩
  have rk:e.head≠gF:=λhh=>h5 (jd.trans hh)
  have N6:=cQ
  have mG:=hK
  have aiH:=aP
  have aiI:=jK
  have aiJ:=dZ
  have aiK:=uh
  have hky:(rm e Γ).length=e.kids.length:=by simp[rm]
  refine gY<|zr<|fR bh bf λw2 az aiM dC=>tS az hK aP jK dZ cQ uh λhK aP jK dZ cQ uh=>?_
  refine W ?_
  refine eA (λq:Nat×Value×Option Nat=>[(1,.slice an nn cn),(2,.slice ay ny Hr),(3,.pointer (some ⟨w.heap.size,0,none⟩)),(12,q.2.1),(13,.int .i64 ((e.from+q.1:Nat):Int))]) (λq ww=>aj [] w1 ww∧cG ww 9 q.2.1 q.2.2 ((rm e Γ).take q.1)∧(∀x,x∈q.2.2.toList->w1.heap.size<=x)∧q.1<=e.kids.length) (λq=>e.kids.length-q.1) ((0,.slice (some ⟨w1.heap.size,0,none⟩) 0 0,some w1.heap.size)) (⟨rfl,rfl,rfl,rfl,by rw[VL eJ oF rk];rfl⟩) (⟨az,by simpa using aiM.kM,sm,sm⟩) λgg w3 e3 hI=>?_
  obtain⟨k,vl,gl⟩:=gg
  dsimp only at hI⊢
  obtain⟨da,hO,fG,hk⟩:=hI
  have hK:=mG.ext da
  have aP:=aiH.ext da
  have jK:=aiI.ext da
  have dZ:=aiJ.ext da
  have cQ:=N6.ext da
  have uh:=aiK.ext da
  refine W ?_
  refine zc rfl (λh7=>?_) (λh7=>?_)
  have gL:k<e.kids.length:=om
  have qo:=qz k gL
  obtain⟨b1,eX,gA,gm,e1,bK,cI⟩:=eW aP (i:=e.from+k) om
  cases e1
  have cI:=cI.eq qo
  have ub:=F4 ba gL
  have BI:=yw gL
  have hkN:=CC e (k+1)
  have aR:=aiA (Γ:=Γ) gL
  refine W ?_
  refine aA (ih (fL e k) om om ub.1 Γ om hΓ _ (.slice an nn cn) (.slice ay ny Hr) L w3 (λx hx=>lL (lh x hx) hK.size) cI jK dZ) ?_
  rintro _ w4 ⟨rfl,aO⟩
  have fE:=aO.size
  refine cN aO hK hO da λhK hO da=>?_
  refine fc bh bf rfl rfl λw5 aN aiN ig=>cN aN hK hO da λhK hO da=>?_
  refine rW bh bf rfl rfl rfl rfl rfl rfl hO aiN (by rw[List.length_take];omega) λv9 g9 w6 cZ aB eZ=>?_
  rw[<-aR] at cZ
  have AJ:=da.size
  have da:=da.since aB (λx hx=>.inr (fG x hx))
  have hK:=mG.ext da
  have aiO:∀x,x∈g9.toList->w1.heap.size<=x:=(λx hx=>by rcases eZ with h|h;(·exact fG x (h▸hx));(·rw[h] at hx;simp at hx;omega))
  refine W ?_
  exact⟨(k+1,v9,g9),⟨rfl,rfl,rfl,rfl,congrArg (Value.int .i64) om⟩,⟨da,cZ,aiO,om⟩,by simp;omega⟩
  have aiP:k=e.kids.length:=by omega
  subst aiP
  rw[List.take_of_length_le (by rw[hky];exact lR _)] at hO
  refine WI ?_
  refine zi (i:=0) cz aL rfl rfl jn<|W ?_
  refine aA ((jd▸aiz ba eJ oF rk hΓ _ _ w3 hO.rs)) ?_
  rintro _ w4 ⟨rfl,aO⟩
  have fE:=aO.size
  have hK:=hK.ext aO
  refine zA<|aZ<|jZ ?_
  exact⟨_,rfl,rfl,hK⟩
def CZ (s x:ai):Prop:=(l7 s=false->x=[])∧∀e:Ex,bA s=some e.au->e.ok->e.n<=120->x=eE (bw e [])
theorem V2 {s x y:ai} (hx:CZ s x) (hy:CZ s y):x=y:=by
 cases h:l7 s with
 |false=>rw[hx.1 h,hy.1 h]
 |true=>
  obtain⟨e,he,ba,hn⟩:=wY.1 h
  rw[hx.2 e he ba hn,hy.2 e he ba hn]
theorem aiQ (h:cH e [] []≠[]):bw e []=none:=by
 cases ht:bw e [] with
 |none=>rfl
 |some T=>
  exfalso
  cases hf:cH e [] [] with
  |nil=>exact h hf
  |cons y ys=>
   have hy:y∈cH e [] []:=by rw[hf];simp
   rcases(B3 y e [] []).1 hy with h1|⟨h1,_⟩
   ·cases h1
   ·have:=pG ht h1;simp[look] at this
theorem V3 (s:ai) (w:World):bz Tryz.prog 49 [str s] w λr w'=>(∃x,r=str x∧CZ s x)∧aj [] w w':=by
 have hK:=aj.refl [] w
 refine bS [.tmp 2] 21 Tryz.func49 rfl aaD rfl rfl ?_
 refine W ?_
 refine aA (GR s [] w sm) ?_
 rintro v1 w1 ⟨fX,aI⟩
 have cV:=aI.size
 have hK:=hK.ext aI
 obtain⟨t,tv,rfl,ht,hp⟩:=fX
 obtain⟨pa,pn,pc,rfl,eP,aP⟩:=cU ht
 refine W ?_
 refine dx aL rfl rfl rfl λw2 az cQ dC=>?_
 have hK:=hK.grow;have hK:=hK.ext az;have ht:=ht.grow;have ht:=ht.ext az
 refine cJ aL rfl rfl rfl cQ rfl λw3 aH cQ gJ=>?_
 have hK:=hK.aD aH sx;have ht:=ht.aD aH sx
 refine W ?_
 refine xM (t:=12) rfl (λh1=>?_) (λh1=>?_)
 replace h1:=jj h1
 have hx:l7 s=false:=by simpa using h1
 refine W ?_
 refine zc rfl (λh2=>?_) (λh2=>?_)
 refine W ?_
 exact⟨_,rfl,⟨[],rfl,λ_=>rfl,λe h1 h2 h3=>by rw[wY.2 ⟨e,h1,h2,h3⟩] at hx;cases hx⟩,hK⟩
 simp at h2
 replace h1:=jj h1
 have hx:l7 s=true:=by simpa using h1
 obtain⟨e,he,ba,hn⟩:=wY.1 hx
 have e2:=hp.1 _ he
 subst e2
 have ER:∀{e':Ex},bA s=some e'.au->e'.ok->e'=e:=(λh1 h2=>qA h2 ba (Option.some.inj (h1.symm.trans he)))
 refine zm<|aA (agO s w3) ?_
 rintro v4 w4 ⟨jR,aO⟩
 have fE:=aO.size
 refine cN aO hK ht cQ λhK ht cQ=>?_
 obtain⟨b9,rfl,cW⟩:=jR
 refine W ?_
 refine zc rfl (λh3=>?_) (λh3=>?_)
 have jn:b9=false:=(by simpa using h3)
 have ml:cH e [] []≠[]:=(λh=>by have:=cW.2 ⟨e,he,ba,hn,h⟩;rw[jn] at this;cases this)
 refine W ?_
 exact⟨_,rfl,⟨[],rfl,λh=>rfl,λe' h1 h2 h3=>by rw[ER h1 h2,aiQ ml];rfl⟩,hK⟩
 refine W ?_
 refine fR bh bf λw5 aN jW ig=>bI aN hK ht λhK ht=>?_
 refine fR bh bf λw6 bN CY kI=>bI bN hK ht λhK ht=>?_
 refine aA (VY 120 e hn om ba [] so (λs T h=>by simp[look] at h) _ _ _ [] w6 sm (ht.gP sm) (bQ.nil _ _ _) (bQ.nil _ _ _)) ?_
 rintro _ w7 ⟨rfl,bW⟩
 have lf:=bW.size
 have hK:=hK.ext bW
 refine W ?_
 have hcy:CZ s (eE (bw e [])):=⟨(λh=>by rw[hx] at h;cases h),λe' h1 h2 h3=>by rw[ER h1 h2]⟩
 exact⟨_,rfl,⟨_,rfl,hcy⟩,hK⟩
theorem aiS (s:ai) (w:World):bz Tryz.prog 46 [str s] w λr w'=>(∃b,r= .bool b∧∀x,CZ s x->b=decide (x≠[]))∧aj [] w w':=by
 have hK:=aj.refl [] w
 refine bS [.tmp 2] 6 Tryz.func46 rfl aaA rfl rfl ?_
 refine W ?_
 refine aA (V3 s w) ?_
 rintro v1 w1 ⟨fX,aI⟩
 have cV:=aI.size
 have hK:=hK.ext aI
 obtain⟨x,rfl,hx⟩:=fX
 refine W ?_
 exact⟨_,rfl,⟨_,rfl,λy hy=>by rw[V2 hx hy]⟩,hK⟩
theorem Hs (s:ai) (hs:s.length<=1000000) (w:World):bz Tryz.prog 111 [str s] w λr w'=>r=str (dz s)∧aj [] w w':=by
 have hK:=aj.refl [] w
 refine bS [.tmp 2] 6 Tryz.func111 rfl Zj rfl rfl ?_
 refine W ?_
 exact⟨_,rfl,rfl,hK⟩
theorem aiT:∀(m:Nat) (T:Ty),T.n<=m->T.n<=60->∀(v:Value) (L:List Nat) (w:World),bB L w v T.au->bz Tryz.prog 119 [v] w λr w'=>r=str (bu T)∧aj [] w w':=by
 intro m
 induction m with
 |zero=>intro T h;have:=T.pos;omega
 |succ m ih=>
  intro T hm lD v L w hv
  obtain⟨a,np,c,rfl,hn,aP⟩:=cU hv
  subst hn
  have hK:=aj.refl [] w
  refine bS [.tmp 2] 37 Tryz.func119 rfl Zr rfl rfl ?_
  refine zr<|eH rfl λw1 aI aX dk=>bI aI hK aP λhK aP=>?_
  refine W ?_
  refine zc rfl (λh1=>?_) (λh1=>?_)
  have hi:T= .i:=(by cases T with|i=>rfl|op g a b=>exact absurd rfl h1)
  refine W ?_
  exact⟨_,rfl,congrArg (λz=>str z) (by rw[hi,Sw]),hK⟩
  have aQ:∃g A B,T= .op g A B:=(by cases T with|i=>exact absurd h1 de|op g a b=>exact⟨g,a,b,rfl⟩)
  obtain⟨g,A,B,rfl⟩:=aQ
  have xe:(Ty.op g A B).n=1+A.n+B.n:=rfl
  have Oq:(Ty.op g A B).au.ak.length=3:=rfl
  obtain⟨b0,vj,x6,ya,e0,et,hT0⟩:=eW aP (i:=0) om
  cases e0
  have et:fy L _ _ _ [str (jO g),_]:=et
  obtain⟨b1,eX,gA,gm,e1,bK,cI⟩:=eW aP (i:=1) om
  cases e1
  have cI:bB L _ _ A.au:=cI
  obtain⟨b2,lF,iA,iw,e2,bU,dI⟩:=eW aP (i:=2) om
  cases e2
  have dI:bB L _ _ B.au:=dI
  have Ns:=B4 A
  have Nt:=B4 B
  have VB:=Mr (bu B)
  refine WI ?_
  refine zi (i:=1) cz aL rfl rfl ((show 1<3 from om))<|W ?_
  refine aA (ih A om om _ L w1 cI) ?_
  rintro _ w2 ⟨rfl,az⟩
  have dm:=az.size
  refine la az hK aX et bU dI λhK aX et bU dI=>?_
  refine WI ?_
  refine zi (i:=2) cz aL rfl rfl ((show 2<3 from om))<|W ?_
  refine aA (ih B om om _ L w2 dI) ?_
  rintro _ w3 ⟨rfl,aH⟩
  have fm:=aH.size
  refine cN aH hK aX et λhK aX et=>?_
  refine WI ?_
  refine zi (i:=0) cz aL rfl rfl ((show 0<3 from om))<|W ?_
  refine zc rfl (λh2=>?_) (λh2=>?_)
  have hg:g=false:=(by cases g with|false=>rfl|true=>exact absurd h2 de)
  refine W ?_
  exact⟨_,rfl,congrArg (λz=>str z) (by rw[hg,Sx]),hK⟩
  have hg:g=true:=(by cases g with|true=>rfl|false=>exact absurd rfl h2)
  refine W ?_
  refine aA (Hs (bu B) om w3) ?_
  rintro _ w4 ⟨rfl,aO⟩
  have fE:=aO.size
  have hK:=hK.ext aO
  refine W ?_
  exact⟨_,rfl,congrArg (λz=>str z) (by rw[hg,Sy]),hK⟩
theorem vK (T:Ty) (hT:T.n<=60) (w:World):bz Tryz.prog 78 [str T.text] w λr w'=>r=str (bu T)∧aj [] w w':=by
 have hK:=aj.refl [] w
 refine bS [.tmp 2] 12 Tryz.func78 rfl aa6 rfl rfl ?_
 refine W ?_
 refine aA (Ji T.text [] w sm) ?_
 rintro v1 w1 ⟨fX,aI⟩
 have cV:=aI.size
 have hK:=hK.ext aI
 obtain⟨t,tv,rfl,ht,hp⟩:=fX
 have e2:=hp.1 _ (Ty.bA hT)
 subst e2
 obtain⟨pa,pn,pc,rfl,eP,aP⟩:=cU ht
 refine W ?_
 refine dx aL rfl rfl rfl λw2 az cQ dC=>?_
 have hK:=hK.grow;have hK:=hK.ext az;have ht:=ht.grow;have ht:=ht.ext az
 refine cJ aL rfl rfl rfl cQ rfl λw3 aH cQ gJ=>?_
 have hK:=hK.aD aH sx;have ht:=ht.aD aH sx
 refine W ?_
 refine aA (aiT 60 T hT hT _ [] w3 (ht.gP sm)) ?_
 rintro _ w4 ⟨rfl,aO⟩
 have fE:=aO.size
 have hK:=hK.ext aO
 refine W ?_
 exact⟨_,rfl,rfl,hK⟩
theorem aiU (h:ai) (w:World):bz Tryz.prog 151 [str h] w λr w'=>r=str (qm h)∧aj [] w w':=by
 have hK:=aj.refl [] w
 refine bS [.tmp 2] 10 Tryz.func151 rfl ZU rfl rfl ?_
 refine W ?_
 refine zc rfl (λh1=>?_) (λh1=>?_)
 have hq:qm h=[97,100,100]:=iP h1
 refine W ?_
 exact⟨_,rfl,congrArg (λz=>str z) hq.symm,hK⟩
 have h1:=h1
 refine W ?_
 refine zc rfl (λh2=>?_) (λh2=>?_)
 have hq:qm h=[115,117,98]:=(iN h1).trans (iP h2)
 refine W ?_
 exact⟨_,rfl,congrArg (λz=>str z) hq.symm,hK⟩
 have h2:=h2
 refine W ?_
 refine zc rfl (λh3=>?_) (λh3=>?_)
 have hq:qm h=[109,117,108]:=(iN h1).trans ((iN h2).trans (iP h3))
 refine W ?_
 exact⟨_,rfl,congrArg (λz=>str z) hq.symm,hK⟩
 have hq:qm h=lx:=(iN h1).trans ((iN h2).trans (iN h3))
 refine W ?_
 exact⟨_,rfl,congrArg (λz=>str z) hq.symm,hK⟩
def t8:sD:=⟨110,39,112,9⟩
theorem dG.open {τ:sD} (h:dG τ E L w b o m):∃vb vt vc vy gb gt gc gy,aJ w b [vb,vt,.int .i64 (m.count:Int),.bool m.wide,vc,vy].toArray τ.M∧gk τ E L w b o vb vt vc vy gb gt gc gy m:=h
structure dS (E L:List Nat) (w:World) (L':List Nat) (w':World):Prop where
 fr:Fr L w L' w'
 out:∃G,aj G w w'∧∀x,x∈G->x∉E
section
variable {E L L1 L2:List Nat} {w w1 w2:World}
theorem dS.refl (E L:List Nat) (w:World):dS E L w L w:=⟨Fr.refl _ _,[],aj.refl _ _,sm⟩
theorem dS.add (h:dS E L w L1 w1) (k:Fr L1 w1 L2 w2) (kg:aj G w1 w2) (hG:∀x,x∈G->x∉E):dS E L w L2 w2:=
 let⟨G0,k0,h0⟩:=h.out
 ⟨h.fr.go k,G0++G,(k0.mono λx hx=>List.mem_append_left _ hx).trans (kg.mono λx hx=>mR _ hx),λx hx=>(mA.1 hx).elim (h0 x) (hG x)⟩
theorem dS.go (h:dS E L w L1 w1) (k:dS E L1 w1 L2 w2):dS E L w L2 w2:=let⟨_,kg,hG⟩:=k.out;h.add k.fr kg hG
theorem dS.ext (h:dS E L w L1 w1) (k:aj [] w1 w2):dS E L w L1 w2:=h.add (Fr.of k sm) k sm
theorem dS.aD (h:dS E L w L1 w1) (k:aj [x] w1 w2) (h1:x∈L1) (h2:x∉E):dS E L w L1 w2:=h.add (Fr.of k (by simpa using h1)) k (by simpa using h2)
theorem dS.tk (k:dS E L w L1 w1) {T:TypeId} (h:gI L w T b t) (hb:b∈E):gI L1 w1 T b t:=let⟨_,kg,hG⟩:=k.out;h.go k.fr kg λhx=>hG b hx hb
end
theorem aiV (n:Nat) (hn:n<100000) (w:World):bz Tryz.prog 70 [.int .i64 ((n:Int)+1-1)] w λr w'=>r=str (aT n)∧aj [] w w':=by
 rw[Int.add_sub_cancel];exact ir (n+1) n om om w
theorem Ot (m:Mk) (hc:m.count<100000) (E L:List Nat) (b:Nat) (o:Bool) (w:World) (h:dG t8 E L w b o m):
  bz Tryz.prog 149 [.pointer (some ⟨b,0,none⟩)] w λr w'=>(r=str m.aM∧dG t8 E L w' b o m.k7)∧aj [b] w w':=by
 obtain⟨vb,vt,vc,vy,gb,gt,gc,gy,bg,hS⟩:=h.open
 have bg:aJ w b [vb,vt,.int .i64 (m.count:Int),.bool m.wide,vc,vy].toArray 110:=bg
 have hK:=aj.refl [b] w
 refine bS [.tmp 2] 18 Tryz.func149 rfl ZR rfl rfl ?_
 refine W ?_
 refine gd (o:=2) oI rfl rfl rfl bg rfl λw1 aI bg df=>?_
 have hS:=hS.aF aI sm
 have hK:=hK.trans aI
 refine W ?_
 refine aA ((aiV m.count hc w1)) ?_
 rintro _ w2 ⟨rfl,az⟩
 have dm:=az.size
 refine cN az hK bg hS λhK bg hS=>?_
 refine gV rfl rfl rfl rfl (by have:=Ej _ m.count (lR _);simp;omega)<|zA<|aZ<|jZ ?_
 exact⟨_,rfl,⟨rfl,⟨_,_,_,_,_,_,_,_,bg,hS.num (m.count+1) m.wide⟩⟩,hK⟩
theorem r7 (k:ai) (m:Mk) (hc:m.types.length<100000) (E L:List Nat) (b:Nat) (o:Bool) (w:World) (h:dG t8 E L w b o m):
  bz Tryz.prog 120 [.pointer (some ⟨b,0,none⟩),str k] w λr w'=>r= .int .i64 (m.types.length:Int)∧∃L',dG t8 E L' w' b o (m.cY k)∧dS E L w L' w':=by
 obtain⟨vb,vt,vc,vy,gb,gt,gc,gy,bg,hS⟩:=h.open
 have bg:aJ w b [vb,vt,.int .i64 (m.count:Int),.bool m.wide,vc,vy].toArray 110:=bg
 have hR:=dS.refl E L w
 refine bS [.tmp 4] 30 Tryz.func120 rfl Zt rfl rfl ?_
 refine W ?_
 refine fc bh bf rfl rfl λw1 aI iF dk=>cN aI hR bg hS λhR bg hS=>?_
 refine rW bh bf rfl rfl rfl rfl rfl rfl hS.ty iF om λv9 g9 w2 cZ az eZ=>?_
 obtain⟨a9,c9,e9⟩:=jS cZ
 subst e9
 obtain⟨yH,mV,vL,mf,vM,uk⟩:=hS.apart
 have ri:=hS.mem.2 (.inr (.inl rfl))
 obtain⟨L2,fB,jq⟩:=hS.Mt cZ az (λx hx=>eZ.imp (λh=>h.symm.trans hx) (λh=>by rw[h] at hx;cases hx;exact lR _))
 have bg:=bg.aF az (λh=>(uk b h).2.1 rfl)
 have hR:=hR.add jq az (λx hx=>(uk x hx).1)
 refine W ?_
 refine gd (o:=5) mu rfl rfl rfl bg rfl λw3 aH bg df=>?_
 have fB:=fB.aF aH sm
 have hR:=hR.aD aH (fB.mem.2 (.inr (.inl rfl))) mV
 refine W ?_
 refine ix (λ_:Unit=>[(0,.pointer (some ⟨b,0,none⟩))]) (λ_ w'=>aj [b] w3 w'∧aJ w' b [vb,vt,.int .i64 (m.count:Int),.bool (m.wide||decide (40<m.types.length+1)),vc,.slice a9 (m.types++[k]).length c9].toArray 110) ?_ ?_
 refine zc rfl (λh1=>?_) (λh1=>?_)
 have hd:decide (40<m.types.length+1)=true:=dT (by simp at h1;omega)
 refine W ?_
 refine gd (o:=3) DL rfl rfl rfl bg rfl λw4 aO bg df=>?_
 have Ht:=aO
 refine W ?_
 exact⟨(),rfl,Ht,by rw[hd,Bool.or_true];exact bg⟩
 have hd:decide (40<m.types.length+1)=false:=dF (by simp at h1;omega)
 refine WZ ?_
 exact⟨(),rfl,aj.refl _ _,by rw[hd,Bool.or_false];exact bg⟩
 intro gu w4 e4 hI
 obtain⟨GA,bg⟩:=hI
 have fB:=fB.aF GA sm
 have hR:=hR.aD GA (fB.mem.2 (.inr (.inl rfl))) mV
 refine WA ?_
 refine xK rfl rfl rfl rfl rfl (wrap_i64 _ sx sx)<|zA<|aZ<|jZ ?_
 exact⟨_,rfl,congrArg (Value.int .i64) sm,L2,⟨_,_,_,_,_,_,_,_,bg,fB.num m.count (m.wide||decide (40<m.types.length+1))⟩,hR⟩
theorem gk.code {τ:sD} {vb vt vc vy:Value} {gb gt gc gy:Option Nat} (h:gk τ E L w b true vb vt vc vy gb gt gc gy m):cG w τ.S vc gc m.code:=by
 rcases h.co with⟨_,h⟩|⟨h,_⟩
 ·exact h
 ·cases h
theorem kG (hd:ai) (ps:List ai) (hl:(dR hd ps).length<=1000000) (m:Mk) (hc:m.code.length<100000) (E L:List Nat) (b:Nat) (v:Value) (w:World) (h:dG t8 E L w b true m) (hv:bc L w v ps):
  bz Tryz.prog 112 [.pointer (some ⟨b,0,none⟩),str hd,v] w λr w'=>∃L',dG t8 E L' w' b true (m.cA hd ps)∧dS E L w L' w':=by
 obtain⟨vb,vt,vc,vy,gb,gt,gc,gy,bg,hS⟩:=h.open
 have bg:aJ w b [vb,vt,.int .i64 (m.count:Int),.bool m.wide,vc,vy].toArray 110:=bg
 have hco:cG w 9 vc gc m.code:=by
  rcases hS.co with⟨_,h⟩|⟨h,_⟩
  ·exact h
  ·cases h
 obtain⟨yH,mV,vL,mf,vM,uk⟩:=hS.apart
 have CS:eO L w:=hS.cC
 refine bS [] 18 Tryz.func112 rfl Zk rfl rfl ?_
 apply jF dj L 12 (rA 6 12) (rA 6 12) [[],[],[1],[2],[3],[],[],[5,6],[7],[4,8],[0],[10]] [Ie.v _,Ie.v _,Ie.v _,Ie.v _,Ie.w 0 vc,Ie.v _,Ie.v _,Ie.v _,Ie.p (fun(G:List Nat) (v:Value) (ww:World)=>∃bb,v= .slice (some ⟨bb,0,none⟩) 1 1∧dM G ww bb [str (dR hd ps)].toArray 9),Ie.e 1,Ie.v _,Ie.v _] [4,9] [fun(G:List Nat) (vs:List Value) (ww:World)=>G=L∧aj [] w ww,fun(G:List Nat) (vs:List Value) (ww:World)=>G=L∧aj [] w ww,fun(G:List Nat) (vs:List Value) (ww:World)=>∃g2,aj gc.toList w ww∧gk t8 E G ww b true vb vt (vs.getD 1 undef) vy gb gt g2 gy {m with code:=m.code++[dR hd ps]}∧Fr L w G ww] de rfl CS (by exact⟨λG v w G' w' ⟨bb,e,h⟩ k=>⟨bb,e,h.go k⟩,trivial⟩) (by exact⟨λG vs w w' ⟨h1,h2⟩ k=>⟨h1,h2.ext k⟩,λG vs w w' ⟨h1,h2⟩ k=>⟨h1,h2.ext k⟩,λG vs w w' ⟨g2,h1,h2,h3⟩ k=>⟨g2,h1.ext k,h2.ext k,h3.ext k⟩,trivial⟩) (⟨rfl,aj.refl _ _⟩)
 refine FA ?_
 refine ve 0 (λx w1 G1 aS ug r8 hJ hlen=>?_) ?_
 have aW:=jg hlen
 subst aW
 obtain⟨bO,bP⟩:=hJ
 have xp:=bg.ext bP
 refine WZ ?_
 exact fw G1 (Fr.refl _ _) r8 (⟨bO,bP⟩)
 refine FA ?_
 refine vf (λx w1 G1 aS ug r8=>?_) ?_
 have hv:=hv.go ug
 refine aA (yg hd ps om _ _ w1 hv) ?_
 rintro _ w2 ⟨rfl,az⟩
 have dm:=az.size
 exact fk az
 refine vf (λx w1 G1 aS ug r8=>?_) ?_
 refine fc bh bf rfl rfl λw2 az xi dC=>?_
 exact ff az (⟨_,rfl,xi.o r8⟩)
 refine ve 1 (λx w1 G1 aS ug r8 hJ hlen=>?_) ?_
 obtain⟨q0,aW⟩:=jh hlen
 subst aW
 intro v8 d8
 obtain⟨bb,e6,fH⟩:=d8
 subst e6
 obtain⟨bO,bP⟩:=hJ
 subst bO
 have Kb:=hS.ext bP
 have hcw:=hco.ext bP
 refine rW bh bf rfl rfl rfl rfl rfl rfl hcw fH.gX om λv9 g9 w2 cZ aB eZ=>?_
 obtain⟨L2,fB,jq⟩:=Kb.IX cZ aB (λx hx=>eZ.imp (λh=>h.symm.trans hx) (λh=>by rw[h] at hx;cases hx;exact lR _))
 exact fe _ jq fB.cC (⟨g9,bP.any.trans aB,fB,(Fr.of bP sm).go jq⟩)
 exact FZ
 intro x MX G40 aS V4 aiZ hJ hlen
 obtain⟨q0,q1,aW⟩:=k9 hlen
 subst aW
 intro v8 d8
 change OW _ _ _ _ _ (bo (bj _ x _) (zZ 6 [_,_,_,_,_,_,_,_,_,_,_,_])) _
 obtain⟨g2,A2,fB,jq⟩:=hJ
 obtain⟨o9,pd,Hm⟩:=jS fB.code
 have e8:q1=_:=Hm
 subst e8
 have bg:=bg.aF A2 (λh=>(vM b h).2.1 rfl)
 refine gd (o:=4) mu rfl rfl rfl bg rfl λo3 gR bg df=>?_
 have fB:=fB.aF gR sm
 have hR:=((dS.refl E L w).add jq A2 (λx hx=>(vM x hx).1)).aD gR (fB.mem.2 (.inr (.inl rfl))) mV
 refine W ?_
 exact⟨_,rfl,_,⟨_,_,_,_,_,_,_,_,bg,fB⟩,hR⟩
theorem Ki {hd:ai} {ps:List ai} (hh:hd.length<=100) (hp:ps.length<=10) (hs:∀p,p∈ps->p.length<=10001):(dR hd ps).length<=1000000:=by
 have h1:=AS (m:=10001) ps hs
 have h2:ps.length*10002<=10*10002:=Nat.mul_le_mul hp (lR _)
 rw[lG];omega
theorem EV (h:n<=10000):(aT n).length<=10001:=by have:=Ej _ n (lR _);omega
theorem dG.db {τ:sD} (h:dG τ E L w b o m):∀x,x∈L->x<w.heap.size:=h.mem.2.2.2
theorem V5 (m:Mk) (s:Nat) (hs:s<=10000) (ht:m.types.length<=9000) (hc:m.code.length<=9000) (E L:List Nat) (b:Nat) (w:World) (h:dG t8 E L w b true m):
  bz Tryz.prog 117 [.pointer (some ⟨b,0,none⟩),.int .i64 (s:Int)] w λr w'=>r= .tuple #[str (aT (m.types.length+1)),str (aT (m.types.length+2))]∧∃L',dG t8 E L' w' b true (sC m s)∧dS E L w L' w':=by
 have av:=h
 have hR:=dS.refl E L w
 obtain⟨r,hr⟩:∃r,r=m.types.length:=⟨_,rfl⟩
 have hE:sC m s=((((((m.cY []).cA Ab [aT r,aT s]).cY []).cA sB [aT (r+1),aT r,[48]]).cY []).cA sB [aT (r+2),aT r,[49]]):=by rw[hr];rfl
 rw[<-hr,hE]
 refine bS [.tmp 4,.tmp 5] 40 Tryz.func117 rfl Zp rfl rfl ?_
 refine W ?_
 refine aA (r7 [] m om E L b true w av) ?_
 rintro v10 w1 ⟨fo,L1,av,bC⟩
 rw[<-hr] at fo
 subst fo
 have hR:=hR.go bC
 refine W ?_
 refine aA (ir (r+1) r om om w1) ?_
 rintro _ w2 ⟨rfl,az⟩
 have dm:=az.size
 refine bI az av hR λav hR=>?_
 refine zm<|aA (ir (s+1) s om om w2) ?_
 rintro _ w3 ⟨rfl,aH⟩
 have fm:=aH.size
 refine bI aH av hR λav hR=>?_
 have cR:=av.db
 refine kL bh bf rfl rfl rfl rfl λw4 aO wV gQ=>bI aO av hR λav hR=>?_
 refine aA (kG Ab [aT r,aT s] (Ki de sm (by intro p hp;simp at hp;rcases hp with rfl|rfl<;>exact EV om)) (m.cY []) (show m.code.length<100000 from om) E L1 b _ w4 av (aJ.dK [aT r,aT s] wV (λhx=>by have:=cR _ hx;omega))) ?_
 rintro jC w5 ⟨L2,av,bC⟩
 have hR:=hR.go bC
 refine aZ<|zr<|zm<|aA (r7 [] ((m.cY []).cA Ab [aT r,aT s]) (show(m.cY []).types.length<100000 from by rw[ym];omega) E L2 b true w5 av) ?_
 rintro v10 w6 ⟨fo,L3,av,bC⟩
 rw[show((m.cY []).cA Ab [aT r,aT s]).types.length=r+1 from by rw[ot,ym,hr]] at fo
 subst fo
 have hR:=hR.go bC
 refine W ?_
 refine aA (ir (r+2) (r+1) om om w6) ?_
 rintro _ w7 ⟨rfl,bW⟩
 have lf:=bW.size
 refine bI bW av hR λav hR=>?_
 refine zm<|aA (ir (r+1) r om om w7) ?_
 rintro _ w8 ⟨rfl,cE⟩
 have A4:=cE.size
 refine bI cE av hR λav hR=>?_
 have cR:=av.db
 refine pO bh bf rfl rfl rfl rfl rfl λw9 aB Cs df=>bI aB av hR λav hR=>?_
 refine aA (kG sB [aT (r+1),aT r,[48]] (Ki de sm (by intro p hp;simp at hp;rcases hp with rfl|rfl|rfl;(·exact EV om);(·exact EV om);(·decide))) (((m.cY []).cA Ab [aT r,aT s]).cY []) (show(m.code++[_]).length<100000 from by simp;omega) E L3 b _ w9 av (aJ.dK [aT (r+1),aT r,[48]] Cs (λhx=>by have:=cR _ hx;omega))) ?_
 rintro jC cu ⟨L4,av,bC⟩
 have hR:=hR.go bC
 refine aZ<|zr<|zm<|aA (r7 [] ((((m.cY []).cA Ab [aT r,aT s]).cY []).cA sB [aT (r+1),aT r,[48]]) (show(m.types++[_]++[_]).length<100000 from by simp;omega) E L4 b true cu av) ?_
 rintro v10 eD ⟨fo,L5,av,bC⟩
 have C1:v10= .int .i64 ((r+2:Nat):Int):=fo.trans (congrArg (λn:Nat=>Value.int .i64 (n:Int)) (show(m.types++[_]++[_]).length=r+2 from by simp[hr]))
 subst C1
 have hR:=hR.go bC
 refine W ?_
 refine aA (ir (r+3) (r+2) om om eD) ?_
 rintro _ fA ⟨rfl,di⟩
 have EM:=di.size
 refine bI di av hR λav hR=>?_
 refine zm<|aA (ir (r+1) r om om fA) ?_
 rintro _ jB ⟨rfl,gv⟩
 have Hu:=gv.size
 refine bI gv av hR λav hR=>?_
 have cR:=av.db
 refine pO bh bf rfl rfl rfl rfl rfl λiG dA ai0 C3=>bI dA av hR λav hR=>?_
 refine aA (kG sB [aT (r+2),aT r,[49]] (Ki de sm (by intro p hp;simp at hp;rcases hp with rfl|rfl|rfl;(·exact EV om);(·exact EV om);(·decide))) (((((m.cY []).cA Ab [aT r,aT s]).cY []).cA sB [aT (r+1),aT r,[48]]).cY []) (show(m.code++[_]++[_]).length<100000 from by simp;omega) E L5 b _ iG av (aJ.dK [aT (r+2),aT r,[49]] ai0 (λhx=>by have:=cR _ hx;omega))) ?_
 rintro jC p3 ⟨L6,av,bC⟩
 have hR:=hR.go bC
 refine aZ<|zr<|zm<|aA (ir (r+2) (r+1) om om p3) ?_
 rintro _ lk ⟨rfl,mJ⟩
 have Vv:=mJ.size
 refine bI mJ av hR λav hR=>?_
 refine zm<|aA (ir (r+3) (r+2) om om lk) ?_
 rintro _ C4 ⟨rfl,yI⟩
 have aps:=yI.size
 refine bI yI av hR λav hR=>?_
 refine W ?_
 exact⟨_,rfl,rfl,L6,av,hR⟩
theorem V6 (s:cD):(ew s).map Prod.fst=jE s:=by unfold ew jE;rw[List.map_map];rfl
theorem V7 (s:cD):((ew s).map λp=>p.2.text)=oT s:=by unfold ew oT;rw[List.map_map];rfl
theorem Kj (t:Tk) (e:Ex) (ba:e.ok) (hn:e.n<=1000) (hΓ:xU (ew t.sc)) (hl:t.sc.length+2*e.n<=100000) (v:Value) (L:List Nat) (bt:Nat) (w:World) (lh:∀x,x∈L->x<w.heap.size) (hT:gI L w 112 bt t) (hv:bB L w v e.au):
  bz Tryz.prog 115 [.pointer (some ⟨bt,0,none⟩),v] w λr w'=>r=str (eE (bw e (ew t.sc)))∧aj [] w w':=by
 obtain⟨v1,v3,v4,v5,v6,v8,cX,hC⟩:=hT
 obtain⟨a,np,c,rfl,eV,aP⟩:=cU hv
 have eK:=hC.aK
 have eR:=hC.types
 have hK:=aj.refl [] w
 have e1:=V6 t.sc
 have e2:=V7 t.sc
 refine bS [.tmp 4] 15 Tryz.func115 rfl Zn rfl rfl ?_
 refine zr<|eH rfl λw1 aI cQ dk=>la aI hK hv cX eK eR λhK hv cX eK eR=>?_
 refine W ?_
 apply dV dj 11 [5,6,7,8,9,10,11,12,13,14,4] [[],[],[1],[2],[3],[],[5],[6],[7],[0,4,8],[9]] (it [_,_,_,_,_,_,_,_,_,_,_]) de rfl
 intro wd aC
 refine VA ?_
 refine vk aC (λx w2 az=>?_) ?_
 refine ie az hK hv eK eR λhK hv eK eR=>?_
 refine aA (VY 1000 e hn om ba (ew t.sc) (by simp[ew];omega) hΓ _ v4 v6 L w2 (λx hx=>lL (lh x hx) hK.size) hv (by rw[e1];exact eK) (by rw[e2];exact eR)) ?_
 rintro _ w3 ⟨rfl,aH⟩
 have fm:=aH.size
 exact pk aH
 exact VZ
 intro x o3 gR
 have hK:=hK.ext gR
 change OW _ _ _ _ [] (bo (bj _ x _) (zZ 5 [_,_,_,_,_,_,_,_,_,_]++[(4,_)])) _
 refine W ?_
 exact⟨_,rfl,rfl,hK⟩
theorem ai1 (xs:List Nat):∀row,row∈tP xs->∀c,c∈row->∀v,c= .val v->v.oneCell'=true:=by
 intro row hr c hc v hv
 obtain⟨n,_,rfl⟩:=List.mem_map.1 hr
 simp at hc;subst hc;cases hv;rfl
theorem EW (t:Tk) (x:ai) (r:Nat) (T:Ty) (hl:t.sc.length<100000) (L:List Nat) (bt:Nat) (w:World) (ri:bt∈L) (lh:∀x,x∈L->x<w.heap.size) (hT:gI L w 112 bt t):
  bz Tryz.prog 118 [.pointer (some ⟨bt,0,none⟩),str x,.int .i64 (r:Int),str T.text] w λ_ w'=>gI L w' 112 bt {t with sc:=t.sc++[(x,r,T)]}∧aj [bt] w w':=by
 obtain⟨v1,v3,v4,v5,v6,v8,cX,hC⟩:=hT
 have cX:aJ w bt [str t.aM,v1,.int .i64 (t.loads:Int),v3,v4,v5,v6,str t.expr.au.aw,v8,.int .i64 (t.on:Int),str t.aV,.int .i64 (t.next:Int)].toArray 112:=cX
 have hK:=aj.refl [bt] w
 have fx:(jE t.sc).length=t.sc.length:=by simp[jE]
 have eV:(oT t.sc).length=t.sc.length:=by simp[oT]
 have pg:(tP (wJ t.sc)).length=t.sc.length:=by simp[tP,wJ]
 have Jp:=cX.lt
 obtain⟨a5,c5,rfl,_⟩:=rC hC.at_
 refine bS [] 40 Tryz.func118 rfl Zq rfl rfl ?_
 refine W ?_
 refine fc bh bf rfl rfl λw1 aI xi dk=>cN aI hK cX hC λhK cX hC=>?_
 refine aA (ua (jE t.sc) [x] so v4 _ L w1 hC.aK (aJ.dK [x] xi (λhx=>by have:=lh _ hx;omega)) (λx hx=>lL (lh x hx) hK.size)) ?_
 rintro v2 w2 ⟨ij,az⟩
 have dm:=az.size
 refine cN az hK cX hC λhK cX hC=>?_
 have jA:=ij
 obtain⟨a9,n9,c9,e9,_⟩:=dJ jA
 subst e9
 refine W ?_
 refine gd (o:=4) mu rfl rfl rfl cX rfl λw3 aH cX df=>?_
 have hC:=hC.aD aH (by simpa using ri);have jA:=jA.aD aH (by simpa using ri)
 have hK:=hK.trans aH
 have x4:=hK.size
 refine W ?_
 refine fc bh bf rfl rfl λw4 aO yJ gQ=>ie aO hK cX hC jA λhK cX hC jA=>?_
 refine aA (ua (oT t.sc) [T.text] so v6 _ L w4 hC.types (aJ.dK [T.text] yJ (λhx=>by have:=lh _ hx;omega)) (λx hx=>lL (lh x hx) hK.size)) ?_
 rintro v5 w5 ⟨sI,aN⟩
 have l3:=aN.size
 refine ie aN hK cX hC jA λhK cX hC jA=>?_
 have xh:=sI
 obtain⟨Jk,n10,c10,fo,_⟩:=dJ xh
 subst fo
 refine W ?_
 refine gd (o:=6) mu rfl rfl rfl cX rfl λw6 bN cX df=>?_
 have hC:=hC.aD bN (by simpa using ri);have jA:=jA.aD bN (by simpa using ri);have xh:=xh.aD bN (by simpa using ri)
 have hK:=hK.trans bN
 have x4:=hK.size
 have hL9:∀x,x∈L->x<w6.heap.size:=(λx hx=>lL (lh x hx) hK.size)
 have hCw:=hC
 have ai4:=jA
 have ai5:=xh
 have yK:=cX
 have mG:=hK
 have apv:=cX.lt
 refine aZ<|kH<|zm<|zS w6.heap.size L uP oI rfl rfl (lR _) hL9 λw7 bW JP xd=>?_
 have fp:=bW
 have hC:=hC.grow.ext bW;have cX:=cX.ext bW
 refine W ?_
 refine wT uP oI rfl rfl rfl rfl rfl rfl xd hC.at_ (ai1 _) (by rw[pg];simp;omega) λa4 fP g4 w8 ku cE=>?_
 rw[List.nil_append] at ku
 have apw:=xd.low
 have fp:=fp.since cE (λx hx=>.inr (by simp at hx;omega))
 refine zm<|fc uP oI rfl rfl λw9 aB vN df=>bI aB ku fp λku fp=>?_
 refine DR (row:=[.val (.int .i64 (r:Int))]) uP oI rfl rfl rfl rfl rfl rfl ku vN rfl rfl ⟨.val _,trivial⟩ (by rw[pg];omega) λa6 cc6 g6 cu hO6 cB=>?_
 have fp:=fp.since cB (λx hx=>.inr (ku.low x (by simpa using hx)))
 have jA:=ai4.ext fp
 have xh:=ai5.ext fp
 have hC:=hCw.ext fp
 have cX:=yK.ext fp
 have hK:=mG.ext fp
 have hN:=hO6.done
 rw[afJ] at hN
 refine W ?_
 refine gd (o:=5) QO rfl rfl rfl cX rfl λeD dd cX df=>?_
 have hC:=hC.aD dd (by simpa using ri);have jA:=jA.aD dd (by simpa using ri);have xh:=xh.aD dd (by simpa using ri)
 have hN:=bQ.aF hN (dd.mono (by simpa using ri))
 have hK:=hK.trans dd
 refine W ?_
 exact⟨_,rfl,⟨v1,v3,_,_,_,v8,cX,⟨hC.regs,hC.self,(by rw[ad2];exact jA),(by rw[ad3];exact hN),(by rw[ad4];exact xh),hC.ak⟩⟩,hK⟩
theorem ai7 (s:cD) (p:ai×Nat×Ty) (x:ai):kn (s++[p]) x=if p.1=x then p.2.1 else kn s x:=by
 unfold kn
 rw[List.reverse_append]
 simp only[List.reverse_cons,List.reverse_nil,List.nil_append,List.cons_append,List.find?_cons]
 by_cases h:p.1=x
 ·simp[h]
 ·simp[h]
theorem ai8 {s:cD} (h:k<s.length) (x:ai):kn (s.take (k+1)) x=if bX (jE s) k=x then(s[k]'h).2.1 else kn (s.take k) x:=by
 rw[List.take_add_one,gE h]
 show kn (s.take k++[s[k]]) x=_
 rw[ai7]
 have e:bX (jE s) k=(s[k]'h).1:=by simp[bX,jE,gE h]
 rw[e]
theorem C5 (t:Tk) (a:ai) (m:Mk) (Ch:a.length<=10000) (ht:m.types.length<=9000) (hc:m.code.length<=9000) (hs:t.sc.length<=9000) (E L:List Nat) (b bt:Nat) (pa:Option Addr) (pn pc:Nat) (w:World) (h:dG t8 E L w b true m) (hT:gI L w 112 bt t) (dX:bt∈E):
  bz Tryz.prog 147 [.pointer (some ⟨b,0,none⟩),.pointer (some ⟨bt,0,none⟩),.agg #[str a,.slice pa pn pc]] w λr w'=>r= .int .i64 ((bT m t.sc a).2:Int)∧∃L',dG t8 E L' w' b true (bT m t.sc a).1∧dS E L w L' w':=by
 have av:=h
 have hR:=dS.refl E L w
 obtain⟨v1,v3,v4,v5,v6,v8,cX,hC⟩:=hT
 obtain⟨r,hr⟩:∃r,r=m.types.length:=⟨_,rfl⟩
 have eK:=hC.aK
 obtain⟨an,nn,cn,rfl,rP⟩:=dJ eK
 have eJ:=hC.at_
 obtain⟨aa,ca,rfl,Ka⟩:=rC eJ
 refine bS [.tmp 6] 50 Tryz.func147 rfl ZP rfl rfl ?_
 refine zr<|eH rfl λw1 aI cg dk=>la aI av hR cX eK eJ λav hR cX eK eJ=>?_
 refine W ?_
 refine aA (vA _ _) ?_
 rintro _ _ ⟨rfl,rfl⟩
 refine kx rfl rfl rfl<|aZ<|zc rfl (λh1=>?_) (λh1=>?_)
 have hq:bT m t.sc a=((m.cY [105]).cA IT [aT r,a],r):=(by unfold bT;rw[iN (by rw[h1];simp),hr])
 rw[hq]
 refine zr<|zm<|aA (r7 [105] m om E L b true w1 av) ?_
 rintro l9 w2 ⟨gS,L1,av,bC⟩
 rw[<-hr] at gS
 subst gS
 have hR:=hR.go bC
 have cR:=av.db
 have cg:dM L1 w2 w.heap.size _ _:=⟨cg.aF bC.fr.aF (λhx=>by have:=h.db _ hx;omega),λhx=>by rcases bC.fr.mem _ hx with h9|h9;(·have:=h.db _ h9;omega);(·omega)⟩
 have lO:=av
 have um:=hR
 refine W ?_
 apply jF dj L1 7 (rA 15 7) (rA 15 7) [[],[],[1],[],[3],[2,4],[0,5]] [Ie.v _,Ie.v _,Ie.v _,Ie.v _,Ie.v _,Ie.p (fun(G:List Nat) (v:Value) (ww:World)=>bc G ww v [aT r,a]),Ie.e 0] [6] [fun(G:List Nat) (vs:List Value) (ww:World)=>G=L1∧aj [] w2 ww,fun(G:List Nat) (vs:List Value) (ww:World)=>dG t8 E G ww b true ((m.cY [105]).cA IT [aT r,a])∧dS E L1 w2 G ww] de rfl cR (by exact⟨λG v w G' w' h k=>bc.go h k,trivial⟩) (by exact⟨λG vs w w' ⟨h1,h2⟩ k=>⟨h1,h2.ext k⟩,λG vs w w' ⟨h1,h2⟩ k=>⟨h1.ext k,h2.ext k⟩,trivial⟩) (⟨rfl,aj.refl _ _⟩)
 refine FA ?_
 refine vf (λx w3 G3 aS jo kr=>?_) ?_
 refine aA (ir (r+1) r om om w3) ?_
 rintro _ w4 ⟨rfl,aO⟩
 have fE:=aO.size
 exact fk aO
 refine FA ?_
 refine vf (λx w3 G3 aS jo kr=>?_) ?_
 refine kL bh bf rfl rfl rfl rfl λw4 aO sW gQ=>?_
 exact ff aO (aJ.dK [aT r,a] sW (λhx=>by have:=kr _ hx;omega))
 refine ve 0 (λx w3 G3 aS jo kr hJ hlen=>?_) ?_
 have aW:=jg hlen
 subst aW
 intro v5 d5
 obtain⟨bO,bP⟩:=hJ
 subst bO
 refine aA (kG IT [aT r,a] (Ki de sm (by intro p hp;simp at hp;rcases hp with rfl|rfl;(·exact EV om);(·omega))) (m.cY [105]) (show m.code.length<100000 from om) E _ b _ w3 (lO.ext bP) d5) ?_
 rintro v21 w4 ⟨L2,Hv,jq⟩
 exact fe L2 jq.fr Hv.db (⟨Hv,((dS.refl _ _ _).ext bP).go jq⟩)
 exact trivial
 intro x qw GY aS EA NB hJ hlen
 obtain⟨q0,aW⟩:=jh hlen
 subst aW
 intro v5 d5
 change OW _ _ _ _ [] (bo (bj _ x _) (zZ 15 [_,_,_,_,_,_,_])) _
 obtain⟨av,jq⟩:=hJ
 have hR:=um.go jq
 refine W ?_
 exact⟨_,rfl,rfl,_,av,hR⟩
 have hq:bT m t.sc a=(m,kn t.sc a):=(by unfold bT;rw[iP (by simpa using h1)])
 rw[hq]
 have Cp:(jE t.sc).length=t.sc.length:=by simp[jE]
 refine W ?_
 refine eA (λk:Nat=>[(1,.pointer (some ⟨bt,0,none⟩)),(5,.pointer (some ⟨w.heap.size,0,none⟩)),(8,.int .i64 ((k:Int)-1))]) (λk w'=>aj [] w1 w'∧k<=t.sc.length∧kn t.sc a=kn (t.sc.take k) a) (λk=>k) t.sc.length (⟨rfl,rfl,congrArg (λz:Nat=>Value.int .i64 ((z:Int)-1)) (rP.trans Cp)⟩) (⟨aj.refl _ _,lR _,by rw[List.take_length]⟩) λgg w2 e2 hI=>?_
 obtain⟨da,hk,yy⟩:=hI
 refine ie da av hR cX eK λav hR cX eK=>?_
 have eJ:=xX.ext eJ da
 have cg:=cg.ext da
 refine W ?_
 refine zc rfl (λh2=>?_) (λh2=>?_)
 have aQ:∃k,gg=k+1:=⟨gg-1,om⟩
 obtain⟨k,rfl⟩:=aQ
 have hi:((k+1:Nat):Int)-1=(k:Int):=by omega
 rw[hi]
 obtain⟨b1,eX,e1,bK⟩:=pB eK (km (xs:=jE t.sc) (i:=k) om)
 cases e1
 obtain⟨b2,lF,e2,bU⟩:=ad1 eJ (i:=k) (x:=(t.sc[k]'om).2.1) (by simp[wJ,gE (show k<t.sc.length by omega)])
 cases e2
 have nz:=ai8 (s:=t.sc) (k:=k) om a
 refine WZ ?_
 apply dV dj 10 [33,34,35,36,37,38,39,40,41,42] [[],[0],[1],[2],[],[3,4],[5],[],[7],[6,8]] (it [_,_,_,_,_,_,_,_,_,_]) de rfl
 intro wd aC
 refine vc (λ_ _ _=>WZ pv) ?_
 refine vk aC (λx w3 aH=>?_) ?_
 refine WZ ?_
 exact pv
 refine vc (λ_ _ _=>WZ pv) ?_
 refine vk aC (λx w3 aH=>?_) ?_
 have cX:=cX.ext aH
 refine WZ ?_
 exact pv
 refine vc (λ_ _ _=>WZ pv) ?_
 exact VZ
 intro x qw Cl
 refine la Cl av hR cX da bU λav hR cX da bU=>?_
 change OW _ _ _ _ [] (bo (bj _ x _) (zZ 33 [_,_,_,_,_,_,_,_,_,_])) _
 refine aZ<|zc rfl (λh3=>?_) (λh3=>?_)
 have wS:=yy.trans (nz.trans (iP h3))
 refine WI ?_
 refine zi uP oI rfl rfl (by have h9:(tP (wJ t.sc)).length=t.sc.length:=(by simp[tP,wJ]);omega)<|W ?_
 exact⟨_,rfl,congrArg (λz:Nat=>Value.int .i64 (z:Int)) wS.symm,_,av,hR⟩
 have wS:=yy.trans (nz.trans (iN h3))
 refine W ?_
 exact⟨k,⟨rfl,rfl,rfl⟩,⟨da,om,wS⟩,om⟩
 have h0:gg=0:=by omega
 subst h0
 refine W ?_
 exact⟨_,rfl,congrArg (λz:Nat=>Value.int .i64 (z:Int)) yy.symm,_,av,hR⟩
theorem Ou (aM:ai) (regs:List ai) (hr:regs.length<10000) (m:Mk) (cW:m.blocks.length<100000) (E L:List Nat) (b:Nat) (v:Value) (w:World) (h:dG t8 E L w b true m) (hv:bc L w v regs):
  bz Tryz.prog 77 [.pointer (some ⟨b,0,none⟩),str aM,v] w λr w'=>∃L',dG t8 E L' w' b false (Cx m aM regs)∧dS E L w L' w':=by
 obtain⟨vb,vt,vc,vy,gb,gt,gc,gy,bg,hS⟩:=h.open
 obtain⟨yH,mV,vL,mf,vM,uk⟩:=hS.apart
 have V8:=hS.M0
 obtain⟨G0,Hw⟩:∃G,G=E++(gb.toList++(gt.toList++gy.toList)):=⟨_,rfl⟩
 have V9:∀x,x∈G0->x∈L:=λx hx=>by rw[Hw] at hx;simp only[mA] at hx;exact hS.mem.2 (by rcases hx with h|h|h|h<;>simp[h])
 have nM:b∉G0:=λhx=>by
  rw[Hw] at hx;simp only[mA] at hx
  rcases hx with h|h|h|h
  ·exact mV h
  ·exact(vL b h).2 rfl
  ·exact(mf b h).2.1 rfl
  ·exact(uk b h).2.1 rfl
 have bg:dM G0 w b [vb,vt,.int .i64 (m.count:Int),.bool m.wide,vc,vy].toArray 110:=⟨bg,nM⟩
 have ow:=bc.fresh hv (λx hx=>.inl (V9 x hx))
 have pJ:eO G0 w:=λx hx=>hS.cC x (V9 x hx)
 have wG:∀x,w.heap.size<=x->x∉pN E b gb gt gy:=λx h1 hx=>by have:=hS.cC x (hS.T6 x hx);omega
 obtain⟨an,nn,cn,rfl,rP⟩:=dJ hv
 obtain⟨ac,nc,cc,rfl,ml⟩:=dJ V8
 refine bS [] 24 Tryz.func77 rfl aa5 rfl rfl ?_
 apply jF dj G0 18 (rA 6 18) (rA 6 18) [[],[],[1],[2],[3],[],[],[],[6,7],[],[9],[10],[11],[5,8,12],[13],[4,14],[0],[16]] [Ie.v _,Ie.v _,Ie.v _,Ie.v _,Ie.v _,Ie.v _,Ie.p (fun(G:List Nat) (v:Value) (ww:World)=>∃bb,v= .slice (some ⟨bb,0,none⟩) 0 0∧w.heap.size<=bb∧dM G ww bb #[] 9),Ie.v _,Ie.e 0,Ie.v _,Ie.v _,Ie.v _,Ie.v _,Ie.e 1,Ie.e 2,Ie.e 3,Ie.v _,Ie.v _] [8,13,14,15] [fun(G:List Nat) (vs:List Value) (ww:World)=>(∀x,x∈G0->x∈G)∧aj [] w ww,fun(G:List Nat) (vs:List Value) (ww:World)=>(∀x,x∈G0->x∈G)∧aj [] w ww∧bc (pN E b gb gt gy) ww (vs.getD 0 undef) regs,fun(G:List Nat) (vs:List Value) (ww:World)=>(∀x,x∈G0->x∈G)∧aj [] w ww∧bc (pN E b gb gt gy) ww (vs.getD 0 undef) regs∧vs.getD 1 undef= .agg #[str aM,vs.getD 0 undef,.slice ac nc cc],fun(G:List Nat) (vs:List Value) (ww:World)=>(∀x,x∈G0->x∈G)∧aj [] w ww∧bc (pN E b gb gt gy) ww (vs.getD 0 undef) regs∧∃bb,vs.getD 2 undef= .slice (some ⟨bb,0,none⟩) 1 1∧aJ ww bb [str aM,vs.getD 0 undef,.slice ac nc cc].toArray 39,fun(G:List Nat) (vs:List Value) (ww:World)=>∃g2,dH (gb.toList++(g2.toList++pN E b gb gt gy)) ww 39 3 (vs.getD 3 undef) g2 ((m.blocks++[(⟨aM,regs,m.code⟩:Bk)]).map Bk.enc)∧aj gb.toList w ww∧(g2=gb∨∃x,g2=some x∧w.heap.size<=x)] de rfl pJ (by exact⟨λG v w G' w' ⟨bb,e,h1,h⟩ k=>⟨bb,e,h1,h.go k⟩,trivial⟩) (by exact⟨λG vs w w' ⟨h1,h2⟩ k=>⟨h1,h2.ext k⟩,λG vs w w' ⟨h1,h2,h3⟩ k=>⟨h1,h2.ext k,h3.ext k⟩,λG vs w w' ⟨h1,h2,h3,h4⟩ k=>⟨h1,h2.ext k,h3.ext k,h4⟩,λG vs w w' ⟨h1,h2,h3,bb,h4,h5⟩ k=>⟨h1,h2.ext k,h3.ext k,bb,h4,h5.ext k⟩,λG vs w w' ⟨g2,h1,h2,h3⟩ k=>⟨g2,h1.ext k,h2.ext k,h3⟩,trivial⟩) (⟨λx hx=>hx,aj.refl _ _⟩)
 refine FA ?_
 refine vf (λx w1 G1 aS ug r8=>?_) ?_
 refine fR bh bf λw2 az Ov dC=>?_
 exact ff az (⟨_,rfl,(by have h1:=ug.aF.size;omega),Ov.o r8⟩)
 refine FA ?_
 refine ve 0 (λx w1 G1 aS ug r8 hJ hlen=>?_) ?_
 have aW:=jg hlen
 subst aW
 have ow:=ow.go ug
 intro v6 d6
 obtain⟨bb,e6,CJ,fH⟩:=d6
 subst e6
 obtain⟨jU,fT⟩:=hJ
 refine GQ (N:=w.heap.size) bh bf rfl rfl rfl rfl rfl rfl fH CJ ow ‹_› om λv9 w2 G9 kt vE cP eu pW=>?_
 exact fe G9 cP eu (⟨λx hx=>kt _ (jU x hx),pW.since fT,let⟨g',iU,_,hs⟩:=vE;iU.rep (λx hx fj=>wG x (hs x (by simp[hx])).2 fj)⟩)
 refine FA ?_
 refine ve 1 (λx w1 G1 aS ug r8 hJ hlen=>?_) ?_
 obtain⟨q0,aW⟩:=jh hlen
 subst aW
 obtain⟨jU,fT,p4⟩:=hJ
 obtain⟨a7,n7,c7,e7,_⟩:=dJ p4
 have e8:q0=_:=e7
 subst e8
 refine js (Ip _ _ _ _ _ _ _ _) rfl rfl ?_
 exact fe G1 (Fr.refl _ _) r8 (⟨jU,fT,p4,rfl⟩)
 refine ve 2 (λx w1 G1 aS ug r8 hJ hlen=>?_) ?_
 obtain⟨q0,q1,aW⟩:=k9 hlen
 subst aW
 obtain⟨jU,fT,p4,oV⟩:=hJ
 obtain⟨a7,n7,c7,e7,_⟩:=dJ p4
 have e8:q0=_:=e7
 subst e8
 have Hx:q1=Value.agg #[str aM,.slice a7 n7 c7,.slice ac nc cc]:=oV
 subst Hx
 refine sL [.tmp 19] [[str aM,.slice a7 n7 c7,.slice ac nc cc]] iK fU rfl rfl rfl rfl rfl rfl rfl rfl rfl λw2 az sW VP=>?_
 exact fe G1 (Fr.of az sm) ((λx hx=>lL (r8 x hx) (aj.size az))) (⟨jU,fT.trans az,p4.ext az,_,rfl,sW⟩)
 refine ve 3 (λx w1 G1 aS ug r8 hJ hlen=>?_) ?_
 obtain⟨q0,q1,q2,aW⟩:=Aj hlen
 subst aW
 obtain⟨jU,fT,p4,bb,D6,fH⟩:=hJ
 have gS:q2=_:=D6
 subst gS
 have iq:=(hS.bl.any fT).sub (L':=gb.toList++pN E b gb gt gy) (λx hx=>.inl (by rcases mA.1 hx with h|h;(·exact hS.mem.2 (by simp[h]));(·exact hS.T6 x h)))
 have Wa:∀x,x∈gb.toList++pN E b gb gt gy->x∈pN E b gb gt gy:=(λx hx=>by rcases mA.1 hx with h|h;(·exact yh.2 (by simp[h]));(·exact h))
 refine Cu (L:=pN E b gb gt gy) (row:=Bk.enc ⟨aM,regs,m.code⟩) iK fU rfl rfl rfl rfl rfl rfl iq rfl fH.all (by obtain⟨a7,n7,c7,e7,_⟩:=dJ p4;have e8:q0=_:=e7;subst e8;simp[Value.oneCell']) ⟨.val _,bc.fresh p4 (λx hx=>.inl (Wa x hx)),bc.fresh (V8.ext fT) (λx hx=>.inl (Wa x hx)),trivial⟩ (by simpa using(show m.blocks.length<100000000 from om)) λv9 g9 w2 cZ uo eZ=>?_
 exact fe G1 (Fr.of uo.aF (λx hx=>jU x (by rw[Hw];simp[hx]))) ((λx hx=>lL (r8 x hx) uo.aF.size)) (⟨g9,by simpa using cZ,fT.any.trans uo.aF,eZ.imp id (λh=>⟨_,h,fT.size⟩)⟩)
 exact FZ
 intro x MX G40 aS V4 aiZ hJ hlen
 obtain⟨q0,q1,q2,q3,aW⟩:=Mw hlen
 subst aW
 intro v6 d6
 have bg:=bg.go V4
 change OW _ _ _ _ _ (bo (bj _ x _) (zZ 6 [_,_,_,_,_,_,_,_,_,_,_,_,_,_,_,_,_,_])) _
 obtain⟨g2,cZ,ej,iO⟩:=hJ
 obtain⟨L2,fB,jq⟩:=hS.afK cZ ej iO
 obtain⟨a3,c3,e3⟩:=cZ.len
 have e4:q3=_:=e3
 subst e4
 have bg:=bg.gX
 refine gd (o:=0) QN rfl rfl rfl bg rfl λo3 gR bg df=>?_
 have fB:=fB.aF gR sm
 have hR:=((dS.refl E L w).add jq ej (λx hx=>(vL x hx).1)).aD gR (fB.mem.2 (.inr (.inl rfl))) mV
 refine W ?_
 exact⟨_,rfl,L2,⟨_,_,_,_,_,_,_,_,bg,fB⟩,hR⟩
theorem ai9 {a:ai} (h:dN a=true):bT m s a=(m,kn s a):=by unfold bT;rw[iP h]
theorem C6 (m:Mk) (k:ai):(m.cY k).code.length=m.code.length:=rfl
theorem ph (m:Mk) (h:ai) (ps:List ai):(m.cA h ps).code.length=m.code.length+1:=by simp[Mk.cA]
def Be (s:cD) (aK:List ai) (k:Nat):List ai:=(aK.take k).map λx=>aT (kn s x)
def yL (s:cD) (aK:List ai) (k:Nat):List ai:=(aK.take k).map λx=>bu (j5 s x)
theorem aja {aK:List ai} (h:k<aK.length):Be s aK (k+1)=Be s aK k++[aT (kn s (bX aK k))]:=by
 unfold Be;rw[List.take_add_one,km h];simp
theorem ajb {aK:List ai} (h:k<aK.length):yL s aK (k+1)=yL s aK k++[bu (j5 s (bX aK k))]:=by
 unfold yL;rw[List.take_add_one,km h];simp
theorem ajc {s:cD} {aK:List ai}:(Be s aK k).length<=aK.length:=by unfold Be;rw[List.length_map,List.length_take];omega
theorem ajd {s:cD} {aK:List ai}:(yL s aK k).length<=aK.length:=by unfold yL;rw[List.length_map,List.length_take];omega
theorem aje (s:cD) (aK:List ai):Be s aK aK.length=aK.map λx=>aT (kn s x):=by simp[Be]
theorem ajf (s:cD) (aK:List ai):yL s aK aK.length=aK.map λx=>bu (j5 s x):=by simp[yL]
theorem Ow {x:ai} (h:(look (ew s) x).isSome=true):nK (jE s) (oT s) x [] (jE s).length=(j5 s x).text:=by
 have h1:=U6 x (ew s)
 rw[V6,V7,Na h] at h1
 have e:(ew s).length=(jE s).length:=by simp[ew,jE]
 rw[e] at h1
 exact h1
theorem gk.sY {τ:sD} {vb vt vc vy:Value} {gb gt gc gy:Option Nat} (h:gk τ E L w b o vb vt vc vy gb gt gc gy m) (k:aj G w w') (hG:∀y,y∈G->y∈b::E) (hx:w.heap.size<=x) (vv:x<w'.heap.size):gk τ (x::E) (x::L) w' b o vb vt vc vy gb gt gc gy m:=by
 obtain⟨a1,a2,a3,a4,a5,a6⟩:=h.apart
 have rI:∀x,x∈G->x∈L:=λx hx=>h.mem.2 (by rcases mC.1 (hG x hx) with h1|h1<;>simp[h1])
 have hF:Fr L w (x::L) w':=⟨k.mono rI,λy hy=>by
  rcases mC.1 hy with rfl|hy
  ·exact .inr hx
  ·exact .inl hy⟩
 have out:∀x,x∉E->x≠b->x∉G:=λx h1 h2 h3=>by
  rcases mC.1 (hG x h3) with h4|h4
  ·exact h2 h4
  ·exact h1 h4
 refine⟨h.bl.aF hF k (λx hx=>out x (a3 x hx).1 (a3 x hx).2),h.ta.aF hF k (λx hx=>out x (a4 x hx).1 (a4 x hx).2.1),?_,h.ty.aF k (λx hx=>out x (a6 x (by simp[hx])).1 (a6 x (by simp[hx])).2.1),by rw[h.eL];rfl,List.nodup_cons.2 ⟨λh2=>by have:=h.cC _ h2;omega,h.nd⟩,λy hy=>?_⟩
 ·rcases h.co with⟨ho,h1⟩|⟨ho,hn,h1⟩
  ·exact .inl ⟨ho,h1.aF k λx hx=>out x (a5 x (by simp[hx])).1 (a5 x (by simp[hx])).2.1⟩
  ·exact .inr ⟨ho,hn,h1.go hF⟩
 ·rcases mC.1 hy with rfl|hy
  ·exact vv
  ·exact lL (h.cC y hy) k.size
theorem dG.sY {τ:sD} (h:dG τ E L w b o m) (k:aj G w w') (hG:∀y,y∈G->y∈E) (hx:w.heap.size<=x) (vv:x<w'.heap.size):dG τ (x::E) (x::L) w' b o m:=by
 obtain⟨vb,vt,vc,vy,gb,gt,gc,gy,h1,h2⟩:=h
 exact⟨vb,vt,vc,vy,gb,gt,gc,gy,h1.aF k (λhx=>h2.apart.2.1 (hG b hx)),h2.sY k (λx hx=>mK _ (hG x hx)) hx vv⟩
theorem dG.Wb {τ:sD}:∀{X L:List Nat},dG τ (X++E) L w b o m->∃L',L=X++L'∧dG τ E L' w b o m
 |[],L,h=>⟨L,rfl,h⟩
 |x::X,L,h=>by
  obtain⟨L1,e1,h1⟩:=dG.drop (E:=X++E) h
  obtain⟨L2,e2,h2⟩:=dG.Wb h1
  exact⟨L2,by rw[e1,e2];rfl,h2⟩
theorem dG.nd {τ:sD} (h:dG τ E L w b o m):L.Nodup:=by
 obtain⟨_,_,_,_,_,_,_,_,_,h2⟩:=h
 exact h2.nd
theorem dG.sub {τ:sD} (h:dG τ E L w b o m) (hx:x∈E):x∈L:=h.mem.1 x (mK _ hx)
structure qF (E L:List Nat) (w:World) (b:Nat) (m:Mk) (v1:Value) (g1:Option Nat) (rp:List ai) (v2:Value) (g2:Option Nat) (qG:List ai) (X L1:List Nat) (ww:World):Prop where
 mb:dG t8 (X++E) L1 ww b true m
 fe:dS E L w L1 ww
 s1:cG ww 9 v1 g1 rp
 s2:cG ww 9 v2 g2 qG
 x1:∀x,x∈g1.toList->x∈X∧x∉g2.toList
 x2:∀x,x∈g2.toList->x∈X∧x∉g1.toList
 xE:∀x,x∈X->x∉E
def C7 (E L:List Nat) (w:World) (b:Nat) (m:Mk) (v1:Value) (g1:Option Nat) (rp:List ai) (v2:Value) (g2:Option Nat) (qG:List ai) (ww:World):Prop:=∃X L1,qF E L w b m v1 g1 rp v2 g2 qG X L1 ww
section
variable {E L X L1 L2:List Nat} {w ww w':World} {b:Nat} {m:Mk} {v1 v2 v:Value} {g1 g2 g:Option Nat} {rp qG ys:List ai}
theorem qF.ext (h:qF E L w b m v1 g1 rp v2 g2 qG X L1 ww) (k:aj [] ww w'):qF E L w b m v1 g1 rp v2 g2 qG X L1 w':=⟨h.mb.ext k,h.fe.ext k,h.s1.ext k,h.s2.ext k,h.x1,h.x2,h.xE⟩
theorem qF.swap (h:qF E L w b m v1 g1 rp v2 g2 qG X L1 ww):qF E L w b m v2 g2 qG v1 g1 rp X L1 ww:=⟨h.mb,h.fe,h.s2,h.s1,h.x2,h.x1,h.xE⟩
theorem qF.Hy (h:qF E L w b m v1 g1 rp v2 g2 qG X L1 ww) (hO:cG w' 9 v g ys) (k:aj g1.toList ww w') (hg:g=g1∨∃x,g=some x∧ww.heap.size<=x):C7 E L w b m v g ys v2 g2 qG w':=by
 have hX:∀x,x∈g1.toList->x∈X++E:=λx hx=>List.mem_append_left _ (h.x1 x hx).1
 have hL:∀x,x∈g1.toList->x∈L1:=λx hx=>h.mb.sub (hX x hx)
 have hF:dS E L w L1 w':=h.fe.add (Fr.of k hL) k λx hx=>h.xE x (h.x1 x hx).1
 have h2:cG w' 9 v2 g2 qG:=h.s2.aF k λx hx hy=>(h.x2 x (by simp[hx])).2 hy
 rcases hg with rfl|⟨x,rfl,hx⟩
 ·exact⟨X,L1,⟨h.mb.aF k hX,hF,hO,h2,h.x1,h.x2,h.xE⟩⟩
 ·have mm:x<w'.heap.size:=hO.lt x sm
  refine⟨x::X,x::L1,⟨h.mb.sY k hX hx mm,⟨⟨hF.fr.aF,λy hy=>?_⟩,hF.out⟩,hO,h2,λy hy=>?_,λy hy=>?_,λy hy=>?_⟩⟩
  ·rcases mC.1 hy with rfl|hy
   ·exact .inr (Nat.le_trans h.fe.fr.aF.size hx)
   ·exact hF.fr.mem y hy
  ·have e:y=x:=by simpa using hy
   subst e
   exact⟨by simp,λhh=>by have:=h.s2.lt y hh;omega⟩
  ·refine⟨mK _ (h.x2 y hy).1,λhh=>?_⟩
   have e:y=x:=by simpa using hh
   subst e
   have:=h.s2.lt y hy;omega
  ·rcases mC.1 hy with rfl|hy
   ·intro hE
    have:=h.mb.db y (h.mb.sub (mR _ hE));omega
   ·exact h.xE y hy
theorem qF.A5 (h:qF E L w b m v1 g1 rp v2 g2 qG X L1 ww) (hO:cG w' 9 v g ys) (k:aj g2.toList ww w') (hg:g=g2∨∃x,g=some x∧ww.heap.size<=x):C7 E L w b m v1 g1 rp v g ys w':=
 let⟨X,L1,h⟩:=h.swap.Hy hO k hg;⟨X,L1,h.swap⟩
theorem qF.call {m':Mk} (h:qF E L w b m v1 g1 rp v2 g2 qG X L1 ww) (hM:dG t8 (X++E) L2 w' b true m') (k:dS (X++E) L1 ww L2 w'):qF E L w b m' v1 g1 rp v2 g2 qG X L2 w':=by
 obtain⟨G,kg,hG⟩:=k.out
 refine⟨hM,h.fe.add k.fr kg λx hx hE=>hG x hx (mR _ hE),h.s1.aF kg λx hx hy=>hG x hy (List.mem_append_left _ (h.x1 x (by simp[hx])).1),h.s2.aF kg λx hx hy=>hG x hy (List.mem_append_left _ (h.x2 x (by simp[hx])).1),h.x1,h.x2,h.xE⟩
theorem qF.done (h:qF E L w b m v1 g1 rp v2 g2 qG X L1 ww):∃L',dG t8 E L' ww b true m∧dS E L w L' ww∧bc L' ww v1 rp∧bc L' ww v2 qG:=by
 obtain⟨L',e,h1⟩:=h.mb.Wb
 have iS:=h.mb.nd
 rw[e,List.nodup_append] at iS
 have hs:∀x,x∈L'->x∈L1:=λx hx=>by rw[e];exact mR _ hx
 exact⟨L',h1,⟨⟨h.fe.fr.aF,λx hx=>h.fe.fr.mem x (hs x hx)⟩,h.fe.out⟩,h.s1.rep λx hx hy=>iS.2.2 x (h.x1 x (by simp[hx])).1 x hy rfl,h.s2.rep λx hx hy=>iS.2.2 x (h.x2 x (by simp[hx])).1 x hy rfl⟩
theorem C7.start (h:dG t8 E L w b true m) (k1:aj [] w w1) (aX:aJ w1 w.heap.size #[] 9) (k2:aj [] w1 w2) (aU:aJ w2 w1.heap.size #[] 9):C7 E L w b m (.slice (some ⟨w.heap.size,0,none⟩) 0 0) (some w.heap.size) [] (.slice (some ⟨w1.heap.size,0,none⟩) 0 0) (some w1.heap.size) [] w2:=by
 have h1:=aX.lt
 have h2:=aU.lt
 have hl:=h.db
 refine⟨[w1.heap.size,w.heap.size],w1.heap.size::w.heap.size::L,⟨(h.sY (E:=E) k1 sm (lR _) h1).sY k2 sm (lR _) h2,⟨⟨(k1.trans k2).any,λx hx=>?_⟩,[],k1.trans k2,sm⟩,(aX.ext k2).kM,aU.kM,λx hx=>?_,λx hx=>?_,λx hx hE=>?_⟩⟩
 ·rcases mC.1 hx with rfl|hx
  ·right;omega
  ·rcases mC.1 hx with rfl|hx
   ·right;omega
   ·exact .inl hx
 ·simp at hx;subst hx;simp;omega
 ·simp at hx;subst hx;simp;omega
 ·have:=hl x (h.sub hE)
  simp at hx;rcases hx with rfl|rfl<;>omega
end
theorem nN {a:Option Addr} {xs:List ai} (h:bc L w (.slice a n c) xs) (hi:i<xs.length):∃b off,a=some ⟨b,off,none⟩∧fy L w b (off+i*1) [str (bX xs i)]:=by
 obtain⟨b,off,vs,ha,hb,hL,hl,hc,hr⟩:=zn h (Re (km hi))
 rw[Rf hr] at hc
 exact⟨b,off,ha,hc,hb,hL⟩
theorem mh {hd:ai} {ps:List ai} (hh:hd.length<=100) (hp:ps.length<=45) (hs:∀p,p∈ps->p.length<=20000):(dR hd ps).length<=1000000:=by
 have h1:=AS (m:=20000) ps hs
 have h2:ps.length*20001<=45*20001:=Nat.mul_le_mul hp (lR _)
 rw[lG];omega
theorem lP (h:n<1000):(aT n).length<=20000:=by have:=sN h;omega
def Bf (s:cD) (ton:Nat) (aK:List ai) (on:ai):List ai:=aK.map (λx=>aT (kn s x))++(if on≠[] then[aT ton] else[])
theorem ajg (hs:jT s) {ton:Nat} (ht:ton<1000) {aK:List ai} {on:ai}:∀p,p∈Bf s ton aK on->p.length<=3:=λp hp=>by
 unfold Bf at hp
 rcases mA.1 hp with hp|hp
 ·obtain⟨x,_,rfl⟩:=List.mem_map.1 hp
  exact sN (GB hs x)
 ·split at hp
  ·simp only[List.mem_singleton] at hp;rw[hp];exact sN ht
  ·simp at hp
theorem ajh (s:cD) (ton:Nat) (aK:List ai) (on:ai):(Bf s ton aK on).length<=aK.length+1:=by
 unfold Bf
 rw[lA,List.length_map]
 split<;>simp
theorem aji (m:Mk) (s:cD) (ton:Nat) (aK:List ai) (on aM kind:ai) (bY:List ai) {R TY:List ai} {W C0:ai} {r:Nat} (hR:R=Bf s ton aK on) (Bg:TY=lH s aK on) (hW:W=dR [116] TY) (hC:C0=dR [99] (W::bY)) (hP:P0=dR [116] [C0,W]) (hr:r=m.types.length):
  oS m s ton aK on aM kind bY=⟨(((((((m.cY W).cA lx (aT r::R)).cY C0).cA sy [aT (r+1),aM]).cY P0).cA lx [aT (r+2),aT (r+1),aT r]).cY kind).cA sA [aT (r+3),aT (r+2),kind,W],r+3,W⟩:=by
 subst hP;subst hC;subst hW;subst Bg;subst hR;subst hr;rfl
theorem Wc (t:Tk) (m:Mk) (aK:List ai) (on aM kind:ai) (bY:List ai) (eK:∀x,x∈aK->dN x=true∧(look (ew t.sc) x).isSome=true) (hs:jT t.sc) (nC:t.sc.length<=9000) (oF:aK.length<=40) (rj:t.on<1000) (ky:on.length<=272) (GG:aM.length<=10) (wW:kind.length<=272) (dL:bY.length<=2) (M6:∀x,x∈bY->x.length<=272) (ht:m.types.length+4<1000) (hc:m.code.length<=8000) 
  (E L:List Nat) (b bt:Nat) (vn vd:Value) (w:World) (h:dG t8 E L w b true m) (hT:gI L w 112 bt t) (dX:bt∈E) (jK:bc L w vn aK) (uq:bc L w vd bY):
  bz Tryz.prog 169 [.pointer (some ⟨b,0,none⟩),.pointer (some ⟨bt,0,none⟩),vn,str on,str aM,str kind,vd] w λr w'=>r= .tuple #[.int .i64 ((oS m t.sc t.on aK on aM kind bY).r:Int),str (oS m t.sc t.on aK on aM kind bY).w]∧∃L',dG t8 E L' w' b true (oS m t.sc t.on aK on aM kind bY).m∧dS E L w L' w':=by
 obtain⟨an,nn,cn,rfl,rP⟩:=dJ jK
 obtain⟨ad,nd,cd,rfl,iS⟩:=dJ uq
 obtain⟨R,Hz⟩:∃x,x=Bf t.sc t.on aK on:=⟨_,rfl⟩
 obtain⟨TY,Bg⟩:∃x,x=lH t.sc aK on:=⟨_,rfl⟩
 obtain⟨W,hW⟩:∃x,x=dR [116] TY:=⟨_,rfl⟩
 obtain⟨C0,Kk⟩:∃x,x=dR [99] (W::bY):=⟨_,rfl⟩
 obtain⟨P0,sd⟩:∃x,x=dR [116] [C0,W]:=⟨_,rfl⟩
 obtain⟨r,HA⟩:∃r,r=m.types.length:=⟨_,rfl⟩
 obtain⟨c,Ox⟩:∃c,c=m.code.length:=⟨_,rfl⟩
 have t0:m.types.length=r:=HA.symm
 have c0:m.code.length=c:=Ox.symm
 rw[aji m t.sc t.on aK on aM kind bY Hz Bg hW Kk sd HA]
 have hWl:W.length<=11200:=by rw[hW,Bg];exact GC hs oF ky
 have hRl:R.length<=41:=by rw[Hz];have:=ajh t.sc t.on aK on;omega
 have SR:TY.length<=41:=by rw[Bg];have:=Ud t.sc aK on;omega
 have MP:∀p,p∈R->p.length<=3:=by rw[Hz];exact ajg hs rj
 have se:∀p,p∈TY->p.length<=272:=by rw[Bg];exact Ue hs ky
 have hCl:C0.length<=12000:=by
  have h1:=AS bY M6
  have h2:bY.length*(272+1)<=2*(272+1):=Nat.mul_le_mul dL (lR _)
  have h3:jv (W::bY)=1+W.length+jv bY:=by unfold jv;simp;omega
  rw[Kk,lG,h3];simp only[lC,List.length_nil];omega
 have Kl:P0.length<=25000:=by rw[sd,lG,AU];simp only[lC,List.length_nil];omega
 have ajk:=h
 refine bS [.tmp 14,.tmp 15] 131 Tryz.func169 rfl Z2 rfl rfl ?_
 refine zr<|zA<|zA<|aZ<|zr<|fR bh bf λw1 aI Cs ah8=>?_
 have HB:=aI
 refine zA<|aZ<|zr<|fR bh bf λw2 az C8 ajl=>?_
 have hP:=C7.start ajk HB Cs az C8
 refine zA<|aZ<|jL<|zr<|zA<|aZ<|tj<|eA (λq:Nat×(Value×Option Nat)×(Value×Option Nat)=>[(0,.pointer (some ⟨b,0,none⟩)),(1,.pointer (some ⟨bt,0,none⟩)),(2,.slice an nn cn),(3,str on),(4,str aM),(5,str kind),(6,.slice ad nd cd),(16,q.2.1.1),(17,q.2.2.1),(18,.int .i64 (q.1:Int))]) (λq w'=>C7 E L w b m q.2.1.1 q.2.1.2 (Be t.sc aK q.1) q.2.2.1 q.2.2.2 (yL t.sc aK q.1) w'∧q.1<=aK.length) (λq=>aK.length-q.1) ((0,(.slice (some ⟨w.heap.size,0,none⟩) 0 0,some w.heap.size),(.slice (some ⟨w1.heap.size,0,none⟩) 0 0,some w1.heap.size))) (⟨rfl,rfl,rfl,rfl,rfl,rfl,rfl,rfl,rfl,rfl⟩) (⟨hP,sm⟩) λgg w3 e3 hI=>?_
 obtain⟨k,⟨vr,gr⟩,vt,gt⟩:=gg
 obtain⟨⟨X,L1,hX⟩,hk⟩:=hI
 dsimp only at hX hk
 refine jL<|zr<|zm<|zm<|Fp bh rfl rfl rfl<|H8 rfl rfl rfl rfl rfl<|aZ<|zc rfl (λh1=>?_) (λh1=>?_)
 have az:k<aK.length:=(by simp at h1;omega)
 have hx:=km az
 have C9:=List.mem_of_getElem? hx
 have mm:=En (eK _ C9).1
 have ajm:=jK.go hX.fe.fr
 have cI:=hX.fe.tk hT dX
 have aQ:=pB ajm hx
 obtain⟨b1,eX,e1,bK⟩:=aQ
 cases e1
 refine WI ?_
 refine zi bh bf rfl rfl (by rw[rP];omega)<|zl gD rfl (bK 0 _ rfl)<|aA (AQ (bX aK k) w3) ?_
 rintro _ w4 ⟨rfl,aO⟩
 have fE:=aO.size
 have hX:=hX.ext aO
 refine aA (C5 t (bX aK k) m om om om nC (X++E) L1 b bt _ _ _ w4 hX.mb (hX.fe.tk hT dX) (mR _ dX)) ?_
 rintro v41 w5 ⟨Wd,L2,Hv,jq⟩
 rw[ai9 (eK _ C9).1] at Wd Hv
 subst Wd
 have hX:=hX.call Hv jq
 refine aA (ir (kn t.sc (bX aK k)+1) (kn t.sc (bX aK k)) om (by have:=GB hs (bX aK k);omega) w5) ?_
 rintro _ w6 ⟨rfl,bN⟩
 have od:=bN.size
 have hX:=hX.ext bN
 refine fc bh bf rfl rfl λw7 bW ajn oX=>?_
 have hX:=hX.ext bW
 refine rW bh bf rfl rfl rfl rfl rfl rfl hX.s1 ajn (by have:=ajc (s:=t.sc) (aK:=aK) (k:=k);omega) λv9 g9 w8 cZ cE eZ=>?_
 rw[<-aja az] at cZ
 have aQ:=hX.Hy cZ cE (eZ.imp id (λh=>⟨_,h,lR _⟩))
 obtain⟨X2,L2,hX⟩:=aQ
 have We:=hX
 have ey:∀x,x∈gt.toList->x∈L2:=(λx hx=>hX.mb.sub (List.mem_append_left _ (hX.x2 x hx).1))
 have aQ:=hX.fe.tk hT dX
 obtain⟨u1,u3,u4,u5,u6,u8,yK,hC⟩:=aQ
 have cX:dM gt.toList w8 bt [str t.aM,u1,.int .i64 (t.loads:Int),u3,u4,u5,u6,str t.expr.au.aw,u8,.int .i64 (t.on:Int),str t.aV,.int .i64 (t.next:Int)].toArray 112:=⟨yK,λhx=>hX.xE bt (hX.x2 bt hx).1 dX⟩
 have GP:bc gt.toList w8 u4 (jE t.sc):=bc.fresh hC.aK (λx hx=>.inl (ey x hx))
 have Oy:bc gt.toList w8 u6 (oT t.sc):=bc.fresh hC.types (λx hx=>.inl (ey x hx))
 have yM:bc gt.toList w8 (.slice (some ⟨b1,eX,none⟩) nn cn) aK:=bc.fresh (jK.go hX.fe.fr) (λx hx=>.inl (ey x hx))
 have aQ:=nN yM az
 obtain⟨b2,lF,e2,bU⟩:=aQ
 cases e2
 have pU:eO gt.toList w8:=(λx hx=>hX.s2.lt x hx)
 refine zA<|aZ ?_
 apply jF dj gt.toList 17 (rA 45 17) (rA 45 17) [[],[],[1],[2],[3],[],[5],[6],[7],[],[],[9,10],[11],[4,8,12],[13],[14],[0,15]] [Ie.v _,Ie.v _,Ie.v _,Ie.v _,Ie.v _,Ie.v _,Ie.v _,Ie.v _,Ie.v _,Ie.v _,Ie.v _,Ie.v _,Ie.v _,Ie.v _,Ie.v _,Ie.p (fun(G:List Nat) (v:Value) (ww:World)=>∃bb,v= .slice (some ⟨bb,0,none⟩) 1 1∧dM G ww bb [str (bu (j5 t.sc (bX aK k)))].toArray 9),Ie.e 0] [16] [fun(G:List Nat) (vs:List Value) (ww:World)=>G=gt.toList∧aj [] w8 ww,fun(G:List Nat) (vs:List Value) (ww:World)=>∃g2,cG ww 9 (vs.getD 0 undef) g2 (yL t.sc aK (k+1))∧aj gt.toList w8 ww∧(g2=gt∨∃x,g2=some x∧w8.heap.size<=x)] de rfl pU (by exact⟨λG v w G' w' ⟨bb,e,h⟩ k=>⟨bb,e,h.go k⟩,trivial⟩) (by exact⟨λG vs w w' ⟨h1,h2⟩ k=>⟨h1,h2.ext k⟩,λG vs w w' ⟨g2,h1,h2,h3⟩ k=>⟨g2,h1.ext k,h2.ext k,h3⟩,trivial⟩) (⟨rfl,aj.refl _ _⟩)
 refine vf (λ_ _ _ _ _ _=>WZ fv) ?_
 refine vf (λ_ _ _ _ _ _=>WZ fv) ?_
 refine vf (λ_ _ _ _ _ _=>WZ fv) ?_
 refine vf (λ_ _ _ _ _ _=>WZ fv) ?_
 refine vf (λx w9 G9 aS cP mI=>?_) ?_
 have cX:=cX.go cP
 refine WZ ?_
 exact fv
 refine vf (λ_ _ _ _ _ _=>WZ fv) ?_
 refine vf (λ_ _ _ _ _ _=>WZ fv) ?_
 refine vf (λ_ _ _ _ _ _=>WZ fv) ?_
 refine FA ?_
 refine vf (λx w9 G9 aS cP mI=>?_) ?_
 have GP:=GP.go cP;have Oy:=Oy.go cP
 refine aA (GS (jE t.sc) (oT t.sc) (by simp[jE,oT]) (by simp[jE];omega) (bX aK k) _ _ _ _ w9 GP Oy) ?_
 rintro _ cu ⟨rfl,cB⟩
 have CM:=cB.size
 exact fk cB
 refine vf (λx w9 G9 aS cP mI=>?_) ?_
 refine aA ((Ow (eK _ C9).2▸vK (j5 t.sc (bX aK k)) (by have:=Jl hs (bX aK k);omega) w9)) ?_
 rintro _ cu ⟨rfl,cB⟩
 have CM:=cB.size
 exact fk cB
 refine vf (λx w9 G9 aS cP mI=>?_) ?_
 refine fc bh bf rfl rfl λcu cB HC Cg=>?_
 exact ff cB (⟨_,rfl,HC.o mI⟩)
 refine ve 0 (λx w9 G9 aS cP mI hJ hlen=>?_) ?_
 have aW:=jg hlen
 subst aW
 intro A7 d15
 obtain⟨bb,e6,fH⟩:=d15
 subst e6
 obtain⟨bO,bP⟩:=hJ
 subst bO
 have ajo:=We.s2.ext bP
 refine rW bh bf rfl rfl rfl rfl rfl rfl ajo fH.gX (by have:=ajd (s:=t.sc) (aK:=aK) (k:=k);omega) λv9 g9 cu cZ aB eZ=>?_
 rw[<-ajb az] at cZ
 exact fe g9.toList (⟨aB,λx hx=>by rcases eZ with h|h;(·rw[h] at hx;exact .inl hx);(·rw[h] at hx;simp at hx;right;omega)⟩) ((λx hx=>cZ.lt x hx)) (⟨g9,cZ,bP.any.trans aB,eZ.imp id (λh=>⟨_,h,bP.size⟩)⟩)
 exact trivial
 intro x lK JX aS EI NQ hJ hlen
 have aQ:=jh hlen
 obtain⟨q0,aW⟩:=aQ
 subst aW
 intro A7 d15
 change OW _ _ _ _ _ (bo (bj _ x _) (zZ 45 [_,_,_,_,_,_,_,_,_,_,_,_,_,_,_,_,_])) _
 obtain⟨g2,cZ,aB,eZ⟩:=hJ
 have Oz:=We.A5 cZ aB eZ
 refine zA<|aZ<|kH<|zm<|mX rfl rfl rfl rfl rfl (wrap_i64 _ om om)<|zA<|aZ ?_
 exact⟨(k+1,(_,_),(_,g2)),⟨rfl,rfl,rfl,rfl,rfl,rfl,rfl,rfl,rfl,rfl⟩,⟨Oz,by show k+1<=_;omega⟩,by show aK.length-(k+1)<aK.length-k;omega⟩
 have ej:k=aK.length:=(by simp at h1;omega)
 subst ej
 rw[aje,ajf] at hX
 refine zj<|zk rfl<|jL<|zr<|zm<|K1 rfl rfl rfl rfl<|aZ<|ix (λq:(Value×Option Nat)×(Value×Option Nat)=>[(0,.pointer (some ⟨b,0,none⟩)),(4,str aM),(5,str kind),(6,.slice ad nd cd),(16,q.1.1),(17,q.2.1)]) (λq ww=>C7 E L w b m q.1.1 q.1.2 R q.2.1 q.2.2 TY ww) ?_ ?_
 refine zc rfl (λh2=>?_) (λh2=>?_)
 have HD:on≠[]:=(by simpa using h2)
 have OB:aK.map (λx=>aT (kn t.sc x))++[aT t.on]=R:=(by rw[Hz];unfold Bf;rw[iP HD])
 have OC:aK.map (λx=>bu (j5 t.sc x))++[on]=TY:=(by rw[Bg];unfold lH;rw[iP HD])
 have aQ:=hX.fe.tk hT dX
 obtain⟨u1,u3,u4,u5,u6,u8,yK,hC⟩:=aQ
 have cX:aJ w3 bt [str t.aM,u1,.int .i64 (t.loads:Int),u3,u4,u5,u6,str t.expr.au.aw,u8,.int .i64 (t.on:Int),str t.aV,.int .i64 (t.next:Int)].toArray 112:=yK
 refine zr<|zm<|zm<|Fo rfl rfl rfl<|zf QI rfl<|zl Ls rfl (cX.at rfl)<|aA (ir (t.on+1) t.on om om w3) ?_
 rintro _ w4 ⟨rfl,aO⟩
 have fE:=aO.size
 have hX:=hX.ext aO
 refine fc bh bf rfl rfl λw5 aN OD ig=>?_
 have hX:=hX.ext aN
 refine rW bh bf rfl rfl rfl rfl rfl rfl hX.s1 OD so λv9 g9 w6 cZ bN eZ=>?_
 rw[OB] at cZ
 have aQ:=hX.Hy cZ bN (eZ.imp id (λh=>⟨_,h,lR _⟩))
 obtain⟨X3,L3,hX⟩:=aQ
 refine zA<|aZ<|kH<|zm<|zm<|fc bh bf rfl rfl λw7 bW OE oX=>?_
 have hX:=hX.ext bW
 refine rW bh bf rfl rfl rfl rfl rfl rfl hX.s2 OE so λv10 g10 w8 Wf cE ajp=>?_
 rw[OC] at Wf
 have Oz:=hX.A5 Wf cE (ajp.imp id (λh=>⟨_,h,lR _⟩))
 refine zA<|aZ ?_
 exact⟨((_,g9),(_,g10)),⟨rfl,rfl,rfl,rfl,rfl,rfl⟩,Oz⟩
 have HD:¬on≠[]:=(by simpa using h2)
 have OB:aK.map (λx=>aT (kn t.sc x))=R:=(by rw[Hz];unfold Bf;rw[iN HD,List.append_nil])
 have OC:aK.map (λx=>bu (j5 t.sc x))=TY:=(by rw[Bg];unfold lH;rw[iN HD,List.append_nil])
 rw[OB,OC] at hX
 refine WZ ?_
 exact⟨((_,_),(_,_)),⟨rfl,rfl,rfl,rfl,rfl,rfl⟩,_,_,hX⟩
 intro gu w4 e4 hI
 obtain⟨⟨vr2,gr2⟩,Cv,gt2⟩:=gu
 dsimp only at hI⊢
 obtain⟨X2,L2,hX2⟩:=hI
 have aQ:=hX2.done
 obtain⟨L0,av,hR,yN,eR⟩:=aQ
 refine zr<|zm<|aA ((show bz Tryz.prog 55 [str [116],Cv] w4 (λr w'=>r=str W∧aj [] w4 w') from by rw[hW];exact yg [116] TY (by rw[<-hW];omega) _ _ w4 eR)) ?_
 rintro _ w5 ⟨rfl,aN⟩
 have l3:=aN.size
 refine cN aN av hR yN λav hR yN=>?_
 refine zA<|aZ<|zr<|zm<|zm<|aA (r7 W m om E L0 b true w5 av) ?_
 rintro v10 w6 ⟨fo,L1,av,bC⟩
 rw[t0] at fo
 subst fo
 have hR:=hR.go bC
 have ik:∃x,x=m.cY W:=⟨_,rfl⟩
 obtain⟨m1,ll⟩:=ik
 rw[<-ll] at av
 have t1:m1.types.length=r+1:=(by rw[ll,ym];omega)
 have c1:m1.code.length=c+0:=(by rw[ll,C6];omega)
 have cR:=av.db
 have yN:=yN.go bC.fr
 refine zA<|aZ<|zr<|zm<|zm<|aA (ir (r+1) r om om w6) ?_
 rintro _ w7 ⟨rfl,bW⟩
 have lf:=bW.size
 refine cN bW av hR yN λav hR yN=>?_
 have cR:=av.db
 refine fc bh bf rfl rfl λw8 cE EX ld=>cN cE av hR yN λav hR yN=>?_
 refine zm<|aA (ua [aT r] R so _ _ L1 w8 (aJ.dK [aT r] EX (λhx=>by have:=cR _ hx;omega)) yN av.db) ?_
 rintro v9 w9 ⟨eS,aB⟩
 have o7:=aB.size
 refine cN aB av hR EX λav hR EX=>?_
 have Wg:=eS
 have aQ:=dJ Wg
 obtain⟨a13,n13,c13,Hx,_⟩:=aQ
 subst Hx
 clear EX
 refine aA (kG lx ([aT r]++R) (mh de so (by intro p hp;rcases mA.1 hp with hp|hp;(·simp at hp;subst hp;exact lP om);(·have:=MP p hp;omega))) m1 om E L1 b _ w9 av Wg) ?_
 rintro jC cu ⟨L2,av,bC⟩
 have hR:=hR.go bC
 have fj:∃x,x=m1.cA lx ([aT r]++R):=⟨_,rfl⟩
 obtain⟨m2,ln⟩:=fj
 rw[<-ln] at av
 have t2:m2.types.length=r+1:=(by rw[ln,ot];omega)
 have c2:m2.code.length=c+1:=(by rw[ln,ph];omega)
 have cR:=av.db
 have OF:=uq.go hR.fr
 refine aZ<|zr<|zm<|fc bh bf rfl rfl λeD dd Km vi=>cN dd av hR OF λav hR OF=>?_
 refine zm<|aA (ua [W] bY so _ _ L2 eD (aJ.dK [W] Km (λhx=>by have:=cR _ hx;omega)) OF av.db) ?_
 rintro v12 fA ⟨HE,di⟩
 have EM:=di.size
 refine cN di av hR Km λav hR Km=>?_
 have Wh:=HE
 have aQ:=dJ Wh
 obtain⟨a14,n14,c14,gS,_⟩:=aQ
 subst gS
 clear Km
 refine aA ((show bz Tryz.prog 55 [str [99],.slice a14 n14 c14] fA (λr w'=>r=str C0∧aj [] fA w') from by rw[Kk];exact yg [99] (W::bY) (by rw[<-Kk];omega) _ _ fA Wh)) ?_
 rintro _ jB ⟨rfl,gv⟩
 have Hu:=gv.size
 refine bI gv av hR λav hR=>?_
 refine zA<|aZ<|zr<|zm<|zm<|aA (r7 C0 m2 om E L2 b true jB av) ?_
 rintro v10 iG ⟨fo,L3,av,bC⟩
 rw[t2] at fo
 subst fo
 have hR:=hR.go bC
 have yO:∃x,x=m2.cY C0:=⟨_,rfl⟩
 obtain⟨m3,lp⟩:=yO
 rw[<-lp] at av
 have t3:m3.types.length=r+2:=(by rw[lp,ym];omega)
 have c3:m3.code.length=c+1:=(by rw[lp,C6];omega)
 have cR:=av.db
 refine zA<|aZ<|zr<|zm<|zm<|aA (ir ((r+1)+1) (r+1) om om iG) ?_
 rintro _ p3 ⟨rfl,jJ⟩
 have OG:=jJ.size
 refine bI jJ av hR λav hR=>?_
 have cR:=av.db
 refine zm<|kL bh bf rfl rfl rfl rfl λlk mJ Da Ha=>bI mJ av hR λav hR=>?_
 refine aA (kG sy [aT (r+1),aM] (mh de sm (by intro p hp;simp at hp;rcases hp with rfl|rfl;(·exact lP om);(·omega))) m3 om E L3 b _ lk av (aJ.dK [aT (r+1),aM] Da (λhx=>by have:=cR _ hx;omega))) ?_
 rintro jC C4 ⟨L4,av,bC⟩
 have hR:=hR.go bC
 clear Da
 have Db:∃x,x=m3.cA sy [aT (r+1),aM]:=⟨_,rfl⟩
 obtain⟨m4,ox⟩:=Db
 rw[<-ox] at av
 have t4:m4.types.length=r+2:=(by rw[ox,ot];omega)
 have c4:m4.code.length=c+2:=(by rw[ox,ph];omega)
 have cR:=av.db
 refine aZ<|zr<|zm<|zm<|zm<|kL bh bf rfl rfl rfl rfl λxw Dc Kn Ob=>bI Dc av hR λav hR=>?_
 refine aA ((show bz Tryz.prog 55 [str [116],_] xw (λr w'=>r=str P0∧aj [] xw w') from by rw[sd];exact yg [116] [C0,W] (by rw[<-sd];omega) _ L4 xw (aJ.dK [C0,W] Kn (λhx=>by have:=cR _ hx;omega)))) ?_
 rintro _ Dd ⟨rfl,Bh⟩
 have apH:=Bh.size
 refine cN Bh av hR Kn λav hR Kn=>?_
 clear Kn
 refine aA (r7 P0 m4 om E L4 b true Dd av) ?_
 rintro v10 vO ⟨fo,L5,av,bC⟩
 rw[t4] at fo
 subst fo
 have hR:=hR.go bC
 have OH:∃x,x=m4.cY P0:=⟨_,rfl⟩
 obtain⟨m5,yP⟩:=OH
 rw[<-yP] at av
 have t5:m5.types.length=r+3:=(by rw[yP,ym];omega)
 have c5:m5.code.length=c+2:=(by rw[yP,C6];omega)
 have cR:=av.db
 refine zA<|aZ<|zr<|zm<|zm<|aA (ir ((r+2)+1) (r+2) om om vO) ?_
 rintro _ rq ⟨rfl,xz⟩
 have apI:=xz.size
 refine bI xz av hR λav hR=>?_
 have cR:=av.db
 refine zm<|aA (ir ((r+1)+1) (r+1) om om rq) ?_
 rintro _ Ko ⟨rfl,HF⟩
 have apJ:=HF.size
 refine bI HF av hR λav hR=>?_
 have cR:=av.db
 refine zm<|aA (ir (r+1) r om om Ko) ?_
 rintro _ Wi ⟨rfl,Kp⟩
 have apK:=Kp.size
 refine bI Kp av hR λav hR=>?_
 have cR:=av.db
 refine pO bh bf rfl rfl rfl rfl rfl λw24 Bi Kq ajv=>bI Bi av hR λav hR=>?_
 refine aA (kG lx [aT (r+2),aT (r+1),aT r] (mh de sm (by intro p hp;simp at hp;rcases hp with rfl|rfl|rfl<;>exact lP om)) m5 om E L5 b _ w24 av (aJ.dK [aT (r+2),aT (r+1),aT r] Kq (λhx=>by have:=cR _ hx;omega))) ?_
 rintro jC w25 ⟨L6,av,bC⟩
 have hR:=hR.go bC
 clear Kq
 have OI:∃x,x=m5.cA lx [aT (r+2),aT (r+1),aT r]:=⟨_,rfl⟩
 obtain⟨m6,yQ⟩:=OI
 rw[<-yQ] at av
 have t6:m6.types.length=r+3:=(by rw[yQ,ot];omega)
 have c6:m6.code.length=c+3:=(by rw[yQ,ph];omega)
 have cR:=av.db
 refine aZ<|zr<|zm<|zm<|aA (r7 kind m6 om E L6 b true w25 av) ?_
 rintro v10 w26 ⟨fo,L7,av,bC⟩
 rw[t6] at fo
 subst fo
 have hR:=hR.go bC
 have hx7:∃x,x=m6.cY kind:=⟨_,rfl⟩
 obtain⟨m7,Kr⟩:=hx7
 rw[<-Kr] at av
 have t7:m7.types.length=r+4:=(by rw[Kr,ym];omega)
 have c7:m7.code.length=c+3:=(by rw[Kr,C6];omega)
 have cR:=av.db
 refine zA<|aZ<|zr<|zm<|zm<|aA (ir ((r+3)+1) (r+3) om om w26) ?_
 rintro _ w27 ⟨rfl,Wj⟩
 have apL:=Wj.size
 refine bI Wj av hR λav hR=>?_
 have cR:=av.db
 refine zm<|aA (ir ((r+2)+1) (r+2) om om w27) ?_
 rintro _ w28 ⟨rfl,Wk⟩
 have apN:=Wk.size
 refine bI Wk av hR λav hR=>?_
 have cR:=av.db
 refine zm<|zm<|yj bh bf rfl rfl rfl rfl rfl rfl λw29 ajB Wl JP=>bI ajB av hR λav hR=>?_
 refine aA (kG sA [aT (r+3),aT (r+2),kind,W] (mh de sm (by intro p hp;simp at hp;rcases hp with rfl|rfl|rfl|rfl;(·exact lP om);(·exact lP om);(·omega);(·omega))) m7 om E L7 b _ w29 av (aJ.dK [aT (r+3),aT (r+2),kind,W] Wl (λhx=>by have:=cR _ hx;omega))) ?_
 rintro jC w30 ⟨L8,av,bC⟩
 have hR:=hR.go bC
 clear Wl
 have Wm:∃x,x=m7.cA sA [aT (r+3),aT (r+2),kind,W]:=⟨_,rfl⟩
 obtain⟨m8,Ks⟩:=Wm
 rw[<-Ks] at av
 have t8:m8.types.length=r+4:=(by rw[Ks,ot];omega)
 have c8:m8.code.length=c+4:=(by rw[Ks,ph];omega)
 have cR:=av.db
 refine aZ<|zr<|zm<|zm<|zA<|zA<|aZ<|jZ ?_
 subst Ks Kr yQ yP ox lp ln ll
 exact⟨_,rfl,rfl,_,av,hR⟩
theorem Wn {aK:List ai} (h:i<aK.length):im s k (aK.take (i+1)) []=im s k (aK.take i) []++[(bX aK i,k+i,j5 s (bX aK i))]:=by grind [im,km,List.take_add_one,Option.toList_some,List.length_take,Nat.min_eq_left,Nat.le_of_lt]
def qH:Ex:=.bi [43] (.at [49]) (.at [50])
def Kt:ai:=[40,43,32,49,32,50,41]
theorem ajC:nk qH=some qH:=rfl
theorem OJ:qH.ok:=by refine⟨by decide,?_,?_⟩<;>(show qg _=true;decide+kernel)
theorem Wo:qH.au.text=Kt:=by decide+kernel
theorem Wp:bA Kt=some qH.au:=by
 rw[<-Wo]
 exact LO (Ex.wf OJ) (by decide+kernel) (by decide+kernel)
theorem type12:bw qH []=some .i:=by rfl
theorem ajD:(ofM qH .i).wide=false:=by decide+kernel
theorem ajE:ju (ofM qH .i).blocks=true:=by decide+kernel
theorem ajF {x:ai} (e:Ex):Fv x e->dN x=true:=by
 induction e with
 |«at» s=>exact λh=>h.2
 |un hd a ih=>exact ih
 |bi hd a b i1 i2=>exact λh=>h.elim i1 i2
 |ite a b c i1 i2 i3=>exact λh=>h.elim i1 λh=>h.elim i2 i3
 |lt y a b i1 i2=>exact λh=>h.elim i1 λh=>i2 h.2
 |fn f y A B e ih=>exact λh=>ih h.2.2
theorem Wq {bd:List ai} {x:ai} (h:x∈cH e bd []):dN x=true:=by
 rcases(B3 x e bd []).1 h with h|h
 ·simp at h
 ·exact ajF _ h.1
theorem Wr (x0:ByteArray) (a1:Option Addr) (n1 c1:Nat) (x2:Int) (x7:ByteArray) (a8:Option Addr) (n8 c8:Nat) (x9:Int) (EY:ByteArray) (Ws:Int) (w:World):(Instr.build 112 #[(0,.string x0),(1,.slice a1 n1 c1),(2,.int .i64 x2),(7,.agg #[.string x7,.slice a8 n8 c8]),(8,.int .i64 x9),(9,.string EY),(10,.int .i64 Ws)]).run Tryz.prog w= .ok (.agg #[.string x0,.slice a1 n1 c1,.int .i64 x2,.slice none 0 0,.slice none 0 0,.slice none 0 0,.slice none 0 0,.string x7,.slice a8 n8 c8,.int .i64 x9,.string EY,.int .i64 Ws]) w:=by kernel_rfl
def sZ (X G:List Nat) (w:World) (v:Value) (xs:List ai):Prop:=bc (X++G) w v xs
theorem sZ.go {X G':List Nat} {xs:List ai} (h:sZ X G w v xs) (k:Fr G w G' w'):sZ X G' w' v xs:=bc.go h (k.in X)
theorem Ku {X:List Nat} (h:∀x,x∈X->x<w0.heap.size) (hs:w0.heap.size<=w.heap.size) (hG:eO G w):∀x,x∈X++G->x<w.heap.size:=λx hx=>by
 rcases mA.1 hx with h1|h1
 ·exact lL (h x h1) hs
 ·exact hG x h1
theorem dS.more (h:dS E L w L1 w1) (k:aj G w1 w2) (hG:∀y,y∈G->w1.heap.size<=y) (hx:w1.heap.size<=x) (hE:∀y,y∈E->y<w1.heap.size):dS E L w (x::L1) w2:=by
 have k2:aj [] w1 w2:=(aj.refl [] w1).since k λy hy=>.inr (hG y hy)
 have h1:=h.ext k2
 exact⟨⟨h1.fr.aF,λy hy=>by
  rcases mC.1 hy with rfl|hy
  ·exact .inr (Nat.le_trans h.fr.aF.size hx)
  ·exact h.fr.mem y hy⟩,h1.out⟩
theorem dS.sub {L2:List Nat} (h:dS E L w L1 w1) (hs:∀x,x∈L2->x∈L1):dS E L w L2 w1:=⟨⟨h.fr.aF,λx hx=>h.fr.mem x (hs x hx)⟩,h.out⟩
def ur (aM:ai) (W:ai) (nd:List ai) (FR:List ai) (rest:Ex) (aV:ai) (sc:cD):Tk:=⟨aM,W::nd,FR.length+1,[],sc,rest,2+FR.length,aV,2⟩
theorem ajG (m:Mk) (s:cD) (ton:Nat) (aV name:ai) (kind:Ty) (rest:Ex) {FR:List ai} (hF:FR=cH rest [name] []) (hP:P=oS m.k7 s ton FR aV m.aM (dz (bu kind)) [bu kind]):
  tO m s ton aV name kind rest=({P.m with bF:=m.bF++[ur m.aM P.w [bu kind] FR rest aV (im s 2 FR []++[(name,1,kind)])]},P.r,dz (bu kind)):=by
 subst hP;subst hF;rfl
theorem Wt {ton:Nat} {aK:List ai} {on aM kind:ai} {bY:List ai} (hP:P=oS m.k7 s ton aK on aM kind bY):P.m.bF=m.bF∧P.r=m.types.length+3∧P.w=dR [116] (lH s aK on):=by
 subst hP;exact⟨rfl,rfl,rfl⟩
theorem Wu (t:Tk) (m:Mk) (name:ai) (kind:Ty) (rest:Ex) (ba:rest.ok) (rf:rest.n<=1000) (sO:∀x,x∈cH rest [name] []->(look (ew t.sc) x).isSome=true) (mE:(cH rest [name] []).length<=40) (hs:jT t.sc) (nC:t.sc.length<=9000) (hk:kind.n<=16) (rj:t.on<1000) (ky:t.aV.length<=272) (ht:m.types.length+4<1000) (hc:m.code.length<=8000) (wP:m.count<1000) (fF:m.bF.length<100000) 
  (E L:List Nat) (b bt:Nat) (v:Value) (w:World) (h:dG t8 E L w b true m) (hT:gI L w 112 bt t) (dX:bt∈E) (hv:bB L w v rest.au):
  bz Tryz.prog 148 [.pointer (some ⟨b,0,none⟩),.pointer (some ⟨bt,0,none⟩),str name,str kind.text,v] w λr w'=>∃L',dG t8 E L' w' b true (tO m t.sc t.on t.aV name kind rest).1∧gI L' w' 112 bt {t with on:=(tO m t.sc t.on t.aV name kind rest).2.1,aV:=(tO m t.sc t.on t.aV name kind rest).2.2}∧Fr L w L' w'∧∃G,aj G w w'∧∀z,z∈G->z∈E->z=bt:=by
 obtain⟨ar,nr,cr,rfl,p5,aP⟩:=cU hv
 have lq:=h.db
 obtain⟨FR,yR⟩:∃x,x=cH rest [name] []:=⟨_,rfl⟩
 obtain⟨P,hP⟩:∃x,x=oS m.k7 t.sc t.on FR t.aV m.aM (dz (bu kind)) [bu kind]:=⟨_,rfl⟩
 rw[ajG m t.sc t.on t.aV name kind rest yR hP]
 obtain⟨HG,Bj,hPw⟩:=Wt hP
 rw[<-yR] at mE sO
 have eK:∀x,x∈FR->dN x=true∧(look (ew t.sc) x).isSome=true:=λx hx=>⟨Wq (by rw[<-yR];exact hx),sO x hx⟩
 have fb:=pP hk
 have oF:=tX hk
 have yb:=AV wP
 have hK:=aj.refl [] w
 have tT:b∉E:=h.mem.2.2.1
 have EZ:b∈L:=h.mem.1 b sm
 refine bS [] 109 Tryz.func148 rfl ZQ rfl rfl ?_
 refine zr<|eH rfl λw1 aI cW dk=>?_
 have hK:=hK.ext aI
 refine W ?_
 refine fc bh bf rfl rfl λw2 az sW dC=>bI az hK cW λhK cW=>?_
 refine fR bh bf λw3 aH vC gJ=>cN aH hK cW sW λhK cW sW=>?_
 refine aA (JH rest.n rest (lR _) rf ba [name] [] so so _ _ _ (some w2.heap.size) w3 ((hv.fresh (L':=[w2.heap.size]) (λx hx=>.inr (by simp at hx;omega))).ext hK) (aJ.dK [name] sW (λhx=>by simp at hx;omega)) vC.kM) ?_
 rintro Kv w4 ⟨g22,HH,Bl⟩
 rw[<-yR] at HH
 have jI:aj [] w w4:=(hK.since Bl.aF (λx hx=>.inr (by simp at hx;omega)))
 have OK:∀x,x∈g22.toList->w.heap.size<=x:=(λx hx=>by rcases Bl.mem x hx with h9|h9;(·simp at h9;omega);(·omega))
 have gT:bc L w4 Kv FR:=HH.rep (λx hx OL=>by have:=OK x (by simp[hx]);have:=lq x OL;omega)
 have aQ:=dJ gT
 obtain⟨OM,n22,OO,OP,OQ⟩:=aQ
 subst OP
 subst OQ
 have cW:dM L w4 w.heap.size [str rest.au.aw,.slice ar nr cr].toArray 78:=⟨cW.aF Bl.aF so,λhx=>by have:=lq _ hx;omega⟩
 have av:=h.ext jI
 have hR:=(dS.refl E L w).ext jI
 clear sW vC
 refine W ?_
 refine aA (Ot m om E L b true w4 av) ?_
 rintro v24 w5 ⟨⟨OR,av⟩,Bi⟩
 subst OR
 have hR:=hR.aD Bi EZ tT
 have gT:=bQ.aD gT Bi (by simpa using EZ)
 have cW:=cW.aD Bi (by simpa using EZ)
 refine W ?_
 refine aA (vK kind om w5) ?_
 rintro _ w6 ⟨rfl,bN⟩
 have od:=bN.size
 refine ie bN cW av hR gT λcW av hR gT=>?_
 refine aA (Hs (bu kind) om w6) ?_
 rintro _ w7 ⟨rfl,bW⟩
 have lf:=bW.size
 refine ie bW cW av hR gT λcW av hR gT=>?_
 have cR:=av.db
 refine W ?_
 refine aA (vK kind om w7) ?_
 rintro _ w8 ⟨rfl,cE⟩
 have A4:=cE.size
 refine ie cE cW av hR gT λcW av hR gT=>?_
 have cR:=av.db
 refine fc bh bf rfl rfl λw9 aB Bm df=>ie aB cW av hR gT λcW av hR gT=>?_
 refine W ?_
 have uq:bc L w9 _ [bu kind]:=aJ.dK [bu kind] Bm (λhx=>by have:=cR _ hx;omega)
 have aQ:=hR.tk hT dX
 obtain⟨u1,u3,u4,u5,u6,u8,yK,hC⟩:=aQ
 have cX:aJ w9 bt [str t.aM,u1,.int .i64 (t.loads:Int),u3,u4,u5,u6,str t.expr.au.aw,u8,.int .i64 (t.on:Int),str t.aV,.int .i64 (t.next:Int)].toArray 112:=yK
 refine W ?_
 refine aA (Wc t m.k7 FR t.aV m.aM (dz (bu kind)) [bu kind] eK hs nC mE rj ky om om sm (by intro x hx;simp at hx;subst hx;omega) ht hc E L b bt _ _ w9 av (hR.tk hT dX) dX gT uq) ?_
 rintro v42 cu ⟨yc,L1,av,bC⟩
 rw[<-hP] at yc av
 subst yc
 have hR:=hR.go bC;have gT:=gT.go bC.fr;have uq:=uq.go bC.fr;have cW:=cW.go bC.fr
 have ajK:dM [] cu w.heap.size [str rest.au.aw,.slice ar nr cr].toArray 78:=⟨cW.gX,sm⟩
 have yM:sZ L1 [] cu _ [bu kind]:=(by unfold sZ;rw[List.append_nil];exact uq)
 have aQ:=hR.tk hT dX
 obtain⟨u1,u3,u4,u5,u6,u8,yK,hC⟩:=aQ
 have cX:dM [] cu bt [str t.aM,u1,.int .i64 (t.loads:Int),u3,u4,u5,u6,str t.expr.au.aw,u8,.int .i64 (t.on:Int),str t.aV,.int .i64 (t.next:Int)].toArray 112:=⟨yK,sm⟩
 have uw:=av.db
 have apP:=cW
 have cW:=ajK
 have HI:=gT
 have lO:=av
 have um:=hR
 clear Bm
 refine W ?_
 apply jF dj ([]) 18 (rA 45 17++[16]) (rA 45 17++[16]) [[],[],[1],[],[2,3],[],[5],[6],[],[],[9],[10],[],[12],[13],[14],[0,4,7,8,11,15],[]] [Ie.v _,Ie.v _,Ie.p (fun(G:List Nat) (v:Value) (ww:World)=>sZ L1 G ww v [P.w]),Ie.v _,Ie.p (fun(G:List Nat) (v:Value) (ww:World)=>sZ L1 G ww v ([P.w]++[bu kind])),Ie.v _,Ie.v _,Ie.v _,Ie.v _,Ie.v _,Ie.v _,Ie.v _,Ie.v _,Ie.v _,Ie.v _,Ie.v _,Ie.p (fun(G:List Nat) (v:Value) (ww:World)=>∃a4 n4 c4,v= .agg [str m.aM,.slice a4 n4 c4,.int .i64 ((FR.length+1:Nat):Int),.slice none 0 0,.slice none 0 0,.slice none 0 0,.slice none 0 0,str rest.au.aw,.slice ar nr cr,.int .i64 ((2+FR.length:Nat):Int),str t.aV,.int .i64 2].toArray∧sZ L1 G ww (.slice a4 n4 c4) ([P.w]++[bu kind])),Ie.e 0] [17] [fun(G:List Nat) (vs:List Value) (ww:World)=>G=[]∧aj [] cu ww,fun(G:List Nat) (vs:List Value) (ww:World)=>∃bb,vs.getD 0 undef= .pointer (some ⟨bb,0,none⟩)∧G=[bb]∧cu.heap.size<=bb∧aJ ww bb [str [],.slice none 0 0,.int .i64 0,.slice none 0 0,.slice none 0 0,.slice none 0 0,.slice none 0 0,str [],.slice none 0 0,.int .i64 0,str [],.int .i64 0].toArray 112∧aj [] cu ww] de rfl ((λx hx=>by simp at hx)) (by exact⟨λG v w G' w' h k=>h.go k,λG v w G' w' h k=>h.go k,λG v w G' w' ⟨a4,n4,c4,e,h⟩ k=>⟨a4,n4,c4,e,h.go k⟩,trivial⟩) (by exact⟨λG vs w w' ⟨h1,h2⟩ k=>⟨h1,h2.ext k⟩,λG vs w w' ⟨bb,h1,h2,h3,h4,h5⟩ k=>⟨bb,h1,h2,h3,h4.ext k,h5.ext k⟩,trivial⟩) (⟨rfl,aj.refl _ _⟩)
 refine FA ?_
 refine vf (λx eD OS aS E0 HJ=>?_) ?_
 refine fc bh bf rfl rfl λfA di ajL Of=>?_
 exact ff di ((aJ.dK [P.w] ajL (λhx=>by have:=Ku uw E0.aF.size HJ _ hx;omega)))
 refine FA ?_
 refine vf (λx eD OS aS E0 HJ=>?_) ?_
 have yM:=yM.go E0
 intro v2 d2
 have eu:=Ku uw E0.aF.size HJ
 refine aA (ua [P.w] [bu kind] sm _ _ _ eD d2 yM eu) ?_
 rintro v12 fA ⟨HE,di⟩
 have EM:=di.size
 have eS:=HE
 exact ff di eS
 refine FA ?_
 refine vf (λx eD OS aS E0 HJ=>?_) ?_
 intro v4 d4
 have aQ:=dJ d4
 obtain⟨a4,n4,c4,e4,_⟩:=aQ
 subst e4
 refine js (Wr _ _ _ _ _ _ _ _ _ _ _ _ _) rfl rfl ?_
 exact ff (aj.refl _ _) (⟨a4,n4,c4,rfl,d4⟩)
 refine ve 0 (λx eD OS aS E0 HJ hJ hlen=>?_) ?_
 have aW:=jg hlen
 subst aW
 obtain⟨bO,bP⟩:=hJ
 subst bO
 refine dx mr rfl rfl rfl λfA di wV Ha=>?_
 exact fe ([_]) (⟨di.mono sm,λx hx=>by simp at hx;right;omega⟩) ((λx hx=>by simp at hx;omega)) (⟨_,rfl,rfl,bP.size,wV,bP.trans di⟩)
 exact trivial
 intro x oe G50 aS ajM apR hJ hlen
 have aQ:=jh hlen
 obtain⟨q0,aW⟩:=aQ
 subst aW
 intro v2 d2
 intro v4 d4
 intro CK d16
 have cX:=cX.go ajM
 change OW _ _ _ _ _ (bo (bj _ x _) (zZ 45 [_,_,_,_,_,_,_,_,_,_,_,_,_,_,_,_,_]++[(16,_)])) _
 obtain⟨bk,rZ,bO,De,fI,bP⟩:=hJ
 have vH:q0=_:=rZ
 subst vH
 subst bO
 obtain⟨a4,n4,c4,Bn,OT⟩:=d16
 subst Bn
 refine cJ mr rfl rfl rfl fI rfl λlg kK fI df=>?_
 have iq:=fI.lt
 have xA:=bP.since kK (λx hx=>.inr (by simp at hx;omega))
 have av:=lO.sY xA sm De iq
 have hR:=um.more xA sm De (λy hy=>uw y (lO.sub hy))
 have OU:∀x,x∈bk::L1->x∈L1++[bk]:=(λx hx=>by simp at hx⊢;rcases hx with h|h;(·exact .inr h);(·exact .inl h))
 have vQ:bk∈bk::L1:=sm
 have E1:bk∉E:=(λhx=>by have:=uw bk (lO.sub hx);omega)
 have gT:=(HI.fresh (L':=bk::L1) (λx hx=>by rcases mC.1 hx with rfl|hx;(·exact .inr De);(·exact .inl hx))).ext xA
 have A9:=eM.go aP hR.fr
 have fJ:gI (bk::L1) lg 112 bk (ur m.aM P.w [bu kind] FR rest t.aV (im t.sc 2 (FR.take 0) [])):=⟨_,_,_,_,_,_,fI,⟨(bQ.aD OT kK sm).fresh (λx hx=>.inl (OU x hx)),.nil _ _ _,.nil _ _ _,.nil _ _ _,.nil _ _ _,A9⟩⟩
 refine W ?_
 refine eA (λi:Nat=>[(0,.pointer (some ⟨b,0,none⟩)),(1,.pointer (some ⟨bt,0,none⟩)),(2,str name),(3,str kind.text),(10,.slice OM FR.length OO),(12,str (dz (bu kind))),(14,.int .i64 (P.r:Int)),(16,.pointer (some ⟨bk,0,none⟩)),(17,.int .i64 (i:Int))]) (λi w'=>aj [bk] lg w'∧i<=FR.length∧gI (bk::L1) w' 112 bk (ur m.aM P.w [bu kind] FR rest t.aV (im t.sc 2 (FR.take i) []))) (λi=>FR.length-i) (0) (⟨rfl,rfl,rfl,rfl,rfl,rfl,rfl,rfl,rfl⟩) (⟨aj.refl _ _,Nat.zero_le _,fJ⟩) λgg AN Kw hI=>?_
 obtain⟨da,hi,fJ⟩:=hI
 have av:=av.aF da sm
 have hR:=hR.aD da vQ E1
 have gT:=bQ.aD gT da sm
 refine W ?_
 refine zc rfl (λh1=>?_) (λh1=>?_)
 have lN:gg<FR.length:=(by simp at h1;omega)
 have C9:=List.mem_of_getElem? (km lN)
 have aQ:=hR.tk hT dX
 obtain⟨u1,u3,u4,u5,u6,u8,cX,hC⟩:=aQ
 have Df:=hC.aK
 have Dg:=hC.types
 have aQ:=nN gT lN
 obtain⟨b2,lF,e2,bU⟩:=aQ
 cases e2
 have N7:=av.db
 refine WZ ?_
 apply dV dj 19 [68,69,70,71,72,73,74,75,76,77,78,79,80,81,82,83,84,85,86] [[],[],[0,1],[2],[],[4],[],[6],[7],[8],[],[10],[11],[12],[],[],[14,15],[16],[9,13,17]] (it [_,_,_,_,_,_,_,_,_,_,_,_,_,_,_,_,_,_,_]) de rfl
 intro wd aC
 refine VA ?_
 refine vk aC (λx r6 Kf=>?_) ?_
 refine bI Kf Df Dg λDf Dg=>?_
 refine aA (GS (jE t.sc) (oT t.sc) (by simp[jE,oT]) (by simp[jE];omega) (bX FR gg) _ _ _ _ r6 Df Dg) ?_
 rintro v54 xB ⟨ajN,Dh⟩
 have apT:=Dh.size
 have eS:=ajN
 rw[Ow (eK _ C9).2] at eS
 subst eS
 exact pk Dh
 exact trivial
 intro x CN yD
 refine cN yD av fJ da λav fJ da=>?_
 change OW _ _ _ _ _ (bo (bj _ x _) (zZ 68 [_,_,_,_,_,_,_,_,_,_,_,_,_,_,_,_,_,_,_])) _
 refine aA (EW (ur m.aM P.w [bu kind] FR rest t.aV (im t.sc 2 (FR.take gg) [])) (bX FR gg) (2+gg) (j5 t.sc (bX FR gg)) (by show(im t.sc 2 (FR.take gg) []).length<100000;rw[yk,List.length_take];omega) (bk::L1) bk CN vQ av.db fJ) ?_
 rintro v87 w93 ⟨fJ,oy⟩
 have ajP:=oy.size
 refine W ?_
 exact⟨gg+1,⟨rfl,rfl,rfl,rfl,rfl,rfl,rfl,rfl,rfl⟩,⟨da.trans oy,om,by rw[Wn lN];exact fJ⟩,om⟩
 have AR:gg=FR.length:=(by simp at h1;omega)
 subst AR
 rw[List.take_length] at fJ
 refine W ?_
 refine aA (EW (ur m.aM P.w [bu kind] FR rest t.aV (im t.sc 2 FR [])) name 1 kind (by show(im t.sc 2 FR []).length<100000;rw[yk];omega) (bk::L1) bk AN vQ av.db fJ) ?_
 rintro v90 r6 ⟨fJ,ui⟩
 have av:=av.aF ui sm
 have hR:=hR.aD ui vQ E1
 have fJ:gI (bk::L1) r6 112 bk (ur m.aM P.w [bu kind] FR rest t.aV (im t.sc 2 FR []++[(name,1,kind)])):=fJ
 have Kl:P.m.bF.length<100000:=(by rw[HG];exact fF)
 have aQ:=av.open
 obtain⟨vb,vt,vc,vy,gb,gt,gc,gy,xp,hS⟩:=aQ
 have aQ:=hS.apart
 obtain⟨yH,mV,vL,mf,vM,uk⟩:=aQ
 obtain⟨u1,u3,u4,u5,u6,u8,HK,s0⟩:=fJ
 have bg:dM gt.toList r6 b [vb,vt,.int .i64 ((P.m).count:Int),.bool (P.m).wide,vc,vy].toArray 110:=⟨xp,λhx=>(mf b hx).2.1 rfl⟩
 have fI:dM gt.toList r6 bk (pI (ur m.aM P.w [bu kind] FR rest t.aV (im t.sc 2 FR []++[(name,1,kind)])) u1 u3 u4 u5 u6 u8).toArray 112:=⟨HK,λhx=>(mf bk hx).1 sm⟩
 have pU:eO gt.toList r6:=(λx hx=>hS.cC x (hS.mem.2 (by simp[hx])))
 have Bo:∀x,x∈gt.toList->x∈(bk::L1):=(λx hx=>hS.mem.2 (by simp[hx]))
 refine W ?_
 apply jF dj gt.toList 8 (rA 91 8) (rA 91 8) [[],[],[1],[2],[3],[],[5],[4,6]] [Ie.v _,Ie.v _,Ie.v _,Ie.v _,Ie.v _,Ie.v _,Ie.p (fun(G:List Nat) (v:Value) (ww:World)=>∃bb,v= .slice (some ⟨bb,0,none⟩) 1 1∧dM G ww bb (pI (ur m.aM P.w [bu kind] FR rest t.aV (im t.sc 2 FR []++[(name,1,kind)])) u1 u3 u4 u5 u6 u8).toArray 112),Ie.e 0] [7] [fun(G:List Nat) (vs:List Value) (ww:World)=>G=gt.toList∧aj [] r6 ww,fun(G:List Nat) (vs:List Value) (ww:World)=>∃g2,dH (gt.toList++(g2.toList++(bk::L1))) ww 112 12 (vs.getD 0 undef) g2 (((P.m).bF++[(ur m.aM P.w [bu kind] FR rest t.aV (im t.sc 2 FR []++[(name,1,kind)]))]).map Tk.enc)∧aj gt.toList r6 ww∧(g2=gt∨∃x,g2=some x∧r6.heap.size<=x)] de rfl pU (by exact⟨λG v w G' w' ⟨bb,e,h⟩ k=>⟨bb,e,h.go k⟩,trivial⟩) (by exact⟨λG vs w w' ⟨h1,h2⟩ k=>⟨h1,h2.ext k⟩,λG vs w w' ⟨g2,h1,h2,h3⟩ k=>⟨g2,h1.ext k,h2.ext k,h3⟩,trivial⟩) (⟨rfl,aj.refl _ _⟩)
 refine FA ?_
 refine vf (λx xB G54 aS ajS Wv=>?_) ?_
 refine sL [_] [pI (ur m.aM P.w [bu kind] FR rest t.aV (im t.sc 2 FR []++[(name,1,kind)])) u1 u3 u4 u5 u6 u8] zI mr rfl rfl rfl rfl rfl rfl rfl rfl rfl λKx Bp Gw Ww=>?_
 exact ff Bp (⟨_,rfl,Gw.o Wv⟩)
 refine ve 0 (λx xB G54 aS ajS Wv hJ hlen=>?_) ?_
 have aW:=jg hlen
 subst aW
 intro v6 d6
 obtain⟨bb,e6,fH⟩:=d6
 subst e6
 obtain⟨bO,bP⟩:=hJ
 subst bO
 have sM:=(hS.ta.any bP).sub (L':=gt.toList++(bk::L1)) (λx hx=>.inl (by rcases mA.1 hx with h|h;(·exact Bo x h);(·exact h)))
 have Bq:=s0.ext bP
 refine Cu (L:=(bk::L1)) (row:=Tk.enc (ur m.aM P.w [bu kind] FR rest t.aV (im t.sc 2 FR []++[(name,1,kind)]))) zI mr rfl rfl rfl rfl rfl rfl sM rfl fH.all (λu hu=>List.all_eq_true.1 Bq.one u hu) (Bq.go ((Fr.refl _ _).to (L2:=gt.toList++(bk::L1)) (λx hx=>.inl (by rcases mA.1 hx with h|h;(·exact Bo x h);(·exact h))))).BX (by rw[List.length_map];omega) λv9 g9 Kx cZ uo eZ=>?_
 exact fe g9.toList (⟨uo.aF,λx hx=>by rcases eZ with h|h;(·rw[h] at hx;exact .inl hx);(·rw[h] at hx;simp at hx;right;omega)⟩) ((λx hx=>cZ.lt x hx)) (⟨g9,by rw[List.map_append];exact cZ,bP.any.trans uo.aF,eZ.imp id (λh=>⟨_,h,bP.size⟩)⟩)
 exact trivial
 intro x w93 G93 aS ajT apV hJ hlen
 have aQ:=jh hlen
 obtain⟨q0,aW⟩:=aQ
 subst aW
 intro v6 d6
 have bg:=bg.go ajT
 change OW _ _ _ _ _ (bo (bj _ x _) (zZ 91 [_,_,_,_,_,_,_,_])) _
 obtain⟨g2,cZ,ej,iO⟩:=hJ
 have aQ:=hS.FX cZ ej iO
 obtain⟨L3,fB,jq⟩:=aQ
 have aQ:=cZ.len
 obtain⟨a3,c3,e3⟩:=aQ
 have e4:q0=_:=e3
 subst e4
 have bg:aJ _ b [vb,vt,.int .i64 ((P.m).count:Int),.bool (P.m).wide,vc,vy].toArray 110:=xp.aF ej (λhx=>(mf b hx).2.1 rfl)
 refine W ?_
 refine gd (o:=1) Ir rfl rfl rfl bg rfl λw94 Wx bg df=>?_
 have fB:=fB.aF Wx sm
 have av:dG t8 (bk::E) L3 w94 b true {P.m with bF:=(P.m).bF++[(ur m.aM P.w [bu kind] FR rest t.aV (im t.sc 2 FR []++[(name,1,kind)]))]}:=⟨_,_,_,_,_,_,_,_,bg,fB⟩
 have hR:=(hR.add jq ej (λx hx vR=>(mf x hx).1 (by simp[vR]))).aD Wx (fB.mem.2 (.inr (.inl rfl))) (λvR=>mV (by simp[vR]))
 rw[HG] at av
 have aQ:=av.drop
 obtain⟨L4,OV,av⟩:=aQ
 have hR:=hR.sub (L2:=L4) (λx hx=>by rw[OV];simp[hx])
 have aQ:=hR.tk hT dX
 obtain⟨u1,u3,u4,u5,u6,u8,cX,hC⟩:=aQ
 have yS:=av.sub dX
 refine W ?_
 refine gd (o:=9) oI rfl rfl rfl cX rfl λE2 Br cX df=>?_
 have hC:=hC.aD Br (by simpa using yS)
 have av:=av.aF Br (by simpa using dX)
 have hF:=hR.fr.aD Br (by simpa using yS)
 have ub:=hR.out
 obtain⟨G0,fT,Hw⟩:=ub
 have fT:aj (G0++[bt]) w E2:=(fT.mono (λz hz=>List.mem_append_left _ hz)).trans (Br.mono (λz hz=>mR _ hz))
 refine W ?_
 refine gd (o:=10) bf rfl rfl rfl cX rfl λHL E3 cX df=>?_
 have hC:=hC.aD E3 (by simpa using yS)
 have av:=av.aF E3 (by simpa using dX)
 have hF:=hF.aD E3 (by simpa using yS)
 have fT:=fT.trans (E3.mono (λz hz=>mR _ hz))
 refine W ?_
 exact⟨_,rfl,L4,av,⟨u1,u3,u4,u5,u6,u8,cX,⟨hC.regs,hC.self,hC.aK,hC.at_,hC.types,hC.ak⟩⟩,hF,_,fT,λz hz sf=>by rcases mA.1 hz with h9|h9;(·exact absurd sf (Hw z h9));(·simpa using h9)⟩
def rr (aM:ai) (W:ai) (nd:List ai) (FR:List ai) (e:Ex) (aV:ai) (self:List ai) (sc:cD):Tk:=⟨aM,W::nd,FR.length,self,sc,e,2,aV,3⟩
def sh (s:cD) (FR:List ai) (f:ai) (A B:Ty) (e:Ex):cD:=if 0<jQ f e then im s 3 FR []++[(f,3+FR.length+2,.op true A B)] else im s 3 FR []
def ux (f:ai) (A B:Ty) (e:Ex) (W:ai):List ai:=if 0<jQ f e then[bu (.op true A B),W] else[]
theorem ajV (m:Mk) (s:cD) (ton:Nat) (f x:ai) (A B:Ty) (e:Ex) {FR:List ai} (hF:FR=cH (.fn f x A B e) [] []) (hP:P=oS m.k7 s ton FR [] m.aM (bu (.op true A B)) [bu A,dz (bu B)]):
  Ag m s f x A B e=({P.m with bF:=m.bF++[rr m.aM P.w [bu A,dz (bu B)] FR e (dz (bu B)) (ux f A B e P.w) (sh s FR f A B e++[(x,1,A)])]},P.r):=by
 have h1:nV m s f x A B e=P:=by rw[hP,hF];unfold nV;simp[oS]
 have h2:P.m.bF=m.bF:=by rw[hP];rfl
 unfold Ag Af Ae
 rw[h1,h2,<-hF];rfl
theorem ajW (t:Tk) (x:ai) (r:Nat) (T:Ty) (s:ai) (hs:s=T.text) (hl:t.sc.length<100000) (L:List Nat) (bt:Nat) (w:World) (ri:bt∈L) (lh:∀x,x∈L->x<w.heap.size) (hT:gI L w 112 bt t):
  bz Tryz.prog 118 [.pointer (some ⟨bt,0,none⟩),str x,.int .i64 (r:Int),str s] w λ_ w'=>gI L w' 112 bt {t with sc:=t.sc++[(x,r,T)]}∧aj [bt] w w':=by subst hs;exact EW t x r T hl L bt w ri lh hT
theorem ajX (h:fy L w b off vs):fy [] w b off vs:=⟨h.cells,h.lt,sm⟩
theorem ajY (t:Tk) (m:Mk) (f ax:ai) (A B:Ty) (e:Ex) (ba:(Ex.fn f ax A B e).ok) (rf:(Ex.fn f ax A B e).n<=1000) (sO:∀y,y∈cH (.fn f ax A B e) [] []->(look (ew t.sc) y).isSome=true) (mE:(cH (.fn f ax A B e) [] []).length<=40) (hs:jT t.sc) (nC:t.sc.length<=9000) (AW:1+A.n+B.n<=16) (rj:t.on<1000) (ht:m.types.length+4<1000) (hc:m.code.length<=8000) (wP:m.count<1000) (fF:m.bF.length<100000) 
  (E L:List Nat) (b bt:Nat) (v:Value) (w:World) (h:dG t8 E L w b true m) (hT:gI L w 112 bt t) (dX:bt∈E) (hv:bB L w v (Ex.fn f ax A B e).au):
  bz Tryz.prog 150 [.pointer (some ⟨b,0,none⟩),.pointer (some ⟨bt,0,none⟩),v] w λr w'=>r= .int .i64 ((Ag m t.sc f ax A B e).2:Int)∧∃L',dG t8 E L' w' b true (Ag m t.sc f ax A B e).1∧dS E L w L' w':=by
 obtain⟨ar,nr,cr,rfl,p5,aP⟩:=cU hv
 subst p5
 have lq:=h.db
 obtain⟨FR,yR⟩:∃z:List ai,z=cH (.fn f ax A B e) [] []:=⟨_,rfl⟩
 obtain⟨P,hP⟩:∃z:Pk,z=oS m.k7 t.sc t.on FR [] m.aM (bu (.op true A B)) [bu A,dz (bu B)]:=⟨_,rfl⟩
 rw[ajV m t.sc t.on f ax A B e yR hP]
 obtain⟨HG,Bj,hPw⟩:=Wt hP
 rw[<-yR] at mE sO
 have eK:∀x,x∈FR->dN x=true∧(look (ew t.sc) x).isSome=true:=λx hx=>⟨Wq (by rw[<-yR];exact hx),sO x hx⟩
 obtain⟨HM,hox,aj0,hoA,hoB,Wy⟩:=ba
 have jY:=pP (T:=A) om
 have rb:=tX (T:=B) om
 have apW:=pP (T:=B) om
 have Wz:=pP (T:=Ty.op true A B) (show 1+A.n+B.n<=16 from AW)
 have yb:=AV wP
 have WB:=A.len
 have WC:=B.len
 have apX:A.au.text.length<=100:=show A.text.length<=100 from by omega
 have apY:B.au.text.length<=100:=show B.text.length<=100 from by omega
 have hzA:=A.size
 have hzB:=B.size
 have xe:(Ex.fn f ax A B e).n=3+A.n+B.n+e.n:=rfl
 have pQ:((((([40,62,32]:ai)++A.text)++[32])++B.text)++[41])=(Ty.op true A B).text:=by rw[Ty.IH];simp[jO]
 have JV:(Ex.fn f ax A B e).au.ak.length=6:=rfl
 have hK:=aj.refl [] w
 have tT:b∉E:=h.mem.2.2.1
 have EZ:b∈L:=h.mem.1 b sm
 have hR:=dS.refl E L w
 obtain⟨b1,eX,gA,gm,e1,bK,cI⟩:=eW aP (i:=1) om
 cases e1
 have bK:fy L w _ _ [str f,.slice gA 0 gm]:=bK
 obtain⟨b2,lF,iA,iw,e2,bU,dI⟩:=eW aP (i:=2) om
 cases e2
 have bU:fy L w _ _ [str ax,.slice iA 0 iw]:=bU
 obtain⟨b3,A3,pR,pS,e3,dO,dY⟩:=eW aP (i:=3) om
 cases e3
 have dY:bB L _ _ A.au:=dY
 obtain⟨b4,aiD,Nv,Nw,e4,jx,pT⟩:=eW aP (i:=4) om
 cases e4
 have pT:bB L _ _ B.au:=pT
 obtain⟨b5,aiE,ET,EU,e5,j9,mP⟩:=eW aP (i:=5) om
 cases e5
 have j9:fy L w _ _ [str e.au.aw,.slice ET e.au.ak.length EU]:=j9
 have mP:bB L w (.agg #[str e.au.aw,.slice ET e.au.ak.length EU]) e.au:=mP
 have ij:bB L w _ (Ex.fn f ax A B e).au:=hv
 have hSF:∀w:World,bz Tryz.prog 78 [str ((((([40,62,32]:ai)++A.text)++[32])++B.text)++[41])] w λr w'=>r=str (bu (.op true A B))∧aj [] w w':=λw=>by rw[pQ];exact vK (.op true A B) (show 1+A.n+B.n<=60 from om) w
 refine bS [.tmp 6] 139 Tryz.func150 rfl ZT rfl rfl ?_
 refine zr<|eH rfl λw1 aI cg dk=>bI aI hK hR λhK hR=>?_
 refine WI ?_
 refine zi (i:=3) cz aL rfl rfl ((show 3<6 from om))<|zL eU aL rfl ((dO.go hR.fr).cells) rfl<|aA (tW A.au.size A.au (lR _) A.lu.wf om (show A.text.length<=100000000 from om) _ _ w1 (dY.go hR.fr)) ?_
 rintro _ w2 ⟨rfl,az⟩
 have dm:=az.size
 refine cN az hK hR cg λhK hR cg=>?_
 refine WI ?_
 refine zi (i:=4) cz aL rfl rfl ((show 4<6 from om))<|zL eU aL rfl ((jx.go hR.fr).cells) rfl<|aA (tW B.au.size B.au (lR _) B.lu.wf om (show B.text.length<=100000000 from om) _ _ w2 (pT.go hR.fr)) ?_
 rintro _ w3 ⟨rfl,aH⟩
 have fm:=aH.size
 refine cN aH hK hR cg λhK hR cg=>?_
 refine W ?_
 refine fR bh bf λw4 aO vN gQ=>cN aO hK hR cg λhK hR cg=>?_
 refine fR bh bf λw5 aN Ei ig=>ie aN hK hR cg vN λhK hR cg vN=>?_
 have ap1:=cg
 refine aA (JH (Ex.fn f ax A B e).n (Ex.fn f ax A B e) (lR _) rf ⟨HM,hox,aj0,hoA,hoB,Wy⟩ [] [] so so _ _ _ (some w4.heap.size) w5 ((ij.fresh (L':=[w4.heap.size]) (λx hx=>.inr (by simp at hx;omega))).ext hK) (vN.kM.rep (λx hx=>by simp at hx;subst hx;simp;omega)) Ei.kM) ?_
 rintro Kv w6 ⟨g22,HH,Bl⟩
 rw[<-yR] at HH
 have jI:aj [] w w6:=(hK.since Bl.aF (λx hx=>.inr (by simp at hx;omega)))
 have OK:∀x,x∈g22.toList->w.heap.size<=x:=(λx hx=>by rcases Bl.mem x hx with h9|h9;(·simp at h9;omega);(·omega))
 have gT:bc L w6 Kv FR:=HH.rep (λx hx OL=>by have:=OK x (by simp[hx]);have:=lq x OL;omega)
 have aQ:=dJ gT
 obtain⟨OM,n22,OO,OP,OQ⟩:=aQ
 subst OP
 subst OQ
 have av:=h.ext jI
 have hR:=(dS.refl E L w).ext jI
 clear vN Ei
 refine W ?_
 refine aA (Ot m om E L b true w6 av) ?_
 rintro v24 w7 ⟨⟨OR,av⟩,Bi⟩
 subst OR
 have hR:=hR.aD Bi EZ tT
 have gT:=bQ.aD gT Bi (by simpa using EZ)
 refine W ?_
 refine aA (hSF w7) ?_
 rintro _ w8 ⟨rfl,cE⟩
 have A4:=cE.size
 refine cN cE hR av gT λhR av gT=>?_
 have cR:=av.db
 refine W ?_
 refine aA (vK A om w8) ?_
 rintro _ w9 ⟨rfl,aB⟩
 have o7:=aB.size
 refine cN aB hR av gT λhR av gT=>?_
 have cR:=av.db
 refine zm<|aA (vK B om w9) ?_
 rintro _ cu ⟨rfl,cB⟩
 have CM:=cB.size
 refine cN cB hR av gT λhR av gT=>?_
 have cR:=av.db
 refine aA (Hs (bu B) om cu) ?_
 rintro _ eD ⟨rfl,dd⟩
 have AM:=dd.size
 refine cN dd hR av gT λhR av gT=>?_
 have cR:=av.db
 refine kL bh bf rfl rfl rfl rfl λfA di Di Of=>cN di hR av gT λhR av gT=>?_
 refine W ?_
 have uq:bc L fA _ [bu A,dz (bu B)]:=aJ.dK [bu A,dz (bu B)] Di (λhx=>by have:=cR _ hx;omega)
 refine aA (Wc t m.k7 FR [] m.aM (bu (.op true A B)) [bu A,dz (bu B)] eK hs nC mE rj sm om om sm (by intro x hx;simp at hx;rcases hx with rfl|rfl<;>omega) ht hc E L b bt _ _ fA av (hR.tk hT dX) dX gT uq) ?_
 rintro v42 jB ⟨yc,L1,av,bC⟩
 rw[<-hP] at yc av
 subst yc
 have hR:=hR.go bC;have gT:=gT.go bC.fr;have uq:=uq.go bC.fr
 have yM:sZ L1 [] jB _ [bu A,dz (bu B)]:=(by unfold sZ;rw[List.append_nil];exact uq)
 have OX:=ajX (j9.go hR.fr)
 have uw:=av.db
 have HI:=gT
 have lO:=av
 have um:=hR
 clear Di
 refine W ?_
 apply jF dj ([]) 15 (rA 59 14++[17]) (rA 59 14++[17]) [[],[],[1],[],[2,3],[],[5],[],[7],[8],[],[10],[11],[0,4,6,9,12],[]] [Ie.v _,Ie.v _,Ie.p (fun(G:List Nat) (v:Value) (ww:World)=>sZ L1 G ww v [P.w]),Ie.v _,Ie.p (fun(G:List Nat) (v:Value) (ww:World)=>sZ L1 G ww v ([P.w]++[bu A,dz (bu B)])),Ie.v _,Ie.v _,Ie.v _,Ie.v _,Ie.v _,Ie.v _,Ie.v _,Ie.v _,Ie.p (fun(G:List Nat) (v:Value) (ww:World)=>∃a4 n4 c4,v= .agg [str m.aM,.slice a4 n4 c4,.int .i64 (FR.length:Int),.slice none 0 0,.slice none 0 0,.slice none 0 0,.slice none 0 0,str e.au.aw,.slice ET e.au.ak.length EU,.int .i64 2,str (dz (bu B)),.int .i64 3].toArray∧sZ L1 G ww (.slice a4 n4 c4) ([P.w]++[bu A,dz (bu B)])),Ie.e 0] [14] [fun(G:List Nat) (vs:List Value) (ww:World)=>G=[]∧aj [] jB ww,fun(G:List Nat) (vs:List Value) (ww:World)=>∃bb,vs.getD 0 undef= .pointer (some ⟨bb,0,none⟩)∧G=[bb]∧jB.heap.size<=bb∧aJ ww bb [str [],.slice none 0 0,.int .i64 0,.slice none 0 0,.slice none 0 0,.slice none 0 0,.slice none 0 0,str [],.slice none 0 0,.int .i64 0,str [],.int .i64 0].toArray 112∧aj [] jB ww] de rfl ((λx hx=>by simp at hx)) (by exact⟨λG v w G' w' h k=>h.go k,λG v w G' w' h k=>h.go k,λG v w G' w' ⟨a4,n4,c4,e,h⟩ k=>⟨a4,n4,c4,e,h.go k⟩,trivial⟩) (by exact⟨λG vs w w' ⟨h1,h2⟩ k=>⟨h1,h2.ext k⟩,λG vs w w' ⟨bb,h1,h2,h3,h4,h5⟩ k=>⟨bb,h1,h2,h3,h4.ext k,h5.ext k⟩,trivial⟩) (⟨rfl,aj.refl _ _⟩)
 refine FA ?_
 refine vf (λx iG HN aS Bt Dj=>?_) ?_
 refine fc bh bf rfl rfl λp3 jJ Ky JL=>?_
 exact ff jJ ((aJ.dK [P.w] Ky (λhx=>by have:=Ku uw Bt.aF.size Dj _ hx;omega)))
 refine FA ?_
 refine vf (λx iG HN aS Bt Dj=>?_) ?_
 have yM:=yM.go Bt
 intro v2 d2
 have eu:=Ku uw Bt.aF.size Dj
 refine aA (ua [P.w] [bu A,dz (bu B)] sm _ _ _ iG d2 yM eu) ?_
 rintro A7 p3 ⟨aj4,jJ⟩
 have OG:=jJ.size
 have eS:=aj4
 exact ff jJ eS
 refine FA ?_
 refine vf (λ_ _ _ _ _ _=>zi (i:=5) cz aL rfl rfl ((show 5<6 from om)) fv) ?_
 refine FA ?_
 refine vf (λx iG HN aS Bt Dj=>?_) ?_
 refine aA (vK B om iG) ?_
 rintro _ p3 ⟨rfl,jJ⟩
 have OG:=jJ.size
 exact fk jJ
 refine vf (λx iG HN aS Bt Dj=>?_) ?_
 refine aA (Hs (bu B) om iG) ?_
 rintro _ p3 ⟨rfl,jJ⟩
 have OG:=jJ.size
 exact fk jJ
 refine vf (λx iG HN aS Bt Dj=>?_) ?_
 intro v4 d4
 have aQ:=dJ d4
 obtain⟨a4,n4,c4,e4,_⟩:=aQ
 subst e4
 refine js (Wr ⟨m.aM.toArray⟩ a4 n4 c4 (FR.length:Int) ⟨e.au.aw.toArray⟩ ET e.au.ak.length EU 2 ⟨(dz (bu B)).toArray⟩ 3 _) rfl rfl ?_
 exact ff (aj.refl _ _) (⟨a4,n4,c4,rfl,d4⟩)
 refine ve 0 (λx iG HN aS Bt Dj hJ hlen=>?_) ?_
 have aW:=jg hlen
 subst aW
 obtain⟨bO,bP⟩:=hJ
 subst bO
 refine dx mr rfl rfl rfl λp3 jJ wV Ha=>?_
 exact fe ([_]) (⟨jJ.mono sm,λx hx=>by simp at hx;right;omega⟩) ((λx hx=>by simp at hx;omega)) (⟨_,rfl,rfl,bP.size,wV,bP.trans jJ⟩)
 exact trivial
 intro x r6 G53 aS aj5 ap3 hJ hlen
 have aQ:=jh hlen
 obtain⟨q0,aW⟩:=aQ
 subst aW
 intro v2 d2
 intro v4 d4
 intro Hk d13
 have OX:=OX.go aj5
 change OW _ _ _ _ _ (bo (bj _ x _) (zZ 59 [_,_,_,_,_,_,_,_,_,_,_,_,_,_]++[(17,_)])) _
 obtain⟨bk,rZ,bO,De,fI,bP⟩:=hJ
 have vH:q0=_:=rZ
 subst vH
 subst bO
 obtain⟨a4,n4,c4,Bn,OT⟩:=d13
 subst Bn
 refine cJ mr rfl rfl rfl fI rfl λxB Dh fI df=>?_
 have iq:=fI.lt
 have xA:=bP.since Dh (λx hx=>.inr (by simp at hx;omega))
 have av:=lO.sY xA sm De iq
 have hR:=um.more xA sm De (λy hy=>uw y (lO.sub hy))
 have OU:∀x,x∈bk::L1->x∈L1++[bk]:=(λx hx=>by simp at hx⊢;rcases hx with h|h;(·exact .inr h);(·exact .inl h))
 have vQ:bk∈bk::L1:=sm
 have E1:bk∉E:=(λhx=>by have:=uw bk (lO.sub hx);omega)
 have gT:=(HI.fresh (L':=bk::L1) (λx hx=>by rcases mC.1 hx with rfl|hx;(·exact .inr De);(·exact .inl hx))).ext xA
 have A9:eM (bk::L1) xB (.slice ET e.au.ak.length EU) e.au.ak:=(by obtain⟨_,_,_,e9,_,yT⟩:=cU (mP.go hR.fr);cases e9;exact yT)
 have fJ:gI (bk::L1) xB 112 bk (rr m.aM P.w [bu A,dz (bu B)] FR e (dz (bu B)) [] (im t.sc 3 (FR.take 0) [])):=⟨_,_,_,_,_,_,fI,⟨(bQ.aD OT Dh sm).fresh (λx hx=>.inl (OU x hx)),.nil _ _ _,.nil _ _ _,.nil _ _ _,.nil _ _ _,A9⟩⟩
 refine W ?_
 refine eA (λi:Nat=>[(0,.pointer (some ⟨b,0,none⟩)),(1,.pointer (some ⟨bt,0,none⟩)),(7,.slice (some ⟨b1,eX,none⟩) 6 cr),(8,str A.text),(10,str (((((([40,62,32]:ai)++A.text)++[32])++B.text)++[41]))),(11,.slice OM FR.length OO),(13,str (bu (.op true A B))),(15,.int .i64 (P.r:Int)),(16,str P.w),(17,.pointer (some ⟨bk,0,none⟩)),(18,.int .i64 (i:Int))]) (λi w'=>aj [bk] xB w'∧i<=FR.length∧gI (bk::L1) w' 112 bk (rr m.aM P.w [bu A,dz (bu B)] FR e (dz (bu B)) [] (im t.sc 3 (FR.take i) []))) (λi=>FR.length-i) (0) (⟨rfl,rfl,rfl,rfl,rfl,rfl,rfl,rfl,rfl,rfl,rfl⟩) (⟨aj.refl _ _,Nat.zero_le _,fJ⟩) λgg Kx WD hI=>?_
 obtain⟨da,hi,fJ⟩:=hI
 have av:=av.aF da sm
 have hR:=hR.aD da vQ E1
 have gT:=bQ.aD gT da sm
 refine W ?_
 refine zc rfl (λh1=>?_) (λh1=>?_)
 have lN:gg<FR.length:=(by simp at h1;omega)
 have C9:=List.mem_of_getElem? (km lN)
 have aQ:=hR.tk hT dX
 obtain⟨u1,u3,u4,u5,u6,u8,cX,hC⟩:=aQ
 have Df:=hC.aK
 have Dg:=hC.types
 have aQ:=nN gT lN
 obtain⟨b9,uy,e9,jr⟩:=aQ
 cases e9
 refine WZ ?_
 apply dV dj 19 [79,80,81,82,83,84,85,86,87,88,89,90,91,92,93,94,95,96,97] [[],[],[0,1],[2],[],[4],[],[6],[7],[8],[],[10],[11],[12],[],[],[14,15],[16],[9,13,17]] (it [_,_,_,_,_,_,_,_,_,_,_,_,_,_,_,_,_,_,_]) de rfl
 intro wd aC
 refine VA ?_
 refine vk aC (λx Bu Dk=>?_) ?_
 refine bI Dk Df Dg λDf Dg=>?_
 refine aA (GS (jE t.sc) (oT t.sc) (by simp[jE,oT]) (by simp[jE];omega) (bX FR gg) _ _ _ _ Bu Df Dg) ?_
 rintro v57 OY ⟨aj7,Bv⟩
 have WE:=Bv.size
 have eS:=aj7
 rw[Ow (eK _ C9).2] at eS
 subst eS
 exact pk Bv
 exact trivial
 intro x E2 Br
 refine cN Br av fJ da λav fJ da=>?_
 change OW _ _ _ _ _ (bo (bj _ x _) (zZ 79 [_,_,_,_,_,_,_,_,_,_,_,_,_,_,_,_,_,_,_])) _
 refine aA (EW (rr m.aM P.w [bu A,dz (bu B)] FR e (dz (bu B)) [] (im t.sc 3 (FR.take gg) [])) (bX FR gg) (3+gg) (j5 t.sc (bX FR gg)) (by show(im t.sc 3 (FR.take gg) []).length<100000;rw[yk,List.length_take];omega) (bk::L1) bk E2 vQ av.db fJ) ?_
 rintro v87 HL ⟨fJ,oy⟩
 have ajP:=oy.size
 refine W ?_
 exact⟨gg+1,⟨rfl,rfl,rfl,rfl,rfl,rfl,rfl,rfl,rfl,rfl,rfl⟩,⟨da.trans oy,om,by rw[Wn lN];exact fJ⟩,om⟩
 have AR:gg=FR.length:=(by simp at h1;omega)
 subst AR
 rw[List.take_length] at fJ
 have OX:=j9.go hR.fr
 have E4:=bK.go hR.fr
 have OZ:=mP.go hR.fr
 refine WZ ?_
 apply dV dj 9 [99,100,101,102,103,104,105,106,107] [[],[0],[1],[],[3],[4],[5],[2,6],[7]] (it [_,_,_,_,_,_,_,_,_]) de rfl
 intro wd aC
 refine VA ?_
 refine vk aC (λx Bu Dk=>?_) ?_
 refine zi (i:=5) cz aL rfl rfl ((show 5<6 from om)) ?_
 exact pv
 refine VA ?_
 refine vk aC (λx Bu Dk=>?_) ?_
 refine zi (i:=1) cz aL rfl rfl ((show 1<6 from om)) ?_
 exact pv
 refine VA ?_
 refine vk aC (λx Bu Dk=>?_) ?_
 have OZ:=OZ.ext Dk
 refine aA (agI f e.n e (lR _) om Wy _ _ Bu OZ) ?_
 rintro _ OY ⟨rfl,Bv⟩
 have WE:=Bv.size
 exact pk Bv
 exact VZ
 intro x E2 Br
 refine ie Br av hR E4 fJ λav hR E4 fJ=>?_
 change OW _ _ _ _ [] (bo (bj _ x _) (zZ 99 [_,_,_,_,_,_,_,_,_])) _
 have kJ:=aj.refl [bk] E2
 refine W ?_
 refine ix (λ_:Unit=>[(0,.pointer (some ⟨b,0,none⟩)),(7,.slice (some ⟨b1,eX,none⟩) 6 cr),(8,str A.text),(15,.int .i64 (P.r:Int)),(17,.pointer (some ⟨bk,0,none⟩))]) (λ_ ww=>aj [bk] E2 ww∧gI (bk::L1) ww 112 bk (rr m.aM P.w [bu A,dz (bu B)] FR e (dz (bu B)) (ux f A B e P.w) (sh t.sc FR f A B e))) ?_ ?_
 refine zc rfl (λh2=>?_) (λh2=>?_)
 have et:0<jQ f e:=(by simp at h2;omega)
 have cR:=av.db
 refine zr<|zm<|zm<|kL bh bf rfl rfl rfl rfl λHL E3 aj8 ap4=>cN E3 E4 fJ kJ λE4 fJ kJ=>?_
 refine WZ ?_
 have wU:bc (bk::L1) HL _ [bu (.op true A B),P.w]:=aJ.dK [bu (.op true A B),P.w] aj8 (λhx=>by have:=cR _ hx;omega)
 obtain⟨u1,u3,u4,u5,u6,u8,fI,s0⟩:=fJ
 refine gd (o:=3) mu rfl rfl rfl fI rfl λvS Kz fI df=>?_
 have s0:=s0.aD Kz sm
 have wU:=bQ.aD wU Kz sm
 have fJ:gI (bk::L1) vS 112 bk (rr m.aM P.w [bu A,dz (bu B)] FR e (dz (bu B)) [bu (.op true A B),P.w] (im t.sc 3 FR [])):=⟨u1,_,u4,u5,u6,u8,fI,⟨s0.regs,wU,s0.aK,s0.at_,s0.types,s0.ak⟩⟩
 have E4:=E4.aD Kz sm
 have Ht:=kJ.trans Kz
 have Dl:∀x,x∈bk::L1->x<vS.heap.size:=(λx hx=>by have:=cR x hx;omega)
 refine aZ<|kH<|zm<|zi (i:=1) cz aL rfl rfl ((show 1<6 from om))<|WZ ?_
 refine aA (ajW (rr m.aM P.w [bu A,dz (bu B)] FR e (dz (bu B)) [bu (.op true A B),P.w] (im t.sc 3 FR [])) f (3+FR.length+2) (.op true A B) _ pQ (by show(im t.sc 3 FR []).length<100000;rw[yk];omega) (bk::L1) bk vS vQ Dl fJ) ?_
 rintro v87 WG ⟨fJ,oy⟩
 have Ht:=Ht.trans oy
 refine W ?_
 exact⟨(),⟨rfl,rfl,rfl,rfl,rfl⟩,Ht,by unfold sh ux;rw[iP et,iP et];exact fJ⟩
 have et:¬0<jQ f e:=(by simp at h2;omega)
 refine WZ ?_
 exact⟨(),⟨rfl,rfl,rfl,rfl,rfl⟩,aj.refl _ _,by unfold sh ux;rw[iN et,iN et];exact fJ⟩
 intro gu HL e96 hI
 obtain⟨WH,fJ⟩:=hI
 have av:=av.aF WH sm
 have hR:=hR.aD WH vQ E1
 have ap6:=bU.go hR.fr
 refine zr<|zm<|zi (i:=2) cz aL rfl rfl ((show 2<6 from om))<|W ?_
 refine aA (EW (rr m.aM P.w [bu A,dz (bu B)] FR e (dz (bu B)) (ux f A B e P.w) (sh t.sc FR f A B e)) ax 1 A (by show(sh t.sc FR f A B e).length<100000;unfold sh;split;(·rw[lA,yk];simp;omega);(·rw[yk];omega)) (bk::L1) bk HL vQ av.db fJ) ?_
 rintro v90 vS ⟨fJ,ui⟩
 have av:=av.aF ui sm
 have hR:=hR.aD ui vQ E1
 have fJ:gI (bk::L1) vS 112 bk (rr m.aM P.w [bu A,dz (bu B)] FR e (dz (bu B)) (ux f A B e P.w) ((sh t.sc FR f A B e)++[(ax,1,A)])):=fJ
 have Kl:P.m.bF.length<100000:=(by rw[HG];exact fF)
 have aQ:=av.open
 obtain⟨vb,vt,vc,vy,gb,gt,gc,gy,xp,hS⟩:=aQ
 have aQ:=hS.apart
 obtain⟨yH,mV,vL,mf,vM,uk⟩:=aQ
 obtain⟨u1,u3,u4,u5,u6,u8,HK,s0⟩:=fJ
 have bg:dM gt.toList vS b [vb,vt,.int .i64 ((P.m).count:Int),.bool (P.m).wide,vc,vy].toArray 110:=⟨xp,λhx=>(mf b hx).2.1 rfl⟩
 have fI:dM gt.toList vS bk (pI (rr m.aM P.w [bu A,dz (bu B)] FR e (dz (bu B)) (ux f A B e P.w) ((sh t.sc FR f A B e)++[(ax,1,A)])) u1 u3 u4 u5 u6 u8).toArray 112:=⟨HK,λhx=>(mf bk hx).1 sm⟩
 have pU:eO gt.toList vS:=(λx hx=>hS.cC x (hS.mem.2 (by simp[hx])))
 have Bo:∀x,x∈gt.toList->x∈(bk::L1):=(λx hx=>hS.mem.2 (by simp[hx]))
 refine W ?_
 apply jF dj gt.toList 8 (rA 128 8) (rA 128 8) [[],[],[1],[2],[3],[],[5],[4,6]] [Ie.v _,Ie.v _,Ie.v _,Ie.v _,Ie.v _,Ie.v _,Ie.p (fun(G:List Nat) (v:Value) (ww:World)=>∃bb,v= .slice (some ⟨bb,0,none⟩) 1 1∧dM G ww bb (pI (rr m.aM P.w [bu A,dz (bu B)] FR e (dz (bu B)) (ux f A B e P.w) ((sh t.sc FR f A B e)++[(ax,1,A)])) u1 u3 u4 u5 u6 u8).toArray 112),Ie.e 0] [7] [fun(G:List Nat) (vs:List Value) (ww:World)=>G=gt.toList∧aj [] vS ww,fun(G:List Nat) (vs:List Value) (ww:World)=>∃g2,dH (gt.toList++(g2.toList++(bk::L1))) ww 112 12 (vs.getD 0 undef) g2 (((P.m).bF++[(rr m.aM P.w [bu A,dz (bu B)] FR e (dz (bu B)) (ux f A B e P.w) ((sh t.sc FR f A B e)++[(ax,1,A)]))]).map Tk.enc)∧aj gt.toList vS ww∧(g2=gt∨∃x,g2=some x∧vS.heap.size<=x)] de rfl pU (by exact⟨λG v w G' w' ⟨bb,e,h⟩ k=>⟨bb,e,h.go k⟩,trivial⟩) (by exact⟨λG vs w w' ⟨h1,h2⟩ k=>⟨h1,h2.ext k⟩,λG vs w w' ⟨g2,h1,h2,h3⟩ k=>⟨g2,h1.ext k,h2.ext k,h3⟩,trivial⟩) (⟨rfl,aj.refl _ _⟩)
 refine FA ?_
 refine vf (λx WG G98 aS aka WJ=>?_) ?_
 refine sL [_] [pI (rr m.aM P.w [bu A,dz (bu B)] FR e (dz (bu B)) (ux f A B e P.w) ((sh t.sc FR f A B e)++[(ax,1,A)])) u1 u3 u4 u5 u6 u8] zI mr rfl rfl rfl rfl rfl rfl rfl rfl rfl λw99 akc akd Ww=>?_
 exact ff akc (⟨_,rfl,akd.o WJ⟩)
 refine ve 0 (λx WG G98 aS aka WJ hJ hlen=>?_) ?_
 have aW:=jg hlen
 subst aW
 intro v6 d6
 obtain⟨bb,e6,fH⟩:=d6
 subst e6
 obtain⟨bO,bP⟩:=hJ
 subst bO
 have sM:=(hS.ta.any bP).sub (L':=gt.toList++(bk::L1)) (λx hx=>.inl (by rcases mA.1 hx with h|h;(·exact Bo x h);(·exact h)))
 have Bq:=s0.ext bP
 refine Cu (L:=(bk::L1)) (row:=Tk.enc (rr m.aM P.w [bu A,dz (bu B)] FR e (dz (bu B)) (ux f A B e P.w) ((sh t.sc FR f A B e)++[(ax,1,A)]))) zI mr rfl rfl rfl rfl rfl rfl sM rfl fH.all (λu hu=>List.all_eq_true.1 Bq.one u hu) (Bq.go ((Fr.refl _ _).to (L2:=gt.toList++(bk::L1)) (λx hx=>.inl (by rcases mA.1 hx with h|h;(·exact Bo x h);(·exact h))))).BX (by rw[List.length_map];omega) λv9 g9 w99 cZ uo eZ=>?_
 exact fe g9.toList (⟨uo.aF,λx hx=>by rcases eZ with h|h;(·rw[h] at hx;exact .inl hx);(·rw[h] at hx;simp at hx;right;omega)⟩) ((λx hx=>cZ.lt x hx)) (⟨g9,by rw[List.map_append];exact cZ,bP.any.trans uo.aF,eZ.imp id (λh=>⟨_,h,bP.size⟩)⟩)
 exact trivial
 intro x ap7 ap8 aS ake ap9 hJ hlen
 have aQ:=jh hlen
 obtain⟨q0,aW⟩:=aQ
 subst aW
 intro v6 d6
 have bg:=bg.go ake
 change OW _ _ _ _ _ (bo (bj _ x _) (zZ 128 [_,_,_,_,_,_,_,_])) _
 obtain⟨g2,cZ,ej,iO⟩:=hJ
 have aQ:=hS.FX cZ ej iO
 obtain⟨L3,fB,jq⟩:=aQ
 have aQ:=cZ.len
 obtain⟨a3,c3,e3⟩:=aQ
 have e4:q0=_:=e3
 subst e4
 have bg:aJ _ b [vb,vt,.int .i64 ((P.m).count:Int),.bool (P.m).wide,vc,vy].toArray 110:=xp.aF ej (λhx=>(mf b hx).2.1 rfl)
 refine W ?_
 refine gd (o:=1) Ir rfl rfl rfl bg rfl λakf WK bg df=>?_
 have fB:=fB.aF WK sm
 have av:dG t8 (bk::E) L3 akf b true {P.m with bF:=(P.m).bF++[(rr m.aM P.w [bu A,dz (bu B)] FR e (dz (bu B)) (ux f A B e P.w) ((sh t.sc FR f A B e)++[(ax,1,A)]))]}:=⟨_,_,_,_,_,_,_,_,bg,fB⟩
 have hR:=(hR.add jq ej (λx hx vR=>(mf x hx).1 (by simp[vR]))).aD WK (fB.mem.2 (.inr (.inl rfl))) (λvR=>mV (by simp[vR]))
 rw[HG] at av
 have aQ:=av.drop
 obtain⟨L4,OV,av⟩:=aQ
 have hR:=hR.sub (L2:=L4) (λx hx=>by rw[OV];simp[hx])
 refine W ?_
 exact⟨_,rfl,rfl,L4,av,hR⟩
theorem HO {a:ai} (hs:jT s) (ht:m.types.length<1000):(bT m s a).1.types.length<=m.types.length+1∧(bT m s a).1.code.length<=m.code.length+1∧(bT m s a).1.count=m.count∧(bT m s a).1.bF=m.bF∧(bT m s a).2<1000:=by
 unfold bT
 split
 ·exact⟨Nat.le_succ _,Nat.le_succ _,rfl,rfl,GB hs a⟩
 ·exact⟨by simp[Mk.cY,Mk.cA],by simp[Mk.cY,Mk.cA],rfl,rfl,ht⟩
theorem WM (h:ai):fW h=(decide (h=[102,115,116])||decide (h=[115,110,100])):=rfl
theorem akg {T:Ty} (ba:e.ok) (hu:fW e.head=true) {p:Mk×Nat} (hp:p=bT m s (nth e.au.ak 1).aw):
  mw m s T e=((p.1.cY (bu T)).cA sB [aT p.1.types.length,aT p.2,if e.head=qT then[49] else[48]],p.1.types.length):=by
 cases e with
 |un hd a=>rw[hp];show((_:Mk),_)=_;rw[show nth (Ex.un hd a).au.ak 1=a.au from rfl,Ex.qW];rfl
 |«at» s=>exact absurd (show fW []=true from hu) de
 |ite a b c=>exact absurd (show fW gj=true from hu) de
 |lt x a b=>exact absurd (show fW fV=true from hu) de
 |fn f x A B b=>exact absurd (show fW gF=true from hu) de
 |bi hd a b=>exact absurd ba.1 (by rcases AY hd with h|h|h|h|h|h<;>simp_all[Ex.head]<;>rfl)
theorem akh {T:Ty} (ba:e.ok) (eJ:e.iv=false) (hf:e.head≠gF) (hu:fW e.head=false) {p q:Mk×Nat} (hp:p=bT m s (nth e.au.ak 1).aw) (hq:q=bT p.1 s (nth e.au.ak 2).aw):
  mw m s T e=((q.1.cY (bu T)).cA (qm e.head) [aT q.1.types.length,aT p.2,aT q.2],q.1.types.length):=by
 cases e with
 |un hd a=>exact absurd ba.1 (by simp[Ex.head] at hu;simp[hu])
 |«at» s=>cases eJ
 |ite a b c=>rw[hq,hp];rw[show nth (Ex.ite a b c).au.ak 1=a.au from rfl,show nth (Ex.ite a b c).au.ak 2=b.au from rfl,Ex.qW,Ex.qW];rfl
 |lt x a b=>rw[hq,hp];rw[show nth (Ex.lt x a b).au.ak 1=bJ x from rfl,show nth (Ex.lt x a b).au.ak 2=a.au from rfl,Ex.qW];rfl
 |fn f x A B b=>exact absurd rfl hf
 |bi hd a b=>rw[hq,hp];rw[show nth (Ex.bi hd a b).au.ak 1=a.au from rfl,show nth (Ex.bi hd a b).au.ak 2=b.au from rfl,Ex.qW,Ex.qW];rfl
theorem aki (ba:e.ok) (hf:e.head≠gF):((nth e.au.ak 1).aw).length<=5∧((nth e.au.ak 2).aw).length<=5:=by
 cases e with
 |«at» s=>simp[Ex.au,nth,aq.ak,aq.aw,bJ]
 |un hd a=>rw[show nth (Ex.un hd a).au.ak 1=a.au from rfl,Ex.qW];have:=oo ba.2;exact⟨by omega,by simp[Ex.au,nth,aq.ak,aq.aw]⟩
 |bi hd a b=>rw[show nth (Ex.bi hd a b).au.ak 1=a.au from rfl,show nth (Ex.bi hd a b).au.ak 2=b.au from rfl,Ex.qW,Ex.qW];have:=oo ba.2.1;have:=oo ba.2.2;omega
 |ite a b c=>rw[show nth (Ex.ite a b c).au.ak 1=a.au from rfl,show nth (Ex.ite a b c).au.ak 2=b.au from rfl,Ex.qW,Ex.qW];have:=oo ba.1;have:=oo ba.2.1;omega
 |lt x a b=>rw[show nth (Ex.lt x a b).au.ak 1=bJ x from rfl,show nth (Ex.lt x a b).au.ak 2=a.au from rfl,Ex.qW];have:=En ba.1;have:=oo ba.2.1;exact⟨by show x.length<=5;omega,om⟩
 |fn f x A B b=>exact absurd rfl hf
theorem akj (h:ai):(qm h).length<=5:=by
 unfold qm
 split
 ·decide
 ·split
  ·decide
  ·split<;>decide
theorem akk (ba:e.ok) (eJ:e.iv=false):1<e.au.ak.length∧(fW e.head=false->2<e.au.ak.length):=by
 cases e with
 |«at» s=>cases eJ
 |un hd a=>exact⟨by simp[Ex.au,aq.ak],λh=>absurd ba.1 (by simp[Ex.head] at h;simp[h])⟩
 |_=>exact⟨by simp[Ex.au,aq.ak],λ_=>by simp[Ex.au,aq.ak]⟩
theorem akl (t:Tk) (m:Mk) (e:Ex) (T:Ty) (ba:e.ok) (eR:bw e (ew t.sc)=some T) (hs:jT t.sc) (hb:5*t.sc.length+2*e.n<=240) (rj:t.on<1000) (ht:m.types.length+8*e.n<=1000) (hc:m.code.length<=7000) (wP:m.count<1000) (fF:m.bF.length<90000) 
  (E L:List Nat) (b bt:Nat) (v:Value) (w:World) (h:dG t8 E L w b true m) (hT:gI L w 112 bt t) (dX:bt∈E) (hv:bB L w v e.au):
  bz Tryz.prog 116 [.pointer (some ⟨b,0,none⟩),.pointer (some ⟨bt,0,none⟩),v] w λr w'=>r= .int .i64 ((mw m t.sc T e).2:Int)∧∃L',dG t8 E L' w' b true (mw m t.sc T e).1∧dS E L w L' w':=by
 obtain⟨ar,nr,cr,rfl,p5,aP⟩:=cU hv
 subst p5
 have lq:=h.db
 have se:=lv hs.types eR
 have Ef:=pP se
 have hep:=e.pos
 have av:=h
 have hR:=dS.refl E L w
 have ij:bB L w _ e.au:=hv
 obtain⟨p,hp⟩:∃p,p=bT m t.sc (nth e.au.ak 1).aw:=⟨_,rfl⟩
 obtain⟨q,hq⟩:∃q,q=bT p.1 t.sc (nth e.au.ak 2).aw:=⟨_,rfl⟩
 have yT:p.1.types.length<=m.types.length+1∧p.1.code.length<=m.code.length+1∧p.1.count=m.count∧p.1.bF=m.bF∧p.2<1000:=by rw[hp];exact HO hs om
 have HP:q.1.types.length<=p.1.types.length+1∧q.1.code.length<=p.1.code.length+1∧q.1.count=p.1.count∧q.1.bF=p.1.bF∧q.2<1000:=by rw[hq];exact HO hs om
 obtain⟨ptl,pcl,_,_,p2⟩:=yT
 obtain⟨qtl,qcl,_,_,q2⟩:=HP
 refine bS [.tmp 6] 84 Tryz.func116 rfl Zo rfl rfl ?_
 refine zr<|eH rfl λw1 aI cg dk=>bI aI av hR λav hR=>?_
 refine W ?_
 have cg:dM L w1 w.heap.size [str e.au.aw,.slice ar e.au.ak.length cr].toArray 78:=⟨cg,λhx=>by have:=lq _ hx;omega⟩
 refine zc rfl (λh1=>?_) (λh1=>?_)
 have aQ:∃a,e= .at a:=(by cases e with|«at» s=>exact⟨s,rfl⟩|_=>exact absurd rfl h1)
 obtain⟨a0,rfl⟩:=aQ
 refine W ?_
 refine aA (C5 t a0 m (by have:=M7 (show qg a0=true from ba);omega) om om om E L b bt _ _ _ w1 av (hR.tk hT dX) dX) ?_
 rintro v20 w2 ⟨pj,L1,av,bC⟩
 subst pj
 have hR:=hR.go bC
 refine W ?_
 exact⟨_,rfl,rfl,L1,av,hR⟩
 have eJ:e.iv=false:=(by cases hh:e.iv;rfl;exact absurd ((vD ba).2 hh) h1)
 have aQ:=Ex.ak eJ
 obtain⟨GW,nZ,jd,qz⟩:=aQ
 have aQ:=akk ba eJ
 obtain⟨fl,iy⟩:=aQ
 have aQ:=eW aP (i:=0) om
 obtain⟨b0,vj,x6,ya,e0,et,_⟩:=aQ
 cases e0
 rw[jd] at et
 have aQ:=eW aP (i:=1) om
 obtain⟨b1,eX,gA,gm,e1,bK,cI⟩:=aQ
 cases e1
 refine WI ?_
 refine zi (i:=0) cz aL rfl rfl ((show 0<_ from om))<|zf kX rfl<|zl gD rfl ((et.go hR.fr).cells 0 _ rfl)<|W ?_
 refine zc rfl (λh2=>?_) (λh2=>?_)
 have aQ:=JN ba h2
 obtain⟨nf,nx,tA,tB,eb,rfl⟩:=aQ
 have aQ:=Un (m:=m) hs ba eR hb wP
 obtain⟨_,mE,AW⟩:=aQ
 refine W ?_
 refine aA (ajY t m nf nx tA tB eb ba om (λy hy=>by rcases(B3 y _ [] []).1 hy with h9|h9;(·simp at h9);(·exact pG eR h9.1)) om hs om AW rj (by simp only[Ex.n] at ht;omega) om wP om E L b bt _ w1 av (hR.tk hT dX) dX (ij.go hR.fr)) ?_
 rintro v31 w2 ⟨yU,L1,av,bC⟩
 subst yU
 have hR:=hR.go bC
 refine W ?_
 exact⟨_,rfl,rfl,L1,av,hR⟩
 have rk:e.head≠gF:=h2
 have hsh:=aki ba rk
 refine W ?_
 refine aA (Kj t e ba om hs.types om _ L bt w1 av.db (hR.tk hT dX) (ij.go hR.fr)) ?_
 rintro v2 w2 ⟨ij,az⟩
 have dm:=az.size
 refine cN az av hR cg λav hR cg=>?_
 have eS:=ij
 rw[eR] at eS
 subst eS
 refine aA (vK T om w2) ?_
 rintro _ w3 ⟨rfl,aH⟩
 have fm:=aH.size
 refine cN aH av hR cg λav hR cg=>?_
 refine WL ?_
 refine zl iC rfl (cg.at rfl)<|WL ?_
 refine zL eU aL rfl ((bK.go hR.fr).cells) rfl<|aA (C5 t (nth e.au.ak 1).aw m om om om om E L b bt _ _ _ w3 av (hR.tk hT dX) dX) ?_
 rintro v20 w4 ⟨pj,L1,av,bC⟩
 rw[<-hp] at pj av
 subst pj
 have hR:=hR.go bC;have cg:=cg.go bC.fr
 refine aA (ir (p.2+1) p.2 om om w4) ?_
 rintro _ w5 ⟨rfl,aN⟩
 have l3:=aN.size
 refine cN aN av hR cg λav hR cg=>?_
 refine W ?_
 apply oP 3 46 49 rfl oQ
 intro _
 exact oQ
 intro xx
 refine aZ<|zc rfl (λh4=>?_) (λh4=>?_)
 have hu:fW e.head=true:=(by rw[WM];exact h4)
 rw[akg ba hu hp]
 refine zr<|zm<|zm<|aA (r7 (bu T) p.1 om E L1 b true w5 av) ?_
 rintro v52 w6 ⟨Kw,L2,av,bC⟩
 subst Kw
 have hR:=hR.go bC
 refine W ?_
 refine ix (λ_:Unit=>[(0,.pointer (some ⟨b,0,none⟩)),(9,str (aT p.2)),(10,.int .i64 (p.1.types.length:Int)),(11,str (if e.head=qT then[49] else[48]))]) (λ_ w'=>aj [] w6 w') ?_ ?_
 refine zc rfl (λh5=>?_) (λh5=>?_)
 have hz:e.head=qT:=h5
 refine W ?_
 exact⟨(),⟨rfl,rfl,rfl,by rw[iP hz];rfl⟩,aj.refl _ _⟩
 have hz:¬e.head=qT:=h5
 refine WZ ?_
 exact⟨(),⟨rfl,rfl,rfl,by rw[iN hz];rfl⟩,aj.refl _ _⟩
 intro gu w7 e7 hI
 have av:=av.ext hI;have hR:=hR.ext hI
 refine zr<|zm<|zm<|aA (ir (p.1.types.length+1) p.1.types.length om om w7) ?_
 rintro _ w8 ⟨rfl,cE⟩
 have A4:=cE.size
 refine bI cE av hR λav hR=>?_
 have cR:=av.db
 have mj:(if e.head=qT then([49]:ai) else[48]).length<=1:=(by split<;>decide)
 refine zm<|zm<|pO bh bf rfl rfl rfl rfl rfl λw9 aB HC df=>bI aB av hR λav hR=>?_
 refine aA (kG sB [aT p.1.types.length,aT p.2,if e.head=qT then[49] else[48]] (mh de sm (by intro z hz;simp at hz;rcases hz with rfl|rfl|rfl;(·exact lP om);(·exact lP om);(·omega))) (p.1.cY (bu T)) (show p.1.code.length<100000 from om) E L2 b _ w9 av (aJ.dK [aT p.1.types.length,aT p.2,if e.head=qT then[49] else[48]] HC (λhx=>by have:=cR _ hx;omega))) ?_
 rintro WN cu ⟨L3,av,bC⟩
 have hR:=hR.go bC
 refine W ?_
 exact⟨_,rfl,rfl,L3,av,hR⟩
 have hu:fW e.head=false:=(by rw[WM];exact h4)
 have iy:=iy hu
 have aQ:=eW aP (i:=2) om
 obtain⟨b2,lF,iA,iw,e2,bU,_⟩:=aQ
 cases e2
 rw[akh ba eJ rk hu hp hq]
 refine WL ?_
 refine zl iC rfl (cg.at rfl)<|WL ?_
 refine zL eU aL rfl ((bU.go hR.fr).cells) rfl<|aA (C5 t (nth e.au.ak 2).aw p.1 om om om om E L1 b bt _ _ _ w5 av (hR.tk hT dX) dX) ?_
 rintro v20 w6 ⟨pj,L2,av,bC⟩
 rw[<-hq] at pj av
 subst pj
 have hR:=hR.go bC
 refine aA (ir (q.2+1) q.2 om om w6) ?_
 rintro _ w7 ⟨rfl,bW⟩
 have lf:=bW.size
 refine bI bW av hR λav hR=>?_
 refine W ?_
 refine aA (r7 (bu T) q.1 om E L2 b true w7 av) ?_
 rintro v52 w8 ⟨Kw,L3,av,bC⟩
 subst Kw
 have hR:=hR.go bC
 refine W ?_
 refine aA (aiU e.head w8) ?_
 rintro _ w9 ⟨rfl,aB⟩
 have o7:=aB.size
 refine bI aB av hR λav hR=>?_
 have hol:=akj e.head
 refine zm<|aA (ir (q.1.types.length+1) q.1.types.length om om w9) ?_
 rintro _ cu ⟨rfl,cB⟩
 have CM:=cB.size
 refine bI cB av hR λav hR=>?_
 have cR:=av.db
 refine zm<|zm<|pO bh bf rfl rfl rfl rfl rfl λeD dd EG vi=>bI dd av hR λav hR=>?_
 refine aA (kG (qm e.head) [aT q.1.types.length,aT p.2,aT q.2] (mh om sm (by intro z hz;simp at hz;rcases hz with rfl|rfl|rfl<;>exact lP om)) (q.1.cY (bu T)) (show q.1.code.length<100000 from om) E L3 b _ eD av (aJ.dK [aT q.1.types.length,aT p.2,aT q.2] EG (λhx=>by have:=cR _ hx;omega))) ?_
 rintro WN fA ⟨L4,av,bC⟩
 have hR:=hR.go bC
 refine W ?_
 exact⟨_,rfl,rfl,L4,av,hR⟩
theorem WO {on:Nat} {aV name:ai} {K:Ty} {rest:Ex} (ky:on<1000) (ht:m.types.length+4<1000):(eF m s on aV name K rest).1.types.length<=m.types.length+4∧(eF m s on aV name K rest).1.code.length<=m.code.length+4∧(eF m s on aV name K rest).2.1<1000∧(eF m s on aV name K rest).1.count<=m.count+1∧(eF m s on aV name K rest).1.bF.length<=m.bF.length+1:=by
 unfold eF
 split
 ·have h:=Ug m.k7 s on (cH rest [name] []) aV m.aM (dz (bu K)) [bu K]
  refine⟨?_,?_,?_,?_,?_⟩
  ·show(nW m s on aV name K rest).m.types.length<=_
   unfold nW;rw[h.types];exact lR _
  ·show(nW m s on aV name K rest).m.code.length<=_
   unfold nW;rw[h.code];exact lR _
  ·show m.types.length+3<1000;omega
  ·exact lR _
  ·show((nW m s on aV name K rest).m.bF++[_]).length<=_
   unfold nW;rw[h.bF,lA];exact lR _
 ·exact⟨by show m.types.length<=_;omega,by show m.code.length<=_;omega,ky,by show m.count<=_;omega,by show m.bF.length<=_;omega⟩
theorem WQ (m:Mk) (s:Nat):(sC m s).types.length=m.types.length+3∧(sC m s).code.length=m.code.length+3:=by
 unfold sC;simp[Mk.cY,Mk.cA]
structure O0 (s:cD) (name:ai) (rest:Ex):Prop where
 ok:rest.ok
 n:rest.n<=1000
 fv:∀x,x∈cH rest [name] []->(look (ew s) x).isSome=true
 len:(cH rest [name] []).length<=40
theorem ako (t:Tk) (m:Mk) (f x:Ex) (name:ai) (rest:Ex) (K:Ty) (ba:(Ex.bi j4 f x).ok) (hn:(Ex.bi j4 f x).n<=1000) (eR:bw (.bi j4 f x) (ew t.sc)=some K) (hs:jT t.sc) (nC:t.sc.length<=9000) (rj:t.on<1000) (ky:t.aV.length<=272) (O2:name≠[]->O0 t.sc name rest) (ht:m.types.length+9<1000) (hc:m.code.length<=7000) (wP:m.count<1000) (fF:m.bF.length<90000) 
  (E L:List Nat) (b bt:Nat) (v vr:Value) (w:World) (h:dG t8 E L w b true m) (hT:gI L w 112 bt t) (dX:bt∈E) (hv:bB L w v (Ex.bi j4 f x).au) (ow:bB L w vr rest.au):
  bz Tryz.prog 113 [.pointer (some ⟨b,0,none⟩),.pointer (some ⟨bt,0,none⟩),v,str name,vr] w λr w'=>∃L',dG t8 E L' w' b true (xV (eF (bT (bT m t.sc f.aw).1 t.sc x.aw).1 t.sc t.on t.aV name K rest).1 (bT m t.sc f.aw).2 (bT (bT m t.sc f.aw).1 t.sc x.aw).2 (eF (bT (bT m t.sc f.aw).1 t.sc x.aw).1 t.sc t.on t.aV name K rest).2.1)∧(∃t',gI L' w' 112 bt t'∧t'.aM=t.aM∧t'.regs=t.regs)∧Fr L w L' w':=by
 obtain⟨ar,nr,cr,rfl,p5,aP⟩:=cU hv
 subst p5
 obtain⟨a9,n9,c9,rfl,Ba,_⟩:=cU ow
 subst Ba
 have lq:=h.db
 have iZ:=lv hs.types eR
 have av:=h
 have hR:=dS.refl E L w
 have ij:bB L w _ (Ex.bi j4 f x).au:=hv
 have mE:=oo ba.2.1
 have mm:=oo ba.2.2
 obtain⟨p,hp⟩:∃p,p=bT m t.sc f.aw:=⟨_,rfl⟩
 have yT:p.1.types.length<=m.types.length+1∧p.1.code.length<=m.code.length+1∧p.1.count=m.count∧p.1.bF=m.bF∧p.2<1000:=by rw[hp];exact HO hs om
 obtain⟨ptl,pcl,pcn,ptk,p2⟩:=yT
 rw[<-hp]
 obtain⟨q,hq⟩:∃q,q=bT p.1 t.sc x.aw:=⟨_,rfl⟩
 have HP:q.1.types.length<=p.1.types.length+1∧q.1.code.length<=p.1.code.length+1∧q.1.count=p.1.count∧q.1.bF=p.1.bF∧q.2<1000:=by rw[hq];exact HO hs om
 obtain⟨qtl,qcl,qcn,qtk,q2⟩:=HP
 rw[<-hq]
 obtain⟨C,hC⟩:∃C,C=eF q.1 t.sc t.on t.aV name K rest:=⟨_,rfl⟩
 have Dm:C.1.types.length<=q.1.types.length+4∧C.1.code.length<=q.1.code.length+4∧C.2.1<1000∧C.1.count<=q.1.count+1∧C.1.bF.length<=q.1.bF.length+1:=by rw[hC];exact WO rj om
 obtain⟨Ctl,Ccl,C2,_,_⟩:=Dm
 rw[<-hC]
 obtain⟨rc,HQ⟩:∃r,r=C.1.types.length:=⟨_,rfl⟩
 obtain⟨me,Dn⟩:∃z,z=sC C.1 p.2:=⟨_,rfl⟩
 have O3:me.types.length=C.1.types.length+3∧me.code.length=C.1.code.length+3:=by rw[Dn];exact WQ _ _
 obtain⟨met,mec⟩:=O3
 obtain⟨r,mZ⟩:∃r,r=me.types.length:=⟨_,rfl⟩
 obtain⟨c,et⟩:∃c,c=me.code.length:=⟨_,rfl⟩
 have t0:me.types.length=r:=mZ.symm
 have c0:me.code.length=c:=et.symm
 have akp:xV C.1 p.2 q.2 C.2.1=(((me.cA nq [[48],aT (rc+2)]).cA nq [[49],aT q.2]).cA nq [[50],aT C.2.1]).cA Ac [aT (rc+1)]:=by rw[Dn,HQ];rfl
 rw[akp]
 have Oq:(Ex.bi j4 f x).au.ak.length=3:=rfl
 obtain⟨b1,eX,gA,gm,e1,bK,_⟩:=eW aP (i:=1) om
 cases e1
 have bK:fy L w _ _ [str f.au.aw,.slice gA f.au.ak.length gm]:=bK
 rw[Ex.qW] at bK
 obtain⟨b2,lF,iA,iw,e2,bU,_⟩:=eW aP (i:=2) om
 cases e2
 have bU:fy L w _ _ [str x.au.aw,.slice iA x.au.ak.length iw]:=bU
 rw[Ex.qW] at bU
 refine bS [] 67 Tryz.func113 rfl Zl rfl rfl ?_
 refine zr<|eH rfl λw1 aI cM dk=>bI aI av hR λav hR=>?_
 refine eH rfl λw2 az cW dC=>cN az av hR cM λav hR cM=>?_
 refine W ?_
 have cM:dM L w2 w.heap.size [str (Ex.bi j4 f x).au.aw,.slice (some ⟨b1,eX,none⟩) (Ex.bi j4 f x).au.ak.length cr].toArray 78:=⟨cM,λhx=>by have:=lq _ hx;omega⟩
 have cW:dM L w2 w1.heap.size [str rest.au.aw,.slice a9 rest.au.ak.length c9].toArray 78:=⟨cW,λhx=>by have:=lq _ hx;omega⟩
 refine aA (Kj t (Ex.bi j4 f x) ba hn hs.types om _ L bt w2 av.db (hR.tk hT dX) (ij.go hR.fr)) ?_
 rintro v3 w3 ⟨ko,aH⟩
 have fm:=aH.size
 refine ie aH av hR cM cW λav hR cM cW=>?_
 have eS:=ko
 rw[eR] at eS
 subst eS
 refine WI ?_
 refine zi (i:=1) cz aL rfl rfl ((show 1<3 from om))<|zL eU aL rfl ((bK.go hR.fr).cells) rfl<|aA (C5 t f.aw m om om om nC E L b bt _ _ _ w3 av (hR.tk hT dX) dX) ?_
 rintro v20 w4 ⟨pj,L1,av,bC⟩
 rw[<-hp] at pj av
 subst pj
 have hR:=hR.go bC;have cM:=cM.go bC.fr;have cW:=cW.go bC.fr
 refine WI ?_
 refine zi (i:=2) cz aL rfl rfl ((show 2<3 from om))<|zL eU aL rfl ((bU.go hR.fr).cells) rfl<|aA (C5 t x.aw p.1 om om om nC E L1 b bt _ _ _ w4 av (hR.tk hT dX) dX) ?_
 rintro v20 w5 ⟨pj,L2,av,bC⟩
 rw[<-hq] at pj av
 subst pj
 have hR:=hR.go bC;have cW:=cW.go bC.fr
 refine W ?_
 refine ix (λ_:Unit=>[(0,.pointer (some ⟨b,0,none⟩)),(1,.pointer (some ⟨bt,0,none⟩)),(11,.int .i64 (p.2:Int)),(12,.int .i64 (q.2:Int))]) (λ_ ww=>∃L3,dG t8 E L3 ww b true C.1∧gI L3 ww 112 bt {t with on:=C.2.1,aV:=C.2.2}∧Fr L w L3 ww) ?_ ?_
 refine zc rfl (λh1=>?_) (λh1=>?_)
 have eK:name≠[]:=(by simpa using h1)
 have aQ:=O2 eK
 obtain⟨g1,g2,g3,g4⟩:=aQ
 have Dp:eF q.1 t.sc t.on t.aV name K rest=tO q.1 t.sc t.on t.aV name K rest:=(by unfold eF;rw[iP eK])
 rw[Dp] at hC
 refine W ?_
 refine aA (Wu t q.1 name K rest g1 g2 g3 g4 hs nC iZ rj ky om om om (by rw[qtk,ptk];omega) E L2 b bt _ w5 av (hR.tk hT dX) dX (ow.go hR.fr)) ?_
 rintro v39 w6 ⟨L3,av,dY,yV,_⟩
 rw[<-hC] at av dY
 have hF:=hR.fr.go yV
 refine W ?_
 exact⟨(),⟨rfl,rfl,rfl,rfl⟩,L3,av,dY,hF⟩
 have eK:¬name≠[]:=(by simpa using h1)
 have Dp:eF q.1 t.sc t.on t.aV name K rest=(q.1,t.on,t.aV):=(by unfold eF;rw[iN eK])
 rw[Dp] at hC
 subst hC
 refine WZ ?_
 exact⟨(),⟨rfl,rfl,rfl,rfl⟩,L2,av,hR.tk hT dX,hR.fr⟩
 intro gu w6 e6 hI
 obtain⟨L3,av,dY,yV⟩:=hI
 have hR:=dS.refl E L3 w6
 refine zr<|zm<|zm<|aA (V5 C.1 p.2 om om om E L3 b w6 av) ?_
 rintro WR w7 ⟨Eu,L0,av,bC⟩
 rw[<-Dn] at av
 rw[<-HQ] at Eu
 subst Eu
 have hR:=hR.go bC
 have cR:=av.db
 refine W ?_
 refine kL bh bf rfl rfl rfl rfl λw8 cE Di ld=>bI cE av hR λav hR=>?_
 refine aA (kG nq [[48],aT (rc+2)] (mh de sm (by intro z hz;simp at hz;rcases hz with rfl|rfl;(·decide);(·exact lP om))) me om E L0 b _ w8 av (aJ.dK [[48],aT (rc+2)] Di (λhx=>by have:=cR _ hx;omega))) ?_
 rintro jC w9 ⟨L1,av,bC⟩
 have hR:=hR.go bC
 clear Di
 have ik:∃x,x=me.cA nq [[48],aT (rc+2)]:=⟨_,rfl⟩
 obtain⟨m1,ll⟩:=ik
 rw[<-ll] at av
 have t1:m1.types.length=r+0:=(by rw[ll,ot];omega)
 have c1:m1.code.length=c+1:=(by rw[ll,ph];omega)
 have cR:=av.db
 refine W ?_
 refine aA (ir (q.2+1) q.2 om om w9) ?_
 rintro _ cu ⟨rfl,cB⟩
 have CM:=cB.size
 refine bI cB av hR λav hR=>?_
 have cR:=av.db
 refine kL bh bf rfl rfl rfl rfl λeD dd WT vi=>bI dd av hR λav hR=>?_
 refine aA (kG nq [[49],aT q.2] (mh de sm (by intro z hz;simp at hz;rcases hz with rfl|rfl;(·decide);(·exact lP om))) m1 om E L1 b _ eD av (aJ.dK [[49],aT q.2] WT (λhx=>by have:=cR _ hx;omega))) ?_
 rintro jC fA ⟨L2,av,bC⟩
 have hR:=hR.go bC
 clear WT
 have fj:∃x,x=m1.cA nq [[49],aT q.2]:=⟨_,rfl⟩
 obtain⟨m2,ln⟩:=fj
 rw[<-ln] at av
 have t2:m2.types.length=r+0:=(by rw[ln,ot];omega)
 have c2:m2.code.length=c+2:=(by rw[ln,ph];omega)
 have cR:=av.db
 have aQ:=hR.tk dY dX
 obtain⟨u1,u3,u4,u5,u6,u8,cX,gM⟩:=aQ
 have cX:aJ fA bt [str t.aM,u1,.int .i64 (t.loads:Int),u3,u4,u5,u6,str t.expr.au.aw,u8,.int .i64 (C.2.1:Int),str C.2.2,.int .i64 (t.next:Int)].toArray 112:=cX
 refine W ?_
 refine aA (ir (C.2.1+1) C.2.1 om om fA) ?_
 rintro _ jB ⟨rfl,gv⟩
 have Hu:=gv.size
 refine bI gv av hR λav hR=>?_
 have cR:=av.db
 refine kL bh bf rfl rfl rfl rfl λiG dA Ky C3=>bI dA av hR λav hR=>?_
 refine aA (kG nq [[50],aT C.2.1] (mh de sm (by intro z hz;simp at hz;rcases hz with rfl|rfl;(·decide);(·exact lP om))) m2 om E L2 b _ iG av (aJ.dK [[50],aT C.2.1] Ky (λhx=>by have:=cR _ hx;omega))) ?_
 rintro jC p3 ⟨L3,av,bC⟩
 have hR:=hR.go bC
 clear Ky
 have yO:∃x,x=m2.cA nq [[50],aT C.2.1]:=⟨_,rfl⟩
 obtain⟨m3,lp⟩:=yO
 rw[<-lp] at av
 have t3:m3.types.length=r+0:=(by rw[lp,ot];omega)
 have c3:m3.code.length=c+3:=(by rw[lp,ph];omega)
 have cR:=av.db
 refine W ?_
 refine fc bh bf rfl rfl λlk mJ WU Ha=>bI mJ av hR λav hR=>?_
 refine aA (kG Ac [aT (rc+1)] (mh de sm (by intro z hz;simp at hz;subst hz;exact lP om)) m3 om E L3 b _ lk av (aJ.dK [aT (rc+1)] WU (λhx=>by have:=cR _ hx;omega))) ?_
 rintro jC C4 ⟨L4,av,bC⟩
 have hR:=hR.go bC
 clear WU
 have Db:∃x,x=m3.cA Ac [aT (rc+1)]:=⟨_,rfl⟩
 obtain⟨m4,ox⟩:=Db
 rw[<-ox] at av
 have t4:m4.types.length=r+0:=(by rw[ox,ot];omega)
 have c4:m4.code.length=c+4:=(by rw[ox,ph];omega)
 have cR:=av.db
 refine W ?_
 subst ox lp ln ll
 exact⟨_,rfl,_,av,⟨_,hR.tk dY dX,rfl,rfl⟩,yV.go hR.fr⟩
/-! ### Cells of one block that are written -/
def KW (b:Nat) (T:TypeId) (ws:List (Nat×Value)) (w w':World):Prop:=aj [b] w w'∧∀cs,aJ w b cs T->∃cs',aJ w' b cs' T∧cs'.size=cs.size∧∀j:Nat,cs'[j]?=cs[j]?∨∃v,(j,v)∈ws∧cs'[j]?=some v
theorem akr {cs:Array Value} (h:k+vs.length<=cs.size) (j:Nat):(setAt cs k vs)[j]?=if k<=j∧j<k+vs.length then vs[j-k]? else cs[j]?:=by
 rw[<-Array.getElem?_toList,Jf _ _ _ h,List.getElem?_append,List.getElem?_append,List.getElem?_take,List.getElem?_drop,List.length_take,Array.length_toList,Nat.min_eq_left om]
 by_cases h1:j<k
 ·rw[iP h1,iP h1,iN om];simp
 ·rw[iN h1]
  by_cases h2:j<k+vs.length
  ·rw[iP om,iP ⟨by omega,h2⟩]
  ·rw[iN om,iN om]
   have:k+vs.length+(j-k-vs.length)=j:=by omega
   rw[this];simp
def rowAt (o:Nat):List Value->List (Nat×Value)
 |[]=>[]
 |v::vs=>(o,v)::rowAt (o+1) vs
theorem aks:∀{vs:List Value} {o j:Nat} {v:Value},(j,v)∈rowAt o vs↔o<=j∧vs[j-o]?=some v:=by intro x;induction x<;>grind [rowAt]
section
variable {P:Program} {n:Nat} {ops:Array Oper} {K:Env->World->Prop} {rest:List Oper} {e:Env} {w:World}
 {dst:Option Nat} {ty:TypeId} {pos:String} {after:Array Edge} {g:Option (Nat×Bool)} {x y:Operand}
theorem akt {T U:Nat} {vs:List Value} {o:Nat} {cs:Array Value} (jN:TI P T sz bytes z) (hg:gate ops e g=true) (hx:ev e x= .pointer (some ⟨b,o,none⟩)) (hy:ev e y=v) (hv:v.cells=vs.toArray) (hl:Nat.beq vs.length sz=true) (h1:vs.all Value.oneCell'=true) 
  (hb:aJ w b cs U) (ho:o+vs.length<=cs.size)
  (k:∀w',aj [b] w w'->aJ w' b (setAt cs o vs) U->KW b U (rowAt o vs) w w'->w'.heap.size=w.heap.size->OW P n ops K rest e w'):
  OW P n ops K (⟨none,.store T x y,ty,pos,after,g⟩::rest) e w:=by
 have fQ:vs.length=sz:=Nat.eq_of_beq_eq_true hl
 obtain⟨w',jM,hk,gN,hz⟩:=MU (P:=P) vs 0 w b o U cs hb om (λu hu=>List.all_eq_true.1 h1 u hu)
 rw[Nat.add_zero] at gN
 refine H7 hg (w':=w') (by
  simp[execOp,Instr.storeAt,Instr.sureAddr,hx,hy,storeVar,hv,jN.rD,fQ,jM]) (k w' hk gN ⟨hk,λcs2 h2=>?_⟩ hz)
 have e:cs2=cs:=by
  unfold aJ at h2 hb
  rw[h2] at hb
  injection hb with h;injection h
 subst e
 refine⟨_,gN,MT _ _ _,λj=>?_⟩
 rw[akr ho]
 split
 ·rename_i h
  obtain⟨v,hv⟩:∃v,vs[j-o]?=some v:=⟨vs[j-o]'om,gE om⟩
  exact .inr ⟨v,aks.2 ⟨h.1,hv⟩,hv⟩
 ·exact .inl rfl
end
section
variable {P:Program} {n:Nat} {ops:Array Oper} {K:Env->World->Prop} {rest:List Oper} {e:Env} {w:World}
 {dst:Option Nat} {ty:TypeId} {pos:String} {after:Array Edge} {g:Option (Nat×Bool)} {x y:Operand}
end
theorem WV (xs:List ai):∀row,row∈ga xs->∀c,c∈row->∀v,c= .val v->v.oneCell'=true:=by
 intro row hr c hc v hv
 obtain⟨n,_,rfl⟩:=List.mem_map.1 hr
 simp at hc;subst hc;cases hv;rfl
theorem dS.gX (k:dS E L w L1 w1) {cs:Array Value} {T:TypeId} (h:aJ w b cs T) (hb:b∈E):aJ w1 b cs T:=let⟨_,kg,hG⟩:=k.out;h.aF kg λhx=>hG b hx hb
def qI (bt:Nat) (E:List Nat) (w w':World):Prop:=∃G,aj G w w'∧∀z,z∈G->z∈E->z=bt
theorem dS.ft (k:dS E L w L1 w1) (bt:Nat):qI bt E w w1:=let⟨G,kg,hG⟩:=k.out;⟨G,kg,λz hz sf=>absurd sf (hG z hz)⟩
theorem qI.trans {bt:Nat} (h:qI bt E w w1) (k:qI bt E w1 w2):qI bt E w w2:=let⟨G,kg,hG⟩:=h;let⟨G2,kg2,yA⟩:=k;⟨G++G2,(kg.mono λx hx=>List.mem_append_left _ hx).trans (kg2.mono λx hx=>mR _ hx),λz hz sf=>(mA.1 hz).elim (λh=>hG z h sf) (λh=>yA z h sf)⟩
theorem qI.sub {bt:Nat} (h:qI bt (x::E) w w1):qI bt E w w1:=let⟨G,kg,hG⟩:=h;⟨G,kg,λz hz sf=>hG z hz (mK _ sf)⟩
theorem qI.of {bt:Nat} (k:aj G w w1) (hG:∀z,z∈G->z∈E->z=bt):qI bt E w w1:=⟨G,k,hG⟩
theorem qI.gX {bt:Nat} (k:qI bt E w w1) {cs:Array Value} {T:TypeId} (h:aJ w b cs T) (hb:b∈E) (hn:b≠bt):aJ w1 b cs T:=let⟨_,kg,hG⟩:=k;h.aF kg λhx=>hn (hG b hx hb)
theorem akw (t:Tk) (m:Mk) (c xa y:Ex) (name:ai) (rest:Ex) (K:Ty) (ba:(Ex.ite c xa y).ok) (hn:(Ex.ite c xa y).n<=1000) (eR:bw (.ite c xa y) (ew t.sc)=some K) (hs:jT t.sc) (nC:t.sc.length<=9000) (rj:t.on<1000) (ky:t.aV.length<=272) (O2:name≠[]->O0 t.sc name rest) (ht:m.types.length+9<1000) (hc:m.code.length<=7000) (wP:m.count+1<1000) (fF:m.bF.length<90000) 
  (E L:List Nat) (b bt:Nat) (v vr:Value) (w:World) (h:dG t8 E L w b true m) (hT:gI L w 112 bt t) (dX:bt∈E) (hv:bB L w v (Ex.ite c xa y).au) (ow:bB L w vr rest.au):
  bz Tryz.prog 114 [.pointer (some ⟨b,0,none⟩),.pointer (some ⟨bt,0,none⟩),v,str name,vr] w λr w'=>∃L',bB L' w' r y.au∧dG t8 E L' w' b true (GL (eF (bT m t.sc c.aw).1 t.sc t.on t.aV name K rest).1 t.sc (eF (bT m t.sc c.aw).1 t.sc t.on t.aV name K rest).2.1 (eF (bT m t.sc c.aw).1 t.sc t.on t.aV name K rest).2.2 (bT m t.sc c.aw).2 xa)∧gI L' w' 112 bt {t with on:=(eF (bT m t.sc c.aw).1 t.sc t.on t.aV name K rest).2.1,aV:=(eF (bT m t.sc c.aw).1 t.sc t.on t.aV name K rest).2.2}∧Fr L w L' w'∧qI bt E w w':=by
 obtain⟨ar,nr,cr,rfl,p5,aP⟩:=cU hv
 subst p5
 obtain⟨a9,n9,c9,rfl,Ba,_⟩:=cU ow
 subst Ba
 have lq:=h.db
 have iZ:=lv hs.types eR
 have av:=h
 have hR:=dS.refl E L w
 have ij:bB L w _ (Ex.ite c xa y).au:=hv
 have lW:=oo ba.1
 obtain⟨p,hp⟩:∃p,p=bT m t.sc c.aw:=⟨_,rfl⟩
 have yT:p.1.types.length<=m.types.length+1∧p.1.code.length<=m.code.length+1∧p.1.count=m.count∧p.1.bF=m.bF∧p.2<1000:=by rw[hp];exact HO hs om
 obtain⟨ptl,pcl,pcn,ptk,p2⟩:=yT
 rw[<-hp]
 obtain⟨C,hC⟩:∃C,C=eF p.1 t.sc t.on t.aV name K rest:=⟨_,rfl⟩
 have Dm:C.1.types.length<=p.1.types.length+4∧C.1.code.length<=p.1.code.length+4∧C.2.1<1000∧C.1.count<=p.1.count+1∧C.1.bF.length<=p.1.bF.length+1:=by rw[hC];exact WO rj om
 obtain⟨Ctl,Ccl,C2,Ccn,Ctk⟩:=Dm
 rw[ptk] at Ctk
 rw[<-hC]
 have hCn:C.1.count<1000:=by omega
 have yb:=AV hCn
 obtain⟨m1,rY⟩:∃z,z=C.1.k7.cA F8 [aT p.2,C.1.aM]:=⟨_,rfl⟩
 have aky:m1.types=C.1.types:=by rw[rY];rfl
 have akz:m1.bF=C.1.bF:=by rw[rY];rfl
 have hif:GL C.1 t.sc C.2.1 C.2.2 p.2 xa={m1 with bF:=m1.bF++[⟨C.1.aM,m1.types,0,[],t.sc,xa,C.2.1,C.2.2,m1.types.length⟩]}:=by rw[rY];rfl
 rw[hif]
 have JQ:(Ex.ite c xa y).au.ak.length=4:=rfl
 obtain⟨b1,eX,gA,gm,e1,bK,_⟩:=eW aP (i:=1) om
 cases e1
 have bK:fy L w _ _ [str c.au.aw,.slice gA c.au.ak.length gm]:=bK
 rw[Ex.qW] at bK
 obtain⟨b2,lF,iA,iw,e2,bU,dI⟩:=eW aP (i:=2) om
 cases e2
 have bU:fy L w _ _ [str xa.au.aw,.slice iA xa.au.ak.length iw]:=bU
 have dI:bB L w (.agg #[str xa.au.aw,.slice iA xa.au.ak.length iw]) xa.au:=dI
 obtain⟨b3,A3,pR,pS,e3,dO,dY⟩:=eW aP (i:=3) om
 cases e3
 have dO:fy L w _ _ [str y.au.aw,.slice pR y.au.ak.length pS]:=dO
 have dY:bB L w (.agg #[str y.au.aw,.slice pR y.au.ak.length pS]) y.au:=dY
 refine kW [.cell 10 78] 81 Tryz.func114 rfl Zm rfl rfl rfl ?_
 refine zr<|eH rfl λw1 aI cM dk=>bI aI av hR λav hR=>?_
 refine eH rfl λw2 az cW dC=>cN az av hR cM λav hR cM=>?_
 refine dx aL rfl rfl rfl λw3 aH qp Cg=>bI aH cM cW λcM cW=>?_
 have av:=av.sY aH sm (lR _) qp.lt
 have p4:=(dS.refl E L w2).more aH sm (lR _) (λz hz=>by have:=lq z (h.sub hz);omega)
 have HR:Fr L w (w2.heap.size::L) w3:=hR.fr.go p4.fr
 have WW:=(hR.ext aH).ft bt
 have hT:=(hR.tk hT dX)
 have hT:=p4.tk hT dX
 have hR:=dS.refl (w2.heap.size::E) (w2.heap.size::L) w3
 have ru:bt∈w2.heap.size::E:=mK _ dX
 have E5:w2.heap.size∈w2.heap.size::E:=List.mem_cons_self ..
 have O4:=qp
 refine W ?_
 have KB:∀z,z∈w2.heap.size::L->z=w2.heap.size∨z<w.heap.size:=(λz hz=>(mC.1 hz).imp id (lq z))
 have cM:dM (w2.heap.size::L) w3 w.heap.size [str (Ex.ite c xa y).au.aw,.slice (some ⟨b1,eX,none⟩) (Ex.ite c xa y).au.ak.length cr].toArray 78:=⟨cM,λhx=>by have:=KB _ hx;omega⟩
 have cW:dM (w2.heap.size::L) w3 w1.heap.size [str rest.au.aw,.slice a9 rest.au.ak.length c9].toArray 78:=⟨cW,λhx=>by have:=KB _ hx;omega⟩
 have jk:aJ w3 w2.heap.size [str [],.slice none 0 0].toArray 78:=O4
 refine aA (Kj t (Ex.ite c xa y) ba hn hs.types om _ _ bt w3 av.db (hR.tk hT ru) (ij.go (HR.go hR.fr))) ?_
 rintro v4 w4 ⟨jR,aO⟩
 have fE:=aO.size
 refine ie aO av hR cM cW λav hR cM cW=>?_
 have eS:=jR
 rw[eR] at eS
 subst eS
 refine WI ?_
 refine zi (i:=1) cz aL rfl rfl ((show 1<4 from om))<|zL eU aL rfl ((bK.go (HR.go hR.fr)).cells) rfl<|aA (C5 t c.aw m om om om nC (w2.heap.size::E) _ b bt _ _ _ w4 av (hR.tk hT ru) ru) ?_
 rintro v20 w5 ⟨pj,L1,av,bC⟩
 rw[<-hp] at pj av
 subst pj
 have hR:=hR.go bC;have cM:=cM.go bC.fr;have cW:=cW.go bC.fr
 have jk:=hR.gX jk E5
 refine W ?_
 refine ix (λ_:Unit=>[(0,.pointer (some ⟨b,0,none⟩)),(1,.pointer (some ⟨bt,0,none⟩)),(7,.pointer (some ⟨w.heap.size,0,none⟩)),(10,.pointer (some ⟨w2.heap.size,0,none⟩)),(12,.int .i64 (p.2:Int))]) (λ_ ww=>∃L3,dG t8 (w2.heap.size::E) L3 ww b true C.1∧gI L3 ww 112 bt {t with on:=C.2.1,aV:=C.2.2}∧Fr L w L3 ww∧Fr L1 w5 L3 ww∧aJ ww w2.heap.size [str [],.slice none 0 0].toArray 78∧qI bt E w ww) ?_ ?_
 refine zc rfl (λh1=>?_) (λh1=>?_)
 have eK:name≠[]:=(by simpa using h1)
 have aQ:=O2 eK
 obtain⟨g1,g2,g3,g4⟩:=aQ
 have Dp:eF p.1 t.sc t.on t.aV name K rest=tO p.1 t.sc t.on t.aV name K rest:=(by unfold eF;rw[iP eK])
 rw[Dp] at hC
 have dL:w2.heap.size≠bt:=(λe9=>by have:=lq bt (h.sub dX);omega)
 refine W ?_
 refine aA (Wu t p.1 name K rest g1 g2 g3 g4 hs nC iZ rj ky om om om (by rw[ptk];omega) (w2.heap.size::E) L1 b bt _ w5 av (hR.tk hT ru) ru (ow.go (HR.go hR.fr))) ?_
 rintro v39 w6 ⟨L3,av,WX,yV,G9,aB,E6⟩
 rw[<-hC] at av WX
 have hF:=(HR.go hR.fr).go yV
 have jk:=(hR.gX O4 E5).aF aB (λhx=>dL (E6 _ hx E5))
 have hOq:=(WW.trans (hR.ft bt).sub).trans (qI.of aB (λz hz sf=>E6 z hz (mK _ sf)))
 refine W ?_
 exact⟨(),⟨rfl,rfl,rfl,rfl,rfl⟩,L3,av,WX,hF,yV,jk,hOq⟩
 have eK:¬name≠[]:=(by simpa using h1)
 have Dp:eF p.1 t.sc t.on t.aV name K rest=(p.1,t.on,t.aV):=(by unfold eF;rw[iN eK])
 rw[Dp] at hC
 subst hC
 refine WZ ?_
 exact⟨(),⟨rfl,rfl,rfl,rfl,rfl⟩,L1,av,hR.tk hT ru,HR.go hR.fr,Fr.refl _ _,hR.gX O4 E5,WW.trans (hR.ft bt).sub⟩
 intro gu w6 e6 hI
 obtain⟨L3,av,du,yV,hF9,jk,hOc⟩:=hI
 have hR:=dS.refl (w2.heap.size::E) L3 w6
 have WY:=cM.go hF9
 have akE:=jk
 refine zr<|zm<|aA (Ot C.1 om (w2.heap.size::E) L3 b true w6 av) ?_
 rintro v34 w7 ⟨⟨e34,av⟩,akG⟩
 subst e34
 have akH:=av.mem.1 b sm
 have tT:=av.mem.2.2.1
 have hR:=hR.aD akG akH tT
 refine W ?_
 refine aA (ir (p.2+1) p.2 om om w7) ?_
 rintro _ w8 ⟨rfl,cE⟩
 have A4:=cE.size
 refine bI cE av hR λav hR=>?_
 have cR:=av.db
 refine zm<|kL bh bf rfl rfl rfl rfl λw9 aB yv df=>bI aB av hR λav hR=>?_
 refine aA (kG F8 [aT p.2,C.1.aM] (mh de sm (by intro z hz;simp at hz;rcases hz with rfl|rfl;(·exact lP om);(·omega))) C.1.k7 (show C.1.code.length<100000 from om) (w2.heap.size::E) L3 b _ w9 av (aJ.dK [aT p.2,C.1.aM] yv (λhx=>by have:=cR _ hx;omega))) ?_
 rintro v40 cu ⟨L4,av,bC⟩
 rw[<-rY] at av
 have hR:=hR.go bC
 clear yv
 have jV:=hR.tk du ru
 obtain⟨u1,u3,u4,u5,u6,u8,cX,gM⟩:=jV
 have cR:=av.db
 have um:=hR
 have lO:=av
 refine W ?_
 refine dx mr rfl rfl rfl λeD dd fI C3=>?_
 have jY:=dd
 refine cJ mr rfl rfl gM.one fI rfl λfA di fI df=>?_
 have jY:=jY.since di (λx hx=>.inr (by simp at hx;omega))
 refine W ?_
 refine gd (o:=0) bf rfl rfl rfl fI rfl λjB gv fI df=>?_
 have jY:=jY.since gv (λx hx=>.inr (by simp at hx;omega))
 have qC:=lO.ext jY
 have hwq:=jY.size
 have aQ:=qC.open
 obtain⟨KC,vt9,vc9,vy9,gb9,gt9,gc9,gy9,CU,A8⟩:=aQ
 have aQ:=jS A8.ty
 obtain⟨ay9,Hr,ey9⟩:=aQ
 subst ey9
 have hbz:=fI.lt
 have O5:=jB
 refine aZ<|zr<|zS jB.heap.size [] bh bf rfl rfl (lR _) sm λiG dA JP xd=>bI dA fI jY λfI jY=>?_
 have rb:=dA
 have CU:=CU.ext dA
 refine W ?_
 refine wT bh bf rfl rfl rfl rfl rfl rfl xd (((A8.ty.ext rb).rep (L:=[jB.heap.size]) (λx hx mm=>by have:=A8.ty.lt x (by simp[hx]);simp at mm;omega)).fresh (λx hx=>.inl (by simpa using hx))) (WV _) (by rw[qb,aky];simp;omega) λa4 fP g4 p3 ku jJ=>?_
 rw[List.nil_append] at ku
 have jY:=jY.since jJ (λx hx=>.inr (by simp at hx;omega))
 have fI:=fI.aF jJ so
 have kP:=ku.uR
 have jH:=ku.low
 refine zf QG rfl<|gd (o:=1) mu rfl rfl rfl fI rfl λlk mJ fI df=>?_
 have jY:=jY.since mJ (λx hx=>.inr (by simp at hx;omega))
 have kP:=kP.aF mJ (λz hz dC=>by have:=jH z hz;simp at dC;omega)
 refine W ?_
 refine gd (o:=2) oI rfl rfl rfl fI rfl λC4 yI fI df=>?_
 have jY:=jY.since yI (λx hx=>.inr (by simp at hx;omega))
 have kP:=kP.aF yI (λz hz dC=>by have:=jH z hz;simp at dC;omega)
 have wV:=fI.lt
 refine aZ<|zr<|fR bh bf λxw Dc Dq akJ=>cN Dc fI jY kP λfI jY kP=>?_
 refine zf Iq rfl<|gd (o:=3) mu rfl rfl rfl fI rfl λDd Bh fI df=>?_
 have jY:=jY.since Bh (λx hx=>.inr (by simp at hx;omega))
 have kP:=kP.aF Bh (λz hz dC=>by have:=jH z hz;simp at dC;omega)
 have Dq:=Dq.aF Bh so
 have cM:=(WY.go um.fr).ext jY
 have W0:=yV.go um.fr
 refine WI ?_
 refine zi (i:=2) cz aL rfl rfl ((show 2<4 from om))<|zL eU aL rfl (((bU.go W0).ext jY).cells) rfl<|zf QH rfl<|akt (vs:=[str xa.au.aw,.slice iA xa.au.ak.length iw]) aL rfl rfl rfl rfl rfl rfl fI (Nat.le_of_ble_eq_true rfl) λvO xC fI aqn df=>?_
 have jY:=jY.since xC (λx hx=>.inr (by simp at hx;omega))
 have kP:=kP.aF xC (λz hz dC=>by have:=jH z hz;simp at dC;omega)
 have Dq:=Dq.aF xC so
 have qC:=lO.ext jY
 have aQ:=qC.open
 obtain⟨vb8,vt8,vc8,vy8,gb8,gt8,gc8,gy8,aqw,hS8⟩:=aQ
 have aQ:=jS hS8.ty
 obtain⟨ay8,cy8,ey8⟩:=aQ
 subst ey8
 refine W ?_
 refine gd (o:=11) oI rfl rfl rfl fI rfl λrq xz fI df=>?_
 have jY:=jY.since xz (λx hx=>.inr (by simp at hx;omega))
 have kP:=kP.aF xz (λz hz dC=>by have:=jH z hz;simp at dC;omega)
 have Dq:=Dq.aF xz so
 have av:=lO.sY jY sm (lR _) fI.lt
 have xD:Fr L4 cu (cu.heap.size::L4) rq:=((dS.refl [] L4 cu).more jY sm (lR _) sm).fr
 have hR:=um.more jY sm (lR _) (λz hz=>cR z (lO.sub hz))
 have W1:∀z,z∈cu.heap.size::L4->z<=cu.heap.size:=(λz hz=>by rcases mC.1 hz with h9|h9;(·omega);(·have:=cR z h9;omega))
 have Dr:eM (cu.heap.size::L4) rq (.slice iA xa.au.ak.length iw) xa.au.ak:=(by have df:=cU (dI.go (W0.go xD));obtain⟨_,_,_,e9,_,yT⟩:=df;cases e9;exact yT)
 have fJ:gI (cu.heap.size::L4) rq 112 cu.heap.size (Tk.mk C.1.aM m1.types 0 [] t.sc xa C.2.1 C.2.2 m1.types.length):=⟨_,_,_,_,_,_,fI,⟨kP.rep (λz hz E7=>by have:=jH z hz;have:=W1 z E7;omega),Dq.kM.rep (λz hz E7=>by have:=W1 z E7;simp at hz;omega),gM.aK.go xD,gM.at_.go xD,gM.types.go xD,Dr⟩⟩
 have Kl:m1.bF.length<100000:=(by rw[akz];omega)
 have aQ:=av.open
 obtain⟨vb,vt,vc,vy,gb,gt,gc,gy,xp,hS⟩:=aQ
 have aQ:=hS.apart
 obtain⟨yH,mV,vL,mf,vM,uk⟩:=aQ
 obtain⟨u1,u3,u4,u5,u6,u8,HK,s0⟩:=fJ
 have bg:dM gt.toList rq b [vb,vt,.int .i64 ((m1).count:Int),.bool (m1).wide,vc,vy].toArray 110:=⟨xp,λhx=>(mf b hx).2.1 rfl⟩
 have fI:dM gt.toList rq cu.heap.size (pI (Tk.mk C.1.aM m1.types 0 [] t.sc xa C.2.1 C.2.2 m1.types.length) u1 u3 u4 u5 u6 u8).toArray 112:=⟨HK,λhx=>(mf cu.heap.size hx).1 sm⟩
 have pU:eO gt.toList rq:=(λx hx=>hS.cC x (hS.mem.2 (by simp[hx])))
 have Bo:∀x,x∈gt.toList->x∈(cu.heap.size::L4):=(λx hx=>hS.mem.2 (by simp[hx]))
 refine W ?_
 apply jF dj gt.toList 8 (rA 67 8) (rA 67 8) [[],[],[1],[2],[3],[],[5],[4,6]] [Ie.v _,Ie.v _,Ie.v _,Ie.v _,Ie.v _,Ie.v _,Ie.p (fun(G:List Nat) (v:Value) (ww:World)=>∃bb,v= .slice (some ⟨bb,0,none⟩) 1 1∧dM G ww bb (pI (Tk.mk C.1.aM m1.types 0 [] t.sc xa C.2.1 C.2.2 m1.types.length) u1 u3 u4 u5 u6 u8).toArray 112),Ie.e 0] [7] [fun(G:List Nat) (vs:List Value) (ww:World)=>G=gt.toList∧aj [] rq ww,fun(G:List Nat) (vs:List Value) (ww:World)=>∃g2,dH (gt.toList++(g2.toList++(cu.heap.size::L4))) ww 112 12 (vs.getD 0 undef) g2 (((m1).bF++[(Tk.mk C.1.aM m1.types 0 [] t.sc xa C.2.1 C.2.2 m1.types.length)]).map Tk.enc)∧aj gt.toList rq ww∧(g2=gt∨∃x,g2=some x∧rq.heap.size<=x)] de rfl pU (by exact⟨λG v w G' w' ⟨bb,e,h⟩ k=>⟨bb,e,h.go k⟩,trivial⟩) (by exact⟨λG vs w w' ⟨h1,h2⟩ k=>⟨h1,h2.ext k⟩,λG vs w w' ⟨g2,h1,h2,h3⟩ k=>⟨g2,h1.ext k,h2.ext k,h3⟩,trivial⟩) (⟨rfl,aj.refl _ _⟩)
 refine FA ?_
 refine vf (λx Ko G22 aS Bl W2=>?_) ?_
 refine sL [_] [pI (Tk.mk C.1.aM m1.types 0 [] t.sc xa C.2.1 C.2.2 m1.types.length) u1 u3 u4 u5 u6 u8] zI mr rfl rfl rfl rfl rfl rfl rfl rfl rfl λWi Kp NL Ww=>?_
 exact ff Kp (⟨_,rfl,NL.o W2⟩)
 refine ve 0 (λx Ko G22 aS Bl W2 hJ hlen=>?_) ?_
 have aW:=jg hlen
 subst aW
 intro v6 d6
 obtain⟨bb,e6,fH⟩:=d6
 subst e6
 obtain⟨bO,bP⟩:=hJ
 subst bO
 have sM:=(hS.ta.any bP).sub (L':=gt.toList++(cu.heap.size::L4)) (λx hx=>.inl (by rcases mA.1 hx with h|h;(·exact Bo x h);(·exact h)))
 have Bq:=s0.ext bP
 refine Cu (L:=(cu.heap.size::L4)) (row:=Tk.enc (Tk.mk C.1.aM m1.types 0 [] t.sc xa C.2.1 C.2.2 m1.types.length)) zI mr rfl rfl rfl rfl rfl rfl sM rfl fH.all (λu hu=>List.all_eq_true.1 Bq.one u hu) (Bq.go ((Fr.refl _ _).to (L2:=gt.toList++(cu.heap.size::L4)) (λx hx=>.inl (by rcases mA.1 hx with h|h;(·exact Bo x h);(·exact h))))).BX (by rw[List.length_map];omega) λv9 g9 Wi cZ uo eZ=>?_
 exact fe g9.toList (⟨uo.aF,λx hx=>by rcases eZ with h|h;(·rw[h] at hx;exact .inl hx);(·rw[h] at hx;simp at hx;right;omega)⟩) ((λx hx=>cZ.lt x hx)) (⟨g9,by rw[List.map_append];exact cZ,bP.any.trans uo.aF,eZ.imp id (λh=>⟨_,h,bP.size⟩)⟩)
 exact trivial
 intro x W3 G61 aS akN aqA hJ hlen
 have aQ:=jh hlen
 obtain⟨q0,aW⟩:=aQ
 subst aW
 intro v6 d6
 have bg:=bg.go akN
 change OW _ _ _ _ _ (bo (bj _ x _) (zZ 67 [_,_,_,_,_,_,_,_])) _
 obtain⟨g2,cZ,ej,iO⟩:=hJ
 have aQ:=hS.FX cZ ej iO
 obtain⟨L3,fB,jq⟩:=aQ
 have aQ:=cZ.len
 obtain⟨a3,c3,e3⟩:=aQ
 have e4:q0=_:=e3
 subst e4
 have bg:aJ _ b [vb,vt,.int .i64 ((m1).count:Int),.bool (m1).wide,vc,vy].toArray 110:=xp.aF ej (λhx=>(mf b hx).2.1 rfl)
 refine W ?_
 refine gd (o:=1) Ir rfl rfl rfl bg rfl λsi po bg df=>?_
 have fB:=fB.aF po sm
 have av:dG t8 (cu.heap.size::w2.heap.size::E) L3 si b true {m1 with bF:=(m1).bF++[(Tk.mk C.1.aM m1.types 0 [] t.sc xa C.2.1 C.2.2 m1.types.length)]}:=⟨_,_,_,_,_,_,_,_,bg,fB⟩
 have hR:=(hR.add jq ej (λx hx vR=>(mf x hx).1 (by simp[vR]))).aD po (fB.mem.2 (.inr (.inl rfl))) (λvR=>mV (by simp[vR]))
 have vT:=av.drop
 obtain⟨L5,eL5,av⟩:=vT
 have hR:=hR.sub (L2:=L5) (λz hz=>by rw[eL5];simp[hz])
 have cM:=WY.go hR.fr
 have Ds:=yV.go hR.fr
 have jk:=hR.gX akE E5
 have jV:=hR.tk du ru
 refine WI ?_
 refine zi (i:=3) cz aL rfl rfl ((show 3<4 from om))<|zL eU aL rfl ((dO.go Ds).cells) rfl<|cJ (vs:=[str y.au.aw,.slice pR y.au.ak.length pS]) aL rfl rfl rfl jk rfl λDt s5 jk df=>?_
 have av:=av.aF s5 sm
 have hOz:=(hOc.trans (hR.ft bt).sub).trans (qI.of s5 (λz hz sf=>by simp at hz;have:=lq z (h.sub sf);omega))
 have W4:=av.sub E5
 have jV:gI L5 Dt 112 bt {t with on:=C.2.1,aV:=C.2.2}:=jV.go (Fr.of s5 (by simpa using W4)) s5 (by simp;intro e9;have:=lq bt (h.sub dX);omega)
 have Ds:=Ds.aD s5 (by simpa using W4)
 have vT:=av.drop
 obtain⟨L6,O6,av⟩:=vT
 have Bw:Fr L5 Dt L6 Dt:=(Fr.refl L5 Dt).to (λz hz=>.inl (by rw[O6];simp[hz]))
 have Ds:=Ds.go Bw
 refine W ?_
 exact⟨[_],fZ eU aL rfl jk rfl,L6,dY.go Ds,av,jV.go Bw (aj.refl [] _) sm,Ds,hOz⟩
theorem W5 (h:e.ok):cw e.au=e.head:=by
 cases e with
 |«at» s=>unfold cw;rw[iP (.inl (show s≠[] from pD h))];rfl
 |un hd a=>rfl
 |bi hd a b=>rfl
 |ite a b c=>rfl
 |lt x a b=>rfl
 |fn f x A B b=>rfl
theorem akQ (h:e.ok) (he:e.head=j4):∃f x,e= .bi j4 f x:=by
 cases e with
 |bi hd a b=>have he:hd=j4:=he;subst he;exact⟨a,b,rfl⟩
 |un hd a=>have he:hd=j4:=he;rw[he] at h;exact absurd h.1 de
 |«at» s=>cases he
 |ite a b c=>cases he
 |lt x a b=>cases he
 |fn f x A B b=>cases he
theorem akR {e:Ex} (h:e.head≠fV):bD e=⟨[],e,e⟩:=by
 cases e with
 |lt x a b=>exact absurd rfl h
 |_=>rfl
theorem akS {v1 v3 v4 v5 v6 v8:Value} {T:TypeId} (h:aJ w b (pI t v1 v3 v4 v5 v6 v8).toArray T):fS w b 7 [str t.expr.au.aw,v8]:=λj v hj=>by
 match j,hj with
 |0,hj=>simp at hj;subst hj;exact h.at rfl
 |1,hj=>simp at hj;subst hj;exact h.at rfl
theorem akT {on:Nat} {aV:ai} {x:Ex} {T:Ty} (g:vw m s on aV e T) (hg:(bD e).s= .bi j4 f x):
  j6 ⟨m,s,on,aV⟩ e= .inl (xV (eF (bT (bT m s f.aw).1 s x.aw).1 s on aV (bD e).name T (bD e).rest).1 (bT m s f.aw).2 (bT (bT m s f.aw).1 s x.aw).2 (eF (bT (bT m s f.aw).1 s x.aw).1 s on aV (bD e).name T (bD e).rest).2.1):=by
 have hY:=g.nu
 unfold j6
 simp only[hg,if_true,Ju]
 rw[<-hg,hY]
theorem akU {on:Nat} {aV:ai} {c x y:Ex} {T:Ty} (g:vw m s on aV e T) (hg:(bD e).s= .ite c x y):
  j6 ⟨m,s,on,aV⟩ e= .inr (⟨GL (eF (bT m s c.aw).1 s on aV (bD e).name T (bD e).rest).1 s (eF (bT m s c.aw).1 s on aV (bD e).name T (bD e).rest).2.1 (eF (bT m s c.aw).1 s on aV (bD e).name T (bD e).rest).2.2 (bT m s c.aw).2 x,s,
    (eF (bT m s c.aw).1 s on aV (bD e).name T (bD e).rest).2.1,(eF (bT m s c.aw).1 s on aV (bD e).name T (bD e).rest).2.2⟩,y):=by
 have hY:=g.nu
 unfold j6
 simp only[hg,Ju]
 rw[<-hg,hY];rfl
theorem W6 {on:Nat} {aV:ai} {T:Ty} (g:vw m s on aV e T) (h1:(bD e).s.head≠j4) (h2:(bD e).s.head≠gj):
  j6 ⟨m,s,on,aV⟩ e=(if(bD e).name=[] then .inl (xW (mw m s T (bD e).s).1 on (mw m s T (bD e).s).2) else .inr (⟨(mw m s T (bD e).s).1,s++[((bD e).name,(mw m s T (bD e).s).2,T)],on,aV⟩,(bD e).rest)):=by
 have hY:=g.nu
 rw[<-hY]
 cases hg:(bD e).s with
 |«at» a=>unfold j6;simp only[hg]
 |un a b=>unfold j6;simp only[hg]
 |lt a b c=>unfold j6;simp only[hg]
 |fn a b c d f=>unfold j6;simp only[hg]
 |bi hd f x=>rw[hg] at h1;unfold j6;simp only[hg,iN (show¬hd=j4 from h1)]
 |ite a b c=>rw[hg] at h2;exact absurd rfl h2
theorem W7 {a:At} (h:j6 a e= .inl m):l6 e.n a e=m:=by
 have:=e.pos
 obtain⟨k,hk⟩:∃k,e.n=k+1:=⟨e.n-1,om⟩
 rw[hk];unfold l6;rw[h]
theorem W8 {a:At} {e2:Ex} {m2:Mk} {s2:cD} {yp:Nat} {Eo:ai} (h:j6 a e= .inr (⟨m2,s2,yp,Eo⟩,e2)) (hi:nI m2 s2 yp Eo e2) (hn:e2.n+1<=e.n):l6 e.n a e=l6 e2.n ⟨m2,s2,yp,Eo⟩ e2:=by
 have hp:=e.pos
 obtain⟨k,hk⟩:∃k,e.n=k+1:=⟨e.n-1,om⟩
 rw[hk]
 show(match j6 a e with| .inl m=>m| .inr p=>l6 k p.1 p.2)=_
 rw[h]
 exact agb k hi (show e2.n<=k by omega)
theorem W9 {on:Nat} {aV:ai} {T:Ty} (h:nI m s on aV e) (g:vw m s on aV e T) (hn:(bD e).name≠[]):O0 s (bD e).name (bD e).rest:=by
 obtain⟨eK,GK,⟨U,hU⟩,rP⟩:=g.rest hn
 have hb:=h.bud
 have sO:∀y,Fv y (bD e).rest->y∉[(bD e).name]->(look (ew s) y).isSome=true:=λy hy eV=>by
  have:=pG hU hy
  rw[oL,iN (λe9=>eV (by rw[e9];simp))] at this;exact this
 have hf:=Nb (s:=s) (bd:=[(bD e).name]) om sO
 exact⟨GK,om,λx hx=>by
  rcases(B3 x _ [(bD e).name] []).1 hx with h9|h9
  ·simp at h9
  ·exact sO x h9.1 h9.2,om⟩
theorem akV {s:ai} (h:AT s):s.length<=272:=by
 obtain⟨T,hT,rfl⟩:=h
 exact tX hT
theorem Xa (t:Tk) (m:Mk) (hI:nI m t.sc t.on t.aV t.expr) (hn:t.expr.n<=120) (hc:m.code.length<=1100) (fF:m.bF.length<80000) 
  (E L:List Nat) (b bt:Nat) (w:World) (h:dG t8 E L w b true m) (hT:gI L w 112 bt t) (dX:bt∈E):
  bz Tryz.prog 76 [.pointer (some ⟨b,0,none⟩),.pointer (some ⟨bt,0,none⟩)] w λr w'=>∃L',dG t8 E L' w' b true (l6 t.expr.n ⟨m,t.sc,t.on,t.aV⟩ t.expr)∧(∃t',gI L' w' 112 bt t'∧t'.aM=t.aM∧t'.regs=t.regs)∧Fr L w L' w':=by
 have lq:=h.db
 have Ho:=hT
 obtain⟨u1,u3,u4,u5,u6,u8,cX,gM⟩:=hT
 obtain⟨a8,c8,e8,_⟩:=rC gM.ak
 rw[ia] at e8
 subst e8
 have akW:bt<w.heap.size:=lq bt (h.sub dX)
 have akX:=kV gM.ak
 refine bS [] 89 Tryz.func76 rfl aa4 rfl rfl ?_
 refine WL ?_
 refine zL eU aL rfl ((akS cX)) rfl<|dx aL rfl rfl rfl λw1 aI aG gQ=>?_
 have fT:=aI
 refine cJ aL rfl rfl rfl aG rfl λw2 az aG df=>?_
 have fT:=fT.since az (λx hx=>.inr (by simp at hx;omega))
 have av:=h.sY fT sm (lR _) aG.lt
 have p4:=(dS.refl E L w).more fT sm (lR _) (λz hz=>lq z (h.sub hz))
 have cI:=p4.tk Ho dX
 have vI:=akX.go p4.fr
 have ru:bt∈w.heap.size::E:=mK _ dX
 have KD:w.heap.size∈w.heap.size::E:=List.mem_cons_self ..
 have Xb:w.heap.size≠bt:=om
 refine W ?_
 refine eA (λe':Ex=>[(0,.pointer (some ⟨b,0,none⟩)),(1,.pointer (some ⟨bt,0,none⟩)),(4,.pointer (some ⟨w.heap.size,0,none⟩))]) (λe' ww=>∃(aa:At) (n9:Nat) (new:List Tk) (L1:List Nat) (ae:Option Addr) (ce:Nat),wX m aa.m aa.s aa.on aa.aV t.expr.n n9 e' new∧l6 t.expr.n ⟨m,t.sc,t.on,t.aV⟩ t.expr=l6 e'.n aa e'∧dG t8 (w.heap.size::E) L1 ww b true aa.m∧gI L1 ww 112 bt {t with sc:=aa.s,on:=aa.on,aV:=aa.aV}∧Fr L w L1 ww∧aJ ww w.heap.size [str (e').au.aw,.slice ae (e').au.ak.length ce].toArray 78∧bB L1 ww (.agg #[str (e').au.aw,.slice ae (e').au.ak.length ce]) (e').au) (λe'=>e'.n) t.expr (⟨rfl,rfl,rfl⟩) (⟨⟨m,t.sc,t.on,t.aV⟩,0,[],_,_,_,wX.start hI,rfl,av,cI,p4.fr,aG,vI⟩) λgg w3 e3 hI=>?_
 obtain⟨⟨m1,s1,vz,E8⟩,n9,new,L1,ae,ce,Bx,tC,KE,Xc,O7,Du,Xd⟩:=hI
 dsimp only at Bx tC KE Xc
 have jD:=aj.refl [] w3
 have hA:=Bx.inv
 have akY:=hA.goal
 obtain⟨T,g⟩:=akY
 have aR:=Bx.steps
 have Jr:=Bx.num
 have aqB:=Bx.ext.code
 have akZ:=Bx.ext.bF
 have hle:=g.le
 have aqC:=hA.bud
 have oD:=hA.room
 have zw:=hA.cnt
 have O8:=hA.on
 have Xe:=akV hA.aV
 have hep:=gg.pos
 have mY:=(bD gg).s.pos
 have nv:=UC new
 have aqD:m1.code.length<=6500:=om
 have aqE:m1.bF.length<85000:=(by rw[akZ,lA];omega)
 have uw:=KE.db
 have aqF:=g.small
 refine WL ?_
 refine zL eU aL rfl ((Du.ext jD).all) rfl<|dx aL rfl rfl rfl λw4 aO bL kI=>?_
 have jD:=jD.ext aO
 refine cJ aL rfl rfl rfl bL rfl λw5 aN bL df=>?_
 have jD:=jD.since aN (λx hx=>.inr (by simp at hx;omega))
 refine aZ<|zr<|zL eU aL rfl ((Du.ext jD).all) rfl<|dx aL rfl rfl rfl λw6 bN cM oX=>bI bN jD bL λjD bL=>?_
 have aqG:=bL.lt
 refine cJ aL rfl rfl rfl cM rfl λw7 bW cM df=>?_
 have jD:=jD.since bW (λx hx=>.inr (by simp at hx;omega))
 have bL:=bL.aF bW so
 have av:=KE.ext jD
 have vI:=Xd.ext jD
 have aG:=Du.ext jD
 refine W ?_
 refine aA (I5 gg.au _ L1 w7 vI) ?_
 rintro v8 w8 ⟨Hh,cE⟩
 have A4:=cE.size
 refine la cE jD bL cM vI aG λjD bL cM vI aG=>?_
 have eS:=Hh
 rw[W5 hA.ok] at eS
 subst eS
 refine W ?_
 refine ix (λ_:Unit=>[(0,.pointer (some ⟨b,0,none⟩)),(1,.pointer (some ⟨bt,0,none⟩)),(4,.pointer (some ⟨w.heap.size,0,none⟩)),(5,str (bD gg).name),(6,.pointer (some ⟨w3.heap.size,0,none⟩)),(7,.pointer (some ⟨w5.heap.size,0,none⟩))]) (λ_ ww=>aj [w3.heap.size,w5.heap.size] w8 ww∧∃a6 c6 a7 c7,(aJ ww w3.heap.size [str ((bD gg).s).au.aw,.slice a6 ((bD gg).s).au.ak.length c6].toArray 78∧bB L1 ww (.agg #[str ((bD gg).s).au.aw,.slice a6 ((bD gg).s).au.ak.length c6]) ((bD gg).s).au)∧aJ ww w5.heap.size [str ((bD gg).rest).au.aw,.slice a7 ((bD gg).rest).au.ak.length c7].toArray 78∧bB L1 ww (.agg #[str ((bD gg).rest).au.aw,.slice a7 ((bD gg).rest).au.ak.length c7]) ((bD gg).rest).au) ?_ ?_
 refine zc rfl (λh1=>?_) (λh1=>?_)
 have dU:=JM hA.ok h1
 obtain⟨nx,ea,eb,rfl⟩:=dU
 have JQ:(Ex.lt nx ea eb).au.ak.length=4:=rfl
 have bZ:=cU Xd
 obtain⟨_,_,_,e9,_,aP⟩:=bZ
 cases e9
 have fx:=eW aP (i:=1) om
 obtain⟨b1,eX,gA,gm,e1,bK,_⟩:=fx
 cases e1
 have bK:fy L1 w3 _ _ [str nx,.slice gA 0 gm]:=bK
 have eV:=eW aP (i:=2) om
 obtain⟨b2,lF,iA,iw,e2,bU,dI⟩:=eV
 cases e2
 have bU:fy L1 w3 _ _ [str ea.au.aw,.slice iA ea.au.ak.length iw]:=bU
 have dI:bB L1 w3 (.agg #[str ea.au.aw,.slice iA ea.au.ak.length iw]) ea.au:=dI
 have pg:=eW aP (i:=3) om
 obtain⟨b3,A3,pR,pS,e3,dO,dY⟩:=pg
 cases e3
 have dO:fy L1 w3 _ _ [str eb.au.aw,.slice pR eb.au.ak.length pS]:=dO
 have dY:bB L1 w3 (.agg #[str eb.au.aw,.slice pR eb.au.ak.length pS]) eb.au:=dY
 have kJ:=aj.refl [w3.heap.size,w5.heap.size] w8
 refine WL ?_
 refine zl iC rfl ((Du.ext jD).at rfl)<|zi (i:=1) cz aL rfl rfl ((show 1<4 from om))<|zf kX rfl<|zl gD rfl ((bK.ext jD).cells 0 _ rfl)<|zA<|aZ<|zr<|zf jt rfl<|zl iC rfl ((Du.ext jD).at rfl)<|zi (i:=2) cz aL rfl rfl ((show 2<4 from om))<|zL eU aL rfl ((bU.ext jD).cells) rfl<|cJ (vs:=[str ea.au.aw,.slice iA ea.au.ak.length iw]) aL rfl rfl rfl bL rfl λw9 aB bL df=>?_
 have jD:=jD.since aB (λx hx=>.inr (by simp at hx;omega))
 have cM:=cM.aF aB so
 have kJ:=kJ.trans (aB.mono sm)
 refine WL ?_
 refine zl iC rfl ((Du.ext jD).at rfl)<|zi (i:=3) cz aL rfl rfl ((show 3<4 from om))<|zL eU aL rfl ((dO.ext jD).cells) rfl<|cJ (vs:=[str eb.au.aw,.slice pR eb.au.ak.length pS]) aL rfl rfl rfl cM rfl λcu cB cM df=>?_
 have jD:=jD.since cB (λx hx=>.inr (by simp at hx;omega))
 have bL:=bL.aF cB so
 have kJ:=kJ.trans (cB.mono sm)
 refine W ?_
 exact⟨(),⟨rfl,rfl,rfl,rfl,rfl,rfl⟩,kJ,iA,iw,pR,pS,⟨bL,dI.ext jD⟩,cM,dY.ext jD⟩
 have o5:=akR (e:=gg) h1
 refine WZ ?_
 exact⟨(),⟨rfl,rfl,rfl,by rw[o5];rfl,rfl,rfl⟩,by rw[o5];exact⟨aj.refl _ _,ae,ce,ae,ce,⟨bL,vI⟩,cM,vI⟩⟩
 intro gu w9 e9 hI
 obtain⟨kJ,a6,c6,a7,c7,⟨bL,se⟩,cM,s8⟩:=hI
 have xF:=jD.since kJ (λx hx=>.inr (by simp at hx;rcases hx with rfl|rfl<;>omega))
 have av:=KE.ext xF
 have cI:=Xc.ext xF
 have aG:=Du.ext xF
 have cM:dM L1 w9 w5.heap.size _ _:=⟨cM,λhx=>by have:=uw _ hx;omega⟩
 refine W ?_
 refine aA (I5 (bD gg).s.au _ L1 w9 se) ?_
 rintro v10 cu ⟨ak0,cB⟩
 have CM:=cB.size
 refine Cd cB av cI aG se s8 bL cM xF λav cI aG se s8 bL cM xF=>?_
 have eS:=ak0
 rw[W5 g.ok] at eS
 subst eS
 refine W ?_
 refine zc rfl (λh2=>?_) (λh2=>?_)
 have jm:=akQ g.ok h2
 obtain⟨f,x9,jm⟩:=jm
 have fm:3<=(bD gg).s.n:=(by rw[jm];simp only[Ex.n];have:=f.pos;have:=x9.pos;omega)
 have Ng:(bD gg).s.n=(Ex.bi j4 f x9).n:=congrArg Ex.n jm
 rw[jm] at bL se
 have HS:=g.ok
 have HT:=g.type
 rw[jm] at HS HT
 refine W ?_
 refine aA (ako ({t with sc:=s1,on:=vz,aV:=E8}:Tk) m1 f x9 (bD gg).name (bD gg).rest T HS om HT hA.sc (show s1.length<=9000 from om) O8 Xe (λBa=>W9 hA g Ba) om om om om (w.heap.size::E) L1 b bt _ _ cu av cI ru se s8) ?_
 rintro WR eD ⟨L2,av,⟨t',dI,iy,ck⟩,ka⟩
 have vT:=av.drop
 obtain⟨L3,eL3,av⟩:=vT
 have Bw:Fr L2 eD L3 eD:=(Fr.refl L2 eD).to (λz hz=>.inl (by rw[eL3];simp[hz]))
 rw[<-W7 (akT g jm),<-tC] at av
 refine W ?_
 exact⟨_,rfl,L3,av,⟨t',dI.go Bw (aj.refl [] _) sm,iy,ck⟩,((O7.ext xF).go ka).go Bw⟩
 have ml:(bD gg).s.head≠j4:=h2
 refine W ?_
 refine zc rfl (λh3=>?_) (λh3=>?_)
 have jm:=Vi g.ok h3
 obtain⟨c9,x9,y9,jm⟩:=jm
 have fm:4<=(bD gg).s.n:=(by rw[jm];simp only[Ex.n];have:=c9.pos;have:=x9.pos;have:=y9.pos;omega)
 have Ng:(bD gg).s.n=(Ex.ite c9 x9 y9).n:=congrArg Ex.n jm
 rw[jm] at bL se
 have HS:=g.ok
 have HT:=g.type
 rw[jm] at HS HT
 have ak2:=Uu hA g jm
 obtain⟨nw,nw2,_,fY⟩:=ak2
 have ak4:=fY.num
 refine W ?_
 refine aA (akw ({t with sc:=s1,on:=vz,aV:=E8}:Tk) m1 c9 x9 y9 (bD gg).name (bD gg).rest T HS om HT hA.sc (show s1.length<=9000 from om) O8 Xe (λBa=>W9 hA g Ba) om om om om (w.heap.size::E) L1 b bt _ _ cu av cI ru se s8) ?_
 rintro v51 eD ⟨L2,KF,av,dI,ka,hFt⟩
 have bZ:=cU KF
 obtain⟨ay,ny,cy,O9,Jq,_⟩:=bZ
 subst O9
 subst Jq
 have aG:=hFt.gX aG KD Xb
 have hF:=(O7.ext xF).go ka
 refine cJ (vs:=[str y9.au.aw,.slice ay y9.au.ak.length cy]) aL rfl rfl rfl aG rfl λfA di aG df=>?_
 have Dv:=av.sub KD
 have av:=av.aF di sm
 have dI:=dI.go (Fr.of di (by simpa using Dv)) di so;have hF:=hF.aD di (by simpa using Dv);have KF:=KF.go (Fr.of di (by simpa using Dv))
 refine W ?_
 exact⟨y9,⟨rfl,rfl,rfl⟩,⟨⟨_,_,_,_⟩,_,_,L2,ay,cy,Bx.step fY,tC.trans (W8 (akU g jm) fY.inv om),av,dI,hF,aG,KF⟩,om⟩
 have my:(bD gg).s.head≠gj:=h3
 have hpu:=Nd (m:=m1) hA.sml hA.sc g.ok g.type om om om
 obtain⟨nwp,rL⟩:=hpu
 have Dr:∃z,z=mw m1 s1 T (bD gg).s:=⟨_,rfl⟩
 obtain⟨P,hP⟩:=Dr
 rw[<-hP] at rL
 have aqH:=rL.ext.types
 have aqI:=rL.ext.code
 have hpr:=rL.cY
 refine W ?_
 refine aA (Kj ({t with sc:=s1,on:=vz,aV:=E8}:Tk) (bD gg).s g.ok om hA.sc.types (show s1.length+2*(bD gg).s.n<=100000 from om) _ L1 bt cu av.db cI se) ?_
 rintro v11 eD ⟨ak7,dd⟩
 have AM:=dd.size
 refine Cd dd av cI aG se s8 bL cM xF λav cI aG se s8 bL cM xF=>?_
 have eS:=ak7
 rw[g.type] at eS
 subst eS
 refine W ?_
 refine aA (akl ({t with sc:=s1,on:=vz,aV:=E8}:Tk) m1 (bD gg).s T g.ok g.type hA.sc (show 5*s1.length+2*(bD gg).s.n<=240 from om) O8 om om om om (w.heap.size::E) L1 b bt _ eD av cI ru se) ?_
 rintro N8 fA ⟨E9,L2,av,bC⟩
 rw[<-hP] at E9 av
 subst E9
 have dI:=bC.tk cI ru
 have cM:=cM.go bC.fr;have s8:=s8.go bC.fr
 have aG:=bC.gX aG KD
 have hF:=(O7.ext xF).go bC.fr
 refine W ?_
 refine zc rfl (λh4=>?_) (λh4=>?_)
 have rP:(bD gg).name=[]:=h4
 have Fa:=(W6 g ml my).trans (iP rP)
 rw[<-hP] at Fa
 have Pa:∃z,z=sC P.1 vz:=⟨_,rfl⟩
 obtain⟨me,Dn⟩:=Pa
 have O3:me.types.length=P.1.types.length+3∧me.code.length=P.1.code.length+3:=(by rw[Dn];exact WQ _ _)
 obtain⟨met,mec⟩:=O3
 have Ct:∃z,z=me.types.length:=⟨_,rfl⟩
 obtain⟨r,mZ⟩:=Ct
 have vU:∃z,z=me.code.length:=⟨_,rfl⟩
 obtain⟨c,et⟩:=vU
 have t0:me.types.length=r:=mZ.symm
 have c0:me.code.length=c:=et.symm
 have Ct:∃z,z=P.1.types.length:=⟨_,rfl⟩
 obtain⟨rc,HQ⟩:=Ct
 have I2:xW P.1 vz P.2=((me.cA nq [[48],aT (rc+2)]).cA nq [[49],aT P.2]).cA Ac [aT (rc+1)]:=(by rw[Dn,HQ];rfl)
 rw[I2] at Fa
 have jV:=dI
 obtain⟨v1,v3,v4,v5,v6,v8,aqK,_⟩:=jV
 refine W ?_
 refine aA (V5 P.1 vz om om om (w.heap.size::E) L2 b fA av) ?_
 rintro WR jB ⟨Eu,L0,av,bC⟩
 rw[<-Dn] at av
 rw[<-HQ] at Eu
 subst Eu
 have hR:=bC
 have cR:=av.db
 refine W ?_
 refine kL bh bf rfl rfl rfl rfl λiG dA Xf C3=>bI dA av hR λav hR=>?_
 refine aA (kG nq [[48],aT (rc+2)] (mh de sm (by intro z hz;simp at hz;rcases hz with rfl|rfl;(·decide);(·exact lP om))) me om (w.heap.size::E) L0 b _ iG av (aJ.dK [[48],aT (rc+2)] Xf (λhx=>by have:=cR _ hx;omega))) ?_
 rintro jC p3 ⟨L1,av,bC⟩
 have hR:=hR.go bC
 clear Xf
 have ik:∃x,x=me.cA nq [[48],aT (rc+2)]:=⟨_,rfl⟩
 obtain⟨m1,ll⟩:=ik
 rw[<-ll] at av
 have t1:m1.types.length=r+0:=(by rw[ll,ot];omega)
 have c1:m1.code.length=c+1:=(by rw[ll,ph];omega)
 have cR:=av.db
 refine W ?_
 refine aA (ir (P.2+1) P.2 om om p3) ?_
 rintro _ lk ⟨rfl,mJ⟩
 have Vv:=mJ.size
 refine bI mJ av hR λav hR=>?_
 have cR:=av.db
 refine kL bh bf rfl rfl rfl rfl λC4 yI Xg ak8=>bI yI av hR λav hR=>?_
 refine aA (kG nq [[49],aT P.2] (mh de sm (by intro z hz;simp at hz;rcases hz with rfl|rfl;(·decide);(·exact lP om))) m1 om (w.heap.size::E) L1 b _ C4 av (aJ.dK [[49],aT P.2] Xg (λhx=>by have:=cR _ hx;omega))) ?_
 rintro jC xw ⟨L2,av,bC⟩
 have hR:=hR.go bC
 clear Xg
 have fj:∃x,x=m1.cA nq [[49],aT P.2]:=⟨_,rfl⟩
 obtain⟨m2,ln⟩:=fj
 rw[<-ln] at av
 have t2:m2.types.length=r+0:=(by rw[ln,ot];omega)
 have c2:m2.code.length=c+2:=(by rw[ln,ph];omega)
 have cR:=av.db
 refine W ?_
 refine fc bh bf rfl rfl λDd Bh EG ah5=>bI Bh av hR λav hR=>?_
 refine aA (kG Ac [aT (rc+1)] (mh de sm (by intro z hz;simp at hz;subst hz;exact lP om)) m2 om (w.heap.size::E) L2 b _ Dd av (aJ.dK [aT (rc+1)] EG (λhx=>by have:=cR _ hx;omega))) ?_
 rintro jC vO ⟨L3,av,bC⟩
 have hR:=hR.go bC
 clear EG
 have yO:∃x,x=m2.cA Ac [aT (rc+1)]:=⟨_,rfl⟩
 obtain⟨m3,lp⟩:=yO
 rw[<-lp] at av
 have t3:m3.types.length=r+0:=(by rw[lp,ot];omega)
 have c3:m3.code.length=c+3:=(by rw[lp,ph];omega)
 have cR:=av.db
 have vT:=av.drop
 obtain⟨L7,eL7,av⟩:=vT
 have Og:=hR.tk dI ru
 have Bw:Fr L3 vO L7 vO:=(Fr.refl L3 vO).to (λz hz=>.inl (by rw[eL7];simp[hz]))
 refine W ?_
 subst lp ln ll
 rw[<-W7 Fa,<-tC] at av
 exact⟨_,rfl,L7,av,⟨_,Og.go Bw (aj.refl [] _) sm,rfl,rfl⟩,(hF.go hR.fr).go Bw⟩
 have rP:(bD gg).name≠[]:=h4
 have Fa:=(W6 g ml my).trans (iN rP)
 have D1:=Ut hA g rP
 obtain⟨nw2,fY⟩:=D1
 rw[<-hP] at Fa fY
 have ak4:=fY.num
 have yS:=av.sub ru
 refine W ?_
 refine aA (EW ({t with sc:=s1,on:=vz,aV:=E8}:Tk) (bD gg).name P.2 T (show s1.length<100000 from om) L2 bt fA yS av.db dI) ?_
 rintro v87 jB ⟨dI,oy⟩
 have av:=av.aF oy (by simpa using .inr dX)
 have cM:=cM.aD oy (by simpa using yS);have s8:=s8.go (Fr.of oy (by simpa using yS))
 have aG:=aG.aF oy (by simpa using Xb)
 have hF:=hF.aD oy (by simpa using yS)
 have dI:gI L2 jB 112 bt ({t with sc:=s1++[((bD gg).name,P.2,T)],on:=vz,aV:=E8}:Tk):=dI
 refine W ?_
 refine cJ (vs:=[str (bD gg).rest.au.aw,.slice a7 (bD gg).rest.au.ak.length c7]) aL rfl rfl rfl aG rfl λiG dA aG df=>?_
 have Dv:=av.sub KD
 have av:=av.aF dA sm
 have dI:=dI.go (Fr.of dA (by simpa using Dv)) dA so;have hF:=hF.aD dA (by simpa using Dv);have s8:=s8.go (Fr.of dA (by simpa using Dv))
 refine W ?_
 exact⟨(bD gg).rest,⟨rfl,rfl,rfl⟩,⟨⟨_,_,_,_⟩,_,_,L2,a7,c7,Bx.step fY,tC.trans (W8 Fa fY.inv om),av,dI,hF,aG,s8⟩,om⟩
theorem ala (h:oq t) (hk:k<t.loads) {hd:aq} (hh:∀t',bA (t.regs.getD 0 [105])=some t'->hd=t'):k+1<hd.ak.length∧nth hd.ak (k+1)=nth (mF t) k∧WF (nth (mF t) k)∧(nth (mF t) k).size<=12001:=by
 rcases h.loads with h0|⟨ts,hr,hl,hp⟩
 ·omega
 ·obtain⟨e1,e2⟩:=Ni hr hp
  have e3:=hh _ e2
  have cm:=tH e2
  have fC:=zJ e2
  subst e3
  have hlen:(wq [116] ts).ak.length=ts.length+1:=rfl
  have h1:k+1<(wq [116] ts).ak.length:=by rw[hlen];omega
  have e4:nth (wq [116] ts).ak (k+1)=nth (mF t) k:=by rw[e1];rfl
  have h2:=cm.nth h1
  have h3:=kY h1
  rw[e4] at h2 h3
  have h4:=Lu e2
  exact⟨h1,e4,h2,om⟩
theorem alb {m:Mk} (h:oq t) (hk:k<=t.loads):Cw m (o6 (nJ m t.regs) (mF t) k) t.regs k:=by
 have hr:=h.room
 rcases h.loads with h0|⟨ts,hh,hl,GM⟩
 ·rw[show k=0 by omega];exact Nj h.regs
 ·obtain⟨e1,_⟩:=Ni hh GM
  rw[e1]
  refine Nk h.regs (λx hx=>?_) _ om om
  have h2:=h.regs _ (List.mem_of_mem_head? hh)
  rw[lG] at h2
  have:=Ux (List.mem_map_of_mem (f:=aq.text) hx)
  omega
theorem alc (m:Mk) (aM:ai) (regs:List ai) (a b:ai) {CO:ai} {r:Nat} (hC:CO=dR [99] regs) (hP:P0=dR [116] [CO,b]) (hr:r=m.types.length):
  AX m aM regs a b=(((((m.cY CO).cA sy [aT r,aM]).cY P0).cA lx [aT (r+1),aT r,[48]]).cY a).cA sA [aT (r+2),aT (r+1),a,b]:=by
 subst hP;subst hC;subst hr;rfl
theorem ald (t:Tk) (m:Mk) (Fb:oq t) (o:Bool) 
  (E L:List Nat) (b bt:Nat) (w:World) (h:dG t8 E L w b o m) (hT:gI L w 112 bt t) (dX:bt∈E):
  bz Tryz.prog 79 [.pointer (some ⟨b,0,none⟩),.pointer (some ⟨bt,0,none⟩)] w λr w'=>∃L',dG t8 E L' w' b true (qx m t)∧dS E L w L' w':=by
 have lq:=h.db
 have akW:bt<w.heap.size:=lq bt (h.sub dX)
 have hR:=dS.refl E L w
 have oD:=Fb.room
 have av:=h
 refine bS [] 137 Tryz.func79 rfl aa7 rfl rfl ?_
 refine zr<|zm<|fR bh bf λw1 aI lI Hl=>?_
 have yW:=h.open
 obtain⟨xb,xt,xc,xy,gb,gt,gc,gy,bg,hS⟩:=yW
 have yn:=hS.apart
 obtain⟨yH,mV,vL,mf,vM,uk⟩:=yn
 have bg:aJ w1 b [xb,xt,.int .i64 (m.count:Int),.bool m.wide,xc,xy].toArray 110:=bg.ext aI
 have yX:=hS.IX lI.kM aI.any (λx hx=>.inr (by cases hx;exact lR _))
 obtain⟨L1,hS,bC⟩:=yX
 have hR:=(dS.refl E L w).add bC aI sm
 refine W ?_
 refine gd (o:=4) mu rfl rfl rfl bg rfl λw2 az bg df=>?_
 have hS:=hS.aF az sm
 have Dw:=hS.mem.2 (.inr (.inl rfl))
 have hR:=hR.aD az Dw mV
 have jV:=hR.tk hT dX
 obtain⟨u1,u3,u4,u5,u6,u8,cX,gM⟩:=jV
 have bZ:=dJ gM.regs
 obtain⟨a1,n1,c1,e1,fx⟩:=bZ
 subst e1
 subst fx
 have aqL:∀x,x∈L1->x<w2.heap.size:=hS.cC
 refine aZ<|zr<|zm<|zS w2.heap.size [] bh bf rfl rfl (lR _) sm λw3 aH ak8 ale=>?_
 have rb:=aH
 have cX:=cX.ext aH
 refine W ?_
 refine wT bh bf rfl rfl rfl rfl rfl rfl ale ((bQ.fresh gM.regs (L':=[w2.heap.size]) (λx hx=>.inr (by simp at hx;omega))).ext rb |>.fresh (λx hx=>.inl (by simpa using hx))) (WV _) (by rw[qb];simp;omega) λa4 fP g4 w4 ku aO=>?_
 rw[List.nil_append] at ku
 have Pb:=rb.since aO (λx hx=>.inr (by simp at hx;omega))
 have kP:=ku.uR
 have jH:=ku.low
 have bg:=bg.ext Pb
 have yX:=hS.Mt kP Pb.any (λx hx=>.inr (jH x hx))
 obtain⟨L2,fB,jq⟩:=yX
 have hR:=hR.add jq Pb sm
 refine W ?_
 refine gd (o:=5) mu rfl rfl rfl bg rfl λw5 aN bg df=>?_
 have fB:=fB.aF aN sm
 have alf:=fB.mem.2 (.inr (.inl rfl))
 have hR:=hR.aD aN alf mV
 have av:dG t8 E L2 w5 b true (nJ m t.regs):=⟨_,_,_,_,_,_,_,_,bg,fB⟩
 have Dl:=av.db
 refine aZ<|zr<|aA (AH [105] L2 w5 Dl) ?_
 rintro v6 w6 ⟨Cn,bN⟩
 have od:=bN.size
 refine bI bN av hR λav hR=>?_
 have eS:=Cn
 obtain⟨t0x,tv,Pc,KG,fM⟩:=eS
 subst Pc
 have bZ:=cU KG
 obtain⟨a5,n5,c5,e5,J2,_⟩:=bZ
 subst e5
 subst J2
 have lO:=av
 have um:=hR
 have Dl:=av.db
 refine W ?_
 refine dx aL rfl rfl rfl λw7 bW aG gQ=>?_
 have da:=bW
 refine cJ (vs:=[str t0x.aw,.slice a5 t0x.ak.length c5]) aL rfl rfl rfl aG rfl λw8 cE aG df=>?_
 have da:=da.since cE (λx hx=>.inr (by simp at hx;omega))
 have av:=lO.ext da
 have hR:=um.ext da
 have KG:=KG.ext da
 have jV:=hR.tk hT dX
 obtain⟨u1,u3,u4,u5,u6,u8,cX,gM⟩:=jV
 have bZ:=dJ gM.regs
 obtain⟨a1,n1,c1,e1,fx⟩:=bZ
 subst e1
 subst fx
 have bZ:=dJ gM.self
 obtain⟨a3,n3,c3,e3,pg⟩:=bZ
 subst e3
 subst pg
 have cX:aJ w8 bt [str t.aM,.slice a1 t.regs.length c1,.int .i64 (t.loads:Int),.slice a3 t.self.length c3,u4,u5,u6,str t.expr.au.aw,u8,.int .i64 (t.on:Int),str t.aV,.int .i64 (t.next:Int)].toArray 112:=cX
 refine W ?_
 refine ix (λ_:Unit=>[(0,.pointer (some ⟨b,0,none⟩)),(1,.pointer (some ⟨bt,0,none⟩)),(4,.pointer (some ⟨w6.heap.size,0,none⟩))]) (λ_ ww=>aj [w6.heap.size] w8 ww∧∃(hd:aq) (ah:Option Addr) (ch:Nat),aJ ww w6.heap.size [str hd.aw,.slice ah hd.ak.length ch].toArray 78∧bB L2 ww (.agg #[str hd.aw,.slice ah hd.ak.length ch]) hd∧∀t',bA (t.regs.getD 0 [105])=some t'->hd=t') ?_ ?_
 refine zc rfl (λh1=>?_) (λh1=>?_)
 have mZ:0<t.regs.length:=(by simp at h1;omega)
 have ey:=nN gM.regs mZ
 obtain⟨b9,uy,e9,jr⟩:=ey
 cases e9
 have oC:t.regs.getD 0 [105]=bX t.regs 0:=(by unfold bX;rw[gG,gG,gE mZ];rfl)
 have kJ:=aj.refl [w6.heap.size] w8
 have Fc:=av.db
 refine W ?_
 refine aA (AH (bX t.regs 0) (w6.heap.size::L2) w8 (λx hx=>by rcases mC.1 hx with h9|h9;(·rw[h9];exact aG.lt);(·exact Fc x h9))) ?_
 rintro v9 w9 ⟨eS,aB⟩
 have o7:=aB.size
 refine bI aB aG kJ λaG kJ=>?_
 have eS:=eS
 obtain⟨t1x,tv,yc,Xh,oY⟩:=eS
 subst yc
 have bZ:=cU Xh
 obtain⟨a6,n6,c6,e6,Xi,_⟩:=bZ
 subst e6
 subst Xi
 refine W ?_
 refine cJ (vs:=[str t1x.aw,.slice a6 t1x.ak.length c6]) aL rfl rfl rfl aG rfl λcu cB aG df=>?_
 have kJ:=kJ.trans cB
 have alg:bB L2 cu _ t1x:=(Xh.go (Fr.of cB sm)).fresh (λx hx=>.inl (by simp[hx]))
 refine W ?_
 exact⟨(),⟨rfl,rfl,rfl⟩,kJ,t1x,a6,c6,aG,alg,by rw[oC];exact oY⟩
 have mZ:t.regs=[]:=(by simpa using h1)
 have oC:t.regs.getD 0 [105]=[105]:=(by rw[mZ];rfl)
 refine WZ ?_
 exact⟨(),⟨rfl,rfl,rfl⟩,aj.refl _ _,t0x,a5,c5,aG,KG,by rw[oC];exact fM⟩
 intro gu w9 e9 hI
 obtain⟨kJ,hd,ah,ch,aG,Pd,jd⟩:=hI
 have da:=da.since kJ (λx hx=>.inr (by simp at hx;omega))
 have av:=lO.ext da
 have hR:=um.ext da
 have aG:dM L2 w9 w6.heap.size _ _:=⟨aG,λhx=>by have:=Dl _ hx;omega⟩
 refine W ?_
 refine eA (λk:Nat=>[(0,.pointer (some ⟨b,0,none⟩)),(1,.pointer (some ⟨bt,0,none⟩)),(4,.pointer (some ⟨w6.heap.size,0,none⟩)),(6,.int .i64 (k:Int))]) (λk ww=>∃L3,dG t8 E L3 ww b true (o6 (nJ m t.regs) (mF t) k)∧dS E L w L3 ww∧Fr L2 w9 L3 ww∧k<=t.loads) (λk=>t.loads-k) (0) (⟨rfl,rfl,rfl,rfl⟩) (⟨L2,av,hR,Fr.refl _ _,Nat.zero_le _⟩) λgg cu fo hI=>?_
 obtain⟨L3,av,hR,rv,hk⟩:=hI
 have aG:=aG.go rv;have Pd:=Pd.go rv
 have jV:=hR.tk hT dX
 obtain⟨u1,u3,u4,u5,u6,u8,cX,gM⟩:=jV
 have bZ:=dJ gM.regs
 obtain⟨a1,n1,c1,e1,fx⟩:=bZ
 subst e1
 subst fx
 have bZ:=dJ gM.self
 obtain⟨a3,n3,c3,e3,pg⟩:=bZ
 subst e3
 subst pg
 have cX:aJ cu bt [str t.aM,.slice a1 t.regs.length c1,.int .i64 (t.loads:Int),.slice a3 t.self.length c3,u4,u5,u6,str t.expr.au.aw,u8,.int .i64 (t.on:Int),str t.aV,.int .i64 (t.next:Int)].toArray 112:=cX
 have Xj:=alb (m:=m) Fb hk
 have alh:=Xj.types
 have ali:=Xj.code
 refine W ?_
 refine zc rfl (λh2=>?_) (λh2=>?_)
 have az:gg<t.loads:=(by simp at h2;omega)
 have alj:=ala Fb az jd
 obtain⟨mB,pL,Eg,Xk⟩:=alj
 have bZ:=cU Pd
 obtain⟨_,_,_,e9,_,aP⟩:=bZ
 cases e9
 have fx:=eW aP mB
 obtain⟨b9,uy,pa9,pc9,e9,jr,du⟩:=fx
 cases e9
 rw[pL] at jr du
 have pQ:=LW _ _ (lR _) Eg
 refine W ?_
 refine aA (tW (nth (mF t) gg).size _ (lR _) Eg om om _ _ cu du) ?_
 rintro _ eD ⟨rfl,dd⟩
 have AM:=dd.size
 refine cN dd av hR rv λav hR rv=>?_
 refine aA (r7 (nth (mF t) gg).text (o6 (nJ m t.regs) (mF t) gg) om E L3 b true eD av) ?_
 rintro WN fA ⟨HU,L4,av,bC⟩
 subst HU
 have hR:=hR.go bC;have rv:=rv.go bC.fr
 refine W ?_
 refine aA (ir ((o6 (nJ m t.regs) (mF t) gg).types.length+1) (o6 (nJ m t.regs) (mF t) gg).types.length om om fA) ?_
 rintro _ jB ⟨rfl,gv⟩
 have Hu:=gv.size
 refine cN gv av hR rv λav hR rv=>?_
 have cR:=av.db
 refine zm<|aA (ir (gg+1) gg om om jB) ?_
 rintro _ iG ⟨rfl,dA⟩
 have aln:=dA.size
 refine cN dA av hR rv λav hR rv=>?_
 have cR:=av.db
 refine pO bh bf rfl rfl rfl rfl rfl λp3 jJ alo JL=>cN jJ av hR rv λav hR rv=>?_
 refine aA (kG sB [aT (o6 (nJ m t.regs) (mF t) gg).types.length,[48],aT gg] (mh de sm (by intro z hz;simp at hz;rcases hz with rfl|rfl|rfl;(·exact lP om);(·decide);(·exact lP om))) ((o6 (nJ m t.regs) (mF t) gg).cY (nth (mF t) gg).text) (show(o6 (nJ m t.regs) (mF t) gg).code.length<100000 from om) E L4 b _ p3 av (aJ.dK [aT (o6 (nJ m t.regs) (mF t) gg).types.length,[48],aT gg] alo (λhx=>by have:=cR _ hx;omega))) ?_
 rintro v68 lk ⟨L5,av,bC⟩
 have hR:=hR.go bC;have rv:=rv.go bC.fr
 refine W ?_
 exact⟨gg+1,⟨rfl,rfl,rfl,rfl⟩,⟨L5,av,hR,rv,om⟩,om⟩
 have AR:gg=t.loads:=om
 subst AR
 have Pa:∃z,z=o6 (nJ m t.regs) (mF t) t.loads:=⟨_,rfl⟩
 obtain⟨m0,tt⟩:=Pa
 rw[<-tt] at av alh ali
 refine W ?_
 refine zc rfl (λh3=>?_) (λh3=>?_)
 have iy:t.self.length=2:=om
 have Dx:=Fb.self
 have Dx:∃a b,t.self=[a,b]∧a.length<=272∧b.length<=11200∧t.regs.length=3∧∀r,r∈t.regs->r.length<=11200:=(by rcases Dx with h9|h9;(·rw[h9] at iy;cases iy);(·exact h9))
 obtain⟨sa,sb,Pe,aqN,aqO,h3,ob⟩:=Dx
 have vU:∃z,z=dR [99] t.regs:=⟨_,rfl⟩
 obtain⟨CO,yY⟩:=vU
 have vU:∃z,z=dR [116] [CO,sb]:=⟨_,rfl⟩
 obtain⟨P0,sd⟩:=vU
 have aqP:CO.length<=33610:=(by rw[yY];exact Uw h3 ob)
 have aqQ:P0.length<=45000:=(by rw[sd,lG,AU];simp only[lC,List.length_nil];omega)
 have vU:∃z,z=m0.types.length:=⟨_,rfl⟩
 obtain⟨r,HA⟩:=vU
 have vU:∃z,z=m0.code.length:=⟨_,rfl⟩
 obtain⟨c,Ox⟩:=vU
 have t0:m0.types.length=r:=HA.symm
 have c0:m0.code.length=c:=Ox.symm
 have Co:qx m t=(((((m0.cY CO).cA sy [aT r,t.aM]).cY P0).cA lx [aT (r+1),aT r,[48]]).cY sa).cA sA [aT (r+2),aT (r+1),sa,sb]:=(by unfold qx Jt;rw[<-tt,Pe];exact alc m0 t.aM t.regs sa sb yY sd HA)
 have GG:=Fb.aM
 have wU:t.self.length=2:=iy
 have nQ:bX t.self 0=sa:=(by rw[Pe];rfl)
 have cV:bX t.self 1=sb:=(by rw[Pe];rfl)
 refine W ?_
 refine aA ((show bz Tryz.prog 55 [str [99],.slice a1 t.regs.length c1] _ (λr w'=>r=str CO∧aj [] _ w') from by rw[yY];exact yg [99] t.regs (by rw[<-yY];omega) _ _ _ gM.regs)) ?_
 rintro _ eD ⟨rfl,dd⟩
 have AM:=dd.size
 refine cN dd av hR cX λav hR cX=>?_
 refine W ?_
 refine aA (r7 CO m0 om E L3 b true eD av) ?_
 rintro v10 fA ⟨fo,L1,av,bC⟩
 rw[t0] at fo
 subst fo
 have hR:=hR.go bC
 have ik:∃x,x=m0.cY CO:=⟨_,rfl⟩
 obtain⟨m1,ll⟩:=ik
 rw[<-ll] at av
 have t1:m1.types.length=r+1:=(by rw[ll,ym];omega)
 have c1:m1.code.length=c+0:=(by rw[ll,C6];omega)
 have cR:=av.db
 have jV:=hR.tk hT dX
 obtain⟨u1,u3,u4,u5,u6,u8,cX,gM⟩:=jV
 have bZ:=dJ gM.self
 obtain⟨a3,n3,c3,e3,pg⟩:=bZ
 subst e3
 subst pg
 have cX:aJ fA bt [str t.aM,u1,.int .i64 (t.loads:Int),.slice a3 t.self.length c3,u4,u5,u6,str t.expr.au.aw,u8,.int .i64 (t.on:Int),str t.aV,.int .i64 (t.next:Int)].toArray 112:=cX
 have ey:=nN gM.self (i:=0) om
 obtain⟨b9,uy,e9,jr⟩:=ey
 cases e9
 have ey:=nN gM.self (i:=1) om
 obtain⟨Pf,Pg,fo,xG⟩:=ey
 cases fo
 rw[nQ] at jr
 rw[cV] at xG
 refine W ?_
 apply uZ dj 8 (rA 83 8) (rA 83 8) [[],[],[1],[],[3],[4],[5],[2,6]] [It.v _,It.v _,It.v _,It.v _,It.v _,It.v _,It.v _,It.p (fun(v:Value) (ww:World)=>bc L1 ww v [aT r,t.aM])] de (by exact⟨λv w w' h k=>h.ext k,trivial⟩)
 intro wd aC
 refine VA ?_
 refine vk aC (λx jB gv=>?_) ?_
 refine aA (ir (r+1) r om om jB) ?_
 rintro _ iG ⟨rfl,dA⟩
 have aln:=dA.size
 exact pk dA
 refine VA ?_
 refine vk aC (λx jB gv=>?_) ?_
 have alp:=gv.size
 refine kL bh bf rfl rfl rfl rfl λiG dA alq C3=>?_
 exact pf dA ((aJ.dK [aT r,t.aM] alq (λhx=>by have:=cR _ hx;omega)))
 exact trivial
 intro x AN pM
 intro v7 d7
 refine cN pM av hR cX λav hR cX=>?_
 change OW _ _ _ _ _ (bo (bj _ x _) (zZ 83 [_,_,_,_,_,_,_,_])) _
 refine aA (kG sy [aT r,t.aM] (mh de sm (by intro z hz;simp at hz;rcases hz with rfl|rfl;(·exact lP om);(·omega))) m1 om E L1 b _ AN av d7) ?_
 rintro jC r6 ⟨L2,av,bC⟩
 have hR:=hR.go bC
 have fj:∃x,x=m1.cA sy [aT r,t.aM]:=⟨_,rfl⟩
 obtain⟨m2,ln⟩:=fj
 rw[<-ln] at av
 have t2:m2.types.length=r+1:=(by rw[ln,ot];omega)
 have c2:m2.code.length=c+1:=(by rw[ln,ph];omega)
 have cR:=av.db
 have jV:=hR.tk hT dX
 obtain⟨u1,u3,u4,u5,u6,u8,cX,gM⟩:=jV
 have bZ:=dJ gM.self
 obtain⟨a3,n3,c3,e3,pg⟩:=bZ
 subst e3
 subst pg
 have cX:aJ r6 bt [str t.aM,u1,.int .i64 (t.loads:Int),.slice a3 t.self.length c3,u4,u5,u6,str t.expr.au.aw,u8,.int .i64 (t.on:Int),str t.aV,.int .i64 (t.next:Int)].toArray 112:=cX
 have ey:=nN gM.self (i:=0) om
 obtain⟨b9,uy,e9,jr⟩:=ey
 cases e9
 have ey:=nN gM.self (i:=1) om
 obtain⟨Pf,Pg,fo,xG⟩:=ey
 cases fo
 rw[nQ] at jr
 rw[cV] at xG
 refine aZ<|zr<|zm<|zm<|zm<|Fo rfl rfl rfl<|zf Iq rfl<|zl tG rfl (cX.at rfl)<|zi (i:=1) bh bf rfl rfl om<|zl gD rfl (xG.cells 0 _ rfl)<|kL bh bf rfl rfl rfl rfl ?_
 intro xB Dh Da akJ
 refine bI Dh av hR λav hR=>?_
 refine aA ((show bz Tryz.prog 55 [str [116],_] xB (λr w'=>r=str P0∧aj [] xB w') from by rw[sd];exact yg [116] [CO,sb] (by rw[<-sd];omega) _ L2 xB (aJ.dK [CO,sb] Da (λhx=>by have:=cR _ hx;omega)))) ?_
 rintro _ Kx ⟨rfl,Bp⟩
 have aqR:=Bp.size
 refine cN Bp av hR Da λav hR Da=>?_
 clear Da
 refine aA (r7 P0 m2 om E L2 b true Kx av) ?_
 rintro v10 Bu ⟨fo,L3,av,bC⟩
 rw[t2] at fo
 subst fo
 have hR:=hR.go bC
 have yO:∃x,x=m2.cY P0:=⟨_,rfl⟩
 obtain⟨m3,lp⟩:=yO
 rw[<-lp] at av
 have t3:m3.types.length=r+2:=(by rw[lp,ym];omega)
 have c3:m3.code.length=c+1:=(by rw[lp,C6];omega)
 have cR:=av.db
 refine W ?_
 refine aA (ir ((r+1)+1) (r+1) om om Bu) ?_
 rintro _ OY ⟨rfl,Bv⟩
 have WE:=Bv.size
 refine bI Bv av hR λav hR=>?_
 have cR:=av.db
 refine zm<|aA (ir (r+1) r om om OY) ?_
 rintro _ w58 ⟨rfl,Fe⟩
 have aqT:=Fe.size
 refine bI Fe av hR λav hR=>?_
 have cR:=av.db
 refine pO bh bf rfl rfl rfl rfl rfl λw59 HV Xl aqU=>bI HV av hR λav hR=>?_
 refine aA (kG lx [aT (r+1),aT r,[48]] (mh de sm (by intro z hz;simp at hz;rcases hz with rfl|rfl|rfl;(·exact lP om);(·exact lP om);(·decide))) m3 om E L3 b _ w59 av (aJ.dK [aT (r+1),aT r,[48]] Xl (λhx=>by have:=cR _ hx;omega))) ?_
 rintro jC Xm ⟨L4,av,bC⟩
 have hR:=hR.go bC
 clear Xl
 have Db:∃x,x=m3.cA lx [aT (r+1),aT r,[48]]:=⟨_,rfl⟩
 obtain⟨m4,ox⟩:=Db
 rw[<-ox] at av
 have t4:m4.types.length=r+2:=(by rw[ox,ot];omega)
 have c4:m4.code.length=c+2:=(by rw[ox,ph];omega)
 have cR:=av.db
 have jV:=hR.tk hT dX
 obtain⟨u1,u3,u4,u5,u6,u8,cX,gM⟩:=jV
 have bZ:=dJ gM.self
 obtain⟨a3,n3,c3,e3,pg⟩:=bZ
 subst e3
 subst pg
 have cX:aJ Xm bt [str t.aM,u1,.int .i64 (t.loads:Int),.slice a3 t.self.length c3,u4,u5,u6,str t.expr.au.aw,u8,.int .i64 (t.on:Int),str t.aV,.int .i64 (t.next:Int)].toArray 112:=cX
 have ey:=nN gM.self (i:=0) om
 obtain⟨b9,uy,e9,jr⟩:=ey
 cases e9
 have ey:=nN gM.self (i:=1) om
 obtain⟨Pf,Pg,fo,xG⟩:=ey
 cases fo
 rw[nQ] at jr
 rw[cV] at xG
 refine aZ<|zr<|zm<|zm<|Fo rfl rfl rfl<|zf Iq rfl<|zl tG rfl (cX.at rfl)<|zi (i:=0) bh bf rfl rfl om<|zl gD rfl (jr.cells 0 _ rfl)<|aA (r7 sa m4 om E L4 b true Xm av) ?_
 rintro v10 W3 ⟨fo,L5,av,bC⟩
 rw[t4] at fo
 subst fo
 have hR:=hR.go bC
 have OH:∃x,x=m4.cY sa:=⟨_,rfl⟩
 obtain⟨m5,yP⟩:=OH
 rw[<-yP] at av
 have t5:m5.types.length=r+3:=(by rw[yP,ym];omega)
 have c5:m5.code.length=c+2:=(by rw[yP,C6];omega)
 have cR:=av.db
 have jV:=hR.tk hT dX
 obtain⟨u1,u3,u4,u5,u6,u8,cX,gM⟩:=jV
 have bZ:=dJ gM.self
 obtain⟨a3,n3,c3,e3,pg⟩:=bZ
 subst e3
 subst pg
 have cX:aJ W3 bt [str t.aM,u1,.int .i64 (t.loads:Int),.slice a3 t.self.length c3,u4,u5,u6,str t.expr.au.aw,u8,.int .i64 (t.on:Int),str t.aV,.int .i64 (t.next:Int)].toArray 112:=cX
 have ey:=nN gM.self (i:=0) om
 obtain⟨b9,uy,e9,jr⟩:=ey
 cases e9
 have ey:=nN gM.self (i:=1) om
 obtain⟨Pf,Pg,fo,xG⟩:=ey
 cases fo
 rw[nQ] at jr
 rw[cV] at xG
 refine W ?_
 apply uZ dj 18 (rA 118 18) (rA 118 18) [[],[],[1],[],[3],[],[5],[6],[7],[8],[9],[],[11],[12],[13],[14],[15],[2,4,10,16]] [It.v _,It.v _,It.v _,It.v _,It.v _,It.v _,It.v _,It.v _,It.v _,It.v _,It.v _,It.v _,It.v _,It.v _,It.v _,It.v _,It.v _,It.p (fun(v:Value) (ww:World)=>bc L5 ww v [aT (r+2),aT (r+1),sa,sb])] de (by exact⟨λv w w' h k=>h.ext k,trivial⟩)
 intro wd aC
 refine VA ?_
 refine vk aC (λx si po=>?_) ?_
 refine aA (ir (r+2+1) (r+2) om om si) ?_
 rintro _ Dt ⟨rfl,s5⟩
 have als:=s5.size
 exact pk s5
 refine VA ?_
 refine vk aC (λx si po=>?_) ?_
 refine aA (ir (r+1+1) (r+1) om om si) ?_
 rintro _ Dt ⟨rfl,s5⟩
 have als:=s5.size
 exact pk s5
 refine vc (λ_ _ _=>WZ pv) ?_
 refine vk aC (λx si po=>?_) ?_
 refine WZ ?_
 exact pv
 refine vc (λ_ _ _=>WZ pv) ?_
 refine vk aC (λx si po=>?_) ?_
 have cX:=cX.ext po
 refine WZ ?_
 exact pv
 refine vk aC (λx si po=>?_) ?_
 refine zi (i:=0) bh bf rfl rfl om ?_
 exact pv
 refine vk aC (λx si po=>?_) ?_
 have jr:=jr.ext po
 refine WZ ?_
 exact pv
 refine vc (λ_ _ _=>WZ pv) ?_
 refine vk aC (λx si po=>?_) ?_
 refine WZ ?_
 exact pv
 refine vc (λ_ _ _=>WZ pv) ?_
 refine vk aC (λx si po=>?_) ?_
 have cX:=cX.ext po
 refine WZ ?_
 exact pv
 refine vk aC (λx si po=>?_) ?_
 refine zi (i:=1) bh bf rfl rfl om ?_
 exact pv
 refine vk aC (λx si po=>?_) ?_
 have xG:=xG.ext po
 refine WZ ?_
 exact pv
 refine vk aC (λx si po=>?_) ?_
 have alp:=po.size
 refine yj bh bf rfl rfl rfl rfl rfl rfl ?_
 intro Dt s5 alu aqV
 exact pf s5 ((aJ.dK [aT (r+2),aT (r+1),sa,sb] alu (λhx=>by have:=cR _ hx;omega)))
 exact trivial
 intro x alv alw
 intro jC d17
 refine bI alw av hR λav hR=>?_
 change OW _ _ _ _ _ (bo (bj _ x _) (zZ 118 [_,_,_,_,_,_,_,_,_,_,_,_,_,_,_,_,_,_])) _
 refine aA (kG sA [aT (r+2),aT (r+1),sa,sb] (mh de sm (by intro z hz;simp at hz;rcases hz with rfl|rfl|rfl|rfl;(·exact lP om);(·exact lP om);(·omega);(·omega))) m5 om E L5 b _ alv av d17) ?_
 rintro jC aqW ⟨L6,av,bC⟩
 have hR:=hR.go bC
 have OI:∃x,x=m5.cA sA [aT (r+2),aT (r+1),sa,sb]:=⟨_,rfl⟩
 obtain⟨m6,yQ⟩:=OI
 rw[<-yQ] at av
 have t6:m6.types.length=r+3:=(by rw[yQ,ot];omega)
 have c6:m6.code.length=c+3:=(by rw[yQ,ph];omega)
 have cR:=av.db
 refine W ?_
 subst yQ yP ox lp ln ll
 rw[<-Co] at av
 exact⟨_,rfl,_,av,hR⟩
 have Dx:=Fb.self
 have iy:t.self.length≠2:=(λh9=>h3 (by rw[h9];rfl))
 have Dx:t.self=[]:=(by rcases Dx with h9|⟨a,b,h9,_⟩;(·exact h9);(·rw[h9] at iy;exact absurd rfl iy))
 have Co:qx m t=m0:=(by unfold qx Jt;rw[<-tt,Dx])
 refine WZ ?_
 rw[<-Co] at av
 exact⟨_,rfl,_,av,hR⟩
theorem alx (x0:ByteArray) (x7:ByteArray) (a8:Option Addr) (n8 c8:Nat) (x9:Int) (EY:ByteArray) (w:World):(Instr.build 112 #[(0,.string x0),(7,.agg #[.string x7,.slice a8 n8 c8]),(8,.int .i64 x9),(9,.string EY)]).run Tryz.prog w= .ok (.agg #[.string x0,.slice none 0 0,.int .i64 0,.slice none 0 0,.slice none 0 0,.slice none 0 0,.slice none 0 0,.string x7,.slice a8 n8 c8,.int .i64 x9,.string EY,.int .i64 0]) w:=by kernel_rfl
theorem dS.aly (h:dS (x::E) L w L1 w1):dS E L w L1 w1:=⟨h.fr,let⟨G,k,hG⟩:=h.out;⟨G,k,λz hz sf=>hG z hz (mK _ sf)⟩⟩
def uz:Mk:=⟨[],[],0,false,[],[]⟩
theorem alz (T:Ty) {ON CO:ai} (hO:ON=dz (bu T)) (hC:CO=dR [99] [sT,bu T]) (hP:P0=dR [116] [CO,sT]):
  sP T=(((({uz with types:=[sT,CO,P0,ON]}).cA lx [[48]]).cA sy [[49],Ad]).cA lx [[50],[49],[48]]).cA sA [[51],[50],ON,sT]:=by
 subst hP;subst hC;subst hO;rfl
theorem alA (e:Ex) (T:Ty) (HW:T.n<=16) 
  (E L:List Nat) (b:Nat) (v:Value) (w:World) (h:dG t8 E L w b true uz) (hv:bB L w v e.au):
  bz Tryz.prog 75 [.pointer (some ⟨b,0,none⟩),v,str T.text] w λr w'=>∃v1 v3 v4 v5 v6 v8 L',r= .agg (pI (GN e T) v1 v3 v4 v5 v6 v8).toArray∧nX L' w' (GN e T) v1 v3 v4 v5 v6 v8∧dG t8 E L' w' b true (sP T)∧dS E L w L' w':=by
 obtain⟨ar,nr,cr,rfl,p5,aP⟩:=cU hv
 subst p5
 have lq:=h.db
 obtain⟨ON,KH⟩:∃z,z=dz (bu T):=⟨_,rfl⟩
 obtain⟨CO,yY⟩:∃z,z=dR [99] [sT,bu T]:=⟨_,rfl⟩
 obtain⟨P0,sd⟩:∃z,z=dR [116] [CO,sT]:=⟨_,rfl⟩
 rw[alz T KH yY sd]
 have aI:=pP HW
 have hOl:ON.length<=272:=by rw[KH];exact tX HW
 have hCl:CO.length<=300:=by rw[yY,lG,AU];simp only[lC,List.length_nil];omega
 have Kl:P0.length<=400:=by rw[sd,lG,AU];simp only[lC,List.length_nil];omega
 obtain⟨m0,tt⟩:∃z:Mk,z={uz with types:=[sT,CO,P0,ON]}:=⟨_,rfl⟩
 rw[<-tt]
 obtain⟨r,hr4⟩:∃r,r=4:=⟨_,rfl⟩
 obtain⟨c,et⟩:∃c,c=0:=⟨_,rfl⟩
 have t0:m0.types.length=r:=by rw[tt,hr4];rfl
 have c0:m0.code.length=c:=by rw[tt,et];rfl
 have av:=h
 have hR:=dS.refl E L w
 refine kW [.cell 6 112] 45 Tryz.func75 rfl aa3 rfl rfl rfl ?_
 refine zr<|eH rfl λw1 aI aG dk=>bI aI av hR λav hR=>?_
 refine dx mr rfl rfl rfl λw2 az Xn kI=>?_
 have av:=av.sY az sm (lR _) Xn.lt
 have p4:=hR.more az sm (lR _) (λz hz=>by have:=lq z (h.sub hz);omega)
 have hR:=dS.refl (w1.heap.size::E) (w1.heap.size::L) w2
 have KB:∀z,z∈w1.heap.size::L->z=w1.heap.size∨z<w.heap.size:=(λz hz=>(mC.1 hz).imp id (lq z))
 have aG:dM (w1.heap.size::L) w2 w.heap.size [str e.au.aw,.slice ar e.au.ak.length cr].toArray 78:=⟨aG.ext az,λhx=>by have:=KB _ hx;omega⟩
 have Xo:w1.heap.size∈w1.heap.size::E:=List.mem_cons_self ..
 refine aZ<|zr<|zm<|aA (vK T om w2) ?_
 rintro _ w3 ⟨rfl,aH⟩
 have fm:=aH.size
 refine cN aH av hR aG λav hR aG=>?_
 refine aA ((show bz Tryz.prog 111 [str (bu T)] w3 (λr w'=>r=str ON∧aj [] w3 w') from by rw[KH];exact Hs (bu T) om w3)) ?_
 rintro _ w4 ⟨rfl,aO⟩
 have fE:=aO.size
 refine cN aO av hR aG λav hR aG=>?_
 refine W ?_
 refine fR bh bf λw5 aN lI Hl=>?_
 have yW:=av.open
 obtain⟨xb,xt,xc,xy,gb,gt,gc,gy,bg,hS⟩:=yW
 have yn:=hS.apart
 obtain⟨yH,mV,vL,mf,vM,uk⟩:=yn
 have bg:aJ w5 b [xb,xt,.int .i64 (uz.count:Int),.bool uz.wide,xc,xy].toArray 110:=bg.ext aN
 have yX:=hS.IX lI.kM aN.any (λx hx=>.inr (by cases hx;exact lR _))
 obtain⟨L1,hS,bC⟩:=yX
 have hR:=hR.add bC aN sm
 have aG:=aG.go bC
 refine W ?_
 refine gd (o:=4) mu rfl rfl rfl bg rfl λw6 bN bg df=>?_
 have hS:=hS.aF bN sm
 have Dw:=hS.mem.2 (.inr (.inl rfl))
 have hR:=hR.aD bN Dw mV;have aG:=aG.aD bN (by simpa using Dw)
 have av:dG t8 (w1.heap.size::E) L1 w6 b true uz:=⟨_,_,_,_,_,_,_,_,bg,hS⟩
 refine aZ<|zr<|zm<|aA (vK T om w6) ?_
 rintro _ w7 ⟨rfl,bW⟩
 have lf:=bW.size
 refine cN bW av hR aG λav hR aG=>?_
 refine kL bh bf rfl rfl rfl rfl λw8 cE jW ld=>cN cE av hR aG λav hR aG=>?_
 refine aA ((show bz Tryz.prog 55 [str [99],_] w8 (λr w'=>r=str CO∧aj [] w8 w') from by rw[yY];exact yg [99] [sT,bu T] (by rw[<-yY];omega) _ [] w8 (aJ.dK [sT,bu T] jW sm))) ?_
 rintro _ w9 ⟨rfl,aB⟩
 have o7:=aB.size
 refine ie aB av hR aG jW λav hR aG jW=>?_
 clear jW
 refine W ?_
 refine kL bh bf rfl rfl rfl rfl λcu cB By Cg=>cN cB av hR aG λav hR aG=>?_
 refine aA ((show bz Tryz.prog 55 [str [116],_] cu (λr w'=>r=str P0∧aj [] cu w') from by rw[sd];exact yg [116] [CO,sT] (by rw[<-sd];omega) _ [] cu (aJ.dK [CO,sT] By sm))) ?_
 rintro _ eD ⟨rfl,dd⟩
 have AM:=dd.size
 refine ie dd av hR aG By λav hR aG By=>?_
 clear By
 refine zm<|yj bh bf rfl rfl rfl rfl rfl rfl λfA di C8 ajl=>?_
 have yW:=av.open
 obtain⟨xb,xt,xc,xy,gb,gt,gc,gy,bg,hS⟩:=yW
 have yn:=hS.apart
 obtain⟨yH,mV,vL,mf,vM,uk⟩:=yn
 have bg:aJ fA b [xb,xt,.int .i64 (uz.count:Int),.bool uz.wide,xc,xy].toArray 110:=bg.ext di
 have yX:=hS.Mt (aJ.uR [sT,CO,P0,ON] C8) di.any (λx hx=>.inr (by cases hx;exact lR _))
 obtain⟨L2,hS,bC⟩:=yX
 have hR:=hR.add bC di sm
 have aG:=aG.go bC
 refine W ?_
 refine gd (o:=5) mu rfl rfl rfl bg rfl λjB gv bg df=>?_
 have hS:=hS.aF gv sm
 have Dw:=hS.mem.2 (.inr (.inl rfl))
 have hR:=hR.aD gv Dw mV;have aG:=aG.aD gv (by simpa using Dw)
 have av:dG t8 (w1.heap.size::E) L2 jB b true {uz with types:=[sT,CO,P0,ON]}:=⟨_,_,_,_,_,_,_,_,bg,hS⟩
 rw[<-tt] at av
 have cR:=av.db
 refine aZ<|zr<|zm<|fc bh bf rfl rfl λiG dA Bm C3=>cN dA av hR aG λav hR aG=>?_
 refine aA (kG lx [[48]] (mh de sm (by intro z hz;simp at hz;subst hz;decide)) m0 om (w1.heap.size::E) L2 b _ iG av (aJ.dK [[48]] Bm (λhx=>by have:=cR _ hx;omega))) ?_
 rintro jC p3 ⟨L1,av,bC⟩
 have hR:=hR.go bC
 clear Bm
 have ik:∃x,x=m0.cA lx [[48]]:=⟨_,rfl⟩
 obtain⟨m1,ll⟩:=ik
 rw[<-ll] at av
 have t1:m1.types.length=r+0:=(by rw[ll,ot];omega)
 have c1:m1.code.length=c+1:=(by rw[ll,ph];omega)
 have cR:=av.db
 have aG:=aG.go bC.fr
 refine aZ<|zr<|zm<|kL bh bf rfl rfl rfl rfl λlk mJ JI Ha=>cN mJ av hR aG λav hR aG=>?_
 refine aA (kG sy [[49],Ad] (mh de sm (by intro z hz;simp at hz;rcases hz with rfl|rfl;(·decide);(·decide))) m1 om (w1.heap.size::E) L1 b _ lk av (aJ.dK [[49],Ad] JI (λhx=>by have:=cR _ hx;omega))) ?_
 rintro jC C4 ⟨L2,av,bC⟩
 have hR:=hR.go bC
 clear JI
 have fj:∃x,x=m1.cA sy [[49],Ad]:=⟨_,rfl⟩
 obtain⟨m2,ln⟩:=fj
 rw[<-ln] at av
 have t2:m2.types.length=r+0:=(by rw[ln,ot];omega)
 have c2:m2.code.length=c+2:=(by rw[ln,ph];omega)
 have cR:=av.db
 have aG:=aG.go bC.fr
 refine aZ<|zr<|zm<|pO bh bf rfl rfl rfl rfl rfl λxw Dc vN Ob=>cN Dc av hR aG λav hR aG=>?_
 refine aA (kG lx [[50],[49],[48]] (mh de sm (by intro z hz;simp at hz;rcases hz with rfl|rfl|rfl;(·decide);(·decide);(·decide))) m2 om (w1.heap.size::E) L2 b _ xw av (aJ.dK [[50],[49],[48]] vN (λhx=>by have:=cR _ hx;omega))) ?_
 rintro jC Dd ⟨L3,av,bC⟩
 have hR:=hR.go bC
 clear vN
 have yO:∃x,x=m2.cA lx [[50],[49],[48]]:=⟨_,rfl⟩
 obtain⟨m3,lp⟩:=yO
 rw[<-lp] at av
 have t3:m3.types.length=r+0:=(by rw[lp,ot];omega)
 have c3:m3.code.length=c+3:=(by rw[lp,ph];omega)
 have cR:=av.db
 have aG:=aG.go bC.fr
 refine W ?_
 refine yj bh bf rfl rfl rfl rfl rfl rfl λvO xC Ph VP=>cN xC av hR aG λav hR aG=>?_
 refine aA (kG sA [[51],[50],ON,sT] (mh de sm (by intro z hz;simp at hz;rcases hz with rfl|rfl|rfl|rfl;(·decide);(·decide);(·omega);(·decide))) m3 om (w1.heap.size::E) L3 b _ vO av (aJ.dK [[51],[50],ON,sT] Ph (λhx=>by have:=cR _ hx;omega))) ?_
 rintro jC rq ⟨L4,av,bC⟩
 have hR:=hR.go bC
 clear Ph
 have Db:∃x,x=m3.cA sA [[51],[50],ON,sT]:=⟨_,rfl⟩
 obtain⟨m4,ox⟩:=Db
 rw[<-ox] at av
 have t4:m4.types.length=r+0:=(by rw[ox,ot];omega)
 have c4:m4.code.length=c+4:=(by rw[ox,ph];omega)
 have cR:=av.db
 have aG:=aG.go bC.fr
 have jk:=hR.gX Xn Xo
 refine W ?_
 refine js (alx _ _ _ _ _ _ _ _) rfl rfl<|cJ (vs:=[str B5,.slice none 0 0,.int .i64 0,.slice none 0 0,.slice none 0 0,.slice none 0 0,.slice none 0 0,str e.au.aw,.slice ar e.au.ak.length cr,.int .i64 3,str ON,.int .i64 0]) mr rfl rfl rfl jk rfl λKo HF jk df=>?_
 have hL6:=av.sub Xo
 have av:=av.aF HF sm
 have vT:=av.drop
 obtain⟨L6,O6,av⟩:=vT
 have h6n:w1.heap.size∉E:=(λhx=>by have:=lq _ (h.sub hx);omega)
 have Xp:=((p4.go hR.aly).aD HF hL6 h6n).sub (L2:=L6) (λz hz=>by rw[O6];simp[hz])
 have alE:=eM.go aP Xp.fr
 refine W ?_
 subst ox lp ln ll
 exact⟨[_],fZ QF mr rfl jk rfl,_,_,_,_,_,_,L6,by unfold GN;rw[<-KH];rfl,⟨.nil _ _ _,.nil _ _ _,.nil _ _ _,.nil _ _ _,.nil _ _ _,alE⟩,av,Xp⟩
theorem dH.alF {T:TypeId} {g:Option Nat} {row:List C} (h:dH L w T sz (.slice (some ⟨b,0,none⟩) n c) g rows) (hi:rows[i]?=some row):∃vs,vs.length=sz∧fS w b (0+i*sz) vs∧cS L w vs row:=by
 obtain⟨xs,dv,gB⟩:=h.own
 have ob:row.length=sz:=h.row row (List.mem_of_getElem? hi)
 have mj:i<rows.length:=(List.getElem?_eq_some_iff.1 hi).1
 rcases dv.2 with⟨h0,_⟩|⟨b',cap,cur,e,hv,hb,ml,lU,bZ,ht⟩
 ·cases h0
 ·cases hv
  have hlen:xs.length=rows.length*sz:=dv.1
  have hmul:(i+1)*sz<=rows.length*sz:=Nat.mul_le_mul_right _ om
  have uF:(i+1)*sz=i*sz+sz:=by rw[Nat.add_mul,Nat.one_mul]
  have hl:((xs.drop (i*sz)).take sz).length=sz:=by rw[List.length_take,List.length_drop];omega
  have jc:∀j v,((xs.drop (i*sz)).take sz)[j]?=some v->j<sz∧xs[i*sz+j]?=some v:=λj v hv=>by
   rw[List.getElem?_take] at hv
   split at hv
   ·rename_i hj
    rw[List.getElem?_drop] at hv
    exact⟨hj,hv⟩
   ·cases hv
  refine⟨(xs.drop (i*sz)).take sz,hl,λj v hv=>?_,cS.of (by rw[hl,ob]) λj v c hv hc=>?_⟩
  ·obtain⟨_,hx⟩:=jc j v hv
   rw[Nat.zero_add,hb.cell]
   rw[<-ht,List.getElem?_take] at hx
   split at hx
   ·simpa using hx
   ·cases hx
  ·obtain⟨_,hx⟩:=jc j v hv
   exact gB.get hx (Fl h.row hi hc)
theorem dG.start {gb gt:Nat} (hb:aJ w b [.slice (some ⟨gb,0,none⟩) 0 0,.slice (some ⟨gt,0,none⟩) 0 0,.int .i64 0,.bool false,.slice none 0 0,.slice none 0 0].toArray 110) (h1:aJ w gb #[] 39) (h2:aJ w gt #[] 112) (h3:gb<gt) (h4:gt<b):dG t8 [] [b,gb,gt] w b true uz:=by
 refine⟨_,_,_,_,some gb,some gt,none,none,hb,⟨M3 h1,M3 h2,.inl ⟨rfl,⟨by simp[uz],.inl ⟨rfl,rfl,rfl⟩⟩⟩,⟨by simp[uz],.inl ⟨rfl,rfl,rfl⟩⟩,rfl,?_,λx hx=>?_⟩⟩
 ·simp;omega
 ·have:=hb.lt
  simp at hx;rcases hx with rfl|rfl|rfl<;>omega
theorem alG {ts:List Tk} (hi:i<ts.length):(ts.map Tk.enc)[i]?=some (gK ts i).enc:=by
 rw[List.getElem?_map,gE hi];simp[gK,gE hi]
theorem alH {T:Ty} (ba:e.ok) (ht:bw e []=some T) (hn:e.n<=120):(rQ e T).blocks=[]∧(rQ e T).code.length<10000:=by
 obtain⟨new,h⟩:=UB ba ht hn
 have h4:=h.ext.code
 have h6:(sP T).code.length=4:=rfl
 exact⟨h.ext.blocks,om⟩
theorem alI (h:rR m i) (hi:i<m.bF.length):(l6 (gK m.bF i).expr.n ⟨qx m (gK m.bF i),(gK m.bF i).sc,(gK m.bF i).on,(gK m.bF i).aV⟩ (gK m.bF i).expr).blocks.length<100000∧(qx m (gK m.bF i)).code.length<=1100∧(qx m (gK m.bF i)).bF.length<80000∧(gK m.bF i).expr.n<=120∧i<999∧oq (gK m.bF i)∧nI (qx m (gK m.bF i)) (gK m.bF i).sc (gK m.bF i).on (gK m.bF i).aV (gK m.bF i).expr∧(gK m.bF i).regs.length<10000:=by
 obtain⟨hT,hc,hl⟩:=h.task hi
 have hb:=Nl (m:=m) hT
 have hA:=Uy hT hc
 obtain⟨new,hF⟩:=Jv _ hA (lR _)
 have e4:=hF.ext.blocks
 have h1:=hb.code
 have h2:=hT.room
 have h3:=hT.bud
 have h5:=h.bnum
 have h6:(if(gK m.bF i).self=[] then 0 else 3)<=3:=by split<;>omega
 refine⟨by rw[e4,hb.blocks];omega,om,by rw[hb.bF];omega,om,om,hT,hA,om⟩
theorem alJ (e:Ex) (T:Ty) (ba:e.ok) (ht:bw e []=some T) (hn:e.n<=120) (v:Value) (w:World) (hv:bB [] w v e.au):
  bz Tryz.prog 48 [v,str T.text] w λr w'=>(∃vb g,r= .tuple #[vb,.bool (!(ofM e T).wide)]∧Gr w.heap.size [] w' 39 3 vb g ((ofM e T).blocks.map Bk.enc))∧aj [] w w':=by
 obtain⟨ar,nr,cr,rfl,p5,aP⟩:=cU hv
 subst p5
 have HW:=lv (Γ:=[]) (λs T h=>by simp[look] at h) ht
 have ij:bB [] w _ e.au:=hv
 have hK:=aj.refl [] w
 obtain⟨Xq,aqY⟩:=alH ba ht hn
 refine bS [.tmp 4,.tmp 5] 67 Tryz.func48 rfl aaC rfl rfl ?_
 refine zr<|eH rfl λw1 aI aU dk=>?_
 have hK:=hK.ext aI
 refine W ?_
 refine fR iK fU λw2 az qp dC=>bI az hK aU λhK aU=>?_
 refine fR zI mr λw3 aH iF gJ=>cN aH hK aU qp λhK aU qp=>?_
 refine js (abr _ _ _ _ _ _ _) rfl rfl<|eH rfl λw4 aO lI gQ=>ie aO hK aU qp iF λhK aU qp iF=>?_
 refine W ?_
 refine aA (alA e T HW [] [w3.heap.size,w1.heap.size,w2.heap.size] w3.heap.size _ w4 (dG.start lI qp iF om om) ((ij.fresh (L':=[w3.heap.size,w1.heap.size,w2.heap.size]) (λx hx=>by right;simp at hx;rcases hx with rfl|rfl|rfl<;>omega)).ext hK)) ?_
 rintro jC w5 ⟨v1,v3,v4,v5,v6,v8,L1,rZ,gM,av,bC⟩
 subst rZ
 have hF:=bC.fr
 have xA:=hK
 have uw:=av.db
 clear qp iF lI
 refine dx mr rfl rfl rfl λw6 bN cM oX=>?_
 have da:=bN
 refine cJ mr rfl rfl gM.one cM rfl λw7 bW cM df=>?_
 have da:=da.since bW (λx hx=>.inr (by simp at hx;omega))
 have av:=av.sY da sm (lR _) cM.lt
 have xD:=((dS.refl [] L1 w5).more da sm (lR _) sm).fr
 have fJ:gI (w5.heap.size::L1) w7 112 w5.heap.size (GN e T):=⟨_,_,_,_,_,_,cM,gM.go xD⟩
 have hF:=hF.go xD
 refine aZ<|zr<|zm<|aA (Xa (GN e T) (sP T) (UA ba ht hn) hn (show(sP T).code.length<=1100 from by show 4<=1100;omega) (show(0:Nat)<80000 from om) [w5.heap.size] (w5.heap.size::L1) w3.heap.size w5.heap.size w7 av fJ sm) ?_
 rintro Kh w8 ⟨L2,av,_,ka⟩
 have hF:=hF.go ka
 have av:dG t8 [w5.heap.size] L2 w8 w3.heap.size true (rQ e T):=av
 have Dl:=av.db
 refine aZ<|zr<|zm<|fR bh bf λw9 aB vC df=>bI aB av hF λav hF=>?_
 refine aA (Ou B5 [] sm (rQ e T) (by rw[Xq];simp) [w5.heap.size] L2 w3.heap.size _ w9 av (vC.kM.rep (λx hx mm=>by have:=Dl x mm;simp at hx;omega))) ?_
 rintro Kv cu ⟨L3,av,bC⟩
 have hF:=hF.go bC.fr
 clear vC
 refine aZ<|zr<|zm<|fc bh bf rfl rfl λeD dd yJ ajv=>?_
 have yW:=av.open
 obtain⟨xb,xt,xc,xy,gb,gt,gc,gy,bg,hS⟩:=yW
 have yn:=hS.apart
 obtain⟨yH,mV,vL,mf,vM,uk⟩:=yn
 have bg:=bg.ext dd
 have yX:=hS.IX (aJ.uR [[40,104,97,108,116,32,49,41]] yJ) dd.any (λx hx=>.inr (by cases hx;exact lR _))
 obtain⟨L4,hS,bC⟩:=yX
 have hF:=hF.go bC
 refine W ?_
 refine gd (o:=4) mu rfl rfl rfl bg rfl λfA di bg df=>?_
 have hS:=hS.aF di sm
 have hF:=hF.aD di (by simpa using hS.mem.2 (.inr (.inl rfl)))
 have av:dG t8 [w5.heap.size] L4 fA w3.heap.size true {(Cx (rQ e T) B5 []) with code:=[[40,104,97,108,116,32,49,41]]}:=⟨_,_,_,_,_,_,_,_,bg,hS⟩
 refine W ?_
 refine aA (vK T om fA) ?_
 rintro _ jB ⟨rfl,gv⟩
 have Hu:=gv.size
 refine bI gv av hF λav hF=>?_
 have alK:=av.db
 refine kL bh bf rfl rfl rfl rfl λiG dA Bm C3=>bI dA av hF λav hF=>?_
 refine aA (Ou Ad [sT,bu T] sm {(Cx (rQ e T) B5 []) with code:=[[40,104,97,108,116,32,49,41]]} (show((rQ e T).blocks++[_]).length<100000 from by rw[Xq];simp) [w5.heap.size] L4 w3.heap.size _ iG av (aJ.dK [sT,bu T] Bm (λhx=>by have:=alK _ hx;omega))) ?_
 rintro v31 p3 ⟨L5,av,bC⟩
 have hF:=hF.go bC.fr
 have av:dG t8 [w5.heap.size] L5 p3 w3.heap.size false (Cy e T):=av
 clear Bm
 refine W ?_
 refine eA (λi:Nat=>[(6,.pointer (some ⟨w3.heap.size,0,none⟩)),(8,.int .i64 (i:Int))]) (λi ww=>∃m9 L9,dG t8 [w5.heap.size] L9 ww w3.heap.size false m9∧rR m9 i∧ofM e T=yq (1000-i) m9 i∧Fr [w3.heap.size,w1.heap.size,w2.heap.size] w4 L9 ww∧i<=1000) (λi=>1000-i) (0) (⟨rfl,rfl⟩) (⟨Cy e T,L5,av,No ba ht hn,rfl,hF,om⟩) λgg lk Bn hI=>?_
 obtain⟨m9,L9,av,Xr,HM,hF,hi⟩:=hI
 have yW:=av.open
 obtain⟨xb,xt,xc,xy,gb,gt,gc,gy,bg,hS⟩:=yW
 have fF:=hS.ta.len
 obtain⟨at9,ct9,et9⟩:=fF
 subst et9
 have bg:aJ lk w3.heap.size [xb,.slice at9 (m9.bF.map Tk.enc).length ct9,.int .i64 (m9.count:Int),.bool m9.wide,xc,xy].toArray 110:=bg
 have tE:(m9.bF.map Tk.enc).length=m9.bF.length:=List.length_map ..
 refine W ?_
 refine zc rfl (λh1=>?_) (λh1=>?_)
 have lN:gg<m9.bF.length:=om
 have qt:=alI Xr lN
 obtain⟨cV,dm,fm,fE,l3,Xs,ES,od⟩:=qt
 have EP:=hS.ta.form om
 obtain⟨bq,cq,eq9,eg9⟩:=EP
 cases eq9
 have Eb:=hS.ta.alF (alG lN)
 obtain⟨vs9,alO,alP,alQ⟩:=Eb
 have Pj:=ad5 alQ
 obtain⟨y1,y3,y4,y5,y6,y8,evs,gM⟩:=Pj
 subst evs
 have pQ:∃z,z=gK m9.bF gg:=⟨_,rfl⟩
 obtain⟨tz,Pl⟩:=pQ
 rw[<-Pl] at cV dm fm fE Xs ES od gM alP alO
 have lO:=av
 have HI:=hF
 have N7:=av.db
 have hw9:=aj.refl [] lk
 refine W ?_
 refine dx mr rfl rfl rfl λC4 yI cW aq2=>?_
 have da:=yI
 refine cJ mr rfl rfl gM.one cW rfl λxw Dc cW df=>?_
 have da:=da.since Dc (λx hx=>.inr (by simp at hx;omega))
 have av:=lO.sY da sm (lR _) cW.lt
 have xD:=((dS.refl [] L9 lk).more da sm (lR _) sm).fr
 have fJ:gI (lk.heap.size::L9) xw 112 lk.heap.size tz:=⟨_,_,_,_,_,_,cW,gM.go xD⟩
 have hF:=HI.go xD
 refine aZ<|zr<|zm<|aA (ald tz m9 Xs false [lk.heap.size,w5.heap.size] (lk.heap.size::L9) w3.heap.size lk.heap.size xw av fJ sm) ?_
 rintro v49 Dd ⟨L6,av,bC⟩
 have fJ:=bC.tk fJ sm
 have hF:=hF.go bC.fr
 refine aZ<|zr<|zm<|aA (Xa tz (qx m9 tz) ES fE dm fm [lk.heap.size,w5.heap.size] L6 w3.heap.size lk.heap.size Dd av fJ sm) ?_
 rintro v51 vO ⟨L7,av,⟨t',fJ,eu,hr9⟩,ka⟩
 have hF:=hF.go ka
 have jV:=fJ
 obtain⟨u1,u3,u4,u5,u6,u8,cX,Dm⟩:=jV
 have Dy:=Dm.regs
 have bZ:=dJ Dm.regs
 obtain⟨a1,n1,c1,e1,fx⟩:=bZ
 subst e1
 have Dy:=Dm.regs
 rw[hr9] at Dy
 have cX:aJ vO lk.heap.size [str t'.aM,.slice a1 n1 c1,.int .i64 (t'.loads:Int),u3,u4,u5,u6,str t'.expr.au.aw,u8,.int .i64 (t'.on:Int),str t'.aV,.int .i64 (t'.next:Int)].toArray 112:=cX
 rw[eu] at cX
 refine W ?_
 refine aA (Ou tz.aM tz.regs od (l6 tz.expr.n ⟨qx m9 tz,tz.sc,tz.on,tz.aV⟩ tz.expr) cV [lk.heap.size,w5.heap.size] L7 w3.heap.size _ vO av Dy) ?_
 rintro v57 rq ⟨L8,av,bC⟩
 have hF:=hF.go bC.fr
 have vT:=av.drop
 obtain⟨Lx,eLx,av⟩:=vT
 have hF:=hF.go ((Fr.refl L8 rq).to (L2:=Lx) (λz hz=>.inl (by rw[eLx];simp[hz])))
 have av:dG t8 [w5.heap.size] Lx rq w3.heap.size false (Ep m9 tz):=av
 have aR:=Xr.step lN
 rw[<-Pl] at aR
 have Xt:=UE lN (999-gg)
 rw[<-Pl,show 999-gg+1=1000-gg from by omega,show 999-gg=1000-(gg+1) from by omega] at Xt
 refine W ?_
 exact⟨gg+1,⟨rfl,rfl⟩,⟨Ep m9 tz,Lx,av,aR,HM.trans Xt,hF,om⟩,om⟩
 have lN:¬gg<m9.bF.length:=om
 rw[UD lN] at HM
 have dk:=xA.size
 have dC:=hF.aF.size
 have Pm:Gr w.heap.size [] lk 39 3 xb gb (m9.blocks.map Bk.enc):=hS.bl.gr (λx hx=>hS.mem.2 (by simp at hx;simp[hx])) (λb hb=>by have h9:=hF.mem b (hS.mem.2 (by simp[hb]));rcases h9 with h9|h9;(·simp at h9;rcases h9 with rfl|rfl|rfl<;>omega);(·omega)) om
 refine WZ ?_
 apply dV dj 11 [58,59,60,61,62,63,64,65,66,4,5] [[],[0],[1],[2],[],[4],[5],[6],[7],[3],[8]] (it [_,_,_,_,_,_,_,_,_,_,_]) de rfl
 intro wd aC
 exact VZ
 intro x Bu Dk
 refine bI Dk hF Pm λhF Pm=>?_
 change OW _ _ _ _ [] (bo (bj _ x _) (zZ 58 [_,_,_,_,_,_,_,_,_]++[(4,_),(5,_)])) _
 refine W ?_
 rw[HM]
 exact⟨_,rfl,⟨xb,gb,rfl,Pm⟩,xA.since hF.aF (λx hx=>.inr (by simp at hx;rcases hx with rfl|rfl|rfl<;>omega))⟩
theorem Pn:∀(k:Nat) {m:Mk} {i:Nat},rR m i->∃j,rR (yq k m i) j
 |0,_,i,h=>⟨i,h⟩
 |k+1,m,i,h=>by
  by_cases hi:i<m.bF.length
  ·rw[UE hi];exact Pn k (h.step hi)
  ·rw[UD hi];exact⟨i,h⟩
theorem alS {T:Ty} (ba:e.ok) (ht:bw e []=some T) (hn:e.n<=120):tJ (ofM e T).blocks:=by
 obtain⟨j,hj⟩:=Pn 1000 (No ba ht hn)
 exact hj.small
def Dz (s:ai) (f:Ex) (T:Ty):Prop:=∃e:Ex,bA s=some e.au∧e.ok∧e.n<=120∧nk e=some f∧l7 f.au.text=true∧bw e []=some T
def Ff (s:ai) (ok:Bool) (bs:List Bk):Prop:=(ok=true->∃f T,Dz s f T∧(ofM f T).wide=false∧ju (ofM f T).blocks=true∧bs=(ofM f T).blocks)∧(ok=false->bs=[]∧∀f T,Dz s f T->¬((ofM f T).wide=false∧ju (ofM f T).blocks=true))
theorem Xu (ba:f.ok) (hx:l7 f.au.text=true):bA f.au.text=some f.au∧f.n<=120:=by
 obtain⟨e2,h1,h2,h3⟩:=wY.1 hx
 have h4:=(wo h1).2.2.1
 have h5:=LN (Ex.wf h2) (Ex.wf ba) h4
 have h6:=qA h2 ba h5
 subst h6
 exact⟨h1,h3⟩
theorem alT {s:ai} {T:Ty} (h:Dz s f T):f.ok∧bw f []=some T∧f.n<=120∧bA f.au.text=some f.au:=by
 obtain⟨e,h1,h2,h3,h4,h5,h6⟩:=h
 have h7:=Mq h2 h4
 obtain⟨h8,h9⟩:=Xu h7 h5
 exact⟨h7,Sr h2 h6 h4,h9,h8⟩
theorem KI {s:ai} {f':Ex} {T T':Ty} (h:Dz s f T) (h':Dz s f' T'):f=f'∧T=T':=by
 obtain⟨e,h1,h2,h3,h4,h5,h6⟩:=h
 obtain⟨e',k1,k2,k3,k4,k5,k6⟩:=h'
 have he:=qA h2 k2 (Option.some.inj (h1.symm.trans k1))
 subst he
 rw[h4] at k4
 rw[h6] at k6
 exact⟨Option.some.inj k4,Option.some.inj k6⟩
theorem alU:Dz Kt qH .i:=⟨qH,Wp,OJ,by decide,ajC,by
 rw[Wo];exact wY.2 ⟨qH,Wp,OJ,by decide⟩,type12⟩
theorem alV {ok:Bool} (h:Ff Kt ok bs):ok=true:=by
 cases ok with
 |true=>rfl
 |false=>exact absurd ⟨ajD,ajE⟩ ((h.2 rfl).2 _ _ alU)
theorem Ff.aM {s:ai} {ok:Bool} (h:Ff s ok bs):∀b,b∈bs->b.aM.length<=10:=by
 cases ok with
 |true=>
  obtain⟨f,T,h1,_,_,rfl⟩:=h.1 rfl
  obtain⟨h2,h3,h4,_⟩:=alT h1
  obtain⟨j,hj⟩:=Pn 1000 (No h2 h3 h4)
  exact hj.labels
 |false=>rw[(h.2 rfl).1];intro b hb;cases hb
theorem Ff.prog {s:ai} (h:Ff s true bs):ju bs=true:=by
 obtain⟨f,T,_,_,h3,rfl⟩:=h.1 rfl
 exact h3
theorem Xv (s:ai) (w:World):bz Tryz.prog 26 [str s] w λr w'=>(∃v ok bs,r= .tuple #[v,.bool ok]∧nR [] w' v bs∧Ff s ok bs∧(ok=true->∃g,Gr w.heap.size [] w' 39 3 v g (bs.map Bk.enc)))∧aj [] w w':=by
 have hK:=aj.refl [] w
 refine bS [.tmp 2,.tmp 3] 44 Tryz.func26 rfl aae rfl rfl ?_
 refine W ?_
 refine aA (ah9 s w) ?_
 rintro v1 w1 ⟨fX,aI⟩
 have cV:=aI.size
 have hK:=hK.ext aI
 have eS:=fX
 obtain⟨x0,Xw,e0,zv,hx0⟩:=eS
 subst e0
 refine W ?_
 refine xM (t:=17) rfl (λh1=>?_) (λh1=>?_)
 replace h1:=jj h1
 have fT:Xw=false:=by simpa using h1
 refine W ?_
 refine zc rfl (λh2=>?_) (λh2=>?_)
 refine zr<|fR iK fU λw2 az rX dC=>?_
 have hK:=hK.ext az
 refine W ?_
 exact⟨_,rfl,⟨_,false,[],rfl,bQ.nil _ _ _,⟨λh=>by(cases h),λ_=>⟨rfl,λf T ⟨e,h1,h2,h3,h4,h5,h6⟩=>by rw[zv.2 ⟨e,f,h1,h2,h3,h4,h5⟩] at fT;cases fT⟩⟩,λh=>by(cases h)⟩,hK⟩
 simp at h2
 replace h1:=jj h1
 have fT:Xw=true:=(by simpa using h1)
 have hex:=zv.1 fT
 obtain⟨e,f,vG,ba,hn,hf,fj⟩:=hex
 have hxe:=hx0 e f vG ba hf fT
 subst hxe
 have Bc:=Mq ba hf
 have NH:=Xu Bc fj
 obtain⟨sH,Oi⟩:=NH
 have lW:CZ s (eE (bw e [])):=⟨λh=>(by rw[wY.2 ⟨e,vG,ba,hn⟩] at h;cases h),λe' h1 h2 h3=>by rw[qA h2 ba (Option.some.inj (h1.symm.trans vG))]⟩
 refine zm<|aA (aiS s w1) ?_
 rintro v2 w2 ⟨ij,az⟩
 have dm:=az.size
 have hK:=hK.ext az
 have eS:=ij
 obtain⟨b9,e9,cW⟩:=eS
 subst e9
 have cW:=cW _ lW
 refine W ?_
 refine zc rfl (λh3=>?_) (λh3=>?_)
 have eR:bw e []=none:=VV (by have jn:b9=false:=(by simpa using h3);rw[jn] at cW;simpa using cW.symm)
 refine zr<|fR iK fU λw3 aH rX gJ=>?_
 have hK:=hK.ext aH
 refine W ?_
 exact⟨_,rfl,⟨_,false,[],rfl,bQ.nil _ _ _,⟨λh=>by(cases h),λ_=>⟨rfl,λf' T ⟨e',h1,h2,h3,h4,h5,h6⟩=>by rw[qA h2 ba (Option.some.inj (h1.symm.trans vG)),eR] at h6;cases h6⟩⟩,λh=>by(cases h)⟩,hK⟩
 have eR:=VW (o:=bw e []) (by have jn:b9=true:=(by simpa using h3);rw[jn] at cW;simpa using cW.symm)
 obtain⟨T,eR⟩:=eR
 rw[eR] at lW
 have lW:CZ s T.text:=lW
 have Oj:=Sr ba eR hf
 have kO:Dz s f T:=⟨e,vG,ba,hn,hf,fj,eR⟩
 refine gY<|zr<|zm<|aA (GR f.au.text [] w2 sm) ?_
 rintro v3 w3 ⟨ko,aH⟩
 have fm:=aH.size
 have hK:=hK.ext aH
 have eS:=ko
 obtain⟨t,tv,e9,pQ,hp⟩:=eS
 subst e9
 have e2:=hp.1 _ sH
 subst e2
 have bZ:=cU pQ
 obtain⟨pa,pn,pc,e9,eP,aP⟩:=bZ
 subst e9
 subst eP
 have mG:=hK.size
 refine W ?_
 refine dx aL rfl rfl rfl λw4 aO bL kI=>?_
 have hK:=hK.ext aO
 have da:=aO
 refine cJ (vs:=[str f.au.aw,.slice pa f.au.ak.length pc]) aL rfl rfl rfl bL rfl λw5 aN bL df=>?_
 have hK:=hK.since aN (λx hx=>.inr (by simp at hx;omega))
 have da:=da.since aN (λx hx=>.inr (by simp at hx;omega))
 have pQ:=pQ.ext da
 refine W ?_
 apply uZ dj 9 (rA 29 4++[28,33,34,8,9]) (rA 29 4++[28,33,34,8,9]) [[],[],[1],[0,2],[3],[4],[4],[5],[6]] [It.v _,It.v _,It.v _,It.p (fun(v:Value) (ww:World)=>∃vb g,v= .tuple #[vb,.bool (!(ofM f T).wide)]∧Gr w.heap.size [] ww 39 3 vb g ((ofM f T).blocks.map Bk.enc)),It.p (fun(v:Value) (ww:World)=>∃vb g,v= .tuple #[vb,.bool (!(ofM f T).wide)]∧Gr w.heap.size [] ww 39 3 vb g ((ofM f T).blocks.map Bk.enc)),It.p (fun(v:Value) (ww:World)=>∃g,Gr w.heap.size [] ww 39 3 v g ((ofM f T).blocks.map Bk.enc)),It.v _,It.p (fun(v:Value) (ww:World)=>∃g,Gr w.heap.size [] ww 39 3 v g ((ofM f T).blocks.map Bk.enc)),It.v _] de (by exact⟨λv w w' ⟨vb,g,h1,h2⟩ k=>⟨vb,g,h1,h2.ext k⟩,λv w w' ⟨vb,g,h1,h2⟩ k=>⟨vb,g,h1,h2.ext k⟩,λv w w' ⟨g,h⟩ k=>⟨g,h.ext k⟩,λv w w' ⟨g,h⟩ k=>⟨g,h.ext k⟩,trivial⟩)
 intro wd aC
 refine VA ?_
 refine vk aC (λx w6 bN=>?_) ?_
 refine aA (V3 s w6) ?_
 rintro v7 w7 ⟨ye,bW⟩
 have lf:=bW.size
 have eS:=ye
 obtain⟨x9,e9,jr⟩:=eS
 have jr:=V2 jr lW
 subst jr
 subst e9
 exact pk bW
 refine vk aC (λx w6 bN=>?_) ?_
 refine bI bN hK pQ λhK pQ=>?_
 have x4:=hK.size
 refine aA (alJ f T Bc Oj Oi _ w6 pQ) ?_
 rintro v7 w7 ⟨ye,bW⟩
 have lf:=bW.size
 have eS:=ye
 obtain⟨KC,g9,e9,E6⟩:=eS
 have E6:=E6.down (B':=w.heap.size) om
 exact pf bW (⟨KC,g9,e9,E6⟩)
 refine vc (λx w6 bN=>?_) ?_
 intro v3 d3
 refine WZ ?_
 exact pf (aj.refl _ _) d3
 refine vc (λx w6 bN=>?_) ?_
 intro v4 d4
 obtain⟨KC,g9,e9,O5⟩:=d4
 subst e9
 refine WZ ?_
 exact pf (aj.refl _ _) (⟨g9,O5⟩)
 refine vc (λx w6 bN=>?_) ?_
 intro v4 d4
 obtain⟨KC,g9,e9,O5⟩:=d4
 subst e9
 refine WZ ?_
 exact pv
 refine vc (λx w6 bN=>?_) ?_
 intro v5 d5
 refine WZ ?_
 exact pf (aj.refl _ _) d5
 exact VZ
 intro x qu rM
 intro v3 d3
 intro v4 d4
 intro v5 d5
 intro v7 d7
 have hK:=hK.ext rM
 change OW _ _ _ _ [] (bo (bj _ x _) (zZ 29 [_,_,_,_]++[(28,_),(33,_),(34,_),(8,_),(9,_)])) _
 obtain⟨g5,HX⟩:=d7
 refine W ?_
 refine xM (t:=37) rfl (λh4=>?_) (λh4=>?_)
 replace h4:=jj h4
 have Po:(ofM f T).wide=true:=by simpa using h4
 refine W ?_
 refine zc rfl (λh5=>?_) (λh5=>?_)
 refine zr<|fR iK fU λrN pK alY aq3=>?_
 have hK:=hK.ext pK
 refine W ?_
 exact⟨_,rfl,⟨_,false,[],rfl,bQ.nil _ _ _,⟨λh=>by(cases h),λ_=>⟨rfl,λf' T' hc hw=>by rw[(KI hc kO).1,(KI hc kO).2,Po] at hw;cases hw.1⟩⟩,λh=>by(cases h)⟩,hK⟩
 simp at h5
 replace h4:=jj h4
 have Po:(ofM f T).wide=false:=(by simpa using h4)
 refine zm<|aA (SV (ofM f T).blocks (alS Bc Oj Oi) _ [] qu HX.tK) ?_
 rintro _ rN ⟨rfl,pK⟩
 have Ja:=pK.size
 refine bI pK hK HX λhK HX=>?_
 refine W ?_
 refine zc rfl (λh6=>?_) (λh6=>?_)
 have Pp:ju (ofM f T).blocks=false:=(by simpa using h6)
 refine zr<|fR iK fU λwO l5 alY aq4=>?_
 have hK:=hK.ext l5
 refine W ?_
 exact⟨_,rfl,⟨_,false,[],rfl,bQ.nil _ _ _,⟨λh=>by(cases h),λ_=>⟨rfl,λf' T' hc hw=>by rw[(KI hc kO).1,(KI hc kO).2,Pp] at hw;cases hw.2⟩⟩,λh=>by(cases h)⟩,hK⟩
 have Pp:ju (ofM f T).blocks=true:=(by simpa using h6)
 refine W ?_
 exact⟨_,rfl,⟨_,true,_,rfl,HX.tK,⟨λ_=>⟨f,T,kO,Po,Pp,rfl⟩,λh=>by(cases h)⟩,λ_=>⟨g5,HX⟩⟩,hK⟩
theorem alZ {a:Nat} (ha:a<4611686018427387904) (hb:b<4611686018427387904):IntKind.i64.wrap ((a%2^IntKind.i64.bits^^^b%2^IntKind.i64.bits:Nat):Int)=((a^^^b:Nat):Int):=by
 have hx:a^^^b<2^62:=Nat.xor_lt_two_pow om om
 have h1:a%2^IntKind.i64.bits=a:=Nat.mod_eq_of_lt (show a<2^64 by omega)
 have h2:b%2^IntKind.i64.bits=b:=Nat.mod_eq_of_lt (show b<2^64 by omega)
 rw[h1,h2]
 exact wrap_i64 _ om om
section
variable {P:Program} {n:Nat} {ops:Array Oper} {K:Env->World->Prop} {rest:List Oper} {e:Env} {w:World} {dst:Option Nat} {ty T T':TypeId} {pos:String} {after:Array Edge} {g:Option (Nat×Bool)} {x y:Operand}
theorem al0 {a:Nat} (hg:gate ops e g=true) (hd:bV n dst=true) (hx:ev e x= .int .i64 (a:Int)) (hy:ev e y= .int .i64 (b:Int)) (ha:a<4611686018427387904) (hb:b<4611686018427387904) 
  (c':OW P n ops K rest (bM e dst (.int .i64 ((a^^^b:Nat):Int))) w):OW P n ops K (⟨dst,.binOp .xor T x y T',ty,pos,after,g⟩::rest) e w:=
 eQ hg hd (by simp[execOp,eqGuard,hx,hy,binOp,Op.intBits,alZ ha hb]) c'
end
theorem Pq {len cap size:Nat} (hr:bQ L w (.slice (some ⟨b,off,none⟩) len cap) (.sl size rows)) (hh:h<=len):bQ L w (.slice (some ⟨b,off,none⟩) h cap) (.sl size (rows.take h)):=by
 cases hr with
 |nil=>rw[List.take_nil,show h=0 from by omega];exact .nil _ _ _
 |sl _ _ _ _ _ _ f hl hc hb hL hs kh gB=>
  exact .sl b off h cap size (rows.take h) f (by rw[List.length_take];omega) om hb hL (λrow hr=>hs row (List.mem_of_mem_take hr)) (λk j hk hj=>kh k j om hj) (λk j row c hk hj=>gB k j row c (by
   rw[List.getElem?_take] at hk
   split at hk
   ·exact hk
   ·cases hk) hj)
section
variable {P:Program} {n:Nat} {ops:Array Oper} {K:Env->World->Prop} {rest:List Oper} {e:Env} {w:World} {dst:Option Nat} {ty T:TypeId} {pos:String} {after:Array Edge} {g:Option (Nat×Bool)} {x:Operand}
theorem Xx {L:List Nat} {E:TypeId} {hi:Operand} {b off len cap h:Nat} {k:IntKind} (hT:P.underlying T=some (.slice E)) (hE:TI P E sz bytes z) (hg:gate ops e g=true) (hd:bV n dst=true) 
  (hx:ev e x= .slice (some ⟨b,off,none⟩) len cap) (BD:ev e hi= .int k (h:Int)) (hl:h<=len) {rows:List (List C)} (hr:bQ L w (.slice (some ⟨b,off,none⟩) len cap) (.sl sz rows))
  (c:OW P n ops K rest (bM e dst (.slice (some ⟨b,off,none⟩) h cap)) w):OW P n ops K (⟨dst,.slice T x none (some hi) none,ty,pos,after,g⟩::rest) e w:=by
 have zq:len<=cap:=by cases hr with|nil=>exact Nat.zero_le _|sl _ _ _ _ _ _ _ hl hc=>exact hc
 have h2:h<=cap:=Nat.le_trans hl zq
 refine eQ hg hd (v:=.slice (some ⟨b,off,none⟩) h cap) (w':=w) ?_ c
 simp[execOp,Instr.sliceAt,Instr.slice,hx,BD,run_underlying hT,Instr.sliceBounds,Instr.sliceBound,asIntOf,h2,hE.rD,qL]
end
def qJ (bs:List UInt8):List (List C):=bs.map λc=>[.val (.int .u8 (c.toNat:Int))]
theorem Fg (bs:List UInt8):(qJ bs).length=bs.length:=by simp[qJ]
theorem KJ {a:Option Addr} {bs:List UInt8} (h:bQ L w (.slice a n c) (.sl 1 (qJ bs))) (hi:i<bs.length):∃b off x,a=some ⟨b,off,none⟩∧fy L w b (off+i*1) [.int .u8 ((x:UInt8).toNat:Int)]:=by
 obtain⟨b,off,vs,ha,hb,hL,hl,hc,hr⟩:=zn h (i:=i) (row:=[.val (.int .u8 ((bs[i]).toNat:Int))]) (by simp[qJ,gE hi])
 obtain⟨u,hu⟩:∃u,vs=[u]:=by
  match vs,hl with
  |[u],_=>exact⟨u,rfl⟩
 subst hu
 obtain⟨h1,_⟩:=hr
 cases h1
 exact⟨b,off,bs[i],ha,hc,hb,hL⟩
def dD (w:World) (br q:Nat):Prop:=∃a n c p bs,aJ w br [.slice a n c,.int .i64 ((p:Nat):Int)].toArray 57∧p<=q∧(∀L:List Nat,(∀x,x∈L->br<=x)->bQ L w (.slice a n c) (.sl 1 (qJ bs)))∧n<=1000000000
theorem dD.ext {br:Nat} (h:dD w br q) (k:aj [] w w'):dD w' br q:=let⟨a,n,c,p,bs,h1,h2,h3,h4⟩:=h;⟨a,n,c,p,bs,h1.ext k,h2,λL hL=>bQ.ext (h3 L hL) k,h4⟩
theorem dD.more {br q':Nat} (h:dD w br q) (hq:q<=q'):dD w br q':=let⟨a,n,c,p,bs,h1,h2,h3,h4⟩:=h;⟨a,n,c,p,bs,h1,Nat.le_trans h2 hq,h3,h4⟩
theorem dD.lt {br:Nat} (h:dD w br q):br<w.heap.size:=let⟨_,_,_,_,_,h1,_⟩:=h;h1.lt
theorem Xy {br:Nat} (h:∀L:List Nat,(∀x,x∈L->br<=x)->bQ L w v (.sl 1 rows)) (k:aj G w w') (hG:∀x,x∈G->br<=x):∀L:List Nat,(∀x,x∈L->br<=x)->bQ L w' v (.sl 1 rows):=λL hL=>
 (bQ.aF (h (G++L) λx hx=>(mA.1 hx).elim (hG x) (hL x)) (k.mono λx hx=>List.mem_append_left _ hx)).fresh λx hx=>.inl (mR _ hx)
theorem dD.aF {br:Nat} (h:dD w br q) (k:aj G w w') (hG:∀x,x∈G->br<x):dD w' br q:=let⟨a,n,c,p,bs,h1,h2,h3,h4⟩:=h;⟨a,n,c,p,bs,h1.aF k (λhx=>Nat.lt_irrefl _ (hG br hx)),h2,Xy h3 k (λx hx=>Nat.le_of_lt (hG x hx)),h4⟩
section
variable {P:Program} (w:World)
theorem al1 (t ty e:TypeId) (i:TypeInfo) (ht:P.underlying t=some (.slice e)) (hi:P.info? e=some i) 
  (g off sLen sCap:Nat) (cur:Array Value) (hg:w.heap[g]?=some (.cells cur e (0,0)))
  (a:Addr) (m c:Nat) (news:List Value) (hl:news.length=m*i.size) (tl:∀j u,news[j]?=some u->w.cell? (a.add j)=some u) (h1:∀u∈news,u.oneCell'=true)
  (oD:sLen+m<=sCap) (kv:off+sLen*i.size+news.length<=cur.size):
  (Builtin.append_ #[t,t] ty #[.slice (some ⟨g,off,none⟩) sLen sCap,.slice (some a) m c]).run P w=
   .ok (.slice (some ⟨g,off,none⟩) (sLen+m) sCap) (w.setRow g (cur.toList.take (off+sLen*i.size)++news++cur.toList.drop (off+sLen*i.size+news.length)).toArray):=by
 have hf:=run_firstCells_some (P:=P) w i.size m a m c news hl tl
 have aR:=run_storeCells_at P g (off+sLen*i.size) e news 0 cur w hg (by simpa using kv) h1
 simp only[Nat.add_zero] at aR
 simp[Builtin.append_,run_underlying ht,sizeOf,typeInfo,hi,Builtin.lenOf,oD,hf,qL,aR]
end
def Qu (w:World) (T:TypeId) (v:Value) (g:Nat) (xs:List Value):Prop:=
 ∃off cap cur,v= .slice (some ⟨g,off,none⟩) xs.length cap∧aJ w g cur T∧xs.length<=cap∧off+cap<=cur.size∧∀i x,xs[i]?=some x->cur[off+i]?=some x
theorem Qu.aF {T:TypeId} (h:Qu w T v g xs) (k:aj L w w') (hg:g∉L):Qu w' T v g xs:=
 let⟨off,cap,cur,e,hb,r⟩:=h;⟨off,cap,cur,e,hb.aF k hg,r⟩
theorem Qu.ext {T:TypeId} (h:Qu w T v g xs) (k:aj [] w w'):Qu w' T v g xs:=h.aF k sm
theorem Qu.lt {T:TypeId} (h:Qu w T v g xs):g<w.heap.size:=let⟨_,_,_,_,hb,_⟩:=h;hb.lt
theorem Qu.form {T:TypeId} (h:Qu w T v g xs):∃off cap,v= .slice (some ⟨g,off,none⟩) xs.length cap:=let⟨off,cap,_,e,_⟩:=h;⟨off,cap,e⟩
theorem Qu.one {T:Nat} {x:Value} (h:aJ w b [x].toArray T):Qu w T (.slice (some ⟨b,0,none⟩) 1 1) b [x]:=
 ⟨0,1,_,rfl,h,sm,sm,λi y hy=>by simpa using hy⟩
theorem Qu.head {T:TypeId} {cap:Nat} {x:Value} (h:Qu w T (.slice (some ⟨g,off,none⟩) n cap) g (x::xs)):w.cell? ⟨g,off+0*1,none⟩=some x:=by
 obtain⟨o,c,cur,e,hb,_,_,h3⟩:=h
 cases e
 rw[Nat.zero_mul,Nat.add_zero,hb.cell]
 simpa using h3 0 x rfl
section
variable {P:Program} {n:Nat} {ops:Array Oper} {K:Env->World->Prop} {rest:List Oper} {e:Env} {w:World}
 {dst:Option Nat} {ty:TypeId} {pos:String} {after:Array Edge} {g:Option (Nat×Bool)} {x y:Operand}
theorem al2 {t E:Nat} {lo:Operand} {ki:IntKind} {v u:Value} {gq:Nat} {xs:List Value} (hT:P.underlying t=some (.slice E)) (hE:TI P E 1 bytes z) (hg:gate ops e g=true) (hd:bV n dst=true) 
  (hx:ev e x=v) (tu:ev e lo= .int ki 1) (hq:Qu w E v gq (u::xs)) (k:∀v',Qu w E v' gq xs->OW P n ops K rest (bM e dst v') w):
  OW P n ops K (⟨dst,.slice t x (some lo) none none,ty,pos,after,g⟩::rest) e w:=by
 obtain⟨off,cap,cur,rfl,hb,h1,h2,h3⟩:=hq
 simp only[lC] at h1
 have key:∀l:Nat,l<=(u::xs).length->ev e lo= .int ki (l:Int)->(execOp (ev e) ⟨dst,.slice t x (some lo) none none,ty,pos,after,g⟩).run P w= .ok (.value (.slice (if cap=l then some ⟨gq,off,none⟩ else some ⟨gq,off+l*1,none⟩) ((u::xs).length-l) (cap-l))) w:=λl hl tu=>by
  have Le:l<=xs.length+1:=hl
  simp[execOp,Instr.sliceAt,Instr.slice,hx,tu,run_underlying hT,Instr.sliceBounds,Instr.sliceBound,asIntOf,Le,hE.rD,qL]
 refine eQ hg hd (v:=.slice (if cap=1 then some ⟨gq,off,none⟩ else some ⟨gq,off+1*1,none⟩) xs.length (cap-1)) (w':=w) (key 1 sm tu) (k _ ?_)
 by_cases hc:cap=1
 ·rw[iP hc]
  refine⟨off,cap-1,cur,rfl,hb,om,om,λi y hy=>?_⟩
  have:=(List.getElem?_eq_some_iff.1 hy).1
  omega
 ·rw[iN hc]
  refine⟨off+1*1,cap-1,cur,rfl,hb,om,om,λi y hy=>?_⟩
  have:=h3 (i+1) y (by simpa using hy)
  rw[<-this];congr 1;omega
theorem al3 {t E:Nat} {v u:Value} {gq b U:Nat} {xs:List Value} (hT:P.underlying t=some (.slice E)) (hE:TI P E 1 bytes z) (hg:gate ops e g=true) (hd:bV n dst=true) (hz:Nat.beq z.cells.size 1=true) (fK:Nat.ble bytes 1000=true) 
  (hx:ev e x=v) (hy:ev e y= .slice (some ⟨b,0,none⟩) 1 1) (hq:Qu w E v gq xs) (hb:aJ w b [u].toArray U) (h1:u.oneCell'=true) (hn:xs.length<100000000)
  (k:∀v' g' w',Qu w' E v' g' (xs++[u])->aj [gq] w w'->(g'=gq∨g'=w.heap.size)->OW P n ops K rest (bM e dst v') w'):
  OW P n ops K (⟨dst,.call {callee:=.builtin .append,args:=#[x,y],argTypes:=#[t,t]},ty,pos,after,g⟩::rest) e w:=by
 obtain⟨i,hi,uO,fC,wQ⟩:=hE.get
 have zR:bytes<=1000:=Nat.le_of_ble_eq_true fK
 obtain⟨off,cap,cur,rfl,Pr,hc,hs,uA⟩:=hq
 have tl:∀j u',[u][j]?=some u'->w.cell? ((⟨b,0,none⟩:Addr).add j)=some u':=λj u' hj=>by
  rw[qL,hb.cell]
  simpa using hj
 have al4:∀u'∈[u],u'.oneCell'=true:=λu' h=>by rw[List.mem_singleton.1 h];exact h1
 have run:∀{v':Value} {w':World},(Builtin.append_ #[t,t] ty #[.slice (some ⟨gq,off,none⟩) xs.length cap,.slice (some ⟨b,0,none⟩) 1 1]).run P w= .ok v' w'->
   (execOp (ev e) ⟨dst,.call {callee:=.builtin .append,args:=#[x,y],argTypes:=#[t,t]},ty,pos,after,g⟩).run P w= .ok (.value v') w':=λhr=>by
  simp only[execOp,resolve,invoke,builtin,Sem.run_bind,Sem.run_pure,Result.andThen_ok,List.map_toArray,List.map_cons,List.map_nil,hx,hy,hr]
 by_cases oD:xs.length+1<=cap
 ·have hr:=al1 (P:=P) w t ty E i hT hi gq off xs.length cap cur Pr ⟨b,0,none⟩ 1 1 [u] (by rw[fC];rfl) tl al4 oD (by rw[fC];simp;omega)
  rw[fC] at hr
  refine eQ hg hd (run hr) (k _ gq _ ⟨off,cap,_,by rw[lA];rfl,setRow_heap w gq cur _ E _ Pr,by simpa using oD,?_,λj y hj=>?_⟩ ⟨rfl,rfl,rfl,sm,λk' _ hk=>setRow_other w gq k' _ (by simpa using hk)⟩ (.inl rfl))
  ·simp;omega
  ·rcases Nat.lt_or_ge j xs.length with h|h
   ·rw[List.getElem?_append_left h] at hj
    have:=uA j y hj
    simp only[List.getElem?_toArray]
    rw[List.append_assoc,List.getElem?_append_left so,List.getElem?_take_of_lt om]
    simpa using this
   ·rw[List.getElem?_append_right h] at hj
    have BL:j-xs.length=0:=by have:=(List.getElem?_eq_some_iff.1 hj).1;simpa using this
    rw[BL] at hj
    simp only[List.getElem?_toArray]
    rw[List.append_assoc,List.getElem?_append_right so]
    rw[show off+j-(List.take (off+xs.length*1) cur.toList).length=0 by simp;omega]
    simpa using hj
 ·have holds:∀j u',xs[j]?=some u'->w.cell? ((⟨gq,off,none⟩:Addr).add j)=some u':=λj u' hj=>by
   rw[qL,Pr.cell];exact uA j u' hj
  have hr:=run_append_grow (P:=P) w t ty E i z hT hi uO ⟨gq,off,none⟩ xs.length cap xs (by rw[fC];omega) holds ⟨b,0,none⟩ 1 1 [u] (by rw[fC];rfl) tl om om
   (growslice_fits om (Nat.le_trans (Nat.mul_le_mul (show xs.length+1<=100000000 by omega) (show i.bytes<=1000 by omega)) de))
  have oC:=grownCap_ge w (xs.length+1) cap E
  refine eQ hg hd (run hr) (k _ w.heap.size _ ⟨0,_,_,by rw[lA];rfl,heap_alloc_new w.drew _,by simpa using oC,?_,λj y hj=>?_⟩ ⟨rfl,rfl,rfl,sm,λk' hk _=>heap_alloc_old w.drew _ k' hk⟩ (.inr rfl))
  ·have dC:z.cells.size=1:=Nat.eq_of_beq_eq_true hz
   simp only[Array.size_append,List.size_toArray,size_zeroCells,dC,lC,List.length_nil]
   omega
  ·have dU:=(List.getElem?_eq_some_iff.1 hj).1
   rw[Nat.zero_add,Array.getElem?_append_left (by simp at dU⊢;omega)]
   simpa using hj
theorem al5 {t E:Nat} {u:Value} {kl kc:IntKind} (N:Nat) (hT:P.underlying t=some (.slice E)) (hE:TI P E 1 bytes z) (hg:gate ops e g=true) (hd:bV n dst=true) 
  (hz:z.cells=[u].toArray) (fK:Nat.ble bytes 1000=true) (hx:ev e x= .int kl (N:Int)) (hy:ev e y= .int kc (N:Int)) (hN:N<=100000000000)
  (k:∀w',aj [] w w'->w'.heap.size=w.heap.size+1->aJ w' w.heap.size (List.replicate N u).toArray E->OW P n ops K rest (bM e dst (.slice (some ⟨w.heap.size,0,none⟩) N N)) w'):
  OW P n ops K (⟨dst,.makeSlice t x y,ty,pos,after,g⟩::rest) e w:=by
 obtain⟨i,hi,uO,fC,wQ⟩:=hE.get
 have zR:bytes<=1000:=Nat.le_of_ble_eq_true fK
 have hb:(i.bytes:Int)*(N:Int)<=281474976710656:=by
  have:i.bytes*N<=1000*100000000000:=Nat.mul_le_mul om hN
  have h:((i.bytes*N:Nat):Int)<=281474976710656:=by omega
  rwa [Int.natCast_mul] at h
 have hr:=run_make (P:=P) w t E i z hT hi uO kl kc (N:Int) (N:Int) om (Int.le_refl _) hb om
 simp only[Int.toNat_natCast] at hr
 have tE:=Tz z.cells N
 rw[hz] at tE
 have e1:(madeCells [u].toArray (N*1))=(List.replicate N u).toArray:=by
  apply Array.toList_inj.1
  have:([u].toArray).size=1:=rfl
  rw[this] at tE
  rw[tE]
  induction N with
  |zero=>rfl
  |succ N ih=>simp[List.replicate_succ]
 refine eQ hg hd (w':=w.alloc (.cells (madeCells z.cells (N*1)) E)) (by rw[fC] at hr;simp[execOp,hx,hy,hr]) (k _ (aj.alloc _ _ _) sm ?_)
 rw[hz,e1]
 exact aJ.alloc _ _ _
theorem Xz {L:List Nat} {E:TypeId} {T:Nat} {lo hi:Operand} {b off len cap l h:Nat} {k k':IntKind} (hT:P.underlying T=some (.slice E)) (hE:TI P E sz bytes z) (hg:gate ops e g=true) (hd:bV n dst=true) 
  (hx:ev e x= .slice (some ⟨b,off,none⟩) len cap) (tu:ev e lo= .int k (l:Int)) (BD:ev e hi= .int k' (h:Int)) (h1:l<=h) (h2:h<=len) {rows:List (List C)} (hr:bQ L w (.slice (some ⟨b,off,none⟩) len cap) (.sl sz rows))
  (c:∀v,bQ L w v (.sl sz ((rows.take h).drop l))->OW P n ops K rest (bM e dst v) w):OW P n ops K (⟨dst,.slice T x (some lo) (some hi) none,ty,pos,after,g⟩::rest) e w:=by
 have zq:len<=cap:=by cases hr with|nil=>exact Nat.zero_le _|sl _ _ _ _ _ _ _ hl hc=>exact hc
 have h3:h<=cap:=Nat.le_trans h2 zq
 have ck:=Pq hr h2
 refine eQ hg hd (v:=.slice (if cap=l then some ⟨b,off,none⟩ else some ⟨b,off+l*sz,none⟩) (h-l) (cap-l)) (w':=w) ?_ (c _ (P6 ck l h1 _ (λh=>iN om) (λh=>iP om)))
 simp[execOp,Instr.sliceAt,Instr.slice,hx,tu,BD,run_underlying hT,Instr.sliceBounds,Instr.sliceBound,asIntOf,h1,h3,hE.rD,qL]
end
theorem take_one {α:Type} {l:List α} {x:α} (h:l[k]?=some x):(l.take (k+1)).drop k=[x]:=by
 rw[List.take_add_one,h,List.drop_append_of_le_length (by have:=(List.getElem?_eq_some_iff.1 h).1;rw[List.length_take];omega),List.drop_eq_nil_of_le (by rw[List.length_take];omega)];rfl
def zV (z:Int):Value:=.int .i64 z
structure vV (ps:List dy) (w0 w:World) (ms:List Bool) (qv:Value) (gq:Nat) (zints:List Int):Prop where
 kp:aj [] w0 w
 out:aJ w w0.heap.size (ms.map Value.bool).toArray 4
 que:Qu w 3 qv gq (zints.map zV)
 len:ms.length=ps.length
 ne:w0.heap.size<gq
 rng:∀z,z∈zints-> -1<=z∧z<ps.length
theorem vV.pop {ms:List Bool} {qv qv':Value} {gq:Nat} {z:Int} {zints:List Int} (h:vV ps w0 w ms qv gq (z::zints)) (hq:Qu w 3 qv' gq (zints.map zV)):vV ps w0 w ms qv' gq zints:=
 ⟨h.kp,h.out,hq,h.len,h.ne,λx hx=>h.rng x (mK _ hx)⟩
theorem vV.ext {ms:List Bool} {qv:Value} {gq:Nat} {zints:List Int} (h:vV ps w0 w ms qv gq zints) (k:aj [] w w'):vV ps w0 w' ms qv gq zints:=
 ⟨h.kp.trans k,h.out.ext k,h.que.ext k,h.len,h.ne,h.rng⟩
theorem vV.push {ms:List Bool} {qv qv':Value} {gq g':Nat} {z:Int} {zints:List Int} (h:vV ps w0 w ms qv gq zints) (hq:Qu w' 3 qv' g' (zints.map zV++[zV z])) (k:aj [gq] w w') (hg:g'=gq∨g'=w.heap.size) 
  (hz: -1<=z∧z<ps.length):vV ps w0 w' ms qv' g' (zints++[z]):=by
 have hn:=h.ne
 have hl:=h.out.lt
 refine⟨h.kp.since k (λx hx=>.inr (by simp at hx;omega)),h.out.aF k so,by rw[List.map_append];exact hq,h.len,om,λx hx=>?_⟩
 rcases mA.1 hx with hx|hx
 ·exact h.rng x hx
 ·rw[List.mem_singleton.1 hx];exact hz
theorem al6 {xs:List ai} {g':Nat} (h:bc [g] w v xs) (k:aj [g] w w') (hg:g'=g∨g'=w.heap.size):bc [g'] w' v xs:=
 bQ.weaken (bc.aD (bc.fresh h (L':=[g,g']) (λx hx=>by simp at hx;rcases hx with rfl|rfl;(·exact .inl sm);(·rcases hg with e|e;(·exact .inl (by simp[e]));(·exact .inr om)))) k sm) sm
theorem XA {ms:List Bool} (h:k<ms.length):(ms.map Value.bool)[0+k*1]?=some (.bool (ms.getD k false)):=by
 rw[Nat.mul_one,Nat.zero_add,List.getElem?_map,gE h,gG,gE h];rfl
theorem al7 (ps:List dy) (h0:0<ps.length) (aP:ps.length<=40) (I8:jl ps<=100000) (ba:MS ps) (v:Value) (w:World) (hv:nG [] w v ps):
  bz Tryz.prog 11 [v] w λr w'=>(∃ms:List Bool,ms.length=ps.length∧r= .slice (some ⟨w.heap.size,0,none⟩) ps.length ps.length∧aJ w' w.heap.size (ms.map Value.bool).toArray 4)∧aj [] w w':=by
 obtain⟨a,c,rfl⟩:=Eh hv
 obtain⟨b0,vj,r1,Jd,r2,Gx,rfl,et,mB,pL⟩:=Cm hv (sv (ps:=ps) h0)
 have hK:=aj.refl [] w
 refine bS [.tmp 2] 50 Tryz.func11 rfl Zh rfl rfl ?_
 refine W ?_
 refine al5 (u:=.bool false) ps.length Ix DL rfl rfl rfl rfl rfl rfl om λw1 aI dk vu=>?_
 have hK:=hK.ext aI
 refine W ?_
 refine fc uP oI rfl rfl λw2 az iF dC=>?_
 have hK:=hK.ext az
 refine W ?_
 have aq5:=vu
 refine eA (λq:List Bool×Value×Nat×List Int=>[(0,.slice (some ⟨b0,vj,none⟩) ps.length c),(3,.slice (some ⟨w.heap.size,0,none⟩) ps.length ps.length),(4,q.2.1)]) (λq w'=>vV ps w w' q.1 q.2.1 q.2.2.1 q.2.2.2∧AO q.1*(jl ps+1)+q.2.2.2.length<=ps.length*(jl ps+1)+1) (λq=>AO q.1*(jl ps+1)+q.2.2.2.length) ((List.replicate ps.length false,.slice (some ⟨w1.heap.size,0,none⟩) 1 1,w1.heap.size,[0])) (⟨rfl,rfl,rfl⟩) (⟨⟨hK,by rw[List.map_replicate];exact vu.ext az,Qu.one iF,sm,by rw[dk];exact Nat.lt_succ_self _,by intro z hz;simp at hz;subst hz;omega⟩,by rw[afm];simp⟩) λgg w3 e3 hI=>?_
 obtain⟨ms,qv,gq,zints⟩:=gg
 dsimp only at hI⊢
 obtain⟨hI,EK⟩:=hI
 have aQ:=hI.que.form
 obtain⟨off,cap,rfl⟩:=aQ
 rw[List.length_map] at hI⊢
 have hK:=hI.kp
 refine W ?_
 refine zc rfl (λh1=>?_) (λh1=>?_)
 have dL:zints≠[]:=(by intro e;subst e;simp at h1)
 have aQ:=List.exists_cons_of_ne_nil dL
 obtain⟨z,zints,rfl⟩:=aQ
 have hzr:=hI.rng z (List.mem_cons_self ..)
 refine WI ?_
 refine zi (i:=0) uP oI rfl rfl sm<|zl Ls rfl hI.que.head<|zA<|aZ<|zr<|zm<|al2 uP oI rfl rfl rfl rfl hI.que λqv hQ=>?_
 have hI:=hI.pop hQ
 have aQ:∃kk:Nat,kk=z.toNat:=⟨_,rfl⟩
 obtain⟨kk,ej⟩:=aQ
 refine W ?_
 apply oP 5 22 27 rfl oQ
 intro h2
 have AL:z=(kk:Int):=(by simp at h2;omega)
 subst AL
 refine WL ?_
 refine zl Iw rfl (hI.out.at (XA (by rw[hI.len];omega))) ?_
 exact oQ
 intro xx
 refine aZ<|zc rfl (λh3=>?_) (λh3=>?_)
 refine WZ ?_
 exact⟨(ms,qv,gq,zints),⟨rfl,rfl,rfl⟩,⟨hI,by simp only[lC] at EK;dsimp only;omega⟩,by simp only[lC];omega⟩
 have AL:z=(kk:Int)∧ms.getD kk false=false:=(by simp at h3;exact⟨by omega,by simpa using h3.2⟩)
 obtain⟨AL,wb⟩:=AL
 subst AL
 have fb:kk<ps.length:=by omega
 refine WI ?_
 refine zi Ix DL rfl rfl fb<|gd (o:=0+kk*1) (v:=.bool true) DL rfl rfl rfl hI.out (by rw[List.length_map,hI.len];simpa[Nat.blt_eq] using fb) λw4 aO vu df=>?_
 have hQ:=hQ.aF aO (by have:=hI.ne;simp;omega)
 have hKo:=hI.kp
 have hK:=hKo.since aO (λx hx=>.inr (by simp at hx;omega))
 have vu:aJ w4 w.heap.size ((ms.set kk true).map Value.bool).toArray 4:=by rw[List.map_set];simpa using vu
 refine WA ?_
 refine mX rfl rfl rfl rfl rfl (show IntKind.i64.wrap ((kk:Int)+1)=((kk+1:Nat):Int) from wrap_i64 _ om om)<|Xz (L:=[gq]) (l:=kk) (h:=kk+1) wk jf rfl rfl rfl rfl rfl om om (nG.ext (bQ.fresh hv (λx hx=>.inr (by have:=hI.ne;simp at hx;omega))) hK) λvs aW=>?_
 rw[take_one (show(ps.map dy.enc)[kk]?=some (dy.enc (eC ps kk)) from by rw[List.getElem?_map,sv fb];rfl)] at aW
 have fl:jl [eC ps kk]<=jl ps:=by have h3:=Gz fb;have h4:=Je ps (kk+1);simp[jl] at h3 h4⊢;omega
 have oF:=Tr [eC ps kk]
 have tC:zints.length<=5000000:=by have:=Nat.mul_le_mul aP (show jl ps+1<=100001 by omega);simp only[lC] at EK;omega
 refine aA (afx [eC ps kk] sm om (λb hb=>by simp at hb;subst hb;exact ba _ (List.mem_of_getElem? (sv fb))) _ [gq] w4 aW (by have:=hQ.lt;simpa using this)) ?_
 rintro v5 w5 ⟨sI,aN⟩
 have l3:=aN.size
 refine cN aN hK vu hQ λhK vu hQ=>?_
 have eK:=sI
 have aQ:=dJ eK
 obtain⟨an,nn,cn,e9,rP⟩:=aQ
 subst e9
 refine W ?_
 refine eA (λq:Nat×Value×Nat×List Int=>[(0,.slice (some ⟨b0,vj,none⟩) ps.length c),(3,.slice (some ⟨w.heap.size,0,none⟩) ps.length ps.length),(4,q.2.1),(36,.slice an nn cn),(37,.int .i64 (nn:Int)),(38,.int .i64 (q.1:Int))]) (λq w'=>vV ps w w' (ms.set kk true) q.2.1 q.2.2.1 q.2.2.2∧bc [q.2.2.1] w' (.slice an nn cn) (rh [eC ps kk])∧q.1<=nn∧q.2.2.2.length=zints.length+q.1) (λq=>nn-q.1) ((0,qv,gq,zints)) (⟨rfl,rfl,rfl,rfl,rfl,rfl⟩) (⟨⟨hK,vu,hQ,by rw[List.length_set];exact hI.len,hI.ne,λz hz=>hI.rng z (mK _ hz)⟩,eK,Nat.zero_le _,rfl⟩) λgg w6 e6 hI=>?_
 obtain⟨j,qv2,g2,XB⟩:=gg
 dsimp only at hI⊢
 obtain⟨yZ,eK,hj,E7⟩:=hI
 have aQ:=yZ.que.form
 obtain⟨lF,aq8,rfl⟩:=aQ
 have hK:=yZ.kp
 refine W ?_
 refine zc rfl (λh4=>?_) (λh4=>?_)
 have oz:j<nn:=(by simp at h4;omega)
 have hg:=km (xs:=rh [eC ps kk]) (i:=j) om
 have aQ:=pB eK hg
 obtain⟨b3,A3,rfl,dO⟩:=aQ
 refine WI ?_
 refine zi bh bf rfl rfl oz<|W ?_
 refine aA (Tn ps om (bX (rh [eC ps kk]) j) _ [] w6 (nG.ext hv hK)) ?_
 rintro _ w7 ⟨rfl,bW⟩
 have lf:=bW.size
 refine bI bW yZ eK λyZ eK=>?_
 refine fc uP oI rfl rfl λw8 cE al9 ld=>bI cE yZ eK λyZ eK=>?_
 refine al3 uP oI rfl rfl rfl rfl rfl rfl yZ.que al9 rfl (by rw[List.length_map];omega) λqv3 g3 w9 hQ3 aB I4=>?_
 have hI3:=yZ.push hQ3 aB I4 (by rcases afn ps (bX (rh [eC ps kk]) j) with h9|h9;(·exact h9);(·omega))
 have eK:=al6 eK aB I4
 refine W ?_
 exact⟨(j+1,qv3,g3,XB++[uS ps (bX (rh [eC ps kk]) j)]),⟨rfl,rfl,rfl,rfl,rfl,rfl⟩,⟨hI3,eK,by dsimp only;omega,by rw[lA];simp;omega⟩,by dsimp only;omega⟩
 have XC:=Tu (ms:=ms) (k:=kk) (by rw[gE (by rw[hI.len];exact fb)];rw[gG,gE (by rw[hI.len];exact fb)] at wb;simpa using wb)
 rw[<-XC,Nat.add_mul] at EK
 simp only[lC] at EK
 refine WZ ?_
 exact⟨(ms.set kk true,_,g2,XB),⟨rfl,rfl,rfl⟩,⟨yZ,by dsimp only;omega⟩,by dsimp only;rw[<-XC,Nat.add_mul];simp only[lC];omega⟩
 refine W ?_
 exact⟨_,rfl,⟨ms,hI.len,rfl,hI.out⟩,hI.kp⟩
def Bd (B b:Nat) (l:ai) (w:World):Prop:=Lib.IsBuilderF 101 5 B b (Lib.byteCells l) w
theorem Bd.ext {l:ai} (h:Bd B b l w) (k:aj [] w w'):Bd B b l w':=by
 have cell:∀{i:Nat} {o:Obj},w.heap[i]?=some o->w'.heap[i]?=some o:=fun{i o} hi=>(k.block i (Array.getElem?_eq_some_iff.1 hi).1 sm).trans hi
 have key:∀p,Lib.BuilderAtF 101 5 B b p (Lib.byteCells l) w->Lib.BuilderAtF 101 5 B b p (Lib.byteCells l) w':=by
  rintro p ⟨hB,v,hb,dv,dL⟩
  refine⟨hB,v,cell hb,⟨dv.1,?_⟩,dL⟩
  rcases dv.2 with h|⟨g,cap,cur,fz,h1,h2,h3,h4⟩
  ·exact .inl h
  ·exact .inr ⟨g,cap,cur,fz,h1,h2,cell h3,h4⟩
 exact h.imp (key _) (key _)
structure pq (B b:Nat) (w w':World):Prop where
 below:RowKit.Below B w w'
 others:Lib.OthersKept 5 (some b) w w'
theorem pq.trans {w'':World} (h:pq B b w w') (k:pq B b w' w''):pq B b w w'':=⟨h.below.trans k.below,h.others.trans k.others⟩
theorem pq.of {b:Nat} (h:aj [] w w') (hB:B<=w.heap.size):pq B b w w':=
 ⟨h.below hB sm,λk o hk _ _=>(h.block k (Array.getElem?_eq_some_iff.1 hk).1 sm).trans hk⟩
theorem pq.aF (k:pq w0.heap.size b w w') (h:aj [] w0 w):aj [] w0 w':=Ck h k.below
theorem aJ.others {cs:Array Value} {T:TypeId} (h:aJ w c cs T) (k:pq B b w w') (hc:c≠b) (hT:T≠5):aJ w' c cs T:=
 k.others c _ h (by simpa using hc) (by intro c' fz he;cases he;exact hT rfl)
theorem amd (B b:Nat) (l s:ai) (w:World) (h:Bd B b l w) (hlen:l.length+s.length<=140737488355328) (oa:B<=w.heap.size):
  bz Tryz.prog 103 [.pointer (some ⟨b,0,none⟩),str s] w λ_ w'=>Bd B b (l++s) w'∧pq B b w w':=
 ⟨qK.mk' Tryz.func103 rfl Qz,Calls.mono (Tryz.Builder_WriteString_k B b _ ⟨s.toArray⟩ w h (by rw[Lib.byteCells_length];simpa[ByteArray.size] using hlen) oa) λ_ _ ⟨he,hb,hk,ho⟩=>⟨_,he,.inr (by have e1:Lib.byteCells (l++s)=Lib.byteCells l++Lib.strCells ⟨s.toArray⟩:=by{simp[Lib.byteCells,Lib.strCells]};rw[e1];exact hb),hk,ho⟩⟩
theorem Ps (B b:Nat) (l:ai) (c:Nat) (hc:c<256) (w:World) (h:Bd B b l w) (hlen:l.length+1<=140737488355328) (oa:B<=w.heap.size):
  bz Tryz.prog 104 [.pointer (some ⟨b,0,none⟩),.int .u8 (c:Int)] w λ_ w'=>Bd B b (l++[UInt8.ofNat c]) w'∧pq B b w w':=
 ⟨qK.mk' Tryz.func104 rfl Zb,Calls.mono (Tryz.Builder_WriteByte_k B b _ (c:Int) w h (by rw[Lib.byteCells_length];exact hlen) oa) λ_ _ ⟨he,hb,hk,ho⟩=>⟨_,he,.inr (by have e1:Lib.byteCells (l++[UInt8.ofNat c])=Lib.byteCells l++[.int .u8 (c:Int)]:=by{simp[Lib.byteCells];omega};rw[e1];exact hb),hk,ho⟩⟩
theorem ame (B b:Nat) (l:ai) (w:World) (h:Bd B b l w) (oa:B<=w.heap.size):
  bz Tryz.prog 69 [.pointer (some ⟨b,0,none⟩)] w λv w'=>v=str l∧RowKit.Below B w w':=
 ⟨qK.mk' Tryz.func69 rfl QD,Calls.mono (Tryz.Builder_String_any_f B b l w h oa) λ_ _ ⟨he,hb,hk⟩=>⟨_,he,rfl,hk⟩⟩
theorem amf:∀(m:Nat) (t:aq),t.size<=m->WF t->∀(v:Value) (L:List Nat) (w0 w:World) (b:Nat) (l:ai),bB L w0 v t->aj [] w0 w->b<w.heap.size->Bd w0.heap.size b l w->l.length+t.text.length<=1000000000->t.size<=1000000000->
  bz Tryz.prog 68 [v,.pointer (some ⟨b,0,none⟩)] w λr w'=>r= .tuple #[]∧Bd w0.heap.size b (l++t.text) w'∧pq w0.heap.size b w w':=by
 intro m
 induction m with
 |zero=>intro t h cm;have:=LJ cm;omega
 |succ m ih=>
  intro t hm cm v L w0 w b l hv hK Jj vW hlen lD
  have cO:=hv
  obtain⟨a,n,c,rfl,hn,aP⟩:=cU hv
  subst hn
  have nZ:=wm t
  have iR:=aj.refl [] w
  have XD:=hK.size
  refine bS [] 32 Tryz.func68 rfl aaW rfl rfl ?_
  refine zr<|eH rfl λw1 aI aU dk=>bI aI hK iR λhK iR=>?_
  refine W ?_
  refine aA (MH t _ L w1 (cO.ext hK)) ?_
  rintro _ w2 ⟨rfl,az⟩
  have dm:=az.size
  refine cN az hK iR aU λhK iR aU=>?_
  refine aZ<|zc rfl (λh1=>?_) (λh1=>?_)
  have yl:=RY cm h1
  refine W ?_
  refine aA (amd w0.heap.size b l t.aw w2 (vW.ext iR) (by rw[<-yl];omega) (by have:=hK.size;omega)) ?_
  rintro _ w3 ⟨y0,hF⟩
  refine W ?_
  exact⟨_,rfl,rfl,by rw[yl];exact y0,(pq.of iR XD).trans hF⟩
  have XE:=vW.ext iR
  have hF:=pq.of (b:=b) iR XD
  have aq9:w.heap.size≠b:=by omega
  refine W ?_
  refine eA (λk:Nat=>[(1,.pointer (some ⟨b,0,none⟩)),(2,.pointer (some ⟨w.heap.size,0,none⟩)),(13,.slice a t.ak.length c),(14,.int .i64 (t.ak.length:Int)),(15,.int .i64 (k:Int))]) (λk w'=>aj [] w0 w'∧Bd w0.heap.size b (l++pre (t.ak.take k)) w'∧pq w0.heap.size b w w'∧k<=t.ak.length∧w.heap.size<=w'.heap.size) (λk=>t.ak.length-k) (0) (⟨rfl,rfl,rfl,rfl,rfl⟩) (⟨hK,by simpa[pre] using XE,hF,om,iR.size⟩) λgg w3 e3 hI=>?_
  obtain⟨hK,vW,hF,hk,fC⟩:=hI
  clear iR XE
  refine W ?_
  refine zc rfl (λh2=>?_) (λh2=>?_)
  have ey:=gh (ps:=t.ak) (i:=gg) om
  obtain⟨b1,eX,pa,pn,pc,rfl,jk,eP,fM⟩:=iJ aP ey
  subst eP
  have yd:=cm.nth (i:=gg) om
  have mY:=kY (t:=t) (i:=gg) om
  have ara:=RZ cm hk
  have arb:=RZ cm (k:=gg+1) om
  have Oh:=RW (ps:=t.ak) (k:=gg) om
  have yb:=congrArg List.length Oh
  rw[lA,lC] at yb
  refine WZ ?_
  have iR:=aj.refl [] w3
  refine WL ?_
  refine zL tF fg rfl (jk.ext hK) rfl<|dx fg rfl rfl rfl λw4 aO cg gQ=>?_
  have hK:=hK.grow;have hK:=hK.ext aO;have iR:=iR.grow;have iR:=iR.ext aO
  refine zA<|cJ fg rfl rfl rfl cg rfl λw5 aN cg ig=>?_
  have hK:=hK.aD aN sx;have iR:=iR.aD aN sx
  refine W ?_
  refine ix (λ_:Unit=>[(1,.pointer (some ⟨b,0,none⟩)),(2,.pointer (some ⟨w.heap.size,0,none⟩)),(5,.pointer (some ⟨w3.heap.size,0,none⟩)),(13,.slice (some ⟨b1,eX,none⟩) t.ak.length c),(14,.int .i64 (t.ak.length:Int)),(15,.int .i64 (gg:Int))]) (λ_ w'=>aj [] w0 w'∧Bd w0.heap.size b (l++pre (t.ak.take gg)++[if gg=0 then 40 else 32]) w'∧pq w0.heap.size b w w'∧w.heap.size<=w'.heap.size∧aJ w' w3.heap.size [str (nth t.ak gg).aw,.slice pa (nth t.ak gg).ak.length pc].toArray 65) ?_ ?_
  refine zc rfl (λh3=>?_) (λh3=>?_)
  have yf:gg=0:=by omega
  refine kH<|zm<|aA (Ps w0.heap.size b _ 40 de w5 (vW.ext iR) so (by have:=hK.size;omega)) ?_
  rintro _ w6 ⟨y0,ka⟩
  have dm:=ka.below.size
  refine W ?_
  exact⟨(),⟨rfl,rfl,rfl,rfl,rfl,rfl⟩,ka.aF hK,by rw[iP yf];exact y0,(hF.trans (pq.of iR (by have:=hF.below.size;omega))).trans ka,by have:=iR.size;omega,cg.others ka om de⟩
  have yf:¬gg=0:=by omega
  refine kH<|zm<|aA (Ps w0.heap.size b _ 32 de w5 (vW.ext iR) so (by have:=hK.size;omega)) ?_
  rintro _ w6 ⟨y0,ka⟩
  have dm:=ka.below.size
  refine W ?_
  exact⟨(),⟨rfl,rfl,rfl,rfl,rfl,rfl⟩,ka.aF hK,by rw[iN yf];exact y0,(hF.trans (pq.of iR (by have:=hF.below.size;omega))).trans ka,by have:=iR.size;omega,cg.others ka om de⟩
  intro gu w7 e7 hI
  clear hK vW hF cg iR
  obtain⟨hK,vW,hF,arc,cg⟩:=hI
  refine W ?_
  refine aA (ih (nth t.ak gg) om yd _ L w0 w7 b _ (kV fM) hK om vW so om) ?_
  rintro _ w8 ⟨rfl,y0,ka⟩
  have dm:=ka.below.size
  have hK:=ka.aF hK
  refine W ?_
  exact⟨gg+1,⟨rfl,rfl,rfl,rfl,rfl⟩,⟨hK,by rw[Oh];simpa using y0,hF.trans ka,om,om⟩,om⟩
  have fG:gg=t.ak.length:=by omega
  have wS:=RX cm om
  have mE:=congrArg List.length wS
  rw[lA] at mE
  subst fG
  refine W ?_
  refine aA (Ps w0.heap.size b _ 41 de w3 vW (by simp at mE⊢;omega) (by have:=hK.size;omega)) ?_
  rintro _ w4 ⟨y0,ka⟩
  refine W ?_
  exact⟨_,rfl,rfl,by rw[<-wS,<-List.append_assoc];exact y0,hF.trans ka⟩
end Go.Proofs.YtkcegcjelmmilaaGreatDoor
