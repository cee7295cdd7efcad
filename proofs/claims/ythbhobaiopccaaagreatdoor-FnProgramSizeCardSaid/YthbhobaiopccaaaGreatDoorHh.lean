/- Lemmas for the law FnProgramSize, no statement of their own: no conditions. -/
import Derived.Test.YthbhobaiopccaaaGreatDoorHg
set_option maxHeartbeats 4000000
set_option linter.unusedVariables false
set_option linter.unusedSimpArgs false
namespace Go.Proofs.YthbhobaiopccaaaGreatDoor
open Go
variable {e:Ex} {x:ai} {b k n:Nat} {E G L:List Nat} {w w' w1:World} {o:Bool} {m:Mk} {s:cD} {P:Pk}
theorem ahu (o:Option Ty):Uw o=eE o:=by cases o<;>rfl
theorem Vq {o:Option Ty} (h:eE o=[]):o=none:=by
 cases o with
 |none=>rfl
 |some T=>exact absurd h T.ne
theorem Vr {o:Option Ty} (h:eE o≠[]):∃T,o=some T:=by
 cases o with
 |none=>exact absurd rfl h
 |some T=>exact⟨T,rfl⟩
def rl (e:Ex) (Γ:Sc):List ai:=e.kids.map λx=>eE (bw x Γ)
theorem ahv {Γ:Sc} (ba:e.ok) (eJ:e.iv=false) (h1:e.head≠fW) (h2:e.head≠gF) (hΓ:xU Γ):
  ([]∈rl e Γ∧bw e Γ=none)∨∃Ts,rl e Γ=Ts.map Ty.text∧mc e.head Ts∧bw e Γ=kB e.head Ts∧∀T,T∈Ts->T.n<=16:=by
 cases e with
 |«at» s=>cases eJ
 |lt x a b=>exact absurd rfl h1
 |fn f x A B b=>exact absurd rfl h2
 |un h a=>
  show([]∈[eE (bw a Γ)]∧(bw a Γ).bind _=none)∨_
  cases ha:bw a Γ with
  |none=>exact .inl ⟨by simp[eE],rfl⟩
  |some A=>exact .inr ⟨[A],by simp[rl,Ex.kids,ha,eE],.inl ⟨ba.1,A,rfl⟩,by simp[bw,ha,Ex.head],by simpa using lv hΓ ha⟩
 |bi h a b=>
  show([]∈[eE (bw a Γ),eE (bw b Γ)]∧(bw a Γ).bind _=none)∨_
  cases ha:bw a Γ with
  |none=>exact .inl ⟨by simp[eE],rfl⟩
  |some A=>
   cases hb:bw b Γ with
   |none=>exact .inl ⟨by simp[eE],rfl⟩
   |some B=>exact .inr ⟨[A,B],by simp[rl,Ex.kids,ha,hb,eE],.inr (.inl ⟨ba.1,A,B,rfl⟩),by simp[bw,ha,hb,Ex.head],by intro T hT;simp at hT;rcases hT with rfl|rfl;exact lv hΓ ha;exact lv hΓ hb⟩
 |ite a b c=>
  show([]∈[eE (bw a Γ),eE (bw b Γ),eE (bw c Γ)]∧(bw a Γ).bind _=none)∨_
  cases ha:bw a Γ with
  |none=>exact .inl ⟨by simp[eE],rfl⟩
  |some A=>
   cases hb:bw b Γ with
   |none=>exact .inl ⟨by simp[eE],rfl⟩
   |some B=>
    cases hc:bw c Γ with
    |none=>exact .inl ⟨by simp[eE],rfl⟩
    |some C0=>exact .inr ⟨[A,B,C0],by simp[rl,Ex.kids,ha,hb,hc,eE],.inr (.inr ⟨rfl,A,B,C0,rfl⟩),by simp[bw,ha,hb,hc,Ex.head],by intro T hT;simp at hT;rcases hT with rfl|rfl|rfl;exact lv hΓ ha;exact lv hΓ hb;exact lv hΓ hc⟩
theorem Vs {f:ai} {A B:Ty} {Γ:Sc}:eE (bw (.fn f x A B e) Γ)=if(!decide (1+A.n+B.n<=16)||decide (eE (bw e (Γ++[(f,.op true A B),(x,A)]))≠B.text))=true then[] else(Ty.op true A B).text:=by
 show eE (if 1+A.n+B.n<=16 then(bw e (Γ++[(f,.op true A B),(x,A)])).bind λC=>if kA C B then some (.op true A B) else none else none)=_
 by_cases h:1+A.n+B.n<=16
 ·rw[iP h,dT h,Bool.not_true,Bool.false_or]
  cases hC:bw e (Γ++[(f,.op true A B),(x,A)]) with
  |none=>
   have hz:decide (eE none≠B.text)=true:=by simpa[eE] using λh:[]=B.text=>B.ne h.symm
   rw[iP hz];rfl
  |some C0=>
   show eE (if kA C0 B=true then some (.op true A B) else none)=_
   by_cases hq:C0.text=B.text
   ·rw[iP (show kA C0 B=true from dT hq),iN (by simp[eE,hq])];rfl
   ·rw[iN (show¬kA C0 B=true from by unfold kA;simpa using hq),iP (by simp[eE,hq])];rfl
 ·rw[iN h,dF h,iP sm];rfl
theorem ahw (e:Ex) (Γ:Sc):(rl e Γ).length<=3:=by
 rw[rl,List.length_map]
 cases e<;>simp[Ex.kids]
theorem ahx {Γ:Sc} (ba:e.ok) (eJ:e.iv=false) (h1:e.head≠fW) (h2:e.head≠gF) (hΓ:xU Γ) (v:Value) (L:List Nat) (w:World) (hv:bc L w v (rl e Γ)):
  bz Tryz.prog 198 [str e.head,v] w λr w'=>r=str (eE (bw e Γ))∧aj [] w w':=by
 rcases ahv ba eJ h1 h2 hΓ with⟨hn,hq⟩|⟨Ts,hk,hj,hq,hT⟩
 ·rw[hq];exact ahc e.head (rl e Γ) (by have:=ahw e Γ;omega) hn v L w hv
 ·rw[hq];exact ahp e.head Ts hj hT v L w (hk▸hv)
theorem ahy {Γ:Sc} (h:k<e.kids.length):(rl e Γ).take (k+1)=(rl e Γ).take k++[eE (bw (fL e k) Γ)]:=by
 rw[List.take_add_one]
 simp[rl,fL,gE h]
theorem Vt:∀(m:Nat) (e:Ex),e.n<=m->e.n<=1000->e.ok->∀(Γ:Sc),Γ.length+2*e.n<=100000->xU Γ->∀(v vn vt:Value) (L:List Nat) (w:World),(∀x,x∈L->x<w.heap.size)->bB L w v e.au->bc L w vn (Γ.map Prod.fst)->bc L w vt (Γ.map λp=>p.2.text)->
  bz Tryz.prog 159 [v,vn,vt] w λr w'=>r=str (eE (bw e Γ))∧aj [] w w':=by
 intro m
 induction m with
 |zero=>intro e h;have:=e.pos;omega
 |succ m ih=>
  intro e hm lD ba Γ hΓl hΓ v vn vt L w lh hv jJ dZ
  obtain⟨a,np,c,rfl,hn,aP⟩:=cU hv
  subst hn
  obtain⟨an,nn,cn,rfl,rN⟩:=dJ jJ
  obtain⟨ay,ny,Hm,rfl,Jl⟩:=dJ dZ
  have hK:=aj.refl [] w
  have fl:(Γ.map Prod.fst).length=Γ.length:=by simp
  have iy:(Γ.map λp=>p.2.text).length=Γ.length:=by simp
  have JB:=GP e
  refine bS [.tmp 6] 132 Tryz.func159 rfl abg rfl rfl ?_
  refine zr<|eH rfl λw1 aI cQ dk=>ie aI hK aP jJ dZ λhK aP jJ dZ=>?_
  refine W ?_
  refine zc rfl (λh1=>?_) (λh1=>?_)
  have aQ:∃x,e= .at x:=(by have ha:=(vD ba).1 h1;cases e<;>first|exact⟨_,rfl⟩|cases ha)
  obtain⟨x,rfl⟩:=aQ
  refine W ?_
  refine aA (vw _ _) ?_
  rintro _ _ ⟨rfl,rfl⟩
  refine aZ<|zc rfl (λh2=>?_) (λh2=>?_)
  have hq:bw (.at x) Γ=look Γ x:=iP h2
  refine W ?_
  refine aA (GN (Γ.map Prod.fst) (Γ.map λp=>p.2.text) om om x _ _ _ _ w1 jJ dZ) ?_
  rintro _ w2 ⟨rfl,az⟩
  have dm:=az.size
  have hK:=hK.ext az
  refine W ?_
  have yx:=Ux x Γ
  rw[<-fl] at yx
  exact⟨_,rfl,congrArg (λz=>str z) (by rw[hq,<-ahu];exact yx),hK⟩
  have hq:bw (.at x) Γ=some .i:=iN (λhh=>Bool.noConfusion (hh.symm.trans h2))
  refine W ?_
  exact⟨_,rfl,by rw[hq];rfl,hK⟩
  have eJ:e.iv=false:=(by cases hh:e.iv;rfl;exact absurd ((vD ba).2 hh) h1)
  obtain⟨GQ,ob,je,qz⟩:=Ex.ak eJ
  obtain⟨jn,Ew,Ey⟩:=GO ba eJ
  obtain⟨b0,vv,x6,ya,e0,ub,jV⟩:=eW aP jn
  cases e0
  have ub:=ub.cells
  refine WI ?_
  refine zi (i:=0) cz aL rfl rfl jn<|W ?_
  refine zc rfl (λh3=>?_) (λh3=>?_)
  obtain⟨nx,ea,eb,rfl⟩:=JI ba (je.symm.trans h3)
  have wY:(Ex.lt nx ea eb).n=2+ea.n+eb.n:=rfl
  have JM:(Ex.lt nx ea eb).au.ak.length=4:=rfl
  obtain⟨b1,eX,gA,gm,e1,bK,cI⟩:=eW aP (i:=1) om
  cases e1
  obtain⟨b2,lG,iA,iw,e2,bU,dI⟩:=eW aP (i:=2) om
  cases e2
  have dI:bB L _ _ ea.au:=dI
  obtain⟨b3,AW,pP,pQ,e3,dO,dY⟩:=eW aP (i:=3) om
  cases e3
  have dY:bB L _ _ eb.au:=dY
  refine WI ?_
  refine zi (i:=2) cz aL rfl rfl ((show 2<4 from om))<|W ?_
  refine aA (ih ea om om ba.2.1 Γ om hΓ _ _ _ L w1 (λx hx=>lL (lh x hx) hK.size) dI jJ dZ) ?_
  rintro _ w2 ⟨rfl,az⟩
  have dm:=az.size
  refine I4 az hK jJ dZ cQ bK dO dY λhK jJ dZ cQ bK dO dY=>?_
  refine W ?_
  refine zc rfl (λh4=>?_) (λh4=>?_)
  have hz:bw ea Γ=none:=Vq h4
  have hq:bw (.lt nx ea eb) Γ=none:=(show(bw ea Γ).bind _=none from by rw[hz];rfl)
  refine W ?_
  exact⟨_,rfl,by rw[hq];rfl,hK⟩
  obtain⟨A,hA⟩:=Vr h4
  have hq:bw (.lt nx ea eb) Γ=bw eb (Γ++[(nx,A)]):=(show(bw ea Γ).bind _=_ from by rw[hA];rfl)
  have hGA:=F6 (x:=nx) hΓ (lv hΓ hA)
  have hAt:eE (bw ea Γ)=A.text:=by rw[hA];rfl
  refine WZ ?_
  apply uZ dj 18 (rA 41 17++[6]) (rA 41 17++[6]) [[],[0],[1],[2],[],[],[5],[6],[7],[8],[9],[4,10],[],[],[13],[12,14],[3,11,15],[16]] [It.v _,It.v _,It.v _,It.v _,It.v _,It.v _,It.v _,It.v _,It.v _,It.v _,It.p (fun(v:Value) (ww:World)=>bc L ww v [nx]),It.p (fun(v:Value) (ww:World)=>bc L ww v (Γ.map Prod.fst++[nx])),It.v _,It.v _,It.p (fun(v:Value) (ww:World)=>bc L ww v [eE (bw ea Γ)]),It.p (fun(v:Value) (ww:World)=>bc L ww v ((Γ.map λp=>p.2.text)++[eE (bw ea Γ)])),It.v _,It.v _] de (by exact⟨λv w w' h k=>bc.ext h k,λv w w' h k=>bc.ext h k,λv w w' h k=>bc.ext h k,λv w w' h k=>bc.ext h k,trivial⟩)
  intro wd aC
  refine VA ?_
  refine vk aC (λx w3 aH=>?_) ?_
  refine zi (i:=3) cz aL rfl rfl ((show 3<4 from om)) ?_
  exact pv
  refine VA ?_
  refine vk aC (λx w3 aH=>?_) ?_
  refine zi (i:=1) cz aL rfl rfl ((show 1<4 from om)) ?_
  exact pv
  refine VA ?_
  refine vk aC (λx w3 aH=>?_) ?_
  have hK:=hK.ext aH
  refine fc bh bf rfl rfl ?_
  intro w4 aO Ob gQ
  have hK:=hK.ext aO
  exact pf aO ((aJ.dK [nx] Ob (λhx=>by have:=lh _ hx;have:=hK.size;have:=aH.size;omega)))
  refine vk aC (λx w3 aH=>?_) ?_
  refine bI aH hK jJ λhK jJ=>?_
  intro v10 d10
  refine aA (tY (Γ.map Prod.fst) [nx] so _ _ L w3 jJ d10 (λx hx=>lL (lh x hx) hK.size)) ?_
  rintro v4 w4 ⟨jT,aO⟩
  have fE:=aO.size
  have jA:=jT
  exact pf aO jA
  refine VA ?_
  refine vk aC (λx w3 aH=>?_) ?_
  have hK:=hK.ext aH
  refine fc bh bf rfl rfl λw4 aO Cx gQ=>?_
  have hK:=hK.ext aO
  exact pf aO ((aJ.dK [eE (bw ea Γ)] Cx (λhx=>by have:=lh _ hx;have:=hK.size;have:=aH.size;omega)))
  refine vk aC (λx w3 aH=>?_) ?_
  refine bI aH hK dZ λhK dZ=>?_
  intro l8 d14
  refine aA (tY (Γ.map λp=>p.2.text) [eE (bw ea Γ)] so (.slice ay ny Hm) _ L w3 dZ d14 (λx hx=>lL (lh x hx) hK.size)) ?_
  rintro v4 w4 ⟨jT,aO⟩
  have fE:=aO.size
  have jA:=jT
  exact pf aO jA
  refine vk aC (λx w3 aH=>?_) ?_
  refine bI aH hK dY λhK dY=>?_
  intro v11 d11
  intro A1 d15
  refine aA (ih eb om om ba.2.2 (Γ++[(nx,A)]) so hGA _ _ _ L w3 (λx hx=>lL (lh x hx) hK.size) dY (show bc L _ _ ((Γ++_).map _) from by rw[List.map_append];exact d11) (show bc L _ _ ((Γ++[(nx,A)]).map _) from by rw[List.map_append,List.map_singleton,<-hAt];exact d15)) ?_
  rintro _ w4 ⟨rfl,aO⟩
  have fE:=aO.size
  exact pk aO
  exact VZ
  intro x qx CT
  intro v10 d10
  intro v11 d11
  intro l8 d14
  intro A1 d15
  have hK:=hK.ext CT
  change OW _ _ _ _ [] (bo (bj _ x _) (zZ 41 [_,_,_,_,_,_,_,_,_,_,_,_,_,_,_,_,_]++[(6,_)])) _
  refine W ?_
  exact⟨_,rfl,congrArg (λz=>str (eE z)) hq.symm,hK⟩
  have oF:e.head≠fW:=λhh=>h3 (je.trans hh)
  refine W ?_
  refine zc rfl (λh5=>?_) (λh5=>?_)
  obtain⟨nf,nx,tA,tB,eb,rfl⟩:=JJ ba (je.symm.trans h5)
  have wY:(Ex.fn nf nx tA tB eb).n=3+tA.n+tB.n+eb.n:=rfl
  have JR:(Ex.fn nf nx tA tB eb).au.ak.length=6:=rfl
  obtain⟨b1,eX,gA,gm,e1,bK,cI⟩:=eW aP (i:=1) om
  cases e1
  obtain⟨b2,lG,iA,iw,e2,bU,dI⟩:=eW aP (i:=2) om
  cases e2
  obtain⟨b3,AW,pP,pQ,e3,dO,dY⟩:=eW aP (i:=3) om
  cases e3
  have dY:bB L _ _ tA.au:=dY
  obtain⟨b4,ahB,Nj,Nk,e4,jx,pR⟩:=eW aP (i:=4) om
  cases e4
  have pR:bB L _ _ tB.au:=pR
  obtain⟨b5,ahC,ET,EU,e5,j9,mP⟩:=eW aP (i:=5) om
  cases e5
  have mP:bB L _ _ eb.au:=mP
  have hAz:=tA.size
  have hBz:=tB.size
  have Ng:=tA.len
  have Nh:=tB.len
  refine WI ?_
  refine zi (i:=3) cz aL rfl rfl ((show 3<6 from om))<|W ?_
  refine aA (tT tA.au.size tA.au (lR _) tA.lu.wf om (show tA.text.length<=100000000 from om) _ _ w1 dY) ?_
  rintro _ w2 ⟨rfl,az⟩
  have dm:=az.size
  refine aeg az hK jJ dZ cQ bK bU jx j9 pR λhK jJ dZ cQ bK bU jx j9 pR=>?_
  have mP:=mP.ext az
  refine WI ?_
  refine zi (i:=4) cz aL rfl rfl ((show 4<6 from om))<|W ?_
  refine aA (tT tB.au.size tB.au (lR _) tB.lu.wf om (show tB.text.length<=100000000 from om) _ _ w2 pR) ?_
  rintro _ w3 ⟨rfl,aH⟩
  have fm:=aH.size
  refine Cd aH hK jJ dZ cQ bK bU j9 mP λhK jJ dZ cQ bK bU j9 mP=>?_
  refine W ?_
  refine aA (Uk true tA tB ba.2.2.2.1 ba.2.2.2.2.1 w3) ?_
  rintro _ w4 ⟨rfl,aO⟩
  have fE:=aO.size
  refine Cd aO hK jJ dZ cQ bK bU j9 mP λhK jJ dZ cQ bK bU j9 mP=>?_
  have Vu:∀x,x∈L->x<w4.heap.size:=(λx hx=>lL (lh x hx) hK.size)
  refine W ?_
  refine ix (λ_:Unit=>[(10,str (if 1+tA.n+tB.n<=16 then(Ty.op true tA tB).text else[])),(104,.bool (!decide (1+tA.n+tB.n<=16)||decide (eE (bw eb (Γ++[(nf,.op true tA tB),(nx,tA)]))≠tB.text)))]) (λ_ w'=>aj [] w w'∧aj [] w4 w') ?_ ?_
  rcases Classical.em (1+tA.n+tB.n<=16) with kM|kM
  apply uZ dj 29 (rA 76 29) (rA 76 29) [[],[0],[1],[2],[2,3],[2,4],[2,5],[2],[2],[2,8],[2,9],[2,10],[2,11],[2],[2,13],[2,14],[2,15],[2,16],[2,12,17],[2,7,18],[2],[2],[2],[2,21,22],[2,20,23],[2,6,19,24],[2],[2,25,26],[2,27]] [It.v _,It.v _,It.v (.bool false),It.v _,It.v _,It.v _,It.v _,It.v _,It.v _,It.v _,It.v _,It.v _,It.v _,It.v _,It.v _,It.v _,It.v _,It.v _,It.p (fun(v:Value) (ww:World)=>bc L ww v [nf,nx]),It.p (fun(v:Value) (ww:World)=>bc L ww v (Γ.map Prod.fst++[nf,nx])),It.v _,It.v _,It.v _,It.p (fun(v:Value) (ww:World)=>bc L ww v [(if 1+tA.n+tB.n<=16 then(Ty.op true tA tB).text else[]),tA.text]),It.p (fun(v:Value) (ww:World)=>bc L ww v ((Γ.map λp=>p.2.text)++[(if 1+tA.n+tB.n<=16 then(Ty.op true tA tB).text else[]),tA.text])),It.v _,It.v _,It.v _,It.v _] de (by exact⟨λv w w' h k=>bc.ext h k,λv w w' h k=>bc.ext h k,λv w w' h k=>bc.ext h k,λv w w' h k=>bc.ext h k,trivial⟩)
  intro wd aC
  refine VA ?_
  refine vc (λx w5 aN=>?_) ?_
  refine WZ ?_
  exact pv (by exact congrArg Value.bool (show(!decide (1+tA.n+tB.n<=16))=false from by rw[dT kM];rfl))
  refine VA ?_
  refine vk aC (λx w5 aN=>?_) ?_
  refine zi (i:=5) cz aL rfl rfl ((show 5<6 from om)) ?_
  exact pv
  refine VA ?_
  refine vk aC (λx w5 aN=>?_) ?_
  refine zi (i:=1) cz aL rfl rfl ((show 1<6 from om)) ?_
  exact pv
  refine VA ?_
  refine vk aC (λx w5 aN=>?_) ?_
  refine zi (i:=2) cz aL rfl rfl ((show 2<6 from om)) ?_
  exact pv
  refine VA ?_
  refine vk aC (λx w5 aN=>?_) ?_
  refine kJ bh bf rfl rfl rfl rfl ?_
  intro w6 bN ahD kI
  exact pf bN ((aJ.dK [nf,nx] ahD (λhx=>by have:=Vu _ hx;have:=aN.size;omega)))
  refine vk aC (λx w5 aN=>?_) ?_
  refine bI aN hK jJ λhK jJ=>?_
  intro xl d18
  refine aA (tY (Γ.map Prod.fst) [nf,nx] so (.slice an nn cn) _ L w5 jJ d18 (λx hx=>lL (lh x hx) hK.size)) ?_
  rintro v6 w6 ⟨CU,bN⟩
  have oo:=bN.size
  have jA:=CU
  exact pf bN jA
  refine VA ?_
  refine vk aC (λx w5 aN=>?_) ?_
  refine kJ bh bf rfl rfl rfl rfl λw6 bN Oc kI=>?_
  exact pf bN ((aJ.dK [(if 1+tA.n+tB.n<=16 then(Ty.op true tA tB).text else[]),tA.text] Oc (λhx=>by have:=Vu _ hx;have:=aN.size;omega)))
  refine vk aC (λx w5 aN=>?_) ?_
  refine bI aN hK dZ λhK dZ=>?_
  intro U8 d23
  refine aA (tY (Γ.map λp=>p.2.text) [(if 1+tA.n+tB.n<=16 then(Ty.op true tA tB).text else[]),tA.text] so (.slice ay ny Hm) _ L w5 dZ d23 (λx hx=>lL (lh x hx) hK.size)) ?_
  rintro v6 w6 ⟨CU,bN⟩
  have oo:=bN.size
  have jA:=CU
  exact pf bN jA
  refine vk aC (λx w5 aN=>?_) ?_
  refine bI aN hK mP λhK mP=>?_
  intro Kd d19
  intro v24 d24
  refine aA (ih eb om om ba.2.2.2.2.2 (Γ++[(nf,.op true tA tB),(nx,tA)]) so (by have:=F6 (x:=nx) (F6 (x:=nf) hΓ (T:=.op true tA tB) (show 1+tA.n+tB.n<=16 from kM)) ba.2.2.2.1;simpa using this) _ _ _ L w5 (λx hx=>lL (lh x hx) hK.size) mP (show bc L _ _ (List.map _ (Γ++[(nf,.op true tA tB),(nx,tA)])) from by rw[List.map_append];exact d19) (show bc L _ _ (List.map _ (Γ++[(nf,.op true tA tB),(nx,tA)])) from by rw[iP kM] at d24;rw[List.map_append];exact d24)) ?_
  rintro _ w6 ⟨rfl,bN⟩
  have oo:=bN.size
  exact pk bN
  refine vc (λ_ _ _=>WZ pv) ?_
  refine vk aC (λx w5 aN=>?_) ?_
  refine WZ ?_
  exact pv
  refine vc (λ_ _ _=>WZ pv) ?_
  exact trivial
  intro x o6 iX
  intro xl d18
  intro Kd d19
  intro U8 d23
  intro v24 d24
  have hK:=hK.ext iX
  change OW _ _ _ _ [] (bo (bj _ x _) (zZ 76 [_,_,_,_,_,_,_,_,_,_,_,_,_,_,_,_,_,_,_,_,_,_,_,_,_,_,_,_,_])) _
  refine W ?_
  exact⟨(),⟨rfl,congrArg Value.bool (show decide (eE (bw eb (Γ++[(nf,.op true tA tB),(nx,tA)]))≠tB.text)=_ from by rw[dT kM];rfl)⟩,hK,iX⟩
  apply k8 dj 29 (rA 76 29) (rA 76 29) [[],[0],[1],[2],[2,3],[2,4],[2,5],[2],[2],[2,8],[2,9],[2,10],[2,11],[2],[2,13],[2,14],[2,15],[2,16],[2,12,17],[2,7,18],[2],[2],[2],[2,21,22],[2,20,23],[2,6,19,24],[2],[2,25,26],[2,27]] [It.v _,It.v _,It.v (.bool true),It.v _,It.v _,It.v _,It.v _,It.v _,It.v _,It.v _,It.v _,It.v _,It.v _,It.v _,It.v _,It.v _,It.v _,It.v _,It.v _,It.v _,It.v _,It.v _,It.v _,It.v _,It.v _,It.v _,It.v _,It.v _,It.v _] de rfl
  intro wd aC
  refine VA ?_
  refine vc (λx w5 aN=>?_) ?_
  refine WZ ?_
  exact pv (by exact congrArg Value.bool (show(!decide (1+tA.n+tB.n<=16))=true from by rw[dF kM];rfl))
  refine vc (λx w5 aN=>?_) ?_
  exact cF pv
  refine vk aC (λx w5 aN=>?_) ?_
  exact cF pv
  refine vk aC (λx w5 aN=>?_) ?_
  exact cF pv
  refine vk aC (λx w5 aN=>?_) ?_
  exact cF pv
  refine vc (λx w5 aN=>?_) ?_
  exact cF pv
  refine vc (λx w5 aN=>?_) ?_
  exact cF pv
  refine vk aC (λx w5 aN=>?_) ?_
  exact cF pv
  refine vk aC (λx w5 aN=>?_) ?_
  exact cF pv
  refine vc (λx w5 aN=>?_) ?_
  exact cF pv
  refine vk aC (λx w5 aN=>?_) ?_
  exact cF pv
  refine vc (λx w5 aN=>?_) ?_
  exact cF pv
  refine vk aC (λx w5 aN=>?_) ?_
  exact cF pv
  refine vk aC (λx w5 aN=>?_) ?_
  exact cF pv
  refine vc (λx w5 aN=>?_) ?_
  exact cF pv
  refine vk aC (λx w5 aN=>?_) ?_
  exact cF pv
  refine vk aC (λx w5 aN=>?_) ?_
  exact cF pv
  refine vk aC (λx w5 aN=>?_) ?_
  exact cF pv
  refine vc (λx w5 aN=>?_) ?_
  exact cF pv
  refine vc (λx w5 aN=>?_) ?_
  exact cF pv
  refine vc (λx w5 aN=>?_) ?_
  exact cF pv
  refine vk aC (λx w5 aN=>?_) ?_
  exact cF pv
  refine vk aC (λx w5 aN=>?_) ?_
  exact cF pv
  refine vk aC (λx w5 aN=>?_) ?_
  exact cF pv
  refine vc (λx w5 aN=>?_) ?_
  exact cF pv
  refine vk aC (λx w5 aN=>?_) ?_
  exact cF pv
  refine vc (λ_ _ _=>WZ pv) ?_
  exact trivial
  intro x o6 iX
  have hK:=hK.ext iX
  change OW _ _ _ _ [] (bo (bj _ x _) (zZ 76 [_,_,_,_,_,_,_,_,_,_,_,_,_,_,_,_,_,_,_,_,_,_,_,_,_,_,_,_,_])) _
  refine W ?_
  exact⟨(),⟨rfl,congrArg Value.bool (show true=_ from by rw[dF kM];rfl)⟩,hK,iX⟩
  intro gu qw e45 hI
  obtain⟨hK,aB⟩:=hI
  refine zc rfl (λh6=>?_) (λh6=>?_)
  have hq:=(Vs (f:=nf) (x:=nx) (A:=tA) (B:=tB) (e:=eb) (Γ:=Γ)).trans (iP h6)
  refine W ?_
  exact⟨_,rfl,congrArg (λz=>str z) hq.symm,hK⟩
  have hq:=(Vs (f:=nf) (x:=nx) (A:=tA) (B:=tB) (e:=eb) (Γ:=Γ)).trans (iN (by rw[h6];simp))
  have h16:1+tA.n+tB.n<=16:=(by simp at h6;exact h6.1)
  refine W ?_
  exact⟨_,rfl,congrArg (λz=>str z) ((iP h16).trans hq.symm),hK⟩
  have ri:e.head≠gF:=λhh=>h5 (je.trans hh)
  have NU:=cQ
  have mG:=hK
  have ahG:=aP
  have ahH:=jJ
  have ahI:=dZ
  have ahJ:=ub
  have hky:(rl e Γ).length=e.kids.length:=by simp[rl]
  refine gY<|zr<|fQ bh bf λw2 az ahL dC=>tS az hK aP jJ dZ cQ ub λhK aP jJ dZ cQ ub=>?_
  refine W ?_
  refine eA (λq:Nat×Value×Option Nat=>[(1,.slice an nn cn),(2,.slice ay ny Hm),(3,.pointer (some ⟨w.heap.size,0,none⟩)),(12,q.2.1),(13,.int .i64 ((e.from+q.1:Nat):Int))]) (λq ww=>aj [] w1 ww∧cG ww 9 q.2.1 q.2.2 ((rl e Γ).take q.1)∧(∀x,x∈q.2.2.toList->w1.heap.size<=x)∧q.1<=e.kids.length) (λq=>e.kids.length-q.1) ((0,.slice (some ⟨w1.heap.size,0,none⟩) 0 0,some w1.heap.size)) (⟨rfl,rfl,rfl,rfl,by rw[Vg eJ oF ri];rfl⟩) (⟨az,by simpa using ahL.kK,sm,sm⟩) λgg w3 e3 hI=>?_
  obtain⟨k,vl,gl⟩:=gg
  dsimp only at hI⊢
  obtain⟨da,hO,fG,hk⟩:=hI
  have hK:=mG.ext da
  have aP:=ahG.ext da
  have jJ:=ahH.ext da
  have dZ:=ahI.ext da
  have cQ:=NU.ext da
  have ub:=ahJ.ext da
  refine W ?_
  refine zc rfl (λh7=>?_) (λh7=>?_)
  have gL:k<e.kids.length:=om
  have qo:=qz k gL
  obtain⟨b1,eX,gA,gm,e1,bK,cI⟩:=eW aP (i:=e.from+k) om
  cases e1
  have cI:=cI.eq qo
  have tZ:=F5 ba gL
  have BI:=yv gL
  have hkN:=Cw e (k+1)
  have aR:=ahy (Γ:=Γ) gL
  refine W ?_
  refine aA (ih (fL e k) om om tZ.1 Γ om hΓ _ (.slice an nn cn) (.slice ay ny Hm) L w3 (λx hx=>lL (lh x hx) hK.size) cI jJ dZ) ?_
  rintro _ w4 ⟨rfl,aO⟩
  have fE:=aO.size
  refine cN aO hK hO da λhK hO da=>?_
  refine fc bh bf rfl rfl λw5 aN ahM ig=>cN aN hK hO da λhK hO da=>?_
  refine rV bh bf rfl rfl rfl rfl rfl rfl hO ahM (by rw[List.length_take];omega) λv9 g9 w6 cZ aB eZ=>?_
  rw[<-aR] at cZ
  have A5:=da.size
  have da:=da.since aB (λx hx=>.inr (fG x hx))
  have hK:=mG.ext da
  have ahN:∀x,x∈g9.toList->w1.heap.size<=x:=(λx hx=>by rcases eZ with h|h;(·exact fG x (h▸hx));(·rw[h] at hx;simp at hx;omega))
  refine W ?_
  exact⟨(k+1,v9,g9),⟨rfl,rfl,rfl,rfl,congrArg (Value.int .i64) om⟩,⟨da,cZ,ahN,om⟩,by simp;omega⟩
  have ahO:k=e.kids.length:=by omega
  subst ahO
  rw[List.take_of_length_le (by rw[hky];exact lR _)] at hO
  refine WI ?_
  refine zi (i:=0) cz aL rfl rfl jn<|W ?_
  refine aA ((je▸ahx ba eJ oF ri hΓ _ _ w3 hO.rs)) ?_
  rintro _ w4 ⟨rfl,aO⟩
  have fE:=aO.size
  have hK:=hK.ext aO
  refine zA<|aZ<|jZ ?_
  exact⟨_,rfl,rfl,hK⟩
def CV (s x:ai):Prop:=(l5 s=false->x=[])∧∀e:Ex,bA s=some e.au->e.ok->e.n<=120->x=eE (bw e [])
theorem Vv {s y:ai} (hx:CV s x) (hy:CV s y):x=y:=by
 cases h:l5 s with
 |false=>rw[hx.1 h,hy.1 h]
 |true=>
  obtain⟨e,he,ba,hn⟩:=wV.1 h
  rw[hx.2 e he ba hn,hy.2 e he ba hn]
theorem ahP (h:cH e [] []≠[]):bw e []=none:=by
 cases ht:bw e [] with
 |none=>rfl
 |some T=>
  exfalso
  cases hf:cH e [] [] with
  |nil=>exact h hf
  |cons y ys=>
   have hy:y∈cH e [] []:=by rw[hf];simp
   rcases(B3 y e [] []).1 hy with h1|⟨h1,_⟩
   ·cases h1
   ·have:=pG ht h1;simp[look] at this
theorem Vw (s:ai) (w:World):bz Tryz.prog 130 [str s] w λr w'=>(∃x,r=str x∧CV s x)∧aj [] w w':=by
 have hK:=aj.refl [] w
 refine bS [.tmp 2] 21 Tryz.func130 rfl aaT rfl rfl ?_
 refine W ?_
 refine aA (GM s [] w sm) ?_
 rintro v1 w1 ⟨fY,aI⟩
 have cV:=aI.size
 have hK:=hK.ext aI
 obtain⟨t,tv,rfl,ht,hp⟩:=fY
 obtain⟨pa,pn,pc,rfl,eP,aP⟩:=cU ht
 refine W ?_
 refine dy aL rfl rfl rfl λw2 az cQ dC=>?_
 have hK:=hK.grow;have hK:=hK.ext az;have ht:=ht.grow;have ht:=ht.ext az
 refine cJ aL rfl rfl rfl cQ rfl λw3 aH cQ gJ=>?_
 have hK:=hK.aD aH sx;have ht:=ht.aD aH sx
 refine W ?_
 refine xM (t:=12) rfl (λh1=>?_) (λh1=>?_)
 replace h1:=jk h1
 have hx:l5 s=false:=by simpa using h1
 refine W ?_
 refine zc rfl (λh2=>?_) (λh2=>?_)
 refine W ?_
 exact⟨_,rfl,⟨[],rfl,λ_=>rfl,λe h1 h2 h3=>by rw[wV.2 ⟨e,h1,h2,h3⟩] at hx;cases hx⟩,hK⟩
 simp at h2
 replace h1:=jk h1
 have hx:l5 s=true:=by simpa using h1
 obtain⟨e,he,ba,hn⟩:=wV.1 hx
 have e2:=hp.1 _ he
 subst e2
 have ER:∀{e':Ex},bA s=some e'.au->e'.ok->e'=e:=(λh1 h2=>qA h2 ba (Option.some.inj (h1.symm.trans he)))
 refine zm<|aA (afL s w3) ?_
 rintro v4 w4 ⟨jT,aO⟩
 have fE:=aO.size
 refine cN aO hK ht cQ λhK ht cQ=>?_
 obtain⟨b9,rfl,cW⟩:=jT
 refine W ?_
 refine zc rfl (λh3=>?_) (λh3=>?_)
 have jn:b9=false:=(by simpa using h3)
 have ml:cH e [] []≠[]:=(λh=>by have:=cW.2 ⟨e,he,ba,hn,h⟩;rw[jn] at this;cases this)
 refine W ?_
 exact⟨_,rfl,⟨[],rfl,λh=>rfl,λe' h1 h2 h3=>by rw[ER h1 h2,ahP ml];rfl⟩,hK⟩
 refine W ?_
 refine fQ bh bf λw5 aN jW ig=>bI aN hK ht λhK ht=>?_
 refine fQ bh bf λw6 bN CS kI=>bI bN hK ht λhK ht=>?_
 refine aA (Vt 120 e hn om ba [] so (λs T h=>by simp[look] at h) _ _ _ [] w6 sm (ht.gP sm) (bQ.nil _ _ _) (bQ.nil _ _ _)) ?_
 rintro _ w7 ⟨rfl,bW⟩
 have lf:=bW.size
 have hK:=hK.ext bW
 refine W ?_
 have hcy:CV s (eE (bw e [])):=⟨(λh=>by rw[hx] at h;cases h),λe' h1 h2 h3=>by rw[ER h1 h2]⟩
 exact⟨_,rfl,⟨_,rfl,hcy⟩,hK⟩
theorem ahR (s:ai) (w:World):bz Tryz.prog 127 [str s] w λr w'=>(∃b,r= .bool b∧∀x,CV s x->b=decide (x≠[]))∧aj [] w w':=by
 have hK:=aj.refl [] w
 refine bS [.tmp 2] 6 Tryz.func127 rfl aaQ rfl rfl ?_
 refine W ?_
 refine aA (Vw s w) ?_
 rintro v1 w1 ⟨fY,aI⟩
 have cV:=aI.size
 have hK:=hK.ext aI
 obtain⟨x,rfl,hx⟩:=fY
 refine W ?_
 exact⟨_,rfl,⟨_,rfl,λy hy=>by rw[Vv hx hy]⟩,hK⟩
theorem Hn (s:ai) (hs:s.length<=1000000) (w:World):bz Tryz.prog 185 [str s] w λr w'=>r=str (dz s)∧aj [] w w':=by
 have hK:=aj.refl [] w
 refine bS [.tmp 2] 6 Tryz.func185 rfl abA rfl rfl ?_
 refine W ?_
 exact⟨_,rfl,rfl,hK⟩
theorem ahS:∀(m:Nat) (T:Ty),T.n<=m->T.n<=60->∀(v:Value) (L:List Nat) (w:World),bB L w v T.au->bz Tryz.prog 193 [v] w λr w'=>r=str (bu T)∧aj [] w w':=by
 intro m
 induction m with
 |zero=>intro T h;have:=T.pos;omega
 |succ m ih=>
  intro T hm lD v L w hv
  obtain⟨a,np,c,rfl,hn,aP⟩:=cU hv
  subst hn
  have hK:=aj.refl [] w
  refine bS [.tmp 2] 37 Tryz.func193 rfl abI rfl rfl ?_
  refine zr<|eH rfl λw1 aI aX dk=>bI aI hK aP λhK aP=>?_
  refine W ?_
  refine zc rfl (λh1=>?_) (λh1=>?_)
  have hi:T= .i:=(by cases T with|i=>rfl|op g a b=>exact absurd rfl h1)
  refine W ?_
  exact⟨_,rfl,congrArg (λz=>str z) (by rw[hi,Sw]),hK⟩
  have aQ:∃g A B,T= .op g A B:=(by cases T with|i=>exact absurd h1 de|op g a b=>exact⟨g,a,b,rfl⟩)
  obtain⟨g,A,B,rfl⟩:=aQ
  have wY:(Ty.op g A B).n=1+A.n+B.n:=rfl
  have Od:(Ty.op g A B).au.ak.length=3:=rfl
  obtain⟨b0,vv,x6,ya,e0,et,hT0⟩:=eW aP (i:=0) om
  cases e0
  have et:fy L _ _ _ [str (jO g),_]:=et
  obtain⟨b1,eX,gA,gm,e1,bK,cI⟩:=eW aP (i:=1) om
  cases e1
  have cI:bB L _ _ A.au:=cI
  obtain⟨b2,lG,iA,iw,e2,bU,dI⟩:=eW aP (i:=2) om
  cases e2
  have dI:bB L _ _ B.au:=dI
  have Ng:=B4 A
  have Nh:=B4 B
  have U6:=Ms (bu B)
  refine WI ?_
  refine zi (i:=1) cz aL rfl rfl ((show 1<3 from om))<|W ?_
  refine aA (ih A om om _ L w1 cI) ?_
  rintro _ w2 ⟨rfl,az⟩
  have dm:=az.size
  refine la az hK aX et bU dI λhK aX et bU dI=>?_
  refine WI ?_
  refine zi (i:=2) cz aL rfl rfl ((show 2<3 from om))<|W ?_
  refine aA (ih B om om _ L w2 dI) ?_
  rintro _ w3 ⟨rfl,aH⟩
  have fm:=aH.size
  refine cN aH hK aX et λhK aX et=>?_
  refine WI ?_
  refine zi (i:=0) cz aL rfl rfl ((show 0<3 from om))<|W ?_
  refine zc rfl (λh2=>?_) (λh2=>?_)
  have hg:g=false:=(by cases g with|false=>rfl|true=>exact absurd h2 de)
  refine W ?_
  exact⟨_,rfl,congrArg (λz=>str z) (by rw[hg,Sx]),hK⟩
  have hg:g=true:=(by cases g with|true=>rfl|false=>exact absurd rfl h2)
  refine W ?_
  refine aA (Hn (bu B) om w3) ?_
  rintro _ w4 ⟨rfl,aO⟩
  have fE:=aO.size
  have hK:=hK.ext aO
  refine W ?_
  exact⟨_,rfl,congrArg (λz=>str z) (by rw[hg,Sy]),hK⟩
theorem vK (T:Ty) (hT:T.n<=60) (w:World):bz Tryz.prog 156 [str T.text] w λr w'=>r=str (bu T)∧aj [] w w':=by
 have hK:=aj.refl [] w
 refine bS [.tmp 2] 12 Tryz.func156 rfl abd rfl rfl ?_
 refine W ?_
 refine aA (Jd T.text [] w sm) ?_
 rintro v1 w1 ⟨fY,aI⟩
 have cV:=aI.size
 have hK:=hK.ext aI
 obtain⟨t,tv,rfl,ht,hp⟩:=fY
 have e2:=hp.1 _ (Ty.bA hT)
 subst e2
 obtain⟨pa,pn,pc,rfl,eP,aP⟩:=cU ht
 refine W ?_
 refine dy aL rfl rfl rfl λw2 az cQ dC=>?_
 have hK:=hK.grow;have hK:=hK.ext az;have ht:=ht.grow;have ht:=ht.ext az
 refine cJ aL rfl rfl rfl cQ rfl λw3 aH cQ gJ=>?_
 have hK:=hK.aD aH sx;have ht:=ht.aD aH sx
 refine W ?_
 refine aA (ahS 60 T hT hT _ [] w3 (ht.gP sm)) ?_
 rintro _ w4 ⟨rfl,aO⟩
 have fE:=aO.size
 have hK:=hK.ext aO
 refine W ?_
 exact⟨_,rfl,rfl,hK⟩
theorem ahT (h:ai) (w:World):bz Tryz.prog 226 [str h] w λr w'=>r=str (qm h)∧aj [] w w':=by
 have hK:=aj.refl [] w
 refine bS [.tmp 2] 10 Tryz.func226 rfl ab2 rfl rfl ?_
 refine W ?_
 refine zc rfl (λh1=>?_) (λh1=>?_)
 have hq:qm h=[97,100,100]:=iP h1
 refine W ?_
 exact⟨_,rfl,congrArg (λz=>str z) hq.symm,hK⟩
 have h1:=h1
 refine W ?_
 refine zc rfl (λh2=>?_) (λh2=>?_)
 have hq:qm h=[115,117,98]:=(iN h1).trans (iP h2)
 refine W ?_
 exact⟨_,rfl,congrArg (λz=>str z) hq.symm,hK⟩
 have h2:=h2
 refine W ?_
 refine zc rfl (λh3=>?_) (λh3=>?_)
 have hq:qm h=[109,117,108]:=(iN h1).trans ((iN h2).trans (iP h3))
 refine W ?_
 exact⟨_,rfl,congrArg (λz=>str z) hq.symm,hK⟩
 have hq:qm h=lx:=(iN h1).trans ((iN h2).trans (iN h3))
 refine W ?_
 exact⟨_,rfl,congrArg (λz=>str z) hq.symm,hK⟩
def t8:sD:=⟨164,58,166,9⟩
theorem dG.open {τ:sD} (h:dG τ E L w b o m):∃vb vt vc vy gb gt gc gy,aJ w b [vb,vt,.int .i64 (m.count:Int),.bool m.wide,vc,vy].toArray τ.M∧gk τ E L w b o vb vt vc vy gb gt gc gy m:=h
structure dS (E L:List Nat) (w:World) (L':List Nat) (w':World):Prop where
 fr:Fr L w L' w'
 out:∃G,aj G w w'∧∀x,x∈G->x∉E
section
variable {E L L1 L2:List Nat} {w w1 w2:World}
theorem dS.refl (E L:List Nat) (w:World):dS E L w L w:=⟨Fr.refl _ _,[],aj.refl _ _,sm⟩
theorem dS.add (h:dS E L w L1 w1) (k:Fr L1 w1 L2 w2) (kg:aj G w1 w2) (hG:∀x,x∈G->x∉E):dS E L w L2 w2:=
 let⟨G0,k0,h0⟩:=h.out
 ⟨h.fr.go k,G0++G,(k0.mono λx hx=>List.mem_append_left _ hx).trans (kg.mono λx hx=>mR _ hx),λx hx=>(mA.1 hx).elim (h0 x) (hG x)⟩
theorem dS.go (h:dS E L w L1 w1) (k:dS E L1 w1 L2 w2):dS E L w L2 w2:=let⟨_,kg,hG⟩:=k.out;h.add k.fr kg hG
theorem dS.ext (h:dS E L w L1 w1) (k:aj [] w1 w2):dS E L w L1 w2:=h.add (Fr.of k sm) k sm
theorem dS.aD (h:dS E L w L1 w1) {x:Nat} (k:aj [x] w1 w2) (h1:x∈L1) (h2:x∉E):dS E L w L1 w2:=h.add (Fr.of k (by simpa using h1)) k (by simpa using h2)
theorem dS.tk (k:dS E L w L1 w1) {T:TypeId} {t:Tk} (h:gI L w T b t) (hb:b∈E):gI L1 w1 T b t:=let⟨_,kg,hG⟩:=k.out;h.go k.fr kg λhx=>hG b hx hb
end
theorem ahU (n:Nat) (hn:n<100000) (w:World):bz Tryz.prog 142 [.int .i64 ((n:Int)+1-1)] w λr w'=>r=str (aT n)∧aj [] w w':=by
 rw[Int.add_sub_cancel];exact ir (n+1) n om om w
theorem Oe (m:Mk) (hc:m.count<100000) (E L:List Nat) (b:Nat) (o:Bool) (w:World) (h:dG t8 E L w b o m):
  bz Tryz.prog 224 [.pointer (some ⟨b,0,none⟩)] w λr w'=>(r=str m.aM∧dG t8 E L w' b o m.k7)∧aj [b] w w':=by
 obtain⟨vb,vt,vc,vy,gb,gt,gc,gy,bg,hS⟩:=h.open
 have bg:aJ w b [vb,vt,.int .i64 (m.count:Int),.bool m.wide,vc,vy].toArray 164:=bg
 have hK:=aj.refl [b] w
 refine bS [.tmp 2] 18 Tryz.func224 rfl ab0 rfl rfl ?_
 refine W ?_
 refine gd (o:=2) oJ rfl rfl rfl bg rfl λw1 aI bg df=>?_
 have hS:=hS.aF aI sm
 have hK:=hK.trans aI
 refine W ?_
 refine aA ((ahU m.count hc w1)) ?_
 rintro _ w2 ⟨rfl,az⟩
 have dm:=az.size
 refine cN az hK bg hS λhK bg hS=>?_
 refine gV rfl rfl rfl rfl (by have:=Ej _ m.count (lR _);simp;omega)<|zA<|aZ<|jZ ?_
 exact⟨_,rfl,⟨rfl,⟨_,_,_,_,_,_,_,_,bg,hS.num (m.count+1) m.wide⟩⟩,hK⟩
theorem r7 (k:ai) (m:Mk) (hc:m.types.length<100000) (E L:List Nat) (b:Nat) (o:Bool) (w:World) (h:dG t8 E L w b o m):
  bz Tryz.prog 194 [.pointer (some ⟨b,0,none⟩),str k] w λr w'=>r= .int .i64 (m.types.length:Int)∧∃L',dG t8 E L' w' b o (m.cY k)∧dS E L w L' w':=by
 obtain⟨vb,vt,vc,vy,gb,gt,gc,gy,bg,hS⟩:=h.open
 have bg:aJ w b [vb,vt,.int .i64 (m.count:Int),.bool m.wide,vc,vy].toArray 164:=bg
 have hR:=dS.refl E L w
 refine bS [.tmp 4] 30 Tryz.func194 rfl abJ rfl rfl ?_
 refine W ?_
 refine fc bh bf rfl rfl λw1 aI iF dk=>cN aI hR bg hS λhR bg hS=>?_
 refine rV bh bf rfl rfl rfl rfl rfl rfl hS.ty iF om λv9 g9 w2 cZ az eZ=>?_
 obtain⟨a9,c9,e9⟩:=jR cZ
 subst e9
 obtain⟨yH,mV,vL,mf,vM,ui⟩:=hS.apart
 have rb:=hS.mem.2 (.inr (.inl rfl))
 obtain⟨L2,fB,jq⟩:=hS.Mu cZ az (λx hx=>eZ.imp (λh=>h.symm.trans hx) (λh=>by rw[h] at hx;cases hx;exact lR _))
 have bg:=bg.aF az (λh=>(ui b h).2.1 rfl)
 have hR:=hR.add jq az (λx hx=>(ui x hx).1)
 refine W ?_
 refine gd (o:=5) mu rfl rfl rfl bg rfl λw3 aH bg df=>?_
 have fB:=fB.aF aH sm
 have hR:=hR.aD aH (fB.mem.2 (.inr (.inl rfl))) mV
 refine W ?_
 refine ix (λ_:Unit=>[(0,.pointer (some ⟨b,0,none⟩))]) (λ_ w'=>aj [b] w3 w'∧aJ w' b [vb,vt,.int .i64 (m.count:Int),.bool (m.wide||decide (40<m.types.length+1)),vc,.slice a9 (m.types++[k]).length c9].toArray 164) ?_ ?_
 refine zc rfl (λh1=>?_) (λh1=>?_)
 have hd:decide (40<m.types.length+1)=true:=dT (by simp at h1;omega)
 refine W ?_
 refine gd (o:=3) DV rfl rfl rfl bg rfl λw4 aO bg df=>?_
 have Ho:=aO
 refine W ?_
 exact⟨(),rfl,Ho,by rw[hd,Bool.or_true];exact bg⟩
 have hd:decide (40<m.types.length+1)=false:=dF (by simp at h1;omega)
 refine WZ ?_
 exact⟨(),rfl,aj.refl _ _,by rw[hd,Bool.or_false];exact bg⟩
 intro gu w4 e4 hI
 obtain⟨Gv,bg⟩:=hI
 have fB:=fB.aF Gv sm
 have hR:=hR.aD Gv (fB.mem.2 (.inr (.inl rfl))) mV
 refine WA ?_
 refine xK rfl rfl rfl rfl rfl (wrap_i64 _ sx sx)<|zA<|aZ<|jZ ?_
 exact⟨_,rfl,congrArg (Value.int .i64) sm,L2,⟨_,_,_,_,_,_,_,_,bg,fB.num m.count (m.wide||decide (40<m.types.length+1))⟩,hR⟩
theorem gk.code {τ:sD} {vb vt vc vy:Value} {gb gt gc gy:Option Nat} (h:gk τ E L w b true vb vt vc vy gb gt gc gy m):cG w τ.S vc gc m.code:=by
 rcases h.co with⟨_,h⟩|⟨h,_⟩
 ·exact h
 ·cases h
theorem kG (hd:ai) (ps:List ai) (hl:(dR hd ps).length<=1000000) (m:Mk) (hc:m.code.length<100000) (E L:List Nat) (b:Nat) (v:Value) (w:World) (h:dG t8 E L w b true m) (hv:bc L w v ps):
  bz Tryz.prog 186 [.pointer (some ⟨b,0,none⟩),str hd,v] w λr w'=>∃L',dG t8 E L' w' b true (m.cA hd ps)∧dS E L w L' w':=by
 obtain⟨vb,vt,vc,vy,gb,gt,gc,gy,bg,hS⟩:=h.open
 have bg:aJ w b [vb,vt,.int .i64 (m.count:Int),.bool m.wide,vc,vy].toArray 164:=bg
 have hco:cG w 9 vc gc m.code:=by
  rcases hS.co with⟨_,h⟩|⟨h,_⟩
  ·exact h
  ·cases h
 obtain⟨yH,mV,vL,mf,vM,ui⟩:=hS.apart
 have CM:eO L w:=hS.cC
 refine bS [] 18 Tryz.func186 rfl abB rfl rfl ?_
 apply jF dj L 12 (rA 6 12) (rA 6 12) [[],[],[1],[2],[3],[],[],[5,6],[7],[4,8],[0],[10]] [Ie.v _,Ie.v _,Ie.v _,Ie.v _,Ie.w 0 vc,Ie.v _,Ie.v _,Ie.v _,Ie.p (fun(G:List Nat) (v:Value) (ww:World)=>∃bb,v= .slice (some ⟨bb,0,none⟩) 1 1∧dM G ww bb [str (dR hd ps)].toArray 9),Ie.e 1,Ie.v _,Ie.v _] [4,9] [fun(G:List Nat) (vs:List Value) (ww:World)=>G=L∧aj [] w ww,fun(G:List Nat) (vs:List Value) (ww:World)=>G=L∧aj [] w ww,fun(G:List Nat) (vs:List Value) (ww:World)=>∃g2,aj gc.toList w ww∧gk t8 E G ww b true vb vt (vs.getD 1 undef) vy gb gt g2 gy {m with code:=m.code++[dR hd ps]}∧Fr L w G ww] de rfl CM (by exact⟨λG v w G' w' ⟨bb,e,h⟩ k=>⟨bb,e,h.go k⟩,trivial⟩) (by exact⟨λG vs w w' ⟨h1,h2⟩ k=>⟨h1,h2.ext k⟩,λG vs w w' ⟨h1,h2⟩ k=>⟨h1,h2.ext k⟩,λG vs w w' ⟨g2,h1,h2,h3⟩ k=>⟨g2,h1.ext k,h2.ext k,h3.ext k⟩,trivial⟩) (⟨rfl,aj.refl _ _⟩)
 refine FA ?_
 refine ve 0 (λx w1 G1 aS ua r8 hJ hlen=>?_) ?_
 have aW:=jh hlen
 subst aW
 obtain⟨bO,bP⟩:=hJ
 have xm:=bg.ext bP
 refine WZ ?_
 exact fw G1 (Fr.refl _ _) r8 (⟨bO,bP⟩)
 refine FA ?_
 refine vf (λx w1 G1 aS ua r8=>?_) ?_
 have hv:=hv.go ua
 refine aA (ye hd ps om _ _ w1 hv) ?_
 rintro _ w2 ⟨rfl,az⟩
 have dm:=az.size
 exact fk az
 refine vf (λx w1 G1 aS ua r8=>?_) ?_
 refine fc bh bf rfl rfl λw2 az xg dC=>?_
 exact ff az (⟨_,rfl,xg.o r8⟩)
 refine ve 1 (λx w1 G1 aS ua r8 hJ hlen=>?_) ?_
 obtain⟨q0,aW⟩:=ji hlen
 subst aW
 intro v8 d8
 obtain⟨bb,e6,fH⟩:=d8
 subst e6
 obtain⟨bO,bP⟩:=hJ
 subst bO
 have J7:=hS.ext bP
 have hcw:=hco.ext bP
 refine rV bh bf rfl rfl rfl rfl rfl rfl hcw fH.gX om λv9 g9 w2 cZ aB eZ=>?_
 obtain⟨L2,fB,jq⟩:=J7.IY cZ aB (λx hx=>eZ.imp (λh=>h.symm.trans hx) (λh=>by rw[h] at hx;cases hx;exact lR _))
 exact fe _ jq fB.cC (⟨g9,bP.any.trans aB,fB,(Fr.of bP sm).go jq⟩)
 exact FZ
 intro x MM G40 aS Vx ahY hJ hlen
 obtain⟨q0,q1,aW⟩:=k9 hlen
 subst aW
 intro v8 d8
 change OW _ _ _ _ _ (bo (bj _ x _) (zZ 6 [_,_,_,_,_,_,_,_,_,_,_,_])) _
 obtain⟨g2,AV,fB,jq⟩:=hJ
 obtain⟨o9,pd,Hh⟩:=jR fB.code
 have e8:q1=_:=Hh
 subst e8
 have bg:=bg.aF AV (λh=>(vM b h).2.1 rfl)
 refine gd (o:=4) mu rfl rfl rfl bg rfl λo5 gR bg df=>?_
 have fB:=fB.aF gR sm
 have hR:=((dS.refl E L w).add jq AV (λx hx=>(vM x hx).1)).aD gR (fB.mem.2 (.inr (.inl rfl))) mV
 refine W ?_
 exact⟨_,rfl,_,⟨_,_,_,_,_,_,_,_,bg,fB⟩,hR⟩
theorem Ke {hd:ai} {ps:List ai} (hh:hd.length<=100) (hp:ps.length<=10) (hs:∀p,p∈ps->p.length<=10001):(dR hd ps).length<=1000000:=by
 have h1:=AM (m:=10001) ps hs
 have h2:ps.length*10002<=10*10002:=Nat.mul_le_mul hp (lR _)
 rw[lE];omega
theorem EV (h:n<=10000):(aT n).length<=10001:=by have:=Ej _ n (lR _);omega
theorem dG.db {τ:sD} (h:dG τ E L w b o m):∀x,x∈L->x<w.heap.size:=h.mem.2.2.2
theorem Vy (m:Mk) (s:Nat) (hs:s<=10000) (ht:m.types.length<=9000) (hc:m.code.length<=9000) (E L:List Nat) (b:Nat) (w:World) (h:dG t8 E L w b true m):
  bz Tryz.prog 191 [.pointer (some ⟨b,0,none⟩),.int .i64 (s:Int)] w λr w'=>r= .tuple #[str (aT (m.types.length+1)),str (aT (m.types.length+2))]∧∃L',dG t8 E L' w' b true (sC m s)∧dS E L w L' w':=by
 have av:=h
 have hR:=dS.refl E L w
 obtain⟨r,hr⟩:∃r,r=m.types.length:=⟨_,rfl⟩
 have hE:sC m s=((((((m.cY []).cA Ab [aT r,aT s]).cY []).cA sB [aT (r+1),aT r,[48]]).cY []).cA sB [aT (r+2),aT r,[49]]):=by rw[hr];rfl
 rw[<-hr,hE]
 refine bS [.tmp 4,.tmp 5] 40 Tryz.func191 rfl abG rfl rfl ?_
 refine W ?_
 refine aA (r7 [] m om E L b true w av) ?_
 rintro v10 w1 ⟨fo,L1,av,bC⟩
 rw[<-hr] at fo
 subst fo
 have hR:=hR.go bC
 refine W ?_
 refine aA (ir (r+1) r om om w1) ?_
 rintro _ w2 ⟨rfl,az⟩
 have dm:=az.size
 refine bI az av hR λav hR=>?_
 refine zm<|aA (ir (s+1) s om om w2) ?_
 rintro _ w3 ⟨rfl,aH⟩
 have fm:=aH.size
 refine bI aH av hR λav hR=>?_
 have cR:=av.db
 refine kJ bh bf rfl rfl rfl rfl λw4 aO wS gQ=>bI aO av hR λav hR=>?_
 refine aA (kG Ab [aT r,aT s] (Ke de sm (by intro p hp;simp at hp;rcases hp with rfl|rfl<;>exact EV om)) (m.cY []) (show m.code.length<100000 from om) E L1 b _ w4 av (aJ.dK [aT r,aT s] wS (λhx=>by have:=cR _ hx;omega))) ?_
 rintro jC w5 ⟨L2,av,bC⟩
 have hR:=hR.go bC
 refine aZ<|zr<|zm<|aA (r7 [] ((m.cY []).cA Ab [aT r,aT s]) (show(m.cY []).types.length<100000 from by rw[yk];omega) E L2 b true w5 av) ?_
 rintro v10 w6 ⟨fo,L3,av,bC⟩
 rw[show((m.cY []).cA Ab [aT r,aT s]).types.length=r+1 from by rw[oe,yk,hr]] at fo
 subst fo
 have hR:=hR.go bC
 refine W ?_
 refine aA (ir (r+2) (r+1) om om w6) ?_
 rintro _ w7 ⟨rfl,bW⟩
 have lf:=bW.size
 refine bI bW av hR λav hR=>?_
 refine zm<|aA (ir (r+1) r om om w7) ?_
 rintro _ w8 ⟨rfl,cE⟩
 have AX:=cE.size
 refine bI cE av hR λav hR=>?_
 have cR:=av.db
 refine pM bh bf rfl rfl rfl rfl rfl λw9 aB Cm df=>bI aB av hR λav hR=>?_
 refine aA (kG sB [aT (r+1),aT r,[48]] (Ke de sm (by intro p hp;simp at hp;rcases hp with rfl|rfl|rfl;(·exact EV om);(·exact EV om);(·decide))) (((m.cY []).cA Ab [aT r,aT s]).cY []) (show(m.code++[_]).length<100000 from by simp;omega) E L3 b _ w9 av (aJ.dK [aT (r+1),aT r,[48]] Cm (λhx=>by have:=cR _ hx;omega))) ?_
 rintro jC cu ⟨L4,av,bC⟩
 have hR:=hR.go bC
 refine aZ<|zr<|zm<|aA (r7 [] ((((m.cY []).cA Ab [aT r,aT s]).cY []).cA sB [aT (r+1),aT r,[48]]) (show(m.types++[_]++[_]).length<100000 from by simp;omega) E L4 b true cu av) ?_
 rintro v10 eD ⟨fo,L5,av,bC⟩
 have CX:v10= .int .i64 ((r+2:Nat):Int):=fo.trans (congrArg (λn:Nat=>Value.int .i64 (n:Int)) (show(m.types++[_]++[_]).length=r+2 from by simp[hr]))
 subst CX
 have hR:=hR.go bC
 refine W ?_
 refine aA (ir (r+3) (r+2) om om eD) ?_
 rintro _ fA ⟨rfl,di⟩
 have EM:=di.size
 refine bI di av hR λav hR=>?_
 refine zm<|aA (ir (r+1) r om om fA) ?_
 rintro _ jB ⟨rfl,gv⟩
 have Hp:=gv.size
 refine bI gv av hR λav hR=>?_
 have cR:=av.db
 refine pM bh bf rfl rfl rfl rfl rfl λiG dA ahZ CY=>bI dA av hR λav hR=>?_
 refine aA (kG sB [aT (r+2),aT r,[49]] (Ke de sm (by intro p hp;simp at hp;rcases hp with rfl|rfl|rfl;(·exact EV om);(·exact EV om);(·decide))) (((((m.cY []).cA Ab [aT r,aT s]).cY []).cA sB [aT (r+1),aT r,[48]]).cY []) (show(m.code++[_]++[_]).length<100000 from by simp;omega) E L5 b _ iG av (aJ.dK [aT (r+2),aT r,[49]] ahZ (λhx=>by have:=cR _ hx;omega))) ?_
 rintro jC pZ ⟨L6,av,bC⟩
 have hR:=hR.go bC
 refine aZ<|zr<|zm<|aA (ir (r+2) (r+1) om om pZ) ?_
 rintro _ lk ⟨rfl,mJ⟩
 have U1:=mJ.size
 refine bI mJ av hR λav hR=>?_
 refine zm<|aA (ir (r+3) (r+2) om om lk) ?_
 rintro _ CZ ⟨rfl,yI⟩
 have apg:=yI.size
 refine bI yI av hR λav hR=>?_
 refine W ?_
 exact⟨_,rfl,rfl,L6,av,hR⟩
theorem Vz (s:cD):(ew s).map Prod.fst=jE s:=by unfold ew jE;rw[List.map_map];rfl
theorem VB (s:cD):((ew s).map λp=>p.2.text)=oT s:=by unfold ew oT;rw[List.map_map];rfl
theorem Kf (t:Tk) (e:Ex) (ba:e.ok) (hn:e.n<=1000) (hΓ:xU (ew t.sc)) (hl:t.sc.length+2*e.n<=100000) (v:Value) (L:List Nat) (bt:Nat) (w:World) (lh:∀x,x∈L->x<w.heap.size) (hT:gI L w 166 bt t) (hv:bB L w v e.au):
  bz Tryz.prog 189 [.pointer (some ⟨bt,0,none⟩),v] w λr w'=>r=str (eE (bw e (ew t.sc)))∧aj [] w w':=by
 obtain⟨v1,v3,v4,v5,v6,v8,cX,hC⟩:=hT
 obtain⟨a,np,c,rfl,eU,aP⟩:=cU hv
 have eK:=hC.aK
 have eR:=hC.types
 have hK:=aj.refl [] w
 have e1:=Vz t.sc
 have e2:=VB t.sc
 refine bS [.tmp 4] 15 Tryz.func189 rfl abE rfl rfl ?_
 refine zr<|eH rfl λw1 aI cQ dk=>la aI hK hv cX eK eR λhK hv cX eK eR=>?_
 refine W ?_
 apply dV dj 11 [5,6,7,8,9,10,11,12,13,14,4] [[],[],[1],[2],[3],[],[5],[6],[7],[0,4,8],[9]] (it [_,_,_,_,_,_,_,_,_,_,_]) de rfl
 intro wd aC
 refine VA ?_
 refine vk aC (λx w2 az=>?_) ?_
 refine ie az hK hv eK eR λhK hv eK eR=>?_
 refine aA (Vt 1000 e hn om ba (ew t.sc) (by simp[ew];omega) hΓ _ v4 v6 L w2 (λx hx=>lL (lh x hx) hK.size) hv (by rw[e1];exact eK) (by rw[e2];exact eR)) ?_
 rintro _ w3 ⟨rfl,aH⟩
 have fm:=aH.size
 exact pk aH
 exact VZ
 intro x o5 gR
 have hK:=hK.ext gR
 change OW _ _ _ _ [] (bo (bj _ x _) (zZ 5 [_,_,_,_,_,_,_,_,_,_]++[(4,_)])) _
 refine W ?_
 exact⟨_,rfl,rfl,hK⟩
theorem ah0 (xs:List Nat):∀row,row∈tP xs->∀c,c∈row->∀v,c= .val v->v.oneCell'=true:=by
 intro row hr c hc v hv
 obtain⟨n,_,rfl⟩:=List.mem_map.1 hr
 simp at hc;subst hc;cases hv;rfl
theorem EW (t:Tk) (x:ai) (r:Nat) (T:Ty) (hl:t.sc.length<100000) (L:List Nat) (bt:Nat) (w:World) (rb:bt∈L) (lh:∀x,x∈L->x<w.heap.size) (hT:gI L w 166 bt t):
  bz Tryz.prog 192 [.pointer (some ⟨bt,0,none⟩),str x,.int .i64 (r:Int),str T.text] w λ_ w'=>gI L w' 166 bt {t with sc:=t.sc++[(x,r,T)]}∧aj [bt] w w':=by
 obtain⟨v1,v3,v4,v5,v6,v8,cX,hC⟩:=hT
 have cX:aJ w bt [str t.aM,v1,.int .i64 (t.loads:Int),v3,v4,v5,v6,str t.expr.au.aw,v8,.int .i64 (t.on:Int),str t.aV,.int .i64 (t.next:Int)].toArray 166:=cX
 have hK:=aj.refl [bt] w
 have fx:(jE t.sc).length=t.sc.length:=by simp[jE]
 have eU:(oT t.sc).length=t.sc.length:=by simp[oT]
 have pg:(tP (wJ t.sc)).length=t.sc.length:=by simp[tP,wJ]
 have Jk:=cX.lt
 obtain⟨a5,c5,rfl,_⟩:=rC hC.at_
 refine bS [] 40 Tryz.func192 rfl abH rfl rfl ?_
 refine W ?_
 refine fc bh bf rfl rfl λw1 aI xg dk=>cN aI hK cX hC λhK cX hC=>?_
 refine aA (tY (jE t.sc) [x] so v4 _ L w1 hC.aK (aJ.dK [x] xg (λhx=>by have:=lh _ hx;omega)) (λx hx=>lL (lh x hx) hK.size)) ?_
 rintro v2 w2 ⟨ij,az⟩
 have dm:=az.size
 refine cN az hK cX hC λhK cX hC=>?_
 have jA:=ij
 obtain⟨a9,n9,c9,e9,_⟩:=dJ jA
 subst e9
 refine W ?_
 refine gd (o:=4) mu rfl rfl rfl cX rfl λw3 aH cX df=>?_
 have hC:=hC.aD aH (by simpa using rb);have jA:=jA.aD aH (by simpa using rb)
 have hK:=hK.trans aH
 have x4:=hK.size
 refine W ?_
 refine fc bh bf rfl rfl λw4 aO yJ gQ=>ie aO hK cX hC jA λhK cX hC jA=>?_
 refine aA (tY (oT t.sc) [T.text] so v6 _ L w4 hC.types (aJ.dK [T.text] yJ (λhx=>by have:=lh _ hx;omega)) (λx hx=>lL (lh x hx) hK.size)) ?_
 rintro v5 w5 ⟨sJ,aN⟩
 have l3:=aN.size
 refine ie aN hK cX hC jA λhK cX hC jA=>?_
 have xf:=sJ
 obtain⟨Jf,n10,c10,fo,_⟩:=dJ xf
 subst fo
 refine W ?_
 refine gd (o:=6) mu rfl rfl rfl cX rfl λw6 bN cX df=>?_
 have hC:=hC.aD bN (by simpa using rb);have jA:=jA.aD bN (by simpa using rb);have xf:=xf.aD bN (by simpa using rb)
 have hK:=hK.trans bN
 have x4:=hK.size
 have hL9:∀x,x∈L->x<w6.heap.size:=(λx hx=>lL (lh x hx) hK.size)
 have hCw:=hC
 have ah3:=jA
 have ah4:=xf
 have yK:=cX
 have mG:=hK
 have apj:=cX.lt
 refine aZ<|kH<|zm<|zI w6.heap.size L uV oJ rfl rfl (lR _) hL9 λw7 bW JL wX=>?_
 have fp:=bW
 have hC:=hC.grow.ext bW;have cX:=cX.ext bW
 refine W ?_
 refine wP uV oJ rfl rfl rfl rfl rfl rfl wX hC.at_ (ah0 _) (by rw[pg];simp;omega) λa4 fR g4 w8 ku cE=>?_
 rw[List.nil_append] at ku
 have apk:=wX.low
 have fp:=fp.since cE (λx hx=>.inr (by simp at hx;omega))
 refine zm<|fc uV oJ rfl rfl λw9 aB vN df=>bI aB ku fp λku fp=>?_
 refine DM (row:=[.val (.int .i64 (r:Int))]) uV oJ rfl rfl rfl rfl rfl rfl ku vN rfl rfl ⟨.val _,trivial⟩ (by rw[pg];omega) λa6 cc6 g6 cu hO6 cB=>?_
 have fp:=fp.since cB (λx hx=>.inr (ku.low x (by simpa using hx)))
 have jA:=ah3.ext fp
 have xf:=ah4.ext fp
 have hC:=hCw.ext fp
 have cX:=yK.ext fp
 have hK:=mG.ext fp
 have hN:=hO6.done
 rw[aeH] at hN
 refine W ?_
 refine gd (o:=5) R4 rfl rfl rfl cX rfl λeD dd cX df=>?_
 have hC:=hC.aD dd (by simpa using rb);have jA:=jA.aD dd (by simpa using rb);have xf:=xf.aD dd (by simpa using rb)
 have hN:=bQ.aF hN (dd.mono (by simpa using rb))
 have hK:=hK.trans dd
 refine W ?_
 exact⟨_,rfl,⟨v1,v3,_,_,_,v8,cX,⟨hC.regs,hC.self,(by rw[ad2];exact jA),(by rw[ad3];exact hN),(by rw[ad4];exact xf),hC.ak⟩⟩,hK⟩
theorem ah6 (s:cD) (p:ai×Nat×Ty) (x:ai):kn (s++[p]) x=if p.1=x then p.2.1 else kn s x:=by
 unfold kn
 rw[List.reverse_append]
 simp only[List.reverse_cons,List.reverse_nil,List.nil_append,List.cons_append,List.find?_cons]
 by_cases h:p.1=x
 ·simp[h]
 ·simp[h]
theorem ah7 {s:cD} (h:k<s.length) (x:ai):kn (s.take (k+1)) x=if bX (jE s) k=x then(s[k]'h).2.1 else kn (s.take k) x:=by
 rw[List.take_add_one,gE h]
 show kn (s.take k++[s[k]]) x=_
 rw[ah6]
 have e:bX (jE s) k=(s[k]'h).1:=by simp[bX,jE,gE h]
 rw[e]
theorem C1 (t:Tk) (a:ai) (m:Mk) (Ch:a.length<=10000) (ht:m.types.length<=9000) (hc:m.code.length<=9000) (hs:t.sc.length<=9000) (E L:List Nat) (b bt:Nat) (pa:Option Addr) (pn pc:Nat) (w:World) (h:dG t8 E L w b true m) (hT:gI L w 166 bt t) (dX:bt∈E):
  bz Tryz.prog 222 [.pointer (some ⟨b,0,none⟩),.pointer (some ⟨bt,0,none⟩),.agg #[str a,.slice pa pn pc]] w λr w'=>r= .int .i64 ((bT m t.sc a).2:Int)∧∃L',dG t8 E L' w' b true (bT m t.sc a).1∧dS E L w L' w':=by
 have av:=h
 have hR:=dS.refl E L w
 obtain⟨v1,v3,v4,v5,v6,v8,cX,hC⟩:=hT
 obtain⟨r,hr⟩:∃r,r=m.types.length:=⟨_,rfl⟩
 have eK:=hC.aK
 obtain⟨an,nn,cn,rfl,rN⟩:=dJ eK
 have eJ:=hC.at_
 obtain⟨aa,ca,rfl,J6⟩:=rC eJ
 refine bS [.tmp 6] 50 Tryz.func222 rfl abY rfl rfl ?_
 refine zr<|eH rfl λw1 aI cg dk=>la aI av hR cX eK eJ λav hR cX eK eJ=>?_
 refine W ?_
 refine aA (vw _ _) ?_
 rintro _ _ ⟨rfl,rfl⟩
 refine kx rfl rfl rfl<|aZ<|zc rfl (λh1=>?_) (λh1=>?_)
 have hq:bT m t.sc a=((m.cY [105]).cA IU [aT r,a],r):=(by unfold bT;rw[iN (by rw[h1];simp),hr])
 rw[hq]
 refine zr<|zm<|aA (r7 [105] m om E L b true w1 av) ?_
 rintro l8 w2 ⟨gS,L1,av,bC⟩
 rw[<-hr] at gS
 subst gS
 have hR:=hR.go bC
 have cR:=av.db
 have cg:dM L1 w2 w.heap.size _ _:=⟨cg.aF bC.fr.aF (λhx=>by have:=h.db _ hx;omega),λhx=>by rcases bC.fr.mem _ hx with h9|h9;(·have:=h.db _ h9;omega);(·omega)⟩
 have lO:=av
 have uj:=hR
 refine W ?_
 apply jF dj L1 7 (rA 15 7) (rA 15 7) [[],[],[1],[],[3],[2,4],[0,5]] [Ie.v _,Ie.v _,Ie.v _,Ie.v _,Ie.v _,Ie.p (fun(G:List Nat) (v:Value) (ww:World)=>bc G ww v [aT r,a]),Ie.e 0] [6] [fun(G:List Nat) (vs:List Value) (ww:World)=>G=L1∧aj [] w2 ww,fun(G:List Nat) (vs:List Value) (ww:World)=>dG t8 E G ww b true ((m.cY [105]).cA IU [aT r,a])∧dS E L1 w2 G ww] de rfl cR (by exact⟨λG v w G' w' h k=>bc.go h k,trivial⟩) (by exact⟨λG vs w w' ⟨h1,h2⟩ k=>⟨h1,h2.ext k⟩,λG vs w w' ⟨h1,h2⟩ k=>⟨h1.ext k,h2.ext k⟩,trivial⟩) (⟨rfl,aj.refl _ _⟩)
 refine FA ?_
 refine vf (λx w3 G3 aS jo kr=>?_) ?_
 refine aA (ir (r+1) r om om w3) ?_
 rintro _ w4 ⟨rfl,aO⟩
 have fE:=aO.size
 exact fk aO
 refine FA ?_
 refine vf (λx w3 G3 aS jo kr=>?_) ?_
 refine kJ bh bf rfl rfl rfl rfl λw4 aO sV gQ=>?_
 exact ff aO (aJ.dK [aT r,a] sV (λhx=>by have:=kr _ hx;omega))
 refine ve 0 (λx w3 G3 aS jo kr hJ hlen=>?_) ?_
 have aW:=jh hlen
 subst aW
 intro v5 d5
 obtain⟨bO,bP⟩:=hJ
 subst bO
 refine aA (kG IU [aT r,a] (Ke de sm (by intro p hp;simp at hp;rcases hp with rfl|rfl;(·exact EV om);(·omega))) (m.cY [105]) (show m.code.length<100000 from om) E _ b _ w3 (lO.ext bP) d5) ?_
 rintro v21 w4 ⟨L2,Hq,jq⟩
 exact fe L2 jq.fr Hq.db (⟨Hq,((dS.refl _ _ _).ext bP).go jq⟩)
 exact trivial
 intro x qx GS aS EA Nq hJ hlen
 obtain⟨q0,aW⟩:=ji hlen
 subst aW
 intro v5 d5
 change OW _ _ _ _ [] (bo (bj _ x _) (zZ 15 [_,_,_,_,_,_,_])) _
 obtain⟨av,jq⟩:=hJ
 have hR:=uj.go jq
 refine W ?_
 exact⟨_,rfl,rfl,_,av,hR⟩
 have hq:bT m t.sc a=(m,kn t.sc a):=(by unfold bT;rw[iP (by simpa using h1)])
 rw[hq]
 have CI:(jE t.sc).length=t.sc.length:=by simp[jE]
 refine W ?_
 refine eA (λk:Nat=>[(1,.pointer (some ⟨bt,0,none⟩)),(5,.pointer (some ⟨w.heap.size,0,none⟩)),(8,.int .i64 ((k:Int)-1))]) (λk w'=>aj [] w1 w'∧k<=t.sc.length∧kn t.sc a=kn (t.sc.take k) a) (λk=>k) t.sc.length (⟨rfl,rfl,congrArg (λz:Nat=>Value.int .i64 ((z:Int)-1)) (rN.trans CI)⟩) (⟨aj.refl _ _,lR _,by rw[List.take_length]⟩) λgg w2 e2 hI=>?_
 obtain⟨da,hk,yx⟩:=hI
 refine ie da av hR cX eK λav hR cX eK=>?_
 have eJ:=xX.ext eJ da
 have cg:=cg.ext da
 refine W ?_
 refine zc rfl (λh2=>?_) (λh2=>?_)
 have aQ:∃k,gg=k+1:=⟨gg-1,om⟩
 obtain⟨k,rfl⟩:=aQ
 have hi:((k+1:Nat):Int)-1=(k:Int):=by omega
 rw[hi]
 obtain⟨b1,eX,e1,bK⟩:=pB eK (km (xs:=jE t.sc) (i:=k) om)
 cases e1
 obtain⟨b2,lG,e2,bU⟩:=ad1 eJ (i:=k) (x:=(t.sc[k]'om).2.1) (by simp[wJ,gE (show k<t.sc.length by omega)])
 cases e2
 have nA:=ah7 (s:=t.sc) (k:=k) om a
 refine WZ ?_
 apply dV dj 10 [33,34,35,36,37,38,39,40,41,42] [[],[0],[1],[2],[],[3,4],[5],[],[7],[6,8]] (it [_,_,_,_,_,_,_,_,_,_]) de rfl
 intro wd aC
 refine vc (λ_ _ _=>WZ pv) ?_
 refine vk aC (λx w3 aH=>?_) ?_
 refine WZ ?_
 exact pv
 refine vc (λ_ _ _=>WZ pv) ?_
 refine vk aC (λx w3 aH=>?_) ?_
 have cX:=cX.ext aH
 refine WZ ?_
 exact pv
 refine vc (λ_ _ _=>WZ pv) ?_
 exact VZ
 intro x qx CT
 refine la CT av hR cX da bU λav hR cX da bU=>?_
 change OW _ _ _ _ [] (bo (bj _ x _) (zZ 33 [_,_,_,_,_,_,_,_,_,_])) _
 refine aZ<|zc rfl (λh3=>?_) (λh3=>?_)
 have wQ:=yx.trans (nA.trans (iP h3))
 refine WI ?_
 refine zi uV oJ rfl rfl (by have h9:(tP (wJ t.sc)).length=t.sc.length:=(by simp[tP,wJ]);omega)<|W ?_
 exact⟨_,rfl,congrArg (λz:Nat=>Value.int .i64 (z:Int)) wQ.symm,_,av,hR⟩
 have wQ:=yx.trans (nA.trans (iN h3))
 refine W ?_
 exact⟨k,⟨rfl,rfl,rfl⟩,⟨da,om,wQ⟩,om⟩
 have h0:gg=0:=by omega
 subst h0
 refine W ?_
 exact⟨_,rfl,congrArg (λz:Nat=>Value.int .i64 (z:Int)) yx.symm,_,av,hR⟩
theorem Of (aM:ai) (regs:List ai) (hr:regs.length<10000) (m:Mk) (cW:m.blocks.length<100000) (E L:List Nat) (b:Nat) (v:Value) (w:World) (h:dG t8 E L w b true m) (hv:bc L w v regs):
  bz Tryz.prog 155 [.pointer (some ⟨b,0,none⟩),str aM,v] w λr w'=>∃L',dG t8 E L' w' b false (Cr m aM regs)∧dS E L w L' w':=by
 obtain⟨vb,vt,vc,vy,gb,gt,gc,gy,bg,hS⟩:=h.open
 obtain⟨yH,mV,vL,mf,vM,ui⟩:=hS.apart
 have VC:=hS.MP
 obtain⟨G0,Hr⟩:∃G,G=E++(gb.toList++(gt.toList++gy.toList)):=⟨_,rfl⟩
 have VD:∀x,x∈G0->x∈L:=λx hx=>by rw[Hr] at hx;simp only[mA] at hx;exact hS.mem.2 (by rcases hx with h|h|h|h<;>simp[h])
 have nM:b∉G0:=λhx=>by
  rw[Hr] at hx;simp only[mA] at hx
  rcases hx with h|h|h|h
  ·exact mV h
  ·exact(vL b h).2 rfl
  ·exact(mf b h).2.1 rfl
  ·exact(ui b h).2.1 rfl
 have bg:dM G0 w b [vb,vt,.int .i64 (m.count:Int),.bool m.wide,vc,vy].toArray 164:=⟨bg,nM⟩
 have oq:=bc.fresh hv (λx hx=>.inl (VD x hx))
 have pJ:eO G0 w:=λx hx=>hS.cC x (VD x hx)
 have wG:∀x,w.heap.size<=x->x∉pL E b gb gt gy:=λx h1 hx=>by have:=hS.cC x (hS.Tl x hx);omega
 obtain⟨an,nn,cn,rfl,rN⟩:=dJ hv
 obtain⟨ac,nc,cc,rfl,ml⟩:=dJ VC
 refine bS [] 24 Tryz.func155 rfl abc rfl rfl ?_
 apply jF dj G0 18 (rA 6 18) (rA 6 18) [[],[],[1],[2],[3],[],[],[],[6,7],[],[9],[10],[11],[5,8,12],[13],[4,14],[0],[16]] [Ie.v _,Ie.v _,Ie.v _,Ie.v _,Ie.v _,Ie.v _,Ie.p (fun(G:List Nat) (v:Value) (ww:World)=>∃bb,v= .slice (some ⟨bb,0,none⟩) 0 0∧w.heap.size<=bb∧dM G ww bb #[] 9),Ie.v _,Ie.e 0,Ie.v _,Ie.v _,Ie.v _,Ie.v _,Ie.e 1,Ie.e 2,Ie.e 3,Ie.v _,Ie.v _] [8,13,14,15] [fun(G:List Nat) (vs:List Value) (ww:World)=>(∀x,x∈G0->x∈G)∧aj [] w ww,fun(G:List Nat) (vs:List Value) (ww:World)=>(∀x,x∈G0->x∈G)∧aj [] w ww∧bc (pL E b gb gt gy) ww (vs.getD 0 undef) regs,fun(G:List Nat) (vs:List Value) (ww:World)=>(∀x,x∈G0->x∈G)∧aj [] w ww∧bc (pL E b gb gt gy) ww (vs.getD 0 undef) regs∧vs.getD 1 undef= .agg #[str aM,vs.getD 0 undef,.slice ac nc cc],fun(G:List Nat) (vs:List Value) (ww:World)=>(∀x,x∈G0->x∈G)∧aj [] w ww∧bc (pL E b gb gt gy) ww (vs.getD 0 undef) regs∧∃bb,vs.getD 2 undef= .slice (some ⟨bb,0,none⟩) 1 1∧aJ ww bb [str aM,vs.getD 0 undef,.slice ac nc cc].toArray 58,fun(G:List Nat) (vs:List Value) (ww:World)=>∃g2,dH (gb.toList++(g2.toList++pL E b gb gt gy)) ww 58 3 (vs.getD 3 undef) g2 ((m.blocks++[(⟨aM,regs,m.code⟩:Bk)]).map Bk.enc)∧aj gb.toList w ww∧(g2=gb∨∃x,g2=some x∧w.heap.size<=x)] de rfl pJ (by exact⟨λG v w G' w' ⟨bb,e,h1,h⟩ k=>⟨bb,e,h1,h.go k⟩,trivial⟩) (by exact⟨λG vs w w' ⟨h1,h2⟩ k=>⟨h1,h2.ext k⟩,λG vs w w' ⟨h1,h2,h3⟩ k=>⟨h1,h2.ext k,h3.ext k⟩,λG vs w w' ⟨h1,h2,h3,h4⟩ k=>⟨h1,h2.ext k,h3.ext k,h4⟩,λG vs w w' ⟨h1,h2,h3,bb,h4,h5⟩ k=>⟨h1,h2.ext k,h3.ext k,bb,h4,h5.ext k⟩,λG vs w w' ⟨g2,h1,h2,h3⟩ k=>⟨g2,h1.ext k,h2.ext k,h3⟩,trivial⟩) (⟨λx hx=>hx,aj.refl _ _⟩)
 refine FA ?_
 refine vf (λx w1 G1 aS ua r8=>?_) ?_
 refine fQ bh bf λw2 az Og dC=>?_
 exact ff az (⟨_,rfl,(by have h1:=ua.aF.size;omega),Og.o r8⟩)
 refine FA ?_
 refine ve 0 (λx w1 G1 aS ua r8 hJ hlen=>?_) ?_
 have aW:=jh hlen
 subst aW
 have oq:=oq.go ua
 intro v6 d6
 obtain⟨bb,e6,CD,fH⟩:=d6
 subst e6
 obtain⟨jU,fT⟩:=hJ
 refine GL (N:=w.heap.size) bh bf rfl rfl rfl rfl rfl rfl fH CD oq ‹_› om λv9 w2 G9 kt vE cP eu pU=>?_
 exact fe G9 cP eu (⟨λx hx=>kt _ (jU x hx),pU.since fT,let⟨g',iT,_,hs⟩:=vE;iT.rep (λx hx fj=>wG x (hs x (by simp[hx])).2 fj)⟩)
 refine FA ?_
 refine ve 1 (λx w1 G1 aS ua r8 hJ hlen=>?_) ?_
 obtain⟨q0,aW⟩:=ji hlen
 subst aW
 obtain⟨jU,fT,p3⟩:=hJ
 obtain⟨a7,n7,c7,e7,_⟩:=dJ p3
 have e8:q0=_:=e7
 subst e8
 refine js (IB _ _ _ _ _ _ _ _) rfl rfl ?_
 exact fe G1 (Fr.refl _ _) r8 (⟨jU,fT,p3,rfl⟩)
 refine ve 2 (λx w1 G1 aS ua r8 hJ hlen=>?_) ?_
 obtain⟨q0,q1,aW⟩:=k9 hlen
 subst aW
 obtain⟨jU,fT,p3,oV⟩:=hJ
 obtain⟨a7,n7,c7,e7,_⟩:=dJ p3
 have e8:q0=_:=e7
 subst e8
 have Hs:q1=Value.agg #[str aM,.slice a7 n7 c7,.slice ac nc cc]:=oV
 subst Hs
 refine sH [.tmp 19] [[str aM,.slice a7 n7 c7,.slice ac nc cc]] iL fV rfl rfl rfl rfl rfl rfl rfl rfl rfl λw2 az sV Vk=>?_
 exact fe G1 (Fr.of az sm) ((λx hx=>lL (r8 x hx) (aj.size az))) (⟨jU,fT.trans az,p3.ext az,_,rfl,sV⟩)
 refine ve 3 (λx w1 G1 aS ua r8 hJ hlen=>?_) ?_
 obtain⟨q0,q1,q2,aW⟩:=Aj hlen
 subst aW
 obtain⟨jU,fT,p3,bb,D6,fH⟩:=hJ
 have gS:q2=_:=D6
 subst gS
 have iq:=(hS.bl.any fT).sub (L':=gb.toList++pL E b gb gt gy) (λx hx=>.inl (by rcases mA.1 hx with h|h;(·exact hS.mem.2 (by simp[h]));(·exact hS.Tl x h)))
 have VE:∀x,x∈gb.toList++pL E b gb gt gy->x∈pL E b gb gt gy:=(λx hx=>by rcases mA.1 hx with h|h;(·exact yf.2 (by simp[h]));(·exact h))
 refine Co (L:=pL E b gb gt gy) (row:=Bk.enc ⟨aM,regs,m.code⟩) iL fV rfl rfl rfl rfl rfl rfl iq rfl fH.all (by obtain⟨a7,n7,c7,e7,_⟩:=dJ p3;have e8:q0=_:=e7;subst e8;simp[Value.oneCell']) ⟨.val _,bc.fresh p3 (λx hx=>.inl (VE x hx)),bc.fresh (VC.ext fT) (λx hx=>.inl (VE x hx)),trivial⟩ (by simpa using(show m.blocks.length<100000000 from om)) λv9 g9 w2 cZ uk eZ=>?_
 exact fe G1 (Fr.of uk.aF (λx hx=>jU x (by rw[Hr];simp[hx]))) ((λx hx=>lL (r8 x hx) uk.aF.size)) (⟨g9,by simpa using cZ,fT.any.trans uk.aF,eZ.imp id (λh=>⟨_,h,fT.size⟩)⟩)
 exact FZ
 intro x MM G40 aS Vx ahY hJ hlen
 obtain⟨q0,q1,q2,q3,aW⟩:=Mx hlen
 subst aW
 intro v6 d6
 have bg:=bg.go Vx
 change OW _ _ _ _ _ (bo (bj _ x _) (zZ 6 [_,_,_,_,_,_,_,_,_,_,_,_,_,_,_,_,_,_])) _
 obtain⟨g2,cZ,ej,iO⟩:=hJ
 obtain⟨L2,fB,jq⟩:=hS.aeI cZ ej iO
 obtain⟨a3,c3,e3⟩:=cZ.len
 have e4:q3=_:=e3
 subst e4
 have bg:=bg.gX
 refine gd (o:=0) R3 rfl rfl rfl bg rfl λo5 gR bg df=>?_
 have fB:=fB.aF gR sm
 have hR:=((dS.refl E L w).add jq ej (λx hx=>(vL x hx).1)).aD gR (fB.mem.2 (.inr (.inl rfl))) mV
 refine W ?_
 exact⟨_,rfl,L2,⟨_,_,_,_,_,_,_,_,bg,fB⟩,hR⟩
theorem ah8 {a:ai} (h:dN a=true):bT m s a=(m,kn s a):=by unfold bT;rw[iP h]
theorem C3 (m:Mk) (k:ai):(m.cY k).code.length=m.code.length:=rfl
theorem ph (m:Mk) (h:ai) (ps:List ai):(m.cA h ps).code.length=m.code.length+1:=by simp[Mk.cA]
def A9 (s:cD) (aK:List ai) (k:Nat):List ai:=(aK.take k).map λx=>aT (kn s x)
def yL (s:cD) (aK:List ai) (k:Nat):List ai:=(aK.take k).map λx=>bu (j5 s x)
theorem ah9 {aK:List ai} (h:k<aK.length):A9 s aK (k+1)=A9 s aK k++[aT (kn s (bX aK k))]:=by
 unfold A9;rw[List.take_add_one,km h];simp
theorem aia {aK:List ai} (h:k<aK.length):yL s aK (k+1)=yL s aK k++[bu (j5 s (bX aK k))]:=by
 unfold yL;rw[List.take_add_one,km h];simp
theorem aib {s:cD} {aK:List ai}:(A9 s aK k).length<=aK.length:=by unfold A9;rw[List.length_map,List.length_take];omega
theorem aic {s:cD} {aK:List ai}:(yL s aK k).length<=aK.length:=by unfold yL;rw[List.length_map,List.length_take];omega
theorem aid (s:cD) (aK:List ai):A9 s aK aK.length=aK.map λx=>aT (kn s x):=by simp[A9]
theorem aie (s:cD) (aK:List ai):yL s aK aK.length=aK.map λx=>bu (j5 s x):=by simp[yL]
theorem Oh (h:(look (ew s) x).isSome=true):nK (jE s) (oT s) x [] (jE s).length=(j5 s x).text:=by
 have h1:=Ux x (ew s)
 rw[Vz,VB,MX h] at h1
 have e:(ew s).length=(jE s).length:=by simp[ew,jE]
 rw[e] at h1
 exact h1
theorem gk.sX {τ:sD} {vb vt vc vy:Value} {gb gt gc gy:Option Nat} (h:gk τ E L w b o vb vt vc vy gb gt gc gy m) {x:Nat} (k:aj G w w') (hG:∀y,y∈G->y∈b::E) (hx:w.heap.size<=x) (vm:x<w'.heap.size):gk τ (x::E) (x::L) w' b o vb vt vc vy gb gt gc gy m:=by
 obtain⟨a1,a2,a3,a4,a5,a6⟩:=h.apart
 have rI:∀x,x∈G->x∈L:=λx hx=>h.mem.2 (by rcases mC.1 (hG x hx) with h1|h1<;>simp[h1])
 have hF:Fr L w (x::L) w':=⟨k.mono rI,λy hy=>by
  rcases mC.1 hy with rfl|hy
  ·exact .inr hx
  ·exact .inl hy⟩
 have out:∀x,x∉E->x≠b->x∉G:=λx h1 h2 h3=>by
  rcases mC.1 (hG x h3) with h4|h4
  ·exact h2 h4
  ·exact h1 h4
 refine⟨h.bl.aF hF k (λx hx=>out x (a3 x hx).1 (a3 x hx).2),h.ta.aF hF k (λx hx=>out x (a4 x hx).1 (a4 x hx).2.1),?_,h.ty.aF k (λx hx=>out x (a6 x (by simp[hx])).1 (a6 x (by simp[hx])).2.1),by rw[h.eL];rfl,List.nodup_cons.2 ⟨λh2=>by have:=h.cC _ h2;omega,h.nd⟩,λy hy=>?_⟩
 ·rcases h.co with⟨ho,h1⟩|⟨ho,hn,h1⟩
  ·exact .inl ⟨ho,h1.aF k λx hx=>out x (a5 x (by simp[hx])).1 (a5 x (by simp[hx])).2.1⟩
  ·exact .inr ⟨ho,hn,h1.go hF⟩
 ·rcases mC.1 hy with rfl|hy
  ·exact vm
  ·exact lL (h.cC y hy) k.size
theorem dG.sX {τ:sD} (h:dG τ E L w b o m) {x:Nat} (k:aj G w w') (hG:∀y,y∈G->y∈E) (hx:w.heap.size<=x) (vm:x<w'.heap.size):dG τ (x::E) (x::L) w' b o m:=by
 obtain⟨vb,vt,vc,vy,gb,gt,gc,gy,h1,h2⟩:=h
 exact⟨vb,vt,vc,vy,gb,gt,gc,gy,h1.aF k (λhx=>h2.apart.2.1 (hG b hx)),h2.sX k (λx hx=>mK _ (hG x hx)) hx vm⟩
theorem dG.VF {τ:sD}:∀{X L:List Nat},dG τ (X++E) L w b o m->∃L',L=X++L'∧dG τ E L' w b o m
 |[],L,h=>⟨L,rfl,h⟩
 |x::X,L,h=>by
  obtain⟨L1,e1,h1⟩:=dG.drop (E:=X++E) h
  obtain⟨L2,e2,h2⟩:=dG.VF h1
  exact⟨L2,by rw[e1,e2];rfl,h2⟩
theorem dG.nd {τ:sD} (h:dG τ E L w b o m):L.Nodup:=by
 obtain⟨_,_,_,_,_,_,_,_,_,h2⟩:=h
 exact h2.nd
theorem dG.sub {τ:sD} (h:dG τ E L w b o m) {x:Nat} (hx:x∈E):x∈L:=h.mem.1 x (mK _ hx)
structure qF (E L:List Nat) (w:World) (b:Nat) (m:Mk) (v1:Value) (g1:Option Nat) (rm:List ai) (v2:Value) (g2:Option Nat) (qG:List ai) (X L1:List Nat) (ww:World):Prop where
 mb:dG t8 (X++E) L1 ww b true m
 fe:dS E L w L1 ww
 s1:cG ww 9 v1 g1 rm
 s2:cG ww 9 v2 g2 qG
 x1:∀x,x∈g1.toList->x∈X∧x∉g2.toList
 x2:∀x,x∈g2.toList->x∈X∧x∉g1.toList
 xE:∀x,x∈X->x∉E
def C4 (E L:List Nat) (w:World) (b:Nat) (m:Mk) (v1:Value) (g1:Option Nat) (rm:List ai) (v2:Value) (g2:Option Nat) (qG:List ai) (ww:World):Prop:=∃X L1,qF E L w b m v1 g1 rm v2 g2 qG X L1 ww
section
variable {E L X L1 L2:List Nat} {w ww w':World} {b:Nat} {m:Mk} {v1 v2 v:Value} {g1 g2 g:Option Nat} {rm qG ys:List ai}
theorem qF.ext (h:qF E L w b m v1 g1 rm v2 g2 qG X L1 ww) (k:aj [] ww w'):qF E L w b m v1 g1 rm v2 g2 qG X L1 w':=⟨h.mb.ext k,h.fe.ext k,h.s1.ext k,h.s2.ext k,h.x1,h.x2,h.xE⟩
theorem qF.swap (h:qF E L w b m v1 g1 rm v2 g2 qG X L1 ww):qF E L w b m v2 g2 qG v1 g1 rm X L1 ww:=⟨h.mb,h.fe,h.s2,h.s1,h.x2,h.x1,h.xE⟩
theorem qF.Ht (h:qF E L w b m v1 g1 rm v2 g2 qG X L1 ww) (hO:cG w' 9 v g ys) (k:aj g1.toList ww w') (hg:g=g1∨∃x,g=some x∧ww.heap.size<=x):C4 E L w b m v g ys v2 g2 qG w':=by
 have hX:∀x,x∈g1.toList->x∈X++E:=λx hx=>List.mem_append_left _ (h.x1 x hx).1
 have hL:∀x,x∈g1.toList->x∈L1:=λx hx=>h.mb.sub (hX x hx)
 have hF:dS E L w L1 w':=h.fe.add (Fr.of k hL) k λx hx=>h.xE x (h.x1 x hx).1
 have h2:cG w' 9 v2 g2 qG:=h.s2.aF k λx hx hy=>(h.x2 x (by simp[hx])).2 hy
 rcases hg with rfl|⟨x,rfl,hx⟩
 ·exact⟨X,L1,⟨h.mb.aF k hX,hF,hO,h2,h.x1,h.x2,h.xE⟩⟩
 ·have mm:x<w'.heap.size:=hO.lt x sm
  refine⟨x::X,x::L1,⟨h.mb.sX k hX hx mm,⟨⟨hF.fr.aF,λy hy=>?_⟩,hF.out⟩,hO,h2,λy hy=>?_,λy hy=>?_,λy hy=>?_⟩⟩
  ·rcases mC.1 hy with rfl|hy
   ·exact .inr (Nat.le_trans h.fe.fr.aF.size hx)
   ·exact hF.fr.mem y hy
  ·have e:y=x:=by simpa using hy
   subst e
   exact⟨by simp,λhh=>by have:=h.s2.lt y hh;omega⟩
  ·refine⟨mK _ (h.x2 y hy).1,λhh=>?_⟩
   have e:y=x:=by simpa using hh
   subst e
   have:=h.s2.lt y hy;omega
  ·rcases mC.1 hy with rfl|hy
   ·intro hE
    have:=h.mb.db y (h.mb.sub (mR _ hE));omega
   ·exact h.xE y hy
theorem qF.AY (h:qF E L w b m v1 g1 rm v2 g2 qG X L1 ww) (hO:cG w' 9 v g ys) (k:aj g2.toList ww w') (hg:g=g2∨∃x,g=some x∧ww.heap.size<=x):C4 E L w b m v1 g1 rm v g ys w':=
 let⟨X,L1,h⟩:=h.swap.Ht hO k hg;⟨X,L1,h.swap⟩
theorem qF.call {m':Mk} (h:qF E L w b m v1 g1 rm v2 g2 qG X L1 ww) (hM:dG t8 (X++E) L2 w' b true m') (k:dS (X++E) L1 ww L2 w'):qF E L w b m' v1 g1 rm v2 g2 qG X L2 w':=by
 obtain⟨G,kg,hG⟩:=k.out
 refine⟨hM,h.fe.add k.fr kg λx hx hE=>hG x hx (mR _ hE),h.s1.aF kg λx hx hy=>hG x hy (List.mem_append_left _ (h.x1 x (by simp[hx])).1),h.s2.aF kg λx hx hy=>hG x hy (List.mem_append_left _ (h.x2 x (by simp[hx])).1),h.x1,h.x2,h.xE⟩
theorem qF.done (h:qF E L w b m v1 g1 rm v2 g2 qG X L1 ww):∃L',dG t8 E L' ww b true m∧dS E L w L' ww∧bc L' ww v1 rm∧bc L' ww v2 qG:=by
 obtain⟨L',e,h1⟩:=h.mb.VF
 have iS:=h.mb.nd
 rw[e,List.nodup_append] at iS
 have hs:∀x,x∈L'->x∈L1:=λx hx=>by rw[e];exact mR _ hx
 exact⟨L',h1,⟨⟨h.fe.fr.aF,λx hx=>h.fe.fr.mem x (hs x hx)⟩,h.fe.out⟩,h.s1.rep λx hx hy=>iS.2.2 x (h.x1 x (by simp[hx])).1 x hy rfl,h.s2.rep λx hx hy=>iS.2.2 x (h.x2 x (by simp[hx])).1 x hy rfl⟩
theorem C4.start {w2:World} (h:dG t8 E L w b true m) (k1:aj [] w w1) (aX:aJ w1 w.heap.size #[] 9) (k2:aj [] w1 w2) (aU:aJ w2 w1.heap.size #[] 9):C4 E L w b m (.slice (some ⟨w.heap.size,0,none⟩) 0 0) (some w.heap.size) [] (.slice (some ⟨w1.heap.size,0,none⟩) 0 0) (some w1.heap.size) [] w2:=by
 have h1:=aX.lt
 have h2:=aU.lt
 have hl:=h.db
 refine⟨[w1.heap.size,w.heap.size],w1.heap.size::w.heap.size::L,⟨(h.sX (E:=E) k1 sm (lR _) h1).sX k2 sm (lR _) h2,⟨⟨(k1.trans k2).any,λx hx=>?_⟩,[],k1.trans k2,sm⟩,(aX.ext k2).kK,aU.kK,λx hx=>?_,λx hx=>?_,λx hx hE=>?_⟩⟩
 ·rcases mC.1 hx with rfl|hx
  ·right;omega
  ·rcases mC.1 hx with rfl|hx
   ·right;omega
   ·exact .inl hx
 ·simp at hx;subst hx;simp;omega
 ·simp at hx;subst hx;simp;omega
 ·have:=hl x (h.sub hE)
  simp at hx;rcases hx with rfl|rfl<;>omega
end
theorem nN {a:Option Addr} {c i:Nat} {xs:List ai} (h:bc L w (.slice a n c) xs) (hi:i<xs.length):∃b off,a=some ⟨b,off,none⟩∧fy L w b (off+i*1) [str (bX xs i)]:=by
 obtain⟨b,off,vs,ha,hb,hL,hl,hc,hr⟩:=zn h (Qz (km hi))
 rw[QA hr] at hc
 exact⟨b,off,ha,hc,hb,hL⟩
theorem mh {hd:ai} {ps:List ai} (hh:hd.length<=100) (hp:ps.length<=45) (hs:∀p,p∈ps->p.length<=20000):(dR hd ps).length<=1000000:=by
 have h1:=AM (m:=20000) ps hs
 have h2:ps.length*20001<=45*20001:=Nat.mul_le_mul hp (lR _)
 rw[lE];omega
theorem lP (h:n<1000):(aT n).length<=20000:=by have:=sM h;omega
def Ba (s:cD) (ton:Nat) (aK:List ai) (on:ai):List ai:=aK.map (λx=>aT (kn s x))++(if on≠[] then[aT ton] else[])
theorem aif (hs:jS s) {ton:Nat} (ht:ton<1000) {aK:List ai} {on:ai}:∀p,p∈Ba s ton aK on->p.length<=3:=λp hp=>by
 unfold Ba at hp
 rcases mA.1 hp with hp|hp
 ·obtain⟨x,_,rfl⟩:=List.mem_map.1 hp
  exact sM (Gw hs x)
 ·split at hp
  ·simp only[List.mem_singleton] at hp;rw[hp];exact sM ht
  ·simp at hp
theorem aih (s:cD) (ton:Nat) (aK:List ai) (on:ai):(Ba s ton aK on).length<=aK.length+1:=by
 unfold Ba
 rw[lA,List.length_map]
 split<;>simp
theorem aii (m:Mk) (s:cD) (ton:Nat) (aK:List ai) (on aM kind:ai) (bY:List ai) {R TY:List ai} {W C0 P0:ai} {r:Nat} (hR:R=Ba s ton aK on) (Bb:TY=lF s aK on) (hW:W=dR [116] TY) (hC:C0=dR [99] (W::bY)) (hP:P0=dR [116] [C0,W]) (hr:r=m.types.length):
  oS m s ton aK on aM kind bY=⟨(((((((m.cY W).cA lx (aT r::R)).cY C0).cA sy [aT (r+1),aM]).cY P0).cA lx [aT (r+2),aT (r+1),aT r]).cY kind).cA sA [aT (r+3),aT (r+2),kind,W],r+3,W⟩:=by
 subst hP;subst hC;subst hW;subst Bb;subst hR;subst hr;rfl
theorem VG (t:Tk) (m:Mk) (aK:List ai) (on aM kind:ai) (bY:List ai) (eK:∀x,x∈aK->dN x=true∧(look (ew t.sc) x).isSome=true) (hs:jS t.sc) (nD:t.sc.length<=9000) (oF:aK.length<=40) (rh:t.on<1000) (ky:on.length<=272) (GA:aM.length<=10) (wT:kind.length<=272) (dL:bY.length<=2) (MT:∀x,x∈bY->x.length<=272) (ht:m.types.length+4<1000) (hc:m.code.length<=8000) 
  (E L:List Nat) (b bt:Nat) (vn vd:Value) (w:World) (h:dG t8 E L w b true m) (hT:gI L w 166 bt t) (dX:bt∈E) (jJ:bc L w vn aK) (um:bc L w vd bY):
  bz Tryz.prog 243 [.pointer (some ⟨b,0,none⟩),.pointer (some ⟨bt,0,none⟩),vn,str on,str aM,str kind,vd] w λr w'=>r= .tuple #[.int .i64 ((oS m t.sc t.on aK on aM kind bY).r:Int),str (oS m t.sc t.on aK on aM kind bY).w]∧∃L',dG t8 E L' w' b true (oS m t.sc t.on aK on aM kind bY).m∧dS E L w L' w':=by
 obtain⟨an,nn,cn,rfl,rN⟩:=dJ jJ
 obtain⟨ad,nd,cd,rfl,iS⟩:=dJ um
 obtain⟨R,Hu⟩:∃x,x=Ba t.sc t.on aK on:=⟨_,rfl⟩
 obtain⟨TY,Bb⟩:∃x,x=lF t.sc aK on:=⟨_,rfl⟩
 obtain⟨W,hW⟩:∃x,x=dR [116] TY:=⟨_,rfl⟩
 obtain⟨C0,Kg⟩:∃x,x=dR [99] (W::bY):=⟨_,rfl⟩
 obtain⟨P0,sd⟩:∃x,x=dR [116] [C0,W]:=⟨_,rfl⟩
 obtain⟨r,Hv⟩:∃r,r=m.types.length:=⟨_,rfl⟩
 obtain⟨c,Oi⟩:∃c,c=m.code.length:=⟨_,rfl⟩
 have t0:m.types.length=r:=Hv.symm
 have c0:m.code.length=c:=Oi.symm
 rw[aii m t.sc t.on aK on aM kind bY Hu Bb hW Kg sd Hv]
 have hWl:W.length<=11200:=by rw[hW,Bb];exact Gx hs oF ky
 have hRl:R.length<=41:=by rw[Hu];have:=aih t.sc t.on aK on;omega
 have S2:TY.length<=41:=by rw[Bb];have:=Tt t.sc aK on;omega
 have Oj:∀p,p∈R->p.length<=3:=by rw[Hu];exact aif hs rh
 have se:∀p,p∈TY->p.length<=272:=by rw[Bb];exact Tu hs ky
 have hCl:C0.length<=12000:=by
  have h1:=AM bY MT
  have h2:bY.length*(272+1)<=2*(272+1):=Nat.mul_le_mul dL (lR _)
  have h3:ju (W::bY)=1+W.length+ju bY:=by unfold ju;simp;omega
  rw[Kg,lE,h3];simp only[lC,List.length_nil];omega
 have Kh:P0.length<=25000:=by rw[sd,lE,AO];simp only[lC,List.length_nil];omega
 have aik:=h
 refine bS [.tmp 14,.tmp 15] 131 Tryz.func243 rfl ab9 rfl rfl ?_
 refine zr<|zA<|zA<|aZ<|zr<|fQ bh bf λw1 aI Cm ag7=>?_
 have Hw:=aI
 refine zA<|aZ<|zr<|fQ bh bf λw2 az C5 ail=>?_
 have hP:=C4.start aik Hw Cm az C5
 refine zA<|aZ<|jL<|zr<|zA<|aZ<|tj<|eA (λq:Nat×(Value×Option Nat)×(Value×Option Nat)=>[(0,.pointer (some ⟨b,0,none⟩)),(1,.pointer (some ⟨bt,0,none⟩)),(2,.slice an nn cn),(3,str on),(4,str aM),(5,str kind),(6,.slice ad nd cd),(16,q.2.1.1),(17,q.2.2.1),(18,.int .i64 (q.1:Int))]) (λq w'=>C4 E L w b m q.2.1.1 q.2.1.2 (A9 t.sc aK q.1) q.2.2.1 q.2.2.2 (yL t.sc aK q.1) w'∧q.1<=aK.length) (λq=>aK.length-q.1) ((0,(.slice (some ⟨w.heap.size,0,none⟩) 0 0,some w.heap.size),(.slice (some ⟨w1.heap.size,0,none⟩) 0 0,some w1.heap.size))) (⟨rfl,rfl,rfl,rfl,rfl,rfl,rfl,rfl,rfl,rfl⟩) (⟨hP,sm⟩) λgg w3 e3 hI=>?_
 obtain⟨k,⟨vr,gr⟩,vt,gt⟩:=gg
 obtain⟨⟨X,L1,hX⟩,hk⟩:=hI
 dsimp only at hX hk
 refine jL<|zr<|zm<|zm<|Fq bh rfl rfl rfl<|H9 rfl rfl rfl rfl rfl<|aZ<|zc rfl (λh1=>?_) (λh1=>?_)
 have az:k<aK.length:=(by simp at h1;omega)
 have hx:=km az
 have C6:=List.mem_of_getElem? hx
 have mm:=En (eK _ C6).1
 have aim:=jJ.go hX.fe.fr
 have cI:=hX.fe.tk hT dX
 have aQ:=pB aim hx
 obtain⟨b1,eX,e1,bK⟩:=aQ
 cases e1
 refine WI ?_
 refine zi bh bf rfl rfl (by rw[rN];omega)<|zl gD rfl (bK 0 _ rfl)<|aA (AK (bX aK k) w3) ?_
 rintro _ w4 ⟨rfl,aO⟩
 have fE:=aO.size
 have hX:=hX.ext aO
 refine aA (C1 t (bX aK k) m om om om nD (X++E) L1 b bt _ _ _ w4 hX.mb (hX.fe.tk hT dX) (mR _ dX)) ?_
 rintro v41 w5 ⟨VH,L2,Hq,jq⟩
 rw[ah8 (eK _ C6).1] at VH Hq
 subst VH
 have hX:=hX.call Hq jq
 refine aA (ir (kn t.sc (bX aK k)+1) (kn t.sc (bX aK k)) om (by have:=Gw hs (bX aK k);omega) w5) ?_
 rintro _ w6 ⟨rfl,bN⟩
 have oo:=bN.size
 have hX:=hX.ext bN
 refine fc bh bf rfl rfl λw7 bW ain oX=>?_
 have hX:=hX.ext bW
 refine rV bh bf rfl rfl rfl rfl rfl rfl hX.s1 ain (by have:=aib (s:=t.sc) (aK:=aK) (k:=k);omega) λv9 g9 w8 cZ cE eZ=>?_
 rw[<-ah9 az] at cZ
 have aQ:=hX.Ht cZ cE (eZ.imp id (λh=>⟨_,h,lR _⟩))
 obtain⟨X2,L2,hX⟩:=aQ
 have VI:=hX
 have ey:∀x,x∈gt.toList->x∈L2:=(λx hx=>hX.mb.sub (List.mem_append_left _ (hX.x2 x hx).1))
 have aQ:=hX.fe.tk hT dX
 obtain⟨u1,u3,u4,u5,u6,u8,yK,hC⟩:=aQ
 have cX:dM gt.toList w8 bt [str t.aM,u1,.int .i64 (t.loads:Int),u3,u4,u5,u6,str t.expr.au.aw,u8,.int .i64 (t.on:Int),str t.aV,.int .i64 (t.next:Int)].toArray 166:=⟨yK,λhx=>hX.xE bt (hX.x2 bt hx).1 dX⟩
 have GK:bc gt.toList w8 u4 (jE t.sc):=bc.fresh hC.aK (λx hx=>.inl (ey x hx))
 have Ok:bc gt.toList w8 u6 (oT t.sc):=bc.fresh hC.types (λx hx=>.inl (ey x hx))
 have yM:bc gt.toList w8 (.slice (some ⟨b1,eX,none⟩) nn cn) aK:=bc.fresh (jJ.go hX.fe.fr) (λx hx=>.inl (ey x hx))
 have aQ:=nN yM az
 obtain⟨b2,lG,e2,bU⟩:=aQ
 cases e2
 have pS:eO gt.toList w8:=(λx hx=>hX.s2.lt x hx)
 refine zA<|aZ ?_
 apply jF dj gt.toList 17 (rA 45 17) (rA 45 17) [[],[],[1],[2],[3],[],[5],[6],[7],[],[],[9,10],[11],[4,8,12],[13],[14],[0,15]] [Ie.v _,Ie.v _,Ie.v _,Ie.v _,Ie.v _,Ie.v _,Ie.v _,Ie.v _,Ie.v _,Ie.v _,Ie.v _,Ie.v _,Ie.v _,Ie.v _,Ie.v _,Ie.p (fun(G:List Nat) (v:Value) (ww:World)=>∃bb,v= .slice (some ⟨bb,0,none⟩) 1 1∧dM G ww bb [str (bu (j5 t.sc (bX aK k)))].toArray 9),Ie.e 0] [16] [fun(G:List Nat) (vs:List Value) (ww:World)=>G=gt.toList∧aj [] w8 ww,fun(G:List Nat) (vs:List Value) (ww:World)=>∃g2,cG ww 9 (vs.getD 0 undef) g2 (yL t.sc aK (k+1))∧aj gt.toList w8 ww∧(g2=gt∨∃x,g2=some x∧w8.heap.size<=x)] de rfl pS (by exact⟨λG v w G' w' ⟨bb,e,h⟩ k=>⟨bb,e,h.go k⟩,trivial⟩) (by exact⟨λG vs w w' ⟨h1,h2⟩ k=>⟨h1,h2.ext k⟩,λG vs w w' ⟨g2,h1,h2,h3⟩ k=>⟨g2,h1.ext k,h2.ext k,h3⟩,trivial⟩) (⟨rfl,aj.refl _ _⟩)
 refine vf (λ_ _ _ _ _ _=>WZ fv) ?_
 refine vf (λ_ _ _ _ _ _=>WZ fv) ?_
 refine vf (λ_ _ _ _ _ _=>WZ fv) ?_
 refine vf (λ_ _ _ _ _ _=>WZ fv) ?_
 refine vf (λx w9 G9 aS cP mI=>?_) ?_
 have cX:=cX.go cP
 refine WZ ?_
 exact fv
 refine vf (λ_ _ _ _ _ _=>WZ fv) ?_
 refine vf (λ_ _ _ _ _ _=>WZ fv) ?_
 refine vf (λ_ _ _ _ _ _=>WZ fv) ?_
 refine FA ?_
 refine vf (λx w9 G9 aS cP mI=>?_) ?_
 have GK:=GK.go cP;have Ok:=Ok.go cP
 refine aA (GN (jE t.sc) (oT t.sc) (by simp[jE,oT]) (by simp[jE];omega) (bX aK k) _ _ _ _ w9 GK Ok) ?_
 rintro _ cu ⟨rfl,cB⟩
 have CG:=cB.size
 exact fk cB
 refine vf (λx w9 G9 aS cP mI=>?_) ?_
 refine aA ((Oh (eK _ C6).2▸vK (j5 t.sc (bX aK k)) (by have:=Jg hs (bX aK k);omega) w9)) ?_
 rintro _ cu ⟨rfl,cB⟩
 have CG:=cB.size
 exact fk cB
 refine vf (λx w9 G9 aS cP mI=>?_) ?_
 refine fc bh bf rfl rfl λcu cB Hx Cg=>?_
 exact ff cB (⟨_,rfl,Hx.o mI⟩)
 refine ve 0 (λx w9 G9 aS cP mI hJ hlen=>?_) ?_
 have aW:=jh hlen
 subst aW
 intro A1 d15
 obtain⟨bb,e6,fH⟩:=d15
 subst e6
 obtain⟨bO,bP⟩:=hJ
 subst bO
 have aio:=VI.s2.ext bP
 refine rV bh bf rfl rfl rfl rfl rfl rfl aio fH.gX (by have:=aic (s:=t.sc) (aK:=aK) (k:=k);omega) λv9 g9 cu cZ aB eZ=>?_
 rw[<-aia az] at cZ
 exact fe g9.toList (⟨aB,λx hx=>by rcases eZ with h|h;(·rw[h] at hx;exact .inl hx);(·rw[h] at hx;simp at hx;right;omega)⟩) ((λx hx=>cZ.lt x hx)) (⟨g9,cZ,bP.any.trans aB,eZ.imp id (λh=>⟨_,h,bP.size⟩)⟩)
 exact trivial
 intro x lJ JT aS EI ND hJ hlen
 have aQ:=ji hlen
 obtain⟨q0,aW⟩:=aQ
 subst aW
 intro A1 d15
 change OW _ _ _ _ _ (bo (bj _ x _) (zZ 45 [_,_,_,_,_,_,_,_,_,_,_,_,_,_,_,_,_])) _
 obtain⟨g2,cZ,aB,eZ⟩:=hJ
 have Ol:=VI.AY cZ aB eZ
 refine zA<|aZ<|kH<|zm<|mY rfl rfl rfl rfl rfl (wrap_i64 _ om om)<|zA<|aZ ?_
 exact⟨(k+1,(_,_),(_,g2)),⟨rfl,rfl,rfl,rfl,rfl,rfl,rfl,rfl,rfl,rfl⟩,⟨Ol,by show k+1<=_;omega⟩,by show aK.length-(k+1)<aK.length-k;omega⟩
 have ej:k=aK.length:=(by simp at h1;omega)
 subst ej
 rw[aid,aie] at hX
 refine zj<|zk rfl<|jL<|zr<|zm<|K2 rfl rfl rfl rfl<|aZ<|ix (λq:(Value×Option Nat)×(Value×Option Nat)=>[(0,.pointer (some ⟨b,0,none⟩)),(4,str aM),(5,str kind),(6,.slice ad nd cd),(16,q.1.1),(17,q.2.1)]) (λq ww=>C4 E L w b m q.1.1 q.1.2 R q.2.1 q.2.2 TY ww) ?_ ?_
 refine zc rfl (λh2=>?_) (λh2=>?_)
 have Hy:on≠[]:=(by simpa using h2)
 have Om:aK.map (λx=>aT (kn t.sc x))++[aT t.on]=R:=(by rw[Hu];unfold Ba;rw[iP Hy])
 have Oo:aK.map (λx=>bu (j5 t.sc x))++[on]=TY:=(by rw[Bb];unfold lF;rw[iP Hy])
 have aQ:=hX.fe.tk hT dX
 obtain⟨u1,u3,u4,u5,u6,u8,yK,hC⟩:=aQ
 have cX:aJ w3 bt [str t.aM,u1,.int .i64 (t.loads:Int),u3,u4,u5,u6,str t.expr.au.aw,u8,.int .i64 (t.on:Int),str t.aV,.int .i64 (t.next:Int)].toArray 166:=yK
 refine zr<|zm<|zm<|Fp rfl rfl rfl<|zf RZ rfl<|zl LW rfl (cX.at rfl)<|aA (ir (t.on+1) t.on om om w3) ?_
 rintro _ w4 ⟨rfl,aO⟩
 have fE:=aO.size
 have hX:=hX.ext aO
 refine fc bh bf rfl rfl λw5 aN Oq ig=>?_
 have hX:=hX.ext aN
 refine rV bh bf rfl rfl rfl rfl rfl rfl hX.s1 Oq so λv9 g9 w6 cZ bN eZ=>?_
 rw[Om] at cZ
 have aQ:=hX.Ht cZ bN (eZ.imp id (λh=>⟨_,h,lR _⟩))
 obtain⟨X3,L3,hX⟩:=aQ
 refine zA<|aZ<|kH<|zm<|zm<|fc bh bf rfl rfl λw7 bW Ot oX=>?_
 have hX:=hX.ext bW
 refine rV bh bf rfl rfl rfl rfl rfl rfl hX.s2 Ot so λv10 g10 w8 VJ cE aip=>?_
 rw[Oo] at VJ
 have Ol:=hX.AY VJ cE (aip.imp id (λh=>⟨_,h,lR _⟩))
 refine zA<|aZ ?_
 exact⟨((_,g9),(_,g10)),⟨rfl,rfl,rfl,rfl,rfl,rfl⟩,Ol⟩
 have Hy:¬on≠[]:=(by simpa using h2)
 have Om:aK.map (λx=>aT (kn t.sc x))=R:=(by rw[Hu];unfold Ba;rw[iN Hy,List.append_nil])
 have Oo:aK.map (λx=>bu (j5 t.sc x))=TY:=(by rw[Bb];unfold lF;rw[iN Hy,List.append_nil])
 rw[Om,Oo] at hX
 refine WZ ?_
 exact⟨((_,_),(_,_)),⟨rfl,rfl,rfl,rfl,rfl,rfl⟩,_,_,hX⟩
 intro gu w4 e4 hI
 obtain⟨⟨vr2,gr2⟩,Cp,gt2⟩:=gu
 dsimp only at hI⊢
 obtain⟨X2,L2,hX2⟩:=hI
 have aQ:=hX2.done
 obtain⟨L0,av,hR,yN,eR⟩:=aQ
 refine zr<|zm<|aA ((show bz Tryz.prog 135 [str [116],Cp] w4 (λr w'=>r=str W∧aj [] w4 w') from by rw[hW];exact ye [116] TY (by rw[<-hW];omega) _ _ w4 eR)) ?_
 rintro _ w5 ⟨rfl,aN⟩
 have l3:=aN.size
 refine cN aN av hR yN λav hR yN=>?_
 refine zA<|aZ<|zr<|zm<|zm<|aA (r7 W m om E L0 b true w5 av) ?_
 rintro v10 w6 ⟨fo,L1,av,bC⟩
 rw[t0] at fo
 subst fo
 have hR:=hR.go bC
 have ik:∃x,x=m.cY W:=⟨_,rfl⟩
 obtain⟨m1,ll⟩:=ik
 rw[<-ll] at av
 have t1:m1.types.length=r+1:=(by rw[ll,yk];omega)
 have c1:m1.code.length=c+0:=(by rw[ll,C3];omega)
 have cR:=av.db
 have yN:=yN.go bC.fr
 refine zA<|aZ<|zr<|zm<|zm<|aA (ir (r+1) r om om w6) ?_
 rintro _ w7 ⟨rfl,bW⟩
 have lf:=bW.size
 refine cN bW av hR yN λav hR yN=>?_
 have cR:=av.db
 refine fc bh bf rfl rfl λw8 cE EX ld=>cN cE av hR yN λav hR yN=>?_
 refine zm<|aA (tY [aT r] R so _ _ L1 w8 (aJ.dK [aT r] EX (λhx=>by have:=cR _ hx;omega)) yN av.db) ?_
 rintro v9 w9 ⟨eS,aB⟩
 have o7:=aB.size
 refine cN aB av hR EX λav hR EX=>?_
 have VK:=eS
 have aQ:=dJ VK
 obtain⟨a13,n13,c13,Hs,_⟩:=aQ
 subst Hs
 clear EX
 refine aA (kG lx ([aT r]++R) (mh de so (by intro p hp;rcases mA.1 hp with hp|hp;(·simp at hp;subst hp;exact lP om);(·have:=Oj p hp;omega))) m1 om E L1 b _ w9 av VK) ?_
 rintro jC cu ⟨L2,av,bC⟩
 have hR:=hR.go bC
 have fj:∃x,x=m1.cA lx ([aT r]++R):=⟨_,rfl⟩
 obtain⟨m2,ln⟩:=fj
 rw[<-ln] at av
 have t2:m2.types.length=r+1:=(by rw[ln,oe];omega)
 have c2:m2.code.length=c+1:=(by rw[ln,ph];omega)
 have cR:=av.db
 have Ou:=um.go hR.fr
 refine aZ<|zr<|zm<|fc bh bf rfl rfl λeD dd Ki vj=>cN dd av hR Ou λav hR Ou=>?_
 refine zm<|aA (tY [W] bY so _ _ L2 eD (aJ.dK [W] Ki (λhx=>by have:=cR _ hx;omega)) Ou av.db) ?_
 rintro v12 fA ⟨Hz,di⟩
 have EM:=di.size
 refine cN di av hR Ki λav hR Ki=>?_
 have VL:=Hz
 have aQ:=dJ VL
 obtain⟨a14,n14,c14,gS,_⟩:=aQ
 subst gS
 clear Ki
 refine aA ((show bz Tryz.prog 135 [str [99],.slice a14 n14 c14] fA (λr w'=>r=str C0∧aj [] fA w') from by rw[Kg];exact ye [99] (W::bY) (by rw[<-Kg];omega) _ _ fA VL)) ?_
 rintro _ jB ⟨rfl,gv⟩
 have Hp:=gv.size
 refine bI gv av hR λav hR=>?_
 refine zA<|aZ<|zr<|zm<|zm<|aA (r7 C0 m2 om E L2 b true jB av) ?_
 rintro v10 iG ⟨fo,L3,av,bC⟩
 rw[t2] at fo
 subst fo
 have hR:=hR.go bC
 have yO:∃x,x=m2.cY C0:=⟨_,rfl⟩
 obtain⟨m3,lp⟩:=yO
 rw[<-lp] at av
 have t3:m3.types.length=r+2:=(by rw[lp,yk];omega)
 have c3:m3.code.length=c+1:=(by rw[lp,C3];omega)
 have cR:=av.db
 refine zA<|aZ<|zr<|zm<|zm<|aA (ir ((r+1)+1) (r+1) om om iG) ?_
 rintro _ pZ ⟨rfl,jI⟩
 have Ov:=jI.size
 refine bI jI av hR λav hR=>?_
 have cR:=av.db
 refine zm<|kJ bh bf rfl rfl rfl rfl λlk mJ C7 GV=>bI mJ av hR λav hR=>?_
 refine aA (kG sy [aT (r+1),aM] (mh de sm (by intro p hp;simp at hp;rcases hp with rfl|rfl;(·exact lP om);(·omega))) m3 om E L3 b _ lk av (aJ.dK [aT (r+1),aM] C7 (λhx=>by have:=cR _ hx;omega))) ?_
 rintro jC CZ ⟨L4,av,bC⟩
 have hR:=hR.go bC
 clear C7
 have C8:∃x,x=m3.cA sy [aT (r+1),aM]:=⟨_,rfl⟩
 obtain⟨m4,ov⟩:=C8
 rw[<-ov] at av
 have t4:m4.types.length=r+2:=(by rw[ov,oe];omega)
 have c4:m4.code.length=c+2:=(by rw[ov,ph];omega)
 have cR:=av.db
 refine aZ<|zr<|zm<|zm<|zm<|kJ bh bf rfl rfl rfl rfl λxr C9 Kj NZ=>bI C9 av hR λav hR=>?_
 refine aA ((show bz Tryz.prog 135 [str [116],_] xr (λr w'=>r=str P0∧aj [] xr w') from by rw[sd];exact ye [116] [C0,W] (by rw[<-sd];omega) _ L4 xr (aJ.dK [C0,W] Kj (λhx=>by have:=cR _ hx;omega)))) ?_
 rintro _ Da ⟨rfl,Bc⟩
 have apw:=Bc.size
 refine cN Bc av hR Kj λav hR Kj=>?_
 clear Kj
 refine aA (r7 P0 m4 om E L4 b true Da av) ?_
 rintro v10 vO ⟨fo,L5,av,bC⟩
 rw[t4] at fo
 subst fo
 have hR:=hR.go bC
 have Ow:∃x,x=m4.cY P0:=⟨_,rfl⟩
 obtain⟨m5,yP⟩:=Ow
 rw[<-yP] at av
 have t5:m5.types.length=r+3:=(by rw[yP,yk];omega)
 have c5:m5.code.length=c+2:=(by rw[yP,C3];omega)
 have cR:=av.db
 refine zA<|aZ<|zr<|zm<|zm<|aA (ir ((r+2)+1) (r+2) om om vO) ?_
 rintro _ rp ⟨rfl,xu⟩
 have apx:=xu.size
 refine bI xu av hR λav hR=>?_
 have cR:=av.db
 refine zm<|aA (ir ((r+1)+1) (r+1) om om rp) ?_
 rintro _ Kk ⟨rfl,HA⟩
 have apy:=HA.size
 refine bI HA av hR λav hR=>?_
 have cR:=av.db
 refine zm<|aA (ir (r+1) r om om Kk) ?_
 rintro _ VM ⟨rfl,Kl⟩
 have apz:=Kl.size
 refine bI Kl av hR λav hR=>?_
 have cR:=av.db
 refine pM bh bf rfl rfl rfl rfl rfl λw24 Be Km aiv=>bI Be av hR λav hR=>?_
 refine aA (kG lx [aT (r+2),aT (r+1),aT r] (mh de sm (by intro p hp;simp at hp;rcases hp with rfl|rfl|rfl<;>exact lP om)) m5 om E L5 b _ w24 av (aJ.dK [aT (r+2),aT (r+1),aT r] Km (λhx=>by have:=cR _ hx;omega))) ?_
 rintro jC w25 ⟨L6,av,bC⟩
 have hR:=hR.go bC
 clear Km
 have Ox:∃x,x=m5.cA lx [aT (r+2),aT (r+1),aT r]:=⟨_,rfl⟩
 obtain⟨m6,yQ⟩:=Ox
 rw[<-yQ] at av
 have t6:m6.types.length=r+3:=(by rw[yQ,oe];omega)
 have c6:m6.code.length=c+3:=(by rw[yQ,ph];omega)
 have cR:=av.db
 refine aZ<|zr<|zm<|zm<|aA (r7 kind m6 om E L6 b true w25 av) ?_
 rintro v10 w26 ⟨fo,L7,av,bC⟩
 rw[t6] at fo
 subst fo
 have hR:=hR.go bC
 have hx7:∃x,x=m6.cY kind:=⟨_,rfl⟩
 obtain⟨m7,Kn⟩:=hx7
 rw[<-Kn] at av
 have t7:m7.types.length=r+4:=(by rw[Kn,yk];omega)
 have c7:m7.code.length=c+3:=(by rw[Kn,C3];omega)
 have cR:=av.db
 refine zA<|aZ<|zr<|zm<|zm<|aA (ir ((r+3)+1) (r+3) om om w26) ?_
 rintro _ w27 ⟨rfl,VN⟩
 have apA:=VN.size
 refine bI VN av hR λav hR=>?_
 have cR:=av.db
 refine zm<|aA (ir ((r+2)+1) (r+2) om om w27) ?_
 rintro _ w28 ⟨rfl,VO⟩
 have apC:=VO.size
 refine bI VO av hR λav hR=>?_
 have cR:=av.db
 refine zm<|zm<|yh bh bf rfl rfl rfl rfl rfl rfl λw29 aiB VP JL=>bI aiB av hR λav hR=>?_
 refine aA (kG sA [aT (r+3),aT (r+2),kind,W] (mh de sm (by intro p hp;simp at hp;rcases hp with rfl|rfl|rfl|rfl;(·exact lP om);(·exact lP om);(·omega);(·omega))) m7 om E L7 b _ w29 av (aJ.dK [aT (r+3),aT (r+2),kind,W] VP (λhx=>by have:=cR _ hx;omega))) ?_
 rintro jC w30 ⟨L8,av,bC⟩
 have hR:=hR.go bC
 clear VP
 have VQ:∃x,x=m7.cA sA [aT (r+3),aT (r+2),kind,W]:=⟨_,rfl⟩
 obtain⟨m8,Ko⟩:=VQ
 rw[<-Ko] at av
 have t8:m8.types.length=r+4:=(by rw[Ko,oe];omega)
 have c8:m8.code.length=c+4:=(by rw[Ko,ph];omega)
 have cR:=av.db
 refine aZ<|zr<|zm<|zm<|zA<|zA<|aZ<|jZ ?_
 subst Ko Kn yQ yP ov lp ln ll
 exact⟨_,rfl,rfl,_,av,hR⟩
theorem VR {i:Nat} {aK:List ai} (h:i<aK.length):im s k (aK.take (i+1)) []=im s k (aK.take i) []++[(bX aK i,k+i,j5 s (bX aK i))]:=by grind [im,km,List.take_add_one,Option.toList_some,List.length_take,Nat.min_eq_left,Nat.le_of_lt]
def qH:Ex:=.bi [43] (.at [49]) (.at [50])
def Kp:ai:=[40,43,32,49,32,50,41]
theorem aiC:nq qH=some qH:=rfl
theorem Oy:qH.ok:=by refine⟨by decide,?_,?_⟩<;>(show qg _=true;decide+kernel)
theorem VS:qH.au.text=Kp:=by decide+kernel
theorem VT:bA Kp=some qH.au:=by
 rw[<-VS]
 exact LG (Ex.wf Oy) (by decide+kernel) (by decide+kernel)
theorem type12:bw qH []=some .i:=by rfl
theorem aiD:(ofM qH .i).wide=false:=by decide+kernel
theorem aiE:jt (ofM qH .i).blocks=true:=by decide+kernel
theorem aiF (e:Ex):Fv x e->dN x=true:=by
 induction e with
 |«at» s=>exact λh=>h.2
 |un hd a ih=>exact ih
 |bi hd a b i1 i2=>exact λh=>h.elim i1 i2
 |ite a b c i1 i2 i3=>exact λh=>h.elim i1 λh=>h.elim i2 i3
 |lt y a b i1 i2=>exact λh=>h.elim i1 λh=>i2 h.2
 |fn f y A B e ih=>exact λh=>ih h.2.2
theorem VU {bd:List ai} (h:x∈cH e bd []):dN x=true:=by
 rcases(B3 x e bd []).1 h with h|h
 ·simp at h
 ·exact aiF _ h.1
theorem VV (x0:ByteArray) (a1:Option Addr) (n1 c1:Nat) (x2:Int) (x7:ByteArray) (a8:Option Addr) (n8 c8:Nat) (x9:Int) (EY:ByteArray) (VW:Int) (w:World):(Instr.build 166 #[(0,.string x0),(1,.slice a1 n1 c1),(2,.int .i64 x2),(7,.agg #[.string x7,.slice a8 n8 c8]),(8,.int .i64 x9),(9,.string EY),(10,.int .i64 VW)]).run Tryz.prog w= .ok (.agg #[.string x0,.slice a1 n1 c1,.int .i64 x2,.slice none 0 0,.slice none 0 0,.slice none 0 0,.slice none 0 0,.string x7,.slice a8 n8 c8,.int .i64 x9,.string EY,.int .i64 VW]) w:=by kernel_rfl
def sY (X G:List Nat) (w:World) (v:Value) (xs:List ai):Prop:=bc (X++G) w v xs
theorem sY.go {X G':List Nat} {v:Value} {xs:List ai} (h:sY X G w v xs) (k:Fr G w G' w'):sY X G' w' v xs:=bc.go h (k.in X)
theorem Kq {X:List Nat} {w0:World} (h:∀x,x∈X->x<w0.heap.size) (hs:w0.heap.size<=w.heap.size) (hG:eO G w):∀x,x∈X++G->x<w.heap.size:=λx hx=>by
 rcases mA.1 hx with h1|h1
 ·exact lL (h x h1) hs
 ·exact hG x h1
theorem dS.more {L1:List Nat} {w2:World} (h:dS E L w L1 w1) {x:Nat} (k:aj G w1 w2) (hG:∀y,y∈G->w1.heap.size<=y) (hx:w1.heap.size<=x) (hE:∀y,y∈E->y<w1.heap.size):dS E L w (x::L1) w2:=by
 have k2:aj [] w1 w2:=(aj.refl [] w1).since k λy hy=>.inr (hG y hy)
 have h1:=h.ext k2
 exact⟨⟨h1.fr.aF,λy hy=>by
  rcases mC.1 hy with rfl|hy
  ·exact .inr (Nat.le_trans h.fr.aF.size hx)
  ·exact h.fr.mem y hy⟩,h1.out⟩
theorem dS.sub {L1 L2:List Nat} (h:dS E L w L1 w1) (hs:∀x,x∈L2->x∈L1):dS E L w L2 w1:=⟨⟨h.fr.aF,λx hx=>h.fr.mem x (hs x hx)⟩,h.out⟩
def uo (aM:ai) (W:ai) (nd:List ai) (FR:List ai) (rest:Ex) (aV:ai) (sc:cD):Tk:=⟨aM,W::nd,FR.length+1,[],sc,rest,2+FR.length,aV,2⟩
theorem aiG (m:Mk) (s:cD) (ton:Nat) (aV name:ai) (kind:Ty) (rest:Ex) {FR:List ai} (hF:FR=cH rest [name] []) (hP:P=oS m.k7 s ton FR aV m.aM (dz (bu kind)) [bu kind]):
  tO m s ton aV name kind rest=({P.m with bF:=m.bF++[uo m.aM P.w [bu kind] FR rest aV (im s 2 FR []++[(name,1,kind)])]},P.r,dz (bu kind)):=by
 subst hP;subst hF;rfl
theorem VX {ton:Nat} {aK:List ai} {on aM kind:ai} {bY:List ai} (hP:P=oS m.k7 s ton aK on aM kind bY):P.m.bF=m.bF∧P.r=m.types.length+3∧P.w=dR [116] (lF s aK on):=by
 subst hP;exact⟨rfl,rfl,rfl⟩
theorem VY (t:Tk) (m:Mk) (name:ai) (kind:Ty) (rest:Ex) (ba:rest.ok) (rj:rest.n<=1000) (sN:∀x,x∈cH rest [name] []->(look (ew t.sc) x).isSome=true) (mE:(cH rest [name] []).length<=40) (hs:jS t.sc) (nD:t.sc.length<=9000) (hk:kind.n<=16) (rh:t.on<1000) (ky:t.aV.length<=272) (ht:m.types.length+4<1000) (hc:m.code.length<=8000) (xw:m.count<1000) (fF:m.bF.length<100000) 
  (E L:List Nat) (b bt:Nat) (v:Value) (w:World) (h:dG t8 E L w b true m) (hT:gI L w 166 bt t) (dX:bt∈E) (hv:bB L w v rest.au):
  bz Tryz.prog 223 [.pointer (some ⟨b,0,none⟩),.pointer (some ⟨bt,0,none⟩),str name,str kind.text,v] w λr w'=>∃L',dG t8 E L' w' b true (tO m t.sc t.on t.aV name kind rest).1∧gI L' w' 166 bt {t with on:=(tO m t.sc t.on t.aV name kind rest).2.1,aV:=(tO m t.sc t.on t.aV name kind rest).2.2}∧Fr L w L' w'∧∃G,aj G w w'∧∀z,z∈G->z∈E->z=bt:=by
 obtain⟨ar,nr,cr,rfl,p4,aP⟩:=cU hv
 have lq:=h.db
 obtain⟨FR,yR⟩:∃x,x=cH rest [name] []:=⟨_,rfl⟩
 obtain⟨P,hP⟩:∃x,x=oS m.k7 t.sc t.on FR t.aV m.aM (dz (bu kind)) [bu kind]:=⟨_,rfl⟩
 rw[aiG m t.sc t.on t.aV name kind rest yR hP]
 obtain⟨HB,Bf,hPw⟩:=VX hP
 rw[<-yR] at mE sN
 have eK:∀x,x∈FR->dN x=true∧(look (ew t.sc) x).isSome=true:=λx hx=>⟨VU (by rw[<-yR];exact hx),sN x hx⟩
 have fb:=pN hk
 have oF:=tU hk
 have yb:=AP xw
 have hK:=aj.refl [] w
 have uq:b∉E:=h.mem.2.2.1
 have EZ:b∈L:=h.mem.1 b sm
 refine bS [] 109 Tryz.func223 rfl abZ rfl rfl ?_
 refine zr<|eH rfl λw1 aI cW dk=>?_
 have hK:=hK.ext aI
 refine W ?_
 refine fc bh bf rfl rfl λw2 az sV dC=>bI az hK cW λhK cW=>?_
 refine fQ bh bf λw3 aH vC gJ=>cN aH hK cW sV λhK cW sV=>?_
 refine aA (JC rest.n rest (lR _) rj ba [name] [] so so _ _ _ (some w2.heap.size) w3 ((hv.fresh (L':=[w2.heap.size]) (λx hx=>.inr (by simp at hx;omega))).ext hK) (aJ.dK [name] sV (λhx=>by simp at hx;omega)) vC.kK) ?_
 rintro Kr w4 ⟨g22,HC,Bg⟩
 rw[<-yR] at HC
 have jH:aj [] w w4:=(hK.since Bg.aF (λx hx=>.inr (by simp at hx;omega)))
 have Oz:∀x,x∈g22.toList->w.heap.size<=x:=(λx hx=>by rcases Bg.mem x hx with h9|h9;(·simp at h9;omega);(·omega))
 have gT:bc L w4 Kr FR:=HC.rep (λx hx OB=>by have:=Oz x (by simp[hx]);have:=lq x OB;omega)
 have aQ:=dJ gT
 obtain⟨OC,n22,OD,OE,OF⟩:=aQ
 subst OE
 subst OF
 have cW:dM L w4 w.heap.size [str rest.au.aw,.slice ar nr cr].toArray 74:=⟨cW.aF Bg.aF so,λhx=>by have:=lq _ hx;omega⟩
 have av:=h.ext jH
 have hR:=(dS.refl E L w).ext jH
 clear sV vC
 refine W ?_
 refine aA (Oe m om E L b true w4 av) ?_
 rintro v24 w5 ⟨⟨OG,av⟩,Be⟩
 subst OG
 have hR:=hR.aD Be EZ uq
 have gT:=bQ.aD gT Be (by simpa using EZ)
 have cW:=cW.aD Be (by simpa using EZ)
 refine W ?_
 refine aA (vK kind om w5) ?_
 rintro _ w6 ⟨rfl,bN⟩
 have oo:=bN.size
 refine ie bN cW av hR gT λcW av hR gT=>?_
 refine aA (Hn (bu kind) om w6) ?_
 rintro _ w7 ⟨rfl,bW⟩
 have lf:=bW.size
 refine ie bW cW av hR gT λcW av hR gT=>?_
 have cR:=av.db
 refine W ?_
 refine aA (vK kind om w7) ?_
 rintro _ w8 ⟨rfl,cE⟩
 have AX:=cE.size
 refine ie cE cW av hR gT λcW av hR gT=>?_
 have cR:=av.db
 refine fc bh bf rfl rfl λw9 aB Bh df=>ie aB cW av hR gT λcW av hR gT=>?_
 refine W ?_
 have um:bc L w9 _ [bu kind]:=aJ.dK [bu kind] Bh (λhx=>by have:=cR _ hx;omega)
 have aQ:=hR.tk hT dX
 obtain⟨u1,u3,u4,u5,u6,u8,yK,hC⟩:=aQ
 have cX:aJ w9 bt [str t.aM,u1,.int .i64 (t.loads:Int),u3,u4,u5,u6,str t.expr.au.aw,u8,.int .i64 (t.on:Int),str t.aV,.int .i64 (t.next:Int)].toArray 166:=yK
 refine W ?_
 refine aA (VG t m.k7 FR t.aV m.aM (dz (bu kind)) [bu kind] eK hs nD mE rh ky om om sm (by intro x hx;simp at hx;subst hx;omega) ht hc E L b bt _ _ w9 av (hR.tk hT dX) dX gT um) ?_
 rintro v42 cu ⟨yt,L1,av,bC⟩
 rw[<-hP] at yt av
 subst yt
 have hR:=hR.go bC;have gT:=gT.go bC.fr;have um:=um.go bC.fr;have cW:=cW.go bC.fr
 have aiK:dM [] cu w.heap.size [str rest.au.aw,.slice ar nr cr].toArray 74:=⟨cW.gX,sm⟩
 have yM:sY L1 [] cu _ [bu kind]:=(by unfold sY;rw[List.append_nil];exact um)
 have aQ:=hR.tk hT dX
 obtain⟨u1,u3,u4,u5,u6,u8,yK,hC⟩:=aQ
 have cX:dM [] cu bt [str t.aM,u1,.int .i64 (t.loads:Int),u3,u4,u5,u6,str t.expr.au.aw,u8,.int .i64 (t.on:Int),str t.aV,.int .i64 (t.next:Int)].toArray 166:=⟨yK,sm⟩
 have ur:=av.db
 have apE:=cW
 have cW:=aiK
 have HD:=gT
 have lO:=av
 have uj:=hR
 clear Bh
 refine W ?_
 apply jF dj ([]) 18 (rA 45 17++[16]) (rA 45 17++[16]) [[],[],[1],[],[2,3],[],[5],[6],[],[],[9],[10],[],[12],[13],[14],[0,4,7,8,11,15],[]] [Ie.v _,Ie.v _,Ie.p (fun(G:List Nat) (v:Value) (ww:World)=>sY L1 G ww v [P.w]),Ie.v _,Ie.p (fun(G:List Nat) (v:Value) (ww:World)=>sY L1 G ww v ([P.w]++[bu kind])),Ie.v _,Ie.v _,Ie.v _,Ie.v _,Ie.v _,Ie.v _,Ie.v _,Ie.v _,Ie.v _,Ie.v _,Ie.v _,Ie.p (fun(G:List Nat) (v:Value) (ww:World)=>∃a4 n4 c4,v= .agg [str m.aM,.slice a4 n4 c4,.int .i64 ((FR.length+1:Nat):Int),.slice none 0 0,.slice none 0 0,.slice none 0 0,.slice none 0 0,str rest.au.aw,.slice ar nr cr,.int .i64 ((2+FR.length:Nat):Int),str t.aV,.int .i64 2].toArray∧sY L1 G ww (.slice a4 n4 c4) ([P.w]++[bu kind])),Ie.e 0] [17] [fun(G:List Nat) (vs:List Value) (ww:World)=>G=[]∧aj [] cu ww,fun(G:List Nat) (vs:List Value) (ww:World)=>∃bb,vs.getD 0 undef= .pointer (some ⟨bb,0,none⟩)∧G=[bb]∧cu.heap.size<=bb∧aJ ww bb [str [],.slice none 0 0,.int .i64 0,.slice none 0 0,.slice none 0 0,.slice none 0 0,.slice none 0 0,str [],.slice none 0 0,.int .i64 0,str [],.int .i64 0].toArray 166∧aj [] cu ww] de rfl ((λx hx=>by simp at hx)) (by exact⟨λG v w G' w' h k=>h.go k,λG v w G' w' h k=>h.go k,λG v w G' w' ⟨a4,n4,c4,e,h⟩ k=>⟨a4,n4,c4,e,h.go k⟩,trivial⟩) (by exact⟨λG vs w w' ⟨h1,h2⟩ k=>⟨h1,h2.ext k⟩,λG vs w w' ⟨bb,h1,h2,h3,h4,h5⟩ k=>⟨bb,h1,h2,h3,h4.ext k,h5.ext k⟩,trivial⟩) (⟨rfl,aj.refl _ _⟩)
 refine FA ?_
 refine vf (λx eD OH aS E0 HE=>?_) ?_
 refine fc bh bf rfl rfl λfA di aiL N4=>?_
 exact ff di ((aJ.dK [P.w] aiL (λhx=>by have:=Kq ur E0.aF.size HE _ hx;omega)))
 refine FA ?_
 refine vf (λx eD OH aS E0 HE=>?_) ?_
 have yM:=yM.go E0
 intro v2 d2
 have eu:=Kq ur E0.aF.size HE
 refine aA (tY [P.w] [bu kind] sm _ _ _ eD d2 yM eu) ?_
 rintro v12 fA ⟨Hz,di⟩
 have EM:=di.size
 have eS:=Hz
 exact ff di eS
 refine FA ?_
 refine vf (λx eD OH aS E0 HE=>?_) ?_
 intro v4 d4
 have aQ:=dJ d4
 obtain⟨a4,n4,c4,e4,_⟩:=aQ
 subst e4
 refine js (VV _ _ _ _ _ _ _ _ _ _ _ _ _) rfl rfl ?_
 exact ff (aj.refl _ _) (⟨a4,n4,c4,rfl,d4⟩)
 refine ve 0 (λx eD OH aS E0 HE hJ hlen=>?_) ?_
 have aW:=jh hlen
 subst aW
 obtain⟨bO,bP⟩:=hJ
 subst bO
 refine dy mr rfl rfl rfl λfA di wS GV=>?_
 exact fe ([_]) (⟨di.mono sm,λx hx=>by simp at hx;right;omega⟩) ((λx hx=>by simp at hx;omega)) (⟨_,rfl,rfl,bP.size,wS,bP.trans di⟩)
 exact trivial
 intro x ou G50 aS aiM apG hJ hlen
 have aQ:=ji hlen
 obtain⟨q0,aW⟩:=aQ
 subst aW
 intro v2 d2
 intro v4 d4
 intro CE d16
 have cX:=cX.go aiM
 change OW _ _ _ _ _ (bo (bj _ x _) (zZ 45 [_,_,_,_,_,_,_,_,_,_,_,_,_,_,_,_,_]++[(16,_)])) _
 obtain⟨bk,rY,bO,Db,fI,bP⟩:=hJ
 have vH:q0=_:=rY
 subst vH
 subst bO
 obtain⟨a4,n4,c4,Bi,OI⟩:=d16
 subst Bi
 refine cJ mr rfl rfl rfl fI rfl λlg kP fI df=>?_
 have iq:=fI.lt
 have xz:=bP.since kP (λx hx=>.inr (by simp at hx;omega))
 have av:=lO.sX xz sm Db iq
 have hR:=uj.more xz sm Db (λy hy=>ur y (lO.sub hy))
 have OJ:∀x,x∈bk::L1->x∈L1++[bk]:=(λx hx=>by simp at hx⊢;rcases hx with h|h;(·exact .inr h);(·exact .inl h))
 have vQ:bk∈bk::L1:=sm
 have E1:bk∉E:=(λhx=>by have:=ur bk (lO.sub hx);omega)
 have gT:=(HD.fresh (L':=bk::L1) (λx hx=>by rcases mC.1 hx with rfl|hx;(·exact .inr Db);(·exact .inl hx))).ext xz
 have A3:=eM.go aP hR.fr
 have fJ:gI (bk::L1) lg 166 bk (uo m.aM P.w [bu kind] FR rest t.aV (im t.sc 2 (FR.take 0) [])):=⟨_,_,_,_,_,_,fI,⟨(bQ.aD OI kP sm).fresh (λx hx=>.inl (OJ x hx)),.nil _ _ _,.nil _ _ _,.nil _ _ _,.nil _ _ _,A3⟩⟩
 refine W ?_
 refine eA (λi:Nat=>[(0,.pointer (some ⟨b,0,none⟩)),(1,.pointer (some ⟨bt,0,none⟩)),(2,str name),(3,str kind.text),(10,.slice OC FR.length OD),(12,str (dz (bu kind))),(14,.int .i64 (P.r:Int)),(16,.pointer (some ⟨bk,0,none⟩)),(17,.int .i64 (i:Int))]) (λi w'=>aj [bk] lg w'∧i<=FR.length∧gI (bk::L1) w' 166 bk (uo m.aM P.w [bu kind] FR rest t.aV (im t.sc 2 (FR.take i) []))) (λi=>FR.length-i) (0) (⟨rfl,rfl,rfl,rfl,rfl,rfl,rfl,rfl,rfl⟩) (⟨aj.refl _ _,Nat.zero_le _,fJ⟩) λgg A6 Ks hI=>?_
 obtain⟨da,hi,fJ⟩:=hI
 have av:=av.aF da sm
 have hR:=hR.aD da vQ E1
 have gT:=bQ.aD gT da sm
 refine W ?_
 refine zc rfl (λh1=>?_) (λh1=>?_)
 have lN:gg<FR.length:=(by simp at h1;omega)
 have C6:=List.mem_of_getElem? (km lN)
 have aQ:=hR.tk hT dX
 obtain⟨u1,u3,u4,u5,u6,u8,cX,hC⟩:=aQ
 have Dc:=hC.aK
 have Dd:=hC.types
 have aQ:=nN gT lN
 obtain⟨b2,lG,e2,bU⟩:=aQ
 cases e2
 have NV:=av.db
 refine WZ ?_
 apply dV dj 19 [68,69,70,71,72,73,74,75,76,77,78,79,80,81,82,83,84,85,86] [[],[],[0,1],[2],[],[4],[],[6],[7],[8],[],[10],[11],[12],[],[],[14,15],[16],[9,13,17]] (it [_,_,_,_,_,_,_,_,_,_,_,_,_,_,_,_,_,_,_]) de rfl
 intro wd aC
 refine VA ?_
 refine vk aC (λx r6 Kb=>?_) ?_
 refine bI Kb Dc Dd λDc Dd=>?_
 refine aA (GN (jE t.sc) (oT t.sc) (by simp[jE,oT]) (by simp[jE];omega) (bX FR gg) _ _ _ _ r6 Dc Dd) ?_
 rintro v54 xA ⟨aiN,De⟩
 have apI:=De.size
 have eS:=aiN
 rw[Oh (eK _ C6).2] at eS
 subst eS
 exact pk De
 exact trivial
 intro x CH yD
 refine cN yD av fJ da λav fJ da=>?_
 change OW _ _ _ _ _ (bo (bj _ x _) (zZ 68 [_,_,_,_,_,_,_,_,_,_,_,_,_,_,_,_,_,_,_])) _
 refine aA (EW (uo m.aM P.w [bu kind] FR rest t.aV (im t.sc 2 (FR.take gg) [])) (bX FR gg) (2+gg) (j5 t.sc (bX FR gg)) (by show(im t.sc 2 (FR.take gg) []).length<100000;rw[yi,List.length_take];omega) (bk::L1) bk CH vQ av.db fJ) ?_
 rintro v87 w93 ⟨fJ,ow⟩
 have aiP:=ow.size
 refine W ?_
 exact⟨gg+1,⟨rfl,rfl,rfl,rfl,rfl,rfl,rfl,rfl,rfl⟩,⟨da.trans ow,om,by rw[VR lN];exact fJ⟩,om⟩
 have AL:gg=FR.length:=(by simp at h1;omega)
 subst AL
 rw[List.take_length] at fJ
 refine W ?_
 refine aA (EW (uo m.aM P.w [bu kind] FR rest t.aV (im t.sc 2 FR [])) name 1 kind (by show(im t.sc 2 FR []).length<100000;rw[yi];omega) (bk::L1) bk A6 vQ av.db fJ) ?_
 rintro v90 r6 ⟨fJ,ug⟩
 have av:=av.aF ug sm
 have hR:=hR.aD ug vQ E1
 have fJ:gI (bk::L1) r6 166 bk (uo m.aM P.w [bu kind] FR rest t.aV (im t.sc 2 FR []++[(name,1,kind)])):=fJ
 have Kh:P.m.bF.length<100000:=(by rw[HB];exact fF)
 have aQ:=av.open
 obtain⟨vb,vt,vc,vy,gb,gt,gc,gy,xm,hS⟩:=aQ
 have aQ:=hS.apart
 obtain⟨yH,mV,vL,mf,vM,ui⟩:=aQ
 obtain⟨u1,u3,u4,u5,u6,u8,HF,sZ⟩:=fJ
 have bg:dM gt.toList r6 b [vb,vt,.int .i64 ((P.m).count:Int),.bool (P.m).wide,vc,vy].toArray 164:=⟨xm,λhx=>(mf b hx).2.1 rfl⟩
 have fI:dM gt.toList r6 bk (pI (uo m.aM P.w [bu kind] FR rest t.aV (im t.sc 2 FR []++[(name,1,kind)])) u1 u3 u4 u5 u6 u8).toArray 166:=⟨HF,λhx=>(mf bk hx).1 sm⟩
 have pS:eO gt.toList r6:=(λx hx=>hS.cC x (hS.mem.2 (by simp[hx])))
 have Bj:∀x,x∈gt.toList->x∈(bk::L1):=(λx hx=>hS.mem.2 (by simp[hx]))
 refine W ?_
 apply jF dj gt.toList 8 (rA 91 8) (rA 91 8) [[],[],[1],[2],[3],[],[5],[4,6]] [Ie.v _,Ie.v _,Ie.v _,Ie.v _,Ie.v _,Ie.v _,Ie.p (fun(G:List Nat) (v:Value) (ww:World)=>∃bb,v= .slice (some ⟨bb,0,none⟩) 1 1∧dM G ww bb (pI (uo m.aM P.w [bu kind] FR rest t.aV (im t.sc 2 FR []++[(name,1,kind)])) u1 u3 u4 u5 u6 u8).toArray 166),Ie.e 0] [7] [fun(G:List Nat) (vs:List Value) (ww:World)=>G=gt.toList∧aj [] r6 ww,fun(G:List Nat) (vs:List Value) (ww:World)=>∃g2,dH (gt.toList++(g2.toList++(bk::L1))) ww 166 12 (vs.getD 0 undef) g2 (((P.m).bF++[(uo m.aM P.w [bu kind] FR rest t.aV (im t.sc 2 FR []++[(name,1,kind)]))]).map Tk.enc)∧aj gt.toList r6 ww∧(g2=gt∨∃x,g2=some x∧r6.heap.size<=x)] de rfl pS (by exact⟨λG v w G' w' ⟨bb,e,h⟩ k=>⟨bb,e,h.go k⟩,trivial⟩) (by exact⟨λG vs w w' ⟨h1,h2⟩ k=>⟨h1,h2.ext k⟩,λG vs w w' ⟨g2,h1,h2,h3⟩ k=>⟨g2,h1.ext k,h2.ext k,h3⟩,trivial⟩) (⟨rfl,aj.refl _ _⟩)
 refine FA ?_
 refine vf (λx xA G54 aS aiS V0=>?_) ?_
 refine sH [_] [pI (uo m.aM P.w [bu kind] FR rest t.aV (im t.sc 2 FR []++[(name,1,kind)])) u1 u3 u4 u5 u6 u8] zW mr rfl rfl rfl rfl rfl rfl rfl rfl rfl λKt Bl HG V2=>?_
 exact ff Bl (⟨_,rfl,HG.o V0⟩)
 refine ve 0 (λx xA G54 aS aiS V0 hJ hlen=>?_) ?_
 have aW:=jh hlen
 subst aW
 intro v6 d6
 obtain⟨bb,e6,fH⟩:=d6
 subst e6
 obtain⟨bO,bP⟩:=hJ
 subst bO
 have sL:=(hS.ta.any bP).sub (L':=gt.toList++(bk::L1)) (λx hx=>.inl (by rcases mA.1 hx with h|h;(·exact Bj x h);(·exact h)))
 have Bm:=sZ.ext bP
 refine Co (L:=(bk::L1)) (row:=Tk.enc (uo m.aM P.w [bu kind] FR rest t.aV (im t.sc 2 FR []++[(name,1,kind)]))) zW mr rfl rfl rfl rfl rfl rfl sL rfl fH.all (λu hu=>List.all_eq_true.1 Bm.one u hu) (Bm.go ((Fr.refl _ _).to (L2:=gt.toList++(bk::L1)) (λx hx=>.inl (by rcases mA.1 hx with h|h;(·exact Bj x h);(·exact h))))).BR (by rw[List.length_map];omega) λv9 g9 Kt cZ uk eZ=>?_
 exact fe g9.toList (⟨uk.aF,λx hx=>by rcases eZ with h|h;(·rw[h] at hx;exact .inl hx);(·rw[h] at hx;simp at hx;right;omega)⟩) ((λx hx=>cZ.lt x hx)) (⟨g9,by rw[List.map_append];exact cZ,bP.any.trans uk.aF,eZ.imp id (λh=>⟨_,h,bP.size⟩)⟩)
 exact trivial
 intro x w93 G93 aS aiT apK hJ hlen
 have aQ:=ji hlen
 obtain⟨q0,aW⟩:=aQ
 subst aW
 intro v6 d6
 have bg:=bg.go aiT
 change OW _ _ _ _ _ (bo (bj _ x _) (zZ 91 [_,_,_,_,_,_,_,_])) _
 obtain⟨g2,cZ,ej,iO⟩:=hJ
 have aQ:=hS.FW cZ ej iO
 obtain⟨L3,fB,jq⟩:=aQ
 have aQ:=cZ.len
 obtain⟨a3,c3,e3⟩:=aQ
 have e4:q0=_:=e3
 subst e4
 have bg:aJ _ b [vb,vt,.int .i64 ((P.m).count:Int),.bool (P.m).wide,vc,vy].toArray 164:=xm.aF ej (λhx=>(mf b hx).2.1 rfl)
 refine W ?_
 refine gd (o:=1) ID rfl rfl rfl bg rfl λw94 V3 bg df=>?_
 have fB:=fB.aF V3 sm
 have av:dG t8 (bk::E) L3 w94 b true {P.m with bF:=(P.m).bF++[(uo m.aM P.w [bu kind] FR rest t.aV (im t.sc 2 FR []++[(name,1,kind)]))]}:=⟨_,_,_,_,_,_,_,_,bg,fB⟩
 have hR:=(hR.add jq ej (λx hx vR=>(mf x hx).1 (by simp[vR]))).aD V3 (fB.mem.2 (.inr (.inl rfl))) (λvR=>mV (by simp[vR]))
 rw[HB] at av
 have aQ:=av.drop
 obtain⟨L4,OK,av⟩:=aQ
 have hR:=hR.sub (L2:=L4) (λx hx=>by rw[OK];simp[hx])
 have aQ:=hR.tk hT dX
 obtain⟨u1,u3,u4,u5,u6,u8,cX,hC⟩:=aQ
 have yS:=av.sub dX
 refine W ?_
 refine gd (o:=9) oJ rfl rfl rfl cX rfl λE2 Bn cX df=>?_
 have hC:=hC.aD Bn (by simpa using yS)
 have av:=av.aF Bn (by simpa using dX)
 have hF:=hR.fr.aD Bn (by simpa using yS)
 have tZ:=hR.out
 obtain⟨G0,fT,Hr⟩:=tZ
 have fT:aj (G0++[bt]) w E2:=(fT.mono (λz hz=>List.mem_append_left _ hz)).trans (Bn.mono (λz hz=>mR _ hz))
 refine W ?_
 refine gd (o:=10) bf rfl rfl rfl cX rfl λHH E3 cX df=>?_
 have hC:=hC.aD E3 (by simpa using yS)
 have av:=av.aF E3 (by simpa using dX)
 have hF:=hF.aD E3 (by simpa using yS)
 have fT:=fT.trans (E3.mono (λz hz=>mR _ hz))
 refine W ?_
 exact⟨_,rfl,L4,av,⟨u1,u3,u4,u5,u6,u8,cX,⟨hC.regs,hC.self,hC.aK,hC.at_,hC.types,hC.ak⟩⟩,hF,_,fT,λz hz sf=>by rcases mA.1 hz with h9|h9;(·exact absurd sf (Hr z h9));(·simpa using h9)⟩
def rq (aM:ai) (W:ai) (nd:List ai) (FR:List ai) (e:Ex) (aV:ai) (self:List ai) (sc:cD):Tk:=⟨aM,W::nd,FR.length,self,sc,e,2,aV,3⟩
def sh (s:cD) (FR:List ai) (f:ai) (A B:Ty) (e:Ex):cD:=if 0<jQ f e then im s 3 FR []++[(f,3+FR.length+2,.op true A B)] else im s 3 FR []
def uw (f:ai) (A B:Ty) (e:Ex) (W:ai):List ai:=if 0<jQ f e then[bu (.op true A B),W] else[]
theorem aiV (m:Mk) (s:cD) (ton:Nat) (f x:ai) (A B:Ty) (e:Ex) {FR:List ai} (hF:FR=cH (.fn f x A B e) [] []) (hP:P=oS m.k7 s ton FR [] m.aM (bu (.op true A B)) [bu A,dz (bu B)]):
  Ag m s f x A B e=({P.m with bF:=m.bF++[rq m.aM P.w [bu A,dz (bu B)] FR e (dz (bu B)) (uw f A B e P.w) (sh s FR f A B e++[(x,1,A)])]},P.r):=by
 have h1:nV m s f x A B e=P:=by rw[hP,hF];unfold nV;simp[oS]
 have h2:P.m.bF=m.bF:=by rw[hP];rfl
 unfold Ag Af Ae
 rw[h1,h2,<-hF];rfl
theorem aiW (t:Tk) (x:ai) (r:Nat) (T:Ty) (s:ai) (hs:s=T.text) (hl:t.sc.length<100000) (L:List Nat) (bt:Nat) (w:World) (rb:bt∈L) (lh:∀x,x∈L->x<w.heap.size) (hT:gI L w 166 bt t):
  bz Tryz.prog 192 [.pointer (some ⟨bt,0,none⟩),str x,.int .i64 (r:Int),str s] w λ_ w'=>gI L w' 166 bt {t with sc:=t.sc++[(x,r,T)]}∧aj [bt] w w':=by subst hs;exact EW t x r T hl L bt w rb lh hT
theorem aiX {off:Nat} {vs:List Value} (h:fy L w b off vs):fy [] w b off vs:=⟨h.cells,h.lt,sm⟩
theorem aiY (t:Tk) (m:Mk) (f ax:ai) (A B:Ty) (e:Ex) (ba:(Ex.fn f ax A B e).ok) (rj:(Ex.fn f ax A B e).n<=1000) (sN:∀y,y∈cH (.fn f ax A B e) [] []->(look (ew t.sc) y).isSome=true) (mE:(cH (.fn f ax A B e) [] []).length<=40) (hs:jS t.sc) (nD:t.sc.length<=9000) (AQ:1+A.n+B.n<=16) (rh:t.on<1000) (ht:m.types.length+4<1000) (hc:m.code.length<=8000) (xw:m.count<1000) (fF:m.bF.length<100000) 
  (E L:List Nat) (b bt:Nat) (v:Value) (w:World) (h:dG t8 E L w b true m) (hT:gI L w 166 bt t) (dX:bt∈E) (hv:bB L w v (Ex.fn f ax A B e).au):
  bz Tryz.prog 225 [.pointer (some ⟨b,0,none⟩),.pointer (some ⟨bt,0,none⟩),v] w λr w'=>r= .int .i64 ((Ag m t.sc f ax A B e).2:Int)∧∃L',dG t8 E L' w' b true (Ag m t.sc f ax A B e).1∧dS E L w L' w':=by
 obtain⟨ar,nr,cr,rfl,p4,aP⟩:=cU hv
 subst p4
 have lq:=h.db
 obtain⟨FR,yR⟩:∃z:List ai,z=cH (.fn f ax A B e) [] []:=⟨_,rfl⟩
 obtain⟨P,hP⟩:∃z:Pk,z=oS m.k7 t.sc t.on FR [] m.aM (bu (.op true A B)) [bu A,dz (bu B)]:=⟨_,rfl⟩
 rw[aiV m t.sc t.on f ax A B e yR hP]
 obtain⟨HB,Bf,hPw⟩:=VX hP
 rw[<-yR] at mE sN
 have eK:∀x,x∈FR->dN x=true∧(look (ew t.sc) x).isSome=true:=λx hx=>⟨VU (by rw[<-yR];exact hx),sN x hx⟩
 obtain⟨HI,hox,ai0,hoA,hoB,V4⟩:=ba
 have jY:=pN (T:=A) om
 have rr:=tU (T:=B) om
 have apL:=pN (T:=B) om
 have V5:=pN (T:=Ty.op true A B) (show 1+A.n+B.n<=16 from AQ)
 have yb:=AP xw
 have V6:=A.len
 have V7:=B.len
 have apM:A.au.text.length<=100:=show A.text.length<=100 from by omega
 have apN:B.au.text.length<=100:=show B.text.length<=100 from by omega
 have hzA:=A.size
 have hzB:=B.size
 have wY:(Ex.fn f ax A B e).n=3+A.n+B.n+e.n:=rfl
 have pO:((((([40,62,32]:ai)++A.text)++[32])++B.text)++[41])=(Ty.op true A B).text:=by rw[Ty.II];simp[jO]
 have JR:(Ex.fn f ax A B e).au.ak.length=6:=rfl
 have hK:=aj.refl [] w
 have uq:b∉E:=h.mem.2.2.1
 have EZ:b∈L:=h.mem.1 b sm
 have hR:=dS.refl E L w
 obtain⟨b1,eX,gA,gm,e1,bK,cI⟩:=eW aP (i:=1) om
 cases e1
 have bK:fy L w _ _ [str f,.slice gA 0 gm]:=bK
 obtain⟨b2,lG,iA,iw,e2,bU,dI⟩:=eW aP (i:=2) om
 cases e2
 have bU:fy L w _ _ [str ax,.slice iA 0 iw]:=bU
 obtain⟨b3,AW,pP,pQ,e3,dO,dY⟩:=eW aP (i:=3) om
 cases e3
 have dY:bB L _ _ A.au:=dY
 obtain⟨b4,ahB,Nj,Nk,e4,jx,pR⟩:=eW aP (i:=4) om
 cases e4
 have pR:bB L _ _ B.au:=pR
 obtain⟨b5,ahC,ET,EU,e5,j9,mP⟩:=eW aP (i:=5) om
 cases e5
 have j9:fy L w _ _ [str e.au.aw,.slice ET e.au.ak.length EU]:=j9
 have mP:bB L w (.agg #[str e.au.aw,.slice ET e.au.ak.length EU]) e.au:=mP
 have ij:bB L w _ (Ex.fn f ax A B e).au:=hv
 have hSF:∀w:World,bz Tryz.prog 156 [str ((((([40,62,32]:ai)++A.text)++[32])++B.text)++[41])] w λr w'=>r=str (bu (.op true A B))∧aj [] w w':=λw=>by rw[pO];exact vK (.op true A B) (show 1+A.n+B.n<=60 from om) w
 refine bS [.tmp 6] 139 Tryz.func225 rfl ab1 rfl rfl ?_
 refine zr<|eH rfl λw1 aI cg dk=>bI aI hK hR λhK hR=>?_
 refine WI ?_
 refine zi (i:=3) cz aL rfl rfl ((show 3<6 from om))<|zL eV aL rfl ((dO.go hR.fr).cells) rfl<|aA (tT A.au.size A.au (lR _) A.lu.wf om (show A.text.length<=100000000 from om) _ _ w1 (dY.go hR.fr)) ?_
 rintro _ w2 ⟨rfl,az⟩
 have dm:=az.size
 refine cN az hK hR cg λhK hR cg=>?_
 refine WI ?_
 refine zi (i:=4) cz aL rfl rfl ((show 4<6 from om))<|zL eV aL rfl ((jx.go hR.fr).cells) rfl<|aA (tT B.au.size B.au (lR _) B.lu.wf om (show B.text.length<=100000000 from om) _ _ w2 (pR.go hR.fr)) ?_
 rintro _ w3 ⟨rfl,aH⟩
 have fm:=aH.size
 refine cN aH hK hR cg λhK hR cg=>?_
 refine W ?_
 refine fQ bh bf λw4 aO vN gQ=>cN aO hK hR cg λhK hR cg=>?_
 refine fQ bh bf λw5 aN E4 ig=>ie aN hK hR cg vN λhK hR cg vN=>?_
 have apQ:=cg
 refine aA (JC (Ex.fn f ax A B e).n (Ex.fn f ax A B e) (lR _) rj ⟨HI,hox,ai0,hoA,hoB,V4⟩ [] [] so so _ _ _ (some w4.heap.size) w5 ((ij.fresh (L':=[w4.heap.size]) (λx hx=>.inr (by simp at hx;omega))).ext hK) (vN.kK.rep (λx hx=>by simp at hx;subst hx;simp;omega)) E4.kK) ?_
 rintro Kr w6 ⟨g22,HC,Bg⟩
 rw[<-yR] at HC
 have jH:aj [] w w6:=(hK.since Bg.aF (λx hx=>.inr (by simp at hx;omega)))
 have Oz:∀x,x∈g22.toList->w.heap.size<=x:=(λx hx=>by rcases Bg.mem x hx with h9|h9;(·simp at h9;omega);(·omega))
 have gT:bc L w6 Kr FR:=HC.rep (λx hx OB=>by have:=Oz x (by simp[hx]);have:=lq x OB;omega)
 have aQ:=dJ gT
 obtain⟨OC,n22,OD,OE,OF⟩:=aQ
 subst OE
 subst OF
 have av:=h.ext jH
 have hR:=(dS.refl E L w).ext jH
 clear vN E4
 refine W ?_
 refine aA (Oe m om E L b true w6 av) ?_
 rintro v24 w7 ⟨⟨OG,av⟩,Be⟩
 subst OG
 have hR:=hR.aD Be EZ uq
 have gT:=bQ.aD gT Be (by simpa using EZ)
 refine W ?_
 refine aA (hSF w7) ?_
 rintro _ w8 ⟨rfl,cE⟩
 have AX:=cE.size
 refine cN cE hR av gT λhR av gT=>?_
 have cR:=av.db
 refine W ?_
 refine aA (vK A om w8) ?_
 rintro _ w9 ⟨rfl,aB⟩
 have o7:=aB.size
 refine cN aB hR av gT λhR av gT=>?_
 have cR:=av.db
 refine zm<|aA (vK B om w9) ?_
 rintro _ cu ⟨rfl,cB⟩
 have CG:=cB.size
 refine cN cB hR av gT λhR av gT=>?_
 have cR:=av.db
 refine aA (Hn (bu B) om cu) ?_
 rintro _ eD ⟨rfl,dd⟩
 have Bo:=dd.size
 refine cN dd hR av gT λhR av gT=>?_
 have cR:=av.db
 refine kJ bh bf rfl rfl rfl rfl λfA di Df N4=>cN di hR av gT λhR av gT=>?_
 refine W ?_
 have um:bc L fA _ [bu A,dz (bu B)]:=aJ.dK [bu A,dz (bu B)] Df (λhx=>by have:=cR _ hx;omega)
 refine aA (VG t m.k7 FR [] m.aM (bu (.op true A B)) [bu A,dz (bu B)] eK hs nD mE rh sm om om sm (by intro x hx;simp at hx;rcases hx with rfl|rfl<;>omega) ht hc E L b bt _ _ fA av (hR.tk hT dX) dX gT um) ?_
 rintro v42 jB ⟨yt,L1,av,bC⟩
 rw[<-hP] at yt av
 subst yt
 have hR:=hR.go bC;have gT:=gT.go bC.fr;have um:=um.go bC.fr
 have yM:sY L1 [] jB _ [bu A,dz (bu B)]:=(by unfold sY;rw[List.append_nil];exact um)
 have OL:=aiX (j9.go hR.fr)
 have ur:=av.db
 have HD:=gT
 have lO:=av
 have uj:=hR
 clear Df
 refine W ?_
 apply jF dj ([]) 15 (rA 59 14++[17]) (rA 59 14++[17]) [[],[],[1],[],[2,3],[],[5],[],[7],[8],[],[10],[11],[0,4,6,9,12],[]] [Ie.v _,Ie.v _,Ie.p (fun(G:List Nat) (v:Value) (ww:World)=>sY L1 G ww v [P.w]),Ie.v _,Ie.p (fun(G:List Nat) (v:Value) (ww:World)=>sY L1 G ww v ([P.w]++[bu A,dz (bu B)])),Ie.v _,Ie.v _,Ie.v _,Ie.v _,Ie.v _,Ie.v _,Ie.v _,Ie.v _,Ie.p (fun(G:List Nat) (v:Value) (ww:World)=>∃a4 n4 c4,v= .agg [str m.aM,.slice a4 n4 c4,.int .i64 (FR.length:Int),.slice none 0 0,.slice none 0 0,.slice none 0 0,.slice none 0 0,str e.au.aw,.slice ET e.au.ak.length EU,.int .i64 2,str (dz (bu B)),.int .i64 3].toArray∧sY L1 G ww (.slice a4 n4 c4) ([P.w]++[bu A,dz (bu B)])),Ie.e 0] [14] [fun(G:List Nat) (vs:List Value) (ww:World)=>G=[]∧aj [] jB ww,fun(G:List Nat) (vs:List Value) (ww:World)=>∃bb,vs.getD 0 undef= .pointer (some ⟨bb,0,none⟩)∧G=[bb]∧jB.heap.size<=bb∧aJ ww bb [str [],.slice none 0 0,.int .i64 0,.slice none 0 0,.slice none 0 0,.slice none 0 0,.slice none 0 0,str [],.slice none 0 0,.int .i64 0,str [],.int .i64 0].toArray 166∧aj [] jB ww] de rfl ((λx hx=>by simp at hx)) (by exact⟨λG v w G' w' h k=>h.go k,λG v w G' w' h k=>h.go k,λG v w G' w' ⟨a4,n4,c4,e,h⟩ k=>⟨a4,n4,c4,e,h.go k⟩,trivial⟩) (by exact⟨λG vs w w' ⟨h1,h2⟩ k=>⟨h1,h2.ext k⟩,λG vs w w' ⟨bb,h1,h2,h3,h4,h5⟩ k=>⟨bb,h1,h2,h3,h4.ext k,h5.ext k⟩,trivial⟩) (⟨rfl,aj.refl _ _⟩)
 refine FA ?_
 refine vf (λx iG HJ aS Bp Dg=>?_) ?_
 refine fc bh bf rfl rfl λpZ jI Ku JH=>?_
 exact ff jI ((aJ.dK [P.w] Ku (λhx=>by have:=Kq ur Bp.aF.size Dg _ hx;omega)))
 refine FA ?_
 refine vf (λx iG HJ aS Bp Dg=>?_) ?_
 have yM:=yM.go Bp
 intro v2 d2
 have eu:=Kq ur Bp.aF.size Dg
 refine aA (tY [P.w] [bu A,dz (bu B)] sm _ _ _ iG d2 yM eu) ?_
 rintro A1 pZ ⟨ai4,jI⟩
 have Ov:=jI.size
 have eS:=ai4
 exact ff jI eS
 refine FA ?_
 refine vf (λ_ _ _ _ _ _=>zi (i:=5) cz aL rfl rfl ((show 5<6 from om)) fv) ?_
 refine FA ?_
 refine vf (λx iG HJ aS Bp Dg=>?_) ?_
 refine aA (vK B om iG) ?_
 rintro _ pZ ⟨rfl,jI⟩
 have Ov:=jI.size
 exact fk jI
 refine vf (λx iG HJ aS Bp Dg=>?_) ?_
 refine aA (Hn (bu B) om iG) ?_
 rintro _ pZ ⟨rfl,jI⟩
 have Ov:=jI.size
 exact fk jI
 refine vf (λx iG HJ aS Bp Dg=>?_) ?_
 intro v4 d4
 have aQ:=dJ d4
 obtain⟨a4,n4,c4,e4,_⟩:=aQ
 subst e4
 refine js (VV ⟨m.aM.toArray⟩ a4 n4 c4 (FR.length:Int) ⟨e.au.aw.toArray⟩ ET e.au.ak.length EU 2 ⟨(dz (bu B)).toArray⟩ 3 _) rfl rfl ?_
 exact ff (aj.refl _ _) (⟨a4,n4,c4,rfl,d4⟩)
 refine ve 0 (λx iG HJ aS Bp Dg hJ hlen=>?_) ?_
 have aW:=jh hlen
 subst aW
 obtain⟨bO,bP⟩:=hJ
 subst bO
 refine dy mr rfl rfl rfl λpZ jI wS GV=>?_
 exact fe ([_]) (⟨jI.mono sm,λx hx=>by simp at hx;right;omega⟩) ((λx hx=>by simp at hx;omega)) (⟨_,rfl,rfl,bP.size,wS,bP.trans jI⟩)
 exact trivial
 intro x r6 G53 aS ai5 apS hJ hlen
 have aQ:=ji hlen
 obtain⟨q0,aW⟩:=aQ
 subst aW
 intro v2 d2
 intro v4 d4
 intro Hf d13
 have OL:=OL.go ai5
 change OW _ _ _ _ _ (bo (bj _ x _) (zZ 59 [_,_,_,_,_,_,_,_,_,_,_,_,_,_]++[(17,_)])) _
 obtain⟨bk,rY,bO,Db,fI,bP⟩:=hJ
 have vH:q0=_:=rY
 subst vH
 subst bO
 obtain⟨a4,n4,c4,Bi,OI⟩:=d13
 subst Bi
 refine cJ mr rfl rfl rfl fI rfl λxA De fI df=>?_
 have iq:=fI.lt
 have xz:=bP.since De (λx hx=>.inr (by simp at hx;omega))
 have av:=lO.sX xz sm Db iq
 have hR:=uj.more xz sm Db (λy hy=>ur y (lO.sub hy))
 have OJ:∀x,x∈bk::L1->x∈L1++[bk]:=(λx hx=>by simp at hx⊢;rcases hx with h|h;(·exact .inr h);(·exact .inl h))
 have vQ:bk∈bk::L1:=sm
 have E1:bk∉E:=(λhx=>by have:=ur bk (lO.sub hx);omega)
 have gT:=(HD.fresh (L':=bk::L1) (λx hx=>by rcases mC.1 hx with rfl|hx;(·exact .inr Db);(·exact .inl hx))).ext xz
 have A3:eM (bk::L1) xA (.slice ET e.au.ak.length EU) e.au.ak:=(by obtain⟨_,_,_,e9,_,yT⟩:=cU (mP.go hR.fr);cases e9;exact yT)
 have fJ:gI (bk::L1) xA 166 bk (rq m.aM P.w [bu A,dz (bu B)] FR e (dz (bu B)) [] (im t.sc 3 (FR.take 0) [])):=⟨_,_,_,_,_,_,fI,⟨(bQ.aD OI De sm).fresh (λx hx=>.inl (OJ x hx)),.nil _ _ _,.nil _ _ _,.nil _ _ _,.nil _ _ _,A3⟩⟩
 refine W ?_
 refine eA (λi:Nat=>[(0,.pointer (some ⟨b,0,none⟩)),(1,.pointer (some ⟨bt,0,none⟩)),(7,.slice (some ⟨b1,eX,none⟩) 6 cr),(8,str A.text),(10,str (((((([40,62,32]:ai)++A.text)++[32])++B.text)++[41]))),(11,.slice OC FR.length OD),(13,str (bu (.op true A B))),(15,.int .i64 (P.r:Int)),(16,str P.w),(17,.pointer (some ⟨bk,0,none⟩)),(18,.int .i64 (i:Int))]) (λi w'=>aj [bk] xA w'∧i<=FR.length∧gI (bk::L1) w' 166 bk (rq m.aM P.w [bu A,dz (bu B)] FR e (dz (bu B)) [] (im t.sc 3 (FR.take i) []))) (λi=>FR.length-i) (0) (⟨rfl,rfl,rfl,rfl,rfl,rfl,rfl,rfl,rfl,rfl,rfl⟩) (⟨aj.refl _ _,Nat.zero_le _,fJ⟩) λgg Kt V8 hI=>?_
 obtain⟨da,hi,fJ⟩:=hI
 have av:=av.aF da sm
 have hR:=hR.aD da vQ E1
 have gT:=bQ.aD gT da sm
 refine W ?_
 refine zc rfl (λh1=>?_) (λh1=>?_)
 have lN:gg<FR.length:=(by simp at h1;omega)
 have C6:=List.mem_of_getElem? (km lN)
 have aQ:=hR.tk hT dX
 obtain⟨u1,u3,u4,u5,u6,u8,cX,hC⟩:=aQ
 have Dc:=hC.aK
 have Dd:=hC.types
 have aQ:=nN gT lN
 obtain⟨b9,ux,e9,jr⟩:=aQ
 cases e9
 refine WZ ?_
 apply dV dj 19 [79,80,81,82,83,84,85,86,87,88,89,90,91,92,93,94,95,96,97] [[],[],[0,1],[2],[],[4],[],[6],[7],[8],[],[10],[11],[12],[],[],[14,15],[16],[9,13,17]] (it [_,_,_,_,_,_,_,_,_,_,_,_,_,_,_,_,_,_,_]) de rfl
 intro wd aC
 refine VA ?_
 refine vk aC (λx Bq Dh=>?_) ?_
 refine bI Dh Dc Dd λDc Dd=>?_
 refine aA (GN (jE t.sc) (oT t.sc) (by simp[jE,oT]) (by simp[jE];omega) (bX FR gg) _ _ _ _ Bq Dc Dd) ?_
 rintro v57 OM ⟨ai7,Br⟩
 have V9:=Br.size
 have eS:=ai7
 rw[Oh (eK _ C6).2] at eS
 subst eS
 exact pk Br
 exact trivial
 intro x E2 Bn
 refine cN Bn av fJ da λav fJ da=>?_
 change OW _ _ _ _ _ (bo (bj _ x _) (zZ 79 [_,_,_,_,_,_,_,_,_,_,_,_,_,_,_,_,_,_,_])) _
 refine aA (EW (rq m.aM P.w [bu A,dz (bu B)] FR e (dz (bu B)) [] (im t.sc 3 (FR.take gg) [])) (bX FR gg) (3+gg) (j5 t.sc (bX FR gg)) (by show(im t.sc 3 (FR.take gg) []).length<100000;rw[yi,List.length_take];omega) (bk::L1) bk E2 vQ av.db fJ) ?_
 rintro v87 HH ⟨fJ,ow⟩
 have aiP:=ow.size
 refine W ?_
 exact⟨gg+1,⟨rfl,rfl,rfl,rfl,rfl,rfl,rfl,rfl,rfl,rfl,rfl⟩,⟨da.trans ow,om,by rw[VR lN];exact fJ⟩,om⟩
 have AL:gg=FR.length:=(by simp at h1;omega)
 subst AL
 rw[List.take_length] at fJ
 have OL:=j9.go hR.fr
 have E5:=bK.go hR.fr
 have OO:=mP.go hR.fr
 refine WZ ?_
 apply dV dj 9 [99,100,101,102,103,104,105,106,107] [[],[0],[1],[],[3],[4],[5],[2,6],[7]] (it [_,_,_,_,_,_,_,_,_]) de rfl
 intro wd aC
 refine VA ?_
 refine vk aC (λx Bq Dh=>?_) ?_
 refine zi (i:=5) cz aL rfl rfl ((show 5<6 from om)) ?_
 exact pv
 refine VA ?_
 refine vk aC (λx Bq Dh=>?_) ?_
 refine zi (i:=1) cz aL rfl rfl ((show 1<6 from om)) ?_
 exact pv
 refine VA ?_
 refine vk aC (λx Bq Dh=>?_) ?_
 have OO:=OO.ext Dh
 refine aA (afF f e.n e (lR _) om V4 _ _ Bq OO) ?_
 rintro _ OM ⟨rfl,Br⟩
 have V9:=Br.size
 exact pk Br
 exact VZ
 intro x E2 Bn
 refine ie Bn av hR E5 fJ λav hR E5 fJ=>?_
 change OW _ _ _ _ [] (bo (bj _ x _) (zZ 99 [_,_,_,_,_,_,_,_,_])) _
 have kL:=aj.refl [bk] E2
 refine W ?_
 refine ix (λ_:Unit=>[(0,.pointer (some ⟨b,0,none⟩)),(7,.slice (some ⟨b1,eX,none⟩) 6 cr),(8,str A.text),(15,.int .i64 (P.r:Int)),(17,.pointer (some ⟨bk,0,none⟩))]) (λ_ ww=>aj [bk] E2 ww∧gI (bk::L1) ww 166 bk (rq m.aM P.w [bu A,dz (bu B)] FR e (dz (bu B)) (uw f A B e P.w) (sh t.sc FR f A B e))) ?_ ?_
 refine zc rfl (λh2=>?_) (λh2=>?_)
 have et:0<jQ f e:=(by simp at h2;omega)
 have cR:=av.db
 refine zr<|zm<|zm<|kJ bh bf rfl rfl rfl rfl λHH E3 ai8 apT=>cN E3 E5 fJ kL λE5 fJ kL=>?_
 refine WZ ?_
 have wR:bc (bk::L1) HH _ [bu (.op true A B),P.w]:=aJ.dK [bu (.op true A B),P.w] ai8 (λhx=>by have:=cR _ hx;omega)
 obtain⟨u1,u3,u4,u5,u6,u8,fI,sZ⟩:=fJ
 refine gd (o:=3) mu rfl rfl rfl fI rfl λvS Kv fI df=>?_
 have sZ:=sZ.aD Kv sm
 have wR:=bQ.aD wR Kv sm
 have fJ:gI (bk::L1) vS 166 bk (rq m.aM P.w [bu A,dz (bu B)] FR e (dz (bu B)) [bu (.op true A B),P.w] (im t.sc 3 FR [])):=⟨u1,_,u4,u5,u6,u8,fI,⟨sZ.regs,wR,sZ.aK,sZ.at_,sZ.types,sZ.ak⟩⟩
 have E5:=E5.aD Kv sm
 have Ho:=kL.trans Kv
 have Di:∀x,x∈bk::L1->x<vS.heap.size:=(λx hx=>by have:=cR x hx;omega)
 refine aZ<|kH<|zm<|zi (i:=1) cz aL rfl rfl ((show 1<6 from om))<|WZ ?_
 refine aA (aiW (rq m.aM P.w [bu A,dz (bu B)] FR e (dz (bu B)) [bu (.op true A B),P.w] (im t.sc 3 FR [])) f (3+FR.length+2) (.op true A B) _ pO (by show(im t.sc 3 FR []).length<100000;rw[yi];omega) (bk::L1) bk vS vQ Di fJ) ?_
 rintro v87 Wa ⟨fJ,ow⟩
 have Ho:=Ho.trans ow
 refine W ?_
 exact⟨(),⟨rfl,rfl,rfl,rfl,rfl⟩,Ho,by unfold sh uw;rw[iP et,iP et];exact fJ⟩
 have et:¬0<jQ f e:=(by simp at h2;omega)
 refine WZ ?_
 exact⟨(),⟨rfl,rfl,rfl,rfl,rfl⟩,aj.refl _ _,by unfold sh uw;rw[iN et,iN et];exact fJ⟩
 intro gu HH e96 hI
 obtain⟨Wb,fJ⟩:=hI
 have av:=av.aF Wb sm
 have hR:=hR.aD Wb vQ E1
 have apV:=bU.go hR.fr
 refine zr<|zm<|zi (i:=2) cz aL rfl rfl ((show 2<6 from om))<|W ?_
 refine aA (EW (rq m.aM P.w [bu A,dz (bu B)] FR e (dz (bu B)) (uw f A B e P.w) (sh t.sc FR f A B e)) ax 1 A (by show(sh t.sc FR f A B e).length<100000;unfold sh;split;(·rw[lA,yi];simp;omega);(·rw[yi];omega)) (bk::L1) bk HH vQ av.db fJ) ?_
 rintro v90 vS ⟨fJ,ug⟩
 have av:=av.aF ug sm
 have hR:=hR.aD ug vQ E1
 have fJ:gI (bk::L1) vS 166 bk (rq m.aM P.w [bu A,dz (bu B)] FR e (dz (bu B)) (uw f A B e P.w) ((sh t.sc FR f A B e)++[(ax,1,A)])):=fJ
 have Kh:P.m.bF.length<100000:=(by rw[HB];exact fF)
 have aQ:=av.open
 obtain⟨vb,vt,vc,vy,gb,gt,gc,gy,xm,hS⟩:=aQ
 have aQ:=hS.apart
 obtain⟨yH,mV,vL,mf,vM,ui⟩:=aQ
 obtain⟨u1,u3,u4,u5,u6,u8,HF,sZ⟩:=fJ
 have bg:dM gt.toList vS b [vb,vt,.int .i64 ((P.m).count:Int),.bool (P.m).wide,vc,vy].toArray 164:=⟨xm,λhx=>(mf b hx).2.1 rfl⟩
 have fI:dM gt.toList vS bk (pI (rq m.aM P.w [bu A,dz (bu B)] FR e (dz (bu B)) (uw f A B e P.w) ((sh t.sc FR f A B e)++[(ax,1,A)])) u1 u3 u4 u5 u6 u8).toArray 166:=⟨HF,λhx=>(mf bk hx).1 sm⟩
 have pS:eO gt.toList vS:=(λx hx=>hS.cC x (hS.mem.2 (by simp[hx])))
 have Bj:∀x,x∈gt.toList->x∈(bk::L1):=(λx hx=>hS.mem.2 (by simp[hx]))
 refine W ?_
 apply jF dj gt.toList 8 (rA 128 8) (rA 128 8) [[],[],[1],[2],[3],[],[5],[4,6]] [Ie.v _,Ie.v _,Ie.v _,Ie.v _,Ie.v _,Ie.v _,Ie.p (fun(G:List Nat) (v:Value) (ww:World)=>∃bb,v= .slice (some ⟨bb,0,none⟩) 1 1∧dM G ww bb (pI (rq m.aM P.w [bu A,dz (bu B)] FR e (dz (bu B)) (uw f A B e P.w) ((sh t.sc FR f A B e)++[(ax,1,A)])) u1 u3 u4 u5 u6 u8).toArray 166),Ie.e 0] [7] [fun(G:List Nat) (vs:List Value) (ww:World)=>G=gt.toList∧aj [] vS ww,fun(G:List Nat) (vs:List Value) (ww:World)=>∃g2,dH (gt.toList++(g2.toList++(bk::L1))) ww 166 12 (vs.getD 0 undef) g2 (((P.m).bF++[(rq m.aM P.w [bu A,dz (bu B)] FR e (dz (bu B)) (uw f A B e P.w) ((sh t.sc FR f A B e)++[(ax,1,A)]))]).map Tk.enc)∧aj gt.toList vS ww∧(g2=gt∨∃x,g2=some x∧vS.heap.size<=x)] de rfl pS (by exact⟨λG v w G' w' ⟨bb,e,h⟩ k=>⟨bb,e,h.go k⟩,trivial⟩) (by exact⟨λG vs w w' ⟨h1,h2⟩ k=>⟨h1,h2.ext k⟩,λG vs w w' ⟨g2,h1,h2,h3⟩ k=>⟨g2,h1.ext k,h2.ext k,h3⟩,trivial⟩) (⟨rfl,aj.refl _ _⟩)
 refine FA ?_
 refine vf (λx Wa G98 aS aja Wc=>?_) ?_
 refine sH [_] [pI (rq m.aM P.w [bu A,dz (bu B)] FR e (dz (bu B)) (uw f A B e P.w) ((sh t.sc FR f A B e)++[(ax,1,A)])) u1 u3 u4 u5 u6 u8] zW mr rfl rfl rfl rfl rfl rfl rfl rfl rfl λw99 ajc ajd V2=>?_
 exact ff ajc (⟨_,rfl,ajd.o Wc⟩)
 refine ve 0 (λx Wa G98 aS aja Wc hJ hlen=>?_) ?_
 have aW:=jh hlen
 subst aW
 intro v6 d6
 obtain⟨bb,e6,fH⟩:=d6
 subst e6
 obtain⟨bO,bP⟩:=hJ
 subst bO
 have sL:=(hS.ta.any bP).sub (L':=gt.toList++(bk::L1)) (λx hx=>.inl (by rcases mA.1 hx with h|h;(·exact Bj x h);(·exact h)))
 have Bm:=sZ.ext bP
 refine Co (L:=(bk::L1)) (row:=Tk.enc (rq m.aM P.w [bu A,dz (bu B)] FR e (dz (bu B)) (uw f A B e P.w) ((sh t.sc FR f A B e)++[(ax,1,A)]))) zW mr rfl rfl rfl rfl rfl rfl sL rfl fH.all (λu hu=>List.all_eq_true.1 Bm.one u hu) (Bm.go ((Fr.refl _ _).to (L2:=gt.toList++(bk::L1)) (λx hx=>.inl (by rcases mA.1 hx with h|h;(·exact Bj x h);(·exact h))))).BR (by rw[List.length_map];omega) λv9 g9 w99 cZ uk eZ=>?_
 exact fe g9.toList (⟨uk.aF,λx hx=>by rcases eZ with h|h;(·rw[h] at hx;exact .inl hx);(·rw[h] at hx;simp at hx;right;omega)⟩) ((λx hx=>cZ.lt x hx)) (⟨g9,by rw[List.map_append];exact cZ,bP.any.trans uk.aF,eZ.imp id (λh=>⟨_,h,bP.size⟩)⟩)
 exact trivial
 intro x apW apX aS aje apY hJ hlen
 have aQ:=ji hlen
 obtain⟨q0,aW⟩:=aQ
 subst aW
 intro v6 d6
 have bg:=bg.go aje
 change OW _ _ _ _ _ (bo (bj _ x _) (zZ 128 [_,_,_,_,_,_,_,_])) _
 obtain⟨g2,cZ,ej,iO⟩:=hJ
 have aQ:=hS.FW cZ ej iO
 obtain⟨L3,fB,jq⟩:=aQ
 have aQ:=cZ.len
 obtain⟨a3,c3,e3⟩:=aQ
 have e4:q0=_:=e3
 subst e4
 have bg:aJ _ b [vb,vt,.int .i64 ((P.m).count:Int),.bool (P.m).wide,vc,vy].toArray 164:=xm.aF ej (λhx=>(mf b hx).2.1 rfl)
 refine W ?_
 refine gd (o:=1) ID rfl rfl rfl bg rfl λajf Wd bg df=>?_
 have fB:=fB.aF Wd sm
 have av:dG t8 (bk::E) L3 ajf b true {P.m with bF:=(P.m).bF++[(rq m.aM P.w [bu A,dz (bu B)] FR e (dz (bu B)) (uw f A B e P.w) ((sh t.sc FR f A B e)++[(ax,1,A)]))]}:=⟨_,_,_,_,_,_,_,_,bg,fB⟩
 have hR:=(hR.add jq ej (λx hx vR=>(mf x hx).1 (by simp[vR]))).aD Wd (fB.mem.2 (.inr (.inl rfl))) (λvR=>mV (by simp[vR]))
 rw[HB] at av
 have aQ:=av.drop
 obtain⟨L4,OK,av⟩:=aQ
 have hR:=hR.sub (L2:=L4) (λx hx=>by rw[OK];simp[hx])
 refine W ?_
 exact⟨_,rfl,rfl,L4,av,hR⟩
theorem HK {a:ai} (hs:jS s) (ht:m.types.length<1000):(bT m s a).1.types.length<=m.types.length+1∧(bT m s a).1.code.length<=m.code.length+1∧(bT m s a).1.count=m.count∧(bT m s a).1.bF=m.bF∧(bT m s a).2<1000:=by
 unfold bT
 split
 ·exact⟨Nat.le_succ _,Nat.le_succ _,rfl,rfl,Gw hs a⟩
 ·exact⟨by simp[Mk.cY,Mk.cA],by simp[Mk.cY,Mk.cA],rfl,rfl,ht⟩
theorem We (h:ai):fX h=(decide (h=[102,115,116])||decide (h=[115,110,100])):=rfl
theorem ajg {T:Ty} (ba:e.ok) (hu:fX e.head=true) {p:Mk×Nat} (hp:p=bT m s (nth e.au.ak 1).aw):
  mw m s T e=((p.1.cY (bu T)).cA sB [aT p.1.types.length,aT p.2,if e.head=qU then[49] else[48]],p.1.types.length):=by
 cases e with
 |un hd a=>rw[hp];show((_:Mk),_)=_;rw[show nth (Ex.un hd a).au.ak 1=a.au from rfl,Ex.qX];rfl
 |«at» s=>exact absurd (show fX []=true from hu) de
 |ite a b c=>exact absurd (show fX gj=true from hu) de
 |lt x a b=>exact absurd (show fX fW=true from hu) de
 |fn f x A B b=>exact absurd (show fX gF=true from hu) de
 |bi hd a b=>exact absurd ba.1 (by rcases AS hd with h|h|h|h|h|h<;>simp_all[Ex.head]<;>rfl)
theorem ajh {T:Ty} (ba:e.ok) (eJ:e.iv=false) (hf:e.head≠gF) (hu:fX e.head=false) {p q:Mk×Nat} (hp:p=bT m s (nth e.au.ak 1).aw) (hq:q=bT p.1 s (nth e.au.ak 2).aw):
  mw m s T e=((q.1.cY (bu T)).cA (qm e.head) [aT q.1.types.length,aT p.2,aT q.2],q.1.types.length):=by
 cases e with
 |un hd a=>exact absurd ba.1 (by simp[Ex.head] at hu;simp[hu])
 |«at» s=>cases eJ
 |ite a b c=>rw[hq,hp];rw[show nth (Ex.ite a b c).au.ak 1=a.au from rfl,show nth (Ex.ite a b c).au.ak 2=b.au from rfl,Ex.qX,Ex.qX];rfl
 |lt x a b=>rw[hq,hp];rw[show nth (Ex.lt x a b).au.ak 1=bJ x from rfl,show nth (Ex.lt x a b).au.ak 2=a.au from rfl,Ex.qX];rfl
 |fn f x A B b=>exact absurd rfl hf
 |bi hd a b=>rw[hq,hp];rw[show nth (Ex.bi hd a b).au.ak 1=a.au from rfl,show nth (Ex.bi hd a b).au.ak 2=b.au from rfl,Ex.qX,Ex.qX];rfl
theorem aji (ba:e.ok) (hf:e.head≠gF):((nth e.au.ak 1).aw).length<=5∧((nth e.au.ak 2).aw).length<=5:=by
 cases e with
 |«at» s=>simp[Ex.au,nth,aq.ak,aq.aw,bJ]
 |un hd a=>rw[show nth (Ex.un hd a).au.ak 1=a.au from rfl,Ex.qX];have:=oc ba.2;exact⟨by omega,by simp[Ex.au,nth,aq.ak,aq.aw]⟩
 |bi hd a b=>rw[show nth (Ex.bi hd a b).au.ak 1=a.au from rfl,show nth (Ex.bi hd a b).au.ak 2=b.au from rfl,Ex.qX,Ex.qX];have:=oc ba.2.1;have:=oc ba.2.2;omega
 |ite a b c=>rw[show nth (Ex.ite a b c).au.ak 1=a.au from rfl,show nth (Ex.ite a b c).au.ak 2=b.au from rfl,Ex.qX,Ex.qX];have:=oc ba.1;have:=oc ba.2.1;omega
 |lt x a b=>rw[show nth (Ex.lt x a b).au.ak 1=bJ x from rfl,show nth (Ex.lt x a b).au.ak 2=a.au from rfl,Ex.qX];have:=En ba.1;have:=oc ba.2.1;exact⟨by show x.length<=5;omega,om⟩
 |fn f x A B b=>exact absurd rfl hf
theorem ajj (h:ai):(qm h).length<=5:=by
 unfold qm
 split
 ·decide
 ·split
  ·decide
  ·split<;>decide
theorem ajk (ba:e.ok) (eJ:e.iv=false):1<e.au.ak.length∧(fX e.head=false->2<e.au.ak.length):=by
 cases e with
 |«at» s=>cases eJ
 |un hd a=>exact⟨by simp[Ex.au,aq.ak],λh=>absurd ba.1 (by simp[Ex.head] at h;simp[h])⟩
 |_=>exact⟨by simp[Ex.au,aq.ak],λ_=>by simp[Ex.au,aq.ak]⟩
theorem ajl (t:Tk) (m:Mk) (e:Ex) (T:Ty) (ba:e.ok) (eR:bw e (ew t.sc)=some T) (hs:jS t.sc) (hb:5*t.sc.length+2*e.n<=240) (rh:t.on<1000) (ht:m.types.length+8*e.n<=1000) (hc:m.code.length<=7000) (xw:m.count<1000) (fF:m.bF.length<90000) 
  (E L:List Nat) (b bt:Nat) (v:Value) (w:World) (h:dG t8 E L w b true m) (hT:gI L w 166 bt t) (dX:bt∈E) (hv:bB L w v e.au):
  bz Tryz.prog 190 [.pointer (some ⟨b,0,none⟩),.pointer (some ⟨bt,0,none⟩),v] w λr w'=>r= .int .i64 ((mw m t.sc T e).2:Int)∧∃L',dG t8 E L' w' b true (mw m t.sc T e).1∧dS E L w L' w':=by
 obtain⟨ar,nr,cr,rfl,p4,aP⟩:=cU hv
 subst p4
 have lq:=h.db
 have se:=lv hs.types eR
 have Ef:=pN se
 have hep:=e.pos
 have av:=h
 have hR:=dS.refl E L w
 have ij:bB L w _ e.au:=hv
 obtain⟨p,hp⟩:∃p,p=bT m t.sc (nth e.au.ak 1).aw:=⟨_,rfl⟩
 obtain⟨q,hq⟩:∃q,q=bT p.1 t.sc (nth e.au.ak 2).aw:=⟨_,rfl⟩
 have yT:p.1.types.length<=m.types.length+1∧p.1.code.length<=m.code.length+1∧p.1.count=m.count∧p.1.bF=m.bF∧p.2<1000:=by rw[hp];exact HK hs om
 have HL:q.1.types.length<=p.1.types.length+1∧q.1.code.length<=p.1.code.length+1∧q.1.count=p.1.count∧q.1.bF=p.1.bF∧q.2<1000:=by rw[hq];exact HK hs om
 obtain⟨ptl,pcl,_,_,p2⟩:=yT
 obtain⟨qtl,qcl,_,_,q2⟩:=HL
 refine bS [.tmp 6] 84 Tryz.func190 rfl abF rfl rfl ?_
 refine zr<|eH rfl λw1 aI cg dk=>bI aI av hR λav hR=>?_
 refine W ?_
 have cg:dM L w1 w.heap.size [str e.au.aw,.slice ar e.au.ak.length cr].toArray 74:=⟨cg,λhx=>by have:=lq _ hx;omega⟩
 refine zc rfl (λh1=>?_) (λh1=>?_)
 have aQ:∃a,e= .at a:=(by cases e with|«at» s=>exact⟨s,rfl⟩|_=>exact absurd rfl h1)
 obtain⟨a0,rfl⟩:=aQ
 refine W ?_
 refine aA (C1 t a0 m (by have:=MU (show qg a0=true from ba);omega) om om om E L b bt _ _ _ w1 av (hR.tk hT dX) dX) ?_
 rintro v20 w2 ⟨pj,L1,av,bC⟩
 subst pj
 have hR:=hR.go bC
 refine W ?_
 exact⟨_,rfl,rfl,L1,av,hR⟩
 have eJ:e.iv=false:=(by cases hh:e.iv;rfl;exact absurd ((vD ba).2 hh) h1)
 have aQ:=Ex.ak eJ
 obtain⟨GQ,ob,je,qz⟩:=aQ
 have aQ:=ajk ba eJ
 obtain⟨fl,iy⟩:=aQ
 have aQ:=eW aP (i:=0) om
 obtain⟨b0,vv,x6,ya,e0,et,_⟩:=aQ
 cases e0
 rw[je] at et
 have aQ:=eW aP (i:=1) om
 obtain⟨b1,eX,gA,gm,e1,bK,cI⟩:=aQ
 cases e1
 refine WI ?_
 refine zi (i:=0) cz aL rfl rfl ((show 0<_ from om))<|zf kY rfl<|zl gD rfl ((et.go hR.fr).cells 0 _ rfl)<|W ?_
 refine zc rfl (λh2=>?_) (λh2=>?_)
 have aQ:=JJ ba h2
 obtain⟨nf,nx,tA,tB,eb,rfl⟩:=aQ
 have aQ:=TO (m:=m) hs ba eR hb xw
 obtain⟨_,mE,AQ⟩:=aQ
 refine W ?_
 refine aA (aiY t m nf nx tA tB eb ba om (λy hy=>by rcases(B3 y _ [] []).1 hy with h9|h9;(·simp at h9);(·exact pG eR h9.1)) om hs om AQ rh (by simp only[Ex.n] at ht;omega) om xw om E L b bt _ w1 av (hR.tk hT dX) dX (ij.go hR.fr)) ?_
 rintro v31 w2 ⟨yU,L1,av,bC⟩
 subst yU
 have hR:=hR.go bC
 refine W ?_
 exact⟨_,rfl,rfl,L1,av,hR⟩
 have ri:e.head≠gF:=h2
 have hsh:=aji ba ri
 refine W ?_
 refine aA (Kf t e ba om hs.types om _ L bt w1 av.db (hR.tk hT dX) (ij.go hR.fr)) ?_
 rintro v2 w2 ⟨ij,az⟩
 have dm:=az.size
 refine cN az av hR cg λav hR cg=>?_
 have eS:=ij
 rw[eR] at eS
 subst eS
 refine aA (vK T om w2) ?_
 rintro _ w3 ⟨rfl,aH⟩
 have fm:=aH.size
 refine cN aH av hR cg λav hR cg=>?_
 refine WL ?_
 refine zl iC rfl (cg.at rfl)<|WL ?_
 refine zL eV aL rfl ((bK.go hR.fr).cells) rfl<|aA (C1 t (nth e.au.ak 1).aw m om om om om E L b bt _ _ _ w3 av (hR.tk hT dX) dX) ?_
 rintro v20 w4 ⟨pj,L1,av,bC⟩
 rw[<-hp] at pj av
 subst pj
 have hR:=hR.go bC;have cg:=cg.go bC.fr
 refine aA (ir (p.2+1) p.2 om om w4) ?_
 rintro _ w5 ⟨rfl,aN⟩
 have l3:=aN.size
 refine cN aN av hR cg λav hR cg=>?_
 refine W ?_
 apply oP 3 46 49 rfl oQ
 intro _
 exact oQ
 intro xx
 refine aZ<|zc rfl (λh4=>?_) (λh4=>?_)
 have hu:fX e.head=true:=(by rw[We];exact h4)
 rw[ajg ba hu hp]
 refine zr<|zm<|zm<|aA (r7 (bu T) p.1 om E L1 b true w5 av) ?_
 rintro v52 w6 ⟨Ks,L2,av,bC⟩
 subst Ks
 have hR:=hR.go bC
 refine W ?_
 refine ix (λ_:Unit=>[(0,.pointer (some ⟨b,0,none⟩)),(9,str (aT p.2)),(10,.int .i64 (p.1.types.length:Int)),(11,str (if e.head=qU then[49] else[48]))]) (λ_ w'=>aj [] w6 w') ?_ ?_
 refine zc rfl (λh5=>?_) (λh5=>?_)
 have hz:e.head=qU:=h5
 refine W ?_
 exact⟨(),⟨rfl,rfl,rfl,by rw[iP hz];rfl⟩,aj.refl _ _⟩
 have hz:¬e.head=qU:=h5
 refine WZ ?_
 exact⟨(),⟨rfl,rfl,rfl,by rw[iN hz];rfl⟩,aj.refl _ _⟩
 intro gu w7 e7 hI
 have av:=av.ext hI;have hR:=hR.ext hI
 refine zr<|zm<|zm<|aA (ir (p.1.types.length+1) p.1.types.length om om w7) ?_
 rintro _ w8 ⟨rfl,cE⟩
 have AX:=cE.size
 refine bI cE av hR λav hR=>?_
 have cR:=av.db
 have mj:(if e.head=qU then([49]:ai) else[48]).length<=1:=(by split<;>decide)
 refine zm<|zm<|pM bh bf rfl rfl rfl rfl rfl λw9 aB Hx df=>bI aB av hR λav hR=>?_
 refine aA (kG sB [aT p.1.types.length,aT p.2,if e.head=qU then[49] else[48]] (mh de sm (by intro z hz;simp at hz;rcases hz with rfl|rfl|rfl;(·exact lP om);(·exact lP om);(·omega))) (p.1.cY (bu T)) (show p.1.code.length<100000 from om) E L2 b _ w9 av (aJ.dK [aT p.1.types.length,aT p.2,if e.head=qU then[49] else[48]] Hx (λhx=>by have:=cR _ hx;omega))) ?_
 rintro Wf cu ⟨L3,av,bC⟩
 have hR:=hR.go bC
 refine W ?_
 exact⟨_,rfl,rfl,L3,av,hR⟩
 have hu:fX e.head=false:=(by rw[We];exact h4)
 have iy:=iy hu
 have aQ:=eW aP (i:=2) om
 obtain⟨b2,lG,iA,iw,e2,bU,_⟩:=aQ
 cases e2
 rw[ajh ba eJ ri hu hp hq]
 refine WL ?_
 refine zl iC rfl (cg.at rfl)<|WL ?_
 refine zL eV aL rfl ((bU.go hR.fr).cells) rfl<|aA (C1 t (nth e.au.ak 2).aw p.1 om om om om E L1 b bt _ _ _ w5 av (hR.tk hT dX) dX) ?_
 rintro v20 w6 ⟨pj,L2,av,bC⟩
 rw[<-hq] at pj av
 subst pj
 have hR:=hR.go bC
 refine aA (ir (q.2+1) q.2 om om w6) ?_
 rintro _ w7 ⟨rfl,bW⟩
 have lf:=bW.size
 refine bI bW av hR λav hR=>?_
 refine W ?_
 refine aA (r7 (bu T) q.1 om E L2 b true w7 av) ?_
 rintro v52 w8 ⟨Ks,L3,av,bC⟩
 subst Ks
 have hR:=hR.go bC
 refine W ?_
 refine aA (ahT e.head w8) ?_
 rintro _ w9 ⟨rfl,aB⟩
 have o7:=aB.size
 refine bI aB av hR λav hR=>?_
 have hol:=ajj e.head
 refine zm<|aA (ir (q.1.types.length+1) q.1.types.length om om w9) ?_
 rintro _ cu ⟨rfl,cB⟩
 have CG:=cB.size
 refine bI cB av hR λav hR=>?_
 have cR:=av.db
 refine zm<|zm<|pM bh bf rfl rfl rfl rfl rfl λeD dd EG vj=>bI dd av hR λav hR=>?_
 refine aA (kG (qm e.head) [aT q.1.types.length,aT p.2,aT q.2] (mh om sm (by intro z hz;simp at hz;rcases hz with rfl|rfl|rfl<;>exact lP om)) (q.1.cY (bu T)) (show q.1.code.length<100000 from om) E L3 b _ eD av (aJ.dK [aT q.1.types.length,aT p.2,aT q.2] EG (λhx=>by have:=cR _ hx;omega))) ?_
 rintro Wf fA ⟨L4,av,bC⟩
 have hR:=hR.go bC
 refine W ?_
 exact⟨_,rfl,rfl,L4,av,hR⟩
end Go.Proofs.YthbhobaiopccaaaGreatDoor
