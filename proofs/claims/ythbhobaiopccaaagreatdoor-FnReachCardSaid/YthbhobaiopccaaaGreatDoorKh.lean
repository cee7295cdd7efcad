/- Lemmas for the law FnReach, no statement of their own: no conditions. -/
import Derived.Test.YthbhobaiopccaaaGreatDoorKg
set_option maxHeartbeats 4000000
set_option linter.unusedVariables false
set_option linter.unusedSimpArgs false
namespace Go.Proofs.YthbhobaiopccaaaGreatDoor
open Go
variable {e:Ex} {x:ai} {b k n:Nat} {E G L:List Nat} {w w' w1:World} {o:Bool} {m:Mk} {s:cH} {P:Pk}
theorem ai3 (o:Option Ty):VX o=eI o:=by cases o<;>rfl
theorem WX {o:Option Ty} (h:eI o=[]):o=none:=by
 cases o with
 |none=>rfl
 |some T=>exact absurd h T.ne
theorem WY {o:Option Ty} (h:eI o≠[]):∃T,o=some T:=by
 cases o with
 |none=>exact absurd rfl h
 |some T=>exact⟨T,rfl⟩
def rS (e:Ex) (Γ:Sc):List ai:=e.kids.map λx=>eI (bA x Γ)
theorem ai4 {Γ:Sc} (bh:e.ok) (eF:e.iQ=false) (h1:e.head≠gv) (h2:e.head≠gV) (hΓ:yP Γ):
  ([]∈rS e Γ∧bA e Γ=none)∨∃Ts,rS e Γ=Ts.map Ty.text∧mN e.head Ts∧bA e Γ=kV e.head Ts∧∀T,T∈Ts->T.n<=16:=by
 cases e with
 |«at» s=>cases eF
 |lt x a b=>exact absurd rfl h1
 |fn f x A B b=>exact absurd rfl h2
 |un h a=>
  show([]∈[eI (bA a Γ)]∧(bA a Γ).bind _=none)∨_
  cases ha:bA a Γ with
  |none=>exact .inl ⟨by simp[eI],rfl⟩
  |some A=>exact .inr ⟨[A],by simp[rS,Ex.kids,ha,eI],.inl ⟨bh.1,A,rfl⟩,by simp[bA,ha,Ex.head],by simpa using l5 hΓ ha⟩
 |bi h a b=>
  show([]∈[eI (bA a Γ),eI (bA b Γ)]∧(bA a Γ).bind _=none)∨_
  cases ha:bA a Γ with
  |none=>exact .inl ⟨by simp[eI],rfl⟩
  |some A=>
   cases hb:bA b Γ with
   |none=>exact .inl ⟨by simp[eI],rfl⟩
   |some B=>exact .inr ⟨[A,B],by simp[rS,Ex.kids,ha,hb,eI],.inr (.inl ⟨bh.1,A,B,rfl⟩),by simp[bA,ha,hb,Ex.head],by intro T hT;simp at hT;rcases hT with rfl|rfl;exact l5 hΓ ha;exact l5 hΓ hb⟩
 |ite a b c=>
  show([]∈[eI (bA a Γ),eI (bA b Γ),eI (bA c Γ)]∧(bA a Γ).bind _=none)∨_
  cases ha:bA a Γ with
  |none=>exact .inl ⟨by simp[eI],rfl⟩
  |some A=>
   cases hb:bA b Γ with
   |none=>exact .inl ⟨by simp[eI],rfl⟩
   |some B=>
    cases hc:bA c Γ with
    |none=>exact .inl ⟨by simp[eI],rfl⟩
    |some C0=>exact .inr ⟨[A,B,C0],by simp[rS,Ex.kids,ha,hb,hc,eI],.inr (.inr ⟨rfl,A,B,C0,rfl⟩),by simp[bA,ha,hb,hc,Ex.head],by intro T hT;simp at hT;rcases hT with rfl|rfl|rfl;exact l5 hΓ ha;exact l5 hΓ hb;exact l5 hΓ hc⟩
theorem W0 {f:ai} {A B:Ty} {Γ:Sc}:eI (bA (.fn f x A B e) Γ)=if(!decide (1+A.n+B.n<=16)||decide (eI (bA e (Γ++[(f,.op true A B),(x,A)]))≠B.text))=true then[] else(Ty.op true A B).text:=by
 show eI (if 1+A.n+B.n<=16 then(bA e (Γ++[(f,.op true A B),(x,A)])).bind λC=>if kU C B then some (.op true A B) else none else none)=_
 by_cases h:1+A.n+B.n<=16
 ·rw[iP h,dT h,Bool.not_true,Bool.false_or]
  cases hC:bA e (Γ++[(f,.op true A B),(x,A)]) with
  |none=>
   have hz:decide (eI none≠B.text)=true:=by simpa[eI] using λh:[]=B.text=>B.ne h.symm
   rw[iP hz];rfl
  |some C0=>
   show eI (if kU C0 B=true then some (.op true A B) else none)=_
   by_cases hq:C0.text=B.text
   ·rw[iP (show kU C0 B=true from dT hq),iN (by simp[eI,hq])];rfl
   ·rw[iN (show¬kU C0 B=true from by unfold kU;simpa using hq),iP (by simp[eI,hq])];rfl
 ·rw[iN h,dF h,iP sm];rfl
theorem ai5 (e:Ex) (Γ:Sc):(rS e Γ).length<=3:=by
 rw[rS,List.length_map]
 cases e<;>simp[Ex.kids]
theorem ai6 {Γ:Sc} (bh:e.ok) (eF:e.iQ=false) (h1:e.head≠gv) (h2:e.head≠gV) (hΓ:yP Γ) (v:Value) (L:List Nat) (w:World) (hv:bf L w v (rS e Γ)):
  bw Tryz.prog 198 [str e.head,v] w λr w'=>r=str (eI (bA e Γ))∧aj [] w w':=by
 rcases ai4 bh eF h1 h2 hΓ with⟨hn,hq⟩|⟨Ts,hk,hj,hq,hT⟩
 ·rw[hq];exact aiM e.head (rS e Γ) (by have:=ai5 e Γ;omega) hn v L w hv
 ·rw[hq];exact aiZ e.head Ts hj hT v L w (hk▸hv)
theorem ai7 {Γ:Sc} (h:k<e.kids.length):(rS e Γ).take (k+1)=(rS e Γ).take k++[eI (bA (fZ e k) Γ)]:=by
 rw[List.take_add_one]
 simp[rS,fZ,gE h]
theorem W1:∀(m:Nat) (e:Ex),e.n<=m->e.n<=1000->e.ok->∀(Γ:Sc),Γ.length+2*e.n<=100000->yP Γ->∀(v vn vt:Value) (L:List Nat) (w:World),(∀x,x∈L->x<w.heap.size)->bC L w v e.au->bf L w vn (Γ.map Prod.fst)->bf L w vt (Γ.map λp=>p.2.text)->
  bw Tryz.prog 159 [v,vn,vt] w λr w'=>r=str (eI (bA e Γ))∧aj [] w w':=by
 intro m
 induction m with
 |zero=>intro e h;have:=e.pos;omega
 |succ m ih=>
  intro e hm mh bh Γ hΓl hΓ v vn vt L w lS hv j1 ek
  obtain⟨a,np,c,rfl,hn,aO⟩:=cY hv
  subst hn
  obtain⟨an,nn,cn,rfl,qk⟩:=dH j1
  obtain⟨ay,ny,Ic,rfl,Ki⟩:=dH ek
  have hK:=aj.refl [] w
  have fD:(Γ.map Prod.fst).length=Γ.length:=by simp
  have iG:(Γ.map λp=>p.2.text).length=Γ.length:=by simp
  have Kv:=HO e
  refine bU [.tmp 6] 132 Tryz.func159 rfl acR rfl rfl ?_
  refine zr<|eK rfl λw1 aI cW dh=>gY aI hK aO j1 ek λhK aO j1 ek=>?_
  refine W ?_
  refine zc rfl (λh1=>?_) (λh1=>?_)
  have aQ:∃x,e= .at x:=(by have ha:=(wu bh).1 h1;cases e<;>first|exact⟨_,rfl⟩|cases ha)
  obtain⟨x,rfl⟩:=aQ
  refine W ?_
  refine aA (wk _ _) ?_
  rintro _ _ ⟨rfl,rfl⟩
  refine aV<|zc rfl (λh2=>?_) (λh2=>?_)
  have hq:bA (.at x) Γ=look Γ x:=iP h2
  refine W ?_
  refine aA (HM (Γ.map Prod.fst) (Γ.map λp=>p.2.text) om om x _ _ _ _ w1 j1 ek) ?_
  rintro _ w2 ⟨rfl,az⟩
  have dx:=az.size
  have hK:=hK.ext az
  refine W ?_
  have zE:=VY x Γ
  rw[<-fD] at zE
  exact⟨_,rfl,congrArg (λz=>str z) (by rw[hq,<-ai3];exact zE),hK⟩
  have hq:bA (.at x) Γ=some .i:=iN (λhh=>Bool.noConfusion (hh.symm.trans h2))
  refine W ?_
  exact⟨_,rfl,by rw[hq];rfl,hK⟩
  have eF:e.iQ=false:=(by cases hh:e.iQ;rfl;exact absurd ((wu bh).2 hh) h1)
  obtain⟨HP,nj,ju,oX⟩:=Ex.ak eF
  obtain⟨jB,Fe,Ff⟩:=HN bh eF
  obtain⟨b0,wj,xI,xJ,e0,uQ,kh⟩:=fg aO jB
  cases e0
  have uQ:=uQ.cells
  refine WI ?_
  refine zi (i:=0) cD aM rfl rfl jB<|W ?_
  refine zc rfl (λh3=>?_) (λh3=>?_)
  obtain⟨nx,ea,eb,rfl⟩:=KB bh (ju.symm.trans h3)
  have xU:(Ex.lt nx ea eb).n=2+ea.n+eb.n:=rfl
  have KF:(Ex.lt nx ea eb).au.ak.length=4:=rfl
  obtain⟨b1,eX,gR,gF,e1,bK,cN⟩:=fg aO (i:=1) om
  cases e1
  obtain⟨b2,lP,iI,iy,e2,bY,dM⟩:=fg aO (i:=2) om
  cases e2
  have dM:bC L _ _ ea.au:=dM
  obtain⟨b3,BP,qm,qo,e3,dS,ei⟩:=fg aO (i:=3) om
  cases e3
  have ei:bC L _ _ eb.au:=ei
  refine WI ?_
  refine zi (i:=2) cD aM rfl rfl ((show 2<4 from om))<|W ?_
  refine aA (ih ea om om bh.2.1 Γ om hΓ _ _ _ L w1 (λx hx=>lL (lS x hx) hK.size) dM j1 ek) ?_
  rintro _ w2 ⟨rfl,az⟩
  have dx:=az.size
  refine J2 az hK j1 ek cW bK dS ei λhK j1 ek cW bK dS ei=>?_
  refine W ?_
  refine zc rfl (λh4=>?_) (λh4=>?_)
  have hz:bA ea Γ=none:=WX h4
  have hq:bA (.lt nx ea eb) Γ=none:=(show(bA ea Γ).bind _=none from by rw[hz];rfl)
  refine W ?_
  exact⟨_,rfl,by rw[hq];rfl,hK⟩
  obtain⟨A,hA⟩:=WY h4
  have hq:bA (.lt nx ea eb) Γ=bA eb (Γ++[(nx,A)]):=(show(bA ea Γ).bind _=_ from by rw[hA];rfl)
  have hGA:=GV (x:=nx) hΓ (l5 hΓ hA)
  have hAt:eI (bA ea Γ)=A.text:=by rw[hA];rfl
  refine WZ ?_
  apply vT dv 18 (rA 41 17++[6]) (rA 41 17++[6]) [[],[0],[1],[2],[],[],[5],[6],[7],[8],[9],[4,10],[],[],[13],[12,14],[3,11,15],[16]] [It.v _,It.v _,It.v _,It.v _,It.v _,It.v _,It.v _,It.v _,It.v _,It.v _,It.p (fun(v:Value) (ww:World)=>bf L ww v [nx]),It.p (fun(v:Value) (ww:World)=>bf L ww v (Γ.map Prod.fst++[nx])),It.v _,It.v _,It.p (fun(v:Value) (ww:World)=>bf L ww v [eI (bA ea Γ)]),It.p (fun(v:Value) (ww:World)=>bf L ww v ((Γ.map λp=>p.2.text)++[eI (bA ea Γ)])),It.v _,It.v _] de (by exact⟨λv w w' h k=>bf.ext h k,λv w w' h k=>bf.ext h k,λv w w' h k=>bf.ext h k,λv w w' h k=>bf.ext h k,trivial⟩)
  intro wd aC
  refine VA ?_
  refine vk aC (λx w3 aH=>?_) ?_
  refine zi (i:=3) cD aM rfl rfl ((show 3<4 from om)) ?_
  exact pv
  refine VA ?_
  refine vk aC (λx w3 aH=>?_) ?_
  refine zi (i:=1) cD aM rfl rfl ((show 1<4 from om)) ?_
  exact pv
  refine VA ?_
  refine vk aC (λx w3 aH=>?_) ?_
  have hK:=hK.ext aH
  refine eR bg ba rfl rfl ?_
  intro w4 aP Pn gQ
  have hK:=hK.ext aP
  exact pf aP ((aK.dO [nx] Pn (λhx=>by have:=lS _ hx;have:=hK.size;have:=aH.size;omega)))
  refine vk aC (λx w3 aH=>?_) ?_
  refine bI aH hK j1 λhK j1=>?_
  intro v10 d10
  refine aA (uN (Γ.map Prod.fst) [nx] so _ _ L w3 j1 d10 (λx hx=>lL (lS x hx) hK.size)) ?_
  rintro v4 w4 ⟨ke,aP⟩
  have fH:=aP.size
  have jN:=ke
  exact pf aP jN
  refine VA ?_
  refine vk aC (λx w3 aH=>?_) ?_
  have hK:=hK.ext aH
  refine eR bg ba rfl rfl λw4 aP Dn gQ=>?_
  have hK:=hK.ext aP
  exact pf aP ((aK.dO [eI (bA ea Γ)] Dn (λhx=>by have:=lS _ hx;have:=hK.size;have:=aH.size;omega)))
  refine vk aC (λx w3 aH=>?_) ?_
  refine bI aH hK ek λhK ek=>?_
  intro mJ d14
  refine aA (uN (Γ.map λp=>p.2.text) [eI (bA ea Γ)] so (.slice ay ny Ic) _ L w3 ek d14 (λx hx=>lL (lS x hx) hK.size)) ?_
  rintro v4 w4 ⟨ke,aP⟩
  have fH:=aP.size
  have jN:=ke
  exact pf aP jN
  refine vk aC (λx w3 aH=>?_) ?_
  refine bI aH hK ei λhK ei=>?_
  intro v11 d11
  intro zM d15
  refine aA (ih eb om om bh.2.2 (Γ++[(nx,A)]) so hGA _ _ _ L w3 (λx hx=>lL (lS x hx) hK.size) ei (show bf L _ _ ((Γ++_).map _) from by rw[List.map_append];exact d11) (show bf L _ _ ((Γ++[(nx,A)]).map _) from by rw[List.map_append,List.map_singleton,<-hAt];exact d15)) ?_
  rintro _ w4 ⟨rfl,aP⟩
  have fH:=aP.size
  exact pk aP
  exact VZ
  intro x qY DH
  intro v10 d10
  intro v11 d11
  intro mJ d14
  intro zM d15
  have hK:=hK.ext DH
  change OW _ _ _ _ [] (bo (bm _ x _) (zZ 41 [_,_,_,_,_,_,_,_,_,_,_,_,_,_,_,_,_]++[(6,_)])) _
  refine W ?_
  exact⟨_,rfl,congrArg (λz=>str (eI z)) hq.symm,hK⟩
  have mQ:e.head≠gv:=λhh=>h3 (ju.trans hh)
  refine W ?_
  refine zc rfl (λh5=>?_) (λh5=>?_)
  obtain⟨nf,nx,tA,tB,eb,rfl⟩:=KC bh (ju.symm.trans h5)
  have xU:(Ex.fn nf nx tA tB eb).n=3+tA.n+tB.n+eb.n:=rfl
  have KJ:(Ex.fn nf nx tA tB eb).au.ak.length=6:=rfl
  obtain⟨b1,eX,gR,gF,e1,bK,cN⟩:=fg aO (i:=1) om
  cases e1
  obtain⟨b2,lP,iI,iy,e2,bY,dM⟩:=fg aO (i:=2) om
  cases e2
  obtain⟨b3,BP,qm,qo,e3,dS,ei⟩:=fg aO (i:=3) om
  cases e3
  have ei:bC L _ _ tA.au:=ei
  obtain⟨b4,aja,Oq,Ot,e4,jK,qp⟩:=fg aO (i:=4) om
  cases e4
  have qp:bC L _ _ tB.au:=qp
  obtain⟨b5,ajb,FD,FE,e5,kx,nL⟩:=fg aO (i:=5) om
  cases e5
  have nL:bC L _ _ eb.au:=nL
  have hAz:=tA.size
  have hBz:=tB.size
  have Ol:=tA.len
  have Om:=tB.len
  refine WI ?_
  refine zi (i:=3) cD aM rfl rfl ((show 3<6 from om))<|W ?_
  refine aA (uJ tA.au.size tA.au (lR _) tA.l4.wf om (show tA.text.length<=100000000 from om) _ _ w1 ei) ?_
  rintro _ w2 ⟨rfl,az⟩
  have dx:=az.size
  refine afV az hK j1 ek cW bK bY jK kx qp λhK j1 ek cW bK bY jK kx qp=>?_
  have nL:=nL.ext az
  refine WI ?_
  refine zi (i:=4) cD aM rfl rfl ((show 4<6 from om))<|W ?_
  refine aA (uJ tB.au.size tB.au (lR _) tB.l4.wf om (show tB.text.length<=100000000 from om) _ _ w2 qp) ?_
  rintro _ w3 ⟨rfl,aH⟩
  have fh:=aH.size
  refine C5 aH hK j1 ek cW bK bY kx nL λhK j1 ek cW bK bY kx nL=>?_
  refine W ?_
  refine aA (VK true tA tB bh.2.2.2.1 bh.2.2.2.2.1 w3) ?_
  rintro _ w4 ⟨rfl,aP⟩
  have fH:=aP.size
  refine C5 aP hK j1 ek cW bK bY kx nL λhK j1 ek cW bK bY kx nL=>?_
  have W2:∀x,x∈L->x<w4.heap.size:=(λx hx=>lL (lS x hx) hK.size)
  refine W ?_
  refine iS (λ_:Unit=>[(10,str (if 1+tA.n+tB.n<=16 then(Ty.op true tA tB).text else[])),(104,.bool (!decide (1+tA.n+tB.n<=16)||decide (eI (bA eb (Γ++[(nf,.op true tA tB),(nx,tA)]))≠tB.text)))]) (λ_ w'=>aj [] w w'∧aj [] w4 w') ?_ ?_
  rcases Classical.em (1+tA.n+tB.n<=16) with lr|lr
  apply vT dv 29 (rA 76 29) (rA 76 29) [[],[0],[1],[2],[2,3],[2,4],[2,5],[2],[2],[2,8],[2,9],[2,10],[2,11],[2],[2,13],[2,14],[2,15],[2,16],[2,12,17],[2,7,18],[2],[2],[2],[2,21,22],[2,20,23],[2,6,19,24],[2],[2,25,26],[2,27]] [It.v _,It.v _,It.v (.bool false),It.v _,It.v _,It.v _,It.v _,It.v _,It.v _,It.v _,It.v _,It.v _,It.v _,It.v _,It.v _,It.v _,It.v _,It.v _,It.p (fun(v:Value) (ww:World)=>bf L ww v [nf,nx]),It.p (fun(v:Value) (ww:World)=>bf L ww v (Γ.map Prod.fst++[nf,nx])),It.v _,It.v _,It.v _,It.p (fun(v:Value) (ww:World)=>bf L ww v [(if 1+tA.n+tB.n<=16 then(Ty.op true tA tB).text else[]),tA.text]),It.p (fun(v:Value) (ww:World)=>bf L ww v ((Γ.map λp=>p.2.text)++[(if 1+tA.n+tB.n<=16 then(Ty.op true tA tB).text else[]),tA.text])),It.v _,It.v _,It.v _,It.v _] de (by exact⟨λv w w' h k=>bf.ext h k,λv w w' h k=>bf.ext h k,λv w w' h k=>bf.ext h k,λv w w' h k=>bf.ext h k,trivial⟩)
  intro wd aC
  refine VA ?_
  refine vc (λx w5 aN=>?_) ?_
  refine WZ ?_
  exact pv (by exact congrArg Value.bool (show(!decide (1+tA.n+tB.n<=16))=false from by rw[dT lr];rfl))
  refine VA ?_
  refine vk aC (λx w5 aN=>?_) ?_
  refine zi (i:=5) cD aM rfl rfl ((show 5<6 from om)) ?_
  exact pv
  refine VA ?_
  refine vk aC (λx w5 aN=>?_) ?_
  refine zi (i:=1) cD aM rfl rfl ((show 1<6 from om)) ?_
  exact pv
  refine VA ?_
  refine vk aC (λx w5 aN=>?_) ?_
  refine zi (i:=2) cD aM rfl rfl ((show 2<6 from om)) ?_
  exact pv
  refine VA ?_
  refine vk aC (λx w5 aN=>?_) ?_
  refine lk bg ba rfl rfl rfl rfl ?_
  intro w6 bN ajc lj
  exact pf bN ((aK.dO [nf,nx] ajc (λhx=>by have:=W2 _ hx;have:=aN.size;omega)))
  refine vk aC (λx w5 aN=>?_) ?_
  refine bI aN hK j1 λhK j1=>?_
  intro yd d18
  refine aA (uN (Γ.map Prod.fst) [nf,nx] so (.slice an nn cn) _ L w5 j1 d18 (λx hx=>lL (lS x hx) hK.size)) ?_
  rintro v6 w6 ⟨wL,bN⟩
  have iJ:=bN.size
  have jN:=wL
  exact pf bN jN
  refine VA ?_
  refine vk aC (λx w5 aN=>?_) ?_
  refine lk bg ba rfl rfl rfl rfl λw6 bN Po lj=>?_
  exact pf bN ((aK.dO [(if 1+tA.n+tB.n<=16 then(Ty.op true tA tB).text else[]),tA.text] Po (λhx=>by have:=W2 _ hx;have:=aN.size;omega)))
  refine vk aC (λx w5 aN=>?_) ?_
  refine bI aN hK ek λhK ek=>?_
  intro Wz d23
  refine aA (uN (Γ.map λp=>p.2.text) [(if 1+tA.n+tB.n<=16 then(Ty.op true tA tB).text else[]),tA.text] so (.slice ay ny Ic) _ L w5 ek d23 (λx hx=>lL (lS x hx) hK.size)) ?_
  rintro v6 w6 ⟨wL,bN⟩
  have iJ:=bN.size
  have jN:=wL
  exact pf bN jN
  refine vk aC (λx w5 aN=>?_) ?_
  refine bI aN hK nL λhK nL=>?_
  intro K6 d19
  intro v24 d24
  refine aA (ih eb om om bh.2.2.2.2.2 (Γ++[(nf,.op true tA tB),(nx,tA)]) so (by have:=GV (x:=nx) (GV (x:=nf) hΓ (T:=.op true tA tB) (show 1+tA.n+tB.n<=16 from lr)) bh.2.2.2.1;simpa using this) _ _ _ L w5 (λx hx=>lL (lS x hx) hK.size) nL (show bf L _ _ (List.map _ (Γ++[(nf,.op true tA tB),(nx,tA)])) from by rw[List.map_append];exact d19) (show bf L _ _ (List.map _ (Γ++[(nf,.op true tA tB),(nx,tA)])) from by rw[iP lr] at d24;rw[List.map_append];exact d24)) ?_
  rintro _ w6 ⟨rfl,bN⟩
  have iJ:=bN.size
  exact pk bN
  refine vc (λ_ _ _=>WZ pv) ?_
  refine vk aC (λx w5 aN=>?_) ?_
  refine WZ ?_
  exact pv
  refine vc (λ_ _ _=>WZ pv) ?_
  exact trivial
  intro x pL jq
  intro yd d18
  intro K6 d19
  intro Wz d23
  intro v24 d24
  have hK:=hK.ext jq
  change OW _ _ _ _ [] (bo (bm _ x _) (zZ 76 [_,_,_,_,_,_,_,_,_,_,_,_,_,_,_,_,_,_,_,_,_,_,_,_,_,_,_,_,_])) _
  refine W ?_
  exact⟨(),⟨rfl,congrArg Value.bool (show decide (eI (bA eb (Γ++[(nf,.op true tA tB),(nx,tA)]))≠tB.text)=_ from by rw[dT lr];rfl)⟩,hK,jq⟩
  apply lh dv 29 (rA 76 29) (rA 76 29) [[],[0],[1],[2],[2,3],[2,4],[2,5],[2],[2],[2,8],[2,9],[2,10],[2,11],[2],[2,13],[2,14],[2,15],[2,16],[2,12,17],[2,7,18],[2],[2],[2],[2,21,22],[2,20,23],[2,6,19,24],[2],[2,25,26],[2,27]] [It.v _,It.v _,It.v (.bool true),It.v _,It.v _,It.v _,It.v _,It.v _,It.v _,It.v _,It.v _,It.v _,It.v _,It.v _,It.v _,It.v _,It.v _,It.v _,It.v _,It.v _,It.v _,It.v _,It.v _,It.v _,It.v _,It.v _,It.v _,It.v _,It.v _] de rfl
  intro wd aC
  refine VA ?_
  refine vc (λx w5 aN=>?_) ?_
  refine WZ ?_
  exact pv (by exact congrArg Value.bool (show(!decide (1+tA.n+tB.n<=16))=true from by rw[dF lr];rfl))
  refine vc (λx w5 aN=>?_) ?_
  exact cK pv
  refine vk aC (λx w5 aN=>?_) ?_
  exact cK pv
  refine vk aC (λx w5 aN=>?_) ?_
  exact cK pv
  refine vk aC (λx w5 aN=>?_) ?_
  exact cK pv
  refine vc (λx w5 aN=>?_) ?_
  exact cK pv
  refine vc (λx w5 aN=>?_) ?_
  exact cK pv
  refine vk aC (λx w5 aN=>?_) ?_
  exact cK pv
  refine vk aC (λx w5 aN=>?_) ?_
  exact cK pv
  refine vc (λx w5 aN=>?_) ?_
  exact cK pv
  refine vk aC (λx w5 aN=>?_) ?_
  exact cK pv
  refine vc (λx w5 aN=>?_) ?_
  exact cK pv
  refine vk aC (λx w5 aN=>?_) ?_
  exact cK pv
  refine vk aC (λx w5 aN=>?_) ?_
  exact cK pv
  refine vc (λx w5 aN=>?_) ?_
  exact cK pv
  refine vk aC (λx w5 aN=>?_) ?_
  exact cK pv
  refine vk aC (λx w5 aN=>?_) ?_
  exact cK pv
  refine vk aC (λx w5 aN=>?_) ?_
  exact cK pv
  refine vc (λx w5 aN=>?_) ?_
  exact cK pv
  refine vc (λx w5 aN=>?_) ?_
  exact cK pv
  refine vc (λx w5 aN=>?_) ?_
  exact cK pv
  refine vk aC (λx w5 aN=>?_) ?_
  exact cK pv
  refine vk aC (λx w5 aN=>?_) ?_
  exact cK pv
  refine vk aC (λx w5 aN=>?_) ?_
  exact cK pv
  refine vc (λx w5 aN=>?_) ?_
  exact cK pv
  refine vk aC (λx w5 aN=>?_) ?_
  exact cK pv
  refine vc (λ_ _ _=>WZ pv) ?_
  exact trivial
  intro x pL jq
  have hK:=hK.ext jq
  change OW _ _ _ _ [] (bo (bm _ x _) (zZ 76 [_,_,_,_,_,_,_,_,_,_,_,_,_,_,_,_,_,_,_,_,_,_,_,_,_,_,_,_,_])) _
  refine W ?_
  exact⟨(),⟨rfl,congrArg Value.bool (show true=_ from by rw[dF lr];rfl)⟩,hK,jq⟩
  intro gu qX e45 hI
  obtain⟨hK,aB⟩:=hI
  refine zc rfl (λh6=>?_) (λh6=>?_)
  have hq:=(W0 (f:=nf) (x:=nx) (A:=tA) (B:=tB) (e:=eb) (Γ:=Γ)).trans (iP h6)
  refine W ?_
  exact⟨_,rfl,congrArg (λz=>str z) hq.symm,hK⟩
  have hq:=(W0 (f:=nf) (x:=nx) (A:=tA) (B:=tB) (e:=eb) (Γ:=Γ)).trans (iN (by rw[h6];simp))
  have h16:1+tA.n+tB.n<=16:=(by simp at h6;exact h6.1)
  refine W ?_
  exact⟨_,rfl,congrArg (λz=>str z) ((iP h16).trans hq.symm),hK⟩
  have rO:e.head≠gV:=λhh=>h5 (ju.trans hh)
  have O4:=cW
  have nB:=hK
  have ajf:=aO
  have ajg:=j1
  have ajh:=ek
  have aji:=uQ
  have hky:(rS e Γ).length=e.kids.length:=by simp[rS]
  refine gT<|zr<|gA bg ba λw2 az ajk dD=>tC az hK aO j1 ek cW uQ λhK aO j1 ek cW uQ=>?_
  refine W ?_
  refine dR (λq:Nat×Value×Option Nat=>[(1,.slice an nn cn),(2,.slice ay ny Ic),(3,.pointer (some ⟨w.heap.size,0,none⟩)),(12,q.2.1),(13,.int .i64 ((e.from+q.1:Nat):Int))]) (λq ww=>aj [] w1 ww∧cG ww 9 q.2.1 q.2.2 ((rS e Γ).take q.1)∧(∀x,x∈q.2.2.toList->w1.heap.size<=x)∧q.1<=e.kids.length) (λq=>e.kids.length-q.1) ((0,.slice (some ⟨w1.heap.size,0,none⟩) 0 0,some w1.heap.size)) (⟨rfl,rfl,rfl,rfl,by rw[WK eF mQ rO];rfl⟩) (⟨az,by simpa using ajk.ll,sm,sm⟩) λgg w3 e3 hI=>?_
  obtain⟨k,vl,gl⟩:=gg
  dsimp only at hI⊢
  obtain⟨di,hO,fG,hk⟩:=hI
  have hK:=nB.ext di
  have aO:=ajf.ext di
  have j1:=ajg.ext di
  have ek:=ajh.ext di
  have cW:=O4.ext di
  have uQ:=aji.ext di
  refine W ?_
  refine zc rfl (λh7=>?_) (λh7=>?_)
  have ic:k<e.kids.length:=om
  have qS:=oX k ic
  obtain⟨b1,eX,gR,gF,e1,bK,cN⟩:=fg aO (i:=e.from+k) om
  cases e1
  have cN:=cN.eq qS
  have uO:=GU bh ic
  have Cv:=zC ic
  have hkN:=Dm e (k+1)
  have aS:=ai7 (Γ:=Γ) ic
  refine W ?_
  refine aA (ih (fZ e k) om om uO.1 Γ om hΓ _ (.slice an nn cn) (.slice ay ny Ic) L w3 (λx hx=>lL (lS x hx) hK.size) cN j1 ek) ?_
  rintro _ w4 ⟨rfl,aP⟩
  have fH:=aP.size
  refine cJ aP hK hO di λhK hO di=>?_
  refine eR bg ba rfl rfl λw5 aN ajl gZ=>cJ aN hK hO di λhK hO di=>?_
  refine sF bg ba rfl rfl rfl rfl rfl rfl hO ajl (by rw[List.length_take];omega) λv9 g9 w6 cU aB fj=>?_
  rw[<-aS] at cU
  have BW:=di.size
  have di:=di.since aB (λx hx=>.inr (fG x hx))
  have hK:=nB.ext di
  have ajm:∀x,x∈g9.toList->w1.heap.size<=x:=(λx hx=>by rcases fj with h|h;(·exact fG x (h▸hx));(·rw[h] at hx;simp at hx;omega))
  refine W ?_
  exact⟨(k+1,v9,g9),⟨rfl,rfl,rfl,rfl,congrArg (Value.int .i64) om⟩,⟨di,cU,ajm,om⟩,by simp;omega⟩
  have ajn:k=e.kids.length:=by omega
  subst ajn
  rw[List.take_of_length_le (by rw[hky];exact lR _)] at hO
  refine WI ?_
  refine zi (i:=0) cD aM rfl rfl jB<|W ?_
  refine aA ((ju▸ai6 bh eF mQ rO hΓ _ _ w3 hO.rs)) ?_
  rintro _ w4 ⟨rfl,aP⟩
  have fH:=aP.size
  have hK:=hK.ext aP
  refine zA<|aV<|j4 ?_
  exact⟨_,rfl,rfl,hK⟩
def DI (s x:ai):Prop:=(mF s=false->x=[])∧∀e:Ex,bB s=some e.au->e.ok->e.n<=120->x=eI (bA e [])
theorem W3 {s y:ai} (hx:DI s x) (hy:DI s y):x=y:=by
 cases h:mF s with
 |false=>rw[hx.1 h,hy.1 h]
 |true=>
  obtain⟨e,he,bh,hn⟩:=xQ.1 h
  rw[hx.2 e he bh hn,hy.2 e he bh hn]
theorem ajo (h:cM e [] []≠[]):bA e []=none:=by
 cases ht:bA e [] with
 |none=>rfl
 |some T=>
  exfalso
  cases hf:cM e [] [] with
  |nil=>exact h hf
  |cons y ys=>
   have hy:y∈cM e [] []:=by rw[hf];simp
   rcases(CS y e [] []).1 hy with h1|⟨h1,_⟩
   ·cases h1
   ·have:=qd ht h1;simp[look] at this
theorem W4 (s:ai) (w:World):bw Tryz.prog 130 [str s] w λr w'=>(∃x,r=str x∧DI s x)∧aj [] w w':=by
 have hK:=aj.refl [] w
 refine bU [.tmp 2] 21 Tryz.func130 rfl acu rfl rfl ?_
 refine W ?_
 refine aA (HL s [] w sm) ?_
 rintro v1 w1 ⟨fN,aI⟩
 have dk:=aI.size
 have hK:=hK.ext aI
 obtain⟨t,tv,rfl,ht,hp⟩:=fN
 obtain⟨pa,pn,pc,rfl,eO,aO⟩:=cY ht
 refine W ?_
 refine dz aM rfl rfl rfl λw2 az cW dD=>?_
 have hK:=hK.grow;have hK:=hK.ext az;have ht:=ht.grow;have ht:=ht.ext az
 refine cL aM rfl rfl rfl cW rfl λw3 aH cW gL=>?_
 have hK:=hK.aD aH sx;have ht:=ht.aD aH sx
 refine W ?_
 refine yG (t:=12) rfl (λh1=>?_) (λh1=>?_)
 replace h1:=jW h1
 have hx:mF s=false:=by simpa using h1
 refine W ?_
 refine zc rfl (λh2=>?_) (λh2=>?_)
 refine W ?_
 exact⟨_,rfl,⟨[],rfl,λ_=>rfl,λe h1 h2 h3=>by rw[xQ.2 ⟨e,h1,h2,h3⟩] at hx;cases hx⟩,hK⟩
 simp at h2
 replace h1:=jW h1
 have hx:mF s=true:=by simpa using h1
 obtain⟨e,he,bh,hn⟩:=xQ.1 hx
 have e2:=hp.1 _ he
 subst e2
 have FB:∀{e':Ex},bB s=some e'.au->e'.ok->e'=e:=(λh1 h2=>rb h2 bh (Option.some.inj (h1.symm.trans he)))
 refine zm<|aA (ahm s w3) ?_
 rintro v4 w4 ⟨ke,aP⟩
 have fH:=aP.size
 refine cJ aP hK ht cW λhK ht cW=>?_
 obtain⟨b9,rfl,cT⟩:=ke
 refine W ?_
 refine zc rfl (λh3=>?_) (λh3=>?_)
 have jB:b9=false:=(by simpa using h3)
 have my:cM e [] []≠[]:=(λh=>by have:=cT.2 ⟨e,he,bh,hn,h⟩;rw[jB] at this;cases this)
 refine W ?_
 exact⟨_,rfl,⟨[],rfl,λh=>rfl,λe' h1 h2 h3=>by rw[FB h1 h2,ajo my];rfl⟩,hK⟩
 refine W ?_
 refine gA bg ba λw5 aN jP gZ=>bI aN hK ht λhK ht=>?_
 refine gA bg ba λw6 bN DG lj=>bI bN hK ht λhK ht=>?_
 refine aA (W1 120 e hn om bh [] so (λs T h=>by simp[look] at h) _ _ _ [] w6 sm (ht.gm sm) (bP.nil _ _ _) (bP.nil _ _ _)) ?_
 rintro _ w7 ⟨rfl,bW⟩
 have lp:=bW.size
 have hK:=hK.ext bW
 refine W ?_
 have Pp:DI s (eI (bA e [])):=⟨(λh=>by rw[hx] at h;cases h),λe' h1 h2 h3=>by rw[FB h1 h2]⟩
 exact⟨_,rfl,⟨_,rfl,Pp⟩,hK⟩
theorem ajp (s:ai) (w:World):bw Tryz.prog 127 [str s] w λr w'=>(∃b,r= .bool b∧∀x,DI s x->b=decide (x≠[]))∧aj [] w w':=by
 have hK:=aj.refl [] w
 refine bU [.tmp 2] 6 Tryz.func127 rfl acq rfl rfl ?_
 refine W ?_
 refine aA (W4 s w) ?_
 rintro v1 w1 ⟨fN,aI⟩
 have dk:=aI.size
 have hK:=hK.ext aI
 obtain⟨x,rfl,hx⟩:=fN
 refine W ?_
 exact⟨_,rfl,⟨_,rfl,λy hy=>by rw[W3 hx hy]⟩,hK⟩
theorem Ig (s:ai) (hs:s.length<=1000000) (w:World):bw Tryz.prog 185 [str s] w λr w'=>r=str (dC s)∧aj [] w w':=by
 have hK:=aj.refl [] w
 refine bU [.tmp 2] 6 Tryz.func185 rfl ade rfl rfl ?_
 refine W ?_
 exact⟨_,rfl,rfl,hK⟩
theorem ajq:∀(m:Nat) (T:Ty),T.n<=m->T.n<=60->∀(v:Value) (L:List Nat) (w:World),bC L w v T.au->bw Tryz.prog 193 [v] w λr w'=>r=str (bz T)∧aj [] w w':=by
 intro m
 induction m with
 |zero=>intro T h;have:=T.pos;omega
 |succ m ih=>
  intro T hm mh v L w hv
  obtain⟨a,np,c,rfl,hn,aO⟩:=cY hv
  subst hn
  have hK:=aj.refl [] w
  refine bU [.tmp 2] 37 Tryz.func193 rfl adn rfl rfl ?_
  refine zr<|eK rfl λw1 aI aY dh=>bI aI hK aO λhK aO=>?_
  refine W ?_
  refine zc rfl (λh1=>?_) (λh1=>?_)
  have hi:T= .i:=(by cases T with|i=>rfl|op g a b=>exact absurd rfl h1)
  refine W ?_
  exact⟨_,rfl,congrArg (λz=>str z) (by rw[hi,T6]),hK⟩
  have aQ:∃g A B,T= .op g A B:=(by cases T with|i=>exact absurd h1 de|op g a b=>exact⟨g,a,b,rfl⟩)
  obtain⟨g,A,B,rfl⟩:=aQ
  have xU:(Ty.op g A B).n=1+A.n+B.n:=rfl
  have Pq:(Ty.op g A B).au.ak.length=3:=rfl
  obtain⟨b0,wj,xI,xJ,e0,eD,hT0⟩:=fg aO (i:=0) om
  cases e0
  have eD:fF L _ _ _ [str (j7 g),_]:=eD
  obtain⟨b1,eX,gR,gF,e1,bK,cN⟩:=fg aO (i:=1) om
  cases e1
  have cN:bC L _ _ A.au:=cN
  obtain⟨b2,lP,iI,iy,e2,bY,dM⟩:=fg aO (i:=2) om
  cases e2
  have dM:bC L _ _ B.au:=dM
  have Ol:=CT A
  have Om:=CT B
  have Wx:=Nv (bz B)
  refine WI ?_
  refine zi (i:=1) cD aM rfl rfl ((show 1<3 from om))<|W ?_
  refine aA (ih A om om _ L w1 cN) ?_
  rintro _ w2 ⟨rfl,az⟩
  have dx:=az.size
  refine kJ az hK aY eD bY dM λhK aY eD bY dM=>?_
  refine WI ?_
  refine zi (i:=2) cD aM rfl rfl ((show 2<3 from om))<|W ?_
  refine aA (ih B om om _ L w2 dM) ?_
  rintro _ w3 ⟨rfl,aH⟩
  have fh:=aH.size
  refine cJ aH hK aY eD λhK aY eD=>?_
  refine WI ?_
  refine zi (i:=0) cD aM rfl rfl ((show 0<3 from om))<|W ?_
  refine zc rfl (λh2=>?_) (λh2=>?_)
  have hg:g=false:=(by cases g with|false=>rfl|true=>exact absurd h2 de)
  refine W ?_
  exact⟨_,rfl,congrArg (λz=>str z) (by rw[hg,T7]),hK⟩
  have hg:g=true:=(by cases g with|true=>rfl|false=>exact absurd rfl h2)
  refine W ?_
  refine aA (Ig (bz B) om w3) ?_
  rintro _ w4 ⟨rfl,aP⟩
  have fH:=aP.size
  have hK:=hK.ext aP
  refine W ?_
  exact⟨_,rfl,congrArg (λz=>str z) (by rw[hg,T8]),hK⟩
theorem wO (T:Ty) (hT:T.n<=60) (w:World):bw Tryz.prog 156 [str T.text] w λr w'=>r=str (bz T)∧aj [] w w':=by
 have hK:=aj.refl [] w
 refine bU [.tmp 2] 12 Tryz.func156 rfl acO rfl rfl ?_
 refine W ?_
 refine aA (Kc T.text [] w sm) ?_
 rintro v1 w1 ⟨fN,aI⟩
 have dk:=aI.size
 have hK:=hK.ext aI
 obtain⟨t,tv,rfl,ht,hp⟩:=fN
 have e2:=hp.1 _ (Ty.bB hT)
 subst e2
 obtain⟨pa,pn,pc,rfl,eO,aO⟩:=cY ht
 refine W ?_
 refine dz aM rfl rfl rfl λw2 az cW dD=>?_
 have hK:=hK.grow;have hK:=hK.ext az;have ht:=ht.grow;have ht:=ht.ext az
 refine cL aM rfl rfl rfl cW rfl λw3 aH cW gL=>?_
 have hK:=hK.aD aH sx;have ht:=ht.aD aH sx
 refine W ?_
 refine aA (ajq 60 T hT hT _ [] w3 (ht.gm sm)) ?_
 rintro _ w4 ⟨rfl,aP⟩
 have fH:=aP.size
 have hK:=hK.ext aP
 refine W ?_
 exact⟨_,rfl,rfl,hK⟩
theorem ajr (h:ai) (w:World):bw Tryz.prog 226 [str h] w λr w'=>r=str (qR h)∧aj [] w w':=by
 have hK:=aj.refl [] w
 refine bU [.tmp 2] 10 Tryz.func226 rfl adK rfl rfl ?_
 refine W ?_
 refine zc rfl (λh1=>?_) (λh1=>?_)
 have hq:qR h=[97,100,100]:=iP h1
 refine W ?_
 exact⟨_,rfl,congrArg (λz=>str z) hq.symm,hK⟩
 have h1:=h1
 refine W ?_
 refine zc rfl (λh2=>?_) (λh2=>?_)
 have hq:qR h=[115,117,98]:=(iN h1).trans (iP h2)
 refine W ?_
 exact⟨_,rfl,congrArg (λz=>str z) hq.symm,hK⟩
 have h2:=h2
 refine W ?_
 refine zc rfl (λh3=>?_) (λh3=>?_)
 have hq:qR h=[109,117,108]:=(iN h1).trans ((iN h2).trans (iP h3))
 refine W ?_
 exact⟨_,rfl,congrArg (λz=>str z) hq.symm,hK⟩
 have hq:qR h=l6:=(iN h1).trans ((iN h2).trans (iN h3))
 refine W ?_
 exact⟨_,rfl,congrArg (λz=>str z) hq.symm,hK⟩
def t8:tt:=⟨164,58,166,9⟩
theorem dK.open {τ:tt} (h:dK τ E L w b o m):∃vb vt vc vy gb gt gc gy,aK w b [vb,vt,.int .i64 (m.count:Int),.bool m.wide,vc,vy].toArray τ.M∧gK τ E L w b o vb vt vc vy gb gt gc gy m:=h
structure dX (E L:List Nat) (w:World) (L':List Nat) (w':World):Prop where
 fr:Fr L w L' w'
 out:∃G,aj G w w'∧∀x,x∈G->x∉E
section
variable {E L L1 L2:List Nat} {w w1 w2:World}
theorem dX.refl (E L:List Nat) (w:World):dX E L w L w:=⟨Fr.refl _ _,[],aj.refl _ _,sm⟩
theorem dX.add (h:dX E L w L1 w1) (k:Fr L1 w1 L2 w2) (kg:aj G w1 w2) (hG:∀x,x∈G->x∉E):dX E L w L2 w2:=
 let⟨G0,k0,h0⟩:=h.out
 ⟨h.fr.go k,G0++G,(k0.mono λx hx=>List.mem_append_left _ hx).trans (kg.mono λx hx=>mR _ hx),λx hx=>(mA.1 hx).elim (h0 x) (hG x)⟩
theorem dX.go (h:dX E L w L1 w1) (k:dX E L1 w1 L2 w2):dX E L w L2 w2:=let⟨_,kg,hG⟩:=k.out;h.add k.fr kg hG
theorem dX.ext (h:dX E L w L1 w1) (k:aj [] w1 w2):dX E L w L1 w2:=h.add (Fr.of k sm) k sm
theorem dX.aD (h:dX E L w L1 w1) {x:Nat} (k:aj [x] w1 w2) (h1:x∈L1) (h2:x∉E):dX E L w L1 w2:=h.add (Fr.of k (by simpa using h1)) k (by simpa using h2)
theorem dX.tk (k:dX E L w L1 w1) {T:TypeId} {t:Tk} (h:gX L w T b t) (hb:b∈E):gX L1 w1 T b t:=let⟨_,kg,hG⟩:=k.out;h.go k.fr kg λhx=>hG b hx hb
end
theorem ajs (n:Nat) (hn:n<100000) (w:World):bw Tryz.prog 142 [.int .i64 ((n:Int)+1-1)] w λr w'=>r=str (aU n)∧aj [] w w':=by
 rw[Int.add_sub_cancel];exact iH (n+1) n om om w
theorem Pr (m:Mk) (hc:m.count<100000) (E L:List Nat) (b:Nat) (o:Bool) (w:World) (h:dK t8 E L w b o m):
  bw Tryz.prog 224 [.pointer (some ⟨b,0,none⟩)] w λr w'=>(r=str m.aJ∧dK t8 E L w' b o m.lN)∧aj [b] w w':=by
 obtain⟨vb,vt,vc,vy,gb,gt,gc,gy,bj,hS⟩:=h.open
 have bj:aK w b [vb,vt,.int .i64 (m.count:Int),.bool m.wide,vc,vy].toArray 164:=bj
 have hK:=aj.refl [b] w
 refine bU [.tmp 2] 18 Tryz.func224 rfl adI rfl rfl ?_
 refine W ?_
 refine gD (o:=2) pq rfl rfl rfl bj rfl λw1 aI bj du=>?_
 have hS:=hS.aF aI sm
 have hK:=hK.trans aI
 refine W ?_
 refine aA ((ajs m.count hc w1)) ?_
 rintro _ w2 ⟨rfl,az⟩
 have dx:=az.size
 refine cJ az hK bj hS λhK bj hS=>?_
 refine iu rfl rfl rfl rfl (by have:=E0 _ m.count (lR _);simp;omega)<|zA<|aV<|j4 ?_
 exact⟨_,rfl,⟨rfl,⟨_,_,_,_,_,_,_,_,bj,hS.num (m.count+1) m.wide⟩⟩,hK⟩
theorem sL (k:ai) (m:Mk) (hc:m.types.length<100000) (E L:List Nat) (b:Nat) (o:Bool) (w:World) (h:dK t8 E L w b o m):
  bw Tryz.prog 194 [.pointer (some ⟨b,0,none⟩),str k] w λr w'=>r= .int .i64 (m.types.length:Int)∧∃L',dK t8 E L' w' b o (m.df k)∧dX E L w L' w':=by
 obtain⟨vb,vt,vc,vy,gb,gt,gc,gy,bj,hS⟩:=h.open
 have bj:aK w b [vb,vt,.int .i64 (m.count:Int),.bool m.wide,vc,vy].toArray 164:=bj
 have hR:=dX.refl E L w
 refine bU [.tmp 4] 30 Tryz.func194 rfl ado rfl rfl ?_
 refine W ?_
 refine eR bg ba rfl rfl λw1 aI iZ dh=>cJ aI hR bj hS λhR bj hS=>?_
 refine sF bg ba rfl rfl rfl rfl rfl rfl hS.ty iZ om λv9 g9 w2 cU az fj=>?_
 obtain⟨a9,c9,e9⟩:=jn cU
 subst e9
 obtain⟨zP,nQ,wP,mO,wQ,uV⟩:=hS.apart
 have rL:=hS.mem.2 (.inr (.inl rfl))
 obtain⟨L2,fJ,jD⟩:=hS.Nx cU az (λx hx=>fj.imp (λh=>h.symm.trans hx) (λh=>by rw[h] at hx;cases hx;exact lR _))
 have bj:=bj.aF az (λh=>(uV b h).2.1 rfl)
 have hR:=hR.add jD az (λx hx=>(uV x hx).1)
 refine W ?_
 refine gD (o:=5) mW rfl rfl rfl bj rfl λw3 aH bj du=>?_
 have fJ:=fJ.aF aH sm
 have hR:=hR.aD aH (fJ.mem.2 (.inr (.inl rfl))) nQ
 refine W ?_
 refine iS (λ_:Unit=>[(0,.pointer (some ⟨b,0,none⟩))]) (λ_ w'=>aj [b] w3 w'∧aK w' b [vb,vt,.int .i64 (m.count:Int),.bool (m.wide||decide (40<m.types.length+1)),vc,.slice a9 (m.types++[k]).length c9].toArray 164) ?_ ?_
 refine zc rfl (λh1=>?_) (λh1=>?_)
 have hd:decide (40<m.types.length+1)=true:=dT (by simp at h1;omega)
 refine W ?_
 refine gD (o:=3) CM rfl rfl rfl bj rfl λw4 aP bj du=>?_
 have Ih:=aP
 refine W ?_
 exact⟨(),rfl,Ih,by rw[hd,Bool.or_true];exact bj⟩
 have hd:decide (40<m.types.length+1)=false:=dF (by simp at h1;omega)
 refine WZ ?_
 exact⟨(),rfl,aj.refl _ _,by rw[hd,Bool.or_false];exact bj⟩
 intro gu w4 e4 hI
 obtain⟨Hu,bj⟩:=hI
 have fJ:=fJ.aF Hu sm
 have hR:=hR.aD Hu (fJ.mem.2 (.inr (.inl rfl))) nQ
 refine WA ?_
 refine yD rfl rfl rfl rfl rfl (wrap_i64 _ sx sx)<|zA<|aV<|j4 ?_
 exact⟨_,rfl,congrArg (Value.int .i64) sm,L2,⟨_,_,_,_,_,_,_,_,bj,fJ.num m.count (m.wide||decide (40<m.types.length+1))⟩,hR⟩
theorem gK.code {τ:tt} {vb vt vc vy:Value} {gb gt gc gy:Option Nat} (h:gK τ E L w b true vb vt vc vy gb gt gc gy m):cG w τ.S vc gc m.code:=by
 rcases h.co with⟨_,h⟩|⟨h,_⟩
 ·exact h
 ·cases h
theorem k7 (hd:ai) (ps:List ai) (hl:(dW hd ps).length<=1000000) (m:Mk) (hc:m.code.length<100000) (E L:List Nat) (b:Nat) (v:Value) (w:World) (h:dK t8 E L w b true m) (hv:bf L w v ps):
  bw Tryz.prog 186 [.pointer (some ⟨b,0,none⟩),str hd,v] w λr w'=>∃L',dK t8 E L' w' b true (m.cE hd ps)∧dX E L w L' w':=by
 obtain⟨vb,vt,vc,vy,gb,gt,gc,gy,bj,hS⟩:=h.open
 have bj:aK w b [vb,vt,.int .i64 (m.count:Int),.bool m.wide,vc,vy].toArray 164:=bj
 have hco:cG w 9 vc gc m.code:=by
  rcases hS.co with⟨_,h⟩|⟨h,_⟩
  ·exact h
  ·cases h
 obtain⟨zP,nQ,wP,mO,wQ,uV⟩:=hS.apart
 have DB:eW L w:=hS.cF
 refine bU [] 18 Tryz.func186 rfl adf rfl rfl ?_
 apply jV dv L 12 (rA 6 12) (rA 6 12) [[],[],[1],[2],[3],[],[],[5,6],[7],[4,8],[0],[10]] [Ie.v _,Ie.v _,Ie.v _,Ie.v _,Ie.w 0 vc,Ie.v _,Ie.v _,Ie.v _,Ie.p (fun(G:List Nat) (v:Value) (ww:World)=>∃bb,v= .slice (some ⟨bb,0,none⟩) 1 1∧dP G ww bb [str (dW hd ps)].toArray 9),Ie.e 1,Ie.v _,Ie.v _] [4,9] [fun(G:List Nat) (vs:List Value) (ww:World)=>G=L∧aj [] w ww,fun(G:List Nat) (vs:List Value) (ww:World)=>G=L∧aj [] w ww,fun(G:List Nat) (vs:List Value) (ww:World)=>∃g2,aj gc.toList w ww∧gK t8 E G ww b true vb vt (vs.getD 1 undef) vy gb gt g2 gy {m with code:=m.code++[dW hd ps]}∧Fr L w G ww] de rfl DB (by exact⟨λG v w G' w' ⟨bb,e,h⟩ k=>⟨bb,e,h.go k⟩,trivial⟩) (by exact⟨λG vs w w' ⟨h1,h2⟩ k=>⟨h1,h2.ext k⟩,λG vs w w' ⟨h1,h2⟩ k=>⟨h1,h2.ext k⟩,λG vs w w' ⟨g2,h1,h2,h3⟩ k=>⟨g2,h1.ext k,h2.ext k,h3.ext k⟩,trivial⟩) (⟨rfl,aj.refl _ _⟩)
 refine FA ?_
 refine ve 0 (λx w1 G1 aT uP sM hJ hlen=>?_) ?_
 have aX:=jw hlen
 subst aX
 obtain⟨bS,bT⟩:=hJ
 have ye:=bj.ext bT
 refine WZ ?_
 exact fw G1 (Fr.refl _ _) sM (⟨bS,bT⟩)
 refine FA ?_
 refine vf (λx w1 G1 aT uP sM=>?_) ?_
 have hv:=hv.go uP
 refine aA (y0 hd ps om _ _ w1 hv) ?_
 rintro _ w2 ⟨rfl,az⟩
 have dx:=az.size
 exact fk az
 refine vf (λx w1 G1 aT uP sM=>?_) ?_
 refine eR bg ba rfl rfl λw2 az uT dD=>?_
 exact ff az (⟨_,rfl,uT.o sM⟩)
 refine ve 1 (λx w1 G1 aT uP sM hJ hlen=>?_) ?_
 obtain⟨q0,aX⟩:=jx hlen
 subst aX
 intro v8 d8
 obtain⟨bb,e6,fT⟩:=d8
 subst e6
 obtain⟨bS,bT⟩:=hJ
 subst bS
 have K0:=hS.ext bT
 have Ps:=hco.ext bT
 refine sF bg ba rfl rfl rfl rfl rfl rfl Ps fT.iw om λv9 g9 w2 cU aB fj=>?_
 obtain⟨L2,fJ,jD⟩:=K0.JW cU aB (λx hx=>fj.imp (λh=>h.symm.trans hx) (λh=>by rw[h] at hx;cases hx;exact lR _))
 exact fe _ jD fJ.cF (⟨g9,bT.any.trans aB,fJ,(Fr.of bT sm).go jD⟩)
 exact FZ
 intro x NS G40 aT W5 ajv hJ hlen
 obtain⟨q0,q1,aX⟩:=lO hlen
 subst aX
 intro v8 d8
 change OW _ _ _ _ _ (bo (bm _ x _) (zZ 6 [_,_,_,_,_,_,_,_,_,_,_,_])) _
 obtain⟨g2,BO,fJ,jD⟩:=hJ
 obtain⟨pN,pO,H7⟩:=jn fJ.code
 have e8:q1=_:=H7
 subst e8
 have bj:=bj.aF BO (λh=>(wQ b h).2.1 rfl)
 refine gD (o:=4) mW rfl rfl rfl bj rfl λoW gS bj du=>?_
 have fJ:=fJ.aF gS sm
 have hR:=((dX.refl E L w).add jD BO (λx hx=>(wQ x hx).1)).aD gS (fJ.mem.2 (.inr (.inl rfl))) nQ
 refine W ?_
 exact⟨_,rfl,_,⟨_,_,_,_,_,_,_,_,bj,fJ⟩,hR⟩
theorem K7 {hd:ai} {ps:List ai} (hh:hd.length<=100) (hp:ps.length<=10) (hs:∀p,p∈ps->p.length<=10001):(dW hd ps).length<=1000000:=by
 have h1:=BF (m:=10001) ps hs
 have h2:ps.length*10002<=10*10002:=Nat.mul_le_mul hp (lR _)
 rw[mi];omega
theorem FF (h:n<=10000):(aU n).length<=10001:=by have:=E0 _ n (lR _);omega
theorem dK.dj {τ:tt} (h:dK τ E L w b o m):∀x,x∈L->x<w.heap.size:=h.mem.2.2.2
theorem W6 (m:Mk) (s:Nat) (hs:s<=10000) (ht:m.types.length<=9000) (hc:m.code.length<=9000) (E L:List Nat) (b:Nat) (w:World) (h:dK t8 E L w b true m):
  bw Tryz.prog 191 [.pointer (some ⟨b,0,none⟩),.int .i64 (s:Int)] w λr w'=>r= .tuple #[str (aU (m.types.length+1)),str (aU (m.types.length+2))]∧∃L',dK t8 E L' w' b true (tq m s)∧dX E L w L' w':=by
 have av:=h
 have hR:=dX.refl E L w
 obtain⟨r,hr⟩:∃r,r=m.types.length:=⟨_,rfl⟩
 have hE:tq m s=((((((m.df []).cE A1 [aU r,aU s]).df []).cE tl [aU (r+1),aU r,[48]]).df []).cE tl [aU (r+2),aU r,[49]]):=by rw[hr];rfl
 rw[<-hr,hE]
 refine bU [.tmp 4,.tmp 5] 40 Tryz.func191 rfl adl rfl rfl ?_
 refine W ?_
 refine aA (sL [] m om E L b true w av) ?_
 rintro v10 w1 ⟨fQ,L1,av,bF⟩
 rw[<-hr] at fQ
 subst fQ
 have hR:=hR.go bF
 refine W ?_
 refine aA (iH (r+1) r om om w1) ?_
 rintro _ w2 ⟨rfl,az⟩
 have dx:=az.size
 refine bI az av hR λav hR=>?_
 refine zm<|aA (iH (s+1) s om om w2) ?_
 rintro _ w3 ⟨rfl,aH⟩
 have fh:=aH.size
 refine bI aH av hR λav hR=>?_
 have cX:=av.dj
 refine lk bg ba rfl rfl rfl rfl λw4 aP xN gQ=>bI aP av hR λav hR=>?_
 refine aA (k7 A1 [aU r,aU s] (K7 de sm (by intro p hp;simp at hp;rcases hp with rfl|rfl<;>exact FF om)) (m.df []) (show m.code.length<100000 from om) E L1 b _ w4 av (aK.dO [aU r,aU s] xN (λhx=>by have:=cX _ hx;omega))) ?_
 rintro jQ w5 ⟨L2,av,bF⟩
 have hR:=hR.go bF
 refine aV<|zr<|zm<|aA (sL [] ((m.df []).cE A1 [aU r,aU s]) (show(m.df []).types.length<100000 from by rw[zn];omega) E L2 b true w5 av) ?_
 rintro v10 w6 ⟨fQ,L3,av,bF⟩
 rw[show((m.df []).cE A1 [aU r,aU s]).types.length=r+1 from by rw[oT,zn,hr]] at fQ
 subst fQ
 have hR:=hR.go bF
 refine W ?_
 refine aA (iH (r+2) (r+1) om om w6) ?_
 rintro _ w7 ⟨rfl,bW⟩
 have lp:=bW.size
 refine bI bW av hR λav hR=>?_
 refine zm<|aA (iH (r+1) r om om w7) ?_
 rintro _ w8 ⟨rfl,cg⟩
 have wH:=cg.size
 refine bI cg av hR λav hR=>?_
 have cX:=av.dj
 refine pJ bg ba rfl rfl rfl rfl rfl λw9 aB Dc du=>bI aB av hR λav hR=>?_
 refine aA (k7 tl [aU (r+1),aU r,[48]] (K7 de sm (by intro p hp;simp at hp;rcases hp with rfl|rfl|rfl;(·exact FF om);(·exact FF om);(·decide))) (((m.df []).cE A1 [aU r,aU s]).df []) (show(m.code++[_]).length<100000 from by simp;omega) E L3 b _ w9 av (aK.dO [aU (r+1),aU r,[48]] Dc (λhx=>by have:=cX _ hx;omega))) ?_
 rintro jQ cv ⟨L4,av,bF⟩
 have hR:=hR.go bF
 refine aV<|zr<|zm<|aA (sL [] ((((m.df []).cE A1 [aU r,aU s]).df []).cE tl [aU (r+1),aU r,[48]]) (show(m.types++[_]++[_]).length<100000 from by simp;omega) E L4 b true cv av) ?_
 rintro v10 ew ⟨fQ,L5,av,bF⟩
 have DJ:v10= .int .i64 ((r+2:Nat):Int):=fQ.trans (congrArg (λn:Nat=>Value.int .i64 (n:Int)) (show(m.types++[_]++[_]).length=r+2 from by simp[hr]))
 subst DJ
 have hR:=hR.go bF
 refine W ?_
 refine aA (iH (r+3) (r+2) om om ew) ?_
 rintro _ fI ⟨rfl,dw⟩
 have Fw:=dw.size
 refine bI dw av hR λav hR=>?_
 refine zm<|aA (iH (r+1) r om om fI) ?_
 rintro _ jO ⟨rfl,gM⟩
 have Ii:=gM.size
 refine bI gM av hR λav hR=>?_
 have cX:=av.dj
 refine pJ bg ba rfl rfl rfl rfl rfl λja dG ajw DK=>bI dG av hR λav hR=>?_
 refine aA (k7 tl [aU (r+2),aU r,[49]] (K7 de sm (by intro p hp;simp at hp;rcases hp with rfl|rfl|rfl;(·exact FF om);(·exact FF om);(·decide))) (((((m.df []).cE A1 [aU r,aU s]).df []).cE tl [aU (r+1),aU r,[48]]).df []) (show(m.code++[_]++[_]).length<100000 from by simp;omega) E L5 b _ ja av (aK.dO [aU (r+2),aU r,[49]] ajw (λhx=>by have:=cX _ hx;omega))) ?_
 rintro jQ qA ⟨L6,av,bF⟩
 have hR:=hR.go bF
 refine aV<|zr<|zm<|aA (iH (r+2) (r+1) om om qA) ?_
 rintro _ lU ⟨rfl,nG⟩
 have Wr:=nG.size
 refine bI nG av hR λav hR=>?_
 refine zm<|aA (iH (r+3) (r+2) om om lU) ?_
 rintro _ DL ⟨rfl,zQ⟩
 have art:=zQ.size
 refine bI zQ av hR λav hR=>?_
 refine W ?_
 exact⟨_,rfl,rfl,L6,av,hR⟩
theorem W7 (s:cH):(eH s).map Prod.fst=jU s:=by unfold eH jU;rw[List.map_map];rfl
theorem W8 (s:cH):((eH s).map λp=>p.2.text)=pB s:=by unfold eH pB;rw[List.map_map];rfl
theorem K8 (t:Tk) (e:Ex) (bh:e.ok) (hn:e.n<=1000) (hΓ:yP (eH t.sc)) (hl:t.sc.length+2*e.n<=100000) (v:Value) (L:List Nat) (bt:Nat) (w:World) (lS:∀x,x∈L->x<w.heap.size) (hT:gX L w 166 bt t) (hv:bC L w v e.au):
  bw Tryz.prog 189 [.pointer (some ⟨bt,0,none⟩),v] w λr w'=>r=str (eI (bA e (eH t.sc)))∧aj [] w w':=by
 obtain⟨v1,v3,v4,v5,v6,v8,dd,hC⟩:=hT
 obtain⟨a,np,c,rfl,eS,aO⟩:=cY hv
 have eT:=hC.aL
 have eY:=hC.types
 have hK:=aj.refl [] w
 have e1:=W7 t.sc
 have e2:=W8 t.sc
 refine bU [.tmp 4] 15 Tryz.func189 rfl adi rfl rfl ?_
 refine zr<|eK rfl λw1 aI cW dh=>kJ aI hK hv dd eT eY λhK hv dd eT eY=>?_
 refine W ?_
 apply dV dv 11 [5,6,7,8,9,10,11,12,13,14,4] [[],[],[1],[2],[3],[],[5],[6],[7],[0,4,8],[9]] (it [_,_,_,_,_,_,_,_,_,_,_]) de rfl
 intro wd aC
 refine VA ?_
 refine vk aC (λx w2 az=>?_) ?_
 refine gY az hK hv eT eY λhK hv eT eY=>?_
 refine aA (W1 1000 e hn om bh (eH t.sc) (by simp[eH];omega) hΓ _ v4 v6 L w2 (λx hx=>lL (lS x hx) hK.size) hv (by rw[e1];exact eT) (by rw[e2];exact eY)) ?_
 rintro _ w3 ⟨rfl,aH⟩
 have fh:=aH.size
 exact pk aH
 exact VZ
 intro x oW gS
 have hK:=hK.ext gS
 change OW _ _ _ _ [] (bo (bm _ x _) (zZ 5 [_,_,_,_,_,_,_,_,_,_]++[(4,_)])) _
 refine W ?_
 exact⟨_,rfl,rfl,hK⟩
theorem ajx (xs:List Nat):∀row,row∈uG xs->∀c,c∈row->∀v,c= .val v->v.oneCell'=true:=by
 intro row hr c hc v hv
 obtain⟨n,_,rfl⟩:=List.mem_map.1 hr
 simp at hc;subst hc;cases hv;rfl
theorem FG (t:Tk) (x:ai) (r:Nat) (T:Ty) (hl:t.sc.length<100000) (L:List Nat) (bt:Nat) (w:World) (rL:bt∈L) (lS:∀x,x∈L->x<w.heap.size) (hT:gX L w 166 bt t):
  bw Tryz.prog 192 [.pointer (some ⟨bt,0,none⟩),str x,.int .i64 (r:Int),str T.text] w λ_ w'=>gX L w' 166 bt {t with sc:=t.sc++[(x,r,T)]}∧aj [bt] w w':=by
 obtain⟨v1,v3,v4,v5,v6,v8,dd,hC⟩:=hT
 have dd:aK w bt [str t.aJ,v1,.int .i64 (t.loads:Int),v3,v4,v5,v6,str t.expr.au.aw,v8,.int .i64 (t.on:Int),str t.aW,.int .i64 (t.next:Int)].toArray 166:=dd
 have hK:=aj.refl [bt] w
 have fu:(jU t.sc).length=t.sc.length:=by simp[jU]
 have eS:(pB t.sc).length=t.sc.length:=by simp[pB]
 have pR:(uG (xC t.sc)).length=t.sc.length:=by simp[uG,xC]
 have Hz:=dd.lt
 obtain⟨a5,c5,rfl,_⟩:=sh hC.at_
 refine bU [] 40 Tryz.func192 rfl adm rfl rfl ?_
 refine W ?_
 refine eR bg ba rfl rfl λw1 aI uT dh=>cJ aI hK dd hC λhK dd hC=>?_
 refine aA (uN (jU t.sc) [x] so v4 _ L w1 hC.aL (aK.dO [x] uT (λhx=>by have:=lS _ hx;omega)) (λx hx=>lL (lS x hx) hK.size)) ?_
 rintro v2 w2 ⟨gz,az⟩
 have dx:=az.size
 refine cJ az hK dd hC λhK dd hC=>?_
 have jN:=gz
 obtain⟨a9,n9,c9,e9,_⟩:=dH jN
 subst e9
 refine W ?_
 refine gD (o:=4) mW rfl rfl rfl dd rfl λw3 aH dd du=>?_
 have hC:=hC.aD aH (by simpa using rL);have jN:=jN.aD aH (by simpa using rL)
 have hK:=hK.trans aH
 have yV:=hK.size
 refine W ?_
 refine eR bg ba rfl rfl λw4 aP DM gQ=>gY aP hK dd hC jN λhK dd hC jN=>?_
 refine aA (uN (pB t.sc) [T.text] so v6 _ L w4 hC.types (aK.dO [T.text] DM (λhx=>by have:=lS _ hx;omega)) (λx hx=>lL (lS x hx) hK.size)) ?_
 rintro v5 w5 ⟨tG,aN⟩
 have iR:=aN.size
 refine gY aN hK dd hC jN λhK dd hC jN=>?_
 have xY:=tG
 obtain⟨Ke,n10,c10,fQ,_⟩:=dH xY
 subst fQ
 refine W ?_
 refine gD (o:=6) mW rfl rfl rfl dd rfl λw6 bN dd du=>?_
 have hC:=hC.aD bN (by simpa using rL);have jN:=jN.aD bN (by simpa using rL);have xY:=xY.aD bN (by simpa using rL)
 have hK:=hK.trans bN
 have yV:=hK.size
 have hL9:∀x,x∈L->x<w6.heap.size:=(λx hx=>lL (lS x hx) hK.size)
 have hCw:=hC
 have ajA:=jN
 have ajB:=xY
 have zR:=dd
 have nB:=hK
 have arw:=dd.lt
 refine aV<|jF<|zm<|vJ w6.heap.size L vQ pq rfl rfl (lR _) hL9 λw7 bW KE xT=>?_
 have fB:=bW
 have hC:=hC.grow.ext bW;have dd:=dd.ext bW
 refine W ?_
 refine xH vQ pq rfl rfl rfl rfl rfl rfl xT hC.at_ (ajx _) (by rw[pR];simp;omega) λa4 fU g4 w8 kP cg=>?_
 rw[List.nil_append] at kP
 have arx:=xT.low
 have fB:=fB.since cg (λx hx=>.inr (by simp at hx;omega))
 refine zm<|eR vQ pq rfl rfl λw9 aB wR du=>bI aB kP fB λkP fB=>?_
 refine Ev (row:=[.val (.int .i64 (r:Int))]) vQ pq rfl rfl rfl rfl rfl rfl kP wR rfl rfl ⟨.val _,trivial⟩ (by rw[pR];omega) λa6 cc6 g6 cv hO6 cw=>?_
 have fB:=fB.since cw (λx hx=>.inr (kP.low x (by simpa using hx)))
 have jN:=ajA.ext fB
 have xY:=ajB.ext fB
 have hC:=hCw.ext fB
 have dd:=zR.ext fB
 have hK:=nB.ext fB
 have hN:=hO6.done
 rw[agk] at hN
 refine W ?_
 refine gD (o:=5) Tt rfl rfl rfl dd rfl λew cR dd du=>?_
 have hC:=hC.aD cR (by simpa using rL);have jN:=jN.aD cR (by simpa using rL);have xY:=xY.aD cR (by simpa using rL)
 have hN:=bP.aF hN (cR.mono (by simpa using rL))
 have hK:=hK.trans cR
 refine W ?_
 exact⟨_,rfl,⟨v1,v3,_,_,_,v8,dd,⟨hC.regs,hC.self,(by rw[afH];exact jN),(by rw[afI];exact hN),(by rw[afJ];exact xY),hC.ak⟩⟩,hK⟩
theorem ajD (s:cH) (p:ai×Nat×Ty) (x:ai):kI (s++[p]) x=if p.1=x then p.2.1 else kI s x:=by
 unfold kI
 rw[List.reverse_append]
 simp only[List.reverse_cons,List.reverse_nil,List.nil_append,List.cons_append,List.find?_cons]
 by_cases h:p.1=x
 ·simp[h]
 ·simp[h]
theorem ajE {s:cH} (h:k<s.length) (x:ai):kI (s.take (k+1)) x=if bD (jU s) k=x then(s[k]'h).2.1 else kI (s.take k) x:=by
 rw[List.take_add_one,gE h]
 show kI (s.take k++[s[k]]) x=_
 rw[ajD]
 have e:bD (jU s) k=(s[k]'h).1:=by simp[bD,jU,gE h]
 rw[e]
theorem DN (t:Tk) (a:ai) (m:Mk) (C8:a.length<=10000) (ht:m.types.length<=9000) (hc:m.code.length<=9000) (hs:t.sc.length<=9000) (E L:List Nat) (b bt:Nat) (pa:Option Addr) (pn pc:Nat) (w:World) (h:dK t8 E L w b true m) (hT:gX L w 166 bt t) (eh:bt∈E):
  bw Tryz.prog 222 [.pointer (some ⟨b,0,none⟩),.pointer (some ⟨bt,0,none⟩),.agg #[str a,.slice pa pn pc]] w λr w'=>r= .int .i64 ((cm m t.sc a).2:Int)∧∃L',dK t8 E L' w' b true (cm m t.sc a).1∧dX E L w L' w':=by
 have av:=h
 have hR:=dX.refl E L w
 obtain⟨v1,v3,v4,v5,v6,v8,dd,hC⟩:=hT
 obtain⟨r,hr⟩:∃r,r=m.types.length:=⟨_,rfl⟩
 have eT:=hC.aL
 obtain⟨an,nn,cn,rfl,qk⟩:=dH eT
 have eF:=hC.at_
 obtain⟨aa,ca,rfl,KZ⟩:=sh eF
 refine bU [.tmp 6] 50 Tryz.func222 rfl adG rfl rfl ?_
 refine zr<|eK rfl λw1 aI cu dh=>kJ aI av hR dd eT eF λav hR dd eT eF=>?_
 refine W ?_
 refine aA (wk _ _) ?_
 rintro _ _ ⟨rfl,rfl⟩
 refine kF rfl rfl rfl<|aV<|zc rfl (λh1=>?_) (λh1=>?_)
 have hq:cm m t.sc a=((m.df [105]).cE JS [aU r,a],r):=(by unfold cm;rw[iN (by rw[h1];simp),hr])
 rw[hq]
 refine zr<|zm<|aA (sL [105] m om E L b true w1 av) ?_
 rintro mJ w2 ⟨im,L1,av,bF⟩
 rw[<-hr] at im
 subst im
 have hR:=hR.go bF
 have cX:=av.dj
 have cu:dP L1 w2 w.heap.size _ _:=⟨cu.aF bF.fr.aF (λhx=>by have:=h.dj _ hx;omega),λhx=>by rcases bF.fr.mem _ hx with h9|h9;(·have:=h.dj _ h9;omega);(·omega)⟩
 have mr:=av
 have uX:=hR
 refine W ?_
 apply jV dv L1 7 (rA 15 7) (rA 15 7) [[],[],[1],[],[3],[2,4],[0,5]] [Ie.v _,Ie.v _,Ie.v _,Ie.v _,Ie.v _,Ie.p (fun(G:List Nat) (v:Value) (ww:World)=>bf G ww v [aU r,a]),Ie.e 0] [6] [fun(G:List Nat) (vs:List Value) (ww:World)=>G=L1∧aj [] w2 ww,fun(G:List Nat) (vs:List Value) (ww:World)=>dK t8 E G ww b true ((m.df [105]).cE JS [aU r,a])∧dX E L1 w2 G ww] de rfl cX (by exact⟨λG v w G' w' h k=>bf.go h k,trivial⟩) (by exact⟨λG vs w w' ⟨h1,h2⟩ k=>⟨h1,h2.ext k⟩,λG vs w w' ⟨h1,h2⟩ k=>⟨h1.ext k,h2.ext k⟩,trivial⟩) (⟨rfl,aj.refl _ _⟩)
 refine FA ?_
 refine vf (λx w3 G3 aT jC kM=>?_) ?_
 refine aA (iH (r+1) r om om w3) ?_
 rintro _ w4 ⟨rfl,aP⟩
 have fH:=aP.size
 exact fk aP
 refine FA ?_
 refine vf (λx w3 G3 aT jC kM=>?_) ?_
 refine lk bg ba rfl rfl rfl rfl λw4 aP tR gQ=>?_
 exact ff aP (aK.dO [aU r,a] tR (λhx=>by have:=kM _ hx;omega))
 refine ve 0 (λx w3 G3 aT jC kM hJ hlen=>?_) ?_
 have aX:=jw hlen
 subst aX
 intro v5 d5
 obtain⟨bS,bT⟩:=hJ
 subst bS
 refine aA (k7 JS [aU r,a] (K7 de sm (by intro p hp;simp at hp;rcases hp with rfl|rfl;(·exact FF om);(·omega))) (m.df [105]) (show m.code.length<100000 from om) E _ b _ w3 (mr.ext bT) d5) ?_
 rintro v21 w4 ⟨L2,Ij,jD⟩
 exact fe L2 jD.fr Ij.dj (⟨Ij,((dX.refl _ _ _).ext bT).go jD⟩)
 exact trivial
 intro x qY HS aT Fi Oy hJ hlen
 obtain⟨q0,aX⟩:=jx hlen
 subst aX
 intro v5 d5
 change OW _ _ _ _ [] (bo (bm _ x _) (zZ 15 [_,_,_,_,_,_,_])) _
 obtain⟨av,jD⟩:=hJ
 have hR:=uX.go jD
 refine W ?_
 exact⟨_,rfl,rfl,_,av,hR⟩
 have hq:cm m t.sc a=(m,kI t.sc a):=(by unfold cm;rw[iP (by simpa using h1)])
 rw[hq]
 have BQ:(jU t.sc).length=t.sc.length:=by simp[jU]
 refine W ?_
 refine dR (λk:Nat=>[(1,.pointer (some ⟨bt,0,none⟩)),(5,.pointer (some ⟨w.heap.size,0,none⟩)),(8,.int .i64 ((k:Int)-1))]) (λk w'=>aj [] w1 w'∧k<=t.sc.length∧kI t.sc a=kI (t.sc.take k) a) (λk=>k) t.sc.length (⟨rfl,rfl,congrArg (λz:Nat=>Value.int .i64 ((z:Int)-1)) (qk.trans BQ)⟩) (⟨aj.refl _ _,lR _,by rw[List.take_length]⟩) λgg w2 e2 hI=>?_
 obtain⟨di,hk,zE⟩:=hI
 refine gY di av hR dd eT λav hR dd eT=>?_
 have eF:=yS.ext eF di
 have cu:=cu.ext di
 refine W ?_
 refine zc rfl (λh2=>?_) (λh2=>?_)
 have aQ:∃k,gg=k+1:=⟨gg-1,om⟩
 obtain⟨k,rfl⟩:=aQ
 have hi:((k+1:Nat):Int)-1=(k:Int):=by omega
 rw[hi]
 obtain⟨b1,eX,e1,bK⟩:=lf eT (ik (xs:=jU t.sc) (i:=k) om)
 cases e1
 obtain⟨b2,lP,e2,bY⟩:=afG eF (i:=k) (x:=(t.sc[k]'om).2.1) (by simp[xC,gE (show k<t.sc.length by omega)])
 cases e2
 have l9:=ajE (s:=t.sc) (k:=k) om a
 refine WZ ?_
 apply dV dv 10 [33,34,35,36,37,38,39,40,41,42] [[],[0],[1],[2],[],[3,4],[5],[],[7],[6,8]] (it [_,_,_,_,_,_,_,_,_,_]) de rfl
 intro wd aC
 refine vc (λ_ _ _=>WZ pv) ?_
 refine vk aC (λx w3 aH=>?_) ?_
 refine WZ ?_
 exact pv
 refine vc (λ_ _ _=>WZ pv) ?_
 refine vk aC (λx w3 aH=>?_) ?_
 have dd:=dd.ext aH
 refine WZ ?_
 exact pv
 refine vc (λ_ _ _=>WZ pv) ?_
 exact VZ
 intro x qY DH
 refine kJ DH av hR dd di bY λav hR dd di bY=>?_
 change OW _ _ _ _ [] (bo (bm _ x _) (zZ 33 [_,_,_,_,_,_,_,_,_,_])) _
 refine aV<|zc rfl (λh3=>?_) (λh3=>?_)
 have xK:=zE.trans (l9.trans (iP h3))
 refine WI ?_
 refine zi vQ pq rfl rfl (by have h9:(uG (xC t.sc)).length=t.sc.length:=(by simp[uG,xC]);omega)<|W ?_
 exact⟨_,rfl,congrArg (λz:Nat=>Value.int .i64 (z:Int)) xK.symm,_,av,hR⟩
 have xK:=zE.trans (l9.trans (iN h3))
 refine W ?_
 exact⟨k,⟨rfl,rfl,rfl⟩,⟨di,om,xK⟩,om⟩
 have h0:gg=0:=by omega
 subst h0
 refine W ?_
 exact⟨_,rfl,congrArg (λz:Nat=>Value.int .i64 (z:Int)) zE.symm,_,av,hR⟩
theorem Pt (aJ:ai) (regs:List ai) (hr:regs.length<10000) (m:Mk) (cT:m.blocks.length<100000) (E L:List Nat) (b:Nat) (v:Value) (w:World) (h:dK t8 E L w b true m) (hv:bf L w v regs):
  bw Tryz.prog 155 [.pointer (some ⟨b,0,none⟩),str aJ,v] w λr w'=>∃L',dK t8 E L' w' b false (Dh m aJ regs)∧dX E L w L' w':=by
 obtain⟨vb,vt,vc,vy,gb,gt,gc,gy,bj,hS⟩:=h.open
 obtain⟨zP,nQ,wP,mO,wQ,uV⟩:=hS.apart
 have W9:=hS.NV
 obtain⟨G0,Ik⟩:∃G,G=E++(gb.toList++(gt.toList++gy.toList)):=⟨_,rfl⟩
 have Xa:∀x,x∈G0->x∈L:=λx hx=>by rw[Ik] at hx;simp only[mA] at hx;exact hS.mem.2 (by rcases hx with h|h|h|h<;>simp[h])
 have ox:b∉G0:=λhx=>by
  rw[Ik] at hx;simp only[mA] at hx
  rcases hx with h|h|h|h
  ·exact nQ h
  ·exact(wP b h).2 rfl
  ·exact(mO b h).2.1 rfl
  ·exact(uV b h).2.1 rfl
 have bj:dP G0 w b [vb,vt,.int .i64 (m.count:Int),.bool m.wide,vc,vy].toArray 164:=⟨bj,ox⟩
 have oY:=bf.fresh hv (λx hx=>.inl (Xa x hx))
 have qg:eW G0 w:=λx hx=>hS.cF x (Xa x hx)
 have uz:∀x,w.heap.size<=x->x∉qi E b gb gt gy:=λx h1 hx=>by have:=hS.cF x (hS.UX x hx);omega
 obtain⟨an,nn,cn,rfl,qk⟩:=dH hv
 obtain⟨ac,nc,cc,rfl,my⟩:=dH W9
 refine bU [] 24 Tryz.func155 rfl acN rfl rfl ?_
 apply jV dv G0 18 (rA 6 18) (rA 6 18) [[],[],[1],[2],[3],[],[],[],[6,7],[],[9],[10],[11],[5,8,12],[13],[4,14],[0],[16]] [Ie.v _,Ie.v _,Ie.v _,Ie.v _,Ie.v _,Ie.v _,Ie.p (fun(G:List Nat) (v:Value) (ww:World)=>∃bb,v= .slice (some ⟨bb,0,none⟩) 0 0∧w.heap.size<=bb∧dP G ww bb #[] 9),Ie.v _,Ie.e 0,Ie.v _,Ie.v _,Ie.v _,Ie.v _,Ie.e 1,Ie.e 2,Ie.e 3,Ie.v _,Ie.v _] [8,13,14,15] [fun(G:List Nat) (vs:List Value) (ww:World)=>(∀x,x∈G0->x∈G)∧aj [] w ww,fun(G:List Nat) (vs:List Value) (ww:World)=>(∀x,x∈G0->x∈G)∧aj [] w ww∧bf (qi E b gb gt gy) ww (vs.getD 0 undef) regs,fun(G:List Nat) (vs:List Value) (ww:World)=>(∀x,x∈G0->x∈G)∧aj [] w ww∧bf (qi E b gb gt gy) ww (vs.getD 0 undef) regs∧vs.getD 1 undef= .agg #[str aJ,vs.getD 0 undef,.slice ac nc cc],fun(G:List Nat) (vs:List Value) (ww:World)=>(∀x,x∈G0->x∈G)∧aj [] w ww∧bf (qi E b gb gt gy) ww (vs.getD 0 undef) regs∧∃bb,vs.getD 2 undef= .slice (some ⟨bb,0,none⟩) 1 1∧aK ww bb [str aJ,vs.getD 0 undef,.slice ac nc cc].toArray 58,fun(G:List Nat) (vs:List Value) (ww:World)=>∃g2,dL (gb.toList++(g2.toList++qi E b gb gt gy)) ww 58 3 (vs.getD 3 undef) g2 ((m.blocks++[(⟨aJ,regs,m.code⟩:Bk)]).map Bk.enc)∧aj gb.toList w ww∧(g2=gb∨∃x,g2=some x∧w.heap.size<=x)] de rfl qg (by exact⟨λG v w G' w' ⟨bb,e,h1,h⟩ k=>⟨bb,e,h1,h.go k⟩,trivial⟩) (by exact⟨λG vs w w' ⟨h1,h2⟩ k=>⟨h1,h2.ext k⟩,λG vs w w' ⟨h1,h2,h3⟩ k=>⟨h1,h2.ext k,h3.ext k⟩,λG vs w w' ⟨h1,h2,h3,h4⟩ k=>⟨h1,h2.ext k,h3.ext k,h4⟩,λG vs w w' ⟨h1,h2,h3,bb,h4,h5⟩ k=>⟨h1,h2.ext k,h3.ext k,bb,h4,h5.ext k⟩,λG vs w w' ⟨g2,h1,h2,h3⟩ k=>⟨g2,h1.ext k,h2.ext k,h3⟩,trivial⟩) (⟨λx hx=>hx,aj.refl _ _⟩)
 refine FA ?_
 refine vf (λx w1 G1 aT uP sM=>?_) ?_
 refine gA bg ba λw2 az Pu dD=>?_
 exact ff az (⟨_,rfl,(by have h1:=uP.aF.size;omega),Pu.o sM⟩)
 refine FA ?_
 refine ve 0 (λx w1 G1 aT uP sM hJ hlen=>?_) ?_
 have aX:=jw hlen
 subst aX
 have oY:=oY.go uP
 intro v6 d6
 obtain⟨bb,e6,Dt,fT⟩:=d6
 subst e6
 obtain⟨kf,fS⟩:=hJ
 refine HK (N:=w.heap.size) bg ba rfl rfl rfl rfl rfl rfl fT Dt oY ‹_› om λv9 w2 G9 kO wA cV eE qu=>?_
 exact fe G9 cV eE (⟨λx hx=>kO _ (kf x hx),qu.since fS,let⟨g',jj,_,hs⟩:=wA;jj.rep (λx hx fC=>uz x (hs x (by simp[hx])).2 fC)⟩)
 refine FA ?_
 refine ve 1 (λx w1 G1 aT uP sM hJ hlen=>?_) ?_
 obtain⟨q0,aX⟩:=jx hlen
 subst aX
 obtain⟨kf,fS,o4⟩:=hJ
 obtain⟨a7,n7,c7,e7,_⟩:=dH o4
 have e8:q0=_:=e7
 subst e8
 refine jG (JC _ _ _ _ _ _ _ _) rfl rfl ?_
 exact fe G1 (Fr.refl _ _) sM (⟨kf,fS,o4,rfl⟩)
 refine ve 2 (λx w1 G1 aT uP sM hJ hlen=>?_) ?_
 obtain⟨q0,q1,aX⟩:=lO hlen
 subst aX
 obtain⟨kf,fS,o4,pD⟩:=hJ
 obtain⟨a7,n7,c7,e7,_⟩:=dH o4
 have e8:q0=_:=e7
 subst e8
 have Il:q1=Value.agg #[str aJ,.slice a7 n7 c7,.slice ac nc cc]:=pD
 subst Il
 refine tE [.tmp 19] [[str aJ,.slice a7 n7 c7,.slice ac nc cc]] iD fm rfl rfl rfl rfl rfl rfl rfl rfl rfl λw2 az tR WQ=>?_
 exact fe G1 (Fr.of az sm) ((λx hx=>lL (sM x hx) (aj.size az))) (⟨kf,fS.trans az,o4.ext az,_,rfl,tR⟩)
 refine ve 3 (λx w1 G1 aT uP sM hJ hlen=>?_) ?_
 obtain⟨q0,q1,q2,aX⟩:=A9 hlen
 subst aX
 obtain⟨kf,fS,o4,bb,EO,fT⟩:=hJ
 have im:q2=_:=EO
 subst im
 have ix:=(hS.bl.any fS).sub (L':=gb.toList++qi E b gb gt gy) (λx hx=>.inl (by rcases mA.1 hx with h|h;(·exact hS.mem.2 (by simp[h]));(·exact hS.UX x h)))
 have Xb:∀x,x∈gb.toList++qi E b gb gt gy->x∈qi E b gb gt gy:=(λx hx=>by rcases mA.1 hx with h|h;(·exact ze.2 (by simp[h]));(·exact h))
 refine De (L:=qi E b gb gt gy) (row:=Bk.enc ⟨aJ,regs,m.code⟩) iD fm rfl rfl rfl rfl rfl rfl ix rfl fT.all (by obtain⟨a7,n7,c7,e7,_⟩:=dH o4;have e8:q0=_:=e7;subst e8;simp[Value.oneCell']) ⟨.val _,bf.fresh o4 (λx hx=>.inl (Xb x hx)),bf.fresh (W9.ext fS) (λx hx=>.inl (Xb x hx)),trivial⟩ (by simpa using(show m.blocks.length<100000000 from om)) λv9 g9 w2 cU uY fj=>?_
 exact fe G1 (Fr.of uY.aF (λx hx=>kf x (by rw[Ik];simp[hx]))) ((λx hx=>lL (sM x hx) uY.aF.size)) (⟨g9,by simpa using cU,fS.any.trans uY.aF,fj.imp id (λh=>⟨_,h,fS.size⟩)⟩)
 exact FZ
 intro x NS G40 aT W5 ajv hJ hlen
 obtain⟨q0,q1,q2,q3,aX⟩:=NA hlen
 subst aX
 intro v6 d6
 have bj:=bj.go W5
 change OW _ _ _ _ _ (bo (bm _ x _) (zZ 6 [_,_,_,_,_,_,_,_,_,_,_,_,_,_,_,_,_,_])) _
 obtain⟨g2,cU,ey,iT⟩:=hJ
 obtain⟨L2,fJ,jD⟩:=hS.agl cU ey iT
 obtain⟨a3,c3,e3⟩:=cU.len
 have e4:q3=_:=e3
 subst e4
 have bj:=bj.iw
 refine gD (o:=0) Tr rfl rfl rfl bj rfl λoW gS bj du=>?_
 have fJ:=fJ.aF gS sm
 have hR:=((dX.refl E L w).add jD ey (λx hx=>(wP x hx).1)).aD gS (fJ.mem.2 (.inr (.inl rfl))) nQ
 refine W ?_
 exact⟨_,rfl,L2,⟨_,_,_,_,_,_,_,_,bj,fJ⟩,hR⟩
theorem ajF {a:ai} (h:dQ a=true):cm m s a=(m,kI s a):=by unfold cm;rw[iP h]
theorem DO (m:Mk) (k:ai):(m.df k).code.length=m.code.length:=rfl
theorem pS (m:Mk) (h:ai) (ps:List ai):(m.cE h ps).code.length=m.code.length+1:=by simp[Mk.cE]
def B0 (s:cH) (aL:List ai) (k:Nat):List ai:=(aL.take k).map λx=>aU (kI s x)
def zS (s:cH) (aL:List ai) (k:Nat):List ai:=(aL.take k).map λx=>bz (kt s x)
theorem ajG {aL:List ai} (h:k<aL.length):B0 s aL (k+1)=B0 s aL k++[aU (kI s (bD aL k))]:=by
 unfold B0;rw[List.take_add_one,ik h];simp
theorem ajH {aL:List ai} (h:k<aL.length):zS s aL (k+1)=zS s aL k++[bz (kt s (bD aL k))]:=by
 unfold zS;rw[List.take_add_one,ik h];simp
theorem ajI {s:cH} {aL:List ai}:(B0 s aL k).length<=aL.length:=by unfold B0;rw[List.length_map,List.length_take];omega
theorem ajJ {s:cH} {aL:List ai}:(zS s aL k).length<=aL.length:=by unfold zS;rw[List.length_map,List.length_take];omega
theorem ajK (s:cH) (aL:List ai):B0 s aL aL.length=aL.map λx=>aU (kI s x):=by simp[B0]
theorem ajL (s:cH) (aL:List ai):zS s aL aL.length=aL.map λx=>bz (kt s x):=by simp[zS]
theorem Pv (h:(look (eH s) x).isSome=true):ov (jU s) (pB s) x [] (jU s).length=(kt s x).text:=by
 have h1:=VY x (eH s)
 rw[W7,W8,N4 h] at h1
 have e:(eH s).length=(jU s).length:=by simp[eH,jU]
 rw[e] at h1
 exact h1
theorem gK.tT {τ:tt} {vb vt vc vy:Value} {gb gt gc gy:Option Nat} (h:gK τ E L w b o vb vt vc vy gb gt gc gy m) {x:Nat} (k:aj G w w') (hG:∀y,y∈G->y∈b::E) (hx:w.heap.size<=x) (vZ:x<w'.heap.size):gK τ (x::E) (x::L) w' b o vb vt vc vy gb gt gc gy m:=by
 obtain⟨a1,a2,a3,a4,a5,a6⟩:=h.apart
 have oK:∀x,x∈G->x∈L:=λx hx=>h.mem.2 (by rcases mC.1 (hG x hx) with h1|h1<;>simp[h1])
 have hF:Fr L w (x::L) w':=⟨k.mono oK,λy hy=>by
  rcases mC.1 hy with rfl|hy
  ·exact .inr hx
  ·exact .inl hy⟩
 have out:∀x,x∉E->x≠b->x∉G:=λx h1 h2 h3=>by
  rcases mC.1 (hG x h3) with h4|h4
  ·exact h2 h4
  ·exact h1 h4
 refine⟨h.bl.aF hF k (λx hx=>out x (a3 x hx).1 (a3 x hx).2),h.ta.aF hF k (λx hx=>out x (a4 x hx).1 (a4 x hx).2.1),?_,h.ty.aF k (λx hx=>out x (a6 x (by simp[hx])).1 (a6 x (by simp[hx])).2.1),by rw[h.eL];rfl,List.nodup_cons.2 ⟨λh2=>by have:=h.cF _ h2;omega,h.nd⟩,λy hy=>?_⟩
 ·rcases h.co with⟨ho,h1⟩|⟨ho,hn,h1⟩
  ·exact .inl ⟨ho,h1.aF k λx hx=>out x (a5 x (by simp[hx])).1 (a5 x (by simp[hx])).2.1⟩
  ·exact .inr ⟨ho,hn,h1.go hF⟩
 ·rcases mC.1 hy with rfl|hy
  ·exact vZ
  ·exact lL (h.cF y hy) k.size
theorem dK.tT {τ:tt} (h:dK τ E L w b o m) {x:Nat} (k:aj G w w') (hG:∀y,y∈G->y∈E) (hx:w.heap.size<=x) (vZ:x<w'.heap.size):dK τ (x::E) (x::L) w' b o m:=by
 obtain⟨vb,vt,vc,vy,gb,gt,gc,gy,h1,h2⟩:=h
 exact⟨vb,vt,vc,vy,gb,gt,gc,gy,h1.aF k (λhx=>h2.apart.2.1 (hG b hx)),h2.tT k (λx hx=>mK _ (hG x hx)) hx vZ⟩
theorem dK.Xc {τ:tt}:∀{X L:List Nat},dK τ (X++E) L w b o m->∃L',L=X++L'∧dK τ E L' w b o m
 |[],L,h=>⟨L,rfl,h⟩
 |x::X,L,h=>by
  obtain⟨L1,e1,h1⟩:=dK.drop (E:=X++E) h
  obtain⟨L2,e2,h2⟩:=dK.Xc h1
  exact⟨L2,by rw[e1,e2];rfl,h2⟩
theorem dK.nd {τ:tt} (h:dK τ E L w b o m):L.Nodup:=by
 obtain⟨_,_,_,_,_,_,_,_,_,h2⟩:=h
 exact h2.nd
theorem dK.sub {τ:tt} (h:dK τ E L w b o m) {x:Nat} (hx:x∈E):x∈L:=h.mem.1 x (mK _ hx)
structure rl (E L:List Nat) (w:World) (b:Nat) (m:Mk) (v1:Value) (g1:Option Nat) (rU:List ai) (v2:Value) (g2:Option Nat) (rm:List ai) (X L1:List Nat) (ww:World):Prop where
 mb:dK t8 (X++E) L1 ww b true m
 fe:dX E L w L1 ww
 s1:cG ww 9 v1 g1 rU
 s2:cG ww 9 v2 g2 rm
 x1:∀x,x∈g1.toList->x∈X∧x∉g2.toList
 x2:∀x,x∈g2.toList->x∈X∧x∉g1.toList
 xE:∀x,x∈X->x∉E
def DP (E L:List Nat) (w:World) (b:Nat) (m:Mk) (v1:Value) (g1:Option Nat) (rU:List ai) (v2:Value) (g2:Option Nat) (rm:List ai) (ww:World):Prop:=∃X L1,rl E L w b m v1 g1 rU v2 g2 rm X L1 ww
section
variable {E L X L1 L2:List Nat} {w ww w':World} {b:Nat} {m:Mk} {v1 v2 v:Value} {g1 g2 g:Option Nat} {rU rm ys:List ai}
theorem rl.ext (h:rl E L w b m v1 g1 rU v2 g2 rm X L1 ww) (k:aj [] ww w'):rl E L w b m v1 g1 rU v2 g2 rm X L1 w':=⟨h.mb.ext k,h.fe.ext k,h.s1.ext k,h.s2.ext k,h.x1,h.x2,h.xE⟩
theorem rl.swap (h:rl E L w b m v1 g1 rU v2 g2 rm X L1 ww):rl E L w b m v2 g2 rm v1 g1 rU X L1 ww:=⟨h.mb,h.fe,h.s2,h.s1,h.x2,h.x1,h.xE⟩
theorem rl.Im (h:rl E L w b m v1 g1 rU v2 g2 rm X L1 ww) (hO:cG w' 9 v g ys) (k:aj g1.toList ww w') (hg:g=g1∨∃x,g=some x∧ww.heap.size<=x):DP E L w b m v g ys v2 g2 rm w':=by
 have hX:∀x,x∈g1.toList->x∈X++E:=λx hx=>List.mem_append_left _ (h.x1 x hx).1
 have hL:∀x,x∈g1.toList->x∈L1:=λx hx=>h.mb.sub (hX x hx)
 have hF:dX E L w L1 w':=h.fe.add (Fr.of k hL) k λx hx=>h.xE x (h.x1 x hx).1
 have h2:cG w' 9 v2 g2 rm:=h.s2.aF k λx hx hy=>(h.x2 x (by simp[hx])).2 hy
 rcases hg with rfl|⟨x,rfl,hx⟩
 ·exact⟨X,L1,⟨h.mb.aF k hX,hF,hO,h2,h.x1,h.x2,h.xE⟩⟩
 ·have lB:x<w'.heap.size:=hO.lt x sm
  refine⟨x::X,x::L1,⟨h.mb.tT k hX hx lB,⟨⟨hF.fr.aF,λy hy=>?_⟩,hF.out⟩,hO,h2,λy hy=>?_,λy hy=>?_,λy hy=>?_⟩⟩
  ·rcases mC.1 hy with rfl|hy
   ·exact .inr (Nat.le_trans h.fe.fr.aF.size hx)
   ·exact hF.fr.mem y hy
  ·have e:y=x:=by simpa using hy
   subst e
   exact⟨by simp,λhh=>by have:=h.s2.lt y hh;omega⟩
  ·refine⟨mK _ (h.x2 y hy).1,λhh=>?_⟩
   have e:y=x:=by simpa using hh
   subst e
   have:=h.s2.lt y hy;omega
  ·rcases mC.1 hy with rfl|hy
   ·intro hE
    have:=h.mb.dj y (h.mb.sub (mR _ hE));omega
   ·exact h.xE y hy
theorem rl.BR (h:rl E L w b m v1 g1 rU v2 g2 rm X L1 ww) (hO:cG w' 9 v g ys) (k:aj g2.toList ww w') (hg:g=g2∨∃x,g=some x∧ww.heap.size<=x):DP E L w b m v1 g1 rU v g ys w':=
 let⟨X,L1,h⟩:=h.swap.Im hO k hg;⟨X,L1,h.swap⟩
theorem rl.call {m':Mk} (h:rl E L w b m v1 g1 rU v2 g2 rm X L1 ww) (hM:dK t8 (X++E) L2 w' b true m') (k:dX (X++E) L1 ww L2 w'):rl E L w b m' v1 g1 rU v2 g2 rm X L2 w':=by
 obtain⟨G,kg,hG⟩:=k.out
 refine⟨hM,h.fe.add k.fr kg λx hx hE=>hG x hx (mR _ hE),h.s1.aF kg λx hx hy=>hG x hy (List.mem_append_left _ (h.x1 x (by simp[hx])).1),h.s2.aF kg λx hx hy=>hG x hy (List.mem_append_left _ (h.x2 x (by simp[hx])).1),h.x1,h.x2,h.xE⟩
theorem rl.done (h:rl E L w b m v1 g1 rU v2 g2 rm X L1 ww):∃L',dK t8 E L' ww b true m∧dX E L w L' ww∧bf L' ww v1 rU∧bf L' ww v2 rm:=by
 obtain⟨L',e,h1⟩:=h.mb.Xc
 have ji:=h.mb.nd
 rw[e,List.nodup_append] at ji
 have hs:∀x,x∈L'->x∈L1:=λx hx=>by rw[e];exact mR _ hx
 exact⟨L',h1,⟨⟨h.fe.fr.aF,λx hx=>h.fe.fr.mem x (hs x hx)⟩,h.fe.out⟩,h.s1.rep λx hx hy=>ji.2.2 x (h.x1 x (by simp[hx])).1 x hy rfl,h.s2.rep λx hx hy=>ji.2.2 x (h.x2 x (by simp[hx])).1 x hy rfl⟩
theorem DP.start {w2:World} (h:dK t8 E L w b true m) (k1:aj [] w w1) (aY:aK w1 w.heap.size #[] 9) (k2:aj [] w1 w2) (aR:aK w2 w1.heap.size #[] 9):DP E L w b m (.slice (some ⟨w.heap.size,0,none⟩) 0 0) (some w.heap.size) [] (.slice (some ⟨w1.heap.size,0,none⟩) 0 0) (some w1.heap.size) [] w2:=by
 have h1:=aY.lt
 have h2:=aR.lt
 have hl:=h.dj
 refine⟨[w1.heap.size,w.heap.size],w1.heap.size::w.heap.size::L,⟨(h.tT (E:=E) k1 sm (lR _) h1).tT k2 sm (lR _) h2,⟨⟨(k1.trans k2).any,λx hx=>?_⟩,[],k1.trans k2,sm⟩,(aY.ext k2).ll,aR.ll,λx hx=>?_,λx hx=>?_,λx hx hE=>?_⟩⟩
 ·rcases mC.1 hx with rfl|hx
  ·right;omega
  ·rcases mC.1 hx with rfl|hx
   ·right;omega
   ·exact .inl hx
 ·simp at hx;subst hx;simp;omega
 ·simp at hx;subst hx;simp;omega
 ·have:=hl x (h.sub hE)
  simp at hx;rcases hx with rfl|rfl<;>omega
end
theorem oy {a:Option Addr} {c i:Nat} {xs:List ai} (h:bf L w (.slice a n c) xs) (hi:i<xs.length):∃b off,a=some ⟨b,off,none⟩∧fF L w b (off+i*1) [str (bD xs i)]:=by
 obtain⟨b,off,vs,ha,hb,hL,hl,hc,hr⟩:=An h (R0 (ik hi))
 rw[R1 hr] at hc
 exact⟨b,off,ha,hc,hb,hL⟩
theorem mP {hd:ai} {ps:List ai} (hh:hd.length<=100) (hp:ps.length<=45) (hs:∀p,p∈ps->p.length<=20000):(dW hd ps).length<=1000000:=by
 have h1:=BF (m:=20000) ps hs
 have h2:ps.length*20001<=45*20001:=Nat.mul_le_mul hp (lR _)
 rw[mi];omega
theorem mu (h:n<1000):(aU n).length<=20000:=by have:=tI h;omega
def B1 (s:cH) (ton:Nat) (aL:List ai) (on:ai):List ai:=aL.map (λx=>aU (kI s x))++(if on≠[] then[aU ton] else[])
theorem ajM (hs:ka s) {ton:Nat} (ht:ton<1000) {aL:List ai} {on:ai}:∀p,p∈B1 s ton aL on->p.length<=3:=λp hp=>by
 unfold B1 at hp
 rcases mA.1 hp with hp|hp
 ·obtain⟨x,_,rfl⟩:=List.mem_map.1 hp
  exact tI (Hv hs x)
 ·split at hp
  ·simp only[List.mem_singleton] at hp;rw[hp];exact tI ht
  ·simp at hp
theorem ajN (s:cH) (ton:Nat) (aL:List ai) (on:ai):(B1 s ton aL on).length<=aL.length+1:=by
 unfold B1
 rw[lA,List.length_map]
 split<;>simp
theorem ajO (m:Mk) (s:cH) (ton:Nat) (aL:List ai) (on aJ kind:ai) (ck:List ai) {R TY:List ai} {W C0 P0:ai} {r:Nat} (hR:R=B1 s ton aL on) (B2:TY=mj s aL on) (hW:W=dW [116] TY) (hC:C0=dW [99] (W::ck)) (hP:P0=dW [116] [C0,W]) (hr:r=m.types.length):
  pA m s ton aL on aJ kind ck=⟨(((((((m.df W).cE l6 (aU r::R)).df C0).cE ti [aU (r+1),aJ]).df P0).cE l6 [aU (r+2),aU (r+1),aU r]).df kind).cE tj [aU (r+3),aU (r+2),kind,W],r+3,W⟩:=by
 subst hP;subst hC;subst hW;subst B2;subst hR;subst hr;rfl
theorem Xd (t:Tk) (m:Mk) (aL:List ai) (on aJ kind:ai) (ck:List ai) (eT:∀x,x∈aL->dQ x=true∧(look (eH t.sc) x).isSome=true) (hs:ka t.sc) (oh:t.sc.length<=9000) (mQ:aL.length<=40) (rN:t.on<1000) (kS:on.length<=272) (HA:aJ.length<=10) (xO:kind.length<=272) (dN:ck.length<=2) (NZ:∀x,x∈ck->x.length<=272) (ht:m.types.length+4<1000) (hc:m.code.length<=8000) 
  (E L:List Nat) (b bt:Nat) (vn vd:Value) (w:World) (h:dK t8 E L w b true m) (hT:gX L w 166 bt t) (eh:bt∈E) (j1:bf L w vn aL) (uZ:bf L w vd ck):
  bw Tryz.prog 243 [.pointer (some ⟨b,0,none⟩),.pointer (some ⟨bt,0,none⟩),vn,str on,str aJ,str kind,vd] w λr w'=>r= .tuple #[.int .i64 ((pA m t.sc t.on aL on aJ kind ck).r:Int),str (pA m t.sc t.on aL on aJ kind ck).w]∧∃L',dK t8 E L' w' b true (pA m t.sc t.on aL on aJ kind ck).m∧dX E L w L' w':=by
 obtain⟨an,nn,cn,rfl,qk⟩:=dH j1
 obtain⟨ad,nd,cd,rfl,ji⟩:=dH uZ
 obtain⟨R,Io⟩:∃x,x=B1 t.sc t.on aL on:=⟨_,rfl⟩
 obtain⟨TY,B2⟩:∃x,x=mj t.sc aL on:=⟨_,rfl⟩
 obtain⟨W,hW⟩:∃x,x=dW [116] TY:=⟨_,rfl⟩
 obtain⟨C0,K9⟩:∃x,x=dW [99] (W::ck):=⟨_,rfl⟩
 obtain⟨P0,sN⟩:∃x,x=dW [116] [C0,W]:=⟨_,rfl⟩
 obtain⟨r,Ip⟩:∃r,r=m.types.length:=⟨_,rfl⟩
 obtain⟨c,Pw⟩:∃c,c=m.code.length:=⟨_,rfl⟩
 have t0:m.types.length=r:=Ip.symm
 have c0:m.code.length=c:=Pw.symm
 rw[ajO m t.sc t.on aL on aJ kind ck Io B2 hW K9 sN Ip]
 have hWl:W.length<=11200:=by rw[hW,B2];exact Hw hs mQ kS
 have hRl:R.length<=41:=by rw[Io];have:=ajN t.sc t.on aL on;omega
 have UB:TY.length<=41:=by rw[B2];have:=U4 t.sc aL on;omega
 have Px:∀p,p∈R->p.length<=3:=by rw[Io];exact ajM hs rN
 have sO:∀p,p∈TY->p.length<=272:=by rw[B2];exact U5 hs kS
 have hCl:C0.length<=12000:=by
  have h1:=BF ck NZ
  have h2:ck.length*(272+1)<=2*(272+1):=Nat.mul_le_mul dN (lR _)
  have h3:jH (W::ck)=1+W.length+jH ck:=by unfold jH;simp;omega
  rw[K9,mi,h3];simp only[lC,List.length_nil];omega
 have Lc:P0.length<=25000:=by rw[sN,mi,BI];simp only[lC,List.length_nil];omega
 have ajQ:=h
 refine bU [.tmp 14,.tmp 15] 131 Tryz.func243 rfl adT rfl rfl ?_
 refine zr<|zA<|zA<|aV<|zr<|gA bg ba λw1 aI Dc aiH=>?_
 have Iq:=aI
 refine zA<|aV<|zr<|gA bg ba λw2 az zT ajR=>?_
 have hP:=DP.start ajQ Iq Dc az zT
 refine zA<|aV<|j3<|zr<|zA<|aV<|sV<|dR (λq:Nat×(Value×Option Nat)×(Value×Option Nat)=>[(0,.pointer (some ⟨b,0,none⟩)),(1,.pointer (some ⟨bt,0,none⟩)),(2,.slice an nn cn),(3,str on),(4,str aJ),(5,str kind),(6,.slice ad nd cd),(16,q.2.1.1),(17,q.2.2.1),(18,.int .i64 (q.1:Int))]) (λq w'=>DP E L w b m q.2.1.1 q.2.1.2 (B0 t.sc aL q.1) q.2.2.1 q.2.2.2 (zS t.sc aL q.1) w'∧q.1<=aL.length) (λq=>aL.length-q.1) ((0,(.slice (some ⟨w.heap.size,0,none⟩) 0 0,some w.heap.size),(.slice (some ⟨w1.heap.size,0,none⟩) 0 0,some w1.heap.size))) (⟨rfl,rfl,rfl,rfl,rfl,rfl,rfl,rfl,rfl,rfl⟩) (⟨hP,sm⟩) λgg w3 e3 hI=>?_
 obtain⟨k,⟨vr,gr⟩,vt,gt⟩:=gg
 obtain⟨⟨X,L1,hX⟩,hk⟩:=hI
 dsimp only at hX hk
 refine j3<|zr<|zm<|zm<|Jc bg rfl rfl rfl<|Jd rfl rfl rfl rfl rfl<|aV<|zc rfl (λh1=>?_) (λh1=>?_)
 have az:k<aL.length:=(by simp at h1;omega)
 have hx:=ik az
 have DQ:=List.mem_of_getElem? hx
 have lB:=E4 (eT _ DQ).1
 have ajS:=j1.go hX.fe.fr
 have cN:=hX.fe.tk hT eh
 have aQ:=lf ajS hx
 obtain⟨b1,eX,e1,bK⟩:=aQ
 cases e1
 refine WI ?_
 refine zi bg ba rfl rfl (by rw[qk];omega)<|zl fo rfl (bK 0 _ rfl)<|aA (BD (bD aL k) w3) ?_
 rintro _ w4 ⟨rfl,aP⟩
 have fH:=aP.size
 have hX:=hX.ext aP
 refine aA (DN t (bD aL k) m om om om oh (X++E) L1 b bt _ _ _ w4 hX.mb (hX.fe.tk hT eh) (mR _ eh)) ?_
 rintro v41 w5 ⟨Xe,L2,Ij,jD⟩
 rw[ajF (eT _ DQ).1] at Xe Ij
 subst Xe
 have hX:=hX.call Ij jD
 refine aA (iH (kI t.sc (bD aL k)+1) (kI t.sc (bD aL k)) om (by have:=Hv hs (bD aL k);omega) w5) ?_
 rintro _ w6 ⟨rfl,bN⟩
 have iJ:=bN.size
 have hX:=hX.ext bN
 refine eR bg ba rfl rfl λw7 bW ajT oe=>?_
 have hX:=hX.ext bW
 refine sF bg ba rfl rfl rfl rfl rfl rfl hX.s1 ajT (by have:=ajI (s:=t.sc) (aL:=aL) (k:=k);omega) λv9 g9 w8 cU cg fj=>?_
 rw[<-ajG az] at cU
 have aQ:=hX.Im cU cg (fj.imp id (λh=>⟨_,h,lR _⟩))
 obtain⟨X2,L2,hX⟩:=aQ
 have Xf:=hX
 have ej:∀x,x∈gt.toList->x∈L2:=(λx hx=>hX.mb.sub (List.mem_append_left _ (hX.x2 x hx).1))
 have aQ:=hX.fe.tk hT eh
 obtain⟨u1,u3,u4,u5,u6,u8,zR,hC⟩:=aQ
 have dd:dP gt.toList w8 bt [str t.aJ,u1,.int .i64 (t.loads:Int),u3,u4,u5,u6,str t.expr.au.aw,u8,.int .i64 (t.on:Int),str t.aW,.int .i64 (t.next:Int)].toArray 166:=⟨zR,λhx=>hX.xE bt (hX.x2 bt hx).1 eh⟩
 have HJ:bf gt.toList w8 u4 (jU t.sc):=bf.fresh hC.aL (λx hx=>.inl (ej x hx))
 have Py:bf gt.toList w8 u6 (pB t.sc):=bf.fresh hC.types (λx hx=>.inl (ej x hx))
 have zU:bf gt.toList w8 (.slice (some ⟨b1,eX,none⟩) nn cn) aL:=bf.fresh (j1.go hX.fe.fr) (λx hx=>.inl (ej x hx))
 have aQ:=oy zU az
 obtain⟨b2,lP,e2,bY⟩:=aQ
 cases e2
 have qq:eW gt.toList w8:=(λx hx=>hX.s2.lt x hx)
 refine zA<|aV ?_
 apply jV dv gt.toList 17 (rA 45 17) (rA 45 17) [[],[],[1],[2],[3],[],[5],[6],[7],[],[],[9,10],[11],[4,8,12],[13],[14],[0,15]] [Ie.v _,Ie.v _,Ie.v _,Ie.v _,Ie.v _,Ie.v _,Ie.v _,Ie.v _,Ie.v _,Ie.v _,Ie.v _,Ie.v _,Ie.v _,Ie.v _,Ie.v _,Ie.p (fun(G:List Nat) (v:Value) (ww:World)=>∃bb,v= .slice (some ⟨bb,0,none⟩) 1 1∧dP G ww bb [str (bz (kt t.sc (bD aL k)))].toArray 9),Ie.e 0] [16] [fun(G:List Nat) (vs:List Value) (ww:World)=>G=gt.toList∧aj [] w8 ww,fun(G:List Nat) (vs:List Value) (ww:World)=>∃g2,cG ww 9 (vs.getD 0 undef) g2 (zS t.sc aL (k+1))∧aj gt.toList w8 ww∧(g2=gt∨∃x,g2=some x∧w8.heap.size<=x)] de rfl qq (by exact⟨λG v w G' w' ⟨bb,e,h⟩ k=>⟨bb,e,h.go k⟩,trivial⟩) (by exact⟨λG vs w w' ⟨h1,h2⟩ k=>⟨h1,h2.ext k⟩,λG vs w w' ⟨g2,h1,h2,h3⟩ k=>⟨g2,h1.ext k,h2.ext k,h3⟩,trivial⟩) (⟨rfl,aj.refl _ _⟩)
 refine vf (λ_ _ _ _ _ _=>WZ fv) ?_
 refine vf (λ_ _ _ _ _ _=>WZ fv) ?_
 refine vf (λ_ _ _ _ _ _=>WZ fv) ?_
 refine vf (λ_ _ _ _ _ _=>WZ fv) ?_
 refine vf (λx w9 G9 aT cV nD=>?_) ?_
 have dd:=dd.go cV
 refine WZ ?_
 exact fv
 refine vf (λ_ _ _ _ _ _=>WZ fv) ?_
 refine vf (λ_ _ _ _ _ _=>WZ fv) ?_
 refine vf (λ_ _ _ _ _ _=>WZ fv) ?_
 refine FA ?_
 refine vf (λx w9 G9 aT cV nD=>?_) ?_
 have HJ:=HJ.go cV;have Py:=Py.go cV
 refine aA (HM (jU t.sc) (pB t.sc) (by simp[jU,pB]) (by simp[jU];omega) (bD aL k) _ _ _ _ w9 HJ Py) ?_
 rintro _ cv ⟨rfl,cw⟩
 have zI:=cw.size
 exact fk cw
 refine vf (λx w9 G9 aT cV nD=>?_) ?_
 refine aA ((Pv (eT _ DQ).2▸wO (kt t.sc (bD aL k)) (by have:=Kf hs (bD aL k);omega) w9)) ?_
 rintro _ cv ⟨rfl,cw⟩
 have zI:=cw.size
 exact fk cw
 refine vf (λx w9 G9 aT cV nD=>?_) ?_
 refine eR bg ba rfl rfl λcv cw Ir Bx=>?_
 exact ff cw (⟨_,rfl,Ir.o nD⟩)
 refine ve 0 (λx w9 G9 aT cV nD hJ hlen=>?_) ?_
 have aX:=jw hlen
 subst aX
 intro zM d15
 obtain⟨bb,e6,fT⟩:=d15
 subst e6
 obtain⟨bS,bT⟩:=hJ
 subst bS
 have ajU:=Xf.s2.ext bT
 refine sF bg ba rfl rfl rfl rfl rfl rfl ajU fT.iw (by have:=ajJ (s:=t.sc) (aL:=aL) (k:=k);omega) λv9 g9 cv cU aB fj=>?_
 rw[<-ajH az] at cU
 exact fe g9.toList (⟨aB,λx hx=>by rcases fj with h|h;(·rw[h] at hx;exact .inl hx);(·rw[h] at hx;simp at hx;right;omega)⟩) ((λx hx=>cU.lt x hx)) (⟨g9,cU,bT.any.trans aB,fj.imp id (λh=>⟨_,h,bT.size⟩)⟩)
 exact trivial
 intro x mm KM aT Ft OM hJ hlen
 have aQ:=jx hlen
 obtain⟨q0,aX⟩:=aQ
 subst aX
 intro zM d15
 change OW _ _ _ _ _ (bo (bm _ x _) (zZ 45 [_,_,_,_,_,_,_,_,_,_,_,_,_,_,_,_,_])) _
 obtain⟨g2,cU,aB,fj⟩:=hJ
 have Pz:=Xf.BR cU aB fj
 refine zA<|aV<|jF<|zm<|kR rfl rfl rfl rfl rfl (wrap_i64 _ om om)<|zA<|aV ?_
 exact⟨(k+1,(_,_),(_,g2)),⟨rfl,rfl,rfl,rfl,rfl,rfl,rfl,rfl,rfl,rfl⟩,⟨Pz,by show k+1<=_;omega⟩,by show aL.length-(k+1)<aL.length-k;omega⟩
 have ey:k=aL.length:=(by simp at h1;omega)
 subst ey
 rw[ajK,ajL] at hX
 refine yx<|yy rfl<|j3<|zr<|zm<|Mf rfl rfl rfl rfl<|aV<|iS (λq:(Value×Option Nat)×(Value×Option Nat)=>[(0,.pointer (some ⟨b,0,none⟩)),(4,str aJ),(5,str kind),(6,.slice ad nd cd),(16,q.1.1),(17,q.2.1)]) (λq ww=>DP E L w b m q.1.1 q.1.2 R q.2.1 q.2.2 TY ww) ?_ ?_
 refine zc rfl (λh2=>?_) (λh2=>?_)
 have Is:on≠[]:=(by simpa using h2)
 have PA:aL.map (λx=>aU (kI t.sc x))++[aU t.on]=R:=(by rw[Io];unfold B1;rw[iP Is])
 have PB:aL.map (λx=>bz (kt t.sc x))++[on]=TY:=(by rw[B2];unfold mj;rw[iP Is])
 have aQ:=hX.fe.tk hT eh
 obtain⟨u1,u3,u4,u5,u6,u8,zR,hC⟩:=aQ
 have dd:aK w3 bt [str t.aJ,u1,.int .i64 (t.loads:Int),u3,u4,u5,u6,str t.expr.au.aw,u8,.int .i64 (t.on:Int),str t.aW,.int .i64 (t.next:Int)].toArray 166:=zR
 refine zr<|zm<|zm<|Gh rfl rfl rfl<|zf Tm rfl<|zl M8 rfl (dd.at rfl)<|aA (iH (t.on+1) t.on om om w3) ?_
 rintro _ w4 ⟨rfl,aP⟩
 have fH:=aP.size
 have hX:=hX.ext aP
 refine eR bg ba rfl rfl λw5 aN PC gZ=>?_
 have hX:=hX.ext aN
 refine sF bg ba rfl rfl rfl rfl rfl rfl hX.s1 PC so λv9 g9 w6 cU bN fj=>?_
 rw[PA] at cU
 have aQ:=hX.Im cU bN (fj.imp id (λh=>⟨_,h,lR _⟩))
 obtain⟨X3,L3,hX⟩:=aQ
 refine zA<|aV<|jF<|zm<|zm<|eR bg ba rfl rfl λw7 bW PD oe=>?_
 have hX:=hX.ext bW
 refine sF bg ba rfl rfl rfl rfl rfl rfl hX.s2 PD so λv10 g10 w8 Xg cg ajV=>?_
 rw[PB] at Xg
 have Pz:=hX.BR Xg cg (ajV.imp id (λh=>⟨_,h,lR _⟩))
 refine zA<|aV ?_
 exact⟨((_,g9),(_,g10)),⟨rfl,rfl,rfl,rfl,rfl,rfl⟩,Pz⟩
 have Is:¬on≠[]:=(by simpa using h2)
 have PA:aL.map (λx=>aU (kI t.sc x))=R:=(by rw[Io];unfold B1;rw[iN Is,List.append_nil])
 have PB:aL.map (λx=>bz (kt t.sc x))=TY:=(by rw[B2];unfold mj;rw[iN Is,List.append_nil])
 rw[PA,PB] at hX
 refine WZ ?_
 exact⟨((_,_),(_,_)),⟨rfl,rfl,rfl,rfl,rfl,rfl⟩,_,_,hX⟩
 intro gu w4 e4 hI
 obtain⟨⟨vr2,gr2⟩,Df,gt2⟩:=gu
 dsimp only at hI⊢
 obtain⟨X2,L2,hX2⟩:=hI
 have aQ:=hX2.done
 obtain⟨L0,av,hR,zW,eY⟩:=aQ
 refine zr<|zm<|aA ((show bw Tryz.prog 135 [str [116],Df] w4 (λr w'=>r=str W∧aj [] w4 w') from by rw[hW];exact y0 [116] TY (by rw[<-hW];omega) _ _ w4 eY)) ?_
 rintro _ w5 ⟨rfl,aN⟩
 have iR:=aN.size
 refine cJ aN av hR zW λav hR zW=>?_
 refine zA<|aV<|zr<|zm<|zm<|aA (sL W m om E L0 b true w5 av) ?_
 rintro v10 w6 ⟨fQ,L1,av,bF⟩
 rw[t0] at fQ
 subst fQ
 have hR:=hR.go bF
 have il:∃x,x=m.df W:=⟨_,rfl⟩
 obtain⟨m1,lV⟩:=il
 rw[<-lV] at av
 have t1:m1.types.length=r+1:=(by rw[lV,zn];omega)
 have c1:m1.code.length=c+0:=(by rw[lV,DO];omega)
 have cX:=av.dj
 have zW:=zW.go bF.fr
 refine zA<|aV<|zr<|zm<|zm<|aA (iH (r+1) r om om w6) ?_
 rintro _ w7 ⟨rfl,bW⟩
 have lp:=bW.size
 refine cJ bW av hR zW λav hR zW=>?_
 have cX:=av.dj
 refine eR bg ba rfl rfl λw8 cg FH kX=>cJ cg av hR zW λav hR zW=>?_
 refine zm<|aA (uN [aU r] R so _ _ L1 w8 (aK.dO [aU r] FH (λhx=>by have:=cX _ hx;omega)) zW av.dj) ?_
 rintro v9 w9 ⟨eZ,aB⟩
 have nA:=aB.size
 refine cJ aB av hR FH λav hR FH=>?_
 have Xh:=eZ
 have aQ:=dH Xh
 obtain⟨a13,n13,c13,Il,_⟩:=aQ
 subst Il
 clear FH
 refine aA (k7 l6 ([aU r]++R) (mP de so (by intro p hp;rcases mA.1 hp with hp|hp;(·simp at hp;subst hp;exact mu om);(·have:=Px p hp;omega))) m1 om E L1 b _ w9 av Xh) ?_
 rintro jQ cv ⟨L2,av,bF⟩
 have hR:=hR.go bF
 have fC:∃x,x=m1.cE l6 ([aU r]++R):=⟨_,rfl⟩
 obtain⟨m2,lW⟩:=fC
 rw[<-lW] at av
 have t2:m2.types.length=r+1:=(by rw[lW,oT];omega)
 have c2:m2.code.length=c+1:=(by rw[lW,pS];omega)
 have cX:=av.dj
 have PE:=uZ.go hR.fr
 refine aV<|zr<|zm<|eR bg ba rfl rfl λew cR Ld vY=>cJ cR av hR PE λav hR PE=>?_
 refine zm<|aA (uN [W] ck so _ _ L2 ew (aK.dO [W] Ld (λhx=>by have:=cX _ hx;omega)) PE av.dj) ?_
 rintro v12 fI ⟨Iv,dw⟩
 have Fw:=dw.size
 refine cJ dw av hR Ld λav hR Ld=>?_
 have Xi:=Iv
 have aQ:=dH Xi
 obtain⟨a14,n14,c14,im,_⟩:=aQ
 subst im
 clear Ld
 refine aA ((show bw Tryz.prog 135 [str [99],.slice a14 n14 c14] fI (λr w'=>r=str C0∧aj [] fI w') from by rw[K9];exact y0 [99] (W::ck) (by rw[<-K9];omega) _ _ fI Xi)) ?_
 rintro _ jO ⟨rfl,gM⟩
 have Ii:=gM.size
 refine bI gM av hR λav hR=>?_
 refine zA<|aV<|zr<|zm<|zm<|aA (sL C0 m2 om E L2 b true jO av) ?_
 rintro v10 ja ⟨fQ,L3,av,bF⟩
 rw[t2] at fQ
 subst fQ
 have hR:=hR.go bF
 have zX:∃x,x=m2.df C0:=⟨_,rfl⟩
 obtain⟨m3,lX⟩:=zX
 rw[<-lX] at av
 have t3:m3.types.length=r+2:=(by rw[lX,zn];omega)
 have c3:m3.code.length=c+1:=(by rw[lX,DO];omega)
 have cX:=av.dj
 refine zA<|aV<|zr<|zm<|zm<|aA (iH ((r+1)+1) (r+1) om om ja) ?_
 rintro _ qA ⟨rfl,jZ⟩
 have PF:=jZ.size
 refine bI jZ av hR λav hR=>?_
 have cX:=av.dj
 refine zm<|lk bg ba rfl rfl rfl rfl λlU nG DR HU=>bI nG av hR λav hR=>?_
 refine aA (k7 ti [aU (r+1),aJ] (mP de sm (by intro p hp;simp at hp;rcases hp with rfl|rfl;(·exact mu om);(·omega))) m3 om E L3 b _ lU av (aK.dO [aU (r+1),aJ] DR (λhx=>by have:=cX _ hx;omega))) ?_
 rintro jQ DL ⟨L4,av,bF⟩
 have hR:=hR.go bF
 clear DR
 have DS:∃x,x=m3.cE ti [aU (r+1),aJ]:=⟨_,rfl⟩
 obtain⟨m4,o5⟩:=DS
 rw[<-o5] at av
 have t4:m4.types.length=r+2:=(by rw[o5,oT];omega)
 have c4:m4.code.length=c+2:=(by rw[o5,pS];omega)
 have cX:=av.dj
 refine aV<|zr<|zm<|zm<|zm<|lk bg ba rfl rfl rfl rfl λyi DT Le O9=>bI DT av hR λav hR=>?_
 refine aA ((show bw Tryz.prog 135 [str [116],_] yi (λr w'=>r=str P0∧aj [] yi w') from by rw[sN];exact y0 [116] [C0,W] (by rw[<-sN];omega) _ L4 yi (aK.dO [C0,W] Le (λhx=>by have:=cX _ hx;omega)))) ?_
 rintro _ DU ⟨rfl,B3⟩
 have arI:=B3.size
 refine cJ B3 av hR Le λav hR Le=>?_
 clear Le
 refine aA (sL P0 m4 om E L4 b true DU av) ?_
 rintro v10 wS ⟨fQ,L5,av,bF⟩
 rw[t4] at fQ
 subst fQ
 have hR:=hR.go bF
 have PG:∃x,x=m4.df P0:=⟨_,rfl⟩
 obtain⟨m5,zY⟩:=PG
 rw[<-zY] at av
 have t5:m5.types.length=r+3:=(by rw[zY,zn];omega)
 have c5:m5.code.length=c+2:=(by rw[zY,DO];omega)
 have cX:=av.dj
 refine zA<|aV<|zr<|zm<|zm<|aA (iH ((r+2)+1) (r+2) om om wS) ?_
 rintro _ rV ⟨rfl,yj⟩
 have arJ:=yj.size
 refine bI yj av hR λav hR=>?_
 have cX:=av.dj
 refine zm<|aA (iH ((r+1)+1) (r+1) om om rV) ?_
 rintro _ Lf ⟨rfl,Iw⟩
 have arK:=Iw.size
 refine bI Iw av hR λav hR=>?_
 have cX:=av.dj
 refine zm<|aA (iH (r+1) r om om Lf) ?_
 rintro _ Xj ⟨rfl,Lg⟩
 have arL:=Lg.size
 refine bI Lg av hR λav hR=>?_
 have cX:=av.dj
 refine pJ bg ba rfl rfl rfl rfl rfl λw24 B4 Lh aj1=>bI B4 av hR λav hR=>?_
 refine aA (k7 l6 [aU (r+2),aU (r+1),aU r] (mP de sm (by intro p hp;simp at hp;rcases hp with rfl|rfl|rfl<;>exact mu om)) m5 om E L5 b _ w24 av (aK.dO [aU (r+2),aU (r+1),aU r] Lh (λhx=>by have:=cX _ hx;omega))) ?_
 rintro jQ w25 ⟨L6,av,bF⟩
 have hR:=hR.go bF
 clear Lh
 have PH:∃x,x=m5.cE l6 [aU (r+2),aU (r+1),aU r]:=⟨_,rfl⟩
 obtain⟨m6,z1⟩:=PH
 rw[<-z1] at av
 have t6:m6.types.length=r+3:=(by rw[z1,oT];omega)
 have c6:m6.code.length=c+3:=(by rw[z1,pS];omega)
 have cX:=av.dj
 refine aV<|zr<|zm<|zm<|aA (sL kind m6 om E L6 b true w25 av) ?_
 rintro v10 w26 ⟨fQ,L7,av,bF⟩
 rw[t6] at fQ
 subst fQ
 have hR:=hR.go bF
 have hx7:∃x,x=m6.df kind:=⟨_,rfl⟩
 obtain⟨m7,Lj⟩:=hx7
 rw[<-Lj] at av
 have t7:m7.types.length=r+4:=(by rw[Lj,zn];omega)
 have c7:m7.code.length=c+3:=(by rw[Lj,DO];omega)
 have cX:=av.dj
 refine zA<|aV<|zr<|zm<|zm<|aA (iH ((r+3)+1) (r+3) om om w26) ?_
 rintro _ w27 ⟨rfl,Xk⟩
 have arM:=Xk.size
 refine bI Xk av hR λav hR=>?_
 have cX:=av.dj
 refine zm<|aA (iH ((r+2)+1) (r+2) om om w27) ?_
 rintro _ w28 ⟨rfl,Xl⟩
 have arO:=Xl.size
 refine bI Xl av hR λav hR=>?_
 have cX:=av.dj
 refine zm<|zm<|zj bg ba rfl rfl rfl rfl rfl rfl λw29 aj7 Xm KE=>bI aj7 av hR λav hR=>?_
 refine aA (k7 tj [aU (r+3),aU (r+2),kind,W] (mP de sm (by intro p hp;simp at hp;rcases hp with rfl|rfl|rfl|rfl;(·exact mu om);(·exact mu om);(·omega);(·omega))) m7 om E L7 b _ w29 av (aK.dO [aU (r+3),aU (r+2),kind,W] Xm (λhx=>by have:=cX _ hx;omega))) ?_
 rintro jQ w30 ⟨L8,av,bF⟩
 have hR:=hR.go bF
 clear Xm
 have Xn:∃x,x=m7.cE tj [aU (r+3),aU (r+2),kind,W]:=⟨_,rfl⟩
 obtain⟨m8,Lk⟩:=Xn
 rw[<-Lk] at av
 have t8:m8.types.length=r+4:=(by rw[Lk,oT];omega)
 have c8:m8.code.length=c+4:=(by rw[Lk,pS];omega)
 have cX:=av.dj
 refine aV<|zr<|zm<|zm<|zA<|zA<|aV<|j4 ?_
 subst Lk Lj z1 zY o5 lX lW lV
 exact⟨_,rfl,rfl,_,av,hR⟩
theorem Xo {i:Nat} {aL:List ai} (h:i<aL.length):iF s k (aL.take (i+1)) []=iF s k (aL.take i) []++[(bD aL i,k+i,kt s (bD aL i))]:=by grind [iF,ik,List.take_add_one,Option.toList_some,List.length_take,Nat.min_eq_left,Nat.le_of_lt]
def rp:Ex:=.bi [43] (.at [49]) (.at [50])
def Ll:ai:=[40,43,32,49,32,50,41]
theorem aj8:nZ rp=some rp:=rfl
theorem PI:rp.ok:=by refine⟨by decide,?_,?_⟩<;>(show qL _=true;decide+kernel)
theorem Xp:rp.au.text=Ll:=by decide+kernel
theorem Xq:bB Ll=some rp.au:=by
 rw[<-Xp]
 exact MS (Ex.wf PI) (by decide+kernel) (by decide+kernel)
theorem type12:bA rp []=some .i:=by rfl
theorem aj9:(ofM rp .i).wide=false:=by decide+kernel
theorem aka:eN (ofM rp .i).blocks=true:=by decide+kernel
theorem akb (e:Ex):Fv x e->dQ x=true:=by
 induction e with
 |«at» s=>exact λh=>h.2
 |un hd a ih=>exact ih
 |bi hd a b i1 i2=>exact λh=>h.elim i1 i2
 |ite a b c i1 i2 i3=>exact λh=>h.elim i1 λh=>h.elim i2 i3
 |lt y a b i1 i2=>exact λh=>h.elim i1 λh=>i2 h.2
 |fn f y A B e ih=>exact λh=>ih h.2.2
theorem Xr {bd:List ai} (h:x∈cM e bd []):dQ x=true:=by
 rcases(CS x e bd []).1 h with h|h
 ·simp at h
 ·exact akb _ h.1
theorem Xs (x0:ByteArray) (a1:Option Addr) (n1 c1:Nat) (x2:Int) (x7:ByteArray) (a8:Option Addr) (n8 c8:Nat) (x9:Int) (FI:ByteArray) (Xt:Int) (w:World):(Instr.build 166 #[(0,.string x0),(1,.slice a1 n1 c1),(2,.int .i64 x2),(7,.agg #[.string x7,.slice a8 n8 c8]),(8,.int .i64 x9),(9,.string FI),(10,.int .i64 Xt)]).run Tryz.prog w= .ok (.agg #[.string x0,.slice a1 n1 c1,.int .i64 x2,.slice none 0 0,.slice none 0 0,.slice none 0 0,.slice none 0 0,.string x7,.slice a8 n8 c8,.int .i64 x9,.string FI,.int .i64 Xt]) w:=by kernel_rfl
def tU (X G:List Nat) (w:World) (v:Value) (xs:List ai):Prop:=bf (X++G) w v xs
theorem tU.go {X G':List Nat} {v:Value} {xs:List ai} (h:tU X G w v xs) (k:Fr G w G' w'):tU X G' w' v xs:=bf.go h (k.in X)
theorem Lm {X:List Nat} {w0:World} (h:∀x,x∈X->x<w0.heap.size) (hs:w0.heap.size<=w.heap.size) (hG:eW G w):∀x,x∈X++G->x<w.heap.size:=λx hx=>by
 rcases mA.1 hx with h1|h1
 ·exact lL (h x h1) hs
 ·exact hG x h1
theorem dX.more {L1:List Nat} {w2:World} (h:dX E L w L1 w1) {x:Nat} (k:aj G w1 w2) (hG:∀y,y∈G->w1.heap.size<=y) (hx:w1.heap.size<=x) (hE:∀y,y∈E->y<w1.heap.size):dX E L w (x::L1) w2:=by
 have k2:aj [] w1 w2:=(aj.refl [] w1).since k λy hy=>.inr (hG y hy)
 have h1:=h.ext k2
 exact⟨⟨h1.fr.aF,λy hy=>by
  rcases mC.1 hy with rfl|hy
  ·exact .inr (Nat.le_trans h.fr.aF.size hx)
  ·exact h.fr.mem y hy⟩,h1.out⟩
theorem dX.sub {L1 L2:List Nat} (h:dX E L w L1 w1) (hs:∀x,x∈L2->x∈L1):dX E L w L2 w1:=⟨⟨h.fr.aF,λx hx=>h.fr.mem x (hs x hx)⟩,h.out⟩
def vg (aJ:ai) (W:ai) (nd:List ai) (FR:List ai) (rest:Ex) (aW:ai) (sc:cH):Tk:=⟨aJ,W::nd,FR.length+1,[],sc,rest,2+FR.length,aW,2⟩
theorem akc (m:Mk) (s:cH) (ton:Nat) (aW name:ai) (kind:Ty) (rest:Ex) {FR:List ai} (hF:FR=cM rest [name] []) (hP:P=pA m.lN s ton FR aW m.aJ (dC (bz kind)) [bz kind]):
  uF m s ton aW name kind rest=({P.m with bJ:=m.bJ++[vg m.aJ P.w [bz kind] FR rest aW (iF s 2 FR []++[(name,1,kind)])]},P.r,dC (bz kind)):=by
 subst hP;subst hF;rfl
theorem Xu {ton:Nat} {aL:List ai} {on aJ kind:ai} {ck:List ai} (hP:P=pA m.lN s ton aL on aJ kind ck):P.m.bJ=m.bJ∧P.r=m.types.length+3∧P.w=dW [116] (mj s aL on):=by
 subst hP;exact⟨rfl,rfl,rfl⟩
theorem Xv (t:Tk) (m:Mk) (name:ai) (kind:Ty) (rest:Ex) (bh:rest.ok) (rP:rest.n<=1000) (tJ:∀x,x∈cM rest [name] []->(look (eH t.sc) x).isSome=true) (nq:(cM rest [name] []).length<=40) (hs:ka t.sc) (oh:t.sc.length<=9000) (hk:kind.n<=16) (rN:t.on<1000) (kS:t.aW.length<=272) (ht:m.types.length+4<1000) (hc:m.code.length<=8000) (vh:m.count<1000) (fL:m.bJ.length<100000) 
  (E L:List Nat) (b bt:Nat) (v:Value) (w:World) (h:dK t8 E L w b true m) (hT:gX L w 166 bt t) (eh:bt∈E) (hv:bC L w v rest.au):
  bw Tryz.prog 223 [.pointer (some ⟨b,0,none⟩),.pointer (some ⟨bt,0,none⟩),str name,str kind.text,v] w λr w'=>∃L',dK t8 E L' w' b true (uF m t.sc t.on t.aW name kind rest).1∧gX L' w' 166 bt {t with on:=(uF m t.sc t.on t.aW name kind rest).2.1,aW:=(uF m t.sc t.on t.aW name kind rest).2.2}∧Fr L w L' w'∧∃G,aj G w w'∧∀z,z∈G->z∈E->z=bt:=by
 obtain⟨ar,nr,cr,rfl,qB,aO⟩:=cY hv
 have lY:=h.dj
 obtain⟨FR,z6⟩:∃x,x=cM rest [name] []:=⟨_,rfl⟩
 obtain⟨P,hP⟩:∃x,x=pA m.lN t.sc t.on FR t.aW m.aJ (dC (bz kind)) [bz kind]:=⟨_,rfl⟩
 rw[akc m t.sc t.on t.aW name kind rest z6 hP]
 obtain⟨Ix,B5,hPw⟩:=Xu hP
 rw[<-z6] at nq tJ
 have eT:∀x,x∈FR->dQ x=true∧(look (eH t.sc) x).isSome=true:=λx hx=>⟨Xr (by rw[<-z6];exact hx),tJ x hx⟩
 have eM:=qj hk
 have mQ:=uK hk
 have B6:=BJ vh
 have hK:=aj.refl [] w
 have vi:b∉E:=h.mem.2.2.1
 have FJ:b∈L:=h.mem.1 b sm
 refine bU [] 109 Tryz.func223 rfl adH rfl rfl ?_
 refine zr<|eK rfl λw1 aI cT dh=>?_
 have hK:=hK.ext aI
 refine W ?_
 refine eR bg ba rfl rfl λw2 az tR dD=>bI az hK cT λhK cT=>?_
 refine gA bg ba λw3 aH wq gL=>cJ aH hK cT tR λhK cT tR=>?_
 refine aA (Kw rest.n rest (lR _) rP bh [name] [] so so _ _ _ (some w2.heap.size) w3 ((hv.fresh (L':=[w2.heap.size]) (λx hx=>.inr (by simp at hx;omega))).ext hK) (aK.dO [name] tR (λhx=>by simp at hx;omega)) wq.ll) ?_
 rintro Ln w4 ⟨g22,Iy,B7⟩
 rw[<-z6] at Iy
 have jY:aj [] w w4:=(hK.since B7.aF (λx hx=>.inr (by simp at hx;omega)))
 have PJ:∀x,x∈g22.toList->w.heap.size<=x:=(λx hx=>by rcases B7.mem x hx with h9|h9;(·simp at h9;omega);(·omega))
 have iq:bf L w4 Ln FR:=Iy.rep (λx hx PK=>by have:=PJ x (by simp[hx]);have:=lY x PK;omega)
 have aQ:=dH iq
 obtain⟨PL,n22,PM,PN,PO⟩:=aQ
 subst PN
 subst PO
 have cT:dP L w4 w.heap.size [str rest.au.aw,.slice ar nr cr].toArray 74:=⟨cT.aF B7.aF so,λhx=>by have:=lY _ hx;omega⟩
 have av:=h.ext jY
 have hR:=(dX.refl E L w).ext jY
 clear tR wq
 refine W ?_
 refine aA (Pr m om E L b true w4 av) ?_
 rintro v24 w5 ⟨⟨PQ,av⟩,B4⟩
 subst PQ
 have hR:=hR.aD B4 FJ vi
 have iq:=bP.aD iq B4 (by simpa using FJ)
 have cT:=cT.aD B4 (by simpa using FJ)
 refine W ?_
 refine aA (wO kind om w5) ?_
 rintro _ w6 ⟨rfl,bN⟩
 have iJ:=bN.size
 refine gY bN cT av hR iq λcT av hR iq=>?_
 refine aA (Ig (bz kind) om w6) ?_
 rintro _ w7 ⟨rfl,bW⟩
 have lp:=bW.size
 refine gY bW cT av hR iq λcT av hR iq=>?_
 have cX:=av.dj
 refine W ?_
 refine aA (wO kind om w7) ?_
 rintro _ w8 ⟨rfl,cg⟩
 have wH:=cg.size
 refine gY cg cT av hR iq λcT av hR iq=>?_
 have cX:=av.dj
 refine eR bg ba rfl rfl λw9 aB yk du=>gY aB cT av hR iq λcT av hR iq=>?_
 refine W ?_
 have uZ:bf L w9 _ [bz kind]:=aK.dO [bz kind] yk (λhx=>by have:=cX _ hx;omega)
 have aQ:=hR.tk hT eh
 obtain⟨u1,u3,u4,u5,u6,u8,zR,hC⟩:=aQ
 have dd:aK w9 bt [str t.aJ,u1,.int .i64 (t.loads:Int),u3,u4,u5,u6,str t.expr.au.aw,u8,.int .i64 (t.on:Int),str t.aW,.int .i64 (t.next:Int)].toArray 166:=zR
 refine W ?_
 refine aA (Xd t m.lN FR t.aW m.aJ (dC (bz kind)) [bz kind] eT hs oh nq rN kS om om sm (by intro x hx;simp at hx;subst hx;omega) ht hc E L b bt _ _ w9 av (hR.tk hT eh) eh iq uZ) ?_
 rintro v42 cv ⟨zz,L1,av,bF⟩
 rw[<-hP] at zz av
 subst zz
 have hR:=hR.go bF;have iq:=iq.go bF.fr;have uZ:=uZ.go bF.fr;have cT:=cT.go bF.fr
 have akg:dP [] cv w.heap.size [str rest.au.aw,.slice ar nr cr].toArray 74:=⟨cT.iw,sm⟩
 have zU:tU L1 [] cv _ [bz kind]:=(by unfold tU;rw[List.append_nil];exact uZ)
 have aQ:=hR.tk hT eh
 obtain⟨u1,u3,u4,u5,u6,u8,zR,hC⟩:=aQ
 have dd:dP [] cv bt [str t.aJ,u1,.int .i64 (t.loads:Int),u3,u4,u5,u6,str t.expr.au.aw,u8,.int .i64 (t.on:Int),str t.aW,.int .i64 (t.next:Int)].toArray 166:=⟨zR,sm⟩
 have vj:=av.dj
 have arQ:=cT
 have cT:=akg
 have Iz:=iq
 have mr:=av
 have uX:=hR
 clear yk
 refine W ?_
 apply jV dv ([]) 18 (rA 45 17++[16]) (rA 45 17++[16]) [[],[],[1],[],[2,3],[],[5],[6],[],[],[9],[10],[],[12],[13],[14],[0,4,7,8,11,15],[]] [Ie.v _,Ie.v _,Ie.p (fun(G:List Nat) (v:Value) (ww:World)=>tU L1 G ww v [P.w]),Ie.v _,Ie.p (fun(G:List Nat) (v:Value) (ww:World)=>tU L1 G ww v ([P.w]++[bz kind])),Ie.v _,Ie.v _,Ie.v _,Ie.v _,Ie.v _,Ie.v _,Ie.v _,Ie.v _,Ie.v _,Ie.v _,Ie.v _,Ie.p (fun(G:List Nat) (v:Value) (ww:World)=>∃a4 n4 c4,v= .agg [str m.aJ,.slice a4 n4 c4,.int .i64 ((FR.length+1:Nat):Int),.slice none 0 0,.slice none 0 0,.slice none 0 0,.slice none 0 0,str rest.au.aw,.slice ar nr cr,.int .i64 ((2+FR.length:Nat):Int),str t.aW,.int .i64 2].toArray∧tU L1 G ww (.slice a4 n4 c4) ([P.w]++[bz kind])),Ie.e 0] [17] [fun(G:List Nat) (vs:List Value) (ww:World)=>G=[]∧aj [] cv ww,fun(G:List Nat) (vs:List Value) (ww:World)=>∃bb,vs.getD 0 undef= .pointer (some ⟨bb,0,none⟩)∧G=[bb]∧cv.heap.size<=bb∧aK ww bb [str [],.slice none 0 0,.int .i64 0,.slice none 0 0,.slice none 0 0,.slice none 0 0,.slice none 0 0,str [],.slice none 0 0,.int .i64 0,str [],.int .i64 0].toArray 166∧aj [] cv ww] de rfl ((λx hx=>by simp at hx)) (by exact⟨λG v w G' w' h k=>h.go k,λG v w G' w' h k=>h.go k,λG v w G' w' ⟨a4,n4,c4,e,h⟩ k=>⟨a4,n4,c4,e,h.go k⟩,trivial⟩) (by exact⟨λG vs w w' ⟨h1,h2⟩ k=>⟨h1,h2.ext k⟩,λG vs w w' ⟨bb,h1,h2,h3,h4,h5⟩ k=>⟨bb,h1,h2,h3,h4.ext k,h5.ext k⟩,trivial⟩) (⟨rfl,aj.refl _ _⟩)
 refine FA ?_
 refine vf (λx ew PR aT FK IA=>?_) ?_
 refine eR bg ba rfl rfl λfI dw akh Pd=>?_
 exact ff dw ((aK.dO [P.w] akh (λhx=>by have:=Lm vj FK.aF.size IA _ hx;omega)))
 refine FA ?_
 refine vf (λx ew PR aT FK IA=>?_) ?_
 have zU:=zU.go FK
 intro v2 d2
 have eE:=Lm vj FK.aF.size IA
 refine aA (uN [P.w] [bz kind] sm _ _ _ ew d2 zU eE) ?_
 rintro v12 fI ⟨Iv,dw⟩
 have Fw:=dw.size
 have eZ:=Iv
 exact ff dw eZ
 refine FA ?_
 refine vf (λx ew PR aT FK IA=>?_) ?_
 intro v4 d4
 have aQ:=dH d4
 obtain⟨a4,n4,c4,e4,_⟩:=aQ
 subst e4
 refine jG (Xs _ _ _ _ _ _ _ _ _ _ _ _ _) rfl rfl ?_
 exact ff (aj.refl _ _) (⟨a4,n4,c4,rfl,d4⟩)
 refine ve 0 (λx ew PR aT FK IA hJ hlen=>?_) ?_
 have aX:=jw hlen
 subst aX
 obtain⟨bS,bT⟩:=hJ
 subst bS
 refine dz mV rfl rfl rfl λfI dw xN HU=>?_
 exact fe ([_]) (⟨dw.mono sm,λx hx=>by simp at hx;right;omega⟩) ((λx hx=>by simp at hx;omega)) (⟨_,rfl,rfl,bT.size,xN,bT.trans dw⟩)
 exact trivial
 intro x o3 G50 aT aki arS hJ hlen
 have aQ:=jx hlen
 obtain⟨q0,aX⟩:=aQ
 subst aX
 intro v2 d2
 intro v4 d4
 intro Du d16
 have dd:=dd.go aki
 change OW _ _ _ _ _ (bo (bm _ x _) (zZ 45 [_,_,_,_,_,_,_,_,_,_,_,_,_,_,_,_,_]++[(16,_)])) _
 obtain⟨bk,sH,bS,DV,fp,bT⟩:=hJ
 have wI:q0=_:=sH
 subst wI
 subst bS
 obtain⟨a4,n4,c4,B8,PS⟩:=d16
 subst B8
 refine cL mV rfl rfl rfl fp rfl λlQ lv fp du=>?_
 have ix:=fp.lt
 have yl:=bT.since lv (λx hx=>.inr (by simp at hx;omega))
 have av:=mr.tT yl sm DV ix
 have hR:=uX.more yl sm DV (λy hy=>vj y (mr.sub hy))
 have PT:∀x,x∈bk::L1->x∈L1++[bk]:=(λx hx=>by simp at hx⊢;rcases hx with h|h;(·exact .inr h);(·exact .inl h))
 have wT:bk∈bk::L1:=sm
 have FL:bk∉E:=(λhx=>by have:=vj bk (mr.sub hx);omega)
 have iq:=(Iz.fresh (L':=bk::L1) (λx hx=>by rcases mC.1 hx with rfl|hx;(·exact .inr DV);(·exact .inl hx))).ext yl
 have BU:=eU.go aO hR.fr
 have fV:gX (bk::L1) lQ 166 bk (vg m.aJ P.w [bz kind] FR rest t.aW (iF t.sc 2 (FR.take 0) [])):=⟨_,_,_,_,_,_,fp,⟨(bP.aD PS lv sm).fresh (λx hx=>.inl (PT x hx)),.nil _ _ _,.nil _ _ _,.nil _ _ _,.nil _ _ _,BU⟩⟩
 refine W ?_
 refine dR (λi:Nat=>[(0,.pointer (some ⟨b,0,none⟩)),(1,.pointer (some ⟨bt,0,none⟩)),(2,str name),(3,str kind.text),(10,.slice PL FR.length PM),(12,str (dC (bz kind))),(14,.int .i64 (P.r:Int)),(16,.pointer (some ⟨bk,0,none⟩)),(17,.int .i64 (i:Int))]) (λi w'=>aj [bk] lQ w'∧i<=FR.length∧gX (bk::L1) w' 166 bk (vg m.aJ P.w [bz kind] FR rest t.aW (iF t.sc 2 (FR.take i) []))) (λi=>FR.length-i) (0) (⟨rfl,rfl,rfl,rfl,rfl,rfl,rfl,rfl,rfl⟩) (⟨aj.refl _ _,Nat.zero_le _,fV⟩) λgg BX Lo hI=>?_
 obtain⟨di,hi,fV⟩:=hI
 have av:=av.aF di sm
 have hR:=hR.aD di wT FL
 have iq:=bP.aD iq di sm
 refine W ?_
 refine zc rfl (λh1=>?_) (λh1=>?_)
 have mq:gg<FR.length:=(by simp at h1;omega)
 have DQ:=List.mem_of_getElem? (ik mq)
 have aQ:=hR.tk hT eh
 obtain⟨u1,u3,u4,u5,u6,u8,dd,hC⟩:=aQ
 have DW:=hC.aL
 have DX:=hC.types
 have aQ:=oy iq mq
 obtain⟨b2,lP,e2,bY⟩:=aQ
 cases e2
 have O5:=av.dj
 refine WZ ?_
 apply dV dv 19 [68,69,70,71,72,73,74,75,76,77,78,79,80,81,82,83,84,85,86] [[],[],[0,1],[2],[],[4],[],[6],[7],[8],[],[10],[11],[12],[],[],[14,15],[16],[9,13,17]] (it [_,_,_,_,_,_,_,_,_,_,_,_,_,_,_,_,_,_,_]) de rfl
 intro wd aC
 refine VA ?_
 refine vk aC (λx sK K4=>?_) ?_
 refine bI K4 DW DX λDW DX=>?_
 refine aA (HM (jU t.sc) (pB t.sc) (by simp[jU,pB]) (by simp[jU];omega) (bD FR gg) _ _ _ _ sK DW DX) ?_
 rintro v54 ym ⟨akj,DY⟩
 have arU:=DY.size
 have eZ:=akj
 rw[Pv (eT _ DQ).2] at eZ
 subst eZ
 exact pk DY
 exact trivial
 intro x Dx zJ
 refine cJ zJ av fV di λav fV di=>?_
 change OW _ _ _ _ _ (bo (bm _ x _) (zZ 68 [_,_,_,_,_,_,_,_,_,_,_,_,_,_,_,_,_,_,_])) _
 refine aA (FG (vg m.aJ P.w [bz kind] FR rest t.aW (iF t.sc 2 (FR.take gg) [])) (bD FR gg) (2+gg) (kt t.sc (bD FR gg)) (by show(iF t.sc 2 (FR.take gg) []).length<100000;rw[zk,List.length_take];omega) (bk::L1) bk Dx wT av.dj fV) ?_
 rintro v87 w93 ⟨fV,o6⟩
 have akl:=o6.size
 refine W ?_
 exact⟨gg+1,⟨rfl,rfl,rfl,rfl,rfl,rfl,rfl,rfl,rfl⟩,⟨di.trans o6,om,by rw[Xo mq];exact fV⟩,om⟩
 have BE:gg=FR.length:=(by simp at h1;omega)
 subst BE
 rw[List.take_length] at fV
 refine W ?_
 refine aA (FG (vg m.aJ P.w [bz kind] FR rest t.aW (iF t.sc 2 FR [])) name 1 kind (by show(iF t.sc 2 FR []).length<100000;rw[zk];omega) (bk::L1) bk BX wT av.dj fV) ?_
 rintro v90 sK ⟨fV,uR⟩
 have av:=av.aF uR sm
 have hR:=hR.aD uR wT FL
 have fV:gX (bk::L1) sK 166 bk (vg m.aJ P.w [bz kind] FR rest t.aW (iF t.sc 2 FR []++[(name,1,kind)])):=fV
 have Lc:P.m.bJ.length<100000:=(by rw[Ix];exact fL)
 have aQ:=av.open
 obtain⟨vb,vt,vc,vy,gb,gt,gc,gy,ye,hS⟩:=aQ
 have aQ:=hS.apart
 obtain⟨zP,nQ,wP,mO,wQ,uV⟩:=aQ
 obtain⟨u1,u3,u4,u5,u6,u8,IB,tV⟩:=fV
 have bj:dP gt.toList sK b [vb,vt,.int .i64 ((P.m).count:Int),.bool (P.m).wide,vc,vy].toArray 164:=⟨ye,λhx=>(mO b hx).2.1 rfl⟩
 have fp:dP gt.toList sK bk (qf (vg m.aJ P.w [bz kind] FR rest t.aW (iF t.sc 2 FR []++[(name,1,kind)])) u1 u3 u4 u5 u6 u8).toArray 166:=⟨IB,λhx=>(mO bk hx).1 sm⟩
 have qq:eW gt.toList sK:=(λx hx=>hS.cF x (hS.mem.2 (by simp[hx])))
 have B9:∀x,x∈gt.toList->x∈(bk::L1):=(λx hx=>hS.mem.2 (by simp[hx]))
 refine W ?_
 apply jV dv gt.toList 8 (rA 91 8) (rA 91 8) [[],[],[1],[2],[3],[],[5],[4,6]] [Ie.v _,Ie.v _,Ie.v _,Ie.v _,Ie.v _,Ie.v _,Ie.p (fun(G:List Nat) (v:Value) (ww:World)=>∃bb,v= .slice (some ⟨bb,0,none⟩) 1 1∧dP G ww bb (qf (vg m.aJ P.w [bz kind] FR rest t.aW (iF t.sc 2 FR []++[(name,1,kind)])) u1 u3 u4 u5 u6 u8).toArray 166),Ie.e 0] [7] [fun(G:List Nat) (vs:List Value) (ww:World)=>G=gt.toList∧aj [] sK ww,fun(G:List Nat) (vs:List Value) (ww:World)=>∃g2,dL (gt.toList++(g2.toList++(bk::L1))) ww 166 12 (vs.getD 0 undef) g2 (((P.m).bJ++[(vg m.aJ P.w [bz kind] FR rest t.aW (iF t.sc 2 FR []++[(name,1,kind)]))]).map Tk.enc)∧aj gt.toList sK ww∧(g2=gt∨∃x,g2=some x∧sK.heap.size<=x)] de rfl qq (by exact⟨λG v w G' w' ⟨bb,e,h⟩ k=>⟨bb,e,h.go k⟩,trivial⟩) (by exact⟨λG vs w w' ⟨h1,h2⟩ k=>⟨h1,h2.ext k⟩,λG vs w w' ⟨g2,h1,h2,h3⟩ k=>⟨g2,h1.ext k,h2.ext k,h3⟩,trivial⟩) (⟨rfl,aj.refl _ _⟩)
 refine FA ?_
 refine vf (λx ym G54 aT ako Xw=>?_) ?_
 refine tE [_] [qf (vg m.aJ P.w [bz kind] FR rest t.aW (iF t.sc 2 FR []++[(name,1,kind)])) u1 u3 u4 u5 u6 u8] AR mV rfl rfl rfl rfl rfl rfl rfl rfl rfl λLp Ca IC Xx=>?_
 exact ff Ca (⟨_,rfl,IC.o Xw⟩)
 refine ve 0 (λx ym G54 aT ako Xw hJ hlen=>?_) ?_
 have aX:=jw hlen
 subst aX
 intro v6 d6
 obtain⟨bb,e6,fT⟩:=d6
 subst e6
 obtain⟨bS,bT⟩:=hJ
 subst bS
 have zh:=(hS.ta.any bT).sub (L':=gt.toList++(bk::L1)) (λx hx=>.inl (by rcases mA.1 hx with h|h;(·exact B9 x h);(·exact h)))
 have Cb:=tV.ext bT
 refine De (L:=(bk::L1)) (row:=Tk.enc (vg m.aJ P.w [bz kind] FR rest t.aW (iF t.sc 2 FR []++[(name,1,kind)]))) AR mV rfl rfl rfl rfl rfl rfl zh rfl fT.all (λu hu=>List.all_eq_true.1 Cb.one u hu) (Cb.go ((Fr.refl _ _).to (L2:=gt.toList++(bk::L1)) (λx hx=>.inl (by rcases mA.1 hx with h|h;(·exact B9 x h);(·exact h))))).CC (by rw[List.length_map];omega) λv9 g9 Lp cU uY fj=>?_
 exact fe g9.toList (⟨uY.aF,λx hx=>by rcases fj with h|h;(·rw[h] at hx;exact .inl hx);(·rw[h] at hx;simp at hx;right;omega)⟩) ((λx hx=>cU.lt x hx)) (⟨g9,by rw[List.map_append];exact cU,bT.any.trans uY.aF,fj.imp id (λh=>⟨_,h,bT.size⟩)⟩)
 exact trivial
 intro x w93 G93 aT akp arW hJ hlen
 have aQ:=jx hlen
 obtain⟨q0,aX⟩:=aQ
 subst aX
 intro v6 d6
 have bj:=bj.go akp
 change OW _ _ _ _ _ (bo (bm _ x _) (zZ 91 [_,_,_,_,_,_,_,_])) _
 obtain⟨g2,cU,ey,iT⟩:=hJ
 have aQ:=hS.GJ cU ey iT
 obtain⟨L3,fJ,jD⟩:=aQ
 have aQ:=cU.len
 obtain⟨a3,c3,e3⟩:=aQ
 have e4:q0=_:=e3
 subst e4
 have bj:aK _ b [vb,vt,.int .i64 ((P.m).count:Int),.bool (P.m).wide,vc,vy].toArray 164:=ye.aF ey (λhx=>(mO b hx).2.1 rfl)
 refine W ?_
 refine gD (o:=1) JE rfl rfl rfl bj rfl λw94 Xy bj du=>?_
 have fJ:=fJ.aF Xy sm
 have av:dK t8 (bk::E) L3 w94 b true {P.m with bJ:=(P.m).bJ++[(vg m.aJ P.w [bz kind] FR rest t.aW (iF t.sc 2 FR []++[(name,1,kind)]))]}:=⟨_,_,_,_,_,_,_,_,bj,fJ⟩
 have hR:=(hR.add jD ey (λx hx wU=>(mO x hx).1 (by simp[wU]))).aD Xy (fJ.mem.2 (.inr (.inl rfl))) (λwU=>nQ (by simp[wU]))
 rw[Ix] at av
 have aQ:=av.drop
 obtain⟨L4,PU,av⟩:=aQ
 have hR:=hR.sub (L2:=L4) (λx hx=>by rw[PU];simp[hx])
 have aQ:=hR.tk hT eh
 obtain⟨u1,u3,u4,u5,u6,u8,dd,hC⟩:=aQ
 have z7:=av.sub eh
 refine W ?_
 refine gD (o:=9) pq rfl rfl rfl dd rfl λFM Cc dd du=>?_
 have hC:=hC.aD Cc (by simpa using z7)
 have av:=av.aF Cc (by simpa using eh)
 have hF:=hR.fr.aD Cc (by simpa using z7)
 have uO:=hR.out
 obtain⟨G0,fS,Ik⟩:=uO
 have fS:aj (G0++[bt]) w FM:=(fS.mono (λz hz=>List.mem_append_left _ hz)).trans (Cc.mono (λz hz=>mR _ hz))
 refine W ?_
 refine gD (o:=10) ba rfl rfl rfl dd rfl λID FN dd du=>?_
 have hC:=hC.aD FN (by simpa using z7)
 have av:=av.aF FN (by simpa using eh)
 have hF:=hF.aD FN (by simpa using z7)
 have fS:=fS.trans (FN.mono (λz hz=>mR _ hz))
 refine W ?_
 exact⟨_,rfl,L4,av,⟨u1,u3,u4,u5,u6,u8,dd,⟨hC.regs,hC.self,hC.aL,hC.at_,hC.types,hC.ak⟩⟩,hF,_,fS,λz hz sP=>by rcases mA.1 hz with h9|h9;(·exact absurd sP (Ik z h9));(·simpa using h9)⟩
def rW (aJ:ai) (W:ai) (nd:List ai) (FR:List ai) (e:Ex) (aW:ai) (self:List ai) (sc:cH):Tk:=⟨aJ,W::nd,FR.length,self,sc,e,2,aW,3⟩
def sQ (s:cH) (FR:List ai) (f:ai) (A B:Ty) (e:Ex):cH:=if 0<j9 f e then iF s 3 FR []++[(f,3+FR.length+2,.op true A B)] else iF s 3 FR []
def vm (f:ai) (A B:Ty) (e:Ex) (W:ai):List ai:=if 0<j9 f e then[bz (.op true A B),W] else[]
theorem akr (m:Mk) (s:cH) (ton:Nat) (f x:ai) (A B:Ty) (e:Ex) {FR:List ai} (hF:FR=cM (.fn f x A B e) [] []) (hP:P=pA m.lN s ton FR [] m.aJ (bz (.op true A B)) [bz A,dC (bz B)]):
  A6 m s f x A B e=({P.m with bJ:=m.bJ++[rW m.aJ P.w [bz A,dC (bz B)] FR e (dC (bz B)) (vm f A B e P.w) (sQ s FR f A B e++[(x,1,A)])]},P.r):=by
 have h1:oH m s f x A B e=P:=by rw[hP,hF];unfold oH;simp[pA]
 have h2:P.m.bJ=m.bJ:=by rw[hP];rfl
 unfold A6 A5 A4
 rw[h1,h2,<-hF];rfl
theorem aks (t:Tk) (x:ai) (r:Nat) (T:Ty) (s:ai) (hs:s=T.text) (hl:t.sc.length<100000) (L:List Nat) (bt:Nat) (w:World) (rL:bt∈L) (lS:∀x,x∈L->x<w.heap.size) (hT:gX L w 166 bt t):
  bw Tryz.prog 192 [.pointer (some ⟨bt,0,none⟩),str x,.int .i64 (r:Int),str s] w λ_ w'=>gX L w' 166 bt {t with sc:=t.sc++[(x,r,T)]}∧aj [bt] w w':=by subst hs;exact FG t x r T hl L bt w rL lS hT
theorem akt {off:Nat} {vs:List Value} (h:fF L w b off vs):fF [] w b off vs:=⟨h.cells,h.lt,sm⟩
theorem aku (t:Tk) (m:Mk) (f ax:ai) (A B:Ty) (e:Ex) (bh:(Ex.fn f ax A B e).ok) (rP:(Ex.fn f ax A B e).n<=1000) (tJ:∀y,y∈cM (.fn f ax A B e) [] []->(look (eH t.sc) y).isSome=true) (nq:(cM (.fn f ax A B e) [] []).length<=40) (hs:ka t.sc) (oh:t.sc.length<=9000) (BK:1+A.n+B.n<=16) (rN:t.on<1000) (ht:m.types.length+4<1000) (hc:m.code.length<=8000) (vh:m.count<1000) (fL:m.bJ.length<100000) 
  (E L:List Nat) (b bt:Nat) (v:Value) (w:World) (h:dK t8 E L w b true m) (hT:gX L w 166 bt t) (eh:bt∈E) (hv:bC L w v (Ex.fn f ax A B e).au):
  bw Tryz.prog 225 [.pointer (some ⟨b,0,none⟩),.pointer (some ⟨bt,0,none⟩),v] w λr w'=>r= .int .i64 ((A6 m t.sc f ax A B e).2:Int)∧∃L',dK t8 E L' w' b true (A6 m t.sc f ax A B e).1∧dX E L w L' w':=by
 obtain⟨ar,nr,cr,rfl,qB,aO⟩:=cY hv
 subst qB
 have lY:=h.dj
 obtain⟨FR,z6⟩:∃z:List ai,z=cM (.fn f ax A B e) [] []:=⟨_,rfl⟩
 obtain⟨P,hP⟩:∃z:Pk,z=pA m.lN t.sc t.on FR [] m.aJ (bz (.op true A B)) [bz A,dC (bz B)]:=⟨_,rfl⟩
 rw[akr m t.sc t.on f ax A B e z6 hP]
 obtain⟨Ix,B5,hPw⟩:=Xu hP
 rw[<-z6] at nq tJ
 have eT:∀x,x∈FR->dQ x=true∧(look (eH t.sc) x).isSome=true:=λx hx=>⟨Xr (by rw[<-z6];exact hx),tJ x hx⟩
 obtain⟨IE,hox,akw,hoA,hoB,Xz⟩:=bh
 have km:=qj (T:=A) om
 have rX:=uK (T:=B) om
 have arX:=qj (T:=B) om
 have XA:=qj (T:=Ty.op true A B) (show 1+A.n+B.n<=16 from BK)
 have B6:=BJ vh
 have XB:=A.len
 have XC:=B.len
 have arY:A.au.text.length<=100:=show A.text.length<=100 from by omega
 have arZ:B.au.text.length<=100:=show B.text.length<=100 from by omega
 have hzA:=A.size
 have hzB:=B.size
 have xU:(Ex.fn f ax A B e).n=3+A.n+B.n+e.n:=rfl
 have ql:((((([40,62,32]:ai)++A.text)++[32])++B.text)++[41])=(Ty.op true A B).text:=by rw[Ty.JI];simp[j7]
 have KJ:(Ex.fn f ax A B e).au.ak.length=6:=rfl
 have hK:=aj.refl [] w
 have vi:b∉E:=h.mem.2.2.1
 have FJ:b∈L:=h.mem.1 b sm
 have hR:=dX.refl E L w
 obtain⟨b1,eX,gR,gF,e1,bK,cN⟩:=fg aO (i:=1) om
 cases e1
 have bK:fF L w _ _ [str f,.slice gR 0 gF]:=bK
 obtain⟨b2,lP,iI,iy,e2,bY,dM⟩:=fg aO (i:=2) om
 cases e2
 have bY:fF L w _ _ [str ax,.slice iI 0 iy]:=bY
 obtain⟨b3,BP,qm,qo,e3,dS,ei⟩:=fg aO (i:=3) om
 cases e3
 have ei:bC L _ _ A.au:=ei
 obtain⟨b4,aja,Oq,Ot,e4,jK,qp⟩:=fg aO (i:=4) om
 cases e4
 have qp:bC L _ _ B.au:=qp
 obtain⟨b5,ajb,FD,FE,e5,kx,nL⟩:=fg aO (i:=5) om
 cases e5
 have kx:fF L w _ _ [str e.au.aw,.slice FD e.au.ak.length FE]:=kx
 have nL:bC L w (.agg #[str e.au.aw,.slice FD e.au.ak.length FE]) e.au:=nL
 have gz:bC L w _ (Ex.fn f ax A B e).au:=hv
 have hSF:∀w:World,bw Tryz.prog 156 [str ((((([40,62,32]:ai)++A.text)++[32])++B.text)++[41])] w λr w'=>r=str (bz (.op true A B))∧aj [] w w':=λw=>by rw[ql];exact wO (.op true A B) (show 1+A.n+B.n<=60 from om) w
 refine bU [.tmp 6] 139 Tryz.func225 rfl adJ rfl rfl ?_
 refine zr<|eK rfl λw1 aI cu dh=>bI aI hK hR λhK hR=>?_
 refine WI ?_
 refine zi (i:=3) cD aM rfl rfl ((show 3<6 from om))<|zL fc aM rfl ((dS.go hR.fr).cells) rfl<|aA (uJ A.au.size A.au (lR _) A.l4.wf om (show A.text.length<=100000000 from om) _ _ w1 (ei.go hR.fr)) ?_
 rintro _ w2 ⟨rfl,az⟩
 have dx:=az.size
 refine cJ az hK hR cu λhK hR cu=>?_
 refine WI ?_
 refine zi (i:=4) cD aM rfl rfl ((show 4<6 from om))<|zL fc aM rfl ((jK.go hR.fr).cells) rfl<|aA (uJ B.au.size B.au (lR _) B.l4.wf om (show B.text.length<=100000000 from om) _ _ w2 (qp.go hR.fr)) ?_
 rintro _ w3 ⟨rfl,aH⟩
 have fh:=aH.size
 refine cJ aH hK hR cu λhK hR cu=>?_
 refine W ?_
 refine gA bg ba λw4 aP wR gQ=>cJ aP hK hR cu λhK hR cu=>?_
 refine gA bg ba λw5 aN FP gZ=>gY aN hK hR cu wR λhK hR cu wR=>?_
 have ar2:=cu
 refine aA (Kw (Ex.fn f ax A B e).n (Ex.fn f ax A B e) (lR _) rP ⟨IE,hox,akw,hoA,hoB,Xz⟩ [] [] so so _ _ _ (some w4.heap.size) w5 ((gz.fresh (L':=[w4.heap.size]) (λx hx=>.inr (by simp at hx;omega))).ext hK) (wR.ll.rep (λx hx=>by simp at hx;subst hx;simp;omega)) FP.ll) ?_
 rintro Ln w6 ⟨g22,Iy,B7⟩
 rw[<-z6] at Iy
 have jY:aj [] w w6:=(hK.since B7.aF (λx hx=>.inr (by simp at hx;omega)))
 have PJ:∀x,x∈g22.toList->w.heap.size<=x:=(λx hx=>by rcases B7.mem x hx with h9|h9;(·simp at h9;omega);(·omega))
 have iq:bf L w6 Ln FR:=Iy.rep (λx hx PK=>by have:=PJ x (by simp[hx]);have:=lY x PK;omega)
 have aQ:=dH iq
 obtain⟨PL,n22,PM,PN,PO⟩:=aQ
 subst PN
 subst PO
 have av:=h.ext jY
 have hR:=(dX.refl E L w).ext jY
 clear wR FP
 refine W ?_
 refine aA (Pr m om E L b true w6 av) ?_
 rintro v24 w7 ⟨⟨PQ,av⟩,B4⟩
 subst PQ
 have hR:=hR.aD B4 FJ vi
 have iq:=bP.aD iq B4 (by simpa using FJ)
 refine W ?_
 refine aA (hSF w7) ?_
 rintro _ w8 ⟨rfl,cg⟩
 have wH:=cg.size
 refine cJ cg hR av iq λhR av iq=>?_
 have cX:=av.dj
 refine W ?_
 refine aA (wO A om w8) ?_
 rintro _ w9 ⟨rfl,aB⟩
 have nA:=aB.size
 refine cJ aB hR av iq λhR av iq=>?_
 have cX:=av.dj
 refine zm<|aA (wO B om w9) ?_
 rintro _ cv ⟨rfl,cw⟩
 have zI:=cw.size
 refine cJ cw hR av iq λhR av iq=>?_
 have cX:=av.dj
 refine aA (Ig (bz B) om cv) ?_
 rintro _ ew ⟨rfl,cR⟩
 have yo:=cR.size
 refine cJ cR hR av iq λhR av iq=>?_
 have cX:=av.dj
 refine lk bg ba rfl rfl rfl rfl λfI dw DZ Pd=>cJ dw hR av iq λhR av iq=>?_
 refine W ?_
 have uZ:bf L fI _ [bz A,dC (bz B)]:=aK.dO [bz A,dC (bz B)] DZ (λhx=>by have:=cX _ hx;omega)
 refine aA (Xd t m.lN FR [] m.aJ (bz (.op true A B)) [bz A,dC (bz B)] eT hs oh nq rN sm om om sm (by intro x hx;simp at hx;rcases hx with rfl|rfl<;>omega) ht hc E L b bt _ _ fI av (hR.tk hT eh) eh iq uZ) ?_
 rintro v42 jO ⟨zz,L1,av,bF⟩
 rw[<-hP] at zz av
 subst zz
 have hR:=hR.go bF;have iq:=iq.go bF.fr;have uZ:=uZ.go bF.fr
 have zU:tU L1 [] jO _ [bz A,dC (bz B)]:=(by unfold tU;rw[List.append_nil];exact uZ)
 have PV:=akt (kx.go hR.fr)
 have vj:=av.dj
 have Iz:=iq
 have mr:=av
 have uX:=hR
 clear DZ
 refine W ?_
 apply jV dv ([]) 15 (rA 59 14++[17]) (rA 59 14++[17]) [[],[],[1],[],[2,3],[],[5],[],[7],[8],[],[10],[11],[0,4,6,9,12],[]] [Ie.v _,Ie.v _,Ie.p (fun(G:List Nat) (v:Value) (ww:World)=>tU L1 G ww v [P.w]),Ie.v _,Ie.p (fun(G:List Nat) (v:Value) (ww:World)=>tU L1 G ww v ([P.w]++[bz A,dC (bz B)])),Ie.v _,Ie.v _,Ie.v _,Ie.v _,Ie.v _,Ie.v _,Ie.v _,Ie.v _,Ie.p (fun(G:List Nat) (v:Value) (ww:World)=>∃a4 n4 c4,v= .agg [str m.aJ,.slice a4 n4 c4,.int .i64 (FR.length:Int),.slice none 0 0,.slice none 0 0,.slice none 0 0,.slice none 0 0,str e.au.aw,.slice FD e.au.ak.length FE,.int .i64 2,str (dC (bz B)),.int .i64 3].toArray∧tU L1 G ww (.slice a4 n4 c4) ([P.w]++[bz A,dC (bz B)])),Ie.e 0] [14] [fun(G:List Nat) (vs:List Value) (ww:World)=>G=[]∧aj [] jO ww,fun(G:List Nat) (vs:List Value) (ww:World)=>∃bb,vs.getD 0 undef= .pointer (some ⟨bb,0,none⟩)∧G=[bb]∧jO.heap.size<=bb∧aK ww bb [str [],.slice none 0 0,.int .i64 0,.slice none 0 0,.slice none 0 0,.slice none 0 0,.slice none 0 0,str [],.slice none 0 0,.int .i64 0,str [],.int .i64 0].toArray 166∧aj [] jO ww] de rfl ((λx hx=>by simp at hx)) (by exact⟨λG v w G' w' h k=>h.go k,λG v w G' w' h k=>h.go k,λG v w G' w' ⟨a4,n4,c4,e,h⟩ k=>⟨a4,n4,c4,e,h.go k⟩,trivial⟩) (by exact⟨λG vs w w' ⟨h1,h2⟩ k=>⟨h1,h2.ext k⟩,λG vs w w' ⟨bb,h1,h2,h3,h4,h5⟩ k=>⟨bb,h1,h2,h3,h4.ext k,h5.ext k⟩,trivial⟩) (⟨rfl,aj.refl _ _⟩)
 refine FA ?_
 refine vf (λx ja IF aT Cd D0=>?_) ?_
 refine eR bg ba rfl rfl λqA jZ Lq Kz=>?_
 exact ff jZ ((aK.dO [P.w] Lq (λhx=>by have:=Lm vj Cd.aF.size D0 _ hx;omega)))
 refine FA ?_
 refine vf (λx ja IF aT Cd D0=>?_) ?_
 have zU:=zU.go Cd
 intro v2 d2
 have eE:=Lm vj Cd.aF.size D0
 refine aA (uN [P.w] [bz A,dC (bz B)] sm _ _ _ ja d2 zU eE) ?_
 rintro zM qA ⟨akA,jZ⟩
 have PF:=jZ.size
 have eZ:=akA
 exact ff jZ eZ
 refine FA ?_
 refine vf (λ_ _ _ _ _ _=>zi (i:=5) cD aM rfl rfl ((show 5<6 from om)) fv) ?_
 refine FA ?_
 refine vf (λx ja IF aT Cd D0=>?_) ?_
 refine aA (wO B om ja) ?_
 rintro _ qA ⟨rfl,jZ⟩
 have PF:=jZ.size
 exact fk jZ
 refine vf (λx ja IF aT Cd D0=>?_) ?_
 refine aA (Ig (bz B) om ja) ?_
 rintro _ qA ⟨rfl,jZ⟩
 have PF:=jZ.size
 exact fk jZ
 refine vf (λx ja IF aT Cd D0=>?_) ?_
 intro v4 d4
 have aQ:=dH d4
 obtain⟨a4,n4,c4,e4,_⟩:=aQ
 subst e4
 refine jG (Xs ⟨m.aJ.toArray⟩ a4 n4 c4 (FR.length:Int) ⟨e.au.aw.toArray⟩ FD e.au.ak.length FE 2 ⟨(dC (bz B)).toArray⟩ 3 _) rfl rfl ?_
 exact ff (aj.refl _ _) (⟨a4,n4,c4,rfl,d4⟩)
 refine ve 0 (λx ja IF aT Cd D0 hJ hlen=>?_) ?_
 have aX:=jw hlen
 subst aX
 obtain⟨bS,bT⟩:=hJ
 subst bS
 refine dz mV rfl rfl rfl λqA jZ xN HU=>?_
 exact fe ([_]) (⟨jZ.mono sm,λx hx=>by simp at hx;right;omega⟩) ((λx hx=>by simp at hx;omega)) (⟨_,rfl,rfl,bT.size,xN,bT.trans jZ⟩)
 exact trivial
 intro x sK G53 aT akB ar4 hJ hlen
 have aQ:=jx hlen
 obtain⟨q0,aX⟩:=aQ
 subst aX
 intro v2 d2
 intro v4 d4
 intro H3 d13
 have PV:=PV.go akB
 change OW _ _ _ _ _ (bo (bm _ x _) (zZ 59 [_,_,_,_,_,_,_,_,_,_,_,_,_,_]++[(17,_)])) _
 obtain⟨bk,sH,bS,DV,fp,bT⟩:=hJ
 have wI:q0=_:=sH
 subst wI
 subst bS
 obtain⟨a4,n4,c4,B8,PS⟩:=d13
 subst B8
 refine cL mV rfl rfl rfl fp rfl λym DY fp du=>?_
 have ix:=fp.lt
 have yl:=bT.since DY (λx hx=>.inr (by simp at hx;omega))
 have av:=mr.tT yl sm DV ix
 have hR:=uX.more yl sm DV (λy hy=>vj y (mr.sub hy))
 have PT:∀x,x∈bk::L1->x∈L1++[bk]:=(λx hx=>by simp at hx⊢;rcases hx with h|h;(·exact .inr h);(·exact .inl h))
 have wT:bk∈bk::L1:=sm
 have FL:bk∉E:=(λhx=>by have:=vj bk (mr.sub hx);omega)
 have iq:=(Iz.fresh (L':=bk::L1) (λx hx=>by rcases mC.1 hx with rfl|hx;(·exact .inr DV);(·exact .inl hx))).ext yl
 have BU:eU (bk::L1) ym (.slice FD e.au.ak.length FE) e.au.ak:=(by obtain⟨_,_,_,e9,_,z8⟩:=cY (nL.go hR.fr);cases e9;exact z8)
 have fV:gX (bk::L1) ym 166 bk (rW m.aJ P.w [bz A,dC (bz B)] FR e (dC (bz B)) [] (iF t.sc 3 (FR.take 0) [])):=⟨_,_,_,_,_,_,fp,⟨(bP.aD PS DY sm).fresh (λx hx=>.inl (PT x hx)),.nil _ _ _,.nil _ _ _,.nil _ _ _,.nil _ _ _,BU⟩⟩
 refine W ?_
 refine dR (λi:Nat=>[(0,.pointer (some ⟨b,0,none⟩)),(1,.pointer (some ⟨bt,0,none⟩)),(7,.slice (some ⟨b1,eX,none⟩) 6 cr),(8,str A.text),(10,str (((((([40,62,32]:ai)++A.text)++[32])++B.text)++[41]))),(11,.slice PL FR.length PM),(13,str (bz (.op true A B))),(15,.int .i64 (P.r:Int)),(16,str P.w),(17,.pointer (some ⟨bk,0,none⟩)),(18,.int .i64 (i:Int))]) (λi w'=>aj [bk] ym w'∧i<=FR.length∧gX (bk::L1) w' 166 bk (rW m.aJ P.w [bz A,dC (bz B)] FR e (dC (bz B)) [] (iF t.sc 3 (FR.take i) []))) (λi=>FR.length-i) (0) (⟨rfl,rfl,rfl,rfl,rfl,rfl,rfl,rfl,rfl,rfl,rfl⟩) (⟨aj.refl _ _,Nat.zero_le _,fV⟩) λgg Lp XD hI=>?_
 obtain⟨di,hi,fV⟩:=hI
 have av:=av.aF di sm
 have hR:=hR.aD di wT FL
 have iq:=bP.aD iq di sm
 refine W ?_
 refine zc rfl (λh1=>?_) (λh1=>?_)
 have mq:gg<FR.length:=(by simp at h1;omega)
 have DQ:=List.mem_of_getElem? (ik mq)
 have aQ:=hR.tk hT eh
 obtain⟨u1,u3,u4,u5,u6,u8,dd,hC⟩:=aQ
 have DW:=hC.aL
 have DX:=hC.types
 have aQ:=oy iq mq
 obtain⟨b9,vq,e9,jE⟩:=aQ
 cases e9
 refine WZ ?_
 apply dV dv 19 [79,80,81,82,83,84,85,86,87,88,89,90,91,92,93,94,95,96,97] [[],[],[0,1],[2],[],[4],[],[6],[7],[8],[],[10],[11],[12],[],[],[14,15],[16],[9,13,17]] (it [_,_,_,_,_,_,_,_,_,_,_,_,_,_,_,_,_,_,_]) de rfl
 intro wd aC
 refine VA ?_
 refine vk aC (λx Ce D1=>?_) ?_
 refine bI D1 DW DX λDW DX=>?_
 refine aA (HM (jU t.sc) (pB t.sc) (by simp[jU,pB]) (by simp[jU];omega) (bD FR gg) _ _ _ _ Ce DW DX) ?_
 rintro v57 PW ⟨akD,Cf⟩
 have XE:=Cf.size
 have eZ:=akD
 rw[Pv (eT _ DQ).2] at eZ
 subst eZ
 exact pk Cf
 exact trivial
 intro x FM Cc
 refine cJ Cc av fV di λav fV di=>?_
 change OW _ _ _ _ _ (bo (bm _ x _) (zZ 79 [_,_,_,_,_,_,_,_,_,_,_,_,_,_,_,_,_,_,_])) _
 refine aA (FG (rW m.aJ P.w [bz A,dC (bz B)] FR e (dC (bz B)) [] (iF t.sc 3 (FR.take gg) [])) (bD FR gg) (3+gg) (kt t.sc (bD FR gg)) (by show(iF t.sc 3 (FR.take gg) []).length<100000;rw[zk,List.length_take];omega) (bk::L1) bk FM wT av.dj fV) ?_
 rintro v87 ID ⟨fV,o6⟩
 have akl:=o6.size
 refine W ?_
 exact⟨gg+1,⟨rfl,rfl,rfl,rfl,rfl,rfl,rfl,rfl,rfl,rfl,rfl⟩,⟨di.trans o6,om,by rw[Xo mq];exact fV⟩,om⟩
 have BE:gg=FR.length:=(by simp at h1;omega)
 subst BE
 rw[List.take_length] at fV
 have PV:=kx.go hR.fr
 have FQ:=bK.go hR.fr
 have PX:=nL.go hR.fr
 refine WZ ?_
 apply dV dv 9 [99,100,101,102,103,104,105,106,107] [[],[0],[1],[],[3],[4],[5],[2,6],[7]] (it [_,_,_,_,_,_,_,_,_]) de rfl
 intro wd aC
 refine VA ?_
 refine vk aC (λx Ce D1=>?_) ?_
 refine zi (i:=5) cD aM rfl rfl ((show 5<6 from om)) ?_
 exact pv
 refine VA ?_
 refine vk aC (λx Ce D1=>?_) ?_
 refine zi (i:=1) cD aM rfl rfl ((show 1<6 from om)) ?_
 exact pv
 refine VA ?_
 refine vk aC (λx Ce D1=>?_) ?_
 have PX:=PX.ext D1
 refine aA (ahg f e.n e (lR _) om Xz _ _ Ce PX) ?_
 rintro _ PW ⟨rfl,Cf⟩
 have XE:=Cf.size
 exact pk Cf
 exact VZ
 intro x FM Cc
 refine gY Cc av hR FQ fV λav hR FQ fV=>?_
 change OW _ _ _ _ [] (bo (bm _ x _) (zZ 99 [_,_,_,_,_,_,_,_,_])) _
 have lq:=aj.refl [bk] FM
 refine W ?_
 refine iS (λ_:Unit=>[(0,.pointer (some ⟨b,0,none⟩)),(7,.slice (some ⟨b1,eX,none⟩) 6 cr),(8,str A.text),(15,.int .i64 (P.r:Int)),(17,.pointer (some ⟨bk,0,none⟩))]) (λ_ ww=>aj [bk] FM ww∧gX (bk::L1) ww 166 bk (rW m.aJ P.w [bz A,dC (bz B)] FR e (dC (bz B)) (vm f A B e P.w) (sQ t.sc FR f A B e))) ?_ ?_
 refine zc rfl (λh2=>?_) (λh2=>?_)
 have eD:0<j9 f e:=(by simp at h2;omega)
 have cX:=av.dj
 refine zr<|zm<|zm<|lk bg ba rfl rfl rfl rfl λID FN akE ar5=>cJ FN FQ fV lq λFQ fV lq=>?_
 refine WZ ?_
 have xL:bf (bk::L1) ID _ [bz (.op true A B),P.w]:=aK.dO [bz (.op true A B),P.w] akE (λhx=>by have:=cX _ hx;omega)
 obtain⟨u1,u3,u4,u5,u6,u8,fp,tV⟩:=fV
 refine gD (o:=3) mW rfl rfl rfl fp rfl λwV Ls fp du=>?_
 have tV:=tV.aD Ls sm
 have xL:=bP.aD xL Ls sm
 have fV:gX (bk::L1) wV 166 bk (rW m.aJ P.w [bz A,dC (bz B)] FR e (dC (bz B)) [bz (.op true A B),P.w] (iF t.sc 3 FR [])):=⟨u1,_,u4,u5,u6,u8,fp,⟨tV.regs,xL,tV.aL,tV.at_,tV.types,tV.ak⟩⟩
 have FQ:=FQ.aD Ls sm
 have Ih:=lq.trans Ls
 have D3:∀x,x∈bk::L1->x<wV.heap.size:=(λx hx=>by have:=cX x hx;omega)
 refine aV<|jF<|zm<|zi (i:=1) cD aM rfl rfl ((show 1<6 from om))<|WZ ?_
 refine aA (aks (rW m.aJ P.w [bz A,dC (bz B)] FR e (dC (bz B)) [bz (.op true A B),P.w] (iF t.sc 3 FR [])) f (3+FR.length+2) (.op true A B) _ ql (by show(iF t.sc 3 FR []).length<100000;rw[zk];omega) (bk::L1) bk wV wT D3 fV) ?_
 rintro v87 XF ⟨fV,o6⟩
 have Ih:=Ih.trans o6
 refine W ?_
 exact⟨(),⟨rfl,rfl,rfl,rfl,rfl⟩,Ih,by unfold sQ vm;rw[iP eD,iP eD];exact fV⟩
 have eD:¬0<j9 f e:=(by simp at h2;omega)
 refine WZ ?_
 exact⟨(),⟨rfl,rfl,rfl,rfl,rfl⟩,aj.refl _ _,by unfold sQ vm;rw[iN eD,iN eD];exact fV⟩
 intro gu ID e96 hI
 obtain⟨XG,fV⟩:=hI
 have av:=av.aF XG sm
 have hR:=hR.aD XG wT FL
 have ar7:=bY.go hR.fr
 refine zr<|zm<|zi (i:=2) cD aM rfl rfl ((show 2<6 from om))<|W ?_
 refine aA (FG (rW m.aJ P.w [bz A,dC (bz B)] FR e (dC (bz B)) (vm f A B e P.w) (sQ t.sc FR f A B e)) ax 1 A (by show(sQ t.sc FR f A B e).length<100000;unfold sQ;split;(·rw[lA,zk];simp;omega);(·rw[zk];omega)) (bk::L1) bk ID wT av.dj fV) ?_
 rintro v90 wV ⟨fV,uR⟩
 have av:=av.aF uR sm
 have hR:=hR.aD uR wT FL
 have fV:gX (bk::L1) wV 166 bk (rW m.aJ P.w [bz A,dC (bz B)] FR e (dC (bz B)) (vm f A B e P.w) ((sQ t.sc FR f A B e)++[(ax,1,A)])):=fV
 have Lc:P.m.bJ.length<100000:=(by rw[Ix];exact fL)
 have aQ:=av.open
 obtain⟨vb,vt,vc,vy,gb,gt,gc,gy,ye,hS⟩:=aQ
 have aQ:=hS.apart
 obtain⟨zP,nQ,wP,mO,wQ,uV⟩:=aQ
 obtain⟨u1,u3,u4,u5,u6,u8,IB,tV⟩:=fV
 have bj:dP gt.toList wV b [vb,vt,.int .i64 ((P.m).count:Int),.bool (P.m).wide,vc,vy].toArray 164:=⟨ye,λhx=>(mO b hx).2.1 rfl⟩
 have fp:dP gt.toList wV bk (qf (rW m.aJ P.w [bz A,dC (bz B)] FR e (dC (bz B)) (vm f A B e P.w) ((sQ t.sc FR f A B e)++[(ax,1,A)])) u1 u3 u4 u5 u6 u8).toArray 166:=⟨IB,λhx=>(mO bk hx).1 sm⟩
 have qq:eW gt.toList wV:=(λx hx=>hS.cF x (hS.mem.2 (by simp[hx])))
 have B9:∀x,x∈gt.toList->x∈(bk::L1):=(λx hx=>hS.mem.2 (by simp[hx]))
 refine W ?_
 apply jV dv gt.toList 8 (rA 128 8) (rA 128 8) [[],[],[1],[2],[3],[],[5],[4,6]] [Ie.v _,Ie.v _,Ie.v _,Ie.v _,Ie.v _,Ie.v _,Ie.p (fun(G:List Nat) (v:Value) (ww:World)=>∃bb,v= .slice (some ⟨bb,0,none⟩) 1 1∧dP G ww bb (qf (rW m.aJ P.w [bz A,dC (bz B)] FR e (dC (bz B)) (vm f A B e P.w) ((sQ t.sc FR f A B e)++[(ax,1,A)])) u1 u3 u4 u5 u6 u8).toArray 166),Ie.e 0] [7] [fun(G:List Nat) (vs:List Value) (ww:World)=>G=gt.toList∧aj [] wV ww,fun(G:List Nat) (vs:List Value) (ww:World)=>∃g2,dL (gt.toList++(g2.toList++(bk::L1))) ww 166 12 (vs.getD 0 undef) g2 (((P.m).bJ++[(rW m.aJ P.w [bz A,dC (bz B)] FR e (dC (bz B)) (vm f A B e P.w) ((sQ t.sc FR f A B e)++[(ax,1,A)]))]).map Tk.enc)∧aj gt.toList wV ww∧(g2=gt∨∃x,g2=some x∧wV.heap.size<=x)] de rfl qq (by exact⟨λG v w G' w' ⟨bb,e,h⟩ k=>⟨bb,e,h.go k⟩,trivial⟩) (by exact⟨λG vs w w' ⟨h1,h2⟩ k=>⟨h1,h2.ext k⟩,λG vs w w' ⟨g2,h1,h2,h3⟩ k=>⟨g2,h1.ext k,h2.ext k,h3⟩,trivial⟩) (⟨rfl,aj.refl _ _⟩)
 refine FA ?_
 refine vf (λx XF G98 aT akG XH=>?_) ?_
 refine tE [_] [qf (rW m.aJ P.w [bz A,dC (bz B)] FR e (dC (bz B)) (vm f A B e P.w) ((sQ t.sc FR f A B e)++[(ax,1,A)])) u1 u3 u4 u5 u6 u8] AR mV rfl rfl rfl rfl rfl rfl rfl rfl rfl λw99 akI akJ Xx=>?_
 exact ff akI (⟨_,rfl,akJ.o XH⟩)
 refine ve 0 (λx XF G98 aT akG XH hJ hlen=>?_) ?_
 have aX:=jw hlen
 subst aX
 intro v6 d6
 obtain⟨bb,e6,fT⟩:=d6
 subst e6
 obtain⟨bS,bT⟩:=hJ
 subst bS
 have zh:=(hS.ta.any bT).sub (L':=gt.toList++(bk::L1)) (λx hx=>.inl (by rcases mA.1 hx with h|h;(·exact B9 x h);(·exact h)))
 have Cb:=tV.ext bT
 refine De (L:=(bk::L1)) (row:=Tk.enc (rW m.aJ P.w [bz A,dC (bz B)] FR e (dC (bz B)) (vm f A B e P.w) ((sQ t.sc FR f A B e)++[(ax,1,A)]))) AR mV rfl rfl rfl rfl rfl rfl zh rfl fT.all (λu hu=>List.all_eq_true.1 Cb.one u hu) (Cb.go ((Fr.refl _ _).to (L2:=gt.toList++(bk::L1)) (λx hx=>.inl (by rcases mA.1 hx with h|h;(·exact B9 x h);(·exact h))))).CC (by rw[List.length_map];omega) λv9 g9 w99 cU uY fj=>?_
 exact fe g9.toList (⟨uY.aF,λx hx=>by rcases fj with h|h;(·rw[h] at hx;exact .inl hx);(·rw[h] at hx;simp at hx;right;omega)⟩) ((λx hx=>cU.lt x hx)) (⟨g9,by rw[List.map_append];exact cU,bT.any.trans uY.aF,fj.imp id (λh=>⟨_,h,bT.size⟩)⟩)
 exact trivial
 intro x ar8 ar9 aT akK asa hJ hlen
 have aQ:=jx hlen
 obtain⟨q0,aX⟩:=aQ
 subst aX
 intro v6 d6
 have bj:=bj.go akK
 change OW _ _ _ _ _ (bo (bm _ x _) (zZ 128 [_,_,_,_,_,_,_,_])) _
 obtain⟨g2,cU,ey,iT⟩:=hJ
 have aQ:=hS.GJ cU ey iT
 obtain⟨L3,fJ,jD⟩:=aQ
 have aQ:=cU.len
 obtain⟨a3,c3,e3⟩:=aQ
 have e4:q0=_:=e3
 subst e4
 have bj:aK _ b [vb,vt,.int .i64 ((P.m).count:Int),.bool (P.m).wide,vc,vy].toArray 164:=ye.aF ey (λhx=>(mO b hx).2.1 rfl)
 refine W ?_
 refine gD (o:=1) JE rfl rfl rfl bj rfl λakL XI bj du=>?_
 have fJ:=fJ.aF XI sm
 have av:dK t8 (bk::E) L3 akL b true {P.m with bJ:=(P.m).bJ++[(rW m.aJ P.w [bz A,dC (bz B)] FR e (dC (bz B)) (vm f A B e P.w) ((sQ t.sc FR f A B e)++[(ax,1,A)]))]}:=⟨_,_,_,_,_,_,_,_,bj,fJ⟩
 have hR:=(hR.add jD ey (λx hx wU=>(mO x hx).1 (by simp[wU]))).aD XI (fJ.mem.2 (.inr (.inl rfl))) (λwU=>nQ (by simp[wU]))
 rw[Ix] at av
 have aQ:=av.drop
 obtain⟨L4,PU,av⟩:=aQ
 have hR:=hR.sub (L2:=L4) (λx hx=>by rw[PU];simp[hx])
 refine W ?_
 exact⟨_,rfl,rfl,L4,av,hR⟩
theorem IG {a:ai} (hs:ka s) (ht:m.types.length<1000):(cm m s a).1.types.length<=m.types.length+1∧(cm m s a).1.code.length<=m.code.length+1∧(cm m s a).1.count=m.count∧(cm m s a).1.bJ=m.bJ∧(cm m s a).2<1000:=by
 unfold cm
 split
 ·exact⟨Nat.le_succ _,Nat.le_succ _,rfl,rfl,Hv hs a⟩
 ·exact⟨by simp[Mk.df,Mk.cE],by simp[Mk.df,Mk.cE],rfl,rfl,ht⟩
theorem XJ (h:ai):gw h=(decide (h=[102,115,116])||decide (h=[115,110,100])):=rfl
theorem akM {T:Ty} (bh:e.ok) (hu:gw e.head=true) {p:Mk×Nat} (hp:p=cm m s (nth e.au.ak 1).aw):
  mY m s T e=((p.1.df (bz T)).cE tl [aU p.1.types.length,aU p.2,if e.head=rF then[49] else[48]],p.1.types.length):=by
 cases e with
 |un hd a=>rw[hp];show((_:Mk),_)=_;rw[show nth (Ex.un hd a).au.ak 1=a.au from rfl,Ex.rI];rfl
 |«at» s=>exact absurd (show gw []=true from hu) de
 |ite a b c=>exact absurd (show gw gJ=true from hu) de
 |lt x a b=>exact absurd (show gw gv=true from hu) de
 |fn f x A B b=>exact absurd (show gw gV=true from hu) de
 |bi hd a b=>exact absurd bh.1 (by rcases BM hd with h|h|h|h|h|h<;>simp_all[Ex.head]<;>rfl)
theorem akN {T:Ty} (bh:e.ok) (eF:e.iQ=false) (hf:e.head≠gV) (hu:gw e.head=false) {p q:Mk×Nat} (hp:p=cm m s (nth e.au.ak 1).aw) (hq:q=cm p.1 s (nth e.au.ak 2).aw):
  mY m s T e=((q.1.df (bz T)).cE (qR e.head) [aU q.1.types.length,aU p.2,aU q.2],q.1.types.length):=by
 cases e with
 |un hd a=>exact absurd bh.1 (by simp[Ex.head] at hu;simp[hu])
 |«at» s=>cases eF
 |ite a b c=>rw[hq,hp];rw[show nth (Ex.ite a b c).au.ak 1=a.au from rfl,show nth (Ex.ite a b c).au.ak 2=b.au from rfl,Ex.rI,Ex.rI];rfl
 |lt x a b=>rw[hq,hp];rw[show nth (Ex.lt x a b).au.ak 1=bM x from rfl,show nth (Ex.lt x a b).au.ak 2=a.au from rfl,Ex.rI];rfl
 |fn f x A B b=>exact absurd rfl hf
 |bi hd a b=>rw[hq,hp];rw[show nth (Ex.bi hd a b).au.ak 1=a.au from rfl,show nth (Ex.bi hd a b).au.ak 2=b.au from rfl,Ex.rI,Ex.rI];rfl
theorem akO (bh:e.ok) (hf:e.head≠gV):((nth e.au.ak 1).aw).length<=5∧((nth e.au.ak 2).aw).length<=5:=by
 cases e with
 |«at» s=>simp[Ex.au,nth,aq.ak,aq.aw,bM]
 |un hd a=>rw[show nth (Ex.un hd a).au.ak 1=a.au from rfl,Ex.rI];have:=oR bh.2;exact⟨by omega,by simp[Ex.au,nth,aq.ak,aq.aw]⟩
 |bi hd a b=>rw[show nth (Ex.bi hd a b).au.ak 1=a.au from rfl,show nth (Ex.bi hd a b).au.ak 2=b.au from rfl,Ex.rI,Ex.rI];have:=oR bh.2.1;have:=oR bh.2.2;omega
 |ite a b c=>rw[show nth (Ex.ite a b c).au.ak 1=a.au from rfl,show nth (Ex.ite a b c).au.ak 2=b.au from rfl,Ex.rI,Ex.rI];have:=oR bh.1;have:=oR bh.2.1;omega
 |lt x a b=>rw[show nth (Ex.lt x a b).au.ak 1=bM x from rfl,show nth (Ex.lt x a b).au.ak 2=a.au from rfl,Ex.rI];have:=E4 bh.1;have:=oR bh.2.1;exact⟨by show x.length<=5;omega,om⟩
 |fn f x A B b=>exact absurd rfl hf
theorem akP (h:ai):(qR h).length<=5:=by
 unfold qR
 split
 ·decide
 ·split
  ·decide
  ·split<;>decide
theorem akQ (bh:e.ok) (eF:e.iQ=false):1<e.au.ak.length∧(gw e.head=false->2<e.au.ak.length):=by
 cases e with
 |«at» s=>cases eF
 |un hd a=>exact⟨by simp[Ex.au,aq.ak],λh=>absurd bh.1 (by simp[Ex.head] at h;simp[h])⟩
 |_=>exact⟨by simp[Ex.au,aq.ak],λ_=>by simp[Ex.au,aq.ak]⟩
theorem akR (t:Tk) (m:Mk) (e:Ex) (T:Ty) (bh:e.ok) (eY:bA e (eH t.sc)=some T) (hs:ka t.sc) (hb:5*t.sc.length+2*e.n<=240) (rN:t.on<1000) (ht:m.types.length+8*e.n<=1000) (hc:m.code.length<=7000) (vh:m.count<1000) (fL:m.bJ.length<90000) 
  (E L:List Nat) (b bt:Nat) (v:Value) (w:World) (h:dK t8 E L w b true m) (hT:gX L w 166 bt t) (eh:bt∈E) (hv:bC L w v e.au):
  bw Tryz.prog 190 [.pointer (some ⟨b,0,none⟩),.pointer (some ⟨bt,0,none⟩),v] w λr w'=>r= .int .i64 ((mY m t.sc T e).2:Int)∧∃L',dK t8 E L' w' b true (mY m t.sc T e).1∧dX E L w L' w':=by
 obtain⟨ar,nr,cr,rfl,qB,aO⟩:=cY hv
 subst qB
 have lY:=h.dj
 have sO:=l5 hs.types eY
 have EY:=qj sO
 have hep:=e.pos
 have av:=h
 have hR:=dX.refl E L w
 have gz:bC L w _ e.au:=hv
 obtain⟨p,hp⟩:∃p,p=cm m t.sc (nth e.au.ak 1).aw:=⟨_,rfl⟩
 obtain⟨q,hq⟩:∃q,q=cm p.1 t.sc (nth e.au.ak 2).aw:=⟨_,rfl⟩
 have z8:p.1.types.length<=m.types.length+1∧p.1.code.length<=m.code.length+1∧p.1.count=m.count∧p.1.bJ=m.bJ∧p.2<1000:=by rw[hp];exact IG hs om
 have IH:q.1.types.length<=p.1.types.length+1∧q.1.code.length<=p.1.code.length+1∧q.1.count=p.1.count∧q.1.bJ=p.1.bJ∧q.2<1000:=by rw[hq];exact IG hs om
 obtain⟨ptl,pcl,_,_,p2⟩:=z8
 obtain⟨qtl,qcl,_,_,q2⟩:=IH
 refine bU [.tmp 6] 84 Tryz.func190 rfl adk rfl rfl ?_
 refine zr<|eK rfl λw1 aI cu dh=>bI aI av hR λav hR=>?_
 refine W ?_
 have cu:dP L w1 w.heap.size [str e.au.aw,.slice ar e.au.ak.length cr].toArray 74:=⟨cu,λhx=>by have:=lY _ hx;omega⟩
 refine zc rfl (λh1=>?_) (λh1=>?_)
 have aQ:∃a,e= .at a:=(by cases e with|«at» s=>exact⟨s,rfl⟩|_=>exact absurd rfl h1)
 obtain⟨a0,rfl⟩:=aQ
 refine W ?_
 refine aA (DN t a0 m (by have:=N0 (show qL a0=true from bh);omega) om om om E L b bt _ _ _ w1 av (hR.tk hT eh) eh) ?_
 rintro v20 w2 ⟨pT,L1,av,bF⟩
 subst pT
 have hR:=hR.go bF
 refine W ?_
 exact⟨_,rfl,rfl,L1,av,hR⟩
 have eF:e.iQ=false:=(by cases hh:e.iQ;rfl;exact absurd ((wu bh).2 hh) h1)
 have aQ:=Ex.ak eF
 obtain⟨HP,nj,ju,oX⟩:=aQ
 have aQ:=akQ bh eF
 obtain⟨fD,iG⟩:=aQ
 have aQ:=fg aO (i:=0) om
 obtain⟨b0,wj,xI,xJ,e0,eD,_⟩:=aQ
 cases e0
 rw[ju] at eD
 have aQ:=fg aO (i:=1) om
 obtain⟨b1,eX,gR,gF,e1,bK,cN⟩:=aQ
 cases e1
 refine WI ?_
 refine zi (i:=0) cD aM rfl rfl ((show 0<_ from om))<|zf lK rfl<|zl fo rfl ((eD.go hR.fr).cells 0 _ rfl)<|W ?_
 refine zc rfl (λh2=>?_) (λh2=>?_)
 have aQ:=KC bh h2
 obtain⟨nf,nx,tA,tB,eb,rfl⟩:=aQ
 have aQ:=Ve (m:=m) hs bh eY hb vh
 obtain⟨_,nq,BK⟩:=aQ
 refine W ?_
 refine aA (aku t m nf nx tA tB eb bh om (λy hy=>by rcases(CS y _ [] []).1 hy with h9|h9;(·simp at h9);(·exact qd eY h9.1)) om hs om BK rN (by simp only[Ex.n] at ht;omega) om vh om E L b bt _ w1 av (hR.tk hT eh) eh (gz.go hR.fr)) ?_
 rintro v31 w2 ⟨Aa,L1,av,bF⟩
 subst Aa
 have hR:=hR.go bF
 refine W ?_
 exact⟨_,rfl,rfl,L1,av,hR⟩
 have rO:e.head≠gV:=h2
 have hsh:=akO bh rO
 refine W ?_
 refine aA (K8 t e bh om hs.types om _ L bt w1 av.dj (hR.tk hT eh) (gz.go hR.fr)) ?_
 rintro v2 w2 ⟨gz,az⟩
 have dx:=az.size
 refine cJ az av hR cu λav hR cu=>?_
 have eZ:=gz
 rw[eY] at eZ
 subst eZ
 refine aA (wO T om w2) ?_
 rintro _ w3 ⟨rfl,aH⟩
 have fh:=aH.size
 refine cJ aH av hR cu λav hR cu=>?_
 refine WL ?_
 refine zl iW rfl (cu.at rfl)<|WL ?_
 refine zL fc aM rfl ((bK.go hR.fr).cells) rfl<|aA (DN t (nth e.au.ak 1).aw m om om om om E L b bt _ _ _ w3 av (hR.tk hT eh) eh) ?_
 rintro v20 w4 ⟨pT,L1,av,bF⟩
 rw[<-hp] at pT av
 subst pT
 have hR:=hR.go bF;have cu:=cu.go bF.fr
 refine aA (iH (p.2+1) p.2 om om w4) ?_
 rintro _ w5 ⟨rfl,aN⟩
 have iR:=aN.size
 refine cJ aN av hR cu λav hR cu=>?_
 refine W ?_
 apply oP 3 46 49 rfl oQ
 intro _
 exact oQ
 intro xx
 refine aV<|zc rfl (λh4=>?_) (λh4=>?_)
 have hu:gw e.head=true:=(by rw[XJ];exact h4)
 rw[akM bh hu hp]
 refine zr<|zm<|zm<|aA (sL (bz T) p.1 om E L1 b true w5 av) ?_
 rintro v52 w6 ⟨Lo,L2,av,bF⟩
 subst Lo
 have hR:=hR.go bF
 refine W ?_
 refine iS (λ_:Unit=>[(0,.pointer (some ⟨b,0,none⟩)),(9,str (aU p.2)),(10,.int .i64 (p.1.types.length:Int)),(11,str (if e.head=rF then[49] else[48]))]) (λ_ w'=>aj [] w6 w') ?_ ?_
 refine zc rfl (λh5=>?_) (λh5=>?_)
 have hz:e.head=rF:=h5
 refine W ?_
 exact⟨(),⟨rfl,rfl,rfl,by rw[iP hz];rfl⟩,aj.refl _ _⟩
 have hz:¬e.head=rF:=h5
 refine WZ ?_
 exact⟨(),⟨rfl,rfl,rfl,by rw[iN hz];rfl⟩,aj.refl _ _⟩
 intro gu w7 e7 hI
 have av:=av.ext hI;have hR:=hR.ext hI
 refine zr<|zm<|zm<|aA (iH (p.1.types.length+1) p.1.types.length om om w7) ?_
 rintro _ w8 ⟨rfl,cg⟩
 have wH:=cg.size
 refine bI cg av hR λav hR=>?_
 have cX:=av.dj
 have fX:(if e.head=rF then([49]:ai) else[48]).length<=1:=(by split<;>decide)
 refine zm<|zm<|pJ bg ba rfl rfl rfl rfl rfl λw9 aB Ir du=>bI aB av hR λav hR=>?_
 refine aA (k7 tl [aU p.1.types.length,aU p.2,if e.head=rF then[49] else[48]] (mP de sm (by intro z hz;simp at hz;rcases hz with rfl|rfl|rfl;(·exact mu om);(·exact mu om);(·omega))) (p.1.df (bz T)) (show p.1.code.length<100000 from om) E L2 b _ w9 av (aK.dO [aU p.1.types.length,aU p.2,if e.head=rF then[49] else[48]] Ir (λhx=>by have:=cX _ hx;omega))) ?_
 rintro XK cv ⟨L3,av,bF⟩
 have hR:=hR.go bF
 refine W ?_
 exact⟨_,rfl,rfl,L3,av,hR⟩
 have hu:gw e.head=false:=(by rw[XJ];exact h4)
 have iG:=iG hu
 have aQ:=fg aO (i:=2) om
 obtain⟨b2,lP,iI,iy,e2,bY,_⟩:=aQ
 cases e2
 rw[akN bh eF rO hu hp hq]
 refine WL ?_
 refine zl iW rfl (cu.at rfl)<|WL ?_
 refine zL fc aM rfl ((bY.go hR.fr).cells) rfl<|aA (DN t (nth e.au.ak 2).aw p.1 om om om om E L1 b bt _ _ _ w5 av (hR.tk hT eh) eh) ?_
 rintro v20 w6 ⟨pT,L2,av,bF⟩
 rw[<-hq] at pT av
 subst pT
 have hR:=hR.go bF
 refine aA (iH (q.2+1) q.2 om om w6) ?_
 rintro _ w7 ⟨rfl,bW⟩
 have lp:=bW.size
 refine bI bW av hR λav hR=>?_
 refine W ?_
 refine aA (sL (bz T) q.1 om E L2 b true w7 av) ?_
 rintro v52 w8 ⟨Lo,L3,av,bF⟩
 subst Lo
 have hR:=hR.go bF
 refine W ?_
 refine aA (ajr e.head w8) ?_
 rintro _ w9 ⟨rfl,aB⟩
 have nA:=aB.size
 refine bI aB av hR λav hR=>?_
 have hol:=akP e.head
 refine zm<|aA (iH (q.1.types.length+1) q.1.types.length om om w9) ?_
 rintro _ cv ⟨rfl,cw⟩
 have zI:=cw.size
 refine bI cw av hR λav hR=>?_
 have cX:=av.dj
 refine zm<|zm<|pJ bg ba rfl rfl rfl rfl rfl λew cR Fp vY=>bI cR av hR λav hR=>?_
 refine aA (k7 (qR e.head) [aU q.1.types.length,aU p.2,aU q.2] (mP om sm (by intro z hz;simp at hz;rcases hz with rfl|rfl|rfl<;>exact mu om)) (q.1.df (bz T)) (show q.1.code.length<100000 from om) E L3 b _ ew av (aK.dO [aU q.1.types.length,aU p.2,aU q.2] Fp (λhx=>by have:=cX _ hx;omega))) ?_
 rintro XK fI ⟨L4,av,bF⟩
 have hR:=hR.go bF
 refine W ?_
 exact⟨_,rfl,rfl,L4,av,hR⟩
end Go.Proofs.YthbhobaiopccaaaGreatDoor
