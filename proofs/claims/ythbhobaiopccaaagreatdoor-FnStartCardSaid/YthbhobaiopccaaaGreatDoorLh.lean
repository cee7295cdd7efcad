/- Lemmas for the law FnStart, no statement of their own: no conditions. -/
import Derived.Test.YthbhobaiopccaaaGreatDoorLg
set_option maxHeartbeats 4000000
set_option linter.unusedVariables false
set_option linter.unusedSimpArgs false
namespace Go.Proofs.YthbhobaiopccaaaGreatDoor
open Go
variable {e:Ex} {x:ai} {b k n:Nat} {E G L:List Nat} {w w' w1:World} {o:Bool} {m:Mk} {s:cE} {P:Pk}
theorem ahz (o:Option Ty):Uo o=eC o:=by cases o<;>rfl
theorem Vm {o:Option Ty} (h:eC o=[]):o=none:=by
 cases o with
 |none=>rfl
 |some T=>exact absurd h T.ne
theorem Vn {o:Option Ty} (h:eC o≠[]):∃T,o=some T:=by
 cases o with
 |none=>exact absurd rfl h
 |some T=>exact⟨T,rfl⟩
def qR (e:Ex) (Γ:Sc):List ai:=e.kids.map λx=>eC (bw x Γ)
theorem ahA {Γ:Sc} (ba:e.ok) (eD:e.iv=false) (h1:e.head≠fV) (h2:e.head≠gF) (hΓ:xF Γ):
  ([]∈qR e Γ∧bw e Γ=none)∨∃Ts,qR e Γ=Ts.map Ty.text∧mf e.head Ts∧bw e Γ=kB e.head Ts∧∀T,T∈Ts->T.n<=16:=by
 cases e with
 |«at» s=>cases eD
 |lt x a b=>exact absurd rfl h1
 |fn f x A B b=>exact absurd rfl h2
 |un h a=>
  show([]∈[eC (bw a Γ)]∧(bw a Γ).bind _=none)∨_
  cases ha:bw a Γ with
  |none=>exact .inl ⟨by simp[eC],rfl⟩
  |some A=>exact .inr ⟨[A],by simp[qR,Ex.kids,ha,eC],.inl ⟨ba.1,A,rfl⟩,by simp[bw,ha,Ex.head],by simpa using lx hΓ ha⟩
 |bi h a b=>
  show([]∈[eC (bw a Γ),eC (bw b Γ)]∧(bw a Γ).bind _=none)∨_
  cases ha:bw a Γ with
  |none=>exact .inl ⟨by simp[eC],rfl⟩
  |some A=>
   cases hb:bw b Γ with
   |none=>exact .inl ⟨by simp[eC],rfl⟩
   |some B=>exact .inr ⟨[A,B],by simp[qR,Ex.kids,ha,hb,eC],.inr (.inl ⟨ba.1,A,B,rfl⟩),by simp[bw,ha,hb,Ex.head],by intro T hT;simp at hT;rcases hT with rfl|rfl;exact lx hΓ ha;exact lx hΓ hb⟩
 |ite a b c=>
  show([]∈[eC (bw a Γ),eC (bw b Γ),eC (bw c Γ)]∧(bw a Γ).bind _=none)∨_
  cases ha:bw a Γ with
  |none=>exact .inl ⟨by simp[eC],rfl⟩
  |some A=>
   cases hb:bw b Γ with
   |none=>exact .inl ⟨by simp[eC],rfl⟩
   |some B=>
    cases hc:bw c Γ with
    |none=>exact .inl ⟨by simp[eC],rfl⟩
    |some C0=>exact .inr ⟨[A,B,C0],by simp[qR,Ex.kids,ha,hb,hc,eC],.inr (.inr ⟨rfl,A,B,C0,rfl⟩),by simp[bw,ha,hb,hc,Ex.head],by intro T hT;simp at hT;rcases hT with rfl|rfl|rfl;exact lx hΓ ha;exact lx hΓ hb;exact lx hΓ hc⟩
theorem Vo {f:ai} {A B:Ty} {Γ:Sc}:eC (bw (.fn f x A B e) Γ)=if(!decide (1+A.n+B.n<=16)||decide (eC (bw e (Γ++[(f,.op true A B),(x,A)]))≠B.text))=true then[] else(Ty.op true A B).text:=by
 show eC (if 1+A.n+B.n<=16 then(bw e (Γ++[(f,.op true A B),(x,A)])).bind λC=>if kA C B then some (.op true A B) else none else none)=_
 by_cases h:1+A.n+B.n<=16
 ·rw[iP h,dT h,Bool.not_true,Bool.false_or]
  cases hC:bw e (Γ++[(f,.op true A B),(x,A)]) with
  |none=>
   have hz:decide (eC none≠B.text)=true:=by simpa[eC] using λh:[]=B.text=>B.ne h.symm
   rw[iP hz];rfl
  |some C0=>
   show eC (if kA C0 B=true then some (.op true A B) else none)=_
   by_cases hq:C0.text=B.text
   ·rw[iP (show kA C0 B=true from dT hq),iN (by simp[eC,hq])];rfl
   ·rw[iN (show¬kA C0 B=true from by unfold kA;simpa using hq),iP (by simp[eC,hq])];rfl
 ·rw[iN h,dF h,iP sm];rfl
theorem ahB (e:Ex) (Γ:Sc):(qR e Γ).length<=3:=by
 rw[qR,List.length_map]
 cases e<;>simp[Ex.kids]
theorem ahC {Γ:Sc} (ba:e.ok) (eD:e.iv=false) (h1:e.head≠fV) (h2:e.head≠gF) (hΓ:xF Γ) (v:Value) (L:List Nat) (w:World) (hv:bc L w v (qR e Γ)):
  bz Tryz.prog 198 [str e.head,v] w λr w'=>r=str (eC (bw e Γ))∧aj [] w w':=by
 rcases ahA ba eD h1 h2 hΓ with⟨hn,hq⟩|⟨Ts,hk,hj,hq,hT⟩
 ·rw[hq];exact ahi e.head (qR e Γ) (by have:=ahB e Γ;omega) hn v L w hv
 ·rw[hq];exact ahv e.head Ts hj hT v L w (hk▸hv)
theorem ahD {Γ:Sc} (h:k<e.kids.length):(qR e Γ).take (k+1)=(qR e Γ).take k++[eC (bw (fL e k) Γ)]:=by
 rw[List.take_add_one]
 simp[qR,fL,gE h]
theorem Vp:∀(m:Nat) (e:Ex),e.n<=m->e.n<=1000->e.ok->∀(Γ:Sc),Γ.length+2*e.n<=100000->xF Γ->∀(v vn vt:Value) (L:List Nat) (w:World),(∀x,x∈L->x<w.heap.size)->bC L w v e.aq->bc L w vn (Γ.map Prod.fst)->bc L w vt (Γ.map λp=>p.2.text)->
  bz Tryz.prog 159 [v,vn,vt] w λr w'=>r=str (eC (bw e Γ))∧aj [] w w':=by
 intro m
 induction m with
 |zero=>intro e h;have:=e.pos;omega
 |succ m ih=>
  intro e hm mJ ba Γ hΓl hΓ v vn vt L w lf hv jI dX
  obtain⟨a,np,c,rfl,hn,aQ⟩:=dj hv
  subst hn
  obtain⟨an,nn,cn,rfl,sG⟩:=dI jI
  obtain⟨ay,ny,Hf,rfl,Ja⟩:=dI dX
  have hK:=aj.refl [] w
  have fj:(Γ.map Prod.fst).length=Γ.length:=by simp
  have iw:(Γ.map λp=>p.2.text).length=Γ.length:=by simp
  have Jm:=GF e
  refine bX [.tmp 6] 132 Tryz.func159 rfl abg rfl rfl ?_
  refine zr<|eu rfl λw1 aI cF db=>gQ aI hK aQ jI dX λhK aQ jI dX=>?_
  refine W ?_
  refine zc rfl (λh1=>?_) (λh1=>?_)
  have aX:∃x,e= .at x:=(by have ha:=(uR ba).1 h1;cases e<;>first|exact⟨_,rfl⟩|cases ha)
  obtain⟨x,rfl⟩:=aX
  refine W ?_
  refine aA (uM _ _) ?_
  rintro _ _ ⟨rfl,rfl⟩
  refine aZ<|zc rfl (λh2=>?_) (λh2=>?_)
  have hq:bw (.at x) Γ=look Γ x:=iP h2
  refine W ?_
  refine aA (GB (Γ.map Prod.fst) (Γ.map λp=>p.2.text) om om x _ _ _ _ w1 jI dX) ?_
  rintro _ w2 ⟨rfl,az⟩
  have dy:=az.size
  have hK:=hK.ext az
  refine W ?_
  have yg:=Up x Γ
  rw[<-fj] at yg
  exact⟨_,rfl,congrArg (λz=>str z) (by rw[hq,<-ahz];exact yg),hK⟩
  have hq:bw (.at x) Γ=some .i:=iN (λhh=>Bool.noConfusion (hh.symm.trans h2))
  refine W ?_
  exact⟨_,rfl,by rw[hq];rfl,hK⟩
  have eD:e.iv=false:=(by cases hh:e.iv;rfl;exact absurd ((uR ba).2 hh) h1)
  obtain⟨GG,mH,ji,wj⟩:=Ex.ak eD
  obtain⟨fO,Ea,Eb⟩:=GD ba eD
  obtain⟨b0,AA,xP,xQ,e0,tO,jW⟩:=eS aQ fO
  cases e0
  have tO:=tO.cells
  refine WI ?_
  refine zi (i:=0) cB aL rfl rfl fO<|W ?_
  refine zc rfl (λh3=>?_) (λh3=>?_)
  obtain⟨nx,ea,eb,rfl⟩:=Ju ba (ji.symm.trans h3)
  have wo:(Ex.lt nx ea eb).n=2+ea.n+eb.n:=rfl
  have Jy:(Ex.lt nx ea eb).aq.ak.length=4:=rfl
  obtain⟨b1,eR,gd,gh,e1,bF,cK⟩:=eS aQ (i:=1) om
  cases e1
  obtain⟨b2,l5,iA,iB,e2,bU,dG⟩:=eS aQ (i:=2) om
  cases e2
  have dG:bC L _ _ ea.aq:=dG
  obtain⟨b3,Cf,pM,pN,e3,dM,dW⟩:=eS aQ (i:=3) om
  cases e3
  have dW:bC L _ _ eb.aq:=dW
  refine WI ?_
  refine zi (i:=2) cB aL rfl rfl ((show 2<4 from om))<|W ?_
  refine aA (ih ea om om ba.2.1 Γ om hΓ _ _ _ L w1 (λx hx=>lL (lf x hx) hK.size) dG jI dX) ?_
  rintro _ w2 ⟨rfl,az⟩
  have dy:=az.size
  refine IS az hK jI dX cF bF dM dW λhK jI dX cF bF dM dW=>?_
  refine W ?_
  refine zc rfl (λh4=>?_) (λh4=>?_)
  have hz:bw ea Γ=none:=Vm h4
  have hq:bw (.lt nx ea eb) Γ=none:=(show(bw ea Γ).bind _=none from by rw[hz];rfl)
  refine W ?_
  exact⟨_,rfl,by rw[hq];rfl,hK⟩
  obtain⟨A,hA⟩:=Vn h4
  have hq:bw (.lt nx ea eb) Γ=bw eb (Γ++[(nx,A)]):=(show(bw ea Γ).bind _=_ from by rw[hA];rfl)
  have hGA:=FP (x:=nx) hΓ (lx hΓ hA)
  have hAt:eC (bw ea Γ)=A.text:=by rw[hA];rfl
  refine WZ ?_
  apply tC cT 18 (rA 41 17++[6]) (rA 41 17++[6]) [[],[0],[1],[2],[],[],[5],[6],[7],[8],[9],[4,10],[],[],[13],[12,14],[3,11,15],[16]] [It.v _,It.v _,It.v _,It.v _,It.v _,It.v _,It.v _,It.v _,It.v _,It.v _,It.p (fun(v:Value) (ww:World)=>bc L ww v [nx]),It.p (fun(v:Value) (ww:World)=>bc L ww v (Γ.map Prod.fst++[nx])),It.v _,It.v _,It.p (fun(v:Value) (ww:World)=>bc L ww v [eC (bw ea Γ)]),It.p (fun(v:Value) (ww:World)=>bc L ww v ((Γ.map λp=>p.2.text)++[eC (bw ea Γ)])),It.v _,It.v _] de (by exact⟨λv w w' h k=>bc.ext h k,λv w w' h k=>bc.ext h k,λv w w' h k=>bc.ext h k,λv w w' h k=>bc.ext h k,trivial⟩)
  intro wd aB
  refine VA ?_
  refine vk aB (λx w3 aH=>?_) ?_
  refine zi (i:=3) cB aL rfl rfl ((show 3<4 from om)) ?_
  exact pv
  refine VA ?_
  refine vk aB (λx w3 aH=>?_) ?_
  refine zi (i:=1) cB aL rfl rfl ((show 1<4 from om)) ?_
  exact pv
  refine VA ?_
  refine vk aB (λx w3 aH=>?_) ?_
  have hK:=hK.ext aH
  refine fF bh bf rfl rfl ?_
  intro w4 aO N7 gC
  have hK:=hK.ext aO
  exact pf aO ((aJ.dK [nx] N7 (λhx=>by have:=lf _ hx;have:=hK.size;have:=aH.size;omega)))
  refine vk aB (λx w3 aH=>?_) ?_
  refine bI aH hK jI λhK jI=>?_
  intro v10 d10
  refine aA (tL (Γ.map Prod.fst) [nx] so _ _ L w3 jI d10 (λx hx=>lL (lf x hx) hK.size)) ?_
  rintro v4 w4 ⟨jU,aO⟩
  have fG:=aO.size
  have jz:=jU
  exact pf aO jz
  refine VA ?_
  refine vk aB (λx w3 aH=>?_) ?_
  have hK:=hK.ext aH
  refine fF bh bf rfl rfl λw4 aO Cb gC=>?_
  have hK:=hK.ext aO
  exact pf aO ((aJ.dK [eC (bw ea Γ)] Cb (λhx=>by have:=lf _ hx;have:=hK.size;have:=aH.size;omega)))
  refine vk aB (λx w3 aH=>?_) ?_
  refine bI aH hK dX λhK dX=>?_
  intro l9 d14
  refine aA (tL (Γ.map λp=>p.2.text) [eC (bw ea Γ)] so (.slice ay ny Hf) _ L w3 dX d14 (λx hx=>lL (lf x hx) hK.size)) ?_
  rintro v4 w4 ⟨jU,aO⟩
  have fG:=aO.size
  have jz:=jU
  exact pf aO jz
  refine vk aB (λx w3 aH=>?_) ?_
  refine bI aH hK dW λhK dW=>?_
  intro v11 d11
  intro AH d15
  refine aA (ih eb om om ba.2.2 (Γ++[(nx,A)]) so hGA _ _ _ L w3 (λx hx=>lL (lf x hx) hK.size) dW (show bc L _ _ ((Γ++_).map _) from by rw[List.map_append];exact d11) (show bc L _ _ ((Γ++[(nx,A)]).map _) from by rw[List.map_append,List.map_singleton,<-hAt];exact d15)) ?_
  rintro _ w4 ⟨rfl,aO⟩
  have fG:=aO.size
  exact pk aO
  exact VZ
  intro x l6 rR
  intro v10 d10
  intro v11 d11
  intro l9 d14
  intro AH d15
  have hK:=hK.ext rR
  change OW _ _ _ _ [] (bm (bg _ x _) (zZ 41 [_,_,_,_,_,_,_,_,_,_,_,_,_,_,_,_,_]++[(6,_)])) _
  refine W ?_
  exact⟨_,rfl,congrArg (λz=>str (eC z)) hq.symm,hK⟩
  have po:e.head≠fV:=λhh=>h3 (ji.trans hh)
  refine W ?_
  refine zc rfl (λh5=>?_) (λh5=>?_)
  obtain⟨nf,nx,tA,tB,eb,rfl⟩:=Jv ba (ji.symm.trans h5)
  have wo:(Ex.fn nf nx tA tB eb).n=3+tA.n+tB.n+eb.n:=rfl
  have JC:(Ex.fn nf nx tA tB eb).aq.ak.length=6:=rfl
  obtain⟨b1,eR,gd,gh,e1,bF,cK⟩:=eS aQ (i:=1) om
  cases e1
  obtain⟨b2,l5,iA,iB,e2,bU,dG⟩:=eS aQ (i:=2) om
  cases e2
  obtain⟨b3,Cf,pM,pN,e3,dM,dW⟩:=eS aQ (i:=3) om
  cases e3
  have dW:bC L _ _ tA.aq:=dW
  obtain⟨b4,ahG,Ni,Nj,e4,jv,pO⟩:=eS aQ (i:=4) om
  cases e4
  have pO:bC L _ _ tB.aq:=pO
  obtain⟨b5,ahH,Ew,Ey,e5,j8,mW⟩:=eS aQ (i:=5) om
  cases e5
  have mW:bC L _ _ eb.aq:=mW
  have hAz:=tA.size
  have hBz:=tB.size
  have Nf:=tA.len
  have Ng:=tB.len
  refine WI ?_
  refine zi (i:=3) cB aL rfl rfl ((show 3<6 from om))<|W ?_
  refine aA (tG tA.aq.size tA.aq (lR _) tA.nZ.wf om (show tA.text.length<=100000000 from om) _ _ w1 dW) ?_
  rintro _ w2 ⟨rfl,az⟩
  have dy:=az.size
  refine aep az hK jI dX cF bF bU jv j8 pO λhK jI dX cF bF bU jv j8 pO=>?_
  have mW:=mW.ext az
  refine WI ?_
  refine zi (i:=4) cB aL rfl rfl ((show 4<6 from om))<|W ?_
  refine aA (tG tB.aq.size tB.aq (lR _) tB.nZ.wf om (show tB.text.length<=100000000 from om) _ _ w2 pO) ?_
  rintro _ w3 ⟨rfl,aH⟩
  have eU:=aH.size
  refine BS aH hK jI dX cF bF bU j8 mW λhK jI dX cF bF bU j8 mW=>?_
  refine W ?_
  refine aA (Uc true tA tB ba.2.2.2.1 ba.2.2.2.2.1 w3) ?_
  rintro _ w4 ⟨rfl,aO⟩
  have fG:=aO.size
  refine BS aO hK jI dX cF bF bU j8 mW λhK jI dX cF bF bU j8 mW=>?_
  have Vq:∀x,x∈L->x<w4.heap.size:=(λx hx=>lL (lf x hx) hK.size)
  refine W ?_
  refine iD (λ_:Unit=>[(10,str (if 1+tA.n+tB.n<=16 then(Ty.op true tA tB).text else[])),(104,.bool (!decide (1+tA.n+tB.n<=16)||decide (eC (bw eb (Γ++[(nf,.op true tA tB),(nx,tA)]))≠tB.text)))]) (λ_ w'=>aj [] w w'∧aj [] w4 w') ?_ ?_
  rcases Classical.em (1+tA.n+tB.n<=16) with kM|kM
  apply tC cT 29 (rA 76 29) (rA 76 29) [[],[0],[1],[2],[2,3],[2,4],[2,5],[2],[2],[2,8],[2,9],[2,10],[2,11],[2],[2,13],[2,14],[2,15],[2,16],[2,12,17],[2,7,18],[2],[2],[2],[2,21,22],[2,20,23],[2,6,19,24],[2],[2,25,26],[2,27]] [It.v _,It.v _,It.v (.bool false),It.v _,It.v _,It.v _,It.v _,It.v _,It.v _,It.v _,It.v _,It.v _,It.v _,It.v _,It.v _,It.v _,It.v _,It.v _,It.p (fun(v:Value) (ww:World)=>bc L ww v [nf,nx]),It.p (fun(v:Value) (ww:World)=>bc L ww v (Γ.map Prod.fst++[nf,nx])),It.v _,It.v _,It.v _,It.p (fun(v:Value) (ww:World)=>bc L ww v [(if 1+tA.n+tB.n<=16 then(Ty.op true tA tB).text else[]),tA.text]),It.p (fun(v:Value) (ww:World)=>bc L ww v ((Γ.map λp=>p.2.text)++[(if 1+tA.n+tB.n<=16 then(Ty.op true tA tB).text else[]),tA.text])),It.v _,It.v _,It.v _,It.v _] de (by exact⟨λv w w' h k=>bc.ext h k,λv w w' h k=>bc.ext h k,λv w w' h k=>bc.ext h k,λv w w' h k=>bc.ext h k,trivial⟩)
  intro wd aB
  refine VA ?_
  refine vc (λx w5 aP=>?_) ?_
  refine WZ ?_
  exact pv (by exact congrArg Value.bool (show(!decide (1+tA.n+tB.n<=16))=false from by rw[dT kM];rfl))
  refine VA ?_
  refine vk aB (λx w5 aP=>?_) ?_
  refine zi (i:=5) cB aL rfl rfl ((show 5<6 from om)) ?_
  exact pv
  refine VA ?_
  refine vk aB (λx w5 aP=>?_) ?_
  refine zi (i:=1) cB aL rfl rfl ((show 1<6 from om)) ?_
  exact pv
  refine VA ?_
  refine vk aB (λx w5 aP=>?_) ?_
  refine zi (i:=2) cB aL rfl rfl ((show 2<6 from om)) ?_
  exact pv
  refine VA ?_
  refine vk aB (λx w5 aP=>?_) ?_
  refine kK bh bf rfl rfl rfl rfl ?_
  intro w6 bO ahI kF
  exact pf bO ((aJ.dK [nf,nx] ahI (λhx=>by have:=Vq _ hx;have:=aP.size;omega)))
  refine vk aB (λx w5 aP=>?_) ?_
  refine bI aP hK jI λhK jI=>?_
  intro wI d18
  refine aA (tL (Γ.map Prod.fst) [nf,nx] so (.slice an nn cn) _ L w5 jI d18 (λx hx=>lL (lf x hx) hK.size)) ?_
  rintro v6 w6 ⟨Cw,bO⟩
  have ox:=bO.size
  have jz:=Cw
  exact pf bO jz
  refine VA ?_
  refine vk aB (λx w5 aP=>?_) ?_
  refine kK bh bf rfl rfl rfl rfl λw6 bO N8 kF=>?_
  exact pf bO ((aJ.dK [(if 1+tA.n+tB.n<=16 then(Ty.op true tA tB).text else[]),tA.text] N8 (λhx=>by have:=Vq _ hx;have:=aP.size;omega)))
  refine vk aB (λx w5 aP=>?_) ?_
  refine bI aP hK dX λhK dX=>?_
  intro U4 d23
  refine aA (tL (Γ.map λp=>p.2.text) [(if 1+tA.n+tB.n<=16 then(Ty.op true tA tB).text else[]),tA.text] so (.slice ay ny Hf) _ L w5 dX d23 (λx hx=>lL (lf x hx) hK.size)) ?_
  rintro v6 w6 ⟨Cw,bO⟩
  have ox:=bO.size
  have jz:=Cw
  exact pf bO jz
  refine vk aB (λx w5 aP=>?_) ?_
  refine bI aP hK mW λhK mW=>?_
  intro JY d19
  intro v24 d24
  refine aA (ih eb om om ba.2.2.2.2.2 (Γ++[(nf,.op true tA tB),(nx,tA)]) so (by have:=FP (x:=nx) (FP (x:=nf) hΓ (T:=.op true tA tB) (show 1+tA.n+tB.n<=16 from kM)) ba.2.2.2.1;simpa using this) _ _ _ L w5 (λx hx=>lL (lf x hx) hK.size) mW (show bc L _ _ (List.map _ (Γ++[(nf,.op true tA tB),(nx,tA)])) from by rw[List.map_append];exact d19) (show bc L _ _ (List.map _ (Γ++[(nf,.op true tA tB),(nx,tA)])) from by rw[iP kM] at d24;rw[List.map_append];exact d24)) ?_
  rintro _ w6 ⟨rfl,bO⟩
  have ox:=bO.size
  exact pk bO
  refine vc (λ_ _ _=>WZ pv) ?_
  refine vk aB (λx w5 aP=>?_) ?_
  refine WZ ?_
  exact pv
  refine vc (λ_ _ _=>WZ pv) ?_
  exact trivial
  intro x ow iJ
  intro wI d18
  intro JY d19
  intro U4 d23
  intro v24 d24
  have hK:=hK.ext iJ
  change OW _ _ _ _ [] (bm (bg _ x _) (zZ 76 [_,_,_,_,_,_,_,_,_,_,_,_,_,_,_,_,_,_,_,_,_,_,_,_,_,_,_,_,_])) _
  refine W ?_
  exact⟨(),⟨rfl,congrArg Value.bool (show decide (eC (bw eb (Γ++[(nf,.op true tA tB),(nx,tA)]))≠tB.text)=_ from by rw[dT kM];rfl)⟩,hK,iJ⟩
  apply kD cT 29 (rA 76 29) (rA 76 29) [[],[0],[1],[2],[2,3],[2,4],[2,5],[2],[2],[2,8],[2,9],[2,10],[2,11],[2],[2,13],[2,14],[2,15],[2,16],[2,12,17],[2,7,18],[2],[2],[2],[2,21,22],[2,20,23],[2,6,19,24],[2],[2,25,26],[2,27]] [It.v _,It.v _,It.v (.bool true),It.v _,It.v _,It.v _,It.v _,It.v _,It.v _,It.v _,It.v _,It.v _,It.v _,It.v _,It.v _,It.v _,It.v _,It.v _,It.v _,It.v _,It.v _,It.v _,It.v _,It.v _,It.v _,It.v _,It.v _,It.v _,It.v _] de rfl
  intro wd aB
  refine VA ?_
  refine vc (λx w5 aP=>?_) ?_
  refine WZ ?_
  exact pv (by exact congrArg Value.bool (show(!decide (1+tA.n+tB.n<=16))=true from by rw[dF kM];rfl))
  refine vc (λx w5 aP=>?_) ?_
  exact cH pv
  refine vk aB (λx w5 aP=>?_) ?_
  exact cH pv
  refine vk aB (λx w5 aP=>?_) ?_
  exact cH pv
  refine vk aB (λx w5 aP=>?_) ?_
  exact cH pv
  refine vc (λx w5 aP=>?_) ?_
  exact cH pv
  refine vc (λx w5 aP=>?_) ?_
  exact cH pv
  refine vk aB (λx w5 aP=>?_) ?_
  exact cH pv
  refine vk aB (λx w5 aP=>?_) ?_
  exact cH pv
  refine vc (λx w5 aP=>?_) ?_
  exact cH pv
  refine vk aB (λx w5 aP=>?_) ?_
  exact cH pv
  refine vc (λx w5 aP=>?_) ?_
  exact cH pv
  refine vk aB (λx w5 aP=>?_) ?_
  exact cH pv
  refine vk aB (λx w5 aP=>?_) ?_
  exact cH pv
  refine vc (λx w5 aP=>?_) ?_
  exact cH pv
  refine vk aB (λx w5 aP=>?_) ?_
  exact cH pv
  refine vk aB (λx w5 aP=>?_) ?_
  exact cH pv
  refine vk aB (λx w5 aP=>?_) ?_
  exact cH pv
  refine vc (λx w5 aP=>?_) ?_
  exact cH pv
  refine vc (λx w5 aP=>?_) ?_
  exact cH pv
  refine vc (λx w5 aP=>?_) ?_
  exact cH pv
  refine vk aB (λx w5 aP=>?_) ?_
  exact cH pv
  refine vk aB (λx w5 aP=>?_) ?_
  exact cH pv
  refine vk aB (λx w5 aP=>?_) ?_
  exact cH pv
  refine vc (λx w5 aP=>?_) ?_
  exact cH pv
  refine vk aB (λx w5 aP=>?_) ?_
  exact cH pv
  refine vc (λ_ _ _=>WZ pv) ?_
  exact trivial
  intro x ow iJ
  have hK:=hK.ext iJ
  change OW _ _ _ _ [] (bm (bg _ x _) (zZ 76 [_,_,_,_,_,_,_,_,_,_,_,_,_,_,_,_,_,_,_,_,_,_,_,_,_,_,_,_,_])) _
  refine W ?_
  exact⟨(),⟨rfl,congrArg Value.bool (show true=_ from by rw[dF kM];rfl)⟩,hK,iJ⟩
  intro gu pK Vr hI
  obtain⟨hK,aC⟩:=hI
  refine zc rfl (λh6=>?_) (λh6=>?_)
  have hq:=(Vo (f:=nf) (x:=nx) (A:=tA) (B:=tB) (e:=eb) (Γ:=Γ)).trans (iP h6)
  refine W ?_
  exact⟨_,rfl,congrArg (λz=>str z) hq.symm,hK⟩
  have hq:=(Vo (f:=nf) (x:=nx) (A:=tA) (B:=tB) (e:=eb) (Γ:=Γ)).trans (iN (by rw[h6];simp))
  have JZ:1+tA.n+tB.n<=16:=(by simp at h6;exact h6.1)
  refine W ?_
  exact⟨_,rfl,congrArg (λz=>str z) ((iP JZ).trans hq.symm),hK⟩
  have qO:e.head≠gF:=λhh=>h5 (ji.trans hh)
  have NT:=cF
  have mM:=hK
  have ahJ:=aQ
  have ahK:=jI
  have ahL:=dX
  have ahM:=tO
  have hky:(qR e Γ).length=e.kids.length:=by simp[qR]
  refine gz<|zr<|fN bh bf λw2 az ahO dJ=>sB az hK aQ jI dX cF tO λhK aQ jI dX cF tO=>?_
  refine W ?_
  refine eH (λq:Nat×Value×Option Nat=>[(1,.slice an nn cn),(2,.slice ay ny Hf),(3,.pointer (some ⟨w.heap.size,0,none⟩)),(12,q.2.1),(13,.int .i64 ((e.from+q.1:Nat):Int))]) (λq ww=>aj [] w1 ww∧cz ww 9 q.2.1 q.2.2 ((qR e Γ).take q.1)∧(∀x,x∈q.2.2.toList->w1.heap.size<=x)∧q.1<=e.kids.length) (λq=>e.kids.length-q.1) ((0,.slice (some ⟨w1.heap.size,0,none⟩) 0 0,some w1.heap.size)) (⟨rfl,rfl,rfl,rfl,by rw[Vc eD po qO];rfl⟩) (⟨az,by simpa using ahO.kL,sm,sm⟩) λgg w3 e3 hI=>?_
  obtain⟨k,vl,gl⟩:=gg
  dsimp only at hI⊢
  obtain⟨dh,hO,fM,hk⟩:=hI
  have hK:=mM.ext dh
  have aQ:=ahJ.ext dh
  have jI:=ahK.ext dh
  have dX:=ahL.ext dh
  have cF:=NT.ext dh
  have tO:=ahM.ext dh
  refine W ?_
  refine zc rfl (λh7=>?_) (λh7=>?_)
  have gK:k<e.kids.length:=om
  have sy:=wj k gK
  obtain⟨b1,eR,gd,gh,e1,bF,cK⟩:=eS aQ (i:=e.from+k) om
  cases e1
  have cK:=cK.eq sy
  have tM:=FN ba gK
  have Bo:=ye gK
  have hkN:=Ca e (k+1)
  have aS:=ahD (Γ:=Γ) gK
  refine W ?_
  refine aA (ih (fL e k) om om tM.1 Γ om hΓ _ (.slice an nn cn) (.slice ay ny Hf) L w3 (λx hx=>lL (lf x hx) hK.size) cK jI dX) ?_
  rintro _ w4 ⟨rfl,aO⟩
  have fG:=aO.size
  refine cG aO hK hO dh λhK hO dh=>?_
  refine fF bh bf rfl rfl λw5 aP ahP iI=>cG aP hK hO dh λhK hO dh=>?_
  refine rM bh bf rfl rfl rfl rfl rfl rfl hO ahP (by rw[List.length_take];omega) λv9 g9 w6 cO aC eA=>?_
  rw[<-aS] at cO
  have Ha:=dh.size
  have dh:=dh.since aC (λx hx=>.inr (fM x hx))
  have hK:=mM.ext dh
  have ahQ:∀x,x∈g9.toList->w1.heap.size<=x:=(λx hx=>by rcases eA with h|h;(·exact fM x (h▸hx));(·rw[h] at hx;simp at hx;omega))
  refine W ?_
  exact⟨(k+1,v9,g9),⟨rfl,rfl,rfl,rfl,congrArg (Value.int .i64) om⟩,⟨dh,cO,ahQ,om⟩,by simp;omega⟩
  have ahR:k=e.kids.length:=by omega
  subst ahR
  rw[List.take_of_length_le (by rw[hky];exact lR _)] at hO
  refine WI ?_
  refine zi (i:=0) cB aL rfl rfl fO<|W ?_
  refine aA ((ji▸ahC ba eD po qO hΓ _ _ w3 hO.rs)) ?_
  rintro _ w4 ⟨rfl,aO⟩
  have fG:=aO.size
  have hK:=hK.ext aO
  refine zA<|aZ<|jJ ?_
  exact⟨_,rfl,rfl,hK⟩
def Cx (s x:ai):Prop:=(l4 s=false->x=[])∧∀e:Ex,bB s=some e.aq->e.ok->e.n<=120->x=eC (bw e [])
theorem Vs {s y:ai} (hx:Cx s x) (hy:Cx s y):x=y:=by
 cases h:l4 s with
 |false=>rw[hx.1 h,hy.1 h]
 |true=>
  obtain⟨e,he,ba,hn⟩:=wh.1 h
  rw[hx.2 e he ba hn,hy.2 e he ba hn]
theorem ahS (h:cI e [] []≠[]):bw e []=none:=by
 cases ht:bw e [] with
 |none=>rfl
 |some T=>
  exfalso
  cases hf:cI e [] [] with
  |nil=>exact h hf
  |cons y ys=>
   have hy:y∈cI e [] []:=by rw[hf];simp
   rcases(BI y e [] []).1 hy with h1|⟨h1,_⟩
   ·cases h1
   ·have:=pC ht h1;simp[look] at this
theorem Vt (s:ai) (w:World):bz Tryz.prog 130 [str s] w λr w'=>(∃x,r=str x∧Cx s x)∧aj [] w w':=by
 have hK:=aj.refl [] w
 refine bX [.tmp 2] 21 Tryz.func130 rfl aaT rfl rfl ?_
 refine W ?_
 refine aA (GA s [] w sm) ?_
 rintro v1 w1 ⟨fX,aI⟩
 have dm:=aI.size
 have hK:=hK.ext aI
 obtain⟨t,tv,rfl,ht,hp⟩:=fX
 obtain⟨pa,pn,pc,rfl,eT,aQ⟩:=dj ht
 refine W ?_
 refine dk aL rfl rfl rfl λw2 az cF dJ=>?_
 have hK:=hK.grow;have hK:=hK.ext az;have ht:=ht.grow;have ht:=ht.ext az
 refine cw aL rfl rfl rfl cF rfl λw3 aH cF gv=>?_
 have hK:=hK.aD aH sx;have ht:=ht.aD aH sx
 refine W ?_
 refine xl (t:=12) rfl (λh1=>?_) (λh1=>?_)
 replace h1:=jG h1
 have hx:l4 s=false:=by simpa using h1
 refine W ?_
 refine zc rfl (λh2=>?_) (λh2=>?_)
 refine W ?_
 exact⟨_,rfl,⟨[],rfl,λ_=>rfl,λe h1 h2 h3=>by rw[wh.2 ⟨e,h1,h2,h3⟩] at hx;cases hx⟩,hK⟩
 simp at h2
 replace h1:=jG h1
 have hx:l4 s=true:=by simpa using h1
 obtain⟨e,he,ba,hn⟩:=wh.1 hx
 have e2:=hp.1 _ he
 subst e2
 have Er:∀{e':Ex},bB s=some e'.aq->e'.ok->e'=e:=(λh1 h2=>qm h2 ba (Option.some.inj (h1.symm.trans he)))
 refine zm<|aA (afS s w3) ?_
 rintro v4 w4 ⟨jU,aO⟩
 have fG:=aO.size
 refine cG aO hK ht cF λhK ht cF=>?_
 obtain⟨b9,rfl,cY⟩:=jU
 refine W ?_
 refine zc rfl (λh3=>?_) (λh3=>?_)
 have fO:b9=false:=(by simpa using h3)
 have mn:cI e [] []≠[]:=(λh=>by have:=cY.2 ⟨e,he,ba,hn,h⟩;rw[fO] at this;cases this)
 refine W ?_
 exact⟨_,rfl,⟨[],rfl,λh=>rfl,λe' h1 h2 h3=>by rw[Er h1 h2,ahS mn];rfl⟩,hK⟩
 refine W ?_
 refine fN bh bf λw5 aP jX iI=>bI aP hK ht λhK ht=>?_
 refine fN bh bf λw6 bO Cv kF=>bI bO hK ht λhK ht=>?_
 refine aA (Vp 120 e hn om ba [] so (λs T h=>by simp[look] at h) _ _ _ [] w6 sm (ht.iF sm) (bN.nil _ _ _) (bN.nil _ _ _)) ?_
 rintro _ w7 ⟨rfl,bV⟩
 have ov:=bV.size
 have hK:=hK.ext bV
 refine W ?_
 have hcy:Cx s (eC (bw e [])):=⟨(λh=>by rw[hx] at h;cases h),λe' h1 h2 h3=>by rw[Er h1 h2]⟩
 exact⟨_,rfl,⟨_,rfl,hcy⟩,hK⟩
theorem ahU (s:ai) (w:World):bz Tryz.prog 127 [str s] w λr w'=>(∃b,r= .bool b∧∀x,Cx s x->b=decide (x≠[]))∧aj [] w w':=by
 have hK:=aj.refl [] w
 refine bX [.tmp 2] 6 Tryz.func127 rfl aaQ rfl rfl ?_
 refine W ?_
 refine aA (Vt s w) ?_
 rintro v1 w1 ⟨fX,aI⟩
 have dm:=aI.size
 have hK:=hK.ext aI
 obtain⟨x,rfl,hx⟩:=fX
 refine W ?_
 exact⟨_,rfl,⟨_,rfl,λy hy=>by rw[Vs hx hy]⟩,hK⟩
theorem Hg (s:ai) (hs:s.length<=1000000) (w:World):bz Tryz.prog 185 [str s] w λr w'=>r=str (dx s)∧aj [] w w':=by
 have hK:=aj.refl [] w
 refine bX [.tmp 2] 6 Tryz.func185 rfl abB rfl rfl ?_
 refine W ?_
 exact⟨_,rfl,rfl,hK⟩
theorem ahV:∀(m:Nat) (T:Ty),T.n<=m->T.n<=60->∀(v:Value) (L:List Nat) (w:World),bC L w v T.aq->bz Tryz.prog 193 [v] w λr w'=>r=str (bu T)∧aj [] w w':=by
 intro m
 induction m with
 |zero=>intro T h;have:=T.pos;omega
 |succ m ih=>
  intro T hm mJ v L w hv
  obtain⟨a,np,c,rfl,hn,aQ⟩:=dj hv
  subst hn
  have hK:=aj.refl [] w
  refine bX [.tmp 2] 37 Tryz.func193 rfl abJ rfl rfl ?_
  refine zr<|eu rfl λw1 aI aW db=>bI aI hK aQ λhK aQ=>?_
  refine W ?_
  refine zc rfl (λh1=>?_) (λh1=>?_)
  have hi:T= .i:=(by cases T with|i=>rfl|op g a b=>exact absurd rfl h1)
  refine W ?_
  exact⟨_,rfl,congrArg (λz=>str z) (by rw[hi,Sm]),hK⟩
  have aX:∃g A B,T= .op g A B:=(by cases T with|i=>exact absurd h1 de|op g a b=>exact⟨g,a,b,rfl⟩)
  obtain⟨g,A,B,rfl⟩:=aX
  have wo:(Ty.op g A B).n=1+A.n+B.n:=rfl
  have N9:(Ty.op g A B).aq.ak.length=3:=rfl
  obtain⟨b0,AA,xP,xQ,e0,er,hT0⟩:=eS aQ (i:=0) om
  cases e0
  have er:fp L _ _ _ [str (jP g),_]:=er
  obtain⟨b1,eR,gd,gh,e1,bF,cK⟩:=eS aQ (i:=1) om
  cases e1
  have cK:bC L _ _ A.aq:=cK
  obtain⟨b2,l5,iA,iB,e2,bU,dG⟩:=eS aQ (i:=2) om
  cases e2
  have dG:bC L _ _ B.aq:=dG
  have Nf:=BJ A
  have Ng:=BJ B
  have U2:=Mp (bu B)
  refine WI ?_
  refine zi (i:=1) cB aL rfl rfl ((show 1<3 from om))<|W ?_
  refine aA (ih A om om _ L w1 cK) ?_
  rintro _ w2 ⟨rfl,az⟩
  have dy:=az.size
  refine la az hK aW er bU dG λhK aW er bU dG=>?_
  refine WI ?_
  refine zi (i:=2) cB aL rfl rfl ((show 2<3 from om))<|W ?_
  refine aA (ih B om om _ L w2 dG) ?_
  rintro _ w3 ⟨rfl,aH⟩
  have eU:=aH.size
  refine cG aH hK aW er λhK aW er=>?_
  refine WI ?_
  refine zi (i:=0) cB aL rfl rfl ((show 0<3 from om))<|W ?_
  refine zc rfl (λh2=>?_) (λh2=>?_)
  have hg:g=false:=(by cases g with|false=>rfl|true=>exact absurd h2 de)
  refine W ?_
  exact⟨_,rfl,congrArg (λz=>str z) (by rw[hg,Sn]),hK⟩
  have hg:g=true:=(by cases g with|true=>rfl|false=>exact absurd rfl h2)
  refine W ?_
  refine aA (Hg (bu B) om w3) ?_
  rintro _ w4 ⟨rfl,aO⟩
  have fG:=aO.size
  have hK:=hK.ext aO
  refine W ?_
  exact⟨_,rfl,congrArg (λz=>str z) (by rw[hg,So]),hK⟩
theorem vh (T:Ty) (hT:T.n<=60) (w:World):bz Tryz.prog 156 [str T.text] w λr w'=>r=str (bu T)∧aj [] w w':=by
 have hK:=aj.refl [] w
 refine bX [.tmp 2] 12 Tryz.func156 rfl abd rfl rfl ?_
 refine W ?_
 refine aA (I2 T.text [] w sm) ?_
 rintro v1 w1 ⟨fX,aI⟩
 have dm:=aI.size
 have hK:=hK.ext aI
 obtain⟨t,tv,rfl,ht,hp⟩:=fX
 have e2:=hp.1 _ (Ty.bB hT)
 subst e2
 obtain⟨pa,pn,pc,rfl,eT,aQ⟩:=dj ht
 refine W ?_
 refine dk aL rfl rfl rfl λw2 az cF dJ=>?_
 have hK:=hK.grow;have hK:=hK.ext az;have ht:=ht.grow;have ht:=ht.ext az
 refine cw aL rfl rfl rfl cF rfl λw3 aH cF gv=>?_
 have hK:=hK.aD aH sx;have ht:=ht.aD aH sx
 refine W ?_
 refine aA (ahV 60 T hT hT _ [] w3 (ht.iF sm)) ?_
 rintro _ w4 ⟨rfl,aO⟩
 have fG:=aO.size
 have hK:=hK.ext aO
 refine W ?_
 exact⟨_,rfl,rfl,hK⟩
theorem ahW (h:ai) (w:World):bz Tryz.prog 226 [str h] w λr w'=>r=str (qh h)∧aj [] w w':=by
 have hK:=aj.refl [] w
 refine bX [.tmp 2] 10 Tryz.func226 rfl ab4 rfl rfl ?_
 refine W ?_
 refine zc rfl (λh1=>?_) (λh1=>?_)
 have hq:qh h=[97,100,100]:=iP h1
 refine W ?_
 exact⟨_,rfl,congrArg (λz=>str z) hq.symm,hK⟩
 have h1:=h1
 refine W ?_
 refine zc rfl (λh2=>?_) (λh2=>?_)
 have hq:qh h=[115,117,98]:=(iN h1).trans (iP h2)
 refine W ?_
 exact⟨_,rfl,congrArg (λz=>str z) hq.symm,hK⟩
 have h2:=h2
 refine W ?_
 refine zc rfl (λh3=>?_) (λh3=>?_)
 have hq:qh h=[109,117,108]:=(iN h1).trans ((iN h2).trans (iP h3))
 refine W ?_
 exact⟨_,rfl,congrArg (λz=>str z) hq.symm,hK⟩
 have hq:qh h=ly:=(iN h1).trans ((iN h2).trans (iN h3))
 refine W ?_
 exact⟨_,rfl,congrArg (λz=>str z) hq.symm,hK⟩
def t8:ss:=⟨164,58,166,9⟩
theorem dC.open {τ:ss} (h:dC τ E L w b o m):∃vb vt vc vy gb gt gc gy,aJ w b [vb,vt,.int .i64 (m.count:Int),.bool m.wide,vc,vy].toArray τ.M∧gq τ E L w b o vb vt vc vy gb gt gc gy m:=h
structure dQ (E L:List Nat) (w:World) (L':List Nat) (w':World):Prop where
 fr:Fr L w L' w'
 out:∃G,aj G w w'∧∀x,x∈G->x∉E
section
variable {E L L1 L2:List Nat} {w w1 w2:World}
theorem dQ.refl (E L:List Nat) (w:World):dQ E L w L w:=⟨Fr.refl _ _,[],aj.refl _ _,sm⟩
theorem dQ.add (h:dQ E L w L1 w1) (k:Fr L1 w1 L2 w2) (kg:aj G w1 w2) (hG:∀x,x∈G->x∉E):dQ E L w L2 w2:=
 let⟨G0,k0,h0⟩:=h.out
 ⟨h.fr.go k,G0++G,(k0.mono λx hx=>List.mem_append_left _ hx).trans (kg.mono λx hx=>mR _ hx),λx hx=>(mA.1 hx).elim (h0 x) (hG x)⟩
theorem dQ.go (h:dQ E L w L1 w1) (k:dQ E L1 w1 L2 w2):dQ E L w L2 w2:=let⟨_,kg,hG⟩:=k.out;h.add k.fr kg hG
theorem dQ.ext (h:dQ E L w L1 w1) (k:aj [] w1 w2):dQ E L w L1 w2:=h.add (Fr.of k sm) k sm
theorem dQ.aD (h:dQ E L w L1 w1) {x:Nat} (k:aj [x] w1 w2) (h1:x∈L1) (h2:x∉E):dQ E L w L1 w2:=h.add (Fr.of k (by simpa using h1)) k (by simpa using h2)
theorem dQ.tk (k:dQ E L w L1 w1) {T:TypeId} {t:Tk} (h:gI L w T b t) (hb:b∈E):gI L1 w1 T b t:=let⟨_,kg,hG⟩:=k.out;h.go k.fr kg λhx=>hG b hx hb
end
theorem ahX (n:Nat) (hn:n<100000) (w:World):bz Tryz.prog 142 [.int .i64 ((n:Int)+1-1)] w λr w'=>r=str (aT n)∧aj [] w w':=by
 rw[Int.add_sub_cancel];exact iq (n+1) n om om w
theorem Oa (m:Mk) (hc:m.count<100000) (E L:List Nat) (b:Nat) (o:Bool) (w:World) (h:dC t8 E L w b o m):
  bz Tryz.prog 224 [.pointer (some ⟨b,0,none⟩)] w λr w'=>(r=str m.aM∧dC t8 E L w' b o m.k7)∧aj [b] w w':=by
 obtain⟨vb,vt,vc,vy,gb,gt,gc,gy,bj,hS⟩:=h.open
 have bj:aJ w b [vb,vt,.int .i64 (m.count:Int),.bool m.wide,vc,vy].toArray 164:=bj
 have hK:=aj.refl [b] w
 refine bX [.tmp 2] 18 Tryz.func224 rfl ab2 rfl rfl ?_
 refine W ?_
 refine fz (o:=2) p6 rfl rfl rfl bj rfl λw1 aI bj df=>?_
 have hS:=hS.aG aI sm
 have hK:=hK.trans aI
 refine W ?_
 refine aA ((ahX m.count hc w1)) ?_
 rintro _ w2 ⟨rfl,az⟩
 have dy:=az.size
 refine cG az hK bj hS λhK bj hS=>?_
 refine gU rfl rfl rfl rfl (by have:=DY _ m.count (lR _);simp;omega)<|zA<|aZ<|jJ ?_
 exact⟨_,rfl,⟨rfl,⟨_,_,_,_,_,_,_,_,bj,hS.num (m.count+1) m.wide⟩⟩,hK⟩
theorem rS (k:ai) (m:Mk) (hc:m.types.length<100000) (E L:List Nat) (b:Nat) (o:Bool) (w:World) (h:dC t8 E L w b o m):
  bz Tryz.prog 194 [.pointer (some ⟨b,0,none⟩),str k] w λr w'=>r= .int .i64 (m.types.length:Int)∧∃L',dC t8 E L' w' b o (m.da k)∧dQ E L w L' w':=by
 obtain⟨vb,vt,vc,vy,gb,gt,gc,gy,bj,hS⟩:=h.open
 have bj:aJ w b [vb,vt,.int .i64 (m.count:Int),.bool m.wide,vc,vy].toArray 164:=bj
 have hR:=dQ.refl E L w
 refine bX [.tmp 4] 30 Tryz.func194 rfl abK rfl rfl ?_
 refine W ?_
 refine fF bh bf rfl rfl λw1 aI je db=>cG aI hR bj hS λhR bj hS=>?_
 refine rM bh bf rfl rfl rfl rfl rfl rfl hS.ty je om λv9 g9 w2 cO az eA=>?_
 obtain⟨a9,c9,e9⟩:=jw cO
 subst e9
 obtain⟨vi,lN,tT,mh,vj,tU⟩:=hS.apart
 have qK:=hS.mem.2 (.inr (.inl rfl))
 obtain⟨L2,fx,jo⟩:=hS.Mr cO az (λx hx=>eA.imp (λh=>h.symm.trans hx) (λh=>by rw[h] at hx;cases hx;exact lR _))
 have bj:=bj.aG az (λh=>(tU b h).2.1 rfl)
 have hR:=hR.add jo az (λx hx=>(tU x hx).1)
 refine W ?_
 refine fz (o:=5) kz rfl rfl rfl bj rfl λw3 aH bj df=>?_
 have fx:=fx.aG aH sm
 have hR:=hR.aD aH (fx.mem.2 (.inr (.inl rfl))) lN
 refine W ?_
 refine iD (λ_:Unit=>[(0,.pointer (some ⟨b,0,none⟩))]) (λ_ w'=>aj [b] w3 w'∧aJ w' b [vb,vt,.int .i64 (m.count:Int),.bool (m.wide||decide (40<m.types.length+1)),vc,.slice a9 (m.types++[k]).length c9].toArray 164) ?_ ?_
 refine zc rfl (λh1=>?_) (λh1=>?_)
 have hd:decide (40<m.types.length+1)=true:=dT (by simp at h1;omega)
 refine W ?_
 refine fz (o:=3) RT rfl rfl rfl bj rfl λw4 aO bj df=>?_
 have Hh:=aO
 refine W ?_
 exact⟨(),rfl,Hh,by rw[hd,Bool.or_true];exact bj⟩
 have hd:decide (40<m.types.length+1)=false:=dF (by simp at h1;omega)
 refine WZ ?_
 exact⟨(),rfl,aj.refl _ _,by rw[hd,Bool.or_false];exact bj⟩
 intro gu w4 e4 hI
 obtain⟨Gh,bj⟩:=hI
 have fx:=fx.aG Gh sm
 have hR:=hR.aD Gh (fx.mem.2 (.inr (.inl rfl))) lN
 refine WA ?_
 refine xh rfl rfl rfl rfl rfl (wrap_i64 _ sx sx)<|zA<|aZ<|jJ ?_
 exact⟨_,rfl,congrArg (Value.int .i64) sm,L2,⟨_,_,_,_,_,_,_,_,bj,fx.num m.count (m.wide||decide (40<m.types.length+1))⟩,hR⟩
theorem gq.code {τ:ss} {vb vt vc vy:Value} {gb gt gc gy:Option Nat} (h:gq τ E L w b true vb vt vc vy gb gt gc gy m):cz w τ.S vc gc m.code:=by
 rcases h.co with⟨_,h⟩|⟨h,_⟩
 ·exact h
 ·cases h
theorem kJ (hd:ai) (ps:List ai) (hl:(dP hd ps).length<=1000000) (m:Mk) (hc:m.code.length<100000) (E L:List Nat) (b:Nat) (v:Value) (w:World) (h:dC t8 E L w b true m) (hv:bc L w v ps):
  bz Tryz.prog 186 [.pointer (some ⟨b,0,none⟩),str hd,v] w λr w'=>∃L',dC t8 E L' w' b true (m.cC hd ps)∧dQ E L w L' w':=by
 obtain⟨vb,vt,vc,vy,gb,gt,gc,gy,bj,hS⟩:=h.open
 have bj:aJ w b [vb,vt,.int .i64 (m.count:Int),.bool m.wide,vc,vy].toArray 164:=bj
 have hco:cz w 9 vc gc m.code:=by
  rcases hS.co with⟨_,h⟩|⟨h,_⟩
  ·exact h
  ·cases h
 obtain⟨vi,lN,tT,mh,vj,tU⟩:=hS.apart
 have Cp:eJ L w:=hS.cD
 refine bX [] 18 Tryz.func186 rfl abC rfl rfl ?_
 apply jF cT L 12 (rA 6 12) (rA 6 12) [[],[],[1],[2],[3],[],[],[5,6],[7],[4,8],[0],[10]] [Ie.v _,Ie.v _,Ie.v _,Ie.v _,Ie.w 0 vc,Ie.v _,Ie.v _,Ie.v _,Ie.p (fun(G:List Nat) (v:Value) (ww:World)=>∃bb,v= .slice (some ⟨bb,0,none⟩) 1 1∧dL G ww bb [str (dP hd ps)].toArray 9),Ie.e 1,Ie.v _,Ie.v _] [4,9] [fun(G:List Nat) (vs:List Value) (ww:World)=>G=L∧aj [] w ww,fun(G:List Nat) (vs:List Value) (ww:World)=>G=L∧aj [] w ww,fun(G:List Nat) (vs:List Value) (ww:World)=>∃g2,aj gc.toList w ww∧gq t8 E G ww b true vb vt (vs.getD 1 undef) vy gb gt g2 gy {m with code:=m.code++[dP hd ps]}∧Fr L w G ww] de rfl Cp (by exact⟨λG v w G' w' ⟨bb,e,h⟩ k=>⟨bb,e,h.go k⟩,trivial⟩) (by exact⟨λG vs w w' ⟨h1,h2⟩ k=>⟨h1,h2.ext k⟩,λG vs w w' ⟨h1,h2⟩ k=>⟨h1,h2.ext k⟩,λG vs w w' ⟨g2,h1,h2,h3⟩ k=>⟨g2,h1.ext k,h2.ext k,h3.ext k⟩,trivial⟩) (⟨rfl,aj.refl _ _⟩)
 refine FA ?_
 refine ve 0 (λx w1 G1 aR tN rU hJ hlen=>?_) ?_
 have aV:=jj hlen
 subst aV
 obtain⟨bP,bS⟩:=hJ
 have wJ:=bj.ext bS
 refine WZ ?_
 exact fw G1 (Fr.refl _ _) rU (⟨bP,bS⟩)
 refine FA ?_
 refine vf (λx w1 G1 aR tN rU=>?_) ?_
 have hv:=hv.go tN
 refine aA (xR hd ps om _ _ w1 hv) ?_
 rintro _ w2 ⟨rfl,az⟩
 have dy:=az.size
 exact fk az
 refine vf (λx w1 G1 aR tN rU=>?_) ?_
 refine fF bh bf rfl rfl λw2 az wv dJ=>?_
 exact ff az (⟨_,rfl,wv.o rU⟩)
 refine ve 1 (λx w1 G1 aR tN rU hJ hlen=>?_) ?_
 obtain⟨q0,aV⟩:=jk hlen
 subst aV
 intro v8 d8
 obtain⟨bb,e6,fH⟩:=d8
 subst e6
 obtain⟨bP,bS⟩:=hJ
 subst bP
 have JS:=hS.ext bS
 have hcw:=hco.ext bS
 refine rM bh bf rfl rfl rfl rfl rfl rfl hcw fH.gX om λv9 g9 w2 cO aC eA=>?_
 obtain⟨L2,fx,jo⟩:=JS.IK cO aC (λx hx=>eA.imp (λh=>h.symm.trans hx) (λh=>by rw[h] at hx;cases hx;exact lR _))
 exact fe _ jo fx.cD (⟨g9,bS.any.trans aC,fx,(Fr.of bS sm).go jo⟩)
 exact FZ
 intro x I3 G40 aR Vu ah1 hJ hlen
 obtain⟨q0,q1,aV⟩:=k8 hlen
 subst aV
 intro v8 d8
 change OW _ _ _ _ _ (bm (bg _ x _) (zZ 6 [_,_,_,_,_,_,_,_,_,_,_,_])) _
 obtain⟨g2,AD,fx,jo⟩:=hJ
 obtain⟨o4,o5,GW⟩:=jw fx.code
 have e8:q1=_:=GW
 subst e8
 have bj:=bj.aG AD (λh=>(vj b h).2.1 rfl)
 refine fz (o:=4) kz rfl rfl rfl bj rfl λnO gi bj df=>?_
 have fx:=fx.aG gi sm
 have hR:=((dQ.refl E L w).add jo AD (λx hx=>(vj x hx).1)).aD gi (fx.mem.2 (.inr (.inl rfl))) lN
 refine W ?_
 exact⟨_,rfl,_,⟨_,_,_,_,_,_,_,_,bj,fx⟩,hR⟩
theorem J0 {hd:ai} {ps:List ai} (hh:hd.length<=100) (hp:ps.length<=10) (hs:∀p,p∈ps->p.length<=10001):(dP hd ps).length<=1000000:=by
 have h1:=Aq (m:=10001) ps hs
 have h2:ps.length*10002<=10*10002:=Nat.mul_le_mul hp (lR _)
 rw[lD];omega
theorem Ez (h:n<=10000):(aT n).length<=10001:=by have:=DY _ n (lR _);omega
theorem dC.di {τ:ss} (h:dC τ E L w b o m):∀x,x∈L->x<w.heap.size:=h.mem.2.2.2
theorem Vv (m:Mk) (s:Nat) (hs:s<=10000) (ht:m.types.length<=9000) (hc:m.code.length<=9000) (E L:List Nat) (b:Nat) (w:World) (h:dC t8 E L w b true m):
  bz Tryz.prog 191 [.pointer (some ⟨b,0,none⟩),.int .i64 (s:Int)] w λr w'=>r= .tuple #[str (aT (m.types.length+1)),str (aT (m.types.length+2))]∧∃L',dC t8 E L' w' b true (sr m s)∧dQ E L w L' w':=by
 have av:=h
 have hR:=dQ.refl E L w
 obtain⟨r,hr⟩:∃r,r=m.types.length:=⟨_,rfl⟩
 have hE:sr m s=((((((m.da []).cC zH [aT r,aT s]).da []).cC sq [aT (r+1),aT r,[48]]).da []).cC sq [aT (r+2),aT r,[49]]):=by rw[hr];rfl
 rw[<-hr,hE]
 refine bX [.tmp 4,.tmp 5] 40 Tryz.func191 rfl abH rfl rfl ?_
 refine W ?_
 refine aA (rS [] m om E L b true w av) ?_
 rintro v10 w1 ⟨fm,L1,av,bD⟩
 rw[<-hr] at fm
 subst fm
 have hR:=hR.go bD
 refine W ?_
 refine aA (iq (r+1) r om om w1) ?_
 rintro _ w2 ⟨rfl,az⟩
 have dy:=az.size
 refine bI az av hR λav hR=>?_
 refine zm<|aA (iq (s+1) s om om w2) ?_
 rintro _ w3 ⟨rfl,aH⟩
 have eU:=aH.size
 refine bI aH av hR λav hR=>?_
 have cU:=av.di
 refine kK bh bf rfl rfl rfl rfl λw4 aO wc gC=>bI aO av hR λav hR=>?_
 refine aA (kJ zH [aT r,aT s] (J0 de sm (by intro p hp;simp at hp;rcases hp with rfl|rfl<;>exact Ez om)) (m.da []) (show m.code.length<100000 from om) E L1 b _ w4 av (aJ.dK [aT r,aT s] wc (λhx=>by have:=cU _ hx;omega))) ?_
 rintro jA w5 ⟨L2,av,bD⟩
 have hR:=hR.go bD
 refine aZ<|zr<|zm<|aA (rS [] ((m.da []).cC zH [aT r,aT s]) (show(m.da []).types.length<100000 from by rw[xX];omega) E L2 b true w5 av) ?_
 rintro v10 w6 ⟨fm,L3,av,bD⟩
 rw[show((m.da []).cC zH [aT r,aT s]).types.length=r+1 from by rw[ot,xX,hr]] at fm
 subst fm
 have hR:=hR.go bD
 refine W ?_
 refine aA (iq (r+2) (r+1) om om w6) ?_
 rintro _ w7 ⟨rfl,bV⟩
 have ov:=bV.size
 refine bI bV av hR λav hR=>?_
 refine zm<|aA (iq (r+1) r om om w7) ?_
 rintro _ w8 ⟨rfl,cA⟩
 have yk:=cA.size
 refine bI cA av hR λav hR=>?_
 have cU:=av.di
 refine pI bh bf rfl rfl rfl rfl rfl λw9 aC BY df=>bI aC av hR λav hR=>?_
 refine aA (kJ sq [aT (r+1),aT r,[48]] (J0 de sm (by intro p hp;simp at hp;rcases hp with rfl|rfl|rfl;(·exact Ez om);(·exact Ez om);(·decide))) (((m.da []).cC zH [aT r,aT s]).da []) (show(m.code++[_]).length<100000 from by simp;omega) E L3 b _ w9 av (aJ.dK [aT (r+1),aT r,[48]] BY (λhx=>by have:=cU _ hx;omega))) ?_
 rintro jA bZ ⟨L4,av,bD⟩
 have hR:=hR.go bD
 refine aZ<|zr<|zm<|aA (rS [] ((((m.da []).cC zH [aT r,aT s]).da []).cC sq [aT (r+1),aT r,[48]]) (show(m.types++[_]++[_]).length<100000 from by simp;omega) E L4 b true bZ av) ?_
 rintro v10 ey ⟨fm,L5,av,bD⟩
 have Cy:v10= .int .i64 ((r+2:Nat):Int):=fm.trans (congrArg (λn:Nat=>Value.int .i64 (n:Int)) (show(m.types++[_]++[_]).length=r+2 from by simp[hr]))
 subst Cy
 have hR:=hR.go bD
 refine W ?_
 refine aA (iq (r+3) (r+2) om om ey) ?_
 rintro _ fa ⟨rfl,cV⟩
 have Ct:=cV.size
 refine bI cV av hR λav hR=>?_
 refine zm<|aA (iq (r+1) r om om fa) ?_
 rintro _ jf ⟨rfl,gw⟩
 have Hi:=gw.size
 refine bI gw av hR λav hR=>?_
 have cU:=av.di
 refine pI bh bf rfl rfl rfl rfl rfl λix du ah2 Cz=>bI du av hR λav hR=>?_
 refine aA (kJ sq [aT (r+2),aT r,[49]] (J0 de sm (by intro p hp;simp at hp;rcases hp with rfl|rfl|rfl;(·exact Ez om);(·exact Ez om);(·decide))) (((((m.da []).cC zH [aT r,aT s]).da []).cC sq [aT (r+1),aT r,[48]]).da []) (show(m.code++[_]++[_]).length<100000 from by simp;omega) E L5 b _ ix av (aJ.dK [aT (r+2),aT r,[49]] ah2 (λhx=>by have:=cU _ hx;omega))) ?_
 rintro jA o7 ⟨L6,av,bD⟩
 have hR:=hR.go bD
 refine aZ<|zr<|zm<|aA (iq (r+2) (r+1) om om o7) ?_
 rintro _ lh ⟨rfl,mQ⟩
 have UU:=mQ.size
 refine bI mQ av hR λav hR=>?_
 refine zm<|aA (iq (r+3) (r+2) om om lh) ?_
 rintro _ CA ⟨rfl,yr⟩
 have apl:=yr.size
 refine bI yr av hR λav hR=>?_
 refine W ?_
 exact⟨_,rfl,rfl,L6,av,hR⟩
theorem Vw (s:cE):(ew s).map Prod.fst=jE s:=by unfold ew jE;rw[List.map_map];rfl
theorem Vx (s:cE):((ew s).map λp=>p.2.text)=oR s:=by unfold ew oR;rw[List.map_map];rfl
theorem J1 (t:Tk) (e:Ex) (ba:e.ok) (hn:e.n<=1000) (hΓ:xF (ew t.sc)) (hl:t.sc.length+2*e.n<=100000) (v:Value) (L:List Nat) (bt:Nat) (w:World) (lf:∀x,x∈L->x<w.heap.size) (hT:gI L w 166 bt t) (hv:bC L w v e.aq):
  bz Tryz.prog 189 [.pointer (some ⟨bt,0,none⟩),v] w λr w'=>r=str (eC (bw e (ew t.sc)))∧aj [] w w':=by
 obtain⟨v1,v3,v4,v5,v6,v8,cZ,hC⟩:=hT
 obtain⟨a,np,c,rfl,eK,aQ⟩:=dj hv
 have fS:=hC.aK
 have eM:=hC.types
 have hK:=aj.refl [] w
 have e1:=Vw t.sc
 have e2:=Vx t.sc
 refine bX [.tmp 4] 15 Tryz.func189 rfl abF rfl rfl ?_
 refine zr<|eu rfl λw1 aI cF db=>la aI hK hv cZ fS eM λhK hv cZ fS eM=>?_
 refine W ?_
 apply dV cT 11 [5,6,7,8,9,10,11,12,13,14,4] [[],[],[1],[2],[3],[],[5],[6],[7],[0,4,8],[9]] (it [_,_,_,_,_,_,_,_,_,_,_]) de rfl
 intro wd aB
 refine VA ?_
 refine vk aB (λx w2 az=>?_) ?_
 refine gQ az hK hv fS eM λhK hv fS eM=>?_
 refine aA (Vp 1000 e hn om ba (ew t.sc) (by simp[ew];omega) hΓ _ v4 v6 L w2 (λx hx=>lL (lf x hx) hK.size) hv (by rw[e1];exact fS) (by rw[e2];exact eM)) ?_
 rintro _ w3 ⟨rfl,aH⟩
 have eU:=aH.size
 exact pk aH
 exact VZ
 intro x nO gi
 have hK:=hK.ext gi
 change OW _ _ _ _ [] (bm (bg _ x _) (zZ 5 [_,_,_,_,_,_,_,_,_,_]++[(4,_)])) _
 refine W ?_
 exact⟨_,rfl,rfl,hK⟩
theorem ah3 (xs:List Nat):∀row,row∈tx xs->∀c,c∈row->∀v,c= .val v->v.oneCell'=true:=by
 intro row hr c hc v hv
 obtain⟨n,_,rfl⟩:=List.mem_map.1 hr
 simp at hc;subst hc;cases hv;rfl
theorem EA (t:Tk) (x:ai) (r:Nat) (T:Ty) (hl:t.sc.length<100000) (L:List Nat) (bt:Nat) (w:World) (qK:bt∈L) (lf:∀x,x∈L->x<w.heap.size) (hT:gI L w 166 bt t):
  bz Tryz.prog 192 [.pointer (some ⟨bt,0,none⟩),str x,.int .i64 (r:Int),str T.text] w λ_ w'=>gI L w' 166 bt {t with sc:=t.sc++[(x,r,T)]}∧aj [bt] w w':=by
 obtain⟨v1,v3,v4,v5,v6,v8,cZ,hC⟩:=hT
 have cZ:aJ w bt [str t.aM,v1,.int .i64 (t.loads:Int),v3,v4,v5,v6,str t.expr.aq.aw,v8,.int .i64 (t.on:Int),str t.aU,.int .i64 (t.next:Int)].toArray 166:=cZ
 have hK:=aj.refl [bt] w
 have fi:(jE t.sc).length=t.sc.length:=by simp[jE]
 have eK:(oR t.sc).length=t.sc.length:=by simp[oR]
 have o8:(tx (vW t.sc)).length=t.sc.length:=by simp[tx,vW]
 have I9:=cZ.lt
 obtain⟨a5,c5,rfl,_⟩:=rh hC.at_
 refine bX [] 40 Tryz.func192 rfl abI rfl rfl ?_
 refine W ?_
 refine fF bh bf rfl rfl λw1 aI wv db=>cG aI hK cZ hC λhK cZ hC=>?_
 refine aA (tL (jE t.sc) [x] so v4 _ L w1 hC.aK (aJ.dK [x] wv (λhx=>by have:=lf _ hx;omega)) (λx hx=>lL (lf x hx) hK.size)) ?_
 rintro v2 w2 ⟨fl,az⟩
 have dy:=az.size
 refine cG az hK cZ hC λhK cZ hC=>?_
 have jz:=fl
 obtain⟨a9,n9,c9,e9,_⟩:=dI jz
 subst e9
 refine W ?_
 refine fz (o:=4) kz rfl rfl rfl cZ rfl λw3 aH cZ df=>?_
 have hC:=hC.aD aH (by simpa using qK);have jz:=jz.aD aH (by simpa using qK)
 have hK:=hK.trans aH
 have xL:=hK.size
 refine W ?_
 refine fF bh bf rfl rfl λw4 aO yt gC=>gQ aO hK cZ hC jz λhK cZ hC jz=>?_
 refine aA (tL (oR t.sc) [T.text] so v6 _ L w4 hC.types (aJ.dK [T.text] yt (λhx=>by have:=lf _ hx;omega)) (λx hx=>lL (lf x hx) hK.size)) ?_
 rintro v5 w5 ⟨xM,aP⟩
 have og:=aP.size
 refine gQ aP hK cZ hC jz λhK cZ hC jz=>?_
 have wu:=xM
 obtain⟨I4,n10,c10,fm,_⟩:=dI wu
 subst fm
 refine W ?_
 refine fz (o:=6) kz rfl rfl rfl cZ rfl λw6 bO cZ df=>?_
 have hC:=hC.aD bO (by simpa using qK);have jz:=jz.aD bO (by simpa using qK);have wu:=wu.aD bO (by simpa using qK)
 have hK:=hK.trans bO
 have xL:=hK.size
 have hL9:∀x,x∈L->x<w6.heap.size:=(λx hx=>lL (lf x hx) hK.size)
 have hCw:=hC
 have ah6:=jz
 have ah7:=wu
 have yu:=cZ
 have mM:=hK
 have apo:=cZ.lt
 refine aZ<|lp<|zm<|xw w6.heap.size L DF p6 rfl rfl (lR _) hL9 λw7 bV Jx wm=>?_
 have fy:=bV
 have hC:=hC.grow.ext bV;have cZ:=cZ.ext bV
 refine W ?_
 refine wa DF p6 rfl rfl rfl rfl rfl rfl wm hC.at_ (ah3 _) (by rw[o8];simp;omega) λa4 ir g4 w8 kv cA=>?_
 rw[List.nil_append] at kv
 have apq:=wm.low
 have fy:=fy.since cA (λx hx=>.inr (by simp at hx;omega))
 refine zm<|fF DF p6 rfl rfl λw9 aC vm df=>bI aC kv fy λkv fy=>?_
 refine Fu (row:=[.val (.int .i64 (r:Int))]) DF p6 rfl rfl rfl rfl rfl rfl kv vm rfl rfl ⟨.val _,trivial⟩ (by rw[o8];omega) λa6 cc6 g6 bZ hO6 cj=>?_
 have fy:=fy.since cj (λx hx=>.inr (kv.low x (by simpa using hx)))
 have jz:=ah6.ext fy
 have wu:=ah7.ext fy
 have hC:=hCw.ext fy
 have cZ:=yu.ext fy
 have hK:=mM.ext fy
 have hN:=hO6.done
 rw[aeO] at hN
 refine W ?_
 refine fz (o:=5) RU rfl rfl rfl cZ rfl λey cS cZ df=>?_
 have hC:=hC.aD cS (by simpa using qK);have jz:=jz.aD cS (by simpa using qK);have wu:=wu.aD cS (by simpa using qK)
 have hN:=bN.aG hN (cS.mono (by simpa using qK))
 have hK:=hK.trans cS
 refine W ?_
 exact⟨_,rfl,⟨v1,v3,_,_,_,v8,cZ,⟨hC.regs,hC.self,(by rw[aeb];exact jz),(by rw[aec];exact hN),(by rw[aed];exact wu),hC.ak⟩⟩,hK⟩
theorem ah9 (s:cE) (p:ai×Nat×Ty) (x:ai):kq (s++[p]) x=if p.1=x then p.2.1 else kq s x:=by
 unfold kq
 rw[List.reverse_append]
 simp only[List.reverse_cons,List.reverse_nil,List.nil_append,List.cons_append,List.find?_cons]
 by_cases h:p.1=x
 ·simp[h]
 ·simp[h]
theorem aia {s:cE} (h:k<s.length) (x:ai):kq (s.take (k+1)) x=if cv (jE s) k=x then(s[k]'h).2.1 else kq (s.take k) x:=by
 rw[List.take_add_one,gE h]
 show kq (s.take k++[s[k]]) x=_
 rw[ah9]
 have e:cv (jE s) k=(s[k]'h).1:=by simp[cv,jE,gE h]
 rw[e]
theorem CB (t:Tk) (a:ai) (m:Mk) (oh:a.length<=10000) (ht:m.types.length<=9000) (hc:m.code.length<=9000) (hs:t.sc.length<=9000) (E L:List Nat) (b bt:Nat) (pa:Option Addr) (pn pc:Nat) (w:World) (h:dC t8 E L w b true m) (hT:gI L w 166 bt t) (dU:bt∈E):
  bz Tryz.prog 222 [.pointer (some ⟨b,0,none⟩),.pointer (some ⟨bt,0,none⟩),.agg #[str a,.slice pa pn pc]] w λr w'=>r= .int .i64 ((bW m t.sc a).2:Int)∧∃L',dC t8 E L' w' b true (bW m t.sc a).1∧dQ E L w L' w':=by
 have av:=h
 have hR:=dQ.refl E L w
 obtain⟨v1,v3,v4,v5,v6,v8,cZ,hC⟩:=hT
 obtain⟨r,hr⟩:∃r,r=m.types.length:=⟨_,rfl⟩
 have fS:=hC.aK
 obtain⟨an,nn,cn,rfl,sG⟩:=dI fS
 have eD:=hC.at_
 obtain⟨aa,ca,rfl,JR⟩:=rh eD
 refine bX [.tmp 6] 50 Tryz.func222 rfl ab0 rfl rfl ?_
 refine zr<|eu rfl λw1 aI cN db=>la aI av hR cZ fS eD λav hR cZ fS eD=>?_
 refine W ?_
 refine aA (uM _ _) ?_
 rintro _ _ ⟨rfl,rfl⟩
 refine km rfl rfl rfl<|aZ<|zc rfl (λh1=>?_) (λh1=>?_)
 have hq:bW m t.sc a=((m.da [105]).cC IG [aT r,a],r):=(by unfold bW;rw[iN (by rw[h1];simp),hr])
 rw[hq]
 refine zr<|zm<|aA (rS [105] m om E L b true w1 av) ?_
 rintro l9 w2 ⟨gR,L1,av,bD⟩
 rw[<-hr] at gR
 subst gR
 have hR:=hR.go bD
 have cU:=av.di
 have cN:dL L1 w2 w.heap.size _ _:=⟨cN.aG bD.fr.aG (λhx=>by have:=h.di _ hx;omega),λhx=>by rcases bD.fr.mem _ hx with h9|h9;(·have:=h.di _ h9;omega);(·omega)⟩
 have lM:=av
 have tV:=hR
 refine W ?_
 apply jF cT L1 7 (rA 15 7) (rA 15 7) [[],[],[1],[],[3],[2,4],[0,5]] [Ie.v _,Ie.v _,Ie.v _,Ie.v _,Ie.v _,Ie.p (fun(G:List Nat) (v:Value) (ww:World)=>bc G ww v [aT r,a]),Ie.e 0] [6] [fun(G:List Nat) (vs:List Value) (ww:World)=>G=L1∧aj [] w2 ww,fun(G:List Nat) (vs:List Value) (ww:World)=>dC t8 E G ww b true ((m.da [105]).cC IG [aT r,a])∧dQ E L1 w2 G ww] de rfl cU (by exact⟨λG v w G' w' h k=>bc.go h k,trivial⟩) (by exact⟨λG vs w w' ⟨h1,h2⟩ k=>⟨h1,h2.ext k⟩,λG vs w w' ⟨h1,h2⟩ k=>⟨h1.ext k,h2.ext k⟩,trivial⟩) (⟨rfl,aj.refl _ _⟩)
 refine FA ?_
 refine vf (λx w3 G3 aR jn kt=>?_) ?_
 refine aA (iq (r+1) r om om w3) ?_
 rintro _ w4 ⟨rfl,aO⟩
 have fG:=aO.size
 exact fk aO
 refine FA ?_
 refine vf (λx w3 G3 aR jn kt=>?_) ?_
 refine kK bh bf rfl rfl rfl rfl λw4 aO sO gC=>?_
 exact ff aO (aJ.dK [aT r,a] sO (λhx=>by have:=kt _ hx;omega))
 refine ve 0 (λx w3 G3 aR jn kt hJ hlen=>?_) ?_
 have aV:=jj hlen
 subst aV
 intro v5 d5
 obtain⟨bP,bS⟩:=hJ
 subst bP
 refine aA (kJ IG [aT r,a] (J0 de sm (by intro p hp;simp at hp;rcases hp with rfl|rfl;(·exact Ez om);(·omega))) (m.da [105]) (show m.code.length<100000 from om) E _ b _ w3 (lM.ext bS) d5) ?_
 rintro v21 w4 ⟨L2,Hj,jo⟩
 exact fe L2 jo.fr Hj.di (⟨Hj,((dQ.refl _ _ _).ext bS).go jo⟩)
 exact trivial
 intro x l6 GI aR Ed Np hJ hlen
 obtain⟨q0,aV⟩:=jk hlen
 subst aV
 intro v5 d5
 change OW _ _ _ _ [] (bm (bg _ x _) (zZ 15 [_,_,_,_,_,_,_])) _
 obtain⟨av,jo⟩:=hJ
 have hR:=tV.go jo
 refine W ?_
 exact⟨_,rfl,rfl,_,av,hR⟩
 have hq:bW m t.sc a=(m,kq t.sc a):=(by unfold bW;rw[iP (by simpa using h1)])
 rw[hq]
 have El:(jE t.sc).length=t.sc.length:=by simp[jE]
 refine W ?_
 refine eH (λk:Nat=>[(1,.pointer (some ⟨bt,0,none⟩)),(5,.pointer (some ⟨w.heap.size,0,none⟩)),(8,.int .i64 ((k:Int)-1))]) (λk w'=>aj [] w1 w'∧k<=t.sc.length∧kq t.sc a=kq (t.sc.take k) a) (λk=>k) t.sc.length (⟨rfl,rfl,congrArg (λz:Nat=>Value.int .i64 ((z:Int)-1)) (sG.trans El)⟩) (⟨aj.refl _ _,lR _,by rw[List.take_length]⟩) λgg w2 e2 hI=>?_
 obtain⟨dh,hk,yg⟩:=hI
 refine gQ dh av hR cZ fS λav hR cZ fS=>?_
 have eD:=xI.ext eD dh
 have cN:=cN.ext dh
 refine W ?_
 refine zc rfl (λh2=>?_) (λh2=>?_)
 have aX:∃k,gg=k+1:=⟨gg-1,om⟩
 obtain⟨k,rfl⟩:=aX
 have hi:((k+1:Nat):Int)-1=(k:Int):=by omega
 rw[hi]
 obtain⟨b1,eR,e1,bF⟩:=mu fS (jN (xs:=jE t.sc) (i:=k) om)
 cases e1
 obtain⟨b2,l5,e2,bU⟩:=aea eD (i:=k) (x:=(t.sc[k]'om).2.1) (by simp[vW,gE (show k<t.sc.length by omega)])
 cases e2
 have nC:=aia (s:=t.sc) (k:=k) om a
 refine WZ ?_
 apply dV cT 10 [33,34,35,36,37,38,39,40,41,42] [[],[0],[1],[2],[],[3,4],[5],[],[7],[6,8]] (it [_,_,_,_,_,_,_,_,_,_]) de rfl
 intro wd aB
 refine vc (λ_ _ _=>WZ pv) ?_
 refine vk aB (λx w3 aH=>?_) ?_
 refine WZ ?_
 exact pv
 refine vc (λ_ _ _=>WZ pv) ?_
 refine vk aB (λx w3 aH=>?_) ?_
 have cZ:=cZ.ext aH
 refine WZ ?_
 exact pv
 refine vc (λ_ _ _=>WZ pv) ?_
 exact VZ
 intro x l6 rR
 refine la rR av hR cZ dh bU λav hR cZ dh bU=>?_
 change OW _ _ _ _ [] (bm (bg _ x _) (zZ 33 [_,_,_,_,_,_,_,_,_,_])) _
 refine aZ<|zc rfl (λh3=>?_) (λh3=>?_)
 have Gg:=yg.trans (nC.trans (iP h3))
 refine WI ?_
 refine zi DF p6 rfl rfl (by have h9:(tx (vW t.sc)).length=t.sc.length:=(by simp[tx,vW]);omega)<|W ?_
 exact⟨_,rfl,congrArg (λz:Nat=>Value.int .i64 (z:Int)) Gg.symm,_,av,hR⟩
 have Gg:=yg.trans (nC.trans (iN h3))
 refine W ?_
 exact⟨k,⟨rfl,rfl,rfl⟩,⟨dh,om,Gg⟩,om⟩
 have h0:gg=0:=by omega
 subst h0
 refine W ?_
 exact⟨_,rfl,congrArg (λz:Nat=>Value.int .i64 (z:Int)) yg.symm,_,av,hR⟩
theorem Ob (aM:ai) (regs:List ai) (hr:regs.length<10000) (m:Mk) (cY:m.blocks.length<100000) (E L:List Nat) (b:Nat) (v:Value) (w:World) (h:dC t8 E L w b true m) (hv:bc L w v regs):
  bz Tryz.prog 155 [.pointer (some ⟨b,0,none⟩),str aM,v] w λr w'=>∃L',dC t8 E L' w' b false (B4 m aM regs)∧dQ E L w L' w':=by
 obtain⟨vb,vt,vc,vy,gb,gt,gc,gy,bj,hS⟩:=h.open
 obtain⟨vi,lN,tT,mh,vj,tU⟩:=hS.apart
 have Vy:=hS.MP
 obtain⟨G0,Hk⟩:∃G,G=E++(gb.toList++(gt.toList++gy.toList)):=⟨_,rfl⟩
 have Vz:∀x,x∈G0->x∈L:=λx hx=>by rw[Hk] at hx;simp only[mA] at hx;exact hS.mem.2 (by rcases hx with h|h|h|h<;>simp[h])
 have nR:b∉G0:=λhx=>by
  rw[Hk] at hx;simp only[mA] at hx
  rcases hx with h|h|h|h
  ·exact lN h
  ·exact(tT b h).2 rfl
  ·exact(mh b h).2.1 rfl
  ·exact(tU b h).2.1 rfl
 have bj:dL G0 w b [vb,vt,.int .i64 (m.count:Int),.bool m.wide,vc,vy].toArray 164:=⟨bj,nR⟩
 have oy:=bc.fresh hv (λx hx=>.inl (Vz x hx))
 have pF:eJ G0 w:=λx hx=>hS.cD x (Vz x hx)
 have zF:∀x,w.heap.size<=x->x∉pH E b gb gt gy:=λx h1 hx=>by have:=hS.cD x (hS.Tc x hx);omega
 obtain⟨an,nn,cn,rfl,sG⟩:=dI hv
 obtain⟨ac,nc,cc,rfl,mn⟩:=dI Vy
 refine bX [] 24 Tryz.func155 rfl abc rfl rfl ?_
 apply jF cT G0 18 (rA 6 18) (rA 6 18) [[],[],[1],[2],[3],[],[],[],[6,7],[],[9],[10],[11],[5,8,12],[13],[4,14],[0],[16]] [Ie.v _,Ie.v _,Ie.v _,Ie.v _,Ie.v _,Ie.v _,Ie.p (fun(G:List Nat) (v:Value) (ww:World)=>∃bb,v= .slice (some ⟨bb,0,none⟩) 0 0∧w.heap.size<=bb∧dL G ww bb #[] 9),Ie.v _,Ie.e 0,Ie.v _,Ie.v _,Ie.v _,Ie.v _,Ie.e 1,Ie.e 2,Ie.e 3,Ie.v _,Ie.v _] [8,13,14,15] [fun(G:List Nat) (vs:List Value) (ww:World)=>(∀x,x∈G0->x∈G)∧aj [] w ww,fun(G:List Nat) (vs:List Value) (ww:World)=>(∀x,x∈G0->x∈G)∧aj [] w ww∧bc (pH E b gb gt gy) ww (vs.getD 0 undef) regs,fun(G:List Nat) (vs:List Value) (ww:World)=>(∀x,x∈G0->x∈G)∧aj [] w ww∧bc (pH E b gb gt gy) ww (vs.getD 0 undef) regs∧vs.getD 1 undef= .agg #[str aM,vs.getD 0 undef,.slice ac nc cc],fun(G:List Nat) (vs:List Value) (ww:World)=>(∀x,x∈G0->x∈G)∧aj [] w ww∧bc (pH E b gb gt gy) ww (vs.getD 0 undef) regs∧∃bb,vs.getD 2 undef= .slice (some ⟨bb,0,none⟩) 1 1∧aJ ww bb [str aM,vs.getD 0 undef,.slice ac nc cc].toArray 58,fun(G:List Nat) (vs:List Value) (ww:World)=>∃g2,dD (gb.toList++(g2.toList++pH E b gb gt gy)) ww 58 3 (vs.getD 3 undef) g2 ((m.blocks++[(⟨aM,regs,m.code⟩:Bk)]).map Bk.enc)∧aj gb.toList w ww∧(g2=gb∨∃x,g2=some x∧w.heap.size<=x)] de rfl pF (by exact⟨λG v w G' w' ⟨bb,e,h1,h⟩ k=>⟨bb,e,h1,h.go k⟩,trivial⟩) (by exact⟨λG vs w w' ⟨h1,h2⟩ k=>⟨h1,h2.ext k⟩,λG vs w w' ⟨h1,h2,h3⟩ k=>⟨h1,h2.ext k,h3.ext k⟩,λG vs w w' ⟨h1,h2,h3,h4⟩ k=>⟨h1,h2.ext k,h3.ext k,h4⟩,λG vs w w' ⟨h1,h2,h3,bb,h4,h5⟩ k=>⟨h1,h2.ext k,h3.ext k,bb,h4,h5.ext k⟩,λG vs w w' ⟨g2,h1,h2,h3⟩ k=>⟨g2,h1.ext k,h2.ext k,h3⟩,trivial⟩) (⟨λx hx=>hx,aj.refl _ _⟩)
 refine FA ?_
 refine vf (λx w1 G1 aR tN rU=>?_) ?_
 refine fN bh bf λw2 az Oc dJ=>?_
 exact ff az (⟨_,rfl,(by have h1:=tN.aG.size;omega),Oc.o rU⟩)
 refine FA ?_
 refine ve 0 (λx w1 G1 aR tN rU hJ hlen=>?_) ?_
 have aV:=jj hlen
 subst aV
 have oy:=oy.go tN
 intro v6 d6
 obtain⟨bb,e6,Cj,fH⟩:=d6
 subst e6
 obtain⟨jV,fU⟩:=hJ
 refine Gz (N:=w.heap.size) bh bf rfl rfl rfl rfl rfl rfl fH Cj oy ‹_› om λv9 w2 G9 ku uV cR et pR=>?_
 exact fe G9 cR et (⟨λx hx=>ku _ (jV x hx),pR.since fU,let⟨g',jO,_,hs⟩:=uV;jO.rep (λx hx fh=>zF x (hs x (by simp[hx])).2 fh)⟩)
 refine FA ?_
 refine ve 1 (λx w1 G1 aR tN rU hJ hlen=>?_) ?_
 obtain⟨q0,aV⟩:=jk hlen
 subst aV
 obtain⟨jV,fU,pV⟩:=hJ
 obtain⟨a7,n7,c7,e7,_⟩:=dI pV
 have e8:q0=_:=e7
 subst e8
 refine iO (LI _ _ _ _ _ _ _ _) rfl rfl ?_
 exact fe G1 (Fr.refl _ _) rU (⟨jV,fU,pV,rfl⟩)
 refine ve 2 (λx w1 G1 aR tN rU hJ hlen=>?_) ?_
 obtain⟨q0,q1,aV⟩:=k8 hlen
 subst aV
 obtain⟨jV,fU,pV,mD⟩:=hJ
 obtain⟨a7,n7,c7,e7,_⟩:=dI pV
 have e8:q0=_:=e7
 subst e8
 have EB:q1=Value.agg #[str aM,.slice a7 n7 c7,.slice ac nc cc]:=mD
 subst EB
 refine sC [.tmp 19] [[str aM,.slice a7 n7 c7,.slice ac nc cc]] jD gB rfl rfl rfl rfl rfl rfl rfl rfl rfl λw2 az sO Vg=>?_
 exact fe G1 (Fr.of az sm) ((λx hx=>lL (rU x hx) (aj.size az))) (⟨jV,fU.trans az,pV.ext az,_,rfl,sO⟩)
 refine ve 3 (λx w1 G1 aR tN rU hJ hlen=>?_) ?_
 obtain⟨q0,q1,q2,aV⟩:=zQ hlen
 subst aV
 obtain⟨jV,fU,pV,bb,vX,fH⟩:=hJ
 have gR:q2=_:=vX
 subst gR
 have ig:=(hS.bl.any fU).sub (L':=gb.toList++pH E b gb gt gy) (λx hx=>.inl (by rcases mA.1 hx with h|h;(·exact hS.mem.2 (by simp[h]));(·exact hS.Tc x h)))
 have VB:∀x,x∈gb.toList++pH E b gb gt gy->x∈pH E b gb gt gy:=(λx hx=>by rcases mA.1 hx with h|h;(·exact xS.2 (by simp[h]));(·exact h))
 refine B0 (L:=pH E b gb gt gy) (row:=Bk.enc ⟨aM,regs,m.code⟩) jD gB rfl rfl rfl rfl rfl rfl ig rfl fH.all (by obtain⟨a7,n7,c7,e7,_⟩:=dI pV;have e8:q0=_:=e7;subst e8;simp[Value.oneCell']) ⟨.val _,bc.fresh pV (λx hx=>.inl (VB x hx)),bc.fresh (Vy.ext fU) (λx hx=>.inl (VB x hx)),trivial⟩ (by simpa using(show m.blocks.length<100000000 from om)) λv9 g9 w2 cO tW eA=>?_
 exact fe G1 (Fr.of tW.aG (λx hx=>jV x (by rw[Hk];simp[hx]))) ((λx hx=>lL (rU x hx) tW.aG.size)) (⟨g9,by simpa using cO,fU.any.trans tW.aG,eA.imp id (λh=>⟨_,h,fU.size⟩)⟩)
 exact FZ
 intro x I3 G40 aR Vu ah1 hJ hlen
 obtain⟨q0,q1,q2,q3,aV⟩:=Mu hlen
 subst aV
 intro v6 d6
 have bj:=bj.go Vu
 change OW _ _ _ _ _ (bm (bg _ x _) (zZ 6 [_,_,_,_,_,_,_,_,_,_,_,_,_,_,_,_,_,_])) _
 obtain⟨g2,cO,ej,iT⟩:=hJ
 obtain⟨L2,fx,jo⟩:=hS.aeP cO ej iT
 obtain⟨a3,c3,e3⟩:=cO.len
 have e4:q3=_:=e3
 subst e4
 have bj:=bj.gX
 refine fz (o:=0) RS rfl rfl rfl bj rfl λnO gi bj df=>?_
 have fx:=fx.aG gi sm
 have hR:=((dQ.refl E L w).add jo ej (λx hx=>(tT x hx).1)).aD gi (fx.mem.2 (.inr (.inl rfl))) lN
 refine W ?_
 exact⟨_,rfl,L2,⟨_,_,_,_,_,_,_,_,bj,fx⟩,hR⟩
theorem aib {a:ai} (h:dN a=true):bW m s a=(m,kq s a):=by unfold bW;rw[iP h]
theorem CC (m:Mk) (k:ai):(m.da k).code.length=m.code.length:=rfl
theorem o9 (m:Mk) (h:ai) (ps:List ai):(m.cC h ps).code.length=m.code.length+1:=by simp[Mk.cC]
def AO (s:cE) (aK:List ai) (k:Nat):List ai:=(aK.take k).map λx=>aT (kq s x)
def yv (s:cE) (aK:List ai) (k:Nat):List ai:=(aK.take k).map λx=>bu (j4 s x)
theorem aic {aK:List ai} (h:k<aK.length):AO s aK (k+1)=AO s aK k++[aT (kq s (cv aK k))]:=by
 unfold AO;rw[List.take_add_one,jN h];simp
theorem aid {aK:List ai} (h:k<aK.length):yv s aK (k+1)=yv s aK k++[bu (j4 s (cv aK k))]:=by
 unfold yv;rw[List.take_add_one,jN h];simp
theorem aie {s:cE} {aK:List ai}:(AO s aK k).length<=aK.length:=by unfold AO;rw[List.length_map,List.length_take];omega
theorem aif {s:cE} {aK:List ai}:(yv s aK k).length<=aK.length:=by unfold yv;rw[List.length_map,List.length_take];omega
theorem aih (s:cE) (aK:List ai):AO s aK aK.length=aK.map λx=>aT (kq s x):=by simp[AO]
theorem aii (s:cE) (aK:List ai):yv s aK aK.length=aK.map λx=>bu (j4 s x):=by simp[yv]
theorem Od (h:(look (ew s) x).isSome=true):nP (jE s) (oR s) x [] (jE s).length=(j4 s x).text:=by
 have h1:=Up x (ew s)
 rw[Vw,Vx,MW h] at h1
 have e:(ew s).length=(jE s).length:=by simp[ew,jE]
 rw[e] at h1
 exact h1
theorem gq.sQ {τ:ss} {vb vt vc vy:Value} {gb gt gc gy:Option Nat} (h:gq τ E L w b o vb vt vc vy gb gt gc gy m) {x:Nat} (k:aj G w w') (hG:∀y,y∈G->y∈b::E) (hx:w.heap.size<=x) (uJ:x<w'.heap.size):gq τ (x::E) (x::L) w' b o vb vt vc vy gb gt gc gy m:=by
 obtain⟨a1,a2,a3,a4,a5,a6⟩:=h.apart
 have ry:∀x,x∈G->x∈L:=λx hx=>h.mem.2 (by rcases mC.1 (hG x hx) with h1|h1<;>simp[h1])
 have hF:Fr L w (x::L) w':=⟨k.mono ry,λy hy=>by
  rcases mC.1 hy with rfl|hy
  ·exact .inr hx
  ·exact .inl hy⟩
 have out:∀x,x∉E->x≠b->x∉G:=λx h1 h2 h3=>by
  rcases mC.1 (hG x h3) with h4|h4
  ·exact h2 h4
  ·exact h1 h4
 refine⟨h.bl.aG hF k (λx hx=>out x (a3 x hx).1 (a3 x hx).2),h.ta.aG hF k (λx hx=>out x (a4 x hx).1 (a4 x hx).2.1),?_,h.ty.aG k (λx hx=>out x (a6 x (by simp[hx])).1 (a6 x (by simp[hx])).2.1),by rw[h.eL];rfl,List.nodup_cons.2 ⟨λh2=>by have:=h.cD _ h2;omega,h.nd⟩,λy hy=>?_⟩
 ·rcases h.co with⟨ho,h1⟩|⟨ho,hn,h1⟩
  ·exact .inl ⟨ho,h1.aG k λx hx=>out x (a5 x (by simp[hx])).1 (a5 x (by simp[hx])).2.1⟩
  ·exact .inr ⟨ho,hn,h1.go hF⟩
 ·rcases mC.1 hy with rfl|hy
  ·exact uJ
  ·exact lL (h.cD y hy) k.size
theorem dC.sQ {τ:ss} (h:dC τ E L w b o m) {x:Nat} (k:aj G w w') (hG:∀y,y∈G->y∈E) (hx:w.heap.size<=x) (uJ:x<w'.heap.size):dC τ (x::E) (x::L) w' b o m:=by
 obtain⟨vb,vt,vc,vy,gb,gt,gc,gy,h1,h2⟩:=h
 exact⟨vb,vt,vc,vy,gb,gt,gc,gy,h1.aG k (λhx=>h2.apart.2.1 (hG b hx)),h2.sQ k (λx hx=>mK _ (hG x hx)) hx uJ⟩
theorem dC.VC {τ:ss}:∀{X L:List Nat},dC τ (X++E) L w b o m->∃L',L=X++L'∧dC τ E L' w b o m
 |[],L,h=>⟨L,rfl,h⟩
 |x::X,L,h=>by
  obtain⟨L1,e1,h1⟩:=dC.drop (E:=X++E) h
  obtain⟨L2,e2,h2⟩:=dC.VC h1
  exact⟨L2,by rw[e1,e2];rfl,h2⟩
theorem dC.nd {τ:ss} (h:dC τ E L w b o m):L.Nodup:=by
 obtain⟨_,_,_,_,_,_,_,_,_,h2⟩:=h
 exact h2.nd
theorem dC.sub {τ:ss} (h:dC τ E L w b o m) {x:Nat} (hx:x∈E):x∈L:=h.mem.1 x (mK _ hx)
structure qu (E L:List Nat) (w:World) (b:Nat) (m:Mk) (v1:Value) (g1:Option Nat) (qS:List ai) (v2:Value) (g2:Option Nat) (qv:List ai) (X L1:List Nat) (ww:World):Prop where
 mb:dC t8 (X++E) L1 ww b true m
 fe:dQ E L w L1 ww
 s1:cz ww 9 v1 g1 qS
 s2:cz ww 9 v2 g2 qv
 x1:∀x,x∈g1.toList->x∈X∧x∉g2.toList
 x2:∀x,x∈g2.toList->x∈X∧x∉g1.toList
 xE:∀x,x∈X->x∉E
def CD (E L:List Nat) (w:World) (b:Nat) (m:Mk) (v1:Value) (g1:Option Nat) (qS:List ai) (v2:Value) (g2:Option Nat) (qv:List ai) (ww:World):Prop:=∃X L1,qu E L w b m v1 g1 qS v2 g2 qv X L1 ww
section
variable {E L X L1 L2:List Nat} {w ww w':World} {b:Nat} {m:Mk} {v1 v2 v:Value} {g1 g2 g:Option Nat} {qS qv ys:List ai}
theorem qu.ext (h:qu E L w b m v1 g1 qS v2 g2 qv X L1 ww) (k:aj [] ww w'):qu E L w b m v1 g1 qS v2 g2 qv X L1 w':=⟨h.mb.ext k,h.fe.ext k,h.s1.ext k,h.s2.ext k,h.x1,h.x2,h.xE⟩
theorem qu.swap (h:qu E L w b m v1 g1 qS v2 g2 qv X L1 ww):qu E L w b m v2 g2 qv v1 g1 qS X L1 ww:=⟨h.mb,h.fe,h.s2,h.s1,h.x2,h.x1,h.xE⟩
theorem qu.Hl (h:qu E L w b m v1 g1 qS v2 g2 qv X L1 ww) (hO:cz w' 9 v g ys) (k:aj g1.toList ww w') (hg:g=g1∨∃x,g=some x∧ww.heap.size<=x):CD E L w b m v g ys v2 g2 qv w':=by
 have hX:∀x,x∈g1.toList->x∈X++E:=λx hx=>List.mem_append_left _ (h.x1 x hx).1
 have hL:∀x,x∈g1.toList->x∈L1:=λx hx=>h.mb.sub (hX x hx)
 have hF:dQ E L w L1 w':=h.fe.add (Fr.of k hL) k λx hx=>h.xE x (h.x1 x hx).1
 have h2:cz w' 9 v2 g2 qv:=h.s2.aG k λx hx hy=>(h.x2 x (by simp[hx])).2 hy
 rcases hg with rfl|⟨x,rfl,hx⟩
 ·exact⟨X,L1,⟨h.mb.aG k hX,hF,hO,h2,h.x1,h.x2,h.xE⟩⟩
 ·have kV:x<w'.heap.size:=hO.lt x sm
  refine⟨x::X,x::L1,⟨h.mb.sQ k hX hx kV,⟨⟨hF.fr.aG,λy hy=>?_⟩,hF.out⟩,hO,h2,λy hy=>?_,λy hy=>?_,λy hy=>?_⟩⟩
  ·rcases mC.1 hy with rfl|hy
   ·exact .inr (Nat.le_trans h.fe.fr.aG.size hx)
   ·exact hF.fr.mem y hy
  ·have e:y=x:=by simpa using hy
   subst e
   exact⟨by simp,λhh=>by have:=h.s2.lt y hh;omega⟩
  ·refine⟨mK _ (h.x2 y hy).1,λhh=>?_⟩
   have e:y=x:=by simpa using hh
   subst e
   have:=h.s2.lt y hy;omega
  ·rcases mC.1 hy with rfl|hy
   ·intro hE
    have:=h.mb.di y (h.mb.sub (mR _ hE));omega
   ·exact h.xE y hy
theorem qu.AF (h:qu E L w b m v1 g1 qS v2 g2 qv X L1 ww) (hO:cz w' 9 v g ys) (k:aj g2.toList ww w') (hg:g=g2∨∃x,g=some x∧ww.heap.size<=x):CD E L w b m v1 g1 qS v g ys w':=
 let⟨X,L1,h⟩:=h.swap.Hl hO k hg;⟨X,L1,h.swap⟩
theorem qu.call {m':Mk} (h:qu E L w b m v1 g1 qS v2 g2 qv X L1 ww) (hM:dC t8 (X++E) L2 w' b true m') (k:dQ (X++E) L1 ww L2 w'):qu E L w b m' v1 g1 qS v2 g2 qv X L2 w':=by
 obtain⟨G,kg,hG⟩:=k.out
 refine⟨hM,h.fe.add k.fr kg λx hx hE=>hG x hx (mR _ hE),h.s1.aG kg λx hx hy=>hG x hy (List.mem_append_left _ (h.x1 x (by simp[hx])).1),h.s2.aG kg λx hx hy=>hG x hy (List.mem_append_left _ (h.x2 x (by simp[hx])).1),h.x1,h.x2,h.xE⟩
theorem qu.done (h:qu E L w b m v1 g1 qS v2 g2 qv X L1 ww):∃L',dC t8 E L' ww b true m∧dQ E L w L' ww∧bc L' ww v1 qS∧bc L' ww v2 qv:=by
 obtain⟨L',e,h1⟩:=h.mb.VC
 have iV:=h.mb.nd
 rw[e,List.nodup_append] at iV
 have hs:∀x,x∈L'->x∈L1:=λx hx=>by rw[e];exact mR _ hx
 exact⟨L',h1,⟨⟨h.fe.fr.aG,λx hx=>h.fe.fr.mem x (hs x hx)⟩,h.fe.out⟩,h.s1.rep λx hx hy=>iV.2.2 x (h.x1 x (by simp[hx])).1 x hy rfl,h.s2.rep λx hx hy=>iV.2.2 x (h.x2 x (by simp[hx])).1 x hy rfl⟩
theorem CD.start {w2:World} (h:dC t8 E L w b true m) (k1:aj [] w w1) (aW:aJ w1 w.heap.size #[] 9) (k2:aj [] w1 w2) (aN:aJ w2 w1.heap.size #[] 9):CD E L w b m (.slice (some ⟨w.heap.size,0,none⟩) 0 0) (some w.heap.size) [] (.slice (some ⟨w1.heap.size,0,none⟩) 0 0) (some w1.heap.size) [] w2:=by
 have h1:=aW.lt
 have h2:=aN.lt
 have hl:=h.di
 refine⟨[w1.heap.size,w.heap.size],w1.heap.size::w.heap.size::L,⟨(h.sQ (E:=E) k1 sm (lR _) h1).sQ k2 sm (lR _) h2,⟨⟨(k1.trans k2).any,λx hx=>?_⟩,[],k1.trans k2,sm⟩,(aW.ext k2).kL,aN.kL,λx hx=>?_,λx hx=>?_,λx hx hE=>?_⟩⟩
 ·rcases mC.1 hx with rfl|hx
  ·right;omega
  ·rcases mC.1 hx with rfl|hx
   ·right;omega
   ·exact .inl hx
 ·simp at hx;subst hx;simp;omega
 ·simp at hx;subst hx;simp;omega
 ·have:=hl x (h.sub hE)
  simp at hx;rcases hx with rfl|rfl<;>omega
end
theorem nS {a:Option Addr} {c i:Nat} {xs:List ai} (h:bc L w (.slice a n c) xs) (hi:i<xs.length):∃b off,a=some ⟨b,off,none⟩∧fp L w b (off+i*1) [str (cv xs i)]:=by
 obtain⟨b,off,vs,ha,hb,hL,hl,hc,hr⟩:=yR h (Qr (jN hi))
 rw[Qs hr] at hc
 exact⟨b,off,ha,hc,hb,hL⟩
theorem mi {hd:ai} {ps:List ai} (hh:hd.length<=100) (hp:ps.length<=45) (hs:∀p,p∈ps->p.length<=20000):(dP hd ps).length<=1000000:=by
 have h1:=Aq (m:=20000) ps hs
 have h2:ps.length*20001<=45*20001:=Nat.mul_le_mul hp (lR _)
 rw[lD];omega
theorem lO (h:n<1000):(aT n).length<=20000:=by have:=sE h;omega
def AP (s:cE) (ton:Nat) (aK:List ai) (on:ai):List ai:=aK.map (λx=>aT (kq s x))++(if on≠[] then[aT ton] else[])
theorem aij (hs:jT s) {ton:Nat} (ht:ton<1000) {aK:List ai} {on:ai}:∀p,p∈AP s ton aK on->p.length<=3:=λp hp=>by
 unfold AP at hp
 rcases mA.1 hp with hp|hp
 ·obtain⟨x,_,rfl⟩:=List.mem_map.1 hp
  exact sE (Gi hs x)
 ·split at hp
  ·simp only[List.mem_singleton] at hp;rw[hp];exact sE ht
  ·simp at hp
theorem aik (s:cE) (ton:Nat) (aK:List ai) (on:ai):(AP s ton aK on).length<=aK.length+1:=by
 unfold AP
 rw[lA,List.length_map]
 split<;>simp
theorem ail (m:Mk) (s:cE) (ton:Nat) (aK:List ai) (on aM kind:ai) (ck:List ai) {R TY:List ai} {W C0 P0:ai} {r:Nat} (hR:R=AP s ton aK on) (AQ:TY=lE s aK on) (hW:W=dP [116] TY) (hC:C0=dP [99] (W::ck)) (hP:P0=dP [116] [C0,W]) (hr:r=m.types.length):
  oN m s ton aK on aM kind ck=⟨(((((((m.da W).cC ly (aT r::R)).da C0).cC sk [aT (r+1),aM]).da P0).cC ly [aT (r+2),aT (r+1),aT r]).da kind).cC sn [aT (r+3),aT (r+2),kind,W],r+3,W⟩:=by
 subst hP;subst hC;subst hW;subst AQ;subst hR;subst hr;rfl
theorem VD (t:Tk) (m:Mk) (aK:List ai) (on aM kind:ai) (ck:List ai) (fS:∀x,x∈aK->dN x=true∧(look (ew t.sc) x).isSome=true) (hs:jT t.sc) (oV:t.sc.length<=9000) (po:aK.length<=40) (qN:t.on<1000) (kx:on.length<=272) (Gm:aM.length<=10) (we:kind.length<=272) (dH:ck.length<=2) (I6:∀x,x∈ck->x.length<=272) (ht:m.types.length+4<1000) (hc:m.code.length<=8000) 
  (E L:List Nat) (b bt:Nat) (vn vd:Value) (w:World) (h:dC t8 E L w b true m) (hT:gI L w 166 bt t) (dU:bt∈E) (jI:bc L w vn aK) (tX:bc L w vd ck):
  bz Tryz.prog 243 [.pointer (some ⟨b,0,none⟩),.pointer (some ⟨bt,0,none⟩),vn,str on,str aM,str kind,vd] w λr w'=>r= .tuple #[.int .i64 ((oN m t.sc t.on aK on aM kind ck).r:Int),str (oN m t.sc t.on aK on aM kind ck).w]∧∃L',dC t8 E L' w' b true (oN m t.sc t.on aK on aM kind ck).m∧dQ E L w L' w':=by
 obtain⟨an,nn,cn,rfl,sG⟩:=dI jI
 obtain⟨ad,nd,cd,rfl,iV⟩:=dI tX
 obtain⟨R,Hm⟩:∃x,x=AP t.sc t.on aK on:=⟨_,rfl⟩
 obtain⟨TY,AQ⟩:∃x,x=lE t.sc aK on:=⟨_,rfl⟩
 obtain⟨W,hW⟩:∃x,x=dP [116] TY:=⟨_,rfl⟩
 obtain⟨C0,J2⟩:∃x,x=dP [99] (W::ck):=⟨_,rfl⟩
 obtain⟨P0,rV⟩:∃x,x=dP [116] [C0,W]:=⟨_,rfl⟩
 obtain⟨r,Hn⟩:∃r,r=m.types.length:=⟨_,rfl⟩
 obtain⟨c,Oe⟩:∃c,c=m.code.length:=⟨_,rfl⟩
 have t0:m.types.length=r:=Hn.symm
 have c0:m.code.length=c:=Oe.symm
 rw[ail m t.sc t.on aK on aM kind ck Hm AQ hW J2 rV Hn]
 have hWl:W.length<=11200:=by rw[hW,AQ];exact Gj hs po kx
 have hRl:R.length<=41:=by rw[Hm];have:=aik t.sc t.on aK on;omega
 have SS:TY.length<=41:=by rw[AQ];have:=Tj t.sc aK on;omega
 have Of:∀p,p∈R->p.length<=3:=by rw[Hm];exact aij hs qN
 have rW:∀p,p∈TY->p.length<=272:=by rw[AQ];exact Tl hs kx
 have hCl:C0.length<=12000:=by
  have h1:=Aq ck I6
  have h2:ck.length*(272+1)<=2*(272+1):=Nat.mul_le_mul dH (lR _)
  have h3:js (W::ck)=1+W.length+js ck:=by unfold js;simp;omega
  rw[J2,lD,h3];simp only[lC,List.length_nil];omega
 have J3:P0.length<=25000:=by rw[rV,lD,As];simp only[lC,List.length_nil];omega
 have ain:=h
 refine bX [.tmp 14,.tmp 15] 131 Tryz.func243 rfl acb rfl rfl ?_
 refine zr<|zA<|zA<|aZ<|zr<|fN bh bf λw1 aI BY ahd=>?_
 have Ho:=aI
 refine zA<|aZ<|zr<|fN bh bf λw2 az CE aio=>?_
 have hP:=CD.start ain Ho BY az CE
 refine zA<|aZ<|jq<|zr<|zA<|aZ<|r6<|eH (λq:Nat×(Value×Option Nat)×(Value×Option Nat)=>[(0,.pointer (some ⟨b,0,none⟩)),(1,.pointer (some ⟨bt,0,none⟩)),(2,.slice an nn cn),(3,str on),(4,str aM),(5,str kind),(6,.slice ad nd cd),(16,q.2.1.1),(17,q.2.2.1),(18,.int .i64 (q.1:Int))]) (λq w'=>CD E L w b m q.2.1.1 q.2.1.2 (AO t.sc aK q.1) q.2.2.1 q.2.2.2 (yv t.sc aK q.1) w'∧q.1<=aK.length) (λq=>aK.length-q.1) ((0,(.slice (some ⟨w.heap.size,0,none⟩) 0 0,some w.heap.size),(.slice (some ⟨w1.heap.size,0,none⟩) 0 0,some w1.heap.size))) (⟨rfl,rfl,rfl,rfl,rfl,rfl,rfl,rfl,rfl,rfl⟩) (⟨hP,sm⟩) λgg w3 e3 hI=>?_
 obtain⟨k,⟨vr,gr⟩,vt,gt⟩:=gg
 obtain⟨⟨X,L1,hX⟩,hk⟩:=hI
 dsimp only at hX hk
 refine jq<|zr<|zm<|zm<|Dm bh rfl rfl rfl<|HZ rfl rfl rfl rfl rfl<|aZ<|zc rfl (λh1=>?_) (λh1=>?_)
 have az:k<aK.length:=(by simp at h1;omega)
 have hx:=jN az
 have CF:=List.mem_of_getElem? hx
 have kV:=D3 (fS _ CF).1
 have aip:=jI.go hX.fe.fr
 have cK:=hX.fe.tk hT dU
 have aX:=mu aip hx
 obtain⟨b1,eR,e1,bF⟩:=aX
 cases e1
 refine WI ?_
 refine zi bh bf rfl rfl (by rw[sG];omega)<|zl fA rfl (bF 0 _ rfl)<|aA (Ao (cv aK k) w3) ?_
 rintro _ w4 ⟨rfl,aO⟩
 have fG:=aO.size
 have hX:=hX.ext aO
 refine aA (CB t (cv aK k) m om om om oV (X++E) L1 b bt _ _ _ w4 hX.mb (hX.fe.tk hT dU) (mR _ dU)) ?_
 rintro v41 w5 ⟨VE,L2,Hj,jo⟩
 rw[aib (fS _ CF).1] at VE Hj
 subst VE
 have hX:=hX.call Hj jo
 refine aA (iq (kq t.sc (cv aK k)+1) (kq t.sc (cv aK k)) om (by have:=Gi hs (cv aK k);omega) w5) ?_
 rintro _ w6 ⟨rfl,bO⟩
 have ox:=bO.size
 have hX:=hX.ext bO
 refine fF bh bf rfl rfl λw7 bV aiq oT=>?_
 have hX:=hX.ext bV
 refine rM bh bf rfl rfl rfl rfl rfl rfl hX.s1 aiq (by have:=aie (s:=t.sc) (aK:=aK) (k:=k);omega) λv9 g9 w8 cO cA eA=>?_
 rw[<-aic az] at cO
 have aX:=hX.Hl cO cA (eA.imp id (λh=>⟨_,h,lR _⟩))
 obtain⟨X2,L2,hX⟩:=aX
 have VF:=hX
 have fu:∀x,x∈gt.toList->x∈L2:=(λx hx=>hX.mb.sub (List.mem_append_left _ (hX.x2 x hx).1))
 have aX:=hX.fe.tk hT dU
 obtain⟨u1,u3,u4,u5,u6,u8,yu,hC⟩:=aX
 have cZ:dL gt.toList w8 bt [str t.aM,u1,.int .i64 (t.loads:Int),u3,u4,u5,u6,str t.expr.aq.aw,u8,.int .i64 (t.on:Int),str t.aU,.int .i64 (t.next:Int)].toArray 166:=⟨yu,λhx=>hX.xE bt (hX.x2 bt hx).1 dU⟩
 have Gy:bc gt.toList w8 u4 (jE t.sc):=bc.fresh hC.aK (λx hx=>.inl (fu x hx))
 have Og:bc gt.toList w8 u6 (oR t.sc):=bc.fresh hC.types (λx hx=>.inl (fu x hx))
 have yw:bc gt.toList w8 (.slice (some ⟨b1,eR,none⟩) nn cn) aK:=bc.fresh (jI.go hX.fe.fr) (λx hx=>.inl (fu x hx))
 have aX:=nS yw az
 obtain⟨b2,l5,e2,bU⟩:=aX
 cases e2
 have pP:eJ gt.toList w8:=(λx hx=>hX.s2.lt x hx)
 refine zA<|aZ ?_
 apply jF cT gt.toList 17 (rA 45 17) (rA 45 17) [[],[],[1],[2],[3],[],[5],[6],[7],[],[],[9,10],[11],[4,8,12],[13],[14],[0,15]] [Ie.v _,Ie.v _,Ie.v _,Ie.v _,Ie.v _,Ie.v _,Ie.v _,Ie.v _,Ie.v _,Ie.v _,Ie.v _,Ie.v _,Ie.v _,Ie.v _,Ie.v _,Ie.p (fun(G:List Nat) (v:Value) (ww:World)=>∃bb,v= .slice (some ⟨bb,0,none⟩) 1 1∧dL G ww bb [str (bu (j4 t.sc (cv aK k)))].toArray 9),Ie.e 0] [16] [fun(G:List Nat) (vs:List Value) (ww:World)=>G=gt.toList∧aj [] w8 ww,fun(G:List Nat) (vs:List Value) (ww:World)=>∃g2,cz ww 9 (vs.getD 0 undef) g2 (yv t.sc aK (k+1))∧aj gt.toList w8 ww∧(g2=gt∨∃x,g2=some x∧w8.heap.size<=x)] de rfl pP (by exact⟨λG v w G' w' ⟨bb,e,h⟩ k=>⟨bb,e,h.go k⟩,trivial⟩) (by exact⟨λG vs w w' ⟨h1,h2⟩ k=>⟨h1,h2.ext k⟩,λG vs w w' ⟨g2,h1,h2,h3⟩ k=>⟨g2,h1.ext k,h2.ext k,h3⟩,trivial⟩) (⟨rfl,aj.refl _ _⟩)
 refine vf (λ_ _ _ _ _ _=>WZ fv) ?_
 refine vf (λ_ _ _ _ _ _=>WZ fv) ?_
 refine vf (λ_ _ _ _ _ _=>WZ fv) ?_
 refine vf (λ_ _ _ _ _ _=>WZ fv) ?_
 refine vf (λx w9 G9 aR cR mP=>?_) ?_
 have cZ:=cZ.go cR
 refine WZ ?_
 exact fv
 refine vf (λ_ _ _ _ _ _=>WZ fv) ?_
 refine vf (λ_ _ _ _ _ _=>WZ fv) ?_
 refine vf (λ_ _ _ _ _ _=>WZ fv) ?_
 refine FA ?_
 refine vf (λx w9 G9 aR cR mP=>?_) ?_
 have Gy:=Gy.go cR;have Og:=Og.go cR
 refine aA (GB (jE t.sc) (oR t.sc) (by simp[jE,oR]) (by simp[jE];omega) (cv aK k) _ _ _ _ w9 Gy Og) ?_
 rintro _ bZ ⟨rfl,cj⟩
 have yl:=cj.size
 exact fk cj
 refine vf (λx w9 G9 aR cR mP=>?_) ?_
 refine aA ((Od (fS _ CF).2▸vh (j4 t.sc (cv aK k)) (by have:=I5 hs (cv aK k);omega) w9)) ?_
 rintro _ bZ ⟨rfl,cj⟩
 have yl:=cj.size
 exact fk cj
 refine vf (λx w9 G9 aR cR mP=>?_) ?_
 refine fF bh bf rfl rfl λbZ cj Hp xN=>?_
 exact ff cj (⟨_,rfl,Hp.o mP⟩)
 refine ve 0 (λx w9 G9 aR cR mP hJ hlen=>?_) ?_
 have aV:=jj hlen
 subst aV
 intro AH d15
 obtain⟨bb,e6,fH⟩:=d15
 subst e6
 obtain⟨bP,bS⟩:=hJ
 subst bP
 have air:=VF.s2.ext bS
 refine rM bh bf rfl rfl rfl rfl rfl rfl air fH.gX (by have:=aif (s:=t.sc) (aK:=aK) (k:=k);omega) λv9 g9 bZ cO aC eA=>?_
 rw[<-aid az] at cO
 exact fe g9.toList (⟨aC,λx hx=>by rcases eA with h|h;(·rw[h] at hx;exact .inl hx);(·rw[h] at hx;simp at hx;right;omega)⟩) ((λx hx=>cO.lt x hx)) (⟨g9,cO,bS.any.trans aC,eA.imp id (λh=>⟨_,h,bS.size⟩)⟩)
 exact trivial
 intro x lH JE aR Ek NC hJ hlen
 have aX:=jk hlen
 obtain⟨q0,aV⟩:=aX
 subst aV
 intro AH d15
 change OW _ _ _ _ _ (bm (bg _ x _) (zZ 45 [_,_,_,_,_,_,_,_,_,_,_,_,_,_,_,_,_])) _
 obtain⟨g2,cO,aC,eA⟩:=hJ
 have Oh:=VF.AF cO aC eA
 refine zA<|aZ<|lp<|zm<|nU rfl rfl rfl rfl rfl (wrap_i64 _ om om)<|zA<|aZ ?_
 exact⟨(k+1,(_,_),(_,g2)),⟨rfl,rfl,rfl,rfl,rfl,rfl,rfl,rfl,rfl,rfl⟩,⟨Oh,by show k+1<=_;omega⟩,by show aK.length-(k+1)<aK.length-k;omega⟩
 have ej:k=aK.length:=(by simp at h1;omega)
 subst ej
 rw[aih,aii] at hX
 refine yP<|yQ rfl<|jq<|zr<|zm<|H2 rfl rfl rfl rfl<|aZ<|iD (λq:(Value×Option Nat)×(Value×Option Nat)=>[(0,.pointer (some ⟨b,0,none⟩)),(4,str aM),(5,str kind),(6,.slice ad nd cd),(16,q.1.1),(17,q.2.1)]) (λq ww=>CD E L w b m q.1.1 q.1.2 R q.2.1 q.2.2 TY ww) ?_ ?_
 refine zc rfl (λh2=>?_) (λh2=>?_)
 have Hq:on≠[]:=(by simpa using h2)
 have Oi:aK.map (λx=>aT (kq t.sc x))++[aT t.on]=R:=(by rw[Hm];unfold AP;rw[iP Hq])
 have Oj:aK.map (λx=>bu (j4 t.sc x))++[on]=TY:=(by rw[AQ];unfold lE;rw[iP Hq])
 have aX:=hX.fe.tk hT dU
 obtain⟨u1,u3,u4,u5,u6,u8,yu,hC⟩:=aX
 have cZ:aJ w3 bt [str t.aM,u1,.int .i64 (t.loads:Int),u3,u4,u5,u6,str t.expr.aq.aw,u8,.int .i64 (t.on:Int),str t.aU,.int .i64 (t.next:Int)].toArray 166:=yu
 refine zr<|zm<|zm<|E6 rfl rfl rfl<|zf RL rfl<|zl LQ rfl (cZ.at rfl)<|aA (iq (t.on+1) t.on om om w3) ?_
 rintro _ w4 ⟨rfl,aO⟩
 have fG:=aO.size
 have hX:=hX.ext aO
 refine fF bh bf rfl rfl λw5 aP Ok iI=>?_
 have hX:=hX.ext aP
 refine rM bh bf rfl rfl rfl rfl rfl rfl hX.s1 Ok so λv9 g9 w6 cO bO eA=>?_
 rw[Oi] at cO
 have aX:=hX.Hl cO bO (eA.imp id (λh=>⟨_,h,lR _⟩))
 obtain⟨X3,L3,hX⟩:=aX
 refine zA<|aZ<|lp<|zm<|zm<|fF bh bf rfl rfl λw7 bV Ol oT=>?_
 have hX:=hX.ext bV
 refine rM bh bf rfl rfl rfl rfl rfl rfl hX.s2 Ol so λv10 g10 w8 VG cA ais=>?_
 rw[Oj] at VG
 have Oh:=hX.AF VG cA (ais.imp id (λh=>⟨_,h,lR _⟩))
 refine zA<|aZ ?_
 exact⟨((_,g9),(_,g10)),⟨rfl,rfl,rfl,rfl,rfl,rfl⟩,Oh⟩
 have Hq:¬on≠[]:=(by simpa using h2)
 have Oi:aK.map (λx=>aT (kq t.sc x))=R:=(by rw[Hm];unfold AP;rw[iN Hq,List.append_nil])
 have Oj:aK.map (λx=>bu (j4 t.sc x))=TY:=(by rw[AQ];unfold lE;rw[iN Hq,List.append_nil])
 rw[Oi,Oj] at hX
 refine WZ ?_
 exact⟨((_,_),(_,_)),⟨rfl,rfl,rfl,rfl,rfl,rfl⟩,_,_,hX⟩
 intro gu w4 e4 hI
 obtain⟨⟨vr2,gr2⟩,B1,gt2⟩:=gu
 dsimp only at hI⊢
 obtain⟨X2,L2,hX2⟩:=hI
 have aX:=hX2.done
 obtain⟨L0,av,hR,yx,eM⟩:=aX
 refine zr<|zm<|aA ((show bz Tryz.prog 135 [str [116],B1] w4 (λr w'=>r=str W∧aj [] w4 w') from by rw[hW];exact xR [116] TY (by rw[<-hW];omega) _ _ w4 eM)) ?_
 rintro _ w5 ⟨rfl,aP⟩
 have og:=aP.size
 refine cG aP av hR yx λav hR yx=>?_
 refine zA<|aZ<|zr<|zm<|zm<|aA (rS W m om E L0 b true w5 av) ?_
 rintro v10 w6 ⟨fm,L1,av,bD⟩
 rw[t0] at fm
 subst fm
 have hR:=hR.go bD
 have ij:∃x,x=m.da W:=⟨_,rfl⟩
 obtain⟨m1,lj⟩:=ij
 rw[<-lj] at av
 have t1:m1.types.length=r+1:=(by rw[lj,xX];omega)
 have c1:m1.code.length=c+0:=(by rw[lj,CC];omega)
 have cU:=av.di
 have yx:=yx.go bD.fr
 refine zA<|aZ<|zr<|zm<|zm<|aA (iq (r+1) r om om w6) ?_
 rintro _ w7 ⟨rfl,bV⟩
 have ov:=bV.size
 refine cG bV av hR yx λav hR yx=>?_
 have cU:=av.di
 refine fF bh bf rfl rfl λw8 cA EC kG=>cG cA av hR yx λav hR yx=>?_
 refine zm<|aA (tL [aT r] R so _ _ L1 w8 (aJ.dK [aT r] EC (λhx=>by have:=cU _ hx;omega)) yx av.di) ?_
 rintro v9 w9 ⟨eN,aC⟩
 have oZ:=aC.size
 refine cG aC av hR EC λav hR EC=>?_
 have VH:=eN
 have aX:=dI VH
 obtain⟨a13,n13,c13,EB,_⟩:=aX
 subst EB
 clear EC
 refine aA (kJ ly ([aT r]++R) (mi de so (by intro p hp;rcases mA.1 hp with hp|hp;(·simp at hp;subst hp;exact lO om);(·have:=Of p hp;omega))) m1 om E L1 b _ w9 av VH) ?_
 rintro jA bZ ⟨L2,av,bD⟩
 have hR:=hR.go bD
 have fh:∃x,x=m1.cC ly ([aT r]++R):=⟨_,rfl⟩
 obtain⟨m2,lk⟩:=fh
 rw[<-lk] at av
 have t2:m2.types.length=r+1:=(by rw[lk,ot];omega)
 have c2:m2.code.length=c+1:=(by rw[lk,o9];omega)
 have cU:=av.di
 have Om:=tX.go hR.fr
 refine aZ<|zr<|zm<|fF bh bf rfl rfl λey cS J4 rC=>cG cS av hR Om λav hR Om=>?_
 refine zm<|aA (tL [W] ck so _ _ L2 ey (aJ.dK [W] J4 (λhx=>by have:=cU _ hx;omega)) Om av.di) ?_
 rintro v12 fa ⟨Hr,cV⟩
 have Ct:=cV.size
 refine cG cV av hR J4 λav hR J4=>?_
 have VI:=Hr
 have aX:=dI VI
 obtain⟨a14,n14,c14,gR,_⟩:=aX
 subst gR
 clear J4
 refine aA ((show bz Tryz.prog 135 [str [99],.slice a14 n14 c14] fa (λr w'=>r=str C0∧aj [] fa w') from by rw[J2];exact xR [99] (W::ck) (by rw[<-J2];omega) _ _ fa VI)) ?_
 rintro _ jf ⟨rfl,gw⟩
 have Hi:=gw.size
 refine bI gw av hR λav hR=>?_
 refine zA<|aZ<|zr<|zm<|zm<|aA (rS C0 m2 om E L2 b true jf av) ?_
 rintro v10 ix ⟨fm,L3,av,bD⟩
 rw[t2] at fm
 subst fm
 have hR:=hR.go bD
 have yy:∃x,x=m2.da C0:=⟨_,rfl⟩
 obtain⟨m3,ll⟩:=yy
 rw[<-ll] at av
 have t3:m3.types.length=r+2:=(by rw[ll,xX];omega)
 have c3:m3.code.length=c+1:=(by rw[ll,CC];omega)
 have cU:=av.di
 refine zA<|aZ<|zr<|zm<|zm<|aA (iq ((r+1)+1) (r+1) om om ix) ?_
 rintro _ o7 ⟨rfl,jg⟩
 have J6:=jg.size
 refine bI jg av hR λav hR=>?_
 have cU:=av.di
 refine zm<|kK bh bf rfl rfl rfl rfl λlh mQ CG GK=>bI mQ av hR λav hR=>?_
 refine aA (kJ sk [aT (r+1),aM] (mi de sm (by intro p hp;simp at hp;rcases hp with rfl|rfl;(·exact lO om);(·omega))) m3 om E L3 b _ lh av (aJ.dK [aT (r+1),aM] CG (λhx=>by have:=cU _ hx;omega))) ?_
 rintro jA CA ⟨L4,av,bD⟩
 have hR:=hR.go bD
 clear CG
 have CH:∃x,x=m3.cC sk [aT (r+1),aM]:=⟨_,rfl⟩
 obtain⟨m4,oD⟩:=CH
 rw[<-oD] at av
 have t4:m4.types.length=r+2:=(by rw[oD,ot];omega)
 have c4:m4.code.length=c+2:=(by rw[oD,o9];omega)
 have cU:=av.di
 refine aZ<|zr<|zm<|zm<|zm<|kK bh bf rfl rfl rfl rfl λwP CI J7 NX=>bI CI av hR λav hR=>?_
 refine aA ((show bz Tryz.prog 135 [str [116],_] wP (λr w'=>r=str P0∧aj [] wP w') from by rw[rV];exact xR [116] [C0,W] (by rw[<-rV];omega) _ L4 wP (aJ.dK [C0,W] J7 (λhx=>by have:=cU _ hx;omega)))) ?_
 rintro _ CJ ⟨rfl,AR⟩
 have apB:=AR.size
 refine cG AR av hR J7 λav hR J7=>?_
 clear J7
 refine aA (rS P0 m4 om E L4 b true CJ av) ?_
 rintro v10 vq ⟨fm,L5,av,bD⟩
 rw[t4] at fm
 subst fm
 have hR:=hR.go bD
 have Oo:∃x,x=m4.da P0:=⟨_,rfl⟩
 obtain⟨m5,yA⟩:=Oo
 rw[<-yA] at av
 have t5:m5.types.length=r+3:=(by rw[yA,xX];omega)
 have c5:m5.code.length=c+2:=(by rw[yA,CC];omega)
 have cU:=av.di
 refine zA<|aZ<|zr<|zm<|zm<|aA (iq ((r+2)+1) (r+2) om om vq) ?_
 rintro _ qT ⟨rfl,wQ⟩
 have apC:=wQ.size
 refine bI wQ av hR λav hR=>?_
 have cU:=av.di
 refine zm<|aA (iq ((r+1)+1) (r+1) om om qT) ?_
 rintro _ J8 ⟨rfl,Hs⟩
 have apD:=Hs.size
 refine bI Hs av hR λav hR=>?_
 have cU:=av.di
 refine zm<|aA (iq (r+1) r om om J8) ?_
 rintro _ VJ ⟨rfl,J9⟩
 have apE:=J9.size
 refine bI J9 av hR λav hR=>?_
 have cU:=av.di
 refine pI bh bf rfl rfl rfl rfl rfl λw24 AS Ka aiy=>bI AS av hR λav hR=>?_
 refine aA (kJ ly [aT (r+2),aT (r+1),aT r] (mi de sm (by intro p hp;simp at hp;rcases hp with rfl|rfl|rfl<;>exact lO om)) m5 om E L5 b _ w24 av (aJ.dK [aT (r+2),aT (r+1),aT r] Ka (λhx=>by have:=cU _ hx;omega))) ?_
 rintro jA w25 ⟨L6,av,bD⟩
 have hR:=hR.go bD
 clear Ka
 have Oq:∃x,x=m5.cC ly [aT (r+2),aT (r+1),aT r]:=⟨_,rfl⟩
 obtain⟨m6,yB⟩:=Oq
 rw[<-yB] at av
 have t6:m6.types.length=r+3:=(by rw[yB,ot];omega)
 have c6:m6.code.length=c+3:=(by rw[yB,o9];omega)
 have cU:=av.di
 refine aZ<|zr<|zm<|zm<|aA (rS kind m6 om E L6 b true w25 av) ?_
 rintro v10 w26 ⟨fm,L7,av,bD⟩
 rw[t6] at fm
 subst fm
 have hR:=hR.go bD
 have hx7:∃x,x=m6.da kind:=⟨_,rfl⟩
 obtain⟨m7,Kb⟩:=hx7
 rw[<-Kb] at av
 have t7:m7.types.length=r+4:=(by rw[Kb,xX];omega)
 have c7:m7.code.length=c+3:=(by rw[Kb,CC];omega)
 have cU:=av.di
 refine zA<|aZ<|zr<|zm<|zm<|aA (iq ((r+3)+1) (r+3) om om w26) ?_
 rintro _ w27 ⟨rfl,VK⟩
 have apF:=VK.size
 refine bI VK av hR λav hR=>?_
 have cU:=av.di
 refine zm<|aA (iq ((r+2)+1) (r+2) om om w27) ?_
 rintro _ w28 ⟨rfl,VL⟩
 have apH:=VL.size
 refine bI VL av hR λav hR=>?_
 have cU:=av.di
 refine zm<|zm<|xV bh bf rfl rfl rfl rfl rfl rfl λw29 aiE VM Jx=>bI aiE av hR λav hR=>?_
 refine aA (kJ sn [aT (r+3),aT (r+2),kind,W] (mi de sm (by intro p hp;simp at hp;rcases hp with rfl|rfl|rfl|rfl;(·exact lO om);(·exact lO om);(·omega);(·omega))) m7 om E L7 b _ w29 av (aJ.dK [aT (r+3),aT (r+2),kind,W] VM (λhx=>by have:=cU _ hx;omega))) ?_
 rintro jA w30 ⟨L8,av,bD⟩
 have hR:=hR.go bD
 clear VM
 have VN:∃x,x=m7.cC sn [aT (r+3),aT (r+2),kind,W]:=⟨_,rfl⟩
 obtain⟨m8,Kc⟩:=VN
 rw[<-Kc] at av
 have t8:m8.types.length=r+4:=(by rw[Kc,ot];omega)
 have c8:m8.code.length=c+4:=(by rw[Kc,o9];omega)
 have cU:=av.di
 refine aZ<|zr<|zm<|zm<|zA<|zA<|aZ<|jJ ?_
 subst Kc Kb yB yA oD ll lk lj
 exact⟨_,rfl,rfl,_,av,hR⟩
theorem VO {i:Nat} {aK:List ai} (h:i<aK.length):im s k (aK.take (i+1)) []=im s k (aK.take i) []++[(cv aK i,k+i,j4 s (cv aK i))]:=by grind [im,jN,List.take_add_one,Option.toList_some,List.length_take,Nat.min_eq_left,Nat.le_of_lt]
def qw:Ex:=.bi [43] (.at [49]) (.at [50])
def Kd:ai:=[40,43,32,49,32,50,41]
theorem aiF:nv qw=some qw:=rfl
theorem Ot:qw.ok:=by refine⟨by decide,?_,?_⟩<;>(show p9 _=true;decide+kernel)
theorem VP:qw.aq.text=Kd:=by decide+kernel
theorem VQ:bB Kd=some qw.aq:=by
 rw[<-VP]
 exact Lv (Ex.wf Ot) (by decide+kernel) (by decide+kernel)
theorem type12:bw qw []=some .i:=by rfl
theorem aiG:(ofM qw .i).wide=false:=by decide+kernel
theorem aiH:gk (ofM qw .i).blocks=true:=by decide+kernel
theorem aiI (e:Ex):Fv x e->dN x=true:=by
 induction e with
 |«at» s=>exact λh=>h.2
 |un hd a ih=>exact ih
 |bi hd a b i1 i2=>exact λh=>h.elim i1 i2
 |ite a b c i1 i2 i3=>exact λh=>h.elim i1 λh=>h.elim i2 i3
 |lt y a b i1 i2=>exact λh=>h.elim i1 λh=>i2 h.2
 |fn f y A B e ih=>exact λh=>ih h.2.2
theorem VR {bd:List ai} (h:x∈cI e bd []):dN x=true:=by
 rcases(BI x e bd []).1 h with h|h
 ·simp at h
 ·exact aiI _ h.1
theorem VS (x0:ByteArray) (a1:Option Addr) (n1 c1:Nat) (x2:Int) (x7:ByteArray) (a8:Option Addr) (n8 c8:Nat) (x9:Int) (ED:ByteArray) (VT:Int) (w:World):(Instr.build 166 #[(0,.string x0),(1,.slice a1 n1 c1),(2,.int .i64 x2),(7,.agg #[.string x7,.slice a8 n8 c8]),(8,.int .i64 x9),(9,.string ED),(10,.int .i64 VT)]).run Tryz.prog w= .ok (.agg #[.string x0,.slice a1 n1 c1,.int .i64 x2,.slice none 0 0,.slice none 0 0,.slice none 0 0,.slice none 0 0,.string x7,.slice a8 n8 c8,.int .i64 x9,.string ED,.int .i64 VT]) w:=by kernel_rfl
def sR (X G:List Nat) (w:World) (v:Value) (xs:List ai):Prop:=bc (X++G) w v xs
theorem sR.go {X G':List Nat} {v:Value} {xs:List ai} (h:sR X G w v xs) (k:Fr G w G' w'):sR X G' w' v xs:=bc.go h (k.in X)
theorem Ke {X:List Nat} {w0:World} (h:∀x,x∈X->x<w0.heap.size) (hs:w0.heap.size<=w.heap.size) (hG:eJ G w):∀x,x∈X++G->x<w.heap.size:=λx hx=>by
 rcases mA.1 hx with h1|h1
 ·exact lL (h x h1) hs
 ·exact hG x h1
theorem dQ.more {L1:List Nat} {w2:World} (h:dQ E L w L1 w1) {x:Nat} (k:aj G w1 w2) (hG:∀y,y∈G->w1.heap.size<=y) (hx:w1.heap.size<=x) (hE:∀y,y∈E->y<w1.heap.size):dQ E L w (x::L1) w2:=by
 have k2:aj [] w1 w2:=(aj.refl [] w1).since k λy hy=>.inr (hG y hy)
 have h1:=h.ext k2
 exact⟨⟨h1.fr.aG,λy hy=>by
  rcases mC.1 hy with rfl|hy
  ·exact .inr (Nat.le_trans h.fr.aG.size hx)
  ·exact h.fr.mem y hy⟩,h1.out⟩
theorem dQ.sub {L1 L2:List Nat} (h:dQ E L w L1 w1) (hs:∀x,x∈L2->x∈L1):dQ E L w L2 w1:=⟨⟨h.fr.aG,λx hx=>h.fr.mem x (hs x hx)⟩,h.out⟩
def tY (aM:ai) (W:ai) (nd:List ai) (FR:List ai) (rest:Ex) (aU:ai) (sc:cE):Tk:=⟨aM,W::nd,FR.length+1,[],sc,rest,2+FR.length,aU,2⟩
theorem aiJ (m:Mk) (s:cE) (ton:Nat) (aU name:ai) (kind:Ty) (rest:Ex) {FR:List ai} (hF:FR=cI rest [name] []) (hP:P=oN m.k7 s ton FR aU m.aM (dx (bu kind)) [bu kind]):
  tw m s ton aU name kind rest=({P.m with bJ:=m.bJ++[tY m.aM P.w [bu kind] FR rest aU (im s 2 FR []++[(name,1,kind)])]},P.r,dx (bu kind)):=by
 subst hP;subst hF;rfl
theorem VU {ton:Nat} {aK:List ai} {on aM kind:ai} {ck:List ai} (hP:P=oN m.k7 s ton aK on aM kind ck):P.m.bJ=m.bJ∧P.r=m.types.length+3∧P.w=dP [116] (lE s aK on):=by
 subst hP;exact⟨rfl,rfl,rfl⟩
theorem VV (t:Tk) (m:Mk) (name:ai) (kind:Ty) (rest:Ex) (ba:rest.ok) (mN:rest.n<=1000) (sF:∀x,x∈cI rest [name] []->(look (ew t.sc) x).isSome=true) (oW:(cI rest [name] []).length<=40) (hs:jT t.sc) (oV:t.sc.length<=9000) (hk:kind.n<=16) (qN:t.on<1000) (kx:t.aU.length<=272) (ht:m.types.length+4<1000) (hc:m.code.length<=8000) (wR:m.count<1000) (fE:m.bJ.length<100000) 
  (E L:List Nat) (b bt:Nat) (v:Value) (w:World) (h:dC t8 E L w b true m) (hT:gI L w 166 bt t) (dU:bt∈E) (hv:bC L w v rest.aq):
  bz Tryz.prog 223 [.pointer (some ⟨b,0,none⟩),.pointer (some ⟨bt,0,none⟩),str name,str kind.text,v] w λr w'=>∃L',dC t8 E L' w' b true (tw m t.sc t.on t.aU name kind rest).1∧gI L' w' 166 bt {t with on:=(tw m t.sc t.on t.aU name kind rest).2.1,aU:=(tw m t.sc t.on t.aU name kind rest).2.2}∧Fr L w L' w'∧∃G,aj G w w'∧∀z,z∈G->z∈E->z=bt:=by
 obtain⟨ar,nr,cr,rfl,pW,aQ⟩:=dj hv
 have ln:=h.di
 obtain⟨FR,yC⟩:∃x,x=cI rest [name] []:=⟨_,rfl⟩
 obtain⟨P,hP⟩:∃x,x=oN m.k7 t.sc t.on FR t.aU m.aM (dx (bu kind)) [bu kind]:=⟨_,rfl⟩
 rw[aiJ m t.sc t.on t.aU name kind rest yC hP]
 obtain⟨Ht,AT,hPw⟩:=VU hP
 rw[<-yC] at oW sF
 have fS:∀x,x∈FR->dN x=true∧(look (ew t.sc) x).isSome=true:=λx hx=>⟨VR (by rw[<-yC];exact hx),sF x hx⟩
 have fZ:=pJ hk
 have po:=tI hk
 have Hu:=Au wR
 have hK:=aj.refl [] w
 have kh:b∉E:=h.mem.2.2.1
 have EE:b∈L:=h.mem.1 b sm
 refine bX [] 109 Tryz.func223 rfl ab1 rfl rfl ?_
 refine zr<|eu rfl λw1 aI cY db=>?_
 have hK:=hK.ext aI
 refine W ?_
 refine fF bh bf rfl rfl λw2 az sO dJ=>bI az hK cY λhK cY=>?_
 refine fN bh bf λw3 aH uQ gv=>cG aH hK cY sO λhK cY sO=>?_
 refine aA (Jn rest.n rest (lR _) mN ba [name] [] so so _ _ _ (some w2.heap.size) w3 ((hv.fresh (L':=[w2.heap.size]) (λx hx=>.inr (by simp at hx;omega))).ext hK) (aJ.dK [name] sO (λhx=>by simp at hx;omega)) uQ.kL) ?_
 rintro Kf w4 ⟨g22,Hv,AU⟩
 rw[<-yC] at Hv
 have gL:aj [] w w4:=(hK.since AU.aG (λx hx=>.inr (by simp at hx;omega)))
 have Ou:∀x,x∈g22.toList->w.heap.size<=x:=(λx hx=>by rcases AU.mem x hx with h9|h9;(·simp at h9;omega);(·omega))
 have gS:bc L w4 Kf FR:=Hv.rep (λx hx Ov=>by have:=Ou x (by simp[hx]);have:=ln x Ov;omega)
 have aX:=dI gS
 obtain⟨Ow,n22,Ox,Oy,Oz⟩:=aX
 subst Oy
 subst Oz
 have cY:dL L w4 w.heap.size [str rest.aq.aw,.slice ar nr cr].toArray 74:=⟨cY.aG AU.aG so,λhx=>by have:=ln _ hx;omega⟩
 have av:=h.ext gL
 have hR:=(dQ.refl E L w).ext gL
 clear sO uQ
 refine W ?_
 refine aA (Oa m om E L b true w4 av) ?_
 rintro v24 w5 ⟨⟨OB,av⟩,AS⟩
 subst OB
 have hR:=hR.aD AS EE kh
 have gS:=bN.aD gS AS (by simpa using EE)
 have cY:=cY.aD AS (by simpa using EE)
 refine W ?_
 refine aA (vh kind om w5) ?_
 rintro _ w6 ⟨rfl,bO⟩
 have ox:=bO.size
 refine gQ bO cY av hR gS λcY av hR gS=>?_
 refine aA (Hg (bu kind) om w6) ?_
 rintro _ w7 ⟨rfl,bV⟩
 have ov:=bV.size
 refine gQ bV cY av hR gS λcY av hR gS=>?_
 have cU:=av.di
 refine W ?_
 refine aA (vh kind om w7) ?_
 rintro _ w8 ⟨rfl,cA⟩
 have yk:=cA.size
 refine gQ cA cY av hR gS λcY av hR gS=>?_
 have cU:=av.di
 refine fF bh bf rfl rfl λw9 aC AV df=>gQ aC cY av hR gS λcY av hR gS=>?_
 refine W ?_
 have tX:bc L w9 _ [bu kind]:=aJ.dK [bu kind] AV (λhx=>by have:=cU _ hx;omega)
 have aX:=hR.tk hT dU
 obtain⟨u1,u3,u4,u5,u6,u8,yu,hC⟩:=aX
 have cZ:aJ w9 bt [str t.aM,u1,.int .i64 (t.loads:Int),u3,u4,u5,u6,str t.expr.aq.aw,u8,.int .i64 (t.on:Int),str t.aU,.int .i64 (t.next:Int)].toArray 166:=yu
 refine W ?_
 refine aA (VD t m.k7 FR t.aU m.aM (dx (bu kind)) [bu kind] fS hs oV oW qN kx om om sm (by intro x hx;simp at hx;subst hx;omega) ht hc E L b bt _ _ w9 av (hR.tk hT dU) dU gS tX) ?_
 rintro v42 bZ ⟨yc,L1,av,bD⟩
 rw[<-hP] at yc av
 subst yc
 have hR:=hR.go bD;have gS:=gS.go bD.fr;have tX:=tX.go bD.fr;have cY:=cY.go bD.fr
 have aiN:dL [] bZ w.heap.size [str rest.aq.aw,.slice ar nr cr].toArray 74:=⟨cY.gX,sm⟩
 have yw:sR L1 [] bZ _ [bu kind]:=(by unfold sR;rw[List.append_nil];exact tX)
 have aX:=hR.tk hT dU
 obtain⟨u1,u3,u4,u5,u6,u8,yu,hC⟩:=aX
 have cZ:dL [] bZ bt [str t.aM,u1,.int .i64 (t.loads:Int),u3,u4,u5,u6,str t.expr.aq.aw,u8,.int .i64 (t.on:Int),str t.aU,.int .i64 (t.next:Int)].toArray 166:=⟨yu,sm⟩
 have tZ:=av.di
 have apJ:=cY
 have cY:=aiN
 have Hw:=gS
 have lM:=av
 have tV:=hR
 clear AV
 refine W ?_
 apply jF cT ([]) 18 (rA 45 17++[16]) (rA 45 17++[16]) [[],[],[1],[],[2,3],[],[5],[6],[],[],[9],[10],[],[12],[13],[14],[0,4,7,8,11,15],[]] [Ie.v _,Ie.v _,Ie.p (fun(G:List Nat) (v:Value) (ww:World)=>sR L1 G ww v [P.w]),Ie.v _,Ie.p (fun(G:List Nat) (v:Value) (ww:World)=>sR L1 G ww v ([P.w]++[bu kind])),Ie.v _,Ie.v _,Ie.v _,Ie.v _,Ie.v _,Ie.v _,Ie.v _,Ie.v _,Ie.v _,Ie.v _,Ie.v _,Ie.p (fun(G:List Nat) (v:Value) (ww:World)=>∃a4 n4 c4,v= .agg [str m.aM,.slice a4 n4 c4,.int .i64 ((FR.length+1:Nat):Int),.slice none 0 0,.slice none 0 0,.slice none 0 0,.slice none 0 0,str rest.aq.aw,.slice ar nr cr,.int .i64 ((2+FR.length:Nat):Int),str t.aU,.int .i64 2].toArray∧sR L1 G ww (.slice a4 n4 c4) ([P.w]++[bu kind])),Ie.e 0] [17] [fun(G:List Nat) (vs:List Value) (ww:World)=>G=[]∧aj [] bZ ww,fun(G:List Nat) (vs:List Value) (ww:World)=>∃bb,vs.getD 0 undef= .pointer (some ⟨bb,0,none⟩)∧G=[bb]∧bZ.heap.size<=bb∧aJ ww bb [str [],.slice none 0 0,.int .i64 0,.slice none 0 0,.slice none 0 0,.slice none 0 0,.slice none 0 0,str [],.slice none 0 0,.int .i64 0,str [],.int .i64 0].toArray 166∧aj [] bZ ww] de rfl ((λx hx=>by simp at hx)) (by exact⟨λG v w G' w' h k=>h.go k,λG v w G' w' h k=>h.go k,λG v w G' w' ⟨a4,n4,c4,e,h⟩ k=>⟨a4,n4,c4,e,h.go k⟩,trivial⟩) (by exact⟨λG vs w w' ⟨h1,h2⟩ k=>⟨h1,h2.ext k⟩,λG vs w w' ⟨bb,h1,h2,h3,h4,h5⟩ k=>⟨bb,h1,h2,h3,h4.ext k,h5.ext k⟩,trivial⟩) (⟨rfl,aj.refl _ _⟩)
 refine FA ?_
 refine vf (λx ey OC aR EF Hx=>?_) ?_
 refine fF bh bf rfl rfl λfa cV aiO He=>?_
 exact ff cV ((aJ.dK [P.w] aiO (λhx=>by have:=Ke tZ EF.aG.size Hx _ hx;omega)))
 refine FA ?_
 refine vf (λx ey OC aR EF Hx=>?_) ?_
 have yw:=yw.go EF
 intro v2 d2
 have et:=Ke tZ EF.aG.size Hx
 refine aA (tL [P.w] [bu kind] sm _ _ _ ey d2 yw et) ?_
 rintro v12 fa ⟨Hr,cV⟩
 have Ct:=cV.size
 have eN:=Hr
 exact ff cV eN
 refine FA ?_
 refine vf (λx ey OC aR EF Hx=>?_) ?_
 intro v4 d4
 have aX:=dI d4
 obtain⟨a4,n4,c4,e4,_⟩:=aX
 subst e4
 refine iO (VS _ _ _ _ _ _ _ _ _ _ _ _ _) rfl rfl ?_
 exact ff (aj.refl _ _) (⟨a4,n4,c4,rfl,d4⟩)
 refine ve 0 (λx ey OC aR EF Hx hJ hlen=>?_) ?_
 have aV:=jj hlen
 subst aV
 obtain⟨bP,bS⟩:=hJ
 subst bP
 refine dk mx rfl rfl rfl λfa cV wc GK=>?_
 exact fe ([_]) (⟨cV.mono sm,λx hx=>by simp at hx;right;omega⟩) ((λx hx=>by simp at hx;omega)) (⟨_,rfl,rfl,bS.size,wc,bS.trans cV⟩)
 exact trivial
 intro x oC G50 aR aiP apL hJ hlen
 have aX:=jk hlen
 obtain⟨q0,aV⟩:=aX
 subst aV
 intro v2 d2
 intro v4 d4
 intro AE d16
 have cZ:=cZ.go aiP
 change OW _ _ _ _ _ (bm (bg _ x _) (zZ 45 [_,_,_,_,_,_,_,_,_,_,_,_,_,_,_,_,_]++[(16,_)])) _
 obtain⟨bk,rO,bP,CK,fI,bS⟩:=hJ
 have uY:q0=_:=rO
 subst uY
 subst bP
 obtain⟨a4,n4,c4,AW,OD⟩:=d16
 subst AW
 refine cw mx rfl rfl rfl fI rfl λld kQ fI df=>?_
 have ig:=fI.lt
 have wS:=bS.since kQ (λx hx=>.inr (by simp at hx;omega))
 have av:=lM.sQ wS sm CK ig
 have hR:=tV.more wS sm CK (λy hy=>tZ y (lM.sub hy))
 have OE:∀x,x∈bk::L1->x∈L1++[bk]:=(λx hx=>by simp at hx⊢;rcases hx with h|h;(·exact .inr h);(·exact .inl h))
 have vu:bk∈bk::L1:=sm
 have EG:bk∉E:=(λhx=>by have:=tZ bk (lM.sub hx);omega)
 have gS:=(Hw.fresh (L':=bk::L1) (λx hx=>by rcases mC.1 hx with rfl|hx;(·exact .inr CK);(·exact .inl hx))).ext wS
 have AK:=ek.go aQ hR.fr
 have fJ:gI (bk::L1) ld 166 bk (tY m.aM P.w [bu kind] FR rest t.aU (im t.sc 2 (FR.take 0) [])):=⟨_,_,_,_,_,_,fI,⟨(bN.aD OD kQ sm).fresh (λx hx=>.inl (OE x hx)),.nil _ _ _,.nil _ _ _,.nil _ _ _,.nil _ _ _,AK⟩⟩
 refine W ?_
 refine eH (λi:Nat=>[(0,.pointer (some ⟨b,0,none⟩)),(1,.pointer (some ⟨bt,0,none⟩)),(2,str name),(3,str kind.text),(10,.slice Ow FR.length Ox),(12,str (dx (bu kind))),(14,.int .i64 (P.r:Int)),(16,.pointer (some ⟨bk,0,none⟩)),(17,.int .i64 (i:Int))]) (λi w'=>aj [bk] ld w'∧i<=FR.length∧gI (bk::L1) w' 166 bk (tY m.aM P.w [bu kind] FR rest t.aU (im t.sc 2 (FR.take i) []))) (λi=>FR.length-i) (0) (⟨rfl,rfl,rfl,rfl,rfl,rfl,rfl,rfl,rfl⟩) (⟨aj.refl _ _,Nat.zero_le _,fJ⟩) λgg AM Kg hI=>?_
 obtain⟨dh,hi,fJ⟩:=hI
 have av:=av.aG dh sm
 have hR:=hR.aD dh vu EG
 have gS:=bN.aD gS dh sm
 refine W ?_
 refine zc rfl (λh1=>?_) (λh1=>?_)
 have lK:gg<FR.length:=(by simp at h1;omega)
 have CF:=List.mem_of_getElem? (jN lK)
 have aX:=hR.tk hT dU
 obtain⟨u1,u3,u4,u5,u6,u8,cZ,hC⟩:=aX
 have CL:=hC.aK
 have CM:=hC.types
 have aX:=nS gS lK
 obtain⟨b2,l5,e2,bU⟩:=aX
 cases e2
 have NU:=av.di
 refine WZ ?_
 apply dV cT 19 [68,69,70,71,72,73,74,75,76,77,78,79,80,81,82,83,84,85,86] [[],[],[0,1],[2],[],[4],[],[6],[7],[8],[],[10],[11],[12],[],[],[14,15],[16],[9,13,17]] (it [_,_,_,_,_,_,_,_,_,_,_,_,_,_,_,_,_,_,_]) de rfl
 intro wd aB
 refine VA ?_
 refine vk aB (λx rQ JX=>?_) ?_
 refine bI JX CL CM λCL CM=>?_
 refine aA (GB (jE t.sc) (oR t.sc) (by simp[jE,oR]) (by simp[jE];omega) (cv FR gg) _ _ _ _ rQ CL CM) ?_
 rintro v54 wT ⟨aiQ,CN⟩
 have apN:=CN.size
 have eN:=aiQ
 rw[Od (fS _ CF).2] at eN
 subst eN
 exact pk CN
 exact trivial
 intro x Cl ym
 refine cG ym av fJ dh λav fJ dh=>?_
 change OW _ _ _ _ _ (bm (bg _ x _) (zZ 68 [_,_,_,_,_,_,_,_,_,_,_,_,_,_,_,_,_,_,_])) _
 refine aA (EA (tY m.aM P.w [bu kind] FR rest t.aU (im t.sc 2 (FR.take gg) [])) (cv FR gg) (2+gg) (j4 t.sc (cv FR gg)) (by show(im t.sc 2 (FR.take gg) []).length<100000;rw[xW,List.length_take];omega) (bk::L1) bk Cl vu av.di fJ) ?_
 rintro v87 w93 ⟨fJ,mj⟩
 have aiS:=mj.size
 refine W ?_
 exact⟨gg+1,⟨rfl,rfl,rfl,rfl,rfl,rfl,rfl,rfl,rfl⟩,⟨dh.trans mj,om,by rw[VO lK];exact fJ⟩,om⟩
 have Ap:gg=FR.length:=(by simp at h1;omega)
 subst Ap
 rw[List.take_length] at fJ
 refine W ?_
 refine aA (EA (tY m.aM P.w [bu kind] FR rest t.aU (im t.sc 2 FR [])) name 1 kind (by show(im t.sc 2 FR []).length<100000;rw[xW];omega) (bk::L1) bk AM vu av.di fJ) ?_
 rintro v90 rQ ⟨fJ,tP⟩
 have av:=av.aG tP sm
 have hR:=hR.aD tP vu EG
 have fJ:gI (bk::L1) rQ 166 bk (tY m.aM P.w [bu kind] FR rest t.aU (im t.sc 2 FR []++[(name,1,kind)])):=fJ
 have J3:P.m.bJ.length<100000:=(by rw[Ht];exact fE)
 have aX:=av.open
 obtain⟨vb,vt,vc,vy,gb,gt,gc,gy,wJ,hS⟩:=aX
 have aX:=hS.apart
 obtain⟨vi,lN,tT,mh,vj,tU⟩:=aX
 obtain⟨u1,u3,u4,u5,u6,u8,Hy,sS⟩:=fJ
 have bj:dL gt.toList rQ b [vb,vt,.int .i64 ((P.m).count:Int),.bool (P.m).wide,vc,vy].toArray 164:=⟨wJ,λhx=>(mh b hx).2.1 rfl⟩
 have fI:dL gt.toList rQ bk (pE (tY m.aM P.w [bu kind] FR rest t.aU (im t.sc 2 FR []++[(name,1,kind)])) u1 u3 u4 u5 u6 u8).toArray 166:=⟨Hy,λhx=>(mh bk hx).1 sm⟩
 have pP:eJ gt.toList rQ:=(λx hx=>hS.cD x (hS.mem.2 (by simp[hx])))
 have AX:∀x,x∈gt.toList->x∈(bk::L1):=(λx hx=>hS.mem.2 (by simp[hx]))
 refine W ?_
 apply jF cT gt.toList 8 (rA 91 8) (rA 91 8) [[],[],[1],[2],[3],[],[5],[4,6]] [Ie.v _,Ie.v _,Ie.v _,Ie.v _,Ie.v _,Ie.v _,Ie.p (fun(G:List Nat) (v:Value) (ww:World)=>∃bb,v= .slice (some ⟨bb,0,none⟩) 1 1∧dL G ww bb (pE (tY m.aM P.w [bu kind] FR rest t.aU (im t.sc 2 FR []++[(name,1,kind)])) u1 u3 u4 u5 u6 u8).toArray 166),Ie.e 0] [7] [fun(G:List Nat) (vs:List Value) (ww:World)=>G=gt.toList∧aj [] rQ ww,fun(G:List Nat) (vs:List Value) (ww:World)=>∃g2,dD (gt.toList++(g2.toList++(bk::L1))) ww 166 12 (vs.getD 0 undef) g2 (((P.m).bJ++[(tY m.aM P.w [bu kind] FR rest t.aU (im t.sc 2 FR []++[(name,1,kind)]))]).map Tk.enc)∧aj gt.toList rQ ww∧(g2=gt∨∃x,g2=some x∧rQ.heap.size<=x)] de rfl pP (by exact⟨λG v w G' w' ⟨bb,e,h⟩ k=>⟨bb,e,h.go k⟩,trivial⟩) (by exact⟨λG vs w w' ⟨h1,h2⟩ k=>⟨h1,h2.ext k⟩,λG vs w w' ⟨g2,h1,h2,h3⟩ k=>⟨g2,h1.ext k,h2.ext k,h3⟩,trivial⟩) (⟨rfl,aj.refl _ _⟩)
 refine FA ?_
 refine vf (λx wT G54 aR aiV VW=>?_) ?_
 refine sC [_] [pE (tY m.aM P.w [bu kind] FR rest t.aU (im t.sc 2 FR []++[(name,1,kind)])) u1 u3 u4 u5 u6 u8] zw mx rfl rfl rfl rfl rfl rfl rfl rfl rfl λKh AY Hz VX=>?_
 exact ff AY (⟨_,rfl,Hz.o VW⟩)
 refine ve 0 (λx wT G54 aR aiV VW hJ hlen=>?_) ?_
 have aV:=jj hlen
 subst aV
 intro v6 d6
 obtain⟨bb,e6,fH⟩:=d6
 subst e6
 obtain⟨bP,bS⟩:=hJ
 subst bP
 have xU:=(hS.ta.any bS).sub (L':=gt.toList++(bk::L1)) (λx hx=>.inl (by rcases mA.1 hx with h|h;(·exact AX x h);(·exact h)))
 have AZ:=sS.ext bS
 refine B0 (L:=(bk::L1)) (row:=Tk.enc (tY m.aM P.w [bu kind] FR rest t.aU (im t.sc 2 FR []++[(name,1,kind)]))) zw mx rfl rfl rfl rfl rfl rfl xU rfl fH.all (λu hu=>List.all_eq_true.1 AZ.one u hu) (AZ.go ((Fr.refl _ _).to (L2:=gt.toList++(bk::L1)) (λx hx=>.inl (by rcases mA.1 hx with h|h;(·exact AX x h);(·exact h))))).Bx (by rw[List.length_map];omega) λv9 g9 Kh cO tW eA=>?_
 exact fe g9.toList (⟨tW.aG,λx hx=>by rcases eA with h|h;(·rw[h] at hx;exact .inl hx);(·rw[h] at hx;simp at hx;right;omega)⟩) ((λx hx=>cO.lt x hx)) (⟨g9,by rw[List.map_append];exact cO,bS.any.trans tW.aG,eA.imp id (λh=>⟨_,h,bS.size⟩)⟩)
 exact trivial
 intro x w93 G93 aR aiW apP hJ hlen
 have aX:=jk hlen
 obtain⟨q0,aV⟩:=aX
 subst aV
 intro v6 d6
 have bj:=bj.go aiW
 change OW _ _ _ _ _ (bm (bg _ x _) (zZ 91 [_,_,_,_,_,_,_,_])) _
 obtain⟨g2,cO,ej,iT⟩:=hJ
 have aX:=hS.FC cO ej iT
 obtain⟨L3,fx,jo⟩:=aX
 have aX:=cO.len
 obtain⟨a3,c3,e3⟩:=aX
 have e4:q0=_:=e3
 subst e4
 have bj:aJ _ b [vb,vt,.int .i64 ((P.m).count:Int),.bool (P.m).wide,vc,vy].toArray 164:=wJ.aG ej (λhx=>(mh b hx).2.1 rfl)
 refine W ?_
 refine fz (o:=1) Ir rfl rfl rfl bj rfl λw94 VY bj df=>?_
 have fx:=fx.aG VY sm
 have av:dC t8 (bk::E) L3 w94 b true {P.m with bJ:=(P.m).bJ++[(tY m.aM P.w [bu kind] FR rest t.aU (im t.sc 2 FR []++[(name,1,kind)]))]}:=⟨_,_,_,_,_,_,_,_,bj,fx⟩
 have hR:=(hR.add jo ej (λx hx vv=>(mh x hx).1 (by simp[vv]))).aD VY (fx.mem.2 (.inr (.inl rfl))) (λvv=>lN (by simp[vv]))
 rw[Ht] at av
 have aX:=av.drop
 obtain⟨L4,OF,av⟩:=aX
 have hR:=hR.sub (L2:=L4) (λx hx=>by rw[OF];simp[hx])
 have aX:=hR.tk hT dU
 obtain⟨u1,u3,u4,u5,u6,u8,cZ,hC⟩:=aX
 have yD:=av.sub dU
 refine W ?_
 refine fz (o:=9) p6 rfl rfl rfl cZ rfl λEH A1 cZ df=>?_
 have hC:=hC.aD A1 (by simpa using yD)
 have av:=av.aG A1 (by simpa using dU)
 have hF:=hR.fr.aD A1 (by simpa using yD)
 have tM:=hR.out
 obtain⟨G0,fU,Hk⟩:=tM
 have fU:aj (G0++[bt]) w EH:=(fU.mono (λz hz=>List.mem_append_left _ hz)).trans (A1.mono (λz hz=>mR _ hz))
 refine W ?_
 refine fz (o:=10) bf rfl rfl rfl cZ rfl λHA EI cZ df=>?_
 have hC:=hC.aD EI (by simpa using yD)
 have av:=av.aG EI (by simpa using dU)
 have hF:=hF.aD EI (by simpa using yD)
 have fU:=fU.trans (EI.mono (λz hz=>mR _ hz))
 refine W ?_
 exact⟨_,rfl,L4,av,⟨u1,u3,u4,u5,u6,u8,cZ,⟨hC.regs,hC.self,hC.aK,hC.at_,hC.types,hC.ak⟩⟩,hF,_,fU,λz hz rX=>by rcases mA.1 hz with h9|h9;(·exact absurd rX (Hk z h9));(·simpa using h9)⟩
def qU (aM:ai) (W:ai) (nd:List ai) (FR:List ai) (e:Ex) (aU:ai) (self:List ai) (sc:cE):Tk:=⟨aM,W::nd,FR.length,self,sc,e,2,aU,3⟩
def rY (s:cE) (FR:List ai) (f:ai) (A B:Ty) (e:Ex):cE:=if 0<jR f e then im s 3 FR []++[(f,3+FR.length+2,.op true A B)] else im s 3 FR []
def ua (f:ai) (A B:Ty) (e:Ex) (W:ai):List ai:=if 0<jR f e then[bu (.op true A B),W] else[]
theorem aiY (m:Mk) (s:cE) (ton:Nat) (f x:ai) (A B:Ty) (e:Ex) {FR:List ai} (hF:FR=cI (.fn f x A B e) [] []) (hP:P=oN m.k7 s ton FR [] m.aM (bu (.op true A B)) [bu A,dx (bu B)]):
  zN m s f x A B e=({P.m with bJ:=m.bJ++[qU m.aM P.w [bu A,dx (bu B)] FR e (dx (bu B)) (ua f A B e P.w) (rY s FR f A B e++[(x,1,A)])]},P.r):=by
 have h1:ob m s f x A B e=P:=by rw[hP,hF];unfold ob;simp[oN]
 have h2:P.m.bJ=m.bJ:=by rw[hP];rfl
 unfold zN zM zK
 rw[h1,h2,<-hF];rfl
theorem aiZ (t:Tk) (x:ai) (r:Nat) (T:Ty) (s:ai) (hs:s=T.text) (hl:t.sc.length<100000) (L:List Nat) (bt:Nat) (w:World) (qK:bt∈L) (lf:∀x,x∈L->x<w.heap.size) (hT:gI L w 166 bt t):
  bz Tryz.prog 192 [.pointer (some ⟨bt,0,none⟩),str x,.int .i64 (r:Int),str s] w λ_ w'=>gI L w' 166 bt {t with sc:=t.sc++[(x,r,T)]}∧aj [bt] w w':=by subst hs;exact EA t x r T hl L bt w qK lf hT
theorem ai0 {off:Nat} {vs:List Value} (h:fp L w b off vs):fp [] w b off vs:=⟨h.cells,h.lt,sm⟩
theorem ai1 (t:Tk) (m:Mk) (f ax:ai) (A B:Ty) (e:Ex) (ba:(Ex.fn f ax A B e).ok) (mN:(Ex.fn f ax A B e).n<=1000) (sF:∀y,y∈cI (.fn f ax A B e) [] []->(look (ew t.sc) y).isSome=true) (oW:(cI (.fn f ax A B e) [] []).length<=40) (hs:jT t.sc) (oV:t.sc.length<=9000) (Av:1+A.n+B.n<=16) (qN:t.on<1000) (ht:m.types.length+4<1000) (hc:m.code.length<=8000) (wR:m.count<1000) (fE:m.bJ.length<100000) 
  (E L:List Nat) (b bt:Nat) (v:Value) (w:World) (h:dC t8 E L w b true m) (hT:gI L w 166 bt t) (dU:bt∈E) (hv:bC L w v (Ex.fn f ax A B e).aq):
  bz Tryz.prog 225 [.pointer (some ⟨b,0,none⟩),.pointer (some ⟨bt,0,none⟩),v] w λr w'=>r= .int .i64 ((zN m t.sc f ax A B e).2:Int)∧∃L',dC t8 E L' w' b true (zN m t.sc f ax A B e).1∧dQ E L w L' w':=by
 obtain⟨ar,nr,cr,rfl,pW,aQ⟩:=dj hv
 subst pW
 have ln:=h.di
 obtain⟨FR,yC⟩:∃z:List ai,z=cI (.fn f ax A B e) [] []:=⟨_,rfl⟩
 obtain⟨P,hP⟩:∃z:Pk,z=oN m.k7 t.sc t.on FR [] m.aM (bu (.op true A B)) [bu A,dx (bu B)]:=⟨_,rfl⟩
 rw[aiY m t.sc t.on f ax A B e yC hP]
 obtain⟨Ht,AT,hPw⟩:=VU hP
 rw[<-yC] at oW sF
 have fS:∀x,x∈FR->dN x=true∧(look (ew t.sc) x).isSome=true:=λx hx=>⟨VR (by rw[<-yC];exact hx),sF x hx⟩
 obtain⟨HB,hox,ai3,hoA,hoB,V0⟩:=ba
 have jZ:=pJ (T:=A) om
 have qV:=tI (T:=B) om
 have apQ:=pJ (T:=B) om
 have V2:=pJ (T:=Ty.op true A B) (show 1+A.n+B.n<=16 from Av)
 have Hu:=Au wR
 have V3:=A.len
 have V4:=B.len
 have apR:A.aq.text.length<=100:=show A.text.length<=100 from by omega
 have apS:B.aq.text.length<=100:=show B.text.length<=100 from by omega
 have hzA:=A.size
 have hzB:=B.size
 have wo:(Ex.fn f ax A B e).n=3+A.n+B.n+e.n:=rfl
 have pL:((((([40,62,32]:ai)++A.text)++[32])++B.text)++[41])=(Ty.op true A B).text:=by rw[Ty.Iw];simp[jP]
 have JC:(Ex.fn f ax A B e).aq.ak.length=6:=rfl
 have hK:=aj.refl [] w
 have kh:b∉E:=h.mem.2.2.1
 have EE:b∈L:=h.mem.1 b sm
 have hR:=dQ.refl E L w
 obtain⟨b1,eR,gd,gh,e1,bF,cK⟩:=eS aQ (i:=1) om
 cases e1
 have bF:fp L w _ _ [str f,.slice gd 0 gh]:=bF
 obtain⟨b2,l5,iA,iB,e2,bU,dG⟩:=eS aQ (i:=2) om
 cases e2
 have bU:fp L w _ _ [str ax,.slice iA 0 iB]:=bU
 obtain⟨b3,Cf,pM,pN,e3,dM,dW⟩:=eS aQ (i:=3) om
 cases e3
 have dW:bC L _ _ A.aq:=dW
 obtain⟨b4,ahG,Ni,Nj,e4,jv,pO⟩:=eS aQ (i:=4) om
 cases e4
 have pO:bC L _ _ B.aq:=pO
 obtain⟨b5,ahH,Ew,Ey,e5,j8,mW⟩:=eS aQ (i:=5) om
 cases e5
 have j8:fp L w _ _ [str e.aq.aw,.slice Ew e.aq.ak.length Ey]:=j8
 have mW:bC L w (.agg #[str e.aq.aw,.slice Ew e.aq.ak.length Ey]) e.aq:=mW
 have fl:bC L w _ (Ex.fn f ax A B e).aq:=hv
 have hSF:∀w:World,bz Tryz.prog 156 [str ((((([40,62,32]:ai)++A.text)++[32])++B.text)++[41])] w λr w'=>r=str (bu (.op true A B))∧aj [] w w':=λw=>by rw[pL];exact vh (.op true A B) (show 1+A.n+B.n<=60 from om) w
 refine bX [.tmp 6] 139 Tryz.func225 rfl ab3 rfl rfl ?_
 refine zr<|eu rfl λw1 aI cN db=>bI aI hK hR λhK hR=>?_
 refine WI ?_
 refine zi (i:=3) cB aL rfl rfl ((show 3<6 from om))<|zL eQ aL rfl ((dM.go hR.fr).cells) rfl<|aA (tG A.aq.size A.aq (lR _) A.nZ.wf om (show A.text.length<=100000000 from om) _ _ w1 (dW.go hR.fr)) ?_
 rintro _ w2 ⟨rfl,az⟩
 have dy:=az.size
 refine cG az hK hR cN λhK hR cN=>?_
 refine WI ?_
 refine zi (i:=4) cB aL rfl rfl ((show 4<6 from om))<|zL eQ aL rfl ((jv.go hR.fr).cells) rfl<|aA (tG B.aq.size B.aq (lR _) B.nZ.wf om (show B.text.length<=100000000 from om) _ _ w2 (pO.go hR.fr)) ?_
 rintro _ w3 ⟨rfl,aH⟩
 have eU:=aH.size
 refine cG aH hK hR cN λhK hR cN=>?_
 refine W ?_
 refine fN bh bf λw4 aO vm gC=>cG aO hK hR cN λhK hR cN=>?_
 refine fN bh bf λw5 aP Ki iI=>gQ aP hK hR cN vm λhK hR cN vm=>?_
 have apV:=cN
 refine aA (Jn (Ex.fn f ax A B e).n (Ex.fn f ax A B e) (lR _) mN ⟨HB,hox,ai3,hoA,hoB,V0⟩ [] [] so so _ _ _ (some w4.heap.size) w5 ((fl.fresh (L':=[w4.heap.size]) (λx hx=>.inr (by simp at hx;omega))).ext hK) (vm.kL.rep (λx hx=>by simp at hx;subst hx;simp;omega)) Ki.kL) ?_
 rintro Kf w6 ⟨g22,Hv,AU⟩
 rw[<-yC] at Hv
 have gL:aj [] w w6:=(hK.since AU.aG (λx hx=>.inr (by simp at hx;omega)))
 have Ou:∀x,x∈g22.toList->w.heap.size<=x:=(λx hx=>by rcases AU.mem x hx with h9|h9;(·simp at h9;omega);(·omega))
 have gS:bc L w6 Kf FR:=Hv.rep (λx hx Ov=>by have:=Ou x (by simp[hx]);have:=ln x Ov;omega)
 have aX:=dI gS
 obtain⟨Ow,n22,Ox,Oy,Oz⟩:=aX
 subst Oy
 subst Oz
 have av:=h.ext gL
 have hR:=(dQ.refl E L w).ext gL
 clear vm Ki
 refine W ?_
 refine aA (Oa m om E L b true w6 av) ?_
 rintro v24 w7 ⟨⟨OB,av⟩,AS⟩
 subst OB
 have hR:=hR.aD AS EE kh
 have gS:=bN.aD gS AS (by simpa using EE)
 refine W ?_
 refine aA (hSF w7) ?_
 rintro _ w8 ⟨rfl,cA⟩
 have yk:=cA.size
 refine cG cA hR av gS λhR av gS=>?_
 have cU:=av.di
 refine W ?_
 refine aA (vh A om w8) ?_
 rintro _ w9 ⟨rfl,aC⟩
 have oZ:=aC.size
 refine cG aC hR av gS λhR av gS=>?_
 have cU:=av.di
 refine zm<|aA (vh B om w9) ?_
 rintro _ bZ ⟨rfl,cj⟩
 have yl:=cj.size
 refine cG cj hR av gS λhR av gS=>?_
 have cU:=av.di
 refine aA (Hg (bu B) om bZ) ?_
 rintro _ ey ⟨rfl,cS⟩
 have A2:=cS.size
 refine cG cS hR av gS λhR av gS=>?_
 have cU:=av.di
 refine kK bh bf rfl rfl rfl rfl λfa cV CP He=>cG cV hR av gS λhR av gS=>?_
 refine W ?_
 have tX:bc L fa _ [bu A,dx (bu B)]:=aJ.dK [bu A,dx (bu B)] CP (λhx=>by have:=cU _ hx;omega)
 refine aA (VD t m.k7 FR [] m.aM (bu (.op true A B)) [bu A,dx (bu B)] fS hs oV oW qN sm om om sm (by intro x hx;simp at hx;rcases hx with rfl|rfl<;>omega) ht hc E L b bt _ _ fa av (hR.tk hT dU) dU gS tX) ?_
 rintro v42 jf ⟨yc,L1,av,bD⟩
 rw[<-hP] at yc av
 subst yc
 have hR:=hR.go bD;have gS:=gS.go bD.fr;have tX:=tX.go bD.fr
 have yw:sR L1 [] jf _ [bu A,dx (bu B)]:=(by unfold sR;rw[List.append_nil];exact tX)
 have OG:=ai0 (j8.go hR.fr)
 have tZ:=av.di
 have Hw:=gS
 have lM:=av
 have tV:=hR
 clear CP
 refine W ?_
 apply jF cT ([]) 15 (rA 59 14++[17]) (rA 59 14++[17]) [[],[],[1],[],[2,3],[],[5],[],[7],[8],[],[10],[11],[0,4,6,9,12],[]] [Ie.v _,Ie.v _,Ie.p (fun(G:List Nat) (v:Value) (ww:World)=>sR L1 G ww v [P.w]),Ie.v _,Ie.p (fun(G:List Nat) (v:Value) (ww:World)=>sR L1 G ww v ([P.w]++[bu A,dx (bu B)])),Ie.v _,Ie.v _,Ie.v _,Ie.v _,Ie.v _,Ie.v _,Ie.v _,Ie.v _,Ie.p (fun(G:List Nat) (v:Value) (ww:World)=>∃a4 n4 c4,v= .agg [str m.aM,.slice a4 n4 c4,.int .i64 (FR.length:Int),.slice none 0 0,.slice none 0 0,.slice none 0 0,.slice none 0 0,str e.aq.aw,.slice Ew e.aq.ak.length Ey,.int .i64 2,str (dx (bu B)),.int .i64 3].toArray∧sR L1 G ww (.slice a4 n4 c4) ([P.w]++[bu A,dx (bu B)])),Ie.e 0] [14] [fun(G:List Nat) (vs:List Value) (ww:World)=>G=[]∧aj [] jf ww,fun(G:List Nat) (vs:List Value) (ww:World)=>∃bb,vs.getD 0 undef= .pointer (some ⟨bb,0,none⟩)∧G=[bb]∧jf.heap.size<=bb∧aJ ww bb [str [],.slice none 0 0,.int .i64 0,.slice none 0 0,.slice none 0 0,.slice none 0 0,.slice none 0 0,str [],.slice none 0 0,.int .i64 0,str [],.int .i64 0].toArray 166∧aj [] jf ww] de rfl ((λx hx=>by simp at hx)) (by exact⟨λG v w G' w' h k=>h.go k,λG v w G' w' h k=>h.go k,λG v w G' w' ⟨a4,n4,c4,e,h⟩ k=>⟨a4,n4,c4,e,h.go k⟩,trivial⟩) (by exact⟨λG vs w w' ⟨h1,h2⟩ k=>⟨h1,h2.ext k⟩,λG vs w w' ⟨bb,h1,h2,h3,h4,h5⟩ k=>⟨bb,h1,h2,h3,h4.ext k,h5.ext k⟩,trivial⟩) (⟨rfl,aj.refl _ _⟩)
 refine FA ?_
 refine vf (λx ix HC aR A3 CQ=>?_) ?_
 refine fF bh bf rfl rfl λo7 jg Kj Jt=>?_
 exact ff jg ((aJ.dK [P.w] Kj (λhx=>by have:=Ke tZ A3.aG.size CQ _ hx;omega)))
 refine FA ?_
 refine vf (λx ix HC aR A3 CQ=>?_) ?_
 have yw:=yw.go A3
 intro v2 d2
 have et:=Ke tZ A3.aG.size CQ
 refine aA (tL [P.w] [bu A,dx (bu B)] sm _ _ _ ix d2 yw et) ?_
 rintro AH o7 ⟨ai7,jg⟩
 have J6:=jg.size
 have eN:=ai7
 exact ff jg eN
 refine FA ?_
 refine vf (λ_ _ _ _ _ _=>zi (i:=5) cB aL rfl rfl ((show 5<6 from om)) fv) ?_
 refine FA ?_
 refine vf (λx ix HC aR A3 CQ=>?_) ?_
 refine aA (vh B om ix) ?_
 rintro _ o7 ⟨rfl,jg⟩
 have J6:=jg.size
 exact fk jg
 refine vf (λx ix HC aR A3 CQ=>?_) ?_
 refine aA (Hg (bu B) om ix) ?_
 rintro _ o7 ⟨rfl,jg⟩
 have J6:=jg.size
 exact fk jg
 refine vf (λx ix HC aR A3 CQ=>?_) ?_
 intro v4 d4
 have aX:=dI d4
 obtain⟨a4,n4,c4,e4,_⟩:=aX
 subst e4
 refine iO (VS ⟨m.aM.toArray⟩ a4 n4 c4 (FR.length:Int) ⟨e.aq.aw.toArray⟩ Ew e.aq.ak.length Ey 2 ⟨(dx (bu B)).toArray⟩ 3 _) rfl rfl ?_
 exact ff (aj.refl _ _) (⟨a4,n4,c4,rfl,d4⟩)
 refine ve 0 (λx ix HC aR A3 CQ hJ hlen=>?_) ?_
 have aV:=jj hlen
 subst aV
 obtain⟨bP,bS⟩:=hJ
 subst bP
 refine dk mx rfl rfl rfl λo7 jg wc GK=>?_
 exact fe ([_]) (⟨jg.mono sm,λx hx=>by simp at hx;right;omega⟩) ((λx hx=>by simp at hx;omega)) (⟨_,rfl,rfl,bS.size,wc,bS.trans jg⟩)
 exact trivial
 intro x rQ G53 aR ai8 apX hJ hlen
 have aX:=jk hlen
 obtain⟨q0,aV⟩:=aX
 subst aV
 intro v2 d2
 intro v4 d4
 intro GU d13
 have OG:=OG.go ai8
 change OW _ _ _ _ _ (bm (bg _ x _) (zZ 59 [_,_,_,_,_,_,_,_,_,_,_,_,_,_]++[(17,_)])) _
 obtain⟨bk,rO,bP,CK,fI,bS⟩:=hJ
 have uY:q0=_:=rO
 subst uY
 subst bP
 obtain⟨a4,n4,c4,AW,OD⟩:=d13
 subst AW
 refine cw mx rfl rfl rfl fI rfl λwT CN fI df=>?_
 have ig:=fI.lt
 have wS:=bS.since CN (λx hx=>.inr (by simp at hx;omega))
 have av:=lM.sQ wS sm CK ig
 have hR:=tV.more wS sm CK (λy hy=>tZ y (lM.sub hy))
 have OE:∀x,x∈bk::L1->x∈L1++[bk]:=(λx hx=>by simp at hx⊢;rcases hx with h|h;(·exact .inr h);(·exact .inl h))
 have vu:bk∈bk::L1:=sm
 have EG:bk∉E:=(λhx=>by have:=tZ bk (lM.sub hx);omega)
 have gS:=(Hw.fresh (L':=bk::L1) (λx hx=>by rcases mC.1 hx with rfl|hx;(·exact .inr CK);(·exact .inl hx))).ext wS
 have AK:ek (bk::L1) wT (.slice Ew e.aq.ak.length Ey) e.aq.ak:=(by obtain⟨_,_,_,e9,_,vw⟩:=dj (mW.go hR.fr);cases e9;exact vw)
 have fJ:gI (bk::L1) wT 166 bk (qU m.aM P.w [bu A,dx (bu B)] FR e (dx (bu B)) [] (im t.sc 3 (FR.take 0) [])):=⟨_,_,_,_,_,_,fI,⟨(bN.aD OD CN sm).fresh (λx hx=>.inl (OE x hx)),.nil _ _ _,.nil _ _ _,.nil _ _ _,.nil _ _ _,AK⟩⟩
 refine W ?_
 refine eH (λi:Nat=>[(0,.pointer (some ⟨b,0,none⟩)),(1,.pointer (some ⟨bt,0,none⟩)),(7,.slice (some ⟨b1,eR,none⟩) 6 cr),(8,str A.text),(10,str (((((([40,62,32]:ai)++A.text)++[32])++B.text)++[41]))),(11,.slice Ow FR.length Ox),(13,str (bu (.op true A B))),(15,.int .i64 (P.r:Int)),(16,str P.w),(17,.pointer (some ⟨bk,0,none⟩)),(18,.int .i64 (i:Int))]) (λi w'=>aj [bk] wT w'∧i<=FR.length∧gI (bk::L1) w' 166 bk (qU m.aM P.w [bu A,dx (bu B)] FR e (dx (bu B)) [] (im t.sc 3 (FR.take i) []))) (λi=>FR.length-i) (0) (⟨rfl,rfl,rfl,rfl,rfl,rfl,rfl,rfl,rfl,rfl,rfl⟩) (⟨aj.refl _ _,Nat.zero_le _,fJ⟩) λgg Kh V5 hI=>?_
 obtain⟨dh,hi,fJ⟩:=hI
 have av:=av.aG dh sm
 have hR:=hR.aD dh vu EG
 have gS:=bN.aD gS dh sm
 refine W ?_
 refine zc rfl (λh1=>?_) (λh1=>?_)
 have lK:gg<FR.length:=(by simp at h1;omega)
 have CF:=List.mem_of_getElem? (jN lK)
 have aX:=hR.tk hT dU
 obtain⟨u1,u3,u4,u5,u6,u8,cZ,hC⟩:=aX
 have CL:=hC.aK
 have CM:=hC.types
 have aX:=nS gS lK
 obtain⟨b9,ub,e9,iy⟩:=aX
 cases e9
 refine WZ ?_
 apply dV cT 19 [79,80,81,82,83,84,85,86,87,88,89,90,91,92,93,94,95,96,97] [[],[],[0,1],[2],[],[4],[],[6],[7],[8],[],[10],[11],[12],[],[],[14,15],[16],[9,13,17]] (it [_,_,_,_,_,_,_,_,_,_,_,_,_,_,_,_,_,_,_]) de rfl
 intro wd aB
 refine VA ?_
 refine vk aB (λx A4 CR=>?_) ?_
 refine bI CR CL CM λCL CM=>?_
 refine aA (GB (jE t.sc) (oR t.sc) (by simp[jE,oR]) (by simp[jE];omega) (cv FR gg) _ _ _ _ A4 CL CM) ?_
 rintro v57 OH ⟨aja,A5⟩
 have V6:=A5.size
 have eN:=aja
 rw[Od (fS _ CF).2] at eN
 subst eN
 exact pk A5
 exact trivial
 intro x EH A1
 refine cG A1 av fJ dh λav fJ dh=>?_
 change OW _ _ _ _ _ (bm (bg _ x _) (zZ 79 [_,_,_,_,_,_,_,_,_,_,_,_,_,_,_,_,_,_,_])) _
 refine aA (EA (qU m.aM P.w [bu A,dx (bu B)] FR e (dx (bu B)) [] (im t.sc 3 (FR.take gg) [])) (cv FR gg) (3+gg) (j4 t.sc (cv FR gg)) (by show(im t.sc 3 (FR.take gg) []).length<100000;rw[xW,List.length_take];omega) (bk::L1) bk EH vu av.di fJ) ?_
 rintro v87 HA ⟨fJ,mj⟩
 have aiS:=mj.size
 refine W ?_
 exact⟨gg+1,⟨rfl,rfl,rfl,rfl,rfl,rfl,rfl,rfl,rfl,rfl,rfl⟩,⟨dh.trans mj,om,by rw[VO lK];exact fJ⟩,om⟩
 have Ap:gg=FR.length:=(by simp at h1;omega)
 subst Ap
 rw[List.take_length] at fJ
 have OG:=j8.go hR.fr
 have EJ:=bF.go hR.fr
 have OI:=mW.go hR.fr
 refine WZ ?_
 apply dV cT 9 [99,100,101,102,103,104,105,106,107] [[],[0],[1],[],[3],[4],[5],[2,6],[7]] (it [_,_,_,_,_,_,_,_,_]) de rfl
 intro wd aB
 refine VA ?_
 refine vk aB (λx A4 CR=>?_) ?_
 refine zi (i:=5) cB aL rfl rfl ((show 5<6 from om)) ?_
 exact pv
 refine VA ?_
 refine vk aB (λx A4 CR=>?_) ?_
 refine zi (i:=1) cB aL rfl rfl ((show 1<6 from om)) ?_
 exact pv
 refine VA ?_
 refine vk aB (λx A4 CR=>?_) ?_
 have OI:=OI.ext CR
 refine aA (afM f e.n e (lR _) om V0 _ _ A4 OI) ?_
 rintro _ OH ⟨rfl,A5⟩
 have V6:=A5.size
 exact pk A5
 exact VZ
 intro x EH A1
 refine gQ A1 av hR EJ fJ λav hR EJ fJ=>?_
 change OW _ _ _ _ [] (bm (bg _ x _) (zZ 99 [_,_,_,_,_,_,_,_,_])) _
 have ka:=aj.refl [bk] EH
 refine W ?_
 refine iD (λ_:Unit=>[(0,.pointer (some ⟨b,0,none⟩)),(7,.slice (some ⟨b1,eR,none⟩) 6 cr),(8,str A.text),(15,.int .i64 (P.r:Int)),(17,.pointer (some ⟨bk,0,none⟩))]) (λ_ ww=>aj [bk] EH ww∧gI (bk::L1) ww 166 bk (qU m.aM P.w [bu A,dx (bu B)] FR e (dx (bu B)) (ua f A B e P.w) (rY t.sc FR f A B e))) ?_ ?_
 refine zc rfl (λh2=>?_) (λh2=>?_)
 have er:0<jR f e:=(by simp at h2;omega)
 have cU:=av.di
 refine zr<|zm<|zm<|kK bh bf rfl rfl rfl rfl λHA EI ajb apY=>cG EI EJ fJ ka λEJ fJ ka=>?_
 refine WZ ?_
 have wb:bc (bk::L1) HA _ [bu (.op true A B),P.w]:=aJ.dK [bu (.op true A B),P.w] ajb (λhx=>by have:=cU _ hx;omega)
 obtain⟨u1,u3,u4,u5,u6,u8,fI,sS⟩:=fJ
 refine fz (o:=3) kz rfl rfl rfl fI rfl λvz Kk fI df=>?_
 have sS:=sS.aD Kk sm
 have wb:=bN.aD wb Kk sm
 have fJ:gI (bk::L1) vz 166 bk (qU m.aM P.w [bu A,dx (bu B)] FR e (dx (bu B)) [bu (.op true A B),P.w] (im t.sc 3 FR [])):=⟨u1,_,u4,u5,u6,u8,fI,⟨sS.regs,wb,sS.aK,sS.at_,sS.types,sS.ak⟩⟩
 have EJ:=EJ.aD Kk sm
 have Hh:=ka.trans Kk
 have CS:∀x,x∈bk::L1->x<vz.heap.size:=(λx hx=>by have:=cU x hx;omega)
 refine aZ<|lp<|zm<|zi (i:=1) cB aL rfl rfl ((show 1<6 from om))<|WZ ?_
 refine aA (aiZ (qU m.aM P.w [bu A,dx (bu B)] FR e (dx (bu B)) [bu (.op true A B),P.w] (im t.sc 3 FR [])) f (3+FR.length+2) (.op true A B) _ pL (by show(im t.sc 3 FR []).length<100000;rw[xW];omega) (bk::L1) bk vz vu CS fJ) ?_
 rintro v87 V7 ⟨fJ,mj⟩
 have Hh:=Hh.trans mj
 refine W ?_
 exact⟨(),⟨rfl,rfl,rfl,rfl,rfl⟩,Hh,by unfold rY ua;rw[iP er,iP er];exact fJ⟩
 have er:¬0<jR f e:=(by simp at h2;omega)
 refine WZ ?_
 exact⟨(),⟨rfl,rfl,rfl,rfl,rfl⟩,aj.refl _ _,by unfold rY ua;rw[iN er,iN er];exact fJ⟩
 intro gu HA e96 hI
 obtain⟨V8,fJ⟩:=hI
 have av:=av.aG V8 sm
 have hR:=hR.aD V8 vu EG
 have ap0:=bU.go hR.fr
 refine zr<|zm<|zi (i:=2) cB aL rfl rfl ((show 2<6 from om))<|W ?_
 refine aA (EA (qU m.aM P.w [bu A,dx (bu B)] FR e (dx (bu B)) (ua f A B e P.w) (rY t.sc FR f A B e)) ax 1 A (by show(rY t.sc FR f A B e).length<100000;unfold rY;split;(·rw[lA,xW];simp;omega);(·rw[xW];omega)) (bk::L1) bk HA vu av.di fJ) ?_
 rintro v90 vz ⟨fJ,tP⟩
 have av:=av.aG tP sm
 have hR:=hR.aD tP vu EG
 have fJ:gI (bk::L1) vz 166 bk (qU m.aM P.w [bu A,dx (bu B)] FR e (dx (bu B)) (ua f A B e P.w) ((rY t.sc FR f A B e)++[(ax,1,A)])):=fJ
 have J3:P.m.bJ.length<100000:=(by rw[Ht];exact fE)
 have aX:=av.open
 obtain⟨vb,vt,vc,vy,gb,gt,gc,gy,wJ,hS⟩:=aX
 have aX:=hS.apart
 obtain⟨vi,lN,tT,mh,vj,tU⟩:=aX
 obtain⟨u1,u3,u4,u5,u6,u8,Hy,sS⟩:=fJ
 have bj:dL gt.toList vz b [vb,vt,.int .i64 ((P.m).count:Int),.bool (P.m).wide,vc,vy].toArray 164:=⟨wJ,λhx=>(mh b hx).2.1 rfl⟩
 have fI:dL gt.toList vz bk (pE (qU m.aM P.w [bu A,dx (bu B)] FR e (dx (bu B)) (ua f A B e P.w) ((rY t.sc FR f A B e)++[(ax,1,A)])) u1 u3 u4 u5 u6 u8).toArray 166:=⟨Hy,λhx=>(mh bk hx).1 sm⟩
 have pP:eJ gt.toList vz:=(λx hx=>hS.cD x (hS.mem.2 (by simp[hx])))
 have AX:∀x,x∈gt.toList->x∈(bk::L1):=(λx hx=>hS.mem.2 (by simp[hx]))
 refine W ?_
 apply jF cT gt.toList 8 (rA 128 8) (rA 128 8) [[],[],[1],[2],[3],[],[5],[4,6]] [Ie.v _,Ie.v _,Ie.v _,Ie.v _,Ie.v _,Ie.v _,Ie.p (fun(G:List Nat) (v:Value) (ww:World)=>∃bb,v= .slice (some ⟨bb,0,none⟩) 1 1∧dL G ww bb (pE (qU m.aM P.w [bu A,dx (bu B)] FR e (dx (bu B)) (ua f A B e P.w) ((rY t.sc FR f A B e)++[(ax,1,A)])) u1 u3 u4 u5 u6 u8).toArray 166),Ie.e 0] [7] [fun(G:List Nat) (vs:List Value) (ww:World)=>G=gt.toList∧aj [] vz ww,fun(G:List Nat) (vs:List Value) (ww:World)=>∃g2,dD (gt.toList++(g2.toList++(bk::L1))) ww 166 12 (vs.getD 0 undef) g2 (((P.m).bJ++[(qU m.aM P.w [bu A,dx (bu B)] FR e (dx (bu B)) (ua f A B e P.w) ((rY t.sc FR f A B e)++[(ax,1,A)]))]).map Tk.enc)∧aj gt.toList vz ww∧(g2=gt∨∃x,g2=some x∧vz.heap.size<=x)] de rfl pP (by exact⟨λG v w G' w' ⟨bb,e,h⟩ k=>⟨bb,e,h.go k⟩,trivial⟩) (by exact⟨λG vs w w' ⟨h1,h2⟩ k=>⟨h1,h2.ext k⟩,λG vs w w' ⟨g2,h1,h2,h3⟩ k=>⟨g2,h1.ext k,h2.ext k,h3⟩,trivial⟩) (⟨rfl,aj.refl _ _⟩)
 refine FA ?_
 refine vf (λx V7 G98 aR ajd V9=>?_) ?_
 refine sC [_] [pE (qU m.aM P.w [bu A,dx (bu B)] FR e (dx (bu B)) (ua f A B e P.w) ((rY t.sc FR f A B e)++[(ax,1,A)])) u1 u3 u4 u5 u6 u8] zw mx rfl rfl rfl rfl rfl rfl rfl rfl rfl λw99 ajf ajg VX=>?_
 exact ff ajf (⟨_,rfl,ajg.o V9⟩)
 refine ve 0 (λx V7 G98 aR ajd V9 hJ hlen=>?_) ?_
 have aV:=jj hlen
 subst aV
 intro v6 d6
 obtain⟨bb,e6,fH⟩:=d6
 subst e6
 obtain⟨bP,bS⟩:=hJ
 subst bP
 have xU:=(hS.ta.any bS).sub (L':=gt.toList++(bk::L1)) (λx hx=>.inl (by rcases mA.1 hx with h|h;(·exact AX x h);(·exact h)))
 have AZ:=sS.ext bS
 refine B0 (L:=(bk::L1)) (row:=Tk.enc (qU m.aM P.w [bu A,dx (bu B)] FR e (dx (bu B)) (ua f A B e P.w) ((rY t.sc FR f A B e)++[(ax,1,A)]))) zw mx rfl rfl rfl rfl rfl rfl xU rfl fH.all (λu hu=>List.all_eq_true.1 AZ.one u hu) (AZ.go ((Fr.refl _ _).to (L2:=gt.toList++(bk::L1)) (λx hx=>.inl (by rcases mA.1 hx with h|h;(·exact AX x h);(·exact h))))).Bx (by rw[List.length_map];omega) λv9 g9 w99 cO tW eA=>?_
 exact fe g9.toList (⟨tW.aG,λx hx=>by rcases eA with h|h;(·rw[h] at hx;exact .inl hx);(·rw[h] at hx;simp at hx;right;omega)⟩) ((λx hx=>cO.lt x hx)) (⟨g9,by rw[List.map_append];exact cO,bS.any.trans tW.aG,eA.imp id (λh=>⟨_,h,bS.size⟩)⟩)
 exact trivial
 intro x ap1 ap2 aR ajh ap3 hJ hlen
 have aX:=jk hlen
 obtain⟨q0,aV⟩:=aX
 subst aV
 intro v6 d6
 have bj:=bj.go ajh
 change OW _ _ _ _ _ (bm (bg _ x _) (zZ 128 [_,_,_,_,_,_,_,_])) _
 obtain⟨g2,cO,ej,iT⟩:=hJ
 have aX:=hS.FC cO ej iT
 obtain⟨L3,fx,jo⟩:=aX
 have aX:=cO.len
 obtain⟨a3,c3,e3⟩:=aX
 have e4:q0=_:=e3
 subst e4
 have bj:aJ _ b [vb,vt,.int .i64 ((P.m).count:Int),.bool (P.m).wide,vc,vy].toArray 164:=wJ.aG ej (λhx=>(mh b hx).2.1 rfl)
 refine W ?_
 refine fz (o:=1) Ir rfl rfl rfl bj rfl λaji Wa bj df=>?_
 have fx:=fx.aG Wa sm
 have av:dC t8 (bk::E) L3 aji b true {P.m with bJ:=(P.m).bJ++[(qU m.aM P.w [bu A,dx (bu B)] FR e (dx (bu B)) (ua f A B e P.w) ((rY t.sc FR f A B e)++[(ax,1,A)]))]}:=⟨_,_,_,_,_,_,_,_,bj,fx⟩
 have hR:=(hR.add jo ej (λx hx vv=>(mh x hx).1 (by simp[vv]))).aD Wa (fx.mem.2 (.inr (.inl rfl))) (λvv=>lN (by simp[vv]))
 rw[Ht] at av
 have aX:=av.drop
 obtain⟨L4,OF,av⟩:=aX
 have hR:=hR.sub (L2:=L4) (λx hx=>by rw[OF];simp[hx])
 refine W ?_
 exact⟨_,rfl,rfl,L4,av,hR⟩
theorem HD {a:ai} (hs:jT s) (ht:m.types.length<1000):(bW m s a).1.types.length<=m.types.length+1∧(bW m s a).1.code.length<=m.code.length+1∧(bW m s a).1.count=m.count∧(bW m s a).1.bJ=m.bJ∧(bW m s a).2<1000:=by
 unfold bW
 split
 ·exact⟨Nat.le_succ _,Nat.le_succ _,rfl,rfl,Gi hs a⟩
 ·exact⟨by simp[Mk.da,Mk.cC],by simp[Mk.da,Mk.cC],rfl,rfl,ht⟩
theorem Wb (h:ai):fW h=(decide (h=[102,115,116])||decide (h=[115,110,100])):=rfl
theorem ajj {T:Ty} (ba:e.ok) (hu:fW e.head=true) {p:Mk×Nat} (hp:p=bW m s (nth e.aq.ak 1).aw):
  mz m s T e=((p.1.da (bu T)).cC sq [aT p.1.types.length,aT p.2,if e.head=qE then[49] else[48]],p.1.types.length):=by
 cases e with
 |un hd a=>rw[hp];show((_:Mk),_)=_;rw[show nth (Ex.un hd a).aq.ak 1=a.aq from rfl,Ex.qH];rfl
 |«at» s=>exact absurd (show fW []=true from hu) de
 |ite a b c=>exact absurd (show fW gm=true from hu) de
 |lt x a b=>exact absurd (show fW fV=true from hu) de
 |fn f x A B b=>exact absurd (show fW gF=true from hu) de
 |bi hd a b=>exact absurd ba.1 (by rcases Ax hd with h|h|h|h|h|h<;>simp_all[Ex.head]<;>rfl)
theorem ajk {T:Ty} (ba:e.ok) (eD:e.iv=false) (hf:e.head≠gF) (hu:fW e.head=false) {p q:Mk×Nat} (hp:p=bW m s (nth e.aq.ak 1).aw) (hq:q=bW p.1 s (nth e.aq.ak 2).aw):
  mz m s T e=((q.1.da (bu T)).cC (qh e.head) [aT q.1.types.length,aT p.2,aT q.2],q.1.types.length):=by
 cases e with
 |un hd a=>exact absurd ba.1 (by simp[Ex.head] at hu;simp[hu])
 |«at» s=>cases eD
 |ite a b c=>rw[hq,hp];rw[show nth (Ex.ite a b c).aq.ak 1=a.aq from rfl,show nth (Ex.ite a b c).aq.ak 2=b.aq from rfl,Ex.qH,Ex.qH];rfl
 |lt x a b=>rw[hq,hp];rw[show nth (Ex.lt x a b).aq.ak 1=bL x from rfl,show nth (Ex.lt x a b).aq.ak 2=a.aq from rfl,Ex.qH];rfl
 |fn f x A B b=>exact absurd rfl hf
 |bi hd a b=>rw[hq,hp];rw[show nth (Ex.bi hd a b).aq.ak 1=a.aq from rfl,show nth (Ex.bi hd a b).aq.ak 2=b.aq from rfl,Ex.qH,Ex.qH];rfl
theorem ajl (ba:e.ok) (hf:e.head≠gF):((nth e.aq.ak 1).aw).length<=5∧((nth e.aq.ak 2).aw).length<=5:=by
 cases e with
 |«at» s=>simp[Ex.aq,nth,au.ak,au.aw,bL]
 |un hd a=>rw[show nth (Ex.un hd a).aq.ak 1=a.aq from rfl,Ex.qH];have:=oo ba.2;exact⟨by omega,by simp[Ex.aq,nth,au.ak,au.aw]⟩
 |bi hd a b=>rw[show nth (Ex.bi hd a b).aq.ak 1=a.aq from rfl,show nth (Ex.bi hd a b).aq.ak 2=b.aq from rfl,Ex.qH,Ex.qH];have:=oo ba.2.1;have:=oo ba.2.2;omega
 |ite a b c=>rw[show nth (Ex.ite a b c).aq.ak 1=a.aq from rfl,show nth (Ex.ite a b c).aq.ak 2=b.aq from rfl,Ex.qH,Ex.qH];have:=oo ba.1;have:=oo ba.2.1;omega
 |lt x a b=>rw[show nth (Ex.lt x a b).aq.ak 1=bL x from rfl,show nth (Ex.lt x a b).aq.ak 2=a.aq from rfl,Ex.qH];have:=D3 ba.1;have:=oo ba.2.1;exact⟨by show x.length<=5;omega,om⟩
 |fn f x A B b=>exact absurd rfl hf
theorem ajm (h:ai):(qh h).length<=5:=by
 unfold qh
 split
 ·decide
 ·split
  ·decide
  ·split<;>decide
theorem ajn (ba:e.ok) (eD:e.iv=false):1<e.aq.ak.length∧(fW e.head=false->2<e.aq.ak.length):=by
 cases e with
 |«at» s=>cases eD
 |un hd a=>exact⟨by simp[Ex.aq,au.ak],λh=>absurd ba.1 (by simp[Ex.head] at h;simp[h])⟩
 |_=>exact⟨by simp[Ex.aq,au.ak],λ_=>by simp[Ex.aq,au.ak]⟩
theorem ajo (t:Tk) (m:Mk) (e:Ex) (T:Ty) (ba:e.ok) (eM:bw e (ew t.sc)=some T) (hs:jT t.sc) (hb:5*t.sc.length+2*e.n<=240) (qN:t.on<1000) (ht:m.types.length+8*e.n<=1000) (hc:m.code.length<=7000) (wR:m.count<1000) (fE:m.bJ.length<90000) 
  (E L:List Nat) (b bt:Nat) (v:Value) (w:World) (h:dC t8 E L w b true m) (hT:gI L w 166 bt t) (dU:bt∈E) (hv:bC L w v e.aq):
  bz Tryz.prog 190 [.pointer (some ⟨b,0,none⟩),.pointer (some ⟨bt,0,none⟩),v] w λr w'=>r= .int .i64 ((mz m t.sc T e).2:Int)∧∃L',dC t8 E L' w' b true (mz m t.sc T e).1∧dQ E L w L' w':=by
 obtain⟨ar,nr,cr,rfl,pW,aQ⟩:=dj hv
 subst pW
 have ln:=h.di
 have rW:=lx hs.types eM
 have DW:=pJ rW
 have hep:=e.pos
 have av:=h
 have hR:=dQ.refl E L w
 have fl:bC L w _ e.aq:=hv
 obtain⟨p,hp⟩:∃p,p=bW m t.sc (nth e.aq.ak 1).aw:=⟨_,rfl⟩
 obtain⟨q,hq⟩:∃q,q=bW p.1 t.sc (nth e.aq.ak 2).aw:=⟨_,rfl⟩
 have vw:p.1.types.length<=m.types.length+1∧p.1.code.length<=m.code.length+1∧p.1.count=m.count∧p.1.bJ=m.bJ∧p.2<1000:=by rw[hp];exact HD hs om
 have HE:q.1.types.length<=p.1.types.length+1∧q.1.code.length<=p.1.code.length+1∧q.1.count=p.1.count∧q.1.bJ=p.1.bJ∧q.2<1000:=by rw[hq];exact HD hs om
 obtain⟨ptl,pcl,_,_,p2⟩:=vw
 obtain⟨qtl,qcl,_,_,q2⟩:=HE
 refine bX [.tmp 6] 84 Tryz.func190 rfl abG rfl rfl ?_
 refine zr<|eu rfl λw1 aI cN db=>bI aI av hR λav hR=>?_
 refine W ?_
 have cN:dL L w1 w.heap.size [str e.aq.aw,.slice ar e.aq.ak.length cr].toArray 74:=⟨cN,λhx=>by have:=ln _ hx;omega⟩
 refine zc rfl (λh1=>?_) (λh1=>?_)
 have aX:∃a,e= .at a:=(by cases e with|«at» s=>exact⟨s,rfl⟩|_=>exact absurd rfl h1)
 obtain⟨a0,rfl⟩:=aX
 refine W ?_
 refine aA (CB t a0 m (by have:=MT (show p9 a0=true from ba);omega) om om om E L b bt _ _ _ w1 av (hR.tk hT dU) dU) ?_
 rintro v20 w2 ⟨pd,L1,av,bD⟩
 subst pd
 have hR:=hR.go bD
 refine W ?_
 exact⟨_,rfl,rfl,L1,av,hR⟩
 have eD:e.iv=false:=(by cases hh:e.iv;rfl;exact absurd ((uR ba).2 hh) h1)
 have aX:=Ex.ak eD
 obtain⟨GG,mH,ji,wj⟩:=aX
 have aX:=ajn ba eD
 obtain⟨fj,iw⟩:=aX
 have aX:=eS aQ (i:=0) om
 obtain⟨b0,AA,xP,xQ,e0,er,_⟩:=aX
 cases e0
 rw[ji] at er
 have aX:=eS aQ (i:=1) om
 obtain⟨b1,eR,gd,gh,e1,bF,cK⟩:=aX
 cases e1
 refine WI ?_
 refine zi (i:=0) cB aL rfl rfl ((show 0<_ from om))<|zf kY rfl<|zl fA rfl ((er.go hR.fr).cells 0 _ rfl)<|W ?_
 refine zc rfl (λh2=>?_) (λh2=>?_)
 have aX:=Jv ba h2
 obtain⟨nf,nx,tA,tB,eb,rfl⟩:=aX
 have aX:=Tv (m:=m) hs ba eM hb wR
 obtain⟨_,oW,Av⟩:=aX
 refine W ?_
 refine aA (ai1 t m nf nx tA tB eb ba om (λy hy=>by rcases(BI y _ [] []).1 hy with h9|h9;(·simp at h9);(·exact pC eM h9.1)) om hs om Av qN (by simp only[Ex.n] at ht;omega) om wR om E L b bt _ w1 av (hR.tk hT dU) dU (fl.go hR.fr)) ?_
 rintro v31 w2 ⟨yE,L1,av,bD⟩
 subst yE
 have hR:=hR.go bD
 refine W ?_
 exact⟨_,rfl,rfl,L1,av,hR⟩
 have qO:e.head≠gF:=h2
 have hsh:=ajl ba qO
 refine W ?_
 refine aA (J1 t e ba om hs.types om _ L bt w1 av.di (hR.tk hT dU) (fl.go hR.fr)) ?_
 rintro v2 w2 ⟨fl,az⟩
 have dy:=az.size
 refine cG az av hR cN λav hR cN=>?_
 have eN:=fl
 rw[eM] at eN
 subst eN
 refine aA (vh T om w2) ?_
 rintro _ w3 ⟨rfl,aH⟩
 have eU:=aH.size
 refine cG aH av hR cN λav hR cN=>?_
 refine WL ?_
 refine zl iG rfl (cN.at rfl)<|WL ?_
 refine zL eQ aL rfl ((bF.go hR.fr).cells) rfl<|aA (CB t (nth e.aq.ak 1).aw m om om om om E L b bt _ _ _ w3 av (hR.tk hT dU) dU) ?_
 rintro v20 w4 ⟨pd,L1,av,bD⟩
 rw[<-hp] at pd av
 subst pd
 have hR:=hR.go bD;have cN:=cN.go bD.fr
 refine aA (iq (p.2+1) p.2 om om w4) ?_
 rintro _ w5 ⟨rfl,aP⟩
 have og:=aP.size
 refine cG aP av hR cN λav hR cN=>?_
 refine W ?_
 apply oP 3 46 49 rfl oQ
 intro _
 exact oQ
 intro xx
 refine aZ<|zc rfl (λh4=>?_) (λh4=>?_)
 have hu:fW e.head=true:=(by rw[Wb];exact h4)
 rw[ajj ba hu hp]
 refine zr<|zm<|zm<|aA (rS (bu T) p.1 om E L1 b true w5 av) ?_
 rintro v52 w6 ⟨Kg,L2,av,bD⟩
 subst Kg
 have hR:=hR.go bD
 refine W ?_
 refine iD (λ_:Unit=>[(0,.pointer (some ⟨b,0,none⟩)),(9,str (aT p.2)),(10,.int .i64 (p.1.types.length:Int)),(11,str (if e.head=qE then[49] else[48]))]) (λ_ w'=>aj [] w6 w') ?_ ?_
 refine zc rfl (λh5=>?_) (λh5=>?_)
 have hz:e.head=qE:=h5
 refine W ?_
 exact⟨(),⟨rfl,rfl,rfl,by rw[iP hz];rfl⟩,aj.refl _ _⟩
 have hz:¬e.head=qE:=h5
 refine WZ ?_
 exact⟨(),⟨rfl,rfl,rfl,by rw[iN hz];rfl⟩,aj.refl _ _⟩
 intro gu w7 e7 hI
 have av:=av.ext hI;have hR:=hR.ext hI
 refine zr<|zm<|zm<|aA (iq (p.1.types.length+1) p.1.types.length om om w7) ?_
 rintro _ w8 ⟨rfl,cA⟩
 have yk:=cA.size
 refine bI cA av hR λav hR=>?_
 have cU:=av.di
 have mm:(if e.head=qE then([49]:ai) else[48]).length<=1:=(by split<;>decide)
 refine zm<|zm<|pI bh bf rfl rfl rfl rfl rfl λw9 aC Hp df=>bI aC av hR λav hR=>?_
 refine aA (kJ sq [aT p.1.types.length,aT p.2,if e.head=qE then[49] else[48]] (mi de sm (by intro z hz;simp at hz;rcases hz with rfl|rfl|rfl;(·exact lO om);(·exact lO om);(·omega))) (p.1.da (bu T)) (show p.1.code.length<100000 from om) E L2 b _ w9 av (aJ.dK [aT p.1.types.length,aT p.2,if e.head=qE then[49] else[48]] Hp (λhx=>by have:=cU _ hx;omega))) ?_
 rintro Wc bZ ⟨L3,av,bD⟩
 have hR:=hR.go bD
 refine W ?_
 exact⟨_,rfl,rfl,L3,av,hR⟩
 have hu:fW e.head=false:=(by rw[Wb];exact h4)
 have iw:=iw hu
 have aX:=eS aQ (i:=2) om
 obtain⟨b2,l5,iA,iB,e2,bU,_⟩:=aX
 cases e2
 rw[ajk ba eD qO hu hp hq]
 refine WL ?_
 refine zl iG rfl (cN.at rfl)<|WL ?_
 refine zL eQ aL rfl ((bU.go hR.fr).cells) rfl<|aA (CB t (nth e.aq.ak 2).aw p.1 om om om om E L1 b bt _ _ _ w5 av (hR.tk hT dU) dU) ?_
 rintro v20 w6 ⟨pd,L2,av,bD⟩
 rw[<-hq] at pd av
 subst pd
 have hR:=hR.go bD
 refine aA (iq (q.2+1) q.2 om om w6) ?_
 rintro _ w7 ⟨rfl,bV⟩
 have ov:=bV.size
 refine bI bV av hR λav hR=>?_
 refine W ?_
 refine aA (rS (bu T) q.1 om E L2 b true w7 av) ?_
 rintro v52 w8 ⟨Kg,L3,av,bD⟩
 subst Kg
 have hR:=hR.go bD
 refine W ?_
 refine aA (ahW e.head w8) ?_
 rintro _ w9 ⟨rfl,aC⟩
 have oZ:=aC.size
 refine bI aC av hR λav hR=>?_
 have hol:=ajm e.head
 refine zm<|aA (iq (q.1.types.length+1) q.1.types.length om om w9) ?_
 rintro _ bZ ⟨rfl,cj⟩
 have yl:=cj.size
 refine bI cj av hR λav hR=>?_
 have cU:=av.di
 refine zm<|zm<|pI bh bf rfl rfl rfl rfl rfl λey cS Ei rC=>bI cS av hR λav hR=>?_
 refine aA (kJ (qh e.head) [aT q.1.types.length,aT p.2,aT q.2] (mi om sm (by intro z hz;simp at hz;rcases hz with rfl|rfl|rfl<;>exact lO om)) (q.1.da (bu T)) (show q.1.code.length<100000 from om) E L3 b _ ey av (aJ.dK [aT q.1.types.length,aT p.2,aT q.2] Ei (λhx=>by have:=cU _ hx;omega))) ?_
 rintro Wc fa ⟨L4,av,bD⟩
 have hR:=hR.go bD
 refine W ?_
 exact⟨_,rfl,rfl,L4,av,hR⟩
end Go.Proofs.YthbhobaiopccaaaGreatDoor
