/- Lemmas for the law FnFrom, no statement of their own: no conditions. -/
import Derived.Test.YthbhobaiopccaaaGreatDoorJg
set_option maxHeartbeats 4000000
set_option linter.unusedVariables false
set_option linter.unusedSimpArgs false
namespace Go.Proofs.YthbhobaiopccaaaGreatDoor
open Go
variable {E G L:List Nat} {w w' w1:World} {b k n:Nat} {h x:aj} {A B:Ty} {o:Bool} {r9:List Ty} {e:Ex} {m:Mk} {s:cP}
theorem aiu {T:Nat} (h:aL w b #[] T):dO L w T 2 (.slice (some ⟨b,0,none⟩) 0 0) (some b) []:=
 ⟨⟨[],NN h,trivial⟩,sm⟩
theorem aiv (ee:Ex) (hn:ee.n<=120) (bj:ee.ok) (v:Value) (w:World) (hv:bh [] w v ee.au):
  bC Tryz.prog 150 [v] w λr w'=>(∃tv T,r= .tuple #[tv,.bool (nQ ee).isSome]∧bh [] w' tv T∧∀f,nQ ee=some f->T=f.au)∧ak [] w w':=by
 have cm:=hv
 obtain⟨a,np,c,rfl,eQ,aQ⟩:=cS hv
 have hK:=ak.refl [] w
 refine j1 [.cell 2 74,.tmp 3] 32 Tryz.func150 rfl ace rfl rfl rfl ?_
 refine zr<|ey rfl λw1 aI aT di=>?_
 have hK:=hK.ext aI
 refine da aK rfl rfl rfl λw2 az aO dK=>?_
 have hK:=hK.grow;have hK:=hK.ext az;have aT:=aT.grow;have aT:=aT.ext az
 refine W ?_
 refine aA (ahD ee hn bj _ [w1.heap.size] w2 (by have:=aO.lt;simpa using this) (bh.ext (bh.fresh cm (by intro x hx;simp at hx;right;omega)) hK)) ?_
 rintro v3 w3 ⟨ka,aH⟩
 have eM:=aH.size
 refine cO aH hK aT aO λhK aT aO=>?_
 obtain⟨tv,rfl,hT⟩:=ka
 have aY:∃p,p=(bR (cU ee [] []) ee [] 0).1:=⟨_,rfl⟩
 obtain⟨p,mq⟩:=aY
 rw[<-mq] at hT
 obtain⟨a9,n9,c9,e9,_,_⟩:=cS hT
 subst e9
 have fO:=ak.refl [] w3
 have ke:=hT
 refine W ?_
 refine da aK rfl rfl rfl λw4 aN aF ga=>?_
 have hK:=hK.grow;have hK:=hK.ext aN;have aT:=aT.grow;have aT:=aT.ext aN;have aO:=aO.grow;have aO:=aO.ext aN;have fO:=fO.grow;have fO:=fO.ext aN
 refine cu aK rfl rfl rfl aF rfl λw5 aJ aF iq=>?_
 have hK:=hK.aD aJ sx;have aT:=aT.aD aJ sx;have aO:=aO.aD aJ sx;have fO:=fO.aD aJ sx
 refine W ?_
 refine zc rfl (λh1=>?_) (λh1=>?_)
 have hx:qI ee=none:=(by simpa using h1)
 have Ff:nQ ee=none:=by unfold nQ;rw[hx];rfl
 refine W ?_
 refine cu aK rfl rfl rfl aO rfl λw6 bB aO jR=>?_
 have hK:=hK.aD bB sx
 refine W ?_
 exact⟨[_,_],⟨fB eK aK rfl aO rfl,rfl⟩,⟨_,_,by rw[Ff];rfl,bh.ext cm hK,λf hf=>by rw[Ff] at hf;cases hf⟩,hK⟩
 have hp:qI ee=some p:=(by rw[mq];unfold qI at h1⊢;split;(·rfl);(·rename_i h9;rw[iN h9] at h1;exact absurd h1 sm))
 have HY:=Nh bj hp
 have dZ:=ait hp
 have Hu:=Ex.size HY
 have VX:=Ex.fE HY
 have CQ:=Th p.au []
 rw[List.length_nil,Nat.zero_add,VX] at CQ
 have aY:∃ag,ag=lH p.au []:=⟨_,rfl⟩
 obtain⟨ag,O0⟩:=aY
 refine W ?_
 refine gA bo bm λw6 bB OF jR=>ld bB hK aT aO fO aF λhK aT aO fO aF=>?_
 refine aA (ahC p.au.size p.au (lR _) om (Ex.wf HY).wf [] so _ _ (some _) w6 (bh.ext (bh.fresh ke (by intro x hx;simp at hx;right;omega)) fO) OF.lh) ?_
 rintro xD w7 ⟨g18,xH,Dq⟩
 have O2:=Dq.aG.size
 have O3:=xH.lt
 rw[<-O0] at xH CQ
 obtain⟨a18,c18,vS⟩:=j8 xH
 subst vS
 have hK:=hK.since Dq.aG (λx hx=>.inr (by have:=fO.size;simp at hx;omega))
 have fO:=fO.since Dq.aG (λx hx=>.inr (by simp at hx;omega))
 have aT:=aT.aG Dq.aG so
 have aO:=aO.aG Dq.aG so
 have aF:=aF.aG Dq.aG so
 have aql:=fO.size
 have aqm:=aO.lt
 refine gA bo bm λw8 aU Dr kV=>ld aU hK aO fO aF xH λhK aO fO aF xH=>?_
 refine gA cw aK λw9 aC tt dv=>sV aC hK aO fO aF xH Dr λhK aO fO aF xH Dr=>?_
 refine iT (aeb _ _ _ _ _ _ _ _ _ _ _) rfl rfl<|ey rfl λcB cA uA CP=>JN cA hK aO fO aF xH Dr tt λhK aO fO aF xH Dr tt=>?_
 refine W ?_
 have aiw:=Dr.lt
 have Wj:=tt.lt
 have yx:=fO.size
 have px:∀x,x∈[w1.heap.size]++[w9.heap.size,w7.heap.size,w8.heap.size]->x∉g18.toList:=(λx hx eA=>by have h1:=O3 x eA;have h2:=Dq.mem x eA;simp at hx h2;omega)
 have aqn:=uA.lt
 have hmu:p.n*(2*(ag.length+2))<=120*(2*122):=Nat.mul_le_mul om om
 have hM:M5 t5 [w1.heap.size] [w9.heap.size,w7.heap.size,w8.heap.size] cB w9.heap.size ag 0 [] []:=⟨_,_,_,some _,some _,uA,⟨xH.rep (λx hx eA=>px x eA (by simp[hx])),Dr.lh,aiu tt,rfl,by simp;omega,by intro x hx;simp at hx;omega⟩⟩
 refine aA (KE HY (ah7 p.n p (lR _) HY) ag 0 [] [] ⟨by omega,by simp;omega,by simp;omega,om⟩ [w1.heap.size] _ w9.heap.size _ cB hM (bh.ext (bh.fresh ke (by intro x hx;simp at hx;rcases hx with h|h;(·exact .inl (by simp[h]));(·right;omega))) fO)) ?_
 rintro v25 eC ⟨⟨tu,aiy⟩,O4⟩
 have aY:∃q,q=mV ag p 0:=⟨_,rfl⟩
 obtain⟨q,hq⟩:=aY
 rw[<-hq] at tu
 obtain⟨nD,nG,nH,O5,_,_⟩:=cS tu
 subst O5
 have aiz:=O4.aG.size
 have hK:=hK.since O4.aG (λx hx=>.inr (by have:=hK.size;simp at hx;omega))
 have aO:=aO.aG O4.aG so
 obtain⟨vt,vn,vx,gn,ge,bu,_⟩:=aiy.open
 have bu:aL eC w9.heap.size [vt,.int .i64 ((bf ag p 0).2.2:Int),vn,vx].toArray 190:=bu
 have tu:=tu.fV (L':=[w1.heap.size]) sm
 refine da aK rfl rfl rfl λfI dw cL O6=>?_
 have hK:=hK.grow;have hK:=hK.ext dw;have aO:=aO.grow;have aO:=aO.ext dw;have tu:=tu.grow;have tu:=tu.ext dw;have bu:=bu.grow;have bu:=bu.ext dw
 refine cu aK rfl rfl rfl cL rfl λjE gB cL HS=>?_
 have hK:=hK.aD gB sx;have aO:=aO.aD gB sx;have tu:=tu.aD gB sx;have bu:=bu.aD gB sx
 refine W ?_
 refine sE du (cD w1.heap.size ([str q.au.av,.slice nD nG nH]) 74) 8 (rA 26 6++[100006,3]) (rA 26 6++[100006,3]) [[],[],[1],[2],[3],[4],[0],[5]] [λv _=>v=(.agg #[str q.au.av,.slice nD nG nH]),λv _=>v=(.pointer (some ⟨w9.heap.size,0,none⟩)),λv _=>v=(.pointer (some ⟨w9.heap.size,0,none⟩)),λv _=>v=(.pointer (some ⟨w9.heap.size,0+1,none⟩)),λv _=>v=(.int .i64 ((bf ag p 0).2.2:Int)),λv _=>v=(.bool (decide (((bf ag p 0).2.2:Int)<=100))),λ_ ww=>aL ww w1.heap.size ([str q.au.av,.slice nD nG nH]).toArray 74,λv _=>v=(.bool (decide (((bf ag p 0).2.2:Int)<=100)))] de (cR (cR (cR (cR (cR (cR (Ea (cR trivial)))))))) (λwd aB=>?_) ?_
 refine bV ?_ ?_
 intro x vs eI e bS hd he
 replace bS:=(cD w1.heap.size ([str q.au.av,.slice nD nG nH]) 74).trans aB bS
 have cL:=cL.aD bS.1 sx
 replace he:e=aS (aR _ x _) []:=he
 subst he
 refine W ?_
 exact dn ((cD w1.heap.size ([str q.au.av,.slice nD nG nH]) 74).refl _) rfl
 refine bV ?_ ?_
 intro x vs eI e bS hd he
 replace bS:=(cD w1.heap.size ([str q.au.av,.slice nD nG nH]) 74).trans aB bS
 replace he:e=aS (aR _ x _) []:=he
 subst he
 refine W ?_
 exact dn ((cD w1.heap.size ([str q.au.av,.slice nD nG nH]) 74).refl _) rfl
 refine bV ?_ ?_
 intro x vs eI e bS hd he
 have d1:vs 1=(.pointer (some ⟨w9.heap.size,0,none⟩)):=hd
 replace bS:=(cD w1.heap.size ([str q.au.av,.slice nD nG nH]) 74).trans aB bS
 replace he:e=aS (aR _ x _) [(27,vs 1)]:=he
 rw[d1] at he
 subst he
 refine W ?_
 exact dn ((cD w1.heap.size ([str q.au.av,.slice nD nG nH]) 74).refl _) rfl
 refine bV ?_ ?_
 intro x vs eI e bS hd he
 have d2:vs 2=(.pointer (some ⟨w9.heap.size,0,none⟩)):=hd
 replace bS:=(cD w1.heap.size ([str q.au.av,.slice nD nG nH]) 74).trans aB bS
 replace he:e=aS (aR _ x _) [(28,vs 2)]:=he
 rw[d2] at he
 subst he
 refine W ?_
 exact dn ((cD w1.heap.size ([str q.au.av,.slice nD nG nH]) 74).refl _) rfl
 refine bV ?_ ?_
 intro x vs eI e bS hd he
 have d3:vs 3=(.pointer (some ⟨w9.heap.size,0+1,none⟩)):=hd
 replace bS:=(cD w1.heap.size ([str q.au.av,.slice nD nG nH]) 74).trans aB bS
 have bu:=bu.aD bS.1 sx
 replace he:e=aS (aR _ x _) [(29,vs 3)]:=he
 rw[d3] at he
 subst he
 refine W ?_
 exact dn ((cD w1.heap.size ([str q.au.av,.slice nD nG nH]) 74).refl _) rfl
 refine bV ?_ ?_
 intro x vs eI e bS hd he
 have d4:vs 4=(.int .i64 ((bf ag p 0).2.2:Int)):=hd
 replace bS:=(cD w1.heap.size ([str q.au.av,.slice nD nG nH]) 74).trans aB bS
 replace he:e=aS (aR _ x _) [(30,vs 4)]:=he
 rw[d4] at he
 subst he
 refine W ?_
 exact dn ((cD w1.heap.size ([str q.au.av,.slice nD nG nH]) 74).refl _) rfl
 refine bV ?_ ?_
 intro x vs eI e bS hd he
 have d0:vs 0=(.agg #[str q.au.av,.slice nD nG nH]):=hd
 replace bS:=(cD w1.heap.size ([str q.au.av,.slice nD nG nH]) 74).trans aB bS
 obtain⟨us,vI,vJ⟩:=bS.2.2 ⟨_,(by rfl),aO⟩
 replace he:e=aS (aR _ x _) [(26,vs 0)]:=he
 rw[d0] at he
 subst he
 refine cu aK rfl rfl rfl vJ (by rw[vI];rfl) λoo iA hb HI=>W ?_
 exact dn ⟨iA,λ_=>hb,λ_=>⟨_,rfl,hb⟩⟩ hb
 refine bV ?_ ?_
 intro x vs eI e bS hd he
 have d5:vs 5=(.bool (decide (((bf ag p 0).2.2:Int)<=100))):=hd
 replace bS:=(cD w1.heap.size ([str q.au.av,.slice nD nG nH]) 74).trans aB bS
 replace he:e=aS (aR _ x _) [(31,vs 5)]:=he
 rw[d5] at he
 subst he
 refine W ?_
 exact dn ((cD w1.heap.size ([str q.au.av,.slice nD nG nH]) 74).refl _) rfl
 exact trivial
 intro x vs nI Fg bT
 have d0:vs 0=(.agg #[str q.au.av,.slice nD nG nH]):=bT 0 de
 have d1:vs 1=(.pointer (some ⟨w9.heap.size,0,none⟩)):=bT 1 de
 have d2:vs 2=(.pointer (some ⟨w9.heap.size,0,none⟩)):=bT 2 de
 have d3:vs 3=(.pointer (some ⟨w9.heap.size,0+1,none⟩)):=bT 3 de
 have d4:vs 4=(.int .i64 ((bf ag p 0).2.2:Int)):=bT 4 de
 have d5:vs 5=(.bool (decide (((bf ag p 0).2.2:Int)<=100))):=bT 5 de
 have d6:aL nI w1.heap.size ([str q.au.av,.slice nD nG nH]).toArray 74:=bT 6 de
 have d7:vs 7=(.bool (decide (((bf ag p 0).2.2:Int)<=100))):=bT 7 de
 have hK:=hK.aD Fg.1 sx;have tu:=tu.aD Fg.1 sx
 have aO:=d6
 change OW _ _ _ _ [] (aS (aR _ x _) (zZ 26 [vs 0,vs 1,vs 2,vs 3,vs 4,vs 5]++[(100006,vs 6),(3,vs 7)])) _
 rw[d0,d1,d2,d3,d4,d5,d7]
 refine W ?_
 exact⟨[_,_],⟨fB eK aK rfl aO rfl,rfl⟩,⟨_,q.au,congrArg (λb=>Value.tuple #[_,.bool b]) (show decide (((bf ag p 0).2.2:Int)<=100)=(nQ ee).isSome from by unfold nQ;rw[hp,Option.bind_some,<-O0];by_cases h:(bf ag p 0).2.2<=100;(·rw[iP h];exact dT om);(·rw[iN h];exact dF om)),tu.fV sm,λf hf=>by unfold nQ at hf;rw[hp,Option.bind_some,<-O0] at hf;split at hf;(·cases hf;rw[hq]);(·cases hf)⟩,hK⟩
theorem aiA (s:aj) (w:World):bC Tryz.prog 126 [str s] w λr w'=>(∃x ok,r= .tuple #[str x,.bool ok]∧(ok=true↔∃e f,bA s=some e.au∧e.ok∧e.n<=120∧nQ e=some f∧mw f.au.text=true)∧∀e f,bA s=some e.au->e.ok->nQ e=some f->ok=true->x=f.au.text)∧ak [] w w':=by
 have hK:=ak.refl [] w
 refine cj [.tmp 2,.tmp 3] 30 Tryz.func126 rfl abS rfl rfl ?_
 refine W ?_
 refine aA (Hz s [] w sm) ?_
 rintro v1 w1 ⟨fK,aI⟩
 have df:=aI.size
 have hK:=hK.ext aI
 obtain⟨t,tv,rfl,ht,hp⟩:=fK
 obtain⟨pa,pn,pc,rfl,dZ,aQ⟩:=cS ht
 refine W ?_
 refine da aK rfl rfl rfl λw2 az aF dK=>?_
 have hK:=hK.grow;have hK:=hK.ext az;have ht:=ht.grow;have ht:=ht.ext az
 refine cu aK rfl rfl rfl aF rfl λw3 aH aF fS=>?_
 have hK:=hK.aD aH sx;have ht:=ht.aD aH sx
 refine W ?_
 refine zc rfl (λh1=>?_) (λh1=>?_)
 have hx:mw s=false:=by simpa using h1
 refine W ?_
 exact⟨_,rfl,⟨_,false,rfl,⟨λh=>by(cases h),fun⟨e,f,h1,h2,h3,_⟩=>by rw[xk.2 ⟨e,h1,h2,h3⟩] at hx;cases hx⟩,λ_ _ _ _ _ h=>by cases h⟩,hK⟩
 have hx:mw s=true:=by simpa using h1
 obtain⟨e,he,bj,hn⟩:=xk.1 hx
 have e2:=hp.1 _ he
 subst e2
 have Fh:∀{e':Ex},bA s=some e'.au->e'.ok->e'=e:=(λh1 h2=>qS h2 bj (Option.some.inj (h1.symm.trans he)))
 refine W ?_
 refine aA (aiv e hn bj _ w3 (ht.fV sm)) ?_
 rintro v4 w4 ⟨kF,aN⟩
 have fg:=aN.size
 have hK:=hK.ext aN
 obtain⟨tv2,T,rfl,hT,O7⟩:=kF
 obtain⟨iQ,yT,iR,rfl,EV,KO⟩:=cS hT
 refine W ?_
 refine da aK rfl rfl rfl λw5 aJ bK iq=>?_
 have hK:=hK.grow;have hK:=hK.ext aJ;have hT:=hT.grow;have hT:=hT.ext aJ
 refine cu aK rfl rfl rfl bK rfl λw6 bB bK jR=>?_
 have hK:=hK.aD bB sx;have hT:=hT.aD bB sx
 refine W ?_
 refine x4 (t:=22) rfl (λh2=>?_) (λh2=>?_)
 replace h2:=jy h2
 have Ff:nQ e=none:=(by simpa using h2)
 refine W ?_
 refine zc rfl (λh3=>?_) (λh3=>?_)
 refine W ?_
 exact⟨_,rfl,⟨_,false,rfl,⟨λh=>by(cases h),fun⟨e',f',h1,h2,h3,h4,_⟩=>by cases Fh h1 h2;rw[Ff] at h4;cases h4⟩,λ_ _ _ _ _ h=>by cases h⟩,hK⟩
 simp at h3
 replace h2:=jy h2
 have aY:∃f,nQ e=some f:=(by cases hh:nQ e;(·simp[hh] at h2);(·exact⟨_,rfl⟩))
 obtain⟨f,hf⟩:=aY
 have e9:=O7 f hf
 subst e9
 have BI:=Ni bj hf
 have KP:=ais hf
 have hfz:=Ex.size BI
 have O8:=Ex.air BI
 refine W ?_
 refine aA (r6 f.au.size f.au (lR _) (Ex.wf BI).wf om om _ _ w6 hT) ?_
 rintro _ w7 ⟨rfl,bJ⟩
 have jd:=bJ.size
 refine cO bJ hK hT bK λhK hT bK=>?_
 refine aA (Oj _ w7) ?_
 rintro _ w8 ⟨rfl,aU⟩
 have oK:=aU.size
 refine cO aU hK hT bK λhK hT bK=>?_
 refine W ?_
 refine zc rfl (λh4=>?_) (λh4=>?_)
 have eA:mw f.au.text=false:=(by simpa using h4)
 refine W ?_
 exact⟨_,rfl,⟨_,false,rfl,⟨λh=>by(cases h),fun⟨e',f',h1,h2,h3,h4,h5⟩=>by cases Fh h1 h2;rw[hf] at h4;cases h4;rw[eA] at h5;cases h5⟩,λ_ _ _ _ _ h=>by cases h⟩,hK⟩
 have eA:mw f.au.text=true:=(by simpa using h4)
 refine W ?_
 refine aA (r6 f.au.size f.au (lR _) (Ex.wf BI).wf om om _ _ w8 hT) ?_
 rintro _ w9 ⟨rfl,aC⟩
 have lf:=aC.size
 have hK:=hK.ext aC
 refine W ?_
 exact⟨_,rfl,⟨_,true,rfl,⟨λ_=>⟨e,f,he,bj,hn,hf,eA⟩,λ_=>rfl⟩,λe' f' h1 h2 h3 _=>by cases Fh h1 h2;rw[hf] at h3;cases h3;rfl⟩,hK⟩
def eS:Option Ty->aj
 |some T=>T.text
 |none=>[]
def mD (h:aj) (Ts:List Ty):Prop:=(gx h=true∧∃A,Ts=[A])∨(ie h=true∧∃A B,Ts=[A,B])∨(h=gN∧∃A B C,Ts=[A,B,C])
theorem mD.pos {Ts:List Ty} (hj:mD h Ts):0<Ts.length:=by
 rcases hj with⟨_,A,rfl⟩|⟨_,A,B,rfl⟩|⟨_,A,B,C,rfl⟩<;>simp
theorem mD.three {Ts:List Ty} (hj:mD gN Ts):∃A B C,Ts=[A,B,C]:=by
 rcases hj with⟨h,_⟩|⟨h,_⟩|⟨_,h⟩
 ·exact absurd h de
 ·exact absurd h de
 ·exact h
theorem mD.two {Ts:List Ty} (hj:mD h Ts) (hb:ie h=true):∃A B,Ts=[A,B]:=by
 rcases hj with⟨h1,_⟩|⟨_,h1⟩|⟨rfl,_⟩
 ·exfalso
  simp only[gx,oE,dE] at h1
  rcases h1 with rfl|rfl<;>exact absurd hb de
 ·exact h1
 ·exact absurd hb de
theorem mD.one {Ts:List Ty} (hj:mD h Ts) (hb:gx h=true):∃A,Ts=[A]:=by
 rcases hj with⟨_,h1⟩|⟨h1,_⟩|⟨rfl,_⟩
 ·exact h1
 ·exfalso
  simp only[gx,oE,dE] at hb
  rcases hb with rfl|rfl<;>exact absurd h1 de
 ·exact absurd hb de
def zt (f:Bool):Ty->Option (Ty×Ty)
 | .op g a b=>if g=f then some (a,b) else none
 | .i=>none
theorem Wk:A.text=[105]↔A= .i:=⟨λh=>Ty.inj (h.trans (rfl:([105]:aj)=Ty.text .i)),λh=>by rw[h];rfl⟩
theorem aiC:gx Cz=true:=by simp[gx]
theorem aiD:gx rm=true:=by simp[gx]
theorem Wl:ie kn=true:=by simp[ie]
theorem aiE:ie ym=true:=by simp[ie]
theorem Wm (hh:(h=[43]∨h=[45])∨h=[42]):ie h=true:=by
 rcases hh with(rfl|rfl)|rfl<;>simp[ie]
theorem aiF (h:aj) (ks:List aj) (hl:ks.length<=1000) (hn:[]∈ks) (v:Value) (L:List Nat) (w:World) (hv:bg L w v ks):
  bC Tryz.prog 198 [str h,v] w λr w'=>r=str []∧ak [] w w':=by
 have hK:=ak.refl [] w
 refine cj [.tmp 4] 117 Tryz.func198 rfl SJ rfl rfl ?_
 refine W ?_
 refine aA (Bl ks om [] _ _ w hv) ?_
 rintro _ w1 ⟨rfl,aI⟩
 have df:=aI.size
 have hK:=hK.ext aI
 refine aV<|zc rfl (λh1=>?_) (λh1=>?_)
 refine W ?_
 exact⟨_,rfl,rfl,hK⟩
 exact absurd hn (by simpa using h1)
theorem aiG {o:Option (Ty×Ty)} (ho:o=zt true A) (hs:o.isSome=true) (he:th o=B.text):str (yU o)=str (eS (kR kn [A,B])):=by
 cases A with
 |i=>rw[ho] at hs;cases hs
 |op g a b=>
  cases g with
  |false=>rw[ho] at hs;cases hs
  |true=>
   subst ho
   have he:a.text=B.text:=he
   show str b.text=str (eS (if kQ a B=true then some b else none))
   rw[iP (show kQ a B=true from dT he)];rfl
theorem Wn {o:Option (Ty×Ty)} (ho:o=zt false A) (hs:o.isSome=true):str (th o)=str (eS (kR Cz [A]))∧str (yU o)=str (eS (kR rm [A])):=by
 cases A with
 |i=>rw[ho] at hs;cases hs
 |op g a b=>
  cases g with
  |true=>rw[ho] at hs;cases hs
  |false=>subst ho;exact⟨rfl,rfl⟩
theorem aiH (A B:Ty):eS (kR ym [A,B])=if 1+A.n+B.n<=16 then(Ty.op false A B).text else[]:=by
 show eS (if 1+A.n+B.n<=16 then some (.op false A B) else none)=_
 split<;>rfl
theorem aiI (hh:(h=[43]∨h=[45])∨h=[42]):eS (kR h [.i,.i])=[105]:=by
 rcases hh with(rfl|rfl)|rfl<;>rfl
theorem aiJ (hj:mD h (A::r9)) {o1 o2:Option (Ty×Ty)} (xI:o1=zt true A) (vU:o2=zt false A) 
  (bM:(decide (h=gN)&&decide (A.text=[105])&&decide ((cJ ((A::r9).map Ty.text) 1)=(cJ ((A::r9).map Ty.text) 2)))=false) (bZ:(decide (h=kn)&&o1.isSome&&decide (th o1=(cJ ((A::r9).map Ty.text) 1)))=false) (dP:¬h=ym)
  (jJ:(decide (h=Cz)&&o2.isSome)=false) (kt:(decide (h=rm)&&o2.isSome)=false) (qL:(((decide (h=[43])||decide (h=[45]))||decide (h=[42]))&&decide (A.text=[105])&&decide ((cJ ((A::r9).map Ty.text) 1)=[105]))=false):eS (kR h (A::r9))=[]:=by
 rcases hj with⟨hu,A0,e⟩|⟨hb,A0,B,e⟩|⟨rfl,A0,B,C0,e⟩<;>cases e
 ·simp only[gx,oE,dE] at hu
  cases A with
  |i=>rfl
  |op g a b=>
   cases g with
   |true=>rfl
   |false=>
    subst vU
    rcases hu with rfl|rfl
    ·exact Bool.noConfusion (show true=false from jJ)
    ·exact Bool.noConfusion (show true=false from kt)
 ·have O9:cJ ([A,B].map Ty.text) 1=B.text:=rfl
  rw[O9] at bZ qL
  have Pa:(h=[43]∨h=[45])∨h=[42]->eS (kR h [A,B])=[]:=λhh=>by
   have h0:((decide (h=[43])||decide (h=[45]))||decide (h=[42]))=true:=by simpa using hh
   rw[h0,Bool.true_and,Bool.and_eq_false_iff] at qL
   have h1:kR h [A,B]=if(kQ A .i&&kQ B .i)=true then some .i else none:=by
    rcases hh with(rfl|rfl)|rfl<;>rfl
   have hi:Ty.i.text=[105]:=rfl
   rw[h1,iN (by unfold kQ;rw[hi];rcases qL with h|h<;>rw[h]<;>simp)];rfl
  simp only[ie,oE,dE] at hb
  rcases hb with(((rfl|rfl)|rfl)|rfl)|rfl
  ·exact Pa (.inl (.inl rfl))
  ·exact Pa (.inl (.inr rfl))
  ·exact Pa (.inr rfl)
  ·cases A with
   |i=>rfl
   |op g a b=>
    cases g with
    |false=>rfl
    |true=>
     subst xI
     have bZ:decide (a.text=B.text)=false:=bZ
     show eS (if kQ a B=true then some b else none)=[]
     rw[iN (by unfold kQ;rw[bZ];simp)];rfl
  ·exact absurd rfl dP
 ·have O9:cJ ([A,B,C0].map Ty.text) 1=B.text:=rfl
  have hcC:cJ ([A,B,C0].map Ty.text) 2=C0.text:=rfl
  rw[O9,hcC] at bM
  have bM:(decide (A.text=[105])&&decide (B.text=C0.text))=false:=bM
  show eS (if(kQ A .i&&kQ B C0)=true then some B else none)=[]
  have hi:Ty.i.text=[105]:=rfl
  rw[iN (by unfold kQ;rw[hi,bM];simp)];rfl
theorem aiL (hj:mD h (A::r9)) (hh:h=gN) (hA:A.text=[105]) (hB:(cJ ((A::r9).map Ty.text) 1)=(cJ ((A::r9).map Ty.text) 2)):str (cJ ((A::r9).map Ty.text) 1)=str (eS (kR h (A::r9))):=by
 subst hh
 obtain⟨A0,B,C0,e⟩:=hj.three
 cases e
 have hB:B.text=C0.text:=hB
 show str B.text=str (eS (if(kQ A .i&&kQ B C0)=true then some B else none))
 rw[iP (by rw[aE];exact⟨dT hA,dT hB⟩)];rfl
theorem aiM (hj:mD h (A::r9)) (hh:h=kn) {o:Option (Ty×Ty)} (ho:o=zt true A) (hs:o.isSome=true) (he:th o=(cJ ((A::r9).map Ty.text) 1)):str (yU o)=str (eS (kR h (A::r9))):=by
 subst hh
 obtain⟨A0,B,e⟩:=hj.two Wl
 cases e
 exact aiG ho hs he
theorem aiN (hj:mD h (A::r9)) (hh:h=Cz) {o:Option (Ty×Ty)} (ho:o=zt false A) (hs:o.isSome=true):str (th o)=str (eS (kR h (A::r9))):=by
 subst hh
 obtain⟨A0,e⟩:=hj.one aiC
 cases e
 exact(Wn ho hs).1
theorem aiO (hj:mD h (A::r9)) (hh:h=rm) {o:Option (Ty×Ty)} (ho:o=zt false A) (hs:o.isSome=true):str (yU o)=str (eS (kR h (A::r9))):=by
 subst hh
 obtain⟨A0,e⟩:=hj.one aiD
 cases e
 exact(Wn ho hs).2
theorem aiP (hh:h=ym) (e:A::r9=[A,B]):str (if 1+A.n+B.n<=16 then(Ty.op false A B).text else[])=str (eS (kR h (A::r9))):=by
 subst hh
 rw[e,aiH]
theorem aiQ (hj:mD h (A::r9)) (hh:(h=[43]∨h=[45])∨h=[42]) (hA:A.text=[105]) (hB:(cJ ((A::r9).map Ty.text) 1)=[105]):str [105]=str (eS (kR h (A::r9))):=by
 obtain⟨A0,B,e⟩:=hj.two (Wm hh)
 cases e
 have hB:B.text=[105]:=hB
 obtain rfl:=Wk.1 hA
 obtain rfl:=Wk.1 hB
 rw[aiI hh]
theorem aiR (hj:mD h (A::r9)) (hh:h=ym):∃B,A::r9=[A,B]∧(cJ ((A::r9).map Ty.text) 1)=B.text:=by
 subst hh
 obtain⟨A0,B,e⟩:=hj.two aiE
 cases e
 exact⟨B,rfl,rfl⟩
theorem aiS (h:aj) (Ts:List Ty) (hj:mD h Ts) (hT:∀T,T∈Ts->T.n<=16) (v:Value) (L:List Nat) (w:World) (hv:bg L w v (Ts.map Ty.text)):
  bC Tryz.prog 198 [str h,v] w λr w'=>r=str (eS (kR h Ts))∧ak [] w w':=by
 have hK:=ak.refl [] w
 have hp:=hj.pos
 have cm:=hv
 obtain⟨a,np,c,rfl,Wo⟩:=dU hv
 have eN:(Ts.map Ty.text).length=Ts.length:=by simp
 rw[eN] at Wo
 subst Wo
 obtain⟨A,r9,rfl⟩:∃A r,Ts=A::r:=by cases Ts with|nil=>simp at hp|cons A r=>exact⟨A,r,rfl⟩
 have hA:=hT A sm
 have hg:∀i,i<(A::r9).length->(((A::r9).map Ty.text)[i]?=some (cJ ((A::r9).map Ty.text) i)):=λi hi=>kM (by rw[eN];exact hi)
 obtain⟨b,off,rfl,eR⟩:=pR cm (hg 0 hp)
 have hx:∀i,i<(A::r9).length->gJ w b (off+i*1) [str (cJ ((A::r9).map Ty.text) i)]:=λi hi=>by obtain⟨b1,eh,e1,hc⟩:=pR cm (hg i hi);cases e1;exact hc
 have dY:([]:aj)∉(A::r9).map Ty.text:=λhm=>by obtain⟨T,_,h2⟩:=List.mem_map.1 hm;exact absurd h2 T.ne
 refine cj [.tmp 4] 117 Tryz.func198 rfl SJ rfl rfl ?_
 refine W ?_
 refine aA (Bl ((A::r9).map Ty.text) (by rw[eN];rcases hj with⟨_,_,e⟩|⟨_,_,_,e⟩|⟨_,_,_,_,e⟩<;>rw[e]<;>simp) [] _ _ w cm) ?_
 rintro _ w1 ⟨rfl,aI⟩
 have df:=aI.size
 have hK:=hK.ext aI
 refine aV<|zc rfl (λh1=>?_) (λh1=>?_)
 exact absurd (by simpa using h1) dY
 refine gX<|zr<|zm<|zi (i:=0) bo bm rfl rfl hp<|zl gv rfl ((hx 0 hp).ext hK 0 _ rfl)<|aA (Vg A.text w1) ?_
 rintro v2 w2 ⟨gP,az⟩
 have dz:=az.size
 have hK:=hK.ext az
 obtain⟨o1,xI,rfl⟩:=gP
 have xI:o1=zt true A:=(by have:=Vi hA true xI;cases A<;>exact this)
 refine WI ?_
 refine zi (i:=0) bo bm rfl rfl hp<|zl gv rfl ((hx 0 hp).ext hK 0 _ rfl)<|aA (Vh A.text w2) ?_
 rintro v3 w3 ⟨ka,aH⟩
 have eM:=aH.size
 have hK:=hK.ext aH
 obtain⟨o2,vU,rfl⟩:=ka
 have vU:o2=zt false A:=(by have:=Vi hA false vU;cases A<;>exact this)
 refine W ?_
 refine Ez [32,33,34,35,36,37,38,39,40,41,42,43,44,45,46,47,48,31] [(31,.bool (decide (h=gN)&&decide (A.text=[105])&&decide ((cJ ((A::r9).map Ty.text) 1)=(cJ ((A::r9).map Ty.text) 2))))] ?_ ?_
 rcases bE (decide (h=gN)) with iX|iX
 rcases bE (decide (h=gN)&&decide (A.text=[105])) with mX|mX
 apply kU du 18 (rA 32 17++[31]) (rA 32 17++[31]) [[],[0],[1],[2],[2,3],[2,4],[2,5],[2,6],[7],[8],[8,9],[8,10],[8],[8,12],[8,13],[8,11,14],[8,15],[16]] [It.v _,It.v _,It.v (.bool true),It.v _,It.v _,It.v _,It.v _,It.v _,It.v (.bool true),It.v _,It.v _,It.v _,It.v _,It.v _,It.v _,It.v _,It.v _,It.v _] de rfl
 intro wd aB
 refine VA ?_
 refine vc (λx w4 aN=>?_) ?_
 refine WZ ?_
 exact pv (by exact congrArg Value.bool iX)
 refine vc (λ_ _ _=>WZ pv) ?_
 refine vk aB (λx w4 aN=>?_) ?_
 refine zi (i:=0) bo bm rfl rfl hp ?_
 exact pv
 refine vk aB (λx w4 aN=>?_) ?_
 have hK:=hK.ext aN
 refine zl gv rfl ((hx 0 hp).ext hK 0 _ rfl) ?_
 exact pv
 refine VA ?_
 refine vc (λx w4 aN=>?_) ?_
 refine zm ?_
 exact pv (by first|exact congrArg Value.bool mX|(rw[iX] at mX;exact congrArg Value.bool mX))
 refine VA ?_
 refine vk aB (λx w4 aN=>?_) ?_
 have hg:=mX
 refine zi (i:=1) bo bm rfl rfl ((by simp only[aE,dE] at hg;obtain⟨_,_,_,e⟩:=(hg.1▸hj:mD gN _).three;rw[e];simp)) ?_
 exact pv
 refine vk aB (λx w4 aN=>?_) ?_
 have hK:=hK.ext aN
 have hg:=mX
 refine zl gv rfl ((hx 1 (by simp only[aE,dE] at hg;obtain⟨_,_,_,e⟩:=(hg.1▸hj:mD gN _).three;rw[e];simp)).ext hK 0 _ rfl) ?_
 exact pv
 refine VA ?_
 refine vk aB (λx w4 aN=>?_) ?_
 have hg:=mX
 refine zi (i:=2) bo bm rfl rfl ((by simp only[aE,dE] at hg;obtain⟨_,_,_,e⟩:=(hg.1▸hj:mD gN _).three;rw[e];simp)) ?_
 exact pv
 refine vk aB (λx w4 aN=>?_) ?_
 have hK:=hK.ext aN
 have hg:=mX
 refine zl gv rfl ((hx 2 (by simp only[aE,dE] at hg;obtain⟨_,_,_,e⟩:=(hg.1▸hj:mD gN _).three;rw[e];simp)).ext hK 0 _ rfl) ?_
 exact pv
 exact VZ
 intro x p7 j7
 change OW _ _ _ _ [] (aS (aR _ x _) (zZ 32 [_,_,_,_,_,_,_,_,_,_,_,_,_,_,_,_,_]++[(31,_)])) _
 refine W ?_
 exact kE j7
 apply kU du 18 (rA 32 17++[31]) (rA 32 17++[31]) [[],[0],[1],[2],[2,3],[2,4],[2,5],[2,6],[7],[8],[8,9],[8,10],[8],[8,12],[8,13],[8,11,14],[8,15],[16]] [It.v _,It.v _,It.v (.bool true),It.v _,It.v _,It.v _,It.v _,It.v _,It.v (.bool false),It.v _,It.v _,It.v _,It.v _,It.v _,It.v _,It.v _,It.v _,It.v _] de rfl
 intro wd aB
 refine VA ?_
 refine vc (λx w4 aN=>?_) ?_
 refine WZ ?_
 exact pv (by exact congrArg Value.bool iX)
 refine vc (λ_ _ _=>WZ pv) ?_
 refine vk aB (λx w4 aN=>?_) ?_
 refine zi (i:=0) bo bm rfl rfl hp ?_
 exact pv
 refine vk aB (λx w4 aN=>?_) ?_
 have hK:=hK.ext aN
 refine zl gv rfl ((hx 0 hp).ext hK 0 _ rfl) ?_
 exact pv
 refine VA ?_
 refine vc (λx w4 aN=>?_) ?_
 refine zm ?_
 exact pv (by first|exact congrArg Value.bool mX|(rw[iX] at mX;exact congrArg Value.bool mX))
 exact VZ
 intro x p7 j7
 change OW _ _ _ _ [] (aS (aR _ x _) (zZ 32 [_,_,_,_,_,_,_,_,_,_,_,_,_,_,_,_,_]++[(31,_)])) _
 refine W ?_
 exact kE j7
 apply kU du 18 (rA 32 17++[31]) (rA 32 17++[31]) [[],[0],[1],[2],[2,3],[2,4],[2,5],[2,6],[7],[8],[8,9],[8,10],[8],[8,12],[8,13],[8,11,14],[8,15],[16]] [It.v _,It.v _,It.v (.bool false),It.v _,It.v _,It.v _,It.v _,It.v _,It.v (.bool false),It.v _,It.v _,It.v _,It.v _,It.v _,It.v _,It.v _,It.v _,It.v _] de rfl
 intro wd aB
 refine VA ?_
 refine vc (λx w4 aN=>?_) ?_
 refine WZ ?_
 exact pv (by exact congrArg Value.bool iX)
 refine vc (λx w4 aN=>?_) ?_
 exact cT pv
 refine vk aB (λx w4 aN=>?_) ?_
 exact cT pv
 refine vk aB (λx w4 aN=>?_) ?_
 exact cT pv
 refine vk aB (λx w4 aN=>?_) ?_
 exact cT pv
 refine vc (λ_ _ _=>WZ pv) ?_
 refine vc (λx w4 aN=>?_) ?_
 refine WZ ?_
 exact pv (by rfl)
 exact VZ
 intro x p7 j7
 change OW _ _ _ _ [] (aS (aR _ x _) (zZ 32 [_,_,_,_,_,_,_,_,_,_,_,_,_,_,_,_,_]++[(31,_)])) _
 refine W ?_
 exact kE j7
 intro x p7 j7
 have hK:=hK.ext j7
 refine zc rfl (λh2=>?_) (λh2=>?_)
 simp only[aE,dE] at h2
 obtain⟨⟨hh,Fi⟩,hBC⟩:=h2
 have iz:1<(A::r9).length:=(by obtain⟨_,_,_,e⟩:=(hh▸hj:mD gN _).three;rw[e];simp)
 refine zr<|zm<|zi (i:=1) bo bm rfl rfl iz<|zl gv rfl ((hx 1 iz).ext hK 0 _ rfl)<|zA<|aV<|kj ?_
 exact⟨_,rfl,aiL hj hh Fi hBC,hK⟩
 have bM:=h2
 refine WZ ?_
 apply oB 2 55 57 rfl oQ
 intro _
 exact oQ
 intro xx
 refine WZ ?_
 apply oB 6 58 64 rfl oQ
 intro h4
 have iz:1<(A::r9).length:=(by simp only[aE,dE] at h4;obtain⟨_,_,e⟩:=hj.two (h4.1▸Wl);rw[e];simp)
 refine zm<|zm<|zi (i:=1) bo bm rfl rfl iz<|zl gv rfl ((hx 1 iz).ext hK 0 _ rfl) ?_
 exact oQ
 intro xx
 refine zA<|aV<|zc rfl (λh5=>?_) (λh5=>?_)
 simp only[aE,dE] at h5
 obtain⟨⟨hh,df⟩,Jv⟩:=h5
 refine W ?_
 exact⟨_,rfl,aiM hj hh xI df Jv,hK⟩
 have bZ:=h5
 refine W ?_
 refine zc rfl (λh6=>?_) (λh6=>?_)
 have hh:h=ym:=h6
 obtain⟨B,eB,hK1⟩:=aiR hj hh
 have iz:1<(A::r9).length:=(by rw[eB];simp)
 have iF:=hx 1 iz
 rw[hK1] at iF
 refine WZ ?_
 apply dV du 12 [70,71,72,73,74,75,76,69,77,78,11,12] [[],[0],[1],[],[3],[4],[2,5],[6],[7],[7],[8],[9]] (it [_,_,_,_,_,_,_,_,_,_,_,_]) de rfl
 intro wd aB
 refine vc (λ_ _ _=>WZ pv) ?_
 refine vk aB (λx nX jm=>?_) ?_
 refine zi (i:=0) bo bm rfl rfl hp ?_
 exact pv
 refine vk aB (λx nX jm=>?_) ?_
 have hK:=hK.ext jm
 refine zl gv rfl ((hx 0 hp).ext hK 0 _ rfl) ?_
 exact pv
 refine vc (λ_ _ _=>WZ pv) ?_
 refine vk aB (λx nX jm=>?_) ?_
 refine zi (i:=1) bo bm rfl rfl iz ?_
 exact pv
 refine vk aB (λx nX jm=>?_) ?_
 have hK:=hK.ext jm
 refine zl gv rfl (iF.ext hK 0 _ rfl) ?_
 exact pv
 refine vk aB (λx nX jm=>?_) ?_
 refine aA (Vk false A B hA (hT B (by rw[eB];simp)) nX) ?_
 rintro _ qb ⟨rfl,qN⟩
 have aqp:=qN.size
 exact pk qN
 exact VZ
 intro x w83 aiV
 have hK:=hK.ext aiV
 change OW _ _ _ _ [] (aS (aR _ x _) (zZ 70 [_,_,_,_,_,_,_]++[(69,_),(77,_),(78,_),(11,_),(12,_)])) _
 refine W ?_
 exact⟨_,rfl,aiP hh eB,hK⟩
 have dP:=h6
 refine WZ ?_
 apply oB 2 83 85 rfl oQ
 intro _
 exact oQ
 intro xx
 refine zA<|aV<|zc rfl (λh8=>?_) (λh8=>?_)
 simp only[aE,dE] at h8
 obtain⟨hh,df⟩:=h8
 refine W ?_
 exact⟨_,rfl,aiN hj hh vU df,hK⟩
 have jJ:=h8
 refine WZ ?_
 apply oB 2 90 92 rfl oQ
 intro _
 exact oQ
 intro xx
 refine zA<|aV<|zc rfl (λgh=>?_) (λgh=>?_)
 simp only[aE,dE] at gh
 obtain⟨hh,df⟩:=gh
 refine W ?_
 exact⟨_,rfl,aiO hj hh vU df,hK⟩
 have kt:=gh
 refine WZ ?_
 apply oP 3 97 100 rfl oQ
 intro _
 exact oQ
 intro xx
 refine WZ ?_
 apply oP 3 101 104 rfl oQ
 intro _
 exact oQ
 intro xx
 refine WZ ?_
 apply oB 5 105 110 rfl oQ
 intro _
 refine zm<|zi (i:=0) bo bm rfl rfl hp<|zl gv rfl ((hx 0 hp).ext hK 0 _ rfl) ?_
 exact oQ
 intro xx
 refine WZ ?_
 apply oB 5 111 116 rfl oQ
 intro Ew
 have iz:1<(A::r9).length:=(by simp only[aE,oE,dE] at Ew;obtain⟨_,_,e⟩:=hj.two (Wm Ew.1);rw[e];simp)
 refine zm<|zi (i:=1) bo bm rfl rfl iz<|zl gv rfl ((hx 1 iz).ext hK 0 _ rfl) ?_
 exact oQ
 intro xx
 refine zA<|aV<|zc rfl (λKQ=>?_) (λKQ=>?_)
 simp only[aE,oE,dE] at KQ
 obtain⟨⟨hh,Fi⟩,hBi⟩:=KQ
 refine W ?_
 exact⟨_,rfl,aiQ hj hh Fi hBi,hK⟩
 have qL:=KQ
 refine W ?_
 exact⟨_,rfl,congrArg (λx=>str x) (aiJ hj xI vU bM bZ dP jJ kt qL).symm,hK⟩
theorem aiX (o:Option Ty):Vv o=eS o:=by cases o<;>rfl
theorem Wp {o:Option Ty} (h:eS o=[]):o=none:=by
 cases o with
 |none=>rfl
 |some T=>exact absurd h T.ne
theorem Wq {o:Option Ty} (h:eS o≠[]):∃T,o=some T:=by
 cases o with
 |none=>exact absurd rfl h
 |some T=>exact⟨T,rfl⟩
def rH (e:Ex) (Γ:Sc):List aj:=e.kids.map λx=>eS (bD x Γ)
theorem aiY {Γ:Sc} (bj:e.ok) (eX:e.iM=false) (h1:e.head≠gw) (h2:e.head≠ic) (hΓ:yp Γ):
  ([]∈rH e Γ∧bD e Γ=none)∨∃Ts,rH e Γ=Ts.map Ty.text∧mD e.head Ts∧bD e Γ=kR e.head Ts∧∀T,T∈Ts->T.n<=16:=by
 cases e with
 |«at» s=>cases eX
 |lt x a b=>exact absurd rfl h1
 |fn f x A B b=>exact absurd rfl h2
 |un h a=>
  show([]∈[eS (bD a Γ)]∧(bD a Γ).bind _=none)∨_
  cases ha:bD a Γ with
  |none=>exact .inl ⟨by simp[eS],rfl⟩
  |some A=>exact .inr ⟨[A],by simp[rH,Ex.kids,ha,eS],.inl ⟨bj.1,A,rfl⟩,by simp[bD,ha,Ex.head],by simpa using lX hΓ ha⟩
 |bi h a b=>
  show([]∈[eS (bD a Γ),eS (bD b Γ)]∧(bD a Γ).bind _=none)∨_
  cases ha:bD a Γ with
  |none=>exact .inl ⟨by simp[eS],rfl⟩
  |some A=>
   cases hb:bD b Γ with
   |none=>exact .inl ⟨by simp[eS],rfl⟩
   |some B=>exact .inr ⟨[A,B],by simp[rH,Ex.kids,ha,hb,eS],.inr (.inl ⟨bj.1,A,B,rfl⟩),by simp[bD,ha,hb,Ex.head],by intro T hT;simp at hT;rcases hT with rfl|rfl;exact lX hΓ ha;exact lX hΓ hb⟩
 |ite a b c=>
  show([]∈[eS (bD a Γ),eS (bD b Γ),eS (bD c Γ)]∧(bD a Γ).bind _=none)∨_
  cases ha:bD a Γ with
  |none=>exact .inl ⟨by simp[eS],rfl⟩
  |some A=>
   cases hb:bD b Γ with
   |none=>exact .inl ⟨by simp[eS],rfl⟩
   |some B=>
    cases hc:bD c Γ with
    |none=>exact .inl ⟨by simp[eS],rfl⟩
    |some C0=>exact .inr ⟨[A,B,C0],by simp[rH,Ex.kids,ha,hb,hc,eS],.inr (.inr ⟨rfl,A,B,C0,rfl⟩),by simp[bD,ha,hb,hc,Ex.head],by intro T hT;simp at hT;rcases hT with rfl|rfl|rfl;exact lX hΓ ha;exact lX hΓ hb;exact lX hΓ hc⟩
theorem Wr {f:aj} {Γ:Sc}:eS (bD (.fn f x A B e) Γ)=if(!decide (1+A.n+B.n<=16)||decide (eS (bD e (Γ++[(f,.op true A B),(x,A)]))≠B.text))=true then[] else(Ty.op true A B).text:=by
 show eS (if 1+A.n+B.n<=16 then(bD e (Γ++[(f,.op true A B),(x,A)])).bind λC=>if kQ C B then some (.op true A B) else none else none)=_
 by_cases h:1+A.n+B.n<=16
 ·rw[iP h,dT h,Bool.not_true,Bool.false_or]
  cases hC:bD e (Γ++[(f,.op true A B),(x,A)]) with
  |none=>
   have hz:decide (eS none≠B.text)=true:=by simpa[eS] using λh:[]=B.text=>B.ne h.symm
   rw[iP hz];rfl
  |some C0=>
   show eS (if kQ C0 B=true then some (.op true A B) else none)=_
   by_cases hq:C0.text=B.text
   ·rw[iP (show kQ C0 B=true from dT hq),iN (by simp[eS,hq])];rfl
   ·rw[iN (show¬kQ C0 B=true from by unfold kQ;simpa using hq),iP (by simp[eS,hq])];rfl
 ·rw[iN h,dF h,iP sm];rfl
theorem aiZ (e:Ex) (Γ:Sc):(rH e Γ).length<=3:=by
 rw[rH,List.length_map]
 cases e<;>simp[Ex.kids]
theorem ai0 {Γ:Sc} (bj:e.ok) (eX:e.iM=false) (h1:e.head≠gw) (h2:e.head≠ic) (hΓ:yp Γ) (v:Value) (L:List Nat) (w:World) (hv:bg L w v (rH e Γ)):
  bC Tryz.prog 198 [str e.head,v] w λr w'=>r=str (eS (bD e Γ))∧ak [] w w':=by
 rcases aiY bj eX h1 h2 hΓ with⟨hn,hq⟩|⟨Ts,hk,hj,hq,hT⟩
 ·rw[hq];exact aiF e.head (rH e Γ) (by have:=aiZ e Γ;omega) hn v L w hv
 ·rw[hq];exact aiS e.head Ts hj hT v L w (hk▸hv)
theorem ai1 {Γ:Sc} (h:k<e.kids.length):(rH e Γ).take (k+1)=(rH e Γ).take k++[eS (bD (fZ e k) Γ)]:=by
 rw[List.take_add_one]
 simp[rH,fZ,gE h]
theorem Ws:∀(m:Nat) (e:Ex),e.n<=m->e.n<=1000->e.ok->∀(Γ:Sc),Γ.length+2*e.n<=100000->yp Γ->∀(v vn vt:Value) (L:List Nat) (w:World),(∀x,x∈L->x<w.heap.size)->bh L w v e.au->bg L w vn (Γ.map Prod.fst)->bg L w vt (Γ.map λp=>p.2.text)->
  bC Tryz.prog 159 [v,vn,vt] w λr w'=>r=str (eS (bD e Γ))∧ak [] w w':=by
 intro m
 induction m with
 |zero=>intro e h;have:=e.pos;omega
 |succ m ih=>
  intro e hm kW bj Γ hΓl hΓ v vn vt L w lN hv jU eD
  obtain⟨a,np,c,rfl,hn,aQ⟩:=cS hv
  subst hn
  obtain⟨an,nn,cn,rfl,qd⟩:=dU jU
  obtain⟨ay,ny,HZ,rfl,J4⟩:=dU eD
  have hK:=ak.refl [] w
  have fF:(Γ.map Prod.fst).length=Γ.length:=by simp
  have iz:(Γ.map λp=>p.2.text).length=Γ.length:=by simp
  have Kh:=HC e
  refine cj [.tmp 6] 132 Tryz.func159 rfl aco rfl rfl ?_
  refine zr<|ey rfl λw1 aI bU di=>gH aI hK aQ jU eD λhK aQ jU eD=>?_
  refine W ?_
  refine zc rfl (λh1=>?_) (λh1=>?_)
  have aY:∃x,e= .at x:=(by have ha:=(vM bj).1 h1;cases e<;>first|exact⟨_,rfl⟩|cases ha)
  obtain⟨x,rfl⟩:=aY
  refine W ?_
  refine aA (vH _ _) ?_
  rintro _ _ ⟨rfl,rfl⟩
  refine aV<|zc rfl (λh2=>?_) (λh2=>?_)
  have hq:bD (.at x) Γ=look Γ x:=iP h2
  refine W ?_
  refine aA (HA (Γ.map Prod.fst) (Γ.map λp=>p.2.text) om om x _ _ _ _ w1 jU eD) ?_
  rintro _ w2 ⟨rfl,az⟩
  have dz:=az.size
  have hK:=hK.ext az
  refine W ?_
  have zg:=Vw x Γ
  rw[<-fF] at zg
  exact⟨_,rfl,congrArg (λz=>str z) (by rw[hq,<-aiX];exact zg),hK⟩
  have hq:bD (.at x) Γ=some .i:=iN (λhh=>Bool.noConfusion (hh.symm.trans h2))
  refine W ?_
  exact⟨_,rfl,by rw[hq];rfl,hK⟩
  have eX:e.iM=false:=(by cases hh:e.iM;rfl;exact absurd ((vM bj).2 hh) h1)
  obtain⟨HD,lK,js,xl⟩:=Ex.ai eX
  obtain⟨jB,EY,EZ⟩:=HB bj eX
  obtain⟨b0,yV,yA,yB,e0,uw,ke⟩:=fm aQ jB
  cases e0
  have uw:=uw.cells
  refine WI ?_
  refine zi (i:=0) cw aK rfl rfl jB<|W ?_
  refine zc rfl (λh3=>?_) (λh3=>?_)
  obtain⟨nx,ea,eb,rfl⟩:=Km bj (js.symm.trans h3)
  have xp:(Ex.lt nx ea eb).n=2+ea.n+eb.n:=rfl
  have Kp:(Ex.lt nx ea eb).au.ai.length=4:=rfl
  obtain⟨b1,eh,gT,gU,e1,bM,cV⟩:=fm aQ (i:=1) om
  cases e1
  obtain⟨b2,kY,iQ,iR,e2,bZ,dQ⟩:=fm aQ (i:=2) om
  cases e2
  have dQ:bh L _ _ ea.au:=dQ
  obtain⟨b3,xe,pz,pA,e3,dP,ew⟩:=fm aQ (i:=3) om
  cases e3
  have ew:bh L _ _ eb.au:=ew
  refine WI ?_
  refine zi (i:=2) cw aK rfl rfl ((show 2<4 from om))<|W ?_
  refine aA (ih ea om om bj.2.1 Γ om hΓ _ _ _ L w1 (λx hx=>lL (lN x hx) hK.size) dQ jU eD) ?_
  rintro _ w2 ⟨rfl,az⟩
  have dz:=az.size
  refine JN az hK jU eD bU bM dP ew λhK jU eD bU bM dP ew=>?_
  refine W ?_
  refine zc rfl (λh4=>?_) (λh4=>?_)
  have hz:bD ea Γ=none:=Wp h4
  have hq:bD (.lt nx ea eb) Γ=none:=(show(bD ea Γ).bind _=none from by rw[hz];rfl)
  refine W ?_
  exact⟨_,rfl,by rw[hq];rfl,hK⟩
  obtain⟨A,hA⟩:=Wq h4
  have hq:bD (.lt nx ea eb) Γ=bD eb (Γ++[(nx,A)]):=(show(bD ea Γ).bind _=_ from by rw[hA];rfl)
  have hGA:=GF (x:=nx) hΓ (lX hΓ hA)
  have hAt:eS (bD ea Γ)=A.text:=by rw[hA];rfl
  refine WZ ?_
  apply wX du 18 (rA 41 17++[6]) (rA 41 17++[6]) [[],[0],[1],[2],[],[],[5],[6],[7],[8],[9],[4,10],[],[],[13],[12,14],[3,11,15],[16]] [It.v _,It.v _,It.v _,It.v _,It.v _,It.v _,It.v _,It.v _,It.v _,It.v _,It.p (fun(v:Value) (ww:World)=>bg L ww v [nx]),It.p (fun(v:Value) (ww:World)=>bg L ww v (Γ.map Prod.fst++[nx])),It.v _,It.v _,It.p (fun(v:Value) (ww:World)=>bg L ww v [eS (bD ea Γ)]),It.p (fun(v:Value) (ww:World)=>bg L ww v ((Γ.map λp=>p.2.text)++[eS (bD ea Γ)])),It.v _,It.v _] de (by exact⟨λv w w' h k=>bg.ext h k,λv w w' h k=>bg.ext h k,λv w w' h k=>bg.ext h k,λv w w' h k=>bg.ext h k,trivial⟩)
  intro wd aB
  refine VA ?_
  refine vk aB (λx w3 aH=>?_) ?_
  refine zi (i:=3) cw aK rfl rfl ((show 3<4 from om)) ?_
  exact pv
  refine VA ?_
  refine vk aB (λx w3 aH=>?_) ?_
  refine zi (i:=1) cw aK rfl rfl ((show 1<4 from om)) ?_
  exact pv
  refine VA ?_
  refine vk aB (λx w3 aH=>?_) ?_
  have hK:=hK.ext aH
  refine fo bo bm rfl rfl ?_
  intro w4 aN Pb ga
  have hK:=hK.ext aN
  exact pf aN ((aL.dS [nx] Pb (λhx=>by have:=lN _ hx;have:=hK.size;have:=aH.size;omega)))
  refine vk aB (λx w3 aH=>?_) ?_
  refine bL aH hK jU λhK jU=>?_
  intro v10 d10
  refine aA (uo (Γ.map Prod.fst) [nx] so _ _ L w3 jU d10 (λx hx=>lL (lN x hx) hK.size)) ?_
  rintro v4 w4 ⟨kF,aN⟩
  have fg:=aN.size
  have jM:=kF
  exact pf aN jM
  refine VA ?_
  refine vk aB (λx w3 aH=>?_) ?_
  have hK:=hK.ext aH
  refine fo bo bm rfl rfl λw4 aN C9 ga=>?_
  have hK:=hK.ext aN
  exact pf aN ((aL.dS [eS (bD ea Γ)] C9 (λhx=>by have:=lN _ hx;have:=hK.size;have:=aH.size;omega)))
  refine vk aB (λx w3 aH=>?_) ?_
  refine bL aH hK eD λhK eD=>?_
  intro l9 d14
  refine aA (uo (Γ.map λp=>p.2.text) [eS (bD ea Γ)] so (.slice ay ny HZ) _ L w3 eD d14 (λx hx=>lL (lN x hx) hK.size)) ?_
  rintro v4 w4 ⟨kF,aN⟩
  have fg:=aN.size
  have jM:=kF
  exact pf aN jM
  refine vk aB (λx w3 aH=>?_) ?_
  refine bL aH hK ew λhK ew=>?_
  intro v11 d11
  intro vR d15
  refine aA (ih eb om om bj.2.2 (Γ++[(nx,A)]) so hGA _ _ _ L w3 (λx hx=>lL (lN x hx) hK.size) ew (show bg L _ _ ((Γ++_).map _) from by rw[List.map_append];exact d11) (show bg L _ _ ((Γ++[(nx,A)]).map _) from by rw[List.map_append,List.map_singleton,<-hAt];exact d15)) ?_
  rintro _ w4 ⟨rfl,aN⟩
  have fg:=aN.size
  exact pk aN
  exact VZ
  intro x qQ Ds
  intro v10 d10
  intro v11 d11
  intro l9 d14
  intro vR d15
  have hK:=hK.ext Ds
  change OW _ _ _ _ [] (aS (aR _ x _) (zZ 41 [_,_,_,_,_,_,_,_,_,_,_,_,_,_,_,_,_]++[(6,_)])) _
  refine W ?_
  exact⟨_,rfl,congrArg (λz=>str (eS z)) hq.symm,hK⟩
  have pN:e.head≠gw:=λhh=>h3 (js.trans hh)
  refine W ?_
  refine zc rfl (λh5=>?_) (λh5=>?_)
  obtain⟨nf,nx,tA,tB,eb,rfl⟩:=Kn bj (js.symm.trans h5)
  have xp:(Ex.fn nf nx tA tB eb).n=3+tA.n+tB.n+eb.n:=rfl
  have Ku:(Ex.fn nf nx tA tB eb).au.ai.length=6:=rfl
  obtain⟨b1,eh,gT,gU,e1,bM,cV⟩:=fm aQ (i:=1) om
  cases e1
  obtain⟨b2,kY,iQ,iR,e2,bZ,dQ⟩:=fm aQ (i:=2) om
  cases e2
  obtain⟨b3,xe,pz,pA,e3,dP,ew⟩:=fm aQ (i:=3) om
  cases e3
  have ew:bh L _ _ tA.au:=ew
  obtain⟨b4,yE,Of,Og,e4,jJ,qi⟩:=fm aQ (i:=4) om
  cases e4
  have qi:bh L _ _ tB.au:=qi
  obtain⟨b5,yF,Fj,Fk,e5,kt,nB⟩:=fm aQ (i:=5) om
  cases e5
  have nB:bh L _ _ eb.au:=nB
  have hAz:=tA.size
  have hBz:=tB.size
  have Ob:=tA.len
  have Oc:=tB.len
  refine WI ?_
  refine zi (i:=3) cw aK rfl rfl ((show 3<6 from om))<|W ?_
  refine aA (r6 tA.au.size tA.au (lR _) tA.pb.wf om (show tA.text.length<=100000000 from om) _ _ w1 ew) ?_
  rintro _ w2 ⟨rfl,az⟩
  have dz:=az.size
  refine afk az hK jU eD bU bM bZ jJ kt qi λhK jU eD bU bM bZ jJ kt qi=>?_
  have nB:=nB.ext az
  refine WI ?_
  refine zi (i:=4) cw aK rfl rfl ((show 4<6 from om))<|W ?_
  refine aA (r6 tB.au.size tB.au (lR _) tB.pb.wf om (show tB.text.length<=100000000 from om) _ _ w2 qi) ?_
  rintro _ w3 ⟨rfl,aH⟩
  have eM:=aH.size
  refine CK aH hK jU eD bU bM bZ kt nB λhK jU eD bU bM bZ kt nB=>?_
  refine W ?_
  refine aA (Vk true tA tB bj.2.2.2.1 bj.2.2.2.2.1 w3) ?_
  rintro _ w4 ⟨rfl,aN⟩
  have fg:=aN.size
  refine CK aN hK jU eD bU bM bZ kt nB λhK jU eD bU bM bZ kt nB=>?_
  have Wt:∀x,x∈L->x<w4.heap.size:=(λx hx=>lL (lN x hx) hK.size)
  refine W ?_
  refine iS (λ_:Unit=>[(10,str (if 1+tA.n+tB.n<=16 then(Ty.op true tA tB).text else[])),(104,.bool (!decide (1+tA.n+tB.n<=16)||decide (eS (bD eb (Γ++[(nf,.op true tA tB),(nx,tA)]))≠tB.text)))]) (λ_ w'=>ak [] w w'∧ak [] w4 w') ?_ ?_
  rcases Classical.em (1+tA.n+tB.n<=16) with lk|lk
  apply wX du 29 (rA 76 29) (rA 76 29) [[],[0],[1],[2],[2,3],[2,4],[2,5],[2],[2],[2,8],[2,9],[2,10],[2,11],[2],[2,13],[2,14],[2,15],[2,16],[2,12,17],[2,7,18],[2],[2],[2],[2,21,22],[2,20,23],[2,6,19,24],[2],[2,25,26],[2,27]] [It.v _,It.v _,It.v (.bool false),It.v _,It.v _,It.v _,It.v _,It.v _,It.v _,It.v _,It.v _,It.v _,It.v _,It.v _,It.v _,It.v _,It.v _,It.v _,It.p (fun(v:Value) (ww:World)=>bg L ww v [nf,nx]),It.p (fun(v:Value) (ww:World)=>bg L ww v (Γ.map Prod.fst++[nf,nx])),It.v _,It.v _,It.v _,It.p (fun(v:Value) (ww:World)=>bg L ww v [(if 1+tA.n+tB.n<=16 then(Ty.op true tA tB).text else[]),tA.text]),It.p (fun(v:Value) (ww:World)=>bg L ww v ((Γ.map λp=>p.2.text)++[(if 1+tA.n+tB.n<=16 then(Ty.op true tA tB).text else[]),tA.text])),It.v _,It.v _,It.v _,It.v _] de (by exact⟨λv w w' h k=>bg.ext h k,λv w w' h k=>bg.ext h k,λv w w' h k=>bg.ext h k,λv w w' h k=>bg.ext h k,trivial⟩)
  intro wd aB
  refine VA ?_
  refine vc (λx w5 aJ=>?_) ?_
  refine WZ ?_
  exact pv (by exact congrArg Value.bool (show(!decide (1+tA.n+tB.n<=16))=false from by rw[dT lk];rfl))
  refine VA ?_
  refine vk aB (λx w5 aJ=>?_) ?_
  refine zi (i:=5) cw aK rfl rfl ((show 5<6 from om)) ?_
  exact pv
  refine VA ?_
  refine vk aB (λx w5 aJ=>?_) ?_
  refine zi (i:=1) cw aK rfl rfl ((show 1<6 from om)) ?_
  exact pv
  refine VA ?_
  refine vk aB (λx w5 aJ=>?_) ?_
  refine zi (i:=2) cw aK rfl rfl ((show 2<6 from om)) ?_
  exact pv
  refine VA ?_
  refine vk aB (λx w5 aJ=>?_) ?_
  refine lg bo bm rfl rfl rfl rfl ?_
  intro w6 bB ai4 jR
  exact pf bB ((aL.dS [nf,nx] ai4 (λhx=>by have:=Wt _ hx;have:=aJ.size;omega)))
  refine vk aB (λx w5 aJ=>?_) ?_
  refine bL aJ hK jU λhK jU=>?_
  intro xD d18
  refine aA (uo (Γ.map Prod.fst) [nf,nx] so (.slice an nn cn) _ L w5 jU d18 (λx hx=>lL (lN x hx) hK.size)) ?_
  rintro v6 w6 ⟨xJ,bB⟩
  have ku:=bB.size
  have jM:=xJ
  exact pf bB jM
  refine VA ?_
  refine vk aB (λx w5 aJ=>?_) ?_
  refine lg bo bm rfl rfl rfl rfl λw6 bB Pc jR=>?_
  exact pf bB ((aL.dS [(if 1+tA.n+tB.n<=16 then(Ty.op true tA tB).text else[]),tA.text] Pc (λhx=>by have:=Wt _ hx;have:=aJ.size;omega)))
  refine vk aB (λx w5 aJ=>?_) ?_
  refine bL aJ hK eD λhK eD=>?_
  intro V7 d23
  refine aA (uo (Γ.map λp=>p.2.text) [(if 1+tA.n+tB.n<=16 then(Ty.op true tA tB).text else[]),tA.text] so (.slice ay ny HZ) _ L w5 eD d23 (λx hx=>lL (lN x hx) hK.size)) ?_
  rintro v6 w6 ⟨xJ,bB⟩
  have ku:=bB.size
  have jM:=xJ
  exact pf bB jM
  refine vk aB (λx w5 aJ=>?_) ?_
  refine bL aJ hK nB λhK nB=>?_
  intro KR d19
  intro v24 d24
  refine aA (ih eb om om bj.2.2.2.2.2 (Γ++[(nf,.op true tA tB),(nx,tA)]) so (by have:=GF (x:=nx) (GF (x:=nf) hΓ (T:=.op true tA tB) (show 1+tA.n+tB.n<=16 from lk)) bj.2.2.2.1;simpa using this) _ _ _ L w5 (λx hx=>lL (lN x hx) hK.size) nB (show bg L _ _ (List.map _ (Γ++[(nf,.op true tA tB),(nx,tA)])) from by rw[List.map_append];exact d19) (show bg L _ _ (List.map _ (Γ++[(nf,.op true tA tB),(nx,tA)])) from by rw[iP lk] at d24;rw[List.map_append];exact d24)) ?_
  rintro _ w6 ⟨rfl,bB⟩
  have ku:=bB.size
  exact pk bB
  refine vc (λ_ _ _=>WZ pv) ?_
  refine vk aB (λx w5 aJ=>?_) ?_
  refine WZ ?_
  exact pv
  refine vc (λ_ _ _=>WZ pv) ?_
  exact trivial
  intro x nX jm
  intro xD d18
  intro KR d19
  intro V7 d23
  intro v24 d24
  have hK:=hK.ext jm
  change OW _ _ _ _ [] (aS (aR _ x _) (zZ 76 [_,_,_,_,_,_,_,_,_,_,_,_,_,_,_,_,_,_,_,_,_,_,_,_,_,_,_,_,_])) _
  refine W ?_
  exact⟨(),⟨rfl,congrArg Value.bool (show decide (eS (bD eb (Γ++[(nf,.op true tA tB),(nx,tA)]))≠tB.text)=_ from by rw[dT lk];rfl)⟩,hK,jm⟩
  apply kU du 29 (rA 76 29) (rA 76 29) [[],[0],[1],[2],[2,3],[2,4],[2,5],[2],[2],[2,8],[2,9],[2,10],[2,11],[2],[2,13],[2,14],[2,15],[2,16],[2,12,17],[2,7,18],[2],[2],[2],[2,21,22],[2,20,23],[2,6,19,24],[2],[2,25,26],[2,27]] [It.v _,It.v _,It.v (.bool true),It.v _,It.v _,It.v _,It.v _,It.v _,It.v _,It.v _,It.v _,It.v _,It.v _,It.v _,It.v _,It.v _,It.v _,It.v _,It.v _,It.v _,It.v _,It.v _,It.v _,It.v _,It.v _,It.v _,It.v _,It.v _,It.v _] de rfl
  intro wd aB
  refine VA ?_
  refine vc (λx w5 aJ=>?_) ?_
  refine WZ ?_
  exact pv (by exact congrArg Value.bool (show(!decide (1+tA.n+tB.n<=16))=true from by rw[dF lk];rfl))
  refine vc (λx w5 aJ=>?_) ?_
  exact cT pv
  refine vk aB (λx w5 aJ=>?_) ?_
  exact cT pv
  refine vk aB (λx w5 aJ=>?_) ?_
  exact cT pv
  refine vk aB (λx w5 aJ=>?_) ?_
  exact cT pv
  refine vc (λx w5 aJ=>?_) ?_
  exact cT pv
  refine vc (λx w5 aJ=>?_) ?_
  exact cT pv
  refine vk aB (λx w5 aJ=>?_) ?_
  exact cT pv
  refine vk aB (λx w5 aJ=>?_) ?_
  exact cT pv
  refine vc (λx w5 aJ=>?_) ?_
  exact cT pv
  refine vk aB (λx w5 aJ=>?_) ?_
  exact cT pv
  refine vc (λx w5 aJ=>?_) ?_
  exact cT pv
  refine vk aB (λx w5 aJ=>?_) ?_
  exact cT pv
  refine vk aB (λx w5 aJ=>?_) ?_
  exact cT pv
  refine vc (λx w5 aJ=>?_) ?_
  exact cT pv
  refine vk aB (λx w5 aJ=>?_) ?_
  exact cT pv
  refine vk aB (λx w5 aJ=>?_) ?_
  exact cT pv
  refine vk aB (λx w5 aJ=>?_) ?_
  exact cT pv
  refine vc (λx w5 aJ=>?_) ?_
  exact cT pv
  refine vc (λx w5 aJ=>?_) ?_
  exact cT pv
  refine vc (λx w5 aJ=>?_) ?_
  exact cT pv
  refine vk aB (λx w5 aJ=>?_) ?_
  exact cT pv
  refine vk aB (λx w5 aJ=>?_) ?_
  exact cT pv
  refine vk aB (λx w5 aJ=>?_) ?_
  exact cT pv
  refine vc (λx w5 aJ=>?_) ?_
  exact cT pv
  refine vk aB (λx w5 aJ=>?_) ?_
  exact cT pv
  refine vc (λ_ _ _=>WZ pv) ?_
  exact trivial
  intro x nX jm
  have hK:=hK.ext jm
  change OW _ _ _ _ [] (aS (aR _ x _) (zZ 76 [_,_,_,_,_,_,_,_,_,_,_,_,_,_,_,_,_,_,_,_,_,_,_,_,_,_,_,_,_])) _
  refine W ?_
  exact⟨(),⟨rfl,congrArg Value.bool (show true=_ from by rw[dF lk];rfl)⟩,hK,jm⟩
  intro gu qb e45 hI
  obtain⟨hK,aC⟩:=hI
  refine zc rfl (λh6=>?_) (λh6=>?_)
  have hq:=(Wr (f:=nf) (x:=nx) (A:=tA) (B:=tB) (e:=eb) (Γ:=Γ)).trans (iP h6)
  refine W ?_
  exact⟨_,rfl,congrArg (λz=>str z) hq.symm,hK⟩
  have hq:=(Wr (f:=nf) (x:=nx) (A:=tA) (B:=tB) (e:=eb) (Γ:=Γ)).trans (iN (by rw[h6];simp))
  have h16:1+tA.n+tB.n<=16:=(by simp at h6;exact h6.1)
  refine W ?_
  exact⟨_,rfl,congrArg (λz=>str z) ((iP h16).trans hq.symm),hK⟩
  have rD:e.head≠ic:=λhh=>h5 (js.trans hh)
  have OV:=bU
  have ni:=hK
  have ai7:=aQ
  have ai8:=jU
  have ai9:=eD
  have aja:=uw
  have hky:(rH e Γ).length=e.kids.length:=by simp[rH]
  refine gX<|zr<|gA bo bm λw2 az ajc dK=>sV az hK aQ jU eD bU uw λhK aQ jU eD bU uw=>?_
  refine W ?_
  refine eO (λq:Nat×Value×Option Nat=>[(1,.slice an nn cn),(2,.slice ay ny HZ),(3,.pointer (some ⟨w.heap.size,0,none⟩)),(12,q.2.1),(13,.int .i64 ((e.from+q.1:Nat):Int))]) (λq ww=>ak [] w1 ww∧cE ww 9 q.2.1 q.2.2 ((rH e Γ).take q.1)∧(∀x,x∈q.2.2.toList->w1.heap.size<=x)∧q.1<=e.kids.length) (λq=>e.kids.length-q.1) ((0,.slice (some ⟨w1.heap.size,0,none⟩) 0 0,some w1.heap.size)) (⟨rfl,rfl,rfl,rfl,by rw[Wf eX pN rD];rfl⟩) (⟨az,by simpa using ajc.lh,sm,sm⟩) λgg w3 e3 hI=>?_
  obtain⟨k,vl,gl⟩:=gg
  dsimp only at hI⊢
  obtain⟨dA,hO,fH,hk⟩:=hI
  have hK:=ni.ext dA
  have aQ:=ai7.ext dA
  have jU:=ai8.ext dA
  have eD:=ai9.ext dA
  have bU:=OV.ext dA
  have uw:=aja.ext dA
  refine W ?_
  refine zc rfl (λh7=>?_) (λh7=>?_)
  have ik:k<e.kids.length:=om
  have sS:=xl k ik
  obtain⟨b1,eh,gT,gU,e1,bM,cV⟩:=fm aQ (i:=e.from+k) om
  cases e1
  have cV:=cV.eq sS
  have uq:=GD bj ik
  have Ci:=yZ ik
  have hkN:=C8 e (k+1)
  have aW:=ai1 (Γ:=Γ) ik
  refine W ?_
  refine aA (ih (fZ e k) om om uq.1 Γ om hΓ _ (.slice an nn cn) (.slice ay ny HZ) L w3 (λx hx=>lL (lN x hx) hK.size) cV jU eD) ?_
  rintro _ w4 ⟨rfl,aN⟩
  have fg:=aN.size
  refine cO aN hK hO dA λhK hO dA=>?_
  refine fo bo bm rfl rfl λw5 aJ ajd iq=>cO aJ hK hO dA λhK hO dA=>?_
  refine sj bo bm rfl rfl rfl rfl rfl rfl hO ajd (by rw[List.length_take];omega) λv9 g9 w6 dm aC fx=>?_
  rw[<-aW] at dm
  have HX:=dA.size
  have dA:=dA.since aC (λx hx=>.inr (fH x hx))
  have hK:=ni.ext dA
  have aje:∀x,x∈g9.toList->w1.heap.size<=x:=(λx hx=>by rcases fx with h|h;(·exact fH x (h▸hx));(·rw[h] at hx;simp at hx;omega))
  refine W ?_
  exact⟨(k+1,v9,g9),⟨rfl,rfl,rfl,rfl,congrArg (Value.int .i64) om⟩,⟨dA,dm,aje,om⟩,by simp;omega⟩
  have ajf:k=e.kids.length:=by omega
  subst ajf
  rw[List.take_of_length_le (by rw[hky];exact lR _)] at hO
  refine WI ?_
  refine zi (i:=0) cw aK rfl rfl jB<|W ?_
  refine aA ((js▸ai0 bj eX pN rD hΓ _ _ w3 hO.rs)) ?_
  rintro _ w4 ⟨rfl,aN⟩
  have fg:=aN.size
  have hK:=hK.ext aN
  refine zA<|aV<|kj ?_
  exact⟨_,rfl,rfl,hK⟩
def Dt (s x:aj):Prop:=(mw s=false->x=[])∧∀e:Ex,bA s=some e.au->e.ok->e.n<=120->x=eS (bD e [])
theorem Wu {s y:aj} (hx:Dt s x) (hy:Dt s y):x=y:=by
 cases h:mw s with
 |false=>rw[hx.1 h,hy.1 h]
 |true=>
  obtain⟨e,he,bj,hn⟩:=xk.1 h
  rw[hx.2 e he bj hn,hy.2 e he bj hn]
theorem ajg (h:cU e [] []≠[]):bD e []=none:=by
 cases ht:bD e [] with
 |none=>rfl
 |some T=>
  exfalso
  cases hf:cU e [] [] with
  |nil=>exact h hf
  |cons y ys=>
   have hy:y∈cU e [] []:=by rw[hf];simp
   rcases(CA y e [] []).1 hy with h1|⟨h1,_⟩
   ·cases h1
   ·have:=pY ht h1;simp[look] at this
theorem Wv (s:aj) (w:World):bC Tryz.prog 130 [str s] w λr w'=>(∃x,r=str x∧Dt s x)∧ak [] w w':=by
 have hK:=ak.refl [] w
 refine cj [.tmp 2] 21 Tryz.func130 rfl abX rfl rfl ?_
 refine W ?_
 refine aA (Hz s [] w sm) ?_
 rintro v1 w1 ⟨fK,aI⟩
 have df:=aI.size
 have hK:=hK.ext aI
 obtain⟨t,tv,rfl,ht,hp⟩:=fK
 obtain⟨pa,pn,pc,rfl,dZ,aQ⟩:=cS ht
 refine W ?_
 refine da aK rfl rfl rfl λw2 az bU dK=>?_
 have hK:=hK.grow;have hK:=hK.ext az;have ht:=ht.grow;have ht:=ht.ext az
 refine cu aK rfl rfl rfl bU rfl λw3 aH bU fS=>?_
 have hK:=hK.aD aH sx;have ht:=ht.aD aH sx
 refine W ?_
 refine x4 (t:=12) rfl (λh1=>?_) (λh1=>?_)
 replace h1:=jy h1
 have hx:mw s=false:=by simpa using h1
 refine W ?_
 refine zc rfl (λh2=>?_) (λh2=>?_)
 refine W ?_
 exact⟨_,rfl,⟨[],rfl,λ_=>rfl,λe h1 h2 h3=>by rw[xk.2 ⟨e,h1,h2,h3⟩] at hx;cases hx⟩,hK⟩
 simp at h2
 replace h1:=jy h1
 have hx:mw s=true:=by simpa using h1
 obtain⟨e,he,bj,hn⟩:=xk.1 hx
 have e2:=hp.1 _ he
 subst e2
 have Fh:∀{e':Ex},bA s=some e'.au->e'.ok->e'=e:=(λh1 h2=>qS h2 bj (Option.some.inj (h1.symm.trans he)))
 refine zm<|aA (ahc s w3) ?_
 rintro v4 w4 ⟨kF,aN⟩
 have fg:=aN.size
 refine cO aN hK ht bU λhK ht bU=>?_
 obtain⟨b9,rfl,dj⟩:=kF
 refine W ?_
 refine zc rfl (λh3=>?_) (λh3=>?_)
 have jB:b9=false:=(by simpa using h3)
 have mI:cU e [] []≠[]:=(λh=>by have:=dj.2 ⟨e,he,bj,hn,h⟩;rw[jB] at this;cases this)
 refine W ?_
 exact⟨_,rfl,⟨[],rfl,λh=>rfl,λe' h1 h2 h3=>by rw[Fh h1 h2,ajg mI];rfl⟩,hK⟩
 refine W ?_
 refine gA bo bm λw5 aJ jK iq=>bL aJ hK ht λhK ht=>?_
 refine gA bo bm λw6 bB Dr jR=>bL bB hK ht λhK ht=>?_
 refine aA (Ws 120 e hn om bj [] so (λs T h=>by simp[look] at h) _ _ _ [] w6 sm (ht.fV sm) (ck.nil _ _ _) (ck.nil _ _ _)) ?_
 rintro _ w7 ⟨rfl,bJ⟩
 have jd:=bJ.size
 have hK:=hK.ext bJ
 refine W ?_
 have hcy:Dt s (eS (bD e [])):=⟨(λh=>by rw[hx] at h;cases h),λe' h1 h2 h3=>by rw[Fh h1 h2]⟩
 exact⟨_,rfl,⟨_,rfl,hcy⟩,hK⟩
theorem aji (s:aj) (w:World):bC Tryz.prog 127 [str s] w λr w'=>(∃b,r= .bool b∧∀x,Dt s x->b=decide (x≠[]))∧ak [] w w':=by
 have hK:=ak.refl [] w
 refine cj [.tmp 2] 6 Tryz.func127 rfl abT rfl rfl ?_
 refine W ?_
 refine aA (Wv s w) ?_
 rintro v1 w1 ⟨fK,aI⟩
 have df:=aI.size
 have hK:=hK.ext aI
 obtain⟨x,rfl,hx⟩:=fK
 refine W ?_
 exact⟨_,rfl,⟨_,rfl,λy hy=>by rw[Wu hx hy]⟩,hK⟩
theorem H0 (s:aj) (hs:s.length<=1000000) (w:World):bC Tryz.prog 185 [str s] w λr w'=>r=str (dJ s)∧ak [] w w':=by
 have hK:=ak.refl [] w
 refine cj [.tmp 2] 6 Tryz.func185 rfl acJ rfl rfl ?_
 refine W ?_
 exact⟨_,rfl,rfl,hK⟩
theorem ajj:∀(m:Nat) (T:Ty),T.n<=m->T.n<=60->∀(v:Value) (L:List Nat) (w:World),bh L w v T.au->bC Tryz.prog 193 [v] w λr w'=>r=str (bz T)∧ak [] w w':=by
 intro m
 induction m with
 |zero=>intro T h;have:=T.pos;omega
 |succ m ih=>
  intro T hm kW v L w hv
  obtain⟨a,np,c,rfl,hn,aQ⟩:=cS hv
  subst hn
  have hK:=ak.refl [] w
  refine cj [.tmp 2] 37 Tryz.func193 rfl acR rfl rfl ?_
  refine zr<|ey rfl λw1 aI aT di=>bL aI hK aQ λhK aQ=>?_
  refine W ?_
  refine zc rfl (λh1=>?_) (λh1=>?_)
  have hi:T= .i:=(by cases T with|i=>rfl|op g a b=>exact absurd rfl h1)
  refine W ?_
  exact⟨_,rfl,congrArg (λz=>str z) (by rw[hi,Tq]),hK⟩
  have aY:∃g A B,T= .op g A B:=(by cases T with|i=>exact absurd h1 de|op g a b=>exact⟨g,a,b,rfl⟩)
  obtain⟨g,A,B,rfl⟩:=aY
  have xp:(Ty.op g A B).n=1+A.n+B.n:=rfl
  have Pd:(Ty.op g A B).au.ai.length=3:=rfl
  obtain⟨b0,yV,yA,yB,e0,eR,hT0⟩:=fm aQ (i:=0) om
  cases e0
  have eR:fM L _ _ _ [str (j4 g),_]:=eR
  obtain⟨b1,eh,gT,gU,e1,bM,cV⟩:=fm aQ (i:=1) om
  cases e1
  have cV:bh L _ _ A.au:=cV
  obtain⟨b2,kY,iQ,iR,e2,bZ,dQ⟩:=fm aQ (i:=2) om
  cases e2
  have dQ:bh L _ _ B.au:=dQ
  have Ob:=CB A
  have Oc:=CB B
  have V6:=Nj (bz B)
  refine WI ?_
  refine zi (i:=1) cw aK rfl rfl ((show 1<3 from om))<|W ?_
  refine aA (ih A om om _ L w1 cV) ?_
  rintro _ w2 ⟨rfl,az⟩
  have dz:=az.size
  refine ld az hK aT eR bZ dQ λhK aT eR bZ dQ=>?_
  refine WI ?_
  refine zi (i:=2) cw aK rfl rfl ((show 2<3 from om))<|W ?_
  refine aA (ih B om om _ L w2 dQ) ?_
  rintro _ w3 ⟨rfl,aH⟩
  have eM:=aH.size
  refine cO aH hK aT eR λhK aT eR=>?_
  refine WI ?_
  refine zi (i:=0) cw aK rfl rfl ((show 0<3 from om))<|W ?_
  refine zc rfl (λh2=>?_) (λh2=>?_)
  have hg:g=false:=(by cases g with|false=>rfl|true=>exact absurd h2 de)
  refine W ?_
  exact⟨_,rfl,congrArg (λz=>str z) (by rw[hg,Tr]),hK⟩
  have hg:g=true:=(by cases g with|true=>rfl|false=>exact absurd rfl h2)
  refine W ?_
  refine aA (H0 (bz B) om w3) ?_
  rintro _ w4 ⟨rfl,aN⟩
  have fg:=aN.size
  have hK:=hK.ext aN
  refine W ?_
  exact⟨_,rfl,congrArg (λz=>str z) (by rw[hg,Tt]),hK⟩
theorem vV (T:Ty) (hT:T.n<=60) (w:World):bC Tryz.prog 156 [str T.text] w λr w'=>r=str (bz T)∧ak [] w w':=by
 have hK:=ak.refl [] w
 refine cj [.tmp 2] 12 Tryz.func156 rfl ack rfl rfl ?_
 refine W ?_
 refine aA (JW T.text [] w sm) ?_
 rintro v1 w1 ⟨fK,aI⟩
 have df:=aI.size
 have hK:=hK.ext aI
 obtain⟨t,tv,rfl,ht,hp⟩:=fK
 have e2:=hp.1 _ (Ty.bA hT)
 subst e2
 obtain⟨pa,pn,pc,rfl,dZ,aQ⟩:=cS ht
 refine W ?_
 refine da aK rfl rfl rfl λw2 az bU dK=>?_
 have hK:=hK.grow;have hK:=hK.ext az;have ht:=ht.grow;have ht:=ht.ext az
 refine cu aK rfl rfl rfl bU rfl λw3 aH bU fS=>?_
 have hK:=hK.aD aH sx;have ht:=ht.aD aH sx
 refine W ?_
 refine aA (ajj 60 T hT hT _ [] w3 (ht.fV sm)) ?_
 rintro _ w4 ⟨rfl,aN⟩
 have fg:=aN.size
 have hK:=hK.ext aN
 refine W ?_
 exact⟨_,rfl,rfl,hK⟩
theorem ajk (h:aj) (w:World):bC Tryz.prog 226 [str h] w λr w'=>r=str (qJ h)∧ak [] w w':=by
 have hK:=ak.refl [] w
 refine cj [.tmp 2] 10 Tryz.func226 rfl ade rfl rfl ?_
 refine W ?_
 refine zc rfl (λh1=>?_) (λh1=>?_)
 have hq:qJ h=[97,100,100]:=iP h1
 refine W ?_
 exact⟨_,rfl,congrArg (λz=>str z) hq.symm,hK⟩
 have h1:=h1
 refine W ?_
 refine zc rfl (λh2=>?_) (λh2=>?_)
 have hq:qJ h=[115,117,98]:=(iN h1).trans (iP h2)
 refine W ?_
 exact⟨_,rfl,congrArg (λz=>str z) hq.symm,hK⟩
 have h2:=h2
 refine W ?_
 refine zc rfl (λh3=>?_) (λh3=>?_)
 have hq:qJ h=[109,117,108]:=(iN h1).trans ((iN h2).trans (iP h3))
 refine W ?_
 exact⟨_,rfl,congrArg (λz=>str z) hq.symm,hK⟩
 have hq:qJ h=lY:=(iN h1).trans ((iN h2).trans (iN h3))
 refine W ?_
 exact⟨_,rfl,congrArg (λz=>str z) hq.symm,hK⟩
def t8:sP:=⟨164,58,166,9⟩
theorem dN.open {τ:sP} (h:dN τ E L w b o m):∃vb vt vc vy gb gt gc gy,aL w b [vb,vt,.int .i64 (m.count:Int),.bool m.wide,vc,vy].toArray τ.M∧gO τ E L w b o vb vt vc vy gb gt gc gy m:=h
structure ei (E L:List Nat) (w:World) (L':List Nat) (w':World):Prop where
 fr:Fr L w L' w'
 out:∃G,ak G w w'∧∀x,x∈G->x∉E
section
variable {E L L1 L2:List Nat} {w w1 w2:World}
theorem ei.refl (E L:List Nat) (w:World):ei E L w L w:=⟨Fr.refl _ _,[],ak.refl _ _,sm⟩
theorem ei.add (h:ei E L w L1 w1) (k:Fr L1 w1 L2 w2) (kg:ak G w1 w2) (hG:∀x,x∈G->x∉E):ei E L w L2 w2:=
 let⟨G0,k0,h0⟩:=h.out
 ⟨h.fr.go k,G0++G,(k0.mono λx hx=>List.mem_append_left _ hx).trans (kg.mono λx hx=>mR _ hx),λx hx=>(mA.1 hx).elim (h0 x) (hG x)⟩
theorem ei.go (h:ei E L w L1 w1) (k:ei E L1 w1 L2 w2):ei E L w L2 w2:=let⟨_,kg,hG⟩:=k.out;h.add k.fr kg hG
theorem ei.ext (h:ei E L w L1 w1) (k:ak [] w1 w2):ei E L w L1 w2:=h.add (Fr.of k sm) k sm
theorem ei.aD (h:ei E L w L1 w1) {x:Nat} (k:ak [x] w1 w2) (h1:x∈L1) (h2:x∉E):ei E L w L1 w2:=h.add (Fr.of k (by simpa using h1)) k (by simpa using h2)
theorem ei.tk (k:ei E L w L1 w1) {T:TypeId} {t:Tk} (h:ig L w T b t) (hb:b∈E):ig L1 w1 T b t:=let⟨_,kg,hG⟩:=k.out;h.go k.fr kg λhx=>hG b hx hb
end
theorem ajl (n:Nat) (hn:n<100000) (w:World):bC Tryz.prog 142 [.int .i64 ((n:Int)+1-1)] w λr w'=>r=str (aZ n)∧ak [] w w':=by
 rw[Int.add_sub_cancel];exact iI (n+1) n om om w
theorem Pe (m:Mk) (hc:m.count<100000) (E L:List Nat) (b:Nat) (o:Bool) (w:World) (h:dN t8 E L w b o m):
  bC Tryz.prog 224 [.pointer (some ⟨b,0,none⟩)] w λr w'=>(r=str m.aM∧dN t8 E L w' b o m.lI)∧ak [b] w w':=by
 obtain⟨vb,vt,vc,vy,gb,gt,gc,gy,bu,hS⟩:=h.open
 have bu:aL w b [vb,vt,.int .i64 (m.count:Int),.bool m.wide,vc,vy].toArray 164:=bu
 have hK:=ak.refl [b] w
 refine cj [.tmp 2] 18 Tryz.func224 rfl ada rfl rfl ?_
 refine W ?_
 refine gF (o:=2) sJ rfl rfl rfl bu rfl λw1 aI bu dv=>?_
 have hS:=hS.aG aI sm
 have hK:=hK.trans aI
 refine W ?_
 refine aA ((ajl m.count hc w1)) ?_
 rintro _ w2 ⟨rfl,az⟩
 have dz:=az.size
 refine cO az hK bu hS λhK bu hS=>?_
 refine iw rfl rfl rfl rfl (by have:=EK _ m.count (lR _);simp;omega)<|zA<|aV<|kj ?_
 exact⟨_,rfl,⟨rfl,⟨_,_,_,_,_,_,_,_,bu,hS.num (m.count+1) m.wide⟩⟩,hK⟩
theorem sq (k:aj) (m:Mk) (hc:m.types.length<100000) (E L:List Nat) (b:Nat) (o:Bool) (w:World) (h:dN t8 E L w b o m):
  bC Tryz.prog 194 [.pointer (some ⟨b,0,none⟩),str k] w λr w'=>r= .int .i64 (m.types.length:Int)∧∃L',dN t8 E L' w' b o (m.dy k)∧ei E L w L' w':=by
 obtain⟨vb,vt,vc,vy,gb,gt,gc,gy,bu,hS⟩:=h.open
 have bu:aL w b [vb,vt,.int .i64 (m.count:Int),.bool m.wide,vc,vy].toArray 164:=bu
 have hR:=ei.refl E L w
 refine cj [.tmp 4] 30 Tryz.func194 rfl acS rfl rfl ?_
 refine W ?_
 refine fo bo bm rfl rfl λw1 aI iY di=>cO aI hR bu hS λhR bu hS=>?_
 refine sj bo bm rfl rfl rfl rfl rfl rfl hS.ty iY om λv9 g9 w2 dm az fx=>?_
 obtain⟨a9,c9,e9⟩:=j8 dm
 subst e9
 obtain⟨zu,nJ,vW,mE,vX,uC⟩:=hS.apart
 have p6:=hS.mem.2 (.inr (.inl rfl))
 obtain⟨L2,fp,jD⟩:=hS.Nl dm az (λx hx=>fx.imp (λh=>h.symm.trans hx) (λh=>by rw[h] at hx;cases hx;exact lR _))
 have bu:=bu.aG az (λh=>(uC b h).2.1 rfl)
 have hR:=hR.add jD az (λx hx=>(uC x hx).1)
 refine W ?_
 refine gF (o:=5) mT rfl rfl rfl bu rfl λw3 aH bu dv=>?_
 have fp:=fp.aG aH sm
 have hR:=hR.aD aH (fp.mem.2 (.inr (.inl rfl))) nJ
 refine W ?_
 refine iS (λ_:Unit=>[(0,.pointer (some ⟨b,0,none⟩))]) (λ_ w'=>ak [b] w3 w'∧aL w' b [vb,vt,.int .i64 (m.count:Int),.bool (m.wide||decide (40<m.types.length+1)),vc,.slice a9 (m.types++[k]).length c9].toArray 164) ?_ ?_
 refine zc rfl (λh1=>?_) (λh1=>?_)
 have hd:decide (40<m.types.length+1)=true:=dT (by simp at h1;omega)
 refine W ?_
 refine gF (o:=3) SW rfl rfl rfl bu rfl λw4 aN bu dv=>?_
 have H2:=aN
 refine W ?_
 exact⟨(),rfl,H2,by rw[hd,Bool.or_true];exact bu⟩
 have hd:decide (40<m.types.length+1)=false:=dF (by simp at h1;omega)
 refine WZ ?_
 exact⟨(),rfl,ak.refl _ _,by rw[hd,Bool.or_false];exact bu⟩
 intro gu w4 e4 hI
 obtain⟨Hj,bu⟩:=hI
 have fp:=fp.aG Hj sm
 have hR:=hR.aD Hj (fp.mem.2 (.inr (.inl rfl))) nJ
 refine WA ?_
 refine xX rfl rfl rfl rfl rfl (wrap_i64 _ sx sx)<|zA<|aV<|kj ?_
 exact⟨_,rfl,congrArg (Value.int .i64) sm,L2,⟨_,_,_,_,_,_,_,_,bu,fp.num m.count (m.wide||decide (40<m.types.length+1))⟩,hR⟩
theorem gO.code {τ:sP} {vb vt vc vy:Value} {gb gt gc gy:Option Nat} (h:gO τ E L w b true vb vt vc vy gb gt gc gy m):cE w τ.S vc gc m.code:=by
 rcases h.co with⟨_,h⟩|⟨h,_⟩
 ·exact h
 ·cases h
theorem k9 (hd:aj) (ps:List aj) (hl:(cY hd ps).length<=1000000) (m:Mk) (hc:m.code.length<100000) (E L:List Nat) (b:Nat) (v:Value) (w:World) (h:dN t8 E L w b true m) (hv:bg L w v ps):
  bC Tryz.prog 186 [.pointer (some ⟨b,0,none⟩),str hd,v] w λr w'=>∃L',dN t8 E L' w' b true (m.cM hd ps)∧ei E L w L' w':=by
 obtain⟨vb,vt,vc,vy,gb,gt,gc,gy,bu,hS⟩:=h.open
 have bu:aL w b [vb,vt,.int .i64 (m.count:Int),.bool m.wide,vc,vy].toArray 164:=bu
 have hco:cE w 9 vc gc m.code:=by
  rcases hS.co with⟨_,h⟩|⟨h,_⟩
  ·exact h
  ·cases h
 obtain⟨zu,nJ,vW,mE,vX,uC⟩:=hS.apart
 have Dl:eZ L w:=hS.cN
 refine cj [] 18 Tryz.func186 rfl acK rfl rfl ?_
 apply jQ du L 12 (rA 6 12) (rA 6 12) [[],[],[1],[2],[3],[],[],[5,6],[7],[4,8],[0],[10]] [Ie.v _,Ie.v _,Ie.v _,Ie.v _,Ie.w 0 vc,Ie.v _,Ie.v _,Ie.v _,Ie.p (fun(G:List Nat) (v:Value) (ww:World)=>∃bb,v= .slice (some ⟨bb,0,none⟩) 1 1∧dW G ww bb [str (cY hd ps)].toArray 9),Ie.e 1,Ie.v _,Ie.v _] [4,9] [fun(G:List Nat) (vs:List Value) (ww:World)=>G=L∧ak [] w ww,fun(G:List Nat) (vs:List Value) (ww:World)=>G=L∧ak [] w ww,fun(G:List Nat) (vs:List Value) (ww:World)=>∃g2,ak gc.toList w ww∧gO t8 E G ww b true vb vt (vs.getD 1 undef) vy gb gt g2 gy {m with code:=m.code++[cY hd ps]}∧Fr L w G ww] de rfl Dl (by exact⟨λG v w G' w' ⟨bb,e,h⟩ k=>⟨bb,e,h.go k⟩,trivial⟩) (by exact⟨λG vs w w' ⟨h1,h2⟩ k=>⟨h1,h2.ext k⟩,λG vs w w' ⟨h1,h2⟩ k=>⟨h1,h2.ext k⟩,λG vs w w' ⟨g2,h1,h2,h3⟩ k=>⟨g2,h1.ext k,h2.ext k,h3.ext k⟩,trivial⟩) (⟨rfl,ak.refl _ _⟩)
 refine FA ?_
 refine ve 0 (λx w1 G1 aX ur sr hJ hlen=>?_) ?_
 have ba:=jv hlen
 subst ba
 obtain⟨bX,cg⟩:=hJ
 have xF:=bu.ext cg
 refine WZ ?_
 exact fw G1 (Fr.refl _ _) sr (⟨bX,cg⟩)
 refine FA ?_
 refine vf (λx w1 G1 aX ur sr=>?_) ?_
 have hv:=hv.go ur
 refine aA (s0 hd ps om _ _ w1 hv) ?_
 rintro _ w2 ⟨rfl,az⟩
 have dz:=az.size
 exact fk az
 refine vf (λx w1 G1 aX ur sr=>?_) ?_
 refine fo bo bm rfl rfl λw2 az xw dK=>?_
 exact ff az (⟨_,rfl,xw.o sr⟩)
 refine ve 1 (λx w1 G1 aX ur sr hJ hlen=>?_) ?_
 obtain⟨q0,ba⟩:=jw hlen
 subst ba
 intro v8 d8
 obtain⟨bb,e6,fX⟩:=d8
 subst e6
 obtain⟨bX,cg⟩:=hJ
 subst bX
 have KJ:=hS.ext cg
 have hcw:=hco.ext cg
 refine sj bo bm rfl rfl rfl rfl rfl rfl hcw fX.iy om λv9 g9 w2 dm aC fx=>?_
 obtain⟨L2,fp,jD⟩:=KJ.JH dm aC (λx hx=>fx.imp (λh=>h.symm.trans hx) (λh=>by rw[h] at hx;cases hx;exact lR _))
 exact fe _ jD fp.cN (⟨g9,cg.any.trans aC,fp,(Fr.of cg sm).go jD⟩)
 exact FZ
 intro x NJ G40 aX Ww ajp hJ hlen
 obtain⟨q0,q1,ba⟩:=lJ hlen
 subst ba
 intro v8 d8
 change OW _ _ _ _ _ (aS (aR _ x _) (zZ 6 [_,_,_,_,_,_,_,_,_,_,_,_])) _
 obtain⟨g2,By,fp,jD⟩:=hJ
 obtain⟨pC,pD,HT⟩:=j8 fp.code
 have e8:q1=_:=HT
 subst e8
 have bu:=bu.aG By (λh=>(vX b h).2.1 rfl)
 refine gF (o:=4) mT rfl rfl rfl bu rfl λoc gI bu dv=>?_
 have fp:=fp.aG gI sm
 have hR:=((ei.refl E L w).add jD By (λx hx=>(vX x hx).1)).aD gI (fp.mem.2 (.inr (.inl rfl))) nJ
 refine W ?_
 exact⟨_,rfl,_,⟨_,_,_,_,_,_,_,_,bu,fp⟩,hR⟩
theorem KT {hd:aj} {ps:List aj} (hh:hd.length<=100) (hp:ps.length<=10) (hs:∀p,p∈ps->p.length<=10001):(cY hd ps).length<=1000000:=by
 have h1:=Bo (m:=10001) ps hs
 have h2:ps.length*10002<=10*10002:=Nat.mul_le_mul hp (lR _)
 rw[l6];omega
theorem Fl (h:n<=10000):(aZ n).length<=10001:=by have:=EK _ n (lR _);omega
theorem dN.dB {τ:sP} (h:dN τ E L w b o m):∀x,x∈L->x<w.heap.size:=h.mem.2.2.2
theorem Wx (m:Mk) (s:Nat) (hs:s<=10000) (ht:m.types.length<=9000) (hc:m.code.length<=9000) (E L:List Nat) (b:Nat) (w:World) (h:dN t8 E L w b true m):
  bC Tryz.prog 191 [.pointer (some ⟨b,0,none⟩),.int .i64 (s:Int)] w λr w'=>r= .tuple #[str (aZ (m.types.length+1)),str (aZ (m.types.length+2))]∧∃L',dN t8 E L' w' b true (sO m s)∧ei E L w L' w':=by
 have aw:=h
 have hR:=ei.refl E L w
 obtain⟨r,hr⟩:∃r,r=m.types.length:=⟨_,rfl⟩
 have hE:sO m s=((((((m.dy []).cM AI [aZ r,aZ s]).dy []).cM sN [aZ (r+1),aZ r,[48]]).dy []).cM sN [aZ (r+2),aZ r,[49]]):=by rw[hr];rfl
 rw[<-hr,hE]
 refine cj [.tmp 4,.tmp 5] 40 Tryz.func191 rfl acP rfl rfl ?_
 refine W ?_
 refine aA (sq [] m om E L b true w aw) ?_
 rintro v10 w1 ⟨fL,L1,aw,bI⟩
 rw[<-hr] at fL
 subst fL
 have hR:=hR.go bI
 refine W ?_
 refine aA (iI (r+1) r om om w1) ?_
 rintro _ w2 ⟨rfl,az⟩
 have dz:=az.size
 refine bL az aw hR λaw hR=>?_
 refine zm<|aA (iI (s+1) s om om w2) ?_
 rintro _ w3 ⟨rfl,aH⟩
 have eM:=aH.size
 refine bL aH aw hR λaw hR=>?_
 have dk:=aw.dB
 refine lg bo bm rfl rfl rfl rfl λw4 aN xg ga=>bL aN aw hR λaw hR=>?_
 refine aA (k9 AI [aZ r,aZ s] (KT de sm (by intro p hp;simp at hp;rcases hp with rfl|rfl<;>exact Fl om)) (m.dy []) (show m.code.length<100000 from om) E L1 b _ w4 aw (aL.dS [aZ r,aZ s] xg (λhx=>by have:=dk _ hx;omega))) ?_
 rintro jN w5 ⟨L2,aw,bI⟩
 have hR:=hR.go bI
 refine aV<|zr<|zm<|aA (sq [] ((m.dy []).cM AI [aZ r,aZ s]) (show(m.dy []).types.length<100000 from by rw[yN];omega) E L2 b true w5 aw) ?_
 rintro v10 w6 ⟨fL,L3,aw,bI⟩
 rw[show((m.dy []).cM AI [aZ r,aZ s]).types.length=r+1 from by rw[oR,yN,hr]] at fL
 subst fL
 have hR:=hR.go bI
 refine W ?_
 refine aA (iI (r+2) (r+1) om om w6) ?_
 rintro _ w7 ⟨rfl,bJ⟩
 have jd:=bJ.size
 refine bL bJ aw hR λaw hR=>?_
 refine zm<|aA (iI (r+1) r om om w7) ?_
 rintro _ w8 ⟨rfl,aU⟩
 have oK:=aU.size
 refine bL aU aw hR λaw hR=>?_
 have dk:=aw.dB
 refine qf bo bm rfl rfl rfl rfl rfl λw9 aC CX dv=>bL aC aw hR λaw hR=>?_
 refine aA (k9 sN [aZ (r+1),aZ r,[48]] (KT de sm (by intro p hp;simp at hp;rcases hp with rfl|rfl|rfl;(·exact Fl om);(·exact Fl om);(·decide))) (((m.dy []).cM AI [aZ r,aZ s]).dy []) (show(m.code++[_]).length<100000 from by simp;omega) E L3 b _ w9 aw (aL.dS [aZ (r+1),aZ r,[48]] CX (λhx=>by have:=dk _ hx;omega))) ?_
 rintro jN cB ⟨L4,aw,bI⟩
 have hR:=hR.go bI
 refine aV<|zr<|zm<|aA (sq [] ((((m.dy []).cM AI [aZ r,aZ s]).dy []).cM sN [aZ (r+1),aZ r,[48]]) (show(m.types++[_]++[_]).length<100000 from by simp;omega) E L4 b true cB aw) ?_
 rintro v10 eC ⟨fL,L5,aw,bI⟩
 have Du:v10= .int .i64 ((r+2:Nat):Int):=fL.trans (congrArg (λn:Nat=>Value.int .i64 (n:Int)) (show(m.types++[_]++[_]).length=r+2 from by simp[hr]))
 subst Du
 have hR:=hR.go bI
 refine W ?_
 refine aA (iI (r+3) (r+2) om om eC) ?_
 rintro _ fI ⟨rfl,dw⟩
 have BC:=dw.size
 refine bL dw aw hR λaw hR=>?_
 refine zm<|aA (iI (r+1) r om om fI) ?_
 rintro _ jE ⟨rfl,gB⟩
 have H3:=gB.size
 refine bL gB aw hR λaw hR=>?_
 have dk:=aw.dB
 refine qf bo bm rfl rfl rfl rfl rfl λeI bS ajq Dv=>bL bS aw hR λaw hR=>?_
 refine aA (k9 sN [aZ (r+2),aZ r,[49]] (KT de sm (by intro p hp;simp at hp;rcases hp with rfl|rfl|rfl;(·exact Fl om);(·exact Fl om);(·decide))) (((((m.dy []).cM AI [aZ r,aZ s]).dy []).cM sN [aZ (r+1),aZ r,[48]]).dy []) (show(m.code++[_]++[_]).length<100000 from by simp;omega) E L5 b _ eI aw (aL.dS [aZ (r+2),aZ r,[49]] ajq (λhx=>by have:=dk _ hx;omega))) ?_
 rintro jN oo ⟨L6,aw,bI⟩
 have hR:=hR.go bI
 refine aV<|zr<|zm<|aA (iI (r+2) (r+1) om om oo) ?_
 rintro _ lP ⟨rfl,nq⟩
 have V0:=nq.size
 refine bL nq aw hR λaw hR=>?_
 refine zm<|aA (iI (r+3) (r+2) om om lP) ?_
 rintro _ Dw ⟨rfl,zv⟩
 have aqt:=zv.size
 refine bL zv aw hR λaw hR=>?_
 refine W ?_
 exact⟨_,rfl,rfl,L6,aw,hR⟩
theorem Wy (s:cP):(eP s).map Prod.fst=jP s:=by unfold eP jP;rw[List.map_map];rfl
theorem Wz (s:cP):((eP s).map λp=>p.2.text)=po s:=by unfold eP po;rw[List.map_map];rfl
theorem KU (t:Tk) (e:Ex) (bj:e.ok) (hn:e.n<=1000) (hΓ:yp (eP t.sc)) (hl:t.sc.length+2*e.n<=100000) (v:Value) (L:List Nat) (bt:Nat) (w:World) (lN:∀x,x∈L->x<w.heap.size) (hT:ig L w 166 bt t) (hv:bh L w v e.au):
  bC Tryz.prog 189 [.pointer (some ⟨bt,0,none⟩),v] w λr w'=>r=str (eS (bD e (eP t.sc)))∧ak [] w w':=by
 obtain⟨v1,v3,v4,v5,v6,v8,dx,hC⟩:=hT
 obtain⟨a,np,c,rfl,eQ,aQ⟩:=cS hv
 have gk:=hC.aP
 have fh:=hC.types
 have hK:=ak.refl [] w
 have e1:=Wy t.sc
 have e2:=Wz t.sc
 refine cj [.tmp 4] 15 Tryz.func189 rfl acN rfl rfl ?_
 refine zr<|ey rfl λw1 aI bU di=>ld aI hK hv dx gk fh λhK hv dx gk fh=>?_
 refine W ?_
 apply dV du 11 [5,6,7,8,9,10,11,12,13,14,4] [[],[],[1],[2],[3],[],[5],[6],[7],[0,4,8],[9]] (it [_,_,_,_,_,_,_,_,_,_,_]) de rfl
 intro wd aB
 refine VA ?_
 refine vk aB (λx w2 az=>?_) ?_
 refine gH az hK hv gk fh λhK hv gk fh=>?_
 refine aA (Ws 1000 e hn om bj (eP t.sc) (by simp[eP];omega) hΓ _ v4 v6 L w2 (λx hx=>lL (lN x hx) hK.size) hv (by rw[e1];exact gk) (by rw[e2];exact fh)) ?_
 rintro _ w3 ⟨rfl,aH⟩
 have eM:=aH.size
 exact pk aH
 exact VZ
 intro x oc gI
 have hK:=hK.ext gI
 change OW _ _ _ _ [] (aS (aR _ x _) (zZ 5 [_,_,_,_,_,_,_,_,_,_]++[(4,_)])) _
 refine W ?_
 exact⟨_,rfl,rfl,hK⟩
theorem ajr (xs:List Nat):∀row,row∈ua xs->∀c,c∈row->∀v,c= .val v->v.oneCell'=true:=by
 intro row hr c hc v hv
 obtain⟨n,_,rfl⟩:=List.mem_map.1 hr
 simp at hc;subst hc;cases hv;rfl
theorem Fm (t:Tk) (x:aj) (r:Nat) (T:Ty) (hl:t.sc.length<100000) (L:List Nat) (bt:Nat) (w:World) (p6:bt∈L) (lN:∀x,x∈L->x<w.heap.size) (hT:ig L w 166 bt t):
  bC Tryz.prog 192 [.pointer (some ⟨bt,0,none⟩),str x,.int .i64 (r:Int),str T.text] w λ_ w'=>ig L w' 166 bt {t with sc:=t.sc++[(x,r,T)]}∧ak [bt] w w':=by
 obtain⟨v1,v3,v4,v5,v6,v8,dx,hC⟩:=hT
 have dx:aL w bt [str t.aM,v1,.int .i64 (t.loads:Int),v3,v4,v5,v6,str t.expr.au.av,v8,.int .i64 (t.on:Int),str t.bc,.int .i64 (t.next:Int)].toArray 166:=dx
 have hK:=ak.refl [bt] w
 have fj:(jP t.sc).length=t.sc.length:=by simp[jP]
 have eQ:(po t.sc).length=t.sc.length:=by simp[po]
 have pF:(ua (wW t.sc)).length=t.sc.length:=by simp[ua,wW]
 have J3:=dx.lt
 obtain⟨a5,c5,rfl,_⟩:=rS hC.at_
 refine cj [] 40 Tryz.func192 rfl acQ rfl rfl ?_
 refine W ?_
 refine fo bo bm rfl rfl λw1 aI xw di=>cO aI hK dx hC λhK dx hC=>?_
 refine aA (uo (jP t.sc) [x] so v4 _ L w1 hC.aP (aL.dS [x] xw (λhx=>by have:=lN _ hx;omega)) (λx hx=>lL (lN x hx) hK.size)) ?_
 rintro v2 w2 ⟨gP,az⟩
 have dz:=az.size
 refine cO az hK dx hC λhK dx hC=>?_
 have jM:=gP
 obtain⟨a9,n9,c9,e9,_⟩:=dU jM
 subst e9
 refine W ?_
 refine gF (o:=4) mT rfl rfl rfl dx rfl λw3 aH dx dv=>?_
 have hC:=hC.aD aH (by simpa using p6);have jM:=jM.aD aH (by simpa using p6)
 have hK:=hK.trans aH
 have yx:=hK.size
 refine W ?_
 refine fo bo bm rfl rfl λw4 aN Dx ga=>gH aN hK dx hC jM λhK dx hC jM=>?_
 refine aA (uo (po t.sc) [T.text] so v6 _ L w4 hC.types (aL.dS [T.text] Dx (λhx=>by have:=lN _ hx;omega)) (λx hx=>lL (lN x hx) hK.size)) ?_
 rintro v5 w5 ⟨CN,aJ⟩
 have mn:=aJ.size
 refine gH aJ hK dx hC jM λhK dx hC jM=>?_
 have xu:=CN
 obtain⟨JY,n10,c10,fL,_⟩:=dU xu
 subst fL
 refine W ?_
 refine gF (o:=6) mT rfl rfl rfl dx rfl λw6 bB dx dv=>?_
 have hC:=hC.aD bB (by simpa using p6);have jM:=jM.aD bB (by simpa using p6);have xu:=xu.aD bB (by simpa using p6)
 have hK:=hK.trans bB
 have yx:=hK.size
 have hL9:∀x,x∈L->x<w6.heap.size:=(λx hx=>lL (lN x hx) hK.size)
 have hCw:=hC
 have aju:=jM
 have ajv:=xu
 have zw:=dx
 have ni:=hK
 have aqw:=dx.lt
 refine aV<|lv<|zm<|tQ w6.heap.size L En sJ rfl rfl (lR _) hL9 λw7 bJ Ko xo=>?_
 have fO:=bJ
 have hC:=hC.grow.ext bJ;have dx:=dx.ext bJ
 refine W ?_
 refine xd En sJ rfl rfl rfl rfl rfl rfl xo hC.at_ (ajr _) (by rw[pF];simp;omega) λa4 fT g4 w8 kJ aU=>?_
 rw[List.nil_append] at kJ
 have aqx:=xo.low
 have fO:=fO.since aU (λx hx=>.inr (by simp at hx;omega))
 refine zm<|fo En sJ rfl rfl λw9 aC tw dv=>bL aC kJ fO λkJ fO=>?_
 refine Gi (row:=[.val (.int .i64 (r:Int))]) En sJ rfl rfl rfl rfl rfl rfl kJ tw rfl rfl ⟨.val _,trivial⟩ (by rw[pF];omega) λa6 cc6 g6 cB hO6 cA=>?_
 have fO:=fO.since cA (λx hx=>.inr (kJ.low x (by simpa using hx)))
 have jM:=aju.ext fO
 have xu:=ajv.ext fO
 have hC:=hCw.ext fO
 have dx:=zw.ext fO
 have hK:=ni.ext fO
 have hN:=hO6.done
 rw[af8] at hN
 refine W ?_
 refine gF (o:=5) SX rfl rfl rfl dx rfl λeC dh dx dv=>?_
 have hC:=hC.aD dh (by simpa using p6);have jM:=jM.aD dh (by simpa using p6);have xu:=xu.aD dh (by simpa using p6)
 have hN:=ck.aG hN (dh.mono (by simpa using p6))
 have hK:=hK.trans dh
 refine W ?_
 exact⟨_,rfl,⟨v1,v3,_,_,_,v8,dx,⟨hC.regs,hC.self,(by rw[ae7];exact jM),(by rw[ae8];exact hN),(by rw[ae9];exact xu),hC.ai⟩⟩,hK⟩
theorem ajx (s:cP) (p:aj×Nat×Ty) (x:aj):kC (s++[p]) x=if p.1=x then p.2.1 else kC s x:=by
 unfold kC
 rw[List.reverse_append]
 simp only[List.reverse_cons,List.reverse_nil,List.nil_append,List.cons_append,List.find?_cons]
 by_cases h:p.1=x
 ·simp[h]
 ·simp[h]
theorem ajy {s:cP} (h:k<s.length) (x:aj):kC (s.take (k+1)) x=if cJ (jP s) k=x then(s[k]'h).2.1 else kC (s.take k) x:=by
 rw[List.take_add_one,gE h]
 show kC (s.take k++[s[k]]) x=_
 rw[ajx]
 have e:cJ (jP s) k=(s[k]'h).1:=by simp[cJ,jP,gE h]
 rw[e]
theorem Dy (t:Tk) (a:aj) (m:Mk) (CQ:a.length<=10000) (ht:m.types.length<=9000) (hc:m.code.length<=9000) (hs:t.sc.length<=9000) (E L:List Nat) (b bt:Nat) (pa:Option Addr) (pn pc:Nat) (w:World) (h:dN t8 E L w b true m) (hT:ig L w 166 bt t) (er:bt∈E):
  bC Tryz.prog 222 [.pointer (some ⟨b,0,none⟩),.pointer (some ⟨bt,0,none⟩),.agg #[str a,.slice pa pn pc]] w λr w'=>r= .int .i64 ((cv m t.sc a).2:Int)∧∃L',dN t8 E L' w' b true (cv m t.sc a).1∧ei E L w L' w':=by
 have aw:=h
 have hR:=ei.refl E L w
 obtain⟨v1,v3,v4,v5,v6,v8,dx,hC⟩:=hT
 obtain⟨r,hr⟩:∃r,r=m.types.length:=⟨_,rfl⟩
 have gk:=hC.aP
 obtain⟨an,nn,cn,rfl,qd⟩:=dU gk
 have eX:=hC.at_
 obtain⟨aa,ca,rfl,Fb⟩:=rS eX
 refine cj [.tmp 6] 50 Tryz.func222 rfl ac8 rfl rfl ?_
 refine zr<|ey rfl λw1 aI bQ di=>ld aI aw hR dx gk eX λaw hR dx gk eX=>?_
 refine W ?_
 refine aA (vH _ _) ?_
 rintro _ _ ⟨rfl,rfl⟩
 refine jY rfl rfl rfl<|aV<|zc rfl (λh1=>?_) (λh1=>?_)
 have hq:cv m t.sc a=((m.dy [105]).cM JC [aZ r,a],r):=(by unfold cv;rw[iN (by rw[h1];simp),hr])
 rw[hq]
 refine zr<|zm<|aA (sq [105] m om E L b true w1 aw) ?_
 rintro l9 w2 ⟨gW,L1,aw,bI⟩
 rw[<-hr] at gW
 subst gW
 have hR:=hR.go bI
 have dk:=aw.dB
 have bQ:dW L1 w2 w.heap.size _ _:=⟨bQ.aG bI.fr.aG (λhx=>by have:=h.dB _ hx;omega),λhx=>by rcases bI.fr.mem _ hx with h9|h9;(·have:=h.dB _ h9;omega);(·omega)⟩
 have mc:=aw
 have uF:=hR
 refine W ?_
 apply jQ du L1 7 (rA 15 7) (rA 15 7) [[],[],[1],[],[3],[2,4],[0,5]] [Ie.v _,Ie.v _,Ie.v _,Ie.v _,Ie.v _,Ie.p (fun(G:List Nat) (v:Value) (ww:World)=>bg G ww v [aZ r,a]),Ie.e 0] [6] [fun(G:List Nat) (vs:List Value) (ww:World)=>G=L1∧ak [] w2 ww,fun(G:List Nat) (vs:List Value) (ww:World)=>dN t8 E G ww b true ((m.dy [105]).cM JC [aZ r,a])∧ei E L1 w2 G ww] de rfl dk (by exact⟨λG v w G' w' h k=>bg.go h k,trivial⟩) (by exact⟨λG vs w w' ⟨h1,h2⟩ k=>⟨h1,h2.ext k⟩,λG vs w w' ⟨h1,h2⟩ k=>⟨h1.ext k,h2.ext k⟩,trivial⟩) (⟨rfl,ak.refl _ _⟩)
 refine FA ?_
 refine vf (λx w3 G3 aX jC kH=>?_) ?_
 refine aA (iI (r+1) r om om w3) ?_
 rintro _ w4 ⟨rfl,aN⟩
 have fg:=aN.size
 exact fk aN
 refine FA ?_
 refine vf (λx w3 G3 aX jC kH=>?_) ?_
 refine lg bo bm rfl rfl rfl rfl λw4 aN tt ga=>?_
 exact ff aN (aL.dS [aZ r,a] tt (λhx=>by have:=kH _ hx;omega))
 refine ve 0 (λx w3 G3 aX jC kH hJ hlen=>?_) ?_
 have ba:=jv hlen
 subst ba
 intro v5 d5
 obtain⟨bX,cg⟩:=hJ
 subst bX
 refine aA (k9 JC [aZ r,a] (KT de sm (by intro p hp;simp at hp;rcases hp with rfl|rfl;(·exact Fl om);(·omega))) (m.dy [105]) (show m.code.length<100000 from om) E _ b _ w3 (mc.ext cg) d5) ?_
 rintro v21 w4 ⟨L2,H4,jD⟩
 exact fe L2 jD.fr H4.dB (⟨H4,((ei.refl _ _ _).ext cg).go jD⟩)
 exact trivial
 intro x qQ HG aX E1 Om hJ hlen
 obtain⟨q0,ba⟩:=jw hlen
 subst ba
 intro v5 d5
 change OW _ _ _ _ [] (aS (aR _ x _) (zZ 15 [_,_,_,_,_,_,_])) _
 obtain⟨aw,jD⟩:=hJ
 have hR:=uF.go jD
 refine W ?_
 exact⟨_,rfl,rfl,_,aw,hR⟩
 have hq:cv m t.sc a=(m,kC t.sc a):=(by unfold cv;rw[iP (by simpa using h1)])
 rw[hq]
 have Fa:(jP t.sc).length=t.sc.length:=by simp[jP]
 refine W ?_
 refine eO (λk:Nat=>[(1,.pointer (some ⟨bt,0,none⟩)),(5,.pointer (some ⟨w.heap.size,0,none⟩)),(8,.int .i64 ((k:Int)-1))]) (λk w'=>ak [] w1 w'∧k<=t.sc.length∧kC t.sc a=kC (t.sc.take k) a) (λk=>k) t.sc.length (⟨rfl,rfl,congrArg (λz:Nat=>Value.int .i64 ((z:Int)-1)) (qd.trans Fa)⟩) (⟨ak.refl _ _,lR _,by rw[List.take_length]⟩) λgg w2 e2 hI=>?_
 obtain⟨dA,hk,zg⟩:=hI
 refine gH dA aw hR dx gk λaw hR dx gk=>?_
 have eX:=yt.ext eX dA
 have bQ:=bQ.ext dA
 refine W ?_
 refine zc rfl (λh2=>?_) (λh2=>?_)
 have aY:∃k,gg=k+1:=⟨gg-1,om⟩
 obtain⟨k,rfl⟩:=aY
 have hi:((k+1:Nat):Int)-1=(k:Int):=by omega
 rw[hi]
 obtain⟨b1,eh,e1,bM⟩:=pR gk (kM (xs:=jP t.sc) (i:=k) om)
 cases e1
 obtain⟨b2,kY,e2,bZ⟩:=ae6 eX (i:=k) (x:=(t.sc[k]'om).2.1) (by simp[wW,gE (show k<t.sc.length by omega)])
 cases e2
 have nT:=ajy (s:=t.sc) (k:=k) om a
 refine WZ ?_
 apply dV du 10 [33,34,35,36,37,38,39,40,41,42] [[],[0],[1],[2],[],[3,4],[5],[],[7],[6,8]] (it [_,_,_,_,_,_,_,_,_,_]) de rfl
 intro wd aB
 refine vc (λ_ _ _=>WZ pv) ?_
 refine vk aB (λx w3 aH=>?_) ?_
 refine WZ ?_
 exact pv
 refine vc (λ_ _ _=>WZ pv) ?_
 refine vk aB (λx w3 aH=>?_) ?_
 have dx:=dx.ext aH
 refine WZ ?_
 exact pv
 refine vc (λ_ _ _=>WZ pv) ?_
 exact VZ
 intro x qQ Ds
 refine ld Ds aw hR dx dA bZ λaw hR dx dA bZ=>?_
 change OW _ _ _ _ [] (aS (aR _ x _) (zZ 33 [_,_,_,_,_,_,_,_,_,_])) _
 refine aV<|zc rfl (λh3=>?_) (λh3=>?_)
 have Bi:=zg.trans (nT.trans (iP h3))
 refine WI ?_
 refine zi En sJ rfl rfl (by have h9:(ua (wW t.sc)).length=t.sc.length:=(by simp[ua,wW]);omega)<|W ?_
 exact⟨_,rfl,congrArg (λz:Nat=>Value.int .i64 (z:Int)) Bi.symm,_,aw,hR⟩
 have Bi:=zg.trans (nT.trans (iN h3))
 refine W ?_
 exact⟨k,⟨rfl,rfl,rfl⟩,⟨dA,om,Bi⟩,om⟩
 have h0:gg=0:=by omega
 subst h0
 refine W ?_
 exact⟨_,rfl,congrArg (λz:Nat=>Value.int .i64 (z:Int)) zg.symm,_,aw,hR⟩
theorem Pf (aM:aj) (regs:List aj) (hr:regs.length<10000) (m:Mk) (dj:m.blocks.length<100000) (E L:List Nat) (b:Nat) (v:Value) (w:World) (h:dN t8 E L w b true m) (hv:bg L w v regs):
  bC Tryz.prog 155 [.pointer (some ⟨b,0,none⟩),str aM,v] w λr w'=>∃L',dN t8 E L' w' b false (C4 m aM regs)∧ei E L w L' w':=by
 obtain⟨vb,vt,vc,vy,gb,gt,gc,gy,bu,hS⟩:=h.open
 obtain⟨zu,nJ,vW,mE,vX,uC⟩:=hS.apart
 have WB:=hS.NM
 obtain⟨G0,H5⟩:∃G,G=E++(gb.toList++(gt.toList++gy.toList)):=⟨_,rfl⟩
 have WC:∀x,x∈G0->x∈L:=λx hx=>by rw[H5] at hx;simp only[mA] at hx;exact hS.mem.2 (by rcases hx with h|h|h|h<;>simp[h])
 have oh:b∉G0:=λhx=>by
  rw[H5] at hx;simp only[mA] at hx
  rcases hx with h|h|h|h
  ·exact nJ h
  ·exact(vW b h).2 rfl
  ·exact(mE b h).2.1 rfl
  ·exact(uC b h).2.1 rfl
 have bu:dW G0 w b [vb,vt,.int .i64 (m.count:Int),.bool m.wide,vc,vy].toArray 164:=⟨bu,oh⟩
 have oU:=bg.fresh hv (λx hx=>.inl (WC x hx))
 have p5:eZ G0 w:=λx hx=>hS.cN x (WC x hx)
 have wT:∀x,w.heap.size<=x->x∉qe E b gb gt gy:=λx h1 hx=>by have:=hS.cN x (hS.Ux x hx);omega
 obtain⟨an,nn,cn,rfl,qd⟩:=dU hv
 obtain⟨ac,nc,cc,rfl,mI⟩:=dU WB
 refine cj [] 24 Tryz.func155 rfl acj rfl rfl ?_
 apply jQ du G0 18 (rA 6 18) (rA 6 18) [[],[],[1],[2],[3],[],[],[],[6,7],[],[9],[10],[11],[5,8,12],[13],[4,14],[0],[16]] [Ie.v _,Ie.v _,Ie.v _,Ie.v _,Ie.v _,Ie.v _,Ie.p (fun(G:List Nat) (v:Value) (ww:World)=>∃bb,v= .slice (some ⟨bb,0,none⟩) 0 0∧w.heap.size<=bb∧dW G ww bb #[] 9),Ie.v _,Ie.e 0,Ie.v _,Ie.v _,Ie.v _,Ie.v _,Ie.e 1,Ie.e 2,Ie.e 3,Ie.v _,Ie.v _] [8,13,14,15] [fun(G:List Nat) (vs:List Value) (ww:World)=>(∀x,x∈G0->x∈G)∧ak [] w ww,fun(G:List Nat) (vs:List Value) (ww:World)=>(∀x,x∈G0->x∈G)∧ak [] w ww∧bg (qe E b gb gt gy) ww (vs.getD 0 undef) regs,fun(G:List Nat) (vs:List Value) (ww:World)=>(∀x,x∈G0->x∈G)∧ak [] w ww∧bg (qe E b gb gt gy) ww (vs.getD 0 undef) regs∧vs.getD 1 undef= .agg #[str aM,vs.getD 0 undef,.slice ac nc cc],fun(G:List Nat) (vs:List Value) (ww:World)=>(∀x,x∈G0->x∈G)∧ak [] w ww∧bg (qe E b gb gt gy) ww (vs.getD 0 undef) regs∧∃bb,vs.getD 2 undef= .slice (some ⟨bb,0,none⟩) 1 1∧aL ww bb [str aM,vs.getD 0 undef,.slice ac nc cc].toArray 58,fun(G:List Nat) (vs:List Value) (ww:World)=>∃g2,dO (gb.toList++(g2.toList++qe E b gb gt gy)) ww 58 3 (vs.getD 3 undef) g2 ((m.blocks++[(⟨aM,regs,m.code⟩:Bk)]).map Bk.enc)∧ak gb.toList w ww∧(g2=gb∨∃x,g2=some x∧w.heap.size<=x)] de rfl p5 (by exact⟨λG v w G' w' ⟨bb,e,h1,h⟩ k=>⟨bb,e,h1,h.go k⟩,trivial⟩) (by exact⟨λG vs w w' ⟨h1,h2⟩ k=>⟨h1,h2.ext k⟩,λG vs w w' ⟨h1,h2,h3⟩ k=>⟨h1,h2.ext k,h3.ext k⟩,λG vs w w' ⟨h1,h2,h3,h4⟩ k=>⟨h1,h2.ext k,h3.ext k,h4⟩,λG vs w w' ⟨h1,h2,h3,bb,h4,h5⟩ k=>⟨h1,h2.ext k,h3.ext k,bb,h4,h5.ext k⟩,λG vs w w' ⟨g2,h1,h2,h3⟩ k=>⟨g2,h1.ext k,h2.ext k,h3⟩,trivial⟩) (⟨λx hx=>hx,ak.refl _ _⟩)
 refine FA ?_
 refine vf (λx w1 G1 aX ur sr=>?_) ?_
 refine gA bo bm λw2 az Fo dK=>?_
 exact ff az (⟨_,rfl,(by have h1:=ur.aG.size;omega),Fo.o sr⟩)
 refine FA ?_
 refine ve 0 (λx w1 G1 aX ur sr hJ hlen=>?_) ?_
 have ba:=jv hlen
 subst ba
 have oU:=oU.go ur
 intro v6 d6
 obtain⟨bb,e6,De,fX⟩:=d6
 subst e6
 obtain⟨kc,gq⟩:=hJ
 refine Hy (N:=w.heap.size) bo bm rfl rfl rfl rfl rfl rfl fX De oU ‹_› om λv9 w2 G9 kI vO db eN ql=>?_
 exact fe G9 db eN (⟨λx hx=>kI _ (kc x hx),ql.since gq,let⟨g',jj,_,hs⟩:=vO;jj.rep (λx hx eA=>wT x (hs x (by simp[hx])).2 eA)⟩)
 refine FA ?_
 refine ve 1 (λx w1 G1 aX ur sr hJ hlen=>?_) ?_
 obtain⟨q0,ba⟩:=jw hlen
 subst ba
 obtain⟨kc,gq,qu⟩:=hJ
 obtain⟨a7,n7,c7,e7,_⟩:=dU qu
 have e8:q0=_:=e7
 subst e8
 refine iT (Gx _ _ _ _ _ _ _ _) rfl rfl ?_
 exact fe G1 (Fr.refl _ _) sr (⟨kc,gq,qu,rfl⟩)
 refine ve 2 (λx w1 G1 aX ur sr hJ hlen=>?_) ?_
 obtain⟨q0,q1,ba⟩:=lJ hlen
 subst ba
 obtain⟨kc,gq,qu,pr⟩:=hJ
 obtain⟨a7,n7,c7,e7,_⟩:=dU qu
 have e8:q0=_:=e7
 subst e8
 have H6:q1=Value.agg #[str aM,.slice a7 n7 c7,.slice ac nc cc]:=pr
 subst H6
 refine rz [.tmp 19] [[str aM,.slice a7 n7 c7,.slice ac nc cc]] jH fD rfl rfl rfl rfl rfl rfl rfl rfl rfl λw2 az tt Wj=>?_
 exact fe G1 (Fr.of az sm) ((λx hx=>lL (sr x hx) (ak.size az))) (⟨kc,gq.trans az,qu.ext az,_,rfl,tt⟩)
 refine ve 3 (λx w1 G1 aX ur sr hJ hlen=>?_) ?_
 obtain⟨q0,q1,q2,ba⟩:=AQ hlen
 subst ba
 obtain⟨kc,gq,qu,bb,Ew,fX⟩:=hJ
 have gW:q2=_:=Ew
 subst gW
 have ir:=(hS.bl.any gq).sub (L':=gb.toList++qe E b gb gt gy) (λx hx=>.inl (by rcases mA.1 hx with h|h;(·exact hS.mem.2 (by simp[h]));(·exact hS.Ux x h)))
 have WD:∀x,x∈gb.toList++qe E b gb gt gy->x∈qe E b gb gt gy:=(λx hx=>by rcases mA.1 hx with h|h;(·exact yI.2 (by simp[h]));(·exact h))
 refine CZ (L:=qe E b gb gt gy) (row:=Bk.enc ⟨aM,regs,m.code⟩) jH fD rfl rfl rfl rfl rfl rfl ir rfl fX.all (by obtain⟨a7,n7,c7,e7,_⟩:=dU qu;have e8:q0=_:=e7;subst e8;simp[Value.oneCell']) ⟨.val _,bg.fresh qu (λx hx=>.inl (WD x hx)),bg.fresh (WB.ext gq) (λx hx=>.inl (WD x hx)),trivial⟩ (by simpa using(show m.blocks.length<100000000 from om)) λv9 g9 w2 dm uG fx=>?_
 exact fe G1 (Fr.of uG.aG (λx hx=>kc x (by rw[H5];simp[hx]))) ((λx hx=>lL (sr x hx) uG.aG.size)) (⟨g9,by simpa using dm,gq.any.trans uG.aG,fx.imp id (λh=>⟨_,h,gq.size⟩)⟩)
 exact FZ
 intro x NJ G40 aX Ww ajp hJ hlen
 obtain⟨q0,q1,q2,q3,ba⟩:=Np hlen
 subst ba
 intro v6 d6
 have bu:=bu.go Ww
 change OW _ _ _ _ _ (aS (aR _ x _) (zZ 6 [_,_,_,_,_,_,_,_,_,_,_,_,_,_,_,_,_,_])) _
 obtain⟨g2,dm,eJ,jc⟩:=hJ
 obtain⟨L2,fp,jD⟩:=hS.af9 dm eJ jc
 obtain⟨a3,c3,e3⟩:=dm.len
 have e4:q3=_:=e3
 subst e4
 have bu:=bu.iy
 refine gF (o:=0) SV rfl rfl rfl bu rfl λoc gI bu dv=>?_
 have fp:=fp.aG gI sm
 have hR:=((ei.refl E L w).add jD eJ (λx hx=>(vW x hx).1)).aD gI (fp.mem.2 (.inr (.inl rfl))) nJ
 refine W ?_
 exact⟨_,rfl,L2,⟨_,_,_,_,_,_,_,_,bu,fp⟩,hR⟩
theorem ajz {a:aj} (h:dX a=true):cv m s a=(m,kC s a):=by unfold cv;rw[iP h]
theorem Dz (m:Mk) (k:aj):(m.dy k).code.length=m.code.length:=rfl
theorem pG (m:Mk) (h:aj) (ps:List aj):(m.cM h ps).code.length=m.code.length+1:=by simp[Mk.cM]
def BJ (s:cP) (aP:List aj) (k:Nat):List aj:=(aP.take k).map λx=>aZ (kC s x)
def zy (s:cP) (aP:List aj) (k:Nat):List aj:=(aP.take k).map λx=>bz (ko s x)
theorem ajA {aP:List aj} (h:k<aP.length):BJ s aP (k+1)=BJ s aP k++[aZ (kC s (cJ aP k))]:=by
 unfold BJ;rw[List.take_add_one,kM h];simp
theorem ajB {aP:List aj} (h:k<aP.length):zy s aP (k+1)=zy s aP k++[bz (ko s (cJ aP k))]:=by
 unfold zy;rw[List.take_add_one,kM h];simp
theorem ajC {s:cP} {aP:List aj}:(BJ s aP k).length<=aP.length:=by unfold BJ;rw[List.length_map,List.length_take];omega
theorem ajD {s:cP} {aP:List aj}:(zy s aP k).length<=aP.length:=by unfold zy;rw[List.length_map,List.length_take];omega
theorem ajE (s:cP) (aP:List aj):BJ s aP aP.length=aP.map λx=>aZ (kC s x):=by simp[BJ]
theorem ajF (s:cP) (aP:List aj):zy s aP aP.length=aP.map λx=>bz (ko s x):=by simp[zy]
theorem Pg (h:(look (eP s) x).isSome=true):od (jP s) (po s) x [] (jP s).length=(ko s x).text:=by
 have h1:=Vw x (eP s)
 rw[Wy,Wz,NV h] at h1
 have e:(eP s).length=(jP s).length:=by simp[eP,jP]
 rw[e] at h1
 exact h1
theorem gO.tx {τ:sP} {vb vt vc vy:Value} {gb gt gc gy:Option Nat} (h:gO τ E L w b o vb vt vc vy gb gt gc gy m) {x:Nat} (k:ak G w w') (hG:∀y,y∈G->y∈b::E) (hx:w.heap.size<=x) (vD:x<w'.heap.size):gO τ (x::E) (x::L) w' b o vb vt vc vy gb gt gc gy m:=by
 obtain⟨a1,a2,a3,a4,a5,a6⟩:=h.apart
 have rY:∀x,x∈G->x∈L:=λx hx=>h.mem.2 (by rcases mC.1 (hG x hx) with h1|h1<;>simp[h1])
 have hF:Fr L w (x::L) w':=⟨k.mono rY,λy hy=>by
  rcases mC.1 hy with rfl|hy
  ·exact .inr hx
  ·exact .inl hy⟩
 have out:∀x,x∉E->x≠b->x∉G:=λx h1 h2 h3=>by
  rcases mC.1 (hG x h3) with h4|h4
  ·exact h2 h4
  ·exact h1 h4
 refine⟨h.bl.aG hF k (λx hx=>out x (a3 x hx).1 (a3 x hx).2),h.ta.aG hF k (λx hx=>out x (a4 x hx).1 (a4 x hx).2.1),?_,h.ty.aG k (λx hx=>out x (a6 x (by simp[hx])).1 (a6 x (by simp[hx])).2.1),by rw[h.eL];rfl,List.nodup_cons.2 ⟨λh2=>by have:=h.cN _ h2;omega,h.nd⟩,λy hy=>?_⟩
 ·rcases h.co with⟨ho,h1⟩|⟨ho,hn,h1⟩
  ·exact .inl ⟨ho,h1.aG k λx hx=>out x (a5 x (by simp[hx])).1 (a5 x (by simp[hx])).2.1⟩
  ·exact .inr ⟨ho,hn,h1.go hF⟩
 ·rcases mC.1 hy with rfl|hy
  ·exact vD
  ·exact lL (h.cN y hy) k.size
theorem dN.tx {τ:sP} (h:dN τ E L w b o m) {x:Nat} (k:ak G w w') (hG:∀y,y∈G->y∈E) (hx:w.heap.size<=x) (vD:x<w'.heap.size):dN τ (x::E) (x::L) w' b o m:=by
 obtain⟨vb,vt,vc,vy,gb,gt,gc,gy,h1,h2⟩:=h
 exact⟨vb,vt,vc,vy,gb,gt,gc,gy,h1.aG k (λhx=>h2.apart.2.1 (hG b hx)),h2.tx k (λx hx=>mK _ (hG x hx)) hx vD⟩
theorem dN.WE {τ:sP}:∀{X L:List Nat},dN τ (X++E) L w b o m->∃L',L=X++L'∧dN τ E L' w b o m
 |[],L,h=>⟨L,rfl,h⟩
 |x::X,L,h=>by
  obtain⟨L1,e1,h1⟩:=dN.drop (E:=X++E) h
  obtain⟨L2,e2,h2⟩:=dN.WE h1
  exact⟨L2,by rw[e1,e2];rfl,h2⟩
theorem dN.nd {τ:sP} (h:dN τ E L w b o m):L.Nodup:=by
 obtain⟨_,_,_,_,_,_,_,_,_,h2⟩:=h
 exact h2.nd
theorem dN.sub {τ:sP} (h:dN τ E L w b o m) {x:Nat} (hx:x∈E):x∈L:=h.mem.1 x (mK _ hx)
structure qX (E L:List Nat) (w:World) (b:Nat) (m:Mk) (v1:Value) (g1:Option Nat) (rI:List aj) (v2:Value) (g2:Option Nat) (qY:List aj) (X L1:List Nat) (ww:World):Prop where
 mb:dN t8 (X++E) L1 ww b true m
 fe:ei E L w L1 ww
 s1:cE ww 9 v1 g1 rI
 s2:cE ww 9 v2 g2 qY
 x1:∀x,x∈g1.toList->x∈X∧x∉g2.toList
 x2:∀x,x∈g2.toList->x∈X∧x∉g1.toList
 xE:∀x,x∈X->x∉E
def DA (E L:List Nat) (w:World) (b:Nat) (m:Mk) (v1:Value) (g1:Option Nat) (rI:List aj) (v2:Value) (g2:Option Nat) (qY:List aj) (ww:World):Prop:=∃X L1,qX E L w b m v1 g1 rI v2 g2 qY X L1 ww
section
variable {E L X L1 L2:List Nat} {w ww w':World} {b:Nat} {m:Mk} {v1 v2 v:Value} {g1 g2 g:Option Nat} {rI qY ys:List aj}
theorem qX.ext (h:qX E L w b m v1 g1 rI v2 g2 qY X L1 ww) (k:ak [] ww w'):qX E L w b m v1 g1 rI v2 g2 qY X L1 w':=⟨h.mb.ext k,h.fe.ext k,h.s1.ext k,h.s2.ext k,h.x1,h.x2,h.xE⟩
theorem qX.swap (h:qX E L w b m v1 g1 rI v2 g2 qY X L1 ww):qX E L w b m v2 g2 qY v1 g1 rI X L1 ww:=⟨h.mb,h.fe,h.s2,h.s1,h.x2,h.x1,h.xE⟩
theorem qX.H7 (h:qX E L w b m v1 g1 rI v2 g2 qY X L1 ww) (hO:cE w' 9 v g ys) (k:ak g1.toList ww w') (hg:g=g1∨∃x,g=some x∧ww.heap.size<=x):DA E L w b m v g ys v2 g2 qY w':=by
 have hX:∀x,x∈g1.toList->x∈X++E:=λx hx=>List.mem_append_left _ (h.x1 x hx).1
 have hL:∀x,x∈g1.toList->x∈L1:=λx hx=>h.mb.sub (hX x hx)
 have hF:ei E L w L1 w':=h.fe.add (Fr.of k hL) k λx hx=>h.xE x (h.x1 x hx).1
 have h2:cE w' 9 v2 g2 qY:=h.s2.aG k λx hx hy=>(h.x2 x (by simp[hx])).2 hy
 rcases hg with rfl|⟨x,rfl,hx⟩
 ·exact⟨X,L1,⟨h.mb.aG k hX,hF,hO,h2,h.x1,h.x2,h.xE⟩⟩
 ·have mJ:x<w'.heap.size:=hO.lt x sm
  refine⟨x::X,x::L1,⟨h.mb.tx k hX hx mJ,⟨⟨hF.fr.aG,λy hy=>?_⟩,hF.out⟩,hO,h2,λy hy=>?_,λy hy=>?_,λy hy=>?_⟩⟩
  ·rcases mC.1 hy with rfl|hy
   ·exact .inr (Nat.le_trans h.fe.fr.aG.size hx)
   ·exact hF.fr.mem y hy
  ·have e:y=x:=by simpa using hy
   subst e
   exact⟨by simp,λhh=>by have:=h.s2.lt y hh;omega⟩
  ·refine⟨mK _ (h.x2 y hy).1,λhh=>?_⟩
   have e:y=x:=by simpa using hh
   subst e
   have:=h.s2.lt y hy;omega
  ·rcases mC.1 hy with rfl|hy
   ·intro hE
    have:=h.mb.dB y (h.mb.sub (mR _ hE));omega
   ·exact h.xE y hy
theorem qX.Bz (h:qX E L w b m v1 g1 rI v2 g2 qY X L1 ww) (hO:cE w' 9 v g ys) (k:ak g2.toList ww w') (hg:g=g2∨∃x,g=some x∧ww.heap.size<=x):DA E L w b m v1 g1 rI v g ys w':=
 let⟨X,L1,h⟩:=h.swap.H7 hO k hg;⟨X,L1,h.swap⟩
theorem qX.call {m':Mk} (h:qX E L w b m v1 g1 rI v2 g2 qY X L1 ww) (hM:dN t8 (X++E) L2 w' b true m') (k:ei (X++E) L1 ww L2 w'):qX E L w b m' v1 g1 rI v2 g2 qY X L2 w':=by
 obtain⟨G,kg,hG⟩:=k.out
 refine⟨hM,h.fe.add k.fr kg λx hx hE=>hG x hx (mR _ hE),h.s1.aG kg λx hx hy=>hG x hy (List.mem_append_left _ (h.x1 x (by simp[hx])).1),h.s2.aG kg λx hx hy=>hG x hy (List.mem_append_left _ (h.x2 x (by simp[hx])).1),h.x1,h.x2,h.xE⟩
theorem qX.done (h:qX E L w b m v1 g1 rI v2 g2 qY X L1 ww):∃L',dN t8 E L' ww b true m∧ei E L w L' ww∧bg L' ww v1 rI∧bg L' ww v2 qY:=by
 obtain⟨L',e,h1⟩:=h.mb.WE
 have jg:=h.mb.nd
 rw[e,List.nodup_append] at jg
 have hs:∀x,x∈L'->x∈L1:=λx hx=>by rw[e];exact mR _ hx
 exact⟨L',h1,⟨⟨h.fe.fr.aG,λx hx=>h.fe.fr.mem x (hs x hx)⟩,h.fe.out⟩,h.s1.rep λx hx hy=>jg.2.2 x (h.x1 x (by simp[hx])).1 x hy rfl,h.s2.rep λx hx hy=>jg.2.2 x (h.x2 x (by simp[hx])).1 x hy rfl⟩
theorem DA.start {w2:World} (h:dN t8 E L w b true m) (k1:ak [] w w1) (aT:aL w1 w.heap.size #[] 9) (k2:ak [] w1 w2) (aO:aL w2 w1.heap.size #[] 9):DA E L w b m (.slice (some ⟨w.heap.size,0,none⟩) 0 0) (some w.heap.size) [] (.slice (some ⟨w1.heap.size,0,none⟩) 0 0) (some w1.heap.size) [] w2:=by
 have h1:=aT.lt
 have h2:=aO.lt
 have hl:=h.dB
 refine⟨[w1.heap.size,w.heap.size],w1.heap.size::w.heap.size::L,⟨(h.tx (E:=E) k1 sm (lR _) h1).tx k2 sm (lR _) h2,⟨⟨(k1.trans k2).any,λx hx=>?_⟩,[],k1.trans k2,sm⟩,(aT.ext k2).lh,aO.lh,λx hx=>?_,λx hx=>?_,λx hx hE=>?_⟩⟩
 ·rcases mC.1 hx with rfl|hx
  ·right;omega
  ·rcases mC.1 hx with rfl|hx
   ·right;omega
   ·exact .inl hx
 ·simp at hx;subst hx;simp;omega
 ·simp at hx;subst hx;simp;omega
 ·have:=hl x (h.sub hE)
  simp at hx;rcases hx with rfl|rfl<;>omega
end
theorem oq {a:Option Addr} {c i:Nat} {xs:List aj} (h:bg L w (.slice a n c) xs) (hi:i<xs.length):∃b off,a=some ⟨b,off,none⟩∧fM L w b (off+i*1) [str (cJ xs i)]:=by
 obtain⟨b,off,vs,ha,hb,hL,hl,hc,hr⟩:=z8 h (Rp (kM hi))
 rw[Rr hr] at hc
 exact⟨b,off,ha,hc,hb,hL⟩
theorem mF {hd:aj} {ps:List aj} (hh:hd.length<=100) (hp:ps.length<=45) (hs:∀p,p∈ps->p.length<=20000):(cY hd ps).length<=1000000:=by
 have h1:=Bo (m:=20000) ps hs
 have h2:ps.length*20001<=45*20001:=Nat.mul_le_mul hp (lR _)
 rw[l6];omega
theorem mf (h:n<1000):(aZ n).length<=20000:=by have:=s5 h;omega
def BK (s:cP) (ton:Nat) (aP:List aj) (on:aj):List aj:=aP.map (λx=>aZ (kC s x))++(if on≠[] then[aZ ton] else[])
theorem ajG (hs:j9 s) {ton:Nat} (ht:ton<1000) {aP:List aj} {on:aj}:∀p,p∈BK s ton aP on->p.length<=3:=λp hp=>by
 unfold BK at hp
 rcases mA.1 hp with hp|hp
 ·obtain⟨x,_,rfl⟩:=List.mem_map.1 hp
  exact s5 (Hk hs x)
 ·split at hp
  ·simp only[List.mem_singleton] at hp;rw[hp];exact s5 ht
  ·simp at hp
theorem ajH (s:cP) (ton:Nat) (aP:List aj) (on:aj):(BK s ton aP on).length<=aP.length+1:=by
 unfold BK
 rw[lA,List.length_map]
 split<;>simp
theorem ajI (m:Mk) (s:cP) (ton:Nat) (aP:List aj) (on aM kind:aj) (bW:List aj) {R TY:List aj} {W C0 P0:aj} {r:Nat} (hR:R=BK s ton aP on) (BL:TY=l7 s aP on) (hW:W=cY [116] TY) (hC:C0=cY [99] (W::bW)) (hP:P0=cY [116] [C0,W]) (hr:r=m.types.length):
  pj m s ton aP on aM kind bW=⟨(((((((m.dy W).cM lY (aZ r::R)).dy C0).cM sL [aZ (r+1),aM]).dy P0).cM lY [aZ (r+2),aZ (r+1),aZ r]).dy kind).cM sM [aZ (r+3),aZ (r+2),kind,W],r+3,W⟩:=by
 subst hP;subst hC;subst hW;subst BL;subst hR;subst hr;rfl
theorem WG (t:Tk) (m:Mk) (aP:List aj) (on aM kind:aj) (bW:List aj) (gk:∀x,x∈aP->dX x=true∧(look (eP t.sc) x).isSome=true) (hs:j9 t.sc) (nV:t.sc.length<=9000) (pN:aP.length<=40) (rC:t.on<1000) (kK:on.length<=272) (Ho:aM.length<=10) (xi:kind.length<=272) (dY:bW.length<=2) (NR:∀x,x∈bW->x.length<=272) (ht:m.types.length+4<1000) (hc:m.code.length<=8000) 
  (E L:List Nat) (b bt:Nat) (vn vd:Value) (w:World) (h:dN t8 E L w b true m) (hT:ig L w 166 bt t) (er:bt∈E) (jU:bg L w vn aP) (uH:bg L w vd bW):
  bC Tryz.prog 243 [.pointer (some ⟨b,0,none⟩),.pointer (some ⟨bt,0,none⟩),vn,str on,str aM,str kind,vd] w λr w'=>r= .tuple #[.int .i64 ((pj m t.sc t.on aP on aM kind bW).r:Int),str (pj m t.sc t.on aP on aM kind bW).w]∧∃L',dN t8 E L' w' b true (pj m t.sc t.on aP on aM kind bW).m∧ei E L w L' w':=by
 obtain⟨an,nn,cn,rfl,qd⟩:=dU jU
 obtain⟨ad,nd,cd,rfl,jg⟩:=dU uH
 obtain⟨R,H8⟩:∃x,x=BK t.sc t.on aP on:=⟨_,rfl⟩
 obtain⟨TY,BL⟩:∃x,x=l7 t.sc aP on:=⟨_,rfl⟩
 obtain⟨W,hW⟩:∃x,x=cY [116] TY:=⟨_,rfl⟩
 obtain⟨C0,KV⟩:∃x,x=cY [99] (W::bW):=⟨_,rfl⟩
 obtain⟨P0,su⟩:∃x,x=cY [116] [C0,W]:=⟨_,rfl⟩
 obtain⟨r,H9⟩:∃r,r=m.types.length:=⟨_,rfl⟩
 obtain⟨c,Ph⟩:∃c,c=m.code.length:=⟨_,rfl⟩
 have t0:m.types.length=r:=H9.symm
 have c0:m.code.length=c:=Ph.symm
 rw[ajI m t.sc t.on aP on aM kind bW H8 BL hW KV su H9]
 have hWl:W.length<=11200:=by rw[hW,BL];exact Hl hs pN kK
 have hRl:R.length<=41:=by rw[H8];have:=ajH t.sc t.on aP on;omega
 have Ua:TY.length<=41:=by rw[BL];have:=UD t.sc aP on;omega
 have Pj:∀p,p∈R->p.length<=3:=by rw[H8];exact ajG hs rC
 have sv:∀p,p∈TY->p.length<=272:=by rw[BL];exact UE hs kK
 have hCl:C0.length<=12000:=by
  have h1:=Bo bW NR
  have h2:bW.length*(272+1)<=2*(272+1):=Nat.mul_le_mul dY (lR _)
  have h3:iU (W::bW)=1+W.length+iU bW:=by unfold iU;simp;omega
  rw[KV,l6,h3];simp only[lC,List.length_nil];omega
 have KX:P0.length<=25000:=by rw[su,l6,Bq];simp only[lC,List.length_nil];omega
 have ajK:=h
 refine cj [.tmp 14,.tmp 15] 131 Tryz.func243 rfl adl rfl rfl ?_
 refine zr<|zA<|zA<|aV<|zr<|gA bo bm λw1 aI CX aiz=>?_
 have Ia:=aI
 refine zA<|aV<|zr<|gA bo bm λw2 az vY ajL=>?_
 have hP:=DA.start ajK Ia CX az vY
 refine zA<|aV<|jV<|zr<|zA<|aV<|tI<|eO (λq:Nat×(Value×Option Nat)×(Value×Option Nat)=>[(0,.pointer (some ⟨b,0,none⟩)),(1,.pointer (some ⟨bt,0,none⟩)),(2,.slice an nn cn),(3,str on),(4,str aM),(5,str kind),(6,.slice ad nd cd),(16,q.2.1.1),(17,q.2.2.1),(18,.int .i64 (q.1:Int))]) (λq w'=>DA E L w b m q.2.1.1 q.2.1.2 (BJ t.sc aP q.1) q.2.2.1 q.2.2.2 (zy t.sc aP q.1) w'∧q.1<=aP.length) (λq=>aP.length-q.1) ((0,(.slice (some ⟨w.heap.size,0,none⟩) 0 0,some w.heap.size),(.slice (some ⟨w1.heap.size,0,none⟩) 0 0,some w1.heap.size))) (⟨rfl,rfl,rfl,rfl,rfl,rfl,rfl,rfl,rfl,rfl⟩) (⟨hP,sm⟩) λgg w3 e3 hI=>?_
 obtain⟨k,⟨vr,gr⟩,vt,gt⟩:=gg
 obtain⟨⟨X,L1,hX⟩,hk⟩:=hI
 dsimp only at hX hk
 refine jV<|zr<|zm<|zm<|IU bo rfl rfl rfl<|IV rfl rfl rfl rfl rfl<|aV<|zc rfl (λh1=>?_) (λh1=>?_)
 have az:k<aP.length:=(by simp at h1;omega)
 have hx:=kM az
 have DB:=List.mem_of_getElem? hx
 have mJ:=EO (gk _ DB).1
 have ajM:=jU.go hX.fe.fr
 have cV:=hX.fe.tk hT er
 have aY:=pR ajM hx
 obtain⟨b1,eh,e1,bM⟩:=aY
 cases e1
 refine WI ?_
 refine zi bo bm rfl rfl (by rw[qd];omega)<|zl gv rfl (bM 0 _ rfl)<|aA (Bm (cJ aP k) w3) ?_
 rintro _ w4 ⟨rfl,aN⟩
 have fg:=aN.size
 have hX:=hX.ext aN
 refine aA (Dy t (cJ aP k) m om om om nV (X++E) L1 b bt _ _ _ w4 hX.mb (hX.fe.tk hT er) (mR _ er)) ?_
 rintro v41 w5 ⟨WH,L2,H4,jD⟩
 rw[ajz (gk _ DB).1] at WH H4
 subst WH
 have hX:=hX.call H4 jD
 refine aA (iI (kC t.sc (cJ aP k)+1) (kC t.sc (cJ aP k)) om (by have:=Hk hs (cJ aP k);omega) w5) ?_
 rintro _ w6 ⟨rfl,bB⟩
 have ku:=bB.size
 have hX:=hX.ext bB
 refine fo bo bm rfl rfl λw7 bJ ajN l4=>?_
 have hX:=hX.ext bJ
 refine sj bo bm rfl rfl rfl rfl rfl rfl hX.s1 ajN (by have:=ajC (s:=t.sc) (aP:=aP) (k:=k);omega) λv9 g9 w8 dm aU fx=>?_
 rw[<-ajA az] at dm
 have aY:=hX.H7 dm aU (fx.imp id (λh=>⟨_,h,lR _⟩))
 obtain⟨X2,L2,hX⟩:=aY
 have WJ:=hX
 have dR:∀x,x∈gt.toList->x∈L2:=(λx hx=>hX.mb.sub (List.mem_append_left _ (hX.x2 x hx).1))
 have aY:=hX.fe.tk hT er
 obtain⟨u1,u3,u4,u5,u6,u8,zw,hC⟩:=aY
 have dx:dW gt.toList w8 bt [str t.aM,u1,.int .i64 (t.loads:Int),u3,u4,u5,u6,str t.expr.au.av,u8,.int .i64 (t.on:Int),str t.bc,.int .i64 (t.next:Int)].toArray 166:=⟨zw,λhx=>hX.xE bt (hX.x2 bt hx).1 er⟩
 have Hx:bg gt.toList w8 u4 (jP t.sc):=bg.fresh hC.aP (λx hx=>.inl (dR x hx))
 have Pl:bg gt.toList w8 u6 (po t.sc):=bg.fresh hC.types (λx hx=>.inl (dR x hx))
 have zz:bg gt.toList w8 (.slice (some ⟨b1,eh,none⟩) nn cn) aP:=bg.fresh (jU.go hX.fe.fr) (λx hx=>.inl (dR x hx))
 have aY:=oq zz az
 obtain⟨b2,kY,e2,bZ⟩:=aY
 cases e2
 have qj:eZ gt.toList w8:=(λx hx=>hX.s2.lt x hx)
 refine zA<|aV ?_
 apply jQ du gt.toList 17 (rA 45 17) (rA 45 17) [[],[],[1],[2],[3],[],[5],[6],[7],[],[],[9,10],[11],[4,8,12],[13],[14],[0,15]] [Ie.v _,Ie.v _,Ie.v _,Ie.v _,Ie.v _,Ie.v _,Ie.v _,Ie.v _,Ie.v _,Ie.v _,Ie.v _,Ie.v _,Ie.v _,Ie.v _,Ie.v _,Ie.p (fun(G:List Nat) (v:Value) (ww:World)=>∃bb,v= .slice (some ⟨bb,0,none⟩) 1 1∧dW G ww bb [str (bz (ko t.sc (cJ aP k)))].toArray 9),Ie.e 0] [16] [fun(G:List Nat) (vs:List Value) (ww:World)=>G=gt.toList∧ak [] w8 ww,fun(G:List Nat) (vs:List Value) (ww:World)=>∃g2,cE ww 9 (vs.getD 0 undef) g2 (zy t.sc aP (k+1))∧ak gt.toList w8 ww∧(g2=gt∨∃x,g2=some x∧w8.heap.size<=x)] de rfl qj (by exact⟨λG v w G' w' ⟨bb,e,h⟩ k=>⟨bb,e,h.go k⟩,trivial⟩) (by exact⟨λG vs w w' ⟨h1,h2⟩ k=>⟨h1,h2.ext k⟩,λG vs w w' ⟨g2,h1,h2,h3⟩ k=>⟨g2,h1.ext k,h2.ext k,h3⟩,trivial⟩) (⟨rfl,ak.refl _ _⟩)
 refine vf (λ_ _ _ _ _ _=>WZ fv) ?_
 refine vf (λ_ _ _ _ _ _=>WZ fv) ?_
 refine vf (λ_ _ _ _ _ _=>WZ fv) ?_
 refine vf (λ_ _ _ _ _ _=>WZ fv) ?_
 refine vf (λx w9 G9 aX db nk=>?_) ?_
 have dx:=dx.go db
 refine WZ ?_
 exact fv
 refine vf (λ_ _ _ _ _ _=>WZ fv) ?_
 refine vf (λ_ _ _ _ _ _=>WZ fv) ?_
 refine vf (λ_ _ _ _ _ _=>WZ fv) ?_
 refine FA ?_
 refine vf (λx w9 G9 aX db nk=>?_) ?_
 have Hx:=Hx.go db;have Pl:=Pl.go db
 refine aA (HA (jP t.sc) (po t.sc) (by simp[jP,po]) (by simp[jP];omega) (cJ aP k) _ _ _ _ w9 Hx Pl) ?_
 rintro _ cB ⟨rfl,cA⟩
 have zn:=cA.size
 exact fk cA
 refine vf (λx w9 G9 aX db nk=>?_) ?_
 refine aA ((Pg (gk _ DB).2▸vV (ko t.sc (cJ aP k)) (by have:=JZ hs (cJ aP k);omega) w9)) ?_
 rintro _ cB ⟨rfl,cA⟩
 have zn:=cA.size
 exact fk cA
 refine vf (λx w9 G9 aX db nk=>?_) ?_
 refine fo bo bm rfl rfl λcB cA Ib CP=>?_
 exact ff cA (⟨_,rfl,Ib.o nk⟩)
 refine ve 0 (λx w9 G9 aX db nk hJ hlen=>?_) ?_
 have ba:=jv hlen
 subst ba
 intro vR d15
 obtain⟨bb,e6,fX⟩:=d15
 subst e6
 obtain⟨bX,cg⟩:=hJ
 subst bX
 have ajO:=WJ.s2.ext cg
 refine sj bo bm rfl rfl rfl rfl rfl rfl ajO fX.iy (by have:=ajD (s:=t.sc) (aP:=aP) (k:=k);omega) λv9 g9 cB dm aC fx=>?_
 rw[<-ajB az] at dm
 exact fe g9.toList (⟨aC,λx hx=>by rcases fx with h|h;(·rw[h] at hx;exact .inl hx);(·rw[h] at hx;simp at hx;right;omega)⟩) ((λx hx=>dm.lt x hx)) (⟨g9,dm,cg.any.trans aC,fx.imp id (λh=>⟨_,h,cg.size⟩)⟩)
 exact trivial
 intro x kZ Kw aX E9 OE hJ hlen
 have aY:=jw hlen
 obtain⟨q0,ba⟩:=aY
 subst ba
 intro vR d15
 change OW _ _ _ _ _ (aS (aR _ x _) (zZ 45 [_,_,_,_,_,_,_,_,_,_,_,_,_,_,_,_,_])) _
 obtain⟨g2,dm,aC,fx⟩:=hJ
 have Pm:=WJ.Bz dm aC fx
 refine zA<|aV<|lv<|zm<|o3 rfl rfl rfl rfl rfl (wrap_i64 _ om om)<|zA<|aV ?_
 exact⟨(k+1,(_,_),(_,g2)),⟨rfl,rfl,rfl,rfl,rfl,rfl,rfl,rfl,rfl,rfl⟩,⟨Pm,by show k+1<=_;omega⟩,by show aP.length-(k+1)<aP.length-k;omega⟩
 have eJ:k=aP.length:=(by simp at h1;omega)
 subst eJ
 rw[ajE,ajF] at hX
 refine zX<|zY rfl<|jV<|zr<|zm<|LO rfl rfl rfl rfl<|aV<|iS (λq:(Value×Option Nat)×(Value×Option Nat)=>[(0,.pointer (some ⟨b,0,none⟩)),(4,str aM),(5,str kind),(6,.slice ad nd cd),(16,q.1.1),(17,q.2.1)]) (λq ww=>DA E L w b m q.1.1 q.1.2 R q.2.1 q.2.2 TY ww) ?_ ?_
 refine zc rfl (λh2=>?_) (λh2=>?_)
 have Ic:on≠[]:=(by simpa using h2)
 have Pn:aP.map (λx=>aZ (kC t.sc x))++[aZ t.on]=R:=(by rw[H8];unfold BK;rw[iP Ic])
 have Po:aP.map (λx=>bz (ko t.sc x))++[on]=TY:=(by rw[BL];unfold l7;rw[iP Ic])
 have aY:=hX.fe.tk hT er
 obtain⟨u1,u3,u4,u5,u6,u8,zw,hC⟩:=aY
 have dx:aL w3 bt [str t.aM,u1,.int .i64 (t.loads:Int),u3,u4,u5,u6,str t.expr.au.av,u8,.int .i64 (t.on:Int),str t.bc,.int .i64 (t.next:Int)].toArray 166:=zw
 refine zr<|zm<|zm<|FW rfl rfl rfl<|zf SR rfl<|zl SY rfl (dx.at rfl)<|aA (iI (t.on+1) t.on om om w3) ?_
 rintro _ w4 ⟨rfl,aN⟩
 have fg:=aN.size
 have hX:=hX.ext aN
 refine fo bo bm rfl rfl λw5 aJ Pp iq=>?_
 have hX:=hX.ext aJ
 refine sj bo bm rfl rfl rfl rfl rfl rfl hX.s1 Pp so λv9 g9 w6 dm bB fx=>?_
 rw[Pn] at dm
 have aY:=hX.H7 dm bB (fx.imp id (λh=>⟨_,h,lR _⟩))
 obtain⟨X3,L3,hX⟩:=aY
 refine zA<|aV<|lv<|zm<|zm<|fo bo bm rfl rfl λw7 bJ Pq l4=>?_
 have hX:=hX.ext bJ
 refine sj bo bm rfl rfl rfl rfl rfl rfl hX.s2 Pq so λv10 g10 w8 WK aU ajP=>?_
 rw[Po] at WK
 have Pm:=hX.Bz WK aU (ajP.imp id (λh=>⟨_,h,lR _⟩))
 refine zA<|aV ?_
 exact⟨((_,g9),(_,g10)),⟨rfl,rfl,rfl,rfl,rfl,rfl⟩,Pm⟩
 have Ic:¬on≠[]:=(by simpa using h2)
 have Pn:aP.map (λx=>aZ (kC t.sc x))=R:=(by rw[H8];unfold BK;rw[iN Ic,List.append_nil])
 have Po:aP.map (λx=>bz (ko t.sc x))=TY:=(by rw[BL];unfold l7;rw[iN Ic,List.append_nil])
 rw[Pn,Po] at hX
 refine WZ ?_
 exact⟨((_,_),(_,_)),⟨rfl,rfl,rfl,rfl,rfl,rfl⟩,_,_,hX⟩
 intro gu w4 e4 hI
 obtain⟨⟨vr2,gr2⟩,C1,gt2⟩:=gu
 dsimp only at hI⊢
 obtain⟨X2,L2,hX2⟩:=hI
 have aY:=hX2.done
 obtain⟨L0,aw,hR,zB,fh⟩:=aY
 refine zr<|zm<|aA ((show bC Tryz.prog 135 [str [116],C1] w4 (λr w'=>r=str W∧ak [] w4 w') from by rw[hW];exact s0 [116] TY (by rw[<-hW];omega) _ _ w4 fh)) ?_
 rintro _ w5 ⟨rfl,aJ⟩
 have mn:=aJ.size
 refine cO aJ aw hR zB λaw hR zB=>?_
 refine zA<|aV<|zr<|zm<|zm<|aA (sq W m om E L0 b true w5 aw) ?_
 rintro v10 w6 ⟨fL,L1,aw,bI⟩
 rw[t0] at fL
 subst fL
 have hR:=hR.go bI
 have iF:∃x,x=m.dy W:=⟨_,rfl⟩
 obtain⟨m1,lQ⟩:=iF
 rw[<-lQ] at aw
 have t1:m1.types.length=r+1:=(by rw[lQ,yN];omega)
 have c1:m1.code.length=c+0:=(by rw[lQ,Dz];omega)
 have dk:=aw.dB
 have zB:=zB.go bI.fr
 refine zA<|aV<|zr<|zm<|zm<|aA (iI (r+1) r om om w6) ?_
 rintro _ w7 ⟨rfl,bJ⟩
 have jd:=bJ.size
 refine cO bJ aw hR zB λaw hR zB=>?_
 have dk:=aw.dB
 refine fo bo bm rfl rfl λw8 aU Fp kV=>cO aU aw hR zB λaw hR zB=>?_
 refine zm<|aA (uo [aZ r] R so _ _ L1 w8 (aL.dS [aZ r] Fp (λhx=>by have:=dk _ hx;omega)) zB aw.dB) ?_
 rintro v9 w9 ⟨eu,aC⟩
 have lf:=aC.size
 refine cO aC aw hR Fp λaw hR Fp=>?_
 have WM:=eu
 have aY:=dU WM
 obtain⟨a13,n13,c13,H6,_⟩:=aY
 subst H6
 clear Fp
 refine aA (k9 lY ([aZ r]++R) (mF de so (by intro p hp;rcases mA.1 hp with hp|hp;(·simp at hp;subst hp;exact mf om);(·have:=Pj p hp;omega))) m1 om E L1 b _ w9 aw WM) ?_
 rintro jN cB ⟨L2,aw,bI⟩
 have hR:=hR.go bI
 have eA:∃x,x=m1.cM lY ([aZ r]++R):=⟨_,rfl⟩
 obtain⟨m2,lS⟩:=eA
 rw[<-lS] at aw
 have t2:m2.types.length=r+1:=(by rw[lS,oR];omega)
 have c2:m2.code.length=c+1:=(by rw[lS,pG];omega)
 have dk:=aw.dB
 have Pr:=uH.go hR.fr
 refine aV<|zr<|zm<|fo bo bm rfl rfl λeC dh KY uh=>cO dh aw hR Pr λaw hR Pr=>?_
 refine zm<|aA (uo [W] bW so _ _ L2 eC (aL.dS [W] KY (λhx=>by have:=dk _ hx;omega)) Pr aw.dB) ?_
 rintro v12 fI ⟨Ig,dw⟩
 have BC:=dw.size
 refine cO dw aw hR KY λaw hR KY=>?_
 have WN:=Ig
 have aY:=dU WN
 obtain⟨a14,n14,c14,gW,_⟩:=aY
 subst gW
 clear KY
 refine aA ((show bC Tryz.prog 135 [str [99],.slice a14 n14 c14] fI (λr w'=>r=str C0∧ak [] fI w') from by rw[KV];exact s0 [99] (W::bW) (by rw[<-KV];omega) _ _ fI WN)) ?_
 rintro _ jE ⟨rfl,gB⟩
 have H3:=gB.size
 refine bL gB aw hR λaw hR=>?_
 refine zA<|aV<|zr<|zm<|zm<|aA (sq C0 m2 om E L2 b true jE aw) ?_
 rintro v10 eI ⟨fL,L3,aw,bI⟩
 rw[t2] at fL
 subst fL
 have hR:=hR.go bI
 have zC:∃x,x=m2.dy C0:=⟨_,rfl⟩
 obtain⟨m3,lT⟩:=zC
 rw[<-lT] at aw
 have t3:m3.types.length=r+2:=(by rw[lT,yN];omega)
 have c3:m3.code.length=c+1:=(by rw[lT,Dz];omega)
 have dk:=aw.dB
 refine zA<|aV<|zr<|zm<|zm<|aA (iI ((r+1)+1) (r+1) om om eI) ?_
 rintro _ oo ⟨rfl,iA⟩
 have Ih:=iA.size
 refine bL iA aw hR λaw hR=>?_
 have dk:=aw.dB
 refine zm<|lg bo bm rfl rfl rfl rfl λlP nq DC HJ=>bL nq aw hR λaw hR=>?_
 refine aA (k9 sL [aZ (r+1),aM] (mF de sm (by intro p hp;simp at hp;rcases hp with rfl|rfl;(·exact mf om);(·omega))) m3 om E L3 b _ lP aw (aL.dS [aZ (r+1),aM] DC (λhx=>by have:=dk _ hx;omega))) ?_
 rintro jN Dw ⟨L4,aw,bI⟩
 have hR:=hR.go bI
 clear DC
 have DD:∃x,x=m3.cM sL [aZ (r+1),aM]:=⟨_,rfl⟩
 obtain⟨m4,oW⟩:=DD
 rw[<-oW] at aw
 have t4:m4.types.length=r+2:=(by rw[oW,oR];omega)
 have c4:m4.code.length=c+2:=(by rw[oW,pG];omega)
 have dk:=aw.dB
 refine aV<|zr<|zm<|zm<|zm<|lg bo bm rfl rfl rfl rfl λxK DE KZ O2=>bL DE aw hR λaw hR=>?_
 refine aA ((show bC Tryz.prog 135 [str [116],_] xK (λr w'=>r=str P0∧ak [] xK w') from by rw[su];exact s0 [116] [C0,W] (by rw[<-su];omega) _ L4 xK (aL.dS [C0,W] KZ (λhx=>by have:=dk _ hx;omega)))) ?_
 rintro _ DF ⟨rfl,BM⟩
 have aqI:=BM.size
 refine cO BM aw hR KZ λaw hR KZ=>?_
 clear KZ
 refine aA (sq P0 m4 om E L4 b true DF aw) ?_
 rintro v10 vZ ⟨fL,L5,aw,bI⟩
 rw[t4] at fL
 subst fL
 have hR:=hR.go bI
 have Ps:∃x,x=m4.dy P0:=⟨_,rfl⟩
 obtain⟨m5,zD⟩:=Ps
 rw[<-zD] at aw
 have t5:m5.types.length=r+3:=(by rw[zD,yN];omega)
 have c5:m5.code.length=c+2:=(by rw[zD,Dz];omega)
 have dk:=aw.dB
 refine zA<|aV<|zr<|zm<|zm<|aA (iI ((r+2)+1) (r+2) om om vZ) ?_
 rintro _ rJ ⟨rfl,xL⟩
 have aqJ:=xL.size
 refine bL xL aw hR λaw hR=>?_
 have dk:=aw.dB
 refine zm<|aA (iI ((r+1)+1) (r+1) om om rJ) ?_
 rintro _ K0 ⟨rfl,Ii⟩
 have aqK:=Ii.size
 refine bL Ii aw hR λaw hR=>?_
 have dk:=aw.dB
 refine zm<|aA (iI (r+1) r om om K0) ?_
 rintro _ WO ⟨rfl,K1⟩
 have aqL:=K1.size
 refine bL K1 aw hR λaw hR=>?_
 have dk:=aw.dB
 refine qf bo bm rfl rfl rfl rfl rfl λw24 BN K2 ajV=>bL BN aw hR λaw hR=>?_
 refine aA (k9 lY [aZ (r+2),aZ (r+1),aZ r] (mF de sm (by intro p hp;simp at hp;rcases hp with rfl|rfl|rfl<;>exact mf om)) m5 om E L5 b _ w24 aw (aL.dS [aZ (r+2),aZ (r+1),aZ r] K2 (λhx=>by have:=dk _ hx;omega))) ?_
 rintro jN w25 ⟨L6,aw,bI⟩
 have hR:=hR.go bI
 clear K2
 have Pt:∃x,x=m5.cM lY [aZ (r+2),aZ (r+1),aZ r]:=⟨_,rfl⟩
 obtain⟨m6,zE⟩:=Pt
 rw[<-zE] at aw
 have t6:m6.types.length=r+3:=(by rw[zE,oR];omega)
 have c6:m6.code.length=c+3:=(by rw[zE,pG];omega)
 have dk:=aw.dB
 refine aV<|zr<|zm<|zm<|aA (sq kind m6 om E L6 b true w25 aw) ?_
 rintro v10 w26 ⟨fL,L7,aw,bI⟩
 rw[t6] at fL
 subst fL
 have hR:=hR.go bI
 have hx7:∃x,x=m6.dy kind:=⟨_,rfl⟩
 obtain⟨m7,K3⟩:=hx7
 rw[<-K3] at aw
 have t7:m7.types.length=r+4:=(by rw[K3,yN];omega)
 have c7:m7.code.length=c+3:=(by rw[K3,Dz];omega)
 have dk:=aw.dB
 refine zA<|aV<|zr<|zm<|zm<|aA (iI ((r+3)+1) (r+3) om om w26) ?_
 rintro _ w27 ⟨rfl,WQ⟩
 have aqM:=WQ.size
 refine bL WQ aw hR λaw hR=>?_
 have dk:=aw.dB
 refine zm<|aA (iI ((r+2)+1) (r+2) om om w27) ?_
 rintro _ w28 ⟨rfl,WR⟩
 have aqO:=WR.size
 refine bL WR aw hR λaw hR=>?_
 have dk:=aw.dB
 refine zm<|zm<|xh bo bm rfl rfl rfl rfl rfl rfl λw29 aj1 WT Ko=>bL aj1 aw hR λaw hR=>?_
 refine aA (k9 sM [aZ (r+3),aZ (r+2),kind,W] (mF de sm (by intro p hp;simp at hp;rcases hp with rfl|rfl|rfl|rfl;(·exact mf om);(·exact mf om);(·omega);(·omega))) m7 om E L7 b _ w29 aw (aL.dS [aZ (r+3),aZ (r+2),kind,W] WT (λhx=>by have:=dk _ hx;omega))) ?_
 rintro jN w30 ⟨L8,aw,bI⟩
 have hR:=hR.go bI
 clear WT
 have WU:∃x,x=m7.cM sM [aZ (r+3),aZ (r+2),kind,W]:=⟨_,rfl⟩
 obtain⟨m8,K4⟩:=WU
 rw[<-K4] at aw
 have t8:m8.types.length=r+4:=(by rw[K4,oR];omega)
 have c8:m8.code.length=c+4:=(by rw[K4,pG];omega)
 have dk:=aw.dB
 refine aV<|zr<|zm<|zm<|zA<|zA<|aV<|kj ?_
 subst K4 K3 zE zD oW lT lS lQ
 exact⟨_,rfl,rfl,_,aw,hR⟩
theorem WV {i:Nat} {aP:List aj} (h:i<aP.length):iH s k (aP.take (i+1)) []=iH s k (aP.take i) []++[(cJ aP i,k+i,ko s (cJ aP i))]:=by grind [iH,kM,List.take_add_one,Option.toList_some,List.length_take,Nat.min_eq_left,Nat.le_of_lt]
def qZ:Ex:=.bi [43] (.at [49]) (.at [50])
def K5:aj:=[40,43,32,49,32,50,41]
theorem aj2:nQ qZ=some qZ:=rfl
theorem Pu:qZ.ok:=by refine⟨by decide,?_,?_⟩<;>(show qD _=true;decide+kernel)
theorem WW:qZ.au.text=K5:=by decide+kernel
theorem WX:bA K5=some qZ.au:=by
 rw[<-WW]
 exact Mz (Ex.wf Pu) (by decide+kernel) (by decide+kernel)
theorem type12:bD qZ []=some .i:=by rfl
theorem aj3:(ofM qZ .i).wide=false:=by decide+kernel
theorem aj4:iB (ofM qZ .i).blocks=true:=by decide+kernel
theorem aj5 (e:Ex):Fv x e->dX x=true:=by
 induction e with
 |«at» s=>exact λh=>h.2
 |un hd a ih=>exact ih
 |bi hd a b i1 i2=>exact λh=>h.elim i1 i2
 |ite a b c i1 i2 i3=>exact λh=>h.elim i1 λh=>h.elim i2 i3
 |lt y a b i1 i2=>exact λh=>h.elim i1 λh=>i2 h.2
 |fn f y A B e ih=>exact λh=>ih h.2.2
theorem WY {bd:List aj} (h:x∈cU e bd []):dX x=true:=by
 rcases(CA x e bd []).1 h with h|h
 ·simp at h
 ·exact aj5 _ h.1
theorem W0 (x0:ByteArray) (a1:Option Addr) (n1 c1:Nat) (x2:Int) (x7:ByteArray) (a8:Option Addr) (n8 c8:Nat) (x9:Int) (Fq:ByteArray) (W1:Int) (w:World):(Instr.build 166 #[(0,.string x0),(1,.slice a1 n1 c1),(2,.int .i64 x2),(7,.agg #[.string x7,.slice a8 n8 c8]),(8,.int .i64 x9),(9,.string Fq),(10,.int .i64 W1)]).run Tryz.prog w= .ok (.agg #[.string x0,.slice a1 n1 c1,.int .i64 x2,.slice none 0 0,.slice none 0 0,.slice none 0 0,.slice none 0 0,.string x7,.slice a8 n8 c8,.int .i64 x9,.string Fq,.int .i64 W1]) w:=by kernel_rfl
def tC (X G:List Nat) (w:World) (v:Value) (xs:List aj):Prop:=bg (X++G) w v xs
theorem tC.go {X G':List Nat} {v:Value} {xs:List aj} (h:tC X G w v xs) (k:Fr G w G' w'):tC X G' w' v xs:=bg.go h (k.in X)
theorem K6 {X:List Nat} {w0:World} (h:∀x,x∈X->x<w0.heap.size) (hs:w0.heap.size<=w.heap.size) (hG:eZ G w):∀x,x∈X++G->x<w.heap.size:=λx hx=>by
 rcases mA.1 hx with h1|h1
 ·exact lL (h x h1) hs
 ·exact hG x h1
theorem ei.more {L1:List Nat} {w2:World} (h:ei E L w L1 w1) {x:Nat} (k:ak G w1 w2) (hG:∀y,y∈G->w1.heap.size<=y) (hx:w1.heap.size<=x) (hE:∀y,y∈E->y<w1.heap.size):ei E L w (x::L1) w2:=by
 have k2:ak [] w1 w2:=(ak.refl [] w1).since k λy hy=>.inr (hG y hy)
 have h1:=h.ext k2
 exact⟨⟨h1.fr.aG,λy hy=>by
  rcases mC.1 hy with rfl|hy
  ·exact .inr (Nat.le_trans h.fr.aG.size hx)
  ·exact h.fr.mem y hy⟩,h1.out⟩
theorem ei.sub {L1 L2:List Nat} (h:ei E L w L1 w1) (hs:∀x,x∈L2->x∈L1):ei E L w L2 w1:=⟨⟨h.fr.aG,λx hx=>h.fr.mem x (hs x hx)⟩,h.out⟩
def uI (aM:aj) (W:aj) (nd:List aj) (FR:List aj) (rest:Ex) (bc:aj) (sc:cP):Tk:=⟨aM,W::nd,FR.length+1,[],sc,rest,2+FR.length,bc,2⟩
theorem aj6 (m:Mk) (s:cP) (ton:Nat) (bc name:aj) (kind:Ty) (rest:Ex) {FR:List aj} {P:Pk} (hF:FR=cU rest [name] []) (hP:P=pj m.lI s ton FR bc m.aM (dJ (bz kind)) [bz kind]):
  tZ m s ton bc name kind rest=({P.m with bP:=m.bP++[uI m.aM P.w [bz kind] FR rest bc (iH s 2 FR []++[(name,1,kind)])]},P.r,dJ (bz kind)):=by
 subst hP;subst hF;rfl
theorem W2 {ton:Nat} {aP:List aj} {on aM kind:aj} {bW:List aj} {P:Pk} (hP:P=pj m.lI s ton aP on aM kind bW):P.m.bP=m.bP∧P.r=m.types.length+3∧P.w=cY [116] (l7 s aP on):=by
 subst hP;exact⟨rfl,rfl,rfl⟩
theorem W3 (t:Tk) (m:Mk) (name:aj) (kind:Ty) (rest:Ex) (bj:rest.ok) (rE:rest.n<=1000) (s8:∀x,x∈cU rest [name] []->(look (eP t.sc) x).isSome=true) (mZ:(cU rest [name] []).length<=40) (hs:j9 t.sc) (nV:t.sc.length<=9000) (hk:kind.n<=16) (rC:t.on<1000) (kK:t.bc.length<=272) (ht:m.types.length+4<1000) (hc:m.code.length<=8000) (xM:m.count<1000) (fP:m.bP.length<100000) 
  (E L:List Nat) (b bt:Nat) (v:Value) (w:World) (h:dN t8 E L w b true m) (hT:ig L w 166 bt t) (er:bt∈E) (hv:bh L w v rest.au):
  bC Tryz.prog 223 [.pointer (some ⟨b,0,none⟩),.pointer (some ⟨bt,0,none⟩),str name,str kind.text,v] w λr w'=>∃L',dN t8 E L' w' b true (tZ m t.sc t.on t.bc name kind rest).1∧ig L' w' 166 bt {t with on:=(tZ m t.sc t.on t.bc name kind rest).2.1,bc:=(tZ m t.sc t.on t.bc name kind rest).2.2}∧Fr L w L' w'∧∃G,ak G w w'∧∀z,z∈G->z∈E->z=bt:=by
 obtain⟨ar,nr,cr,rfl,qv,aQ⟩:=cS hv
 have lU:=h.dB
 obtain⟨FR,zF⟩:∃x,x=cU rest [name] []:=⟨_,rfl⟩
 obtain⟨P,hP⟩:∃x,x=pj m.lI t.sc t.on FR t.bc m.aM (dJ (bz kind)) [bz kind]:=⟨_,rfl⟩
 rw[aj6 m t.sc t.on t.bc name kind rest zF hP]
 obtain⟨Ij,BO,hPw⟩:=W2 hP
 rw[<-zF] at mZ s8
 have gk:∀x,x∈FR->dX x=true∧(look (eP t.sc) x).isSome=true:=λx hx=>⟨WY (by rw[<-zF];exact hx),s8 x hx⟩
 have gD:=qg hk
 have pN:=uj hk
 have BP:=Br xM
 have hK:=ak.refl [] w
 have nY:b∉E:=h.mem.2.2.1
 have Fs:b∈L:=h.mem.1 b sm
 refine cj [] 109 Tryz.func223 rfl ac9 rfl rfl ?_
 refine zr<|ey rfl λw1 aI dj di=>?_
 have hK:=hK.ext aI
 refine W ?_
 refine fo bo bm rfl rfl λw2 az tt dK=>bL az hK dj λhK dj=>?_
 refine gA bo bm λw3 aH vL fS=>cO aH hK dj tt λhK dj tt=>?_
 refine aA (Ki rest.n rest (lR _) rE bj [name] [] so so _ _ _ (some w2.heap.size) w3 ((hv.fresh (L':=[w2.heap.size]) (λx hx=>.inr (by simp at hx;omega))).ext hK) (aL.dS [name] tt (λhx=>by simp at hx;omega)) vL.lh) ?_
 rintro K7 w4 ⟨g22,Ik,BQ⟩
 rw[<-zF] at Ik
 have jT:ak [] w w4:=(hK.since BQ.aG (λx hx=>.inr (by simp at hx;omega)))
 have Pv:∀x,x∈g22.toList->w.heap.size<=x:=(λx hx=>by rcases BQ.mem x hx with h9|h9;(·simp at h9;omega);(·omega))
 have iu:bg L w4 K7 FR:=Ik.rep (λx hx Pw=>by have:=Pv x (by simp[hx]);have:=lU x Pw;omega)
 have aY:=dU iu
 obtain⟨Px,n22,Py,Pz,PA⟩:=aY
 subst Pz
 subst PA
 have dj:dW L w4 w.heap.size [str rest.au.av,.slice ar nr cr].toArray 74:=⟨dj.aG BQ.aG so,λhx=>by have:=lU _ hx;omega⟩
 have aw:=h.ext jT
 have hR:=(ei.refl E L w).ext jT
 clear tt vL
 refine W ?_
 refine aA (Pe m om E L b true w4 aw) ?_
 rintro v24 w5 ⟨⟨PB,aw⟩,BN⟩
 subst PB
 have hR:=hR.aD BN Fs nY
 have iu:=ck.aD iu BN (by simpa using Fs)
 have dj:=dj.aD BN (by simpa using Fs)
 refine W ?_
 refine aA (vV kind om w5) ?_
 rintro _ w6 ⟨rfl,bB⟩
 have ku:=bB.size
 refine gH bB dj aw hR iu λdj aw hR iu=>?_
 refine aA (H0 (bz kind) om w6) ?_
 rintro _ w7 ⟨rfl,bJ⟩
 have jd:=bJ.size
 refine gH bJ dj aw hR iu λdj aw hR iu=>?_
 have dk:=aw.dB
 refine W ?_
 refine aA (vV kind om w7) ?_
 rintro _ w8 ⟨rfl,aU⟩
 have oK:=aU.size
 refine gH aU dj aw hR iu λdj aw hR iu=>?_
 have dk:=aw.dB
 refine fo bo bm rfl rfl λw9 aC BR dv=>gH aC dj aw hR iu λdj aw hR iu=>?_
 refine W ?_
 have uH:bg L w9 _ [bz kind]:=aL.dS [bz kind] BR (λhx=>by have:=dk _ hx;omega)
 have aY:=hR.tk hT er
 obtain⟨u1,u3,u4,u5,u6,u8,zw,hC⟩:=aY
 have dx:aL w9 bt [str t.aM,u1,.int .i64 (t.loads:Int),u3,u4,u5,u6,str t.expr.au.av,u8,.int .i64 (t.on:Int),str t.bc,.int .i64 (t.next:Int)].toArray 166:=zw
 refine W ?_
 refine aA (WG t m.lI FR t.bc m.aM (dJ (bz kind)) [bz kind] gk hs nV mZ rC kK om om sm (by intro x hx;simp at hx;subst hx;omega) ht hc E L b bt _ _ w9 aw (hR.tk hT er) er iu uH) ?_
 rintro v42 cB ⟨yX,L1,aw,bI⟩
 rw[<-hP] at yX aw
 subst yX
 have hR:=hR.go bI;have iu:=iu.go bI.fr;have uH:=uH.go bI.fr;have dj:=dj.go bI.fr
 have aka:dW [] cB w.heap.size [str rest.au.av,.slice ar nr cr].toArray 74:=⟨dj.iy,sm⟩
 have zz:tC L1 [] cB _ [bz kind]:=(by unfold tC;rw[List.append_nil];exact uH)
 have aY:=hR.tk hT er
 obtain⟨u1,u3,u4,u5,u6,u8,zw,hC⟩:=aY
 have dx:dW [] cB bt [str t.aM,u1,.int .i64 (t.loads:Int),u3,u4,u5,u6,str t.expr.au.av,u8,.int .i64 (t.on:Int),str t.bc,.int .i64 (t.next:Int)].toArray 166:=⟨zw,sm⟩
 have uJ:=aw.dB
 have aqQ:=dj
 have dj:=aka
 have Il:=iu
 have mc:=aw
 have uF:=hR
 clear BR
 refine W ?_
 apply jQ du ([]) 18 (rA 45 17++[16]) (rA 45 17++[16]) [[],[],[1],[],[2,3],[],[5],[6],[],[],[9],[10],[],[12],[13],[14],[0,4,7,8,11,15],[]] [Ie.v _,Ie.v _,Ie.p (fun(G:List Nat) (v:Value) (ww:World)=>tC L1 G ww v [P.w]),Ie.v _,Ie.p (fun(G:List Nat) (v:Value) (ww:World)=>tC L1 G ww v ([P.w]++[bz kind])),Ie.v _,Ie.v _,Ie.v _,Ie.v _,Ie.v _,Ie.v _,Ie.v _,Ie.v _,Ie.v _,Ie.v _,Ie.v _,Ie.p (fun(G:List Nat) (v:Value) (ww:World)=>∃a4 n4 c4,v= .agg [str m.aM,.slice a4 n4 c4,.int .i64 ((FR.length+1:Nat):Int),.slice none 0 0,.slice none 0 0,.slice none 0 0,.slice none 0 0,str rest.au.av,.slice ar nr cr,.int .i64 ((2+FR.length:Nat):Int),str t.bc,.int .i64 2].toArray∧tC L1 G ww (.slice a4 n4 c4) ([P.w]++[bz kind])),Ie.e 0] [17] [fun(G:List Nat) (vs:List Value) (ww:World)=>G=[]∧ak [] cB ww,fun(G:List Nat) (vs:List Value) (ww:World)=>∃bb,vs.getD 0 undef= .pointer (some ⟨bb,0,none⟩)∧G=[bb]∧cB.heap.size<=bb∧aL ww bb [str [],.slice none 0 0,.int .i64 0,.slice none 0 0,.slice none 0 0,.slice none 0 0,.slice none 0 0,str [],.slice none 0 0,.int .i64 0,str [],.int .i64 0].toArray 166∧ak [] cB ww] de rfl ((λx hx=>by simp at hx)) (by exact⟨λG v w G' w' h k=>h.go k,λG v w G' w' h k=>h.go k,λG v w G' w' ⟨a4,n4,c4,e,h⟩ k=>⟨a4,n4,c4,e,h.go k⟩,trivial⟩) (by exact⟨λG vs w w' ⟨h1,h2⟩ k=>⟨h1,h2.ext k⟩,λG vs w w' ⟨bb,h1,h2,h3,h4,h5⟩ k=>⟨bb,h1,h2,h3,h4.ext k,h5.ext k⟩,trivial⟩) (⟨rfl,ak.refl _ _⟩)
 refine FA ?_
 refine vf (λx eC PC aX Ft Im=>?_) ?_
 refine fo bo bm rfl rfl λfI dw akb O6=>?_
 exact ff dw ((aL.dS [P.w] akb (λhx=>by have:=K6 uJ Ft.aG.size Im _ hx;omega)))
 refine FA ?_
 refine vf (λx eC PC aX Ft Im=>?_) ?_
 have zz:=zz.go Ft
 intro v2 d2
 have eN:=K6 uJ Ft.aG.size Im
 refine aA (uo [P.w] [bz kind] sm _ _ _ eC d2 zz eN) ?_
 rintro v12 fI ⟨Ig,dw⟩
 have BC:=dw.size
 have eu:=Ig
 exact ff dw eu
 refine FA ?_
 refine vf (λx eC PC aX Ft Im=>?_) ?_
 intro v4 d4
 have aY:=dU d4
 obtain⟨a4,n4,c4,e4,_⟩:=aY
 subst e4
 refine iT (W0 _ _ _ _ _ _ _ _ _ _ _ _ _) rfl rfl ?_
 exact ff (ak.refl _ _) (⟨a4,n4,c4,rfl,d4⟩)
 refine ve 0 (λx eC PC aX Ft Im hJ hlen=>?_) ?_
 have ba:=jv hlen
 subst ba
 obtain⟨bX,cg⟩:=hJ
 subst bX
 refine da mS rfl rfl rfl λfI dw xg HJ=>?_
 exact fe ([_]) (⟨dw.mono sm,λx hx=>by simp at hx;right;omega⟩) ((λx hx=>by simp at hx;omega)) (⟨_,rfl,rfl,cg.size,xg,cg.trans dw⟩)
 exact trivial
 intro x oV G50 aX akc aqS hJ hlen
 have aY:=jw hlen
 obtain⟨q0,ba⟩:=aY
 subst ba
 intro v2 d2
 intro v4 d4
 intro Df d16
 have dx:=dx.go akc
 change OW _ _ _ _ _ (aS (aR _ x _) (zZ 45 [_,_,_,_,_,_,_,_,_,_,_,_,_,_,_,_,_]++[(16,_)])) _
 obtain⟨bk,sk,bX,DG,fN,cg⟩:=hJ
 have vS:q0=_:=sk
 subst vS
 subst bX
 obtain⟨a4,n4,c4,BS,PD⟩:=d16
 subst BS
 refine cu mS rfl rfl rfl fN rfl λlM ln fN dv=>?_
 have ir:=fN.lt
 have xN:=cg.since ln (λx hx=>.inr (by simp at hx;omega))
 have aw:=mc.tx xN sm DG ir
 have hR:=uF.more xN sm DG (λy hy=>uJ y (mc.sub hy))
 have PE:∀x,x∈bk::L1->x∈L1++[bk]:=(λx hx=>by simp at hx⊢;rcases hx with h|h;(·exact .inr h);(·exact .inl h))
 have wa:bk∈bk::L1:=sm
 have Fu:bk∉E:=(λhx=>by have:=uJ bk (mc.sub hx);omega)
 have iu:=(Il.fresh (L':=bk::L1) (λx hx=>by rcases mC.1 hx with rfl|hx;(·exact .inr DG);(·exact .inl hx))).ext xN
 have BE:=cX.go aQ hR.fr
 have fY:ig (bk::L1) lM 166 bk (uI m.aM P.w [bz kind] FR rest t.bc (iH t.sc 2 (FR.take 0) [])):=⟨_,_,_,_,_,_,fN,⟨(ck.aD PD ln sm).fresh (λx hx=>.inl (PE x hx)),.nil _ _ _,.nil _ _ _,.nil _ _ _,.nil _ _ _,BE⟩⟩
 refine W ?_
 refine eO (λi:Nat=>[(0,.pointer (some ⟨b,0,none⟩)),(1,.pointer (some ⟨bt,0,none⟩)),(2,str name),(3,str kind.text),(10,.slice Px FR.length Py),(12,str (dJ (bz kind))),(14,.int .i64 (P.r:Int)),(16,.pointer (some ⟨bk,0,none⟩)),(17,.int .i64 (i:Int))]) (λi w'=>ak [bk] lM w'∧i<=FR.length∧ig (bk::L1) w' 166 bk (uI m.aM P.w [bz kind] FR rest t.bc (iH t.sc 2 (FR.take i) []))) (λi=>FR.length-i) (0) (⟨rfl,rfl,rfl,rfl,rfl,rfl,rfl,rfl,rfl⟩) (⟨ak.refl _ _,Nat.zero_le _,fY⟩) λgg BG K8 hI=>?_
 obtain⟨dA,hi,fY⟩:=hI
 have aw:=aw.aG dA sm
 have hR:=hR.aD dA wa Fu
 have iu:=ck.aD iu dA sm
 refine W ?_
 refine zc rfl (λh1=>?_) (λh1=>?_)
 have lp:gg<FR.length:=(by simp at h1;omega)
 have DB:=List.mem_of_getElem? (kM lp)
 have aY:=hR.tk hT er
 obtain⟨u1,u3,u4,u5,u6,u8,dx,hC⟩:=aY
 have DH:=hC.aP
 have DI:=hC.types
 have aY:=oq iu lp
 obtain⟨b2,kY,e2,bZ⟩:=aY
 cases e2
 have OX:=aw.dB
 refine WZ ?_
 apply dV du 19 [68,69,70,71,72,73,74,75,76,77,78,79,80,81,82,83,84,85,86] [[],[],[0,1],[2],[],[4],[],[6],[7],[8],[],[10],[11],[12],[],[],[14,15],[16],[9,13,17]] (it [_,_,_,_,_,_,_,_,_,_,_,_,_,_,_,_,_,_,_]) de rfl
 intro wd aB
 refine VA ?_
 refine vk aB (λx nI Fg=>?_) ?_
 refine bL Fg DH DI λDH DI=>?_
 refine aA (HA (jP t.sc) (po t.sc) (by simp[jP,po]) (by simp[jP];omega) (cJ FR gg) _ _ _ _ nI DH DI) ?_
 rintro v54 wb ⟨akd,xO⟩
 have aqU:=xO.size
 have eu:=akd
 rw[Pg (gk _ DB).2] at eu
 subst eu
 exact pk xO
 exact trivial
 intro x Dh zo
 refine cO zo aw fY dA λaw fY dA=>?_
 change OW _ _ _ _ _ (aS (aR _ x _) (zZ 68 [_,_,_,_,_,_,_,_,_,_,_,_,_,_,_,_,_,_,_])) _
 refine aA (Fm (uI m.aM P.w [bz kind] FR rest t.bc (iH t.sc 2 (FR.take gg) [])) (cJ FR gg) (2+gg) (ko t.sc (cJ FR gg)) (by show(iH t.sc 2 (FR.take gg) []).length<100000;rw[yL,List.length_take];omega) (bk::L1) bk Dh wa aw.dB fY) ?_
 rintro v87 w93 ⟨fY,oX⟩
 have akf:=oX.size
 refine W ?_
 exact⟨gg+1,⟨rfl,rfl,rfl,rfl,rfl,rfl,rfl,rfl,rfl⟩,⟨dA.trans oX,om,by rw[WV lp];exact fY⟩,om⟩
 have Bn:gg=FR.length:=(by simp at h1;omega)
 subst Bn
 rw[List.take_length] at fY
 refine W ?_
 refine aA (Fm (uI m.aM P.w [bz kind] FR rest t.bc (iH t.sc 2 FR [])) name 1 kind (by show(iH t.sc 2 FR []).length<100000;rw[yL];omega) (bk::L1) bk BG wa aw.dB fY) ?_
 rintro v90 nI ⟨fY,uy⟩
 have aw:=aw.aG uy sm
 have hR:=hR.aD uy wa Fu
 have fY:ig (bk::L1) nI 166 bk (uI m.aM P.w [bz kind] FR rest t.bc (iH t.sc 2 FR []++[(name,1,kind)])):=fY
 have KX:P.m.bP.length<100000:=(by rw[Ij];exact fP)
 have aY:=aw.open
 obtain⟨vb,vt,vc,vy,gb,gt,gc,gy,xF,hS⟩:=aY
 have aY:=hS.apart
 obtain⟨zu,nJ,vW,mE,vX,uC⟩:=aY
 obtain⟨u1,u3,u4,u5,u6,u8,Io,tE⟩:=fY
 have bu:dW gt.toList nI b [vb,vt,.int .i64 ((P.m).count:Int),.bool (P.m).wide,vc,vy].toArray 164:=⟨xF,λhx=>(mE b hx).2.1 rfl⟩
 have fN:dW gt.toList nI bk (p4 (uI m.aM P.w [bz kind] FR rest t.bc (iH t.sc 2 FR []++[(name,1,kind)])) u1 u3 u4 u5 u6 u8).toArray 166:=⟨Io,λhx=>(mE bk hx).1 sm⟩
 have qj:eZ gt.toList nI:=(λx hx=>hS.cN x (hS.mem.2 (by simp[hx])))
 have BT:∀x,x∈gt.toList->x∈(bk::L1):=(λx hx=>hS.mem.2 (by simp[hx]))
 refine W ?_
 apply jQ du gt.toList 8 (rA 91 8) (rA 91 8) [[],[],[1],[2],[3],[],[5],[4,6]] [Ie.v _,Ie.v _,Ie.v _,Ie.v _,Ie.v _,Ie.v _,Ie.p (fun(G:List Nat) (v:Value) (ww:World)=>∃bb,v= .slice (some ⟨bb,0,none⟩) 1 1∧dW G ww bb (p4 (uI m.aM P.w [bz kind] FR rest t.bc (iH t.sc 2 FR []++[(name,1,kind)])) u1 u3 u4 u5 u6 u8).toArray 166),Ie.e 0] [7] [fun(G:List Nat) (vs:List Value) (ww:World)=>G=gt.toList∧ak [] nI ww,fun(G:List Nat) (vs:List Value) (ww:World)=>∃g2,dO (gt.toList++(g2.toList++(bk::L1))) ww 166 12 (vs.getD 0 undef) g2 (((P.m).bP++[(uI m.aM P.w [bz kind] FR rest t.bc (iH t.sc 2 FR []++[(name,1,kind)]))]).map Tk.enc)∧ak gt.toList nI ww∧(g2=gt∨∃x,g2=some x∧nI.heap.size<=x)] de rfl qj (by exact⟨λG v w G' w' ⟨bb,e,h⟩ k=>⟨bb,e,h.go k⟩,trivial⟩) (by exact⟨λG vs w w' ⟨h1,h2⟩ k=>⟨h1,h2.ext k⟩,λG vs w w' ⟨g2,h1,h2,h3⟩ k=>⟨g2,h1.ext k,h2.ext k,h3⟩,trivial⟩) (⟨rfl,ak.refl _ _⟩)
 refine FA ?_
 refine vf (λx wb G54 aX aki W4=>?_) ?_
 refine rz [_] [p4 (uI m.aM P.w [bz kind] FR rest t.bc (iH t.sc 2 FR []++[(name,1,kind)])) u1 u3 u4 u5 u6 u8] Az mS rfl rfl rfl rfl rfl rfl rfl rfl rfl λK9 BU Ip W5=>?_
 exact ff BU (⟨_,rfl,Ip.o W4⟩)
 refine ve 0 (λx wb G54 aX aki W4 hJ hlen=>?_) ?_
 have ba:=jv hlen
 subst ba
 intro v6 d6
 obtain⟨bb,e6,fX⟩:=d6
 subst e6
 obtain⟨bX,cg⟩:=hJ
 subst bX
 have yK:=(hS.ta.any cg).sub (L':=gt.toList++(bk::L1)) (λx hx=>.inl (by rcases mA.1 hx with h|h;(·exact BT x h);(·exact h)))
 have BV:=tE.ext cg
 refine CZ (L:=(bk::L1)) (row:=Tk.enc (uI m.aM P.w [bz kind] FR rest t.bc (iH t.sc 2 FR []++[(name,1,kind)]))) Az mS rfl rfl rfl rfl rfl rfl yK rfl fX.all (λu hu=>List.all_eq_true.1 BV.one u hu) (BV.go ((Fr.refl _ _).to (L2:=gt.toList++(bk::L1)) (λx hx=>.inl (by rcases mA.1 hx with h|h;(·exact BT x h);(·exact h))))).yh (by rw[List.length_map];omega) λv9 g9 K9 dm uG fx=>?_
 exact fe g9.toList (⟨uG.aG,λx hx=>by rcases fx with h|h;(·rw[h] at hx;exact .inl hx);(·rw[h] at hx;simp at hx;right;omega)⟩) ((λx hx=>dm.lt x hx)) (⟨g9,by rw[List.map_append];exact dm,cg.any.trans uG.aG,fx.imp id (λh=>⟨_,h,cg.size⟩)⟩)
 exact trivial
 intro x w93 G93 aX akj aqW hJ hlen
 have aY:=jw hlen
 obtain⟨q0,ba⟩:=aY
 subst ba
 intro v6 d6
 have bu:=bu.go akj
 change OW _ _ _ _ _ (aS (aR _ x _) (zZ 91 [_,_,_,_,_,_,_,_])) _
 obtain⟨g2,dm,eJ,jc⟩:=hJ
 have aY:=hS.Gq dm eJ jc
 obtain⟨L3,fp,jD⟩:=aY
 have aY:=dm.len
 obtain⟨a3,c3,e3⟩:=aY
 have e4:q0=_:=e3
 subst e4
 have bu:aL _ b [vb,vt,.int .i64 ((P.m).count:Int),.bool (P.m).wide,vc,vy].toArray 164:=xF.aG eJ (λhx=>(mE b hx).2.1 rfl)
 refine W ?_
 refine gF (o:=1) Jp rfl rfl rfl bu rfl λw94 W6 bu dv=>?_
 have fp:=fp.aG W6 sm
 have aw:dN t8 (bk::E) L3 w94 b true {P.m with bP:=(P.m).bP++[(uI m.aM P.w [bz kind] FR rest t.bc (iH t.sc 2 FR []++[(name,1,kind)]))]}:=⟨_,_,_,_,_,_,_,_,bu,fp⟩
 have hR:=(hR.add jD eJ (λx hx wc=>(mE x hx).1 (by simp[wc]))).aD W6 (fp.mem.2 (.inr (.inl rfl))) (λwc=>nJ (by simp[wc]))
 rw[Ij] at aw
 have aY:=aw.drop
 obtain⟨L4,PF,aw⟩:=aY
 have hR:=hR.sub (L2:=L4) (λx hx=>by rw[PF];simp[hx])
 have aY:=hR.tk hT er
 obtain⟨u1,u3,u4,u5,u6,u8,dx,hC⟩:=aY
 have zG:=aw.sub er
 refine W ?_
 refine gF (o:=9) sJ rfl rfl rfl dx rfl λFw BW dx dv=>?_
 have hC:=hC.aD BW (by simpa using zG)
 have aw:=aw.aG BW (by simpa using er)
 have hF:=hR.fr.aD BW (by simpa using zG)
 have uq:=hR.out
 obtain⟨G0,gq,H5⟩:=uq
 have gq:ak (G0++[bt]) w Fw:=(gq.mono (λz hz=>List.mem_append_left _ hz)).trans (BW.mono (λz hz=>mR _ hz))
 refine W ?_
 refine gF (o:=10) bm rfl rfl rfl dx rfl λIq Fx dx dv=>?_
 have hC:=hC.aD Fx (by simpa using zG)
 have aw:=aw.aG Fx (by simpa using er)
 have hF:=hF.aD Fx (by simpa using zG)
 have gq:=gq.trans (Fx.mono (λz hz=>mR _ hz))
 refine W ?_
 exact⟨_,rfl,L4,aw,⟨u1,u3,u4,u5,u6,u8,dx,⟨hC.regs,hC.self,hC.aP,hC.at_,hC.types,hC.ai⟩⟩,hF,_,gq,λz hz sw=>by rcases mA.1 hz with h9|h9;(·exact absurd sw (H5 z h9));(·simpa using h9)⟩
end Go.Proofs.YthbhobaiopccaaaGreatDoor
