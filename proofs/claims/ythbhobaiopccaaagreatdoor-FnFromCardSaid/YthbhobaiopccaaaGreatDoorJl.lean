/- Lemmas for the law FnFrom, no statement of their own: no conditions. -/
import Derived.Test.YthbhobaiopccaaaGreatDoorJk
import Derived.JoinedOf
import Derived.Lib.OthersKept
import Derived.SevenTiedAt
import Derived.Test.YthbhobaiopccaaaGreatDoorRows
set_option maxHeartbeats 4000000
set_option linter.unusedVariables false
set_option linter.unusedSimpArgs false
namespace Go.Proofs.YthbhobaiopccaaaGreatDoor
open Go
variable {w w':World} {B b:Nat} {l:aj} {ts:List aq} {v:Value} {bs:List Bk}
theorem aoG {s:aj} (h:12000<s.length):bA s=none:=by unfold bA;rw[iP h]
def aoH (L:List Nat) (s:aj) (v:Value) (w:World):Prop:=∃t tv,v= .tuple #[tv,.bool (bA s).isSome]∧bh L w tv t∧∀t',bA s=some t'->t=t'
theorem QO (s:aj) (L:List Nat) (w:World) (hL:∀x,x∈L->x<w.heap.size):bC Tryz.prog 38 [str s] w λr w'=>aoH L s r w'∧ak [] w w':=by
 have hK:=ak.refl [] w
 refine j1 [.cell 2 66,.tmp 3] 23 Tryz.func38 rfl ads rfl rfl rfl ?_
 refine zr<|da dD rfl rfl rfl λw1 aI aO di=>?_
 have hK:=hK.grow;have hK:=hK.ext aI
 refine W ?_
 refine zc rfl (λh1=>?_) (λh1=>?_)
 have hp:=aoG (s:=s) om
 refine zr<|iT (MR _) rfl rfl<|cu dD rfl rfl rfl aO rfl λw2 az aO dK=>?_
 have hK:=hK.aD az sx
 refine W ?_
 exact⟨[_,_],⟨fB oz dD rfl aO rfl,rfl⟩,⟨.mk [] [],_,by rw[hp];rfl,km nM,by rw[hp];intro t' h;cases h⟩,hK⟩
 have hle:s.length<=12000:=by omega
 have hL1:∀x,x∈w.heap.size::L->x<w1.heap.size:=by intro x hx;rcases mC.1 hx with rfl|hx;omega;have:=hL x hx;omega
 refine gX<|zr<|zm<|aA (aoE 60 s (w.heap.size::L) w1 om hle hL1) ?_
 rintro v2 w2 ⟨gP,az⟩
 have dz:=az.size
 refine bL az hK aO λhK aO=>?_
 obtain⟨t,tv,r,ok,rfl,ht,hm⟩:=gP
 obtain⟨pa,pn,pc,rfl,dZ,aQ⟩:=cS ht
 subst dZ
 refine W ?_
 refine da dD rfl rfl rfl λw3 aH aF fS=>?_
 have hK:=hK.grow;have hK:=hK.ext aH;have aO:=aO.grow;have aO:=aO.ext aH;have ht:=ht.grow;have ht:=ht.ext aH
 refine cu dD rfl rfl rfl aF rfl λw4 aN aF ga=>?_
 have hK:=hK.aD aN sx;have aO:=aO.aD aN sx;have ht:=ht.aD aN sx
 refine W ?_
 apply oB 3 19 22 rfl oQ
 intro _
 exact oQ
 intro xx
 refine cu dD rfl rfl rfl aO rfl λw5 aJ aO iq=>?_
 have hK:=hK.aD aJ sx;have ht:=ht.aD aJ sx
 refine W ?_
 obtain⟨qK,qM⟩:=aa9 hle hm
 exact⟨[_,_],⟨fB oz dD rfl aO rfl,rfl⟩,⟨t,_,by rw[<-qK];rfl,ht.fV (λx hx=>by simp[hx]),qM⟩,hK⟩
def aoJ (L:List Nat) (s:aj) (v:Value) (w:World):Prop:=∃t tv,v= .tuple #[tv,.bool (sH s)]∧bh L w tv t∧∀t',bA s=some t'->t=t'
theorem aoK (s:aj) (L:List Nat) (w:World) (hL:∀x,x∈L->x<w.heap.size):bC Tryz.prog 97 [str s] w λr w'=>aoJ L s r w'∧ak [] w w':=by
 have hK:=ak.refl [] w
 refine j1 [.cell 2 66,.tmp 3] 17 Tryz.func97 rfl ad5 rfl rfl rfl ?_
 refine zr<|da dD rfl rfl rfl λw1 aI aO di=>?_
 have hK:=hK.grow;have hK:=hK.ext aI
 refine W ?_
 refine aA (QO s (w.heap.size::L) w1 (by intro x hx;rcases mC.1 hx with rfl|hx;omega;have:=hL x hx;omega)) ?_
 rintro v2 w2 ⟨gP,az⟩
 have dz:=az.size
 refine bL az hK aO λhK aO=>?_
 obtain⟨t,tv,rfl,ht,hp⟩:=gP
 obtain⟨pa,pn,pc,rfl,dZ,aQ⟩:=cS ht
 subst dZ
 have cF:=λh=>Cv hp h
 refine W ?_
 refine da dD rfl rfl rfl λw3 aH aF fS=>?_
 have hK:=hK.grow;have hK:=hK.ext aH;have aO:=aO.grow;have aO:=aO.ext aH;have ht:=ht.grow;have ht:=ht.ext aH
 refine cu dD rfl rfl rfl aF rfl λw4 aN aF ga=>?_
 have hK:=hK.aD aN sx;have aO:=aO.aD aN sx;have ht:=ht.aD aN sx
 refine W ?_
 refine sE du (cD w.heap.size ([str t.av,.slice pa t.ai.length pc]) 66) 8 (rA 11 6++[100006,3]) (rA 11 6++[100006,3]) [[],[],[1],[2],[2,3],[2,4],[0],[5]] [λv _=>v=(.agg #[str t.av,.slice pa t.ai.length pc]),λv _=>v=(.bool ((bA s).isSome)),λv _=>v=(.bool ((bA s).isSome)),λv _=>((bA s).isSome)=true->v=(.agg #[str t.av,.slice pa t.ai.length pc]),λv _=>((bA s).isSome)=true->v=(.bool (fQ false t)),λv _=>v=(.bool ((bA s).isSome&&fQ false t)),λ_ ww=>aL ww w.heap.size ([str t.av,.slice pa t.ai.length pc]).toArray 66,λv _=>v=(.bool ((bA s).isSome&&fQ false t))] de (cR (cR (cR (Cf (Cf (cR (Ea (cR trivial)))))))) (λwd aB=>?_) ?_
 refine bV ?_ ?_
 intro x vs w5 e aJ hd he
 replace aJ:=(cD w.heap.size ([str t.av,.slice pa t.ai.length pc]) 66).trans aB aJ
 have aF:=aF.aD aJ.1 sx
 replace he:e=aS (aR _ x _) []:=he
 subst he
 refine W ?_
 exact dn ((cD w.heap.size ([str t.av,.slice pa t.ai.length pc]) 66).refl _) rfl
 refine bV ?_ ?_
 intro x vs w5 e aJ hd he
 replace aJ:=(cD w.heap.size ([str t.av,.slice pa t.ai.length pc]) 66).trans aB aJ
 replace he:e=aS (aR _ x _) []:=he
 subst he
 refine W ?_
 exact dn ((cD w.heap.size ([str t.av,.slice pa t.ai.length pc]) 66).refl _) rfl
 refine bV ?_ ?_
 intro x vs w5 e aJ hd he
 have d1:vs 1=(.bool ((bA s).isSome)):=hd
 replace aJ:=(cD w.heap.size ([str t.av,.slice pa t.ai.length pc]) 66).trans aB aJ
 replace he:e=aS (aR _ x _) [(12,vs 1)]:=he
 rw[d1] at he
 subst he
 refine W ?_
 exact dn ((cD w.heap.size ([str t.av,.slice pa t.ai.length pc]) 66).refl _) rfl
 refine bV ?_ ?_
 intro x vs w5 e aJ hd he
 have d2:vs 2=(.bool ((bA s).isSome)):=hd
 replace aJ:=(cD w.heap.size ([str t.av,.slice pa t.ai.length pc]) 66).trans aB aJ
 have aF:=aF.aD aJ.1 sx
 rcases bE ((bA s).isSome) with hg|hg
 rw[hg] at d2
 replace he:e=aS (aR _ x _) [(13,vs 2)]:=he
 rw[d2] at he
 subst he
 refine W ?_
 exact dn ((cD w.heap.size ([str t.av,.slice pa t.ai.length pc]) 66).refl _) (show((bA s).isSome)=true->_=((.agg #[str t.av,.slice pa t.ai.length pc]):Value) from λ_=>rfl)
 rw[hg] at d2
 replace he:e=aS (aR _ x _) [(13,vs 2)]:=he
 rw[d2] at he
 subst he
 refine W ?_
 exact dn ((cD w.heap.size ([str t.av,.slice pa t.ai.length pc]) 66).refl _) (show((bA s).isSome)=true->_=(_:Value) from λhh=>nomatch hg.symm.trans hh)
 refine bV ?_ ?_
 intro x vs w5 e aJ hd he
 have aY:(vs 2=(.bool ((bA s).isSome)))∧(((bA s).isSome)=true->vs 3=(.agg #[str t.av,.slice pa t.ai.length pc])):=hd
 obtain⟨d2,d3⟩:=aY
 replace aJ:=(cD w.heap.size ([str t.av,.slice pa t.ai.length pc]) 66).trans aB aJ
 have ht:=ht.aD aJ.1 sx
 rcases bE ((bA s).isSome) with hg|hg
 rw[hg] at d2
 replace d3:=d3 hg
 replace he:e=aS (aR _ x _) [(13,vs 2),(14,vs 3)]:=he
 rw[d2,d3] at he
 subst he
 refine aA (QK t.size t (lR _) (by have:=(cF hg).2;omega) (cF hg).1 false _ _ w5 ht) ?_
 rintro _ w6 ⟨rfl,bB⟩
 have ku:=bB.size
 refine W ?_
 exact dn ((cD w.heap.size ([str t.av,.slice pa t.ai.length pc]) 66).of bB) (show((bA s).isSome)=true->_=((.bool (fQ false t)):Value) from λ_=>rfl)
 rw[hg] at d2
 replace he:e=aS (aR _ x _) [(13,vs 2),(14,vs 3)]:=he
 rw[d2] at he
 subst he
 refine W ?_
 exact dn ((cD w.heap.size ([str t.av,.slice pa t.ai.length pc]) 66).refl _) (show((bA s).isSome)=true->_=(_:Value) from λhh=>nomatch hg.symm.trans hh)
 refine bV ?_ ?_
 intro x vs w5 e aJ hd he
 have aY:(vs 2=(.bool ((bA s).isSome)))∧(((bA s).isSome)=true->vs 4=(.bool (fQ false t))):=hd
 obtain⟨d2,d4⟩:=aY
 replace aJ:=(cD w.heap.size ([str t.av,.slice pa t.ai.length pc]) 66).trans aB aJ
 rcases bE ((bA s).isSome) with hg|hg
 rw[hg] at d2
 replace d4:=d4 hg
 replace he:e=aS (aR _ x _) [(13,vs 2),(15,vs 4)]:=he
 rw[d2,d4] at he
 subst he
 refine W ?_
 exact dn ((cD w.heap.size ([str t.av,.slice pa t.ai.length pc]) 66).refl _) (by first|rfl|(rw[hg];rfl))
 rw[hg] at d2
 replace he:e=aS (aR _ x _) [(13,vs 2),(15,vs 4)]:=he
 rw[d2] at he
 subst he
 refine W ?_
 exact dn ((cD w.heap.size ([str t.av,.slice pa t.ai.length pc]) 66).refl _) (by first|rfl|(rw[hg];rfl))
 refine bV ?_ ?_
 intro x vs w5 e aJ hd he
 have d0:vs 0=(.agg #[str t.av,.slice pa t.ai.length pc]):=hd
 replace aJ:=(cD w.heap.size ([str t.av,.slice pa t.ai.length pc]) 66).trans aB aJ
 obtain⟨us,vI,vJ⟩:=aJ.2.2 ⟨_,(by rfl),aO⟩
 replace he:e=aS (aR _ x _) [(11,vs 0)]:=he
 rw[d0] at he
 subst he
 refine cu dD rfl rfl rfl vJ (by rw[vI];rfl) λw6 bB hb jR=>W ?_
 exact dn ⟨bB,λ_=>hb,λ_=>⟨_,rfl,hb⟩⟩ hb
 refine bV ?_ ?_
 intro x vs w5 e aJ hd he
 have d5:vs 5=(.bool ((bA s).isSome&&fQ false t)):=hd
 replace aJ:=(cD w.heap.size ([str t.av,.slice pa t.ai.length pc]) 66).trans aB aJ
 replace he:e=aS (aR _ x _) [(16,vs 5)]:=he
 rw[d5] at he
 subst he
 refine W ?_
 exact dn ((cD w.heap.size ([str t.av,.slice pa t.ai.length pc]) 66).refl _) rfl
 exact trivial
 intro x vs nX jm bT
 have d0:vs 0=(.agg #[str t.av,.slice pa t.ai.length pc]):=bT 0 de
 have d1:vs 1=(.bool ((bA s).isSome)):=bT 1 de
 have d2:vs 2=(.bool ((bA s).isSome)):=bT 2 de
 have d3:((bA s).isSome)=true->vs 3=(.agg #[str t.av,.slice pa t.ai.length pc]):=bT 3 de
 have d4:((bA s).isSome)=true->vs 4=(.bool (fQ false t)):=bT 4 de
 have d5:vs 5=(.bool ((bA s).isSome&&fQ false t)):=bT 5 de
 have d6:aL nX w.heap.size ([str t.av,.slice pa t.ai.length pc]).toArray 66:=bT 6 de
 have d7:vs 7=(.bool ((bA s).isSome&&fQ false t)):=bT 7 de
 have hK:=hK.aD jm.1 sx;have ht:=ht.aD jm.1 sx
 have aO:=d6
 change OW _ _ _ _ [] (aS (aR _ x _) (zZ 11 [vs 0,vs 1,vs 2,vs 3,vs 4,vs 5]++[(100006,vs 6),(3,vs 7)])) _
 rw[d0,d1,d2,d5,d7]
 refine W ?_
 exact⟨[_,_],⟨fB oz dD rfl aO rfl,rfl⟩,⟨t,_,by rw[Jb (f:=fQ false) hp];rfl,ht.fV (λx hx=>by simp[hx]),hp⟩,hK⟩
def YU (L:List Nat) (b:Bk) (v:Value) (w:World):Prop:=∃ib bv,v= .tuple #[bv,.bool (ow b)]∧nW L w bv ib∧(ow b=true->ib=fy b)
theorem QP {L:List Nat} {b:Bk} (h:ow b=false):YU L b (.tuple #[.agg #[str [],.slice none 0 0,.slice none 0 0],.bool false]) w:=
 ⟨⟨[],[],[]⟩,_,by rw[h],ND nM nM,by rw[h];intro h;cases h⟩
theorem aoL (k:Bk) (hl:k.aM.length<1000000000) (fj:k.bW.length<1000000000) (eQ:k.code.length<1000000000) (v:Value) (Li L:List Nat) (w:World) (hv:nN Li w v k) (hL:∀x,x∈L->x<w.heap.size):
  bC Tryz.prog 63 [v] w λr w'=>YU L k r w'∧ak [] w w':=by
 obtain⟨a1,n1,c1,a2,n2,c2,rfl,oH,kL,df,dz⟩:=yf hv
 have hK:=ak.refl [] w
 refine j1 [.cell 2 56,.tmp 3] 102 Tryz.func63 rfl adH rfl rfl rfl ?_
 refine zr<|ey rfl λw1 aI aT di=>?_
 have hK:=hK.ext aI
 refine da mU rfl rfl rfl λw2 az aO dK=>?_
 have hK:=hK.grow;have hK:=hK.ext az;have aT:=aT.grow;have aT:=aT.ext az
 refine W ?_
 refine aA (YM _ om _) ?_
 rintro _ _ ⟨rfl,rfl⟩
 refine WZ ?_
 apply oP 5 17 22 rfl oQ
 intro _
 refine WZ ?_
 exact oQ
 intro xx
 refine WZ ?_
 apply oP 5 23 28 rfl oQ
 intro _
 refine WZ ?_
 exact oQ
 intro xx
 refine WZ ?_
 apply oP 6 29 35 rfl oQ
 intro _
 refine W ?_
 refine aA (LG _ _ _ _) ?_
 rintro _ _ ⟨rfl,rfl⟩
 exact oQ
 intro xx
 refine aV<|zc rfl (λh4=>?_) (λh4=>?_)
 have hq:=aba oH kL h4
 refine zr<|iT (MQ _) rfl rfl<|cu mU rfl rfl rfl aO rfl λw3 aH aO fS=>?_
 have hK:=hK.aD aH sx
 refine W ?_
 exact⟨[_,_],⟨fB Gw mU rfl aO rfl,rfl⟩,QP hq,hK⟩
 obtain⟨tW,nV⟩:=abb oH kL h4
 have nY:k.bW.length<=40∧k.code.length<=80:=by simp only[aE,dE] at tW;exact⟨tW.1.2,tW.2.2⟩
 refine W ?_
 refine iT (aed _ _) rfl rfl<|da mU rfl rfl rfl λw3 aH aF fS=>?_
 have hK:=hK.grow;have hK:=hK.ext aH;have aT:=aT.grow;have aT:=aT.ext aH;have aO:=aO.grow;have aO:=aO.ext aH
 refine cu mU rfl rfl rfl aF rfl λw4 aN aF ga=>?_
 have hK:=hK.aD aN sx;have aT:=aT.aD aN sx;have aO:=aO.aD aN sx
 refine W ?_
 refine eO (λq:Nat×Option Addr×Nat×Option Nat=>[(1,.pointer (some ⟨w.heap.size,0,none⟩)),(2,.pointer (some ⟨w1.heap.size,0,none⟩)),(4,.pointer (some ⟨w2.heap.size,0,none⟩)),(41,.slice a1 n1 c1),(42,.int .i64 (n1:Int)),(43,.int .i64 (q.1:Int))]) (λq w'=>ak [] w w'∧aL w' w.heap.size [str k.aM,.slice a1 n1 c1,.slice a2 n2 c2].toArray 58∧aL w' w1.heap.size [str [],.slice none 0 0,.slice none 0 0].toArray 56∧aL w' w2.heap.size [str k.aM,.slice q.2.1 ((k.bW.take q.1).map tr).length q.2.2.1,.slice none 0 0].toArray 56∧Gr w1.heap.size (w1.heap.size::w2.heap.size::L) w' 66 2 (.slice q.2.1 ((k.bW.take q.1).map tr).length q.2.2.1) q.2.2.2 (cQ ((k.bW.take q.1).map tr))∧q.1<=k.bW.length∧∀i,i<q.1->sH (cJ k.bW i)=true) (λq=>k.bW.length-q.1) ((0,none,0,none)) (⟨rfl,rfl,rfl,rfl,rfl,rfl⟩) (⟨hK,aT,aO,aF,Gr.nil (by intro x hx;simp at hx;rcases hx with rfl|rfl|hx;omega;omega;have:=hL x hx;omega) om,sm,by intro i hi;simp at hi⟩) λgg w5 e5 hI=>?_
 obtain⟨i,a,cc,g⟩:=gg
 dsimp only at hI⊢
 obtain⟨hK,aT,aO,aF,hO,hk,cZ⟩:=hI
 have fU:=hK.size
 have VY:=aT.lt
 have OG:=aO.lt
 have QN:=aF.lt
 refine W ?_
 refine zc rfl (λh5=>?_) (λh5=>?_)
 have dR:=kM (xs:=k.bW) (i:=i) om
 obtain⟨b,off,rfl,hc⟩:=pR (df.ext hK) dR
 refine W ?_
 refine aA (aoK (cJ k.bW i) (g.toList++(w1.heap.size::w2.heap.size::L)) w5 hO.all) ?_
 rintro v6 w6 ⟨xJ,bB⟩
 have ku:=bB.size
 refine ld bB hK aT aO aF hO λhK aT aO aF hO=>?_
 obtain⟨t,tv,rfl,ht,hp⟩:=xJ
 obtain⟨pa,pn,pc,rfl,dZ,aQ⟩:=cS ht
 subst dZ
 refine W ?_
 refine da dD rfl rfl rfl λw7 bJ cL l4=>?_
 have hK:=hK.grow;have hK:=hK.ext bJ;have aT:=aT.grow;have aT:=aT.ext bJ;have aO:=aO.grow;have aO:=aO.ext bJ;have aF:=aF.grow;have aF:=aF.ext bJ;have hO:=hO.alloc bJ l4;have ht:=ht.grow;have ht:=ht.ext bJ
 refine cu dD rfl rfl rfl cL rfl λw8 aU cL kV=>?_
 have hK:=hK.aD aU sx;have aT:=aT.aD aU sx;have aO:=aO.aD aU sx;have aF:=aF.aD aU sx;have hO:=hO.aD aU sx;have ht:=ht.aD aU sx
 refine W ?_
 refine zc rfl (λh6=>?_) (λh6=>?_)
 have hq:=abc (b:=k) (i:=i) om (by simpa using h6)
 refine zr<|iT (MQ _) rfl rfl<|cu mU rfl rfl rfl aO rfl λw9 aC aO dv=>?_
 have hK:=hK.aD aC sx
 refine W ?_
 exact⟨[_,_],⟨fB Gw mU rfl aO rfl,rfl⟩,QP hq,hK⟩
 have kW:sH (cJ k.bW i)=true:=by simpa using h6
 refine W ?_
 refine fo lG dD rfl rfl λw9 aC Qx dv=>sV aC hK aT aO aF hO ht λhK aT aO aF hO ht=>?_
 refine Gj lG dD rfl rfl rfl rfl rfl rfl hO Qx ht.Mi (by rw[wK _ hk];omega) λa3 IP g3 cB gz cA=>?_
 have YV:=cA.size
 have hK:=ak.Cq om hO.low hK cA
 have aT:=aT.aD cA (hO.Gh om);have aO:=aO.aD cA (hO.vg sm);have aF:=aF.aD cA (hO.vg sm)
 rw[abe kW hp,yj tr dR] at gz⊢
 refine zf SS rfl<|gF GA rfl rfl rfl aF rfl λeC dh aF uh=>?_
 have hK:=hK.aD dh sx;have aT:=aT.aD dh sx;have aO:=aO.aD dh sx;have gz:=gz.aD dh sx
 refine W ?_
 exact⟨(i+1,a3,IP,g3),⟨rfl,rfl,rfl,rfl,rfl,rfl⟩,⟨hK,aT,aO,aF,gz.fV (λx hx=>mK _ hx),by dsimp only;omega,by intro j hj;rcases Nat.lt_or_ge j i with h|h;exact cZ j h;rw[show j=i by dsimp only at hj;omega];exact kW⟩,by dsimp only;omega⟩
 have NB:∀j,j<k.bW.length->sH (cJ k.bW j)=true:=λj hj=>cZ j om
 rw[yk tr om] at aF hO
 have Pj:=hO.trees
 have dC:=ak.refl [w1.heap.size,w2.heap.size] w5
 clear cZ hO
 refine W ?_
 refine eO (λq:Nat×Option Addr×Nat×Option Nat=>[(1,.pointer (some ⟨w.heap.size,0,none⟩)),(2,.pointer (some ⟨w1.heap.size,0,none⟩)),(4,.pointer (some ⟨w2.heap.size,0,none⟩)),(63,.slice a2 n2 c2),(64,.int .i64 (n2:Int)),(65,.int .i64 (q.1:Int))]) (λq w'=>ak [] w w'∧ak [w1.heap.size,w2.heap.size] w5 w'∧aL w' w.heap.size [str k.aM,.slice a1 n1 c1,.slice a2 n2 c2].toArray 58∧aL w' w1.heap.size [str [],.slice none 0 0,.slice none 0 0].toArray 56∧aL w' w2.heap.size [str k.aM,.slice a (k.bW.map tr).length cc,.slice q.2.1 ((k.code.take q.1).map tr).length q.2.2.1].toArray 56∧Gr w5.heap.size (w1.heap.size::w2.heap.size::L) w' 66 2 (.slice q.2.1 ((k.code.take q.1).map tr).length q.2.2.1) q.2.2.2 (cQ ((k.code.take q.1).map tr))∧q.1<=k.code.length∧∀i,i<q.1->rX k.code i=true) (λq=>k.code.length-q.1) ((0,none,0,none)) (⟨rfl,rfl,rfl,rfl,rfl,rfl⟩) (⟨hK,dC,aT,aO,aF,Gr.nil (by intro x hx;simp at hx;rcases hx with rfl|rfl|hx;omega;omega;have:=hL x hx;omega) om,sm,by intro i hi;simp at hi⟩) λgg w6 e6 hI=>?_
 obtain⟨j,a5,Vy,g⟩:=gg
 dsimp only at hI⊢
 obtain⟨hK,dC,aT,aO,aF,hO,az,cZ⟩:=hI
 have fU:=hK.size
 have aoM:=dC.size
 have VY:=aT.lt
 have OG:=aO.lt
 have QN:=aF.lt
 refine W ?_
 refine zc rfl (λh7=>?_) (λh7=>?_)
 have dR:=kM (xs:=k.code) (i:=j) om
 obtain⟨b,off,rfl,hc⟩:=pR (dz.ext hK) dR
 refine W ?_
 refine aA (QO (cJ k.code j) (g.toList++(w1.heap.size::w2.heap.size::L)) w6 hO.all) ?_
 rintro v7 w7 ⟨vN,bJ⟩
 have jd:=bJ.size
 refine sV bJ hK dC aT aO aF hO λhK dC aT aO aF hO=>?_
 obtain⟨t,tv,rfl,ht,hp⟩:=vN
 obtain⟨pa,pn,pc,rfl,dZ,aQ⟩:=cS ht
 subst dZ
 have cF:=λh=>Cv hp h
 refine W ?_
 refine da dD rfl rfl rfl λw8 aU iY kV=>?_
 have hK:=hK.grow;have hK:=hK.ext aU;have dC:=dC.grow;have dC:=dC.ext aU;have aT:=aT.grow;have aT:=aT.ext aU;have aO:=aO.grow;have aO:=aO.ext aU;have aF:=aF.grow;have aF:=aF.ext aU;have hO:=hO.alloc aU kV;have ht:=ht.grow;have ht:=ht.ext aU
 refine cu dD rfl rfl rfl iY rfl λw9 aC iY dv=>?_
 have hK:=hK.aD aC sx;have dC:=dC.aD aC sx;have aT:=aT.aD aC sx;have aO:=aO.aD aC sx;have aF:=aF.aD aC sx;have hO:=hO.aD aC sx;have ht:=ht.aD aC sx
 refine W ?_
 refine Ez [75,76,77,78,79,80,81,82,83,84,85,86,87,88,89,90,91,92] [(92,.bool ((!(bA (cJ k.code j)).isSome||!rk t)||(Gm t !=decide ((j:Int)=(n2:Int)-1))))] ?_ ?_
 rcases bE (!(bA (cJ k.code j)).isSome) with iX|iX
 apply kU du 18 (rA 75 18) (rA 75 18) [[],[0],[1],[2],[2,3],[2,4],[2,5],[6],[7],[7,8],[7],[7],[7,11],[7,12],[7,13],[7,10,14],[7,9,15],[7,16]] [It.v _,It.v _,It.v (.bool true),It.v _,It.v _,It.v _,It.v _,It.v (.bool true),It.v _,It.v _,It.v _,It.v _,It.v _,It.v _,It.v _,It.v _,It.v _,It.v _] de rfl
 intro wd aB
 refine VA ?_
 refine vc (λx cB cA=>?_) ?_
 refine WZ ?_
 exact pv (by exact congrArg Value.bool iX)
 refine vk aB (λx cB cA=>?_) ?_
 exact cT pv
 refine vk aB (λx cB cA=>?_) ?_
 exact cT pv
 refine vc (λx cB cA=>?_) ?_
 exact cT pv
 refine vc (λ_ _ _=>WZ pv) ?_
 refine vc (λx cB cA=>?_) ?_
 refine WZ ?_
 exact pv (by rfl)
 exact VZ
 intro x og iE
 change OW _ _ _ _ [] (aS (aR _ x _) (zZ 75 [_,_,_,_,_,_,_,_,_,_,_,_,_,_,_,_,_,_])) _
 refine W ?_
 exact kE iE
 rcases bE (!(bA (cJ k.code j)).isSome||!rk t) with mX|mX
 apply kU du 18 (rA 75 18) (rA 75 18) [[],[0],[1],[2],[2,3],[2,4],[2,5],[6],[7],[7,8],[7],[7],[7,11],[7,12],[7,13],[7,10,14],[7,9,15],[7,16]] [It.v _,It.v _,It.v (.bool false),It.v _,It.v _,It.v _,It.v _,It.v (.bool true),It.v _,It.v _,It.v _,It.v _,It.v _,It.v _,It.v _,It.v _,It.v _,It.v _] de rfl
 intro wd aB
 refine VA ?_
 refine vc (λx cB cA=>?_) ?_
 refine WZ ?_
 exact pv (by exact congrArg Value.bool iX)
 refine VA ?_
 refine vk aB (λx cB cA=>?_) ?_
 have ht:=ht.ext cA
 have hg:=iX
 refine aA (YS t (cF (by simpa using hg)).2 (cF (by simpa using hg)).1 _ _ cB ht) ?_
 rintro _ eC ⟨rfl,dh⟩
 have zH:=dh.size
 exact pk dh
 refine VA ?_
 refine vc (λx cB cA=>?_) ?_
 refine WZ ?_
 exact pv (by first|exact congrArg Value.bool mX|(rw[iX] at mX;exact congrArg Value.bool mX))
 exact VZ
 intro x og iE
 change OW _ _ _ _ [] (aS (aR _ x _) (zZ 75 [_,_,_,_,_,_,_,_,_,_,_,_,_,_,_,_,_,_])) _
 refine W ?_
 exact kE iE
 apply kU du 18 (rA 75 18) (rA 75 18) [[],[0],[1],[2],[2,3],[2,4],[2,5],[6],[7],[7,8],[7],[7],[7,11],[7,12],[7,13],[7,10,14],[7,9,15],[7,16]] [It.v _,It.v _,It.v (.bool false),It.v _,It.v _,It.v _,It.v _,It.v (.bool false),It.v _,It.v _,It.v _,It.v _,It.v _,It.v _,It.v _,It.v _,It.v _,It.v _] de rfl
 intro wd aB
 refine VA ?_
 refine vc (λx cB cA=>?_) ?_
 refine WZ ?_
 exact pv (by exact congrArg Value.bool iX)
 refine VA ?_
 refine vk aB (λx cB cA=>?_) ?_
 have ht:=ht.ext cA
 have hg:=iX
 refine aA (YS t (cF (by simpa using hg)).2 (cF (by simpa using hg)).1 _ _ cB ht) ?_
 rintro _ eC ⟨rfl,dh⟩
 have zH:=dh.size
 exact pk dh
 refine VA ?_
 refine vc (λx cB cA=>?_) ?_
 refine WZ ?_
 exact pv (by first|exact congrArg Value.bool mX|(rw[iX] at mX;exact congrArg Value.bool mX))
 refine VA ?_
 refine vk aB (λx cB cA=>?_) ?_
 have ht:=ht.ext cA
 have hg:=mX
 refine aA (aoC t (cF (by rw[Bool.or_eq_false_iff] at hg;simpa using hg.1)).1 _ _ cB ht) ?_
 rintro _ eC ⟨rfl,dh⟩
 have zH:=dh.size
 exact pk dh
 refine vc (λ_ _ _=>WZ pv) ?_
 refine vc (λ_ _ _=>WZ pv) ?_
 refine vk aB (λx cB cA=>?_) ?_
 have aT:=aT.ext cA
 refine WZ ?_
 exact pv
 refine vk aB (λx cB cA=>?_) ?_
 refine WZ ?_
 exact pv
 refine vk aB (λx cB cA=>?_) ?_
 refine WZ ?_
 exact pv
 refine vk aB (λx cB cA=>?_) ?_
 refine WZ ?_
 exact pv
 refine vk aB (λx cB cA=>?_) ?_
 refine WZ ?_
 exact pv
 refine vc (λ_ _ _=>WZ pv) ?_
 exact trivial
 intro x og iE
 change OW _ _ _ _ [] (aS (aR _ x _) (zZ 75 [_,_,_,_,_,_,_,_,_,_,_,_,_,_,_,_,_,_])) _
 refine W ?_
 exact kE iE
 intro x og iE
 refine CK iE hK dC aT aO aF hO ht iY λhK dC aT aO aF hO ht iY=>?_
 refine zc rfl (λh8=>?_) (λh8=>?_)
 rw[Ss kL om hp] at h8
 have hq:=abd (b:=k) (i:=j) om (by simpa using h8)
 refine zr<|iT (MQ _) rfl rfl<|cu mU rfl rfl rfl aO rfl λoV ma aO aoN=>?_
 have hK:=hK.aD ma sx
 refine W ?_
 exact⟨[_,_],⟨fB Gw mU rfl aO rfl,rfl⟩,QP hq,hK⟩
 rw[Ss kL om hp] at h8
 have kW:rX k.code j=true:=by simpa using h8
 refine W ?_
 refine fo lG dD rfl rfl λoV ma Ip aoN=>JN ma hK dC aT aO aF hO ht λhK dC aT aO aF hO ht=>?_
 refine Gj lG dD rfl rfl rfl rfl rfl rfl hO Ip ht.Mi (by rw[wK _ az];omega) λa3 IP g3 lM gz ln=>?_
 have YV:=ln.size
 have hK:=ak.Cq om hO.low hK ln
 have dC:=hO.since dC ln
 have aT:=aT.aD ln (hO.Gh om);have aO:=aO.aD ln (hO.vg sm);have aF:=aF.aD ln (hO.vg sm)
 rw[abf kW hp,yj tr dR] at gz⊢
 refine zf SU rfl<|gF GA rfl rfl rfl aF rfl λBG qq aF aii=>?_
 have hK:=hK.aD qq sx;have dC:=dC.aD qq sx;have aT:=aT.aD qq sx;have aO:=aO.aD qq sx;have gz:=gz.aD qq sx
 refine W ?_
 exact⟨(j+1,a3,IP,g3),⟨rfl,rfl,rfl,rfl,rfl,rfl⟩,⟨hK,dC,aT,aO,aF,gz.fV (λx hx=>mK _ hx),by dsimp only;omega,by intro i2 hj;rcases Nat.lt_or_ge i2 j with h|h;exact cZ i2 h;rw[show i2=j by dsimp only at hj;omega];exact kW⟩,by dsimp only;omega⟩
 have hq:=RY tW NB (λi hi=>cZ i om)
 have hqI:ow k=true:=by unfold ow;rw[hq,nV];rfl
 rw[yk tr om] at aF hO
 refine W ?_
 refine cu mU rfl rfl rfl aO rfl λw7 bJ aO l4=>?_
 have hK:=hK.aD bJ sx;have dC:=dC.aD bJ sx;have hO:=hO.aD bJ sx
 refine W ?_
 exact⟨[_,_],⟨fB Gw mU rfl aO rfl,rfl⟩,⟨fy k,_,by rw[hqI];rfl,ND (l:=k.aM) ((Pj.aD dC sm).fV (λx hx=>by simp[hx])) (hO.trees.fV (λx hx=>by simp[hx])),λ_=>rfl⟩,hK⟩
theorem aoP (k:fJ) (l:aj) (b1:Nat) (v:Value) (L:List Nat) (w:World) (hv:nW L w v k) (aT:aL w b1 [str l].toArray 9):
  bC Tryz.prog 88 [v,.pointer (some ⟨b1,0,none⟩)] w λr w'=>r= .bool (decide (k.aM=l))∧ak [] w w':=by
 obtain⟨a1,c1,a2,c2,rfl,cK,cI⟩:=Ue hv
 have hK:=ak.refl [] w
 refine cj [.tmp 3] 8 Tryz.func88 rfl ad0 rfl rfl ?_
 refine zr<|ey rfl λw1 aI aO di=>bL aI hK aT λhK aT=>?_
 refine W ?_
 exact⟨_,rfl,rfl,hK⟩
theorem aoQ (ps:List fJ) (hlen:ps.length<1000000000) (g:fJ->Bool) (f:FuncId) (caps:List Value) (v:Value) (L:List Nat) (w:World) (hv:p8 L w v ps) 
  (hf:∀i,i<ps.length->∀(u:Value) (w':World),ak [] w w'->nW L w' u (fl ps i)->bC Tryz.prog f (u::caps) w' λr w''=>r= .bool (g (fl ps i))∧ak [] w' w''):
  bC Tryz.prog 87 [v,.func (.func f) #[] caps.toArray] w λr w'=>r= .int .i64 (Gt ps g)∧ak [] w w':=by
 obtain⟨a,c,rfl⟩:=Ug hv
 have hK:=ak.refl [] w
 refine cj [.tmp 4] 19 Tryz.func87 rfl adZ rfl rfl ?_
 refine W ?_
 refine eO (λk:Nat=>[(0,.slice a ps.length c),(1,.func (.func f) #[] caps.toArray),(7,.int .i64 (ps.length:Int)),(8,.int .i64 (k:Int))]) (λk w'=>ak [] w w'∧k<=ps.length∧∀i,i<k->g (fl ps i)=false) (λk=>ps.length-k) (0) (⟨rfl,rfl,rfl,rfl⟩) (⟨hK,om,by intro i hi;omega⟩) λgg w1 e1 hI=>?_
 obtain⟨hK,hk,cZ⟩:=hI
 have hv:=hv.ext hK
 refine W ?_
 refine zc rfl (λh1=>?_) (λh1=>?_)
 have hp:=MD (ps:=ps) (i:=gg) om
 obtain⟨b,off,a1,c1,a2,c2,rfl,hc,qK,qM⟩:=NF hv hp
 refine W ?_
 refine Ro rfl rfl rfl (hf gg om _ w1 hK (ND qK qM)) ?_
 rintro _ w2 ⟨rfl,az⟩
 have dz:=az.size
 have hK:=hK.ext az
 refine aV<|zc rfl (λh2=>?_) (λh2=>?_)
 have hq:=abg om cZ h2
 refine W ?_
 exact⟨_,rfl,by rw[hq];rfl,hK⟩
 refine W ?_
 exact⟨gg+1,⟨rfl,rfl,rfl,rfl⟩,⟨hK,om,by intro i hi;rcases Nat.lt_or_ge i gg with h|h;exact cZ i h;rw[show i=gg by omega];exact h2⟩,om⟩
 have hq:=abh (λi hi=>cZ i om)
 refine W ?_
 exact⟨_,rfl,by rw[hq];rfl,hK⟩
theorem aoR (ps:List fJ) (hlen:ps.length<1000000000) (l:aj) (v:Value) (L:List Nat) (w:World) (hv:p8 L w v ps):
  bC Tryz.prog 54 [v,str l] w λr w'=>r= .int .i64 (Ek ps l)∧ak [] w w':=by
 have hK:=ak.refl [] w
 refine cj [.tmp 4] 8 Tryz.func54 rfl adD rfl rfl ?_
 refine zr<|LQ rfl rfl rfl λw1 aI bU di=>bL aI hK hv λhK hv=>?_
 refine W ?_
 refine Rm (vs:=[.pointer (some ⟨w.heap.size,0,none⟩)]) rfl rfl rfl<|aA (aoQ ps hlen (λb=>decide (b.aM=l)) 88 [.pointer (some ⟨w.heap.size,0,none⟩)] _ L w1 hv (λi hi u w' k hu=>aoP (fl ps i) l _ _ L _ hu (bU.ext k))) ?_
 rintro _ w2 ⟨rfl,az⟩
 have dz:=az.size
 have hK:=hK.ext az
 refine W ?_
 exact⟨_,rfl,rfl,hK⟩
def aoS (L:List Nat) (bs:List Bk) (v:Value) (w:World):Prop:=∃ps pv,v= .tuple #[pv,.bool (ml bs)]∧p8 L w pv ps∧(ml bs=true->ps=bs.map fy)
theorem YW (bs:List Bk) (hb:tU bs) (v:Value) (Li L:List Nat) (w:World) (hv:mO Li w v bs) (hL:∀x,x∈L->x<w.heap.size):
  bC Tryz.prog 32 [v] w λr w'=>aoS L bs r w'∧ak [] w w':=by
 obtain⟨a,n,c,rfl,hn⟩:=Cp hv
 have hK:=ak.refl [] w
 have ir:=hb.1
 refine cj [.tmp 2,.tmp 3] 52 Tryz.func32 rfl ado rfl rfl ?_
 refine W ?_
 refine aA (LG _ _ _ _) ?_
 rintro _ _ ⟨rfl,rfl⟩
 refine jY rfl rfl rfl<|aV<|zc rfl (λh1=>?_) (λh1=>?_)
 have hq:ml bs=false:=abl (λh=>by rw[dT (p:=(1:Int)<=(n:Int)) om,dT (p:=(n:Int)<=40) om] at h1;exact absurd h1 de)
 refine W ?_
 exact⟨_,rfl,⟨[],_,by rw[hq];rfl,Uf,by rw[hq];intro h;cases h⟩,hK⟩
 have YX:1<=bs.length∧bs.length<=40:=by have:=h1;simp only[aE,dE] at this;omega
 refine W ?_
 refine eO (λq:Nat×Option Addr×Nat×Option Nat=>[(0,.slice a n c),(4,.slice q.2.1 ((bs.take q.1).map fy).length q.2.2.1),(13,.slice a n c),(14,.int .i64 (n:Int)),(15,.int .i64 (q.1:Int))]) (λq w'=>ak [] w w'∧Gr w.heap.size L w' 56 3 (.slice q.2.1 ((bs.take q.1).map fy).length q.2.2.1) q.2.2.2 (((bs.take q.1).map fy).map fJ.enc)∧q.1<=bs.length∧∀i,i<q.1->ow (bN bs i)=true∧o6 bs (bN bs i).aM=i) (λq=>bs.length-q.1) ((0,none,0,none)) (⟨rfl,rfl,rfl,rfl,rfl⟩) (⟨hK,Gr.nil hL om,sm,by intro i hi;simp at hi⟩) λgg w1 e1 hI=>?_
 obtain⟨i,a1,cc,g⟩:=gg
 dsimp only at hI⊢
 obtain⟨hK,hO,hk,cZ⟩:=hI
 have fU:=hK.size
 refine W ?_
 refine zc rfl (λh2=>?_) (λh2=>?_)
 have dR:=rW (bs:=bs) (i:=i) om
 obtain⟨b,off,ra,rn,rc,ca,cn,c3,rfl,hc,rE,xM,df,dz⟩:=yg hv dR
 have mu:=hb.2 i om
 refine WL ?_
 refine zL wL fD rfl (hc.ext hK) rfl<|da fD rfl rfl rfl λw2 az bK dK=>?_
 have hK:=hK.grow;have hK:=hK.ext az;have hO:=hO.alloc az dK
 refine cu fD rfl rfl rfl bK rfl λw3 aH bK fS=>?_
 have hK:=hK.aD aH sx;have hO:=hO.aD aH sx
 refine W ?_
 refine aA (aoL (bN bs i) mu.1 mu.2.1 mu.2.2 _ _ (g.toList++(w1.heap.size::L)) w3 (nN.ext (wI df dz) hK) hO.all) ?_
 rintro v4 w4 ⟨kF,aN⟩
 have fg:=aN.size
 refine bL aN hK hO λhK hO=>?_
 obtain⟨ib,bv,rfl,ht,hp⟩:=kF
 obtain⟨b1a,b1c,b2a,b2c,rfl,_,_⟩:=Ue ht
 refine W ?_
 refine da mU rfl rfl rfl λw5 aJ cL iq=>?_
 have hK:=hK.grow;have hK:=hK.ext aJ;have hO:=hO.alloc aJ iq;have ht:=ht.grow;have ht:=ht.ext aJ
 refine cu mU rfl rfl rfl cL rfl λw6 bB cL jR=>?_
 have hK:=hK.aD bB sx;have hO:=hO.aD bB sx;have ht:=ht.aD bB sx
 refine W ?_
 apply oO 6 26 32 (ak [] w6) rfl oQ
 intro h3
 have xf:ow (bN bs i)=true:=by simpa using h3
 have LH:=hp xf
 subst LH
 refine W ?_
 refine aA (aoR ((bs.take i).map fy) (by rw[wK _ hk];omega) (bN bs i).aM _ L w6 (hO.prog.fV (λx hx=>by simp[hx]))) ?_
 rintro _ w7 ⟨rfl,bJ⟩
 have jd:=bJ.size
 exact oQ
 intro xx w8 aU
 refine gH aU hK hO ht cL λhK hO ht cL=>?_
 refine aV<|zc rfl (λh4=>?_) (λh4=>?_)
 have hq:ml bs=false:=abj (i:=i) om (by simp only[oE,Bool.not_eq_true'] at h4;rcases h4 with h|h;exact .inl h;rw[St om] at h;exact .inr (of_decide_eq_true h))
 refine W ?_
 exact⟨_,rfl,⟨[],_,by rw[hq];rfl,Uf,by rw[hq];intro h;cases h⟩,hK⟩
 have xf:ow (bN bs i)=true∧o6 bs (bN bs i).aM=i:=by simp only[Bool.or_eq_false_iff,Bool.not_eq_false'] at h4;rw[St om] at h4;exact⟨h4.1,Classical.byContradiction (of_decide_eq_false h4.2)⟩
 refine W ?_
 refine fo Em mU rfl rfl λw9 aC aoT dv=>cO aC hK hO ht λhK hO ht=>?_
 refine afM Em mU rfl rfl rfl rfl rfl rfl hO aoT (ht.fV (λx hx=>by simp at hx⊢;rcases hx with h|h|h<;>simp[h])) (by rw[wK _ hk];omega) λa3 IP g3 cB gz cA=>?_
 have YV:=cA.size
 have hK:=hO.since hK cA
 rw[hp xf.1,yj fy dR] at gz⊢
 refine W ?_
 exact⟨(i+1,a3,IP,g3),⟨rfl,rfl,rfl,rfl,rfl⟩,⟨hK,gz.fV (λx hx=>by simp[hx]),by dsimp only;omega,by intro i2 hj;rcases Nat.lt_or_ge i2 i with h|h;exact cZ i2 h;rw[show i2=i by dsimp only at hj;omega];exact xf⟩,by dsimp only;omega⟩
 have hq:=abk (λj hj=>cZ j om)
 rw[yk fy om] at hO⊢
 obtain⟨b,off,r1,yG,r2,yH,rfl,hc,cK,cI⟩:=NF hO.prog (MD (ps:=bs.map fy) (i:=0) so)
 have e0:fl (bs.map fy) 0=fy (bN bs 0):=by simp[gE (show 0<bs.length by omega)]
 rw[e0] at hc cK cI
 refine W ?_
 refine Ez [38,39,40,41,42,43,44,45,46,47,48,49,50,51,2,3] [(2,.slice (some ⟨b,off,none⟩) (bs.map fy).length cc),(3,.bool (decide ((bN bs 0).aM=[109,97,105,110])&&decide (((fy (bN bs 0)).regs.length:Int)=0)))] ?_ ?_
 rcases bE (decide ((bN bs 0).aM=[109,97,105,110])) with iX|iX
 apply kU du 16 (rA 38 14++[2,3]) (rA 38 14++[2,3]) [[],[],[1],[2],[3],[4],[5],[6],[6,7],[6,8],[6,9],[6,10],[6,11],[6,12],[0],[13]] [It.v _,It.v _,It.v _,It.v _,It.v _,It.v _,It.v (.bool true),It.v _,It.v _,It.v _,It.v _,It.v _,It.v _,It.v _,It.v _,It.v _] de rfl
 intro wd aB
 refine VA ?_
 refine vk aB (λx w2 az=>?_) ?_
 refine zi (i:=0) Em mU rfl rfl so ?_
 exact pv
 refine VA ?_
 refine vc (λx w2 az=>?_) ?_
 refine zm ?_
 exact pv (by exact congrArg Value.bool iX)
 refine VA ?_
 refine vk aB (λx w2 az=>?_) ?_
 refine zi (i:=0) Em mU rfl rfl so ?_
 exact pv
 exact VZ
 intro x oc gI
 change OW _ _ _ _ [] (aS (aR _ x _) (zZ 38 [_,_,_,_,_,_,_,_,_,_,_,_,_,_]++[(2,_),(3,_)])) _
 refine W ?_
 exact kE gI
 apply kU du 16 (rA 38 14++[2,3]) (rA 38 14++[2,3]) [[],[],[1],[2],[3],[4],[5],[6],[6,7],[6,8],[6,9],[6,10],[6,11],[6,12],[0],[13]] [It.v _,It.v _,It.v _,It.v _,It.v _,It.v _,It.v (.bool false),It.v _,It.v _,It.v _,It.v _,It.v _,It.v _,It.v _,It.v _,It.v _] de rfl
 intro wd aB
 refine VA ?_
 refine vk aB (λx w2 az=>?_) ?_
 refine zi (i:=0) Em mU rfl rfl so ?_
 exact pv
 refine VA ?_
 refine vc (λx w2 az=>?_) ?_
 refine zm ?_
 exact pv (by exact congrArg Value.bool iX)
 exact VZ
 intro x oc gI
 change OW _ _ _ _ [] (aS (aR _ x _) (zZ 38 [_,_,_,_,_,_,_,_,_,_,_,_,_,_]++[(2,_),(3,_)])) _
 refine W ?_
 exact kE gI
 intro x oc gI
 refine bL gI hK hO λhK hO=>?_
 refine kj<|⟨_,rfl,⟨bs.map fy,_,?_,hO.prog.fV (λx hx=>by simp[hx]),λ_=>rfl⟩,hK⟩
 rw[hq,dT YX.1,dT YX.2,show decide (((fy (bN bs 0)).regs.length:Int)=0)=decide ((bN bs 0).bW.length=0) from decide_eq_decide.2 (by have:(fy (bN bs 0)).regs.length=(bN bs 0).bW.length:=List.length_map _;omega)]
 rfl
theorem YY (bs:List Bk) (hb:tU bs) (v:Value) (Li:List Nat) (w:World) (hv:mO Li w v bs):
  bC Tryz.prog 16 [v] w λr w'=>r= .bool (ml bs)∧ak [] w w':=by
 have hK:=ak.refl [] w
 refine cj [.tmp 2] 11 Tryz.func16 rfl acp rfl rfl ?_
 refine W ?_
 refine aA (YW bs hb _ Li [] w hv sm) ?_
 rintro v1 w1 ⟨fK,aI⟩
 have df:=aI.size
 have hK:=hK.ext aI
 obtain⟨ps,pv,rfl,hp,xv⟩:=fK
 refine W ?_
 exact⟨_,rfl,rfl,hK⟩
def Bd (B b:Nat) (l:aj) (w:World):Prop:=Lib.IsBuilderF 113 5 B b (Lib.byteCells l) w
theorem Bd.ext (h:Bd B b l w) (k:ak [] w w'):Bd B b l w':=by
 have cell:∀{i:Nat} {o:Obj},w.heap[i]?=some o->w'.heap[i]?=some o:=fun{i o} hi=>(k.block i (Array.getElem?_eq_some_iff.1 hi).1 sm).trans hi
 have key:∀p,Lib.BuilderAtF 113 5 B b p (Lib.byteCells l) w->Lib.BuilderAtF 113 5 B b p (Lib.byteCells l) w':=by
  rintro p ⟨hB,v,hb,dH,dY⟩
  refine⟨hB,v,cell hb,⟨dH.1,?_⟩,dY⟩
  rcases dH.2 with h|⟨g,cap,cur,fz,h1,h2,h3,h4⟩
  ·exact .inl h
  ·exact .inr ⟨g,cap,cur,fz,h1,h2,cell h3,h4⟩
 exact h.imp (key _) (key _)
structure pK (B b:Nat) (w w':World):Prop where
 below:RowKit.Below B w w'
 others:Lib.OthersKept 5 (some b) w w'
theorem pK.trans {w'':World} (h:pK B b w w') (k:pK B b w' w''):pK B b w w'':=⟨h.below.trans k.below,h.others.trans k.others⟩
theorem pK.of {b:Nat} (h:ak [] w w') (hB:B<=w.heap.size):pK B b w w':=
 ⟨h.below hB sm,λk o hk _ _=>(h.block k (Array.getElem?_eq_some_iff.1 hk).1 sm).trans hk⟩
theorem pK.aG {w0:World} (k:pK w0.heap.size b w w') (h:ak [] w0 w):ak [] w0 w':=D3 h k.below
theorem aL.others {c:Nat} {cs:Array Value} {T:TypeId} (h:aL w c cs T) (k:pK B b w w') (hc:c≠b) (hT:T≠5):aL w' c cs T:=
 k.others c _ h (by simpa using hc) (by intro c' fz he;cases he;exact hT rfl)
theorem aoU (B b:Nat) (l s:aj) (w:World) (h:Bd B b l w) (hlen:l.length+s.length<=140737488355328) (oZ:B<=w.heap.size):
  bC Tryz.prog 111 [.pointer (some ⟨b,0,none⟩),str s] w λ_ w'=>Bd B b (l++s) w'∧pK B b w w':=
 ⟨rf.mk' Tryz.func111 rfl SG,Calls.mono (Tryz.Builder_WriteString_k B b _ ⟨s.toArray⟩ w h (by rw[Lib.byteCells_length];simpa[ByteArray.size] using hlen) oZ) λ_ _ ⟨he,hb,hk,ho⟩=>⟨_,he,.inr (by have e1:Lib.byteCells (l++s)=Lib.byteCells l++Lib.strCells ⟨s.toArray⟩:=by{simp[Lib.byteCells,Lib.strCells]};rw[e1];exact hb),hk,ho⟩⟩
theorem QQ (B b:Nat) (l:aj) (c:Nat) (hc:c<256) (w:World) (h:Bd B b l w) (hlen:l.length+1<=140737488355328) (oZ:B<=w.heap.size):
  bC Tryz.prog 112 [.pointer (some ⟨b,0,none⟩),.int .u8 (c:Int)] w λ_ w'=>Bd B b (l++[UInt8.ofNat c]) w'∧pK B b w w':=
 ⟨rf.mk' Tryz.func112 rfl abL,Calls.mono (Tryz.Builder_WriteByte_k B b _ (c:Int) w h (by rw[Lib.byteCells_length];exact hlen) oZ) λ_ _ ⟨he,hb,hk,ho⟩=>⟨_,he,.inr (by have e1:Lib.byteCells (l++[UInt8.ofNat c])=Lib.byteCells l++[.int .u8 (c:Int)]:=by{simp[Lib.byteCells];omega};rw[e1];exact hb),hk,ho⟩⟩
theorem aoV (B b:Nat) (l:aj) (w:World) (h:Bd B b l w) (oZ:B<=w.heap.size):
  bC Tryz.prog 79 [.pointer (some ⟨b,0,none⟩)] w λv w'=>v=str l∧RowKit.Below B w w':=
 ⟨rf.mk' Tryz.func79 rfl SL,Calls.mono (Tryz.Builder_String_any_f B b l w h oZ) λ_ _ ⟨he,hb,hk⟩=>⟨_,he,rfl,hk⟩⟩
theorem aoW:∀(m:Nat) (t:aq),t.size<=m->WF t->∀(v:Value) (L:List Nat) (w0 w:World) (b:Nat) (l:aj),bh L w0 v t->ak [] w0 w->b<w.heap.size->Bd w0.heap.size b l w->l.length+t.text.length<=1000000000->t.size<=1000000000->
  bC Tryz.prog 78 [v,.pointer (some ⟨b,0,none⟩)] w λr w'=>r= .tuple #[]∧Bd w0.heap.size b (l++t.text) w'∧pK w0.heap.size b w w':=by
 intro m
 induction m with
 |zero=>intro t h cF;have:=Mv cF;omega
 |succ m ih=>
  intro t hm cF v L w0 w b l hv hK JX wk hlen kW
  have cm:=hv
  obtain⟨a,n,c,rfl,hn,aQ⟩:=cS hv
  subst hn
  have lK:=mP t
  have fb:=ak.refl [] w
  have FN:=hK.size
  refine cj [] 32 Tryz.func78 rfl adV rfl rfl ?_
  refine zr<|ey rfl λw1 aI aO di=>bL aI hK fb λhK fb=>?_
  refine W ?_
  refine aA (IN t _ L w1 (cm.ext hK)) ?_
  rintro _ w2 ⟨rfl,az⟩
  have dz:=az.size
  refine cO az hK fb aO λhK fb aO=>?_
  refine aV<|zc rfl (λh1=>?_) (λh1=>?_)
  have yM:=Sw cF h1
  refine W ?_
  refine aA (aoU w0.heap.size b l t.av w2 (wk.ext fb) (by rw[<-yM];omega) (by have:=hK.size;omega)) ?_
  rintro _ w3 ⟨zW,hF⟩
  refine W ?_
  exact⟨_,rfl,rfl,by rw[yM];exact zW,(pK.of fb FN).trans hF⟩
  have YZ:=wk.ext fb
  have hF:=pK.of (b:=b) fb FN
  have atf:w.heap.size≠b:=by omega
  refine W ?_
  refine eO (λk:Nat=>[(1,.pointer (some ⟨b,0,none⟩)),(2,.pointer (some ⟨w.heap.size,0,none⟩)),(13,.slice a t.ai.length c),(14,.int .i64 (t.ai.length:Int)),(15,.int .i64 (k:Int))]) (λk w'=>ak [] w0 w'∧Bd w0.heap.size b (l++pre (t.ai.take k)) w'∧pK w0.heap.size b w w'∧k<=t.ai.length∧w.heap.size<=w'.heap.size) (λk=>t.ai.length-k) (0) (⟨rfl,rfl,rfl,rfl,rfl⟩) (⟨hK,by simpa[pre] using YZ,hF,om,fb.size⟩) λgg w3 e3 hI=>?_
  obtain⟨hK,wk,hF,hk,fU⟩:=hI
  clear fb YZ
  refine W ?_
  refine zc rfl (λh2=>?_) (λh2=>?_)
  have dR:=ej (ps:=t.ai) (i:=gg) om
  obtain⟨b1,eh,pa,pn,pc,rfl,gV,dZ,fG⟩:=fC aQ dR
  subst dZ
  have yC:=cF.nth (i:=gg) om
  have lW:=kB (t:=t) (i:=gg) om
  have atg:=Sx cF hk
  have ath:=Sx cF (k:=gg+1) om
  have KO:=Su (ps:=t.ai) (k:=gg) om
  have BP:=congrArg List.length KO
  rw[lA,lC] at BP
  refine WZ ?_
  have fb:=ak.refl [] w3
  refine WL ?_
  refine zL oz dD rfl (gV.ext hK) rfl<|da dD rfl rfl rfl λw4 aN bQ ga=>?_
  have hK:=hK.grow;have hK:=hK.ext aN;have fb:=fb.grow;have fb:=fb.ext aN
  refine zA<|cu dD rfl rfl rfl bQ rfl λw5 aJ bQ iq=>?_
  have hK:=hK.aD aJ sx;have fb:=fb.aD aJ sx
  refine W ?_
  refine iS (λ_:Unit=>[(1,.pointer (some ⟨b,0,none⟩)),(2,.pointer (some ⟨w.heap.size,0,none⟩)),(5,.pointer (some ⟨w3.heap.size,0,none⟩)),(13,.slice (some ⟨b1,eh,none⟩) t.ai.length c),(14,.int .i64 (t.ai.length:Int)),(15,.int .i64 (gg:Int))]) (λ_ w'=>ak [] w0 w'∧Bd w0.heap.size b (l++pre (t.ai.take gg)++[if gg=0 then 40 else 32]) w'∧pK w0.heap.size b w w'∧w.heap.size<=w'.heap.size∧aL w' w3.heap.size [str (nth t.ai gg).av,.slice pa (nth t.ai gg).ai.length pc].toArray 66) ?_ ?_
  refine zc rfl (λh3=>?_) (λh3=>?_)
  have yD:gg=0:=by omega
  refine lv<|zm<|aA (QQ w0.heap.size b _ 40 de w5 (wk.ext fb) so (by have:=hK.size;omega)) ?_
  rintro _ w6 ⟨zW,kv⟩
  have dz:=kv.below.size
  refine W ?_
  exact⟨(),⟨rfl,rfl,rfl,rfl,rfl,rfl⟩,kv.aG hK,by rw[iP yD];exact zW,(hF.trans (pK.of fb (by have:=hF.below.size;omega))).trans kv,by have:=fb.size;omega,bQ.others kv om de⟩
  have yD:¬gg=0:=by omega
  refine lv<|zm<|aA (QQ w0.heap.size b _ 32 de w5 (wk.ext fb) so (by have:=hK.size;omega)) ?_
  rintro _ w6 ⟨zW,kv⟩
  have dz:=kv.below.size
  refine W ?_
  exact⟨(),⟨rfl,rfl,rfl,rfl,rfl,rfl⟩,kv.aG hK,by rw[iN yD];exact zW,(hF.trans (pK.of fb (by have:=hF.below.size;omega))).trans kv,by have:=fb.size;omega,bQ.others kv om de⟩
  intro gu w7 e7 hI
  clear hK wk hF bQ fb
  obtain⟨hK,wk,hF,ati,bQ⟩:=hI
  refine W ?_
  refine aA (ih (nth t.ai gg) om yC _ L w0 w7 b _ (jh fG) hK om wk so om) ?_
  rintro _ w8 ⟨rfl,zW,kv⟩
  have dz:=kv.below.size
  have hK:=kv.aG hK
  refine W ?_
  exact⟨gg+1,⟨rfl,rfl,rfl,rfl,rfl⟩,⟨hK,by rw[KO];simpa using zW,hF.trans kv,om,om⟩,om⟩
  have fH:gg=t.ai.length:=by omega
  have Bi:=Sv cF om
  have mZ:=congrArg List.length Bi
  rw[lA] at mZ
  subst fH
  refine W ?_
  refine aA (QQ w0.heap.size b _ 41 de w3 wk (by simp at mZ⊢;omega) (by have:=hK.size;omega)) ?_
  rintro _ w4 ⟨zW,kv⟩
  refine W ?_
  exact⟨_,rfl,rfl,by rw[<-Bi,<-List.append_assoc];exact zW,hF.trans kv⟩
theorem Y0 (t:aq) (cF:WF t) (kW:t.size<=100000000) (hl:t.text.length<=100000000) (v:Value) (L:List Nat) (w:World) (hv:bh L w v t):
  bC Tryz.prog 48 [v] w λr w'=>r=str t.text∧ak [] w w':=by
 have cm:=hv
 obtain⟨a,n,c,rfl,hn,aQ⟩:=cS hv
 have hK:=ak.refl [] w
 refine cj [.tmp 2] 7 Tryz.func48 rfl adC rfl rfl ?_
 refine zr<|ey rfl λw1 aI aT di=>zA<|aV<|zr<|da MV rfl rfl rfl λw2 az bU dK=>?_
 have aT:=aT.ext az
 refine W ?_
 refine aA (aoW t.size t (lR _) cF _ L w1 w2 w1.heap.size [] (cm.ext aI) az om (.inl ⟨lR _,_,bU,⟨rfl,.inl ⟨rfl,rfl⟩⟩,by simp[Value.ownBlock]⟩) so om) ?_
 rintro _ w3 ⟨rfl,wk,hF⟩
 refine aV<|zr<|aA (aoV w1.heap.size w1.heap.size _ w3 wk (by have:=hF.below.size;omega)) ?_
 rintro _ w4 ⟨rfl,aN⟩
 refine W ?_
 exact⟨_,rfl,rfl,aI.trans (D3 (hF.aG az) aN)⟩
theorem Y1 (ts:List aq) (h:MK ts) (v:Value) (L:List Nat) (w:World) (hv:cX L w v ts):
  bC Tryz.prog 41 [v] w λr w'=>(∃a n c g,r= .slice a n c∧n=ts.length∧cE w' 9 (.slice a n c) g (ts.map aq.text)∧(∀b,g=some b->w.heap.size<=b)∧(ts=[]->g=none))∧ak [] w w':=by
 obtain⟨a,c,rfl⟩:=QM hv
 have hK:=ak.refl [] w
 have hl:=h.1
 refine cj [.tmp 2] 19 Tryz.func41 rfl adw rfl rfl ?_
 refine W ?_
 refine eO (λq:Nat×Option Addr×Nat×Option Nat=>[(3,.slice q.2.1 ((ts.take q.1).map aq.text).length q.2.2.1),(6,.slice a ts.length c),(7,.int .i64 (ts.length:Int)),(8,.int .i64 (q.1:Int))]) (λq w'=>ak [] w w'∧Gr w.heap.size [] w' 9 1 (.slice q.2.1 ((ts.take q.1).map aq.text).length q.2.2.1) q.2.2.2 (gL ((ts.take q.1).map aq.text))∧q.1<=ts.length∧(q.1=0->q.2.2.2=none)) (λq=>ts.length-q.1) ((0,none,0,none)) (⟨rfl,rfl,rfl,rfl⟩) (⟨hK,Gr.nil sm om,sm,λ_=>rfl⟩) λgg w1 e1 hI=>?_
 obtain⟨i,a3,cc,g⟩:=gg
 dsimp only at hI⊢
 obtain⟨hK,hO,hk,yD⟩:=hI
 have fU:=hK.size
 refine W ?_
 refine zc rfl (λh1=>?_) (λh1=>?_)
 have dR:=ej (ps:=ts) (i:=i) om
 obtain⟨b1,eh,pa,pn,pc,rfl,gV,dZ,fG⟩:=fC hv dR
 obtain⟨cF,df,dz⟩:=h.2 (nth ts i) (List.mem_of_getElem? dR)
 refine WL ?_
 refine zL oz dD rfl (gV.ext hK) rfl<|da dD rfl rfl rfl λw2 az bQ dK=>?_
 have hK:=hK.grow;have hK:=hK.ext az;have hO:=hO.alloc az dK
 refine cu dD rfl rfl rfl bQ rfl λw3 aH bQ fS=>?_
 have hK:=hK.aD aH sx;have hO:=hO.aD aH sx
 refine W ?_
 refine aA (Y0 (nth ts i) cF df dz _ L w3 ((jh fG).ext hK)) ?_
 rintro _ w4 ⟨rfl,aN⟩
 have fg:=aN.size
 refine bL aN hK hO λhK hO=>?_
 refine fo bo bm rfl rfl λw5 aJ E2 iq=>bL aJ hK hO λhK hO=>?_
 refine Mh bo bm rfl rfl rfl rfl rfl rfl hO E2 (by rw[wK _ hk];omega) λa4 fT g4 w6 gz bB=>?_
 have hK:=hO.since hK bB
 rw[yj aq.text dR] at gz⊢
 refine W ?_
 exact⟨(i+1,a4,fT,g4),⟨rfl,rfl,rfl,rfl⟩,⟨hK,gz.fV sm,by dsimp only;omega,by dsimp only;intro h;omega⟩,by dsimp only;omega⟩
 rw[yk aq.text om] at hO⊢
 refine W ?_
 exact⟨_,rfl,⟨_,_,_,g,rfl,List.length_map _,hO.vh,hO.low,λh=>yD (by rw[h] at hk;simp at hk;omega)⟩,hK⟩
def Y2 (B:Nat) (bs:List Bk) (v:Value) (w:World):Prop:=∃g gss vss,j3 w 58 9 v g gss vss bs∧∀x,x∈g.toList++eT gss->B<=x
theorem QR:Y2 B [] (.slice none 0 0) w:=⟨none,[],[],j3.nil,by simp[eT]⟩
def wm (B:Nat) (ts:List aq) (v:Value) (w:World):Prop:=∃a n c g,v= .slice a n c∧cE w 9 (.slice a n c) g (ts.map aq.text)∧(∀b,g=some b->B<=b)∧(ts=[]->g=none)
theorem wm.ext (h:wm B ts v w) (k:ak [] w w'):wm B ts v w':=by
 obtain⟨a,n,c,g,e,h1,h2⟩:=h;exact⟨a,n,c,g,e,h1.ext k,h2⟩
def D4 (B:Nat) (l:aj) (ts us:List aq) (v:Value) (w:World):Prop:=∃a1 n1 c1 g1 a2 n2 c2 g2,v= .agg #[str l,.slice a1 n1 c1,.slice a2 n2 c2]∧
 (cE w 9 (.slice a1 n1 c1) g1 (ts.map aq.text)∧(∀b,g1=some b->B<=b)∧(ts=[]->g1=none))∧(cE w 9 (.slice a2 n2 c2) g2 (us.map aq.text)∧(∀b,g2=some b->B<=b)∧(us=[]->g2=none))
theorem D4.ext {us:List aq} (h:D4 B l ts us v w) (k:ak [] w w'):D4 B l ts us v w':=by
 obtain⟨a1,n1,c1,g1,a2,n2,c2,g2,e,h1,h2⟩:=h;exact⟨a1,n1,c1,g1,a2,n2,c2,g2,e,⟨h1.1.ext k,h1.2⟩,h2.1.ext k,h2.2⟩
def FP (B:Nat) (l:aj) (ts us:List aq) (v:Value) (w:World):Prop:=∃b a1 n1 c1 g1 a2 n2 c2 g2,v= .slice (some ⟨b,0,none⟩) 1 1∧aL w b [str l,.slice a1 n1 c1,.slice a2 n2 c2].toArray 58∧
 (cE w 9 (.slice a1 n1 c1) g1 (ts.map aq.text)∧(∀b,g1=some b->B<=b)∧(ts=[]->g1=none))∧(cE w 9 (.slice a2 n2 c2) g2 (us.map aq.text)∧(∀b,g2=some b->B<=b)∧(us=[]->g2=none))
theorem FP.ext {us:List aq} (h:FP B l ts us v w) (k:ak [] w w'):FP B l ts us v w':=by
 obtain⟨b,a1,n1,c1,g1,a2,n2,c2,g2,e,hb,h1,h2⟩:=h;exact⟨b,a1,n1,c1,g1,a2,n2,c2,g2,e,hb.ext k,⟨h1.1.ext k,h1.2⟩,h2.1.ext k,h2.2⟩
theorem Y3 {u:aq}:((!(decide ((u.ai.length:Int)=4)&&decide (cH u=[98,108,111,99,107]))||decide (cH (nth u.ai 2)≠[114,101,103,115]))||decide (cH (nth u.ai 3)≠[99,111,100,101]))=!oy u:=by
 rw[<-MH rfl,Bool.not_and,<-decide_not,<-decide_not,Bool.or_comm (decide ¬((u.ai.length:Int)=4))]
theorem aoX (s:aj) (w:World):
  bC Tryz.prog 12 [str s] w λr w'=>(∃a n c,r= .tuple #[.slice a n c,.bool (nO s).isSome]∧Y2 w.heap.size ((nO s).getD []) (.slice a n c) w')∧ak [] w w':=by
 have hK:=ak.refl [] w
 refine cj [.tmp 2,.tmp 3] 76 Tryz.func12 rfl abQ rfl rfl ?_
 refine W ?_
 refine aA (QO s [] w sm) ?_
 rintro v1 w1 ⟨fK,aI⟩
 have df:=aI.size
 have hK:=hK.ext aI
 obtain⟨t,tv,rfl,ht,hp⟩:=fK
 obtain⟨pa,pn,pc,rfl,dZ,aQ⟩:=cS ht
 subst dZ
 refine W ?_
 refine da dD rfl rfl rfl λw2 az aF dK=>?_
 have hK:=hK.grow;have hK:=hK.ext az;have ht:=ht.grow;have ht:=ht.ext az
 refine cu dD rfl rfl rfl aF rfl λw3 aH aF fS=>?_
 have hK:=hK.aD aH sx;have ht:=ht.aD aH sx
 refine W ?_
 apply oO 4 16 20 (ak [] w3) rfl oQ
 intro h1
 have cF:=(Cv hp (by simpa using h1)).1
 refine W ?_
 refine aA (B7 t cF _ _ w3 ht) ?_
 rintro _ w4 ⟨rfl,aN⟩
 have fg:=aN.size
 exact oQ
 intro xx w5 aJ
 refine cO aJ hK ht aF λhK ht aF=>?_
 refine aV<|zc rfl (λh2=>?_) (λh2=>?_)
 have hq:=SA hp h2
 refine W ?_
 exact⟨_,rfl,⟨_,_,_,by rw[hq];rfl,by rw[hq];exact QR⟩,hK⟩
 obtain⟨mr,bI,jS⟩:=SB hp h2
 have B5:=MI mr
 have B6:=(pU mr).1
 have lK:=mP t
 have Oh:=B5.size
 have ze:=YC ht
 have mn:=hK.size
 obtain⟨b0,yV,_,_,_,rfl,_,_,_⟩:=fC ze (ej (ps:=t.ai) (i:=0) jS)
 refine W ?_
 refine xY (l:=1) lG dD rfl rfl rfl rfl om ze λp9 ba=>?_
 have ba:cX [] w5 p9 (t.ai.drop 1):=cX.fV (by rw[cX,Co];exact ba) sm
 obtain⟨a1,c1,rfl⟩:=QM ba
 have Ed:(t.ai.drop 1).length=t.ai.length-1:=List.length_drop
 have dC:=ak.refl [] w5
 refine W ?_
 refine eO (λq:Nat×Option Addr×Nat×Option Nat×List (Option Nat×Option Nat)×List (List Value)=>[(6,.slice q.2.1 (((t.ai.drop 1).take q.1).map kP).length q.2.2.1),(23,.slice a1 (t.ai.drop 1).length c1),(24,.int .i64 ((t.ai.drop 1).length:Int)),(25,.int .i64 (q.1:Int))]) (λq w'=>ak [] w w'∧ak [] w5 w'∧qO w5.heap.size w' 58 9 (.slice q.2.1 (((t.ai.drop 1).take q.1).map kP).length q.2.2.1) q.2.2.2.1 q.2.2.2.2.1 q.2.2.2.2.2 (((t.ai.drop 1).take q.1).map kP)∧q.1<=(t.ai.drop 1).length) (λq=>(t.ai.drop 1).length-q.1) ((0,none,0,none,[],[])) (⟨rfl,rfl,rfl,rfl⟩) (⟨hK,dC,qO.nil (lR _),sm⟩) λgg w6 e6 hI=>?_
 obtain⟨i,a3,cc,g,gss,vss⟩:=gg
 dsimp only at hI⊢
 obtain⟨hK,dC,hO,hk⟩:=hI
 have fU:=hK.size
 have aoM:=dC.size
 have fb:=ak.refl [] w6
 refine W ?_
 refine zc rfl (λh3=>?_) (λh3=>?_)
 have tO:=MJ (t:=t) (k:=i) om
 have dR:=ej (ps:=t.ai) (i:=i+1) om
 obtain⟨b1,eh,qa,qn,qc,rfl,gV,QH,uO⟩:=fC ba tO
 subst QH
 have CT:=B5.nth (i:=i+1) B6 om
 have EJ:=B6.nth (i:=i+1) om
 refine WL ?_
 refine zL oz dD rfl (gV.ext dC) rfl<|da dD rfl rfl rfl λw7 bJ cz l4=>?_
 have hK:=hK.grow;have hK:=hK.ext bJ;have dC:=dC.grow;have dC:=dC.ext bJ;have fb:=fb.grow;have fb:=fb.ext bJ
 refine cu dD rfl rfl rfl cz rfl λw8 aU cz kV=>?_
 have hK:=hK.aD aU sx;have dC:=dC.aD aU sx;have fb:=fb.aD aU sx
 refine W ?_
 refine aA (YN (nth t.ai (i+1)) CT.wf _ _ _ _ w8 (bh.ext (jh uO) dC)) ?_
 rintro _ w9 ⟨rfl,aC⟩
 have lf:=aC.size
 refine gH aC hK dC fb cz λhK dC fb cz=>?_
 refine WZ ?_
 apply oO 7 32 39 (ak [] w9) rfl oQ
 intro h4
 have h4:(nth t.ai (i+1)).ai.length=4:=by simp at h4;omega
 obtain⟨b2,kY,q2a,q2n,q2c,rfl,bZ,NH,gi⟩:=fC uO (ej (ps:=(nth t.ai (i+1)).ai) (i:=2) om)
 refine zf Gy rfl<|zl GB rfl (cz.at rfl)<|zi (i:=2) lG dD rfl rfl om<|zL oz dD rfl (bZ.ext dC) rfl<|aA (B7 (nth (nth t.ai (i+1)).ai 2) (CT.wf.nth om) _ _ w9 (bh.ext (jh gi) dC)) ?_
 rintro _ cB ⟨rfl,cA⟩
 have zn:=cA.size
 exact oQ
 intro xx eC dh
 refine gH dh hK dC fb cz λhK dC fb cz=>?_
 refine WZ ?_
 apply oO 7 40 47 (ak [] eC) rfl oQ
 intro h5
 have h4:(nth t.ai (i+1)).ai.length=4:=by simp at h5;omega
 obtain⟨b3,xe,q3a,q3n,q3c,rfl,dP,NI,r7⟩:=fC uO (ej (ps:=(nth t.ai (i+1)).ai) (i:=3) om)
 refine zf Gy rfl<|zl GB rfl (cz.at rfl)<|zi (i:=3) lG dD rfl rfl om<|zL oz dD rfl (dP.ext dC) rfl<|aA (B7 (nth (nth t.ai (i+1)).ai 3) (CT.wf.nth om) _ _ eC (bh.ext (jh r7) dC)) ?_
 rintro _ fI ⟨rfl,dw⟩
 have BC:=dw.size
 exact oQ
 intro xx jE gB
 refine gH gB hK dC fb cz λhK dC fb cz=>?_
 refine aV<|zc rfl (λh6=>?_) (λh6=>?_)
 rw[Y3] at h6
 have hq:nO s=none:=by rw[bI,iN (by rw[af0 (i:=i) om (by simpa using h6)];simp)]
 refine W ?_
 exact⟨_,rfl,⟨_,_,_,by rw[hq];rfl,by rw[hq];exact QR⟩,hK⟩
 rw[Y3] at h6
 have hb:oy (nth t.ai (i+1))=true:=by simpa using h6
 have h4:=Gu hb
 clear h6
 generalize hu:nth t.ai (i+1)=u at*
 obtain⟨b,off,q1a,q1n,q1c,rfl,bM,afO,kX⟩:=fC uO (ej (ps:=u.ai) (i:=1) om)
 obtain⟨b2,kY,q2a,q2n,q2c,kL,bZ,NH,gi⟩:=fC uO (ej (ps:=u.ai) (i:=2) om)
 cases kL
 obtain⟨b3,xe,q3a,q3n,q3c,EE,dP,NI,r7⟩:=fC uO (ej (ps:=u.ai) (i:=3) om)
 cases EE
 have He:cH (nth u.ai 2)=[114,101,103,115]:=by unfold oy at hb;simp only[aE,dE] at hb;exact hb.1.2
 have Hf:cH (nth u.ai 3)=[99,111,100,101]:=by unfold oy at hb;simp only[aE,dE] at hb;exact hb.2
 have qM:0<(nth u.ai 2).ai.length:=Nat.pos_of_ne_zero λh=>by rw[sF (.inr (List.length_eq_zero_iff.1 h))] at He;cases He
 have ui:0<(nth u.ai 3).ai.length:=Nat.pos_of_ne_zero λh=>by rw[sF (.inr (List.length_eq_zero_iff.1 h))] at Hf;cases Hf
 obtain⟨b4,yE,_,_,_,rfl,_,_,_⟩:=fC gi (ej (ps:=(nth u.ai 2).ai) (i:=0) qM)
 obtain⟨b5,yF,_,_,_,rfl,_,_,_⟩:=fC r7 (ej (ps:=(nth u.ai 3).ai) (i:=0) ui)
 have fp:=Jl (CT.nth (i:=2) EJ om) (EJ.nth (i:=2) om) 1
 have sZ:=Jl (CT.nth (i:=3) EJ om) (EJ.nth (i:=3) om) 1
 refine WZ ?_
 refine sE du bF 22 (rA 48 22) (rA 48 22) [[],[],[1],[2],[3],[4],[],[6],[7],[8],[9],[10],[11],[],[13],[14],[15],[16],[17],[18],[5,12,19],[20]] [λv _=>v=(.slice a3 (((t.ai.drop 1).take i).map kP).length cc),λv _=>v=(.pointer (some ⟨w6.heap.size,0+1,none⟩)),λv _=>v=(.slice (some ⟨b,off,none⟩) u.ai.length qc),λv _=>v=(.pointer (some ⟨b,off+1*2,none⟩)),λv _=>v=(.pointer (some ⟨b,off+1*2+0,none⟩)),λv _=>v=(str (nth u.ai 1).av),λv _=>v=(.pointer (some ⟨w6.heap.size,0+1,none⟩)),λv _=>v=(.slice (some ⟨b,off,none⟩) u.ai.length qc),λv _=>v=(.pointer (some ⟨b,off+2*2,none⟩)),λv _=>v=(.pointer (some ⟨b,off+2*2+1,none⟩)),λv _=>v=(.slice (some ⟨b4,yE,none⟩) q2n q2c),fun(v:Value) (ww:World)=>cX [] ww v ((nth u.ai 2).ai.drop 1),fun(v:Value) (ww:World)=>wm w6.heap.size ((nth u.ai 2).ai.drop 1) v ww,λv _=>v=(.pointer (some ⟨w6.heap.size,0+1,none⟩)),λv _=>v=(.slice (some ⟨b,off,none⟩) u.ai.length qc),λv _=>v=(.pointer (some ⟨b,off+3*2,none⟩)),λv _=>v=(.pointer (some ⟨b,off+3*2+1,none⟩)),λv _=>v=(.slice (some ⟨b5,yF,none⟩) q3n q3c),fun(v:Value) (ww:World)=>cX [] ww v ((nth u.ai 3).ai.drop 1),fun(v:Value) (ww:World)=>wm w6.heap.size ((nth u.ai 3).ai.drop 1) v ww,fun(v:Value) (ww:World)=>D4 w6.heap.size (nth u.ai 1).av ((nth u.ai 2).ai.drop 1) ((nth u.ai 3).ai.drop 1) v ww,fun(v:Value) (ww:World)=>FP w6.heap.size (nth u.ai 1).av ((nth u.ai 2).ai.drop 1) ((nth u.ai 3).ai.drop 1) v ww] de (cR (cR (cR (cR (cR (cR (cR (cR (cR (cR (cR (mL (λv w w' h k=>cX.ext h k) (mL (λv w w' h k=>wm.ext h k) (cR (cR (cR (cR (cR (mL (λv w w' h k=>cX.ext h k) (mL (λv w w' h k=>wm.ext h k) (mL (λv w w' h k=>D4.ext h k) (mL (λv w w' h k=>FP.ext h k) trivial)))))))))))))))))))))) (λwd aB=>?_) ?_
 refine bV ?_ ?_
 intro x vs eI e bS hd he
 replace bS:=bF.trans aB bS
 replace he:e=aS (aR _ x _) []:=he
 subst he
 refine W ?_
 exact dn (bF.refl _) rfl
 refine bV ?_ ?_
 intro x vs eI e bS hd he
 replace bS:=bF.trans aB bS
 replace he:e=aS (aR _ x _) []:=he
 subst he
 refine W ?_
 exact dn (bF.refl _) rfl
 refine bV ?_ ?_
 intro x vs eI e bS hd he
 have d1:vs 1=(.pointer (some ⟨w6.heap.size,0+1,none⟩)):=hd
 replace bS:=bF.trans aB bS
 have cz:=cz.ext bS
 replace he:e=aS (aR _ x _) [(49,vs 1)]:=he
 rw[d1] at he
 subst he
 refine W ?_
 exact dn (bF.refl _) rfl
 refine bV ?_ ?_
 intro x vs eI e bS hd he
 have d2:vs 2=(.slice (some ⟨b,off,none⟩) u.ai.length qc):=hd
 replace bS:=bF.trans aB bS
 replace he:e=aS (aR _ x _) [(50,vs 2)]:=he
 rw[d2] at he
 subst he
 refine zi (i:=1) lG dD rfl rfl om<|aV ?_
 exact dn (bF.refl _) rfl
 refine bV ?_ ?_
 intro x vs eI e bS hd he
 have d3:vs 3=(.pointer (some ⟨b,off+1*2,none⟩)):=hd
 replace bS:=bF.trans aB bS
 replace he:e=aS (aR _ x _) [(51,vs 3)]:=he
 rw[d3] at he
 subst he
 refine W ?_
 exact dn (bF.refl _) rfl
 refine bV ?_ ?_
 intro x vs eI e bS hd he
 have d4:vs 4=(.pointer (some ⟨b,off+1*2+0,none⟩)):=hd
 replace bS:=bF.trans aB bS
 have dC:=dC.ext bS
 replace he:e=aS (aR _ x _) [(52,vs 4)]:=he
 rw[d4] at he
 subst he
 refine zl gv rfl (bM.ext dC 0 _ rfl)<|aV ?_
 exact dn (bF.refl _) rfl
 refine bV ?_ ?_
 intro x vs eI e bS hd he
 replace bS:=bF.trans aB bS
 replace he:e=aS (aR _ x _) []:=he
 subst he
 refine W ?_
 exact dn (bF.refl _) rfl
 refine bV ?_ ?_
 intro x vs eI e bS hd he
 have d6:vs 6=(.pointer (some ⟨w6.heap.size,0+1,none⟩)):=hd
 replace bS:=bF.trans aB bS
 have cz:=cz.ext bS
 replace he:e=aS (aR _ x _) [(54,vs 6)]:=he
 rw[d6] at he
 subst he
 refine W ?_
 exact dn (bF.refl _) rfl
 refine bV ?_ ?_
 intro x vs eI e bS hd he
 have d7:vs 7=(.slice (some ⟨b,off,none⟩) u.ai.length qc):=hd
 replace bS:=bF.trans aB bS
 replace he:e=aS (aR _ x _) [(55,vs 7)]:=he
 rw[d7] at he
 subst he
 refine zi (i:=2) lG dD rfl rfl om<|aV ?_
 exact dn (bF.refl _) rfl
 refine bV ?_ ?_
 intro x vs eI e bS hd he
 have d8:vs 8=(.pointer (some ⟨b,off+2*2,none⟩)):=hd
 replace bS:=bF.trans aB bS
 replace he:e=aS (aR _ x _) [(56,vs 8)]:=he
 rw[d8] at he
 subst he
 refine W ?_
 exact dn (bF.refl _) rfl
 refine bV ?_ ?_
 intro x vs eI e bS hd he
 have d9:vs 9=(.pointer (some ⟨b,off+2*2+1,none⟩)):=hd
 replace bS:=bF.trans aB bS
 have dC:=dC.ext bS
 replace he:e=aS (aR _ x _) [(57,vs 9)]:=he
 rw[d9] at he
 subst he
 refine zl GB rfl (bZ.ext dC 1 _ rfl)<|aV ?_
 exact dn (bF.refl _) rfl
 refine bV ?_ ?_
 intro x vs eI e bS hd he
 have d10:vs 10=(.slice (some ⟨b4,yE,none⟩) q2n q2c):=hd
 replace bS:=bF.trans aB bS
 have dC:=dC.ext bS
 replace he:e=aS (aR _ x _) [(58,vs 10)]:=he
 rw[d10] at he
 subst he
 refine xY (l:=1) lG dD rfl rfl rfl rfl om (cX.ext gi dC) λp9 ba=>W ?_
 exact dn (bF.refl _) (show cX [] _ p9 _ from by rw[cX,Co];exact ba)
 refine bV ?_ ?_
 intro x vs eI e bS hd he
 have d11:(fun(v:Value) (ww:World)=>cX [] ww v ((nth u.ai 2).ai.drop 1)) (vs 11) eI:=hd
 replace bS:=bF.trans aB bS
 have fb:=fb.ext bS
 replace he:e=aS (aR _ x _) [(59,vs 11)]:=he
 subst he
 have LC:=fb.size
 refine aA (Y1 _ fp _ _ eI d11) ?_
 rintro vR oo ⟨Iv,iA⟩
 have Ih:=iA.size
 obtain⟨a7,n7,c7,g7,rfl,hn7,jd,QS,l4⟩:=Iv
 refine W ?_
 exact dn (bF.of iA) ⟨a7,n7,c7,g7,rfl,jd,λb hb=>Nat.le_trans LC (QS b hb),l4⟩
 refine bV ?_ ?_
 intro x vs eI e bS hd he
 replace bS:=bF.trans aB bS
 replace he:e=aS (aR _ x _) []:=he
 subst he
 refine W ?_
 exact dn (bF.refl _) rfl
 refine bV ?_ ?_
 intro x vs eI e bS hd he
 have d13:vs 13=(.pointer (some ⟨w6.heap.size,0+1,none⟩)):=hd
 replace bS:=bF.trans aB bS
 have cz:=cz.ext bS
 replace he:e=aS (aR _ x _) [(61,vs 13)]:=he
 rw[d13] at he
 subst he
 refine W ?_
 exact dn (bF.refl _) rfl
 refine bV ?_ ?_
 intro x vs eI e bS hd he
 have d14:vs 14=(.slice (some ⟨b,off,none⟩) u.ai.length qc):=hd
 replace bS:=bF.trans aB bS
 replace he:e=aS (aR _ x _) [(62,vs 14)]:=he
 rw[d14] at he
 subst he
 refine zi (i:=3) lG dD rfl rfl om<|aV ?_
 exact dn (bF.refl _) rfl
 refine bV ?_ ?_
 intro x vs eI e bS hd he
 have d15:vs 15=(.pointer (some ⟨b,off+3*2,none⟩)):=hd
 replace bS:=bF.trans aB bS
 replace he:e=aS (aR _ x _) [(63,vs 15)]:=he
 rw[d15] at he
 subst he
 refine W ?_
 exact dn (bF.refl _) rfl
 refine bV ?_ ?_
 intro x vs eI e bS hd he
 have d16:vs 16=(.pointer (some ⟨b,off+3*2+1,none⟩)):=hd
 replace bS:=bF.trans aB bS
 have dC:=dC.ext bS
 replace he:e=aS (aR _ x _) [(64,vs 16)]:=he
 rw[d16] at he
 subst he
 refine zl GB rfl (dP.ext dC 1 _ rfl)<|aV ?_
 exact dn (bF.refl _) rfl
 refine bV ?_ ?_
 intro x vs eI e bS hd he
 have d17:vs 17=(.slice (some ⟨b5,yF,none⟩) q3n q3c):=hd
 replace bS:=bF.trans aB bS
 have dC:=dC.ext bS
 replace he:e=aS (aR _ x _) [(65,vs 17)]:=he
 rw[d17] at he
 subst he
 refine xY (l:=1) lG dD rfl rfl rfl rfl om (cX.ext r7 dC) λp9 ba=>W ?_
 exact dn (bF.refl _) (show cX [] _ p9 _ from by rw[cX,Co];exact ba)
 refine bV ?_ ?_
 intro x vs eI e bS hd he
 have d18:(fun(v:Value) (ww:World)=>cX [] ww v ((nth u.ai 3).ai.drop 1)) (vs 18) eI:=hd
 replace bS:=bF.trans aB bS
 have fb:=fb.ext bS
 replace he:e=aS (aR _ x _) [(66,vs 18)]:=he
 subst he
 have LC:=fb.size
 refine aA (Y1 _ sZ _ _ eI d18) ?_
 rintro vR oo ⟨Iv,iA⟩
 have Ih:=iA.size
 obtain⟨a7,n7,c7,g7,rfl,hn7,jd,QS,l4⟩:=Iv
 refine W ?_
 exact dn (bF.of iA) ⟨a7,n7,c7,g7,rfl,jd,λb hb=>Nat.le_trans LC (QS b hb),l4⟩
 refine bV ?_ ?_
 intro x vs eI e bS hd he
 have aY:(vs 5=(str (nth u.ai 1).av))∧((fun(v:Value) (ww:World)=>wm w6.heap.size ((nth u.ai 2).ai.drop 1) v ww) (vs 12) eI)∧((fun(v:Value) (ww:World)=>wm w6.heap.size ((nth u.ai 3).ai.drop 1) v ww) (vs 19) eI):=hd
 obtain⟨d5,d12,d19⟩:=aY
 replace bS:=bF.trans aB bS
 replace he:e=aS (aR _ x _) [(53,vs 5),(60,vs 12),(67,vs 19)]:=he
 rw[d5] at he
 obtain⟨a7,n7,c7,g7,e7,h7⟩:=d12
 obtain⟨a8,n8,c8,g8,e8,h8⟩:=d19
 rw[e7,e8] at he
 subst he
 refine iT (Gx _ _ _ _ _ _ _ _) rfl rfl<|aV ?_
 exact dn (bF.refl _) ⟨a7,n7,c7,g7,a8,n8,c8,g8,rfl,h7,h8⟩
 refine bV ?_ ?_
 intro x vs eI e bS hd he
 have d20:(fun(v:Value) (ww:World)=>D4 w6.heap.size (nth u.ai 1).av ((nth u.ai 2).ai.drop 1) ((nth u.ai 3).ai.drop 1) v ww) (vs 20) eI:=hd
 replace bS:=bF.trans aB bS
 replace he:e=aS (aR _ x _) [(68,vs 20)]:=he
 obtain⟨a7,n7,c7,g7,a8,n8,c8,g8,e7,h7,h8⟩:=d20
 rw[e7] at he
 subst he
 refine fo jH fD rfl rfl λoo iA aoZ HI=>W ?_
 exact dn (bF.of iA) ⟨_,a7,n7,c7,g7,a8,n8,c8,g8,rfl,aoZ,⟨h7.1.ext iA,h7.2⟩,⟨h8.1.ext iA,h8.2⟩⟩
 exact trivial
 intro x vs nI Fg bT
 have d0:vs 0=(.slice a3 (((t.ai.drop 1).take i).map kP).length cc):=bT 0 de
 have d1:vs 1=(.pointer (some ⟨w6.heap.size,0+1,none⟩)):=bT 1 de
 have d2:vs 2=(.slice (some ⟨b,off,none⟩) u.ai.length qc):=bT 2 de
 have d3:vs 3=(.pointer (some ⟨b,off+1*2,none⟩)):=bT 3 de
 have d4:vs 4=(.pointer (some ⟨b,off+1*2+0,none⟩)):=bT 4 de
 have d5:vs 5=(str (nth u.ai 1).av):=bT 5 de
 have d6:vs 6=(.pointer (some ⟨w6.heap.size,0+1,none⟩)):=bT 6 de
 have d7:vs 7=(.slice (some ⟨b,off,none⟩) u.ai.length qc):=bT 7 de
 have d8:vs 8=(.pointer (some ⟨b,off+2*2,none⟩)):=bT 8 de
 have d9:vs 9=(.pointer (some ⟨b,off+2*2+1,none⟩)):=bT 9 de
 have d10:vs 10=(.slice (some ⟨b4,yE,none⟩) q2n q2c):=bT 10 de
 have d11:(fun(v:Value) (ww:World)=>cX [] ww v ((nth u.ai 2).ai.drop 1)) (vs 11) nI:=bT 11 de
 have d12:(fun(v:Value) (ww:World)=>wm w6.heap.size ((nth u.ai 2).ai.drop 1) v ww) (vs 12) nI:=bT 12 de
 have d13:vs 13=(.pointer (some ⟨w6.heap.size,0+1,none⟩)):=bT 13 de
 have d14:vs 14=(.slice (some ⟨b,off,none⟩) u.ai.length qc):=bT 14 de
 have d15:vs 15=(.pointer (some ⟨b,off+3*2,none⟩)):=bT 15 de
 have d16:vs 16=(.pointer (some ⟨b,off+3*2+1,none⟩)):=bT 16 de
 have d17:vs 17=(.slice (some ⟨b5,yF,none⟩) q3n q3c):=bT 17 de
 have d18:(fun(v:Value) (ww:World)=>cX [] ww v ((nth u.ai 3).ai.drop 1)) (vs 18) nI:=bT 18 de
 have d19:(fun(v:Value) (ww:World)=>wm w6.heap.size ((nth u.ai 3).ai.drop 1) v ww) (vs 19) nI:=bT 19 de
 have d20:(fun(v:Value) (ww:World)=>D4 w6.heap.size (nth u.ai 1).av ((nth u.ai 2).ai.drop 1) ((nth u.ai 3).ai.drop 1) v ww) (vs 20) nI:=bT 20 de
 have d21:(fun(v:Value) (ww:World)=>FP w6.heap.size (nth u.ai 1).av ((nth u.ai 2).ai.drop 1) ((nth u.ai 3).ai.drop 1) v ww) (vs 21) nI:=bT 21 de
 refine cO Fg hK dC fb λhK dC fb=>?_
 change OW _ _ _ _ _ (aS (aR _ x _) (zZ 48 [vs 0,vs 1,vs 2,vs 3,vs 4,vs 5,vs 6,vs 7,vs 8,vs 9,vs 10,vs 11,vs 12,vs 13,vs 14,vs 15,vs 16,vs 17,vs 18,vs 19,vs 20,vs 21])) _
 rw[d0,d1,d2,d3,d4,d5,d6,d7,d8,d9,d10,d13,d14,d15,d16,d17]
 obtain⟨nb,a7,n7,c7,g7,a8,n8,c8,g8,e7,nY,h7,h8⟩:=d21
 rw[e7]
 refine afX (f:=Ej u) (gs:=(g7,g8)) jH fD rfl rfl rfl rfl rfl rfl (hO.ext fb) nY h7.1 h8.1 ?_ ⟨λh=>h7.2.2 (List.map_eq_nil_iff.1 h),λh=>h8.2.2 (List.map_eq_nil_iff.1 h)⟩ (by rw[wK _ hk];omega) ?_
 intro x hx;have Yo:w6.heap.size<=x:=by{simp only[gM,mA] at hx;rcases hx with hx|hx;exact h7.2.1 x (by simpa using hx);exact h8.2.1 x (by simpa using hx)};refine⟨by omega,λeA=>?_⟩;rcases mA.1 eA with h|h;have:=hO.own.lt x (by simpa using h);omega;have:=hO.lt x h;omega
 intro a4 fT g4 wb gz xO
 have je:∀b,g=some b->w5.heap.size<=b:=λb hb=>hO.low b (by simp[hb])
 have hK:=ak.Cq om je hK xO
 have dC:=ak.Cq (lR _) je dC xO
 rw[<-Jk hb,yj kP tO] at gz⊢
 refine W ?_
 exact⟨(i+1,a4,fT,g4,_,_),⟨rfl,rfl,rfl,rfl⟩,⟨hK,dC,gz,by dsimp only;omega⟩,by dsimp only;omega⟩
 have cZ:((t.ai.drop 1).take i).map kP=lE t:=yk kP om
 rw[cZ] at hO⊢
 refine W ?_
 refine aA (YY (lE t) (ML B5 B6) _ _ w6 hO.rep) ?_
 rintro _ w7 ⟨rfl,bJ⟩
 have jd:=bJ.size
 refine bL bJ hK fb λhK fb=>?_
 rw[afZ B5 B6]
 refine jY rfl rfl rfl<|aV<|zc rfl (λh7=>?_) (λh7=>?_)
 have hq:nO s=none:=by rw[bI,iN (by simpa using h7)]
 refine W ?_
 exact⟨_,rfl,⟨_,_,_,by rw[hq];rfl,by rw[hq];exact QR⟩,hK⟩
 have sB:iB (lE t)=true:=by simpa using h7
 have hq:nO s=some (lE t):=by rw[bI,iP sB]
 refine W ?_
 exact⟨_,rfl,⟨_,_,_,by rw[hq];rfl,by rw[hq];exact⟨g,gss,vss,(hO.ext fb).full sB,λx hx=>Nat.le_trans om (hO.low x hx)⟩⟩,hK⟩
theorem ao0:∀(m:Nat) (t:aq),t.size<=m->t.size<=1000000000->∀(v:Value) (L:List Nat) (w:World),bh L w v t->
  bC Tryz.prog 76 [v] w λr w'=>r= .int .i64 (t.depth:Int)∧ak [] w w':=by
 intro m
 induction m with
 |zero=>intro t h;have:=qB t;omega
 |succ m ih=>
  intro t hm kW v L w hv
  have cm:=hv
  obtain⟨a,n,c,rfl,hn,aQ⟩:=cS hv
  subst hn
  have lK:=mP t
  have hK:=ak.refl [] w
  have IC:=λk=>abr (t:=t) (k:=k)
  refine cj [.tmp 2] 22 Tryz.func76 rfl adT rfl rfl ?_
  refine zr<|ey rfl λw1 aI aT di=>?_
  have hK:=hK.ext aI
  refine W ?_
  refine aA (IN t _ L w1 (cm.ext hK)) ?_
  rintro _ w2 ⟨rfl,az⟩
  have dz:=az.size
  refine bL az hK aT λhK aT=>?_
  refine aV<|zc rfl (λh1=>?_) (λh1=>?_)
  have hd:=abo h1
  refine W ?_
  exact⟨_,rfl,by rw[hd];rfl,hK⟩
  have hd:=abp h1
  refine W ?_
  refine eO (λk:Nat=>[(3,.int .i64 (maxD (t.ai.take k):Int)),(9,.slice a t.ai.length c),(10,.int .i64 (t.ai.length:Int)),(11,.int .i64 (k:Int))]) (λk w'=>ak [] w w'∧k<=t.ai.length) (λk=>t.ai.length-k) (0) (⟨rfl,rfl,rfl,rfl⟩) (⟨hK,om⟩) λgg w3 e3 hI=>?_
  obtain⟨hK,hk⟩:=hI
  have fU:=hK.size
  have rG:=IC gg
  refine W ?_
  refine zc rfl (λh2=>?_) (λh2=>?_)
  have dR:=ej (ps:=t.ai) (i:=gg) om
  obtain⟨b1,eh,pa,pn,pc,rfl,gV,dZ,fG⟩:=fC aQ dR
  subst dZ
  have lW:=kB (t:=t) (i:=gg) om
  have aW:=abn (ps:=t.ai) (k:=gg) om
  refine WL ?_
  refine zL oz dD rfl (gV.ext hK) rfl<|da dD rfl rfl rfl λw4 aN bQ ga=>?_
  have hK:=hK.grow;have hK:=hK.ext aN
  refine cu dD rfl rfl rfl bQ rfl λw5 aJ bQ iq=>?_
  have hK:=hK.aD aJ sx
  refine W ?_
  refine aA (ih (nth t.ai gg) om om _ L w5 ((jh fG).ext hK)) ?_
  rintro _ w6 ⟨rfl,bB⟩
  have ku:=bB.size
  have hK:=hK.ext bB
  refine Rl rfl rfl rfl rfl (show(if((maxD (t.ai.take gg):Nat):Int)<((nth t.ai gg).depth:Int) then((nth t.ai gg).depth:Int) else((maxD (t.ai.take gg):Nat):Int))=((maxD (t.ai.take (gg+1)):Nat):Int) from by rw[aW];split<;>omega)<|W ?_
  exact⟨gg+1,⟨rfl,rfl,rfl,rfl⟩,⟨hK,om⟩,om⟩
  have fH:gg=t.ai.length:=by omega
  subst fH
  refine W ?_
  exact⟨_,rfl,by rw[hd];rfl,hK⟩
theorem ao1:∀(m:Nat) (t:aq),t.size<=m->t.size<=1000000000->t.len<=1000000000->∀(v:Value) (L:List Nat) (w:World),bh L w v t->
  bC Tryz.prog 77 [v] w λr w'=>r= .int .i64 (t.len:Int)∧ak [] w w':=by
 intro m
 induction m with
 |zero=>intro t h;have:=qB t;omega
 |succ m ih=>
  intro t hm kW fP v L w hv
  have cm:=hv
  obtain⟨a,n,c,rfl,hn,aQ⟩:=cS hv
  subst hn
  have lK:=mP t
  have hK:=ak.refl [] w
  refine cj [.tmp 2] 25 Tryz.func77 rfl adU rfl rfl ?_
  refine zr<|ey rfl λw1 aI aT di=>?_
  have hK:=hK.ext aI
  refine W ?_
  refine aA (IN t _ L w1 (cm.ext hK)) ?_
  rintro _ w2 ⟨rfl,az⟩
  have dz:=az.size
  refine bL az hK aT λhK aT=>?_
  refine aV<|zc rfl (λh1=>?_) (λh1=>?_)
  have hd:=abu h1
  refine W ?_
  exact⟨_,rfl,by rw[hd];rfl,hK⟩
  have hd:=SE h1
  have hle:=λk=>abv (k:=k) h1
  refine W ?_
  refine eO (λk:Nat=>[(3,.int .i64 ((1+aq.len.lens (t.ai.take k):Nat):Int)),(12,.slice a t.ai.length c),(13,.int .i64 (t.ai.length:Int)),(14,.int .i64 (k:Int))]) (λk w'=>ak [] w w'∧k<=t.ai.length) (λk=>t.ai.length-k) (0) (⟨rfl,rfl,rfl,rfl⟩) (⟨hK,om⟩) λgg w3 e3 hI=>?_
  obtain⟨hK,hk⟩:=hI
  have fU:=hK.size
  refine W ?_
  refine zc rfl (λh2=>?_) (λh2=>?_)
  have dR:=ej (ps:=t.ai) (i:=gg) om
  obtain⟨b1,eh,pa,pn,pc,rfl,gV,dZ,fG⟩:=fC aQ dR
  subst dZ
  have lW:=kB (t:=t) (i:=gg) om
  have aW:=abt (ps:=t.ai) (k:=gg) om
  have fF:=hle (gg+1)
  refine WL ?_
  refine zL oz dD rfl (gV.ext hK) rfl<|da dD rfl rfl rfl λw4 aN bQ ga=>?_
  have hK:=hK.grow;have hK:=hK.ext aN
  refine cu dD rfl rfl rfl bQ rfl λw5 aJ bQ iq=>?_
  have hK:=hK.aD aJ sx
  refine W ?_
  refine aA (ih (nth t.ai gg) om om om _ L w5 ((jh fG).ext hK)) ?_
  rintro _ w6 ⟨rfl,bB⟩
  have ku:=bB.size
  have hK:=hK.ext bB
  refine W ?_
  exact⟨gg+1,⟨congrArg (Value.int .i64) om,rfl,rfl,rfl⟩,⟨hK,om⟩,om⟩
  have fH:gg=t.ai.length:=by omega
  subst fH
  refine W ?_
  exact⟨_,rfl,by rw[hd];rfl,hK⟩
theorem ao2 (t:aq) (kX:t.size<=1000000000) (gi:t.len<=1000000000) (v:Value) (L:List Nat) (w:World) (hv:bh L w v t):
  bC Tryz.prog 47 [v] w λr w'=>r= .bool (yi t)∧ak [] w w':=by
 have cm:=hv
 obtain⟨a,n,c,rfl,hn,aQ⟩:=cS hv
 have hK:=ak.refl [] w
 refine cj [.tmp 2] 11 Tryz.func47 rfl adB rfl rfl ?_
 refine zr<|ey rfl λw1 aI aT di=>bL aI hK cm λhK cm=>?_
 refine W ?_
 refine aA (ao0 t.size t (lR _) kX _ L w1 cm) ?_
 rintro _ w2 ⟨rfl,az⟩
 have dz:=az.size
 refine cO az hK cm aT λhK cm aT=>?_
 refine WZ ?_
 apply oA 4 6 10 (ak [] w2) rfl oQ
 intro _
 refine W ?_
 refine aA (ao1 t.size t (lR _) kX gi _ L w2 cm) ?_
 rintro _ w3 ⟨rfl,aH⟩
 have eM:=aH.size
 exact oQ
 intro xx w3 aH
 have hK:=hK.ext aH
 refine W ?_
 exact⟨_,rfl,congrArg Value.bool (by unfold yi;rw[show decide ((t.depth:Int)<=60)=decide (t.depth<=60) from decide_eq_decide.2 om,show decide ((t.len:Int)<=12000)=decide (t.len<=12000) from decide_eq_decide.2 om]),hK⟩
theorem Y4 (s:aj) (w:World):bC Tryz.prog 75 [str s] w λr w'=>r= .agg #[str s,.slice none 0 0]∧ak [] w w':=by
 have hK:=ak.refl [] w
 refine j1 [.cell 2 66] 5 Tryz.func75 rfl adS rfl rfl rfl ?_
 refine zr<|da dD rfl rfl rfl λw1 aI aO di=>?_
 have hK:=hK.grow;have hK:=hK.ext aI
 refine aV<|zr<|zm<|iT (SN _ _) rfl rfl<|cu dD rfl rfl rfl aO rfl λw2 az aO dK=>?_
 have hK:=hK.aD az sx
 refine W ?_
 exact⟨[_],fB oz dD rfl aO rfl,rfl,hK⟩
def FQ (B:Nat) (L:List Nat) (h:aj) (ts:List aq) (v:Value) (w:World):Prop:=∃a c g,v= .agg #[str [],.slice a (bH h::ts).length c]∧Gr B L w 66 2 (.slice a (bH h::ts).length c) g (cQ (bH h::ts))
theorem FQ.au {L:List Nat} {h:aj} (hp:FQ B L h ts v w):bh L w v (ju h ts):=by
 obtain⟨a,c,g,rfl,hO⟩:=hp;exact km hO.trees
theorem LI (h:aj) (ts:List aq) (hn:ts.length<=1000000) (v:Value) (L:List Nat) (w:World) (hv:cX L w v ts) (hL:∀x,x∈L->x<w.heap.size):
  bC Tryz.prog 74 [str h,v] w λr w'=>FQ w.heap.size L h ts r w'∧ak [] w w':=by
 obtain⟨a,c,rfl⟩:=EI hv
 have hK:=ak.refl [] w
 refine j1 [.cell 4 66] 11 Tryz.func74 rfl adR rfl rfl rfl ?_
 refine zr<|da dD rfl rfl rfl λw1 aI aF di=>?_
 have hK:=hK.grow;have hK:=hK.ext aI;have hv:=hv.grow;have hv:=hv.ext aI
 refine aV<|zr<|zm<|aA (Y4 h w1) ?_
 rintro _ w2 ⟨rfl,az⟩
 have dz:=az.size
 refine cO az hK hv aF λhK hv aF=>?_
 have fi:=ck.fresh hv (yd (w:=w2))
 refine fo lG dD rfl rfl λw3 aH cL fS=>cO aH hK aF fi λhK aF fi=>?_
 refine WZ ?_
 have gi:=az.size
 have fU:=hK.size
 have QN:=aF.lt
 have hO:=afs (B:=w.heap.size) (L:=w.heap.size::L) (sz:=2) (N:=1) (rows:=cQ [bH h]) cL ⟨.val _,.nil _ _ _,trivial⟩ (Me _) rfl om om (by intro hx;simp at hx;rcases hx with hx|hx;omega;have:=hL _ hx;omega) (by intro x hx;simp at hx;rcases hx with rfl|hx;omega;have:=hL x hx;omega)
 refine xd lG dD rfl rfl rfl rfl rfl rfl hO (ck.weaken fi sm) aft (by rw[gK,gK];simp;omega) λa4 fT g4 w4 gz aN=>?_
 have aF:=aF.aD aN (hO.vg sm)
 have hK:=hO.since hK aN
 rw[show(cQ [bH h]).length+(cQ ts).length=(bH h::ts).length from by simp[gK,Nat.add_comm]] at gz⊢
 rw[show cQ [bH h]++cQ ts=cQ (bH h::ts) from by simp[cQ]] at gz
 refine iT (aef _ _ _ _) rfl rfl<|cu dD rfl rfl rfl aF rfl λw5 aJ aF iq=>?_
 have hK:=hK.aD aJ sx;have gz:=gz.aD aJ sx
 refine W ?_
 exact⟨[_],fB oz dD rfl aF rfl,⟨a4,fT,g4,rfl,gz.fV (L':=L) (λx hx=>by simp[hx])⟩,hK⟩
theorem ao3 (p:aj) (ps:List fJ) {k:Nat} (hk:k<ps.length):bH p::(ps.take (k+1)).map o9=(bH p::(ps.take k).map o9)++[o9 (fl ps k)]:=by
 rw[List.take_succ_eq_append_getElem hk,Jj hk,List.map_append];rfl
theorem ao4 (ps:List fJ) (aQ:ps.length<=1000000) (FN:∀i,i<ps.length->(fl ps i).regs.length<=1000000∧(fl ps i).code.length<=1000000) (v:Value) (La:List Nat) (w:World) (hv:p8 La w v ps):
  bC Tryz.prog 46 [v] w λr w'=>bh [] w' r (mQ ps)∧ak [] w w':=by
 obtain⟨a,c,rfl⟩:=Ug hv
 have hK:=ak.refl [] w
 refine j1 [.cell 2 66] 31 Tryz.func46 rfl adA rfl rfl rfl ?_
 refine zr<|da dD rfl rfl rfl λw1 aI aO di=>?_
 have hK:=hK.grow;have hK:=hK.ext aI
 refine aV<|zr<|aA (LI [112,114,111,103,114,97,109] [] sm _ [w.heap.size] w1 nM so) ?_
 rintro v2 w2 ⟨gP,az⟩
 have dz:=az.size
 refine bL az hK aO λhK aO=>?_
 obtain⟨a1,c1,g1,rfl,hO⟩:=gP
 refine da dD rfl rfl rfl λw3 aH bU fS=>?_
 have hK:=hK.grow;have hK:=hK.ext aH;have aO:=aO.grow;have aO:=aO.ext aH;have hO:=hO.alloc aH fS
 refine cu dD rfl rfl rfl bU rfl λw4 aN bU ga=>?_
 have hK:=hK.aD aN sx;have aO:=aO.aD aN sx;have hO:=hO.aD aN sx
 refine W ?_
 refine eO (λq:Nat×Option Addr×Nat×Option Nat=>[(2,.pointer (some ⟨w.heap.size,0,none⟩)),(3,.pointer (some ⟨w2.heap.size,0,none⟩)),(7,.slice a ps.length c),(8,.int .i64 (ps.length:Int)),(9,.int .i64 (q.1:Int))]) (λq w'=>ak [] w w'∧aL w' w.heap.size [str [],.slice none 0 0].toArray 66∧aL w' w2.heap.size [str [],.slice q.2.1 (bH [112,114,111,103,114,97,109]::(ps.take q.1).map o9).length q.2.2.1].toArray 66∧Gr w1.heap.size [w2.heap.size,w.heap.size] w' 66 2 (.slice q.2.1 (bH [112,114,111,103,114,97,109]::(ps.take q.1).map o9).length q.2.2.1) q.2.2.2 (cQ (bH [112,114,111,103,114,97,109]::(ps.take q.1).map o9))∧q.1<=ps.length) (λq=>ps.length-q.1) ((0,a1,c1,g1)) (⟨rfl,rfl,rfl,rfl,rfl⟩) (⟨hK,aO,bU,hO,sm⟩) λgg w5 e5 hI=>?_
 obtain⟨i,a3,cc,g⟩:=gg
 dsimp only at hI⊢
 obtain⟨hK,aO,bU,hO,hk⟩:=hI
 have fU:=hK.size
 have OG:=aO.lt
 have anV:=bU.lt
 refine W ?_
 refine zc rfl (λh1=>?_) (λh1=>?_)
 have dR:=MD (ps:=ps) (i:=i) om
 have hvL:p8 (g.toList++[w2.heap.size,w.heap.size]) w5 _ ps:=p8.ext (ck.fresh hv (by intro x hx;right;rcases mA.1 hx with hx|hx;(·have:=hO.low x (by simpa using hx);omega);(·simp at hx;omega))) hK
 obtain⟨b1,eh,r1,yG,r2,yH,rfl,bM,kX,gi⟩:=NF hvL dR
 obtain⟨fj,eQ⟩:=FN i om
 refine W ?_
 refine da mU rfl rfl rfl λw6 bB bQ jR=>?_
 have hK:=hK.grow;have hK:=hK.ext bB;have aO:=aO.grow;have aO:=aO.ext bB;have bU:=bU.grow;have bU:=bU.ext bB;have hO:=hO.alloc bB jR;have kX:=kX.grow;have kX:=kX.ext bB;have gi:=gi.grow;have gi:=gi.ext bB
 refine cu mU rfl rfl rfl bQ rfl λw7 bJ bQ l4=>?_
 have hK:=hK.aD bJ sx;have aO:=aO.aD bJ sx;have bU:=bU.aD bJ sx;have hO:=hO.aD bJ sx;have kX:=kX.aD bJ sx;have gi:=gi.aD bJ sx
 refine W ?_
 refine sE du bF 14 (rA 13 14) (rA 13 14) [[],[0],[],[2],[3],[],[5],[6],[],[8],[9],[4,7,10],[11],[12]] [λv _=>v=(.pointer (some ⟨w2.heap.size,0+1,none⟩)),λv _=>v=(.slice a3 (bH [112,114,111,103,114,97,109]::(ps.take i).map o9).length cc),λv _=>v=(.pointer (some ⟨w5.heap.size,0+0,none⟩)),λv _=>v=(str (fl ps i).aM),λv _=>v=(.agg #[str (fl ps i).aM,.slice none 0 0]),λv _=>v=(.pointer (some ⟨w5.heap.size,0+1,none⟩)),λv _=>v=(.slice r1 (fl ps i).regs.length yG),fun(v:Value) (ww:World)=>bh (g.toList++[w5.heap.size,w2.heap.size,w.heap.size]) ww v (ju [114,101,103,115] (fl ps i).regs),λv _=>v=(.pointer (some ⟨w5.heap.size,0+2,none⟩)),λv _=>v=(.slice r2 (fl ps i).code.length yH),fun(v:Value) (ww:World)=>bh (g.toList++[w5.heap.size,w2.heap.size,w.heap.size]) ww v (ju [99,111,100,101] (fl ps i).code),fun(v:Value) (ww:World)=>cX (g.toList++[w5.heap.size,w2.heap.size,w.heap.size]) ww v [bH (fl ps i).aM,ju [114,101,103,115] (fl ps i).regs,ju [99,111,100,101] (fl ps i).code],fun(v:Value) (ww:World)=>bh (g.toList++[w5.heap.size,w2.heap.size,w.heap.size]) ww v (o9 (fl ps i)),fun(v:Value) (ww:World)=>∃b u1 u2,v= .slice (some ⟨b,0,none⟩) 1 1∧aL ww b [u1,u2].toArray 66∧bh (g.toList++[w5.heap.size,w2.heap.size,w.heap.size]) ww (.agg #[u1,u2]) (o9 (fl ps i))] de (cR (cR (cR (cR (cR (cR (cR (mL (λv w w' h k=>bh.ext h k) (cR (cR (mL (λv w w' h k=>bh.ext h k) (mL (λv w w' h k=>cX.ext h k) (mL (λv w w' h k=>bh.ext h k) (mL (λv w w' ⟨b,u1,u2,e,h1,h2⟩ k=>⟨b,u1,u2,e,h1.ext k,bh.ext h2 k⟩) trivial)))))))))))))) (λwd aB=>?_) ?_
 refine bV ?_ ?_
 intro x vs w8 e aU hd he
 replace aU:=bF.trans aB aU
 replace he:e=aS (aR _ x _) []:=he
 subst he
 refine W ?_
 exact dn (bF.refl _) rfl
 refine bV ?_ ?_
 intro x vs w8 e aU hd he
 have d0:vs 0=(.pointer (some ⟨w2.heap.size,0+1,none⟩)):=hd
 replace aU:=bF.trans aB aU
 have bU:=bU.ext aU
 replace he:e=aS (aR _ x _) [(13,vs 0)]:=he
 rw[d0] at he
 subst he
 refine W ?_
 exact dn (bF.refl _) rfl
 refine bV ?_ ?_
 intro x vs w8 e aU hd he
 replace aU:=bF.trans aB aU
 replace he:e=aS (aR _ x _) []:=he
 subst he
 refine W ?_
 exact dn (bF.refl _) rfl
 refine bV ?_ ?_
 intro x vs w8 e aU hd he
 have d2:vs 2=(.pointer (some ⟨w5.heap.size,0+0,none⟩)):=hd
 replace aU:=bF.trans aB aU
 have bQ:=bQ.ext aU
 replace he:e=aS (aR _ x _) [(15,vs 2)]:=he
 rw[d2] at he
 subst he
 refine W ?_
 exact dn (bF.refl _) rfl
 refine bV ?_ ?_
 intro x vs w8 e aU hd he
 have d3:vs 3=(str (fl ps i).aM):=hd
 replace aU:=bF.trans aB aU
 replace he:e=aS (aR _ x _) [(16,vs 3)]:=he
 rw[d3] at he
 subst he
 refine aA (Y4 (fl ps i).aM w8) ?_
 rintro _ w9 ⟨rfl,aC⟩
 have lf:=aC.size
 refine W ?_
 exact dn (bF.of aC) rfl
 refine bV ?_ ?_
 intro x vs w8 e aU hd he
 replace aU:=bF.trans aB aU
 replace he:e=aS (aR _ x _) []:=he
 subst he
 refine W ?_
 exact dn (bF.refl _) rfl
 refine bV ?_ ?_
 intro x vs w8 e aU hd he
 have d5:vs 5=(.pointer (some ⟨w5.heap.size,0+1,none⟩)):=hd
 replace aU:=bF.trans aB aU
 have bQ:=bQ.ext aU
 replace he:e=aS (aR _ x _) [(18,vs 5)]:=he
 rw[d5] at he
 subst he
 refine W ?_
 exact dn (bF.refl _) rfl
 refine bV ?_ ?_
 intro x vs w8 e aU hd he
 have d6:vs 6=(.slice r1 (fl ps i).regs.length yG):=hd
 replace aU:=bF.trans aB aU
 refine bL aU hO kX λhO kX=>?_
 replace he:e=aS (aR _ x _) [(19,vs 6)]:=he
 rw[d6] at he
 subst he
 refine aA (LI [114,101,103,115] (fl ps i).regs fj _ (g.toList++[w5.heap.size,w2.heap.size,w.heap.size]) w8 (cX.fV kX (by intro x hx;simp at hx⊢;rcases hx with h|h|h|h<;>simp[h])) hO.all) ?_
 rintro v9 w9 ⟨eu,aC⟩
 have lf:=aC.size
 have hq:=FQ.au eu
 refine W ?_
 exact dn (bF.of aC) hq
 refine bV ?_ ?_
 intro x vs w8 e aU hd he
 replace aU:=bF.trans aB aU
 replace he:e=aS (aR _ x _) []:=he
 subst he
 refine W ?_
 exact dn (bF.refl _) rfl
 refine bV ?_ ?_
 intro x vs w8 e aU hd he
 have d8:vs 8=(.pointer (some ⟨w5.heap.size,0+2,none⟩)):=hd
 replace aU:=bF.trans aB aU
 have bQ:=bQ.ext aU
 replace he:e=aS (aR _ x _) [(21,vs 8)]:=he
 rw[d8] at he
 subst he
 refine W ?_
 exact dn (bF.refl _) rfl
 refine bV ?_ ?_
 intro x vs w8 e aU hd he
 have d9:vs 9=(.slice r2 (fl ps i).code.length yH):=hd
 replace aU:=bF.trans aB aU
 refine bL aU hO gi λhO gi=>?_
 replace he:e=aS (aR _ x _) [(22,vs 9)]:=he
 rw[d9] at he
 subst he
 refine aA (LI [99,111,100,101] (fl ps i).code eQ _ (g.toList++[w5.heap.size,w2.heap.size,w.heap.size]) w8 (cX.fV gi (by intro x hx;simp at hx⊢;rcases hx with h|h|h|h<;>simp[h])) hO.all) ?_
 rintro v9 w9 ⟨eu,aC⟩
 have lf:=aC.size
 have hq:=FQ.au eu
 refine W ?_
 exact dn (bF.of aC) hq
 refine bV ?_ ?_
 intro x vs w8 e aU hd he
 have aY:(vs 4=(.agg #[str (fl ps i).aM,.slice none 0 0]))∧((fun(v:Value) (ww:World)=>bh (g.toList++[w5.heap.size,w2.heap.size,w.heap.size]) ww v (ju [114,101,103,115] (fl ps i).regs)) (vs 7) w8)∧((fun(v:Value) (ww:World)=>bh (g.toList++[w5.heap.size,w2.heap.size,w.heap.size]) ww v (ju [99,111,100,101] (fl ps i).code)) (vs 10) w8):=hd
 obtain⟨d4,d7,d10⟩:=aY
 replace aU:=bF.trans aB aU
 have hO:=hO.ext aU
 replace he:e=aS (aR _ x _) [(17,vs 4),(20,vs 7),(23,vs 10)]:=he
 rw[d4] at he
 obtain⟨a7,n7,c7,e7,_,_⟩:=cS d7
 obtain⟨a8,n8,c8,e8,_,_⟩:=cS d10
 rw[e7,e8] at he
 rw[e7] at d7
 rw[e8] at d10
 subst he
 refine rz [.tmp 17,.tmp 20,.tmp 23] [[str (fl ps i).aM,.slice none 0 0],[str [],.slice a7 n7 c7],[str [],.slice a8 n8 c8]] lG dD rfl rfl rfl rfl rfl rfl rfl rfl rfl λw9 aC iY uh=>W ?_
 exact dn (bF.of aC) (afu iY (km nM) (bh.ext d7 aC) (bh.ext d10 aC) (λhx=>absurd (hO.all _ hx) om))
 refine bV ?_ ?_
 intro x vs w8 e aU hd he
 have d11:(fun(v:Value) (ww:World)=>cX (g.toList++[w5.heap.size,w2.heap.size,w.heap.size]) ww v [bH (fl ps i).aM,ju [114,101,103,115] (fl ps i).regs,ju [99,111,100,101] (fl ps i).code]) (vs 11) w8:=hd
 replace aU:=bF.trans aB aU
 have hO:=hO.ext aU
 replace he:e=aS (aR _ x _) [(24,vs 11)]:=he
 subst he
 refine aA (LI [98,108,111,99,107] [bH (fl ps i).aM,ju [114,101,103,115] (fl ps i).regs,ju [99,111,100,101] (fl ps i).code] sm _ (g.toList++[w5.heap.size,w2.heap.size,w.heap.size]) w8 d11 hO.all) ?_
 rintro v9 w9 ⟨eu,aC⟩
 have lf:=aC.size
 have hq:=FQ.au eu
 refine W ?_
 exact dn (bF.of aC) (show bh _ _ _ (o9 (fl ps i)) from hq)
 refine bV ?_ ?_
 intro x vs w8 e aU hd he
 have d12:(fun(v:Value) (ww:World)=>bh (g.toList++[w5.heap.size,w2.heap.size,w.heap.size]) ww v (o9 (fl ps i))) (vs 12) w8:=hd
 replace aU:=bF.trans aB aU
 replace he:e=aS (aR _ x _) [(25,vs 12)]:=he
 obtain⟨a7,n7,c7,e7,_,_⟩:=cS d12
 rw[e7] at he
 rw[e7] at d12
 subst he
 refine fo lG dD rfl rfl λw9 aC vY dv=>W ?_
 exact dn (bF.of aC) ⟨_,_,_,rfl,vY,bh.ext d12 aC⟩
 exact trivial
 intro x vs l5 jz bT
 have d0:vs 0=(.pointer (some ⟨w2.heap.size,0+1,none⟩)):=bT 0 de
 have d1:vs 1=(.slice a3 (bH [112,114,111,103,114,97,109]::(ps.take i).map o9).length cc):=bT 1 de
 have d2:vs 2=(.pointer (some ⟨w5.heap.size,0+0,none⟩)):=bT 2 de
 have d3:vs 3=(str (fl ps i).aM):=bT 3 de
 have d4:vs 4=(.agg #[str (fl ps i).aM,.slice none 0 0]):=bT 4 de
 have d5:vs 5=(.pointer (some ⟨w5.heap.size,0+1,none⟩)):=bT 5 de
 have d6:vs 6=(.slice r1 (fl ps i).regs.length yG):=bT 6 de
 have d7:(fun(v:Value) (ww:World)=>bh (g.toList++[w5.heap.size,w2.heap.size,w.heap.size]) ww v (ju [114,101,103,115] (fl ps i).regs)) (vs 7) l5:=bT 7 de
 have d8:vs 8=(.pointer (some ⟨w5.heap.size,0+2,none⟩)):=bT 8 de
 have d9:vs 9=(.slice r2 (fl ps i).code.length yH):=bT 9 de
 have d10:(fun(v:Value) (ww:World)=>bh (g.toList++[w5.heap.size,w2.heap.size,w.heap.size]) ww v (ju [99,111,100,101] (fl ps i).code)) (vs 10) l5:=bT 10 de
 have d11:(fun(v:Value) (ww:World)=>cX (g.toList++[w5.heap.size,w2.heap.size,w.heap.size]) ww v [bH (fl ps i).aM,ju [114,101,103,115] (fl ps i).regs,ju [99,111,100,101] (fl ps i).code]) (vs 11) l5:=bT 11 de
 have d12:(fun(v:Value) (ww:World)=>bh (g.toList++[w5.heap.size,w2.heap.size,w.heap.size]) ww v (o9 (fl ps i))) (vs 12) l5:=bT 12 de
 have d13:(fun(v:Value) (ww:World)=>∃b u1 u2,v= .slice (some ⟨b,0,none⟩) 1 1∧aL ww b [u1,u2].toArray 66∧bh (g.toList++[w5.heap.size,w2.heap.size,w.heap.size]) ww (.agg #[u1,u2]) (o9 (fl ps i))) (vs 13) l5:=bT 13 de
 refine gH jz hK aO bU hO λhK aO bU hO=>?_
 change OW _ _ _ _ _ (aS (aR _ x _) (zZ 13 [vs 0,vs 1,vs 2,vs 3,vs 4,vs 5,vs 6,vs 7,vs 8,vs 9,vs 10,vs 11,vs 12,vs 13])) _
 rw[d0,d1,d2,d3,d4,d5,d6,d8,d9]
 obtain⟨nb,u1,u2,e7,nY,ht⟩:=d13
 rw[e7]
 refine Gj lG dD rfl rfl rfl rfl rfl rfl hO nY ht so λa2 mo g2 kZ fW iO=>?_
 have hK:=ak.Cq om hO.low hK iO
 have aO:=aO.aD iO (hO.vg sm);have bU:=bU.aD iO (hO.vg sm)
 rw[<-ao3 _ _ om] at fW⊢
 refine zf Gy rfl<|gF GA rfl rfl rfl bU rfl λog iE bU atj=>?_
 have hK:=hK.aD iE sx;have aO:=aO.aD iE sx;have fW:=fW.aD iE sx
 refine W ?_
 exact⟨(i+1,a2,mo,g2),⟨rfl,rfl,rfl,rfl,rfl⟩,⟨hK,aO,bU,fW.fV (by intro x hx;simp at hx⊢;rcases hx with h|h<;>simp[h]),by dsimp only;omega⟩,by dsimp only;omega⟩
 have cZ:ps.take i=ps:=List.take_of_length_le om
 rw[cZ] at hO bU
 refine W ?_
 refine cu dD rfl rfl rfl aO rfl λw6 bB aO jR=>?_
 have hK:=hK.aD bB sx;have hO:=hO.aD bB sx
 refine W ?_
 exact⟨[_],fB oz dD rfl aO rfl,km (hO.trees.fV sm),hK⟩
theorem ao6 {b:Bk} (h:kO b=true):b.bW.length<=1000000∧b.code.length<=1000000:=by
 unfold kO at h
 simp only[aE,dE] at h
 omega
theorem Y5 {bs:List Bk} (h:(ml bs&&yi (mQ (bs.map fy)))=false):rl bs=none:=by rw[<-So];unfold Jh;rw[h];rfl
theorem ao7 {bs:List Bk} (h:(ml bs&&yi (mQ (bs.map fy)))=true):rl bs=some (mQ (bs.map fy)).text:=by rw[<-So];unfold Jh;rw[iP h]
theorem ao8 (h:iB bs=true) (hl:(lD bs).length<=100000000):WF (mQ (bs.map fy))∧(mQ (bs.map fy)).size<=200000000∧(mQ (bs.map fy)).text.length<=100000000:=by
 obtain⟨h1,h2⟩:=Jg h
 have:=Gv h1
 rw[h2] at this⊢
 exact⟨h1.wf,om,om⟩
theorem ao9 (bs:List Bk) (hs:tU bs) (hl:(lD bs).length<=100000000) (v:Value) (La:List Nat) (w:World) (hv:mO La w v bs):
  bC Tryz.prog 15 [v] w λr w'=>r= .tuple #[str ((rl bs).getD []),.bool (rl bs).isSome]∧ak [] w w':=by
 have hK:=ak.refl [] w
 refine cj [.tmp 2,.tmp 3] 21 Tryz.func15 rfl acd rfl rfl ?_
 refine W ?_
 refine aA (YW bs hs _ La [] w hv sm) ?_
 rintro v1 w1 ⟨fK,aI⟩
 have df:=aI.size
 have hK:=hK.ext aI
 obtain⟨ps,pv,rfl,hp,xv⟩:=fK
 refine W ?_
 refine zc rfl (λh1=>?_) (λh1=>?_)
 have hq:=Y5 (bs:=bs) (by rw[show ml bs=false by simpa using h1];rfl)
 refine W ?_
 exact⟨_,rfl,by rw[hq];rfl,hK⟩
 have B8:ml bs=true:=by simpa using h1
 obtain rfl:=xv B8
 have sB:iB bs=true:=by unfold ml at B8;rw[aE] at B8;exact B8.1
 obtain⟨Hh,Bj,zV⟩:=ao8 sB hl
 have ht4:=Si Hh
 have ir:=Aw sB
 have FN:∀i,i<(bs.map fy).length->(fl (bs.map fy) i).regs.length<=1000000∧(fl (bs.map fy) i).code.length<=1000000:=by{intro i hi;have LH:i<bs.length:=(by simpa using hi);have e0:fl (bs.map fy) i=fy (bN bs i):=(by simp[gE LH]);rw[e0];have:=ao6 (ir _ (T9 LH));simpa[fy] using this}
 have nY:bs.length<=1000000:=by{unfold iB at sB;simp only[aE,dE] at sB;omega}
 refine gX<|zr<|zm<|aA (ao4 (bs.map fy) (by simpa using nY) FN _ _ w1 hp) ?_
 rintro v2 w2 ⟨gP,az⟩
 have dz:=az.size
 have hK:=hK.ext az
 obtain⟨fa,fn,fc,rfl,KP,_⟩:=cS gP
 have ht:=gP
 refine da dD rfl rfl rfl λw3 aH bK fS=>?_
 have hK:=hK.grow;have hK:=hK.ext aH;have ht:=ht.grow;have ht:=ht.ext aH
 refine cu dD rfl rfl rfl bK rfl λw4 aN bK ga=>?_
 have hK:=hK.aD aN sx;have ht:=ht.aD aN sx
 refine W ?_
 refine aA (ao2 _ om om _ _ w4 ht) ?_
 rintro _ w5 ⟨rfl,aJ⟩
 have mn:=aJ.size
 refine cO aJ hK ht bK λhK ht bK=>?_
 refine jY rfl rfl rfl<|aV<|zc rfl (λh2=>?_) (λh2=>?_)
 have hq:=Y5 (bs:=bs) (by rw[B8];simpa using h2)
 refine W ?_
 exact⟨_,rfl,by rw[hq];rfl,hK⟩
 have hq:=ao7 (bs:=bs) (by rw[B8];simpa using h2)
 have tO:=(Jg sB).1
 have amD:=Gv tO
 have Y6:yi (mQ (bs.map fy))=true:=(by simpa using h2)
 unfold yi at Y6
 simp only[aE,dE] at Y6
 refine W ?_
 refine aA (Y0 _ Hh om om _ _ w5 ht) ?_
 rintro _ w6 ⟨rfl,bB⟩
 have ku:=bB.size
 have hK:=hK.ext bB
 refine W ?_
 exact⟨_,rfl,by rw[hq];rfl,hK⟩
theorem atl (bs:List UInt8) (v:Value) (w:World) (hv:ck [] w v (.sl 1 (rO bs))):
  bC Tryz.prog 4 [v] w λr w'=>r= .bool true∧ak [] w w':=by
 obtain⟨a,c,rfl,_⟩:=rS hv
 have ir:(rO bs).length=bs.length:=FJ bs
 have hK:=ak.refl [] w
 refine cj [.tmp 2] 61 Tryz.func4 rfl nm4 rfl rfl ?_
 refine W ?_
 refine zc rfl (λh1=>?_) (λh1=>?_)
 refine W ?_
 exact⟨_,rfl,rfl,hK⟩
 refine gX<|zr<|zm<|aA (an0 bs om _ w hv) ?_
 rintro v1 w1 ⟨fK,aI⟩
 have df:=aI.size
 have hK:=hK.ext aI
 obtain⟨s,e9⟩:=fK
 subst e9
 obtain⟨mu,hbp⟩:=af2 s
 refine W ?_
 refine aA (aoX s w1) ?_
 rintro v2 w2 ⟨gP,az⟩
 have dz:=az.size
 have hK:=hK.ext az
 obtain⟨a1,n1,c1,e8,g,gss,vss,hO,je⟩:=gP
 subst e8
 have nK:=hO.rep (L:=[]) sm
 refine W ?_
 refine aA (an5 s w2) ?_
 rintro v3 w3 ⟨ka,aH⟩
 have eM:=aH.size
 refine bL aH hK nK λhK nK=>?_
 obtain⟨a2,n2,c2,e7,B2⟩:=ka
 subst e7
 refine W ?_
 apply oO 5 28 33 (ak [] w3) rfl oQ
 intro _
 refine zm<|zm<|aA (X6 _ mu _ _ [] [] w3 nK B2) ?_
 rintro _ w4 ⟨rfl,aN⟩
 have fg:=aN.size
 exact oQ
 intro xx w5 aJ
 refine cO aJ hK nK B2 λhK nK B2=>?_
 refine WZ ?_
 apply oP 3 34 37 rfl oQ
 intro _
 exact oQ
 intro xx
 refine aV<|zc rfl (λh4=>?_) (λh4=>?_)
 refine WZ ?_
 apply oA 4 41 45 (ak [] w5) rfl oQ
 intro _
 refine zm<|zm<|aA (X6 _ mu _ _ [] [] w5 nK B2) ?_
 rintro _ w6 ⟨rfl,bB⟩
 have ku:=bB.size
 exact oQ
 intro xx w6 bB
 have hK:=hK.ext bB
 refine W ?_
 exact⟨_,rfl,congrArg Value.bool sm,hK⟩
 have hso:(nO s).isSome=true:=(by simpa using h4)
 obtain⟨ps,e6⟩:=Option.isSome_iff_exists.1 hso
 obtain⟨t1,t2⟩:=an4 e6
 rw[e6] at nK mu
 have lK:(lD ps).length<=12000:=(by have h9:=t1;unfold rl at h9;split at h9;(·cases h9;have h8:=e6;unfold nO at h8;cases h7:bA (lD ps) with|none=>(rw[h7] at h8;cases h8)|some t=>exact(pU h7).2.2.2);(·cases h9))
 have B8:ml ps=true:=(by unfold ml;rw[t2,show ps.all vj=true from List.all_eq_true.2 λb hb=>dT (by have:=Sn hb;omega)];rfl)
 refine gX<|zr<|zm<|aA (ao9 ps mu om _ [] w5 nK) ?_
 rintro v6 w6 ⟨xJ,bB⟩
 have ku:=bB.size
 refine bL bB hK nK λhK nK=>?_
 rw[t1] at xJ
 obtain rfl:=xJ
 refine zm<|zx (i:=0) rfl rfl<|zx (i:=1) rfl rfl<|zA<|zA<|aV<|zr<|zm<|zm ?_
 apply IZ 4 52 56 [52,53,54,55,56] (ak [] w6) rfl
 intro h6
 replace h6:=jy h6
 have QT:=ak.refl [] w6
 refine zm<|zm<|Cc rfl rfl rfl rfl<|zp rfl<|aV ?_
 exact mg rfl QT
 intro h6
 replace h6:=jy h6
 have QT:=ak.refl [] w6
 refine W ?_
 exact mg rfl QT
 intro xx w7 bJ
 refine bL bJ hK nK λhK nK=>?_
 refine WZ ?_
 apply oA 3 57 60 (ak [] w7) rfl oQ
 intro _
 refine zm<|aA (YY ps mu _ [] w7 nK) ?_
 rintro _ w8 ⟨rfl,aU⟩
 have oK:=aU.size
 exact oQ
 intro xx w8 aU
 have hK:=hK.ext aU
 refine W ?_
 exact⟨_,rfl,congrArg Value.bool (by rw[B8];simp),hK⟩
theorem atm:(fun(_:Program) (_:FuncId) (_:Func) (s:ChangeSpec) (c:OpenClaim)=>(c.wf (OpenSpec.ofChange s):Bool)) Tryz.pinned.checked.prog 4 Tryz.f4 Rows.fnFromSpec Rows.fnFromRow=true:=by kernel_rfl
theorem atn:(fun(P:Program) (_:FuncId) (_:Func) (_:ChangeSpec) (_:OpenClaim)=>(laidOutB P:Bool)) Tryz.pinned.checked.prog 4 Tryz.f4 Rows.fnFromSpec Rows.fnFromRow=true:=by kernel_rfl
theorem ato:(fun(P:Program) (_:FuncId) (_:Func) (_:ChangeSpec) (_:OpenClaim)=>(mapsRowed P:Bool)) Tryz.pinned.checked.prog 4 Tryz.f4 Rows.fnFromSpec Rows.fnFromRow=true:=by kernel_rfl
theorem atp:(fun(P:Program) (_:FuncId) (fn:Func) (_:ChangeSpec) (_:OpenClaim)=>(fn.params.all (P.readableRec ·):Bool)) Tryz.pinned.checked.prog 4 Tryz.f4 Rows.fnFromSpec Rows.fnFromRow=true:=by kernel_rfl
theorem atq:(fun(P:Program) (_:FuncId) (_:Func) (s:ChangeSpec) (c:OpenClaim)=>(namedTie P c.named s.vars:Bool)) Tryz.pinned.checked.prog 4 Tryz.f4 Rows.fnFromSpec Rows.fnFromRow=true:=by kernel_rfl
theorem atr:(fun(_:Program) (_:FuncId) (_:Func) (_:ChangeSpec) (c:OpenClaim)=>((c.stops==[]):Bool)) Tryz.pinned.checked.prog 4 Tryz.f4 Rows.fnFromSpec Rows.fnFromRow=true:=by kernel_rfl
theorem att:(fun(P:Program) (_:FuncId) (_:Func) (_:ChangeSpec) (_:OpenClaim)=>((P.stops==[]):Bool)) Tryz.pinned.checked.prog 4 Tryz.f4 Rows.fnFromSpec Rows.fnFromRow=true:=by kernel_rfl
theorem atu:(fun(_:Program) (_:FuncId) (_:Func) (_:ChangeSpec) (c:OpenClaim)=>((c.knobs==[]):Bool)) Tryz.pinned.checked.prog 4 Tryz.f4 Rows.fnFromSpec Rows.fnFromRow=true:=by kernel_rfl
theorem atv:(fun(P:Program) (_:FuncId) (_:Func) (_:ChangeSpec) (_:OpenClaim)=>((P.stopKnobs==[]):Bool)) Tryz.pinned.checked.prog 4 Tryz.f4 Rows.fnFromSpec Rows.fnFromRow=true:=by kernel_rfl
theorem atw:(fun(P:Program) (f:FuncId) (_:Func) (_:ChangeSpec) (c:OpenClaim)=>((c.inPlace==P.inPlace f):Bool)) Tryz.pinned.checked.prog 4 Tryz.f4 Rows.fnFromSpec Rows.fnFromRow=true:=by kernel_rfl
theorem atx:(fun(P:Program) (f:FuncId) (_:Func) (_:ChangeSpec) (c:OpenClaim)=>((c.unfollowed==P.unfollowed f):Bool)) Tryz.pinned.checked.prog 4 Tryz.f4 Rows.fnFromSpec Rows.fnFromRow=true:=by kernel_rfl
theorem aty:(fun(P:Program) (f:FuncId) (_:Func) (_:ChangeSpec) (c:OpenClaim)=>((c.recurses==P.recurses f):Bool)) Tryz.pinned.checked.prog 4 Tryz.f4 Rows.fnFromSpec Rows.fnFromRow=true:=by kernel_rfl
theorem atz:(fun(P:Program) (f:FuncId) (_:Func) (_:ChangeSpec) (c:OpenClaim)=>((c.named==P.varsNamed f):Bool)) Tryz.pinned.checked.prog 4 Tryz.f4 Rows.fnFromSpec Rows.fnFromRow=true:=by kernel_rfl
theorem atA:(fun(P:Program) (_:FuncId) (fn:Func) (s:ChangeSpec) (c:OpenClaim)=>((c.maps==(fn.params.toList++s.plain.varTypes P).any (P.mapsRec ·)):Bool)) Tryz.pinned.checked.prog 4 Tryz.f4 Rows.fnFromSpec Rows.fnFromRow=true:=by kernel_rfl
theorem atB:(fun(P:Program) (_:FuncId) (fn:Func) (s:ChangeSpec) (c:OpenClaim)=>((c.ifaces==(fn.params.toList++s.plain.varTypes P).any (P.ifacesRec ·)):Bool)) Tryz.pinned.checked.prog 4 Tryz.f4 Rows.fnFromSpec Rows.fnFromRow=true:=by kernel_rfl
theorem atC:(fun(P:Program) (_:FuncId) (fn:Func) (_:ChangeSpec) (c:OpenClaim)=>((c.mapsOut==P.mapsAmong fn.resultTypes.toList):Bool)) Tryz.pinned.checked.prog 4 Tryz.f4 Rows.fnFromSpec Rows.fnFromRow=true:=by kernel_rfl
theorem atD:(fun(P:Program) (_:FuncId) (fn:Func) (s:ChangeSpec) (c:OpenClaim)=>((c.loops==(fn.params.toList++s.plain.varTypes P).any (P.loopsFrom ·)):Bool)) Tryz.pinned.checked.prog 4 Tryz.f4 Rows.fnFromSpec Rows.fnFromRow=true:=by kernel_rfl
theorem atE:(fun(P:Program) (_:FuncId) (fn:Func) (s:ChangeSpec) (c:OpenClaim)=>((c.wideKeys==(fn.params.toList++s.plain.varTypes P++fn.resultTypes.toList).any (P.wideKeysFrom ·)):Bool)) Tryz.pinned.checked.prog 4 Tryz.f4 Rows.fnFromSpec Rows.fnFromRow=true:=by kernel_rfl
theorem atF:(fun(P:Program) (_:FuncId) (_:Func) (s:ChangeSpec) (_:OpenClaim)=>(s.vars.all (P.varReadable ·):Bool)) Tryz.pinned.checked.prog 4 Tryz.f4 Rows.fnFromSpec Rows.fnFromRow=true:=by kernel_rfl
theorem atG:(fun(P:Program) (_:FuncId) (fn:Func) (_:ChangeSpec) (_:OpenClaim)=>(fn.resultTypes.all (λt=>P.readableRec t&&decide (t<P.types.size)):Bool)) Tryz.pinned.checked.prog 4 Tryz.f4 Rows.fnFromSpec Rows.fnFromRow=true:=by kernel_rfl
theorem atH:(fun(P:Program) (_:FuncId) (fn:Func) (_:ChangeSpec) (c:OpenClaim)=>((c.ifacesOut==fn.resultTypes.toList.any (P.ifacesRec ·)):Bool)) Tryz.pinned.checked.prog 4 Tryz.f4 Rows.fnFromSpec Rows.fnFromRow=true:=by kernel_rfl
theorem atI:(fun(P:Program) (_:FuncId) (fn:Func) (_:ChangeSpec) (c:OpenClaim)=>((c.loopsOut==fn.resultTypes.toList.any (P.loopsFrom ·)):Bool)) Tryz.pinned.checked.prog 4 Tryz.f4 Rows.fnFromSpec Rows.fnFromRow=true:=by kernel_rfl
theorem atJ:(fun(P:Program) (_:FuncId) (_:Func) (_:ChangeSpec) (c:OpenClaim)=>((c.plainKeys==P.plainKeys):Bool)) Tryz.pinned.checked.prog 4 Tryz.f4 Rows.fnFromSpec Rows.fnFromRow=true:=by kernel_rfl
theorem atK:Tryz.pinned.checked.prog.funcNamed "loop.example/typedassembly/laws.FnFrom"=some 4:=by kernel_rfl
theorem atL:(Tryz.f4).isInstance Tryz.pinned.checked.prog Rows.fnFromRow.origin Rows.fnFromRow.targs:=of_decide_eq_true (by kernel_rfl)
theorem atM:(Tryz.f4).isWrapper Tryz.pinned.checked.prog Rows.fnFromRow.wrapper Rows.fnFromRow.mainSum:=by unfold Func.isWrapper;first|(rw[iP (by decide+kernel)];kernel_rfl)|(rw[iN (by decide+kernel)];exact⟨rfl,rfl⟩)
theorem atN:Rows.fnFromRow.wfByText (OpenSpec.ofChange Rows.fnFromSpec)=true:=by kernel_rfl
theorem atO:(fun(_:Program) (_:FuncId) (_:Func) (_:ChangeSpec) (c:OpenClaim)=>(c.shortTexts.isNone:Bool)) Tryz.pinned.checked.prog 4 Tryz.f4 Rows.fnFromSpec Rows.fnFromRow=true:=by kernel_rfl
theorem atP:(fun(P:Program) (_:FuncId) (_:Func) (_:ChangeSpec) (_:OpenClaim)=>(P.stopsHeard:Bool)) Tryz.pinned.checked.prog 4 Tryz.f4 Rows.fnFromSpec Rows.fnFromRow=true:=by kernel_rfl
theorem atQ:(fun(P:Program) (_:FuncId) (_:Func) (_:ChangeSpec) (_:OpenClaim)=>(P.mayEnter:Bool)) Tryz.pinned.checked.prog 4 Tryz.f4 Rows.fnFromSpec Rows.fnFromRow=true:=by kernel_rfl
theorem atS:(fun(P:Program) (_:FuncId) (_:Func) (_:ChangeSpec) (c:OpenClaim)=>((c.lifted==P.liftsFinal):Bool)) Tryz.pinned.checked.prog 4 Tryz.f4 Rows.fnFromSpec Rows.fnFromRow=true:=by kernel_rfl
theorem atT:(fun(P:Program) (_:FuncId) (_:Func) (_:ChangeSpec) (c:OpenClaim)=>((P.make==some c.make):Bool)) Tryz.pinned.checked.prog 4 Tryz.f4 Rows.fnFromSpec Rows.fnFromRow=true:=by kernel_rfl
theorem atU:(fun(P:Program) (_:FuncId) (fn:Func) (_:ChangeSpec) (c:OpenClaim)=>((c.kinds==(if c.domain.isEmpty then[] else fn.params.toList.map λt=>match P.underlying t with|some (.int k)=>some k|_=>none)):Bool)) Tryz.pinned.checked.prog 4 Tryz.f4 Rows.fnFromSpec Rows.fnFromRow=true:=by kernel_rfl
theorem atV:(fun(_:Program) (_:FuncId) (_:Func) (_:ChangeSpec) (c:OpenClaim)=>((c.pinned==c.pinnedBy):Bool)) Tryz.pinned.checked.prog 4 Tryz.f4 Rows.fnFromSpec Rows.fnFromRow=true:=by kernel_rfl
theorem atW:(fun(P:Program) (_:FuncId) (fn:Func) (s:ChangeSpec) (c:OpenClaim)=>((c.veiled==(fn.params.toList++s.plain.varTypes P++fn.resultTypes.toList).any (P.veiledRec ·)):Bool)) Tryz.pinned.checked.prog 4 Tryz.f4 Rows.fnFromSpec Rows.fnFromRow=true:=by kernel_rfl
theorem atX:(fun(P:Program) (_:FuncId) (fn:Func) (s:ChangeSpec) (c:OpenClaim)=>(c.veiledFits P fn.params.toList (fn.params.toList++s.plain.varTypes P++fn.resultTypes.toList):Bool)) Tryz.pinned.checked.prog 4 Tryz.f4 Rows.fnFromSpec Rows.fnFromRow=true:=by kernel_rfl
theorem atY:Tryz.pinned.checked.prog.mainIs=some (true, "11cc121be114b82c54ce4e6be40da035a0e47b7a30a856ed352bc20fea3a48b9".toList):=by kernel_rfl
theorem atZ:true=Tryz.pinned.checked.prog.looks []:=by kernel_rfl
theorem at0:Tryz.pinned.checked.prog.wantsStandIn 22=false:=by kernel_rfl
theorem at1:false=Rows.fnFromRow.goesBy Tryz.pinned.checked.prog:=by kernel_rfl
end Go.Proofs.YthbhobaiopccaaaGreatDoor
