/- Lemmas for the law FnProgram, no statement of their own: no conditions. -/
import Derived.Test.YtigijcjccmdmhaaGreatDoorGf
import Derived.Deep.Strs
import Derived.JoinedOf
import Derived.OpenShut
import Derived.SevenTiedAt
import Derived.Test.YtigijcjccmdmhaaGreatDoorRows
namespace Go.Proofs.YtigijcjccmdmhaaGreatDoor
open Go
variable {bs:List Bk} {i:Nat}
theorem ak2 {s:aj} (h:12000<s.length):ba s=none:=by unfold ba;rw[iP h]
def ak3 (L:List Nat) (s:aj) (v:Value) (w:World):Prop:=∃t tv,v= .tuple #[tv,.bool (ba s).isSome]∧bS L w tv t∧∀t',ba s=some t'->t=t'
theorem Wy (s:aj) (L:List Nat) (w:World) (hL:∀x,x∈L->x<w.heap.size):bZ Tryz.prog 34 [str s] w λr w'=>ak3 L s r w'∧ak [] w w':=by
 have hK:=ak.refl [] w
 refine lz [.cell 2 58,.tmp 3] 23 Tryz.func34 rfl Ze rfl rfl rfl ?_
 refine zr<|eC fb rfl rfl rfl ?_
 intro w1 aJ aZ dV
 have hK:=hK.grow;have hK:=hK.ext aJ
 refine zA<|ag<|aQ<|zr<|zm<|kL fc rfl rfl rfl<|jx rfl rfl rfl rfl rfl<|ag<|zc rfl (λh1=>?_) (λh1=>?_)
 have hp:=ak2 (s:=s) om
 refine zr<|j6 (KC _) rfl rfl<|dk fb rfl rfl rfl aZ rfl ?_
 intro w2 aq aZ eK
 have hK:=hK.aL aq sx
 refine zA<|ag<|aV ?_
 exact⟨[_,_],⟨gR j9 fb rfl aZ rfl,rfl⟩,⟨.mk [] [],_,by rw[hp];rfl,ly oV,by rw[hp];intro t' h;cases h⟩,hK⟩
 have hle:s.length<=12000:=by omega
 have hL1:∀x,x∈w.heap.size::L->x<w1.heap.size:=by intro x hx;rcases mC.1 hx with rfl|hx;omega;have:=hL x hx;omega
 refine bA<|zr<|zm<|aC (ak0 60 s (w.heap.size::L) w1 om hle hL1) ?_
 rintro v2 w2 ⟨dz,aq⟩
 have dR:=aq.size
 have hK:=hK.ext aq;have aZ:=aZ.ext aq
 obtain⟨t,tv,r,ok,rfl,ht,hm⟩:=dz
 obtain⟨pa,pn,pc,rfl,fR,bc⟩:=dN ht
 subst fR
 refine zm<|zx (i:=0) rfl rfl<|zx (i:=1) rfl rfl<|zx (i:=2) rfl rfl<|eC fb rfl rfl rfl ?_
 intro w3 aK aI iK
 have hK:=hK.grow;have hK:=hK.ext aK;have aZ:=aZ.grow;have aZ:=aZ.ext aK;have ht:=ht.grow;have ht:=ht.ext aK
 refine dk fb rfl rfl rfl aI rfl ?_
 intro w4 aD aI iL
 have hK:=hK.aL aD sx;have aZ:=aZ.aL aD sx;have ht:=ht.aL aD sx
 refine zA<|zA<|ag<|zr<|zL j9 fb rfl aI.all rfl<|zm<|zm ?_
 apply fU 3 19 22 [19,20,21,22] (λw'=>w4=w') rfl
 intro h2
 replace h2:=bu h2
 refine zm<|cW rfl rfl<|zp rfl<|ag ?_
 exact mg rfl rfl
 intro h2
 replace h2:=bu h2
 refine zs<|zs<|zp rfl<|ag ?_
 exact mg rfl rfl
 rintro xx _ rfl
 refine dk fb rfl rfl rfl aZ rfl ?_
 intro w5 aT aZ jo
 have hK:=hK.aL aT sx;have ht:=ht.aL aT sx
 refine zA<|ag<|aV ?_
 obtain⟨qi,uJ⟩:=abB hle hm
 exact⟨[_,_],⟨gR j9 fb rfl aZ rfl,rfl⟩,⟨t,_,by rw[<-qi];rfl,ht.jj (λx hx=>by simp[hx]),uJ⟩,hK⟩
def ak5 (L:List Nat) (s:aj) (v:Value) (w:World):Prop:=∃t tv,v= .tuple #[tv,.bool (rN s)]∧bS L w tv t∧∀t',ba s=some t'->t=t'
theorem ak6 (s:aj) (L:List Nat) (w:World) (hL:∀x,x∈L->x<w.heap.size):bZ Tryz.prog 60 [str s] w λr w'=>ak5 L s r w'∧ak [] w w':=by
 have hK:=ak.refl [] w
 refine lz [.cell 2 58,.tmp 3] 17 Tryz.func60 rfl Zv rfl rfl rfl ?_
 refine zr<|eC fb rfl rfl rfl ?_
 intro w1 aJ aZ dV
 have hK:=hK.grow;have hK:=hK.ext aJ
 refine zA<|ag<|zr<|zm<|aC (Wy s (w.heap.size::L) w1 (by intro x hx;rcases mC.1 hx with rfl|hx;omega;have:=hL x hx;omega)) ?_
 rintro v2 w2 ⟨dz,aq⟩
 have dR:=aq.size
 have hK:=hK.ext aq;have aZ:=aZ.ext aq
 obtain⟨t,tv,rfl,ht,hp⟩:=dz
 obtain⟨pa,pn,pc,rfl,fR,bc⟩:=dN ht
 subst fR
 have dx:=λh=>Dq hp h
 refine zm<|zx (i:=0) rfl rfl<|zx (i:=1) rfl rfl<|eC fb rfl rfl rfl ?_
 intro w3 aK aI iK
 have hK:=hK.grow;have hK:=hK.ext aK;have aZ:=aZ.grow;have aZ:=aZ.ext aK;have ht:=ht.grow;have ht:=ht.ext aK
 refine dk fb rfl rfl rfl aI rfl ?_
 intro w4 aD aI iL
 have hK:=hK.aL aD sx;have aZ:=aZ.aL aD sx;have ht:=ht.aL aD sx
 refine zA<|ag<|aQ ?_
 refine qf eu (cQ w.heap.size ([str t.az,.slice pa t.au.length pc]) 58) 8 (rA 11 6++[100006,3]) (rA 11 6++[100006,3]) [[],[],[1],[2],[2,3],[2,4],[0],[5]] [λv _=>v=(.agg #[str t.az,.slice pa t.au.length pc]),λv _=>v=(.bool ((ba s).isSome)),λv _=>v=(.bool ((ba s).isSome)),λv _=>((ba s).isSome)=true->v=(.agg #[str t.az,.slice pa t.au.length pc]),λv _=>((ba s).isSome)=true->v=(.bool (fC false t)),λv _=>v=(.bool ((ba s).isSome&&fC false t)),λ_ ww=>aY ww w.heap.size ([str t.az,.slice pa t.au.length pc]).toArray 58,λv _=>v=(.bool ((ba s).isSome&&fC false t))] de (cX (cX (cX (eV (eV (cX (C3 (cX trivial)))))))) (λwd aB=>?_) ?_
 refine bN ?_ ?_
 intro x vs w5 e aT hd he
 replace aT:=(cQ w.heap.size ([str t.az,.slice pa t.au.length pc]) 58).trans aB aT
 have aI:=aI.aL aT.1 sx
 replace he:e=aM (aN _ x _) []:=he
 subst he
 refine zL j9 fb rfl aI.all rfl<|ag ?_
 exact dn ((cQ w.heap.size ([str t.az,.slice pa t.au.length pc]) 58).refl _) rfl
 refine bN ?_ ?_
 intro x vs w5 e aT hd he
 replace aT:=(cQ w.heap.size ([str t.az,.slice pa t.au.length pc]) 58).trans aB aT
 replace he:e=aM (aN _ x _) []:=he
 subst he
 refine zm<|ag ?_
 exact dn ((cQ w.heap.size ([str t.az,.slice pa t.au.length pc]) 58).refl _) rfl
 refine bN ?_ ?_
 intro x vs w5 e aT hd he
 have d1:vs 1=(.bool ((ba s).isSome)):=hd
 replace aT:=(cQ w.heap.size ([str t.az,.slice pa t.au.length pc]) 58).trans aB aT
 replace he:e=aM (aN _ x _) [(12,vs 1)]:=he
 rw[d1] at he
 subst he
 refine zm<|ag ?_
 exact dn ((cQ w.heap.size ([str t.az,.slice pa t.au.length pc]) 58).refl _) rfl
 refine bN ?_ ?_
 intro x vs w5 e aT hd he
 have d2:vs 2=(.bool ((ba s).isSome)):=hd
 replace aT:=(cQ w.heap.size ([str t.az,.slice pa t.au.length pc]) 58).trans aB aT
 have aI:=aI.aL aT.1 sx
 rcases bE ((ba s).isSome) with hg|hg
 rw[hg] at d2
 replace he:e=aM (aN _ x _) [(13,vs 2)]:=he
 rw[d2] at he
 subst he
 refine zL j9 fb rfl aI.all rfl<|ag ?_
 exact dn ((cQ w.heap.size ([str t.az,.slice pa t.au.length pc]) 58).refl _) (show((ba s).isSome)=true->_=((.agg #[str t.az,.slice pa t.au.length pc]):Value) from λ_=>rfl)
 rw[hg] at d2
 replace he:e=aM (aN _ x _) [(13,vs 2)]:=he
 rw[d2] at he
 subst he
 refine zs<|ag ?_
 exact dn ((cQ w.heap.size ([str t.az,.slice pa t.au.length pc]) 58).refl _) (show((ba s).isSome)=true->_=(_:Value) from λhh=>nomatch hg.symm.trans hh)
 refine bN ?_ ?_
 intro x vs w5 e aT hd he
 have aR:(vs 2=(.bool ((ba s).isSome)))∧(((ba s).isSome)=true->vs 3=(.agg #[str t.az,.slice pa t.au.length pc])):=hd
 obtain⟨d2,d3⟩:=aR
 replace aT:=(cQ w.heap.size ([str t.az,.slice pa t.au.length pc]) 58).trans aB aT
 have ht:=ht.aL aT.1 sx
 rcases bE ((ba s).isSome) with hg|hg
 rw[hg] at d2
 replace d3:=d3 hg
 replace he:e=aM (aN _ x _) [(13,vs 2),(14,vs 3)]:=he
 rw[d2,d3] at he
 subst he
 refine aC (Pl t.size t (lR _) (by have:=(dx hg).2;omega) (dx hg).1 false _ _ w5 ht) ?_
 rintro v6 w6 ⟨kU,bD⟩
 have ob:=bD.size
 obtain rfl:=kU
 refine ag ?_
 exact dn ((cQ w.heap.size ([str t.az,.slice pa t.au.length pc]) 58).of bD) (show((ba s).isSome)=true->_=((.bool (fC false t)):Value) from λ_=>rfl)
 rw[hg] at d2
 replace he:e=aM (aN _ x _) [(13,vs 2),(14,vs 3)]:=he
 rw[d2] at he
 subst he
 refine zs<|ag ?_
 exact dn ((cQ w.heap.size ([str t.az,.slice pa t.au.length pc]) 58).refl _) (show((ba s).isSome)=true->_=(_:Value) from λhh=>nomatch hg.symm.trans hh)
 refine bN ?_ ?_
 intro x vs w5 e aT hd he
 have aR:(vs 2=(.bool ((ba s).isSome)))∧(((ba s).isSome)=true->vs 4=(.bool (fC false t))):=hd
 obtain⟨d2,d4⟩:=aR
 replace aT:=(cQ w.heap.size ([str t.az,.slice pa t.au.length pc]) 58).trans aB aT
 rcases bE ((ba s).isSome) with hg|hg
 rw[hg] at d2
 replace d4:=d4 hg
 replace he:e=aM (aN _ x _) [(13,vs 2),(15,vs 4)]:=he
 rw[d2,d4] at he
 subst he
 refine zp rfl<|ag ?_
 exact dn ((cQ w.heap.size ([str t.az,.slice pa t.au.length pc]) 58).refl _) (by first|rfl|(rw[hg];rfl))
 rw[hg] at d2
 replace he:e=aM (aN _ x _) [(13,vs 2),(15,vs 4)]:=he
 rw[d2] at he
 subst he
 refine zp rfl<|ag ?_
 exact dn ((cQ w.heap.size ([str t.az,.slice pa t.au.length pc]) 58).refl _) (by first|rfl|(rw[hg];rfl))
 refine bN ?_ ?_
 intro x vs w5 e aT hd he
 have d0:vs 0=(.agg #[str t.az,.slice pa t.au.length pc]):=hd
 replace aT:=(cQ w.heap.size ([str t.az,.slice pa t.au.length pc]) 58).trans aB aT
 obtain⟨us,uY,uZ⟩:=aT.2.2 ⟨_,(by rfl),aZ⟩
 replace he:e=aM (aN _ x _) [(11,vs 0)]:=he
 rw[d0] at he
 subst he
 refine dk fb rfl rfl rfl uZ (by rw[uY];rfl) ?_
 intro w6 bD hb lB
 refine ag ?_
 exact dn ⟨bD,λ_=>hb,λ_=>⟨_,rfl,hb⟩⟩ hb
 refine bN ?_ ?_
 intro x vs w5 e aT hd he
 have d5:vs 5=(.bool ((ba s).isSome&&fC false t)):=hd
 replace aT:=(cQ w.heap.size ([str t.az,.slice pa t.au.length pc]) 58).trans aB aT
 replace he:e=aM (aN _ x _) [(16,vs 5)]:=he
 rw[d5] at he
 subst he
 refine zA<|ag ?_
 exact dn ((cQ w.heap.size ([str t.az,.slice pa t.au.length pc]) 58).refl _) rfl
 exact trivial
 intro x vs pX jR bJ
 have d0:vs 0=(.agg #[str t.az,.slice pa t.au.length pc]):=bJ 0 de
 have d1:vs 1=(.bool ((ba s).isSome)):=bJ 1 de
 have d2:vs 2=(.bool ((ba s).isSome)):=bJ 2 de
 have d3:((ba s).isSome)=true->vs 3=(.agg #[str t.az,.slice pa t.au.length pc]):=bJ 3 de
 have d4:((ba s).isSome)=true->vs 4=(.bool (fC false t)):=bJ 4 de
 have d5:vs 5=(.bool ((ba s).isSome&&fC false t)):=bJ 5 de
 have d6:aY pX w.heap.size ([str t.az,.slice pa t.au.length pc]).toArray 58:=bJ 6 de
 have d7:vs 7=(.bool ((ba s).isSome&&fC false t)):=bJ 7 de
 have hK:=hK.aL jR.1 sx;have ht:=ht.aL jR.1 sx
 have aZ:=d6
 change OW _ _ _ _ [] (aM (aN _ x _) (zZ 11 [vs 0,vs 1,vs 2,vs 3,vs 4,vs 5]++[(100006,vs 6),(3,vs 7)])) _
 rw[d0,d1,d2,d5,d7]
 refine ag<|aV ?_
 exact⟨[_,_],⟨gR j9 fb rfl aZ rfl,rfl⟩,⟨t,_,by rw[HP (f:=fC false) hp];rfl,ht.jj (λx hx=>by simp[hx]),hp⟩,hK⟩
def Wz (L:List Nat) (b:Bk) (v:Value) (w:World):Prop:=∃ib bv,v= .tuple #[bv,.bool (mw b)]∧nQ L w bv ib∧(mw b=true->ib=fV b)
theorem Po {L:List Nat} {b:Bk} {w:World} (h:mw b=false):Wz L b (.tuple #[.agg #[str [],.slice none 0 0,.slice none 0 0],.bool false]) w:=
 ⟨⟨[],[],[]⟩,_,by rw[h],Ll oV oV,by rw[h];intro h;cases h⟩
theorem WA (k:Bk) (hl:k.aP.length<1000000000) (fK:k.cE.length<1000000000) (fu:k.code.length<1000000000) (v:Value) (Li L:List Nat) (w:World) (hv:qj Li w v k) (hL:∀x,x∈L->x<w.heap.size):
  bZ Tryz.prog 32 [v] w λr w'=>Wz L k r w'∧ak [] w w':=by
 obtain⟨a1,n1,c1,a2,n2,c2,rfl,oA,mq,dy,dR⟩:=Bz hv
 have hK:=ak.refl [] w
 refine lz [.cell 2 53,.tmp 3] 102 Tryz.func32 rfl Zd rfl rfl rfl ?_
 refine zr<|fA rfl ?_
 intro w1 aJ aU dV
 have hK:=hK.ext aJ
 refine eC lW rfl rfl rfl ?_
 intro w2 aq aZ eK
 have hK:=hK.grow;have hK:=hK.ext aq;have aU:=aU.grow;have aU:=aU.ext aq
 refine zA<|ag<|aQ<|zr<|zf vZ rfl<|zl cg rfl (aU.at rfl)<|aC (Wq _ om _) ?_
 rintro _ _ ⟨rfl,rfl⟩
 refine eH rfl<|zm ?_
 apply fo 5 17 22 [17,18,19,20,21,22] (λw'=>w2=w') rfl
 intro h1
 replace h1:=bu h1
 refine zs<|zs<|zs<|zs<|zp rfl<|ag ?_
 exact mg rfl rfl
 intro h1
 replace h1:=bu h1
 refine zf vZ rfl<|zl cg rfl (aU.at rfl)<|kL fc rfl rfl rfl<|jx rfl rfl rfl rfl rfl<|zp rfl<|ag ?_
 exact mg rfl rfl
 rintro xx _ rfl
 refine zm ?_
 apply fo 5 23 28 [23,24,25,26,27,28] (λw'=>w2=w') rfl
 intro h2
 replace h2:=bu h2
 refine zs<|zs<|zs<|zs<|zp rfl<|ag ?_
 exact mg rfl rfl
 intro h2
 replace h2:=bu h2
 refine zf wa rfl<|zl eO rfl (aU.at rfl)<|eh bh rfl<|jx rfl rfl rfl rfl rfl<|zp rfl<|ag ?_
 exact mg rfl rfl
 rintro xx _ rfl
 refine zm ?_
 apply fo 6 29 35 [29,30,31,32,33,34,35] (λw'=>w2=w') rfl
 intro h3
 replace h3:=bu h3
 refine zs<|zs<|zs<|zs<|zs<|zp rfl<|ag ?_
 exact mg rfl rfl
 intro h3
 replace h3:=bu h3
 refine zf mU rfl<|zl eO rfl (aU.at rfl)<|eh bh rfl<|aC (Ka _ _ _ _) ?_
 rintro _ _ ⟨rfl,rfl⟩
 refine eH rfl<|zp rfl<|ag ?_
 exact mg rfl rfl
 rintro xx _ rfl
 refine ag<|zc rfl (λh4=>?_) (λh4=>?_)
 have hq:=abC oA mq h4
 refine zr<|j6 (KB _) rfl rfl<|dk lW rfl rfl rfl aZ rfl ?_
 intro w3 aK aZ iK
 have hK:=hK.aL aK sx
 refine zA<|ag<|aV ?_
 exact⟨[_,_],⟨gR Bq lW rfl aZ rfl,rfl⟩,Po hq,hK⟩
 obtain⟨tw,oZ⟩:=abD oA mq h4
 have xh:k.cE.length<=40∧k.code.length<=80:=by simp only[aE,dE] at tw;exact⟨tw.1.2,tw.2.2⟩
 refine bA<|zr<|zf vZ rfl<|zl cg rfl (aU.at rfl)<|j6 (Z1 _ _) rfl rfl<|eC lW rfl rfl rfl ?_
 intro w3 aK aI iK
 have hK:=hK.grow;have hK:=hK.ext aK;have aU:=aU.grow;have aU:=aU.ext aK;have aZ:=aZ.grow;have aZ:=aZ.ext aK
 refine dk lW rfl rfl rfl aI rfl ?_
 intro w4 aD aI iL
 have hK:=hK.aL aD sx;have aU:=aU.aL aD sx;have aZ:=aZ.aL aD sx
 refine ag<|aQ<|zr<|zf wa rfl<|zl eO rfl (aU.at rfl)<|eh bh rfl<|zm<|ag<|cP ?_
 refine fZ (λq:Nat×Option Addr×Nat×Option Nat=>[(1,.pointer (some ⟨w.heap.size,0,none⟩)),(2,.pointer (some ⟨w1.heap.size,0,none⟩)),(4,.pointer (some ⟨w2.heap.size,0,none⟩)),(41,.slice a1 n1 c1),(42,.int .i64 (n1:Int)),(43,.int .i64 (q.1:Int))]) (λq w'=>ak [] w w'∧aY w' w.heap.size [str k.aP,.slice a1 n1 c1,.slice a2 n2 c2].toArray 29∧aY w' w1.heap.size [str [],.slice none 0 0,.slice none 0 0].toArray 53∧aY w' w2.heap.size [str k.aP,.slice q.2.1 ((k.cE.take q.1).map tr).length q.2.2.1,.slice none 0 0].toArray 53∧Gr w1.heap.size (w1.heap.size::w2.heap.size::L) w' 58 2 (.slice q.2.1 ((k.cE.take q.1).map tr).length q.2.2.1) q.2.2.2 (dG ((k.cE.take q.1).map tr))∧q.1<=k.cE.length∧∀i,i<q.1->rN (aF k.cE i)=true) (λq=>k.cE.length-q.1) ((0,none,0,none)) (⟨rfl,rfl,rfl,rfl,rfl,rfl⟩) (⟨hK,aU,aZ,aI,Gr.nil (by intro x hx;simp at hx;rcases hx with rfl|rfl|hx;omega;omega;have:=hL x hx;omega) om,sm,by intro i hi;simp at hi⟩) ?_
 intro gg w5 e5 hI
 obtain⟨i,a,cc,g⟩:=gg
 dsimp only at hI⊢
 obtain⟨hK,aU,aZ,aI,hO,hk,dA⟩:=hI
 have iY:=hK.size
 have T0:=aU.lt
 have T1:=aZ.lt
 have Wx:=aI.lt
 refine zr<|fJ rfl rfl rfl<|ag<|aQ<|zc rfl (λh5=>?_) (λh5=>?_)
 have gh:=lj (xs:=k.cE) (i:=i) om
 obtain⟨b,off,rfl,hc⟩:=qU (dy.ext hK) gh
 refine bA<|aQ<|cP<|zr<|zi bh bB rfl rfl om<|zl cg rfl (hc 0 _ rfl)<|zA<|ag<|zr<|zm<|aC (ak6 (aF k.cE i) (g.toList++(w1.heap.size::w2.heap.size::L)) w5 hO.all) ?_
 rintro v6 w6 ⟨kU,bD⟩
 have ob:=bD.size
 have hK:=hK.ext bD;have aU:=aU.ext bD;have aZ:=aZ.ext bD;have aI:=aI.ext bD;have hO:=hO.ext bD
 obtain⟨t,tv,rfl,ht,hp⟩:=kU
 obtain⟨pa,pn,pc,rfl,fR,bc⟩:=dN ht
 subst fR
 refine zm<|zx (i:=0) rfl rfl<|zx (i:=1) rfl rfl<|eC fb rfl rfl rfl ?_
 intro w7 cv cH qg
 have hK:=hK.grow;have hK:=hK.ext cv;have aU:=aU.grow;have aU:=aU.ext cv;have aZ:=aZ.grow;have aZ:=aZ.ext cv;have aI:=aI.grow;have aI:=aI.ext cv;have hO:=hO.alloc cv qg;have ht:=ht.grow;have ht:=ht.ext cv
 refine dk fb rfl rfl rfl cH rfl ?_
 intro w8 cu cH mu
 have hK:=hK.aL cu sx;have aU:=aU.aL cu sx;have aZ:=aZ.aL cu sx;have aI:=aI.aL cu sx;have hO:=hO.aL cu sx;have ht:=ht.aL cu sx
 refine zA<|ag<|aQ<|zr<|zm<|eH rfl<|ag<|zc rfl (λh6=>?_) (λh6=>?_)
 have hq:=abE (b:=k) (i:=i) om (by simpa using h6)
 refine zr<|j6 (KB _) rfl rfl<|dk lW rfl rfl rfl aZ rfl ?_
 intro w9 aG aZ dP
 have hK:=hK.aL aG sx
 refine zA<|ag<|aV ?_
 exact⟨[_,_],⟨gR Bq lW rfl aZ rfl,rfl⟩,Po hq,hK⟩
 have mW:rN (aF k.cE i)=true:=by simpa using h6
 refine bA<|db<|zf KL rfl<|zl sr rfl (aI.at rfl)<|zL j9 fb rfl cH.all rfl<|gA nM fb rfl rfl ?_
 intro w9 aG Pb dP
 have hK:=hK.ext aG;have aU:=aU.ext aG;have aZ:=aZ.ext aG;have aI:=aI.ext aG;have hO:=hO.ext aG;have ht:=ht.ext aG
 refine K7 nM fb rfl rfl rfl rfl rfl rfl hO Pb ht.K8 (by rw[HZ _ hk];omega) ?_
 intro a3 Hr g3 cN od bU
 have WB:=bU.size
 have hK:=ak.QJ om hO.low hK bU
 have aU:=aU.aL bU (hO.QI om);have aZ:=aZ.aL bU (hO.Dl sm);have aI:=aI.aL bU (hO.Dl sm)
 rw[abG mW hp,Lg tr gh] at od⊢
 refine zf KL rfl<|gX KO rfl rfl rfl aI rfl ?_
 intro eW cL aI uF
 have hK:=hK.aL cL sx;have aU:=aU.aL cL sx;have aZ:=aZ.aL cL sx;have od:=od.aL cL sx
 refine ag<|db<|eE rfl rfl rfl (wrap_i64 _ om om)<|zm<|ag ?_
 exact⟨(i+1,a3,Hr,g3),⟨rfl,rfl,rfl,rfl,rfl,rfl⟩,⟨hK,aU,aZ,aI,od.jj (λx hx=>mK _ hx),by dsimp only;omega,by intro j hj;rcases Nat.lt_or_ge j i with h|h;exact dA j h;rw[show j=i by dsimp only at hj;omega];exact mW⟩,by dsimp only;omega⟩
 have K6:∀j,j<k.cE.length->rN (aF k.cE j)=true:=λj hj=>dA j om
 rw[Lh tr om] at aI hO
 have NI:=hO.trees
 have jw:=ak.refl [w1.heap.size,w2.heap.size] w5
 clear dA hO
 refine gF<|gH rfl<|aQ<|zr<|zf mU rfl<|zl eO rfl (aU.at rfl)<|eh bh rfl<|zm<|ag<|cP ?_
 refine fZ (λq:Nat×Option Addr×Nat×Option Nat=>[(1,.pointer (some ⟨w.heap.size,0,none⟩)),(2,.pointer (some ⟨w1.heap.size,0,none⟩)),(4,.pointer (some ⟨w2.heap.size,0,none⟩)),(63,.slice a2 n2 c2),(64,.int .i64 (n2:Int)),(65,.int .i64 (q.1:Int))]) (λq w'=>ak [] w w'∧ak [w1.heap.size,w2.heap.size] w5 w'∧aY w' w.heap.size [str k.aP,.slice a1 n1 c1,.slice a2 n2 c2].toArray 29∧aY w' w1.heap.size [str [],.slice none 0 0,.slice none 0 0].toArray 53∧aY w' w2.heap.size [str k.aP,.slice a (k.cE.map tr).length cc,.slice q.2.1 ((k.code.take q.1).map tr).length q.2.2.1].toArray 53∧Gr w5.heap.size (w1.heap.size::w2.heap.size::L) w' 58 2 (.slice q.2.1 ((k.code.take q.1).map tr).length q.2.2.1) q.2.2.2 (dG ((k.code.take q.1).map tr))∧q.1<=k.code.length∧∀i,i<q.1->sw k.code i=true) (λq=>k.code.length-q.1) ((0,none,0,none)) (⟨rfl,rfl,rfl,rfl,rfl,rfl⟩) (⟨hK,jw,aU,aZ,aI,Gr.nil (by intro x hx;simp at hx;rcases hx with rfl|rfl|hx;omega;omega;have:=hL x hx;omega) om,sm,by intro i hi;simp at hi⟩) ?_
 intro gg w6 e6 hI
 obtain⟨j,a5,Tz,g⟩:=gg
 dsimp only at hI⊢
 obtain⟨hK,jw,aU,aZ,aI,hO,aq,dA⟩:=hI
 have iY:=hK.size
 have apd:=jw.size
 have T0:=aU.lt
 have T1:=aZ.lt
 have Wx:=aI.lt
 refine zr<|fJ rfl rfl rfl<|ag<|aQ<|zc rfl (λh7=>?_) (λh7=>?_)
 have gh:=lj (xs:=k.code) (i:=j) om
 obtain⟨b,off,rfl,hc⟩:=qU (dR.ext hK) gh
 refine bA<|aQ<|cP<|zr<|zm<|zi bh bB rfl rfl om<|zl cg rfl (hc 0 _ rfl)<|zA<|zA<|ag<|zr<|zm<|aC (Wy (aF k.code j) (g.toList++(w1.heap.size::w2.heap.size::L)) w6 hO.all) ?_
 rintro v7 w7 ⟨iV,cv⟩
 have pg:=cv.size
 have hK:=hK.ext cv;have jw:=jw.ext cv;have aU:=aU.ext cv;have aZ:=aZ.ext cv;have aI:=aI.ext cv;have hO:=hO.ext cv
 obtain⟨t,tv,rfl,ht,hp⟩:=iV
 obtain⟨pa,pn,pc,rfl,fR,bc⟩:=dN ht
 subst fR
 have dx:=λh=>Dq hp h
 refine zm<|zx (i:=0) rfl rfl<|zx (i:=1) rfl rfl<|eC fb rfl rfl rfl ?_
 intro w8 cu iD mu
 have hK:=hK.grow;have hK:=hK.ext cu;have jw:=jw.grow;have jw:=jw.ext cu;have aU:=aU.grow;have aU:=aU.ext cu;have aZ:=aZ.grow;have aZ:=aZ.ext cu;have aI:=aI.grow;have aI:=aI.ext cu;have hO:=hO.alloc cu mu;have ht:=ht.grow;have ht:=ht.ext cu
 refine dk fb rfl rfl rfl iD rfl ?_
 intro w9 aG iD dP
 have hK:=hK.aL aG sx;have jw:=jw.aL aG sx;have aU:=aU.aL aG sx;have aZ:=aZ.aL aG sx;have aI:=aI.aL aG sx;have hO:=hO.aL aG sx;have ht:=ht.aL aG sx
 refine zA<|ag<|aQ<|aQ ?_
 refine qf eu aS 18 (rA 75 18) (rA 75 18) [[],[0],[1],[2],[2,3],[2,4],[2,5],[6],[7],[7,8],[7],[7],[7,11],[7,12],[7,13],[7,10,14],[7,9,15],[7,16]] [λv _=>v=(.bool ((ba (aF k.code j)).isSome)),λv _=>v=(.bool (!(ba (aF k.code j)).isSome)),λv _=>v=(.bool (!(ba (aF k.code j)).isSome)),λv _=>(!(ba (aF k.code j)).isSome)=false->v=(.agg #[str t.az,.slice pa t.au.length pc]),λv _=>(!(ba (aF k.code j)).isSome)=false->v=(.bool (dJ t)),λv _=>(!(ba (aF k.code j)).isSome)=false->v=(.bool (!dJ t)),λv _=>v=(.bool (!(ba (aF k.code j)).isSome||!dJ t)),λv _=>v=(.bool (!(ba (aF k.code j)).isSome||!dJ t)),λv _=>(!(ba (aF k.code j)).isSome||!dJ t)=false->v=(.agg #[str t.az,.slice pa t.au.length pc]),λv _=>(!(ba (aF k.code j)).isSome||!dJ t)=false->v=(.bool (rQ t)),λv _=>(!(ba (aF k.code j)).isSome||!dJ t)=false->v=(.int .i64 (j:Int)),λv _=>(!(ba (aF k.code j)).isSome||!dJ t)=false->v=(.pointer (some ⟨w.heap.size,0+2,none⟩)),λv _=>(!(ba (aF k.code j)).isSome||!dJ t)=false->v=(.slice (some ⟨b,off,none⟩) n2 c2),λv _=>(!(ba (aF k.code j)).isSome||!dJ t)=false->v=(.int .i64 (n2:Int)),λv _=>(!(ba (aF k.code j)).isSome||!dJ t)=false->v=(.int .i64 ((n2:Int)-1)),λv _=>(!(ba (aF k.code j)).isSome||!dJ t)=false->v=(.bool (decide ((j:Int)=(n2:Int)-1))),λv _=>(!(ba (aF k.code j)).isSome||!dJ t)=false->v=(.bool (rQ t !=decide ((j:Int)=(n2:Int)-1))),λv _=>v=(.bool ((!(ba (aF k.code j)).isSome||!dJ t)||(rQ t !=decide ((j:Int)=(n2:Int)-1))))] de (cX (cX (cX (eV (eV (eV (cX (cX (eV (eV (eV (eV (eV (eV (eV (eV (eV (cX trivial)))))))))))))))))) (λwd aB=>?_) ?_
 refine bN ?_ ?_
 intro x vs cN e bU hd he
 replace bU:=aS.trans aB bU
 replace he:e=aM (aN _ x _) []:=he
 subst he
 refine zm<|ag ?_
 exact dn (aS.refl _) rfl
 refine bN ?_ ?_
 intro x vs cN e bU hd he
 have d0:vs 0=(.bool ((ba (aF k.code j)).isSome)):=hd
 replace bU:=aS.trans aB bU
 replace he:e=aM (aN _ x _) [(75,vs 0)]:=he
 rw[d0] at he
 subst he
 refine eH rfl<|ag ?_
 exact dn (aS.refl _) rfl
 refine bN ?_ ?_
 intro x vs cN e bU hd he
 have d1:vs 1=(.bool (!(ba (aF k.code j)).isSome)):=hd
 replace bU:=aS.trans aB bU
 replace he:e=aM (aN _ x _) [(76,vs 1)]:=he
 rw[d1] at he
 subst he
 refine zm<|ag ?_
 exact dn (aS.refl _) rfl
 refine bN ?_ ?_
 intro x vs cN e bU hd he
 have d2:vs 2=(.bool (!(ba (aF k.code j)).isSome)):=hd
 replace bU:=aS.trans aB bU
 have iD:=iD.ext bU
 rcases bE (!(ba (aF k.code j)).isSome) with hg|hg
 rw[hg] at d2
 replace he:e=aM (aN _ x _) [(77,vs 2)]:=he
 rw[d2] at he
 subst he
 refine zs<|ag ?_
 exact dn (aS.refl _) (show(!(ba (aF k.code j)).isSome)=false->_=(_:Value) from λhh=>nomatch hg.symm.trans hh)
 rw[hg] at d2
 replace he:e=aM (aN _ x _) [(77,vs 2)]:=he
 rw[d2] at he
 subst he
 refine zL j9 fb rfl iD.all rfl<|ag ?_
 exact dn (aS.refl _) (show(!(ba (aF k.code j)).isSome)=false->_=((.agg #[str t.az,.slice pa t.au.length pc]):Value) from λ_=>rfl)
 refine bN ?_ ?_
 intro x vs cN e bU hd he
 have aR:(vs 2=(.bool (!(ba (aF k.code j)).isSome)))∧((!(ba (aF k.code j)).isSome)=false->vs 3=(.agg #[str t.az,.slice pa t.au.length pc])):=hd
 obtain⟨d2,d3⟩:=aR
 replace bU:=aS.trans aB bU
 have ht:=ht.ext bU
 rcases bE (!(ba (aF k.code j)).isSome) with hg|hg
 rw[hg] at d2
 replace he:e=aM (aN _ x _) [(77,vs 2),(78,vs 3)]:=he
 rw[d2] at he
 subst he
 refine zs<|ag ?_
 exact dn (aS.refl _) (show(!(ba (aF k.code j)).isSome)=false->_=(_:Value) from λhh=>nomatch hg.symm.trans hh)
 rw[hg] at d2
 replace d3:=d3 hg
 replace he:e=aM (aN _ x _) [(77,vs 2),(78,vs 3)]:=he
 rw[d2,d3] at he
 subst he
 refine aC (akW t (dx (by simpa using hg)).2 (dx (by simpa using hg)).1 _ _ cN ht) ?_
 rintro v11 eW ⟨rC,cL⟩
 have CC:=cL.size
 obtain rfl:=rC
 refine ag ?_
 exact dn (aS.of cL) (show(!(ba (aF k.code j)).isSome)=false->_=((.bool (dJ t)):Value) from λ_=>rfl)
 refine bN ?_ ?_
 intro x vs cN e bU hd he
 have aR:(vs 2=(.bool (!(ba (aF k.code j)).isSome)))∧((!(ba (aF k.code j)).isSome)=false->vs 4=(.bool (dJ t))):=hd
 obtain⟨d2,d4⟩:=aR
 replace bU:=aS.trans aB bU
 rcases bE (!(ba (aF k.code j)).isSome) with hg|hg
 rw[hg] at d2
 replace he:e=aM (aN _ x _) [(77,vs 2),(79,vs 4)]:=he
 rw[d2] at he
 subst he
 refine zs<|ag ?_
 exact dn (aS.refl _) (show(!(ba (aF k.code j)).isSome)=false->_=(_:Value) from λhh=>nomatch hg.symm.trans hh)
 rw[hg] at d2
 replace d4:=d4 hg
 replace he:e=aM (aN _ x _) [(77,vs 2),(79,vs 4)]:=he
 rw[d2,d4] at he
 subst he
 refine eH rfl<|ag ?_
 exact dn (aS.refl _) (show(!(ba (aF k.code j)).isSome)=false->_=((.bool (!dJ t)):Value) from λ_=>rfl)
 refine bN ?_ ?_
 intro x vs cN e bU hd he
 have aR:(vs 2=(.bool (!(ba (aF k.code j)).isSome)))∧((!(ba (aF k.code j)).isSome)=false->vs 5=(.bool (!dJ t))):=hd
 obtain⟨d2,d5⟩:=aR
 replace bU:=aS.trans aB bU
 rcases bE (!(ba (aF k.code j)).isSome) with hg|hg
 rw[hg] at d2
 replace he:e=aM (aN _ x _) [(77,vs 2),(80,vs 5)]:=he
 rw[d2] at he
 subst he
 refine zp rfl<|ag ?_
 exact dn (aS.refl _) (by first|rfl|(rw[hg];rfl))
 rw[hg] at d2
 replace d5:=d5 hg
 replace he:e=aM (aN _ x _) [(77,vs 2),(80,vs 5)]:=he
 rw[d2,d5] at he
 subst he
 refine zp rfl<|ag ?_
 exact dn (aS.refl _) (by first|rfl|(rw[hg];rfl))
 refine bN ?_ ?_
 intro x vs cN e bU hd he
 have d6:vs 6=(.bool (!(ba (aF k.code j)).isSome||!dJ t)):=hd
 replace bU:=aS.trans aB bU
 replace he:e=aM (aN _ x _) [(81,vs 6)]:=he
 rw[d6] at he
 subst he
 refine zm<|ag ?_
 exact dn (aS.refl _) rfl
 refine bN ?_ ?_
 intro x vs cN e bU hd he
 have d7:vs 7=(.bool (!(ba (aF k.code j)).isSome||!dJ t)):=hd
 replace bU:=aS.trans aB bU
 have iD:=iD.ext bU
 rcases bE (!(ba (aF k.code j)).isSome||!dJ t) with hg|hg
 rw[hg] at d7
 replace he:e=aM (aN _ x _) [(82,vs 7)]:=he
 rw[d7] at he
 subst he
 refine zs<|ag ?_
 exact dn (aS.refl _) (show(!(ba (aF k.code j)).isSome||!dJ t)=false->_=(_:Value) from λhh=>nomatch hg.symm.trans hh)
 rw[hg] at d7
 replace he:e=aM (aN _ x _) [(82,vs 7)]:=he
 rw[d7] at he
 subst he
 refine zL j9 fb rfl iD.all rfl<|ag ?_
 exact dn (aS.refl _) (show(!(ba (aF k.code j)).isSome||!dJ t)=false->_=((.agg #[str t.az,.slice pa t.au.length pc]):Value) from λ_=>rfl)
 refine bN ?_ ?_
 intro x vs cN e bU hd he
 have aR:(vs 7=(.bool (!(ba (aF k.code j)).isSome||!dJ t)))∧((!(ba (aF k.code j)).isSome||!dJ t)=false->vs 8=(.agg #[str t.az,.slice pa t.au.length pc])):=hd
 obtain⟨d7,d8⟩:=aR
 replace bU:=aS.trans aB bU
 have ht:=ht.ext bU
 rcases bE (!(ba (aF k.code j)).isSome||!dJ t) with hg|hg
 rw[hg] at d7
 replace he:e=aM (aN _ x _) [(82,vs 7),(83,vs 8)]:=he
 rw[d7] at he
 subst he
 refine zs<|ag ?_
 exact dn (aS.refl _) (show(!(ba (aF k.code j)).isSome||!dJ t)=false->_=(_:Value) from λhh=>nomatch hg.symm.trans hh)
 rw[hg] at d7
 replace d8:=d8 hg
 replace he:e=aM (aN _ x _) [(82,vs 7),(83,vs 8)]:=he
 rw[d7,d8] at he
 subst he
 refine aC (akY t (dx (by rw[Bool.or_eq_false_iff] at hg;simpa using hg.1)).1 _ _ cN ht) ?_
 rintro v11 eW ⟨rC,cL⟩
 have CC:=cL.size
 obtain rfl:=rC
 refine ag ?_
 exact dn (aS.of cL) (show(!(ba (aF k.code j)).isSome||!dJ t)=false->_=((.bool (rQ t)):Value) from λ_=>rfl)
 refine bN ?_ ?_
 intro x vs cN e bU hd he
 have d7:vs 7=(.bool (!(ba (aF k.code j)).isSome||!dJ t)):=hd
 replace bU:=aS.trans aB bU
 rcases bE (!(ba (aF k.code j)).isSome||!dJ t) with hg|hg
 rw[hg] at d7
 replace he:e=aM (aN _ x _) [(82,vs 7)]:=he
 rw[d7] at he
 subst he
 refine zs<|ag ?_
 exact dn (aS.refl _) (show(!(ba (aF k.code j)).isSome||!dJ t)=false->_=(_:Value) from λhh=>nomatch hg.symm.trans hh)
 rw[hg] at d7
 replace he:e=aM (aN _ x _) [(82,vs 7)]:=he
 rw[d7] at he
 subst he
 refine zm<|ag ?_
 exact dn (aS.refl _) (show(!(ba (aF k.code j)).isSome||!dJ t)=false->_=((.int .i64 (j:Int)):Value) from λ_=>rfl)
 refine bN ?_ ?_
 intro x vs cN e bU hd he
 have d7:vs 7=(.bool (!(ba (aF k.code j)).isSome||!dJ t)):=hd
 replace bU:=aS.trans aB bU
 rcases bE (!(ba (aF k.code j)).isSome||!dJ t) with hg|hg
 rw[hg] at d7
 replace he:e=aM (aN _ x _) [(82,vs 7)]:=he
 rw[d7] at he
 subst he
 refine zs<|ag ?_
 exact dn (aS.refl _) (show(!(ba (aF k.code j)).isSome||!dJ t)=false->_=(_:Value) from λhh=>nomatch hg.symm.trans hh)
 rw[hg] at d7
 replace he:e=aM (aN _ x _) [(82,vs 7)]:=he
 rw[d7] at he
 subst he
 refine zf mU rfl<|ag ?_
 exact dn (aS.refl _) (show(!(ba (aF k.code j)).isSome||!dJ t)=false->_=((.pointer (some ⟨w.heap.size,0+2,none⟩)):Value) from λ_=>rfl)
 refine bN ?_ ?_
 intro x vs cN e bU hd he
 have aR:(vs 7=(.bool (!(ba (aF k.code j)).isSome||!dJ t)))∧((!(ba (aF k.code j)).isSome||!dJ t)=false->vs 11=(.pointer (some ⟨w.heap.size,0+2,none⟩))):=hd
 obtain⟨d7,d11⟩:=aR
 replace bU:=aS.trans aB bU
 have aU:=aU.ext bU
 rcases bE (!(ba (aF k.code j)).isSome||!dJ t) with hg|hg
 rw[hg] at d7
 replace he:e=aM (aN _ x _) [(82,vs 7),(86,vs 11)]:=he
 rw[d7] at he
 subst he
 refine zs<|ag ?_
 exact dn (aS.refl _) (show(!(ba (aF k.code j)).isSome||!dJ t)=false->_=(_:Value) from λhh=>nomatch hg.symm.trans hh)
 rw[hg] at d7
 replace d11:=d11 hg
 replace he:e=aM (aN _ x _) [(82,vs 7),(86,vs 11)]:=he
 rw[d7,d11] at he
 subst he
 refine zl eO rfl (aU.at rfl)<|ag ?_
 exact dn (aS.refl _) (show(!(ba (aF k.code j)).isSome||!dJ t)=false->_=((.slice (some ⟨b,off,none⟩) n2 c2):Value) from λ_=>rfl)
 refine bN ?_ ?_
 intro x vs cN e bU hd he
 have aR:(vs 7=(.bool (!(ba (aF k.code j)).isSome||!dJ t)))∧((!(ba (aF k.code j)).isSome||!dJ t)=false->vs 12=(.slice (some ⟨b,off,none⟩) n2 c2)):=hd
 obtain⟨d7,d12⟩:=aR
 replace bU:=aS.trans aB bU
 rcases bE (!(ba (aF k.code j)).isSome||!dJ t) with hg|hg
 rw[hg] at d7
 replace he:e=aM (aN _ x _) [(82,vs 7),(87,vs 12)]:=he
 rw[d7] at he
 subst he
 refine zs<|ag ?_
 exact dn (aS.refl _) (show(!(ba (aF k.code j)).isSome||!dJ t)=false->_=(_:Value) from λhh=>nomatch hg.symm.trans hh)
 rw[hg] at d7
 replace d12:=d12 hg
 replace he:e=aM (aN _ x _) [(82,vs 7),(87,vs 12)]:=he
 rw[d7,d12] at he
 subst he
 refine eh bh rfl<|ag ?_
 exact dn (aS.refl _) (show(!(ba (aF k.code j)).isSome||!dJ t)=false->_=((.int .i64 (n2:Int)):Value) from λ_=>rfl)
 refine bN ?_ ?_
 intro x vs cN e bU hd he
 have aR:(vs 7=(.bool (!(ba (aF k.code j)).isSome||!dJ t)))∧((!(ba (aF k.code j)).isSome||!dJ t)=false->vs 13=(.int .i64 (n2:Int))):=hd
 obtain⟨d7,d13⟩:=aR
 replace bU:=aS.trans aB bU
 rcases bE (!(ba (aF k.code j)).isSome||!dJ t) with hg|hg
 rw[hg] at d7
 replace he:e=aM (aN _ x _) [(82,vs 7),(88,vs 13)]:=he
 rw[d7] at he
 subst he
 refine zs<|ag ?_
 exact dn (aS.refl _) (show(!(ba (aF k.code j)).isSome||!dJ t)=false->_=(_:Value) from λhh=>nomatch hg.symm.trans hh)
 rw[hg] at d7
 replace d13:=d13 hg
 replace he:e=aM (aN _ x _) [(82,vs 7),(88,vs 13)]:=he
 rw[d7,d13] at he
 subst he
 refine mO rfl rfl rfl rfl rfl (wrap_i64 _ om om)<|ag ?_
 exact dn (aS.refl _) (show(!(ba (aF k.code j)).isSome||!dJ t)=false->_=((.int .i64 ((n2:Int)-1)):Value) from λ_=>rfl)
 refine bN ?_ ?_
 intro x vs cN e bU hd he
 have aR:(vs 7=(.bool (!(ba (aF k.code j)).isSome||!dJ t)))∧((!(ba (aF k.code j)).isSome||!dJ t)=false->vs 10=(.int .i64 (j:Int)))∧((!(ba (aF k.code j)).isSome||!dJ t)=false->vs 14=(.int .i64 ((n2:Int)-1))):=hd
 obtain⟨d7,d10,d14⟩:=aR
 replace bU:=aS.trans aB bU
 rcases bE (!(ba (aF k.code j)).isSome||!dJ t) with hg|hg
 rw[hg] at d7
 replace he:e=aM (aN _ x _) [(82,vs 7),(85,vs 10),(89,vs 14)]:=he
 rw[d7] at he
 subst he
 refine zs<|ag ?_
 exact dn (aS.refl _) (show(!(ba (aF k.code j)).isSome||!dJ t)=false->_=(_:Value) from λhh=>nomatch hg.symm.trans hh)
 rw[hg] at d7
 replace d10:=d10 hg
 replace d14:=d14 hg
 replace he:e=aM (aN _ x _) [(82,vs 7),(85,vs 10),(89,vs 14)]:=he
 rw[d7,d10,d14] at he
 subst he
 refine dO rfl rfl rfl<|ag ?_
 exact dn (aS.refl _) (show(!(ba (aF k.code j)).isSome||!dJ t)=false->_=((.bool (decide ((j:Int)=(n2:Int)-1))):Value) from λ_=>rfl)
 refine bN ?_ ?_
 intro x vs cN e bU hd he
 have aR:(vs 7=(.bool (!(ba (aF k.code j)).isSome||!dJ t)))∧((!(ba (aF k.code j)).isSome||!dJ t)=false->vs 9=(.bool (rQ t)))∧((!(ba (aF k.code j)).isSome||!dJ t)=false->vs 15=(.bool (decide ((j:Int)=(n2:Int)-1)))):=hd
 obtain⟨d7,d9,d15⟩:=aR
 replace bU:=aS.trans aB bU
 rcases bE (!(ba (aF k.code j)).isSome||!dJ t) with hg|hg
 rw[hg] at d7
 replace he:e=aM (aN _ x _) [(82,vs 7),(84,vs 9),(90,vs 15)]:=he
 rw[d7] at he
 subst he
 refine zs<|ag ?_
 exact dn (aS.refl _) (show(!(ba (aF k.code j)).isSome||!dJ t)=false->_=(_:Value) from λhh=>nomatch hg.symm.trans hh)
 rw[hg] at d7
 replace d9:=d9 hg
 replace d15:=d15 hg
 replace he:e=aM (aN _ x _) [(82,vs 7),(84,vs 9),(90,vs 15)]:=he
 rw[d7,d9,d15] at he
 subst he
 refine Kh EY rfl rfl rfl rfl<|ag ?_
 exact dn (aS.refl _) (show(!(ba (aF k.code j)).isSome||!dJ t)=false->_=((.bool (rQ t !=decide ((j:Int)=(n2:Int)-1))):Value) from λ_=>rfl)
 refine bN ?_ ?_
 intro x vs cN e bU hd he
 have aR:(vs 7=(.bool (!(ba (aF k.code j)).isSome||!dJ t)))∧((!(ba (aF k.code j)).isSome||!dJ t)=false->vs 16=(.bool (rQ t !=decide ((j:Int)=(n2:Int)-1)))):=hd
 obtain⟨d7,d16⟩:=aR
 replace bU:=aS.trans aB bU
 rcases bE (!(ba (aF k.code j)).isSome||!dJ t) with hg|hg
 rw[hg] at d7
 replace he:e=aM (aN _ x _) [(82,vs 7),(91,vs 16)]:=he
 rw[d7] at he
 subst he
 refine zp rfl<|ag ?_
 exact dn (aS.refl _) (by first|rfl|(rw[hg];rfl))
 rw[hg] at d7
 replace d16:=d16 hg
 replace he:e=aM (aN _ x _) [(82,vs 7),(91,vs 16)]:=he
 rw[d7,d16] at he
 subst he
 refine zp rfl<|ag ?_
 exact dn (aS.refl _) (by first|rfl|(rw[hg];rfl))
 exact trivial
 intro x vs pj jB bJ
 have d0:vs 0=(.bool ((ba (aF k.code j)).isSome)):=bJ 0 de
 have d1:vs 1=(.bool (!(ba (aF k.code j)).isSome)):=bJ 1 de
 have d2:vs 2=(.bool (!(ba (aF k.code j)).isSome)):=bJ 2 de
 have d3:(!(ba (aF k.code j)).isSome)=false->vs 3=(.agg #[str t.az,.slice pa t.au.length pc]):=bJ 3 de
 have d4:(!(ba (aF k.code j)).isSome)=false->vs 4=(.bool (dJ t)):=bJ 4 de
 have d5:(!(ba (aF k.code j)).isSome)=false->vs 5=(.bool (!dJ t)):=bJ 5 de
 have d6:vs 6=(.bool (!(ba (aF k.code j)).isSome||!dJ t)):=bJ 6 de
 have d7:vs 7=(.bool (!(ba (aF k.code j)).isSome||!dJ t)):=bJ 7 de
 have d8:(!(ba (aF k.code j)).isSome||!dJ t)=false->vs 8=(.agg #[str t.az,.slice pa t.au.length pc]):=bJ 8 de
 have d9:(!(ba (aF k.code j)).isSome||!dJ t)=false->vs 9=(.bool (rQ t)):=bJ 9 de
 have d10:(!(ba (aF k.code j)).isSome||!dJ t)=false->vs 10=(.int .i64 (j:Int)):=bJ 10 de
 have d11:(!(ba (aF k.code j)).isSome||!dJ t)=false->vs 11=(.pointer (some ⟨w.heap.size,0+2,none⟩)):=bJ 11 de
 have d12:(!(ba (aF k.code j)).isSome||!dJ t)=false->vs 12=(.slice (some ⟨b,off,none⟩) n2 c2):=bJ 12 de
 have d13:(!(ba (aF k.code j)).isSome||!dJ t)=false->vs 13=(.int .i64 (n2:Int)):=bJ 13 de
 have d14:(!(ba (aF k.code j)).isSome||!dJ t)=false->vs 14=(.int .i64 ((n2:Int)-1)):=bJ 14 de
 have d15:(!(ba (aF k.code j)).isSome||!dJ t)=false->vs 15=(.bool (decide ((j:Int)=(n2:Int)-1))):=bJ 15 de
 have d16:(!(ba (aF k.code j)).isSome||!dJ t)=false->vs 16=(.bool (rQ t !=decide ((j:Int)=(n2:Int)-1))):=bJ 16 de
 have d17:vs 17=(.bool ((!(ba (aF k.code j)).isSome||!dJ t)||(rQ t !=decide ((j:Int)=(n2:Int)-1)))):=bJ 17 de
 have hK:=hK.ext jB;have jw:=jw.ext jB;have aU:=aU.ext jB;have aZ:=aZ.ext jB;have aI:=aI.ext jB;have hO:=hO.ext jB;have ht:=ht.ext jB;have iD:=iD.ext jB
 change OW _ _ _ _ [] (aM (aN _ x _) (zZ 75 [vs 0,vs 1,vs 2,vs 3,vs 4,vs 5,vs 6,vs 7,vs 8,vs 9,vs 10,vs 11,vs 12,vs 13,vs 14,vs 15,vs 16,vs 17])) _
 rw[d0,d1,d2,d6,d7,d17]
 refine ag<|zc rfl (λh8=>?_) (λh8=>?_)
 rw[Q8 mq om hp] at h8
 have hq:=abF (b:=k) (i:=j) om (by simpa using h8)
 refine zr<|j6 (KB _) rfl rfl<|dk lW rfl rfl rfl aZ rfl ?_
 intro og jm aZ ak7
 have hK:=hK.aL jm sx
 refine zA<|ag<|aV ?_
 exact⟨[_,_],⟨gR Bq lW rfl aZ rfl,rfl⟩,Po hq,hK⟩
 rw[Q8 mq om hp] at h8
 have mW:sw k.code j=true:=by simpa using h8
 refine bA<|db<|zf P2 rfl<|zl sr rfl (aI.at rfl)<|zL j9 fb rfl iD.all rfl<|gA nM fb rfl rfl ?_
 intro og jm GP ak7
 have hK:=hK.ext jm;have jw:=jw.ext jm;have aU:=aU.ext jm;have aZ:=aZ.ext jm;have aI:=aI.ext jm;have hO:=hO.ext jm;have ht:=ht.ext jm
 refine K7 nM fb rfl rfl rfl rfl rfl rfl hO GP ht.K8 (by rw[HZ _ aq];omega) ?_
 intro a3 Hr g3 lK od lr
 have WB:=lr.size
 have hK:=ak.QJ om hO.low hK lr
 have jw:=hO.since jw lr
 have aU:=aU.aL lr (hO.QI om);have aZ:=aZ.aL lr (hO.Dl sm);have aI:=aI.aL lr (hO.Dl sm)
 rw[abH mW hp,Lg tr gh] at od⊢
 refine zf P2 rfl<|gX KO rfl rfl rfl aI rfl ?_
 intro AQ oR aI aeP
 have hK:=hK.aL oR sx;have jw:=jw.aL oR sx;have aU:=aU.aL oR sx;have aZ:=aZ.aL oR sx;have od:=od.aL oR sx
 refine ag<|db<|eE rfl rfl rfl (wrap_i64 _ om om)<|zm<|ag ?_
 exact⟨(j+1,a3,Hr,g3),⟨rfl,rfl,rfl,rfl,rfl,rfl⟩,⟨hK,jw,aU,aZ,aI,od.jj (λx hx=>mK _ hx),by dsimp only;omega,by intro i2 hj;rcases Nat.lt_or_ge i2 j with h|h;exact dA i2 h;rw[show i2=j by dsimp only at hj;omega];exact mW⟩,by dsimp only;omega⟩
 have hq:=QE tw K6 (λi hi=>dA i om)
 have hqI:mw k=true:=by unfold mw;rw[hq,oZ];rfl
 rw[Lh tr om] at aI hO
 refine gF<|gH rfl<|zr<|zL Bq lW rfl aI.all rfl<|dk lW rfl rfl rfl aZ rfl ?_
 intro w7 cv aZ qg
 have hK:=hK.aL cv sx;have jw:=jw.aL cv sx;have hO:=hO.aL cv sx
 refine zA<|ag<|aV ?_
 exact⟨[_,_],⟨gR Bq lW rfl aZ rfl,rfl⟩,⟨fV k,_,by rw[hqI];rfl,Ll (l:=k.aP) ((NI.aL jw sm).jj (λx hx=>by simp[hx])) (hO.trees.jj (λx hx=>by simp[hx])),λ_=>rfl⟩,hK⟩
theorem ak9 (k:gB) (l:aj) (b1:Nat) (v:Value) (L:List Nat) (w:World) (hv:nQ L w v k) (aU:aY w b1 [str l].toArray 9):
  bZ Tryz.prog 54 [v,.pointer (some ⟨b1,0,none⟩)] w λr w'=>r= .bool (decide (k.aP=l))∧ak [] w w':=by
 obtain⟨a1,c1,a2,c2,rfl,cV,cS⟩:=Lk hv
 have hK:=ak.refl [] w
 refine cU [.tmp 3] 8 Tryz.func54 rfl Zp rfl rfl ?_
 refine zr<|fA rfl ?_
 intro w1 aJ aZ dV
 have hK:=hK.ext aJ;have aU:=aU.ext aJ
 refine zA<|ag<|zr<|zf KJ rfl<|zl cg rfl (aZ.at rfl)<|zl cg rfl (aU.at rfl)<|cW rfl rfl<|zA<|ag<|aV ?_
 exact⟨_,rfl,rfl,hK⟩
theorem ala (ps:List gB) (hlen:ps.length<1000000000) (g:gB->Bool) (f:FuncId) (caps:List Value) (v:Value) (L:List Nat) (w:World) (hv:sA L w v ps) 
  (hf:∀i,i<ps.length->∀(u:Value) (w':World),ak [] w w'->nQ L w' u (wg ps i)->bZ Tryz.prog f (u::caps) w' λr w''=>r= .bool (g (wg ps i))∧ak [] w' w''):
  bZ Tryz.prog 53 [v,.func (.func f) #[] caps.toArray] w λr w'=>r= .int .i64 (Fh ps g)∧ak [] w w':=by
 obtain⟨a,c,rfl⟩:=abO hv
 have hK:=ak.refl [] w
 refine cU [.tmp 4] 19 Tryz.func53 rfl Zo rfl rfl ?_
 refine zr<|zA<|ag<|aQ<|zr<|zm<|eh De rfl<|zm<|ag<|cP ?_
 refine fZ (λk:Nat=>[(0,.slice a ps.length c),(1,.func (.func f) #[] caps.toArray),(7,.int .i64 (ps.length:Int)),(8,.int .i64 (k:Int))]) (λk w'=>ak [] w w'∧k<=ps.length∧∀i,i<k->g (wg ps i)=false) (λk=>ps.length-k) (0) (⟨rfl,rfl,rfl,rfl⟩) (⟨hK,om,by intro i hi;omega⟩) ?_
 intro gg w1 e1 hI
 obtain⟨hK,hk,dA⟩:=hI
 have hv:=hv.ext hK
 refine zr<|fJ rfl rfl rfl<|ag<|aQ<|zc rfl (λh1=>?_) (λh1=>?_)
 have hp:=Q9 (ps:=ps) (i:=gg) om
 obtain⟨b,off,a1,c1,a2,c2,rfl,hc,qi,uJ⟩:=Rd hv hp
 refine bA<|aQ<|cP<|zr<|zm<|zA<|ag<|zr<|zm<|zm<|zm<|zi De lW rfl rfl om<|zL Bq lW rfl hc rfl<|PS rfl rfl rfl (hf gg om _ w1 hK (Ll qi uJ)) ?_
 rintro v2 w2 ⟨dz,aq⟩
 have dR:=aq.size
 have hK:=hK.ext aq
 obtain rfl:=dz
 refine ag<|zc rfl (λh2=>?_) (λh2=>?_)
 have hq:=abI om dA h2
 refine zr<|zm<|zA<|ag<|aV ?_
 exact⟨_,rfl,by rw[hq];rfl,hK⟩
 refine bA<|db<|eE rfl rfl rfl (wrap_i64 _ om om)<|zm<|ag ?_
 exact⟨gg+1,⟨rfl,rfl,rfl,rfl⟩,⟨hK,om,by intro i hi;rcases Nat.lt_or_ge i gg with h|h;exact dA i h;rw[show i=gg by omega];exact h2⟩,om⟩
 have hq:=abJ (λi hi=>dA i om)
 refine gF<|gH rfl<|zr<|zA<|ag<|aV ?_
 exact⟨_,rfl,by rw[hq];rfl,hK⟩
theorem WC (ps:List gB) (hlen:ps.length<1000000000) (l:aj) (v:Value) (L:List Nat) (w:World) (hv:sA L w v ps):
  bZ Tryz.prog 27 [v,str l] w λr w'=>r= .int .i64 (zY ps l)∧ak [] w w':=by
 have hK:=ak.refl [] w
 refine cU [.tmp 4] 8 Tryz.func27 rfl Y8 rfl rfl ?_
 refine zr<|Ki rfl rfl rfl ?_
 intro w1 aJ bO dV
 have hK:=hK.ext aJ;have hv:=hv.ext aJ
 refine zA<|ag<|zr<|zm<|PR (vs:=[.pointer (some ⟨w.heap.size,0,none⟩)]) rfl rfl rfl<|aC (ala ps hlen (λb=>decide (b.aP=l)) 54 [.pointer (some ⟨w.heap.size,0,none⟩)] _ L w1 hv (λi hi u w' k hu=>ak9 (wg ps i) l _ _ L _ hu (bO.ext k))) ?_
 rintro v2 w2 ⟨dz,aq⟩
 have dR:=aq.size
 have hK:=hK.ext aq
 obtain rfl:=dz
 refine zA<|ag<|aV ?_
 exact⟨_,rfl,rfl,hK⟩
def alb (L:List Nat) (bs:List Bk) (v:Value) (w:World):Prop:=∃ps pv,v= .tuple #[pv,.bool (qX bs)]∧sA L w pv ps∧(qX bs=true->ps=bs.map fV)
theorem WD (bs:List Bk) (hb:xO bs) (v:Value) (Li L:List Nat) (w:World) (hv:qV Li w v bs) (hL:∀x,x∈L->x<w.heap.size):
  bZ Tryz.prog 26 [v] w λr w'=>alb L bs r w'∧ak [] w w':=by
 obtain⟨a,n,c,rfl,hn⟩:=Fb hv
 have hK:=ak.refl [] w
 have iO:=hb.1
 refine cU [.tmp 2,.tmp 3] 52 Tryz.func26 rfl Y7 rfl rfl ?_
 refine zr<|zA<|zA<|ag<|aQ<|zr<|zm<|eh gO rfl<|aC (Ka _ _ _ _) ?_
 rintro _ _ ⟨rfl,rfl⟩
 refine eH rfl<|ag<|zc rfl (λh1=>?_) (λh1=>?_)
 have hq:qX bs=false:=abN (λh=>by rw[dT (p:=(1:Int)<=(n:Int)) om,dT (p:=(n:Int)<=40) om] at h1;exact absurd h1 de)
 refine zr<|zA<|zA<|ag<|aV ?_
 exact⟨_,rfl,⟨[],_,by rw[hq];rfl,Rc,by rw[hq];intro h;cases h⟩,hK⟩
 have WE:1<=bs.length∧bs.length<=40:=by have:=h1;simp only[aE,dE] at this;omega
 refine bA<|zr<|zA<|ag<|aQ<|zr<|zm<|eh gO rfl<|zm<|ag<|cP ?_
 refine fZ (λq:Nat×Option Addr×Nat×Option Nat=>[(0,.slice a n c),(4,.slice q.2.1 ((bs.take q.1).map fV).length q.2.2.1),(13,.slice a n c),(14,.int .i64 (n:Int)),(15,.int .i64 (q.1:Int))]) (λq w'=>ak [] w w'∧Gr w.heap.size L w' 53 3 (.slice q.2.1 ((bs.take q.1).map fV).length q.2.2.1) q.2.2.2 (((bs.take q.1).map fV).map gB.enc)∧q.1<=bs.length∧∀i,i<q.1->mw (bz bs i)=true∧l0 bs (bz bs i).aP=i) (λq=>bs.length-q.1) ((0,none,0,none)) (⟨rfl,rfl,rfl,rfl,rfl⟩) (⟨hK,Gr.nil hL om,sm,by intro i hi;simp at hi⟩) ?_
 intro gg w1 e1 hI
 obtain⟨i,a1,cc,g⟩:=gg
 dsimp only at hI⊢
 obtain⟨hK,hO,hk,dA⟩:=hI
 have iY:=hK.size
 refine zr<|fJ rfl rfl rfl<|ag<|aQ<|zc rfl (λh2=>?_) (λh2=>?_)
 have gh:=o3 (bs:=bs) (i:=i) om
 obtain⟨b,off,ra,rn,rc,ca,cn,c3,rfl,hc,rl,xg,dy,dR⟩:=zS hv gh
 have oB:=hb.2 i om
 refine bA<|aQ<|cP<|zr<|zi gO fH rfl rfl om<|zL vY fH rfl (hc.ext hK) rfl<|eC fH rfl rfl rfl ?_
 intro w2 aq bR eK
 have hK:=hK.grow;have hK:=hK.ext aq;have hO:=hO.alloc aq eK
 refine dk fH rfl rfl rfl bR rfl ?_
 intro w3 aK bR iK
 have hK:=hK.aL aK sx;have hO:=hO.aL aK sx
 refine ag<|zr<|zL vY fH rfl bR.all rfl<|aC (WA (bz bs i) oB.1 oB.2.1 oB.2.2 _ _ (g.toList++(w1.heap.size::L)) w3 (qj.ext (xK dy dR) hK) hO.all) ?_
 rintro v4 w4 ⟨eJ,aD⟩
 have gK:=aD.size
 have hK:=hK.ext aD;have hO:=hO.ext aD
 obtain⟨ib,bv,rfl,ht,hp⟩:=eJ
 obtain⟨b1a,b1c,b2a,b2c,rfl,_,_⟩:=Lk ht
 refine zm<|zx (i:=0) rfl rfl<|zx (i:=1) rfl rfl<|eC lW rfl rfl rfl ?_
 intro w5 aT cH jo
 have hK:=hK.grow;have hK:=hK.ext aT;have hO:=hO.alloc aT jo;have ht:=ht.grow;have ht:=ht.ext aT
 refine dk lW rfl rfl rfl cH rfl ?_
 intro w6 bD cH lB
 have hK:=hK.aL bD sx;have hO:=hO.aL bD sx;have ht:=ht.aL bD sx
 refine zA<|ag<|aQ<|zr<|zm<|eH rfl<|zm ?_
 apply fo 6 26 32 [26,27,28,29,30,31,32] (ak [] w6) rfl
 intro h3
 replace h3:=bu h3
 have Hs:=ak.refl [] w6
 refine zs<|zs<|zs<|zs<|zs<|zp rfl<|ag ?_
 exact mg rfl Hs
 intro h3
 replace h3:=bu h3
 have Hs:=ak.refl [] w6
 have xq:mw (bz bs i)=true:=by simpa using h3
 have hib:=hp xq
 subst hib
 refine zm<|zf KJ rfl<|zl cg rfl (cH.at rfl)<|aC (WC ((bs.take i).map fV) (by rw[HZ _ hk];omega) (bz bs i).aP _ L w6 (hO.prog.jj (λx hx=>by simp[hx]))) ?_
 rintro v7 w7 ⟨iV,cv⟩
 have pg:=cv.size
 have Hs:=Hs.ext cv
 obtain rfl:=iV
 refine lU rfl rfl rfl rfl rfl<|zp rfl<|ag ?_
 exact mg rfl Hs
 intro xx w8 cu
 have hK:=hK.ext cu;have hO:=hO.ext cu;have ht:=ht.ext cu;have cH:=cH.ext cu
 refine ag<|zc rfl (λh4=>?_) (λh4=>?_)
 have hq:qX bs=false:=abL (i:=i) om (by simp only[oE,Bool.not_eq_true'] at h4;rcases h4 with h|h;exact .inl h;rw[Ra om] at h;exact .inr (of_decide_eq_true h))
 refine zr<|zA<|zA<|ag<|aV ?_
 exact⟨_,rfl,⟨[],_,by rw[hq];rfl,Rc,by rw[hq];intro h;cases h⟩,hK⟩
 have xq:mw (bz bs i)=true∧l0 bs (bz bs i).aP=i:=by simp only[Bool.or_eq_false_iff,Bool.not_eq_false'] at h4;rw[Ra om] at h4;exact⟨h4.1,Classical.byContradiction (of_decide_eq_false h4.2)⟩
 refine bA<|db<|zm<|zL Bq lW rfl cH.all rfl<|gA De lW rfl rfl ?_
 intro w9 aG ald dP
 have hK:=hK.ext aG;have hO:=hO.ext aG;have ht:=ht.ext aG
 refine abP De lW rfl rfl rfl rfl rfl rfl hO ald (ht.jj (λx hx=>by simp at hx⊢;rcases hx with h|h|h<;>simp[h])) (by rw[HZ _ hk];omega) ?_
 intro a3 Hr g3 cN od bU
 have WB:=bU.size
 have hK:=hO.since hK bU
 rw[hp xq.1,Lg fV gh] at od⊢
 refine zA<|ag<|db<|eE rfl rfl rfl (wrap_i64 _ om om)<|zm<|ag ?_
 exact⟨(i+1,a3,Hr,g3),⟨rfl,rfl,rfl,rfl,rfl⟩,⟨hK,od.jj (λx hx=>by simp[hx]),by dsimp only;omega,by intro i2 hj;rcases Nat.lt_or_ge i2 i with h|h;exact dA i2 h;rw[show i2=i by dsimp only at hj;omega];exact xq⟩,by dsimp only;omega⟩
 have hq:=abM (λj hj=>dA j om)
 rw[Lh fV om] at hO⊢
 obtain⟨b,off,r1,Kb,r2,rc2,rfl,hc,cV,cS⟩:=Rd hO.prog (Q9 (ps:=bs.map fV) (i:=0) so)
 have e0:wg (bs.map fV) 0=fV (bz bs 0):=by simp[gE (show 0<bs.length by omega)]
 rw[e0] at hc cV cS
 refine gF<|gH rfl<|aQ ?_
 refine qf eu aS 16 (rA 38 14++[2,3]) (rA 38 14++[2,3]) [[],[],[1],[2],[3],[4],[5],[6],[6,7],[6,8],[6,9],[6,10],[6,11],[6,12],[0],[13]] [λv _=>v=(.slice (some ⟨b,off,none⟩) (bs.map fV).length cc),λv _=>v=(.slice (some ⟨b,off,none⟩) (bs.map fV).length cc),λv _=>v=(.pointer (some ⟨b,off+0*3,none⟩)),λv _=>v=(.pointer (some ⟨b,off+0*3+0,none⟩)),λv _=>v=(str (bz bs 0).aP),λv _=>v=(.bool (decide ((bz bs 0).aP=[109,97,105,110]))),λv _=>v=(.bool (decide ((bz bs 0).aP=[109,97,105,110]))),λv _=>(decide ((bz bs 0).aP=[109,97,105,110]))=true->v=(.slice (some ⟨b,off,none⟩) (bs.map fV).length cc),λv _=>(decide ((bz bs 0).aP=[109,97,105,110]))=true->v=(.pointer (some ⟨b,off+0*3,none⟩)),λv _=>(decide ((bz bs 0).aP=[109,97,105,110]))=true->v=(.pointer (some ⟨b,off+0*3+1,none⟩)),λv _=>(decide ((bz bs 0).aP=[109,97,105,110]))=true->v=(.slice r1 (fV (bz bs 0)).regs.length Kb),λv _=>(decide ((bz bs 0).aP=[109,97,105,110]))=true->v=(.int .i64 ((fV (bz bs 0)).regs.length:Int)),λv _=>(decide ((bz bs 0).aP=[109,97,105,110]))=true->v=(.bool (decide (((fV (bz bs 0)).regs.length:Int)=0))),λv _=>v=(.bool (decide ((bz bs 0).aP=[109,97,105,110])&&decide (((fV (bz bs 0)).regs.length:Int)=0))),λv _=>v=(.slice (some ⟨b,off,none⟩) (bs.map fV).length cc),λv _=>v=(.bool (decide ((bz bs 0).aP=[109,97,105,110])&&decide (((fV (bz bs 0)).regs.length:Int)=0)))] de (cX (cX (cX (cX (cX (cX (cX (eV (eV (eV (eV (eV (eV (cX (cX (cX trivial)))))))))))))))) (λwd aB=>?_) ?_
 refine bN ?_ ?_
 intro x vs w2 e aq hd he
 replace aq:=aS.trans aB aq
 replace he:e=aM (aN _ x _) []:=he
 subst he
 refine zm<|ag ?_
 exact dn (aS.refl _) rfl
 refine bN ?_ ?_
 intro x vs w2 e aq hd he
 replace aq:=aS.trans aB aq
 replace he:e=aM (aN _ x _) []:=he
 subst he
 refine zm<|ag ?_
 exact dn (aS.refl _) rfl
 refine bN ?_ ?_
 intro x vs w2 e aq hd he
 have d1:vs 1=(.slice (some ⟨b,off,none⟩) (bs.map fV).length cc):=hd
 replace aq:=aS.trans aB aq
 replace he:e=aM (aN _ x _) [(39,vs 1)]:=he
 rw[d1] at he
 subst he
 refine zi (i:=0) De lW rfl rfl so<|ag ?_
 exact dn (aS.refl _) rfl
 refine bN ?_ ?_
 intro x vs w2 e aq hd he
 have d2:vs 2=(.pointer (some ⟨b,off+0*3,none⟩)):=hd
 replace aq:=aS.trans aB aq
 replace he:e=aM (aN _ x _) [(40,vs 2)]:=he
 rw[d2] at he
 subst he
 refine zf KJ rfl<|ag ?_
 exact dn (aS.refl _) rfl
 refine bN ?_ ?_
 intro x vs w2 e aq hd he
 have d3:vs 3=(.pointer (some ⟨b,off+0*3+0,none⟩)):=hd
 replace aq:=aS.trans aB aq
 have hc:=hc.ext aq
 replace he:e=aM (aN _ x _) [(41,vs 3)]:=he
 rw[d3] at he
 subst he
 refine zl cg rfl (hc 0 _ rfl)<|ag ?_
 exact dn (aS.refl _) rfl
 refine bN ?_ ?_
 intro x vs w2 e aq hd he
 have d4:vs 4=(str (bz bs 0).aP):=hd
 replace aq:=aS.trans aB aq
 replace he:e=aM (aN _ x _) [(42,vs 4)]:=he
 rw[d4] at he
 subst he
 refine cW rfl rfl<|ag ?_
 exact dn (aS.refl _) rfl
 refine bN ?_ ?_
 intro x vs w2 e aq hd he
 have d5:vs 5=(.bool (decide ((bz bs 0).aP=[109,97,105,110]))):=hd
 replace aq:=aS.trans aB aq
 replace he:e=aM (aN _ x _) [(43,vs 5)]:=he
 rw[d5] at he
 subst he
 refine zm<|ag ?_
 exact dn (aS.refl _) rfl
 refine bN ?_ ?_
 intro x vs w2 e aq hd he
 have d6:vs 6=(.bool (decide ((bz bs 0).aP=[109,97,105,110]))):=hd
 replace aq:=aS.trans aB aq
 rcases bE (decide ((bz bs 0).aP=[109,97,105,110])) with hg|hg
 rw[hg] at d6
 replace he:e=aM (aN _ x _) [(44,vs 6)]:=he
 rw[d6] at he
 subst he
 refine zm<|ag ?_
 exact dn (aS.refl _) (show(decide ((bz bs 0).aP=[109,97,105,110]))=true->_=((.slice (some ⟨b,off,none⟩) (bs.map fV).length cc):Value) from λ_=>rfl)
 rw[hg] at d6
 replace he:e=aM (aN _ x _) [(44,vs 6)]:=he
 rw[d6] at he
 subst he
 refine zs<|ag ?_
 exact dn (aS.refl _) (show(decide ((bz bs 0).aP=[109,97,105,110]))=true->_=(_:Value) from λhh=>nomatch hg.symm.trans hh)
 refine bN ?_ ?_
 intro x vs w2 e aq hd he
 have aR:(vs 6=(.bool (decide ((bz bs 0).aP=[109,97,105,110]))))∧((decide ((bz bs 0).aP=[109,97,105,110]))=true->vs 7=(.slice (some ⟨b,off,none⟩) (bs.map fV).length cc)):=hd
 obtain⟨d6,d7⟩:=aR
 replace aq:=aS.trans aB aq
 rcases bE (decide ((bz bs 0).aP=[109,97,105,110])) with hg|hg
 rw[hg] at d6
 replace d7:=d7 hg
 replace he:e=aM (aN _ x _) [(44,vs 6),(45,vs 7)]:=he
 rw[d6,d7] at he
 subst he
 refine zi (i:=0) De lW rfl rfl so<|ag ?_
 exact dn (aS.refl _) (show(decide ((bz bs 0).aP=[109,97,105,110]))=true->_=((.pointer (some ⟨b,off+0*3,none⟩)):Value) from λ_=>rfl)
 rw[hg] at d6
 replace he:e=aM (aN _ x _) [(44,vs 6),(45,vs 7)]:=he
 rw[d6] at he
 subst he
 refine zs<|ag ?_
 exact dn (aS.refl _) (show(decide ((bz bs 0).aP=[109,97,105,110]))=true->_=(_:Value) from λhh=>nomatch hg.symm.trans hh)
 refine bN ?_ ?_
 intro x vs w2 e aq hd he
 have aR:(vs 6=(.bool (decide ((bz bs 0).aP=[109,97,105,110]))))∧((decide ((bz bs 0).aP=[109,97,105,110]))=true->vs 8=(.pointer (some ⟨b,off+0*3,none⟩))):=hd
 obtain⟨d6,d8⟩:=aR
 replace aq:=aS.trans aB aq
 rcases bE (decide ((bz bs 0).aP=[109,97,105,110])) with hg|hg
 rw[hg] at d6
 replace d8:=d8 hg
 replace he:e=aM (aN _ x _) [(44,vs 6),(46,vs 8)]:=he
 rw[d6,d8] at he
 subst he
 refine zf KL rfl<|ag ?_
 exact dn (aS.refl _) (show(decide ((bz bs 0).aP=[109,97,105,110]))=true->_=((.pointer (some ⟨b,off+0*3+1,none⟩)):Value) from λ_=>rfl)
 rw[hg] at d6
 replace he:e=aM (aN _ x _) [(44,vs 6),(46,vs 8)]:=he
 rw[d6] at he
 subst he
 refine zs<|ag ?_
 exact dn (aS.refl _) (show(decide ((bz bs 0).aP=[109,97,105,110]))=true->_=(_:Value) from λhh=>nomatch hg.symm.trans hh)
 refine bN ?_ ?_
 intro x vs w2 e aq hd he
 have aR:(vs 6=(.bool (decide ((bz bs 0).aP=[109,97,105,110]))))∧((decide ((bz bs 0).aP=[109,97,105,110]))=true->vs 9=(.pointer (some ⟨b,off+0*3+1,none⟩))):=hd
 obtain⟨d6,d9⟩:=aR
 replace aq:=aS.trans aB aq
 have hc:=hc.ext aq
 rcases bE (decide ((bz bs 0).aP=[109,97,105,110])) with hg|hg
 rw[hg] at d6
 replace d9:=d9 hg
 replace he:e=aM (aN _ x _) [(44,vs 6),(47,vs 9)]:=he
 rw[d6,d9] at he
 subst he
 refine zl sr rfl (hc 1 _ rfl)<|ag ?_
 exact dn (aS.refl _) (show(decide ((bz bs 0).aP=[109,97,105,110]))=true->_=((.slice r1 (fV (bz bs 0)).regs.length Kb):Value) from λ_=>rfl)
 rw[hg] at d6
 replace he:e=aM (aN _ x _) [(44,vs 6),(47,vs 9)]:=he
 rw[d6] at he
 subst he
 refine zs<|ag ?_
 exact dn (aS.refl _) (show(decide ((bz bs 0).aP=[109,97,105,110]))=true->_=(_:Value) from λhh=>nomatch hg.symm.trans hh)
 refine bN ?_ ?_
 intro x vs w2 e aq hd he
 have aR:(vs 6=(.bool (decide ((bz bs 0).aP=[109,97,105,110]))))∧((decide ((bz bs 0).aP=[109,97,105,110]))=true->vs 10=(.slice r1 (fV (bz bs 0)).regs.length Kb)):=hd
 obtain⟨d6,d10⟩:=aR
 replace aq:=aS.trans aB aq
 rcases bE (decide ((bz bs 0).aP=[109,97,105,110])) with hg|hg
 rw[hg] at d6
 replace d10:=d10 hg
 replace he:e=aM (aN _ x _) [(44,vs 6),(48,vs 10)]:=he
 rw[d6,d10] at he
 subst he
 refine eh nM rfl<|ag ?_
 exact dn (aS.refl _) (show(decide ((bz bs 0).aP=[109,97,105,110]))=true->_=((.int .i64 ((fV (bz bs 0)).regs.length:Int)):Value) from λ_=>rfl)
 rw[hg] at d6
 replace he:e=aM (aN _ x _) [(44,vs 6),(48,vs 10)]:=he
 rw[d6] at he
 subst he
 refine zs<|ag ?_
 exact dn (aS.refl _) (show(decide ((bz bs 0).aP=[109,97,105,110]))=true->_=(_:Value) from λhh=>nomatch hg.symm.trans hh)
 refine bN ?_ ?_
 intro x vs w2 e aq hd he
 have aR:(vs 6=(.bool (decide ((bz bs 0).aP=[109,97,105,110]))))∧((decide ((bz bs 0).aP=[109,97,105,110]))=true->vs 11=(.int .i64 ((fV (bz bs 0)).regs.length:Int))):=hd
 obtain⟨d6,d11⟩:=aR
 replace aq:=aS.trans aB aq
 rcases bE (decide ((bz bs 0).aP=[109,97,105,110])) with hg|hg
 rw[hg] at d6
 replace d11:=d11 hg
 replace he:e=aM (aN _ x _) [(44,vs 6),(49,vs 11)]:=he
 rw[d6,d11] at he
 subst he
 refine dO rfl rfl rfl<|ag ?_
 exact dn (aS.refl _) (show(decide ((bz bs 0).aP=[109,97,105,110]))=true->_=((.bool (decide (((fV (bz bs 0)).regs.length:Int)=0))):Value) from λ_=>rfl)
 rw[hg] at d6
 replace he:e=aM (aN _ x _) [(44,vs 6),(49,vs 11)]:=he
 rw[d6] at he
 subst he
 refine zs<|ag ?_
 exact dn (aS.refl _) (show(decide ((bz bs 0).aP=[109,97,105,110]))=true->_=(_:Value) from λhh=>nomatch hg.symm.trans hh)
 refine bN ?_ ?_
 intro x vs w2 e aq hd he
 have aR:(vs 6=(.bool (decide ((bz bs 0).aP=[109,97,105,110]))))∧((decide ((bz bs 0).aP=[109,97,105,110]))=true->vs 12=(.bool (decide (((fV (bz bs 0)).regs.length:Int)=0)))):=hd
 obtain⟨d6,d12⟩:=aR
 replace aq:=aS.trans aB aq
 rcases bE (decide ((bz bs 0).aP=[109,97,105,110])) with hg|hg
 rw[hg] at d6
 replace d12:=d12 hg
 replace he:e=aM (aN _ x _) [(44,vs 6),(50,vs 12)]:=he
 rw[d6,d12] at he
 subst he
 refine zp rfl<|ag ?_
 exact dn (aS.refl _) (by first|rfl|(rw[hg];rfl))
 rw[hg] at d6
 replace he:e=aM (aN _ x _) [(44,vs 6),(50,vs 12)]:=he
 rw[d6] at he
 subst he
 refine zp rfl<|ag ?_
 exact dn (aS.refl _) (by first|rfl|(rw[hg];rfl))
 refine bN ?_ ?_
 intro x vs w2 e aq hd he
 have d0:vs 0=(.slice (some ⟨b,off,none⟩) (bs.map fV).length cc):=hd
 replace aq:=aS.trans aB aq
 replace he:e=aM (aN _ x _) [(38,vs 0)]:=he
 rw[d0] at he
 subst he
 refine zA<|ag ?_
 exact dn (aS.refl _) rfl
 refine bN ?_ ?_
 intro x vs w2 e aq hd he
 have d13:vs 13=(.bool (decide ((bz bs 0).aP=[109,97,105,110])&&decide (((fV (bz bs 0)).regs.length:Int)=0))):=hd
 replace aq:=aS.trans aB aq
 replace he:e=aM (aN _ x _) [(51,vs 13)]:=he
 rw[d13] at he
 subst he
 refine zA<|ag ?_
 exact dn (aS.refl _) rfl
 exact trivial
 intro x vs pT iB bJ
 have d0:vs 0=(.slice (some ⟨b,off,none⟩) (bs.map fV).length cc):=bJ 0 de
 have d1:vs 1=(.slice (some ⟨b,off,none⟩) (bs.map fV).length cc):=bJ 1 de
 have d2:vs 2=(.pointer (some ⟨b,off+0*3,none⟩)):=bJ 2 de
 have d3:vs 3=(.pointer (some ⟨b,off+0*3+0,none⟩)):=bJ 3 de
 have d4:vs 4=(str (bz bs 0).aP):=bJ 4 de
 have d5:vs 5=(.bool (decide ((bz bs 0).aP=[109,97,105,110]))):=bJ 5 de
 have d6:vs 6=(.bool (decide ((bz bs 0).aP=[109,97,105,110]))):=bJ 6 de
 have d7:(decide ((bz bs 0).aP=[109,97,105,110]))=true->vs 7=(.slice (some ⟨b,off,none⟩) (bs.map fV).length cc):=bJ 7 de
 have d8:(decide ((bz bs 0).aP=[109,97,105,110]))=true->vs 8=(.pointer (some ⟨b,off+0*3,none⟩)):=bJ 8 de
 have d9:(decide ((bz bs 0).aP=[109,97,105,110]))=true->vs 9=(.pointer (some ⟨b,off+0*3+1,none⟩)):=bJ 9 de
 have d10:(decide ((bz bs 0).aP=[109,97,105,110]))=true->vs 10=(.slice r1 (fV (bz bs 0)).regs.length Kb):=bJ 10 de
 have d11:(decide ((bz bs 0).aP=[109,97,105,110]))=true->vs 11=(.int .i64 ((fV (bz bs 0)).regs.length:Int)):=bJ 11 de
 have d12:(decide ((bz bs 0).aP=[109,97,105,110]))=true->vs 12=(.bool (decide (((fV (bz bs 0)).regs.length:Int)=0))):=bJ 12 de
 have d13:vs 13=(.bool (decide ((bz bs 0).aP=[109,97,105,110])&&decide (((fV (bz bs 0)).regs.length:Int)=0))):=bJ 13 de
 have d14:vs 14=(.slice (some ⟨b,off,none⟩) (bs.map fV).length cc):=bJ 14 de
 have d15:vs 15=(.bool (decide ((bz bs 0).aP=[109,97,105,110])&&decide (((fV (bz bs 0)).regs.length:Int)=0))):=bJ 15 de
 have hK:=hK.ext iB;have hO:=hO.ext iB
 change OW _ _ _ _ [] (aM (aN _ x _) (zZ 38 [vs 0,vs 1,vs 2,vs 3,vs 4,vs 5,vs 6,vs 7,vs 8,vs 9,vs 10,vs 11,vs 12,vs 13]++[(2,vs 14),(3,vs 15)])) _
 rw[d0,d1,d2,d3,d4,d5,d6,d13,d14,d15]
 refine ag<|aV<|⟨_,rfl,⟨bs.map fV,_,?_,hO.prog.jj (λx hx=>by simp[hx]),λ_=>rfl⟩,hK⟩
 rw[hq,dT WE.1,dT WE.2,show decide (((fV (bz bs 0)).regs.length:Int)=0)=decide ((bz bs 0).cE.length=0) from decide_eq_decide.2 (by have:(fV (bz bs 0)).regs.length=(bz bs 0).cE.length:=List.length_map _;omega)]
 rfl
theorem WG (bs:List Bk) (hb:xO bs) (v:Value) (Li:List Nat) (w:World) (hv:qV Li w v bs):
  bZ Tryz.prog 11 [v] w λr w'=>r= .bool (qX bs)∧ak [] w w':=by
 have hK:=ak.refl [] w
 refine cU [.tmp 2] 11 Tryz.func11 rfl XU rfl rfl ?_
 refine zr<|zA<|ag<|zr<|zm<|aC (WD bs hb _ Li [] w hv sm) ?_
 rintro v1 w1 ⟨fO,aJ⟩
 have dy:=aJ.size
 have hK:=hK.ext aJ
 obtain⟨ps,pv,rfl,hp,wR⟩:=fO
 refine zm<|zx (i:=0) rfl rfl<|zx (i:=1) rfl rfl<|zA<|zA<|ag<|zr<|zm<|zA<|ag<|aV ?_
 exact⟨_,rfl,rfl,hK⟩
theorem Pp (h:∀b,b∈bs->b.aP.length<=12000):qX bs=jK bs:=by
 unfold qX
 rw[show bs.all xP=true from List.all_eq_true.2 λb hb=>dT (h b hb),Bool.and_true]
theorem ale (bs:List Bk) (l:aj):zY (bs.map fV) l=l0 bs l:=by
 unfold zY l0
 rw[List.findIdx?_map]
 rfl
def Ht (bs:List Bk) (l:aj):Int:=if jK bs=true then l0 bs l else -1
theorem alf (bs:List Bk) (hb:xO bs) (hl:∀b,b∈bs->b.aP.length<=12000) (l:aj) (v:Value) (Li:List Nat) (w:World) (hv:qV Li w v bs):
  bZ Tryz.prog 8 [v,str l] w λr w'=>r= .int .i64 (Ht bs l)∧ak [] w w':=by
 have hK:=ak.refl [] w
 have hI:=Pp hl
 have iO:=hb.1
 refine cU [.tmp 4] 17 Tryz.func8 rfl ZF rfl rfl ?_
 refine zr<|zA<|ag<|zr<|zm<|aC (WD bs hb _ Li [] w hv sm) ?_
 rintro v1 w1 ⟨fO,aJ⟩
 have dy:=aJ.size
 have hK:=hK.ext aJ
 obtain⟨ps,pv,rfl,hp,wR⟩:=fO
 refine zm<|zx (i:=0) rfl rfl<|zx (i:=1) rfl rfl<|zA<|zA<|ag<|aQ<|zr<|zm<|eH rfl<|ag<|zc rfl (λh1=>?_) (λh1=>?_)
 have hq:jK bs=false:=(by rw[hI] at h1;simpa using h1)
 refine zr<|zA<|ag<|aV ?_
 exact⟨_,rfl,by unfold Ht;rw[hq];rfl,hK⟩
 have hq:jK bs=true:=(by rw[hI] at h1;simpa using h1)
 have bc:=wR (hI.trans hq)
 subst bc
 refine bA<|zr<|zm<|zm<|aC (WC (bs.map fV) (by simpa using iO) l _ [] w1 hp) ?_
 rintro v2 w2 ⟨dz,aq⟩
 have dR:=aq.size
 have hK:=hK.ext aq
 obtain rfl:=dz
 refine zA<|ag<|aV ?_
 exact⟨_,rfl,by unfold Ht;rw[hq,ale];rfl,hK⟩
theorem WH (h:jK bs=true) (hi:i<bs.length):l0 bs (bz bs i).aP=i:=by
 unfold jK at h
 simp only[aE,dE] at h
 exact(h.1 i hi).2
theorem alg (k:Bk) (hl:k.aP.length<1000000000) (fK:k.cE.length<1000000000) (fu:k.code.length<1000000000) (v:Value) (L:List Nat) (w:World) (hv:qj L w v k):
  bZ Tryz.prog 13 [v] w λr w'=>r= .bool (mw k)∧ak [] w w':=by
 have dI:=hv
 obtain⟨a1,n1,c1,a2,n2,c2,rfl,oA,mq,dy,dR⟩:=Bz hv
 have hK:=ak.refl [] w
 refine cU [.tmp 2] 11 Tryz.func13 rfl Yg rfl rfl ?_
 refine zr<|fA rfl ?_
 intro w1 aJ aU dV
 have hK:=hK.ext aJ;have dy:=dy.ext aJ;have dR:=dR.ext aJ
 refine zA<|ag<|zr<|zL vY fH rfl aU.all rfl<|aC (WA k hl fK fu _ L [] w1 (xK dy dR) sm) ?_
 rintro v2 w2 ⟨dz,aq⟩
 have dR:=aq.size
 have hK:=hK.ext aq
 obtain⟨ib,bv,e9,ht,hp⟩:=dz
 subst e9
 have cJ:=Lk ht
 obtain⟨b1a,b1c,b2a,b2c,e8,_,_⟩:=cJ
 subst e8
 have jw:=hK.size
 refine zm<|zx (i:=0) rfl rfl<|zx (i:=1) rfl rfl<|eC lW rfl rfl rfl ?_
 intro w3 aK bO iK
 have hK:=hK.ext aK
 refine dk lW rfl rfl rfl bO rfl ?_
 intro w4 aD bO dP
 have hK:=hK.since aD (λx hx=>.inr (by simp at hx;omega))
 refine zA<|ag<|zr<|zm<|zA<|ag<|aV ?_
 exact⟨_,rfl,rfl,hK⟩
theorem Hu {j:Nat} (h:j<i):bz (bs.take i) j=bz bs j:=by
 unfold bz
 rw[gG,gG,List.getElem?_take,iP h]
theorem alh (h:jK bs=true) (h0:0<i) (hi:i<=bs.length):jK (bs.take i)=true:=by
 have hl:(bs.take i).length=i:=by rw[List.length_take];omega
 have hf:∀j,j<bs.length->l0 bs (bz bs j).aP=j:=λj hj=>WH h hj
 unfold jK at h⊢
 simp only[aE,dE] at h⊢
 rw[hl,Hu h0]
 refine⟨λj hj=>?_,⟨⟨h0,by have:=h.2.1.1.2;omega⟩,h.2.1.2⟩,h.2.2⟩
 rw[Hu hj]
 refine⟨(h.1 j om).1,K4 om (λk hk e=>?_) (by rw[Hu hj])⟩
 rw[Hu om] at e
 have h1:=hf k om
 have h2:=hf j om
 rw[e] at h1
 omega
theorem apf (bs:List UInt8) (v:Value) (w:World) (hv:cD [] w v (.sl 1 (rF bs))):
  bZ Tryz.prog 4 [v] w λr w'=>r= .bool true∧ak [] w w':=by
 obtain⟨a,c,rfl,_⟩:=rK hv
 have iO:(rF bs).length=bs.length:=Ey bs
 have hK:=ak.refl [] w
 refine cU [.tmp 2] 70 Tryz.func4 rfl Zi rfl rfl ?_
 refine zr<|zA<|ag<|aQ<|zr<|zm<|eh qR rfl<|jx rfl rfl rfl rfl rfl<|ag<|zc rfl (λh1=>?_) (λh1=>?_)
 refine zr<|zA<|ag<|aV ?_
 exact⟨_,rfl,rfl,hK⟩
 refine bA<|zr<|zm<|aC (akl bs om _ w hv) ?_
 rintro v1 w1 ⟨fO,aJ⟩
 have dy:=aJ.size
 have hK:=hK.ext aJ
 obtain⟨ps,hP,hR⟩:=fO
 have cJ:=Fb hR
 obtain⟨pa,pn,pc,e8,fR⟩:=cJ
 subst e8
 have hS:=hP.smalls
 have yW:∀b,b∈ps->b.aP.length<=12000:=(λb hb=>by have:=(hP.bk b hb).1;omega)
 have oX:=hP.len
 have WI:=Pp yW
 refine zA<|ag<|zr<|zm<|aC (WG ps hS _ [] w1 hR) ?_
 rintro v2 w2 ⟨dz,aq⟩
 have dR:=aq.size
 have hK:=hK.ext aq;have hR:=hR.ext aq
 obtain rfl:=dz
 refine zA<|ag<|zr<|zm<|aC (QH ps hS _ [] w2 hR) ?_
 rintro v3 w3 ⟨et,aK⟩
 have gd:=aK.size
 have hK:=hK.ext aK;have hR:=hR.ext aK
 obtain rfl:=et
 refine zA<|ag<|aQ<|zr<|zm<|zm<|Kh EY rfl rfl rfl rfl<|zm ?_
 apply fo 3 19 22 [19,20,21,22] (λw'=>w3=w') rfl
 intro h2
 replace h2:=bu h2
 refine zs<|zs<|zp rfl<|ag ?_
 exact mg rfl rfl
 intro h2
 replace h2:=bu h2
 refine zm<|eH rfl<|zp rfl<|ag ?_
 exact mg rfl rfl
 rintro xx _ rfl
 refine ag<|zc rfl (λh3=>?_) (λh3=>?_)
 refine zr<|zm<|zm<|Pz EY rfl rfl rfl rfl<|zA<|ag<|aV ?_
 exact⟨_,rfl,congrArg Value.bool (dT WI),hK⟩
 have hpi:qX ps=true:=(by have h8:=(Bool.or_eq_false_iff.1 h3).2;simpa using h8)
 have uo:jK ps=true:=WI.symm.trans hpi
 have gC:=Pd uo
 refine bA<|aQ<|zr<|zA<|ag<|cP ?_
 refine fZ (λi:Nat=>[(3,.slice pa pn pc),(6,.int .i64 (i:Int))]) (λi w'=>ak [] w w'∧qV [] w' (.slice pa pn pc) ps∧i<=pn) (λi=>pn-i) (0) (⟨rfl,rfl⟩) (⟨hK,hR,om⟩) ?_
 intro gg w4 e4 hI
 obtain⟨hK,hR,hi⟩:=hI
 refine aQ<|zr<|zm<|zm<|eh gO rfl<|fJ rfl rfl rfl<|ag<|zc rfl (λh4=>?_) (λh4=>?_)
 have ky:gg<ps.length:=om
 have Hj:=zS hR (o3 ky)
 obtain⟨b,off,a1,n1,c1,a2,n2,c2,e7,hc,fK,fu,dy,dR⟩:=Hj
 cases e7
 have oB:=hS.2 gg ky
 have hfi:Ht ps (bz ps gg).aP=(gg:Int):=(by unfold Ht;rw[uo];exact WH uo ky)
 have xq:mw (bz ps gg)=true:=(by unfold mw xP;rw[HX uo _ (List.mem_of_getElem? (o3 ky))];exact dT (yW _ (List.mem_of_getElem? (o3 ky))))
 have ql:qX (ps.take (gg+1))=true:=(by rw[Pp (λb hb=>yW b (List.mem_of_mem_take hb))];exact alh uo om om)
 have gw:(ps.take (gg+1)).length=gg+1:=(by rw[List.length_take];omega)
 have hSt:xO (ps.take (gg+1)):=⟨by omega,λj hj=>by rw[Hu om];exact hS.2 j om⟩
 refine bA<|aQ<|cP<|zr<|zm<|zm<|zm<|zi gO fH rfl rfl om<|zf vZ rfl<|zl cg rfl (hc 0 _ rfl)<|aC (alf ps hS yW (bz ps gg).aP _ [] w4 hR) ?_
 rintro v5 w5 ⟨kQ,aT⟩
 have oW:=aT.size
 have hK:=hK.ext aT;have hR:=hR.ext aT;have hc:=hc.ext aT;have dy:=dy.ext aT;have dR:=dR.ext aT
 obtain rfl:=kQ
 refine zm<|ur rfl rfl rfl rfl rfl<|zm ?_
 apply fo 7 41 48 [41,42,43,44,45,46,47,48] (ak [] w5) rfl
 intro h5
 replace h5:=bu h5
 have Hv:=ak.refl [] w5
 refine zs<|zs<|zs<|zs<|zs<|zs<|zp rfl<|ag ?_
 exact mg rfl Hv
 intro h5
 replace h5:=bu h5
 have Hv:=ak.refl [] w5
 refine zm<|zm<|zi gO fH rfl rfl om<|zL vY fH rfl hc rfl<|aC (alg (bz ps gg) oB.1 oB.2.1 oB.2.2 _ [] w5 (xK dy dR)) ?_
 rintro v6 w6 ⟨kU,bD⟩
 have ob:=bD.size
 have Hv:=Hv.ext bD
 obtain rfl:=kU
 refine eH rfl<|zp rfl<|ag ?_
 exact mg rfl Hv
 intro xx w7 cv
 have hK:=hK.ext cv;have hR:=hR.ext cv
 refine zm ?_
 apply fo 7 49 56 [49,50,51,52,53,54,55,56] (ak [] w7) rfl
 intro h6
 replace h6:=bu h6
 have Hw:=ak.refl [] w7
 refine zs<|zs<|zs<|zs<|zs<|zs<|zp rfl<|ag ?_
 exact mg rfl Hw
 intro h6
 replace h6:=bu h6
 have Hw:=ak.refl [] w7
 refine zm<|zm<|eE rfl rfl rfl (j5 (gg+1) om _ om)<|OI (h:=gg+1) gO fH rfl rfl rfl rfl om hR<|aC (WG (ps.take (gg+1)) hSt _ [] w7 (show cD _ _ _ (.sl 3 ((ps.take (gg+1)).map Bk.enc)) from by have h9:=OH hR (h:=gg+1) om;rw[List.map_take];exact h9)) ?_
 rintro v8 w8 ⟨oP,cu⟩
 have yu:=cu.size
 have Hw:=Hw.ext cu
 obtain rfl:=oP
 refine eH rfl<|zp rfl<|ag ?_
 exact mg rfl Hw
 intro xx w9 aG
 have hK:=hK.ext aG;have hR:=hR.ext aG
 refine ag<|zc rfl (λh7=>?_) (λh7=>?_)
 exfalso
 rw[hfi,xq,ql] at h7
 simp at h7
 refine bA<|db<|zm<|eE rfl rfl rfl (j5 (gg+1) om _ om)<|zA<|ag ?_
 exact⟨gg+1,⟨rfl,rfl⟩,⟨hK,hR,om⟩,om⟩
 have Hj:=zS hR (o3 (bs:=ps) (i:=0) om)
 obtain⟨b,off,a1,n1,c1,a2,n2,c2,e7,hc,fK,fu,dy,dR⟩:=Hj
 cases e7
 have alm:(bz ps 0).aP=[109,97,105,110]∧(bz ps 0).cE.length=0:=(by have h9:=uo;unfold jK at h9;simp only[aE,dE] at h9;exact⟨h9.2.1.2,h9.2.2⟩)
 refine gF<|gH rfl<|zr<|zm<|zi (i:=0) gO fH rfl rfl om<|zf vZ rfl<|zl cg rfl (hc 0 _ rfl)<|cW rfl rfl<|zm ?_
 apply fU 7 62 69 [62,63,64,65,66,67,68,69] (λw'=>w4=w') rfl
 intro h8
 replace h8:=bu h8
 refine zm<|zi (i:=0) gO fH rfl rfl om<|zf wa rfl<|zl eO rfl (hc 1 _ rfl)<|eh bh rfl<|dO rfl rfl rfl<|zp rfl<|ag ?_
 exact mg rfl rfl
 intro h8
 replace h8:=bu h8
 refine zs<|zs<|zs<|zs<|zs<|zs<|zp rfl<|ag ?_
 exact mg rfl rfl
 rintro xx _ rfl
 refine zA<|ag<|aV ?_
 exact⟨_,rfl,congrArg Value.bool (by rw[aE];exact⟨dT alm.1,dT om⟩),hK⟩
section
open Go Go.ChangeShapes Go.WideShapes
theorem aln {w:World} {a:Addr} {v:Value} (h:w.cell? a=some v):a=⟨a.block,a.off,none⟩∧a.block<w.heap.size:=by
 obtain⟨b,o,s⟩:=a
 unfold World.cell? at h
 split at h
 ·rename_i c _ _ he
  cases s with
  |some s=>simp at h
  |none=>exact⟨rfl,(Array.getElem?_eq_some_iff.1 he).1⟩
 ·cases h
theorem alo {a:Addr} (h:a=⟨a.block,a.off,none⟩) (i:Nat):a.add i=⟨a.block,a.off+i,none⟩:=by rw[h];exact vS _ _ _
section
variable {H:Type} {enc:TypeId×Value->H} {P:Program} {w:World} {held:Bool}
end
end
section
open Go Go.ChangeShapes Go.WideShapes
theorem alp {zs:List Int} (h:∀n,n∈zs->(Lit.int .u8 n).wf=true) (hi:i<zs.length):Value.int .u8 (zs.getD i 0)= .int .u8 (((UInt8.ofNat (zs.getD i 0).toNat).toNat:Nat):Int):=by
 have:=range_u8 h i
 rw[<-gG] at this
 congr 1
 simp only[UInt8.toNat_ofNat']
 omega
section
variable {H:Type} {enc:TypeId×Value->H} {P:Program} {w:World} {held:Bool}
theorem apg {t e:TypeId} {fuel:Nat} {cs:List Value} {x:DataW H×List MemPlace} (ht:P.underlying t=some (.slice e)) (he:P.underlying e=some (.int .u8)) (hc:P.cellsOf e=1) 
  (h:DataW.trod enc P w 0 (λ_=>true) held fuel t cs=some x):∃a len cap bs,cs=[.slice a len cap]∧cD [] w (.slice a len cap) (.sl 1 (rF bs)):=by
 rcases open_ints ht he hc h with⟨rfl,_⟩|⟨a,len,cap,zs,rfl,_,hl,hm,hz,_,kJ,dx⟩
 ·exact⟨none,0,0,[],rfl,.nil _ _ _⟩
 ·simp only[if_true] at hz
  rcases Nat.eq_zero_or_pos len with h0|hp
  ·subst h0
   exact⟨some a,0,cap,[],rfl,.nil _ _ _⟩
  ·have h0:=kJ 0 om
   rw[show a.add 0=a from by simp[Addr.add]] at h0
   obtain⟨ha,hb⟩:=aln h0
   have iO:((zs.take len).map λn=>UInt8.ofNat n.toNat).length=len:=by simp;omega
   refine⟨some a,len,cap,(zs.take len).map λn=>UInt8.ofNat n.toNat,rfl,?_⟩
   rw[ha]
   refine .sl a.block a.off len cap 1 _ (λi _=>.int .u8 (zs.getD i 0)) (by rw[Ey,iO]) hl hb sm (λrow hr=>?_) (λi j hi hj=>?_) (λi j row c iI hc=>?_)
   ·obtain⟨_,_,rfl⟩:=List.mem_map.1 hr;rfl
   ·have h1:=kJ i om
    rw[alo ha] at h1
    rw[show a.off+i*1+j=a.off+i from by omega]
    exact h1
   ·have hi:i<len:=by
     have:=(List.getElem?_eq_some_iff.1 iI).1
     rw[Ey,iO] at this;exact this
    have hrw:row=[.val (.int .u8 (((UInt8.ofNat (zs.getD i 0).toNat).toNat:Nat):Int))]:=by
     simp only[rF,List.map_map,List.getElem?_map,List.getElem?_take,iP hi,gE (show i<zs.length by omega),Option.map_some,Function.comp,Option.some.injEq] at iI
     rw[<-iI]
     simp[gG,gE (show i<zs.length by omega)]
    subst hrw
    match j,hc with
    |0,hc=>
     simp only[List.getElem?_cons_zero,Option.some.injEq] at hc
     subst hc
     rw[alp dx om]
     exact .val _
    |j+1,hc=>simp at hc
end
end
theorem aph:(fun(_:Program) (_:FuncId) (_:Func) (s:ChangeSpec) (c:OpenClaim)=>(c.wf (OpenSpec.ofChange s):Bool)) Tryz.pinned.checked.prog 4 Tryz.f4 Rows.fnProgramSpec Rows.fnProgramRow=true:=by kernel_rfl
theorem api:(fun(P:Program) (_:FuncId) (_:Func) (_:ChangeSpec) (_:OpenClaim)=>(laidOutB P:Bool)) Tryz.pinned.checked.prog 4 Tryz.f4 Rows.fnProgramSpec Rows.fnProgramRow=true:=by kernel_rfl
theorem apj:(fun(P:Program) (_:FuncId) (_:Func) (_:ChangeSpec) (_:OpenClaim)=>(mapsRowed P:Bool)) Tryz.pinned.checked.prog 4 Tryz.f4 Rows.fnProgramSpec Rows.fnProgramRow=true:=by kernel_rfl
theorem apk:(fun(P:Program) (_:FuncId) (fn:Func) (_:ChangeSpec) (_:OpenClaim)=>(fn.params.all (P.readableRec ·):Bool)) Tryz.pinned.checked.prog 4 Tryz.f4 Rows.fnProgramSpec Rows.fnProgramRow=true:=by kernel_rfl
theorem apl:(fun(P:Program) (_:FuncId) (_:Func) (s:ChangeSpec) (c:OpenClaim)=>(namedTie P c.named s.vars:Bool)) Tryz.pinned.checked.prog 4 Tryz.f4 Rows.fnProgramSpec Rows.fnProgramRow=true:=by kernel_rfl
theorem apm:(fun(_:Program) (_:FuncId) (_:Func) (_:ChangeSpec) (c:OpenClaim)=>((c.stops==[]):Bool)) Tryz.pinned.checked.prog 4 Tryz.f4 Rows.fnProgramSpec Rows.fnProgramRow=true:=by kernel_rfl
theorem apn:(fun(P:Program) (_:FuncId) (_:Func) (_:ChangeSpec) (_:OpenClaim)=>((P.stops==[]):Bool)) Tryz.pinned.checked.prog 4 Tryz.f4 Rows.fnProgramSpec Rows.fnProgramRow=true:=by kernel_rfl
theorem apo:(fun(_:Program) (_:FuncId) (_:Func) (_:ChangeSpec) (c:OpenClaim)=>((c.knobs==[]):Bool)) Tryz.pinned.checked.prog 4 Tryz.f4 Rows.fnProgramSpec Rows.fnProgramRow=true:=by kernel_rfl
theorem apq:(fun(P:Program) (_:FuncId) (_:Func) (_:ChangeSpec) (_:OpenClaim)=>((P.stopKnobs==[]):Bool)) Tryz.pinned.checked.prog 4 Tryz.f4 Rows.fnProgramSpec Rows.fnProgramRow=true:=by kernel_rfl
theorem apr:(fun(P:Program) (f:FuncId) (_:Func) (_:ChangeSpec) (c:OpenClaim)=>((c.inPlace==P.inPlace f):Bool)) Tryz.pinned.checked.prog 4 Tryz.f4 Rows.fnProgramSpec Rows.fnProgramRow=true:=by kernel_rfl
theorem aps:(fun(P:Program) (f:FuncId) (_:Func) (_:ChangeSpec) (c:OpenClaim)=>((c.unfollowed==P.unfollowed f):Bool)) Tryz.pinned.checked.prog 4 Tryz.f4 Rows.fnProgramSpec Rows.fnProgramRow=true:=by kernel_rfl
theorem apt:(fun(P:Program) (f:FuncId) (_:Func) (_:ChangeSpec) (c:OpenClaim)=>((c.recurses==P.recurses f):Bool)) Tryz.pinned.checked.prog 4 Tryz.f4 Rows.fnProgramSpec Rows.fnProgramRow=true:=by kernel_rfl
theorem apu:(fun(P:Program) (f:FuncId) (_:Func) (_:ChangeSpec) (c:OpenClaim)=>((c.named==P.varsNamed f):Bool)) Tryz.pinned.checked.prog 4 Tryz.f4 Rows.fnProgramSpec Rows.fnProgramRow=true:=by kernel_rfl
theorem apv:(fun(P:Program) (_:FuncId) (fn:Func) (s:ChangeSpec) (c:OpenClaim)=>((c.maps==(fn.params.toList++s.plain.varTypes P).any (P.mapsRec ·)):Bool)) Tryz.pinned.checked.prog 4 Tryz.f4 Rows.fnProgramSpec Rows.fnProgramRow=true:=by kernel_rfl
theorem apw:(fun(P:Program) (_:FuncId) (fn:Func) (s:ChangeSpec) (c:OpenClaim)=>((c.ifaces==(fn.params.toList++s.plain.varTypes P).any (P.ifacesRec ·)):Bool)) Tryz.pinned.checked.prog 4 Tryz.f4 Rows.fnProgramSpec Rows.fnProgramRow=true:=by kernel_rfl
theorem apx:(fun(P:Program) (_:FuncId) (fn:Func) (_:ChangeSpec) (c:OpenClaim)=>((c.mapsOut==P.mapsAmong fn.resultTypes.toList):Bool)) Tryz.pinned.checked.prog 4 Tryz.f4 Rows.fnProgramSpec Rows.fnProgramRow=true:=by kernel_rfl
theorem apy:(fun(P:Program) (_:FuncId) (fn:Func) (s:ChangeSpec) (c:OpenClaim)=>((c.loops==(fn.params.toList++s.plain.varTypes P).any (P.loopsFrom ·)):Bool)) Tryz.pinned.checked.prog 4 Tryz.f4 Rows.fnProgramSpec Rows.fnProgramRow=true:=by kernel_rfl
theorem apz:(fun(P:Program) (_:FuncId) (fn:Func) (s:ChangeSpec) (c:OpenClaim)=>((c.wideKeys==(fn.params.toList++s.plain.varTypes P++fn.resultTypes.toList).any (P.wideKeysFrom ·)):Bool)) Tryz.pinned.checked.prog 4 Tryz.f4 Rows.fnProgramSpec Rows.fnProgramRow=true:=by kernel_rfl
theorem apA:(fun(P:Program) (_:FuncId) (_:Func) (s:ChangeSpec) (_:OpenClaim)=>(s.vars.all (P.varReadable ·):Bool)) Tryz.pinned.checked.prog 4 Tryz.f4 Rows.fnProgramSpec Rows.fnProgramRow=true:=by kernel_rfl
theorem apB:(fun(P:Program) (_:FuncId) (fn:Func) (_:ChangeSpec) (_:OpenClaim)=>(fn.resultTypes.all (λt=>P.readableRec t&&decide (t<P.types.size)):Bool)) Tryz.pinned.checked.prog 4 Tryz.f4 Rows.fnProgramSpec Rows.fnProgramRow=true:=by kernel_rfl
theorem apC:(fun(P:Program) (_:FuncId) (fn:Func) (_:ChangeSpec) (c:OpenClaim)=>((c.ifacesOut==fn.resultTypes.toList.any (P.ifacesRec ·)):Bool)) Tryz.pinned.checked.prog 4 Tryz.f4 Rows.fnProgramSpec Rows.fnProgramRow=true:=by kernel_rfl
theorem apD:(fun(P:Program) (_:FuncId) (fn:Func) (_:ChangeSpec) (c:OpenClaim)=>((c.loopsOut==fn.resultTypes.toList.any (P.loopsFrom ·)):Bool)) Tryz.pinned.checked.prog 4 Tryz.f4 Rows.fnProgramSpec Rows.fnProgramRow=true:=by kernel_rfl
theorem apE:(fun(P:Program) (_:FuncId) (_:Func) (_:ChangeSpec) (c:OpenClaim)=>((c.plainKeys==P.plainKeys):Bool)) Tryz.pinned.checked.prog 4 Tryz.f4 Rows.fnProgramSpec Rows.fnProgramRow=true:=by kernel_rfl
theorem apF:Tryz.pinned.checked.prog.funcNamed "loop.example/typedassembly/laws.FnProgram"=some 4:=by kernel_rfl
theorem apG:(Tryz.f4).isInstance Tryz.pinned.checked.prog Rows.fnProgramRow.origin Rows.fnProgramRow.targs:=of_decide_eq_true (by kernel_rfl)
theorem apH:(Tryz.f4).isWrapper Tryz.pinned.checked.prog Rows.fnProgramRow.wrapper Rows.fnProgramRow.mainSum:=by unfold Func.isWrapper;first|(rw[iP (by decide+kernel)];kernel_rfl)|(rw[iN (by decide+kernel)];exact⟨rfl,rfl⟩)
theorem apI:Rows.fnProgramRow.wfByText (OpenSpec.ofChange Rows.fnProgramSpec)=true:=by kernel_rfl
theorem apJ:(fun(_:Program) (_:FuncId) (_:Func) (_:ChangeSpec) (c:OpenClaim)=>(c.shortTexts.isNone:Bool)) Tryz.pinned.checked.prog 4 Tryz.f4 Rows.fnProgramSpec Rows.fnProgramRow=true:=by kernel_rfl
theorem apK:(fun(P:Program) (_:FuncId) (_:Func) (_:ChangeSpec) (_:OpenClaim)=>(P.stopsHeard:Bool)) Tryz.pinned.checked.prog 4 Tryz.f4 Rows.fnProgramSpec Rows.fnProgramRow=true:=by kernel_rfl
theorem apL:(fun(P:Program) (_:FuncId) (_:Func) (_:ChangeSpec) (_:OpenClaim)=>(P.mayEnter:Bool)) Tryz.pinned.checked.prog 4 Tryz.f4 Rows.fnProgramSpec Rows.fnProgramRow=true:=by kernel_rfl
theorem apM:(fun(P:Program) (_:FuncId) (_:Func) (_:ChangeSpec) (c:OpenClaim)=>((c.lifted==P.liftsFinal):Bool)) Tryz.pinned.checked.prog 4 Tryz.f4 Rows.fnProgramSpec Rows.fnProgramRow=true:=by kernel_rfl
theorem apN:(fun(P:Program) (_:FuncId) (_:Func) (_:ChangeSpec) (c:OpenClaim)=>((P.make==some c.make):Bool)) Tryz.pinned.checked.prog 4 Tryz.f4 Rows.fnProgramSpec Rows.fnProgramRow=true:=by kernel_rfl
theorem apO:(fun(P:Program) (_:FuncId) (fn:Func) (_:ChangeSpec) (c:OpenClaim)=>((c.kinds==(if c.domain.isEmpty then[] else fn.params.toList.map λt=>match P.underlying t with|some (.int k)=>some k|_=>none)):Bool)) Tryz.pinned.checked.prog 4 Tryz.f4 Rows.fnProgramSpec Rows.fnProgramRow=true:=by kernel_rfl
theorem apP:(fun(_:Program) (_:FuncId) (_:Func) (_:ChangeSpec) (c:OpenClaim)=>((c.pinned==c.pinnedBy):Bool)) Tryz.pinned.checked.prog 4 Tryz.f4 Rows.fnProgramSpec Rows.fnProgramRow=true:=by kernel_rfl
theorem apQ:(fun(P:Program) (_:FuncId) (fn:Func) (s:ChangeSpec) (c:OpenClaim)=>((c.veiled==(fn.params.toList++s.plain.varTypes P++fn.resultTypes.toList).any (P.veiledRec ·)):Bool)) Tryz.pinned.checked.prog 4 Tryz.f4 Rows.fnProgramSpec Rows.fnProgramRow=true:=by kernel_rfl
theorem apR:(fun(P:Program) (_:FuncId) (fn:Func) (s:ChangeSpec) (c:OpenClaim)=>(c.veiledFits P fn.params.toList (fn.params.toList++s.plain.varTypes P++fn.resultTypes.toList):Bool)) Tryz.pinned.checked.prog 4 Tryz.f4 Rows.fnProgramSpec Rows.fnProgramRow=true:=by kernel_rfl
theorem apS:Tryz.pinned.checked.prog.mainIs=some (true, "ed6b2bc1d4952f5e35729a510763a43720434c752e8136e8a6fb0aff96d0ed2c".toList):=by kernel_rfl
theorem apT:true=Tryz.pinned.checked.prog.looks []:=by kernel_rfl
theorem apU:Tryz.pinned.checked.prog.wantsStandIn 22=false:=by kernel_rfl
theorem apV:false=Rows.fnProgramRow.goesBy Tryz.pinned.checked.prog:=by kernel_rfl
end Go.Proofs.YtigijcjccmdmhaaGreatDoor
