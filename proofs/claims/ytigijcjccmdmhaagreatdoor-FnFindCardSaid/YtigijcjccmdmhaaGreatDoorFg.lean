/- Lemmas for the law FnFind, no statement of their own: no conditions. -/
import Derived.Test.YtigijcjccmdmhaaGreatDoorFf
import Derived.Deep.Strs
import Derived.JoinedOf
import Derived.OpenShut
import Derived.SevenTiedAt
import Derived.Test.YtigijcjccmdmhaaGreatDoorRows
namespace Go.Proofs.YtigijcjccmdmhaaGreatDoor
open Go
variable {bs:List Bk} {i:Nat}
theorem akQ {s:aj} (h:12000<s.length):ba s=none:=by unfold ba;rw[iP h]
def akR (L:List Nat) (s:aj) (v:Value) (w:World):Prop:=∃t tv,v= .tuple #[tv,.bool (ba s).isSome]∧bS L w tv t∧∀t',ba s=some t'->t=t'
theorem Ws (s:aj) (L:List Nat) (w:World) (hL:∀x,x∈L->x<w.heap.size):cj Tryz.prog 34 [str s] w λr w'=>akR L s r w'∧ak [] w w':=by
 have hK:=ak.refl [] w
 refine lF [.cell 2 58,.tmp 3] 23 Tryz.func34 rfl Y2 rfl rfl rfl ?_
 refine zr<|eA fb rfl rfl rfl ?_
 intro w1 aK aZ dY
 have hK:=hK.grow;have hK:=hK.ext aK
 refine zA<|ag<|aQ<|zr<|zm<|kL fc rfl rfl rfl<|jx rfl rfl rfl rfl rfl<|ag<|zc rfl (λh1=>?_) (λh1=>?_)
 have hp:=akQ (s:=s) om
 refine zr<|j5 (Ku _) rfl rfl<|du fb rfl rfl rfl aZ rfl ?_
 intro w2 aq aZ eM
 have hK:=hK.aL aq sx
 refine zA<|ag<|aV ?_
 exact⟨[_,_],⟨gO j8 fb rfl aZ rfl,rfl⟩,⟨.mk [] [],_,by rw[hp];rfl,lE oU,by rw[hp];intro t' h;cases h⟩,hK⟩
 have hle:s.length<=12000:=by omega
 have hL1:∀x,x∈w.heap.size::L->x<w1.heap.size:=by intro x hx;rcases mC.1 hx with rfl|hx;omega;have:=hL x hx;omega
 refine bz<|zr<|zm<|aC (akO 60 s (w.heap.size::L) w1 om hle hL1) ?_
 rintro v2 w2 ⟨dA,aq⟩
 have eE:=aq.size
 have hK:=hK.ext aq;have aZ:=aZ.ext aq
 obtain⟨t,tv,r,ok,rfl,ht,hm⟩:=dA
 obtain⟨pa,pn,pc,rfl,fP,bc⟩:=dM ht
 subst fP
 refine zm<|zx (i:=0) rfl rfl<|zx (i:=1) rfl rfl<|zx (i:=2) rfl rfl<|eA fb rfl rfl rfl ?_
 intro w3 aJ aI iH
 have hK:=hK.grow;have hK:=hK.ext aJ;have aZ:=aZ.grow;have aZ:=aZ.ext aJ;have ht:=ht.grow;have ht:=ht.ext aJ
 refine du fb rfl rfl rfl aI rfl ?_
 intro w4 aF aI iS
 have hK:=hK.aL aF sx;have aZ:=aZ.aL aF sx;have ht:=ht.aL aF sx
 refine zA<|zA<|ag<|zr<|zL j8 fb rfl aI.all rfl<|zm<|zm ?_
 apply fX 3 19 22 [19,20,21,22] (λw'=>w4=w') rfl
 intro h2
 replace h2:=bw h2
 refine zm<|cW rfl rfl<|zp rfl<|ag ?_
 exact mg rfl rfl
 intro h2
 replace h2:=bw h2
 refine zs<|zs<|zp rfl<|ag ?_
 exact mg rfl rfl
 rintro xx _ rfl
 refine du fb rfl rfl rfl aZ rfl ?_
 intro w5 aU aZ jo
 have hK:=hK.aL aU sx;have ht:=ht.aL aU sx
 refine zA<|ag<|aV ?_
 obtain⟨qi,uI⟩:=abp hle hm
 exact⟨[_,_],⟨gO j8 fb rfl aZ rfl,rfl⟩,⟨t,_,by rw[<-qi];rfl,ht.ji (λx hx=>by simp[hx]),uI⟩,hK⟩
def akT (L:List Nat) (s:aj) (v:Value) (w:World):Prop:=∃t tv,v= .tuple #[tv,.bool (rK s)]∧bS L w tv t∧∀t',ba s=some t'->t=t'
theorem akU (s:aj) (L:List Nat) (w:World) (hL:∀x,x∈L->x<w.heap.size):cj Tryz.prog 60 [str s] w λr w'=>akT L s r w'∧ak [] w w':=by
 have hK:=ak.refl [] w
 refine lF [.cell 2 58,.tmp 3] 17 Tryz.func60 rfl Zi rfl rfl rfl ?_
 refine zr<|eA fb rfl rfl rfl ?_
 intro w1 aK aZ dY
 have hK:=hK.grow;have hK:=hK.ext aK
 refine zA<|ag<|zr<|zm<|aC (Ws s (w.heap.size::L) w1 (by intro x hx;rcases mC.1 hx with rfl|hx;omega;have:=hL x hx;omega)) ?_
 rintro v2 w2 ⟨dA,aq⟩
 have eE:=aq.size
 have hK:=hK.ext aq;have aZ:=aZ.ext aq
 obtain⟨t,tv,rfl,ht,hp⟩:=dA
 obtain⟨pa,pn,pc,rfl,fP,bc⟩:=dM ht
 subst fP
 have dx:=λh=>Dp hp h
 refine zm<|zx (i:=0) rfl rfl<|zx (i:=1) rfl rfl<|eA fb rfl rfl rfl ?_
 intro w3 aJ aI iH
 have hK:=hK.grow;have hK:=hK.ext aJ;have aZ:=aZ.grow;have aZ:=aZ.ext aJ;have ht:=ht.grow;have ht:=ht.ext aJ
 refine du fb rfl rfl rfl aI rfl ?_
 intro w4 aF aI iS
 have hK:=hK.aL aF sx;have aZ:=aZ.aL aF sx;have ht:=ht.aL aF sx
 refine zA<|ag<|aQ ?_
 refine qf ei (cP w.heap.size ([str t.az,.slice pa t.au.length pc]) 58) 8 (rA 11 6++[100006,3]) (rA 11 6++[100006,3]) [[],[],[1],[2],[2,3],[2,4],[0],[5]] [λv _=>v=(.agg #[str t.az,.slice pa t.au.length pc]),λv _=>v=(.bool ((ba s).isSome)),λv _=>v=(.bool ((ba s).isSome)),λv _=>((ba s).isSome)=true->v=(.agg #[str t.az,.slice pa t.au.length pc]),λv _=>((ba s).isSome)=true->v=(.bool (fB false t)),λv _=>v=(.bool ((ba s).isSome&&fB false t)),λ_ ww=>aY ww w.heap.size ([str t.az,.slice pa t.au.length pc]).toArray 58,λv _=>v=(.bool ((ba s).isSome&&fB false t))] de (cX (cX (cX (eV (eV (cX (CY (cX trivial)))))))) (λwd aB=>?_) ?_
 refine bN ?_ ?_
 intro x vs w5 e aU hd he
 replace aU:=(cP w.heap.size ([str t.az,.slice pa t.au.length pc]) 58).trans aB aU
 have aI:=aI.aL aU.1 sx
 replace he:e=aM (aN _ x _) []:=he
 subst he
 refine zL j8 fb rfl aI.all rfl<|ag ?_
 exact dn ((cP w.heap.size ([str t.az,.slice pa t.au.length pc]) 58).refl _) rfl
 refine bN ?_ ?_
 intro x vs w5 e aU hd he
 replace aU:=(cP w.heap.size ([str t.az,.slice pa t.au.length pc]) 58).trans aB aU
 replace he:e=aM (aN _ x _) []:=he
 subst he
 refine zm<|ag ?_
 exact dn ((cP w.heap.size ([str t.az,.slice pa t.au.length pc]) 58).refl _) rfl
 refine bN ?_ ?_
 intro x vs w5 e aU hd he
 have d1:vs 1=(.bool ((ba s).isSome)):=hd
 replace aU:=(cP w.heap.size ([str t.az,.slice pa t.au.length pc]) 58).trans aB aU
 replace he:e=aM (aN _ x _) [(12,vs 1)]:=he
 rw[d1] at he
 subst he
 refine zm<|ag ?_
 exact dn ((cP w.heap.size ([str t.az,.slice pa t.au.length pc]) 58).refl _) rfl
 refine bN ?_ ?_
 intro x vs w5 e aU hd he
 have d2:vs 2=(.bool ((ba s).isSome)):=hd
 replace aU:=(cP w.heap.size ([str t.az,.slice pa t.au.length pc]) 58).trans aB aU
 have aI:=aI.aL aU.1 sx
 rcases bE ((ba s).isSome) with hg|hg
 rw[hg] at d2
 replace he:e=aM (aN _ x _) [(13,vs 2)]:=he
 rw[d2] at he
 subst he
 refine zL j8 fb rfl aI.all rfl<|ag ?_
 exact dn ((cP w.heap.size ([str t.az,.slice pa t.au.length pc]) 58).refl _) (show((ba s).isSome)=true->_=((.agg #[str t.az,.slice pa t.au.length pc]):Value) from λ_=>rfl)
 rw[hg] at d2
 replace he:e=aM (aN _ x _) [(13,vs 2)]:=he
 rw[d2] at he
 subst he
 refine zs<|ag ?_
 exact dn ((cP w.heap.size ([str t.az,.slice pa t.au.length pc]) 58).refl _) (show((ba s).isSome)=true->_=(_:Value) from λhh=>nomatch hg.symm.trans hh)
 refine bN ?_ ?_
 intro x vs w5 e aU hd he
 have aR:(vs 2=(.bool ((ba s).isSome)))∧(((ba s).isSome)=true->vs 3=(.agg #[str t.az,.slice pa t.au.length pc])):=hd
 obtain⟨d2,d3⟩:=aR
 replace aU:=(cP w.heap.size ([str t.az,.slice pa t.au.length pc]) 58).trans aB aU
 have ht:=ht.aL aU.1 sx
 rcases bE ((ba s).isSome) with hg|hg
 rw[hg] at d2
 replace d3:=d3 hg
 replace he:e=aM (aN _ x _) [(13,vs 2),(14,vs 3)]:=he
 rw[d2,d3] at he
 subst he
 refine aC (Pa t.size t (lR _) (by have:=(dx hg).2;omega) (dx hg).1 false _ _ w5 ht) ?_
 rintro v6 w6 ⟨lu,bF⟩
 have oM:=bF.size
 obtain rfl:=lu
 refine ag ?_
 exact dn ((cP w.heap.size ([str t.az,.slice pa t.au.length pc]) 58).of bF) (show((ba s).isSome)=true->_=((.bool (fB false t)):Value) from λ_=>rfl)
 rw[hg] at d2
 replace he:e=aM (aN _ x _) [(13,vs 2),(14,vs 3)]:=he
 rw[d2] at he
 subst he
 refine zs<|ag ?_
 exact dn ((cP w.heap.size ([str t.az,.slice pa t.au.length pc]) 58).refl _) (show((ba s).isSome)=true->_=(_:Value) from λhh=>nomatch hg.symm.trans hh)
 refine bN ?_ ?_
 intro x vs w5 e aU hd he
 have aR:(vs 2=(.bool ((ba s).isSome)))∧(((ba s).isSome)=true->vs 4=(.bool (fB false t))):=hd
 obtain⟨d2,d4⟩:=aR
 replace aU:=(cP w.heap.size ([str t.az,.slice pa t.au.length pc]) 58).trans aB aU
 rcases bE ((ba s).isSome) with hg|hg
 rw[hg] at d2
 replace d4:=d4 hg
 replace he:e=aM (aN _ x _) [(13,vs 2),(15,vs 4)]:=he
 rw[d2,d4] at he
 subst he
 refine zp rfl<|ag ?_
 exact dn ((cP w.heap.size ([str t.az,.slice pa t.au.length pc]) 58).refl _) (by first|rfl|(rw[hg];rfl))
 rw[hg] at d2
 replace he:e=aM (aN _ x _) [(13,vs 2),(15,vs 4)]:=he
 rw[d2] at he
 subst he
 refine zp rfl<|ag ?_
 exact dn ((cP w.heap.size ([str t.az,.slice pa t.au.length pc]) 58).refl _) (by first|rfl|(rw[hg];rfl))
 refine bN ?_ ?_
 intro x vs w5 e aU hd he
 have d0:vs 0=(.agg #[str t.az,.slice pa t.au.length pc]):=hd
 replace aU:=(cP w.heap.size ([str t.az,.slice pa t.au.length pc]) 58).trans aB aU
 obtain⟨us,uX,uY⟩:=aU.2.2 ⟨_,(by rfl),aZ⟩
 replace he:e=aM (aN _ x _) [(11,vs 0)]:=he
 rw[d0] at he
 subst he
 refine du fb rfl rfl rfl uY (by rw[uX];rfl) ?_
 intro w6 bF hb lG
 refine ag ?_
 exact dn ⟨bF,λ_=>hb,λ_=>⟨_,rfl,hb⟩⟩ hb
 refine bN ?_ ?_
 intro x vs w5 e aU hd he
 have d5:vs 5=(.bool ((ba s).isSome&&fB false t)):=hd
 replace aU:=(cP w.heap.size ([str t.az,.slice pa t.au.length pc]) 58).trans aB aU
 replace he:e=aM (aN _ x _) [(16,vs 5)]:=he
 rw[d5] at he
 subst he
 refine zA<|ag ?_
 exact dn ((cP w.heap.size ([str t.az,.slice pa t.au.length pc]) 58).refl _) rfl
 exact trivial
 intro x vs pW jR bJ
 have d0:vs 0=(.agg #[str t.az,.slice pa t.au.length pc]):=bJ 0 de
 have d1:vs 1=(.bool ((ba s).isSome)):=bJ 1 de
 have d2:vs 2=(.bool ((ba s).isSome)):=bJ 2 de
 have d3:((ba s).isSome)=true->vs 3=(.agg #[str t.az,.slice pa t.au.length pc]):=bJ 3 de
 have d4:((ba s).isSome)=true->vs 4=(.bool (fB false t)):=bJ 4 de
 have d5:vs 5=(.bool ((ba s).isSome&&fB false t)):=bJ 5 de
 have d6:aY pW w.heap.size ([str t.az,.slice pa t.au.length pc]).toArray 58:=bJ 6 de
 have d7:vs 7=(.bool ((ba s).isSome&&fB false t)):=bJ 7 de
 have hK:=hK.aL jR.1 sx;have ht:=ht.aL jR.1 sx
 have aZ:=d6
 change OW _ _ _ _ [] (aM (aN _ x _) (zZ 11 [vs 0,vs 1,vs 2,vs 3,vs 4,vs 5]++[(100006,vs 6),(3,vs 7)])) _
 rw[d0,d1,d2,d5,d7]
 refine ag<|aV ?_
 exact⟨[_,_],⟨gO j8 fb rfl aZ rfl,rfl⟩,⟨t,_,by rw[HI (f:=fB false) hp];rfl,ht.ji (λx hx=>by simp[hx]),hp⟩,hK⟩
def Wt (L:List Nat) (b:Bk) (v:Value) (w:World):Prop:=∃ib bv,v= .tuple #[bv,.bool (oz b)]∧nO L w bv ib∧(oz b=true->ib=fT b)
theorem Pd {L:List Nat} {b:Bk} {w:World} (h:oz b=false):Wt L b (.tuple #[.agg #[str [],.slice none 0 0,.slice none 0 0],.bool false]) w:=
 ⟨⟨[],[],[]⟩,_,by rw[h],Lc oU oU,by rw[h];intro h;cases h⟩
theorem akV (k:Bk) (hl:k.aP.length<1000000000) (fS:k.cN.length<1000000000) (fH:k.code.length<1000000000) (v:Value) (Li L:List Nat) (w:World) (hv:qS Li w v k) (hL:∀x,x∈L->x<w.heap.size):
  cj Tryz.prog 32 [v] w λr w'=>Wt L k r w'∧ak [] w w':=by
 obtain⟨a1,n1,c1,a2,n2,c2,rfl,oX,mM,dQ,eE⟩:=Dh hv
 have hK:=ak.refl [] w
 refine lF [.cell 2 53,.tmp 3] 102 Tryz.func32 rfl Y1 rfl rfl rfl ?_
 refine zr<|fE rfl ?_
 intro w1 aK aT dY
 have hK:=hK.ext aK
 refine eA mS rfl rfl rfl ?_
 intro w2 aq aZ eM
 have hK:=hK.grow;have hK:=hK.ext aq;have aT:=aT.grow;have aT:=aT.ext aq
 refine zA<|ag<|aQ<|zr<|zf xv rfl<|zl ck rfl (aT.at rfl)<|aC (Wk _ om _) ?_
 rintro _ _ ⟨rfl,rfl⟩
 refine eJ rfl<|zm ?_
 apply fz 5 17 22 [17,18,19,20,21,22] (λw'=>w2=w') rfl
 intro h1
 replace h1:=bw h1
 refine zs<|zs<|zs<|zs<|zp rfl<|ag ?_
 exact mg rfl rfl
 intro h1
 replace h1:=bw h1
 refine zf xv rfl<|zl ck rfl (aT.at rfl)<|kL fc rfl rfl rfl<|jx rfl rfl rfl rfl rfl<|zp rfl<|ag ?_
 exact mg rfl rfl
 rintro xx _ rfl
 refine zm ?_
 apply fz 5 23 28 [23,24,25,26,27,28] (λw'=>w2=w') rfl
 intro h2
 replace h2:=bw h2
 refine zs<|zs<|zs<|zs<|zp rfl<|ag ?_
 exact mg rfl rfl
 intro h2
 replace h2:=bw h2
 refine zf xw rfl<|zl eQ rfl (aT.at rfl)<|dX bh rfl<|jx rfl rfl rfl rfl rfl<|zp rfl<|ag ?_
 exact mg rfl rfl
 rintro xx _ rfl
 refine zm ?_
 apply fz 6 29 35 [29,30,31,32,33,34,35] (λw'=>w2=w') rfl
 intro h3
 replace h3:=bw h3
 refine zs<|zs<|zs<|zs<|zs<|zp rfl<|ag ?_
 exact mg rfl rfl
 intro h3
 replace h3:=bw h3
 refine zf mQ rfl<|zl eQ rfl (aT.at rfl)<|dX bh rfl<|aC (J2 _ _ _ _) ?_
 rintro _ _ ⟨rfl,rfl⟩
 refine eJ rfl<|zp rfl<|ag ?_
 exact mg rfl rfl
 rintro xx _ rfl
 refine ag<|zc rfl (λh4=>?_) (λh4=>?_)
 have hq:=abq oX mM h4
 refine zr<|j5 (Kt _) rfl rfl<|du mS rfl rfl rfl aZ rfl ?_
 intro w3 aJ aZ iH
 have hK:=hK.aL aJ sx
 refine zA<|ag<|aV ?_
 exact⟨[_,_],⟨gO Bl mS rfl aZ rfl,rfl⟩,Pd hq,hK⟩
 obtain⟨tu,oW⟩:=abr oX mM h4
 have wZ:k.cN.length<=40∧k.code.length<=80:=by simp only[aE,dE] at tu;exact⟨tu.1.2,tu.2.2⟩
 refine bz<|zr<|zf xv rfl<|zl ck rfl (aT.at rfl)<|j5 (ZQ _ _) rfl rfl<|eA mS rfl rfl rfl ?_
 intro w3 aJ aI iH
 have hK:=hK.grow;have hK:=hK.ext aJ;have aT:=aT.grow;have aT:=aT.ext aJ;have aZ:=aZ.grow;have aZ:=aZ.ext aJ
 refine du mS rfl rfl rfl aI rfl ?_
 intro w4 aF aI iS
 have hK:=hK.aL aF sx;have aT:=aT.aL aF sx;have aZ:=aZ.aL aF sx
 refine ag<|aQ<|zr<|zf xw rfl<|zl eQ rfl (aT.at rfl)<|dX bh rfl<|zm<|ag<|cQ ?_
 refine fW (λq:Nat×Option Addr×Nat×Option Nat=>[(1,.pointer (some ⟨w.heap.size,0,none⟩)),(2,.pointer (some ⟨w1.heap.size,0,none⟩)),(4,.pointer (some ⟨w2.heap.size,0,none⟩)),(41,.slice a1 n1 c1),(42,.int .i64 (n1:Int)),(43,.int .i64 (q.1:Int))]) (λq w'=>ak [] w w'∧aY w' w.heap.size [str k.aP,.slice a1 n1 c1,.slice a2 n2 c2].toArray 29∧aY w' w1.heap.size [str [],.slice none 0 0,.slice none 0 0].toArray 53∧aY w' w2.heap.size [str k.aP,.slice q.2.1 ((k.cN.take q.1).map tr).length q.2.2.1,.slice none 0 0].toArray 53∧Gr w1.heap.size (w1.heap.size::w2.heap.size::L) w' 58 2 (.slice q.2.1 ((k.cN.take q.1).map tr).length q.2.2.1) q.2.2.2 (dD ((k.cN.take q.1).map tr))∧q.1<=k.cN.length∧∀i,i<q.1->rK (aD k.cN i)=true) (λq=>k.cN.length-q.1) ((0,none,0,none)) (⟨rfl,rfl,rfl,rfl,rfl,rfl⟩) (⟨hK,aT,aZ,aI,Gr.nil (by intro x hx;simp at hx;rcases hx with rfl|rfl|hx;omega;omega;have:=hL x hx;omega) om,sm,by intro i hi;simp at hi⟩) ?_
 intro gg w5 e5 hI
 obtain⟨i,a,cc,g⟩:=gg
 dsimp only at hI⊢
 obtain⟨hK,aT,aZ,aI,hO,hk,dy⟩:=hI
 have iW:=hK.size
 have TN:=aT.lt
 have TO:=aZ.lt
 have Wr:=aI.lt
 refine zr<|fy rfl rfl rfl<|ag<|aQ<|zc rfl (λh5=>?_) (λh5=>?_)
 have ga:=ll (xs:=k.cN) (i:=i) om
 obtain⟨b,off,rfl,hc⟩:=qR (dQ.ext hK) ga
 refine bz<|aQ<|cQ<|zr<|zi bh bA rfl rfl om<|zl ck rfl (hc 0 _ rfl)<|zA<|ag<|zr<|zm<|aC (akU (aD k.cN i) (g.toList++(w1.heap.size::w2.heap.size::L)) w5 hO.all) ?_
 rintro v6 w6 ⟨lu,bF⟩
 have oM:=bF.size
 have hK:=hK.ext bF;have aT:=aT.ext bF;have aZ:=aZ.ext bF;have aI:=aI.ext bF;have hO:=hO.ext bF
 obtain⟨t,tv,rfl,ht,hp⟩:=lu
 obtain⟨pa,pn,pc,rfl,fP,bc⟩:=dM ht
 subst fP
 refine zm<|zx (i:=0) rfl rfl<|zx (i:=1) rfl rfl<|eA fb rfl rfl rfl ?_
 intro w7 cw cG qg
 have hK:=hK.grow;have hK:=hK.ext cw;have aT:=aT.grow;have aT:=aT.ext cw;have aZ:=aZ.grow;have aZ:=aZ.ext cw;have aI:=aI.grow;have aI:=aI.ext cw;have hO:=hO.alloc cw qg;have ht:=ht.grow;have ht:=ht.ext cw
 refine du fb rfl rfl rfl cG rfl ?_
 intro w8 cu cG mn
 have hK:=hK.aL cu sx;have aT:=aT.aL cu sx;have aZ:=aZ.aL cu sx;have aI:=aI.aL cu sx;have hO:=hO.aL cu sx;have ht:=ht.aL cu sx
 refine zA<|ag<|aQ<|zr<|zm<|eJ rfl<|ag<|zc rfl (λh6=>?_) (λh6=>?_)
 have hq:=abt (b:=k) (i:=i) om (by simpa using h6)
 refine zr<|j5 (Kt _) rfl rfl<|du mS rfl rfl rfl aZ rfl ?_
 intro w9 aG aZ dN
 have hK:=hK.aL aG sx
 refine zA<|ag<|aV ?_
 exact⟨[_,_],⟨gO Bl mS rfl aZ rfl,rfl⟩,Pd hq,hK⟩
 have mU:rK (aD k.cN i)=true:=by simpa using h6
 refine bz<|db<|zf KD rfl<|zl sn rfl (aI.at rfl)<|zL j8 fb rfl cG.all rfl<|gD nK fb rfl rfl ?_
 intro w9 aG O2 dN
 have hK:=hK.ext aG;have aT:=aT.ext aG;have aZ:=aZ.ext aG;have aI:=aI.ext aG;have hO:=hO.ext aG;have ht:=ht.ext aG
 refine KZ nK fb rfl rfl rfl rfl rfl rfl hO O2 ht.K0 (by rw[HR _ hk];omega) ?_
 intro a3 Hm g3 cM oa bU
 have Wu:=bU.size
 have hK:=ak.QA om hO.low hK bU
 have aT:=aT.aL bU (hO.Qz om);have aZ:=aZ.aL bU (hO.Dk sm);have aI:=aI.aL bU (hO.Dk sm)
 rw[abv mU hp,K9 tr ga] at oa⊢
 refine zf KD rfl<|gW KG rfl rfl rfl aI rfl ?_
 intro eW cK aI uC
 have hK:=hK.aL cK sx;have aT:=aT.aL cK sx;have aZ:=aZ.aL cK sx;have oa:=oa.aL cK sx
 refine ag<|db<|eF rfl rfl rfl (wrap_i64 _ om om)<|zm<|ag ?_
 exact⟨(i+1,a3,Hm,g3),⟨rfl,rfl,rfl,rfl,rfl,rfl⟩,⟨hK,aT,aZ,aI,oa.ji (λx hx=>mK _ hx),by dsimp only;omega,by intro j hj;rcases Nat.lt_or_ge j i with h|h;exact dy j h;rw[show j=i by dsimp only at hj;omega];exact mU⟩,by dsimp only;omega⟩
 have KY:∀j,j<k.cN.length->rK (aD k.cN j)=true:=λj hj=>dy j om
 rw[La tr om] at aI hO
 have Nz:=hO.trees
 have jB:=ak.refl [w1.heap.size,w2.heap.size] w5
 clear dy hO
 refine gB<|gC rfl<|aQ<|zr<|zf mQ rfl<|zl eQ rfl (aT.at rfl)<|dX bh rfl<|zm<|ag<|cQ ?_
 refine fW (λq:Nat×Option Addr×Nat×Option Nat=>[(1,.pointer (some ⟨w.heap.size,0,none⟩)),(2,.pointer (some ⟨w1.heap.size,0,none⟩)),(4,.pointer (some ⟨w2.heap.size,0,none⟩)),(63,.slice a2 n2 c2),(64,.int .i64 (n2:Int)),(65,.int .i64 (q.1:Int))]) (λq w'=>ak [] w w'∧ak [w1.heap.size,w2.heap.size] w5 w'∧aY w' w.heap.size [str k.aP,.slice a1 n1 c1,.slice a2 n2 c2].toArray 29∧aY w' w1.heap.size [str [],.slice none 0 0,.slice none 0 0].toArray 53∧aY w' w2.heap.size [str k.aP,.slice a (k.cN.map tr).length cc,.slice q.2.1 ((k.code.take q.1).map tr).length q.2.2.1].toArray 53∧Gr w5.heap.size (w1.heap.size::w2.heap.size::L) w' 58 2 (.slice q.2.1 ((k.code.take q.1).map tr).length q.2.2.1) q.2.2.2 (dD ((k.code.take q.1).map tr))∧q.1<=k.code.length∧∀i,i<q.1->sv k.code i=true) (λq=>k.code.length-q.1) ((0,none,0,none)) (⟨rfl,rfl,rfl,rfl,rfl,rfl⟩) (⟨hK,jB,aT,aZ,aI,Gr.nil (by intro x hx;simp at hx;rcases hx with rfl|rfl|hx;omega;omega;have:=hL x hx;omega) om,sm,by intro i hi;simp at hi⟩) ?_
 intro gg w6 e6 hI
 obtain⟨j,a5,Tm,g⟩:=gg
 dsimp only at hI⊢
 obtain⟨hK,jB,aT,aZ,aI,hO,aq,dy⟩:=hI
 have iW:=hK.size
 have ao2:=jB.size
 have TN:=aT.lt
 have TO:=aZ.lt
 have Wr:=aI.lt
 refine zr<|fy rfl rfl rfl<|ag<|aQ<|zc rfl (λh7=>?_) (λh7=>?_)
 have ga:=ll (xs:=k.code) (i:=j) om
 obtain⟨b,off,rfl,hc⟩:=qR (eE.ext hK) ga
 refine bz<|aQ<|cQ<|zr<|zm<|zi bh bA rfl rfl om<|zl ck rfl (hc 0 _ rfl)<|zA<|zA<|ag<|zr<|zm<|aC (Ws (aD k.code j) (g.toList++(w1.heap.size::w2.heap.size::L)) w6 hO.all) ?_
 rintro v7 w7 ⟨iT,cw⟩
 have pb:=cw.size
 have hK:=hK.ext cw;have jB:=jB.ext cw;have aT:=aT.ext cw;have aZ:=aZ.ext cw;have aI:=aI.ext cw;have hO:=hO.ext cw
 obtain⟨t,tv,rfl,ht,hp⟩:=iT
 obtain⟨pa,pn,pc,rfl,fP,bc⟩:=dM ht
 subst fP
 have dx:=λh=>Dp hp h
 refine zm<|zx (i:=0) rfl rfl<|zx (i:=1) rfl rfl<|eA fb rfl rfl rfl ?_
 intro w8 cu iC mn
 have hK:=hK.grow;have hK:=hK.ext cu;have jB:=jB.grow;have jB:=jB.ext cu;have aT:=aT.grow;have aT:=aT.ext cu;have aZ:=aZ.grow;have aZ:=aZ.ext cu;have aI:=aI.grow;have aI:=aI.ext cu;have hO:=hO.alloc cu mn;have ht:=ht.grow;have ht:=ht.ext cu
 refine du fb rfl rfl rfl iC rfl ?_
 intro w9 aG iC dN
 have hK:=hK.aL aG sx;have jB:=jB.aL aG sx;have aT:=aT.aL aG sx;have aZ:=aZ.aL aG sx;have aI:=aI.aL aG sx;have hO:=hO.aL aG sx;have ht:=ht.aL aG sx
 refine zA<|ag<|aQ<|aQ ?_
 refine qf ei aS 18 (rA 75 18) (rA 75 18) [[],[0],[1],[2],[2,3],[2,4],[2,5],[6],[7],[7,8],[7],[7],[7,11],[7,12],[7,13],[7,10,14],[7,9,15],[7,16]] [λv _=>v=(.bool ((ba (aD k.code j)).isSome)),λv _=>v=(.bool (!(ba (aD k.code j)).isSome)),λv _=>v=(.bool (!(ba (aD k.code j)).isSome)),λv _=>(!(ba (aD k.code j)).isSome)=false->v=(.agg #[str t.az,.slice pa t.au.length pc]),λv _=>(!(ba (aD k.code j)).isSome)=false->v=(.bool (dH t)),λv _=>(!(ba (aD k.code j)).isSome)=false->v=(.bool (!dH t)),λv _=>v=(.bool (!(ba (aD k.code j)).isSome||!dH t)),λv _=>v=(.bool (!(ba (aD k.code j)).isSome||!dH t)),λv _=>(!(ba (aD k.code j)).isSome||!dH t)=false->v=(.agg #[str t.az,.slice pa t.au.length pc]),λv _=>(!(ba (aD k.code j)).isSome||!dH t)=false->v=(.bool (rO t)),λv _=>(!(ba (aD k.code j)).isSome||!dH t)=false->v=(.int .i64 (j:Int)),λv _=>(!(ba (aD k.code j)).isSome||!dH t)=false->v=(.pointer (some ⟨w.heap.size,0+2,none⟩)),λv _=>(!(ba (aD k.code j)).isSome||!dH t)=false->v=(.slice (some ⟨b,off,none⟩) n2 c2),λv _=>(!(ba (aD k.code j)).isSome||!dH t)=false->v=(.int .i64 (n2:Int)),λv _=>(!(ba (aD k.code j)).isSome||!dH t)=false->v=(.int .i64 ((n2:Int)-1)),λv _=>(!(ba (aD k.code j)).isSome||!dH t)=false->v=(.bool (decide ((j:Int)=(n2:Int)-1))),λv _=>(!(ba (aD k.code j)).isSome||!dH t)=false->v=(.bool (rO t !=decide ((j:Int)=(n2:Int)-1))),λv _=>v=(.bool ((!(ba (aD k.code j)).isSome||!dH t)||(rO t !=decide ((j:Int)=(n2:Int)-1))))] de (cX (cX (cX (eV (eV (eV (cX (cX (eV (eV (eV (eV (eV (eV (eV (eV (eV (cX trivial)))))))))))))))))) (λwd aB=>?_) ?_
 refine bN ?_ ?_
 intro x vs cM e bU hd he
 replace bU:=aS.trans aB bU
 replace he:e=aM (aN _ x _) []:=he
 subst he
 refine zm<|ag ?_
 exact dn (aS.refl _) rfl
 refine bN ?_ ?_
 intro x vs cM e bU hd he
 have d0:vs 0=(.bool ((ba (aD k.code j)).isSome)):=hd
 replace bU:=aS.trans aB bU
 replace he:e=aM (aN _ x _) [(75,vs 0)]:=he
 rw[d0] at he
 subst he
 refine eJ rfl<|ag ?_
 exact dn (aS.refl _) rfl
 refine bN ?_ ?_
 intro x vs cM e bU hd he
 have d1:vs 1=(.bool (!(ba (aD k.code j)).isSome)):=hd
 replace bU:=aS.trans aB bU
 replace he:e=aM (aN _ x _) [(76,vs 1)]:=he
 rw[d1] at he
 subst he
 refine zm<|ag ?_
 exact dn (aS.refl _) rfl
 refine bN ?_ ?_
 intro x vs cM e bU hd he
 have d2:vs 2=(.bool (!(ba (aD k.code j)).isSome)):=hd
 replace bU:=aS.trans aB bU
 have iC:=iC.ext bU
 rcases bE (!(ba (aD k.code j)).isSome) with hg|hg
 rw[hg] at d2
 replace he:e=aM (aN _ x _) [(77,vs 2)]:=he
 rw[d2] at he
 subst he
 refine zs<|ag ?_
 exact dn (aS.refl _) (show(!(ba (aD k.code j)).isSome)=false->_=(_:Value) from λhh=>nomatch hg.symm.trans hh)
 rw[hg] at d2
 replace he:e=aM (aN _ x _) [(77,vs 2)]:=he
 rw[d2] at he
 subst he
 refine zL j8 fb rfl iC.all rfl<|ag ?_
 exact dn (aS.refl _) (show(!(ba (aD k.code j)).isSome)=false->_=((.agg #[str t.az,.slice pa t.au.length pc]):Value) from λ_=>rfl)
 refine bN ?_ ?_
 intro x vs cM e bU hd he
 have aR:(vs 2=(.bool (!(ba (aD k.code j)).isSome)))∧((!(ba (aD k.code j)).isSome)=false->vs 3=(.agg #[str t.az,.slice pa t.au.length pc])):=hd
 obtain⟨d2,d3⟩:=aR
 replace bU:=aS.trans aB bU
 have ht:=ht.ext bU
 rcases bE (!(ba (aD k.code j)).isSome) with hg|hg
 rw[hg] at d2
 replace he:e=aM (aN _ x _) [(77,vs 2),(78,vs 3)]:=he
 rw[d2] at he
 subst he
 refine zs<|ag ?_
 exact dn (aS.refl _) (show(!(ba (aD k.code j)).isSome)=false->_=(_:Value) from λhh=>nomatch hg.symm.trans hh)
 rw[hg] at d2
 replace d3:=d3 hg
 replace he:e=aM (aN _ x _) [(77,vs 2),(78,vs 3)]:=he
 rw[d2,d3] at he
 subst he
 refine aC (akK t (dx (by simpa using hg)).2 (dx (by simpa using hg)).1 _ _ cM ht) ?_
 rintro v11 eW ⟨ry,cK⟩
 have CA:=cK.size
 obtain rfl:=ry
 refine ag ?_
 exact dn (aS.of cK) (show(!(ba (aD k.code j)).isSome)=false->_=((.bool (dH t)):Value) from λ_=>rfl)
 refine bN ?_ ?_
 intro x vs cM e bU hd he
 have aR:(vs 2=(.bool (!(ba (aD k.code j)).isSome)))∧((!(ba (aD k.code j)).isSome)=false->vs 4=(.bool (dH t))):=hd
 obtain⟨d2,d4⟩:=aR
 replace bU:=aS.trans aB bU
 rcases bE (!(ba (aD k.code j)).isSome) with hg|hg
 rw[hg] at d2
 replace he:e=aM (aN _ x _) [(77,vs 2),(79,vs 4)]:=he
 rw[d2] at he
 subst he
 refine zs<|ag ?_
 exact dn (aS.refl _) (show(!(ba (aD k.code j)).isSome)=false->_=(_:Value) from λhh=>nomatch hg.symm.trans hh)
 rw[hg] at d2
 replace d4:=d4 hg
 replace he:e=aM (aN _ x _) [(77,vs 2),(79,vs 4)]:=he
 rw[d2,d4] at he
 subst he
 refine eJ rfl<|ag ?_
 exact dn (aS.refl _) (show(!(ba (aD k.code j)).isSome)=false->_=((.bool (!dH t)):Value) from λ_=>rfl)
 refine bN ?_ ?_
 intro x vs cM e bU hd he
 have aR:(vs 2=(.bool (!(ba (aD k.code j)).isSome)))∧((!(ba (aD k.code j)).isSome)=false->vs 5=(.bool (!dH t))):=hd
 obtain⟨d2,d5⟩:=aR
 replace bU:=aS.trans aB bU
 rcases bE (!(ba (aD k.code j)).isSome) with hg|hg
 rw[hg] at d2
 replace he:e=aM (aN _ x _) [(77,vs 2),(80,vs 5)]:=he
 rw[d2] at he
 subst he
 refine zp rfl<|ag ?_
 exact dn (aS.refl _) (by first|rfl|(rw[hg];rfl))
 rw[hg] at d2
 replace d5:=d5 hg
 replace he:e=aM (aN _ x _) [(77,vs 2),(80,vs 5)]:=he
 rw[d2,d5] at he
 subst he
 refine zp rfl<|ag ?_
 exact dn (aS.refl _) (by first|rfl|(rw[hg];rfl))
 refine bN ?_ ?_
 intro x vs cM e bU hd he
 have d6:vs 6=(.bool (!(ba (aD k.code j)).isSome||!dH t)):=hd
 replace bU:=aS.trans aB bU
 replace he:e=aM (aN _ x _) [(81,vs 6)]:=he
 rw[d6] at he
 subst he
 refine zm<|ag ?_
 exact dn (aS.refl _) rfl
 refine bN ?_ ?_
 intro x vs cM e bU hd he
 have d7:vs 7=(.bool (!(ba (aD k.code j)).isSome||!dH t)):=hd
 replace bU:=aS.trans aB bU
 have iC:=iC.ext bU
 rcases bE (!(ba (aD k.code j)).isSome||!dH t) with hg|hg
 rw[hg] at d7
 replace he:e=aM (aN _ x _) [(82,vs 7)]:=he
 rw[d7] at he
 subst he
 refine zs<|ag ?_
 exact dn (aS.refl _) (show(!(ba (aD k.code j)).isSome||!dH t)=false->_=(_:Value) from λhh=>nomatch hg.symm.trans hh)
 rw[hg] at d7
 replace he:e=aM (aN _ x _) [(82,vs 7)]:=he
 rw[d7] at he
 subst he
 refine zL j8 fb rfl iC.all rfl<|ag ?_
 exact dn (aS.refl _) (show(!(ba (aD k.code j)).isSome||!dH t)=false->_=((.agg #[str t.az,.slice pa t.au.length pc]):Value) from λ_=>rfl)
 refine bN ?_ ?_
 intro x vs cM e bU hd he
 have aR:(vs 7=(.bool (!(ba (aD k.code j)).isSome||!dH t)))∧((!(ba (aD k.code j)).isSome||!dH t)=false->vs 8=(.agg #[str t.az,.slice pa t.au.length pc])):=hd
 obtain⟨d7,d8⟩:=aR
 replace bU:=aS.trans aB bU
 have ht:=ht.ext bU
 rcases bE (!(ba (aD k.code j)).isSome||!dH t) with hg|hg
 rw[hg] at d7
 replace he:e=aM (aN _ x _) [(82,vs 7),(83,vs 8)]:=he
 rw[d7] at he
 subst he
 refine zs<|ag ?_
 exact dn (aS.refl _) (show(!(ba (aD k.code j)).isSome||!dH t)=false->_=(_:Value) from λhh=>nomatch hg.symm.trans hh)
 rw[hg] at d7
 replace d8:=d8 hg
 replace he:e=aM (aN _ x _) [(82,vs 7),(83,vs 8)]:=he
 rw[d7,d8] at he
 subst he
 refine aC (akM t (dx (by rw[Bool.or_eq_false_iff] at hg;simpa using hg.1)).1 _ _ cM ht) ?_
 rintro v11 eW ⟨ry,cK⟩
 have CA:=cK.size
 obtain rfl:=ry
 refine ag ?_
 exact dn (aS.of cK) (show(!(ba (aD k.code j)).isSome||!dH t)=false->_=((.bool (rO t)):Value) from λ_=>rfl)
 refine bN ?_ ?_
 intro x vs cM e bU hd he
 have d7:vs 7=(.bool (!(ba (aD k.code j)).isSome||!dH t)):=hd
 replace bU:=aS.trans aB bU
 rcases bE (!(ba (aD k.code j)).isSome||!dH t) with hg|hg
 rw[hg] at d7
 replace he:e=aM (aN _ x _) [(82,vs 7)]:=he
 rw[d7] at he
 subst he
 refine zs<|ag ?_
 exact dn (aS.refl _) (show(!(ba (aD k.code j)).isSome||!dH t)=false->_=(_:Value) from λhh=>nomatch hg.symm.trans hh)
 rw[hg] at d7
 replace he:e=aM (aN _ x _) [(82,vs 7)]:=he
 rw[d7] at he
 subst he
 refine zm<|ag ?_
 exact dn (aS.refl _) (show(!(ba (aD k.code j)).isSome||!dH t)=false->_=((.int .i64 (j:Int)):Value) from λ_=>rfl)
 refine bN ?_ ?_
 intro x vs cM e bU hd he
 have d7:vs 7=(.bool (!(ba (aD k.code j)).isSome||!dH t)):=hd
 replace bU:=aS.trans aB bU
 rcases bE (!(ba (aD k.code j)).isSome||!dH t) with hg|hg
 rw[hg] at d7
 replace he:e=aM (aN _ x _) [(82,vs 7)]:=he
 rw[d7] at he
 subst he
 refine zs<|ag ?_
 exact dn (aS.refl _) (show(!(ba (aD k.code j)).isSome||!dH t)=false->_=(_:Value) from λhh=>nomatch hg.symm.trans hh)
 rw[hg] at d7
 replace he:e=aM (aN _ x _) [(82,vs 7)]:=he
 rw[d7] at he
 subst he
 refine zf mQ rfl<|ag ?_
 exact dn (aS.refl _) (show(!(ba (aD k.code j)).isSome||!dH t)=false->_=((.pointer (some ⟨w.heap.size,0+2,none⟩)):Value) from λ_=>rfl)
 refine bN ?_ ?_
 intro x vs cM e bU hd he
 have aR:(vs 7=(.bool (!(ba (aD k.code j)).isSome||!dH t)))∧((!(ba (aD k.code j)).isSome||!dH t)=false->vs 11=(.pointer (some ⟨w.heap.size,0+2,none⟩))):=hd
 obtain⟨d7,d11⟩:=aR
 replace bU:=aS.trans aB bU
 have aT:=aT.ext bU
 rcases bE (!(ba (aD k.code j)).isSome||!dH t) with hg|hg
 rw[hg] at d7
 replace he:e=aM (aN _ x _) [(82,vs 7),(86,vs 11)]:=he
 rw[d7] at he
 subst he
 refine zs<|ag ?_
 exact dn (aS.refl _) (show(!(ba (aD k.code j)).isSome||!dH t)=false->_=(_:Value) from λhh=>nomatch hg.symm.trans hh)
 rw[hg] at d7
 replace d11:=d11 hg
 replace he:e=aM (aN _ x _) [(82,vs 7),(86,vs 11)]:=he
 rw[d7,d11] at he
 subst he
 refine zl eQ rfl (aT.at rfl)<|ag ?_
 exact dn (aS.refl _) (show(!(ba (aD k.code j)).isSome||!dH t)=false->_=((.slice (some ⟨b,off,none⟩) n2 c2):Value) from λ_=>rfl)
 refine bN ?_ ?_
 intro x vs cM e bU hd he
 have aR:(vs 7=(.bool (!(ba (aD k.code j)).isSome||!dH t)))∧((!(ba (aD k.code j)).isSome||!dH t)=false->vs 12=(.slice (some ⟨b,off,none⟩) n2 c2)):=hd
 obtain⟨d7,d12⟩:=aR
 replace bU:=aS.trans aB bU
 rcases bE (!(ba (aD k.code j)).isSome||!dH t) with hg|hg
 rw[hg] at d7
 replace he:e=aM (aN _ x _) [(82,vs 7),(87,vs 12)]:=he
 rw[d7] at he
 subst he
 refine zs<|ag ?_
 exact dn (aS.refl _) (show(!(ba (aD k.code j)).isSome||!dH t)=false->_=(_:Value) from λhh=>nomatch hg.symm.trans hh)
 rw[hg] at d7
 replace d12:=d12 hg
 replace he:e=aM (aN _ x _) [(82,vs 7),(87,vs 12)]:=he
 rw[d7,d12] at he
 subst he
 refine dX bh rfl<|ag ?_
 exact dn (aS.refl _) (show(!(ba (aD k.code j)).isSome||!dH t)=false->_=((.int .i64 (n2:Int)):Value) from λ_=>rfl)
 refine bN ?_ ?_
 intro x vs cM e bU hd he
 have aR:(vs 7=(.bool (!(ba (aD k.code j)).isSome||!dH t)))∧((!(ba (aD k.code j)).isSome||!dH t)=false->vs 13=(.int .i64 (n2:Int))):=hd
 obtain⟨d7,d13⟩:=aR
 replace bU:=aS.trans aB bU
 rcases bE (!(ba (aD k.code j)).isSome||!dH t) with hg|hg
 rw[hg] at d7
 replace he:e=aM (aN _ x _) [(82,vs 7),(88,vs 13)]:=he
 rw[d7] at he
 subst he
 refine zs<|ag ?_
 exact dn (aS.refl _) (show(!(ba (aD k.code j)).isSome||!dH t)=false->_=(_:Value) from λhh=>nomatch hg.symm.trans hh)
 rw[hg] at d7
 replace d13:=d13 hg
 replace he:e=aM (aN _ x _) [(82,vs 7),(88,vs 13)]:=he
 rw[d7,d13] at he
 subst he
 refine mJ rfl rfl rfl rfl rfl (wrap_i64 _ om om)<|ag ?_
 exact dn (aS.refl _) (show(!(ba (aD k.code j)).isSome||!dH t)=false->_=((.int .i64 ((n2:Int)-1)):Value) from λ_=>rfl)
 refine bN ?_ ?_
 intro x vs cM e bU hd he
 have aR:(vs 7=(.bool (!(ba (aD k.code j)).isSome||!dH t)))∧((!(ba (aD k.code j)).isSome||!dH t)=false->vs 10=(.int .i64 (j:Int)))∧((!(ba (aD k.code j)).isSome||!dH t)=false->vs 14=(.int .i64 ((n2:Int)-1))):=hd
 obtain⟨d7,d10,d14⟩:=aR
 replace bU:=aS.trans aB bU
 rcases bE (!(ba (aD k.code j)).isSome||!dH t) with hg|hg
 rw[hg] at d7
 replace he:e=aM (aN _ x _) [(82,vs 7),(85,vs 10),(89,vs 14)]:=he
 rw[d7] at he
 subst he
 refine zs<|ag ?_
 exact dn (aS.refl _) (show(!(ba (aD k.code j)).isSome||!dH t)=false->_=(_:Value) from λhh=>nomatch hg.symm.trans hh)
 rw[hg] at d7
 replace d10:=d10 hg
 replace d14:=d14 hg
 replace he:e=aM (aN _ x _) [(82,vs 7),(85,vs 10),(89,vs 14)]:=he
 rw[d7,d10,d14] at he
 subst he
 refine dO rfl rfl rfl<|ag ?_
 exact dn (aS.refl _) (show(!(ba (aD k.code j)).isSome||!dH t)=false->_=((.bool (decide ((j:Int)=(n2:Int)-1))):Value) from λ_=>rfl)
 refine bN ?_ ?_
 intro x vs cM e bU hd he
 have aR:(vs 7=(.bool (!(ba (aD k.code j)).isSome||!dH t)))∧((!(ba (aD k.code j)).isSome||!dH t)=false->vs 9=(.bool (rO t)))∧((!(ba (aD k.code j)).isSome||!dH t)=false->vs 15=(.bool (decide ((j:Int)=(n2:Int)-1)))):=hd
 obtain⟨d7,d9,d15⟩:=aR
 replace bU:=aS.trans aB bU
 rcases bE (!(ba (aD k.code j)).isSome||!dH t) with hg|hg
 rw[hg] at d7
 replace he:e=aM (aN _ x _) [(82,vs 7),(84,vs 9),(90,vs 15)]:=he
 rw[d7] at he
 subst he
 refine zs<|ag ?_
 exact dn (aS.refl _) (show(!(ba (aD k.code j)).isSome||!dH t)=false->_=(_:Value) from λhh=>nomatch hg.symm.trans hh)
 rw[hg] at d7
 replace d9:=d9 hg
 replace d15:=d15 hg
 replace he:e=aM (aN _ x _) [(82,vs 7),(84,vs 9),(90,vs 15)]:=he
 rw[d7,d9,d15] at he
 subst he
 refine Ka HB rfl rfl rfl rfl<|ag ?_
 exact dn (aS.refl _) (show(!(ba (aD k.code j)).isSome||!dH t)=false->_=((.bool (rO t !=decide ((j:Int)=(n2:Int)-1))):Value) from λ_=>rfl)
 refine bN ?_ ?_
 intro x vs cM e bU hd he
 have aR:(vs 7=(.bool (!(ba (aD k.code j)).isSome||!dH t)))∧((!(ba (aD k.code j)).isSome||!dH t)=false->vs 16=(.bool (rO t !=decide ((j:Int)=(n2:Int)-1)))):=hd
 obtain⟨d7,d16⟩:=aR
 replace bU:=aS.trans aB bU
 rcases bE (!(ba (aD k.code j)).isSome||!dH t) with hg|hg
 rw[hg] at d7
 replace he:e=aM (aN _ x _) [(82,vs 7),(91,vs 16)]:=he
 rw[d7] at he
 subst he
 refine zp rfl<|ag ?_
 exact dn (aS.refl _) (by first|rfl|(rw[hg];rfl))
 rw[hg] at d7
 replace d16:=d16 hg
 replace he:e=aM (aN _ x _) [(82,vs 7),(91,vs 16)]:=he
 rw[d7,d16] at he
 subst he
 refine zp rfl<|ag ?_
 exact dn (aS.refl _) (by first|rfl|(rw[hg];rfl))
 exact trivial
 intro x vs pe jC bJ
 have d0:vs 0=(.bool ((ba (aD k.code j)).isSome)):=bJ 0 de
 have d1:vs 1=(.bool (!(ba (aD k.code j)).isSome)):=bJ 1 de
 have d2:vs 2=(.bool (!(ba (aD k.code j)).isSome)):=bJ 2 de
 have d3:(!(ba (aD k.code j)).isSome)=false->vs 3=(.agg #[str t.az,.slice pa t.au.length pc]):=bJ 3 de
 have d4:(!(ba (aD k.code j)).isSome)=false->vs 4=(.bool (dH t)):=bJ 4 de
 have d5:(!(ba (aD k.code j)).isSome)=false->vs 5=(.bool (!dH t)):=bJ 5 de
 have d6:vs 6=(.bool (!(ba (aD k.code j)).isSome||!dH t)):=bJ 6 de
 have d7:vs 7=(.bool (!(ba (aD k.code j)).isSome||!dH t)):=bJ 7 de
 have d8:(!(ba (aD k.code j)).isSome||!dH t)=false->vs 8=(.agg #[str t.az,.slice pa t.au.length pc]):=bJ 8 de
 have d9:(!(ba (aD k.code j)).isSome||!dH t)=false->vs 9=(.bool (rO t)):=bJ 9 de
 have d10:(!(ba (aD k.code j)).isSome||!dH t)=false->vs 10=(.int .i64 (j:Int)):=bJ 10 de
 have d11:(!(ba (aD k.code j)).isSome||!dH t)=false->vs 11=(.pointer (some ⟨w.heap.size,0+2,none⟩)):=bJ 11 de
 have d12:(!(ba (aD k.code j)).isSome||!dH t)=false->vs 12=(.slice (some ⟨b,off,none⟩) n2 c2):=bJ 12 de
 have d13:(!(ba (aD k.code j)).isSome||!dH t)=false->vs 13=(.int .i64 (n2:Int)):=bJ 13 de
 have d14:(!(ba (aD k.code j)).isSome||!dH t)=false->vs 14=(.int .i64 ((n2:Int)-1)):=bJ 14 de
 have d15:(!(ba (aD k.code j)).isSome||!dH t)=false->vs 15=(.bool (decide ((j:Int)=(n2:Int)-1))):=bJ 15 de
 have d16:(!(ba (aD k.code j)).isSome||!dH t)=false->vs 16=(.bool (rO t !=decide ((j:Int)=(n2:Int)-1))):=bJ 16 de
 have d17:vs 17=(.bool ((!(ba (aD k.code j)).isSome||!dH t)||(rO t !=decide ((j:Int)=(n2:Int)-1)))):=bJ 17 de
 have hK:=hK.ext jC;have jB:=jB.ext jC;have aT:=aT.ext jC;have aZ:=aZ.ext jC;have aI:=aI.ext jC;have hO:=hO.ext jC;have ht:=ht.ext jC;have iC:=iC.ext jC
 change OW _ _ _ _ [] (aM (aN _ x _) (zZ 75 [vs 0,vs 1,vs 2,vs 3,vs 4,vs 5,vs 6,vs 7,vs 8,vs 9,vs 10,vs 11,vs 12,vs 13,vs 14,vs 15,vs 16,vs 17])) _
 rw[d0,d1,d2,d6,d7,d17]
 refine ag<|zc rfl (λh8=>?_) (λh8=>?_)
 rw[QY mM om hp] at h8
 have hq:=abu (b:=k) (i:=j) om (by simpa using h8)
 refine zr<|j5 (Kt _) rfl rfl<|du mS rfl rfl rfl aZ rfl ?_
 intro oc jl aZ akW
 have hK:=hK.aL jl sx
 refine zA<|ag<|aV ?_
 exact⟨[_,_],⟨gO Bl mS rfl aZ rfl,rfl⟩,Pd hq,hK⟩
 rw[QY mM om hp] at h8
 have mU:sv k.code j=true:=by simpa using h8
 refine bz<|db<|zf PQ rfl<|zl sn rfl (aI.at rfl)<|zL j8 fb rfl iC.all rfl<|gD nK fb rfl rfl ?_
 intro oc jl GM akW
 have hK:=hK.ext jl;have jB:=jB.ext jl;have aT:=aT.ext jl;have aZ:=aZ.ext jl;have aI:=aI.ext jl;have hO:=hO.ext jl;have ht:=ht.ext jl
 refine KZ nK fb rfl rfl rfl rfl rfl rfl hO GM ht.K0 (by rw[HR _ aq];omega) ?_
 intro a3 Hm g3 lO oa ly
 have Wu:=ly.size
 have hK:=ak.QA om hO.low hK ly
 have jB:=hO.since jB ly
 have aT:=aT.aL ly (hO.Qz om);have aZ:=aZ.aL ly (hO.Dk sm);have aI:=aI.aL ly (hO.Dk sm)
 rw[abw mU hp,K9 tr ga] at oa⊢
 refine zf PQ rfl<|gW KG rfl rfl rfl aI rfl ?_
 intro AI oP aI aeF
 have hK:=hK.aL oP sx;have jB:=jB.aL oP sx;have aT:=aT.aL oP sx;have aZ:=aZ.aL oP sx;have oa:=oa.aL oP sx
 refine ag<|db<|eF rfl rfl rfl (wrap_i64 _ om om)<|zm<|ag ?_
 exact⟨(j+1,a3,Hm,g3),⟨rfl,rfl,rfl,rfl,rfl,rfl⟩,⟨hK,jB,aT,aZ,aI,oa.ji (λx hx=>mK _ hx),by dsimp only;omega,by intro i2 hj;rcases Nat.lt_or_ge i2 j with h|h;exact dy i2 h;rw[show i2=j by dsimp only at hj;omega];exact mU⟩,by dsimp only;omega⟩
 have hq:=Qu tu KY (λi hi=>dy i om)
 have hqI:oz k=true:=by unfold oz;rw[hq,oW];rfl
 rw[La tr om] at aI hO
 refine gB<|gC rfl<|zr<|zL Bl mS rfl aI.all rfl<|du mS rfl rfl rfl aZ rfl ?_
 intro w7 cw aZ qg
 have hK:=hK.aL cw sx;have jB:=jB.aL cw sx;have hO:=hO.aL cw sx
 refine zA<|ag<|aV ?_
 exact⟨[_,_],⟨gO Bl mS rfl aZ rfl,rfl⟩,⟨fT k,_,by rw[hqI];rfl,Lc (l:=k.aP) ((Nz.aL jB sm).ji (λx hx=>by simp[hx])) (hO.trees.ji (λx hx=>by simp[hx])),λ_=>rfl⟩,hK⟩
theorem akY (k:gz) (l:aj) (b1:Nat) (v:Value) (L:List Nat) (w:World) (hv:nO L w v k) (aT:aY w b1 [str l].toArray 9):
  cj Tryz.prog 54 [v,.pointer (some ⟨b1,0,none⟩)] w λr w'=>r= .bool (decide (k.aP=l))∧ak [] w w':=by
 obtain⟨a1,c1,a2,c2,rfl,cU,cS⟩:=Q2 hv
 have hK:=ak.refl [] w
 refine cV [.tmp 3] 8 Tryz.func54 rfl Zc rfl rfl ?_
 refine zr<|fE rfl ?_
 intro w1 aK aZ dY
 have hK:=hK.ext aK;have aT:=aT.ext aK
 refine zA<|ag<|zr<|zf KC rfl<|zl ck rfl (aZ.at rfl)<|zl ck rfl (aT.at rfl)<|cW rfl rfl<|zA<|ag<|aV ?_
 exact⟨_,rfl,rfl,hK⟩
theorem akZ (ps:List gz) (hlen:ps.length<1000000000) (g:gz->Bool) (f:FuncId) (caps:List Value) (v:Value) (L:List Nat) (w:World) (hv:sy L w v ps) 
  (hf:∀i,i<ps.length->∀(u:Value) (w':World),ak [] w w'->nO L w' u (wa ps i)->cj Tryz.prog f (u::caps) w' λr w''=>r= .bool (g (wa ps i))∧ak [] w' w''):
  cj Tryz.prog 53 [v,.func (.func f) #[] caps.toArray] w λr w'=>r= .int .i64 (Fc ps g)∧ak [] w w':=by
 obtain⟨a,c,rfl⟩:=abD hv
 have hK:=ak.refl [] w
 refine cV [.tmp 4] 19 Tryz.func53 rfl Zb rfl rfl ?_
 refine zr<|zA<|ag<|aQ<|zr<|zm<|dX Db rfl<|zm<|ag<|cQ ?_
 refine fW (λk:Nat=>[(0,.slice a ps.length c),(1,.func (.func f) #[] caps.toArray),(7,.int .i64 (ps.length:Int)),(8,.int .i64 (k:Int))]) (λk w'=>ak [] w w'∧k<=ps.length∧∀i,i<k->g (wa ps i)=false) (λk=>ps.length-k) (0) (⟨rfl,rfl,rfl,rfl⟩) (⟨hK,om,by intro i hi;omega⟩) ?_
 intro gg w1 e1 hI
 obtain⟨hK,hk,dy⟩:=hI
 have hv:=hv.ext hK
 refine zr<|fy rfl rfl rfl<|ag<|aQ<|zc rfl (λh1=>?_) (λh1=>?_)
 have hp:=QZ (ps:=ps) (i:=gg) om
 obtain⟨b,off,a1,c1,a2,c2,rfl,hc,qi,uI⟩:=Q4 hv hp
 refine bz<|aQ<|cQ<|zr<|zm<|zA<|ag<|zr<|zm<|zm<|zm<|zi Db mS rfl rfl om<|zL Bl mS rfl hc rfl<|PG rfl rfl rfl (hf gg om _ w1 hK (Lc qi uI)) ?_
 rintro v2 w2 ⟨dA,aq⟩
 have eE:=aq.size
 have hK:=hK.ext aq
 obtain rfl:=dA
 refine ag<|zc rfl (λh2=>?_) (λh2=>?_)
 have hq:=abx om dy h2
 refine zr<|zm<|zA<|ag<|aV ?_
 exact⟨_,rfl,by rw[hq];rfl,hK⟩
 refine bz<|db<|eF rfl rfl rfl (wrap_i64 _ om om)<|zm<|ag ?_
 exact⟨gg+1,⟨rfl,rfl,rfl,rfl⟩,⟨hK,om,by intro i hi;rcases Nat.lt_or_ge i gg with h|h;exact dy i h;rw[show i=gg by omega];exact h2⟩,om⟩
 have hq:=aby (λi hi=>dy i om)
 refine gB<|gC rfl<|zr<|zA<|ag<|aV ?_
 exact⟨_,rfl,by rw[hq];rfl,hK⟩
theorem Wv (ps:List gz) (hlen:ps.length<1000000000) (l:aj) (v:Value) (L:List Nat) (w:World) (hv:sy L w v ps):
  cj Tryz.prog 27 [v,str l] w λr w'=>r= .int .i64 (zP ps l)∧ak [] w w':=by
 have hK:=ak.refl [] w
 refine cV [.tmp 4] 8 Tryz.func27 rfl YV rfl rfl ?_
 refine zr<|Kb rfl rfl rfl ?_
 intro w1 aK bR dY
 have hK:=hK.ext aK;have hv:=hv.ext aK
 refine zA<|ag<|zr<|zm<|PF (vs:=[.pointer (some ⟨w.heap.size,0,none⟩)]) rfl rfl rfl<|aC (akZ ps hlen (λb=>decide (b.aP=l)) 54 [.pointer (some ⟨w.heap.size,0,none⟩)] _ L w1 hv (λi hi u w' k hu=>akY (wa ps i) l _ _ L _ hu (bR.ext k))) ?_
 rintro v2 w2 ⟨dA,aq⟩
 have eE:=aq.size
 have hK:=hK.ext aq
 obtain rfl:=dA
 refine zA<|ag<|aV ?_
 exact⟨_,rfl,rfl,hK⟩
def ak0 (L:List Nat) (bs:List Bk) (v:Value) (w:World):Prop:=∃ps pv,v= .tuple #[pv,.bool (tw bs)]∧sy L w pv ps∧(tw bs=true->ps=bs.map fT)
theorem ak1 (bs:List Bk) (hb:By bs) (v:Value) (Li L:List Nat) (w:World) (hv:km Li w v bs) (hL:∀x,x∈L->x<w.heap.size):
  cj Tryz.prog 26 [v] w λr w'=>ak0 L bs r w'∧ak [] w w':=by
 obtain⟨a,n,c,rfl,hn⟩:=Bu hv
 have hK:=ak.refl [] w
 have iE:=hb.1
 refine cV [.tmp 2,.tmp 3] 52 Tryz.func26 rfl YU rfl rfl ?_
 refine zr<|zA<|zA<|ag<|aQ<|zr<|zm<|dX iL rfl<|aC (J2 _ _ _ _) ?_
 rintro _ _ ⟨rfl,rfl⟩
 refine eJ rfl<|ag<|zc rfl (λh1=>?_) (λh1=>?_)
 have hq:tw bs=false:=abC (λh=>by rw[dT (p:=(1:Int)<=(n:Int)) om,dT (p:=(n:Int)<=40) om] at h1;exact absurd h1 de)
 refine zr<|zA<|zA<|ag<|aV ?_
 exact⟨_,rfl,⟨[],_,by rw[hq];rfl,Q3,by rw[hq];intro h;cases h⟩,hK⟩
 have Ww:1<=bs.length∧bs.length<=40:=by have:=h1;simp only[aE,dE] at this;omega
 refine bz<|zr<|zA<|ag<|aQ<|zr<|zm<|dX iL rfl<|zm<|ag<|cQ ?_
 refine fW (λq:Nat×Option Addr×Nat×Option Nat=>[(0,.slice a n c),(4,.slice q.2.1 ((bs.take q.1).map fT).length q.2.2.1),(13,.slice a n c),(14,.int .i64 (n:Int)),(15,.int .i64 (q.1:Int))]) (λq w'=>ak [] w w'∧Gr w.heap.size L w' 53 3 (.slice q.2.1 ((bs.take q.1).map fT).length q.2.2.1) q.2.2.2 (((bs.take q.1).map fT).map gz.enc)∧q.1<=bs.length∧∀i,i<q.1->oz (bB bs i)=true∧j9 bs (bB bs i).aP=i) (λq=>bs.length-q.1) ((0,none,0,none)) (⟨rfl,rfl,rfl,rfl,rfl⟩) (⟨hK,Gr.nil hL om,sm,by intro i hi;simp at hi⟩) ?_
 intro gg w1 e1 hI
 obtain⟨i,a1,cc,g⟩:=gg
 dsimp only at hI⊢
 obtain⟨hK,hO,hk,dy⟩:=hI
 have iW:=hK.size
 refine zr<|fy rfl rfl rfl<|ag<|aQ<|zc rfl (λh2=>?_) (λh2=>?_)
 have ga:=su (bs:=bs) (i:=i) om
 obtain⟨b,off,ra,rn,rc,ca,cn,c3,rfl,hc,ri,wY,dQ,eE⟩:=Bv hv ga
 have qT:=hb.2 i om
 refine bz<|aQ<|cQ<|zr<|zi iL gR rfl rfl om<|zL Bj gR rfl (hc.ext hK) rfl<|eA gR rfl rfl rfl ?_
 intro w2 aq bQ eM
 have hK:=hK.grow;have hK:=hK.ext aq;have hO:=hO.alloc aq eM
 refine du gR rfl rfl rfl bQ rfl ?_
 intro w3 aJ bQ iH
 have hK:=hK.aL aJ sx;have hO:=hO.aL aJ sx
 refine ag<|zr<|zL Bj gR rfl bQ.all rfl<|aC (akV (bB bs i) qT.1 qT.2.1 qT.2.2 _ _ (g.toList++(w1.heap.size::L)) w3 (qS.ext (Di dQ eE) hK) hO.all) ?_
 rintro v4 w4 ⟨eH,aF⟩
 have gI:=aF.size
 have hK:=hK.ext aF;have hO:=hO.ext aF
 obtain⟨ib,bv,rfl,ht,hp⟩:=eH
 obtain⟨b1a,b1c,b2a,b2c,rfl,_,_⟩:=Q2 ht
 refine zm<|zx (i:=0) rfl rfl<|zx (i:=1) rfl rfl<|eA mS rfl rfl rfl ?_
 intro w5 aU cG jo
 have hK:=hK.grow;have hK:=hK.ext aU;have hO:=hO.alloc aU jo;have ht:=ht.grow;have ht:=ht.ext aU
 refine du mS rfl rfl rfl cG rfl ?_
 intro w6 bF cG lG
 have hK:=hK.aL bF sx;have hO:=hO.aL bF sx;have ht:=ht.aL bF sx
 refine zA<|ag<|aQ<|zr<|zm<|eJ rfl<|zm ?_
 apply fz 6 26 32 [26,27,28,29,30,31,32] (ak [] w6) rfl
 intro h3
 replace h3:=bw h3
 have Hn:=ak.refl [] w6
 refine zs<|zs<|zs<|zs<|zs<|zp rfl<|ag ?_
 exact mg rfl Hn
 intro h3
 replace h3:=bw h3
 have Hn:=ak.refl [] w6
 have A2:oz (bB bs i)=true:=by simpa using h3
 have hib:=hp A2
 subst hib
 refine zm<|zf KC rfl<|zl ck rfl (cG.at rfl)<|aC (Wv ((bs.take i).map fT) (by rw[HR _ hk];omega) (bB bs i).aP _ L w6 (hO.prog.ji (λx hx=>by simp[hx]))) ?_
 rintro v7 w7 ⟨iT,cw⟩
 have pb:=cw.size
 have Hn:=Hn.ext cw
 obtain rfl:=iT
 refine lX rfl rfl rfl rfl rfl<|zp rfl<|ag ?_
 exact mg rfl Hn
 intro xx w8 cu
 have hK:=hK.ext cu;have hO:=hO.ext cu;have ht:=ht.ext cu;have cG:=cG.ext cu
 refine ag<|zc rfl (λh4=>?_) (λh4=>?_)
 have hq:tw bs=false:=abA (i:=i) om (by simp only[oE,Bool.not_eq_true'] at h4;rcases h4 with h|h;exact .inl h;rw[Q0 om] at h;exact .inr (of_decide_eq_true h))
 refine zr<|zA<|zA<|ag<|aV ?_
 exact⟨_,rfl,⟨[],_,by rw[hq];rfl,Q3,by rw[hq];intro h;cases h⟩,hK⟩
 have A2:oz (bB bs i)=true∧j9 bs (bB bs i).aP=i:=by simp only[Bool.or_eq_false_iff,Bool.not_eq_false'] at h4;rw[Q0 om] at h4;exact⟨h4.1,Classical.byContradiction (of_decide_eq_false h4.2)⟩
 refine bz<|db<|zm<|zL Bl mS rfl cG.all rfl<|gD Db mS rfl rfl ?_
 intro w9 aG ak3 dN
 have hK:=hK.ext aG;have hO:=hO.ext aG;have ht:=ht.ext aG
 refine abE Db mS rfl rfl rfl rfl rfl rfl hO ak3 (ht.ji (λx hx=>by simp at hx⊢;rcases hx with h|h|h<;>simp[h])) (by rw[HR _ hk];omega) ?_
 intro a3 Hm g3 cM oa bU
 have Wu:=bU.size
 have hK:=hO.since hK bU
 rw[hp A2.1,K9 fT ga] at oa⊢
 refine zA<|ag<|db<|eF rfl rfl rfl (wrap_i64 _ om om)<|zm<|ag ?_
 exact⟨(i+1,a3,Hm,g3),⟨rfl,rfl,rfl,rfl,rfl⟩,⟨hK,oa.ji (λx hx=>by simp[hx]),by dsimp only;omega,by intro i2 hj;rcases Nat.lt_or_ge i2 i with h|h;exact dy i2 h;rw[show i2=i by dsimp only at hj;omega];exact A2⟩,by dsimp only;omega⟩
 have hq:=abB (λj hj=>dy j om)
 rw[La fT om] at hO⊢
 obtain⟨b,off,r1,J3,r2,rc2,rfl,hc,cU,cS⟩:=Q4 hO.prog (QZ (ps:=bs.map fT) (i:=0) so)
 have e0:wa (bs.map fT) 0=fT (bB bs 0):=by simp[gE (show 0<bs.length by omega)]
 rw[e0] at hc cU cS
 refine gB<|gC rfl<|aQ ?_
 refine qf ei aS 16 (rA 38 14++[2,3]) (rA 38 14++[2,3]) [[],[],[1],[2],[3],[4],[5],[6],[6,7],[6,8],[6,9],[6,10],[6,11],[6,12],[0],[13]] [λv _=>v=(.slice (some ⟨b,off,none⟩) (bs.map fT).length cc),λv _=>v=(.slice (some ⟨b,off,none⟩) (bs.map fT).length cc),λv _=>v=(.pointer (some ⟨b,off+0*3,none⟩)),λv _=>v=(.pointer (some ⟨b,off+0*3+0,none⟩)),λv _=>v=(str (bB bs 0).aP),λv _=>v=(.bool (decide ((bB bs 0).aP=[109,97,105,110]))),λv _=>v=(.bool (decide ((bB bs 0).aP=[109,97,105,110]))),λv _=>(decide ((bB bs 0).aP=[109,97,105,110]))=true->v=(.slice (some ⟨b,off,none⟩) (bs.map fT).length cc),λv _=>(decide ((bB bs 0).aP=[109,97,105,110]))=true->v=(.pointer (some ⟨b,off+0*3,none⟩)),λv _=>(decide ((bB bs 0).aP=[109,97,105,110]))=true->v=(.pointer (some ⟨b,off+0*3+1,none⟩)),λv _=>(decide ((bB bs 0).aP=[109,97,105,110]))=true->v=(.slice r1 (fT (bB bs 0)).regs.length J3),λv _=>(decide ((bB bs 0).aP=[109,97,105,110]))=true->v=(.int .i64 ((fT (bB bs 0)).regs.length:Int)),λv _=>(decide ((bB bs 0).aP=[109,97,105,110]))=true->v=(.bool (decide (((fT (bB bs 0)).regs.length:Int)=0))),λv _=>v=(.bool (decide ((bB bs 0).aP=[109,97,105,110])&&decide (((fT (bB bs 0)).regs.length:Int)=0))),λv _=>v=(.slice (some ⟨b,off,none⟩) (bs.map fT).length cc),λv _=>v=(.bool (decide ((bB bs 0).aP=[109,97,105,110])&&decide (((fT (bB bs 0)).regs.length:Int)=0)))] de (cX (cX (cX (cX (cX (cX (cX (eV (eV (eV (eV (eV (eV (cX (cX (cX trivial)))))))))))))))) (λwd aB=>?_) ?_
 refine bN ?_ ?_
 intro x vs w2 e aq hd he
 replace aq:=aS.trans aB aq
 replace he:e=aM (aN _ x _) []:=he
 subst he
 refine zm<|ag ?_
 exact dn (aS.refl _) rfl
 refine bN ?_ ?_
 intro x vs w2 e aq hd he
 replace aq:=aS.trans aB aq
 replace he:e=aM (aN _ x _) []:=he
 subst he
 refine zm<|ag ?_
 exact dn (aS.refl _) rfl
 refine bN ?_ ?_
 intro x vs w2 e aq hd he
 have d1:vs 1=(.slice (some ⟨b,off,none⟩) (bs.map fT).length cc):=hd
 replace aq:=aS.trans aB aq
 replace he:e=aM (aN _ x _) [(39,vs 1)]:=he
 rw[d1] at he
 subst he
 refine zi (i:=0) Db mS rfl rfl so<|ag ?_
 exact dn (aS.refl _) rfl
 refine bN ?_ ?_
 intro x vs w2 e aq hd he
 have d2:vs 2=(.pointer (some ⟨b,off+0*3,none⟩)):=hd
 replace aq:=aS.trans aB aq
 replace he:e=aM (aN _ x _) [(40,vs 2)]:=he
 rw[d2] at he
 subst he
 refine zf KC rfl<|ag ?_
 exact dn (aS.refl _) rfl
 refine bN ?_ ?_
 intro x vs w2 e aq hd he
 have d3:vs 3=(.pointer (some ⟨b,off+0*3+0,none⟩)):=hd
 replace aq:=aS.trans aB aq
 have hc:=hc.ext aq
 replace he:e=aM (aN _ x _) [(41,vs 3)]:=he
 rw[d3] at he
 subst he
 refine zl ck rfl (hc 0 _ rfl)<|ag ?_
 exact dn (aS.refl _) rfl
 refine bN ?_ ?_
 intro x vs w2 e aq hd he
 have d4:vs 4=(str (bB bs 0).aP):=hd
 replace aq:=aS.trans aB aq
 replace he:e=aM (aN _ x _) [(42,vs 4)]:=he
 rw[d4] at he
 subst he
 refine cW rfl rfl<|ag ?_
 exact dn (aS.refl _) rfl
 refine bN ?_ ?_
 intro x vs w2 e aq hd he
 have d5:vs 5=(.bool (decide ((bB bs 0).aP=[109,97,105,110]))):=hd
 replace aq:=aS.trans aB aq
 replace he:e=aM (aN _ x _) [(43,vs 5)]:=he
 rw[d5] at he
 subst he
 refine zm<|ag ?_
 exact dn (aS.refl _) rfl
 refine bN ?_ ?_
 intro x vs w2 e aq hd he
 have d6:vs 6=(.bool (decide ((bB bs 0).aP=[109,97,105,110]))):=hd
 replace aq:=aS.trans aB aq
 rcases bE (decide ((bB bs 0).aP=[109,97,105,110])) with hg|hg
 rw[hg] at d6
 replace he:e=aM (aN _ x _) [(44,vs 6)]:=he
 rw[d6] at he
 subst he
 refine zm<|ag ?_
 exact dn (aS.refl _) (show(decide ((bB bs 0).aP=[109,97,105,110]))=true->_=((.slice (some ⟨b,off,none⟩) (bs.map fT).length cc):Value) from λ_=>rfl)
 rw[hg] at d6
 replace he:e=aM (aN _ x _) [(44,vs 6)]:=he
 rw[d6] at he
 subst he
 refine zs<|ag ?_
 exact dn (aS.refl _) (show(decide ((bB bs 0).aP=[109,97,105,110]))=true->_=(_:Value) from λhh=>nomatch hg.symm.trans hh)
 refine bN ?_ ?_
 intro x vs w2 e aq hd he
 have aR:(vs 6=(.bool (decide ((bB bs 0).aP=[109,97,105,110]))))∧((decide ((bB bs 0).aP=[109,97,105,110]))=true->vs 7=(.slice (some ⟨b,off,none⟩) (bs.map fT).length cc)):=hd
 obtain⟨d6,d7⟩:=aR
 replace aq:=aS.trans aB aq
 rcases bE (decide ((bB bs 0).aP=[109,97,105,110])) with hg|hg
 rw[hg] at d6
 replace d7:=d7 hg
 replace he:e=aM (aN _ x _) [(44,vs 6),(45,vs 7)]:=he
 rw[d6,d7] at he
 subst he
 refine zi (i:=0) Db mS rfl rfl so<|ag ?_
 exact dn (aS.refl _) (show(decide ((bB bs 0).aP=[109,97,105,110]))=true->_=((.pointer (some ⟨b,off+0*3,none⟩)):Value) from λ_=>rfl)
 rw[hg] at d6
 replace he:e=aM (aN _ x _) [(44,vs 6),(45,vs 7)]:=he
 rw[d6] at he
 subst he
 refine zs<|ag ?_
 exact dn (aS.refl _) (show(decide ((bB bs 0).aP=[109,97,105,110]))=true->_=(_:Value) from λhh=>nomatch hg.symm.trans hh)
 refine bN ?_ ?_
 intro x vs w2 e aq hd he
 have aR:(vs 6=(.bool (decide ((bB bs 0).aP=[109,97,105,110]))))∧((decide ((bB bs 0).aP=[109,97,105,110]))=true->vs 8=(.pointer (some ⟨b,off+0*3,none⟩))):=hd
 obtain⟨d6,d8⟩:=aR
 replace aq:=aS.trans aB aq
 rcases bE (decide ((bB bs 0).aP=[109,97,105,110])) with hg|hg
 rw[hg] at d6
 replace d8:=d8 hg
 replace he:e=aM (aN _ x _) [(44,vs 6),(46,vs 8)]:=he
 rw[d6,d8] at he
 subst he
 refine zf KD rfl<|ag ?_
 exact dn (aS.refl _) (show(decide ((bB bs 0).aP=[109,97,105,110]))=true->_=((.pointer (some ⟨b,off+0*3+1,none⟩)):Value) from λ_=>rfl)
 rw[hg] at d6
 replace he:e=aM (aN _ x _) [(44,vs 6),(46,vs 8)]:=he
 rw[d6] at he
 subst he
 refine zs<|ag ?_
 exact dn (aS.refl _) (show(decide ((bB bs 0).aP=[109,97,105,110]))=true->_=(_:Value) from λhh=>nomatch hg.symm.trans hh)
 refine bN ?_ ?_
 intro x vs w2 e aq hd he
 have aR:(vs 6=(.bool (decide ((bB bs 0).aP=[109,97,105,110]))))∧((decide ((bB bs 0).aP=[109,97,105,110]))=true->vs 9=(.pointer (some ⟨b,off+0*3+1,none⟩))):=hd
 obtain⟨d6,d9⟩:=aR
 replace aq:=aS.trans aB aq
 have hc:=hc.ext aq
 rcases bE (decide ((bB bs 0).aP=[109,97,105,110])) with hg|hg
 rw[hg] at d6
 replace d9:=d9 hg
 replace he:e=aM (aN _ x _) [(44,vs 6),(47,vs 9)]:=he
 rw[d6,d9] at he
 subst he
 refine zl sn rfl (hc 1 _ rfl)<|ag ?_
 exact dn (aS.refl _) (show(decide ((bB bs 0).aP=[109,97,105,110]))=true->_=((.slice r1 (fT (bB bs 0)).regs.length J3):Value) from λ_=>rfl)
 rw[hg] at d6
 replace he:e=aM (aN _ x _) [(44,vs 6),(47,vs 9)]:=he
 rw[d6] at he
 subst he
 refine zs<|ag ?_
 exact dn (aS.refl _) (show(decide ((bB bs 0).aP=[109,97,105,110]))=true->_=(_:Value) from λhh=>nomatch hg.symm.trans hh)
 refine bN ?_ ?_
 intro x vs w2 e aq hd he
 have aR:(vs 6=(.bool (decide ((bB bs 0).aP=[109,97,105,110]))))∧((decide ((bB bs 0).aP=[109,97,105,110]))=true->vs 10=(.slice r1 (fT (bB bs 0)).regs.length J3)):=hd
 obtain⟨d6,d10⟩:=aR
 replace aq:=aS.trans aB aq
 rcases bE (decide ((bB bs 0).aP=[109,97,105,110])) with hg|hg
 rw[hg] at d6
 replace d10:=d10 hg
 replace he:e=aM (aN _ x _) [(44,vs 6),(48,vs 10)]:=he
 rw[d6,d10] at he
 subst he
 refine dX nK rfl<|ag ?_
 exact dn (aS.refl _) (show(decide ((bB bs 0).aP=[109,97,105,110]))=true->_=((.int .i64 ((fT (bB bs 0)).regs.length:Int)):Value) from λ_=>rfl)
 rw[hg] at d6
 replace he:e=aM (aN _ x _) [(44,vs 6),(48,vs 10)]:=he
 rw[d6] at he
 subst he
 refine zs<|ag ?_
 exact dn (aS.refl _) (show(decide ((bB bs 0).aP=[109,97,105,110]))=true->_=(_:Value) from λhh=>nomatch hg.symm.trans hh)
 refine bN ?_ ?_
 intro x vs w2 e aq hd he
 have aR:(vs 6=(.bool (decide ((bB bs 0).aP=[109,97,105,110]))))∧((decide ((bB bs 0).aP=[109,97,105,110]))=true->vs 11=(.int .i64 ((fT (bB bs 0)).regs.length:Int))):=hd
 obtain⟨d6,d11⟩:=aR
 replace aq:=aS.trans aB aq
 rcases bE (decide ((bB bs 0).aP=[109,97,105,110])) with hg|hg
 rw[hg] at d6
 replace d11:=d11 hg
 replace he:e=aM (aN _ x _) [(44,vs 6),(49,vs 11)]:=he
 rw[d6,d11] at he
 subst he
 refine dO rfl rfl rfl<|ag ?_
 exact dn (aS.refl _) (show(decide ((bB bs 0).aP=[109,97,105,110]))=true->_=((.bool (decide (((fT (bB bs 0)).regs.length:Int)=0))):Value) from λ_=>rfl)
 rw[hg] at d6
 replace he:e=aM (aN _ x _) [(44,vs 6),(49,vs 11)]:=he
 rw[d6] at he
 subst he
 refine zs<|ag ?_
 exact dn (aS.refl _) (show(decide ((bB bs 0).aP=[109,97,105,110]))=true->_=(_:Value) from λhh=>nomatch hg.symm.trans hh)
 refine bN ?_ ?_
 intro x vs w2 e aq hd he
 have aR:(vs 6=(.bool (decide ((bB bs 0).aP=[109,97,105,110]))))∧((decide ((bB bs 0).aP=[109,97,105,110]))=true->vs 12=(.bool (decide (((fT (bB bs 0)).regs.length:Int)=0)))):=hd
 obtain⟨d6,d12⟩:=aR
 replace aq:=aS.trans aB aq
 rcases bE (decide ((bB bs 0).aP=[109,97,105,110])) with hg|hg
 rw[hg] at d6
 replace d12:=d12 hg
 replace he:e=aM (aN _ x _) [(44,vs 6),(50,vs 12)]:=he
 rw[d6,d12] at he
 subst he
 refine zp rfl<|ag ?_
 exact dn (aS.refl _) (by first|rfl|(rw[hg];rfl))
 rw[hg] at d6
 replace he:e=aM (aN _ x _) [(44,vs 6),(50,vs 12)]:=he
 rw[d6] at he
 subst he
 refine zp rfl<|ag ?_
 exact dn (aS.refl _) (by first|rfl|(rw[hg];rfl))
 refine bN ?_ ?_
 intro x vs w2 e aq hd he
 have d0:vs 0=(.slice (some ⟨b,off,none⟩) (bs.map fT).length cc):=hd
 replace aq:=aS.trans aB aq
 replace he:e=aM (aN _ x _) [(38,vs 0)]:=he
 rw[d0] at he
 subst he
 refine zA<|ag ?_
 exact dn (aS.refl _) rfl
 refine bN ?_ ?_
 intro x vs w2 e aq hd he
 have d13:vs 13=(.bool (decide ((bB bs 0).aP=[109,97,105,110])&&decide (((fT (bB bs 0)).regs.length:Int)=0))):=hd
 replace aq:=aS.trans aB aq
 replace he:e=aM (aN _ x _) [(51,vs 13)]:=he
 rw[d13] at he
 subst he
 refine zA<|ag ?_
 exact dn (aS.refl _) rfl
 exact trivial
 intro x vs pS iA bJ
 have d0:vs 0=(.slice (some ⟨b,off,none⟩) (bs.map fT).length cc):=bJ 0 de
 have d1:vs 1=(.slice (some ⟨b,off,none⟩) (bs.map fT).length cc):=bJ 1 de
 have d2:vs 2=(.pointer (some ⟨b,off+0*3,none⟩)):=bJ 2 de
 have d3:vs 3=(.pointer (some ⟨b,off+0*3+0,none⟩)):=bJ 3 de
 have d4:vs 4=(str (bB bs 0).aP):=bJ 4 de
 have d5:vs 5=(.bool (decide ((bB bs 0).aP=[109,97,105,110]))):=bJ 5 de
 have d6:vs 6=(.bool (decide ((bB bs 0).aP=[109,97,105,110]))):=bJ 6 de
 have d7:(decide ((bB bs 0).aP=[109,97,105,110]))=true->vs 7=(.slice (some ⟨b,off,none⟩) (bs.map fT).length cc):=bJ 7 de
 have d8:(decide ((bB bs 0).aP=[109,97,105,110]))=true->vs 8=(.pointer (some ⟨b,off+0*3,none⟩)):=bJ 8 de
 have d9:(decide ((bB bs 0).aP=[109,97,105,110]))=true->vs 9=(.pointer (some ⟨b,off+0*3+1,none⟩)):=bJ 9 de
 have d10:(decide ((bB bs 0).aP=[109,97,105,110]))=true->vs 10=(.slice r1 (fT (bB bs 0)).regs.length J3):=bJ 10 de
 have d11:(decide ((bB bs 0).aP=[109,97,105,110]))=true->vs 11=(.int .i64 ((fT (bB bs 0)).regs.length:Int)):=bJ 11 de
 have d12:(decide ((bB bs 0).aP=[109,97,105,110]))=true->vs 12=(.bool (decide (((fT (bB bs 0)).regs.length:Int)=0))):=bJ 12 de
 have d13:vs 13=(.bool (decide ((bB bs 0).aP=[109,97,105,110])&&decide (((fT (bB bs 0)).regs.length:Int)=0))):=bJ 13 de
 have d14:vs 14=(.slice (some ⟨b,off,none⟩) (bs.map fT).length cc):=bJ 14 de
 have d15:vs 15=(.bool (decide ((bB bs 0).aP=[109,97,105,110])&&decide (((fT (bB bs 0)).regs.length:Int)=0))):=bJ 15 de
 have hK:=hK.ext iA;have hO:=hO.ext iA
 change OW _ _ _ _ [] (aM (aN _ x _) (zZ 38 [vs 0,vs 1,vs 2,vs 3,vs 4,vs 5,vs 6,vs 7,vs 8,vs 9,vs 10,vs 11,vs 12,vs 13]++[(2,vs 14),(3,vs 15)])) _
 rw[d0,d1,d2,d3,d4,d5,d6,d13,d14,d15]
 refine ag<|aV<|⟨_,rfl,⟨bs.map fT,_,?_,hO.prog.ji (λx hx=>by simp[hx]),λ_=>rfl⟩,hK⟩
 rw[hq,dT Ww.1,dT Ww.2,show decide (((fT (bB bs 0)).regs.length:Int)=0)=decide ((bB bs 0).cN.length=0) from decide_eq_decide.2 (by have:(fT (bB bs 0)).regs.length=(bB bs 0).cN.length:=List.length_map _;omega)]
 rfl
theorem ak4 (h:∀b,b∈bs->b.aP.length<=12000):tw bs=jL bs:=by
 unfold tw
 rw[show bs.all zN=true from List.all_eq_true.2 λb hb=>dT (h b hb),Bool.and_true]
theorem ak5 (bs:List Bk) (l:aj):zP (bs.map fT) l=j9 bs l:=by
 unfold zP j9
 rw[List.findIdx?_map]
 rfl
def vO (bs:List Bk) (l:aj):Int:=if jL bs=true then j9 bs l else -1
theorem ak6 (bs:List Bk) (hb:By bs) (hl:∀b,b∈bs->b.aP.length<=12000) (l:aj) (v:Value) (Li:List Nat) (w:World) (hv:km Li w v bs):
  cj Tryz.prog 8 [v,str l] w λr w'=>r= .int .i64 (vO bs l)∧ak [] w w':=by
 have hK:=ak.refl [] w
 have hI:=ak4 hl
 have iE:=hb.1
 refine cV [.tmp 4] 17 Tryz.func8 rfl Zt rfl rfl ?_
 refine zr<|zA<|ag<|zr<|zm<|aC (ak1 bs hb _ Li [] w hv sm) ?_
 rintro v1 w1 ⟨fM,aK⟩
 have dQ:=aK.size
 have hK:=hK.ext aK
 obtain⟨ps,pv,rfl,hp,yl⟩:=fM
 refine zm<|zx (i:=0) rfl rfl<|zx (i:=1) rfl rfl<|zA<|zA<|ag<|aQ<|zr<|zm<|eJ rfl<|ag<|zc rfl (λh1=>?_) (λh1=>?_)
 have hq:jL bs=false:=(by rw[hI] at h1;simpa using h1)
 refine zr<|zA<|ag<|aV ?_
 exact⟨_,rfl,by unfold vO;rw[hq];rfl,hK⟩
 have hq:jL bs=true:=(by rw[hI] at h1;simpa using h1)
 have bc:=yl (hI.trans hq)
 subst bc
 refine bz<|zr<|zm<|zm<|aC (Wv (bs.map fT) (by simpa using iE) l _ [] w1 hp) ?_
 rintro v2 w2 ⟨dA,aq⟩
 have eE:=aq.size
 have hK:=hK.ext aq
 obtain rfl:=dA
 refine zA<|ag<|aV ?_
 exact⟨_,rfl,by unfold vO;rw[hq,ak5];rfl,hK⟩
theorem ak7 (bs:List Bk) (hb:By bs) (l:aj) (v:Value) (L:List Nat) (w:World) (hv:km L w v bs):
  cj Tryz.prog 9 [v,str l] w λr w'=>r= .int .i64 (vO bs l)∧ak [] w w':=by
 have hK:=ak.refl [] w
 have iE:=hb.1
 refine cV [.tmp 4] 11 Tryz.func9 rfl ZD rfl rfl ?_
 refine zr<|zA<|ag<|aQ<|zr<|zm<|aC (Qy bs hb _ _ w hv) ?_
 rintro v1 w1 ⟨fM,aK⟩
 have dQ:=aK.size
 have hK:=hK.ext aK;have hv:=hv.ext aK
 obtain rfl:=fM
 refine eJ rfl<|ag<|zc rfl (λh1=>?_) (λh1=>?_)
 have hq:jL bs=false:=(by simpa using h1)
 refine zr<|zA<|ag<|aV ?_
 exact⟨_,rfl,by unfold vO;rw[hq];rfl,hK⟩
 have hq:jL bs=true:=(by simpa using h1)
 refine bz<|zr<|zm<|zm<|aC (Qx bs om l _ _ _ hv) ?_
 rintro _ _ ⟨rfl,rfl⟩
 refine zA<|ag<|aV ?_
 exact⟨_,rfl,by unfold vO;rw[hq];rfl,hK⟩
theorem ak8 (h:jL bs=true) (hi:i<bs.length):j9 bs (bB bs i).aP=i:=by
 unfold jL at h
 simp only[aE,dE] at h
 exact(h.1 i hi).2
theorem ak9 {l:aj} (h:jL bs=true) (h0:0<=j9 bs l) (hi:i<bs.length):((bB bs i).aP=l↔((i:Nat):Int)=j9 bs l):=by
 constructor
 ·intro e;rw[<-e];exact(ak8 h hi).symm
 ·intro e
  unfold j9 at e
  cases hf:bs.findIdx? (λb=>decide (b.aP=l)) with
  |none=>rw[hf] at e;simp at e
  |some j=>
   rw[hf] at e
   have lj:i=j:=by have e':(i:Int)=(j:Int):=e;omega
   subst lj
   obtain⟨hj,hd,_⟩:=List.findIdx?_eq_some_iff_getElem.1 hf
   have e2:bB bs i=bs[i]:=by unfold bB;rw[gG,gE hj];rfl
   rw[e2];exact of_decide_eq_true hd
theorem ala {l:aj} (h0:0<=j9 bs l):j9 bs l<bs.length:=by
 unfold j9 at h0⊢
 cases hf:bs.findIdx? (λb=>decide (b.aP=l)) with
 |none=>rw[hf] at h0;simp at h0
 |some j=>
  obtain⟨hj,_⟩:=List.findIdx?_eq_some_iff_getElem.1 hf
  simpa using hj
theorem ao4 (bs:List UInt8) (v:Value) (w:World) (hv:cD [] w v (.sl 1 (rC bs))):
  cj Tryz.prog 3 [v] w λr w'=>r= .bool true∧ak [] w w':=by
 obtain⟨a,c,rfl,_⟩:=rH hv
 have iE:(rC bs).length=bs.length:=Ev bs
 have hK:=ak.refl [] w
 refine cV [.tmp 2] 53 Tryz.func3 rfl YY rfl rfl ?_
 refine zr<|zA<|ag<|aQ<|zr<|zm<|dX qO rfl<|jx rfl rfl rfl rfl rfl<|ag<|zc rfl (λh1=>?_) (λh1=>?_)
 refine zr<|zA<|ag<|aV ?_
 exact⟨_,rfl,rfl,hK⟩
 refine bz<|zr<|zm<|aC (aj9 bs om _ w hv) ?_
 rintro v1 w1 ⟨fM,aK⟩
 have dQ:=aK.size
 have hK:=hK.ext aK
 obtain⟨vp,l,ps,e9,hP,hR,Cv⟩:=fM
 subst e9
 have cJ:=Bu hR
 obtain⟨pa,pn,pc,e8,fP⟩:=cJ
 subst e8
 have hS:=hP.smalls
 have Ew:∀b,b∈ps->b.aP.length<=12000:=(λb hb=>by have:=(hP.bk b hb).1;omega)
 have pE:=hP.len
 refine zm<|zx (i:=0) rfl rfl<|zx (i:=1) rfl rfl<|zA<|zA<|ag<|zr<|zm<|zm<|aC (ak6 ps hS Ew l _ [] w1 hR) ?_
 rintro v2 w2 ⟨dA,aq⟩
 have eE:=aq.size
 have hK:=hK.ext aq;have hR:=hR.ext aq
 obtain rfl:=dA
 refine zA<|ag<|zr<|zm<|zm<|aC (ak7 ps hS l _ [] w2 hR) ?_
 rintro v3 w3 ⟨eh,aJ⟩
 have fZ:=aJ.size
 have hK:=hK.ext aJ;have hR:=hR.ext aJ
 obtain rfl:=eh
 refine zA<|ag<|aQ<|zr<|zm<|zm<|uq rfl rfl rfl rfl rfl<|zm ?_
 apply fz 3 25 28 [25,26,27,28] (λw'=>w3=w') rfl
 intro h2
 replace h2:=bw h2
 refine zs<|zs<|zp rfl<|ag ?_
 exact mg rfl rfl
 intro h2
 replace h2:=bw h2
 refine zm<|fy rfl rfl rfl<|zp rfl<|ag ?_
 exact mg rfl rfl
 rintro xx _ rfl
 refine ag<|zc rfl (λh3=>?_) (λh3=>?_)
 have h9:=Bool.or_eq_true_iff.1 h3
 refine zr<|zm<|zm<|dO rfl rfl rfl<|zA<|ag<|aV ?_
 exact⟨_,rfl,congrArg Value.bool (dT rfl),hK⟩
 have h9:0<=vO ps l:=(by have h8:=(Bool.or_eq_false_iff.1 h3).2;have:=of_decide_eq_false h8;omega)
 have A3:jL ps=true:=(by cases hq:jL ps with|true=>rfl|false=>(unfold vO at h9;rw[hq] at h9;simp at h9))
 have Jk:vO ps l=j9 ps l:=(by unfold vO;rw[A3];rfl)
 rw[Jk] at h9
 refine bz<|aQ<|zr<|zA<|ag<|cQ ?_
 refine fW (λi:Nat=>[(3,.slice pa pn pc),(4,str l),(5,.int .i64 (vO ps l)),(7,.int .i64 (i:Int))]) (λi w'=>w'=w3∧i<=pn) (λi=>pn-i) (0) (⟨rfl,rfl,rfl,rfl⟩) (⟨rfl,om⟩) ?_
 intro gg w4 e4 hI
 obtain⟨rfl,hi⟩:=hI
 refine aQ<|zr<|zm<|zm<|dX iL rfl<|fy rfl rfl rfl<|ag<|zc rfl (λh4=>?_) (λh4=>?_)
 have lg:gg<ps.length:=om
 have O4:=Bv hR (su lg)
 obtain⟨b,off,a1,n1,c1,a2,n2,c2,e7,hc,fS,fH,dQ,eE⟩:=O4
 cases e7
 have ju:=ak9 (l:=l) A3 h9 lg
 refine bz<|aQ<|cQ<|zr<|zm<|zm<|zi iL gR rfl rfl om<|zf xv rfl<|zl ck rfl (hc 0 _ rfl)<|zm<|cW rfl rfl<|zm<|zm<|dO rfl rfl rfl<|Ka HB rfl rfl rfl rfl<|ag<|zc rfl (λh5=>?_) (λh5=>?_)
 exfalso
 have h8:decide ((bB ps gg).aP=l)=decide ((gg:Int)=j9 ps l):=decide_eq_decide.2 ju
 rw[Jk,h8] at h5
 simp at h5
 refine bz<|db<|zm<|eF rfl rfl rfl (kj (gg+1) om _ om)<|zA<|ag ?_
 exact⟨gg+1,⟨rfl,rfl,rfl,rfl⟩,⟨rfl,om⟩,om⟩
 refine gB<|gC rfl<|zr<|zm<|zm<|dX iL rfl<|fy rfl rfl rfl<|zA<|ag<|aV ?_
 exact⟨_,rfl,congrArg Value.bool (dT (by rw[Jk];have:=ala h9;omega)),hK⟩
section
open Go Go.ChangeShapes Go.WideShapes
theorem alb {w:World} {a:Addr} {v:Value} (h:w.cell? a=some v):a=⟨a.block,a.off,none⟩∧a.block<w.heap.size:=by
 obtain⟨b,o,s⟩:=a
 unfold World.cell? at h
 split at h
 ·rename_i c _ _ he
  cases s with
  |some s=>simp at h
  |none=>exact⟨rfl,(Array.getElem?_eq_some_iff.1 he).1⟩
 ·cases h
theorem alc {a:Addr} (h:a=⟨a.block,a.off,none⟩) (i:Nat):a.add i=⟨a.block,a.off+i,none⟩:=by rw[h];exact vS _ _ _
section
variable {H:Type} {enc:TypeId×Value->H} {P:Program} {w:World} {held:Bool}
end
end
section
open Go Go.ChangeShapes Go.WideShapes
theorem ald {zs:List Int} (h:∀n,n∈zs->(Lit.int .u8 n).wf=true) (hi:i<zs.length):Value.int .u8 (zs.getD i 0)= .int .u8 (((UInt8.ofNat (zs.getD i 0).toNat).toNat:Nat):Int):=by
 have:=range_u8 h i
 rw[<-gG] at this
 congr 1
 simp only[UInt8.toNat_ofNat']
 omega
section
variable {H:Type} {enc:TypeId×Value->H} {P:Program} {w:World} {held:Bool}
theorem ao5 {t e:TypeId} {fuel:Nat} {cs:List Value} {x:DataW H×List MemPlace} (ht:P.underlying t=some (.slice e)) (he:P.underlying e=some (.int .u8)) (hc:P.cellsOf e=1) 
  (h:DataW.trod enc P w 0 (λ_=>true) held fuel t cs=some x):∃a len cap bs,cs=[.slice a len cap]∧cD [] w (.slice a len cap) (.sl 1 (rC bs)):=by
 rcases open_ints ht he hc h with⟨rfl,_⟩|⟨a,len,cap,zs,rfl,_,hl,hm,hz,_,kJ,dx⟩
 ·exact⟨none,0,0,[],rfl,.nil _ _ _⟩
 ·simp only[if_true] at hz
  rcases Nat.eq_zero_or_pos len with h0|hp
  ·subst h0
   exact⟨some a,0,cap,[],rfl,.nil _ _ _⟩
  ·have h0:=kJ 0 om
   rw[show a.add 0=a from by simp[Addr.add]] at h0
   obtain⟨ha,hb⟩:=alb h0
   have iE:((zs.take len).map λn=>UInt8.ofNat n.toNat).length=len:=by simp;omega
   refine⟨some a,len,cap,(zs.take len).map λn=>UInt8.ofNat n.toNat,rfl,?_⟩
   rw[ha]
   refine .sl a.block a.off len cap 1 _ (λi _=>.int .u8 (zs.getD i 0)) (by rw[Ev,iE]) hl hb sm (λrow hr=>?_) (λi j hi hj=>?_) (λi j row c iX hc=>?_)
   ·obtain⟨_,_,rfl⟩:=List.mem_map.1 hr;rfl
   ·have h1:=kJ i om
    rw[alc ha] at h1
    rw[show a.off+i*1+j=a.off+i from by omega]
    exact h1
   ·have hi:i<len:=by
     have:=(List.getElem?_eq_some_iff.1 iX).1
     rw[Ev,iE] at this;exact this
    have hrw:row=[.val (.int .u8 (((UInt8.ofNat (zs.getD i 0).toNat).toNat:Nat):Int))]:=by
     simp only[rC,List.map_map,List.getElem?_map,List.getElem?_take,iP hi,gE (show i<zs.length by omega),Option.map_some,Function.comp,Option.some.injEq] at iX
     rw[<-iX]
     simp[gG,gE (show i<zs.length by omega)]
    subst hrw
    match j,hc with
    |0,hc=>
     simp only[List.getElem?_cons_zero,Option.some.injEq] at hc
     subst hc
     rw[ald dx om]
     exact .val _
    |j+1,hc=>simp at hc
end
end
theorem ao6:(fun(_:Program) (_:FuncId) (_:Func) (s:ChangeSpec) (c:OpenClaim)=>(c.wf (OpenSpec.ofChange s):Bool)) Tryz.pinned.checked.prog 3 Tryz.f3 Rows.fnFindSpec Rows.fnFindRow=true:=by kernel_rfl
theorem ao7:(fun(P:Program) (_:FuncId) (_:Func) (_:ChangeSpec) (_:OpenClaim)=>(laidOutB P:Bool)) Tryz.pinned.checked.prog 3 Tryz.f3 Rows.fnFindSpec Rows.fnFindRow=true:=by kernel_rfl
theorem ao8:(fun(P:Program) (_:FuncId) (_:Func) (_:ChangeSpec) (_:OpenClaim)=>(mapsRowed P:Bool)) Tryz.pinned.checked.prog 3 Tryz.f3 Rows.fnFindSpec Rows.fnFindRow=true:=by kernel_rfl
theorem ao9:(fun(P:Program) (_:FuncId) (fn:Func) (_:ChangeSpec) (_:OpenClaim)=>(fn.params.all (P.readableRec ·):Bool)) Tryz.pinned.checked.prog 3 Tryz.f3 Rows.fnFindSpec Rows.fnFindRow=true:=by kernel_rfl
theorem apa:(fun(P:Program) (_:FuncId) (_:Func) (s:ChangeSpec) (c:OpenClaim)=>(namedTie P c.named s.vars:Bool)) Tryz.pinned.checked.prog 3 Tryz.f3 Rows.fnFindSpec Rows.fnFindRow=true:=by kernel_rfl
theorem apb:(fun(_:Program) (_:FuncId) (_:Func) (_:ChangeSpec) (c:OpenClaim)=>((c.stops==[]):Bool)) Tryz.pinned.checked.prog 3 Tryz.f3 Rows.fnFindSpec Rows.fnFindRow=true:=by kernel_rfl
theorem apc:(fun(P:Program) (_:FuncId) (_:Func) (_:ChangeSpec) (_:OpenClaim)=>((P.stops==[]):Bool)) Tryz.pinned.checked.prog 3 Tryz.f3 Rows.fnFindSpec Rows.fnFindRow=true:=by kernel_rfl
theorem apd:(fun(_:Program) (_:FuncId) (_:Func) (_:ChangeSpec) (c:OpenClaim)=>((c.knobs==[]):Bool)) Tryz.pinned.checked.prog 3 Tryz.f3 Rows.fnFindSpec Rows.fnFindRow=true:=by kernel_rfl
theorem ape:(fun(P:Program) (_:FuncId) (_:Func) (_:ChangeSpec) (_:OpenClaim)=>((P.stopKnobs==[]):Bool)) Tryz.pinned.checked.prog 3 Tryz.f3 Rows.fnFindSpec Rows.fnFindRow=true:=by kernel_rfl
theorem apf:(fun(P:Program) (f:FuncId) (_:Func) (_:ChangeSpec) (c:OpenClaim)=>((c.inPlace==P.inPlace f):Bool)) Tryz.pinned.checked.prog 3 Tryz.f3 Rows.fnFindSpec Rows.fnFindRow=true:=by kernel_rfl
theorem apg:(fun(P:Program) (f:FuncId) (_:Func) (_:ChangeSpec) (c:OpenClaim)=>((c.unfollowed==P.unfollowed f):Bool)) Tryz.pinned.checked.prog 3 Tryz.f3 Rows.fnFindSpec Rows.fnFindRow=true:=by kernel_rfl
theorem aph:(fun(P:Program) (f:FuncId) (_:Func) (_:ChangeSpec) (c:OpenClaim)=>((c.recurses==P.recurses f):Bool)) Tryz.pinned.checked.prog 3 Tryz.f3 Rows.fnFindSpec Rows.fnFindRow=true:=by kernel_rfl
theorem api:(fun(P:Program) (f:FuncId) (_:Func) (_:ChangeSpec) (c:OpenClaim)=>((c.named==P.varsNamed f):Bool)) Tryz.pinned.checked.prog 3 Tryz.f3 Rows.fnFindSpec Rows.fnFindRow=true:=by kernel_rfl
theorem apj:(fun(P:Program) (_:FuncId) (fn:Func) (s:ChangeSpec) (c:OpenClaim)=>((c.maps==(fn.params.toList++s.plain.varTypes P).any (P.mapsRec ·)):Bool)) Tryz.pinned.checked.prog 3 Tryz.f3 Rows.fnFindSpec Rows.fnFindRow=true:=by kernel_rfl
theorem apk:(fun(P:Program) (_:FuncId) (fn:Func) (s:ChangeSpec) (c:OpenClaim)=>((c.ifaces==(fn.params.toList++s.plain.varTypes P).any (P.ifacesRec ·)):Bool)) Tryz.pinned.checked.prog 3 Tryz.f3 Rows.fnFindSpec Rows.fnFindRow=true:=by kernel_rfl
theorem apl:(fun(P:Program) (_:FuncId) (fn:Func) (_:ChangeSpec) (c:OpenClaim)=>((c.mapsOut==P.mapsAmong fn.resultTypes.toList):Bool)) Tryz.pinned.checked.prog 3 Tryz.f3 Rows.fnFindSpec Rows.fnFindRow=true:=by kernel_rfl
theorem apm:(fun(P:Program) (_:FuncId) (fn:Func) (s:ChangeSpec) (c:OpenClaim)=>((c.loops==(fn.params.toList++s.plain.varTypes P).any (P.loopsFrom ·)):Bool)) Tryz.pinned.checked.prog 3 Tryz.f3 Rows.fnFindSpec Rows.fnFindRow=true:=by kernel_rfl
theorem apn:(fun(P:Program) (_:FuncId) (fn:Func) (s:ChangeSpec) (c:OpenClaim)=>((c.wideKeys==(fn.params.toList++s.plain.varTypes P++fn.resultTypes.toList).any (P.wideKeysFrom ·)):Bool)) Tryz.pinned.checked.prog 3 Tryz.f3 Rows.fnFindSpec Rows.fnFindRow=true:=by kernel_rfl
theorem apo:(fun(P:Program) (_:FuncId) (_:Func) (s:ChangeSpec) (_:OpenClaim)=>(s.vars.all (P.varReadable ·):Bool)) Tryz.pinned.checked.prog 3 Tryz.f3 Rows.fnFindSpec Rows.fnFindRow=true:=by kernel_rfl
theorem apq:(fun(P:Program) (_:FuncId) (fn:Func) (_:ChangeSpec) (_:OpenClaim)=>(fn.resultTypes.all (λt=>P.readableRec t&&decide (t<P.types.size)):Bool)) Tryz.pinned.checked.prog 3 Tryz.f3 Rows.fnFindSpec Rows.fnFindRow=true:=by kernel_rfl
theorem apr:(fun(P:Program) (_:FuncId) (fn:Func) (_:ChangeSpec) (c:OpenClaim)=>((c.ifacesOut==fn.resultTypes.toList.any (P.ifacesRec ·)):Bool)) Tryz.pinned.checked.prog 3 Tryz.f3 Rows.fnFindSpec Rows.fnFindRow=true:=by kernel_rfl
theorem aps:(fun(P:Program) (_:FuncId) (fn:Func) (_:ChangeSpec) (c:OpenClaim)=>((c.loopsOut==fn.resultTypes.toList.any (P.loopsFrom ·)):Bool)) Tryz.pinned.checked.prog 3 Tryz.f3 Rows.fnFindSpec Rows.fnFindRow=true:=by kernel_rfl
theorem apt:(fun(P:Program) (_:FuncId) (_:Func) (_:ChangeSpec) (c:OpenClaim)=>((c.plainKeys==P.plainKeys):Bool)) Tryz.pinned.checked.prog 3 Tryz.f3 Rows.fnFindSpec Rows.fnFindRow=true:=by kernel_rfl
theorem apu:Tryz.pinned.checked.prog.funcNamed "loop.example/typedassembly/laws.FnFind"=some 3:=by kernel_rfl
theorem apv:(Tryz.f3).isInstance Tryz.pinned.checked.prog Rows.fnFindRow.origin Rows.fnFindRow.targs:=of_decide_eq_true (by kernel_rfl)
theorem apw:(Tryz.f3).isWrapper Tryz.pinned.checked.prog Rows.fnFindRow.wrapper Rows.fnFindRow.mainSum:=by unfold Func.isWrapper;first|(rw[iP (by decide+kernel)];kernel_rfl)|(rw[iN (by decide+kernel)];exact⟨rfl,rfl⟩)
theorem apx:Rows.fnFindRow.wfByText (OpenSpec.ofChange Rows.fnFindSpec)=true:=by kernel_rfl
theorem apy:(fun(_:Program) (_:FuncId) (_:Func) (_:ChangeSpec) (c:OpenClaim)=>(c.shortTexts.isNone:Bool)) Tryz.pinned.checked.prog 3 Tryz.f3 Rows.fnFindSpec Rows.fnFindRow=true:=by kernel_rfl
theorem apz:(fun(P:Program) (_:FuncId) (_:Func) (_:ChangeSpec) (_:OpenClaim)=>(P.stopsHeard:Bool)) Tryz.pinned.checked.prog 3 Tryz.f3 Rows.fnFindSpec Rows.fnFindRow=true:=by kernel_rfl
theorem apA:(fun(P:Program) (_:FuncId) (_:Func) (_:ChangeSpec) (_:OpenClaim)=>(P.mayEnter:Bool)) Tryz.pinned.checked.prog 3 Tryz.f3 Rows.fnFindSpec Rows.fnFindRow=true:=by kernel_rfl
theorem apB:(fun(P:Program) (_:FuncId) (_:Func) (_:ChangeSpec) (c:OpenClaim)=>((c.lifted==P.liftsFinal):Bool)) Tryz.pinned.checked.prog 3 Tryz.f3 Rows.fnFindSpec Rows.fnFindRow=true:=by kernel_rfl
theorem apC:(fun(P:Program) (_:FuncId) (_:Func) (_:ChangeSpec) (c:OpenClaim)=>((P.make==some c.make):Bool)) Tryz.pinned.checked.prog 3 Tryz.f3 Rows.fnFindSpec Rows.fnFindRow=true:=by kernel_rfl
theorem apD:(fun(P:Program) (_:FuncId) (fn:Func) (_:ChangeSpec) (c:OpenClaim)=>((c.kinds==(if c.domain.isEmpty then[] else fn.params.toList.map λt=>match P.underlying t with|some (.int k)=>some k|_=>none)):Bool)) Tryz.pinned.checked.prog 3 Tryz.f3 Rows.fnFindSpec Rows.fnFindRow=true:=by kernel_rfl
theorem apE:(fun(_:Program) (_:FuncId) (_:Func) (_:ChangeSpec) (c:OpenClaim)=>((c.pinned==c.pinnedBy):Bool)) Tryz.pinned.checked.prog 3 Tryz.f3 Rows.fnFindSpec Rows.fnFindRow=true:=by kernel_rfl
theorem apF:(fun(P:Program) (_:FuncId) (fn:Func) (s:ChangeSpec) (c:OpenClaim)=>((c.veiled==(fn.params.toList++s.plain.varTypes P++fn.resultTypes.toList).any (P.veiledRec ·)):Bool)) Tryz.pinned.checked.prog 3 Tryz.f3 Rows.fnFindSpec Rows.fnFindRow=true:=by kernel_rfl
theorem apG:(fun(P:Program) (_:FuncId) (fn:Func) (s:ChangeSpec) (c:OpenClaim)=>(c.veiledFits P fn.params.toList (fn.params.toList++s.plain.varTypes P++fn.resultTypes.toList):Bool)) Tryz.pinned.checked.prog 3 Tryz.f3 Rows.fnFindSpec Rows.fnFindRow=true:=by kernel_rfl
theorem apH:Tryz.pinned.checked.prog.mainIs=some (true, "ed6b2bc1d4952f5e35729a510763a43720434c752e8136e8a6fb0aff96d0ed2c".toList):=by kernel_rfl
theorem apI:true=Tryz.pinned.checked.prog.looks []:=by kernel_rfl
theorem apJ:Tryz.pinned.checked.prog.wantsStandIn 22=false:=by kernel_rfl
theorem apK:false=Rows.fnFindRow.goesBy Tryz.pinned.checked.prog:=by kernel_rfl
end Go.Proofs.YtigijcjccmdmhaaGreatDoor
