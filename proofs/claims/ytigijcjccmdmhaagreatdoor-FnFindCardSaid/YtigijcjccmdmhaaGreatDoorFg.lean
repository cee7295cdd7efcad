/- Lemmas for the law FnFind, no statement of their own: no conditions. -/
import Derived.Test.YtigijcjccmdmhaaGreatDoorFf
import Derived.Deep.Strs
import Derived.JoinedOf
import Derived.OpenShut
import Derived.SevenTiedAt
import Derived.Test.YtigijcjccmdmhaaGreatDoorRows
namespace Go.Proofs.YtigijcjccmdmhaaGreatDoor
open Go
def akW {s:aj} (h:12000<s.length):ba s=none:=by unfold ba;rw[iP h]
def akX (L:List Nat) (s:aj) (v:Value) (w:World):Prop:=∃t tv,v= .tuple #[tv,.bool (ba s).isSome]∧bT L w tv t∧∀t',ba s=some t'->t=t'
def Wy (s:aj) (L:List Nat) (w:World) (hL:∀x,x∈L->x<w.heap.size):ck Tryz.prog 34 [str s] w λr w'=>akX L s r w'∧ak [] w w':=by
 have hK:=ak.refl [] w
 refine lH [.cell 2 58,.tmp 3] 23 Tryz.func34 rfl Y8 rfl rfl rfl ?_
 refine zr<|eD fg rfl rfl rfl ?_
 intro w1 aK aZ eh
 have hK:=hK.grow;have hK:=hK.ext aK
 refine zA<|ag<|aQ<|zr<|zm<|kO fh rfl rfl rfl<|jz rfl rfl rfl rfl rfl<|ag<|zc rfl (λh1=>?_) (λh1=>?_)
 have hp:=akW (s:=s) om
 refine zr<|j7 (KB _) rfl rfl<|dw fg rfl rfl rfl aZ rfl ?_
 intro w2 aq aZ eO
 have hK:=hK.aL aq sx
 refine zA<|ag<|aV ?_
 exact⟨[_,_],⟨gQ ka fg rfl aZ rfl,rfl⟩,⟨.mk [] [],_,by rw[hp];rfl,lG o3,by rw[hp];intro t' h;cases h⟩,hK⟩
 have hle:s.length<=12000:=by omega
 have hL1:∀x,x∈w.heap.size::L->x<w1.heap.size:=by intro x hx;rcases mC.1 hx with rfl|hx;omega;have:=hL x hx;omega
 refine bz<|zr<|zm<|aC (akU 60 s (w.heap.size::L) w1 om hle hL1) ?_
 rintro v2 w2 ⟨dC,aq⟩
 have eH:=aq.size
 have hK:=hK.ext aq;have aZ:=aZ.ext aq
 obtain⟨t,tv,r,ok,rfl,ht,hm⟩:=dC
 obtain⟨pa,pn,pc,rfl,fR,bc⟩:=dO ht
 subst fR
 refine zm<|zx (i:=0) rfl rfl<|zx (i:=1) rfl rfl<|zx (i:=2) rfl rfl<|eD fg rfl rfl rfl ?_
 intro w3 aJ aI iJ
 have hK:=hK.grow;have hK:=hK.ext aJ;have aZ:=aZ.grow;have aZ:=aZ.ext aJ;have ht:=ht.grow;have ht:=ht.ext aJ
 refine dw fg rfl rfl rfl aI rfl ?_
 intro w4 aF aI iU
 have hK:=hK.aL aF sx;have aZ:=aZ.aL aF sx;have ht:=ht.aL aF sx
 refine zA<|zA<|ag<|zr<|zL ka fg rfl aI.all rfl<|zm<|zm ?_
 apply fZ 3 19 22 [19,20,21,22] (λw'=>w4=w') rfl
 intro h2
 replace h2:=bw h2
 refine zm<|cY rfl rfl<|zp rfl<|ag ?_
 exact mg rfl rfl
 intro h2
 replace h2:=bw h2
 refine zs<|zs<|zp rfl<|ag ?_
 exact mg rfl rfl
 rintro xx _ rfl
 refine dw fg rfl rfl rfl aZ rfl ?_
 intro w5 aU aZ jr
 have hK:=hK.aL aU sx;have ht:=ht.aL aU sx
 refine zA<|ag<|aV ?_
 obtain⟨qp,uO⟩:=abw hle hm
 exact⟨[_,_],⟨gQ ka fg rfl aZ rfl,rfl⟩,⟨t,_,by rw[<-qp];rfl,ht.jk (λx hx=>by simp[hx]),uO⟩,hK⟩
def akZ (L:List Nat) (s:aj) (v:Value) (w:World):Prop:=∃t tv,v= .tuple #[tv,.bool (rQ s)]∧bT L w tv t∧∀t',ba s=some t'->t=t'
def ak0 (s:aj) (L:List Nat) (w:World) (hL:∀x,x∈L->x<w.heap.size):ck Tryz.prog 60 [str s] w λr w'=>akZ L s r w'∧ak [] w w':=by
 have hK:=ak.refl [] w
 refine lH [.cell 2 58,.tmp 3] 17 Tryz.func60 rfl Zo rfl rfl rfl ?_
 refine zr<|eD fg rfl rfl rfl ?_
 intro w1 aK aZ eh
 have hK:=hK.grow;have hK:=hK.ext aK
 refine zA<|ag<|zr<|zm<|aC (Wy s (w.heap.size::L) w1 (by intro x hx;rcases mC.1 hx with rfl|hx;omega;have:=hL x hx;omega)) ?_
 rintro v2 w2 ⟨dC,aq⟩
 have eH:=aq.size
 have hK:=hK.ext aq;have aZ:=aZ.ext aq
 obtain⟨t,tv,rfl,ht,hp⟩:=dC
 obtain⟨pa,pn,pc,rfl,fR,bc⟩:=dO ht
 subst fR
 have dz:=λh=>Dv hp h
 refine zm<|zx (i:=0) rfl rfl<|zx (i:=1) rfl rfl<|eD fg rfl rfl rfl ?_
 intro w3 aJ aI iJ
 have hK:=hK.grow;have hK:=hK.ext aJ;have aZ:=aZ.grow;have aZ:=aZ.ext aJ;have ht:=ht.grow;have ht:=ht.ext aJ
 refine dw fg rfl rfl rfl aI rfl ?_
 intro w4 aF aI iU
 have hK:=hK.aL aF sx;have aZ:=aZ.aL aF sx;have ht:=ht.aL aF sx
 refine zA<|ag<|aQ ?_
 refine ql et (cR w.heap.size ([str t.az,.slice pa t.au.length pc]) 58) 8 (rA 11 6++[100006,3]) (rA 11 6++[100006,3]) [[],[],[1],[2],[2,3],[2,4],[0],[5]] [λv _=>v=(.agg #[str t.az,.slice pa t.au.length pc]),λv _=>v=(.bool ((ba s).isSome)),λv _=>v=(.bool ((ba s).isSome)),λv _=>((ba s).isSome)=true->v=(.agg #[str t.az,.slice pa t.au.length pc]),λv _=>((ba s).isSome)=true->v=(.bool (fD false t)),λv _=>v=(.bool ((ba s).isSome&&fD false t)),λ_ ww=>aY ww w.heap.size ([str t.az,.slice pa t.au.length pc]).toArray 58,λv _=>v=(.bool ((ba s).isSome&&fD false t))] de (cZ (cZ (cZ (eX (eX (cZ (C6 (cZ trivial)))))))) (λwd aB=>?_) ?_
 refine bN ?_ ?_
 intro x vs w5 e aU hd he
 replace aU:=(cR w.heap.size ([str t.az,.slice pa t.au.length pc]) 58).trans aB aU
 have aI:=aI.aL aU.1 sx
 replace he:e=aM (aN _ x _) []:=he
 subst he
 refine zL ka fg rfl aI.all rfl<|ag ?_
 exact dn ((cR w.heap.size ([str t.az,.slice pa t.au.length pc]) 58).refl _) rfl
 refine bN ?_ ?_
 intro x vs w5 e aU hd he
 replace aU:=(cR w.heap.size ([str t.az,.slice pa t.au.length pc]) 58).trans aB aU
 replace he:e=aM (aN _ x _) []:=he
 subst he
 refine zm<|ag ?_
 exact dn ((cR w.heap.size ([str t.az,.slice pa t.au.length pc]) 58).refl _) rfl
 refine bN ?_ ?_
 intro x vs w5 e aU hd he
 have d1:vs 1=(.bool ((ba s).isSome)):=hd
 replace aU:=(cR w.heap.size ([str t.az,.slice pa t.au.length pc]) 58).trans aB aU
 replace he:e=aM (aN _ x _) [(12,vs 1)]:=he
 rw[d1] at he
 subst he
 refine zm<|ag ?_
 exact dn ((cR w.heap.size ([str t.az,.slice pa t.au.length pc]) 58).refl _) rfl
 refine bN ?_ ?_
 intro x vs w5 e aU hd he
 have d2:vs 2=(.bool ((ba s).isSome)):=hd
 replace aU:=(cR w.heap.size ([str t.az,.slice pa t.au.length pc]) 58).trans aB aU
 have aI:=aI.aL aU.1 sx
 rcases bE ((ba s).isSome) with hg|hg
 rw[hg] at d2
 replace he:e=aM (aN _ x _) [(13,vs 2)]:=he
 rw[d2] at he
 subst he
 refine zL ka fg rfl aI.all rfl<|ag ?_
 exact dn ((cR w.heap.size ([str t.az,.slice pa t.au.length pc]) 58).refl _) (show((ba s).isSome)=true->_=((.agg #[str t.az,.slice pa t.au.length pc]):Value) from λ_=>rfl)
 rw[hg] at d2
 replace he:e=aM (aN _ x _) [(13,vs 2)]:=he
 rw[d2] at he
 subst he
 refine zs<|ag ?_
 exact dn ((cR w.heap.size ([str t.az,.slice pa t.au.length pc]) 58).refl _) (show((ba s).isSome)=true->_=(_:Value) from λhh=>nomatch hg.symm.trans hh)
 refine bN ?_ ?_
 intro x vs w5 e aU hd he
 have aR:(vs 2=(.bool ((ba s).isSome)))∧(((ba s).isSome)=true->vs 3=(.agg #[str t.az,.slice pa t.au.length pc])):=hd
 obtain⟨d2,d3⟩:=aR
 replace aU:=(cR w.heap.size ([str t.az,.slice pa t.au.length pc]) 58).trans aB aU
 have ht:=ht.aL aU.1 sx
 rcases bE ((ba s).isSome) with hg|hg
 rw[hg] at d2
 replace d3:=d3 hg
 replace he:e=aM (aN _ x _) [(13,vs 2),(14,vs 3)]:=he
 rw[d2,d3] at he
 subst he
 refine aC (Pg t.size t (lR _) (by have:=(dz hg).2;omega) (dz hg).1 false _ _ w5 ht) ?_
 rintro v6 w6 ⟨lx,bF⟩
 have oS:=bF.size
 obtain rfl:=lx
 refine ag ?_
 exact dn ((cR w.heap.size ([str t.az,.slice pa t.au.length pc]) 58).of bF) (show((ba s).isSome)=true->_=((.bool (fD false t)):Value) from λ_=>rfl)
 rw[hg] at d2
 replace he:e=aM (aN _ x _) [(13,vs 2),(14,vs 3)]:=he
 rw[d2] at he
 subst he
 refine zs<|ag ?_
 exact dn ((cR w.heap.size ([str t.az,.slice pa t.au.length pc]) 58).refl _) (show((ba s).isSome)=true->_=(_:Value) from λhh=>nomatch hg.symm.trans hh)
 refine bN ?_ ?_
 intro x vs w5 e aU hd he
 have aR:(vs 2=(.bool ((ba s).isSome)))∧(((ba s).isSome)=true->vs 4=(.bool (fD false t))):=hd
 obtain⟨d2,d4⟩:=aR
 replace aU:=(cR w.heap.size ([str t.az,.slice pa t.au.length pc]) 58).trans aB aU
 rcases bE ((ba s).isSome) with hg|hg
 rw[hg] at d2
 replace d4:=d4 hg
 replace he:e=aM (aN _ x _) [(13,vs 2),(15,vs 4)]:=he
 rw[d2,d4] at he
 subst he
 refine zp rfl<|ag ?_
 exact dn ((cR w.heap.size ([str t.az,.slice pa t.au.length pc]) 58).refl _) (by first|rfl|(rw[hg];rfl))
 rw[hg] at d2
 replace he:e=aM (aN _ x _) [(13,vs 2),(15,vs 4)]:=he
 rw[d2] at he
 subst he
 refine zp rfl<|ag ?_
 exact dn ((cR w.heap.size ([str t.az,.slice pa t.au.length pc]) 58).refl _) (by first|rfl|(rw[hg];rfl))
 refine bN ?_ ?_
 intro x vs w5 e aU hd he
 have d0:vs 0=(.agg #[str t.az,.slice pa t.au.length pc]):=hd
 replace aU:=(cR w.heap.size ([str t.az,.slice pa t.au.length pc]) 58).trans aB aU
 obtain⟨us,vi,vj⟩:=aU.2.2 ⟨_,(by rfl),aZ⟩
 replace he:e=aM (aN _ x _) [(11,vs 0)]:=he
 rw[d0] at he
 subst he
 refine dw fg rfl rfl rfl vj (by rw[vi];rfl) ?_
 intro w6 bF hb lI
 refine ag ?_
 exact dn ⟨bF,λ_=>hb,λ_=>⟨_,rfl,hb⟩⟩ hb
 refine bN ?_ ?_
 intro x vs w5 e aU hd he
 have d5:vs 5=(.bool ((ba s).isSome&&fD false t)):=hd
 replace aU:=(cR w.heap.size ([str t.az,.slice pa t.au.length pc]) 58).trans aB aU
 replace he:e=aM (aN _ x _) [(16,vs 5)]:=he
 rw[d5] at he
 subst he
 refine zA<|ag ?_
 exact dn ((cR w.heap.size ([str t.az,.slice pa t.au.length pc]) 58).refl _) rfl
 exact trivial
 intro x vs p5 jT bJ
 have d0:vs 0=(.agg #[str t.az,.slice pa t.au.length pc]):=bJ 0 de
 have d1:vs 1=(.bool ((ba s).isSome)):=bJ 1 de
 have d2:vs 2=(.bool ((ba s).isSome)):=bJ 2 de
 have d3:((ba s).isSome)=true->vs 3=(.agg #[str t.az,.slice pa t.au.length pc]):=bJ 3 de
 have d4:((ba s).isSome)=true->vs 4=(.bool (fD false t)):=bJ 4 de
 have d5:vs 5=(.bool ((ba s).isSome&&fD false t)):=bJ 5 de
 have d6:aY p5 w.heap.size ([str t.az,.slice pa t.au.length pc]).toArray 58:=bJ 6 de
 have d7:vs 7=(.bool ((ba s).isSome&&fD false t)):=bJ 7 de
 have hK:=hK.aL jT.1 sx;have ht:=ht.aL jT.1 sx
 have aZ:=d6
 change OW _ _ _ _ [] (aM (aN _ x _) (zZ 11 [vs 0,vs 1,vs 2,vs 3,vs 4,vs 5]++[(100006,vs 6),(3,vs 7)])) _
 rw[d0,d1,d2,d5,d7]
 refine ag<|aV ?_
 exact⟨[_,_],⟨gQ ka fg rfl aZ rfl,rfl⟩,⟨t,_,by rw[HO (f:=fD false) hp];rfl,ht.jk (λx hx=>by simp[hx]),hp⟩,hK⟩
def Wz (L:List Nat) (b:Bk) (v:Value) (w:World):Prop:=∃ib bv,v= .tuple #[bv,.bool (oG b)]∧nT L w bv ib∧(oG b=true->ib=fV b)
def Pl {L:List Nat} {b:Bk} {w:World} (h:oG b=false):Wz L b (.tuple #[.agg #[str [],.slice none 0 0,.slice none 0 0],.bool false]) w:=
 ⟨⟨[],[],[]⟩,_,by rw[h],Lj o3 o3,by rw[h];intro h;cases h⟩
def ak1 (k:Bk) (hl:k.aP.length<1000000000) (fU:k.cP.length<1000000000) (fJ:k.code.length<1000000000) (v:Value) (Li L:List Nat) (w:World) (hv:qY Li w v k) (hL:∀x,x∈L->x<w.heap.size):
  ck Tryz.prog 32 [v] w λr w'=>Wz L k r w'∧ak [] w w':=by
 obtain⟨a1,n1,c1,a2,n2,c2,rfl,o6,mP,dS,eH⟩:=Dn hv
 have hK:=ak.refl [] w
 refine lH [.cell 2 53,.tmp 3] 102 Tryz.func32 rfl Y7 rfl rfl rfl ?_
 refine zr<|fG rfl ?_
 intro w1 aK aT eh
 have hK:=hK.ext aK
 refine eD mW rfl rfl rfl ?_
 intro w2 aq aZ eO
 have hK:=hK.grow;have hK:=hK.ext aq;have aT:=aT.grow;have aT:=aT.ext aq
 refine zA<|ag<|aQ<|zr<|zf xD rfl<|zl cm rfl (aT.at rfl)<|aC (Wq _ om _) ?_
 rintro _ _ ⟨rfl,rfl⟩
 refine eM rfl<|zm ?_
 apply fB 5 17 22 [17,18,19,20,21,22] (λw'=>w2=w') rfl
 intro h1
 replace h1:=bw h1
 refine zs<|zs<|zs<|zs<|zp rfl<|ag ?_
 exact mg rfl rfl
 intro h1
 replace h1:=bw h1
 refine zf xD rfl<|zl cm rfl (aT.at rfl)<|kO fh rfl rfl rfl<|jz rfl rfl rfl rfl rfl<|zp rfl<|ag ?_
 exact mg rfl rfl
 rintro xx _ rfl
 refine zm ?_
 apply fB 5 23 28 [23,24,25,26,27,28] (λw'=>w2=w') rfl
 intro h2
 replace h2:=bw h2
 refine zs<|zs<|zs<|zs<|zp rfl<|ag ?_
 exact mg rfl rfl
 intro h2
 replace h2:=bw h2
 refine zf xF rfl<|zl eS rfl (aT.at rfl)<|dZ bh rfl<|jz rfl rfl rfl rfl rfl<|zp rfl<|ag ?_
 exact mg rfl rfl
 rintro xx _ rfl
 refine zm ?_
 apply fB 6 29 35 [29,30,31,32,33,34,35] (λw'=>w2=w') rfl
 intro h3
 replace h3:=bw h3
 refine zs<|zs<|zs<|zs<|zs<|zp rfl<|ag ?_
 exact mg rfl rfl
 intro h3
 replace h3:=bw h3
 refine zf mV rfl<|zl eS rfl (aT.at rfl)<|dZ bh rfl<|aC (J9 _ _ _ _) ?_
 rintro _ _ ⟨rfl,rfl⟩
 refine eM rfl<|zp rfl<|ag ?_
 exact mg rfl rfl
 rintro xx _ rfl
 refine ag<|zc rfl (λh4=>?_) (λh4=>?_)
 have hq:=abx o6 mP h4
 refine zr<|j7 (Kz _) rfl rfl<|dw mW rfl rfl rfl aZ rfl ?_
 intro w3 aJ aZ iJ
 have hK:=hK.aL aJ sx
 refine zA<|ag<|aV ?_
 exact⟨[_,_],⟨gQ Br mW rfl aZ rfl,rfl⟩,Pl hq,hK⟩
 obtain⟨tG,o5⟩:=aby o6 mP h4
 have xi:k.cP.length<=40∧k.code.length<=80:=by simp only[aE,dE] at tG;exact⟨tG.1.2,tG.2.2⟩
 refine bz<|zr<|zf xD rfl<|zl cm rfl (aT.at rfl)<|j7 (ZW _ _) rfl rfl<|eD mW rfl rfl rfl ?_
 intro w3 aJ aI iJ
 have hK:=hK.grow;have hK:=hK.ext aJ;have aT:=aT.grow;have aT:=aT.ext aJ;have aZ:=aZ.grow;have aZ:=aZ.ext aJ
 refine dw mW rfl rfl rfl aI rfl ?_
 intro w4 aF aI iU
 have hK:=hK.aL aF sx;have aT:=aT.aL aF sx;have aZ:=aZ.aL aF sx
 refine ag<|aQ<|zr<|zf xF rfl<|zl eS rfl (aT.at rfl)<|dZ bh rfl<|zm<|ag<|cS ?_
 refine fY (λq:Nat×Option Addr×Nat×Option Nat=>[(1,.pointer (some ⟨w.heap.size,0,none⟩)),(2,.pointer (some ⟨w1.heap.size,0,none⟩)),(4,.pointer (some ⟨w2.heap.size,0,none⟩)),(41,.slice a1 n1 c1),(42,.int .i64 (n1:Int)),(43,.int .i64 (q.1:Int))]) (λq w'=>ak [] w w'∧aY w' w.heap.size [str k.aP,.slice a1 n1 c1,.slice a2 n2 c2].toArray 29∧aY w' w1.heap.size [str [],.slice none 0 0,.slice none 0 0].toArray 53∧aY w' w2.heap.size [str k.aP,.slice q.2.1 ((k.cP.take q.1).map tr).length q.2.2.1,.slice none 0 0].toArray 53∧Gr w1.heap.size (w1.heap.size::w2.heap.size::L) w' 58 2 (.slice q.2.1 ((k.cP.take q.1).map tr).length q.2.2.1) q.2.2.2 (dH ((k.cP.take q.1).map tr))∧q.1<=k.cP.length∧∀i,i<q.1->rQ (aD k.cP i)=true) (λq=>k.cP.length-q.1) ((0,none,0,none)) (⟨rfl,rfl,rfl,rfl,rfl,rfl⟩) (⟨hK,aT,aZ,aI,Gr.nil (by intro x hx;simp at hx;rcases hx with rfl|rfl|hx;omega;omega;have:=hL x hx;omega) om,sm,by intro i hi;simp at hi⟩) ?_
 intro gg w5 e5 hI
 obtain⟨i,a,cc,g⟩:=gg
 dsimp only at hI⊢
 obtain⟨hK,aT,aZ,aI,hO,hk,dA⟩:=hI
 have iY:=hK.size
 have TU:=aT.lt
 have TV:=aZ.lt
 have Wx:=aI.lt
 refine zr<|fA rfl rfl rfl<|ag<|aQ<|zc rfl (λh5=>?_) (λh5=>?_)
 have gh:=lp (xs:=k.cP) (i:=i) om
 obtain⟨b,off,rfl,hc⟩:=qX (dS.ext hK) gh
 refine bz<|aQ<|cS<|zr<|zi bh bA rfl rfl om<|zl cm rfl (hc 0 _ rfl)<|zA<|ag<|zr<|zm<|aC (ak0 (aD k.cP i) (g.toList++(w1.heap.size::w2.heap.size::L)) w5 hO.all) ?_
 rintro v6 w6 ⟨lx,bF⟩
 have oS:=bF.size
 have hK:=hK.ext bF;have aT:=aT.ext bF;have aZ:=aZ.ext bF;have aI:=aI.ext bF;have hO:=hO.ext bF
 obtain⟨t,tv,rfl,ht,hp⟩:=lx
 obtain⟨pa,pn,pc,rfl,fR,bc⟩:=dO ht
 subst fR
 refine zm<|zx (i:=0) rfl rfl<|zx (i:=1) rfl rfl<|eD fg rfl rfl rfl ?_
 intro w7 cz cI qm
 have hK:=hK.grow;have hK:=hK.ext cz;have aT:=aT.grow;have aT:=aT.ext cz;have aZ:=aZ.grow;have aZ:=aZ.ext cz;have aI:=aI.grow;have aI:=aI.ext cz;have hO:=hO.alloc cz qm;have ht:=ht.grow;have ht:=ht.ext cz
 refine dw fg rfl rfl rfl cI rfl ?_
 intro w8 cv cI mr
 have hK:=hK.aL cv sx;have aT:=aT.aL cv sx;have aZ:=aZ.aL cv sx;have aI:=aI.aL cv sx;have hO:=hO.aL cv sx;have ht:=ht.aL cv sx
 refine zA<|ag<|aQ<|zr<|zm<|eM rfl<|ag<|zc rfl (λh6=>?_) (λh6=>?_)
 have hq:=abz (b:=k) (i:=i) om (by simpa using h6)
 refine zr<|j7 (Kz _) rfl rfl<|dw mW rfl rfl rfl aZ rfl ?_
 intro w9 aG aZ dP
 have hK:=hK.aL aG sx
 refine zA<|ag<|aV ?_
 exact⟨[_,_],⟨gQ Br mW rfl aZ rfl,rfl⟩,Pl hq,hK⟩
 have mY:rQ (aD k.cP i)=true:=by simpa using h6
 refine bz<|df<|zf KJ rfl<|zl sw rfl (aI.at rfl)<|zL ka fg rfl cI.all rfl<|gH nP fg rfl rfl ?_
 intro w9 aG O8 dP
 have hK:=hK.ext aG;have aT:=aT.ext aG;have aZ:=aZ.ext aG;have aI:=aI.ext aG;have hO:=hO.ext aG;have ht:=ht.ext aG
 refine K5 nP fg rfl rfl rfl rfl rfl rfl hO O8 ht.K6 (by rw[HX _ hk];omega) ?_
 intro a3 Hs g3 cO og bV
 have WA:=bV.size
 have hK:=ak.QG om hO.low hK bV
 have aT:=aT.aL bV (hO.QF om);have aZ:=aZ.aL bV (hO.Dr sm);have aI:=aI.aL bV (hO.Dr sm)
 rw[abB mY hp,Lf tr gh] at og⊢
 refine zf KJ rfl<|gY KN rfl rfl rfl aI rfl ?_
 intro eY cM aI uK
 have hK:=hK.aL cM sx;have aT:=aT.aL cM sx;have aZ:=aZ.aL cM sx;have og:=og.aL cM sx
 refine ag<|df<|eI rfl rfl rfl (wrap_i64 _ om om)<|zm<|ag ?_
 exact⟨(i+1,a3,Hs,g3),⟨rfl,rfl,rfl,rfl,rfl,rfl⟩,⟨hK,aT,aZ,aI,og.jk (λx hx=>mK _ hx),by dsimp only;omega,by intro j hj;rcases Nat.lt_or_ge j i with h|h;exact dA j h;rw[show j=i by dsimp only at hj;omega];exact mY⟩,by dsimp only;omega⟩
 have K4:∀j,j<k.cP.length->rQ (aD k.cP j)=true:=λj hj=>dA j om
 rw[Lg tr om] at aI hO
 have NH:=hO.trees
 have jD:=ak.refl [w1.heap.size,w2.heap.size] w5
 clear dA hO
 refine gD<|gF rfl<|aQ<|zr<|zf mV rfl<|zl eS rfl (aT.at rfl)<|dZ bh rfl<|zm<|ag<|cS ?_
 refine fY (λq:Nat×Option Addr×Nat×Option Nat=>[(1,.pointer (some ⟨w.heap.size,0,none⟩)),(2,.pointer (some ⟨w1.heap.size,0,none⟩)),(4,.pointer (some ⟨w2.heap.size,0,none⟩)),(63,.slice a2 n2 c2),(64,.int .i64 (n2:Int)),(65,.int .i64 (q.1:Int))]) (λq w'=>ak [] w w'∧ak [w1.heap.size,w2.heap.size] w5 w'∧aY w' w.heap.size [str k.aP,.slice a1 n1 c1,.slice a2 n2 c2].toArray 29∧aY w' w1.heap.size [str [],.slice none 0 0,.slice none 0 0].toArray 53∧aY w' w2.heap.size [str k.aP,.slice a (k.cP.map tr).length cc,.slice q.2.1 ((k.code.take q.1).map tr).length q.2.2.1].toArray 53∧Gr w5.heap.size (w1.heap.size::w2.heap.size::L) w' 58 2 (.slice q.2.1 ((k.code.take q.1).map tr).length q.2.2.1) q.2.2.2 (dH ((k.code.take q.1).map tr))∧q.1<=k.code.length∧∀i,i<q.1->sD k.code i=true) (λq=>k.code.length-q.1) ((0,none,0,none)) (⟨rfl,rfl,rfl,rfl,rfl,rfl⟩) (⟨hK,jD,aT,aZ,aI,Gr.nil (by intro x hx;simp at hx;rcases hx with rfl|rfl|hx;omega;omega;have:=hL x hx;omega) om,sm,by intro i hi;simp at hi⟩) ?_
 intro gg w6 e6 hI
 obtain⟨j,a5,Tt,g⟩:=gg
 dsimp only at hI⊢
 obtain⟨hK,jD,aT,aZ,aI,hO,aq,dA⟩:=hI
 have iY:=hK.size
 have ao8:=jD.size
 have TU:=aT.lt
 have TV:=aZ.lt
 have Wx:=aI.lt
 refine zr<|fA rfl rfl rfl<|ag<|aQ<|zc rfl (λh7=>?_) (λh7=>?_)
 have gh:=lp (xs:=k.code) (i:=j) om
 obtain⟨b,off,rfl,hc⟩:=qX (eH.ext hK) gh
 refine bz<|aQ<|cS<|zr<|zm<|zi bh bA rfl rfl om<|zl cm rfl (hc 0 _ rfl)<|zA<|zA<|ag<|zr<|zm<|aC (Wy (aD k.code j) (g.toList++(w1.heap.size::w2.heap.size::L)) w6 hO.all) ?_
 rintro v7 w7 ⟨iV,cz⟩
 have po:=cz.size
 have hK:=hK.ext cz;have jD:=jD.ext cz;have aT:=aT.ext cz;have aZ:=aZ.ext cz;have aI:=aI.ext cz;have hO:=hO.ext cz
 obtain⟨t,tv,rfl,ht,hp⟩:=iV
 obtain⟨pa,pn,pc,rfl,fR,bc⟩:=dO ht
 subst fR
 have dz:=λh=>Dv hp h
 refine zm<|zx (i:=0) rfl rfl<|zx (i:=1) rfl rfl<|eD fg rfl rfl rfl ?_
 intro w8 cv iE mr
 have hK:=hK.grow;have hK:=hK.ext cv;have jD:=jD.grow;have jD:=jD.ext cv;have aT:=aT.grow;have aT:=aT.ext cv;have aZ:=aZ.grow;have aZ:=aZ.ext cv;have aI:=aI.grow;have aI:=aI.ext cv;have hO:=hO.alloc cv mr;have ht:=ht.grow;have ht:=ht.ext cv
 refine dw fg rfl rfl rfl iE rfl ?_
 intro w9 aG iE dP
 have hK:=hK.aL aG sx;have jD:=jD.aL aG sx;have aT:=aT.aL aG sx;have aZ:=aZ.aL aG sx;have aI:=aI.aL aG sx;have hO:=hO.aL aG sx;have ht:=ht.aL aG sx
 refine zA<|ag<|aQ<|aQ ?_
 refine ql et aS 18 (rA 75 18) (rA 75 18) [[],[0],[1],[2],[2,3],[2,4],[2,5],[6],[7],[7,8],[7],[7],[7,11],[7,12],[7,13],[7,10,14],[7,9,15],[7,16]] [λv _=>v=(.bool ((ba (aD k.code j)).isSome)),λv _=>v=(.bool (!(ba (aD k.code j)).isSome)),λv _=>v=(.bool (!(ba (aD k.code j)).isSome)),λv _=>(!(ba (aD k.code j)).isSome)=false->v=(.agg #[str t.az,.slice pa t.au.length pc]),λv _=>(!(ba (aD k.code j)).isSome)=false->v=(.bool (dJ t)),λv _=>(!(ba (aD k.code j)).isSome)=false->v=(.bool (!dJ t)),λv _=>v=(.bool (!(ba (aD k.code j)).isSome||!dJ t)),λv _=>v=(.bool (!(ba (aD k.code j)).isSome||!dJ t)),λv _=>(!(ba (aD k.code j)).isSome||!dJ t)=false->v=(.agg #[str t.az,.slice pa t.au.length pc]),λv _=>(!(ba (aD k.code j)).isSome||!dJ t)=false->v=(.bool (rV t)),λv _=>(!(ba (aD k.code j)).isSome||!dJ t)=false->v=(.int .i64 (j:Int)),λv _=>(!(ba (aD k.code j)).isSome||!dJ t)=false->v=(.pointer (some ⟨w.heap.size,0+2,none⟩)),λv _=>(!(ba (aD k.code j)).isSome||!dJ t)=false->v=(.slice (some ⟨b,off,none⟩) n2 c2),λv _=>(!(ba (aD k.code j)).isSome||!dJ t)=false->v=(.int .i64 (n2:Int)),λv _=>(!(ba (aD k.code j)).isSome||!dJ t)=false->v=(.int .i64 ((n2:Int)-1)),λv _=>(!(ba (aD k.code j)).isSome||!dJ t)=false->v=(.bool (decide ((j:Int)=(n2:Int)-1))),λv _=>(!(ba (aD k.code j)).isSome||!dJ t)=false->v=(.bool (rV t !=decide ((j:Int)=(n2:Int)-1))),λv _=>v=(.bool ((!(ba (aD k.code j)).isSome||!dJ t)||(rV t !=decide ((j:Int)=(n2:Int)-1))))] de (cZ (cZ (cZ (eX (eX (eX (cZ (cZ (eX (eX (eX (eX (eX (eX (eX (eX (eX (cZ trivial)))))))))))))))))) (λwd aB=>?_) ?_
 refine bN ?_ ?_
 intro x vs cO e bV hd he
 replace bV:=aS.trans aB bV
 replace he:e=aM (aN _ x _) []:=he
 subst he
 refine zm<|ag ?_
 exact dn (aS.refl _) rfl
 refine bN ?_ ?_
 intro x vs cO e bV hd he
 have d0:vs 0=(.bool ((ba (aD k.code j)).isSome)):=hd
 replace bV:=aS.trans aB bV
 replace he:e=aM (aN _ x _) [(75,vs 0)]:=he
 rw[d0] at he
 subst he
 refine eM rfl<|ag ?_
 exact dn (aS.refl _) rfl
 refine bN ?_ ?_
 intro x vs cO e bV hd he
 have d1:vs 1=(.bool (!(ba (aD k.code j)).isSome)):=hd
 replace bV:=aS.trans aB bV
 replace he:e=aM (aN _ x _) [(76,vs 1)]:=he
 rw[d1] at he
 subst he
 refine zm<|ag ?_
 exact dn (aS.refl _) rfl
 refine bN ?_ ?_
 intro x vs cO e bV hd he
 have d2:vs 2=(.bool (!(ba (aD k.code j)).isSome)):=hd
 replace bV:=aS.trans aB bV
 have iE:=iE.ext bV
 rcases bE (!(ba (aD k.code j)).isSome) with hg|hg
 rw[hg] at d2
 replace he:e=aM (aN _ x _) [(77,vs 2)]:=he
 rw[d2] at he
 subst he
 refine zs<|ag ?_
 exact dn (aS.refl _) (show(!(ba (aD k.code j)).isSome)=false->_=(_:Value) from λhh=>nomatch hg.symm.trans hh)
 rw[hg] at d2
 replace he:e=aM (aN _ x _) [(77,vs 2)]:=he
 rw[d2] at he
 subst he
 refine zL ka fg rfl iE.all rfl<|ag ?_
 exact dn (aS.refl _) (show(!(ba (aD k.code j)).isSome)=false->_=((.agg #[str t.az,.slice pa t.au.length pc]):Value) from λ_=>rfl)
 refine bN ?_ ?_
 intro x vs cO e bV hd he
 have aR:(vs 2=(.bool (!(ba (aD k.code j)).isSome)))∧((!(ba (aD k.code j)).isSome)=false->vs 3=(.agg #[str t.az,.slice pa t.au.length pc])):=hd
 obtain⟨d2,d3⟩:=aR
 replace bV:=aS.trans aB bV
 have ht:=ht.ext bV
 rcases bE (!(ba (aD k.code j)).isSome) with hg|hg
 rw[hg] at d2
 replace he:e=aM (aN _ x _) [(77,vs 2),(78,vs 3)]:=he
 rw[d2] at he
 subst he
 refine zs<|ag ?_
 exact dn (aS.refl _) (show(!(ba (aD k.code j)).isSome)=false->_=(_:Value) from λhh=>nomatch hg.symm.trans hh)
 rw[hg] at d2
 replace d3:=d3 hg
 replace he:e=aM (aN _ x _) [(77,vs 2),(78,vs 3)]:=he
 rw[d2,d3] at he
 subst he
 refine aC (akQ t (dz (by simpa using hg)).2 (dz (by simpa using hg)).1 _ _ cO ht) ?_
 rintro v11 eY ⟨rF,cM⟩
 have CG:=cM.size
 obtain rfl:=rF
 refine ag ?_
 exact dn (aS.of cM) (show(!(ba (aD k.code j)).isSome)=false->_=((.bool (dJ t)):Value) from λ_=>rfl)
 refine bN ?_ ?_
 intro x vs cO e bV hd he
 have aR:(vs 2=(.bool (!(ba (aD k.code j)).isSome)))∧((!(ba (aD k.code j)).isSome)=false->vs 4=(.bool (dJ t))):=hd
 obtain⟨d2,d4⟩:=aR
 replace bV:=aS.trans aB bV
 rcases bE (!(ba (aD k.code j)).isSome) with hg|hg
 rw[hg] at d2
 replace he:e=aM (aN _ x _) [(77,vs 2),(79,vs 4)]:=he
 rw[d2] at he
 subst he
 refine zs<|ag ?_
 exact dn (aS.refl _) (show(!(ba (aD k.code j)).isSome)=false->_=(_:Value) from λhh=>nomatch hg.symm.trans hh)
 rw[hg] at d2
 replace d4:=d4 hg
 replace he:e=aM (aN _ x _) [(77,vs 2),(79,vs 4)]:=he
 rw[d2,d4] at he
 subst he
 refine eM rfl<|ag ?_
 exact dn (aS.refl _) (show(!(ba (aD k.code j)).isSome)=false->_=((.bool (!dJ t)):Value) from λ_=>rfl)
 refine bN ?_ ?_
 intro x vs cO e bV hd he
 have aR:(vs 2=(.bool (!(ba (aD k.code j)).isSome)))∧((!(ba (aD k.code j)).isSome)=false->vs 5=(.bool (!dJ t))):=hd
 obtain⟨d2,d5⟩:=aR
 replace bV:=aS.trans aB bV
 rcases bE (!(ba (aD k.code j)).isSome) with hg|hg
 rw[hg] at d2
 replace he:e=aM (aN _ x _) [(77,vs 2),(80,vs 5)]:=he
 rw[d2] at he
 subst he
 refine zp rfl<|ag ?_
 exact dn (aS.refl _) (by first|rfl|(rw[hg];rfl))
 rw[hg] at d2
 replace d5:=d5 hg
 replace he:e=aM (aN _ x _) [(77,vs 2),(80,vs 5)]:=he
 rw[d2,d5] at he
 subst he
 refine zp rfl<|ag ?_
 exact dn (aS.refl _) (by first|rfl|(rw[hg];rfl))
 refine bN ?_ ?_
 intro x vs cO e bV hd he
 have d6:vs 6=(.bool (!(ba (aD k.code j)).isSome||!dJ t)):=hd
 replace bV:=aS.trans aB bV
 replace he:e=aM (aN _ x _) [(81,vs 6)]:=he
 rw[d6] at he
 subst he
 refine zm<|ag ?_
 exact dn (aS.refl _) rfl
 refine bN ?_ ?_
 intro x vs cO e bV hd he
 have d7:vs 7=(.bool (!(ba (aD k.code j)).isSome||!dJ t)):=hd
 replace bV:=aS.trans aB bV
 have iE:=iE.ext bV
 rcases bE (!(ba (aD k.code j)).isSome||!dJ t) with hg|hg
 rw[hg] at d7
 replace he:e=aM (aN _ x _) [(82,vs 7)]:=he
 rw[d7] at he
 subst he
 refine zs<|ag ?_
 exact dn (aS.refl _) (show(!(ba (aD k.code j)).isSome||!dJ t)=false->_=(_:Value) from λhh=>nomatch hg.symm.trans hh)
 rw[hg] at d7
 replace he:e=aM (aN _ x _) [(82,vs 7)]:=he
 rw[d7] at he
 subst he
 refine zL ka fg rfl iE.all rfl<|ag ?_
 exact dn (aS.refl _) (show(!(ba (aD k.code j)).isSome||!dJ t)=false->_=((.agg #[str t.az,.slice pa t.au.length pc]):Value) from λ_=>rfl)
 refine bN ?_ ?_
 intro x vs cO e bV hd he
 have aR:(vs 7=(.bool (!(ba (aD k.code j)).isSome||!dJ t)))∧((!(ba (aD k.code j)).isSome||!dJ t)=false->vs 8=(.agg #[str t.az,.slice pa t.au.length pc])):=hd
 obtain⟨d7,d8⟩:=aR
 replace bV:=aS.trans aB bV
 have ht:=ht.ext bV
 rcases bE (!(ba (aD k.code j)).isSome||!dJ t) with hg|hg
 rw[hg] at d7
 replace he:e=aM (aN _ x _) [(82,vs 7),(83,vs 8)]:=he
 rw[d7] at he
 subst he
 refine zs<|ag ?_
 exact dn (aS.refl _) (show(!(ba (aD k.code j)).isSome||!dJ t)=false->_=(_:Value) from λhh=>nomatch hg.symm.trans hh)
 rw[hg] at d7
 replace d8:=d8 hg
 replace he:e=aM (aN _ x _) [(82,vs 7),(83,vs 8)]:=he
 rw[d7,d8] at he
 subst he
 refine aC (akS t (dz (by rw[Bool.or_eq_false_iff] at hg;simpa using hg.1)).1 _ _ cO ht) ?_
 rintro v11 eY ⟨rF,cM⟩
 have CG:=cM.size
 obtain rfl:=rF
 refine ag ?_
 exact dn (aS.of cM) (show(!(ba (aD k.code j)).isSome||!dJ t)=false->_=((.bool (rV t)):Value) from λ_=>rfl)
 refine bN ?_ ?_
 intro x vs cO e bV hd he
 have d7:vs 7=(.bool (!(ba (aD k.code j)).isSome||!dJ t)):=hd
 replace bV:=aS.trans aB bV
 rcases bE (!(ba (aD k.code j)).isSome||!dJ t) with hg|hg
 rw[hg] at d7
 replace he:e=aM (aN _ x _) [(82,vs 7)]:=he
 rw[d7] at he
 subst he
 refine zs<|ag ?_
 exact dn (aS.refl _) (show(!(ba (aD k.code j)).isSome||!dJ t)=false->_=(_:Value) from λhh=>nomatch hg.symm.trans hh)
 rw[hg] at d7
 replace he:e=aM (aN _ x _) [(82,vs 7)]:=he
 rw[d7] at he
 subst he
 refine zm<|ag ?_
 exact dn (aS.refl _) (show(!(ba (aD k.code j)).isSome||!dJ t)=false->_=((.int .i64 (j:Int)):Value) from λ_=>rfl)
 refine bN ?_ ?_
 intro x vs cO e bV hd he
 have d7:vs 7=(.bool (!(ba (aD k.code j)).isSome||!dJ t)):=hd
 replace bV:=aS.trans aB bV
 rcases bE (!(ba (aD k.code j)).isSome||!dJ t) with hg|hg
 rw[hg] at d7
 replace he:e=aM (aN _ x _) [(82,vs 7)]:=he
 rw[d7] at he
 subst he
 refine zs<|ag ?_
 exact dn (aS.refl _) (show(!(ba (aD k.code j)).isSome||!dJ t)=false->_=(_:Value) from λhh=>nomatch hg.symm.trans hh)
 rw[hg] at d7
 replace he:e=aM (aN _ x _) [(82,vs 7)]:=he
 rw[d7] at he
 subst he
 refine zf mV rfl<|ag ?_
 exact dn (aS.refl _) (show(!(ba (aD k.code j)).isSome||!dJ t)=false->_=((.pointer (some ⟨w.heap.size,0+2,none⟩)):Value) from λ_=>rfl)
 refine bN ?_ ?_
 intro x vs cO e bV hd he
 have aR:(vs 7=(.bool (!(ba (aD k.code j)).isSome||!dJ t)))∧((!(ba (aD k.code j)).isSome||!dJ t)=false->vs 11=(.pointer (some ⟨w.heap.size,0+2,none⟩))):=hd
 obtain⟨d7,d11⟩:=aR
 replace bV:=aS.trans aB bV
 have aT:=aT.ext bV
 rcases bE (!(ba (aD k.code j)).isSome||!dJ t) with hg|hg
 rw[hg] at d7
 replace he:e=aM (aN _ x _) [(82,vs 7),(86,vs 11)]:=he
 rw[d7] at he
 subst he
 refine zs<|ag ?_
 exact dn (aS.refl _) (show(!(ba (aD k.code j)).isSome||!dJ t)=false->_=(_:Value) from λhh=>nomatch hg.symm.trans hh)
 rw[hg] at d7
 replace d11:=d11 hg
 replace he:e=aM (aN _ x _) [(82,vs 7),(86,vs 11)]:=he
 rw[d7,d11] at he
 subst he
 refine zl eS rfl (aT.at rfl)<|ag ?_
 exact dn (aS.refl _) (show(!(ba (aD k.code j)).isSome||!dJ t)=false->_=((.slice (some ⟨b,off,none⟩) n2 c2):Value) from λ_=>rfl)
 refine bN ?_ ?_
 intro x vs cO e bV hd he
 have aR:(vs 7=(.bool (!(ba (aD k.code j)).isSome||!dJ t)))∧((!(ba (aD k.code j)).isSome||!dJ t)=false->vs 12=(.slice (some ⟨b,off,none⟩) n2 c2)):=hd
 obtain⟨d7,d12⟩:=aR
 replace bV:=aS.trans aB bV
 rcases bE (!(ba (aD k.code j)).isSome||!dJ t) with hg|hg
 rw[hg] at d7
 replace he:e=aM (aN _ x _) [(82,vs 7),(87,vs 12)]:=he
 rw[d7] at he
 subst he
 refine zs<|ag ?_
 exact dn (aS.refl _) (show(!(ba (aD k.code j)).isSome||!dJ t)=false->_=(_:Value) from λhh=>nomatch hg.symm.trans hh)
 rw[hg] at d7
 replace d12:=d12 hg
 replace he:e=aM (aN _ x _) [(82,vs 7),(87,vs 12)]:=he
 rw[d7,d12] at he
 subst he
 refine dZ bh rfl<|ag ?_
 exact dn (aS.refl _) (show(!(ba (aD k.code j)).isSome||!dJ t)=false->_=((.int .i64 (n2:Int)):Value) from λ_=>rfl)
 refine bN ?_ ?_
 intro x vs cO e bV hd he
 have aR:(vs 7=(.bool (!(ba (aD k.code j)).isSome||!dJ t)))∧((!(ba (aD k.code j)).isSome||!dJ t)=false->vs 13=(.int .i64 (n2:Int))):=hd
 obtain⟨d7,d13⟩:=aR
 replace bV:=aS.trans aB bV
 rcases bE (!(ba (aD k.code j)).isSome||!dJ t) with hg|hg
 rw[hg] at d7
 replace he:e=aM (aN _ x _) [(82,vs 7),(88,vs 13)]:=he
 rw[d7] at he
 subst he
 refine zs<|ag ?_
 exact dn (aS.refl _) (show(!(ba (aD k.code j)).isSome||!dJ t)=false->_=(_:Value) from λhh=>nomatch hg.symm.trans hh)
 rw[hg] at d7
 replace d13:=d13 hg
 replace he:e=aM (aN _ x _) [(82,vs 7),(88,vs 13)]:=he
 rw[d7,d13] at he
 subst he
 refine mN rfl rfl rfl rfl rfl (wrap_i64 _ om om)<|ag ?_
 exact dn (aS.refl _) (show(!(ba (aD k.code j)).isSome||!dJ t)=false->_=((.int .i64 ((n2:Int)-1)):Value) from λ_=>rfl)
 refine bN ?_ ?_
 intro x vs cO e bV hd he
 have aR:(vs 7=(.bool (!(ba (aD k.code j)).isSome||!dJ t)))∧((!(ba (aD k.code j)).isSome||!dJ t)=false->vs 10=(.int .i64 (j:Int)))∧((!(ba (aD k.code j)).isSome||!dJ t)=false->vs 14=(.int .i64 ((n2:Int)-1))):=hd
 obtain⟨d7,d10,d14⟩:=aR
 replace bV:=aS.trans aB bV
 rcases bE (!(ba (aD k.code j)).isSome||!dJ t) with hg|hg
 rw[hg] at d7
 replace he:e=aM (aN _ x _) [(82,vs 7),(85,vs 10),(89,vs 14)]:=he
 rw[d7] at he
 subst he
 refine zs<|ag ?_
 exact dn (aS.refl _) (show(!(ba (aD k.code j)).isSome||!dJ t)=false->_=(_:Value) from λhh=>nomatch hg.symm.trans hh)
 rw[hg] at d7
 replace d10:=d10 hg
 replace d14:=d14 hg
 replace he:e=aM (aN _ x _) [(82,vs 7),(85,vs 10),(89,vs 14)]:=he
 rw[d7,d10,d14] at he
 subst he
 refine dQ rfl rfl rfl<|ag ?_
 exact dn (aS.refl _) (show(!(ba (aD k.code j)).isSome||!dJ t)=false->_=((.bool (decide ((j:Int)=(n2:Int)-1))):Value) from λ_=>rfl)
 refine bN ?_ ?_
 intro x vs cO e bV hd he
 have aR:(vs 7=(.bool (!(ba (aD k.code j)).isSome||!dJ t)))∧((!(ba (aD k.code j)).isSome||!dJ t)=false->vs 9=(.bool (rV t)))∧((!(ba (aD k.code j)).isSome||!dJ t)=false->vs 15=(.bool (decide ((j:Int)=(n2:Int)-1)))):=hd
 obtain⟨d7,d9,d15⟩:=aR
 replace bV:=aS.trans aB bV
 rcases bE (!(ba (aD k.code j)).isSome||!dJ t) with hg|hg
 rw[hg] at d7
 replace he:e=aM (aN _ x _) [(82,vs 7),(84,vs 9),(90,vs 15)]:=he
 rw[d7] at he
 subst he
 refine zs<|ag ?_
 exact dn (aS.refl _) (show(!(ba (aD k.code j)).isSome||!dJ t)=false->_=(_:Value) from λhh=>nomatch hg.symm.trans hh)
 rw[hg] at d7
 replace d9:=d9 hg
 replace d15:=d15 hg
 replace he:e=aM (aN _ x _) [(82,vs 7),(84,vs 9),(90,vs 15)]:=he
 rw[d7,d9,d15] at he
 subst he
 refine Kg HH rfl rfl rfl rfl<|ag ?_
 exact dn (aS.refl _) (show(!(ba (aD k.code j)).isSome||!dJ t)=false->_=((.bool (rV t !=decide ((j:Int)=(n2:Int)-1))):Value) from λ_=>rfl)
 refine bN ?_ ?_
 intro x vs cO e bV hd he
 have aR:(vs 7=(.bool (!(ba (aD k.code j)).isSome||!dJ t)))∧((!(ba (aD k.code j)).isSome||!dJ t)=false->vs 16=(.bool (rV t !=decide ((j:Int)=(n2:Int)-1)))):=hd
 obtain⟨d7,d16⟩:=aR
 replace bV:=aS.trans aB bV
 rcases bE (!(ba (aD k.code j)).isSome||!dJ t) with hg|hg
 rw[hg] at d7
 replace he:e=aM (aN _ x _) [(82,vs 7),(91,vs 16)]:=he
 rw[d7] at he
 subst he
 refine zp rfl<|ag ?_
 exact dn (aS.refl _) (by first|rfl|(rw[hg];rfl))
 rw[hg] at d7
 replace d16:=d16 hg
 replace he:e=aM (aN _ x _) [(82,vs 7),(91,vs 16)]:=he
 rw[d7,d16] at he
 subst he
 refine zp rfl<|ag ?_
 exact dn (aS.refl _) (by first|rfl|(rw[hg];rfl))
 exact trivial
 intro x vs pr jE bJ
 have d0:vs 0=(.bool ((ba (aD k.code j)).isSome)):=bJ 0 de
 have d1:vs 1=(.bool (!(ba (aD k.code j)).isSome)):=bJ 1 de
 have d2:vs 2=(.bool (!(ba (aD k.code j)).isSome)):=bJ 2 de
 have d3:(!(ba (aD k.code j)).isSome)=false->vs 3=(.agg #[str t.az,.slice pa t.au.length pc]):=bJ 3 de
 have d4:(!(ba (aD k.code j)).isSome)=false->vs 4=(.bool (dJ t)):=bJ 4 de
 have d5:(!(ba (aD k.code j)).isSome)=false->vs 5=(.bool (!dJ t)):=bJ 5 de
 have d6:vs 6=(.bool (!(ba (aD k.code j)).isSome||!dJ t)):=bJ 6 de
 have d7:vs 7=(.bool (!(ba (aD k.code j)).isSome||!dJ t)):=bJ 7 de
 have d8:(!(ba (aD k.code j)).isSome||!dJ t)=false->vs 8=(.agg #[str t.az,.slice pa t.au.length pc]):=bJ 8 de
 have d9:(!(ba (aD k.code j)).isSome||!dJ t)=false->vs 9=(.bool (rV t)):=bJ 9 de
 have d10:(!(ba (aD k.code j)).isSome||!dJ t)=false->vs 10=(.int .i64 (j:Int)):=bJ 10 de
 have d11:(!(ba (aD k.code j)).isSome||!dJ t)=false->vs 11=(.pointer (some ⟨w.heap.size,0+2,none⟩)):=bJ 11 de
 have d12:(!(ba (aD k.code j)).isSome||!dJ t)=false->vs 12=(.slice (some ⟨b,off,none⟩) n2 c2):=bJ 12 de
 have d13:(!(ba (aD k.code j)).isSome||!dJ t)=false->vs 13=(.int .i64 (n2:Int)):=bJ 13 de
 have d14:(!(ba (aD k.code j)).isSome||!dJ t)=false->vs 14=(.int .i64 ((n2:Int)-1)):=bJ 14 de
 have d15:(!(ba (aD k.code j)).isSome||!dJ t)=false->vs 15=(.bool (decide ((j:Int)=(n2:Int)-1))):=bJ 15 de
 have d16:(!(ba (aD k.code j)).isSome||!dJ t)=false->vs 16=(.bool (rV t !=decide ((j:Int)=(n2:Int)-1))):=bJ 16 de
 have d17:vs 17=(.bool ((!(ba (aD k.code j)).isSome||!dJ t)||(rV t !=decide ((j:Int)=(n2:Int)-1)))):=bJ 17 de
 have hK:=hK.ext jE;have jD:=jD.ext jE;have aT:=aT.ext jE;have aZ:=aZ.ext jE;have aI:=aI.ext jE;have hO:=hO.ext jE;have ht:=ht.ext jE;have iE:=iE.ext jE
 change OW _ _ _ _ [] (aM (aN _ x _) (zZ 75 [vs 0,vs 1,vs 2,vs 3,vs 4,vs 5,vs 6,vs 7,vs 8,vs 9,vs 10,vs 11,vs 12,vs 13,vs 14,vs 15,vs 16,vs 17])) _
 rw[d0,d1,d2,d6,d7,d17]
 refine ag<|zc rfl (λh8=>?_) (λh8=>?_)
 rw[Q4 mP om hp] at h8
 have hq:=abA (b:=k) (i:=j) om (by simpa using h8)
 refine zr<|j7 (Kz _) rfl rfl<|dw mW rfl rfl rfl aZ rfl ?_
 intro oo jn aZ ak2
 have hK:=hK.aL jn sx
 refine zA<|ag<|aV ?_
 exact⟨[_,_],⟨gQ Br mW rfl aZ rfl,rfl⟩,Pl hq,hK⟩
 rw[Q4 mP om hp] at h8
 have mY:sD k.code j=true:=by simpa using h8
 refine bz<|df<|zf PW rfl<|zl sw rfl (aI.at rfl)<|zL ka fg rfl iE.all rfl<|gH nP fg rfl rfl ?_
 intro oo jn GS ak2
 have hK:=hK.ext jn;have jD:=jD.ext jn;have aT:=aT.ext jn;have aZ:=aZ.ext jn;have aI:=aI.ext jn;have hO:=hO.ext jn;have ht:=ht.ext jn
 refine K5 nP fg rfl rfl rfl rfl rfl rfl hO GS ht.K6 (by rw[HX _ aq];omega) ?_
 intro a3 Hs g3 lS og lB
 have WA:=lB.size
 have hK:=ak.QG om hO.low hK lB
 have jD:=hO.since jD lB
 have aT:=aT.aL lB (hO.QF om);have aZ:=aZ.aL lB (hO.Dr sm);have aI:=aI.aL lB (hO.Dr sm)
 rw[abC mY hp,Lf tr gh] at og⊢
 refine zf PW rfl<|gY KN rfl rfl rfl aI rfl ?_
 intro AO oV aI aeL
 have hK:=hK.aL oV sx;have jD:=jD.aL oV sx;have aT:=aT.aL oV sx;have aZ:=aZ.aL oV sx;have og:=og.aL oV sx
 refine ag<|df<|eI rfl rfl rfl (wrap_i64 _ om om)<|zm<|ag ?_
 exact⟨(j+1,a3,Hs,g3),⟨rfl,rfl,rfl,rfl,rfl,rfl⟩,⟨hK,jD,aT,aZ,aI,og.jk (λx hx=>mK _ hx),by dsimp only;omega,by intro i2 hj;rcases Nat.lt_or_ge i2 j with h|h;exact dA i2 h;rw[show i2=j by dsimp only at hj;omega];exact mY⟩,by dsimp only;omega⟩
 have hq:=QA tG K4 (λi hi=>dA i om)
 have hqI:oG k=true:=by unfold oG;rw[hq,o5];rfl
 rw[Lg tr om] at aI hO
 refine gD<|gF rfl<|zr<|zL Br mW rfl aI.all rfl<|dw mW rfl rfl rfl aZ rfl ?_
 intro w7 cz aZ qm
 have hK:=hK.aL cz sx;have jD:=jD.aL cz sx;have hO:=hO.aL cz sx
 refine zA<|ag<|aV ?_
 exact⟨[_,_],⟨gQ Br mW rfl aZ rfl,rfl⟩,⟨fV k,_,by rw[hqI];rfl,Lj (l:=k.aP) ((NH.aL jD sm).jk (λx hx=>by simp[hx])) (hO.trees.jk (λx hx=>by simp[hx])),λ_=>rfl⟩,hK⟩
def ak4 (k:gB) (l:aj) (b1:Nat) (v:Value) (L:List Nat) (w:World) (hv:nT L w v k) (aT:aY w b1 [str l].toArray 9):
  ck Tryz.prog 54 [v,.pointer (some ⟨b1,0,none⟩)] w λr w'=>r= .bool (decide (k.aP=l))∧ak [] w w':=by
 obtain⟨a1,c1,a2,c2,rfl,cW,cU⟩:=Q8 hv
 have hK:=ak.refl [] w
 refine cX [.tmp 3] 8 Tryz.func54 rfl Zi rfl rfl ?_
 refine zr<|fG rfl ?_
 intro w1 aK aZ eh
 have hK:=hK.ext aK;have aT:=aT.ext aK
 refine zA<|ag<|zr<|zf KI rfl<|zl cm rfl (aZ.at rfl)<|zl cm rfl (aT.at rfl)<|cY rfl rfl<|zA<|ag<|aV ?_
 exact⟨_,rfl,rfl,hK⟩
def ak5 (ps:List gB) (hlen:ps.length<1000000000) (g:gB->Bool) (f:FuncId) (caps:List Value) (v:Value) (L:List Nat) (w:World) (hv:sF L w v ps)
  (hf:∀i,i<ps.length->∀(u:Value) (w':World),ak [] w w'->nT L w' u (wi ps i)->ck Tryz.prog f (u::caps) w' λr w''=>r= .bool (g (wi ps i))∧ak [] w' w''):
  ck Tryz.prog 53 [v,.func (.func f) #[] caps.toArray] w λr w'=>r= .int .i64 (Fj ps g)∧ak [] w w':=by
 obtain⟨a,c,rfl⟩:=abJ hv
 have hK:=ak.refl [] w
 refine cX [.tmp 4] 19 Tryz.func53 rfl Zh rfl rfl ?_
 refine zr<|zA<|ag<|aQ<|zr<|zm<|dZ Dh rfl<|zm<|ag<|cS ?_
 refine fY (λk:Nat=>[(0,.slice a ps.length c),(1,.func (.func f) #[] caps.toArray),(7,.int .i64 (ps.length:Int)),(8,.int .i64 (k:Int))]) (λk w'=>ak [] w w'∧k<=ps.length∧∀i,i<k->g (wi ps i)=false) (λk=>ps.length-k) (0) (⟨rfl,rfl,rfl,rfl⟩) (⟨hK,om,by intro i hi;omega⟩) ?_
 intro gg w1 e1 hI
 obtain⟨hK,hk,dA⟩:=hI
 have hv:=hv.ext hK
 refine zr<|fA rfl rfl rfl<|ag<|aQ<|zc rfl (λh1=>?_) (λh1=>?_)
 have hp:=Q5 (ps:=ps) (i:=gg) om
 obtain⟨b,off,a1,c1,a2,c2,rfl,hc,qp,uO⟩:=Ra hv hp
 refine bz<|aQ<|cS<|zr<|zm<|zA<|ag<|zr<|zm<|zm<|zm<|zi Dh mW rfl rfl om<|zL Br mW rfl hc rfl<|PM rfl rfl rfl (hf gg om _ w1 hK (Lj qp uO)) ?_
 rintro v2 w2 ⟨dC,aq⟩
 have eH:=aq.size
 have hK:=hK.ext aq
 obtain rfl:=dC
 refine ag<|zc rfl (λh2=>?_) (λh2=>?_)
 have hq:=abD om dA h2
 refine zr<|zm<|zA<|ag<|aV ?_
 exact⟨_,rfl,by rw[hq];rfl,hK⟩
 refine bz<|df<|eI rfl rfl rfl (wrap_i64 _ om om)<|zm<|ag ?_
 exact⟨gg+1,⟨rfl,rfl,rfl,rfl⟩,⟨hK,om,by intro i hi;rcases Nat.lt_or_ge i gg with h|h;exact dA i h;rw[show i=gg by omega];exact h2⟩,om⟩
 have hq:=abE (λi hi=>dA i om)
 refine gD<|gF rfl<|zr<|zA<|ag<|aV ?_
 exact⟨_,rfl,by rw[hq];rfl,hK⟩
def WB (ps:List gB) (hlen:ps.length<1000000000) (l:aj) (v:Value) (L:List Nat) (w:World) (hv:sF L w v ps):
  ck Tryz.prog 27 [v,str l] w λr w'=>r= .int .i64 (zV ps l)∧ak [] w w':=by
 have hK:=ak.refl [] w
 refine cX [.tmp 4] 8 Tryz.func27 rfl Y1 rfl rfl ?_
 refine zr<|Kh rfl rfl rfl ?_
 intro w1 aK bR eh
 have hK:=hK.ext aK;have hv:=hv.ext aK
 refine zA<|ag<|zr<|zm<|PL (vs:=[.pointer (some ⟨w.heap.size,0,none⟩)]) rfl rfl rfl<|aC (ak5 ps hlen (λb=>decide (b.aP=l)) 54 [.pointer (some ⟨w.heap.size,0,none⟩)] _ L w1 hv (λi hi u w' k hu=>ak4 (wi ps i) l _ _ L _ hu (bR.ext k))) ?_
 rintro v2 w2 ⟨dC,aq⟩
 have eH:=aq.size
 have hK:=hK.ext aq
 obtain rfl:=dC
 refine zA<|ag<|aV ?_
 exact⟨_,rfl,rfl,hK⟩
def ak6 (L:List Nat) (bs:List Bk) (v:Value) (w:World):Prop:=∃ps pv,v= .tuple #[pv,.bool (tH bs)]∧sF L w pv ps∧(tH bs=true->ps=bs.map fV)
def ak7 (bs:List Bk) (hb:BE bs) (v:Value) (Li L:List Nat) (w:World) (hv:ko Li w v bs) (hL:∀x,x∈L->x<w.heap.size):
  ck Tryz.prog 26 [v] w λr w'=>ak6 L bs r w'∧ak [] w w':=by
 obtain⟨a,n,c,rfl,hn⟩:=BA hv
 have hK:=ak.refl [] w
 have iG:=hb.1
 refine cX [.tmp 2,.tmp 3] 52 Tryz.func26 rfl Y0 rfl rfl ?_
 refine zr<|zA<|zA<|ag<|aQ<|zr<|zm<|dZ iO rfl<|aC (J9 _ _ _ _) ?_
 rintro _ _ ⟨rfl,rfl⟩
 refine eM rfl<|ag<|zc rfl (λh1=>?_) (λh1=>?_)
 have hq:tH bs=false:=abI (λh=>by rw[dT (p:=(1:Int)<=(n:Int)) om,dT (p:=(n:Int)<=40) om] at h1;exact absurd h1 de)
 refine zr<|zA<|zA<|ag<|aV ?_
 exact⟨_,rfl,⟨[],_,by rw[hq];rfl,Q9,by rw[hq];intro h;cases h⟩,hK⟩
 have WC:1<=bs.length∧bs.length<=40:=by have:=h1;simp only[aE,dE] at this;omega
 refine bz<|zr<|zA<|ag<|aQ<|zr<|zm<|dZ iO rfl<|zm<|ag<|cS ?_
 refine fY (λq:Nat×Option Addr×Nat×Option Nat=>[(0,.slice a n c),(4,.slice q.2.1 ((bs.take q.1).map fV).length q.2.2.1),(13,.slice a n c),(14,.int .i64 (n:Int)),(15,.int .i64 (q.1:Int))]) (λq w'=>ak [] w w'∧Gr w.heap.size L w' 53 3 (.slice q.2.1 ((bs.take q.1).map fV).length q.2.2.1) q.2.2.2 (((bs.take q.1).map fV).map gB.enc)∧q.1<=bs.length∧∀i,i<q.1->oG (bB bs i)=true∧kc bs (bB bs i).aP=i) (λq=>bs.length-q.1) ((0,none,0,none)) (⟨rfl,rfl,rfl,rfl,rfl⟩) (⟨hK,Gr.nil hL om,sm,by intro i hi;simp at hi⟩) ?_
 intro gg w1 e1 hI
 obtain⟨i,a1,cc,g⟩:=gg
 dsimp only at hI⊢
 obtain⟨hK,hO,hk,dA⟩:=hI
 have iY:=hK.size
 refine zr<|fA rfl rfl rfl<|ag<|aQ<|zc rfl (λh2=>?_) (λh2=>?_)
 have gh:=sC (bs:=bs) (i:=i) om
 obtain⟨b,off,ra,rn,rc,ca,cn,c3,rfl,hc,rq,xh,dS,eH⟩:=BB hv gh
 have qZ:=hb.2 i om
 refine bz<|aQ<|cS<|zr<|zi iO gT rfl rfl om<|zL Bq gT rfl (hc.ext hK) rfl<|eD gT rfl rfl rfl ?_
 intro w2 aq bQ eO
 have hK:=hK.grow;have hK:=hK.ext aq;have hO:=hO.alloc aq eO
 refine dw gT rfl rfl rfl bQ rfl ?_
 intro w3 aJ bQ iJ
 have hK:=hK.aL aJ sx;have hO:=hO.aL aJ sx
 refine ag<|zr<|zL Bq gT rfl bQ.all rfl<|aC (ak1 (bB bs i) qZ.1 qZ.2.1 qZ.2.2 _ _ (g.toList++(w1.heap.size::L)) w3 (qY.ext (Dp dS eH) hK) hO.all) ?_
 rintro v4 w4 ⟨eJ,aF⟩
 have gK:=aF.size
 have hK:=hK.ext aF;have hO:=hO.ext aF
 obtain⟨ib,bv,rfl,ht,hp⟩:=eJ
 obtain⟨b1a,b1c,b2a,b2c,rfl,_,_⟩:=Q8 ht
 refine zm<|zx (i:=0) rfl rfl<|zx (i:=1) rfl rfl<|eD mW rfl rfl rfl ?_
 intro w5 aU cI jr
 have hK:=hK.grow;have hK:=hK.ext aU;have hO:=hO.alloc aU jr;have ht:=ht.grow;have ht:=ht.ext aU
 refine dw mW rfl rfl rfl cI rfl ?_
 intro w6 bF cI lI
 have hK:=hK.aL bF sx;have hO:=hO.aL bF sx;have ht:=ht.aL bF sx
 refine zA<|ag<|aQ<|zr<|zm<|eM rfl<|zm ?_
 apply fB 6 26 32 [26,27,28,29,30,31,32] (ak [] w6) rfl
 intro h3
 replace h3:=bw h3
 have Ht:=ak.refl [] w6
 refine zs<|zs<|zs<|zs<|zs<|zp rfl<|ag ?_
 exact mg rfl Ht
 intro h3
 replace h3:=bw h3
 have Ht:=ak.refl [] w6
 have A8:oG (bB bs i)=true:=by simpa using h3
 have hib:=hp A8
 subst hib
 refine zm<|zf KI rfl<|zl cm rfl (cI.at rfl)<|aC (WB ((bs.take i).map fV) (by rw[HX _ hk];omega) (bB bs i).aP _ L w6 (hO.prog.jk (λx hx=>by simp[hx]))) ?_
 rintro v7 w7 ⟨iV,cz⟩
 have po:=cz.size
 have Ht:=Ht.ext cz
 obtain rfl:=iV
 refine l0 rfl rfl rfl rfl rfl<|zp rfl<|ag ?_
 exact mg rfl Ht
 intro xx w8 cv
 have hK:=hK.ext cv;have hO:=hO.ext cv;have ht:=ht.ext cv;have cI:=cI.ext cv
 refine ag<|zc rfl (λh4=>?_) (λh4=>?_)
 have hq:tH bs=false:=abG (i:=i) om (by simp only[oE,Bool.not_eq_true'] at h4;rcases h4 with h|h;exact .inl h;rw[Q6 om] at h;exact .inr (of_decide_eq_true h))
 refine zr<|zA<|zA<|ag<|aV ?_
 exact⟨_,rfl,⟨[],_,by rw[hq];rfl,Q9,by rw[hq];intro h;cases h⟩,hK⟩
 have A8:oG (bB bs i)=true∧kc bs (bB bs i).aP=i:=by simp only[Bool.or_eq_false_iff,Bool.not_eq_false'] at h4;rw[Q6 om] at h4;exact⟨h4.1,Classical.byContradiction (of_decide_eq_false h4.2)⟩
 refine bz<|df<|zm<|zL Br mW rfl cI.all rfl<|gH Dh mW rfl rfl ?_
 intro w9 aG ak9 dP
 have hK:=hK.ext aG;have hO:=hO.ext aG;have ht:=ht.ext aG
 refine abK Dh mW rfl rfl rfl rfl rfl rfl hO ak9 (ht.jk (λx hx=>by simp at hx⊢;rcases hx with h|h|h<;>simp[h])) (by rw[HX _ hk];omega) ?_
 intro a3 Hs g3 cO og bV
 have WA:=bV.size
 have hK:=hO.since hK bV
 rw[hp A8.1,Lf fV gh] at og⊢
 refine zA<|ag<|df<|eI rfl rfl rfl (wrap_i64 _ om om)<|zm<|ag ?_
 exact⟨(i+1,a3,Hs,g3),⟨rfl,rfl,rfl,rfl,rfl⟩,⟨hK,og.jk (λx hx=>by simp[hx]),by dsimp only;omega,by intro i2 hj;rcases Nat.lt_or_ge i2 i with h|h;exact dA i2 h;rw[show i2=i by dsimp only at hj;omega];exact A8⟩,by dsimp only;omega⟩
 have hq:=abH (λj hj=>dA j om)
 rw[Lg fV om] at hO⊢
 obtain⟨b,off,r1,Ka,r2,rc2,rfl,hc,cW,cU⟩:=Ra hO.prog (Q5 (ps:=bs.map fV) (i:=0) so)
 have e0:wi (bs.map fV) 0=fV (bB bs 0):=by simp[gE (show 0<bs.length by omega)]
 rw[e0] at hc cW cU
 refine gD<|gF rfl<|aQ ?_
 refine ql et aS 16 (rA 38 14++[2,3]) (rA 38 14++[2,3]) [[],[],[1],[2],[3],[4],[5],[6],[6,7],[6,8],[6,9],[6,10],[6,11],[6,12],[0],[13]] [λv _=>v=(.slice (some ⟨b,off,none⟩) (bs.map fV).length cc),λv _=>v=(.slice (some ⟨b,off,none⟩) (bs.map fV).length cc),λv _=>v=(.pointer (some ⟨b,off+0*3,none⟩)),λv _=>v=(.pointer (some ⟨b,off+0*3+0,none⟩)),λv _=>v=(str (bB bs 0).aP),λv _=>v=(.bool (decide ((bB bs 0).aP=[109,97,105,110]))),λv _=>v=(.bool (decide ((bB bs 0).aP=[109,97,105,110]))),λv _=>(decide ((bB bs 0).aP=[109,97,105,110]))=true->v=(.slice (some ⟨b,off,none⟩) (bs.map fV).length cc),λv _=>(decide ((bB bs 0).aP=[109,97,105,110]))=true->v=(.pointer (some ⟨b,off+0*3,none⟩)),λv _=>(decide ((bB bs 0).aP=[109,97,105,110]))=true->v=(.pointer (some ⟨b,off+0*3+1,none⟩)),λv _=>(decide ((bB bs 0).aP=[109,97,105,110]))=true->v=(.slice r1 (fV (bB bs 0)).regs.length Ka),λv _=>(decide ((bB bs 0).aP=[109,97,105,110]))=true->v=(.int .i64 ((fV (bB bs 0)).regs.length:Int)),λv _=>(decide ((bB bs 0).aP=[109,97,105,110]))=true->v=(.bool (decide (((fV (bB bs 0)).regs.length:Int)=0))),λv _=>v=(.bool (decide ((bB bs 0).aP=[109,97,105,110])&&decide (((fV (bB bs 0)).regs.length:Int)=0))),λv _=>v=(.slice (some ⟨b,off,none⟩) (bs.map fV).length cc),λv _=>v=(.bool (decide ((bB bs 0).aP=[109,97,105,110])&&decide (((fV (bB bs 0)).regs.length:Int)=0)))] de (cZ (cZ (cZ (cZ (cZ (cZ (cZ (eX (eX (eX (eX (eX (eX (cZ (cZ (cZ trivial)))))))))))))))) (λwd aB=>?_) ?_
 refine bN ?_ ?_
 intro x vs w2 e aq hd he
 replace aq:=aS.trans aB aq
 replace he:e=aM (aN _ x _) []:=he
 subst he
 refine zm<|ag ?_
 exact dn (aS.refl _) rfl
 refine bN ?_ ?_
 intro x vs w2 e aq hd he
 replace aq:=aS.trans aB aq
 replace he:e=aM (aN _ x _) []:=he
 subst he
 refine zm<|ag ?_
 exact dn (aS.refl _) rfl
 refine bN ?_ ?_
 intro x vs w2 e aq hd he
 have d1:vs 1=(.slice (some ⟨b,off,none⟩) (bs.map fV).length cc):=hd
 replace aq:=aS.trans aB aq
 replace he:e=aM (aN _ x _) [(39,vs 1)]:=he
 rw[d1] at he
 subst he
 refine zi (i:=0) Dh mW rfl rfl so<|ag ?_
 exact dn (aS.refl _) rfl
 refine bN ?_ ?_
 intro x vs w2 e aq hd he
 have d2:vs 2=(.pointer (some ⟨b,off+0*3,none⟩)):=hd
 replace aq:=aS.trans aB aq
 replace he:e=aM (aN _ x _) [(40,vs 2)]:=he
 rw[d2] at he
 subst he
 refine zf KI rfl<|ag ?_
 exact dn (aS.refl _) rfl
 refine bN ?_ ?_
 intro x vs w2 e aq hd he
 have d3:vs 3=(.pointer (some ⟨b,off+0*3+0,none⟩)):=hd
 replace aq:=aS.trans aB aq
 have hc:=hc.ext aq
 replace he:e=aM (aN _ x _) [(41,vs 3)]:=he
 rw[d3] at he
 subst he
 refine zl cm rfl (hc 0 _ rfl)<|ag ?_
 exact dn (aS.refl _) rfl
 refine bN ?_ ?_
 intro x vs w2 e aq hd he
 have d4:vs 4=(str (bB bs 0).aP):=hd
 replace aq:=aS.trans aB aq
 replace he:e=aM (aN _ x _) [(42,vs 4)]:=he
 rw[d4] at he
 subst he
 refine cY rfl rfl<|ag ?_
 exact dn (aS.refl _) rfl
 refine bN ?_ ?_
 intro x vs w2 e aq hd he
 have d5:vs 5=(.bool (decide ((bB bs 0).aP=[109,97,105,110]))):=hd
 replace aq:=aS.trans aB aq
 replace he:e=aM (aN _ x _) [(43,vs 5)]:=he
 rw[d5] at he
 subst he
 refine zm<|ag ?_
 exact dn (aS.refl _) rfl
 refine bN ?_ ?_
 intro x vs w2 e aq hd he
 have d6:vs 6=(.bool (decide ((bB bs 0).aP=[109,97,105,110]))):=hd
 replace aq:=aS.trans aB aq
 rcases bE (decide ((bB bs 0).aP=[109,97,105,110])) with hg|hg
 rw[hg] at d6
 replace he:e=aM (aN _ x _) [(44,vs 6)]:=he
 rw[d6] at he
 subst he
 refine zm<|ag ?_
 exact dn (aS.refl _) (show(decide ((bB bs 0).aP=[109,97,105,110]))=true->_=((.slice (some ⟨b,off,none⟩) (bs.map fV).length cc):Value) from λ_=>rfl)
 rw[hg] at d6
 replace he:e=aM (aN _ x _) [(44,vs 6)]:=he
 rw[d6] at he
 subst he
 refine zs<|ag ?_
 exact dn (aS.refl _) (show(decide ((bB bs 0).aP=[109,97,105,110]))=true->_=(_:Value) from λhh=>nomatch hg.symm.trans hh)
 refine bN ?_ ?_
 intro x vs w2 e aq hd he
 have aR:(vs 6=(.bool (decide ((bB bs 0).aP=[109,97,105,110]))))∧((decide ((bB bs 0).aP=[109,97,105,110]))=true->vs 7=(.slice (some ⟨b,off,none⟩) (bs.map fV).length cc)):=hd
 obtain⟨d6,d7⟩:=aR
 replace aq:=aS.trans aB aq
 rcases bE (decide ((bB bs 0).aP=[109,97,105,110])) with hg|hg
 rw[hg] at d6
 replace d7:=d7 hg
 replace he:e=aM (aN _ x _) [(44,vs 6),(45,vs 7)]:=he
 rw[d6,d7] at he
 subst he
 refine zi (i:=0) Dh mW rfl rfl so<|ag ?_
 exact dn (aS.refl _) (show(decide ((bB bs 0).aP=[109,97,105,110]))=true->_=((.pointer (some ⟨b,off+0*3,none⟩)):Value) from λ_=>rfl)
 rw[hg] at d6
 replace he:e=aM (aN _ x _) [(44,vs 6),(45,vs 7)]:=he
 rw[d6] at he
 subst he
 refine zs<|ag ?_
 exact dn (aS.refl _) (show(decide ((bB bs 0).aP=[109,97,105,110]))=true->_=(_:Value) from λhh=>nomatch hg.symm.trans hh)
 refine bN ?_ ?_
 intro x vs w2 e aq hd he
 have aR:(vs 6=(.bool (decide ((bB bs 0).aP=[109,97,105,110]))))∧((decide ((bB bs 0).aP=[109,97,105,110]))=true->vs 8=(.pointer (some ⟨b,off+0*3,none⟩))):=hd
 obtain⟨d6,d8⟩:=aR
 replace aq:=aS.trans aB aq
 rcases bE (decide ((bB bs 0).aP=[109,97,105,110])) with hg|hg
 rw[hg] at d6
 replace d8:=d8 hg
 replace he:e=aM (aN _ x _) [(44,vs 6),(46,vs 8)]:=he
 rw[d6,d8] at he
 subst he
 refine zf KJ rfl<|ag ?_
 exact dn (aS.refl _) (show(decide ((bB bs 0).aP=[109,97,105,110]))=true->_=((.pointer (some ⟨b,off+0*3+1,none⟩)):Value) from λ_=>rfl)
 rw[hg] at d6
 replace he:e=aM (aN _ x _) [(44,vs 6),(46,vs 8)]:=he
 rw[d6] at he
 subst he
 refine zs<|ag ?_
 exact dn (aS.refl _) (show(decide ((bB bs 0).aP=[109,97,105,110]))=true->_=(_:Value) from λhh=>nomatch hg.symm.trans hh)
 refine bN ?_ ?_
 intro x vs w2 e aq hd he
 have aR:(vs 6=(.bool (decide ((bB bs 0).aP=[109,97,105,110]))))∧((decide ((bB bs 0).aP=[109,97,105,110]))=true->vs 9=(.pointer (some ⟨b,off+0*3+1,none⟩))):=hd
 obtain⟨d6,d9⟩:=aR
 replace aq:=aS.trans aB aq
 have hc:=hc.ext aq
 rcases bE (decide ((bB bs 0).aP=[109,97,105,110])) with hg|hg
 rw[hg] at d6
 replace d9:=d9 hg
 replace he:e=aM (aN _ x _) [(44,vs 6),(47,vs 9)]:=he
 rw[d6,d9] at he
 subst he
 refine zl sw rfl (hc 1 _ rfl)<|ag ?_
 exact dn (aS.refl _) (show(decide ((bB bs 0).aP=[109,97,105,110]))=true->_=((.slice r1 (fV (bB bs 0)).regs.length Ka):Value) from λ_=>rfl)
 rw[hg] at d6
 replace he:e=aM (aN _ x _) [(44,vs 6),(47,vs 9)]:=he
 rw[d6] at he
 subst he
 refine zs<|ag ?_
 exact dn (aS.refl _) (show(decide ((bB bs 0).aP=[109,97,105,110]))=true->_=(_:Value) from λhh=>nomatch hg.symm.trans hh)
 refine bN ?_ ?_
 intro x vs w2 e aq hd he
 have aR:(vs 6=(.bool (decide ((bB bs 0).aP=[109,97,105,110]))))∧((decide ((bB bs 0).aP=[109,97,105,110]))=true->vs 10=(.slice r1 (fV (bB bs 0)).regs.length Ka)):=hd
 obtain⟨d6,d10⟩:=aR
 replace aq:=aS.trans aB aq
 rcases bE (decide ((bB bs 0).aP=[109,97,105,110])) with hg|hg
 rw[hg] at d6
 replace d10:=d10 hg
 replace he:e=aM (aN _ x _) [(44,vs 6),(48,vs 10)]:=he
 rw[d6,d10] at he
 subst he
 refine dZ nP rfl<|ag ?_
 exact dn (aS.refl _) (show(decide ((bB bs 0).aP=[109,97,105,110]))=true->_=((.int .i64 ((fV (bB bs 0)).regs.length:Int)):Value) from λ_=>rfl)
 rw[hg] at d6
 replace he:e=aM (aN _ x _) [(44,vs 6),(48,vs 10)]:=he
 rw[d6] at he
 subst he
 refine zs<|ag ?_
 exact dn (aS.refl _) (show(decide ((bB bs 0).aP=[109,97,105,110]))=true->_=(_:Value) from λhh=>nomatch hg.symm.trans hh)
 refine bN ?_ ?_
 intro x vs w2 e aq hd he
 have aR:(vs 6=(.bool (decide ((bB bs 0).aP=[109,97,105,110]))))∧((decide ((bB bs 0).aP=[109,97,105,110]))=true->vs 11=(.int .i64 ((fV (bB bs 0)).regs.length:Int))):=hd
 obtain⟨d6,d11⟩:=aR
 replace aq:=aS.trans aB aq
 rcases bE (decide ((bB bs 0).aP=[109,97,105,110])) with hg|hg
 rw[hg] at d6
 replace d11:=d11 hg
 replace he:e=aM (aN _ x _) [(44,vs 6),(49,vs 11)]:=he
 rw[d6,d11] at he
 subst he
 refine dQ rfl rfl rfl<|ag ?_
 exact dn (aS.refl _) (show(decide ((bB bs 0).aP=[109,97,105,110]))=true->_=((.bool (decide (((fV (bB bs 0)).regs.length:Int)=0))):Value) from λ_=>rfl)
 rw[hg] at d6
 replace he:e=aM (aN _ x _) [(44,vs 6),(49,vs 11)]:=he
 rw[d6] at he
 subst he
 refine zs<|ag ?_
 exact dn (aS.refl _) (show(decide ((bB bs 0).aP=[109,97,105,110]))=true->_=(_:Value) from λhh=>nomatch hg.symm.trans hh)
 refine bN ?_ ?_
 intro x vs w2 e aq hd he
 have aR:(vs 6=(.bool (decide ((bB bs 0).aP=[109,97,105,110]))))∧((decide ((bB bs 0).aP=[109,97,105,110]))=true->vs 12=(.bool (decide (((fV (bB bs 0)).regs.length:Int)=0)))):=hd
 obtain⟨d6,d12⟩:=aR
 replace aq:=aS.trans aB aq
 rcases bE (decide ((bB bs 0).aP=[109,97,105,110])) with hg|hg
 rw[hg] at d6
 replace d12:=d12 hg
 replace he:e=aM (aN _ x _) [(44,vs 6),(50,vs 12)]:=he
 rw[d6,d12] at he
 subst he
 refine zp rfl<|ag ?_
 exact dn (aS.refl _) (by first|rfl|(rw[hg];rfl))
 rw[hg] at d6
 replace he:e=aM (aN _ x _) [(44,vs 6),(50,vs 12)]:=he
 rw[d6] at he
 subst he
 refine zp rfl<|ag ?_
 exact dn (aS.refl _) (by first|rfl|(rw[hg];rfl))
 refine bN ?_ ?_
 intro x vs w2 e aq hd he
 have d0:vs 0=(.slice (some ⟨b,off,none⟩) (bs.map fV).length cc):=hd
 replace aq:=aS.trans aB aq
 replace he:e=aM (aN _ x _) [(38,vs 0)]:=he
 rw[d0] at he
 subst he
 refine zA<|ag ?_
 exact dn (aS.refl _) rfl
 refine bN ?_ ?_
 intro x vs w2 e aq hd he
 have d13:vs 13=(.bool (decide ((bB bs 0).aP=[109,97,105,110])&&decide (((fV (bB bs 0)).regs.length:Int)=0))):=hd
 replace aq:=aS.trans aB aq
 replace he:e=aM (aN _ x _) [(51,vs 13)]:=he
 rw[d13] at he
 subst he
 refine zA<|ag ?_
 exact dn (aS.refl _) rfl
 exact trivial
 intro x vs pY iC bJ
 have d0:vs 0=(.slice (some ⟨b,off,none⟩) (bs.map fV).length cc):=bJ 0 de
 have d1:vs 1=(.slice (some ⟨b,off,none⟩) (bs.map fV).length cc):=bJ 1 de
 have d2:vs 2=(.pointer (some ⟨b,off+0*3,none⟩)):=bJ 2 de
 have d3:vs 3=(.pointer (some ⟨b,off+0*3+0,none⟩)):=bJ 3 de
 have d4:vs 4=(str (bB bs 0).aP):=bJ 4 de
 have d5:vs 5=(.bool (decide ((bB bs 0).aP=[109,97,105,110]))):=bJ 5 de
 have d6:vs 6=(.bool (decide ((bB bs 0).aP=[109,97,105,110]))):=bJ 6 de
 have d7:(decide ((bB bs 0).aP=[109,97,105,110]))=true->vs 7=(.slice (some ⟨b,off,none⟩) (bs.map fV).length cc):=bJ 7 de
 have d8:(decide ((bB bs 0).aP=[109,97,105,110]))=true->vs 8=(.pointer (some ⟨b,off+0*3,none⟩)):=bJ 8 de
 have d9:(decide ((bB bs 0).aP=[109,97,105,110]))=true->vs 9=(.pointer (some ⟨b,off+0*3+1,none⟩)):=bJ 9 de
 have d10:(decide ((bB bs 0).aP=[109,97,105,110]))=true->vs 10=(.slice r1 (fV (bB bs 0)).regs.length Ka):=bJ 10 de
 have d11:(decide ((bB bs 0).aP=[109,97,105,110]))=true->vs 11=(.int .i64 ((fV (bB bs 0)).regs.length:Int)):=bJ 11 de
 have d12:(decide ((bB bs 0).aP=[109,97,105,110]))=true->vs 12=(.bool (decide (((fV (bB bs 0)).regs.length:Int)=0))):=bJ 12 de
 have d13:vs 13=(.bool (decide ((bB bs 0).aP=[109,97,105,110])&&decide (((fV (bB bs 0)).regs.length:Int)=0))):=bJ 13 de
 have d14:vs 14=(.slice (some ⟨b,off,none⟩) (bs.map fV).length cc):=bJ 14 de
 have d15:vs 15=(.bool (decide ((bB bs 0).aP=[109,97,105,110])&&decide (((fV (bB bs 0)).regs.length:Int)=0))):=bJ 15 de
 have hK:=hK.ext iC;have hO:=hO.ext iC
 change OW _ _ _ _ [] (aM (aN _ x _) (zZ 38 [vs 0,vs 1,vs 2,vs 3,vs 4,vs 5,vs 6,vs 7,vs 8,vs 9,vs 10,vs 11,vs 12,vs 13]++[(2,vs 14),(3,vs 15)])) _
 rw[d0,d1,d2,d3,d4,d5,d6,d13,d14,d15]
 refine ag<|aV<|⟨_,rfl,⟨bs.map fV,_,?_,hO.prog.jk (λx hx=>by simp[hx]),λ_=>rfl⟩,hK⟩
 rw[hq,dT WC.1,dT WC.2,show decide (((fV (bB bs 0)).regs.length:Int)=0)=decide ((bB bs 0).cP.length=0) from decide_eq_decide.2 (by have:(fV (bB bs 0)).regs.length=(bB bs 0).cP.length:=List.length_map _;omega)]
 rfl
def ala {bs:List Bk} (h:∀b,b∈bs->b.aP.length<=12000):tH bs=jN bs:=by
 unfold tH
 rw[show bs.all zT=true from List.all_eq_true.2 λb hb=>dT (h b hb),Bool.and_true]
def alb (bs:List Bk) (l:aj):zV (bs.map fV) l=kc bs l:=by
 unfold zV kc
 rw[List.findIdx?_map]
 rfl
def vV (bs:List Bk) (l:aj):Int:=if jN bs=true then kc bs l else -1
def alc (bs:List Bk) (hb:BE bs) (hl:∀b,b∈bs->b.aP.length<=12000) (l:aj) (v:Value) (Li:List Nat) (w:World) (hv:ko Li w v bs):
  ck Tryz.prog 8 [v,str l] w λr w'=>r= .int .i64 (vV bs l)∧ak [] w w':=by
 have hK:=ak.refl [] w
 have hI:=ala hl
 have iG:=hb.1
 refine cX [.tmp 4] 17 Tryz.func8 rfl Zz rfl rfl ?_
 refine zr<|zA<|ag<|zr<|zm<|aC (ak7 bs hb _ Li [] w hv sm) ?_
 rintro v1 w1 ⟨fO,aK⟩
 have dS:=aK.size
 have hK:=hK.ext aK
 obtain⟨ps,pv,rfl,hp,yr⟩:=fO
 refine zm<|zx (i:=0) rfl rfl<|zx (i:=1) rfl rfl<|zA<|zA<|ag<|aQ<|zr<|zm<|eM rfl<|ag<|zc rfl (λh1=>?_) (λh1=>?_)
 have hq:jN bs=false:=(by rw[hI] at h1;simpa using h1)
 refine zr<|zA<|ag<|aV ?_
 exact⟨_,rfl,by unfold vV;rw[hq];rfl,hK⟩
 have hq:jN bs=true:=(by rw[hI] at h1;simpa using h1)
 have bc:=yr (hI.trans hq)
 subst bc
 refine bz<|zr<|zm<|zm<|aC (WB (bs.map fV) (by simpa using iG) l _ [] w1 hp) ?_
 rintro v2 w2 ⟨dC,aq⟩
 have eH:=aq.size
 have hK:=hK.ext aq
 obtain rfl:=dC
 refine zA<|ag<|aV ?_
 exact⟨_,rfl,by unfold vV;rw[hq,alb];rfl,hK⟩
def ald (bs:List Bk) (hb:BE bs) (l:aj) (v:Value) (L:List Nat) (w:World) (hv:ko L w v bs):
  ck Tryz.prog 9 [v,str l] w λr w'=>r= .int .i64 (vV bs l)∧ak [] w w':=by
 have hK:=ak.refl [] w
 have iG:=hb.1
 refine cX [.tmp 4] 11 Tryz.func9 rfl ZJ rfl rfl ?_
 refine zr<|zA<|ag<|aQ<|zr<|zm<|aC (QE bs hb _ _ w hv) ?_
 rintro v1 w1 ⟨fO,aK⟩
 have dS:=aK.size
 have hK:=hK.ext aK;have hv:=hv.ext aK
 obtain rfl:=fO
 refine eM rfl<|ag<|zc rfl (λh1=>?_) (λh1=>?_)
 have hq:jN bs=false:=(by simpa using h1)
 refine zr<|zA<|ag<|aV ?_
 exact⟨_,rfl,by unfold vV;rw[hq];rfl,hK⟩
 have hq:jN bs=true:=(by simpa using h1)
 refine bz<|zr<|zm<|zm<|aC (QD bs om l _ _ _ hv) ?_
 rintro _ _ ⟨rfl,rfl⟩
 refine zA<|ag<|aV ?_
 exact⟨_,rfl,by unfold vV;rw[hq];rfl,hK⟩
def ale {bs:List Bk} (h:jN bs=true) {i:Nat} (hi:i<bs.length):kc bs (bB bs i).aP=i:=by
 unfold jN at h
 simp only[aE,dE] at h
 exact(h.1 i hi).2
def alf {bs:List Bk} {l:aj} (h:jN bs=true) (h0:0<=kc bs l) {i:Nat} (hi:i<bs.length):((bB bs i).aP=l↔((i:Nat):Int)=kc bs l):=by
 constructor
 ·intro e;rw[<-e];exact(ale h hi).symm
 ·intro e
  unfold kc at e
  cases hf:bs.findIdx? (λb=>decide (b.aP=l)) with
  |none=>rw[hf] at e;simp at e
  |some j=>
   rw[hf] at e
   have ll:i=j:=by have e':(i:Int)=(j:Int):=e;omega
   subst ll
   obtain⟨hj,hd,_⟩:=List.findIdx?_eq_some_iff_getElem.1 hf
   have e2:bB bs i=bs[i]:=by unfold bB;rw[gG,gE hj];rfl
   rw[e2];exact of_decide_eq_true hd
def alg {bs:List Bk} {l:aj} (h0:0<=kc bs l):kc bs l<bs.length:=by
 unfold kc at h0⊢
 cases hf:bs.findIdx? (λb=>decide (b.aP=l)) with
 |none=>rw[hf] at h0;simp at h0
 |some j=>
  obtain⟨hj,_⟩:=List.findIdx?_eq_some_iff_getElem.1 hf
  simpa using hj
def apa (bs:List UInt8) (v:Value) (w:World) (hv:cF [] w v (.sl 1 (rI bs))):
  ck Tryz.prog 3 [v] w λr w'=>r= .bool true∧ak [] w w':=by
 obtain⟨a,c,rfl,_⟩:=rN hv
 have iG:(rI bs).length=bs.length:=EC bs
 have hK:=ak.refl [] w
 refine cX [.tmp 2] 53 Tryz.func3 rfl Y4 rfl rfl ?_
 refine zr<|zA<|ag<|aQ<|zr<|zm<|dZ qU rfl<|jz rfl rfl rfl rfl rfl<|ag<|zc rfl (λh1=>?_) (λh1=>?_)
 refine zr<|zA<|ag<|aV ?_
 exact⟨_,rfl,rfl,hK⟩
 refine bz<|zr<|zm<|aC (akf bs om _ w hv) ?_
 rintro v1 w1 ⟨fO,aK⟩
 have dS:=aK.size
 have hK:=hK.ext aK
 obtain⟨vp,l,ps,e9,hP,hR,CB⟩:=fO
 subst e9
 have cL:=BA hR
 obtain⟨pa,pn,pc,e8,fR⟩:=cL
 subst e8
 have hS:=hP.smalls
 have ED:∀b,b∈ps->b.aP.length<=12000:=(λb hb=>by have:=(hP.bk b hb).1;omega)
 have pK:=hP.len
 refine zm<|zx (i:=0) rfl rfl<|zx (i:=1) rfl rfl<|zA<|zA<|ag<|zr<|zm<|zm<|aC (alc ps hS ED l _ [] w1 hR) ?_
 rintro v2 w2 ⟨dC,aq⟩
 have eH:=aq.size
 have hK:=hK.ext aq;have hR:=hR.ext aq
 obtain rfl:=dC
 refine zA<|ag<|zr<|zm<|zm<|aC (ald ps hS l _ [] w2 hR) ?_
 rintro v3 w3 ⟨er,aJ⟩
 have gd:=aJ.size
 have hK:=hK.ext aJ;have hR:=hR.ext aJ
 obtain rfl:=er
 refine zA<|ag<|aQ<|zr<|zm<|zm<|uA rfl rfl rfl rfl rfl<|zm ?_
 apply fB 3 25 28 [25,26,27,28] (λw'=>w3=w') rfl
 intro h2
 replace h2:=bw h2
 refine zs<|zs<|zp rfl<|ag ?_
 exact mg rfl rfl
 intro h2
 replace h2:=bw h2
 refine zm<|fA rfl rfl rfl<|zp rfl<|ag ?_
 exact mg rfl rfl
 rintro xx _ rfl
 refine ag<|zc rfl (λh3=>?_) (λh3=>?_)
 have h9:=Bool.or_eq_true_iff.1 h3
 refine zr<|zm<|zm<|dQ rfl rfl rfl<|zA<|ag<|aV ?_
 exact⟨_,rfl,cA Value.bool (dT rfl),hK⟩
 have h9:0<=vV ps l:=(by have h8:=(Bool.or_eq_false_iff.1 h3).2;have:=of_decide_eq_false h8;omega)
 have A9:jN ps=true:=(by cases hq:jN ps with|true=>rfl|false=>(unfold vV at h9;rw[hq] at h9;simp at h9))
 have Jq:vV ps l=kc ps l:=(by unfold vV;rw[A9];rfl)
 rw[Jq] at h9
 refine bz<|aQ<|zr<|zA<|ag<|cS ?_
 refine fY (λi:Nat=>[(3,.slice pa pn pc),(4,str l),(5,.int .i64 (vV ps l)),(7,.int .i64 (i:Int))]) (λi w'=>w'=w3∧i<=pn) (λi=>pn-i) (0) (⟨rfl,rfl,rfl,rfl⟩) (⟨rfl,om⟩) ?_
 intro gg w4 e4 hI
 obtain⟨rfl,hi⟩:=hI
 refine aQ<|zr<|zm<|zm<|dZ iO rfl<|fA rfl rfl rfl<|ag<|zc rfl (λh4=>?_) (λh4=>?_)
 have lj:gg<ps.length:=om
 have Pa:=BB hR (sC lj)
 obtain⟨b,off,a1,n1,c1,a2,n2,c2,e7,hc,fU,fJ,dS,eH⟩:=Pa
 cases e7
 have jw:=alf (l:=l) A9 h9 lj
 refine bz<|aQ<|cS<|zr<|zm<|zm<|zi iO gT rfl rfl om<|zf xD rfl<|zl cm rfl (hc 0 _ rfl)<|zm<|cY rfl rfl<|zm<|zm<|dQ rfl rfl rfl<|Kg HH rfl rfl rfl rfl<|ag<|zc rfl (λh5=>?_) (λh5=>?_)
 exfalso
 have h8:decide ((bB ps gg).aP=l)=decide ((gg:Int)=kc ps l):=decide_eq_decide.2 jw
 rw[Jq,h8] at h5
 simp at h5
 refine bz<|df<|zm<|eI rfl rfl rfl (km (gg+1) om _ om)<|zA<|ag ?_
 exact⟨gg+1,⟨rfl,rfl,rfl,rfl⟩,⟨rfl,om⟩,om⟩
 refine gD<|gF rfl<|zr<|zm<|zm<|dZ iO rfl<|fA rfl rfl rfl<|zA<|ag<|aV ?_
 exact⟨_,rfl,cA Value.bool (dT (by rw[Jq];have:=alg h9;omega)),hK⟩
section
open Go Go.ChangeShapes Go.WideShapes
def alh {w:World} {a:Addr} {v:Value} (h:w.cell? a=some v):a=⟨a.block,a.off,none⟩∧a.block<w.heap.size:=by
 obtain⟨b,o,s⟩:=a
 unfold World.cell? at h
 split at h
 ·rename_i c _ _ he
  cases s with
  |some s=>simp at h
  |none=>exact⟨rfl,(Array.getElem?_eq_some_iff.1 he).1⟩
 ·cases h
def ali {a:Addr} (h:a=⟨a.block,a.off,none⟩) (i:Nat):a.add i=⟨a.block,a.off+i,none⟩:=by rw[h];exact vY _ _ _
section
variable {H:Type} {enc:TypeId×Value->H} {P:Program} {w:World} {held:Bool}
end
end
section
open Go Go.ChangeShapes Go.WideShapes
def alj {zs:List Int} (h:∀n,n∈zs->(Lit.int .u8 n).wf=true) {i:Nat} (hi:i<zs.length):Value.int .u8 (zs.getD i 0)= .int .u8 (((UInt8.ofNat (zs.getD i 0).toNat).toNat:Nat):Int):=by
 have:=range_u8 h i
 rw[<-gG] at this
 congr 1
 simp only[UInt8.toNat_ofNat']
 omega
section
variable {H:Type} {enc:TypeId×Value->H} {P:Program} {w:World} {held:Bool}
def apb {t e:TypeId} {fuel:Nat} {cs:List Value} {x:DataW H×List MemPlace} (ht:P.underlying t=some (.slice e)) (he:P.underlying e=some (.int .u8)) (hc:P.cellsOf e=1)
  (h:DataW.trod enc P w 0 (λ_=>true) held fuel t cs=some x):∃a len cap bs,cs=[.slice a len cap]∧cF [] w (.slice a len cap) (.sl 1 (rI bs)):=by
 rcases open_ints ht he hc h with⟨rfl,_⟩|⟨a,len,cap,zs,rfl,_,hl,hm,hz,_,kL,dz⟩
 ·exact⟨none,0,0,[],rfl,.nil _ _ _⟩
 ·simp only[if_true] at hz
  rcases Nat.eq_zero_or_pos len with h0|hp
  ·subst h0
   exact⟨some a,0,cap,[],rfl,.nil _ _ _⟩
  ·have h0:=kL 0 om
   rw[show a.add 0=a from by simp[Addr.add]] at h0
   obtain⟨ha,hb⟩:=alh h0
   have iG:((zs.take len).map λn=>UInt8.ofNat n.toNat).length=len:=by simp;omega
   refine⟨some a,len,cap,(zs.take len).map λn=>UInt8.ofNat n.toNat,rfl,?_⟩
   rw[ha]
   refine .sl a.block a.off len cap 1 _ (λi _=>.int .u8 (zs.getD i 0)) (by rw[EC,iG]) hl hb sm (λrow hr=>?_) (λi j hi hj=>?_) (λi j row c iZ hc=>?_)
   ·obtain⟨_,_,rfl⟩:=List.mem_map.1 hr;rfl
   ·have h1:=kL i om
    rw[ali ha] at h1
    rw[show a.off+i*1+j=a.off+i from by omega]
    exact h1
   ·have hi:i<len:=by
     have:=(List.getElem?_eq_some_iff.1 iZ).1
     rw[EC,iG] at this;exact this
    have hrw:row=[.val (.int .u8 (((UInt8.ofNat (zs.getD i 0).toNat).toNat:Nat):Int))]:=by
     simp only[rI,List.map_map,List.getElem?_map,List.getElem?_take,iP hi,gE (show i<zs.length by omega),Option.map_some,Function.comp,Option.some.injEq] at iZ
     rw[<-iZ]
     simp[gG,gE (show i<zs.length by omega)]
    subst hrw
    match j,hc with
    |0,hc=>
     simp only[List.getElem?_cons_zero,Option.some.injEq] at hc
     subst hc
     rw[alj dz om]
     exact .val _
    |j+1,hc=>simp at hc
end
end
def apc:(fun(_:Program) (_:FuncId) (_:Func) (s:ChangeSpec) (c:OpenClaim)=>(c.wf (OpenSpec.ofChange s):Bool)) Tryz.pinned.checked.prog 3 Tryz.f3 Rows.fnFindSpec Rows.fnFindRow=true:=by kernel_rfl
def apd:(fun(P:Program) (_:FuncId) (_:Func) (_:ChangeSpec) (_:OpenClaim)=>(laidOutB P:Bool)) Tryz.pinned.checked.prog 3 Tryz.f3 Rows.fnFindSpec Rows.fnFindRow=true:=by kernel_rfl
def ape:(fun(P:Program) (_:FuncId) (_:Func) (_:ChangeSpec) (_:OpenClaim)=>(mapsRowed P:Bool)) Tryz.pinned.checked.prog 3 Tryz.f3 Rows.fnFindSpec Rows.fnFindRow=true:=by kernel_rfl
def apf:(fun(P:Program) (_:FuncId) (fn:Func) (_:ChangeSpec) (_:OpenClaim)=>(fn.params.all (P.readableRec ·):Bool)) Tryz.pinned.checked.prog 3 Tryz.f3 Rows.fnFindSpec Rows.fnFindRow=true:=by kernel_rfl
def apg:(fun(P:Program) (_:FuncId) (_:Func) (s:ChangeSpec) (c:OpenClaim)=>(namedTie P c.named s.vars:Bool)) Tryz.pinned.checked.prog 3 Tryz.f3 Rows.fnFindSpec Rows.fnFindRow=true:=by kernel_rfl
def aph:(fun(_:Program) (_:FuncId) (_:Func) (_:ChangeSpec) (c:OpenClaim)=>((c.stops==[]):Bool)) Tryz.pinned.checked.prog 3 Tryz.f3 Rows.fnFindSpec Rows.fnFindRow=true:=by kernel_rfl
def api:(fun(P:Program) (_:FuncId) (_:Func) (_:ChangeSpec) (_:OpenClaim)=>((P.stops==[]):Bool)) Tryz.pinned.checked.prog 3 Tryz.f3 Rows.fnFindSpec Rows.fnFindRow=true:=by kernel_rfl
def apj:(fun(_:Program) (_:FuncId) (_:Func) (_:ChangeSpec) (c:OpenClaim)=>((c.knobs==[]):Bool)) Tryz.pinned.checked.prog 3 Tryz.f3 Rows.fnFindSpec Rows.fnFindRow=true:=by kernel_rfl
def apk:(fun(P:Program) (_:FuncId) (_:Func) (_:ChangeSpec) (_:OpenClaim)=>((P.stopKnobs==[]):Bool)) Tryz.pinned.checked.prog 3 Tryz.f3 Rows.fnFindSpec Rows.fnFindRow=true:=by kernel_rfl
def apl:(fun(P:Program) (f:FuncId) (_:Func) (_:ChangeSpec) (c:OpenClaim)=>((c.inPlace==P.inPlace f):Bool)) Tryz.pinned.checked.prog 3 Tryz.f3 Rows.fnFindSpec Rows.fnFindRow=true:=by kernel_rfl
def apm:(fun(P:Program) (f:FuncId) (_:Func) (_:ChangeSpec) (c:OpenClaim)=>((c.unfollowed==P.unfollowed f):Bool)) Tryz.pinned.checked.prog 3 Tryz.f3 Rows.fnFindSpec Rows.fnFindRow=true:=by kernel_rfl
def apn:(fun(P:Program) (f:FuncId) (_:Func) (_:ChangeSpec) (c:OpenClaim)=>((c.recurses==P.recurses f):Bool)) Tryz.pinned.checked.prog 3 Tryz.f3 Rows.fnFindSpec Rows.fnFindRow=true:=by kernel_rfl
def apo:(fun(P:Program) (f:FuncId) (_:Func) (_:ChangeSpec) (c:OpenClaim)=>((c.named==P.varsNamed f):Bool)) Tryz.pinned.checked.prog 3 Tryz.f3 Rows.fnFindSpec Rows.fnFindRow=true:=by kernel_rfl
def apq:(fun(P:Program) (_:FuncId) (fn:Func) (s:ChangeSpec) (c:OpenClaim)=>((c.maps==(fn.params.toList++s.plain.varTypes P).any (P.mapsRec ·)):Bool)) Tryz.pinned.checked.prog 3 Tryz.f3 Rows.fnFindSpec Rows.fnFindRow=true:=by kernel_rfl
def apr:(fun(P:Program) (_:FuncId) (fn:Func) (s:ChangeSpec) (c:OpenClaim)=>((c.ifaces==(fn.params.toList++s.plain.varTypes P).any (P.ifacesRec ·)):Bool)) Tryz.pinned.checked.prog 3 Tryz.f3 Rows.fnFindSpec Rows.fnFindRow=true:=by kernel_rfl
def aps:(fun(P:Program) (_:FuncId) (fn:Func) (_:ChangeSpec) (c:OpenClaim)=>((c.mapsOut==P.mapsAmong fn.resultTypes.toList):Bool)) Tryz.pinned.checked.prog 3 Tryz.f3 Rows.fnFindSpec Rows.fnFindRow=true:=by kernel_rfl
def apt:(fun(P:Program) (_:FuncId) (fn:Func) (s:ChangeSpec) (c:OpenClaim)=>((c.loops==(fn.params.toList++s.plain.varTypes P).any (P.loopsFrom ·)):Bool)) Tryz.pinned.checked.prog 3 Tryz.f3 Rows.fnFindSpec Rows.fnFindRow=true:=by kernel_rfl
def apu:(fun(P:Program) (_:FuncId) (fn:Func) (s:ChangeSpec) (c:OpenClaim)=>((c.wideKeys==(fn.params.toList++s.plain.varTypes P++fn.resultTypes.toList).any (P.wideKeysFrom ·)):Bool)) Tryz.pinned.checked.prog 3 Tryz.f3 Rows.fnFindSpec Rows.fnFindRow=true:=by kernel_rfl
def apv:(fun(P:Program) (_:FuncId) (_:Func) (s:ChangeSpec) (_:OpenClaim)=>(s.vars.all (P.varReadable ·):Bool)) Tryz.pinned.checked.prog 3 Tryz.f3 Rows.fnFindSpec Rows.fnFindRow=true:=by kernel_rfl
def apw:(fun(P:Program) (_:FuncId) (fn:Func) (_:ChangeSpec) (_:OpenClaim)=>(fn.resultTypes.all (λt=>P.readableRec t&&decide (t<P.types.size)):Bool)) Tryz.pinned.checked.prog 3 Tryz.f3 Rows.fnFindSpec Rows.fnFindRow=true:=by kernel_rfl
def apx:(fun(P:Program) (_:FuncId) (fn:Func) (_:ChangeSpec) (c:OpenClaim)=>((c.ifacesOut==fn.resultTypes.toList.any (P.ifacesRec ·)):Bool)) Tryz.pinned.checked.prog 3 Tryz.f3 Rows.fnFindSpec Rows.fnFindRow=true:=by kernel_rfl
def apy:(fun(P:Program) (_:FuncId) (fn:Func) (_:ChangeSpec) (c:OpenClaim)=>((c.loopsOut==fn.resultTypes.toList.any (P.loopsFrom ·)):Bool)) Tryz.pinned.checked.prog 3 Tryz.f3 Rows.fnFindSpec Rows.fnFindRow=true:=by kernel_rfl
def apz:(fun(P:Program) (_:FuncId) (_:Func) (_:ChangeSpec) (c:OpenClaim)=>((c.plainKeys==P.plainKeys):Bool)) Tryz.pinned.checked.prog 3 Tryz.f3 Rows.fnFindSpec Rows.fnFindRow=true:=by kernel_rfl
def apA:Tryz.pinned.checked.prog.funcNamed "loop.example/typedassembly/laws.FnFind"=some 3:=by kernel_rfl
def apB:(Tryz.f3).isInstance Tryz.pinned.checked.prog Rows.fnFindRow.origin Rows.fnFindRow.targs:=of_decide_eq_true (by kernel_rfl)
def apC:(Tryz.f3).isWrapper Tryz.pinned.checked.prog Rows.fnFindRow.wrapper Rows.fnFindRow.mainSum:=by unfold Func.isWrapper;first|(rw[iP (by decide+kernel)];kernel_rfl)|(rw[iN (by decide+kernel)];exact⟨rfl,rfl⟩)
def apD:Rows.fnFindRow.wfByText (OpenSpec.ofChange Rows.fnFindSpec)=true:=by kernel_rfl
def apE:(fun(_:Program) (_:FuncId) (_:Func) (_:ChangeSpec) (c:OpenClaim)=>(c.shortTexts.isNone:Bool)) Tryz.pinned.checked.prog 3 Tryz.f3 Rows.fnFindSpec Rows.fnFindRow=true:=by kernel_rfl
def apF:(fun(P:Program) (_:FuncId) (_:Func) (_:ChangeSpec) (_:OpenClaim)=>(P.stopsHeard:Bool)) Tryz.pinned.checked.prog 3 Tryz.f3 Rows.fnFindSpec Rows.fnFindRow=true:=by kernel_rfl
def apG:(fun(P:Program) (_:FuncId) (_:Func) (_:ChangeSpec) (_:OpenClaim)=>(P.mayEnter:Bool)) Tryz.pinned.checked.prog 3 Tryz.f3 Rows.fnFindSpec Rows.fnFindRow=true:=by kernel_rfl
def apH:(fun(P:Program) (_:FuncId) (_:Func) (_:ChangeSpec) (c:OpenClaim)=>((c.lifted==P.liftsFinal):Bool)) Tryz.pinned.checked.prog 3 Tryz.f3 Rows.fnFindSpec Rows.fnFindRow=true:=by kernel_rfl
def apI:(fun(P:Program) (_:FuncId) (_:Func) (_:ChangeSpec) (c:OpenClaim)=>((P.make==some c.make):Bool)) Tryz.pinned.checked.prog 3 Tryz.f3 Rows.fnFindSpec Rows.fnFindRow=true:=by kernel_rfl
def apJ:(fun(P:Program) (_:FuncId) (fn:Func) (_:ChangeSpec) (c:OpenClaim)=>((c.kinds==(if c.domain.isEmpty then[] else fn.params.toList.map λt=>match P.underlying t with|some (.int k)=>some k|_=>none)):Bool)) Tryz.pinned.checked.prog 3 Tryz.f3 Rows.fnFindSpec Rows.fnFindRow=true:=by kernel_rfl
def apK:(fun(_:Program) (_:FuncId) (_:Func) (_:ChangeSpec) (c:OpenClaim)=>((c.pinned==c.pinnedBy):Bool)) Tryz.pinned.checked.prog 3 Tryz.f3 Rows.fnFindSpec Rows.fnFindRow=true:=by kernel_rfl
def apL:(fun(P:Program) (_:FuncId) (fn:Func) (s:ChangeSpec) (c:OpenClaim)=>((c.veiled==(fn.params.toList++s.plain.varTypes P++fn.resultTypes.toList).any (P.veiledRec ·)):Bool)) Tryz.pinned.checked.prog 3 Tryz.f3 Rows.fnFindSpec Rows.fnFindRow=true:=by kernel_rfl
def apM:(fun(P:Program) (_:FuncId) (fn:Func) (s:ChangeSpec) (c:OpenClaim)=>(c.veiledFits P fn.params.toList (fn.params.toList++s.plain.varTypes P++fn.resultTypes.toList):Bool)) Tryz.pinned.checked.prog 3 Tryz.f3 Rows.fnFindSpec Rows.fnFindRow=true:=by kernel_rfl
def apN:Tryz.pinned.checked.prog.mainIs=some (true, "ed6b2bc1d4952f5e35729a510763a43720434c752e8136e8a6fb0aff96d0ed2c".toList):=by kernel_rfl
def apO:true=Tryz.pinned.checked.prog.looks []:=by kernel_rfl
def apP:Tryz.pinned.checked.prog.wantsStandIn 22=false:=by kernel_rfl
def apQ:false=Rows.fnFindRow.goesBy Tryz.pinned.checked.prog:=by kernel_rfl
end Go.Proofs.YtigijcjccmdmhaaGreatDoor
