/- Lemmas for the law FnReach, no statement of their own: no conditions. -/
import Derived.Test.YthbhobaiopccaaaGreatDoorKj
set_option maxHeartbeats 4000000
set_option linter.unusedVariables false
set_option linter.unusedSimpArgs false
namespace Go.Proofs.YthbhobaiopccaaaGreatDoor
open Go
variable {w w':World} {B b b6 b7 i q q':Nat} {L:List Nat} {v v1 v2:Value} {g g1 g2:Option Nat} {gss:List (Option Nat×Option Nat)} {vss:List (List Value)} {bs:List Bk} {xs ys:List ai}
theorem Y5 (s:ai) (w:World):bw Tryz.prog 199 [str s] w λr w'=>(∃x ok,r= .tuple #[str x,.bool ok]∧x.length<=8000)∧aj [] w w':=by
 have hK:=aj.refl [] w
 refine bU [.tmp 2,.tmp 3] 26 Tryz.func199 rfl ads rfl rfl ?_
 refine W ?_
 refine aA (yW s [] w sm) ?_
 rintro v1 w1 ⟨fN,aI⟩
 have dk:=aI.size
 have hK:=hK.ext aI
 have eZ:=fN
 obtain⟨t,tv,e9,ht,hp⟩:=eZ
 subst e9
 have bV:=cY ht
 obtain⟨pa,pn,pc,e9,eO,_⟩:=bV
 subst e9
 subst eO
 have nB:=hK.size
 refine W ?_
 refine dz aM rfl rfl rfl λw2 az aG gQ=>?_
 have di:=az
 refine cL (vs:=[str t.aw,.slice pa t.ak.length pc]) aM rfl rfl rfl aG rfl λw3 aH aG du=>?_
 have di:=di.since aH (λx hx=>.inr (by simp at hx;omega))
 refine bI di ht hK λht hK=>?_
 refine W ?_
 refine yG (t:=13) rfl (λh1=>?_) (λh1=>?_)
 replace h1:=jW h1
 refine zs<|zs<|zs<|zp rfl<|zm<|yH (t:=18) (b:=true) rfl<|zs<|zs<|zs<|zs<|zp rfl<|aV<|zc rfl (λh2=>?_) (λh2=>?_)
 refine W ?_
 exact⟨_,rfl,⟨[],false,rfl,sm⟩,hK⟩
 simp at h2
 replace h1:=jW h1
 have bh:(bB s).isSome=true:=(by simpa using h1)
 have cB:=EC hp bh
 refine W ?_
 refine aA (BN t om cB.1 _ _ w3 ht) ?_
 rintro _ w4 ⟨rfl,aP⟩
 have fH:=aP.size
 refine cJ aP hK aG ht λhK aG ht=>?_
 refine W ?_
 refine yG (t:=18) rfl (λh3=>?_) (λh3=>?_)
 replace h3:=jW h3
 refine W ?_
 refine zc rfl (λh4=>?_) (λh4=>?_)
 refine W ?_
 exact⟨_,rfl,⟨[],false,rfl,sm⟩,hK⟩
 simp at h4
 replace h3:=jW h3
 have eY:j8 t=true:=(by simpa using h3)
 have hu:=(AT cB.1).1 eY
 obtain⟨T,wb,IP⟩:=hu
 have ql:=ht
 rw[wb] at ql
 refine W ?_
 refine aA (Y2 T om _ _ w4 (ht.eq wb)) ?_
 rintro _ w5 ⟨rfl,aN⟩
 have iR:=aN.size
 refine cJ aN hK aG ht λhK aG ht=>?_
 have si:=Cl T om
 refine aA (Ov _ w5) ?_
 rintro _ w6 ⟨rfl,bN⟩
 have iJ:=bN.size
 refine cJ bN hK aG ht λhK aG ht=>?_
 refine W ?_
 refine zc rfl (λh5=>?_) (λh5=>?_)
 refine W ?_
 exact⟨_,rfl,⟨[],false,rfl,sm⟩,hK⟩
 refine W ?_
 refine aA (Y2 T om _ _ w6 (ht.eq wb)) ?_
 rintro _ w7 ⟨rfl,bW⟩
 have lp:=bW.size
 have hK:=hK.ext bW
 refine W ?_
 exact⟨_,rfl,⟨_,true,rfl,om⟩,hK⟩
theorem anP:sX Tryz.prog 152=true:=by kernel_rfl
theorem LN (ns ts:List ai) (nm kd:ai) (fD:ns.length<100000) (iG:ts.length<100000) (v1 v2:Value) (L:List Nat) (w:World) (hL:∀x,x∈L->x<w.heap.size) (h1:bf L w v1 ns) (h2:bf L w v2 ts):
  bw Tryz.prog 161 [.agg #[v1,v2],str nm,str kd] w λr w'=>(∃u1 u2,r= .agg #[u1,u2]∧bf L w' u1 (ns++[nm])∧bf L w' u2 (ts++[kd]))∧aj [] w w':=by
 obtain⟨a1,n1,c1,rfl,_⟩:=dH h1
 obtain⟨a2,n2,c2,rfl,_⟩:=dH h2
 have hK:=aj.refl [] w
 refine lG [.cell 6 152] 18 Tryz.func161 rfl acT rfl rfl rfl ?_
 refine zr<|eK rfl λw1 aI cW dh=>cJ aI hK h1 h2 λhK h1 h2=>?_
 refine dz CL rfl rfl rfl λw2 az bO lj=>?_
 have hK:=hK.ext az
 have h1:=(bf.fresh h1 (L':=w1.heap.size::L) (λx hx=>by rcases mC.1 hx with h9|h9;(·right;omega);(·exact .inl h9))).ext az
 have h2:=(bf.fresh h2 (L':=w1.heap.size::L) (λx hx=>by rcases mC.1 hx with h9|h9;(·right;omega);(·exact .inl h9))).ext az
 have LO:∀x,x∈w1.heap.size::L->x<w2.heap.size:=(λx hx=>by rcases mC.1 hx with h9|h9;(·omega);(·have:=hL x h9;omega))
 have cW:=cW.ext az
 have jg:=hK.size
 refine W ?_
 apply vT dv 11 (rA 7 11) (rA 7 11) [[],[0],[],[2],[1,3],[],[5],[],[7],[6,8],[4,9]] [It.v _,It.v _,It.v _,It.p (fun(v:Value) (ww:World)=>bf (w1.heap.size::L) ww v [nm]),It.p (fun(v:Value) (ww:World)=>bf (w1.heap.size::L) ww v (ns++[nm])),It.v _,It.v _,It.v _,It.p (fun(v:Value) (ww:World)=>bf (w1.heap.size::L) ww v [kd]),It.p (fun(v:Value) (ww:World)=>bf (w1.heap.size::L) ww v (ts++[kd])),It.p (fun(v:Value) (ww:World)=>∃b1 m1 d1 b2 m2 d2,v= .agg #[.slice b1 m1 d1,.slice b2 m2 d2]∧bf (w1.heap.size::L) ww (.slice b1 m1 d1) (ns++[nm])∧bf (w1.heap.size::L) ww (.slice b2 m2 d2) (ts++[kd]))] de (by exact⟨λv w w' h k=>bP.ext h k,λv w w' h k=>bP.ext h k,λv w w' h k=>bP.ext h k,λv w w' h k=>bP.ext h k,λv w w' ⟨b1,m1,d1,b2,m2,d2,e,g1,g2⟩ k=>⟨b1,m1,d1,b2,m2,d2,e,bP.ext g1 k,bP.ext g2 k⟩,trivial⟩)
 intro wd aC
 refine VA ?_
 refine vk aC (λx w3 aH=>?_) ?_
 refine eR bg ba rfl rfl λw4 aP qT gQ=>?_
 exact pf aP ((aK.dO [nm] qT (λhx=>by have:=LO _ hx;have:=aH.size;omega)))
 refine vk aC (λx w3 aH=>?_) ?_
 have h1:=h1.ext aH
 intro v3 d3
 refine aA (uN ns [nm] so _ _ (w1.heap.size::L) w3 h1 d3 (λx hx=>by have:=LO x hx;have:=aH.size;omega)) ?_
 rintro v4 w4 ⟨ke,aP⟩
 have fH:=aP.size
 have eZ:=ke
 exact pf aP eZ
 refine VA ?_
 refine vk aC (λx w3 aH=>?_) ?_
 refine eR bg ba rfl rfl λw4 aP Fj gQ=>?_
 exact pf aP ((aK.dO [kd] Fj (λhx=>by have:=LO _ hx;have:=aH.size;omega)))
 refine vk aC (λx w3 aH=>?_) ?_
 have h2:=h2.ext aH
 intro v8 d8
 refine aA (uN ts [kd] so _ _ (w1.heap.size::L) w3 h2 d8 (λx hx=>by have:=LO x hx;have:=aH.size;omega)) ?_
 rintro v4 w4 ⟨ke,aP⟩
 have fH:=aP.size
 have eZ:=ke
 exact pf aP eZ
 refine vk aC (λx w3 aH=>?_) ?_
 intro v4 d4
 intro v9 d9
 have bK:=dH d4
 obtain⟨b1,m1,d1,e1,_⟩:=bK
 subst e1
 have bY:=dH d9
 obtain⟨b2,m2,d2,e2,_⟩:=bY
 subst e2
 refine jG (MZ _ _ _ _ _ _ _) rfl rfl ?_
 exact pf (aj.refl _ _) (⟨_,_,_,_,_,_,rfl,d4,d9⟩)
 exact trivial
 intro x qY DH
 intro v3 d3
 intro v4 d4
 intro v8 d8
 intro v9 d9
 intro v10 d10
 refine bI DH hK bO λhK bO=>?_
 change OW _ _ _ _ _ (bo (bm _ x _) (zZ 7 [_,_,_,_,_,_,_,_,_,_,_])) _
 obtain⟨b1,m1,d1,b2,m2,d2,fQ,g1,g2⟩:=d10
 subst fQ
 refine cL (vs:=[.slice b1 m1 d1,.slice b2 m2 d2]) CL rfl rfl rfl bO rfl λpG jL bO du=>?_
 have hK:=hK.since jL (λx hx=>.inr (by simp at hx;omega))
 have g1:bf L pG _ (ns++[nm]):=(bP.aD g1 jL sm).fresh (λx hx=>.inl (by simp[hx]))
 have g2:bf L pG _ (ts++[kd]):=(bP.aD g2 jL sm).fresh (λx hx=>.inl (by simp[hx]))
 refine W ?_
 exact⟨[_],gC anP CL rfl bO rfl,⟨_,_,rfl,g1,g2⟩,hK⟩
def F8:List ai:=[[48],[49],[50],[51],[55],[45,49],[52,48,48],[45,57,57,57]]
theorem QJ (ns ts:List ai) (want:ai) (hl:ns.length=ts.length) (BQ:ns.length<=1000) (hs:∀x,x∈ns->x.length<=8000) (br q:Nat) (hq:q<=900000000) (v1 v2:Value) (w:World) (h:dB w br q) (cz:bf [br] w v1 ns) (bZ:bf [br] w v2 ts):
  bw Tryz.prog 160 [.pointer (some ⟨br,0,none⟩),.agg #[v1,v2],str want] w λr w'=>(∃x,r=str x∧x.length<=8000)∧dB w' br (q+2)∧aj [br] w w':=by
 obtain⟨a1,n1,c1,rfl,fu⟩:=dH cz
 obtain⟨a2,n2,c2,rfl,eS⟩:=dH bZ
 subst fu
 have ix:=h.lt
 have hK:=aj.refl [] w
 refine bU [.tmp 6] 67 Tryz.func160 rfl acS rfl rfl ?_
 refine zr<|eK rfl λw1 aI aG dh=>gY aI cz bZ hK h λcz bZ hK h=>?_
 refine zA<|aV<|zr<|gA bg ba λw2 az iZ vY=>?_
 have aI:=az
 have anQ:=iZ.ll
 have atr:=hK.size
 refine W ?_
 refine dR (λq9:Nat×Value×Option Nat=>[(0,.pointer (some ⟨br,0,none⟩)),(2,str want),(4,.pointer (some ⟨w.heap.size,0,none⟩)),(7,q9.2.1),(8,.int .i64 (q9.1:Int))]) (λq9 w'=>aj [] w1 w'∧q9.1<=ns.length∧∃xs,cG w' 9 q9.2.1 q9.2.2 xs∧(∀x,x∈xs->x∈ns)∧xs.length<=q9.1∧∀b,q9.2.2=some b->w1.heap.size<=b) (λq9=>ns.length-q9.1) ((0,.slice (some ⟨w1.heap.size,0,none⟩) 0 0,some w1.heap.size)) (⟨rfl,rfl,rfl,rfl,rfl⟩) (⟨aI,sm,[],anQ,sm,sm,by intro b hb;cases hb;exact lR _⟩) λgg w3 e3 hI=>?_
 obtain⟨k,vf,gf⟩:=gg
 obtain⟨di,hk,xs,hO,sS,lB,fG⟩:=hI
 dsimp only at hk hO lB fG
 refine kJ di cz bZ hK h aG λcz bZ hK h aG=>?_
 refine W ?_
 refine zc rfl (λh1=>?_) (λh1=>?_)
 have az:k<ns.length:=(by simp at h1;omega)
 have ej:=oy cz az
 obtain⟨b9,vq,e9,jE⟩:=ej
 cases e9
 have sw:=List.mem_of_getElem? (ik az)
 refine WZ ?_
 apply dV dv 12 [19,20,21,22,23,24,25,26,27,28,29,30] [[],[0],[],[2],[],[4],[],[5,6],[7],[1,3,8],[],[9,10]] (it [_,_,_,_,_,_,_,_,_,_,_,_]) de rfl
 intro wd aC
 refine vc (λ_ _ _=>WZ pv) ?_
 refine vk aC (λx w4 aP=>?_) ?_
 have aG:=aG.ext aP
 refine WZ ?_
 exact pv
 refine vc (λ_ _ _=>WZ pv) ?_
 refine vk aC (λx w4 aP=>?_) ?_
 have aG:=aG.ext aP
 refine WZ ?_
 exact pv
 refine vc (λ_ _ _=>WZ pv) ?_
 refine vk aC (λx w4 aP=>?_) ?_
 have aG:=aG.ext aP
 refine WZ ?_
 exact pv
 refine vc (λ_ _ _=>WZ pv) ?_
 refine VA ?_
 refine vk aC (λx w4 aP=>?_) ?_
 refine bI aP cz bZ λcz bZ=>?_
 refine aA (HM ns ts hl om (bD ns k) _ _ _ _ w4 cz bZ) ?_
 rintro _ w5 ⟨rfl,aN⟩
 have iR:=aN.size
 exact pk aN
 exact VZ
 intro x pG jL
 refine gY jL aG hO di jE λaG hO di jE=>?_
 change OW _ _ _ _ [] (bo (bm _ x _) (zZ 19 [_,_,_,_,_,_,_,_,_,_,_,_])) _
 refine aV<|zc rfl (λh2=>?_) (λh2=>?_)
 refine WI ?_
 refine zi bg ba rfl rfl az<|W ?_
 refine eR bg ba rfl rfl λpL jq FP am4=>bI jq hO di λhO di=>?_
 refine sF bg ba rfl rfl rfl rfl rfl rfl hO FP om λv9 g9 qX cU sB fj=>?_
 have Y6:=di.size
 have di:=di.since sB (λx hx=>.inr (fG x (by simpa using hx)))
 have att:=di.size
 refine WA ?_
 refine kR rfl rfl rfl rfl rfl (lx (k+1) om _ om)<|zA<|aV ?_
 exact⟨(k+1,v9,g9),⟨rfl,rfl,rfl,rfl,rfl⟩,⟨di,by show k+1<=_;omega,xs++[bD ns k],cU,λx hx=>by rcases mA.1 hx with h9|h9;(·exact sS x h9);(·simp only[List.mem_singleton] at h9;rw[h9];exact sw),by show(xs++[bD ns k]).length<=k+1;rw[lA];simp;omega,λb hb=>by rcases fj with h9|h9;(·exact fG b (h9.symm.trans hb));(·rw[h9] at hb;cases hb;omega)⟩,by show ns.length-(k+1)<ns.length-k;omega⟩
 refine gT<|jF<|zm<|kR rfl rfl rfl rfl rfl (lx (k+1) om _ om)<|zA<|aV ?_
 exact⟨(k+1,_,gf),⟨rfl,rfl,rfl,rfl,rfl⟩,⟨di,by show k+1<=_;omega,xs,hO,sS,by show xs.length<=k+1;omega,fG⟩,by show ns.length-(k+1)<ns.length-k;omega⟩
 have bV:=jn hO
 obtain⟨af,cf,ef⟩:=bV
 subst ef
 have aB:=hK.mono (L':=[br]) sm
 have anR:=hK.size
 have Fm:∀b,gf=some b->w.heap.size<=b:=(λb hb=>by have:=fG b hb;omega)
 refine W ?_
 refine yG (t:=42) rfl (λh3=>?_) (λh3=>?_)
 replace h3:=jW h3
 have kK:0<xs.length:=(by simp at h3;omega)
 refine zm<|aA (mv 4 de de br q om w3 h) ?_
 rintro v44 w4 ⟨⟨z,e44,hz⟩,h,jq⟩
 subst e44
 have aB:=aB.trans jq
 have hO:=hO.aF jq (λb hb aR=>by have:=Fm b hb;simp at aR;omega)
 have anR:=aB.size
 refine W ?_
 refine zc rfl (λh4=>?_) (λh4=>?_)
 refine W ?_
 refine aA (mv xs.length kK om br (q+1) om w4 h) ?_
 rintro v51 w5 ⟨⟨z2,P8,dD⟩,h,lv⟩
 subst P8
 have aB:=aB.trans lv
 have hO:=hO.aF lv (λb hb aR=>by have:=Fm b hb;simp at aR;omega)
 have ej:=oy hO.rs dD
 obtain⟨b9,vq,e9,jE⟩:=ej
 cases e9
 have sw:=sS _ (List.mem_of_getElem? (ik dD))
 refine zi bg ba rfl rfl dD<|W ?_
 exact⟨_,rfl,⟨_,rfl,hs _ sw⟩,h,aB⟩
 refine W ?_
 refine zc rfl (λh5=>?_) (λh5=>?_)
 refine zr<|zm<|U3 bg ba rfl rfl rfl rfl rfl rfl rfl rfl rfl rfl λw5 aN QK gZ=>bI aN h aB λh aB=>?_
 refine aA (mw F8 de de br (q+1) om _ w5 h (aK.dO F8 QK (λhx=>by simp at hx;omega) de)) ?_
 rintro O6 w6 ⟨⟨x1,il,FX⟩,h,F3⟩
 subst FX
 have aB:=(aB).trans F3
 have fD:=(show∀x,x∈F8->x.length<=8000 from by decide) _ il
 refine W ?_
 exact⟨_,rfl,⟨x1,rfl,fD⟩,h.more om,aB⟩
 refine gT<|zr<|zm<|aA (Y5 want w4) ?_
 rintro v5 w5 ⟨tG,aN⟩
 have iR:=aN.size
 refine bI aN h aB λh aB=>?_
 have eZ:=tG
 obtain⟨x1,ok1,IM,fD⟩:=eZ
 subst IM
 refine W ?_
 refine zc rfl (λh6=>?_) (λh6=>?_)
 refine W ?_
 exact⟨_,rfl,⟨[48],rfl,by decide⟩,h.more om,aB⟩
 refine W ?_
 exact⟨_,rfl,⟨x1,rfl,fD⟩,h.more om,aB⟩
 replace h3:=jW h3
 have kK:xs.length=0:=om
 refine W ?_
 refine zc rfl (λh7=>?_) (λh7=>?_)
 simp at h7
 refine W ?_
 refine zc rfl (λh8=>?_) (λh8=>?_)
 refine zr<|zm<|U3 bg ba rfl rfl rfl rfl rfl rfl rfl rfl rfl rfl λw4 aP QK gQ=>bI aP hK h λhK h=>?_
 refine aA (mw F8 de de br q om _ w4 h (aK.dO F8 QK (λhx=>by simp at hx;omega) de)) ?_
 rintro O6 w5 ⟨⟨x1,il,FX⟩,h,F3⟩
 subst FX
 have aB:=((hK.mono (L':=[br]) sm)).trans F3
 have fD:=(show∀x,x∈F8->x.length<=8000 from by decide) _ il
 refine W ?_
 exact⟨_,rfl,⟨x1,rfl,fD⟩,h.more om,aB⟩
 refine gT<|zr<|zm<|aA (Y5 want w3) ?_
 rintro v4 w4 ⟨ke,aP⟩
 have fH:=aP.size
 refine bI aP hK h λhK h=>?_
 have eZ:=ke
 obtain⟨x1,ok1,IM,fD⟩:=eZ
 subst IM
 refine W ?_
 refine zc rfl (λh9=>?_) (λh9=>?_)
 refine W ?_
 exact⟨_,rfl,⟨[48],rfl,by decide⟩,h.more om,(hK.mono (L':=[br]) sm)⟩
 refine W ?_
 exact⟨_,rfl,⟨x1,rfl,fD⟩,h.more om,(hK.mono (L':=[br]) sm)⟩
def QL:List ai:=[[97],[98],[99],[120,49],[121,48]]
def QM:List ai:=[[102],[103],[102,49]]
def QN:List ai:=[[120],[122],[120,50]]
def LQ:List ai:=[[43],[45],[42]]
def IY (d P:Nat):Prop:=∀(ns ts:List ai) (want:ai) (br q:Nat) (v1 v2:Value) (w:World),ns.length=ts.length->ns.length+2*d<=100->(∀x,x∈ns->x.length<=8000)->want.length+100*d<=26000->q+20*P<=800000000->dB w br q->bf [br] w v1 ns->bf [br] w v2 ts->
  bw Tryz.prog 132 [.pointer (some ⟨br,0,none⟩),.agg #[v1,v2],str want,.int .i64 (d:Int)] w λr w'=>(∃x,r=str x∧x.length<=100000*P)∧dB w' br (q+20*P)∧aj [br] w w'
theorem LR {ns:List ai} {x:ai} (h:∀x,x∈ns->x.length<=8000) (hx:x.length<=8000):∀y,y∈ns++[x]->y.length<=8000:=λy hy=>by
 rcases mA.1 hy with h9|h9
 ·exact h y h9
 ·simp only[List.mem_singleton] at h9;rw[h9];exact hx
theorem Y7 {s sg:ai} {o:Option (Ty×Ty)} (h:Dj s sg o):(tL o).length<=100∧(zw o).length<=100:=by
 cases o with
 |none=>exact⟨by decide,by decide⟩
 |some p=>
  obtain⟨g,_,_,h3⟩:=h
  have e:(Ty.op g p.1 p.2).n=1+p.1.n+p.2.n:=rfl
  have h1:=p.1.len
  have h2:=p.2.len
  exact⟨by show p.1.text.length<=100;omega,by show p.2.text.length<=100;omega⟩
def BuP (d P:Nat):Prop:=∀(ns ts:List ai) (want:ai) (br q:Nat) (v1 v2:Value) (w:World),ns.length=ts.length->ns.length+2*(d+1)<=100->(∀x,x∈ns->x.length<=8000)->want.length+100*(d+1)<=26000->q+40*P+20<=800000000->dB w br q->bf [br] w v1 ns->bf [br] w v2 ts->
  bw Tryz.prog 163 [.pointer (some ⟨br,0,none⟩),.agg #[v1,v2],str want,.int .i64 ((d+1:Nat):Int)] w λr w'=>(∃x,r=str x∧x.length<=200000*P+30000)∧dB w' br (q+40*P+10)∧aj [br] w w'
theorem anV (d P:Nat) (hd:d<=10) (hP:1<=P) (Y8:P<=1000000) (ih:IY d P):BuP d P:=by
 intro ns ts want br q v1 v2 w hl BQ hs hw hq h cz bZ
 obtain⟨a1,n1,c1,rfl,fu⟩:=dH cz
 obtain⟨a2,n2,c2,rfl,eS⟩:=dH bZ
 subst fu
 subst eS
 have ix:=h.lt
 have hk:=aj.refl [br] w
 refine bU [.tmp 8] 119 Tryz.func163 rfl acV rfl rfl ?_
 refine zr<|eK rfl λw1 aI cu dh=>gY aI hk h cz bZ λhk h cz bZ=>?_
 refine W ?_
 have cu:dP [br] w1 w.heap.size _ _:=⟨cu,by simp;omega⟩
 refine aA (VH want w1) ?_
 rintro v2 w2 ⟨gz,az⟩
 have dx:=az.size
 refine kJ az hk h cz bZ cu λhk h cz bZ cu=>?_
 obtain⟨o1,yh,rfl⟩:=gz
 have hAB:=Y7 yh
 refine W ?_
 refine aA (VG want w2) ?_
 rintro v3 w3 ⟨jo,aH⟩
 have fh:=aH.size
 refine kJ aH hk h cz bZ cu λhk h cz bZ cu=>?_
 obtain⟨o2,wK,rfl⟩:=jo
 have hCE:=Y7 wK
 refine WA ?_
 refine yD rfl rfl rfl rfl rfl (lx d om _ om)<|W ?_
 refine zc rfl (λh1=>?_) (λh1=>?_)
 refine WZ ?_
 apply jV dv ([br]) 14 (rA 35 14) (rA 35 14) [[],[],[],[],(rA 0 4),[4],[5],[],[],[],[],(rA 7 4),[6,11],[12]] [Ie.v _,Ie.v _,Ie.v _,Ie.v _,Ie.q 0 (fun(v:Value)=>∃x,v=str x∧x.length<=100000*P),Ie.p (fun(G:List Nat) (v:Value) (ww:World)=>∃x,v=str x∧x.length<=100000*P+100),Ie.p (fun(G:List Nat) (v:Value) (ww:World)=>∃x,v=str x∧x.length<=100000*P+200),Ie.v _,Ie.v _,Ie.v _,Ie.v _,Ie.q 1 (fun(v:Value)=>∃x,v=str x∧x.length<=100000*P),Ie.p (fun(G:List Nat) (v:Value) (ww:World)=>∃x,v=str x∧x.length<=200000*P+300),Ie.p (fun(G:List Nat) (v:Value) (ww:World)=>∃x,v=str x∧x.length<=200000*P+400)] [4,11] [fun(G:List Nat) (vs:List Value) (ww:World)=>G=[br]∧aj [br] w3 ww∧dB ww br q,fun(G:List Nat) (vs:List Value) (ww:World)=>G=[br]∧aj [br] w3 ww∧dB ww br (q+20*P),fun(G:List Nat) (vs:List Value) (ww:World)=>G=[br]∧aj [br] w3 ww∧dB ww br (q+40*P)] de rfl ((λz hz=>by simp at hz;subst hz;exact h.lt)) (by exact⟨λG v w G' w' h k=>h,λG v w G' w' h k=>h,λG v w G' w' h k=>h,λG v w G' w' h k=>h,trivial⟩) (by exact⟨λG vs w w' ⟨h1,h2,h3⟩ k=>⟨h1,h2.ext k,h3.ext k⟩,λG vs w w' ⟨h1,h2,h3⟩ k=>⟨h1,h2.ext k,h3.ext k⟩,λG vs w w' ⟨h1,h2,h3⟩ k=>⟨h1,h2.ext k,h3.ext k⟩,trivial⟩) (⟨rfl,aj.refl _ _,h⟩)
 refine FA ?_
 refine ve 0 (λx w4 G4 aT Ai El hJ hlen=>?_) ?_
 have aX:=jw hlen
 subst aX
 have cz:=cz.go Ai;have bZ:=bZ.go Ai
 obtain⟨bS,bT,h⟩:=hJ
 subst bS
 refine aA (ih ns ts (tL o1) br q _ _ w4 hl om hs om om h cz bZ) ?_
 rintro v9 w5 ⟨⟨x9,e9,iV⟩,h,aB⟩
 subst e9
 exact fq ([br]) (Fr.of aB sm) ((λz hz=>lL (El z hz) aB.size)) (⟨rfl,bT.trans aB,h.more om⟩) (⟨_,rfl,iV⟩)
 refine vf (λx w4 G4 aT Ai El=>?_) ?_
 intro v4 QO d4
 obtain⟨y4,e4,C9⟩:=d4
 subst e4
 refine iu rfl rfl rfl rfl (by(try simp);omega) ?_
 exact ff (aj.refl _ _) (⟨_,rfl,by simp;omega⟩)
 refine vf (λx w4 G4 aT Ai El=>?_) ?_
 intro v5 d5
 obtain⟨y5,e5,hl5⟩:=d5
 subst e5
 refine iu rfl rfl rfl rfl (by(try simp);omega) ?_
 exact ff (aj.refl _ _) (⟨_,rfl,by simp;omega⟩)
 refine FA ?_
 refine ve 1 (λx w4 G4 aT Ai El hJ hlen=>?_) ?_
 have aQ:=jx hlen
 obtain⟨q0,aX⟩:=aQ
 subst aX
 have cz:=cz.go Ai;have bZ:=bZ.go Ai
 obtain⟨bS,bT,h⟩:=hJ
 subst bS
 refine aA (ih ns ts (zw o1) br (q+20*P) _ _ w4 hl om hs om om h cz bZ) ?_
 rintro v9 w5 ⟨⟨x9,e9,iV⟩,h,aB⟩
 subst e9
 exact fq ([br]) (Fr.of aB sm) ((λz hz=>lL (El z hz) aB.size)) (⟨rfl,bT.trans aB,h.more om⟩) (⟨_,rfl,iV⟩)
 refine vf (λx w4 G4 aT Ai El=>?_) ?_
 intro v6 d6
 intro v11 anX d11
 obtain⟨y6,e6,hl6⟩:=d6
 subst e6
 obtain⟨Y9,DJ,Za⟩:=d11
 subst DJ
 refine iu rfl rfl rfl rfl (by(try simp);omega) ?_
 exact ff (aj.refl _ _) (⟨_,rfl,by simp;omega⟩)
 refine vf (λx w4 G4 aT Ai El=>?_) ?_
 intro v12 d12
 obtain⟨y12,rp,anZ⟩:=d12
 subst rp
 refine iu rfl rfl rfl rfl (by(try simp);omega) ?_
 exact ff (aj.refl _ _) (⟨_,rfl,by simp;omega⟩)
 exact trivial
 intro x pG G43 aT aty atz hJ hlen
 have aQ:=lO hlen
 obtain⟨q0,q1,aX⟩:=aQ
 subst aX
 intro v4 QO d4
 intro v5 d5
 intro v6 d6
 intro v11 anX d11
 intro v12 d12
 intro H3 d13
 change OW _ _ _ _ _ (bo (bm _ x _) (zZ 35 [_,_,_,_,_,_,_,_,_,_,_,_,_,_])) _
 obtain⟨bS,bT,h⟩:=hJ
 subst bS
 obtain⟨yz,ez,F2⟩:=d13
 subst ez
 refine W ?_
 exact⟨_,rfl,⟨yz,rfl,om⟩,h.more om,hk.trans bT⟩
 refine W ?_
 refine zc rfl (λh2=>?_) (λh2=>?_)
 refine zr<|zm<|pJ bg ba rfl rfl rfl rfl rfl λw4 aP QP gQ=>kJ aP hk h cz bZ cu λhk h cz bZ cu=>?_
 have k8:=h.lt
 refine aA (mw QM de de br q om _ w4 h (aK.dO QM QP (λhx=>by simp at hx;omega) de)) ?_
 rintro mJ w5 ⟨⟨fn,an0,im⟩,h,aB⟩
 subst im
 have atA:=(show∀x,x∈QM->x.length<=30 from by decide) _ an0
 have hk:=hk.trans aB
 have cz:=cz.aD aB sm;have bZ:=bZ.aD aB sm;have cu:=cu.aD aB sm
 have k8:=h.lt
 refine W ?_
 refine pJ bg ba rfl rfl rfl rfl rfl λw6 bN Dn lj=>kJ bN hk h cz bZ cu λhk h cz bZ cu=>?_
 refine aA (mw QN de de br (q+1) om _ w6 h (aK.dO QN Dn (λhx=>by simp at hx;omega) de)) ?_
 rintro mJ w7 ⟨⟨xn,an1,im⟩,h,aB⟩
 subst im
 have atB:=(show∀x,x∈QN->x.length<=30 from by decide) _ an1
 have hk:=hk.trans aB
 have cz:=cz.aD aB sm;have bZ:=bZ.aD aB sm;have cu:=cu.aD aB sm
 have k8:=h.lt
 refine W ?_
 refine aA (LN ns ts xn (tL o2) om om _ _ [br] w7 (λx hx=>by simp at hx;subst hx;exact h.lt) cz bZ) ?_
 rintro v8 w8 ⟨Dw,cg⟩
 have wH:=cg.size
 refine kJ cg hk h cz bZ cu λhk h cz bZ cu=>?_
 obtain⟨u1,u2,e9,r7,r8⟩:=Dw
 subst e9
 have bV:=dH r7
 obtain⟨b1,m1,d1,e1,_⟩:=bV
 subst e1
 have bV:=dH r8
 obtain⟨b2,m2,d2,e2,_⟩:=bV
 subst e2
 refine dz CL rfl rfl rfl λw9 aB jP O9=>?_
 have hsb:=h.lt
 have atC:br<w8.heap.size:=hsb
 have atD:w.heap.size<w8.heap.size:=cu.lt
 have atE:w.heap.size<=w8.heap.size:=hk.size
 refine bI aB hk h λhk h=>?_
 have cz:=(bf.fresh cz (L':=w8.heap.size::[br]) (λx hx=>by rcases mC.1 hx with h9|h9;(·right;omega);(·exact .inl h9))).ext aB
 have bZ:=(bf.fresh bZ (L':=w8.heap.size::[br]) (λx hx=>by rcases mC.1 hx with h9|h9;(·right;omega);(·exact .inl h9))).ext aB
 have r7:=(bf.fresh r7 (L':=w8.heap.size::[br]) (λx hx=>by rcases mC.1 hx with h9|h9;(·right;omega);(·exact .inl h9))).ext aB
 have r8:=(bf.fresh r8 (L':=w8.heap.size::[br]) (λx hx=>by rcases mC.1 hx with h9|h9;(·right;omega);(·exact .inl h9))).ext aB
 have cu:=(cu.ext aB)
 refine cL (vs:=[.slice b1 m1 d1,.slice b2 m2 d2]) CL rfl rfl rfl jP rfl λcv cw jP du=>?_
 have hk:=hk.since cw (λx hx=>.inr (by simp at hx;omega))
 have h:=h.aF cw (λx hx=>by simp at hx;omega)
 have cz:=bf.aD cz cw sm
 have bZ:=bf.aD bZ cw sm
 have r7:=bf.aD r7 cw sm
 have r8:=bf.aD r8 cw sm
 have cu:dP [br] cv _ _ _:=⟨cu.iw.aF cw so,cu.out⟩
 refine W ?_
 refine aA (mv 6 de de br (q+2) om cv h) ?_
 rintro v9 ew ⟨⟨z,e9,hz⟩,h,aB⟩
 subst e9
 have r7:=bf.aD r7 aB sm
 have r8:=bf.aD r8 aB sm
 have jP:=jP.aF aB so
 have hk:=hk.trans aB
 have cz:=cz.aD aB sm;have bZ:=bZ.aD aB sm;have cu:=cu.aD aB sm
 have k8:=h.lt
 refine W ?_
 refine iS (λg:List ai×List ai×Value×Value=>[(0,.pointer (some ⟨br,0,none⟩)),(12,str (tL o2)),(13,str (zw o2)),(15,.int .i64 (d:Int)),(16,str fn),(17,str xn),(18,.pointer (some ⟨w8.heap.size,0,none⟩))]) (λg ww=>aj [br] w ww∧dB ww br (q+3)∧aK ww w8.heap.size [g.2.2.1,g.2.2.2].toArray 152∧bf [br] ww g.2.2.1 g.1∧bf [br] ww g.2.2.2 g.2.1∧g.1.length=g.2.1.length∧g.1.length+2*d<=100∧∀x,x∈g.1->x.length<=8000) ?_ ?_
 refine zc rfl (λh3=>?_) (λh3=>?_)
 refine W ?_
 refine aA (LN ns ts fn want om om _ _ (w8.heap.size::[br]) ew (λx hx=>by have:=jP.lt;simp at hx;rcases hx with hx|hx<;>omega) cz bZ) ?_
 rintro v12 fI ⟨Iv,dw⟩
 have Fw:=dw.size
 refine cJ dw hk h jP λhk h jP=>?_
 obtain⟨u3,u4,e9,r7,r8⟩:=Iv
 subst e9
 have bV:=dH r7
 obtain⟨b3,m3,d3,e1,_⟩:=bV
 subst e1
 have bV:=dH r8
 obtain⟨b4,m4,d4,e2,_⟩:=bV
 subst e2
 refine zm<|zm<|aA (LN (ns++[fn]) (ts++[want]) xn (tL o2) so so _ _ (w8.heap.size::[br]) fI (λx hx=>by have:=jP.lt;simp at hx;rcases hx with hx|hx<;>omega) r7 r8) ?_
 rintro H3 jO ⟨an3,gM⟩
 have Ii:=gM.size
 refine cJ gM hk h jP λhk h jP=>?_
 obtain⟨u5,u6,e9,LS,LU⟩:=an3
 subst e9
 have bV:=dH LS
 obtain⟨b5,m5,d5,e1,_⟩:=bV
 subst e1
 have bV:=dH LU
 obtain⟨b6,m6,d6,e2,_⟩:=bV
 subst e2
 refine cL (vs:=[.slice b5 m5 d5,.slice b6 m6 d6]) CL rfl rfl rfl jP rfl λja dG jP du=>?_
 have hk:=hk.since dG (λx hx=>.inr (by simp at hx;omega))
 have h:=h.aF dG (λx hx=>by simp at hx;omega)
 have LS:=bf.aD LS dG sm
 have LU:=bf.aD LU dG sm
 refine W ?_
 exact⟨((ns++[fn])++[xn],(ts++[want])++[tL o2],_,_),⟨rfl,rfl,rfl,rfl,rfl,rfl,rfl⟩,hk,h,jP,bf.fresh LS (λx hx=>.inl (by simp at hx;simp[hx])),bf.fresh LU (λx hx=>.inl (by simp at hx;simp[hx])),by simp;omega,by simp;omega,LR (LR hs om) om⟩
 refine WZ ?_
 exact⟨(ns++[xn],ts++[tL o2],_,_),⟨rfl,rfl,rfl,rfl,rfl,rfl,rfl⟩,hk,h,jP,bf.fresh r7 (λx hx=>.inl (by simp at hx;simp[hx])),bf.fresh r8 (λx hx=>.inl (by simp at hx;simp[hx])),by simp;omega,by simp;omega,LR hs om⟩
 intro gu fI rp hI
 obtain⟨zs,us,p1,p2⟩:=gu
 dsimp only at hI⊢
 obtain⟨hk,h,jP,nk,qh,FV,hzn,yB⟩:=hI
 have bV:=dH nk
 obtain⟨b1,m1,d1,e1,_⟩:=bV
 subst e1
 have bV:=dH qh
 obtain⟨b2,m2,d2,e2,_⟩:=bV
 subst e2
 refine WZ ?_
 refine aA (ih zs us (zw o2) br (q+3) _ _ fI FV om yB om om h nk qh) ?_
 rintro v9 jO ⟨⟨x9,e9,iV⟩,h,aB⟩
 subst e9
 have hk:=hk.trans aB
 refine W ?_
 exact⟨_,rfl,⟨_,rfl,by simp;omega⟩,h.more om,hk⟩
 refine W ?_
 refine yG (t:=93) rfl (λh4=>?_) (λh4=>?_)
 replace h4:=jW h4
 refine zm<|aA (mv 3 de de br q om w3 h) ?_
 rintro v9 w4 ⟨⟨z,e9,hz⟩,h,aB⟩
 subst e9
 have hk:=hk.trans aB
 have cz:=cz.aD aB sm;have bZ:=bZ.aD aB sm;have cu:=cu.aD aB sm
 have k8:=h.lt
 refine W ?_
 refine zc rfl (λh5=>?_) (λh5=>?_)
 refine WZ ?_
 apply jV dv ([br]) 17 (rA 98 17) (rA 98 17) [[],[],[0,1],[2],[3],[],[],[],[5,6,7],[4,8],[9],[],[],[],[11,12,13],[10,14],[15]] [Ie.v _,Ie.p (fun(G:List Nat) (v:Value) (ww:World)=>bf G ww v LQ),Ie.q 0 (fun(v:Value)=>∃x,v=str x∧x.length<=30),Ie.p (fun(G:List Nat) (v:Value) (ww:World)=>∃x,v=str x∧x.length<=40),Ie.p (fun(G:List Nat) (v:Value) (ww:World)=>∃x,v=str x∧x.length<=50),Ie.v _,Ie.v _,Ie.v _,Ie.q 1 (fun(v:Value)=>∃x,v=str x∧x.length<=100000*P),Ie.p (fun(G:List Nat) (v:Value) (ww:World)=>∃x,v=str x∧x.length<=100000*P+100),Ie.p (fun(G:List Nat) (v:Value) (ww:World)=>∃x,v=str x∧x.length<=100000*P+200),Ie.v _,Ie.v _,Ie.v _,Ie.q 2 (fun(v:Value)=>∃x,v=str x∧x.length<=100000*P),Ie.p (fun(G:List Nat) (v:Value) (ww:World)=>∃x,v=str x∧x.length<=200000*P+300),Ie.p (fun(G:List Nat) (v:Value) (ww:World)=>∃x,v=str x∧x.length<=200000*P+400)] [2,8,14] [fun(G:List Nat) (vs:List Value) (ww:World)=>G=[br]∧aj [br] w4 ww∧dB ww br (q+1),fun(G:List Nat) (vs:List Value) (ww:World)=>G=[br]∧aj [br] w4 ww∧dB ww br (q+2),fun(G:List Nat) (vs:List Value) (ww:World)=>G=[br]∧aj [br] w4 ww∧dB ww br (q+2+20*P),fun(G:List Nat) (vs:List Value) (ww:World)=>G=[br]∧aj [br] w4 ww∧dB ww br (q+2+40*P)] de rfl ((λz hz=>by simp at hz;subst hz;exact h.lt)) (by exact⟨λG v w G' w' h k=>bf.go h k,λG v w G' w' h k=>h,λG v w G' w' h k=>h,λG v w G' w' h k=>h,λG v w G' w' h k=>h,λG v w G' w' h k=>h,λG v w G' w' h k=>h,trivial⟩) (by exact⟨λG vs w w' ⟨h1,h2,h3⟩ k=>⟨h1,h2.ext k,h3.ext k⟩,λG vs w w' ⟨h1,h2,h3⟩ k=>⟨h1,h2.ext k,h3.ext k⟩,λG vs w w' ⟨h1,h2,h3⟩ k=>⟨h1,h2.ext k,h3.ext k⟩,λG vs w w' ⟨h1,h2,h3⟩ k=>⟨h1,h2.ext k,h3.ext k⟩,trivial⟩) (⟨rfl,aj.refl _ _,h⟩)
 refine FA ?_
 refine vf (λx w5 G5 aT qt tZ=>?_) ?_
 refine pJ bg ba rfl rfl rfl rfl rfl λw6 bN Po lj=>?_
 exact ff bN ((aK.dO LQ Po (λhx=>by have:=tZ _ hx;omega) de))
 refine ve 0 (λx w5 G5 aT qt tZ hJ hlen=>?_) ?_
 have aX:=jw hlen
 subst aX
 intro v1 d1
 obtain⟨bS,bT,h⟩:=hJ
 subst bS
 refine aA (mw LQ de de br (q+1) om _ w5 h d1) ?_
 rintro mJ w6 ⟨⟨x9,iV,im⟩,h,aB⟩
 subst im
 have eE:=(show∀x,x∈LQ->x.length<=30 from by decide) _ iV
 exact fq ([br]) (Fr.of aB sm) ((λz hz=>lL (tZ z hz) aB.size)) (⟨rfl,bT.trans aB,h⟩) (⟨_,rfl,eE⟩)
 refine vf (λx w5 G5 aT qt tZ=>?_) ?_
 intro v2 oL d2
 obtain⟨y2,e2,iG⟩:=d2
 subst e2
 refine iu rfl rfl rfl rfl (by(try simp);omega) ?_
 exact ff (aj.refl _ _) (⟨_,rfl,by simp;omega⟩)
 refine vf (λx w5 G5 aT qt tZ=>?_) ?_
 intro v3 d3
 obtain⟨y3,e3,xL⟩:=d3
 subst e3
 refine iu rfl rfl rfl rfl (by(try simp);omega) ?_
 exact ff (aj.refl _ _) (⟨_,rfl,by simp;omega⟩)
 refine FA ?_
 refine ve 1 (λx w5 G5 aT qt tZ hJ hlen=>?_) ?_
 have aQ:=jx hlen
 obtain⟨q0,aX⟩:=aQ
 subst aX
 have cz:=cz.go qt;have bZ:=bZ.go qt
 obtain⟨bS,bT,h⟩:=hJ
 subst bS
 refine aA (ih ns ts ([105]) br (q+2) _ _ w5 hl om hs so om h cz bZ) ?_
 rintro v9 w6 ⟨⟨x9,e9,iV⟩,h,aB⟩
 subst e9
 exact fq ([br]) (Fr.of aB sm) ((λz hz=>lL (tZ z hz) aB.size)) (⟨rfl,bT.trans aB,h.more om⟩) (⟨_,rfl,iV⟩)
 refine vf (λx w5 G5 aT qt tZ=>?_) ?_
 intro v4 d4
 intro v8 hq8 d8
 obtain⟨y4,e4,C9⟩:=d4
 subst e4
 obtain⟨y8,e8,hl8⟩:=d8
 subst e8
 refine iu rfl rfl rfl rfl (by(try simp);omega) ?_
 exact ff (aj.refl _ _) (⟨_,rfl,by simp;omega⟩)
 refine vf (λx w5 G5 aT qt tZ=>?_) ?_
 intro v9 d9
 obtain⟨y9,e9,eE⟩:=d9
 subst e9
 refine iu rfl rfl rfl rfl (by(try simp);omega) ?_
 exact ff (aj.refl _ _) (⟨_,rfl,by simp;omega⟩)
 refine FA ?_
 refine ve 2 (λx w5 G5 aT qt tZ hJ hlen=>?_) ?_
 have aQ:=lO hlen
 obtain⟨q0,q1,aX⟩:=aQ
 subst aX
 have cz:=cz.go qt;have bZ:=bZ.go qt
 obtain⟨bS,bT,h⟩:=hJ
 subst bS
 refine aA (ih ns ts ([105]) br (q+2+20*P) _ _ w5 hl om hs so om h cz bZ) ?_
 rintro v9 w6 ⟨⟨x9,e9,iV⟩,h,aB⟩
 subst e9
 exact fq ([br]) (Fr.of aB sm) ((λz hz=>lL (tZ z hz) aB.size)) (⟨rfl,bT.trans aB,h.more om⟩) (⟨_,rfl,iV⟩)
 refine vf (λx w5 G5 aT qt tZ=>?_) ?_
 intro v10 d10
 intro mJ an6 d14
 obtain⟨LV,fQ,Fs⟩:=d10
 subst fQ
 obtain⟨y14,im,atH⟩:=d14
 subst im
 refine iu rfl rfl rfl rfl (by(try simp);omega) ?_
 exact ff (aj.refl _ _) (⟨_,rfl,by simp;omega⟩)
 refine vf (λx w5 G5 aT qt tZ=>?_) ?_
 intro zM d15
 obtain⟨y15,BS,atJ⟩:=d15
 subst BS
 refine iu rfl rfl rfl rfl (by(try simp);omega) ?_
 exact ff (aj.refl _ _) (⟨_,rfl,by simp;omega⟩)
 exact trivial
 intro x pL G44 aT atL atM hJ hlen
 have aQ:=A9 hlen
 obtain⟨q0,q1,q2,aX⟩:=aQ
 subst aX
 intro v1 d1
 intro v2 oL d2
 intro v3 d3
 intro v4 d4
 intro v8 hq8 d8
 intro v9 d9
 intro v10 d10
 intro mJ an6 d14
 intro zM d15
 intro Du d16
 change OW _ _ _ _ _ (bo (bm _ x _) (zZ 98 [_,_,_,_,_,_,_,_,_,_,_,_,_,_,_,_,_])) _
 obtain⟨bS,bT,h⟩:=hJ
 subst bS
 obtain⟨yz,ez,F2⟩:=d16
 subst ez
 refine W ?_
 exact⟨_,rfl,⟨yz,rfl,om⟩,h.more om,hk.trans bT⟩
 refine W ?_
 refine aA (QJ ns ts want hl om hs br (q+1) om _ _ w4 h cz bZ) ?_
 rintro v9 w5 ⟨⟨x9,e9,iV⟩,h,aB⟩
 subst e9
 refine W ?_
 exact⟨_,rfl,⟨x9,rfl,om⟩,h.more om,hk.trans aB⟩
 replace h4:=jW h4
 refine W ?_
 refine zc rfl (λh6=>?_) (λh6=>?_)
 simp at h6
 refine W ?_
 refine aA (QJ ns ts want hl om hs br q om _ _ w3 h cz bZ) ?_
 rintro v9 w4 ⟨⟨x9,e9,iV⟩,h,aB⟩
 subst e9
 refine W ?_
 exact⟨_,rfl,⟨x9,rfl,om⟩,h.more om,hk.trans aB⟩
theorem an7:IY 0 1:=by
 intro ns ts want br q v1 v2 w hl BQ hs hw hq h cz bZ
 obtain⟨a1,n1,c1,rfl,fu⟩:=dH cz
 obtain⟨a2,n2,c2,rfl,eS⟩:=dH bZ
 subst fu
 subst eS
 have ix:=h.lt
 have hk:=aj.refl [br] w
 refine bU [.tmp 8] 130 Tryz.func132 rfl Td rfl rfl ?_
 refine zr<|eK rfl λw1 aI cu dh=>gY aI hk h cz bZ λhk h cz bZ=>?_
 refine W ?_
 refine zc rfl (λh1=>?_) (λh1=>?_)
 refine W ?_
 refine aA (QJ ns ts want hl om hs br q om _ _ w1 h cz bZ) ?_
 rintro v9 w2 ⟨⟨x9,e9,iV⟩,h,aB⟩
 subst e9
 refine W ?_
 exact⟨_,rfl,⟨x9,rfl,om⟩,h.more om,hk.trans aB⟩
 simp at h1
theorem an8 (d P:Nat) (hd:d<=10) (hP:1<=P) (Y8:P<=1000000) (ih:IY d P):IY (d+1) (4*P):=by
 have hB:=anV d P hd hP Y8 ih
 intro ns ts want br q v1 v2 w hl BQ hs hw hq h cz bZ
 obtain⟨a1,n1,c1,rfl,fu⟩:=dH cz
 obtain⟨a2,n2,c2,rfl,eS⟩:=dH bZ
 subst fu
 subst eS
 have ix:=h.lt
 have hk:=aj.refl [br] w
 refine bU [.tmp 8] 130 Tryz.func132 rfl Td rfl rfl ?_
 refine zr<|eK rfl λw1 aI cu dh=>gY aI hk h cz bZ λhk h cz bZ=>?_
 refine W ?_
 refine zc rfl (λh1=>?_) (λh1=>?_)
 simp at h1;omega
 have cu:dP [br] w1 w.heap.size _ _:=⟨cu,by simp;omega⟩
 refine gT<|zr<|zm<|yD rfl rfl rfl rfl rfl (lx d om _ om)<|zA<|aV<|j3<|zr<|zm<|aA (mv 12 de de br q om w1 h) ?_
 rintro v9 w2 ⟨⟨z,e9,hz⟩,h,aB⟩
 subst e9
 have hk:=hk.trans aB
 have cz:=cz.aD aB sm;have bZ:=bZ.aD aB sm;have cu:=cu.aD aB sm
 have k8:=h.lt
 refine W ?_
 refine zc rfl (λh2=>?_) (λh2=>?_)
 refine WZ ?_
 apply jV dv ([br]) 20 (rA 25 20) (rA 25 20) [[],[],[],[0,1,2],[3],[4],[],[],[],[],(rA 6 4),[5,10],[11],[],[],[],[],(rA 13 4),[12,17],[18]] [Ie.v _,Ie.v _,Ie.v _,Ie.q 0 (fun(v:Value)=>∃x,v=str x∧x.length<=100000*P),Ie.p (fun(G:List Nat) (v:Value) (ww:World)=>∃x,v=str x∧x.length<=100000*P+100),Ie.p (fun(G:List Nat) (v:Value) (ww:World)=>∃x,v=str x∧x.length<=100000*P+200),Ie.v _,Ie.v _,Ie.v _,Ie.v _,Ie.q 1 (fun(v:Value)=>∃x,v=str x∧x.length<=100000*P),Ie.p (fun(G:List Nat) (v:Value) (ww:World)=>∃x,v=str x∧x.length<=200000*P+300),Ie.p (fun(G:List Nat) (v:Value) (ww:World)=>∃x,v=str x∧x.length<=200000*P+400),Ie.v _,Ie.v _,Ie.v _,Ie.v _,Ie.q 2 (fun(v:Value)=>∃x,v=str x∧x.length<=100000*P),Ie.p (fun(G:List Nat) (v:Value) (ww:World)=>∃x,v=str x∧x.length<=300000*P+500),Ie.p (fun(G:List Nat) (v:Value) (ww:World)=>∃x,v=str x∧x.length<=300000*P+600)] [3,10,17] [fun(G:List Nat) (vs:List Value) (ww:World)=>G=[br]∧aj [br] w2 ww∧dB ww br (q+1),fun(G:List Nat) (vs:List Value) (ww:World)=>G=[br]∧aj [br] w2 ww∧dB ww br (q+1+20*P),fun(G:List Nat) (vs:List Value) (ww:World)=>G=[br]∧aj [br] w2 ww∧dB ww br (q+1+40*P),fun(G:List Nat) (vs:List Value) (ww:World)=>G=[br]∧aj [br] w2 ww∧dB ww br (q+1+60*P)] de rfl ((λz hz=>by simp at hz;subst hz;exact h.lt)) (by exact⟨λG v w G' w' h k=>h,λG v w G' w' h k=>h,λG v w G' w' h k=>h,λG v w G' w' h k=>h,λG v w G' w' h k=>h,λG v w G' w' h k=>h,trivial⟩) (by exact⟨λG vs w w' ⟨h1,h2,h3⟩ k=>⟨h1,h2.ext k,h3.ext k⟩,λG vs w w' ⟨h1,h2,h3⟩ k=>⟨h1,h2.ext k,h3.ext k⟩,λG vs w w' ⟨h1,h2,h3⟩ k=>⟨h1,h2.ext k,h3.ext k⟩,λG vs w w' ⟨h1,h2,h3⟩ k=>⟨h1,h2.ext k,h3.ext k⟩,trivial⟩) (⟨rfl,aj.refl _ _,h⟩)
 refine FA ?_
 refine ve 0 (λx w3 G3 aT jC kM hJ hlen=>?_) ?_
 have aX:=jw hlen
 subst aX
 have cz:=cz.go jC;have bZ:=bZ.go jC
 obtain⟨bS,bT,h⟩:=hJ
 subst bS
 refine aA (ih ns ts ([105]) br (q+1) _ _ w3 hl om hs so om h cz bZ) ?_
 rintro v9 w4 ⟨⟨x9,e9,iV⟩,h,aB⟩
 subst e9
 exact fq ([br]) (Fr.of aB sm) ((λz hz=>lL (kM z hz) aB.size)) (⟨rfl,bT.trans aB,h.more om⟩) (⟨_,rfl,iV⟩)
 refine vf (λx w3 G3 aT jC kM=>?_) ?_
 intro v3 Kr d3
 obtain⟨y3,e3,xL⟩:=d3
 subst e3
 refine iu rfl rfl rfl rfl (by(try simp);omega) ?_
 exact ff (aj.refl _ _) (⟨_,rfl,by simp;omega⟩)
 refine vf (λx w3 G3 aT jC kM=>?_) ?_
 intro v4 d4
 obtain⟨y4,e4,C9⟩:=d4
 subst e4
 refine iu rfl rfl rfl rfl (by(try simp);omega) ?_
 exact ff (aj.refl _ _) (⟨_,rfl,by simp;omega⟩)
 refine FA ?_
 refine ve 1 (λx w3 G3 aT jC kM hJ hlen=>?_) ?_
 have aQ:=jx hlen
 obtain⟨q0,aX⟩:=aQ
 subst aX
 have cz:=cz.go jC;have bZ:=bZ.go jC
 obtain⟨bS,bT,h⟩:=hJ
 subst bS
 refine aA (ih ns ts want br (q+1+20*P) _ _ w3 hl om hs om om h cz bZ) ?_
 rintro v9 w4 ⟨⟨x9,e9,iV⟩,h,aB⟩
 subst e9
 exact fq ([br]) (Fr.of aB sm) ((λz hz=>lL (kM z hz) aB.size)) (⟨rfl,bT.trans aB,h.more om⟩) (⟨_,rfl,iV⟩)
 refine vf (λx w3 G3 aT jC kM=>?_) ?_
 intro v5 d5
 intro v10 Zb d10
 obtain⟨y5,e5,hl5⟩:=d5
 subst e5
 obtain⟨LV,fQ,Fs⟩:=d10
 subst fQ
 refine iu rfl rfl rfl rfl (by(try simp);omega) ?_
 exact ff (aj.refl _ _) (⟨_,rfl,by simp;omega⟩)
 refine vf (λx w3 G3 aT jC kM=>?_) ?_
 intro v11 d11
 obtain⟨Y9,DJ,Za⟩:=d11
 subst DJ
 refine iu rfl rfl rfl rfl (by(try simp);omega) ?_
 exact ff (aj.refl _ _) (⟨_,rfl,by simp;omega⟩)
 refine FA ?_
 refine ve 2 (λx w3 G3 aT jC kM hJ hlen=>?_) ?_
 have aQ:=lO hlen
 obtain⟨q0,q1,aX⟩:=aQ
 subst aX
 have cz:=cz.go jC;have bZ:=bZ.go jC
 obtain⟨bS,bT,h⟩:=hJ
 subst bS
 refine aA (ih ns ts want br (q+1+40*P) _ _ w3 hl om hs om om h cz bZ) ?_
 rintro v9 w4 ⟨⟨x9,e9,iV⟩,h,aB⟩
 subst e9
 exact fq ([br]) (Fr.of aB sm) ((λz hz=>lL (kM z hz) aB.size)) (⟨rfl,bT.trans aB,h.more om⟩) (⟨_,rfl,iV⟩)
 refine vf (λx w3 G3 aT jC kM=>?_) ?_
 intro v12 d12
 intro jQ QQ d17
 obtain⟨y12,rp,anZ⟩:=d12
 subst rp
 obtain⟨Zc,sH,Zd⟩:=d17
 subst sH
 refine iu rfl rfl rfl rfl (by(try simp);omega) ?_
 exact ff (aj.refl _ _) (⟨_,rfl,by simp;omega⟩)
 refine vf (λx w3 G3 aT jC kM=>?_) ?_
 intro yd d18
 obtain⟨y18,wI,Pa⟩:=d18
 subst wI
 refine iu rfl rfl rfl rfl (by(try simp);omega) ?_
 exact ff (aj.refl _ _) (⟨_,rfl,by simp;omega⟩)
 exact trivial
 intro x qY HS aT Fi Oy hJ hlen
 have aQ:=A9 hlen
 obtain⟨q0,q1,q2,aX⟩:=aQ
 subst aX
 intro v3 Kr d3
 intro v4 d4
 intro v5 d5
 intro v10 Zb d10
 intro v11 d11
 intro v12 d12
 intro jQ QQ d17
 intro yd d18
 intro K6 d19
 change OW _ _ _ _ _ (bo (bm _ x _) (zZ 25 [_,_,_,_,_,_,_,_,_,_,_,_,_,_,_,_,_,_,_,_])) _
 obtain⟨bS,bT,h⟩:=hJ
 subst bS
 obtain⟨yz,ez,F2⟩:=d19
 subst ez
 refine W ?_
 exact⟨_,rfl,⟨yz,rfl,om⟩,h.more om,hk.trans bT⟩
 refine W ?_
 refine iS (λb:Bool=>[(0,.pointer (some ⟨br,0,none⟩)),(2,str want),(3,.int .i64 ((d+1:Nat):Int)),(5,.pointer (some ⟨w.heap.size,0,none⟩)),(9,.int .i64 (d:Int)),(22,.int .i64 (z:Int)),(45,.bool b)]) (λb ww=>ww=w2) ?_ ?_
 refine zc rfl (λh3=>?_) (λh3=>?_)
 refine WZ ?_
 exact⟨_,⟨rfl,rfl,rfl,rfl,rfl,rfl,rfl⟩,rfl⟩
 refine W ?_
 exact⟨_,⟨rfl,rfl,rfl,rfl,rfl,rfl,rfl⟩,rfl⟩
 intro gu w3 e3 hI
 have QR:w3=_:=hI
 subst QR
 refine zc rfl (λh4=>?_) (λh4=>?_)
 refine zr<|zm<|aA (QH 1 de br (q+1) om w3 h) ?_
 rintro v9 w4 ⟨⟨T,e9,hT⟩,h,aB⟩
 subst e9
 have Ze:=T.len
 have hT:T.n+1<=4:=hT
 have h:=h.more (show _<=q+5 from om)
 have hk:=hk.trans aB
 have cz:=cz.aD aB sm;have bZ:=bZ.aD aB sm;have cu:=cu.aD aB sm
 have k8:=h.lt
 refine W ?_
 refine U2 bg ba rfl rfl rfl rfl rfl rfl rfl λw5 aN Pn gZ=>kJ aN cz bZ cu h hk λcz bZ cu h hk=>?_
 refine aA (mw QL de de br (q+5) om _ w5 h (aK.dO QL Pn (λhx=>by simp at hx;omega) de)) ?_
 rintro mJ w6 ⟨⟨nm,aoa,im⟩,h,aB⟩
 subst im
 have atN:=(show∀x,x∈QL->x.length<=30 from by decide) _ aoa
 have hk:=hk.trans aB
 have cz:=cz.aD aB sm;have bZ:=bZ.aD aB sm;have cu:=cu.aD aB sm
 have k8:=h.lt
 refine W ?_
 apply jV dv ([br]) 20 (rA 53 20) (rA 53 20) [[],[0],[1],[],[],[],[],(rA 3 4),[2,7],[8],[],[],[],[],[11,12,13],[],[],[10,14,15,16],[9,17],[18]] [Ie.v _,Ie.v _,Ie.v _,Ie.v _,Ie.v _,Ie.v _,Ie.v _,Ie.q 0 (fun(v:Value)=>∃x,v=str x∧x.length<=100000*P),Ie.p (fun(G:List Nat) (v:Value) (ww:World)=>∃x,v=str x∧x.length<=100000*P+200),Ie.p (fun(G:List Nat) (v:Value) (ww:World)=>∃x,v=str x∧x.length<=100000*P+300),Ie.v _,Ie.v _,Ie.v _,Ie.v _,Ie.e 1,Ie.v _,Ie.v _,Ie.q 2 (fun(v:Value)=>∃x,v=str x∧x.length<=100000*P),Ie.p (fun(G:List Nat) (v:Value) (ww:World)=>∃x,v=str x∧x.length<=200000*P+400),Ie.p (fun(G:List Nat) (v:Value) (ww:World)=>∃x,v=str x∧x.length<=200000*P+500)] [7,14,17] [fun(G:List Nat) (vs:List Value) (ww:World)=>G=[br]∧aj [br] w6 ww∧dB ww br (q+6),fun(G:List Nat) (vs:List Value) (ww:World)=>G=[br]∧aj [br] w6 ww∧dB ww br (q+6+20*P),fun(G:List Nat) (vs:List Value) (ww:World)=>G=[br]∧aj [br] w6 ww∧dB ww br (q+6+20*P)∧∃u1 u2,vs.getD 1 undef= .agg #[u1,u2]∧bf [br] ww u1 (ns++[nm])∧bf [br] ww u2 (ts++[T.text]),fun(G:List Nat) (vs:List Value) (ww:World)=>G=[br]∧aj [br] w6 ww∧dB ww br (q+6+40*P)] de rfl ((λz hz=>by simp at hz;subst hz;exact h.lt)) (by exact⟨λG v w G' w' h k=>h,λG v w G' w' h k=>h,λG v w G' w' h k=>h,λG v w G' w' h k=>h,trivial⟩) (by exact⟨λG vs w w' ⟨h1,h2,h3⟩ k=>⟨h1,h2.ext k,h3.ext k⟩,λG vs w w' ⟨h1,h2,h3⟩ k=>⟨h1,h2.ext k,h3.ext k⟩,λG vs w w' ⟨h1,h2,h3,u1,u2,e,g1,g2⟩ k=>⟨h1,h2.ext k,h3.ext k,u1,u2,e,g1.ext k,g2.ext k⟩,λG vs w w' ⟨h1,h2,h3⟩ k=>⟨h1,h2.ext k,h3.ext k⟩,trivial⟩) (⟨rfl,aj.refl _ _,h⟩)
 refine FA ?_
 refine ve 0 (λx w7 G7 aT nM lT hJ hlen=>?_) ?_
 have aX:=jw hlen
 subst aX
 have cz:=cz.go nM;have bZ:=bZ.go nM
 obtain⟨bS,bT,h⟩:=hJ
 subst bS
 refine aA (ih ns ts T.text br (q+6) _ _ w7 hl om hs om om h cz bZ) ?_
 rintro v9 w8 ⟨⟨x9,e9,iV⟩,h,aB⟩
 subst e9
 exact fq ([br]) (Fr.of aB sm) ((λz hz=>lL (lT z hz) aB.size)) (⟨rfl,bT.trans aB,h.more om⟩) (⟨_,rfl,iV⟩)
 refine vf (λx w7 G7 aT nM lT=>?_) ?_
 intro v7 hq7 d7
 obtain⟨y7,e7,WM⟩:=d7
 subst e7
 refine iu rfl rfl rfl rfl (by(try simp);omega) ?_
 exact ff (aj.refl _ _) (⟨_,rfl,by simp;omega⟩)
 refine vf (λx w7 G7 aT nM lT=>?_) ?_
 intro v8 d8
 obtain⟨y8,e8,hl8⟩:=d8
 subst e8
 refine iu rfl rfl rfl rfl (by(try simp);omega) ?_
 exact ff (aj.refl _ _) (⟨_,rfl,by simp;omega⟩)
 refine FA ?_
 refine ve 1 (λx w7 G7 aT nM lT hJ hlen=>?_) ?_
 have aQ:=jx hlen
 obtain⟨q0,aX⟩:=aQ
 subst aX
 have cz:=cz.go nM;have bZ:=bZ.go nM
 obtain⟨bS,bT,h⟩:=hJ
 subst bS
 refine aA (LN ns ts nm T.text om om _ _ [br] w7 (λx hx=>by simp at hx;subst hx;exact h.lt) cz bZ) ?_
 rintro v9 w8 ⟨⟨u1,u2,e9,r7,r8⟩,aB⟩
 subst e9
 exact fe ([br]) (Fr.of aB sm) ((λz hz=>lL (lT z hz) aB.size)) (⟨rfl,bT.ext aB,h.ext aB,u1,u2,rfl,r7,r8⟩)
 refine FA ?_
 refine ve 2 (λx w7 G7 aT nM lT hJ hlen=>?_) ?_
 have aQ:=lO hlen
 obtain⟨q0,q1,aX⟩:=aQ
 subst aX
 obtain⟨bS,bT,h,u1,u2,e1,r7,r8⟩:=hJ
 subst bS
 have e2:q1=_:=e1
 subst e2
 refine aA (ih (ns++[nm]) (ts++[T.text]) want br (q+6+20*P) _ _ w7 so so (LR hs om) om om h r7 r8) ?_
 rintro v9 w8 ⟨⟨x9,e9,iV⟩,h,aB⟩
 subst e9
 exact fq ([br]) (Fr.of aB sm) ((λz hz=>lL (lT z hz) aB.size)) (⟨rfl,bT.trans aB,h.more om⟩) (⟨_,rfl,iV⟩)
 refine vf (λx w7 G7 aT nM lT=>?_) ?_
 intro v9 d9
 intro jQ QQ d17
 obtain⟨y9,e9,eE⟩:=d9
 subst e9
 obtain⟨Zc,sH,Zd⟩:=d17
 subst sH
 refine iu rfl rfl rfl rfl (by(try simp);omega) ?_
 exact ff (aj.refl _ _) (⟨_,rfl,by simp;omega⟩)
 refine vf (λx w7 G7 aT nM lT=>?_) ?_
 intro yd d18
 obtain⟨y18,wI,Pa⟩:=d18
 subst wI
 refine iu rfl rfl rfl rfl (by(try simp);omega) ?_
 exact ff (aj.refl _ _) (⟨_,rfl,by simp;omega⟩)
 exact trivial
 intro x sJ K1 aT yf K2 hJ hlen
 have aQ:=A9 hlen
 obtain⟨q0,q1,q2,aX⟩:=aQ
 subst aX
 intro v7 hq7 d7
 intro v8 d8
 intro v9 d9
 intro jQ QQ d17
 intro yd d18
 intro K6 d19
 change OW _ _ _ _ _ (bo (bm _ x _) (zZ 53 [_,_,_,_,_,_,_,_,_,_,_,_,_,_,_,_,_,_,_,_])) _
 obtain⟨bS,bT,h⟩:=hJ
 subst bS
 obtain⟨yz,ez,F2⟩:=d19
 subst ez
 refine W ?_
 exact⟨_,rfl,⟨yz,rfl,om⟩,h.more om,hk.trans bT⟩
 refine W ?_
 refine iS (λb:Bool=>[(0,.pointer (some ⟨br,0,none⟩)),(2,str want),(3,.int .i64 ((d+1:Nat):Int)),(5,.pointer (some ⟨w.heap.size,0,none⟩)),(9,.int .i64 (d:Int)),(22,.int .i64 (z:Int)),(73,.bool b)]) (λb ww=>ww=w3) ?_ ?_
 refine zc rfl (λh5=>?_) (λh5=>?_)
 refine WZ ?_
 exact⟨_,⟨rfl,rfl,rfl,rfl,rfl,rfl,rfl⟩,rfl⟩
 refine W ?_
 exact⟨_,⟨rfl,rfl,rfl,rfl,rfl,rfl,rfl⟩,rfl⟩
 intro gu w4 e4 hI
 have QR:w4=_:=hI
 subst QR
 refine zc rfl (λh6=>?_) (λh6=>?_)
 refine zr<|zm<|aA (QH 1 de br (q+1) om w4 h) ?_
 rintro v9 w5 ⟨⟨T,e9,hT⟩,h,aB⟩
 subst e9
 have Ze:=T.len
 have hT:T.n+1<=4:=hT
 have h:=h.more (show _<=q+5 from om)
 have hk:=hk.trans aB
 have cz:=cz.aD aB sm;have bZ:=bZ.aD aB sm;have cu:=cu.aD aB sm
 have k8:=h.lt
 refine W ?_
 apply jV dv ([br]) 19 (rA 78 19) (rA 78 19) [[],[],[],[2],[3],[],[4,5],[6],[],[0,1,7,8],[9],[10],[],[],[],[],(rA 12 4),[11,16],[17]] [Ie.v _,Ie.v _,Ie.v _,Ie.v _,Ie.v _,Ie.v _,Ie.v _,Ie.v _,Ie.v _,Ie.q 0 (fun(v:Value)=>∃x,v=str x∧x.length<=100000*P),Ie.p (fun(G:List Nat) (v:Value) (ww:World)=>∃x,v=str x∧x.length<=100000*P+200),Ie.p (fun(G:List Nat) (v:Value) (ww:World)=>∃x,v=str x∧x.length<=100000*P+300),Ie.v _,Ie.v _,Ie.v _,Ie.v _,Ie.q 1 (fun(v:Value)=>∃x,v=str x∧x.length<=100000*P),Ie.p (fun(G:List Nat) (v:Value) (ww:World)=>∃x,v=str x∧x.length<=200000*P+400),Ie.p (fun(G:List Nat) (v:Value) (ww:World)=>∃x,v=str x∧x.length<=200000*P+500)] [9,16] [fun(G:List Nat) (vs:List Value) (ww:World)=>G=[br]∧aj [br] w5 ww∧dB ww br (q+5),fun(G:List Nat) (vs:List Value) (ww:World)=>G=[br]∧aj [br] w5 ww∧dB ww br (q+5+20*P),fun(G:List Nat) (vs:List Value) (ww:World)=>G=[br]∧aj [br] w5 ww∧dB ww br (q+5+40*P)] de rfl ((λz hz=>by simp at hz;subst hz;exact h.lt)) (by exact⟨λG v w G' w' h k=>h,λG v w G' w' h k=>h,λG v w G' w' h k=>h,λG v w G' w' h k=>h,trivial⟩) (by exact⟨λG vs w w' ⟨h1,h2,h3⟩ k=>⟨h1,h2.ext k,h3.ext k⟩,λG vs w w' ⟨h1,h2,h3⟩ k=>⟨h1,h2.ext k,h3.ext k⟩,λG vs w w' ⟨h1,h2,h3⟩ k=>⟨h1,h2.ext k,h3.ext k⟩,trivial⟩) (⟨rfl,aj.refl _ _,h⟩)
 refine FA ?_
 refine ve 0 (λx w6 G6 aT Aj Em hJ hlen=>?_) ?_
 have aX:=jw hlen
 subst aX
 have cz:=cz.go Aj;have bZ:=bZ.go Aj
 obtain⟨bS,bT,h⟩:=hJ
 subst bS
 refine aA (ih ns ts (((([40,62,32]++T.text)++[32])++want)++[41]) br (q+5) _ _ w6 hl om hs so om h cz bZ) ?_
 rintro v9 w7 ⟨⟨x9,e9,iV⟩,h,aB⟩
 subst e9
 exact fq ([br]) (Fr.of aB sm) ((λz hz=>lL (Em z hz) aB.size)) (⟨rfl,bT.trans aB,h.more om⟩) (⟨_,rfl,iV⟩)
 refine vf (λx w6 G6 aT Aj Em=>?_) ?_
 intro v9 IH d9
 obtain⟨y9,e9,eE⟩:=d9
 subst e9
 refine iu rfl rfl rfl rfl (by(try simp);omega) ?_
 exact ff (aj.refl _ _) (⟨_,rfl,by simp;omega⟩)
 refine vf (λx w6 G6 aT Aj Em=>?_) ?_
 intro v10 d10
 obtain⟨LV,fQ,Fs⟩:=d10
 subst fQ
 refine iu rfl rfl rfl rfl (by(try simp);omega) ?_
 exact ff (aj.refl _ _) (⟨_,rfl,by simp;omega⟩)
 refine FA ?_
 refine ve 1 (λx w6 G6 aT Aj Em hJ hlen=>?_) ?_
 have aQ:=jx hlen
 obtain⟨q0,aX⟩:=aQ
 subst aX
 have cz:=cz.go Aj;have bZ:=bZ.go Aj
 obtain⟨bS,bT,h⟩:=hJ
 subst bS
 refine aA (ih ns ts T.text br (q+5+20*P) _ _ w6 hl om hs om om h cz bZ) ?_
 rintro v9 w7 ⟨⟨x9,e9,iV⟩,h,aB⟩
 subst e9
 exact fq ([br]) (Fr.of aB sm) ((λz hz=>lL (Em z hz) aB.size)) (⟨rfl,bT.trans aB,h.more om⟩) (⟨_,rfl,iV⟩)
 refine vf (λx w6 G6 aT Aj Em=>?_) ?_
 intro v11 d11
 intro Du aoc d16
 obtain⟨Y9,DJ,Za⟩:=d11
 subst DJ
 obtain⟨y16,B8,atP⟩:=d16
 subst B8
 refine iu rfl rfl rfl rfl (by(try simp);omega) ?_
 exact ff (aj.refl _ _) (⟨_,rfl,by simp;omega⟩)
 refine vf (λx w6 G6 aT Aj Em=>?_) ?_
 intro jQ d17
 obtain⟨Zc,sH,Zd⟩:=d17
 subst sH
 refine iu rfl rfl rfl rfl (by(try simp);omega) ?_
 exact ff (aj.refl _ _) (⟨_,rfl,by simp;omega⟩)
 exact trivial
 intro x qX G45 aT atS atT hJ hlen
 have aQ:=lO hlen
 obtain⟨q0,q1,aX⟩:=aQ
 subst aX
 intro v9 IH d9
 intro v10 d10
 intro v11 d11
 intro Du aoc d16
 intro jQ d17
 intro yd d18
 change OW _ _ _ _ _ (bo (bm _ x _) (zZ 78 [_,_,_,_,_,_,_,_,_,_,_,_,_,_,_,_,_,_,_])) _
 obtain⟨bS,bT,h⟩:=hJ
 subst bS
 obtain⟨yz,ez,F2⟩:=d18
 subst ez
 refine W ?_
 exact⟨_,rfl,⟨yz,rfl,om⟩,h.more om,hk.trans bT⟩
 refine W ?_
 refine zc rfl (λh7=>?_) (λh7=>?_)
 refine W ?_
 refine aA (ih ns ts (([40,42,32]++want)++[32,105,41]) br (q+1) _ _ w4 hl om hs so om h cz bZ) ?_
 rintro v9 w5 ⟨⟨x9,e9,iV⟩,h,aB⟩
 subst e9
 refine W ?_
 exact⟨_,rfl,⟨_,rfl,by simp;omega⟩,h.more om,hk.trans aB⟩
 refine W ?_
 refine zc rfl (λh8=>?_) (λh8=>?_)
 refine W ?_
 refine aA (ih ns ts (([40,42,32,105,32]++want)++[41]) br (q+1) _ _ w4 hl om hs so om h cz bZ) ?_
 rintro v9 w5 ⟨⟨x9,e9,iV⟩,h,aB⟩
 subst e9
 refine W ?_
 exact⟨_,rfl,⟨_,rfl,by simp;omega⟩,h.more om,hk.trans aB⟩
 refine W ?_
 refine zc rfl (λh9=>?_) (λh9=>?_)
 refine W ?_
 refine zc rfl (λgi=>?_) (λgi=>?_)
 refine zr<|zm<|aA (anO br (q+1) om w4 h) ?_
 rintro v9 w5 ⟨⟨x9,e9,iV⟩,h,aB⟩
 subst e9
 refine W ?_
 exact⟨_,rfl,⟨x9,rfl,om⟩,h.more om,hk.trans aB⟩
 refine W ?_
 refine aA (hB ns ts want br (q+1) _ _ w4 hl om hs om om h cz bZ) ?_
 rintro v9 w5 ⟨⟨x9,e9,iV⟩,h,aB⟩
 subst e9
 refine W ?_
 exact⟨_,rfl,⟨x9,rfl,om⟩,h.more om,hk.trans aB⟩
 refine W ?_
 refine aA (hB ns ts want br (q+1) _ _ w4 hl om hs om om h cz bZ) ?_
 rintro v9 w5 ⟨⟨x9,e9,iV⟩,h,aB⟩
 subst e9
 refine W ?_
 exact⟨_,rfl,⟨x9,rfl,om⟩,h.more om,hk.trans aB⟩
theorem QS:∀d,d<=9->IY d (4^d)
 |0,_=>an7
 |d+1,h=>by
  have h2:4^d<=4^9:=Nat.pow_le_pow_right de om
  have:=an8 d (4^d) om (Nat.pos_of_ne_zero sm) (Nat.le_trans h2 de) (QS d om)
  rw[Nat.pow_succ,Nat.mul_comm]
  exact this
theorem mB.zero {TB TS:TypeId} (h:aK w b #[] TB):mB w TB TS (.slice (some ⟨b,0,none⟩) 0 0) (some b) [] [] []:=
 ⟨⟨by simp,.inr ⟨b,0,#[],rfl,rfl,h,lR _,by decide,rfl,rfl⟩⟩,trivial,by simp[gO],by simp[gO]⟩
theorem mB.gr {TB TS:TypeId} (h:mB w TB TS v g gss vss bs) (hL:∀x,x∈g.toList++gO gss->x∉L) (hB:∀b,g=some b->B<=b) (hl:∀x,x∈L->x<w.heap.size) (hs:B<=w.heap.size):Gr B L w TB 3 v g (bs.map Bk.enc):=by
 have hd:=(List.nodup_append.1 h.nodup).2.2
 refine⟨⟨vss.flatten,by simpa using h.own,h.rows.CC λx hx hc=>?_,?_,λb hb=>hL b (by simp[hb])⟩,hB,hl,hs⟩
 ·rcases mA.1 hc with hc|hc
  ·exact hd x hc x hx rfl
  ·exact hL x (by simp[hx]) hc
 ·intro row hr
  obtain⟨c,_,rfl⟩:=List.mem_map.1 hr
  rfl
section
variable {P:Program} {n:Nat} {ops:Array Oper} {K:Env->World->Prop} {rest:List Oper} {e:Env} {w:World}
 {dst:Option Nat} {ty:TypeId} {pos:String} {after:Array Edge} {g:Option (Nat×Bool)} {x y:Operand}
theorem aod {t E TS bytes:Nat} {z:Value} {v:Value} {gb:Option Nat} {gss:List (Option Nat×Option Nat)} {vss:List (List Value)} {bs:List Bk} {f:Bk} {gs:Option Nat×Option Nat} {a1 a2:Option Addr} {n1 c1 n2 c2:Nat} {b U:Nat} (hT:P.underlying t=some (.slice E)) (hE:TI P E 3 bytes z) (hg:gate ops e g=true) (hd:cj n dst=true) (hz:Nat.beq z.cells.size 3=true) (fY:Nat.ble bytes 1000=true) 
  (hx:ev e x=v) (hy:ev e y= .slice (some ⟨b,0,none⟩) 1 1) (hP:mB w E TS v gb gss vss bs) (hb:aK w b [str f.aJ,.slice a1 n1 c1,.slice a2 n2 c2].toArray U)
  (h1:cG w TS (.slice a1 n1 c1) gs.1 f.ck) (h2:cG w TS (.slice a2 n2 c2) gs.2 f.code) (od:∀x,x∈jk gs->x∉gb.toList++gO gss) (ji:(jk gs).Nodup) (hn:bs.length<100000000)
  (k:∀a' cap' g' w',mB w' E TS (.slice a' (bs++[f]).length cap') g' (gss++[gs]) (vss++[[str f.aJ,.slice a1 n1 c1,.slice a2 n2 c2]]) (bs++[f])->aj gb.toList w w'->(g'=gb∨∃z,g'=some z∧w.heap.size<=z)->OW P n ops K rest (bQ e dst (.slice a' (bs++[f]).length cap')) w'):
  OW P n ops K (⟨dst,.call {callee:=.builtin .append,args:=#[x,y],argTypes:=#[t,t]},ty,pos,after,g⟩::rest) e w:=by
 obtain⟨i,hi,vG,fR,yu⟩:=hE.get
 have AE:bytes<=1000:=Nat.le_of_ble_eq_true fY
 have I8:(bs.length+1)*bytes<=140737488355328:=Nat.le_trans (Nat.mul_le_mul (show bs.length+1<=100000000 by omega) AE) de
 obtain⟨v',g',w',j5,dm,hk,kT⟩:=Rz (P:=P) (w:=w) (ty:=ty) hT hi vG fR yu (Nat.eq_of_beq_eq_true hz) hP.own b 0 1 1 [str f.aJ,.slice a1 n1 c1,.slice a2 n2 c2] rfl (by have:=hb.all;simpa using this)
  (by intro u hu;simp at hu;rcases hu with rfl|rfl|rfl<;>rfl) de (by unfold maxLen;omega) I8
 have yK:jb w' E 3 v' g' (bs++[f]).length (vss++[[str f.aJ,.slice a1 n1 c1,.slice a2 n2 c2]]).flatten:=by
  simpa using dm
 obtain⟨a',cap',he⟩:=yK.len
 subst he
 have IZ:=(List.nodup_append.1 hP.nodup)
 have Zf:∀x,x∈jk gs->x<w.heap.size:=λx hx=>by
  simp only[jk,mA] at hx
  rcases hx with hx|hx
  ·exact jb.lt h1 x (by simpa using hx)
  ·exact jb.lt h2 x (by simpa using hx)
 refine eJ hg hd (w':=w') (by
  simp only[execOp,resolve,invoke,builtin,Sem.run_bind,Sem.run_pure,Result.andThen_ok,List.map_toArray,List.map_cons,List.map_nil,hx,hy,j5]) (k a' cap' g' w' ⟨yK,?_,?_,?_⟩ hk (kT.imp id λh=>⟨_,h,lR _⟩))
 ·refine jd.snoc (hP.rows.aF hk λx hx hg=>IZ.2.2 x hg x hx rfl) ⟨_,_,rfl,h1.aF hk λb hb hx=>?_,h2.aF hk λb hb hx=>?_⟩
  ·exact od b (by simp[jk,hb]) (by simp at hx;simp[hx])
  ·exact od b (by simp[jk,hb]) (by simp at hx;simp[hx])
 ·rw[NR,<-List.append_assoc]
  refine List.nodup_append.2 ⟨List.nodup_append.2 ⟨by cases g'<;>simp,IZ.2.1,λa ha c hc=>?_⟩,ji,λa ha c hc=>?_⟩
  ·rintro rfl
   rcases kT with h|h
   ·rw[h] at ha;exact IZ.2.2 a ha a hc rfl
   ·rw[h] at ha;simp at ha;have:=hP.lt a hc;omega
  ·rintro rfl
   rcases mA.1 ha with ha|ha
   ·rcases kT with h|h
    ·rw[h] at ha;exact od a hc (by simp at ha;simp[ha])
    ·rw[h] at ha;simp at ha;have:=Zf a hc;omega
   ·exact od a hc (by simp[ha])
 ·intro x hx
  rw[NR,mA] at hx
  rcases hx with hx|hx
  ·exact lL (hP.lt x hx) hk.size
  ·exact lL (Zf x hx) hk.size
theorem jd.QT {w:World} {T:TypeId}:∀{gss:List (Option Nat×Option Nat)} {vss:List (List Value)} {bs:List Bk} {i:Nat} {g:Option Nat×Option Nat} {v:List Value} {f:Bk},jd w T gss vss bs->qJ w' T g v f->
  (∀(g2:Option Nat×Option Nat) (v2:List Value) (b2:Bk),(∀x,x∈jk g2->x∈gO gss)->qJ w T g2 v2 b2->qJ w' T g2 v2 b2)->jd w' T (gss.set i g) (vss.set i v) (bs.set i f)
 |[],[],[],i,g,v,f,_,_,_=>trivial
 |g0::gs,v0::vs,b0::bs,0,g,v,f,h,hf,hk=>by
  refine⟨hf,?_⟩
  have:=jd.QT (i:=gs.length) (g:=g) (v:=v) (f:=f) h.2 hf λg2 v2 b2 hg ho=>hk g2 v2 b2 (λx hx=>by rw[Kb];exact mR _ (hg x hx)) ho
  have hl:=jd.lens h.2
  rwa [List.set_eq_of_length_le om,List.set_eq_of_length_le om,List.set_eq_of_length_le om] at this
 |g0::gs,v0::vs,b0::bs,i+1,g,v,f,h,hf,hk=>
  ⟨hk g0 v0 b0 (λx hx=>by rw[Kb];exact List.mem_append_left _ hx) h.1,jd.QT h.2 hf λg2 v2 b2 hg ho=>hk g2 v2 b2 (λx hx=>by rw[Kb];exact mR _ (hg x hx)) ho⟩
theorem aoe {T TB TS bytes:Nat} {z:Value} {v:Value} {gb:Option Nat} {gss:List (Option Nat×Option Nat)} {vss:List (List Value)} {bs:List Bk} {a2:Option Addr} {n2 c2:Nat} {g2:Option Nat} {ys:List ai} {L:List Nat} {o i:Nat} (j6:TI P T 1 bytes z) (hg:gate ops e g=true) (hx:ev e x= .pointer (some ⟨b,o,none⟩)) (hy:ev e y= .slice a2 n2 c2) (ho:o=i*3+2) 
  (hO:mB w TB TS v gb gss vss bs) (mc:gb=some b) (hi:i<bs.length) (h2:cG w TS (.slice a2 n2 c2) g2 ys) (od:∀x,x∈g2.toList->x∉gb.toList) (hL:∀x,x∈gb.toList++gO gss++g2.toList->x∉L)
  (k:∀w',aj gb.toList w w'->(∃xs,ig L w' TB 3 v gb ((bs.set i {bR bs i with code:=ys}).map Bk.enc) xs)->w'.heap.size=w.heap.size->OW P n ops K rest e w'):OW P n ops K (⟨none,.store T x y,ty,pos,after,g⟩::rest) e w:=by
 subst ho
 have hd:=List.nodup_append.1 hO.nodup
 have dm:=hO.own
 obtain⟨gs,vs,jA,aX,v1,v2,NJ,dk,dx⟩:=hO.rows.get (kq hi)
 obtain⟨fD,iG,xL⟩:=hO.rows.lens
 subst mc
 obtain⟨hl,h|⟨b',cap,cur,mc,hv,hb,my,l0,bV,ht⟩⟩:=dm
 ·obtain⟨_,_,h⟩:=h;cases h
 ·cases mc
  subst hv
  refine Jb j6 rfl hg hx hy rfl hb (by rw[bV];omega) λw' hk gB hz=>?_
  have nq:(vss.set i [str (bR bs i).aJ,v1,.slice a2 n2 c2]).flatten=vss.flatten.set (i*3+2) (.slice a2 n2 c2):=by
   have:=UN (a:=.slice a2 n2 c2) (j:=2) xL aX de
   rw[this,NJ];rfl
  have jB:∀x,x∈gO gss->x∉[b]:=λq hq h=>by simp at h;subst h;exact hd.2.2 q sm q hq rfl
  have iC:qJ w' TS (gs.1,g2) [str (bR bs i).aJ,v1,.slice a2 n2 c2] {bR bs i with code:=ys}:=
   ⟨v1,_,rfl,dk.aF hk (λb hb=>jB b (Da jA (by simp[jk,hb]))),h2.aF hk (λb hb hx=>od b (by simp[hb]) (by simpa using hx))⟩
  have aof:=jd.QT (i:=i) hO.rows iC λg2 v2 b2 iT ho=>ho.aF hk λx hx=>jB x (iT x hx)
  have sw:∀x,x∈gO (gss.set i (gs.1,g2))->x∈gO gss∨x∈g2.toList:=λx hx=>by
   simp only[gO,List.mem_flatMap] at hx⊢
   obtain⟨q,hq,QU⟩:=hx
   rcases List.mem_or_eq_of_mem_set hq with h|h
   ·exact .inl ⟨q,h,QU⟩
   ·subst h
    simp only[jk,mA] at QU
    rcases QU with h|h
    ·exact .inl ⟨gs,List.mem_of_getElem? jA,by simp only[jk,mA];exact .inl h⟩
    ·exact .inr h
  have IZ:∀x,x∈gO (gss.set i (gs.1,g2))->x≠b:=λx hx e=>by
   rcases sw x hx with h|h
   ·exact jB x h (by simp[e])
   ·exact od x h (by simp[e])
  refine k w' (by simpa using hk) ?_ hz
  refine⟨(vss.set i [str (bR bs i).aJ,v1,.slice a2 n2 c2]).flatten,⟨?_,.inr ⟨b,_,_,rfl,sm,gB,by simpa using my,l0,by simpa using bV,?_⟩⟩,aof.CC λx hx hc=>?_,?_,λc hc=>hL c (by simp[hc])⟩
  ·rw[nq,List.length_set,hl,List.length_map,List.length_set]
  ·rw[Array.toList_setIfInBounds,List.length_map,List.length_set,List.take_set,ht,nq]
  ·rcases mA.1 hc with hc|hc
   ·simp at hc;exact IZ x hx hc
   ·rcases sw x hx with h|h
    ·exact hL x (by simp[h]) hc
    ·exact hL x (by simp[h]) hc
  ·intro row hr
   obtain⟨c,_,rfl⟩:=List.mem_map.1 hr
   rfl
end
def xd (bs bs':List Bk):Prop:=bs'.length=bs.length∧∀i,i<bs.length->(bR bs' i).aJ=(bR bs i).aJ∧(bR bs' i).ck=(bR bs i).ck∧(bR bs' i).code.length<=(bR bs i).code.length∧∀x,x∈(bR bs' i).code->x∈(bR bs i).code∨s5 x=true
theorem xd.refl (bs:List Bk):xd bs bs:=⟨rfl,λ_ _=>⟨rfl,rfl,lR _,λ_ h=>.inl h⟩⟩
theorem aog {j:Nat} {f:Bk} (hi:i<bs.length):bR (bs.set i f) j=if j=i then f else bR bs j:=by
 unfold bR
 rw[gG,gG,List.getElem?_set]
 by_cases h:i=j
 ·subst h;simp[hi]
 ·rw[iN h,iN (λe=>h e.symm)]
theorem xd.set {cs:List Bk} (h:xd bs cs) (hi:i<bs.length) (hl:ys.length<=(bR bs i).code.length) (hy:∀x,x∈ys->x∈(bR bs i).code∨s5 x=true):xd bs (cs.set i {bR cs i with code:=ys}):=by
 refine⟨by rw[List.length_set];exact h.1,λj hj=>?_⟩
 rw[aog (by rw[h.1];exact hi)]
 by_cases e:j=i
 ·subst e
  rw[iP rfl]
  obtain⟨h1,h2,_,_⟩:=h.2 j hj
  exact⟨h1,h2,hl,hy⟩
 ·rw[iN e];exact h.2 j hj
def F9:List ai:=[[48],[49],[45,55],[57,57,57]]
def QV:List ai:=[[97,100,100],[115,117,98],[109,117,108]]
def QW:List ai:=[[48],[49],[50]]
def QX:List ai:=[[109,97,105,110],[98,48],[98,49],[101,110,100]]
def QY:List ai:=[[40,101,32,118,41,32,105],[40,101,32,40,116,32,118,32,118,41,41,32,105],[40,101,32,40,116,32,40,99,32,118,32,105,41,32,118,41,41,32,40,116,41],[40,101,32,118,41,32,40,116,32,105,32,105,41]]
def QZ:List ai:=[[98,48],[98,49],[109,97,105,110]]
def Q0:List ai:=[[40,104,97,108,116,32,52,48,41],[40,99,111,110,115,116,32,49,32,120,41],[40,109,111,118,32,49,41],[40,110,101,119,41],[40,112,97,99,107,32,49,32,50,32,105,32,105,41],[],[40,103,101,116,32,49,32,50,32,45,49,41],[40,122,101,114,111,32,49,32,50,41],[40,108,97,98,32,48,32,109,97,105,110,41],[40,104,97,108,116,32,48,41]]
theorem aoh (br q:Nat) (hq:q<=900000000) (w:World) (h:dB w br q):
  bw Tryz.prog 113 [.pointer (some ⟨br,0,none⟩)] w λr w'=>(∃x,r=str x∧x.length<=100)∧dB w' br (q+5)∧aj [br] w w':=by
 refine bU [.tmp 2] 133 Tryz.func113 rfl ach rfl rfl ?_
 refine W ?_
 refine aA (IX br (q+0) om w h) ?_
 rintro v7 w1 ⟨⟨za,Y3,e7⟩,h,bW⟩
 have hxA:∃x,x=aU za:=⟨_,rfl⟩
 obtain⟨tA,etA⟩:=hxA
 rw[<-etA] at e7
 subst e7
 have XB:tA.length<=3:=(by rw[etA];exact tI om)
 have aB:=bW
 refine W ?_
 refine aA (IX br (q+1) om w1 h) ?_
 rintro v7 w2 ⟨⟨zb,Y4,e7⟩,h,bW⟩
 have hxB:∃x,x=aU zb:=⟨_,rfl⟩
 obtain⟨tB,etB⟩:=hxB
 rw[<-etB] at e7
 subst e7
 have XC:tB.length<=3:=(by rw[etB];exact tI om)
 have aB:=aB.trans bW
 refine W ?_
 refine aA (IX br (q+2) om w2 h) ?_
 rintro v7 w3 ⟨⟨zd,hzd,e7⟩,h,bW⟩
 have hxD:∃x,x=aU zd:=⟨_,rfl⟩
 obtain⟨tD,etD⟩:=hxD
 rw[<-etD] at e7
 subst e7
 have hlD:tD.length<=3:=(by rw[etD];exact tI om)
 have aB:=aB.trans bW
 refine W ?_
 refine aA (mv 14 de de br (q+3) om w3 h) ?_
 rintro H3 w4 ⟨⟨z,Il,hz⟩,h,gM⟩
 subst Il
 have aB:=aB.trans gM
 have k8:=h.lt
 refine W ?_
 refine zc rfl (λh1=>?_) (λh1=>?_)
 refine gT<|zc rfl (λh2=>?_) (λh2=>?_)
 refine W ?_
 refine zj bg ba rfl rfl rfl rfl rfl rfl λw5 aN wq gZ=>bI aN h aB λh aB=>?_
 refine aA (mw F9 de de br (q+4) om _ w5 h (aK.dO F9 wq (λhx=>by simp at hx;omega) de)) ?_
 rintro mJ w6 ⟨⟨x1,il,im⟩,h,dG⟩
 subst im
 have aB:=aB.trans dG
 have eE:=(show∀x,x∈F9->x.length<=30 from by decide) _ il
 refine W ?_
 exact⟨_,rfl,⟨_,rfl,by simp;omega⟩,h.more om,aB⟩
 omega
 refine W ?_
 refine zc rfl (λh3=>?_) (λh3=>?_)
 refine W ?_
 refine zj bg ba rfl rfl rfl rfl rfl rfl λw5 aN wq gZ=>bI aN h aB λh aB=>?_
 refine aA (mw F9 de de br (q+4) om _ w5 h (aK.dO F9 wq (λhx=>by simp at hx;omega) de)) ?_
 rintro mJ w6 ⟨⟨x1,il,im⟩,h,dG⟩
 subst im
 have aB:=aB.trans dG
 have eE:=(show∀x,x∈F9->x.length<=30 from by decide) _ il
 refine W ?_
 exact⟨_,rfl,⟨_,rfl,by simp;omega⟩,h.more om,aB⟩
 refine W ?_
 refine zc rfl (λh4=>?_) (λh4=>?_)
 refine W ?_
 exact⟨_,rfl,⟨_,rfl,by simp;omega⟩,h.more om,aB⟩
 refine W ?_
 refine zc rfl (λh5=>?_) (λh5=>?_)
 refine zr<|zm<|pJ bg ba rfl rfl rfl rfl rfl λw5 aN wR gZ=>bI aN h aB λh aB=>?_
 refine aA (mw QV de de br (q+4) om _ w5 h (aK.dO QV wR (λhx=>by simp at hx;omega) de)) ?_
 rintro mJ w6 ⟨⟨x1,il,im⟩,h,dG⟩
 subst im
 have aB:=aB.trans dG
 have eE:=(show∀x,x∈QV->x.length<=30 from by decide) _ il
 refine W ?_
 exact⟨_,rfl,⟨_,rfl,by simp;omega⟩,h.more om,aB⟩
 refine W ?_
 refine zc rfl (λh6=>?_) (λh6=>?_)
 refine W ?_
 exact⟨_,rfl,⟨_,rfl,by simp;omega⟩,h.more om,aB⟩
 refine W ?_
 refine zc rfl (λh7=>?_) (λh7=>?_)
 refine W ?_
 exact⟨_,rfl,⟨_,rfl,by simp;omega⟩,h.more om,aB⟩
 refine W ?_
 refine zc rfl (λh8=>?_) (λh8=>?_)
 refine W ?_
 refine pJ bg ba rfl rfl rfl rfl rfl λw5 aN PD gZ=>bI aN h aB λh aB=>?_
 refine aA (mw QW de de br (q+4) om _ w5 h (aK.dO QW PD (λhx=>by simp at hx;omega) de)) ?_
 rintro mJ w6 ⟨⟨x1,il,im⟩,h,dG⟩
 subst im
 have aB:=aB.trans dG
 have eE:=(show∀x,x∈QW->x.length<=30 from by decide) _ il
 refine W ?_
 exact⟨_,rfl,⟨_,rfl,by simp;omega⟩,h.more om,aB⟩
 refine W ?_
 refine zc rfl (λh9=>?_) (λh9=>?_)
 refine W ?_
 refine zj bg ba rfl rfl rfl rfl rfl rfl λw5 aN FH gZ=>bI aN h aB λh aB=>?_
 refine aA (mw QX de de br (q+4) om _ w5 h (aK.dO QX FH (λhx=>by simp at hx;omega) de)) ?_
 rintro mJ w6 ⟨⟨x1,il,im⟩,h,dG⟩
 subst im
 have aB:=aB.trans dG
 have eE:=(show∀x,x∈QX->x.length<=30 from by decide) _ il
 refine W ?_
 exact⟨_,rfl,⟨_,rfl,by simp;omega⟩,h.more om,aB⟩
 refine W ?_
 refine zc rfl (λgi=>?_) (λgi=>?_)
 refine W ?_
 refine zj bg ba rfl rfl rfl rfl rfl rfl λw5 aN IC gZ=>bI aN h aB λh aB=>?_
 refine aA (mw QY de de br (q+4) om _ w5 h (aK.dO QY IC (λhx=>by simp at hx;omega) de)) ?_
 rintro mJ w6 ⟨⟨x1,il,im⟩,h,dG⟩
 subst im
 have aB:=aB.trans dG
 have eE:=(show∀x,x∈QY->x.length<=30 from by decide) _ il
 refine W ?_
 exact⟨_,rfl,⟨_,rfl,by simp;omega⟩,h.more om,aB⟩
 refine W ?_
 refine zc rfl (λpC=>?_) (λpC=>?_)
 refine W ?_
 exact⟨_,rfl,⟨_,rfl,by simp;omega⟩,h.more om,aB⟩
 refine W ?_
 refine zc rfl (λkW=>?_) (λkW=>?_)
 refine W ?_
 refine pJ bg ba rfl rfl rfl rfl rfl λw5 aN Lh gZ=>bI aN h aB λh aB=>?_
 refine aA (mw QZ de de br (q+4) om _ w5 h (aK.dO QZ Lh (λhx=>by simp at hx;omega) de)) ?_
 rintro mJ w6 ⟨⟨x1,il,im⟩,h,dG⟩
 subst im
 have aB:=aB.trans dG
 have eE:=(show∀x,x∈QZ->x.length<=30 from by decide) _ il
 refine W ?_
 exact⟨_,rfl,⟨_,rfl,by simp;omega⟩,h.more om,aB⟩
 refine W ?_
 refine zc rfl (λpD=>?_) (λpD=>?_)
 refine W ?_
 refine lk bg ba rfl rfl rfl rfl λw5 aN OL gZ=>bI aN h aB λh aB=>?_
 refine aA (mw [[40,106,117,109,112,32]++tA++[41],[40,104,97,108,116,32]++tA++[41]] sm sm br (q+4) om _ w5 h (aK.dO [[40,106,117,109,112,32]++tA++[41],[40,104,97,108,116,32]++tA++[41]] OL (λhx=>by simp at hx;omega))) ?_
 rintro mJ w6 ⟨⟨x1,il,im⟩,h,dG⟩
 subst im
 have aB:=aB.trans dG
 have eE:x1.length<=30:=(by simp only[mC,List.not_mem_nil,or_false] at il;rcases il with rfl|rfl<;>simp<;>omega)
 refine W ?_
 exact⟨_,rfl,⟨_,rfl,om⟩,h.more om,aB⟩
 refine gT<|zr<|zm<|agv bg ba rfl rfl rfl rfl rfl rfl rfl rfl rfl rfl rfl rfl λw5 aN aol gZ=>bI aN h aB λh aB=>?_
 refine aA (mw Q0 de de br (q+4) om _ w5 h (aK.dO Q0 aol (λhx=>by simp at hx;omega) de)) ?_
 rintro mJ w6 ⟨⟨x1,il,im⟩,h,dG⟩
 subst im
 have aB:=aB.trans dG
 have eE:=(show∀x,x∈Q0->x.length<=30 from by decide) _ il
 refine W ?_
 exact⟨_,rfl,⟨_,rfl,om⟩,h.more om,aB⟩
def LW:List ai:=[[105],[105],[40,116,41],[40,116,32,105,32,105,41],[40,101,32,118,41]]
theorem aom {α:Type} {l:List α} (h:l.length=7):∃a b c d e f g,l=[a,b,c,d,e,f,g]:=by
 match l,h with|[a,b,c,d,e,f,g],_=>exact⟨a,b,c,d,e,f,g,rfl⟩
structure Q1 (b:Bk) (aJ:ai):Prop where
 aJ:b.aJ=aJ
 regs:b.ck.length<=10∧∀x,x∈b.ck->x.length<=100
 code:1<=b.code.length∧b.code.length<=10∧∀x,x∈b.code->x.length<=100
structure sd (br:Nat) (w:World) (b6 b7:Nat) (aJ:ai) (v1:Value) (g1:Option Nat) (xs:List ai) (v2:Value) (g2:Option Nat) (ys:List ai) (q:Nat) (ww:World):Prop where
 box:aK ww b7 [str aJ,v1,v2].toArray 58
 res:aK ww b6 [str [],.slice none 0 0,.slice none 0 0].toArray 58
 o1:cG ww 9 v1 g1 xs
 o2:cG ww 9 v2 g2 ys
 rd:dB ww br q
 kp:aj [br] w ww
 f1:∀x,x∈g1.toList->w.heap.size<=x∧x≠b6∧x≠b7∧x∉g2.toList
 f2:∀x,x∈g2.toList->w.heap.size<=x∧x≠b6∧x≠b7∧x∉g1.toList
theorem sd.ext {br:Nat} {aJ:ai} {ww:World} (h:sd br w b6 b7 aJ v1 g1 xs v2 g2 ys q ww) (k:aj [] ww w'):sd br w b6 b7 aJ v1 g1 xs v2 g2 ys q w':=
 ⟨h.box.ext k,h.res.ext k,h.o1.ext k,h.o2.ext k,h.rd.ext k,h.kp.ext k,h.f1,h.f2⟩
theorem sd.Im {br:Nat} {aJ:ai} {ww wx:World} {zs:List ai} (h:sd br w b6 b7 aJ v1 g1 xs v2 g2 ys q ww) (ix:br<w.heap.size) (h6:w.heap.size<=b6) (h7:w.heap.size<=b7) (Q2:b6≠b7) (hO:cG wx 9 v g zs) (eQ:dB wx br q') (k:aj (br::g1.toList) ww wx) (hg:g=g1∨∃z,g=some z∧ww.heap.size<=z) (k2:aj [b7] wx w') (hb:aK w' b7 [str aJ,v,v2].toArray 58):sd br w b6 b7 aJ v g zs v2 g2 ys q' w':=by
 have iT:∀x,x∈g.toList->x∈g1.toList∨ww.heap.size<=x:=λx hx=>by
  rcases hg with rfl|⟨z,rfl,hz⟩
  ·exact .inl hx
  ·simp at hx;right;omega
 have s7:=h.box.lt
 have s6:=h.res.lt
 have fR:=h.kp.size
 have f1:∀x,x∈g.toList->w.heap.size<=x∧x≠b6∧x≠b7∧x∉g2.toList:=λx hx=>by
  rcases iT x hx with h9|h9
  ·exact h.f1 x h9
  ·exact⟨by omega,om,om,λhy=>by have:=h.o2.lt x hy;omega⟩
 have n6:b6∉br::g1.toList:=λhx=>by
  rcases mC.1 hx with h9|h9
  ·omega
  ·exact(h.f1 b6 h9).2.1 rfl
 refine⟨hb,(h.res.aF k n6).aF k2 (by simpa using Q2),hO.aF k2 (λx hx hy=>(f1 x (by simp[hx])).2.2.1 (by simpa using hy)),(h.o2.aF k (λx hx hy=>?_)).aF k2 (λx hx hy=>(h.f2 x (by simp[hx])).2.2.1 (by simpa using hy)),eQ.aF k2 (λx hx=>by simp at hx;omega),?_,f1,λx hx=>⟨(h.f2 x hx).1,(h.f2 x hx).2.1,(h.f2 x hx).2.2.1,λhy=>(f1 x hy).2.2.2 hx⟩⟩
 ·rcases mC.1 hy with h9|h9
  ·have:=(h.f2 x (by simp[hx])).1;omega
  ·exact(h.f2 x (by simp[hx])).2.2.2 h9
 ·refine(h.kp.since k λx hx=>?_).since k2 λx hx=>.inr (by simp at hx;omega)
  rcases mC.1 hx with h9|h9
  ·exact .inl (by simp[h9])
  ·exact .inr (h.f1 x h9).1
theorem sd.BR {br:Nat} {aJ:ai} {ww wx:World} {zs:List ai} (h:sd br w b6 b7 aJ v1 g1 xs v2 g2 ys q ww) (ix:br<w.heap.size) (h6:w.heap.size<=b6) (h7:w.heap.size<=b7) (Q2:b6≠b7) (hO:cG wx 9 v g zs) (eQ:dB wx br q') (k:aj (br::g2.toList) ww wx) (hg:g=g2∨∃z,g=some z∧ww.heap.size<=z) (k2:aj [b7] wx w') (hb:aK w' b7 [str aJ,v1,v].toArray 58):sd br w b6 b7 aJ v1 g1 xs v g zs q' w':=by
 have iT:∀x,x∈g.toList->x∈g2.toList∨ww.heap.size<=x:=λx hx=>by
  rcases hg with rfl|⟨z,rfl,hz⟩
  ·exact .inl hx
  ·simp at hx;right;omega
 have s7:=h.box.lt
 have s6:=h.res.lt
 have fR:=h.kp.size
 have f1:∀x,x∈g.toList->w.heap.size<=x∧x≠b6∧x≠b7∧x∉g1.toList:=λx hx=>by
  rcases iT x hx with h9|h9
  ·exact h.f2 x h9
  ·exact⟨by omega,om,om,λhy=>by have:=h.o1.lt x hy;omega⟩
 have n6:b6∉br::g2.toList:=λhx=>by
  rcases mC.1 hx with h9|h9
  ·omega
  ·exact(h.f2 b6 h9).2.1 rfl
 refine⟨hb,(h.res.aF k n6).aF k2 (by simpa using Q2),(h.o1.aF k (λx hx hy=>?_)).aF k2 (λx hx hy=>(h.f1 x (by simp[hx])).2.2.1 (by simpa using hy)),hO.aF k2 (λx hx hy=>(f1 x (by simp[hx])).2.2.1 (by simpa using hy)),eQ.aF k2 (λx hx=>by simp at hx;omega),?_,λx hx=>⟨(h.f1 x hx).1,(h.f1 x hx).2.1,(h.f1 x hx).2.2.1,λhy=>(f1 x hy).2.2.2 hx⟩,f1⟩
 ·rcases mC.1 hy with h9|h9
  ·have:=(h.f1 x (by simp[hx])).1;omega
  ·exact(h.f1 x (by simp[hx])).2.2.2 h9
 ·refine(h.kp.since k λx hx=>?_).since k2 λx hx=>.inr (by simp at hx;omega)
  rcases mC.1 hx with h9|h9
  ·exact .inl (by simp[h9])
  ·exact .inr (h.f2 x h9).1
theorem sd.call {br:Nat} {aJ:ai} {ww:World} (h:sd br w b6 b7 aJ v1 g1 xs v2 g2 ys q ww) (ix:br<w.heap.size) (h6:w.heap.size<=b6) (h7:w.heap.size<=b7) (eQ:dB w' br q') (k:aj [br] ww w'):sd br w b6 b7 aJ v1 g1 xs v2 g2 ys q' w':=
 ⟨h.box.aF k so,h.res.aF k so,h.o1.aF k (λx hx hy=>by have:=(h.f1 x (by simp[hx])).1;simp at hy;omega),h.o2.aF k (λx hx hy=>by have:=(h.f2 x (by simp[hx])).1;simp at hy;omega),eQ,h.kp.trans k,h.f1,h.f2⟩
theorem LX (aJ:ai) (k:Nat) (hk:k<=10) (br q:Nat) (hq:q<=800000000) (w:World) (h:dB w br q):
  bw Tryz.prog 80 [.pointer (some ⟨br,0,none⟩),str aJ,.int .i64 (k:Int)] w λr w'=>(∃bk,Q1 bk aJ∧∀L:List Nat,(∀x,x∈L->x<w.heap.size)->qI L w' r bk)∧dB w' br (q+100)∧aj [br] w w':=by
 have ix:=h.lt
 have hK:=aj.refl [] w
 refine lG [.cell 6 58] 64 Tryz.func80 rfl aep rfl rfl rfl ?_
 refine zr<|dz fm rfl rfl rfl λw1 aI bO lj=>?_
 have hK:=hK.ext aI
 refine aV<|zr<|zm<|gA bg ba λw2 az mG H4=>bI az hK bO λhK bO=>?_
 refine gA bg ba λw3 aH uT DK=>cJ aH hK bO mG λhK bO mG=>?_
 refine jG (JC _ _ _ _ _ _ _ _) rfl rfl<|dz fm rfl rfl rfl λw4 aP cS oe=>gY aP hK bO mG uT λhK bO mG uT=>?_
 refine cL fm rfl rfl rfl cS rfl λw5 aN cS du=>?_
 have hK:=hK.since aN (λx hx=>.inr (by simp at hx;omega))
 have bO:=bO.aF aN so
 have mG:=mG.aF aN so
 have uT:=uT.aF aN so
 have hS:sd br w w.heap.size w3.heap.size aJ (.slice (some ⟨w1.heap.size,0,none⟩) 0 0) (some w1.heap.size) [] (.slice (some ⟨w2.heap.size,0,none⟩) 0 0) (some w2.heap.size) [] q w5:=⟨cS,bO,mG.ll,uT.ll,h.ext hK,hK.any,λx hx=>by simp at hx;subst hx;simp;omega,λx hx=>by simp at hx;subst hx;simp;omega⟩
 refine W ?_
 refine dR (λi:Nat=>[(0,.pointer (some ⟨br,0,none⟩)),(6,.pointer (some ⟨w.heap.size,0,none⟩)),(7,.pointer (some ⟨w3.heap.size,0,none⟩)),(2,.int .i64 (k:Int)),(8,.int .i64 (i:Int))]) (λi ww=>i<=k∧∃v1 g1 xs v2 g2,sd br w w.heap.size w3.heap.size aJ v1 g1 xs v2 g2 [] (q+i) ww∧xs.length=i∧∀x,x∈xs->x.length<=100) (λi=>k-i) (0) (⟨rfl,rfl,rfl,rfl,rfl⟩) (⟨Nat.zero_le _,_,_,_,_,_,hS,rfl,sm⟩) λgg w6 e6 hI=>?_
 obtain⟨hi,v1,g1,xs,v2,g2,hS,Zg,sS⟩:=hI
 refine W ?_
 refine zc rfl (λh1=>?_) (λh1=>?_)
 have mq:gg<k:=(by simp at h1;omega)
 have bV:=jn hS.o1
 obtain⟨a1,c1,e1⟩:=bV
 subst e1
 have aon:br∉g1.toList:=(λhx=>by have:=(hS.f1 br hx).1;omega)
 have bj:dP (br::g1.toList) w6 w3.heap.size [str aJ,.slice a1 xs.length c1,v2].toArray 58:=⟨hS.box,λhx=>by rcases mC.1 hx with h9|h9;(·omega);(·exact(hS.f1 _ h9).2.2.1 rfl)⟩
 have rh:=bj.out
 have qq:eW (br::g1.toList) w6:=(λz hz=>by rcases mC.1 hz with h9|h9;(·rw[h9];exact hS.rd.lt);(·exact hS.o1.lt z h9))
 refine WZ ?_
 apply jV dv ((br::g1.toList)) 7 (rA 21 7) (rA 21 7) [[],[0],[],[],[2,3],[4],[1,5]] [Ie.v _,Ie.v _,Ie.v _,Ie.p (fun(G:List Nat) (v:Value) (ww:World)=>bf G ww v LW),Ie.e 0,Ie.e 1,Ie.e 2] [4,5,6] [fun(G:List Nat) (vs:List Value) (ww:World)=>G=br::g1.toList∧aj [] w6 ww,fun(G:List Nat) (vs:List Value) (ww:World)=>G=br::g1.toList∧aj [br] w6 ww∧dB ww br (q+gg+1)∧∃x,vs.getD 0 undef=str x∧x.length<=100,fun(G:List Nat) (vs:List Value) (ww:World)=>G=br::g1.toList∧aj [br] w6 ww∧dB ww br (q+gg+1)∧∃x bb,vs.getD 0 undef=str x∧x.length<=100∧vs.getD 1 undef= .slice (some ⟨bb,0,none⟩) 1 1∧aK ww bb [str x].toArray 9,fun(G:List Nat) (vs:List Value) (ww:World)=>aj (br::g1.toList) w6 ww∧dB ww br (q+gg+1)∧∃x g9,x.length<=100∧cG ww 9 (vs.getD 2 undef) g9 (xs++[x])∧(g9=g1∨∃z,g9=some z∧w6.heap.size<=z)] de rfl qq (by exact⟨λG v w G' w' h k=>bf.go h k,trivial⟩) (by exact⟨λG vs w w' ⟨h1,h2⟩ k=>⟨h1,h2.ext k⟩,λG vs w w' ⟨h1,h2,h3,h4⟩ k=>⟨h1,h2.ext k,h3.ext k,h4⟩,λG vs w w' ⟨h1,h2,h3,x,bb,h4,h5,h6,h7⟩ k=>⟨h1,h2.ext k,h3.ext k,x,bb,h4,h5,h6,h7.ext k⟩,λG vs w w' ⟨h1,h2,x,g9,h3,h4,h5⟩ k=>⟨h1.ext k,h2.ext k,x,g9,h3,h4.ext k,h5⟩,trivial⟩) (⟨rfl,aj.refl _ _⟩)
 refine FA ?_
 refine vf (λx w7 G7 aT nM lT=>?_) ?_
 refine U2 bg ba rfl rfl rfl rfl rfl rfl rfl λw8 cg DM kX=>?_
 exact ff cg ((aK.dO LW DM (λhx=>by have:=lT _ hx;omega) de))
 refine ve 0 (λx w7 G7 aT nM lT hJ hlen=>?_) ?_
 have aX:=jw hlen
 subst aX
 intro v3 d3
 obtain⟨bS,bT⟩:=hJ
 subst bS
 have eQ:=hS.rd.ext bT
 refine aA (mw LW de de br (q+gg) om _ w7 eQ (bf.fresh d3 (λx hx=>.inl (by simp at hx;simp[hx])))) ?_
 rintro v25 w8 ⟨⟨x1,il,Pc⟩,eQ,Iq⟩
 subst Pc
 have fD:=(show∀x,x∈LW->x.length<=100 from by decide) _ il
 exact fe _ (Fr.of Iq sm) ((λz hz=>lL (lT z hz) Iq.size)) (⟨rfl,bT.any.trans Iq,eQ,x1,rfl,fD⟩)
 refine ve 1 (λx w7 G7 aT nM lT hJ hlen=>?_) ?_
 have aQ:=jx hlen
 obtain⟨q0,aX⟩:=aQ
 subst aX
 obtain⟨bS,bT,eQ,x1,e1,fD⟩:=hJ
 subst bS
 have e2:q0=_:=e1
 subst e2
 refine eR bg ba rfl rfl λw8 cg zT kX=>?_
 exact fe _ (Fr.of cg sm) ((λz hz=>lL (lT z hz) (aj.size cg))) (⟨rfl,bT.ext cg,eQ.ext cg,x1,_,rfl,fD,rfl,zT⟩)
 refine ve 2 (λx w7 G7 aT nM lT hJ hlen=>?_) ?_
 have aQ:=lO hlen
 obtain⟨q0,q1,aX⟩:=aQ
 subst aX
 obtain⟨bS,bT,eQ,x1,bb,e1,fD,e2,fT⟩:=hJ
 subst bS
 have e3:q0=_:=e1
 subst e3
 have e4:q1=_:=e2
 subst e4
 have ho:=hS.o1.aF bT (λx hx hy=>aon (by simp at hy;subst hy;simp[hx]))
 refine sF bg ba rfl rfl rfl rfl rfl rfl ho fT om λv9 g9 w8 cU aB fj=>?_
 have Q3:=bT.size
 exact fe ((br::g9.toList)) (⟨aB.mono (λz hz=>mK _ hz),λz hz=>by rcases mC.1 hz with h9|h9;(·exact .inl (by simp[h9]));(·rcases fj with h8|h8;(·rw[h8] at h9;exact .inl (mK _ h9));(·rw[h8] at h9;simp at h9;right;omega))⟩) ((λz hz=>by rcases mC.1 hz with h9|h9;(·rw[h9];exact lL eQ.lt aB.size);(·exact cU.lt z h9))) (⟨(bT.mono sm).trans (aB.mono (λz hz=>mK _ hz)),eQ.aF aB (λz hz=>by have:=(hS.f1 z hz).1;omega),x1,g9,fD,cU,fj.imp id (λh8=>⟨_,h8,Q3⟩)⟩)
 exact trivial
 intro x sJ K1 aT yf K2 hJ hlen
 have aQ:=A9 hlen
 obtain⟨q0,q1,q2,aX⟩:=aQ
 subst aX
 intro v3 d3
 have bj:=bj.go yf
 change OW _ _ _ _ _ (bo (bm _ x _) (zZ 21 [_,_,_,_,_,_,_])) _
 obtain⟨ey,eQ,x1,g9,fD,cU,fj⟩:=hJ
 have bV:=jn cU
 obtain⟨a9,c9,e9⟩:=bV
 have e8:q2=_:=e9
 subst e8
 have bj:=hS.box.aF ey rh
 refine zf M4 rfl<|gD (o:=1) mW rfl rfl rfl bj rfl λxV mH bj du=>?_
 have hS:=hS.Im ix (lR _) om om cU eQ ey fj mH bj
 refine aV<|jF<|zm<|kR rfl rfl rfl rfl rfl (lx (gg+1) om _ om)<|zA<|aV ?_
 exact⟨gg+1,⟨rfl,rfl,rfl,rfl,rfl⟩,⟨by omega,_,_,_,_,_,hS,by rw[lA,Zg];rfl,λx hx=>by rcases mA.1 hx with h9|h9;(·exact sS x h9);(·simp only[List.mem_singleton] at h9;rw[h9];exact fD)⟩,om⟩
 have Dl:=hS.rd.more (show q+gg<=q+10 from om)
 have aoo:xs.length<=10:=om
 refine W ?_
 refine aA (mv 5 de de br (q+10) om w6 Dl) ?_
 rintro v30 w7 ⟨⟨n,e30,hn⟩,eQ,aoq⟩
 subst e30
 have hS:=hS.call ix (lR _) om eQ aoq
 refine W ?_
 refine dR (λj:Nat=>[(0,.pointer (some ⟨br,0,none⟩)),(6,.pointer (some ⟨w.heap.size,0,none⟩)),(7,.pointer (some ⟨w3.heap.size,0,none⟩)),(9,.int .i64 (n:Int)),(10,.int .i64 (j:Int))]) (λj ww=>j<=n∧∃v1 g1 v2 g2 ys,sd br w w.heap.size w3.heap.size aJ v1 g1 xs v2 g2 ys (q+11+5*j) ww∧ys.length<=j∧∀x,x∈ys->x.length<=100) (λj=>n-j) (0) (⟨rfl,rfl,rfl,rfl,rfl⟩) (⟨Nat.zero_le _,_,_,_,_,[],hS,sm,sm⟩) λgg w8 e8 hI=>?_
 obtain⟨hj,v1,g1,v2,g2,ys,hS,I0,I1⟩:=hI
 refine W ?_
 refine zc rfl (λh2=>?_) (λh2=>?_)
 have sv:gg<n:=om
 refine W ?_
 refine aA (aoh br (q+11+5*gg) om w8 hS.rd) ?_
 rintro v37 w9 ⟨⟨x1,e37,fD⟩,eQ,aos⟩
 subst e37
 have hS:=hS.call ix (lR _) om eQ aos
 refine W ?_
 refine aA (Ht x1 w9) ?_
 rintro _ cv ⟨rfl,cw⟩
 have zI:=cw.size
 have hS:=hS.ext cw
 refine WZ ?_
 apply oA 4 40 44 (aj [] cv) rfl oQ
 intro _
 refine zm<|aA (J9 x1 cv) ?_
 rintro _ ew ⟨rfl,cR⟩
 have yo:=cR.size
 exact oQ
 intro xx ew cR
 have hS:=hS.ext cR
 refine aV<|zc rfl (λh4=>?_) (λh4=>?_)
 have bV:=jn hS.o2
 obtain⟨a2,c2,e2⟩:=bV
 subst e2
 have bj:=hS.box
 refine W ?_
 refine eR bg ba rfl rfl λfI dw DZ Pd=>?_
 have hS:=hS.ext dw
 refine sF bg ba rfl rfl rfl rfl rfl rfl hS.o2 DZ om λv9 g9 jO cU gM fj=>?_
 have bV:=jn cU
 obtain⟨a9,c9,e9⟩:=bV
 subst e9
 have ey:aj (br::g2.toList) _ jO:=(gM).mono (λz hz=>mK _ hz)
 have aot:=hS.rd.aF gM (λz hz=>by have:=(hS.f2 z hz).1;omega)
 have bj:=hS.box.aF gM (λhx=>(hS.f2 _ hx).2.2.1 rfl)
 refine zf AQ rfl<|gD (o:=2) mW rfl rfl rfl bj rfl λja dG bj du=>?_
 have hS:=hS.BR ix (lR _) om om cU aot ey (fj.imp id (λh8=>⟨_,h8,lR _⟩)) dG bj
 refine aV<|jF<|zm<|kR rfl rfl rfl rfl rfl (lx (gg+1) om _ om)<|zA<|aV ?_
 exact⟨gg+1,⟨rfl,rfl,rfl,rfl,rfl⟩,⟨by omega,_,_,_,_,_,hS,by rw[lA];simp;omega,λx hx=>by rcases mA.1 hx with h9|h9;(·exact I1 x h9);(·simp only[List.mem_singleton] at h9;rw[h9];exact fD)⟩,om⟩
 refine gT<|jF<|zm<|kR rfl rfl rfl rfl rfl (lx (gg+1) om _ om)<|zA<|aV ?_
 exact⟨gg+1,⟨rfl,rfl,rfl,rfl,rfl⟩,⟨by omega,_,_,_,_,_,hS,om,I1⟩,om⟩
 have aou:=hS.rd.more (show q+11+5*gg<=q+31 from om)
 have bV:=jn hS.o2
 obtain⟨a2,c2,e2⟩:=bV
 subst e2
 have aov:br∉g2.toList:=(λhx=>by have:=(hS.f2 br hx).1;omega)
 have bj:dP (br::g2.toList) w8 w3.heap.size [str aJ,v1,.slice a2 ys.length c2].toArray 58:=⟨hS.box,λhx=>by rcases mC.1 hx with h9|h9;(·omega);(·exact(hS.f2 _ h9).2.2.1 rfl)⟩
 have rh:=bj.out
 have qq:eW (br::g2.toList) w8:=(λz hz=>by rcases mC.1 hz with h9|h9;(·rw[h9];exact hS.rd.lt);(·exact hS.o2.lt z h9))
 have atW:ys.length<=4:=om
 refine WZ ?_
 apply jV dv ((br::g2.toList)) 11 (rA 51 11) (rA 51 11) [[],[0],[],[],[3],[4],[5],[6],[2,7],[8],[1,9]] [Ie.v _,Ie.v _,Ie.v _,Ie.v _,Ie.e 0,Ie.e 1,Ie.e 2,Ie.e 3,Ie.e 4,Ie.e 5,Ie.e 6] (rA 4 7) [fun(G:List Nat) (vs:List Value) (ww:World)=>G=br::g2.toList∧aj [] w8 ww,fun(G:List Nat) (vs:List Value) (ww:World)=>G=br::g2.toList∧aj [br] w8 ww∧dB ww br (q+32)∧∃x,vs.getD 0 undef=str x∧x.length<=10,fun(G:List Nat) (vs:List Value) (ww:World)=>G=br::g2.toList∧aj [br] w8 ww∧dB ww br (q+32)∧∃x,vs.getD 1 undef=str x∧x.length<=30,fun(G:List Nat) (vs:List Value) (ww:World)=>G=br::g2.toList∧aj [br] w8 ww∧dB ww br (q+32)∧∃x,vs.getD 2 undef=str x∧x.length<=40,fun(G:List Nat) (vs:List Value) (ww:World)=>G=br::g2.toList∧aj [br] w8 ww∧dB ww br (q+32)∧∃x,x.length<=40∧bf (br::g2.toList) ww (vs.getD 3 undef) [x,[40,104,97,108,116,32,48,41],[40,106,117,109,112,32,49,41]],fun(G:List Nat) (vs:List Value) (ww:World)=>G=br::g2.toList∧aj [br] w8 ww∧dB ww br (q+33)∧∃x,vs.getD 4 undef=str x∧x.length<=100,fun(G:List Nat) (vs:List Value) (ww:World)=>G=br::g2.toList∧aj [br] w8 ww∧dB ww br (q+33)∧∃x bb,x.length<=100∧vs.getD 5 undef= .slice (some ⟨bb,0,none⟩) 1 1∧aK ww bb [str x].toArray 9,fun(G:List Nat) (vs:List Value) (ww:World)=>aj (br::g2.toList) w8 ww∧dB ww br (q+33)∧∃x g9,x.length<=100∧cG ww 9 (vs.getD 6 undef) g9 (ys++[x])∧(g9=g2∨∃z,g9=some z∧w8.heap.size<=z)] de rfl qq (by exact trivial) (by exact⟨λG vs w w' ⟨h1,h2⟩ k=>⟨h1,h2.ext k⟩,λG vs w w' ⟨h1,h2,h3,h4⟩ k=>⟨h1,h2.ext k,h3.ext k,h4⟩,λG vs w w' ⟨h1,h2,h3,h4⟩ k=>⟨h1,h2.ext k,h3.ext k,h4⟩,λG vs w w' ⟨h1,h2,h3,h4⟩ k=>⟨h1,h2.ext k,h3.ext k,h4⟩,λG vs w w' ⟨h1,h2,h3,x,h4,h5⟩ k=>⟨h1,h2.ext k,h3.ext k,x,h4,h5.ext k⟩,λG vs w w' ⟨h1,h2,h3,h4⟩ k=>⟨h1,h2.ext k,h3.ext k,h4⟩,λG vs w w' ⟨h1,h2,h3,x,bb,h4,h5,h6⟩ k=>⟨h1,h2.ext k,h3.ext k,x,bb,h4,h5,h6.ext k⟩,λG vs w w' ⟨h1,h2,x,g9,h3,h4,h5⟩ k=>⟨h1.ext k,h2.ext k,x,g9,h3,h4.ext k,h5⟩,trivial⟩) (⟨rfl,aj.refl _ _⟩)
 refine FA ?_
 refine ve 0 (λx w9 G9 aT cV nD hJ hlen=>?_) ?_
 have aX:=jw hlen
 subst aX
 obtain⟨bS,bT⟩:=hJ
 subst bS
 have eQ:=aou.ext bT
 refine aA (IX br (q+31) om w9 eQ) ?_
 rintro v55 cv ⟨⟨z9,du,XD⟩,eQ,Ca⟩
 subst XD
 have fD:=tI (n:=z9) om
 exact fe _ (Fr.of Ca sm) ((λz hz=>lL (nD z hz) Ca.size)) (⟨rfl,bT.any.trans Ca,eQ,_,rfl,om⟩)
 refine ve 1 (λx w9 G9 aT cV nD hJ hlen=>?_) ?_
 have aQ:=jx hlen
 obtain⟨q0,aX⟩:=aQ
 subst aX
 obtain⟨bS,bT,eQ,x1,e1,fD⟩:=hJ
 subst bS
 have e2:q0=_:=e1
 subst e2
 refine WZ ?_
 exact fe _ (Fr.refl _ _) nD (⟨rfl,bT,eQ,_,rfl,by simp;omega⟩)
 refine ve 2 (λx w9 G9 aT cV nD hJ hlen=>?_) ?_
 have aQ:=lO hlen
 obtain⟨q0,q1,aX⟩:=aQ
 subst aX
 obtain⟨bS,bT,eQ,x1,e1,fD⟩:=hJ
 subst bS
 have e2:q1=_:=e1
 subst e2
 refine WZ ?_
 exact fe _ (Fr.refl _ _) nD (⟨rfl,bT,eQ,_,rfl,by simp;omega⟩)
 refine ve 3 (λx w9 G9 aT cV nD hJ hlen=>?_) ?_
 have aQ:=A9 hlen
 obtain⟨q0,q1,q2,aX⟩:=aQ
 subst aX
 obtain⟨bS,bT,eQ,x1,e1,fD⟩:=hJ
 subst bS
 have e2:q2=_:=e1
 subst e2
 refine pJ bg ba rfl rfl rfl rfl rfl λcv cw Qx Bx=>?_
 exact fe _ (Fr.of cw sm) ((λz hz=>lL (nD z hz) (aj.size cw))) (⟨rfl,bT.ext cw,eQ.ext cw,x1,fD,aK.dO [x1,[40,104,97,108,116,32,48,41],[40,106,117,109,112,32,49,41]] Qx (λhx=>by have:=nD _ hx;omega)⟩)
 refine ve 4 (λx w9 G9 aT cV nD hJ hlen=>?_) ?_
 have aQ:=NA hlen
 obtain⟨q0,q1,q2,q3,aX⟩:=aQ
 subst aX
 obtain⟨bS,bT,eQ,x1,fD,Eg⟩:=hJ
 subst bS
 have Eg:bf (br::g2.toList) _ q3 _:=Eg
 refine aA (mw [x1,[40,104,97,108,116,32,48,41],[40,106,117,109,112,32,49,41]] sm sm br (q+32) om _ w9 eQ (bf.fresh Eg (λx hx=>.inl (by simp at hx;simp[hx])))) ?_
 rintro v59 cv ⟨⟨x2,fC,e59⟩,eQ,IN⟩
 subst e59
 have iG:x2.length<=100:=(by simp only[mC,List.not_mem_nil,or_false] at fC;rcases fC with rfl|rfl|rfl;(·omega);(·decide);(·decide))
 exact fe _ (Fr.of IN sm) ((λz hz=>lL (nD z hz) IN.size)) (⟨rfl,bT.trans IN,eQ,x2,rfl,iG⟩)
 refine ve 5 (λx w9 G9 aT cV nD hJ hlen=>?_) ?_
 have aQ:=Ug hlen
 obtain⟨q0,q1,q2,q3,q4,aX⟩:=aQ
 subst aX
 obtain⟨bS,bT,eQ,x1,e1,fD⟩:=hJ
 subst bS
 have e2:q4=_:=e1
 subst e2
 refine eR bg ba rfl rfl λcv cw Ir Bx=>?_
 exact fe _ (Fr.of cw sm) ((λz hz=>lL (nD z hz) (aj.size cw))) (⟨rfl,bT.ext cw,eQ.ext cw,x1,_,fD,rfl,Ir⟩)
 refine ve 6 (λx w9 G9 aT cV nD hJ hlen=>?_) ?_
 have aQ:=afR hlen
 obtain⟨q0,q1,q2,q3,q4,q5,aX⟩:=aQ
 subst aX
 obtain⟨bS,bT,eQ,x1,bb,fD,e2,fT⟩:=hJ
 subst bS
 have e4:q5=_:=e2
 subst e4
 have ho:=hS.o2.aF bT (λx hx hy=>aov (by simp at hy;subst hy;simp[hx]))
 refine sF bg ba rfl rfl rfl rfl rfl rfl ho fT om λv9 g9 cv cU aB fj=>?_
 have Q3:=bT.size
 exact fe ((br::g9.toList)) (⟨aB.mono (λz hz=>mK _ hz),λz hz=>by rcases mC.1 hz with h9|h9;(·exact .inl (by simp[h9]));(·rcases fj with h8|h8;(·rw[h8] at h9;exact .inl (mK _ h9));(·rw[h8] at h9;simp at h9;right;omega))⟩) ((λz hz=>by rcases mC.1 hz with h9|h9;(·rw[h9];exact lL eQ.lt aB.size);(·exact cU.lt z h9))) (⟨(bT.mono sm).trans (aB.mono (λz hz=>mK _ hz)),eQ.aF aB (λz hz=>by have:=(hS.f2 z hz).1;omega),x1,g9,fD,cU,fj.imp id (λh8=>⟨_,h8,Q3⟩)⟩)
 exact trivial
 intro x mm KM aT Ft OM hJ hlen
 have aQ:=aom hlen
 obtain⟨q0,q1,q2,q3,q4,q5,q6,aX⟩:=aQ
 subst aX
 have bj:=bj.go Ft
 change OW _ _ _ _ _ (bo (bm _ x _) (zZ 51 [_,_,_,_,_,_,_,_,_,_,_])) _
 obtain⟨ey,eQ,x1,g9,fD,cU,fj⟩:=hJ
 have bV:=jn cU
 obtain⟨a9,c9,e9⟩:=bV
 have e8:q6=_:=e9
 subst e8
 have bj:=hS.box.aF ey rh
 refine zf AQ rfl<|gD (o:=2) mW rfl rfl rfl bj rfl λoZ iY bj du=>?_
 have hS:=hS.BR ix (lR _) om om cU eQ ey fj iY bj
 have Q4:=hS.res
 have bV:=jn hS.o1
 obtain⟨a1,c1,e1⟩:=bV
 subst e1
 refine aV<|zr<|zL CK fm rfl hS.box.all rfl<|cL (vs:=[str aJ,.slice a1 xs.length c1,.slice a9 (ys++[x1]).length c9]) fm rfl rfl rfl Q4 rfl λo3 mo Q4 du=>?_
 have yh:=hS.o1.aF mo (λx hx hy=>(hS.f1 x (by simp[hx])).2.1 (by simpa using hy))
 have wK:=hS.o2.aF mo (λx hx hy=>(hS.f2 x (by simp[hx])).2.1 (by simpa using hy))
 have aox:=hS.rd.aF mo (λx hx=>by simp at hx;omega)
 have di:=hS.kp.since mo (λx hx=>.inr (by simp at hx;omega))
 have cz:=(fun(L:List Nat) (hL:∀x,x∈L->x<w.heap.size)=>yh.rep (L:=L) (λx hx hy=>by have:=(hS.f1 x (by simp[hx])).1;have:=hL x hy;omega))
 have bZ:=(fun(L:List Nat) (hL:∀x,x∈L->x<w.heap.size)=>wK.rep (L:=L) (λx hx hy=>by have:=(hS.f2 x (by simp[hx])).1;have:=hL x hy;omega))
 refine W ?_
 exact⟨[_],gC CK fm rfl Q4 rfl,⟨⟨aJ,xs,ys++[x1]⟩,⟨rfl,⟨aoo,sS⟩,⟨by simp,by simp;omega,λx hx=>by rcases mA.1 hx with h9|h9;(·exact I1 x h9);(·simp only[List.mem_singleton] at h9;rw[h9];exact fD)⟩⟩,λL hL=>⟨_,rfl,⟨.val _,cz L hL,bZ L hL,trivial⟩⟩⟩,aox.more om,di⟩
theorem Zh (t:aq):t.ak.length<=t.size:=by
 cases t with
 |mk a ps=>
  have key:∀l:List aq,l.length<=aq.size.sizes l:=by
   intro l
   induction l with
   |nil=>simp
   |cons p l ih=>have:=size_pos p;simp only[aq.size.sizes,lC];omega
  have:=key ps
  show ps.length<=1+a.length+aq.size.sizes ps
  omega
theorem aoy (s:ai) (w:World):bw Tryz.prog 134 [str s] w λr w'=>(∃v ok g xs,r= .tuple #[v,.bool ok]∧cG w' 9 v g xs∧(∀b,g=some b->w.heap.size<=b)∧ok=decide (0<xs.length)∧xs.length<=12001∧∀x,x∈xs->x.length<=24002)∧aj [] w w':=by
 have hK:=aj.refl [] w
 refine bU [.tmp 2,.tmp 3] 37 Tryz.func134 rfl acx rfl rfl ?_
 refine W ?_
 refine aA (yW s [] w sm) ?_
 rintro v1 w1 ⟨fN,aI⟩
 have dk:=aI.size
 have hK:=hK.ext aI
 have eZ:=fN
 obtain⟨t,tv,e9,ht,hp⟩:=eZ
 subst e9
 have bV:=cY ht
 obtain⟨pa,pn,pc,e9,eO,aO⟩:=bV
 subst e9
 subst eO
 have nB:=hK.size
 refine W ?_
 refine dz aM rfl rfl rfl λw2 az aG gQ=>?_
 have di:=az
 refine cL (vs:=[str t.aw,.slice pa t.ak.length pc]) aM rfl rfl rfl aG rfl λw3 aH aG du=>?_
 have di:=di.since aH (λx hx=>.inr (by simp at hx;omega))
 refine bI di aO hK λaO hK=>?_
 refine zA<|aV<|zr<|gA bg ba λw4 aP mG H4=>?_
 have aoz:=mG.ll
 have aI:=aP
 have jg:=hK.size
 refine W ?_
 refine dR (λq9:Nat×Value×Option Nat=>[(4,.pointer (some ⟨w1.heap.size,0,none⟩)),(5,.bool ((bB s).isSome)),(6,q9.2.1),(7,.int .i64 (q9.1:Int))]) (λq9 w'=>aj [] w3 w'∧q9.1<=t.ak.length∧(0<q9.1->(bB s).isSome=true)∧∃xs,cG w' 9 q9.2.1 q9.2.2 xs∧xs.length=q9.1∧(∀x,x∈xs->x.length<=24002)∧∀b,q9.2.2=some b->w3.heap.size<=b) (λq9=>t.ak.length-q9.1) ((0,.slice (some ⟨w3.heap.size,0,none⟩) 0 0,some w3.heap.size)) (⟨rfl,rfl,rfl,rfl⟩) (⟨aI,sm,sm,[],aoz,rfl,sm,by intro b hb;cases hb;exact lR _⟩) λgg w5 e5 hI=>?_
 obtain⟨k,vf,gf⟩:=gg
 obtain⟨di,hk,Cv,xs,hO,lB,sS,fG⟩:=hI
 dsimp only at hk Cv hO lB fG
 refine cJ di aO hK aG λaO hK aG=>?_
 refine WZ ?_
 apply oB 2 19 21 rfl oQ
 intro _
 exact oQ
 intro xx
 refine aV<|zc rfl (λh2=>?_) (λh2=>?_)
 have hh:=Bool.and_eq_true_iff.1 h2
 have az:k<t.ak.length:=(by have:=hh.1;simp at this;omega)
 have bh:(bB s).isSome=true:=hh.2
 have cB:=EC hp bh
 have hw2:=cB.2
 have nj:=Zh t
 have fu:=fg aO az
 obtain⟨b9,vq,pa9,pc9,e9,jE,dy⟩:=fu
 cases e9
 have Zi:=cB.1.nth az
 have HG:=lI az
 have qV:=M9 _ _ (lR _) Zi
 refine WI ?_
 refine zi cD aM rfl rfl az<|W ?_
 refine aA (uJ (nth t.ak k).size _ (lR _) Zi om om _ _ w5 dy) ?_
 rintro _ w6 ⟨rfl,bN⟩
 have iJ:=bN.size
 refine bI bN hO di λhO di=>?_
 refine eR bg ba rfl rfl λw7 bW Q5 oe=>bI bW hO di λhO di=>?_
 refine sF bg ba rfl rfl rfl rfl rfl rfl hO Q5 om λv9 g9 w8 cU cg fj=>?_
 have Y6:=di.size
 have di:=di.since cg (λx hx=>.inr (fG x (by simpa using hx)))
 refine WA ?_
 refine kR rfl rfl rfl rfl rfl (lx (k+1) om _ om)<|zA<|aV ?_
 exact⟨(k+1,v9,g9),⟨rfl,rfl,rfl,rfl⟩,⟨di,az,λ_=>bh,xs++[(nth t.ak k).text],cU,by show(xs++[_]).length=k+1;rw[lA,lB];rfl,λx hx=>by rcases mA.1 hx with h9|h9;(·exact sS x h9);(·simp only[List.mem_singleton] at h9;rw[h9];omega),λb hb=>by rcases fj with h9|h9;(·exact fG b (h9.symm.trans hb));(·rw[h9] at hb;cases hb;omega)⟩,by show t.ak.length-(k+1)<t.ak.length-k;omega⟩
 have bV:=jn hO
 obtain⟨af,cf,ef⟩:=bV
 subst ef
 have nj:=Zh t
 have hxb:xs.length<=12001:=(by by_cases h0:0<k;(·have:=(EC hp (Cv h0)).2;omega);(·omega))
 refine W ?_
 exact⟨_,rfl,⟨_,_,gf,xs,rfl,hO,λb hb=>by have:=fG b hb;omega,sm,hxb,sS⟩,hK⟩
theorem Zj (xs ys:List ai) (hx:xs.length+ys.length<100000000) (v u:Value) (L:List Nat) (w:World) (hv:bf L w v xs) (hu:bf L w u ys):
  bw Tryz.prog 116 [v,u] w λr w'=>(∃g,cG w' 9 r g (xs++ys)∧∀b,g=some b->w.heap.size<=b)∧aj [] w w':=by
 have hv:bf [] w v xs:=hv.fresh sm
 have hu:bf [] w u ys:=hu.fresh sm
 obtain⟨a,n,c,rfl,hn⟩:=dH hv
 obtain⟨a2,n2,c2,rfl,eS⟩:=dH hu
 subst hn eS
 have hK:=aj.refl [] w
 refine bU [.tmp 4] 10 Tryz.func116 rfl Tc rfl rfl ?_
 refine W ?_
 refine vJ w.heap.size [] bg ba rfl rfl (lR _) sm λw1 aI dh hO=>?_
 have hK:=hK.ext aI
 have fA:=bP.ext (bP.fresh hv (L':=w.heap.size::[]) xj) aI
 refine zm<|xH bg ba rfl rfl rfl rfl rfl rfl hO fA Kt (by rw[po];simp;omega) λa4 fU g4 w2 fP az=>?_
 have hK:=hO.since hK az
 have Ox:=bP.ext (bP.fresh hu (L':=g4.toList++[]) (λx hx=>by rcases mA.1 hx with hx|hx;(·exact .inr (fP.low x (by simpa using hx)));(·exact .inl hx))) hK
 refine zm<|xH bg ba rfl rfl rfl rfl rfl rfl fP Ox Kt (by simp only[lA,po];simp;omega) λa5 Fc g5 w3 lu aH=>?_
 have hK:=fP.since hK aH
 have jX:=lu.low
 rw[List.nil_append,V0] at lu
 refine W ?_
 exact⟨_,rfl,⟨g5,lu.sn,jX⟩,hK⟩
theorem Zk (bk:Bk) (h1:bk.ck.length<=1000000) (h2:bk.code.length<=1000000) (v:Value) (L:List Nat) (w:World) (hv:qI L w v bk):
  bw Tryz.prog 83 [v] w λr w'=>(∃v1 v2 g1 g2,r= .agg #[str bk.aJ,v1,v2]∧cG w' 9 v1 g1 bk.ck∧cG w' 9 v2 g2 bk.code∧(∀x,x∈g1.toList->w.heap.size<=x∧x∉g2.toList)∧∀x,x∈g2.toList->w.heap.size<=x∧x∉g1.toList)∧aj [] w w':=by
 obtain⟨b1,n1,c1,b2,n2,c2,rfl,fu,eS,cz,bZ⟩:=AB hv
 have cz:bf [] w _ bk.ck:=bf.fresh cz sm
 have bZ:bf [] w _ bk.code:=bf.fresh bZ sm
 have hK:=aj.refl [] w
 refine lG [.cell 2 58] 12 Tryz.func83 rfl aes rfl rfl rfl ?_
 refine zr<|eK rfl λw1 aI aY dh=>cJ aI hK cz bZ λhK cz bZ=>?_
 refine dz fm rfl rfl rfl λw2 az aR dD=>?_
 have nB:=hK.ext az
 refine cJ az cz bZ aY λcz bZ aY=>?_
 have aY:dP [] w2 w.heap.size _ _:=⟨aY,sm⟩
 have jg:=nB.size
 have atZ:=aR.lt
 refine W ?_
 apply jV dv ([]) 9 (rA 3 9) (rA 3 9) [[],[0],[],[2],[3],[],[5],[6],[1,4,7]] [Ie.v _,Ie.v _,Ie.v _,Ie.v _,Ie.e 0,Ie.v _,Ie.v _,Ie.e 1,Ie.e 2] [4,7,8] [fun(G:List Nat) (vs:List Value) (ww:World)=>G=[]∧aj [] w2 ww,fun(G:List Nat) (vs:List Value) (ww:World)=>G=[]∧aj [] w2 ww∧∃g1,cG ww 9 (vs.getD 0 undef) g1 bk.ck∧∀x,x∈g1.toList->w2.heap.size<=x,fun(G:List Nat) (vs:List Value) (ww:World)=>G=[]∧aj [] w2 ww∧∃g1 g2,cG ww 9 (vs.getD 0 undef) g1 bk.ck∧cG ww 9 (vs.getD 1 undef) g2 bk.code∧(∀x,x∈g1.toList->w2.heap.size<=x∧x∉g2.toList)∧∀x,x∈g2.toList->w2.heap.size<=x∧x∉g1.toList,fun(G:List Nat) (vs:List Value) (ww:World)=>aj [] w2 ww∧∃g1 g2 b3 m3 d3 b4 m4 d4,vs.getD 2 undef= .agg #[str bk.aJ,.slice b3 m3 d3,.slice b4 m4 d4]∧cG ww 9 (.slice b3 m3 d3) g1 bk.ck∧cG ww 9 (.slice b4 m4 d4) g2 bk.code∧(∀x,x∈g1.toList->w2.heap.size<=x∧x∉g2.toList)∧∀x,x∈g2.toList->w2.heap.size<=x∧x∉g1.toList] de rfl ((λx hx=>by simp at hx)) (by exact trivial) (by exact⟨λG vs w w' ⟨h1,h2⟩ k=>⟨h1,h2.ext k⟩,λG vs w w' ⟨h1,h2,g1,h3,h4⟩ k=>⟨h1,h2.ext k,g1,h3.ext k,h4⟩,λG vs w w' ⟨h1,h2,g1,g2,h3,h4,h5,h6⟩ k=>⟨h1,h2.ext k,g1,g2,h3.ext k,h4.ext k,h5,h6⟩,λG vs w w' ⟨h2,g1,g2,b3,m3,d3,b4,m4,d4,e,h3,h4,h5,h6⟩ k=>⟨h2.ext k,g1,g2,b3,m3,d3,b4,m4,d4,e,h3.ext k,h4.ext k,h5,h6⟩,trivial⟩) (⟨rfl,aj.refl _ _⟩)
 refine FA ?_
 refine ve 0 (λx w3 G3 aT jC kM hJ hlen=>?_) ?_
 have aX:=jw hlen
 subst aX
 have cz:=cz.go jC
 obtain⟨bS,bT⟩:=hJ
 subst bS
 refine aA (Zj bk.ck [] so _ _ [] w3 cz (.nil _ _ _)) ?_
 rintro v20 w4 ⟨⟨g1,nT,pd⟩,yp⟩
 rw[List.append_nil] at nT
 exact fe ([]) (Fr.of yp sm) ((λz hz=>by simp at hz)) (⟨rfl,bT.trans yp,g1,nT,λx hx=>Nat.le_trans bT.size (pd x (by simpa using hx))⟩)
 refine FA ?_
 refine ve 1 (λx w3 G3 aT jC kM hJ hlen=>?_) ?_
 have aQ:=jx hlen
 obtain⟨q0,aX⟩:=aQ
 subst aX
 have bZ:=bZ.go jC
 obtain⟨bS,bT,g1,nT,pd⟩:=hJ
 subst bS
 refine aA (Zj bk.code [] so _ _ [] w3 bZ (.nil _ _ _)) ?_
 rintro v21 w4 ⟨⟨g2,fO,iT⟩,yj⟩
 rw[List.append_nil] at fO
 exact fe ([]) (Fr.of yj sm) ((λz hz=>by simp at hz)) (⟨rfl,bT.trans yj,g1,g2,nT.ext yj,fO,λx hx=>⟨pd x hx,λhy=>by have h8:=nT.lt x hx;have h9:=iT x (by simpa using hy);omega⟩,λx hx=>⟨Nat.le_trans bT.size (iT x (by simpa using hx)),λhy=>by have h8:=nT.lt x hy;have h9:=iT x (by simpa using hx);omega⟩⟩)
 refine ve 2 (λx w3 G3 aT jC kM hJ hlen=>?_) ?_
 have aQ:=lO hlen
 obtain⟨q0,q1,aX⟩:=aQ
 subst aX
 obtain⟨bS,bT,g1,g2,nT,fO,pd,iT⟩:=hJ
 subst bS
 have bV:=jn nT
 obtain⟨b3,d3,e3⟩:=bV
 have e5:q0=_:=e3
 subst e5
 have bV:=jn fO
 obtain⟨b4,d4,e4⟩:=bV
 have e6:q1=_:=e4
 subst e6
 refine jG (JC _ _ _ _ _ _ _ _) rfl rfl ?_
 exact fe ([]) (Fr.refl _ _) kM (⟨bT,g1,g2,_,_,_,_,_,_,rfl,nT,fO,pd,iT⟩)
 exact trivial
 intro x qY HS aT Fi Oy hJ hlen
 have aQ:=A9 hlen
 obtain⟨q0,q1,q2,aX⟩:=aQ
 subst aX
 change OW _ _ _ _ _ (bo (bm _ x _) (zZ 3 [_,_,_,_,_,_,_,_,_])) _
 obtain⟨bT,g1,g2,b3,m3,d3,b4,m4,d4,e9,nT,fO,pd,iT⟩:=hJ
 have e8:q2=_:=e9
 subst e8
 have aR:=aR.ext bT
 refine cL (vs:=[str bk.aJ,.slice b3 m3 d3,.slice b4 m4 d4]) fm rfl rfl rfl aR rfl λpG jL aR du=>?_
 have nT:=nT.aF jL (λx hx hy=>by have:=(pd x (by simp[hx])).1;simp at hy;omega)
 have fO:=fO.aF jL (λx hx hy=>by have:=(iT x (by simp[hx])).1;simp at hy;omega)
 have fB:=(nB.ext bT).since jL (λx hx=>.inr (by simp at hx;omega))
 refine W ?_
 exact⟨[_],gC CK fm rfl aR rfl,⟨_,_,g1,g2,rfl,nT,fO,λx hx=>⟨by have:=(pd x hx).1;omega,(pd x hx).2⟩,λx hx=>⟨by have:=(iT x hx).1;omega,(iT x hx).2⟩⟩,fB⟩
theorem Zl (h:eN bs=true):bs.length<=40∧1<=bs.length∧∀i,i<bs.length->(bR bs i).ck.length<=40∧1<=(bR bs i).code.length∧(bR bs i).code.length<=80:=by
 have hb:=AN h
 unfold eN at h
 simp only[aE,dE] at h
 refine⟨h.2.1.1.2,h.2.1.1.1,λi hi=>?_⟩
 have:=hb (bR bs i) (List.mem_of_getElem? (kq hi))
 unfold kH at this
 simp only[aE,dE] at this
 exact⟨this.1.1.1.2,this.1.1.2.1,this.1.1.2.2⟩
theorem aoB (h:i<bs.length):bs.take (i+1)=bs.take i++[bR bs i]:=by
 rw[List.take_succ_eq_append_getElem h];simp[bR,gE h]
theorem aoC {h:ai} {ps:List ai} {m:Nat} (hp:∀x,x∈ps->x.length<=m):(dW h ps).length<=h.length+2+ps.length*(m+1):=by
 rw[mi]
 have:jH ps<=ps.length*(m+1):=by
  clear h
  induction ps with
  |nil=>simp[jH]
  |cons p l ih=>
   have h1:=hp p sm
   have h2:=ih (λx hx=>hp x (by simp[hx]))
   simp only[jH,List.map_cons,List.sum_cons,lC,Nat.add_mul,Nat.one_mul] at h2⊢
   omega
 omega
theorem Zm {α:Type} {l:List α} {y x:α} (h:x∈l.set i y):x∈l∨x=y:=List.mem_or_eq_of_mem_set h
theorem aoD (bs:List Bk) (fK:eN bs=true) (br q:Nat) (hq:q<=800000000) (v:Value) (w:World) (h:dB w br q) (hv:lH [] w v bs):
  bw Tryz.prog 95 [.pointer (some ⟨br,0,none⟩),v] w λr w'=>(∃bs' g,Gr w.heap.size [br] w' 58 3 r g (bs'.map Bk.enc)∧xd bs bs')∧dB w' br (q+10)∧aj [br] w w':=by
 obtain⟨a,n0,c,rfl,vX⟩:=vI hv
 obtain⟨Qh,aY,fp⟩:=Zl fK
 have ix:=h.lt
 have hK:=aj.refl [] w
 have cQ:=hv
 have UJ:=h
 refine bU [.tmp 4] 140 Tryz.func95 rfl aeA rfl rfl ?_
 refine W ?_
 refine gA iD fm λw1 aI mG dh=>cJ aI hK h hv λhK h hv=>?_
 refine W ?_
 refine dR (λq9:Nat×Value=>[(0,.pointer (some ⟨br,0,none⟩)),(1,.slice a n0 c),(5,q9.2),(6,.int .i64 (q9.1:Int))]) (λq9 w'=>aj [] w w'∧q9.1<=n0∧∃g gss vss,mB w' 58 9 q9.2 g gss vss (bs.take q9.1)∧∀x,x∈g.toList++gO gss->w.heap.size<=x) (λq9=>n0-q9.1) ((0,.slice (some ⟨w.heap.size,0,none⟩) 0 0)) (⟨rfl,rfl,rfl,rfl⟩) (⟨hK,sm,some w.heap.size,[],[],mB.zero mG,by intro x hx;simp[gO] at hx;omega⟩) λgg w2 e2 hI=>?_
 obtain⟨i,vo⟩:=gg
 obtain⟨hK,hi,g,gss,vss,hO,jX⟩:=hI
 dsimp only at hi hO
 have hv:=cQ.ext hK
 have h:=UJ.ext hK
 refine W ?_
 refine zc rfl (λh1=>?_) (λh1=>?_)
 have mq:i<bs.length:=(by simp at h1;omega)
 have ej:=kq mq
 have hgv:=xm hv ej
 obtain⟨b,off,ra,rn,rc,ca,cn,c3,e1,hc,rP,vh,dk,dx⟩:=hgv
 subst e1
 have yu:=fp i mq
 have at0:=hK.size
 have Q6:∀x,x∈g.toList++gO gss->x<w2.heap.size:=(λx hx=>(mA.1 hx).elim (λh9=>hO.own.lt x (by simpa using h9)) (hO.lt x))
 have fL:(bs.take i).length=i:=(by rw[List.length_take];omega)
 refine W ?_
 refine aA (Zk (bR bs i) om om _ [] w2 (vH dk dx)) ?_
 rintro v3 w3 ⟨jo,aH⟩
 have fh:=aH.size
 refine bI aH hK hO λhK hO=>?_
 obtain⟨v1,v2,g1,g2,e2,nT,fO,pd,iT⟩:=jo
 subst e2
 have bV:=jn nT
 obtain⟨a1,c1,e1⟩:=bV
 subst e1
 have bV:=jn fO
 obtain⟨a2,c2,e2⟩:=bV
 subst e2
 refine eR iD fm rfl rfl λw4 aP zT gQ=>gY aP hK hO nT fO λhK hO nT fO=>?_
 refine aod (f:=bR bs i) (gs:=(g1,g2)) iD fm rfl rfl rfl rfl rfl rfl hO zT nT fO (λx hx fC=>by have h8:=Q6 x fC;rcases mA.1 hx with h9|h9;(·have:=(pd x h9).1;omega);(·have:=(iT x h9).1;omega)) (List.nodup_append.2 ⟨by cases g1<;>simp,by cases g2<;>simp,λx hx y hy e=>by subst e;exact(pd x hx).2 hy⟩) om λa4 fU g4 w5 hO aN hg4=>?_
 have Y6:=hK.size
 have aoG:∀x,x∈g4.toList++gO (gss++[(g1,g2)])->w.heap.size<=x:=(λx hx=>by rcases mA.1 hx with h9|h9;(·rcases hg4 with h8|⟨z,h8,hz⟩;(·rw[h8] at h9;exact jX x (by simp at h9;simp[h9]));(·rw[h8] at h9;simp at h9;omega));(·rw[NR] at h9;rcases mA.1 h9 with h8|h8;(·exact jX x (by simp[h8]));(·rcases mA.1 h8 with h7|h7;(·have:=(pd x h7).1;omega);(·have:=(iT x h7).1;omega))))
 have hK:=hK.since aN (λx hx=>.inr (jX x (by simp at hx;simp[hx])))
 refine WA ?_
 refine kR rfl rfl rfl rfl rfl (lx (i+1) om _ om)<|zA<|aV ?_
 exact⟨(i+1,_),⟨rfl,rfl,rfl,rfl⟩,⟨hK,by show i+1<=n0;omega,g4,_,_,by rw[aoB mq];exact hO,aoG⟩,by show n0-(i+1)<n0-i;omega⟩
 have cC:bs.take i=bs:=List.take_of_length_le (by simp at h1;omega)
 rw[cC] at hO
 have bV:=hO.own.len
 obtain⟨ao,co,eo⟩:=bV
 subst eo
 have ey:=hK.mono (L':=[br]) sm
 refine W ?_
 refine aA (mv bs.length om om br q om w2 h) ?_
 rintro v31 w3 ⟨⟨k,Aa,hk⟩,h,aB⟩
 subst Aa
 have ey:=ey.trans aB
 have hO:=hO.aF aB (λx hx hy=>by have:=jX x hx;simp at hy;omega)
 have ic:=hO.get hk
 obtain⟨vv,gs,a1,c1,a2,c2,e1,e2,rh,vi,jA,aX,kD,fu,eS,LY⟩:=ic
 subst e1
 have Ak:∀x,x∈g.toList++gO gss->x∉[br]:=(λx hx hy=>by have:=jX x hx;simp at hy;omega)
 have hc:fF [br] w3 vv (0+k*3) _:=⟨kD,rh,λhy=>Ak vv (by rw[e2];simp) hy⟩
 have hr:bf [br] w3 _ _:=eS.rep (λb hb=>Ak b (mR _ (Da jA (by simp[jk,hb]))))
 have yu:=fp k hk
 refine WI ?_
 refine zi iD fm rfl rfl hk<|zf AQ rfl<|zl vN rfl (hc.cells 2 _ rfl)<|Jc bg rfl rfl rfl<|aA (mv (bR bs k).code.length om om br (q+1) om w3 h) ?_
 rintro v31 w4 ⟨⟨n,Aa,hn⟩,h,aB⟩
 subst Aa
 have ey:=ey.trans aB
 have hO:=hO.aF aB (λx hx hy=>by have:=jX x hx;simp at hy;omega)
 have hc:=hc.aD aB sm;have hr:=hr.aD aB sm
 have ej:=oy hr hn
 obtain⟨b9,vq,e9,jE⟩:=ej
 subst e9
 refine WI ?_
 refine zi iD fm rfl rfl hk<|zf AQ rfl<|zl vN rfl (hc.cells 2 _ rfl)<|zm<|zi bg ba rfl rfl hn<|WZ ?_
 have hkw:=ey.size
 have aoI:∀x,x∈g.toList++gO gss->x<w4.heap.size:=(λx hx=>(mA.1 hx).elim (λh9=>hO.own.lt x (by simpa using h9)) (hO.lt x))
 refine aA (aoy (bD (bR bs k).code n) w4) ?_
 rintro v5 w5 ⟨tG,aN⟩
 have iR:=aN.size
 refine tC aN h hO ey hc hr jE λh hO ey hc hr jE=>?_
 obtain⟨vp,ok,gp,ps,e9,hP,fG,bh,nj,D8⟩:=tG
 subst e9
 have hgp:∀x,x∈gp.toList->x∉g.toList++gO gss:=(λx hx hy=>by have h8:=aoI x hy;have h9:=fG x (by simpa using hx);omega)
 have fG:∀b,gp=some b->w.heap.size<=b:=(λb hb=>Nat.le_trans hkw (fG b hb))
 have bV:=jn hP
 obtain⟨ap,cp,ep⟩:=bV
 subst ep
 refine W ?_
 refine zc rfl (λh2=>?_) (λh2=>?_)
 refine W ?_
 exact⟨_,rfl,⟨bs,_,hO.gr Ak (λb hb=>jX b (by simp[hb])) (λx hx=>by simp at hx;subst hx;exact h.lt) ey.size,xd.refl bs⟩,h.more om,ey⟩
 have mf:0<ps.length:=(by rw[bh] at h2;simpa using h2)
 have Fx:=hP.form mf
 obtain⟨bp,ep,eg⟩:=Fx
 subst ep
 have hbp:=fG bp eg
 have at2:=hP.lt bp (by simp[eg])
 refine W ?_
 refine aA (mv ps.length mf om br (q+2) om w5 h) ?_
 rintro v31 w6 ⟨⟨j,Aa,hj⟩,h,aB⟩
 subst Aa
 have ey:=ey.trans aB
 have hO:=hO.aF aB (λx hx hy=>by have:=jX x hx;simp at hy;omega)
 have hP:=hP.aF aB (λb hb hy=>by have:=fG b hb;simp at hy;omega)
 refine W ?_
 refine iS (λ_:List ai=>[(0,.pointer (some ⟨br,0,none⟩)),(5,.slice (some ⟨vv,0,none⟩) bs.length co),(7,.int .i64 (k:Int)),(8,.int .i64 (n:Int)),(9,(.slice (some ⟨bp,0,none⟩) ps.length cp))]) (λp2 ww=>aj [br] w ww∧dB ww br (q+5)∧mB ww 58 9 (.slice (some ⟨vv,0,none⟩) bs.length co) g gss vss bs∧cG ww 9 (.slice (some ⟨bp,0,none⟩) ps.length cp) gp p2∧p2.length=ps.length∧∀x,x∈p2->x.length<=24002) ?_ ?_
 refine zc rfl (λh3=>?_) (λh3=>?_)
 have B5:bf [br] w6 (.slice (some ⟨bp,0,none⟩) ps.length cp) ps:=hP.rep (λb hb hy=>by have:=fG b hb;simp at hy;omega)
 have ej:=oy B5 hj
 obtain⟨b8,aoK,e8,IS⟩:=ej
 cases e8
 have hxj:=D8 _ (List.mem_of_getElem? (ik hj))
 have qq:eW [br] w6:=(λz hz=>by simp at hz;subst hz;exact h.lt)
 apply jV dv ([br]) 11 (rA 61 11) (rA 61 11) [[],[],[],[],[3],[],[],[5,6],[7],[4,8],[2,9]] [Ie.v _,Ie.v _,Ie.v _,Ie.v _,Ie.q 0 (fun(v:Value)=>∃x,v=str x∧x.length<=24002),Ie.v _,Ie.v _,Ie.v _,Ie.v _,Ie.p (fun(G:List Nat) (v:Value) (ww:World)=>∃x y,x.length<=24002∧y.length<=24002∧bf G ww v [x,[98,48],[101,110,100],[49],[105],y]),Ie.q 1 (fun(v:Value)=>∃x,v=str x∧x.length<=24002)] [4,10] [fun(G:List Nat) (vs:List Value) (ww:World)=>G=[br]∧aj [br] w6 ww∧dB ww br (q+3),fun(G:List Nat) (vs:List Value) (ww:World)=>G=[br]∧aj [br] w6 ww∧dB ww br (q+4),fun(G:List Nat) (vs:List Value) (ww:World)=>G=[br]∧aj [br] w6 ww∧dB ww br (q+5)] de rfl qq (by exact⟨λG v w G' w' ⟨x,y,h1,h2,h3⟩ k=>⟨x,y,h1,h2,bf.go h3 k⟩,trivial⟩) (by exact⟨λG vs w w' ⟨h1,h2,h3⟩ k=>⟨h1,h2.ext k,h3.ext k⟩,λG vs w w' ⟨h1,h2,h3⟩ k=>⟨h1,h2.ext k,h3.ext k⟩,λG vs w w' ⟨h1,h2,h3⟩ k=>⟨h1,h2.ext k,h3.ext k⟩,trivial⟩) (⟨rfl,aj.refl _ _,h⟩)
 refine FA ?_
 refine ve 0 (λx w7 G7 aT nM lT hJ hlen=>?_) ?_
 have aX:=jw hlen
 subst aX
 obtain⟨bS,bT,h⟩:=hJ
 subst bS
 refine aA (IX br (q+3) om w7 h) ?_
 rintro v9 w8 ⟨⟨z9,du,e9⟩,h,aB⟩
 subst e9
 have eE:=tI (n:=z9) om
 exact fq ([br]) (Fr.of aB sm) ((λz hz=>lL (lT z hz) aB.size)) (⟨rfl,bT.trans aB,h⟩) (⟨_,rfl,om⟩)
 refine FA ?_
 refine vf (λx w7 G7 aT nM lT=>?_) ?_
 intro v4 QO d4
 obtain⟨y4,e4,C9⟩:=d4
 subst e4
 refine agu bg ba rfl rfl rfl rfl rfl rfl rfl rfl λw8 cg PC kX=>?_
 exact ff cg (⟨y4,bD ps j,C9,hxj,aK.dO [y4,[98,48],[101,110,100],[49],[105],bD ps j] PC (λhx=>by have:=lT _ hx;omega)⟩)
 refine ve 1 (λx w7 G7 aT nM lT hJ hlen=>?_) ?_
 have aQ:=jx hlen
 obtain⟨q0,aX⟩:=aQ
 subst aX
 intro v9 d9
 obtain⟨bS,bT,h⟩:=hJ
 subst bS
 obtain⟨x8,y8,Xn,hy8,hr8⟩:=d9
 refine aA (mw [x8,[98,48],[101,110,100],[49],[105],y8] sm sm br (q+4) om _ w7 h hr8) ?_
 rintro v9 w8 ⟨⟨x9,iV,e9⟩,h,aB⟩
 subst e9
 have eE:x9.length<=24002:=(by simp only[mC,List.not_mem_nil,or_false] at iV;rcases iV with rfl|rfl|rfl|rfl|rfl|rfl<;>first|omega|decide)
 exact fq ([br]) (Fr.of aB sm) ((λz hz=>lL (lT z hz) aB.size)) (⟨rfl,bT.trans aB,h⟩) (⟨_,rfl,eE⟩)
 exact trivial
 intro x sJ K1 aT yf K2 hJ hlen
 have aQ:=lO hlen
 obtain⟨q0,q1,aX⟩:=aQ
 subst aX
 intro v4 QO d4
 intro v9 d9
 intro v10 Zb d10
 change OW _ _ _ _ _ (bo (bm _ x _) (zZ 61 [_,_,_,_,_,_,_,_,_,_,_])) _
 obtain⟨bS,bT,h⟩:=hJ
 subst bS
 obtain⟨LV,fQ,Fs⟩:=d10
 subst fQ
 have ey:=ey.trans bT
 have hO:=hO.aF bT (λx hx hy=>by have:=jX x hx;simp at hy;omega)
 have hP:=hP.aF bT (λb hb hy=>by have:=fG b hb;simp at hy;omega)
 refine zi bg ba rfl rfl hj<|UM (i:=j) ba rfl rfl rfl om hP hj λxV mH hP du=>?_
 have hO:=hO.aF mH (λx hx hy=>hgp x hy hx)
 have h:=h.aF mH (λx hx=>by have:=fG x (by simpa using hx);omega)
 have ey:=ey.since mH (λx hx=>.inr (fG x (by simpa using hx)))
 refine W ?_
 exact⟨ps.set j LV,⟨rfl,rfl,rfl,rfl,rfl⟩,ey,h.more om,hO,hP,by rw[List.length_set],λx hx=>by rcases Zm hx with h9|h9;(·exact D8 x h9);(·rw[h9];exact Fs)⟩
 refine WZ ?_
 exact⟨ps,⟨rfl,rfl,rfl,rfl,rfl⟩,ey,h.more om,hO,hP,rfl,D8⟩
 intro gu w7 e7 hI
 obtain⟨ey,h,hO,hP,at4,Zn⟩:=hI
 have ic:=hO.get hk
 obtain⟨vv,gs,a1,c1,a2,c2,e1,e2,rh,vi,jA,aX,kD,fu,eS,LY⟩:=ic
 cases e1
 have Ak:∀x,x∈g.toList++gO gss->x∉[br]:=(λx hx hy=>by have:=jX x hx;simp at hy;omega)
 have hc:fF [br] w7 vv (0+k*3) _:=⟨kD,rh,λhy=>Ak vv (by rw[e2];simp) hy⟩
 have hr:bf [br] w7 _ _:=eS.rep (λb hb=>Ak b (mR _ (Da jA (by simp[jk,hb]))))
 have ej:=oy hr hn
 obtain⟨b9,vq,e9,jE⟩:=ej
 subst e9
 have B5:bf [] w7 (.slice (some ⟨bp,0,none⟩) ps.length cp) gu:=hP.rep sm
 have ej:=oy B5 (i:=0) om
 obtain⟨b8,aoK,e8,IS⟩:=ej
 cases e8
 refine WZ ?_
 have B6:(dW (bD gu 0) (gu.drop 1)).length<=1000000000:=(by have h1:=aoC (h:=bD gu 0) (ps:=gu.drop 1) (m:=24002) (λx hx=>Zn x (List.mem_of_mem_drop hx));have h2:=Zn _ (List.mem_of_getElem? (ik (xs:=gu) (i:=0) om));rw[List.length_drop] at h1;have h3:(gu.length-1)*(24002+1)<=12001*24003:=Nat.mul_le_mul om om;omega)
 apply vT dv 6 (rA 73 6) (rA 73 6) [[],[0],[1],[],[3],[2,4]] [It.v _,It.v _,It.v _,It.v _,It.p (fun(v:Value) (ww:World)=>bf [] ww v (gu.drop 1)),It.v _] de (by exact⟨λv w w' h k=>bf.ext h k,trivial⟩)
 intro wd aC
 refine VA ?_
 refine vk aC (λx w8 cg=>?_) ?_
 have B5:=B5.ext cg
 refine Jg (l:=1) bg ba rfl rfl rfl rfl om B5 λEj aX=>?_
 exact pf (aj.refl _ _) ((show bf [] _ Ej (gu.drop 1) from by unfold bf fb;rw[List.map_drop];exact aX))
 refine vk aC (λx w8 cg=>?_) ?_
 intro v4 d4
 refine aA (y0 (bD gu 0) (gu.drop 1) B6 _ [] w8 d4) ?_
 rintro _ w9 ⟨rfl,aB⟩
 have nA:=aB.size
 exact pk aB
 exact trivial
 intro x xV mH
 intro v4 d4
 refine C5 mH h ey hO hc hr jE fu eS λh ey hO hc hr jE fu eS=>?_
 change OW _ _ _ _ _ (bo (bm _ x _) (zZ 73 [_,_,_,_,_,_])) _
 refine W ?_
 refine ER [79,80,81,82,83,84,85,86,87,88,89,90,91,92,93,94] [(94,.bool (s5 (dW (bD gu 0) (gu.drop 1))&&(decide (Ez (dW (bD gu 0) (gu.drop 1))=Ez (bD (bR bs k).code n)))))] ?_ ?_
 rcases bE (s5 (dW (bD gu 0) (gu.drop 1))) with iX|iX
 apply lh dv 16 (rA 79 16) (rA 79 16) [[],[0],[1],[2],[2,3],[2],[2],[2,5,6],[2,7],[2,8],[2],[2,9,10],[2,11],[2,12],[2,4,13],[2,14]] [It.v _,It.v _,It.v (.bool true),It.v _,It.v _,It.v _,It.v _,It.v _,It.v _,It.v _,It.v _,It.v _,It.v _,It.v _,It.v _,It.v _] de rfl
 intro wd aC
 refine VA ?_
 refine vk aC (λx mm mn=>?_) ?_
 refine aA (Ht (dW (bD gu 0) (gu.drop 1)) mm) ?_
 rintro _ oZ ⟨rfl,iY⟩
 have Q7:=iY.size
 exact pk iY
 refine vc (λx mm mn=>?_) ?_
 refine WZ ?_
 exact pv (by exact congrArg Value.bool iX)
 refine VA ?_
 refine vk aC (λx mm mn=>?_) ?_
 refine aA (J9 (dW (bD gu 0) (gu.drop 1)) mm) ?_
 rintro _ oZ ⟨rfl,iY⟩
 have Q7:=iY.size
 exact pk iY
 refine vc (λ_ _ _=>WZ pv) ?_
 refine vc (λ_ _ _=>WZ pv) ?_
 refine vk aC (λx mm mn=>?_) ?_
 refine zi iD fm rfl rfl hk ?_
 exact pv
 refine VA ?_
 refine vk aC (λx mm mn=>?_) ?_
 have hc:=hc.ext mn
 refine zl vN rfl (hc.cells 2 _ rfl) ?_
 exact pv
 refine vc (λ_ _ _=>WZ pv) ?_
 refine vk aC (λx mm mn=>?_) ?_
 refine zi bg ba rfl rfl hn ?_
 exact pv
 refine VA ?_
 refine vk aC (λx mm mn=>?_) ?_
 refine aA (J9 (bD (bR bs k).code n) mm) ?_
 rintro _ oZ ⟨rfl,iY⟩
 have Q7:=iY.size
 exact pk iY
 exact VZ
 intro x O7 o6
 change OW _ _ _ _ [] (bo (bm _ x _) (zZ 79 [_,_,_,_,_,_,_,_,_,_,_,_,_,_,_,_])) _
 refine W ?_
 exact kE o6
 apply lh dv 16 (rA 79 16) (rA 79 16) [[],[0],[1],[2],[2,3],[2],[2],[2,5,6],[2,7],[2,8],[2],[2,9,10],[2,11],[2,12],[2,4,13],[2,14]] [It.v _,It.v _,It.v (.bool false),It.v _,It.v _,It.v _,It.v _,It.v _,It.v _,It.v _,It.v _,It.v _,It.v _,It.v _,It.v _,It.v _] de rfl
 intro wd aC
 refine VA ?_
 refine vk aC (λx mm mn=>?_) ?_
 refine aA (Ht (dW (bD gu 0) (gu.drop 1)) mm) ?_
 rintro _ oZ ⟨rfl,iY⟩
 have Q7:=iY.size
 exact pk iY
 refine vc (λx mm mn=>?_) ?_
 refine WZ ?_
 exact pv (by exact congrArg Value.bool iX)
 exact VZ
 intro x O7 o6
 change OW _ _ _ _ [] (bo (bm _ x _) (zZ 79 [_,_,_,_,_,_,_,_,_,_,_,_,_,_,_,_])) _
 refine W ?_
 exact kE o6
 intro x O7 o6
 refine C5 o6 h ey hO hc hr jE fu eS λh ey hO hc hr jE fu eS=>?_
 refine iS (λ_:List Bk=>[(0,.pointer (some ⟨br,0,none⟩)),(5,.slice (some ⟨vv,0,none⟩) bs.length co),(7,.int .i64 (k:Int)),(8,.int .i64 (n:Int))]) (λcs ww=>aj [br] w ww∧dB ww br (q+5)∧(∃Zo,mB ww 58 9 (.slice (some ⟨vv,0,none⟩) bs.length co) g gss Zo cs)∧xd bs cs) ?_ ?_
 refine zc rfl (λh4=>?_) (λh4=>?_)
 have aoN:s5 (dW (bD gu 0) (gu.drop 1))=true:=(Bool.and_eq_true_iff.1 h4).1
 have Fx:=eS.form om
 obtain⟨b7,e7,eg2⟩:=Fx
 cases e7
 refine jF<|zm<|zm<|zi iD fm rfl rfl hk<|zf AQ rfl<|zl vN rfl (hc.cells 2 _ rfl)<|zm<|zm<|zi bg ba rfl rfl hn<|UM (i:=n) ba rfl rfl rfl om eS hn λHY BY eS du=>?_
 have hO:=hO.row (f:={bR bs k with code:=(bR bs k).code.set n (dW (bD gu 0) (gu.drop 1))}) jA aX BY (λx hx=>by simp[jk,hx]) ⟨_,_,rfl,fu.aF BY (λb hb hy=>LY b hb (by simpa using hy)),by rw[show({bR bs k with code:=(bR bs k).code.set n (dW (bD gu 0) (gu.drop 1))}:Bk).code=(bR bs k).code.set n (dW (bD gu 0) (gu.drop 1)) from rfl];exact eS⟩
 have h:=h.aF BY (λx hx=>by have:=jX x (mR _ (Da jA (by simp[jk,hx])));omega)
 have ey:=ey.since BY (λx hx=>.inr (jX x (mR _ (Da jA (by simp[jk,hx])))))
 refine W ?_
 exact⟨_,⟨rfl,rfl,rfl,rfl⟩,ey,h,⟨_,hO⟩,(xd.refl bs).set hk (by rw[List.length_set];exact lR _) (λx hx=>by rcases Zm hx with h9|h9;(·exact .inl h9);(·rw[h9];exact .inr aoN))⟩
 refine WZ ?_
 exact⟨bs,⟨rfl,rfl,rfl,rfl⟩,ey,h,⟨_,hO⟩,xd.refl bs⟩
 intro gu HY e88 hI
 obtain⟨ey,h,⟨Zo,hO⟩,hH⟩:=hI
 have lq:k<gu.length:=(by rw[hH.1];exact hk)
 have ic:=hO.get lq
 obtain⟨vv,gs,a1,c1,a2,c2,e1,e2,rh,vi,jA,aX,kD,fu,eS,LY⟩:=ic
 cases e1
 refine j3<|zr<|zm<|aA (mv 6 de de br (q+5) om HY h) ?_
 rintro v31 xW ⟨⟨z,Aa,hz⟩,h,aB⟩
 subst Aa
 have ey:=ey.trans aB
 have hO:=hO.aF aB (λx hx hy=>by have:=jX x hx;simp at hy;omega)
 have ic:=hO.get lq
 obtain⟨vv,gs,a1,c1,a2,c2,e1,e2,rh,vi,jA,aX,kD,fu,eS,LY⟩:=ic
 cases e1
 have Ak:∀x,x∈g.toList++gO gss->x∉[br]:=(λx hx hy=>by have:=jX x hx;simp at hy;omega)
 have Q6:∀x,x∈g.toList++gO gss->x<xW.heap.size:=(λx hx=>(mA.1 hx).elim (λh9=>hO.own.lt x (by simpa using h9)) (hO.lt x))
 have hc:fF [] xW vv (0+k*3) _:=⟨kD,rh,sm⟩
 have hr:bf [] xW _ _:=eS.rep sm
 have Zp:=hH.2 k hk
 have ld:(bR gu k).code.length<=80:=Nat.le_trans Zp.2.2.1 (fp k hk).2.2
 have at7:=ey.size
 refine WZ ?_
 apply oB 10 106 116 rfl oQ
 intro h5
 refine zm<|kR rfl rfl rfl rfl rfl (lx (n+1) om _ om)<|zm<|zm<|zi iD fm rfl rfl hk<|zf AQ rfl<|zl vN rfl (hc.cells 2 _ rfl) ?_
 exact oQ
 intro xx
 refine aV<|zc rfl (λh6=>?_) (λh6=>?_)
 have pR:n+1<(bR gu k).code.length:=(by have h9:=of_decide_eq_true (Bool.and_eq_true_iff.1 h6).2;omega)
 have ej:=oy hr (i:=n) om
 obtain⟨b9,vq,e9,jE⟩:=ej
 subst e9
 apply jV dv ([]) 20 (rA 117 20) (rA 117 20) [[],[],[],[],[],[3,4],[5],[6],[],[7,8],[2,9],[],[],[11,12],[13],[14],[],[16],[15,17],[10,18]] [Ie.v _,Ie.v _,Ie.p (fun(G:List Nat) (v:Value) (ww:World)=>∃bb,v= .slice (some ⟨bb,0,none⟩) 0 0∧dP G ww bb #[] 9∧xW.heap.size<=bb),Ie.v _,Ie.v _,Ie.v _,Ie.v _,Ie.v _,Ie.v _,Ie.v _,Ie.e 0,Ie.v _,Ie.v _,Ie.v _,Ie.v _,Ie.v _,Ie.v _,Ie.v _,Ie.p (fun(G:List Nat) (v:Value) (ww:World)=>bf G ww v ((bR gu k).code.drop (n+1))),Ie.e 1] [10,19] [fun(G:List Nat) (vs:List Value) (ww:World)=>True,fun(G:List Nat) (vs:List Value) (ww:World)=>∃g7,cG ww 9 (vs.getD 0 undef) g7 ((bR gu k).code.take n)∧qZ G ww 9 g7∧(∀x,x∈g7.toList->xW.heap.size<=x),fun(G:List Nat) (vs:List Value) (ww:World)=>∃g7,cG ww 9 (vs.getD 1 undef) g7 ((bR gu k).code.take n++(bR gu k).code.drop (n+1))∧(∀x,x∈g7.toList->xW.heap.size<=x)] de rfl ((λz hz=>by simp at hz)) (by exact⟨λG v w G' w' ⟨bb,e,h,hz⟩ k=>⟨bb,e,h.go k,hz⟩,λG v w G' w' h k=>bf.go h k,trivial⟩) (by exact⟨λ_ _ _ _ _ _=>trivial,λG vs w w' ⟨g7,h2,h3,h4⟩ k=>⟨g7,h2.ext k,h3.ext k,h4⟩,λG vs w w' ⟨g7,h2,h4⟩ k=>⟨g7,h2.ext k,h4⟩,trivial⟩) trivial
 refine FA ?_
 refine vf (λx kZ mI aT jM nC=>?_) ?_
 refine gA bg ba λrf zH aoO KH=>?_
 exact ff zH (⟨_,rfl,aoO.o nC,jM.aF.size⟩)
 refine vf (λ_ _ _ _ _ _=>WZ fv) ?_
 refine vf (λ_ _ _ _ _ _=>WZ fv) ?_
 refine vf (λ_ _ _ _ _ _=>zi iD fm rfl rfl hk fv) ?_
 refine FA ?_
 refine vf (λx kZ mI aT jM nC=>?_) ?_
 have hc:=hc.go jM
 refine zl vN rfl (hc.cells 2 _ rfl) ?_
 exact fv
 refine FA ?_
 refine vf (λx kZ mI aT jM nC=>?_) ?_
 have hr:=hr.go jM
 refine Ys (h:=n) bg ba rfl rfl rfl rfl om hr ?_
 exact fv
 refine ve 0 (λx kZ mI aT jM nC hJ hlen=>?_) ?_
 have aX:=jw hlen
 subst aX
 have hr:=hr.go jM
 intro v2 d2
 obtain⟨bb,e2,fT,hN⟩:=d2
 subst e2
 have Qi:bf mI kZ _ ((bR gu k).code.take n):=(show bP _ _ _ (.sl 1 (fb _)) from by have h9:=Qo hr (h:=n) om;unfold fb at h9⊢;rw[List.map_take];exact h9)
 refine Fb bg ba rfl rfl rfl rfl rfl rfl fT.iw.ll Qi ‹_› (λx hx=>.inr (by simp at hx;subst hx;exact fT.iw)) (by rw[List.length_take];simp;omega) λv9 g9 rf G9 cU Fh nA kO cV eE aB=>?_
 exact fe G9 cV eE (⟨g9,cU,Fh,λx hx=>(nA x hx).elim (λh9=>by simp at h9;subst h9;exact hN) (λh9=>Nat.le_trans jM.aF.size h9)⟩)
 refine vf (λ_ _ _ _ _ _=>WZ fv) ?_
 refine vf (λ_ _ _ _ _ _=>WZ fv) ?_
 refine vf (λ_ _ _ _ _ _=>zi iD fm rfl rfl hk fv) ?_
 refine FA ?_
 refine vf (λx kZ mI aT jM nC=>?_) ?_
 have hc:=hc.go jM
 refine zl vN rfl (hc.cells 2 _ rfl) ?_
 exact fv
 refine vf (λ_ _ _ _ _ _=>WZ fv) ?_
 refine vf (λ_ _ _ _ _ _=>kR rfl rfl rfl rfl rfl (lx (n+1) om _ om) fv) ?_
 refine vf (λx kZ mI aT jM nC=>?_) ?_
 have hr:=hr.go jM
 refine Jg bg ba rfl rfl rfl rfl om hr ?_
 intro Ej aX
 exact ff (aj.refl _ _) ((show bf _ _ Ej ((bR gu k).code.drop (n+1)) from by unfold bf fb;rw[List.map_drop];exact aX))
 refine ve 1 (λx kZ mI aT jM nC hJ hlen=>?_) ?_
 have aQ:=jx hlen
 obtain⟨q0,aX⟩:=aQ
 subst aX
 intro yd d18
 have hJ:∃g7,cG kZ 9 q0 g7 ((bR gu k).code.take n)∧qZ mI kZ 9 g7∧(∀x,x∈g7.toList->_<=x):=hJ
 obtain⟨g7,sv,HR,Dp⟩:=hJ
 refine Fb bg ba rfl rfl rfl rfl rfl rfl sv d18 ‹_› HR (by rw[List.length_take,List.length_drop];omega) λv9 g9 rf G9 cU Fh nA kO cV eE aB=>?_
 exact fe G9 cV eE (⟨g9,cU,λx hx=>(nA x hx).elim (Dp x) (λh9=>Nat.le_trans jM.aF.size h9)⟩)
 exact trivial
 intro x KI Wl aT OI ahC hJ hlen
 have aQ:=lO hlen
 obtain⟨q0,q1,aX⟩:=aQ
 subst aX
 intro v2 d2
 intro yd d18
 change OW _ _ _ _ _ (bo (bm _ x _) (zZ 117 [_,_,_,_,_,_,_,_,_,_,_,_,_,_,_,_,_,_,_,_])) _
 have hJ:∃g7,cG KI 9 q1 g7 ((bR gu k).code.take n++(bR gu k).code.drop (n+1))∧(∀x,x∈g7.toList->_<=x):=hJ
 obtain⟨g7,sv,Dp⟩:=hJ
 have bV:=jn sv
 obtain⟨a9,c9,e9⟩:=bV
 subst e9
 have XA:aj [] _ KI:=OI.aF
 refine cJ XA hO h ey λhO h ey=>?_
 refine zi iD fm rfl rfl hk<|zf AQ rfl<|aoe (i:=k) (L:=[br]) mW rfl rfl rfl om hO e2 lq sv (λx hx hy=>by have h8:=Dp x hx;have h9:=Q6 x (by simp at hy;simp[hy]);omega) (λx hx hy=>by rcases mA.1 hx with h9|h9;(·exact Ak x h9 hy);(·have h8:=Dp x h9;have h7:=ey.size;simp at hy;omega)) λOJ Dv hR du=>?_
 have h:=h.aF Dv (λx hx=>by have:=jX x (by simp at hx;simp[hx]);omega)
 have ey:=ey.since Dv (λx hx=>.inr (jX x (by simp at hx;simp[hx])))
 refine W ?_
 exact⟨_,rfl,⟨_,_,⟨hR,λb hb=>jX b (by simp[hb]),λx hx=>by simp at hx;subst hx;exact h.lt,ey.size⟩,hH.set hk (by rw[lA,List.length_take,List.length_drop];omega) (λx hx=>Zp.2.2.2 x ((mA.1 hx).elim List.mem_of_mem_take List.mem_of_mem_drop))⟩,h.more om,ey⟩
 refine W ?_
 exact⟨_,rfl,⟨gu,_,hO.gr Ak (λb hb=>jX b (by simp[hb])) (λx hx=>by simp at hx;subst hx;exact h.lt) ey.size,hH⟩,h.more om,ey⟩
theorem aoP {br:Nat} {cs:Array Value} {T:TypeId} (hb:aK w br cs T) (hs:∀(i:Nat) (s:ai),cs[i]?≠some (str s)) {a:Option Addr} {n c size:Nat} {rows:List (List C)} (h:bP L w (.slice a n c) (.sl size rows)) (h0:∀row,row∈rows->∃s rest,row= .val (str s)::rest) (nz:∀row c' u,row∈rows->c'∈row->bP L w u c'->bP (L++[br]) w u c'):bP (L++[br]) w (.slice a n c) (.sl size rows):=by
 cases h with
 |nil=>exact .nil _ _ _
 |sl b off _ _ _ _ f hl hc ix hL fR kD iK=>
  cases rows with
  |nil=>
   have:n=0:=by rw[<-hl];rfl
   subst this
   exact .nil _ _ _
  |cons row rest=>
   have dN:b≠br:=by
    rintro rfl
    obtain⟨s,r,e⟩:=h0 row sm
    have hz:=fR row sm
    have h1:=iK 0 0 row (.val (str s)) rfl (by rw[e];rfl)
    have h2:=kD 0 0 (by rw[<-hl];simp) (by rw[<-hz,e];simp)
    rw[hb.cell] at h2
    generalize f 0 0=u at h1 h2
    cases h1
    exact hs _ _ h2
   exact .sl b off n c size _ f hl hc ix (λhx=>(mA.1 hx).elim hL (λh9=>dN (by simpa using h9))) fR kD λi j row c hr hc=>nz row c _ (List.mem_of_getElem? hr) (List.mem_of_getElem? hc) (iK i j row c hr hc)
theorem Zq {br:Nat} {cs:Array Value} {T:TypeId} (hb:aK w br cs T) (hs:∀(i:Nat) (s:ai),cs[i]?≠some (str s)) {xs:List ai} (h:bf L w v xs):bf (L++[br]) w v xs:=by
 obtain⟨a,n,c,rfl,_⟩:=dH h
 refine aoP hb hs h (λrow hr=>?_) (λrow c' u hr hc hu=>?_)
 ·obtain⟨x,_,rfl⟩:=List.mem_map.1 hr;exact⟨x,[],rfl⟩
 ·obtain⟨x,_,rfl⟩:=List.mem_map.1 hr
  simp only[List.mem_singleton] at hc
  subst hc
  cases hu;exact .val _
theorem Zr {br:Nat} {cs:Array Value} {T:TypeId} (hb:aK w br cs T) (hs:∀(i:Nat) (s:ai),cs[i]?≠some (str s)):∀{bs:List Bk} {xs:List Value},cZ L w xs (bs.map Bk.enc).flatten->cZ (L++[br]) w xs (bs.map Bk.enc).flatten
 |[],[],_=>trivial
 |f::bs,x0::x1::x2::r,h=>by
  obtain⟨r0,r1,r2,h⟩:=h
  cases r0
  exact⟨.val _,Zq (xs:=f.ck) hb hs r1,Zq (xs:=f.code) hb hs r2,Zr (bs:=bs) hb hs h⟩
theorem dB.gr {br T:Nat} (h:dB w br q) (hG:Gr B [] w T 3 v g (bs.map Bk.enc)) (hB:br<B):Gr B [br] w T 3 v g (bs.map Bk.enc):=by
 obtain⟨a,n,c,p,xs,h1,_⟩:=h
 obtain⟨ys,dm,iK,iC,_⟩:=hG.own
 have hs:∀(i:Nat) (s:ai),([.slice a n c,.int .i64 ((p:Nat):Int)]:List Value).toArray[i]?≠some (str s):=λi s hi=>by
  match i with
  |0=>cases hi
  |1=>cases hi
  |i+2=>cases hi
 rw[List.append_nil] at iK
 exact⟨⟨ys,dm,Zr h1 hs iK,iC,λb hb hx=>by have:=hG.low b hb;simp at hx;omega⟩,hG.low,λx hx=>by simp at hx;subst hx;exact h1.lt,hG.bsz⟩
theorem aoQ (br q:Nat) (hq:q<=700000000) (w:World) (h:dB w br q):
  bw Tryz.prog 94 [.pointer (some ⟨br,0,none⟩)] w λr w'=>(∃x,r=str x)∧dB w' br (q+12000)∧aj [br] w w':=by
 have hk:=aj.refl [br] w
 have ix:=h.lt
 have qh:(4:Nat)^2=16:=rfl
 refine bU [.tmp 2] 28 Tryz.func94 rfl aez rfl rfl ?_
 refine W ?_
 refine aA (mv 3 de de br q om w h) ?_
 rintro v9 w1 ⟨⟨z,e9,hz⟩,h,aB⟩
 subst e9
 have hk:=hk.trans aB
 refine W ?_
 refine iS (λx:ai=>[(0,.pointer (some ⟨br,0,none⟩)),(3,str x)]) (λx ww=>aj [br] w ww∧dB ww br (q+20)∧x.length<=100) ?_ ?_
 refine zc rfl (λh1=>?_) (λh1=>?_)
 refine jF<|zm<|aA (QH 2 de br (q+1) om w1 h) ?_
 rintro v9 w2 ⟨⟨T,e9,hT⟩,h,aB⟩
 subst e9
 have Ze:=T.len
 have hT:T.n+1<=8:=hT
 have hk:=hk.trans aB
 refine W ?_
 exact⟨_,⟨rfl,rfl⟩,hk,h.more om,om⟩
 refine WZ ?_
 exact⟨_,⟨rfl,rfl⟩,hk,h.more om,by decide⟩
 intro gu w2 e2 hI
 obtain⟨hk,h,hx⟩:=hI
 have k8:=h.lt
 refine zr<|zm<|gA bg ba λw3 aH iZ gL=>bI aH hk h λhk h=>?_
 refine gA bg ba λw4 aP Pu gQ=>cJ aP hk h iZ λhk h iZ=>?_
 refine jG (MZ _ _ _ _ _ _ _) rfl rfl<|zm<|zm<|aA (mv 3 de de br (q+20) om w4 h) ?_
 rintro v9 w5 ⟨⟨z2,e9,dD⟩,h,aB⟩
 subst e9
 have hk:=hk.trans aB
 have cz:bf [br] w5 _ []:=(iZ.ll.aF aB so).rep so
 have bZ:bf [br] w5 _ []:=(Pu.ll.aF aB so).rep so
 have hE:=QS (2+z2) om
 have hp:4^(2+z2)<=4^4:=Nat.pow_le_pow_right de om
 have Yf:(4:Nat)^4=256:=rfl
 refine kR rfl rfl rfl rfl rfl (lx (2+z2) om _ om)<|aA (hE [] [] gu br (q+21) _ _ w5 rfl so sm om om h cz bZ) ?_
 rintro v9 w6 ⟨⟨x9,e9,iV⟩,h,aB⟩
 subst e9
 have hk:=hk.trans aB
 have h:=h.more (show _<=q+6000 from om)
 refine W ?_
 refine aA (Ov x9 w6) ?_
 rintro _ w7 ⟨rfl,bW⟩
 have lp:=bW.size
 refine bI bW hk h λhk h=>?_
 refine aV<|zc rfl (λh2=>?_) (λh2=>?_)
 refine W ?_
 exact⟨_,rfl,⟨_,rfl⟩,h.more om,hk⟩
 have k8:=h.lt
 refine gT<|zr<|zm<|gA bg ba λw8 cg Ci kX=>bI cg hk h λhk h=>?_
 refine gA bg ba λw9 aB DM du=>cJ aB hk h Ci λhk h Ci=>?_
 refine jG (MZ _ _ _ _ _ _ _) rfl rfl<|zm<|aA (QS 2 de [] [] gu br (q+6000) _ _ w9 rfl sm sm om om h (Ci.ll.rep so) (DM.ll.rep so)) ?_
 rintro v9 cv ⟨⟨FI,e9,aua⟩,h,aB⟩
 subst e9
 have hk:=hk.trans aB
 refine W ?_
 exact⟨_,rfl,⟨_,rfl⟩,h.more om,hk⟩
theorem Gr.two {B TB:Nat} {x1 x2 x3 y1 y2 y3:Value} {f1 f2:Bk} (hb:aK w b [x1,x2,x3,y1,y2,y3].toArray TB) (h1:qI (b::L) w (.agg #[x1,x2,x3]) f1) (h2:qI (b::L) w (.agg #[y1,y2,y3]) f2) (hB:B<=b) (hL:∀x,x∈L->x<w.heap.size) (rL:b∉L):Gr B L w TB 3 (.slice (some ⟨b,0,none⟩) 2 2) (some b) ([f1,f2].map Bk.enc):=
 ⟨⟨[x1,x2,x3,y1,y2,y3],⟨rfl,.inr ⟨b,2,_,rfl,rfl,hb,lR _,by decide,rfl,rfl⟩⟩,cZ.append (vs:=[x1,x2,x3]) h1.kG (cZ.append (vs:=[y1,y2,y3]) h2.kG (vs':=[]) (cs':=[]) trivial),by intro row hr;simp at hr;rcases hr with rfl|rfl<;>rfl,by intro c hc;cases hc;exact rL⟩,by intro c hc;cases hc;exact hB,hL,Nat.le_of_lt (Nat.lt_of_le_of_lt hB hb.lt)⟩
structure I2 (bs:List Bk):Prop where
 len:1<=bs.length∧bs.length<=40
 bk:∀b,b∈bs->b.aJ.length<=100∧b.ck.length<=40∧b.code.length<=80∧(∀x,x∈b.ck->x.length<=12000)∧∀x,x∈b.code->x.length<=12000
theorem Q1.dr {b:Bk} {l:ai} (h:Q1 b l) (hl:l.length<=100):b.aJ.length<=100∧b.ck.length<=40∧b.code.length<=80∧(∀x,x∈b.ck->x.length<=12000)∧∀x,x∈b.code->x.length<=12000:=
 ⟨by rw[h.aJ];exact hl,by have:=h.regs.1;omega,by have:=h.code.2.1;omega,λx hx=>by have:=h.regs.2 x hx;omega,λx hx=>by have:=h.code.2.2 x hx;omega⟩
theorem aoR {x:ai} (h:s5 x=true):x.length<=12000:=by
 unfold s5 seen at h
 cases hp:bB x with
 |none=>rw[hp] at h;cases h
 |some t=>exact(uw hp).2.2.2
theorem Zs (hp:eN bs=true) (hl:∀b,b∈bs->b.aJ.length<=10):I2 bs:=by
 obtain⟨h1,h2,h3⟩:=Zl hp
 refine⟨⟨h2,h1⟩,λb hb=>?_⟩
 obtain⟨i,hi,rfl⟩:=List.getElem_of_mem hb
 have e:bR bs i=bs[i]:=by unfold bR;rw[gG,gE hi];rfl
 have h4:=h3 i hi
 rw[e] at h4
 obtain⟨_,h5,h6⟩:=GI (AN hp _ hb)
 refine⟨by have:=hl _ hb;omega,h4.1,h4.2.2,λx hx=>?_,λx hx=>?_⟩
 ·obtain⟨t,ht,_⟩:=h5 x hx;exact(uw ht).2.2.2
 ·obtain⟨t,ht,_⟩:=h6 x hx;exact(uw ht).2.2.2
theorem I2.aoS {cs:List Bk} (h:I2 bs) (hh:xd bs cs):I2 cs:=by
 refine⟨by rw[hh.1];exact h.len,λb hb=>?_⟩
 obtain⟨i,hi,rfl⟩:=List.getElem_of_mem hb
 have mq:i<bs.length:=by rw[<-hh.1];exact hi
 have e:bR cs i=cs[i]:=by unfold bR;rw[gG,gE hi];rfl
 obtain⟨h1,h2,h3,h4⟩:=hh.2 i mq
 rw[e] at h1 h2 h3 h4
 have h5:=h.bk (bR bs i) (List.mem_of_getElem? (kq mq))
 rw[h1,h2]
 exact⟨h5.1,h5.2.1,om,h5.2.2.2.1,λx hx=>(h4 x hx).elim (h5.2.2.2.2 x) aoR⟩
def Q8:List ai:=[[98,49],[98,48],[101,110,100]]
theorem aoT (br q:Nat) (hq:q<=600000000) (w:World) (h:dB w br q):
  bw Tryz.prog 61 [.pointer (some ⟨br,0,none⟩)] w λr w'=>(∃bs g,I2 bs∧Gr w.heap.size [br] w' 58 3 r g (bs.map Bk.enc))∧dB w' br (q+20000)∧aj [br] w w':=by
 have hk:=aj.refl [br] w
 have ix:=h.lt
 refine bU [.tmp 2] 49 Tryz.func61 rfl aef rfl rfl ?_
 refine W ?_
 refine aA (mv 3 de de br q om w h) ?_
 rintro v9 w1 ⟨⟨z,e9,hz⟩,h,aB⟩
 subst e9
 have hk:=hk.trans aB
 refine W ?_
 refine zc rfl (λh1=>?_) (λh1=>?_)
 have k8:=h.lt
 refine zr<|zm<|aA (LX [109,97,105,110] 0 de br (q+1) om w1 h) ?_
 rintro v9 w2 ⟨⟨f1,sD,cz⟩,h,aB⟩
 have hk:=hk.trans aB
 have cz:=cz [br] so
 have bV:=AB cz
 obtain⟨a1,n1,c1,a2,n2,c2,e9,fu,eS,dk,dx⟩:=bV
 subst e9
 refine zm<|zm<|aA (mv 3 de de br (q+101) om w2 h) ?_
 rintro v9 w3 ⟨⟨z2,e9,dD⟩,h,aB⟩
 subst e9
 have hk:=hk.trans aB
 have dk:=dk.aD aB sm;have dx:=dx.aD aB sm
 have k8:=h.lt
 refine aA (LX [98,48] z2 om br (q+102) om w3 h) ?_
 rintro v9 w4 ⟨⟨f2,sE,bZ⟩,h,aB⟩
 have hk:=hk.trans aB
 have dk:=dk.aD aB sm;have dx:=dx.aD aB sm
 have bZ:=bZ [br] so
 have bV:=AB bZ
 obtain⟨a3,n3,c3,a4,n4,c4,e9,pR,Wy,fh,fH⟩:=bV
 subst e9
 refine tE [.tmp 10,.tmp 14] [[str f1.aJ,.slice a1 n1 c1,.slice a2 n2 c2],[str f2.aJ,.slice a3 n3 c3,.slice a4 n4 c4]] iD fm rfl rfl rfl rfl rfl rfl rfl rfl rfl λw5 aN Fj Kz=>?_
 have k8:=h.lt
 have xi:∀x,x∈w4.heap.size::[br]->x∈[br]∨w4.heap.size<=x:=(λx hx=>by rcases mC.1 hx with h9|h9;(·right;omega);(·exact .inl h9))
 have dk:=(dk.fresh xi).ext aN
 have dx:=(dx.fresh xi).ext aN
 have fh:=(fh.fresh xi).ext aN
 have fH:=(fH.fresh xi).ext aN
 have Ga:=hk.size
 refine bI aN hk h λhk h=>?_
 have hO:=Gr.two (B:=w.heap.size) (L:=[br]) Fj (vH dk dx) (vH fh fH) om so so
 refine W ?_
 refine aA (mv 3 de de br (q+202) om w5 h) ?_
 rintro v9 w6 ⟨⟨z3,e9,gL⟩,h,aB⟩
 subst e9
 have hk:=hk.trans aB
 have hO:=hO.aD aB sm
 refine W ?_
 refine zc rfl (λh2=>?_) (λh2=>?_)
 have k8:=h.lt
 refine W ?_
 refine pJ bg ba rfl rfl rfl rfl rfl λw7 bW sG oe=>cJ bW hk h hO λhk h hO=>?_
 refine aA (mw Q8 de de br (q+203) om _ w7 h (aK.dO Q8 sG (λhx=>by simp at hx;omega) de)) ?_
 rintro mJ w8 ⟨⟨lb,hi,im⟩,h,aB⟩
 subst im
 have hk:=hk.trans aB
 have hO:=hO.aD aB sm
 have B6:=(show∀x,x∈Q8->x.length<=30 from by decide) _ hi
 refine zm<|aA (mv 2 de de br (q+204) om w8 h) ?_
 rintro v9 w9 ⟨⟨z4,e9,gQ⟩,h,aB⟩
 subst e9
 have hk:=hk.trans aB
 have hO:=hO.aD aB sm
 have k8:=h.lt
 have fG:=hO.all
 refine aA (LX lb z4 om br (q+205) om w9 h) ?_
 rintro v9 cv ⟨⟨f3,wG,BH⟩,h,aB⟩
 have hk:=hk.trans aB
 have hO:=hO.aD aB sm
 have BH:=BH _ fG
 have bV:=AB BH
 obtain⟨a5,n5,c5,a6,n6,c6,e9,H6,Qc,iR,iJ⟩:=bV
 subst e9
 refine eR iD fm rfl rfl λew cR aoU vY=>kJ cR hk h hO iR iJ λhk h hO iR iJ=>?_
 refine MA iD fm rfl rfl rfl rfl rfl rfl hO aoU (vH iR iJ) sm λa7 c7 g7 fI fO dw=>?_
 have hk:=hO.since hk dw
 have h:=h.aF dw (λx hx=>by have:=hO.low x (by simp at hx;simp[hx]);omega)
 refine W ?_
 exact⟨_,rfl,⟨[f1,f2]++[f3],_,⟨by simp,λb hb=>by simp at hb;rcases hb with rfl|rfl|rfl;(·exact sD.dr de);(·exact sE.dr de);(·exact wG.dr om)⟩,fO⟩,h.more om,hk⟩
 refine W ?_
 exact⟨_,rfl,⟨[f1,f2],_,⟨by simp,λb hb=>by simp at hb;rcases hb with rfl|rfl;(·exact sD.dr de);(·exact sE.dr de)⟩,hO⟩,h.more om,hk⟩
 refine gT<|zr<|zm<|aA (aoQ br (q+1) om w1 h) ?_
 rintro v9 w2 ⟨⟨x9,e9⟩,h,aB⟩
 subst e9
 have hk:=hk.trans aB
 have k8:=h.lt
 have Ga:=hk.size
 refine aA (Yq x9 w2) ?_
 rintro v3 w3 ⟨jo,aH⟩
 have fh:=aH.size
 refine bI aH hk h λhk h=>?_
 obtain⟨v1,ok,bs,e9,_,hC,hR⟩:=jo
 subst e9
 refine W ?_
 refine iS (λv:Value=>[(0,.pointer (some ⟨br,0,none⟩)),(4,v)]) (λv ww=>aj [br] w ww∧dB ww br (q+12001)∧∃bs g,Gr w.heap.size [br] ww 58 3 v g (bs.map Bk.enc)∧eN bs=true∧∀b,b∈bs->b.aJ.length<=10) ?_ ?_
 refine zc rfl (λh3=>?_) (λh3=>?_)
 have hf:ok=false:=(by simpa using h3)
 have k8:=h.lt
 have Ga:=hk.size
 refine jF<|aA (Yq [40,43,32,49,32,50,41] w3) ?_
 rintro v4 w4 ⟨ke,aP⟩
 have fH:=aP.size
 refine bI aP hk h λhk h=>?_
 obtain⟨v2,ok2,Y1,e9,_,Q9,QG⟩:=ke
 subst e9
 have aoV:=amq Q9
 subst aoV
 have aQ:=QG rfl
 obtain⟨g2,zF⟩:=aQ
 refine W ?_
 exact⟨_,⟨rfl,rfl⟩,hk,h.more om,_,g2,(h.gr zF k8).down Ga,Q9.prog,Q9.aJ⟩
 have bh:ok=true:=(by simpa using h3)
 subst bh
 have aQ:=hR rfl
 obtain⟨g2,zF⟩:=aQ
 refine WZ ?_
 exact⟨_,⟨rfl,rfl⟩,hk,h.more om,_,g2,(h.gr zF k8).down Ga,hC.prog,hC.aJ⟩
 intro gu w4 e4 hI
 obtain⟨hk,h,bs,g,hR,fK,Ah⟩:=hI
 refine j3<|zr<|zm<|aA (mv 2 de de br (q+12001) om w4 h) ?_
 rintro v9 w5 ⟨⟨z5,e9,gZ⟩,h,aB⟩
 subst e9
 have hk:=hk.trans aB
 have hR:=hR.aD aB sm
 have Ga:=hk.size
 refine W ?_
 refine zc rfl (λh4=>?_) (λh4=>?_)
 refine W ?_
 exact⟨_,rfl,⟨bs,g,Zs fK Ah,hR⟩,h.more om,hk⟩
 have hRn:=bP.none hR.um
 refine W ?_
 refine aA (aoD bs fK br (q+12002) om _ w5 h hRn) ?_
 rintro v9 w6 ⟨⟨cs,gc,hRc,hH⟩,h,aB⟩
 have hk:=hk.trans aB
 refine W ?_
 exact⟨_,rfl,⟨cs,gc,(Zs fK Ah).aoS hH,hRc.down Ga⟩,h.more om,hk⟩
theorem Zt {ts:List aq} {n:Nat} (hn:ts.length<=n) (h9:n<1000000) (h:∀t,t∈ts->WF t∧t.size<=24000∧t.text.length<=12000):ED ts:=
 ⟨by omega,λt ht=>by obtain⟨h1,h2,h3⟩:=h t ht;exact⟨h1,om,om⟩⟩
theorem CQ.aoY {b:cI} (h:CQ b):ED b.regs∧ED b.code:=
 ⟨Zt h.regs om λt ht=>⟨(h.rok t ht).l4.wf,(h.rok t ht).size,(h.rok t ht).short⟩,Zt h.code om λt ht=>⟨(h.cok t ht).1.wf,by have:=(h.cok t ht).1.size;omega,(h.cok t ht).1.text⟩⟩
theorem LZ {ps:List cI} (h:∀b,b∈ps->CQ b):LL ps:=λb hb t ht=>⟨((h b hb).cok t ht).1.wf,YS ((h b hb).cok t ht).2.2⟩
theorem En {ps:List cI} (h:∀b,b∈ps->CQ b):kC ps<=80*ps.length:=by
 induction ps with
 |nil=>simp[kC]
 |cons b ps ih=>
  have h1:=ih λb hb=>h b (mK _ hb)
  have h2:=(h b (List.mem_cons_self ..)).code
  simp only[kC,List.map_cons,List.sum_cons,lC] at h1⊢
  omega
theorem aoZ (bs:List Bk):∀row,row∈bs.map Bk.enc->∀c,c∈row->∀v,c= .val v->v.oneCell'=true:=by
 intro row hr c hc v hv
 obtain⟨b,_,rfl⟩:=List.mem_map.1 hr
 simp only[Bk.enc,mC,List.not_mem_nil,or_false] at hc
 rcases hc with h|h|h
 ·subst h;cases hv;rfl
 ·subst h;cases hv
 ·subst h;cases hv
theorem Zu (h:∀b,b∈bs->b.aJ.length<=12000):lg bs=eN bs:=by
 unfold lg
 rw[show bs.all CH=true from List.all_eq_true.2 λb hb=>dT (h b hb),Bool.and_true]
section
variable {p:List cI} {st:TS} {o:Nat} {t:aq}
end
theorem ao0 {b:Bk} (h:kH b=true):(b.ck.map tr).map aq.text=b.ck:=by
 have hp:=(GI h).2.1
 rw[List.map_map]
 conv=>rhs;rw[<-List.map_id b.ck]
 refine List.map_congr_left λs hs=>?_
 obtain⟨t,ht,_⟩:=hp s hs
 show(tr s).text=s
 rw[GH ht,(uw ht).2.2.1]
end Go.Proofs.YthbhobaiopccaaaGreatDoor
