/- Lemmas for the law FnProgramSize, no statement of their own: no conditions. -/
import Derived.Test.YthbhobaiopccaaaGreatDoorHj
set_option maxHeartbeats 4000000
set_option linter.unusedVariables false
set_option linter.unusedSimpArgs false
namespace Go.Proofs.YthbhobaiopccaaaGreatDoor
open Go
variable {w w':World} {b b6 b7 i q q':Nat} {L:List Nat} {v v1 v2:Value} {g g1 g2:Option Nat} {gss:List (Option Nat×Option Nat)} {vss:List (List Value)} {bs:List Bk} {xs ys:List ai}
def Bz:Ty->ai
 | .i=>[48]
 | .op false a b=>[40,112,97,105,114,32]++Bz a++[32]++Bz b++[41]
 | .op true a b=>[40,102,117,110,32,102,32,120,32]++a.text++[32]++b.text++[32]++Bz b++[41]
theorem BA:∀T:Ty,T.n<=60->(Bz T).length<=500*T.n
 | .i,_=>by simp[Bz,Ty.n]
 | .op false a b,h=>by
  simp only[Ty.n] at h⊢
  have:=BA a om
  have:=BA b om
  simp only[Bz,lA,lC,List.length_nil];omega
 | .op true a b,h=>by
  simp only[Ty.n] at h⊢
  have:=BA b om
  have:=a.len
  have:=b.len
  simp only[Bz,lA,lC,List.length_nil];omega
theorem XI (T:Ty):T.n<=60->∀(v:Value) (L:List Nat) (w:World),bB L w v T.au->bz Tryz.prog 228 [v] w λr w'=>r=str (Bz T)∧aj [] w w':=by
 induction T with
 |i=>
  intro hn v L w hv
  obtain⟨ar,nr,cr,rfl,p4,aP⟩:=cU hv
  have hK:=aj.refl [] w
  refine bS [.tmp 2] 47 Tryz.func228 rfl LM rfl rfl ?_
  refine zr<|eH rfl λw1 aI aX dk=>?_
  have hK:=hK.ext aI
  refine W ?_
  refine zc rfl (λh1=>?_) (λh1=>?_)
  refine W ?_
  exact⟨_,rfl,rfl,hK⟩
  exact absurd h1 de
 |op f a b iha ihb=>
  intro hn v L w hv
  cases f with
  |false=>
   obtain⟨ar,nr,cr,rfl,p4,aP⟩:=cU hv
   subst p4
   have eU:1+a.n+b.n<=60:=hn
   have Gl:=BA a om
   have Fi:=BA b om
   have sL:=a.len
   have htb:=b.len
   have XJ:=a.size
   have XK:=b.size
   have Od:(Ty.op false a b).au.ak.length=3:=rfl
   obtain⟨b0,vv,x6,ya,e0,et,_⟩:=eW aP (i:=0) om
   cases e0
   have et:fy L w _ _ [str (jO false),.slice x6 0 ya]:=et
   obtain⟨b1,eX,gA,gm,e1,bK,cI⟩:=eW aP (i:=1) om
   cases e1
   have bK:fy L w _ _ [str a.au.aw,.slice gA a.au.ak.length gm]:=bK
   have cI:bB L w (.agg #[str a.au.aw,.slice gA a.au.ak.length gm]) a.au:=cI
   obtain⟨b2,lG,iA,iw,e2,bU,dI⟩:=eW aP (i:=2) om
   cases e2
   have bU:fy L w _ _ [str b.au.aw,.slice iA b.au.ak.length iw]:=bU
   have dI:bB L w (.agg #[str b.au.aw,.slice iA b.au.ak.length iw]) b.au:=dI
   have hK:=aj.refl [] w
   refine bS [.tmp 2] 47 Tryz.func228 rfl LM rfl rfl<|zr<|eH rfl λw1 aI aX dk=>tS aI hK et bK bU cI dI λhK et bK bU cI dI=>?_
   refine W ?_
   refine zc rfl (λh1=>?_) (λh1=>?_)
   exact absurd rfl h1
   refine WI ?_
   refine zi (i:=0) cz aL rfl rfl ((show 0<3 from om))<|W ?_
   refine zc rfl (λh2=>?_) (λh2=>?_)
   refine WZ ?_
   apply dV dj 15 [12,13,14,15,16,17,18,19,20,21,22,23,24,25,2] [[],[0],[1],[2],[3],[4],[5],[],[7],[8],[9],[10],[6,11],[12],[13]] (it [_,_,_,_,_,_,_,_,_,_,_,_,_,_,_]) de rfl
   intro wd aC
   refine VA ?_
   refine vk aC (λx w2 az=>?_) ?_
   refine zi (i:=1) cz aL rfl rfl ((show 1<3 from om)) ?_
   exact pv
   refine VA ?_
   refine vk aC (λx w2 az=>?_) ?_
   have cI:=cI.ext az
   refine aA (iha om _ _ w2 cI) ?_
   rintro _ w3 ⟨rfl,aH⟩
   have fm:=aH.size
   exact pk aH
   refine VA ?_
   refine vk aC (λx w2 az=>?_) ?_
   refine zi (i:=2) cz aL rfl rfl ((show 2<3 from om)) ?_
   exact pv
   refine VA ?_
   refine vk aC (λx w2 az=>?_) ?_
   have dI:=dI.ext az
   refine aA (ihb om _ _ w2 dI) ?_
   rintro _ w3 ⟨rfl,aH⟩
   have fm:=aH.size
   exact pk aH
   exact VZ
   intro x o5 gR
   have hK:=hK.ext gR
   change OW _ _ _ _ [] (bo (bj _ x _) (zZ 12 [_,_,_,_,_,_,_,_,_,_,_,_,_,_]++[(2,_)])) _
   refine W ?_
   exact⟨_,rfl,rfl,hK⟩
   exact absurd rfl h2
  |true=>
   obtain⟨ar,nr,cr,rfl,p4,aP⟩:=cU hv
   subst p4
   have eU:1+a.n+b.n<=60:=hn
   have Gl:=BA a om
   have Fi:=BA b om
   have sL:=a.len
   have htb:=b.len
   have XJ:=a.size
   have XK:=b.size
   have Od:(Ty.op true a b).au.ak.length=3:=rfl
   obtain⟨b0,vv,x6,ya,e0,et,_⟩:=eW aP (i:=0) om
   cases e0
   have et:fy L w _ _ [str (jO true),.slice x6 0 ya]:=et
   obtain⟨b1,eX,gA,gm,e1,bK,cI⟩:=eW aP (i:=1) om
   cases e1
   have bK:fy L w _ _ [str a.au.aw,.slice gA a.au.ak.length gm]:=bK
   have cI:bB L w (.agg #[str a.au.aw,.slice gA a.au.ak.length gm]) a.au:=cI
   obtain⟨b2,lG,iA,iw,e2,bU,dI⟩:=eW aP (i:=2) om
   cases e2
   have bU:fy L w _ _ [str b.au.aw,.slice iA b.au.ak.length iw]:=bU
   have dI:bB L w (.agg #[str b.au.aw,.slice iA b.au.ak.length iw]) b.au:=dI
   have hK:=aj.refl [] w
   refine bS [.tmp 2] 47 Tryz.func228 rfl LM rfl rfl<|zr<|eH rfl λw1 aI aX dk=>tS aI hK et bK bU cI dI λhK et bK bU cI dI=>?_
   refine W ?_
   refine zc rfl (λh1=>?_) (λh1=>?_)
   exact absurd rfl h1
   refine WI ?_
   refine zi (i:=0) cz aL rfl rfl ((show 0<3 from om))<|W ?_
   refine zc rfl (λh2=>?_) (λh2=>?_)
   exact absurd h2 de
   refine WZ ?_
   apply dV dj 22 [26,27,28,29,30,31,32,33,34,35,36,37,38,39,40,41,42,43,44,45,46,2] [[],[0],[1],[2],[3],[4],[5],[],[7],[8],[9],[10],[6,11],[12],[],[14],[15],[16],[17],[13,18],[19],[20]] (it [_,_,_,_,_,_,_,_,_,_,_,_,_,_,_,_,_,_,_,_,_,_]) de rfl
   intro wd aC
   refine VA ?_
   refine vk aC (λx w2 az=>?_) ?_
   refine zi (i:=1) cz aL rfl rfl ((show 1<3 from om)) ?_
   exact pv
   refine VA ?_
   refine vk aC (λx w2 az=>?_) ?_
   have cI:=cI.ext az
   refine aA (tT a.au.size a.au (lR _) a.lu.wf om (show a.text.length<=100000000 from om) _ _ w2 cI) ?_
   rintro _ w3 ⟨rfl,aH⟩
   have fm:=aH.size
   exact pk aH
   refine vk aC (λx w2 az=>?_) ?_
   refine gV rfl rfl rfl rfl (by have h9:a.au.text.length=a.text.length:=rfl;simp;omega) ?_
   exact pv
   refine vk aC (λx w2 az=>?_) ?_
   refine gV rfl rfl rfl rfl (by have h9:a.au.text.length=a.text.length:=rfl;simp;omega) ?_
   exact pv
   refine VA ?_
   refine vk aC (λx w2 az=>?_) ?_
   refine zi (i:=2) cz aL rfl rfl ((show 2<3 from om)) ?_
   exact pv
   refine VA ?_
   refine vk aC (λx w2 az=>?_) ?_
   have dI:=dI.ext az
   refine aA (tT b.au.size b.au (lR _) b.lu.wf om (show b.text.length<=100000000 from om) _ _ w2 dI) ?_
   rintro _ w3 ⟨rfl,aH⟩
   have fm:=aH.size
   exact pk aH
   refine vk aC (λx w2 az=>?_) ?_
   refine gV rfl rfl rfl rfl (by have h9:a.au.text.length=a.text.length:=rfl;have fO:b.au.text.length=b.text.length:=rfl;simp;omega) ?_
   exact pv
   refine vk aC (λx w2 az=>?_) ?_
   refine gV rfl rfl rfl rfl (by have h9:a.au.text.length=a.text.length:=rfl;have fO:b.au.text.length=b.text.length:=rfl;simp;omega) ?_
   exact pv
   refine VA ?_
   refine vk aC (λx w2 az=>?_) ?_
   refine zi (i:=2) cz aL rfl rfl ((show 2<3 from om)) ?_
   exact pv
   refine VA ?_
   refine vk aC (λx w2 az=>?_) ?_
   have dI:=dI.ext az
   refine aA (ihb om _ _ w2 dI) ?_
   rintro _ w3 ⟨rfl,aH⟩
   have fm:=aH.size
   exact pk aH
   refine vk aC (λx w2 az=>?_) ?_
   refine gV rfl rfl rfl rfl (by have h9:a.au.text.length=a.text.length:=rfl;have fO:b.au.text.length=b.text.length:=rfl;simp;omega) ?_
   exact pv
   refine vk aC (λx w2 az=>?_) ?_
   refine gV rfl rfl rfl rfl (by have h9:a.au.text.length=a.text.length:=rfl;have fO:b.au.text.length=b.text.length:=rfl;simp;omega) ?_
   exact pv
   exact VZ
   intro x o5 gR
   have hK:=hK.ext gR
   change OW _ _ _ _ [] (bo (bj _ x _) (zZ 26 [_,_,_,_,_,_,_,_,_,_,_,_,_,_,_,_,_,_,_,_,_]++[(2,_)])) _
   refine W ?_
   exact⟨_,rfl,rfl,hK⟩
def Pw:List ai:=[[40,43,32,120,56,32,40,99,97,108,108,32,102,56,32,40,45,32,120,56,32,49,41,41,41],[40,99,97,108,108,32,102,56,32,40,45,32,120,56,32,49,41,41],[40,42,32,120,56,32,40,99,97,108,108,32,102,56,32,40,45,32,120,56,32,49,41,41,41],[40,45,32,48,32,40,99,97,108,108,32,102,56,32,40,45,32,120,56,32,49,41,41,41]]
theorem amv (br q:Nat) (hq:q<=900000000) (w:World) (h:dD w br q):
  bz Tryz.prog 162 [.pointer (some ⟨br,0,none⟩)] w λr w'=>(∃x,r=str x∧x.length<=200)∧dD w' br (q+3)∧aj [br] w w':=by
 have hQ:=h
 have aB:=aj.refl [br] w
 have lS:=h.lt
 refine bS [.tmp 2] 20 Tryz.func162 rfl abj rfl rfl ?_
 refine W ?_
 refine yh bh bf rfl rfl rfl rfl rfl rfl λw1 aI cg dk=>bI aI hQ aB λhQ aB=>?_
 refine aA (mi Pw de de br q om _ w1 hQ (aJ.dK Pw cg (λhx=>by simp at hx;omega) de)) ?_
 rintro l8 w2 ⟨⟨x1,hi,gS⟩,hQ,dA⟩
 subst gS
 have aB:=aB.trans dA
 have fl:=(show∀x,x∈Pw->x.length<=30 from by decide) _ hi
 have lS:=hQ.lt
 clear cg
 refine W ?_
 refine pM bh bf rfl rfl rfl rfl rfl λw3 aH dh gJ=>bI aH hQ aB λhQ aB=>?_
 refine aA (mi [[48],[49],[53]] de de br (q+1) om _ w3 hQ (aJ.dK [[48],[49],[53]] dh (λhx=>by simp at hx;omega))) ?_
 rintro A1 w4 ⟨⟨x2,hj,EL⟩,hQ,jI⟩
 subst EL
 have aB:=aB.trans jI
 have iy:=(show∀x,x∈([[48],[49],[53]]:List ai)->x.length<=30 from by decide) _ hj
 clear dh
 refine W ?_
 refine aA (lQ 7 de de br (q+2) om w4 hQ) ?_
 rintro CE w5 ⟨⟨z,Bi,hz⟩,hQ,mJ⟩
 subst Bi
 have aB:=aB.trans mJ
 have Fz:=sM (n:=z) om
 refine aA (ir (z+1) z om om w5) ?_
 rintro _ w6 ⟨rfl,bN⟩
 have oo:=bN.size
 refine bI bN hQ aB λhQ aB=>?_
 refine W ?_
 exact⟨_,rfl,⟨_,rfl,by simp;omega⟩,hQ,aB⟩
theorem XL (s:ai) (w:World):bz Tryz.prog 199 [str s] w λr w'=>(∃x ok,r= .tuple #[str x,.bool ok]∧x.length<=8000)∧aj [] w w':=by
 have hK:=aj.refl [] w
 refine bS [.tmp 2,.tmp 3] 26 Tryz.func199 rfl abN rfl rfl ?_
 refine W ?_
 refine aA (AH s [] w sm) ?_
 rintro v1 w1 ⟨fY,aI⟩
 have cV:=aI.size
 have hK:=hK.ext aI
 have eS:=fY
 obtain⟨t,tv,e9,ht,hp⟩:=eS
 subst e9
 have bZ:=cU ht
 obtain⟨pa,pn,pc,e9,eP,_⟩:=bZ
 subst e9
 subst eP
 have mG:=hK.size
 refine W ?_
 refine dy aL rfl rfl rfl λw2 az aG gQ=>?_
 have da:=az
 refine cJ (vs:=[str t.aw,.slice pa t.ak.length pc]) aL rfl rfl rfl aG rfl λw3 aH aG df=>?_
 have da:=da.since aH (λx hx=>.inr (by simp at hx;omega))
 refine bI da ht hK λht hK=>?_
 refine W ?_
 refine xM (t:=13) rfl (λh1=>?_) (λh1=>?_)
 replace h1:=jk h1
 refine zs<|zs<|zs<|zp rfl<|zm<|Fw (t:=18) (b:=true) rfl<|zs<|zs<|zs<|zs<|zp rfl<|aZ<|zc rfl (λh2=>?_) (λh2=>?_)
 refine W ?_
 exact⟨_,rfl,⟨[],false,rfl,sm⟩,hK⟩
 simp at h2
 replace h1:=jk h1
 have ba:(bA s).isSome=true:=(by simpa using h1)
 have cm:=DS hp ba
 refine W ?_
 refine aA (AU t om cm.1 _ _ w3 ht) ?_
 rintro _ w4 ⟨rfl,aO⟩
 have fE:=aO.size
 refine cN aO hK aG ht λhK aG ht=>?_
 refine W ?_
 refine xM (t:=18) rfl (λh3=>?_) (λh3=>?_)
 replace h3:=jk h3
 refine W ?_
 refine zc rfl (λh4=>?_) (λh4=>?_)
 refine W ?_
 exact⟨_,rfl,⟨[],false,rfl,sm⟩,hK⟩
 simp at h4
 replace h3:=jk h3
 have eR:jP t=true:=(by simpa using h3)
 have hu:=(zX cm.1).1 eR
 obtain⟨T,yj,HS⟩:=hu
 have pO:=ht
 rw[yj] at pO
 refine W ?_
 refine aA (XI T om _ _ w4 (ht.eq yj)) ?_
 rintro _ w5 ⟨rfl,aN⟩
 have l3:=aN.size
 refine cN aN hK aG ht λhK aG ht=>?_
 have tu:=BA T om
 refine aA (Nn _ w5) ?_
 rintro _ w6 ⟨rfl,bN⟩
 have oo:=bN.size
 refine cN bN hK aG ht λhK aG ht=>?_
 refine W ?_
 refine zc rfl (λh5=>?_) (λh5=>?_)
 refine W ?_
 exact⟨_,rfl,⟨[],false,rfl,sm⟩,hK⟩
 refine W ?_
 refine aA (XI T om _ _ w6 (ht.eq yj)) ?_
 rintro _ w7 ⟨rfl,bW⟩
 have lf:=bW.size
 have hK:=hK.ext bW
 refine W ?_
 exact⟨_,rfl,⟨_,true,rfl,om⟩,hK⟩
theorem amw:sj Tryz.prog 152=true:=by kernel_rfl
theorem KM (ns ts:List ai) (nm kd:ai) (fl:ns.length<100000) (iy:ts.length<100000) (v1 v2:Value) (L:List Nat) (w:World) (hL:∀x,x∈L->x<w.heap.size) (h1:bc L w v1 ns) (h2:bc L w v2 ts):
  bz Tryz.prog 161 [.agg #[v1,v2],str nm,str kd] w λr w'=>(∃u1 u2,r= .agg #[u1,u2]∧bc L w' u1 (ns++[nm])∧bc L w' u2 (ts++[kd]))∧aj [] w w':=by
 obtain⟨a1,n1,c1,rfl,_⟩:=dJ h1
 obtain⟨a2,n2,c2,rfl,_⟩:=dJ h2
 have hK:=aj.refl [] w
 refine kW [.cell 6 152] 18 Tryz.func161 rfl abi rfl rfl rfl ?_
 refine zr<|eH rfl λw1 aI cQ dk=>cN aI hK h1 h2 λhK h1 h2=>?_
 refine dy BY rfl rfl rfl λw2 az bL kI=>?_
 have hK:=hK.ext az
 have h1:=(bc.fresh h1 (L':=w1.heap.size::L) (λx hx=>by rcases mC.1 hx with h9|h9;(·right;omega);(·exact .inl h9))).ext az
 have h2:=(bc.fresh h2 (L':=w1.heap.size::L) (λx hx=>by rcases mC.1 hx with h9|h9;(·right;omega);(·exact .inl h9))).ext az
 have KN:∀x,x∈w1.heap.size::L->x<w2.heap.size:=(λx hx=>by rcases mC.1 hx with h9|h9;(·omega);(·have:=hL x h9;omega))
 have cQ:=cQ.ext az
 have jb:=hK.size
 refine W ?_
 apply uZ dj 11 (rA 7 11) (rA 7 11) [[],[0],[],[2],[1,3],[],[5],[],[7],[6,8],[4,9]] [It.v _,It.v _,It.v _,It.p (fun(v:Value) (ww:World)=>bc (w1.heap.size::L) ww v [nm]),It.p (fun(v:Value) (ww:World)=>bc (w1.heap.size::L) ww v (ns++[nm])),It.v _,It.v _,It.v _,It.p (fun(v:Value) (ww:World)=>bc (w1.heap.size::L) ww v [kd]),It.p (fun(v:Value) (ww:World)=>bc (w1.heap.size::L) ww v (ts++[kd])),It.p (fun(v:Value) (ww:World)=>∃b1 m1 d1 b2 m2 d2,v= .agg #[.slice b1 m1 d1,.slice b2 m2 d2]∧bc (w1.heap.size::L) ww (.slice b1 m1 d1) (ns++[nm])∧bc (w1.heap.size::L) ww (.slice b2 m2 d2) (ts++[kd]))] de (by exact⟨λv w w' h k=>bQ.ext h k,λv w w' h k=>bQ.ext h k,λv w w' h k=>bQ.ext h k,λv w w' h k=>bQ.ext h k,λv w w' ⟨b1,m1,d1,b2,m2,d2,e,g1,g2⟩ k=>⟨b1,m1,d1,b2,m2,d2,e,bQ.ext g1 k,bQ.ext g2 k⟩,trivial⟩)
 intro wd aC
 refine VA ?_
 refine vk aC (λx w3 aH=>?_) ?_
 refine fc bh bf rfl rfl λw4 aO qp gQ=>?_
 exact pf aO ((aJ.dK [nm] qp (λhx=>by have:=KN _ hx;have:=aH.size;omega)))
 refine vk aC (λx w3 aH=>?_) ?_
 have h1:=h1.ext aH
 intro v3 d3
 refine aA (tY ns [nm] so _ _ (w1.heap.size::L) w3 h1 d3 (λx hx=>by have:=KN x hx;have:=aH.size;omega)) ?_
 rintro v4 w4 ⟨jT,aO⟩
 have fE:=aO.size
 have eS:=jT
 exact pf aO eS
 refine VA ?_
 refine vk aC (λx w3 aH=>?_) ?_
 refine fc bh bf rfl rfl λw4 aO EB gQ=>?_
 exact pf aO ((aJ.dK [kd] EB (λhx=>by have:=KN _ hx;have:=aH.size;omega)))
 refine vk aC (λx w3 aH=>?_) ?_
 have h2:=h2.ext aH
 intro v8 d8
 refine aA (tY ts [kd] so _ _ (w1.heap.size::L) w3 h2 d8 (λx hx=>by have:=KN x hx;have:=aH.size;omega)) ?_
 rintro v4 w4 ⟨jT,aO⟩
 have fE:=aO.size
 have eS:=jT
 exact pf aO eS
 refine vk aC (λx w3 aH=>?_) ?_
 intro v4 d4
 intro v9 d9
 have bK:=dJ d4
 obtain⟨b1,m1,d1,e1,_⟩:=bK
 subst e1
 have bU:=dJ d9
 obtain⟨b2,m2,d2,e2,_⟩:=bU
 subst e2
 refine js (LN _ _ _ _ _ _ _) rfl rfl ?_
 exact pf (aj.refl _ _) (⟨_,_,_,_,_,_,rfl,d4,d9⟩)
 exact trivial
 intro x qx CT
 intro v3 d3
 intro v4 d4
 intro v8 d8
 intro v9 d9
 intro v10 d10
 refine bI CT hK bL λhK bL=>?_
 change OW _ _ _ _ _ (bo (bj _ x _) (zZ 7 [_,_,_,_,_,_,_,_,_,_,_])) _
 obtain⟨b1,m1,d1,b2,m2,d2,fo,g1,g2⟩:=d10
 subst fo
 refine cJ (vs:=[.slice b1 m1 d1,.slice b2 m2 d2]) BY rfl rfl rfl bL rfl λoZ jy bL df=>?_
 have hK:=hK.since jy (λx hx=>.inr (by simp at hx;omega))
 have g1:bc L oZ _ (ns++[nm]):=(bQ.aD g1 jy sm).fresh (λx hx=>.inl (by simp[hx]))
 have g2:bc L oZ _ (ts++[kd]):=(bQ.aD g2 jy sm).fresh (λx hx=>.inl (by simp[hx]))
 refine W ?_
 exact⟨[_],ga amw BY rfl bL rfl,⟨_,_,rfl,g1,g2⟩,hK⟩
def Fj:List ai:=[[48],[49],[50],[51],[55],[45,49],[52,48,48],[45,57,57,57]]
theorem Px (ns ts:List ai) (want:ai) (hl:ns.length=ts.length) (CI:ns.length<=1000) (hs:∀x,x∈ns->x.length<=8000) (br q:Nat) (hq:q<=900000000) (v1 v2:Value) (w:World) (h:dD w br q) (cv:bc [br] w v1 ns) (ck:bc [br] w v2 ts):
  bz Tryz.prog 160 [.pointer (some ⟨br,0,none⟩),.agg #[v1,v2],str want] w λr w'=>(∃x,r=str x∧x.length<=8000)∧dD w' br (q+2)∧aj [br] w w':=by
 obtain⟨a1,n1,c1,rfl,fx⟩:=dJ cv
 obtain⟨a2,n2,c2,rfl,eU⟩:=dJ ck
 subst fx
 have iq:=h.lt
 have hK:=aj.refl [] w
 refine bS [.tmp 6] 67 Tryz.func160 rfl abh rfl rfl ?_
 refine zr<|eH rfl λw1 aI aG dk=>ie aI cv ck hK h λcv ck hK h=>?_
 refine zA<|aZ<|zr<|fQ bh bf λw2 az iF vj=>?_
 have aI:=az
 have amx:=iF.kK
 have ark:=hK.size
 refine W ?_
 refine eA (λq9:Nat×Value×Option Nat=>[(0,.pointer (some ⟨br,0,none⟩)),(2,str want),(4,.pointer (some ⟨w.heap.size,0,none⟩)),(7,q9.2.1),(8,.int .i64 (q9.1:Int))]) (λq9 w'=>aj [] w1 w'∧q9.1<=ns.length∧∃xs,cG w' 9 q9.2.1 q9.2.2 xs∧(∀x,x∈xs->x∈ns)∧xs.length<=q9.1∧∀b,q9.2.2=some b->w1.heap.size<=b) (λq9=>ns.length-q9.1) ((0,.slice (some ⟨w1.heap.size,0,none⟩) 0 0,some w1.heap.size)) (⟨rfl,rfl,rfl,rfl,rfl⟩) (⟨aI,sm,[],amx,sm,sm,by intro b hb;cases hb;exact lR _⟩) λgg w3 e3 hI=>?_
 obtain⟨k,vf,gf⟩:=gg
 obtain⟨da,hk,xs,hO,uA,mm,fG⟩:=hI
 dsimp only at hk hO mm fG
 refine la da cv ck hK h aG λcv ck hK h aG=>?_
 refine W ?_
 refine zc rfl (λh1=>?_) (λh1=>?_)
 have az:k<ns.length:=(by simp at h1;omega)
 have ey:=nN cv az
 obtain⟨b9,ux,e9,jr⟩:=ey
 cases e9
 have rM:=List.mem_of_getElem? (km az)
 refine WZ ?_
 apply dV dj 12 [19,20,21,22,23,24,25,26,27,28,29,30] [[],[0],[],[2],[],[4],[],[5,6],[7],[1,3,8],[],[9,10]] (it [_,_,_,_,_,_,_,_,_,_,_,_]) de rfl
 intro wd aC
 refine vc (λ_ _ _=>WZ pv) ?_
 refine vk aC (λx w4 aO=>?_) ?_
 have aG:=aG.ext aO
 refine WZ ?_
 exact pv
 refine vc (λ_ _ _=>WZ pv) ?_
 refine vk aC (λx w4 aO=>?_) ?_
 have aG:=aG.ext aO
 refine WZ ?_
 exact pv
 refine vc (λ_ _ _=>WZ pv) ?_
 refine vk aC (λx w4 aO=>?_) ?_
 have aG:=aG.ext aO
 refine WZ ?_
 exact pv
 refine vc (λ_ _ _=>WZ pv) ?_
 refine VA ?_
 refine vk aC (λx w4 aO=>?_) ?_
 refine bI aO cv ck λcv ck=>?_
 refine aA (GN ns ts hl om (bX ns k) _ _ _ _ w4 cv ck) ?_
 rintro _ w5 ⟨rfl,aN⟩
 have l3:=aN.size
 exact pk aN
 exact VZ
 intro x oZ jy
 refine ie jy aG hO da jr λaG hO da jr=>?_
 change OW _ _ _ _ [] (bo (bj _ x _) (zZ 19 [_,_,_,_,_,_,_,_,_,_,_,_])) _
 refine aZ<|zc rfl (λh2=>?_) (λh2=>?_)
 refine WI ?_
 refine zi bh bf rfl rfl az<|W ?_
 refine fc bh bf rfl rfl λo6 iX E4 alA=>bI iX hO da λhO da=>?_
 refine rV bh bf rfl rfl rfl rfl rfl rfl hO E4 om λv9 g9 qw cZ rQ eZ=>?_
 have XM:=da.size
 have da:=da.since rQ (λx hx=>.inr (fG x (by simpa using hx)))
 have arl:=da.size
 refine WA ?_
 refine mY rfl rfl rfl rfl rfl (kQ (k+1) om _ om)<|zA<|aZ ?_
 exact⟨(k+1,v9,g9),⟨rfl,rfl,rfl,rfl,rfl⟩,⟨da,by show k+1<=_;omega,xs++[bX ns k],cZ,λx hx=>by rcases mA.1 hx with h9|h9;(·exact uA x h9);(·simp only[List.mem_singleton] at h9;rw[h9];exact rM),by show(xs++[bX ns k]).length<=k+1;rw[lA];simp;omega,λb hb=>by rcases eZ with h9|h9;(·exact fG b (h9.symm.trans hb));(·rw[h9] at hb;cases hb;omega)⟩,by show ns.length-(k+1)<ns.length-k;omega⟩
 refine gY<|kH<|zm<|mY rfl rfl rfl rfl rfl (kQ (k+1) om _ om)<|zA<|aZ ?_
 exact⟨(k+1,_,gf),⟨rfl,rfl,rfl,rfl,rfl⟩,⟨da,by show k+1<=_;omega,xs,hO,uA,by show xs.length<=k+1;omega,fG⟩,by show ns.length-(k+1)<ns.length-k;omega⟩
 have bZ:=jR hO
 obtain⟨af,cf,ef⟩:=bZ
 subst ef
 have aB:=hK.mono (L':=[br]) sm
 have amy:=hK.size
 have EE:∀b,gf=some b->w.heap.size<=b:=(λb hb=>by have:=fG b hb;omega)
 refine W ?_
 refine xM (t:=42) rfl (λh3=>?_) (λh3=>?_)
 replace h3:=jk h3
 have j8:0<xs.length:=(by simp at h3;omega)
 refine zm<|aA (lQ 4 de de br q om w3 h) ?_
 rintro v44 w4 ⟨⟨z,e44,hz⟩,h,iX⟩
 subst e44
 have aB:=aB.trans iX
 have hO:=hO.aF iX (λb hb aU=>by have:=EE b hb;simp at aU;omega)
 have amy:=aB.size
 refine W ?_
 refine zc rfl (λh4=>?_) (λh4=>?_)
 refine W ?_
 refine aA (lQ xs.length j8 om br (q+1) om w4 h) ?_
 rintro v51 w5 ⟨⟨z2,OY,dC⟩,h,kP⟩
 subst OY
 have aB:=aB.trans kP
 have hO:=hO.aF kP (λb hb aU=>by have:=EE b hb;simp at aU;omega)
 have ey:=nN hO.rs dC
 obtain⟨b9,ux,e9,jr⟩:=ey
 cases e9
 have rM:=uA _ (List.mem_of_getElem? (km dC))
 refine zi bh bf rfl rfl dC<|W ?_
 exact⟨_,rfl,⟨_,rfl,hs _ rM⟩,h,aB⟩
 refine W ?_
 refine zc rfl (λh5=>?_) (λh5=>?_)
 refine zr<|zm<|Tr bh bf rfl rfl rfl rfl rfl rfl rfl rfl rfl rfl λw5 aN Py ig=>bI aN h aB λh aB=>?_
 refine aA (mi Fj de de br (q+1) om _ w5 h (aJ.dK Fj Py (λhx=>by simp at hx;omega) de)) ?_
 rintro NW w6 ⟨⟨x1,ik,Fa⟩,h,Ff⟩
 subst Fa
 have aB:=(aB).trans Ff
 have fl:=(show∀x,x∈Fj->x.length<=8000 from by decide) _ ik
 refine W ?_
 exact⟨_,rfl,⟨x1,rfl,fl⟩,h.more om,aB⟩
 refine gY<|zr<|zm<|aA (XL want w4) ?_
 rintro v5 w5 ⟨sJ,aN⟩
 have l3:=aN.size
 refine bI aN h aB λh aB=>?_
 have eS:=sJ
 obtain⟨x1,ok1,HQ,fl⟩:=eS
 subst HQ
 refine W ?_
 refine zc rfl (λh6=>?_) (λh6=>?_)
 refine W ?_
 exact⟨_,rfl,⟨[48],rfl,by decide⟩,h.more om,aB⟩
 refine W ?_
 exact⟨_,rfl,⟨x1,rfl,fl⟩,h.more om,aB⟩
 replace h3:=jk h3
 have j8:xs.length=0:=om
 refine W ?_
 refine zc rfl (λh7=>?_) (λh7=>?_)
 simp at h7
 refine W ?_
 refine zc rfl (λh8=>?_) (λh8=>?_)
 refine zr<|zm<|Tr bh bf rfl rfl rfl rfl rfl rfl rfl rfl rfl rfl λw4 aO Py gQ=>bI aO hK h λhK h=>?_
 refine aA (mi Fj de de br q om _ w4 h (aJ.dK Fj Py (λhx=>by simp at hx;omega) de)) ?_
 rintro NW w5 ⟨⟨x1,ik,Fa⟩,h,Ff⟩
 subst Fa
 have aB:=((hK.mono (L':=[br]) sm)).trans Ff
 have fl:=(show∀x,x∈Fj->x.length<=8000 from by decide) _ ik
 refine W ?_
 exact⟨_,rfl,⟨x1,rfl,fl⟩,h.more om,aB⟩
 refine gY<|zr<|zm<|aA (XL want w3) ?_
 rintro v4 w4 ⟨jT,aO⟩
 have fE:=aO.size
 refine bI aO hK h λhK h=>?_
 have eS:=jT
 obtain⟨x1,ok1,HQ,fl⟩:=eS
 subst HQ
 refine W ?_
 refine zc rfl (λh9=>?_) (λh9=>?_)
 refine W ?_
 exact⟨_,rfl,⟨[48],rfl,by decide⟩,h.more om,(hK.mono (L':=[br]) sm)⟩
 refine W ?_
 exact⟨_,rfl,⟨x1,rfl,fl⟩,h.more om,(hK.mono (L':=[br]) sm)⟩
def Pz:List ai:=[[97],[98],[99],[120,49],[121,48]]
def PA:List ai:=[[102],[103],[102,49]]
def PB:List ai:=[[120],[122],[120,50]]
def KO:List ai:=[[43],[45],[42]]
def H3 (d P:Nat):Prop:=∀(ns ts:List ai) (want:ai) (br q:Nat) (v1 v2:Value) (w:World),ns.length=ts.length->ns.length+2*d<=100->(∀x,x∈ns->x.length<=8000)->want.length+100*d<=26000->q+20*P<=800000000->dD w br q->bc [br] w v1 ns->bc [br] w v2 ts->
  bz Tryz.prog 132 [.pointer (some ⟨br,0,none⟩),.agg #[v1,v2],str want,.int .i64 (d:Int)] w λr w'=>(∃x,r=str x∧x.length<=100000*P)∧dD w' br (q+20*P)∧aj [br] w w'
theorem KP {ns:List ai} {x:ai} (h:∀x,x∈ns->x.length<=8000) (hx:x.length<=8000):∀y,y∈ns++[x]->y.length<=8000:=λy hy=>by
 rcases mA.1 hy with h9|h9
 ·exact h y h9
 ·simp only[List.mem_singleton] at h9;rw[h9];exact hx
theorem XN {s sg:ai} {o:Option (Ty×Ty)} (h:Ct s sg o):(sP o).length<=100∧(yq o).length<=100:=by
 cases o with
 |none=>exact⟨by decide,by decide⟩
 |some p=>
  obtain⟨g,_,_,h3⟩:=h
  have e:(Ty.op g p.1 p.2).n=1+p.1.n+p.2.n:=rfl
  have h1:=p.1.len
  have h2:=p.2.len
  exact⟨by show p.1.text.length<=100;omega,by show p.2.text.length<=100;omega⟩
def BuP (d P:Nat):Prop:=∀(ns ts:List ai) (want:ai) (br q:Nat) (v1 v2:Value) (w:World),ns.length=ts.length->ns.length+2*(d+1)<=100->(∀x,x∈ns->x.length<=8000)->want.length+100*(d+1)<=26000->q+40*P+20<=800000000->dD w br q->bc [br] w v1 ns->bc [br] w v2 ts->
  bz Tryz.prog 163 [.pointer (some ⟨br,0,none⟩),.agg #[v1,v2],str want,.int .i64 ((d+1:Nat):Int)] w λr w'=>(∃x,r=str x∧x.length<=200000*P+30000)∧dD w' br (q+40*P+10)∧aj [br] w w'
theorem amC (d P:Nat) (hd:d<=10) (hP:1<=P) (XO:P<=1000000) (ih:H3 d P):BuP d P:=by
 intro ns ts want br q v1 v2 w hl CI hs hw hq h cv ck
 obtain⟨a1,n1,c1,rfl,fx⟩:=dJ cv
 obtain⟨a2,n2,c2,rfl,eU⟩:=dJ ck
 subst fx
 subst eU
 have iq:=h.lt
 have hk:=aj.refl [br] w
 refine bS [.tmp 8] 119 Tryz.func163 rfl abk rfl rfl ?_
 refine zr<|eH rfl λw1 aI cg dk=>ie aI hk h cv ck λhk h cv ck=>?_
 refine W ?_
 have cg:dM [br] w1 w.heap.size _ _:=⟨cg,by simp;omega⟩
 refine aA (Uh want w1) ?_
 rintro v2 w2 ⟨ij,az⟩
 have dm:=az.size
 refine la az hk h cv ck cg λhk h cv ck cg=>?_
 obtain⟨o1,xq,rfl⟩:=ij
 have hAB:=XN xq
 refine W ?_
 refine aA (Ug want w2) ?_
 rintro v3 w3 ⟨ko,aH⟩
 have fm:=aH.size
 refine la aH hk h cv ck cg λhk h cv ck cg=>?_
 obtain⟨o2,vJ,rfl⟩:=ko
 have hCE:=XN vJ
 refine WA ?_
 refine xK rfl rfl rfl rfl rfl (kQ d om _ om)<|W ?_
 refine zc rfl (λh1=>?_) (λh1=>?_)
 refine WZ ?_
 apply jF dj ([br]) 14 (rA 35 14) (rA 35 14) [[],[],[],[],(rA 0 4),[4],[5],[],[],[],[],(rA 7 4),[6,11],[12]] [Ie.v _,Ie.v _,Ie.v _,Ie.v _,Ie.q 0 (fun(v:Value)=>∃x,v=str x∧x.length<=100000*P),Ie.p (fun(G:List Nat) (v:Value) (ww:World)=>∃x,v=str x∧x.length<=100000*P+100),Ie.p (fun(G:List Nat) (v:Value) (ww:World)=>∃x,v=str x∧x.length<=100000*P+200),Ie.v _,Ie.v _,Ie.v _,Ie.v _,Ie.q 1 (fun(v:Value)=>∃x,v=str x∧x.length<=100000*P),Ie.p (fun(G:List Nat) (v:Value) (ww:World)=>∃x,v=str x∧x.length<=200000*P+300),Ie.p (fun(G:List Nat) (v:Value) (ww:World)=>∃x,v=str x∧x.length<=200000*P+400)] [4,11] [fun(G:List Nat) (vs:List Value) (ww:World)=>G=[br]∧aj [br] w3 ww∧dD ww br q,fun(G:List Nat) (vs:List Value) (ww:World)=>G=[br]∧aj [br] w3 ww∧dD ww br (q+20*P),fun(G:List Nat) (vs:List Value) (ww:World)=>G=[br]∧aj [br] w3 ww∧dD ww br (q+40*P)] de rfl ((λz hz=>by simp at hz;subst hz;exact h.lt)) (by exact⟨λG v w G' w' h k=>h,λG v w G' w' h k=>h,λG v w G' w' h k=>h,λG v w G' w' h k=>h,trivial⟩) (by exact⟨λG vs w w' ⟨h1,h2,h3⟩ k=>⟨h1,h2.ext k,h3.ext k⟩,λG vs w w' ⟨h1,h2,h3⟩ k=>⟨h1,h2.ext k,h3.ext k⟩,λG vs w w' ⟨h1,h2,h3⟩ k=>⟨h1,h2.ext k,h3.ext k⟩,trivial⟩) (⟨rfl,aj.refl _ _,h⟩)
 refine FA ?_
 refine ve 0 (λx w4 G4 aS ze DA hJ hlen=>?_) ?_
 have aW:=jh hlen
 subst aW
 have cv:=cv.go ze;have ck:=ck.go ze
 obtain⟨bO,bP,h⟩:=hJ
 subst bO
 refine aA (ih ns ts (sP o1) br q _ _ w4 hl om hs om om h cv ck) ?_
 rintro v9 w5 ⟨⟨x9,e9,iB⟩,h,aB⟩
 subst e9
 exact fq ([br]) (Fr.of aB sm) ((λz hz=>lL (DA z hz) aB.size)) (⟨rfl,bP.trans aB,h.more om⟩) (⟨_,rfl,iB⟩)
 refine vf (λx w4 G4 aS ze DA=>?_) ?_
 intro v4 PC d4
 obtain⟨y4,e4,Ci⟩:=d4
 subst e4
 refine gV rfl rfl rfl rfl (by(try simp);omega) ?_
 exact ff (aj.refl _ _) (⟨_,rfl,by simp;omega⟩)
 refine vf (λx w4 G4 aS ze DA=>?_) ?_
 intro v5 d5
 obtain⟨y5,e5,hl5⟩:=d5
 subst e5
 refine gV rfl rfl rfl rfl (by(try simp);omega) ?_
 exact ff (aj.refl _ _) (⟨_,rfl,by simp;omega⟩)
 refine FA ?_
 refine ve 1 (λx w4 G4 aS ze DA hJ hlen=>?_) ?_
 have aQ:=ji hlen
 obtain⟨q0,aW⟩:=aQ
 subst aW
 have cv:=cv.go ze;have ck:=ck.go ze
 obtain⟨bO,bP,h⟩:=hJ
 subst bO
 refine aA (ih ns ts (yq o1) br (q+20*P) _ _ w4 hl om hs om om h cv ck) ?_
 rintro v9 w5 ⟨⟨x9,e9,iB⟩,h,aB⟩
 subst e9
 exact fq ([br]) (Fr.of aB sm) ((λz hz=>lL (DA z hz) aB.size)) (⟨rfl,bP.trans aB,h.more om⟩) (⟨_,rfl,iB⟩)
 refine vf (λx w4 G4 aS ze DA=>?_) ?_
 intro v6 d6
 intro v11 amE d11
 obtain⟨y6,e6,hl6⟩:=d6
 subst e6
 obtain⟨XP,CX,XQ⟩:=d11
 subst CX
 refine gV rfl rfl rfl rfl (by(try simp);omega) ?_
 exact ff (aj.refl _ _) (⟨_,rfl,by simp;omega⟩)
 refine vf (λx w4 G4 aS ze DA=>?_) ?_
 intro v12 d12
 obtain⟨y12,qH,amG⟩:=d12
 subst qH
 refine gV rfl rfl rfl rfl (by(try simp);omega) ?_
 exact ff (aj.refl _ _) (⟨_,rfl,by simp;omega⟩)
 exact trivial
 intro x oZ G43 aS ars art hJ hlen
 have aQ:=k9 hlen
 obtain⟨q0,q1,aW⟩:=aQ
 subst aW
 intro v4 PC d4
 intro v5 d5
 intro v6 d6
 intro v11 amE d11
 intro v12 d12
 intro Hf d13
 change OW _ _ _ _ _ (bo (bj _ x _) (zZ 35 [_,_,_,_,_,_,_,_,_,_,_,_,_,_])) _
 obtain⟨bO,bP,h⟩:=hJ
 subst bO
 obtain⟨yz,ez,Fe⟩:=d13
 subst ez
 refine W ?_
 exact⟨_,rfl,⟨yz,rfl,om⟩,h.more om,hk.trans bP⟩
 refine W ?_
 refine zc rfl (λh2=>?_) (λh2=>?_)
 refine zr<|zm<|pM bh bf rfl rfl rfl rfl rfl λw4 aO amH gQ=>la aO hk h cv ck cg λhk h cv ck cg=>?_
 have lS:=h.lt
 refine aA (mi PA de de br q om _ w4 h (aJ.dK PA amH (λhx=>by simp at hx;omega) de)) ?_
 rintro l8 w5 ⟨⟨fn,amI,gS⟩,h,aB⟩
 subst gS
 have aru:=(show∀x,x∈PA->x.length<=30 from by decide) _ amI
 have hk:=hk.trans aB
 have cv:=cv.aD aB sm;have ck:=ck.aD aB sm;have cg:=cg.aD aB sm
 have lS:=h.lt
 refine W ?_
 refine pM bh bf rfl rfl rfl rfl rfl λw6 bN Cx kI=>la bN hk h cv ck cg λhk h cv ck cg=>?_
 refine aA (mi PB de de br (q+1) om _ w6 h (aJ.dK PB Cx (λhx=>by simp at hx;omega) de)) ?_
 rintro l8 w7 ⟨⟨xn,amJ,gS⟩,h,aB⟩
 subst gS
 have arv:=(show∀x,x∈PB->x.length<=30 from by decide) _ amJ
 have hk:=hk.trans aB
 have cv:=cv.aD aB sm;have ck:=ck.aD aB sm;have cg:=cg.aD aB sm
 have lS:=h.lt
 refine W ?_
 refine aA (KM ns ts xn (sP o2) om om _ _ [br] w7 (λx hx=>by simp at hx;subst hx;exact h.lt) cv ck) ?_
 rintro v8 w8 ⟨Hb,cE⟩
 have AX:=cE.size
 refine la cE hk h cv ck cg λhk h cv ck cg=>?_
 obtain⟨u1,u2,e9,ry,rz⟩:=Hb
 subst e9
 have bZ:=dJ ry
 obtain⟨b1,m1,d1,e1,_⟩:=bZ
 subst e1
 have bZ:=dJ rz
 obtain⟨b2,m2,d2,e2,_⟩:=bZ
 subst e2
 refine dy BY rfl rfl rfl λw9 aB jW NZ=>?_
 have hsb:=h.lt
 have arw:br<w8.heap.size:=hsb
 have arx:w.heap.size<w8.heap.size:=cg.lt
 have ary:w.heap.size<=w8.heap.size:=hk.size
 refine bI aB hk h λhk h=>?_
 have cv:=(bc.fresh cv (L':=w8.heap.size::[br]) (λx hx=>by rcases mC.1 hx with h9|h9;(·right;omega);(·exact .inl h9))).ext aB
 have ck:=(bc.fresh ck (L':=w8.heap.size::[br]) (λx hx=>by rcases mC.1 hx with h9|h9;(·right;omega);(·exact .inl h9))).ext aB
 have ry:=(bc.fresh ry (L':=w8.heap.size::[br]) (λx hx=>by rcases mC.1 hx with h9|h9;(·right;omega);(·exact .inl h9))).ext aB
 have rz:=(bc.fresh rz (L':=w8.heap.size::[br]) (λx hx=>by rcases mC.1 hx with h9|h9;(·right;omega);(·exact .inl h9))).ext aB
 have cg:=(cg.ext aB)
 refine cJ (vs:=[.slice b1 m1 d1,.slice b2 m2 d2]) BY rfl rfl rfl jW rfl λcu cB jW df=>?_
 have hk:=hk.since cB (λx hx=>.inr (by simp at hx;omega))
 have h:=h.aF cB (λx hx=>by simp at hx;omega)
 have cv:=bc.aD cv cB sm
 have ck:=bc.aD ck cB sm
 have ry:=bc.aD ry cB sm
 have rz:=bc.aD rz cB sm
 have cg:dM [br] cu _ _ _:=⟨cg.gX.aF cB so,cg.out⟩
 refine W ?_
 refine aA (lQ 6 de de br (q+2) om cu h) ?_
 rintro v9 eD ⟨⟨z,e9,hz⟩,h,aB⟩
 subst e9
 have ry:=bc.aD ry aB sm
 have rz:=bc.aD rz aB sm
 have jW:=jW.aF aB so
 have hk:=hk.trans aB
 have cv:=cv.aD aB sm;have ck:=ck.aD aB sm;have cg:=cg.aD aB sm
 have lS:=h.lt
 refine W ?_
 refine ix (λg:List ai×List ai×Value×Value=>[(0,.pointer (some ⟨br,0,none⟩)),(12,str (sP o2)),(13,str (yq o2)),(15,.int .i64 (d:Int)),(16,str fn),(17,str xn),(18,.pointer (some ⟨w8.heap.size,0,none⟩))]) (λg ww=>aj [br] w ww∧dD ww br (q+3)∧aJ ww w8.heap.size [g.2.2.1,g.2.2.2].toArray 152∧bc [br] ww g.2.2.1 g.1∧bc [br] ww g.2.2.2 g.2.1∧g.1.length=g.2.1.length∧g.1.length+2*d<=100∧∀x,x∈g.1->x.length<=8000) ?_ ?_
 refine zc rfl (λh3=>?_) (λh3=>?_)
 refine W ?_
 refine aA (KM ns ts fn want om om _ _ (w8.heap.size::[br]) eD (λx hx=>by have:=jW.lt;simp at hx;rcases hx with hx|hx<;>omega) cv ck) ?_
 rintro v12 fA ⟨Hz,di⟩
 have EM:=di.size
 refine cN di hk h jW λhk h jW=>?_
 obtain⟨u3,u4,e9,ry,rz⟩:=Hz
 subst e9
 have bZ:=dJ ry
 obtain⟨b3,m3,d3,e1,_⟩:=bZ
 subst e1
 have bZ:=dJ rz
 obtain⟨b4,m4,d4,e2,_⟩:=bZ
 subst e2
 refine zm<|zm<|aA (KM (ns++[fn]) (ts++[want]) xn (sP o2) so so _ _ (w8.heap.size::[br]) fA (λx hx=>by have:=jW.lt;simp at hx;rcases hx with hx|hx<;>omega) ry rz) ?_
 rintro Hf jB ⟨amL,gv⟩
 have Hp:=gv.size
 refine cN gv hk h jW λhk h jW=>?_
 obtain⟨u5,u6,e9,KQ,KR⟩:=amL
 subst e9
 have bZ:=dJ KQ
 obtain⟨b5,m5,d5,e1,_⟩:=bZ
 subst e1
 have bZ:=dJ KR
 obtain⟨b6,m6,d6,e2,_⟩:=bZ
 subst e2
 refine cJ (vs:=[.slice b5 m5 d5,.slice b6 m6 d6]) BY rfl rfl rfl jW rfl λiG dA jW df=>?_
 have hk:=hk.since dA (λx hx=>.inr (by simp at hx;omega))
 have h:=h.aF dA (λx hx=>by simp at hx;omega)
 have KQ:=bc.aD KQ dA sm
 have KR:=bc.aD KR dA sm
 refine W ?_
 exact⟨((ns++[fn])++[xn],(ts++[want])++[sP o2],_,_),⟨rfl,rfl,rfl,rfl,rfl,rfl,rfl⟩,hk,h,jW,bc.fresh KQ (λx hx=>.inl (by simp at hx;simp[hx])),bc.fresh KR (λx hx=>.inl (by simp at hx;simp[hx])),by simp;omega,by simp;omega,KP (KP hs om) om⟩
 refine WZ ?_
 exact⟨(ns++[xn],ts++[sP o2],_,_),⟨rfl,rfl,rfl,rfl,rfl,rfl,rfl⟩,hk,h,jW,bc.fresh ry (λx hx=>.inl (by simp at hx;simp[hx])),bc.fresh rz (λx hx=>.inl (by simp at hx;simp[hx])),by simp;omega,by simp;omega,KP hs om⟩
 intro gu fA qH hI
 obtain⟨zs,us,p1,p2⟩:=gu
 dsimp only at hI⊢
 obtain⟨hk,h,jW,mB,pK,E8,hzn,xI⟩:=hI
 have bZ:=dJ mB
 obtain⟨b1,m1,d1,e1,_⟩:=bZ
 subst e1
 have bZ:=dJ pK
 obtain⟨b2,m2,d2,e2,_⟩:=bZ
 subst e2
 refine WZ ?_
 refine aA (ih zs us (yq o2) br (q+3) _ _ fA E8 om xI om om h mB pK) ?_
 rintro v9 jB ⟨⟨x9,e9,iB⟩,h,aB⟩
 subst e9
 have hk:=hk.trans aB
 refine W ?_
 exact⟨_,rfl,⟨_,rfl,by simp;omega⟩,h.more om,hk⟩
 refine W ?_
 refine xM (t:=93) rfl (λh4=>?_) (λh4=>?_)
 replace h4:=jk h4
 refine zm<|aA (lQ 3 de de br q om w3 h) ?_
 rintro v9 w4 ⟨⟨z,e9,hz⟩,h,aB⟩
 subst e9
 have hk:=hk.trans aB
 have cv:=cv.aD aB sm;have ck:=ck.aD aB sm;have cg:=cg.aD aB sm
 have lS:=h.lt
 refine W ?_
 refine zc rfl (λh5=>?_) (λh5=>?_)
 refine WZ ?_
 apply jF dj ([br]) 17 (rA 98 17) (rA 98 17) [[],[],[0,1],[2],[3],[],[],[],[5,6,7],[4,8],[9],[],[],[],[11,12,13],[10,14],[15]] [Ie.v _,Ie.p (fun(G:List Nat) (v:Value) (ww:World)=>bc G ww v KO),Ie.q 0 (fun(v:Value)=>∃x,v=str x∧x.length<=30),Ie.p (fun(G:List Nat) (v:Value) (ww:World)=>∃x,v=str x∧x.length<=40),Ie.p (fun(G:List Nat) (v:Value) (ww:World)=>∃x,v=str x∧x.length<=50),Ie.v _,Ie.v _,Ie.v _,Ie.q 1 (fun(v:Value)=>∃x,v=str x∧x.length<=100000*P),Ie.p (fun(G:List Nat) (v:Value) (ww:World)=>∃x,v=str x∧x.length<=100000*P+100),Ie.p (fun(G:List Nat) (v:Value) (ww:World)=>∃x,v=str x∧x.length<=100000*P+200),Ie.v _,Ie.v _,Ie.v _,Ie.q 2 (fun(v:Value)=>∃x,v=str x∧x.length<=100000*P),Ie.p (fun(G:List Nat) (v:Value) (ww:World)=>∃x,v=str x∧x.length<=200000*P+300),Ie.p (fun(G:List Nat) (v:Value) (ww:World)=>∃x,v=str x∧x.length<=200000*P+400)] [2,8,14] [fun(G:List Nat) (vs:List Value) (ww:World)=>G=[br]∧aj [br] w4 ww∧dD ww br (q+1),fun(G:List Nat) (vs:List Value) (ww:World)=>G=[br]∧aj [br] w4 ww∧dD ww br (q+2),fun(G:List Nat) (vs:List Value) (ww:World)=>G=[br]∧aj [br] w4 ww∧dD ww br (q+2+20*P),fun(G:List Nat) (vs:List Value) (ww:World)=>G=[br]∧aj [br] w4 ww∧dD ww br (q+2+40*P)] de rfl ((λz hz=>by simp at hz;subst hz;exact h.lt)) (by exact⟨λG v w G' w' h k=>bc.go h k,λG v w G' w' h k=>h,λG v w G' w' h k=>h,λG v w G' w' h k=>h,λG v w G' w' h k=>h,λG v w G' w' h k=>h,λG v w G' w' h k=>h,trivial⟩) (by exact⟨λG vs w w' ⟨h1,h2,h3⟩ k=>⟨h1,h2.ext k,h3.ext k⟩,λG vs w w' ⟨h1,h2,h3⟩ k=>⟨h1,h2.ext k,h3.ext k⟩,λG vs w w' ⟨h1,h2,h3⟩ k=>⟨h1,h2.ext k,h3.ext k⟩,λG vs w w' ⟨h1,h2,h3⟩ k=>⟨h1,h2.ext k,h3.ext k⟩,trivial⟩) (⟨rfl,aj.refl _ _,h⟩)
 refine FA ?_
 refine vf (λx w5 G5 aS pT th=>?_) ?_
 refine pM bh bf rfl rfl rfl rfl rfl λw6 bN Oc kI=>?_
 exact ff bN ((aJ.dK KO Oc (λhx=>by have:=th _ hx;omega) de))
 refine ve 0 (λx w5 G5 aS pT th hJ hlen=>?_) ?_
 have aW:=jh hlen
 subst aW
 intro v1 d1
 obtain⟨bO,bP,h⟩:=hJ
 subst bO
 refine aA (mi KO de de br (q+1) om _ w5 h d1) ?_
 rintro l8 w6 ⟨⟨x9,iB,gS⟩,h,aB⟩
 subst gS
 have eu:=(show∀x,x∈KO->x.length<=30 from by decide) _ iB
 exact fq ([br]) (Fr.of aB sm) ((λz hz=>lL (th z hz) aB.size)) (⟨rfl,bP.trans aB,h⟩) (⟨_,rfl,eu⟩)
 refine vf (λx w5 G5 aS pT th=>?_) ?_
 intro v2 nY d2
 obtain⟨y2,e2,iy⟩:=d2
 subst e2
 refine gV rfl rfl rfl rfl (by(try simp);omega) ?_
 exact ff (aj.refl _ _) (⟨_,rfl,by simp;omega⟩)
 refine vf (λx w5 G5 aS pT th=>?_) ?_
 intro v3 d3
 obtain⟨y3,e3,wR⟩:=d3
 subst e3
 refine gV rfl rfl rfl rfl (by(try simp);omega) ?_
 exact ff (aj.refl _ _) (⟨_,rfl,by simp;omega⟩)
 refine FA ?_
 refine ve 1 (λx w5 G5 aS pT th hJ hlen=>?_) ?_
 have aQ:=ji hlen
 obtain⟨q0,aW⟩:=aQ
 subst aW
 have cv:=cv.go pT;have ck:=ck.go pT
 obtain⟨bO,bP,h⟩:=hJ
 subst bO
 refine aA (ih ns ts ([105]) br (q+2) _ _ w5 hl om hs so om h cv ck) ?_
 rintro v9 w6 ⟨⟨x9,e9,iB⟩,h,aB⟩
 subst e9
 exact fq ([br]) (Fr.of aB sm) ((λz hz=>lL (th z hz) aB.size)) (⟨rfl,bP.trans aB,h.more om⟩) (⟨_,rfl,iB⟩)
 refine vf (λx w5 G5 aS pT th=>?_) ?_
 intro v4 d4
 intro v8 hq8 d8
 obtain⟨y4,e4,Ci⟩:=d4
 subst e4
 obtain⟨y8,e8,hl8⟩:=d8
 subst e8
 refine gV rfl rfl rfl rfl (by(try simp);omega) ?_
 exact ff (aj.refl _ _) (⟨_,rfl,by simp;omega⟩)
 refine vf (λx w5 G5 aS pT th=>?_) ?_
 intro v9 d9
 obtain⟨y9,e9,eu⟩:=d9
 subst e9
 refine gV rfl rfl rfl rfl (by(try simp);omega) ?_
 exact ff (aj.refl _ _) (⟨_,rfl,by simp;omega⟩)
 refine FA ?_
 refine ve 2 (λx w5 G5 aS pT th hJ hlen=>?_) ?_
 have aQ:=k9 hlen
 obtain⟨q0,q1,aW⟩:=aQ
 subst aW
 have cv:=cv.go pT;have ck:=ck.go pT
 obtain⟨bO,bP,h⟩:=hJ
 subst bO
 refine aA (ih ns ts ([105]) br (q+2+20*P) _ _ w5 hl om hs so om h cv ck) ?_
 rintro v9 w6 ⟨⟨x9,e9,iB⟩,h,aB⟩
 subst e9
 exact fq ([br]) (Fr.of aB sm) ((λz hz=>lL (th z hz) aB.size)) (⟨rfl,bP.trans aB,h.more om⟩) (⟨_,rfl,iB⟩)
 refine vf (λx w5 G5 aS pT th=>?_) ?_
 intro v10 d10
 intro l8 amO d14
 obtain⟨KT,fo,EH⟩:=d10
 subst fo
 obtain⟨y14,gS,arB⟩:=d14
 subst gS
 refine gV rfl rfl rfl rfl (by(try simp);omega) ?_
 exact ff (aj.refl _ _) (⟨_,rfl,by simp;omega⟩)
 refine vf (λx w5 G5 aS pT th=>?_) ?_
 intro A1 d15
 obtain⟨y15,EL,arD⟩:=d15
 subst EL
 refine gV rfl rfl rfl rfl (by(try simp);omega) ?_
 exact ff (aj.refl _ _) (⟨_,rfl,by simp;omega⟩)
 exact trivial
 intro x o6 G44 aS arF arG hJ hlen
 have aQ:=Aj hlen
 obtain⟨q0,q1,q2,aW⟩:=aQ
 subst aW
 intro v1 d1
 intro v2 nY d2
 intro v3 d3
 intro v4 d4
 intro v8 hq8 d8
 intro v9 d9
 intro v10 d10
 intro l8 amO d14
 intro A1 d15
 intro CE d16
 change OW _ _ _ _ _ (bo (bj _ x _) (zZ 98 [_,_,_,_,_,_,_,_,_,_,_,_,_,_,_,_,_])) _
 obtain⟨bO,bP,h⟩:=hJ
 subst bO
 obtain⟨yz,ez,Fe⟩:=d16
 subst ez
 refine W ?_
 exact⟨_,rfl,⟨yz,rfl,om⟩,h.more om,hk.trans bP⟩
 refine W ?_
 refine aA (Px ns ts want hl om hs br (q+1) om _ _ w4 h cv ck) ?_
 rintro v9 w5 ⟨⟨x9,e9,iB⟩,h,aB⟩
 subst e9
 refine W ?_
 exact⟨_,rfl,⟨x9,rfl,om⟩,h.more om,hk.trans aB⟩
 replace h4:=jk h4
 refine W ?_
 refine zc rfl (λh6=>?_) (λh6=>?_)
 simp at h6
 refine W ?_
 refine aA (Px ns ts want hl om hs br q om _ _ w3 h cv ck) ?_
 rintro v9 w4 ⟨⟨x9,e9,iB⟩,h,aB⟩
 subst e9
 refine W ?_
 exact⟨_,rfl,⟨x9,rfl,om⟩,h.more om,hk.trans aB⟩
theorem amP:H3 0 1:=by
 intro ns ts want br q v1 v2 w hl CI hs hw hq h cv ck
 obtain⟨a1,n1,c1,rfl,fx⟩:=dJ cv
 obtain⟨a2,n2,c2,rfl,eU⟩:=dJ ck
 subst fx
 subst eU
 have iq:=h.lt
 have hk:=aj.refl [br] w
 refine bS [.tmp 8] 130 Tryz.func132 rfl RR rfl rfl ?_
 refine zr<|eH rfl λw1 aI cg dk=>ie aI hk h cv ck λhk h cv ck=>?_
 refine W ?_
 refine zc rfl (λh1=>?_) (λh1=>?_)
 refine W ?_
 refine aA (Px ns ts want hl om hs br q om _ _ w1 h cv ck) ?_
 rintro v9 w2 ⟨⟨x9,e9,iB⟩,h,aB⟩
 subst e9
 refine W ?_
 exact⟨_,rfl,⟨x9,rfl,om⟩,h.more om,hk.trans aB⟩
 simp at h1
theorem amQ (d P:Nat) (hd:d<=10) (hP:1<=P) (XO:P<=1000000) (ih:H3 d P):H3 (d+1) (4*P):=by
 have hB:=amC d P hd hP XO ih
 intro ns ts want br q v1 v2 w hl CI hs hw hq h cv ck
 obtain⟨a1,n1,c1,rfl,fx⟩:=dJ cv
 obtain⟨a2,n2,c2,rfl,eU⟩:=dJ ck
 subst fx
 subst eU
 have iq:=h.lt
 have hk:=aj.refl [br] w
 refine bS [.tmp 8] 130 Tryz.func132 rfl RR rfl rfl ?_
 refine zr<|eH rfl λw1 aI cg dk=>ie aI hk h cv ck λhk h cv ck=>?_
 refine W ?_
 refine zc rfl (λh1=>?_) (λh1=>?_)
 simp at h1;omega
 have cg:dM [br] w1 w.heap.size _ _:=⟨cg,by simp;omega⟩
 refine gY<|zr<|zm<|xK rfl rfl rfl rfl rfl (kQ d om _ om)<|zA<|aZ<|jL<|zr<|zm<|aA (lQ 12 de de br q om w1 h) ?_
 rintro v9 w2 ⟨⟨z,e9,hz⟩,h,aB⟩
 subst e9
 have hk:=hk.trans aB
 have cv:=cv.aD aB sm;have ck:=ck.aD aB sm;have cg:=cg.aD aB sm
 have lS:=h.lt
 refine W ?_
 refine zc rfl (λh2=>?_) (λh2=>?_)
 refine WZ ?_
 apply jF dj ([br]) 20 (rA 25 20) (rA 25 20) [[],[],[],[0,1,2],[3],[4],[],[],[],[],(rA 6 4),[5,10],[11],[],[],[],[],(rA 13 4),[12,17],[18]] [Ie.v _,Ie.v _,Ie.v _,Ie.q 0 (fun(v:Value)=>∃x,v=str x∧x.length<=100000*P),Ie.p (fun(G:List Nat) (v:Value) (ww:World)=>∃x,v=str x∧x.length<=100000*P+100),Ie.p (fun(G:List Nat) (v:Value) (ww:World)=>∃x,v=str x∧x.length<=100000*P+200),Ie.v _,Ie.v _,Ie.v _,Ie.v _,Ie.q 1 (fun(v:Value)=>∃x,v=str x∧x.length<=100000*P),Ie.p (fun(G:List Nat) (v:Value) (ww:World)=>∃x,v=str x∧x.length<=200000*P+300),Ie.p (fun(G:List Nat) (v:Value) (ww:World)=>∃x,v=str x∧x.length<=200000*P+400),Ie.v _,Ie.v _,Ie.v _,Ie.v _,Ie.q 2 (fun(v:Value)=>∃x,v=str x∧x.length<=100000*P),Ie.p (fun(G:List Nat) (v:Value) (ww:World)=>∃x,v=str x∧x.length<=300000*P+500),Ie.p (fun(G:List Nat) (v:Value) (ww:World)=>∃x,v=str x∧x.length<=300000*P+600)] [3,10,17] [fun(G:List Nat) (vs:List Value) (ww:World)=>G=[br]∧aj [br] w2 ww∧dD ww br (q+1),fun(G:List Nat) (vs:List Value) (ww:World)=>G=[br]∧aj [br] w2 ww∧dD ww br (q+1+20*P),fun(G:List Nat) (vs:List Value) (ww:World)=>G=[br]∧aj [br] w2 ww∧dD ww br (q+1+40*P),fun(G:List Nat) (vs:List Value) (ww:World)=>G=[br]∧aj [br] w2 ww∧dD ww br (q+1+60*P)] de rfl ((λz hz=>by simp at hz;subst hz;exact h.lt)) (by exact⟨λG v w G' w' h k=>h,λG v w G' w' h k=>h,λG v w G' w' h k=>h,λG v w G' w' h k=>h,λG v w G' w' h k=>h,λG v w G' w' h k=>h,trivial⟩) (by exact⟨λG vs w w' ⟨h1,h2,h3⟩ k=>⟨h1,h2.ext k,h3.ext k⟩,λG vs w w' ⟨h1,h2,h3⟩ k=>⟨h1,h2.ext k,h3.ext k⟩,λG vs w w' ⟨h1,h2,h3⟩ k=>⟨h1,h2.ext k,h3.ext k⟩,λG vs w w' ⟨h1,h2,h3⟩ k=>⟨h1,h2.ext k,h3.ext k⟩,trivial⟩) (⟨rfl,aj.refl _ _,h⟩)
 refine FA ?_
 refine ve 0 (λx w3 G3 aS jo kr hJ hlen=>?_) ?_
 have aW:=jh hlen
 subst aW
 have cv:=cv.go jo;have ck:=ck.go jo
 obtain⟨bO,bP,h⟩:=hJ
 subst bO
 refine aA (ih ns ts ([105]) br (q+1) _ _ w3 hl om hs so om h cv ck) ?_
 rintro v9 w4 ⟨⟨x9,e9,iB⟩,h,aB⟩
 subst e9
 exact fq ([br]) (Fr.of aB sm) ((λz hz=>lL (kr z hz) aB.size)) (⟨rfl,bP.trans aB,h.more om⟩) (⟨_,rfl,iB⟩)
 refine vf (λx w3 G3 aS jo kr=>?_) ?_
 intro v3 Jw d3
 obtain⟨y3,e3,wR⟩:=d3
 subst e3
 refine gV rfl rfl rfl rfl (by(try simp);omega) ?_
 exact ff (aj.refl _ _) (⟨_,rfl,by simp;omega⟩)
 refine vf (λx w3 G3 aS jo kr=>?_) ?_
 intro v4 d4
 obtain⟨y4,e4,Ci⟩:=d4
 subst e4
 refine gV rfl rfl rfl rfl (by(try simp);omega) ?_
 exact ff (aj.refl _ _) (⟨_,rfl,by simp;omega⟩)
 refine FA ?_
 refine ve 1 (λx w3 G3 aS jo kr hJ hlen=>?_) ?_
 have aQ:=ji hlen
 obtain⟨q0,aW⟩:=aQ
 subst aW
 have cv:=cv.go jo;have ck:=ck.go jo
 obtain⟨bO,bP,h⟩:=hJ
 subst bO
 refine aA (ih ns ts want br (q+1+20*P) _ _ w3 hl om hs om om h cv ck) ?_
 rintro v9 w4 ⟨⟨x9,e9,iB⟩,h,aB⟩
 subst e9
 exact fq ([br]) (Fr.of aB sm) ((λz hz=>lL (kr z hz) aB.size)) (⟨rfl,bP.trans aB,h.more om⟩) (⟨_,rfl,iB⟩)
 refine vf (λx w3 G3 aS jo kr=>?_) ?_
 intro v5 d5
 intro v10 XR d10
 obtain⟨y5,e5,hl5⟩:=d5
 subst e5
 obtain⟨KT,fo,EH⟩:=d10
 subst fo
 refine gV rfl rfl rfl rfl (by(try simp);omega) ?_
 exact ff (aj.refl _ _) (⟨_,rfl,by simp;omega⟩)
 refine vf (λx w3 G3 aS jo kr=>?_) ?_
 intro v11 d11
 obtain⟨XP,CX,XQ⟩:=d11
 subst CX
 refine gV rfl rfl rfl rfl (by(try simp);omega) ?_
 exact ff (aj.refl _ _) (⟨_,rfl,by simp;omega⟩)
 refine FA ?_
 refine ve 2 (λx w3 G3 aS jo kr hJ hlen=>?_) ?_
 have aQ:=k9 hlen
 obtain⟨q0,q1,aW⟩:=aQ
 subst aW
 have cv:=cv.go jo;have ck:=ck.go jo
 obtain⟨bO,bP,h⟩:=hJ
 subst bO
 refine aA (ih ns ts want br (q+1+40*P) _ _ w3 hl om hs om om h cv ck) ?_
 rintro v9 w4 ⟨⟨x9,e9,iB⟩,h,aB⟩
 subst e9
 exact fq ([br]) (Fr.of aB sm) ((λz hz=>lL (kr z hz) aB.size)) (⟨rfl,bP.trans aB,h.more om⟩) (⟨_,rfl,iB⟩)
 refine vf (λx w3 G3 aS jo kr=>?_) ?_
 intro v12 d12
 intro jC PD d17
 obtain⟨y12,qH,amG⟩:=d12
 subst qH
 obtain⟨XS,rY,XT⟩:=d17
 subst rY
 refine gV rfl rfl rfl rfl (by(try simp);omega) ?_
 exact ff (aj.refl _ _) (⟨_,rfl,by simp;omega⟩)
 refine vf (λx w3 G3 aS jo kr=>?_) ?_
 intro xl d18
 obtain⟨y18,vH,N0⟩:=d18
 subst vH
 refine gV rfl rfl rfl rfl (by(try simp);omega) ?_
 exact ff (aj.refl _ _) (⟨_,rfl,by simp;omega⟩)
 exact trivial
 intro x qx GS aS EA Nq hJ hlen
 have aQ:=Aj hlen
 obtain⟨q0,q1,q2,aW⟩:=aQ
 subst aW
 intro v3 Jw d3
 intro v4 d4
 intro v5 d5
 intro v10 XR d10
 intro v11 d11
 intro v12 d12
 intro jC PD d17
 intro xl d18
 intro Kd d19
 change OW _ _ _ _ _ (bo (bj _ x _) (zZ 25 [_,_,_,_,_,_,_,_,_,_,_,_,_,_,_,_,_,_,_,_])) _
 obtain⟨bO,bP,h⟩:=hJ
 subst bO
 obtain⟨yz,ez,Fe⟩:=d19
 subst ez
 refine W ?_
 exact⟨_,rfl,⟨yz,rfl,om⟩,h.more om,hk.trans bP⟩
 refine W ?_
 refine ix (λb:Bool=>[(0,.pointer (some ⟨br,0,none⟩)),(2,str want),(3,.int .i64 ((d+1:Nat):Int)),(5,.pointer (some ⟨w.heap.size,0,none⟩)),(9,.int .i64 (d:Int)),(22,.int .i64 (z:Int)),(45,.bool b)]) (λb ww=>ww=w2) ?_ ?_
 refine zc rfl (λh3=>?_) (λh3=>?_)
 refine WZ ?_
 exact⟨_,⟨rfl,rfl,rfl,rfl,rfl,rfl,rfl⟩,rfl⟩
 refine W ?_
 exact⟨_,⟨rfl,rfl,rfl,rfl,rfl,rfl,rfl⟩,rfl⟩
 intro gu w3 e3 hI
 have PE:w3=_:=hI
 subst PE
 refine zc rfl (λh4=>?_) (λh4=>?_)
 refine zr<|zm<|aA (Pv 1 de br (q+1) om w3 h) ?_
 rintro v9 w4 ⟨⟨T,e9,hT⟩,h,aB⟩
 subst e9
 have XU:=T.len
 have hT:T.n+1<=4:=hT
 have h:=h.more (show _<=q+5 from om)
 have hk:=hk.trans aB
 have cv:=cv.aD aB sm;have ck:=ck.aD aB sm;have cg:=cg.aD aB sm
 have lS:=h.lt
 refine W ?_
 refine Tq bh bf rfl rfl rfl rfl rfl rfl rfl λw5 aN Ob ig=>la aN cv ck cg h hk λcv ck cg h hk=>?_
 refine aA (mi Pz de de br (q+5) om _ w5 h (aJ.dK Pz Ob (λhx=>by simp at hx;omega) de)) ?_
 rintro l8 w6 ⟨⟨nm,amS,gS⟩,h,aB⟩
 subst gS
 have arH:=(show∀x,x∈Pz->x.length<=30 from by decide) _ amS
 have hk:=hk.trans aB
 have cv:=cv.aD aB sm;have ck:=ck.aD aB sm;have cg:=cg.aD aB sm
 have lS:=h.lt
 refine W ?_
 apply jF dj ([br]) 20 (rA 53 20) (rA 53 20) [[],[0],[1],[],[],[],[],(rA 3 4),[2,7],[8],[],[],[],[],[11,12,13],[],[],[10,14,15,16],[9,17],[18]] [Ie.v _,Ie.v _,Ie.v _,Ie.v _,Ie.v _,Ie.v _,Ie.v _,Ie.q 0 (fun(v:Value)=>∃x,v=str x∧x.length<=100000*P),Ie.p (fun(G:List Nat) (v:Value) (ww:World)=>∃x,v=str x∧x.length<=100000*P+200),Ie.p (fun(G:List Nat) (v:Value) (ww:World)=>∃x,v=str x∧x.length<=100000*P+300),Ie.v _,Ie.v _,Ie.v _,Ie.v _,Ie.e 1,Ie.v _,Ie.v _,Ie.q 2 (fun(v:Value)=>∃x,v=str x∧x.length<=100000*P),Ie.p (fun(G:List Nat) (v:Value) (ww:World)=>∃x,v=str x∧x.length<=200000*P+400),Ie.p (fun(G:List Nat) (v:Value) (ww:World)=>∃x,v=str x∧x.length<=200000*P+500)] [7,14,17] [fun(G:List Nat) (vs:List Value) (ww:World)=>G=[br]∧aj [br] w6 ww∧dD ww br (q+6),fun(G:List Nat) (vs:List Value) (ww:World)=>G=[br]∧aj [br] w6 ww∧dD ww br (q+6+20*P),fun(G:List Nat) (vs:List Value) (ww:World)=>G=[br]∧aj [br] w6 ww∧dD ww br (q+6+20*P)∧∃u1 u2,vs.getD 1 undef= .agg #[u1,u2]∧bc [br] ww u1 (ns++[nm])∧bc [br] ww u2 (ts++[T.text]),fun(G:List Nat) (vs:List Value) (ww:World)=>G=[br]∧aj [br] w6 ww∧dD ww br (q+6+40*P)] de rfl ((λz hz=>by simp at hz;subst hz;exact h.lt)) (by exact⟨λG v w G' w' h k=>h,λG v w G' w' h k=>h,λG v w G' w' h k=>h,λG v w G' w' h k=>h,trivial⟩) (by exact⟨λG vs w w' ⟨h1,h2,h3⟩ k=>⟨h1,h2.ext k,h3.ext k⟩,λG vs w w' ⟨h1,h2,h3⟩ k=>⟨h1,h2.ext k,h3.ext k⟩,λG vs w w' ⟨h1,h2,h3,u1,u2,e,g1,g2⟩ k=>⟨h1,h2.ext k,h3.ext k,u1,u2,e,g1.ext k,g2.ext k⟩,λG vs w w' ⟨h1,h2,h3⟩ k=>⟨h1,h2.ext k,h3.ext k⟩,trivial⟩) (⟨rfl,aj.refl _ _,h⟩)
 refine FA ?_
 refine ve 0 (λx w7 G7 aS mQ lj hJ hlen=>?_) ?_
 have aW:=jh hlen
 subst aW
 have cv:=cv.go mQ;have ck:=ck.go mQ
 obtain⟨bO,bP,h⟩:=hJ
 subst bO
 refine aA (ih ns ts T.text br (q+6) _ _ w7 hl om hs om om h cv ck) ?_
 rintro v9 w8 ⟨⟨x9,e9,iB⟩,h,aB⟩
 subst e9
 exact fq ([br]) (Fr.of aB sm) ((λz hz=>lL (lj z hz) aB.size)) (⟨rfl,bP.trans aB,h.more om⟩) (⟨_,rfl,iB⟩)
 refine vf (λx w7 G7 aS mQ lj=>?_) ?_
 intro v7 hq7 d7
 obtain⟨y7,e7,Vh⟩:=d7
 subst e7
 refine gV rfl rfl rfl rfl (by(try simp);omega) ?_
 exact ff (aj.refl _ _) (⟨_,rfl,by simp;omega⟩)
 refine vf (λx w7 G7 aS mQ lj=>?_) ?_
 intro v8 d8
 obtain⟨y8,e8,hl8⟩:=d8
 subst e8
 refine gV rfl rfl rfl rfl (by(try simp);omega) ?_
 exact ff (aj.refl _ _) (⟨_,rfl,by simp;omega⟩)
 refine FA ?_
 refine ve 1 (λx w7 G7 aS mQ lj hJ hlen=>?_) ?_
 have aQ:=ji hlen
 obtain⟨q0,aW⟩:=aQ
 subst aW
 have cv:=cv.go mQ;have ck:=ck.go mQ
 obtain⟨bO,bP,h⟩:=hJ
 subst bO
 refine aA (KM ns ts nm T.text om om _ _ [br] w7 (λx hx=>by simp at hx;subst hx;exact h.lt) cv ck) ?_
 rintro v9 w8 ⟨⟨u1,u2,e9,ry,rz⟩,aB⟩
 subst e9
 exact fe ([br]) (Fr.of aB sm) ((λz hz=>lL (lj z hz) aB.size)) (⟨rfl,bP.ext aB,h.ext aB,u1,u2,rfl,ry,rz⟩)
 refine FA ?_
 refine ve 2 (λx w7 G7 aS mQ lj hJ hlen=>?_) ?_
 have aQ:=k9 hlen
 obtain⟨q0,q1,aW⟩:=aQ
 subst aW
 obtain⟨bO,bP,h,u1,u2,e1,ry,rz⟩:=hJ
 subst bO
 have e2:q1=_:=e1
 subst e2
 refine aA (ih (ns++[nm]) (ts++[T.text]) want br (q+6+20*P) _ _ w7 so so (KP hs om) om om h ry rz) ?_
 rintro v9 w8 ⟨⟨x9,e9,iB⟩,h,aB⟩
 subst e9
 exact fq ([br]) (Fr.of aB sm) ((λz hz=>lL (lj z hz) aB.size)) (⟨rfl,bP.trans aB,h.more om⟩) (⟨_,rfl,iB⟩)
 refine vf (λx w7 G7 aS mQ lj=>?_) ?_
 intro v9 d9
 intro jC PD d17
 obtain⟨y9,e9,eu⟩:=d9
 subst e9
 obtain⟨XS,rY,XT⟩:=d17
 subst rY
 refine gV rfl rfl rfl rfl (by(try simp);omega) ?_
 exact ff (aj.refl _ _) (⟨_,rfl,by simp;omega⟩)
 refine vf (λx w7 G7 aS mQ lj=>?_) ?_
 intro xl d18
 obtain⟨y18,vH,N0⟩:=d18
 subst vH
 refine gV rfl rfl rfl rfl (by(try simp);omega) ?_
 exact ff (aj.refl _ _) (⟨_,rfl,by simp;omega⟩)
 exact trivial
 intro x r5 J8 aS xo J9 hJ hlen
 have aQ:=Aj hlen
 obtain⟨q0,q1,q2,aW⟩:=aQ
 subst aW
 intro v7 hq7 d7
 intro v8 d8
 intro v9 d9
 intro jC PD d17
 intro xl d18
 intro Kd d19
 change OW _ _ _ _ _ (bo (bj _ x _) (zZ 53 [_,_,_,_,_,_,_,_,_,_,_,_,_,_,_,_,_,_,_,_])) _
 obtain⟨bO,bP,h⟩:=hJ
 subst bO
 obtain⟨yz,ez,Fe⟩:=d19
 subst ez
 refine W ?_
 exact⟨_,rfl,⟨yz,rfl,om⟩,h.more om,hk.trans bP⟩
 refine W ?_
 refine ix (λb:Bool=>[(0,.pointer (some ⟨br,0,none⟩)),(2,str want),(3,.int .i64 ((d+1:Nat):Int)),(5,.pointer (some ⟨w.heap.size,0,none⟩)),(9,.int .i64 (d:Int)),(22,.int .i64 (z:Int)),(73,.bool b)]) (λb ww=>ww=w3) ?_ ?_
 refine zc rfl (λh5=>?_) (λh5=>?_)
 refine WZ ?_
 exact⟨_,⟨rfl,rfl,rfl,rfl,rfl,rfl,rfl⟩,rfl⟩
 refine W ?_
 exact⟨_,⟨rfl,rfl,rfl,rfl,rfl,rfl,rfl⟩,rfl⟩
 intro gu w4 e4 hI
 have PE:w4=_:=hI
 subst PE
 refine zc rfl (λh6=>?_) (λh6=>?_)
 refine zr<|zm<|aA (Pv 1 de br (q+1) om w4 h) ?_
 rintro v9 w5 ⟨⟨T,e9,hT⟩,h,aB⟩
 subst e9
 have XU:=T.len
 have hT:T.n+1<=4:=hT
 have h:=h.more (show _<=q+5 from om)
 have hk:=hk.trans aB
 have cv:=cv.aD aB sm;have ck:=ck.aD aB sm;have cg:=cg.aD aB sm
 have lS:=h.lt
 refine W ?_
 apply jF dj ([br]) 19 (rA 78 19) (rA 78 19) [[],[],[],[2],[3],[],[4,5],[6],[],[0,1,7,8],[9],[10],[],[],[],[],(rA 12 4),[11,16],[17]] [Ie.v _,Ie.v _,Ie.v _,Ie.v _,Ie.v _,Ie.v _,Ie.v _,Ie.v _,Ie.v _,Ie.q 0 (fun(v:Value)=>∃x,v=str x∧x.length<=100000*P),Ie.p (fun(G:List Nat) (v:Value) (ww:World)=>∃x,v=str x∧x.length<=100000*P+200),Ie.p (fun(G:List Nat) (v:Value) (ww:World)=>∃x,v=str x∧x.length<=100000*P+300),Ie.v _,Ie.v _,Ie.v _,Ie.v _,Ie.q 1 (fun(v:Value)=>∃x,v=str x∧x.length<=100000*P),Ie.p (fun(G:List Nat) (v:Value) (ww:World)=>∃x,v=str x∧x.length<=200000*P+400),Ie.p (fun(G:List Nat) (v:Value) (ww:World)=>∃x,v=str x∧x.length<=200000*P+500)] [9,16] [fun(G:List Nat) (vs:List Value) (ww:World)=>G=[br]∧aj [br] w5 ww∧dD ww br (q+5),fun(G:List Nat) (vs:List Value) (ww:World)=>G=[br]∧aj [br] w5 ww∧dD ww br (q+5+20*P),fun(G:List Nat) (vs:List Value) (ww:World)=>G=[br]∧aj [br] w5 ww∧dD ww br (q+5+40*P)] de rfl ((λz hz=>by simp at hz;subst hz;exact h.lt)) (by exact⟨λG v w G' w' h k=>h,λG v w G' w' h k=>h,λG v w G' w' h k=>h,λG v w G' w' h k=>h,trivial⟩) (by exact⟨λG vs w w' ⟨h1,h2,h3⟩ k=>⟨h1,h2.ext k,h3.ext k⟩,λG vs w w' ⟨h1,h2,h3⟩ k=>⟨h1,h2.ext k,h3.ext k⟩,λG vs w w' ⟨h1,h2,h3⟩ k=>⟨h1,h2.ext k,h3.ext k⟩,trivial⟩) (⟨rfl,aj.refl _ _,h⟩)
 refine FA ?_
 refine ve 0 (λx w6 G6 aS zg DB hJ hlen=>?_) ?_
 have aW:=jh hlen
 subst aW
 have cv:=cv.go zg;have ck:=ck.go zg
 obtain⟨bO,bP,h⟩:=hJ
 subst bO
 refine aA (ih ns ts (((([40,62,32]++T.text)++[32])++want)++[41]) br (q+5) _ _ w6 hl om hs so om h cv ck) ?_
 rintro v9 w7 ⟨⟨x9,e9,iB⟩,h,aB⟩
 subst e9
 exact fq ([br]) (Fr.of aB sm) ((λz hz=>lL (DB z hz) aB.size)) (⟨rfl,bP.trans aB,h.more om⟩) (⟨_,rfl,iB⟩)
 refine vf (λx w6 G6 aS zg DB=>?_) ?_
 intro v9 HL d9
 obtain⟨y9,e9,eu⟩:=d9
 subst e9
 refine gV rfl rfl rfl rfl (by(try simp);omega) ?_
 exact ff (aj.refl _ _) (⟨_,rfl,by simp;omega⟩)
 refine vf (λx w6 G6 aS zg DB=>?_) ?_
 intro v10 d10
 obtain⟨KT,fo,EH⟩:=d10
 subst fo
 refine gV rfl rfl rfl rfl (by(try simp);omega) ?_
 exact ff (aj.refl _ _) (⟨_,rfl,by simp;omega⟩)
 refine FA ?_
 refine ve 1 (λx w6 G6 aS zg DB hJ hlen=>?_) ?_
 have aQ:=ji hlen
 obtain⟨q0,aW⟩:=aQ
 subst aW
 have cv:=cv.go zg;have ck:=ck.go zg
 obtain⟨bO,bP,h⟩:=hJ
 subst bO
 refine aA (ih ns ts T.text br (q+5+20*P) _ _ w6 hl om hs om om h cv ck) ?_
 rintro v9 w7 ⟨⟨x9,e9,iB⟩,h,aB⟩
 subst e9
 exact fq ([br]) (Fr.of aB sm) ((λz hz=>lL (DB z hz) aB.size)) (⟨rfl,bP.trans aB,h.more om⟩) (⟨_,rfl,iB⟩)
 refine vf (λx w6 G6 aS zg DB=>?_) ?_
 intro v11 d11
 intro CE amU d16
 obtain⟨XP,CX,XQ⟩:=d11
 subst CX
 obtain⟨y16,Bi,arJ⟩:=d16
 subst Bi
 refine gV rfl rfl rfl rfl (by(try simp);omega) ?_
 exact ff (aj.refl _ _) (⟨_,rfl,by simp;omega⟩)
 refine vf (λx w6 G6 aS zg DB=>?_) ?_
 intro jC d17
 obtain⟨XS,rY,XT⟩:=d17
 subst rY
 refine gV rfl rfl rfl rfl (by(try simp);omega) ?_
 exact ff (aj.refl _ _) (⟨_,rfl,by simp;omega⟩)
 exact trivial
 intro x qw G45 aS arL arM hJ hlen
 have aQ:=k9 hlen
 obtain⟨q0,q1,aW⟩:=aQ
 subst aW
 intro v9 HL d9
 intro v10 d10
 intro v11 d11
 intro CE amU d16
 intro jC d17
 intro xl d18
 change OW _ _ _ _ _ (bo (bj _ x _) (zZ 78 [_,_,_,_,_,_,_,_,_,_,_,_,_,_,_,_,_,_,_])) _
 obtain⟨bO,bP,h⟩:=hJ
 subst bO
 obtain⟨yz,ez,Fe⟩:=d18
 subst ez
 refine W ?_
 exact⟨_,rfl,⟨yz,rfl,om⟩,h.more om,hk.trans bP⟩
 refine W ?_
 refine zc rfl (λh7=>?_) (λh7=>?_)
 refine W ?_
 refine aA (ih ns ts (([40,42,32]++want)++[32,105,41]) br (q+1) _ _ w4 hl om hs so om h cv ck) ?_
 rintro v9 w5 ⟨⟨x9,e9,iB⟩,h,aB⟩
 subst e9
 refine W ?_
 exact⟨_,rfl,⟨_,rfl,by simp;omega⟩,h.more om,hk.trans aB⟩
 refine W ?_
 refine zc rfl (λh8=>?_) (λh8=>?_)
 refine W ?_
 refine aA (ih ns ts (([40,42,32,105,32]++want)++[41]) br (q+1) _ _ w4 hl om hs so om h cv ck) ?_
 rintro v9 w5 ⟨⟨x9,e9,iB⟩,h,aB⟩
 subst e9
 refine W ?_
 exact⟨_,rfl,⟨_,rfl,by simp;omega⟩,h.more om,hk.trans aB⟩
 refine W ?_
 refine zc rfl (λh9=>?_) (λh9=>?_)
 refine W ?_
 refine zc rfl (λfO=>?_) (λfO=>?_)
 refine zr<|zm<|aA (amv br (q+1) om w4 h) ?_
 rintro v9 w5 ⟨⟨x9,e9,iB⟩,h,aB⟩
 subst e9
 refine W ?_
 exact⟨_,rfl,⟨x9,rfl,om⟩,h.more om,hk.trans aB⟩
 refine W ?_
 refine aA (hB ns ts want br (q+1) _ _ w4 hl om hs om om h cv ck) ?_
 rintro v9 w5 ⟨⟨x9,e9,iB⟩,h,aB⟩
 subst e9
 refine W ?_
 exact⟨_,rfl,⟨x9,rfl,om⟩,h.more om,hk.trans aB⟩
 refine W ?_
 refine aA (hB ns ts want br (q+1) _ _ w4 hl om hs om om h cv ck) ?_
 rintro v9 w5 ⟨⟨x9,e9,iB⟩,h,aB⟩
 subst e9
 refine W ?_
 exact⟨_,rfl,⟨x9,rfl,om⟩,h.more om,hk.trans aB⟩
theorem PF:∀d,d<=9->H3 d (4^d)
 |0,_=>amP
 |d+1,h=>by
  have h2:4^d<=4^9:=Nat.pow_le_pow_right de om
  have:=amQ d (4^d) om (Nat.pos_of_ne_zero sm) (Nat.le_trans h2 de) (PF d om)
  rw[Nat.pow_succ,Nat.mul_comm]
  exact this
theorem lY.zero {TB TS:TypeId} (h:aJ w b #[] TB):lY w TB TS (.slice (some ⟨b,0,none⟩) 0 0) (some b) [] [] []:=
 ⟨⟨by simp,.inr ⟨b,0,#[],rfl,rfl,h,lR _,by decide,rfl,rfl⟩⟩,trivial,by simp[gx],by simp[gx]⟩
theorem lY.gr {B:Nat} {TB TS:TypeId} (h:lY w TB TS v g gss vss bs) (hL:∀x,x∈g.toList++gx gss->x∉L) (hB:∀b,g=some b->B<=b) (hl:∀x,x∈L->x<w.heap.size) (hs:B<=w.heap.size):Gr B L w TB 3 v g (bs.map Bk.enc):=by
 have hd:=(List.nodup_append.1 h.nodup).2.2
 refine⟨⟨vss.flatten,by simpa using h.own,h.rows.BR λx hx hc=>?_,?_,λb hb=>hL b (by simp[hb])⟩,hB,hl,hs⟩
 ·rcases mA.1 hc with hc|hc
  ·exact hd x hc x hx rfl
  ·exact hL x (by simp[hx]) hc
 ·intro row hr
  obtain⟨c,_,rfl⟩:=List.mem_map.1 hr
  rfl
theorem Gr.amV {B:Nat} {T:TypeId} (h:Gr B L w T 3 v g (bs.map Bk.enc)) (hb:0<bs.length):∃b a1 n1 c1 a2 n2 c2 cap,v= .slice (some ⟨b,0,none⟩) bs.length cap∧fS w b 0 [str (bR bs 0).aM,.slice a1 n1 c1,.slice a2 n2 c2]∧bc (g.toList++L) w (.slice a1 n1 c1) (bR bs 0).bY∧bc (g.toList++L) w (.slice a2 n2 c2) (bR bs 0).code:=by
 obtain⟨xs,⟨hl,dv⟩,gB,gZ,vi⟩:=h.own
 cases bs with
 |nil=>simp at hb
 |cons f bs=>
  rcases dv with⟨_,h0,_⟩|⟨b,cap,cur,hg,rfl,amW,ml,lU,bZ,ht⟩
  ·simp at h0
  ·simp only[List.map_cons,List.flatten_cons,Bk.enc] at gB
   match xs,gB with
   |x0::x1::x2::r,gB=>
    obtain⟨r0,r1,r2,_⟩:=gB
    cases r0
    obtain⟨a1,n1,c1,rfl,_⟩:=dJ (xs:=f.bY) r1
    obtain⟨a2,n2,c2,rfl,_⟩:=dJ (xs:=f.code) r2
    refine⟨b,a1,n1,c1,a2,n2,c2,cap,sm,λj u hj=>?_,r1,r2⟩
    have Cy:j<3:=(List.getElem?_eq_some_iff.1 hj).1
    have h1:cur.toList[j]?=some u:=by
     have h2:=congrArg (λl=>l[j]?) ht
     simp only[List.getElem?_take] at h2
     rw[iP so] at h2
     rw[h2,<-hj]
     match j,Cy with
     |0,_=>rfl
     |1,_=>rfl
     |2,_=>rfl
    rw[Nat.zero_add,amW.cell]
    simpa using h1
section
variable {P:Program} {n:Nat} {ops:Array Oper} {K:Env->World->Prop} {rest:List Oper} {e:Env} {w:World}
 {dst:Option Nat} {ty:TypeId} {pos:String} {after:Array Edge} {g:Option (Nat×Bool)} {x y:Operand}
theorem amX {t E TS bytes:Nat} {z:Value} {v:Value} {gb:Option Nat} {gss:List (Option Nat×Option Nat)} {vss:List (List Value)} {bs:List Bk} {f:Bk} {gs:Option Nat×Option Nat} {a1 a2:Option Addr} {n1 c1 n2 c2:Nat} {b U:Nat} (hT:P.underlying t=some (.slice E)) (hE:TI P E 3 bytes z) (hg:gate ops e g=true) (hd:bV n dst=true) (hz:Nat.beq z.cells.size 3=true) (fK:Nat.ble bytes 1000=true) 
  (hx:ev e x=v) (hy:ev e y= .slice (some ⟨b,0,none⟩) 1 1) (hP:lY w E TS v gb gss vss bs) (hb:aJ w b [str f.aM,.slice a1 n1 c1,.slice a2 n2 c2].toArray U)
  (h1:cG w TS (.slice a1 n1 c1) gs.1 f.bY) (h2:cG w TS (.slice a2 n2 c2) gs.2 f.code) (nz:∀x,x∈iU gs->x∉gb.toList++gx gss) (iS:(iU gs).Nodup) (hn:bs.length<100000000)
  (k:∀a' cap' g' w',lY w' E TS (.slice a' (bs++[f]).length cap') g' (gss++[gs]) (vss++[[str f.aM,.slice a1 n1 c1,.slice a2 n2 c2]]) (bs++[f])->aj gb.toList w w'->(g'=gb∨∃z,g'=some z∧w.heap.size<=z)->OW P n ops K rest (bM e dst (.slice a' (bs++[f]).length cap')) w'):
  OW P n ops K (⟨dst,.call {callee:=.builtin .append,args:=#[x,y],argTypes:=#[t,t]},ty,pos,after,g⟩::rest) e w:=by
 obtain⟨i,hi,uO,fC,xG⟩:=hE.get
 have zH:bytes<=1000:=Nat.le_of_ble_eq_true fK
 have H7:(bs.length+1)*bytes<=140737488355328:=Nat.le_trans (Nat.mul_le_mul (show bs.length+1<=100000000 by omega) zH) de
 obtain⟨v',g',w',jM,dv,hk,kz⟩:=P7 (P:=P) (w:=w) (ty:=ty) hT hi uO fC xG (Nat.eq_of_beq_eq_true hz) hP.own b 0 1 1 [str f.aM,.slice a1 n1 c1,.slice a2 n2 c2] rfl (by have:=hb.all;simpa using this)
  (by intro u hu;simp at hu;rcases hu with rfl|rfl|rfl<;>rfl) de (by unfold maxLen;omega) H7
 have xP:iH w' E 3 v' g' (bs++[f]).length (vss++[[str f.aM,.slice a1 n1 c1,.slice a2 n2 c2]]).flatten:=by
  simpa using dv
 obtain⟨a',cap',he⟩:=xP.len
 subst he
 have H4:=(List.nodup_append.1 hP.nodup)
 have XV:∀x,x∈iU gs->x<w.heap.size:=λx hx=>by
  simp only[iU,mA] at hx
  rcases hx with hx|hx
  ·exact iH.lt h1 x (by simpa using hx)
  ·exact iH.lt h2 x (by simpa using hx)
 refine eQ hg hd (w':=w') (by
  simp only[execOp,resolve,invoke,builtin,Sem.run_bind,Sem.run_pure,Result.andThen_ok,List.map_toArray,List.map_cons,List.map_nil,hx,hy,jM]) (k a' cap' g' w' ⟨xP,?_,?_,?_⟩ hk (kz.imp id λh=>⟨_,h,lR _⟩))
 ·refine iK.snoc (hP.rows.aF hk λx hx hg=>H4.2.2 x hg x hx rfl) ⟨_,_,rfl,h1.aF hk λb hb hx=>?_,h2.aF hk λb hb hx=>?_⟩
  ·exact nz b (by simp[iU,hb]) (by simp at hx;simp[hx])
  ·exact nz b (by simp[iU,hb]) (by simp at hx;simp[hx])
 ·rw[ML,<-List.append_assoc]
  refine List.nodup_append.2 ⟨List.nodup_append.2 ⟨by cases g'<;>simp,H4.2.1,λa ha c hc=>?_⟩,iS,λa ha c hc=>?_⟩
  ·rintro rfl
   rcases kz with h|h
   ·rw[h] at ha;exact H4.2.2 a ha a hc rfl
   ·rw[h] at ha;simp at ha;have:=hP.lt a hc;omega
  ·rintro rfl
   rcases mA.1 ha with ha|ha
   ·rcases kz with h|h
    ·rw[h] at ha;exact nz a hc (by simp at ha;simp[ha])
    ·rw[h] at ha;simp at ha;have:=XV a hc;omega
   ·exact nz a hc (by simp[ha])
 ·intro x hx
  rw[ML,mA] at hx
  rcases hx with hx|hx
  ·exact lL (hP.lt x hx) hk.size
  ·exact lL (XV x hx) hk.size
theorem iK.PG {w:World} {T:TypeId}:∀{gss:List (Option Nat×Option Nat)} {vss:List (List Value)} {bs:List Bk} {i:Nat} {g:Option Nat×Option Nat} {v:List Value} {f:Bk},iK w T gss vss bs->qd w' T g v f->
  (∀(g2:Option Nat×Option Nat) (v2:List Value) (b2:Bk),(∀x,x∈iU g2->x∈gx gss)->qd w T g2 v2 b2->qd w' T g2 v2 b2)->iK w' T (gss.set i g) (vss.set i v) (bs.set i f)
 |[],[],[],i,g,v,f,_,_,_=>trivial
 |g0::gs,v0::vs,b0::bs,0,g,v,f,h,hf,hk=>by
  refine⟨hf,?_⟩
  have:=iK.PG (i:=gs.length) (g:=g) (v:=v) (f:=f) h.2 hf λg2 v2 b2 hg ho=>hk g2 v2 b2 (λx hx=>by rw[Jc];exact mR _ (hg x hx)) ho
  have hl:=iK.lens h.2
  rwa [List.set_eq_of_length_le om,List.set_eq_of_length_le om,List.set_eq_of_length_le om] at this
 |g0::gs,v0::vs,b0::bs,i+1,g,v,f,h,hf,hk=>
  ⟨hk g0 v0 b0 (λx hx=>by rw[Jc];exact List.mem_append_left _ hx) h.1,iK.PG h.2 hf λg2 v2 b2 hg ho=>hk g2 v2 b2 (λx hx=>by rw[Jc];exact mR _ (hg x hx)) ho⟩
theorem amY {T TB TS bytes:Nat} {z:Value} {v:Value} {gb:Option Nat} {gss:List (Option Nat×Option Nat)} {vss:List (List Value)} {bs:List Bk} {a2:Option Addr} {n2 c2:Nat} {g2:Option Nat} {ys:List ai} {L:List Nat} {o i:Nat} (jN:TI P T 1 bytes z) (hg:gate ops e g=true) (hx:ev e x= .pointer (some ⟨b,o,none⟩)) (hy:ev e y= .slice a2 n2 c2) (ho:o=i*3+2) 
  (hO:lY w TB TS v gb gss vss bs) (oa:gb=some b) (hi:i<bs.length) (h2:cG w TS (.slice a2 n2 c2) g2 ys) (nz:∀x,x∈g2.toList->x∉gb.toList) (hL:∀x,x∈gb.toList++gx gss++g2.toList->x∉L)
  (k:∀w',aj gb.toList w w'->(∃xs,gO L w' TB 3 v gb ((bs.set i {bR bs i with code:=ys}).map Bk.enc) xs)->w'.heap.size=w.heap.size->OW P n ops K rest e w'):OW P n ops K (⟨none,.store T x y,ty,pos,after,g⟩::rest) e w:=by
 subst ho
 have hd:=List.nodup_append.1 hO.nodup
 have dv:=hO.own
 obtain⟨gs,vs,jm,aW,v1,v2,ME,cV,dm⟩:=hO.rows.get (pC hi)
 obtain⟨fl,iy,wR⟩:=hO.rows.lens
 subst oa
 obtain⟨hl,h|⟨b',cap,cur,oa,hv,hb,ml,lU,bZ,ht⟩⟩:=dv
 ·obtain⟨_,_,h⟩:=h;cases h
 ·cases oa
  subst hv
  refine K0 jN rfl hg hx hy rfl hb (by rw[bZ];omega) λw' hk gN hz=>?_
  have mE:(vss.set i [str (bR bs i).aM,v1,.slice a2 n2 c2]).flatten=vss.flatten.set (i*3+2) (.slice a2 n2 c2):=by
   have:=Tc (a:=.slice a2 n2 c2) (j:=2) wR aW de
   rw[this,ME];rfl
  have jn:∀x,x∈gx gss->x∉[b]:=λq hq h=>by simp at h;subst h;exact hd.2.2 q sm q hq rfl
  have gZ:qd w' TS (gs.1,g2) [str (bR bs i).aM,v1,.slice a2 n2 c2] {bR bs i with code:=ys}:=
   ⟨v1,_,rfl,cV.aF hk (λb hb=>jn b (Ck jm (by simp[iU,hb]))),h2.aF hk (λb hb hx=>nz b (by simp[hb]) (by simpa using hx))⟩
  have amZ:=iK.PG (i:=i) hO.rows gZ λg2 v2 b2 iO ho=>ho.aF hk λx hx=>jn x (iO x hx)
  have rM:∀x,x∈gx (gss.set i (gs.1,g2))->x∈gx gss∨x∈g2.toList:=λx hx=>by
   simp only[gx,List.mem_flatMap] at hx⊢
   obtain⟨q,hq,PH⟩:=hx
   rcases List.mem_or_eq_of_mem_set hq with h|h
   ·exact .inl ⟨q,h,PH⟩
   ·subst h
    simp only[iU,mA] at PH
    rcases PH with h|h
    ·exact .inl ⟨gs,List.mem_of_getElem? jm,by simp only[iU,mA];exact .inl h⟩
    ·exact .inr h
  have H4:∀x,x∈gx (gss.set i (gs.1,g2))->x≠b:=λx hx e=>by
   rcases rM x hx with h|h
   ·exact jn x h (by simp[e])
   ·exact nz x h (by simp[e])
  refine k w' (by simpa using hk) ?_ hz
  refine⟨(vss.set i [str (bR bs i).aM,v1,.slice a2 n2 c2]).flatten,⟨?_,.inr ⟨b,_,_,rfl,sm,gN,by simpa using ml,lU,by simpa using bZ,?_⟩⟩,amZ.BR λx hx hc=>?_,?_,λc hc=>hL c (by simp[hc])⟩
  ·rw[mE,List.length_set,hl,List.length_map,List.length_set]
  ·rw[Array.toList_setIfInBounds,List.length_map,List.length_set,List.take_set,ht,mE]
  ·rcases mA.1 hc with hc|hc
   ·simp at hc;exact H4 x hx hc
   ·rcases rM x hx with h|h
    ·exact hL x (by simp[h]) hc
    ·exact hL x (by simp[h]) hc
  ·intro row hr
   obtain⟨c,_,rfl⟩:=List.mem_map.1 hr
   rfl
end
def vX (bs bs':List Bk):Prop:=bs'.length=bs.length∧∀i,i<bs.length->(bR bs' i).aM=(bR bs i).aM∧(bR bs' i).bY=(bR bs i).bY∧(bR bs' i).code.length<=(bR bs i).code.length∧∀x,x∈(bR bs' i).code->x∈(bR bs i).code∨sq x=true
theorem vX.refl (bs:List Bk):vX bs bs:=⟨rfl,λ_ _=>⟨rfl,rfl,lR _,λ_ h=>.inl h⟩⟩
theorem am0 {j:Nat} {f:Bk} (hi:i<bs.length):bR (bs.set i f) j=if j=i then f else bR bs j:=by
 unfold bR
 rw[gG,gG,List.getElem?_set]
 by_cases h:i=j
 ·subst h;simp[hi]
 ·rw[iN h,iN (λe=>h e.symm)]
theorem vX.set {cs:List Bk} (h:vX bs cs) (hi:i<bs.length) (hl:ys.length<=(bR bs i).code.length) (hy:∀x,x∈ys->x∈(bR bs i).code∨sq x=true):vX bs (cs.set i {bR cs i with code:=ys}):=by
 refine⟨by rw[List.length_set];exact h.1,λj hj=>?_⟩
 rw[am0 (by rw[h.1];exact hi)]
 by_cases e:j=i
 ·subst e
  rw[iP rfl]
  obtain⟨h1,h2,_,_⟩:=h.2 j hj
  exact⟨h1,h2,hl,hy⟩
 ·rw[iN e];exact h.2 j hj
def Fk:List ai:=[[48],[49],[45,55],[57,57,57]]
def PI:List ai:=[[97,100,100],[115,117,98],[109,117,108]]
def PJ:List ai:=[[48],[49],[50]]
def PK:List ai:=[[109,97,105,110],[98,48],[98,49],[101,110,100]]
def PL:List ai:=[[40,101,32,118,41,32,105],[40,101,32,40,116,32,118,32,118,41,41,32,105],[40,101,32,40,116,32,40,99,32,118,32,105,41,32,118,41,41,32,40,116,41],[40,101,32,118,41,32,40,116,32,105,32,105,41]]
def PM:List ai:=[[98,48],[98,49],[109,97,105,110]]
def PN:List ai:=[[40,104,97,108,116,32,52,48,41],[40,99,111,110,115,116,32,49,32,120,41],[40,109,111,118,32,49,41],[40,110,101,119,41],[40,112,97,99,107,32,49,32,50,32,105,32,105,41],[],[40,103,101,116,32,49,32,50,32,45,49,41],[40,122,101,114,111,32,49,32,50,41],[40,108,97,98,32,48,32,109,97,105,110,41],[40,104,97,108,116,32,48,41]]
theorem am1 (br q:Nat) (hq:q<=900000000) (w:World) (h:dD w br q):
  bz Tryz.prog 113 [.pointer (some ⟨br,0,none⟩)] w λr w'=>(∃x,r=str x∧x.length<=100)∧dD w' br (q+5)∧aj [br] w w':=by
 refine bS [.tmp 2] 133 Tryz.func113 rfl aaJ rfl rfl ?_
 refine W ?_
 refine aA (H2 br (q+0) om w h) ?_
 rintro v7 w1 ⟨⟨za,XJ,e7⟩,h,bW⟩
 have hxA:∃x,x=aT za:=⟨_,rfl⟩
 obtain⟨tA,etA⟩:=hxA
 rw[<-etA] at e7
 subst e7
 have V6:tA.length<=3:=(by rw[etA];exact sM om)
 have aB:=bW
 refine W ?_
 refine aA (H2 br (q+1) om w1 h) ?_
 rintro v7 w2 ⟨⟨zb,XK,e7⟩,h,bW⟩
 have hxB:∃x,x=aT zb:=⟨_,rfl⟩
 obtain⟨tB,etB⟩:=hxB
 rw[<-etB] at e7
 subst e7
 have V7:tB.length<=3:=(by rw[etB];exact sM om)
 have aB:=aB.trans bW
 refine W ?_
 refine aA (H2 br (q+2) om w2 h) ?_
 rintro v7 w3 ⟨⟨zd,hzd,e7⟩,h,bW⟩
 have hxD:∃x,x=aT zd:=⟨_,rfl⟩
 obtain⟨tD,etD⟩:=hxD
 rw[<-etD] at e7
 subst e7
 have hlD:tD.length<=3:=(by rw[etD];exact sM om)
 have aB:=aB.trans bW
 refine W ?_
 refine aA (lQ 14 de de br (q+3) om w3 h) ?_
 rintro Hf w4 ⟨⟨z,Hs,hz⟩,h,gv⟩
 subst Hs
 have aB:=aB.trans gv
 have lS:=h.lt
 refine W ?_
 refine zc rfl (λh1=>?_) (λh1=>?_)
 refine gY<|zc rfl (λh2=>?_) (λh2=>?_)
 refine W ?_
 refine yh bh bf rfl rfl rfl rfl rfl rfl λw5 aN vC ig=>bI aN h aB λh aB=>?_
 refine aA (mi Fk de de br (q+4) om _ w5 h (aJ.dK Fk vC (λhx=>by simp at hx;omega) de)) ?_
 rintro l8 w6 ⟨⟨x1,ik,gS⟩,h,dA⟩
 subst gS
 have aB:=aB.trans dA
 have eu:=(show∀x,x∈Fk->x.length<=30 from by decide) _ ik
 refine W ?_
 exact⟨_,rfl,⟨_,rfl,by simp;omega⟩,h.more om,aB⟩
 omega
 refine W ?_
 refine zc rfl (λh3=>?_) (λh3=>?_)
 refine W ?_
 refine yh bh bf rfl rfl rfl rfl rfl rfl λw5 aN vC ig=>bI aN h aB λh aB=>?_
 refine aA (mi Fk de de br (q+4) om _ w5 h (aJ.dK Fk vC (λhx=>by simp at hx;omega) de)) ?_
 rintro l8 w6 ⟨⟨x1,ik,gS⟩,h,dA⟩
 subst gS
 have aB:=aB.trans dA
 have eu:=(show∀x,x∈Fk->x.length<=30 from by decide) _ ik
 refine W ?_
 exact⟨_,rfl,⟨_,rfl,by simp;omega⟩,h.more om,aB⟩
 refine W ?_
 refine zc rfl (λh4=>?_) (λh4=>?_)
 refine W ?_
 exact⟨_,rfl,⟨_,rfl,by simp;omega⟩,h.more om,aB⟩
 refine W ?_
 refine zc rfl (λh5=>?_) (λh5=>?_)
 refine zr<|zm<|pM bh bf rfl rfl rfl rfl rfl λw5 aN vN ig=>bI aN h aB λh aB=>?_
 refine aA (mi PI de de br (q+4) om _ w5 h (aJ.dK PI vN (λhx=>by simp at hx;omega) de)) ?_
 rintro l8 w6 ⟨⟨x1,ik,gS⟩,h,dA⟩
 subst gS
 have aB:=aB.trans dA
 have eu:=(show∀x,x∈PI->x.length<=30 from by decide) _ ik
 refine W ?_
 exact⟨_,rfl,⟨_,rfl,by simp;omega⟩,h.more om,aB⟩
 refine W ?_
 refine zc rfl (λh6=>?_) (λh6=>?_)
 refine W ?_
 exact⟨_,rfl,⟨_,rfl,by simp;omega⟩,h.more om,aB⟩
 refine W ?_
 refine zc rfl (λh7=>?_) (λh7=>?_)
 refine W ?_
 exact⟨_,rfl,⟨_,rfl,by simp;omega⟩,h.more om,aB⟩
 refine W ?_
 refine zc rfl (λh8=>?_) (λh8=>?_)
 refine W ?_
 refine pM bh bf rfl rfl rfl rfl rfl λw5 aN Ot ig=>bI aN h aB λh aB=>?_
 refine aA (mi PJ de de br (q+4) om _ w5 h (aJ.dK PJ Ot (λhx=>by simp at hx;omega) de)) ?_
 rintro l8 w6 ⟨⟨x1,ik,gS⟩,h,dA⟩
 subst gS
 have aB:=aB.trans dA
 have eu:=(show∀x,x∈PJ->x.length<=30 from by decide) _ ik
 refine W ?_
 exact⟨_,rfl,⟨_,rfl,by simp;omega⟩,h.more om,aB⟩
 refine W ?_
 refine zc rfl (λh9=>?_) (λh9=>?_)
 refine W ?_
 refine yh bh bf rfl rfl rfl rfl rfl rfl λw5 aN EX ig=>bI aN h aB λh aB=>?_
 refine aA (mi PK de de br (q+4) om _ w5 h (aJ.dK PK EX (λhx=>by simp at hx;omega) de)) ?_
 rintro l8 w6 ⟨⟨x1,ik,gS⟩,h,dA⟩
 subst gS
 have aB:=aB.trans dA
 have eu:=(show∀x,x∈PK->x.length<=30 from by decide) _ ik
 refine W ?_
 exact⟨_,rfl,⟨_,rfl,by simp;omega⟩,h.more om,aB⟩
 refine W ?_
 refine zc rfl (λfO=>?_) (λfO=>?_)
 refine W ?_
 refine yh bh bf rfl rfl rfl rfl rfl rfl λw5 aN HG ig=>bI aN h aB λh aB=>?_
 refine aA (mi PL de de br (q+4) om _ w5 h (aJ.dK PL HG (λhx=>by simp at hx;omega) de)) ?_
 rintro l8 w6 ⟨⟨x1,ik,gS⟩,h,dA⟩
 subst gS
 have aB:=aB.trans dA
 have eu:=(show∀x,x∈PL->x.length<=30 from by decide) _ ik
 refine W ?_
 exact⟨_,rfl,⟨_,rfl,by simp;omega⟩,h.more om,aB⟩
 refine W ?_
 refine zc rfl (λoU=>?_) (λoU=>?_)
 refine W ?_
 exact⟨_,rfl,⟨_,rfl,by simp;omega⟩,h.more om,aB⟩
 refine W ?_
 refine zc rfl (λkC=>?_) (λkC=>?_)
 refine W ?_
 refine pM bh bf rfl rfl rfl rfl rfl λw5 aN Km ig=>bI aN h aB λh aB=>?_
 refine aA (mi PM de de br (q+4) om _ w5 h (aJ.dK PM Km (λhx=>by simp at hx;omega) de)) ?_
 rintro l8 w6 ⟨⟨x1,ik,gS⟩,h,dA⟩
 subst gS
 have aB:=aB.trans dA
 have eu:=(show∀x,x∈PM->x.length<=30 from by decide) _ ik
 refine W ?_
 exact⟨_,rfl,⟨_,rfl,by simp;omega⟩,h.more om,aB⟩
 refine W ?_
 refine zc rfl (λoV=>?_) (λoV=>?_)
 refine W ?_
 refine kJ bh bf rfl rfl rfl rfl λw5 aN NC ig=>bI aN h aB λh aB=>?_
 refine aA (mi [[40,106,117,109,112,32]++tA++[41],[40,104,97,108,116,32]++tA++[41]] sm sm br (q+4) om _ w5 h (aJ.dK [[40,106,117,109,112,32]++tA++[41],[40,104,97,108,116,32]++tA++[41]] NC (λhx=>by simp at hx;omega))) ?_
 rintro l8 w6 ⟨⟨x1,ik,gS⟩,h,dA⟩
 subst gS
 have aB:=aB.trans dA
 have eu:x1.length<=30:=(by simp only[mC,List.not_mem_nil,or_false] at ik;rcases ik with rfl|rfl<;>simp<;>omega)
 refine W ?_
 exact⟨_,rfl,⟨_,rfl,om⟩,h.more om,aB⟩
 refine gY<|zr<|zm<|aeS bh bf rfl rfl rfl rfl rfl rfl rfl rfl rfl rfl rfl rfl λw5 aN am5 ig=>bI aN h aB λh aB=>?_
 refine aA (mi PN de de br (q+4) om _ w5 h (aJ.dK PN am5 (λhx=>by simp at hx;omega) de)) ?_
 rintro l8 w6 ⟨⟨x1,ik,gS⟩,h,dA⟩
 subst gS
 have aB:=aB.trans dA
 have eu:=(show∀x,x∈PN->x.length<=30 from by decide) _ ik
 refine W ?_
 exact⟨_,rfl,⟨_,rfl,om⟩,h.more om,aB⟩
def KU:List ai:=[[105],[105],[40,116,41],[40,116,32,105,32,105,41],[40,101,32,118,41]]
theorem am6 {α:Type} {l:List α} (h:l.length=7):∃a b c d e f g,l=[a,b,c,d,e,f,g]:=by
 match l,h with|[a,b,c,d,e,f,g],_=>exact⟨a,b,c,d,e,f,g,rfl⟩
structure PO (b:Bk) (aM:ai):Prop where
 aM:b.aM=aM
 regs:b.bY.length<=10∧∀x,x∈b.bY->x.length<=100
 code:1<=b.code.length∧b.code.length<=10∧∀x,x∈b.code->x.length<=100
structure rB (br:Nat) (w:World) (b6 b7:Nat) (aM:ai) (v1:Value) (g1:Option Nat) (xs:List ai) (v2:Value) (g2:Option Nat) (ys:List ai) (q:Nat) (ww:World):Prop where
 box:aJ ww b7 [str aM,v1,v2].toArray 58
 res:aJ ww b6 [str [],.slice none 0 0,.slice none 0 0].toArray 58
 o1:cG ww 9 v1 g1 xs
 o2:cG ww 9 v2 g2 ys
 rd:dD ww br q
 kp:aj [br] w ww
 f1:∀x,x∈g1.toList->w.heap.size<=x∧x≠b6∧x≠b7∧x∉g2.toList
 f2:∀x,x∈g2.toList->w.heap.size<=x∧x≠b6∧x≠b7∧x∉g1.toList
theorem rB.ext {br:Nat} {aM:ai} {ww:World} (h:rB br w b6 b7 aM v1 g1 xs v2 g2 ys q ww) (k:aj [] ww w'):rB br w b6 b7 aM v1 g1 xs v2 g2 ys q w':=
 ⟨h.box.ext k,h.res.ext k,h.o1.ext k,h.o2.ext k,h.rd.ext k,h.kp.ext k,h.f1,h.f2⟩
theorem rB.Ht {br:Nat} {aM:ai} {ww wx:World} {zs:List ai} (h:rB br w b6 b7 aM v1 g1 xs v2 g2 ys q ww) (iq:br<w.heap.size) (h6:w.heap.size<=b6) (h7:w.heap.size<=b7) (PQ:b6≠b7) (hO:cG wx 9 v g zs) (eI:dD wx br q') (k:aj (br::g1.toList) ww wx) (hg:g=g1∨∃z,g=some z∧ww.heap.size<=z) (k2:aj [b7] wx w') (hb:aJ w' b7 [str aM,v,v2].toArray 58):rB br w b6 b7 aM v g zs v2 g2 ys q' w':=by
 have iO:∀x,x∈g.toList->x∈g1.toList∨ww.heap.size<=x:=λx hx=>by
  rcases hg with rfl|⟨z,rfl,hz⟩
  ·exact .inl hx
  ·simp at hx;right;omega
 have s7:=h.box.lt
 have s6:=h.res.lt
 have fC:=h.kp.size
 have f1:∀x,x∈g.toList->w.heap.size<=x∧x≠b6∧x≠b7∧x∉g2.toList:=λx hx=>by
  rcases iO x hx with h9|h9
  ·exact h.f1 x h9
  ·exact⟨by omega,om,om,λhy=>by have:=h.o2.lt x hy;omega⟩
 have n6:b6∉br::g1.toList:=λhx=>by
  rcases mC.1 hx with h9|h9
  ·omega
  ·exact(h.f1 b6 h9).2.1 rfl
 refine⟨hb,(h.res.aF k n6).aF k2 (by simpa using PQ),hO.aF k2 (λx hx hy=>(f1 x (by simp[hx])).2.2.1 (by simpa using hy)),(h.o2.aF k (λx hx hy=>?_)).aF k2 (λx hx hy=>(h.f2 x (by simp[hx])).2.2.1 (by simpa using hy)),eI.aF k2 (λx hx=>by simp at hx;omega),?_,f1,λx hx=>⟨(h.f2 x hx).1,(h.f2 x hx).2.1,(h.f2 x hx).2.2.1,λhy=>(f1 x hy).2.2.2 hx⟩⟩
 ·rcases mC.1 hy with h9|h9
  ·have:=(h.f2 x (by simp[hx])).1;omega
  ·exact(h.f2 x (by simp[hx])).2.2.2 h9
 ·refine(h.kp.since k λx hx=>?_).since k2 λx hx=>.inr (by simp at hx;omega)
  rcases mC.1 hx with h9|h9
  ·exact .inl (by simp[h9])
  ·exact .inr (h.f1 x h9).1
theorem rB.AY {br:Nat} {aM:ai} {ww wx:World} {zs:List ai} (h:rB br w b6 b7 aM v1 g1 xs v2 g2 ys q ww) (iq:br<w.heap.size) (h6:w.heap.size<=b6) (h7:w.heap.size<=b7) (PQ:b6≠b7) (hO:cG wx 9 v g zs) (eI:dD wx br q') (k:aj (br::g2.toList) ww wx) (hg:g=g2∨∃z,g=some z∧ww.heap.size<=z) (k2:aj [b7] wx w') (hb:aJ w' b7 [str aM,v1,v].toArray 58):rB br w b6 b7 aM v1 g1 xs v g zs q' w':=by
 have iO:∀x,x∈g.toList->x∈g2.toList∨ww.heap.size<=x:=λx hx=>by
  rcases hg with rfl|⟨z,rfl,hz⟩
  ·exact .inl hx
  ·simp at hx;right;omega
 have s7:=h.box.lt
 have s6:=h.res.lt
 have fC:=h.kp.size
 have f1:∀x,x∈g.toList->w.heap.size<=x∧x≠b6∧x≠b7∧x∉g1.toList:=λx hx=>by
  rcases iO x hx with h9|h9
  ·exact h.f2 x h9
  ·exact⟨by omega,om,om,λhy=>by have:=h.o1.lt x hy;omega⟩
 have n6:b6∉br::g2.toList:=λhx=>by
  rcases mC.1 hx with h9|h9
  ·omega
  ·exact(h.f2 b6 h9).2.1 rfl
 refine⟨hb,(h.res.aF k n6).aF k2 (by simpa using PQ),(h.o1.aF k (λx hx hy=>?_)).aF k2 (λx hx hy=>(h.f1 x (by simp[hx])).2.2.1 (by simpa using hy)),hO.aF k2 (λx hx hy=>(f1 x (by simp[hx])).2.2.1 (by simpa using hy)),eI.aF k2 (λx hx=>by simp at hx;omega),?_,λx hx=>⟨(h.f1 x hx).1,(h.f1 x hx).2.1,(h.f1 x hx).2.2.1,λhy=>(f1 x hy).2.2.2 hx⟩,f1⟩
 ·rcases mC.1 hy with h9|h9
  ·have:=(h.f1 x (by simp[hx])).1;omega
  ·exact(h.f1 x (by simp[hx])).2.2.2 h9
 ·refine(h.kp.since k λx hx=>?_).since k2 λx hx=>.inr (by simp at hx;omega)
  rcases mC.1 hx with h9|h9
  ·exact .inl (by simp[h9])
  ·exact .inr (h.f2 x h9).1
theorem rB.call {br:Nat} {aM:ai} {ww:World} (h:rB br w b6 b7 aM v1 g1 xs v2 g2 ys q ww) (iq:br<w.heap.size) (h6:w.heap.size<=b6) (h7:w.heap.size<=b7) (eI:dD w' br q') (k:aj [br] ww w'):rB br w b6 b7 aM v1 g1 xs v2 g2 ys q' w':=
 ⟨h.box.aF k so,h.res.aF k so,h.o1.aF k (λx hx hy=>by have:=(h.f1 x (by simp[hx])).1;simp at hy;omega),h.o2.aF k (λx hx hy=>by have:=(h.f2 x (by simp[hx])).1;simp at hy;omega),eI,h.kp.trans k,h.f1,h.f2⟩
theorem PR (aM:ai) (k:Nat) (hk:k<=10) (br q:Nat) (hq:q<=800000000) (w:World) (h:dD w br q):
  bz Tryz.prog 80 [.pointer (some ⟨br,0,none⟩),str aM,.int .i64 (k:Int)] w λr w'=>(∃bk,PO bk aM∧∀L:List Nat,(∀x,x∈L->x<w.heap.size)->qP L w' r bk)∧dD w' br (q+100)∧aj [br] w w':=by
 have iq:=h.lt
 have hK:=aj.refl [] w
 refine kW [.cell 6 58] 64 Tryz.func80 rfl acH rfl rfl rfl ?_
 refine zr<|dy fV rfl rfl rfl λw1 aI bL kI=>?_
 have hK:=hK.ext aI
 refine aZ<|zr<|zm<|fQ bh bf λw2 az lH Hg=>bI az hK bL λhK bL=>?_
 refine fQ bh bf λw3 aH xg CY=>cN aH hK bL lH λhK bL lH=>?_
 refine js (IB _ _ _ _ _ _ _ _) rfl rfl<|dy fV rfl rfl rfl λw4 aO cM oX=>ie aO hK bL lH xg λhK bL lH xg=>?_
 refine cJ fV rfl rfl rfl cM rfl λw5 aN cM df=>?_
 have hK:=hK.since aN (λx hx=>.inr (by simp at hx;omega))
 have bL:=bL.aF aN so
 have lH:=lH.aF aN so
 have xg:=xg.aF aN so
 have hS:rB br w w.heap.size w3.heap.size aM (.slice (some ⟨w1.heap.size,0,none⟩) 0 0) (some w1.heap.size) [] (.slice (some ⟨w2.heap.size,0,none⟩) 0 0) (some w2.heap.size) [] q w5:=⟨cM,bL,lH.kK,xg.kK,h.ext hK,hK.any,λx hx=>by simp at hx;subst hx;simp;omega,λx hx=>by simp at hx;subst hx;simp;omega⟩
 refine W ?_
 refine eA (λi:Nat=>[(0,.pointer (some ⟨br,0,none⟩)),(6,.pointer (some ⟨w.heap.size,0,none⟩)),(7,.pointer (some ⟨w3.heap.size,0,none⟩)),(2,.int .i64 (k:Int)),(8,.int .i64 (i:Int))]) (λi ww=>i<=k∧∃v1 g1 xs v2 g2,rB br w w.heap.size w3.heap.size aM v1 g1 xs v2 g2 [] (q+i) ww∧xs.length=i∧∀x,x∈xs->x.length<=100) (λi=>k-i) (0) (⟨rfl,rfl,rfl,rfl,rfl⟩) (⟨Nat.zero_le _,_,_,_,_,_,hS,rfl,sm⟩) λgg w6 e6 hI=>?_
 obtain⟨hi,v1,g1,xs,v2,g2,hS,XW,uA⟩:=hI
 refine W ?_
 refine zc rfl (λh1=>?_) (λh1=>?_)
 have lN:gg<k:=(by simp at h1;omega)
 have bZ:=jR hS.o1
 obtain⟨a1,c1,e1⟩:=bZ
 subst e1
 have am7:br∉g1.toList:=(λhx=>by have:=(hS.f1 br hx).1;omega)
 have bg:dM (br::g1.toList) w6 w3.heap.size [str aM,.slice a1 xs.length c1,v2].toArray 58:=⟨hS.box,λhx=>by rcases mC.1 hx with h9|h9;(·omega);(·exact(hS.f1 _ h9).2.2.1 rfl)⟩
 have uh:=bg.out
 have pS:eO (br::g1.toList) w6:=(λz hz=>by rcases mC.1 hz with h9|h9;(·rw[h9];exact hS.rd.lt);(·exact hS.o1.lt z h9))
 refine WZ ?_
 apply jF dj ((br::g1.toList)) 7 (rA 21 7) (rA 21 7) [[],[0],[],[],[2,3],[4],[1,5]] [Ie.v _,Ie.v _,Ie.v _,Ie.p (fun(G:List Nat) (v:Value) (ww:World)=>bc G ww v KU),Ie.e 0,Ie.e 1,Ie.e 2] [4,5,6] [fun(G:List Nat) (vs:List Value) (ww:World)=>G=br::g1.toList∧aj [] w6 ww,fun(G:List Nat) (vs:List Value) (ww:World)=>G=br::g1.toList∧aj [br] w6 ww∧dD ww br (q+gg+1)∧∃x,vs.getD 0 undef=str x∧x.length<=100,fun(G:List Nat) (vs:List Value) (ww:World)=>G=br::g1.toList∧aj [br] w6 ww∧dD ww br (q+gg+1)∧∃x bb,vs.getD 0 undef=str x∧x.length<=100∧vs.getD 1 undef= .slice (some ⟨bb,0,none⟩) 1 1∧aJ ww bb [str x].toArray 9,fun(G:List Nat) (vs:List Value) (ww:World)=>aj (br::g1.toList) w6 ww∧dD ww br (q+gg+1)∧∃x g9,x.length<=100∧cG ww 9 (vs.getD 2 undef) g9 (xs++[x])∧(g9=g1∨∃z,g9=some z∧w6.heap.size<=z)] de rfl pS (by exact⟨λG v w G' w' h k=>bc.go h k,trivial⟩) (by exact⟨λG vs w w' ⟨h1,h2⟩ k=>⟨h1,h2.ext k⟩,λG vs w w' ⟨h1,h2,h3,h4⟩ k=>⟨h1,h2.ext k,h3.ext k,h4⟩,λG vs w w' ⟨h1,h2,h3,x,bb,h4,h5,h6,h7⟩ k=>⟨h1,h2.ext k,h3.ext k,x,bb,h4,h5,h6,h7.ext k⟩,λG vs w w' ⟨h1,h2,x,g9,h3,h4,h5⟩ k=>⟨h1.ext k,h2.ext k,x,g9,h3,h4.ext k,h5⟩,trivial⟩) (⟨rfl,aj.refl _ _⟩)
 refine FA ?_
 refine vf (λx w7 G7 aS mQ lj=>?_) ?_
 refine Tq bh bf rfl rfl rfl rfl rfl rfl rfl λw8 cE yJ ld=>?_
 exact ff cE ((aJ.dK KU yJ (λhx=>by have:=lj _ hx;omega) de))
 refine ve 0 (λx w7 G7 aS mQ lj hJ hlen=>?_) ?_
 have aW:=jh hlen
 subst aW
 intro v3 d3
 obtain⟨bO,bP⟩:=hJ
 subst bO
 have eI:=hS.rd.ext bP
 refine aA (mi KU de de br (q+gg) om _ w7 eI (bc.fresh d3 (λx hx=>.inl (by simp at hx;simp[hx])))) ?_
 rintro v25 w8 ⟨⟨x1,ik,N3⟩,eI,Hw⟩
 subst N3
 have fl:=(show∀x,x∈KU->x.length<=100 from by decide) _ ik
 exact fe _ (Fr.of Hw sm) ((λz hz=>lL (lj z hz) Hw.size)) (⟨rfl,bP.any.trans Hw,eI,x1,rfl,fl⟩)
 refine ve 1 (λx w7 G7 aS mQ lj hJ hlen=>?_) ?_
 have aQ:=ji hlen
 obtain⟨q0,aW⟩:=aQ
 subst aW
 obtain⟨bO,bP,eI,x1,e1,fl⟩:=hJ
 subst bO
 have e2:q0=_:=e1
 subst e2
 refine fc bh bf rfl rfl λw8 cE C5 ld=>?_
 exact fe _ (Fr.of cE sm) ((λz hz=>lL (lj z hz) (aj.size cE))) (⟨rfl,bP.ext cE,eI.ext cE,x1,_,rfl,fl,rfl,C5⟩)
 refine ve 2 (λx w7 G7 aS mQ lj hJ hlen=>?_) ?_
 have aQ:=k9 hlen
 obtain⟨q0,q1,aW⟩:=aQ
 subst aW
 obtain⟨bO,bP,eI,x1,bb,e1,fl,e2,fH⟩:=hJ
 subst bO
 have e3:q0=_:=e1
 subst e3
 have e4:q1=_:=e2
 subst e4
 have ho:=hS.o1.aF bP (λx hx hy=>am7 (by simp at hy;subst hy;simp[hx]))
 refine rV bh bf rfl rfl rfl rfl rfl rfl ho fH om λv9 g9 w8 cZ aB eZ=>?_
 have PS:=bP.size
 exact fe ((br::g9.toList)) (⟨aB.mono (λz hz=>mK _ hz),λz hz=>by rcases mC.1 hz with h9|h9;(·exact .inl (by simp[h9]));(·rcases eZ with h8|h8;(·rw[h8] at h9;exact .inl (mK _ h9));(·rw[h8] at h9;simp at h9;right;omega))⟩) ((λz hz=>by rcases mC.1 hz with h9|h9;(·rw[h9];exact lL eI.lt aB.size);(·exact cZ.lt z h9))) (⟨(bP.mono sm).trans (aB.mono (λz hz=>mK _ hz)),eI.aF aB (λz hz=>by have:=(hS.f1 z hz).1;omega),x1,g9,fl,cZ,eZ.imp id (λh8=>⟨_,h8,PS⟩)⟩)
 exact trivial
 intro x r5 J8 aS xo J9 hJ hlen
 have aQ:=Aj hlen
 obtain⟨q0,q1,q2,aW⟩:=aQ
 subst aW
 intro v3 d3
 have bg:=bg.go xo
 change OW _ _ _ _ _ (bo (bj _ x _) (zZ 21 [_,_,_,_,_,_,_])) _
 obtain⟨ej,eI,x1,g9,fl,cZ,eZ⟩:=hJ
 have bZ:=jR cZ
 obtain⟨a9,c9,e9⟩:=bZ
 have e8:q2=_:=e9
 subst e8
 have bg:=hS.box.aF ej uh
 refine zf LU rfl<|gd (o:=1) mu rfl rfl rfl bg rfl λwZ l6 bg df=>?_
 have hS:=hS.Ht iq (lR _) om om cZ eI ej eZ l6 bg
 refine aZ<|kH<|zm<|mY rfl rfl rfl rfl rfl (kQ (gg+1) om _ om)<|zA<|aZ ?_
 exact⟨gg+1,⟨rfl,rfl,rfl,rfl,rfl⟩,⟨by omega,_,_,_,_,_,hS,by rw[lA,XW];rfl,λx hx=>by rcases mA.1 hx with h9|h9;(·exact uA x h9);(·simp only[List.mem_singleton] at h9;rw[h9];exact fl)⟩,om⟩
 have Cv:=hS.rd.more (show q+gg<=q+10 from om)
 have am8:xs.length<=10:=om
 refine W ?_
 refine aA (lQ 5 de de br (q+10) om w6 Cv) ?_
 rintro v30 w7 ⟨⟨n,e30,hn⟩,eI,ana⟩
 subst e30
 have hS:=hS.call iq (lR _) om eI ana
 refine W ?_
 refine eA (λj:Nat=>[(0,.pointer (some ⟨br,0,none⟩)),(6,.pointer (some ⟨w.heap.size,0,none⟩)),(7,.pointer (some ⟨w3.heap.size,0,none⟩)),(9,.int .i64 (n:Int)),(10,.int .i64 (j:Int))]) (λj ww=>j<=n∧∃v1 g1 v2 g2 ys,rB br w w.heap.size w3.heap.size aM v1 g1 xs v2 g2 ys (q+11+5*j) ww∧ys.length<=j∧∀x,x∈ys->x.length<=100) (λj=>n-j) (0) (⟨rfl,rfl,rfl,rfl,rfl⟩) (⟨Nat.zero_le _,_,_,_,_,[],hS,sm,sm⟩) λgg w8 e8 hI=>?_
 obtain⟨hj,v1,g1,v2,g2,ys,hS,hyn,PT⟩:=hI
 refine W ?_
 refine zc rfl (λh2=>?_) (λh2=>?_)
 have rK:gg<n:=om
 refine W ?_
 refine aA (am1 br (q+11+5*gg) om w8 hS.rd) ?_
 rintro v37 w9 ⟨⟨x1,e37,fl⟩,eI,anc⟩
 subst e37
 have hS:=hS.call iq (lR _) om eI anc
 refine W ?_
 refine aA (Gu x1 w9) ?_
 rintro _ cu ⟨rfl,cB⟩
 have CG:=cB.size
 have hS:=hS.ext cB
 refine WZ ?_
 apply oA 4 40 44 (aj [] cu) rfl oQ
 intro _
 refine zm<|aA (Ja x1 cu) ?_
 rintro _ eD ⟨rfl,dd⟩
 have Bo:=dd.size
 exact oQ
 intro xx eD dd
 have hS:=hS.ext dd
 refine aZ<|zc rfl (λh4=>?_) (λh4=>?_)
 have bZ:=jR hS.o2
 obtain⟨a2,c2,e2⟩:=bZ
 subst e2
 have bg:=hS.box
 refine W ?_
 refine fc bh bf rfl rfl λfA di Df N4=>?_
 have hS:=hS.ext di
 refine rV bh bf rfl rfl rfl rfl rfl rfl hS.o2 Df om λv9 g9 jB cZ gv eZ=>?_
 have bZ:=jR cZ
 obtain⟨a9,c9,e9⟩:=bZ
 subst e9
 have ej:aj (br::g2.toList) _ jB:=(gv).mono (λz hz=>mK _ hz)
 have ane:=hS.rd.aF gv (λz hz=>by have:=(hS.f2 z hz).1;omega)
 have bg:=hS.box.aF gv (λhx=>(hS.f2 _ hx).2.2.1 rfl)
 refine zf zU rfl<|gd (o:=2) mu rfl rfl rfl bg rfl λiG dA bg df=>?_
 have hS:=hS.AY iq (lR _) om om cZ ane ej (eZ.imp id (λh8=>⟨_,h8,lR _⟩)) dA bg
 refine aZ<|kH<|zm<|mY rfl rfl rfl rfl rfl (kQ (gg+1) om _ om)<|zA<|aZ ?_
 exact⟨gg+1,⟨rfl,rfl,rfl,rfl,rfl⟩,⟨by omega,_,_,_,_,_,hS,by rw[lA];simp;omega,λx hx=>by rcases mA.1 hx with h9|h9;(·exact PT x h9);(·simp only[List.mem_singleton] at h9;rw[h9];exact fl)⟩,om⟩
 refine gY<|kH<|zm<|mY rfl rfl rfl rfl rfl (kQ (gg+1) om _ om)<|zA<|aZ ?_
 exact⟨gg+1,⟨rfl,rfl,rfl,rfl,rfl⟩,⟨by omega,_,_,_,_,_,hS,om,PT⟩,om⟩
 have anf:=hS.rd.more (show q+11+5*gg<=q+31 from om)
 have bZ:=jR hS.o2
 obtain⟨a2,c2,e2⟩:=bZ
 subst e2
 have ang:br∉g2.toList:=(λhx=>by have:=(hS.f2 br hx).1;omega)
 have bg:dM (br::g2.toList) w8 w3.heap.size [str aM,v1,.slice a2 ys.length c2].toArray 58:=⟨hS.box,λhx=>by rcases mC.1 hx with h9|h9;(·omega);(·exact(hS.f2 _ h9).2.2.1 rfl)⟩
 have uh:=bg.out
 have pS:eO (br::g2.toList) w8:=(λz hz=>by rcases mC.1 hz with h9|h9;(·rw[h9];exact hS.rd.lt);(·exact hS.o2.lt z h9))
 have arQ:ys.length<=4:=om
 refine WZ ?_
 apply jF dj ((br::g2.toList)) 11 (rA 51 11) (rA 51 11) [[],[0],[],[],[3],[4],[5],[6],[2,7],[8],[1,9]] [Ie.v _,Ie.v _,Ie.v _,Ie.v _,Ie.e 0,Ie.e 1,Ie.e 2,Ie.e 3,Ie.e 4,Ie.e 5,Ie.e 6] (rA 4 7) [fun(G:List Nat) (vs:List Value) (ww:World)=>G=br::g2.toList∧aj [] w8 ww,fun(G:List Nat) (vs:List Value) (ww:World)=>G=br::g2.toList∧aj [br] w8 ww∧dD ww br (q+32)∧∃x,vs.getD 0 undef=str x∧x.length<=10,fun(G:List Nat) (vs:List Value) (ww:World)=>G=br::g2.toList∧aj [br] w8 ww∧dD ww br (q+32)∧∃x,vs.getD 1 undef=str x∧x.length<=30,fun(G:List Nat) (vs:List Value) (ww:World)=>G=br::g2.toList∧aj [br] w8 ww∧dD ww br (q+32)∧∃x,vs.getD 2 undef=str x∧x.length<=40,fun(G:List Nat) (vs:List Value) (ww:World)=>G=br::g2.toList∧aj [br] w8 ww∧dD ww br (q+32)∧∃x,x.length<=40∧bc (br::g2.toList) ww (vs.getD 3 undef) [x,[40,104,97,108,116,32,48,41],[40,106,117,109,112,32,49,41]],fun(G:List Nat) (vs:List Value) (ww:World)=>G=br::g2.toList∧aj [br] w8 ww∧dD ww br (q+33)∧∃x,vs.getD 4 undef=str x∧x.length<=100,fun(G:List Nat) (vs:List Value) (ww:World)=>G=br::g2.toList∧aj [br] w8 ww∧dD ww br (q+33)∧∃x bb,x.length<=100∧vs.getD 5 undef= .slice (some ⟨bb,0,none⟩) 1 1∧aJ ww bb [str x].toArray 9,fun(G:List Nat) (vs:List Value) (ww:World)=>aj (br::g2.toList) w8 ww∧dD ww br (q+33)∧∃x g9,x.length<=100∧cG ww 9 (vs.getD 6 undef) g9 (ys++[x])∧(g9=g2∨∃z,g9=some z∧w8.heap.size<=z)] de rfl pS (by exact trivial) (by exact⟨λG vs w w' ⟨h1,h2⟩ k=>⟨h1,h2.ext k⟩,λG vs w w' ⟨h1,h2,h3,h4⟩ k=>⟨h1,h2.ext k,h3.ext k,h4⟩,λG vs w w' ⟨h1,h2,h3,h4⟩ k=>⟨h1,h2.ext k,h3.ext k,h4⟩,λG vs w w' ⟨h1,h2,h3,h4⟩ k=>⟨h1,h2.ext k,h3.ext k,h4⟩,λG vs w w' ⟨h1,h2,h3,x,h4,h5⟩ k=>⟨h1,h2.ext k,h3.ext k,x,h4,h5.ext k⟩,λG vs w w' ⟨h1,h2,h3,h4⟩ k=>⟨h1,h2.ext k,h3.ext k,h4⟩,λG vs w w' ⟨h1,h2,h3,x,bb,h4,h5,h6⟩ k=>⟨h1,h2.ext k,h3.ext k,x,bb,h4,h5,h6.ext k⟩,λG vs w w' ⟨h1,h2,x,g9,h3,h4,h5⟩ k=>⟨h1.ext k,h2.ext k,x,g9,h3,h4.ext k,h5⟩,trivial⟩) (⟨rfl,aj.refl _ _⟩)
 refine FA ?_
 refine ve 0 (λx w9 G9 aS cP mI hJ hlen=>?_) ?_
 have aW:=jh hlen
 subst aW
 obtain⟨bO,bP⟩:=hJ
 subst bO
 have eI:=anf.ext bP
 refine aA (H2 br (q+31) om w9 eI) ?_
 rintro v55 cu ⟨⟨z9,df,V8⟩,eI,Bl⟩
 subst V8
 have fl:=sM (n:=z9) om
 exact fe _ (Fr.of Bl sm) ((λz hz=>lL (mI z hz) Bl.size)) (⟨rfl,bP.any.trans Bl,eI,_,rfl,om⟩)
 refine ve 1 (λx w9 G9 aS cP mI hJ hlen=>?_) ?_
 have aQ:=ji hlen
 obtain⟨q0,aW⟩:=aQ
 subst aW
 obtain⟨bO,bP,eI,x1,e1,fl⟩:=hJ
 subst bO
 have e2:q0=_:=e1
 subst e2
 refine WZ ?_
 exact fe _ (Fr.refl _ _) mI (⟨rfl,bP,eI,_,rfl,by simp;omega⟩)
 refine ve 2 (λx w9 G9 aS cP mI hJ hlen=>?_) ?_
 have aQ:=k9 hlen
 obtain⟨q0,q1,aW⟩:=aQ
 subst aW
 obtain⟨bO,bP,eI,x1,e1,fl⟩:=hJ
 subst bO
 have e2:q1=_:=e1
 subst e2
 refine WZ ?_
 exact fe _ (Fr.refl _ _) mI (⟨rfl,bP,eI,_,rfl,by simp;omega⟩)
 refine ve 3 (λx w9 G9 aS cP mI hJ hlen=>?_) ?_
 have aQ:=Aj hlen
 obtain⟨q0,q1,q2,aW⟩:=aQ
 subst aW
 obtain⟨bO,bP,eI,x1,e1,fl⟩:=hJ
 subst bO
 have e2:q2=_:=e1
 subst e2
 refine pM bh bf rfl rfl rfl rfl rfl λcu cB Po Cg=>?_
 exact fe _ (Fr.of cB sm) ((λz hz=>lL (mI z hz) (aj.size cB))) (⟨rfl,bP.ext cB,eI.ext cB,x1,fl,aJ.dK [x1,[40,104,97,108,116,32,48,41],[40,106,117,109,112,32,49,41]] Po (λhx=>by have:=mI _ hx;omega)⟩)
 refine ve 4 (λx w9 G9 aS cP mI hJ hlen=>?_) ?_
 have aQ:=Mx hlen
 obtain⟨q0,q1,q2,q3,aW⟩:=aQ
 subst aW
 obtain⟨bO,bP,eI,x1,fl,Dw⟩:=hJ
 subst bO
 have Dw:bc (br::g2.toList) _ q3 _:=Dw
 refine aA (mi [x1,[40,104,97,108,116,32,48,41],[40,106,117,109,112,32,49,41]] sm sm br (q+32) om _ w9 eI (bc.fresh Dw (λx hx=>.inl (by simp at hx;simp[hx])))) ?_
 rintro v59 cu ⟨⟨x2,fj,e59⟩,eI,HR⟩
 subst e59
 have iy:x2.length<=100:=(by simp only[mC,List.not_mem_nil,or_false] at fj;rcases fj with rfl|rfl|rfl;(·omega);(·decide);(·decide))
 exact fe _ (Fr.of HR sm) ((λz hz=>lL (mI z hz) HR.size)) (⟨rfl,bP.trans HR,eI,x2,rfl,iy⟩)
 refine ve 5 (λx w9 G9 aS cP mI hJ hlen=>?_) ?_
 have aQ:=SG hlen
 obtain⟨q0,q1,q2,q3,q4,aW⟩:=aQ
 subst aW
 obtain⟨bO,bP,eI,x1,e1,fl⟩:=hJ
 subst bO
 have e2:q4=_:=e1
 subst e2
 refine fc bh bf rfl rfl λcu cB Hx Cg=>?_
 exact fe _ (Fr.of cB sm) ((λz hz=>lL (mI z hz) (aj.size cB))) (⟨rfl,bP.ext cB,eI.ext cB,x1,_,fl,rfl,Hx⟩)
 refine ve 6 (λx w9 G9 aS cP mI hJ hlen=>?_) ?_
 have aQ:=aec hlen
 obtain⟨q0,q1,q2,q3,q4,q5,aW⟩:=aQ
 subst aW
 obtain⟨bO,bP,eI,x1,bb,fl,e2,fH⟩:=hJ
 subst bO
 have e4:q5=_:=e2
 subst e4
 have ho:=hS.o2.aF bP (λx hx hy=>ang (by simp at hy;subst hy;simp[hx]))
 refine rV bh bf rfl rfl rfl rfl rfl rfl ho fH om λv9 g9 cu cZ aB eZ=>?_
 have PS:=bP.size
 exact fe ((br::g9.toList)) (⟨aB.mono (λz hz=>mK _ hz),λz hz=>by rcases mC.1 hz with h9|h9;(·exact .inl (by simp[h9]));(·rcases eZ with h8|h8;(·rw[h8] at h9;exact .inl (mK _ h9));(·rw[h8] at h9;simp at h9;right;omega))⟩) ((λz hz=>by rcases mC.1 hz with h9|h9;(·rw[h9];exact lL eI.lt aB.size);(·exact cZ.lt z h9))) (⟨(bP.mono sm).trans (aB.mono (λz hz=>mK _ hz)),eI.aF aB (λz hz=>by have:=(hS.f2 z hz).1;omega),x1,g9,fl,cZ,eZ.imp id (λh8=>⟨_,h8,PS⟩)⟩)
 exact trivial
 intro x lJ JT aS EI ND hJ hlen
 have aQ:=am6 hlen
 obtain⟨q0,q1,q2,q3,q4,q5,q6,aW⟩:=aQ
 subst aW
 have bg:=bg.go EI
 change OW _ _ _ _ _ (bo (bj _ x _) (zZ 51 [_,_,_,_,_,_,_,_,_,_,_])) _
 obtain⟨ej,eI,x1,g9,fl,cZ,eZ⟩:=hJ
 have bZ:=jR cZ
 obtain⟨a9,c9,e9⟩:=bZ
 have e8:q6=_:=e9
 subst e8
 have bg:=hS.box.aF ej uh
 refine zf zU rfl<|gd (o:=2) mu rfl rfl rfl bg rfl λot iE bg df=>?_
 have hS:=hS.AY iq (lR _) om om cZ eI ej eZ iE bg
 have PU:=hS.res
 have bZ:=jR hS.o1
 obtain⟨a1,c1,e1⟩:=bZ
 subst e1
 refine aZ<|zr<|zL DU fV rfl hS.box.all rfl<|cJ (vs:=[str aM,.slice a1 xs.length c1,.slice a9 (ys++[x1]).length c9]) fV rfl rfl rfl PU rfl λou lM PU df=>?_
 have xq:=hS.o1.aF lM (λx hx hy=>(hS.f1 x (by simp[hx])).2.1 (by simpa using hy))
 have vJ:=hS.o2.aF lM (λx hx hy=>(hS.f2 x (by simp[hx])).2.1 (by simpa using hy))
 have ani:=hS.rd.aF lM (λx hx=>by simp at hx;omega)
 have da:=hS.kp.since lM (λx hx=>.inr (by simp at hx;omega))
 have cv:=(fun(L:List Nat) (hL:∀x,x∈L->x<w.heap.size)=>xq.rep (L:=L) (λx hx hy=>by have:=(hS.f1 x (by simp[hx])).1;have:=hL x hy;omega))
 have ck:=(fun(L:List Nat) (hL:∀x,x∈L->x<w.heap.size)=>vJ.rep (L:=L) (λx hx hy=>by have:=(hS.f2 x (by simp[hx])).1;have:=hL x hy;omega))
 refine W ?_
 exact⟨[_],ga DU fV rfl PU rfl,⟨⟨aM,xs,ys++[x1]⟩,⟨rfl,⟨am8,uA⟩,⟨by simp,by simp;omega,λx hx=>by rcases mA.1 hx with h9|h9;(·exact PT x h9);(·simp only[List.mem_singleton] at h9;rw[h9];exact fl)⟩⟩,λL hL=>⟨_,rfl,⟨.val _,cv L hL,ck L hL,trivial⟩⟩⟩,ani.more om,da⟩
theorem XX (t:aq):t.ak.length<=t.size:=by
 cases t with
 |mk a ps=>
  have key:∀l:List aq,l.length<=aq.size.sizes l:=by
   intro l
   induction l with
   |nil=>simp
   |cons p l ih=>have:=size_pos p;simp only[aq.size.sizes,lC];omega
  have:=key ps
  show ps.length<=1+a.length+aq.size.sizes ps
  omega
theorem anj (s:ai) (w:World):bz Tryz.prog 134 [str s] w λr w'=>(∃v ok g xs,r= .tuple #[v,.bool ok]∧cG w' 9 v g xs∧(∀b,g=some b->w.heap.size<=b)∧ok=decide (0<xs.length)∧xs.length<=12001∧∀x,x∈xs->x.length<=24002)∧aj [] w w':=by
 have hK:=aj.refl [] w
 refine bS [.tmp 2,.tmp 3] 37 Tryz.func134 rfl aaW rfl rfl ?_
 refine W ?_
 refine aA (AH s [] w sm) ?_
 rintro v1 w1 ⟨fY,aI⟩
 have cV:=aI.size
 have hK:=hK.ext aI
 have eS:=fY
 obtain⟨t,tv,e9,ht,hp⟩:=eS
 subst e9
 have bZ:=cU ht
 obtain⟨pa,pn,pc,e9,eP,aP⟩:=bZ
 subst e9
 subst eP
 have mG:=hK.size
 refine W ?_
 refine dy aL rfl rfl rfl λw2 az aG gQ=>?_
 have da:=az
 refine cJ (vs:=[str t.aw,.slice pa t.ak.length pc]) aL rfl rfl rfl aG rfl λw3 aH aG df=>?_
 have da:=da.since aH (λx hx=>.inr (by simp at hx;omega))
 refine bI da aP hK λaP hK=>?_
 refine zA<|aZ<|zr<|fQ bh bf λw4 aO lH Hg=>?_
 have ank:=lH.kK
 have aI:=aO
 have jb:=hK.size
 refine W ?_
 refine eA (λq9:Nat×Value×Option Nat=>[(4,.pointer (some ⟨w1.heap.size,0,none⟩)),(5,.bool ((bA s).isSome)),(6,q9.2.1),(7,.int .i64 (q9.1:Int))]) (λq9 w'=>aj [] w3 w'∧q9.1<=t.ak.length∧(0<q9.1->(bA s).isSome=true)∧∃xs,cG w' 9 q9.2.1 q9.2.2 xs∧xs.length=q9.1∧(∀x,x∈xs->x.length<=24002)∧∀b,q9.2.2=some b->w3.heap.size<=b) (λq9=>t.ak.length-q9.1) ((0,.slice (some ⟨w3.heap.size,0,none⟩) 0 0,some w3.heap.size)) (⟨rfl,rfl,rfl,rfl⟩) (⟨aI,sm,sm,[],ank,rfl,sm,by intro b hb;cases hb;exact lR _⟩) λgg w5 e5 hI=>?_
 obtain⟨k,vf,gf⟩:=gg
 obtain⟨da,hk,BI,xs,hO,mm,uA,fG⟩:=hI
 dsimp only at hk BI hO mm fG
 refine cN da aP hK aG λaP hK aG=>?_
 refine WZ ?_
 apply oB 2 19 21 rfl oQ
 intro _
 exact oQ
 intro xx
 refine aZ<|zc rfl (λh2=>?_) (λh2=>?_)
 have hh:=Bool.and_eq_true_iff.1 h2
 have az:k<t.ak.length:=(by have:=hh.1;simp at this;omega)
 have ba:(bA s).isSome=true:=hh.2
 have cm:=DS hp ba
 have hw2:=cm.2
 have ob:=XX t
 have fx:=eW aP az
 obtain⟨b9,ux,pa9,pc9,e9,jr,du⟩:=fx
 cases e9
 have XY:=cm.1.nth az
 have GH:=kX az
 have rL:=LX _ _ (lR _) XY
 refine WI ?_
 refine zi cz aL rfl rfl az<|W ?_
 refine aA (tT (nth t.ak k).size _ (lR _) XY om om _ _ w5 du) ?_
 rintro _ w6 ⟨rfl,bN⟩
 have oo:=bN.size
 refine bI bN hO da λhO da=>?_
 refine fc bh bf rfl rfl λw7 bW anl oX=>bI bW hO da λhO da=>?_
 refine rV bh bf rfl rfl rfl rfl rfl rfl hO anl om λv9 g9 w8 cZ cE eZ=>?_
 have XM:=da.size
 have da:=da.since cE (λx hx=>.inr (fG x (by simpa using hx)))
 refine WA ?_
 refine mY rfl rfl rfl rfl rfl (kQ (k+1) om _ om)<|zA<|aZ ?_
 exact⟨(k+1,v9,g9),⟨rfl,rfl,rfl,rfl⟩,⟨da,az,λ_=>ba,xs++[(nth t.ak k).text],cZ,by show(xs++[_]).length=k+1;rw[lA,mm];rfl,λx hx=>by rcases mA.1 hx with h9|h9;(·exact uA x h9);(·simp only[List.mem_singleton] at h9;rw[h9];omega),λb hb=>by rcases eZ with h9|h9;(·exact fG b (h9.symm.trans hb));(·rw[h9] at hb;cases hb;omega)⟩,by show t.ak.length-(k+1)<t.ak.length-k;omega⟩
 have bZ:=jR hO
 obtain⟨af,cf,ef⟩:=bZ
 subst ef
 have ob:=XX t
 have hxb:xs.length<=12001:=(by by_cases h0:0<k;(·have:=(DS hp (BI h0)).2;omega);(·omega))
 refine W ?_
 exact⟨_,rfl,⟨_,_,gf,xs,rfl,hO,λb hb=>by have:=fG b hb;omega,sm,hxb,uA⟩,hK⟩
theorem XZ (xs ys:List ai) (hx:xs.length+ys.length<100000000) (v u:Value) (L:List Nat) (w:World) (hv:bc L w v xs) (hu:bc L w u ys):
  bz Tryz.prog 116 [v,u] w λr w'=>(∃g,cG w' 9 r g (xs++ys)∧∀b,g=some b->w.heap.size<=b)∧aj [] w w':=by
 have hv:bc [] w v xs:=hv.fresh sm
 have hu:bc [] w u ys:=hu.fresh sm
 obtain⟨a,n,c,rfl,hn⟩:=dJ hv
 obtain⟨a2,n2,c2,rfl,eU⟩:=dJ hu
 subst hn eU
 have hK:=aj.refl [] w
 refine bS [.tmp 4] 10 Tryz.func116 rfl RQ rfl rfl ?_
 refine W ?_
 refine zI w.heap.size [] bh bf rfl rfl (lR _) sm λw1 aI dk hO=>?_
 have hK:=hK.ext aI
 have fi:=bQ.ext (bQ.fresh hv (L':=w.heap.size::[]) zD) aI
 refine zm<|wP bh bf rfl rfl rfl rfl rfl rfl hO fi Jy (by rw[qb];simp;omega) λa4 fR g4 w2 iY az=>?_
 have hK:=hO.since hK az
 have Np:=bQ.ext (bQ.fresh hu (L':=g4.toList++[]) (λx hx=>by rcases mA.1 hx with hx|hx;(·exact .inr (iY.low x (by simpa using hx)));(·exact .inl hx))) hK
 refine zm<|wP bh bf rfl rfl rfl rfl rfl rfl iY Np Jy (by simp only[lA,qb];simp;omega) λa5 Jz g5 w3 kO aH=>?_
 have hK:=iY.since hK aH
 have jG:=kO.low
 rw[List.nil_append,Uy] at kO
 refine W ?_
 exact⟨_,rfl,⟨g5,kO.uP,jG⟩,hK⟩
theorem ann (bk:Bk) (h1:bk.bY.length<=1000000) (h2:bk.code.length<=1000000) (v:Value) (L:List Nat) (w:World) (hv:qP L w v bk):
  bz Tryz.prog 83 [v] w λr w'=>(∃v1 v2 g1 g2,r= .agg #[str bk.aM,v1,v2]∧cG w' 9 v1 g1 bk.bY∧cG w' 9 v2 g2 bk.code∧(∀x,x∈g1.toList->w.heap.size<=x∧x∉g2.toList)∧∀x,x∈g2.toList->w.heap.size<=x∧x∉g1.toList)∧aj [] w w':=by
 obtain⟨b1,n1,c1,b2,n2,c2,rfl,fx,eU,cv,ck⟩:=DK hv
 have cv:bc [] w _ bk.bY:=bc.fresh cv sm
 have ck:bc [] w _ bk.code:=bc.fresh ck sm
 have hK:=aj.refl [] w
 refine kW [.cell 2 58] 12 Tryz.func83 rfl acJ rfl rfl rfl ?_
 refine zr<|eH rfl λw1 aI aX dk=>cN aI hK cv ck λhK cv ck=>?_
 refine dy fV rfl rfl rfl λw2 az aU dC=>?_
 have mG:=hK.ext az
 refine cN az cv ck aX λcv ck aX=>?_
 have aX:dM [] w2 w.heap.size _ _:=⟨aX,sm⟩
 have jb:=mG.size
 have arT:=aU.lt
 refine W ?_
 apply jF dj ([]) 9 (rA 3 9) (rA 3 9) [[],[0],[],[2],[3],[],[5],[6],[1,4,7]] [Ie.v _,Ie.v _,Ie.v _,Ie.v _,Ie.e 0,Ie.v _,Ie.v _,Ie.e 1,Ie.e 2] [4,7,8] [fun(G:List Nat) (vs:List Value) (ww:World)=>G=[]∧aj [] w2 ww,fun(G:List Nat) (vs:List Value) (ww:World)=>G=[]∧aj [] w2 ww∧∃g1,cG ww 9 (vs.getD 0 undef) g1 bk.bY∧∀x,x∈g1.toList->w2.heap.size<=x,fun(G:List Nat) (vs:List Value) (ww:World)=>G=[]∧aj [] w2 ww∧∃g1 g2,cG ww 9 (vs.getD 0 undef) g1 bk.bY∧cG ww 9 (vs.getD 1 undef) g2 bk.code∧(∀x,x∈g1.toList->w2.heap.size<=x∧x∉g2.toList)∧∀x,x∈g2.toList->w2.heap.size<=x∧x∉g1.toList,fun(G:List Nat) (vs:List Value) (ww:World)=>aj [] w2 ww∧∃g1 g2 b3 m3 d3 b4 m4 d4,vs.getD 2 undef= .agg #[str bk.aM,.slice b3 m3 d3,.slice b4 m4 d4]∧cG ww 9 (.slice b3 m3 d3) g1 bk.bY∧cG ww 9 (.slice b4 m4 d4) g2 bk.code∧(∀x,x∈g1.toList->w2.heap.size<=x∧x∉g2.toList)∧∀x,x∈g2.toList->w2.heap.size<=x∧x∉g1.toList] de rfl ((λx hx=>by simp at hx)) (by exact trivial) (by exact⟨λG vs w w' ⟨h1,h2⟩ k=>⟨h1,h2.ext k⟩,λG vs w w' ⟨h1,h2,g1,h3,h4⟩ k=>⟨h1,h2.ext k,g1,h3.ext k,h4⟩,λG vs w w' ⟨h1,h2,g1,g2,h3,h4,h5,h6⟩ k=>⟨h1,h2.ext k,g1,g2,h3.ext k,h4.ext k,h5,h6⟩,λG vs w w' ⟨h2,g1,g2,b3,m3,d3,b4,m4,d4,e,h3,h4,h5,h6⟩ k=>⟨h2.ext k,g1,g2,b3,m3,d3,b4,m4,d4,e,h3.ext k,h4.ext k,h5,h6⟩,trivial⟩) (⟨rfl,aj.refl _ _⟩)
 refine FA ?_
 refine ve 0 (λx w3 G3 aS jo kr hJ hlen=>?_) ?_
 have aW:=jh hlen
 subst aW
 have cv:=cv.go jo
 obtain⟨bO,bP⟩:=hJ
 subst bO
 refine aA (XZ bk.bY [] so _ _ [] w3 cv (.nil _ _ _)) ?_
 rintro v20 w4 ⟨⟨g1,pr,p6⟩,xB⟩
 rw[List.append_nil] at pr
 exact fe ([]) (Fr.of xB sm) ((λz hz=>by simp at hz)) (⟨rfl,bP.trans xB,g1,pr,λx hx=>Nat.le_trans bP.size (p6 x (by simpa using hx))⟩)
 refine FA ?_
 refine ve 1 (λx w3 G3 aS jo kr hJ hlen=>?_) ?_
 have aQ:=ji hlen
 obtain⟨q0,aW⟩:=aQ
 subst aW
 have ck:=ck.go jo
 obtain⟨bO,bP,g1,pr,p6⟩:=hJ
 subst bO
 refine aA (XZ bk.code [] so _ _ [] w3 ck (.nil _ _ _)) ?_
 rintro v21 w4 ⟨⟨g2,fZ,iO⟩,xu⟩
 rw[List.append_nil] at fZ
 exact fe ([]) (Fr.of xu sm) ((λz hz=>by simp at hz)) (⟨rfl,bP.trans xu,g1,g2,pr.ext xu,fZ,λx hx=>⟨p6 x hx,λhy=>by have h8:=pr.lt x hx;have h9:=iO x (by simpa using hy);omega⟩,λx hx=>⟨Nat.le_trans bP.size (iO x (by simpa using hx)),λhy=>by have h8:=pr.lt x hy;have h9:=iO x (by simpa using hx);omega⟩⟩)
 refine ve 2 (λx w3 G3 aS jo kr hJ hlen=>?_) ?_
 have aQ:=k9 hlen
 obtain⟨q0,q1,aW⟩:=aQ
 subst aW
 obtain⟨bO,bP,g1,g2,pr,fZ,p6,iO⟩:=hJ
 subst bO
 have bZ:=jR pr
 obtain⟨b3,d3,e3⟩:=bZ
 have e5:q0=_:=e3
 subst e5
 have bZ:=jR fZ
 obtain⟨b4,d4,e4⟩:=bZ
 have e6:q1=_:=e4
 subst e6
 refine js (IB _ _ _ _ _ _ _ _) rfl rfl ?_
 exact fe ([]) (Fr.refl _ _) kr (⟨bP,g1,g2,_,_,_,_,_,_,rfl,pr,fZ,p6,iO⟩)
 exact trivial
 intro x qx GS aS EA Nq hJ hlen
 have aQ:=Aj hlen
 obtain⟨q0,q1,q2,aW⟩:=aQ
 subst aW
 change OW _ _ _ _ _ (bo (bj _ x _) (zZ 3 [_,_,_,_,_,_,_,_,_])) _
 obtain⟨bP,g1,g2,b3,m3,d3,b4,m4,d4,e9,pr,fZ,p6,iO⟩:=hJ
 have e8:q2=_:=e9
 subst e8
 have aU:=aU.ext bP
 refine cJ (vs:=[str bk.aM,.slice b3 m3 d3,.slice b4 m4 d4]) fV rfl rfl rfl aU rfl λoZ jy aU df=>?_
 have pr:=pr.aF jy (λx hx hy=>by have:=(p6 x (by simp[hx])).1;simp at hy;omega)
 have fZ:=fZ.aF jy (λx hx hy=>by have:=(iO x (by simp[hx])).1;simp at hy;omega)
 have fp:=(mG.ext bP).since jy (λx hx=>.inr (by simp at hx;omega))
 refine W ?_
 exact⟨[_],ga DU fV rfl aU rfl,⟨_,_,g1,g2,rfl,pr,fZ,λx hx=>⟨by have:=(p6 x hx).1;omega,(p6 x hx).2⟩,λx hx=>⟨by have:=(iO x hx).1;omega,(iO x hx).2⟩⟩,fp⟩
theorem X0 (h:jt bs=true):bs.length<=40∧1<=bs.length∧∀i,i<bs.length->(bR bs i).bY.length<=40∧1<=(bR bs i).code.length∧(bR bs i).code.length<=80:=by
 have hb:=FV h
 unfold jt at h
 simp only[aE,dE] at h
 refine⟨h.2.1.1.2,h.2.1.1.1,λi hi=>?_⟩
 have:=hb (bR bs i) (List.mem_of_getElem? (pC hi))
 unfold lZ at this
 simp only[aE,dE] at this
 exact⟨this.1.1.1.2,this.1.1.2.1,this.1.1.2.2⟩
theorem ano (h:i<bs.length):bs.take (i+1)=bs.take i++[bR bs i]:=by
 rw[List.take_succ_eq_append_getElem h];simp[bR,gE h]
theorem anp {h:ai} {ps:List ai} {m:Nat} (hp:∀x,x∈ps->x.length<=m):(dR h ps).length<=h.length+2+ps.length*(m+1):=by
 rw[lE]
 have:ju ps<=ps.length*(m+1):=by
  clear h
  induction ps with
  |nil=>simp[ju]
  |cons p l ih=>
   have h1:=hp p sm
   have h2:=ih (λx hx=>hp x (by simp[hx]))
   simp only[ju,List.map_cons,List.sum_cons,lC,Nat.add_mul,Nat.one_mul] at h2⊢
   omega
 omega
theorem X4 {α:Type} {l:List α} {y x:α} (h:x∈l.set i y):x∈l∨x=y:=List.mem_or_eq_of_mem_set h
theorem anq (bs:List Bk) (nO:jt bs=true) (br q:Nat) (hq:q<=800000000) (v:Value) (w:World) (h:dD w br q) (hv:nR [] w v bs):
  bz Tryz.prog 95 [.pointer (some ⟨br,0,none⟩),v] w λr w'=>(∃bs' g,Gr w.heap.size [br] w' 58 3 r g (bs'.map Bk.enc)∧vX bs bs')∧dD w' br (q+10)∧aj [br] w w':=by
 obtain⟨a,n0,c,rfl,wO⟩:=zG hv
 obtain⟨O7,aX,fI⟩:=X0 nO
 have iq:=h.lt
 have hK:=aj.refl [] w
 have cO:=hv
 have S9:=h
 refine bS [.tmp 4] 140 Tryz.func95 rfl acR rfl rfl ?_
 refine W ?_
 refine fQ iL fV λw1 aI lH dk=>cN aI hK h hv λhK h hv=>?_
 refine W ?_
 refine eA (λq9:Nat×Value=>[(0,.pointer (some ⟨br,0,none⟩)),(1,.slice a n0 c),(5,q9.2),(6,.int .i64 (q9.1:Int))]) (λq9 w'=>aj [] w w'∧q9.1<=n0∧∃g gss vss,lY w' 58 9 q9.2 g gss vss (bs.take q9.1)∧∀x,x∈g.toList++gx gss->w.heap.size<=x) (λq9=>n0-q9.1) ((0,.slice (some ⟨w.heap.size,0,none⟩) 0 0)) (⟨rfl,rfl,rfl,rfl⟩) (⟨hK,sm,some w.heap.size,[],[],lY.zero lH,by intro x hx;simp[gx] at hx;omega⟩) λgg w2 e2 hI=>?_
 obtain⟨i,vo⟩:=gg
 obtain⟨hK,hi,g,gss,vss,hO,jG⟩:=hI
 dsimp only at hi hO
 have hv:=cO.ext hK
 have h:=S9.ext hK
 refine W ?_
 refine zc rfl (λh1=>?_) (λh1=>?_)
 have lN:i<bs.length:=(by simp at h1;omega)
 have ey:=pC lN
 have hgv:=BQ hv ey
 obtain⟨b,off,ra,rn,rc,ca,cn,c3,e1,hc,rj,xw,cV,dm⟩:=hgv
 subst e1
 have xG:=fI i lN
 have arU:=hK.size
 have PV:∀x,x∈g.toList++gx gss->x<w2.heap.size:=(λx hx=>(mA.1 hx).elim (λh9=>hO.own.lt x (by simpa using h9)) (hO.lt x))
 have fF:(bs.take i).length=i:=(by rw[List.length_take];omega)
 refine W ?_
 refine aA (ann (bR bs i) om om _ [] w2 (BP cV dm)) ?_
 rintro v3 w3 ⟨ko,aH⟩
 have fm:=aH.size
 refine bI aH hK hO λhK hO=>?_
 obtain⟨v1,v2,g1,g2,e2,pr,fZ,p6,iO⟩:=ko
 subst e2
 have bZ:=jR pr
 obtain⟨a1,c1,e1⟩:=bZ
 subst e1
 have bZ:=jR fZ
 obtain⟨a2,c2,e2⟩:=bZ
 subst e2
 refine fc iL fV rfl rfl λw4 aO C5 gQ=>ie aO hK hO pr fZ λhK hO pr fZ=>?_
 refine amX (f:=bR bs i) (gs:=(g1,g2)) iL fV rfl rfl rfl rfl rfl rfl hO C5 pr fZ (λx hx fj=>by have h8:=PV x fj;rcases mA.1 hx with h9|h9;(·have:=(p6 x h9).1;omega);(·have:=(iO x h9).1;omega)) (List.nodup_append.2 ⟨by cases g1<;>simp,by cases g2<;>simp,λx hx y hy e=>by subst e;exact(p6 x hx).2 hy⟩) om λa4 fR g4 w5 hO aN hg4=>?_
 have XM:=hK.size
 have ant:∀x,x∈g4.toList++gx (gss++[(g1,g2)])->w.heap.size<=x:=(λx hx=>by rcases mA.1 hx with h9|h9;(·rcases hg4 with h8|⟨z,h8,hz⟩;(·rw[h8] at h9;exact jG x (by simp at h9;simp[h9]));(·rw[h8] at h9;simp at h9;omega));(·rw[ML] at h9;rcases mA.1 h9 with h8|h8;(·exact jG x (by simp[h8]));(·rcases mA.1 h8 with h7|h7;(·have:=(p6 x h7).1;omega);(·have:=(iO x h7).1;omega))))
 have hK:=hK.since aN (λx hx=>.inr (jG x (by simp at hx;simp[hx])))
 refine WA ?_
 refine mY rfl rfl rfl rfl rfl (kQ (i+1) om _ om)<|zA<|aZ ?_
 exact⟨(i+1,_),⟨rfl,rfl,rfl,rfl⟩,⟨hK,by show i+1<=n0;omega,g4,_,_,by rw[ano lN];exact hO,ant⟩,by show n0-(i+1)<n0-i;omega⟩
 have cL:bs.take i=bs:=List.take_of_length_le (by simp at h1;omega)
 rw[cL] at hO
 have bZ:=hO.own.len
 obtain⟨ao,co,eo⟩:=bZ
 subst eo
 have ej:=hK.mono (L':=[br]) sm
 refine W ?_
 refine aA (lQ bs.length om om br q om w2 h) ?_
 rintro v31 w3 ⟨⟨k,yU,hk⟩,h,aB⟩
 subst yU
 have ej:=ej.trans aB
 have hO:=hO.aF aB (λx hx hy=>by have:=jG x hx;simp at hy;omega)
 have gL:=hO.get hk
 obtain⟨uC,gs,a1,c1,a2,c2,e1,e2,uh,uq,jm,aW,kh,fx,eU,KV⟩:=gL
 subst e1
 have zh:∀x,x∈g.toList++gx gss->x∉[br]:=(λx hx hy=>by have:=jG x hx;simp at hy;omega)
 have hc:fy [br] w3 uC (0+k*3) _:=⟨kh,uh,λhy=>zh uC (by rw[e2];simp) hy⟩
 have hr:bc [br] w3 _ _:=eU.rep (λb hb=>zh b (mR _ (Ck jm (by simp[iU,hb]))))
 have xG:=fI k hk
 refine WI ?_
 refine zi iL fV rfl rfl hk<|zf zU rfl<|zl tK rfl (hc.cells 2 _ rfl)<|Fq bh rfl rfl rfl<|aA (lQ (bR bs k).code.length om om br (q+1) om w3 h) ?_
 rintro v31 w4 ⟨⟨n,yU,hn⟩,h,aB⟩
 subst yU
 have ej:=ej.trans aB
 have hO:=hO.aF aB (λx hx hy=>by have:=jG x hx;simp at hy;omega)
 have hc:=hc.aD aB sm;have hr:=hr.aD aB sm
 have ey:=nN hr hn
 obtain⟨b9,ux,e9,jr⟩:=ey
 subst e9
 refine WI ?_
 refine zi iL fV rfl rfl hk<|zf zU rfl<|zl tK rfl (hc.cells 2 _ rfl)<|zm<|zi bh bf rfl rfl hn<|WZ ?_
 have hkw:=ej.size
 have anv:∀x,x∈g.toList++gx gss->x<w4.heap.size:=(λx hx=>(mA.1 hx).elim (λh9=>hO.own.lt x (by simpa using h9)) (hO.lt x))
 refine aA (anj (bX (bR bs k).code n) w4) ?_
 rintro v5 w5 ⟨sJ,aN⟩
 have l3:=aN.size
 refine tS aN h hO ej hc hr jr λh hO ej hc hr jr=>?_
 obtain⟨vp,ok,gp,ps,e9,hP,fG,ba,ob,Dn⟩:=sJ
 subst e9
 have hgp:∀x,x∈gp.toList->x∉g.toList++gx gss:=(λx hx hy=>by have h8:=anv x hy;have h9:=fG x (by simpa using hx);omega)
 have fG:∀b,gp=some b->w.heap.size<=b:=(λb hb=>Nat.le_trans hkw (fG b hb))
 have bZ:=jR hP
 obtain⟨ap,cp,ep⟩:=bZ
 subst ep
 refine W ?_
 refine zc rfl (λh2=>?_) (λh2=>?_)
 refine W ?_
 exact⟨_,rfl,⟨bs,_,hO.gr zh (λb hb=>jG b (by simp[hb])) (λx hx=>by simp at hx;subst hx;exact h.lt) ej.size,vX.refl bs⟩,h.more om,ej⟩
 have mz:0<ps.length:=(by rw[ba] at h2;simpa using h2)
 have EN:=hP.form mz
 obtain⟨bp,ep,eg⟩:=EN
 subst ep
 have hbp:=fG bp eg
 have arW:=hP.lt bp (by simp[eg])
 refine W ?_
 refine aA (lQ ps.length mz om br (q+2) om w5 h) ?_
 rintro v31 w6 ⟨⟨j,yU,hj⟩,h,aB⟩
 subst yU
 have ej:=ej.trans aB
 have hO:=hO.aF aB (λx hx hy=>by have:=jG x hx;simp at hy;omega)
 have hP:=hP.aF aB (λb hb hy=>by have:=fG b hb;simp at hy;omega)
 refine W ?_
 refine ix (λ_:List ai=>[(0,.pointer (some ⟨br,0,none⟩)),(5,.slice (some ⟨uC,0,none⟩) bs.length co),(7,.int .i64 (k:Int)),(8,.int .i64 (n:Int)),(9,(.slice (some ⟨bp,0,none⟩) ps.length cp))]) (λp2 ww=>aj [br] w ww∧dD ww br (q+5)∧lY ww 58 9 (.slice (some ⟨uC,0,none⟩) bs.length co) g gss vss bs∧cG ww 9 (.slice (some ⟨bp,0,none⟩) ps.length cp) gp p2∧p2.length=ps.length∧∀x,x∈p2->x.length<=24002) ?_ ?_
 refine zc rfl (λh3=>?_) (λh3=>?_)
 have Bf:bc [br] w6 (.slice (some ⟨bp,0,none⟩) ps.length cp) ps:=hP.rep (λb hb hy=>by have:=fG b hb;simp at hy;omega)
 have ey:=nN Bf hj
 obtain⟨b8,anx,e8,HU⟩:=ey
 cases e8
 have hxj:=Dn _ (List.mem_of_getElem? (km hj))
 have pS:eO [br] w6:=(λz hz=>by simp at hz;subst hz;exact h.lt)
 apply jF dj ([br]) 11 (rA 61 11) (rA 61 11) [[],[],[],[],[3],[],[],[5,6],[7],[4,8],[2,9]] [Ie.v _,Ie.v _,Ie.v _,Ie.v _,Ie.q 0 (fun(v:Value)=>∃x,v=str x∧x.length<=24002),Ie.v _,Ie.v _,Ie.v _,Ie.v _,Ie.p (fun(G:List Nat) (v:Value) (ww:World)=>∃x y,x.length<=24002∧y.length<=24002∧bc G ww v [x,[98,48],[101,110,100],[49],[105],y]),Ie.q 1 (fun(v:Value)=>∃x,v=str x∧x.length<=24002)] [4,10] [fun(G:List Nat) (vs:List Value) (ww:World)=>G=[br]∧aj [br] w6 ww∧dD ww br (q+3),fun(G:List Nat) (vs:List Value) (ww:World)=>G=[br]∧aj [br] w6 ww∧dD ww br (q+4),fun(G:List Nat) (vs:List Value) (ww:World)=>G=[br]∧aj [br] w6 ww∧dD ww br (q+5)] de rfl pS (by exact⟨λG v w G' w' ⟨x,y,h1,h2,h3⟩ k=>⟨x,y,h1,h2,bc.go h3 k⟩,trivial⟩) (by exact⟨λG vs w w' ⟨h1,h2,h3⟩ k=>⟨h1,h2.ext k,h3.ext k⟩,λG vs w w' ⟨h1,h2,h3⟩ k=>⟨h1,h2.ext k,h3.ext k⟩,λG vs w w' ⟨h1,h2,h3⟩ k=>⟨h1,h2.ext k,h3.ext k⟩,trivial⟩) (⟨rfl,aj.refl _ _,h⟩)
 refine FA ?_
 refine ve 0 (λx w7 G7 aS mQ lj hJ hlen=>?_) ?_
 have aW:=jh hlen
 subst aW
 obtain⟨bO,bP,h⟩:=hJ
 subst bO
 refine aA (H2 br (q+3) om w7 h) ?_
 rintro v9 w8 ⟨⟨z9,df,e9⟩,h,aB⟩
 subst e9
 have eu:=sM (n:=z9) om
 exact fq ([br]) (Fr.of aB sm) ((λz hz=>lL (lj z hz) aB.size)) (⟨rfl,bP.trans aB,h⟩) (⟨_,rfl,om⟩)
 refine FA ?_
 refine vf (λx w7 G7 aS mQ lj=>?_) ?_
 intro v4 PC d4
 obtain⟨y4,e4,Ci⟩:=d4
 subst e4
 refine aeR bh bf rfl rfl rfl rfl rfl rfl rfl rfl λw8 cE Oq ld=>?_
 exact ff cE (⟨y4,bX ps j,Ci,hxj,aJ.dK [y4,[98,48],[101,110,100],[49],[105],bX ps j] Oq (λhx=>by have:=lj _ hx;omega)⟩)
 refine ve 1 (λx w7 G7 aS mQ lj hJ hlen=>?_) ?_
 have aQ:=ji hlen
 obtain⟨q0,aW⟩:=aQ
 subst aW
 intro v9 d9
 obtain⟨bO,bP,h⟩:=hJ
 subst bO
 obtain⟨x8,y8,VQ,hy8,hr8⟩:=d9
 refine aA (mi [x8,[98,48],[101,110,100],[49],[105],y8] sm sm br (q+4) om _ w7 h hr8) ?_
 rintro v9 w8 ⟨⟨x9,iB,e9⟩,h,aB⟩
 subst e9
 have eu:x9.length<=24002:=(by simp only[mC,List.not_mem_nil,or_false] at iB;rcases iB with rfl|rfl|rfl|rfl|rfl|rfl<;>first|omega|decide)
 exact fq ([br]) (Fr.of aB sm) ((λz hz=>lL (lj z hz) aB.size)) (⟨rfl,bP.trans aB,h⟩) (⟨_,rfl,eu⟩)
 exact trivial
 intro x r5 J8 aS xo J9 hJ hlen
 have aQ:=k9 hlen
 obtain⟨q0,q1,aW⟩:=aQ
 subst aW
 intro v4 PC d4
 intro v9 d9
 intro v10 XR d10
 change OW _ _ _ _ _ (bo (bj _ x _) (zZ 61 [_,_,_,_,_,_,_,_,_,_,_])) _
 obtain⟨bO,bP,h⟩:=hJ
 subst bO
 obtain⟨KT,fo,EH⟩:=d10
 subst fo
 have ej:=ej.trans bP
 have hO:=hO.aF bP (λx hx hy=>by have:=jG x hx;simp at hy;omega)
 have hP:=hP.aF bP (λb hb hy=>by have:=fG b hb;simp at hy;omega)
 refine zi bh bf rfl rfl hj<|Tb (i:=j) bf rfl rfl rfl om hP hj λwZ l6 hP df=>?_
 have hO:=hO.aF l6 (λx hx hy=>hgp x hy hx)
 have h:=h.aF l6 (λx hx=>by have:=fG x (by simpa using hx);omega)
 have ej:=ej.since l6 (λx hx=>.inr (fG x (by simpa using hx)))
 refine W ?_
 exact⟨ps.set j KT,⟨rfl,rfl,rfl,rfl,rfl⟩,ej,h.more om,hO,hP,by rw[List.length_set],λx hx=>by rcases X4 hx with h9|h9;(·exact Dn x h9);(·rw[h9];exact EH)⟩
 refine WZ ?_
 exact⟨ps,⟨rfl,rfl,rfl,rfl,rfl⟩,ej,h.more om,hO,hP,rfl,Dn⟩
 intro gu w7 e7 hI
 obtain⟨ej,h,hO,hP,arY,X5⟩:=hI
 have gL:=hO.get hk
 obtain⟨uC,gs,a1,c1,a2,c2,e1,e2,uh,uq,jm,aW,kh,fx,eU,KV⟩:=gL
 cases e1
 have zh:∀x,x∈g.toList++gx gss->x∉[br]:=(λx hx hy=>by have:=jG x hx;simp at hy;omega)
 have hc:fy [br] w7 uC (0+k*3) _:=⟨kh,uh,λhy=>zh uC (by rw[e2];simp) hy⟩
 have hr:bc [br] w7 _ _:=eU.rep (λb hb=>zh b (mR _ (Ck jm (by simp[iU,hb]))))
 have ey:=nN hr hn
 obtain⟨b9,ux,e9,jr⟩:=ey
 subst e9
 have Bf:bc [] w7 (.slice (some ⟨bp,0,none⟩) ps.length cp) gu:=hP.rep sm
 have ey:=nN Bf (i:=0) om
 obtain⟨b8,anx,e8,HU⟩:=ey
 cases e8
 refine WZ ?_
 have yb:(dR (bX gu 0) (gu.drop 1)).length<=1000000000:=(by have h1:=anp (h:=bX gu 0) (ps:=gu.drop 1) (m:=24002) (λx hx=>X5 x (List.mem_of_mem_drop hx));have h2:=X5 _ (List.mem_of_getElem? (km (xs:=gu) (i:=0) om));rw[List.length_drop] at h1;have h3:(gu.length-1)*(24002+1)<=12001*24003:=Nat.mul_le_mul om om;omega)
 apply uZ dj 6 (rA 73 6) (rA 73 6) [[],[0],[1],[],[3],[2,4]] [It.v _,It.v _,It.v _,It.v _,It.p (fun(v:Value) (ww:World)=>bc [] ww v (gu.drop 1)),It.v _] de (by exact⟨λv w w' h k=>bc.ext h k,trivial⟩)
 intro wd aC
 refine VA ?_
 refine vk aC (λx w8 cE=>?_) ?_
 have Bf:=Bf.ext cE
 refine Fu (l:=1) bh bf rfl rfl rfl rfl om Bf λBw aW=>?_
 exact pf (aj.refl _ _) ((show bc [] _ Bw (gu.drop 1) from by unfold bc fU;rw[List.map_drop];exact aW))
 refine vk aC (λx w8 cE=>?_) ?_
 intro v4 d4
 refine aA (ye (bX gu 0) (gu.drop 1) yb _ [] w8 d4) ?_
 rintro _ w9 ⟨rfl,aB⟩
 have o7:=aB.size
 exact pk aB
 exact trivial
 intro x wZ l6
 intro v4 d4
 refine Cd l6 h ej hO hc hr jr fx eU λh ej hO hc hr jr fx eU=>?_
 change OW _ _ _ _ _ (bo (bj _ x _) (zZ 73 [_,_,_,_,_,_])) _
 refine W ?_
 refine D8 [79,80,81,82,83,84,85,86,87,88,89,90,91,92,93,94] [(94,.bool (sq (dR (bX gu 0) (gu.drop 1))&&(decide (DO (dR (bX gu 0) (gu.drop 1))=DO (bX (bR bs k).code n)))))] ?_ ?_
 rcases bE (sq (dR (bX gu 0) (gu.drop 1))) with iD|iD
 apply k8 dj 16 (rA 79 16) (rA 79 16) [[],[0],[1],[2],[2,3],[2],[2],[2,5,6],[2,7],[2,8],[2],[2,9,10],[2,11],[2,12],[2,4,13],[2,14]] [It.v _,It.v _,It.v (.bool true),It.v _,It.v _,It.v _,It.v _,It.v _,It.v _,It.v _,It.v _,It.v _,It.v _,It.v _,It.v _,It.v _] de rfl
 intro wd aC
 refine VA ?_
 refine vk aC (λx lJ lK=>?_) ?_
 refine aA (Gu (dR (bX gu 0) (gu.drop 1)) lJ) ?_
 rintro _ ot ⟨rfl,iE⟩
 have PW:=iE.size
 exact pk iE
 refine vc (λx lJ lK=>?_) ?_
 refine WZ ?_
 exact pv (by exact congrArg Value.bool iD)
 refine VA ?_
 refine vk aC (λx lJ lK=>?_) ?_
 refine aA (Ja (dR (bX gu 0) (gu.drop 1)) lJ) ?_
 rintro _ ot ⟨rfl,iE⟩
 have PW:=iE.size
 exact pk iE
 refine vc (λ_ _ _=>WZ pv) ?_
 refine vc (λ_ _ _=>WZ pv) ?_
 refine vk aC (λx lJ lK=>?_) ?_
 refine zi iL fV rfl rfl hk ?_
 exact pv
 refine VA ?_
 refine vk aC (λx lJ lK=>?_) ?_
 have hc:=hc.ext lK
 refine zl tK rfl (hc.cells 2 _ rfl) ?_
 exact pv
 refine vc (λ_ _ _=>WZ pv) ?_
 refine vk aC (λx lJ lK=>?_) ?_
 refine zi bh bf rfl rfl hn ?_
 exact pv
 refine VA ?_
 refine vk aC (λx lJ lK=>?_) ?_
 refine aA (Ja (bX (bR bs k).code n) lJ) ?_
 rintro _ ot ⟨rfl,iE⟩
 have PW:=iE.size
 exact pk iE
 exact VZ
 intro x NX ow
 change OW _ _ _ _ [] (bo (bj _ x _) (zZ 79 [_,_,_,_,_,_,_,_,_,_,_,_,_,_,_,_])) _
 refine W ?_
 exact kE ow
 apply k8 dj 16 (rA 79 16) (rA 79 16) [[],[0],[1],[2],[2,3],[2],[2],[2,5,6],[2,7],[2,8],[2],[2,9,10],[2,11],[2,12],[2,4,13],[2,14]] [It.v _,It.v _,It.v (.bool false),It.v _,It.v _,It.v _,It.v _,It.v _,It.v _,It.v _,It.v _,It.v _,It.v _,It.v _,It.v _,It.v _] de rfl
 intro wd aC
 refine VA ?_
 refine vk aC (λx lJ lK=>?_) ?_
 refine aA (Gu (dR (bX gu 0) (gu.drop 1)) lJ) ?_
 rintro _ ot ⟨rfl,iE⟩
 have PW:=iE.size
 exact pk iE
 refine vc (λx lJ lK=>?_) ?_
 refine WZ ?_
 exact pv (by exact congrArg Value.bool iD)
 exact VZ
 intro x NX ow
 change OW _ _ _ _ [] (bo (bj _ x _) (zZ 79 [_,_,_,_,_,_,_,_,_,_,_,_,_,_,_,_])) _
 refine W ?_
 exact kE ow
 intro x NX ow
 refine Cd ow h ej hO hc hr jr fx eU λh ej hO hc hr jr fx eU=>?_
 refine ix (λ_:List Bk=>[(0,.pointer (some ⟨br,0,none⟩)),(5,.slice (some ⟨uC,0,none⟩) bs.length co),(7,.int .i64 (k:Int)),(8,.int .i64 (n:Int))]) (λcs ww=>aj [br] w ww∧dD ww br (q+5)∧(∃X6,lY ww 58 9 (.slice (some ⟨uC,0,none⟩) bs.length co) g gss X6 cs)∧vX bs cs) ?_ ?_
 refine zc rfl (λh4=>?_) (λh4=>?_)
 have anB:sq (dR (bX gu 0) (gu.drop 1))=true:=(Bool.and_eq_true_iff.1 h4).1
 have EN:=eU.form om
 obtain⟨b7,e7,eg2⟩:=EN
 cases e7
 refine kH<|zm<|zm<|zi iL fV rfl rfl hk<|zf zU rfl<|zl tK rfl (hc.cells 2 _ rfl)<|zm<|zm<|zi bh bf rfl rfl hn<|Tb (i:=n) bf rfl rfl rfl om eU hn λGZ A7 eU df=>?_
 have hO:=hO.row (f:={bR bs k with code:=(bR bs k).code.set n (dR (bX gu 0) (gu.drop 1))}) jm aW A7 (λx hx=>by simp[iU,hx]) ⟨_,_,rfl,fx.aF A7 (λb hb hy=>KV b hb (by simpa using hy)),by rw[show({bR bs k with code:=(bR bs k).code.set n (dR (bX gu 0) (gu.drop 1))}:Bk).code=(bR bs k).code.set n (dR (bX gu 0) (gu.drop 1)) from rfl];exact eU⟩
 have h:=h.aF A7 (λx hx=>by have:=jG x (mR _ (Ck jm (by simp[iU,hx])));omega)
 have ej:=ej.since A7 (λx hx=>.inr (jG x (mR _ (Ck jm (by simp[iU,hx])))))
 refine W ?_
 exact⟨_,⟨rfl,rfl,rfl,rfl⟩,ej,h,⟨_,hO⟩,(vX.refl bs).set hk (by rw[List.length_set];exact lR _) (λx hx=>by rcases X4 hx with h9|h9;(·exact .inl h9);(·rw[h9];exact .inr anB))⟩
 refine WZ ?_
 exact⟨bs,⟨rfl,rfl,rfl,rfl⟩,ej,h,⟨_,hO⟩,vX.refl bs⟩
 intro gu GZ e88 hI
 obtain⟨ej,h,⟨X6,hO⟩,hH⟩:=hI
 have kL:k<gu.length:=(by rw[hH.1];exact hk)
 have gL:=hO.get kL
 obtain⟨uC,gs,a1,c1,a2,c2,e1,e2,uh,uq,jm,aW,kh,fx,eU,KV⟩:=gL
 cases e1
 refine jL<|zr<|zm<|aA (lQ 6 de de br (q+5) om GZ h) ?_
 rintro v31 xd ⟨⟨z,yU,hz⟩,h,aB⟩
 subst yU
 have ej:=ej.trans aB
 have hO:=hO.aF aB (λx hx hy=>by have:=jG x hx;simp at hy;omega)
 have gL:=hO.get kL
 obtain⟨uC,gs,a1,c1,a2,c2,e1,e2,uh,uq,jm,aW,kh,fx,eU,KV⟩:=gL
 cases e1
 have zh:∀x,x∈g.toList++gx gss->x∉[br]:=(λx hx hy=>by have:=jG x hx;simp at hy;omega)
 have PV:∀x,x∈g.toList++gx gss->x<xd.heap.size:=(λx hx=>(mA.1 hx).elim (λh9=>hO.own.lt x (by simpa using h9)) (hO.lt x))
 have hc:fy [] xd uC (0+k*3) _:=⟨kh,uh,sm⟩
 have hr:bc [] xd _ _:=eU.rep sm
 have X7:=hH.2 k hk
 have lW:(bR gu k).code.length<=80:=Nat.le_trans X7.2.2.1 (fI k hk).2.2
 have ar1:=ej.size
 refine WZ ?_
 apply oB 10 106 116 rfl oQ
 intro h5
 refine zm<|mY rfl rfl rfl rfl rfl (kQ (n+1) om _ om)<|zm<|zm<|zi iL fV rfl rfl hk<|zf zU rfl<|zl tK rfl (hc.cells 2 _ rfl) ?_
 exact oQ
 intro xx
 refine aZ<|zc rfl (λh6=>?_) (λh6=>?_)
 have pg:n+1<(bR gu k).code.length:=(by have h9:=of_decide_eq_true (Bool.and_eq_true_iff.1 h6).2;omega)
 have ey:=nN hr (i:=n) om
 obtain⟨b9,ux,e9,jr⟩:=ey
 subst e9
 apply jF dj ([]) 20 (rA 117 20) (rA 117 20) [[],[],[],[],[],[3,4],[5],[6],[],[7,8],[2,9],[],[],[11,12],[13],[14],[],[16],[15,17],[10,18]] [Ie.v _,Ie.v _,Ie.p (fun(G:List Nat) (v:Value) (ww:World)=>∃bb,v= .slice (some ⟨bb,0,none⟩) 0 0∧dM G ww bb #[] 9∧xd.heap.size<=bb),Ie.v _,Ie.v _,Ie.v _,Ie.v _,Ie.v _,Ie.v _,Ie.v _,Ie.e 0,Ie.v _,Ie.v _,Ie.v _,Ie.v _,Ie.v _,Ie.v _,Ie.v _,Ie.p (fun(G:List Nat) (v:Value) (ww:World)=>bc G ww v ((bR gu k).code.drop (n+1))),Ie.e 1] [10,19] [fun(G:List Nat) (vs:List Value) (ww:World)=>True,fun(G:List Nat) (vs:List Value) (ww:World)=>∃g7,cG ww 9 (vs.getD 0 undef) g7 ((bR gu k).code.take n)∧qy G ww 9 g7∧(∀x,x∈g7.toList->xd.heap.size<=x),fun(G:List Nat) (vs:List Value) (ww:World)=>∃g7,cG ww 9 (vs.getD 1 undef) g7 ((bR gu k).code.take n++(bR gu k).code.drop (n+1))∧(∀x,x∈g7.toList->xd.heap.size<=x)] de rfl ((λz hz=>by simp at hz)) (by exact⟨λG v w G' w' ⟨bb,e,h,hz⟩ k=>⟨bb,e,h.go k,hz⟩,λG v w G' w' h k=>bc.go h k,trivial⟩) (by exact⟨λ_ _ _ _ _ _=>trivial,λG vs w w' ⟨g7,h2,h3,h4⟩ k=>⟨g7,h2.ext k,h3.ext k,h4⟩,λG vs w w' ⟨g7,h2,h4⟩ k=>⟨g7,h2.ext k,h4⟩,trivial⟩) trivial
 refine FA ?_
 refine vf (λx kF l7 aS jz mH=>?_) ?_
 refine fQ bh bf λqB yC anC JO=>?_
 exact ff yC (⟨_,rfl,anC.o mH,jz.aF.size⟩)
 refine vf (λ_ _ _ _ _ _=>WZ fv) ?_
 refine vf (λ_ _ _ _ _ _=>WZ fv) ?_
 refine vf (λ_ _ _ _ _ _=>zi iL fV rfl rfl hk fv) ?_
 refine FA ?_
 refine vf (λx kF l7 aS jz mH=>?_) ?_
 have hc:=hc.go jz
 refine zl tK rfl (hc.cells 2 _ rfl) ?_
 exact fv
 refine FA ?_
 refine vf (λx kF l7 aS jz mH=>?_) ?_
 have hr:=hr.go jz
 refine W3 (h:=n) bh bf rfl rfl rfl rfl om hr ?_
 exact fv
 refine ve 0 (λx kF l7 aS jz mH hJ hlen=>?_) ?_
 have aW:=jh hlen
 subst aW
 have hr:=hr.go jz
 intro v2 d2
 obtain⟨bb,e2,fH,hN⟩:=d2
 subst e2
 have O8:bc l7 kF _ ((bR gu k).code.take n):=(show bQ _ _ _ (.sl 1 (fU _)) from by have h9:=Pe hr (h:=n) om;unfold fU at h9⊢;rw[List.map_take];exact h9)
 refine Ev bh bf rfl rfl rfl rfl rfl rfl fH.gX.kK O8 ‹_› (λx hx=>.inr (by simp at hx;subst hx;exact fH.gX)) (by rw[List.length_take];simp;omega) λv9 g9 qB G9 cZ Ez o7 kt cP eu aB=>?_
 exact fe G9 cP eu (⟨g9,cZ,Ez,λx hx=>(o7 x hx).elim (λh9=>by simp at h9;subst h9;exact hN) (λh9=>Nat.le_trans jz.aF.size h9)⟩)
 refine vf (λ_ _ _ _ _ _=>WZ fv) ?_
 refine vf (λ_ _ _ _ _ _=>WZ fv) ?_
 refine vf (λ_ _ _ _ _ _=>zi iL fV rfl rfl hk fv) ?_
 refine FA ?_
 refine vf (λx kF l7 aS jz mH=>?_) ?_
 have hc:=hc.go jz
 refine zl tK rfl (hc.cells 2 _ rfl) ?_
 exact fv
 refine vf (λ_ _ _ _ _ _=>WZ fv) ?_
 refine vf (λ_ _ _ _ _ _=>mY rfl rfl rfl rfl rfl (kQ (n+1) om _ om) fv) ?_
 refine vf (λx kF l7 aS jz mH=>?_) ?_
 have hr:=hr.go jz
 refine Fu bh bf rfl rfl rfl rfl om hr ?_
 intro Bw aW
 exact ff (aj.refl _ _) ((show bc _ _ Bw ((bR gu k).code.drop (n+1)) from by unfold bc fU;rw[List.map_drop];exact aW))
 refine ve 1 (λx kF l7 aS jz mH hJ hlen=>?_) ?_
 have aQ:=ji hlen
 obtain⟨q0,aW⟩:=aQ
 subst aW
 intro xl d18
 have hJ:∃g7,cG kF 9 q0 g7 ((bR gu k).code.take n)∧qy l7 kF 9 g7∧(∀x,x∈g7.toList->_<=x):=hJ
 obtain⟨g7,rK,Cy,Cz⟩:=hJ
 refine Ev bh bf rfl rfl rfl rfl rfl rfl rK d18 ‹_› Cy (by rw[List.length_take,List.length_drop];omega) λv9 g9 qB G9 cZ Ez o7 kt cP eu aB=>?_
 exact fe G9 cP eu (⟨g9,cZ,λx hx=>(o7 x hx).elim (Cz x) (λh9=>Nat.le_trans jz.aF.size h9)⟩)
 exact trivial
 intro x JP UU aS Nz af1 hJ hlen
 have aQ:=k9 hlen
 obtain⟨q0,q1,aW⟩:=aQ
 subst aW
 intro v2 d2
 intro xl d18
 change OW _ _ _ _ _ (bo (bj _ x _) (zZ 117 [_,_,_,_,_,_,_,_,_,_,_,_,_,_,_,_,_,_,_,_])) _
 have hJ:∃g7,cG JP 9 q1 g7 ((bR gu k).code.take n++(bR gu k).code.drop (n+1))∧(∀x,x∈g7.toList->_<=x):=hJ
 obtain⟨g7,rK,Cz⟩:=hJ
 have bZ:=jR rK
 obtain⟨a9,c9,e9⟩:=bZ
 subst e9
 have V5:aj [] _ JP:=Nz.aF
 refine cN V5 hO h ej λhO h ej=>?_
 refine zi iL fV rfl rfl hk<|zf zU rfl<|amY (i:=k) (L:=[br]) mu rfl rfl rfl om hO e2 kL rK (λx hx hy=>by have h8:=Cz x hx;have h9:=PV x (by simp at hy;simp[hy]);omega) (λx hx hy=>by rcases mA.1 hx with h9|h9;(·exact zh x h9 hy);(·have h8:=Cz x h9;have h7:=ej.size;simp at hy;omega)) λNA CF hR df=>?_
 have h:=h.aF CF (λx hx=>by have:=jG x (by simp at hx;simp[hx]);omega)
 have ej:=ej.since CF (λx hx=>.inr (jG x (by simp at hx;simp[hx])))
 refine W ?_
 exact⟨_,rfl,⟨_,_,⟨hR,λb hb=>jG b (by simp[hb]),λx hx=>by simp at hx;subst hx;exact h.lt,ej.size⟩,hH.set hk (by rw[lA,List.length_take,List.length_drop];omega) (λx hx=>X7.2.2.2 x ((mA.1 hx).elim List.mem_of_mem_take List.mem_of_mem_drop))⟩,h.more om,ej⟩
 refine W ?_
 exact⟨_,rfl,⟨gu,_,hO.gr zh (λb hb=>jG b (by simp[hb])) (λx hx=>by simp at hx;subst hx;exact h.lt) ej.size,hH⟩,h.more om,ej⟩
end Go.Proofs.YthbhobaiopccaaaGreatDoor
