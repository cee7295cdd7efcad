/- Lemmas for the law FnFrom, no statement of their own: no conditions. -/
import Derived.Test.YthbhobaiopccaaaGreatDoorJi
set_option maxHeartbeats 4000000
set_option linter.unusedVariables false
set_option linter.unusedSimpArgs false
namespace Go.Proofs.YthbhobaiopccaaaGreatDoor
open Go
variable {w w':World} {b b6 b7 i q q':Nat} {v v1 v2:Value} {g g1 g2:Option Nat} {gss:List (Option Nat×Option Nat)} {vss:List (List Value)} {bs:List Bk} {xs ys:List aj}
theorem X5 (xs:List aj) (hx:xs.length<1000000000000) (va vb:Value) (La Lb:List Nat) (w:World) (ha:bg La w va xs) (hb:bg Lb w vb xs):bC Tryz.prog 20 [va,vb] w λr w'=>r= .bool true∧ak [] w w':=by
 obtain⟨a1,n1,c1,rfl,fj⟩:=dU ha
 obtain⟨a2,n2,c2,rfl,eQ⟩:=dU hb
 subst fj eQ
 have hK:=ak.refl [] w
 refine cj [.tmp 4] 26 Tryz.func20 rfl acX rfl rfl ?_
 refine W ?_
 refine zc rfl (λh1=>?_) (λh1=>?_)
 exact absurd rfl h1
 refine W ?_
 refine eO (λk:Nat=>[(0,.slice a1 xs.length c1),(1,.slice a2 xs.length c2),(5,.int .i64 (k:Int))]) (λk w'=>ak [] w w'∧k<=xs.length) (λk=>xs.length-k) (0) (⟨rfl,rfl,rfl⟩) (⟨hK,om⟩) λgg w1 e1 hI=>?_
 obtain⟨hK,hk⟩:=hI
 refine W ?_
 refine zc rfl (λh2=>?_) (λh2=>?_)
 have hg:=kM (xs:=xs) (i:=gg) om
 obtain⟨b1,eh,rfl,bM⟩:=pR ha hg
 obtain⟨b2,kY,rfl,bZ⟩:=pR hb hg
 refine WZ ?_
 apply kU du 9 (rA 17 9) (rA 17 9) [[],[],[0,1],[2],[],[],[4,5],[6],[3,7]] [It.v _,It.v _,It.v _,It.v _,It.v _,It.v _,It.v _,It.v _,It.v (.bool (decide (cJ xs gg≠cJ xs gg)))] de rfl
 intro wd aB
 refine VA ?_
 refine vk aB (λx w2 az=>?_) ?_
 have hK:=hK.ext az
 refine zl gv rfl (bM.ext hK 0 _ rfl) ?_
 exact pv
 refine VA ?_
 refine vk aB (λx w2 az=>?_) ?_
 have hK:=hK.ext az
 refine zl gv rfl (bZ.ext hK 0 _ rfl) ?_
 exact pv
 exact VZ
 intro x oc gI
 have hK:=hK.ext gI
 change OW _ _ _ _ [] (aS (aR _ x _) (zZ 17 [_,_,_,_,_,_,_,_,_])) _
 refine aV<|zc rfl (λh3=>?_) (λh3=>?_)
 exact absurd rfl h3
 refine W ?_
 exact⟨gg+1,⟨rfl,rfl,rfl⟩,⟨hK,om⟩,om⟩
 refine W ?_
 exact⟨_,rfl,rfl,hK⟩
theorem amr (k:Bk) (hs:k.small) (va vb:Value) (La Lb:List Nat) (w:World) (ha:nN La w va k) (hb:nN Lb w vb k):bC Tryz.prog 45 [va,vb] w λr w'=>r= .bool true∧ak [] w w':=by
 obtain⟨a1,n1,c1,a2,n2,c2,rfl,oH,kL,df,dz⟩:=yf ha
 obtain⟨a3,n3,c3,a4,n4,c4,rfl,EE,he4,eM,fg⟩:=yf hb
 have hK:=ak.refl [] w
 have mu:=hs.2.1
 have asc:=hs.2.2
 refine cj [.tmp 4] 24 Tryz.func45 rfl adz rfl rfl ?_
 refine zr<|ey rfl λw1 aI aO di=>?_
 have hK:=hK.ext aI
 refine ey rfl λw2 az bU dK=>bL az hK aO λhK aO=>?_
 refine W ?_
 apply oA 6 10 16 (ak [] w2) rfl oQ
 intro h1
 refine W ?_
 refine aA (X5 k.bW om _ _ La Lb w2 (df.ext hK) (eM.ext hK)) ?_
 rintro _ w3 ⟨rfl,aH⟩
 have eM:=aH.size
 exact oQ
 intro xx w3 aH
 refine cO aH hK aO bU λhK aO bU=>?_
 refine WZ ?_
 apply oA 6 17 23 (ak [] w3) rfl oQ
 intro h2
 refine W ?_
 refine aA (X5 k.code om _ _ La Lb w3 (dz.ext hK) (fg.ext hK)) ?_
 rintro _ w4 ⟨rfl,aN⟩
 have fg:=aN.size
 exact oQ
 intro xx w4 aN
 have hK:=hK.ext aN
 refine W ?_
 exact⟨_,rfl,congrArg Value.bool sm,hK⟩
theorem X6 (bs:List Bk) (hs:tU bs) (va vb:Value) (La Lb:List Nat) (w:World) (ha:mO La w va bs) (hb:mO Lb w vb bs):bC Tryz.prog 14 [va,vb] w λr w'=>r= .bool true∧ak [] w w':=by
 obtain⟨a1,n1,c1,rfl,fj⟩:=Cp ha
 obtain⟨a2,n2,c2,rfl,eQ⟩:=Cp hb
 subst fj eQ
 have hK:=ak.refl [] w
 have nV:=hs.1
 refine cj [.tmp 4] 27 Tryz.func14 rfl ab6 rfl rfl ?_
 refine W ?_
 refine zc rfl (λh1=>?_) (λh1=>?_)
 exact absurd rfl h1
 refine W ?_
 refine eO (λk:Nat=>[(0,.slice a1 bs.length c1),(1,.slice a2 bs.length c2),(5,.int .i64 (k:Int))]) (λk w'=>ak [] w w'∧k<=bs.length) (λk=>bs.length-k) (0) (⟨rfl,rfl,rfl⟩) (⟨hK,om⟩) λgg w1 e1 hI=>?_
 obtain⟨hK,hk⟩:=hI
 refine W ?_
 refine zc rfl (λh2=>?_) (λh2=>?_)
 have hg:=rW (bs:=bs) (i:=gg) om
 obtain⟨b1,eh,r1,JT,yG,r2,JU,yH,rfl,bM,_,_,df,dz⟩:=yg ha hg
 obtain⟨b2,kY,r3,rn3,rc3,r4,rn4,rc4,rfl,bZ,_,_,eM,fg⟩:=yg hb hg
 refine WZ ?_
 apply kU du 10 (rA 17 10) (rA 17 10) [[],[],[0,1],[2],[],[],[4,5],[6],[3,7],[8]] [It.v _,It.v _,It.v _,It.v _,It.v _,It.v _,It.v _,It.v _,It.v _,It.v (.bool (!true))] de rfl
 intro wd aB
 refine VA ?_
 refine vk aB (λx w2 az=>?_) ?_
 have hK:=hK.ext az
 refine zL wL fD rfl (bM.ext hK) rfl ?_
 exact pv
 refine VA ?_
 refine vk aB (λx w2 az=>?_) ?_
 have hK:=hK.ext az
 refine zL wL fD rfl (bZ.ext hK) rfl ?_
 exact pv
 refine vk aB (λx w2 az=>?_) ?_
 have hK:=hK.ext az
 refine aA (amr (bN bs gg) (hs.2 gg om) _ _ La Lb w2 (nN.ext (wI df dz) hK) (nN.ext (wI eM fg) hK)) ?_
 rintro _ w3 ⟨rfl,aH⟩
 have eM:=aH.size
 exact pk aH
 exact VZ
 intro x oc gI
 have hK:=hK.ext gI
 change OW _ _ _ _ [] (aS (aR _ x _) (zZ 17 [_,_,_,_,_,_,_,_,_,_])) _
 refine aV<|zc rfl (λh3=>?_) (λh3=>?_)
 cases h3
 refine W ?_
 exact⟨gg+1,⟨rfl,rfl,rfl⟩,⟨hK,om⟩,om⟩
 refine W ?_
 exact⟨_,rfl,rfl,hK⟩
theorem lq (z:Nat) (h:z<4611686018427387904) (y:Int) (e:y=(z:Int)):IntKind.i64.wrap y=(z:Int):=by
 rw[e];exact wrap_i64 _ om om
theorem mh (k:Nat) (hk:1<=k) (az:k<=1000000) (br q:Nat) (hq:q<=1000000000) (w:World) (h:dM w br q):
  bC Tryz.prog 62 [.pointer (some ⟨br,0,none⟩),.int .i64 (k:Int)] w λr w'=>(∃z:Nat,r= .int .i64 (z:Int)∧z<k)∧dM w' br (q+1)∧ak [br] w w':=by
 obtain⟨a,n,c,p,bs,oT,hp,cZ,hn⟩:=h
 have gm:=cZ [br] sm
 have pN:n=bs.length:=by obtain⟨a',c',e',_⟩:=rS gm;cases e';exact FJ bs
 have hdiv:=Nat.div_le_self p n
 refine cj [.tmp 4] 99 Tryz.func62 rfl adG rfl rfl ?_
 refine WA ?_
 refine o3 rfl rfl rfl rfl rfl (lq (p+1) om _ om)<|FW rfl rfl rfl<|zf SO rfl<|gF (o:=1) sJ rfl rfl rfl oT rfl λw1 aI oT dv=>?_
 have gm:=ck.aD gm aI sm
 have hK:=aI
 have hQ:dM w1 br (q+1):=⟨a,n,c,p+1,bs,oT,om,X4 cZ aI sm,hn⟩
 refine W ?_
 apply oP 7 17 24 rfl oQ
 intro _
 refine WZ ?_
 exact oQ
 intro xx
 refine aV<|zc rfl (λh2=>?_) (λh2=>?_)
 have h0:n=0:=(by simp at h2;omega)
 refine W ?_
 exact⟨_,rfl,⟨0,rfl,om⟩,hQ,hK⟩
 have h0:0<n:=(by simp at h2;omega)
 refine WA ?_
 refine xX rfl rfl rfl rfl rfl (lq p om _ om)<|W ?_
 refine zc rfl (λh3=>?_) (λh3=>?_)
 have h1:p<n:=(by simp at h3;omega)
 have qw:=Lp gm (i:=p) om
 obtain⟨b1,eh,x1,e1,bM⟩:=qw
 cases e1
 have iF:=x1.toNat_lt
 refine WI ?_
 refine zi Cy Gz rfl rfl h1<|W ?_
 refine xZ yl wO rfl rfl rfl (wrap_i64 _ om om)<|zm<|FY rfl rfl rfl rfl rfl om<|zA<|aV<|kj ?_
 exact⟨_,rfl,⟨x1.toNat%k,rfl,Nat.mod_lt _ om⟩,hQ,hK⟩
 have h1:=Nat.mod_lt p h0
 have h2:=Nat.mod_lt (p*7+3) h0
 have qw:=Lp gm (i:=p%n) om
 obtain⟨b1,eh,x1,e1,bM⟩:=qw
 cases e1
 have iF:=x1.toNat_lt
 have jc:=Lp gm (i:=(p*7+3)%n) om
 obtain⟨b2,kY,x2,e2,bZ⟩:=jc
 cases e2
 have eA:=x2.toNat_lt
 refine WZ ?_
 apply dV du 46 [47,48,49,50,51,52,53,54,55,56,57,58,59,60,61,62,63,64,65,66,67,68,69,70,71,72,73,74,75,76,77,78,79,80,81,82,83,84,85,86,87,88,89,90,91,6] [[],[0],[1],[2],[],[],[5],[6],[7],[8],[4,9],[3,10],[11],[12],[13],[],[15],[16],[17],[],[19],[20],[],[22],[23],[24],[25],[21,26],[18,27],[28],[29],[30],[14,31],[],[33],[32,34],[],[],[37],[38],[39],[40],[36,41],[42],[35,43],[44]] (it [_,_,_,_,_,_,_,_,_,_,_,_,_,_,_,_,_,_,_,_,_,_,_,_,_,_,_,_,_,_,_,_,_,_,_,_,_,_,_,_,_,_,_,_,_,_]) de rfl
 intro wd aB
 refine VA ?_
 refine vk aB (λx w2 az=>?_) ?_
 refine FY rfl rfl rfl rfl rfl om ?_
 exact pv
 refine VA ?_
 refine vk aB (λx w2 az=>?_) ?_
 refine xZ yl wO rfl rfl rfl (lq x1.toNat om _ rfl) ?_
 exact pv
 refine vk aB (λx w2 az=>?_) ?_
 refine IX rfl rfl rfl rfl rfl (lq (x1.toNat*131) om _ om) ?_
 exact pv
 refine AW ?_
 refine vk aB (λx w2 az=>?_) ?_
 refine WZ ?_
 exact pv
 refine vc (λ_ _ _=>WZ pv) ?_
 refine vk aB (λx w2 az=>?_) ?_
 have oT:=oT.ext az
 refine WZ ?_
 exact pv
 refine vc (λ_ _ _=>WZ pv) ?_
 refine VA ?_
 refine vk aB (λx w2 az=>?_) ?_
 refine FY rfl rfl rfl rfl rfl om ?_
 exact pv
 refine VA ?_
 refine vk aB (λx w2 az=>?_) ?_
 refine xZ yl wO rfl rfl rfl (lq x2.toNat om _ rfl) ?_
 exact pv
 refine vk aB (λx w2 az=>?_) ?_
 refine IX rfl rfl rfl rfl rfl (lq (x2.toNat*1117) om _ om) ?_
 exact pv
 refine vk aB (λx w2 az=>?_) ?_
 refine o3 rfl rfl rfl rfl rfl (lq (x1.toNat*131+x2.toNat*1117) om _ om) ?_
 exact pv
 refine AW ?_
 refine VA ?_
 refine vk aB (λx w2 az=>?_) ?_
 refine LN rfl rfl rfl rfl rfl om (lq (p/n) om _ rfl) ?_
 exact pv
 refine vk aB (λx w2 az=>?_) ?_
 refine IX rfl rfl rfl rfl rfl (lq (p/n*53) om _ sm) ?_
 exact pv
 refine vk aB (λx w2 az=>?_) ?_
 refine o3 rfl rfl rfl rfl rfl (lq (x1.toNat*131+x2.toNat*1117+p*29+p/n*53) om _ sm) ?_
 exact pv
 exact VZ
 intro x oc gI
 change OW _ _ _ _ [] (aS (aR _ x _) (zZ 47 [_,_,_,_,_,_,_,_,_,_,_,_,_,_,_,_,_,_,_,_,_,_,_,_,_,_,_,_,_,_,_,_,_,_,_,_,_,_,_,_,_,_,_,_,_]++[(6,_)])) _
 have hX:x1.toNat*131+x2.toNat*1117+p*29+p/n*53<4611686018427387904:=om
 have hXx:∃z,z=x1.toNat*131+x2.toNat*1117+p*29+p/n*53:=⟨_,rfl⟩
 obtain⟨X,hXe⟩:=hXx
 rw[<-hXe] at hX⊢
 refine bL gI hQ hK λhQ hK=>?_
 refine W ?_
 refine LN (b:=64) rfl rfl rfl rfl rfl om (lq (X/64) om _ rfl)<|amo rfl rfl rfl rfl om om<|zA<|aV<|zr<|zm<|zm<|FY rfl rfl rfl rfl rfl om<|zA<|aV<|kj ?_
 exact⟨_,rfl,⟨(X^^^X/64)%k,rfl,Nat.mod_lt _ om⟩,hQ,hK⟩
theorem amu (bs:List UInt8) (hb:bs.length<=1000000000) (v:Value) (w:World) (hv:ck [] w v (.sl 1 (rO bs))):
  bC Tryz.prog 37 [v] w λr w'=>(∃br,r= .pointer (some ⟨br,0,none⟩)∧w.heap.size<=br∧dM w' br 0)∧ak [] w w':=by
 obtain⟨a,c,rfl,_⟩:=rS hv
 rw[FJ]
 rw[FJ] at hv
 have hK:=ak.refl [] w
 refine cj [.tmp 2] 11 Tryz.func37 rfl adr rfl rfl ?_
 refine W ?_
 refine iS (λq:Option Addr×Nat×Nat=>[(0,.slice q.1 q.2.1 q.2.2)]) (λq ww=>ak [] w ww∧(∃bs',ck [] ww (.slice q.1 q.2.1 q.2.2) (.sl 1 (rO bs')))∧q.2.1<=1000000000) ?_ ?_
 refine zc rfl (λh1=>?_) (λh1=>?_)
 have h2:2000<bs.length:=om
 have hg:=Lp hv (i:=0) om
 obtain⟨b1,eh,x1,e1,_⟩:=hg
 cases e1
 refine lv<|zm<|X0 (h:=2000) Cy Gz rfl rfl rfl rfl om hv<|zA<|aV ?_
 exact⟨(_,2000,_),rfl,hK,⟨bs.take 2000,by have:=XZ hv (h:=2000) om;rw[show(rO bs).take 2000=rO (bs.take 2000) from by simp[rO,List.map_take]] at this;exact this⟩,by show 2000<=_;omega⟩
 refine WZ ?_
 exact⟨(_,_,_),rfl,hK,⟨bs,hv⟩,hb⟩
 intro gu w1 e1 hI
 obtain⟨a2,n2,c2⟩:=gu
 dsimp only at hI⊢
 obtain⟨hK,⟨X7,B2⟩,eQ⟩:=hI
 have amv:=B2
 have ni:=hK.size
 refine zr<|zm<|iT (ad9 _ _ _ _) rfl rfl<|ey rfl λw2 az kD dK=>?_
 have hK:=hK.ext az
 refine W ?_
 exact⟨_,rfl,⟨_,rfl,ni,⟨a2,n2,c2,0,X7,kD,lR _,λL hL=>(ck.fresh amv (L':=L) (λx hx=>.inr (hL x hx))).ext az,eQ⟩⟩,hK⟩
theorem lV (xs:List aj) (dY:0<xs.length) (hl:xs.length<=1000000) (br q:Nat) (hq:q<=1000000000) (v:Value) (w:World) (h:dM w br q) (hv:bg [br] w v xs):
  bC Tryz.prog 69 [.pointer (some ⟨br,0,none⟩),v] w λr w'=>(∃x,x∈xs∧r=str x)∧dM w' br (q+1)∧ak [br] w w':=by
 obtain⟨a,n,c,rfl,hn⟩:=dU hv
 subst hn
 refine cj [.tmp 4] 12 Tryz.func69 rfl adN rfl rfl ?_
 refine W ?_
 refine aA (mh xs.length om om br q hq w h) ?_
 rintro v9 w1 ⟨⟨z,e9,hz⟩,hQ,aC⟩
 subst e9
 have gP:=ck.aD hv aC sm
 have hg:=oq gP hz
 obtain⟨b1,eh,e1,bM⟩:=hg
 cases e1
 refine zi bo bm rfl rfl hz<|W ?_
 exact⟨_,rfl,⟨_,List.mem_of_getElem? (kM hz),rfl⟩,hQ,aC⟩
theorem II (br q:Nat) (hq:q<=1000000000) (w:World) (h:dM w br q):
  bC Tryz.prog 114 [.pointer (some ⟨br,0,none⟩)] w λr w'=>(∃z,z<6∧r=str (aZ z))∧dM w' br (q+1)∧ak [br] w w':=by
 refine cj [.tmp 2] 6 Tryz.func114 rfl abN rfl rfl ?_
 refine W ?_
 refine aA (mh 6 de de br q hq w h) ?_
 rintro v9 w1 ⟨⟨z,e9,hz⟩,hQ,aC⟩
 subst e9
 refine aA (iI (z+1) z om om w1) ?_
 rintro _ w2 ⟨rfl,az⟩
 have dz:=az.size
 refine bL az hQ aC λhQ aC=>?_
 refine W ?_
 exact⟨_,rfl,⟨z,hz,rfl⟩,hQ,aC⟩
theorem amw {x:aj} (h:x∈([[62],[42]]:List aj)):∃f,x=j4 f:=by
 simp only[mC,List.not_mem_nil,or_false] at h
 rcases h with rfl|rfl
 ·exact⟨true,rfl⟩
 ·exact⟨false,rfl⟩
theorem P8 (d:Nat):d<=10->∀(br q:Nat),q+3*2^d<=1000000000->∀(w:World),dM w br q->
  bC Tryz.prog 131 [.pointer (some ⟨br,0,none⟩),.int .i64 (d:Int)] w λr w'=>(∃T:Ty,r=str T.text∧T.n+1<=2^(d+1))∧dM w' br (q+(3*2^d-2))∧ak [br] w w':=by
 induction d using Nat.strongRecOn with
 |_ d ih=>
  intro hd br q hq w h
  have qK:1<=2^d:=Nat.one_le_two_pow
  have qM:2^(d+1)=2*2^d:=by rw[Nat.pow_succ];omega
  have ui:2^d<=1024:=Nat.pow_le_pow_right (n:=2) de hd
  refine cj [.tmp 4] 29 Tryz.func131 rfl abY rfl rfl ?_
  refine W ?_
  refine x4 (t:=7) rfl (λh1=>?_) (λh1=>?_)
  replace h1:=jy h1
  have P9:d=0:=(by simp at h1;omega)
  refine W ?_
  refine zc rfl (λh2=>?_) (λh2=>?_)
  refine W ?_
  exact⟨_,rfl,⟨.i,by rw[Ty.MX];rfl,by show 1+1<=_;omega⟩,h.more om,ak.refl _ _⟩
  simp at h2
  replace h1:=jy h1
  have P9:1<=d:=(by simp at h1;omega)
  have XM:2^d=2*2^(d-1):=(by rw[<-Nat.pow_succ'];congr 1;omega)
  have hp5:2^(d-1+1)=2^d:=(by congr 1;omega)
  have hp6:1<=2^(d-1):=Nat.one_le_two_pow
  refine zm<|aA (mh 2 de de br q om w h) ?_
  rintro v9 w1 ⟨⟨z,e9,hz⟩,hQ,aC⟩
  subst e9
  refine W ?_
  refine zc rfl (λh3=>?_) (λh3=>?_)
  refine W ?_
  exact⟨_,rfl,⟨.i,by rw[Ty.MX];rfl,by show 1+1<=_;omega⟩,hQ.more om,aC⟩
  have lr:=hQ.lt
  refine gX<|zr<|zm<|lg bo bm rfl rfl rfl rfl λw2 az mx dK=>bL az hQ aC λhQ aC=>?_
  refine aA (lV [[62],[42]] de de br (q+1) om _ w2 hQ (aL.dS [[62],[42]] mx (λhx=>by simp at hx;omega))) ?_
  rintro l9 w3 ⟨⟨xx,hi,gW⟩,hQ,bS⟩
  have hf:=amw hi
  obtain⟨f,hf⟩:=hf
  rw[hf] at gW
  subst gW
  have aC:=aC.trans bS
  have nV:=MY f
  refine WA ?_
  refine xX rfl rfl rfl rfl rfl (lq (d-1) om _ om)<|aA (ih (d-1) om om br (q+1+1) om w3 hQ) ?_
  rintro v20 w4 ⟨⟨A,pH,hA⟩,hQ,xP⟩
  subst pH
  have aC:=aC.trans xP
  have W9:=A.len
  refine WA ?_
  refine xX rfl rfl rfl rfl rfl (lq (d-1) om _ om)<|aA (ih (d-1) om om br _ om w4 hQ) ?_
  rintro v26 w5 ⟨⟨B,PV,hB⟩,hQ,amx⟩
  subst PV
  have aC:=aC.trans amx
  have Xa:=B.len
  refine W ?_
  exact⟨_,rfl,⟨.op f A B,by show str (((((([40]++j4 f)++[32])++A.text)++[32])++B.text)++[41])=str _;rw[Ty.Jr];simp,by show 1+A.n+B.n+1<=_;omega⟩,hQ.more om,aC⟩
def B3:Ty->aj
 | .i=>[48]
 | .op false a b=>[40,112,97,105,114,32]++B3 a++[32]++B3 b++[41]
 | .op true a b=>[40,102,117,110,32,102,32,120,32]++a.text++[32]++b.text++[32]++B3 b++[41]
theorem B4:∀T:Ty,T.n<=60->(B3 T).length<=500*T.n
 | .i,_=>by simp[B3,Ty.n]
 | .op false a b,h=>by
  simp only[Ty.n] at h⊢
  have:=B4 a om
  have:=B4 b om
  simp only[B3,lA,lC,List.length_nil];omega
 | .op true a b,h=>by
  simp only[Ty.n] at h⊢
  have:=B4 b om
  have:=a.len
  have:=b.len
  simp only[B3,lA,lC,List.length_nil];omega
theorem X8 (T:Ty):T.n<=60->∀(v:Value) (L:List Nat) (w:World),bh L w v T.au->bC Tryz.prog 228 [v] w λr w'=>r=str (B3 T)∧ak [] w w':=by
 induction T with
 |i=>
  intro hn v L w hv
  obtain⟨ar,nr,cr,rfl,qv,aQ⟩:=cS hv
  have hK:=ak.refl [] w
  refine cj [.tmp 2] 47 Tryz.func228 rfl MO rfl rfl ?_
  refine zr<|ey rfl λw1 aI aT di=>?_
  have hK:=hK.ext aI
  refine W ?_
  refine zc rfl (λh1=>?_) (λh1=>?_)
  refine W ?_
  exact⟨_,rfl,rfl,hK⟩
  exact absurd h1 de
 |op f a b iha ihb=>
  intro hn v L w hv
  cases f with
  |false=>
   obtain⟨ar,nr,cr,rfl,qv,aQ⟩:=cS hv
   subst qv
   have eQ:1+a.n+b.n<=60:=hn
   have GV:=B4 a om
   have Lq:=B4 b om
   have yK:=a.len
   have htb:=b.len
   have X9:=a.size
   have Ya:=b.size
   have Pd:(Ty.op false a b).au.ai.length=3:=rfl
   obtain⟨b0,yV,yA,yB,e0,eR,_⟩:=fm aQ (i:=0) om
   cases e0
   have eR:fM L w _ _ [str (j4 false),.slice yA 0 yB]:=eR
   obtain⟨b1,eh,gT,gU,e1,bM,cV⟩:=fm aQ (i:=1) om
   cases e1
   have bM:fM L w _ _ [str a.au.av,.slice gT a.au.ai.length gU]:=bM
   have cV:bh L w (.agg #[str a.au.av,.slice gT a.au.ai.length gU]) a.au:=cV
   obtain⟨b2,kY,iQ,iR,e2,bZ,dQ⟩:=fm aQ (i:=2) om
   cases e2
   have bZ:fM L w _ _ [str b.au.av,.slice iQ b.au.ai.length iR]:=bZ
   have dQ:bh L w (.agg #[str b.au.av,.slice iQ b.au.ai.length iR]) b.au:=dQ
   have hK:=ak.refl [] w
   refine cj [.tmp 2] 47 Tryz.func228 rfl MO rfl rfl<|zr<|ey rfl λw1 aI aT di=>sV aI hK eR bM bZ cV dQ λhK eR bM bZ cV dQ=>?_
   refine W ?_
   refine zc rfl (λh1=>?_) (λh1=>?_)
   exact absurd rfl h1
   refine WI ?_
   refine zi (i:=0) cw aK rfl rfl ((show 0<3 from om))<|W ?_
   refine zc rfl (λh2=>?_) (λh2=>?_)
   refine WZ ?_
   apply dV du 15 [12,13,14,15,16,17,18,19,20,21,22,23,24,25,2] [[],[0],[1],[2],[3],[4],[5],[],[7],[8],[9],[10],[6,11],[12],[13]] (it [_,_,_,_,_,_,_,_,_,_,_,_,_,_,_]) de rfl
   intro wd aB
   refine VA ?_
   refine vk aB (λx w2 az=>?_) ?_
   refine zi (i:=1) cw aK rfl rfl ((show 1<3 from om)) ?_
   exact pv
   refine VA ?_
   refine vk aB (λx w2 az=>?_) ?_
   have cV:=cV.ext az
   refine aA (iha om _ _ w2 cV) ?_
   rintro _ w3 ⟨rfl,aH⟩
   have eM:=aH.size
   exact pk aH
   refine VA ?_
   refine vk aB (λx w2 az=>?_) ?_
   refine zi (i:=2) cw aK rfl rfl ((show 2<3 from om)) ?_
   exact pv
   refine VA ?_
   refine vk aB (λx w2 az=>?_) ?_
   have dQ:=dQ.ext az
   refine aA (ihb om _ _ w2 dQ) ?_
   rintro _ w3 ⟨rfl,aH⟩
   have eM:=aH.size
   exact pk aH
   exact VZ
   intro x oc gI
   have hK:=hK.ext gI
   change OW _ _ _ _ [] (aS (aR _ x _) (zZ 12 [_,_,_,_,_,_,_,_,_,_,_,_,_,_]++[(2,_)])) _
   refine W ?_
   exact⟨_,rfl,rfl,hK⟩
   exact absurd rfl h2
  |true=>
   obtain⟨ar,nr,cr,rfl,qv,aQ⟩:=cS hv
   subst qv
   have eQ:1+a.n+b.n<=60:=hn
   have GV:=B4 a om
   have Lq:=B4 b om
   have yK:=a.len
   have htb:=b.len
   have X9:=a.size
   have Ya:=b.size
   have Pd:(Ty.op true a b).au.ai.length=3:=rfl
   obtain⟨b0,yV,yA,yB,e0,eR,_⟩:=fm aQ (i:=0) om
   cases e0
   have eR:fM L w _ _ [str (j4 true),.slice yA 0 yB]:=eR
   obtain⟨b1,eh,gT,gU,e1,bM,cV⟩:=fm aQ (i:=1) om
   cases e1
   have bM:fM L w _ _ [str a.au.av,.slice gT a.au.ai.length gU]:=bM
   have cV:bh L w (.agg #[str a.au.av,.slice gT a.au.ai.length gU]) a.au:=cV
   obtain⟨b2,kY,iQ,iR,e2,bZ,dQ⟩:=fm aQ (i:=2) om
   cases e2
   have bZ:fM L w _ _ [str b.au.av,.slice iQ b.au.ai.length iR]:=bZ
   have dQ:bh L w (.agg #[str b.au.av,.slice iQ b.au.ai.length iR]) b.au:=dQ
   have hK:=ak.refl [] w
   refine cj [.tmp 2] 47 Tryz.func228 rfl MO rfl rfl<|zr<|ey rfl λw1 aI aT di=>sV aI hK eR bM bZ cV dQ λhK eR bM bZ cV dQ=>?_
   refine W ?_
   refine zc rfl (λh1=>?_) (λh1=>?_)
   exact absurd rfl h1
   refine WI ?_
   refine zi (i:=0) cw aK rfl rfl ((show 0<3 from om))<|W ?_
   refine zc rfl (λh2=>?_) (λh2=>?_)
   exact absurd h2 de
   refine WZ ?_
   apply dV du 22 [26,27,28,29,30,31,32,33,34,35,36,37,38,39,40,41,42,43,44,45,46,2] [[],[0],[1],[2],[3],[4],[5],[],[7],[8],[9],[10],[6,11],[12],[],[14],[15],[16],[17],[13,18],[19],[20]] (it [_,_,_,_,_,_,_,_,_,_,_,_,_,_,_,_,_,_,_,_,_,_]) de rfl
   intro wd aB
   refine VA ?_
   refine vk aB (λx w2 az=>?_) ?_
   refine zi (i:=1) cw aK rfl rfl ((show 1<3 from om)) ?_
   exact pv
   refine VA ?_
   refine vk aB (λx w2 az=>?_) ?_
   have cV:=cV.ext az
   refine aA (r6 a.au.size a.au (lR _) a.pb.wf om (show a.text.length<=100000000 from om) _ _ w2 cV) ?_
   rintro _ w3 ⟨rfl,aH⟩
   have eM:=aH.size
   exact pk aH
   refine vk aB (λx w2 az=>?_) ?_
   refine iw rfl rfl rfl rfl (by have h9:a.au.text.length=a.text.length:=rfl;simp;omega) ?_
   exact pv
   refine vk aB (λx w2 az=>?_) ?_
   refine iw rfl rfl rfl rfl (by have h9:a.au.text.length=a.text.length:=rfl;simp;omega) ?_
   exact pv
   refine VA ?_
   refine vk aB (λx w2 az=>?_) ?_
   refine zi (i:=2) cw aK rfl rfl ((show 2<3 from om)) ?_
   exact pv
   refine VA ?_
   refine vk aB (λx w2 az=>?_) ?_
   have dQ:=dQ.ext az
   refine aA (r6 b.au.size b.au (lR _) b.pb.wf om (show b.text.length<=100000000 from om) _ _ w2 dQ) ?_
   rintro _ w3 ⟨rfl,aH⟩
   have eM:=aH.size
   exact pk aH
   refine vk aB (λx w2 az=>?_) ?_
   refine iw rfl rfl rfl rfl (by have h9:a.au.text.length=a.text.length:=rfl;have gh:b.au.text.length=b.text.length:=rfl;simp;omega) ?_
   exact pv
   refine vk aB (λx w2 az=>?_) ?_
   refine iw rfl rfl rfl rfl (by have h9:a.au.text.length=a.text.length:=rfl;have gh:b.au.text.length=b.text.length:=rfl;simp;omega) ?_
   exact pv
   refine VA ?_
   refine vk aB (λx w2 az=>?_) ?_
   refine zi (i:=2) cw aK rfl rfl ((show 2<3 from om)) ?_
   exact pv
   refine VA ?_
   refine vk aB (λx w2 az=>?_) ?_
   have dQ:=dQ.ext az
   refine aA (ihb om _ _ w2 dQ) ?_
   rintro _ w3 ⟨rfl,aH⟩
   have eM:=aH.size
   exact pk aH
   refine vk aB (λx w2 az=>?_) ?_
   refine iw rfl rfl rfl rfl (by have h9:a.au.text.length=a.text.length:=rfl;have gh:b.au.text.length=b.text.length:=rfl;simp;omega) ?_
   exact pv
   refine vk aB (λx w2 az=>?_) ?_
   refine iw rfl rfl rfl rfl (by have h9:a.au.text.length=a.text.length:=rfl;have gh:b.au.text.length=b.text.length:=rfl;simp;omega) ?_
   exact pv
   exact VZ
   intro x oc gI
   have hK:=hK.ext gI
   change OW _ _ _ _ [] (aS (aR _ x _) (zZ 26 [_,_,_,_,_,_,_,_,_,_,_,_,_,_,_,_,_,_,_,_,_]++[(2,_)])) _
   refine W ?_
   exact⟨_,rfl,rfl,hK⟩
def Qa:List aj:=[[40,43,32,120,56,32,40,99,97,108,108,32,102,56,32,40,45,32,120,56,32,49,41,41,41],[40,99,97,108,108,32,102,56,32,40,45,32,120,56,32,49,41,41],[40,42,32,120,56,32,40,99,97,108,108,32,102,56,32,40,45,32,120,56,32,49,41,41,41],[40,45,32,48,32,40,99,97,108,108,32,102,56,32,40,45,32,120,56,32,49,41,41,41]]
theorem amz (br q:Nat) (hq:q<=900000000) (w:World) (h:dM w br q):
  bC Tryz.prog 162 [.pointer (some ⟨br,0,none⟩)] w λr w'=>(∃x,r=str x∧x.length<=200)∧dM w' br (q+3)∧ak [br] w w':=by
 have hQ:=h
 have aC:=ak.refl [br] w
 have lr:=h.lt
 refine cj [.tmp 2] 20 Tryz.func162 rfl acs rfl rfl ?_
 refine W ?_
 refine xh bo bm rfl rfl rfl rfl rfl rfl λw1 aI bQ di=>bL aI hQ aC λhQ aC=>?_
 refine aA (lV Qa de de br q om _ w1 hQ (aL.dS Qa bQ (λhx=>by simp at hx;omega) de)) ?_
 rintro l9 w2 ⟨⟨x1,hi,gW⟩,hQ,bS⟩
 subst gW
 have aC:=aC.trans bS
 have fF:=(show∀x,x∈Qa->x.length<=30 from by decide) _ hi
 have lr:=hQ.lt
 clear bQ
 refine W ?_
 refine qf bo bm rfl rfl rfl rfl rfl λw3 aH cz fS=>bL aH hQ aC λhQ aC=>?_
 refine aA (lV [[48],[49],[53]] de de br (q+1) om _ w3 hQ (aL.dS [[48],[49],[53]] cz (λhx=>by simp at hx;omega))) ?_
 rintro vR w4 ⟨⟨x2,hj,BB⟩,hQ,iA⟩
 subst BB
 have aC:=aC.trans iA
 have iz:=(show∀x,x∈([[48],[49],[53]]:List aj)->x.length<=30 from by decide) _ hj
 clear cz
 refine W ?_
 refine aA (mh 7 de de br (q+2) om w4 hQ) ?_
 rintro Df w5 ⟨⟨z,BS,hz⟩,hQ,nq⟩
 subst BS
 have aC:=aC.trans nq
 have Ed:=s5 (n:=z) om
 refine aA (iI (z+1) z om om w5) ?_
 rintro _ w6 ⟨rfl,bB⟩
 have ku:=bB.size
 refine bL bB hQ aC λhQ aC=>?_
 refine W ?_
 exact⟨_,rfl,⟨_,rfl,by simp;omega⟩,hQ,aC⟩
theorem Yb (s:aj) (w:World):bC Tryz.prog 199 [str s] w λr w'=>(∃x ok,r= .tuple #[str x,.bool ok]∧x.length<=8000)∧ak [] w w':=by
 have hK:=ak.refl [] w
 refine cj [.tmp 2,.tmp 3] 26 Tryz.func199 rfl acW rfl rfl ?_
 refine W ?_
 refine aA (sX s [] w sm) ?_
 rintro v1 w1 ⟨fK,aI⟩
 have df:=aI.size
 have hK:=hK.ext aI
 have eu:=fK
 obtain⟨t,tv,e9,ht,hp⟩:=eu
 subst e9
 have cG:=cS ht
 obtain⟨pa,pn,pc,e9,dZ,_⟩:=cG
 subst e9
 subst dZ
 have ni:=hK.size
 refine W ?_
 refine da aK rfl rfl rfl λw2 az aF ga=>?_
 have dA:=az
 refine cu (vs:=[str t.av,.slice pa t.ai.length pc]) aK rfl rfl rfl aF rfl λw3 aH aF dv=>?_
 have dA:=dA.since aH (λx hx=>.inr (by simp at hx;omega))
 refine bL dA ht hK λht hK=>?_
 refine W ?_
 refine x4 (t:=13) rfl (λh1=>?_) (λh1=>?_)
 replace h1:=jy h1
 refine zs<|zs<|zs<|zp rfl<|zm<|F2 (t:=18) (b:=true) rfl<|zs<|zs<|zs<|zs<|zp rfl<|aV<|zc rfl (λh2=>?_) (λh2=>?_)
 refine W ?_
 exact⟨_,rfl,⟨[],false,rfl,sm⟩,hK⟩
 simp at h2
 replace h1:=jy h1
 have bj:(bA s).isSome=true:=(by simpa using h1)
 have cF:=Cv hp bj
 refine W ?_
 refine aA (Bw t om cF.1 _ _ w3 ht) ?_
 rintro _ w4 ⟨rfl,aN⟩
 have fg:=aN.size
 refine cO aN hK aF ht λhK aF ht=>?_
 refine W ?_
 refine x4 (t:=18) rfl (λh3=>?_) (λh3=>?_)
 replace h3:=jy h3
 refine W ?_
 refine zc rfl (λh4=>?_) (λh4=>?_)
 refine W ?_
 exact⟨_,rfl,⟨[],false,rfl,sm⟩,hK⟩
 simp at h4
 replace h3:=jy h3
 have fh:j5 t=true:=(by simpa using h3)
 have hu:=(AA cF.1).1 fh
 obtain⟨T,yM,IF⟩:=hu
 have qh:=ht
 rw[yM] at qh
 refine W ?_
 refine aA (X8 T om _ _ w4 (ht.eq yM)) ?_
 rintro _ w5 ⟨rfl,aJ⟩
 have mn:=aJ.size
 refine cO aJ hK aF ht λhK aF ht=>?_
 have D8:=B4 T om
 refine aA (Oj _ w5) ?_
 rintro _ w6 ⟨rfl,bB⟩
 have ku:=bB.size
 refine cO bB hK aF ht λhK aF ht=>?_
 refine W ?_
 refine zc rfl (λh5=>?_) (λh5=>?_)
 refine W ?_
 exact⟨_,rfl,⟨[],false,rfl,sm⟩,hK⟩
 refine W ?_
 refine aA (X8 T om _ _ w6 (ht.eq yM)) ?_
 rintro _ w7 ⟨rfl,bJ⟩
 have jd:=bJ.size
 have hK:=hK.ext bJ
 refine W ?_
 exact⟨_,rfl,⟨_,true,rfl,om⟩,hK⟩
theorem amA:sD Tryz.prog 152=true:=by kernel_rfl
theorem Ls (ns ts:List aj) (nm kd:aj) (fF:ns.length<100000) (iz:ts.length<100000) (v1 v2:Value) (L:List Nat) (w:World) (hL:∀x,x∈L->x<w.heap.size) (h1:bg L w v1 ns) (h2:bg L w v2 ts):
  bC Tryz.prog 161 [.agg #[v1,v2],str nm,str kd] w λr w'=>(∃u1 u2,r= .agg #[u1,u2]∧bg L w' u1 (ns++[nm])∧bg L w' u2 (ts++[kd]))∧ak [] w w':=by
 obtain⟨a1,n1,c1,rfl,_⟩:=dU h1
 obtain⟨a2,n2,c2,rfl,_⟩:=dU h2
 have hK:=ak.refl [] w
 refine j1 [.cell 6 152] 18 Tryz.func161 rfl acr rfl rfl rfl ?_
 refine zr<|ey rfl λw1 aI bU di=>cO aI hK h1 h2 λhK h1 h2=>?_
 refine da Cw rfl rfl rfl λw2 az bK jR=>?_
 have hK:=hK.ext az
 have h1:=(bg.fresh h1 (L':=w1.heap.size::L) (λx hx=>by rcases mC.1 hx with h9|h9;(·right;omega);(·exact .inl h9))).ext az
 have h2:=(bg.fresh h2 (L':=w1.heap.size::L) (λx hx=>by rcases mC.1 hx with h9|h9;(·right;omega);(·exact .inl h9))).ext az
 have Lt:∀x,x∈w1.heap.size::L->x<w2.heap.size:=(λx hx=>by rcases mC.1 hx with h9|h9;(·omega);(·have:=hL x h9;omega))
 have bU:=bU.ext az
 have dC:=hK.size
 refine W ?_
 apply wX du 11 (rA 7 11) (rA 7 11) [[],[0],[],[2],[1,3],[],[5],[],[7],[6,8],[4,9]] [It.v _,It.v _,It.v _,It.p (fun(v:Value) (ww:World)=>bg (w1.heap.size::L) ww v [nm]),It.p (fun(v:Value) (ww:World)=>bg (w1.heap.size::L) ww v (ns++[nm])),It.v _,It.v _,It.v _,It.p (fun(v:Value) (ww:World)=>bg (w1.heap.size::L) ww v [kd]),It.p (fun(v:Value) (ww:World)=>bg (w1.heap.size::L) ww v (ts++[kd])),It.p (fun(v:Value) (ww:World)=>∃b1 m1 d1 b2 m2 d2,v= .agg #[.slice b1 m1 d1,.slice b2 m2 d2]∧bg (w1.heap.size::L) ww (.slice b1 m1 d1) (ns++[nm])∧bg (w1.heap.size::L) ww (.slice b2 m2 d2) (ts++[kd]))] de (by exact⟨λv w w' h k=>ck.ext h k,λv w w' h k=>ck.ext h k,λv w w' h k=>ck.ext h k,λv w w' h k=>ck.ext h k,λv w w' ⟨b1,m1,d1,b2,m2,d2,e,g1,g2⟩ k=>⟨b1,m1,d1,b2,m2,d2,e,ck.ext g1 k,ck.ext g2 k⟩,trivial⟩)
 intro wd aB
 refine VA ?_
 refine vk aB (λx w3 aH=>?_) ?_
 refine fo bo bm rfl rfl λw4 aN kD ga=>?_
 exact pf aN ((aL.dS [nm] kD (λhx=>by have:=Lt _ hx;have:=aH.size;omega)))
 refine vk aB (λx w3 aH=>?_) ?_
 have h1:=h1.ext aH
 intro v3 d3
 refine aA (uo ns [nm] so _ _ (w1.heap.size::L) w3 h1 d3 (λx hx=>by have:=Lt x hx;have:=aH.size;omega)) ?_
 rintro v4 w4 ⟨kF,aN⟩
 have fg:=aN.size
 have eu:=kF
 exact pf aN eu
 refine VA ?_
 refine vk aB (λx w3 aH=>?_) ?_
 refine fo bo bm rfl rfl λw4 aN E2 ga=>?_
 exact pf aN ((aL.dS [kd] E2 (λhx=>by have:=Lt _ hx;have:=aH.size;omega)))
 refine vk aB (λx w3 aH=>?_) ?_
 have h2:=h2.ext aH
 intro v8 d8
 refine aA (uo ts [kd] so _ _ (w1.heap.size::L) w3 h2 d8 (λx hx=>by have:=Lt x hx;have:=aH.size;omega)) ?_
 rintro v4 w4 ⟨kF,aN⟩
 have fg:=aN.size
 have eu:=kF
 exact pf aN eu
 refine vk aB (λx w3 aH=>?_) ?_
 intro v4 d4
 intro v9 d9
 have bM:=dU d4
 obtain⟨b1,m1,d1,e1,_⟩:=bM
 subst e1
 have bZ:=dU d9
 obtain⟨b2,m2,d2,e2,_⟩:=bZ
 subst e2
 refine iT (MP _ _ _ _ _ _ _) rfl rfl ?_
 exact pf (ak.refl _ _) (⟨_,_,_,_,_,_,rfl,d4,d9⟩)
 exact trivial
 intro x qQ Ds
 intro v3 d3
 intro v4 d4
 intro v8 d8
 intro v9 d9
 intro v10 d10
 refine bL Ds hK bK λhK bK=>?_
 change OW _ _ _ _ _ (aS (aR _ x _) (zZ 7 [_,_,_,_,_,_,_,_,_,_,_])) _
 obtain⟨b1,m1,d1,b2,m2,d2,fL,g1,g2⟩:=d10
 subst fL
 refine cu (vs:=[.slice b1 m1 d1,.slice b2 m2 d2]) Cw rfl rfl rfl bK rfl λp7 j7 bK dv=>?_
 have hK:=hK.since j7 (λx hx=>.inr (by simp at hx;omega))
 have g1:bg L p7 _ (ns++[nm]):=(ck.aD g1 j7 sm).fresh (λx hx=>.inl (by simp[hx]))
 have g2:bg L p7 _ (ts++[kd]):=(ck.aD g2 j7 sm).fresh (λx hx=>.inl (by simp[hx]))
 refine W ?_
 exact⟨[_],fB amA Cw rfl bK rfl,⟨_,_,rfl,g1,g2⟩,hK⟩
def FK:List aj:=[[48],[49],[50],[51],[55],[45,49],[52,48,48],[45,57,57,57]]
theorem Qb (ns ts:List aj) (want:aj) (hl:ns.length=ts.length) (Fa:ns.length<=1000) (hs:∀x,x∈ns->x.length<=8000) (br q:Nat) (hq:q<=900000000) (v1 v2:Value) (w:World) (h:dM w br q) (cK:bg [br] w v1 ns) (cI:bg [br] w v2 ts):
  bC Tryz.prog 160 [.pointer (some ⟨br,0,none⟩),.agg #[v1,v2],str want] w λr w'=>(∃x,r=str x∧x.length<=8000)∧dM w' br (q+2)∧ak [br] w w':=by
 obtain⟨a1,n1,c1,rfl,fj⟩:=dU cK
 obtain⟨a2,n2,c2,rfl,eQ⟩:=dU cI
 subst fj
 have ir:=h.lt
 have hK:=ak.refl [] w
 refine cj [.tmp 6] 67 Tryz.func160 rfl acq rfl rfl ?_
 refine zr<|ey rfl λw1 aI aF di=>gH aI cK cI hK h λcK cI hK h=>?_
 refine zA<|aV<|zr<|gA bo bm λw2 az iY uh=>?_
 have aI:=az
 have amB:=iY.lh
 have asl:=hK.size
 refine W ?_
 refine eO (λq9:Nat×Value×Option Nat=>[(0,.pointer (some ⟨br,0,none⟩)),(2,str want),(4,.pointer (some ⟨w.heap.size,0,none⟩)),(7,q9.2.1),(8,.int .i64 (q9.1:Int))]) (λq9 w'=>ak [] w1 w'∧q9.1<=ns.length∧∃xs,cE w' 9 q9.2.1 q9.2.2 xs∧(∀x,x∈xs->x∈ns)∧xs.length<=q9.1∧∀b,q9.2.2=some b->w1.heap.size<=b) (λq9=>ns.length-q9.1) ((0,.slice (some ⟨w1.heap.size,0,none⟩) 0 0,some w1.heap.size)) (⟨rfl,rfl,rfl,rfl,rfl⟩) (⟨aI,sm,[],amB,sm,sm,by intro b hb;cases hb;exact lR _⟩) λgg w3 e3 hI=>?_
 obtain⟨k,vf,gf⟩:=gg
 obtain⟨dA,hk,xs,hO,zQ,mJ,fH⟩:=hI
 dsimp only at hk hO mJ fH
 refine ld dA cK cI hK h aF λcK cI hK h aF=>?_
 refine W ?_
 refine zc rfl (λh1=>?_) (λh1=>?_)
 have az:k<ns.length:=(by simp at h1;omega)
 have dR:=oq cK az
 obtain⟨b9,uL,e9,jF⟩:=dR
 cases e9
 have r8:=List.mem_of_getElem? (kM az)
 refine WZ ?_
 apply dV du 12 [19,20,21,22,23,24,25,26,27,28,29,30] [[],[0],[],[2],[],[4],[],[5,6],[7],[1,3,8],[],[9,10]] (it [_,_,_,_,_,_,_,_,_,_,_,_]) de rfl
 intro wd aB
 refine vc (λ_ _ _=>WZ pv) ?_
 refine vk aB (λx w4 aN=>?_) ?_
 have aF:=aF.ext aN
 refine WZ ?_
 exact pv
 refine vc (λ_ _ _=>WZ pv) ?_
 refine vk aB (λx w4 aN=>?_) ?_
 have aF:=aF.ext aN
 refine WZ ?_
 exact pv
 refine vc (λ_ _ _=>WZ pv) ?_
 refine vk aB (λx w4 aN=>?_) ?_
 have aF:=aF.ext aN
 refine WZ ?_
 exact pv
 refine vc (λ_ _ _=>WZ pv) ?_
 refine VA ?_
 refine vk aB (λx w4 aN=>?_) ?_
 refine bL aN cK cI λcK cI=>?_
 refine aA (HA ns ts hl om (cJ ns k) _ _ _ _ w4 cK cI) ?_
 rintro _ w5 ⟨rfl,aJ⟩
 have mn:=aJ.size
 exact pk aJ
 exact VZ
 intro x p7 j7
 refine gH j7 aF hO dA jF λaF hO dA jF=>?_
 change OW _ _ _ _ [] (aS (aR _ x _) (zZ 19 [_,_,_,_,_,_,_,_,_,_,_,_])) _
 refine aV<|zc rfl (λh2=>?_) (λh2=>?_)
 refine WI ?_
 refine zi bo bm rfl rfl az<|W ?_
 refine fo bo bm rfl rfl λnX jm Lc amC=>bL jm hO dA λhO dA=>?_
 refine sj bo bm rfl rfl rfl rfl rfl rfl hO Lc om λv9 g9 qb dm qN fx=>?_
 have Yc:=dA.size
 have dA:=dA.since qN (λx hx=>.inr (fH x (by simpa using hx)))
 have amD:=dA.size
 refine WA ?_
 refine o3 rfl rfl rfl rfl rfl (lq (k+1) om _ om)<|zA<|aV ?_
 exact⟨(k+1,v9,g9),⟨rfl,rfl,rfl,rfl,rfl⟩,⟨dA,by show k+1<=_;omega,xs++[cJ ns k],dm,λx hx=>by rcases mA.1 hx with h9|h9;(·exact zQ x h9);(·simp only[List.mem_singleton] at h9;rw[h9];exact r8),by show(xs++[cJ ns k]).length<=k+1;rw[lA];simp;omega,λb hb=>by rcases fx with h9|h9;(·exact fH b (h9.symm.trans hb));(·rw[h9] at hb;cases hb;omega)⟩,by show ns.length-(k+1)<ns.length-k;omega⟩
 refine gX<|lv<|zm<|o3 rfl rfl rfl rfl rfl (lq (k+1) om _ om)<|zA<|aV ?_
 exact⟨(k+1,_,gf),⟨rfl,rfl,rfl,rfl,rfl⟩,⟨dA,by show k+1<=_;omega,xs,hO,zQ,by show xs.length<=k+1;omega,fH⟩,by show ns.length-(k+1)<ns.length-k;omega⟩
 have cG:=j8 hO
 obtain⟨af,cf,ef⟩:=cG
 subst ef
 have aC:=hK.mono (L':=[br]) sm
 have amE:=hK.size
 have E5:∀b,gf=some b->w.heap.size<=b:=(λb hb=>by have:=fH b hb;omega)
 refine W ?_
 refine x4 (t:=42) rfl (λh3=>?_) (λh3=>?_)
 replace h3:=jy h3
 have jS:0<xs.length:=(by simp at h3;omega)
 refine zm<|aA (mh 4 de de br q om w3 h) ?_
 rintro v44 w4 ⟨⟨z,e44,hz⟩,h,jm⟩
 subst e44
 have aC:=aC.trans jm
 have hO:=hO.aG jm (λb hb aO=>by have:=E5 b hb;simp at aO;omega)
 have amE:=aC.size
 refine W ?_
 refine zc rfl (λh4=>?_) (λh4=>?_)
 refine W ?_
 refine aA (mh xs.length jS om br (q+1) om w4 h) ?_
 rintro v51 w5 ⟨⟨z2,PT,dK⟩,h,ln⟩
 subst PT
 have aC:=aC.trans ln
 have hO:=hO.aG ln (λb hb aO=>by have:=E5 b hb;simp at aO;omega)
 have dR:=oq hO.rs dK
 obtain⟨b9,uL,e9,jF⟩:=dR
 cases e9
 have r8:=zQ _ (List.mem_of_getElem? (kM dK))
 refine zi bo bm rfl rfl dK<|W ?_
 exact⟨_,rfl,⟨_,rfl,hs _ r8⟩,h,aC⟩
 refine W ?_
 refine zc rfl (λh5=>?_) (λh5=>?_)
 refine zr<|zm<|UC bo bm rfl rfl rfl rfl rfl rfl rfl rfl rfl rfl λw5 aJ Qc iq=>bL aJ h aC λh aC=>?_
 refine aA (lV FK de de br (q+1) om _ w5 h (aL.dS FK Qc (λhx=>by simp at hx;omega) de)) ?_
 rintro OY w6 ⟨⟨x1,iF,FD⟩,h,FH⟩
 subst FD
 have aC:=(aC).trans FH
 have fF:=(show∀x,x∈FK->x.length<=8000 from by decide) _ iF
 refine W ?_
 exact⟨_,rfl,⟨x1,rfl,fF⟩,h.more om,aC⟩
 refine gX<|zr<|zm<|aA (Yb want w4) ?_
 rintro v5 w5 ⟨CN,aJ⟩
 have mn:=aJ.size
 refine bL aJ h aC λh aC=>?_
 have eu:=CN
 obtain⟨x1,ok1,ID,fF⟩:=eu
 subst ID
 refine W ?_
 refine zc rfl (λh6=>?_) (λh6=>?_)
 refine W ?_
 exact⟨_,rfl,⟨[48],rfl,by decide⟩,h.more om,aC⟩
 refine W ?_
 exact⟨_,rfl,⟨x1,rfl,fF⟩,h.more om,aC⟩
 replace h3:=jy h3
 have jS:xs.length=0:=om
 refine W ?_
 refine zc rfl (λh7=>?_) (λh7=>?_)
 simp at h7
 refine W ?_
 refine zc rfl (λh8=>?_) (λh8=>?_)
 refine zr<|zm<|UC bo bm rfl rfl rfl rfl rfl rfl rfl rfl rfl rfl λw4 aN Qc ga=>bL aN hK h λhK h=>?_
 refine aA (lV FK de de br q om _ w4 h (aL.dS FK Qc (λhx=>by simp at hx;omega) de)) ?_
 rintro OY w5 ⟨⟨x1,iF,FD⟩,h,FH⟩
 subst FD
 have aC:=((hK.mono (L':=[br]) sm)).trans FH
 have fF:=(show∀x,x∈FK->x.length<=8000 from by decide) _ iF
 refine W ?_
 exact⟨_,rfl,⟨x1,rfl,fF⟩,h.more om,aC⟩
 refine gX<|zr<|zm<|aA (Yb want w3) ?_
 rintro v4 w4 ⟨kF,aN⟩
 have fg:=aN.size
 refine bL aN hK h λhK h=>?_
 have eu:=kF
 obtain⟨x1,ok1,ID,fF⟩:=eu
 subst ID
 refine W ?_
 refine zc rfl (λh9=>?_) (λh9=>?_)
 refine W ?_
 exact⟨_,rfl,⟨[48],rfl,by decide⟩,h.more om,(hK.mono (L':=[br]) sm)⟩
 refine W ?_
 exact⟨_,rfl,⟨x1,rfl,fF⟩,h.more om,(hK.mono (L':=[br]) sm)⟩
def Qd:List aj:=[[97],[98],[99],[120,49],[121,48]]
def Qe:List aj:=[[102],[103],[102,49]]
def Qf:List aj:=[[120],[122],[120,50]]
def Lu:List aj:=[[43],[45],[42]]
def IJ (d P:Nat):Prop:=∀(ns ts:List aj) (want:aj) (br q:Nat) (v1 v2:Value) (w:World),ns.length=ts.length->ns.length+2*d<=100->(∀x,x∈ns->x.length<=8000)->want.length+100*d<=26000->q+20*P<=800000000->dM w br q->bg [br] w v1 ns->bg [br] w v2 ts->
  bC Tryz.prog 132 [.pointer (some ⟨br,0,none⟩),.agg #[v1,v2],str want,.int .i64 (d:Int)] w λr w'=>(∃x,r=str x∧x.length<=100000*P)∧dM w' br (q+20*P)∧ak [br] w w'
theorem Lv {ns:List aj} {x:aj} (h:∀x,x∈ns->x.length<=8000) (hx:x.length<=8000):∀y,y∈ns++[x]->y.length<=8000:=λy hy=>by
 rcases mA.1 hy with h9|h9
 ·exact h y h9
 ·simp only[List.mem_singleton] at h9;rw[h9];exact hx
theorem Yd {s sg:aj} {o:Option (Ty×Ty)} (h:C6 s sg o):(th o).length<=100∧(yU o).length<=100:=by
 cases o with
 |none=>exact⟨by decide,by decide⟩
 |some p=>
  obtain⟨g,_,_,h3⟩:=h
  have e:(Ty.op g p.1 p.2).n=1+p.1.n+p.2.n:=rfl
  have h1:=p.1.len
  have h2:=p.2.len
  exact⟨by show p.1.text.length<=100;omega,by show p.2.text.length<=100;omega⟩
def BuP (d P:Nat):Prop:=∀(ns ts:List aj) (want:aj) (br q:Nat) (v1 v2:Value) (w:World),ns.length=ts.length->ns.length+2*(d+1)<=100->(∀x,x∈ns->x.length<=8000)->want.length+100*(d+1)<=26000->q+40*P+20<=800000000->dM w br q->bg [br] w v1 ns->bg [br] w v2 ts->
  bC Tryz.prog 163 [.pointer (some ⟨br,0,none⟩),.agg #[v1,v2],str want,.int .i64 ((d+1:Nat):Int)] w λr w'=>(∃x,r=str x∧x.length<=200000*P+30000)∧dM w' br (q+40*P+10)∧ak [br] w w'
theorem amI (d P:Nat) (hd:d<=10) (hP:1<=P) (Ye:P<=1000000) (ih:IJ d P):BuP d P:=by
 intro ns ts want br q v1 v2 w hl Fa hs hw hq h cK cI
 obtain⟨a1,n1,c1,rfl,fj⟩:=dU cK
 obtain⟨a2,n2,c2,rfl,eQ⟩:=dU cI
 subst fj
 subst eQ
 have ir:=h.lt
 have hk:=ak.refl [br] w
 refine cj [.tmp 8] 119 Tryz.func163 rfl acu rfl rfl ?_
 refine zr<|ey rfl λw1 aI bQ di=>gH aI hk h cK cI λhk h cK cI=>?_
 refine W ?_
 have bQ:dW [br] w1 w.heap.size _ _:=⟨bQ,by simp;omega⟩
 refine aA (Vh want w1) ?_
 rintro v2 w2 ⟨gP,az⟩
 have dz:=az.size
 refine ld az hk h cK cI bQ λhk h cK cI bQ=>?_
 obtain⟨o1,xI,rfl⟩:=gP
 have hAB:=Yd xI
 refine W ?_
 refine aA (Vg want w2) ?_
 rintro v3 w3 ⟨ka,aH⟩
 have eM:=aH.size
 refine ld aH hk h cK cI bQ λhk h cK cI bQ=>?_
 obtain⟨o2,vU,rfl⟩:=ka
 have hCE:=Yd vU
 refine WA ?_
 refine xX rfl rfl rfl rfl rfl (lq d om _ om)<|W ?_
 refine zc rfl (λh1=>?_) (λh1=>?_)
 refine WZ ?_
 apply jQ du ([br]) 14 (rA 35 14) (rA 35 14) [[],[],[],[],(rA 0 4),[4],[5],[],[],[],[],(rA 7 4),[6,11],[12]] [Ie.v _,Ie.v _,Ie.v _,Ie.v _,Ie.q 0 (fun(v:Value)=>∃x,v=str x∧x.length<=100000*P),Ie.p (fun(G:List Nat) (v:Value) (ww:World)=>∃x,v=str x∧x.length<=100000*P+100),Ie.p (fun(G:List Nat) (v:Value) (ww:World)=>∃x,v=str x∧x.length<=100000*P+200),Ie.v _,Ie.v _,Ie.v _,Ie.v _,Ie.q 1 (fun(v:Value)=>∃x,v=str x∧x.length<=100000*P),Ie.p (fun(G:List Nat) (v:Value) (ww:World)=>∃x,v=str x∧x.length<=200000*P+300),Ie.p (fun(G:List Nat) (v:Value) (ww:World)=>∃x,v=str x∧x.length<=200000*P+400)] [4,11] [fun(G:List Nat) (vs:List Value) (ww:World)=>G=[br]∧ak [br] w3 ww∧dM ww br q,fun(G:List Nat) (vs:List Value) (ww:World)=>G=[br]∧ak [br] w3 ww∧dM ww br (q+20*P),fun(G:List Nat) (vs:List Value) (ww:World)=>G=[br]∧ak [br] w3 ww∧dM ww br (q+40*P)] de rfl ((λz hz=>by simp at hz;subst hz;exact h.lt)) (by exact⟨λG v w G' w' h k=>h,λG v w G' w' h k=>h,λG v w G' w' h k=>h,λG v w G' w' h k=>h,trivial⟩) (by exact⟨λG vs w w' ⟨h1,h2,h3⟩ k=>⟨h1,h2.ext k,h3.ext k⟩,λG vs w w' ⟨h1,h2,h3⟩ k=>⟨h1,h2.ext k,h3.ext k⟩,λG vs w w' ⟨h1,h2,h3⟩ k=>⟨h1,h2.ext k,h3.ext k⟩,trivial⟩) (⟨rfl,ak.refl _ _,h⟩)
 refine FA ?_
 refine ve 0 (λx w4 G4 aX zR D0 hJ hlen=>?_) ?_
 have ba:=jv hlen
 subst ba
 have cK:=cK.go zR;have cI:=cI.go zR
 obtain⟨bX,cg,h⟩:=hJ
 subst bX
 refine aA (ih ns ts (th o1) br q _ _ w4 hl om hs om om h cK cI) ?_
 rintro v9 w5 ⟨⟨x9,e9,iW⟩,h,aC⟩
 subst e9
 exact fq ([br]) (Fr.of aC sm) ((λz hz=>lL (D0 z hz) aC.size)) (⟨rfl,cg.trans aC,h.more om⟩) (⟨_,rfl,iW⟩)
 refine vf (λx w4 G4 aX zR D0=>?_) ?_
 intro v4 Qg d4
 obtain⟨y4,e4,Bh⟩:=d4
 subst e4
 refine iw rfl rfl rfl rfl (by(try simp);omega) ?_
 exact ff (ak.refl _ _) (⟨_,rfl,by simp;omega⟩)
 refine vf (λx w4 G4 aX zR D0=>?_) ?_
 intro v5 d5
 obtain⟨y5,e5,hl5⟩:=d5
 subst e5
 refine iw rfl rfl rfl rfl (by(try simp);omega) ?_
 exact ff (ak.refl _ _) (⟨_,rfl,by simp;omega⟩)
 refine FA ?_
 refine ve 1 (λx w4 G4 aX zR D0 hJ hlen=>?_) ?_
 have aY:=jw hlen
 obtain⟨q0,ba⟩:=aY
 subst ba
 have cK:=cK.go zR;have cI:=cI.go zR
 obtain⟨bX,cg,h⟩:=hJ
 subst bX
 refine aA (ih ns ts (yU o1) br (q+20*P) _ _ w4 hl om hs om om h cK cI) ?_
 rintro v9 w5 ⟨⟨x9,e9,iW⟩,h,aC⟩
 subst e9
 exact fq ([br]) (Fr.of aC sm) ((λz hz=>lL (D0 z hz) aC.size)) (⟨rfl,cg.trans aC,h.more om⟩) (⟨_,rfl,iW⟩)
 refine vf (λx w4 G4 aX zR D0=>?_) ?_
 intro v6 d6
 intro v11 amK d11
 obtain⟨y6,e6,hl6⟩:=d6
 subst e6
 obtain⟨Yf,Du,Yg⟩:=d11
 subst Du
 refine iw rfl rfl rfl rfl (by(try simp);omega) ?_
 exact ff (ak.refl _ _) (⟨_,rfl,by simp;omega⟩)
 refine vf (λx w4 G4 aX zR D0=>?_) ?_
 intro v12 d12
 obtain⟨y12,qZ,amM⟩:=d12
 subst qZ
 refine iw rfl rfl rfl rfl (by(try simp);omega) ?_
 exact ff (ak.refl _ _) (⟨_,rfl,by simp;omega⟩)
 exact trivial
 intro x p7 G43 aX asq asr hJ hlen
 have aY:=lJ hlen
 obtain⟨q0,q1,ba⟩:=aY
 subst ba
 intro v4 Qg d4
 intro v5 d5
 intro v6 d6
 intro v11 amK d11
 intro v12 d12
 intro HR d13
 change OW _ _ _ _ _ (aS (aR _ x _) (zZ 35 [_,_,_,_,_,_,_,_,_,_,_,_,_,_])) _
 obtain⟨bX,cg,h⟩:=hJ
 subst bX
 obtain⟨yz,ez,FG⟩:=d13
 subst ez
 refine W ?_
 exact⟨_,rfl,⟨yz,rfl,om⟩,h.more om,hk.trans cg⟩
 refine W ?_
 refine zc rfl (λh2=>?_) (λh2=>?_)
 refine zr<|zm<|qf bo bm rfl rfl rfl rfl rfl λw4 aN amN ga=>ld aN hk h cK cI bQ λhk h cK cI bQ=>?_
 have lr:=h.lt
 refine aA (lV Qe de de br q om _ w4 h (aL.dS Qe amN (λhx=>by simp at hx;omega) de)) ?_
 rintro l9 w5 ⟨⟨fn,amO,gW⟩,h,aC⟩
 subst gW
 have ass:=(show∀x,x∈Qe->x.length<=30 from by decide) _ amO
 have hk:=hk.trans aC
 have cK:=cK.aD aC sm;have cI:=cI.aD aC sm;have bQ:=bQ.aD aC sm
 have lr:=h.lt
 refine W ?_
 refine qf bo bm rfl rfl rfl rfl rfl λw6 bB C9 jR=>ld bB hk h cK cI bQ λhk h cK cI bQ=>?_
 refine aA (lV Qf de de br (q+1) om _ w6 h (aL.dS Qf C9 (λhx=>by simp at hx;omega) de)) ?_
 rintro l9 w7 ⟨⟨xn,amP,gW⟩,h,aC⟩
 subst gW
 have ast:=(show∀x,x∈Qf->x.length<=30 from by decide) _ amP
 have hk:=hk.trans aC
 have cK:=cK.aD aC sm;have cI:=cI.aD aC sm;have bQ:=bQ.aD aC sm
 have lr:=h.lt
 refine W ?_
 refine aA (Ls ns ts xn (th o2) om om _ _ [br] w7 (λx hx=>by simp at hx;subst hx;exact h.lt) cK cI) ?_
 rintro v8 w8 ⟨ux,aU⟩
 have oK:=aU.size
 refine ld aU hk h cK cI bQ λhk h cK cI bQ=>?_
 obtain⟨u1,u2,e9,rP,rQ⟩:=ux
 subst e9
 have cG:=dU rP
 obtain⟨b1,m1,d1,e1,_⟩:=cG
 subst e1
 have cG:=dU rQ
 obtain⟨b2,m2,d2,e2,_⟩:=cG
 subst e2
 refine da Cw rfl rfl rfl λw9 aC jK O2=>?_
 have hsb:=h.lt
 have asu:br<w8.heap.size:=hsb
 have asv:w.heap.size<w8.heap.size:=bQ.lt
 have asw:w.heap.size<=w8.heap.size:=hk.size
 refine bL aC hk h λhk h=>?_
 have cK:=(bg.fresh cK (L':=w8.heap.size::[br]) (λx hx=>by rcases mC.1 hx with h9|h9;(·right;omega);(·exact .inl h9))).ext aC
 have cI:=(bg.fresh cI (L':=w8.heap.size::[br]) (λx hx=>by rcases mC.1 hx with h9|h9;(·right;omega);(·exact .inl h9))).ext aC
 have rP:=(bg.fresh rP (L':=w8.heap.size::[br]) (λx hx=>by rcases mC.1 hx with h9|h9;(·right;omega);(·exact .inl h9))).ext aC
 have rQ:=(bg.fresh rQ (L':=w8.heap.size::[br]) (λx hx=>by rcases mC.1 hx with h9|h9;(·right;omega);(·exact .inl h9))).ext aC
 have bQ:=(bQ.ext aC)
 refine cu (vs:=[.slice b1 m1 d1,.slice b2 m2 d2]) Cw rfl rfl rfl jK rfl λcB cA jK dv=>?_
 have hk:=hk.since cA (λx hx=>.inr (by simp at hx;omega))
 have h:=h.aG cA (λx hx=>by simp at hx;omega)
 have cK:=bg.aD cK cA sm
 have cI:=bg.aD cI cA sm
 have rP:=bg.aD rP cA sm
 have rQ:=bg.aD rQ cA sm
 have bQ:dW [br] cB _ _ _:=⟨bQ.iy.aG cA so,bQ.out⟩
 refine W ?_
 refine aA (mh 6 de de br (q+2) om cB h) ?_
 rintro v9 eC ⟨⟨z,e9,hz⟩,h,aC⟩
 subst e9
 have rP:=bg.aD rP aC sm
 have rQ:=bg.aD rQ aC sm
 have jK:=jK.aG aC so
 have hk:=hk.trans aC
 have cK:=cK.aD aC sm;have cI:=cI.aD aC sm;have bQ:=bQ.aD aC sm
 have lr:=h.lt
 refine W ?_
 refine iS (λg:List aj×List aj×Value×Value=>[(0,.pointer (some ⟨br,0,none⟩)),(12,str (th o2)),(13,str (yU o2)),(15,.int .i64 (d:Int)),(16,str fn),(17,str xn),(18,.pointer (some ⟨w8.heap.size,0,none⟩))]) (λg ww=>ak [br] w ww∧dM ww br (q+3)∧aL ww w8.heap.size [g.2.2.1,g.2.2.2].toArray 152∧bg [br] ww g.2.2.1 g.1∧bg [br] ww g.2.2.2 g.2.1∧g.1.length=g.2.1.length∧g.1.length+2*d<=100∧∀x,x∈g.1->x.length<=8000) ?_ ?_
 refine zc rfl (λh3=>?_) (λh3=>?_)
 refine W ?_
 refine aA (Ls ns ts fn want om om _ _ (w8.heap.size::[br]) eC (λx hx=>by have:=jK.lt;simp at hx;rcases hx with hx|hx<;>omega) cK cI) ?_
 rintro v12 fI ⟨Ig,dw⟩
 have BC:=dw.size
 refine cO dw hk h jK λhk h jK=>?_
 obtain⟨u3,u4,e9,rP,rQ⟩:=Ig
 subst e9
 have cG:=dU rP
 obtain⟨b3,m3,d3,e1,_⟩:=cG
 subst e1
 have cG:=dU rQ
 obtain⟨b4,m4,d4,e2,_⟩:=cG
 subst e2
 refine zm<|zm<|aA (Ls (ns++[fn]) (ts++[want]) xn (th o2) so so _ _ (w8.heap.size::[br]) fI (λx hx=>by have:=jK.lt;simp at hx;rcases hx with hx|hx<;>omega) rP rQ) ?_
 rintro HR jE ⟨amR,gB⟩
 have H3:=gB.size
 refine cO gB hk h jK λhk h jK=>?_
 obtain⟨u5,u6,e9,Lw,Ly⟩:=amR
 subst e9
 have cG:=dU Lw
 obtain⟨b5,m5,d5,e1,_⟩:=cG
 subst e1
 have cG:=dU Ly
 obtain⟨b6,m6,d6,e2,_⟩:=cG
 subst e2
 refine cu (vs:=[.slice b5 m5 d5,.slice b6 m6 d6]) Cw rfl rfl rfl jK rfl λeI bS jK dv=>?_
 have hk:=hk.since bS (λx hx=>.inr (by simp at hx;omega))
 have h:=h.aG bS (λx hx=>by simp at hx;omega)
 have Lw:=bg.aD Lw bS sm
 have Ly:=bg.aD Ly bS sm
 refine W ?_
 exact⟨((ns++[fn])++[xn],(ts++[want])++[th o2],_,_),⟨rfl,rfl,rfl,rfl,rfl,rfl,rfl⟩,hk,h,jK,bg.fresh Lw (λx hx=>.inl (by simp at hx;simp[hx])),bg.fresh Ly (λx hx=>.inl (by simp at hx;simp[hx])),by simp;omega,by simp;omega,Lv (Lv hs om) om⟩
 refine WZ ?_
 exact⟨(ns++[xn],ts++[th o2],_,_),⟨rfl,rfl,rfl,rfl,rfl,rfl,rfl⟩,hk,h,jK,bg.fresh rP (λx hx=>.inl (by simp at hx;simp[hx])),bg.fresh rQ (λx hx=>.inl (by simp at hx;simp[hx])),by simp;omega,by simp;omega,Lv hs om⟩
 intro gu fI qZ hI
 obtain⟨zs,us,p1,p2⟩:=gu
 dsimp only at hI⊢
 obtain⟨hk,h,jK,qK,qM,Iz,hzn,xV⟩:=hI
 have cG:=dU qK
 obtain⟨b1,m1,d1,e1,_⟩:=cG
 subst e1
 have cG:=dU qM
 obtain⟨b2,m2,d2,e2,_⟩:=cG
 subst e2
 refine WZ ?_
 refine aA (ih zs us (yU o2) br (q+3) _ _ fI Iz om xV om om h qK qM) ?_
 rintro v9 jE ⟨⟨x9,e9,iW⟩,h,aC⟩
 subst e9
 have hk:=hk.trans aC
 refine W ?_
 exact⟨_,rfl,⟨_,rfl,by simp;omega⟩,h.more om,hk⟩
 refine W ?_
 refine x4 (t:=93) rfl (λh4=>?_) (λh4=>?_)
 replace h4:=jy h4
 refine zm<|aA (mh 3 de de br q om w3 h) ?_
 rintro v9 w4 ⟨⟨z,e9,hz⟩,h,aC⟩
 subst e9
 have hk:=hk.trans aC
 have cK:=cK.aD aC sm;have cI:=cI.aD aC sm;have bQ:=bQ.aD aC sm
 have lr:=h.lt
 refine W ?_
 refine zc rfl (λh5=>?_) (λh5=>?_)
 refine WZ ?_
 apply jQ du ([br]) 17 (rA 98 17) (rA 98 17) [[],[],[0,1],[2],[3],[],[],[],[5,6,7],[4,8],[9],[],[],[],[11,12,13],[10,14],[15]] [Ie.v _,Ie.p (fun(G:List Nat) (v:Value) (ww:World)=>bg G ww v Lu),Ie.q 0 (fun(v:Value)=>∃x,v=str x∧x.length<=30),Ie.p (fun(G:List Nat) (v:Value) (ww:World)=>∃x,v=str x∧x.length<=40),Ie.p (fun(G:List Nat) (v:Value) (ww:World)=>∃x,v=str x∧x.length<=50),Ie.v _,Ie.v _,Ie.v _,Ie.q 1 (fun(v:Value)=>∃x,v=str x∧x.length<=100000*P),Ie.p (fun(G:List Nat) (v:Value) (ww:World)=>∃x,v=str x∧x.length<=100000*P+100),Ie.p (fun(G:List Nat) (v:Value) (ww:World)=>∃x,v=str x∧x.length<=100000*P+200),Ie.v _,Ie.v _,Ie.v _,Ie.q 2 (fun(v:Value)=>∃x,v=str x∧x.length<=100000*P),Ie.p (fun(G:List Nat) (v:Value) (ww:World)=>∃x,v=str x∧x.length<=200000*P+300),Ie.p (fun(G:List Nat) (v:Value) (ww:World)=>∃x,v=str x∧x.length<=200000*P+400)] [2,8,14] [fun(G:List Nat) (vs:List Value) (ww:World)=>G=[br]∧ak [br] w4 ww∧dM ww br (q+1),fun(G:List Nat) (vs:List Value) (ww:World)=>G=[br]∧ak [br] w4 ww∧dM ww br (q+2),fun(G:List Nat) (vs:List Value) (ww:World)=>G=[br]∧ak [br] w4 ww∧dM ww br (q+2+20*P),fun(G:List Nat) (vs:List Value) (ww:World)=>G=[br]∧ak [br] w4 ww∧dM ww br (q+2+40*P)] de rfl ((λz hz=>by simp at hz;subst hz;exact h.lt)) (by exact⟨λG v w G' w' h k=>bg.go h k,λG v w G' w' h k=>h,λG v w G' w' h k=>h,λG v w G' w' h k=>h,λG v w G' w' h k=>h,λG v w G' w' h k=>h,λG v w G' w' h k=>h,trivial⟩) (by exact⟨λG vs w w' ⟨h1,h2,h3⟩ k=>⟨h1,h2.ext k,h3.ext k⟩,λG vs w w' ⟨h1,h2,h3⟩ k=>⟨h1,h2.ext k,h3.ext k⟩,λG vs w w' ⟨h1,h2,h3⟩ k=>⟨h1,h2.ext k,h3.ext k⟩,λG vs w w' ⟨h1,h2,h3⟩ k=>⟨h1,h2.ext k,h3.ext k⟩,trivial⟩) (⟨rfl,ak.refl _ _,h⟩)
 refine FA ?_
 refine vf (λx w5 G5 aX qk tH=>?_) ?_
 refine qf bo bm rfl rfl rfl rfl rfl λw6 bB Pc jR=>?_
 exact ff bB ((aL.dS Lu Pc (λhx=>by have:=tH _ hx;omega) de))
 refine ve 0 (λx w5 G5 aX qk tH hJ hlen=>?_) ?_
 have ba:=jv hlen
 subst ba
 intro v1 d1
 obtain⟨bX,cg,h⟩:=hJ
 subst bX
 refine aA (lV Lu de de br (q+1) om _ w5 h d1) ?_
 rintro l9 w6 ⟨⟨x9,iW,gW⟩,h,aC⟩
 subst gW
 have eN:=(show∀x,x∈Lu->x.length<=30 from by decide) _ iW
 exact fq ([br]) (Fr.of aC sm) ((λz hz=>lL (tH z hz) aC.size)) (⟨rfl,cg.trans aC,h⟩) (⟨_,rfl,eN⟩)
 refine vf (λx w5 G5 aX qk tH=>?_) ?_
 intro v2 gi d2
 obtain⟨y2,e2,iz⟩:=d2
 subst e2
 refine iw rfl rfl rfl rfl (by(try simp);omega) ?_
 exact ff (ak.refl _ _) (⟨_,rfl,by simp;omega⟩)
 refine vf (λx w5 G5 aX qk tH=>?_) ?_
 intro v3 d3
 obtain⟨y3,e3,vE⟩:=d3
 subst e3
 refine iw rfl rfl rfl rfl (by(try simp);omega) ?_
 exact ff (ak.refl _ _) (⟨_,rfl,by simp;omega⟩)
 refine FA ?_
 refine ve 1 (λx w5 G5 aX qk tH hJ hlen=>?_) ?_
 have aY:=jw hlen
 obtain⟨q0,ba⟩:=aY
 subst ba
 have cK:=cK.go qk;have cI:=cI.go qk
 obtain⟨bX,cg,h⟩:=hJ
 subst bX
 refine aA (ih ns ts ([105]) br (q+2) _ _ w5 hl om hs so om h cK cI) ?_
 rintro v9 w6 ⟨⟨x9,e9,iW⟩,h,aC⟩
 subst e9
 exact fq ([br]) (Fr.of aC sm) ((λz hz=>lL (tH z hz) aC.size)) (⟨rfl,cg.trans aC,h.more om⟩) (⟨_,rfl,iW⟩)
 refine vf (λx w5 G5 aX qk tH=>?_) ?_
 intro v4 d4
 intro v8 hq8 d8
 obtain⟨y4,e4,Bh⟩:=d4
 subst e4
 obtain⟨y8,e8,hl8⟩:=d8
 subst e8
 refine iw rfl rfl rfl rfl (by(try simp);omega) ?_
 exact ff (ak.refl _ _) (⟨_,rfl,by simp;omega⟩)
 refine vf (λx w5 G5 aX qk tH=>?_) ?_
 intro v9 d9
 obtain⟨y9,e9,eN⟩:=d9
 subst e9
 refine iw rfl rfl rfl rfl (by(try simp);omega) ?_
 exact ff (ak.refl _ _) (⟨_,rfl,by simp;omega⟩)
 refine FA ?_
 refine ve 2 (λx w5 G5 aX qk tH hJ hlen=>?_) ?_
 have aY:=lJ hlen
 obtain⟨q0,q1,ba⟩:=aY
 subst ba
 have cK:=cK.go qk;have cI:=cI.go qk
 obtain⟨bX,cg,h⟩:=hJ
 subst bX
 refine aA (ih ns ts ([105]) br (q+2+20*P) _ _ w5 hl om hs so om h cK cI) ?_
 rintro v9 w6 ⟨⟨x9,e9,iW⟩,h,aC⟩
 subst e9
 exact fq ([br]) (Fr.of aC sm) ((λz hz=>lL (tH z hz) aC.size)) (⟨rfl,cg.trans aC,h.more om⟩) (⟨_,rfl,iW⟩)
 refine vf (λx w5 G5 aX qk tH=>?_) ?_
 intro v10 d10
 intro l9 amU d14
 obtain⟨Lz,fL,E8⟩:=d10
 subst fL
 obtain⟨y14,gW,asz⟩:=d14
 subst gW
 refine iw rfl rfl rfl rfl (by(try simp);omega) ?_
 exact ff (ak.refl _ _) (⟨_,rfl,by simp;omega⟩)
 refine vf (λx w5 G5 aX qk tH=>?_) ?_
 intro vR d15
 obtain⟨y15,BB,asB⟩:=d15
 subst BB
 refine iw rfl rfl rfl rfl (by(try simp);omega) ?_
 exact ff (ak.refl _ _) (⟨_,rfl,by simp;omega⟩)
 exact trivial
 intro x nX G44 aX asD asE hJ hlen
 have aY:=AQ hlen
 obtain⟨q0,q1,q2,ba⟩:=aY
 subst ba
 intro v1 d1
 intro v2 gi d2
 intro v3 d3
 intro v4 d4
 intro v8 hq8 d8
 intro v9 d9
 intro v10 d10
 intro l9 amU d14
 intro vR d15
 intro Df d16
 change OW _ _ _ _ _ (aS (aR _ x _) (zZ 98 [_,_,_,_,_,_,_,_,_,_,_,_,_,_,_,_,_])) _
 obtain⟨bX,cg,h⟩:=hJ
 subst bX
 obtain⟨yz,ez,FG⟩:=d16
 subst ez
 refine W ?_
 exact⟨_,rfl,⟨yz,rfl,om⟩,h.more om,hk.trans cg⟩
 refine W ?_
 refine aA (Qb ns ts want hl om hs br (q+1) om _ _ w4 h cK cI) ?_
 rintro v9 w5 ⟨⟨x9,e9,iW⟩,h,aC⟩
 subst e9
 refine W ?_
 exact⟨_,rfl,⟨x9,rfl,om⟩,h.more om,hk.trans aC⟩
 replace h4:=jy h4
 refine W ?_
 refine zc rfl (λh6=>?_) (λh6=>?_)
 simp at h6
 refine W ?_
 refine aA (Qb ns ts want hl om hs br q om _ _ w3 h cK cI) ?_
 rintro v9 w4 ⟨⟨x9,e9,iW⟩,h,aC⟩
 subst e9
 refine W ?_
 exact⟨_,rfl,⟨x9,rfl,om⟩,h.more om,hk.trans aC⟩
theorem amV:IJ 0 1:=by
 intro ns ts want br q v1 v2 w hl Fa hs hw hq h cK cI
 obtain⟨a1,n1,c1,rfl,fj⟩:=dU cK
 obtain⟨a2,n2,c2,rfl,eQ⟩:=dU cI
 subst fj
 subst eQ
 have ir:=h.lt
 have hk:=ak.refl [br] w
 refine cj [.tmp 8] 130 Tryz.func132 rfl SI rfl rfl ?_
 refine zr<|ey rfl λw1 aI bQ di=>gH aI hk h cK cI λhk h cK cI=>?_
 refine W ?_
 refine zc rfl (λh1=>?_) (λh1=>?_)
 refine W ?_
 refine aA (Qb ns ts want hl om hs br q om _ _ w1 h cK cI) ?_
 rintro v9 w2 ⟨⟨x9,e9,iW⟩,h,aC⟩
 subst e9
 refine W ?_
 exact⟨_,rfl,⟨x9,rfl,om⟩,h.more om,hk.trans aC⟩
 simp at h1
theorem amW (d P:Nat) (hd:d<=10) (hP:1<=P) (Ye:P<=1000000) (ih:IJ d P):IJ (d+1) (4*P):=by
 have hB:=amI d P hd hP Ye ih
 intro ns ts want br q v1 v2 w hl Fa hs hw hq h cK cI
 obtain⟨a1,n1,c1,rfl,fj⟩:=dU cK
 obtain⟨a2,n2,c2,rfl,eQ⟩:=dU cI
 subst fj
 subst eQ
 have ir:=h.lt
 have hk:=ak.refl [br] w
 refine cj [.tmp 8] 130 Tryz.func132 rfl SI rfl rfl ?_
 refine zr<|ey rfl λw1 aI bQ di=>gH aI hk h cK cI λhk h cK cI=>?_
 refine W ?_
 refine zc rfl (λh1=>?_) (λh1=>?_)
 simp at h1;omega
 have bQ:dW [br] w1 w.heap.size _ _:=⟨bQ,by simp;omega⟩
 refine gX<|zr<|zm<|xX rfl rfl rfl rfl rfl (lq d om _ om)<|zA<|aV<|jV<|zr<|zm<|aA (mh 12 de de br q om w1 h) ?_
 rintro v9 w2 ⟨⟨z,e9,hz⟩,h,aC⟩
 subst e9
 have hk:=hk.trans aC
 have cK:=cK.aD aC sm;have cI:=cI.aD aC sm;have bQ:=bQ.aD aC sm
 have lr:=h.lt
 refine W ?_
 refine zc rfl (λh2=>?_) (λh2=>?_)
 refine WZ ?_
 apply jQ du ([br]) 20 (rA 25 20) (rA 25 20) [[],[],[],[0,1,2],[3],[4],[],[],[],[],(rA 6 4),[5,10],[11],[],[],[],[],(rA 13 4),[12,17],[18]] [Ie.v _,Ie.v _,Ie.v _,Ie.q 0 (fun(v:Value)=>∃x,v=str x∧x.length<=100000*P),Ie.p (fun(G:List Nat) (v:Value) (ww:World)=>∃x,v=str x∧x.length<=100000*P+100),Ie.p (fun(G:List Nat) (v:Value) (ww:World)=>∃x,v=str x∧x.length<=100000*P+200),Ie.v _,Ie.v _,Ie.v _,Ie.v _,Ie.q 1 (fun(v:Value)=>∃x,v=str x∧x.length<=100000*P),Ie.p (fun(G:List Nat) (v:Value) (ww:World)=>∃x,v=str x∧x.length<=200000*P+300),Ie.p (fun(G:List Nat) (v:Value) (ww:World)=>∃x,v=str x∧x.length<=200000*P+400),Ie.v _,Ie.v _,Ie.v _,Ie.v _,Ie.q 2 (fun(v:Value)=>∃x,v=str x∧x.length<=100000*P),Ie.p (fun(G:List Nat) (v:Value) (ww:World)=>∃x,v=str x∧x.length<=300000*P+500),Ie.p (fun(G:List Nat) (v:Value) (ww:World)=>∃x,v=str x∧x.length<=300000*P+600)] [3,10,17] [fun(G:List Nat) (vs:List Value) (ww:World)=>G=[br]∧ak [br] w2 ww∧dM ww br (q+1),fun(G:List Nat) (vs:List Value) (ww:World)=>G=[br]∧ak [br] w2 ww∧dM ww br (q+1+20*P),fun(G:List Nat) (vs:List Value) (ww:World)=>G=[br]∧ak [br] w2 ww∧dM ww br (q+1+40*P),fun(G:List Nat) (vs:List Value) (ww:World)=>G=[br]∧ak [br] w2 ww∧dM ww br (q+1+60*P)] de rfl ((λz hz=>by simp at hz;subst hz;exact h.lt)) (by exact⟨λG v w G' w' h k=>h,λG v w G' w' h k=>h,λG v w G' w' h k=>h,λG v w G' w' h k=>h,λG v w G' w' h k=>h,λG v w G' w' h k=>h,trivial⟩) (by exact⟨λG vs w w' ⟨h1,h2,h3⟩ k=>⟨h1,h2.ext k,h3.ext k⟩,λG vs w w' ⟨h1,h2,h3⟩ k=>⟨h1,h2.ext k,h3.ext k⟩,λG vs w w' ⟨h1,h2,h3⟩ k=>⟨h1,h2.ext k,h3.ext k⟩,λG vs w w' ⟨h1,h2,h3⟩ k=>⟨h1,h2.ext k,h3.ext k⟩,trivial⟩) (⟨rfl,ak.refl _ _,h⟩)
 refine FA ?_
 refine ve 0 (λx w3 G3 aX jC kH hJ hlen=>?_) ?_
 have ba:=jv hlen
 subst ba
 have cK:=cK.go jC;have cI:=cI.go jC
 obtain⟨bX,cg,h⟩:=hJ
 subst bX
 refine aA (ih ns ts ([105]) br (q+1) _ _ w3 hl om hs so om h cK cI) ?_
 rintro v9 w4 ⟨⟨x9,e9,iW⟩,h,aC⟩
 subst e9
 exact fq ([br]) (Fr.of aC sm) ((λz hz=>lL (kH z hz) aC.size)) (⟨rfl,cg.trans aC,h.more om⟩) (⟨_,rfl,iW⟩)
 refine vf (λx w3 G3 aX jC kH=>?_) ?_
 intro v3 r7 d3
 obtain⟨y3,e3,vE⟩:=d3
 subst e3
 refine iw rfl rfl rfl rfl (by(try simp);omega) ?_
 exact ff (ak.refl _ _) (⟨_,rfl,by simp;omega⟩)
 refine vf (λx w3 G3 aX jC kH=>?_) ?_
 intro v4 d4
 obtain⟨y4,e4,Bh⟩:=d4
 subst e4
 refine iw rfl rfl rfl rfl (by(try simp);omega) ?_
 exact ff (ak.refl _ _) (⟨_,rfl,by simp;omega⟩)
 refine FA ?_
 refine ve 1 (λx w3 G3 aX jC kH hJ hlen=>?_) ?_
 have aY:=jw hlen
 obtain⟨q0,ba⟩:=aY
 subst ba
 have cK:=cK.go jC;have cI:=cI.go jC
 obtain⟨bX,cg,h⟩:=hJ
 subst bX
 refine aA (ih ns ts want br (q+1+20*P) _ _ w3 hl om hs om om h cK cI) ?_
 rintro v9 w4 ⟨⟨x9,e9,iW⟩,h,aC⟩
 subst e9
 exact fq ([br]) (Fr.of aC sm) ((λz hz=>lL (kH z hz) aC.size)) (⟨rfl,cg.trans aC,h.more om⟩) (⟨_,rfl,iW⟩)
 refine vf (λx w3 G3 aX jC kH=>?_) ?_
 intro v5 d5
 intro v10 Yh d10
 obtain⟨y5,e5,hl5⟩:=d5
 subst e5
 obtain⟨Lz,fL,E8⟩:=d10
 subst fL
 refine iw rfl rfl rfl rfl (by(try simp);omega) ?_
 exact ff (ak.refl _ _) (⟨_,rfl,by simp;omega⟩)
 refine vf (λx w3 G3 aX jC kH=>?_) ?_
 intro v11 d11
 obtain⟨Yf,Du,Yg⟩:=d11
 subst Du
 refine iw rfl rfl rfl rfl (by(try simp);omega) ?_
 exact ff (ak.refl _ _) (⟨_,rfl,by simp;omega⟩)
 refine FA ?_
 refine ve 2 (λx w3 G3 aX jC kH hJ hlen=>?_) ?_
 have aY:=lJ hlen
 obtain⟨q0,q1,ba⟩:=aY
 subst ba
 have cK:=cK.go jC;have cI:=cI.go jC
 obtain⟨bX,cg,h⟩:=hJ
 subst bX
 refine aA (ih ns ts want br (q+1+40*P) _ _ w3 hl om hs om om h cK cI) ?_
 rintro v9 w4 ⟨⟨x9,e9,iW⟩,h,aC⟩
 subst e9
 exact fq ([br]) (Fr.of aC sm) ((λz hz=>lL (kH z hz) aC.size)) (⟨rfl,cg.trans aC,h.more om⟩) (⟨_,rfl,iW⟩)
 refine vf (λx w3 G3 aX jC kH=>?_) ?_
 intro v12 d12
 intro jN Qh d17
 obtain⟨y12,qZ,amM⟩:=d12
 subst qZ
 obtain⟨Yi,sk,Yj⟩:=d17
 subst sk
 refine iw rfl rfl rfl rfl (by(try simp);omega) ?_
 exact ff (ak.refl _ _) (⟨_,rfl,by simp;omega⟩)
 refine vf (λx w3 G3 aX jC kH=>?_) ?_
 intro xD d18
 obtain⟨y18,vS,O3⟩:=d18
 subst vS
 refine iw rfl rfl rfl rfl (by(try simp);omega) ?_
 exact ff (ak.refl _ _) (⟨_,rfl,by simp;omega⟩)
 exact trivial
 intro x qQ HG aX E1 Om hJ hlen
 have aY:=AQ hlen
 obtain⟨q0,q1,q2,ba⟩:=aY
 subst ba
 intro v3 r7 d3
 intro v4 d4
 intro v5 d5
 intro v10 Yh d10
 intro v11 d11
 intro v12 d12
 intro jN Qh d17
 intro xD d18
 intro KR d19
 change OW _ _ _ _ _ (aS (aR _ x _) (zZ 25 [_,_,_,_,_,_,_,_,_,_,_,_,_,_,_,_,_,_,_,_])) _
 obtain⟨bX,cg,h⟩:=hJ
 subst bX
 obtain⟨yz,ez,FG⟩:=d19
 subst ez
 refine W ?_
 exact⟨_,rfl,⟨yz,rfl,om⟩,h.more om,hk.trans cg⟩
 refine W ?_
 refine iS (λb:Bool=>[(0,.pointer (some ⟨br,0,none⟩)),(2,str want),(3,.int .i64 ((d+1:Nat):Int)),(5,.pointer (some ⟨w.heap.size,0,none⟩)),(9,.int .i64 (d:Int)),(22,.int .i64 (z:Int)),(45,.bool b)]) (λb ww=>ww=w2) ?_ ?_
 refine zc rfl (λh3=>?_) (λh3=>?_)
 refine WZ ?_
 exact⟨_,⟨rfl,rfl,rfl,rfl,rfl,rfl,rfl⟩,rfl⟩
 refine W ?_
 exact⟨_,⟨rfl,rfl,rfl,rfl,rfl,rfl,rfl⟩,rfl⟩
 intro gu w3 e3 hI
 have Qi:w3=_:=hI
 subst Qi
 refine zc rfl (λh4=>?_) (λh4=>?_)
 refine zr<|zm<|aA (P8 1 de br (q+1) om w3 h) ?_
 rintro v9 w4 ⟨⟨T,e9,hT⟩,h,aC⟩
 subst e9
 have Yk:=T.len
 have hT:T.n+1<=4:=hT
 have h:=h.more (show _<=q+5 from om)
 have hk:=hk.trans aC
 have cK:=cK.aD aC sm;have cI:=cI.aD aC sm;have bQ:=bQ.aD aC sm
 have lr:=h.lt
 refine W ?_
 refine NP bo bm rfl rfl rfl rfl rfl rfl rfl λw5 aJ Pb iq=>ld aJ cK cI bQ h hk λcK cI bQ h hk=>?_
 refine aA (lV Qd de de br (q+5) om _ w5 h (aL.dS Qd Pb (λhx=>by simp at hx;omega) de)) ?_
 rintro l9 w6 ⟨⟨nm,amY,gW⟩,h,aC⟩
 subst gW
 have asF:=(show∀x,x∈Qd->x.length<=30 from by decide) _ amY
 have hk:=hk.trans aC
 have cK:=cK.aD aC sm;have cI:=cI.aD aC sm;have bQ:=bQ.aD aC sm
 have lr:=h.lt
 refine W ?_
 apply jQ du ([br]) 20 (rA 53 20) (rA 53 20) [[],[0],[1],[],[],[],[],(rA 3 4),[2,7],[8],[],[],[],[],[11,12,13],[],[],[10,14,15,16],[9,17],[18]] [Ie.v _,Ie.v _,Ie.v _,Ie.v _,Ie.v _,Ie.v _,Ie.v _,Ie.q 0 (fun(v:Value)=>∃x,v=str x∧x.length<=100000*P),Ie.p (fun(G:List Nat) (v:Value) (ww:World)=>∃x,v=str x∧x.length<=100000*P+200),Ie.p (fun(G:List Nat) (v:Value) (ww:World)=>∃x,v=str x∧x.length<=100000*P+300),Ie.v _,Ie.v _,Ie.v _,Ie.v _,Ie.e 1,Ie.v _,Ie.v _,Ie.q 2 (fun(v:Value)=>∃x,v=str x∧x.length<=100000*P),Ie.p (fun(G:List Nat) (v:Value) (ww:World)=>∃x,v=str x∧x.length<=200000*P+400),Ie.p (fun(G:List Nat) (v:Value) (ww:World)=>∃x,v=str x∧x.length<=200000*P+500)] [7,14,17] [fun(G:List Nat) (vs:List Value) (ww:World)=>G=[br]∧ak [br] w6 ww∧dM ww br (q+6),fun(G:List Nat) (vs:List Value) (ww:World)=>G=[br]∧ak [br] w6 ww∧dM ww br (q+6+20*P),fun(G:List Nat) (vs:List Value) (ww:World)=>G=[br]∧ak [br] w6 ww∧dM ww br (q+6+20*P)∧∃u1 u2,vs.getD 1 undef= .agg #[u1,u2]∧bg [br] ww u1 (ns++[nm])∧bg [br] ww u2 (ts++[T.text]),fun(G:List Nat) (vs:List Value) (ww:World)=>G=[br]∧ak [br] w6 ww∧dM ww br (q+6+40*P)] de rfl ((λz hz=>by simp at hz;subst hz;exact h.lt)) (by exact⟨λG v w G' w' h k=>h,λG v w G' w' h k=>h,λG v w G' w' h k=>h,λG v w G' w' h k=>h,trivial⟩) (by exact⟨λG vs w w' ⟨h1,h2,h3⟩ k=>⟨h1,h2.ext k,h3.ext k⟩,λG vs w w' ⟨h1,h2,h3⟩ k=>⟨h1,h2.ext k,h3.ext k⟩,λG vs w w' ⟨h1,h2,h3,u1,u2,e,g1,g2⟩ k=>⟨h1,h2.ext k,h3.ext k,u1,u2,e,g1.ext k,g2.ext k⟩,λG vs w w' ⟨h1,h2,h3⟩ k=>⟨h1,h2.ext k,h3.ext k⟩,trivial⟩) (⟨rfl,ak.refl _ _,h⟩)
 refine FA ?_
 refine ve 0 (λx w7 G7 aX nC lO hJ hlen=>?_) ?_
 have ba:=jv hlen
 subst ba
 have cK:=cK.go nC;have cI:=cI.go nC
 obtain⟨bX,cg,h⟩:=hJ
 subst bX
 refine aA (ih ns ts T.text br (q+6) _ _ w7 hl om hs om om h cK cI) ?_
 rintro v9 w8 ⟨⟨x9,e9,iW⟩,h,aC⟩
 subst e9
 exact fq ([br]) (Fr.of aC sm) ((λz hz=>lL (lO z hz) aC.size)) (⟨rfl,cg.trans aC,h.more om⟩) (⟨_,rfl,iW⟩)
 refine vf (λx w7 G7 aX nC lO=>?_) ?_
 intro v7 Yl d7
 obtain⟨y7,e7,Wg⟩:=d7
 subst e7
 refine iw rfl rfl rfl rfl (by(try simp);omega) ?_
 exact ff (ak.refl _ _) (⟨_,rfl,by simp;omega⟩)
 refine vf (λx w7 G7 aX nC lO=>?_) ?_
 intro v8 d8
 obtain⟨y8,e8,hl8⟩:=d8
 subst e8
 refine iw rfl rfl rfl rfl (by(try simp);omega) ?_
 exact ff (ak.refl _ _) (⟨_,rfl,by simp;omega⟩)
 refine FA ?_
 refine ve 1 (λx w7 G7 aX nC lO hJ hlen=>?_) ?_
 have aY:=jw hlen
 obtain⟨q0,ba⟩:=aY
 subst ba
 have cK:=cK.go nC;have cI:=cI.go nC
 obtain⟨bX,cg,h⟩:=hJ
 subst bX
 refine aA (Ls ns ts nm T.text om om _ _ [br] w7 (λx hx=>by simp at hx;subst hx;exact h.lt) cK cI) ?_
 rintro v9 w8 ⟨⟨u1,u2,e9,rP,rQ⟩,aC⟩
 subst e9
 exact fe ([br]) (Fr.of aC sm) ((λz hz=>lL (lO z hz) aC.size)) (⟨rfl,cg.ext aC,h.ext aC,u1,u2,rfl,rP,rQ⟩)
 refine FA ?_
 refine ve 2 (λx w7 G7 aX nC lO hJ hlen=>?_) ?_
 have aY:=lJ hlen
 obtain⟨q0,q1,ba⟩:=aY
 subst ba
 obtain⟨bX,cg,h,u1,u2,e1,rP,rQ⟩:=hJ
 subst bX
 have e2:q1=_:=e1
 subst e2
 refine aA (ih (ns++[nm]) (ts++[T.text]) want br (q+6+20*P) _ _ w7 so so (Lv hs om) om om h rP rQ) ?_
 rintro v9 w8 ⟨⟨x9,e9,iW⟩,h,aC⟩
 subst e9
 exact fq ([br]) (Fr.of aC sm) ((λz hz=>lL (lO z hz) aC.size)) (⟨rfl,cg.trans aC,h.more om⟩) (⟨_,rfl,iW⟩)
 refine vf (λx w7 G7 aX nC lO=>?_) ?_
 intro v9 d9
 intro jN Qh d17
 obtain⟨y9,e9,eN⟩:=d9
 subst e9
 obtain⟨Yi,sk,Yj⟩:=d17
 subst sk
 refine iw rfl rfl rfl rfl (by(try simp);omega) ?_
 exact ff (ak.refl _ _) (⟨_,rfl,by simp;omega⟩)
 refine vf (λx w7 G7 aX nC lO=>?_) ?_
 intro xD d18
 obtain⟨y18,vS,O3⟩:=d18
 subst vS
 refine iw rfl rfl rfl rfl (by(try simp);omega) ?_
 exact ff (ak.refl _ _) (⟨_,rfl,by simp;omega⟩)
 exact trivial
 intro x qt KL aX xG KM hJ hlen
 have aY:=AQ hlen
 obtain⟨q0,q1,q2,ba⟩:=aY
 subst ba
 intro v7 Yl d7
 intro v8 d8
 intro v9 d9
 intro jN Qh d17
 intro xD d18
 intro KR d19
 change OW _ _ _ _ _ (aS (aR _ x _) (zZ 53 [_,_,_,_,_,_,_,_,_,_,_,_,_,_,_,_,_,_,_,_])) _
 obtain⟨bX,cg,h⟩:=hJ
 subst bX
 obtain⟨yz,ez,FG⟩:=d19
 subst ez
 refine W ?_
 exact⟨_,rfl,⟨yz,rfl,om⟩,h.more om,hk.trans cg⟩
 refine W ?_
 refine iS (λb:Bool=>[(0,.pointer (some ⟨br,0,none⟩)),(2,str want),(3,.int .i64 ((d+1:Nat):Int)),(5,.pointer (some ⟨w.heap.size,0,none⟩)),(9,.int .i64 (d:Int)),(22,.int .i64 (z:Int)),(73,.bool b)]) (λb ww=>ww=w3) ?_ ?_
 refine zc rfl (λh5=>?_) (λh5=>?_)
 refine WZ ?_
 exact⟨_,⟨rfl,rfl,rfl,rfl,rfl,rfl,rfl⟩,rfl⟩
 refine W ?_
 exact⟨_,⟨rfl,rfl,rfl,rfl,rfl,rfl,rfl⟩,rfl⟩
 intro gu w4 e4 hI
 have Qi:w4=_:=hI
 subst Qi
 refine zc rfl (λh6=>?_) (λh6=>?_)
 refine zr<|zm<|aA (P8 1 de br (q+1) om w4 h) ?_
 rintro v9 w5 ⟨⟨T,e9,hT⟩,h,aC⟩
 subst e9
 have Yk:=T.len
 have hT:T.n+1<=4:=hT
 have h:=h.more (show _<=q+5 from om)
 have hk:=hk.trans aC
 have cK:=cK.aD aC sm;have cI:=cI.aD aC sm;have bQ:=bQ.aD aC sm
 have lr:=h.lt
 refine W ?_
 apply jQ du ([br]) 19 (rA 78 19) (rA 78 19) [[],[],[],[2],[3],[],[4,5],[6],[],[0,1,7,8],[9],[10],[],[],[],[],(rA 12 4),[11,16],[17]] [Ie.v _,Ie.v _,Ie.v _,Ie.v _,Ie.v _,Ie.v _,Ie.v _,Ie.v _,Ie.v _,Ie.q 0 (fun(v:Value)=>∃x,v=str x∧x.length<=100000*P),Ie.p (fun(G:List Nat) (v:Value) (ww:World)=>∃x,v=str x∧x.length<=100000*P+200),Ie.p (fun(G:List Nat) (v:Value) (ww:World)=>∃x,v=str x∧x.length<=100000*P+300),Ie.v _,Ie.v _,Ie.v _,Ie.v _,Ie.q 1 (fun(v:Value)=>∃x,v=str x∧x.length<=100000*P),Ie.p (fun(G:List Nat) (v:Value) (ww:World)=>∃x,v=str x∧x.length<=200000*P+400),Ie.p (fun(G:List Nat) (v:Value) (ww:World)=>∃x,v=str x∧x.length<=200000*P+500)] [9,16] [fun(G:List Nat) (vs:List Value) (ww:World)=>G=[br]∧ak [br] w5 ww∧dM ww br (q+5),fun(G:List Nat) (vs:List Value) (ww:World)=>G=[br]∧ak [br] w5 ww∧dM ww br (q+5+20*P),fun(G:List Nat) (vs:List Value) (ww:World)=>G=[br]∧ak [br] w5 ww∧dM ww br (q+5+40*P)] de rfl ((λz hz=>by simp at hz;subst hz;exact h.lt)) (by exact⟨λG v w G' w' h k=>h,λG v w G' w' h k=>h,λG v w G' w' h k=>h,λG v w G' w' h k=>h,trivial⟩) (by exact⟨λG vs w w' ⟨h1,h2,h3⟩ k=>⟨h1,h2.ext k,h3.ext k⟩,λG vs w w' ⟨h1,h2,h3⟩ k=>⟨h1,h2.ext k,h3.ext k⟩,λG vs w w' ⟨h1,h2,h3⟩ k=>⟨h1,h2.ext k,h3.ext k⟩,trivial⟩) (⟨rfl,ak.refl _ _,h⟩)
 refine FA ?_
 refine ve 0 (λx w6 G6 aX zS D1 hJ hlen=>?_) ?_
 have ba:=jv hlen
 subst ba
 have cK:=cK.go zS;have cI:=cI.go zS
 obtain⟨bX,cg,h⟩:=hJ
 subst bX
 refine aA (ih ns ts (((([40,62,32]++T.text)++[32])++want)++[41]) br (q+5) _ _ w6 hl om hs so om h cK cI) ?_
 rintro v9 w7 ⟨⟨x9,e9,iW⟩,h,aC⟩
 subst e9
 exact fq ([br]) (Fr.of aC sm) ((λz hz=>lL (D1 z hz) aC.size)) (⟨rfl,cg.trans aC,h.more om⟩) (⟨_,rfl,iW⟩)
 refine vf (λx w6 G6 aX zS D1=>?_) ?_
 intro v9 DN d9
 obtain⟨y9,e9,eN⟩:=d9
 subst e9
 refine iw rfl rfl rfl rfl (by(try simp);omega) ?_
 exact ff (ak.refl _ _) (⟨_,rfl,by simp;omega⟩)
 refine vf (λx w6 G6 aX zS D1=>?_) ?_
 intro v10 d10
 obtain⟨Lz,fL,E8⟩:=d10
 subst fL
 refine iw rfl rfl rfl rfl (by(try simp);omega) ?_
 exact ff (ak.refl _ _) (⟨_,rfl,by simp;omega⟩)
 refine FA ?_
 refine ve 1 (λx w6 G6 aX zS D1 hJ hlen=>?_) ?_
 have aY:=jw hlen
 obtain⟨q0,ba⟩:=aY
 subst ba
 have cK:=cK.go zS;have cI:=cI.go zS
 obtain⟨bX,cg,h⟩:=hJ
 subst bX
 refine aA (ih ns ts T.text br (q+5+20*P) _ _ w6 hl om hs om om h cK cI) ?_
 rintro v9 w7 ⟨⟨x9,e9,iW⟩,h,aC⟩
 subst e9
 exact fq ([br]) (Fr.of aC sm) ((λz hz=>lL (D1 z hz) aC.size)) (⟨rfl,cg.trans aC,h.more om⟩) (⟨_,rfl,iW⟩)
 refine vf (λx w6 G6 aX zS D1=>?_) ?_
 intro v11 d11
 intro Df amZ d16
 obtain⟨Yf,Du,Yg⟩:=d11
 subst Du
 obtain⟨y16,BS,asH⟩:=d16
 subst BS
 refine iw rfl rfl rfl rfl (by(try simp);omega) ?_
 exact ff (ak.refl _ _) (⟨_,rfl,by simp;omega⟩)
 refine vf (λx w6 G6 aX zS D1=>?_) ?_
 intro jN d17
 obtain⟨Yi,sk,Yj⟩:=d17
 subst sk
 refine iw rfl rfl rfl rfl (by(try simp);omega) ?_
 exact ff (ak.refl _ _) (⟨_,rfl,by simp;omega⟩)
 exact trivial
 intro x qb G45 aX asJ asK hJ hlen
 have aY:=lJ hlen
 obtain⟨q0,q1,ba⟩:=aY
 subst ba
 intro v9 DN d9
 intro v10 d10
 intro v11 d11
 intro Df amZ d16
 intro jN d17
 intro xD d18
 change OW _ _ _ _ _ (aS (aR _ x _) (zZ 78 [_,_,_,_,_,_,_,_,_,_,_,_,_,_,_,_,_,_,_])) _
 obtain⟨bX,cg,h⟩:=hJ
 subst bX
 obtain⟨yz,ez,FG⟩:=d18
 subst ez
 refine W ?_
 exact⟨_,rfl,⟨yz,rfl,om⟩,h.more om,hk.trans cg⟩
 refine W ?_
 refine zc rfl (λh7=>?_) (λh7=>?_)
 refine W ?_
 refine aA (ih ns ts (([40,42,32]++want)++[32,105,41]) br (q+1) _ _ w4 hl om hs so om h cK cI) ?_
 rintro v9 w5 ⟨⟨x9,e9,iW⟩,h,aC⟩
 subst e9
 refine W ?_
 exact⟨_,rfl,⟨_,rfl,by simp;omega⟩,h.more om,hk.trans aC⟩
 refine W ?_
 refine zc rfl (λh8=>?_) (λh8=>?_)
 refine W ?_
 refine aA (ih ns ts (([40,42,32,105,32]++want)++[41]) br (q+1) _ _ w4 hl om hs so om h cK cI) ?_
 rintro v9 w5 ⟨⟨x9,e9,iW⟩,h,aC⟩
 subst e9
 refine W ?_
 exact⟨_,rfl,⟨_,rfl,by simp;omega⟩,h.more om,hk.trans aC⟩
 refine W ?_
 refine zc rfl (λh9=>?_) (λh9=>?_)
 refine W ?_
 refine zc rfl (λgh=>?_) (λgh=>?_)
 refine zr<|zm<|aA (amz br (q+1) om w4 h) ?_
 rintro v9 w5 ⟨⟨x9,e9,iW⟩,h,aC⟩
 subst e9
 refine W ?_
 exact⟨_,rfl,⟨x9,rfl,om⟩,h.more om,hk.trans aC⟩
 refine W ?_
 refine aA (hB ns ts want br (q+1) _ _ w4 hl om hs om om h cK cI) ?_
 rintro v9 w5 ⟨⟨x9,e9,iW⟩,h,aC⟩
 subst e9
 refine W ?_
 exact⟨_,rfl,⟨x9,rfl,om⟩,h.more om,hk.trans aC⟩
 refine W ?_
 refine aA (hB ns ts want br (q+1) _ _ w4 hl om hs om om h cK cI) ?_
 rintro v9 w5 ⟨⟨x9,e9,iW⟩,h,aC⟩
 subst e9
 refine W ?_
 exact⟨_,rfl,⟨x9,rfl,om⟩,h.more om,hk.trans aC⟩
theorem Qj:∀d,d<=9->IJ d (4^d)
 |0,_=>amV
 |d+1,h=>by
  have h2:4^d<=4^9:=Nat.pow_le_pow_right de om
  have:=amW d (4^d) om (Nat.pos_of_ne_zero sm) (Nat.le_trans h2 de) (Qj d om)
  rw[Nat.pow_succ,Nat.mul_comm]
  exact this
theorem j3.zero {TB TS:TypeId} (h:aL w b #[] TB):j3 w TB TS (.slice (some ⟨b,0,none⟩) 0 0) (some b) [] [] []:=
 ⟨⟨by simp,.inr ⟨b,0,#[],rfl,rfl,h,lR _,by decide,rfl,rfl⟩⟩,trivial,by simp[eT],by simp[eT]⟩
theorem j3.gr {B:Nat} {L:List Nat} {TB TS:TypeId} (h:j3 w TB TS v g gss vss bs) (hL:∀x,x∈g.toList++eT gss->x∉L) (hB:∀b,g=some b->B<=b) (hl:∀x,x∈L->x<w.heap.size) (hs:B<=w.heap.size):Gr B L w TB 3 v g (bs.map Bk.enc):=by
 have hd:=(List.nodup_append.1 h.nodup).2.2
 refine⟨⟨vss.flatten,by simpa using h.own,h.rows.yh λx hx hc=>?_,?_,λb hb=>hL b (by simp[hb])⟩,hB,hl,hs⟩
 ·rcases mA.1 hc with hc|hc
  ·exact hd x hc x hx rfl
  ·exact hL x (by simp[hx]) hc
 ·intro row hr
  obtain⟨c,_,rfl⟩:=List.mem_map.1 hr
  rfl
section
variable {P:Program} {n:Nat} {ops:Array Oper} {K:Env->World->Prop} {rest:List Oper} {e:Env} {w:World}
 {dst:Option Nat} {ty:TypeId} {pos:String} {after:Array Edge} {g:Option (Nat×Bool)} {x y:Operand}
theorem am0 {t E TS bytes:Nat} {z:Value} {v:Value} {gb:Option Nat} {gss:List (Option Nat×Option Nat)} {vss:List (List Value)} {bs:List Bk} {f:Bk} {gs:Option Nat×Option Nat} {a1 a2:Option Addr} {n1 c1 n2 c2:Nat} {b U:Nat} (hT:P.underlying t=some (.slice E)) (hE:TI P E 3 bytes z) (hg:gate ops e g=true) (hd:cC n dst=true) (hz:Nat.beq z.cells.size 3=true) (gm:Nat.ble bytes 1000=true) 
  (hx:ev e x=v) (hy:ev e y= .slice (some ⟨b,0,none⟩) 1 1) (hP:j3 w E TS v gb gss vss bs) (hb:aL w b [str f.aM,.slice a1 n1 c1,.slice a2 n2 c2].toArray U)
  (h1:cE w TS (.slice a1 n1 c1) gs.1 f.bW) (h2:cE w TS (.slice a2 n2 c2) gs.2 f.code) (kT:∀x,x∈gM gs->x∉gb.toList++eT gss) (jg:(gM gs).Nodup) (hn:bs.length<100000000)
  (k:∀a' cap' g' w',j3 w' E TS (.slice a' (bs++[f]).length cap') g' (gss++[gs]) (vss++[[str f.aM,.slice a1 n1 c1,.slice a2 n2 c2]]) (bs++[f])->ak gb.toList w w'->(g'=gb∨∃z,g'=some z∧w.heap.size<=z)->OW P n ops K rest (bY e dst (.slice a' (bs++[f]).length cap')) w'):
  OW P n ops K (⟨dst,.call {callee:=.builtin .append,args:=#[x,y],argTypes:=#[t,t]},ty,pos,after,g⟩::rest) e w:=by
 obtain⟨i,hi,ye,fU,xf⟩:=hE.get
 have Aj:bytes<=1000:=Nat.le_of_ble_eq_true gm
 have D6:(bs.length+1)*bytes<=140737488355328:=Nat.le_trans (Nat.mul_le_mul (show bs.length+1<=100000000 by omega) Aj) de
 obtain⟨v',g',w',jG,dH,hk,jZ⟩:=LJ (P:=P) (w:=w) (ty:=ty) hT hi ye fU xf (Nat.eq_of_beq_eq_true hz) hP.own b 0 1 1 [str f.aM,.slice a1 n1 c1,.slice a2 n2 c2] rfl (by have:=hb.all;simpa using this)
  (by intro u hu;simp at hu;rcases hu with rfl|rfl|rfl<;>rfl) de (by unfold maxLen;omega) D6
 have tP:im w' E 3 v' g' (bs++[f]).length (vss++[[str f.aM,.slice a1 n1 c1,.slice a2 n2 c2]]).flatten:=by
  simpa using dH
 obtain⟨a',cap',he⟩:=tP.len
 subst he
 have IK:=(List.nodup_append.1 hP.nodup)
 have Hi:∀x,x∈gM gs->x<w.heap.size:=λx hx=>by
  simp only[gM,mA] at hx
  rcases hx with hx|hx
  ·exact im.lt h1 x (by simpa using hx)
  ·exact im.lt h2 x (by simpa using hx)
 refine fA hg hd (w':=w') (by
  simp only[execOp,resolve,invoke,builtin,Sem.run_bind,Sem.run_pure,Result.andThen_ok,List.map_toArray,List.map_cons,List.map_nil,hx,hy,jG]) (k a' cap' g' w' ⟨tP,?_,?_,?_⟩ hk (jZ.imp id λh=>⟨_,h,lR _⟩))
 ·refine iL.snoc (hP.rows.aG hk λx hx hg=>IK.2.2 x hg x hx rfl) ⟨_,_,rfl,h1.aG hk λb hb hx=>?_,h2.aG hk λb hb hx=>?_⟩
  ·exact kT b (by simp[gM,hb]) (by simp at hx;simp[hx])
  ·exact kT b (by simp[gM,hb]) (by simp at hx;simp[hx])
 ·rw[CS,<-List.append_assoc]
  refine List.nodup_append.2 ⟨List.nodup_append.2 ⟨by cases g'<;>simp,IK.2.1,λa ha c hc=>?_⟩,jg,λa ha c hc=>?_⟩
  ·rintro rfl
   rcases jZ with h|h
   ·rw[h] at ha;exact IK.2.2 a ha a hc rfl
   ·rw[h] at ha;simp at ha;have:=hP.lt a hc;omega
  ·rintro rfl
   rcases mA.1 ha with ha|ha
   ·rcases jZ with h|h
    ·rw[h] at ha;exact kT a hc (by simp at ha;simp[ha])
    ·rw[h] at ha;simp at ha;have:=Hi a hc;omega
   ·exact kT a hc (by simp[ha])
 ·intro x hx
  rw[CS,mA] at hx
  rcases hx with hx|hx
  ·exact lL (hP.lt x hx) hk.size
  ·exact lL (Hi x hx) hk.size
theorem iL.Qk {w:World} {T:TypeId}:∀{gss:List (Option Nat×Option Nat)} {vss:List (List Value)} {bs:List Bk} {i:Nat} {g:Option Nat×Option Nat} {v:List Value} {f:Bk},iL w T gss vss bs->pS w' T g v f->
  (∀(g2:Option Nat×Option Nat) (v2:List Value) (b2:Bk),(∀x,x∈gM g2->x∈eT gss)->pS w T g2 v2 b2->pS w' T g2 v2 b2)->iL w' T (gss.set i g) (vss.set i v) (bs.set i f)
 |[],[],[],i,g,v,f,_,_,_=>trivial
 |g0::gs,v0::vs,b0::bs,0,g,v,f,h,hf,hk=>by
  refine⟨hf,?_⟩
  have:=iL.Qk (i:=gs.length) (g:=g) (v:=v) (f:=f) h.2 hf λg2 v2 b2 hg ho=>hk g2 v2 b2 (λx hx=>by rw[CR];exact mR _ (hg x hx)) ho
  have hl:=iL.lens h.2
  rwa [List.set_eq_of_length_le om,List.set_eq_of_length_le om,List.set_eq_of_length_le om] at this
 |g0::gs,v0::vs,b0::bs,i+1,g,v,f,h,hf,hk=>
  ⟨hk g0 v0 b0 (λx hx=>by rw[CR];exact List.mem_append_left _ hx) h.1,iL.Qk h.2 hf λg2 v2 b2 hg ho=>hk g2 v2 b2 (λx hx=>by rw[CR];exact mR _ (hg x hx)) ho⟩
theorem am1 {T TB TS bytes:Nat} {z:Value} {v:Value} {gb:Option Nat} {gss:List (Option Nat×Option Nat)} {vss:List (List Value)} {bs:List Bk} {a2:Option Addr} {n2 c2:Nat} {g2:Option Nat} {ys:List aj} {L:List Nat} {o:Nat} (jX:TI P T 1 bytes z) (hg:gate ops e g=true) (hx:ev e x= .pointer (some ⟨b,o,none⟩)) (hy:ev e y= .slice a2 n2 c2) (ho:o=i*3+2) 
  (hO:j3 w TB TS v gb gss vss bs) (oJ:gb=some b) (hi:i<bs.length) (h2:cE w TS (.slice a2 n2 c2) g2 ys) (kT:∀x,x∈g2.toList->x∉gb.toList) (hL:∀x,x∈gb.toList++eT gss++g2.toList->x∉L)
  (k:∀w',ak gb.toList w w'->(∃xs,gS L w' TB 3 v gb ((bs.set i {bN bs i with code:=ys}).map Bk.enc) xs)->w'.heap.size=w.heap.size->OW P n ops K rest e w'):OW P n ops K (⟨none,.store T x y,ty,pos,after,g⟩::rest) e w:=by
 subst ho
 have hd:=List.nodup_append.1 hO.nodup
 have dH:=hO.own
 obtain⟨gs,vs,jA,ba,v1,v2,Nw,df,dz⟩:=hO.rows.get (rW hi)
 obtain⟨fF,iz,vE⟩:=hO.rows.lens
 subst oJ
 obtain⟨hl,h|⟨b',cap,cur,oJ,hv,hb,mI,mH,cG,ht⟩⟩:=dH
 ·obtain⟨_,_,h⟩:=h;cases h
 ·cases oJ
  subst hv
  refine LM jX rfl hg hx hy rfl hb (by rw[cG];omega) λw' hk gC hz=>?_
  have mZ:(vss.set i [str (bN bs i).aM,v1,.slice a2 n2 c2]).flatten=vss.flatten.set (i*3+2) (.slice a2 n2 c2):=by
   have:=Uq (a:=.slice a2 n2 c2) (j:=2) vE ba de
   rw[this,Nw];rfl
  have jB:∀x,x∈eT gss->x∉[b]:=λq hq h=>by simp at h;subst h;exact hd.2.2 q sm q hq rfl
  have gR:pS w' TS (gs.1,g2) [str (bN bs i).aM,v1,.slice a2 n2 c2] {bN bs i with code:=ys}:=
   ⟨v1,_,rfl,df.aG hk (λb hb=>jB b (CU jA (by simp[gM,hb]))),h2.aG hk (λb hb hx=>kT b (by simp[hb]) (by simpa using hx))⟩
  have am2:=iL.Qk (i:=i) hO.rows gR λg2 v2 b2 jc ho=>ho.aG hk λx hx=>jB x (jc x hx)
  have r8:∀x,x∈eT (gss.set i (gs.1,g2))->x∈eT gss∨x∈g2.toList:=λx hx=>by
   simp only[eT,List.mem_flatMap] at hx⊢
   obtain⟨q,hq,Ql⟩:=hx
   rcases List.mem_or_eq_of_mem_set hq with h|h
   ·exact .inl ⟨q,h,Ql⟩
   ·subst h
    simp only[gM,mA] at Ql
    rcases Ql with h|h
    ·exact .inl ⟨gs,List.mem_of_getElem? jA,by simp only[gM,mA];exact .inl h⟩
    ·exact .inr h
  have IK:∀x,x∈eT (gss.set i (gs.1,g2))->x≠b:=λx hx e=>by
   rcases r8 x hx with h|h
   ·exact jB x h (by simp[e])
   ·exact kT x h (by simp[e])
  refine k w' (by simpa using hk) ?_ hz
  refine⟨(vss.set i [str (bN bs i).aM,v1,.slice a2 n2 c2]).flatten,⟨?_,.inr ⟨b,_,_,rfl,sm,gC,by simpa using mI,mH,by simpa using cG,?_⟩⟩,am2.yh λx hx hc=>?_,?_,λc hc=>hL c (by simp[hc])⟩
  ·rw[mZ,List.length_set,hl,List.length_map,List.length_set]
  ·rw[Array.toList_setIfInBounds,List.length_map,List.length_set,List.take_set,ht,mZ]
  ·rcases mA.1 hc with hc|hc
   ·simp at hc;exact IK x hx hc
   ·rcases r8 x hx with h|h
    ·exact hL x (by simp[h]) hc
    ·exact hL x (by simp[h]) hc
  ·intro row hr
   obtain⟨c,_,rfl⟩:=List.mem_map.1 hr
   rfl
end
def wh (bs bs':List Bk):Prop:=bs'.length=bs.length∧∀i,i<bs.length->(bN bs' i).aM=(bN bs i).aM∧(bN bs' i).bW=(bN bs i).bW∧(bN bs' i).code.length<=(bN bs i).code.length∧∀x,x∈(bN bs' i).code->x∈(bN bs i).code∨sI x=true
theorem wh.refl (bs:List Bk):wh bs bs:=⟨rfl,λ_ _=>⟨rfl,rfl,lR _,λ_ h=>.inl h⟩⟩
theorem am3 {j:Nat} {f:Bk} (hi:i<bs.length):bN (bs.set i f) j=if j=i then f else bN bs j:=by
 unfold bN
 rw[gG,gG,List.getElem?_set]
 by_cases h:i=j
 ·subst h;simp[hi]
 ·rw[iN h,iN (λe=>h e.symm)]
theorem wh.set {cs:List Bk} (h:wh bs cs) (hi:i<bs.length) (hl:ys.length<=(bN bs i).code.length) (hy:∀x,x∈ys->x∈(bN bs i).code∨sI x=true):wh bs (cs.set i {bN cs i with code:=ys}):=by
 refine⟨by rw[List.length_set];exact h.1,λj hj=>?_⟩
 rw[am3 (by rw[h.1];exact hi)]
 by_cases e:j=i
 ·subst e
  rw[iP rfl]
  obtain⟨h1,h2,_,_⟩:=h.2 j hj
  exact⟨h1,h2,hl,hy⟩
 ·rw[iN e];exact h.2 j hj
def FL:List aj:=[[48],[49],[45,55],[57,57,57]]
def Qm:List aj:=[[97,100,100],[115,117,98],[109,117,108]]
def Qn:List aj:=[[48],[49],[50]]
def Qo:List aj:=[[109,97,105,110],[98,48],[98,49],[101,110,100]]
def Qp:List aj:=[[40,101,32,118,41,32,105],[40,101,32,40,116,32,118,32,118,41,41,32,105],[40,101,32,40,116,32,40,99,32,118,32,105,41,32,118,41,41,32,40,116,41],[40,101,32,118,41,32,40,116,32,105,32,105,41]]
def Qq:List aj:=[[98,48],[98,49],[109,97,105,110]]
def Qr:List aj:=[[40,104,97,108,116,32,52,48,41],[40,99,111,110,115,116,32,49,32,120,41],[40,109,111,118,32,49,41],[40,110,101,119,41],[40,112,97,99,107,32,49,32,50,32,105,32,105,41],[],[40,103,101,116,32,49,32,50,32,45,49,41],[40,122,101,114,111,32,49,32,50,41],[40,108,97,98,32,48,32,109,97,105,110,41],[40,104,97,108,116,32,48,41]]
theorem am4 (br q:Nat) (hq:q<=900000000) (w:World) (h:dM w br q):
  bC Tryz.prog 113 [.pointer (some ⟨br,0,none⟩)] w λr w'=>(∃x,r=str x∧x.length<=100)∧dM w' br (q+5)∧ak [br] w w':=by
 refine cj [.tmp 2] 133 Tryz.func113 rfl abM rfl rfl ?_
 refine W ?_
 refine aA (II br (q+0) om w h) ?_
 rintro v7 w1 ⟨⟨za,X9,e7⟩,h,bJ⟩
 have hxA:∃x,x=aZ za:=⟨_,rfl⟩
 obtain⟨tA,etA⟩:=hxA
 rw[<-etA] at e7
 subst e7
 have W9:tA.length<=3:=(by rw[etA];exact s5 om)
 have aC:=bJ
 refine W ?_
 refine aA (II br (q+1) om w1 h) ?_
 rintro v7 w2 ⟨⟨zb,Ya,e7⟩,h,bJ⟩
 have hxB:∃x,x=aZ zb:=⟨_,rfl⟩
 obtain⟨tB,etB⟩:=hxB
 rw[<-etB] at e7
 subst e7
 have Xa:tB.length<=3:=(by rw[etB];exact s5 om)
 have aC:=aC.trans bJ
 refine W ?_
 refine aA (II br (q+2) om w2 h) ?_
 rintro v7 w3 ⟨⟨zd,hzd,e7⟩,h,bJ⟩
 have hxD:∃x,x=aZ zd:=⟨_,rfl⟩
 obtain⟨tD,etD⟩:=hxD
 rw[<-etD] at e7
 subst e7
 have hlD:tD.length<=3:=(by rw[etD];exact s5 om)
 have aC:=aC.trans bJ
 refine W ?_
 refine aA (mh 14 de de br (q+3) om w3 h) ?_
 rintro HR w4 ⟨⟨z,H6,hz⟩,h,gB⟩
 subst H6
 have aC:=aC.trans gB
 have lr:=h.lt
 refine W ?_
 refine zc rfl (λh1=>?_) (λh1=>?_)
 refine gX<|zc rfl (λh2=>?_) (λh2=>?_)
 refine W ?_
 refine xh bo bm rfl rfl rfl rfl rfl rfl λw5 aJ vL iq=>bL aJ h aC λh aC=>?_
 refine aA (lV FL de de br (q+4) om _ w5 h (aL.dS FL vL (λhx=>by simp at hx;omega) de)) ?_
 rintro l9 w6 ⟨⟨x1,iF,gW⟩,h,bS⟩
 subst gW
 have aC:=aC.trans bS
 have eN:=(show∀x,x∈FL->x.length<=30 from by decide) _ iF
 refine W ?_
 exact⟨_,rfl,⟨_,rfl,by simp;omega⟩,h.more om,aC⟩
 omega
 refine W ?_
 refine zc rfl (λh3=>?_) (λh3=>?_)
 refine W ?_
 refine xh bo bm rfl rfl rfl rfl rfl rfl λw5 aJ vL iq=>bL aJ h aC λh aC=>?_
 refine aA (lV FL de de br (q+4) om _ w5 h (aL.dS FL vL (λhx=>by simp at hx;omega) de)) ?_
 rintro l9 w6 ⟨⟨x1,iF,gW⟩,h,bS⟩
 subst gW
 have aC:=aC.trans bS
 have eN:=(show∀x,x∈FL->x.length<=30 from by decide) _ iF
 refine W ?_
 exact⟨_,rfl,⟨_,rfl,by simp;omega⟩,h.more om,aC⟩
 refine W ?_
 refine zc rfl (λh4=>?_) (λh4=>?_)
 refine W ?_
 exact⟨_,rfl,⟨_,rfl,by simp;omega⟩,h.more om,aC⟩
 refine W ?_
 refine zc rfl (λh5=>?_) (λh5=>?_)
 refine zr<|zm<|qf bo bm rfl rfl rfl rfl rfl λw5 aJ tw iq=>bL aJ h aC λh aC=>?_
 refine aA (lV Qm de de br (q+4) om _ w5 h (aL.dS Qm tw (λhx=>by simp at hx;omega) de)) ?_
 rintro l9 w6 ⟨⟨x1,iF,gW⟩,h,bS⟩
 subst gW
 have aC:=aC.trans bS
 have eN:=(show∀x,x∈Qm->x.length<=30 from by decide) _ iF
 refine W ?_
 exact⟨_,rfl,⟨_,rfl,by simp;omega⟩,h.more om,aC⟩
 refine W ?_
 refine zc rfl (λh6=>?_) (λh6=>?_)
 refine W ?_
 exact⟨_,rfl,⟨_,rfl,by simp;omega⟩,h.more om,aC⟩
 refine W ?_
 refine zc rfl (λh7=>?_) (λh7=>?_)
 refine W ?_
 exact⟨_,rfl,⟨_,rfl,by simp;omega⟩,h.more om,aC⟩
 refine W ?_
 refine zc rfl (λh8=>?_) (λh8=>?_)
 refine W ?_
 refine qf bo bm rfl rfl rfl rfl rfl λw5 aJ Pq iq=>bL aJ h aC λh aC=>?_
 refine aA (lV Qn de de br (q+4) om _ w5 h (aL.dS Qn Pq (λhx=>by simp at hx;omega) de)) ?_
 rintro l9 w6 ⟨⟨x1,iF,gW⟩,h,bS⟩
 subst gW
 have aC:=aC.trans bS
 have eN:=(show∀x,x∈Qn->x.length<=30 from by decide) _ iF
 refine W ?_
 exact⟨_,rfl,⟨_,rfl,by simp;omega⟩,h.more om,aC⟩
 refine W ?_
 refine zc rfl (λh9=>?_) (λh9=>?_)
 refine W ?_
 refine xh bo bm rfl rfl rfl rfl rfl rfl λw5 aJ Fp iq=>bL aJ h aC λh aC=>?_
 refine aA (lV Qo de de br (q+4) om _ w5 h (aL.dS Qo Fp (λhx=>by simp at hx;omega) de)) ?_
 rintro l9 w6 ⟨⟨x1,iF,gW⟩,h,bS⟩
 subst gW
 have aC:=aC.trans bS
 have eN:=(show∀x,x∈Qo->x.length<=30 from by decide) _ iF
 refine W ?_
 exact⟨_,rfl,⟨_,rfl,by simp;omega⟩,h.more om,aC⟩
 refine W ?_
 refine zc rfl (λgh=>?_) (λgh=>?_)
 refine W ?_
 refine xh bo bm rfl rfl rfl rfl rfl rfl λw5 aJ Ip iq=>bL aJ h aC λh aC=>?_
 refine aA (lV Qp de de br (q+4) om _ w5 h (aL.dS Qp Ip (λhx=>by simp at hx;omega) de)) ?_
 rintro l9 w6 ⟨⟨x1,iF,gW⟩,h,bS⟩
 subst gW
 have aC:=aC.trans bS
 have eN:=(show∀x,x∈Qp->x.length<=30 from by decide) _ iF
 refine W ?_
 exact⟨_,rfl,⟨_,rfl,by simp;omega⟩,h.more om,aC⟩
 refine W ?_
 refine zc rfl (λpq=>?_) (λpq=>?_)
 refine W ?_
 exact⟨_,rfl,⟨_,rfl,by simp;omega⟩,h.more om,aC⟩
 refine W ?_
 refine zc rfl (λkS=>?_) (λkS=>?_)
 refine W ?_
 refine qf bo bm rfl rfl rfl rfl rfl λw5 aJ K2 iq=>bL aJ h aC λh aC=>?_
 refine aA (lV Qq de de br (q+4) om _ w5 h (aL.dS Qq K2 (λhx=>by simp at hx;omega) de)) ?_
 rintro l9 w6 ⟨⟨x1,iF,gW⟩,h,bS⟩
 subst gW
 have aC:=aC.trans bS
 have eN:=(show∀x,x∈Qq->x.length<=30 from by decide) _ iF
 refine W ?_
 exact⟨_,rfl,⟨_,rfl,by simp;omega⟩,h.more om,aC⟩
 refine W ?_
 refine zc rfl (λpr=>?_) (λpr=>?_)
 refine W ?_
 refine lg bo bm rfl rfl rfl rfl λw5 aJ OD iq=>bL aJ h aC λh aC=>?_
 refine aA (lV [[40,106,117,109,112,32]++tA++[41],[40,104,97,108,116,32]++tA++[41]] sm sm br (q+4) om _ w5 h (aL.dS [[40,106,117,109,112,32]++tA++[41],[40,104,97,108,116,32]++tA++[41]] OD (λhx=>by simp at hx;omega))) ?_
 rintro l9 w6 ⟨⟨x1,iF,gW⟩,h,bS⟩
 subst gW
 have aC:=aC.trans bS
 have eN:x1.length<=30:=(by simp only[mC,List.not_mem_nil,or_false] at iF;rcases iF with rfl|rfl<;>simp<;>omega)
 refine W ?_
 exact⟨_,rfl,⟨_,rfl,om⟩,h.more om,aC⟩
 refine gX<|zr<|zm<|agk bo bm rfl rfl rfl rfl rfl rfl rfl rfl rfl rfl rfl rfl λw5 aJ am8 iq=>bL aJ h aC λh aC=>?_
 refine aA (lV Qr de de br (q+4) om _ w5 h (aL.dS Qr am8 (λhx=>by simp at hx;omega) de)) ?_
 rintro l9 w6 ⟨⟨x1,iF,gW⟩,h,bS⟩
 subst gW
 have aC:=aC.trans bS
 have eN:=(show∀x,x∈Qr->x.length<=30 from by decide) _ iF
 refine W ?_
 exact⟨_,rfl,⟨_,rfl,om⟩,h.more om,aC⟩
def LA:List aj:=[[105],[105],[40,116,41],[40,116,32,105,32,105,41],[40,101,32,118,41]]
theorem am9 {α:Type} {l:List α} (h:l.length=7):∃a b c d e f g,l=[a,b,c,d,e,f,g]:=by
 match l,h with|[a,b,c,d,e,f,g],_=>exact⟨a,b,c,d,e,f,g,rfl⟩
structure Qs (b:Bk) (aM:aj):Prop where
 aM:b.aM=aM
 regs:b.bW.length<=10∧∀x,x∈b.bW->x.length<=100
 code:1<=b.code.length∧b.code.length<=10∧∀x,x∈b.code->x.length<=100
structure rR (br:Nat) (w:World) (b6 b7:Nat) (aM:aj) (v1:Value) (g1:Option Nat) (xs:List aj) (v2:Value) (g2:Option Nat) (ys:List aj) (q:Nat) (ww:World):Prop where
 box:aL ww b7 [str aM,v1,v2].toArray 58
 res:aL ww b6 [str [],.slice none 0 0,.slice none 0 0].toArray 58
 o1:cE ww 9 v1 g1 xs
 o2:cE ww 9 v2 g2 ys
 rd:dM ww br q
 kp:ak [br] w ww
 f1:∀x,x∈g1.toList->w.heap.size<=x∧x≠b6∧x≠b7∧x∉g2.toList
 f2:∀x,x∈g2.toList->w.heap.size<=x∧x≠b6∧x≠b7∧x∉g1.toList
theorem rR.ext {br:Nat} {aM:aj} {ww:World} (h:rR br w b6 b7 aM v1 g1 xs v2 g2 ys q ww) (k:ak [] ww w'):rR br w b6 b7 aM v1 g1 xs v2 g2 ys q w':=
 ⟨h.box.ext k,h.res.ext k,h.o1.ext k,h.o2.ext k,h.rd.ext k,h.kp.ext k,h.f1,h.f2⟩
theorem rR.H7 {br:Nat} {aM:aj} {ww wx:World} {zs:List aj} (h:rR br w b6 b7 aM v1 g1 xs v2 g2 ys q ww) (ir:br<w.heap.size) (h6:w.heap.size<=b6) (h7:w.heap.size<=b7) (Qt:b6≠b7) (hO:cE wx 9 v g zs) (eW:dM wx br q') (k:ak (br::g1.toList) ww wx) (hg:g=g1∨∃z,g=some z∧ww.heap.size<=z) (k2:ak [b7] wx w') (hb:aL w' b7 [str aM,v,v2].toArray 58):rR br w b6 b7 aM v g zs v2 g2 ys q' w':=by
 have jc:∀x,x∈g.toList->x∈g1.toList∨ww.heap.size<=x:=λx hx=>by
  rcases hg with rfl|⟨z,rfl,hz⟩
  ·exact .inl hx
  ·simp at hx;right;omega
 have s7:=h.box.lt
 have s6:=h.res.lt
 have fU:=h.kp.size
 have f1:∀x,x∈g.toList->w.heap.size<=x∧x≠b6∧x≠b7∧x∉g2.toList:=λx hx=>by
  rcases jc x hx with h9|h9
  ·exact h.f1 x h9
  ·exact⟨by omega,om,om,λhy=>by have:=h.o2.lt x hy;omega⟩
 have n6:b6∉br::g1.toList:=λhx=>by
  rcases mC.1 hx with h9|h9
  ·omega
  ·exact(h.f1 b6 h9).2.1 rfl
 refine⟨hb,(h.res.aG k n6).aG k2 (by simpa using Qt),hO.aG k2 (λx hx hy=>(f1 x (by simp[hx])).2.2.1 (by simpa using hy)),(h.o2.aG k (λx hx hy=>?_)).aG k2 (λx hx hy=>(h.f2 x (by simp[hx])).2.2.1 (by simpa using hy)),eW.aG k2 (λx hx=>by simp at hx;omega),?_,f1,λx hx=>⟨(h.f2 x hx).1,(h.f2 x hx).2.1,(h.f2 x hx).2.2.1,λhy=>(f1 x hy).2.2.2 hx⟩⟩
 ·rcases mC.1 hy with h9|h9
  ·have:=(h.f2 x (by simp[hx])).1;omega
  ·exact(h.f2 x (by simp[hx])).2.2.2 h9
 ·refine(h.kp.since k λx hx=>?_).since k2 λx hx=>.inr (by simp at hx;omega)
  rcases mC.1 hx with h9|h9
  ·exact .inl (by simp[h9])
  ·exact .inr (h.f1 x h9).1
theorem rR.Bz {br:Nat} {aM:aj} {ww wx:World} {zs:List aj} (h:rR br w b6 b7 aM v1 g1 xs v2 g2 ys q ww) (ir:br<w.heap.size) (h6:w.heap.size<=b6) (h7:w.heap.size<=b7) (Qt:b6≠b7) (hO:cE wx 9 v g zs) (eW:dM wx br q') (k:ak (br::g2.toList) ww wx) (hg:g=g2∨∃z,g=some z∧ww.heap.size<=z) (k2:ak [b7] wx w') (hb:aL w' b7 [str aM,v1,v].toArray 58):rR br w b6 b7 aM v1 g1 xs v g zs q' w':=by
 have jc:∀x,x∈g.toList->x∈g2.toList∨ww.heap.size<=x:=λx hx=>by
  rcases hg with rfl|⟨z,rfl,hz⟩
  ·exact .inl hx
  ·simp at hx;right;omega
 have s7:=h.box.lt
 have s6:=h.res.lt
 have fU:=h.kp.size
 have f1:∀x,x∈g.toList->w.heap.size<=x∧x≠b6∧x≠b7∧x∉g1.toList:=λx hx=>by
  rcases jc x hx with h9|h9
  ·exact h.f2 x h9
  ·exact⟨by omega,om,om,λhy=>by have:=h.o1.lt x hy;omega⟩
 have n6:b6∉br::g2.toList:=λhx=>by
  rcases mC.1 hx with h9|h9
  ·omega
  ·exact(h.f2 b6 h9).2.1 rfl
 refine⟨hb,(h.res.aG k n6).aG k2 (by simpa using Qt),(h.o1.aG k (λx hx hy=>?_)).aG k2 (λx hx hy=>(h.f1 x (by simp[hx])).2.2.1 (by simpa using hy)),hO.aG k2 (λx hx hy=>(f1 x (by simp[hx])).2.2.1 (by simpa using hy)),eW.aG k2 (λx hx=>by simp at hx;omega),?_,λx hx=>⟨(h.f1 x hx).1,(h.f1 x hx).2.1,(h.f1 x hx).2.2.1,λhy=>(f1 x hy).2.2.2 hx⟩,f1⟩
 ·rcases mC.1 hy with h9|h9
  ·have:=(h.f1 x (by simp[hx])).1;omega
  ·exact(h.f1 x (by simp[hx])).2.2.2 h9
 ·refine(h.kp.since k λx hx=>?_).since k2 λx hx=>.inr (by simp at hx;omega)
  rcases mC.1 hx with h9|h9
  ·exact .inl (by simp[h9])
  ·exact .inr (h.f2 x h9).1
theorem rR.call {br:Nat} {aM:aj} {ww:World} (h:rR br w b6 b7 aM v1 g1 xs v2 g2 ys q ww) (ir:br<w.heap.size) (h6:w.heap.size<=b6) (h7:w.heap.size<=b7) (eW:dM w' br q') (k:ak [br] ww w'):rR br w b6 b7 aM v1 g1 xs v2 g2 ys q' w':=
 ⟨h.box.aG k so,h.res.aG k so,h.o1.aG k (λx hx hy=>by have:=(h.f1 x (by simp[hx])).1;simp at hy;omega),h.o2.aG k (λx hx hy=>by have:=(h.f2 x (by simp[hx])).1;simp at hy;omega),eW,h.kp.trans k,h.f1,h.f2⟩
theorem Qu (aM:aj) (k:Nat) (hk:k<=10) (br q:Nat) (hq:q<=800000000) (w:World) (h:dM w br q):
  bC Tryz.prog 80 [.pointer (some ⟨br,0,none⟩),str aM,.int .i64 (k:Int)] w λr w'=>(∃bk,Qs bk aM∧∀L:List Nat,(∀x,x∈L->x<w.heap.size)->nN L w' r bk)∧dM w' br (q+100)∧ak [br] w w':=by
 have ir:=h.lt
 have hK:=ak.refl [] w
 refine j1 [.cell 6 58] 64 Tryz.func80 rfl adW rfl rfl rfl ?_
 refine zr<|da fD rfl rfl rfl λw1 aI bK jR=>?_
 have hK:=hK.ext aI
 refine aV<|zr<|zm<|gA bo bm λw2 az mx HS=>bL az hK bK λhK bK=>?_
 refine gA bo bm λw3 aH xw Dv=>cO aH hK bK mx λhK bK mx=>?_
 refine iT (Gx _ _ _ _ _ _ _ _) rfl rfl<|da fD rfl rfl rfl λw4 aN cL l4=>gH aN hK bK mx xw λhK bK mx xw=>?_
 refine cu fD rfl rfl rfl cL rfl λw5 aJ cL dv=>?_
 have hK:=hK.since aJ (λx hx=>.inr (by simp at hx;omega))
 have bK:=bK.aG aJ so
 have mx:=mx.aG aJ so
 have xw:=xw.aG aJ so
 have hS:rR br w w.heap.size w3.heap.size aM (.slice (some ⟨w1.heap.size,0,none⟩) 0 0) (some w1.heap.size) [] (.slice (some ⟨w2.heap.size,0,none⟩) 0 0) (some w2.heap.size) [] q w5:=⟨cL,bK,mx.lh,xw.lh,h.ext hK,hK.any,λx hx=>by simp at hx;subst hx;simp;omega,λx hx=>by simp at hx;subst hx;simp;omega⟩
 refine W ?_
 refine eO (λi:Nat=>[(0,.pointer (some ⟨br,0,none⟩)),(6,.pointer (some ⟨w.heap.size,0,none⟩)),(7,.pointer (some ⟨w3.heap.size,0,none⟩)),(2,.int .i64 (k:Int)),(8,.int .i64 (i:Int))]) (λi ww=>i<=k∧∃v1 g1 xs v2 g2,rR br w w.heap.size w3.heap.size aM v1 g1 xs v2 g2 [] (q+i) ww∧xs.length=i∧∀x,x∈xs->x.length<=100) (λi=>k-i) (0) (⟨rfl,rfl,rfl,rfl,rfl⟩) (⟨Nat.zero_le _,_,_,_,_,_,hS,rfl,sm⟩) λgg w6 e6 hI=>?_
 obtain⟨hi,v1,g1,xs,v2,g2,hS,hxn,zQ⟩:=hI
 refine W ?_
 refine zc rfl (λh1=>?_) (λh1=>?_)
 have lp:gg<k:=(by simp at h1;omega)
 have cG:=j8 hS.o1
 obtain⟨a1,c1,e1⟩:=cG
 subst e1
 have anb:br∉g1.toList:=(λhx=>by have:=(hS.f1 br hx).1;omega)
 have bu:dW (br::g1.toList) w6 w3.heap.size [str aM,.slice a1 xs.length c1,v2].toArray 58:=⟨hS.box,λhx=>by rcases mC.1 hx with h9|h9;(·omega);(·exact(hS.f1 _ h9).2.2.1 rfl)⟩
 have uz:=bu.out
 have qj:eZ (br::g1.toList) w6:=(λz hz=>by rcases mC.1 hz with h9|h9;(·rw[h9];exact hS.rd.lt);(·exact hS.o1.lt z h9))
 refine WZ ?_
 apply jQ du ((br::g1.toList)) 7 (rA 21 7) (rA 21 7) [[],[0],[],[],[2,3],[4],[1,5]] [Ie.v _,Ie.v _,Ie.v _,Ie.p (fun(G:List Nat) (v:Value) (ww:World)=>bg G ww v LA),Ie.e 0,Ie.e 1,Ie.e 2] [4,5,6] [fun(G:List Nat) (vs:List Value) (ww:World)=>G=br::g1.toList∧ak [] w6 ww,fun(G:List Nat) (vs:List Value) (ww:World)=>G=br::g1.toList∧ak [br] w6 ww∧dM ww br (q+gg+1)∧∃x,vs.getD 0 undef=str x∧x.length<=100,fun(G:List Nat) (vs:List Value) (ww:World)=>G=br::g1.toList∧ak [br] w6 ww∧dM ww br (q+gg+1)∧∃x bb,vs.getD 0 undef=str x∧x.length<=100∧vs.getD 1 undef= .slice (some ⟨bb,0,none⟩) 1 1∧aL ww bb [str x].toArray 9,fun(G:List Nat) (vs:List Value) (ww:World)=>ak (br::g1.toList) w6 ww∧dM ww br (q+gg+1)∧∃x g9,x.length<=100∧cE ww 9 (vs.getD 2 undef) g9 (xs++[x])∧(g9=g1∨∃z,g9=some z∧w6.heap.size<=z)] de rfl qj (by exact⟨λG v w G' w' h k=>bg.go h k,trivial⟩) (by exact⟨λG vs w w' ⟨h1,h2⟩ k=>⟨h1,h2.ext k⟩,λG vs w w' ⟨h1,h2,h3,h4⟩ k=>⟨h1,h2.ext k,h3.ext k,h4⟩,λG vs w w' ⟨h1,h2,h3,x,bb,h4,h5,h6,h7⟩ k=>⟨h1,h2.ext k,h3.ext k,x,bb,h4,h5,h6,h7.ext k⟩,λG vs w w' ⟨h1,h2,x,g9,h3,h4,h5⟩ k=>⟨h1.ext k,h2.ext k,x,g9,h3,h4.ext k,h5⟩,trivial⟩) (⟨rfl,ak.refl _ _⟩)
 refine FA ?_
 refine vf (λx w7 G7 aX nC lO=>?_) ?_
 refine NP bo bm rfl rfl rfl rfl rfl rfl rfl λw8 aU Dx kV=>?_
 exact ff aU ((aL.dS LA Dx (λhx=>by have:=lO _ hx;omega) de))
 refine ve 0 (λx w7 G7 aX nC lO hJ hlen=>?_) ?_
 have ba:=jv hlen
 subst ba
 intro v3 d3
 obtain⟨bX,cg⟩:=hJ
 subst bX
 have eW:=hS.rd.ext cg
 refine aA (lV LA de de br (q+gg) om _ w7 eW (bg.fresh d3 (λx hx=>.inl (by simp at hx;simp[hx])))) ?_
 rintro v25 w8 ⟨⟨x1,iF,O5⟩,eW,Ia⟩
 subst O5
 have fF:=(show∀x,x∈LA->x.length<=100 from by decide) _ iF
 exact fe _ (Fr.of Ia sm) ((λz hz=>lL (lO z hz) Ia.size)) (⟨rfl,cg.any.trans Ia,eW,x1,rfl,fF⟩)
 refine ve 1 (λx w7 G7 aX nC lO hJ hlen=>?_) ?_
 have aY:=jw hlen
 obtain⟨q0,ba⟩:=aY
 subst ba
 obtain⟨bX,cg,eW,x1,e1,fF⟩:=hJ
 subst bX
 have e2:q0=_:=e1
 subst e2
 refine fo bo bm rfl rfl λw8 aU vY kV=>?_
 exact fe _ (Fr.of aU sm) ((λz hz=>lL (lO z hz) (ak.size aU))) (⟨rfl,cg.ext aU,eW.ext aU,x1,_,rfl,fF,rfl,vY⟩)
 refine ve 2 (λx w7 G7 aX nC lO hJ hlen=>?_) ?_
 have aY:=lJ hlen
 obtain⟨q0,q1,ba⟩:=aY
 subst ba
 obtain⟨bX,cg,eW,x1,bb,e1,fF,e2,fX⟩:=hJ
 subst bX
 have e3:q0=_:=e1
 subst e3
 have e4:q1=_:=e2
 subst e4
 have ho:=hS.o1.aG cg (λx hx hy=>anb (by simp at hy;subst hy;simp[hx]))
 refine sj bo bm rfl rfl rfl rfl rfl rfl ho fX om λv9 g9 w8 dm aC fx=>?_
 have Qv:=cg.size
 exact fe ((br::g9.toList)) (⟨aC.mono (λz hz=>mK _ hz),λz hz=>by rcases mC.1 hz with h9|h9;(·exact .inl (by simp[h9]));(·rcases fx with h8|h8;(·rw[h8] at h9;exact .inl (mK _ h9));(·rw[h8] at h9;simp at h9;right;omega))⟩) ((λz hz=>by rcases mC.1 hz with h9|h9;(·rw[h9];exact lL eW.lt aC.size);(·exact dm.lt z h9))) (⟨(cg.mono sm).trans (aC.mono (λz hz=>mK _ hz)),eW.aG aC (λz hz=>by have:=(hS.f1 z hz).1;omega),x1,g9,fF,dm,fx.imp id (λh8=>⟨_,h8,Qv⟩)⟩)
 exact trivial
 intro x qt KL aX xG KM hJ hlen
 have aY:=AQ hlen
 obtain⟨q0,q1,q2,ba⟩:=aY
 subst ba
 intro v3 d3
 have bu:=bu.go xG
 change OW _ _ _ _ _ (aS (aR _ x _) (zZ 21 [_,_,_,_,_,_,_])) _
 obtain⟨eJ,eW,x1,g9,fF,dm,fx⟩:=hJ
 have cG:=j8 dm
 obtain⟨a9,c9,e9⟩:=cG
 have e8:q2=_:=e9
 subst e8
 have bu:=hS.box.aG eJ uz
 refine zf MU rfl<|gF (o:=1) mT rfl rfl rfl bu rfl λl5 jz bu dv=>?_
 have hS:=hS.H7 ir (lR _) om om dm eW eJ fx jz bu
 refine aV<|lv<|zm<|o3 rfl rfl rfl rfl rfl (lq (gg+1) om _ om)<|zA<|aV ?_
 exact⟨gg+1,⟨rfl,rfl,rfl,rfl,rfl⟩,⟨by omega,_,_,_,_,_,hS,by rw[lA,hxn];rfl,λx hx=>by rcases mA.1 hx with h9|h9;(·exact zQ x h9);(·simp only[List.mem_singleton] at h9;rw[h9];exact fF)⟩,om⟩
 have kX:=hS.rd.more (show q+gg<=q+10 from om)
 have anc:xs.length<=10:=om
 refine W ?_
 refine aA (mh 5 de de br (q+10) om w6 kX) ?_
 rintro v30 w7 ⟨⟨n,e30,hn⟩,eW,anf⟩
 subst e30
 have hS:=hS.call ir (lR _) om eW anf
 refine W ?_
 refine eO (λj:Nat=>[(0,.pointer (some ⟨br,0,none⟩)),(6,.pointer (some ⟨w.heap.size,0,none⟩)),(7,.pointer (some ⟨w3.heap.size,0,none⟩)),(9,.int .i64 (n:Int)),(10,.int .i64 (j:Int))]) (λj ww=>j<=n∧∃v1 g1 v2 g2 ys,rR br w w.heap.size w3.heap.size aM v1 g1 xs v2 g2 ys (q+11+5*j) ww∧ys.length<=j∧∀x,x∈ys->x.length<=100) (λj=>n-j) (0) (⟨rfl,rfl,rfl,rfl,rfl⟩) (⟨Nat.zero_le _,_,_,_,_,[],hS,sm,sm⟩) λgg w8 e8 hI=>?_
 obtain⟨hj,v1,g1,v2,g2,ys,hS,hyn,Qw⟩:=hI
 refine W ?_
 refine zc rfl (λh2=>?_) (λh2=>?_)
 have r5:gg<n:=om
 refine W ?_
 refine aA (am4 br (q+11+5*gg) om w8 hS.rd) ?_
 rintro v37 w9 ⟨⟨x1,e37,fF⟩,eW,ani⟩
 subst e37
 have hS:=hS.call ir (lR _) om eW ani
 refine W ?_
 refine aA (Hc x1 w9) ?_
 rintro _ cB ⟨rfl,cA⟩
 have zn:=cA.size
 have hS:=hS.ext cA
 refine WZ ?_
 apply oA 4 40 44 (ak [] cB) rfl oQ
 intro _
 refine zm<|aA (JR x1 cB) ?_
 rintro _ eC ⟨rfl,dh⟩
 have zH:=dh.size
 exact oQ
 intro xx eC dh
 have hS:=hS.ext dh
 refine aV<|zc rfl (λh4=>?_) (λh4=>?_)
 have cG:=j8 hS.o2
 obtain⟨a2,c2,e2⟩:=cG
 subst e2
 have bu:=hS.box
 refine W ?_
 refine fo bo bm rfl rfl λfI dw DJ O6=>?_
 have hS:=hS.ext dw
 refine sj bo bm rfl rfl rfl rfl rfl rfl hS.o2 DJ om λv9 g9 jE dm gB fx=>?_
 have cG:=j8 dm
 obtain⟨a9,c9,e9⟩:=cG
 subst e9
 have eJ:ak (br::g2.toList) _ jE:=(gB).mono (λz hz=>mK _ hz)
 have anj:=hS.rd.aG gB (λz hz=>by have:=(hS.f2 z hz).1;omega)
 have bu:=hS.box.aG gB (λhx=>(hS.f2 _ hx).2.2.1 rfl)
 refine zf Ay rfl<|gF (o:=2) mT rfl rfl rfl bu rfl λeI bS bu dv=>?_
 have hS:=hS.Bz ir (lR _) om om dm anj eJ (fx.imp id (λh8=>⟨_,h8,lR _⟩)) bS bu
 refine aV<|lv<|zm<|o3 rfl rfl rfl rfl rfl (lq (gg+1) om _ om)<|zA<|aV ?_
 exact⟨gg+1,⟨rfl,rfl,rfl,rfl,rfl⟩,⟨by omega,_,_,_,_,_,hS,by rw[lA];simp;omega,λx hx=>by rcases mA.1 hx with h9|h9;(·exact Qw x h9);(·simp only[List.mem_singleton] at h9;rw[h9];exact fF)⟩,om⟩
 refine gX<|lv<|zm<|o3 rfl rfl rfl rfl rfl (lq (gg+1) om _ om)<|zA<|aV ?_
 exact⟨gg+1,⟨rfl,rfl,rfl,rfl,rfl⟩,⟨by omega,_,_,_,_,_,hS,om,Qw⟩,om⟩
 have ank:=hS.rd.more (show q+11+5*gg<=q+31 from om)
 have cG:=j8 hS.o2
 obtain⟨a2,c2,e2⟩:=cG
 subst e2
 have anl:br∉g2.toList:=(λhx=>by have:=(hS.f2 br hx).1;omega)
 have bu:dW (br::g2.toList) w8 w3.heap.size [str aM,v1,.slice a2 ys.length c2].toArray 58:=⟨hS.box,λhx=>by rcases mC.1 hx with h9|h9;(·omega);(·exact(hS.f2 _ h9).2.2.1 rfl)⟩
 have uz:=bu.out
 have qj:eZ (br::g2.toList) w8:=(λz hz=>by rcases mC.1 hz with h9|h9;(·rw[h9];exact hS.rd.lt);(·exact hS.o2.lt z h9))
 have asN:ys.length<=4:=om
 refine WZ ?_
 apply jQ du ((br::g2.toList)) 11 (rA 51 11) (rA 51 11) [[],[0],[],[],[3],[4],[5],[6],[2,7],[8],[1,9]] [Ie.v _,Ie.v _,Ie.v _,Ie.v _,Ie.e 0,Ie.e 1,Ie.e 2,Ie.e 3,Ie.e 4,Ie.e 5,Ie.e 6] (rA 4 7) [fun(G:List Nat) (vs:List Value) (ww:World)=>G=br::g2.toList∧ak [] w8 ww,fun(G:List Nat) (vs:List Value) (ww:World)=>G=br::g2.toList∧ak [br] w8 ww∧dM ww br (q+32)∧∃x,vs.getD 0 undef=str x∧x.length<=10,fun(G:List Nat) (vs:List Value) (ww:World)=>G=br::g2.toList∧ak [br] w8 ww∧dM ww br (q+32)∧∃x,vs.getD 1 undef=str x∧x.length<=30,fun(G:List Nat) (vs:List Value) (ww:World)=>G=br::g2.toList∧ak [br] w8 ww∧dM ww br (q+32)∧∃x,vs.getD 2 undef=str x∧x.length<=40,fun(G:List Nat) (vs:List Value) (ww:World)=>G=br::g2.toList∧ak [br] w8 ww∧dM ww br (q+32)∧∃x,x.length<=40∧bg (br::g2.toList) ww (vs.getD 3 undef) [x,[40,104,97,108,116,32,48,41],[40,106,117,109,112,32,49,41]],fun(G:List Nat) (vs:List Value) (ww:World)=>G=br::g2.toList∧ak [br] w8 ww∧dM ww br (q+33)∧∃x,vs.getD 4 undef=str x∧x.length<=100,fun(G:List Nat) (vs:List Value) (ww:World)=>G=br::g2.toList∧ak [br] w8 ww∧dM ww br (q+33)∧∃x bb,x.length<=100∧vs.getD 5 undef= .slice (some ⟨bb,0,none⟩) 1 1∧aL ww bb [str x].toArray 9,fun(G:List Nat) (vs:List Value) (ww:World)=>ak (br::g2.toList) w8 ww∧dM ww br (q+33)∧∃x g9,x.length<=100∧cE ww 9 (vs.getD 6 undef) g9 (ys++[x])∧(g9=g2∨∃z,g9=some z∧w8.heap.size<=z)] de rfl qj (by exact trivial) (by exact⟨λG vs w w' ⟨h1,h2⟩ k=>⟨h1,h2.ext k⟩,λG vs w w' ⟨h1,h2,h3,h4⟩ k=>⟨h1,h2.ext k,h3.ext k,h4⟩,λG vs w w' ⟨h1,h2,h3,h4⟩ k=>⟨h1,h2.ext k,h3.ext k,h4⟩,λG vs w w' ⟨h1,h2,h3,h4⟩ k=>⟨h1,h2.ext k,h3.ext k,h4⟩,λG vs w w' ⟨h1,h2,h3,x,h4,h5⟩ k=>⟨h1,h2.ext k,h3.ext k,x,h4,h5.ext k⟩,λG vs w w' ⟨h1,h2,h3,h4⟩ k=>⟨h1,h2.ext k,h3.ext k,h4⟩,λG vs w w' ⟨h1,h2,h3,x,bb,h4,h5,h6⟩ k=>⟨h1,h2.ext k,h3.ext k,x,bb,h4,h5,h6.ext k⟩,λG vs w w' ⟨h1,h2,x,g9,h3,h4,h5⟩ k=>⟨h1.ext k,h2.ext k,x,g9,h3,h4.ext k,h5⟩,trivial⟩) (⟨rfl,ak.refl _ _⟩)
 refine FA ?_
 refine ve 0 (λx w9 G9 aX db nk hJ hlen=>?_) ?_
 have ba:=jv hlen
 subst ba
 obtain⟨bX,cg⟩:=hJ
 subst bX
 have eW:=ank.ext cg
 refine aA (II br (q+31) om w9 eW) ?_
 rintro v55 cB ⟨⟨z9,dv,Xb⟩,eW,BU⟩
 subst Xb
 have fF:=s5 (n:=z9) om
 exact fe _ (Fr.of BU sm) ((λz hz=>lL (nk z hz) BU.size)) (⟨rfl,cg.any.trans BU,eW,_,rfl,om⟩)
 refine ve 1 (λx w9 G9 aX db nk hJ hlen=>?_) ?_
 have aY:=jw hlen
 obtain⟨q0,ba⟩:=aY
 subst ba
 obtain⟨bX,cg,eW,x1,e1,fF⟩:=hJ
 subst bX
 have e2:q0=_:=e1
 subst e2
 refine WZ ?_
 exact fe _ (Fr.refl _ _) nk (⟨rfl,cg,eW,_,rfl,by simp;omega⟩)
 refine ve 2 (λx w9 G9 aX db nk hJ hlen=>?_) ?_
 have aY:=lJ hlen
 obtain⟨q0,q1,ba⟩:=aY
 subst ba
 obtain⟨bX,cg,eW,x1,e1,fF⟩:=hJ
 subst bX
 have e2:q1=_:=e1
 subst e2
 refine WZ ?_
 exact fe _ (Fr.refl _ _) nk (⟨rfl,cg,eW,_,rfl,by simp;omega⟩)
 refine ve 3 (λx w9 G9 aX db nk hJ hlen=>?_) ?_
 have aY:=AQ hlen
 obtain⟨q0,q1,q2,ba⟩:=aY
 subst ba
 obtain⟨bX,cg,eW,x1,e1,fF⟩:=hJ
 subst bX
 have e2:q2=_:=e1
 subst e2
 refine qf bo bm rfl rfl rfl rfl rfl λcB cA Qx CP=>?_
 exact fe _ (Fr.of cA sm) ((λz hz=>lL (nk z hz) (ak.size cA))) (⟨rfl,cg.ext cA,eW.ext cA,x1,fF,aL.dS [x1,[40,104,97,108,116,32,48,41],[40,106,117,109,112,32,49,41]] Qx (λhx=>by have:=nk _ hx;omega)⟩)
 refine ve 4 (λx w9 G9 aX db nk hJ hlen=>?_) ?_
 have aY:=Np hlen
 obtain⟨q0,q1,q2,q3,ba⟩:=aY
 subst ba
 obtain⟨bX,cg,eW,x1,fF,nK⟩:=hJ
 subst bX
 have nK:bg (br::g2.toList) _ q3 _:=nK
 refine aA (lV [x1,[40,104,97,108,116,32,48,41],[40,106,117,109,112,32,49,41]] sm sm br (q+32) om _ w9 eW (bg.fresh nK (λx hx=>.inl (by simp at hx;simp[hx])))) ?_
 rintro v59 cB ⟨⟨x2,eA,e59⟩,eW,IE⟩
 subst e59
 have iz:x2.length<=100:=(by simp only[mC,List.not_mem_nil,or_false] at eA;rcases eA with rfl|rfl|rfl;(·omega);(·decide);(·decide))
 exact fe _ (Fr.of IE sm) ((λz hz=>lL (nk z hz) IE.size)) (⟨rfl,cg.trans IE,eW,x2,rfl,iz⟩)
 refine ve 5 (λx w9 G9 aX db nk hJ hlen=>?_) ?_
 have aY:=TK hlen
 obtain⟨q0,q1,q2,q3,q4,ba⟩:=aY
 subst ba
 obtain⟨bX,cg,eW,x1,e1,fF⟩:=hJ
 subst bX
 have e2:q4=_:=e1
 subst e2
 refine fo bo bm rfl rfl λcB cA Ib CP=>?_
 exact fe _ (Fr.of cA sm) ((λz hz=>lL (nk z hz) (ak.size cA))) (⟨rfl,cg.ext cA,eW.ext cA,x1,_,fF,rfl,Ib⟩)
 refine ve 6 (λx w9 G9 aX db nk hJ hlen=>?_) ?_
 have aY:=afh hlen
 obtain⟨q0,q1,q2,q3,q4,q5,ba⟩:=aY
 subst ba
 obtain⟨bX,cg,eW,x1,bb,fF,e2,fX⟩:=hJ
 subst bX
 have e4:q5=_:=e2
 subst e4
 have ho:=hS.o2.aG cg (λx hx hy=>anl (by simp at hy;subst hy;simp[hx]))
 refine sj bo bm rfl rfl rfl rfl rfl rfl ho fX om λv9 g9 cB dm aC fx=>?_
 have Qv:=cg.size
 exact fe ((br::g9.toList)) (⟨aC.mono (λz hz=>mK _ hz),λz hz=>by rcases mC.1 hz with h9|h9;(·exact .inl (by simp[h9]));(·rcases fx with h8|h8;(·rw[h8] at h9;exact .inl (mK _ h9));(·rw[h8] at h9;simp at h9;right;omega))⟩) ((λz hz=>by rcases mC.1 hz with h9|h9;(·rw[h9];exact lL eW.lt aC.size);(·exact dm.lt z h9))) (⟨(cg.mono sm).trans (aC.mono (λz hz=>mK _ hz)),eW.aG aC (λz hz=>by have:=(hS.f2 z hz).1;omega),x1,g9,fF,dm,fx.imp id (λh8=>⟨_,h8,Qv⟩)⟩)
 exact trivial
 intro x kZ Kw aX E9 OE hJ hlen
 have aY:=am9 hlen
 obtain⟨q0,q1,q2,q3,q4,q5,q6,ba⟩:=aY
 subst ba
 have bu:=bu.go E9
 change OW _ _ _ _ _ (aS (aR _ x _) (zZ 51 [_,_,_,_,_,_,_,_,_,_,_])) _
 obtain⟨eJ,eW,x1,g9,fF,dm,fx⟩:=hJ
 have cG:=j8 dm
 obtain⟨a9,c9,e9⟩:=cG
 have e8:q6=_:=e9
 subst e8
 have bu:=hS.box.aG eJ uz
 refine zf Ay rfl<|gF (o:=2) mT rfl rfl rfl bu rfl λog iE bu dv=>?_
 have hS:=hS.Bz ir (lR _) om om dm eW eJ fx iE bu
 have Qy:=hS.res
 have cG:=j8 hS.o1
 obtain⟨a1,c1,e1⟩:=cG
 subst e1
 refine aV<|zr<|zL wL fD rfl hS.box.all rfl<|cu (vs:=[str aM,.slice a1 xs.length c1,.slice a9 (ys++[x1]).length c9]) fD rfl rfl rfl Qy rfl λoV ma Qy dv=>?_
 have xI:=hS.o1.aG ma (λx hx hy=>(hS.f1 x (by simp[hx])).2.1 (by simpa using hy))
 have vU:=hS.o2.aG ma (λx hx hy=>(hS.f2 x (by simp[hx])).2.1 (by simpa using hy))
 have ann:=hS.rd.aG ma (λx hx=>by simp at hx;omega)
 have dA:=hS.kp.since ma (λx hx=>.inr (by simp at hx;omega))
 have cK:=(fun(L:List Nat) (hL:∀x,x∈L->x<w.heap.size)=>xI.rep (L:=L) (λx hx hy=>by have:=(hS.f1 x (by simp[hx])).1;have:=hL x hy;omega))
 have cI:=(fun(L:List Nat) (hL:∀x,x∈L->x<w.heap.size)=>vU.rep (L:=L) (λx hx hy=>by have:=(hS.f2 x (by simp[hx])).1;have:=hL x hy;omega))
 refine W ?_
 exact⟨[_],fB wL fD rfl Qy rfl,⟨⟨aM,xs,ys++[x1]⟩,⟨rfl,⟨anc,zQ⟩,⟨by simp,by simp;omega,λx hx=>by rcases mA.1 hx with h9|h9;(·exact Qw x h9);(·simp only[List.mem_singleton] at h9;rw[h9];exact fF)⟩⟩,λL hL=>⟨_,rfl,⟨.val _,cK L hL,cI L hL,trivial⟩⟩⟩,ann.more om,dA⟩
theorem Ym (t:aq):t.ai.length<=t.size:=by
 cases t with
 |mk a ps=>
  have key:∀l:List aq,l.length<=aq.size.sizes l:=by
   intro l
   induction l with
   |nil=>simp
   |cons p l ih=>have:=size_pos p;simp only[aq.size.sizes,lC];omega
  have:=key ps
  show ps.length<=1+a.length+aq.size.sizes ps
  omega
theorem ano (s:aj) (w:World):bC Tryz.prog 134 [str s] w λr w'=>(∃v ok g xs,r= .tuple #[v,.bool ok]∧cE w' 9 v g xs∧(∀b,g=some b->w.heap.size<=b)∧ok=decide (0<xs.length)∧xs.length<=12001∧∀x,x∈xs->x.length<=24002)∧ak [] w w':=by
 have hK:=ak.refl [] w
 refine cj [.tmp 2,.tmp 3] 37 Tryz.func134 rfl ab0 rfl rfl ?_
 refine W ?_
 refine aA (sX s [] w sm) ?_
 rintro v1 w1 ⟨fK,aI⟩
 have df:=aI.size
 have hK:=hK.ext aI
 have eu:=fK
 obtain⟨t,tv,e9,ht,hp⟩:=eu
 subst e9
 have cG:=cS ht
 obtain⟨pa,pn,pc,e9,dZ,aQ⟩:=cG
 subst e9
 subst dZ
 have ni:=hK.size
 refine W ?_
 refine da aK rfl rfl rfl λw2 az aF ga=>?_
 have dA:=az
 refine cu (vs:=[str t.av,.slice pa t.ai.length pc]) aK rfl rfl rfl aF rfl λw3 aH aF dv=>?_
 have dA:=dA.since aH (λx hx=>.inr (by simp at hx;omega))
 refine bL dA aQ hK λaQ hK=>?_
 refine zA<|aV<|zr<|gA bo bm λw4 aN mx HS=>?_
 have anp:=mx.lh
 have aI:=aN
 have dC:=hK.size
 refine W ?_
 refine eO (λq9:Nat×Value×Option Nat=>[(4,.pointer (some ⟨w1.heap.size,0,none⟩)),(5,.bool ((bA s).isSome)),(6,q9.2.1),(7,.int .i64 (q9.1:Int))]) (λq9 w'=>ak [] w3 w'∧q9.1<=t.ai.length∧(0<q9.1->(bA s).isSome=true)∧∃xs,cE w' 9 q9.2.1 q9.2.2 xs∧xs.length=q9.1∧(∀x,x∈xs->x.length<=24002)∧∀b,q9.2.2=some b->w3.heap.size<=b) (λq9=>t.ai.length-q9.1) ((0,.slice (some ⟨w3.heap.size,0,none⟩) 0 0,some w3.heap.size)) (⟨rfl,rfl,rfl,rfl⟩) (⟨aI,sm,sm,[],anp,rfl,sm,by intro b hb;cases hb;exact lR _⟩) λgg w5 e5 hI=>?_
 obtain⟨k,vf,gf⟩:=gg
 obtain⟨dA,hk,Ci,xs,hO,mJ,zQ,fH⟩:=hI
 dsimp only at hk Ci hO mJ fH
 refine cO dA aQ hK aF λaQ hK aF=>?_
 refine WZ ?_
 apply oB 2 19 21 rfl oQ
 intro _
 exact oQ
 intro xx
 refine aV<|zc rfl (λh2=>?_) (λh2=>?_)
 have hh:=Bool.and_eq_true_iff.1 h2
 have az:k<t.ai.length:=(by have:=hh.1;simp at this;omega)
 have bj:(bA s).isSome=true:=hh.2
 have cF:=Cv hp bj
 have hw2:=cF.2
 have lK:=Ym t
 have fj:=fm aQ az
 obtain⟨b9,uL,pa9,pc9,e9,jF,dG⟩:=fj
 cases e9
 have Yn:=cF.1.nth az
 have Hu:=kB az
 have mr:=MW _ _ (lR _) Yn
 refine WI ?_
 refine zi cw aK rfl rfl az<|W ?_
 refine aA (r6 (nth t.ai k).size _ (lR _) Yn om om _ _ w5 dG) ?_
 rintro _ w6 ⟨rfl,bB⟩
 have ku:=bB.size
 refine bL bB hO dA λhO dA=>?_
 refine fo bo bm rfl rfl λw7 bJ anq l4=>bL bJ hO dA λhO dA=>?_
 refine sj bo bm rfl rfl rfl rfl rfl rfl hO anq om λv9 g9 w8 dm aU fx=>?_
 have Yc:=dA.size
 have dA:=dA.since aU (λx hx=>.inr (fH x (by simpa using hx)))
 refine WA ?_
 refine o3 rfl rfl rfl rfl rfl (lq (k+1) om _ om)<|zA<|aV ?_
 exact⟨(k+1,v9,g9),⟨rfl,rfl,rfl,rfl⟩,⟨dA,az,λ_=>bj,xs++[(nth t.ai k).text],dm,by show(xs++[_]).length=k+1;rw[lA,mJ];rfl,λx hx=>by rcases mA.1 hx with h9|h9;(·exact zQ x h9);(·simp only[List.mem_singleton] at h9;rw[h9];omega),λb hb=>by rcases fx with h9|h9;(·exact fH b (h9.symm.trans hb));(·rw[h9] at hb;cases hb;omega)⟩,by show t.ai.length-(k+1)<t.ai.length-k;omega⟩
 have cG:=j8 hO
 obtain⟨af,cf,ef⟩:=cG
 subst ef
 have lK:=Ym t
 have Yo:xs.length<=12001:=(by by_cases h0:0<k;(·have:=(Cv hp (Ci h0)).2;omega);(·omega))
 refine W ?_
 exact⟨_,rfl,⟨_,_,gf,xs,rfl,hO,λb hb=>by have:=fH b hb;omega,sm,Yo,zQ⟩,hK⟩
theorem Yp (xs ys:List aj) (hx:xs.length+ys.length<100000000) (v u:Value) (L:List Nat) (w:World) (hv:bg L w v xs) (hu:bg L w u ys):
  bC Tryz.prog 116 [v,u] w λr w'=>(∃g,cE w' 9 r g (xs++ys)∧∀b,g=some b->w.heap.size<=b)∧ak [] w w':=by
 have hv:bg [] w v xs:=hv.fresh sm
 have hu:bg [] w u ys:=hu.fresh sm
 obtain⟨a,n,c,rfl,hn⟩:=dU hv
 obtain⟨a2,n2,c2,rfl,eQ⟩:=dU hu
 subst hn eQ
 have hK:=ak.refl [] w
 refine cj [.tmp 4] 10 Tryz.func116 rfl SH rfl rfl ?_
 refine W ?_
 refine tQ w.heap.size [] bo bm rfl rfl (lR _) sm λw1 aI di hO=>?_
 have hK:=hK.ext aI
 have fi:=ck.ext (ck.fresh hv (L':=w.heap.size::[]) yd) aI
 refine zm<|xd bo bm rfl rfl rfl rfl rfl rfl hO fi Kf (by rw[qA];simp;omega) λa4 fT g4 w2 gz az=>?_
 have hK:=hO.since hK az
 have Ol:=ck.ext (ck.fresh hu (L':=g4.toList++[]) (λx hx=>by rcases mA.1 hx with hx|hx;(·exact .inr (gz.low x (by simpa using hx)));(·exact .inl hx))) hK
 refine zm<|xd bo bm rfl rfl rfl rfl rfl rfl gz Ol Kf (by simp only[lA,qA];simp;omega) λa5 Vy g5 w3 ll aH=>?_
 have hK:=gz.since hK aH
 have je:=ll.low
 rw[List.nil_append,Vx] at ll
 refine W ?_
 exact⟨_,rfl,⟨g5,ll.vh,je⟩,hK⟩
theorem anr (bk:Bk) (h1:bk.bW.length<=1000000) (h2:bk.code.length<=1000000) (v:Value) (L:List Nat) (w:World) (hv:nN L w v bk):
  bC Tryz.prog 83 [v] w λr w'=>(∃v1 v2 g1 g2,r= .agg #[str bk.aM,v1,v2]∧cE w' 9 v1 g1 bk.bW∧cE w' 9 v2 g2 bk.code∧(∀x,x∈g1.toList->w.heap.size<=x∧x∉g2.toList)∧∀x,x∈g2.toList->w.heap.size<=x∧x∉g1.toList)∧ak [] w w':=by
 obtain⟨b1,n1,c1,b2,n2,c2,rfl,fj,eQ,cK,cI⟩:=yf hv
 have cK:bg [] w _ bk.bW:=bg.fresh cK sm
 have cI:bg [] w _ bk.code:=bg.fresh cI sm
 have hK:=ak.refl [] w
 refine j1 [.cell 2 58] 12 Tryz.func83 rfl adY rfl rfl rfl ?_
 refine zr<|ey rfl λw1 aI aT di=>cO aI hK cK cI λhK cK cI=>?_
 refine da fD rfl rfl rfl λw2 az aO dK=>?_
 have ni:=hK.ext az
 refine cO az cK cI aT λcK cI aT=>?_
 have aT:dW [] w2 w.heap.size _ _:=⟨aT,sm⟩
 have dC:=ni.size
 have asQ:=aO.lt
 refine W ?_
 apply jQ du ([]) 9 (rA 3 9) (rA 3 9) [[],[0],[],[2],[3],[],[5],[6],[1,4,7]] [Ie.v _,Ie.v _,Ie.v _,Ie.v _,Ie.e 0,Ie.v _,Ie.v _,Ie.e 1,Ie.e 2] [4,7,8] [fun(G:List Nat) (vs:List Value) (ww:World)=>G=[]∧ak [] w2 ww,fun(G:List Nat) (vs:List Value) (ww:World)=>G=[]∧ak [] w2 ww∧∃g1,cE ww 9 (vs.getD 0 undef) g1 bk.bW∧∀x,x∈g1.toList->w2.heap.size<=x,fun(G:List Nat) (vs:List Value) (ww:World)=>G=[]∧ak [] w2 ww∧∃g1 g2,cE ww 9 (vs.getD 0 undef) g1 bk.bW∧cE ww 9 (vs.getD 1 undef) g2 bk.code∧(∀x,x∈g1.toList->w2.heap.size<=x∧x∉g2.toList)∧∀x,x∈g2.toList->w2.heap.size<=x∧x∉g1.toList,fun(G:List Nat) (vs:List Value) (ww:World)=>ak [] w2 ww∧∃g1 g2 b3 m3 d3 b4 m4 d4,vs.getD 2 undef= .agg #[str bk.aM,.slice b3 m3 d3,.slice b4 m4 d4]∧cE ww 9 (.slice b3 m3 d3) g1 bk.bW∧cE ww 9 (.slice b4 m4 d4) g2 bk.code∧(∀x,x∈g1.toList->w2.heap.size<=x∧x∉g2.toList)∧∀x,x∈g2.toList->w2.heap.size<=x∧x∉g1.toList] de rfl ((λx hx=>by simp at hx)) (by exact trivial) (by exact⟨λG vs w w' ⟨h1,h2⟩ k=>⟨h1,h2.ext k⟩,λG vs w w' ⟨h1,h2,g1,h3,h4⟩ k=>⟨h1,h2.ext k,g1,h3.ext k,h4⟩,λG vs w w' ⟨h1,h2,g1,g2,h3,h4,h5,h6⟩ k=>⟨h1,h2.ext k,g1,g2,h3.ext k,h4.ext k,h5,h6⟩,λG vs w w' ⟨h2,g1,g2,b3,m3,d3,b4,m4,d4,e,h3,h4,h5,h6⟩ k=>⟨h2.ext k,g1,g2,b3,m3,d3,b4,m4,d4,e,h3.ext k,h4.ext k,h5,h6⟩,trivial⟩) (⟨rfl,ak.refl _ _⟩)
 refine FA ?_
 refine ve 0 (λx w3 G3 aX jC kH hJ hlen=>?_) ?_
 have ba:=jv hlen
 subst ba
 have cK:=cK.go jC
 obtain⟨bX,cg⟩:=hJ
 subst bX
 refine aA (Yp bk.bW [] so _ _ [] w3 cK (.nil _ _ _)) ?_
 rintro v20 w4 ⟨⟨g1,pJ,qw⟩,xP⟩
 rw[List.append_nil] at pJ
 exact fe ([]) (Fr.of xP sm) ((λz hz=>by simp at hz)) (⟨rfl,cg.trans xP,g1,pJ,λx hx=>Nat.le_trans cg.size (qw x (by simpa using hx))⟩)
 refine FA ?_
 refine ve 1 (λx w3 G3 aX jC kH hJ hlen=>?_) ?_
 have aY:=jw hlen
 obtain⟨q0,ba⟩:=aY
 subst ba
 have cI:=cI.go jC
 obtain⟨bX,cg,g1,pJ,qw⟩:=hJ
 subst bX
 refine aA (Yp bk.code [] so _ _ [] w3 cI (.nil _ _ _)) ?_
 rintro v21 w4 ⟨⟨g2,fW,jc⟩,xL⟩
 rw[List.append_nil] at fW
 exact fe ([]) (Fr.of xL sm) ((λz hz=>by simp at hz)) (⟨rfl,cg.trans xL,g1,g2,pJ.ext xL,fW,λx hx=>⟨qw x hx,λhy=>by have h8:=pJ.lt x hx;have h9:=jc x (by simpa using hy);omega⟩,λx hx=>⟨Nat.le_trans cg.size (jc x (by simpa using hx)),λhy=>by have h8:=pJ.lt x hy;have h9:=jc x (by simpa using hx);omega⟩⟩)
 refine ve 2 (λx w3 G3 aX jC kH hJ hlen=>?_) ?_
 have aY:=lJ hlen
 obtain⟨q0,q1,ba⟩:=aY
 subst ba
 obtain⟨bX,cg,g1,g2,pJ,fW,qw,jc⟩:=hJ
 subst bX
 have cG:=j8 pJ
 obtain⟨b3,d3,e3⟩:=cG
 have e5:q0=_:=e3
 subst e5
 have cG:=j8 fW
 obtain⟨b4,d4,e4⟩:=cG
 have e6:q1=_:=e4
 subst e6
 refine iT (Gx _ _ _ _ _ _ _ _) rfl rfl ?_
 exact fe ([]) (Fr.refl _ _) kH (⟨cg,g1,g2,_,_,_,_,_,_,rfl,pJ,fW,qw,jc⟩)
 exact trivial
 intro x qQ HG aX E1 Om hJ hlen
 have aY:=AQ hlen
 obtain⟨q0,q1,q2,ba⟩:=aY
 subst ba
 change OW _ _ _ _ _ (aS (aR _ x _) (zZ 3 [_,_,_,_,_,_,_,_,_])) _
 obtain⟨cg,g1,g2,b3,m3,d3,b4,m4,d4,e9,pJ,fW,qw,jc⟩:=hJ
 have e8:q2=_:=e9
 subst e8
 have aO:=aO.ext cg
 refine cu (vs:=[str bk.aM,.slice b3 m3 d3,.slice b4 m4 d4]) fD rfl rfl rfl aO rfl λp7 j7 aO dv=>?_
 have pJ:=pJ.aG j7 (λx hx hy=>by have:=(qw x (by simp[hx])).1;simp at hy;omega)
 have fW:=fW.aG j7 (λx hx hy=>by have:=(jc x (by simp[hx])).1;simp at hy;omega)
 have fO:=(ni.ext cg).since j7 (λx hx=>.inr (by simp at hx;omega))
 refine W ?_
 exact⟨[_],fB wL fD rfl aO rfl,⟨_,_,g1,g2,rfl,pJ,fW,λx hx=>⟨by have:=(qw x hx).1;omega,(qw x hx).2⟩,λx hx=>⟨by have:=(jc x hx).1;omega,(jc x hx).2⟩⟩,fO⟩
end Go.Proofs.YthbhobaiopccaaaGreatDoor
