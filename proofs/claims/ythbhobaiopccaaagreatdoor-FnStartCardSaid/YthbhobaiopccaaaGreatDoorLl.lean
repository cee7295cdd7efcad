/- Lemmas for the law FnStart, no statement of their own: no conditions. -/
import Derived.Test.YthbhobaiopccaaaGreatDoorLk
import Derived.JoinedOf
import Derived.SevenTiedAt
import Derived.Test.YthbhobaiopccaaaGreatDoorRows
set_option maxHeartbeats 4000000
set_option linter.unusedVariables false
set_option linter.unusedSimpArgs false
namespace Go.Proofs.YthbhobaiopccaaaGreatDoor
open Go
theorem anV (ps:List eP) (mH:ps.length<=1000) (h0:0<ps.length) (HR:ru ps pX=((0:Nat):Int)) (jB:0<(mw ps 0).code.length) (ba:∀b,b∈ps->FL b) (v:Value) (w:World) (hp:nK [] w v ps):
  bz Tryz.prog 58 [v,.int .i64 0] w λr w'=>(∃b8 ra rc z s,r= .tuple #[.pointer (some ⟨b8,0,none⟩),.int .i64 0,.int .i64 z,str s]∧aJ w' b8 [str pX,.int .i64 0,.slice ra 40 rc,.slice none 0 0].toArray 43∧bc [] w' (.slice ra 40 rc) z40)∧aj [] w w':=by
 have hK:=aj.refl [] w
 have Kx:z40.length=40:=by simp[z40]
 refine jr [.tmp 4,.tmp 5,.tmp 6,.tmp 7] 44 Tryz.func58 rfl acz rfl rfl rfl ?_
 refine W ?_
 refine aA (Xt w) ?_
 rintro v1 w1 ⟨fX,aI⟩
 have dm:=aI.size
 have hK:=hK.ext aI
 obtain⟨b,e9,hO,xj⟩:=fX
 subst e9
 have ig:=hO.lt b sm
 have hOr:=hO.rs
 refine dk iZ rfl rfl rfl λw2 az cJ kG=>?_
 have iK:=hK.size
 refine bI az hK hO λhK hO=>?_
 refine cw (vs:=[str pX,.int .i64 0,.slice (some ⟨b,0,none⟩) 40 40,.slice none 0 0]) iZ rfl rfl rfl cJ rfl λw3 aH cJ df=>?_
 have hK:=hK.since aH (λx hx=>.inr (by simp at hx;omega))
 have hO:=hO.aG aH (λx hx=>by cases hx;simp;omega)
 have asd:=cJ.lt
 refine W ?_
 refine eH (λ_:Unit=>[(0,v),(1,.int .i64 0),(8,.pointer (some ⟨w1.heap.size,0,none⟩)),(9,.int .i64 0)]) (λ_ w'=>w'=w3) (λ_=>0) (()) (⟨rfl,rfl,rfl,rfl⟩) rfl λgg w4 e4 hI=>?_
 subst hI
 refine W ?_
 refine KM (by rfl)<|W ?_
 refine dk iZ rfl rfl rfl λw5 aP j7 xN=>?_
 have ase:=hK.size
 refine cG aP hK cJ hO λhK cJ hO=>?_
 refine cw (vs:=[str pX,.int .i64 0,.slice (some ⟨b,0,none⟩) 40 40,.slice none 0 0]) iZ rfl rfl rfl j7 rfl λw6 bO j7 rC=>?_
 have hK:=hK.since bO (λx hx=>.inr (by simp at hx;omega))
 have hO:=hO.aG bO (λx hx=>by cases hx;simp;omega)
 have cJ:=cJ.aG bO so
 have asf:=j7.lt
 refine W ?_
 have OM:=hO
 refine aA (Xs z40 om _ [] w6 hO.rs) ?_
 rintro v7 w7 ⟨uS,bV⟩
 have ov:=bV.size
 refine cG bV hK cJ j7 λhK cJ j7=>?_
 obtain⟨g9,cO,eA⟩:=uS
 obtain⟨a9,c9,e9⟩:=jw cO
 subst e9
 refine WZ ?_
 have hf9:=cO.UW om
 obtain⟨rb,cap,e7,e8⟩:=hf9
 cases e7
 subst e8
 have fM:=eA rb sm
 refine fz kz rfl rfl rfl j7 rfl λw8 cA j7 He=>?_
 have cO:=cO.aG cA (λx hx=>by cases hx;simp;omega)
 have hO:=hO.ext bV
 have hO:=hO.aG cA (λx hx=>by cases hx;simp;omega)
 have cJ:=cJ.aG cA so
 have hK:=hK.since cA (λx hx=>.inr (by simp at hx;omega))
 refine aZ<|zr<|zm<|aA (amh ps mH h0 HR jB ba v w4.heap.size rb c9 w8 (bN.ext (bN.fresh hp (L':=[w4.heap.size,rb]) (λx hx=>.inr (by simp at hx;omega))) hK) j7 cO om) ?_
 rintro v9 w9 ⟨⟨z,s,e9⟩,aC⟩
 subst e9
 have cJ:=cJ.aG aC so
 have hO:=hO.aG aC (λx hx=>by cases hx;simp;omega)
 have hK:=hK.since aC (λx hx=>.inr (by simp at hx;omega))
 refine W ?_
 exact⟨[_,_,_,_],⟨rfl,rfl,rfl,rfl⟩,⟨w1.heap.size,_,_,z,s,rfl,cJ,hO.rs⟩,hK⟩
theorem anX (bs:List Bk) (hb:ti bs) (r5:lv bs=true) (v:Value) (Li:List Nat) (w:World) (hv:nj Li w v bs):
  bz Tryz.prog 29 [v,.int .i64 0] w λr w'=>(∃sv,r= .tuple #[sv,.int .i64 0,.bool true]∧S0 true [] w' sv)∧aj [] w w':=by
 have hK:=aj.refl [] w
 have lS:gk bs=true:=by unfold lv at r5;exact(aE _ _▸r5).1
 have anY:=(adP lS).2
 have ho:=W5 lS
 have hlen:1<=bs.length∧bs.length<=40:=by unfold gk at lS;simp only[aE,dE] at lS;exact lS.2.1.1
 have jB:0<(mw (bs.map gW) 0).code.length:=by
  rw[Kv om]
  have h9:=DA lS _ (List.mem_of_getElem? (py (bs:=bs) (i:=0) om))
  unfold lu at h9
  simp only[aE,dE] at h9
  show 0<((bR bs 0).code.map tr).length
  rw[List.length_map];omega
 have Kx:z40.length=40:=by simp[z40]
 refine jr [.cell 4 43,.tmp 5,.tmp 6] 39 Tryz.func29 rfl acj rfl rfl rfl ?_
 refine zr<|dk iZ rfl rfl rfl λw1 aI aF db=>?_
 have hK:=hK.grow;have hK:=hK.ext aI;have hv:=hv.grow;have hv:=hv.ext aI
 refine W ?_
 refine aA (Pp bs hb _ _ [] w1 hv sm) ?_
 rintro v2 w2 ⟨fl,az⟩
 have dy:=az.size
 refine bI az hK aF λhK aF=>?_
 obtain⟨ps,pv,rfl,hp,tR⟩:=fl
 have aQ:=tR r5
 subst aQ
 refine W ?_
 refine sd (t:=20) (b:=false) (congrArg Value.bool (by rw[r5];rfl))<|zm<|aA (EV _ _ _ _) ?_
 rintro _ _ ⟨rfl,rfl⟩
 refine W ?_
 refine E2 (by rfl)<|gz<|zr<|zm<|zm<|aA (anV (bs.map gW) (by rw[List.length_map];omega) ho.1 ho.main jB anY _ w2 hp) ?_
 rintro v3 w3 ⟨jb,aH⟩
 have eU:=aH.size
 refine bI aH hK aF λhK aF=>?_
 obtain⟨b8,ra,rc,z,s,e9,cJ,hR⟩:=jb
 subst e9
 refine W ?_
 have U1:=aF.lt
 refine aA (amf pX 0 ra rc 0 0 z40 om [] [w.heap.size] w3 hR (λx hx=>by simp at hx;omega)) ?_
 rintro v4 w4 ⟨jU,aO⟩
 have fG:=aO.size
 refine bI aO hK aF λhK aF=>?_
 obtain⟨rb,rd,e9,De⟩:=jU
 subst e9
 refine zm<|cw iZ rfl rfl rfl aF rfl λw5 aP aF iI=>?_
 have hK:=hK.aD aP sx;have De:=De.aD aP sx
 refine W ?_
 exact⟨[_,_,_],⟨fb xA iZ rfl aF rfl,rfl,rfl⟩,⟨_,rfl,⟨_,_,_,_,rfl,bN.none De⟩⟩,hK⟩
theorem anZ (ps:List eP) (mH:ps.length<=1000) (h0:0<ps.length) (HR:ru ps pX=((0:Nat):Int)) (jB:0<(mw ps 0).code.length) (bY:(mw ps 0).code.length<=1000) (v sv:Value) (L Ls:List Nat) (w:World) (hp:nK L w v ps) (hs:S0 true Ls w sv):
  bz Tryz.prog 92 [v,sv] w λr w'=>r= .bool true∧aj [] w w':=by
 obtain⟨ra,rc,ha,iy,rfl,hr⟩:=hs
 obtain⟨a,c,rfl⟩:=IZ hp
 obtain⟨pb,poff,r1,Xq,r2,Xr,e1,Pr,oU,rE⟩:=I0 hp (DC h0)
 cases e1
 have hK:=aj.refl [] w
 have Kx:z40.length=40:=by simp[z40]
 refine bX [.tmp 4] 83 Tryz.func92 rfl acV rfl rfl ?_
 refine zr<|eu rfl λw1 aI cF db=>?_
 have hK:=hK.ext aI
 refine W ?_
 refine aA (Kw ps om pX _ L w1 (nK.ext hp hK)) ?_
 rintro v2 w2 ⟨fl,az⟩
 have dy:=az.size
 refine bI az hK cF λhK cF=>?_
 rw[HR] at fl
 obtain rfl:=fl
 refine W ?_
 apply kD cT 27 (rA 16 27) (rA 16 27) [[],[0],[1],[2],[2,3],[2],[2],[2,5,6],[2,7],[2,8],[2,9],[2,10],[2,4,11],[2,12],[2,13],[14],[15],[15,16],[15,17],[15,18],[15,19],[20],[21],[21,22],[21,23],[21,24],[21,25]] [It.v _,It.v _,It.v (.bool false),It.v _,It.v _,It.v _,It.v _,It.v _,It.v _,It.v _,It.v _,It.v _,It.v _,It.v _,It.v _,It.v (.bool false),It.v _,It.v _,It.v _,It.v _,It.v _,It.v (.bool false),It.v _,It.v _,It.v _,It.v _,It.v _] de rfl
 intro wd aB
 refine vc (λ_ _ _=>WZ pv) ?_
 refine vk aB (λx w3 aH=>?_) ?_
 refine WZ ?_
 exact pv
 refine vc (λx w3 aH=>?_) ?_
 refine zm ?_
 exact pv (by exact rfl)
 refine VA ?_
 refine vk aB (λx w3 aH=>?_) ?_
 have hK:=hK.ext aH
 refine zl LR rfl (Pr.ext hK 2 _ rfl) ?_
 exact pv
 refine VA ?_
 refine vk aB (λx w3 aH=>?_) ?_
 refine aA (EV _ _ _ _) ?_
 rintro _ _ ⟨rfl,rfl⟩
 exact pv
 refine VA ?_
 refine vc (λx w3 aH=>?_) ?_
 refine WZ ?_
 exact pv (by exact congrArg Value.bool (by rw[Bool.not_eq_false',aE];exact⟨dT de,dT om⟩))
 refine vc (λ_ _ _=>WZ pv) ?_
 refine vk aB (λx w3 aH=>?_) ?_
 have cF:=cF.ext aH
 refine WZ ?_
 exact pv
 refine vk aB (λx w3 aH=>?_) ?_
 refine WZ ?_
 exact pv
 refine vk aB (λx w3 aH=>?_) ?_
 refine WZ ?_
 exact pv
 refine vc (λ_ _ _=>WZ pv) ?_
 refine vc (λx w3 aH=>?_) ?_
 refine WZ ?_
 exact pv (by exact rfl)
 exact VZ
 intro x l6 rR
 refine bI rR hK cF λhK cF=>?_
 change OW _ _ _ _ [] (bm (bg _ x _) (zZ 16 [_,_,_,_,_,_,_,_,_,_,_,_,_,_,_,_,_,_,_,_,_,_,_,_,_,_,_])) _
 refine aZ<|E2 (by rfl)<|W ?_
 refine eH (λk:Nat=>[(0,.slice (some ⟨pb,poff,none⟩) ps.length c),(3,.pointer (some ⟨w.heap.size,0,none⟩)),(44,.slice ra 40 rc),(45,.int .i64 40),(46,.int .i64 (k:Int))]) (λk w'=>aj [] w w'∧aJ w' w.heap.size [str pX,.int .i64 0,.slice ra z40.length rc,.slice ha 0 iy].toArray 43∧k<=40) (λk=>40-k) (0) (⟨rfl,rfl,rfl,rfl,rfl⟩) (⟨hK,cF,om⟩) λgg mI B9 hI=>?_
 obtain⟨hK,cF,hk⟩:=hI
 refine W ?_
 refine zc rfl (λh2=>?_) (λh2=>?_)
 have hg:=jN (xs:=z40) (i:=gg) om
 obtain⟨b1,eR,e5,bF⟩:=mu hr hg
 cases e5
 rw[Pe om] at bF
 refine gz<|jq<|r6<|zr<|zi bh bf rfl rfl om<|zl fA rfl (bF.ext hK 0 _ rfl)<|zA<|aZ<|zr<|zm<|H2 rfl rfl rfl rfl<|zm<|sd (t:=52) (b:=false) rfl<|zs<|zs<|zs<|zs<|zs<|zs<|zs<|zp rfl<|aZ<|E2 (by rfl)<|gz<|lp<|nU rfl rfl rfl rfl rfl (wrap_i64 _ om om)<|zm<|aZ ?_
 exact⟨gg+1,⟨rfl,rfl,rfl,rfl,rfl⟩,⟨hK,cF,om⟩,om⟩
 refine W ?_
 refine eH (λk:Nat=>[(63,.slice ha 0 iy),(64,.int .i64 0),(65,.int .i64 (k:Int))]) (λk w'=>aj [] w w') (λk=>0-k) (0) (⟨rfl,rfl,rfl⟩) hK λgg ow XP hI=>?_
 have hK:=hI
 refine W ?_
 refine zc rfl (λh4=>?_) (λh4=>?_)
 exfalso
 omega
 refine W ?_
 exact⟨_,rfl,rfl,hK⟩
theorem an0 {bs:List Bk} (lS:gk bs=true):(1<=bs.length∧bs.length<=40)∧0<(mw (bs.map gW) 0).code.length∧(mw (bs.map gW) 0).code.length<=1000:=by
 have hlen:1<=bs.length∧bs.length<=40:=by unfold gk at lS;simp only[aE,dE] at lS;exact lS.2.1.1
 have h9:=DA lS _ (List.mem_of_getElem? (py (bs:=bs) (i:=0) om))
 unfold lu at h9
 simp only[aE,dE] at h9
 refine⟨hlen,?_⟩
 rw[Kv om]
 show 0<((bR bs 0).code.map tr).length∧((bR bs 0).code.map tr).length<=1000
 rw[List.length_map];omega
theorem an1 (bs:List Bk) (hb:ti bs) (r5:lv bs=true) (v sv:Value) (Li Ls:List Nat) (w:World) (hv:nj Li w v bs) (hs:S0 true Ls w sv):
  bz Tryz.prog 60 [v,sv] w λr w'=>(∃pa pn pc,r= .tuple #[.slice pa pn pc,.bool true])∧aj [] w w':=by
 obtain⟨ra,rc,ha,iy,rfl,hr⟩:=hs
 have hK:=aj.refl [] w
 have lS:gk bs=true:=by unfold lv at r5;exact(aE _ _▸r5).1
 have ho:=W5 lS
 obtain⟨hlen,jB,bY⟩:=an0 lS
 refine bX [.tmp 4,.tmp 5] 20 Tryz.func60 rfl acC rfl rfl ?_
 refine zr<|eu rfl λw1 aI cF db=>cG aI hK hv hr λhK hv hr=>?_
 refine W ?_
 refine aA (Pp bs hb _ _ [] w1 hv sm) ?_
 rintro v2 w2 ⟨fl,az⟩
 have dy:=az.size
 refine cG az hK hr cF λhK hr cF=>?_
 obtain⟨ps,pv,rfl,hp,tR⟩:=fl
 have aQ:=tR r5
 subst aQ
 obtain⟨pa,pc,e8⟩:=IZ hp
 subst e8
 refine W ?_
 refine sd (t:=15) (b:=true) (congrArg Value.bool r5)<|W ?_
 refine aA (anZ (bs.map gW) (by rw[List.length_map];omega) ho.1 ho.main jB bY _ _ _ _ w2 hp ⟨_,_,_,_,rfl,hr⟩) ?_
 rintro _ w3 ⟨rfl,aH⟩
 have eU:=aH.size
 have hK:=hK.ext aH
 refine W ?_
 exact⟨_,rfl,⟨_,_,_,rfl⟩,hK⟩
theorem an2 (bs:List Bk) (hb:ti bs) (r5:lv bs=true) (v sv:Value) (Li Ls:List Nat) (w:World) (hv:nj Li w v bs) (hs:S0 true Ls w sv):
  bz Tryz.prog 30 [v,sv] w λr w'=>r= .bool true∧aj [] w w':=by
 obtain⟨ra,rc,ha,iy,rfl,hr⟩:=hs
 have hK:=aj.refl [] w
 refine bX [.tmp 4] 14 Tryz.func30 rfl ack rfl rfl ?_
 refine zr<|eu rfl λw1 aI cF db=>cG aI hK hv hr λhK hv hr=>?_
 refine W ?_
 refine aA (an1 bs hb r5 _ _ _ _ w1 hv ⟨_,_,_,_,rfl,hr⟩) ?_
 rintro v2 w2 ⟨fl,az⟩
 have dy:=az.size
 have hK:=hK.ext az
 obtain⟨pa,pn,pc,e9⟩:=fl
 subst e9
 refine W ?_
 exact⟨_,rfl,rfl,hK⟩
theorem an3 (bs:List UInt8) (hb:bs.length<=1000000000) (v:Value) (w:World) (hv:bN [] w v (.sl 1 (qy bs))):
  bz Tryz.prog 25 [v] w λr w'=>(∃ps,KJ ps∧nj [] w' r ps)∧aj [] w w':=by
 have hK:=aj.refl [] w
 refine bX [.tmp 2] 5 Tryz.func25 rfl acf rfl rfl ?_
 refine W ?_
 refine aA (anT bs hb _ w hv) ?_
 rintro v1 w1 ⟨fX,aI⟩
 have dm:=aI.size
 have hK:=hK.ext aI
 have hd:=fX
 refine W ?_
 exact⟨_,rfl,hd,hK⟩
theorem asg (bs:List UInt8) (v:Value) (w:World) (hv:bN [] w v (.sl 1 (qy bs))):
  bz Tryz.prog 6 [v] w λr w'=>r= .bool true∧aj [] w w':=by
 obtain⟨a,c,rfl,_⟩:=rh hv
 have ig:(qy bs).length=bs.length:=EU bs
 have Kx:z40.length=40:=by simp[z40]
 have hK:=aj.refl [] w
 refine bX [.tmp 2] 93 Tryz.func6 rfl nm6 rfl rfl ?_
 refine W ?_
 refine zc rfl (λh1=>?_) (λh1=>?_)
 refine W ?_
 exact⟨_,rfl,rfl,hK⟩
 refine gz<|zr<|zm<|aA (an3 bs om _ w hv) ?_
 rintro v1 w1 ⟨fX,aI⟩
 have dm:=aI.size
 have hK:=hK.ext aI
 obtain⟨ps,hD,hR⟩:=fX
 have bY:=Ft hR
 obtain⟨pa,pn,pc,e8,eT⟩:=bY
 subst e8
 have hS:=hD.smalls
 have EZ:∀b,b∈ps->b.aM.length<=12000:=(λb hb=>by have:=(hD.bk b hb).1;omega)
 have Ye:=anU EZ
 have hR:bN [] w1 (.slice pa pn pc) (.sl 3 (ps.map Bk.enc)):=hR
 refine W ?_
 refine aA (amb ps hS _ [] w1 hR) ?_
 rintro v2 w2 ⟨fl,az⟩
 have dy:=az.size
 refine bI az hK hR λhK hR=>?_
 rw[Ye] at fl
 obtain⟨sv,e7,ra,rc,ha,hc,e6,bM⟩:=fl
 subst e6
 subst e7
 have bM:bN [] w2 (.slice ra (if gk ps then z40 else[]).length rc) (.sl 1 (il (if gk ps then z40 else[]))):=bM
 refine W ?_
 refine dk iZ rfl rfl rfl λw3 aH aF gv=>?_
 have hK:=hK.grow;have hK:=hK.ext aH;have hR:=hR.grow;have hR:=hR.ext aH;have bM:=bM.grow;have bM:=bM.ext aH
 refine cw iZ rfl rfl rfl aF rfl λw4 aO aF gC=>?_
 have hK:=hK.aD aO sx;have hR:=hR.aD aO sx;have bM:=bM.aD aO sx
 refine W ?_
 refine aA (amc ps hS _ _ w4 hR) ?_
 rintro v5 w5 ⟨xM,aP⟩
 have og:=aP.size
 refine gQ aP hK hR bM aF λhK hR bM aF=>?_
 obtain⟨sv,e7,rb,rd,lN,bU,e6,bT⟩:=xM
 subst e6
 subst e7
 have bT:bN [] w5 (.slice rb (if gk ps then z40 else[]).length rd) (.sl 1 (il (if gk ps then z40 else[]))):=bT
 refine W ?_
 refine dk iZ rfl rfl rfl λw6 bO bA kF=>?_
 have hK:=hK.grow;have hK:=hK.ext bO;have hR:=hR.grow;have hR:=hR.ext bO;have bM:=bM.grow;have bM:=bM.ext bO;have aF:=aF.grow;have aF:=aF.ext bO;have bT:=bT.grow;have bT:=bT.ext bO
 refine cw iZ rfl rfl rfl bA rfl λw7 bV bA oT=>?_
 have hK:=hK.aD bV sx;have hR:=hR.aD bV sx;have bM:=bM.aD bV sx;have aF:=aF.aD bV sx;have bT:=bT.aD bV sx
 refine W ?_
 have Am:=aF.lt
 apply oO 5 30 35 (aj [] w7) rfl oQ
 intro _
 refine W ?_
 refine aA (Pq (gk ps) _ _ _ _ w7 ⟨_,_,_,_,rfl,bM⟩ ⟨_,_,_,_,rfl,bT⟩) ?_
 rintro _ w8 ⟨rfl,cA⟩
 have yk:=cA.size
 exact oQ
 intro xx w9 aC
 refine sB aC hK hR bM aF bT bA λhK hR bM aF bT bA=>?_
 refine WZ ?_
 apply oP 3 36 39 rfl oQ
 intro _
 exact oQ
 intro xx
 refine aZ<|zc rfl (λh4=>?_) (λh4=>?_)
 refine WZ ?_
 apply oA 4 43 47 (aj [] w9) rfl oQ
 intro _
 refine W ?_
 refine aA (Pq (gk ps) _ _ _ _ w9 ⟨_,_,_,_,rfl,bM⟩ ⟨_,_,_,_,rfl,bT⟩) ?_
 rintro _ bZ ⟨rfl,cj⟩
 have yl:=cj.size
 exact oQ
 intro xx bZ cj
 have hK:=hK.ext cj
 refine W ?_
 exact⟨_,rfl,congrArg Value.bool sm,hK⟩
 have lS:gk ps=true:=(by simpa using h4)
 have r5:lv ps=true:=Ye.trans lS
 rw[lS] at aF bM
 simp only[↓reduceIte] at aF bM
 refine gz<|zr<|zm<|aA (anX ps hS r5 _ _ w9 hR) ?_
 rintro v10 bZ ⟨OT,cj⟩
 have yl:=cj.size
 refine gQ cj hK hR bM aF λhK hR bM aF=>?_
 obtain⟨xv,e7,rx,re,tT,dM,e6,qj⟩:=OT
 subst e6
 subst e7
 have qj:bN [] bZ (.slice rx z40.length re) (.sl 1 (il z40)):=qj
 have XU:=aF.lt
 have hK8:=hK.size
 refine W ?_
 refine dk iZ rfl rfl rfl λey cS cJ rC=>?_
 have hK:=hK.grow;have hK:=hK.ext cS;have hR:=hR.grow;have hR:=hR.ext cS;have bM:=bM.grow;have bM:=bM.ext cS;have aF:=aF.grow;have aF:=aF.ext cS;have qj:=qj.grow;have qj:=qj.ext cS
 refine cw iZ rfl rfl rfl cJ rfl λfa cV cJ He=>?_
 have hK:=hK.aD cV sx;have hR:=hR.aD cV sx;have bM:=bM.aD cV sx;have aF:=aF.aD cV sx;have qj:=qj.aD cV sx
 refine W ?_
 have Bd:=aj.refl [] fa
 refine eH (λk:Nat=>[(3,.slice pa pn pc),(4,.pointer (some ⟨w2.heap.size,0,none⟩)),(8,.pointer (some ⟨bZ.heap.size,0,none⟩)),(9,.int .i64 0),(10,.bool true),(11,.int .i64 (k:Int))]) (λk w'=>aj [] w w'∧aj [] fa w'∧k<=40) (λk=>40-k) (0) (⟨rfl,rfl,rfl,rfl,rfl,rfl⟩) (⟨hK,Bd,om⟩) λgg jf EB hI=>?_
 obtain⟨hK,Bd,hk⟩:=hI
 have aF:=aF.ext Bd;have cJ:=cJ.ext Bd;have bM:=bM.ext Bd;have qj:=qj.ext Bd;have hR:=hR.ext Bd
 refine W ?_
 refine zc rfl (λh6=>?_) (λh6=>?_)
 have dR:gg<40:=(by have h9:=h6;simp[z40] at h9;omega)
 have hg:=jN (xs:=z40) (i:=gg) om
 have oF:=mu bM hg
 obtain⟨b1,eR,e5,bF⟩:=oF
 cases e5
 rw[Pe om] at bF
 refine W ?_
 refine E2 (by rfl)<|W ?_
 exact⟨gg+1,⟨rfl,rfl,rfl,rfl,rfl,rfl⟩,⟨hK,Bd,om⟩,om⟩
 refine W ?_
 refine sd (t:=68) (b:=true) rfl<|W ?_
 refine sd (t:=72) (b:=true) rfl<|W ?_
 refine aA (Pq true _ _ _ _ jf ⟨_,_,_,_,rfl,qj⟩ ⟨_,_,_,_,rfl,bM⟩) ?_
 rintro _ ix ⟨rfl,du⟩
 have WJ:=du.size
 refine gQ du hK aF bM hR λhK aF bM hR=>?_
 refine zp rfl<|zm<|sd (t:=77) (b:=true) rfl<|W ?_
 refine aA (an2 ps hS r5 _ _ _ _ ix hR ⟨_,_,_,_,rfl,bM⟩) ?_
 rintro _ o7 ⟨rfl,jg⟩
 have J6:=jg.size
 refine bI jg hK aF λhK aF=>?_
 refine zp rfl<|zm<|sd (t:=82) (b:=true) rfl<|zf RM rfl<|zl fA rfl (aF.at rfl)<|Bh rfl rfl rfl rfl<|zp rfl<|zm<|sd (t:=87) (b:=true) rfl<|zf LL rfl<|zl FJ rfl (aF.at rfl)<|Dm BF rfl rfl rfl<|uj rfl rfl rfl rfl rfl<|zp rfl<|zA<|aZ<|jJ ?_
 exact⟨_,rfl,rfl,hK⟩
theorem asi:(fun(_:Program) (_:FuncId) (_:Func) (s:ChangeSpec) (c:OpenClaim)=>(c.wf (OpenSpec.ofChange s):Bool)) Tryz.pinned.checked.prog 6 Tryz.f6 Rows.fnStartSpec Rows.fnStartRow=true:=by kernel_rfl
theorem asj:(fun(P:Program) (_:FuncId) (_:Func) (_:ChangeSpec) (_:OpenClaim)=>(laidOutB P:Bool)) Tryz.pinned.checked.prog 6 Tryz.f6 Rows.fnStartSpec Rows.fnStartRow=true:=by kernel_rfl
theorem asl:(fun(P:Program) (_:FuncId) (_:Func) (_:ChangeSpec) (_:OpenClaim)=>(mapsRowed P:Bool)) Tryz.pinned.checked.prog 6 Tryz.f6 Rows.fnStartSpec Rows.fnStartRow=true:=by kernel_rfl
theorem asm:(fun(P:Program) (_:FuncId) (fn:Func) (_:ChangeSpec) (_:OpenClaim)=>(fn.params.all (P.readableRec ·):Bool)) Tryz.pinned.checked.prog 6 Tryz.f6 Rows.fnStartSpec Rows.fnStartRow=true:=by kernel_rfl
theorem asn:(fun(P:Program) (_:FuncId) (_:Func) (s:ChangeSpec) (c:OpenClaim)=>(namedTie P c.named s.vars:Bool)) Tryz.pinned.checked.prog 6 Tryz.f6 Rows.fnStartSpec Rows.fnStartRow=true:=by kernel_rfl
theorem aso:(fun(_:Program) (_:FuncId) (_:Func) (_:ChangeSpec) (c:OpenClaim)=>((c.stops==[]):Bool)) Tryz.pinned.checked.prog 6 Tryz.f6 Rows.fnStartSpec Rows.fnStartRow=true:=by kernel_rfl
theorem asp:(fun(P:Program) (_:FuncId) (_:Func) (_:ChangeSpec) (_:OpenClaim)=>((P.stops==[]):Bool)) Tryz.pinned.checked.prog 6 Tryz.f6 Rows.fnStartSpec Rows.fnStartRow=true:=by kernel_rfl
theorem asq:(fun(_:Program) (_:FuncId) (_:Func) (_:ChangeSpec) (c:OpenClaim)=>((c.knobs==[]):Bool)) Tryz.pinned.checked.prog 6 Tryz.f6 Rows.fnStartSpec Rows.fnStartRow=true:=by kernel_rfl
theorem asr:(fun(P:Program) (_:FuncId) (_:Func) (_:ChangeSpec) (_:OpenClaim)=>((P.stopKnobs==[]):Bool)) Tryz.pinned.checked.prog 6 Tryz.f6 Rows.fnStartSpec Rows.fnStartRow=true:=by kernel_rfl
theorem ass:(fun(P:Program) (f:FuncId) (_:Func) (_:ChangeSpec) (c:OpenClaim)=>((c.inPlace==P.inPlace f):Bool)) Tryz.pinned.checked.prog 6 Tryz.f6 Rows.fnStartSpec Rows.fnStartRow=true:=by kernel_rfl
theorem ast:(fun(P:Program) (f:FuncId) (_:Func) (_:ChangeSpec) (c:OpenClaim)=>((c.unfollowed==P.unfollowed f):Bool)) Tryz.pinned.checked.prog 6 Tryz.f6 Rows.fnStartSpec Rows.fnStartRow=true:=by kernel_rfl
theorem asu:(fun(P:Program) (f:FuncId) (_:Func) (_:ChangeSpec) (c:OpenClaim)=>((c.recurses==P.recurses f):Bool)) Tryz.pinned.checked.prog 6 Tryz.f6 Rows.fnStartSpec Rows.fnStartRow=true:=by kernel_rfl
theorem asv:(fun(P:Program) (f:FuncId) (_:Func) (_:ChangeSpec) (c:OpenClaim)=>((c.named==P.varsNamed f):Bool)) Tryz.pinned.checked.prog 6 Tryz.f6 Rows.fnStartSpec Rows.fnStartRow=true:=by kernel_rfl
theorem asw:(fun(P:Program) (_:FuncId) (fn:Func) (s:ChangeSpec) (c:OpenClaim)=>((c.maps==(fn.params.toList++s.plain.varTypes P).any (P.mapsRec ·)):Bool)) Tryz.pinned.checked.prog 6 Tryz.f6 Rows.fnStartSpec Rows.fnStartRow=true:=by kernel_rfl
theorem asx:(fun(P:Program) (_:FuncId) (fn:Func) (s:ChangeSpec) (c:OpenClaim)=>((c.ifaces==(fn.params.toList++s.plain.varTypes P).any (P.ifacesRec ·)):Bool)) Tryz.pinned.checked.prog 6 Tryz.f6 Rows.fnStartSpec Rows.fnStartRow=true:=by kernel_rfl
theorem asy:(fun(P:Program) (_:FuncId) (fn:Func) (_:ChangeSpec) (c:OpenClaim)=>((c.mapsOut==P.mapsAmong fn.resultTypes.toList):Bool)) Tryz.pinned.checked.prog 6 Tryz.f6 Rows.fnStartSpec Rows.fnStartRow=true:=by kernel_rfl
theorem asz:(fun(P:Program) (_:FuncId) (fn:Func) (s:ChangeSpec) (c:OpenClaim)=>((c.loops==(fn.params.toList++s.plain.varTypes P).any (P.loopsFrom ·)):Bool)) Tryz.pinned.checked.prog 6 Tryz.f6 Rows.fnStartSpec Rows.fnStartRow=true:=by kernel_rfl
theorem asA:(fun(P:Program) (_:FuncId) (fn:Func) (s:ChangeSpec) (c:OpenClaim)=>((c.wideKeys==(fn.params.toList++s.plain.varTypes P++fn.resultTypes.toList).any (P.wideKeysFrom ·)):Bool)) Tryz.pinned.checked.prog 6 Tryz.f6 Rows.fnStartSpec Rows.fnStartRow=true:=by kernel_rfl
theorem asB:(fun(P:Program) (_:FuncId) (_:Func) (s:ChangeSpec) (_:OpenClaim)=>(s.vars.all (P.varReadable ·):Bool)) Tryz.pinned.checked.prog 6 Tryz.f6 Rows.fnStartSpec Rows.fnStartRow=true:=by kernel_rfl
theorem asC:(fun(P:Program) (_:FuncId) (fn:Func) (_:ChangeSpec) (_:OpenClaim)=>(fn.resultTypes.all (λt=>P.readableRec t&&decide (t<P.types.size)):Bool)) Tryz.pinned.checked.prog 6 Tryz.f6 Rows.fnStartSpec Rows.fnStartRow=true:=by kernel_rfl
theorem asD:(fun(P:Program) (_:FuncId) (fn:Func) (_:ChangeSpec) (c:OpenClaim)=>((c.ifacesOut==fn.resultTypes.toList.any (P.ifacesRec ·)):Bool)) Tryz.pinned.checked.prog 6 Tryz.f6 Rows.fnStartSpec Rows.fnStartRow=true:=by kernel_rfl
theorem asE:(fun(P:Program) (_:FuncId) (fn:Func) (_:ChangeSpec) (c:OpenClaim)=>((c.loopsOut==fn.resultTypes.toList.any (P.loopsFrom ·)):Bool)) Tryz.pinned.checked.prog 6 Tryz.f6 Rows.fnStartSpec Rows.fnStartRow=true:=by kernel_rfl
theorem asF:(fun(P:Program) (_:FuncId) (_:Func) (_:ChangeSpec) (c:OpenClaim)=>((c.plainKeys==P.plainKeys):Bool)) Tryz.pinned.checked.prog 6 Tryz.f6 Rows.fnStartSpec Rows.fnStartRow=true:=by kernel_rfl
theorem asG:Tryz.pinned.checked.prog.funcNamed "loop.example/typedassembly/laws.FnStart"=some 6:=by kernel_rfl
theorem asH:(Tryz.f6).isInstance Tryz.pinned.checked.prog Rows.fnStartRow.origin Rows.fnStartRow.targs:=of_decide_eq_true (by kernel_rfl)
theorem asI:(Tryz.f6).isWrapper Tryz.pinned.checked.prog Rows.fnStartRow.wrapper Rows.fnStartRow.mainSum:=by unfold Func.isWrapper;first|(rw[iP (by decide+kernel)];kernel_rfl)|(rw[iN (by decide+kernel)];exact⟨rfl,rfl⟩)
theorem asJ:Rows.fnStartRow.wfByText (OpenSpec.ofChange Rows.fnStartSpec)=true:=by kernel_rfl
theorem asK:(fun(_:Program) (_:FuncId) (_:Func) (_:ChangeSpec) (c:OpenClaim)=>(c.shortTexts.isNone:Bool)) Tryz.pinned.checked.prog 6 Tryz.f6 Rows.fnStartSpec Rows.fnStartRow=true:=by kernel_rfl
theorem asL:(fun(P:Program) (_:FuncId) (_:Func) (_:ChangeSpec) (_:OpenClaim)=>(P.stopsHeard:Bool)) Tryz.pinned.checked.prog 6 Tryz.f6 Rows.fnStartSpec Rows.fnStartRow=true:=by kernel_rfl
theorem asM:(fun(P:Program) (_:FuncId) (_:Func) (_:ChangeSpec) (_:OpenClaim)=>(P.mayEnter:Bool)) Tryz.pinned.checked.prog 6 Tryz.f6 Rows.fnStartSpec Rows.fnStartRow=true:=by kernel_rfl
theorem asN:(fun(P:Program) (_:FuncId) (_:Func) (_:ChangeSpec) (c:OpenClaim)=>((c.lifted==P.liftsFinal):Bool)) Tryz.pinned.checked.prog 6 Tryz.f6 Rows.fnStartSpec Rows.fnStartRow=true:=by kernel_rfl
theorem asO:(fun(P:Program) (_:FuncId) (_:Func) (_:ChangeSpec) (c:OpenClaim)=>((P.make==some c.make):Bool)) Tryz.pinned.checked.prog 6 Tryz.f6 Rows.fnStartSpec Rows.fnStartRow=true:=by kernel_rfl
theorem asP:(fun(P:Program) (_:FuncId) (fn:Func) (_:ChangeSpec) (c:OpenClaim)=>((c.kinds==(if c.domain.isEmpty then[] else fn.params.toList.map λt=>match P.underlying t with|some (.int k)=>some k|_=>none)):Bool)) Tryz.pinned.checked.prog 6 Tryz.f6 Rows.fnStartSpec Rows.fnStartRow=true:=by kernel_rfl
theorem asQ:(fun(_:Program) (_:FuncId) (_:Func) (_:ChangeSpec) (c:OpenClaim)=>((c.pinned==c.pinnedBy):Bool)) Tryz.pinned.checked.prog 6 Tryz.f6 Rows.fnStartSpec Rows.fnStartRow=true:=by kernel_rfl
theorem asR:(fun(P:Program) (_:FuncId) (fn:Func) (s:ChangeSpec) (c:OpenClaim)=>((c.veiled==(fn.params.toList++s.plain.varTypes P++fn.resultTypes.toList).any (P.veiledRec ·)):Bool)) Tryz.pinned.checked.prog 6 Tryz.f6 Rows.fnStartSpec Rows.fnStartRow=true:=by kernel_rfl
theorem asS:(fun(P:Program) (_:FuncId) (fn:Func) (s:ChangeSpec) (c:OpenClaim)=>(c.veiledFits P fn.params.toList (fn.params.toList++s.plain.varTypes P++fn.resultTypes.toList):Bool)) Tryz.pinned.checked.prog 6 Tryz.f6 Rows.fnStartSpec Rows.fnStartRow=true:=by kernel_rfl
theorem asT:Tryz.pinned.checked.prog.mainIs=some (true, "11cc121be114b82c54ce4e6be40da035a0e47b7a30a856ed352bc20fea3a48b9".toList):=by kernel_rfl
theorem asU:true=Tryz.pinned.checked.prog.looks []:=by kernel_rfl
theorem asV:Tryz.pinned.checked.prog.wantsStandIn 22=false:=by kernel_rfl
theorem asW:false=Rows.fnStartRow.goesBy Tryz.pinned.checked.prog:=by kernel_rfl
end Go.Proofs.YthbhobaiopccaaaGreatDoor
