/- Lemmas for the law FnFrom, no statement of their own: no conditions. -/
import Derived.Test.YthbhobaiopccaaaGreatDoorJh
import Derived.OpenShut
set_option maxHeartbeats 4000000
set_option linter.unusedVariables false
set_option linter.unusedSimpArgs false
namespace Go.Proofs.YthbhobaiopccaaaGreatDoor
open Go
variable {E G L L1:List Nat} {w w' w1:World} {b i k off q sz:Nat} {vs:List Value} {m:Mk} {s:cP} {T:Ty} {e f:Ex} {t:Tk} {rows:List (List C)} {bs:List Bk}
def rK (aM:aj) (W:aj) (nd:List aj) (FR:List aj) (e:Ex) (bc:aj) (self:List aj) (sc:cP):Tk:=⟨aM,W::nd,FR.length,self,sc,e,2,bc,3⟩
def sy (s:cP) (FR:List aj) (f:aj) (A B:Ty) (e:Ex):cP:=if 0<j6 f e then iH s 3 FR []++[(f,3+FR.length+2,.op true A B)] else iH s 3 FR []
def uK (f:aj) (A B:Ty) (e:Ex) (W:aj):List aj:=if 0<j6 f e then[bz (.op true A B),W] else[]
theorem akl (m:Mk) (s:cP) (ton:Nat) (f x:aj) (A B:Ty) (e:Ex) {FR:List aj} {P:Pk} (hF:FR=cU (.fn f x A B e) [] []) (hP:P=pj m.lI s ton FR [] m.aM (bz (.op true A B)) [bz A,dJ (bz B)]):
  AN m s f x A B e=({P.m with bP:=m.bP++[rK m.aM P.w [bz A,dJ (bz B)] FR e (dJ (bz B)) (uK f A B e P.w) (sy s FR f A B e++[(x,1,A)])]},P.r):=by
 have h1:oD m s f x A B e=P:=by rw[hP,hF];unfold oD;simp[pj]
 have h2:P.m.bP=m.bP:=by rw[hP];rfl
 unfold AN AM AL
 rw[h1,h2,<-hF];rfl
theorem akm (t:Tk) (x:aj) (r:Nat) (T:Ty) (s:aj) (hs:s=T.text) (hl:t.sc.length<100000) (L:List Nat) (bt:Nat) (w:World) (p6:bt∈L) (lN:∀x,x∈L->x<w.heap.size) (hT:ig L w 166 bt t):
  bC Tryz.prog 192 [.pointer (some ⟨bt,0,none⟩),str x,.int .i64 (r:Int),str s] w λ_ w'=>ig L w' 166 bt {t with sc:=t.sc++[(x,r,T)]}∧ak [bt] w w':=by subst hs;exact Fm t x r T hl L bt w p6 lN hT
theorem akn (h:fM L w b off vs):fM [] w b off vs:=⟨h.cells,h.lt,sm⟩
theorem ako (t:Tk) (m:Mk) (f ax:aj) (A B:Ty) (e:Ex) (bj:(Ex.fn f ax A B e).ok) (rE:(Ex.fn f ax A B e).n<=1000) (s8:∀y,y∈cU (.fn f ax A B e) [] []->(look (eP t.sc) y).isSome=true) (mZ:(cU (.fn f ax A B e) [] []).length<=40) (hs:j9 t.sc) (nV:t.sc.length<=9000) (Bt:1+A.n+B.n<=16) (rC:t.on<1000) (ht:m.types.length+4<1000) (hc:m.code.length<=8000) (xM:m.count<1000) (fP:m.bP.length<100000) 
  (E L:List Nat) (b bt:Nat) (v:Value) (w:World) (h:dN t8 E L w b true m) (hT:ig L w 166 bt t) (er:bt∈E) (hv:bh L w v (Ex.fn f ax A B e).au):
  bC Tryz.prog 225 [.pointer (some ⟨b,0,none⟩),.pointer (some ⟨bt,0,none⟩),v] w λr w'=>r= .int .i64 ((AN m t.sc f ax A B e).2:Int)∧∃L',dN t8 E L' w' b true (AN m t.sc f ax A B e).1∧ei E L w L' w':=by
 obtain⟨ar,nr,cr,rfl,qv,aQ⟩:=cS hv
 subst qv
 have lU:=h.dB
 obtain⟨FR,zF⟩:∃z:List aj,z=cU (.fn f ax A B e) [] []:=⟨_,rfl⟩
 obtain⟨P,hP⟩:∃z:Pk,z=pj m.lI t.sc t.on FR [] m.aM (bz (.op true A B)) [bz A,dJ (bz B)]:=⟨_,rfl⟩
 rw[akl m t.sc t.on f ax A B e zF hP]
 obtain⟨Ij,BO,hPw⟩:=W2 hP
 rw[<-zF] at mZ s8
 have gk:∀x,x∈FR->dX x=true∧(look (eP t.sc) x).isSome=true:=λx hx=>⟨WY (by rw[<-zF];exact hx),s8 x hx⟩
 obtain⟨Ir,hox,akq,hoA,hoB,W7⟩:=bj
 have kh:=qg (T:=A) om
 have rL:=uj (T:=B) om
 have aqX:=qg (T:=B) om
 have W8:=qg (T:=Ty.op true A B) (show 1+A.n+B.n<=16 from Bt)
 have BP:=Br xM
 have W9:=A.len
 have Xa:=B.len
 have aqY:A.au.text.length<=100:=show A.text.length<=100 from by omega
 have aqZ:B.au.text.length<=100:=show B.text.length<=100 from by omega
 have hzA:=A.size
 have hzB:=B.size
 have xp:(Ex.fn f ax A B e).n=3+A.n+B.n+e.n:=rfl
 have qh:((((([40,62,32]:aj)++A.text)++[32])++B.text)++[41])=(Ty.op true A B).text:=by rw[Ty.Jr];simp[j4]
 have Ku:(Ex.fn f ax A B e).au.ai.length=6:=rfl
 have hK:=ak.refl [] w
 have nY:b∉E:=h.mem.2.2.1
 have Fs:b∈L:=h.mem.1 b sm
 have hR:=ei.refl E L w
 obtain⟨b1,eh,gT,gU,e1,bM,cV⟩:=fm aQ (i:=1) om
 cases e1
 have bM:fM L w _ _ [str f,.slice gT 0 gU]:=bM
 obtain⟨b2,kY,iQ,iR,e2,bZ,dQ⟩:=fm aQ (i:=2) om
 cases e2
 have bZ:fM L w _ _ [str ax,.slice iQ 0 iR]:=bZ
 obtain⟨b3,xe,pz,pA,e3,dP,ew⟩:=fm aQ (i:=3) om
 cases e3
 have ew:bh L _ _ A.au:=ew
 obtain⟨b4,yE,Of,Og,e4,jJ,qi⟩:=fm aQ (i:=4) om
 cases e4
 have qi:bh L _ _ B.au:=qi
 obtain⟨b5,yF,Fj,Fk,e5,kt,nB⟩:=fm aQ (i:=5) om
 cases e5
 have kt:fM L w _ _ [str e.au.av,.slice Fj e.au.ai.length Fk]:=kt
 have nB:bh L w (.agg #[str e.au.av,.slice Fj e.au.ai.length Fk]) e.au:=nB
 have gP:bh L w _ (Ex.fn f ax A B e).au:=hv
 have hSF:∀w:World,bC Tryz.prog 156 [str ((((([40,62,32]:aj)++A.text)++[32])++B.text)++[41])] w λr w'=>r=str (bz (.op true A B))∧ak [] w w':=λw=>by rw[qh];exact vV (.op true A B) (show 1+A.n+B.n<=60 from om) w
 refine cj [.tmp 6] 139 Tryz.func225 rfl adb rfl rfl ?_
 refine zr<|ey rfl λw1 aI bQ di=>bL aI hK hR λhK hR=>?_
 refine WI ?_
 refine zi (i:=3) cw aK rfl rfl ((show 3<6 from om))<|zL eK aK rfl ((dP.go hR.fr).cells) rfl<|aA (r6 A.au.size A.au (lR _) A.pb.wf om (show A.text.length<=100000000 from om) _ _ w1 (ew.go hR.fr)) ?_
 rintro _ w2 ⟨rfl,az⟩
 have dz:=az.size
 refine cO az hK hR bQ λhK hR bQ=>?_
 refine WI ?_
 refine zi (i:=4) cw aK rfl rfl ((show 4<6 from om))<|zL eK aK rfl ((jJ.go hR.fr).cells) rfl<|aA (r6 B.au.size B.au (lR _) B.pb.wf om (show B.text.length<=100000000 from om) _ _ w2 (qi.go hR.fr)) ?_
 rintro _ w3 ⟨rfl,aH⟩
 have eM:=aH.size
 refine cO aH hK hR bQ λhK hR bQ=>?_
 refine W ?_
 refine gA bo bm λw4 aN tw ga=>cO aN hK hR bQ λhK hR bQ=>?_
 refine gA bo bm λw5 aJ Lc iq=>gH aJ hK hR bQ tw λhK hR bQ tw=>?_
 have aq2:=bQ
 refine aA (Ki (Ex.fn f ax A B e).n (Ex.fn f ax A B e) (lR _) rE ⟨Ir,hox,akq,hoA,hoB,W7⟩ [] [] so so _ _ _ (some w4.heap.size) w5 ((gP.fresh (L':=[w4.heap.size]) (λx hx=>.inr (by simp at hx;omega))).ext hK) (tw.lh.rep (λx hx=>by simp at hx;subst hx;simp;omega)) Lc.lh) ?_
 rintro K7 w6 ⟨g22,Ik,BQ⟩
 rw[<-zF] at Ik
 have jT:ak [] w w6:=(hK.since BQ.aG (λx hx=>.inr (by simp at hx;omega)))
 have Pv:∀x,x∈g22.toList->w.heap.size<=x:=(λx hx=>by rcases BQ.mem x hx with h9|h9;(·simp at h9;omega);(·omega))
 have iu:bg L w6 K7 FR:=Ik.rep (λx hx Pw=>by have:=Pv x (by simp[hx]);have:=lU x Pw;omega)
 have aY:=dU iu
 obtain⟨Px,n22,Py,Pz,PA⟩:=aY
 subst Pz
 subst PA
 have aw:=h.ext jT
 have hR:=(ei.refl E L w).ext jT
 clear tw Lc
 refine W ?_
 refine aA (Pe m om E L b true w6 aw) ?_
 rintro v24 w7 ⟨⟨PB,aw⟩,BN⟩
 subst PB
 have hR:=hR.aD BN Fs nY
 have iu:=ck.aD iu BN (by simpa using Fs)
 refine W ?_
 refine aA (hSF w7) ?_
 rintro _ w8 ⟨rfl,aU⟩
 have oK:=aU.size
 refine cO aU hR aw iu λhR aw iu=>?_
 have dk:=aw.dB
 refine W ?_
 refine aA (vV A om w8) ?_
 rintro _ w9 ⟨rfl,aC⟩
 have lf:=aC.size
 refine cO aC hR aw iu λhR aw iu=>?_
 have dk:=aw.dB
 refine zm<|aA (vV B om w9) ?_
 rintro _ cB ⟨rfl,cA⟩
 have zn:=cA.size
 refine cO cA hR aw iu λhR aw iu=>?_
 have dk:=aw.dB
 refine aA (H0 (bz B) om cB) ?_
 rintro _ eC ⟨rfl,dh⟩
 have zH:=dh.size
 refine cO dh hR aw iu λhR aw iu=>?_
 have dk:=aw.dB
 refine lg bo bm rfl rfl rfl rfl λfI dw DJ O6=>cO dw hR aw iu λhR aw iu=>?_
 refine W ?_
 have uH:bg L fI _ [bz A,dJ (bz B)]:=aL.dS [bz A,dJ (bz B)] DJ (λhx=>by have:=dk _ hx;omega)
 refine aA (WG t m.lI FR [] m.aM (bz (.op true A B)) [bz A,dJ (bz B)] gk hs nV mZ rC sm om om sm (by intro x hx;simp at hx;rcases hx with rfl|rfl<;>omega) ht hc E L b bt _ _ fI aw (hR.tk hT er) er iu uH) ?_
 rintro v42 jE ⟨yX,L1,aw,bI⟩
 rw[<-hP] at yX aw
 subst yX
 have hR:=hR.go bI;have iu:=iu.go bI.fr;have uH:=uH.go bI.fr
 have zz:tC L1 [] jE _ [bz A,dJ (bz B)]:=(by unfold tC;rw[List.append_nil];exact uH)
 have PG:=akn (kt.go hR.fr)
 have uJ:=aw.dB
 have Il:=iu
 have mc:=aw
 have uF:=hR
 clear DJ
 refine W ?_
 apply jQ du ([]) 15 (rA 59 14++[17]) (rA 59 14++[17]) [[],[],[1],[],[2,3],[],[5],[],[7],[8],[],[10],[11],[0,4,6,9,12],[]] [Ie.v _,Ie.v _,Ie.p (fun(G:List Nat) (v:Value) (ww:World)=>tC L1 G ww v [P.w]),Ie.v _,Ie.p (fun(G:List Nat) (v:Value) (ww:World)=>tC L1 G ww v ([P.w]++[bz A,dJ (bz B)])),Ie.v _,Ie.v _,Ie.v _,Ie.v _,Ie.v _,Ie.v _,Ie.v _,Ie.v _,Ie.p (fun(G:List Nat) (v:Value) (ww:World)=>∃a4 n4 c4,v= .agg [str m.aM,.slice a4 n4 c4,.int .i64 (FR.length:Int),.slice none 0 0,.slice none 0 0,.slice none 0 0,.slice none 0 0,str e.au.av,.slice Fj e.au.ai.length Fk,.int .i64 2,str (dJ (bz B)),.int .i64 3].toArray∧tC L1 G ww (.slice a4 n4 c4) ([P.w]++[bz A,dJ (bz B)])),Ie.e 0] [14] [fun(G:List Nat) (vs:List Value) (ww:World)=>G=[]∧ak [] jE ww,fun(G:List Nat) (vs:List Value) (ww:World)=>∃bb,vs.getD 0 undef= .pointer (some ⟨bb,0,none⟩)∧G=[bb]∧jE.heap.size<=bb∧aL ww bb [str [],.slice none 0 0,.int .i64 0,.slice none 0 0,.slice none 0 0,.slice none 0 0,.slice none 0 0,str [],.slice none 0 0,.int .i64 0,str [],.int .i64 0].toArray 166∧ak [] jE ww] de rfl ((λx hx=>by simp at hx)) (by exact⟨λG v w G' w' h k=>h.go k,λG v w G' w' h k=>h.go k,λG v w G' w' ⟨a4,n4,c4,e,h⟩ k=>⟨a4,n4,c4,e,h.go k⟩,trivial⟩) (by exact⟨λG vs w w' ⟨h1,h2⟩ k=>⟨h1,h2.ext k⟩,λG vs w w' ⟨bb,h1,h2,h3,h4,h5⟩ k=>⟨bb,h1,h2,h3,h4.ext k,h5.ext k⟩,trivial⟩) (⟨rfl,ak.refl _ _⟩)
 refine FA ?_
 refine vf (λx eI Is aX BX DK=>?_) ?_
 refine fo bo bm rfl rfl λoo iA Ld HI=>?_
 exact ff iA ((aL.dS [P.w] Ld (λhx=>by have:=K6 uJ BX.aG.size DK _ hx;omega)))
 refine FA ?_
 refine vf (λx eI Is aX BX DK=>?_) ?_
 have zz:=zz.go BX
 intro v2 d2
 have eN:=K6 uJ BX.aG.size DK
 refine aA (uo [P.w] [bz A,dJ (bz B)] sm _ _ _ eI d2 zz eN) ?_
 rintro vR oo ⟨Iv,iA⟩
 have Ih:=iA.size
 have eu:=Iv
 exact ff iA eu
 refine FA ?_
 refine vf (λ_ _ _ _ _ _=>zi (i:=5) cw aK rfl rfl ((show 5<6 from om)) fv) ?_
 refine FA ?_
 refine vf (λx eI Is aX BX DK=>?_) ?_
 refine aA (vV B om eI) ?_
 rintro _ oo ⟨rfl,iA⟩
 have Ih:=iA.size
 exact fk iA
 refine vf (λx eI Is aX BX DK=>?_) ?_
 refine aA (H0 (bz B) om eI) ?_
 rintro _ oo ⟨rfl,iA⟩
 have Ih:=iA.size
 exact fk iA
 refine vf (λx eI Is aX BX DK=>?_) ?_
 intro v4 d4
 have aY:=dU d4
 obtain⟨a4,n4,c4,e4,_⟩:=aY
 subst e4
 refine iT (W0 ⟨m.aM.toArray⟩ a4 n4 c4 (FR.length:Int) ⟨e.au.av.toArray⟩ Fj e.au.ai.length Fk 2 ⟨(dJ (bz B)).toArray⟩ 3 _) rfl rfl ?_
 exact ff (ak.refl _ _) (⟨a4,n4,c4,rfl,d4⟩)
 refine ve 0 (λx eI Is aX BX DK hJ hlen=>?_) ?_
 have ba:=jv hlen
 subst ba
 obtain⟨bX,cg⟩:=hJ
 subst bX
 refine da mS rfl rfl rfl λoo iA xg HJ=>?_
 exact fe ([_]) (⟨iA.mono sm,λx hx=>by simp at hx;right;omega⟩) ((λx hx=>by simp at hx;omega)) (⟨_,rfl,rfl,cg.size,xg,cg.trans iA⟩)
 exact trivial
 intro x nI G53 aX aku aq4 hJ hlen
 have aY:=jw hlen
 obtain⟨q0,ba⟩:=aY
 subst ba
 intro v2 d2
 intro v4 d4
 intro HR d13
 have PG:=PG.go aku
 change OW _ _ _ _ _ (aS (aR _ x _) (zZ 59 [_,_,_,_,_,_,_,_,_,_,_,_,_,_]++[(17,_)])) _
 obtain⟨bk,sk,bX,DG,fN,cg⟩:=hJ
 have vS:q0=_:=sk
 subst vS
 subst bX
 obtain⟨a4,n4,c4,BS,PD⟩:=d13
 subst BS
 refine cu mS rfl rfl rfl fN rfl λwb xO fN dv=>?_
 have ir:=fN.lt
 have xN:=cg.since xO (λx hx=>.inr (by simp at hx;omega))
 have aw:=mc.tx xN sm DG ir
 have hR:=uF.more xN sm DG (λy hy=>uJ y (mc.sub hy))
 have PE:∀x,x∈bk::L1->x∈L1++[bk]:=(λx hx=>by simp at hx⊢;rcases hx with h|h;(·exact .inr h);(·exact .inl h))
 have wa:bk∈bk::L1:=sm
 have Fu:bk∉E:=(λhx=>by have:=uJ bk (mc.sub hx);omega)
 have iu:=(Il.fresh (L':=bk::L1) (λx hx=>by rcases mC.1 hx with rfl|hx;(·exact .inr DG);(·exact .inl hx))).ext xN
 have BE:cX (bk::L1) wb (.slice Fj e.au.ai.length Fk) e.au.ai:=(by obtain⟨_,_,_,e9,_,zI⟩:=cS (nB.go hR.fr);cases e9;exact zI)
 have fY:ig (bk::L1) wb 166 bk (rK m.aM P.w [bz A,dJ (bz B)] FR e (dJ (bz B)) [] (iH t.sc 3 (FR.take 0) [])):=⟨_,_,_,_,_,_,fN,⟨(ck.aD PD xO sm).fresh (λx hx=>.inl (PE x hx)),.nil _ _ _,.nil _ _ _,.nil _ _ _,.nil _ _ _,BE⟩⟩
 refine W ?_
 refine eO (λi:Nat=>[(0,.pointer (some ⟨b,0,none⟩)),(1,.pointer (some ⟨bt,0,none⟩)),(7,.slice (some ⟨b1,eh,none⟩) 6 cr),(8,str A.text),(10,str (((((([40,62,32]:aj)++A.text)++[32])++B.text)++[41]))),(11,.slice Px FR.length Py),(13,str (bz (.op true A B))),(15,.int .i64 (P.r:Int)),(16,str P.w),(17,.pointer (some ⟨bk,0,none⟩)),(18,.int .i64 (i:Int))]) (λi w'=>ak [bk] wb w'∧i<=FR.length∧ig (bk::L1) w' 166 bk (rK m.aM P.w [bz A,dJ (bz B)] FR e (dJ (bz B)) [] (iH t.sc 3 (FR.take i) []))) (λi=>FR.length-i) (0) (⟨rfl,rfl,rfl,rfl,rfl,rfl,rfl,rfl,rfl,rfl,rfl⟩) (⟨ak.refl _ _,Nat.zero_le _,fY⟩) λgg K9 Xb hI=>?_
 obtain⟨dA,hi,fY⟩:=hI
 have aw:=aw.aG dA sm
 have hR:=hR.aD dA wa Fu
 have iu:=ck.aD iu dA sm
 refine W ?_
 refine zc rfl (λh1=>?_) (λh1=>?_)
 have lp:gg<FR.length:=(by simp at h1;omega)
 have DB:=List.mem_of_getElem? (kM lp)
 have aY:=hR.tk hT er
 obtain⟨u1,u3,u4,u5,u6,u8,dx,hC⟩:=aY
 have DH:=hC.aP
 have DI:=hC.types
 have aY:=oq iu lp
 obtain⟨b9,uL,e9,jF⟩:=aY
 cases e9
 refine WZ ?_
 apply dV du 19 [79,80,81,82,83,84,85,86,87,88,89,90,91,92,93,94,95,96,97] [[],[],[0,1],[2],[],[4],[],[6],[7],[8],[],[10],[11],[12],[],[],[14,15],[16],[9,13,17]] (it [_,_,_,_,_,_,_,_,_,_,_,_,_,_,_,_,_,_,_]) de rfl
 intro wd aB
 refine VA ?_
 refine vk aB (λx BY DL=>?_) ?_
 refine bL DL DH DI λDH DI=>?_
 refine aA (HA (jP t.sc) (po t.sc) (by simp[jP,po]) (by simp[jP];omega) (cJ FR gg) _ _ _ _ BY DH DI) ?_
 rintro v57 PH ⟨akw,BZ⟩
 have Xc:=BZ.size
 have eu:=akw
 rw[Pg (gk _ DB).2] at eu
 subst eu
 exact pk BZ
 exact trivial
 intro x Fw BW
 refine cO BW aw fY dA λaw fY dA=>?_
 change OW _ _ _ _ _ (aS (aR _ x _) (zZ 79 [_,_,_,_,_,_,_,_,_,_,_,_,_,_,_,_,_,_,_])) _
 refine aA (Fm (rK m.aM P.w [bz A,dJ (bz B)] FR e (dJ (bz B)) [] (iH t.sc 3 (FR.take gg) [])) (cJ FR gg) (3+gg) (ko t.sc (cJ FR gg)) (by show(iH t.sc 3 (FR.take gg) []).length<100000;rw[yL,List.length_take];omega) (bk::L1) bk Fw wa aw.dB fY) ?_
 rintro v87 Iq ⟨fY,oX⟩
 have akf:=oX.size
 refine W ?_
 exact⟨gg+1,⟨rfl,rfl,rfl,rfl,rfl,rfl,rfl,rfl,rfl,rfl,rfl⟩,⟨dA.trans oX,om,by rw[WV lp];exact fY⟩,om⟩
 have Bn:gg=FR.length:=(by simp at h1;omega)
 subst Bn
 rw[List.take_length] at fY
 have PG:=kt.go hR.fr
 have Fy:=bM.go hR.fr
 have PI:=nB.go hR.fr
 refine WZ ?_
 apply dV du 9 [99,100,101,102,103,104,105,106,107] [[],[0],[1],[],[3],[4],[5],[2,6],[7]] (it [_,_,_,_,_,_,_,_,_]) de rfl
 intro wd aB
 refine VA ?_
 refine vk aB (λx BY DL=>?_) ?_
 refine zi (i:=5) cw aK rfl rfl ((show 5<6 from om)) ?_
 exact pv
 refine VA ?_
 refine vk aB (λx BY DL=>?_) ?_
 refine zi (i:=1) cw aK rfl rfl ((show 1<6 from om)) ?_
 exact pv
 refine VA ?_
 refine vk aB (λx BY DL=>?_) ?_
 have PI:=PI.ext DL
 refine aA (ag6 f e.n e (lR _) om W7 _ _ BY PI) ?_
 rintro _ PH ⟨rfl,BZ⟩
 have Xc:=BZ.size
 exact pk BZ
 exact VZ
 intro x Fw BW
 refine gH BW aw hR Fy fY λaw hR Fy fY=>?_
 change OW _ _ _ _ [] (aS (aR _ x _) (zZ 99 [_,_,_,_,_,_,_,_,_])) _
 have lj:=ak.refl [bk] Fw
 refine W ?_
 refine iS (λ_:Unit=>[(0,.pointer (some ⟨b,0,none⟩)),(7,.slice (some ⟨b1,eh,none⟩) 6 cr),(8,str A.text),(15,.int .i64 (P.r:Int)),(17,.pointer (some ⟨bk,0,none⟩))]) (λ_ ww=>ak [bk] Fw ww∧ig (bk::L1) ww 166 bk (rK m.aM P.w [bz A,dJ (bz B)] FR e (dJ (bz B)) (uK f A B e P.w) (sy t.sc FR f A B e))) ?_ ?_
 refine zc rfl (λh2=>?_) (λh2=>?_)
 have eR:0<j6 f e:=(by simp at h2;omega)
 have dk:=aw.dB
 refine zr<|zm<|zm<|lg bo bm rfl rfl rfl rfl λIq Fx akx aq5=>cO Fx Fy fY lj λFy fY lj=>?_
 refine WZ ?_
 have vE:bg (bk::L1) Iq _ [bz (.op true A B),P.w]:=aL.dS [bz (.op true A B),P.w] akx (λhx=>by have:=dk _ hx;omega)
 obtain⟨u1,u3,u4,u5,u6,u8,fN,tE⟩:=fY
 refine gF (o:=3) mT rfl rfl rfl fN rfl λwe Le fN dv=>?_
 have tE:=tE.aD Le sm
 have vE:=ck.aD vE Le sm
 have fY:ig (bk::L1) we 166 bk (rK m.aM P.w [bz A,dJ (bz B)] FR e (dJ (bz B)) [bz (.op true A B),P.w] (iH t.sc 3 FR [])):=⟨u1,_,u4,u5,u6,u8,fN,⟨tE.regs,vE,tE.aP,tE.at_,tE.types,tE.ai⟩⟩
 have Fy:=Fy.aD Le sm
 have H2:=lj.trans Le
 have DM:∀x,x∈bk::L1->x<we.heap.size:=(λx hx=>by have:=dk x hx;omega)
 refine aV<|lv<|zm<|zi (i:=1) cw aK rfl rfl ((show 1<6 from om))<|WZ ?_
 refine aA (akm (rK m.aM P.w [bz A,dJ (bz B)] FR e (dJ (bz B)) [bz (.op true A B),P.w] (iH t.sc 3 FR [])) f (3+FR.length+2) (.op true A B) _ qh (by show(iH t.sc 3 FR []).length<100000;rw[yL];omega) (bk::L1) bk we wa DM fY) ?_
 rintro v87 Xd ⟨fY,oX⟩
 have H2:=H2.trans oX
 refine W ?_
 exact⟨(),⟨rfl,rfl,rfl,rfl,rfl⟩,H2,by unfold sy uK;rw[iP eR,iP eR];exact fY⟩
 have eR:¬0<j6 f e:=(by simp at h2;omega)
 refine WZ ?_
 exact⟨(),⟨rfl,rfl,rfl,rfl,rfl⟩,ak.refl _ _,by unfold sy uK;rw[iN eR,iN eR];exact fY⟩
 intro gu Iq e96 hI
 obtain⟨Xe,fY⟩:=hI
 have aw:=aw.aG Xe sm
 have hR:=hR.aD Xe wa Fu
 have aq7:=bZ.go hR.fr
 refine zr<|zm<|zi (i:=2) cw aK rfl rfl ((show 2<6 from om))<|W ?_
 refine aA (Fm (rK m.aM P.w [bz A,dJ (bz B)] FR e (dJ (bz B)) (uK f A B e P.w) (sy t.sc FR f A B e)) ax 1 A (by show(sy t.sc FR f A B e).length<100000;unfold sy;split;(·rw[lA,yL];simp;omega);(·rw[yL];omega)) (bk::L1) bk Iq wa aw.dB fY) ?_
 rintro v90 we ⟨fY,uy⟩
 have aw:=aw.aG uy sm
 have hR:=hR.aD uy wa Fu
 have fY:ig (bk::L1) we 166 bk (rK m.aM P.w [bz A,dJ (bz B)] FR e (dJ (bz B)) (uK f A B e P.w) ((sy t.sc FR f A B e)++[(ax,1,A)])):=fY
 have KX:P.m.bP.length<100000:=(by rw[Ij];exact fP)
 have aY:=aw.open
 obtain⟨vb,vt,vc,vy,gb,gt,gc,gy,xF,hS⟩:=aY
 have aY:=hS.apart
 obtain⟨zu,nJ,vW,mE,vX,uC⟩:=aY
 obtain⟨u1,u3,u4,u5,u6,u8,Io,tE⟩:=fY
 have bu:dW gt.toList we b [vb,vt,.int .i64 ((P.m).count:Int),.bool (P.m).wide,vc,vy].toArray 164:=⟨xF,λhx=>(mE b hx).2.1 rfl⟩
 have fN:dW gt.toList we bk (p4 (rK m.aM P.w [bz A,dJ (bz B)] FR e (dJ (bz B)) (uK f A B e P.w) ((sy t.sc FR f A B e)++[(ax,1,A)])) u1 u3 u4 u5 u6 u8).toArray 166:=⟨Io,λhx=>(mE bk hx).1 sm⟩
 have qj:eZ gt.toList we:=(λx hx=>hS.cN x (hS.mem.2 (by simp[hx])))
 have BT:∀x,x∈gt.toList->x∈(bk::L1):=(λx hx=>hS.mem.2 (by simp[hx]))
 refine W ?_
 apply jQ du gt.toList 8 (rA 128 8) (rA 128 8) [[],[],[1],[2],[3],[],[5],[4,6]] [Ie.v _,Ie.v _,Ie.v _,Ie.v _,Ie.v _,Ie.v _,Ie.p (fun(G:List Nat) (v:Value) (ww:World)=>∃bb,v= .slice (some ⟨bb,0,none⟩) 1 1∧dW G ww bb (p4 (rK m.aM P.w [bz A,dJ (bz B)] FR e (dJ (bz B)) (uK f A B e P.w) ((sy t.sc FR f A B e)++[(ax,1,A)])) u1 u3 u4 u5 u6 u8).toArray 166),Ie.e 0] [7] [fun(G:List Nat) (vs:List Value) (ww:World)=>G=gt.toList∧ak [] we ww,fun(G:List Nat) (vs:List Value) (ww:World)=>∃g2,dO (gt.toList++(g2.toList++(bk::L1))) ww 166 12 (vs.getD 0 undef) g2 (((P.m).bP++[(rK m.aM P.w [bz A,dJ (bz B)] FR e (dJ (bz B)) (uK f A B e P.w) ((sy t.sc FR f A B e)++[(ax,1,A)]))]).map Tk.enc)∧ak gt.toList we ww∧(g2=gt∨∃x,g2=some x∧we.heap.size<=x)] de rfl qj (by exact⟨λG v w G' w' ⟨bb,e,h⟩ k=>⟨bb,e,h.go k⟩,trivial⟩) (by exact⟨λG vs w w' ⟨h1,h2⟩ k=>⟨h1,h2.ext k⟩,λG vs w w' ⟨g2,h1,h2,h3⟩ k=>⟨g2,h1.ext k,h2.ext k,h3⟩,trivial⟩) (⟨rfl,ak.refl _ _⟩)
 refine FA ?_
 refine vf (λx Xd G98 aX akz Xf=>?_) ?_
 refine rz [_] [p4 (rK m.aM P.w [bz A,dJ (bz B)] FR e (dJ (bz B)) (uK f A B e P.w) ((sy t.sc FR f A B e)++[(ax,1,A)])) u1 u3 u4 u5 u6 u8] Az mS rfl rfl rfl rfl rfl rfl rfl rfl rfl λw99 akB akC W5=>?_
 exact ff akB (⟨_,rfl,akC.o Xf⟩)
 refine ve 0 (λx Xd G98 aX akz Xf hJ hlen=>?_) ?_
 have ba:=jv hlen
 subst ba
 intro v6 d6
 obtain⟨bb,e6,fX⟩:=d6
 subst e6
 obtain⟨bX,cg⟩:=hJ
 subst bX
 have yK:=(hS.ta.any cg).sub (L':=gt.toList++(bk::L1)) (λx hx=>.inl (by rcases mA.1 hx with h|h;(·exact BT x h);(·exact h)))
 have BV:=tE.ext cg
 refine CZ (L:=(bk::L1)) (row:=Tk.enc (rK m.aM P.w [bz A,dJ (bz B)] FR e (dJ (bz B)) (uK f A B e P.w) ((sy t.sc FR f A B e)++[(ax,1,A)]))) Az mS rfl rfl rfl rfl rfl rfl yK rfl fX.all (λu hu=>List.all_eq_true.1 BV.one u hu) (BV.go ((Fr.refl _ _).to (L2:=gt.toList++(bk::L1)) (λx hx=>.inl (by rcases mA.1 hx with h|h;(·exact BT x h);(·exact h))))).yh (by rw[List.length_map];omega) λv9 g9 w99 dm uG fx=>?_
 exact fe g9.toList (⟨uG.aG,λx hx=>by rcases fx with h|h;(·rw[h] at hx;exact .inl hx);(·rw[h] at hx;simp at hx;right;omega)⟩) ((λx hx=>dm.lt x hx)) (⟨g9,by rw[List.map_append];exact dm,cg.any.trans uG.aG,fx.imp id (λh=>⟨_,h,cg.size⟩)⟩)
 exact trivial
 intro x aq8 aq9 aX akD ara hJ hlen
 have aY:=jw hlen
 obtain⟨q0,ba⟩:=aY
 subst ba
 intro v6 d6
 have bu:=bu.go akD
 change OW _ _ _ _ _ (aS (aR _ x _) (zZ 128 [_,_,_,_,_,_,_,_])) _
 obtain⟨g2,dm,eJ,jc⟩:=hJ
 have aY:=hS.Gq dm eJ jc
 obtain⟨L3,fp,jD⟩:=aY
 have aY:=dm.len
 obtain⟨a3,c3,e3⟩:=aY
 have e4:q0=_:=e3
 subst e4
 have bu:aL _ b [vb,vt,.int .i64 ((P.m).count:Int),.bool (P.m).wide,vc,vy].toArray 164:=xF.aG eJ (λhx=>(mE b hx).2.1 rfl)
 refine W ?_
 refine gF (o:=1) Jp rfl rfl rfl bu rfl λakE Xg bu dv=>?_
 have fp:=fp.aG Xg sm
 have aw:dN t8 (bk::E) L3 akE b true {P.m with bP:=(P.m).bP++[(rK m.aM P.w [bz A,dJ (bz B)] FR e (dJ (bz B)) (uK f A B e P.w) ((sy t.sc FR f A B e)++[(ax,1,A)]))]}:=⟨_,_,_,_,_,_,_,_,bu,fp⟩
 have hR:=(hR.add jD eJ (λx hx wc=>(mE x hx).1 (by simp[wc]))).aD Xg (fp.mem.2 (.inr (.inl rfl))) (λwc=>nJ (by simp[wc]))
 rw[Ij] at aw
 have aY:=aw.drop
 obtain⟨L4,PF,aw⟩:=aY
 have hR:=hR.sub (L2:=L4) (λx hx=>by rw[PF];simp[hx])
 refine W ?_
 exact⟨_,rfl,rfl,L4,aw,hR⟩
theorem Iw {a:aj} (hs:j9 s) (ht:m.types.length<1000):(cv m s a).1.types.length<=m.types.length+1∧(cv m s a).1.code.length<=m.code.length+1∧(cv m s a).1.count=m.count∧(cv m s a).1.bP=m.bP∧(cv m s a).2<1000:=by
 unfold cv
 split
 ·exact⟨Nat.le_succ _,Nat.le_succ _,rfl,rfl,Hk hs a⟩
 ·exact⟨by simp[Mk.dy,Mk.cM],by simp[Mk.dy,Mk.cM],rfl,rfl,ht⟩
theorem Xh (h:aj):gx h=(decide (h=[102,115,116])||decide (h=[115,110,100])):=rfl
theorem akF {T:Ty} (bj:e.ok) (hu:gx e.head=true) {p:Mk×Nat} (hp:p=cv m s (nth e.au.ai 1).av):
  mW m s T e=((p.1.dy (bz T)).cM sN [aZ p.1.types.length,aZ p.2,if e.head=rm then[49] else[48]],p.1.types.length):=by
 cases e with
 |un hd a=>rw[hp];show((_:Mk),_)=_;rw[show nth (Ex.un hd a).au.ai 1=a.au from rfl,Ex.ru];rfl
 |«at» s=>exact absurd (show gx []=true from hu) de
 |ite a b c=>exact absurd (show gx gN=true from hu) de
 |lt x a b=>exact absurd (show gx gw=true from hu) de
 |fn f x A B b=>exact absurd (show gx ic=true from hu) de
 |bi hd a b=>exact absurd bj.1 (by rcases Bv hd with h|h|h|h|h|h<;>simp_all[Ex.head]<;>rfl)
theorem akG {T:Ty} (bj:e.ok) (eX:e.iM=false) (hf:e.head≠ic) (hu:gx e.head=false) {p q:Mk×Nat} (hp:p=cv m s (nth e.au.ai 1).av) (hq:q=cv p.1 s (nth e.au.ai 2).av):
  mW m s T e=((q.1.dy (bz T)).cM (qJ e.head) [aZ q.1.types.length,aZ p.2,aZ q.2],q.1.types.length):=by
 cases e with
 |un hd a=>exact absurd bj.1 (by simp[Ex.head] at hu;simp[hu])
 |«at» s=>cases eX
 |ite a b c=>rw[hq,hp];rw[show nth (Ex.ite a b c).au.ai 1=a.au from rfl,show nth (Ex.ite a b c).au.ai 2=b.au from rfl,Ex.ru,Ex.ru];rfl
 |lt x a b=>rw[hq,hp];rw[show nth (Ex.lt x a b).au.ai 1=bH x from rfl,show nth (Ex.lt x a b).au.ai 2=a.au from rfl,Ex.ru];rfl
 |fn f x A B b=>exact absurd rfl hf
 |bi hd a b=>rw[hq,hp];rw[show nth (Ex.bi hd a b).au.ai 1=a.au from rfl,show nth (Ex.bi hd a b).au.ai 2=b.au from rfl,Ex.ru,Ex.ru];rfl
theorem akH (bj:e.ok) (hf:e.head≠ic):((nth e.au.ai 1).av).length<=5∧((nth e.au.ai 2).av).length<=5:=by
 cases e with
 |«at» s=>simp[Ex.au,nth,aq.ai,aq.av,bH]
 |un hd a=>rw[show nth (Ex.un hd a).au.ai 1=a.au from rfl,Ex.ru];have:=oL bj.2;exact⟨by omega,by simp[Ex.au,nth,aq.ai,aq.av]⟩
 |bi hd a b=>rw[show nth (Ex.bi hd a b).au.ai 1=a.au from rfl,show nth (Ex.bi hd a b).au.ai 2=b.au from rfl,Ex.ru,Ex.ru];have:=oL bj.2.1;have:=oL bj.2.2;omega
 |ite a b c=>rw[show nth (Ex.ite a b c).au.ai 1=a.au from rfl,show nth (Ex.ite a b c).au.ai 2=b.au from rfl,Ex.ru,Ex.ru];have:=oL bj.1;have:=oL bj.2.1;omega
 |lt x a b=>rw[show nth (Ex.lt x a b).au.ai 1=bH x from rfl,show nth (Ex.lt x a b).au.ai 2=a.au from rfl,Ex.ru];have:=EO bj.1;have:=oL bj.2.1;exact⟨by show x.length<=5;omega,om⟩
 |fn f x A B b=>exact absurd rfl hf
theorem akI (h:aj):(qJ h).length<=5:=by
 unfold qJ
 split
 ·decide
 ·split
  ·decide
  ·split<;>decide
theorem akJ (bj:e.ok) (eX:e.iM=false):1<e.au.ai.length∧(gx e.head=false->2<e.au.ai.length):=by
 cases e with
 |«at» s=>cases eX
 |un hd a=>exact⟨by simp[Ex.au,aq.ai],λh=>absurd bj.1 (by simp[Ex.head] at h;simp[h])⟩
 |_=>exact⟨by simp[Ex.au,aq.ai],λ_=>by simp[Ex.au,aq.ai]⟩
theorem akK (t:Tk) (m:Mk) (e:Ex) (T:Ty) (bj:e.ok) (fh:bD e (eP t.sc)=some T) (hs:j9 t.sc) (hb:5*t.sc.length+2*e.n<=240) (rC:t.on<1000) (ht:m.types.length+8*e.n<=1000) (hc:m.code.length<=7000) (xM:m.count<1000) (fP:m.bP.length<90000) 
  (E L:List Nat) (b bt:Nat) (v:Value) (w:World) (h:dN t8 E L w b true m) (hT:ig L w 166 bt t) (er:bt∈E) (hv:bh L w v e.au):
  bC Tryz.prog 190 [.pointer (some ⟨b,0,none⟩),.pointer (some ⟨bt,0,none⟩),v] w λr w'=>r= .int .i64 ((mW m t.sc T e).2:Int)∧∃L',dN t8 E L' w' b true (mW m t.sc T e).1∧ei E L w L' w':=by
 obtain⟨ar,nr,cr,rfl,qv,aQ⟩:=cS hv
 subst qv
 have lU:=h.dB
 have sv:=lX hs.types fh
 have EH:=qg sv
 have hep:=e.pos
 have aw:=h
 have hR:=ei.refl E L w
 have gP:bh L w _ e.au:=hv
 obtain⟨p,hp⟩:∃p,p=cv m t.sc (nth e.au.ai 1).av:=⟨_,rfl⟩
 obtain⟨q,hq⟩:∃q,q=cv p.1 t.sc (nth e.au.ai 2).av:=⟨_,rfl⟩
 have zI:p.1.types.length<=m.types.length+1∧p.1.code.length<=m.code.length+1∧p.1.count=m.count∧p.1.bP=m.bP∧p.2<1000:=by rw[hp];exact Iw hs om
 have DN:q.1.types.length<=p.1.types.length+1∧q.1.code.length<=p.1.code.length+1∧q.1.count=p.1.count∧q.1.bP=p.1.bP∧q.2<1000:=by rw[hq];exact Iw hs om
 obtain⟨ptl,pcl,_,_,p2⟩:=zI
 obtain⟨qtl,qcl,_,_,q2⟩:=DN
 refine cj [.tmp 6] 84 Tryz.func190 rfl acO rfl rfl ?_
 refine zr<|ey rfl λw1 aI bQ di=>bL aI aw hR λaw hR=>?_
 refine W ?_
 have bQ:dW L w1 w.heap.size [str e.au.av,.slice ar e.au.ai.length cr].toArray 74:=⟨bQ,λhx=>by have:=lU _ hx;omega⟩
 refine zc rfl (λh1=>?_) (λh1=>?_)
 have aY:∃a,e= .at a:=(by cases e with|«at» s=>exact⟨s,rfl⟩|_=>exact absurd rfl h1)
 obtain⟨a0,rfl⟩:=aY
 refine W ?_
 refine aA (Dy t a0 m (by have:=NS (show qD a0=true from bj);omega) om om om E L b bt _ _ _ w1 aw (hR.tk hT er) er) ?_
 rintro v20 w2 ⟨pH,L1,aw,bI⟩
 subst pH
 have hR:=hR.go bI
 refine W ?_
 exact⟨_,rfl,rfl,L1,aw,hR⟩
 have eX:e.iM=false:=(by cases hh:e.iM;rfl;exact absurd ((vM bj).2 hh) h1)
 have aY:=Ex.ai eX
 obtain⟨HD,lK,js,xl⟩:=aY
 have aY:=akJ bj eX
 obtain⟨fF,iz⟩:=aY
 have aY:=fm aQ (i:=0) om
 obtain⟨b0,yV,yA,yB,e0,eR,_⟩:=aY
 cases e0
 rw[js] at eR
 have aY:=fm aQ (i:=1) om
 obtain⟨b1,eh,gT,gU,e1,bM,cV⟩:=aY
 cases e1
 refine WI ?_
 refine zi (i:=0) cw aK rfl rfl ((show 0<_ from om))<|zf lF rfl<|zl gv rfl ((eR.go hR.fr).cells 0 _ rfl)<|W ?_
 refine zc rfl (λh2=>?_) (λh2=>?_)
 have aY:=Kn bj h2
 obtain⟨nf,nx,tA,tB,eb,rfl⟩:=aY
 have aY:=UO (m:=m) hs bj fh hb xM
 obtain⟨_,mZ,Bt⟩:=aY
 refine W ?_
 refine aA (ako t m nf nx tA tB eb bj om (λy hy=>by rcases(CA y _ [] []).1 hy with h9|h9;(·simp at h9);(·exact pY fh h9.1)) om hs om Bt rC (by simp only[Ex.n] at ht;omega) om xM om E L b bt _ w1 aw (hR.tk hT er) er (gP.go hR.fr)) ?_
 rintro v31 w2 ⟨zJ,L1,aw,bI⟩
 subst zJ
 have hR:=hR.go bI
 refine W ?_
 exact⟨_,rfl,rfl,L1,aw,hR⟩
 have rD:e.head≠ic:=h2
 have hsh:=akH bj rD
 refine W ?_
 refine aA (KU t e bj om hs.types om _ L bt w1 aw.dB (hR.tk hT er) (gP.go hR.fr)) ?_
 rintro v2 w2 ⟨gP,az⟩
 have dz:=az.size
 refine cO az aw hR bQ λaw hR bQ=>?_
 have eu:=gP
 rw[fh] at eu
 subst eu
 refine aA (vV T om w2) ?_
 rintro _ w3 ⟨rfl,aH⟩
 have eM:=aH.size
 refine cO aH aw hR bQ λaw hR bQ=>?_
 refine WL ?_
 refine zl ix rfl (bQ.at rfl)<|WL ?_
 refine zL eK aK rfl ((bM.go hR.fr).cells) rfl<|aA (Dy t (nth e.au.ai 1).av m om om om om E L b bt _ _ _ w3 aw (hR.tk hT er) er) ?_
 rintro v20 w4 ⟨pH,L1,aw,bI⟩
 rw[<-hp] at pH aw
 subst pH
 have hR:=hR.go bI;have bQ:=bQ.go bI.fr
 refine aA (iI (p.2+1) p.2 om om w4) ?_
 rintro _ w5 ⟨rfl,aJ⟩
 have mn:=aJ.size
 refine cO aJ aw hR bQ λaw hR bQ=>?_
 refine W ?_
 apply oP 3 46 49 rfl oQ
 intro _
 exact oQ
 intro xx
 refine aV<|zc rfl (λh4=>?_) (λh4=>?_)
 have hu:gx e.head=true:=(by rw[Xh];exact h4)
 rw[akF bj hu hp]
 refine zr<|zm<|zm<|aA (sq (bz T) p.1 om E L1 b true w5 aw) ?_
 rintro v52 w6 ⟨K8,L2,aw,bI⟩
 subst K8
 have hR:=hR.go bI
 refine W ?_
 refine iS (λ_:Unit=>[(0,.pointer (some ⟨b,0,none⟩)),(9,str (aZ p.2)),(10,.int .i64 (p.1.types.length:Int)),(11,str (if e.head=rm then[49] else[48]))]) (λ_ w'=>ak [] w6 w') ?_ ?_
 refine zc rfl (λh5=>?_) (λh5=>?_)
 have hz:e.head=rm:=h5
 refine W ?_
 exact⟨(),⟨rfl,rfl,rfl,by rw[iP hz];rfl⟩,ak.refl _ _⟩
 have hz:¬e.head=rm:=h5
 refine WZ ?_
 exact⟨(),⟨rfl,rfl,rfl,by rw[iN hz];rfl⟩,ak.refl _ _⟩
 intro gu w7 e7 hI
 have aw:=aw.ext hI;have hR:=hR.ext hI
 refine zr<|zm<|zm<|aA (iI (p.1.types.length+1) p.1.types.length om om w7) ?_
 rintro _ w8 ⟨rfl,aU⟩
 have oK:=aU.size
 refine bL aU aw hR λaw hR=>?_
 have dk:=aw.dB
 have mG:(if e.head=rm then([49]:aj) else[48]).length<=1:=(by split<;>decide)
 refine zm<|zm<|qf bo bm rfl rfl rfl rfl rfl λw9 aC Ib dv=>bL aC aw hR λaw hR=>?_
 refine aA (k9 sN [aZ p.1.types.length,aZ p.2,if e.head=rm then[49] else[48]] (mF de sm (by intro z hz;simp at hz;rcases hz with rfl|rfl|rfl;(·exact mf om);(·exact mf om);(·omega))) (p.1.dy (bz T)) (show p.1.code.length<100000 from om) E L2 b _ w9 aw (aL.dS [aZ p.1.types.length,aZ p.2,if e.head=rm then[49] else[48]] Ib (λhx=>by have:=dk _ hx;omega))) ?_
 rintro Xi cB ⟨L3,aw,bI⟩
 have hR:=hR.go bI
 refine W ?_
 exact⟨_,rfl,rfl,L3,aw,hR⟩
 have hu:gx e.head=false:=(by rw[Xh];exact h4)
 have iz:=iz hu
 have aY:=fm aQ (i:=2) om
 obtain⟨b2,kY,iQ,iR,e2,bZ,_⟩:=aY
 cases e2
 rw[akG bj eX rD hu hp hq]
 refine WL ?_
 refine zl ix rfl (bQ.at rfl)<|WL ?_
 refine zL eK aK rfl ((bZ.go hR.fr).cells) rfl<|aA (Dy t (nth e.au.ai 2).av p.1 om om om om E L1 b bt _ _ _ w5 aw (hR.tk hT er) er) ?_
 rintro v20 w6 ⟨pH,L2,aw,bI⟩
 rw[<-hq] at pH aw
 subst pH
 have hR:=hR.go bI
 refine aA (iI (q.2+1) q.2 om om w6) ?_
 rintro _ w7 ⟨rfl,bJ⟩
 have jd:=bJ.size
 refine bL bJ aw hR λaw hR=>?_
 refine W ?_
 refine aA (sq (bz T) q.1 om E L2 b true w7 aw) ?_
 rintro v52 w8 ⟨K8,L3,aw,bI⟩
 subst K8
 have hR:=hR.go bI
 refine W ?_
 refine aA (ajk e.head w8) ?_
 rintro _ w9 ⟨rfl,aC⟩
 have lf:=aC.size
 refine bL aC aw hR λaw hR=>?_
 have hol:=akI e.head
 refine zm<|aA (iI (q.1.types.length+1) q.1.types.length om om w9) ?_
 rintro _ cB ⟨rfl,cA⟩
 have zn:=cA.size
 refine bL cA aw hR λaw hR=>?_
 have dk:=aw.dB
 refine zm<|zm<|qf bo bm rfl rfl rfl rfl rfl λeC dh E7 uh=>bL dh aw hR λaw hR=>?_
 refine aA (k9 (qJ e.head) [aZ q.1.types.length,aZ p.2,aZ q.2] (mF om sm (by intro z hz;simp at hz;rcases hz with rfl|rfl|rfl<;>exact mf om)) (q.1.dy (bz T)) (show q.1.code.length<100000 from om) E L3 b _ eC aw (aL.dS [aZ q.1.types.length,aZ p.2,aZ q.2] E7 (λhx=>by have:=dk _ hx;omega))) ?_
 rintro Xi fI ⟨L4,aw,bI⟩
 have hR:=hR.go bI
 refine W ?_
 exact⟨_,rfl,rfl,L4,aw,hR⟩
theorem Xj {on:Nat} {bc name:aj} {K:Ty} {rest:Ex} (kK:on<1000) (ht:m.types.length+4<1000):(eU m s on bc name K rest).1.types.length<=m.types.length+4∧(eU m s on bc name K rest).1.code.length<=m.code.length+4∧(eU m s on bc name K rest).2.1<1000∧(eU m s on bc name K rest).1.count<=m.count+1∧(eU m s on bc name K rest).1.bP.length<=m.bP.length+1:=by
 unfold eU
 split
 ·have h:=UG m.lI s on (cU rest [name] []) bc m.aM (dJ (bz K)) [bz K]
  refine⟨?_,?_,?_,?_,?_⟩
  ·show(oF m s on bc name K rest).m.types.length<=_
   unfold oF;rw[h.types];exact lR _
  ·show(oF m s on bc name K rest).m.code.length<=_
   unfold oF;rw[h.code];exact lR _
  ·show m.types.length+3<1000;omega
  ·exact lR _
  ·show((oF m s on bc name K rest).m.bP++[_]).length<=_
   unfold oF;rw[h.bP,lA];exact lR _
 ·exact⟨by show m.types.length<=_;omega,by show m.code.length<=_;omega,kK,by show m.count<=_;omega,by show m.bP.length<=_;omega⟩
theorem Xk (m:Mk) (s:Nat):(sO m s).types.length=m.types.length+3∧(sO m s).code.length=m.code.length+3:=by
 unfold sO;simp[Mk.dy,Mk.cM]
structure PJ (s:cP) (name:aj) (rest:Ex):Prop where
 ok:rest.ok
 n:rest.n<=1000
 fv:∀x,x∈cU rest [name] []->(look (eP s) x).isSome=true
 len:(cU rest [name] []).length<=40
theorem akN (t:Tk) (m:Mk) (f x:Ex) (name:aj) (rest:Ex) (K:Ty) (bj:(Ex.bi kn f x).ok) (hn:(Ex.bi kn f x).n<=1000) (fh:bD (.bi kn f x) (eP t.sc)=some K) (hs:j9 t.sc) (nV:t.sc.length<=9000) (rC:t.on<1000) (kK:t.bc.length<=272) (PK:name≠[]->PJ t.sc name rest) (ht:m.types.length+9<1000) (hc:m.code.length<=7000) (xM:m.count<1000) (fP:m.bP.length<90000) 
  (E L:List Nat) (b bt:Nat) (v vr:Value) (w:World) (h:dN t8 E L w b true m) (hT:ig L w 166 bt t) (er:bt∈E) (hv:bh L w v (Ex.bi kn f x).au) (oU:bh L w vr rest.au):
  bC Tryz.prog 187 [.pointer (some ⟨b,0,none⟩),.pointer (some ⟨bt,0,none⟩),v,str name,vr] w λr w'=>∃L',dN t8 E L' w' b true (yq (eU (cv (cv m t.sc f.av).1 t.sc x.av).1 t.sc t.on t.bc name K rest).1 (cv m t.sc f.av).2 (cv (cv m t.sc f.av).1 t.sc x.av).2 (eU (cv (cv m t.sc f.av).1 t.sc x.av).1 t.sc t.on t.bc name K rest).2.1)∧(∃t',ig L' w' 166 bt t'∧t'.aM=t.aM∧t'.regs=t.regs)∧Fr L w L' w':=by
 obtain⟨ar,nr,cr,rfl,qv,aQ⟩:=cS hv
 subst qv
 obtain⟨a9,n9,c9,rfl,BF,_⟩:=cS oU
 subst BF
 have lU:=h.dB
 have dC:=lX hs.types fh
 have aw:=h
 have hR:=ei.refl E L w
 have gP:bh L w _ (Ex.bi kn f x).au:=hv
 have mZ:=oL bj.2.1
 have mJ:=oL bj.2.2
 obtain⟨p,hp⟩:∃p,p=cv m t.sc f.av:=⟨_,rfl⟩
 have zI:p.1.types.length<=m.types.length+1∧p.1.code.length<=m.code.length+1∧p.1.count=m.count∧p.1.bP=m.bP∧p.2<1000:=by rw[hp];exact Iw hs om
 obtain⟨ptl,pcl,pcn,ptk,p2⟩:=zI
 rw[<-hp]
 obtain⟨q,hq⟩:∃q,q=cv p.1 t.sc x.av:=⟨_,rfl⟩
 have DN:q.1.types.length<=p.1.types.length+1∧q.1.code.length<=p.1.code.length+1∧q.1.count=p.1.count∧q.1.bP=p.1.bP∧q.2<1000:=by rw[hq];exact Iw hs om
 obtain⟨qtl,qcl,qcn,qtk,q2⟩:=DN
 rw[<-hq]
 obtain⟨C,hC⟩:∃C,C=eU q.1 t.sc t.on t.bc name K rest:=⟨_,rfl⟩
 have DO:C.1.types.length<=q.1.types.length+4∧C.1.code.length<=q.1.code.length+4∧C.2.1<1000∧C.1.count<=q.1.count+1∧C.1.bP.length<=q.1.bP.length+1:=by rw[hC];exact Xj rC om
 obtain⟨Ctl,Ccl,C2,_,_⟩:=DO
 rw[<-hC]
 obtain⟨rc,Ix⟩:∃r,r=C.1.types.length:=⟨_,rfl⟩
 obtain⟨me,DP⟩:∃z,z=sO C.1 p.2:=⟨_,rfl⟩
 have PL:me.types.length=C.1.types.length+3∧me.code.length=C.1.code.length+3:=by rw[DP];exact Xk _ _
 obtain⟨met,mec⟩:=PL
 obtain⟨r,o4⟩:∃r,r=me.types.length:=⟨_,rfl⟩
 obtain⟨c,eR⟩:∃c,c=me.code.length:=⟨_,rfl⟩
 have t0:me.types.length=r:=o4.symm
 have c0:me.code.length=c:=eR.symm
 have akO:yq C.1 p.2 q.2 C.2.1=(((me.cM nR [[48],aZ (rc+2)]).cM nR [[49],aZ q.2]).cM nR [[50],aZ C.2.1]).cM AJ [aZ (rc+1)]:=by rw[DP,Ix];rfl
 rw[akO]
 have Pd:(Ex.bi kn f x).au.ai.length=3:=rfl
 obtain⟨b1,eh,gT,gU,e1,bM,_⟩:=fm aQ (i:=1) om
 cases e1
 have bM:fM L w _ _ [str f.au.av,.slice gT f.au.ai.length gU]:=bM
 rw[Ex.ru] at bM
 obtain⟨b2,kY,iQ,iR,e2,bZ,_⟩:=fm aQ (i:=2) om
 cases e2
 have bZ:fM L w _ _ [str x.au.av,.slice iQ x.au.ai.length iR]:=bZ
 rw[Ex.ru] at bZ
 refine cj [] 67 Tryz.func187 rfl acL rfl rfl ?_
 refine zr<|ey rfl λw1 aI cL di=>bL aI aw hR λaw hR=>?_
 refine ey rfl λw2 az dj dK=>cO az aw hR cL λaw hR cL=>?_
 refine W ?_
 have cL:dW L w2 w.heap.size [str (Ex.bi kn f x).au.av,.slice (some ⟨b1,eh,none⟩) (Ex.bi kn f x).au.ai.length cr].toArray 74:=⟨cL,λhx=>by have:=lU _ hx;omega⟩
 have dj:dW L w2 w1.heap.size [str rest.au.av,.slice a9 rest.au.ai.length c9].toArray 74:=⟨dj,λhx=>by have:=lU _ hx;omega⟩
 refine aA (KU t (Ex.bi kn f x) bj hn hs.types om _ L bt w2 aw.dB (hR.tk hT er) (gP.go hR.fr)) ?_
 rintro v3 w3 ⟨ka,aH⟩
 have eM:=aH.size
 refine gH aH aw hR cL dj λaw hR cL dj=>?_
 have eu:=ka
 rw[fh] at eu
 subst eu
 refine WI ?_
 refine zi (i:=1) cw aK rfl rfl ((show 1<3 from om))<|zL eK aK rfl ((bM.go hR.fr).cells) rfl<|aA (Dy t f.av m om om om nV E L b bt _ _ _ w3 aw (hR.tk hT er) er) ?_
 rintro v20 w4 ⟨pH,L1,aw,bI⟩
 rw[<-hp] at pH aw
 subst pH
 have hR:=hR.go bI;have cL:=cL.go bI.fr;have dj:=dj.go bI.fr
 refine WI ?_
 refine zi (i:=2) cw aK rfl rfl ((show 2<3 from om))<|zL eK aK rfl ((bZ.go hR.fr).cells) rfl<|aA (Dy t x.av p.1 om om om nV E L1 b bt _ _ _ w4 aw (hR.tk hT er) er) ?_
 rintro v20 w5 ⟨pH,L2,aw,bI⟩
 rw[<-hq] at pH aw
 subst pH
 have hR:=hR.go bI;have dj:=dj.go bI.fr
 refine W ?_
 refine iS (λ_:Unit=>[(0,.pointer (some ⟨b,0,none⟩)),(1,.pointer (some ⟨bt,0,none⟩)),(11,.int .i64 (p.2:Int)),(12,.int .i64 (q.2:Int))]) (λ_ ww=>∃L3,dN t8 E L3 ww b true C.1∧ig L3 ww 166 bt {t with on:=C.2.1,bc:=C.2.2}∧Fr L w L3 ww) ?_ ?_
 refine zc rfl (λh1=>?_) (λh1=>?_)
 have gk:name≠[]:=(by simpa using h1)
 have aY:=PK gk
 obtain⟨g1,g2,g3,g4⟩:=aY
 have DQ:eU q.1 t.sc t.on t.bc name K rest=tZ q.1 t.sc t.on t.bc name K rest:=(by unfold eU;rw[iP gk])
 rw[DQ] at hC
 refine W ?_
 refine aA (W3 t q.1 name K rest g1 g2 g3 g4 hs nV dC rC kK om om om (by rw[qtk,ptk];omega) E L2 b bt _ w5 aw (hR.tk hT er) er (oU.go hR.fr)) ?_
 rintro v39 w6 ⟨L3,aw,ew,zK,_⟩
 rw[<-hC] at aw ew
 have hF:=hR.fr.go zK
 refine W ?_
 exact⟨(),⟨rfl,rfl,rfl,rfl⟩,L3,aw,ew,hF⟩
 have gk:¬name≠[]:=(by simpa using h1)
 have DQ:eU q.1 t.sc t.on t.bc name K rest=(q.1,t.on,t.bc):=(by unfold eU;rw[iN gk])
 rw[DQ] at hC
 subst hC
 refine WZ ?_
 exact⟨(),⟨rfl,rfl,rfl,rfl⟩,L2,aw,hR.tk hT er,hR.fr⟩
 intro gu w6 e6 hI
 obtain⟨L3,aw,ew,zK⟩:=hI
 have hR:=ei.refl E L3 w6
 refine zr<|zm<|zm<|aA (Wx C.1 p.2 om om om E L3 b w6 aw) ?_
 rintro Xl w7 ⟨EW,L0,aw,bI⟩
 rw[<-DP] at aw
 rw[<-Ix] at EW
 subst EW
 have hR:=hR.go bI
 have dk:=aw.dB
 refine W ?_
 refine lg bo bm rfl rfl rfl rfl λw8 aU DJ kV=>bL aU aw hR λaw hR=>?_
 refine aA (k9 nR [[48],aZ (rc+2)] (mF de sm (by intro z hz;simp at hz;rcases hz with rfl|rfl;(·decide);(·exact mf om))) me om E L0 b _ w8 aw (aL.dS [[48],aZ (rc+2)] DJ (λhx=>by have:=dk _ hx;omega))) ?_
 rintro jN w9 ⟨L1,aw,bI⟩
 have hR:=hR.go bI
 clear DJ
 have iF:∃x,x=me.cM nR [[48],aZ (rc+2)]:=⟨_,rfl⟩
 obtain⟨m1,lQ⟩:=iF
 rw[<-lQ] at aw
 have t1:m1.types.length=r+0:=(by rw[lQ,oR];omega)
 have c1:m1.code.length=c+1:=(by rw[lQ,pG];omega)
 have dk:=aw.dB
 refine W ?_
 refine aA (iI (q.2+1) q.2 om om w9) ?_
 rintro _ cB ⟨rfl,cA⟩
 have zn:=cA.size
 refine bL cA aw hR λaw hR=>?_
 have dk:=aw.dB
 refine lg bo bm rfl rfl rfl rfl λeC dh Xm uh=>bL dh aw hR λaw hR=>?_
 refine aA (k9 nR [[49],aZ q.2] (mF de sm (by intro z hz;simp at hz;rcases hz with rfl|rfl;(·decide);(·exact mf om))) m1 om E L1 b _ eC aw (aL.dS [[49],aZ q.2] Xm (λhx=>by have:=dk _ hx;omega))) ?_
 rintro jN fI ⟨L2,aw,bI⟩
 have hR:=hR.go bI
 clear Xm
 have eA:∃x,x=m1.cM nR [[49],aZ q.2]:=⟨_,rfl⟩
 obtain⟨m2,lS⟩:=eA
 rw[<-lS] at aw
 have t2:m2.types.length=r+0:=(by rw[lS,oR];omega)
 have c2:m2.code.length=c+2:=(by rw[lS,pG];omega)
 have dk:=aw.dB
 have aY:=hR.tk ew er
 obtain⟨u1,u3,u4,u5,u6,u8,dx,il⟩:=aY
 have dx:aL fI bt [str t.aM,u1,.int .i64 (t.loads:Int),u3,u4,u5,u6,str t.expr.au.av,u8,.int .i64 (C.2.1:Int),str C.2.2,.int .i64 (t.next:Int)].toArray 166:=dx
 refine W ?_
 refine aA (iI (C.2.1+1) C.2.1 om om fI) ?_
 rintro _ jE ⟨rfl,gB⟩
 have H3:=gB.size
 refine bL gB aw hR λaw hR=>?_
 have dk:=aw.dB
 refine lg bo bm rfl rfl rfl rfl λeI bS Ld Dv=>bL bS aw hR λaw hR=>?_
 refine aA (k9 nR [[50],aZ C.2.1] (mF de sm (by intro z hz;simp at hz;rcases hz with rfl|rfl;(·decide);(·exact mf om))) m2 om E L2 b _ eI aw (aL.dS [[50],aZ C.2.1] Ld (λhx=>by have:=dk _ hx;omega))) ?_
 rintro jN oo ⟨L3,aw,bI⟩
 have hR:=hR.go bI
 clear Ld
 have zC:∃x,x=m2.cM nR [[50],aZ C.2.1]:=⟨_,rfl⟩
 obtain⟨m3,lT⟩:=zC
 rw[<-lT] at aw
 have t3:m3.types.length=r+0:=(by rw[lT,oR];omega)
 have c3:m3.code.length=c+3:=(by rw[lT,pG];omega)
 have dk:=aw.dB
 refine W ?_
 refine fo bo bm rfl rfl λlP nq Xn HJ=>bL nq aw hR λaw hR=>?_
 refine aA (k9 AJ [aZ (rc+1)] (mF de sm (by intro z hz;simp at hz;subst hz;exact mf om)) m3 om E L3 b _ lP aw (aL.dS [aZ (rc+1)] Xn (λhx=>by have:=dk _ hx;omega))) ?_
 rintro jN Dw ⟨L4,aw,bI⟩
 have hR:=hR.go bI
 clear Xn
 have DD:∃x,x=m3.cM AJ [aZ (rc+1)]:=⟨_,rfl⟩
 obtain⟨m4,oW⟩:=DD
 rw[<-oW] at aw
 have t4:m4.types.length=r+0:=(by rw[oW,oR];omega)
 have c4:m4.code.length=c+4:=(by rw[oW,pG];omega)
 have dk:=aw.dB
 refine W ?_
 subst oW lT lS lQ
 exact⟨_,rfl,_,aw,⟨_,hR.tk ew er,rfl,rfl⟩,zK.go hR.fr⟩
/-! ### Cells of one block that are written -/
def KW (b:Nat) (T:TypeId) (ws:List (Nat×Value)) (w w':World):Prop:=ak [b] w w'∧∀cs,aL w b cs T->∃cs',aL w' b cs' T∧cs'.size=cs.size∧∀j:Nat,cs'[j]?=cs[j]?∨∃v,(j,v)∈ws∧cs'[j]?=some v
theorem akQ {cs:Array Value} (h:k+vs.length<=cs.size) (j:Nat):(setAt cs k vs)[j]?=if k<=j∧j<k+vs.length then vs[j-k]? else cs[j]?:=by
 rw[<-Array.getElem?_toList,JO _ _ _ h,List.getElem?_append,List.getElem?_append,List.getElem?_take,List.getElem?_drop,List.length_take,Array.length_toList,Nat.min_eq_left om]
 by_cases h1:j<k
 ·rw[iP h1,iP h1,iN om];simp
 ·rw[iN h1]
  by_cases h2:j<k+vs.length
  ·rw[iP om,iP ⟨by omega,h2⟩]
  ·rw[iN om,iN om]
   have:k+vs.length+(j-k-vs.length)=j:=by omega
   rw[this];simp
def rowAt (o:Nat):List Value->List (Nat×Value)
 |[]=>[]
 |v::vs=>(o,v)::rowAt (o+1) vs
theorem akR:∀{vs:List Value} {o j:Nat} {v:Value},(j,v)∈rowAt o vs↔o<=j∧vs[j-o]?=some v:=by intro x;induction x<;>grind [rowAt]
section
variable {P:Program} {n:Nat} {ops:Array Oper} {K:Env->World->Prop} {rest:List Oper} {e:Env} {w:World}
 {dst:Option Nat} {ty:TypeId} {pos:String} {after:Array Edge} {g:Option (Nat×Bool)} {x y:Operand}
theorem akS {T U bytes:Nat} {z v:Value} {vs:List Value} {o:Nat} {cs:Array Value} (jX:TI P T sz bytes z) (hg:gate ops e g=true) (hx:ev e x= .pointer (some ⟨b,o,none⟩)) (hy:ev e y=v) (hv:v.cells=vs.toArray) (hl:Nat.beq vs.length sz=true) (h1:vs.all Value.oneCell'=true) 
  (hb:aL w b cs U) (ho:o+vs.length<=cs.size)
  (k:∀w',ak [b] w w'->aL w' b (setAt cs o vs) U->KW b U (rowAt o vs) w w'->w'.heap.size=w.heap.size->OW P n ops K rest e w'):
  OW P n ops K (⟨none,.store T x y,ty,pos,after,g⟩::rest) e w:=by
 have gj:vs.length=sz:=Nat.eq_of_beq_eq_true hl
 obtain⟨w',jG,hk,gC,hz⟩:=Nv (P:=P) vs 0 w b o U cs hb om (λu hu=>List.all_eq_true.1 h1 u hu)
 rw[Nat.add_zero] at gC
 refine IT hg (w':=w') (by
  simp[execOp,Instr.storeAt,Instr.sureAddr,hx,hy,storeVar,hv,jX.tL,gj,jG]) (k w' hk gC ⟨hk,λcs2 h2=>?_⟩ hz)
 have e:cs2=cs:=by
  unfold aL at h2 hb
  rw[h2] at hb
  injection hb with h;injection h
 subst e
 refine⟨_,gC,Nu _ _ _,λj=>?_⟩
 rw[akQ ho]
 split
 ·rename_i h
  obtain⟨v,hv⟩:∃v,vs[j-o]?=some v:=⟨vs[j-o]'om,gE om⟩
  exact .inr ⟨v,akR.2 ⟨h.1,hv⟩,hv⟩
 ·exact .inl rfl
end
section
variable {P:Program} {n:Nat} {ops:Array Oper} {K:Env->World->Prop} {rest:List Oper} {e:Env} {w:World}
 {dst:Option Nat} {ty:TypeId} {pos:String} {after:Array Edge} {g:Option (Nat×Bool)} {x y:Operand}
end
theorem Xo (xs:List aj):∀row,row∈gL xs->∀c,c∈row->∀v,c= .val v->v.oneCell'=true:=by
 intro row hr c hc v hv
 obtain⟨n,_,rfl⟩:=List.mem_map.1 hr
 simp at hc;subst hc;cases hv;rfl
theorem ei.iy (k:ei E L w L1 w1) {cs:Array Value} {T:TypeId} (h:aL w b cs T) (hb:b∈E):aL w1 b cs T:=let⟨_,kg,hG⟩:=k.out;h.aG kg λhx=>hG b hx hb
def rb (bt:Nat) (E:List Nat) (w w':World):Prop:=∃G,ak G w w'∧∀z,z∈G->z∈E->z=bt
theorem ei.ft (k:ei E L w L1 w1) (bt:Nat):rb bt E w w1:=let⟨G,kg,hG⟩:=k.out;⟨G,kg,λz hz sw=>absurd sw (hG z hz)⟩
theorem rb.trans {bt:Nat} {w2:World} (h:rb bt E w w1) (k:rb bt E w1 w2):rb bt E w w2:=let⟨G,kg,hG⟩:=h;let⟨G2,kg2,zh⟩:=k;⟨G++G2,(kg.mono λx hx=>List.mem_append_left _ hx).trans (kg2.mono λx hx=>mR _ hx),λz hz sw=>(mA.1 hz).elim (λh=>hG z h sw) (λh=>zh z h sw)⟩
theorem rb.sub {bt x:Nat} (h:rb bt (x::E) w w1):rb bt E w w1:=let⟨G,kg,hG⟩:=h;⟨G,kg,λz hz sw=>hG z hz (mK _ sw)⟩
theorem rb.of {bt:Nat} (k:ak G w w1) (hG:∀z,z∈G->z∈E->z=bt):rb bt E w w1:=⟨G,k,hG⟩
theorem rb.iy {bt:Nat} (k:rb bt E w w1) {cs:Array Value} {T:TypeId} (h:aL w b cs T) (hb:b∈E) (hn:b≠bt):aL w1 b cs T:=let⟨_,kg,hG⟩:=k;h.aG kg λhx=>hn (hG b hx hb)
theorem akV (t:Tk) (m:Mk) (c xa y:Ex) (name:aj) (rest:Ex) (K:Ty) (bj:(Ex.ite c xa y).ok) (hn:(Ex.ite c xa y).n<=1000) (fh:bD (.ite c xa y) (eP t.sc)=some K) (hs:j9 t.sc) (nV:t.sc.length<=9000) (rC:t.on<1000) (kK:t.bc.length<=272) (PK:name≠[]->PJ t.sc name rest) (ht:m.types.length+9<1000) (hc:m.code.length<=7000) (xM:m.count+1<1000) (fP:m.bP.length<90000) 
  (E L:List Nat) (b bt:Nat) (v vr:Value) (w:World) (h:dN t8 E L w b true m) (hT:ig L w 166 bt t) (er:bt∈E) (hv:bh L w v (Ex.ite c xa y).au) (oU:bh L w vr rest.au):
  bC Tryz.prog 188 [.pointer (some ⟨b,0,none⟩),.pointer (some ⟨bt,0,none⟩),v,str name,vr] w λr w'=>∃L',bh L' w' r y.au∧dN t8 E L' w' b true (Ht (eU (cv m t.sc c.av).1 t.sc t.on t.bc name K rest).1 t.sc (eU (cv m t.sc c.av).1 t.sc t.on t.bc name K rest).2.1 (eU (cv m t.sc c.av).1 t.sc t.on t.bc name K rest).2.2 (cv m t.sc c.av).2 xa)∧ig L' w' 166 bt {t with on:=(eU (cv m t.sc c.av).1 t.sc t.on t.bc name K rest).2.1,bc:=(eU (cv m t.sc c.av).1 t.sc t.on t.bc name K rest).2.2}∧Fr L w L' w'∧rb bt E w w':=by
 obtain⟨ar,nr,cr,rfl,qv,aQ⟩:=cS hv
 subst qv
 obtain⟨a9,n9,c9,rfl,BF,_⟩:=cS oU
 subst BF
 have lU:=h.dB
 have dC:=lX hs.types fh
 have aw:=h
 have hR:=ei.refl E L w
 have gP:bh L w _ (Ex.ite c xa y).au:=hv
 have ot:=oL bj.1
 obtain⟨p,hp⟩:∃p,p=cv m t.sc c.av:=⟨_,rfl⟩
 have zI:p.1.types.length<=m.types.length+1∧p.1.code.length<=m.code.length+1∧p.1.count=m.count∧p.1.bP=m.bP∧p.2<1000:=by rw[hp];exact Iw hs om
 obtain⟨ptl,pcl,pcn,ptk,p2⟩:=zI
 rw[<-hp]
 obtain⟨C,hC⟩:∃C,C=eU p.1 t.sc t.on t.bc name K rest:=⟨_,rfl⟩
 have DO:C.1.types.length<=p.1.types.length+4∧C.1.code.length<=p.1.code.length+4∧C.2.1<1000∧C.1.count<=p.1.count+1∧C.1.bP.length<=p.1.bP.length+1:=by rw[hC];exact Xj rC om
 obtain⟨Ctl,Ccl,C2,Ccn,Ctk⟩:=DO
 rw[ptk] at Ctk
 rw[<-hC]
 have hCn:C.1.count<1000:=by omega
 have BP:=Br hCn
 obtain⟨m1,rG⟩:∃z,z=C.1.lI.cM GI [aZ p.2,C.1.aM]:=⟨_,rfl⟩
 have akX:m1.types=C.1.types:=by rw[rG];rfl
 have akY:m1.bP=C.1.bP:=by rw[rG];rfl
 have hif:Ht C.1 t.sc C.2.1 C.2.2 p.2 xa={m1 with bP:=m1.bP++[⟨C.1.aM,m1.types,0,[],t.sc,xa,C.2.1,C.2.2,m1.types.length⟩]}:=by rw[rG];rfl
 rw[hif]
 have Kp:(Ex.ite c xa y).au.ai.length=4:=rfl
 obtain⟨b1,eh,gT,gU,e1,bM,_⟩:=fm aQ (i:=1) om
 cases e1
 have bM:fM L w _ _ [str c.au.av,.slice gT c.au.ai.length gU]:=bM
 rw[Ex.ru] at bM
 obtain⟨b2,kY,iQ,iR,e2,bZ,dQ⟩:=fm aQ (i:=2) om
 cases e2
 have bZ:fM L w _ _ [str xa.au.av,.slice iQ xa.au.ai.length iR]:=bZ
 have dQ:bh L w (.agg #[str xa.au.av,.slice iQ xa.au.ai.length iR]) xa.au:=dQ
 obtain⟨b3,xe,pz,pA,e3,dP,ew⟩:=fm aQ (i:=3) om
 cases e3
 have dP:fM L w _ _ [str y.au.av,.slice pz y.au.ai.length pA]:=dP
 have ew:bh L w (.agg #[str y.au.av,.slice pz y.au.ai.length pA]) y.au:=ew
 refine j1 [.cell 10 74] 81 Tryz.func188 rfl acM rfl rfl rfl ?_
 refine zr<|ey rfl λw1 aI cL di=>bL aI aw hR λaw hR=>?_
 refine ey rfl λw2 az dj dK=>cO az aw hR cL λaw hR cL=>?_
 refine da aK rfl rfl rfl λw3 aH kD CP=>bL aH cL dj λcL dj=>?_
 have aw:=aw.tx aH sm (lR _) kD.lt
 have qu:=(ei.refl E L w2).more aH sm (lR _) (λz hz=>by have:=lU z (h.sub hz);omega)
 have Iy:Fr L w (w2.heap.size::L) w3:=hR.fr.go qu.fr
 have Xp:=(hR.ext aH).ft bt
 have hT:=(hR.tk hT er)
 have hT:=qu.tk hT er
 have hR:=ei.refl (w2.heap.size::E) (w2.heap.size::L) w3
 have rM:bt∈w2.heap.size::E:=mK _ er
 have Fz:w2.heap.size∈w2.heap.size::E:=List.mem_cons_self ..
 have PM:=kD
 refine W ?_
 have Lf:∀z,z∈w2.heap.size::L->z=w2.heap.size∨z<w.heap.size:=(λz hz=>(mC.1 hz).imp id (lU z))
 have cL:dW (w2.heap.size::L) w3 w.heap.size [str (Ex.ite c xa y).au.av,.slice (some ⟨b1,eh,none⟩) (Ex.ite c xa y).au.ai.length cr].toArray 74:=⟨cL,λhx=>by have:=Lf _ hx;omega⟩
 have dj:dW (w2.heap.size::L) w3 w1.heap.size [str rest.au.av,.slice a9 rest.au.ai.length c9].toArray 74:=⟨dj,λhx=>by have:=Lf _ hx;omega⟩
 have gV:aL w3 w2.heap.size [str [],.slice none 0 0].toArray 74:=PM
 refine aA (KU t (Ex.ite c xa y) bj hn hs.types om _ _ bt w3 aw.dB (hR.tk hT rM) (gP.go (Iy.go hR.fr))) ?_
 rintro v4 w4 ⟨kF,aN⟩
 have fg:=aN.size
 refine gH aN aw hR cL dj λaw hR cL dj=>?_
 have eu:=kF
 rw[fh] at eu
 subst eu
 refine WI ?_
 refine zi (i:=1) cw aK rfl rfl ((show 1<4 from om))<|zL eK aK rfl ((bM.go (Iy.go hR.fr)).cells) rfl<|aA (Dy t c.av m om om om nV (w2.heap.size::E) _ b bt _ _ _ w4 aw (hR.tk hT rM) rM) ?_
 rintro v20 w5 ⟨pH,L1,aw,bI⟩
 rw[<-hp] at pH aw
 subst pH
 have hR:=hR.go bI;have cL:=cL.go bI.fr;have dj:=dj.go bI.fr
 have gV:=hR.iy gV Fz
 refine W ?_
 refine iS (λ_:Unit=>[(0,.pointer (some ⟨b,0,none⟩)),(1,.pointer (some ⟨bt,0,none⟩)),(7,.pointer (some ⟨w.heap.size,0,none⟩)),(10,.pointer (some ⟨w2.heap.size,0,none⟩)),(12,.int .i64 (p.2:Int))]) (λ_ ww=>∃L3,dN t8 (w2.heap.size::E) L3 ww b true C.1∧ig L3 ww 166 bt {t with on:=C.2.1,bc:=C.2.2}∧Fr L w L3 ww∧Fr L1 w5 L3 ww∧aL ww w2.heap.size [str [],.slice none 0 0].toArray 74∧rb bt E w ww) ?_ ?_
 refine zc rfl (λh1=>?_) (λh1=>?_)
 have gk:name≠[]:=(by simpa using h1)
 have aY:=PK gk
 obtain⟨g1,g2,g3,g4⟩:=aY
 have DQ:eU p.1 t.sc t.on t.bc name K rest=tZ p.1 t.sc t.on t.bc name K rest:=(by unfold eU;rw[iP gk])
 rw[DQ] at hC
 have dY:w2.heap.size≠bt:=(λe9=>by have:=lU bt (h.sub er);omega)
 refine W ?_
 refine aA (W3 t p.1 name K rest g1 g2 g3 g4 hs nV dC rC kK om om om (by rw[ptk];omega) (w2.heap.size::E) L1 b bt _ w5 aw (hR.tk hT rM) rM (oU.go (Iy.go hR.fr))) ?_
 rintro v39 w6 ⟨L3,aw,Xq,zK,G9,aC,FB⟩
 rw[<-hC] at aw Xq
 have hF:=(Iy.go hR.fr).go zK
 have gV:=(hR.iy PM Fz).aG aC (λhx=>dY (FB _ hx Fz))
 have hOq:=(Xp.trans (hR.ft bt).sub).trans (rb.of aC (λz hz sw=>FB z hz (mK _ sw)))
 refine W ?_
 exact⟨(),⟨rfl,rfl,rfl,rfl,rfl⟩,L3,aw,Xq,hF,zK,gV,hOq⟩
 have gk:¬name≠[]:=(by simpa using h1)
 have DQ:eU p.1 t.sc t.on t.bc name K rest=(p.1,t.on,t.bc):=(by unfold eU;rw[iN gk])
 rw[DQ] at hC
 subst hC
 refine WZ ?_
 exact⟨(),⟨rfl,rfl,rfl,rfl,rfl⟩,L1,aw,hR.tk hT rM,Iy.go hR.fr,Fr.refl _ _,hR.iy PM Fz,Xp.trans (hR.ft bt).sub⟩
 intro gu w6 e6 hI
 obtain⟨L3,aw,dG,zK,hF9,gV,hOc⟩:=hI
 have hR:=ei.refl (w2.heap.size::E) L3 w6
 have Xr:=cL.go hF9
 have ak3:=gV
 refine zr<|zm<|aA (Pe C.1 om (w2.heap.size::E) L3 b true w6 aw) ?_
 rintro v34 w7 ⟨⟨e34,aw⟩,ak5⟩
 subst e34
 have ak6:=aw.mem.1 b sm
 have nY:=aw.mem.2.2.1
 have hR:=hR.aD ak5 ak6 nY
 refine W ?_
 refine aA (iI (p.2+1) p.2 om om w7) ?_
 rintro _ w8 ⟨rfl,aU⟩
 have oK:=aU.size
 refine bL aU aw hR λaw hR=>?_
 have dk:=aw.dB
 refine zm<|lg bo bm rfl rfl rfl rfl λw9 aC yY dv=>bL aC aw hR λaw hR=>?_
 refine aA (k9 GI [aZ p.2,C.1.aM] (mF de sm (by intro z hz;simp at hz;rcases hz with rfl|rfl;(·exact mf om);(·omega))) C.1.lI (show C.1.code.length<100000 from om) (w2.heap.size::E) L3 b _ w9 aw (aL.dS [aZ p.2,C.1.aM] yY (λhx=>by have:=dk _ hx;omega))) ?_
 rintro v40 cB ⟨L4,aw,bI⟩
 rw[<-rG] at aw
 have hR:=hR.go bI
 clear yY
 have ke:=hR.tk dG rM
 obtain⟨u1,u3,u4,u5,u6,u8,dx,il⟩:=ke
 have dk:=aw.dB
 have uF:=hR
 have mc:=aw
 refine W ?_
 refine da mS rfl rfl rfl λeC dh fN Dv=>?_
 have kh:=dh
 refine cu mS rfl rfl il.one fN rfl λfI dw fN dv=>?_
 have kh:=kh.since dw (λx hx=>.inr (by simp at hx;omega))
 refine W ?_
 refine gF (o:=0) bm rfl rfl rfl fN rfl λjE gB fN dv=>?_
 have kh:=kh.since gB (λx hx=>.inr (by simp at hx;omega))
 have qU:=mc.ext kh
 have hwq:=kh.size
 have aY:=qU.open
 obtain⟨Lg,vt9,vc9,vy9,gb9,gt9,gc9,gy9,Dn,BD⟩:=aY
 have aY:=j8 BD.ty
 obtain⟨ay9,HZ,ey9⟩:=aY
 subst ey9
 have hbz:=fN.lt
 have PN:=jE
 refine aV<|zr<|tQ jE.heap.size [] bo bm rfl rfl (lR _) sm λeI bS Ko xo=>bL bS fN kh λfN kh=>?_
 have rL:=bS
 have Dn:=Dn.ext bS
 refine W ?_
 refine xd bo bm rfl rfl rfl rfl rfl rfl xo (((BD.ty.ext rL).rep (L:=[jE.heap.size]) (λx hx mJ=>by have:=BD.ty.lt x (by simp[hx]);simp at mJ;omega)).fresh (λx hx=>.inl (by simpa using hx))) (Xo _) (by rw[qA,akX];simp;omega) λa4 fT g4 oo kJ iA=>?_
 rw[List.nil_append] at kJ
 have kh:=kh.since iA (λx hx=>.inr (by simp at hx;omega))
 have fN:=fN.aG iA so
 have ll:=kJ.vh
 have je:=kJ.low
 refine zf SP rfl<|gF (o:=1) mT rfl rfl rfl fN rfl λlP nq fN dv=>?_
 have kh:=kh.since nq (λx hx=>.inr (by simp at hx;omega))
 have ll:=ll.aG nq (λz hz dK=>by have:=je z hz;simp at dK;omega)
 refine W ?_
 refine gF (o:=2) sJ rfl rfl rfl fN rfl λDw zv fN dv=>?_
 have kh:=kh.since zv (λx hx=>.inr (by simp at hx;omega))
 have ll:=ll.aG zv (λz hz dK=>by have:=je z hz;simp at dK;omega)
 have xg:=fN.lt
 refine aV<|zr<|gA bo bm λxK DE DR ak8=>cO DE fN kh ll λfN kh ll=>?_
 refine zf Jo rfl<|gF (o:=3) mT rfl rfl rfl fN rfl λDF BM fN dv=>?_
 have kh:=kh.since BM (λx hx=>.inr (by simp at hx;omega))
 have ll:=ll.aG BM (λz hz dK=>by have:=je z hz;simp at dK;omega)
 have DR:=DR.aG BM so
 have cL:=(Xr.go uF.fr).ext kh
 have Xs:=zK.go uF.fr
 refine WI ?_
 refine zi (i:=2) cw aK rfl rfl ((show 2<4 from om))<|zL eK aK rfl (((bZ.go Xs).ext kh).cells) rfl<|zf SQ rfl<|akS (vs:=[str xa.au.av,.slice iQ xa.au.ai.length iR]) aK rfl rfl rfl rfl rfl rfl fN (Nat.le_of_ble_eq_true rfl) λvZ xP fN ars dv=>?_
 have kh:=kh.since xP (λx hx=>.inr (by simp at hx;omega))
 have ll:=ll.aG xP (λz hz dK=>by have:=je z hz;simp at dK;omega)
 have DR:=DR.aG xP so
 have qU:=mc.ext kh
 have aY:=qU.open
 obtain⟨vb8,vt8,vc8,vy8,gb8,gt8,gc8,gy8,arB,hS8⟩:=aY
 have aY:=j8 hS8.ty
 obtain⟨ay8,cy8,ey8⟩:=aY
 subst ey8
 refine W ?_
 refine gF (o:=11) sJ rfl rfl rfl fN rfl λrJ xL fN dv=>?_
 have kh:=kh.since xL (λx hx=>.inr (by simp at hx;omega))
 have ll:=ll.aG xL (λz hz dK=>by have:=je z hz;simp at dK;omega)
 have DR:=DR.aG xL so
 have aw:=mc.tx kh sm (lR _) fN.lt
 have xQ:Fr L4 cB (cB.heap.size::L4) rJ:=((ei.refl [] L4 cB).more kh sm (lR _) sm).fr
 have hR:=uF.more kh sm (lR _) (λz hz=>dk z (mc.sub hz))
 have Xt:∀z,z∈cB.heap.size::L4->z<=cB.heap.size:=(λz hz=>by rcases mC.1 hz with h9|h9;(·omega);(·have:=dk z h9;omega))
 have DS:cX (cB.heap.size::L4) rJ (.slice iQ xa.au.ai.length iR) xa.au.ai:=(by have dv:=cS (dQ.go (Xs.go xQ));obtain⟨_,_,_,e9,_,zI⟩:=dv;cases e9;exact zI)
 have fY:ig (cB.heap.size::L4) rJ 166 cB.heap.size (Tk.mk C.1.aM m1.types 0 [] t.sc xa C.2.1 C.2.2 m1.types.length):=⟨_,_,_,_,_,_,fN,⟨ll.rep (λz hz Iz=>by have:=je z hz;have:=Xt z Iz;omega),DR.lh.rep (λz hz Iz=>by have:=Xt z Iz;simp at hz;omega),il.aP.go xQ,il.at_.go xQ,il.types.go xQ,DS⟩⟩
 have KX:m1.bP.length<100000:=(by rw[akY];omega)
 have aY:=aw.open
 obtain⟨vb,vt,vc,vy,gb,gt,gc,gy,xF,hS⟩:=aY
 have aY:=hS.apart
 obtain⟨zu,nJ,vW,mE,vX,uC⟩:=aY
 obtain⟨u1,u3,u4,u5,u6,u8,Io,tE⟩:=fY
 have bu:dW gt.toList rJ b [vb,vt,.int .i64 ((m1).count:Int),.bool (m1).wide,vc,vy].toArray 164:=⟨xF,λhx=>(mE b hx).2.1 rfl⟩
 have fN:dW gt.toList rJ cB.heap.size (p4 (Tk.mk C.1.aM m1.types 0 [] t.sc xa C.2.1 C.2.2 m1.types.length) u1 u3 u4 u5 u6 u8).toArray 166:=⟨Io,λhx=>(mE cB.heap.size hx).1 sm⟩
 have qj:eZ gt.toList rJ:=(λx hx=>hS.cN x (hS.mem.2 (by simp[hx])))
 have BT:∀x,x∈gt.toList->x∈(cB.heap.size::L4):=(λx hx=>hS.mem.2 (by simp[hx]))
 refine W ?_
 apply jQ du gt.toList 8 (rA 67 8) (rA 67 8) [[],[],[1],[2],[3],[],[5],[4,6]] [Ie.v _,Ie.v _,Ie.v _,Ie.v _,Ie.v _,Ie.v _,Ie.p (fun(G:List Nat) (v:Value) (ww:World)=>∃bb,v= .slice (some ⟨bb,0,none⟩) 1 1∧dW G ww bb (p4 (Tk.mk C.1.aM m1.types 0 [] t.sc xa C.2.1 C.2.2 m1.types.length) u1 u3 u4 u5 u6 u8).toArray 166),Ie.e 0] [7] [fun(G:List Nat) (vs:List Value) (ww:World)=>G=gt.toList∧ak [] rJ ww,fun(G:List Nat) (vs:List Value) (ww:World)=>∃g2,dO (gt.toList++(g2.toList++(cB.heap.size::L4))) ww 166 12 (vs.getD 0 undef) g2 (((m1).bP++[(Tk.mk C.1.aM m1.types 0 [] t.sc xa C.2.1 C.2.2 m1.types.length)]).map Tk.enc)∧ak gt.toList rJ ww∧(g2=gt∨∃x,g2=some x∧rJ.heap.size<=x)] de rfl qj (by exact⟨λG v w G' w' ⟨bb,e,h⟩ k=>⟨bb,e,h.go k⟩,trivial⟩) (by exact⟨λG vs w w' ⟨h1,h2⟩ k=>⟨h1,h2.ext k⟩,λG vs w w' ⟨g2,h1,h2,h3⟩ k=>⟨g2,h1.ext k,h2.ext k,h3⟩,trivial⟩) (⟨rfl,ak.refl _ _⟩)
 refine FA ?_
 refine vf (λx K0 G22 aX BQ Xu=>?_) ?_
 refine rz [_] [p4 (Tk.mk C.1.aM m1.types 0 [] t.sc xa C.2.1 C.2.2 m1.types.length) u1 u3 u4 u5 u6 u8] Az mS rfl rfl rfl rfl rfl rfl rfl rfl rfl λWO K1 Oy W5=>?_
 exact ff K1 (⟨_,rfl,Oy.o Xu⟩)
 refine ve 0 (λx K0 G22 aX BQ Xu hJ hlen=>?_) ?_
 have ba:=jv hlen
 subst ba
 intro v6 d6
 obtain⟨bb,e6,fX⟩:=d6
 subst e6
 obtain⟨bX,cg⟩:=hJ
 subst bX
 have yK:=(hS.ta.any cg).sub (L':=gt.toList++(cB.heap.size::L4)) (λx hx=>.inl (by rcases mA.1 hx with h|h;(·exact BT x h);(·exact h)))
 have BV:=tE.ext cg
 refine CZ (L:=(cB.heap.size::L4)) (row:=Tk.enc (Tk.mk C.1.aM m1.types 0 [] t.sc xa C.2.1 C.2.2 m1.types.length)) Az mS rfl rfl rfl rfl rfl rfl yK rfl fX.all (λu hu=>List.all_eq_true.1 BV.one u hu) (BV.go ((Fr.refl _ _).to (L2:=gt.toList++(cB.heap.size::L4)) (λx hx=>.inl (by rcases mA.1 hx with h|h;(·exact BT x h);(·exact h))))).yh (by rw[List.length_map];omega) λv9 g9 WO dm uG fx=>?_
 exact fe g9.toList (⟨uG.aG,λx hx=>by rcases fx with h|h;(·rw[h] at hx;exact .inl hx);(·rw[h] at hx;simp at hx;right;omega)⟩) ((λx hx=>dm.lt x hx)) (⟨g9,by rw[List.map_append];exact dm,cg.any.trans uG.aG,fx.imp id (λh=>⟨_,h,cg.size⟩)⟩)
 exact trivial
 intro x Xv G61 aX alc arF hJ hlen
 have aY:=jw hlen
 obtain⟨q0,ba⟩:=aY
 subst ba
 intro v6 d6
 have bu:=bu.go alc
 change OW _ _ _ _ _ (aS (aR _ x _) (zZ 67 [_,_,_,_,_,_,_,_])) _
 obtain⟨g2,dm,eJ,jc⟩:=hJ
 have aY:=hS.Gq dm eJ jc
 obtain⟨L3,fp,jD⟩:=aY
 have aY:=dm.len
 obtain⟨a3,c3,e3⟩:=aY
 have e4:q0=_:=e3
 subst e4
 have bu:aL _ b [vb,vt,.int .i64 ((m1).count:Int),.bool (m1).wide,vc,vy].toArray 164:=xF.aG eJ (λhx=>(mE b hx).2.1 rfl)
 refine W ?_
 refine gF (o:=1) Jp rfl rfl rfl bu rfl λsA pI bu dv=>?_
 have fp:=fp.aG pI sm
 have aw:dN t8 (cB.heap.size::w2.heap.size::E) L3 sA b true {m1 with bP:=(m1).bP++[(Tk.mk C.1.aM m1.types 0 [] t.sc xa C.2.1 C.2.2 m1.types.length)]}:=⟨_,_,_,_,_,_,_,_,bu,fp⟩
 have hR:=(hR.add jD eJ (λx hx wc=>(mE x hx).1 (by simp[wc]))).aD pI (fp.mem.2 (.inr (.inl rfl))) (λwc=>nJ (by simp[wc]))
 have wg:=aw.drop
 obtain⟨L5,eL5,aw⟩:=wg
 have hR:=hR.sub (L2:=L5) (λz hz=>by rw[eL5];simp[hz])
 have cL:=Xr.go hR.fr
 have DT:=zK.go hR.fr
 have gV:=hR.iy ak3 Fz
 have ke:=hR.tk dG rM
 refine WI ?_
 refine zi (i:=3) cw aK rfl rfl ((show 3<4 from om))<|zL eK aK rfl ((dP.go DT).cells) rfl<|cu (vs:=[str y.au.av,.slice pz y.au.ai.length pA]) aK rfl rfl rfl gV rfl λDU tF gV dv=>?_
 have aw:=aw.aG tF sm
 have hOz:=(hOc.trans (hR.ft bt).sub).trans (rb.of tF (λz hz sw=>by simp at hz;have:=lU z (h.sub sw);omega))
 have Xw:=aw.sub Fz
 have ke:ig L5 DU 166 bt {t with on:=C.2.1,bc:=C.2.2}:=ke.go (Fr.of tF (by simpa using Xw)) tF (by simp;intro e9;have:=lU bt (h.sub er);omega)
 have DT:=DT.aD tF (by simpa using Xw)
 have wg:=aw.drop
 obtain⟨L6,PO,aw⟩:=wg
 have B0:Fr L5 DU L6 DU:=(Fr.refl L5 DU).to (λz hz=>.inl (by rw[PO];simp[hz]))
 have DT:=DT.go B0
 refine W ?_
 exact⟨[_],fB eK aK rfl gV rfl,L6,ew.go DT,aw,ke.go B0 (ak.refl [] _) sm,DT,hOz⟩
theorem Xx (h:e.ok):cH e.au=e.head:=by
 cases e with
 |«at» s=>unfold cH;rw[iP (.inl (show s≠[] from pV h))];rfl
 |un hd a=>rfl
 |bi hd a b=>rfl
 |ite a b c=>rfl
 |lt x a b=>rfl
 |fn f x A B b=>rfl
theorem alf (h:e.ok) (he:e.head=kn):∃f x,e= .bi kn f x:=by
 cases e with
 |bi hd a b=>have he:hd=kn:=he;subst he;exact⟨a,b,rfl⟩
 |un hd a=>have he:hd=kn:=he;rw[he] at h;exact absurd h.1 de
 |«at» s=>cases he
 |ite a b c=>cases he
 |lt x a b=>cases he
 |fn f x A B b=>cases he
theorem alg {e:Ex} (h:e.head≠gw):bO e=⟨[],e,e⟩:=by
 cases e with
 |lt x a b=>exact absurd rfl h
 |_=>rfl
theorem alh {v1 v3 v4 v5 v6 v8:Value} {T:TypeId} (h:aL w b (p4 t v1 v3 v4 v5 v6 v8).toArray T):gJ w b 7 [str t.expr.au.av,v8]:=λj v hj=>by
 match j,hj with
 |0,hj=>simp at hj;subst hj;exact h.at rfl
 |1,hj=>simp at hj;subst hj;exact h.at rfl
theorem ali {on:Nat} {bc:aj} {x:Ex} (g:vF m s on bc e T) (hg:(bO e).s= .bi kn f x):
  kq ⟨m,s,on,bc⟩ e= .inl (yq (eU (cv (cv m s f.av).1 s x.av).1 s on bc (bO e).name T (bO e).rest).1 (cv m s f.av).2 (cv (cv m s f.av).1 s x.av).2 (eU (cv (cv m s f.av).1 s x.av).1 s on bc (bO e).name T (bO e).rest).2.1):=by
 have hY:=g.nS
 unfold kq
 simp only[hg,if_true,J8]
 rw[<-hg,hY]
theorem alj {on:Nat} {bc:aj} {c x y:Ex} (g:vF m s on bc e T) (hg:(bO e).s= .ite c x y):
  kq ⟨m,s,on,bc⟩ e= .inr (⟨Ht (eU (cv m s c.av).1 s on bc (bO e).name T (bO e).rest).1 s (eU (cv m s c.av).1 s on bc (bO e).name T (bO e).rest).2.1 (eU (cv m s c.av).1 s on bc (bO e).name T (bO e).rest).2.2 (cv m s c.av).2 x,s,
    (eU (cv m s c.av).1 s on bc (bO e).name T (bO e).rest).2.1,(eU (cv m s c.av).1 s on bc (bO e).name T (bO e).rest).2.2⟩,y):=by
 have hY:=g.nS
 unfold kq
 simp only[hg,J8]
 rw[<-hg,hY];rfl
theorem Xy {on:Nat} {bc:aj} (g:vF m s on bc e T) (h1:(bO e).s.head≠kn) (h2:(bO e).s.head≠gN):
  kq ⟨m,s,on,bc⟩ e=(if(bO e).name=[] then .inl (yr (mW m s T (bO e).s).1 on (mW m s T (bO e).s).2) else .inr (⟨(mW m s T (bO e).s).1,s++[((bO e).name,(mW m s T (bO e).s).2,T)],on,bc⟩,(bO e).rest)):=by
 have hY:=g.nS
 rw[<-hY]
 cases hg:(bO e).s with
 |«at» a=>unfold kq;simp only[hg]
 |un a b=>unfold kq;simp only[hg]
 |lt a b c=>unfold kq;simp only[hg]
 |fn a b c d f=>unfold kq;simp only[hg]
 |bi hd f x=>rw[hg] at h1;unfold kq;simp only[hg,iN (show¬hd=kn from h1)]
 |ite a b c=>rw[hg] at h2;exact absurd rfl h2
theorem Xz {a:At} (h:kq a e= .inl m):mv e.n a e=m:=by
 have:=e.pos
 obtain⟨k,hk⟩:∃k,e.n=k+1:=⟨e.n-1,om⟩
 rw[hk];unfold mv;rw[h]
theorem XA {a:At} {e2:Ex} {m2:Mk} {s2:cP} {yQ:Nat} {EP:aj} (h:kq a e= .inr (⟨m2,s2,yQ,EP⟩,e2)) (hi:oa m2 s2 yQ EP e2) (hn:e2.n+1<=e.n):mv e.n a e=mv e2.n ⟨m2,s2,yQ,EP⟩ e2:=by
 have hp:=e.pos
 obtain⟨k,hk⟩:∃k,e.n=k+1:=⟨e.n-1,om⟩
 rw[hk]
 show(match kq a e with| .inl m=>m| .inr p=>mv k p.1 p.2)=_
 rw[h]
 exact agB k hi (show e2.n<=k by omega)
theorem XB {on:Nat} {bc:aj} (h:oa m s on bc e) (g:vF m s on bc e T) (hn:(bO e).name≠[]):PJ s (bO e).name (bO e).rest:=by
 obtain⟨gk,Hs,⟨U,hU⟩,qd⟩:=g.rest hn
 have hb:=h.bud
 have s8:∀y,Fv y (bO e).rest->y∉[(bO e).name]->(look (eP s) y).isSome=true:=λy hy eQ=>by
  have:=pY hU hy
  rw[pe,iN (λe9=>eQ (by rw[e9];simp))] at this;exact this
 have hf:=NW (s:=s) (bd:=[(bO e).name]) om s8
 exact⟨Hs,om,λx hx=>by
  rcases(CA x _ [(bO e).name] []).1 hx with h9|h9
  ·simp at h9
  ·exact s8 x h9.1 h9.2,om⟩
theorem alk {s:aj} (h:Bp s):s.length<=272:=by
 obtain⟨T,hT,rfl⟩:=h
 exact uj hT
theorem XC (t:Tk) (m:Mk) (hI:oa m t.sc t.on t.bc t.expr) (hn:t.expr.n<=120) (hc:m.code.length<=1100) (fP:m.bP.length<80000) 
  (E L:List Nat) (b bt:Nat) (w:World) (h:dN t8 E L w b true m) (hT:ig L w 166 bt t) (er:bt∈E):
  bC Tryz.prog 154 [.pointer (some ⟨b,0,none⟩),.pointer (some ⟨bt,0,none⟩)] w λr w'=>∃L',dN t8 E L' w' b true (mv t.expr.n ⟨m,t.sc,t.on,t.bc⟩ t.expr)∧(∃t',ig L' w' 166 bt t'∧t'.aM=t.aM∧t'.regs=t.regs)∧Fr L w L' w':=by
 have lU:=h.dB
 have HV:=hT
 obtain⟨u1,u3,u4,u5,u6,u8,dx,il⟩:=hT
 obtain⟨a8,c8,e8,_⟩:=rS il.ai
 rw[gK] at e8
 subst e8
 have alm:bt<w.heap.size:=lU bt (h.sub er)
 have aln:=jh il.ai
 refine cj [] 89 Tryz.func154 rfl aci rfl rfl ?_
 refine WL ?_
 refine zL eK aK rfl ((alh dx)) rfl<|da aK rfl rfl rfl λw1 aI aF ga=>?_
 have gq:=aI
 refine cu aK rfl rfl rfl aF rfl λw2 az aF dv=>?_
 have gq:=gq.since az (λx hx=>.inr (by simp at hx;omega))
 have aw:=h.tx gq sm (lR _) aF.lt
 have qu:=(ei.refl E L w).more gq sm (lR _) (λz hz=>lU z (h.sub hz))
 have cV:=qu.tk HV er
 have vT:=aln.go qu.fr
 have rM:bt∈w.heap.size::E:=mK _ er
 have Lh:w.heap.size∈w.heap.size::E:=List.mem_cons_self ..
 have XD:w.heap.size≠bt:=om
 refine W ?_
 refine eO (λe':Ex=>[(0,.pointer (some ⟨b,0,none⟩)),(1,.pointer (some ⟨bt,0,none⟩)),(4,.pointer (some ⟨w.heap.size,0,none⟩))]) (λe' ww=>∃(aa:At) (n9:Nat) (new:List Tk) (L1:List Nat) (ae:Option Addr) (ce:Nat),xj m aa.m aa.s aa.on aa.bc t.expr.n n9 e' new∧mv t.expr.n ⟨m,t.sc,t.on,t.bc⟩ t.expr=mv e'.n aa e'∧dN t8 (w.heap.size::E) L1 ww b true aa.m∧ig L1 ww 166 bt {t with sc:=aa.s,on:=aa.on,bc:=aa.bc}∧Fr L w L1 ww∧aL ww w.heap.size [str (e').au.av,.slice ae (e').au.ai.length ce].toArray 74∧bh L1 ww (.agg #[str (e').au.av,.slice ae (e').au.ai.length ce]) (e').au) (λe'=>e'.n) t.expr (⟨rfl,rfl,rfl⟩) (⟨⟨m,t.sc,t.on,t.bc⟩,0,[],_,_,_,xj.start hI,rfl,aw,cV,qu.fr,aF,vT⟩) λgg w3 e3 hI=>?_
 obtain⟨⟨m1,s1,vG,FC⟩,n9,new,L1,ae,ce,B1,uS,Lj,XE,PQ,DV,XF⟩:=hI
 dsimp only at B1 uS Lj XE
 have jO:=ak.refl [] w3
 have hA:=B1.inv
 have alo:=hA.goal
 obtain⟨T,g⟩:=alo
 have aW:=B1.steps
 have J6:=B1.num
 have arG:=B1.ext.code
 have alp:=B1.ext.bP
 have hle:=g.le
 have arH:=hA.bud
 have sC:=hA.room
 have Ae:=hA.cnt
 have PR:=hA.on
 have XG:=alk hA.bc
 have hep:=gg.pos
 have lW:=(bO gg).s.pos
 have kT:=U6 new
 have arI:m1.code.length<=6500:=om
 have arJ:m1.bP.length<85000:=(by rw[alp,lA];omega)
 have uJ:=Lj.dB
 have arK:=g.small
 refine WL ?_
 refine zL eK aK rfl ((DV.ext jO).all) rfl<|da aK rfl rfl rfl λw4 aN bK jR=>?_
 have jO:=jO.ext aN
 refine cu aK rfl rfl rfl bK rfl λw5 aJ bK dv=>?_
 have jO:=jO.since aJ (λx hx=>.inr (by simp at hx;omega))
 refine aV<|zr<|zL eK aK rfl ((DV.ext jO).all) rfl<|da aK rfl rfl rfl λw6 bB cL l4=>bL bB jO bK λjO bK=>?_
 have arL:=bK.lt
 refine cu aK rfl rfl rfl cL rfl λw7 bJ cL dv=>?_
 have jO:=jO.since bJ (λx hx=>.inr (by simp at hx;omega))
 have bK:=bK.aG bJ so
 have aw:=Lj.ext jO
 have vT:=XF.ext jO
 have aF:=DV.ext jO
 refine W ?_
 refine aA (Bf gg.au _ L1 w7 vT) ?_
 rintro v8 w8 ⟨ux,aU⟩
 have oK:=aU.size
 refine ld aU jO bK cL vT aF λjO bK cL vT aF=>?_
 have eu:=ux
 rw[Xx hA.ok] at eu
 subst eu
 refine W ?_
 refine iS (λ_:Unit=>[(0,.pointer (some ⟨b,0,none⟩)),(1,.pointer (some ⟨bt,0,none⟩)),(4,.pointer (some ⟨w.heap.size,0,none⟩)),(5,str (bO gg).name),(6,.pointer (some ⟨w3.heap.size,0,none⟩)),(7,.pointer (some ⟨w5.heap.size,0,none⟩))]) (λ_ ww=>ak [w3.heap.size,w5.heap.size] w8 ww∧∃a6 c6 a7 c7,(aL ww w3.heap.size [str ((bO gg).s).au.av,.slice a6 ((bO gg).s).au.ai.length c6].toArray 74∧bh L1 ww (.agg #[str ((bO gg).s).au.av,.slice a6 ((bO gg).s).au.ai.length c6]) ((bO gg).s).au)∧aL ww w5.heap.size [str ((bO gg).rest).au.av,.slice a7 ((bO gg).rest).au.ai.length c7].toArray 74∧bh L1 ww (.agg #[str ((bO gg).rest).au.av,.slice a7 ((bO gg).rest).au.ai.length c7]) ((bO gg).rest).au) ?_ ?_
 refine zc rfl (λh1=>?_) (λh1=>?_)
 have et:=Km hA.ok h1
 obtain⟨nx,ea,eb,rfl⟩:=et
 have Kp:(Ex.lt nx ea eb).au.ai.length=4:=rfl
 have cG:=cS XF
 obtain⟨_,_,_,e9,_,aQ⟩:=cG
 cases e9
 have fj:=fm aQ (i:=1) om
 obtain⟨b1,eh,gT,gU,e1,bM,_⟩:=fj
 cases e1
 have bM:fM L1 w3 _ _ [str nx,.slice gT 0 gU]:=bM
 have eQ:=fm aQ (i:=2) om
 obtain⟨b2,kY,iQ,iR,e2,bZ,dQ⟩:=eQ
 cases e2
 have bZ:fM L1 w3 _ _ [str ea.au.av,.slice iQ ea.au.ai.length iR]:=bZ
 have dQ:bh L1 w3 (.agg #[str ea.au.av,.slice iQ ea.au.ai.length iR]) ea.au:=dQ
 have pF:=fm aQ (i:=3) om
 obtain⟨b3,xe,pz,pA,e3,dP,ew⟩:=pF
 cases e3
 have dP:fM L1 w3 _ _ [str eb.au.av,.slice pz eb.au.ai.length pA]:=dP
 have ew:bh L1 w3 (.agg #[str eb.au.av,.slice pz eb.au.ai.length pA]) eb.au:=ew
 have lj:=ak.refl [w3.heap.size,w5.heap.size] w8
 refine WL ?_
 refine zl ix rfl ((DV.ext jO).at rfl)<|zi (i:=1) cw aK rfl rfl ((show 1<4 from om))<|zf lF rfl<|zl gv rfl ((bM.ext jO).cells 0 _ rfl)<|zA<|aV<|zr<|zf ja rfl<|zl ix rfl ((DV.ext jO).at rfl)<|zi (i:=2) cw aK rfl rfl ((show 2<4 from om))<|zL eK aK rfl ((bZ.ext jO).cells) rfl<|cu (vs:=[str ea.au.av,.slice iQ ea.au.ai.length iR]) aK rfl rfl rfl bK rfl λw9 aC bK dv=>?_
 have jO:=jO.since aC (λx hx=>.inr (by simp at hx;omega))
 have cL:=cL.aG aC so
 have lj:=lj.trans (aC.mono sm)
 refine WL ?_
 refine zl ix rfl ((DV.ext jO).at rfl)<|zi (i:=3) cw aK rfl rfl ((show 3<4 from om))<|zL eK aK rfl ((dP.ext jO).cells) rfl<|cu (vs:=[str eb.au.av,.slice pz eb.au.ai.length pA]) aK rfl rfl rfl cL rfl λcB cA cL dv=>?_
 have jO:=jO.since cA (λx hx=>.inr (by simp at hx;omega))
 have bK:=bK.aG cA so
 have lj:=lj.trans (cA.mono sm)
 refine W ?_
 exact⟨(),⟨rfl,rfl,rfl,rfl,rfl,rfl⟩,lj,iQ,iR,pz,pA,⟨bK,dQ.ext jO⟩,cL,ew.ext jO⟩
 have px:=alg (e:=gg) h1
 refine WZ ?_
 exact⟨(),⟨rfl,rfl,rfl,by rw[px];rfl,rfl,rfl⟩,by rw[px];exact⟨ak.refl _ _,ae,ce,ae,ce,⟨bK,vT⟩,cL,vT⟩⟩
 intro gu w9 e9 hI
 obtain⟨lj,a6,c6,a7,c7,⟨bK,sv⟩,cL,tG⟩:=hI
 have xR:=jO.since lj (λx hx=>.inr (by simp at hx;rcases hx with rfl|rfl<;>omega))
 have aw:=Lj.ext xR
 have cV:=XE.ext xR
 have aF:=DV.ext xR
 have cL:dW L1 w9 w5.heap.size _ _:=⟨cL,λhx=>by have:=uJ _ hx;omega⟩
 refine W ?_
 refine aA (Bf (bO gg).s.au _ L1 w9 sv) ?_
 rintro v10 cB ⟨PS,cA⟩
 have zn:=cA.size
 refine CK cA aw cV aF sv tG bK cL xR λaw cV aF sv tG bK cL xR=>?_
 have eu:=PS
 rw[Xx g.ok] at eu
 subst eu
 refine W ?_
 refine zc rfl (λh2=>?_) (λh2=>?_)
 have jA:=alf g.ok h2
 obtain⟨f,x9,jA⟩:=jA
 have eM:3<=(bO gg).s.n:=(by rw[jA];simp only[Ex.n];have:=f.pos;have:=x9.pos;omega)
 have NZ:(bO gg).s.n=(Ex.bi kn f x9).n:=congrArg Ex.n jA
 rw[jA] at bK sv
 have IA:=g.ok
 have IB:=g.type
 rw[jA] at IA IB
 refine W ?_
 refine aA (akN ({t with sc:=s1,on:=vG,bc:=FC}:Tk) m1 f x9 (bO gg).name (bO gg).rest T IA om IB hA.sc (show s1.length<=9000 from om) PR XG (λBF=>XB hA g BF) om om om om (w.heap.size::E) L1 b bt _ _ cB aw cV rM sv tG) ?_
 rintro Xl eC ⟨L2,aw,⟨t',dQ,iz,cI⟩,kv⟩
 have wg:=aw.drop
 obtain⟨L3,eL3,aw⟩:=wg
 have B0:Fr L2 eC L3 eC:=(Fr.refl L2 eC).to (λz hz=>.inl (by rw[eL3];simp[hz]))
 rw[<-Xz (ali g jA),<-uS] at aw
 refine W ?_
 exact⟨_,rfl,L3,aw,⟨t',dQ.go B0 (ak.refl [] _) sm,iz,cI⟩,((PQ.ext xR).go kv).go B0⟩
 have mI:(bO gg).s.head≠kn:=h2
 refine W ?_
 refine zc rfl (λh3=>?_) (λh3=>?_)
 have jA:=VK g.ok h3
 obtain⟨c9,x9,y9,jA⟩:=jA
 have eM:4<=(bO gg).s.n:=(by rw[jA];simp only[Ex.n];have:=c9.pos;have:=x9.pos;have:=y9.pos;omega)
 have NZ:(bO gg).s.n=(Ex.ite c9 x9 y9).n:=congrArg Ex.n jA
 rw[jA] at bK sv
 have IA:=g.ok
 have IB:=g.type
 rw[jA] at IA IB
 have alr:=UY hA g jA
 obtain⟨nw,nw2,_,fW⟩:=alr
 have alu:=fW.num
 refine W ?_
 refine aA (akV ({t with sc:=s1,on:=vG,bc:=FC}:Tk) m1 c9 x9 y9 (bO gg).name (bO gg).rest T IA om IB hA.sc (show s1.length<=9000 from om) PR XG (λBF=>XB hA g BF) om om om om (w.heap.size::E) L1 b bt _ _ cB aw cV rM sv tG) ?_
 rintro v51 eC ⟨L2,Lk,aw,dQ,kv,hFt⟩
 have cG:=cS Lk
 obtain⟨ay,ny,cy,PT,J4,_⟩:=cG
 subst PT
 subst J4
 have aF:=hFt.iy aF Lh XD
 have hF:=(PQ.ext xR).go kv
 refine cu (vs:=[str y9.au.av,.slice ay y9.au.ai.length cy]) aK rfl rfl rfl aF rfl λfI dw aF dv=>?_
 have DW:=aw.sub Lh
 have aw:=aw.aG dw sm
 have dQ:=dQ.go (Fr.of dw (by simpa using DW)) dw so;have hF:=hF.aD dw (by simpa using DW);have Lk:=Lk.go (Fr.of dw (by simpa using DW))
 refine W ?_
 exact⟨y9,⟨rfl,rfl,rfl⟩,⟨⟨_,_,_,_⟩,_,_,L2,ay,cy,B1.step fW,uS.trans (XA (alj g jA) fW.inv om),aw,dQ,hF,aF,Lk⟩,om⟩
 have mY:(bO gg).s.head≠gN:=h3
 have hpu:=NY (m:=m1) hA.sml hA.sc g.ok g.type om om om
 obtain⟨nwp,mr⟩:=hpu
 have DS:∃z,z=mW m1 s1 T (bO gg).s:=⟨_,rfl⟩
 obtain⟨P,hP⟩:=DS
 rw[<-hP] at mr
 have arM:=mr.ext.types
 have arN:=mr.ext.code
 have hpr:=mr.dy
 refine W ?_
 refine aA (KU ({t with sc:=s1,on:=vG,bc:=FC}:Tk) (bO gg).s g.ok om hA.sc.types (show s1.length+2*(bO gg).s.n<=100000 from om) _ L1 bt cB aw.dB cV sv) ?_
 rintro v11 eC ⟨alx,dh⟩
 have zH:=dh.size
 refine CK dh aw cV aF sv tG bK cL xR λaw cV aF sv tG bK cL xR=>?_
 have eu:=alx
 rw[g.type] at eu
 subst eu
 refine W ?_
 refine aA (akK ({t with sc:=s1,on:=vG,bc:=FC}:Tk) m1 (bO gg).s T g.ok g.type hA.sc (show 5*s1.length+2*(bO gg).s.n<=240 from om) PR om om om om (w.heap.size::E) L1 b bt _ eC aw cV rM sv) ?_
 rintro OY fI ⟨FD,L2,aw,bI⟩
 rw[<-hP] at FD aw
 subst FD
 have dQ:=bI.tk cV rM
 have cL:=cL.go bI.fr;have tG:=tG.go bI.fr
 have aF:=bI.iy aF Lh
 have hF:=(PQ.ext xR).go bI.fr
 refine W ?_
 refine zc rfl (λh4=>?_) (λh4=>?_)
 have qd:(bO gg).name=[]:=h4
 have FE:=(Xy g mI mY).trans (iP qd)
 rw[<-hP] at FE
 have IC:∃z,z=sO P.1 vG:=⟨_,rfl⟩
 obtain⟨me,DP⟩:=IC
 have PL:me.types.length=P.1.types.length+3∧me.code.length=P.1.code.length+3:=(by rw[DP];exact Xk _ _)
 obtain⟨met,mec⟩:=PL
 have CY:∃z,z=me.types.length:=⟨_,rfl⟩
 obtain⟨r,o4⟩:=CY
 have zM:∃z,z=me.code.length:=⟨_,rfl⟩
 obtain⟨c,eR⟩:=zM
 have t0:me.types.length=r:=o4.symm
 have c0:me.code.length=c:=eR.symm
 have CY:∃z,z=P.1.types.length:=⟨_,rfl⟩
 obtain⟨rc,Ix⟩:=CY
 have JM:yr P.1 vG P.2=((me.cM nR [[48],aZ (rc+2)]).cM nR [[49],aZ P.2]).cM AJ [aZ (rc+1)]:=(by rw[DP,Ix];rfl)
 rw[JM] at FE
 have ke:=dQ
 obtain⟨v1,v3,v4,v5,v6,v8,arP,_⟩:=ke
 refine W ?_
 refine aA (Wx P.1 vG om om om (w.heap.size::E) L2 b fI aw) ?_
 rintro Xl jE ⟨EW,L0,aw,bI⟩
 rw[<-DP] at aw
 rw[<-Ix] at EW
 subst EW
 have hR:=bI
 have dk:=aw.dB
 refine W ?_
 refine lg bo bm rfl rfl rfl rfl λeI bS XH Dv=>bL bS aw hR λaw hR=>?_
 refine aA (k9 nR [[48],aZ (rc+2)] (mF de sm (by intro z hz;simp at hz;rcases hz with rfl|rfl;(·decide);(·exact mf om))) me om (w.heap.size::E) L0 b _ eI aw (aL.dS [[48],aZ (rc+2)] XH (λhx=>by have:=dk _ hx;omega))) ?_
 rintro jN oo ⟨L1,aw,bI⟩
 have hR:=hR.go bI
 clear XH
 have iF:∃x,x=me.cM nR [[48],aZ (rc+2)]:=⟨_,rfl⟩
 obtain⟨m1,lQ⟩:=iF
 rw[<-lQ] at aw
 have t1:m1.types.length=r+0:=(by rw[lQ,oR];omega)
 have c1:m1.code.length=c+1:=(by rw[lQ,pG];omega)
 have dk:=aw.dB
 refine W ?_
 refine aA (iI (P.2+1) P.2 om om oo) ?_
 rintro _ lP ⟨rfl,nq⟩
 have V0:=nq.size
 refine bL nq aw hR λaw hR=>?_
 have dk:=aw.dB
 refine lg bo bm rfl rfl rfl rfl λDw zv XI aly=>bL zv aw hR λaw hR=>?_
 refine aA (k9 nR [[49],aZ P.2] (mF de sm (by intro z hz;simp at hz;rcases hz with rfl|rfl;(·decide);(·exact mf om))) m1 om (w.heap.size::E) L1 b _ Dw aw (aL.dS [[49],aZ P.2] XI (λhx=>by have:=dk _ hx;omega))) ?_
 rintro jN xK ⟨L2,aw,bI⟩
 have hR:=hR.go bI
 clear XI
 have eA:∃x,x=m1.cM nR [[49],aZ P.2]:=⟨_,rfl⟩
 obtain⟨m2,lS⟩:=eA
 rw[<-lS] at aw
 have t2:m2.types.length=r+0:=(by rw[lS,oR];omega)
 have c2:m2.code.length=c+2:=(by rw[lS,pG];omega)
 have dk:=aw.dB
 refine W ?_
 refine fo bo bm rfl rfl λDF BM E7 aiw=>bL BM aw hR λaw hR=>?_
 refine aA (k9 AJ [aZ (rc+1)] (mF de sm (by intro z hz;simp at hz;subst hz;exact mf om)) m2 om (w.heap.size::E) L2 b _ DF aw (aL.dS [aZ (rc+1)] E7 (λhx=>by have:=dk _ hx;omega))) ?_
 rintro jN vZ ⟨L3,aw,bI⟩
 have hR:=hR.go bI
 clear E7
 have zC:∃x,x=m2.cM AJ [aZ (rc+1)]:=⟨_,rfl⟩
 obtain⟨m3,lT⟩:=zC
 rw[<-lT] at aw
 have t3:m3.types.length=r+0:=(by rw[lT,oR];omega)
 have c3:m3.code.length=c+3:=(by rw[lT,pG];omega)
 have dk:=aw.dB
 have wg:=aw.drop
 obtain⟨L7,eL7,aw⟩:=wg
 have O7:=hR.tk dQ rM
 have B0:Fr L3 vZ L7 vZ:=(Fr.refl L3 vZ).to (λz hz=>.inl (by rw[eL7];simp[hz]))
 refine W ?_
 subst lT lS lQ
 rw[<-Xz FE,<-uS] at aw
 exact⟨_,rfl,L7,aw,⟨_,O7.go B0 (ak.refl [] _) sm,rfl,rfl⟩,(hF.go hR.fr).go B0⟩
 have qd:(bO gg).name≠[]:=h4
 have FE:=(Xy g mI mY).trans (iN qd)
 have Es:=UX hA g qd
 obtain⟨nw2,fW⟩:=Es
 rw[<-hP] at FE fW
 have alu:=fW.num
 have zG:=aw.sub rM
 refine W ?_
 refine aA (Fm ({t with sc:=s1,on:=vG,bc:=FC}:Tk) (bO gg).name P.2 T (show s1.length<100000 from om) L2 bt fI zG aw.dB dQ) ?_
 rintro v87 jE ⟨dQ,oX⟩
 have aw:=aw.aG oX (by simpa using .inr er)
 have cL:=cL.aD oX (by simpa using zG);have tG:=tG.go (Fr.of oX (by simpa using zG))
 have aF:=aF.aG oX (by simpa using XD)
 have hF:=hF.aD oX (by simpa using zG)
 have dQ:ig L2 jE 166 bt ({t with sc:=s1++[((bO gg).name,P.2,T)],on:=vG,bc:=FC}:Tk):=dQ
 refine W ?_
 refine cu (vs:=[str (bO gg).rest.au.av,.slice a7 (bO gg).rest.au.ai.length c7]) aK rfl rfl rfl aF rfl λeI bS aF dv=>?_
 have DW:=aw.sub Lh
 have aw:=aw.aG bS sm
 have dQ:=dQ.go (Fr.of bS (by simpa using DW)) bS so;have hF:=hF.aD bS (by simpa using DW);have tG:=tG.go (Fr.of bS (by simpa using DW))
 refine W ?_
 exact⟨(bO gg).rest,⟨rfl,rfl,rfl⟩,⟨⟨_,_,_,_⟩,_,_,L2,a7,c7,B1.step fW,uS.trans (XA FE fW.inv om),aw,dQ,hF,aF,tG⟩,om⟩
theorem alA (h:oN t) (hk:k<t.loads) {hd:aq} (hh:∀t',bA (t.regs.getD 0 [105])=some t'->hd=t'):k+1<hd.ai.length∧nth hd.ai (k+1)=nth (nh t) k∧WF (nth (nh t) k)∧(nth (nh t) k).size<=12001:=by
 rcases h.loads with h0|⟨ts,hr,hl,hp⟩
 ·omega
 ·obtain⟨e1,e2⟩:=N2 hr hp
  have e3:=hh _ e2
  have cF:=tS e2
  have fU:=Al e2
  subst e3
  have hlen:(ju [116] ts).ai.length=ts.length+1:=rfl
  have h1:k+1<(ju [116] ts).ai.length:=by rw[hlen];omega
  have e4:nth (ju [116] ts).ai (k+1)=nth (nh t) k:=by rw[e1];rfl
  have h2:=cF.nth h1
  have h3:=kB h1
  rw[e4] at h2 h3
  have h4:=Ml e2
  exact⟨h1,e4,h2,om⟩
theorem alB {m:Mk} (h:oN t) (hk:k<=t.loads):C3 m (py (ob m t.regs) (nh t) k) t.regs k:=by
 have hr:=h.room
 rcases h.loads with h0|⟨ts,hh,hl,Hu⟩
 ·rw[show k=0 by omega];exact N3 h.regs
 ·obtain⟨e1,_⟩:=N2 hh Hu
  rw[e1]
  refine N4 h.regs (λx hx=>?_) _ om om
  have h2:=h.regs _ (List.mem_of_mem_head? hh)
  rw[l6] at h2
  have:=U1 (List.mem_map_of_mem (f:=aq.text) hx)
  omega
theorem alC (m:Mk) (aM:aj) (regs:List aj) (a b:aj) {CO P0:aj} {r:Nat} (hC:CO=cY [99] regs) (hP:P0=cY [116] [CO,b]) (hr:r=m.types.length):
  Bu m aM regs a b=(((((m.dy CO).cM sL [aZ r,aM]).dy P0).cM lY [aZ (r+1),aZ r,[48]]).dy a).cM sM [aZ (r+2),aZ (r+1),a,b]:=by
 subst hP;subst hC;subst hr;rfl
theorem alD (t:Tk) (m:Mk) (FF:oN t) (o:Bool) 
  (E L:List Nat) (b bt:Nat) (w:World) (h:dN t8 E L w b o m) (hT:ig L w 166 bt t) (er:bt∈E):
  bC Tryz.prog 157 [.pointer (some ⟨b,0,none⟩),.pointer (some ⟨bt,0,none⟩)] w λr w'=>∃L',dN t8 E L' w' b true (qP m t)∧ei E L w L' w':=by
 have lU:=h.dB
 have alm:bt<w.heap.size:=lU bt (h.sub er)
 have hR:=ei.refl E L w
 have sC:=FF.room
 have aw:=h
 refine cj [] 137 Tryz.func157 rfl acm rfl rfl ?_
 refine zr<|zm<|gA bo bm λw1 aI mx HS=>?_
 have zN:=h.open
 obtain⟨xb,xt,xc,xy,gb,gt,gc,gy,bu,hS⟩:=zN
 have yO:=hS.apart
 obtain⟨zu,nJ,vW,mE,vX,uC⟩:=yO
 have bu:aL w1 b [xb,xt,.int .i64 (m.count:Int),.bool m.wide,xc,xy].toArray 164:=bu.ext aI
 have zO:=hS.JH mx.lh aI.any (λx hx=>.inr (by cases hx;exact lR _))
 obtain⟨L1,hS,bI⟩:=zO
 have hR:=(ei.refl E L w).add bI aI sm
 refine W ?_
 refine gF (o:=4) mT rfl rfl rfl bu rfl λw2 az bu dv=>?_
 have hS:=hS.aG az sm
 have DX:=hS.mem.2 (.inr (.inl rfl))
 have hR:=hR.aD az DX nJ
 have ke:=hR.tk hT er
 obtain⟨u1,u3,u4,u5,u6,u8,dx,il⟩:=ke
 have cG:=dU il.regs
 obtain⟨a1,n1,c1,e1,fj⟩:=cG
 subst e1
 subst fj
 have arQ:∀x,x∈L1->x<w2.heap.size:=hS.cN
 refine aV<|zr<|zm<|tQ w2.heap.size [] bo bm rfl rfl (lR _) sm λw3 aH aly alE=>?_
 have rL:=aH
 have dx:=dx.ext aH
 refine W ?_
 refine xd bo bm rfl rfl rfl rfl rfl rfl alE ((ck.fresh il.regs (L':=[w2.heap.size]) (λx hx=>.inr (by simp at hx;omega))).ext rL |>.fresh (λx hx=>.inl (by simpa using hx))) (Xo _) (by rw[qA];simp;omega) λa4 fT g4 w4 kJ aN=>?_
 rw[List.nil_append] at kJ
 have PU:=rL.since aN (λx hx=>.inr (by simp at hx;omega))
 have ll:=kJ.vh
 have je:=kJ.low
 have bu:=bu.ext PU
 have zO:=hS.Nl ll PU.any (λx hx=>.inr (je x hx))
 obtain⟨L2,fp,jD⟩:=zO
 have hR:=hR.add jD PU sm
 refine W ?_
 refine gF (o:=5) mT rfl rfl rfl bu rfl λw5 aJ bu dv=>?_
 have fp:=fp.aG aJ sm
 have alF:=fp.mem.2 (.inr (.inl rfl))
 have hR:=hR.aD aJ alF nJ
 have aw:dN t8 E L2 w5 b true (ob m t.regs):=⟨_,_,_,_,_,_,_,_,bu,fp⟩
 have DM:=aw.dB
 refine aV<|zr<|aA (sX [105] L2 w5 DM) ?_
 rintro v6 w6 ⟨xJ,bB⟩
 have ku:=bB.size
 refine bL bB aw hR λaw hR=>?_
 have eu:=xJ
 obtain⟨t0x,tv,PV,Ll,fG⟩:=eu
 subst PV
 have cG:=cS Ll
 obtain⟨a5,n5,c5,e5,KC,_⟩:=cG
 subst e5
 subst KC
 have mc:=aw
 have uF:=hR
 have DM:=aw.dB
 refine W ?_
 refine da aK rfl rfl rfl λw7 bJ aF ga=>?_
 have dA:=bJ
 refine cu (vs:=[str t0x.av,.slice a5 t0x.ai.length c5]) aK rfl rfl rfl aF rfl λw8 aU aF dv=>?_
 have dA:=dA.since aU (λx hx=>.inr (by simp at hx;omega))
 have aw:=mc.ext dA
 have hR:=uF.ext dA
 have Ll:=Ll.ext dA
 have ke:=hR.tk hT er
 obtain⟨u1,u3,u4,u5,u6,u8,dx,il⟩:=ke
 have cG:=dU il.regs
 obtain⟨a1,n1,c1,e1,fj⟩:=cG
 subst e1
 subst fj
 have cG:=dU il.self
 obtain⟨a3,n3,c3,e3,pF⟩:=cG
 subst e3
 subst pF
 have dx:aL w8 bt [str t.aM,.slice a1 t.regs.length c1,.int .i64 (t.loads:Int),.slice a3 t.self.length c3,u4,u5,u6,str t.expr.au.av,u8,.int .i64 (t.on:Int),str t.bc,.int .i64 (t.next:Int)].toArray 166:=dx
 refine W ?_
 refine iS (λ_:Unit=>[(0,.pointer (some ⟨b,0,none⟩)),(1,.pointer (some ⟨bt,0,none⟩)),(4,.pointer (some ⟨w6.heap.size,0,none⟩))]) (λ_ ww=>ak [w6.heap.size] w8 ww∧∃(hd:aq) (ah:Option Addr) (ch:Nat),aL ww w6.heap.size [str hd.av,.slice ah hd.ai.length ch].toArray 74∧bh L2 ww (.agg #[str hd.av,.slice ah hd.ai.length ch]) hd∧∀t',bA (t.regs.getD 0 [105])=some t'->hd=t') ?_ ?_
 refine zc rfl (λh1=>?_) (λh1=>?_)
 have o4:0<t.regs.length:=(by simp at h1;omega)
 have dR:=oq il.regs o4
 obtain⟨b9,uL,e9,jF⟩:=dR
 cases e9
 have rU:t.regs.getD 0 [105]=cJ t.regs 0:=(by unfold cJ;rw[gG,gG,gE o4];rfl)
 have lj:=ak.refl [w6.heap.size] w8
 have FG:=aw.dB
 refine W ?_
 refine aA (sX (cJ t.regs 0) (w6.heap.size::L2) w8 (λx hx=>by rcases mC.1 hx with h9|h9;(·rw[h9];exact aF.lt);(·exact FG x h9))) ?_
 rintro v9 w9 ⟨eu,aC⟩
 have lf:=aC.size
 refine bL aC aF lj λaF lj=>?_
 have eu:=eu
 obtain⟨t1x,tv,yX,XJ,pw⟩:=eu
 subst yX
 have cG:=cS XJ
 obtain⟨a6,n6,c6,e6,XK,_⟩:=cG
 subst e6
 subst XK
 refine W ?_
 refine cu (vs:=[str t1x.av,.slice a6 t1x.ai.length c6]) aK rfl rfl rfl aF rfl λcB cA aF dv=>?_
 have lj:=lj.trans cA
 have alG:bh L2 cB _ t1x:=(XJ.go (Fr.of cA sm)).fresh (λx hx=>.inl (by simp[hx]))
 refine W ?_
 exact⟨(),⟨rfl,rfl,rfl⟩,lj,t1x,a6,c6,aF,alG,by rw[rU];exact pw⟩
 have o4:t.regs=[]:=(by simpa using h1)
 have rU:t.regs.getD 0 [105]=[105]:=(by rw[o4];rfl)
 refine WZ ?_
 exact⟨(),⟨rfl,rfl,rfl⟩,ak.refl _ _,t0x,a5,c5,aF,Ll,by rw[rU];exact fG⟩
 intro gu w9 e9 hI
 obtain⟨lj,hd,ah,ch,aF,PW,js⟩:=hI
 have dA:=dA.since lj (λx hx=>.inr (by simp at hx;omega))
 have aw:=mc.ext dA
 have hR:=uF.ext dA
 have aF:dW L2 w9 w6.heap.size _ _:=⟨aF,λhx=>by have:=DM _ hx;omega⟩
 refine W ?_
 refine eO (λk:Nat=>[(0,.pointer (some ⟨b,0,none⟩)),(1,.pointer (some ⟨bt,0,none⟩)),(4,.pointer (some ⟨w6.heap.size,0,none⟩)),(6,.int .i64 (k:Int))]) (λk ww=>∃L3,dN t8 E L3 ww b true (py (ob m t.regs) (nh t) k)∧ei E L w L3 ww∧Fr L2 w9 L3 ww∧k<=t.loads) (λk=>t.loads-k) (0) (⟨rfl,rfl,rfl,rfl⟩) (⟨L2,aw,hR,Fr.refl _ _,Nat.zero_le _⟩) λgg cB fL hI=>?_
 obtain⟨L3,aw,hR,rN,hk⟩:=hI
 have aF:=aF.go rN;have PW:=PW.go rN
 have ke:=hR.tk hT er
 obtain⟨u1,u3,u4,u5,u6,u8,dx,il⟩:=ke
 have cG:=dU il.regs
 obtain⟨a1,n1,c1,e1,fj⟩:=cG
 subst e1
 subst fj
 have cG:=dU il.self
 obtain⟨a3,n3,c3,e3,pF⟩:=cG
 subst e3
 subst pF
 have dx:aL cB bt [str t.aM,.slice a1 t.regs.length c1,.int .i64 (t.loads:Int),.slice a3 t.self.length c3,u4,u5,u6,str t.expr.au.av,u8,.int .i64 (t.on:Int),str t.bc,.int .i64 (t.next:Int)].toArray 166:=dx
 have XL:=alB (m:=m) FF hk
 have alH:=XL.types
 have alI:=XL.code
 refine W ?_
 refine zc rfl (λh2=>?_) (λh2=>?_)
 have az:gg<t.loads:=(by simp at h2;omega)
 have alJ:=alA FF az js
 obtain⟨qK,qM,ui,XM⟩:=alJ
 have cG:=cS PW
 obtain⟨_,_,_,e9,_,aQ⟩:=cG
 cases e9
 have fj:=fm aQ qK
 obtain⟨b9,uL,pa9,pc9,e9,jF,dG⟩:=fj
 cases e9
 rw[qM] at jF dG
 have qh:=MW _ _ (lR _) ui
 refine W ?_
 refine aA (r6 (nth (nh t) gg).size _ (lR _) ui om om _ _ cB dG) ?_
 rintro _ eC ⟨rfl,dh⟩
 have zH:=dh.size
 refine cO dh aw hR rN λaw hR rN=>?_
 refine aA (sq (nth (nh t) gg).text (py (ob m t.regs) (nh t) gg) om E L3 b true eC aw) ?_
 rintro Xi fI ⟨ID,L4,aw,bI⟩
 subst ID
 have hR:=hR.go bI;have rN:=rN.go bI.fr
 refine W ?_
 refine aA (iI ((py (ob m t.regs) (nh t) gg).types.length+1) (py (ob m t.regs) (nh t) gg).types.length om om fI) ?_
 rintro _ jE ⟨rfl,gB⟩
 have H3:=gB.size
 refine cO gB aw hR rN λaw hR rN=>?_
 have dk:=aw.dB
 refine zm<|aA (iI (gg+1) gg om om jE) ?_
 rintro _ eI ⟨rfl,bS⟩
 have alM:=bS.size
 refine cO bS aw hR rN λaw hR rN=>?_
 have dk:=aw.dB
 refine qf bo bm rfl rfl rfl rfl rfl λoo iA alN HI=>cO iA aw hR rN λaw hR rN=>?_
 refine aA (k9 sN [aZ (py (ob m t.regs) (nh t) gg).types.length,[48],aZ gg] (mF de sm (by intro z hz;simp at hz;rcases hz with rfl|rfl|rfl;(·exact mf om);(·decide);(·exact mf om))) ((py (ob m t.regs) (nh t) gg).dy (nth (nh t) gg).text) (show(py (ob m t.regs) (nh t) gg).code.length<100000 from om) E L4 b _ oo aw (aL.dS [aZ (py (ob m t.regs) (nh t) gg).types.length,[48],aZ gg] alN (λhx=>by have:=dk _ hx;omega))) ?_
 rintro v68 lP ⟨L5,aw,bI⟩
 have hR:=hR.go bI;have rN:=rN.go bI.fr
 refine W ?_
 exact⟨gg+1,⟨rfl,rfl,rfl,rfl⟩,⟨L5,aw,hR,rN,om⟩,om⟩
 have Bn:gg=t.loads:=om
 subst Bn
 have IC:∃z,z=py (ob m t.regs) (nh t) t.loads:=⟨_,rfl⟩
 obtain⟨m0,tK⟩:=IC
 rw[<-tK] at aw alH alI
 refine W ?_
 refine zc rfl (λh3=>?_) (λh3=>?_)
 have iz:t.self.length=2:=om
 have DY:=FF.self
 have DY:∃a b,t.self=[a,b]∧a.length<=272∧b.length<=11200∧t.regs.length=3∧∀r,r∈t.regs->r.length<=11200:=(by rcases DY with h9|h9;(·rw[h9] at iz;cases iz);(·exact h9))
 obtain⟨sa,sb,PX,arS,arT,h3,oI⟩:=DY
 have zM:∃z,z=cY [99] t.regs:=⟨_,rfl⟩
 obtain⟨CO,zP⟩:=zM
 have zM:∃z,z=cY [116] [CO,sb]:=⟨_,rfl⟩
 obtain⟨P0,su⟩:=zM
 have arU:CO.length<=33610:=(by rw[zP];exact U0 h3 oI)
 have arV:P0.length<=45000:=(by rw[su,l6,Bq];simp only[lC,List.length_nil];omega)
 have zM:∃z,z=m0.types.length:=⟨_,rfl⟩
 obtain⟨r,H9⟩:=zM
 have zM:∃z,z=m0.code.length:=⟨_,rfl⟩
 obtain⟨c,Ph⟩:=zM
 have t0:m0.types.length=r:=H9.symm
 have c0:m0.code.length=c:=Ph.symm
 have PY:qP m t=(((((m0.dy CO).cM sL [aZ r,t.aM]).dy P0).cM lY [aZ (r+1),aZ r,[48]]).dy sa).cM sM [aZ (r+2),aZ (r+1),sa,sb]:=(by unfold qP J7;rw[<-tK,PX];exact alC m0 t.aM t.regs sa sb zP su H9)
 have Ho:=FF.aM
 have vE:t.self.length=2:=iz
 have ov:cJ t.self 0=sa:=(by rw[PX];rfl)
 have df:cJ t.self 1=sb:=(by rw[PX];rfl)
 refine W ?_
 refine aA ((show bC Tryz.prog 135 [str [99],.slice a1 t.regs.length c1] _ (λr w'=>r=str CO∧ak [] _ w') from by rw[zP];exact s0 [99] t.regs (by rw[<-zP];omega) _ _ _ il.regs)) ?_
 rintro _ eC ⟨rfl,dh⟩
 have zH:=dh.size
 refine cO dh aw hR dx λaw hR dx=>?_
 refine W ?_
 refine aA (sq CO m0 om E L3 b true eC aw) ?_
 rintro v10 fI ⟨fL,L1,aw,bI⟩
 rw[t0] at fL
 subst fL
 have hR:=hR.go bI
 have iF:∃x,x=m0.dy CO:=⟨_,rfl⟩
 obtain⟨m1,lQ⟩:=iF
 rw[<-lQ] at aw
 have t1:m1.types.length=r+1:=(by rw[lQ,yN];omega)
 have c1:m1.code.length=c+0:=(by rw[lQ,Dz];omega)
 have dk:=aw.dB
 have ke:=hR.tk hT er
 obtain⟨u1,u3,u4,u5,u6,u8,dx,il⟩:=ke
 have cG:=dU il.self
 obtain⟨a3,n3,c3,e3,pF⟩:=cG
 subst e3
 subst pF
 have dx:aL fI bt [str t.aM,u1,.int .i64 (t.loads:Int),.slice a3 t.self.length c3,u4,u5,u6,str t.expr.au.av,u8,.int .i64 (t.on:Int),str t.bc,.int .i64 (t.next:Int)].toArray 166:=dx
 have dR:=oq il.self (i:=0) om
 obtain⟨b9,uL,e9,jF⟩:=dR
 cases e9
 have dR:=oq il.self (i:=1) om
 obtain⟨PZ,P1,fL,xS⟩:=dR
 cases fL
 rw[ov] at jF
 rw[df] at xS
 refine W ?_
 apply wX du 8 (rA 83 8) (rA 83 8) [[],[],[1],[],[3],[4],[5],[2,6]] [It.v _,It.v _,It.v _,It.v _,It.v _,It.v _,It.v _,It.p (fun(v:Value) (ww:World)=>bg L1 ww v [aZ r,t.aM])] de (by exact⟨λv w w' h k=>h.ext k,trivial⟩)
 intro wd aB
 refine VA ?_
 refine vk aB (λx jE gB=>?_) ?_
 refine aA (iI (r+1) r om om jE) ?_
 rintro _ eI ⟨rfl,bS⟩
 have alM:=bS.size
 exact pk bS
 refine VA ?_
 refine vk aB (λx jE gB=>?_) ?_
 have alO:=gB.size
 refine lg bo bm rfl rfl rfl rfl λeI bS alP Dv=>?_
 exact pf bS ((aL.dS [aZ r,t.aM] alP (λhx=>by have:=dk _ hx;omega)))
 exact trivial
 intro x BG qq
 intro v7 d7
 refine cO qq aw hR dx λaw hR dx=>?_
 change OW _ _ _ _ _ (aS (aR _ x _) (zZ 83 [_,_,_,_,_,_,_,_])) _
 refine aA (k9 sL [aZ r,t.aM] (mF de sm (by intro z hz;simp at hz;rcases hz with rfl|rfl;(·exact mf om);(·omega))) m1 om E L1 b _ BG aw d7) ?_
 rintro jN nI ⟨L2,aw,bI⟩
 have hR:=hR.go bI
 have eA:∃x,x=m1.cM sL [aZ r,t.aM]:=⟨_,rfl⟩
 obtain⟨m2,lS⟩:=eA
 rw[<-lS] at aw
 have t2:m2.types.length=r+1:=(by rw[lS,oR];omega)
 have c2:m2.code.length=c+1:=(by rw[lS,pG];omega)
 have dk:=aw.dB
 have ke:=hR.tk hT er
 obtain⟨u1,u3,u4,u5,u6,u8,dx,il⟩:=ke
 have cG:=dU il.self
 obtain⟨a3,n3,c3,e3,pF⟩:=cG
 subst e3
 subst pF
 have dx:aL nI bt [str t.aM,u1,.int .i64 (t.loads:Int),.slice a3 t.self.length c3,u4,u5,u6,str t.expr.au.av,u8,.int .i64 (t.on:Int),str t.bc,.int .i64 (t.next:Int)].toArray 166:=dx
 have dR:=oq il.self (i:=0) om
 obtain⟨b9,uL,e9,jF⟩:=dR
 cases e9
 have dR:=oq il.self (i:=1) om
 obtain⟨PZ,P1,fL,xS⟩:=dR
 cases fL
 rw[ov] at jF
 rw[df] at xS
 refine aV<|zr<|zm<|zm<|zm<|FW rfl rfl rfl<|zf Jo rfl<|zl vu rfl (dx.at rfl)<|zi (i:=1) bo bm rfl rfl om<|zl gv rfl (xS.cells 0 _ rfl)<|lg bo bm rfl rfl rfl rfl ?_
 intro wb xO DC ak8
 refine bL xO aw hR λaw hR=>?_
 refine aA ((show bC Tryz.prog 135 [str [116],_] wb (λr w'=>r=str P0∧ak [] wb w') from by rw[su];exact s0 [116] [CO,sb] (by rw[<-su];omega) _ L2 wb (aL.dS [CO,sb] DC (λhx=>by have:=dk _ hx;omega)))) ?_
 rintro _ K9 ⟨rfl,BU⟩
 have arW:=BU.size
 refine cO BU aw hR DC λaw hR DC=>?_
 clear DC
 refine aA (sq P0 m2 om E L2 b true K9 aw) ?_
 rintro v10 BY ⟨fL,L3,aw,bI⟩
 rw[t2] at fL
 subst fL
 have hR:=hR.go bI
 have zC:∃x,x=m2.dy P0:=⟨_,rfl⟩
 obtain⟨m3,lT⟩:=zC
 rw[<-lT] at aw
 have t3:m3.types.length=r+2:=(by rw[lT,yN];omega)
 have c3:m3.code.length=c+1:=(by rw[lT,Dz];omega)
 have dk:=aw.dB
 refine W ?_
 refine aA (iI ((r+1)+1) (r+1) om om BY) ?_
 rintro _ PH ⟨rfl,BZ⟩
 have Xc:=BZ.size
 refine bL BZ aw hR λaw hR=>?_
 have dk:=aw.dB
 refine zm<|aA (iI (r+1) r om om PH) ?_
 rintro _ w58 ⟨rfl,FH⟩
 have arY:=FH.size
 refine bL FH aw hR λaw hR=>?_
 have dk:=aw.dB
 refine qf bo bm rfl rfl rfl rfl rfl λw59 IE XN arZ=>bL IE aw hR λaw hR=>?_
 refine aA (k9 lY [aZ (r+1),aZ r,[48]] (mF de sm (by intro z hz;simp at hz;rcases hz with rfl|rfl|rfl;(·exact mf om);(·exact mf om);(·decide))) m3 om E L3 b _ w59 aw (aL.dS [aZ (r+1),aZ r,[48]] XN (λhx=>by have:=dk _ hx;omega))) ?_
 rintro jN XO ⟨L4,aw,bI⟩
 have hR:=hR.go bI
 clear XN
 have DD:∃x,x=m3.cM lY [aZ (r+1),aZ r,[48]]:=⟨_,rfl⟩
 obtain⟨m4,oW⟩:=DD
 rw[<-oW] at aw
 have t4:m4.types.length=r+2:=(by rw[oW,oR];omega)
 have c4:m4.code.length=c+2:=(by rw[oW,pG];omega)
 have dk:=aw.dB
 have ke:=hR.tk hT er
 obtain⟨u1,u3,u4,u5,u6,u8,dx,il⟩:=ke
 have cG:=dU il.self
 obtain⟨a3,n3,c3,e3,pF⟩:=cG
 subst e3
 subst pF
 have dx:aL XO bt [str t.aM,u1,.int .i64 (t.loads:Int),.slice a3 t.self.length c3,u4,u5,u6,str t.expr.au.av,u8,.int .i64 (t.on:Int),str t.bc,.int .i64 (t.next:Int)].toArray 166:=dx
 have dR:=oq il.self (i:=0) om
 obtain⟨b9,uL,e9,jF⟩:=dR
 cases e9
 have dR:=oq il.self (i:=1) om
 obtain⟨PZ,P1,fL,xS⟩:=dR
 cases fL
 rw[ov] at jF
 rw[df] at xS
 refine aV<|zr<|zm<|zm<|FW rfl rfl rfl<|zf Jo rfl<|zl vu rfl (dx.at rfl)<|zi (i:=0) bo bm rfl rfl om<|zl gv rfl (jF.cells 0 _ rfl)<|aA (sq sa m4 om E L4 b true XO aw) ?_
 rintro v10 Xv ⟨fL,L5,aw,bI⟩
 rw[t4] at fL
 subst fL
 have hR:=hR.go bI
 have Ps:∃x,x=m4.dy sa:=⟨_,rfl⟩
 obtain⟨m5,zD⟩:=Ps
 rw[<-zD] at aw
 have t5:m5.types.length=r+3:=(by rw[zD,yN];omega)
 have c5:m5.code.length=c+2:=(by rw[zD,Dz];omega)
 have dk:=aw.dB
 have ke:=hR.tk hT er
 obtain⟨u1,u3,u4,u5,u6,u8,dx,il⟩:=ke
 have cG:=dU il.self
 obtain⟨a3,n3,c3,e3,pF⟩:=cG
 subst e3
 subst pF
 have dx:aL Xv bt [str t.aM,u1,.int .i64 (t.loads:Int),.slice a3 t.self.length c3,u4,u5,u6,str t.expr.au.av,u8,.int .i64 (t.on:Int),str t.bc,.int .i64 (t.next:Int)].toArray 166:=dx
 have dR:=oq il.self (i:=0) om
 obtain⟨b9,uL,e9,jF⟩:=dR
 cases e9
 have dR:=oq il.self (i:=1) om
 obtain⟨PZ,P1,fL,xS⟩:=dR
 cases fL
 rw[ov] at jF
 rw[df] at xS
 refine W ?_
 apply wX du 18 (rA 118 18) (rA 118 18) [[],[],[1],[],[3],[],[5],[6],[7],[8],[9],[],[11],[12],[13],[14],[15],[2,4,10,16]] [It.v _,It.v _,It.v _,It.v _,It.v _,It.v _,It.v _,It.v _,It.v _,It.v _,It.v _,It.v _,It.v _,It.v _,It.v _,It.v _,It.v _,It.p (fun(v:Value) (ww:World)=>bg L5 ww v [aZ (r+2),aZ (r+1),sa,sb])] de (by exact⟨λv w w' h k=>h.ext k,trivial⟩)
 intro wd aB
 refine VA ?_
 refine vk aB (λx sA pI=>?_) ?_
 refine aA (iI (r+2+1) (r+2) om om sA) ?_
 rintro _ DU ⟨rfl,tF⟩
 have alR:=tF.size
 exact pk tF
 refine VA ?_
 refine vk aB (λx sA pI=>?_) ?_
 refine aA (iI (r+1+1) (r+1) om om sA) ?_
 rintro _ DU ⟨rfl,tF⟩
 have alR:=tF.size
 exact pk tF
 refine vc (λ_ _ _=>WZ pv) ?_
 refine vk aB (λx sA pI=>?_) ?_
 refine WZ ?_
 exact pv
 refine vc (λ_ _ _=>WZ pv) ?_
 refine vk aB (λx sA pI=>?_) ?_
 have dx:=dx.ext pI
 refine WZ ?_
 exact pv
 refine vk aB (λx sA pI=>?_) ?_
 refine zi (i:=0) bo bm rfl rfl om ?_
 exact pv
 refine vk aB (λx sA pI=>?_) ?_
 have jF:=jF.ext pI
 refine WZ ?_
 exact pv
 refine vc (λ_ _ _=>WZ pv) ?_
 refine vk aB (λx sA pI=>?_) ?_
 refine WZ ?_
 exact pv
 refine vc (λ_ _ _=>WZ pv) ?_
 refine vk aB (λx sA pI=>?_) ?_
 have dx:=dx.ext pI
 refine WZ ?_
 exact pv
 refine vk aB (λx sA pI=>?_) ?_
 refine zi (i:=1) bo bm rfl rfl om ?_
 exact pv
 refine vk aB (λx sA pI=>?_) ?_
 have xS:=xS.ext pI
 refine WZ ?_
 exact pv
 refine vk aB (λx sA pI=>?_) ?_
 have alO:=pI.size
 refine xh bo bm rfl rfl rfl rfl rfl rfl ?_
 intro DU tF alS ar0
 exact pf tF ((aL.dS [aZ (r+2),aZ (r+1),sa,sb] alS (λhx=>by have:=dk _ hx;omega)))
 exact trivial
 intro x alT alU
 intro jN d17
 refine bL alU aw hR λaw hR=>?_
 change OW _ _ _ _ _ (aS (aR _ x _) (zZ 118 [_,_,_,_,_,_,_,_,_,_,_,_,_,_,_,_,_,_])) _
 refine aA (k9 sM [aZ (r+2),aZ (r+1),sa,sb] (mF de sm (by intro z hz;simp at hz;rcases hz with rfl|rfl|rfl|rfl;(·exact mf om);(·exact mf om);(·omega);(·omega))) m5 om E L5 b _ alT aw d17) ?_
 rintro jN ar1 ⟨L6,aw,bI⟩
 have hR:=hR.go bI
 have Pt:∃x,x=m5.cM sM [aZ (r+2),aZ (r+1),sa,sb]:=⟨_,rfl⟩
 obtain⟨m6,zE⟩:=Pt
 rw[<-zE] at aw
 have t6:m6.types.length=r+3:=(by rw[zE,oR];omega)
 have c6:m6.code.length=c+3:=(by rw[zE,pG];omega)
 have dk:=aw.dB
 refine W ?_
 subst zE zD oW lT lS lQ
 rw[<-PY] at aw
 exact⟨_,rfl,_,aw,hR⟩
 have DY:=FF.self
 have iz:t.self.length≠2:=(λh9=>h3 (by rw[h9];rfl))
 have DY:t.self=[]:=(by rcases DY with h9|⟨a,b,h9,_⟩;(·exact h9);(·rw[h9] at iz;exact absurd rfl iz))
 have PY:qP m t=m0:=(by unfold qP J7;rw[<-tK,DY])
 refine WZ ?_
 rw[<-PY] at aw
 exact⟨_,rfl,_,aw,hR⟩
theorem alV (x0:ByteArray) (x7:ByteArray) (a8:Option Addr) (n8 c8:Nat) (x9:Int) (Fq:ByteArray) (w:World):(Instr.build 166 #[(0,.string x0),(7,.agg #[.string x7,.slice a8 n8 c8]),(8,.int .i64 x9),(9,.string Fq)]).run Tryz.prog w= .ok (.agg #[.string x0,.slice none 0 0,.int .i64 0,.slice none 0 0,.slice none 0 0,.slice none 0 0,.slice none 0 0,.string x7,.slice a8 n8 c8,.int .i64 x9,.string Fq,.int .i64 0]) w:=by kernel_rfl
theorem ei.alW {x:Nat} (h:ei (x::E) L w L1 w1):ei E L w L1 w1:=⟨h.fr,let⟨G,k,hG⟩:=h.out;⟨G,k,λz hz sw=>hG z hz (mK _ sw)⟩⟩
def uM:Mk:=⟨[],[],0,false,[],[]⟩
theorem alX (T:Ty) {ON CO P0:aj} (hO:ON=dJ (bz T)) (hC:CO=cY [99] [sT,bz T]) (hP:P0=cY [116] [CO,sT]):
  s9 T=(((({uM with types:=[sT,CO,P0,ON]}).cM lY [[48]]).cM sL [[49],AK]).cM lY [[50],[49],[48]]).cM sM [[51],[50],ON,sT]:=by
 subst hP;subst hC;subst hO;rfl
theorem alY (e:Ex) (T:Ty) (IF:T.n<=16) 
  (E L:List Nat) (b:Nat) (v:Value) (w:World) (h:dN t8 E L w b true uM) (hv:bh L w v e.au):
  bC Tryz.prog 153 [.pointer (some ⟨b,0,none⟩),v,str T.text] w λr w'=>∃v1 v3 v4 v5 v6 v8 L',r= .agg (p4 (Hv e T) v1 v3 v4 v5 v6 v8).toArray∧oG L' w' (Hv e T) v1 v3 v4 v5 v6 v8∧dN t8 E L' w' b true (s9 T)∧ei E L w L' w':=by
 obtain⟨ar,nr,cr,rfl,qv,aQ⟩:=cS hv
 subst qv
 have lU:=h.dB
 obtain⟨ON,Lm⟩:∃z,z=dJ (bz T):=⟨_,rfl⟩
 obtain⟨CO,zP⟩:∃z,z=cY [99] [sT,bz T]:=⟨_,rfl⟩
 obtain⟨P0,su⟩:∃z,z=cY [116] [CO,sT]:=⟨_,rfl⟩
 rw[alX T Lm zP su]
 have aI:=qg IF
 have hOl:ON.length<=272:=by rw[Lm];exact uj IF
 have hCl:CO.length<=300:=by rw[zP,l6,Bq];simp only[lC,List.length_nil];omega
 have KX:P0.length<=400:=by rw[su,l6,Bq];simp only[lC,List.length_nil];omega
 obtain⟨m0,tK⟩:∃z:Mk,z={uM with types:=[sT,CO,P0,ON]}:=⟨_,rfl⟩
 rw[<-tK]
 obtain⟨r,hr4⟩:∃r,r=4:=⟨_,rfl⟩
 obtain⟨c,eR⟩:∃c,c=0:=⟨_,rfl⟩
 have t0:m0.types.length=r:=by rw[tK,hr4];rfl
 have c0:m0.code.length=c:=by rw[tK,eR];rfl
 have aw:=h
 have hR:=ei.refl E L w
 refine j1 [.cell 6 166] 45 Tryz.func153 rfl ach rfl rfl rfl ?_
 refine zr<|ey rfl λw1 aI aF di=>bL aI aw hR λaw hR=>?_
 refine da mS rfl rfl rfl λw2 az XP jR=>?_
 have aw:=aw.tx az sm (lR _) XP.lt
 have qu:=hR.more az sm (lR _) (λz hz=>by have:=lU z (h.sub hz);omega)
 have hR:=ei.refl (w1.heap.size::E) (w1.heap.size::L) w2
 have Lf:∀z,z∈w1.heap.size::L->z=w1.heap.size∨z<w.heap.size:=(λz hz=>(mC.1 hz).imp id (lU z))
 have aF:dW (w1.heap.size::L) w2 w.heap.size [str e.au.av,.slice ar e.au.ai.length cr].toArray 74:=⟨aF.ext az,λhx=>by have:=Lf _ hx;omega⟩
 have XQ:w1.heap.size∈w1.heap.size::E:=List.mem_cons_self ..
 refine aV<|zr<|zm<|aA (vV T om w2) ?_
 rintro _ w3 ⟨rfl,aH⟩
 have eM:=aH.size
 refine cO aH aw hR aF λaw hR aF=>?_
 refine aA ((show bC Tryz.prog 185 [str (bz T)] w3 (λr w'=>r=str ON∧ak [] w3 w') from by rw[Lm];exact H0 (bz T) om w3)) ?_
 rintro _ w4 ⟨rfl,aN⟩
 have fg:=aN.size
 refine cO aN aw hR aF λaw hR aF=>?_
 refine W ?_
 refine gA bo bm λw5 aJ mx HS=>?_
 have zN:=aw.open
 obtain⟨xb,xt,xc,xy,gb,gt,gc,gy,bu,hS⟩:=zN
 have yO:=hS.apart
 obtain⟨zu,nJ,vW,mE,vX,uC⟩:=yO
 have bu:aL w5 b [xb,xt,.int .i64 (uM.count:Int),.bool uM.wide,xc,xy].toArray 164:=bu.ext aJ
 have zO:=hS.JH mx.lh aJ.any (λx hx=>.inr (by cases hx;exact lR _))
 obtain⟨L1,hS,bI⟩:=zO
 have hR:=hR.add bI aJ sm
 have aF:=aF.go bI
 refine W ?_
 refine gF (o:=4) mT rfl rfl rfl bu rfl λw6 bB bu dv=>?_
 have hS:=hS.aG bB sm
 have DX:=hS.mem.2 (.inr (.inl rfl))
 have hR:=hR.aD bB DX nJ;have aF:=aF.aD bB (by simpa using DX)
 have aw:dN t8 (w1.heap.size::E) L1 w6 b true uM:=⟨_,_,_,_,_,_,_,_,bu,hS⟩
 refine aV<|zr<|zm<|aA (vV T om w6) ?_
 rintro _ w7 ⟨rfl,bJ⟩
 have jd:=bJ.size
 refine cO bJ aw hR aF λaw hR aF=>?_
 refine lg bo bm rfl rfl rfl rfl λw8 aU jK kV=>cO aU aw hR aF λaw hR aF=>?_
 refine aA ((show bC Tryz.prog 135 [str [99],_] w8 (λr w'=>r=str CO∧ak [] w8 w') from by rw[zP];exact s0 [99] [sT,bz T] (by rw[<-zP];omega) _ [] w8 (aL.dS [sT,bz T] jK sm))) ?_
 rintro _ w9 ⟨rfl,aC⟩
 have lf:=aC.size
 refine gH aC aw hR aF jK λaw hR aF jK=>?_
 clear jK
 refine W ?_
 refine lg bo bm rfl rfl rfl rfl λcB cA xT CP=>cO cA aw hR aF λaw hR aF=>?_
 refine aA ((show bC Tryz.prog 135 [str [116],_] cB (λr w'=>r=str P0∧ak [] cB w') from by rw[su];exact s0 [116] [CO,sT] (by rw[<-su];omega) _ [] cB (aL.dS [CO,sT] xT sm))) ?_
 rintro _ eC ⟨rfl,dh⟩
 have zH:=dh.size
 refine gH dh aw hR aF xT λaw hR aF xT=>?_
 clear xT
 refine zm<|xh bo bm rfl rfl rfl rfl rfl rfl λfI dw vY ajL=>?_
 have zN:=aw.open
 obtain⟨xb,xt,xc,xy,gb,gt,gc,gy,bu,hS⟩:=zN
 have yO:=hS.apart
 obtain⟨zu,nJ,vW,mE,vX,uC⟩:=yO
 have bu:aL fI b [xb,xt,.int .i64 (uM.count:Int),.bool uM.wide,xc,xy].toArray 164:=bu.ext dw
 have zO:=hS.Nl (aL.vh [sT,CO,P0,ON] vY) dw.any (λx hx=>.inr (by cases hx;exact lR _))
 obtain⟨L2,hS,bI⟩:=zO
 have hR:=hR.add bI dw sm
 have aF:=aF.go bI
 refine W ?_
 refine gF (o:=5) mT rfl rfl rfl bu rfl λjE gB bu dv=>?_
 have hS:=hS.aG gB sm
 have DX:=hS.mem.2 (.inr (.inl rfl))
 have hR:=hR.aD gB DX nJ;have aF:=aF.aD gB (by simpa using DX)
 have aw:dN t8 (w1.heap.size::E) L2 jE b true {uM with types:=[sT,CO,P0,ON]}:=⟨_,_,_,_,_,_,_,_,bu,hS⟩
 rw[<-tK] at aw
 have dk:=aw.dB
 refine aV<|zr<|zm<|fo bo bm rfl rfl λeI bS BR Dv=>cO bS aw hR aF λaw hR aF=>?_
 refine aA (k9 lY [[48]] (mF de sm (by intro z hz;simp at hz;subst hz;decide)) m0 om (w1.heap.size::E) L2 b _ eI aw (aL.dS [[48]] BR (λhx=>by have:=dk _ hx;omega))) ?_
 rintro jN oo ⟨L1,aw,bI⟩
 have hR:=hR.go bI
 clear BR
 have iF:∃x,x=m0.cM lY [[48]]:=⟨_,rfl⟩
 obtain⟨m1,lQ⟩:=iF
 rw[<-lQ] at aw
 have t1:m1.types.length=r+0:=(by rw[lQ,oR];omega)
 have c1:m1.code.length=c+1:=(by rw[lQ,pG];omega)
 have dk:=aw.dB
 have aF:=aF.go bI.fr
 refine aV<|zr<|zm<|lg bo bm rfl rfl rfl rfl λlP nq Kj HJ=>cO nq aw hR aF λaw hR aF=>?_
 refine aA (k9 sL [[49],AK] (mF de sm (by intro z hz;simp at hz;rcases hz with rfl|rfl;(·decide);(·decide))) m1 om (w1.heap.size::E) L1 b _ lP aw (aL.dS [[49],AK] Kj (λhx=>by have:=dk _ hx;omega))) ?_
 rintro jN Dw ⟨L2,aw,bI⟩
 have hR:=hR.go bI
 clear Kj
 have eA:∃x,x=m1.cM sL [[49],AK]:=⟨_,rfl⟩
 obtain⟨m2,lS⟩:=eA
 rw[<-lS] at aw
 have t2:m2.types.length=r+0:=(by rw[lS,oR];omega)
 have c2:m2.code.length=c+2:=(by rw[lS,pG];omega)
 have dk:=aw.dB
 have aF:=aF.go bI.fr
 refine aV<|zr<|zm<|qf bo bm rfl rfl rfl rfl rfl λxK DE tw O2=>cO DE aw hR aF λaw hR aF=>?_
 refine aA (k9 lY [[50],[49],[48]] (mF de sm (by intro z hz;simp at hz;rcases hz with rfl|rfl|rfl;(·decide);(·decide);(·decide))) m2 om (w1.heap.size::E) L2 b _ xK aw (aL.dS [[50],[49],[48]] tw (λhx=>by have:=dk _ hx;omega))) ?_
 rintro jN DF ⟨L3,aw,bI⟩
 have hR:=hR.go bI
 clear tw
 have zC:∃x,x=m2.cM lY [[50],[49],[48]]:=⟨_,rfl⟩
 obtain⟨m3,lT⟩:=zC
 rw[<-lT] at aw
 have t3:m3.types.length=r+0:=(by rw[lT,oR];omega)
 have c3:m3.code.length=c+3:=(by rw[lT,pG];omega)
 have dk:=aw.dB
 have aF:=aF.go bI.fr
 refine W ?_
 refine xh bo bm rfl rfl rfl rfl rfl rfl λvZ xP IG Wj=>cO xP aw hR aF λaw hR aF=>?_
 refine aA (k9 sM [[51],[50],ON,sT] (mF de sm (by intro z hz;simp at hz;rcases hz with rfl|rfl|rfl|rfl;(·decide);(·decide);(·omega);(·decide))) m3 om (w1.heap.size::E) L3 b _ vZ aw (aL.dS [[51],[50],ON,sT] IG (λhx=>by have:=dk _ hx;omega))) ?_
 rintro jN rJ ⟨L4,aw,bI⟩
 have hR:=hR.go bI
 clear IG
 have DD:∃x,x=m3.cM sM [[51],[50],ON,sT]:=⟨_,rfl⟩
 obtain⟨m4,oW⟩:=DD
 rw[<-oW] at aw
 have t4:m4.types.length=r+0:=(by rw[oW,oR];omega)
 have c4:m4.code.length=c+4:=(by rw[oW,pG];omega)
 have dk:=aw.dB
 have aF:=aF.go bI.fr
 have gV:=hR.iy XP XQ
 refine W ?_
 refine iT (alV _ _ _ _ _ _ _ _) rfl rfl<|cu (vs:=[str CC,.slice none 0 0,.int .i64 0,.slice none 0 0,.slice none 0 0,.slice none 0 0,.slice none 0 0,str e.au.av,.slice ar e.au.ai.length cr,.int .i64 3,str ON,.int .i64 0]) mS rfl rfl rfl gV rfl λK0 Ii gV dv=>?_
 have hL6:=aw.sub XQ
 have aw:=aw.aG Ii sm
 have wg:=aw.drop
 obtain⟨L6,PO,aw⟩:=wg
 have h6n:w1.heap.size∉E:=(λhx=>by have:=lU _ (h.sub hx);omega)
 have XR:=((qu.go hR.alW).aD Ii hL6 h6n).sub (L2:=L6) (λz hz=>by rw[PO];simp[hz])
 have al2:=cX.go aQ XR.fr
 refine W ?_
 subst oW lT lS lQ
 exact⟨[_],fB SM mS rfl gV rfl,_,_,_,_,_,_,L6,by unfold Hv;rw[<-Lm];rfl,⟨.nil _ _ _,.nil _ _ _,.nil _ _ _,.nil _ _ _,.nil _ _ _,al2⟩,aw,XR⟩
theorem dO.al3 {T:TypeId} {n c:Nat} {g:Option Nat} {row:List C} (h:dO L w T sz (.slice (some ⟨b,0,none⟩) n c) g rows) (hi:rows[i]?=some row):∃vs,vs.length=sz∧gJ w b (0+i*sz) vs∧dd L w vs row:=by
 obtain⟨xs,dH,iJ⟩:=h.own
 have oI:row.length=sz:=h.row row (List.mem_of_getElem? hi)
 have mG:i<rows.length:=(List.getElem?_eq_some_iff.1 hi).1
 rcases dH.2 with⟨h0,_⟩|⟨b',cap,cur,e,hv,hb,mI,mH,cG,ht⟩
 ·cases h0
 ·cases hv
  have hlen:xs.length=rows.length*sz:=dH.1
  have hmul:(i+1)*sz<=rows.length*sz:=Nat.mul_le_mul_right _ om
  have wq:(i+1)*sz=i*sz+sz:=by rw[Nat.add_mul,Nat.one_mul]
  have hl:((xs.drop (i*sz)).take sz).length=sz:=by rw[List.length_take,List.length_drop];omega
  have jr:∀j v,((xs.drop (i*sz)).take sz)[j]?=some v->j<sz∧xs[i*sz+j]?=some v:=λj v hv=>by
   rw[List.getElem?_take] at hv
   split at hv
   ·rename_i hj
    rw[List.getElem?_drop] at hv
    exact⟨hj,hv⟩
   ·cases hv
  refine⟨(xs.drop (i*sz)).take sz,hl,λj v hv=>?_,dd.of (by rw[hl,oI]) λj v c hv hc=>?_⟩
  ·obtain⟨_,hx⟩:=jr j v hv
   rw[Nat.zero_add,hb.cell]
   rw[<-ht,List.getElem?_take] at hx
   split at hx
   ·simpa using hx
   ·cases hx
  ·obtain⟨_,hx⟩:=jr j v hv
   exact iJ.get hx (FU h.row hi hc)
theorem dN.start {gb gt:Nat} (hb:aL w b [.slice (some ⟨gb,0,none⟩) 0 0,.slice (some ⟨gt,0,none⟩) 0 0,.int .i64 0,.bool false,.slice none 0 0,.slice none 0 0].toArray 164) (h1:aL w gb #[] 58) (h2:aL w gt #[] 166) (h3:gb<gt) (h4:gt<b):dN t8 [] [b,gb,gt] w b true uM:=by
 refine⟨_,_,_,_,some gb,some gt,none,none,hb,⟨NO h1,NO h2,.inl ⟨rfl,⟨by simp[uM],.inl ⟨rfl,rfl,rfl⟩⟩⟩,⟨by simp[uM],.inl ⟨rfl,rfl,rfl⟩⟩,rfl,?_,λx hx=>?_⟩⟩
 ·simp;omega
 ·have:=hb.lt
  simp at hx;rcases hx with rfl|rfl|rfl<;>omega
theorem al4 {ts:List Tk} (hi:i<ts.length):(ts.map Tk.enc)[i]?=some (ij ts i).enc:=by
 rw[List.getElem?_map,gE hi];simp[ij,gE hi]
theorem al5 (bj:e.ok) (ht:bD e []=some T) (hn:e.n<=120):(sd e T).blocks=[]∧(sd e T).code.length<10000:=by
 obtain⟨new,h⟩:=U5 bj ht hn
 have h4:=h.ext.code
 have h6:(s9 T).code.length=4:=rfl
 exact⟨h.ext.blocks,om⟩
theorem al6 (h:se m i) (hi:i<m.bP.length):(mv (ij m.bP i).expr.n ⟨qP m (ij m.bP i),(ij m.bP i).sc,(ij m.bP i).on,(ij m.bP i).bc⟩ (ij m.bP i).expr).blocks.length<100000∧(qP m (ij m.bP i)).code.length<=1100∧(qP m (ij m.bP i)).bP.length<80000∧(ij m.bP i).expr.n<=120∧i<999∧oN (ij m.bP i)∧oa (qP m (ij m.bP i)) (ij m.bP i).sc (ij m.bP i).on (ij m.bP i).bc (ij m.bP i).expr∧(ij m.bP i).regs.length<10000:=by
 obtain⟨hT,hc,hl⟩:=h.task hi
 have hb:=N5 (m:=m) hT
 have hA:=U2 hT hc
 obtain⟨new,hF⟩:=J9 _ hA (lR _)
 have e4:=hF.ext.blocks
 have h1:=hb.code
 have h2:=hT.room
 have h3:=hT.bud
 have h5:=h.bnum
 have h6:(if(ij m.bP i).self=[] then 0 else 3)<=3:=by split<;>omega
 refine⟨by rw[e4,hb.blocks];omega,om,by rw[hb.bP];omega,om,om,hT,hA,om⟩
theorem al7 (e:Ex) (T:Ty) (bj:e.ok) (ht:bD e []=some T) (hn:e.n<=120) (v:Value) (w:World) (hv:bh [] w v e.au):
  bC Tryz.prog 129 [v,str T.text] w λr w'=>(∃vb g,r= .tuple #[vb,.bool (!(ofM e T).wide)]∧Gr w.heap.size [] w' 58 3 vb g ((ofM e T).blocks.map Bk.enc))∧ak [] w w':=by
 obtain⟨ar,nr,cr,rfl,qv,aQ⟩:=cS hv
 subst qv
 have IF:=lX (Γ:=[]) (λs T h=>by simp[look] at h) ht
 have gP:bh [] w _ e.au:=hv
 have hK:=ak.refl [] w
 obtain⟨XS,ar3⟩:=al5 bj ht hn
 refine cj [.tmp 4,.tmp 5] 67 Tryz.func129 rfl abV rfl rfl ?_
 refine zr<|ey rfl λw1 aI aO di=>?_
 have hK:=hK.ext aI
 refine W ?_
 refine gA jH fD λw2 az kD dK=>bL az hK aO λhK aO=>?_
 refine gA Az mS λw3 aH iY fS=>cO aH hK aO kD λhK aO kD=>?_
 refine iT (aea _ _ _ _ _ _ _) rfl rfl<|ey rfl λw4 aN mx ga=>gH aN hK aO kD iY λhK aO kD iY=>?_
 refine W ?_
 refine aA (alY e T IF [] [w3.heap.size,w1.heap.size,w2.heap.size] w3.heap.size _ w4 (dN.start mx kD iY om om) ((gP.fresh (L':=[w3.heap.size,w1.heap.size,w2.heap.size]) (λx hx=>by right;simp at hx;rcases hx with rfl|rfl|rfl<;>omega)).ext hK)) ?_
 rintro jN w5 ⟨v1,v3,v4,v5,v6,v8,L1,sk,il,aw,bI⟩
 subst sk
 have hF:=bI.fr
 have xN:=hK
 have uJ:=aw.dB
 clear kD iY mx
 refine da mS rfl rfl rfl λw6 bB cL l4=>?_
 have dA:=bB
 refine cu mS rfl rfl il.one cL rfl λw7 bJ cL dv=>?_
 have dA:=dA.since bJ (λx hx=>.inr (by simp at hx;omega))
 have aw:=aw.tx dA sm (lR _) cL.lt
 have xQ:=((ei.refl [] L1 w5).more dA sm (lR _) sm).fr
 have fY:ig (w5.heap.size::L1) w7 166 w5.heap.size (Hv e T):=⟨_,_,_,_,_,_,cL,il.go xQ⟩
 have hF:=hF.go xQ
 refine aV<|zr<|zm<|aA (XC (Hv e T) (s9 T) (U4 bj ht hn) hn (show(s9 T).code.length<=1100 from by show 4<=1100;omega) (show(0:Nat)<80000 from om) [w5.heap.size] (w5.heap.size::L1) w3.heap.size w5.heap.size w7 aw fY sm) ?_
 rintro KR w8 ⟨L2,aw,_,kv⟩
 have hF:=hF.go kv
 have aw:dN t8 [w5.heap.size] L2 w8 w3.heap.size true (sd e T):=aw
 have DM:=aw.dB
 refine aV<|zr<|zm<|gA bo bm λw9 aC vL dv=>bL aC aw hF λaw hF=>?_
 refine aA (Pf CC [] sm (sd e T) (by rw[XS];simp) [w5.heap.size] L2 w3.heap.size _ w9 aw (vL.lh.rep (λx hx mJ=>by have:=DM x mJ;simp at hx;omega))) ?_
 rintro K7 cB ⟨L3,aw,bI⟩
 have hF:=hF.go bI.fr
 clear vL
 refine aV<|zr<|zm<|fo bo bm rfl rfl λeC dh Dx ajV=>?_
 have zN:=aw.open
 obtain⟨xb,xt,xc,xy,gb,gt,gc,gy,bu,hS⟩:=zN
 have yO:=hS.apart
 obtain⟨zu,nJ,vW,mE,vX,uC⟩:=yO
 have bu:=bu.ext dh
 have zO:=hS.JH (aL.vh [[40,104,97,108,116,32,49,41]] Dx) dh.any (λx hx=>.inr (by cases hx;exact lR _))
 obtain⟨L4,hS,bI⟩:=zO
 have hF:=hF.go bI
 refine W ?_
 refine gF (o:=4) mT rfl rfl rfl bu rfl λfI dw bu dv=>?_
 have hS:=hS.aG dw sm
 have hF:=hF.aD dw (by simpa using hS.mem.2 (.inr (.inl rfl)))
 have aw:dN t8 [w5.heap.size] L4 fI w3.heap.size true {(C4 (sd e T) CC []) with code:=[[40,104,97,108,116,32,49,41]]}:=⟨_,_,_,_,_,_,_,_,bu,hS⟩
 refine W ?_
 refine aA (vV T om fI) ?_
 rintro _ jE ⟨rfl,gB⟩
 have H3:=gB.size
 refine bL gB aw hF λaw hF=>?_
 have al8:=aw.dB
 refine lg bo bm rfl rfl rfl rfl λeI bS BR Dv=>bL bS aw hF λaw hF=>?_
 refine aA (Pf AK [sT,bz T] sm {(C4 (sd e T) CC []) with code:=[[40,104,97,108,116,32,49,41]]} (show((sd e T).blocks++[_]).length<100000 from by rw[XS];simp) [w5.heap.size] L4 w3.heap.size _ eI aw (aL.dS [sT,bz T] BR (λhx=>by have:=al8 _ hx;omega))) ?_
 rintro v31 oo ⟨L5,aw,bI⟩
 have hF:=hF.go bI.fr
 have aw:dN t8 [w5.heap.size] L5 oo w3.heap.size false (C5 e T):=aw
 clear BR
 refine W ?_
 refine eO (λi:Nat=>[(6,.pointer (some ⟨w3.heap.size,0,none⟩)),(8,.int .i64 (i:Int))]) (λi ww=>∃m9 L9,dN t8 [w5.heap.size] L9 ww w3.heap.size false m9∧se m9 i∧ofM e T=yR (1000-i) m9 i∧Fr [w3.heap.size,w1.heap.size,w2.heap.size] w4 L9 ww∧i<=1000) (λi=>1000-i) (0) (⟨rfl,rfl⟩) (⟨C5 e T,L5,aw,N7 bj ht hn,rfl,hF,om⟩) λgg lP BS hI=>?_
 obtain⟨m9,L9,aw,XT,Ir,hF,hi⟩:=hI
 have zN:=aw.open
 obtain⟨xb,xt,xc,xy,gb,gt,gc,gy,bu,hS⟩:=zN
 have fP:=hS.ta.len
 obtain⟨at9,ct9,et9⟩:=fP
 subst et9
 have bu:aL lP w3.heap.size [xb,.slice at9 (m9.bP.map Tk.enc).length ct9,.int .i64 (m9.count:Int),.bool m9.wide,xc,xy].toArray 164:=bu
 have Ec:(m9.bP.map Tk.enc).length=m9.bP.length:=List.length_map ..
 refine W ?_
 refine zc rfl (λh1=>?_) (λh1=>?_)
 have lp:gg<m9.bP.length:=om
 have mu:=al6 XT lp
 obtain⟨df,dz,eM,fg,mn,XU,Fi,ku⟩:=mu
 have Ff:=hS.ta.form om
 obtain⟨bq,cq,eq9,eg9⟩:=Ff
 cases eq9
 have EC:=hS.ta.al3 (al4 lp)
 obtain⟨vs9,amc,amd,ame⟩:=EC
 have P2:=afa ame
 obtain⟨y1,y3,y4,y5,y6,y8,evs,il⟩:=P2
 subst evs
 have qh:∃z,z=ij m9.bP gg:=⟨_,rfl⟩
 obtain⟨tz,P3⟩:=qh
 rw[<-P3] at df dz eM fg XU Fi ku il amd amc
 have mc:=aw
 have Il:=hF
 have OX:=aw.dB
 have hw9:=ak.refl [] lP
 refine W ?_
 refine da mS rfl rfl rfl λDw zv dj ar7=>?_
 have dA:=zv
 refine cu mS rfl rfl il.one dj rfl λxK DE dj dv=>?_
 have dA:=dA.since DE (λx hx=>.inr (by simp at hx;omega))
 have aw:=mc.tx dA sm (lR _) dj.lt
 have xQ:=((ei.refl [] L9 lP).more dA sm (lR _) sm).fr
 have fY:ig (lP.heap.size::L9) xK 166 lP.heap.size tz:=⟨_,_,_,_,_,_,dj,il.go xQ⟩
 have hF:=Il.go xQ
 refine aV<|zr<|zm<|aA (alD tz m9 XU false [lP.heap.size,w5.heap.size] (lP.heap.size::L9) w3.heap.size lP.heap.size xK aw fY sm) ?_
 rintro v49 DF ⟨L6,aw,bI⟩
 have fY:=bI.tk fY sm
 have hF:=hF.go bI.fr
 refine aV<|zr<|zm<|aA (XC tz (qP m9 tz) Fi fg dz eM [lP.heap.size,w5.heap.size] L6 w3.heap.size lP.heap.size DF aw fY sm) ?_
 rintro v51 vZ ⟨L7,aw,⟨t',fY,eN,hr9⟩,kv⟩
 have hF:=hF.go kv
 have ke:=fY
 obtain⟨u1,u3,u4,u5,u6,u8,dx,DO⟩:=ke
 have nK:=DO.regs
 have cG:=dU DO.regs
 obtain⟨a1,n1,c1,e1,fj⟩:=cG
 subst e1
 have nK:=DO.regs
 rw[hr9] at nK
 have dx:aL vZ lP.heap.size [str t'.aM,.slice a1 n1 c1,.int .i64 (t'.loads:Int),u3,u4,u5,u6,str t'.expr.au.av,u8,.int .i64 (t'.on:Int),str t'.bc,.int .i64 (t'.next:Int)].toArray 166:=dx
 rw[eN] at dx
 refine W ?_
 refine aA (Pf tz.aM tz.regs ku (mv tz.expr.n ⟨qP m9 tz,tz.sc,tz.on,tz.bc⟩ tz.expr) df [lP.heap.size,w5.heap.size] L7 w3.heap.size _ vZ aw nK) ?_
 rintro v57 rJ ⟨L8,aw,bI⟩
 have hF:=hF.go bI.fr
 have wg:=aw.drop
 obtain⟨Lx,eLx,aw⟩:=wg
 have hF:=hF.go ((Fr.refl L8 rJ).to (L2:=Lx) (λz hz=>.inl (by rw[eLx];simp[hz])))
 have aw:dN t8 [w5.heap.size] Lx rJ w3.heap.size false (ER m9 tz):=aw
 have aW:=XT.step lp
 rw[<-P3] at aW
 have XV:=U8 lp (999-gg)
 rw[<-P3,show 999-gg+1=1000-gg from by omega,show 999-gg=1000-(gg+1) from by omega] at XV
 refine W ?_
 exact⟨gg+1,⟨rfl,rfl⟩,⟨ER m9 tz,Lx,aw,aW,Ir.trans XV,hF,om⟩,om⟩
 have lp:¬gg<m9.bP.length:=om
 rw[U7 lp] at Ir
 have di:=xN.size
 have dK:=hF.aG.size
 have P4:Gr w.heap.size [] lP 58 3 xb gb (m9.blocks.map Bk.enc):=hS.bl.gr (λx hx=>hS.mem.2 (by simp at hx;simp[hx])) (λb hb=>by have h9:=hF.mem b (hS.mem.2 (by simp[hb]));rcases h9 with h9|h9;(·simp at h9;rcases h9 with rfl|rfl|rfl<;>omega);(·omega)) om
 refine WZ ?_
 apply dV du 11 [58,59,60,61,62,63,64,65,66,4,5] [[],[0],[1],[2],[],[4],[5],[6],[7],[3],[8]] (it [_,_,_,_,_,_,_,_,_,_,_]) de rfl
 intro wd aB
 exact VZ
 intro x BY DL
 refine bL DL hF P4 λhF P4=>?_
 change OW _ _ _ _ [] (aS (aR _ x _) (zZ 58 [_,_,_,_,_,_,_,_,_]++[(4,_),(5,_)])) _
 refine W ?_
 rw[Ir]
 exact⟨_,rfl,⟨xb,gb,rfl,P4⟩,xN.since hF.aG (λx hx=>.inr (by simp at hx;rcases hx with rfl|rfl|rfl<;>omega))⟩
theorem P5:∀(k:Nat) {m:Mk} {i:Nat},se m i->∃j,se (yR k m i) j
 |0,_,i,h=>⟨i,h⟩
 |k+1,m,i,h=>by
  by_cases hi:i<m.bP.length
  ·rw[U8 hi];exact P5 k (h.step hi)
  ·rw[U7 hi];exact⟨i,h⟩
theorem amg (bj:e.ok) (ht:bD e []=some T) (hn:e.n<=120):tU (ofM e T).blocks:=by
 obtain⟨j,hj⟩:=P5 1000 (N7 bj ht hn)
 exact hj.small
def DZ (s:aj) (f:Ex) (T:Ty):Prop:=∃e:Ex,bA s=some e.au∧e.ok∧e.n<=120∧nQ e=some f∧mw f.au.text=true∧bD e []=some T
def FI (s:aj) (ok:Bool) (bs:List Bk):Prop:=(ok=true->∃f T,DZ s f T∧(ofM f T).wide=false∧iB (ofM f T).blocks=true∧bs=(ofM f T).blocks)∧(ok=false->bs=[]∧∀f T,DZ s f T->¬((ofM f T).wide=false∧iB (ofM f T).blocks=true))
theorem XW (bj:f.ok) (hx:mw f.au.text=true):bA f.au.text=some f.au∧f.n<=120:=by
 obtain⟨e2,h1,h2,h3⟩:=xk.1 hx
 have h4:=(pU h1).2.2.1
 have h5:=My (Ex.wf h2) (Ex.wf bj) h4
 have h6:=qS h2 bj h5
 subst h6
 exact⟨h1,h3⟩
theorem amh {s:aj} (h:DZ s f T):f.ok∧bD f []=some T∧f.n<=120∧bA f.au.text=some f.au:=by
 obtain⟨e,h1,h2,h3,h4,h5,h6⟩:=h
 have h7:=Ni h2 h4
 obtain⟨h8,h9⟩:=XW h7 h5
 exact⟨h7,Tl h2 h6 h4,h9,h8⟩
theorem Ln {s:aj} {f':Ex} {T':Ty} (h:DZ s f T) (h':DZ s f' T'):f=f'∧T=T':=by
 obtain⟨e,h1,h2,h3,h4,h5,h6⟩:=h
 obtain⟨e',k1,k2,k3,k4,k5,k6⟩:=h'
 have he:=qS h2 k2 (Option.some.inj (h1.symm.trans k1))
 subst he
 rw[h4] at k4
 rw[h6] at k6
 exact⟨Option.some.inj k4,Option.some.inj k6⟩
theorem ami:DZ K5 qZ .i:=⟨qZ,WX,Pu,by decide,aj2,by
 rw[WW];exact xk.2 ⟨qZ,WX,Pu,by decide⟩,type12⟩
theorem amj {ok:Bool} (h:FI K5 ok bs):ok=true:=by
 cases ok with
 |true=>rfl
 |false=>exact absurd ⟨aj3,aj4⟩ ((h.2 rfl).2 _ _ ami)
theorem FI.aM {s:aj} {ok:Bool} (h:FI s ok bs):∀b,b∈bs->b.aM.length<=10:=by
 cases ok with
 |true=>
  obtain⟨f,T,h1,_,_,rfl⟩:=h.1 rfl
  obtain⟨h2,h3,h4,_⟩:=amh h1
  obtain⟨j,hj⟩:=P5 1000 (N7 h2 h3 h4)
  exact hj.labels
 |false=>rw[(h.2 rfl).1];intro b hb;cases hb
theorem FI.prog {s:aj} (h:FI s true bs):iB bs=true:=by
 obtain⟨f,T,_,_,h3,rfl⟩:=h.1 rfl
 exact h3
theorem XX (s:aj) (w:World):bC Tryz.prog 93 [str s] w λr w'=>(∃v ok bs,r= .tuple #[v,.bool ok]∧mO [] w' v bs∧FI s ok bs∧(ok=true->∃g,Gr w.heap.size [] w' 58 3 v g (bs.map Bk.enc)))∧ak [] w w':=by
 have hK:=ak.refl [] w
 refine cj [.tmp 2,.tmp 3] 44 Tryz.func93 rfl ad1 rfl rfl ?_
 refine W ?_
 refine aA (aiA s w) ?_
 rintro v1 w1 ⟨fK,aI⟩
 have df:=aI.size
 have hK:=hK.ext aI
 have eu:=fK
 obtain⟨x0,XY,e0,Ad,hx0⟩:=eu
 subst e0
 refine W ?_
 refine x4 (t:=17) rfl (λh1=>?_) (λh1=>?_)
 replace h1:=jy h1
 have gq:XY=false:=by simpa using h1
 refine W ?_
 refine zc rfl (λh2=>?_) (λh2=>?_)
 refine zr<|gA jH fD λw2 az uA dK=>?_
 have hK:=hK.ext az
 refine W ?_
 exact⟨_,rfl,⟨_,false,[],rfl,ck.nil _ _ _,⟨λh=>by(cases h),λ_=>⟨rfl,λf T ⟨e,h1,h2,h3,h4,h5,h6⟩=>by rw[Ad.2 ⟨e,f,h1,h2,h3,h4,h5⟩] at gq;cases gq⟩⟩,λh=>by(cases h)⟩,hK⟩
 simp at h2
 replace h1:=jy h1
 have gq:XY=true:=(by simpa using h1)
 have hex:=Ad.1 gq
 obtain⟨e,f,xv,bj,hn,hf,eA⟩:=hex
 have hxe:=hx0 e f xv bj hf gq
 subst hxe
 have BI:=Ni bj hf
 have Ou:=XW BI eA
 obtain⟨sW,KP⟩:=Ou
 have ot:Dt s (eS (bD e [])):=⟨λh=>(by rw[xk.2 ⟨e,xv,bj,hn⟩] at h;cases h),λe' h1 h2 h3=>by rw[qS h2 bj (Option.some.inj (h1.symm.trans xv))]⟩
 refine zm<|aA (aji s w1) ?_
 rintro v2 w2 ⟨gP,az⟩
 have dz:=az.size
 have hK:=hK.ext az
 have eu:=gP
 obtain⟨b9,e9,dj⟩:=eu
 subst e9
 have dj:=dj _ ot
 refine W ?_
 refine zc rfl (λh3=>?_) (λh3=>?_)
 have fh:bD e []=none:=Wp (by have jB:b9=false:=(by simpa using h3);rw[jB] at dj;simpa using dj.symm)
 refine zr<|gA jH fD λw3 aH uA fS=>?_
 have hK:=hK.ext aH
 refine W ?_
 exact⟨_,rfl,⟨_,false,[],rfl,ck.nil _ _ _,⟨λh=>by(cases h),λ_=>⟨rfl,λf' T ⟨e',h1,h2,h3,h4,h5,h6⟩=>by rw[qS h2 bj (Option.some.inj (h1.symm.trans xv)),fh] at h6;cases h6⟩⟩,λh=>by(cases h)⟩,hK⟩
 have fh:=Wq (o:=bD e []) (by have jB:b9=true:=(by simpa using h3);rw[jB] at dj;simpa using dj.symm)
 obtain⟨T,fh⟩:=fh
 rw[fh] at ot
 have ot:Dt s T.text:=ot
 have O8:=Tl bj fh hf
 have lk:DZ s f T:=⟨e,xv,bj,hn,hf,eA,fh⟩
 refine gX<|zr<|zm<|aA (Hz f.au.text [] w2 sm) ?_
 rintro v3 w3 ⟨ka,aH⟩
 have eM:=aH.size
 have hK:=hK.ext aH
 have eu:=ka
 obtain⟨t,tv,e9,qh,hp⟩:=eu
 subst e9
 have e2:=hp.1 _ sW
 subst e2
 have cG:=cS qh
 obtain⟨pa,pn,pc,e9,dZ,aQ⟩:=cG
 subst e9
 subst dZ
 have ni:=hK.size
 refine W ?_
 refine da aK rfl rfl rfl λw4 aN bK jR=>?_
 have hK:=hK.ext aN
 have dA:=aN
 refine cu (vs:=[str f.au.av,.slice pa f.au.ai.length pc]) aK rfl rfl rfl bK rfl λw5 aJ bK dv=>?_
 have hK:=hK.since aJ (λx hx=>.inr (by simp at hx;omega))
 have dA:=dA.since aJ (λx hx=>.inr (by simp at hx;omega))
 have qh:=qh.ext dA
 refine W ?_
 apply wX du 9 (rA 29 4++[28,33,34,8,9]) (rA 29 4++[28,33,34,8,9]) [[],[],[1],[0,2],[3],[4],[4],[5],[6]] [It.v _,It.v _,It.v _,It.p (fun(v:Value) (ww:World)=>∃vb g,v= .tuple #[vb,.bool (!(ofM f T).wide)]∧Gr w.heap.size [] ww 58 3 vb g ((ofM f T).blocks.map Bk.enc)),It.p (fun(v:Value) (ww:World)=>∃vb g,v= .tuple #[vb,.bool (!(ofM f T).wide)]∧Gr w.heap.size [] ww 58 3 vb g ((ofM f T).blocks.map Bk.enc)),It.p (fun(v:Value) (ww:World)=>∃g,Gr w.heap.size [] ww 58 3 v g ((ofM f T).blocks.map Bk.enc)),It.v _,It.p (fun(v:Value) (ww:World)=>∃g,Gr w.heap.size [] ww 58 3 v g ((ofM f T).blocks.map Bk.enc)),It.v _] de (by exact⟨λv w w' ⟨vb,g,h1,h2⟩ k=>⟨vb,g,h1,h2.ext k⟩,λv w w' ⟨vb,g,h1,h2⟩ k=>⟨vb,g,h1,h2.ext k⟩,λv w w' ⟨g,h⟩ k=>⟨g,h.ext k⟩,λv w w' ⟨g,h⟩ k=>⟨g,h.ext k⟩,trivial⟩)
 intro wd aB
 refine VA ?_
 refine vk aB (λx w6 bB=>?_) ?_
 refine aA (Wv s w6) ?_
 rintro v7 w7 ⟨vN,bJ⟩
 have jd:=bJ.size
 have eu:=vN
 obtain⟨x9,e9,jF⟩:=eu
 have jF:=Wu jF ot
 subst jF
 subst e9
 exact pk bJ
 refine vk aB (λx w6 bB=>?_) ?_
 refine bL bB hK qh λhK qh=>?_
 have yx:=hK.size
 refine aA (al7 f T BI O8 KP _ w6 qh) ?_
 rintro v7 w7 ⟨vN,bJ⟩
 have jd:=bJ.size
 have eu:=vN
 obtain⟨Lg,g9,e9,FB⟩:=eu
 have FB:=FB.down (B':=w.heap.size) om
 exact pf bJ (⟨Lg,g9,e9,FB⟩)
 refine vc (λx w6 bB=>?_) ?_
 intro v3 d3
 refine WZ ?_
 exact pf (ak.refl _ _) d3
 refine vc (λx w6 bB=>?_) ?_
 intro v4 d4
 obtain⟨Lg,g9,e9,PN⟩:=d4
 subst e9
 refine WZ ?_
 exact pf (ak.refl _ _) (⟨g9,PN⟩)
 refine vc (λx w6 bB=>?_) ?_
 intro v4 d4
 obtain⟨Lg,g9,e9,PN⟩:=d4
 subst e9
 refine WZ ?_
 exact pv
 refine vc (λx w6 bB=>?_) ?_
 intro v5 d5
 refine WZ ?_
 exact pf (ak.refl _ _) d5
 exact VZ
 intro x qb qN
 intro v3 d3
 intro v4 d4
 intro v5 d5
 intro v7 d7
 have hK:=hK.ext qN
 change OW _ _ _ _ [] (aS (aR _ x _) (zZ 29 [_,_,_,_]++[(28,_),(33,_),(34,_),(8,_),(9,_)])) _
 obtain⟨g5,IH⟩:=d7
 refine W ?_
 refine x4 (t:=37) rfl (λh4=>?_) (λh4=>?_)
 replace h4:=jy h4
 have P6:(ofM f T).wide=true:=by simpa using h4
 refine W ?_
 refine zc rfl (λh5=>?_) (λh5=>?_)
 refine zr<|gA jH fD λqt oY amm ar8=>?_
 have hK:=hK.ext oY
 refine W ?_
 exact⟨_,rfl,⟨_,false,[],rfl,ck.nil _ _ _,⟨λh=>by(cases h),λ_=>⟨rfl,λf' T' hc hw=>by rw[(Ln hc lk).1,(Ln hc lk).2,P6] at hw;cases hw.1⟩⟩,λh=>by(cases h)⟩,hK⟩
 simp at h5
 replace h4:=jy h4
 have P6:(ofM f T).wide=false:=(by simpa using h4)
 refine zm<|aA (NC (ofM f T).blocks (amg BI O8 KP) _ [] qb IH.tR) ?_
 rintro _ qt ⟨rfl,oY⟩
 have Lo:=oY.size
 refine bL oY hK IH λhK IH=>?_
 refine W ?_
 refine zc rfl (λh6=>?_) (λh6=>?_)
 have P7:iB (ofM f T).blocks=false:=(by simpa using h6)
 refine zr<|gA jH fD λl5 jz amm ar9=>?_
 have hK:=hK.ext jz
 refine W ?_
 exact⟨_,rfl,⟨_,false,[],rfl,ck.nil _ _ _,⟨λh=>by(cases h),λ_=>⟨rfl,λf' T' hc hw=>by rw[(Ln hc lk).1,(Ln hc lk).2,P7] at hw;cases hw.2⟩⟩,λh=>by(cases h)⟩,hK⟩
 have P7:iB (ofM f T).blocks=true:=(by simpa using h6)
 refine W ?_
 exact⟨_,rfl,⟨_,true,_,rfl,IH.tR,⟨λ_=>⟨f,T,lk,P6,P7,rfl⟩,λh=>by(cases h)⟩,λ_=>⟨g5,IH⟩⟩,hK⟩
theorem amn {a:Nat} (ha:a<4611686018427387904) (hb:b<4611686018427387904):IntKind.i64.wrap ((a%2^IntKind.i64.bits^^^b%2^IntKind.i64.bits:Nat):Int)=((a^^^b:Nat):Int):=by
 have hx:a^^^b<2^62:=Nat.xor_lt_two_pow om om
 have h1:a%2^IntKind.i64.bits=a:=Nat.mod_eq_of_lt (show a<2^64 by omega)
 have h2:b%2^IntKind.i64.bits=b:=Nat.mod_eq_of_lt (show b<2^64 by omega)
 rw[h1,h2]
 exact wrap_i64 _ om om
section
variable {P:Program} {n:Nat} {ops:Array Oper} {K:Env->World->Prop} {rest:List Oper} {e:Env} {w:World} {dst:Option Nat} {ty T T':TypeId} {pos:String} {after:Array Edge} {g:Option (Nat×Bool)} {x y:Operand}
theorem amo {a:Nat} (hg:gate ops e g=true) (hd:cC n dst=true) (hx:ev e x= .int .i64 (a:Int)) (hy:ev e y= .int .i64 (b:Int)) (ha:a<4611686018427387904) (hb:b<4611686018427387904) 
  (c':OW P n ops K rest (bY e dst (.int .i64 ((a^^^b:Nat):Int))) w):OW P n ops K (⟨dst,.binOp .xor T x y T',ty,pos,after,g⟩::rest) e w:=
 fA hg hd (by simp[execOp,eqGuard,hx,hy,binOp,Op.intBits,amn ha hb]) c'
end
theorem XZ {len cap size h:Nat} (hr:ck L w (.slice (some ⟨b,off,none⟩) len cap) (.sl size rows)) (hh:h<=len):ck L w (.slice (some ⟨b,off,none⟩) h cap) (.sl size (rows.take h)):=by
 cases hr with
 |nil=>rw[List.take_nil,show h=0 from by omega];exact .nil _ _ _
 |sl _ _ _ _ _ _ f hl hc hb hL hs kz iJ=>
  exact .sl b off h cap size (rows.take h) f (by rw[List.length_take];omega) om hb hL (λrow hr=>hs row (List.mem_of_mem_take hr)) (λk j hk hj=>kz k j om hj) (λk j row c hk hj=>iJ k j row c (by
   rw[List.getElem?_take] at hk
   split at hk
   ·exact hk
   ·cases hk) hj)
section
variable {P:Program} {n:Nat} {ops:Array Oper} {K:Env->World->Prop} {rest:List Oper} {e:Env} {w:World} {dst:Option Nat} {ty T:TypeId} {pos:String} {after:Array Edge} {g:Option (Nat×Bool)} {x:Operand}
theorem X0 {L:List Nat} {E:TypeId} {bytes:Nat} {z:Value} {hi:Operand} {b off len cap h:Nat} {k:IntKind} (hT:P.underlying T=some (.slice E)) (hE:TI P E sz bytes z) (hg:gate ops e g=true) (hd:cC n dst=true) 
  (hx:ev e x= .slice (some ⟨b,off,none⟩) len cap) (F0:ev e hi= .int k (h:Int)) (hl:h<=len) {rows:List (List C)} (hr:ck L w (.slice (some ⟨b,off,none⟩) len cap) (.sl sz rows))
  (c:OW P n ops K rest (bY e dst (.slice (some ⟨b,off,none⟩) h cap)) w):OW P n ops K (⟨dst,.slice T x none (some hi) none,ty,pos,after,g⟩::rest) e w:=by
 have D9:len<=cap:=by cases hr with|nil=>exact Nat.zero_le _|sl _ _ _ _ _ _ _ hl hc=>exact hc
 have h2:h<=cap:=Nat.le_trans hl D9
 refine fA hg hd (v:=.slice (some ⟨b,off,none⟩) h cap) (w':=w) ?_ c
 simp[execOp,Instr.sliceAt,Instr.slice,hx,F0,run_underlying hT,Instr.sliceBounds,Instr.sliceBound,asIntOf,h2,hE.tL,wu]
end
def rO (bs:List UInt8):List (List C):=bs.map λc=>[.val (.int .u8 (c.toNat:Int))]
theorem FJ (bs:List UInt8):(rO bs).length=bs.length:=by simp[rO]
theorem Lp {a:Option Addr} {n c:Nat} {bs:List UInt8} (h:ck L w (.slice a n c) (.sl 1 (rO bs))) (hi:i<bs.length):∃b off x,a=some ⟨b,off,none⟩∧fM L w b (off+i*1) [.int .u8 ((x:UInt8).toNat:Int)]:=by
 obtain⟨b,off,vs,ha,hb,hL,hl,hc,hr⟩:=z8 h (i:=i) (row:=[.val (.int .u8 ((bs[i]).toNat:Int))]) (by simp[rO,gE hi])
 obtain⟨u,hu⟩:∃u,vs=[u]:=by
  match vs,hl with
  |[u],_=>exact⟨u,rfl⟩
 subst hu
 obtain⟨h1,_⟩:=hr
 cases h1
 exact⟨b,off,bs[i],ha,hc,hb,hL⟩
def dM (w:World) (br q:Nat):Prop:=∃a n c p bs,aL w br [.slice a n c,.int .i64 ((p:Nat):Int)].toArray 102∧p<=q∧(∀L:List Nat,(∀x,x∈L->br<=x)->ck L w (.slice a n c) (.sl 1 (rO bs)))∧n<=1000000000
theorem dM.ext {br:Nat} (h:dM w br q) (k:ak [] w w'):dM w' br q:=let⟨a,n,c,p,bs,h1,h2,h3,h4⟩:=h;⟨a,n,c,p,bs,h1.ext k,h2,λL hL=>ck.ext (h3 L hL) k,h4⟩
theorem dM.more {br q':Nat} (h:dM w br q) (hq:q<=q'):dM w br q':=let⟨a,n,c,p,bs,h1,h2,h3,h4⟩:=h;⟨a,n,c,p,bs,h1,Nat.le_trans h2 hq,h3,h4⟩
theorem dM.lt {br:Nat} (h:dM w br q):br<w.heap.size:=let⟨_,_,_,_,_,h1,_⟩:=h;h1.lt
theorem X4 {br:Nat} {v:Value} (h:∀L:List Nat,(∀x,x∈L->br<=x)->ck L w v (.sl 1 rows)) (k:ak G w w') (hG:∀x,x∈G->br<=x):∀L:List Nat,(∀x,x∈L->br<=x)->ck L w' v (.sl 1 rows):=λL hL=>
 (ck.aG (h (G++L) λx hx=>(mA.1 hx).elim (hG x) (hL x)) (k.mono λx hx=>List.mem_append_left _ hx)).fresh λx hx=>.inl (mR _ hx)
theorem dM.aG {br:Nat} (h:dM w br q) (k:ak G w w') (hG:∀x,x∈G->br<x):dM w' br q:=let⟨a,n,c,p,bs,h1,h2,h3,h4⟩:=h;⟨a,n,c,p,bs,h1.aG k (λhx=>Nat.lt_irrefl _ (hG br hx)),h2,X4 h3 k (λx hx=>Nat.le_of_lt (hG x hx)),h4⟩
section
open Go Go.ChangeShapes Go.WideShapes
theorem amp {zs:List Int} (h:∀n,n∈zs->(Lit.int .u8 n).wf=true) (hi:i<zs.length):Value.int .u8 (zs.getD i 0)= .int .u8 (((UInt8.ofNat (zs.getD i 0).toNat).toNat:Nat):Int):=by
 have:=range_u8 h i
 rw[<-gG] at this
 congr 1
 simp only[UInt8.toNat_ofNat']
 omega
section
variable {H:Type} {enc:TypeId×Value->H} {P:Program} {w:World} {held:Bool}
theorem asa {t e:TypeId} {fuel:Nat} {cs:List Value} {x:DataW H×List MemPlace} (ht:P.underlying t=some (.slice e)) (he:P.underlying e=some (.int .u8)) (hc:P.cellsOf e=1) 
  (h:DataW.trod enc P w 0 (λ_=>true) held fuel t cs=some x):∃a len cap bs,cs=[.slice a len cap]∧ck [] w (.slice a len cap) (.sl 1 (rO bs)):=by
 rcases open_ints ht he hc h with⟨rfl,_⟩|⟨a,len,cap,zs,rfl,_,hl,hm,hz,_,kz,cF⟩
 ·exact⟨none,0,0,[],rfl,.nil _ _ _⟩
 ·simp only[if_true] at hz
  rcases Nat.eq_zero_or_pos len with h0|hp
  ·subst h0
   exact⟨some a,0,cap,[],rfl,.nil _ _ _⟩
  ·have h0:=kz 0 om
   rw[show a.add 0=a from by simp[Addr.add]] at h0
   obtain⟨ha,hb⟩:=afy h0
   have ir:((zs.take len).map λn=>UInt8.ofNat n.toNat).length=len:=by simp;omega
   refine⟨some a,len,cap,(zs.take len).map λn=>UInt8.ofNat n.toNat,rfl,?_⟩
   rw[ha]
   refine .sl a.block a.off len cap 1 _ (λi _=>.int .u8 (zs.getD i 0)) (by rw[FJ,ir]) hl hb sm (λrow hr=>?_) (λi j hi hj=>?_) (λi j row c gR hc=>?_)
   ·obtain⟨_,_,rfl⟩:=List.mem_map.1 hr;rfl
   ·have h1:=kz i om
    rw[afz ha] at h1
    rw[show a.off+i*1+j=a.off+i from by omega]
    exact h1
   ·have hi:i<len:=by
     have:=(List.getElem?_eq_some_iff.1 gR).1
     rw[FJ,ir] at this;exact this
    have hrw:row=[.val (.int .u8 (((UInt8.ofNat (zs.getD i 0).toNat).toNat:Nat):Int))]:=by
     simp only[rO,List.map_map,List.getElem?_map,List.getElem?_take,iP hi,gE (show i<zs.length by omega),Option.map_some,Function.comp,Option.some.injEq] at gR
     rw[<-gR]
     simp[gG,gE (show i<zs.length by omega)]
    subst hrw
    match j,hc with
    |0,hc=>
     simp only[List.getElem?_cons_zero,Option.some.injEq] at hc
     subst hc
     rw[amp cF om]
     exact .val _
    |j+1,hc=>simp at hc
end
end
end Go.Proofs.YthbhobaiopccaaaGreatDoor
