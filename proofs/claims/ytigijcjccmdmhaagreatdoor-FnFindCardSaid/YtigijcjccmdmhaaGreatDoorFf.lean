/- Lemmas for the law FnFind, no statement of their own: no conditions. -/
import Derived.Test.YtigijcjccmdmhaaGreatDoorFe
import Derived.Shelf.Bits.Mul64
import Derived.Shelf.LaysM
import Derived.Shelf.Small.Wraps
import Derived.Shelf.Strconv.Atoi
import Derived.Shelf.Strconv.Itoa0
import Derived.Shelf.Strconv.Itoa1
import Derived.Shelf.Strconv.Itoa2
import Derived.Shelf.Strconv.Itoa3
import Derived.Shelf.Strings.Builder1
import Derived.Shelf.Strings.Builder2
import Derived.Shelf.Strings.Builder2Cap
import Derived.Shelf.Strings.BuilderF
import Derived.Shelf.Strings.BuilderK
import Derived.Shelf.Strings.Prefix
import Derived.Shelf.Strings.Repeat
namespace Go.Proofs.YtigijcjccmdmhaaGreatDoor
open Go
variable {w w':World} {b b6 b7 i q q':Nat} {v v1 v2:Value} {bs:List Bk} {g1 g2:Option Nat} {xs ys:List aj} {L:List Nat}
def OG:List aj:=[[97],[98],[99],[120,49],[121,48]]
def OH:List aj:=[[102],[103],[102,49]]
def OI:List aj:=[[120],[122],[120,50]]
def JV:List aj:=[[43],[45],[42]]
def Hc (d P:Nat):Prop:=∀(ns ts:List aj) (want:aj) (br q:Nat) (v1 v2:Value) (w:World),ns.length=ts.length->ns.length+2*d<=100->(∀x,x∈ns->x.length<=8000)->want.length+100*d<=26000->q+20*P<=800000000->dW w br q->bI [br] w v1 ns->bI [br] w v2 ts->
  cj Tryz.prog 85 [.pointer (some ⟨br,0,none⟩),.agg #[v1,v2],str want,.int .i64 (d:Int)] w λr w'=>(∃x,r=str x∧x.length<=100000*P)∧dW w' br (q+20*P)∧ak [br] w w'
theorem JW {ns:List aj} {x:aj} (h:∀x,x∈ns->x.length<=8000) (hx:x.length<=8000):∀y,y∈ns++[x]->y.length<=8000:=λy hy=>by
 rcases mA.1 hy with h9|h9
 ·exact h y h9
 ·simp only[List.mem_singleton] at h9;rw[h9];exact hx
theorem VV {s sg:aj} {o:Option (Ty×Ty)} (h:BV s sg o):(sO o).length<=100∧(yb o).length<=100:=by
 cases o with
 |none=>exact⟨by decide,by decide⟩
 |some p=>
  obtain⟨g,_,_,h3⟩:=h
  have e:(Ty.op g p.1 p.2).n=1+p.1.n+p.2.n:=rfl
  have h1:=p.1.len
  have h2:=p.2.len
  exact⟨by show p.1.text.length<=100;omega,by show p.2.text.length<=100;omega⟩
def BuP (d P:Nat):Prop:=∀(ns ts:List aj) (want:aj) (br q:Nat) (v1 v2:Value) (w:World),ns.length=ts.length->ns.length+2*(d+1)<=100->(∀x,x∈ns->x.length<=8000)->want.length+100*(d+1)<=26000->q+40*P+20<=800000000->dW w br q->bI [br] w v1 ns->bI [br] w v2 ts->
  cj Tryz.prog 118 [.pointer (some ⟨br,0,none⟩),.agg #[v1,v2],str want,.int .i64 ((d+1:Nat):Int)] w λr w'=>(∃x,r=str x∧x.length<=200000*P+30000)∧dW w' br (q+40*P+10)∧ak [br] w w'
set_option maxHeartbeats 4000000 in
theorem ai4 (d P:Nat) (hd:d<=10) (hP:1<=P) (VW:P<=1000000) (ih:Hc d P):BuP d P:=by
 intro ns ts want br q v1 v2 w hl D1 hs hw hq h cU cS
 obtain⟨a1,n1,c1,rfl,fS⟩:=eN cU
 obtain⟨a2,n2,c2,rfl,fH⟩:=eN cS
 subst fS
 subst fH
 have iE:=h.lt
 have hk:=ak.refl [br] w
 refine cV [.tmp 8] 119 Tryz.func118 rfl XR rfl rfl ?_
 refine zr<|fE rfl ?_
 intro w1 aK bP dY
 have hk:=hk.ext aK;have h:=h.ext aK;have cU:=cU.ext aK;have cS:=cS.ext aK
 refine zA<|ag<|zr<|zm ?_
 have bP:fg [br] w1 w.heap.size _ _:=⟨bP,by simp;omega⟩
 refine aC (S3 want w1) ?_
 rintro v2 w2 ⟨dA,aq⟩
 have eE:=aq.size
 have hk:=hk.ext aq;have h:=h.ext aq;have cU:=cU.ext aq;have cS:=cS.ext aq;have bP:=bP.ext aq
 obtain⟨o1,wW,rfl⟩:=dA
 have hAB:=VV wW
 refine zm<|zx (i:=0) rfl rfl<|zx (i:=1) rfl rfl<|zx (i:=2) rfl rfl<|zA<|zA<|zA<|ag<|zr<|zm<|aC (S2 want w2) ?_
 rintro v3 w3 ⟨eh,aJ⟩
 have fZ:=aJ.size
 have hk:=hk.ext aJ;have h:=h.ext aJ;have cU:=cU.ext aJ;have cS:=cS.ext aJ;have bP:=bP.ext aJ
 obtain⟨o2,vv,rfl⟩:=eh
 have hCE:=VV vv
 refine zm<|zx (i:=0) rfl rfl<|zx (i:=1) rfl rfl<|zx (i:=2) rfl rfl<|zA<|zA<|zA<|ag<|zr<|zm<|mJ rfl rfl rfl rfl rfl (kj d om _ om)<|zA<|ag<|aQ<|cQ<|zr<|zm<|zA<|ag<|zc rfl (λh1=>?_) (λh1=>?_)
 refine aQ ?_
 apply kc ei ([br]) 14 (rA 35 14) (rA 35 14) [[],[],[],[],(rA 0 4),[4],[5],[],[],[],[],(rA 7 4),[6,11],[12]] [Ie.v _,Ie.v _,Ie.v _,Ie.v _,Ie.q 0 (fun(v:Value)=>∃x,v=str x∧x.length<=100000*P),Ie.p (fun(G:List Nat) (v:Value) (ww:World)=>∃x,v=str x∧x.length<=100000*P+100),Ie.p (fun(G:List Nat) (v:Value) (ww:World)=>∃x,v=str x∧x.length<=100000*P+200),Ie.v _,Ie.v _,Ie.v _,Ie.v _,Ie.q 1 (fun(v:Value)=>∃x,v=str x∧x.length<=100000*P),Ie.p (fun(G:List Nat) (v:Value) (ww:World)=>∃x,v=str x∧x.length<=200000*P+300),Ie.p (fun(G:List Nat) (v:Value) (ww:World)=>∃x,v=str x∧x.length<=200000*P+400)] [4,11] [fun(G:List Nat) (vs:List Value) (ww:World)=>G=[br]∧ak [br] w3 ww∧dW ww br q,fun(G:List Nat) (vs:List Value) (ww:World)=>G=[br]∧ak [br] w3 ww∧dW ww br (q+20*P),fun(G:List Nat) (vs:List Value) (ww:World)=>G=[br]∧ak [br] w3 ww∧dW ww br (q+40*P)] de rfl ((λz hz=>by simp at hz;subst hz;exact h.lt)) (by exact⟨λG v w G' w' h k=>h,λG v w G' w' h k=>h,λG v w G' w' h k=>h,λG v w G' w' h k=>h,trivial⟩) (by exact⟨λG vs w w' ⟨h1,h2,h3⟩ k=>⟨h1,h2.ext k,h3.ext k⟩,λG vs w w' ⟨h1,h2,h3⟩ k=>⟨h1,h2.ext k,h3.ext k⟩,λG vs w w' ⟨h1,h2,h3⟩ k=>⟨h1,h2.ext k,h3.ext k⟩,trivial⟩) (⟨rfl,ak.refl _ _,h⟩)
 refine cR ?_
 refine vf (λx w4 G4 aW td yO=>?_) ?_
 have bP:=bP.go td
 refine zL mP kP rfl bP.all rfl ?_
 exact fv
 refine cR ?_
 refine cR ?_
 refine ve 0 (λx w4 G4 aW td yO hJ hlen=>?_) ?_
 have bo:=jP hlen
 subst bo
 have cU:=cU.go td;have cS:=cS.go td
 obtain⟨cz,cB,h⟩:=hJ
 subst cz
 refine aC (ih ns ts (sO o1) br q _ _ w4 hl om hs om om h cU cS) ?_
 rintro v9 w5 ⟨⟨x9,e9,jf⟩,h,aG⟩
 subst e9
 exact fq ([br]) (Fr.of aG sm) ((λz hz=>lL (yO z hz) aG.size)) (⟨rfl,cB.trans aG,h.more om⟩) (⟨_,rfl,jf⟩)
 refine vf (λx w4 G4 aW td yO=>?_) ?_
 intro v4 OJ d4
 obtain⟨y4,e4,Bx⟩:=d4
 subst e4
 refine cm rfl rfl (by(try simp);omega) ?_
 exact ff (ak.refl _ _) (⟨_,rfl,by simp;omega⟩)
 refine vf (λx w4 G4 aW td yO=>?_) ?_
 intro v5 d5
 obtain⟨y5,e5,hl5⟩:=d5
 subst e5
 refine cm rfl rfl (by(try simp);omega) ?_
 exact ff (ak.refl _ _) (⟨_,rfl,by simp;omega⟩)
 refine cR ?_
 refine vf (λx w4 G4 aW td yO=>?_) ?_
 have bP:=bP.go td
 refine zL mP kP rfl bP.all rfl ?_
 exact fv
 refine cR ?_
 refine cR ?_
 refine ve 1 (λx w4 G4 aW td yO hJ hlen=>?_) ?_
 have aR:=jQ hlen
 obtain⟨q0,bo⟩:=aR
 subst bo
 have cU:=cU.go td;have cS:=cS.go td
 obtain⟨cz,cB,h⟩:=hJ
 subst cz
 refine aC (ih ns ts (yb o1) br (q+20*P) _ _ w4 hl om hs om om h cU cS) ?_
 rintro v9 w5 ⟨⟨x9,e9,jf⟩,h,aG⟩
 subst e9
 exact fq ([br]) (Fr.of aG sm) ((λz hz=>lL (yO z hz) aG.size)) (⟨rfl,cB.trans aG,h.more om⟩) (⟨_,rfl,jf⟩)
 refine vf (λx w4 G4 aW td yO=>?_) ?_
 intro v6 d6
 intro v11 ai6 d11
 obtain⟨y6,e6,hl6⟩:=d6
 subst e6
 obtain⟨VX,Cj,VY⟩:=d11
 subst Cj
 refine cm rfl rfl (by(try simp);omega) ?_
 exact ff (ak.refl _ _) (⟨_,rfl,by simp;omega⟩)
 refine vf (λx w4 G4 aW td yO=>?_) ?_
 intro v12 d12
 obtain⟨y12,qH,ai8⟩:=d12
 subst qH
 refine cm rfl rfl (by(try simp);omega) ?_
 exact ff (ak.refl _ _) (⟨_,rfl,by simp;omega⟩)
 exact trivial
 intro x nN G43 aW aoe aof hJ hlen
 have aR:=lM hlen
 obtain⟨q0,q1,bo⟩:=aR
 subst bo
 intro v4 OJ d4
 intro v5 d5
 intro v6 d6
 intro v11 ai6 d11
 intro v12 d12
 intro wL d13
 change OW _ _ _ _ _ (aM (aN _ x _) (zZ 35 [_,_,_,_,_,_,_,_,_,_,_,_,_,_])) _
 obtain⟨cz,cB,h⟩:=hJ
 subst cz
 obtain⟨yz,ez,Es⟩:=d13
 subst ez
 refine zA<|ag<|aV ?_
 exact⟨_,rfl,⟨yz,rfl,om⟩,h.more om,hk.trans cB⟩
 refine zr<|zm<|zA<|ag<|zc rfl (λh2=>?_) (λh2=>?_)
 refine zr<|zm<|pO bh bA rfl rfl rfl rfl rfl ?_
 intro w4 aF ai9 iS
 have hk:=hk.ext aF;have h:=h.ext aF;have cU:=cU.ext aF;have cS:=cS.ext aF;have bP:=bP.ext aF
 have oq:=h.lt
 refine aC (ml OH de de br q om _ w4 h (aY.eD OH ai9 (λhx=>by simp at hx;omega) de)) ?_
 rintro lx w5 ⟨⟨fn,aja,ic⟩,h,aG⟩
 subst ic
 have aog:=(show∀x,x∈OH->x.length<=30 from by decide) _ aja
 have hk:=hk.trans aG
 have cU:=cU.aL aG sm;have cS:=cS.aL aG sm;have bP:=bP.aL aG sm
 have oq:=h.lt
 refine zA<|ag<|zr<|zm<|pO bh bA rfl rfl rfl rfl rfl ?_
 intro w6 bF BZ lG
 have hk:=hk.ext bF;have h:=h.ext bF;have cU:=cU.ext bF;have cS:=cS.ext bF;have bP:=bP.ext bF
 refine aC (ml OI de de br (q+1) om _ w6 h (aY.eD OI BZ (λhx=>by simp at hx;omega) de)) ?_
 rintro lx w7 ⟨⟨xn,ajb,ic⟩,h,aG⟩
 subst ic
 have aoh:=(show∀x,x∈OI->x.length<=30 from by decide) _ ajb
 have hk:=hk.trans aG
 have cU:=cU.aL aG sm;have cS:=cS.aL aG sm;have bP:=bP.aL aG sm
 have oq:=h.lt
 refine zA<|ag<|zr<|zL mP kP rfl bP.all rfl<|zm<|zm<|aC (JT ns ts xn (sO o2) om om _ _ [br] w7 (λx hx=>by simp at hx;subst hx;exact h.lt) cU cS) ?_
 rintro v8 w8 ⟨p3,cu⟩
 have Ay:=cu.size
 have hk:=hk.ext cu;have h:=h.ext cu;have cU:=cU.ext cu;have cS:=cS.ext cu;have bP:=bP.ext cu
 obtain⟨u1,u2,e9,rD,rE⟩:=p3
 subst e9
 have cJ:=eN rD
 obtain⟨b1,m1,d1,e1,_⟩:=cJ
 subst e1
 have cJ:=eN rE
 obtain⟨b2,m2,d2,e2,_⟩:=cJ
 subst e2
 refine eA kP rfl rfl rfl ?_
 intro w9 aG kh Nf
 have hsb:=h.lt
 have aoi:br<w8.heap.size:=hsb
 have aoj:w.heap.size<w8.heap.size:=bP.lt
 have aok:w.heap.size<=w8.heap.size:=hk.size
 have hk:=hk.ext aG;have h:=h.ext aG
 have cU:=(bI.fresh cU (L':=w8.heap.size::[br]) (λx hx=>by rcases mC.1 hx with h9|h9;(·right;omega);(·exact .inl h9))).ext aG
 have cS:=(bI.fresh cS (L':=w8.heap.size::[br]) (λx hx=>by rcases mC.1 hx with h9|h9;(·right;omega);(·exact .inl h9))).ext aG
 have rD:=(bI.fresh rD (L':=w8.heap.size::[br]) (λx hx=>by rcases mC.1 hx with h9|h9;(·right;omega);(·exact .inl h9))).ext aG
 have rE:=(bI.fresh rE (L':=w8.heap.size::[br]) (λx hx=>by rcases mC.1 hx with h9|h9;(·right;omega);(·exact .inl h9))).ext aG
 have bP:=(bP.ext aG)
 refine du (vs:=[.slice b1 m1 d1,.slice b2 m2 d2]) kP rfl rfl rfl kh rfl ?_
 intro cM bU kh dN
 have hk:=hk.since bU (λx hx=>.inr (by simp at hx;omega))
 have h:=h.aO bU (λx hx=>by simp at hx;omega)
 have cU:=bI.aL cU bU sm
 have cS:=bI.aL cS bU sm
 have rD:=bI.aL rD bU sm
 have rE:=bI.aL rE bU sm
 have bP:fg [br] cM _ _ _:=⟨bP.jv.aO bU so,bP.out⟩
 refine ag<|aQ<|zr<|zm<|aC (mF 6 de de br (q+2) om cM h) ?_
 rintro v9 eW ⟨⟨z,e9,hz⟩,h,aG⟩
 subst e9
 have rD:=bI.aL rD aG sm
 have rE:=bI.aL rE aG sm
 have kh:=kh.aO aG so
 have hk:=hk.trans aG
 have cU:=cU.aL aG sm;have cS:=cS.aL aG sm;have bP:=bP.aL aG sm
 have oq:=h.lt
 refine dO rfl rfl rfl<|ag ?_
 refine jg (λg:List aj×List aj×Value×Value=>[(0,.pointer (some ⟨br,0,none⟩)),(12,str (sO o2)),(13,str (yb o2)),(15,.int .i64 (d:Int)),(16,str fn),(17,str xn),(18,.pointer (some ⟨w8.heap.size,0,none⟩))]) (λg ww=>ak [br] w ww∧dW ww br (q+3)∧aY ww w8.heap.size [g.2.2.1,g.2.2.2].toArray 104∧bI [br] ww g.2.2.1 g.1∧bI [br] ww g.2.2.2 g.2.1∧g.1.length=g.2.1.length∧g.1.length+2*d<=100∧∀x,x∈g.1->x.length<=8000) ?_ ?_
 refine zc rfl (λh3=>?_) (λh3=>?_)
 refine db<|zL mP kP rfl bP.all rfl<|zm<|zm<|aC (JT ns ts fn want om om _ _ (w8.heap.size::[br]) eW (λx hx=>by have:=kh.lt;simp at hx;rcases hx with hx|hx<;>omega) cU cS) ?_
 rintro v12 gh ⟨sW,dC⟩
 have D4:=dC.size
 have hk:=hk.ext dC;have h:=h.ext dC;have kh:=kh.ext dC
 obtain⟨u3,u4,e9,rD,rE⟩:=sW
 subst e9
 have cJ:=eN rD
 obtain⟨b3,m3,d3,e1,_⟩:=cJ
 subst e1
 have cJ:=eN rE
 obtain⟨b4,m4,d4,e2,_⟩:=cJ
 subst e2
 refine zm<|zm<|aC (JT (ns++[fn]) (ts++[want]) xn (sO o2) so so _ _ (w8.heap.size::[br]) gh (λx hx=>by have:=kh.lt;simp at hx;rcases hx with hx|hx<;>omega) rD rE) ?_
 rintro wL jD ⟨vB,fK⟩
 have Gt:=fK.size
 have hk:=hk.ext fK;have h:=h.ext fK;have kh:=kh.ext fK
 obtain⟨u5,u6,e9,JX,JY⟩:=vB
 subst e9
 have cJ:=eN JX
 obtain⟨b5,m5,d5,e1,_⟩:=cJ
 subst e1
 have cJ:=eN JY
 obtain⟨b6,m6,d6,e2,_⟩:=cJ
 subst e2
 refine du (vs:=[.slice b5 m5 d5,.slice b6 m6 d6]) kP rfl rfl rfl kh rfl ?_
 intro je dK kh dN
 have hk:=hk.since dK (λx hx=>.inr (by simp at hx;omega))
 have h:=h.aO dK (λx hx=>by simp at hx;omega)
 have JX:=bI.aL JX dK sm
 have JY:=bI.aL JY dK sm
 refine ag ?_
 exact⟨((ns++[fn])++[xn],(ts++[want])++[sO o2],_,_),⟨rfl,rfl,rfl,rfl,rfl,rfl,rfl⟩,hk,h,kh,bI.fresh JX (λx hx=>.inl (by simp at hx;simp[hx])),bI.fresh JY (λx hx=>.inl (by simp at hx;simp[hx])),by simp;omega,by simp;omega,JW (JW hs om) om⟩
 refine bz ?_
 exact⟨(ns++[xn],ts++[sO o2],_,_),⟨rfl,rfl,rfl,rfl,rfl,rfl,rfl⟩,hk,h,kh,bI.fresh rD (λx hx=>.inl (by simp at hx;simp[hx])),bI.fresh rE (λx hx=>.inl (by simp at hx;simp[hx])),by simp;omega,by simp;omega,JW hs om⟩
 intro gu gh qH hI
 obtain⟨zs,us,p1,p2⟩:=gu
 dsimp only at hI⊢
 obtain⟨hk,h,kh,qi,uI,GW,hzn,xk⟩:=hI
 have cJ:=eN qi
 obtain⟨b1,m1,d1,e1,_⟩:=cJ
 subst e1
 have cJ:=eN uI
 obtain⟨b2,m2,d2,e2,_⟩:=cJ
 subst e2
 refine zr<|zm<|cm rfl rfl so<|cm rfl rfl so<|zm<|cm rfl rfl so<|cm rfl rfl so<|zm<|cm rfl rfl so<|cm rfl rfl so<|zm<|cm rfl rfl so<|cm rfl rfl so<|zm<|zL mP kP rfl kh.all rfl<|zm<|zm ?_
 refine aC (ih zs us (yb o2) br (q+3) _ _ gh GW om xk om om h qi uI) ?_
 rintro v9 jD ⟨⟨x9,e9,jf⟩,h,aG⟩
 subst e9
 have hk:=hk.trans aG
 refine cm rfl rfl so<|cm rfl rfl so<|zA<|ag<|aV ?_
 exact⟨_,rfl,⟨_,rfl,by simp;omega⟩,h.more om,hk⟩
 refine zr<|zm<|cW rfl rfl<|zm<|xo (t:=93) rfl (λh4=>?_) (λh4=>?_)
 replace h4:=bw h4
 refine zm<|aC (mF 3 de de br q om w3 h) ?_
 rintro v9 w4 ⟨⟨z,e9,hz⟩,h,aG⟩
 subst e9
 have hk:=hk.trans aG
 have cU:=cU.aL aG sm;have cS:=cS.aL aG sm;have bP:=bP.aL aG sm
 have oq:=h.lt
 refine jx rfl rfl rfl rfl rfl<|zp rfl<|zA<|ag<|zc rfl (λh5=>?_) (λh5=>?_)
 refine aQ ?_
 apply kc ei ([br]) 17 (rA 98 17) (rA 98 17) [[],[],[0,1],[2],[3],[],[],[],[5,6,7],[4,8],[9],[],[],[],[11,12,13],[10,14],[15]] [Ie.v _,Ie.p (fun(G:List Nat) (v:Value) (ww:World)=>bI G ww v JV),Ie.q 0 (fun(v:Value)=>∃x,v=str x∧x.length<=30),Ie.p (fun(G:List Nat) (v:Value) (ww:World)=>∃x,v=str x∧x.length<=40),Ie.p (fun(G:List Nat) (v:Value) (ww:World)=>∃x,v=str x∧x.length<=50),Ie.v _,Ie.v _,Ie.v _,Ie.q 1 (fun(v:Value)=>∃x,v=str x∧x.length<=100000*P),Ie.p (fun(G:List Nat) (v:Value) (ww:World)=>∃x,v=str x∧x.length<=100000*P+100),Ie.p (fun(G:List Nat) (v:Value) (ww:World)=>∃x,v=str x∧x.length<=100000*P+200),Ie.v _,Ie.v _,Ie.v _,Ie.q 2 (fun(v:Value)=>∃x,v=str x∧x.length<=100000*P),Ie.p (fun(G:List Nat) (v:Value) (ww:World)=>∃x,v=str x∧x.length<=200000*P+300),Ie.p (fun(G:List Nat) (v:Value) (ww:World)=>∃x,v=str x∧x.length<=200000*P+400)] [2,8,14] [fun(G:List Nat) (vs:List Value) (ww:World)=>G=[br]∧ak [br] w4 ww∧dW ww br (q+1),fun(G:List Nat) (vs:List Value) (ww:World)=>G=[br]∧ak [br] w4 ww∧dW ww br (q+2),fun(G:List Nat) (vs:List Value) (ww:World)=>G=[br]∧ak [br] w4 ww∧dW ww br (q+2+20*P),fun(G:List Nat) (vs:List Value) (ww:World)=>G=[br]∧ak [br] w4 ww∧dW ww br (q+2+40*P)] de rfl ((λz hz=>by simp at hz;subst hz;exact h.lt)) (by exact⟨λG v w G' w' h k=>bI.go h k,λG v w G' w' h k=>h,λG v w G' w' h k=>h,λG v w G' w' h k=>h,λG v w G' w' h k=>h,λG v w G' w' h k=>h,λG v w G' w' h k=>h,trivial⟩) (by exact⟨λG vs w w' ⟨h1,h2,h3⟩ k=>⟨h1,h2.ext k,h3.ext k⟩,λG vs w w' ⟨h1,h2,h3⟩ k=>⟨h1,h2.ext k,h3.ext k⟩,λG vs w w' ⟨h1,h2,h3⟩ k=>⟨h1,h2.ext k,h3.ext k⟩,λG vs w w' ⟨h1,h2,h3⟩ k=>⟨h1,h2.ext k,h3.ext k⟩,trivial⟩) (⟨rfl,ak.refl _ _,h⟩)
 refine cR ?_
 refine vf (λx w5 G5 aW nj rF=>?_) ?_
 refine pO bh bA rfl rfl rfl rfl rfl ?_
 intro w6 bF Nr lG
 exact ff bF ((aY.eD JV Nr (λhx=>by have:=rF _ hx;omega) de))
 refine ve 0 (λx w5 G5 aW nj rF hJ hlen=>?_) ?_
 have bo:=jP hlen
 subst bo
 intro v1 d1
 obtain⟨cz,cB,h⟩:=hJ
 subst cz
 refine aC (ml JV de de br (q+1) om _ w5 h d1) ?_
 rintro lx w6 ⟨⟨x9,jf,ic⟩,h,aG⟩
 subst ic
 have fh:=(show∀x,x∈JV->x.length<=30 from by decide) _ jf
 exact fq ([br]) (Fr.of aG sm) ((λz hz=>lL (rF z hz) aG.size)) (⟨rfl,cB.trans aG,h⟩) (⟨_,rfl,fh⟩)
 refine vf (λx w5 G5 aW nj rF=>?_) ?_
 intro v2 oI d2
 obtain⟨y2,e2,iY⟩:=d2
 subst e2
 refine cm rfl rfl (by(try simp);omega) ?_
 exact ff (ak.refl _ _) (⟨_,rfl,by simp;omega⟩)
 refine vf (λx w5 G5 aW nj rF=>?_) ?_
 intro v3 d3
 obtain⟨y3,e3,wb⟩:=d3
 subst e3
 refine cm rfl rfl (by(try simp);omega) ?_
 exact ff (ak.refl _ _) (⟨_,rfl,by simp;omega⟩)
 refine cR ?_
 refine vf (λx w5 G5 aW nj rF=>?_) ?_
 have bP:=bP.go nj
 refine zL mP kP rfl bP.all rfl ?_
 exact fv
 refine cR ?_
 refine ve 1 (λx w5 G5 aW nj rF hJ hlen=>?_) ?_
 have aR:=jQ hlen
 obtain⟨q0,bo⟩:=aR
 subst bo
 have cU:=cU.go nj;have cS:=cS.go nj
 obtain⟨cz,cB,h⟩:=hJ
 subst cz
 refine aC (ih ns ts ([105]) br (q+2) _ _ w5 hl om hs so om h cU cS) ?_
 rintro v9 w6 ⟨⟨x9,e9,jf⟩,h,aG⟩
 subst e9
 exact fq ([br]) (Fr.of aG sm) ((λz hz=>lL (rF z hz) aG.size)) (⟨rfl,cB.trans aG,h.more om⟩) (⟨_,rfl,jf⟩)
 refine vf (λx w5 G5 aW nj rF=>?_) ?_
 intro v4 d4
 intro v8 hq8 d8
 obtain⟨y4,e4,Bx⟩:=d4
 subst e4
 obtain⟨y8,e8,hl8⟩:=d8
 subst e8
 refine cm rfl rfl (by(try simp);omega) ?_
 exact ff (ak.refl _ _) (⟨_,rfl,by simp;omega⟩)
 refine vf (λx w5 G5 aW nj rF=>?_) ?_
 intro v9 d9
 obtain⟨y9,e9,fh⟩:=d9
 subst e9
 refine cm rfl rfl (by(try simp);omega) ?_
 exact ff (ak.refl _ _) (⟨_,rfl,by simp;omega⟩)
 refine cR ?_
 refine vf (λx w5 G5 aW nj rF=>?_) ?_
 have bP:=bP.go nj
 refine zL mP kP rfl bP.all rfl ?_
 exact fv
 refine cR ?_
 refine ve 2 (λx w5 G5 aW nj rF hJ hlen=>?_) ?_
 have aR:=lM hlen
 obtain⟨q0,q1,bo⟩:=aR
 subst bo
 have cU:=cU.go nj;have cS:=cS.go nj
 obtain⟨cz,cB,h⟩:=hJ
 subst cz
 refine aC (ih ns ts ([105]) br (q+2+20*P) _ _ w5 hl om hs so om h cU cS) ?_
 rintro v9 w6 ⟨⟨x9,e9,jf⟩,h,aG⟩
 subst e9
 exact fq ([br]) (Fr.of aG sm) ((λz hz=>lL (rF z hz) aG.size)) (⟨rfl,cB.trans aG,h.more om⟩) (⟨_,rfl,jf⟩)
 refine vf (λx w5 G5 aW nj rF=>?_) ?_
 intro v10 d10
 intro lx ajf d14
 obtain⟨JZ,gq,DZ⟩:=d10
 subst gq
 obtain⟨y14,ic,aon⟩:=d14
 subst ic
 refine cm rfl rfl (by(try simp);omega) ?_
 exact ff (ak.refl _ _) (⟨_,rfl,by simp;omega⟩)
 refine vf (λx w5 G5 aW nj rF=>?_) ?_
 intro vm d15
 obtain⟨y15,D3,aop⟩:=d15
 subst D3
 refine cm rfl rfl (by(try simp);omega) ?_
 exact ff (ak.refl _ _) (⟨_,rfl,by simp;omega⟩)
 exact trivial
 intro x pW G44 aW aor aos hJ hlen
 have aR:=Af hlen
 obtain⟨q0,q1,q2,bo⟩:=aR
 subst bo
 intro v1 d1
 intro v2 oI d2
 intro v3 d3
 intro v4 d4
 intro v8 hq8 d8
 intro v9 d9
 intro v10 d10
 intro lx ajf d14
 intro vm d15
 intro yj d16
 change OW _ _ _ _ _ (aM (aN _ x _) (zZ 98 [_,_,_,_,_,_,_,_,_,_,_,_,_,_,_,_,_])) _
 obtain⟨cz,cB,h⟩:=hJ
 subst cz
 obtain⟨yz,ez,Es⟩:=d16
 subst ez
 refine zA<|ag<|aV ?_
 exact⟨_,rfl,⟨yz,rfl,om⟩,h.more om,hk.trans cB⟩
 refine bz<|zr<|zm<|zL mP kP rfl bP.all rfl<|zm<|aC (OE ns ts want hl om hs br (q+1) om _ _ w4 h cU cS) ?_
 rintro v9 w5 ⟨⟨x9,e9,jf⟩,h,aG⟩
 subst e9
 refine zA<|ag<|aV ?_
 exact⟨_,rfl,⟨x9,rfl,om⟩,h.more om,hk.trans aG⟩
 replace h4:=bw h4
 refine zs<|zs<|zs<|zp rfl<|zA<|ag<|zc rfl (λh6=>?_) (λh6=>?_)
 simp at h6
 refine bz<|zr<|zm<|zL mP kP rfl bP.all rfl<|zm<|aC (OE ns ts want hl om hs br q om _ _ w3 h cU cS) ?_
 rintro v9 w4 ⟨⟨x9,e9,jf⟩,h,aG⟩
 subst e9
 refine zA<|ag<|aV ?_
 exact⟨_,rfl,⟨x9,rfl,om⟩,h.more om,hk.trans aG⟩
set_option maxHeartbeats 4000000 in
theorem ajg:Hc 0 1:=by
 intro ns ts want br q v1 v2 w hl D1 hs hw hq h cU cS
 obtain⟨a1,n1,c1,rfl,fS⟩:=eN cU
 obtain⟨a2,n2,c2,rfl,fH⟩:=eN cS
 subst fS
 subst fH
 have iE:=h.lt
 have hk:=ak.refl [br] w
 refine cV [.tmp 8] 130 Tryz.func85 rfl PK rfl rfl ?_
 refine zr<|fE rfl ?_
 intro w1 aK bP dY
 have hk:=hk.ext aK;have h:=h.ext aK;have cU:=cU.ext aK;have cS:=cS.ext aK
 refine zA<|ag<|aQ<|zr<|zm<|dO rfl rfl rfl<|ag<|zc rfl (λh1=>?_) (λh1=>?_)
 refine zr<|zm<|zL mP kP rfl bP.all rfl<|zm<|aC (OE ns ts want hl om hs br q om _ _ w1 h cU cS) ?_
 rintro v9 w2 ⟨⟨x9,e9,jf⟩,h,aG⟩
 subst e9
 refine zA<|ag<|aV ?_
 exact⟨_,rfl,⟨x9,rfl,om⟩,h.more om,hk.trans aG⟩
 simp at h1
set_option maxHeartbeats 4000000 in
theorem ajh (d P:Nat) (hd:d<=10) (hP:1<=P) (VW:P<=1000000) (ih:Hc d P):Hc (d+1) (4*P):=by
 have hB:=ai4 d P hd hP VW ih
 intro ns ts want br q v1 v2 w hl D1 hs hw hq h cU cS
 obtain⟨a1,n1,c1,rfl,fS⟩:=eN cU
 obtain⟨a2,n2,c2,rfl,fH⟩:=eN cS
 subst fS
 subst fH
 have iE:=h.lt
 have hk:=ak.refl [br] w
 refine cV [.tmp 8] 130 Tryz.func85 rfl PK rfl rfl ?_
 refine zr<|fE rfl ?_
 intro w1 aK bP dY
 have hk:=hk.ext aK;have h:=h.ext aK;have cU:=cU.ext aK;have cS:=cS.ext aK
 refine zA<|ag<|aQ<|zr<|zm<|dO rfl rfl rfl<|ag<|zc rfl (λh1=>?_) (λh1=>?_)
 simp at h1;omega
 have bP:fg [br] w1 w.heap.size _ _:=⟨bP,by simp;omega⟩
 refine bz<|zr<|zm<|mJ rfl rfl rfl rfl rfl (kj d om _ om)<|zA<|ag<|aQ<|zr<|zm<|aC (mF 12 de de br q om w1 h) ?_
 rintro v9 w2 ⟨⟨z,e9,hz⟩,h,aG⟩
 subst e9
 have hk:=hk.trans aG
 have cU:=cU.aL aG sm;have cS:=cS.aL aG sm;have bP:=bP.aL aG sm
 have oq:=h.lt
 refine ag<|cQ<|zr<|dO rfl rfl rfl<|zA<|ag<|zc rfl (λh2=>?_) (λh2=>?_)
 refine aQ ?_
 apply kc ei ([br]) 20 (rA 25 20) (rA 25 20) [[],[],[],[0,1,2],[3],[4],[],[],[],[],(rA 6 4),[5,10],[11],[],[],[],[],(rA 13 4),[12,17],[18]] [Ie.v _,Ie.v _,Ie.v _,Ie.q 0 (fun(v:Value)=>∃x,v=str x∧x.length<=100000*P),Ie.p (fun(G:List Nat) (v:Value) (ww:World)=>∃x,v=str x∧x.length<=100000*P+100),Ie.p (fun(G:List Nat) (v:Value) (ww:World)=>∃x,v=str x∧x.length<=100000*P+200),Ie.v _,Ie.v _,Ie.v _,Ie.v _,Ie.q 1 (fun(v:Value)=>∃x,v=str x∧x.length<=100000*P),Ie.p (fun(G:List Nat) (v:Value) (ww:World)=>∃x,v=str x∧x.length<=200000*P+300),Ie.p (fun(G:List Nat) (v:Value) (ww:World)=>∃x,v=str x∧x.length<=200000*P+400),Ie.v _,Ie.v _,Ie.v _,Ie.v _,Ie.q 2 (fun(v:Value)=>∃x,v=str x∧x.length<=100000*P),Ie.p (fun(G:List Nat) (v:Value) (ww:World)=>∃x,v=str x∧x.length<=300000*P+500),Ie.p (fun(G:List Nat) (v:Value) (ww:World)=>∃x,v=str x∧x.length<=300000*P+600)] [3,10,17] [fun(G:List Nat) (vs:List Value) (ww:World)=>G=[br]∧ak [br] w2 ww∧dW ww br (q+1),fun(G:List Nat) (vs:List Value) (ww:World)=>G=[br]∧ak [br] w2 ww∧dW ww br (q+1+20*P),fun(G:List Nat) (vs:List Value) (ww:World)=>G=[br]∧ak [br] w2 ww∧dW ww br (q+1+40*P),fun(G:List Nat) (vs:List Value) (ww:World)=>G=[br]∧ak [br] w2 ww∧dW ww br (q+1+60*P)] de rfl ((λz hz=>by simp at hz;subst hz;exact h.lt)) (by exact⟨λG v w G' w' h k=>h,λG v w G' w' h k=>h,λG v w G' w' h k=>h,λG v w G' w' h k=>h,λG v w G' w' h k=>h,λG v w G' w' h k=>h,trivial⟩) (by exact⟨λG vs w w' ⟨h1,h2,h3⟩ k=>⟨h1,h2.ext k,h3.ext k⟩,λG vs w w' ⟨h1,h2,h3⟩ k=>⟨h1,h2.ext k,h3.ext k⟩,λG vs w w' ⟨h1,h2,h3⟩ k=>⟨h1,h2.ext k,h3.ext k⟩,λG vs w w' ⟨h1,h2,h3⟩ k=>⟨h1,h2.ext k,h3.ext k⟩,trivial⟩) (⟨rfl,ak.refl _ _,h⟩)
 refine cR ?_
 refine vf (λx w3 G3 aW fV iU=>?_) ?_
 have bP:=bP.go fV
 refine zL mP kP rfl bP.all rfl ?_
 exact fv
 refine cR ?_
 refine ve 0 (λx w3 G3 aW fV iU hJ hlen=>?_) ?_
 have bo:=jP hlen
 subst bo
 have cU:=cU.go fV;have cS:=cS.go fV
 obtain⟨cz,cB,h⟩:=hJ
 subst cz
 refine aC (ih ns ts ([105]) br (q+1) _ _ w3 hl om hs so om h cU cS) ?_
 rintro v9 w4 ⟨⟨x9,e9,jf⟩,h,aG⟩
 subst e9
 exact fq ([br]) (Fr.of aG sm) ((λz hz=>lL (iU z hz) aG.size)) (⟨rfl,cB.trans aG,h.more om⟩) (⟨_,rfl,jf⟩)
 refine vf (λx w3 G3 aW fV iU=>?_) ?_
 intro v3 IG d3
 obtain⟨y3,e3,wb⟩:=d3
 subst e3
 refine cm rfl rfl (by(try simp);omega) ?_
 exact ff (ak.refl _ _) (⟨_,rfl,by simp;omega⟩)
 refine vf (λx w3 G3 aW fV iU=>?_) ?_
 intro v4 d4
 obtain⟨y4,e4,Bx⟩:=d4
 subst e4
 refine cm rfl rfl (by(try simp);omega) ?_
 exact ff (ak.refl _ _) (⟨_,rfl,by simp;omega⟩)
 refine cR ?_
 refine vf (λx w3 G3 aW fV iU=>?_) ?_
 have bP:=bP.go fV
 refine zL mP kP rfl bP.all rfl ?_
 exact fv
 refine cR ?_
 refine cR ?_
 refine ve 1 (λx w3 G3 aW fV iU hJ hlen=>?_) ?_
 have aR:=jQ hlen
 obtain⟨q0,bo⟩:=aR
 subst bo
 have cU:=cU.go fV;have cS:=cS.go fV
 obtain⟨cz,cB,h⟩:=hJ
 subst cz
 refine aC (ih ns ts want br (q+1+20*P) _ _ w3 hl om hs om om h cU cS) ?_
 rintro v9 w4 ⟨⟨x9,e9,jf⟩,h,aG⟩
 subst e9
 exact fq ([br]) (Fr.of aG sm) ((λz hz=>lL (iU z hz) aG.size)) (⟨rfl,cB.trans aG,h.more om⟩) (⟨_,rfl,jf⟩)
 refine vf (λx w3 G3 aW fV iU=>?_) ?_
 intro v5 d5
 intro v10 VZ d10
 obtain⟨y5,e5,hl5⟩:=d5
 subst e5
 obtain⟨JZ,gq,DZ⟩:=d10
 subst gq
 refine cm rfl rfl (by(try simp);omega) ?_
 exact ff (ak.refl _ _) (⟨_,rfl,by simp;omega⟩)
 refine vf (λx w3 G3 aW fV iU=>?_) ?_
 intro v11 d11
 obtain⟨VX,Cj,VY⟩:=d11
 subst Cj
 refine cm rfl rfl (by(try simp);omega) ?_
 exact ff (ak.refl _ _) (⟨_,rfl,by simp;omega⟩)
 refine cR ?_
 refine vf (λx w3 G3 aW fV iU=>?_) ?_
 have bP:=bP.go fV
 refine zL mP kP rfl bP.all rfl ?_
 exact fv
 refine cR ?_
 refine cR ?_
 refine ve 2 (λx w3 G3 aW fV iU hJ hlen=>?_) ?_
 have aR:=lM hlen
 obtain⟨q0,q1,bo⟩:=aR
 subst bo
 have cU:=cU.go fV;have cS:=cS.go fV
 obtain⟨cz,cB,h⟩:=hJ
 subst cz
 refine aC (ih ns ts want br (q+1+40*P) _ _ w3 hl om hs om om h cU cS) ?_
 rintro v9 w4 ⟨⟨x9,e9,jf⟩,h,aG⟩
 subst e9
 exact fq ([br]) (Fr.of aG sm) ((λz hz=>lL (iU z hz) aG.size)) (⟨rfl,cB.trans aG,h.more om⟩) (⟨_,rfl,jf⟩)
 refine vf (λx w3 G3 aW fV iU=>?_) ?_
 intro v12 d12
 intro jV OK d17
 obtain⟨y12,qH,ai8⟩:=d12
 subst qH
 obtain⟨V0,r6,V1⟩:=d17
 subst r6
 refine cm rfl rfl (by(try simp);omega) ?_
 exact ff (ak.refl _ _) (⟨_,rfl,by simp;omega⟩)
 refine vf (λx w3 G3 aW fV iU=>?_) ?_
 intro wT d18
 obtain⟨y18,vq,Ng⟩:=d18
 subst vq
 refine cm rfl rfl (by(try simp);omega) ?_
 exact ff (ak.refl _ _) (⟨_,rfl,by simp;omega⟩)
 exact trivial
 intro x qw F3 aW DS MF hJ hlen
 have aR:=Af hlen
 obtain⟨q0,q1,q2,bo⟩:=aR
 subst bo
 intro v3 IG d3
 intro v4 d4
 intro v5 d5
 intro v10 VZ d10
 intro v11 d11
 intro v12 d12
 intro jV OK d17
 intro wT d18
 intro Gp d19
 change OW _ _ _ _ _ (aM (aN _ x _) (zZ 25 [_,_,_,_,_,_,_,_,_,_,_,_,_,_,_,_,_,_,_,_])) _
 obtain⟨cz,cB,h⟩:=hJ
 subst cz
 obtain⟨yz,ez,Es⟩:=d19
 subst ez
 refine zA<|ag<|aV ?_
 exact⟨_,rfl,⟨yz,rfl,om⟩,h.more om,hk.trans cB⟩
 refine aQ<|zr<|dO rfl rfl rfl<|zA<|ag ?_
 refine jg (λb:Bool=>[(0,.pointer (some ⟨br,0,none⟩)),(2,str want),(3,.int .i64 ((d+1:Nat):Int)),(5,.pointer (some ⟨w.heap.size,0,none⟩)),(9,.int .i64 (d:Int)),(22,.int .i64 (z:Int)),(45,.bool b)]) (λb ww=>ww=w2) ?_ ?_
 refine zc rfl (λh3=>?_) (λh3=>?_)
 refine bz ?_
 exact⟨_,⟨rfl,rfl,rfl,rfl,rfl,rfl,rfl⟩,rfl⟩
 refine db<|dO rfl rfl rfl<|zA<|ag ?_
 exact⟨_,⟨rfl,rfl,rfl,rfl,rfl,rfl,rfl⟩,rfl⟩
 intro gu w3 e3 hI
 have OL:w3=_:=hI
 subst OL
 refine zc rfl (λh4=>?_) (λh4=>?_)
 refine zr<|zm<|aC (OB 1 de br (q+1) om w3 h) ?_
 rintro v9 w4 ⟨⟨T,e9,hT⟩,h,aG⟩
 subst e9
 have V2:=T.len
 have hT:T.n+1<=4:=hT
 have h:=h.more (show _<=q+5 from om)
 have hk:=hk.trans aG
 have cU:=cU.aL aG sm;have cS:=cS.aL aG sm;have bP:=bP.aL aG sm
 have oq:=h.lt
 refine zA<|ag<|zr<|zm<|LZ bh bA rfl rfl rfl rfl rfl rfl rfl ?_
 intro w5 aU Nq jo
 have cU:=cU.ext aU;have cS:=cS.ext aU;have bP:=bP.ext aU;have h:=h.ext aU;have hk:=hk.ext aU
 refine aC (ml OG de de br (q+5) om _ w5 h (aY.eD OG Nq (λhx=>by simp at hx;omega) de)) ?_
 rintro lx w6 ⟨⟨nm,ajj,ic⟩,h,aG⟩
 subst ic
 have aot:=(show∀x,x∈OG->x.length<=30 from by decide) _ ajj
 have hk:=hk.trans aG
 have cU:=cU.aL aG sm;have cS:=cS.aL aG sm;have bP:=bP.aL aG sm
 have oq:=h.lt
 refine zA<|ag<|aQ ?_
 apply kc ei ([br]) 20 (rA 53 20) (rA 53 20) [[],[0],[1],[],[],[],[],(rA 3 4),[2,7],[8],[],[],[],[],[11,12,13],[],[],[10,14,15,16],[9,17],[18]] [Ie.v _,Ie.v _,Ie.v _,Ie.v _,Ie.v _,Ie.v _,Ie.v _,Ie.q 0 (fun(v:Value)=>∃x,v=str x∧x.length<=100000*P),Ie.p (fun(G:List Nat) (v:Value) (ww:World)=>∃x,v=str x∧x.length<=100000*P+200),Ie.p (fun(G:List Nat) (v:Value) (ww:World)=>∃x,v=str x∧x.length<=100000*P+300),Ie.v _,Ie.v _,Ie.v _,Ie.v _,Ie.e 1,Ie.v _,Ie.v _,Ie.q 2 (fun(v:Value)=>∃x,v=str x∧x.length<=100000*P),Ie.p (fun(G:List Nat) (v:Value) (ww:World)=>∃x,v=str x∧x.length<=200000*P+400),Ie.p (fun(G:List Nat) (v:Value) (ww:World)=>∃x,v=str x∧x.length<=200000*P+500)] [7,14,17] [fun(G:List Nat) (vs:List Value) (ww:World)=>G=[br]∧ak [br] w6 ww∧dW ww br (q+6),fun(G:List Nat) (vs:List Value) (ww:World)=>G=[br]∧ak [br] w6 ww∧dW ww br (q+6+20*P),fun(G:List Nat) (vs:List Value) (ww:World)=>G=[br]∧ak [br] w6 ww∧dW ww br (q+6+20*P)∧∃u1 u2,vs.getD 1 undef= .agg #[u1,u2]∧bI [br] ww u1 (ns++[nm])∧bI [br] ww u2 (ts++[T.text]),fun(G:List Nat) (vs:List Value) (ww:World)=>G=[br]∧ak [br] w6 ww∧dW ww br (q+6+40*P)] de rfl ((λz hz=>by simp at hz;subst hz;exact h.lt)) (by exact⟨λG v w G' w' h k=>h,λG v w G' w' h k=>h,λG v w G' w' h k=>h,λG v w G' w' h k=>h,trivial⟩) (by exact⟨λG vs w w' ⟨h1,h2,h3⟩ k=>⟨h1,h2.ext k,h3.ext k⟩,λG vs w w' ⟨h1,h2,h3⟩ k=>⟨h1,h2.ext k,h3.ext k⟩,λG vs w w' ⟨h1,h2,h3,u1,u2,e,g1,g2⟩ k=>⟨h1,h2.ext k,h3.ext k,u1,u2,e,g1.ext k,g2.ext k⟩,λG vs w w' ⟨h1,h2,h3⟩ k=>⟨h1,h2.ext k,h3.ext k⟩,trivial⟩) (⟨rfl,ak.refl _ _,h⟩)
 refine cR ?_
 refine vf (λ_ _ _ _ _ _=>cm rfl rfl so fv) ?_
 refine vf (λ_ _ _ _ _ _=>cm rfl rfl so fv) ?_
 refine cR ?_
 refine vf (λx w7 G7 aW iV jW=>?_) ?_
 have bP:=bP.go iV
 refine zL mP kP rfl bP.all rfl ?_
 exact fv
 refine cR ?_
 refine cR ?_
 refine ve 0 (λx w7 G7 aW iV jW hJ hlen=>?_) ?_
 have bo:=jP hlen
 subst bo
 have cU:=cU.go iV;have cS:=cS.go iV
 obtain⟨cz,cB,h⟩:=hJ
 subst cz
 refine aC (ih ns ts T.text br (q+6) _ _ w7 hl om hs om om h cU cS) ?_
 rintro v9 w8 ⟨⟨x9,e9,jf⟩,h,aG⟩
 subst e9
 exact fq ([br]) (Fr.of aG sm) ((λz hz=>lL (jW z hz) aG.size)) (⟨rfl,cB.trans aG,h.more om⟩) (⟨_,rfl,jf⟩)
 refine vf (λx w7 G7 aW iV jW=>?_) ?_
 intro v7 hq7 d7
 obtain⟨y7,e7,T6⟩:=d7
 subst e7
 refine cm rfl rfl (by(try simp);omega) ?_
 exact ff (ak.refl _ _) (⟨_,rfl,by simp;omega⟩)
 refine vf (λx w7 G7 aW iV jW=>?_) ?_
 intro v8 d8
 obtain⟨y8,e8,hl8⟩:=d8
 subst e8
 refine cm rfl rfl (by(try simp);omega) ?_
 exact ff (ak.refl _ _) (⟨_,rfl,by simp;omega⟩)
 refine cR ?_
 refine vf (λx w7 G7 aW iV jW=>?_) ?_
 have bP:=bP.go iV
 refine zL mP kP rfl bP.all rfl ?_
 exact fv
 refine cR ?_
 refine cR ?_
 refine ve 1 (λx w7 G7 aW iV jW hJ hlen=>?_) ?_
 have aR:=jQ hlen
 obtain⟨q0,bo⟩:=aR
 subst bo
 have cU:=cU.go iV;have cS:=cS.go iV
 obtain⟨cz,cB,h⟩:=hJ
 subst cz
 refine aC (JT ns ts nm T.text om om _ _ [br] w7 (λx hx=>by simp at hx;subst hx;exact h.lt) cU cS) ?_
 rintro v9 w8 ⟨⟨u1,u2,e9,rD,rE⟩,aG⟩
 subst e9
 exact fe ([br]) (Fr.of aG sm) ((λz hz=>lL (jW z hz) aG.size)) (⟨rfl,cB.ext aG,h.ext aG,u1,u2,rfl,rD,rE⟩)
 refine cR ?_
 refine cR ?_
 refine ve 2 (λx w7 G7 aW iV jW hJ hlen=>?_) ?_
 have aR:=lM hlen
 obtain⟨q0,q1,bo⟩:=aR
 subst bo
 obtain⟨cz,cB,h,u1,u2,e1,rD,rE⟩:=hJ
 subst cz
 have e2:q1=_:=e1
 subst e2
 refine aC (ih (ns++[nm]) (ts++[T.text]) want br (q+6+20*P) _ _ w7 so so (JW hs om) om om h rD rE) ?_
 rintro v9 w8 ⟨⟨x9,e9,jf⟩,h,aG⟩
 subst e9
 exact fq ([br]) (Fr.of aG sm) ((λz hz=>lL (jW z hz) aG.size)) (⟨rfl,cB.trans aG,h.more om⟩) (⟨_,rfl,jf⟩)
 refine vf (λx w7 G7 aW iV jW=>?_) ?_
 intro v9 d9
 intro jV OK d17
 obtain⟨y9,e9,fh⟩:=d9
 subst e9
 obtain⟨V0,r6,V1⟩:=d17
 subst r6
 refine cm rfl rfl (by(try simp);omega) ?_
 exact ff (ak.refl _ _) (⟨_,rfl,by simp;omega⟩)
 refine vf (λx w7 G7 aW iV jW=>?_) ?_
 intro wT d18
 obtain⟨y18,vq,Ng⟩:=d18
 subst vq
 refine cm rfl rfl (by(try simp);omega) ?_
 exact ff (ak.refl _ _) (⟨_,rfl,by simp;omega⟩)
 exact trivial
 intro x qD Jh aW wU Ji hJ hlen
 have aR:=Af hlen
 obtain⟨q0,q1,q2,bo⟩:=aR
 subst bo
 intro v7 hq7 d7
 intro v8 d8
 intro v9 d9
 intro jV OK d17
 intro wT d18
 intro Gp d19
 change OW _ _ _ _ _ (aM (aN _ x _) (zZ 53 [_,_,_,_,_,_,_,_,_,_,_,_,_,_,_,_,_,_,_,_])) _
 obtain⟨cz,cB,h⟩:=hJ
 subst cz
 obtain⟨yz,ez,Es⟩:=d19
 subst ez
 refine zA<|ag<|aV ?_
 exact⟨_,rfl,⟨yz,rfl,om⟩,h.more om,hk.trans cB⟩
 refine aQ<|zr<|dO rfl rfl rfl<|zA<|ag ?_
 refine jg (λb:Bool=>[(0,.pointer (some ⟨br,0,none⟩)),(2,str want),(3,.int .i64 ((d+1:Nat):Int)),(5,.pointer (some ⟨w.heap.size,0,none⟩)),(9,.int .i64 (d:Int)),(22,.int .i64 (z:Int)),(73,.bool b)]) (λb ww=>ww=w3) ?_ ?_
 refine zc rfl (λh5=>?_) (λh5=>?_)
 refine bz ?_
 exact⟨_,⟨rfl,rfl,rfl,rfl,rfl,rfl,rfl⟩,rfl⟩
 refine db<|dO rfl rfl rfl<|zA<|ag ?_
 exact⟨_,⟨rfl,rfl,rfl,rfl,rfl,rfl,rfl⟩,rfl⟩
 intro gu w4 e4 hI
 have OL:w4=_:=hI
 subst OL
 refine zc rfl (λh6=>?_) (λh6=>?_)
 refine zr<|zm<|aC (OB 1 de br (q+1) om w4 h) ?_
 rintro v9 w5 ⟨⟨T,e9,hT⟩,h,aG⟩
 subst e9
 have V2:=T.len
 have hT:T.n+1<=4:=hT
 have h:=h.more (show _<=q+5 from om)
 have hk:=hk.trans aG
 have cU:=cU.aL aG sm;have cS:=cS.aL aG sm;have bP:=bP.aL aG sm
 have oq:=h.lt
 refine zA<|ag<|aQ ?_
 apply kc ei ([br]) 19 (rA 78 19) (rA 78 19) [[],[],[],[2],[3],[],[4,5],[6],[],[0,1,7,8],[9],[10],[],[],[],[],(rA 12 4),[11,16],[17]] [Ie.v _,Ie.v _,Ie.v _,Ie.v _,Ie.v _,Ie.v _,Ie.v _,Ie.v _,Ie.v _,Ie.q 0 (fun(v:Value)=>∃x,v=str x∧x.length<=100000*P),Ie.p (fun(G:List Nat) (v:Value) (ww:World)=>∃x,v=str x∧x.length<=100000*P+200),Ie.p (fun(G:List Nat) (v:Value) (ww:World)=>∃x,v=str x∧x.length<=100000*P+300),Ie.v _,Ie.v _,Ie.v _,Ie.v _,Ie.q 1 (fun(v:Value)=>∃x,v=str x∧x.length<=100000*P),Ie.p (fun(G:List Nat) (v:Value) (ww:World)=>∃x,v=str x∧x.length<=200000*P+400),Ie.p (fun(G:List Nat) (v:Value) (ww:World)=>∃x,v=str x∧x.length<=200000*P+500)] [9,16] [fun(G:List Nat) (vs:List Value) (ww:World)=>G=[br]∧ak [br] w5 ww∧dW ww br (q+5),fun(G:List Nat) (vs:List Value) (ww:World)=>G=[br]∧ak [br] w5 ww∧dW ww br (q+5+20*P),fun(G:List Nat) (vs:List Value) (ww:World)=>G=[br]∧ak [br] w5 ww∧dW ww br (q+5+40*P)] de rfl ((λz hz=>by simp at hz;subst hz;exact h.lt)) (by exact⟨λG v w G' w' h k=>h,λG v w G' w' h k=>h,λG v w G' w' h k=>h,λG v w G' w' h k=>h,trivial⟩) (by exact⟨λG vs w w' ⟨h1,h2,h3⟩ k=>⟨h1,h2.ext k,h3.ext k⟩,λG vs w w' ⟨h1,h2,h3⟩ k=>⟨h1,h2.ext k,h3.ext k⟩,λG vs w w' ⟨h1,h2,h3⟩ k=>⟨h1,h2.ext k,h3.ext k⟩,trivial⟩) (⟨rfl,ak.refl _ _,h⟩)
 refine cR ?_
 refine vf (λx w6 G6 aW te yP=>?_) ?_
 have bP:=bP.go te
 refine zL mP kP rfl bP.all rfl ?_
 exact fv
 refine cR ?_
 refine vf (λ_ _ _ _ _ _=>cm rfl rfl so fv) ?_
 refine vf (λ_ _ _ _ _ _=>cm rfl rfl so fv) ?_
 refine cR ?_
 refine vf (λ_ _ _ _ _ _=>cm rfl rfl so fv) ?_
 refine vf (λ_ _ _ _ _ _=>cm rfl rfl so fv) ?_
 refine cR ?_
 refine ve 0 (λx w6 G6 aW te yP hJ hlen=>?_) ?_
 have bo:=jP hlen
 subst bo
 have cU:=cU.go te;have cS:=cS.go te
 obtain⟨cz,cB,h⟩:=hJ
 subst cz
 refine aC (ih ns ts (((([40,62,32]++T.text)++[32])++want)++[41]) br (q+5) _ _ w6 hl om hs so om h cU cS) ?_
 rintro v9 w7 ⟨⟨x9,e9,jf⟩,h,aG⟩
 subst e9
 exact fq ([br]) (Fr.of aG sm) ((λz hz=>lL (yP z hz) aG.size)) (⟨rfl,cB.trans aG,h.more om⟩) (⟨_,rfl,jf⟩)
 refine vf (λx w6 G6 aW te yP=>?_) ?_
 intro v9 GS d9
 obtain⟨y9,e9,fh⟩:=d9
 subst e9
 refine cm rfl rfl (by(try simp);omega) ?_
 exact ff (ak.refl _ _) (⟨_,rfl,by simp;omega⟩)
 refine vf (λx w6 G6 aW te yP=>?_) ?_
 intro v10 d10
 obtain⟨JZ,gq,DZ⟩:=d10
 subst gq
 refine cm rfl rfl (by(try simp);omega) ?_
 exact ff (ak.refl _ _) (⟨_,rfl,by simp;omega⟩)
 refine cR ?_
 refine vf (λx w6 G6 aW te yP=>?_) ?_
 have bP:=bP.go te
 refine zL mP kP rfl bP.all rfl ?_
 exact fv
 refine cR ?_
 refine cR ?_
 refine ve 1 (λx w6 G6 aW te yP hJ hlen=>?_) ?_
 have aR:=jQ hlen
 obtain⟨q0,bo⟩:=aR
 subst bo
 have cU:=cU.go te;have cS:=cS.go te
 obtain⟨cz,cB,h⟩:=hJ
 subst cz
 refine aC (ih ns ts T.text br (q+5+20*P) _ _ w6 hl om hs om om h cU cS) ?_
 rintro v9 w7 ⟨⟨x9,e9,jf⟩,h,aG⟩
 subst e9
 exact fq ([br]) (Fr.of aG sm) ((λz hz=>lL (yP z hz) aG.size)) (⟨rfl,cB.trans aG,h.more om⟩) (⟨_,rfl,jf⟩)
 refine vf (λx w6 G6 aW te yP=>?_) ?_
 intro v11 d11
 intro yj ajl d16
 obtain⟨VX,Cj,VY⟩:=d11
 subst Cj
 obtain⟨y16,AQ,aov⟩:=d16
 subst AQ
 refine cm rfl rfl (by(try simp);omega) ?_
 exact ff (ak.refl _ _) (⟨_,rfl,by simp;omega⟩)
 refine vf (λx w6 G6 aW te yP=>?_) ?_
 intro jV d17
 obtain⟨V0,r6,V1⟩:=d17
 subst r6
 refine cm rfl rfl (by(try simp);omega) ?_
 exact ff (ak.refl _ _) (⟨_,rfl,by simp;omega⟩)
 exact trivial
 intro x pQ G45 aW aox aoy hJ hlen
 have aR:=lM hlen
 obtain⟨q0,q1,bo⟩:=aR
 subst bo
 intro v9 GS d9
 intro v10 d10
 intro v11 d11
 intro yj ajl d16
 intro jV d17
 intro wT d18
 change OW _ _ _ _ _ (aM (aN _ x _) (zZ 78 [_,_,_,_,_,_,_,_,_,_,_,_,_,_,_,_,_,_,_])) _
 obtain⟨cz,cB,h⟩:=hJ
 subst cz
 obtain⟨yz,ez,Es⟩:=d18
 subst ez
 refine zA<|ag<|aV ?_
 exact⟨_,rfl,⟨yz,rfl,om⟩,h.more om,hk.trans cB⟩
 refine zr<|dO rfl rfl rfl<|zA<|ag<|zc rfl (λh7=>?_) (λh7=>?_)
 refine zr<|zm<|zL mP kP rfl bP.all rfl<|zm<|cm rfl rfl so<|cm rfl rfl so<|zm<|aC (ih ns ts (([40,42,32]++want)++[32,105,41]) br (q+1) _ _ w4 hl om hs so om h cU cS) ?_
 rintro v9 w5 ⟨⟨x9,e9,jf⟩,h,aG⟩
 subst e9
 refine cm rfl rfl so<|cm rfl rfl so<|zA<|ag<|aV ?_
 exact⟨_,rfl,⟨_,rfl,by simp;omega⟩,h.more om,hk.trans aG⟩
 refine zr<|dO rfl rfl rfl<|zA<|ag<|zc rfl (λh8=>?_) (λh8=>?_)
 refine zr<|zm<|zL mP kP rfl bP.all rfl<|zm<|cm rfl rfl so<|cm rfl rfl so<|zm<|aC (ih ns ts (([40,42,32,105,32]++want)++[41]) br (q+1) _ _ w4 hl om hs so om h cU cS) ?_
 rintro v9 w5 ⟨⟨x9,e9,jf⟩,h,aG⟩
 subst e9
 refine cm rfl rfl so<|cm rfl rfl so<|zA<|ag<|aV ?_
 exact⟨_,rfl,⟨_,rfl,by simp;omega⟩,h.more om,hk.trans aG⟩
 refine zr<|dO rfl rfl rfl<|zA<|ag<|zc rfl (λh9=>?_) (λh9=>?_)
 refine zr<|zm<|cW rfl rfl<|ag<|zc rfl (λgF=>?_) (λgF=>?_)
 refine zr<|zm<|aC (aiW br (q+1) om w4 h) ?_
 rintro v9 w5 ⟨⟨x9,e9,jf⟩,h,aG⟩
 subst e9
 refine zA<|ag<|aV ?_
 exact⟨_,rfl,⟨x9,rfl,om⟩,h.more om,hk.trans aG⟩
 refine bz<|zr<|zm<|zL mP kP rfl bP.all rfl<|zm<|zm<|aC (hB ns ts want br (q+1) _ _ w4 hl om hs om om h cU cS) ?_
 rintro v9 w5 ⟨⟨x9,e9,jf⟩,h,aG⟩
 subst e9
 refine zA<|ag<|aV ?_
 exact⟨_,rfl,⟨x9,rfl,om⟩,h.more om,hk.trans aG⟩
 refine bz<|zr<|zm<|zL mP kP rfl bP.all rfl<|zm<|zm<|aC (hB ns ts want br (q+1) _ _ w4 hl om hs om om h cU cS) ?_
 rintro v9 w5 ⟨⟨x9,e9,jf⟩,h,aG⟩
 subst e9
 refine zA<|ag<|aV ?_
 exact⟨_,rfl,⟨x9,rfl,om⟩,h.more om,hk.trans aG⟩
theorem OM:∀d,d<=9->Hc d (4^d)
 |0,_=>ajg
 |d+1,h=>by
  have h2:4^d<=4^9:=Nat.pow_le_pow_right de om
  have:=ajh d (4^d) om (Nat.pos_of_ne_zero sm) (Nat.le_trans h2 de) (OM d om)
  rw[Nat.pow_succ,Nat.mul_comm]
  exact this
theorem mo.zero {TB TS:TypeId} (h:aY w b #[] TB):mo w TB TS (.slice (some ⟨b,0,none⟩) 0 0) (some b) [] [] []:=
 ⟨⟨by simp,.inr ⟨b,0,#[],rfl,rfl,h,lR _,by decide,rfl,rfl⟩⟩,trivial,by simp[ik],by simp[ik]⟩
section
variable {P:Program} {n:Nat} {ops:Array Oper} {K:Env->World->Prop} {rest:List Oper} {e:Env} {w:World}
 {dst:Option Nat} {ty:TypeId} {pos:String} {after:Array Edge} {g:Option (Nat×Bool)} {x y:Operand}
theorem ajm {t E TS bytes:Nat} {z:Value} {v:Value} {gb:Option Nat} {gss:List (Option Nat×Option Nat)} {vss:List (List Value)} {bs:List Bk} {f:Bk} {gs:Option Nat×Option Nat} {a1 a2:Option Addr} {n1 c1 n2 c2:Nat} {b U:Nat} (hT:P.underlying t=some (.slice E)) (hE:TI P E 3 bytes z) (hg:gate ops e g=true) (hd:dw n dst=true) (hz:Nat.beq z.cells.size 3=true) (ie:Nat.ble bytes 1000=true) 
  (hx:ev e x=v) (hy:ev e y= .slice (some ⟨b,0,none⟩) 1 1) (hP:mo w E TS v gb gss vss bs) (hb:aY w b [str f.aP,.slice a1 n1 c1,.slice a2 n2 c2].toArray U)
  (h1:dh w TS (.slice a1 n1 c1) gs.1 f.cN) (h2:dh w TS (.slice a2 n2 c2) gs.2 f.code) (nP:∀x,x∈jM gs->x∉gb.toList++ik gss) (jy:(jM gs).Nodup) (hn:bs.length<100000000)
  (k:∀a' cap' g' w',mo w' E TS (.slice a' (bs++[f]).length cap') g' (gss++[gs]) (vss++[[str f.aP,.slice a1 n1 c1,.slice a2 n2 c2]]) (bs++[f])->ak gb.toList w w'->(g'=gb∨∃z,g'=some z∧w.heap.size<=z)->OW P n ops K rest (cO e dst (.slice a' (bs++[f]).length cap')) w'):
  OW P n ops K (⟨dst,.call {callee:=.builtin .append,args:=#[x,y],argTypes:=#[t,t]},ty,pos,after,g⟩::rest) e w:=by
 obtain⟨i,hi,Bi,iW,A2⟩:=hE.get
 have Dl:bytes<=1000:=Nat.le_of_ble_eq_true ie
 have Hp:(bs.length+1)*bytes<=140737488355328:=Nat.le_trans (Nat.mul_le_mul (show bs.length+1<=100000000 by omega) Dl) de
 obtain⟨v',g',w',kl,eu,hk,kZ⟩:=Ph (P:=P) (w:=w) (ty:=ty) hT hi Bi iW A2 (Nat.eq_of_beq_eq_true hz) hP.own b 0 1 1 [str f.aP,.slice a1 n1 c1,.slice a2 n2 c2] rfl (by have:=hb.all;simpa using this)
  (by intro u hu;simp at hu;rcases hu with rfl|rfl|rfl<;>rfl) de (by unfold maxLen;omega) Hp
 have xr:jX w' E 3 v' g' (bs++[f]).length (vss++[[str f.aP,.slice a1 n1 c1,.slice a2 n2 c2]]).flatten:=by
  simpa using eu
 obtain⟨a',cap',he⟩:=xr.len
 subst he
 have Hd:=(List.nodup_append.1 hP.nodup)
 have V3:∀x,x∈jM gs->x<w.heap.size:=λx hx=>by
  simp only[jM,mA] at hx
  rcases hx with hx|hx
  ·exact jX.lt h1 x (by simpa using hx)
  ·exact jX.lt h2 x (by simpa using hx)
 refine fR hg hd (w':=w') (by
  simp only[execOp,resolve,invoke,builtin,Sem.run_bind,Sem.run_pure,Result.andThen_ok,List.map_toArray,List.map_cons,List.map_nil,hx,hy,kl]) (k a' cap' g' w' ⟨xr,?_,?_,?_⟩ hk (kZ.imp id λh=>⟨_,h,lR _⟩))
 ·refine js.snoc (hP.rows.aO hk λx hx hg=>Hd.2.2 x hg x hx rfl) ⟨_,_,rfl,h1.aO hk λb hb hx=>?_,h2.aO hk λb hb hx=>?_⟩
  ·exact nP b (by simp[jM,hb]) (by simp at hx;simp[hx])
  ·exact nP b (by simp[jM,hb]) (by simp at hx;simp[hx])
 ·rw[Lj,<-List.append_assoc]
  refine List.nodup_append.2 ⟨List.nodup_append.2 ⟨by cases g'<;>simp,Hd.2.1,λa ha c hc=>?_⟩,jy,λa ha c hc=>?_⟩
  ·rintro rfl
   rcases kZ with h|h
   ·rw[h] at ha;exact Hd.2.2 a ha a hc rfl
   ·rw[h] at ha;simp at ha;have:=hP.lt a hc;omega
  ·rintro rfl
   rcases mA.1 ha with ha|ha
   ·rcases kZ with h|h
    ·rw[h] at ha;exact nP a hc (by simp at ha;simp[ha])
    ·rw[h] at ha;simp at ha;have:=V3 a hc;omega
   ·exact nP a hc (by simp[ha])
 ·intro x hx
  rw[Lj,mA] at hx
  rcases hx with hx|hx
  ·exact lL (hP.lt x hx) hk.size
  ·exact lL (V3 x hx) hk.size
theorem js.OO {w:World} {T:TypeId}:∀{gss:List (Option Nat×Option Nat)} {vss:List (List Value)} {bs:List Bk} {i:Nat} {g:Option Nat×Option Nat} {v:List Value} {f:Bk},js w T gss vss bs->qk w' T g v f->
  (∀(g2:Option Nat×Option Nat) (v2:List Value) (b2:Bk),(∀x,x∈jM g2->x∈ik gss)->qk w T g2 v2 b2->qk w' T g2 v2 b2)->js w' T (gss.set i g) (vss.set i v) (bs.set i f)
 |[],[],[],i,g,v,f,_,_,_=>trivial
 |g0::gs,v0::vs,b0::bs,0,g,v,f,h,hf,hk=>by
  refine⟨hf,?_⟩
  have:=js.OO (i:=gs.length) (g:=g) (v:=v) (f:=f) h.2 hf λg2 v2 b2 hg ho=>hk g2 v2 b2 (λx hx=>by rw[BF];exact mR _ (hg x hx)) ho
  have hl:=js.lens h.2
  rwa [List.set_eq_of_length_le om,List.set_eq_of_length_le om,List.set_eq_of_length_le om] at this
 |g0::gs,v0::vs,b0::bs,i+1,g,v,f,h,hf,hk=>
  ⟨hk g0 v0 b0 (λx hx=>by rw[BF];exact List.mem_append_left _ hx) h.1,js.OO h.2 hf λg2 v2 b2 hg ho=>hk g2 v2 b2 (λx hx=>by rw[BF];exact mR _ (hg x hx)) ho⟩
theorem ajn {T TB TS bytes:Nat} {z:Value} {v:Value} {gb:Option Nat} {gss:List (Option Nat×Option Nat)} {vss:List (List Value)} {bs:List Bk} {a2:Option Addr} {n2 c2:Nat} {g2:Option Nat} {ys:List aj} {L:List Nat} {o i:Nat} (kK:TI P T 1 bytes z) (hg:gate ops e g=true) (hx:ev e x= .pointer (some ⟨b,o,none⟩)) (hy:ev e y= .slice a2 n2 c2) (ho:o=i*3+2) 
  (hO:mo w TB TS v gb gss vss bs) (oB:gb=some b) (hi:i<bs.length) (h2:dh w TS (.slice a2 n2 c2) g2 ys) (nP:∀x,x∈g2.toList->x∉gb.toList) (hL:∀x,x∈gb.toList++ik gss++g2.toList->x∉L)
  (k:∀w',ak gb.toList w w'->km L w' v (bs.set i {bB bs i with code:=ys})->w'.heap.size=w.heap.size->OW P n ops K rest e w'):OW P n ops K (⟨none,.store T x y,ty,pos,after,g⟩::rest) e w:=by
 subst ho
 have hd:=List.nodup_append.1 hO.nodup
 have eu:=hO.own
 obtain⟨gs,vs,jN,bo,v1,v2,Lh,dQ,eE⟩:=hO.rows.get (su hi)
 obtain⟨gd,iY,wb⟩:=hO.rows.lens
 subst oB
 obtain⟨hl,h|⟨b',cap,cur,oB,hv,hb,nI,mH,cJ,ht⟩⟩:=eu
 ·obtain⟨_,_,h⟩:=h;cases h
 ·cases oB
  subst hv
  refine J8 kK rfl hg hx hy rfl hb (by rw[cJ];omega) λw' hk gV hz=>?_
  have o7:(vss.set i [str (bB bs i).aP,v1,.slice a2 n2 c2]).flatten=vss.flatten.set (i*3+2) (.slice a2 n2 c2):=by
   have:=Rl (a:=.slice a2 n2 c2) (j:=2) wb bo de
   rw[this,Lh];rfl
  have jS:∀x,x∈ik gss->x∉[b]:=λq hq h=>by simp at h;subst h;exact hd.2.2 q sm q hq rfl
  have iX:qk w' TS (gs.1,g2) [str (bB bs i).aP,v1,.slice a2 n2 c2] {bB bs i with code:=ys}:=
   ⟨v1,_,rfl,dQ.aO hk (λb hb=>jS b (xK jN (by simp[jM,hb]))),h2.aO hk (λb hb hx=>nP b (by simp[hb]) (by simpa using hx))⟩
  have ajo:=js.OO (i:=i) hO.rows iX λg2 v2 b2 iy ho=>ho.aO hk λx hx=>jS x (iy x hx)
  have rS:∀x,x∈ik (gss.set i (gs.1,g2))->x∈ik gss∨x∈g2.toList:=λx hx=>by
   simp only[ik,List.mem_flatMap] at hx⊢
   obtain⟨q,hq,OP⟩:=hx
   rcases List.mem_or_eq_of_mem_set hq with h|h
   ·exact .inl ⟨q,h,OP⟩
   ·subst h
    simp only[jM,mA] at OP
    rcases OP with h|h
    ·exact .inl ⟨gs,List.mem_of_getElem? jN,by simp only[jM,mA];exact .inl h⟩
    ·exact .inr h
  have Hd:∀x,x∈ik (gss.set i (gs.1,g2))->x≠b:=λx hx e=>by
   rcases rS x hx with h|h
   ·exact jS x h (by simp[e])
   ·exact nP x h (by simp[e])
  refine k w' (by simpa using hk) ?_ hz
  refine ig.done (L:=L) (w:=w') (T:=TB) (g:=some b) (xs:=(vss.set i [str (bB bs i).aP,v1,.slice a2 n2 c2]).flatten) ⟨⟨?_,.inr ⟨b,_,_,rfl,sm,gV,by simpa using nI,mH,by simpa using cJ,?_⟩⟩,ajo.Bz λx hx hc=>?_,?_,λc hc=>hL c (by simp[hc])⟩
  ·rw[o7,List.length_set,hl,List.length_map,List.length_set]
  ·rw[Array.toList_setIfInBounds,List.length_map,List.length_set,List.take_set,ht,o7]
  ·rcases mA.1 hc with hc|hc
   ·simp at hc;exact Hd x hx hc
   ·rcases rS x hx with h|h
    ·exact hL x (by simp[h]) hc
    ·exact hL x (by simp[h]) hc
  ·intro row hr
   obtain⟨c,_,rfl⟩:=List.mem_map.1 hr
   rfl
end
def vM (bs bs':List Bk):Prop:=bs'.length=bs.length∧∀i,i<bs.length->(bB bs' i).aP=(bB bs i).aP∧(bB bs' i).cN=(bB bs i).cN∧(bB bs' i).code.length<=(bB bs i).code.length∧∀x,x∈(bB bs' i).code->x∈(bB bs i).code∨bH x=true
theorem vM.refl (bs:List Bk):vM bs bs:=⟨rfl,λ_ _=>⟨rfl,rfl,lR _,λ_ h=>.inl h⟩⟩
theorem ajp {j:Nat} {f:Bk} (hi:i<bs.length):bB (bs.set i f) j=if j=i then f else bB bs j:=by
 unfold bB
 rw[gG,gG,List.getElem?_set]
 by_cases h:i=j
 ·subst h;simp[hi]
 ·rw[iN h,iN (λe=>h e.symm)]
theorem vM.set {cs:List Bk} (h:vM bs cs) (hi:i<bs.length) (hl:ys.length<=(bB bs i).code.length) (hy:∀x,x∈ys->x∈(bB bs i).code∨bH x=true):vM bs (cs.set i {bB cs i with code:=ys}):=by
 refine⟨by rw[List.length_set];exact h.1,λj hj=>?_⟩
 rw[ajp (by rw[h.1];exact hi)]
 by_cases e:j=i
 ·subst e
  rw[iP rfl]
  obtain⟨h1,h2,_,_⟩:=h.2 j hj
  exact⟨h1,h2,hl,hy⟩
 ·rw[iN e];exact h.2 j hj
def Ez:List aj:=[[48],[49],[45,55],[57,57,57]]
def OQ:List aj:=[[97,100,100],[115,117,98],[109,117,108]]
def OR:List aj:=[[48],[49],[50]]
def OS:List aj:=[[109,97,105,110],[98,48],[98,49],[101,110,100]]
def OT:List aj:=[[40,101,32,118,41,32,105],[40,101,32,40,116,32,118,32,118,41,41,32,105],[40,101,32,40,116,32,40,99,32,118,32,105,41,32,118,41,41,32,40,116,41],[40,101,32,118,41,32,40,116,32,105,32,105,41]]
def OU:List aj:=[[98,48],[98,49],[109,97,105,110]]
def OV:List aj:=[[40,104,97,108,116,32,52,48,41],[40,99,111,110,115,116,32,49,32,120,41],[40,109,111,118,32,49,41],[40,110,101,119,41],[40,112,97,99,107,32,49,32,50,32,105,32,105,41],[],[40,103,101,116,32,49,32,50,32,45,49,41],[40,122,101,114,111,32,49,32,50,41],[40,108,97,98,32,48,32,109,97,105,110,41],[40,104,97,108,116,32,48,41]]
set_option maxHeartbeats 4000000 in
theorem ajq (br q:Nat) (hq:q<=900000000) (w:World) (h:dW w br q):
  cj Tryz.prog 77 [.pointer (some ⟨br,0,none⟩)] w λr w'=>(∃x,r=str x∧x.length<=100)∧dW w' br (q+5)∧ak [br] w w':=by
 refine cV [.tmp 2] 133 Tryz.func77 rfl Zq rfl rfl ?_
 refine zr<|zA<|ag<|zr<|zm<|aC (Hb br (q+0) om w h) ?_
 rintro v7 w1 ⟨⟨za,VR,e7⟩,h,cw⟩
 have hxA:∃x,x=bf za:=⟨_,rfl⟩
 obtain⟨tA,etA⟩:=hxA
 rw[<-etA] at e7
 subst e7
 have UT:tA.length<=3:=(by rw[etA];exact sL om)
 have aG:=cw
 refine zA<|ag<|zr<|zm<|aC (Hb br (q+1) om w1 h) ?_
 rintro v7 w2 ⟨⟨zb,VS,e7⟩,h,cw⟩
 have hxB:∃x,x=bf zb:=⟨_,rfl⟩
 obtain⟨tB,etB⟩:=hxB
 rw[<-etB] at e7
 subst e7
 have UU:tB.length<=3:=(by rw[etB];exact sL om)
 have aG:=aG.trans cw
 refine zA<|ag<|zr<|zm<|aC (Hb br (q+2) om w2 h) ?_
 rintro v7 w3 ⟨⟨zd,hzd,e7⟩,h,cw⟩
 have hxD:∃x,x=bf zd:=⟨_,rfl⟩
 obtain⟨tD,etD⟩:=hxD
 rw[<-etD] at e7
 subst e7
 have hlD:tD.length<=3:=(by rw[etD];exact sL om)
 have aG:=aG.trans cw
 refine zA<|ag<|aQ<|zr<|zm<|aC (mF 14 de de br (q+3) om w3 h) ?_
 rintro wL w4 ⟨⟨z,Gw,hz⟩,h,fK⟩
 subst Gw
 have aG:=aG.trans fK
 have oq:=h.lt
 refine ag<|cQ<|aQ<|zr<|dO rfl rfl rfl<|zA<|ag<|zc rfl (λh1=>?_) (λh1=>?_)
 refine bz<|zc rfl (λh2=>?_) (λh2=>?_)
 refine zr<|zm<|cm rfl rfl so<|cm rfl rfl so<|zm<|xX bh bA rfl rfl rfl rfl rfl rfl ?_
 intro w5 aU va jo
 have h:=h.ext aU;have aG:=aG.ext aU
 refine aC (ml Ez de de br (q+4) om _ w5 h (aY.eD Ez va (λhx=>by simp at hx;omega) de)) ?_
 rintro lx w6 ⟨⟨x1,iK,ic⟩,h,dK⟩
 subst ic
 have aG:=aG.trans dK
 have fh:=(show∀x,x∈Ez->x.length<=30 from by decide) _ iK
 refine cm rfl rfl so<|cm rfl rfl so<|zA<|ag<|aV ?_
 exact⟨_,rfl,⟨_,rfl,by simp;omega⟩,h.more om,aG⟩
 omega
 refine db<|dO rfl rfl rfl<|zA<|ag<|zc rfl (λh3=>?_) (λh3=>?_)
 refine zr<|zm<|cm rfl rfl so<|cm rfl rfl so<|zm<|xX bh bA rfl rfl rfl rfl rfl rfl ?_
 intro w5 aU va jo
 have h:=h.ext aU;have aG:=aG.ext aU
 refine aC (ml Ez de de br (q+4) om _ w5 h (aY.eD Ez va (λhx=>by simp at hx;omega) de)) ?_
 rintro lx w6 ⟨⟨x1,iK,ic⟩,h,dK⟩
 subst ic
 have aG:=aG.trans dK
 have fh:=(show∀x,x∈Ez->x.length<=30 from by decide) _ iK
 refine cm rfl rfl so<|cm rfl rfl so<|zA<|ag<|aV ?_
 exact⟨_,rfl,⟨_,rfl,by simp;omega⟩,h.more om,aG⟩
 refine zr<|dO rfl rfl rfl<|zA<|ag<|zc rfl (λh4=>?_) (λh4=>?_)
 refine zr<|zm<|cm rfl rfl so<|cm rfl rfl so<|zm<|cm rfl rfl so<|cm rfl rfl so<|zA<|ag<|aV ?_
 exact⟨_,rfl,⟨_,rfl,by simp;omega⟩,h.more om,aG⟩
 refine zr<|dO rfl rfl rfl<|zA<|ag<|zc rfl (λh5=>?_) (λh5=>?_)
 refine zr<|zm<|pO bh bA rfl rfl rfl rfl rfl ?_
 intro w5 aU vD jo
 have h:=h.ext aU;have aG:=aG.ext aU
 refine aC (ml OQ de de br (q+4) om _ w5 h (aY.eD OQ vD (λhx=>by simp at hx;omega) de)) ?_
 rintro lx w6 ⟨⟨x1,iK,ic⟩,h,dK⟩
 subst ic
 have aG:=aG.trans dK
 have fh:=(show∀x,x∈OQ->x.length<=30 from by decide) _ iK
 refine cm rfl rfl so<|cm rfl rfl so<|zm<|cm rfl rfl so<|cm rfl rfl so<|zm<|cm rfl rfl so<|cm rfl rfl so<|zm<|cm rfl rfl so<|cm rfl rfl so<|zA<|ag<|aV ?_
 exact⟨_,rfl,⟨_,rfl,by simp;omega⟩,h.more om,aG⟩
 refine zr<|dO rfl rfl rfl<|zA<|ag<|zc rfl (λh6=>?_) (λh6=>?_)
 refine zr<|zm<|cm rfl rfl so<|cm rfl rfl so<|zm<|cm rfl rfl so<|cm rfl rfl so<|zm<|cm rfl rfl so<|cm rfl rfl so<|zA<|ag<|aV ?_
 exact⟨_,rfl,⟨_,rfl,by simp;omega⟩,h.more om,aG⟩
 refine zr<|dO rfl rfl rfl<|zA<|ag<|zc rfl (λh7=>?_) (λh7=>?_)
 refine zr<|zm<|cm rfl rfl so<|cm rfl rfl so<|zA<|ag<|aV ?_
 exact⟨_,rfl,⟨_,rfl,by simp;omega⟩,h.more om,aG⟩
 refine zr<|dO rfl rfl rfl<|zA<|ag<|zc rfl (λh8=>?_) (λh8=>?_)
 refine zr<|zm<|cm rfl rfl so<|cm rfl rfl so<|zm<|cm rfl rfl so<|cm rfl rfl so<|zm<|pO bh bA rfl rfl rfl rfl rfl ?_
 intro w5 aU NH jo
 have h:=h.ext aU;have aG:=aG.ext aU
 refine aC (ml OR de de br (q+4) om _ w5 h (aY.eD OR NH (λhx=>by simp at hx;omega) de)) ?_
 rintro lx w6 ⟨⟨x1,iK,ic⟩,h,dK⟩
 subst ic
 have aG:=aG.trans dK
 have fh:=(show∀x,x∈OR->x.length<=30 from by decide) _ iK
 refine cm rfl rfl so<|cm rfl rfl so<|zA<|ag<|aV ?_
 exact⟨_,rfl,⟨_,rfl,by simp;omega⟩,h.more om,aG⟩
 refine zr<|dO rfl rfl rfl<|zA<|ag<|zc rfl (λh9=>?_) (λh9=>?_)
 refine zr<|zm<|cm rfl rfl so<|cm rfl rfl so<|zm<|xX bh bA rfl rfl rfl rfl rfl rfl ?_
 intro w5 aU Ee jo
 have h:=h.ext aU;have aG:=aG.ext aU
 refine aC (ml OS de de br (q+4) om _ w5 h (aY.eD OS Ee (λhx=>by simp at hx;omega) de)) ?_
 rintro lx w6 ⟨⟨x1,iK,ic⟩,h,dK⟩
 subst ic
 have aG:=aG.trans dK
 have fh:=(show∀x,x∈OS->x.length<=30 from by decide) _ iK
 refine cm rfl rfl so<|cm rfl rfl so<|zA<|ag<|aV ?_
 exact⟨_,rfl,⟨_,rfl,by simp;omega⟩,h.more om,aG⟩
 refine zr<|dO rfl rfl rfl<|zA<|ag<|zc rfl (λgF=>?_) (λgF=>?_)
 refine zr<|zm<|cm rfl rfl so<|cm rfl rfl so<|zm<|cm rfl rfl so<|cm rfl rfl so<|zm<|xX bh bA rfl rfl rfl rfl rfl rfl ?_
 intro w5 aU GM jo
 have h:=h.ext aU;have aG:=aG.ext aU
 refine aC (ml OT de de br (q+4) om _ w5 h (aY.eD OT GM (λhx=>by simp at hx;omega) de)) ?_
 rintro lx w6 ⟨⟨x1,iK,ic⟩,h,dK⟩
 subst ic
 have aG:=aG.trans dK
 have fh:=(show∀x,x∈OT->x.length<=30 from by decide) _ iK
 refine cm rfl rfl so<|cm rfl rfl so<|zA<|ag<|aV ?_
 exact⟨_,rfl,⟨_,rfl,by simp;omega⟩,h.more om,aG⟩
 refine zr<|dO rfl rfl rfl<|zA<|ag<|zc rfl (λkn=>?_) (λkn=>?_)
 refine zr<|zm<|cm rfl rfl so<|cm rfl rfl so<|zm<|cm rfl rfl so<|cm rfl rfl so<|zA<|ag<|aV ?_
 exact⟨_,rfl,⟨_,rfl,by simp;omega⟩,h.more om,aG⟩
 refine zr<|dO rfl rfl rfl<|zA<|ag<|zc rfl (λjK=>?_) (λjK=>?_)
 refine zr<|zm<|cm rfl rfl so<|cm rfl rfl so<|zm<|pO bh bA rfl rfl rfl rfl rfl ?_
 intro w5 aU Jt jo
 have h:=h.ext aU;have aG:=aG.ext aU
 refine aC (ml OU de de br (q+4) om _ w5 h (aY.eD OU Jt (λhx=>by simp at hx;omega) de)) ?_
 rintro lx w6 ⟨⟨x1,iK,ic⟩,h,dK⟩
 subst ic
 have aG:=aG.trans dK
 have fh:=(show∀x,x∈OU->x.length<=30 from by decide) _ iK
 refine cm rfl rfl so<|cm rfl rfl so<|zA<|ag<|aV ?_
 exact⟨_,rfl,⟨_,rfl,by simp;omega⟩,h.more om,aG⟩
 refine zr<|dO rfl rfl rfl<|zA<|ag<|zc rfl (λlH=>?_) (λlH=>?_)
 refine zr<|zm<|zm<|cm rfl rfl so<|cm rfl rfl so<|zm<|cm rfl rfl so<|cm rfl rfl so<|ln bh bA rfl rfl rfl rfl ?_
 intro w5 aU MR jo
 have h:=h.ext aU;have aG:=aG.ext aU
 refine aC (ml [[40,106,117,109,112,32]++tA++[41],[40,104,97,108,116,32]++tA++[41]] sm sm br (q+4) om _ w5 h (aY.eD [[40,106,117,109,112,32]++tA++[41],[40,104,97,108,116,32]++tA++[41]] MR (λhx=>by simp at hx;omega))) ?_
 rintro lx w6 ⟨⟨x1,iK,ic⟩,h,dK⟩
 subst ic
 have aG:=aG.trans dK
 have fh:x1.length<=30:=(by simp only[mC,List.not_mem_nil,or_false] at iK;rcases iK with rfl|rfl<;>simp<;>omega)
 refine zA<|ag<|aV ?_
 exact⟨_,rfl,⟨_,rfl,om⟩,h.more om,aG⟩
 refine bz<|zr<|zm<|acE bh bA rfl rfl rfl rfl rfl rfl rfl rfl rfl rfl rfl rfl ?_
 intro w5 aU aju jo
 have h:=h.ext aU;have aG:=aG.ext aU
 refine aC (ml OV de de br (q+4) om _ w5 h (aY.eD OV aju (λhx=>by simp at hx;omega) de)) ?_
 rintro lx w6 ⟨⟨x1,iK,ic⟩,h,dK⟩
 subst ic
 have aG:=aG.trans dK
 have fh:=(show∀x,x∈OV->x.length<=30 from by decide) _ iK
 refine zA<|ag<|aV ?_
 exact⟨_,rfl,⟨_,rfl,om⟩,h.more om,aG⟩
def J0:List aj:=[[105],[105],[40,116,41],[40,116,32,105,32,105,41],[40,101,32,118,41]]
theorem ajv {α:Type} {l:List α} (h:l.length=7):∃a b c d e f g,l=[a,b,c,d,e,f,g]:=by
 match l,h with|[a,b,c,d,e,f,g],_=>exact⟨a,b,c,d,e,f,g,rfl⟩
structure OX (b:Bk) (aP:aj):Prop where
 aP:b.aP=aP
 regs:b.cN.length<=10∧∀x,x∈b.cN->x.length<=100
 code:1<=b.code.length∧b.code.length<=10∧∀x,x∈b.code->x.length<=100
structure rG (br:Nat) (w:World) (b6 b7:Nat) (aP:aj) (v1:Value) (g1:Option Nat) (xs:List aj) (v2:Value) (g2:Option Nat) (ys:List aj) (q:Nat) (ww:World):Prop where
 box:aY ww b7 [str aP,v1,v2].toArray 29
 res:aY ww b6 [str [],.slice none 0 0,.slice none 0 0].toArray 29
 o1:dh ww 9 v1 g1 xs
 o2:dh ww 9 v2 g2 ys
 rd:dW ww br q
 kp:ak [br] w ww
 f1:∀x,x∈g1.toList->w.heap.size<=x∧x≠b6∧x≠b7∧x∉g2.toList
 f2:∀x,x∈g2.toList->w.heap.size<=x∧x≠b6∧x≠b7∧x∉g1.toList
theorem rG.ext {br:Nat} {aP:aj} {ww:World} (h:rG br w b6 b7 aP v1 g1 xs v2 g2 ys q ww) (k:ak [] ww w'):rG br w b6 b7 aP v1 g1 xs v2 g2 ys q w':=
 ⟨h.box.ext k,h.res.ext k,h.o1.ext k,h.o2.ext k,h.rd.ext k,h.kp.ext k,h.f1,h.f2⟩
theorem rG.Gx {br:Nat} {aP:aj} {ww wx:World} {g:Option Nat} {zs:List aj} (h:rG br w b6 b7 aP v1 g1 xs v2 g2 ys q ww) (iE:br<w.heap.size) (h6:w.heap.size<=b6) (h7:w.heap.size<=b7) (OY:b6≠b7) (hO:dh wx 9 v g zs) (fo:dW wx br q') (k:ak (br::g1.toList) ww wx) (hg:g=g1∨∃z,g=some z∧ww.heap.size<=z) (k2:ak [b7] wx w') (hb:aY w' b7 [str aP,v,v2].toArray 29):rG br w b6 b7 aP v g zs v2 g2 ys q' w':=by
 have iy:∀x,x∈g.toList->x∈g1.toList∨ww.heap.size<=x:=λx hx=>by
  rcases hg with rfl|⟨z,rfl,hz⟩
  ·exact .inl hx
  ·simp at hx;right;omega
 have s7:=h.box.lt
 have s6:=h.res.lt
 have iW:=h.kp.size
 have f1:∀x,x∈g.toList->w.heap.size<=x∧x≠b6∧x≠b7∧x∉g2.toList:=λx hx=>by
  rcases iy x hx with h9|h9
  ·exact h.f1 x h9
  ·exact⟨by omega,om,om,λhy=>by have:=h.o2.lt x hy;omega⟩
 have n6:b6∉br::g1.toList:=λhx=>by
  rcases mC.1 hx with h9|h9
  ·omega
  ·exact(h.f1 b6 h9).2.1 rfl
 refine⟨hb,(h.res.aO k n6).aO k2 (by simpa using OY),hO.aO k2 (λx hx hy=>(f1 x (by simp[hx])).2.2.1 (by simpa using hy)),(h.o2.aO k (λx hx hy=>?_)).aO k2 (λx hx hy=>(h.f2 x (by simp[hx])).2.2.1 (by simpa using hy)),fo.aO k2 (λx hx=>by simp at hx;omega),?_,f1,λx hx=>⟨(h.f2 x hx).1,(h.f2 x hx).2.1,(h.f2 x hx).2.2.1,λhy=>(f1 x hy).2.2.2 hx⟩⟩
 ·rcases mC.1 hy with h9|h9
  ·have:=(h.f2 x (by simp[hx])).1;omega
  ·exact(h.f2 x (by simp[hx])).2.2.2 h9
 ·refine(h.kp.since k λx hx=>?_).since k2 λx hx=>.inr (by simp at hx;omega)
  rcases mC.1 hx with h9|h9
  ·exact .inl (by simp[h9])
  ·exact .inr (h.f1 x h9).1
theorem rG.AA {br:Nat} {aP:aj} {ww wx:World} {g:Option Nat} {zs:List aj} (h:rG br w b6 b7 aP v1 g1 xs v2 g2 ys q ww) (iE:br<w.heap.size) (h6:w.heap.size<=b6) (h7:w.heap.size<=b7) (OY:b6≠b7) (hO:dh wx 9 v g zs) (fo:dW wx br q') (k:ak (br::g2.toList) ww wx) (hg:g=g2∨∃z,g=some z∧ww.heap.size<=z) (k2:ak [b7] wx w') (hb:aY w' b7 [str aP,v1,v].toArray 29):rG br w b6 b7 aP v1 g1 xs v g zs q' w':=by
 have iy:∀x,x∈g.toList->x∈g2.toList∨ww.heap.size<=x:=λx hx=>by
  rcases hg with rfl|⟨z,rfl,hz⟩
  ·exact .inl hx
  ·simp at hx;right;omega
 have s7:=h.box.lt
 have s6:=h.res.lt
 have iW:=h.kp.size
 have f1:∀x,x∈g.toList->w.heap.size<=x∧x≠b6∧x≠b7∧x∉g1.toList:=λx hx=>by
  rcases iy x hx with h9|h9
  ·exact h.f2 x h9
  ·exact⟨by omega,om,om,λhy=>by have:=h.o1.lt x hy;omega⟩
 have n6:b6∉br::g2.toList:=λhx=>by
  rcases mC.1 hx with h9|h9
  ·omega
  ·exact(h.f2 b6 h9).2.1 rfl
 refine⟨hb,(h.res.aO k n6).aO k2 (by simpa using OY),(h.o1.aO k (λx hx hy=>?_)).aO k2 (λx hx hy=>(h.f1 x (by simp[hx])).2.2.1 (by simpa using hy)),hO.aO k2 (λx hx hy=>(f1 x (by simp[hx])).2.2.1 (by simpa using hy)),fo.aO k2 (λx hx=>by simp at hx;omega),?_,λx hx=>⟨(h.f1 x hx).1,(h.f1 x hx).2.1,(h.f1 x hx).2.2.1,λhy=>(f1 x hy).2.2.2 hx⟩,f1⟩
 ·rcases mC.1 hy with h9|h9
  ·have:=(h.f1 x (by simp[hx])).1;omega
  ·exact(h.f1 x (by simp[hx])).2.2.2 h9
 ·refine(h.kp.since k λx hx=>?_).since k2 λx hx=>.inr (by simp at hx;omega)
  rcases mC.1 hx with h9|h9
  ·exact .inl (by simp[h9])
  ·exact .inr (h.f2 x h9).1
theorem rG.call {br:Nat} {aP:aj} {ww:World} (h:rG br w b6 b7 aP v1 g1 xs v2 g2 ys q ww) (iE:br<w.heap.size) (h6:w.heap.size<=b6) (h7:w.heap.size<=b7) (fo:dW w' br q') (k:ak [br] ww w'):rG br w b6 b7 aP v1 g1 xs v2 g2 ys q' w':=
 ⟨h.box.aO k so,h.res.aO k so,h.o1.aO k (λx hx hy=>by have:=(h.f1 x (by simp[hx])).1;simp at hy;omega),h.o2.aO k (λx hx hy=>by have:=(h.f2 x (by simp[hx])).1;simp at hy;omega),fo,h.kp.trans k,h.f1,h.f2⟩
set_option maxHeartbeats 4000000 in
theorem OZ (aP:aj) (k:Nat) (hk:k<=10) (br q:Nat) (hq:q<=800000000) (w:World) (h:dW w br q):
  cj Tryz.prog 48 [.pointer (some ⟨br,0,none⟩),str aP,.int .i64 (k:Int)] w λr w'=>(∃bk,OX bk aP∧∀L:List Nat,(∀x,x∈L->x<w.heap.size)->qS L w' r bk)∧dW w' br (q+100)∧ak [br] w w':=by
 have iE:=h.lt
 have hK:=ak.refl [] w
 refine lF [.cell 6 29] 64 Tryz.func48 rfl Y6 rfl rfl rfl ?_
 refine zr<|eA gR rfl rfl rfl ?_
 intro w1 aK bQ lG
 have hK:=hK.ext aK
 refine ag<|zr<|zm<|gN bh bA ?_
 intro w2 aq mw Ge
 have hK:=hK.ext aq;have bQ:=bQ.ext aq
 refine gN bh bA ?_
 intro w3 aJ wO Ck
 have hK:=hK.ext aJ;have bQ:=bQ.ext aJ;have mw:=mw.ext aJ
 refine j5 (Ks _ _ _ _ _ _ _ _) rfl rfl<|eA gR rfl rfl rfl ?_
 intro w4 aF cG qg
 have hK:=hK.ext aF;have bQ:=bQ.ext aF;have mw:=mw.ext aF;have wO:=wO.ext aF
 refine du gR rfl rfl rfl cG rfl ?_
 intro w5 aU cG dN
 have hK:=hK.since aU (λx hx=>.inr (by simp at hx;omega))
 have bQ:=bQ.aO aU so
 have mw:=mw.aO aU so
 have wO:=wO.aO aU so
 have hS:rG br w w.heap.size w3.heap.size aP (.slice (some ⟨w1.heap.size,0,none⟩) 0 0) (some w1.heap.size) [] (.slice (some ⟨w2.heap.size,0,none⟩) 0 0) (some w2.heap.size) [] q w5:=⟨cG,bQ,mw.lp,wO.lp,h.ext hK,hK.any,λx hx=>by simp at hx;subst hx;simp;omega,λx hx=>by simp at hx;subst hx;simp;omega⟩
 refine ag<|aQ<|zr<|zA<|ag<|cQ ?_
 refine fW (λi:Nat=>[(0,.pointer (some ⟨br,0,none⟩)),(6,.pointer (some ⟨w.heap.size,0,none⟩)),(7,.pointer (some ⟨w3.heap.size,0,none⟩)),(2,.int .i64 (k:Int)),(8,.int .i64 (i:Int))]) (λi ww=>i<=k∧∃v1 g1 xs v2 g2,rG br w w.heap.size w3.heap.size aP v1 g1 xs v2 g2 [] (q+i) ww∧xs.length=i∧∀x,x∈xs->x.length<=100) (λi=>k-i) (0) (⟨rfl,rfl,rfl,rfl,rfl⟩) (⟨Nat.zero_le _,_,_,_,_,_,hS,rfl,sm⟩) ?_
 intro gg w6 e6 hI
 obtain⟨hi,v1,g1,xs,v2,g2,hS,hxn,yN⟩:=hI
 refine aQ<|zr<|zm<|zm<|fy rfl rfl rfl<|ag<|zc rfl (λh1=>?_) (λh1=>?_)
 have lg:gg<k:=(by simp at h1;omega)
 have cJ:=kt hS.o1
 obtain⟨a1,c1,e1⟩:=cJ
 subst e1
 have ajx:br∉g1.toList:=(λhx=>by have:=(hS.f1 br hx).1;omega)
 have bj:fg (br::g1.toList) w6 w3.heap.size [str aP,.slice a1 xs.length c1,v2].toArray 29:=⟨hS.box,λhx=>by rcases mC.1 hx with h9|h9;(·omega);(·exact(hS.f1 _ h9).2.2.1 rfl)⟩
 have tS:=bj.out
 have pX:fu (br::g1.toList) w6:=(λz hz=>by rcases mC.1 hz with h9|h9;(·rw[h9];exact hS.rd.lt);(·exact hS.o1.lt z h9))
 refine bz<|aQ<|cQ ?_
 apply kc ei ((br::g1.toList)) 7 (rA 21 7) (rA 21 7) [[],[0],[],[],[2,3],[4],[1,5]] [Ie.v _,Ie.v _,Ie.v _,Ie.p (fun(G:List Nat) (v:Value) (ww:World)=>bI G ww v J0),Ie.e 0,Ie.e 1,Ie.e 2] [4,5,6] [fun(G:List Nat) (vs:List Value) (ww:World)=>G=br::g1.toList∧ak [] w6 ww,fun(G:List Nat) (vs:List Value) (ww:World)=>G=br::g1.toList∧ak [br] w6 ww∧dW ww br (q+gg+1)∧∃x,vs.getD 0 undef=str x∧x.length<=100,fun(G:List Nat) (vs:List Value) (ww:World)=>G=br::g1.toList∧ak [br] w6 ww∧dW ww br (q+gg+1)∧∃x bb,vs.getD 0 undef=str x∧x.length<=100∧vs.getD 1 undef= .slice (some ⟨bb,0,none⟩) 1 1∧aY ww bb [str x].toArray 9,fun(G:List Nat) (vs:List Value) (ww:World)=>ak (br::g1.toList) w6 ww∧dW ww br (q+gg+1)∧∃x g9,x.length<=100∧dh ww 9 (vs.getD 2 undef) g9 (xs++[x])∧(g9=g1∨∃z,g9=some z∧w6.heap.size<=z)] de rfl pX (by exact⟨λG v w G' w' h k=>bI.go h k,trivial⟩) (by exact⟨λG vs w w' ⟨h1,h2⟩ k=>⟨h1,h2.ext k⟩,λG vs w w' ⟨h1,h2,h3,h4⟩ k=>⟨h1,h2.ext k,h3.ext k,h4⟩,λG vs w w' ⟨h1,h2,h3,x,bb,h4,h5,h6,h7⟩ k=>⟨h1,h2.ext k,h3.ext k,x,bb,h4,h5,h6,h7.ext k⟩,λG vs w w' ⟨h1,h2,x,g9,h3,h4,h5⟩ k=>⟨h1.ext k,h2.ext k,x,g9,h3,h4.ext k,h5⟩,trivial⟩) (⟨rfl,ak.refl _ _⟩)
 refine vf (λ_ _ _ _ _ _=>zf xw rfl fv) ?_
 refine vf (λx w7 G7 aW iV jW=>?_) ?_
 have bj:=bj.go iV
 refine zl eQ rfl (bj.at rfl) ?_
 exact fv
 refine cR ?_
 refine vf (λx w7 G7 aW iV jW=>?_) ?_
 refine LZ bh bA rfl rfl rfl rfl rfl rfl rfl ?_
 intro w8 cu Cl mn
 exact ff cu ((aY.eD J0 Cl (λhx=>by have:=jW _ hx;omega) de))
 refine ve 0 (λx w7 G7 aW iV jW hJ hlen=>?_) ?_
 have bo:=jP hlen
 subst bo
 intro v3 d3
 obtain⟨cz,cB⟩:=hJ
 subst cz
 have fo:=hS.rd.ext cB
 refine aC (ml J0 de de br (q+gg) om _ w7 fo (bI.fresh d3 (λx hx=>.inl (by simp at hx;simp[hx])))) ?_
 rintro v25 w8 ⟨⟨x1,iK,Ni⟩,fo,GA⟩
 subst Ni
 have gd:=(show∀x,x∈J0->x.length<=100 from by decide) _ iK
 exact fe _ (Fr.of GA sm) ((λz hz=>lL (jW z hz) GA.size)) (⟨rfl,cB.any.trans GA,fo,x1,rfl,gd⟩)
 refine ve 1 (λx w7 G7 aW iV jW hJ hlen=>?_) ?_
 have aR:=jQ hlen
 obtain⟨q0,bo⟩:=aR
 subst bo
 obtain⟨cz,cB,fo,x1,e1,gd⟩:=hJ
 subst cz
 have e2:q0=_:=e1
 subst e2
 refine gD bh bA rfl rfl ?_
 intro w8 cu Cp mn
 exact fe _ (Fr.of cu sm) ((λz hz=>lL (jW z hz) (ak.size cu))) (⟨rfl,cB.ext cu,fo.ext cu,x1,_,rfl,gd,rfl,Cp⟩)
 refine ve 2 (λx w7 G7 aW iV jW hJ hlen=>?_) ?_
 have aR:=lM hlen
 obtain⟨q0,q1,bo⟩:=aR
 subst bo
 obtain⟨cz,cB,fo,x1,bb,e1,gd,e2,gw⟩:=hJ
 subst cz
 have e3:q0=_:=e1
 subst e3
 have e4:q1=_:=e2
 subst e4
 have ho:=hS.o1.aO cB (λx hx hy=>ajx (by simp at hy;subst hy;simp[hx]))
 refine rZ bh bA rfl rfl rfl rfl rfl rfl ho gw om ?_
 intro v9 g9 w8 dJ aG fL
 have O0:=cB.size
 exact fe ((br::g9.toList)) (⟨aG.mono (λz hz=>mK _ hz),λz hz=>by rcases mC.1 hz with h9|h9;(·exact .inl (by simp[h9]));(·rcases fL with h8|h8;(·rw[h8] at h9;exact .inl (mK _ h9));(·rw[h8] at h9;simp at h9;right;omega))⟩) ((λz hz=>by rcases mC.1 hz with h9|h9;(·rw[h9];exact lL fo.lt aG.size);(·exact dJ.lt z h9))) (⟨(cB.mono sm).trans (aG.mono (λz hz=>mK _ hz)),fo.aO aG (λz hz=>by have:=(hS.f1 z hz).1;omega),x1,g9,gd,dJ,fL.imp id (λh8=>⟨_,h8,O0⟩)⟩)
 exact trivial
 intro x qD Jh aW wU Ji hJ hlen
 have aR:=Af hlen
 obtain⟨q0,q1,q2,bo⟩:=aR
 subst bo
 intro v3 d3
 have bj:=bj.go wU
 change OW _ _ _ _ _ (aM (aN _ x _) (zZ 21 [_,_,_,_,_,_,_])) _
 obtain⟨fl,fo,x1,g9,gd,dJ,fL⟩:=hJ
 have cJ:=kt dJ
 obtain⟨a9,c9,e9⟩:=cJ
 have e8:q2=_:=e9
 subst e8
 have bj:=hS.box.aO fl tS
 refine zf xw rfl<|gW (o:=1) nJ rfl rfl rfl bj rfl ?_
 intro wK jk bj dN
 have hS:=hS.Gx iE (lR _) om om dJ fo fl fL jk bj
 refine ag<|db<|zm<|eF rfl rfl rfl (kj (gg+1) om _ om)<|zA<|ag ?_
 exact⟨gg+1,⟨rfl,rfl,rfl,rfl,rfl⟩,⟨by omega,_,_,_,_,_,hS,by rw[lA,hxn];rfl,λx hx=>by rcases mA.1 hx with h9|h9;(·exact yN x h9);(·simp only[List.mem_singleton] at h9;rw[h9];exact gd)⟩,om⟩
 have BX:=hS.rd.more (show q+gg<=q+10 from om)
 have ajy:xs.length<=10:=om
 refine gB<|gC rfl<|zr<|zm<|aC (mF 5 de de br (q+10) om w6 BX) ?_
 rintro v30 w7 ⟨⟨n,e30,hn⟩,fo,ajA⟩
 subst e30
 have hS:=hS.call iE (lR _) om fo ajA
 refine zA<|ag<|aQ<|zr<|zA<|ag<|cQ ?_
 refine fW (λj:Nat=>[(0,.pointer (some ⟨br,0,none⟩)),(6,.pointer (some ⟨w.heap.size,0,none⟩)),(7,.pointer (some ⟨w3.heap.size,0,none⟩)),(9,.int .i64 (n:Int)),(10,.int .i64 (j:Int))]) (λj ww=>j<=n∧∃v1 g1 v2 g2 ys,rG br w w.heap.size w3.heap.size aP v1 g1 xs v2 g2 ys (q+11+5*j) ww∧ys.length<=j∧∀x,x∈ys->x.length<=100) (λj=>n-j) (0) (⟨rfl,rfl,rfl,rfl,rfl⟩) (⟨Nat.zero_le _,_,_,_,_,[],hS,sm,sm⟩) ?_
 intro gg w8 e8 hI
 obtain⟨hj,v1,g1,v2,g2,ys,hS,hyn,O1⟩:=hI
 refine aQ<|zr<|zm<|zm<|fy rfl rfl rfl<|ag<|zc rfl (λh2=>?_) (λh2=>?_)
 have rR:gg<n:=om
 refine bz<|aQ<|cQ<|zr<|zm<|aC (ajq br (q+11+5*gg) om w8 hS.rd) ?_
 rintro v37 w9 ⟨⟨x1,e37,gd⟩,fo,ajC⟩
 subst e37
 have hS:=hS.call iE (lR _) om fo ajC
 refine zA<|ag<|zr<|zm<|aC (KV x1 w9) ?_
 rintro v10 cM ⟨rm,bU⟩
 have B8:=bU.size
 have hS:=hS.ext bU
 obtain rfl:=rm
 refine zm ?_
 apply fX 4 40 44 [40,41,42,43,44] (ak [] cM) rfl
 intro h3
 replace h3:=bw h3
 have He:=ak.refl [] cM
 refine zm<|aC (HM x1 cM) ?_
 rintro v11 eW ⟨ry,cK⟩
 have CA:=cK.size
 have He:=He.ext cK
 obtain rfl:=ry
 refine eJ rfl<|zp rfl<|ag ?_
 exact mg rfl He
 intro h3
 replace h3:=bw h3
 have He:=ak.refl [] cM
 refine zs<|zs<|zs<|zp rfl<|ag ?_
 exact mg rfl He
 intro xx eW cK
 have hS:=hS.ext cK
 refine ag<|zc rfl (λh4=>?_) (λh4=>?_)
 have cJ:=kt hS.o2
 obtain⟨a2,c2,e2⟩:=cJ
 subst e2
 have bj:=hS.box
 refine db<|zf mQ rfl<|zl eQ rfl (bj.at rfl)<|zm<|gD bh bA rfl rfl ?_
 intro gh dC CB Nj
 have hS:=hS.ext dC
 refine rZ bh bA rfl rfl rfl rfl rfl rfl hS.o2 CB om ?_
 intro v9 g9 jD dJ fK fL
 have cJ:=kt dJ
 obtain⟨a9,c9,e9⟩:=cJ
 subst e9
 have fl:ak (br::g2.toList) _ jD:=(fK).mono (λz hz=>mK _ hz)
 have ajD:=hS.rd.aO fK (λz hz=>by have:=(hS.f2 z hz).1;omega)
 have bj:=hS.box.aO fK (λhx=>(hS.f2 _ hx).2.2.1 rfl)
 refine zf mQ rfl<|gW (o:=2) nJ rfl rfl rfl bj rfl ?_
 intro je dK bj dN
 have hS:=hS.AA iE (lR _) om om dJ ajD fl (fL.imp id (λh8=>⟨_,h8,lR _⟩)) dK bj
 refine ag<|db<|zm<|eF rfl rfl rfl (kj (gg+1) om _ om)<|zA<|ag ?_
 exact⟨gg+1,⟨rfl,rfl,rfl,rfl,rfl⟩,⟨by omega,_,_,_,_,_,hS,by rw[lA];simp;omega,λx hx=>by rcases mA.1 hx with h9|h9;(·exact O1 x h9);(·simp only[List.mem_singleton] at h9;rw[h9];exact gd)⟩,om⟩
 refine bz<|db<|zm<|eF rfl rfl rfl (kj (gg+1) om _ om)<|zA<|ag ?_
 exact⟨gg+1,⟨rfl,rfl,rfl,rfl,rfl⟩,⟨by omega,_,_,_,_,_,hS,om,O1⟩,om⟩
 have ajE:=hS.rd.more (show q+11+5*gg<=q+31 from om)
 have cJ:=kt hS.o2
 obtain⟨a2,c2,e2⟩:=cJ
 subst e2
 have ajF:br∉g2.toList:=(λhx=>by have:=(hS.f2 br hx).1;omega)
 have bj:fg (br::g2.toList) w8 w3.heap.size [str aP,v1,.slice a2 ys.length c2].toArray 29:=⟨hS.box,λhx=>by rcases mC.1 hx with h9|h9;(·omega);(·exact(hS.f2 _ h9).2.2.1 rfl)⟩
 have tS:=bj.out
 have pX:fu (br::g2.toList) w8:=(λz hz=>by rcases mC.1 hz with h9|h9;(·rw[h9];exact hS.rd.lt);(·exact hS.o2.lt z h9))
 have aoC:ys.length<=4:=om
 refine gB<|gC rfl<|aQ ?_
 apply kc ei ((br::g2.toList)) 11 (rA 51 11) (rA 51 11) [[],[0],[],[],[3],[4],[5],[6],[2,7],[8],[1,9]] [Ie.v _,Ie.v _,Ie.v _,Ie.v _,Ie.e 0,Ie.e 1,Ie.e 2,Ie.e 3,Ie.e 4,Ie.e 5,Ie.e 6] (rA 4 7) [fun(G:List Nat) (vs:List Value) (ww:World)=>G=br::g2.toList∧ak [] w8 ww,fun(G:List Nat) (vs:List Value) (ww:World)=>G=br::g2.toList∧ak [br] w8 ww∧dW ww br (q+32)∧∃x,vs.getD 0 undef=str x∧x.length<=10,fun(G:List Nat) (vs:List Value) (ww:World)=>G=br::g2.toList∧ak [br] w8 ww∧dW ww br (q+32)∧∃x,vs.getD 1 undef=str x∧x.length<=30,fun(G:List Nat) (vs:List Value) (ww:World)=>G=br::g2.toList∧ak [br] w8 ww∧dW ww br (q+32)∧∃x,vs.getD 2 undef=str x∧x.length<=40,fun(G:List Nat) (vs:List Value) (ww:World)=>G=br::g2.toList∧ak [br] w8 ww∧dW ww br (q+32)∧∃x,x.length<=40∧bI (br::g2.toList) ww (vs.getD 3 undef) [x,[40,104,97,108,116,32,48,41],[40,106,117,109,112,32,49,41]],fun(G:List Nat) (vs:List Value) (ww:World)=>G=br::g2.toList∧ak [br] w8 ww∧dW ww br (q+33)∧∃x,vs.getD 4 undef=str x∧x.length<=100,fun(G:List Nat) (vs:List Value) (ww:World)=>G=br::g2.toList∧ak [br] w8 ww∧dW ww br (q+33)∧∃x bb,x.length<=100∧vs.getD 5 undef= .slice (some ⟨bb,0,none⟩) 1 1∧aY ww bb [str x].toArray 9,fun(G:List Nat) (vs:List Value) (ww:World)=>ak (br::g2.toList) w8 ww∧dW ww br (q+33)∧∃x g9,x.length<=100∧dh ww 9 (vs.getD 6 undef) g9 (ys++[x])∧(g9=g2∨∃z,g9=some z∧w8.heap.size<=z)] de rfl pX (by exact trivial) (by exact⟨λG vs w w' ⟨h1,h2⟩ k=>⟨h1,h2.ext k⟩,λG vs w w' ⟨h1,h2,h3,h4⟩ k=>⟨h1,h2.ext k,h3.ext k,h4⟩,λG vs w w' ⟨h1,h2,h3,h4⟩ k=>⟨h1,h2.ext k,h3.ext k,h4⟩,λG vs w w' ⟨h1,h2,h3,h4⟩ k=>⟨h1,h2.ext k,h3.ext k,h4⟩,λG vs w w' ⟨h1,h2,h3,x,h4,h5⟩ k=>⟨h1,h2.ext k,h3.ext k,x,h4,h5.ext k⟩,λG vs w w' ⟨h1,h2,h3,h4⟩ k=>⟨h1,h2.ext k,h3.ext k,h4⟩,λG vs w w' ⟨h1,h2,h3,x,bb,h4,h5,h6⟩ k=>⟨h1,h2.ext k,h3.ext k,x,bb,h4,h5,h6.ext k⟩,λG vs w w' ⟨h1,h2,x,g9,h3,h4,h5⟩ k=>⟨h1.ext k,h2.ext k,x,g9,h3,h4.ext k,h5⟩,trivial⟩) (⟨rfl,ak.refl _ _⟩)
 refine vf (λ_ _ _ _ _ _=>zf mQ rfl fv) ?_
 refine vf (λx w9 G9 aW df lf=>?_) ?_
 have bj:=bj.go df
 refine zl eQ rfl (bj.at rfl) ?_
 exact fv
 refine cR ?_
 refine cR ?_
 refine ve 0 (λx w9 G9 aW df lf hJ hlen=>?_) ?_
 have bo:=jP hlen
 subst bo
 obtain⟨cz,cB⟩:=hJ
 subst cz
 have fo:=ajE.ext cB
 refine aC (Hb br (q+31) om w9 fo) ?_
 rintro v55 cM ⟨⟨z9,dN,UW⟩,fo,xe⟩
 subst UW
 have gd:=sL (n:=z9) om
 exact fe _ (Fr.of xe sm) ((λz hz=>lL (lf z hz) xe.size)) (⟨rfl,cB.any.trans xe,fo,_,rfl,om⟩)
 refine ve 1 (λx w9 G9 aW df lf hJ hlen=>?_) ?_
 have aR:=jQ hlen
 obtain⟨q0,bo⟩:=aR
 subst bo
 obtain⟨cz,cB,fo,x1,e1,gd⟩:=hJ
 subst cz
 have e2:q0=_:=e1
 subst e2
 refine cm rfl rfl so ?_
 exact fe _ (Fr.refl _ _) lf (⟨rfl,cB,fo,_,rfl,by simp;omega⟩)
 refine ve 2 (λx w9 G9 aW df lf hJ hlen=>?_) ?_
 have aR:=lM hlen
 obtain⟨q0,q1,bo⟩:=aR
 subst bo
 obtain⟨cz,cB,fo,x1,e1,gd⟩:=hJ
 subst cz
 have e2:q1=_:=e1
 subst e2
 refine cm rfl rfl so ?_
 exact fe _ (Fr.refl _ _) lf (⟨rfl,cB,fo,_,rfl,by simp;omega⟩)
 refine ve 3 (λx w9 G9 aW df lf hJ hlen=>?_) ?_
 have aR:=Af hlen
 obtain⟨q0,q1,q2,bo⟩:=aR
 subst bo
 obtain⟨cz,cB,fo,x1,e1,gd⟩:=hJ
 subst cz
 have e2:q2=_:=e1
 subst e2
 refine pO bh bA rfl rfl rfl rfl rfl ?_
 intro cM bU O2 Bp
 exact fe _ (Fr.of bU sm) ((λz hz=>lL (lf z hz) (ak.size bU))) (⟨rfl,cB.ext bU,fo.ext bU,x1,gd,aY.eD [x1,[40,104,97,108,116,32,48,41],[40,106,117,109,112,32,49,41]] O2 (λhx=>by have:=lf _ hx;omega)⟩)
 refine ve 4 (λx w9 G9 aW df lf hJ hlen=>?_) ?_
 have aR:=LV hlen
 obtain⟨q0,q1,q2,q3,bo⟩:=aR
 subst bo
 obtain⟨cz,cB,fo,x1,gd,CQ⟩:=hJ
 subst cz
 have CQ:bI (br::g2.toList) _ q3 _:=CQ
 refine aC (ml [x1,[40,104,97,108,116,32,48,41],[40,106,117,109,112,32,49,41]] sm sm br (q+32) om _ w9 fo (bI.fresh CQ (λx hx=>.inl (by simp at hx;simp[hx])))) ?_
 rintro v59 cM ⟨⟨x2,fF,e59⟩,fo,Et⟩
 subst e59
 have iY:x2.length<=100:=(by simp only[mC,List.not_mem_nil,or_false] at fF;rcases fF with rfl|rfl|rfl;(·omega);(·decide);(·decide))
 exact fe _ (Fr.of Et sm) ((λz hz=>lL (lf z hz) Et.size)) (⟨rfl,cB.trans Et,fo,x2,rfl,iY⟩)
 refine ve 5 (λx w9 G9 aW df lf hJ hlen=>?_) ?_
 have aR:=R9 hlen
 obtain⟨q0,q1,q2,q3,q4,bo⟩:=aR
 subst bo
 obtain⟨cz,cB,fo,x1,e1,gd⟩:=hJ
 subst cz
 have e2:q4=_:=e1
 subst e2
 refine gD bh bA rfl rfl ?_
 intro cM bU GB Bp
 exact fe _ (Fr.of bU sm) ((λz hz=>lL (lf z hz) (ak.size bU))) (⟨rfl,cB.ext bU,fo.ext bU,x1,_,gd,rfl,GB⟩)
 refine ve 6 (λx w9 G9 aW df lf hJ hlen=>?_) ?_
 have aR:=acz hlen
 obtain⟨q0,q1,q2,q3,q4,q5,bo⟩:=aR
 subst bo
 obtain⟨cz,cB,fo,x1,bb,gd,e2,gw⟩:=hJ
 subst cz
 have e4:q5=_:=e2
 subst e4
 have ho:=hS.o2.aO cB (λx hx hy=>ajF (by simp at hy;subst hy;simp[hx]))
 refine rZ bh bA rfl rfl rfl rfl rfl rfl ho gw om ?_
 intro v9 g9 cM dJ aG fL
 have O0:=cB.size
 exact fe ((br::g9.toList)) (⟨aG.mono (λz hz=>mK _ hz),λz hz=>by rcases mC.1 hz with h9|h9;(·exact .inl (by simp[h9]));(·rcases fL with h8|h8;(·rw[h8] at h9;exact .inl (mK _ h9));(·rw[h8] at h9;simp at h9;right;omega))⟩) ((λz hz=>by rcases mC.1 hz with h9|h9;(·rw[h9];exact lL fo.lt aG.size);(·exact dJ.lt z h9))) (⟨(cB.mono sm).trans (aG.mono (λz hz=>mK _ hz)),fo.aO aG (λz hz=>by have:=(hS.f2 z hz).1;omega),x1,g9,gd,dJ,fL.imp id (λh8=>⟨_,h8,O0⟩)⟩)
 exact trivial
 intro x j1 D0 aW wN Gd hJ hlen
 have aR:=ajv hlen
 obtain⟨q0,q1,q2,q3,q4,q5,q6,bo⟩:=aR
 subst bo
 have bj:=bj.go wN
 change OW _ _ _ _ _ (aM (aN _ x _) (zZ 51 [_,_,_,_,_,_,_,_,_,_,_])) _
 obtain⟨fl,fo,x1,g9,gd,dJ,fL⟩:=hJ
 have cJ:=kt dJ
 obtain⟨a9,c9,e9⟩:=cJ
 have e8:q6=_:=e9
 subst e8
 have bj:=hS.box.aO fl tS
 refine zf mQ rfl<|gW (o:=2) nJ rfl rfl rfl bj rfl ?_
 intro pe jC bj dN
 have hS:=hS.AA iE (lR _) om om dJ fo fl fL jC bj
 have O3:=hS.res
 have cJ:=kt hS.o1
 obtain⟨a1,c1,e1⟩:=cJ
 subst e1
 refine ag<|zr<|zL Bj gR rfl hS.box.all rfl<|du (vs:=[str aP,.slice a1 xs.length c1,.slice a9 (ys++[x1]).length c9]) gR rfl rfl rfl O3 rfl ?_
 intro oc jl O3 dN
 have wW:=hS.o1.aO jl (λx hx hy=>(hS.f1 x (by simp[hx])).2.1 (by simpa using hy))
 have vv:=hS.o2.aO jl (λx hx hy=>(hS.f2 x (by simp[hx])).2.1 (by simpa using hy))
 have ajH:=hS.rd.aO jl (λx hx=>by simp at hx;omega)
 have dk:=hS.kp.since jl (λx hx=>.inr (by simp at hx;omega))
 have cU:=(fun(L:List Nat) (hL:∀x,x∈L->x<w.heap.size)=>wW.rep (L:=L) (λx hx hy=>by have:=(hS.f1 x (by simp[hx])).1;have:=hL x hy;omega))
 have cS:=(fun(L:List Nat) (hL:∀x,x∈L->x<w.heap.size)=>vv.rep (L:=L) (λx hx hy=>by have:=(hS.f2 x (by simp[hx])).1;have:=hL x hy;omega))
 refine ag<|aV ?_
 exact⟨[_],gO Bj gR rfl O3 rfl,⟨⟨aP,xs,ys++[x1]⟩,⟨rfl,⟨ajy,yN⟩,⟨by simp,by simp;omega,λx hx=>by rcases mA.1 hx with h9|h9;(·exact O1 x h9);(·simp only[List.mem_singleton] at h9;rw[h9];exact gd)⟩⟩,λL hL=>⟨_,rfl,⟨.val _,cU L hL,cS L hL,trivial⟩⟩⟩,ajH.more om,dk⟩
theorem V4 (t:aA):t.au.length<=t.size:=by
 cases t with
 |mk a ps=>
  have key:∀l:List aA,l.length<=aA.size.sizes l:=by
   intro l
   induction l with
   |nil=>simp
   |cons p l ih=>have:=size_pos p;simp only[aA.size.sizes,lC];omega
  have:=key ps
  show ps.length<=1+a.length+aA.size.sizes ps
  omega
set_option maxHeartbeats 4000000 in
theorem ajI (s:aj) (w:World):cj Tryz.prog 88 [str s] w λr w'=>(∃v ok g xs,r= .tuple #[v,.bool ok]∧dh w' 9 v g xs∧(∀b,g=some b->w.heap.size<=b)∧ok=decide (0<xs.length)∧xs.length<=12001∧∀x,x∈xs->x.length<=24002)∧ak [] w w':=by
 have hK:=ak.refl [] w
 refine cV [.tmp 2,.tmp 3] 37 Tryz.func88 rfl ZB rfl rfl ?_
 refine zr<|zA<|zA<|ag<|zr<|zm<|aC (zB s [] w sm) ?_
 rintro v1 w1 ⟨fM,aK⟩
 have dQ:=aK.size
 have hK:=hK.ext aK
 have eR:=fM
 obtain⟨t,tv,e9,ht,hp⟩:=eR
 subst e9
 have cJ:=dM ht
 obtain⟨pa,pn,pc,e9,fP,bc⟩:=cJ
 subst e9
 subst fP
 have nk:=hK.size
 refine zm<|zx (i:=0) rfl rfl<|zx (i:=1) rfl rfl<|eA aH rfl rfl rfl ?_
 intro w2 aq aI iS
 have dk:=aq
 refine du (vs:=[str t.az,.slice pa t.au.length pc]) aH rfl rfl rfl aI rfl ?_
 intro w3 aJ aI dN
 have dk:=dk.since aJ (λx hx=>.inr (by simp at hx;omega))
 have bc:=bc.ext dk;have hK:=hK.ext dk
 refine zA<|ag<|zr<|gN bh bA ?_
 intro w4 aF mw Ge
 have ajJ:=mw.lp
 have aK:=aF
 have jB:=hK.size
 refine zA<|ag<|aQ<|zr<|zA<|ag<|cQ ?_
 refine fW (λq9:Nat×Value×Option Nat=>[(4,.pointer (some ⟨w1.heap.size,0,none⟩)),(5,.bool ((ba s).isSome)),(6,q9.2.1),(7,.int .i64 (q9.1:Int))]) (λq9 w'=>ak [] w3 w'∧q9.1<=t.au.length∧(0<q9.1->(ba s).isSome=true)∧∃xs,dh w' 9 q9.2.1 q9.2.2 xs∧xs.length=q9.1∧(∀x,x∈xs->x.length<=24002)∧∀b,q9.2.2=some b->w3.heap.size<=b) (λq9=>t.au.length-q9.1) ((0,.slice (some ⟨w3.heap.size,0,none⟩) 0 0,some w3.heap.size)) (⟨rfl,rfl,rfl,rfl⟩) (⟨aK,sm,sm,[],ajJ,rfl,sm,by intro b hb;cases hb;exact lR _⟩) ?_
 intro gg w5 e5 hI
 obtain⟨k,vf,gf⟩:=gg
 obtain⟨dk,hk,Bd,xs,hO,mI,yN,gH⟩:=hI
 dsimp only at hk Bd hO mI gH
 have bc:=bc.ext dk;have hK:=hK.ext dk;have aI:=aI.ext dk
 refine aQ<|zr<|zm<|zf cL rfl<|zl cI rfl (aI.at rfl)<|dX cv rfl<|fy rfl rfl rfl<|zm ?_
 apply fX 2 19 21 [19,20,21] (λw'=>w5=w') rfl
 intro h1
 replace h1:=bw h1
 refine zm<|zp rfl<|ag ?_
 exact mg rfl rfl
 intro h1
 replace h1:=bw h1
 refine zs<|zp rfl<|ag ?_
 exact mg rfl rfl
 rintro xx _ rfl
 refine ag<|zc rfl (λh2=>?_) (λh2=>?_)
 have hh:=Bool.and_eq_true_iff.1 h2
 have aq:k<t.au.length:=(by have:=hh.1;simp at this;omega)
 have bD:(ba s).isSome=true:=hh.2
 have dx:=Dp hp bD
 have hw2:=dx.2
 have pE:=V4 t
 have fS:=fI bc aq
 obtain⟨b9,oh,pa9,pc9,e9,gk,dR⟩:=fS
 cases e9
 have V5:=dx.1.nth aq
 have FL:=lY aq
 have rN:=Lk _ _ (lR _) V5
 refine bz<|aQ<|cQ<|db<|zm<|zf cL rfl<|zl cI rfl (aI.at rfl)<|zm<|zi cv aH rfl rfl aq<|zL bT aH rfl gk.cells rfl<|aC (tx (nth t.au k).size _ (lR _) V5 om om _ _ w5 dR) ?_
 rintro v6 w6 ⟨lu,bF⟩
 have oM:=bF.size
 have hO:=hO.ext bF;have dk:=dk.ext bF
 obtain rfl:=lu
 refine gD bh bA rfl rfl ?_
 intro w7 cw ajK qg
 have hO:=hO.ext cw;have dk:=dk.ext cw
 refine rZ bh bA rfl rfl rfl rfl rfl rfl hO ajK om ?_
 intro v9 g9 w8 dJ cu fL
 have VU:=dk.size
 have dk:=dk.since cu (λx hx=>.inr (gH x (by simpa using hx)))
 refine zA<|ag<|db<|zm<|eF rfl rfl rfl (kj (k+1) om _ om)<|zA<|ag ?_
 exact⟨(k+1,v9,g9),⟨rfl,rfl,rfl,rfl⟩,⟨dk,aq,λ_=>bD,xs++[(nth t.au k).text],dJ,by show(xs++[_]).length=k+1;rw[lA,mI];rfl,λx hx=>by rcases mA.1 hx with h9|h9;(·exact yN x h9);(·simp only[List.mem_singleton] at h9;rw[h9];omega),λb hb=>by rcases fL with h9|h9;(·exact gH b (h9.symm.trans hb));(·rw[h9] at hb;cases hb;omega)⟩,by show t.au.length-(k+1)<t.au.length-k;omega⟩
 have cJ:=kt hO
 obtain⟨af,cf,ef⟩:=cJ
 subst ef
 have pE:=V4 t
 have hxb:xs.length<=12001:=(by by_cases h0:0<k;(·have:=(Dp hp (Bd h0)).2;omega);(·omega))
 refine gB<|gC rfl<|zr<|zm<|zm<|dX bh rfl<|jx rfl rfl rfl rfl rfl<|zA<|zA<|ag<|aV ?_
 exact⟨_,rfl,⟨_,_,gf,xs,rfl,hO,λb hb=>by have:=gH b hb;omega,sm,hxb,yN⟩,hK⟩
theorem V6 (xs ys:List aj) (hx:xs.length+ys.length<100000000) (v u:Value) (L:List Nat) (w:World) (hv:bI L w v xs) (hu:bI L w u ys):
  cj Tryz.prog 119 [v,u] w λr w'=>(∃g,dh w' 9 r g (xs++ys)∧∀b,g=some b->w.heap.size<=b)∧ak [] w w':=by
 have hv:bI [] w v xs:=hv.fresh sm
 have hu:bI [] w u ys:=hu.fresh sm
 obtain⟨a,n,c,rfl,hn⟩:=eN hv
 obtain⟨a2,n2,c2,rfl,fH⟩:=eN hu
 subst hn fH
 have hK:=ak.refl [] w
 refine cV [.tmp 4] 10 Tryz.func119 rfl PH rfl rfl ?_
 refine zr<|zA<|ag<|zr<|zJ w.heap.size [] bh bA rfl rfl (lR _) sm ?_
 intro w1 aK dY hO
 have hK:=hK.ext aK
 have fQ:=cD.ext (cD.fresh hv (L':=w.heap.size::[]) zg) aK
 refine zm<|xI bh bA rfl rfl rfl rfl rfl rfl hO fQ II (by rw[rM];simp;omega) ?_
 intro a4 jd g4 w2 oa aq
 have hK:=hO.since hK aq
 have ME:=cD.ext (cD.fresh hu (L':=g4.toList++[]) (λx hx=>by rcases mA.1 hx with hx|hx;(·exact .inr (oa.low x (by simpa using hx)));(·exact .inl hx))) hK
 refine zm<|xI bh bA rfl rfl rfl rfl rfl rfl oa ME II (by simp only[lA,rM];simp;omega) ?_
 intro a5 Tm g5 w3 lv aJ
 have hK:=oa.since hK aJ
 have kT:=lv.low
 rw[List.nil_append,Tl] at lv
 refine zA<|ag<|aV ?_
 exact⟨_,rfl,⟨g5,lv.vY,kT⟩,hK⟩
theorem ajM (bk:Bk) (h1:bk.cN.length<=1000000) (h2:bk.code.length<=1000000) (v:Value) (L:List Nat) (w:World) (hv:qS L w v bk):
  cj Tryz.prog 87 [v] w λr w'=>(∃v1 v2 g1 g2,r= .agg #[str bk.aP,v1,v2]∧dh w' 9 v1 g1 bk.cN∧dh w' 9 v2 g2 bk.code∧(∀x,x∈g1.toList->w.heap.size<=x∧x∉g2.toList)∧∀x,x∈g2.toList->w.heap.size<=x∧x∉g1.toList)∧ak [] w w':=by
 obtain⟨b1,n1,c1,b2,n2,c2,rfl,fS,fH,cU,cS⟩:=Dh hv
 have cU:bI [] w _ bk.cN:=bI.fresh cU sm
 have cS:bI [] w _ bk.code:=bI.fresh cS sm
 have hK:=ak.refl [] w
 refine lF [.cell 2 29] 12 Tryz.func87 rfl ZA rfl rfl rfl ?_
 refine zr<|fE rfl ?_
 intro w1 aK aT dY
 have hK:=hK.ext aK;have cU:=cU.ext aK;have cS:=cS.ext aK
 refine eA gR rfl rfl rfl ?_
 intro w2 aq aZ eM
 have nk:=hK.ext aq
 have cU:=cU.ext aq;have cS:=cS.ext aq;have aT:=aT.ext aq
 have aT:fg [] w2 w.heap.size _ _:=⟨aT,sm⟩
 have jB:=nk.size
 have aoE:=aZ.lt
 refine ag<|aQ ?_
 apply kc ei ([]) 9 (rA 3 9) (rA 3 9) [[],[0],[],[2],[3],[],[5],[6],[1,4,7]] [Ie.v _,Ie.v _,Ie.v _,Ie.v _,Ie.e 0,Ie.v _,Ie.v _,Ie.e 1,Ie.e 2] [4,7,8] [fun(G:List Nat) (vs:List Value) (ww:World)=>G=[]∧ak [] w2 ww,fun(G:List Nat) (vs:List Value) (ww:World)=>G=[]∧ak [] w2 ww∧∃g1,dh ww 9 (vs.getD 0 undef) g1 bk.cN∧∀x,x∈g1.toList->w2.heap.size<=x,fun(G:List Nat) (vs:List Value) (ww:World)=>G=[]∧ak [] w2 ww∧∃g1 g2,dh ww 9 (vs.getD 0 undef) g1 bk.cN∧dh ww 9 (vs.getD 1 undef) g2 bk.code∧(∀x,x∈g1.toList->w2.heap.size<=x∧x∉g2.toList)∧∀x,x∈g2.toList->w2.heap.size<=x∧x∉g1.toList,fun(G:List Nat) (vs:List Value) (ww:World)=>ak [] w2 ww∧∃g1 g2 b3 m3 d3 b4 m4 d4,vs.getD 2 undef= .agg #[str bk.aP,.slice b3 m3 d3,.slice b4 m4 d4]∧dh ww 9 (.slice b3 m3 d3) g1 bk.cN∧dh ww 9 (.slice b4 m4 d4) g2 bk.code∧(∀x,x∈g1.toList->w2.heap.size<=x∧x∉g2.toList)∧∀x,x∈g2.toList->w2.heap.size<=x∧x∉g1.toList] de rfl ((λx hx=>by simp at hx)) (by exact trivial) (by exact⟨λG vs w w' ⟨h1,h2⟩ k=>⟨h1,h2.ext k⟩,λG vs w w' ⟨h1,h2,g1,h3,h4⟩ k=>⟨h1,h2.ext k,g1,h3.ext k,h4⟩,λG vs w w' ⟨h1,h2,g1,g2,h3,h4,h5,h6⟩ k=>⟨h1,h2.ext k,g1,g2,h3.ext k,h4.ext k,h5,h6⟩,λG vs w w' ⟨h2,g1,g2,b3,m3,d3,b4,m4,d4,e,h3,h4,h5,h6⟩ k=>⟨h2.ext k,g1,g2,b3,m3,d3,b4,m4,d4,e,h3.ext k,h4.ext k,h5,h6⟩,trivial⟩) (⟨rfl,ak.refl _ _⟩)
 refine vf (λ_ _ _ _ _ _=>zf xv rfl fv) ?_
 refine vf (λx w3 G3 aW fV iU=>?_) ?_
 have aT:=aT.go fV
 refine zl ck rfl (aT.at rfl) ?_
 exact fv
 refine vf (λ_ _ _ _ _ _=>zf xw rfl fv) ?_
 refine vf (λx w3 G3 aW fV iU=>?_) ?_
 have aT:=aT.go fV
 refine zl eQ rfl (aT.at rfl) ?_
 exact fv
 refine ve 0 (λx w3 G3 aW fV iU hJ hlen=>?_) ?_
 have bo:=jP hlen
 subst bo
 have cU:=cU.go fV
 obtain⟨cz,cB⟩:=hJ
 subst cz
 refine aC (V6 bk.cN [] so _ _ [] w3 cU (.nil _ _ _)) ?_
 rintro v20 w4 ⟨⟨g1,py,qb⟩,uk⟩
 rw[List.append_nil] at py
 exact fe ([]) (Fr.of uk sm) ((λz hz=>by simp at hz)) (⟨rfl,cB.trans uk,g1,py,λx hx=>Nat.le_trans cB.size (qb x (by simpa using hx))⟩)
 refine vf (λ_ _ _ _ _ _=>zf mQ rfl fv) ?_
 refine vf (λx w3 G3 aW fV iU=>?_) ?_
 have aT:=aT.go fV
 refine zl eQ rfl (aT.at rfl) ?_
 exact fv
 refine ve 1 (λx w3 G3 aW fV iU hJ hlen=>?_) ?_
 have aR:=jQ hlen
 obtain⟨q0,bo⟩:=aR
 subst bo
 have cS:=cS.go fV
 obtain⟨cz,cB,g1,py,qb⟩:=hJ
 subst cz
 refine aC (V6 bk.code [] so _ _ [] w3 cS (.nil _ _ _)) ?_
 rintro v21 w4 ⟨⟨g2,gS,iy⟩,vG⟩
 rw[List.append_nil] at gS
 exact fe ([]) (Fr.of vG sm) ((λz hz=>by simp at hz)) (⟨rfl,cB.trans vG,g1,g2,py.ext vG,gS,λx hx=>⟨qb x hx,λhy=>by have h8:=py.lt x hx;have h9:=iy x (by simpa using hy);omega⟩,λx hx=>⟨Nat.le_trans cB.size (iy x (by simpa using hx)),λhy=>by have h8:=py.lt x hy;have h9:=iy x (by simpa using hx);omega⟩⟩)
 refine ve 2 (λx w3 G3 aW fV iU hJ hlen=>?_) ?_
 have aR:=lM hlen
 obtain⟨q0,q1,bo⟩:=aR
 subst bo
 obtain⟨cz,cB,g1,g2,py,gS,qb,iy⟩:=hJ
 subst cz
 have cJ:=kt py
 obtain⟨b3,d3,e3⟩:=cJ
 have e5:q0=_:=e3
 subst e5
 have cJ:=kt gS
 obtain⟨b4,d4,e4⟩:=cJ
 have e6:q1=_:=e4
 subst e6
 refine j5 (Ks _ _ _ _ _ _ _ _) rfl rfl ?_
 exact fe ([]) (Fr.refl _ _) iU (⟨cB,g1,g2,_,_,_,_,_,_,rfl,py,gS,qb,iy⟩)
 exact trivial
 intro x qw F3 aW DS MF hJ hlen
 have aR:=Af hlen
 obtain⟨q0,q1,q2,bo⟩:=aR
 subst bo
 change OW _ _ _ _ _ (aM (aN _ x _) (zZ 3 [_,_,_,_,_,_,_,_,_])) _
 obtain⟨cB,g1,g2,b3,m3,d3,b4,m4,d4,e9,py,gS,qb,iy⟩:=hJ
 have e8:q2=_:=e9
 subst e8
 have aZ:=aZ.ext cB
 refine du (vs:=[str bk.aP,.slice b3 m3 d3,.slice b4 m4 d4]) gR rfl rfl rfl aZ rfl ?_
 intro nN lI aZ dN
 have py:=py.aO lI (λx hx hy=>by have:=(qb x (by simp[hx])).1;simp at hy;omega)
 have gS:=gS.aO lI (λx hx hy=>by have:=(iy x (by simp[hx])).1;simp at hy;omega)
 have gj:=(nk.ext cB).since lI (λx hx=>.inr (by simp at hx;omega))
 refine ag<|aV ?_
 exact⟨[_],gO Bj gR rfl aZ rfl,⟨_,_,g1,g2,rfl,py,gS,λx hx=>⟨by have:=(qb x hx).1;omega,(qb x hx).2⟩,λx hx=>⟨by have:=(iy x hx).1;omega,(iy x hx).2⟩⟩,gj⟩
theorem V7 (h:jL bs=true):bs.length<=40∧1<=bs.length∧∀i,i<bs.length->(bB bs i).cN.length<=40∧1<=(bB bs i).code.length∧(bB bs i).code.length<=80:=by
 have hb:=K7 h
 unfold jL at h
 simp only[aE,dE] at h
 refine⟨h.2.1.1.2,h.2.1.1.1,λi hi=>?_⟩
 have:=hb (bB bs i) (List.mem_of_getElem? (su hi))
 unfold oy at this
 simp only[aE,dE] at this
 exact⟨this.1.1.1.2,this.1.1.2.1,this.1.1.2.2⟩
theorem ajN (h:i<bs.length):bs.take (i+1)=bs.take i++[bB bs i]:=by
 rw[List.take_succ_eq_append_getElem h];simp[bB,gE h]
theorem ajO {h:aj} {ps:List aj} {m:Nat} (hp:∀x,x∈ps->x.length<=m):(bO h ps).length<=h.length+2+ps.length*(m+1):=by
 rw[lN]
 have:jZ ps<=ps.length*(m+1):=by
  clear h
  induction ps with
  |nil=>simp[jZ]
  |cons p l ih=>
   have h1:=hp p sm
   have h2:=ih (λx hx=>hp x (by simp[hx]))
   simp only[jZ,List.map_cons,List.sum_cons,lC,Nat.add_mul,Nat.one_mul] at h2⊢
   omega
 omega
theorem V8 {α:Type} {l:List α} {y x:α} (h:x∈l.set i y):x∈l∨x=y:=List.mem_or_eq_of_mem_set h
set_option maxHeartbeats 4000000 in
theorem ajP (bs:List Bk) (A3:jL bs=true) (br q:Nat) (hq:q<=800000000) (v:Value) (w:World) (h:dW w br q) (hv:km [] w v bs):
  cj Tryz.prog 51 [.pointer (some ⟨br,0,none⟩),v] w λr w'=>(∃bs',km [br] w' r bs'∧vM bs bs')∧dW w' br (q+10)∧ak [br] w w':=by
 obtain⟨a,n0,c,rfl,zQ⟩:=Bu hv
 obtain⟨Ot,aT,fx⟩:=V7 A3
 have iE:=h.lt
 have hK:=ak.refl [] w
 have dI:=hv
 have Ri:=h
 refine cV [.tmp 4] 140 Tryz.func51 rfl Y9 rfl rfl ?_
 refine zr<|zA<|ag<|zr<|gN iL gR ?_
 intro w1 aK mw dY
 have hK:=hK.ext aK;have h:=h.ext aK;have hv:=hv.ext aK
 refine zA<|ag<|aQ<|zr<|zA<|ag<|cQ ?_
 refine fW (λq9:Nat×Value=>[(0,.pointer (some ⟨br,0,none⟩)),(1,.slice a n0 c),(5,q9.2),(6,.int .i64 (q9.1:Int))]) (λq9 w'=>ak [] w w'∧q9.1<=n0∧∃g gss vss,mo w' 29 9 q9.2 g gss vss (bs.take q9.1)∧∀x,x∈g.toList++ik gss->w.heap.size<=x) (λq9=>n0-q9.1) ((0,.slice (some ⟨w.heap.size,0,none⟩) 0 0)) (⟨rfl,rfl,rfl,rfl⟩) (⟨hK,sm,some w.heap.size,[],[],mo.zero mw,by intro x hx;simp[ik] at hx;omega⟩) ?_
 intro gg w2 e2 hI
 obtain⟨i,vo⟩:=gg
 obtain⟨hK,hi,g,gss,vss,hO,kT⟩:=hI
 dsimp only at hi hO
 have hv:=dI.ext hK
 have h:=Ri.ext hK
 refine aQ<|zr<|zm<|zm<|dX iL rfl<|fy rfl rfl rfl<|ag<|zc rfl (λh1=>?_) (λh1=>?_)
 have lg:i<bs.length:=(by simp at h1;omega)
 have ga:=su lg
 have O4:=Bv hv ga
 obtain⟨b,off,ra,rn,rc,ca,cn,c3,e1,hc,ri,wY,dQ,eE⟩:=O4
 subst e1
 have A2:=fx i lg
 have aoF:=hK.size
 have O5:∀x,x∈g.toList++ik gss->x<w2.heap.size:=(λx hx=>(mA.1 hx).elim (λh9=>hO.own.lt x (by simpa using h9)) (hO.lt x))
 have gv:(bs.take i).length=i:=(by rw[List.length_take];omega)
 refine bz<|aQ<|cQ<|db<|zm<|zm<|zm<|zi iL gR rfl rfl om<|zL Bj gR rfl hc rfl<|aC (ajM (bB bs i) om om _ [] w2 (Di dQ eE)) ?_
 rintro v3 w3 ⟨eh,aJ⟩
 have fZ:=aJ.size
 have hK:=hK.ext aJ;have hO:=hO.ext aJ
 obtain⟨v1,v2,g1,g2,e2,py,gS,qb,iy⟩:=eh
 subst e2
 have cJ:=kt py
 obtain⟨a1,c1,e1⟩:=cJ
 subst e1
 have cJ:=kt gS
 obtain⟨a2,c2,e2⟩:=cJ
 subst e2
 refine gD iL gR rfl rfl ?_
 intro w4 aF Cp iS
 have hK:=hK.ext aF;have hO:=hO.ext aF;have py:=py.ext aF;have gS:=gS.ext aF
 refine ajm (f:=bB bs i) (gs:=(g1,g2)) iL gR rfl rfl rfl rfl rfl rfl hO Cp py gS (λx hx fF=>by have h8:=O5 x fF;rcases mA.1 hx with h9|h9;(·have:=(qb x h9).1;omega);(·have:=(iy x h9).1;omega)) (List.nodup_append.2 ⟨by cases g1<;>simp,by cases g2<;>simp,λx hx y hy e=>by subst e;exact(qb x hx).2 hy⟩) om ?_
 intro a4 jd g4 w5 hO aU hg4
 have VU:=hK.size
 have ajR:∀x,x∈g4.toList++ik (gss++[(g1,g2)])->w.heap.size<=x:=(λx hx=>by rcases mA.1 hx with h9|h9;(·rcases hg4 with h8|⟨z,h8,hz⟩;(·rw[h8] at h9;exact kT x (by simp at h9;simp[h9]));(·rw[h8] at h9;simp at h9;omega));(·rw[Lj] at h9;rcases mA.1 h9 with h8|h8;(·exact kT x (by simp[h8]));(·rcases mA.1 h8 with h7|h7;(·have:=(qb x h7).1;omega);(·have:=(iy x h7).1;omega))))
 have hK:=hK.since aU (λx hx=>.inr (kT x (by simp at hx;simp[hx])))
 refine zA<|ag<|db<|zm<|eF rfl rfl rfl (kj (i+1) om _ om)<|zA<|ag ?_
 exact⟨(i+1,_),⟨rfl,rfl,rfl,rfl⟩,⟨hK,by show i+1<=n0;omega,g4,_,_,by rw[ajN lg];exact hO,ajR⟩,by show n0-(i+1)<n0-i;omega⟩
 have dy:bs.take i=bs:=List.take_of_length_le (by simp at h1;omega)
 rw[dy] at hO
 have cJ:=hO.own.len
 obtain⟨ao,co,eo⟩:=cJ
 subst eo
 have fl:=hK.mono (L':=[br]) sm
 refine gB<|gC rfl<|zr<|zm<|zm<|dX iL rfl<|aC (mF bs.length om om br q om w2 h) ?_
 rintro v31 w3 ⟨⟨k,yG,hk⟩,h,aG⟩
 subst yG
 have fl:=fl.trans aG
 have hO:=hO.aO aG (λx hx hy=>by have:=kT x hx;simp at hy;omega)
 have iu:=hO.get hk
 obtain⟨lW,gs,a1,c1,a2,c2,e1,e2,tS,wZ,jN,bo,kJ,fS,fH,J1⟩:=iu
 subst e1
 have yQ:∀x,x∈g.toList++ik gss->x∉[br]:=(λx hx hy=>by have:=kT x hx;simp at hy;omega)
 have hc:iZ [br] w3 lW (0+k*3) _:=⟨kJ,tS,λhy=>yQ lW (by rw[e2];simp) hy⟩
 have hr:bI [br] w3 _ _:=fH.rep (λb hb=>yQ b (mR _ (xK jN (by simp[jM,hb]))))
 have A2:=fx k hk
 refine zA<|ag<|zr<|zm<|zm<|zm<|zi iL gR rfl rfl hk<|zf mQ rfl<|zl eQ rfl (hc.cells 2 _ rfl)<|dX bh rfl<|aC (mF (bB bs k).code.length om om br (q+1) om w3 h) ?_
 rintro v31 w4 ⟨⟨n,yG,hn⟩,h,aG⟩
 subst yG
 have fl:=fl.trans aG
 have hO:=hO.aO aG (λx hx hy=>by have:=kT x hx;simp at hy;omega)
 have hc:=hc.aL aG sm;have hr:=hr.aL aG sm
 have ga:=og hr hn
 obtain⟨b9,oh,e9,gk⟩:=ga
 subst e9
 refine zA<|ag<|zr<|zm<|zm<|zi iL gR rfl rfl hk<|zf mQ rfl<|zl eQ rfl (hc.cells 2 _ rfl)<|zm<|zi bh bA rfl rfl hn<|zl ck rfl (gk.cells 0 _ rfl) ?_
 have hkw:=fl.size
 have ajT:∀x,x∈g.toList++ik gss->x<w4.heap.size:=(λx hx=>(mA.1 hx).elim (λh9=>hO.own.lt x (by simpa using h9)) (hO.lt x))
 refine aC (ajI (aD (bB bs k).code n) w4) ?_
 rintro v5 w5 ⟨lk,aU⟩
 have pD:=aU.size
 have h:=h.ext aU;have hO:=hO.ext aU;have fl:=fl.ext aU;have hc:=hc.ext aU;have hr:=hr.ext aU;have gk:=gk.ext aU
 obtain⟨vp,ok,gp,ps,e9,hP,gH,bD,pE,CH⟩:=lk
 subst e9
 have hgp:∀x,x∈gp.toList->x∉g.toList++ik gss:=(λx hx hy=>by have h8:=ajT x hy;have h9:=gH x (by simpa using hx);omega)
 have gH:∀b,gp=some b->w.heap.size<=b:=(λb hb=>Nat.le_trans hkw (gH b hb))
 have cJ:=kt hP
 obtain⟨ap,cp,ep⟩:=cJ
 subst ep
 refine zm<|zx (i:=0) rfl rfl<|zx (i:=1) rfl rfl<|zA<|zA<|ag<|aQ<|zr<|zm<|eJ rfl<|ag<|zc rfl (λh2=>?_) (λh2=>?_)
 refine zr<|zm<|zA<|ag<|aV ?_
 exact⟨_,rfl,⟨bs,hO.rep yQ,vM.refl bs⟩,h.more om,fl⟩
 have mT:0<ps.length:=(by rw[bD] at h2;simpa using h2)
 have D5:=hP.form mT
 obtain⟨bp,ep,eg⟩:=D5
 subst ep
 have hbp:=gH bp eg
 have aoH:=hP.lt bp (by simp[eg])
 refine bz<|zr<|zm<|zm<|dX bh rfl<|aC (mF ps.length mT om br (q+2) om w5 h) ?_
 rintro v31 w6 ⟨⟨j,yG,hj⟩,h,aG⟩
 subst yG
 have fl:=fl.trans aG
 have hO:=hO.aO aG (λx hx hy=>by have:=kT x hx;simp at hy;omega)
 have hP:=hP.aO aG (λb hb hy=>by have:=gH b hb;simp at hy;omega)
 refine zA<|ag<|aQ<|zr<|zm<|jx rfl rfl rfl rfl rfl<|ag ?_
 refine jg (λ_:List aj=>[(0,.pointer (some ⟨br,0,none⟩)),(5,.slice (some ⟨lW,0,none⟩) bs.length co),(7,.int .i64 (k:Int)),(8,.int .i64 (n:Int)),(9,(.slice (some ⟨bp,0,none⟩) ps.length cp))]) (λp2 ww=>ak [br] w ww∧dW ww br (q+5)∧mo ww 29 9 (.slice (some ⟨lW,0,none⟩) bs.length co) g gss vss bs∧dh ww 9 (.slice (some ⟨bp,0,none⟩) ps.length cp) gp p2∧p2.length=ps.length∧∀x,x∈p2->x.length<=24002) ?_ ?_
 refine zc rfl (λh3=>?_) (λh3=>?_)
 have AO:bI [br] w6 (.slice (some ⟨bp,0,none⟩) ps.length cp) ps:=hP.rep (λb hb hy=>by have:=gH b hb;simp at hy;omega)
 have ga:=og AO hj
 obtain⟨b8,ajV,e8,vN⟩:=ga
 cases e8
 have hxj:=CH _ (List.mem_of_getElem? (ll hj))
 have pX:fu [br] w6:=(λz hz=>by simp at hz;subst hz;exact h.lt)
 apply kc ei ([br]) 11 (rA 61 11) (rA 61 11) [[],[],[],[],[3],[],[],[5,6],[7],[4,8],[2,9]] [Ie.v _,Ie.v _,Ie.v _,Ie.v _,Ie.q 0 (fun(v:Value)=>∃x,v=str x∧x.length<=24002),Ie.v _,Ie.v _,Ie.v _,Ie.v _,Ie.p (fun(G:List Nat) (v:Value) (ww:World)=>∃x y,x.length<=24002∧y.length<=24002∧bI G ww v [x,[98,48],[101,110,100],[49],[105],y]),Ie.q 1 (fun(v:Value)=>∃x,v=str x∧x.length<=24002)] [4,10] [fun(G:List Nat) (vs:List Value) (ww:World)=>G=[br]∧ak [br] w6 ww∧dW ww br (q+3),fun(G:List Nat) (vs:List Value) (ww:World)=>G=[br]∧ak [br] w6 ww∧dW ww br (q+4),fun(G:List Nat) (vs:List Value) (ww:World)=>G=[br]∧ak [br] w6 ww∧dW ww br (q+5)] de rfl pX (by exact⟨λG v w G' w' ⟨x,y,h1,h2,h3⟩ k=>⟨x,y,h1,h2,bI.go h3 k⟩,trivial⟩) (by exact⟨λG vs w w' ⟨h1,h2,h3⟩ k=>⟨h1,h2.ext k,h3.ext k⟩,λG vs w w' ⟨h1,h2,h3⟩ k=>⟨h1,h2.ext k,h3.ext k⟩,λG vs w w' ⟨h1,h2,h3⟩ k=>⟨h1,h2.ext k,h3.ext k⟩,trivial⟩) (⟨rfl,ak.refl _ _,h⟩)
 refine cR ?_
 refine cR ?_
 refine cR ?_
 refine cR ?_
 refine ve 0 (λx w7 G7 aW iV jW hJ hlen=>?_) ?_
 have bo:=jP hlen
 subst bo
 obtain⟨cz,cB,h⟩:=hJ
 subst cz
 refine aC (Hb br (q+3) om w7 h) ?_
 rintro v9 w8 ⟨⟨z9,dN,e9⟩,h,aG⟩
 subst e9
 have fh:=sL (n:=z9) om
 exact fq ([br]) (Fr.of aG sm) ((λz hz=>lL (jW z hz) aG.size)) (⟨rfl,cB.trans aG,h⟩) (⟨_,rfl,om⟩)
 refine cR ?_
 refine cR ?_
 refine vf (λ_ _ _ _ _ _=>zi bh bA rfl rfl hj fv) ?_
 refine vf (λx w7 G7 aW iV jW=>?_) ?_
 have vN:=vN.go iV
 refine zl ck rfl (vN.cells 0 _ rfl) ?_
 exact fv
 refine vf (λx w7 G7 aW iV jW=>?_) ?_
 intro v4 OJ d4
 obtain⟨y4,e4,Bx⟩:=d4
 subst e4
 refine acD bh bA rfl rfl rfl rfl rfl rfl rfl rfl ?_
 intro w8 cu NF mn
 exact ff cu (⟨y4,aD ps j,Bx,hxj,aY.eD [y4,[98,48],[101,110,100],[49],[105],aD ps j] NF (λhx=>by have:=jW _ hx;omega)⟩)
 refine ve 1 (λx w7 G7 aW iV jW hJ hlen=>?_) ?_
 have aR:=jQ hlen
 obtain⟨q0,bo⟩:=aR
 subst bo
 intro v9 d9
 obtain⟨cz,cB,h⟩:=hJ
 subst cz
 obtain⟨x8,y8,UG,hy8,hr8⟩:=d9
 refine aC (ml [x8,[98,48],[101,110,100],[49],[105],y8] sm sm br (q+4) om _ w7 h hr8) ?_
 rintro v9 w8 ⟨⟨x9,jf,e9⟩,h,aG⟩
 subst e9
 have fh:x9.length<=24002:=(by simp only[mC,List.not_mem_nil,or_false] at jf;rcases jf with rfl|rfl|rfl|rfl|rfl|rfl<;>first|omega|decide)
 exact fq ([br]) (Fr.of aG sm) ((λz hz=>lL (jW z hz) aG.size)) (⟨rfl,cB.trans aG,h⟩) (⟨_,rfl,fh⟩)
 exact trivial
 intro x qD Jh aW wU Ji hJ hlen
 have aR:=lM hlen
 obtain⟨q0,q1,bo⟩:=aR
 subst bo
 intro v4 OJ d4
 intro v9 d9
 intro v10 VZ d10
 change OW _ _ _ _ _ (aM (aN _ x _) (zZ 61 [_,_,_,_,_,_,_,_,_,_,_])) _
 obtain⟨cz,cB,h⟩:=hJ
 subst cz
 obtain⟨JZ,gq,DZ⟩:=d10
 subst gq
 have fl:=fl.trans cB
 have hO:=hO.aO cB (λx hx hy=>by have:=kT x hx;simp at hy;omega)
 have hP:=hP.aO cB (λb hb hy=>by have:=gH b hb;simp at hy;omega)
 refine zi bh bA rfl rfl hj<|Rk (i:=j) bA rfl rfl rfl om hP hj ?_
 intro wK jk hP dN
 have hO:=hO.aO jk (λx hx hy=>hgp x hy hx)
 have h:=h.aO jk (λx hx=>by have:=gH x (by simpa using hx);omega)
 have fl:=fl.since jk (λx hx=>.inr (gH x (by simpa using hx)))
 refine ag ?_
 exact⟨ps.set j JZ,⟨rfl,rfl,rfl,rfl,rfl⟩,fl,h.more om,hO,hP,by rw[List.length_set],λx hx=>by rcases V8 hx with h9|h9;(·exact CH x h9);(·rw[h9];exact DZ)⟩
 refine bz ?_
 exact⟨ps,⟨rfl,rfl,rfl,rfl,rfl⟩,fl,h.more om,hO,hP,rfl,CH⟩
 intro gu w7 e7 hI
 obtain⟨fl,h,hO,hP,aoJ,V9⟩:=hI
 have iu:=hO.get hk
 obtain⟨lW,gs,a1,c1,a2,c2,e1,e2,tS,wZ,jN,bo,kJ,fS,fH,J1⟩:=iu
 cases e1
 have yQ:∀x,x∈g.toList++ik gss->x∉[br]:=(λx hx hy=>by have:=kT x hx;simp at hy;omega)
 have hc:iZ [br] w7 lW (0+k*3) _:=⟨kJ,tS,λhy=>yQ lW (by rw[e2];simp) hy⟩
 have hr:bI [br] w7 _ _:=fH.rep (λb hb=>yQ b (mR _ (xK jN (by simp[jM,hb]))))
 have ga:=og hr hn
 obtain⟨b9,oh,e9,gk⟩:=ga
 subst e9
 have AO:bI [] w7 (.slice (some ⟨bp,0,none⟩) ps.length cp) gu:=hP.rep sm
 have ga:=og AO (i:=0) om
 obtain⟨b8,ajV,e8,vN⟩:=ga
 cases e8
 refine aQ ?_
 have Cv:(bO (aD gu 0) (gu.drop 1)).length<=1000000000:=(by have h1:=ajO (h:=aD gu 0) (ps:=gu.drop 1) (m:=24002) (λx hx=>V9 x (List.mem_of_mem_drop hx));have h2:=V9 _ (List.mem_of_getElem? (ll (xs:=gu) (i:=0) om));rw[List.length_drop] at h1;have h3:(gu.length-1)*(24002+1)<=12001*24003:=Nat.mul_le_mul om om;omega)
 apply wv ei 6 (rA 73 6) (rA 73 6) [[],[0],[1],[],[3],[2,4]] [It.v _,It.v _,It.v _,It.v _,It.p (fun(v:Value) (ww:World)=>bI [] ww v (gu.drop 1)),It.v _] de (by exact⟨λv w w' h k=>bI.ext h k,trivial⟩)
 intro wd aB
 refine eI ?_
 refine vk aB (λx w8 cu=>?_) ?_
 refine zi (i:=0) bh bA rfl rfl om ?_
 exact pv
 refine vk aB (λx w8 cu=>?_) ?_
 have vN:=vN.ext cu
 refine zl ck rfl (vN.cells 0 _ rfl) ?_
 exact pv
 refine eI ?_
 refine vk aB (λx w8 cu=>?_) ?_
 have AO:=AO.ext cu
 refine Hr (l:=1) bh bA rfl rfl rfl rfl om AO ?_
 intro CS bo
 exact pf (ak.refl _ _) ((show bI [] _ CS (gu.drop 1) from by unfold bI jh;rw[List.map_drop];exact bo))
 refine vk aB (λx w8 cu=>?_) ?_
 intro v4 d4
 refine aC (xJ (aD gu 0) (gu.drop 1) Cv _ [] w8 d4) ?_
 rintro v9 w9 ⟨eR,aG⟩
 have pd:=aG.size
 obtain rfl:=eR
 exact pk aG
 exact trivial
 intro x wK jk
 intro v4 d4
 have h:=h.ext jk;have fl:=fl.ext jk;have hO:=hO.ext jk;have hc:=hc.ext jk;have hr:=hr.ext jk;have gk:=gk.ext jk;have fS:=fS.ext jk;have fH:=fH.ext jk
 change OW _ _ _ _ _ (aM (aN _ x _) (zZ 73 [_,_,_,_,_,_])) _
 refine zA<|ag<|aQ<|aQ ?_
 refine qf ei aS 16 (rA 79 16) (rA 79 16) [[],[0],[1],[2],[2,3],[2],[2],[2,5,6],[2,7],[2,8],[2],[2,9,10],[2,11],[2,12],[2,4,13],[2,14]] [λv _=>v=(str (bO (aD gu 0) (gu.drop 1))),λv _=>v=(.bool (bH (bO (aD gu 0) (gu.drop 1)))),λv _=>v=(.bool (bH (bO (aD gu 0) (gu.drop 1)))),λv _=>(bH (bO (aD gu 0) (gu.drop 1)))=true->v=(str (bO (aD gu 0) (gu.drop 1))),λv _=>(bH (bO (aD gu 0) (gu.drop 1)))=true->v=(.bool (jr (bO (aD gu 0) (gu.drop 1)))),λv _=>(bH (bO (aD gu 0) (gu.drop 1)))=true->v=(.slice (some ⟨lW,0,none⟩) bs.length co),λv _=>(bH (bO (aD gu 0) (gu.drop 1)))=true->v=(.int .i64 (k:Int)),λv _=>(bH (bO (aD gu 0) (gu.drop 1)))=true->v=(.pointer (some ⟨lW,0+k*3,none⟩)),λv _=>(bH (bO (aD gu 0) (gu.drop 1)))=true->v=(.pointer (some ⟨lW,0+k*3+2,none⟩)),λv _=>(bH (bO (aD gu 0) (gu.drop 1)))=true->v=(.slice (some ⟨b9,oh,none⟩) (bB bs k).code.length c2),λv _=>(bH (bO (aD gu 0) (gu.drop 1)))=true->v=(.int .i64 (n:Int)),λv _=>(bH (bO (aD gu 0) (gu.drop 1)))=true->v=(.pointer (some ⟨b9,oh+n*1,none⟩)),λv _=>(bH (bO (aD gu 0) (gu.drop 1)))=true->v=(str (aD (bB bs k).code n)),λv _=>(bH (bO (aD gu 0) (gu.drop 1)))=true->v=(.bool (jr (aD (bB bs k).code n))),λv _=>(bH (bO (aD gu 0) (gu.drop 1)))=true->v=(.bool (decide (jr (bO (aD gu 0) (gu.drop 1))=jr (aD (bB bs k).code n)))),λv _=>v=(.bool (bH (bO (aD gu 0) (gu.drop 1))&&(decide (jr (bO (aD gu 0) (gu.drop 1))=jr (aD (bB bs k).code n)))))] de (cX (cX (cX (eV (eV (eV (eV (eV (eV (eV (eV (eV (eV (eV (eV (cX trivial)))))))))))))))) (λwd aB=>?_) ?_
 refine bN ?_ ?_
 intro x vs j1 e eS hd he
 replace eS:=aS.trans aB eS
 replace he:e=aM (aN _ x _) []:=he
 subst he
 refine zm<|ag ?_
 exact dn (aS.refl _) rfl
 refine bN ?_ ?_
 intro x vs j1 e eS hd he
 have d0:vs 0=(str (bO (aD gu 0) (gu.drop 1))):=hd
 replace eS:=aS.trans aB eS
 replace he:e=aM (aN _ x _) [(79,vs 0)]:=he
 rw[d0] at he
 subst he
 refine aC (KV (bO (aD gu 0) (gu.drop 1)) j1) ?_
 rintro v49 pe ⟨Hf,jC⟩
 have Wa:=jC.size
 obtain rfl:=Hf
 refine ag ?_
 exact dn (aS.of jC) rfl
 refine bN ?_ ?_
 intro x vs j1 e eS hd he
 have d1:vs 1=(.bool (bH (bO (aD gu 0) (gu.drop 1)))):=hd
 replace eS:=aS.trans aB eS
 replace he:e=aM (aN _ x _) [(80,vs 1)]:=he
 rw[d1] at he
 subst he
 refine zm<|ag ?_
 exact dn (aS.refl _) rfl
 refine bN ?_ ?_
 intro x vs j1 e eS hd he
 have d2:vs 2=(.bool (bH (bO (aD gu 0) (gu.drop 1)))):=hd
 replace eS:=aS.trans aB eS
 rcases bE (bH (bO (aD gu 0) (gu.drop 1))) with hg|hg
 rw[hg] at d2
 replace he:e=aM (aN _ x _) [(81,vs 2)]:=he
 rw[d2] at he
 subst he
 refine zm<|ag ?_
 exact dn (aS.refl _) (show(bH (bO (aD gu 0) (gu.drop 1)))=true->_=((str (bO (aD gu 0) (gu.drop 1))):Value) from λ_=>rfl)
 rw[hg] at d2
 replace he:e=aM (aN _ x _) [(81,vs 2)]:=he
 rw[d2] at he
 subst he
 refine zs<|ag ?_
 exact dn (aS.refl _) (show(bH (bO (aD gu 0) (gu.drop 1)))=true->_=(_:Value) from λhh=>nomatch hg.symm.trans hh)
 refine bN ?_ ?_
 intro x vs j1 e eS hd he
 have aR:(vs 2=(.bool (bH (bO (aD gu 0) (gu.drop 1)))))∧((bH (bO (aD gu 0) (gu.drop 1)))=true->vs 3=(str (bO (aD gu 0) (gu.drop 1)))):=hd
 obtain⟨d2,d3⟩:=aR
 replace eS:=aS.trans aB eS
 rcases bE (bH (bO (aD gu 0) (gu.drop 1))) with hg|hg
 rw[hg] at d2
 replace d3:=d3 hg
 replace he:e=aM (aN _ x _) [(81,vs 2),(82,vs 3)]:=he
 rw[d2,d3] at he
 subst he
 refine aC (HM (bO (aD gu 0) (gu.drop 1)) j1) ?_
 rintro v49 pe ⟨Hf,jC⟩
 have Wa:=jC.size
 obtain rfl:=Hf
 refine ag ?_
 exact dn (aS.of jC) (show(bH (bO (aD gu 0) (gu.drop 1)))=true->_=((.bool (jr (bO (aD gu 0) (gu.drop 1)))):Value) from λ_=>rfl)
 rw[hg] at d2
 replace he:e=aM (aN _ x _) [(81,vs 2),(82,vs 3)]:=he
 rw[d2] at he
 subst he
 refine zs<|ag ?_
 exact dn (aS.refl _) (show(bH (bO (aD gu 0) (gu.drop 1)))=true->_=(_:Value) from λhh=>nomatch hg.symm.trans hh)
 refine bN ?_ ?_
 intro x vs j1 e eS hd he
 have d2:vs 2=(.bool (bH (bO (aD gu 0) (gu.drop 1)))):=hd
 replace eS:=aS.trans aB eS
 rcases bE (bH (bO (aD gu 0) (gu.drop 1))) with hg|hg
 rw[hg] at d2
 replace he:e=aM (aN _ x _) [(81,vs 2)]:=he
 rw[d2] at he
 subst he
 refine zm<|ag ?_
 exact dn (aS.refl _) (show(bH (bO (aD gu 0) (gu.drop 1)))=true->_=((.slice (some ⟨lW,0,none⟩) bs.length co):Value) from λ_=>rfl)
 rw[hg] at d2
 replace he:e=aM (aN _ x _) [(81,vs 2)]:=he
 rw[d2] at he
 subst he
 refine zs<|ag ?_
 exact dn (aS.refl _) (show(bH (bO (aD gu 0) (gu.drop 1)))=true->_=(_:Value) from λhh=>nomatch hg.symm.trans hh)
 refine bN ?_ ?_
 intro x vs j1 e eS hd he
 have d2:vs 2=(.bool (bH (bO (aD gu 0) (gu.drop 1)))):=hd
 replace eS:=aS.trans aB eS
 rcases bE (bH (bO (aD gu 0) (gu.drop 1))) with hg|hg
 rw[hg] at d2
 replace he:e=aM (aN _ x _) [(81,vs 2)]:=he
 rw[d2] at he
 subst he
 refine zm<|ag ?_
 exact dn (aS.refl _) (show(bH (bO (aD gu 0) (gu.drop 1)))=true->_=((.int .i64 (k:Int)):Value) from λ_=>rfl)
 rw[hg] at d2
 replace he:e=aM (aN _ x _) [(81,vs 2)]:=he
 rw[d2] at he
 subst he
 refine zs<|ag ?_
 exact dn (aS.refl _) (show(bH (bO (aD gu 0) (gu.drop 1)))=true->_=(_:Value) from λhh=>nomatch hg.symm.trans hh)
 refine bN ?_ ?_
 intro x vs j1 e eS hd he
 have aR:(vs 2=(.bool (bH (bO (aD gu 0) (gu.drop 1)))))∧((bH (bO (aD gu 0) (gu.drop 1)))=true->vs 5=(.slice (some ⟨lW,0,none⟩) bs.length co))∧((bH (bO (aD gu 0) (gu.drop 1)))=true->vs 6=(.int .i64 (k:Int))):=hd
 obtain⟨d2,d5,d6⟩:=aR
 replace eS:=aS.trans aB eS
 rcases bE (bH (bO (aD gu 0) (gu.drop 1))) with hg|hg
 rw[hg] at d2
 replace d5:=d5 hg
 replace d6:=d6 hg
 replace he:e=aM (aN _ x _) [(81,vs 2),(84,vs 5),(85,vs 6)]:=he
 rw[d2,d5,d6] at he
 subst he
 refine zi iL gR rfl rfl hk<|ag ?_
 exact dn (aS.refl _) (show(bH (bO (aD gu 0) (gu.drop 1)))=true->_=((.pointer (some ⟨lW,0+k*3,none⟩)):Value) from λ_=>rfl)
 rw[hg] at d2
 replace he:e=aM (aN _ x _) [(81,vs 2),(84,vs 5),(85,vs 6)]:=he
 rw[d2] at he
 subst he
 refine zs<|ag ?_
 exact dn (aS.refl _) (show(bH (bO (aD gu 0) (gu.drop 1)))=true->_=(_:Value) from λhh=>nomatch hg.symm.trans hh)
 refine bN ?_ ?_
 intro x vs j1 e eS hd he
 have aR:(vs 2=(.bool (bH (bO (aD gu 0) (gu.drop 1)))))∧((bH (bO (aD gu 0) (gu.drop 1)))=true->vs 7=(.pointer (some ⟨lW,0+k*3,none⟩))):=hd
 obtain⟨d2,d7⟩:=aR
 replace eS:=aS.trans aB eS
 rcases bE (bH (bO (aD gu 0) (gu.drop 1))) with hg|hg
 rw[hg] at d2
 replace d7:=d7 hg
 replace he:e=aM (aN _ x _) [(81,vs 2),(86,vs 7)]:=he
 rw[d2,d7] at he
 subst he
 refine zf mQ rfl<|ag ?_
 exact dn (aS.refl _) (show(bH (bO (aD gu 0) (gu.drop 1)))=true->_=((.pointer (some ⟨lW,0+k*3+2,none⟩)):Value) from λ_=>rfl)
 rw[hg] at d2
 replace he:e=aM (aN _ x _) [(81,vs 2),(86,vs 7)]:=he
 rw[d2] at he
 subst he
 refine zs<|ag ?_
 exact dn (aS.refl _) (show(bH (bO (aD gu 0) (gu.drop 1)))=true->_=(_:Value) from λhh=>nomatch hg.symm.trans hh)
 refine bN ?_ ?_
 intro x vs j1 e eS hd he
 have aR:(vs 2=(.bool (bH (bO (aD gu 0) (gu.drop 1)))))∧((bH (bO (aD gu 0) (gu.drop 1)))=true->vs 8=(.pointer (some ⟨lW,0+k*3+2,none⟩))):=hd
 obtain⟨d2,d8⟩:=aR
 replace eS:=aS.trans aB eS
 have hc:=hc.ext eS
 rcases bE (bH (bO (aD gu 0) (gu.drop 1))) with hg|hg
 rw[hg] at d2
 replace d8:=d8 hg
 replace he:e=aM (aN _ x _) [(81,vs 2),(87,vs 8)]:=he
 rw[d2,d8] at he
 subst he
 refine zl eQ rfl (hc.cells 2 _ rfl)<|ag ?_
 exact dn (aS.refl _) (show(bH (bO (aD gu 0) (gu.drop 1)))=true->_=((.slice (some ⟨b9,oh,none⟩) (bB bs k).code.length c2):Value) from λ_=>rfl)
 rw[hg] at d2
 replace he:e=aM (aN _ x _) [(81,vs 2),(87,vs 8)]:=he
 rw[d2] at he
 subst he
 refine zs<|ag ?_
 exact dn (aS.refl _) (show(bH (bO (aD gu 0) (gu.drop 1)))=true->_=(_:Value) from λhh=>nomatch hg.symm.trans hh)
 refine bN ?_ ?_
 intro x vs j1 e eS hd he
 have d2:vs 2=(.bool (bH (bO (aD gu 0) (gu.drop 1)))):=hd
 replace eS:=aS.trans aB eS
 rcases bE (bH (bO (aD gu 0) (gu.drop 1))) with hg|hg
 rw[hg] at d2
 replace he:e=aM (aN _ x _) [(81,vs 2)]:=he
 rw[d2] at he
 subst he
 refine zm<|ag ?_
 exact dn (aS.refl _) (show(bH (bO (aD gu 0) (gu.drop 1)))=true->_=((.int .i64 (n:Int)):Value) from λ_=>rfl)
 rw[hg] at d2
 replace he:e=aM (aN _ x _) [(81,vs 2)]:=he
 rw[d2] at he
 subst he
 refine zs<|ag ?_
 exact dn (aS.refl _) (show(bH (bO (aD gu 0) (gu.drop 1)))=true->_=(_:Value) from λhh=>nomatch hg.symm.trans hh)
 refine bN ?_ ?_
 intro x vs j1 e eS hd he
 have aR:(vs 2=(.bool (bH (bO (aD gu 0) (gu.drop 1)))))∧((bH (bO (aD gu 0) (gu.drop 1)))=true->vs 9=(.slice (some ⟨b9,oh,none⟩) (bB bs k).code.length c2))∧((bH (bO (aD gu 0) (gu.drop 1)))=true->vs 10=(.int .i64 (n:Int))):=hd
 obtain⟨d2,d9,d10⟩:=aR
 replace eS:=aS.trans aB eS
 rcases bE (bH (bO (aD gu 0) (gu.drop 1))) with hg|hg
 rw[hg] at d2
 replace d9:=d9 hg
 replace d10:=d10 hg
 replace he:e=aM (aN _ x _) [(81,vs 2),(88,vs 9),(89,vs 10)]:=he
 rw[d2,d9,d10] at he
 subst he
 refine zi bh bA rfl rfl hn<|ag ?_
 exact dn (aS.refl _) (show(bH (bO (aD gu 0) (gu.drop 1)))=true->_=((.pointer (some ⟨b9,oh+n*1,none⟩)):Value) from λ_=>rfl)
 rw[hg] at d2
 replace he:e=aM (aN _ x _) [(81,vs 2),(88,vs 9),(89,vs 10)]:=he
 rw[d2] at he
 subst he
 refine zs<|ag ?_
 exact dn (aS.refl _) (show(bH (bO (aD gu 0) (gu.drop 1)))=true->_=(_:Value) from λhh=>nomatch hg.symm.trans hh)
 refine bN ?_ ?_
 intro x vs j1 e eS hd he
 have aR:(vs 2=(.bool (bH (bO (aD gu 0) (gu.drop 1)))))∧((bH (bO (aD gu 0) (gu.drop 1)))=true->vs 11=(.pointer (some ⟨b9,oh+n*1,none⟩))):=hd
 obtain⟨d2,d11⟩:=aR
 replace eS:=aS.trans aB eS
 have gk:=gk.ext eS
 rcases bE (bH (bO (aD gu 0) (gu.drop 1))) with hg|hg
 rw[hg] at d2
 replace d11:=d11 hg
 replace he:e=aM (aN _ x _) [(81,vs 2),(90,vs 11)]:=he
 rw[d2,d11] at he
 subst he
 refine zl ck rfl (gk.cells 0 _ rfl)<|ag ?_
 exact dn (aS.refl _) (show(bH (bO (aD gu 0) (gu.drop 1)))=true->_=((str (aD (bB bs k).code n)):Value) from λ_=>rfl)
 rw[hg] at d2
 replace he:e=aM (aN _ x _) [(81,vs 2),(90,vs 11)]:=he
 rw[d2] at he
 subst he
 refine zs<|ag ?_
 exact dn (aS.refl _) (show(bH (bO (aD gu 0) (gu.drop 1)))=true->_=(_:Value) from λhh=>nomatch hg.symm.trans hh)
 refine bN ?_ ?_
 intro x vs j1 e eS hd he
 have aR:(vs 2=(.bool (bH (bO (aD gu 0) (gu.drop 1)))))∧((bH (bO (aD gu 0) (gu.drop 1)))=true->vs 12=(str (aD (bB bs k).code n))):=hd
 obtain⟨d2,d12⟩:=aR
 replace eS:=aS.trans aB eS
 rcases bE (bH (bO (aD gu 0) (gu.drop 1))) with hg|hg
 rw[hg] at d2
 replace d12:=d12 hg
 replace he:e=aM (aN _ x _) [(81,vs 2),(91,vs 12)]:=he
 rw[d2,d12] at he
 subst he
 refine aC (HM (aD (bB bs k).code n) j1) ?_
 rintro v49 pe ⟨Hf,jC⟩
 have Wa:=jC.size
 obtain rfl:=Hf
 refine ag ?_
 exact dn (aS.of jC) (show(bH (bO (aD gu 0) (gu.drop 1)))=true->_=((.bool (jr (aD (bB bs k).code n))):Value) from λ_=>rfl)
 rw[hg] at d2
 replace he:e=aM (aN _ x _) [(81,vs 2),(91,vs 12)]:=he
 rw[d2] at he
 subst he
 refine zs<|ag ?_
 exact dn (aS.refl _) (show(bH (bO (aD gu 0) (gu.drop 1)))=true->_=(_:Value) from λhh=>nomatch hg.symm.trans hh)
 refine bN ?_ ?_
 intro x vs j1 e eS hd he
 have aR:(vs 2=(.bool (bH (bO (aD gu 0) (gu.drop 1)))))∧((bH (bO (aD gu 0) (gu.drop 1)))=true->vs 4=(.bool (jr (bO (aD gu 0) (gu.drop 1)))))∧((bH (bO (aD gu 0) (gu.drop 1)))=true->vs 13=(.bool (jr (aD (bB bs k).code n)))):=hd
 obtain⟨d2,d4,d13⟩:=aR
 replace eS:=aS.trans aB eS
 rcases bE (bH (bO (aD gu 0) (gu.drop 1))) with hg|hg
 rw[hg] at d2
 replace d4:=d4 hg
 replace d13:=d13 hg
 replace he:e=aM (aN _ x _) [(81,vs 2),(83,vs 4),(92,vs 13)]:=he
 rw[d2,d4,d13] at he
 subst he
 refine W6 HB rfl rfl rfl rfl<|ag ?_
 exact dn (aS.refl _) (show(bH (bO (aD gu 0) (gu.drop 1)))=true->_=((.bool (decide (jr (bO (aD gu 0) (gu.drop 1))=jr (aD (bB bs k).code n)))):Value) from λ_=>rfl)
 rw[hg] at d2
 replace he:e=aM (aN _ x _) [(81,vs 2),(83,vs 4),(92,vs 13)]:=he
 rw[d2] at he
 subst he
 refine zs<|ag ?_
 exact dn (aS.refl _) (show(bH (bO (aD gu 0) (gu.drop 1)))=true->_=(_:Value) from λhh=>nomatch hg.symm.trans hh)
 refine bN ?_ ?_
 intro x vs j1 e eS hd he
 have aR:(vs 2=(.bool (bH (bO (aD gu 0) (gu.drop 1)))))∧((bH (bO (aD gu 0) (gu.drop 1)))=true->vs 14=(.bool (decide (jr (bO (aD gu 0) (gu.drop 1))=jr (aD (bB bs k).code n))))):=hd
 obtain⟨d2,d14⟩:=aR
 replace eS:=aS.trans aB eS
 rcases bE (bH (bO (aD gu 0) (gu.drop 1))) with hg|hg
 rw[hg] at d2
 replace d14:=d14 hg
 replace he:e=aM (aN _ x _) [(81,vs 2),(93,vs 14)]:=he
 rw[d2,d14] at he
 subst he
 refine zp rfl<|ag ?_
 exact dn (aS.refl _) (by first|rfl|(rw[hg];rfl))
 rw[hg] at d2
 replace he:e=aM (aN _ x _) [(81,vs 2),(93,vs 14)]:=he
 rw[d2] at he
 subst he
 refine zp rfl<|ag ?_
 exact dn (aS.refl _) (by first|rfl|(rw[hg];rfl))
 exact trivial
 intro x vs w87 mE bJ
 have d0:vs 0=(str (bO (aD gu 0) (gu.drop 1))):=bJ 0 de
 have d1:vs 1=(.bool (bH (bO (aD gu 0) (gu.drop 1)))):=bJ 1 de
 have d2:vs 2=(.bool (bH (bO (aD gu 0) (gu.drop 1)))):=bJ 2 de
 have d3:(bH (bO (aD gu 0) (gu.drop 1)))=true->vs 3=(str (bO (aD gu 0) (gu.drop 1))):=bJ 3 de
 have d4:(bH (bO (aD gu 0) (gu.drop 1)))=true->vs 4=(.bool (jr (bO (aD gu 0) (gu.drop 1)))):=bJ 4 de
 have d5:(bH (bO (aD gu 0) (gu.drop 1)))=true->vs 5=(.slice (some ⟨lW,0,none⟩) bs.length co):=bJ 5 de
 have d6:(bH (bO (aD gu 0) (gu.drop 1)))=true->vs 6=(.int .i64 (k:Int)):=bJ 6 de
 have d7:(bH (bO (aD gu 0) (gu.drop 1)))=true->vs 7=(.pointer (some ⟨lW,0+k*3,none⟩)):=bJ 7 de
 have d8:(bH (bO (aD gu 0) (gu.drop 1)))=true->vs 8=(.pointer (some ⟨lW,0+k*3+2,none⟩)):=bJ 8 de
 have d9:(bH (bO (aD gu 0) (gu.drop 1)))=true->vs 9=(.slice (some ⟨b9,oh,none⟩) (bB bs k).code.length c2):=bJ 9 de
 have d10:(bH (bO (aD gu 0) (gu.drop 1)))=true->vs 10=(.int .i64 (n:Int)):=bJ 10 de
 have d11:(bH (bO (aD gu 0) (gu.drop 1)))=true->vs 11=(.pointer (some ⟨b9,oh+n*1,none⟩)):=bJ 11 de
 have d12:(bH (bO (aD gu 0) (gu.drop 1)))=true->vs 12=(str (aD (bB bs k).code n)):=bJ 12 de
 have d13:(bH (bO (aD gu 0) (gu.drop 1)))=true->vs 13=(.bool (jr (aD (bB bs k).code n))):=bJ 13 de
 have d14:(bH (bO (aD gu 0) (gu.drop 1)))=true->vs 14=(.bool (decide (jr (bO (aD gu 0) (gu.drop 1))=jr (aD (bB bs k).code n)))):=bJ 14 de
 have d15:vs 15=(.bool (bH (bO (aD gu 0) (gu.drop 1))&&(decide (jr (bO (aD gu 0) (gu.drop 1))=jr (aD (bB bs k).code n))))):=bJ 15 de
 have h:=h.ext mE;have fl:=fl.ext mE;have hO:=hO.ext mE;have hc:=hc.ext mE;have hr:=hr.ext mE;have gk:=gk.ext mE;have fS:=fS.ext mE;have fH:=fH.ext mE
 change OW _ _ _ _ [] (aM (aN _ x _) (zZ 79 [vs 0,vs 1,vs 2,vs 3,vs 4,vs 5,vs 6,vs 7,vs 8,vs 9,vs 10,vs 11,vs 12,vs 13,vs 14,vs 15])) _
 rw[d0,d1,d2,d15]
 refine ag ?_
 refine jg (λ_:List Bk=>[(0,.pointer (some ⟨br,0,none⟩)),(5,.slice (some ⟨lW,0,none⟩) bs.length co),(7,.int .i64 (k:Int)),(8,.int .i64 (n:Int))]) (λcs ww=>ak [br] w ww∧dW ww br (q+5)∧(∃Wb,mo ww 29 9 (.slice (some ⟨lW,0,none⟩) bs.length co) g gss Wb cs)∧vM bs cs) ?_ ?_
 refine zc rfl (λh4=>?_) (λh4=>?_)
 have ajY:bH (bO (aD gu 0) (gu.drop 1))=true:=(Bool.and_eq_true_iff.1 h4).1
 have D5:=fH.form om
 obtain⟨b7,e7,eg2⟩:=D5
 cases e7
 refine db<|zm<|zm<|zi iL gR rfl rfl hk<|zf mQ rfl<|zl eQ rfl (hc.cells 2 _ rfl)<|zm<|zm<|zi bh bA rfl rfl hn<|Rk (i:=n) bA rfl rfl rfl om fH hn ?_
 intro Gb AJ fH dN
 have hO:=hO.row (f:={bB bs k with code:=(bB bs k).code.set n (bO (aD gu 0) (gu.drop 1))}) jN bo AJ (λx hx=>by simp[jM,hx]) ⟨_,_,rfl,fS.aO AJ (λb hb hy=>J1 b hb (by simpa using hy)),by rw[show({bB bs k with code:=(bB bs k).code.set n (bO (aD gu 0) (gu.drop 1))}:Bk).code=(bB bs k).code.set n (bO (aD gu 0) (gu.drop 1)) from rfl];exact fH⟩
 have h:=h.aO AJ (λx hx=>by have:=kT x (mR _ (xK jN (by simp[jM,hx])));omega)
 have fl:=fl.since AJ (λx hx=>.inr (kT x (mR _ (xK jN (by simp[jM,hx])))))
 refine ag ?_
 exact⟨_,⟨rfl,rfl,rfl,rfl⟩,fl,h,⟨_,hO⟩,(vM.refl bs).set hk (by rw[List.length_set];exact lR _) (λx hx=>by rcases V8 hx with h9|h9;(·exact .inl h9);(·rw[h9];exact .inr ajY))⟩
 refine bz ?_
 exact⟨bs,⟨rfl,rfl,rfl,rfl⟩,fl,h,⟨_,hO⟩,vM.refl bs⟩
 intro gu Gb e88 hI
 obtain⟨fl,h,⟨Wb,hO⟩,hH⟩:=hI
 have lq:k<gu.length:=(by rw[hH.1];exact hk)
 have iu:=hO.get lq
 obtain⟨lW,gs,a1,c1,a2,c2,e1,e2,tS,wZ,jN,bo,kJ,fS,fH,J1⟩:=iu
 cases e1
 refine aQ<|zr<|zm<|aC (mF 6 de de br (q+5) om Gb h) ?_
 rintro v31 sS ⟨⟨z,yG,hz⟩,h,aG⟩
 subst yG
 have fl:=fl.trans aG
 have hO:=hO.aO aG (λx hx hy=>by have:=kT x hx;simp at hy;omega)
 have iu:=hO.get lq
 obtain⟨lW,gs,a1,c1,a2,c2,e1,e2,tS,wZ,jN,bo,kJ,fS,fH,J1⟩:=iu
 cases e1
 have yQ:∀x,x∈g.toList++ik gss->x∉[br]:=(λx hx hy=>by have:=kT x hx;simp at hy;omega)
 have O5:∀x,x∈g.toList++ik gss->x<sS.heap.size:=(λx hx=>(mA.1 hx).elim (λh9=>hO.own.lt x (by simpa using h9)) (hO.lt x))
 have hc:iZ [] sS lW (0+k*3) _:=⟨kJ,tS,sm⟩
 have hr:bI [] sS _ _:=fH.rep sm
 have Wc:=hH.2 k hk
 have ot:(bB gu k).code.length<=80:=Nat.le_trans Wc.2.2.1 (fx k hk).2.2
 have aoM:=fl.size
 refine dO rfl rfl rfl<|zm ?_
 apply fX 10 106 116 [106,107,108,109,110,111,112,113,114,115,116] (λw'=>sS=w') rfl
 intro h5
 replace h5:=bw h5
 refine zm<|eF rfl rfl rfl (kj (n+1) om _ om)<|zm<|zm<|zi iL gR rfl rfl hk<|zf mQ rfl<|zl eQ rfl (hc.cells 2 _ rfl)<|dX bh rfl<|fy rfl rfl rfl<|zp rfl<|ag ?_
 exact mg rfl rfl
 intro h5
 replace h5:=bw h5
 refine zs<|zs<|zs<|zs<|zs<|zs<|zs<|zs<|zs<|zp rfl<|ag ?_
 exact mg rfl rfl
 rintro xx _ rfl
 refine ag<|zc rfl (λh6=>?_) (λh6=>?_)
 have pr:n+1<(bB gu k).code.length:=(by have h9:=of_decide_eq_true (Bool.and_eq_true_iff.1 h6).2;omega)
 have ga:=og hr (i:=n) om
 obtain⟨b9,oh,e9,gk⟩:=ga
 subst e9
 apply kc ei ([]) 20 (rA 117 20) (rA 117 20) [[],[],[],[],[],[3,4],[5],[6],[],[7,8],[2,9],[],[],[11,12],[13],[14],[],[16],[15,17],[10,18]] [Ie.v _,Ie.v _,Ie.p (fun(G:List Nat) (v:Value) (ww:World)=>∃bb,v= .slice (some ⟨bb,0,none⟩) 0 0∧fg G ww bb #[] 9∧sS.heap.size<=bb),Ie.v _,Ie.v _,Ie.v _,Ie.v _,Ie.v _,Ie.v _,Ie.v _,Ie.e 0,Ie.v _,Ie.v _,Ie.v _,Ie.v _,Ie.v _,Ie.v _,Ie.v _,Ie.p (fun(G:List Nat) (v:Value) (ww:World)=>bI G ww v ((bB gu k).code.drop (n+1))),Ie.e 1] [10,19] [fun(G:List Nat) (vs:List Value) (ww:World)=>True,fun(G:List Nat) (vs:List Value) (ww:World)=>∃g7,dh ww 9 (vs.getD 0 undef) g7 ((bB gu k).code.take n)∧qx G ww 9 g7∧(∀x,x∈g7.toList->sS.heap.size<=x),fun(G:List Nat) (vs:List Value) (ww:World)=>∃g7,dh ww 9 (vs.getD 1 undef) g7 ((bB gu k).code.take n++(bB gu k).code.drop (n+1))∧(∀x,x∈g7.toList->sS.heap.size<=x)] de rfl ((λz hz=>by simp at hz)) (by exact⟨λG v w G' w' ⟨bb,e,h,hz⟩ k=>⟨bb,e,h.go k,hz⟩,λG v w G' w' h k=>bI.go h k,trivial⟩) (by exact⟨λ_ _ _ _ _ _=>trivial,λG vs w w' ⟨g7,h2,h3,h4⟩ k=>⟨g7,h2.ext k,h3.ext k,h4⟩,λG vs w w' ⟨g7,h2,h4⟩ k=>⟨g7,h2.ext k,h4⟩,trivial⟩) trivial
 refine cR ?_
 refine cR ?_
 refine vf (λx j3 kW aW iB ld=>?_) ?_
 refine gN bh bA ?_
 intro od yi ajZ IY
 exact ff yi (⟨_,rfl,ajZ.o ld,iB.aO.size⟩)
 refine cR ?_
 refine cR ?_
 refine vf (λ_ _ _ _ _ _=>zi iL gR rfl rfl hk fv) ?_
 refine vf (λ_ _ _ _ _ _=>zf mQ rfl fv) ?_
 refine vf (λx j3 kW aW iB ld=>?_) ?_
 have hc:=hc.go iB
 refine zl eQ rfl (hc.cells 2 _ rfl) ?_
 exact fv
 refine cR ?_
 refine vf (λx j3 kW aW iB ld=>?_) ?_
 have hr:=hr.go iB
 refine VN (h:=n) bh bA rfl rfl rfl rfl om hr ?_
 exact fv
 refine ve 0 (λx j3 kW aW iB ld hJ hlen=>?_) ?_
 have bo:=jP hlen
 subst bo
 have hr:=hr.go iB
 intro v2 d2
 obtain⟨bb,e2,gw,hN⟩:=d2
 subst e2
 have Ou:bI kW j3 _ ((bB gu k).code.take n):=(show cD _ _ _ (.sl 1 (jh _)) from by have h9:=VM hr (h:=n) om;unfold jh at h9⊢;rw[List.map_take];exact h9)
 refine DO bh bA rfl rfl rfl rfl rfl rfl gw.jv.lp Ou ‹_› (λx hx=>.inr (by simp at hx;subst hx;exact gw.jv)) (by rw[List.length_take];simp;omega) ?_
 intro v9 g9 od G9 dJ DR pd kU df fh aG
 exact fe G9 df fh (⟨g9,dJ,DR,λx hx=>(pd x hx).elim (λh9=>by simp at h9;subst h9;exact hN) (λh9=>Nat.le_trans iB.aO.size h9)⟩)
 refine cR ?_
 refine cR ?_
 refine vf (λ_ _ _ _ _ _=>zi iL gR rfl rfl hk fv) ?_
 refine vf (λ_ _ _ _ _ _=>zf mQ rfl fv) ?_
 refine vf (λx j3 kW aW iB ld=>?_) ?_
 have hc:=hc.go iB
 refine zl eQ rfl (hc.cells 2 _ rfl) ?_
 exact fv
 refine cR ?_
 refine vf (λ_ _ _ _ _ _=>eF rfl rfl rfl (kj (n+1) om _ om) fv) ?_
 refine vf (λx j3 kW aW iB ld=>?_) ?_
 have hr:=hr.go iB
 refine Hr bh bA rfl rfl rfl rfl om hr ?_
 intro CS bo
 exact ff (ak.refl _ _) ((show bI _ _ CS ((bB gu k).code.drop (n+1)) from by unfold bI jh;rw[List.map_drop];exact bo))
 refine ve 1 (λx j3 kW aW iB ld hJ hlen=>?_) ?_
 have aR:=jQ hlen
 obtain⟨q0,bo⟩:=aR
 subst bo
 intro wT d18
 have hJ:∃g7,dh j3 9 q0 g7 ((bB gu k).code.take n)∧qx kW j3 9 g7∧(∀x,x∈g7.toList->_<=x):=hJ
 obtain⟨g7,rR,F2,B0⟩:=hJ
 refine DO bh bA rfl rfl rfl rfl rfl rfl rR d18 ‹_› F2 (by rw[List.length_take,List.length_drop];omega) ?_
 intro v9 g9 od G9 dJ DR pd kU df fh aG
 exact fe G9 df fh (⟨g9,dJ,λx hx=>(pd x hx).elim (B0 x) (λh9=>Nat.le_trans iB.aO.size h9)⟩)
 exact trivial
 intro x IZ TH aW MP adN hJ hlen
 have aR:=lM hlen
 obtain⟨q0,q1,bo⟩:=aR
 subst bo
 intro v2 d2
 intro wT d18
 change OW _ _ _ _ _ (aM (aN _ x _) (zZ 117 [_,_,_,_,_,_,_,_,_,_,_,_,_,_,_,_,_,_,_,_])) _
 have hJ:∃g7,dh IZ 9 q1 g7 ((bB gu k).code.take n++(bB gu k).code.drop (n+1))∧(∀x,x∈g7.toList->_<=x):=hJ
 obtain⟨g7,rR,B0⟩:=hJ
 have cJ:=kt rR
 obtain⟨a9,c9,e9⟩:=cJ
 subst e9
 have JB:ak [] _ IZ:=MP.aO
 have hO:=hO.ext JB;have h:=h.ext JB;have fl:=fl.ext JB
 refine zi iL gR rfl rfl hk<|zf mQ rfl<|ajn (i:=k) (L:=[br]) nJ rfl rfl rfl om hO e2 lq rR (λx hx hy=>by have h8:=B0 x hx;have h9:=O5 x (by simp at hy;simp[hy]);omega) (λx hx hy=>by rcases mA.1 hx with h9|h9;(·exact yQ x h9 hy);(·have h8:=B0 x h9;have h7:=fl.size;simp at hy;omega)) ?_
 intro MQ B7 hR dN
 have h:=h.aO B7 (λx hx=>by have:=kT x (by simp at hx;simp[hx]);omega)
 have fl:=fl.since B7 (λx hx=>.inr (kT x (by simp at hx;simp[hx])))
 refine ag<|zr<|zm<|zA<|ag<|aV ?_
 exact⟨_,rfl,⟨_,hR,hH.set hk (by rw[lA,List.length_take,List.length_drop];omega) (λx hx=>Wc.2.2.2 x ((mA.1 hx).elim List.mem_of_mem_take List.mem_of_mem_drop))⟩,h.more om,fl⟩
 refine bz<|zr<|zm<|zA<|ag<|aV ?_
 exact⟨_,rfl,⟨gu,hO.rep yQ,hH⟩,h.more om,fl⟩
theorem Wd {br:Nat} {cs:Array Value} {T:TypeId} (hb:aY w br cs T) (hs:∀(i:Nat) (s:aj),cs[i]?≠some (str s)) {a:Option Addr} {n c size:Nat} {rows:List (List C)} (h:cD [] w (.slice a n c) (.sl size rows)) (h0:∀row,row∈rows->∃s rest,row= .val (str s)::rest) (Aw:∀row c' u,row∈rows->c'∈row->cD [] w u c'->cD [br] w u c'):cD [br] w (.slice a n c) (.sl size rows):=by
 cases h with
 |nil=>exact .nil _ _ _
 |sl b off _ _ _ _ f hl hc iE hL iW kJ jm=>
  cases rows with
  |nil=>
   have:n=0:=by rw[<-hl];rfl
   subst this
   exact .nil _ _ _
  |cons row rest=>
   have eK:b≠br:=by
    rintro rfl
    obtain⟨s,r,e⟩:=h0 row sm
    have hz:=iW row sm
    have h1:=jm 0 0 row (.val (str s)) rfl (by rw[e];rfl)
    have h2:=kJ 0 0 (by rw[<-hl];simp) (by rw[<-hz,e];simp)
    rw[hb.cell] at h2
    generalize f 0 0=u at h1 h2
    cases h1
    exact hs _ _ h2
   exact .sl b off n c size _ f hl hc iE (by simpa using eK) iW kJ λi j row c hr hc=>Aw row c _ (List.mem_of_getElem? hr) (List.mem_of_getElem? hc) (jm i j row c hr hc)
theorem We {br:Nat} {cs:Array Value} {T:TypeId} (hb:aY w br cs T) (hs:∀(i:Nat) (s:aj),cs[i]?≠some (str s)) (h:bI [] w v xs):bI [br] w v xs:=by
 obtain⟨a,n,c,rfl,_⟩:=eN h
 refine Wd hb hs h (λrow hr=>?_) (λrow c' u hr hc hu=>?_)
 ·obtain⟨x,_,rfl⟩:=List.mem_map.1 hr;exact⟨x,[],rfl⟩
 ·obtain⟨x,_,rfl⟩:=List.mem_map.1 hr
  simp only[List.mem_singleton] at hc
  subst hc
  cases hu;exact .val _
theorem aj0 {br:Nat} {cs:Array Value} {T:TypeId} (hb:aY w br cs T) (hs:∀(i:Nat) (s:aj),cs[i]?≠some (str s)) (h:km [] w v bs):km [br] w v bs:=by
 obtain⟨a,n,c,rfl,_⟩:=Bu h
 refine Wd hb hs h (λrow hr=>?_) (λrow c' u hr hc hu=>?_)
 ·obtain⟨x,_,rfl⟩:=List.mem_map.1 hr;exact⟨x.aP,_,rfl⟩
 ·obtain⟨x,_,rfl⟩:=List.mem_map.1 hr
  simp only[Bk.enc,mC,List.not_mem_nil,or_false] at hc
  rcases hc with rfl|rfl|rfl
  ·cases hu;exact .val _
  ·exact We hb hs hu
  ·exact We hb hs hu
theorem dW.xH {br:Nat} (h:dW w br q) (hR:km [] w v bs):km [br] w v bs:=by
 obtain⟨a,n,c,p,xs,h1,_⟩:=h
 refine aj0 h1 (λi s hi=>?_) hR
 match i with
 |0=>cases hi
 |1=>cases hi
 |i+2=>cases hi
theorem aj1 (br q:Nat) (hq:q<=700000000) (w:World) (h:dW w br q):
  cj Tryz.prog 50 [.pointer (some ⟨br,0,none⟩)] w λr w'=>(∃x,r=str x)∧dW w' br (q+12000)∧ak [br] w w':=by
 have hk:=ak.refl [br] w
 have iE:=h.lt
 have uI:(4:Nat)^2=16:=rfl
 refine cV [.tmp 2] 28 Tryz.func50 rfl Y8 rfl rfl ?_
 refine zr<|zA<|ag<|zr<|zA<|ag<|aQ<|zr<|zm<|aC (mF 3 de de br q om w h) ?_
 rintro v9 w1 ⟨⟨z,e9,hz⟩,h,aG⟩
 subst e9
 have hk:=hk.trans aG
 refine dO rfl rfl rfl<|ag ?_
 refine jg (λx:aj=>[(0,.pointer (some ⟨br,0,none⟩)),(3,str x)]) (λx ww=>ak [br] w ww∧dW ww br (q+20)∧x.length<=100) ?_ ?_
 refine zc rfl (λh1=>?_) (λh1=>?_)
 refine db<|zm<|aC (OB 2 de br (q+1) om w1 h) ?_
 rintro v9 w2 ⟨⟨T,e9,hT⟩,h,aG⟩
 subst e9
 have V2:=T.len
 have hT:T.n+1<=8:=hT
 have hk:=hk.trans aG
 refine zA<|ag ?_
 exact⟨_,⟨rfl,rfl⟩,hk,h.more om,om⟩
 refine bz ?_
 exact⟨_,⟨rfl,rfl⟩,hk,h.more om,by decide⟩
 intro gu w2 e2 hI
 obtain⟨hk,h,hx⟩:=hI
 have oq:=h.lt
 refine zr<|zm<|gN bh bA ?_
 intro w3 aJ iC iH
 have hk:=hk.ext aJ;have h:=h.ext aJ
 refine gN bh bA ?_
 intro w4 aF Nw iS
 have hk:=hk.ext aF;have h:=h.ext aF;have iC:=iC.ext aF
 refine j5 (Kr _ _ _ _ _ _ _) rfl rfl<|zm<|zm<|aC (mF 3 de de br (q+20) om w4 h) ?_
 rintro v9 w5 ⟨⟨z2,e9,eM⟩,h,aG⟩
 subst e9
 have hk:=hk.trans aG
 have cU:bI [br] w5 _ []:=(iC.lp.aO aG so).rep so
 have cS:bI [br] w5 _ []:=(Nw.lp.aO aG so).rep so
 have hE:=OM (2+z2) om
 have hp:4^(2+z2)<=4^4:=Nat.pow_le_pow_right de om
 have Vx:(4:Nat)^4=256:=rfl
 refine eF rfl rfl rfl (kj (2+z2) om _ om)<|aC (hE [] [] gu br (q+21) _ _ w5 rfl so sm om om h cU cS) ?_
 rintro v9 w6 ⟨⟨x9,e9,jf⟩,h,aG⟩
 subst e9
 have hk:=hk.trans aG
 have h:=h.more (show _<=q+6000 from om)
 refine zA<|ag<|aQ<|zr<|zm<|aC (MC x9 w6) ?_
 rintro v7 w7 ⟨iT,cw⟩
 have pb:=cw.size
 have hk:=hk.ext cw;have h:=h.ext cw
 obtain rfl:=iT
 refine ag<|zc rfl (λh2=>?_) (λh2=>?_)
 refine zr<|zm<|zA<|ag<|aV ?_
 exact⟨_,rfl,⟨_,rfl⟩,h.more om,hk⟩
 have oq:=h.lt
 refine bz<|zr<|zm<|gN bh bA ?_
 intro w8 cu AY mn
 have hk:=hk.ext cu;have h:=h.ext cu
 refine gN bh bA ?_
 intro w9 aG Cl dN
 have hk:=hk.ext aG;have h:=h.ext aG;have AY:=AY.ext aG
 refine j5 (Kr _ _ _ _ _ _ _) rfl rfl<|zm<|aC (OM 2 de [] [] gu br (q+6000) _ _ w9 rfl sm sm om om h (AY.lp.rep so) (Cl.lp.rep so)) ?_
 rintro v9 cM ⟨⟨Eh,e9,aoN⟩,h,aG⟩
 subst e9
 have hk:=hk.trans aG
 refine zA<|ag<|aV ?_
 exact⟨_,rfl,⟨_,rfl⟩,h.more om,hk⟩
theorem Gr.two {B TB:Nat} {x1 x2 x3 y1 y2 y3:Value} {f1 f2:Bk} (hb:aY w b [x1,x2,x3,y1,y2,y3].toArray TB) (h1:qS (b::L) w (.agg #[x1,x2,x3]) f1) (h2:qS (b::L) w (.agg #[y1,y2,y3]) f2) (hB:B<=b) (hL:∀x,x∈L->x<w.heap.size) (qV:b∉L):Gr B L w TB 3 (.slice (some ⟨b,0,none⟩) 2 2) (some b) ([f1,f2].map Bk.enc):=
 ⟨⟨[x1,x2,x3,y1,y2,y3],⟨rfl,.inr ⟨b,2,_,rfl,rfl,hb,lR _,by decide,rfl,rfl⟩⟩,dP.append (vs:=[x1,x2,x3]) h1.kO (dP.append (vs:=[y1,y2,y3]) h2.kO (vs':=[]) (cs':=[]) trivial),by intro row hr;simp at hr;rcases hr with rfl|rfl<;>rfl,by intro c hc;cases hc;exact qV⟩,by intro c hc;cases hc;exact hB,hL,Nat.le_of_lt (Nat.lt_of_le_of_lt hB hb.lt)⟩
structure A4 (bs:List Bk):Prop where
 len:1<=bs.length∧bs.length<=40
 bk:∀b,b∈bs->b.aP.length<=100∧b.cN.length<=40∧b.code.length<=80∧(∀x,x∈b.cN->x.length<=12000)∧∀x,x∈b.code->x.length<=12000
theorem A4.smalls (h:A4 bs):By bs:=⟨by have:=h.len;omega,λi hi=>by
 have:=h.bk (bB bs i) (List.mem_of_getElem? (su hi))
 exact⟨by omega,om,om⟩⟩
theorem OX.dr {b:Bk} {l:aj} (h:OX b l) (hl:l.length<=100):b.aP.length<=100∧b.cN.length<=40∧b.code.length<=80∧(∀x,x∈b.cN->x.length<=12000)∧∀x,x∈b.code->x.length<=12000:=
 ⟨by rw[h.aP];exact hl,by have:=h.regs.1;omega,by have:=h.code.2.1;omega,λx hx=>by have:=h.regs.2 x hx;omega,λx hx=>by have:=h.code.2.2 x hx;omega⟩
theorem aj2 {x:aj} (h:bH x=true):x.length<=12000:=by
 unfold bH seen at h
 cases hp:ba x with
 |none=>rw[hp] at h;cases h
 |some t=>exact(BC hp).2.2.2
theorem Wf (hp:jL bs=true) (hl:∀b,b∈bs->b.aP.length<=10):A4 bs:=by
 obtain⟨h1,h2,h3⟩:=V7 hp
 refine⟨⟨h2,h1⟩,λb hb=>?_⟩
 obtain⟨i,hi,rfl⟩:=List.getElem_of_mem hb
 have e:bB bs i=bs[i]:=by unfold bB;rw[gG,gE hi];rfl
 have h4:=h3 i hi
 rw[e] at h4
 obtain⟨_,h5,h6⟩:=abe (K7 hp _ hb)
 refine⟨by have:=hl _ hb;omega,h4.1,h4.2.2,λx hx=>?_,λx hx=>?_⟩
 ·obtain⟨t,ht,_⟩:=h5 x hx;exact(BC ht).2.2.2
 ·obtain⟨t,ht,_⟩:=h6 x hx;exact(BC ht).2.2.2
theorem A4.aj3 {cs:List Bk} (h:A4 bs) (hh:vM bs cs):A4 cs:=by
 refine⟨by rw[hh.1];exact h.len,λb hb=>?_⟩
 obtain⟨i,hi,rfl⟩:=List.getElem_of_mem hb
 have lg:i<bs.length:=by rw[<-hh.1];exact hi
 have e:bB cs i=cs[i]:=by unfold bB;rw[gG,gE hi];rfl
 obtain⟨h1,h2,h3,h4⟩:=hh.2 i lg
 rw[e] at h1 h2 h3 h4
 have h5:=h.bk (bB bs i) (List.mem_of_getElem? (su lg))
 rw[h1,h2]
 exact⟨h5.1,h5.2.1,om,h5.2.2.2.1,λx hx=>(h4 x hx).elim (h5.2.2.2.2 x) aj2⟩
def O6:List aj:=[[98,49],[98,48],[101,110,100]]
set_option maxHeartbeats 4000000 in
theorem aj4 (br q:Nat) (hq:q<=600000000) (w:World) (h:dW w br q):
  cj Tryz.prog 24 [.pointer (some ⟨br,0,none⟩)] w λr w'=>(∃bs,A4 bs∧km [br] w' r bs)∧dW w' br (q+20000)∧ak [br] w w':=by
 have hk:=ak.refl [br] w
 have iE:=h.lt
 refine cV [.tmp 2] 49 Tryz.func24 rfl YS rfl rfl ?_
 refine zr<|zA<|ag<|aQ<|zr<|zm<|aC (mF 3 de de br q om w h) ?_
 rintro v9 w1 ⟨⟨z,e9,hz⟩,h,aG⟩
 subst e9
 have hk:=hk.trans aG
 refine dO rfl rfl rfl<|ag<|zc rfl (λh1=>?_) (λh1=>?_)
 have oq:=h.lt
 refine zr<|zm<|aC (OZ [109,97,105,110] 0 de br (q+1) om w1 h) ?_
 rintro v9 w2 ⟨⟨f1,rX,cU⟩,h,aG⟩
 have hk:=hk.trans aG
 have cU:=cU [br] so
 have cJ:=Dh cU
 obtain⟨a1,n1,c1,a2,n2,c2,e9,fS,fH,dQ,eE⟩:=cJ
 subst e9
 refine zm<|zm<|aC (mF 3 de de br (q+101) om w2 h) ?_
 rintro v9 w3 ⟨⟨z2,e9,eM⟩,h,aG⟩
 subst e9
 have hk:=hk.trans aG
 have dQ:=dQ.aL aG sm;have eE:=eE.aL aG sm
 have oq:=h.lt
 refine aC (OZ [98,48] z2 om br (q+102) om w3 h) ?_
 rintro v9 w4 ⟨⟨f2,rY,cS⟩,h,aG⟩
 have hk:=hk.trans aG
 have dQ:=dQ.aL aG sm;have eE:=eE.aL aG sm
 have cS:=cS [br] so
 have cJ:=Dh cS
 obtain⟨a3,n3,c3,a4,n4,c4,e9,pr,TW,fZ,gI⟩:=cJ
 subst e9
 refine sA [.tmp 10,.tmp 14] [[str f1.aP,.slice a1 n1 c1,.slice a2 n2 c2],[str f2.aP,.slice a3 n3 c3,.slice a4 n4 c4]] iL gR rfl rfl rfl rfl rfl rfl rfl rfl rfl ?_
 intro w5 aU IQ IS
 have oq:=h.lt
 have vV:∀x,x∈w4.heap.size::[br]->x∈[br]∨w4.heap.size<=x:=(λx hx=>by rcases mC.1 hx with h9|h9;(·right;omega);(·exact .inl h9))
 have dQ:=(dQ.fresh vV).ext aU
 have eE:=(eE.fresh vV).ext aU
 have fZ:=(fZ.fresh vV).ext aU
 have gI:=(gI.fresh vV).ext aU
 have hwk:=hk.size
 have hk:=hk.ext aU;have h:=h.ext aU
 have hO:=Gr.two (B:=w.heap.size) (L:=[br]) IQ (Di dQ eE) (Di fZ gI) om so so
 refine zA<|ag<|aQ<|zr<|zm<|aC (mF 3 de de br (q+202) om w5 h) ?_
 rintro v9 w6 ⟨⟨z3,e9,iH⟩,h,aG⟩
 subst e9
 have hk:=hk.trans aG
 have hO:=hO.aL aG sm
 refine dO rfl rfl rfl<|ag<|zc rfl (λh2=>?_) (λh2=>?_)
 have oq:=h.lt
 refine db<|zm<|zm<|zm<|pO bh bA rfl rfl rfl rfl rfl ?_
 intro w7 cw tT qg
 have hk:=hk.ext cw;have h:=h.ext cw;have hO:=hO.ext cw
 refine aC (ml O6 de de br (q+203) om _ w7 h (aY.eD O6 tT (λhx=>by simp at hx;omega) de)) ?_
 rintro lx w8 ⟨⟨lb,hi,ic⟩,h,aG⟩
 subst ic
 have hk:=hk.trans aG
 have hO:=hO.aL aG sm
 have Cv:=(show∀x,x∈O6->x.length<=30 from by decide) _ hi
 refine zm<|aC (mF 2 de de br (q+204) om w8 h) ?_
 rintro v9 w9 ⟨⟨z4,e9,iS⟩,h,aG⟩
 subst e9
 have hk:=hk.trans aG
 have hO:=hO.aL aG sm
 have oq:=h.lt
 have gH:=hO.all
 refine aC (OZ lb z4 om br (q+205) om w9 h) ?_
 rintro v9 cM ⟨⟨f3,vi,Iq⟩,h,aG⟩
 have hk:=hk.trans aG
 have hO:=hO.aL aG sm
 have Iq:=Iq _ gH
 have cJ:=Dh Iq
 obtain⟨a5,n5,c5,a6,n6,c6,e9,I7,Vv,pD,oM⟩:=cJ
 subst e9
 refine gD iL gR rfl rfl ?_
 intro eW cK aj5 uC
 have hk:=hk.ext cK;have h:=h.ext cK;have hO:=hO.ext cK;have pD:=pD.ext cK;have oM:=oM.ext cK
 refine aaz iL gR rfl rfl rfl rfl rfl rfl hO aj5 (Di pD oM) sm ?_
 intro a7 c7 g7 gh gS dC
 have hk:=hO.since hk dC
 have h:=h.aO dC (λx hx=>by have:=hO.low x (by simp at hx;simp[hx]);omega)
 refine zA<|ag<|zr<|zm<|zA<|ag<|aV ?_
 exact⟨_,rfl,⟨[f1,f2]++[f3],⟨by simp,λb hb=>by simp at hb;rcases hb with rfl|rfl|rfl;(·exact rX.dr de);(·exact rY.dr de);(·exact vi.dr om)⟩,gS.xH⟩,h.more om,hk⟩
 refine bz<|zr<|zm<|zA<|ag<|aV ?_
 exact⟨_,rfl,⟨[f1,f2],⟨by simp,λb hb=>by simp at hb;rcases hb with rfl|rfl;(·exact rX.dr de);(·exact rY.dr de)⟩,hO.xH⟩,h.more om,hk⟩
 refine bz<|zr<|zm<|aC (aj1 br (q+1) om w1 h) ?_
 rintro v9 w2 ⟨⟨x9,e9⟩,h,aG⟩
 subst e9
 have hk:=hk.trans aG
 refine aC (VK x9 w2) ?_
 rintro v3 w3 ⟨eh,aJ⟩
 have fZ:=aJ.size
 have hk:=hk.ext aJ;have h:=h.ext aJ
 obtain⟨v1,ok,bs,e9,hR,hC⟩:=eh
 subst e9
 have hR:=h.xH hR
 refine zm<|zx (i:=0) rfl rfl<|zx (i:=1) rfl rfl<|zA<|zA<|ag<|aQ<|zr<|zm<|eJ rfl<|ag ?_
 refine jg (λv:Value=>[(0,.pointer (some ⟨br,0,none⟩)),(4,v)]) (λv ww=>ak [br] w ww∧dW ww br (q+12001)∧∃bs,km [br] ww v bs∧jL bs=true∧∀b,b∈bs->b.aP.length<=10) ?_ ?_
 refine zc rfl (λh3=>?_) (λh3=>?_)
 have hf:ok=false:=(by simpa using h3)
 refine db<|aC (VK [40,43,32,49,32,50,41] w3) ?_
 rintro v4 w4 ⟨eH,aF⟩
 have gI:=aF.size
 have hk:=hk.ext aF;have h:=h.ext aF
 obtain⟨v2,ok2,VP,e9,OA,O7⟩:=eH
 subst e9
 have aj6:=aiJ O7
 subst aj6
 refine zm<|zx (i:=0) rfl rfl<|zx (i:=1) rfl rfl<|zA<|ag ?_
 exact⟨_,⟨rfl,rfl⟩,hk,h.more om,_,h.xH OA,O7.prog,O7.aP⟩
 have bD:ok=true:=(by simpa using h3)
 subst bD
 refine bz ?_
 exact⟨_,⟨rfl,rfl⟩,hk,h.more om,_,hR,hC.prog,hC.aP⟩
 intro gu w4 e4 hI
 obtain⟨hk,h,bs,hR,A3,Ew⟩:=hI
 refine aQ<|zr<|zm<|aC (mF 2 de de br (q+12001) om w4 h) ?_
 rintro v9 w5 ⟨⟨z5,e9,jo⟩,h,aG⟩
 subst e9
 have hk:=hk.trans aG
 have hR:=cD.aL hR aG sm
 refine dO rfl rfl rfl<|ag<|zc rfl (λh4=>?_) (λh4=>?_)
 refine zr<|zm<|zA<|ag<|aV ?_
 exact⟨_,rfl,⟨bs,Wf A3 Ew,hR⟩,h.more om,hk⟩
 have hRn:=cD.none hR
 refine bz<|zr<|zm<|zm<|aC (ajP bs A3 br (q+12002) om _ w5 h hRn) ?_
 rintro v9 w6 ⟨⟨cs,hRc,hH⟩,h,aG⟩
 have hk:=hk.trans aG
 refine zA<|ag<|aV ?_
 exact⟨_,rfl,⟨cs,(Wf A3 Ew).aj3 hH,hRc⟩,h.more om,hk⟩
def O8:List aj:=[[109,97,105,110],[98,48],[98,49],[101,110,100],[120]]
theorem aj9 (bs:List UInt8) (hb:bs.length<=1000000000) (v:Value) (w:World) (hv:cD [] w v (.sl 1 (rC bs))):
  cj Tryz.prog 7 [v] w λr w'=>(∃vp l ps,r= .tuple #[vp,str l]∧A4 ps∧km [] w' vp ps∧l.length<=100)∧ak [] w w':=by
 have hK:=ak.refl [] w
 refine cV [.tmp 2,.tmp 3] 12 Tryz.func7 rfl Zn rfl rfl ?_
 refine zr<|zA<|zA<|ag<|zr<|zm<|aC (aiR bs hb _ w hv) ?_
 rintro v1 w1 ⟨fM,aK⟩
 have dQ:=aK.size
 have hK:=hK.ext aK
 obtain⟨br,e9,LK,h⟩:=fM
 subst e9
 refine zA<|ag<|zr<|zm<|aC (aj4 br 0 de w1 h) ?_
 rintro v9 w2 ⟨⟨ps,hP,hR⟩,h,aG⟩
 have hK:=hK.since aG (λx hx=>.inr (by simp at hx;omega))
 have oq:=h.lt
 have cJ:=Bu hR
 obtain⟨pa,pn,pc,e9,_⟩:=cJ
 subst e9
 refine zm<|LZ bh bA rfl rfl rfl rfl rfl rfl rfl ?_
 intro w3 aJ ox iH
 have hK:=hK.ext aJ;have h:=h.ext aJ;have hR:=hR.ext aJ
 refine aC (ml O8 de de br _ de _ w3 h (aY.eD O8 ox (λhx=>by simp at hx;omega) de)) ?_
 rintro lx w4 ⟨⟨lb,hi,ic⟩,h,aG⟩
 subst ic
 have hK:=hK.since aG (λx hx=>.inr (by simp at hx;omega))
 have hR:=cD.aL hR aG sm
 have Cv:=(show∀x,x∈O8->x.length<=30 from by decide) _ hi
 refine zA<|zA<|ag<|aV ?_
 exact⟨_,rfl,⟨_,lb,ps,rfl,hP,cD.none hR,om⟩,hK⟩
end Go.Proofs.YtigijcjccmdmhaaGreatDoor
namespace Go.Proofs
open Go.Shelf
def Tryz.aka:Go.Shelf.Ren:=⟨fun|170=>164|n=>n,fun|70=>92|3=>3|0=>0|72=>94|37=>22|5=>5|n=>n,fun|n=>n⟩
theorem Tryz.akb:Go.Proofs.Lays.n170 Tryz.prog Tryz.aka:={
 mixed:=by kernel_rfl
 f170:=Tryz.func164.trans (congrArg some (by kernel_rfl))
 t0:=Tryz.underlying0
 a0:=Tryz.isAgg0
 z0:=Tryz.sizeOf0
 v0:=Tryz.zeroValue0
 t3:=Tryz.underlying3
 a3:=Tryz.isAgg3
 z3:=Tryz.sizeOf3
 v3:=Tryz.zeroValue3
 t37:=Tryz.underlying22
 a37:=Tryz.isAgg22
 z37:=Tryz.sizeOf22
 v37:=Tryz.zeroValue22
 t70:=Tryz.underlying92
 a70:=Tryz.isAgg92
 z70:=Tryz.sizeOf92
 v70:=Tryz.zeroValue92
 t72:=Tryz.underlying94
 a72:=Tryz.isAgg94
 z72:=Tryz.sizeOf94
 v72:=Tryz.zeroValue94}
def Tryz.Wg:Go.Shelf.Ren:=⟨fun|169=>74|n=>n,fun|70=>92|9=>9|0=>0|72=>94|37=>22|127=>120|3=>3|5=>5|n=>n,fun|n=>n⟩
theorem Tryz.akc:Go.Proofs.Lays.n169 Tryz.prog Tryz.Wg:={
 mixed:=by kernel_rfl
 f169:=Tryz.func74.trans (congrArg some (by kernel_rfl))
 t0:=Tryz.underlying0
 a0:=Tryz.isAgg0
 z0:=Tryz.sizeOf0
 v0:=Tryz.zeroValue0
 t3:=Tryz.underlying3
 a3:=Tryz.isAgg3
 z3:=Tryz.sizeOf3
 v3:=Tryz.zeroValue3
 t9:=Tryz.underlying9
 a9:=Tryz.isAgg9
 z9:=Tryz.sizeOf9
 v9:=Tryz.zeroValue9
 t37:=Tryz.underlying22
 a37:=Tryz.isAgg22
 z37:=Tryz.sizeOf22
 v37:=Tryz.zeroValue22
 t70:=Tryz.underlying92
 a70:=Tryz.isAgg92
 z70:=Tryz.sizeOf92
 v70:=Tryz.zeroValue92
 t72:=Tryz.underlying94
 a72:=Tryz.isAgg94
 z72:=Tryz.sizeOf94
 v72:=Tryz.zeroValue94
 t127:=Tryz.underlying120
 a127:=Tryz.isAgg120
 z127:=Tryz.sizeOf120
 v127:=Tryz.zeroValue120}
theorem Tryz.akd:Builder.Extra Tryz.prog Tryz.Wg:={
 sizeBuilder:=by kernel_rfl
 liesBuilder:=by kernel_rfl
 t5:=Tryz.underlying5
 a5:=Tryz.isAgg5
 z5:=Tryz.sizeOf5
 v5:=Tryz.zeroValue5
 infoByte:=by kernel_rfl
 cellsByte:=by kernel_rfl
 sizeByte:=by kernel_rfl
 neB5:=by decide}
def Tryz.Wh:Go.Shelf.Ren:=⟨fun|165=>163|240=>132|241=>193|276=>168|277=>207|n=>n,fun|70=>92|3=>3|0=>0|4=>4|9=>9|20=>20|72=>94|37=>22|164=>175|5=>5|n=>n,fun|n=>n⟩
theorem Tryz.ake:Go.Proofs.Lays.n165 Tryz.prog Tryz.Wh:={
 mixed:=by kernel_rfl
 f165:=Tryz.func163.trans (congrArg some (by kernel_rfl))
 f240:=Tryz.func132.trans (congrArg some (by kernel_rfl))
 f241:=Tryz.func193.trans (congrArg some (by kernel_rfl))
 f276:=Tryz.func168.trans (congrArg some (by kernel_rfl))
 f277:=Tryz.func207.trans (congrArg some (by kernel_rfl))
 t0:=Tryz.underlying0
 a0:=Tryz.isAgg0
 z0:=Tryz.sizeOf0
 v0:=Tryz.zeroValue0
 t3:=Tryz.underlying3
 a3:=Tryz.isAgg3
 z3:=Tryz.sizeOf3
 v3:=Tryz.zeroValue3
 t4:=Tryz.underlying4
 a4:=Tryz.isAgg4
 z4:=Tryz.sizeOf4
 v4:=Tryz.zeroValue4
 t9:=Tryz.underlying9
 a9:=Tryz.isAgg9
 z9:=Tryz.sizeOf9
 v9:=Tryz.zeroValue9
 t20:=Tryz.underlying20
 a20:=Tryz.isAgg20
 z20:=Tryz.sizeOf20
 v20:=Tryz.zeroValue20
 t37:=Tryz.underlying22
 a37:=Tryz.isAgg22
 z37:=Tryz.sizeOf22
 v37:=Tryz.zeroValue22
 t70:=Tryz.underlying92
 a70:=Tryz.isAgg92
 z70:=Tryz.sizeOf92
 v70:=Tryz.zeroValue92
 t72:=Tryz.underlying94
 a72:=Tryz.isAgg94
 z72:=Tryz.sizeOf94
 v72:=Tryz.zeroValue94
 t164:=Tryz.underlying175
 a164:=Tryz.isAgg175
 z164:=Tryz.sizeOf175
 v164:=Tryz.zeroValue175}
theorem Tryz.akf:Builder.Extra Tryz.prog Tryz.Wh:={
 sizeBuilder:=by kernel_rfl
 liesBuilder:=by kernel_rfl
 t5:=Tryz.underlying5
 a5:=Tryz.isAgg5
 z5:=Tryz.sizeOf5
 v5:=Tryz.zeroValue5
 infoByte:=by kernel_rfl
 cellsByte:=by kernel_rfl
 sizeByte:=by kernel_rfl
 neB5:=by decide}
open Go.RowKit in
theorem Tryz.Builder_Grow_fresh (B b n:Nat) (w:World) (hB:B<=b) (fx:w.heap[b]?=some (.cells #[.pointer none,.slice none 0 0] 94 (0,0))) (CT:B<=w.heap.size) (hn:n<=281474976710656):
  Calls Tryz.prog 163 #[.pointer (some ⟨b,0,none⟩),.int .i64 n] w λe w'=>e= .returned (.tuple #[])∧(Lib.BuilderAt 94 5 B b (.pointer (some ⟨b,0,none⟩)) [] w'∧Below B w w'):=Any.Builder_Grow_fresh Tryz.ake Tryz.akf B b n w hB fx CT hn
def Tryz.aoQ:Go.Shelf.Ren:=⟨fun|210=>190|206=>131|n=>n,fun|9=>9|4=>4|3=>3|n=>n,fun|n=>n⟩
open Go.RowKit in
theorem Tryz.Builder_Len_f (B b:Nat) (bs:List Value) (w:World) (h:Lib.IsBuilderF 94 5 B b bs w):
  Calls Tryz.prog 164 #[.pointer (some ⟨b,0,none⟩)] w λe w'=>e= .returned (.int .i64 bs.length)∧w'=w:=Any.Builder_Len_f Tryz.akb B b bs w h
open Go.RowKit in
theorem Tryz.Builder_String_f (B b:Nat) (l:List UInt8) (w:World) (h:Lib.IsBuilderF 94 5 B b (Lib.byteCells l) w) (h0:l≠[]):
  Calls Tryz.prog 74 #[.pointer (some ⟨b,0,none⟩)] w λe w'=>e= .returned (.string ⟨l.toArray⟩)∧(Lib.IsBuilderF 94 5 B b (Lib.byteCells l) w'∧Below B w w'):=Any.Builder_String_f Tryz.akc Tryz.akd B b l w h h0
def Tryz.akg:Go.Shelf.Ren:=⟨fun|172=>130|244=>166|245=>167|247=>194|279=>195|280=>196|281=>197|282=>198|287=>208|316=>209|171=>173|205=>210|321=>213|322=>214|243=>200|246=>211|283=>215|284=>216|285=>217|286=>218|129=>220|317=>219|318=>221|319=>222|320=>223|337=>224|338=>225|n=>n,fun|9=>9|3=>3|75=>116|76=>117|4=>4|5=>5|167=>202|37=>22|0=>0|85=>203|2=>2|168=>205|53=>199|175=>216|46=>170|210=>219|127=>120|145=>226|143=>224|21=>21|171=>227|173=>230|212=>233|51=>196|20=>20|213=>234|232=>237|233=>238|80=>61|n=>n,fun|15=>0|16=>1|17=>3|18=>4|19=>5|n=>n⟩
theorem Tryz.akh:Go.Proofs.Lays.n172 Tryz.prog Tryz.akg:={
 mixed:=by kernel_rfl
 f129:=Tryz.func220.trans (congrArg some (by kernel_rfl))
 f171:=Tryz.func173.trans (congrArg some (by kernel_rfl))
 f172:=Tryz.func130.trans (congrArg some (by kernel_rfl))
 f205:=Tryz.func210.trans (congrArg some (by kernel_rfl))
 f243:=Tryz.func200.trans (congrArg some (by kernel_rfl))
 f244:=Tryz.func166.trans (congrArg some (by kernel_rfl))
 f245:=Tryz.func167.trans (congrArg some (by kernel_rfl))
 f246:=Tryz.func211.trans (congrArg some (by kernel_rfl))
 f247:=Tryz.func194.trans (congrArg some (by kernel_rfl))
 f279:=Tryz.func195.trans (congrArg some (by kernel_rfl))
 f280:=Tryz.func196.trans (congrArg some (by kernel_rfl))
 f281:=Tryz.func197.trans (congrArg some (by kernel_rfl))
 f282:=Tryz.func198.trans (congrArg some (by kernel_rfl))
 f283:=Tryz.func215.trans (congrArg some (by kernel_rfl))
 f284:=Tryz.func216.trans (congrArg some (by kernel_rfl))
 f285:=Tryz.func217.trans (congrArg some (by kernel_rfl))
 f286:=Tryz.func218.trans (congrArg some (by kernel_rfl))
 f287:=Tryz.func208.trans (congrArg some (by kernel_rfl))
 f316:=Tryz.func209.trans (congrArg some (by kernel_rfl))
 f317:=Tryz.func219.trans (congrArg some (by kernel_rfl))
 f318:=Tryz.func221.trans (congrArg some (by kernel_rfl))
 f319:=Tryz.func222.trans (congrArg some (by kernel_rfl))
 f320:=Tryz.func223.trans (congrArg some (by kernel_rfl))
 f321:=Tryz.func213.trans (congrArg some (by kernel_rfl))
 f322:=Tryz.func214.trans (congrArg some (by kernel_rfl))
 f337:=Tryz.func224.trans (congrArg some (by kernel_rfl))
 f338:=Tryz.func225.trans (congrArg some (by kernel_rfl))
 t0:=Tryz.underlying0
 a0:=Tryz.isAgg0
 z0:=Tryz.sizeOf0
 v0:=Tryz.zeroValue0
 t2:=Tryz.underlying2
 a2:=Tryz.isAgg2
 z2:=Tryz.sizeOf2
 v2:=Tryz.zeroValue2
 t3:=Tryz.underlying3
 a3:=Tryz.isAgg3
 z3:=Tryz.sizeOf3
 v3:=Tryz.zeroValue3
 t4:=Tryz.underlying4
 a4:=Tryz.isAgg4
 z4:=Tryz.sizeOf4
 v4:=Tryz.zeroValue4
 t5:=Tryz.underlying5
 a5:=Tryz.isAgg5
 z5:=Tryz.sizeOf5
 v5:=Tryz.zeroValue5
 t9:=Tryz.underlying9
 a9:=Tryz.isAgg9
 z9:=Tryz.sizeOf9
 v9:=Tryz.zeroValue9
 t20:=Tryz.underlying20
 a20:=Tryz.isAgg20
 z20:=Tryz.sizeOf20
 v20:=Tryz.zeroValue20
 t21:=Tryz.underlying21
 a21:=Tryz.isAgg21
 z21:=Tryz.sizeOf21
 v21:=Tryz.zeroValue21
 t37:=Tryz.underlying22
 a37:=Tryz.isAgg22
 z37:=Tryz.sizeOf22
 v37:=Tryz.zeroValue22
 t46:=Tryz.underlying170
 a46:=Tryz.isAgg170
 z46:=Tryz.sizeOf170
 v46:=Tryz.zeroValue170
 t51:=Tryz.underlying196
 a51:=Tryz.isAgg196
 z51:=Tryz.sizeOf196
 v51:=Tryz.zeroValue196
 t53:=Tryz.underlying199
 a53:=Tryz.isAgg199
 z53:=Tryz.sizeOf199
 v53:=Tryz.zeroValue199
 t75:=Tryz.underlying116
 a75:=Tryz.isAgg116
 z75:=Tryz.sizeOf116
 v75:=Tryz.zeroValue116
 t76:=Tryz.underlying117
 a76:=Tryz.isAgg117
 z76:=Tryz.sizeOf117
 v76:=Tryz.zeroValue117
 t85:=Tryz.underlying203
 a85:=Tryz.isAgg203
 z85:=Tryz.sizeOf203
 v85:=Tryz.zeroValue203
 t127:=Tryz.underlying120
 a127:=Tryz.isAgg120
 z127:=Tryz.sizeOf120
 v127:=Tryz.zeroValue120
 t143:=Tryz.underlying224
 a143:=Tryz.isAgg224
 z143:=Tryz.sizeOf224
 v143:=Tryz.zeroValue224
 t145:=Tryz.underlying226
 a145:=Tryz.isAgg226
 z145:=Tryz.sizeOf226
 v145:=Tryz.zeroValue226
 t167:=Tryz.underlying202
 a167:=Tryz.isAgg202
 z167:=Tryz.sizeOf202
 v167:=Tryz.zeroValue202
 t168:=Tryz.underlying205
 a168:=Tryz.isAgg205
 z168:=Tryz.sizeOf205
 v168:=Tryz.zeroValue205
 t171:=Tryz.underlying227
 a171:=Tryz.isAgg227
 z171:=Tryz.sizeOf227
 v171:=Tryz.zeroValue227
 t173:=Tryz.underlying230
 a173:=Tryz.isAgg230
 z173:=Tryz.sizeOf230
 v173:=Tryz.zeroValue230
 t175:=Tryz.underlying216
 a175:=Tryz.isAgg216
 z175:=Tryz.sizeOf216
 v175:=Tryz.zeroValue216
 t210:=Tryz.underlying219
 a210:=Tryz.isAgg219
 z210:=Tryz.sizeOf219
 v210:=Tryz.zeroValue219
 t212:=Tryz.underlying233
 a212:=Tryz.isAgg233
 z212:=Tryz.sizeOf233
 v212:=Tryz.zeroValue233
 t213:=Tryz.underlying234
 a213:=Tryz.isAgg234
 z213:=Tryz.sizeOf234
 t232:=Tryz.underlying237
 a232:=Tryz.isAgg237
 z232:=Tryz.sizeOf237
 v232:=Tryz.zeroValue237
 t233:=Tryz.underlying238
 a233:=Tryz.isAgg238
 z233:=Tryz.sizeOf238
 v233:=Tryz.zeroValue238
 g15:=by kernel_rfl
 g16:=by kernel_rfl
 g17:=by kernel_rfl
 g18:=by kernel_rfl
 g19:=by kernel_rfl}
open Go.RowKit in
theorem Tryz.strconv_Atoi (s:ByteArray) (n:Int) (hl:s.size<=18) (h:Lib.atoi s.data.toList=some n) (w:World):
  Calls Tryz.prog 130 #[.string s] w λe w'=>e= .returned (.tuple #[.int .i64 n,.nilIface])∧∃t,w'=Lib.bytesWorld w 5 t:=Any.strconv_Atoi Tryz.akh s n hl h w
def Tryz.aki:Go.Shelf.Ren:=⟨fun|99=>98|206=>131|n=>n,fun|9=>9|4=>4|3=>3|n=>n,fun|n=>n⟩
theorem Tryz.akj:Go.Proofs.Lays.n99 Tryz.prog Tryz.aki:={
 mixed:=by kernel_rfl
 f99:=Tryz.func98.trans (congrArg some (by kernel_rfl))
 f206:=Tryz.func131.trans (congrArg some (by kernel_rfl))
 t3:=Tryz.underlying3
 a3:=Tryz.isAgg3
 z3:=Tryz.sizeOf3
 v3:=Tryz.zeroValue3
 t4:=Tryz.underlying4
 a4:=Tryz.isAgg4
 z4:=Tryz.sizeOf4
 v4:=Tryz.zeroValue4
 t9:=Tryz.underlying9
 a9:=Tryz.isAgg9
 z9:=Tryz.sizeOf9
 v9:=Tryz.zeroValue9}
open Go.RowKit Go.Lib in
theorem Tryz.strings_HasPrefix (s p:ByteArray) (w:World):
  Calls Tryz.prog 98 #[.string s,.string p] w λe w'=>e= .returned (.bool (Lib.hasPrefix s.data.toList p.data.toList))∧w'=w:=Any.strings_HasPrefix Tryz.akj s p w
def Tryz.akk:Go.Shelf.Ren:=⟨fun|101=>128|208=>165|206=>131|n=>n,fun|9=>9|4=>4|3=>3|n=>n,fun|n=>n⟩
theorem Tryz.akl:Go.Proofs.Lays.n101 Tryz.prog Tryz.akk:={
 mixed:=by kernel_rfl
 f101:=Tryz.func128.trans (congrArg some (by kernel_rfl))
 f206:=Tryz.func131.trans (congrArg some (by kernel_rfl))
 f208:=Tryz.func165.trans (congrArg some (by kernel_rfl))
 t3:=Tryz.underlying3
 a3:=Tryz.isAgg3
 z3:=Tryz.sizeOf3
 v3:=Tryz.zeroValue3
 t4:=Tryz.underlying4
 a4:=Tryz.isAgg4
 z4:=Tryz.sizeOf4
 v4:=Tryz.zeroValue4
 t9:=Tryz.underlying9
 a9:=Tryz.isAgg9
 z9:=Tryz.sizeOf9
 v9:=Tryz.zeroValue9}
open Go.RowKit Go.Lib in
theorem Tryz.strings_TrimPrefix (s p:ByteArray) (w:World):
  Calls Tryz.prog 128 #[.string s,.string p] w λe w'=>e= .returned (.string ⟨(Lib.trimPrefix s.data.toList p.data.toList).toArray⟩)∧w'=w:=Any.strings_TrimPrefix Tryz.akl s p w
def Tryz.akm:Go.Shelf.Ren:=⟨fun|212=>162|263=>191|264=>192|n=>n,fun|46=>170|51=>196|146=>197|53=>199|148=>200|n=>n,fun|n=>n⟩
theorem Tryz.akn:Go.Proofs.Lays.n212 Tryz.prog Tryz.akm:={
 mixed:=by kernel_rfl
 f212:=Tryz.func162.trans (congrArg some (by kernel_rfl))
 f263:=Tryz.func191.trans (congrArg some (by kernel_rfl))
 f264:=Tryz.func192.trans (congrArg some (by kernel_rfl))
 t46:=Tryz.underlying170
 a46:=Tryz.isAgg170
 z46:=Tryz.sizeOf170
 v46:=Tryz.zeroValue170
 t51:=Tryz.underlying196
 a51:=Tryz.isAgg196
 z51:=Tryz.sizeOf196
 v51:=Tryz.zeroValue196
 t53:=Tryz.underlying199
 a53:=Tryz.isAgg199
 z53:=Tryz.sizeOf199
 v53:=Tryz.zeroValue199
 t146:=Tryz.underlying197
 a146:=Tryz.isAgg197
 z146:=Tryz.sizeOf197
 v146:=Tryz.zeroValue197
 t148:=Tryz.underlying200
 a148:=Tryz.isAgg200
 z148:=Tryz.sizeOf200
 v148:=Tryz.zeroValue200}
open Go.RowKit Go.Lib in
theorem Tryz.bits_Mul (x y:Nat) (hx:x<18446744073709551616) (hy:y<18446744073709551616) (w:World):
  Calls Tryz.prog 162 #[.int .u64 x,.int .u64 y] w λe w'=>e= .returned (.tuple #[.int .u64 ((x*y/18446744073709551616:Nat):Int),.int .u64 ((x*y%18446744073709551616:Nat):Int)])∧w'=w:=Any.bits_Mul Tryz.akn x y hx hy w
def Tryz.Wi:Go.Shelf.Ren:=⟨fun|166=>101|240=>132|276=>168|n=>n,fun|70=>92|3=>3|0=>0|4=>4|9=>9|20=>20|72=>94|37=>22|164=>175|5=>5|75=>116|80=>61|n=>n,fun|n=>n⟩
theorem Tryz.ako:Go.Proofs.Lays.n166 Tryz.prog Tryz.Wi:={
 mixed:=by kernel_rfl
 f166:=Tryz.func101.trans (congrArg some (by kernel_rfl))
 f240:=Tryz.func132.trans (congrArg some (by kernel_rfl))
 f276:=Tryz.func168.trans (congrArg some (by kernel_rfl))
 t0:=Tryz.underlying0
 a0:=Tryz.isAgg0
 z0:=Tryz.sizeOf0
 v0:=Tryz.zeroValue0
 t3:=Tryz.underlying3
 a3:=Tryz.isAgg3
 z3:=Tryz.sizeOf3
 v3:=Tryz.zeroValue3
 t4:=Tryz.underlying4
 a4:=Tryz.isAgg4
 z4:=Tryz.sizeOf4
 v4:=Tryz.zeroValue4
 t9:=Tryz.underlying9
 a9:=Tryz.isAgg9
 z9:=Tryz.sizeOf9
 v9:=Tryz.zeroValue9
 t20:=Tryz.underlying20
 a20:=Tryz.isAgg20
 z20:=Tryz.sizeOf20
 v20:=Tryz.zeroValue20
 t37:=Tryz.underlying22
 a37:=Tryz.isAgg22
 z37:=Tryz.sizeOf22
 v37:=Tryz.zeroValue22
 t70:=Tryz.underlying92
 a70:=Tryz.isAgg92
 z70:=Tryz.sizeOf92
 v70:=Tryz.zeroValue92
 t72:=Tryz.underlying94
 a72:=Tryz.isAgg94
 z72:=Tryz.sizeOf94
 v72:=Tryz.zeroValue94
 t164:=Tryz.underlying175
 a164:=Tryz.isAgg175
 z164:=Tryz.sizeOf175
 v164:=Tryz.zeroValue175
 t75:=Tryz.underlying116
 a75:=Tryz.isAgg116
 z75:=Tryz.sizeOf116
 v75:=Tryz.zeroValue116}
theorem Tryz.akp:Builder.Extra Tryz.prog Tryz.Wi:={
 sizeBuilder:=by kernel_rfl
 liesBuilder:=by kernel_rfl
 t5:=Tryz.underlying5
 a5:=Tryz.isAgg5
 z5:=Tryz.sizeOf5
 v5:=Tryz.zeroValue5
 infoByte:=by kernel_rfl
 cellsByte:=by kernel_rfl
 sizeByte:=by kernel_rfl
 neB5:=by decide}
open Go.RowKit in
theorem Tryz.Builder_WriteString_f (B b:Nat) (bs:List Value) (s:ByteArray) (w:World) (h:Lib.IsBuilderF 94 5 B b bs w) (hlen:bs.length+s.size<=140737488355328) (CT:B<=w.heap.size):
  Calls Tryz.prog 101 #[.pointer (some ⟨b,0,none⟩),.string s] w λe w'=>e= .returned (.tuple #[.int .i64 s.size,.nilIface])∧(Lib.BuilderAtF 94 5 B b (.pointer (some ⟨b,0,none⟩)) (bs++Lib.strCells s) w'∧Below B w w'):=Any.Builder_WriteString_f Tryz.ako Tryz.akp B b bs s w h hlen CT
end Go.Proofs
namespace Go.Proofs.YtigijcjccmdmhaaGreatDoor
open Go
variable {w w':World} {b b6 b7 i q q':Nat} {v v1 v2:Value} {bs:List Bk} {g1 g2:Option Nat} {xs ys:List aj} {L:List Nat}
theorem akq (s p:aj) (w:World):cj Tryz.prog 98 [str s,str p] w λv w'=>v= .bool (Lib.hasPrefix s p)∧w=w':=
 ⟨tf.mk' Tryz.func98 rfl ZL,Calls.mono (Tryz.strings_HasPrefix ⟨s.toArray⟩ ⟨p.toArray⟩ w) λe w' ⟨he,hw⟩=>⟨_,he,sm,hw.symm⟩⟩
theorem akr (s p:aj) (w:World):cj Tryz.prog 128 [str s,str p] w λv w'=>v=str (Lib.trimPrefix s p)∧w=w':=
 ⟨tf.mk' Tryz.func128 rfl XZ,Calls.mono (Tryz.strings_TrimPrefix ⟨s.toArray⟩ ⟨p.toArray⟩ w) λe w' ⟨he,hw⟩=>⟨_,he,by simp[str],hw.symm⟩⟩
theorem aks (w:World) (o:Obj) (a:Addr) (n:Nat) (ha:a.block=w.heap.size):ak [] w ((w.alloc o).freeze a n):=by
 unfold World.freeze
 split
 ·exact ak.alloc [] w o
 ·refine⟨rfl,rfl,rfl,?_,λk hk _=>?_⟩
  ·show w.heap.size<=Array.size (Array.modify (w.alloc o).heap _ _)
   rw[Array.size_modify];exact(ak.alloc [] w o).size
  ·show(Array.modify (w.alloc o).heap _ _)[k]?=_
   rw[Array.getElem?_modify,iN (by rw[ha];omega)];exact(ak.alloc [] w o).block k hk sm
theorem akt (w:World) (e:TypeId) (s:ByteArray):ak [] w (Lib.bytesWorld w e s):=
 (ak.drew [] w).trans (aks _ _ _ _ rfl)
theorem aku (s:aj) {z:Int} (h:numeral s=some z) (w:World):cj Tryz.prog 130 [str s] w λv w'=>v= .tuple #[.int .i64 z,.nilIface]∧ak [] w w':=
 ⟨tf.mk' Tryz.func130 rfl X4,Calls.mono (Tryz.strconv_Atoi ⟨s.toArray⟩ z (by have:=QG h;simp[ByteArray.size];omega) (by simpa using aaD h) w) λe w' ⟨he,t,hw⟩=>⟨_,he,rfl,by rw[hw];exact akt _ _ _⟩⟩
theorem J2 (a b c:Int) (w:World):cj Tryz.prog 52 [.int .i64 a,.int .i64 b,.int .i64 c] w λv w'=>v= .bool (decide (b<=a)&&decide (a<=c))∧w=w':=by
 refine cV [.tmp 6] 15 Tryz.func52 rfl Za rfl rfl ?_
 refine zr<|zA<|ag<|zr<|zm<|zm<|qK rfl rfl rfl rfl rfl<|zm ?_
 apply fX 4 10 14 [10,11,12,13,14] (λw'=>w=w') rfl
 intro h1
 replace h1:=bw h1
 refine zm<|zm<|qK rfl rfl rfl rfl rfl<|zp rfl<|ag ?_
 exact mg rfl rfl
 intro h1
 replace h1:=bw h1
 refine zs<|zs<|zs<|zp rfl<|ag ?_
 exact mg rfl rfl
 rintro xx _ rfl
 refine zA<|ag<|aV ?_
 exact⟨_,rfl,rfl,rfl⟩
theorem akv (c:UInt8) (w:World):cj Tryz.prog 99 [.int .u8 c.toNat] w λv w'=>v= .bool (fA c)∧w=w':=by
 refine cV [.tmp 2] 33 Tryz.func99 rfl ZM rfl rfl ?_
 refine zr<|zA<|ag<|zr<|zm<|lX rfl rfl rfl rfl rfl<|zm ?_
 apply fX 3 5 8 [5,6,7,8] (λw'=>w=w') rfl
 intro h1
 replace h1:=bw h1
 refine zm<|qK rfl rfl rfl rfl rfl<|zp rfl<|ag ?_
 exact mg rfl rfl
 intro h1
 replace h1:=bw h1
 refine zs<|zs<|zp rfl<|ag ?_
 exact mg rfl rfl
 rintro xx _ rfl
 refine zm ?_
 apply fz 7 9 16 [9,10,11,12,13,14,15,16] (λw'=>w=w') rfl
 intro h2
 replace h2:=bw h2
 refine zs<|zs<|zs<|zs<|zs<|zs<|zp rfl<|ag ?_
 exact mg rfl rfl
 intro h2
 replace h2:=bw h2
 refine zm<|lX rfl rfl rfl rfl rfl<|zm ?_
 apply fX 3 12 15 [12,13,14,15] (λw'=>w=w') rfl
 intro h3
 replace h3:=bw h3
 refine zm<|qK rfl rfl rfl rfl rfl<|zp rfl<|ag ?_
 exact mg rfl rfl
 intro h3
 replace h3:=bw h3
 refine zs<|zs<|zp rfl<|ag ?_
 exact mg rfl rfl
 rintro xx _ rfl
 refine zp rfl<|ag ?_
 exact mg rfl rfl
 rintro xx _ rfl
 refine zm ?_
 apply fz 3 17 20 [17,18,19,20] (λw'=>w=w') rfl
 intro h4
 replace h4:=bw h4
 refine zs<|zs<|zp rfl<|ag ?_
 exact mg rfl rfl
 intro h4
 replace h4:=bw h4
 refine zm<|dO rfl rfl rfl<|zp rfl<|ag ?_
 exact mg rfl rfl
 rintro xx _ rfl
 refine zm ?_
 apply fz 3 21 24 [21,22,23,24] (λw'=>w=w') rfl
 intro h5
 replace h5:=bw h5
 refine zs<|zs<|zp rfl<|ag ?_
 exact mg rfl rfl
 intro h5
 replace h5:=bw h5
 refine zm<|dO rfl rfl rfl<|zp rfl<|ag ?_
 exact mg rfl rfl
 rintro xx _ rfl
 refine zm ?_
 apply fz 3 25 28 [25,26,27,28] (λw'=>w=w') rfl
 intro h6
 replace h6:=bw h6
 refine zs<|zs<|zp rfl<|ag ?_
 exact mg rfl rfl
 intro h6
 replace h6:=bw h6
 refine zm<|dO rfl rfl rfl<|zp rfl<|ag ?_
 exact mg rfl rfl
 rintro xx _ rfl
 refine zm ?_
 apply fz 3 29 32 [29,30,31,32] (λw'=>w=w') rfl
 intro h7
 replace h7:=bw h7
 refine zs<|zs<|zp rfl<|ag ?_
 exact mg rfl rfl
 intro h7
 replace h7:=bw h7
 refine zm<|dO rfl rfl rfl<|zp rfl<|ag ?_
 exact mg rfl rfl
 rintro xx _ rfl
 refine zA<|ag<|aV ?_
 exact⟨_,rfl,congrArg Value.bool (Pv c),rfl⟩
theorem akw (s:aj) (hs:s.length<9223372036854775807) (w:World):cj Tryz.prog 129 [str s] w λv w'=>v= .bool (s.all ij)∧w=w':=by
 refine cV [.tmp 2] 20 Tryz.func129 rfl X0 rfl rfl ?_
 refine zr<|zA<|ag<|aQ<|zr<|zm<|kL fc rfl rfl rfl<|zm<|ag<|cQ ?_
 refine fW (λk:Nat=>[(0,str s),(5,.int .i64 (s.length:Int)),(6,.int .i64 (k:Int))]) (λk w'=>w'=w∧k<=s.length∧(s.take k).all ij=true) (λk=>s.length-k) (0) (⟨rfl,rfl,rfl⟩) (⟨rfl,om,sm⟩) ?_
 intro gg w1 e1 hI
 obtain⟨rfl,hk,dy⟩:=hI
 refine zr<|fy rfl rfl rfl<|ag<|aQ<|zc rfl (λh1=>?_) (λh1=>?_)
 have eU:gg<s.length:=by omega
 refine bz<|aQ<|cQ<|zr<|zm<|zA<|ag<|zr<|zm<|zm<|kC fc rfl rfl rfl rfl (jI eU)<|fy rfl rfl rfl<|zm ?_
 apply fz 5 13 18 [13,14,15,16,17,18] (λw'=>w1=w') rfl
 intro h2
 replace h2:=bw h2
 refine zs<|zs<|zs<|zs<|zp rfl<|ag ?_
 exact mg rfl rfl
 intro h2
 replace h2:=bw h2
 refine zm<|zm<|kC fc rfl rfl rfl rfl (jI eU)<|jx rfl rfl rfl rfl rfl<|zp rfl<|ag ?_
 exact mg rfl rfl
 rintro xx _ rfl
 refine ag<|zc rfl (λh3=>?_) (λh3=>?_)
 have hq:s.all ij=false:=aaG eU (P3 h3)
 refine zr<|zA<|ag<|aV ?_
 exact⟨_,rfl,by rw[hq];rfl,rfl⟩
 have hc:=P4 h3
 refine bz<|db<|eF rfl rfl rfl (wrap_i64 _ om om)<|zm<|ag ?_
 exact⟨gg+1,⟨rfl,rfl,rfl⟩,⟨rfl,om,by rw[KN eU,List.all_append,dy];simp only[List.all_cons,hc.2.2];rfl⟩,om⟩
 have hq:s.all ij=true:=by rw[List.take_of_length_le om] at dy;exact dy
 refine gB<|gC rfl<|zr<|zA<|ag<|aV ?_
 exact⟨_,rfl,by rw[hq];rfl,rfl⟩
theorem O9 (s:aj) (hs:s.length<9223372036854775807) (w:World):cj Tryz.prog 94 [str s] w λv w'=>v= .bool (numeral s).isSome∧w=w':=by
 have hl:(ew s).length<=s.length:=by unfold ew;split<;>simp
 refine cV [.tmp 2] 22 Tryz.func94 rfl ZI rfl rfl ?_
 refine zr<|zA<|ag<|zr<|zm<|aC (akr _ _ _) ?_
 rintro _ _ ⟨rfl,rfl⟩
 refine zA<|ag<|zr<|zm<|cW rfl rfl<|zm ?_
 rw[aaB]
 apply fz 13 8 21 [8,9,10,11,12,13,14,15,16,17,18,19,20,21] (λw'=>w=w') rfl
 intro h1
 replace h1:=bw h1
 refine zs<|zs<|zs<|zs<|zs<|zs<|zs<|zs<|zs<|zs<|zs<|zs<|zp rfl<|ag ?_
 exact mg rfl rfl
 intro h1
 replace h1:=bw h1
 refine zm<|kL fc rfl rfl rfl<|aC (J2 _ _ _ _) ?_
 rintro _ _ ⟨rfl,rfl⟩
 refine zm ?_
 apply fX 3 12 15 [12,13,14,15] (λw'=>w=w') rfl
 intro h2
 replace h2:=bw h2
 refine zm<|aC (akw _ om _) ?_
 rintro _ _ ⟨rfl,rfl⟩
 refine zp rfl<|ag ?_
 exact mg rfl rfl
 intro h2
 replace h2:=bw h2
 refine zs<|zs<|zp rfl<|ag ?_
 exact mg rfl rfl
 rintro xx _ rfl
 refine zm ?_
 apply fX 4 16 20 [16,17,18,19,20] (λw'=>w=w') rfl
 intro h3
 replace h3:=bw h3
 simp at h3
 refine zm<|kC (i:=0) fc rfl rfl rfl rfl (jI om)<|uq rfl rfl rfl rfl rfl<|zp rfl<|ag ?_
 exact mg rfl rfl
 intro h3
 replace h3:=bw h3
 refine zs<|zs<|zs<|zp rfl<|ag ?_
 exact mg rfl rfl
 rintro xx _ rfl
 refine zp rfl<|ag ?_
 exact mg rfl rfl
 rintro xx _ rfl
 refine zA<|ag<|aV ?_
 exact⟨_,rfl,show Value.bool _=Value.bool _ from congrArg _ (aaH s),rfl⟩
theorem Wj (s:aj) {z:Int} (h:numeral s=some z) (w:World):cj Tryz.prog 95 [str s] w λv w'=>v= .int .i64 z∧ak [] w w':=by
 have hK:=ak.refl [] w
 refine cV [.tmp 2] 11 Tryz.func95 rfl ZJ rfl rfl ?_
 refine zr<|zA<|ag<|zr<|zm<|aC (aku s h w) ?_
 rintro v1 w1 ⟨fM,aK⟩
 have dQ:=aK.size
 have hK:=hK.ext aK
 obtain rfl:=fM
 refine zm<|zx (i:=0) rfl rfl<|zx (i:=1) rfl rfl<|zA<|zA<|ag<|zr<|zm<|zA<|ag<|aV ?_
 exact⟨_,rfl,rfl,hK⟩
theorem akx (s:aj) (hs:s.length<9223372036854775807) (w:World):cj Tryz.prog 93 [str s] w λv w'=>v= .bool (uF s)∧ak [] w w':=by
 have hK:=ak.refl [] w
 refine cV [.tmp 2] 10 Tryz.func93 rfl ZH rfl rfl ?_
 refine zr<|zA<|ag<|zr<|zm<|aC (O9 s hs _) ?_
 rintro _ _ ⟨rfl,rfl⟩
 refine zm ?_
 apply fX 4 5 9 [5,6,7,8,9] (ak [] w) rfl
 intro h1
 replace h1:=bw h1
 have uT:=ak.refl [] w
 obtain⟨z,hz⟩:=Option.isSome_iff_exists.1 h1
 have Gj:z=(numeral s).getD 0:=by rw[hz];rfl
 refine zm<|aC (Wj s hz w) ?_
 rintro v1 w1 ⟨fM,aK⟩
 have dQ:=aK.size
 have uT:=uT.ext aK
 obtain rfl:=fM
 rw[Gj]
 refine aC (J2 _ _ _ _) ?_
 rintro _ _ ⟨rfl,rfl⟩
 refine zp rfl<|ag ?_
 exact mg rfl uT
 intro h1
 replace h1:=bw h1
 have uT:=ak.refl [] w
 refine zs<|zs<|zs<|zp rfl<|ag ?_
 exact mg rfl uT
 intro xx w1 aK
 have hK:=hK.ext aK
 refine zA<|ag<|aV ?_
 exact⟨_,rfl,show Value.bool _=Value.bool _ from congrArg _ (aaF s),hK⟩
theorem Wk (s:aj) (hs:s.length<9223372036854775807) (w:World):cj Tryz.prog 59 [str s] w λr w'=>r= .bool (nM s)∧w=w':=by
 refine cV [.tmp 2] 35 Tryz.func59 rfl Zh rfl rfl ?_
 refine zr<|zA<|ag<|aQ<|zr<|zm<|kL fc rfl rfl rfl<|zm<|ag<|cQ ?_
 refine fW (λk:Nat=>[(0,str s),(6,.int .i64 (s.length:Int)),(7,.int .i64 (k:Int))]) (λk w'=>w'=w∧k<=s.length∧∀j,j<k->Br s j=true) (λk=>s.length-k) (0) (⟨rfl,rfl,rfl⟩) (⟨rfl,om,by intro j hj;omega⟩) ?_
 intro gg w1 e1 hI
 obtain⟨rfl,hk,dy⟩:=hI
 refine zr<|fy rfl rfl rfl<|ag<|aQ<|zc rfl (λh1=>?_) (λh1=>?_)
 refine bz<|aQ<|cQ<|zr<|zm<|zA<|ag<|zr<|zm<|zm<|kC fc rfl rfl rfl rfl (jI om)<|zA<|ag<|zr<|zm<|lX rfl rfl rfl rfl rfl<|zm ?_
 apply fX 3 15 18 [15,16,17,18] (λw'=>w1=w') rfl
 intro h2
 replace h2:=bw h2
 refine zm<|qK rfl rfl rfl rfl rfl<|zp rfl<|ag ?_
 exact mg rfl rfl
 intro h2
 replace h2:=bw h2
 refine zs<|zs<|zp rfl<|ag ?_
 exact mg rfl rfl
 rintro xx _ rfl
 refine zm ?_
 apply fz 11 19 30 [19,20,21,22,23,24,25,26,27,28,29,30] (λw'=>w1=w') rfl
 intro h3
 replace h3:=bw h3
 refine zs<|zs<|zs<|zs<|zs<|zs<|zs<|zs<|zs<|zs<|zp rfl<|ag ?_
 exact mg rfl rfl
 intro h3
 replace h3:=bw h3
 refine zm<|jx rfl rfl rfl rfl rfl<|zm ?_
 apply fX 3 22 25 [22,23,24,25] (λw'=>w1=w') rfl
 intro h4
 replace h4:=bw h4
 refine zm<|lX rfl rfl rfl rfl rfl<|zp rfl<|ag ?_
 exact mg rfl rfl
 intro h4
 replace h4:=bw h4
 refine zs<|zs<|zp rfl<|ag ?_
 exact mg rfl rfl
 rintro xx _ rfl
 refine zm ?_
 apply fX 3 26 29 [26,27,28,29] (λw'=>w1=w') rfl
 intro h5
 replace h5:=bw h5
 refine zm<|qK rfl rfl rfl rfl rfl<|zp rfl<|ag ?_
 exact mg rfl rfl
 intro h5
 replace h5:=bw h5
 refine zs<|zs<|zp rfl<|ag ?_
 exact mg rfl rfl
 rintro xx _ rfl
 refine zp rfl<|ag ?_
 exact mg rfl rfl
 rintro xx _ rfl
 refine eJ rfl<|ag<|zc rfl (λh6=>?_) (λh6=>?_)
 rw[HF] at h6
 refine zr<|zA<|ag<|aV ?_
 exact⟨_,rfl,by rw[PY om h6];rfl,rfl⟩
 rw[HF] at h6
 refine bz<|db<|eF rfl rfl rfl (wrap_i64 _ om om)<|zm<|ag ?_
 exact⟨gg+1,⟨rfl,rfl,rfl⟩,⟨rfl,om,P1 dy h6⟩,om⟩
 refine gB<|gC rfl<|zr<|zm<|jG rfl rfl rfl rfl<|zA<|ag<|aV ?_
 exact⟨_,rfl,by rw[PZ (λj hj=>dy j om)];rfl,rfl⟩
theorem Wl (t:aA) (v:Value) (L:List Nat) (w:World) (hv:bS L w v t):cj Tryz.prog 65 [v] w λr w'=>r= .bool (decide (t.au.length=0))∧ak [] w w':=by
 obtain⟨a,n,c,rfl,hn,bc⟩:=dM hv
 have hK:=ak.refl [] w
 refine cV [.tmp 2] 7 Tryz.func65 rfl Zm rfl rfl ?_
 refine zr<|fE rfl ?_
 intro w1 aK aT dY
 have hK:=hK.ext aK
 refine zA<|ag<|zr<|zf uA rfl<|zl sn rfl (aT.at rfl)<|dX nK rfl<|dO rfl rfl rfl<|zA<|ag<|aV ?_
 exact⟨_,rfl,show Value.bool _=Value.bool _ from congrArg _ (decide_eq_decide.2 om),hK⟩
theorem Hg (t:aA) (dx:WF t) (v:Value) (L:List Nat) (w:World) (hv:bS L w v t):cj Tryz.prog 35 [v] w λr w'=>r=str (cH t)∧ak [] w w':=by
 have dI:=hv
 obtain⟨a,n,c,rfl,hn,bc⟩:=dM hv
 have hK:=ak.refl [] w
 refine cV [.tmp 2] 10 Tryz.func35 rfl Y3 rfl rfl ?_
 refine zr<|fE rfl ?_
 intro w1 aK aT dY
 have hK:=hK.ext aK;have bc:=bc.ext aK;have dI:=dI.ext aK
 refine zA<|ag<|aQ<|zr<|zL j8 fb rfl aT.all rfl<|aC (Wl t _ L w1 dI) ?_
 rintro v2 w2 ⟨dA,aq⟩
 have eE:=aq.size
 have hK:=hK.ext aq;have bc:=bc.ext aq;have aT:=aT.ext aq
 obtain rfl:=dA
 refine ag<|zc rfl (λh1=>?_) (λh1=>?_)
 have hh:cH t=[]:=Dd (.inr (List.length_eq_zero_iff.1 h1))
 refine zr<|zA<|ag<|aV ?_
 exact⟨_,rfl,by rw[hh];rfl,hK⟩
 have kQ:0<t.au.length:=by omega
 have ha:t.az=[]:=Classical.byContradiction (λh=>by have:=dx.leaf h;rw[this] at kQ;exact absurd kQ de)
 have mT:=iI kQ
 have hh:cH t=(nth t.au 0).az:=E4 ha mT
 obtain⟨b,off,pa,pn,pc,rfl,ey,fP,ix⟩:=j7 bc mT
 refine bz<|zr<|zf uA rfl<|zl sn rfl (aT.at rfl)<|zi (i:=0) nK fb rfl rfl (by rw[hn];exact kQ)<|zf zt rfl<|zl ck rfl (ey 0 _ rfl)<|zA<|ag<|aV ?_
 exact⟨_,rfl,by rw[hh];rfl,hK⟩
theorem aky (t:aA) (dx:WF t) (h:aj) (k:Int) (v:Value) (L:List Nat) (w:World) (hv:bS L w v t):
  cj Tryz.prog 36 [v,str h,.int .i64 k] w λr w'=>r= .bool (decide ((t.au.length:Int)=k)&&decide (cH t=h))∧ak [] w w':=by
 have dI:=hv
 obtain⟨a,n,c,rfl,hn,bc⟩:=dM hv
 have hK:=ak.refl [] w
 subst hn
 refine cV [.tmp 6] 18 Tryz.func36 rfl Y4 rfl rfl ?_
 refine zr<|fE rfl ?_
 intro w1 aK bR dY
 have hK:=hK.ext aK;have dI:=dI.ext aK
 refine zA<|ag<|zr<|zf uA rfl<|zl sn rfl (bR.at rfl)<|dX nK rfl<|zm<|dO rfl rfl rfl<|zm ?_
 apply fX 5 12 17 [12,13,14,15,16,17] (ak [] w1) rfl
 intro h1
 replace h1:=bw h1
 have Hh:=ak.refl [] w1
 refine zL j8 fb rfl bR.all rfl<|aC (Hg t dx _ L w1 dI) ?_
 rintro v2 w2 ⟨dA,aq⟩
 have eE:=aq.size
 have Hh:=Hh.ext aq
 obtain rfl:=dA
 refine zm<|cW rfl rfl<|zp rfl<|ag ?_
 exact mg rfl Hh
 intro h1
 replace h1:=bw h1
 have Hh:=ak.refl [] w1
 refine zs<|zs<|zs<|zs<|zp rfl<|ag ?_
 exact mg rfl Hh
 intro xx w2 aq
 have hK:=hK.ext aq
 refine zA<|ag<|aV ?_
 exact⟨_,rfl,rfl,hK⟩
theorem akz (ts:List aA) (hlen:ts.length<1000000000) (g:aA->Bool) (f:FuncId) (caps:List Value) (v:Value) (L:List Nat) (w:World) (hv:fG L w v ts) 
  (hf:∀i,i<ts.length->∀(u:Value) (w':World),ak [] w w'->bS L w' u (nth ts i)->cj Tryz.prog f (u::caps) w' λr w''=>r= .bool (g (nth ts i))∧ak [] w' w''):
  cj Tryz.prog 161 [v,.func (.func f) #[] caps.toArray] w λr w'=>r= .int .i64 (BA ts g)∧ak [] w w':=by
 obtain⟨a,c,rfl,hlc⟩:=rH hv
 have oR:(dD ts).length=ts.length:=iG ts
 have hK:=ak.refl [] w
 refine cV [.tmp 4] 19 Tryz.func161 rfl Ys rfl rfl ?_
 refine zr<|zA<|ag<|aQ<|zr<|zm<|dX nK rfl<|zm<|ag<|cQ ?_
 refine fW (λk:Nat=>[(0,.slice a (dD ts).length c),(1,.func (.func f) #[] caps.toArray),(7,.int .i64 ((dD ts).length:Int)),(8,.int .i64 (k:Int))]) (λk w'=>ak [] w w'∧k<=ts.length∧∀i,i<k->g (nth ts i)=false) (λk=>ts.length-k) (0) (⟨rfl,rfl,rfl,rfl⟩) (⟨hK,om,by intro i hi;omega⟩) ?_
 intro gg w1 e1 hI
 obtain⟨hK,hk,dy⟩:=hI
 have hv:=hv.ext hK
 refine zr<|fy rfl rfl rfl<|ag<|aQ<|zc rfl (λh1=>?_) (λh1=>?_)
 have hp:=iI (ps:=ts) (i:=gg) om
 obtain⟨b,off,pa,pn,pc,rfl,hc,fP,ix⟩:=j7 hv hp
 refine bz<|aQ<|cQ<|zr<|zm<|zA<|ag<|zr<|zm<|zm<|zm<|zi nK fb rfl rfl om<|zL j8 fb rfl hc rfl<|PG rfl rfl rfl (hf gg om _ w1 hK (mO ix)) ?_
 rintro v2 w2 ⟨dA,aq⟩
 have eE:=aq.size
 have hK:=hK.ext aq
 obtain rfl:=dA
 refine ag<|zc rfl (λh2=>?_) (λh2=>?_)
 have hq:=aaI om dy h2
 refine zr<|zm<|zA<|ag<|aV ?_
 exact⟨_,rfl,by rw[hq];rfl,hK⟩
 refine bz<|db<|eF rfl rfl rfl (wrap_i64 _ om om)<|zm<|ag ?_
 exact⟨gg+1,⟨rfl,rfl,rfl,rfl⟩,⟨hK,om,by intro i hi;rcases Nat.lt_or_ge i gg with h|h;exact dy i h;rw[show i=gg by omega];exact h2⟩,om⟩
 have hq:=aaJ (λi hi=>dy i om)
 refine gB<|gC rfl<|zr<|zA<|ag<|aV ?_
 exact⟨_,rfl,by rw[hq];rfl,hK⟩
theorem akA (ts:List aA) (hlen:ts.length<1000000000) (g:aA->Bool) (f:FuncId) (caps:List Value) (v:Value) (L:List Nat) (w:World) (hv:fG L w v ts) 
  (hf:∀i,i<ts.length->∀(u:Value) (w':World),ak [] w w'->bS L w' u (nth ts i)->cj Tryz.prog f (u::caps) w' λr w''=>r= .bool (g (nth ts i))∧ak [] w' w''):
  cj Tryz.prog 125 [v,.func (.func f) #[] caps.toArray] w λr w'=>r= .bool (ts.any g)∧ak [] w w':=by
 have hK:=ak.refl [] w
 refine cV [.tmp 4] 9 Tryz.func125 rfl XW rfl rfl ?_
 refine zr<|zA<|ag<|zr<|zm<|zm<|aC (akz ts hlen g f caps _ L w hv hf) ?_
 rintro v1 w1 ⟨fM,aK⟩
 have dQ:=aK.size
 have hK:=hK.ext aK
 obtain rfl:=fM
 refine lX rfl rfl rfl rfl rfl<|zA<|ag<|aV ?_
 exact⟨_,rfl,congrArg Value.bool (aaK ts g),hK⟩
def Wm (m:Nat):Prop:=∀(t:aA),t.size<=m->t.size<=100000->WF t->∀(hidden:Bool) (v:Value) (L:List Nat) (w:World),bS L w v t->
  cj Tryz.prog 91 [v,.bool hidden,.bool false] w λr w'=>r= .bool (fB hidden t)∧ak [] w w'
theorem akB {m:Nat} (ih:Wm m) (t:aA) (h:t.size<=m) (h2:t.size<=100000) (dx:WF t) (hidden:Bool) (b1 b2:Nat) (v:Value) (L:List Nat) (w:World) (hv:bS L w v t) 
  (aT:aY w b1 #[.bool hidden] 4) (aZ:aY w b2 #[.bool false] 4):
  cj Tryz.prog 126 [v,.pointer (some ⟨b1,0,none⟩),.pointer (some ⟨b2,0,none⟩)] w λr w'=>r= .bool (!fB hidden t)∧ak [] w w':=by
 have dI:=hv
 obtain⟨a,n,c,rfl,hn,bc⟩:=dM hv
 have hK:=ak.refl [] w
 refine cV [.tmp 4] 10 Tryz.func126 rfl XX rfl rfl ?_
 refine zr<|fE rfl ?_
 intro w1 aK bR dY
 have hK:=hK.ext aK;have dI:=dI.ext aK;have aT:=aT.ext aK;have aZ:=aZ.ext aK
 refine zA<|ag<|zr<|zL j8 fb rfl bR.all rfl<|zl Da rfl (aT.at rfl)<|zl Da rfl (aZ.at rfl)<|aC (ih t h h2 dx hidden _ L w1 dI) ?_
 rintro v2 w2 ⟨dA,aq⟩
 have eE:=aq.size
 have hK:=hK.ext aq
 obtain rfl:=dA
 refine eJ rfl<|zA<|ag<|aV ?_
 exact⟨_,rfl,rfl,hK⟩
theorem akC {off n c:Nat} {ts:List aA} (h:fG L w (.slice (some ⟨b,off,none⟩) n c) ts) (k:Nat) (p:Prop) (hp:p->k<ts.length):
  ∃qa qn qc,HK p w b (off+k*2) [str (nth ts k).az,.slice qa qn qc]∧HL p L w (.slice qa qn qc) (nth ts k).au:=by
 by_cases h2:p
 ·obtain⟨b',off',qa,qn,qc,gw,hq,hqn,hqp⟩:=j7 h (iI (hp h2))
  cases gw
  exact⟨qa,qn,qc,λ_=>hq,λ_=>hqp⟩
 ·exact⟨none,0,0,λhh=>absurd hh h2,λhh=>absurd hh h2⟩
theorem Wn (ts:List aA) (k i:Nat):nth (ts.drop k) i=nth ts (i+k):=by
 simp[nth,List.getD,List.getElem?_drop,Nat.add_comm]
theorem akE (ts:List aA) (f:aA->Bool):(!ts.any λu=>!f u)=ts.all f:=by
 induction ts with
 |nil=>rfl
 |cons t r ih=>simp only[List.any_cons,List.all_cons,Bool.not_or,Bool.not_not,ih]
theorem Pa:∀m,Wm m:=by
 intro m
 induction m with
 |zero=>intro t h;have:=xB t;omega
 |succ m ih=>
  intro t hm rL dx hidden v L w hv
  have dI:=hv
  obtain⟨a,n,c,rfl,hn,bc⟩:=dM hv
  have hK:=ak.refl [] w
  have pE:=xB t
  refine cV [.tmp 6] 53 Tryz.func91 rfl ZF rfl rfl ?_
  refine zr<|fE rfl ?_
  intro w1 aK bR dY
  have hK:=hK.ext aK;have bc:=bc.ext aK;have dI:=dI.ext aK
  refine Kb rfl rfl rfl ?_
  intro w2 aq aI eM
  have hK:=hK.ext aq;have bc:=bc.ext aq;have dI:=dI.ext aq;have bR:=bR.ext aq
  refine Kb rfl rfl rfl ?_
  intro w3 aJ bP iH
  have hK:=hK.ext aJ;have bc:=bc.ext aJ;have dI:=dI.ext aJ;have bR:=bR.ext aJ;have aI:=aI.ext aJ
  refine zA<|ag<|aQ<|zr<|zL j8 fb rfl bR.all rfl<|aC (Wl t _ L w3 dI) ?_
  rintro v4 w4 ⟨eH,aF⟩
  have gI:=aF.size
  have hK:=hK.ext aF;have bc:=bc.ext aF;have dI:=dI.ext aF;have bR:=bR.ext aF;have aI:=aI.ext aF;have bP:=bP.ext aF
  obtain rfl:=eH
  refine ag<|zc rfl (λh1=>?_) (λh1=>?_)
  have ha:t.az≠[]:=λh=>by have:=dx.pos h;omega
  refine zr<|zf zt rfl<|zl ck rfl (bR.at rfl)<|cW rfl rfl<|zm ?_
  apply fz 7 12 19 [12,13,14,15,16,17,18,19] (λw'=>w4=w') rfl
  intro h2
  replace h2:=bw h2
  refine zs<|zs<|zs<|zs<|zs<|zs<|zp rfl<|ag ?_
  exact mg rfl rfl
  intro h2
  replace h2:=bw h2
  refine zl Da rfl (aI.at rfl)<|zm ?_
  apply fX 4 14 18 [14,15,16,17,18] (λw'=>w4=w') rfl
  intro h3
  replace h3:=bw h3
  refine zf zt rfl<|zl ck rfl (bR.at rfl)<|cW rfl rfl<|zp rfl<|ag ?_
  exact mg rfl rfl
  intro h3
  replace h3:=bw h3
  refine zs<|zs<|zs<|zp rfl<|ag ?_
  exact mg rfl rfl
  rintro xx _ rfl
  refine zp rfl<|ag ?_
  exact mg rfl rfl
  rintro xx _ rfl
  refine zm ?_
  apply fz 7 20 27 [20,21,22,23,24,25,26,27] (λw'=>w4=w') rfl
  intro h4
  replace h4:=bw h4
  refine zs<|zs<|zs<|zs<|zs<|zs<|zp rfl<|ag ?_
  exact mg rfl rfl
  intro h4
  replace h4:=bw h4
  refine zl Da rfl (bP.at rfl)<|zm<|EF (t:=22) (b:=false) rfl<|zs<|zs<|zs<|zp rfl<|zp rfl<|ag ?_
  exact mg rfl rfl
  rintro xx _ rfl
  refine zA<|ag<|aV ?_
  exact⟨_,rfl,show Value.bool _=Value.bool _ from congrArg _ (by rw[Qa ha,Bool.or_false]),hK⟩
  have kQ:0<t.au.length:=by omega
  have ha:t.az=[]:=Classical.byContradiction (λh=>by have:=dx.leaf h;rw[this] at kQ;exact absurd kQ de)
  have mT:=iI kQ
  have hh:cH t=(nth t.au 0).az:=E4 ha mT
  refine bz<|aQ<|zr<|zL j8 fb rfl bR.all rfl<|aC (Hg t dx _ L w4 dI) ?_
  rintro v5 w5 ⟨lk,aU⟩
  have pD:=aU.size
  have hK:=hK.ext aU;have bc:=bc.ext aU;have bR:=bR.ext aU;have aI:=aI.ext aU;have bP:=bP.ext aU
  obtain rfl:=lk
  obtain⟨b,off,pa,pn,pc,rfl,ey,fP,ix⟩:=j7 bc mT
  refine ag<|cQ<|zr<|cW rfl rfl<|zA<|ag<|zc rfl (λh5=>?_) (λh5=>?_)
  have he:(nth t.au 0).az=[101]:=hh.symm.trans h5
  have bP:aY w5 w2.heap.size #[.bool false] 4:=bP
  obtain⟨qa,qn,qc,kR,Pb⟩:=akC bc 1 ((n:Int)=2) (λh=>om)
  refine aQ ?_
  refine qf ei aS 13 (rA 32 12++[6]) (rA 32 12++[6]) [[],[0],[1],[2],[3],[4],[4,5],[4,6],[4,7],[4],[4,8,9],[4,10],[11]] [λv _=>v=(.pointer (some ⟨w.heap.size,0+1,none⟩)),λv _=>v=(.slice (some ⟨b,off,none⟩) n c),λv _=>v=(.int .i64 (n:Int)),λv _=>v=(.bool (decide ((n:Int)=2))),λv _=>v=(.bool (decide ((n:Int)=2))),λv _=>(decide ((n:Int)=2))=true->v=(.pointer (some ⟨w.heap.size,0+1,none⟩)),λv _=>(decide ((n:Int)=2))=true->v=(.slice (some ⟨b,off,none⟩) n c),λv _=>(decide ((n:Int)=2))=true->v=(.pointer (some ⟨b,off+1*2,none⟩)),λv _=>(decide ((n:Int)=2))=true->v=(.agg #[str (nth t.au 1).az,.slice qa qn qc]),λv _=>(decide ((n:Int)=2))=true->v=(.bool false),λv _=>(decide ((n:Int)=2))=true->v=(.bool (fB true (nth t.au 1))),λv _=>v=(.bool (decide ((n:Int)=2)&&fB true (nth t.au 1))),λv _=>v=(.bool (decide ((n:Int)=2)&&fB true (nth t.au 1)))] de (cX (cX (cX (cX (cX (eV (eV (eV (eV (eV (eV (cX (cX trivial))))))))))))) (λwd aB=>?_) ?_
  refine bN ?_ ?_
  intro x vs w6 e bF hd he
  replace bF:=aS.trans aB bF
  replace he:e=aM (aN _ x _) []:=he
  subst he
  refine zf uA rfl<|ag ?_
  exact dn (aS.refl _) rfl
  refine bN ?_ ?_
  intro x vs w6 e bF hd he
  have d0:vs 0=(.pointer (some ⟨w.heap.size,0+1,none⟩)):=hd
  replace bF:=aS.trans aB bF
  have bR:=bR.ext bF
  replace he:e=aM (aN _ x _) [(32,vs 0)]:=he
  rw[d0] at he
  subst he
  refine zl sn rfl (bR.at rfl)<|ag ?_
  exact dn (aS.refl _) rfl
  refine bN ?_ ?_
  intro x vs w6 e bF hd he
  have d1:vs 1=(.slice (some ⟨b,off,none⟩) n c):=hd
  replace bF:=aS.trans aB bF
  replace he:e=aM (aN _ x _) [(33,vs 1)]:=he
  rw[d1] at he
  subst he
  refine dX nK rfl<|ag ?_
  exact dn (aS.refl _) rfl
  refine bN ?_ ?_
  intro x vs w6 e bF hd he
  have d2:vs 2=(.int .i64 (n:Int)):=hd
  replace bF:=aS.trans aB bF
  replace he:e=aM (aN _ x _) [(34,vs 2)]:=he
  rw[d2] at he
  subst he
  refine dO rfl rfl rfl<|ag ?_
  exact dn (aS.refl _) rfl
  refine bN ?_ ?_
  intro x vs w6 e bF hd he
  have d3:vs 3=(.bool (decide ((n:Int)=2))):=hd
  replace bF:=aS.trans aB bF
  replace he:e=aM (aN _ x _) [(35,vs 3)]:=he
  rw[d3] at he
  subst he
  refine zm<|ag ?_
  exact dn (aS.refl _) rfl
  refine bN ?_ ?_
  intro x vs w6 e bF hd he
  have d4:vs 4=(.bool (decide ((n:Int)=2))):=hd
  replace bF:=aS.trans aB bF
  rcases bE (decide ((n:Int)=2)) with hg|hg
  rw[hg] at d4
  replace he:e=aM (aN _ x _) [(36,vs 4)]:=he
  rw[d4] at he
  subst he
  refine zf uA rfl<|ag ?_
  exact dn (aS.refl _) (show(decide ((n:Int)=2))=true->_=((.pointer (some ⟨w.heap.size,0+1,none⟩)):Value) from λ_=>rfl)
  rw[hg] at d4
  replace he:e=aM (aN _ x _) [(36,vs 4)]:=he
  rw[d4] at he
  subst he
  refine zs<|ag ?_
  exact dn (aS.refl _) (show(decide ((n:Int)=2))=true->_=(_:Value) from λhh=>nomatch hg.symm.trans hh)
  refine bN ?_ ?_
  intro x vs w6 e bF hd he
  have aR:(vs 4=(.bool (decide ((n:Int)=2))))∧((decide ((n:Int)=2))=true->vs 5=(.pointer (some ⟨w.heap.size,0+1,none⟩))):=hd
  obtain⟨d4,d5⟩:=aR
  replace bF:=aS.trans aB bF
  have bR:=bR.ext bF
  rcases bE (decide ((n:Int)=2)) with hg|hg
  rw[hg] at d4
  replace d5:=d5 hg
  replace he:e=aM (aN _ x _) [(36,vs 4),(37,vs 5)]:=he
  rw[d4,d5] at he
  subst he
  refine zl sn rfl (bR.at rfl)<|ag ?_
  exact dn (aS.refl _) (show(decide ((n:Int)=2))=true->_=((.slice (some ⟨b,off,none⟩) n c):Value) from λ_=>rfl)
  rw[hg] at d4
  replace he:e=aM (aN _ x _) [(36,vs 4),(37,vs 5)]:=he
  rw[d4] at he
  subst he
  refine zs<|ag ?_
  exact dn (aS.refl _) (show(decide ((n:Int)=2))=true->_=(_:Value) from λhh=>nomatch hg.symm.trans hh)
  refine bN ?_ ?_
  intro x vs w6 e bF hd he
  have aR:(vs 4=(.bool (decide ((n:Int)=2))))∧((decide ((n:Int)=2))=true->vs 6=(.slice (some ⟨b,off,none⟩) n c)):=hd
  obtain⟨d4,d6⟩:=aR
  replace bF:=aS.trans aB bF
  rcases bE (decide ((n:Int)=2)) with hg|hg
  rw[hg] at d4
  replace d6:=d6 hg
  replace he:e=aM (aN _ x _) [(36,vs 4),(38,vs 6)]:=he
  rw[d4,d6] at he
  subst he
  refine zi (i:=1) nK fb rfl rfl (by have:=of_decide_eq_true hg;omega)<|ag ?_
  exact dn (aS.refl _) (show(decide ((n:Int)=2))=true->_=((.pointer (some ⟨b,off+1*2,none⟩)):Value) from λ_=>rfl)
  rw[hg] at d4
  replace he:e=aM (aN _ x _) [(36,vs 4),(38,vs 6)]:=he
  rw[d4] at he
  subst he
  refine zs<|ag ?_
  exact dn (aS.refl _) (show(decide ((n:Int)=2))=true->_=(_:Value) from λhh=>nomatch hg.symm.trans hh)
  refine bN ?_ ?_
  intro x vs w6 e bF hd he
  have aR:(vs 4=(.bool (decide ((n:Int)=2))))∧((decide ((n:Int)=2))=true->vs 7=(.pointer (some ⟨b,off+1*2,none⟩))):=hd
  obtain⟨d4,d7⟩:=aR
  replace bF:=aS.trans aB bF
  have kR:=kR.ext bF
  rcases bE (decide ((n:Int)=2)) with hg|hg
  rw[hg] at d4
  replace d7:=d7 hg
  replace he:e=aM (aN _ x _) [(36,vs 4),(39,vs 7)]:=he
  rw[d4,d7] at he
  subst he
  refine zL j8 fb rfl (kR (of_decide_eq_true hg)) rfl<|ag ?_
  exact dn (aS.refl _) (show(decide ((n:Int)=2))=true->_=((.agg #[str (nth t.au 1).az,.slice qa qn qc]):Value) from λ_=>rfl)
  rw[hg] at d4
  replace he:e=aM (aN _ x _) [(36,vs 4),(39,vs 7)]:=he
  rw[d4] at he
  subst he
  refine zs<|ag ?_
  exact dn (aS.refl _) (show(decide ((n:Int)=2))=true->_=(_:Value) from λhh=>nomatch hg.symm.trans hh)
  refine bN ?_ ?_
  intro x vs w6 e bF hd he
  have d4:vs 4=(.bool (decide ((n:Int)=2))):=hd
  replace bF:=aS.trans aB bF
  have bP:=bP.ext bF
  rcases bE (decide ((n:Int)=2)) with hg|hg
  rw[hg] at d4
  replace he:e=aM (aN _ x _) [(36,vs 4)]:=he
  rw[d4] at he
  subst he
  refine zl Da rfl (bP.at rfl)<|ag ?_
  exact dn (aS.refl _) (show(decide ((n:Int)=2))=true->_=((.bool false):Value) from λ_=>rfl)
  rw[hg] at d4
  replace he:e=aM (aN _ x _) [(36,vs 4)]:=he
  rw[d4] at he
  subst he
  refine zs<|ag ?_
  exact dn (aS.refl _) (show(decide ((n:Int)=2))=true->_=(_:Value) from λhh=>nomatch hg.symm.trans hh)
  refine bN ?_ ?_
  intro x vs w6 e bF hd he
  have aR:(vs 4=(.bool (decide ((n:Int)=2))))∧((decide ((n:Int)=2))=true->vs 8=(.agg #[str (nth t.au 1).az,.slice qa qn qc]))∧((decide ((n:Int)=2))=true->vs 9=(.bool false)):=hd
  obtain⟨d4,d8,d9⟩:=aR
  replace bF:=aS.trans aB bF
  have Pb:=Pb.ext bF
  rcases bE (decide ((n:Int)=2)) with hg|hg
  rw[hg] at d4
  replace d8:=d8 hg
  replace d9:=d9 hg
  replace he:e=aM (aN _ x _) [(36,vs 4),(40,vs 8),(41,vs 9)]:=he
  rw[d4,d8,d9] at he
  subst he
  refine aC (ih (nth t.au 1) (by have:=of_decide_eq_true hg;have:=lY (t:=t) (i:=1) om;omega) (by have:=of_decide_eq_true hg;have:=lY (t:=t) (i:=1) om;omega) (dx.nth (by have:=of_decide_eq_true hg;omega)) true _ L w6 (mO (Pb (of_decide_eq_true hg)))) ?_
  rintro v7 w7 ⟨iT,cw⟩
  have pb:=cw.size
  obtain rfl:=iT
  refine ag ?_
  exact dn (aS.of cw) (show(decide ((n:Int)=2))=true->_=((.bool (fB true (nth t.au 1))):Value) from λ_=>rfl)
  rw[hg] at d4
  replace he:e=aM (aN _ x _) [(36,vs 4),(40,vs 8),(41,vs 9)]:=he
  rw[d4] at he
  subst he
  refine zs<|ag ?_
  exact dn (aS.refl _) (show(decide ((n:Int)=2))=true->_=(_:Value) from λhh=>nomatch hg.symm.trans hh)
  refine bN ?_ ?_
  intro x vs w6 e bF hd he
  have aR:(vs 4=(.bool (decide ((n:Int)=2))))∧((decide ((n:Int)=2))=true->vs 10=(.bool (fB true (nth t.au 1)))):=hd
  obtain⟨d4,d10⟩:=aR
  replace bF:=aS.trans aB bF
  rcases bE (decide ((n:Int)=2)) with hg|hg
  rw[hg] at d4
  replace d10:=d10 hg
  replace he:e=aM (aN _ x _) [(36,vs 4),(42,vs 10)]:=he
  rw[d4,d10] at he
  subst he
  refine zp rfl<|ag ?_
  exact dn (aS.refl _) (by first|rfl|(rw[hg];rfl))
  rw[hg] at d4
  replace he:e=aM (aN _ x _) [(36,vs 4),(42,vs 10)]:=he
  rw[d4] at he
  subst he
  refine zp rfl<|ag ?_
  exact dn (aS.refl _) (by first|rfl|(rw[hg];rfl))
  refine bN ?_ ?_
  intro x vs w6 e bF hd he
  have d11:vs 11=(.bool (decide ((n:Int)=2)&&fB true (nth t.au 1))):=hd
  replace bF:=aS.trans aB bF
  replace he:e=aM (aN _ x _) [(43,vs 11)]:=he
  rw[d11] at he
  subst he
  refine zA<|ag ?_
  exact dn (aS.refl _) rfl
  exact trivial
  intro x vs pQ wF bJ
  have d0:vs 0=(.pointer (some ⟨w.heap.size,0+1,none⟩)):=bJ 0 de
  have d1:vs 1=(.slice (some ⟨b,off,none⟩) n c):=bJ 1 de
  have d2:vs 2=(.int .i64 (n:Int)):=bJ 2 de
  have d3:vs 3=(.bool (decide ((n:Int)=2))):=bJ 3 de
  have d4:vs 4=(.bool (decide ((n:Int)=2))):=bJ 4 de
  have d5:(decide ((n:Int)=2))=true->vs 5=(.pointer (some ⟨w.heap.size,0+1,none⟩)):=bJ 5 de
  have d6:(decide ((n:Int)=2))=true->vs 6=(.slice (some ⟨b,off,none⟩) n c):=bJ 6 de
  have d7:(decide ((n:Int)=2))=true->vs 7=(.pointer (some ⟨b,off+1*2,none⟩)):=bJ 7 de
  have d8:(decide ((n:Int)=2))=true->vs 8=(.agg #[str (nth t.au 1).az,.slice qa qn qc]):=bJ 8 de
  have d9:(decide ((n:Int)=2))=true->vs 9=(.bool false):=bJ 9 de
  have d10:(decide ((n:Int)=2))=true->vs 10=(.bool (fB true (nth t.au 1))):=bJ 10 de
  have d11:vs 11=(.bool (decide ((n:Int)=2)&&fB true (nth t.au 1))):=bJ 11 de
  have d12:vs 12=(.bool (decide ((n:Int)=2)&&fB true (nth t.au 1))):=bJ 12 de
  have hK:=hK.ext wF
  change OW _ _ _ _ [] (aM (aN _ x _) (zZ 32 [vs 0,vs 1,vs 2,vs 3,vs 4,vs 5,vs 6,vs 7,vs 8,vs 9,vs 10,vs 11]++[(6,vs 12)])) _
  rw[d0,d1,d2,d3,d4,d11,d12]
  refine ag<|aV<|⟨_,rfl,show Value.bool _=Value.bool _ from congrArg _ ?_,hK⟩
  rw[KP ha kQ he]
  congr 1
  exact decide_eq_decide.2 om
  have eK:(nth t.au 0).az≠[101]:=λh=>h5 (hh.trans h)
  refine aQ<|zr<|cW rfl rfl<|zA<|ag ?_
  refine jg (λ_:Unit=>[(3,.pointer (some ⟨w.heap.size,0,none⟩)),(4,.pointer (some ⟨w1.heap.size,0,none⟩)),(5,.pointer (some ⟨w2.heap.size,0,none⟩)),(44,.bool (decide (cH t=[116])||decide (cH t=[99])))]) (λ_ w'=>w'=w5) ?_ ?_
  refine zc rfl (λh6=>?_) (λh6=>?_)
  refine bz ?_
  exact⟨(),⟨rfl,rfl,rfl,congrArg Value.bool (zD h6)⟩,rfl⟩
  refine db<|cW rfl rfl<|zA<|ag ?_
  exact⟨(),⟨rfl,rfl,rfl,congrArg Value.bool (zE h6)⟩,rfl⟩
  intro gu w6 e6 hI
  obtain rfl:=hI
  refine zc rfl (λh7=>?_) (λh7=>?_)
  have zH:=zF h7
  rw[hh] at zH
  refine zr<|zf uA rfl<|zl sn rfl (bR.at rfl)<|Hr (l:=1) nK fb rfl rfl rfl rfl om bc ?_
  intro CS bo
  have bo:fG L w6 CS (t.au.drop 1):=by rw[fG,Pz];exact bo
  refine PF (vs:=[.pointer (some ⟨w1.heap.size,0,none⟩),.pointer (some ⟨w2.heap.size,0,none⟩)]) rfl rfl rfl ?_
  refine aC (akA (t.au.drop 1) (by rw[List.length_drop];omega) (λu=>!fB hidden u) 126 [.pointer (some ⟨w1.heap.size,0,none⟩),.pointer (some ⟨w2.heap.size,0,none⟩)] _ L w6 bo (λi hi u w' k hu=>by rw[List.length_drop] at hi;rw[Wn] at hu⊢;exact akB ih (nth t.au (i+1)) (by have:=lY (t:=t) (i:=i+1) om;omega) (by have:=lY (t:=t) (i:=i+1) om;omega) (dx.nth om) hidden _ _ _ L _ hu (aI.ext k) (bP.ext k))) ?_
  rintro v7 w7 ⟨iT,cw⟩
  have pb:=cw.size
  have hK:=hK.ext cw
  obtain rfl:=iT
  refine eJ rfl<|zA<|ag<|aV ?_
  exact⟨_,rfl,show Value.bool _=Value.bool _ from congrArg _ (by rw[KQ ha kQ zH,akE]),hK⟩
  have zH:=zG h7
  rw[hh] at zH
  refine bz<|zr<|zA<|ag<|aV ?_
  exact⟨_,rfl,by rw[Qb ha kQ eK zH];rfl,hK⟩
theorem Hi {a b:World} (h:ak [] w a) (k:RowKit.Below w.heap.size a b):ak [] w b:=
 ⟨k.os.trans h.os,k.tape.trans h.tape,k.output.trans h.output,Nat.le_trans h.size k.size,λi hi hl=>(k.block i hi).trans (h.block i hi hl)⟩
theorem akF (x y:Nat) (h:x*y<18446744073709551616) (hx:x<18446744073709551616) (hy:y<18446744073709551616) (w:World):
  cj Tryz.prog 162 [.int .u64 x,.int .u64 y] w λv w'=>v= .tuple #[.int .u64 0,.int .u64 ((x*y:Nat):Int)]∧w=w':=
 ⟨tf.mk' Tryz.func162 rfl Yt,Calls.mono (Tryz.bits_Mul x y hx hy w) λ_ _ ⟨he,hw⟩=>⟨_,he,by rw[Nat.div_eq_of_lt h,Nat.mod_eq_of_lt h];rfl,hw.symm⟩⟩
theorem akG (B b n:Nat) (w:World) (hB:B<=b) (fx:aY w b #[.pointer none,.slice none 0 0] 94) (CT:B<=w.heap.size) (hn:n<=281474976710656):
  cj Tryz.prog 163 [.pointer (some ⟨b,0,none⟩),.int .i64 n] w λv w'=>v= .tuple #[]∧Lib.IsBuilderF 94 5 B b (Lib.byteCells []) w'∧RowKit.Below B w w':=
 ⟨tf.mk' Tryz.func163 rfl Yu,Calls.mono (Tryz.Builder_Grow_fresh B b n w hB fx CT hn) λ_ _ ⟨he,hb,hk⟩=>⟨_,he,rfl,.inr (Lib.BuilderAtF.of hb),hk⟩⟩
theorem Wo (B b:Nat) (l s:aj) (w:World) (h:Lib.IsBuilderF 94 5 B b (Lib.byteCells l) w) (hlen:l.length+s.length<=140737488355328) (CT:B<=w.heap.size):
  cj Tryz.prog 101 [.pointer (some ⟨b,0,none⟩),str s] w λv w'=>(∃u,v=u)∧Lib.IsBuilderF 94 5 B b (Lib.byteCells (l++s)) w'∧RowKit.Below B w w':=
 ⟨tf.mk' Tryz.func101 rfl XC,Calls.mono (Tryz.Builder_WriteString_f B b _ ⟨s.toArray⟩ w h (by rw[Lib.byteCells_length];simpa[ByteArray.size] using hlen) CT) λ_ _ ⟨he,hb,hk⟩=>⟨_,he,⟨_,rfl⟩,.inr (by have e1:Lib.byteCells (l++s)=Lib.byteCells l++Lib.strCells ⟨s.toArray⟩:=by{simp[Lib.byteCells,Lib.strCells]};rw[e1];exact hb),hk⟩⟩
theorem Pc (B b:Nat) (l:aj) (w:World) (h:Lib.IsBuilderF 94 5 B b (Lib.byteCells l) w):
  cj Tryz.prog 164 [.pointer (some ⟨b,0,none⟩)] w λv w'=>v= .int .i64 (l.length:Int)∧w=w':=
 ⟨tf.mk' Tryz.func164 rfl Yv,Calls.mono (Tryz.Builder_Len_f B b _ w h) λ_ _ ⟨he,hw⟩=>⟨_,he,by rw[Lib.byteCells_length],hw.symm⟩⟩
theorem Wp (B b:Nat) (l:aj) (h0:l≠[]) (w:World) (h:Lib.IsBuilderF 94 5 B b (Lib.byteCells l) w):
  cj Tryz.prog 74 [.pointer (some ⟨b,0,none⟩)] w λv w'=>v=str l∧Lib.IsBuilderF 94 5 B b (Lib.byteCells l) w'∧RowKit.Below B w w':=
 ⟨tf.mk' Tryz.func74 rfl Zo,Calls.mono (Tryz.Builder_String_f B b l w h h0) λ_ _ ⟨he,hb,hk⟩=>⟨_,he,rfl,hb,hk⟩⟩
theorem akH (c:Nat) (hc:c<=8192) (w:World):cj Tryz.prog 127 [str [115],.int .i64 (c:Int)] w λv w'=>v=str (List.replicate c 115)∧ak [] w w':=by
 have hK:=ak.refl [] w
 refine cV [.tmp 4] 125 Tryz.func127 rfl XY rfl rfl ?_
 refine zr<|zA<|ag<|aQ<|zr<|zm<|ag<|cQ<|zr<|dO rfl rfl rfl<|zA<|ag<|zc rfl (λh1=>?_) (λh1=>?_)
 have ey:c=0:=by omega
 refine zr<|zA<|ag<|aV ?_
 exact⟨_,rfl,by rw[ey];rfl,hK⟩
 refine zr<|dO rfl rfl rfl<|zA<|ag<|zc rfl (λh2=>?_) (λh2=>?_)
 have bC:c=1:=by omega
 refine zr<|zm<|zA<|ag<|aV ?_
 exact⟨_,rfl,by rw[bC];rfl,hK⟩
 refine bz<|aQ<|zr<|zm<|fy rfl rfl rfl<|ag<|zc rfl (λh3=>?_) (λh3=>?_)
 exfalso
 omega
 refine bz<|zr<|zm<|kL fc rfl rfl rfl<|xm xz KH rfl rfl rfl (show IntKind.u64.wrap (([115]:aj).length:Int)=((1:Nat):Int) from by decide)<|zm<|xm xz KH rfl rfl rfl (show IntKind.u64.wrap (c:Int)=((c:Nat):Int) from by rw[wrap_u64 _ om om])<|aC (akF 1 c om om om _) ?_
 rintro _ _ ⟨rfl,rfl⟩
 refine zm<|zx (i:=0) rfl rfl<|zx (i:=1) rfl rfl<|zA<|zA<|ag<|aQ<|zr<|zm<|jx rfl rfl rfl rfl rfl<|zm ?_
 apply fz 3 31 34 [31,32,33,34] (λw'=>w=w') rfl
 intro h4
 replace h4:=bw h4
 refine zs<|zs<|zp rfl<|ag ?_
 exact mg rfl rfl
 intro h4
 replace h4:=bw h4
 refine zm<|jx rfl rfl rfl rfl rfl<|zp rfl<|ag ?_
 exact mg rfl rfl
 rintro xx _ rfl
 refine ag<|zc rfl (λh5=>?_) (λh5=>?_)
 exfalso
 simp at h5
 omega
 refine bz<|zr<|zm<|xm KH xz rfl rfl rfl (show IntKind.i64.wrap ((1*c:Nat):Int)=(c:Int) from by rw[wrap_i64 _ om om];omega)<|zA<|ag<|aQ<|zr<|zm<|kL fc rfl rfl rfl<|dO rfl rfl rfl<|ag<|zc rfl (λh6=>?_) (λh6=>?_)
 exact absurd h6 de
 refine bz<|aQ<|zr<|zm<|kC (i:=0) fc rfl rfl rfl rfl (jI de)<|ag<|cQ<|aQ<|zr<|dO rfl rfl rfl<|zA<|ag<|zc rfl (λh7=>?_) (λh7=>?_)
 exact absurd h7 de
 refine zr<|dO rfl rfl rfl<|zA<|ag<|zc rfl (λh8=>?_) (λh8=>?_)
 exact absurd h8 de
 refine zr<|dO rfl rfl rfl<|zA<|ag<|zc rfl (λh9=>?_) (λh9=>?_)
 exact absurd h9 de
 refine zr<|dO rfl rfl rfl<|zA<|ag<|zc rfl (λgF=>?_) (λgF=>?_)
 exact absurd gF de
 refine db<|dO rfl rfl rfl<|zA<|ag<|zc rfl (λkn=>?_) (λkn=>?_)
 exact absurd kn de
 refine bz<|zr<|zm<|zA<|ag<|aQ<|zr<|zm<|jx rfl rfl rfl rfl rfl<|ag<|zc rfl (λjK=>?_) (λjK=>?_)
 exfalso
 omega
 refine bz<|zr<|eA Z0 rfl rfl rfl ?_
 intro w1 aK cT dY
 have hK:=hK.ext aK
 refine ag<|zr<|zm<|aC (akG w.heap.size w.heap.size c w1 (lR _) cT om om) ?_
 rintro _ w2 ⟨rfl,hB,rv⟩
 have hK:=Hi hK rv
 refine ag<|zr<|zm<|aC (Wo w.heap.size w.heap.size [] [115] w2 hB sm (by have:=hK.size;omega)) ?_
 rintro _ w3 ⟨_,hB,rv⟩
 have hK:=Hi hK rv
 refine ag<|aQ<|cQ ?_
 refine fW (λk:Nat=>[(0,str [115]),(7,.int .i64 (c:Int)),(8,.int .i64 (c:Int)),(9,.pointer (some ⟨w.heap.size,0,none⟩))]) (λk w'=>ak [] w w'∧Lib.IsBuilderF 94 5 w.heap.size w.heap.size (Lib.byteCells (List.replicate k 115)) w'∧1<=k∧k<=c) (λk=>c-k) (1) (⟨rfl,rfl,rfl,rfl⟩) (⟨hK,hB,om,om⟩) ?_
 intro gg w4 e4 hI
 obtain⟨hK,hB,hk,lq⟩:=hI
 have iW:=hK.size
 refine aQ<|zr<|aC (Pc _ _ _ _ hB) ?_
 rintro _ _ ⟨rfl,rfl⟩
 rw[List.length_replicate]
 refine zm<|fy rfl rfl rfl<|ag<|zc rfl (λlH=>?_) (λlH=>?_)
 have eU:gg<c:=by omega
 refine bz<|cQ<|zr<|zm<|aC (Pc _ _ _ _ hB) ?_
 rintro _ _ ⟨rfl,rfl⟩
 rw[List.length_replicate]
 refine mJ rfl rfl rfl rfl rfl (wrap_i64 _ om om)<|aC (Pc _ _ _ _ hB) ?_
 rintro _ _ ⟨rfl,rfl⟩
 rw[List.length_replicate]
 refine zm<|Xz rfl rfl rfl rfl rfl (show(if(c:Int)<(if(gg:Int)<(c:Int)-gg then(gg:Int) else(c:Int)-gg) then(c:Int) else(if(gg:Int)<(c:Int)-gg then(gg:Int) else(c:Int)-gg))=((min gg (c-gg):Nat):Int) from by repeat' split<;>omega)<|zA<|ag<|db<|aC (Wp _ _ _ (by intro h;have:=congrArg List.length h;simp at this;omega) w4 hB) ?_
 rintro _ w5 ⟨rfl,hB,rv⟩
 have hK:=Hi hK rv
 refine zm<|A9 fc rfl rfl rfl (.inl ⟨rfl,rfl⟩) (.inr ⟨_,rfl⟩) om (by rw[List.length_replicate];omega)<|aC (Wo w.heap.size w.heap.size _ _ w5 hB so (by have:=hK.size;omega)) ?_
 rintro _ w6 ⟨_,hB,rv⟩
 have hK:=Hi hK rv
 refine ag ?_
 exact⟨gg+min gg (c-gg),⟨rfl,rfl,rfl,rfl⟩,⟨hK,by have e1:List.replicate gg 115++((List.replicate gg (115:UInt8)).drop 0).take (min gg (c-gg)-0)=List.replicate (gg+min gg (c-gg)) 115:=by{rw[List.drop_zero,Nat.sub_zero,List.take_replicate,List.replicate_append_replicate];congr 1;omega};rw[<-e1];exact hB,om,om⟩,om⟩
 have he:gg=c:=by omega
 refine gB<|gC rfl<|zr<|aC (Wp _ _ _ (by intro h;have:=congrArg List.length h;simp at this;omega) w4 hB) ?_
 rintro _ w5 ⟨rfl,hB,rv⟩
 have hK:=Hi hK rv
 refine zA<|ag<|aV ?_
 exact⟨_,rfl,by rw[<-he];rfl,hK⟩
theorem akI (h:aj) (n:Nat) (hn:n<=8000) (w:World):cj Tryz.prog 92 [str h,.int .i64 (n:Int)] w λr w'=>r=str (gZ h n)∧ak [] w w':=by
 have hK:=ak.refl [] w
 refine cV [.tmp 4] 33 Tryz.func92 rfl ZG rfl rfl ?_
 refine zr<|zA<|ag<|aQ<|zr<|zm<|ag<|cQ<|zr<|cW rfl rfl<|zA<|ag<|zc rfl (λh1=>?_) (λh1=>?_)
 have ey:=h1
 refine zr<|zA<|ag<|aV ?_
 exact⟨_,rfl,show str _=str _ from congrArg _ (by rw[gZ,iP ey]),hK⟩
 have ey:=h1
 refine aQ<|zr<|cW rfl rfl<|zA<|ag ?_
 refine jg (λ_:Unit=>[(1,.int .i64 (n:Int)),(5,str h),(8,.bool (decide (h=[109,111,118])||decide (h=[111,112,101,110])))]) (λ_ w'=>w'=w) ?_ ?_
 refine zc rfl (λh2=>?_) (λh2=>?_)
 refine bz ?_
 exact⟨(),⟨rfl,rfl,congrArg Value.bool (zD h2)⟩,rfl⟩
 refine db<|cW rfl rfl<|zA<|ag ?_
 exact⟨(),⟨rfl,rfl,congrArg Value.bool (zE h2)⟩,rfl⟩
 intro gu w1 e1 hI
 obtain rfl:=hI
 refine zc rfl (λh3=>?_) (λh3=>?_)
 have bC:=zF h3
 refine zr<|zA<|ag<|aV ?_
 exact⟨_,rfl,show str _=str _ from congrArg _ (by rw[gZ,iN ey,iP bC]),hK⟩
 have bC:=zG h3
 refine aQ<|zr<|cW rfl rfl<|zA<|ag ?_
 refine jg (λ_:Unit=>[(1,.int .i64 (n:Int)),(5,str h),(11,.bool (decide (h=[97,100,100])||decide (h=[115,117,98])||decide (h=[109,117,108])))]) (λ_ w'=>w'=w1) ?_ ?_
 refine zc rfl (λh4=>?_) (λh4=>?_)
 refine bz ?_
 exact⟨(),⟨rfl,rfl,congrArg Value.bool (Qf h4)⟩,rfl⟩
 have fS:=h4
 refine zr<|cW rfl rfl<|zA<|ag<|zc rfl (λh5=>?_) (λh5=>?_)
 refine bz ?_
 exact⟨(),⟨rfl,rfl,congrArg Value.bool (Qg fS h5)⟩,rfl⟩
 refine db<|cW rfl rfl<|zA<|ag ?_
 exact⟨(),⟨rfl,rfl,congrArg Value.bool (Qh fS h5)⟩,rfl⟩
 intro gu w2 e2 hI
 obtain rfl:=hI
 refine zc rfl (λh6=>?_) (λh6=>?_)
 have bX:=Qi h6
 refine zr<|zA<|ag<|aV ?_
 exact⟨_,rfl,show str _=str _ from congrArg _ (by rw[gZ,iN ey,iN bC,iP bX]),hK⟩
 have bX:=Qj h6
 refine zr<|cW rfl rfl<|zA<|ag<|zc rfl (λh7=>?_) (λh7=>?_)
 have er:=h7
 refine zr<|zm<|mJ rfl rfl rfl rfl rfl (wrap_i64 _ om om)<|XA rfl rfl rfl rfl (show(if(0:Int)<(n:Int)-2 then(n:Int)-2 else 0)=((n-2:Nat):Int) from by split<;>omega)<|aC (akH (n-2) om w2) ?_
 rintro v3 w3 ⟨eh,aJ⟩
 have fZ:=aJ.size
 have hK:=hK.ext aJ
 obtain rfl:=eh
 refine cm rfl rfl so<|zA<|ag<|aV ?_
 exact⟨_,rfl,show str _=str _ from congrArg _ (by rw[gZ,iN ey,iN bC,iN bX,iP er]),hK⟩
 have er:=h7
 refine zr<|cW rfl rfl<|zA<|ag<|zc rfl (λh8=>?_) (λh8=>?_)
 have jJ:=h8
 refine zr<|zA<|ag<|aV ?_
 exact⟨_,rfl,show str _=str _ from congrArg _ (by rw[gZ,iN ey,iN bC,iN bX,iN er,iP jJ]),hK⟩
 have jJ:=h8
 refine zr<|cW rfl rfl<|zA<|ag<|zc rfl (λh9=>?_) (λh9=>?_)
 have jY:=h9
 refine zr<|zA<|ag<|aV ?_
 exact⟨_,rfl,show str _=str _ from congrArg _ (by rw[gZ,iN ey,iN bC,iN bX,iN er,iN jJ,iP jY]),hK⟩
 have jY:=h9
 refine zr<|cW rfl rfl<|zA<|ag<|zc rfl (λgF=>?_) (λgF=>?_)
 have qj:=gF
 refine zr<|zA<|ag<|aV ?_
 exact⟨_,rfl,show str _=str _ from congrArg _ (by rw[gZ,iN ey,iN bC,iN bX,iN er,iN jJ,iN jY,iP qj]),hK⟩
 have qj:=gF
 refine zr<|cW rfl rfl<|zA<|ag<|zc rfl (λkn=>?_) (λkn=>?_)
 have zI:=kn
 refine zr<|zA<|ag<|aV ?_
 exact⟨_,rfl,show str _=str _ from congrArg _ (by rw[gZ,iN ey,iN bC,iN bX,iN er,iN jJ,iN jY,iN qj,iP zI]),hK⟩
 have zI:=kn
 refine aQ<|zr<|cW rfl rfl<|zA<|ag ?_
 refine jg (λ_:Unit=>[(5,str h),(30,.bool (decide (h=[106,117,109,112])||decide (h=[104,97,108,116])))]) (λ_ w'=>w'=w2) ?_ ?_
 refine zc rfl (λjK=>?_) (λjK=>?_)
 refine bz ?_
 exact⟨(),⟨rfl,congrArg Value.bool (zD jK)⟩,rfl⟩
 refine db<|cW rfl rfl<|zA<|ag ?_
 exact⟨(),⟨rfl,congrArg Value.bool (zE jK)⟩,rfl⟩
 intro gu w3 e3 hI
 obtain rfl:=hI
 refine zc rfl (λlH=>?_) (λlH=>?_)
 have vN:=zF lH
 refine zr<|zA<|ag<|aV ?_
 exact⟨_,rfl,show str _=str _ from congrArg _ (by rw[gZ,iN ey,iN bC,iN bX,iN er,iN jJ,iN jY,iN qj,iN zI,iP vN]),hK⟩
 have vN:=zG lH
 refine bz<|zr<|zA<|ag<|aV ?_
 exact⟨_,rfl,show str _=str _ from congrArg _ (by rw[gZ,iN ey,iN bC,iN bX,iN er,iN jJ,iN jY,iN qj,iN zI,iN vN]),hK⟩
theorem akJ {ts:List aA} (h:fG L w v ts):∃a c,v= .slice a ts.length c:=by
 obtain⟨a,c,rfl,_⟩:=rH h
 exact⟨a,c,by rw[iG]⟩
theorem akK (t:aA) (hs:t.size<=12001) (dx:WF t) (v:Value) (L:List Nat) (w:World) (hv:bS L w v t):
  cj Tryz.prog 61 [v] w λr w'=>r= .bool (dH t)∧ak [] w w':=by
 have dI:=hv
 obtain⟨a,n,c,rfl,hn,bc⟩:=dM hv
 have hK:=ak.refl [] w
 have hn8:=aa6 dx
 subst hn
 have hσ:=aa5 (cH t) t.au.length
 refine cV [.tmp 2] 78 Tryz.func61 rfl Zj rfl rfl ?_
 refine zr<|fE rfl ?_
 intro w1 aK aT dY
 have hK:=hK.ext aK;have bc:=bc.ext aK;have dI:=dI.ext aK
 refine zA<|ag<|aQ ?_
 refine qf ei aS 7 (rA 7 6++[3]) (rA 7 6++[3]) [[],[0],[],[2],[3],[1,4],[5]] [λv _=>v=(.agg #[str t.az,.slice a t.au.length c]),λv _=>v=(str (cH t)),λv _=>v=(.pointer (some ⟨w.heap.size,0+1,none⟩)),λv _=>v=(.slice a t.au.length c),λv _=>v=(.int .i64 (t.au.length:Int)),λv _=>v=(str (gZ (cH t) t.au.length)),λv _=>v=(str (gZ (cH t) t.au.length))] de (cX (cX (cX (cX (cX (cX (cX trivial))))))) (λwd aB=>?_) ?_
 refine bN ?_ ?_
 intro x vs w2 e aq hd he
 replace aq:=aS.trans aB aq
 have aT:=aT.ext aq
 replace he:e=aM (aN _ x _) []:=he
 subst he
 refine zL j8 fb rfl aT.all rfl<|ag ?_
 exact dn (aS.refl _) rfl
 refine bN ?_ ?_
 intro x vs w2 e aq hd he
 have d0:vs 0=(.agg #[str t.az,.slice a t.au.length c]):=hd
 replace aq:=aS.trans aB aq
 have dI:=dI.ext aq
 replace he:e=aM (aN _ x _) [(7,vs 0)]:=he
 rw[d0] at he
 subst he
 refine aC (Hg t dx _ L w2 dI) ?_
 rintro v3 w3 ⟨eh,aJ⟩
 have fZ:=aJ.size
 obtain rfl:=eh
 refine ag ?_
 exact dn (aS.of aJ) rfl
 refine bN ?_ ?_
 intro x vs w2 e aq hd he
 replace aq:=aS.trans aB aq
 replace he:e=aM (aN _ x _) []:=he
 subst he
 refine zf uA rfl<|ag ?_
 exact dn (aS.refl _) rfl
 refine bN ?_ ?_
 intro x vs w2 e aq hd he
 have d2:vs 2=(.pointer (some ⟨w.heap.size,0+1,none⟩)):=hd
 replace aq:=aS.trans aB aq
 have aT:=aT.ext aq
 replace he:e=aM (aN _ x _) [(9,vs 2)]:=he
 rw[d2] at he
 subst he
 refine zl sn rfl (aT.at rfl)<|ag ?_
 exact dn (aS.refl _) rfl
 refine bN ?_ ?_
 intro x vs w2 e aq hd he
 have d3:vs 3=(.slice a t.au.length c):=hd
 replace aq:=aS.trans aB aq
 replace he:e=aM (aN _ x _) [(10,vs 3)]:=he
 rw[d3] at he
 subst he
 refine dX nK rfl<|ag ?_
 exact dn (aS.refl _) rfl
 refine bN ?_ ?_
 intro x vs w2 e aq hd he
 have aR:(vs 1=(str (cH t)))∧(vs 4=(.int .i64 (t.au.length:Int))):=hd
 obtain⟨d1,d4⟩:=aR
 replace aq:=aS.trans aB aq
 replace he:e=aM (aN _ x _) [(8,vs 1),(11,vs 4)]:=he
 rw[d1,d4] at he
 subst he
 refine aC (akI (cH t) t.au.length om w2) ?_
 rintro v3 w3 ⟨eh,aJ⟩
 have fZ:=aJ.size
 obtain rfl:=eh
 refine ag ?_
 exact dn (aS.of aJ) rfl
 refine bN ?_ ?_
 intro x vs w2 e aq hd he
 have d5:vs 5=(str (gZ (cH t) t.au.length)):=hd
 replace aq:=aS.trans aB aq
 replace he:e=aM (aN _ x _) [(12,vs 5)]:=he
 rw[d5] at he
 subst he
 refine zA<|ag ?_
 exact dn (aS.refl _) rfl
 exact trivial
 intro x vs pS iA bJ
 have d0:vs 0=(.agg #[str t.az,.slice a t.au.length c]):=bJ 0 de
 have d1:vs 1=(str (cH t)):=bJ 1 de
 have d2:vs 2=(.pointer (some ⟨w.heap.size,0+1,none⟩)):=bJ 2 de
 have d3:vs 3=(.slice a t.au.length c):=bJ 3 de
 have d4:vs 4=(.int .i64 (t.au.length:Int)):=bJ 4 de
 have d5:vs 5=(str (gZ (cH t) t.au.length)):=bJ 5 de
 have d6:vs 6=(str (gZ (cH t) t.au.length)):=bJ 6 de
 have hK:=hK.ext iA;have bc:=bc.ext iA;have aT:=aT.ext iA
 change OW _ _ _ _ [] (aM (aN _ x _) (zZ 7 [vs 0,vs 1,vs 2,vs 3,vs 4,vs 5]++[(3,vs 6)])) _
 rw[d0,d1,d2,d3,d4,d5,d6]
 refine ag<|aQ<|zr<|zm<|cW rfl rfl<|zm ?_
 apply fz 8 15 23 [15,16,17,18,19,20,21,22,23] (λw'=>pS=w') rfl
 intro h1
 replace h1:=bw h1
 refine zs<|zs<|zs<|zs<|zs<|zs<|zs<|zp rfl<|ag ?_
 exact mg rfl rfl
 intro h1
 replace h1:=bw h1
 refine zf uA rfl<|zl sn rfl (aT.at rfl)<|dX nK rfl<|zm<|kL fc rfl rfl rfl<|eF rfl rfl rfl (wrap_i64 _ om om)<|uq rfl rfl rfl rfl rfl<|zp rfl<|ag ?_
 exact mg rfl rfl
 rintro xx _ rfl
 refine ag<|zc rfl (λh2=>?_) (λh2=>?_)
 have hb:gZ (cH t) t.au.length=[]∨t.au.length≠(gZ (cH t) t.au.length).length+1:=by simp only[oE,dE] at h2;rcases h2 with h|h;exact .inl h;exact .inr om
 refine zr<|zA<|ag<|aV ?_
 exact⟨_,rfl,by rw[HP hb];rfl,hK⟩
 have hb:¬(gZ (cH t) t.au.length=[]∨t.au.length≠(gZ (cH t) t.au.length).length+1):=by simp only[Bool.or_eq_false_iff,decide_eq_false_iff_not] at h2;rintro(h|h);exact h2.1 h;exact h2.2 om
 have eK:=List.length_pos_iff.2 (λh=>hb (.inl h))
 have hl:t.au.length=(gZ (cH t) t.au.length).length+1:=Classical.byContradiction λh=>hb (.inr h)
 obtain⟨b0,Av,_,_,_,rfl,_,_,_⟩:=j7 bc (iI (ps:=t.au) (i:=0) om)
 refine bz<|aQ<|zr<|zf uA rfl<|zl sn rfl (aT.at rfl)<|Hr (l:=1) nK fb rfl rfl rfl rfl om bc ?_
 intro CS bo
 have bo:fG L pS CS (t.au.drop 1):=by rw[fG,Pz];exact bo
 obtain⟨a1,c1,rfl⟩:=akJ bo
 have EH:(t.au.drop 1).length=t.au.length-1:=List.length_drop
 generalize hσe:gZ (cH t) t.au.length=σ at*
 refine dX nK rfl<|zm<|ag<|cQ ?_
 refine fW (λk:Nat=>[(1,.pointer (some ⟨w.heap.size,0,none⟩)),(3,str σ),(26,.slice a1 (t.au.drop 1).length c1),(27,.int .i64 ((t.au.drop 1).length:Int)),(28,.int .i64 (k:Int))]) (λk w'=>ak [] w w'∧ak [] pS w'∧k<=(t.au.drop 1).length∧∀i,i<k->ia ((σ.getD i 0).toNat:Int) (nth t.au (i+1))=true) (λk=>(t.au.drop 1).length-k) (0) (⟨rfl,rfl,rfl,rfl,rfl⟩) (⟨hK,ak.refl [] _,om,by intro i hi;omega⟩) ?_
 intro gg qw yd hI
 obtain⟨hK,aK,hk,dy⟩:=hI
 have bo:=bo.ext aK;have aT:=aT.ext aK
 have iW:=hK.size
 have aoU:=aK.size
 have iE:=aT.lt
 refine zr<|fy rfl rfl rfl<|ag<|aQ<|zc rfl (λh3=>?_) (λh3=>?_)
 have hp:=iI (ps:=t.au.drop 1) (i:=gg) om
 obtain⟨b1,fY,pa,pn,pc,rfl,kR,fP,ix⟩:=j7 bo hp
 rw[Wn] at kR fP ix
 have BE:=dx.nth (i:=gg+1) om
 have ou:=lY (t:=t) (i:=gg+1) om
 have Bw:=xC (nth t.au (gg+1))
 refine bz<|aQ<|cQ<|zr<|zm<|zi nK fb rfl rfl om<|zL j8 fb rfl kR rfl<|eA fb rfl rfl rfl ?_
 intro nN lI bP aoV
 have hK:=hK.grow;have hK:=hK.ext lI;have aK:=aK.grow;have aK:=aK.ext lI;have ix:=ix.grow;have ix:=ix.ext lI
 refine zA<|du fb rfl rfl rfl bP rfl ?_
 intro pW jR bP aiZ
 have hK:=hK.aL jR sx;have aK:=aK.aL jR sx;have ix:=ix.aL jR sx
 refine ag<|zr<|zA<|ag<|aQ<|zr<|zm<|zm ?_
 have my:=ak.refl [] pW
 refine kC fc rfl rfl rfl rfl (jI om)<|ag<|cQ<|aQ<|zr<|dO rfl rfl rfl<|zA<|ag ?_
 refine jg (λ_:Unit=>[(1,.pointer (some ⟨w.heap.size,0,none⟩)),(3,str σ),(5,.pointer (some ⟨qw.heap.size,0,none⟩)),(6,.bool false),(26,.slice (some ⟨b1,fY,none⟩) (t.au.drop 1).length c1),(27,.int .i64 ((t.au.drop 1).length:Int)),(28,.int .i64 (gg:Int)),(35,.int .u8 ((σ.getD gg 0).toNat:Int)),(36,.bool (decide (((σ.getD gg 0).toNat:Int)=100)||decide (((σ.getD gg 0).toNat:Int)=115)))]) (λ_ w'=>w'=pW) ?_ ?_
 refine zc rfl (λh4=>?_) (λh4=>?_)
 refine bz ?_
 exact⟨(),⟨rfl,rfl,rfl,rfl,rfl,rfl,rfl,rfl,congrArg Value.bool (zD h4)⟩,rfl⟩
 refine db<|dO rfl rfl rfl<|zA<|ag ?_
 exact⟨(),⟨rfl,rfl,rfl,rfl,rfl,rfl,rfl,rfl,congrArg Value.bool (zE h4)⟩,rfl⟩
 intro gu pQ e45 hI
 obtain rfl:=hI
 refine jg (λ_:Unit=>[(1,.pointer (some ⟨w.heap.size,0,none⟩)),(3,str σ),(6,.bool (ia ((σ.getD gg 0).toNat:Int) (nth t.au (gg+1)))),(26,.slice (some ⟨b1,fY,none⟩) (t.au.drop 1).length c1),(27,.int .i64 ((t.au.drop 1).length:Int)),(28,.int .i64 (gg:Int))]) (λ_ w'=>ak [] pQ w') ?_ ?_
 refine zc rfl (λh5=>?_) (λh5=>?_)
 have hz:=zF h5
 refine db<|zf zt rfl<|zl ck rfl (bP.at rfl)<|aC (akx _ om pQ) ?_
 rintro v46 qD ⟨yM,nG⟩
 have JR:=nG.size
 have my:=my.ext nG
 obtain rfl:=yM
 refine zA<|ag ?_
 exact⟨(),⟨rfl,rfl,by rw[ia,iP hz];rfl,rfl,rfl,rfl⟩,my⟩
 have hz:=zG h5
 refine zr<|dO rfl rfl rfl<|zA<|ag<|zc rfl (λh6=>?_) (λh6=>?_)
 refine db<|zf zt rfl<|zl ck rfl (bP.at rfl)<|aC (O9 _ om _) ?_
 rintro _ _ ⟨rfl,rfl⟩
 refine zA<|ag ?_
 exact⟨(),⟨rfl,rfl,by rw[ia,iN hz,iP h6];rfl,rfl,rfl,rfl⟩,my⟩
 have dY:=h6
 refine zr<|dO rfl rfl rfl<|zA<|ag<|zc rfl (λh7=>?_) (λh7=>?_)
 have eM:=h7
 refine db<|zf zt rfl<|zl ck rfl (bP.at rfl)<|aC (O9 _ om _) ?_
 rintro _ _ ⟨rfl,rfl⟩
 refine zm ?_
 apply fX 5 52 57 [52,53,54,55,56,57] (ak [] pQ) rfl
 intro h8
 replace h8:=bw h8
 have Hj:=ak.refl [] pQ
 obtain⟨z,Wq⟩:=Option.isSome_iff_exists.1 h8
 have Gj:z=(numeral (nth t.au (gg+1)).az).getD 0:=by rw[Wq];rfl
 refine zf zt rfl<|zl ck rfl (bP.at rfl)<|aC (Wj _ Wq pQ) ?_
 rintro v46 qD ⟨yM,nG⟩
 have JR:=nG.size
 have Hj:=Hj.ext nG
 obtain rfl:=yM
 rw[Gj]
 refine lX rfl rfl rfl rfl rfl<|zp rfl<|ag ?_
 exact mg rfl Hj
 intro h8
 replace h8:=bw h8
 have Hj:=ak.refl [] pQ
 refine zs<|zs<|zs<|zs<|zp rfl<|ag ?_
 exact mg rfl Hj
 intro xx qD nG
 have my:=my.ext nG
 refine zA<|ag ?_
 exact⟨(),⟨rfl,rfl,by rw[ia,iN hz,iN dY,iP eM];rfl,rfl,rfl,rfl⟩,my⟩
 have eM:=h7
 refine zr<|dO rfl rfl rfl<|zA<|ag<|zc rfl (λh9=>?_) (λh9=>?_)
 refine db<|zf zt rfl<|zl ck rfl (bP.at rfl)<|aC (Wk _ om _) ?_
 rintro _ _ ⟨rfl,rfl⟩
 refine zA<|ag ?_
 exact⟨(),⟨rfl,rfl,by rw[ia,iN hz,iN dY,iN eM,iP h9];rfl,rfl,rfl,rfl⟩,my⟩
 have iH:=h9
 refine zr<|dO rfl rfl rfl<|zA<|ag<|zc rfl (λgF=>?_) (λgF=>?_)
 have iS:=gF
 refine db<|zL j8 fb rfl bP.all rfl<|aC (aky (nth t.au (gg+1)) BE [101] 2 _ _ pQ (mO ix)) ?_
 rintro v46 qD ⟨yM,nG⟩
 have JR:=nG.size
 have ix:=ix.ext nG;have bP:=bP.ext nG;have my:=my.ext nG
 obtain rfl:=yM
 refine zm ?_
 apply fX 3 67 70 [67,68,69,70] (ak [] qD) rfl
 intro kn
 replace kn:=bw kn
 have Hk:=ak.refl [] qD
 refine zL j8 fb rfl bP.all rfl<|aC (Pa (nth t.au (gg+1)).size (nth t.au (gg+1)) (lR _) om BE false _ _ qD (mO ix)) ?_
 rintro v47 wK ⟨akL,jk⟩
 have aoX:=jk.size
 have Hk:=Hk.ext jk
 obtain rfl:=akL
 refine zp rfl<|ag ?_
 exact mg rfl Hk
 intro kn
 replace kn:=bw kn
 have Hk:=ak.refl [] qD
 refine zs<|zs<|zp rfl<|ag ?_
 exact mg rfl Hk
 intro xx wK jk
 have my:=my.ext jk
 refine zA<|ag ?_
 exact⟨(),⟨rfl,rfl,by rw[ia,iN hz,iN dY,iN eM,iN iH,iP iS,show decide ((nth t.au (gg+1)).au.length=2)=decide (((nth t.au (gg+1)).au.length:Int)=2) from decide_eq_decide.2 om];rfl,rfl,rfl,rfl⟩,my⟩
 have iS:=gF
 refine zr<|dO rfl rfl rfl<|zA<|ag<|zc rfl (λjK=>?_) (λjK=>?_)
 have jo:=jK
 refine db<|zL j8 fb rfl bP.all rfl<|aC (Pa (nth t.au (gg+1)).size (nth t.au (gg+1)) (lR _) om BE false _ _ pQ (mO ix)) ?_
 rintro v46 qD ⟨yM,nG⟩
 have JR:=nG.size
 have my:=my.ext nG
 obtain rfl:=yM
 refine zA<|ag ?_
 exact⟨(),⟨rfl,rfl,by rw[ia,iN hz,iN dY,iN eM,iN iH,iN iS,iP jo];rfl,rfl,rfl,rfl⟩,my⟩
 have jo:=jK
 refine bz ?_
 exact⟨(),⟨rfl,rfl,by rw[ia,iN hz,iN dY,iN eM,iN iH,iN iS,iN jo];rfl,rfl,rfl,rfl⟩,my⟩
 intro gu qD e46 hI
 have hK:=hK.ext hI;have aK:=aK.ext hI
 refine zr<|zm<|eJ rfl<|ag<|zc rfl (λlH=>?_) (λlH=>?_)
 subst hσe
 have hq:ia (((gZ (cH t) t.au.length).getD gg 0).toNat:Int) (nth t.au (gg+1))=false:=by simpa using lH
 refine zr<|zA<|ag<|aV ?_
 exact⟨_,rfl,by rw[aaL om hq];rfl,hK⟩
 have hq:ia ((σ.getD gg 0).toNat:Int) (nth t.au (gg+1))=true:=by simpa using lH
 refine bz<|db<|eF rfl rfl rfl (wrap_i64 _ om om)<|zm<|ag ?_
 exact⟨gg+1,⟨rfl,rfl,rfl,rfl,rfl⟩,⟨hK,aK,om,by intro i hi;rcases Nat.lt_or_ge i gg with h|h;exact dy i h;rw[show i=gg by omega];exact hq⟩,om⟩
 subst hσe
 have hq:=aaM hb (λi hi=>dy i om)
 refine gB<|gC rfl<|zr<|zA<|ag<|aV ?_
 exact⟨_,rfl,by rw[hq];rfl,hK⟩
theorem akM (t:aA) (dx:WF t) (v:Value) (L:List Nat) (w:World) (hv:bS L w v t):
  cj Tryz.prog 62 [v] w λr w'=>r= .bool (rO t)∧ak [] w w':=by
 have dI:=hv
 obtain⟨a,n,c,rfl,hn,bc⟩:=dM hv
 have hK:=ak.refl [] w
 refine cV [.tmp 2] 11 Tryz.func62 rfl Zk rfl rfl ?_
 refine zr<|fE rfl ?_
 intro w1 aK aT dY
 have hK:=hK.ext aK;have dI:=dI.ext aK
 refine zA<|ag<|zr<|zL j8 fb rfl aT.all rfl<|aC (Hg t dx _ L w1 dI) ?_
 rintro v2 w2 ⟨dA,aq⟩
 have eE:=aq.size
 have hK:=hK.ext aq;have dI:=dI.ext aq;have aT:=aT.ext aq
 obtain rfl:=dA
 refine cW rfl rfl<|zm ?_
 apply fz 4 6 10 [6,7,8,9,10] (ak [] w2) rfl
 intro h1
 replace h1:=bw h1
 have Hl:=ak.refl [] w2
 refine zs<|zs<|zs<|zp rfl<|ag ?_
 exact mg rfl Hl
 intro h1
 replace h1:=bw h1
 have Hl:=ak.refl [] w2
 refine zL j8 fb rfl aT.all rfl<|aC (Hg t dx _ L w2 dI) ?_
 rintro v3 w3 ⟨eh,aJ⟩
 have fZ:=aJ.size
 have Hl:=Hl.ext aJ
 obtain rfl:=eh
 refine cW rfl rfl<|zp rfl<|ag ?_
 exact mg rfl Hl
 intro xx w4 aF
 have hK:=hK.ext aF
 refine zA<|ag<|aV ?_
 exact⟨_,rfl,rfl,hK⟩
def akN (L:List Nat) (d:Nat) (s:aj) (v:Value) (w:World):Prop:=
 ∃t tv r ok,v= .tuple #[tv,str r,.bool ok]∧bS L w tv t∧BD d s t r ok
theorem akO:∀(d:Nat) (s:aj) (L:List Nat) (w:World),d<=60->s.length<=12000->(∀x,x∈L->x<w.heap.size)->
  cj Tryz.prog 64 [str s,.int .i64 ((60:Int)-(d:Int))] w λv w'=>akN L d s v w'∧ak [] w w':=by
 intro d
 induction d using Nat.strongRecOn with
 |_ d ih=>
 intro s L w hd hs hL
 have hK:=ak.refl [] w
 refine lF [.cell 4 58,.tmp 5,.tmp 6] 78 Tryz.func64 rfl Zl rfl rfl rfl ?_
 refine zr<|eA fb rfl rfl rfl ?_
 intro w1 aK aI dY
 have hK:=hK.grow;have hK:=hK.ext aK
 refine zA<|zA<|ag<|aQ<|zr<|zm<|aC (akq _ _ _) ?_
 rintro _ _ ⟨rfl,rfl⟩
 refine eJ rfl<|ag<|zc rfl (λh1=>?_) (λh1=>?_)
 have wk:=h1
 refine zr<|zA<|ag<|aQ<|cQ ?_
 refine fW (λk:Nat=>[(0,str s),(1,.int .i64 ((60:Int)-(d:Int))),(4,.pointer (some ⟨w.heap.size,0,none⟩)),(7,.int .i64 (k:Int))]) (λk w'=>w'=w1∧k<=(s.takeWhile fA).length) (λk=>s.length-k) (0) (⟨rfl,rfl,rfl,rfl⟩) (⟨rfl,om⟩) ?_
 intro gg w2 e2 hI
 obtain⟨rfl,Dc⟩:=hI
 have E1:=Kn fA s gg Dc
 have gv:=EP fA s
 refine aQ<|zr<|zm<|zm<|kL fc rfl rfl rfl<|fy rfl rfl rfl<|zm ?_
 apply fX 5 19 24 [19,20,21,22,23,24] (λw'=>w2=w') rfl
 intro h2
 replace h2:=bw h2
 refine zm<|zm<|kC fc rfl rfl rfl rfl (jI om)<|aC (akv _ _) ?_
 rintro _ _ ⟨rfl,rfl⟩
 refine zp rfl<|ag ?_
 exact mg rfl rfl
 intro h2
 replace h2:=bw h2
 refine zs<|zs<|zs<|zs<|zp rfl<|ag ?_
 exact mg rfl rfl
 rintro xx _ rfl
 refine ag<|zc rfl (λh3=>?_) (λh3=>?_)
 have eU:=E1.2 (by simpa using h3)
 refine bz<|cQ<|db<|zm<|eF rfl rfl rfl (wrap_i64 _ om om)<|zA<|ag ?_
 exact⟨gg+1,⟨rfl,rfl,rfl,rfl⟩,⟨rfl,om⟩,om⟩
 have E2:gg=(s.takeWhile fA).length:=Nat.le_antisymm Dc (Nat.le_of_not_lt (λhh=>by have hx:=E1.1 hh;rw[hx.2,Bool.and_true,decide_eq_false_iff_not] at h3;omega))
 refine gB<|gC rfl<|aQ ?_
 refine qf ei (cP w.heap.size ([str ((s.drop 0).take (gg-0)),.slice none 0 0]) 58) 12 (rA 27 9++[100009,5,6]) (rA 27 9++[100009,5,6]) [[],[],[0,1],[2],[],[],[4,5],[],[7],[3],[6],[8]] [λv _=>v=(str s),λv _=>v=(.int .i64 (gg:Int)),λv _=>v=(str ((s.drop 0).take (gg-0))),λv _=>v=(.agg #[str ((s.drop 0).take (gg-0)),.slice none 0 0]),λv _=>v=(str s),λv _=>v=(.int .i64 (gg:Int)),λv _=>v=(str ((s.drop gg).take (s.length-gg))),λv _=>v=(.int .i64 (gg:Int)),λv _=>v=(.bool (decide ((0:Int)<(gg:Int)))),λ_ ww=>aY ww w.heap.size ([str ((s.drop 0).take (gg-0)),.slice none 0 0]).toArray 58,λv _=>v=(str ((s.drop gg).take (s.length-gg))),λv _=>v=(.bool (decide ((0:Int)<(gg:Int))))] de (cX (cX (cX (cX (cX (cX (cX (cX (cX (CY (cX (cX trivial)))))))))))) (λwd aB=>?_) ?_
 refine bN ?_ ?_
 intro x vs w3 e aJ hd he
 replace aJ:=(cP w.heap.size ([str ((s.drop 0).take (gg-0)),.slice none 0 0]) 58).trans aB aJ
 replace he:e=aM (aN _ x _) []:=he
 subst he
 refine zm<|ag ?_
 exact dn ((cP w.heap.size ([str ((s.drop 0).take (gg-0)),.slice none 0 0]) 58).refl _) rfl
 refine bN ?_ ?_
 intro x vs w3 e aJ hd he
 replace aJ:=(cP w.heap.size ([str ((s.drop 0).take (gg-0)),.slice none 0 0]) 58).trans aB aJ
 replace he:e=aM (aN _ x _) []:=he
 subst he
 refine zm<|ag ?_
 exact dn ((cP w.heap.size ([str ((s.drop 0).take (gg-0)),.slice none 0 0]) 58).refl _) rfl
 refine bN ?_ ?_
 intro x vs w3 e aJ hd he
 have aR:(vs 0=(str s))∧(vs 1=(.int .i64 (gg:Int))):=hd
 obtain⟨d0,d1⟩:=aR
 replace aJ:=(cP w.heap.size ([str ((s.drop 0).take (gg-0)),.slice none 0 0]) 58).trans aB aJ
 replace he:e=aM (aN _ x _) [(27,vs 0),(28,vs 1)]:=he
 rw[d0,d1] at he
 subst he
 refine A9 fc rfl rfl rfl (.inl ⟨rfl,rfl⟩) (.inr ⟨_,rfl⟩) om om<|ag ?_
 exact dn ((cP w.heap.size ([str ((s.drop 0).take (gg-0)),.slice none 0 0]) 58).refl _) rfl
 refine bN ?_ ?_
 intro x vs w3 e aJ hd he
 have d2:vs 2=(str ((s.drop 0).take (gg-0))):=hd
 replace aJ:=(cP w.heap.size ([str ((s.drop 0).take (gg-0)),.slice none 0 0]) 58).trans aB aJ
 replace he:e=aM (aN _ x _) [(29,vs 2)]:=he
 rw[d2] at he
 subst he
 refine j5 (ZR _ _) rfl rfl<|ag ?_
 exact dn ((cP w.heap.size ([str ((s.drop 0).take (gg-0)),.slice none 0 0]) 58).refl _) rfl
 refine bN ?_ ?_
 intro x vs w3 e aJ hd he
 replace aJ:=(cP w.heap.size ([str ((s.drop 0).take (gg-0)),.slice none 0 0]) 58).trans aB aJ
 replace he:e=aM (aN _ x _) []:=he
 subst he
 refine zm<|ag ?_
 exact dn ((cP w.heap.size ([str ((s.drop 0).take (gg-0)),.slice none 0 0]) 58).refl _) rfl
 refine bN ?_ ?_
 intro x vs w3 e aJ hd he
 replace aJ:=(cP w.heap.size ([str ((s.drop 0).take (gg-0)),.slice none 0 0]) 58).trans aB aJ
 replace he:e=aM (aN _ x _) []:=he
 subst he
 refine zm<|ag ?_
 exact dn ((cP w.heap.size ([str ((s.drop 0).take (gg-0)),.slice none 0 0]) 58).refl _) rfl
 refine bN ?_ ?_
 intro x vs w3 e aJ hd he
 have aR:(vs 4=(str s))∧(vs 5=(.int .i64 (gg:Int))):=hd
 obtain⟨d4,d5⟩:=aR
 replace aJ:=(cP w.heap.size ([str ((s.drop 0).take (gg-0)),.slice none 0 0]) 58).trans aB aJ
 replace he:e=aM (aN _ x _) [(31,vs 4),(32,vs 5)]:=he
 rw[d4,d5] at he
 subst he
 refine A9 fc rfl rfl rfl (.inr ⟨_,rfl⟩) (.inl ⟨rfl,rfl⟩) om om<|ag ?_
 exact dn ((cP w.heap.size ([str ((s.drop 0).take (gg-0)),.slice none 0 0]) 58).refl _) rfl
 refine bN ?_ ?_
 intro x vs w3 e aJ hd he
 replace aJ:=(cP w.heap.size ([str ((s.drop 0).take (gg-0)),.slice none 0 0]) 58).trans aB aJ
 replace he:e=aM (aN _ x _) []:=he
 subst he
 refine zm<|ag ?_
 exact dn ((cP w.heap.size ([str ((s.drop 0).take (gg-0)),.slice none 0 0]) 58).refl _) rfl
 refine bN ?_ ?_
 intro x vs w3 e aJ hd he
 have d7:vs 7=(.int .i64 (gg:Int)):=hd
 replace aJ:=(cP w.heap.size ([str ((s.drop 0).take (gg-0)),.slice none 0 0]) 58).trans aB aJ
 replace he:e=aM (aN _ x _) [(34,vs 7)]:=he
 rw[d7] at he
 subst he
 refine jx rfl rfl rfl rfl rfl<|ag ?_
 exact dn ((cP w.heap.size ([str ((s.drop 0).take (gg-0)),.slice none 0 0]) 58).refl _) rfl
 refine bN ?_ ?_
 intro x vs w3 e aJ hd he
 have d3:vs 3=(.agg #[str ((s.drop 0).take (gg-0)),.slice none 0 0]):=hd
 replace aJ:=(cP w.heap.size ([str ((s.drop 0).take (gg-0)),.slice none 0 0]) 58).trans aB aJ
 obtain⟨us,uX,uY⟩:=aJ.2.2 ⟨_,(by rfl),aI⟩
 replace he:e=aM (aN _ x _) [(30,vs 3)]:=he
 rw[d3] at he
 subst he
 refine du fb rfl rfl rfl uY (by rw[uX];rfl) ?_
 intro w4 aF hb iS
 refine ag ?_
 exact dn ⟨aF,λ_=>hb,λ_=>⟨_,rfl,hb⟩⟩ hb
 refine bN ?_ ?_
 intro x vs w3 e aJ hd he
 have d6:vs 6=(str ((s.drop gg).take (s.length-gg))):=hd
 replace aJ:=(cP w.heap.size ([str ((s.drop 0).take (gg-0)),.slice none 0 0]) 58).trans aB aJ
 replace he:e=aM (aN _ x _) [(33,vs 6)]:=he
 rw[d6] at he
 subst he
 refine zA<|ag ?_
 exact dn ((cP w.heap.size ([str ((s.drop 0).take (gg-0)),.slice none 0 0]) 58).refl _) rfl
 refine bN ?_ ?_
 intro x vs w3 e aJ hd he
 have d8:vs 8=(.bool (decide ((0:Int)<(gg:Int)))):=hd
 replace aJ:=(cP w.heap.size ([str ((s.drop 0).take (gg-0)),.slice none 0 0]) 58).trans aB aJ
 replace he:e=aM (aN _ x _) [(35,vs 8)]:=he
 rw[d8] at he
 subst he
 refine zA<|ag ?_
 exact dn ((cP w.heap.size ([str ((s.drop 0).take (gg-0)),.slice none 0 0]) 58).refl _) rfl
 exact trivial
 intro x vs qw tV bJ
 have d0:vs 0=(str s):=bJ 0 de
 have d1:vs 1=(.int .i64 (gg:Int)):=bJ 1 de
 have d2:vs 2=(str ((s.drop 0).take (gg-0))):=bJ 2 de
 have d3:vs 3=(.agg #[str ((s.drop 0).take (gg-0)),.slice none 0 0]):=bJ 3 de
 have d4:vs 4=(str s):=bJ 4 de
 have d5:vs 5=(.int .i64 (gg:Int)):=bJ 5 de
 have d6:vs 6=(str ((s.drop gg).take (s.length-gg))):=bJ 6 de
 have d7:vs 7=(.int .i64 (gg:Int)):=bJ 7 de
 have d8:vs 8=(.bool (decide ((0:Int)<(gg:Int)))):=bJ 8 de
 have d9:aY qw w.heap.size ([str ((s.drop 0).take (gg-0)),.slice none 0 0]).toArray 58:=bJ 9 de
 have d10:vs 10=(str ((s.drop gg).take (s.length-gg))):=bJ 10 de
 have d11:vs 11=(.bool (decide ((0:Int)<(gg:Int)))):=bJ 11 de
 have hK:=hK.aL tV.1 sx
 have aI:=d9
 change OW _ _ _ _ [] (aM (aN _ x _) (zZ 27 [vs 0,vs 1,vs 2,vs 3,vs 4,vs 5,vs 6,vs 7,vs 8]++[(100009,vs 9),(5,vs 10),(6,vs 11)])) _
 rw[d0,d1,d2,d3,d4,d5,d6,d7,d8,d10,d11]
 refine ag<|aV<|⟨[_,_,_],⟨gO j8 fb rfl aI rfl,rfl,rfl⟩,⟨.mk (s.takeWhile fA) [],_,s.dropWhile fA,_,by rw[List.drop_zero,Nat.sub_zero,E2,Hx,K8,C3];rfl,lE oU,?_⟩,hK⟩
 unfold BD
 rw[abk wk]
 by_cases hz:s.takeWhile fA=[]
 rw[iP hz];exact .inr ⟨rfl,by simp[hz]⟩
 rw[iN hz];refine .inl ⟨rfl,dT ?_⟩;have:=List.length_pos_iff.2 hz;omega
 obtain⟨r0,rfl⟩:=abi h1
 refine bz<|aQ<|zr<|zm<|dO rfl rfl rfl<|ag<|zc rfl (λh4=>?_) (λh4=>?_)
 have OC:d=0:=by omega
 refine zr<|j5 (Ku _) rfl rfl<|du fb rfl rfl rfl aI rfl ?_
 intro w2 aq aI eM
 have hK:=hK.aL aq sx
 refine zA<|zA<|ag<|aV ?_
 exact⟨[_,_,_],⟨gO j8 fb rfl aI rfl,rfl,rfl⟩,⟨.mk [] [],_,[],_,rfl,lE oU,.inr ⟨by rw[OC];simp[fa],rfl⟩⟩,hK⟩
 have aR:∃d',d=d'+1:=⟨d-1,om⟩
 obtain⟨d',rfl⟩:=aR
 refine bz<|zr<|eA fb rfl rfl rfl ?_
 intro w2 aq dv eM
 have hK:=hK.grow;have hK:=hK.ext aq;have aI:=aI.grow;have aI:=aI.ext aq
 refine ag<|cQ ?_
 have aoZ:=aI.lt
 refine fW (λq:List aA×aj×Option Addr×Nat×Option Nat=>[(0,str q.2.1),(1,.int .i64 ((60:Int)-((d'+1:Nat):Int))),(4,.pointer (some ⟨w.heap.size,0,none⟩)),(8,.pointer (some ⟨w1.heap.size,0,none⟩))]) (λq w'=>ak [] w w'∧aY w' w.heap.size [str [],.slice none 0 0].toArray 58∧aY w' w1.heap.size [str [],.slice q.2.2.1 q.1.length q.2.2.2.1].toArray 58∧Gr w.heap.size (w.heap.size::w1.heap.size::L) w' 58 2 (.slice q.2.2.1 q.1.length q.2.2.2.1) q.2.2.2.2 (dD q.1)∧0<q.2.1.length∧q.2.1.length+q.1.length<=12000∧mN (d'+1) r0=(mN (d'+1) (q.2.1.drop 1)).map (λp=>(q.1++p.1,p.2))) (λq=>q.2.1.length) (([],40::r0,none,0,none)) (⟨rfl,rfl,rfl,rfl⟩) (⟨hK,aI,dv,Gr.nil (by intro x hx;simp at hx;rcases hx with rfl|rfl|hx;omega;omega;have:=hL x hx;omega) om,sm,by simp at hs⊢;omega,sm⟩) ?_
 intro gg w3 e3 hI
 obtain⟨acc,sc,a,cc,g⟩:=gg
 dsimp only at hI⊢
 obtain⟨hK,aI,dv,hO,SC,ao0,sq⟩:=hI
 have iW:=hK.size
 have Wr:=aI.lt
 have ao1:=dv.lt
 refine cQ<|zr<|zm<|A9 (l:=1) fc rfl rfl rfl (.inr ⟨_,rfl⟩) (.inl ⟨rfl,rfl⟩) om om<|zm<|eF rfl rfl rfl (show IntKind.i64.wrap ((60:Int)-((d'+1:Nat):Int)+1)=(60:Int)-(d':Int) by rw[wrap_i64 _ om om];omega) ?_
 rw[K8]
 refine aC (ih d' om (sc.drop 1) (g.toList++(w.heap.size::w1.heap.size::L)) w3 om so hO.all) ?_
 rintro v4 w4 ⟨eH,aF⟩
 have gI:=aF.size
 have hK:=hK.ext aF;have aI:=aI.ext aF;have dv:=dv.ext aF;have hO:=hO.ext aF
 obtain⟨t,tv,r,ok,rfl,ht,hm⟩:=eH
 obtain⟨pa,pn,pc,rfl,fP,bc⟩:=dM ht
 subst fP
 refine zm<|zx (i:=0) rfl rfl<|zx (i:=1) rfl rfl<|zx (i:=2) rfl rfl<|eA fb rfl rfl rfl ?_
 intro w5 aU cT jo
 have hK:=hK.grow;have hK:=hK.ext aU;have aI:=aI.grow;have aI:=aI.ext aU;have dv:=dv.grow;have dv:=dv.ext aU;have hO:=hO.alloc aU jo;have ht:=ht.grow;have ht:=ht.ext aU
 refine du fb rfl rfl rfl cT rfl ?_
 intro w6 bF cT lG
 have hK:=hK.aL bF sx;have aI:=aI.aL bF sx;have dv:=dv.aL bF sx;have hO:=hO.aL bF sx;have ht:=ht.aL bF sx
 refine zA<|zA<|ag<|aQ<|zr<|zm<|eJ rfl<|zm ?_
 apply fz 3 50 53 [50,51,52,53] (λw'=>w6=w') rfl
 intro h5
 replace h5:=bw h5
 refine zs<|zs<|zp rfl<|ag ?_
 exact mg rfl rfl
 intro h5
 replace h5:=bw h5
 refine zm<|cW rfl rfl<|zp rfl<|ag ?_
 exact mg rfl rfl
 rintro xx _ rfl
 refine zm ?_
 apply fz 9 54 63 [54,55,56,57,58,59,60,61,62,63] (λw'=>w6=w') rfl
 intro h6
 replace h6:=bw h6
 refine zs<|zs<|zs<|zs<|zs<|zs<|zs<|zs<|zp rfl<|ag ?_
 exact mg rfl rfl
 intro h6
 replace h6:=bw h6
 simp at h6
 have oA:=List.length_pos_iff.2 h6.2
 refine zm<|kC (i:=0) fc rfl rfl rfl rfl (jI oA)<|uq rfl rfl rfl rfl rfl<|zm ?_
 apply fX 4 58 62 [58,59,60,61,62] (λw'=>w6=w') rfl
 intro h7
 replace h7:=bw h7
 refine zm<|kC (i:=0) fc rfl rfl rfl rfl (jI oA)<|uq rfl rfl rfl rfl rfl<|zp rfl<|ag ?_
 exact mg rfl rfl
 intro h7
 replace h7:=bw h7
 refine zs<|zs<|zs<|zp rfl<|ag ?_
 exact mg rfl rfl
 rintro xx _ rfl
 refine zp rfl<|ag ?_
 exact mg rfl rfl
 rintro xx _ rfl
 refine ag<|zc rfl (λh8=>?_) (λh8=>?_)
 have hR:fa (d'+1) (40::r0)=none:=by rw[C4,sq,abn hm h8];rfl
 refine zr<|j5 (Ku _) rfl rfl<|du fb rfl rfl rfl aI rfl ?_
 intro w7 cw aI qg
 have hK:=hK.aL cw sx
 refine zA<|zA<|ag<|aV ?_
 exact⟨[_,_,_],⟨gO j8 fb rfl aI rfl,rfl,rfl⟩,⟨.mk [] [],_,[],_,rfl,lE oU,.inr ⟨hR,rfl⟩⟩,hK⟩
 obtain⟨oS,oA,ix⟩:=abo hm h8
 refine bz<|zr<|zf uA rfl<|zl sn rfl (dv.at rfl)<|zL j8 fb rfl cT.all rfl<|gD nK fb rfl rfl ?_
 intro w7 cw akP qg
 have hK:=hK.ext cw;have aI:=aI.ext cw;have dv:=dv.ext cw;have hO:=hO.ext cw;have ht:=ht.ext cw
 refine KZ nK fb rfl rfl rfl rfl rfl rfl hO akP ht.K0 om ?_
 intro a2 nL g2 w8 gS cu
 have dQ:=cu.size
 have hK:=hO.since hK cu
 have aI:=aI.aL cu (hO.Dk sm);have dv:=dv.aL cu (hO.Dk sm)
 refine zf uA rfl<|gW KG rfl rfl rfl dv rfl ?_
 intro w9 aG dv dN
 have hK:=hK.aL aG sx;have aI:=aI.aL aG sx;have gS:=gS.aL aG sx
 refine ag<|zr<|zm<|zA<|ag<|zr<|zm<|kC (i:=0) fc rfl rfl rfl rfl (jI oS)<|dO rfl rfl rfl<|ag<|zc rfl (λh9=>?_) (λh9=>?_)
 have zz:r.getD 0 0=41:=UInt8.toNat_inj.1 (by have Bo:(41:UInt8).toNat=41:=rfl;rw[Bo];omega)
 have hR:fa (d'+1) (40::r0)=some (.mk [] (acc++[t]),r.drop 1):=by rw[C4,sq,ix,iP zz];rfl
 refine aQ ?_
 refine qf ei (cP w.heap.size ([str [],.slice a2 (acc++[t]).length nL]) 58) 6 [75,76,77,100003,5,6] [75,76,77,100003,5,6] [[],[],[1],[0],[2],[]] [λv _=>v=(.agg #[str [],.slice a2 (acc++[t]).length nL]),λv _=>v=(str r),λv _=>v=(str ((r.drop 1).take (r.length-1))),λ_ ww=>aY ww w.heap.size ([str [],.slice a2 (acc++[t]).length nL]).toArray 58,λv _=>v=(str ((r.drop 1).take (r.length-1))),λv _=>v=(.bool true)] de (cX (cX (cX (CY (cX (cX trivial)))))) (λwd aB=>?_) ?_
 refine bN ?_ ?_
 intro x vs cM e bU hd he
 replace bU:=(cP w.heap.size ([str [],.slice a2 (acc++[t]).length nL]) 58).trans aB bU
 have dv:=dv.aL bU.1 sx
 replace he:e=aM (aN _ x _) []:=he
 subst he
 refine zL j8 fb rfl dv.all rfl<|ag ?_
 exact dn ((cP w.heap.size ([str [],.slice a2 (acc++[t]).length nL]) 58).refl _) rfl
 refine bN ?_ ?_
 intro x vs cM e bU hd he
 replace bU:=(cP w.heap.size ([str [],.slice a2 (acc++[t]).length nL]) 58).trans aB bU
 replace he:e=aM (aN _ x _) []:=he
 subst he
 refine zm<|ag ?_
 exact dn ((cP w.heap.size ([str [],.slice a2 (acc++[t]).length nL]) 58).refl _) rfl
 refine bN ?_ ?_
 intro x vs cM e bU hd he
 have d1:vs 1=(str r):=hd
 replace bU:=(cP w.heap.size ([str [],.slice a2 (acc++[t]).length nL]) 58).trans aB bU
 replace he:e=aM (aN _ x _) [(76,vs 1)]:=he
 rw[d1] at he
 subst he
 refine A9 (l:=1) fc rfl rfl rfl (.inr ⟨_,rfl⟩) (.inl ⟨rfl,rfl⟩) om om<|ag ?_
 exact dn ((cP w.heap.size ([str [],.slice a2 (acc++[t]).length nL]) 58).refl _) rfl
 refine bN ?_ ?_
 intro x vs cM e bU hd he
 have d0:vs 0=(.agg #[str [],.slice a2 (acc++[t]).length nL]):=hd
 replace bU:=(cP w.heap.size ([str [],.slice a2 (acc++[t]).length nL]) 58).trans aB bU
 obtain⟨us,uX,uY⟩:=bU.2.2 ⟨_,(by rfl),aI⟩
 replace he:e=aM (aN _ x _) [(75,vs 0)]:=he
 rw[d0] at he
 subst he
 refine du fb rfl rfl rfl uY (by rw[uX];rfl) ?_
 intro eW cK hb uC
 refine ag ?_
 exact dn ⟨cK,λ_=>hb,λ_=>⟨_,rfl,hb⟩⟩ hb
 refine bN ?_ ?_
 intro x vs cM e bU hd he
 have d2:vs 2=(str ((r.drop 1).take (r.length-1))):=hd
 replace bU:=(cP w.heap.size ([str [],.slice a2 (acc++[t]).length nL]) 58).trans aB bU
 replace he:e=aM (aN _ x _) [(77,vs 2)]:=he
 rw[d2] at he
 subst he
 refine zA<|ag ?_
 exact dn ((cP w.heap.size ([str [],.slice a2 (acc++[t]).length nL]) 58).refl _) rfl
 refine bN ?_ ?_
 intro x vs cM e bU hd he
 replace bU:=(cP w.heap.size ([str [],.slice a2 (acc++[t]).length nL]) 58).trans aB bU
 replace he:e=aM (aN _ x _) []:=he
 subst he
 refine zA<|ag ?_
 exact dn ((cP w.heap.size ([str [],.slice a2 (acc++[t]).length nL]) 58).refl _) rfl
 exact trivial
 intro x vs pe jC bJ
 have d0:vs 0=(.agg #[str [],.slice a2 (acc++[t]).length nL]):=bJ 0 de
 have d1:vs 1=(str r):=bJ 1 de
 have d2:vs 2=(str ((r.drop 1).take (r.length-1))):=bJ 2 de
 have d3:aY pe w.heap.size ([str [],.slice a2 (acc++[t]).length nL]).toArray 58:=bJ 3 de
 have d4:vs 4=(str ((r.drop 1).take (r.length-1))):=bJ 4 de
 have d5:vs 5=(.bool true):=bJ 5 de
 have hK:=hK.aL jC.1 sx;have gS:=gS.aL jC.1 sx
 have aI:=d3
 change OW _ _ _ _ [] (aM (aN _ x _) (zZ 75 [vs 0,vs 1,vs 2]++[(100003,vs 3),(5,vs 4),(6,vs 5)])) _
 rw[d0,d1,d2,d4,d5]
 refine ag<|aV ?_
 exact⟨[_,_,_],⟨gO j8 fb rfl aI rfl,rfl,rfl⟩,⟨.mk [] (acc++[t]),_,r.drop 1,_,by rw[K8];rfl,lE (gS.trees.ji (λx hx=>by simp[hx])),.inl ⟨hR,rfl⟩⟩,hK⟩
 have zz:r.getD 0 0≠41:=λh=>h9 (by rw[h];rfl)
 refine bz ?_
 exact⟨(acc++[t],r,a2,nL,g2),⟨rfl,rfl,rfl,rfl⟩,⟨hK,aI,dv,gS.ji (λx hx=>mK _ hx),oS,by simp at oA⊢;omega,by rw[sq,ix,iN zz,map_append]⟩,by simp at oA;dsimp only;omega⟩
end Go.Proofs.YtigijcjccmdmhaaGreatDoor
