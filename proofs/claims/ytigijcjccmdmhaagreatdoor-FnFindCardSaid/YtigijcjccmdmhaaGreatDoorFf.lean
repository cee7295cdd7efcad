/- Lemmas for the law FnFind, no statement of their own: no conditions. -/
import Derived.Test.YtigijcjccmdmhaaGreatDoorFe
import Derived.Shelf.Bits.Mul64
import Derived.Shelf.LaysM
import Derived.Shelf.Small.Wraps
import Derived.Shelf.Strconv.Atoi
import Derived.Shelf.Strconv.Itoa0
import Derived.Shelf.Strconv.Itoa1
import Derived.Shelf.Strconv.Itoa2
import Derived.Shelf.Strconv.Itoa3
import Derived.Shelf.Strings.Builder1
import Derived.Shelf.Strings.Builder2
import Derived.Shelf.Strings.Builder2Cap
import Derived.Shelf.Strings.BuilderF
import Derived.Shelf.Strings.BuilderK
import Derived.Shelf.Strings.Prefix
import Derived.Shelf.Strings.Repeat
namespace Go.Proofs.YtigijcjccmdmhaaGreatDoor
open Go
def OM:List aj:=[[97],[98],[99],[120,49],[121,48]]
def OO:List aj:=[[102],[103],[102,49]]
def OP:List aj:=[[120],[122],[120,50]]
def J1:List aj:=[[43],[45],[42]]
def Hi (d P:Nat):Prop:=∀(ns ts:List aj) (want:aj) (br q:Nat) (v1 v2:Value) (w:World),ns.length=ts.length->ns.length+2*d<=100->(∀x,x∈ns->x.length<=8000)->want.length+100*d<=26000->q+20*P<=800000000->dY w br q->bI [br] w v1 ns->bI [br] w v2 ts->
  ck Tryz.prog 85 [.pointer (some ⟨br,0,none⟩),.agg #[v1,v2],str want,.int .i64 (d:Int)] w λr w'=>(∃x,r=str x∧x.length<=100000*P)∧dY w' br (q+20*P)∧ak [br] w w'
def J2 {ns:List aj} {x:aj} (h:∀x,x∈ns->x.length<=8000) (hx:x.length<=8000):∀y,y∈ns++[x]->y.length<=8000:=λy hy=>by
 rcases mA.1 hy with h9|h9
 ·exact h y h9
 ·simp only[mS] at h9;rw[h9];exact hx
def V1 {s sg:aj} {o:Option (Ty×Ty)} (h:B1 s sg o):(sV o).length<=100∧(yh o).length<=100:=by
 cases o with
 |none=>exact⟨by decide,by decide⟩
 |some p=>
  obtain⟨g,_,_,h3⟩:=h
  have e:(Ty.op g p.1 p.2).n=1+p.1.n+p.2.n:=rfl
  have h1:=p.1.len
  have h2:=p.2.len
  exact⟨by show p.1.text.length<=100;omega,by show p.2.text.length<=100;omega⟩
def BuP (d P:Nat):Prop:=∀(ns ts:List aj) (want:aj) (br q:Nat) (v1 v2:Value) (w:World),ns.length=ts.length->ns.length+2*(d+1)<=100->(∀x,x∈ns->x.length<=8000)->want.length+100*(d+1)<=26000->q+40*P+20<=800000000->dY w br q->bI [br] w v1 ns->bI [br] w v2 ts->
  ck Tryz.prog 118 [.pointer (some ⟨br,0,none⟩),.agg #[v1,v2],str want,.int .i64 ((d+1:Nat):Int)] w λr w'=>(∃x,r=str x∧x.length<=200000*P+30000)∧dY w' br (q+40*P+10)∧ak [br] w w'
set_option maxHeartbeats 4000000 in
def aja (d P:Nat) (hd:d<=10) (hP:1<=P) (V2:P<=1000000) (ih:Hi d P):BuP d P:=by
 intro ns ts want br q v1 v2 w hl D8 hs hw hq h cW cU
 obtain⟨a1,n1,c1,rfl,fU⟩:=eP cW
 obtain⟨a2,n2,c2,rfl,fJ⟩:=eP cU
 subst fU
 subst fJ
 have iG:=h.lt
 have hk:=ak.refl [br] w
 refine cX [.tmp 8] 119 Tryz.func118 rfl XX rfl rfl ?_
 refine zr<|fG rfl ?_
 intro w1 aK bP eh
 have hk:=hk.ext aK;have h:=h.ext aK;have cW:=cW.ext aK;have cU:=cU.ext aK
 refine zA<|ag<|zr<|zm ?_
 have bP:fi [br] w1 w.heap.size _ _:=⟨bP,by simp;omega⟩
 refine aC (S9 want w1) ?_
 rintro v2 w2 ⟨dC,aq⟩
 have eH:=aq.size
 have hk:=hk.ext aq;have h:=h.ext aq;have cW:=cW.ext aq;have cU:=cU.ext aq;have bP:=bP.ext aq
 obtain⟨o1,xf,rfl⟩:=dC
 have hAB:=V1 xf
 refine zm<|zx (i:=0) rfl rfl<|zx (i:=1) rfl rfl<|zx (i:=2) rfl rfl<|zA<|zA<|zA<|ag<|zr<|zm<|aC (S8 want w2) ?_
 rintro v3 w3 ⟨er,aJ⟩
 have gd:=aJ.size
 have hk:=hk.ext aJ;have h:=h.ext aJ;have cW:=cW.ext aJ;have cU:=cU.ext aJ;have bP:=bP.ext aJ
 obtain⟨o2,vD,rfl⟩:=er
 have hCE:=V1 vD
 refine zm<|zx (i:=0) rfl rfl<|zx (i:=1) rfl rfl<|zx (i:=2) rfl rfl<|zA<|zA<|zA<|ag<|zr<|zm<|mN rfl rfl rfl rfl rfl (km d om _ om)<|zA<|ag<|aQ<|cS<|zr<|zm<|zA<|ag<|zc rfl (λh1=>?_) (λh1=>?_)
 refine aQ ?_
 apply kf et ([br]) 14 (rA 35 14) (rA 35 14) [[],[],[],[],(rA 0 4),[4],[5],[],[],[],[],(rA 7 4),[6,11],[12]] [Ie.v _,Ie.v _,Ie.v _,Ie.v _,Ie.q 0 (fun(v:Value)=>∃x,v=str x∧x.length<=100000*P),Ie.p (fun(G:List Nat) (v:Value) (ww:World)=>∃x,v=str x∧x.length<=100000*P+100),Ie.p (fun(G:List Nat) (v:Value) (ww:World)=>∃x,v=str x∧x.length<=100000*P+200),Ie.v _,Ie.v _,Ie.v _,Ie.v _,Ie.q 1 (fun(v:Value)=>∃x,v=str x∧x.length<=100000*P),Ie.p (fun(G:List Nat) (v:Value) (ww:World)=>∃x,v=str x∧x.length<=200000*P+300),Ie.p (fun(G:List Nat) (v:Value) (ww:World)=>∃x,v=str x∧x.length<=200000*P+400)] [4,11] [fun(G:List Nat) (vs:List Value) (ww:World)=>G=[br]∧ak [br] w3 ww∧dY ww br q,fun(G:List Nat) (vs:List Value) (ww:World)=>G=[br]∧ak [br] w3 ww∧dY ww br (q+20*P),fun(G:List Nat) (vs:List Value) (ww:World)=>G=[br]∧ak [br] w3 ww∧dY ww br (q+40*P)] de rfl ((λz hz=>by simp at hz;subst hz;exact h.lt)) (by exact⟨λG v w G' w' h k=>h,λG v w G' w' h k=>h,λG v w G' w' h k=>h,λG v w G' w' h k=>h,trivial⟩) (by exact⟨λG vs w w' ⟨h1,h2,h3⟩ k=>⟨h1,h2.ext k,h3.ext k⟩,λG vs w w' ⟨h1,h2,h3⟩ k=>⟨h1,h2.ext k,h3.ext k⟩,λG vs w w' ⟨h1,h2,h3⟩ k=>⟨h1,h2.ext k,h3.ext k⟩,trivial⟩) (⟨rfl,ak.refl _ _,h⟩)
 refine cT ?_
 refine vf (λx w4 G4 aW tj yU=>?_) ?_
 have bP:=bP.go tj
 refine zL mU kR rfl bP.all rfl ?_
 exact fv
 refine cT ?_
 refine cT ?_
 refine ve 0 (λx w4 G4 aW tj yU hJ hlen=>?_) ?_
 have bo:=jR hlen
 subst bo
 have cW:=cW.go tj;have cU:=cU.go tj
 obtain⟨cB,cD,h⟩:=hJ
 subst cB
 refine aC (ih ns ts (sV o1) br q _ _ w4 hl om hs om om h cW cU) ?_
 rintro v9 w5 ⟨⟨x9,e9,jh⟩,h,aG⟩
 subst e9
 exact fq ([br]) (Fr.of aG sm) ((λz hz=>lL (yU z hz) aG.size)) (⟨rfl,cD.trans aG,h.more om⟩) (⟨_,rfl,jh⟩)
 refine vf (λx w4 G4 aW tj yU=>?_) ?_
 intro v4 OQ d4
 obtain⟨y4,e4,BD⟩:=d4
 subst e4
 refine cu rfl rfl (by(try simp);omega) ?_
 exact ff (ak.refl _ _) (⟨_,rfl,by simp;omega⟩)
 refine vf (λx w4 G4 aW tj yU=>?_) ?_
 intro v5 d5
 obtain⟨y5,e5,hl5⟩:=d5
 subst e5
 refine cu rfl rfl (by(try simp);omega) ?_
 exact ff (ak.refl _ _) (⟨_,rfl,by simp;omega⟩)
 refine cT ?_
 refine vf (λx w4 G4 aW tj yU=>?_) ?_
 have bP:=bP.go tj
 refine zL mU kR rfl bP.all rfl ?_
 exact fv
 refine cT ?_
 refine cT ?_
 refine ve 1 (λx w4 G4 aW tj yU hJ hlen=>?_) ?_
 have aR:=jS hlen
 obtain⟨q0,bo⟩:=aR
 subst bo
 have cW:=cW.go tj;have cU:=cU.go tj
 obtain⟨cB,cD,h⟩:=hJ
 subst cB
 refine aC (ih ns ts (yh o1) br (q+20*P) _ _ w4 hl om hs om om h cW cU) ?_
 rintro v9 w5 ⟨⟨x9,e9,jh⟩,h,aG⟩
 subst e9
 exact fq ([br]) (Fr.of aG sm) ((λz hz=>lL (yU z hz) aG.size)) (⟨rfl,cD.trans aG,h.more om⟩) (⟨_,rfl,jh⟩)
 refine vf (λx w4 G4 aW tj yU=>?_) ?_
 intro v6 d6
 intro v11 ajc d11
 obtain⟨y6,e6,hl6⟩:=d6
 subst e6
 obtain⟨V3,Cp,V4⟩:=d11
 subst Cp
 refine cu rfl rfl (by(try simp);omega) ?_
 exact ff (ak.refl _ _) (⟨_,rfl,by simp;omega⟩)
 refine vf (λx w4 G4 aW tj yU=>?_) ?_
 intro v12 d12
 obtain⟨y12,qN,aje⟩:=d12
 subst qN
 refine cu rfl rfl (by(try simp);omega) ?_
 exact ff (ak.refl _ _) (⟨_,rfl,by simp;omega⟩)
 exact trivial
 intro x nS G43 aW aok aol hJ hlen
 have aR:=lP hlen
 obtain⟨q0,q1,bo⟩:=aR
 subst bo
 intro v4 OQ d4
 intro v5 d5
 intro v6 d6
 intro v11 ajc d11
 intro v12 d12
 intro wR d13
 change OW _ _ _ _ _ (aM (aN _ x _) (zZ 35 [_,_,_,_,_,_,_,_,_,_,_,_,_,_])) _
 obtain⟨cB,cD,h⟩:=hJ
 subst cB
 obtain⟨yz,ez,Ez⟩:=d13
 subst ez
 refine zA<|ag<|aV ?_
 exact⟨_,rfl,⟨yz,rfl,om⟩,h.more om,hk.trans cD⟩
 refine zr<|zm<|zA<|ag<|zc rfl (λh2=>?_) (λh2=>?_)
 refine zr<|zm<|pU bh bA rfl rfl rfl rfl rfl ?_
 intro w4 aF ajf iU
 have hk:=hk.ext aF;have h:=h.ext aF;have cW:=cW.ext aF;have cU:=cU.ext aF;have bP:=bP.ext aF
 have ox:=h.lt
 refine aC (mo OO de de br q om _ w4 h (aY.eF OO ajf (λhx=>by simp at hx;omega) de)) ?_
 rintro lz w5 ⟨⟨fn,ajg,ig⟩,h,aG⟩
 subst ig
 have aom:=(show∀x,x∈OO->x.length<=30 from by decide) _ ajg
 have hk:=hk.trans aG
 have cW:=cW.aL aG sm;have cU:=cU.aL aG sm;have bP:=bP.aL aG sm
 have ox:=h.lt
 refine zA<|ag<|zr<|zm<|pU bh bA rfl rfl rfl rfl rfl ?_
 intro w6 bF B5 lI
 have hk:=hk.ext bF;have h:=h.ext bF;have cW:=cW.ext bF;have cU:=cU.ext bF;have bP:=bP.ext bF
 refine aC (mo OP de de br (q+1) om _ w6 h (aY.eF OP B5 (λhx=>by simp at hx;omega) de)) ?_
 rintro lz w7 ⟨⟨xn,ajh,ig⟩,h,aG⟩
 subst ig
 have aon:=(show∀x,x∈OP->x.length<=30 from by decide) _ ajh
 have hk:=hk.trans aG
 have cW:=cW.aL aG sm;have cU:=cU.aL aG sm;have bP:=bP.aL aG sm
 have ox:=h.lt
 refine zA<|ag<|zr<|zL mU kR rfl bP.all rfl<|zm<|zm<|aC (JZ ns ts xn (sV o2) om om _ _ [br] w7 (λx hx=>by simp at hx;subst hx;exact h.lt) cW cU) ?_
 rintro v8 w8 ⟨p9,cv⟩
 have AF:=cv.size
 have hk:=hk.ext cv;have h:=h.ext cv;have cW:=cW.ext cv;have cU:=cU.ext cv;have bP:=bP.ext cv
 obtain⟨u1,u2,e9,rJ,rK⟩:=p9
 subst e9
 have cL:=eP rJ
 obtain⟨b1,m1,d1,e1,_⟩:=cL
 subst e1
 have cL:=eP rK
 obtain⟨b2,m2,d2,e2,_⟩:=cL
 subst e2
 refine eD kR rfl rfl rfl ?_
 intro w9 aG kl Nl
 have hsb:=h.lt
 have aoo:br<w8.heap.size:=hsb
 have aop:w.heap.size<w8.heap.size:=bP.lt
 have aoq:w.heap.size<=w8.heap.size:=hk.size
 have hk:=hk.ext aG;have h:=h.ext aG
 have cW:=(bI.fresh cW (L':=w8.heap.size::[br]) (λx hx=>by rcases mC.1 hx with h9|h9;(·right;omega);(·exact .inl h9))).ext aG
 have cU:=(bI.fresh cU (L':=w8.heap.size::[br]) (λx hx=>by rcases mC.1 hx with h9|h9;(·right;omega);(·exact .inl h9))).ext aG
 have rJ:=(bI.fresh rJ (L':=w8.heap.size::[br]) (λx hx=>by rcases mC.1 hx with h9|h9;(·right;omega);(·exact .inl h9))).ext aG
 have rK:=(bI.fresh rK (L':=w8.heap.size::[br]) (λx hx=>by rcases mC.1 hx with h9|h9;(·right;omega);(·exact .inl h9))).ext aG
 have bP:=(bP.ext aG)
 refine dw (vs:=[.slice b1 m1 d1,.slice b2 m2 d2]) kR rfl rfl rfl kl rfl ?_
 intro cO bV kl dP
 have hk:=hk.since bV (λx hx=>.inr (by simp at hx;omega))
 have h:=h.aO bV (λx hx=>by simp at hx;omega)
 have cW:=bI.aL cW bV sm
 have cU:=bI.aL cU bV sm
 have rJ:=bI.aL rJ bV sm
 have rK:=bI.aL rK bV sm
 have bP:fi [br] cO _ _ _:=⟨bP.jx.aO bV so,bP.out⟩
 refine ag<|aQ<|zr<|zm<|aC (mI 6 de de br (q+2) om cO h) ?_
 rintro v9 eY ⟨⟨z,e9,hz⟩,h,aG⟩
 subst e9
 have rJ:=bI.aL rJ aG sm
 have rK:=bI.aL rK aG sm
 have kl:=kl.aO aG so
 have hk:=hk.trans aG
 have cW:=cW.aL aG sm;have cU:=cU.aL aG sm;have bP:=bP.aL aG sm
 have ox:=h.lt
 refine dQ rfl rfl rfl<|ag ?_
 refine ji (λg:List aj×List aj×Value×Value=>[(0,.pointer (some ⟨br,0,none⟩)),(12,str (sV o2)),(13,str (yh o2)),(15,.int .i64 (d:Int)),(16,str fn),(17,str xn),(18,.pointer (some ⟨w8.heap.size,0,none⟩))]) (λg ww=>ak [br] w ww∧dY ww br (q+3)∧aY ww w8.heap.size [g.2.2.1,g.2.2.2].toArray 104∧bI [br] ww g.2.2.1 g.1∧bI [br] ww g.2.2.2 g.2.1∧g.1.length=g.2.1.length∧g.1.length+2*d<=100∧∀x,x∈g.1->x.length<=8000) ?_ ?_
 refine zc rfl (λh3=>?_) (λh3=>?_)
 refine df<|zL mU kR rfl bP.all rfl<|zm<|zm<|aC (JZ ns ts fn want om om _ _ (w8.heap.size::[br]) eY (λx hx=>by have:=kl.lt;simp at hx;rcases hx with hx|hx<;>omega) cW cU) ?_
 rintro v12 gj ⟨s8,dG⟩
 have Ea:=dG.size
 have hk:=hk.ext dG;have h:=h.ext dG;have kl:=kl.ext dG
 obtain⟨u3,u4,e9,rJ,rK⟩:=s8
 subst e9
 have cL:=eP rJ
 obtain⟨b3,m3,d3,e1,_⟩:=cL
 subst e1
 have cL:=eP rK
 obtain⟨b4,m4,d4,e2,_⟩:=cL
 subst e2
 refine zm<|zm<|aC (JZ (ns++[fn]) (ts++[want]) xn (sV o2) so so _ _ (w8.heap.size::[br]) gj (λx hx=>by have:=kl.lt;simp at hx;rcases hx with hx|hx<;>omega) rJ rK) ?_
 rintro wR jF ⟨vH,fM⟩
 have Gz:=fM.size
 have hk:=hk.ext fM;have h:=h.ext fM;have kl:=kl.ext fM
 obtain⟨u5,u6,e9,J3,J4⟩:=vH
 subst e9
 have cL:=eP J3
 obtain⟨b5,m5,d5,e1,_⟩:=cL
 subst e1
 have cL:=eP J4
 obtain⟨b6,m6,d6,e2,_⟩:=cL
 subst e2
 refine dw (vs:=[.slice b5 m5 d5,.slice b6 m6 d6]) kR rfl rfl rfl kl rfl ?_
 intro jg dM kl dP
 have hk:=hk.since dM (λx hx=>.inr (by simp at hx;omega))
 have h:=h.aO dM (λx hx=>by simp at hx;omega)
 have J3:=bI.aL J3 dM sm
 have J4:=bI.aL J4 dM sm
 refine ag ?_
 exact⟨((ns++[fn])++[xn],(ts++[want])++[sV o2],_,_),⟨rfl,rfl,rfl,rfl,rfl,rfl,rfl⟩,hk,h,kl,bI.fresh J3 (λx hx=>.inl (by simp at hx;simp[hx])),bI.fresh J4 (λx hx=>.inl (by simp at hx;simp[hx])),by simp;omega,by simp;omega,J2 (J2 hs om) om⟩
 refine bz ?_
 exact⟨(ns++[xn],ts++[sV o2],_,_),⟨rfl,rfl,rfl,rfl,rfl,rfl,rfl⟩,hk,h,kl,bI.fresh rJ (λx hx=>.inl (by simp at hx;simp[hx])),bI.fresh rK (λx hx=>.inl (by simp at hx;simp[hx])),by simp;omega,by simp;omega,J2 hs om⟩
 intro gu gj qN hI
 obtain⟨zs,us,p1,p2⟩:=gu
 dsimp only at hI⊢
 obtain⟨hk,h,kl,qp,uO,Hc,hzn,xr⟩:=hI
 have cL:=eP qp
 obtain⟨b1,m1,d1,e1,_⟩:=cL
 subst e1
 have cL:=eP uO
 obtain⟨b2,m2,d2,e2,_⟩:=cL
 subst e2
 refine zr<|zm<|cu rfl rfl so<|cu rfl rfl so<|zm<|cu rfl rfl so<|cu rfl rfl so<|zm<|cu rfl rfl so<|cu rfl rfl so<|zm<|cu rfl rfl so<|cu rfl rfl so<|zm<|zL mU kR rfl kl.all rfl<|zm<|zm ?_
 refine aC (ih zs us (yh o2) br (q+3) _ _ gj Hc om xr om om h qp uO) ?_
 rintro v9 jF ⟨⟨x9,e9,jh⟩,h,aG⟩
 subst e9
 have hk:=hk.trans aG
 refine cu rfl rfl so<|cu rfl rfl so<|zA<|ag<|aV ?_
 exact⟨_,rfl,⟨_,rfl,by simp;omega⟩,h.more om,hk⟩
 refine zr<|zm<|cY rfl rfl<|zm<|xw (t:=93) rfl (λh4=>?_) (λh4=>?_)
 replace h4:=bw h4
 refine zm<|aC (mI 3 de de br q om w3 h) ?_
 rintro v9 w4 ⟨⟨z,e9,hz⟩,h,aG⟩
 subst e9
 have hk:=hk.trans aG
 have cW:=cW.aL aG sm;have cU:=cU.aL aG sm;have bP:=bP.aL aG sm
 have ox:=h.lt
 refine jz rfl rfl rfl rfl rfl<|zp rfl<|zA<|ag<|zc rfl (λh5=>?_) (λh5=>?_)
 refine aQ ?_
 apply kf et ([br]) 17 (rA 98 17) (rA 98 17) [[],[],[0,1],[2],[3],[],[],[],[5,6,7],[4,8],[9],[],[],[],[11,12,13],[10,14],[15]] [Ie.v _,Ie.p (fun(G:List Nat) (v:Value) (ww:World)=>bI G ww v J1),Ie.q 0 (fun(v:Value)=>∃x,v=str x∧x.length<=30),Ie.p (fun(G:List Nat) (v:Value) (ww:World)=>∃x,v=str x∧x.length<=40),Ie.p (fun(G:List Nat) (v:Value) (ww:World)=>∃x,v=str x∧x.length<=50),Ie.v _,Ie.v _,Ie.v _,Ie.q 1 (fun(v:Value)=>∃x,v=str x∧x.length<=100000*P),Ie.p (fun(G:List Nat) (v:Value) (ww:World)=>∃x,v=str x∧x.length<=100000*P+100),Ie.p (fun(G:List Nat) (v:Value) (ww:World)=>∃x,v=str x∧x.length<=100000*P+200),Ie.v _,Ie.v _,Ie.v _,Ie.q 2 (fun(v:Value)=>∃x,v=str x∧x.length<=100000*P),Ie.p (fun(G:List Nat) (v:Value) (ww:World)=>∃x,v=str x∧x.length<=200000*P+300),Ie.p (fun(G:List Nat) (v:Value) (ww:World)=>∃x,v=str x∧x.length<=200000*P+400)] [2,8,14] [fun(G:List Nat) (vs:List Value) (ww:World)=>G=[br]∧ak [br] w4 ww∧dY ww br (q+1),fun(G:List Nat) (vs:List Value) (ww:World)=>G=[br]∧ak [br] w4 ww∧dY ww br (q+2),fun(G:List Nat) (vs:List Value) (ww:World)=>G=[br]∧ak [br] w4 ww∧dY ww br (q+2+20*P),fun(G:List Nat) (vs:List Value) (ww:World)=>G=[br]∧ak [br] w4 ww∧dY ww br (q+2+40*P)] de rfl ((λz hz=>by simp at hz;subst hz;exact h.lt)) (by exact⟨λG v w G' w' h k=>bI.go h k,λG v w G' w' h k=>h,λG v w G' w' h k=>h,λG v w G' w' h k=>h,λG v w G' w' h k=>h,λG v w G' w' h k=>h,λG v w G' w' h k=>h,trivial⟩) (by exact⟨λG vs w w' ⟨h1,h2,h3⟩ k=>⟨h1,h2.ext k,h3.ext k⟩,λG vs w w' ⟨h1,h2,h3⟩ k=>⟨h1,h2.ext k,h3.ext k⟩,λG vs w w' ⟨h1,h2,h3⟩ k=>⟨h1,h2.ext k,h3.ext k⟩,λG vs w w' ⟨h1,h2,h3⟩ k=>⟨h1,h2.ext k,h3.ext k⟩,trivial⟩) (⟨rfl,ak.refl _ _,h⟩)
 refine cT ?_
 refine vf (λx w5 G5 aW nv rL=>?_) ?_
 refine pU bh bA rfl rfl rfl rfl rfl ?_
 intro w6 bF Nx lI
 exact ff bF ((aY.eF J1 Nx (λhx=>by have:=rL _ hx;omega) de))
 refine ve 0 (λx w5 G5 aW nv rL hJ hlen=>?_) ?_
 have bo:=jR hlen
 subst bo
 intro v1 d1
 obtain⟨cB,cD,h⟩:=hJ
 subst cB
 refine aC (mo J1 de de br (q+1) om _ w5 h d1) ?_
 rintro lz w6 ⟨⟨x9,jh,ig⟩,h,aG⟩
 subst ig
 have fj:=(show∀x,x∈J1->x.length<=30 from by decide) _ jh
 exact fq ([br]) (Fr.of aG sm) ((λz hz=>lL (rL z hz) aG.size)) (⟨rfl,cD.trans aG,h⟩) (⟨_,rfl,fj⟩)
 refine vf (λx w5 G5 aW nv rL=>?_) ?_
 intro v2 oO d2
 obtain⟨y2,e2,ja⟩:=d2
 subst e2
 refine cu rfl rfl (by(try simp);omega) ?_
 exact ff (ak.refl _ _) (⟨_,rfl,by simp;omega⟩)
 refine vf (λx w5 G5 aW nv rL=>?_) ?_
 intro v3 d3
 obtain⟨y3,e3,wj⟩:=d3
 subst e3
 refine cu rfl rfl (by(try simp);omega) ?_
 exact ff (ak.refl _ _) (⟨_,rfl,by simp;omega⟩)
 refine cT ?_
 refine vf (λx w5 G5 aW nv rL=>?_) ?_
 have bP:=bP.go nv
 refine zL mU kR rfl bP.all rfl ?_
 exact fv
 refine cT ?_
 refine ve 1 (λx w5 G5 aW nv rL hJ hlen=>?_) ?_
 have aR:=jS hlen
 obtain⟨q0,bo⟩:=aR
 subst bo
 have cW:=cW.go nv;have cU:=cU.go nv
 obtain⟨cB,cD,h⟩:=hJ
 subst cB
 refine aC (ih ns ts ([105]) br (q+2) _ _ w5 hl om hs so om h cW cU) ?_
 rintro v9 w6 ⟨⟨x9,e9,jh⟩,h,aG⟩
 subst e9
 exact fq ([br]) (Fr.of aG sm) ((λz hz=>lL (rL z hz) aG.size)) (⟨rfl,cD.trans aG,h.more om⟩) (⟨_,rfl,jh⟩)
 refine vf (λx w5 G5 aW nv rL=>?_) ?_
 intro v4 d4
 intro v8 hq8 d8
 obtain⟨y4,e4,BD⟩:=d4
 subst e4
 obtain⟨y8,e8,hl8⟩:=d8
 subst e8
 refine cu rfl rfl (by(try simp);omega) ?_
 exact ff (ak.refl _ _) (⟨_,rfl,by simp;omega⟩)
 refine vf (λx w5 G5 aW nv rL=>?_) ?_
 intro v9 d9
 obtain⟨y9,e9,fj⟩:=d9
 subst e9
 refine cu rfl rfl (by(try simp);omega) ?_
 exact ff (ak.refl _ _) (⟨_,rfl,by simp;omega⟩)
 refine cT ?_
 refine vf (λx w5 G5 aW nv rL=>?_) ?_
 have bP:=bP.go nv
 refine zL mU kR rfl bP.all rfl ?_
 exact fv
 refine cT ?_
 refine ve 2 (λx w5 G5 aW nv rL hJ hlen=>?_) ?_
 have aR:=lP hlen
 obtain⟨q0,q1,bo⟩:=aR
 subst bo
 have cW:=cW.go nv;have cU:=cU.go nv
 obtain⟨cB,cD,h⟩:=hJ
 subst cB
 refine aC (ih ns ts ([105]) br (q+2+20*P) _ _ w5 hl om hs so om h cW cU) ?_
 rintro v9 w6 ⟨⟨x9,e9,jh⟩,h,aG⟩
 subst e9
 exact fq ([br]) (Fr.of aG sm) ((λz hz=>lL (rL z hz) aG.size)) (⟨rfl,cD.trans aG,h.more om⟩) (⟨_,rfl,jh⟩)
 refine vf (λx w5 G5 aW nv rL=>?_) ?_
 intro v10 d10
 intro lz ajl d14
 obtain⟨J6,gw,D6⟩:=d10
 subst gw
 obtain⟨y14,ig,aot⟩:=d14
 subst ig
 refine cu rfl rfl (by(try simp);omega) ?_
 exact ff (ak.refl _ _) (⟨_,rfl,by simp;omega⟩)
 refine vf (λx w5 G5 aW nv rL=>?_) ?_
 intro vA d15
 obtain⟨y15,D9,aov⟩:=d15
 subst D9
 refine cu rfl rfl (by(try simp);omega) ?_
 exact ff (ak.refl _ _) (⟨_,rfl,by simp;omega⟩)
 exact trivial
 intro x p5 G44 aW aox aoy hJ hlen
 have aR:=Al hlen
 obtain⟨q0,q1,q2,bo⟩:=aR
 subst bo
 intro v1 d1
 intro v2 oO d2
 intro v3 d3
 intro v4 d4
 intro v8 hq8 d8
 intro v9 d9
 intro v10 d10
 intro lz ajl d14
 intro vA d15
 intro yp d16
 change OW _ _ _ _ _ (aM (aN _ x _) (zZ 98 [_,_,_,_,_,_,_,_,_,_,_,_,_,_,_,_,_])) _
 obtain⟨cB,cD,h⟩:=hJ
 subst cB
 obtain⟨yz,ez,Ez⟩:=d16
 subst ez
 refine zA<|ag<|aV ?_
 exact⟨_,rfl,⟨yz,rfl,om⟩,h.more om,hk.trans cD⟩
 refine bz<|zr<|zm<|zL mU kR rfl bP.all rfl<|zm<|aC (OK ns ts want hl om hs br (q+1) om _ _ w4 h cW cU) ?_
 rintro v9 w5 ⟨⟨x9,e9,jh⟩,h,aG⟩
 subst e9
 refine zA<|ag<|aV ?_
 exact⟨_,rfl,⟨x9,rfl,om⟩,h.more om,hk.trans aG⟩
 replace h4:=bw h4
 refine zs<|zs<|zs<|zp rfl<|zA<|ag<|zc rfl (λh6=>?_) (λh6=>?_)
 simp at h6
 refine bz<|zr<|zm<|zL mU kR rfl bP.all rfl<|zm<|aC (OK ns ts want hl om hs br q om _ _ w3 h cW cU) ?_
 rintro v9 w4 ⟨⟨x9,e9,jh⟩,h,aG⟩
 subst e9
 refine zA<|ag<|aV ?_
 exact⟨_,rfl,⟨x9,rfl,om⟩,h.more om,hk.trans aG⟩
set_option maxHeartbeats 4000000 in
def ajm:Hi 0 1:=by
 intro ns ts want br q v1 v2 w hl D8 hs hw hq h cW cU
 obtain⟨a1,n1,c1,rfl,fU⟩:=eP cW
 obtain⟨a2,n2,c2,rfl,fJ⟩:=eP cU
 subst fU
 subst fJ
 have iG:=h.lt
 have hk:=ak.refl [br] w
 refine cX [.tmp 8] 130 Tryz.func85 rfl PR rfl rfl ?_
 refine zr<|fG rfl ?_
 intro w1 aK bP eh
 have hk:=hk.ext aK;have h:=h.ext aK;have cW:=cW.ext aK;have cU:=cU.ext aK
 refine zA<|ag<|aQ<|zr<|zm<|dQ rfl rfl rfl<|ag<|zc rfl (λh1=>?_) (λh1=>?_)
 refine zr<|zm<|zL mU kR rfl bP.all rfl<|zm<|aC (OK ns ts want hl om hs br q om _ _ w1 h cW cU) ?_
 rintro v9 w2 ⟨⟨x9,e9,jh⟩,h,aG⟩
 subst e9
 refine zA<|ag<|aV ?_
 exact⟨_,rfl,⟨x9,rfl,om⟩,h.more om,hk.trans aG⟩
 simp at h1
set_option maxHeartbeats 4000000 in
def ajn (d P:Nat) (hd:d<=10) (hP:1<=P) (V2:P<=1000000) (ih:Hi d P):Hi (d+1) (4*P):=by
 have hB:=aja d P hd hP V2 ih
 intro ns ts want br q v1 v2 w hl D8 hs hw hq h cW cU
 obtain⟨a1,n1,c1,rfl,fU⟩:=eP cW
 obtain⟨a2,n2,c2,rfl,fJ⟩:=eP cU
 subst fU
 subst fJ
 have iG:=h.lt
 have hk:=ak.refl [br] w
 refine cX [.tmp 8] 130 Tryz.func85 rfl PR rfl rfl ?_
 refine zr<|fG rfl ?_
 intro w1 aK bP eh
 have hk:=hk.ext aK;have h:=h.ext aK;have cW:=cW.ext aK;have cU:=cU.ext aK
 refine zA<|ag<|aQ<|zr<|zm<|dQ rfl rfl rfl<|ag<|zc rfl (λh1=>?_) (λh1=>?_)
 simp at h1;omega
 have bP:fi [br] w1 w.heap.size _ _:=⟨bP,by simp;omega⟩
 refine bz<|zr<|zm<|mN rfl rfl rfl rfl rfl (km d om _ om)<|zA<|ag<|aQ<|zr<|zm<|aC (mI 12 de de br q om w1 h) ?_
 rintro v9 w2 ⟨⟨z,e9,hz⟩,h,aG⟩
 subst e9
 have hk:=hk.trans aG
 have cW:=cW.aL aG sm;have cU:=cU.aL aG sm;have bP:=bP.aL aG sm
 have ox:=h.lt
 refine ag<|cS<|zr<|dQ rfl rfl rfl<|zA<|ag<|zc rfl (λh2=>?_) (λh2=>?_)
 refine aQ ?_
 apply kf et ([br]) 20 (rA 25 20) (rA 25 20) [[],[],[],[0,1,2],[3],[4],[],[],[],[],(rA 6 4),[5,10],[11],[],[],[],[],(rA 13 4),[12,17],[18]] [Ie.v _,Ie.v _,Ie.v _,Ie.q 0 (fun(v:Value)=>∃x,v=str x∧x.length<=100000*P),Ie.p (fun(G:List Nat) (v:Value) (ww:World)=>∃x,v=str x∧x.length<=100000*P+100),Ie.p (fun(G:List Nat) (v:Value) (ww:World)=>∃x,v=str x∧x.length<=100000*P+200),Ie.v _,Ie.v _,Ie.v _,Ie.v _,Ie.q 1 (fun(v:Value)=>∃x,v=str x∧x.length<=100000*P),Ie.p (fun(G:List Nat) (v:Value) (ww:World)=>∃x,v=str x∧x.length<=200000*P+300),Ie.p (fun(G:List Nat) (v:Value) (ww:World)=>∃x,v=str x∧x.length<=200000*P+400),Ie.v _,Ie.v _,Ie.v _,Ie.v _,Ie.q 2 (fun(v:Value)=>∃x,v=str x∧x.length<=100000*P),Ie.p (fun(G:List Nat) (v:Value) (ww:World)=>∃x,v=str x∧x.length<=300000*P+500),Ie.p (fun(G:List Nat) (v:Value) (ww:World)=>∃x,v=str x∧x.length<=300000*P+600)] [3,10,17] [fun(G:List Nat) (vs:List Value) (ww:World)=>G=[br]∧ak [br] w2 ww∧dY ww br (q+1),fun(G:List Nat) (vs:List Value) (ww:World)=>G=[br]∧ak [br] w2 ww∧dY ww br (q+1+20*P),fun(G:List Nat) (vs:List Value) (ww:World)=>G=[br]∧ak [br] w2 ww∧dY ww br (q+1+40*P),fun(G:List Nat) (vs:List Value) (ww:World)=>G=[br]∧ak [br] w2 ww∧dY ww br (q+1+60*P)] de rfl ((λz hz=>by simp at hz;subst hz;exact h.lt)) (by exact⟨λG v w G' w' h k=>h,λG v w G' w' h k=>h,λG v w G' w' h k=>h,λG v w G' w' h k=>h,λG v w G' w' h k=>h,λG v w G' w' h k=>h,trivial⟩) (by exact⟨λG vs w w' ⟨h1,h2,h3⟩ k=>⟨h1,h2.ext k,h3.ext k⟩,λG vs w w' ⟨h1,h2,h3⟩ k=>⟨h1,h2.ext k,h3.ext k⟩,λG vs w w' ⟨h1,h2,h3⟩ k=>⟨h1,h2.ext k,h3.ext k⟩,λG vs w w' ⟨h1,h2,h3⟩ k=>⟨h1,h2.ext k,h3.ext k⟩,trivial⟩) (⟨rfl,ak.refl _ _,h⟩)
 refine cT ?_
 refine vf (λx w3 G3 aW fX iW=>?_) ?_
 have bP:=bP.go fX
 refine zL mU kR rfl bP.all rfl ?_
 exact fv
 refine cT ?_
 refine ve 0 (λx w3 G3 aW fX iW hJ hlen=>?_) ?_
 have bo:=jR hlen
 subst bo
 have cW:=cW.go fX;have cU:=cU.go fX
 obtain⟨cB,cD,h⟩:=hJ
 subst cB
 refine aC (ih ns ts ([105]) br (q+1) _ _ w3 hl om hs so om h cW cU) ?_
 rintro v9 w4 ⟨⟨x9,e9,jh⟩,h,aG⟩
 subst e9
 exact fq ([br]) (Fr.of aG sm) ((λz hz=>lL (iW z hz) aG.size)) (⟨rfl,cD.trans aG,h.more om⟩) (⟨_,rfl,jh⟩)
 refine vf (λx w3 G3 aW fX iW=>?_) ?_
 intro v3 IM d3
 obtain⟨y3,e3,wj⟩:=d3
 subst e3
 refine cu rfl rfl (by(try simp);omega) ?_
 exact ff (ak.refl _ _) (⟨_,rfl,by simp;omega⟩)
 refine vf (λx w3 G3 aW fX iW=>?_) ?_
 intro v4 d4
 obtain⟨y4,e4,BD⟩:=d4
 subst e4
 refine cu rfl rfl (by(try simp);omega) ?_
 exact ff (ak.refl _ _) (⟨_,rfl,by simp;omega⟩)
 refine cT ?_
 refine vf (λx w3 G3 aW fX iW=>?_) ?_
 have bP:=bP.go fX
 refine zL mU kR rfl bP.all rfl ?_
 exact fv
 refine cT ?_
 refine cT ?_
 refine ve 1 (λx w3 G3 aW fX iW hJ hlen=>?_) ?_
 have aR:=jS hlen
 obtain⟨q0,bo⟩:=aR
 subst bo
 have cW:=cW.go fX;have cU:=cU.go fX
 obtain⟨cB,cD,h⟩:=hJ
 subst cB
 refine aC (ih ns ts want br (q+1+20*P) _ _ w3 hl om hs om om h cW cU) ?_
 rintro v9 w4 ⟨⟨x9,e9,jh⟩,h,aG⟩
 subst e9
 exact fq ([br]) (Fr.of aG sm) ((λz hz=>lL (iW z hz) aG.size)) (⟨rfl,cD.trans aG,h.more om⟩) (⟨_,rfl,jh⟩)
 refine vf (λx w3 G3 aW fX iW=>?_) ?_
 intro v5 d5
 intro v10 V5 d10
 obtain⟨y5,e5,hl5⟩:=d5
 subst e5
 obtain⟨J6,gw,D6⟩:=d10
 subst gw
 refine cu rfl rfl (by(try simp);omega) ?_
 exact ff (ak.refl _ _) (⟨_,rfl,by simp;omega⟩)
 refine vf (λx w3 G3 aW fX iW=>?_) ?_
 intro v11 d11
 obtain⟨V3,Cp,V4⟩:=d11
 subst Cp
 refine cu rfl rfl (by(try simp);omega) ?_
 exact ff (ak.refl _ _) (⟨_,rfl,by simp;omega⟩)
 refine cT ?_
 refine vf (λx w3 G3 aW fX iW=>?_) ?_
 have bP:=bP.go fX
 refine zL mU kR rfl bP.all rfl ?_
 exact fv
 refine cT ?_
 refine cT ?_
 refine ve 2 (λx w3 G3 aW fX iW hJ hlen=>?_) ?_
 have aR:=lP hlen
 obtain⟨q0,q1,bo⟩:=aR
 subst bo
 have cW:=cW.go fX;have cU:=cU.go fX
 obtain⟨cB,cD,h⟩:=hJ
 subst cB
 refine aC (ih ns ts want br (q+1+40*P) _ _ w3 hl om hs om om h cW cU) ?_
 rintro v9 w4 ⟨⟨x9,e9,jh⟩,h,aG⟩
 subst e9
 exact fq ([br]) (Fr.of aG sm) ((λz hz=>lL (iW z hz) aG.size)) (⟨rfl,cD.trans aG,h.more om⟩) (⟨_,rfl,jh⟩)
 refine vf (λx w3 G3 aW fX iW=>?_) ?_
 intro v12 d12
 intro jX OR d17
 obtain⟨y12,qN,aje⟩:=d12
 subst qN
 obtain⟨V6,sh,V7⟩:=d17
 subst sh
 refine cu rfl rfl (by(try simp);omega) ?_
 exact ff (ak.refl _ _) (⟨_,rfl,by simp;omega⟩)
 refine vf (λx w3 G3 aW fX iW=>?_) ?_
 intro wZ d18
 obtain⟨y18,vB,Nn⟩:=d18
 subst vB
 refine cu rfl rfl (by(try simp);omega) ?_
 exact ff (ak.refl _ _) (⟨_,rfl,by simp;omega⟩)
 exact trivial
 intro x qC F9 aW DY ML hJ hlen
 have aR:=Al hlen
 obtain⟨q0,q1,q2,bo⟩:=aR
 subst bo
 intro v3 IM d3
 intro v4 d4
 intro v5 d5
 intro v10 V5 d10
 intro v11 d11
 intro v12 d12
 intro jX OR d17
 intro wZ d18
 intro Gw d19
 change OW _ _ _ _ _ (aM (aN _ x _) (zZ 25 [_,_,_,_,_,_,_,_,_,_,_,_,_,_,_,_,_,_,_,_])) _
 obtain⟨cB,cD,h⟩:=hJ
 subst cB
 obtain⟨yz,ez,Ez⟩:=d19
 subst ez
 refine zA<|ag<|aV ?_
 exact⟨_,rfl,⟨yz,rfl,om⟩,h.more om,hk.trans cD⟩
 refine aQ<|zr<|dQ rfl rfl rfl<|zA<|ag ?_
 refine ji (λb:Bool=>[(0,.pointer (some ⟨br,0,none⟩)),(2,str want),(3,.int .i64 ((d+1:Nat):Int)),(5,.pointer (some ⟨w.heap.size,0,none⟩)),(9,.int .i64 (d:Int)),(22,.int .i64 (z:Int)),(45,.bool b)]) (λb ww=>ww=w2) ?_ ?_
 refine zc rfl (λh3=>?_) (λh3=>?_)
 refine bz ?_
 exact⟨_,⟨rfl,rfl,rfl,rfl,rfl,rfl,rfl⟩,rfl⟩
 refine df<|dQ rfl rfl rfl<|zA<|ag ?_
 exact⟨_,⟨rfl,rfl,rfl,rfl,rfl,rfl,rfl⟩,rfl⟩
 intro gu w3 e3 hI
 have OS:w3=_:=hI
 subst OS
 refine zc rfl (λh4=>?_) (λh4=>?_)
 refine zr<|zm<|aC (OH 1 de br (q+1) om w3 h) ?_
 rintro v9 w4 ⟨⟨T,e9,hT⟩,h,aG⟩
 subst e9
 have V8:=T.len
 have hT:T.n+1<=4:=hT
 have h:=h.more (show _<=q+5 from om)
 have hk:=hk.trans aG
 have cW:=cW.aL aG sm;have cU:=cU.aL aG sm;have bP:=bP.aL aG sm
 have ox:=h.lt
 refine zA<|ag<|zr<|zm<|Mf bh bA rfl rfl rfl rfl rfl rfl rfl ?_
 intro w5 aU Nw jr
 have cW:=cW.ext aU;have cU:=cU.ext aU;have bP:=bP.ext aU;have h:=h.ext aU;have hk:=hk.ext aU
 refine aC (mo OM de de br (q+5) om _ w5 h (aY.eF OM Nw (λhx=>by simp at hx;omega) de)) ?_
 rintro lz w6 ⟨⟨nm,ajp,ig⟩,h,aG⟩
 subst ig
 have aoz:=(show∀x,x∈OM->x.length<=30 from by decide) _ ajp
 have hk:=hk.trans aG
 have cW:=cW.aL aG sm;have cU:=cU.aL aG sm;have bP:=bP.aL aG sm
 have ox:=h.lt
 refine zA<|ag<|aQ ?_
 apply kf et ([br]) 20 (rA 53 20) (rA 53 20) [[],[0],[1],[],[],[],[],(rA 3 4),[2,7],[8],[],[],[],[],[11,12,13],[],[],[10,14,15,16],[9,17],[18]] [Ie.v _,Ie.v _,Ie.v _,Ie.v _,Ie.v _,Ie.v _,Ie.v _,Ie.q 0 (fun(v:Value)=>∃x,v=str x∧x.length<=100000*P),Ie.p (fun(G:List Nat) (v:Value) (ww:World)=>∃x,v=str x∧x.length<=100000*P+200),Ie.p (fun(G:List Nat) (v:Value) (ww:World)=>∃x,v=str x∧x.length<=100000*P+300),Ie.v _,Ie.v _,Ie.v _,Ie.v _,Ie.e 1,Ie.v _,Ie.v _,Ie.q 2 (fun(v:Value)=>∃x,v=str x∧x.length<=100000*P),Ie.p (fun(G:List Nat) (v:Value) (ww:World)=>∃x,v=str x∧x.length<=200000*P+400),Ie.p (fun(G:List Nat) (v:Value) (ww:World)=>∃x,v=str x∧x.length<=200000*P+500)] [7,14,17] [fun(G:List Nat) (vs:List Value) (ww:World)=>G=[br]∧ak [br] w6 ww∧dY ww br (q+6),fun(G:List Nat) (vs:List Value) (ww:World)=>G=[br]∧ak [br] w6 ww∧dY ww br (q+6+20*P),fun(G:List Nat) (vs:List Value) (ww:World)=>G=[br]∧ak [br] w6 ww∧dY ww br (q+6+20*P)∧∃u1 u2,vs.getD 1 undef= .agg #[u1,u2]∧bI [br] ww u1 (ns++[nm])∧bI [br] ww u2 (ts++[T.text]),fun(G:List Nat) (vs:List Value) (ww:World)=>G=[br]∧ak [br] w6 ww∧dY ww br (q+6+40*P)] de rfl ((λz hz=>by simp at hz;subst hz;exact h.lt)) (by exact⟨λG v w G' w' h k=>h,λG v w G' w' h k=>h,λG v w G' w' h k=>h,λG v w G' w' h k=>h,trivial⟩) (by exact⟨λG vs w w' ⟨h1,h2,h3⟩ k=>⟨h1,h2.ext k,h3.ext k⟩,λG vs w w' ⟨h1,h2,h3⟩ k=>⟨h1,h2.ext k,h3.ext k⟩,λG vs w w' ⟨h1,h2,h3,u1,u2,e,g1,g2⟩ k=>⟨h1,h2.ext k,h3.ext k,u1,u2,e,g1.ext k,g2.ext k⟩,λG vs w w' ⟨h1,h2,h3⟩ k=>⟨h1,h2.ext k,h3.ext k⟩,trivial⟩) (⟨rfl,ak.refl _ _,h⟩)
 refine cT ?_
 refine vf (λ_ _ _ _ _ _=>cu rfl rfl so fv) ?_
 refine vf (λ_ _ _ _ _ _=>cu rfl rfl so fv) ?_
 refine cT ?_
 refine vf (λx w7 G7 aW iX jY=>?_) ?_
 have bP:=bP.go iX
 refine zL mU kR rfl bP.all rfl ?_
 exact fv
 refine cT ?_
 refine cT ?_
 refine ve 0 (λx w7 G7 aW iX jY hJ hlen=>?_) ?_
 have bo:=jR hlen
 subst bo
 have cW:=cW.go iX;have cU:=cU.go iX
 obtain⟨cB,cD,h⟩:=hJ
 subst cB
 refine aC (ih ns ts T.text br (q+6) _ _ w7 hl om hs om om h cW cU) ?_
 rintro v9 w8 ⟨⟨x9,e9,jh⟩,h,aG⟩
 subst e9
 exact fq ([br]) (Fr.of aG sm) ((λz hz=>lL (jY z hz) aG.size)) (⟨rfl,cD.trans aG,h.more om⟩) (⟨_,rfl,jh⟩)
 refine vf (λx w7 G7 aW iX jY=>?_) ?_
 intro v7 hq7 d7
 obtain⟨y7,e7,Uc⟩:=d7
 subst e7
 refine cu rfl rfl (by(try simp);omega) ?_
 exact ff (ak.refl _ _) (⟨_,rfl,by simp;omega⟩)
 refine vf (λx w7 G7 aW iX jY=>?_) ?_
 intro v8 d8
 obtain⟨y8,e8,hl8⟩:=d8
 subst e8
 refine cu rfl rfl (by(try simp);omega) ?_
 exact ff (ak.refl _ _) (⟨_,rfl,by simp;omega⟩)
 refine cT ?_
 refine vf (λx w7 G7 aW iX jY=>?_) ?_
 have bP:=bP.go iX
 refine zL mU kR rfl bP.all rfl ?_
 exact fv
 refine cT ?_
 refine cT ?_
 refine ve 1 (λx w7 G7 aW iX jY hJ hlen=>?_) ?_
 have aR:=jS hlen
 obtain⟨q0,bo⟩:=aR
 subst bo
 have cW:=cW.go iX;have cU:=cU.go iX
 obtain⟨cB,cD,h⟩:=hJ
 subst cB
 refine aC (JZ ns ts nm T.text om om _ _ [br] w7 (λx hx=>by simp at hx;subst hx;exact h.lt) cW cU) ?_
 rintro v9 w8 ⟨⟨u1,u2,e9,rJ,rK⟩,aG⟩
 subst e9
 exact fe ([br]) (Fr.of aG sm) ((λz hz=>lL (jY z hz) aG.size)) (⟨rfl,cD.ext aG,h.ext aG,u1,u2,rfl,rJ,rK⟩)
 refine cT ?_
 refine cT ?_
 refine ve 2 (λx w7 G7 aW iX jY hJ hlen=>?_) ?_
 have aR:=lP hlen
 obtain⟨q0,q1,bo⟩:=aR
 subst bo
 obtain⟨cB,cD,h,u1,u2,e1,rJ,rK⟩:=hJ
 subst cB
 have e2:q1=_:=e1
 subst e2
 refine aC (ih (ns++[nm]) (ts++[T.text]) want br (q+6+20*P) _ _ w7 so so (J2 hs om) om om h rJ rK) ?_
 rintro v9 w8 ⟨⟨x9,e9,jh⟩,h,aG⟩
 subst e9
 exact fq ([br]) (Fr.of aG sm) ((λz hz=>lL (jY z hz) aG.size)) (⟨rfl,cD.trans aG,h.more om⟩) (⟨_,rfl,jh⟩)
 refine vf (λx w7 G7 aW iX jY=>?_) ?_
 intro v9 d9
 intro jX OR d17
 obtain⟨y9,e9,fj⟩:=d9
 subst e9
 obtain⟨V6,sh,V7⟩:=d17
 subst sh
 refine cu rfl rfl (by(try simp);omega) ?_
 exact ff (ak.refl _ _) (⟨_,rfl,by simp;omega⟩)
 refine vf (λx w7 G7 aW iX jY=>?_) ?_
 intro wZ d18
 obtain⟨y18,vB,Nn⟩:=d18
 subst vB
 refine cu rfl rfl (by(try simp);omega) ?_
 exact ff (ak.refl _ _) (⟨_,rfl,by simp;omega⟩)
 exact trivial
 intro x qJ Jn aW xd Jo hJ hlen
 have aR:=Al hlen
 obtain⟨q0,q1,q2,bo⟩:=aR
 subst bo
 intro v7 hq7 d7
 intro v8 d8
 intro v9 d9
 intro jX OR d17
 intro wZ d18
 intro Gw d19
 change OW _ _ _ _ _ (aM (aN _ x _) (zZ 53 [_,_,_,_,_,_,_,_,_,_,_,_,_,_,_,_,_,_,_,_])) _
 obtain⟨cB,cD,h⟩:=hJ
 subst cB
 obtain⟨yz,ez,Ez⟩:=d19
 subst ez
 refine zA<|ag<|aV ?_
 exact⟨_,rfl,⟨yz,rfl,om⟩,h.more om,hk.trans cD⟩
 refine aQ<|zr<|dQ rfl rfl rfl<|zA<|ag ?_
 refine ji (λb:Bool=>[(0,.pointer (some ⟨br,0,none⟩)),(2,str want),(3,.int .i64 ((d+1:Nat):Int)),(5,.pointer (some ⟨w.heap.size,0,none⟩)),(9,.int .i64 (d:Int)),(22,.int .i64 (z:Int)),(73,.bool b)]) (λb ww=>ww=w3) ?_ ?_
 refine zc rfl (λh5=>?_) (λh5=>?_)
 refine bz ?_
 exact⟨_,⟨rfl,rfl,rfl,rfl,rfl,rfl,rfl⟩,rfl⟩
 refine df<|dQ rfl rfl rfl<|zA<|ag ?_
 exact⟨_,⟨rfl,rfl,rfl,rfl,rfl,rfl,rfl⟩,rfl⟩
 intro gu w4 e4 hI
 have OS:w4=_:=hI
 subst OS
 refine zc rfl (λh6=>?_) (λh6=>?_)
 refine zr<|zm<|aC (OH 1 de br (q+1) om w4 h) ?_
 rintro v9 w5 ⟨⟨T,e9,hT⟩,h,aG⟩
 subst e9
 have V8:=T.len
 have hT:T.n+1<=4:=hT
 have h:=h.more (show _<=q+5 from om)
 have hk:=hk.trans aG
 have cW:=cW.aL aG sm;have cU:=cU.aL aG sm;have bP:=bP.aL aG sm
 have ox:=h.lt
 refine zA<|ag<|aQ ?_
 apply kf et ([br]) 19 (rA 78 19) (rA 78 19) [[],[],[],[2],[3],[],[4,5],[6],[],[0,1,7,8],[9],[10],[],[],[],[],(rA 12 4),[11,16],[17]] [Ie.v _,Ie.v _,Ie.v _,Ie.v _,Ie.v _,Ie.v _,Ie.v _,Ie.v _,Ie.v _,Ie.q 0 (fun(v:Value)=>∃x,v=str x∧x.length<=100000*P),Ie.p (fun(G:List Nat) (v:Value) (ww:World)=>∃x,v=str x∧x.length<=100000*P+200),Ie.p (fun(G:List Nat) (v:Value) (ww:World)=>∃x,v=str x∧x.length<=100000*P+300),Ie.v _,Ie.v _,Ie.v _,Ie.v _,Ie.q 1 (fun(v:Value)=>∃x,v=str x∧x.length<=100000*P),Ie.p (fun(G:List Nat) (v:Value) (ww:World)=>∃x,v=str x∧x.length<=200000*P+400),Ie.p (fun(G:List Nat) (v:Value) (ww:World)=>∃x,v=str x∧x.length<=200000*P+500)] [9,16] [fun(G:List Nat) (vs:List Value) (ww:World)=>G=[br]∧ak [br] w5 ww∧dY ww br (q+5),fun(G:List Nat) (vs:List Value) (ww:World)=>G=[br]∧ak [br] w5 ww∧dY ww br (q+5+20*P),fun(G:List Nat) (vs:List Value) (ww:World)=>G=[br]∧ak [br] w5 ww∧dY ww br (q+5+40*P)] de rfl ((λz hz=>by simp at hz;subst hz;exact h.lt)) (by exact⟨λG v w G' w' h k=>h,λG v w G' w' h k=>h,λG v w G' w' h k=>h,λG v w G' w' h k=>h,trivial⟩) (by exact⟨λG vs w w' ⟨h1,h2,h3⟩ k=>⟨h1,h2.ext k,h3.ext k⟩,λG vs w w' ⟨h1,h2,h3⟩ k=>⟨h1,h2.ext k,h3.ext k⟩,λG vs w w' ⟨h1,h2,h3⟩ k=>⟨h1,h2.ext k,h3.ext k⟩,trivial⟩) (⟨rfl,ak.refl _ _,h⟩)
 refine cT ?_
 refine vf (λx w6 G6 aW tl yV=>?_) ?_
 have bP:=bP.go tl
 refine zL mU kR rfl bP.all rfl ?_
 exact fv
 refine cT ?_
 refine vf (λ_ _ _ _ _ _=>cu rfl rfl so fv) ?_
 refine vf (λ_ _ _ _ _ _=>cu rfl rfl so fv) ?_
 refine cT ?_
 refine vf (λ_ _ _ _ _ _=>cu rfl rfl so fv) ?_
 refine vf (λ_ _ _ _ _ _=>cu rfl rfl so fv) ?_
 refine cT ?_
 refine ve 0 (λx w6 G6 aW tl yV hJ hlen=>?_) ?_
 have bo:=jR hlen
 subst bo
 have cW:=cW.go tl;have cU:=cU.go tl
 obtain⟨cB,cD,h⟩:=hJ
 subst cB
 refine aC (ih ns ts (((([40,62,32]++T.text)++[32])++want)++[41]) br (q+5) _ _ w6 hl om hs so om h cW cU) ?_
 rintro v9 w7 ⟨⟨x9,e9,jh⟩,h,aG⟩
 subst e9
 exact fq ([br]) (Fr.of aG sm) ((λz hz=>lL (yV z hz) aG.size)) (⟨rfl,cD.trans aG,h.more om⟩) (⟨_,rfl,jh⟩)
 refine vf (λx w6 G6 aW tl yV=>?_) ?_
 intro v9 GZ d9
 obtain⟨y9,e9,fj⟩:=d9
 subst e9
 refine cu rfl rfl (by(try simp);omega) ?_
 exact ff (ak.refl _ _) (⟨_,rfl,by simp;omega⟩)
 refine vf (λx w6 G6 aW tl yV=>?_) ?_
 intro v10 d10
 obtain⟨J6,gw,D6⟩:=d10
 subst gw
 refine cu rfl rfl (by(try simp);omega) ?_
 exact ff (ak.refl _ _) (⟨_,rfl,by simp;omega⟩)
 refine cT ?_
 refine vf (λx w6 G6 aW tl yV=>?_) ?_
 have bP:=bP.go tl
 refine zL mU kR rfl bP.all rfl ?_
 exact fv
 refine cT ?_
 refine cT ?_
 refine ve 1 (λx w6 G6 aW tl yV hJ hlen=>?_) ?_
 have aR:=jS hlen
 obtain⟨q0,bo⟩:=aR
 subst bo
 have cW:=cW.go tl;have cU:=cU.go tl
 obtain⟨cB,cD,h⟩:=hJ
 subst cB
 refine aC (ih ns ts T.text br (q+5+20*P) _ _ w6 hl om hs om om h cW cU) ?_
 rintro v9 w7 ⟨⟨x9,e9,jh⟩,h,aG⟩
 subst e9
 exact fq ([br]) (Fr.of aG sm) ((λz hz=>lL (yV z hz) aG.size)) (⟨rfl,cD.trans aG,h.more om⟩) (⟨_,rfl,jh⟩)
 refine vf (λx w6 G6 aW tl yV=>?_) ?_
 intro v11 d11
 intro yp ajr d16
 obtain⟨V3,Cp,V4⟩:=d11
 subst Cp
 obtain⟨y16,AW,aoB⟩:=d16
 subst AW
 refine cu rfl rfl (by(try simp);omega) ?_
 exact ff (ak.refl _ _) (⟨_,rfl,by simp;omega⟩)
 refine vf (λx w6 G6 aW tl yV=>?_) ?_
 intro jX d17
 obtain⟨V6,sh,V7⟩:=d17
 subst sh
 refine cu rfl rfl (by(try simp);omega) ?_
 exact ff (ak.refl _ _) (⟨_,rfl,by simp;omega⟩)
 exact trivial
 intro x pW G45 aW aoD aoE hJ hlen
 have aR:=lP hlen
 obtain⟨q0,q1,bo⟩:=aR
 subst bo
 intro v9 GZ d9
 intro v10 d10
 intro v11 d11
 intro yp ajr d16
 intro jX d17
 intro wZ d18
 change OW _ _ _ _ _ (aM (aN _ x _) (zZ 78 [_,_,_,_,_,_,_,_,_,_,_,_,_,_,_,_,_,_,_])) _
 obtain⟨cB,cD,h⟩:=hJ
 subst cB
 obtain⟨yz,ez,Ez⟩:=d18
 subst ez
 refine zA<|ag<|aV ?_
 exact⟨_,rfl,⟨yz,rfl,om⟩,h.more om,hk.trans cD⟩
 refine zr<|dQ rfl rfl rfl<|zA<|ag<|zc rfl (λh7=>?_) (λh7=>?_)
 refine zr<|zm<|zL mU kR rfl bP.all rfl<|zm<|cu rfl rfl so<|cu rfl rfl so<|zm<|aC (ih ns ts (([40,42,32]++want)++[32,105,41]) br (q+1) _ _ w4 hl om hs so om h cW cU) ?_
 rintro v9 w5 ⟨⟨x9,e9,jh⟩,h,aG⟩
 subst e9
 refine cu rfl rfl so<|cu rfl rfl so<|zA<|ag<|aV ?_
 exact⟨_,rfl,⟨_,rfl,by simp;omega⟩,h.more om,hk.trans aG⟩
 refine zr<|dQ rfl rfl rfl<|zA<|ag<|zc rfl (λh8=>?_) (λh8=>?_)
 refine zr<|zm<|zL mU kR rfl bP.all rfl<|zm<|cu rfl rfl so<|cu rfl rfl so<|zm<|aC (ih ns ts (([40,42,32,105,32]++want)++[41]) br (q+1) _ _ w4 hl om hs so om h cW cU) ?_
 rintro v9 w5 ⟨⟨x9,e9,jh⟩,h,aG⟩
 subst e9
 refine cu rfl rfl so<|cu rfl rfl so<|zA<|ag<|aV ?_
 exact⟨_,rfl,⟨_,rfl,by simp;omega⟩,h.more om,hk.trans aG⟩
 refine zr<|dQ rfl rfl rfl<|zA<|ag<|zc rfl (λh9=>?_) (λh9=>?_)
 refine zr<|zm<|cY rfl rfl<|ag<|zc rfl (λgI=>?_) (λgI=>?_)
 refine zr<|zm<|aC (ai2 br (q+1) om w4 h) ?_
 rintro v9 w5 ⟨⟨x9,e9,jh⟩,h,aG⟩
 subst e9
 refine zA<|ag<|aV ?_
 exact⟨_,rfl,⟨x9,rfl,om⟩,h.more om,hk.trans aG⟩
 refine bz<|zr<|zm<|zL mU kR rfl bP.all rfl<|zm<|zm<|aC (hB ns ts want br (q+1) _ _ w4 hl om hs om om h cW cU) ?_
 rintro v9 w5 ⟨⟨x9,e9,jh⟩,h,aG⟩
 subst e9
 refine zA<|ag<|aV ?_
 exact⟨_,rfl,⟨x9,rfl,om⟩,h.more om,hk.trans aG⟩
 refine bz<|zr<|zm<|zL mU kR rfl bP.all rfl<|zm<|zm<|aC (hB ns ts want br (q+1) _ _ w4 hl om hs om om h cW cU) ?_
 rintro v9 w5 ⟨⟨x9,e9,jh⟩,h,aG⟩
 subst e9
 refine zA<|ag<|aV ?_
 exact⟨_,rfl,⟨x9,rfl,om⟩,h.more om,hk.trans aG⟩
def OT:∀d,d<=9->Hi d (4^d)
 |0,_=>ajm
 |d+1,h=>by
  have h2:4^d<=4^9:=Nat.pow_le_pow_right de om
  have:=ajn d (4^d) om (Nat.pos_of_ne_zero sm) (Nat.le_trans h2 de) (OT d om)
  rw[Nat.pow_succ,Nat.mul_comm]
  exact this
def mu.zero {w:World} {b:Nat} {TB TS:TypeId} (h:aY w b #[] TB):mu w TB TS (.slice (some ⟨b,0,none⟩) 0 0) (some b) [] [] []:=
 ⟨⟨by simp,.inr ⟨b,0,#[],rfl,rfl,h,lR _,by decide,rfl,rfl⟩⟩,trivial,by simp[im],by simp[im]⟩
section
variable {P:Program} {n:Nat} {ops:Array Oper} {K:Env->World->Prop} {rest:List Oper} {e:Env} {w:World}
 {dst:Option Nat} {ty:TypeId} {pos:String} {after:Array Edge} {g:Option (Nat×Bool)} {x y:Operand}
def ajs {t E TS bytes:Nat} {z:Value} {v:Value} {gb:Option Nat} {gss:List (Option Nat×Option Nat)} {vss:List (List Value)} {bs:List Bk} {f:Bk} {gs:Option Nat×Option Nat} {a1 a2:Option Addr} {n1 c1 n2 c2:Nat} {b U:Nat} (hT:P.underlying t=some (.slice E)) (hE:TI P E 3 bytes z) (hg:gate ops e g=true) (hd:dy n dst=true) (hz:Nat.beq z.cells.size 3=true) (ij:Nat.ble bytes 1000=true)
  (hx:ev e x=v) (hy:ev e y= .slice (some ⟨b,0,none⟩) 1 1) (hP:mu w E TS v gb gss vss bs) (hb:aY w b [str f.aP,.slice a1 n1 c1,.slice a2 n2 c2].toArray U)
  (h1:dj w TS (.slice a1 n1 c1) gs.1 f.cP) (h2:dj w TS (.slice a2 n2 c2) gs.2 f.code) (nU:∀x,x∈jO gs->x∉gb.toList++im gss) (jA:(jO gs).Nodup) (hn:bs.length<100000000)
  (k:∀a' cap' g' w',mu w' E TS (.slice a' (bs++[f]).length cap') g' (gss++[gs]) (vss++[[str f.aP,.slice a1 n1 c1,.slice a2 n2 c2]]) (bs++[f])->ak gb.toList w w'->(g'=gb∨∃z,g'=some z∧w.heap.size<=z)->OW P n ops K rest (cQ e dst (.slice a' (bs++[f]).length cap')) w'):
  OW P n ops K (⟨dst,.call {callee:=.builtin .append,args:=#[x,y],argTypes:=#[t,t]},ty,pos,after,g⟩::rest) e w:=by
 obtain⟨i,hi,Bp,iY,A8⟩:=hE.get
 have Ds:bytes<=1000:=Nat.le_of_ble_eq_true ij
 have Hv:(bs.length+1)*bytes<=140737488355328:=Nat.le_trans (Nat.mul_le_mul (show bs.length+1<=100000000 by omega) Ds) de
 obtain⟨v',g',w',kn,ey,hk,k8⟩:=Pp (P:=P) (w:=w) (ty:=ty) hT hi Bp iY A8 (Nat.eq_of_beq_eq_true hz) hP.own b 0 1 1 [str f.aP,.slice a1 n1 c1,.slice a2 n2 c2] rfl (by have:=hb.all;simpa using this)
  (by intro u hu;simp at hu;rcases hu with rfl|rfl|rfl<;>rfl) de (by unfold maxLen;omega) Hv
 have xB:jZ w' E 3 v' g' (bs++[f]).length (vss++[[str f.aP,.slice a1 n1 c1,.slice a2 n2 c2]]).flatten:=by
  simpa using ey
 obtain⟨a',cap',he⟩:=xB.len
 subst he
 have Hj:=(List.nodup_append.1 hP.nodup)
 have V9:∀x,x∈jO gs->x<w.heap.size:=λx hx=>by
  simp only[jO,mA] at hx
  rcases hx with hx|hx
  ·exact jZ.lt h1 x (by simpa using hx)
  ·exact jZ.lt h2 x (by simpa using hx)
 refine fT hg hd (w':=w') (by
  simp only[execOp,resolve,invoke,builtin,Sem.run_bind,Sem.run_pure,Result.andThen_ok,List.map_toArray,List.map_cons,List.map_nil,hx,hy,kn]) (k a' cap' g' w' ⟨xB,?_,?_,?_⟩ hk (k8.imp id λh=>⟨_,h,lR _⟩))
 ·refine ju.snoc (hP.rows.aO hk λx hx hg=>Hj.2.2 x hg x hx rfl) ⟨_,_,rfl,h1.aO hk λb hb hx=>?_,h2.aO hk λb hb hx=>?_⟩
  ·exact nU b (by simp[jO,hb]) (by simp at hx;simp[hx])
  ·exact nU b (by simp[jO,hb]) (by simp at hx;simp[hx])
 ·rw[Lp,<-List.append_assoc]
  refine List.nodup_append.2 ⟨List.nodup_append.2 ⟨by cases g'<;>simp,Hj.2.1,λa ha c hc=>?_⟩,jA,λa ha c hc=>?_⟩
  ·rintro rfl
   rcases k8 with h|h
   ·rw[h] at ha;exact Hj.2.2 a ha a hc rfl
   ·rw[h] at ha;simp at ha;have:=hP.lt a hc;omega
  ·rintro rfl
   rcases mA.1 ha with ha|ha
   ·rcases k8 with h|h
    ·rw[h] at ha;exact nU a hc (by simp at ha;simp[ha])
    ·rw[h] at ha;simp at ha;have:=V9 a hc;omega
   ·exact nU a hc (by simp[ha])
 ·intro x hx
  rw[Lp,mA] at hx
  rcases hx with hx|hx
  ·exact lL (hP.lt x hx) hk.size
  ·exact lL (V9 x hx) hk.size
def ju.OU {w w':World} {T:TypeId}:∀{gss:List (Option Nat×Option Nat)} {vss:List (List Value)} {bs:List Bk} {i:Nat} {g:Option Nat×Option Nat} {v:List Value} {f:Bk},ju w T gss vss bs->qt w' T g v f->
  (∀(g2:Option Nat×Option Nat) (v2:List Value) (b2:Bk),(∀x,x∈jO g2->x∈im gss)->qt w T g2 v2 b2->qt w' T g2 v2 b2)->ju w' T (gss.set i g) (vss.set i v) (bs.set i f)
 |[],[],[],i,g,v,f,_,_,_=>trivial
 |g0::gs,v0::vs,b0::bs,0,g,v,f,h,hf,hk=>by
  refine⟨hf,?_⟩
  have:=ju.OU (i:=gs.length) (g:=g) (v:=v) (f:=f) h.2 hf λg2 v2 b2 hg ho=>hk g2 v2 b2 (λx hx=>by rw[BL];exact mR _ (hg x hx)) ho
  have hl:=ju.lens h.2
  rwa [List.set_eq_of_length_le om,List.set_eq_of_length_le om,List.set_eq_of_length_le om] at this
 |g0::gs,v0::vs,b0::bs,i+1,g,v,f,h,hf,hk=>
  ⟨hk g0 v0 b0 (λx hx=>by rw[BL];exact List.mem_append_left _ hx) h.1,ju.OU h.2 hf λg2 v2 b2 hg ho=>hk g2 v2 b2 (λx hx=>by rw[BL];exact mR _ (hg x hx)) ho⟩
def ajt {T TB TS bytes:Nat} {z:Value} {v:Value} {gb:Option Nat} {gss:List (Option Nat×Option Nat)} {vss:List (List Value)} {bs:List Bk} {a2:Option Addr} {n2 c2:Nat} {g2:Option Nat} {ys:List aj} {L:List Nat} {b o i:Nat} (kM:TI P T 1 bytes z) (hg:gate ops e g=true) (hx:ev e x= .pointer (some ⟨b,o,none⟩)) (hy:ev e y= .slice a2 n2 c2) (ho:o=i*3+2)
  (hO:mu w TB TS v gb gss vss bs) (oI:gb=some b) (hi:i<bs.length) (h2:dj w TS (.slice a2 n2 c2) g2 ys) (nU:∀x,x∈g2.toList->x∉gb.toList) (hL:∀x,x∈gb.toList++im gss++g2.toList->x∉L)
  (k:∀w',ak gb.toList w w'->ko L w' v (bs.set i {bB bs i with code:=ys})->w'.heap.size=w.heap.size->OW P n ops K rest e w'):OW P n ops K (⟨none,.store T x y,ty,pos,after,g⟩::rest) e w:=by
 subst ho
 have hd:=List.nodup_append.1 hO.nodup
 have ey:=hO.own
 obtain⟨gs,vs,jP,bo,v1,v2,Lo,dS,eH⟩:=hO.rows.get (sC hi)
 obtain⟨gi,ja,wj⟩:=hO.rows.lens
 subst oI
 obtain⟨hl,h|⟨b',cap,cur,oI,hv,hb,nM,mL,cL,ht⟩⟩:=ey
 ·obtain⟨_,_,h⟩:=h;cases h
 ·cases oI
  subst hv
  refine Ke kM rfl hg hx hy rfl hb (by rw[cL];omega) λw' hk gX hz=>?_
  have pg:(vss.set i [str (bB bs i).aP,v1,.slice a2 n2 c2]).flatten=vss.flatten.set (i*3+2) (.slice a2 n2 c2):=by
   have:=Rs (a:=.slice a2 n2 c2) (j:=2) wj bo de
   rw[this,Lo];rfl
  have jU:∀x,x∈im gss->x∉[b]:=λq hq h=>by simp at h;subst h;exact hd.2.2 q sm q hq rfl
  have iZ:qt w' TS (gs.1,g2) [str (bB bs i).aP,v1,.slice a2 n2 c2] {bB bs i with code:=ys}:=
   ⟨v1,_,rfl,dS.aO hk (λb hb=>jU b (xQ jP (by simp[jO,hb]))),h2.aO hk (λb hb hx=>nU b (by simp[hb]) (by simpa using hx))⟩
  have aju:=ju.OU (i:=i) hO.rows iZ λg2 v2 b2 iA ho=>ho.aO hk λx hx=>jU x (iA x hx)
  have rZ:∀x,x∈im (gss.set i (gs.1,g2))->x∈im gss∨x∈g2.toList:=λx hx=>by
   simp only[im,List.mem_flatMap] at hx⊢
   obtain⟨q,hq,OV⟩:=hx
   rcases List.mem_or_eq_of_mem_set hq with h|h
   ·exact .inl ⟨q,h,OV⟩
   ·subst h
    simp only[jO,mA] at OV
    rcases OV with h|h
    ·exact .inl ⟨gs,List.mem_of_getElem? jP,by simp only[jO,mA];exact .inl h⟩
    ·exact .inr h
  have Hj:∀x,x∈im (gss.set i (gs.1,g2))->x≠b:=λx hx e=>by
   rcases rZ x hx with h|h
   ·exact jU x h (by simp[e])
   ·exact nU x h (by simp[e])
  refine k w' (by simpa using hk) ?_ hz
  refine ik.done (L:=L) (w:=w') (T:=TB) (g:=some b) (xs:=(vss.set i [str (bB bs i).aP,v1,.slice a2 n2 c2]).flatten) ⟨⟨?_,.inr ⟨b,_,_,rfl,sm,gX,by simpa using nM,mL,by simpa using cL,?_⟩⟩,aju.BF λx hx hc=>?_,?_,λc hc=>hL c (by simp[hc])⟩
  ·rw[pg,List.length_set,hl,List.length_map,List.length_set]
  ·rw[Array.toList_setIfInBounds,List.length_map,List.length_set,List.take_set,ht,pg]
  ·rcases mA.1 hc with hc|hc
   ·simp at hc;exact Hj x hx hc
   ·rcases rZ x hx with h|h
    ·exact hL x (by simp[h]) hc
    ·exact hL x (by simp[h]) hc
  ·intro row hr
   obtain⟨c,_,rfl⟩:=List.mem_map.1 hr
   rfl
end
def vT (bs bs':List Bk):Prop:=bs'.length=bs.length∧∀i,i<bs.length->(bB bs' i).aP=(bB bs i).aP∧(bB bs' i).cP=(bB bs i).cP∧(bB bs' i).code.length<=(bB bs i).code.length∧∀x,x∈(bB bs' i).code->x∈(bB bs i).code∨bH x=true
def vT.refl (bs:List Bk):vT bs bs:=⟨rfl,λ_ _=>⟨rfl,rfl,lR _,λ_ h=>.inl h⟩⟩
def ajv {bs:List Bk} {i j:Nat} {f:Bk} (hi:i<bs.length):bB (bs.set i f) j=if j=i then f else bB bs j:=by
 unfold bB
 rw[gG,gG,List.getElem?_set]
 by_cases h:i=j
 ·subst h;simp[hi]
 ·rw[iN h,iN (λe=>h e.symm)]
def vT.set {bs cs:List Bk} (h:vT bs cs) {i:Nat} (hi:i<bs.length) {ys:List aj} (hl:ys.length<=(bB bs i).code.length) (hy:∀x,x∈ys->x∈(bB bs i).code∨bH x=true):vT bs (cs.set i {bB cs i with code:=ys}):=by
 refine⟨by rw[List.length_set];exact h.1,λj hj=>?_⟩
 rw[ajv (by rw[h.1];exact hi)]
 by_cases e:j=i
 ·subst e
  rw[iP rfl]
  obtain⟨h1,h2,_,_⟩:=h.2 j hj
  exact⟨h1,h2,hl,hy⟩
 ·rw[iN e];exact h.2 j hj
def EF:List aj:=[[48],[49],[45,55],[57,57,57]]
def OX:List aj:=[[97,100,100],[115,117,98],[109,117,108]]
def OY:List aj:=[[48],[49],[50]]
def OZ:List aj:=[[109,97,105,110],[98,48],[98,49],[101,110,100]]
def O0:List aj:=[[40,101,32,118,41,32,105],[40,101,32,40,116,32,118,32,118,41,41,32,105],[40,101,32,40,116,32,40,99,32,118,32,105,41,32,118,41,41,32,40,116,41],[40,101,32,118,41,32,40,116,32,105,32,105,41]]
def O1:List aj:=[[98,48],[98,49],[109,97,105,110]]
def O2:List aj:=[[40,104,97,108,116,32,52,48,41],[40,99,111,110,115,116,32,49,32,120,41],[40,109,111,118,32,49,41],[40,110,101,119,41],[40,112,97,99,107,32,49,32,50,32,105,32,105,41],[],[40,103,101,116,32,49,32,50,32,45,49,41],[40,122,101,114,111,32,49,32,50,41],[40,108,97,98,32,48,32,109,97,105,110,41],[40,104,97,108,116,32,48,41]]
set_option maxHeartbeats 4000000 in
def ajw (br q:Nat) (hq:q<=900000000) (w:World) (h:dY w br q):
  ck Tryz.prog 77 [.pointer (some ⟨br,0,none⟩)] w λr w'=>(∃x,r=str x∧x.length<=100)∧dY w' br (q+5)∧ak [br] w w':=by
 refine cX [.tmp 2] 133 Tryz.func77 rfl Zw rfl rfl ?_
 refine zr<|zA<|ag<|zr<|zm<|aC (Hh br (q+0) om w h) ?_
 rintro v7 w1 ⟨⟨za,VX,e7⟩,h,cz⟩
 have hxA:∃x,x=bf za:=⟨_,rfl⟩
 obtain⟨tA,etA⟩:=hxA
 rw[<-etA] at e7
 subst e7
 have U0:tA.length<=3:=(by rw[etA];exact sR om)
 have aG:=cz
 refine zA<|ag<|zr<|zm<|aC (Hh br (q+1) om w1 h) ?_
 rintro v7 w2 ⟨⟨zb,VY,e7⟩,h,cz⟩
 have hxB:∃x,x=bf zb:=⟨_,rfl⟩
 obtain⟨tB,etB⟩:=hxB
 rw[<-etB] at e7
 subst e7
 have U1:tB.length<=3:=(by rw[etB];exact sR om)
 have aG:=aG.trans cz
 refine zA<|ag<|zr<|zm<|aC (Hh br (q+2) om w2 h) ?_
 rintro v7 w3 ⟨⟨zd,hzd,e7⟩,h,cz⟩
 have hxD:∃x,x=bf zd:=⟨_,rfl⟩
 obtain⟨tD,etD⟩:=hxD
 rw[<-etD] at e7
 subst e7
 have hlD:tD.length<=3:=(by rw[etD];exact sR om)
 have aG:=aG.trans cz
 refine zA<|ag<|aQ<|zr<|zm<|aC (mI 14 de de br (q+3) om w3 h) ?_
 rintro wR w4 ⟨⟨z,GC,hz⟩,h,fM⟩
 subst GC
 have aG:=aG.trans fM
 have ox:=h.lt
 refine ag<|cS<|aQ<|zr<|dQ rfl rfl rfl<|zA<|ag<|zc rfl (λh1=>?_) (λh1=>?_)
 refine bz<|zc rfl (λh2=>?_) (λh2=>?_)
 refine zr<|zm<|cu rfl rfl so<|cu rfl rfl so<|zm<|ya bh bA rfl rfl rfl rfl rfl rfl ?_
 intro w5 aU vq jr
 have h:=h.ext aU;have aG:=aG.ext aU
 refine aC (mo EF de de br (q+4) om _ w5 h (aY.eF EF vq (λhx=>by simp at hx;omega) de)) ?_
 rintro lz w6 ⟨⟨x1,iM,ig⟩,h,dM⟩
 subst ig
 have aG:=aG.trans dM
 have fj:=(show∀x,x∈EF->x.length<=30 from by decide) _ iM
 refine cu rfl rfl so<|cu rfl rfl so<|zA<|ag<|aV ?_
 exact⟨_,rfl,⟨_,rfl,by simp;omega⟩,h.more om,aG⟩
 omega
 refine df<|dQ rfl rfl rfl<|zA<|ag<|zc rfl (λh3=>?_) (λh3=>?_)
 refine zr<|zm<|cu rfl rfl so<|cu rfl rfl so<|zm<|ya bh bA rfl rfl rfl rfl rfl rfl ?_
 intro w5 aU vq jr
 have h:=h.ext aU;have aG:=aG.ext aU
 refine aC (mo EF de de br (q+4) om _ w5 h (aY.eF EF vq (λhx=>by simp at hx;omega) de)) ?_
 rintro lz w6 ⟨⟨x1,iM,ig⟩,h,dM⟩
 subst ig
 have aG:=aG.trans dM
 have fj:=(show∀x,x∈EF->x.length<=30 from by decide) _ iM
 refine cu rfl rfl so<|cu rfl rfl so<|zA<|ag<|aV ?_
 exact⟨_,rfl,⟨_,rfl,by simp;omega⟩,h.more om,aG⟩
 refine zr<|dQ rfl rfl rfl<|zA<|ag<|zc rfl (λh4=>?_) (λh4=>?_)
 refine zr<|zm<|cu rfl rfl so<|cu rfl rfl so<|zm<|cu rfl rfl so<|cu rfl rfl so<|zA<|ag<|aV ?_
 exact⟨_,rfl,⟨_,rfl,by simp;omega⟩,h.more om,aG⟩
 refine zr<|dQ rfl rfl rfl<|zA<|ag<|zc rfl (λh5=>?_) (λh5=>?_)
 refine zr<|zm<|pU bh bA rfl rfl rfl rfl rfl ?_
 intro w5 aU vJ jr
 have h:=h.ext aU;have aG:=aG.ext aU
 refine aC (mo OX de de br (q+4) om _ w5 h (aY.eF OX vJ (λhx=>by simp at hx;omega) de)) ?_
 rintro lz w6 ⟨⟨x1,iM,ig⟩,h,dM⟩
 subst ig
 have aG:=aG.trans dM
 have fj:=(show∀x,x∈OX->x.length<=30 from by decide) _ iM
 refine cu rfl rfl so<|cu rfl rfl so<|zm<|cu rfl rfl so<|cu rfl rfl so<|zm<|cu rfl rfl so<|cu rfl rfl so<|zm<|cu rfl rfl so<|cu rfl rfl so<|zA<|ag<|aV ?_
 exact⟨_,rfl,⟨_,rfl,by simp;omega⟩,h.more om,aG⟩
 refine zr<|dQ rfl rfl rfl<|zA<|ag<|zc rfl (λh6=>?_) (λh6=>?_)
 refine zr<|zm<|cu rfl rfl so<|cu rfl rfl so<|zm<|cu rfl rfl so<|cu rfl rfl so<|zm<|cu rfl rfl so<|cu rfl rfl so<|zA<|ag<|aV ?_
 exact⟨_,rfl,⟨_,rfl,by simp;omega⟩,h.more om,aG⟩
 refine zr<|dQ rfl rfl rfl<|zA<|ag<|zc rfl (λh7=>?_) (λh7=>?_)
 refine zr<|zm<|cu rfl rfl so<|cu rfl rfl so<|zA<|ag<|aV ?_
 exact⟨_,rfl,⟨_,rfl,by simp;omega⟩,h.more om,aG⟩
 refine zr<|dQ rfl rfl rfl<|zA<|ag<|zc rfl (λh8=>?_) (λh8=>?_)
 refine zr<|zm<|cu rfl rfl so<|cu rfl rfl so<|zm<|cu rfl rfl so<|cu rfl rfl so<|zm<|pU bh bA rfl rfl rfl rfl rfl ?_
 intro w5 aU NN jr
 have h:=h.ext aU;have aG:=aG.ext aU
 refine aC (mo OY de de br (q+4) om _ w5 h (aY.eF OY NN (λhx=>by simp at hx;omega) de)) ?_
 rintro lz w6 ⟨⟨x1,iM,ig⟩,h,dM⟩
 subst ig
 have aG:=aG.trans dM
 have fj:=(show∀x,x∈OY->x.length<=30 from by decide) _ iM
 refine cu rfl rfl so<|cu rfl rfl so<|zA<|ag<|aV ?_
 exact⟨_,rfl,⟨_,rfl,by simp;omega⟩,h.more om,aG⟩
 refine zr<|dQ rfl rfl rfl<|zA<|ag<|zc rfl (λh9=>?_) (λh9=>?_)
 refine zr<|zm<|cu rfl rfl so<|cu rfl rfl so<|zm<|ya bh bA rfl rfl rfl rfl rfl rfl ?_
 intro w5 aU Ek jr
 have h:=h.ext aU;have aG:=aG.ext aU
 refine aC (mo OZ de de br (q+4) om _ w5 h (aY.eF OZ Ek (λhx=>by simp at hx;omega) de)) ?_
 rintro lz w6 ⟨⟨x1,iM,ig⟩,h,dM⟩
 subst ig
 have aG:=aG.trans dM
 have fj:=(show∀x,x∈OZ->x.length<=30 from by decide) _ iM
 refine cu rfl rfl so<|cu rfl rfl so<|zA<|ag<|aV ?_
 exact⟨_,rfl,⟨_,rfl,by simp;omega⟩,h.more om,aG⟩
 refine zr<|dQ rfl rfl rfl<|zA<|ag<|zc rfl (λgI=>?_) (λgI=>?_)
 refine zr<|zm<|cu rfl rfl so<|cu rfl rfl so<|zm<|cu rfl rfl so<|cu rfl rfl so<|zm<|ya bh bA rfl rfl rfl rfl rfl rfl ?_
 intro w5 aU GS jr
 have h:=h.ext aU;have aG:=aG.ext aU
 refine aC (mo O0 de de br (q+4) om _ w5 h (aY.eF O0 GS (λhx=>by simp at hx;omega) de)) ?_
 rintro lz w6 ⟨⟨x1,iM,ig⟩,h,dM⟩
 subst ig
 have aG:=aG.trans dM
 have fj:=(show∀x,x∈O0->x.length<=30 from by decide) _ iM
 refine cu rfl rfl so<|cu rfl rfl so<|zA<|ag<|aV ?_
 exact⟨_,rfl,⟨_,rfl,by simp;omega⟩,h.more om,aG⟩
 refine zr<|dQ rfl rfl rfl<|zA<|ag<|zc rfl (λkq=>?_) (λkq=>?_)
 refine zr<|zm<|cu rfl rfl so<|cu rfl rfl so<|zm<|cu rfl rfl so<|cu rfl rfl so<|zA<|ag<|aV ?_
 exact⟨_,rfl,⟨_,rfl,by simp;omega⟩,h.more om,aG⟩
 refine zr<|dQ rfl rfl rfl<|zA<|ag<|zc rfl (λjM=>?_) (λjM=>?_)
 refine zr<|zm<|cu rfl rfl so<|cu rfl rfl so<|zm<|pU bh bA rfl rfl rfl rfl rfl ?_
 intro w5 aU Jz jr
 have h:=h.ext aU;have aG:=aG.ext aU
 refine aC (mo O1 de de br (q+4) om _ w5 h (aY.eF O1 Jz (λhx=>by simp at hx;omega) de)) ?_
 rintro lz w6 ⟨⟨x1,iM,ig⟩,h,dM⟩
 subst ig
 have aG:=aG.trans dM
 have fj:=(show∀x,x∈O1->x.length<=30 from by decide) _ iM
 refine cu rfl rfl so<|cu rfl rfl so<|zA<|ag<|aV ?_
 exact⟨_,rfl,⟨_,rfl,by simp;omega⟩,h.more om,aG⟩
 refine zr<|dQ rfl rfl rfl<|zA<|ag<|zc rfl (λlJ=>?_) (λlJ=>?_)
 refine zr<|zm<|zm<|cu rfl rfl so<|cu rfl rfl so<|zm<|cu rfl rfl so<|cu rfl rfl so<|lq bh bA rfl rfl rfl rfl ?_
 intro w5 aU MX jr
 have h:=h.ext aU;have aG:=aG.ext aU
 refine aC (mo [[40,106,117,109,112,32]++tA++[41],[40,104,97,108,116,32]++tA++[41]] sm sm br (q+4) om _ w5 h (aY.eF [[40,106,117,109,112,32]++tA++[41],[40,104,97,108,116,32]++tA++[41]] MX (λhx=>by simp at hx;omega))) ?_
 rintro lz w6 ⟨⟨x1,iM,ig⟩,h,dM⟩
 subst ig
 have aG:=aG.trans dM
 have fj:x1.length<=30:=(by simp only[mC,nN,oF] at iM;rcases iM with rfl|rfl<;>simp<;>omega)
 refine zA<|ag<|aV ?_
 exact⟨_,rfl,⟨_,rfl,om⟩,h.more om,aG⟩
 refine bz<|zr<|zm<|acK bh bA rfl rfl rfl rfl rfl rfl rfl rfl rfl rfl rfl rfl ?_
 intro w5 aU ajA jr
 have h:=h.ext aU;have aG:=aG.ext aU
 refine aC (mo O2 de de br (q+4) om _ w5 h (aY.eF O2 ajA (λhx=>by simp at hx;omega) de)) ?_
 rintro lz w6 ⟨⟨x1,iM,ig⟩,h,dM⟩
 subst ig
 have aG:=aG.trans dM
 have fj:=(show∀x,x∈O2->x.length<=30 from by decide) _ iM
 refine zA<|ag<|aV ?_
 exact⟨_,rfl,⟨_,rfl,om⟩,h.more om,aG⟩
def J7:List aj:=[[105],[105],[40,116,41],[40,116,32,105,32,105,41],[40,101,32,118,41]]
def ajB {α:Type} {l:List α} (h:l.length=7):∃a b c d e f g,l=[a,b,c,d,e,f,g]:=by
 match l,h with|[a,b,c,d,e,f,g],_=>exact⟨a,b,c,d,e,f,g,rfl⟩
structure O3 (b:Bk) (aP:aj):Prop where
 aP:b.aP=aP
 regs:b.cP.length<=10∧∀x,x∈b.cP->x.length<=100
 code:1<=b.code.length∧b.code.length<=10∧∀x,x∈b.code->x.length<=100
structure rM (br:Nat) (w:World) (b6 b7:Nat) (aP:aj) (v1:Value) (g1:Option Nat) (xs:List aj) (v2:Value) (g2:Option Nat) (ys:List aj) (q:Nat) (ww:World):Prop where
 box:aY ww b7 [str aP,v1,v2].toArray 29
 res:aY ww b6 [str [],.slice none 0 0,.slice none 0 0].toArray 29
 o1:dj ww 9 v1 g1 xs
 o2:dj ww 9 v2 g2 ys
 rd:dY ww br q
 kp:ak [br] w ww
 f1:∀x,x∈g1.toList->w.heap.size<=x∧x≠b6∧x≠b7∧x∉g2.toList
 f2:∀x,x∈g2.toList->w.heap.size<=x∧x≠b6∧x≠b7∧x∉g1.toList
def rM.ext {br:Nat} {w:World} {b6 b7:Nat} {aP:aj} {v1:Value} {g1:Option Nat} {xs:List aj} {v2:Value} {g2:Option Nat} {ys:List aj} {q:Nat} {ww w':World} (h:rM br w b6 b7 aP v1 g1 xs v2 g2 ys q ww) (k:ak [] ww w'):rM br w b6 b7 aP v1 g1 xs v2 g2 ys q w':=
 ⟨h.box.ext k,h.res.ext k,h.o1.ext k,h.o2.ext k,h.rd.ext k,h.kp.ext k,h.f1,h.f2⟩
def rM.GD {br:Nat} {w:World} {b6 b7:Nat} {aP:aj} {v1:Value} {g1:Option Nat} {xs:List aj} {v2:Value} {g2:Option Nat} {ys:List aj} {q q':Nat} {ww wx w':World} {v:Value} {g:Option Nat} {zs:List aj} (h:rM br w b6 b7 aP v1 g1 xs v2 g2 ys q ww) (iG:br<w.heap.size) (h6:w.heap.size<=b6) (h7:w.heap.size<=b7) (O4:b6≠b7) (hO:dj wx 9 v g zs) (fu:dY wx br q') (k:ak (br::g1.toList) ww wx) (hg:g=g1∨∃z,g=some z∧ww.heap.size<=z) (k2:ak [b7] wx w') (hb:aY w' b7 [str aP,v,v2].toArray 29):rM br w b6 b7 aP v g zs v2 g2 ys q' w':=by
 have iA:∀x,x∈g.toList->x∈g1.toList∨ww.heap.size<=x:=λx hx=>by
  rcases hg with rfl|⟨z,rfl,hz⟩
  ·exact .inl hx
  ·simp at hx;right;omega
 have s7:=h.box.lt
 have s6:=h.res.lt
 have iY:=h.kp.size
 have f1:∀x,x∈g.toList->w.heap.size<=x∧x≠b6∧x≠b7∧x∉g2.toList:=λx hx=>by
  rcases iA x hx with h9|h9
  ·exact h.f1 x h9
  ·exact⟨by omega,om,om,λhy=>by have:=h.o2.lt x hy;omega⟩
 have n6:b6∉br::g1.toList:=λhx=>by
  rcases mC.1 hx with h9|h9
  ·omega
  ·exact(h.f1 b6 h9).2.1 rfl
 refine⟨hb,(h.res.aO k n6).aO k2 (by simpa using O4),hO.aO k2 (λx hx hy=>(f1 x (by simp[hx])).2.2.1 (by simpa using hy)),(h.o2.aO k (λx hx hy=>?_)).aO k2 (λx hx hy=>(h.f2 x (by simp[hx])).2.2.1 (by simpa using hy)),fu.aO k2 (λx hx=>by simp at hx;omega),?_,f1,λx hx=>⟨(h.f2 x hx).1,(h.f2 x hx).2.1,(h.f2 x hx).2.2.1,λhy=>(f1 x hy).2.2.2 hx⟩⟩
 ·rcases mC.1 hy with h9|h9
  ·have:=(h.f2 x (by simp[hx])).1;omega
  ·exact(h.f2 x (by simp[hx])).2.2.2 h9
 ·refine(h.kp.since k λx hx=>?_).since k2 λx hx=>.inr (by simp at hx;omega)
  rcases mC.1 hx with h9|h9
  ·exact .inl (by simp[h9])
  ·exact .inr (h.f1 x h9).1
def rM.AH {br:Nat} {w:World} {b6 b7:Nat} {aP:aj} {v1:Value} {g1:Option Nat} {xs:List aj} {v2:Value} {g2:Option Nat} {ys:List aj} {q q':Nat} {ww wx w':World} {v:Value} {g:Option Nat} {zs:List aj} (h:rM br w b6 b7 aP v1 g1 xs v2 g2 ys q ww) (iG:br<w.heap.size) (h6:w.heap.size<=b6) (h7:w.heap.size<=b7) (O4:b6≠b7) (hO:dj wx 9 v g zs) (fu:dY wx br q') (k:ak (br::g2.toList) ww wx) (hg:g=g2∨∃z,g=some z∧ww.heap.size<=z) (k2:ak [b7] wx w') (hb:aY w' b7 [str aP,v1,v].toArray 29):rM br w b6 b7 aP v1 g1 xs v g zs q' w':=by
 have iA:∀x,x∈g.toList->x∈g2.toList∨ww.heap.size<=x:=λx hx=>by
  rcases hg with rfl|⟨z,rfl,hz⟩
  ·exact .inl hx
  ·simp at hx;right;omega
 have s7:=h.box.lt
 have s6:=h.res.lt
 have iY:=h.kp.size
 have f1:∀x,x∈g.toList->w.heap.size<=x∧x≠b6∧x≠b7∧x∉g1.toList:=λx hx=>by
  rcases iA x hx with h9|h9
  ·exact h.f2 x h9
  ·exact⟨by omega,om,om,λhy=>by have:=h.o1.lt x hy;omega⟩
 have n6:b6∉br::g2.toList:=λhx=>by
  rcases mC.1 hx with h9|h9
  ·omega
  ·exact(h.f2 b6 h9).2.1 rfl
 refine⟨hb,(h.res.aO k n6).aO k2 (by simpa using O4),(h.o1.aO k (λx hx hy=>?_)).aO k2 (λx hx hy=>(h.f1 x (by simp[hx])).2.2.1 (by simpa using hy)),hO.aO k2 (λx hx hy=>(f1 x (by simp[hx])).2.2.1 (by simpa using hy)),fu.aO k2 (λx hx=>by simp at hx;omega),?_,λx hx=>⟨(h.f1 x hx).1,(h.f1 x hx).2.1,(h.f1 x hx).2.2.1,λhy=>(f1 x hy).2.2.2 hx⟩,f1⟩
 ·rcases mC.1 hy with h9|h9
  ·have:=(h.f1 x (by simp[hx])).1;omega
  ·exact(h.f1 x (by simp[hx])).2.2.2 h9
 ·refine(h.kp.since k λx hx=>?_).since k2 λx hx=>.inr (by simp at hx;omega)
  rcases mC.1 hx with h9|h9
  ·exact .inl (by simp[h9])
  ·exact .inr (h.f2 x h9).1
def rM.call {br:Nat} {w:World} {b6 b7:Nat} {aP:aj} {v1:Value} {g1:Option Nat} {xs:List aj} {v2:Value} {g2:Option Nat} {ys:List aj} {q q':Nat} {ww w':World} (h:rM br w b6 b7 aP v1 g1 xs v2 g2 ys q ww) (iG:br<w.heap.size) (h6:w.heap.size<=b6) (h7:w.heap.size<=b7) (fu:dY w' br q') (k:ak [br] ww w'):rM br w b6 b7 aP v1 g1 xs v2 g2 ys q' w':=
 ⟨h.box.aO k so,h.res.aO k so,h.o1.aO k (λx hx hy=>by have:=(h.f1 x (by simp[hx])).1;simp at hy;omega),h.o2.aO k (λx hx hy=>by have:=(h.f2 x (by simp[hx])).1;simp at hy;omega),fu,h.kp.trans k,h.f1,h.f2⟩
set_option maxHeartbeats 4000000 in
def O5 (aP:aj) (k:Nat) (hk:k<=10) (br q:Nat) (hq:q<=800000000) (w:World) (h:dY w br q):
  ck Tryz.prog 48 [.pointer (some ⟨br,0,none⟩),str aP,.int .i64 (k:Int)] w λr w'=>(∃bk,O3 bk aP∧∀L:List Nat,(∀x,x∈L->x<w.heap.size)->qY L w' r bk)∧dY w' br (q+100)∧ak [br] w w':=by
 have iG:=h.lt
 have hK:=ak.refl [] w
 refine lH [.cell 6 29] 64 Tryz.func48 rfl Zc rfl rfl rfl ?_
 refine zr<|eD gT rfl rfl rfl ?_
 intro w1 aK bQ lI
 have hK:=hK.ext aK
 refine ag<|zr<|zm<|gP bh bA ?_
 intro w2 aq mz Gk
 have hK:=hK.ext aq;have bQ:=bQ.ext aq
 refine gP bh bA ?_
 intro w3 aJ wU Cq
 have hK:=hK.ext aJ;have bQ:=bQ.ext aJ;have mz:=mz.ext aJ
 refine j7 (Ky _ _ _ _ _ _ _ _) rfl rfl<|eD gT rfl rfl rfl ?_
 intro w4 aF cI qm
 have hK:=hK.ext aF;have bQ:=bQ.ext aF;have mz:=mz.ext aF;have wU:=wU.ext aF
 refine dw gT rfl rfl rfl cI rfl ?_
 intro w5 aU cI dP
 have hK:=hK.since aU (λx hx=>.inr (by simp at hx;omega))
 have bQ:=bQ.aO aU so
 have mz:=mz.aO aU so
 have wU:=wU.aO aU so
 have hS:rM br w w.heap.size w3.heap.size aP (.slice (some ⟨w1.heap.size,0,none⟩) 0 0) (some w1.heap.size) [] (.slice (some ⟨w2.heap.size,0,none⟩) 0 0) (some w2.heap.size) [] q w5:=⟨cI,bQ,mz.lr,wU.lr,h.ext hK,hK.any,λx hx=>by simp at hx;subst hx;simp;omega,λx hx=>by simp at hx;subst hx;simp;omega⟩
 refine ag<|aQ<|zr<|zA<|ag<|cS ?_
 refine fY (λi:Nat=>[(0,.pointer (some ⟨br,0,none⟩)),(6,.pointer (some ⟨w.heap.size,0,none⟩)),(7,.pointer (some ⟨w3.heap.size,0,none⟩)),(2,.int .i64 (k:Int)),(8,.int .i64 (i:Int))]) (λi ww=>i<=k∧∃v1 g1 xs v2 g2,rM br w w.heap.size w3.heap.size aP v1 g1 xs v2 g2 [] (q+i) ww∧xs.length=i∧∀x,x∈xs->x.length<=100) (λi=>k-i) (0) (⟨rfl,rfl,rfl,rfl,rfl⟩) (⟨Nat.zero_le _,_,_,_,_,_,hS,rfl,sm⟩) ?_
 intro gg w6 e6 hI
 obtain⟨hi,v1,g1,xs,v2,g2,hS,hxn,yT⟩:=hI
 refine aQ<|zr<|zm<|zm<|fA rfl rfl rfl<|ag<|zc rfl (λh1=>?_) (λh1=>?_)
 have lj:gg<k:=(by simp at h1;omega)
 have cL:=kv hS.o1
 obtain⟨a1,c1,e1⟩:=cL
 subst e1
 have ajD:br∉g1.toList:=(λhx=>by have:=(hS.f1 br hx).1;omega)
 have bj:fi (br::g1.toList) w6 w3.heap.size [str aP,.slice a1 xs.length c1,v2].toArray 29:=⟨hS.box,λhx=>by rcases mC.1 hx with h9|h9;(·omega);(·exact(hS.f1 _ h9).2.2.1 rfl)⟩
 have tY:=bj.out
 have p6:fy (br::g1.toList) w6:=(λz hz=>by rcases mC.1 hz with h9|h9;(·rw[h9];exact hS.rd.lt);(·exact hS.o1.lt z h9))
 refine bz<|aQ<|cS ?_
 apply kf et ((br::g1.toList)) 7 (rA 21 7) (rA 21 7) [[],[0],[],[],[2,3],[4],[1,5]] [Ie.v _,Ie.v _,Ie.v _,Ie.p (fun(G:List Nat) (v:Value) (ww:World)=>bI G ww v J7),Ie.e 0,Ie.e 1,Ie.e 2] [4,5,6] [fun(G:List Nat) (vs:List Value) (ww:World)=>G=br::g1.toList∧ak [] w6 ww,fun(G:List Nat) (vs:List Value) (ww:World)=>G=br::g1.toList∧ak [br] w6 ww∧dY ww br (q+gg+1)∧∃x,vs.getD 0 undef=str x∧x.length<=100,fun(G:List Nat) (vs:List Value) (ww:World)=>G=br::g1.toList∧ak [br] w6 ww∧dY ww br (q+gg+1)∧∃x bb,vs.getD 0 undef=str x∧x.length<=100∧vs.getD 1 undef= .slice (some ⟨bb,0,none⟩) 1 1∧aY ww bb [str x].toArray 9,fun(G:List Nat) (vs:List Value) (ww:World)=>ak (br::g1.toList) w6 ww∧dY ww br (q+gg+1)∧∃x g9,x.length<=100∧dj ww 9 (vs.getD 2 undef) g9 (xs++[x])∧(g9=g1∨∃z,g9=some z∧w6.heap.size<=z)] de rfl p6 (by exact⟨λG v w G' w' h k=>bI.go h k,trivial⟩) (by exact⟨λG vs w w' ⟨h1,h2⟩ k=>⟨h1,h2.ext k⟩,λG vs w w' ⟨h1,h2,h3,h4⟩ k=>⟨h1,h2.ext k,h3.ext k,h4⟩,λG vs w w' ⟨h1,h2,h3,x,bb,h4,h5,h6,h7⟩ k=>⟨h1,h2.ext k,h3.ext k,x,bb,h4,h5,h6,h7.ext k⟩,λG vs w w' ⟨h1,h2,x,g9,h3,h4,h5⟩ k=>⟨h1.ext k,h2.ext k,x,g9,h3,h4.ext k,h5⟩,trivial⟩) (⟨rfl,ak.refl _ _⟩)
 refine vf (λ_ _ _ _ _ _=>zf xF rfl fv) ?_
 refine vf (λx w7 G7 aW iX jY=>?_) ?_
 have bj:=bj.go iX
 refine zl eS rfl (bj.at rfl) ?_
 exact fv
 refine cT ?_
 refine vf (λx w7 G7 aW iX jY=>?_) ?_
 refine Mf bh bA rfl rfl rfl rfl rfl rfl rfl ?_
 intro w8 cv Cr mr
 exact ff cv ((aY.eF J7 Cr (λhx=>by have:=jY _ hx;omega) de))
 refine ve 0 (λx w7 G7 aW iX jY hJ hlen=>?_) ?_
 have bo:=jR hlen
 subst bo
 intro v3 d3
 obtain⟨cB,cD⟩:=hJ
 subst cB
 have fu:=hS.rd.ext cD
 refine aC (mo J7 de de br (q+gg) om _ w7 fu (bI.fresh d3 (λx hx=>.inl (by simp at hx;simp[hx])))) ?_
 rintro v25 w8 ⟨⟨x1,iM,Np⟩,fu,GH⟩
 subst Np
 have gi:=(show∀x,x∈J7->x.length<=100 from by decide) _ iM
 exact fe _ (Fr.of GH sm) ((λz hz=>lL (jY z hz) GH.size)) (⟨rfl,cD.any.trans GH,fu,x1,rfl,gi⟩)
 refine ve 1 (λx w7 G7 aW iX jY hJ hlen=>?_) ?_
 have aR:=jS hlen
 obtain⟨q0,bo⟩:=aR
 subst bo
 obtain⟨cB,cD,fu,x1,e1,gi⟩:=hJ
 subst cB
 have e2:q0=_:=e1
 subst e2
 refine gH bh bA rfl rfl ?_
 intro w8 cv Cv mr
 exact fe _ (Fr.of cv sm) ((λz hz=>lL (jY z hz) (ak.size cv))) (⟨rfl,cD.ext cv,fu.ext cv,x1,_,rfl,gi,rfl,Cv⟩)
 refine ve 2 (λx w7 G7 aW iX jY hJ hlen=>?_) ?_
 have aR:=lP hlen
 obtain⟨q0,q1,bo⟩:=aR
 subst bo
 obtain⟨cB,cD,fu,x1,bb,e1,gi,e2,gz⟩:=hJ
 subst cB
 have e3:q0=_:=e1
 subst e3
 have e4:q1=_:=e2
 subst e4
 have ho:=hS.o1.aO cD (λx hx hy=>ajD (by simp at hy;subst hy;simp[hx]))
 refine se bh bA rfl rfl rfl rfl rfl rfl ho gz om ?_
 intro v9 g9 w8 dL aG fN
 have O6:=cD.size
 exact fe ((br::g9.toList)) (⟨aG.mono (λz hz=>mK _ hz),λz hz=>by rcases mC.1 hz with h9|h9;(·exact .inl (by simp[h9]));(·rcases fN with h8|h8;(·rw[h8] at h9;exact .inl (mK _ h9));(·rw[h8] at h9;simp at h9;right;omega))⟩) ((λz hz=>by rcases mC.1 hz with h9|h9;(·rw[h9];exact lL fu.lt aG.size);(·exact dL.lt z h9))) (⟨(cD.mono sm).trans (aG.mono (λz hz=>mK _ hz)),fu.aO aG (λz hz=>by have:=(hS.f1 z hz).1;omega),x1,g9,gi,dL,fN.imp id (λh8=>⟨_,h8,O6⟩)⟩)
 exact trivial
 intro x qJ Jn aW xd Jo hJ hlen
 have aR:=Al hlen
 obtain⟨q0,q1,q2,bo⟩:=aR
 subst bo
 intro v3 d3
 have bj:=bj.go xd
 change OW _ _ _ _ _ (aM (aN _ x _) (zZ 21 [_,_,_,_,_,_,_])) _
 obtain⟨fo,fu,x1,g9,gi,dL,fN⟩:=hJ
 have cL:=kv dL
 obtain⟨a9,c9,e9⟩:=cL
 have e8:q2=_:=e9
 subst e8
 have bj:=hS.box.aO fo tY
 refine zf xF rfl<|gY (o:=1) nO rfl rfl rfl bj rfl ?_
 intro wQ jm bj dP
 have hS:=hS.GD iG (lR _) om om dL fu fo fN jm bj
 refine ag<|df<|zm<|eI rfl rfl rfl (km (gg+1) om _ om)<|zA<|ag ?_
 exact⟨gg+1,⟨rfl,rfl,rfl,rfl,rfl⟩,⟨by omega,_,_,_,_,_,hS,by rw[lA,hxn];rfl,λx hx=>by rcases mA.1 hx with h9|h9;(·exact yT x h9);(·simp only[mS] at h9;rw[h9];exact gi)⟩,om⟩
 have B3:=hS.rd.more (show q+gg<=q+10 from om)
 have ajE:xs.length<=10:=om
 refine gD<|gF rfl<|zr<|zm<|aC (mI 5 de de br (q+10) om w6 B3) ?_
 rintro v30 w7 ⟨⟨n,e30,hn⟩,fu,ajG⟩
 subst e30
 have hS:=hS.call iG (lR _) om fu ajG
 refine zA<|ag<|aQ<|zr<|zA<|ag<|cS ?_
 refine fY (λj:Nat=>[(0,.pointer (some ⟨br,0,none⟩)),(6,.pointer (some ⟨w.heap.size,0,none⟩)),(7,.pointer (some ⟨w3.heap.size,0,none⟩)),(9,.int .i64 (n:Int)),(10,.int .i64 (j:Int))]) (λj ww=>j<=n∧∃v1 g1 v2 g2 ys,rM br w w.heap.size w3.heap.size aP v1 g1 xs v2 g2 ys (q+11+5*j) ww∧ys.length<=j∧∀x,x∈ys->x.length<=100) (λj=>n-j) (0) (⟨rfl,rfl,rfl,rfl,rfl⟩) (⟨Nat.zero_le _,_,_,_,_,[],hS,sm,sm⟩) ?_
 intro gg w8 e8 hI
 obtain⟨hj,v1,g1,v2,g2,ys,hS,hyn,O7⟩:=hI
 refine aQ<|zr<|zm<|zm<|fA rfl rfl rfl<|ag<|zc rfl (λh2=>?_) (λh2=>?_)
 have rY:gg<n:=om
 refine bz<|aQ<|cS<|zr<|zm<|aC (ajw br (q+11+5*gg) om w8 hS.rd) ?_
 rintro v37 w9 ⟨⟨x1,e37,gi⟩,fu,ajI⟩
 subst e37
 have hS:=hS.call iG (lR _) om fu ajI
 refine zA<|ag<|zr<|zm<|aC (K2 x1 w9) ?_
 rintro v10 cO ⟨ry,bV⟩
 have Ce:=bV.size
 have hS:=hS.ext bV
 obtain rfl:=ry
 refine zm ?_
 apply fZ 4 40 44 [40,41,42,43,44] (ak [] cO) rfl
 intro h3
 replace h3:=bw h3
 have Hk:=ak.refl [] cO
 refine zm<|aC (HS x1 cO) ?_
 rintro v11 eY ⟨rF,cM⟩
 have CG:=cM.size
 have Hk:=Hk.ext cM
 obtain rfl:=rF
 refine eM rfl<|zp rfl<|ag ?_
 exact mg rfl Hk
 intro h3
 replace h3:=bw h3
 have Hk:=ak.refl [] cO
 refine zs<|zs<|zs<|zp rfl<|ag ?_
 exact mg rfl Hk
 intro xx eY cM
 have hS:=hS.ext cM
 refine ag<|zc rfl (λh4=>?_) (λh4=>?_)
 have cL:=kv hS.o2
 obtain⟨a2,c2,e2⟩:=cL
 subst e2
 have bj:=hS.box
 refine df<|zf mV rfl<|zl eS rfl (bj.at rfl)<|zm<|gH bh bA rfl rfl ?_
 intro gj dG CH Nq
 have hS:=hS.ext dG
 refine se bh bA rfl rfl rfl rfl rfl rfl hS.o2 CH om ?_
 intro v9 g9 jF dL fM fN
 have cL:=kv dL
 obtain⟨a9,c9,e9⟩:=cL
 subst e9
 have fo:ak (br::g2.toList) _ jF:=(fM).mono (λz hz=>mK _ hz)
 have ajJ:=hS.rd.aO fM (λz hz=>by have:=(hS.f2 z hz).1;omega)
 have bj:=hS.box.aO fM (λhx=>(hS.f2 _ hx).2.2.1 rfl)
 refine zf mV rfl<|gY (o:=2) nO rfl rfl rfl bj rfl ?_
 intro jg dM bj dP
 have hS:=hS.AH iG (lR _) om om dL ajJ fo (fN.imp id (λh8=>⟨_,h8,lR _⟩)) dM bj
 refine ag<|df<|zm<|eI rfl rfl rfl (km (gg+1) om _ om)<|zA<|ag ?_
 exact⟨gg+1,⟨rfl,rfl,rfl,rfl,rfl⟩,⟨by omega,_,_,_,_,_,hS,by rw[lA];simp;omega,λx hx=>by rcases mA.1 hx with h9|h9;(·exact O7 x h9);(·simp only[mS] at h9;rw[h9];exact gi)⟩,om⟩
 refine bz<|df<|zm<|eI rfl rfl rfl (km (gg+1) om _ om)<|zA<|ag ?_
 exact⟨gg+1,⟨rfl,rfl,rfl,rfl,rfl⟩,⟨by omega,_,_,_,_,_,hS,om,O7⟩,om⟩
 have ajK:=hS.rd.more (show q+11+5*gg<=q+31 from om)
 have cL:=kv hS.o2
 obtain⟨a2,c2,e2⟩:=cL
 subst e2
 have ajL:br∉g2.toList:=(λhx=>by have:=(hS.f2 br hx).1;omega)
 have bj:fi (br::g2.toList) w8 w3.heap.size [str aP,v1,.slice a2 ys.length c2].toArray 29:=⟨hS.box,λhx=>by rcases mC.1 hx with h9|h9;(·omega);(·exact(hS.f2 _ h9).2.2.1 rfl)⟩
 have tY:=bj.out
 have p6:fy (br::g2.toList) w8:=(λz hz=>by rcases mC.1 hz with h9|h9;(·rw[h9];exact hS.rd.lt);(·exact hS.o2.lt z h9))
 have aoI:ys.length<=4:=om
 refine gD<|gF rfl<|aQ ?_
 apply kf et ((br::g2.toList)) 11 (rA 51 11) (rA 51 11) [[],[0],[],[],[3],[4],[5],[6],[2,7],[8],[1,9]] [Ie.v _,Ie.v _,Ie.v _,Ie.v _,Ie.e 0,Ie.e 1,Ie.e 2,Ie.e 3,Ie.e 4,Ie.e 5,Ie.e 6] (rA 4 7) [fun(G:List Nat) (vs:List Value) (ww:World)=>G=br::g2.toList∧ak [] w8 ww,fun(G:List Nat) (vs:List Value) (ww:World)=>G=br::g2.toList∧ak [br] w8 ww∧dY ww br (q+32)∧∃x,vs.getD 0 undef=str x∧x.length<=10,fun(G:List Nat) (vs:List Value) (ww:World)=>G=br::g2.toList∧ak [br] w8 ww∧dY ww br (q+32)∧∃x,vs.getD 1 undef=str x∧x.length<=30,fun(G:List Nat) (vs:List Value) (ww:World)=>G=br::g2.toList∧ak [br] w8 ww∧dY ww br (q+32)∧∃x,vs.getD 2 undef=str x∧x.length<=40,fun(G:List Nat) (vs:List Value) (ww:World)=>G=br::g2.toList∧ak [br] w8 ww∧dY ww br (q+32)∧∃x,x.length<=40∧bI (br::g2.toList) ww (vs.getD 3 undef) [x,[40,104,97,108,116,32,48,41],[40,106,117,109,112,32,49,41]],fun(G:List Nat) (vs:List Value) (ww:World)=>G=br::g2.toList∧ak [br] w8 ww∧dY ww br (q+33)∧∃x,vs.getD 4 undef=str x∧x.length<=100,fun(G:List Nat) (vs:List Value) (ww:World)=>G=br::g2.toList∧ak [br] w8 ww∧dY ww br (q+33)∧∃x bb,x.length<=100∧vs.getD 5 undef= .slice (some ⟨bb,0,none⟩) 1 1∧aY ww bb [str x].toArray 9,fun(G:List Nat) (vs:List Value) (ww:World)=>ak (br::g2.toList) w8 ww∧dY ww br (q+33)∧∃x g9,x.length<=100∧dj ww 9 (vs.getD 6 undef) g9 (ys++[x])∧(g9=g2∨∃z,g9=some z∧w8.heap.size<=z)] de rfl p6 (by exact trivial) (by exact⟨λG vs w w' ⟨h1,h2⟩ k=>⟨h1,h2.ext k⟩,λG vs w w' ⟨h1,h2,h3,h4⟩ k=>⟨h1,h2.ext k,h3.ext k,h4⟩,λG vs w w' ⟨h1,h2,h3,h4⟩ k=>⟨h1,h2.ext k,h3.ext k,h4⟩,λG vs w w' ⟨h1,h2,h3,h4⟩ k=>⟨h1,h2.ext k,h3.ext k,h4⟩,λG vs w w' ⟨h1,h2,h3,x,h4,h5⟩ k=>⟨h1,h2.ext k,h3.ext k,x,h4,h5.ext k⟩,λG vs w w' ⟨h1,h2,h3,h4⟩ k=>⟨h1,h2.ext k,h3.ext k,h4⟩,λG vs w w' ⟨h1,h2,h3,x,bb,h4,h5,h6⟩ k=>⟨h1,h2.ext k,h3.ext k,x,bb,h4,h5,h6.ext k⟩,λG vs w w' ⟨h1,h2,x,g9,h3,h4,h5⟩ k=>⟨h1.ext k,h2.ext k,x,g9,h3,h4.ext k,h5⟩,trivial⟩) (⟨rfl,ak.refl _ _⟩)
 refine vf (λ_ _ _ _ _ _=>zf mV rfl fv) ?_
 refine vf (λx w9 G9 aW di lh=>?_) ?_
 have bj:=bj.go di
 refine zl eS rfl (bj.at rfl) ?_
 exact fv
 refine cT ?_
 refine cT ?_
 refine ve 0 (λx w9 G9 aW di lh hJ hlen=>?_) ?_
 have bo:=jR hlen
 subst bo
 obtain⟨cB,cD⟩:=hJ
 subst cB
 have fu:=ajK.ext cD
 refine aC (Hh br (q+31) om w9 fu) ?_
 rintro v55 cO ⟨⟨z9,dP,U2⟩,fu,xk⟩
 subst U2
 have gi:=sR (n:=z9) om
 exact fe _ (Fr.of xk sm) ((λz hz=>lL (lh z hz) xk.size)) (⟨rfl,cD.any.trans xk,fu,_,rfl,om⟩)
 refine ve 1 (λx w9 G9 aW di lh hJ hlen=>?_) ?_
 have aR:=jS hlen
 obtain⟨q0,bo⟩:=aR
 subst bo
 obtain⟨cB,cD,fu,x1,e1,gi⟩:=hJ
 subst cB
 have e2:q0=_:=e1
 subst e2
 refine cu rfl rfl so ?_
 exact fe _ (Fr.refl _ _) lh (⟨rfl,cD,fu,_,rfl,by simp;omega⟩)
 refine ve 2 (λx w9 G9 aW di lh hJ hlen=>?_) ?_
 have aR:=lP hlen
 obtain⟨q0,q1,bo⟩:=aR
 subst bo
 obtain⟨cB,cD,fu,x1,e1,gi⟩:=hJ
 subst cB
 have e2:q1=_:=e1
 subst e2
 refine cu rfl rfl so ?_
 exact fe _ (Fr.refl _ _) lh (⟨rfl,cD,fu,_,rfl,by simp;omega⟩)
 refine ve 3 (λx w9 G9 aW di lh hJ hlen=>?_) ?_
 have aR:=Al hlen
 obtain⟨q0,q1,q2,bo⟩:=aR
 subst bo
 obtain⟨cB,cD,fu,x1,e1,gi⟩:=hJ
 subst cB
 have e2:q2=_:=e1
 subst e2
 refine pU bh bA rfl rfl rfl rfl rfl ?_
 intro cO bV O8 Bw
 exact fe _ (Fr.of bV sm) ((λz hz=>lL (lh z hz) (ak.size bV))) (⟨rfl,cD.ext bV,fu.ext bV,x1,gi,aY.eF [x1,[40,104,97,108,116,32,48,41],[40,106,117,109,112,32,49,41]] O8 (λhx=>by have:=lh _ hx;omega)⟩)
 refine ve 4 (λx w9 G9 aW di lh hJ hlen=>?_) ?_
 have aR:=Mb hlen
 obtain⟨q0,q1,q2,q3,bo⟩:=aR
 subst bo
 obtain⟨cB,cD,fu,x1,gi,CX⟩:=hJ
 subst cB
 have CX:bI (br::g2.toList) _ q3 _:=CX
 refine aC (mo [x1,[40,104,97,108,116,32,48,41],[40,106,117,109,112,32,49,41]] sm sm br (q+32) om _ w9 fu (bI.fresh CX (λx hx=>.inl (by simp at hx;simp[hx])))) ?_
 rintro v59 cO ⟨⟨x2,fH,e59⟩,fu,EA⟩
 subst e59
 have ja:x2.length<=100:=(by simp only[mC,nN,oF] at fH;rcases fH with rfl|rfl|rfl;(·omega);(·decide);(·decide))
 exact fe _ (Fr.of EA sm) ((λz hz=>lL (lh z hz) EA.size)) (⟨rfl,cD.trans EA,fu,x2,rfl,ja⟩)
 refine ve 5 (λx w9 G9 aW di lh hJ hlen=>?_) ?_
 have aR:=Sg hlen
 obtain⟨q0,q1,q2,q3,q4,bo⟩:=aR
 subst bo
 obtain⟨cB,cD,fu,x1,e1,gi⟩:=hJ
 subst cB
 have e2:q4=_:=e1
 subst e2
 refine gH bh bA rfl rfl ?_
 intro cO bV GI Bw
 exact fe _ (Fr.of bV sm) ((λz hz=>lL (lh z hz) (ak.size bV))) (⟨rfl,cD.ext bV,fu.ext bV,x1,_,gi,rfl,GI⟩)
 refine ve 6 (λx w9 G9 aW di lh hJ hlen=>?_) ?_
 have aR:=acF hlen
 obtain⟨q0,q1,q2,q3,q4,q5,bo⟩:=aR
 subst bo
 obtain⟨cB,cD,fu,x1,bb,gi,e2,gz⟩:=hJ
 subst cB
 have e4:q5=_:=e2
 subst e4
 have ho:=hS.o2.aO cD (λx hx hy=>ajL (by simp at hy;subst hy;simp[hx]))
 refine se bh bA rfl rfl rfl rfl rfl rfl ho gz om ?_
 intro v9 g9 cO dL aG fN
 have O6:=cD.size
 exact fe ((br::g9.toList)) (⟨aG.mono (λz hz=>mK _ hz),λz hz=>by rcases mC.1 hz with h9|h9;(·exact .inl (by simp[h9]));(·rcases fN with h8|h8;(·rw[h8] at h9;exact .inl (mK _ h9));(·rw[h8] at h9;simp at h9;right;omega))⟩) ((λz hz=>by rcases mC.1 hz with h9|h9;(·rw[h9];exact lL fu.lt aG.size);(·exact dL.lt z h9))) (⟨(cD.mono sm).trans (aG.mono (λz hz=>mK _ hz)),fu.aO aG (λz hz=>by have:=(hS.f2 z hz).1;omega),x1,g9,gi,dL,fN.imp id (λh8=>⟨_,h8,O6⟩)⟩)
 exact trivial
 intro x j4 D7 aW wT Gj hJ hlen
 have aR:=ajB hlen
 obtain⟨q0,q1,q2,q3,q4,q5,q6,bo⟩:=aR
 subst bo
 have bj:=bj.go wT
 change OW _ _ _ _ _ (aM (aN _ x _) (zZ 51 [_,_,_,_,_,_,_,_,_,_,_])) _
 obtain⟨fo,fu,x1,g9,gi,dL,fN⟩:=hJ
 have cL:=kv dL
 obtain⟨a9,c9,e9⟩:=cL
 have e8:q6=_:=e9
 subst e8
 have bj:=hS.box.aO fo tY
 refine zf mV rfl<|gY (o:=2) nO rfl rfl rfl bj rfl ?_
 intro pr jE bj dP
 have hS:=hS.AH iG (lR _) om om dL fu fo fN jE bj
 have O9:=hS.res
 have cL:=kv hS.o1
 obtain⟨a1,c1,e1⟩:=cL
 subst e1
 refine ag<|zr<|zL Bq gT rfl hS.box.all rfl<|dw (vs:=[str aP,.slice a1 xs.length c1,.slice a9 (ys++[x1]).length c9]) gT rfl rfl rfl O9 rfl ?_
 intro oo jn O9 dP
 have xf:=hS.o1.aO jn (λx hx hy=>(hS.f1 x (by simp[hx])).2.1 (by simpa using hy))
 have vD:=hS.o2.aO jn (λx hx hy=>(hS.f2 x (by simp[hx])).2.1 (by simpa using hy))
 have ajN:=hS.rd.aO jn (λx hx=>by simp at hx;omega)
 have du:=hS.kp.since jn (λx hx=>.inr (by simp at hx;omega))
 have cW:=(fun(L:List Nat) (hL:∀x,x∈L->x<w.heap.size)=>xf.rep (L:=L) (λx hx hy=>by have:=(hS.f1 x (by simp[hx])).1;have:=hL x hy;omega))
 have cU:=(fun(L:List Nat) (hL:∀x,x∈L->x<w.heap.size)=>vD.rep (L:=L) (λx hx hy=>by have:=(hS.f2 x (by simp[hx])).1;have:=hL x hy;omega))
 refine ag<|aV ?_
 exact⟨[_],gQ Bq gT rfl O9 rfl,⟨⟨aP,xs,ys++[x1]⟩,⟨rfl,⟨ajE,yT⟩,⟨by simp,by simp;omega,λx hx=>by rcases mA.1 hx with h9|h9;(·exact O7 x h9);(·simp only[mS] at h9;rw[h9];exact gi)⟩⟩,λL hL=>⟨_,rfl,⟨.val _,cW L hL,cU L hL,trivial⟩⟩⟩,ajN.more om,du⟩
def Wa (t:aA):t.au.length<=t.size:=by
 cases t with
 |mk a ps=>
  have key:∀l:List aA,l.length<=aA.size.sizes l:=by
   intro l
   induction l with
   |nil=>simp
   |cons p l ih=>have:=size_pos p;simp only[aA.size.sizes,lC];omega
  have:=key ps
  show ps.length<=1+a.length+aA.size.sizes ps
  omega
set_option maxHeartbeats 4000000 in
def ajO (s:aj) (w:World):ck Tryz.prog 88 [str s] w λr w'=>(∃v ok g xs,r= .tuple #[v,.bool ok]∧dj w' 9 v g xs∧(∀b,g=some b->w.heap.size<=b)∧ok=decide (0<xs.length)∧xs.length<=12001∧∀x,x∈xs->x.length<=24002)∧ak [] w w':=by
 have hK:=ak.refl [] w
 refine cX [.tmp 2,.tmp 3] 37 Tryz.func88 rfl ZH rfl rfl ?_
 refine zr<|zA<|zA<|ag<|zr<|zm<|aC (zH s [] w sm) ?_
 rintro v1 w1 ⟨fO,aK⟩
 have dS:=aK.size
 have hK:=hK.ext aK
 have eT:=fO
 obtain⟨t,tv,e9,ht,hp⟩:=eT
 subst e9
 have cL:=dO ht
 obtain⟨pa,pn,pc,e9,fR,bc⟩:=cL
 subst e9
 subst fR
 have nz:=hK.size
 refine zm<|zx (i:=0) rfl rfl<|zx (i:=1) rfl rfl<|eD aH rfl rfl rfl ?_
 intro w2 aq aI iU
 have du:=aq
 refine dw (vs:=[str t.az,.slice pa t.au.length pc]) aH rfl rfl rfl aI rfl ?_
 intro w3 aJ aI dP
 have du:=du.since aJ (λx hx=>.inr (by simp at hx;omega))
 have bc:=bc.ext du;have hK:=hK.ext du
 refine zA<|ag<|zr<|gP bh bA ?_
 intro w4 aF mz Gk
 have ajP:=mz.lr
 have aK:=aF
 have jD:=hK.size
 refine zA<|ag<|aQ<|zr<|zA<|ag<|cS ?_
 refine fY (λq9:Nat×Value×Option Nat=>[(4,.pointer (some ⟨w1.heap.size,0,none⟩)),(5,.bool ((ba s).isSome)),(6,q9.2.1),(7,.int .i64 (q9.1:Int))]) (λq9 w'=>ak [] w3 w'∧q9.1<=t.au.length∧(0<q9.1->(ba s).isSome=true)∧∃xs,dj w' 9 q9.2.1 q9.2.2 xs∧xs.length=q9.1∧(∀x,x∈xs->x.length<=24002)∧∀b,q9.2.2=some b->w3.heap.size<=b) (λq9=>t.au.length-q9.1) ((0,.slice (some ⟨w3.heap.size,0,none⟩) 0 0,some w3.heap.size)) (⟨rfl,rfl,rfl,rfl⟩) (⟨aK,sm,sm,[],ajP,rfl,sm,by intro b hb;cases hb;exact lR _⟩) ?_
 intro gg w5 e5 hI
 obtain⟨k,vf,gf⟩:=gg
 obtain⟨du,hk,Bj,xs,hO,mM,yT,gJ⟩:=hI
 dsimp only at hk Bj hO mM gJ
 have bc:=bc.ext du;have hK:=hK.ext du;have aI:=aI.ext du
 refine aQ<|zr<|zm<|zf cN rfl<|zl cK rfl (aI.at rfl)<|dZ cw rfl<|fA rfl rfl rfl<|zm ?_
 apply fZ 2 19 21 [19,20,21] (λw'=>w5=w') rfl
 intro h1
 replace h1:=bw h1
 refine zm<|zp rfl<|ag ?_
 exact mg rfl rfl
 intro h1
 replace h1:=bw h1
 refine zs<|zp rfl<|ag ?_
 exact mg rfl rfl
 rintro xx _ rfl
 refine ag<|zc rfl (λh2=>?_) (λh2=>?_)
 have hh:=Bool.and_eq_true_iff.1 h2
 have aq:k<t.au.length:=(by have:=hh.1;simp at this;omega)
 have bD:(ba s).isSome=true:=hh.2
 have dz:=Dv hp bD
 have hw2:=dz.2
 have pK:=Wa t
 have fU:=fK bc aq
 obtain⟨b9,ov,pa9,pc9,e9,gq,dU⟩:=fU
 cases e9
 have Wb:=dz.1.nth aq
 have FT:=l3 aq
 have rU:=Lq _ _ (lR _) Wb
 refine bz<|aQ<|cS<|df<|zm<|zf cN rfl<|zl cK rfl (aI.at rfl)<|zm<|zi cw aH rfl rfl aq<|zL bU aH rfl gq.cells rfl<|aC (tI (nth t.au k).size _ (lR _) Wb om om _ _ w5 dU) ?_
 rintro v6 w6 ⟨lx,bF⟩
 have oS:=bF.size
 have hO:=hO.ext bF;have du:=du.ext bF
 obtain rfl:=lx
 refine gH bh bA rfl rfl ?_
 intro w7 cz ajQ qm
 have hO:=hO.ext cz;have du:=du.ext cz
 refine se bh bA rfl rfl rfl rfl rfl rfl hO ajQ om ?_
 intro v9 g9 w8 dL cv fN
 have V0:=du.size
 have du:=du.since cv (λx hx=>.inr (gJ x (by simpa using hx)))
 refine zA<|ag<|df<|zm<|eI rfl rfl rfl (km (k+1) om _ om)<|zA<|ag ?_
 exact⟨(k+1,v9,g9),⟨rfl,rfl,rfl,rfl⟩,⟨du,aq,λ_=>bD,xs++[(nth t.au k).text],dL,by show(xs++[_]).length=k+1;rw[lA,mM];rfl,λx hx=>by rcases mA.1 hx with h9|h9;(·exact yT x h9);(·simp only[mS] at h9;rw[h9];omega),λb hb=>by rcases fN with h9|h9;(·exact gJ b (h9.symm.trans hb));(·rw[h9] at hb;cases hb;omega)⟩,by show t.au.length-(k+1)<t.au.length-k;omega⟩
 have cL:=kv hO
 obtain⟨af,cf,ef⟩:=cL
 subst ef
 have pK:=Wa t
 have hxb:xs.length<=12001:=(by by_cases h0:0<k;(·have:=(Dv hp (Bj h0)).2;omega);(·omega))
 refine gD<|gF rfl<|zr<|zm<|zm<|dZ bh rfl<|jz rfl rfl rfl rfl rfl<|zA<|zA<|ag<|aV ?_
 exact⟨_,rfl,⟨_,_,gf,xs,rfl,hO,λb hb=>by have:=gJ b hb;omega,sm,hxb,yT⟩,hK⟩
def Wc (xs ys:List aj) (hx:xs.length+ys.length<100000000) (v u:Value) (L:List Nat) (w:World) (hv:bI L w v xs) (hu:bI L w u ys):
  ck Tryz.prog 119 [v,u] w λr w'=>(∃g,dj w' 9 r g (xs++ys)∧∀b,g=some b->w.heap.size<=b)∧ak [] w w':=by
 have hv:bI [] w v xs:=hv.fresh sm
 have hu:bI [] w u ys:=hu.fresh sm
 obtain⟨a,n,c,rfl,hn⟩:=eP hv
 obtain⟨a2,n2,c2,rfl,fJ⟩:=eP hu
 subst hn fJ
 have hK:=ak.refl [] w
 refine cX [.tmp 4] 10 Tryz.func119 rfl PN rfl rfl ?_
 refine zr<|zA<|ag<|zr<|zQ w.heap.size [] bh bA rfl rfl (lR _) sm ?_
 intro w1 aK eh hO
 have hK:=hK.ext aK
 have fS:=cF.ext (cF.fresh hv (L':=w.heap.size::[]) zq) aK
 refine zm<|xO bh bA rfl rfl rfl rfl rfl rfl hO fS IP (by rw[rS];simp;omega) ?_
 intro a4 jf g4 w2 og aq
 have hK:=hO.since hK aq
 have MK:=cF.ext (cF.fresh hu (L':=g4.toList++[]) (λx hx=>by rcases mA.1 hx with hx|hx;(·exact .inr (og.low x (by simpa using hx)));(·exact .inl hx))) hK
 refine zm<|xO bh bA rfl rfl rfl rfl rfl rfl og MK IP (by simp only[lA,rS];simp;omega) ?_
 intro a5 Tt g5 w3 ly aJ
 have hK:=og.since hK aJ
 have kV:=ly.low
 rw[List.nil_append,Tr] at ly
 refine zA<|ag<|aV ?_
 exact⟨_,rfl,⟨g5,ly.wg,kV⟩,hK⟩
def ajS (bk:Bk) (h1:bk.cP.length<=1000000) (h2:bk.code.length<=1000000) (v:Value) (L:List Nat) (w:World) (hv:qY L w v bk):
  ck Tryz.prog 87 [v] w λr w'=>(∃v1 v2 g1 g2,r= .agg #[str bk.aP,v1,v2]∧dj w' 9 v1 g1 bk.cP∧dj w' 9 v2 g2 bk.code∧(∀x,x∈g1.toList->w.heap.size<=x∧x∉g2.toList)∧∀x,x∈g2.toList->w.heap.size<=x∧x∉g1.toList)∧ak [] w w':=by
 obtain⟨b1,n1,c1,b2,n2,c2,rfl,fU,fJ,cW,cU⟩:=Dn hv
 have cW:bI [] w _ bk.cP:=bI.fresh cW sm
 have cU:bI [] w _ bk.code:=bI.fresh cU sm
 have hK:=ak.refl [] w
 refine lH [.cell 2 29] 12 Tryz.func87 rfl ZG rfl rfl rfl ?_
 refine zr<|fG rfl ?_
 intro w1 aK aT eh
 have hK:=hK.ext aK;have cW:=cW.ext aK;have cU:=cU.ext aK
 refine eD gT rfl rfl rfl ?_
 intro w2 aq aZ eO
 have nz:=hK.ext aq
 have cW:=cW.ext aq;have cU:=cU.ext aq;have aT:=aT.ext aq
 have aT:fi [] w2 w.heap.size _ _:=⟨aT,sm⟩
 have jD:=nz.size
 have aoK:=aZ.lt
 refine ag<|aQ ?_
 apply kf et ([]) 9 (rA 3 9) (rA 3 9) [[],[0],[],[2],[3],[],[5],[6],[1,4,7]] [Ie.v _,Ie.v _,Ie.v _,Ie.v _,Ie.e 0,Ie.v _,Ie.v _,Ie.e 1,Ie.e 2] [4,7,8] [fun(G:List Nat) (vs:List Value) (ww:World)=>G=[]∧ak [] w2 ww,fun(G:List Nat) (vs:List Value) (ww:World)=>G=[]∧ak [] w2 ww∧∃g1,dj ww 9 (vs.getD 0 undef) g1 bk.cP∧∀x,x∈g1.toList->w2.heap.size<=x,fun(G:List Nat) (vs:List Value) (ww:World)=>G=[]∧ak [] w2 ww∧∃g1 g2,dj ww 9 (vs.getD 0 undef) g1 bk.cP∧dj ww 9 (vs.getD 1 undef) g2 bk.code∧(∀x,x∈g1.toList->w2.heap.size<=x∧x∉g2.toList)∧∀x,x∈g2.toList->w2.heap.size<=x∧x∉g1.toList,fun(G:List Nat) (vs:List Value) (ww:World)=>ak [] w2 ww∧∃g1 g2 b3 m3 d3 b4 m4 d4,vs.getD 2 undef= .agg #[str bk.aP,.slice b3 m3 d3,.slice b4 m4 d4]∧dj ww 9 (.slice b3 m3 d3) g1 bk.cP∧dj ww 9 (.slice b4 m4 d4) g2 bk.code∧(∀x,x∈g1.toList->w2.heap.size<=x∧x∉g2.toList)∧∀x,x∈g2.toList->w2.heap.size<=x∧x∉g1.toList] de rfl ((λx hx=>by simp at hx)) (by exact trivial) (by exact⟨λG vs w w' ⟨h1,h2⟩ k=>⟨h1,h2.ext k⟩,λG vs w w' ⟨h1,h2,g1,h3,h4⟩ k=>⟨h1,h2.ext k,g1,h3.ext k,h4⟩,λG vs w w' ⟨h1,h2,g1,g2,h3,h4,h5,h6⟩ k=>⟨h1,h2.ext k,g1,g2,h3.ext k,h4.ext k,h5,h6⟩,λG vs w w' ⟨h2,g1,g2,b3,m3,d3,b4,m4,d4,e,h3,h4,h5,h6⟩ k=>⟨h2.ext k,g1,g2,b3,m3,d3,b4,m4,d4,e,h3.ext k,h4.ext k,h5,h6⟩,trivial⟩) (⟨rfl,ak.refl _ _⟩)
 refine vf (λ_ _ _ _ _ _=>zf xD rfl fv) ?_
 refine vf (λx w3 G3 aW fX iW=>?_) ?_
 have aT:=aT.go fX
 refine zl cm rfl (aT.at rfl) ?_
 exact fv
 refine vf (λ_ _ _ _ _ _=>zf xF rfl fv) ?_
 refine vf (λx w3 G3 aW fX iW=>?_) ?_
 have aT:=aT.go fX
 refine zl eS rfl (aT.at rfl) ?_
 exact fv
 refine ve 0 (λx w3 G3 aW fX iW hJ hlen=>?_) ?_
 have bo:=jR hlen
 subst bo
 have cW:=cW.go fX
 obtain⟨cB,cD⟩:=hJ
 subst cB
 refine aC (Wc bk.cP [] so _ _ [] w3 cW (.nil _ _ _)) ?_
 rintro v20 w4 ⟨⟨g1,pE,qi⟩,ux⟩
 rw[List.append_nil] at pE
 exact fe ([]) (Fr.of ux sm) ((λz hz=>by simp at hz)) (⟨rfl,cD.trans ux,g1,pE,λx hx=>Nat.le_trans cD.size (qi x (by simpa using hx))⟩)
 refine vf (λ_ _ _ _ _ _=>zf mV rfl fv) ?_
 refine vf (λx w3 G3 aW fX iW=>?_) ?_
 have aT:=aT.go fX
 refine zl eS rfl (aT.at rfl) ?_
 exact fv
 refine ve 1 (λx w3 G3 aW fX iW hJ hlen=>?_) ?_
 have aR:=jS hlen
 obtain⟨q0,bo⟩:=aR
 subst bo
 have cU:=cU.go fX
 obtain⟨cB,cD,g1,pE,qi⟩:=hJ
 subst cB
 refine aC (Wc bk.code [] so _ _ [] w3 cU (.nil _ _ _)) ?_
 rintro v21 w4 ⟨⟨g2,gU,iA⟩,vM⟩
 rw[List.append_nil] at gU
 exact fe ([]) (Fr.of vM sm) ((λz hz=>by simp at hz)) (⟨rfl,cD.trans vM,g1,g2,pE.ext vM,gU,λx hx=>⟨qi x hx,λhy=>by have h8:=pE.lt x hx;have h9:=iA x (by simpa using hy);omega⟩,λx hx=>⟨Nat.le_trans cD.size (iA x (by simpa using hx)),λhy=>by have h8:=pE.lt x hy;have h9:=iA x (by simpa using hx);omega⟩⟩)
 refine ve 2 (λx w3 G3 aW fX iW hJ hlen=>?_) ?_
 have aR:=lP hlen
 obtain⟨q0,q1,bo⟩:=aR
 subst bo
 obtain⟨cB,cD,g1,g2,pE,gU,qi,iA⟩:=hJ
 subst cB
 have cL:=kv pE
 obtain⟨b3,d3,e3⟩:=cL
 have e5:q0=_:=e3
 subst e5
 have cL:=kv gU
 obtain⟨b4,d4,e4⟩:=cL
 have e6:q1=_:=e4
 subst e6
 refine j7 (Ky _ _ _ _ _ _ _ _) rfl rfl ?_
 exact fe ([]) (Fr.refl _ _) iW (⟨cD,g1,g2,_,_,_,_,_,_,rfl,pE,gU,qi,iA⟩)
 exact trivial
 intro x qC F9 aW DY ML hJ hlen
 have aR:=Al hlen
 obtain⟨q0,q1,q2,bo⟩:=aR
 subst bo
 change OW _ _ _ _ _ (aM (aN _ x _) (zZ 3 [_,_,_,_,_,_,_,_,_])) _
 obtain⟨cD,g1,g2,b3,m3,d3,b4,m4,d4,e9,pE,gU,qi,iA⟩:=hJ
 have e8:q2=_:=e9
 subst e8
 have aZ:=aZ.ext cD
 refine dw (vs:=[str bk.aP,.slice b3 m3 d3,.slice b4 m4 d4]) gT rfl rfl rfl aZ rfl ?_
 intro nS lK aZ dP
 have pE:=pE.aO lK (λx hx hy=>by have:=(qi x (by simp[hx])).1;simp at hy;omega)
 have gU:=gU.aO lK (λx hx hy=>by have:=(iA x (by simp[hx])).1;simp at hy;omega)
 have gm:=(nz.ext cD).since lK (λx hx=>.inr (by simp at hx;omega))
 refine ag<|aV ?_
 exact⟨[_],gQ Bq gT rfl aZ rfl,⟨_,_,g1,g2,rfl,pE,gU,λx hx=>⟨by have:=(qi x hx).1;omega,(qi x hx).2⟩,λx hx=>⟨by have:=(iA x hx).1;omega,(iA x hx).2⟩⟩,gm⟩
def Wd {bs:List Bk} (h:jN bs=true):bs.length<=40∧1<=bs.length∧∀i,i<bs.length->(bB bs i).cP.length<=40∧1<=(bB bs i).code.length∧(bB bs i).code.length<=80:=by
 have hb:=Ld h
 unfold jN at h
 simp only[aE,dE] at h
 refine⟨h.2.1.1.2,h.2.1.1.1,λi hi=>?_⟩
 have:=hb (bB bs i) (List.mem_of_getElem? (sC hi))
 unfold oD at this
 simp only[aE,dE] at this
 exact⟨this.1.1.1.2,this.1.1.2.1,this.1.1.2.2⟩
def ajT {bs:List Bk} {i:Nat} (h:i<bs.length):bs.take (i+1)=bs.take i++[bB bs i]:=by
 rw[List.take_succ_eq_append_getElem h];simp[bB,gE h]
def ajU {h:aj} {ps:List aj} {m:Nat} (hp:∀x,x∈ps->x.length<=m):(bO h ps).length<=h.length+2+ps.length*(m+1):=by
 rw[lQ]
 have:j3 ps<=ps.length*(m+1):=by
  clear h
  induction ps with
  |nil=>simp[j3]
  |cons p l ih=>
   have h1:=hp p sm
   have h2:=ih (λx hx=>hp x (by simp[hx]))
   simp only[j3,List.map_cons,List.sum_cons,lC,Nat.add_mul,Nat.one_mul] at h2⊢
   omega
 omega
def We {α:Type} {l:List α} {i:Nat} {y x:α} (h:x∈l.set i y):x∈l∨x=y:=List.mem_or_eq_of_mem_set h
set_option maxHeartbeats 4000000 in
def ajV (bs:List Bk) (A9:jN bs=true) (br q:Nat) (hq:q<=800000000) (v:Value) (w:World) (h:dY w br q) (hv:ko [] w v bs):
  ck Tryz.prog 51 [.pointer (some ⟨br,0,none⟩),v] w λr w'=>(∃bs',ko [br] w' r bs'∧vT bs bs')∧dY w' br (q+10)∧ak [br] w w':=by
 obtain⟨a,n0,c,rfl,zW⟩:=BA hv
 obtain⟨Oz,aT,fz⟩:=Wd A9
 have iG:=h.lt
 have hK:=ak.refl [] w
 have dK:=hv
 have Rp:=h
 refine cX [.tmp 4] 140 Tryz.func51 rfl Zf rfl rfl ?_
 refine zr<|zA<|ag<|zr<|gP iO gT ?_
 intro w1 aK mz eh
 have hK:=hK.ext aK;have h:=h.ext aK;have hv:=hv.ext aK
 refine zA<|ag<|aQ<|zr<|zA<|ag<|cS ?_
 refine fY (λq9:Nat×Value=>[(0,.pointer (some ⟨br,0,none⟩)),(1,.slice a n0 c),(5,q9.2),(6,.int .i64 (q9.1:Int))]) (λq9 w'=>ak [] w w'∧q9.1<=n0∧∃g gss vss,mu w' 29 9 q9.2 g gss vss (bs.take q9.1)∧∀x,x∈g.toList++im gss->w.heap.size<=x) (λq9=>n0-q9.1) ((0,.slice (some ⟨w.heap.size,0,none⟩) 0 0)) (⟨rfl,rfl,rfl,rfl⟩) (⟨hK,sm,some w.heap.size,[],[],mu.zero mz,by intro x hx;simp[im] at hx;omega⟩) ?_
 intro gg w2 e2 hI
 obtain⟨i,vo⟩:=gg
 obtain⟨hK,hi,g,gss,vss,hO,kV⟩:=hI
 dsimp only at hi hO
 have hv:=dK.ext hK
 have h:=Rp.ext hK
 refine aQ<|zr<|zm<|zm<|dZ iO rfl<|fA rfl rfl rfl<|ag<|zc rfl (λh1=>?_) (λh1=>?_)
 have lj:i<bs.length:=(by simp at h1;omega)
 have gh:=sC lj
 have Pa:=BB hv gh
 obtain⟨b,off,ra,rn,rc,ca,cn,c3,e1,hc,rq,xh,dS,eH⟩:=Pa
 subst e1
 have A8:=fz i lj
 have aoL:=hK.size
 have Pb:∀x,x∈g.toList++im gss->x<w2.heap.size:=(λx hx=>(mA.1 hx).elim (λh9=>hO.own.lt x (by simpa using h9)) (hO.lt x))
 have gx:(bs.take i).length=i:=(by rw[List.length_take];omega)
 refine bz<|aQ<|cS<|df<|zm<|zm<|zm<|zi iO gT rfl rfl om<|zL Bq gT rfl hc rfl<|aC (ajS (bB bs i) om om _ [] w2 (Dp dS eH)) ?_
 rintro v3 w3 ⟨er,aJ⟩
 have gd:=aJ.size
 have hK:=hK.ext aJ;have hO:=hO.ext aJ
 obtain⟨v1,v2,g1,g2,e2,pE,gU,qi,iA⟩:=er
 subst e2
 have cL:=kv pE
 obtain⟨a1,c1,e1⟩:=cL
 subst e1
 have cL:=kv gU
 obtain⟨a2,c2,e2⟩:=cL
 subst e2
 refine gH iO gT rfl rfl ?_
 intro w4 aF Cv iU
 have hK:=hK.ext aF;have hO:=hO.ext aF;have pE:=pE.ext aF;have gU:=gU.ext aF
 refine ajs (f:=bB bs i) (gs:=(g1,g2)) iO gT rfl rfl rfl rfl rfl rfl hO Cv pE gU (λx hx fH=>by have h8:=Pb x fH;rcases mA.1 hx with h9|h9;(·have:=(qi x h9).1;omega);(·have:=(iA x h9).1;omega)) (List.nodup_append.2 ⟨by cases g1<;>simp,by cases g2<;>simp,λx hx y hy e=>by subst e;exact(qi x hx).2 hy⟩) om ?_
 intro a4 jf g4 w5 hO aU hg4
 have V0:=hK.size
 have ajX:∀x,x∈g4.toList++im (gss++[(g1,g2)])->w.heap.size<=x:=(λx hx=>by rcases mA.1 hx with h9|h9;(·rcases hg4 with h8|⟨z,h8,hz⟩;(·rw[h8] at h9;exact kV x (by simp at h9;simp[h9]));(·rw[h8] at h9;simp at h9;omega));(·rw[Lp] at h9;rcases mA.1 h9 with h8|h8;(·exact kV x (by simp[h8]));(·rcases mA.1 h8 with h7|h7;(·have:=(qi x h7).1;omega);(·have:=(iA x h7).1;omega))))
 have hK:=hK.since aU (λx hx=>.inr (kV x (by simp at hx;simp[hx])))
 refine zA<|ag<|df<|zm<|eI rfl rfl rfl (km (i+1) om _ om)<|zA<|ag ?_
 exact⟨(i+1,_),⟨rfl,rfl,rfl,rfl⟩,⟨hK,by show i+1<=n0;omega,g4,_,_,by rw[ajT lj];exact hO,ajX⟩,by show n0-(i+1)<n0-i;omega⟩
 have dA:bs.take i=bs:=List.take_of_length_le (by simp at h1;omega)
 rw[dA] at hO
 have cL:=hO.own.len
 obtain⟨ao,co,eo⟩:=cL
 subst eo
 have fo:=hK.mono (L':=[br]) sm
 refine gD<|gF rfl<|zr<|zm<|zm<|dZ iO rfl<|aC (mI bs.length om om br q om w2 h) ?_
 rintro v31 w3 ⟨⟨k,yM,hk⟩,h,aG⟩
 subst yM
 have fo:=fo.trans aG
 have hO:=hO.aO aG (λx hx hy=>by have:=kV x hx;simp at hy;omega)
 have iw:=hO.get hk
 obtain⟨lZ,gs,a1,c1,a2,c2,e1,e2,tY,xi,jP,bo,kL,fU,fJ,J8⟩:=iw
 subst e1
 have yW:∀x,x∈g.toList++im gss->x∉[br]:=(λx hx hy=>by have:=kV x hx;simp at hy;omega)
 have hc:jb [br] w3 lZ (0+k*3) _:=⟨kL,tY,λhy=>yW lZ (by rw[e2];simp) hy⟩
 have hr:bI [br] w3 _ _:=fJ.rep (λb hb=>yW b (mR _ (xQ jP (by simp[jO,hb]))))
 have A8:=fz k hk
 refine zA<|ag<|zr<|zm<|zm<|zm<|zi iO gT rfl rfl hk<|zf mV rfl<|zl eS rfl (hc.cells 2 _ rfl)<|dZ bh rfl<|aC (mI (bB bs k).code.length om om br (q+1) om w3 h) ?_
 rintro v31 w4 ⟨⟨n,yM,hn⟩,h,aG⟩
 subst yM
 have fo:=fo.trans aG
 have hO:=hO.aO aG (λx hx hy=>by have:=kV x hx;simp at hy;omega)
 have hc:=hc.aL aG sm;have hr:=hr.aL aG sm
 have gh:=ou hr hn
 obtain⟨b9,ov,e9,gq⟩:=gh
 subst e9
 refine zA<|ag<|zr<|zm<|zm<|zi iO gT rfl rfl hk<|zf mV rfl<|zl eS rfl (hc.cells 2 _ rfl)<|zm<|zi bh bA rfl rfl hn<|zl cm rfl (gq.cells 0 _ rfl) ?_
 have hkw:=fo.size
 have ajZ:∀x,x∈g.toList++im gss->x<w4.heap.size:=(λx hx=>(mA.1 hx).elim (λh9=>hO.own.lt x (by simpa using h9)) (hO.lt x))
 refine aC (ajO (aD (bB bs k).code n) w4) ?_
 rintro v5 w5 ⟨ln,aU⟩
 have pJ:=aU.size
 have h:=h.ext aU;have hO:=hO.ext aU;have fo:=fo.ext aU;have hc:=hc.ext aU;have hr:=hr.ext aU;have gq:=gq.ext aU
 obtain⟨vp,ok,gp,ps,e9,hP,gJ,bD,pK,CN⟩:=ln
 subst e9
 have hgp:∀x,x∈gp.toList->x∉g.toList++im gss:=(λx hx hy=>by have h8:=ajZ x hy;have h9:=gJ x (by simpa using hx);omega)
 have gJ:∀b,gp=some b->w.heap.size<=b:=(λb hb=>Nat.le_trans hkw (gJ b hb))
 have cL:=kv hP
 obtain⟨ap,cp,ep⟩:=cL
 subst ep
 refine zm<|zx (i:=0) rfl rfl<|zx (i:=1) rfl rfl<|zA<|zA<|ag<|aQ<|zr<|zm<|eM rfl<|ag<|zc rfl (λh2=>?_) (λh2=>?_)
 refine zr<|zm<|zA<|ag<|aV ?_
 exact⟨_,rfl,⟨bs,hO.rep yW,vT.refl bs⟩,h.more om,fo⟩
 have mX:0<ps.length:=(by rw[bD] at h2;simpa using h2)
 have Eb:=hP.form mX
 obtain⟨bp,ep,eg⟩:=Eb
 subst ep
 have hbp:=gJ bp eg
 have aoN:=hP.lt bp (by simp[eg])
 refine bz<|zr<|zm<|zm<|dZ bh rfl<|aC (mI ps.length mX om br (q+2) om w5 h) ?_
 rintro v31 w6 ⟨⟨j,yM,hj⟩,h,aG⟩
 subst yM
 have fo:=fo.trans aG
 have hO:=hO.aO aG (λx hx hy=>by have:=kV x hx;simp at hy;omega)
 have hP:=hP.aO aG (λb hb hy=>by have:=gJ b hb;simp at hy;omega)
 refine zA<|ag<|aQ<|zr<|zm<|jz rfl rfl rfl rfl rfl<|ag ?_
 refine ji (λ_:List aj=>[(0,.pointer (some ⟨br,0,none⟩)),(5,.slice (some ⟨lZ,0,none⟩) bs.length co),(7,.int .i64 (k:Int)),(8,.int .i64 (n:Int)),(9,(.slice (some ⟨bp,0,none⟩) ps.length cp))]) (λp2 ww=>ak [br] w ww∧dY ww br (q+5)∧mu ww 29 9 (.slice (some ⟨lZ,0,none⟩) bs.length co) g gss vss bs∧dj ww 9 (.slice (some ⟨bp,0,none⟩) ps.length cp) gp p2∧p2.length=ps.length∧∀x,x∈p2->x.length<=24002) ?_ ?_
 refine zc rfl (λh3=>?_) (λh3=>?_)
 have AU:bI [br] w6 (.slice (some ⟨bp,0,none⟩) ps.length cp) ps:=hP.rep (λb hb hy=>by have:=gJ b hb;simp at hy;omega)
 have gh:=ou AU hj
 obtain⟨b8,aj1,e8,vU⟩:=gh
 cases e8
 have hxj:=CN _ (List.mem_of_getElem? (lp hj))
 have p6:fy [br] w6:=(λz hz=>by simp at hz;subst hz;exact h.lt)
 apply kf et ([br]) 11 (rA 61 11) (rA 61 11) [[],[],[],[],[3],[],[],[5,6],[7],[4,8],[2,9]] [Ie.v _,Ie.v _,Ie.v _,Ie.v _,Ie.q 0 (fun(v:Value)=>∃x,v=str x∧x.length<=24002),Ie.v _,Ie.v _,Ie.v _,Ie.v _,Ie.p (fun(G:List Nat) (v:Value) (ww:World)=>∃x y,x.length<=24002∧y.length<=24002∧bI G ww v [x,[98,48],[101,110,100],[49],[105],y]),Ie.q 1 (fun(v:Value)=>∃x,v=str x∧x.length<=24002)] [4,10] [fun(G:List Nat) (vs:List Value) (ww:World)=>G=[br]∧ak [br] w6 ww∧dY ww br (q+3),fun(G:List Nat) (vs:List Value) (ww:World)=>G=[br]∧ak [br] w6 ww∧dY ww br (q+4),fun(G:List Nat) (vs:List Value) (ww:World)=>G=[br]∧ak [br] w6 ww∧dY ww br (q+5)] de rfl p6 (by exact⟨λG v w G' w' ⟨x,y,h1,h2,h3⟩ k=>⟨x,y,h1,h2,bI.go h3 k⟩,trivial⟩) (by exact⟨λG vs w w' ⟨h1,h2,h3⟩ k=>⟨h1,h2.ext k,h3.ext k⟩,λG vs w w' ⟨h1,h2,h3⟩ k=>⟨h1,h2.ext k,h3.ext k⟩,λG vs w w' ⟨h1,h2,h3⟩ k=>⟨h1,h2.ext k,h3.ext k⟩,trivial⟩) (⟨rfl,ak.refl _ _,h⟩)
 refine cT ?_
 refine cT ?_
 refine cT ?_
 refine cT ?_
 refine ve 0 (λx w7 G7 aW iX jY hJ hlen=>?_) ?_
 have bo:=jR hlen
 subst bo
 obtain⟨cB,cD,h⟩:=hJ
 subst cB
 refine aC (Hh br (q+3) om w7 h) ?_
 rintro v9 w8 ⟨⟨z9,dP,e9⟩,h,aG⟩
 subst e9
 have fj:=sR (n:=z9) om
 exact fq ([br]) (Fr.of aG sm) ((λz hz=>lL (jY z hz) aG.size)) (⟨rfl,cD.trans aG,h⟩) (⟨_,rfl,om⟩)
 refine cT ?_
 refine cT ?_
 refine vf (λ_ _ _ _ _ _=>zi bh bA rfl rfl hj fv) ?_
 refine vf (λx w7 G7 aW iX jY=>?_) ?_
 have vU:=vU.go iX
 refine zl cm rfl (vU.cells 0 _ rfl) ?_
 exact fv
 refine vf (λx w7 G7 aW iX jY=>?_) ?_
 intro v4 OQ d4
 obtain⟨y4,e4,BD⟩:=d4
 subst e4
 refine acJ bh bA rfl rfl rfl rfl rfl rfl rfl rfl ?_
 intro w8 cv NM mr
 exact ff cv (⟨y4,aD ps j,BD,hxj,aY.eF [y4,[98,48],[101,110,100],[49],[105],aD ps j] NM (λhx=>by have:=jY _ hx;omega)⟩)
 refine ve 1 (λx w7 G7 aW iX jY hJ hlen=>?_) ?_
 have aR:=jS hlen
 obtain⟨q0,bo⟩:=aR
 subst bo
 intro v9 d9
 obtain⟨cB,cD,h⟩:=hJ
 subst cB
 obtain⟨x8,y8,UM,hy8,hr8⟩:=d9
 refine aC (mo [x8,[98,48],[101,110,100],[49],[105],y8] sm sm br (q+4) om _ w7 h hr8) ?_
 rintro v9 w8 ⟨⟨x9,jh,e9⟩,h,aG⟩
 subst e9
 have fj:x9.length<=24002:=(by simp only[mC,nN,oF] at jh;rcases jh with rfl|rfl|rfl|rfl|rfl|rfl<;>first|omega|decide)
 exact fq ([br]) (Fr.of aG sm) ((λz hz=>lL (jY z hz) aG.size)) (⟨rfl,cD.trans aG,h⟩) (⟨_,rfl,fj⟩)
 exact trivial
 intro x qJ Jn aW xd Jo hJ hlen
 have aR:=lP hlen
 obtain⟨q0,q1,bo⟩:=aR
 subst bo
 intro v4 OQ d4
 intro v9 d9
 intro v10 V5 d10
 change OW _ _ _ _ _ (aM (aN _ x _) (zZ 61 [_,_,_,_,_,_,_,_,_,_,_])) _
 obtain⟨cB,cD,h⟩:=hJ
 subst cB
 obtain⟨J6,gw,D6⟩:=d10
 subst gw
 have fo:=fo.trans cD
 have hO:=hO.aO cD (λx hx hy=>by have:=kV x hx;simp at hy;omega)
 have hP:=hP.aO cD (λb hb hy=>by have:=gJ b hb;simp at hy;omega)
 refine zi bh bA rfl rfl hj<|Rr (i:=j) bA rfl rfl rfl om hP hj ?_
 intro wQ jm hP dP
 have hO:=hO.aO jm (λx hx hy=>hgp x hy hx)
 have h:=h.aO jm (λx hx=>by have:=gJ x (by simpa using hx);omega)
 have fo:=fo.since jm (λx hx=>.inr (gJ x (by simpa using hx)))
 refine ag ?_
 exact⟨ps.set j J6,⟨rfl,rfl,rfl,rfl,rfl⟩,fo,h.more om,hO,hP,by rw[List.length_set],λx hx=>by rcases We hx with h9|h9;(·exact CN x h9);(·rw[h9];exact D6)⟩
 refine bz ?_
 exact⟨ps,⟨rfl,rfl,rfl,rfl,rfl⟩,fo,h.more om,hO,hP,rfl,CN⟩
 intro gu w7 e7 hI
 obtain⟨fo,h,hO,hP,aoP,Wf⟩:=hI
 have iw:=hO.get hk
 obtain⟨lZ,gs,a1,c1,a2,c2,e1,e2,tY,xi,jP,bo,kL,fU,fJ,J8⟩:=iw
 cases e1
 have yW:∀x,x∈g.toList++im gss->x∉[br]:=(λx hx hy=>by have:=kV x hx;simp at hy;omega)
 have hc:jb [br] w7 lZ (0+k*3) _:=⟨kL,tY,λhy=>yW lZ (by rw[e2];simp) hy⟩
 have hr:bI [br] w7 _ _:=fJ.rep (λb hb=>yW b (mR _ (xQ jP (by simp[jO,hb]))))
 have gh:=ou hr hn
 obtain⟨b9,ov,e9,gq⟩:=gh
 subst e9
 have AU:bI [] w7 (.slice (some ⟨bp,0,none⟩) ps.length cp) gu:=hP.rep sm
 have gh:=ou AU (i:=0) om
 obtain⟨b8,aj1,e8,vU⟩:=gh
 cases e8
 refine aQ ?_
 have CB:(bO (aD gu 0) (gu.drop 1)).length<=1000000000:=(by have h1:=ajU (h:=aD gu 0) (ps:=gu.drop 1) (m:=24002) (λx hx=>Wf x (List.mem_of_mem_drop hx));have h2:=Wf _ (List.mem_of_getElem? (lp (xs:=gu) (i:=0) om));rw[List.length_drop] at h1;have h3:(gu.length-1)*(24002+1)<=12001*24003:=Nat.mul_le_mul om om;omega)
 apply wE et 6 (rA 73 6) (rA 73 6) [[],[0],[1],[],[3],[2,4]] [It.v _,It.v _,It.v _,It.v _,It.p (fun(v:Value) (ww:World)=>bI [] ww v (gu.drop 1)),It.v _] de (by exact⟨λv w w' h k=>bI.ext h k,trivial⟩)
 intro wd aB
 refine eK ?_
 refine vk aB (λx w8 cv=>?_) ?_
 refine zi (i:=0) bh bA rfl rfl om ?_
 exact pv
 refine vk aB (λx w8 cv=>?_) ?_
 have vU:=vU.ext cv
 refine zl cm rfl (vU.cells 0 _ rfl) ?_
 exact pv
 refine eK ?_
 refine vk aB (λx w8 cv=>?_) ?_
 have AU:=AU.ext cv
 refine Hx (l:=1) bh bA rfl rfl rfl rfl om AU ?_
 intro CZ bo
 exact pf (ak.refl _ _) ((show bI [] _ CZ (gu.drop 1) from by unfold bI jj;rw[List.map_drop];exact bo))
 refine vk aB (λx w8 cv=>?_) ?_
 intro v4 d4
 refine aC (xP (aD gu 0) (gu.drop 1) CB _ [] w8 d4) ?_
 rintro v9 w9 ⟨eT,aG⟩
 have pq:=aG.size
 obtain rfl:=eT
 exact pk aG
 exact trivial
 intro x wQ jm
 intro v4 d4
 have h:=h.ext jm;have fo:=fo.ext jm;have hO:=hO.ext jm;have hc:=hc.ext jm;have hr:=hr.ext jm;have gq:=gq.ext jm;have fU:=fU.ext jm;have fJ:=fJ.ext jm
 change OW _ _ _ _ _ (aM (aN _ x _) (zZ 73 [_,_,_,_,_,_])) _
 refine zA<|ag<|aQ<|aQ ?_
 refine ql et aS 16 (rA 79 16) (rA 79 16) [[],[0],[1],[2],[2,3],[2],[2],[2,5,6],[2,7],[2,8],[2],[2,9,10],[2,11],[2,12],[2,4,13],[2,14]] [λv _=>v=(str (bO (aD gu 0) (gu.drop 1))),λv _=>v=(.bool (bH (bO (aD gu 0) (gu.drop 1)))),λv _=>v=(.bool (bH (bO (aD gu 0) (gu.drop 1)))),λv _=>(bH (bO (aD gu 0) (gu.drop 1)))=true->v=(str (bO (aD gu 0) (gu.drop 1))),λv _=>(bH (bO (aD gu 0) (gu.drop 1)))=true->v=(.bool (jt (bO (aD gu 0) (gu.drop 1)))),λv _=>(bH (bO (aD gu 0) (gu.drop 1)))=true->v=(.slice (some ⟨lZ,0,none⟩) bs.length co),λv _=>(bH (bO (aD gu 0) (gu.drop 1)))=true->v=(.int .i64 (k:Int)),λv _=>(bH (bO (aD gu 0) (gu.drop 1)))=true->v=(.pointer (some ⟨lZ,0+k*3,none⟩)),λv _=>(bH (bO (aD gu 0) (gu.drop 1)))=true->v=(.pointer (some ⟨lZ,0+k*3+2,none⟩)),λv _=>(bH (bO (aD gu 0) (gu.drop 1)))=true->v=(.slice (some ⟨b9,ov,none⟩) (bB bs k).code.length c2),λv _=>(bH (bO (aD gu 0) (gu.drop 1)))=true->v=(.int .i64 (n:Int)),λv _=>(bH (bO (aD gu 0) (gu.drop 1)))=true->v=(.pointer (some ⟨b9,ov+n*1,none⟩)),λv _=>(bH (bO (aD gu 0) (gu.drop 1)))=true->v=(str (aD (bB bs k).code n)),λv _=>(bH (bO (aD gu 0) (gu.drop 1)))=true->v=(.bool (jt (aD (bB bs k).code n))),λv _=>(bH (bO (aD gu 0) (gu.drop 1)))=true->v=(.bool (decide (jt (bO (aD gu 0) (gu.drop 1))=jt (aD (bB bs k).code n)))),λv _=>v=(.bool (bH (bO (aD gu 0) (gu.drop 1))&&(decide (jt (bO (aD gu 0) (gu.drop 1))=jt (aD (bB bs k).code n)))))] de (cZ (cZ (cZ (eX (eX (eX (eX (eX (eX (eX (eX (eX (eX (eX (eX (cZ trivial)))))))))))))))) (λwd aB=>?_) ?_
 refine bN ?_ ?_
 intro x vs j4 e eU hd he
 replace eU:=aS.trans aB eU
 replace he:e=aM (aN _ x _) []:=he
 subst he
 refine zm<|ag ?_
 exact dn (aS.refl _) rfl
 refine bN ?_ ?_
 intro x vs j4 e eU hd he
 have d0:vs 0=(str (bO (aD gu 0) (gu.drop 1))):=hd
 replace eU:=aS.trans aB eU
 replace he:e=aM (aN _ x _) [(79,vs 0)]:=he
 rw[d0] at he
 subst he
 refine aC (K2 (bO (aD gu 0) (gu.drop 1)) j4) ?_
 rintro v49 pr ⟨Hl,jE⟩
 have Wg:=jE.size
 obtain rfl:=Hl
 refine ag ?_
 exact dn (aS.of jE) rfl
 refine bN ?_ ?_
 intro x vs j4 e eU hd he
 have d1:vs 1=(.bool (bH (bO (aD gu 0) (gu.drop 1)))):=hd
 replace eU:=aS.trans aB eU
 replace he:e=aM (aN _ x _) [(80,vs 1)]:=he
 rw[d1] at he
 subst he
 refine zm<|ag ?_
 exact dn (aS.refl _) rfl
 refine bN ?_ ?_
 intro x vs j4 e eU hd he
 have d2:vs 2=(.bool (bH (bO (aD gu 0) (gu.drop 1)))):=hd
 replace eU:=aS.trans aB eU
 rcases bE (bH (bO (aD gu 0) (gu.drop 1))) with hg|hg
 rw[hg] at d2
 replace he:e=aM (aN _ x _) [(81,vs 2)]:=he
 rw[d2] at he
 subst he
 refine zm<|ag ?_
 exact dn (aS.refl _) (show(bH (bO (aD gu 0) (gu.drop 1)))=true->_=((str (bO (aD gu 0) (gu.drop 1))):Value) from λ_=>rfl)
 rw[hg] at d2
 replace he:e=aM (aN _ x _) [(81,vs 2)]:=he
 rw[d2] at he
 subst he
 refine zs<|ag ?_
 exact dn (aS.refl _) (show(bH (bO (aD gu 0) (gu.drop 1)))=true->_=(_:Value) from λhh=>nomatch hg.symm.trans hh)
 refine bN ?_ ?_
 intro x vs j4 e eU hd he
 have aR:(vs 2=(.bool (bH (bO (aD gu 0) (gu.drop 1)))))∧((bH (bO (aD gu 0) (gu.drop 1)))=true->vs 3=(str (bO (aD gu 0) (gu.drop 1)))):=hd
 obtain⟨d2,d3⟩:=aR
 replace eU:=aS.trans aB eU
 rcases bE (bH (bO (aD gu 0) (gu.drop 1))) with hg|hg
 rw[hg] at d2
 replace d3:=d3 hg
 replace he:e=aM (aN _ x _) [(81,vs 2),(82,vs 3)]:=he
 rw[d2,d3] at he
 subst he
 refine aC (HS (bO (aD gu 0) (gu.drop 1)) j4) ?_
 rintro v49 pr ⟨Hl,jE⟩
 have Wg:=jE.size
 obtain rfl:=Hl
 refine ag ?_
 exact dn (aS.of jE) (show(bH (bO (aD gu 0) (gu.drop 1)))=true->_=((.bool (jt (bO (aD gu 0) (gu.drop 1)))):Value) from λ_=>rfl)
 rw[hg] at d2
 replace he:e=aM (aN _ x _) [(81,vs 2),(82,vs 3)]:=he
 rw[d2] at he
 subst he
 refine zs<|ag ?_
 exact dn (aS.refl _) (show(bH (bO (aD gu 0) (gu.drop 1)))=true->_=(_:Value) from λhh=>nomatch hg.symm.trans hh)
 refine bN ?_ ?_
 intro x vs j4 e eU hd he
 have d2:vs 2=(.bool (bH (bO (aD gu 0) (gu.drop 1)))):=hd
 replace eU:=aS.trans aB eU
 rcases bE (bH (bO (aD gu 0) (gu.drop 1))) with hg|hg
 rw[hg] at d2
 replace he:e=aM (aN _ x _) [(81,vs 2)]:=he
 rw[d2] at he
 subst he
 refine zm<|ag ?_
 exact dn (aS.refl _) (show(bH (bO (aD gu 0) (gu.drop 1)))=true->_=((.slice (some ⟨lZ,0,none⟩) bs.length co):Value) from λ_=>rfl)
 rw[hg] at d2
 replace he:e=aM (aN _ x _) [(81,vs 2)]:=he
 rw[d2] at he
 subst he
 refine zs<|ag ?_
 exact dn (aS.refl _) (show(bH (bO (aD gu 0) (gu.drop 1)))=true->_=(_:Value) from λhh=>nomatch hg.symm.trans hh)
 refine bN ?_ ?_
 intro x vs j4 e eU hd he
 have d2:vs 2=(.bool (bH (bO (aD gu 0) (gu.drop 1)))):=hd
 replace eU:=aS.trans aB eU
 rcases bE (bH (bO (aD gu 0) (gu.drop 1))) with hg|hg
 rw[hg] at d2
 replace he:e=aM (aN _ x _) [(81,vs 2)]:=he
 rw[d2] at he
 subst he
 refine zm<|ag ?_
 exact dn (aS.refl _) (show(bH (bO (aD gu 0) (gu.drop 1)))=true->_=((.int .i64 (k:Int)):Value) from λ_=>rfl)
 rw[hg] at d2
 replace he:e=aM (aN _ x _) [(81,vs 2)]:=he
 rw[d2] at he
 subst he
 refine zs<|ag ?_
 exact dn (aS.refl _) (show(bH (bO (aD gu 0) (gu.drop 1)))=true->_=(_:Value) from λhh=>nomatch hg.symm.trans hh)
 refine bN ?_ ?_
 intro x vs j4 e eU hd he
 have aR:(vs 2=(.bool (bH (bO (aD gu 0) (gu.drop 1)))))∧((bH (bO (aD gu 0) (gu.drop 1)))=true->vs 5=(.slice (some ⟨lZ,0,none⟩) bs.length co))∧((bH (bO (aD gu 0) (gu.drop 1)))=true->vs 6=(.int .i64 (k:Int))):=hd
 obtain⟨d2,d5,d6⟩:=aR
 replace eU:=aS.trans aB eU
 rcases bE (bH (bO (aD gu 0) (gu.drop 1))) with hg|hg
 rw[hg] at d2
 replace d5:=d5 hg
 replace d6:=d6 hg
 replace he:e=aM (aN _ x _) [(81,vs 2),(84,vs 5),(85,vs 6)]:=he
 rw[d2,d5,d6] at he
 subst he
 refine zi iO gT rfl rfl hk<|ag ?_
 exact dn (aS.refl _) (show(bH (bO (aD gu 0) (gu.drop 1)))=true->_=((.pointer (some ⟨lZ,0+k*3,none⟩)):Value) from λ_=>rfl)
 rw[hg] at d2
 replace he:e=aM (aN _ x _) [(81,vs 2),(84,vs 5),(85,vs 6)]:=he
 rw[d2] at he
 subst he
 refine zs<|ag ?_
 exact dn (aS.refl _) (show(bH (bO (aD gu 0) (gu.drop 1)))=true->_=(_:Value) from λhh=>nomatch hg.symm.trans hh)
 refine bN ?_ ?_
 intro x vs j4 e eU hd he
 have aR:(vs 2=(.bool (bH (bO (aD gu 0) (gu.drop 1)))))∧((bH (bO (aD gu 0) (gu.drop 1)))=true->vs 7=(.pointer (some ⟨lZ,0+k*3,none⟩))):=hd
 obtain⟨d2,d7⟩:=aR
 replace eU:=aS.trans aB eU
 rcases bE (bH (bO (aD gu 0) (gu.drop 1))) with hg|hg
 rw[hg] at d2
 replace d7:=d7 hg
 replace he:e=aM (aN _ x _) [(81,vs 2),(86,vs 7)]:=he
 rw[d2,d7] at he
 subst he
 refine zf mV rfl<|ag ?_
 exact dn (aS.refl _) (show(bH (bO (aD gu 0) (gu.drop 1)))=true->_=((.pointer (some ⟨lZ,0+k*3+2,none⟩)):Value) from λ_=>rfl)
 rw[hg] at d2
 replace he:e=aM (aN _ x _) [(81,vs 2),(86,vs 7)]:=he
 rw[d2] at he
 subst he
 refine zs<|ag ?_
 exact dn (aS.refl _) (show(bH (bO (aD gu 0) (gu.drop 1)))=true->_=(_:Value) from λhh=>nomatch hg.symm.trans hh)
 refine bN ?_ ?_
 intro x vs j4 e eU hd he
 have aR:(vs 2=(.bool (bH (bO (aD gu 0) (gu.drop 1)))))∧((bH (bO (aD gu 0) (gu.drop 1)))=true->vs 8=(.pointer (some ⟨lZ,0+k*3+2,none⟩))):=hd
 obtain⟨d2,d8⟩:=aR
 replace eU:=aS.trans aB eU
 have hc:=hc.ext eU
 rcases bE (bH (bO (aD gu 0) (gu.drop 1))) with hg|hg
 rw[hg] at d2
 replace d8:=d8 hg
 replace he:e=aM (aN _ x _) [(81,vs 2),(87,vs 8)]:=he
 rw[d2,d8] at he
 subst he
 refine zl eS rfl (hc.cells 2 _ rfl)<|ag ?_
 exact dn (aS.refl _) (show(bH (bO (aD gu 0) (gu.drop 1)))=true->_=((.slice (some ⟨b9,ov,none⟩) (bB bs k).code.length c2):Value) from λ_=>rfl)
 rw[hg] at d2
 replace he:e=aM (aN _ x _) [(81,vs 2),(87,vs 8)]:=he
 rw[d2] at he
 subst he
 refine zs<|ag ?_
 exact dn (aS.refl _) (show(bH (bO (aD gu 0) (gu.drop 1)))=true->_=(_:Value) from λhh=>nomatch hg.symm.trans hh)
 refine bN ?_ ?_
 intro x vs j4 e eU hd he
 have d2:vs 2=(.bool (bH (bO (aD gu 0) (gu.drop 1)))):=hd
 replace eU:=aS.trans aB eU
 rcases bE (bH (bO (aD gu 0) (gu.drop 1))) with hg|hg
 rw[hg] at d2
 replace he:e=aM (aN _ x _) [(81,vs 2)]:=he
 rw[d2] at he
 subst he
 refine zm<|ag ?_
 exact dn (aS.refl _) (show(bH (bO (aD gu 0) (gu.drop 1)))=true->_=((.int .i64 (n:Int)):Value) from λ_=>rfl)
 rw[hg] at d2
 replace he:e=aM (aN _ x _) [(81,vs 2)]:=he
 rw[d2] at he
 subst he
 refine zs<|ag ?_
 exact dn (aS.refl _) (show(bH (bO (aD gu 0) (gu.drop 1)))=true->_=(_:Value) from λhh=>nomatch hg.symm.trans hh)
 refine bN ?_ ?_
 intro x vs j4 e eU hd he
 have aR:(vs 2=(.bool (bH (bO (aD gu 0) (gu.drop 1)))))∧((bH (bO (aD gu 0) (gu.drop 1)))=true->vs 9=(.slice (some ⟨b9,ov,none⟩) (bB bs k).code.length c2))∧((bH (bO (aD gu 0) (gu.drop 1)))=true->vs 10=(.int .i64 (n:Int))):=hd
 obtain⟨d2,d9,d10⟩:=aR
 replace eU:=aS.trans aB eU
 rcases bE (bH (bO (aD gu 0) (gu.drop 1))) with hg|hg
 rw[hg] at d2
 replace d9:=d9 hg
 replace d10:=d10 hg
 replace he:e=aM (aN _ x _) [(81,vs 2),(88,vs 9),(89,vs 10)]:=he
 rw[d2,d9,d10] at he
 subst he
 refine zi bh bA rfl rfl hn<|ag ?_
 exact dn (aS.refl _) (show(bH (bO (aD gu 0) (gu.drop 1)))=true->_=((.pointer (some ⟨b9,ov+n*1,none⟩)):Value) from λ_=>rfl)
 rw[hg] at d2
 replace he:e=aM (aN _ x _) [(81,vs 2),(88,vs 9),(89,vs 10)]:=he
 rw[d2] at he
 subst he
 refine zs<|ag ?_
 exact dn (aS.refl _) (show(bH (bO (aD gu 0) (gu.drop 1)))=true->_=(_:Value) from λhh=>nomatch hg.symm.trans hh)
 refine bN ?_ ?_
 intro x vs j4 e eU hd he
 have aR:(vs 2=(.bool (bH (bO (aD gu 0) (gu.drop 1)))))∧((bH (bO (aD gu 0) (gu.drop 1)))=true->vs 11=(.pointer (some ⟨b9,ov+n*1,none⟩))):=hd
 obtain⟨d2,d11⟩:=aR
 replace eU:=aS.trans aB eU
 have gq:=gq.ext eU
 rcases bE (bH (bO (aD gu 0) (gu.drop 1))) with hg|hg
 rw[hg] at d2
 replace d11:=d11 hg
 replace he:e=aM (aN _ x _) [(81,vs 2),(90,vs 11)]:=he
 rw[d2,d11] at he
 subst he
 refine zl cm rfl (gq.cells 0 _ rfl)<|ag ?_
 exact dn (aS.refl _) (show(bH (bO (aD gu 0) (gu.drop 1)))=true->_=((str (aD (bB bs k).code n)):Value) from λ_=>rfl)
 rw[hg] at d2
 replace he:e=aM (aN _ x _) [(81,vs 2),(90,vs 11)]:=he
 rw[d2] at he
 subst he
 refine zs<|ag ?_
 exact dn (aS.refl _) (show(bH (bO (aD gu 0) (gu.drop 1)))=true->_=(_:Value) from λhh=>nomatch hg.symm.trans hh)
 refine bN ?_ ?_
 intro x vs j4 e eU hd he
 have aR:(vs 2=(.bool (bH (bO (aD gu 0) (gu.drop 1)))))∧((bH (bO (aD gu 0) (gu.drop 1)))=true->vs 12=(str (aD (bB bs k).code n))):=hd
 obtain⟨d2,d12⟩:=aR
 replace eU:=aS.trans aB eU
 rcases bE (bH (bO (aD gu 0) (gu.drop 1))) with hg|hg
 rw[hg] at d2
 replace d12:=d12 hg
 replace he:e=aM (aN _ x _) [(81,vs 2),(91,vs 12)]:=he
 rw[d2,d12] at he
 subst he
 refine aC (HS (aD (bB bs k).code n) j4) ?_
 rintro v49 pr ⟨Hl,jE⟩
 have Wg:=jE.size
 obtain rfl:=Hl
 refine ag ?_
 exact dn (aS.of jE) (show(bH (bO (aD gu 0) (gu.drop 1)))=true->_=((.bool (jt (aD (bB bs k).code n))):Value) from λ_=>rfl)
 rw[hg] at d2
 replace he:e=aM (aN _ x _) [(81,vs 2),(91,vs 12)]:=he
 rw[d2] at he
 subst he
 refine zs<|ag ?_
 exact dn (aS.refl _) (show(bH (bO (aD gu 0) (gu.drop 1)))=true->_=(_:Value) from λhh=>nomatch hg.symm.trans hh)
 refine bN ?_ ?_
 intro x vs j4 e eU hd he
 have aR:(vs 2=(.bool (bH (bO (aD gu 0) (gu.drop 1)))))∧((bH (bO (aD gu 0) (gu.drop 1)))=true->vs 4=(.bool (jt (bO (aD gu 0) (gu.drop 1)))))∧((bH (bO (aD gu 0) (gu.drop 1)))=true->vs 13=(.bool (jt (aD (bB bs k).code n)))):=hd
 obtain⟨d2,d4,d13⟩:=aR
 replace eU:=aS.trans aB eU
 rcases bE (bH (bO (aD gu 0) (gu.drop 1))) with hg|hg
 rw[hg] at d2
 replace d4:=d4 hg
 replace d13:=d13 hg
 replace he:e=aM (aN _ x _) [(81,vs 2),(83,vs 4),(92,vs 13)]:=he
 rw[d2,d4,d13] at he
 subst he
 refine Xc HH rfl rfl rfl rfl<|ag ?_
 exact dn (aS.refl _) (show(bH (bO (aD gu 0) (gu.drop 1)))=true->_=((.bool (decide (jt (bO (aD gu 0) (gu.drop 1))=jt (aD (bB bs k).code n)))):Value) from λ_=>rfl)
 rw[hg] at d2
 replace he:e=aM (aN _ x _) [(81,vs 2),(83,vs 4),(92,vs 13)]:=he
 rw[d2] at he
 subst he
 refine zs<|ag ?_
 exact dn (aS.refl _) (show(bH (bO (aD gu 0) (gu.drop 1)))=true->_=(_:Value) from λhh=>nomatch hg.symm.trans hh)
 refine bN ?_ ?_
 intro x vs j4 e eU hd he
 have aR:(vs 2=(.bool (bH (bO (aD gu 0) (gu.drop 1)))))∧((bH (bO (aD gu 0) (gu.drop 1)))=true->vs 14=(.bool (decide (jt (bO (aD gu 0) (gu.drop 1))=jt (aD (bB bs k).code n))))):=hd
 obtain⟨d2,d14⟩:=aR
 replace eU:=aS.trans aB eU
 rcases bE (bH (bO (aD gu 0) (gu.drop 1))) with hg|hg
 rw[hg] at d2
 replace d14:=d14 hg
 replace he:e=aM (aN _ x _) [(81,vs 2),(93,vs 14)]:=he
 rw[d2,d14] at he
 subst he
 refine zp rfl<|ag ?_
 exact dn (aS.refl _) (by first|rfl|(rw[hg];rfl))
 rw[hg] at d2
 replace he:e=aM (aN _ x _) [(81,vs 2),(93,vs 14)]:=he
 rw[d2] at he
 subst he
 refine zp rfl<|ag ?_
 exact dn (aS.refl _) (by first|rfl|(rw[hg];rfl))
 exact trivial
 intro x vs w87 mH bJ
 have d0:vs 0=(str (bO (aD gu 0) (gu.drop 1))):=bJ 0 de
 have d1:vs 1=(.bool (bH (bO (aD gu 0) (gu.drop 1)))):=bJ 1 de
 have d2:vs 2=(.bool (bH (bO (aD gu 0) (gu.drop 1)))):=bJ 2 de
 have d3:(bH (bO (aD gu 0) (gu.drop 1)))=true->vs 3=(str (bO (aD gu 0) (gu.drop 1))):=bJ 3 de
 have d4:(bH (bO (aD gu 0) (gu.drop 1)))=true->vs 4=(.bool (jt (bO (aD gu 0) (gu.drop 1)))):=bJ 4 de
 have d5:(bH (bO (aD gu 0) (gu.drop 1)))=true->vs 5=(.slice (some ⟨lZ,0,none⟩) bs.length co):=bJ 5 de
 have d6:(bH (bO (aD gu 0) (gu.drop 1)))=true->vs 6=(.int .i64 (k:Int)):=bJ 6 de
 have d7:(bH (bO (aD gu 0) (gu.drop 1)))=true->vs 7=(.pointer (some ⟨lZ,0+k*3,none⟩)):=bJ 7 de
 have d8:(bH (bO (aD gu 0) (gu.drop 1)))=true->vs 8=(.pointer (some ⟨lZ,0+k*3+2,none⟩)):=bJ 8 de
 have d9:(bH (bO (aD gu 0) (gu.drop 1)))=true->vs 9=(.slice (some ⟨b9,ov,none⟩) (bB bs k).code.length c2):=bJ 9 de
 have d10:(bH (bO (aD gu 0) (gu.drop 1)))=true->vs 10=(.int .i64 (n:Int)):=bJ 10 de
 have d11:(bH (bO (aD gu 0) (gu.drop 1)))=true->vs 11=(.pointer (some ⟨b9,ov+n*1,none⟩)):=bJ 11 de
 have d12:(bH (bO (aD gu 0) (gu.drop 1)))=true->vs 12=(str (aD (bB bs k).code n)):=bJ 12 de
 have d13:(bH (bO (aD gu 0) (gu.drop 1)))=true->vs 13=(.bool (jt (aD (bB bs k).code n))):=bJ 13 de
 have d14:(bH (bO (aD gu 0) (gu.drop 1)))=true->vs 14=(.bool (decide (jt (bO (aD gu 0) (gu.drop 1))=jt (aD (bB bs k).code n)))):=bJ 14 de
 have d15:vs 15=(.bool (bH (bO (aD gu 0) (gu.drop 1))&&(decide (jt (bO (aD gu 0) (gu.drop 1))=jt (aD (bB bs k).code n))))):=bJ 15 de
 have h:=h.ext mH;have fo:=fo.ext mH;have hO:=hO.ext mH;have hc:=hc.ext mH;have hr:=hr.ext mH;have gq:=gq.ext mH;have fU:=fU.ext mH;have fJ:=fJ.ext mH
 change OW _ _ _ _ [] (aM (aN _ x _) (zZ 79 [vs 0,vs 1,vs 2,vs 3,vs 4,vs 5,vs 6,vs 7,vs 8,vs 9,vs 10,vs 11,vs 12,vs 13,vs 14,vs 15])) _
 rw[d0,d1,d2,d15]
 refine ag ?_
 refine ji (λ_:List Bk=>[(0,.pointer (some ⟨br,0,none⟩)),(5,.slice (some ⟨lZ,0,none⟩) bs.length co),(7,.int .i64 (k:Int)),(8,.int .i64 (n:Int))]) (λcs ww=>ak [br] w ww∧dY ww br (q+5)∧(∃Wh,mu ww 29 9 (.slice (some ⟨lZ,0,none⟩) bs.length co) g gss Wh cs)∧vT bs cs) ?_ ?_
 refine zc rfl (λh4=>?_) (λh4=>?_)
 have aj4:bH (bO (aD gu 0) (gu.drop 1))=true:=(Bool.and_eq_true_iff.1 h4).1
 have Eb:=fJ.form om
 obtain⟨b7,e7,eg2⟩:=Eb
 cases e7
 refine df<|zm<|zm<|zi iO gT rfl rfl hk<|zf mV rfl<|zl eS rfl (hc.cells 2 _ rfl)<|zm<|zm<|zi bh bA rfl rfl hn<|Rr (i:=n) bA rfl rfl rfl om fJ hn ?_
 intro Gh AP fJ dP
 have hO:=hO.row (f:={bB bs k with code:=(bB bs k).code.set n (bO (aD gu 0) (gu.drop 1))}) jP bo AP (λx hx=>by simp[jO,hx]) ⟨_,_,rfl,fU.aO AP (λb hb hy=>J8 b hb (by simpa using hy)),by rw[show({bB bs k with code:=(bB bs k).code.set n (bO (aD gu 0) (gu.drop 1))}:Bk).code=(bB bs k).code.set n (bO (aD gu 0) (gu.drop 1)) from rfl];exact fJ⟩
 have h:=h.aO AP (λx hx=>by have:=kV x (mR _ (xQ jP (by simp[jO,hx])));omega)
 have fo:=fo.since AP (λx hx=>.inr (kV x (mR _ (xQ jP (by simp[jO,hx])))))
 refine ag ?_
 exact⟨_,⟨rfl,rfl,rfl,rfl⟩,fo,h,⟨_,hO⟩,(vT.refl bs).set hk (by rw[List.length_set];exact lR _) (λx hx=>by rcases We hx with h9|h9;(·exact .inl h9);(·rw[h9];exact .inr aj4))⟩
 refine bz ?_
 exact⟨bs,⟨rfl,rfl,rfl,rfl⟩,fo,h,⟨_,hO⟩,vT.refl bs⟩
 intro gu Gh e88 hI
 obtain⟨fo,h,⟨Wh,hO⟩,hH⟩:=hI
 have lu:k<gu.length:=(by rw[hH.1];exact hk)
 have iw:=hO.get lu
 obtain⟨lZ,gs,a1,c1,a2,c2,e1,e2,tY,xi,jP,bo,kL,fU,fJ,J8⟩:=iw
 cases e1
 refine aQ<|zr<|zm<|aC (mI 6 de de br (q+5) om Gh h) ?_
 rintro v31 sZ ⟨⟨z,yM,hz⟩,h,aG⟩
 subst yM
 have fo:=fo.trans aG
 have hO:=hO.aO aG (λx hx hy=>by have:=kV x hx;simp at hy;omega)
 have iw:=hO.get lu
 obtain⟨lZ,gs,a1,c1,a2,c2,e1,e2,tY,xi,jP,bo,kL,fU,fJ,J8⟩:=iw
 cases e1
 have yW:∀x,x∈g.toList++im gss->x∉[br]:=(λx hx hy=>by have:=kV x hx;simp at hy;omega)
 have Pb:∀x,x∈g.toList++im gss->x<sZ.heap.size:=(λx hx=>(mA.1 hx).elim (λh9=>hO.own.lt x (by simpa using h9)) (hO.lt x))
 have hc:jb [] sZ lZ (0+k*3) _:=⟨kL,tY,sm⟩
 have hr:bI [] sZ _ _:=fJ.rep sm
 have Wi:=hH.2 k hk
 have oy:(bB gu k).code.length<=80:=Nat.le_trans Wi.2.2.1 (fz k hk).2.2
 have aoS:=fo.size
 refine dQ rfl rfl rfl<|zm ?_
 apply fZ 10 106 116 [106,107,108,109,110,111,112,113,114,115,116] (λw'=>sZ=w') rfl
 intro h5
 replace h5:=bw h5
 refine zm<|eI rfl rfl rfl (km (n+1) om _ om)<|zm<|zm<|zi iO gT rfl rfl hk<|zf mV rfl<|zl eS rfl (hc.cells 2 _ rfl)<|dZ bh rfl<|fA rfl rfl rfl<|zp rfl<|ag ?_
 exact mg rfl rfl
 intro h5
 replace h5:=bw h5
 refine zs<|zs<|zs<|zs<|zs<|zs<|zs<|zs<|zs<|zp rfl<|ag ?_
 exact mg rfl rfl
 rintro xx _ rfl
 refine ag<|zc rfl (λh6=>?_) (λh6=>?_)
 have pA:n+1<(bB gu k).code.length:=(by have h9:=of_decide_eq_true (Bool.and_eq_true_iff.1 h6).2;omega)
 have gh:=ou hr (i:=n) om
 obtain⟨b9,ov,e9,gq⟩:=gh
 subst e9
 apply kf et ([]) 20 (rA 117 20) (rA 117 20) [[],[],[],[],[],[3,4],[5],[6],[],[7,8],[2,9],[],[],[11,12],[13],[14],[],[16],[15,17],[10,18]] [Ie.v _,Ie.v _,Ie.p (fun(G:List Nat) (v:Value) (ww:World)=>∃bb,v= .slice (some ⟨bb,0,none⟩) 0 0∧fi G ww bb #[] 9∧sZ.heap.size<=bb),Ie.v _,Ie.v _,Ie.v _,Ie.v _,Ie.v _,Ie.v _,Ie.v _,Ie.e 0,Ie.v _,Ie.v _,Ie.v _,Ie.v _,Ie.v _,Ie.v _,Ie.v _,Ie.p (fun(G:List Nat) (v:Value) (ww:World)=>bI G ww v ((bB gu k).code.drop (n+1))),Ie.e 1] [10,19] [fun(G:List Nat) (vs:List Value) (ww:World)=>True,fun(G:List Nat) (vs:List Value) (ww:World)=>∃g7,dj ww 9 (vs.getD 0 undef) g7 ((bB gu k).code.take n)∧qD G ww 9 g7∧(∀x,x∈g7.toList->sZ.heap.size<=x),fun(G:List Nat) (vs:List Value) (ww:World)=>∃g7,dj ww 9 (vs.getD 1 undef) g7 ((bB gu k).code.take n++(bB gu k).code.drop (n+1))∧(∀x,x∈g7.toList->sZ.heap.size<=x)] de rfl ((λz hz=>by simp at hz)) (by exact⟨λG v w G' w' ⟨bb,e,h,hz⟩ k=>⟨bb,e,h.go k,hz⟩,λG v w G' w' h k=>bI.go h k,trivial⟩) (by exact⟨λ_ _ _ _ _ _=>trivial,λG vs w w' ⟨g7,h2,h3,h4⟩ k=>⟨g7,h2.ext k,h3.ext k,h4⟩,λG vs w w' ⟨g7,h2,h4⟩ k=>⟨g7,h2.ext k,h4⟩,trivial⟩) trivial
 refine cT ?_
 refine cT ?_
 refine vf (λx j5 kY aW iD lg=>?_) ?_
 refine gP bh bA ?_
 intro oq yo aj5 I4
 exact ff yo (⟨_,rfl,aj5.o lg,iD.aO.size⟩)
 refine cT ?_
 refine cT ?_
 refine vf (λ_ _ _ _ _ _=>zi iO gT rfl rfl hk fv) ?_
 refine vf (λ_ _ _ _ _ _=>zf mV rfl fv) ?_
 refine vf (λx j5 kY aW iD lg=>?_) ?_
 have hc:=hc.go iD
 refine zl eS rfl (hc.cells 2 _ rfl) ?_
 exact fv
 refine cT ?_
 refine vf (λx j5 kY aW iD lg=>?_) ?_
 have hr:=hr.go iD
 refine VT (h:=n) bh bA rfl rfl rfl rfl om hr ?_
 exact fv
 refine ve 0 (λx j5 kY aW iD lg hJ hlen=>?_) ?_
 have bo:=jR hlen
 subst bo
 have hr:=hr.go iD
 intro v2 d2
 obtain⟨bb,e2,gz,hN⟩:=d2
 subst e2
 have OA:bI kY j5 _ ((bB gu k).code.take n):=(show cF _ _ _ (.sl 1 (jj _)) from by have h9:=VS hr (h:=n) om;unfold jj at h9⊢;rw[List.map_take];exact h9)
 refine DU bh bA rfl rfl rfl rfl rfl rfl gz.jx.lr OA ‹_› (λx hx=>.inr (by simp at hx;subst hx;exact gz.jx)) (by rw[List.length_take];simp;omega) ?_
 intro v9 g9 oq G9 dL DX pq kW di fj aG
 exact fe G9 di fj (⟨g9,dL,DX,λx hx=>(pq x hx).elim (λh9=>by simp at h9;subst h9;exact hN) (λh9=>Nat.le_trans iD.aO.size h9)⟩)
 refine cT ?_
 refine cT ?_
 refine vf (λ_ _ _ _ _ _=>zi iO gT rfl rfl hk fv) ?_
 refine vf (λ_ _ _ _ _ _=>zf mV rfl fv) ?_
 refine vf (λx j5 kY aW iD lg=>?_) ?_
 have hc:=hc.go iD
 refine zl eS rfl (hc.cells 2 _ rfl) ?_
 exact fv
 refine cT ?_
 refine vf (λ_ _ _ _ _ _=>eI rfl rfl rfl (km (n+1) om _ om) fv) ?_
 refine vf (λx j5 kY aW iD lg=>?_) ?_
 have hr:=hr.go iD
 refine Hx bh bA rfl rfl rfl rfl om hr ?_
 intro CZ bo
 exact ff (ak.refl _ _) ((show bI _ _ CZ ((bB gu k).code.drop (n+1)) from by unfold bI jj;rw[List.map_drop];exact bo))
 refine ve 1 (λx j5 kY aW iD lg hJ hlen=>?_) ?_
 have aR:=jS hlen
 obtain⟨q0,bo⟩:=aR
 subst bo
 intro wZ d18
 have hJ:∃g7,dj j5 9 q0 g7 ((bB gu k).code.take n)∧qD kY j5 9 g7∧(∀x,x∈g7.toList->_<=x):=hJ
 obtain⟨g7,rY,F8,B6⟩:=hJ
 refine DU bh bA rfl rfl rfl rfl rfl rfl rY d18 ‹_› F8 (by rw[List.length_take,List.length_drop];omega) ?_
 intro v9 g9 oq G9 dL DX pq kW di fj aG
 exact fe G9 di fj (⟨g9,dL,λx hx=>(pq x hx).elim (B6 x) (λh9=>Nat.le_trans iD.aO.size h9)⟩)
 exact trivial
 intro x I5 TO aW MV adT hJ hlen
 have aR:=lP hlen
 obtain⟨q0,q1,bo⟩:=aR
 subst bo
 intro v2 d2
 intro wZ d18
 change OW _ _ _ _ _ (aM (aN _ x _) (zZ 117 [_,_,_,_,_,_,_,_,_,_,_,_,_,_,_,_,_,_,_,_])) _
 have hJ:∃g7,dj I5 9 q1 g7 ((bB gu k).code.take n++(bB gu k).code.drop (n+1))∧(∀x,x∈g7.toList->_<=x):=hJ
 obtain⟨g7,rY,B6⟩:=hJ
 have cL:=kv rY
 obtain⟨a9,c9,e9⟩:=cL
 subst e9
 have JI:ak [] _ I5:=MV.aO
 have hO:=hO.ext JI;have h:=h.ext JI;have fo:=fo.ext JI
 refine zi iO gT rfl rfl hk<|zf mV rfl<|ajt (i:=k) (L:=[br]) nO rfl rfl rfl om hO e2 lu rY (λx hx hy=>by have h8:=B6 x hx;have h9:=Pb x (by simp at hy;simp[hy]);omega) (λx hx hy=>by rcases mA.1 hx with h9|h9;(·exact yW x h9 hy);(·have h8:=B6 x h9;have h7:=fo.size;simp at hy;omega)) ?_
 intro MW Cd hR dP
 have h:=h.aO Cd (λx hx=>by have:=kV x (by simp at hx;simp[hx]);omega)
 have fo:=fo.since Cd (λx hx=>.inr (kV x (by simp at hx;simp[hx])))
 refine ag<|zr<|zm<|zA<|ag<|aV ?_
 exact⟨_,rfl,⟨_,hR,hH.set hk (by rw[lA,List.length_take,List.length_drop];omega) (λx hx=>Wi.2.2.2 x ((mA.1 hx).elim List.mem_of_mem_take List.mem_of_mem_drop))⟩,h.more om,fo⟩
 refine bz<|zr<|zm<|zA<|ag<|aV ?_
 exact⟨_,rfl,⟨gu,hO.rep yW,hH⟩,h.more om,fo⟩
def Wj {w:World} {br:Nat} {cs:Array Value} {T:TypeId} (hb:aY w br cs T) (hs:∀(i:Nat) (s:aj),cs[i]?≠some (str s)) {a:Option Addr} {n c size:Nat} {rows:List (List C)} (h:cF [] w (.slice a n c) (.sl size rows)) (h0:∀row,row∈rows->∃s rest,row= .val (str s)::rest) (AD:∀row c' u,row∈rows->c'∈row->cF [] w u c'->cF [br] w u c'):cF [br] w (.slice a n c) (.sl size rows):=by
 cases h with
 |nil=>exact .nil _ _ _
 |sl b off _ _ _ _ f hl hc iG hL iY kL jo=>
  cases rows with
  |nil=>
   have:n=0:=by rw[<-hl];rfl
   subst this
   exact .nil _ _ _
  |cons row rest=>
   have eN:b≠br:=by
    rintro rfl
    obtain⟨s,r,e⟩:=h0 row sm
    have hz:=iY row sm
    have h1:=jo 0 0 row (.val (str s)) rfl (by rw[e];rfl)
    have h2:=kL 0 0 (by rw[<-hl];simp) (by rw[<-hz,e];simp)
    rw[hb.cell] at h2
    generalize f 0 0=u at h1 h2
    cases h1
    exact hs _ _ h2
   exact .sl b off n c size _ f hl hc iG (by simpa using eN) iY kL λi j row c hr hc=>AD row c _ (List.mem_of_getElem? hr) (List.mem_of_getElem? hc) (jo i j row c hr hc)
def Wk {w:World} {br:Nat} {cs:Array Value} {T:TypeId} (hb:aY w br cs T) (hs:∀(i:Nat) (s:aj),cs[i]?≠some (str s)) {v:Value} {xs:List aj} (h:bI [] w v xs):bI [br] w v xs:=by
 obtain⟨a,n,c,rfl,_⟩:=eP h
 refine Wj hb hs h (λrow hr=>?_) (λrow c' u hr hc hu=>?_)
 ·obtain⟨x,_,rfl⟩:=List.mem_map.1 hr;exact⟨x,[],rfl⟩
 ·obtain⟨x,_,rfl⟩:=List.mem_map.1 hr
  simp only[mS] at hc
  subst hc
  cases hu;exact .val _
def aj6 {w:World} {br:Nat} {cs:Array Value} {T:TypeId} (hb:aY w br cs T) (hs:∀(i:Nat) (s:aj),cs[i]?≠some (str s)) {v:Value} {bs:List Bk} (h:ko [] w v bs):ko [br] w v bs:=by
 obtain⟨a,n,c,rfl,_⟩:=BA h
 refine Wj hb hs h (λrow hr=>?_) (λrow c' u hr hc hu=>?_)
 ·obtain⟨x,_,rfl⟩:=List.mem_map.1 hr;exact⟨x.aP,_,rfl⟩
 ·obtain⟨x,_,rfl⟩:=List.mem_map.1 hr
  simp only[Bk.enc,mC,nN,oF] at hc
  rcases hc with rfl|rfl|rfl
  ·cases hu;exact .val _
  ·exact Wk hb hs hu
  ·exact Wk hb hs hu
def dY.xN {w:World} {br q:Nat} (h:dY w br q) {v:Value} {bs:List Bk} (hR:ko [] w v bs):ko [br] w v bs:=by
 obtain⟨a,n,c,p,xs,h1,_⟩:=h
 refine aj6 h1 (λi s hi=>?_) hR
 match i with
 |0=>cases hi
 |1=>cases hi
 |i+2=>cases hi
def aj7 (br q:Nat) (hq:q<=700000000) (w:World) (h:dY w br q):
  ck Tryz.prog 50 [.pointer (some ⟨br,0,none⟩)] w λr w'=>(∃x,r=str x)∧dY w' br (q+12000)∧ak [br] w w':=by
 have hk:=ak.refl [br] w
 have iG:=h.lt
 have uO:(4:Nat)^2=16:=rfl
 refine cX [.tmp 2] 28 Tryz.func50 rfl Ze rfl rfl ?_
 refine zr<|zA<|ag<|zr<|zA<|ag<|aQ<|zr<|zm<|aC (mI 3 de de br q om w h) ?_
 rintro v9 w1 ⟨⟨z,e9,hz⟩,h,aG⟩
 subst e9
 have hk:=hk.trans aG
 refine dQ rfl rfl rfl<|ag ?_
 refine ji (λx:aj=>[(0,.pointer (some ⟨br,0,none⟩)),(3,str x)]) (λx ww=>ak [br] w ww∧dY ww br (q+20)∧x.length<=100) ?_ ?_
 refine zc rfl (λh1=>?_) (λh1=>?_)
 refine df<|zm<|aC (OH 2 de br (q+1) om w1 h) ?_
 rintro v9 w2 ⟨⟨T,e9,hT⟩,h,aG⟩
 subst e9
 have V8:=T.len
 have hT:T.n+1<=8:=hT
 have hk:=hk.trans aG
 refine zA<|ag ?_
 exact⟨_,⟨rfl,rfl⟩,hk,h.more om,om⟩
 refine bz ?_
 exact⟨_,⟨rfl,rfl⟩,hk,h.more om,by decide⟩
 intro gu w2 e2 hI
 obtain⟨hk,h,hx⟩:=hI
 have ox:=h.lt
 refine zr<|zm<|gP bh bA ?_
 intro w3 aJ iE iJ
 have hk:=hk.ext aJ;have h:=h.ext aJ
 refine gP bh bA ?_
 intro w4 aF NC iU
 have hk:=hk.ext aF;have h:=h.ext aF;have iE:=iE.ext aF
 refine j7 (Kx _ _ _ _ _ _ _) rfl rfl<|zm<|zm<|aC (mI 3 de de br (q+20) om w4 h) ?_
 rintro v9 w5 ⟨⟨z2,e9,eO⟩,h,aG⟩
 subst e9
 have hk:=hk.trans aG
 have cW:bI [br] w5 _ []:=(iE.lr.aO aG so).rep so
 have cU:bI [br] w5 _ []:=(NC.lr.aO aG so).rep so
 have hE:=OT (2+z2) om
 have hp:4^(2+z2)<=4^4:=Nat.pow_le_pow_right de om
 have VD:(4:Nat)^4=256:=rfl
 refine eI rfl rfl rfl (km (2+z2) om _ om)<|aC (hE [] [] gu br (q+21) _ _ w5 rfl so sm om om h cW cU) ?_
 rintro v9 w6 ⟨⟨x9,e9,jh⟩,h,aG⟩
 subst e9
 have hk:=hk.trans aG
 have h:=h.more (show _<=q+6000 from om)
 refine zA<|ag<|aQ<|zr<|zm<|aC (MI x9 w6) ?_
 rintro v7 w7 ⟨iV,cz⟩
 have po:=cz.size
 have hk:=hk.ext cz;have h:=h.ext cz
 obtain rfl:=iV
 refine ag<|zc rfl (λh2=>?_) (λh2=>?_)
 refine zr<|zm<|zA<|ag<|aV ?_
 exact⟨_,rfl,⟨_,rfl⟩,h.more om,hk⟩
 have ox:=h.lt
 refine bz<|zr<|zm<|gP bh bA ?_
 intro w8 cv A5 mr
 have hk:=hk.ext cv;have h:=h.ext cv
 refine gP bh bA ?_
 intro w9 aG Cr dP
 have hk:=hk.ext aG;have h:=h.ext aG;have A5:=A5.ext aG
 refine j7 (Kx _ _ _ _ _ _ _) rfl rfl<|zm<|aC (OT 2 de [] [] gu br (q+6000) _ _ w9 rfl sm sm om om h (A5.lr.rep so) (Cr.lr.rep so)) ?_
 rintro v9 cO ⟨⟨En,e9,aoT⟩,h,aG⟩
 subst e9
 have hk:=hk.trans aG
 refine zA<|ag<|aV ?_
 exact⟨_,rfl,⟨_,rfl⟩,h.more om,hk⟩
def Gr.two {B b TB:Nat} {L:List Nat} {w:World} {x1 x2 x3 y1 y2 y3:Value} {f1 f2:Bk} (hb:aY w b [x1,x2,x3,y1,y2,y3].toArray TB) (h1:qY (b::L) w (.agg #[x1,x2,x3]) f1) (h2:qY (b::L) w (.agg #[y1,y2,y3]) f2) (hB:B<=b) (hL:∀x,x∈L->x<w.heap.size) (rf:b∉L):Gr B L w TB 3 (.slice (some ⟨b,0,none⟩) 2 2) (some b) ([f1,f2].map Bk.enc):=
 ⟨⟨[x1,x2,x3,y1,y2,y3],⟨rfl,.inr ⟨b,2,_,rfl,rfl,hb,lR _,by decide,rfl,rfl⟩⟩,dR.append (vs:=[x1,x2,x3]) h1.kQ (dR.append (vs:=[y1,y2,y3]) h2.kQ (vs':=[]) (cs':=[]) trivial),by intro row hr;simp at hr;rcases hr with rfl|rfl<;>rfl,by intro c hc;cases hc;exact rf⟩,by intro c hc;cases hc;exact hB,hL,Nat.le_of_lt (Nat.lt_of_le_of_lt hB hb.lt)⟩
structure Ba (bs:List Bk):Prop where
 len:1<=bs.length∧bs.length<=40
 bk:∀b,b∈bs->b.aP.length<=100∧b.cP.length<=40∧b.code.length<=80∧(∀x,x∈b.cP->x.length<=12000)∧∀x,x∈b.code->x.length<=12000
def Ba.smalls {bs:List Bk} (h:Ba bs):BE bs:=⟨by have:=h.len;omega,λi hi=>by
 have:=h.bk (bB bs i) (List.mem_of_getElem? (sC hi))
 exact⟨by omega,om,om⟩⟩
def O3.dr {b:Bk} {l:aj} (h:O3 b l) (hl:l.length<=100):b.aP.length<=100∧b.cP.length<=40∧b.code.length<=80∧(∀x,x∈b.cP->x.length<=12000)∧∀x,x∈b.code->x.length<=12000:=
 ⟨by rw[h.aP];exact hl,by have:=h.regs.1;omega,by have:=h.code.2.1;omega,λx hx=>by have:=h.regs.2 x hx;omega,λx hx=>by have:=h.code.2.2 x hx;omega⟩
def aj8 {x:aj} (h:bH x=true):x.length<=12000:=by
 unfold bH seen at h
 cases hp:ba x with
 |none=>rw[hp] at h;cases h
 |some t=>exact(BI hp).2.2.2
def Wl {bs:List Bk} (hp:jN bs=true) (hl:∀b,b∈bs->b.aP.length<=10):Ba bs:=by
 obtain⟨h1,h2,h3⟩:=Wd hp
 refine⟨⟨h2,h1⟩,λb hb=>?_⟩
 obtain⟨i,hi,rfl⟩:=List.getElem_of_mem hb
 have e:bB bs i=bs[i]:=by unfold bB;rw[gG,gE hi];rfl
 have h4:=h3 i hi
 rw[e] at h4
 obtain⟨_,h5,h6⟩:=abk (Ld hp _ hb)
 refine⟨by have:=hl _ hb;omega,h4.1,h4.2.2,λx hx=>?_,λx hx=>?_⟩
 ·obtain⟨t,ht,_⟩:=h5 x hx;exact(BI ht).2.2.2
 ·obtain⟨t,ht,_⟩:=h6 x hx;exact(BI ht).2.2.2
def Ba.aj9 {bs cs:List Bk} (h:Ba bs) (hh:vT bs cs):Ba cs:=by
 refine⟨by rw[hh.1];exact h.len,λb hb=>?_⟩
 obtain⟨i,hi,rfl⟩:=List.getElem_of_mem hb
 have lj:i<bs.length:=by rw[<-hh.1];exact hi
 have e:bB cs i=cs[i]:=by unfold bB;rw[gG,gE hi];rfl
 obtain⟨h1,h2,h3,h4⟩:=hh.2 i lj
 rw[e] at h1 h2 h3 h4
 have h5:=h.bk (bB bs i) (List.mem_of_getElem? (sC lj))
 rw[h1,h2]
 exact⟨h5.1,h5.2.1,om,h5.2.2.2.1,λx hx=>(h4 x hx).elim (h5.2.2.2.2 x) aj8⟩
def Pc:List aj:=[[98,49],[98,48],[101,110,100]]
set_option maxHeartbeats 4000000 in
def aka (br q:Nat) (hq:q<=600000000) (w:World) (h:dY w br q):
  ck Tryz.prog 24 [.pointer (some ⟨br,0,none⟩)] w λr w'=>(∃bs,Ba bs∧ko [br] w' r bs)∧dY w' br (q+20000)∧ak [br] w w':=by
 have hk:=ak.refl [br] w
 have iG:=h.lt
 refine cX [.tmp 2] 49 Tryz.func24 rfl YY rfl rfl ?_
 refine zr<|zA<|ag<|aQ<|zr<|zm<|aC (mI 3 de de br q om w h) ?_
 rintro v9 w1 ⟨⟨z,e9,hz⟩,h,aG⟩
 subst e9
 have hk:=hk.trans aG
 refine dQ rfl rfl rfl<|ag<|zc rfl (λh1=>?_) (λh1=>?_)
 have ox:=h.lt
 refine zr<|zm<|aC (O5 [109,97,105,110] 0 de br (q+1) om w1 h) ?_
 rintro v9 w2 ⟨⟨f1,r8,cW⟩,h,aG⟩
 have hk:=hk.trans aG
 have cW:=cW [br] so
 have cL:=Dn cW
 obtain⟨a1,n1,c1,a2,n2,c2,e9,fU,fJ,dS,eH⟩:=cL
 subst e9
 refine zm<|zm<|aC (mI 3 de de br (q+101) om w2 h) ?_
 rintro v9 w3 ⟨⟨z2,e9,eO⟩,h,aG⟩
 subst e9
 have hk:=hk.trans aG
 have dS:=dS.aL aG sm;have eH:=eH.aL aG sm
 have ox:=h.lt
 refine aC (O5 [98,48] z2 om br (q+102) om w3 h) ?_
 rintro v9 w4 ⟨⟨f2,sd,cU⟩,h,aG⟩
 have hk:=hk.trans aG
 have dS:=dS.aL aG sm;have eH:=eH.aL aG sm
 have cU:=cU [br] so
 have cL:=Dn cU
 obtain⟨a3,n3,c3,a4,n4,c4,e9,pA,T3,gd,gK⟩:=cL
 subst e9
 refine sG [.tmp 10,.tmp 14] [[str f1.aP,.slice a1 n1 c1,.slice a2 n2 c2],[str f2.aP,.slice a3 n3 c3,.slice a4 n4 c4]] iO gT rfl rfl rfl rfl rfl rfl rfl rfl rfl ?_
 intro w5 aU IX IY
 have ox:=h.lt
 have wb:∀x,x∈w4.heap.size::[br]->x∈[br]∨w4.heap.size<=x:=(λx hx=>by rcases mC.1 hx with h9|h9;(·right;omega);(·exact .inl h9))
 have dS:=(dS.fresh wb).ext aU
 have eH:=(eH.fresh wb).ext aU
 have gd:=(gd.fresh wb).ext aU
 have gK:=(gK.fresh wb).ext aU
 have hwk:=hk.size
 have hk:=hk.ext aU;have h:=h.ext aU
 have hO:=Gr.two (B:=w.heap.size) (L:=[br]) IX (Dp dS eH) (Dp gd gK) om so so
 refine zA<|ag<|aQ<|zr<|zm<|aC (mI 3 de de br (q+202) om w5 h) ?_
 rintro v9 w6 ⟨⟨z3,e9,iJ⟩,h,aG⟩
 subst e9
 have hk:=hk.trans aG
 have hO:=hO.aL aG sm
 refine dQ rfl rfl rfl<|ag<|zc rfl (λh2=>?_) (λh2=>?_)
 have ox:=h.lt
 refine df<|zm<|zm<|zm<|pU bh bA rfl rfl rfl rfl rfl ?_
 intro w7 cz tZ qm
 have hk:=hk.ext cz;have h:=h.ext cz;have hO:=hO.ext cz
 refine aC (mo Pc de de br (q+203) om _ w7 h (aY.eF Pc tZ (λhx=>by simp at hx;omega) de)) ?_
 rintro lz w8 ⟨⟨lb,hi,ig⟩,h,aG⟩
 subst ig
 have hk:=hk.trans aG
 have hO:=hO.aL aG sm
 have CB:=(show∀x,x∈Pc->x.length<=30 from by decide) _ hi
 refine zm<|aC (mI 2 de de br (q+204) om w8 h) ?_
 rintro v9 w9 ⟨⟨z4,e9,iU⟩,h,aG⟩
 subst e9
 have hk:=hk.trans aG
 have hO:=hO.aL aG sm
 have ox:=h.lt
 have gJ:=hO.all
 refine aC (O5 lb z4 om br (q+205) om w9 h) ?_
 rintro v9 cO ⟨⟨f3,vw,Iy⟩,h,aG⟩
 have hk:=hk.trans aG
 have hO:=hO.aL aG sm
 have Iy:=Iy _ gJ
 have cL:=Dn Iy
 obtain⟨a5,n5,c5,a6,n6,c6,e9,Jd,VB,pJ,oS⟩:=cL
 subst e9
 refine gH iO gT rfl rfl ?_
 intro eY cM akb uK
 have hk:=hk.ext cM;have h:=h.ext cM;have hO:=hO.ext cM;have pJ:=pJ.ext cM;have oS:=oS.ext cM
 refine aaF iO gT rfl rfl rfl rfl rfl rfl hO akb (Dp pJ oS) sm ?_
 intro a7 c7 g7 gj gU dG
 have hk:=hO.since hk dG
 have h:=h.aO dG (λx hx=>by have:=hO.low x (by simp at hx;simp[hx]);omega)
 refine zA<|ag<|zr<|zm<|zA<|ag<|aV ?_
 exact⟨_,rfl,⟨[f1,f2]++[f3],⟨by simp,λb hb=>by simp at hb;rcases hb with rfl|rfl|rfl;(·exact r8.dr de);(·exact sd.dr de);(·exact vw.dr om)⟩,gU.xN⟩,h.more om,hk⟩
 refine bz<|zr<|zm<|zA<|ag<|aV ?_
 exact⟨_,rfl,⟨[f1,f2],⟨by simp,λb hb=>by simp at hb;rcases hb with rfl|rfl;(·exact r8.dr de);(·exact sd.dr de)⟩,hO.xN⟩,h.more om,hk⟩
 refine bz<|zr<|zm<|aC (aj7 br (q+1) om w1 h) ?_
 rintro v9 w2 ⟨⟨x9,e9⟩,h,aG⟩
 subst e9
 have hk:=hk.trans aG
 refine aC (VQ x9 w2) ?_
 rintro v3 w3 ⟨er,aJ⟩
 have gd:=aJ.size
 have hk:=hk.ext aJ;have h:=h.ext aJ
 obtain⟨v1,ok,bs,e9,hR,hC⟩:=er
 subst e9
 have hR:=h.xN hR
 refine zm<|zx (i:=0) rfl rfl<|zx (i:=1) rfl rfl<|zA<|zA<|ag<|aQ<|zr<|zm<|eM rfl<|ag ?_
 refine ji (λv:Value=>[(0,.pointer (some ⟨br,0,none⟩)),(4,v)]) (λv ww=>ak [br] w ww∧dY ww br (q+12001)∧∃bs,ko [br] ww v bs∧jN bs=true∧∀b,b∈bs->b.aP.length<=10) ?_ ?_
 refine zc rfl (λh3=>?_) (λh3=>?_)
 have hf:ok=false:=(by simpa using h3)
 refine df<|aC (VQ [40,43,32,49,32,50,41] w3) ?_
 rintro v4 w4 ⟨eJ,aF⟩
 have gK:=aF.size
 have hk:=hk.ext aF;have h:=h.ext aF
 obtain⟨v2,ok2,VV,e9,OG,Pd⟩:=eJ
 subst e9
 have akc:=aiP Pd
 subst akc
 refine zm<|zx (i:=0) rfl rfl<|zx (i:=1) rfl rfl<|zA<|ag ?_
 exact⟨_,⟨rfl,rfl⟩,hk,h.more om,_,h.xN OG,Pd.prog,Pd.aP⟩
 have bD:ok=true:=(by simpa using h3)
 subst bD
 refine bz ?_
 exact⟨_,⟨rfl,rfl⟩,hk,h.more om,_,hR,hC.prog,hC.aP⟩
 intro gu w4 e4 hI
 obtain⟨hk,h,bs,hR,A9,ED⟩:=hI
 refine aQ<|zr<|zm<|aC (mI 2 de de br (q+12001) om w4 h) ?_
 rintro v9 w5 ⟨⟨z5,e9,jr⟩,h,aG⟩
 subst e9
 have hk:=hk.trans aG
 have hR:=cF.aL hR aG sm
 refine dQ rfl rfl rfl<|ag<|zc rfl (λh4=>?_) (λh4=>?_)
 refine zr<|zm<|zA<|ag<|aV ?_
 exact⟨_,rfl,⟨bs,Wl A9 ED,hR⟩,h.more om,hk⟩
 have hRn:=cF.none hR
 refine bz<|zr<|zm<|zm<|aC (ajV bs A9 br (q+12002) om _ w5 h hRn) ?_
 rintro v9 w6 ⟨⟨cs,hRc,hH⟩,h,aG⟩
 have hk:=hk.trans aG
 refine zA<|ag<|aV ?_
 exact⟨_,rfl,⟨cs,(Wl A9 ED).aj9 hH,hRc⟩,h.more om,hk⟩
def Pe:List aj:=[[109,97,105,110],[98,48],[98,49],[101,110,100],[120]]
def akf (bs:List UInt8) (hb:bs.length<=1000000000) (v:Value) (w:World) (hv:cF [] w v (.sl 1 (rI bs))):
  ck Tryz.prog 7 [v] w λr w'=>(∃vp l ps,r= .tuple #[vp,str l]∧Ba ps∧ko [] w' vp ps∧l.length<=100)∧ak [] w w':=by
 have hK:=ak.refl [] w
 refine cX [.tmp 2,.tmp 3] 12 Tryz.func7 rfl Zt rfl rfl ?_
 refine zr<|zA<|zA<|ag<|zr<|zm<|aC (aiX bs hb _ w hv) ?_
 rintro v1 w1 ⟨fO,aK⟩
 have dS:=aK.size
 have hK:=hK.ext aK
 obtain⟨br,e9,LR,h⟩:=fO
 subst e9
 refine zA<|ag<|zr<|zm<|aC (aka br 0 de w1 h) ?_
 rintro v9 w2 ⟨⟨ps,hP,hR⟩,h,aG⟩
 have hK:=hK.since aG (λx hx=>.inr (by simp at hx;omega))
 have ox:=h.lt
 have cL:=BA hR
 obtain⟨pa,pn,pc,e9,_⟩:=cL
 subst e9
 refine zm<|Mf bh bA rfl rfl rfl rfl rfl rfl rfl ?_
 intro w3 aJ oC iJ
 have hK:=hK.ext aJ;have h:=h.ext aJ;have hR:=hR.ext aJ
 refine aC (mo Pe de de br _ de _ w3 h (aY.eF Pe oC (λhx=>by simp at hx;omega) de)) ?_
 rintro lz w4 ⟨⟨lb,hi,ig⟩,h,aG⟩
 subst ig
 have hK:=hK.since aG (λx hx=>.inr (by simp at hx;omega))
 have hR:=cF.aL hR aG sm
 have CB:=(show∀x,x∈Pe->x.length<=30 from by decide) _ hi
 refine zA<|zA<|ag<|aV ?_
 exact⟨_,rfl,⟨_,lb,ps,rfl,hP,cF.none hR,om⟩,hK⟩
end Go.Proofs.YtigijcjccmdmhaaGreatDoor
namespace Go.Proofs
open Go.Shelf
def Tryz.akg:Go.Shelf.Ren:=⟨fun|170=>164|n=>n,fun|70=>92|3=>3|0=>0|72=>94|37=>22|5=>5|n=>n,fun|n=>n⟩
def Tryz.akh:Go.Proofs.Lays.n170 Tryz.prog Tryz.akg:={
 mixed:=by kernel_rfl
 f170:=Tryz.func164.trans (congrArg some (by kernel_rfl))
 t0:=Tryz.underlying0
 a0:=Tryz.isAgg0
 z0:=Tryz.sizeOf0
 v0:=Tryz.zeroValue0
 t3:=Tryz.underlying3
 a3:=Tryz.isAgg3
 z3:=Tryz.sizeOf3
 v3:=Tryz.zeroValue3
 t37:=Tryz.underlying22
 a37:=Tryz.isAgg22
 z37:=Tryz.sizeOf22
 v37:=Tryz.zeroValue22
 t70:=Tryz.underlying92
 a70:=Tryz.isAgg92
 z70:=Tryz.sizeOf92
 v70:=Tryz.zeroValue92
 t72:=Tryz.underlying94
 a72:=Tryz.isAgg94
 z72:=Tryz.sizeOf94
 v72:=Tryz.zeroValue94}
def Tryz.Wm:Go.Shelf.Ren:=⟨fun|169=>74|n=>n,fun|70=>92|9=>9|0=>0|72=>94|37=>22|127=>120|3=>3|5=>5|n=>n,fun|n=>n⟩
def Tryz.aki:Go.Proofs.Lays.n169 Tryz.prog Tryz.Wm:={
 mixed:=by kernel_rfl
 f169:=Tryz.func74.trans (congrArg some (by kernel_rfl))
 t0:=Tryz.underlying0
 a0:=Tryz.isAgg0
 z0:=Tryz.sizeOf0
 v0:=Tryz.zeroValue0
 t3:=Tryz.underlying3
 a3:=Tryz.isAgg3
 z3:=Tryz.sizeOf3
 v3:=Tryz.zeroValue3
 t9:=Tryz.underlying9
 a9:=Tryz.isAgg9
 z9:=Tryz.sizeOf9
 v9:=Tryz.zeroValue9
 t37:=Tryz.underlying22
 a37:=Tryz.isAgg22
 z37:=Tryz.sizeOf22
 v37:=Tryz.zeroValue22
 t70:=Tryz.underlying92
 a70:=Tryz.isAgg92
 z70:=Tryz.sizeOf92
 v70:=Tryz.zeroValue92
 t72:=Tryz.underlying94
 a72:=Tryz.isAgg94
 z72:=Tryz.sizeOf94
 v72:=Tryz.zeroValue94
 t127:=Tryz.underlying120
 a127:=Tryz.isAgg120
 z127:=Tryz.sizeOf120
 v127:=Tryz.zeroValue120}
def Tryz.akj:Builder.Extra Tryz.prog Tryz.Wm:={
 sizeBuilder:=by kernel_rfl
 liesBuilder:=by kernel_rfl
 t5:=Tryz.underlying5
 a5:=Tryz.isAgg5
 z5:=Tryz.sizeOf5
 v5:=Tryz.zeroValue5
 infoByte:=by kernel_rfl
 cellsByte:=by kernel_rfl
 sizeByte:=by kernel_rfl
 neB5:=by decide}
def Tryz.Wn:Go.Shelf.Ren:=⟨fun|165=>163|240=>132|241=>193|276=>168|277=>207|n=>n,fun|70=>92|3=>3|0=>0|4=>4|9=>9|20=>20|72=>94|37=>22|164=>175|5=>5|n=>n,fun|n=>n⟩
def Tryz.akk:Go.Proofs.Lays.n165 Tryz.prog Tryz.Wn:={
 mixed:=by kernel_rfl
 f165:=Tryz.func163.trans (congrArg some (by kernel_rfl))
 f240:=Tryz.func132.trans (congrArg some (by kernel_rfl))
 f241:=Tryz.func193.trans (congrArg some (by kernel_rfl))
 f276:=Tryz.func168.trans (congrArg some (by kernel_rfl))
 f277:=Tryz.func207.trans (congrArg some (by kernel_rfl))
 t0:=Tryz.underlying0
 a0:=Tryz.isAgg0
 z0:=Tryz.sizeOf0
 v0:=Tryz.zeroValue0
 t3:=Tryz.underlying3
 a3:=Tryz.isAgg3
 z3:=Tryz.sizeOf3
 v3:=Tryz.zeroValue3
 t4:=Tryz.underlying4
 a4:=Tryz.isAgg4
 z4:=Tryz.sizeOf4
 v4:=Tryz.zeroValue4
 t9:=Tryz.underlying9
 a9:=Tryz.isAgg9
 z9:=Tryz.sizeOf9
 v9:=Tryz.zeroValue9
 t20:=Tryz.underlying20
 a20:=Tryz.isAgg20
 z20:=Tryz.sizeOf20
 v20:=Tryz.zeroValue20
 t37:=Tryz.underlying22
 a37:=Tryz.isAgg22
 z37:=Tryz.sizeOf22
 v37:=Tryz.zeroValue22
 t70:=Tryz.underlying92
 a70:=Tryz.isAgg92
 z70:=Tryz.sizeOf92
 v70:=Tryz.zeroValue92
 t72:=Tryz.underlying94
 a72:=Tryz.isAgg94
 z72:=Tryz.sizeOf94
 v72:=Tryz.zeroValue94
 t164:=Tryz.underlying175
 a164:=Tryz.isAgg175
 z164:=Tryz.sizeOf175
 v164:=Tryz.zeroValue175}
def Tryz.akl:Builder.Extra Tryz.prog Tryz.Wn:={
 sizeBuilder:=by kernel_rfl
 liesBuilder:=by kernel_rfl
 t5:=Tryz.underlying5
 a5:=Tryz.isAgg5
 z5:=Tryz.sizeOf5
 v5:=Tryz.zeroValue5
 infoByte:=by kernel_rfl
 cellsByte:=by kernel_rfl
 sizeByte:=by kernel_rfl
 neB5:=by decide}
open Go.RowKit in
def Tryz.Builder_Grow_fresh (B b n:Nat) (w:World) (hB:B<=b) (fz:w.heap[b]?=some (.cells #[.pointer none,.slice none 0 0] 94 (0,0))) (C1:B<=w.heap.size) (hn:n<=281474976710656):
  Calls Tryz.prog 163 #[.pointer (some ⟨b,0,none⟩),.int .i64 n] w λe w'=>e= .returned (.tuple #[])∧(Lib.BuilderAt 94 5 B b (.pointer (some ⟨b,0,none⟩)) [] w'∧Below B w w'):=Any.Builder_Grow_fresh Tryz.akk Tryz.akl B b n w hB fz C1 hn
def Tryz.aoW:Go.Shelf.Ren:=⟨fun|210=>190|206=>131|n=>n,fun|9=>9|4=>4|3=>3|n=>n,fun|n=>n⟩
open Go.RowKit in
def Tryz.Builder_Len_f (B b:Nat) (bs:List Value) (w:World) (h:Lib.IsBuilderF 94 5 B b bs w):
  Calls Tryz.prog 164 #[.pointer (some ⟨b,0,none⟩)] w λe w'=>e= .returned (.int .i64 bs.length)∧w'=w:=Any.Builder_Len_f Tryz.akh B b bs w h
open Go.RowKit in
def Tryz.Builder_String_f (B b:Nat) (l:List UInt8) (w:World) (h:Lib.IsBuilderF 94 5 B b (Lib.byteCells l) w) (h0:l≠[]):
  Calls Tryz.prog 74 #[.pointer (some ⟨b,0,none⟩)] w λe w'=>e= .returned (.string ⟨l.toArray⟩)∧(Lib.IsBuilderF 94 5 B b (Lib.byteCells l) w'∧Below B w w'):=Any.Builder_String_f Tryz.aki Tryz.akj B b l w h h0
def Tryz.akm:Go.Shelf.Ren:=⟨fun|172=>130|244=>166|245=>167|247=>194|279=>195|280=>196|281=>197|282=>198|287=>208|316=>209|171=>173|205=>210|321=>213|322=>214|243=>200|246=>211|283=>215|284=>216|285=>217|286=>218|129=>220|317=>219|318=>221|319=>222|320=>223|337=>224|338=>225|n=>n,fun|9=>9|3=>3|75=>116|76=>117|4=>4|5=>5|167=>202|37=>22|0=>0|85=>203|2=>2|168=>205|53=>199|175=>216|46=>170|210=>219|127=>120|145=>226|143=>224|21=>21|171=>227|173=>230|212=>233|51=>196|20=>20|213=>234|232=>237|233=>238|80=>61|n=>n,fun|15=>0|16=>1|17=>3|18=>4|19=>5|n=>n⟩
def Tryz.akn:Go.Proofs.Lays.n172 Tryz.prog Tryz.akm:={
 mixed:=by kernel_rfl
 f129:=Tryz.func220.trans (congrArg some (by kernel_rfl))
 f171:=Tryz.func173.trans (congrArg some (by kernel_rfl))
 f172:=Tryz.func130.trans (congrArg some (by kernel_rfl))
 f205:=Tryz.func210.trans (congrArg some (by kernel_rfl))
 f243:=Tryz.func200.trans (congrArg some (by kernel_rfl))
 f244:=Tryz.func166.trans (congrArg some (by kernel_rfl))
 f245:=Tryz.func167.trans (congrArg some (by kernel_rfl))
 f246:=Tryz.func211.trans (congrArg some (by kernel_rfl))
 f247:=Tryz.func194.trans (congrArg some (by kernel_rfl))
 f279:=Tryz.func195.trans (congrArg some (by kernel_rfl))
 f280:=Tryz.func196.trans (congrArg some (by kernel_rfl))
 f281:=Tryz.func197.trans (congrArg some (by kernel_rfl))
 f282:=Tryz.func198.trans (congrArg some (by kernel_rfl))
 f283:=Tryz.func215.trans (congrArg some (by kernel_rfl))
 f284:=Tryz.func216.trans (congrArg some (by kernel_rfl))
 f285:=Tryz.func217.trans (congrArg some (by kernel_rfl))
 f286:=Tryz.func218.trans (congrArg some (by kernel_rfl))
 f287:=Tryz.func208.trans (congrArg some (by kernel_rfl))
 f316:=Tryz.func209.trans (congrArg some (by kernel_rfl))
 f317:=Tryz.func219.trans (congrArg some (by kernel_rfl))
 f318:=Tryz.func221.trans (congrArg some (by kernel_rfl))
 f319:=Tryz.func222.trans (congrArg some (by kernel_rfl))
 f320:=Tryz.func223.trans (congrArg some (by kernel_rfl))
 f321:=Tryz.func213.trans (congrArg some (by kernel_rfl))
 f322:=Tryz.func214.trans (congrArg some (by kernel_rfl))
 f337:=Tryz.func224.trans (congrArg some (by kernel_rfl))
 f338:=Tryz.func225.trans (congrArg some (by kernel_rfl))
 t0:=Tryz.underlying0
 a0:=Tryz.isAgg0
 z0:=Tryz.sizeOf0
 v0:=Tryz.zeroValue0
 t2:=Tryz.underlying2
 a2:=Tryz.isAgg2
 z2:=Tryz.sizeOf2
 v2:=Tryz.zeroValue2
 t3:=Tryz.underlying3
 a3:=Tryz.isAgg3
 z3:=Tryz.sizeOf3
 v3:=Tryz.zeroValue3
 t4:=Tryz.underlying4
 a4:=Tryz.isAgg4
 z4:=Tryz.sizeOf4
 v4:=Tryz.zeroValue4
 t5:=Tryz.underlying5
 a5:=Tryz.isAgg5
 z5:=Tryz.sizeOf5
 v5:=Tryz.zeroValue5
 t9:=Tryz.underlying9
 a9:=Tryz.isAgg9
 z9:=Tryz.sizeOf9
 v9:=Tryz.zeroValue9
 t20:=Tryz.underlying20
 a20:=Tryz.isAgg20
 z20:=Tryz.sizeOf20
 v20:=Tryz.zeroValue20
 t21:=Tryz.underlying21
 a21:=Tryz.isAgg21
 z21:=Tryz.sizeOf21
 v21:=Tryz.zeroValue21
 t37:=Tryz.underlying22
 a37:=Tryz.isAgg22
 z37:=Tryz.sizeOf22
 v37:=Tryz.zeroValue22
 t46:=Tryz.underlying170
 a46:=Tryz.isAgg170
 z46:=Tryz.sizeOf170
 v46:=Tryz.zeroValue170
 t51:=Tryz.underlying196
 a51:=Tryz.isAgg196
 z51:=Tryz.sizeOf196
 v51:=Tryz.zeroValue196
 t53:=Tryz.underlying199
 a53:=Tryz.isAgg199
 z53:=Tryz.sizeOf199
 v53:=Tryz.zeroValue199
 t75:=Tryz.underlying116
 a75:=Tryz.isAgg116
 z75:=Tryz.sizeOf116
 v75:=Tryz.zeroValue116
 t76:=Tryz.underlying117
 a76:=Tryz.isAgg117
 z76:=Tryz.sizeOf117
 v76:=Tryz.zeroValue117
 t85:=Tryz.underlying203
 a85:=Tryz.isAgg203
 z85:=Tryz.sizeOf203
 v85:=Tryz.zeroValue203
 t127:=Tryz.underlying120
 a127:=Tryz.isAgg120
 z127:=Tryz.sizeOf120
 v127:=Tryz.zeroValue120
 t143:=Tryz.underlying224
 a143:=Tryz.isAgg224
 z143:=Tryz.sizeOf224
 v143:=Tryz.zeroValue224
 t145:=Tryz.underlying226
 a145:=Tryz.isAgg226
 z145:=Tryz.sizeOf226
 v145:=Tryz.zeroValue226
 t167:=Tryz.underlying202
 a167:=Tryz.isAgg202
 z167:=Tryz.sizeOf202
 v167:=Tryz.zeroValue202
 t168:=Tryz.underlying205
 a168:=Tryz.isAgg205
 z168:=Tryz.sizeOf205
 v168:=Tryz.zeroValue205
 t171:=Tryz.underlying227
 a171:=Tryz.isAgg227
 z171:=Tryz.sizeOf227
 v171:=Tryz.zeroValue227
 t173:=Tryz.underlying230
 a173:=Tryz.isAgg230
 z173:=Tryz.sizeOf230
 v173:=Tryz.zeroValue230
 t175:=Tryz.underlying216
 a175:=Tryz.isAgg216
 z175:=Tryz.sizeOf216
 v175:=Tryz.zeroValue216
 t210:=Tryz.underlying219
 a210:=Tryz.isAgg219
 z210:=Tryz.sizeOf219
 v210:=Tryz.zeroValue219
 t212:=Tryz.underlying233
 a212:=Tryz.isAgg233
 z212:=Tryz.sizeOf233
 v212:=Tryz.zeroValue233
 t213:=Tryz.underlying234
 a213:=Tryz.isAgg234
 z213:=Tryz.sizeOf234
 t232:=Tryz.underlying237
 a232:=Tryz.isAgg237
 z232:=Tryz.sizeOf237
 v232:=Tryz.zeroValue237
 t233:=Tryz.underlying238
 a233:=Tryz.isAgg238
 z233:=Tryz.sizeOf238
 v233:=Tryz.zeroValue238
 g15:=by kernel_rfl
 g16:=by kernel_rfl
 g17:=by kernel_rfl
 g18:=by kernel_rfl
 g19:=by kernel_rfl}
open Go.RowKit in
def Tryz.strconv_Atoi (s:ByteArray) (n:Int) (hl:s.size<=18) (h:Lib.atoi s.data.toList=some n) (w:World):
  Calls Tryz.prog 130 #[.string s] w λe w'=>e= .returned (.tuple #[.int .i64 n,.nilIface])∧∃t,w'=Lib.bytesWorld w 5 t:=Any.strconv_Atoi Tryz.akn s n hl h w
def Tryz.ako:Go.Shelf.Ren:=⟨fun|99=>98|206=>131|n=>n,fun|9=>9|4=>4|3=>3|n=>n,fun|n=>n⟩
def Tryz.akp:Go.Proofs.Lays.n99 Tryz.prog Tryz.ako:={
 mixed:=by kernel_rfl
 f99:=Tryz.func98.trans (congrArg some (by kernel_rfl))
 f206:=Tryz.func131.trans (congrArg some (by kernel_rfl))
 t3:=Tryz.underlying3
 a3:=Tryz.isAgg3
 z3:=Tryz.sizeOf3
 v3:=Tryz.zeroValue3
 t4:=Tryz.underlying4
 a4:=Tryz.isAgg4
 z4:=Tryz.sizeOf4
 v4:=Tryz.zeroValue4
 t9:=Tryz.underlying9
 a9:=Tryz.isAgg9
 z9:=Tryz.sizeOf9
 v9:=Tryz.zeroValue9}
open Go.RowKit Go.Lib in
def Tryz.strings_HasPrefix (s p:ByteArray) (w:World):
  Calls Tryz.prog 98 #[.string s,.string p] w λe w'=>e= .returned (.bool (Lib.hasPrefix s.data.toList p.data.toList))∧w'=w:=Any.strings_HasPrefix Tryz.akp s p w
def Tryz.akq:Go.Shelf.Ren:=⟨fun|101=>128|208=>165|206=>131|n=>n,fun|9=>9|4=>4|3=>3|n=>n,fun|n=>n⟩
def Tryz.akr:Go.Proofs.Lays.n101 Tryz.prog Tryz.akq:={
 mixed:=by kernel_rfl
 f101:=Tryz.func128.trans (congrArg some (by kernel_rfl))
 f206:=Tryz.func131.trans (congrArg some (by kernel_rfl))
 f208:=Tryz.func165.trans (congrArg some (by kernel_rfl))
 t3:=Tryz.underlying3
 a3:=Tryz.isAgg3
 z3:=Tryz.sizeOf3
 v3:=Tryz.zeroValue3
 t4:=Tryz.underlying4
 a4:=Tryz.isAgg4
 z4:=Tryz.sizeOf4
 v4:=Tryz.zeroValue4
 t9:=Tryz.underlying9
 a9:=Tryz.isAgg9
 z9:=Tryz.sizeOf9
 v9:=Tryz.zeroValue9}
open Go.RowKit Go.Lib in
def Tryz.strings_TrimPrefix (s p:ByteArray) (w:World):
  Calls Tryz.prog 128 #[.string s,.string p] w λe w'=>e= .returned (.string ⟨(Lib.trimPrefix s.data.toList p.data.toList).toArray⟩)∧w'=w:=Any.strings_TrimPrefix Tryz.akr s p w
def Tryz.aks:Go.Shelf.Ren:=⟨fun|212=>162|263=>191|264=>192|n=>n,fun|46=>170|51=>196|146=>197|53=>199|148=>200|n=>n,fun|n=>n⟩
def Tryz.akt:Go.Proofs.Lays.n212 Tryz.prog Tryz.aks:={
 mixed:=by kernel_rfl
 f212:=Tryz.func162.trans (congrArg some (by kernel_rfl))
 f263:=Tryz.func191.trans (congrArg some (by kernel_rfl))
 f264:=Tryz.func192.trans (congrArg some (by kernel_rfl))
 t46:=Tryz.underlying170
 a46:=Tryz.isAgg170
 z46:=Tryz.sizeOf170
 v46:=Tryz.zeroValue170
 t51:=Tryz.underlying196
 a51:=Tryz.isAgg196
 z51:=Tryz.sizeOf196
 v51:=Tryz.zeroValue196
 t53:=Tryz.underlying199
 a53:=Tryz.isAgg199
 z53:=Tryz.sizeOf199
 v53:=Tryz.zeroValue199
 t146:=Tryz.underlying197
 a146:=Tryz.isAgg197
 z146:=Tryz.sizeOf197
 v146:=Tryz.zeroValue197
 t148:=Tryz.underlying200
 a148:=Tryz.isAgg200
 z148:=Tryz.sizeOf200
 v148:=Tryz.zeroValue200}
open Go.RowKit Go.Lib in
def Tryz.bits_Mul (x y:Nat) (hx:x<18446744073709551616) (hy:y<18446744073709551616) (w:World):
  Calls Tryz.prog 162 #[.int .u64 x,.int .u64 y] w λe w'=>e= .returned (.tuple #[.int .u64 ((x*y/18446744073709551616:Nat):Int),.int .u64 ((x*y%18446744073709551616:Nat):Int)])∧w'=w:=Any.bits_Mul Tryz.akt x y hx hy w
def Tryz.Wo:Go.Shelf.Ren:=⟨fun|166=>101|240=>132|276=>168|n=>n,fun|70=>92|3=>3|0=>0|4=>4|9=>9|20=>20|72=>94|37=>22|164=>175|5=>5|75=>116|80=>61|n=>n,fun|n=>n⟩
def Tryz.aku:Go.Proofs.Lays.n166 Tryz.prog Tryz.Wo:={
 mixed:=by kernel_rfl
 f166:=Tryz.func101.trans (congrArg some (by kernel_rfl))
 f240:=Tryz.func132.trans (congrArg some (by kernel_rfl))
 f276:=Tryz.func168.trans (congrArg some (by kernel_rfl))
 t0:=Tryz.underlying0
 a0:=Tryz.isAgg0
 z0:=Tryz.sizeOf0
 v0:=Tryz.zeroValue0
 t3:=Tryz.underlying3
 a3:=Tryz.isAgg3
 z3:=Tryz.sizeOf3
 v3:=Tryz.zeroValue3
 t4:=Tryz.underlying4
 a4:=Tryz.isAgg4
 z4:=Tryz.sizeOf4
 v4:=Tryz.zeroValue4
 t9:=Tryz.underlying9
 a9:=Tryz.isAgg9
 z9:=Tryz.sizeOf9
 v9:=Tryz.zeroValue9
 t20:=Tryz.underlying20
 a20:=Tryz.isAgg20
 z20:=Tryz.sizeOf20
 v20:=Tryz.zeroValue20
 t37:=Tryz.underlying22
 a37:=Tryz.isAgg22
 z37:=Tryz.sizeOf22
 v37:=Tryz.zeroValue22
 t70:=Tryz.underlying92
 a70:=Tryz.isAgg92
 z70:=Tryz.sizeOf92
 v70:=Tryz.zeroValue92
 t72:=Tryz.underlying94
 a72:=Tryz.isAgg94
 z72:=Tryz.sizeOf94
 v72:=Tryz.zeroValue94
 t164:=Tryz.underlying175
 a164:=Tryz.isAgg175
 z164:=Tryz.sizeOf175
 v164:=Tryz.zeroValue175
 t75:=Tryz.underlying116
 a75:=Tryz.isAgg116
 z75:=Tryz.sizeOf116
 v75:=Tryz.zeroValue116}
def Tryz.akv:Builder.Extra Tryz.prog Tryz.Wo:={
 sizeBuilder:=by kernel_rfl
 liesBuilder:=by kernel_rfl
 t5:=Tryz.underlying5
 a5:=Tryz.isAgg5
 z5:=Tryz.sizeOf5
 v5:=Tryz.zeroValue5
 infoByte:=by kernel_rfl
 cellsByte:=by kernel_rfl
 sizeByte:=by kernel_rfl
 neB5:=by decide}
open Go.RowKit in
def Tryz.Builder_WriteString_f (B b:Nat) (bs:List Value) (s:ByteArray) (w:World) (h:Lib.IsBuilderF 94 5 B b bs w) (hlen:bs.length+s.size<=140737488355328) (C1:B<=w.heap.size):
  Calls Tryz.prog 101 #[.pointer (some ⟨b,0,none⟩),.string s] w λe w'=>e= .returned (.tuple #[.int .i64 s.size,.nilIface])∧(Lib.BuilderAtF 94 5 B b (.pointer (some ⟨b,0,none⟩)) (bs++Lib.strCells s) w'∧Below B w w'):=Any.Builder_WriteString_f Tryz.aku Tryz.akv B b bs s w h hlen C1
end Go.Proofs
namespace Go.Proofs.YtigijcjccmdmhaaGreatDoor
open Go
def akw (s p:aj) (w:World):ck Tryz.prog 98 [str s,str p] w λv w'=>v= .bool (Lib.hasPrefix s p)∧w=w':=
 ⟨tm.mk' Tryz.func98 rfl ZR,Calls.mono (Tryz.strings_HasPrefix ⟨s.toArray⟩ ⟨p.toArray⟩ w) λe w' ⟨he,hw⟩=>⟨_,he,sm,hw.symm⟩⟩
def akx (s p:aj) (w:World):ck Tryz.prog 128 [str s,str p] w λv w'=>v=str (Lib.trimPrefix s p)∧w=w':=
 ⟨tm.mk' Tryz.func128 rfl X8,Calls.mono (Tryz.strings_TrimPrefix ⟨s.toArray⟩ ⟨p.toArray⟩ w) λe w' ⟨he,hw⟩=>⟨_,he,by simp[str],hw.symm⟩⟩
def aky (w:World) (o:Obj) (a:Addr) (n:Nat) (ha:a.block=w.heap.size):ak [] w ((w.alloc o).freeze a n):=by
 unfold World.freeze
 split
 ·exact ak.alloc [] w o
 ·refine⟨rfl,rfl,rfl,?_,λk hk _=>?_⟩
  ·show w.heap.size<=Array.size (Array.modify (w.alloc o).heap _ _)
   rw[Array.size_modify];exact(ak.alloc [] w o).size
  ·show(Array.modify (w.alloc o).heap _ _)[k]?=_
   rw[Array.getElem?_modify,iN (by rw[ha];omega)];exact(ak.alloc [] w o).block k hk sm
def akz (w:World) (e:TypeId) (s:ByteArray):ak [] w (Lib.bytesWorld w e s):=
 (ak.drew [] w).trans (aky _ _ _ _ rfl)
def akA (s:aj) {z:Int} (h:numeral s=some z) (w:World):ck Tryz.prog 130 [str s] w λv w'=>v= .tuple #[.int .i64 z,.nilIface]∧ak [] w w':=
 ⟨tm.mk' Tryz.func130 rfl Ya,Calls.mono (Tryz.strconv_Atoi ⟨s.toArray⟩ z (by have:=QM h;simp[ByteArray.size];omega) (by simpa using aaJ h) w) λe w' ⟨he,t,hw⟩=>⟨_,he,rfl,by rw[hw];exact akz _ _ _⟩⟩
def J9 (a b c:Int) (w:World):ck Tryz.prog 52 [.int .i64 a,.int .i64 b,.int .i64 c] w λv w'=>v= .bool (decide (b<=a)&&decide (a<=c))∧w=w':=by
 refine cX [.tmp 6] 15 Tryz.func52 rfl Zg rfl rfl ?_
 refine zr<|zA<|ag<|zr<|zm<|zm<|qQ rfl rfl rfl rfl rfl<|zm ?_
 apply fZ 4 10 14 [10,11,12,13,14] (λw'=>w=w') rfl
 intro h1
 replace h1:=bw h1
 refine zm<|zm<|qQ rfl rfl rfl rfl rfl<|zp rfl<|ag ?_
 exact mg rfl rfl
 intro h1
 replace h1:=bw h1
 refine zs<|zs<|zs<|zp rfl<|ag ?_
 exact mg rfl rfl
 rintro xx _ rfl
 refine zA<|ag<|aV ?_
 exact⟨_,rfl,rfl,rfl⟩
def akB (c:UInt8) (w:World):ck Tryz.prog 99 [.int .u8 c.toNat] w λv w'=>v= .bool (fC c)∧w=w':=by
 refine cX [.tmp 2] 33 Tryz.func99 rfl ZS rfl rfl ?_
 refine zr<|zA<|ag<|zr<|zm<|l0 rfl rfl rfl rfl rfl<|zm ?_
 apply fZ 3 5 8 [5,6,7,8] (λw'=>w=w') rfl
 intro h1
 replace h1:=bw h1
 refine zm<|qQ rfl rfl rfl rfl rfl<|zp rfl<|ag ?_
 exact mg rfl rfl
 intro h1
 replace h1:=bw h1
 refine zs<|zs<|zp rfl<|ag ?_
 exact mg rfl rfl
 rintro xx _ rfl
 refine zm ?_
 apply fB 7 9 16 [9,10,11,12,13,14,15,16] (λw'=>w=w') rfl
 intro h2
 replace h2:=bw h2
 refine zs<|zs<|zs<|zs<|zs<|zs<|zp rfl<|ag ?_
 exact mg rfl rfl
 intro h2
 replace h2:=bw h2
 refine zm<|l0 rfl rfl rfl rfl rfl<|zm ?_
 apply fZ 3 12 15 [12,13,14,15] (λw'=>w=w') rfl
 intro h3
 replace h3:=bw h3
 refine zm<|qQ rfl rfl rfl rfl rfl<|zp rfl<|ag ?_
 exact mg rfl rfl
 intro h3
 replace h3:=bw h3
 refine zs<|zs<|zp rfl<|ag ?_
 exact mg rfl rfl
 rintro xx _ rfl
 refine zp rfl<|ag ?_
 exact mg rfl rfl
 rintro xx _ rfl
 refine zm ?_
 apply fB 3 17 20 [17,18,19,20] (λw'=>w=w') rfl
 intro h4
 replace h4:=bw h4
 refine zs<|zs<|zp rfl<|ag ?_
 exact mg rfl rfl
 intro h4
 replace h4:=bw h4
 refine zm<|dQ rfl rfl rfl<|zp rfl<|ag ?_
 exact mg rfl rfl
 rintro xx _ rfl
 refine zm ?_
 apply fB 3 21 24 [21,22,23,24] (λw'=>w=w') rfl
 intro h5
 replace h5:=bw h5
 refine zs<|zs<|zp rfl<|ag ?_
 exact mg rfl rfl
 intro h5
 replace h5:=bw h5
 refine zm<|dQ rfl rfl rfl<|zp rfl<|ag ?_
 exact mg rfl rfl
 rintro xx _ rfl
 refine zm ?_
 apply fB 3 25 28 [25,26,27,28] (λw'=>w=w') rfl
 intro h6
 replace h6:=bw h6
 refine zs<|zs<|zp rfl<|ag ?_
 exact mg rfl rfl
 intro h6
 replace h6:=bw h6
 refine zm<|dQ rfl rfl rfl<|zp rfl<|ag ?_
 exact mg rfl rfl
 rintro xx _ rfl
 refine zm ?_
 apply fB 3 29 32 [29,30,31,32] (λw'=>w=w') rfl
 intro h7
 replace h7:=bw h7
 refine zs<|zs<|zp rfl<|ag ?_
 exact mg rfl rfl
 intro h7
 replace h7:=bw h7
 refine zm<|dQ rfl rfl rfl<|zp rfl<|ag ?_
 exact mg rfl rfl
 rintro xx _ rfl
 refine zA<|ag<|aV ?_
 exact⟨_,rfl,cA Value.bool (PB c),rfl⟩
def akC (s:aj) (hs:s.length<9223372036854775807) (w:World):ck Tryz.prog 129 [str s] w λv w'=>v= .bool (s.all il)∧w=w':=by
 refine cX [.tmp 2] 20 Tryz.func129 rfl X9 rfl rfl ?_
 refine zr<|zA<|ag<|aQ<|zr<|zm<|kO fh rfl rfl rfl<|zm<|ag<|cS ?_
 refine fY (λk:Nat=>[(0,str s),(5,.int .i64 (s.length:Int)),(6,.int .i64 (k:Int))]) (λk w'=>w'=w∧k<=s.length∧(s.take k).all il=true) (λk=>s.length-k) (0) (⟨rfl,rfl,rfl⟩) (⟨rfl,om,sm⟩) ?_
 intro gg w1 e1 hI
 obtain⟨rfl,hk,dA⟩:=hI
 refine zr<|fA rfl rfl rfl<|ag<|aQ<|zc rfl (λh1=>?_) (λh1=>?_)
 have eW:gg<s.length:=by omega
 refine bz<|aQ<|cS<|zr<|zm<|zA<|ag<|zr<|zm<|zm<|kE fh rfl rfl rfl rfl (jK eW)<|fA rfl rfl rfl<|zm ?_
 apply fB 5 13 18 [13,14,15,16,17,18] (λw'=>w1=w') rfl
 intro h2
 replace h2:=bw h2
 refine zs<|zs<|zs<|zs<|zp rfl<|ag ?_
 exact mg rfl rfl
 intro h2
 replace h2:=bw h2
 refine zm<|zm<|kE fh rfl rfl rfl rfl (jK eW)<|jz rfl rfl rfl rfl rfl<|zp rfl<|ag ?_
 exact mg rfl rfl
 rintro xx _ rfl
 refine ag<|zc rfl (λh3=>?_) (λh3=>?_)
 have hq:s.all il=false:=aaM eW (P9 h3)
 refine zr<|zA<|ag<|aV ?_
 exact⟨_,rfl,by rw[hq];rfl,rfl⟩
 have hc:=Qa h3
 refine bz<|df<|eI rfl rfl rfl (wrap_i64 _ om om)<|zm<|ag ?_
 exact⟨gg+1,⟨rfl,rfl,rfl⟩,⟨rfl,om,by rw[KU eW,List.all_append,dA];simp only[List.all_cons,hc.2.2];rfl⟩,om⟩
 have hq:s.all il=true:=by rw[List.take_of_length_le om] at dA;exact dA
 refine gD<|gF rfl<|zr<|zA<|ag<|aV ?_
 exact⟨_,rfl,by rw[hq];rfl,rfl⟩
def Pf (s:aj) (hs:s.length<9223372036854775807) (w:World):ck Tryz.prog 94 [str s] w λv w'=>v= .bool (numeral s).isSome∧w=w':=by
 have hl:(eA s).length<=s.length:=by unfold eA;split<;>simp
 refine cX [.tmp 2] 22 Tryz.func94 rfl ZO rfl rfl ?_
 refine zr<|zA<|ag<|zr<|zm<|aC (akx _ _ _) ?_
 rintro _ _ ⟨rfl,rfl⟩
 refine zA<|ag<|zr<|zm<|cY rfl rfl<|zm ?_
 rw[aaH]
 apply fB 13 8 21 [8,9,10,11,12,13,14,15,16,17,18,19,20,21] (λw'=>w=w') rfl
 intro h1
 replace h1:=bw h1
 refine zs<|zs<|zs<|zs<|zs<|zs<|zs<|zs<|zs<|zs<|zs<|zs<|zp rfl<|ag ?_
 exact mg rfl rfl
 intro h1
 replace h1:=bw h1
 refine zm<|kO fh rfl rfl rfl<|aC (J9 _ _ _ _) ?_
 rintro _ _ ⟨rfl,rfl⟩
 refine zm ?_
 apply fZ 3 12 15 [12,13,14,15] (λw'=>w=w') rfl
 intro h2
 replace h2:=bw h2
 refine zm<|aC (akC _ om _) ?_
 rintro _ _ ⟨rfl,rfl⟩
 refine zp rfl<|ag ?_
 exact mg rfl rfl
 intro h2
 replace h2:=bw h2
 refine zs<|zs<|zp rfl<|ag ?_
 exact mg rfl rfl
 rintro xx _ rfl
 refine zm ?_
 apply fZ 4 16 20 [16,17,18,19,20] (λw'=>w=w') rfl
 intro h3
 replace h3:=bw h3
 simp at h3
 refine zm<|kE (i:=0) fh rfl rfl rfl rfl (jK om)<|uA rfl rfl rfl rfl rfl<|zp rfl<|ag ?_
 exact mg rfl rfl
 intro h3
 replace h3:=bw h3
 refine zs<|zs<|zs<|zp rfl<|ag ?_
 exact mg rfl rfl
 rintro xx _ rfl
 refine zp rfl<|ag ?_
 exact mg rfl rfl
 rintro xx _ rfl
 refine zA<|ag<|aV ?_
 exact⟨_,rfl,show Value.bool _=Value.bool _ from cA _ (aaN s),rfl⟩
def Wp (s:aj) {z:Int} (h:numeral s=some z) (w:World):ck Tryz.prog 95 [str s] w λv w'=>v= .int .i64 z∧ak [] w w':=by
 have hK:=ak.refl [] w
 refine cX [.tmp 2] 11 Tryz.func95 rfl ZP rfl rfl ?_
 refine zr<|zA<|ag<|zr<|zm<|aC (akA s h w) ?_
 rintro v1 w1 ⟨fO,aK⟩
 have dS:=aK.size
 have hK:=hK.ext aK
 obtain rfl:=fO
 refine zm<|zx (i:=0) rfl rfl<|zx (i:=1) rfl rfl<|zA<|zA<|ag<|zr<|zm<|zA<|ag<|aV ?_
 exact⟨_,rfl,rfl,hK⟩
def akD (s:aj) (hs:s.length<9223372036854775807) (w:World):ck Tryz.prog 93 [str s] w λv w'=>v= .bool (uL s)∧ak [] w w':=by
 have hK:=ak.refl [] w
 refine cX [.tmp 2] 10 Tryz.func93 rfl ZN rfl rfl ?_
 refine zr<|zA<|ag<|zr<|zm<|aC (Pf s hs _) ?_
 rintro _ _ ⟨rfl,rfl⟩
 refine zm ?_
 apply fZ 4 5 9 [5,6,7,8,9] (ak [] w) rfl
 intro h1
 replace h1:=bw h1
 have vg:=ak.refl [] w
 obtain⟨z,hz⟩:=Option.isSome_iff_exists.1 h1
 have Gq:z=(numeral s).getD 0:=by rw[hz];rfl
 refine zm<|aC (Wp s hz w) ?_
 rintro v1 w1 ⟨fO,aK⟩
 have dS:=aK.size
 have vg:=vg.ext aK
 obtain rfl:=fO
 rw[Gq]
 refine aC (J9 _ _ _ _) ?_
 rintro _ _ ⟨rfl,rfl⟩
 refine zp rfl<|ag ?_
 exact mg rfl vg
 intro h1
 replace h1:=bw h1
 have vg:=ak.refl [] w
 refine zs<|zs<|zs<|zp rfl<|ag ?_
 exact mg rfl vg
 intro xx w1 aK
 have hK:=hK.ext aK
 refine zA<|ag<|aV ?_
 exact⟨_,rfl,show Value.bool _=Value.bool _ from cA _ (aaL s),hK⟩
def Wq (s:aj) (hs:s.length<9223372036854775807) (w:World):ck Tryz.prog 59 [str s] w λr w'=>r= .bool (nR s)∧w=w':=by
 refine cX [.tmp 2] 35 Tryz.func59 rfl Zn rfl rfl ?_
 refine zr<|zA<|ag<|aQ<|zr<|zm<|kO fh rfl rfl rfl<|zm<|ag<|cS ?_
 refine fY (λk:Nat=>[(0,str s),(6,.int .i64 (s.length:Int)),(7,.int .i64 (k:Int))]) (λk w'=>w'=w∧k<=s.length∧∀j,j<k->By s j=true) (λk=>s.length-k) (0) (⟨rfl,rfl,rfl⟩) (⟨rfl,om,by intro j hj;omega⟩) ?_
 intro gg w1 e1 hI
 obtain⟨rfl,hk,dA⟩:=hI
 refine zr<|fA rfl rfl rfl<|ag<|aQ<|zc rfl (λh1=>?_) (λh1=>?_)
 refine bz<|aQ<|cS<|zr<|zm<|zA<|ag<|zr<|zm<|zm<|kE fh rfl rfl rfl rfl (jK om)<|zA<|ag<|zr<|zm<|l0 rfl rfl rfl rfl rfl<|zm ?_
 apply fZ 3 15 18 [15,16,17,18] (λw'=>w1=w') rfl
 intro h2
 replace h2:=bw h2
 refine zm<|qQ rfl rfl rfl rfl rfl<|zp rfl<|ag ?_
 exact mg rfl rfl
 intro h2
 replace h2:=bw h2
 refine zs<|zs<|zp rfl<|ag ?_
 exact mg rfl rfl
 rintro xx _ rfl
 refine zm ?_
 apply fB 11 19 30 [19,20,21,22,23,24,25,26,27,28,29,30] (λw'=>w1=w') rfl
 intro h3
 replace h3:=bw h3
 refine zs<|zs<|zs<|zs<|zs<|zs<|zs<|zs<|zs<|zs<|zp rfl<|ag ?_
 exact mg rfl rfl
 intro h3
 replace h3:=bw h3
 refine zm<|jz rfl rfl rfl rfl rfl<|zm ?_
 apply fZ 3 22 25 [22,23,24,25] (λw'=>w1=w') rfl
 intro h4
 replace h4:=bw h4
 refine zm<|l0 rfl rfl rfl rfl rfl<|zp rfl<|ag ?_
 exact mg rfl rfl
 intro h4
 replace h4:=bw h4
 refine zs<|zs<|zp rfl<|ag ?_
 exact mg rfl rfl
 rintro xx _ rfl
 refine zm ?_
 apply fZ 3 26 29 [26,27,28,29] (λw'=>w1=w') rfl
 intro h5
 replace h5:=bw h5
 refine zm<|qQ rfl rfl rfl rfl rfl<|zp rfl<|ag ?_
 exact mg rfl rfl
 intro h5
 replace h5:=bw h5
 refine zs<|zs<|zp rfl<|ag ?_
 exact mg rfl rfl
 rintro xx _ rfl
 refine zp rfl<|ag ?_
 exact mg rfl rfl
 rintro xx _ rfl
 refine eM rfl<|ag<|zc rfl (λh6=>?_) (λh6=>?_)
 rw[HL] at h6
 refine zr<|zA<|ag<|aV ?_
 exact⟨_,rfl,by rw[P5 om h6];rfl,rfl⟩
 rw[HL] at h6
 refine bz<|df<|eI rfl rfl rfl (wrap_i64 _ om om)<|zm<|ag ?_
 exact⟨gg+1,⟨rfl,rfl,rfl⟩,⟨rfl,om,P7 dA h6⟩,om⟩
 refine gD<|gF rfl<|zr<|zm<|jI rfl rfl rfl rfl<|zA<|ag<|aV ?_
 exact⟨_,rfl,by rw[P6 (λj hj=>dA j om)];rfl,rfl⟩
def Wr (t:aA) (v:Value) (L:List Nat) (w:World) (hv:bT L w v t):ck Tryz.prog 65 [v] w λr w'=>r= .bool (decide (t.au.length=0))∧ak [] w w':=by
 obtain⟨a,n,c,rfl,hn,bc⟩:=dO hv
 have hK:=ak.refl [] w
 refine cX [.tmp 2] 7 Tryz.func65 rfl Zs rfl rfl ?_
 refine zr<|fG rfl ?_
 intro w1 aK aT eh
 have hK:=hK.ext aK
 refine zA<|ag<|zr<|zf uJ rfl<|zl sw rfl (aT.at rfl)<|dZ nP rfl<|dQ rfl rfl rfl<|zA<|ag<|aV ?_
 exact⟨_,rfl,show Value.bool _=Value.bool _ from cA _ (decide_eq_decide.2 om),hK⟩
def Hm (t:aA) (dz:WF t) (v:Value) (L:List Nat) (w:World) (hv:bT L w v t):ck Tryz.prog 35 [v] w λr w'=>r=str (cJ t)∧ak [] w w':=by
 have dK:=hv
 obtain⟨a,n,c,rfl,hn,bc⟩:=dO hv
 have hK:=ak.refl [] w
 refine cX [.tmp 2] 10 Tryz.func35 rfl Y9 rfl rfl ?_
 refine zr<|fG rfl ?_
 intro w1 aK aT eh
 have hK:=hK.ext aK;have bc:=bc.ext aK;have dK:=dK.ext aK
 refine zA<|ag<|aQ<|zr<|zL ka fg rfl aT.all rfl<|aC (Wr t _ L w1 dK) ?_
 rintro v2 w2 ⟨dC,aq⟩
 have eH:=aq.size
 have hK:=hK.ext aq;have bc:=bc.ext aq;have aT:=aT.ext aq
 obtain rfl:=dC
 refine ag<|zc rfl (λh1=>?_) (λh1=>?_)
 have hh:cJ t=[]:=Dj (.inr (List.length_eq_zero_iff.1 h1))
 refine zr<|zA<|ag<|aV ?_
 exact⟨_,rfl,by rw[hh];rfl,hK⟩
 have kS:0<t.au.length:=by omega
 have ha:t.az=[]:=Classical.byContradiction (λh=>by have:=dz.leaf h;rw[this] at kS;exact absurd kS de)
 have mX:=iK kS
 have hh:cJ t=(nth t.au 0).az:=Fa ha mX
 obtain⟨b,off,pa,pn,pc,rfl,eC,fR,iz⟩:=j9 bc mX
 refine bz<|zr<|zf uJ rfl<|zl sw rfl (aT.at rfl)<|zi (i:=0) nP fg rfl rfl (by rw[hn];exact kS)<|zf zB rfl<|zl cm rfl (eC 0 _ rfl)<|zA<|ag<|aV ?_
 exact⟨_,rfl,by rw[hh];rfl,hK⟩
def akE (t:aA) (dz:WF t) (h:aj) (k:Int) (v:Value) (L:List Nat) (w:World) (hv:bT L w v t):
  ck Tryz.prog 36 [v,str h,.int .i64 k] w λr w'=>r= .bool (decide ((t.au.length:Int)=k)&&decide (cJ t=h))∧ak [] w w':=by
 have dK:=hv
 obtain⟨a,n,c,rfl,hn,bc⟩:=dO hv
 have hK:=ak.refl [] w
 subst hn
 refine cX [.tmp 6] 18 Tryz.func36 rfl Za rfl rfl ?_
 refine zr<|fG rfl ?_
 intro w1 aK bR eh
 have hK:=hK.ext aK;have dK:=dK.ext aK
 refine zA<|ag<|zr<|zf uJ rfl<|zl sw rfl (bR.at rfl)<|dZ nP rfl<|zm<|dQ rfl rfl rfl<|zm ?_
 apply fZ 5 12 17 [12,13,14,15,16,17] (ak [] w1) rfl
 intro h1
 replace h1:=bw h1
 have Hn:=ak.refl [] w1
 refine zL ka fg rfl bR.all rfl<|aC (Hm t dz _ L w1 dK) ?_
 rintro v2 w2 ⟨dC,aq⟩
 have eH:=aq.size
 have Hn:=Hn.ext aq
 obtain rfl:=dC
 refine zm<|cY rfl rfl<|zp rfl<|ag ?_
 exact mg rfl Hn
 intro h1
 replace h1:=bw h1
 have Hn:=ak.refl [] w1
 refine zs<|zs<|zs<|zs<|zp rfl<|ag ?_
 exact mg rfl Hn
 intro xx w2 aq
 have hK:=hK.ext aq
 refine zA<|ag<|aV ?_
 exact⟨_,rfl,rfl,hK⟩
def akF (ts:List aA) (hlen:ts.length<1000000000) (g:aA->Bool) (f:FuncId) (caps:List Value) (v:Value) (L:List Nat) (w:World) (hv:fI L w v ts)
  (hf:∀i,i<ts.length->∀(u:Value) (w':World),ak [] w w'->bT L w' u (nth ts i)->ck Tryz.prog f (u::caps) w' λr w''=>r= .bool (g (nth ts i))∧ak [] w' w''):
  ck Tryz.prog 161 [v,.func (.func f) #[] caps.toArray] w λr w'=>r= .int .i64 (BG ts g)∧ak [] w w':=by
 obtain⟨a,c,rfl,hlc⟩:=rN hv
 have oX:(dH ts).length=ts.length:=iI ts
 have hK:=ak.refl [] w
 refine cX [.tmp 4] 19 Tryz.func161 rfl Yy rfl rfl ?_
 refine zr<|zA<|ag<|aQ<|zr<|zm<|dZ nP rfl<|zm<|ag<|cS ?_
 refine fY (λk:Nat=>[(0,.slice a (dH ts).length c),(1,.func (.func f) #[] caps.toArray),(7,.int .i64 ((dH ts).length:Int)),(8,.int .i64 (k:Int))]) (λk w'=>ak [] w w'∧k<=ts.length∧∀i,i<k->g (nth ts i)=false) (λk=>ts.length-k) (0) (⟨rfl,rfl,rfl,rfl⟩) (⟨hK,om,by intro i hi;omega⟩) ?_
 intro gg w1 e1 hI
 obtain⟨hK,hk,dA⟩:=hI
 have hv:=hv.ext hK
 refine zr<|fA rfl rfl rfl<|ag<|aQ<|zc rfl (λh1=>?_) (λh1=>?_)
 have hp:=iK (ps:=ts) (i:=gg) om
 obtain⟨b,off,pa,pn,pc,rfl,hc,fR,iz⟩:=j9 hv hp
 refine bz<|aQ<|cS<|zr<|zm<|zA<|ag<|zr<|zm<|zm<|zm<|zi nP fg rfl rfl om<|zL ka fg rfl hc rfl<|PM rfl rfl rfl (hf gg om _ w1 hK (mT iz)) ?_
 rintro v2 w2 ⟨dC,aq⟩
 have eH:=aq.size
 have hK:=hK.ext aq
 obtain rfl:=dC
 refine ag<|zc rfl (λh2=>?_) (λh2=>?_)
 have hq:=aaO om dA h2
 refine zr<|zm<|zA<|ag<|aV ?_
 exact⟨_,rfl,by rw[hq];rfl,hK⟩
 refine bz<|df<|eI rfl rfl rfl (wrap_i64 _ om om)<|zm<|ag ?_
 exact⟨gg+1,⟨rfl,rfl,rfl,rfl⟩,⟨hK,om,by intro i hi;rcases Nat.lt_or_ge i gg with h|h;exact dA i h;rw[show i=gg by omega];exact h2⟩,om⟩
 have hq:=aaP (λi hi=>dA i om)
 refine gD<|gF rfl<|zr<|zA<|ag<|aV ?_
 exact⟨_,rfl,by rw[hq];rfl,hK⟩
def akG (ts:List aA) (hlen:ts.length<1000000000) (g:aA->Bool) (f:FuncId) (caps:List Value) (v:Value) (L:List Nat) (w:World) (hv:fI L w v ts)
  (hf:∀i,i<ts.length->∀(u:Value) (w':World),ak [] w w'->bT L w' u (nth ts i)->ck Tryz.prog f (u::caps) w' λr w''=>r= .bool (g (nth ts i))∧ak [] w' w''):
  ck Tryz.prog 125 [v,.func (.func f) #[] caps.toArray] w λr w'=>r= .bool (ts.any g)∧ak [] w w':=by
 have hK:=ak.refl [] w
 refine cX [.tmp 4] 9 Tryz.func125 rfl X5 rfl rfl ?_
 refine zr<|zA<|ag<|zr<|zm<|zm<|aC (akF ts hlen g f caps _ L w hv hf) ?_
 rintro v1 w1 ⟨fO,aK⟩
 have dS:=aK.size
 have hK:=hK.ext aK
 obtain rfl:=fO
 refine l0 rfl rfl rfl rfl rfl<|zA<|ag<|aV ?_
 exact⟨_,rfl,cA Value.bool (aaQ ts g),hK⟩
def Ws (m:Nat):Prop:=∀(t:aA),t.size<=m->t.size<=100000->WF t->∀(hidden:Bool) (v:Value) (L:List Nat) (w:World),bT L w v t->
  ck Tryz.prog 91 [v,.bool hidden,.bool false] w λr w'=>r= .bool (fD hidden t)∧ak [] w w'
def akH {m:Nat} (ih:Ws m) (t:aA) (h:t.size<=m) (h2:t.size<=100000) (dz:WF t) (hidden:Bool) (b1 b2:Nat) (v:Value) (L:List Nat) (w:World) (hv:bT L w v t)
  (aT:aY w b1 #[.bool hidden] 4) (aZ:aY w b2 #[.bool false] 4):
  ck Tryz.prog 126 [v,.pointer (some ⟨b1,0,none⟩),.pointer (some ⟨b2,0,none⟩)] w λr w'=>r= .bool (!fD hidden t)∧ak [] w w':=by
 have dK:=hv
 obtain⟨a,n,c,rfl,hn,bc⟩:=dO hv
 have hK:=ak.refl [] w
 refine cX [.tmp 4] 10 Tryz.func126 rfl X6 rfl rfl ?_
 refine zr<|fG rfl ?_
 intro w1 aK bR eh
 have hK:=hK.ext aK;have dK:=dK.ext aK;have aT:=aT.ext aK;have aZ:=aZ.ext aK
 refine zA<|ag<|zr<|zL ka fg rfl bR.all rfl<|zl Dg rfl (aT.at rfl)<|zl Dg rfl (aZ.at rfl)<|aC (ih t h h2 dz hidden _ L w1 dK) ?_
 rintro v2 w2 ⟨dC,aq⟩
 have eH:=aq.size
 have hK:=hK.ext aq
 obtain rfl:=dC
 refine eM rfl<|zA<|ag<|aV ?_
 exact⟨_,rfl,rfl,hK⟩
def akI {L:List Nat} {w:World} {b off n c:Nat} {ts:List aA} (h:fI L w (.slice (some ⟨b,off,none⟩) n c) ts) (k:Nat) (p:Prop) (hp:p->k<ts.length):
  ∃qa qn qc,HQ p w b (off+k*2) [str (nth ts k).az,.slice qa qn qc]∧HR p L w (.slice qa qn qc) (nth ts k).au:=by
 by_cases h2:p
 ·obtain⟨b',off',qa,qn,qc,gz,hq,hqn,hqp⟩:=j9 h (iK (hp h2))
  cases gz
  exact⟨qa,qn,qc,λ_=>hq,λ_=>hqp⟩
 ·exact⟨none,0,0,λhh=>absurd hh h2,λhh=>absurd hh h2⟩
def Wt (ts:List aA) (k i:Nat):nth (ts.drop k) i=nth ts (i+k):=by
 simp[nth,List.getD,List.getElem?_drop,Nat.add_comm]
def akK (ts:List aA) (f:aA->Bool):(!ts.any λu=>!f u)=ts.all f:=by
 induction ts with
 |nil=>rfl
 |cons t r ih=>simp only[List.any_cons,List.all_cons,Bool.not_or,Bool.not_not,ih]
def Pg:∀m,Ws m:=by
 intro m
 induction m with
 |zero=>intro t h;have:=xI t;omega
 |succ m ih=>
  intro t hm rR dz hidden v L w hv
  have dK:=hv
  obtain⟨a,n,c,rfl,hn,bc⟩:=dO hv
  have hK:=ak.refl [] w
  have pK:=xI t
  refine cX [.tmp 6] 53 Tryz.func91 rfl ZL rfl rfl ?_
  refine zr<|fG rfl ?_
  intro w1 aK bR eh
  have hK:=hK.ext aK;have bc:=bc.ext aK;have dK:=dK.ext aK
  refine Kh rfl rfl rfl ?_
  intro w2 aq aI eO
  have hK:=hK.ext aq;have bc:=bc.ext aq;have dK:=dK.ext aq;have bR:=bR.ext aq
  refine Kh rfl rfl rfl ?_
  intro w3 aJ bP iJ
  have hK:=hK.ext aJ;have bc:=bc.ext aJ;have dK:=dK.ext aJ;have bR:=bR.ext aJ;have aI:=aI.ext aJ
  refine zA<|ag<|aQ<|zr<|zL ka fg rfl bR.all rfl<|aC (Wr t _ L w3 dK) ?_
  rintro v4 w4 ⟨eJ,aF⟩
  have gK:=aF.size
  have hK:=hK.ext aF;have bc:=bc.ext aF;have dK:=dK.ext aF;have bR:=bR.ext aF;have aI:=aI.ext aF;have bP:=bP.ext aF
  obtain rfl:=eJ
  refine ag<|zc rfl (λh1=>?_) (λh1=>?_)
  have ha:t.az≠[]:=λh=>by have:=dz.pos h;omega
  refine zr<|zf zB rfl<|zl cm rfl (bR.at rfl)<|cY rfl rfl<|zm ?_
  apply fB 7 12 19 [12,13,14,15,16,17,18,19] (λw'=>w4=w') rfl
  intro h2
  replace h2:=bw h2
  refine zs<|zs<|zs<|zs<|zs<|zs<|zp rfl<|ag ?_
  exact mg rfl rfl
  intro h2
  replace h2:=bw h2
  refine zl Dg rfl (aI.at rfl)<|zm ?_
  apply fZ 4 14 18 [14,15,16,17,18] (λw'=>w4=w') rfl
  intro h3
  replace h3:=bw h3
  refine zf zB rfl<|zl cm rfl (bR.at rfl)<|cY rfl rfl<|zp rfl<|ag ?_
  exact mg rfl rfl
  intro h3
  replace h3:=bw h3
  refine zs<|zs<|zs<|zp rfl<|ag ?_
  exact mg rfl rfl
  rintro xx _ rfl
  refine zp rfl<|ag ?_
  exact mg rfl rfl
  rintro xx _ rfl
  refine zm ?_
  apply fB 7 20 27 [20,21,22,23,24,25,26,27] (λw'=>w4=w') rfl
  intro h4
  replace h4:=bw h4
  refine zs<|zs<|zs<|zs<|zs<|zs<|zp rfl<|ag ?_
  exact mg rfl rfl
  intro h4
  replace h4:=bw h4
  refine zl Dg rfl (bP.at rfl)<|zm<|EL (t:=22) (b:=false) rfl<|zs<|zs<|zs<|zp rfl<|zp rfl<|ag ?_
  exact mg rfl rfl
  rintro xx _ rfl
  refine zA<|ag<|aV ?_
  exact⟨_,rfl,show Value.bool _=Value.bool _ from cA _ (by rw[Qg ha,Bool.or_false]),hK⟩
  have kS:0<t.au.length:=by omega
  have ha:t.az=[]:=Classical.byContradiction (λh=>by have:=dz.leaf h;rw[this] at kS;exact absurd kS de)
  have mX:=iK kS
  have hh:cJ t=(nth t.au 0).az:=Fa ha mX
  refine bz<|aQ<|zr<|zL ka fg rfl bR.all rfl<|aC (Hm t dz _ L w4 dK) ?_
  rintro v5 w5 ⟨ln,aU⟩
  have pJ:=aU.size
  have hK:=hK.ext aU;have bc:=bc.ext aU;have bR:=bR.ext aU;have aI:=aI.ext aU;have bP:=bP.ext aU
  obtain rfl:=ln
  obtain⟨b,off,pa,pn,pc,rfl,eC,fR,iz⟩:=j9 bc mX
  refine ag<|cS<|zr<|cY rfl rfl<|zA<|ag<|zc rfl (λh5=>?_) (λh5=>?_)
  have he:(nth t.au 0).az=[101]:=hh.symm.trans h5
  have bP:aY w5 w2.heap.size #[.bool false] 4:=bP
  obtain⟨qa,qn,qc,kT,Ph⟩:=akI bc 1 ((n:Int)=2) (λh=>om)
  refine aQ ?_
  refine ql et aS 13 (rA 32 12++[6]) (rA 32 12++[6]) [[],[0],[1],[2],[3],[4],[4,5],[4,6],[4,7],[4],[4,8,9],[4,10],[11]] [λv _=>v=(.pointer (some ⟨w.heap.size,0+1,none⟩)),λv _=>v=(.slice (some ⟨b,off,none⟩) n c),λv _=>v=(.int .i64 (n:Int)),λv _=>v=(.bool (decide ((n:Int)=2))),λv _=>v=(.bool (decide ((n:Int)=2))),λv _=>(decide ((n:Int)=2))=true->v=(.pointer (some ⟨w.heap.size,0+1,none⟩)),λv _=>(decide ((n:Int)=2))=true->v=(.slice (some ⟨b,off,none⟩) n c),λv _=>(decide ((n:Int)=2))=true->v=(.pointer (some ⟨b,off+1*2,none⟩)),λv _=>(decide ((n:Int)=2))=true->v=(.agg #[str (nth t.au 1).az,.slice qa qn qc]),λv _=>(decide ((n:Int)=2))=true->v=(.bool false),λv _=>(decide ((n:Int)=2))=true->v=(.bool (fD true (nth t.au 1))),λv _=>v=(.bool (decide ((n:Int)=2)&&fD true (nth t.au 1))),λv _=>v=(.bool (decide ((n:Int)=2)&&fD true (nth t.au 1)))] de (cZ (cZ (cZ (cZ (cZ (eX (eX (eX (eX (eX (eX (cZ (cZ trivial))))))))))))) (λwd aB=>?_) ?_
  refine bN ?_ ?_
  intro x vs w6 e bF hd he
  replace bF:=aS.trans aB bF
  replace he:e=aM (aN _ x _) []:=he
  subst he
  refine zf uJ rfl<|ag ?_
  exact dn (aS.refl _) rfl
  refine bN ?_ ?_
  intro x vs w6 e bF hd he
  have d0:vs 0=(.pointer (some ⟨w.heap.size,0+1,none⟩)):=hd
  replace bF:=aS.trans aB bF
  have bR:=bR.ext bF
  replace he:e=aM (aN _ x _) [(32,vs 0)]:=he
  rw[d0] at he
  subst he
  refine zl sw rfl (bR.at rfl)<|ag ?_
  exact dn (aS.refl _) rfl
  refine bN ?_ ?_
  intro x vs w6 e bF hd he
  have d1:vs 1=(.slice (some ⟨b,off,none⟩) n c):=hd
  replace bF:=aS.trans aB bF
  replace he:e=aM (aN _ x _) [(33,vs 1)]:=he
  rw[d1] at he
  subst he
  refine dZ nP rfl<|ag ?_
  exact dn (aS.refl _) rfl
  refine bN ?_ ?_
  intro x vs w6 e bF hd he
  have d2:vs 2=(.int .i64 (n:Int)):=hd
  replace bF:=aS.trans aB bF
  replace he:e=aM (aN _ x _) [(34,vs 2)]:=he
  rw[d2] at he
  subst he
  refine dQ rfl rfl rfl<|ag ?_
  exact dn (aS.refl _) rfl
  refine bN ?_ ?_
  intro x vs w6 e bF hd he
  have d3:vs 3=(.bool (decide ((n:Int)=2))):=hd
  replace bF:=aS.trans aB bF
  replace he:e=aM (aN _ x _) [(35,vs 3)]:=he
  rw[d3] at he
  subst he
  refine zm<|ag ?_
  exact dn (aS.refl _) rfl
  refine bN ?_ ?_
  intro x vs w6 e bF hd he
  have d4:vs 4=(.bool (decide ((n:Int)=2))):=hd
  replace bF:=aS.trans aB bF
  rcases bE (decide ((n:Int)=2)) with hg|hg
  rw[hg] at d4
  replace he:e=aM (aN _ x _) [(36,vs 4)]:=he
  rw[d4] at he
  subst he
  refine zf uJ rfl<|ag ?_
  exact dn (aS.refl _) (show(decide ((n:Int)=2))=true->_=((.pointer (some ⟨w.heap.size,0+1,none⟩)):Value) from λ_=>rfl)
  rw[hg] at d4
  replace he:e=aM (aN _ x _) [(36,vs 4)]:=he
  rw[d4] at he
  subst he
  refine zs<|ag ?_
  exact dn (aS.refl _) (show(decide ((n:Int)=2))=true->_=(_:Value) from λhh=>nomatch hg.symm.trans hh)
  refine bN ?_ ?_
  intro x vs w6 e bF hd he
  have aR:(vs 4=(.bool (decide ((n:Int)=2))))∧((decide ((n:Int)=2))=true->vs 5=(.pointer (some ⟨w.heap.size,0+1,none⟩))):=hd
  obtain⟨d4,d5⟩:=aR
  replace bF:=aS.trans aB bF
  have bR:=bR.ext bF
  rcases bE (decide ((n:Int)=2)) with hg|hg
  rw[hg] at d4
  replace d5:=d5 hg
  replace he:e=aM (aN _ x _) [(36,vs 4),(37,vs 5)]:=he
  rw[d4,d5] at he
  subst he
  refine zl sw rfl (bR.at rfl)<|ag ?_
  exact dn (aS.refl _) (show(decide ((n:Int)=2))=true->_=((.slice (some ⟨b,off,none⟩) n c):Value) from λ_=>rfl)
  rw[hg] at d4
  replace he:e=aM (aN _ x _) [(36,vs 4),(37,vs 5)]:=he
  rw[d4] at he
  subst he
  refine zs<|ag ?_
  exact dn (aS.refl _) (show(decide ((n:Int)=2))=true->_=(_:Value) from λhh=>nomatch hg.symm.trans hh)
  refine bN ?_ ?_
  intro x vs w6 e bF hd he
  have aR:(vs 4=(.bool (decide ((n:Int)=2))))∧((decide ((n:Int)=2))=true->vs 6=(.slice (some ⟨b,off,none⟩) n c)):=hd
  obtain⟨d4,d6⟩:=aR
  replace bF:=aS.trans aB bF
  rcases bE (decide ((n:Int)=2)) with hg|hg
  rw[hg] at d4
  replace d6:=d6 hg
  replace he:e=aM (aN _ x _) [(36,vs 4),(38,vs 6)]:=he
  rw[d4,d6] at he
  subst he
  refine zi (i:=1) nP fg rfl rfl (by have:=of_decide_eq_true hg;omega)<|ag ?_
  exact dn (aS.refl _) (show(decide ((n:Int)=2))=true->_=((.pointer (some ⟨b,off+1*2,none⟩)):Value) from λ_=>rfl)
  rw[hg] at d4
  replace he:e=aM (aN _ x _) [(36,vs 4),(38,vs 6)]:=he
  rw[d4] at he
  subst he
  refine zs<|ag ?_
  exact dn (aS.refl _) (show(decide ((n:Int)=2))=true->_=(_:Value) from λhh=>nomatch hg.symm.trans hh)
  refine bN ?_ ?_
  intro x vs w6 e bF hd he
  have aR:(vs 4=(.bool (decide ((n:Int)=2))))∧((decide ((n:Int)=2))=true->vs 7=(.pointer (some ⟨b,off+1*2,none⟩))):=hd
  obtain⟨d4,d7⟩:=aR
  replace bF:=aS.trans aB bF
  have kT:=kT.ext bF
  rcases bE (decide ((n:Int)=2)) with hg|hg
  rw[hg] at d4
  replace d7:=d7 hg
  replace he:e=aM (aN _ x _) [(36,vs 4),(39,vs 7)]:=he
  rw[d4,d7] at he
  subst he
  refine zL ka fg rfl (kT (of_decide_eq_true hg)) rfl<|ag ?_
  exact dn (aS.refl _) (show(decide ((n:Int)=2))=true->_=((.agg #[str (nth t.au 1).az,.slice qa qn qc]):Value) from λ_=>rfl)
  rw[hg] at d4
  replace he:e=aM (aN _ x _) [(36,vs 4),(39,vs 7)]:=he
  rw[d4] at he
  subst he
  refine zs<|ag ?_
  exact dn (aS.refl _) (show(decide ((n:Int)=2))=true->_=(_:Value) from λhh=>nomatch hg.symm.trans hh)
  refine bN ?_ ?_
  intro x vs w6 e bF hd he
  have d4:vs 4=(.bool (decide ((n:Int)=2))):=hd
  replace bF:=aS.trans aB bF
  have bP:=bP.ext bF
  rcases bE (decide ((n:Int)=2)) with hg|hg
  rw[hg] at d4
  replace he:e=aM (aN _ x _) [(36,vs 4)]:=he
  rw[d4] at he
  subst he
  refine zl Dg rfl (bP.at rfl)<|ag ?_
  exact dn (aS.refl _) (show(decide ((n:Int)=2))=true->_=((.bool false):Value) from λ_=>rfl)
  rw[hg] at d4
  replace he:e=aM (aN _ x _) [(36,vs 4)]:=he
  rw[d4] at he
  subst he
  refine zs<|ag ?_
  exact dn (aS.refl _) (show(decide ((n:Int)=2))=true->_=(_:Value) from λhh=>nomatch hg.symm.trans hh)
  refine bN ?_ ?_
  intro x vs w6 e bF hd he
  have aR:(vs 4=(.bool (decide ((n:Int)=2))))∧((decide ((n:Int)=2))=true->vs 8=(.agg #[str (nth t.au 1).az,.slice qa qn qc]))∧((decide ((n:Int)=2))=true->vs 9=(.bool false)):=hd
  obtain⟨d4,d8,d9⟩:=aR
  replace bF:=aS.trans aB bF
  have Ph:=Ph.ext bF
  rcases bE (decide ((n:Int)=2)) with hg|hg
  rw[hg] at d4
  replace d8:=d8 hg
  replace d9:=d9 hg
  replace he:e=aM (aN _ x _) [(36,vs 4),(40,vs 8),(41,vs 9)]:=he
  rw[d4,d8,d9] at he
  subst he
  refine aC (ih (nth t.au 1) (by have:=of_decide_eq_true hg;have:=l3 (t:=t) (i:=1) om;omega) (by have:=of_decide_eq_true hg;have:=l3 (t:=t) (i:=1) om;omega) (dz.nth (by have:=of_decide_eq_true hg;omega)) true _ L w6 (mT (Ph (of_decide_eq_true hg)))) ?_
  rintro v7 w7 ⟨iV,cz⟩
  have po:=cz.size
  obtain rfl:=iV
  refine ag ?_
  exact dn (aS.of cz) (show(decide ((n:Int)=2))=true->_=((.bool (fD true (nth t.au 1))):Value) from λ_=>rfl)
  rw[hg] at d4
  replace he:e=aM (aN _ x _) [(36,vs 4),(40,vs 8),(41,vs 9)]:=he
  rw[d4] at he
  subst he
  refine zs<|ag ?_
  exact dn (aS.refl _) (show(decide ((n:Int)=2))=true->_=(_:Value) from λhh=>nomatch hg.symm.trans hh)
  refine bN ?_ ?_
  intro x vs w6 e bF hd he
  have aR:(vs 4=(.bool (decide ((n:Int)=2))))∧((decide ((n:Int)=2))=true->vs 10=(.bool (fD true (nth t.au 1)))):=hd
  obtain⟨d4,d10⟩:=aR
  replace bF:=aS.trans aB bF
  rcases bE (decide ((n:Int)=2)) with hg|hg
  rw[hg] at d4
  replace d10:=d10 hg
  replace he:e=aM (aN _ x _) [(36,vs 4),(42,vs 10)]:=he
  rw[d4,d10] at he
  subst he
  refine zp rfl<|ag ?_
  exact dn (aS.refl _) (by first|rfl|(rw[hg];rfl))
  rw[hg] at d4
  replace he:e=aM (aN _ x _) [(36,vs 4),(42,vs 10)]:=he
  rw[d4] at he
  subst he
  refine zp rfl<|ag ?_
  exact dn (aS.refl _) (by first|rfl|(rw[hg];rfl))
  refine bN ?_ ?_
  intro x vs w6 e bF hd he
  have d11:vs 11=(.bool (decide ((n:Int)=2)&&fD true (nth t.au 1))):=hd
  replace bF:=aS.trans aB bF
  replace he:e=aM (aN _ x _) [(43,vs 11)]:=he
  rw[d11] at he
  subst he
  refine zA<|ag ?_
  exact dn (aS.refl _) rfl
  exact trivial
  intro x vs pW wL bJ
  have d0:vs 0=(.pointer (some ⟨w.heap.size,0+1,none⟩)):=bJ 0 de
  have d1:vs 1=(.slice (some ⟨b,off,none⟩) n c):=bJ 1 de
  have d2:vs 2=(.int .i64 (n:Int)):=bJ 2 de
  have d3:vs 3=(.bool (decide ((n:Int)=2))):=bJ 3 de
  have d4:vs 4=(.bool (decide ((n:Int)=2))):=bJ 4 de
  have d5:(decide ((n:Int)=2))=true->vs 5=(.pointer (some ⟨w.heap.size,0+1,none⟩)):=bJ 5 de
  have d6:(decide ((n:Int)=2))=true->vs 6=(.slice (some ⟨b,off,none⟩) n c):=bJ 6 de
  have d7:(decide ((n:Int)=2))=true->vs 7=(.pointer (some ⟨b,off+1*2,none⟩)):=bJ 7 de
  have d8:(decide ((n:Int)=2))=true->vs 8=(.agg #[str (nth t.au 1).az,.slice qa qn qc]):=bJ 8 de
  have d9:(decide ((n:Int)=2))=true->vs 9=(.bool false):=bJ 9 de
  have d10:(decide ((n:Int)=2))=true->vs 10=(.bool (fD true (nth t.au 1))):=bJ 10 de
  have d11:vs 11=(.bool (decide ((n:Int)=2)&&fD true (nth t.au 1))):=bJ 11 de
  have d12:vs 12=(.bool (decide ((n:Int)=2)&&fD true (nth t.au 1))):=bJ 12 de
  have hK:=hK.ext wL
  change OW _ _ _ _ [] (aM (aN _ x _) (zZ 32 [vs 0,vs 1,vs 2,vs 3,vs 4,vs 5,vs 6,vs 7,vs 8,vs 9,vs 10,vs 11]++[(6,vs 12)])) _
  rw[d0,d1,d2,d3,d4,d11,d12]
  refine ag<|aV<|⟨_,rfl,show Value.bool _=Value.bool _ from cA _ ?_,hK⟩
  rw[KX ha kS he]
  congr 1
  exact decide_eq_decide.2 om
  have eN:(nth t.au 0).az≠[101]:=λh=>h5 (hh.trans h)
  refine aQ<|zr<|cY rfl rfl<|zA<|ag ?_
  refine ji (λ_:Unit=>[(3,.pointer (some ⟨w.heap.size,0,none⟩)),(4,.pointer (some ⟨w1.heap.size,0,none⟩)),(5,.pointer (some ⟨w2.heap.size,0,none⟩)),(44,.bool (decide (cJ t=[116])||decide (cJ t=[99])))]) (λ_ w'=>w'=w5) ?_ ?_
  refine zc rfl (λh6=>?_) (λh6=>?_)
  refine bz ?_
  exact⟨(),⟨rfl,rfl,rfl,cA Value.bool (zJ h6)⟩,rfl⟩
  refine df<|cY rfl rfl<|zA<|ag ?_
  exact⟨(),⟨rfl,rfl,rfl,cA Value.bool (zK h6)⟩,rfl⟩
  intro gu w6 e6 hI
  obtain rfl:=hI
  refine zc rfl (λh7=>?_) (λh7=>?_)
  have zO:=zM h7
  rw[hh] at zO
  refine zr<|zf uJ rfl<|zl sw rfl (bR.at rfl)<|Hx (l:=1) nP fg rfl rfl rfl rfl om bc ?_
  intro CZ bo
  have bo:fI L w6 CZ (t.au.drop 1):=by rw[fI,PF];exact bo
  refine PL (vs:=[.pointer (some ⟨w1.heap.size,0,none⟩),.pointer (some ⟨w2.heap.size,0,none⟩)]) rfl rfl rfl ?_
  refine aC (akG (t.au.drop 1) (by rw[List.length_drop];omega) (λu=>!fD hidden u) 126 [.pointer (some ⟨w1.heap.size,0,none⟩),.pointer (some ⟨w2.heap.size,0,none⟩)] _ L w6 bo (λi hi u w' k hu=>by rw[List.length_drop] at hi;rw[Wt] at hu⊢;exact akH ih (nth t.au (i+1)) (by have:=l3 (t:=t) (i:=i+1) om;omega) (by have:=l3 (t:=t) (i:=i+1) om;omega) (dz.nth om) hidden _ _ _ L _ hu (aI.ext k) (bP.ext k))) ?_
  rintro v7 w7 ⟨iV,cz⟩
  have po:=cz.size
  have hK:=hK.ext cz
  obtain rfl:=iV
  refine eM rfl<|zA<|ag<|aV ?_
  exact⟨_,rfl,show Value.bool _=Value.bool _ from cA _ (by rw[KY ha kS zO,akK]),hK⟩
  have zO:=zN h7
  rw[hh] at zO
  refine bz<|zr<|zA<|ag<|aV ?_
  exact⟨_,rfl,by rw[Qh ha kS eN zO];rfl,hK⟩
def Ho {w a b:World} (h:ak [] w a) (k:RowKit.Below w.heap.size a b):ak [] w b:=
 ⟨k.os.trans h.os,k.tape.trans h.tape,k.output.trans h.output,Nat.le_trans h.size k.size,λi hi hl=>(k.block i hi).trans (h.block i hi hl)⟩
def akL (x y:Nat) (h:x*y<18446744073709551616) (hx:x<18446744073709551616) (hy:y<18446744073709551616) (w:World):
  ck Tryz.prog 162 [.int .u64 x,.int .u64 y] w λv w'=>v= .tuple #[.int .u64 0,.int .u64 ((x*y:Nat):Int)]∧w=w':=
 ⟨tm.mk' Tryz.func162 rfl Yz,Calls.mono (Tryz.bits_Mul x y hx hy w) λ_ _ ⟨he,hw⟩=>⟨_,he,by rw[Nat.div_eq_of_lt h,Nat.mod_eq_of_lt h];rfl,hw.symm⟩⟩
def akM (B b n:Nat) (w:World) (hB:B<=b) (fz:aY w b #[.pointer none,.slice none 0 0] 94) (C1:B<=w.heap.size) (hn:n<=281474976710656):
  ck Tryz.prog 163 [.pointer (some ⟨b,0,none⟩),.int .i64 n] w λv w'=>v= .tuple #[]∧Lib.IsBuilderF 94 5 B b (Lib.byteCells []) w'∧RowKit.Below B w w':=
 ⟨tm.mk' Tryz.func163 rfl YA,Calls.mono (Tryz.Builder_Grow_fresh B b n w hB fz C1 hn) λ_ _ ⟨he,hb,hk⟩=>⟨_,he,rfl,.inr (Lib.BuilderAtF.of hb),hk⟩⟩
def Wu (B b:Nat) (l s:aj) (w:World) (h:Lib.IsBuilderF 94 5 B b (Lib.byteCells l) w) (hlen:l.length+s.length<=140737488355328) (C1:B<=w.heap.size):
  ck Tryz.prog 101 [.pointer (some ⟨b,0,none⟩),str s] w λv w'=>(∃u,v=u)∧Lib.IsBuilderF 94 5 B b (Lib.byteCells (l++s)) w'∧RowKit.Below B w w':=
 ⟨tm.mk' Tryz.func101 rfl XI,Calls.mono (Tryz.Builder_WriteString_f B b _ ⟨s.toArray⟩ w h (by rw[Lib.byteCells_length];simpa[ByteArray.size] using hlen) C1) λ_ _ ⟨he,hb,hk⟩=>⟨_,he,⟨_,rfl⟩,.inr (by have e1:Lib.byteCells (l++s)=Lib.byteCells l++Lib.strCells ⟨s.toArray⟩:=by{simp[Lib.byteCells,Lib.strCells]};rw[e1];exact hb),hk⟩⟩
def Pj (B b:Nat) (l:aj) (w:World) (h:Lib.IsBuilderF 94 5 B b (Lib.byteCells l) w):
  ck Tryz.prog 164 [.pointer (some ⟨b,0,none⟩)] w λv w'=>v= .int .i64 (l.length:Int)∧w=w':=
 ⟨tm.mk' Tryz.func164 rfl YB,Calls.mono (Tryz.Builder_Len_f B b _ w h) λ_ _ ⟨he,hw⟩=>⟨_,he,by rw[Lib.byteCells_length],hw.symm⟩⟩
def Wv (B b:Nat) (l:aj) (h0:l≠[]) (w:World) (h:Lib.IsBuilderF 94 5 B b (Lib.byteCells l) w):
  ck Tryz.prog 74 [.pointer (some ⟨b,0,none⟩)] w λv w'=>v=str l∧Lib.IsBuilderF 94 5 B b (Lib.byteCells l) w'∧RowKit.Below B w w':=
 ⟨tm.mk' Tryz.func74 rfl Zu,Calls.mono (Tryz.Builder_String_f B b l w h h0) λ_ _ ⟨he,hb,hk⟩=>⟨_,he,rfl,hb,hk⟩⟩
def akN (c:Nat) (hc:c<=8192) (w:World):ck Tryz.prog 127 [str [115],.int .i64 (c:Int)] w λv w'=>v=str (List.replicate c 115)∧ak [] w w':=by
 have hK:=ak.refl [] w
 refine cX [.tmp 4] 125 Tryz.func127 rfl X7 rfl rfl ?_
 refine zr<|zA<|ag<|aQ<|zr<|zm<|ag<|cS<|zr<|dQ rfl rfl rfl<|zA<|ag<|zc rfl (λh1=>?_) (λh1=>?_)
 have eC:c=0:=by omega
 refine zr<|zA<|ag<|aV ?_
 exact⟨_,rfl,by rw[eC];rfl,hK⟩
 refine zr<|dQ rfl rfl rfl<|zA<|ag<|zc rfl (λh2=>?_) (λh2=>?_)
 have bC:c=1:=by omega
 refine zr<|zm<|zA<|ag<|aV ?_
 exact⟨_,rfl,by rw[bC];rfl,hK⟩
 refine bz<|aQ<|zr<|zm<|fA rfl rfl rfl<|ag<|zc rfl (λh3=>?_) (λh3=>?_)
 exfalso
 omega
 refine bz<|zr<|zm<|kO fh rfl rfl rfl<|xv xG KO rfl rfl rfl (show IntKind.u64.wrap (([115]:aj).length:Int)=((1:Nat):Int) from by decide)<|zm<|xv xG KO rfl rfl rfl (show IntKind.u64.wrap (c:Int)=((c:Nat):Int) from by rw[wrap_u64 _ om om])<|aC (akL 1 c om om om _) ?_
 rintro _ _ ⟨rfl,rfl⟩
 refine zm<|zx (i:=0) rfl rfl<|zx (i:=1) rfl rfl<|zA<|zA<|ag<|aQ<|zr<|zm<|jz rfl rfl rfl rfl rfl<|zm ?_
 apply fB 3 31 34 [31,32,33,34] (λw'=>w=w') rfl
 intro h4
 replace h4:=bw h4
 refine zs<|zs<|zp rfl<|ag ?_
 exact mg rfl rfl
 intro h4
 replace h4:=bw h4
 refine zm<|jz rfl rfl rfl rfl rfl<|zp rfl<|ag ?_
 exact mg rfl rfl
 rintro xx _ rfl
 refine ag<|zc rfl (λh5=>?_) (λh5=>?_)
 exfalso
 simp at h5
 omega
 refine bz<|zr<|zm<|xv KO xG rfl rfl rfl (show IntKind.i64.wrap ((1*c:Nat):Int)=(c:Int) from by rw[wrap_i64 _ om om];omega)<|zA<|ag<|aQ<|zr<|zm<|kO fh rfl rfl rfl<|dQ rfl rfl rfl<|ag<|zc rfl (λh6=>?_) (λh6=>?_)
 exact absurd h6 de
 refine bz<|aQ<|zr<|zm<|kE (i:=0) fh rfl rfl rfl rfl (jK de)<|ag<|cS<|aQ<|zr<|dQ rfl rfl rfl<|zA<|ag<|zc rfl (λh7=>?_) (λh7=>?_)
 exact absurd h7 de
 refine zr<|dQ rfl rfl rfl<|zA<|ag<|zc rfl (λh8=>?_) (λh8=>?_)
 exact absurd h8 de
 refine zr<|dQ rfl rfl rfl<|zA<|ag<|zc rfl (λh9=>?_) (λh9=>?_)
 exact absurd h9 de
 refine zr<|dQ rfl rfl rfl<|zA<|ag<|zc rfl (λgI=>?_) (λgI=>?_)
 exact absurd gI de
 refine df<|dQ rfl rfl rfl<|zA<|ag<|zc rfl (λkq=>?_) (λkq=>?_)
 exact absurd kq de
 refine bz<|zr<|zm<|zA<|ag<|aQ<|zr<|zm<|jz rfl rfl rfl rfl rfl<|ag<|zc rfl (λjM=>?_) (λjM=>?_)
 exfalso
 omega
 refine bz<|zr<|eD Z6 rfl rfl rfl ?_
 intro w1 aK cV eh
 have hK:=hK.ext aK
 refine ag<|zr<|zm<|aC (akM w.heap.size w.heap.size c w1 (lR _) cV om om) ?_
 rintro _ w2 ⟨rfl,hB,rE⟩
 have hK:=Ho hK rE
 refine ag<|zr<|zm<|aC (Wu w.heap.size w.heap.size [] [115] w2 hB sm (by have:=hK.size;omega)) ?_
 rintro _ w3 ⟨_,hB,rE⟩
 have hK:=Ho hK rE
 refine ag<|aQ<|cS ?_
 refine fY (λk:Nat=>[(0,str [115]),(7,.int .i64 (c:Int)),(8,.int .i64 (c:Int)),(9,.pointer (some ⟨w.heap.size,0,none⟩))]) (λk w'=>ak [] w w'∧Lib.IsBuilderF 94 5 w.heap.size w.heap.size (Lib.byteCells (List.replicate k 115)) w'∧1<=k∧k<=c) (λk=>c-k) (1) (⟨rfl,rfl,rfl,rfl⟩) (⟨hK,hB,om,om⟩) ?_
 intro gg w4 e4 hI
 obtain⟨hK,hB,hk,lu⟩:=hI
 have iY:=hK.size
 refine aQ<|zr<|aC (Pj _ _ _ _ hB) ?_
 rintro _ _ ⟨rfl,rfl⟩
 rw[List.length_replicate]
 refine zm<|fA rfl rfl rfl<|ag<|zc rfl (λlJ=>?_) (λlJ=>?_)
 have eW:gg<c:=by omega
 refine bz<|cS<|zr<|zm<|aC (Pj _ _ _ _ hB) ?_
 rintro _ _ ⟨rfl,rfl⟩
 rw[List.length_replicate]
 refine mN rfl rfl rfl rfl rfl (wrap_i64 _ om om)<|aC (Pj _ _ _ _ hB) ?_
 rintro _ _ ⟨rfl,rfl⟩
 rw[List.length_replicate]
 refine zm<|XF rfl rfl rfl rfl rfl (show(if(c:Int)<(if(gg:Int)<(c:Int)-gg then(gg:Int) else(c:Int)-gg) then(c:Int) else(if(gg:Int)<(c:Int)-gg then(gg:Int) else(c:Int)-gg))=((min gg (c-gg):Nat):Int) from by repeat' split<;>omega)<|zA<|ag<|df<|aC (Wv _ _ _ (by intro h;have:=cA List.length h;simp at this;omega) w4 hB) ?_
 rintro _ w5 ⟨rfl,hB,rE⟩
 have hK:=Ho hK rE
 refine zm<|Bf fh rfl rfl rfl (.inl ⟨rfl,rfl⟩) (.inr ⟨_,rfl⟩) om (by rw[List.length_replicate];omega)<|aC (Wu w.heap.size w.heap.size _ _ w5 hB so (by have:=hK.size;omega)) ?_
 rintro _ w6 ⟨_,hB,rE⟩
 have hK:=Ho hK rE
 refine ag ?_
 exact⟨gg+min gg (c-gg),⟨rfl,rfl,rfl,rfl⟩,⟨hK,by have e1:List.replicate gg 115++((List.replicate gg (115:UInt8)).drop 0).take (min gg (c-gg)-0)=List.replicate (gg+min gg (c-gg)) 115:=by{rw[List.drop_zero,Nat.sub_zero,List.take_replicate,List.replicate_append_replicate];congr 1;omega};rw[<-e1];exact hB,om,om⟩,om⟩
 have he:gg=c:=by omega
 refine gD<|gF rfl<|zr<|aC (Wv _ _ _ (by intro h;have:=cA List.length h;simp at this;omega) w4 hB) ?_
 rintro _ w5 ⟨rfl,hB,rE⟩
 have hK:=Ho hK rE
 refine zA<|ag<|aV ?_
 exact⟨_,rfl,by rw[<-he];rfl,hK⟩
def akO (h:aj) (n:Nat) (hn:n<=8000) (w:World):ck Tryz.prog 92 [str h,.int .i64 (n:Int)] w λr w'=>r=str (ic h n)∧ak [] w w':=by
 have hK:=ak.refl [] w
 refine cX [.tmp 4] 33 Tryz.func92 rfl ZM rfl rfl ?_
 refine zr<|zA<|ag<|aQ<|zr<|zm<|ag<|cS<|zr<|cY rfl rfl<|zA<|ag<|zc rfl (λh1=>?_) (λh1=>?_)
 have eC:=h1
 refine zr<|zA<|ag<|aV ?_
 exact⟨_,rfl,show str _=str _ from cA _ (by rw[ic,iP eC]),hK⟩
 have eC:=h1
 refine aQ<|zr<|cY rfl rfl<|zA<|ag ?_
 refine ji (λ_:Unit=>[(1,.int .i64 (n:Int)),(5,str h),(8,.bool (decide (h=[109,111,118])||decide (h=[111,112,101,110])))]) (λ_ w'=>w'=w) ?_ ?_
 refine zc rfl (λh2=>?_) (λh2=>?_)
 refine bz ?_
 exact⟨(),⟨rfl,rfl,cA Value.bool (zJ h2)⟩,rfl⟩
 refine df<|cY rfl rfl<|zA<|ag ?_
 exact⟨(),⟨rfl,rfl,cA Value.bool (zK h2)⟩,rfl⟩
 intro gu w1 e1 hI
 obtain rfl:=hI
 refine zc rfl (λh3=>?_) (λh3=>?_)
 have bC:=zM h3
 refine zr<|zA<|ag<|aV ?_
 exact⟨_,rfl,show str _=str _ from cA _ (by rw[ic,iN eC,iP bC]),hK⟩
 have bC:=zN h3
 refine aQ<|zr<|cY rfl rfl<|zA<|ag ?_
 refine ji (λ_:Unit=>[(1,.int .i64 (n:Int)),(5,str h),(11,.bool (decide (h=[97,100,100])||decide (h=[115,117,98])||decide (h=[109,117,108])))]) (λ_ w'=>w'=w1) ?_ ?_
 refine zc rfl (λh4=>?_) (λh4=>?_)
 refine bz ?_
 exact⟨(),⟨rfl,rfl,cA Value.bool (Ql h4)⟩,rfl⟩
 have fU:=h4
 refine zr<|cY rfl rfl<|zA<|ag<|zc rfl (λh5=>?_) (λh5=>?_)
 refine bz ?_
 exact⟨(),⟨rfl,rfl,cA Value.bool (Qm fU h5)⟩,rfl⟩
 refine df<|cY rfl rfl<|zA<|ag ?_
 exact⟨(),⟨rfl,rfl,cA Value.bool (Qn fU h5)⟩,rfl⟩
 intro gu w2 e2 hI
 obtain rfl:=hI
 refine zc rfl (λh6=>?_) (λh6=>?_)
 have bY:=Qo h6
 refine zr<|zA<|ag<|aV ?_
 exact⟨_,rfl,show str _=str _ from cA _ (by rw[ic,iN eC,iN bC,iP bY]),hK⟩
 have bY:=Qp h6
 refine zr<|cY rfl rfl<|zA<|ag<|zc rfl (λh7=>?_) (λh7=>?_)
 have eu:=h7
 refine zr<|zm<|mN rfl rfl rfl rfl rfl (wrap_i64 _ om om)<|XG rfl rfl rfl rfl (show(if(0:Int)<(n:Int)-2 then(n:Int)-2 else 0)=((n-2:Nat):Int) from by split<;>omega)<|aC (akN (n-2) om w2) ?_
 rintro v3 w3 ⟨er,aJ⟩
 have gd:=aJ.size
 have hK:=hK.ext aJ
 obtain rfl:=er
 refine cu rfl rfl so<|zA<|ag<|aV ?_
 exact⟨_,rfl,show str _=str _ from cA _ (by rw[ic,iN eC,iN bC,iN bY,iP eu]),hK⟩
 have eu:=h7
 refine zr<|cY rfl rfl<|zA<|ag<|zc rfl (λh8=>?_) (λh8=>?_)
 have jL:=h8
 refine zr<|zA<|ag<|aV ?_
 exact⟨_,rfl,show str _=str _ from cA _ (by rw[ic,iN eC,iN bC,iN bY,iN eu,iP jL]),hK⟩
 have jL:=h8
 refine zr<|cY rfl rfl<|zA<|ag<|zc rfl (λh9=>?_) (λh9=>?_)
 have j1:=h9
 refine zr<|zA<|ag<|aV ?_
 exact⟨_,rfl,show str _=str _ from cA _ (by rw[ic,iN eC,iN bC,iN bY,iN eu,iN jL,iP j1]),hK⟩
 have j1:=h9
 refine zr<|cY rfl rfl<|zA<|ag<|zc rfl (λgI=>?_) (λgI=>?_)
 have qq:=gI
 refine zr<|zA<|ag<|aV ?_
 exact⟨_,rfl,show str _=str _ from cA _ (by rw[ic,iN eC,iN bC,iN bY,iN eu,iN jL,iN j1,iP qq]),hK⟩
 have qq:=gI
 refine zr<|cY rfl rfl<|zA<|ag<|zc rfl (λkq=>?_) (λkq=>?_)
 have zP:=kq
 refine zr<|zA<|ag<|aV ?_
 exact⟨_,rfl,show str _=str _ from cA _ (by rw[ic,iN eC,iN bC,iN bY,iN eu,iN jL,iN j1,iN qq,iP zP]),hK⟩
 have zP:=kq
 refine aQ<|zr<|cY rfl rfl<|zA<|ag ?_
 refine ji (λ_:Unit=>[(5,str h),(30,.bool (decide (h=[106,117,109,112])||decide (h=[104,97,108,116])))]) (λ_ w'=>w'=w2) ?_ ?_
 refine zc rfl (λjM=>?_) (λjM=>?_)
 refine bz ?_
 exact⟨(),⟨rfl,cA Value.bool (zJ jM)⟩,rfl⟩
 refine df<|cY rfl rfl<|zA<|ag ?_
 exact⟨(),⟨rfl,cA Value.bool (zK jM)⟩,rfl⟩
 intro gu w3 e3 hI
 obtain rfl:=hI
 refine zc rfl (λlJ=>?_) (λlJ=>?_)
 have vU:=zM lJ
 refine zr<|zA<|ag<|aV ?_
 exact⟨_,rfl,show str _=str _ from cA _ (by rw[ic,iN eC,iN bC,iN bY,iN eu,iN jL,iN j1,iN qq,iN zP,iP vU]),hK⟩
 have vU:=zN lJ
 refine bz<|zr<|zA<|ag<|aV ?_
 exact⟨_,rfl,show str _=str _ from cA _ (by rw[ic,iN eC,iN bC,iN bY,iN eu,iN jL,iN j1,iN qq,iN zP,iN vU]),hK⟩
def akP {L:List Nat} {w:World} {v:Value} {ts:List aA} (h:fI L w v ts):∃a c,v= .slice a ts.length c:=by
 obtain⟨a,c,rfl,_⟩:=rN h
 exact⟨a,c,by rw[iI]⟩
def akQ (t:aA) (hs:t.size<=12001) (dz:WF t) (v:Value) (L:List Nat) (w:World) (hv:bT L w v t):
  ck Tryz.prog 61 [v] w λr w'=>r= .bool (dJ t)∧ak [] w w':=by
 have dK:=hv
 obtain⟨a,n,c,rfl,hn,bc⟩:=dO hv
 have hK:=ak.refl [] w
 have hn8:=abc dz
 subst hn
 have hσ:=abb (cJ t) t.au.length
 refine cX [.tmp 2] 78 Tryz.func61 rfl Zp rfl rfl ?_
 refine zr<|fG rfl ?_
 intro w1 aK aT eh
 have hK:=hK.ext aK;have bc:=bc.ext aK;have dK:=dK.ext aK
 refine zA<|ag<|aQ ?_
 refine ql et aS 7 (rA 7 6++[3]) (rA 7 6++[3]) [[],[0],[],[2],[3],[1,4],[5]] [λv _=>v=(.agg #[str t.az,.slice a t.au.length c]),λv _=>v=(str (cJ t)),λv _=>v=(.pointer (some ⟨w.heap.size,0+1,none⟩)),λv _=>v=(.slice a t.au.length c),λv _=>v=(.int .i64 (t.au.length:Int)),λv _=>v=(str (ic (cJ t) t.au.length)),λv _=>v=(str (ic (cJ t) t.au.length))] de (cZ (cZ (cZ (cZ (cZ (cZ (cZ trivial))))))) (λwd aB=>?_) ?_
 refine bN ?_ ?_
 intro x vs w2 e aq hd he
 replace aq:=aS.trans aB aq
 have aT:=aT.ext aq
 replace he:e=aM (aN _ x _) []:=he
 subst he
 refine zL ka fg rfl aT.all rfl<|ag ?_
 exact dn (aS.refl _) rfl
 refine bN ?_ ?_
 intro x vs w2 e aq hd he
 have d0:vs 0=(.agg #[str t.az,.slice a t.au.length c]):=hd
 replace aq:=aS.trans aB aq
 have dK:=dK.ext aq
 replace he:e=aM (aN _ x _) [(7,vs 0)]:=he
 rw[d0] at he
 subst he
 refine aC (Hm t dz _ L w2 dK) ?_
 rintro v3 w3 ⟨er,aJ⟩
 have gd:=aJ.size
 obtain rfl:=er
 refine ag ?_
 exact dn (aS.of aJ) rfl
 refine bN ?_ ?_
 intro x vs w2 e aq hd he
 replace aq:=aS.trans aB aq
 replace he:e=aM (aN _ x _) []:=he
 subst he
 refine zf uJ rfl<|ag ?_
 exact dn (aS.refl _) rfl
 refine bN ?_ ?_
 intro x vs w2 e aq hd he
 have d2:vs 2=(.pointer (some ⟨w.heap.size,0+1,none⟩)):=hd
 replace aq:=aS.trans aB aq
 have aT:=aT.ext aq
 replace he:e=aM (aN _ x _) [(9,vs 2)]:=he
 rw[d2] at he
 subst he
 refine zl sw rfl (aT.at rfl)<|ag ?_
 exact dn (aS.refl _) rfl
 refine bN ?_ ?_
 intro x vs w2 e aq hd he
 have d3:vs 3=(.slice a t.au.length c):=hd
 replace aq:=aS.trans aB aq
 replace he:e=aM (aN _ x _) [(10,vs 3)]:=he
 rw[d3] at he
 subst he
 refine dZ nP rfl<|ag ?_
 exact dn (aS.refl _) rfl
 refine bN ?_ ?_
 intro x vs w2 e aq hd he
 have aR:(vs 1=(str (cJ t)))∧(vs 4=(.int .i64 (t.au.length:Int))):=hd
 obtain⟨d1,d4⟩:=aR
 replace aq:=aS.trans aB aq
 replace he:e=aM (aN _ x _) [(8,vs 1),(11,vs 4)]:=he
 rw[d1,d4] at he
 subst he
 refine aC (akO (cJ t) t.au.length om w2) ?_
 rintro v3 w3 ⟨er,aJ⟩
 have gd:=aJ.size
 obtain rfl:=er
 refine ag ?_
 exact dn (aS.of aJ) rfl
 refine bN ?_ ?_
 intro x vs w2 e aq hd he
 have d5:vs 5=(str (ic (cJ t) t.au.length)):=hd
 replace aq:=aS.trans aB aq
 replace he:e=aM (aN _ x _) [(12,vs 5)]:=he
 rw[d5] at he
 subst he
 refine zA<|ag ?_
 exact dn (aS.refl _) rfl
 exact trivial
 intro x vs pY iC bJ
 have d0:vs 0=(.agg #[str t.az,.slice a t.au.length c]):=bJ 0 de
 have d1:vs 1=(str (cJ t)):=bJ 1 de
 have d2:vs 2=(.pointer (some ⟨w.heap.size,0+1,none⟩)):=bJ 2 de
 have d3:vs 3=(.slice a t.au.length c):=bJ 3 de
 have d4:vs 4=(.int .i64 (t.au.length:Int)):=bJ 4 de
 have d5:vs 5=(str (ic (cJ t) t.au.length)):=bJ 5 de
 have d6:vs 6=(str (ic (cJ t) t.au.length)):=bJ 6 de
 have hK:=hK.ext iC;have bc:=bc.ext iC;have aT:=aT.ext iC
 change OW _ _ _ _ [] (aM (aN _ x _) (zZ 7 [vs 0,vs 1,vs 2,vs 3,vs 4,vs 5]++[(3,vs 6)])) _
 rw[d0,d1,d2,d3,d4,d5,d6]
 refine ag<|aQ<|zr<|zm<|cY rfl rfl<|zm ?_
 apply fB 8 15 23 [15,16,17,18,19,20,21,22,23] (λw'=>pY=w') rfl
 intro h1
 replace h1:=bw h1
 refine zs<|zs<|zs<|zs<|zs<|zs<|zs<|zp rfl<|ag ?_
 exact mg rfl rfl
 intro h1
 replace h1:=bw h1
 refine zf uJ rfl<|zl sw rfl (aT.at rfl)<|dZ nP rfl<|zm<|kO fh rfl rfl rfl<|eI rfl rfl rfl (wrap_i64 _ om om)<|uA rfl rfl rfl rfl rfl<|zp rfl<|ag ?_
 exact mg rfl rfl
 rintro xx _ rfl
 refine ag<|zc rfl (λh2=>?_) (λh2=>?_)
 have hb:ic (cJ t) t.au.length=[]∨t.au.length≠(ic (cJ t) t.au.length).length+1:=by simp only[oE,dE] at h2;rcases h2 with h|h;exact .inl h;exact .inr om
 refine zr<|zA<|ag<|aV ?_
 exact⟨_,rfl,by rw[HV hb];rfl,hK⟩
 have hb:¬(ic (cJ t) t.au.length=[]∨t.au.length≠(ic (cJ t) t.au.length).length+1):=by simp only[Bool.or_eq_false_iff,decide_eq_false_iff_not] at h2;rintro(h|h);exact h2.1 h;exact h2.2 om
 have eN:=List.length_pos_iff.2 (λh=>hb (.inl h))
 have hl:t.au.length=(ic (cJ t) t.au.length).length+1:=Classical.byContradiction λh=>hb (.inr h)
 obtain⟨b0,AB,_,_,_,rfl,_,_,_⟩:=j9 bc (iK (ps:=t.au) (i:=0) om)
 refine bz<|aQ<|zr<|zf uJ rfl<|zl sw rfl (aT.at rfl)<|Hx (l:=1) nP fg rfl rfl rfl rfl om bc ?_
 intro CZ bo
 have bo:fI L pY CZ (t.au.drop 1):=by rw[fI,PF];exact bo
 obtain⟨a1,c1,rfl⟩:=akP bo
 have EN:(t.au.drop 1).length=t.au.length-1:=List.length_drop
 generalize hσe:ic (cJ t) t.au.length=σ at*
 refine dZ nP rfl<|zm<|ag<|cS ?_
 refine fY (λk:Nat=>[(1,.pointer (some ⟨w.heap.size,0,none⟩)),(3,str σ),(26,.slice a1 (t.au.drop 1).length c1),(27,.int .i64 ((t.au.drop 1).length:Int)),(28,.int .i64 (k:Int))]) (λk w'=>ak [] w w'∧ak [] pY w'∧k<=(t.au.drop 1).length∧∀i,i<k->ie ((σ.getD i 0).toNat:Int) (nth t.au (i+1))=true) (λk=>(t.au.drop 1).length-k) (0) (⟨rfl,rfl,rfl,rfl,rfl⟩) (⟨hK,ak.refl [] _,om,by intro i hi;omega⟩) ?_
 intro gg qC yj hI
 obtain⟨hK,aK,hk,dA⟩:=hI
 have bo:=bo.ext aK;have aT:=aT.ext aK
 have iY:=hK.size
 have ao0:=aK.size
 have iG:=aT.lt
 refine zr<|fA rfl rfl rfl<|ag<|aQ<|zc rfl (λh3=>?_) (λh3=>?_)
 have hp:=iK (ps:=t.au.drop 1) (i:=gg) om
 obtain⟨b1,ga,pa,pn,pc,rfl,kT,fR,iz⟩:=j9 bo hp
 rw[Wt] at kT fR iz
 have BK:=dz.nth (i:=gg+1) om
 have oz:=l3 (t:=t) (i:=gg+1) om
 have BC:=xJ (nth t.au (gg+1))
 refine bz<|aQ<|cS<|zr<|zm<|zi nP fg rfl rfl om<|zL ka fg rfl kT rfl<|eD fg rfl rfl rfl ?_
 intro nS lK bP ao1
 have hK:=hK.grow;have hK:=hK.ext lK;have aK:=aK.grow;have aK:=aK.ext lK;have iz:=iz.grow;have iz:=iz.ext lK
 refine zA<|dw fg rfl rfl rfl bP rfl ?_
 intro p5 jT bP ai5
 have hK:=hK.aL jT sx;have aK:=aK.aL jT sx;have iz:=iz.aL jT sx
 refine ag<|zr<|zA<|ag<|aQ<|zr<|zm<|zm ?_
 have mD:=ak.refl [] p5
 refine kE fh rfl rfl rfl rfl (jK om)<|ag<|cS<|aQ<|zr<|dQ rfl rfl rfl<|zA<|ag ?_
 refine ji (λ_:Unit=>[(1,.pointer (some ⟨w.heap.size,0,none⟩)),(3,str σ),(5,.pointer (some ⟨qC.heap.size,0,none⟩)),(6,.bool false),(26,.slice (some ⟨b1,ga,none⟩) (t.au.drop 1).length c1),(27,.int .i64 ((t.au.drop 1).length:Int)),(28,.int .i64 (gg:Int)),(35,.int .u8 ((σ.getD gg 0).toNat:Int)),(36,.bool (decide (((σ.getD gg 0).toNat:Int)=100)||decide (((σ.getD gg 0).toNat:Int)=115)))]) (λ_ w'=>w'=p5) ?_ ?_
 refine zc rfl (λh4=>?_) (λh4=>?_)
 refine bz ?_
 exact⟨(),⟨rfl,rfl,rfl,rfl,rfl,rfl,rfl,rfl,cA Value.bool (zJ h4)⟩,rfl⟩
 refine df<|dQ rfl rfl rfl<|zA<|ag ?_
 exact⟨(),⟨rfl,rfl,rfl,rfl,rfl,rfl,rfl,rfl,cA Value.bool (zK h4)⟩,rfl⟩
 intro gu pW e45 hI
 obtain rfl:=hI
 refine ji (λ_:Unit=>[(1,.pointer (some ⟨w.heap.size,0,none⟩)),(3,str σ),(6,.bool (ie ((σ.getD gg 0).toNat:Int) (nth t.au (gg+1)))),(26,.slice (some ⟨b1,ga,none⟩) (t.au.drop 1).length c1),(27,.int .i64 ((t.au.drop 1).length:Int)),(28,.int .i64 (gg:Int))]) (λ_ w'=>ak [] pW w') ?_ ?_
 refine zc rfl (λh5=>?_) (λh5=>?_)
 have hz:=zM h5
 refine df<|zf zB rfl<|zl cm rfl (bP.at rfl)<|aC (akD _ om pW) ?_
 rintro v46 qJ ⟨yS,nK⟩
 have JX:=nK.size
 have mD:=mD.ext nK
 obtain rfl:=yS
 refine zA<|ag ?_
 exact⟨(),⟨rfl,rfl,by rw[ie,iP hz];rfl,rfl,rfl,rfl⟩,mD⟩
 have hz:=zN h5
 refine zr<|dQ rfl rfl rfl<|zA<|ag<|zc rfl (λh6=>?_) (λh6=>?_)
 refine df<|zf zB rfl<|zl cm rfl (bP.at rfl)<|aC (Pf _ om _) ?_
 rintro _ _ ⟨rfl,rfl⟩
 refine zA<|ag ?_
 exact⟨(),⟨rfl,rfl,by rw[ie,iN hz,iP h6];rfl,rfl,rfl,rfl⟩,mD⟩
 have eh:=h6
 refine zr<|dQ rfl rfl rfl<|zA<|ag<|zc rfl (λh7=>?_) (λh7=>?_)
 have eO:=h7
 refine df<|zf zB rfl<|zl cm rfl (bP.at rfl)<|aC (Pf _ om _) ?_
 rintro _ _ ⟨rfl,rfl⟩
 refine zm ?_
 apply fZ 5 52 57 [52,53,54,55,56,57] (ak [] pW) rfl
 intro h8
 replace h8:=bw h8
 have Hp:=ak.refl [] pW
 obtain⟨z,Ww⟩:=Option.isSome_iff_exists.1 h8
 have Gq:z=(numeral (nth t.au (gg+1)).az).getD 0:=by rw[Ww];rfl
 refine zf zB rfl<|zl cm rfl (bP.at rfl)<|aC (Wp _ Ww pW) ?_
 rintro v46 qJ ⟨yS,nK⟩
 have JX:=nK.size
 have Hp:=Hp.ext nK
 obtain rfl:=yS
 rw[Gq]
 refine l0 rfl rfl rfl rfl rfl<|zp rfl<|ag ?_
 exact mg rfl Hp
 intro h8
 replace h8:=bw h8
 have Hp:=ak.refl [] pW
 refine zs<|zs<|zs<|zs<|zp rfl<|ag ?_
 exact mg rfl Hp
 intro xx qJ nK
 have mD:=mD.ext nK
 refine zA<|ag ?_
 exact⟨(),⟨rfl,rfl,by rw[ie,iN hz,iN eh,iP eO];rfl,rfl,rfl,rfl⟩,mD⟩
 have eO:=h7
 refine zr<|dQ rfl rfl rfl<|zA<|ag<|zc rfl (λh9=>?_) (λh9=>?_)
 refine df<|zf zB rfl<|zl cm rfl (bP.at rfl)<|aC (Wq _ om _) ?_
 rintro _ _ ⟨rfl,rfl⟩
 refine zA<|ag ?_
 exact⟨(),⟨rfl,rfl,by rw[ie,iN hz,iN eh,iN eO,iP h9];rfl,rfl,rfl,rfl⟩,mD⟩
 have iJ:=h9
 refine zr<|dQ rfl rfl rfl<|zA<|ag<|zc rfl (λgI=>?_) (λgI=>?_)
 have iU:=gI
 refine df<|zL ka fg rfl bP.all rfl<|aC (akE (nth t.au (gg+1)) BK [101] 2 _ _ pW (mT iz)) ?_
 rintro v46 qJ ⟨yS,nK⟩
 have JX:=nK.size
 have iz:=iz.ext nK;have bP:=bP.ext nK;have mD:=mD.ext nK
 obtain rfl:=yS
 refine zm ?_
 apply fZ 3 67 70 [67,68,69,70] (ak [] qJ) rfl
 intro kq
 replace kq:=bw kq
 have Hq:=ak.refl [] qJ
 refine zL ka fg rfl bP.all rfl<|aC (Pg (nth t.au (gg+1)).size (nth t.au (gg+1)) (lR _) om BK false _ _ qJ (mT iz)) ?_
 rintro v47 wQ ⟨akR,jm⟩
 have ao3:=jm.size
 have Hq:=Hq.ext jm
 obtain rfl:=akR
 refine zp rfl<|ag ?_
 exact mg rfl Hq
 intro kq
 replace kq:=bw kq
 have Hq:=ak.refl [] qJ
 refine zs<|zs<|zp rfl<|ag ?_
 exact mg rfl Hq
 intro xx wQ jm
 have mD:=mD.ext jm
 refine zA<|ag ?_
 exact⟨(),⟨rfl,rfl,by rw[ie,iN hz,iN eh,iN eO,iN iJ,iP iU,show decide ((nth t.au (gg+1)).au.length=2)=decide (((nth t.au (gg+1)).au.length:Int)=2) from decide_eq_decide.2 om];rfl,rfl,rfl,rfl⟩,mD⟩
 have iU:=gI
 refine zr<|dQ rfl rfl rfl<|zA<|ag<|zc rfl (λjM=>?_) (λjM=>?_)
 have jr:=jM
 refine df<|zL ka fg rfl bP.all rfl<|aC (Pg (nth t.au (gg+1)).size (nth t.au (gg+1)) (lR _) om BK false _ _ pW (mT iz)) ?_
 rintro v46 qJ ⟨yS,nK⟩
 have JX:=nK.size
 have mD:=mD.ext nK
 obtain rfl:=yS
 refine zA<|ag ?_
 exact⟨(),⟨rfl,rfl,by rw[ie,iN hz,iN eh,iN eO,iN iJ,iN iU,iP jr];rfl,rfl,rfl,rfl⟩,mD⟩
 have jr:=jM
 refine bz ?_
 exact⟨(),⟨rfl,rfl,by rw[ie,iN hz,iN eh,iN eO,iN iJ,iN iU,iN jr];rfl,rfl,rfl,rfl⟩,mD⟩
 intro gu qJ e46 hI
 have hK:=hK.ext hI;have aK:=aK.ext hI
 refine zr<|zm<|eM rfl<|ag<|zc rfl (λlJ=>?_) (λlJ=>?_)
 subst hσe
 have hq:ie (((ic (cJ t) t.au.length).getD gg 0).toNat:Int) (nth t.au (gg+1))=false:=by simpa using lJ
 refine zr<|zA<|ag<|aV ?_
 exact⟨_,rfl,by rw[aaR om hq];rfl,hK⟩
 have hq:ie ((σ.getD gg 0).toNat:Int) (nth t.au (gg+1))=true:=by simpa using lJ
 refine bz<|df<|eI rfl rfl rfl (wrap_i64 _ om om)<|zm<|ag ?_
 exact⟨gg+1,⟨rfl,rfl,rfl,rfl,rfl⟩,⟨hK,aK,om,by intro i hi;rcases Nat.lt_or_ge i gg with h|h;exact dA i h;rw[show i=gg by omega];exact hq⟩,om⟩
 subst hσe
 have hq:=aaS hb (λi hi=>dA i om)
 refine gD<|gF rfl<|zr<|zA<|ag<|aV ?_
 exact⟨_,rfl,by rw[hq];rfl,hK⟩
def akS (t:aA) (dz:WF t) (v:Value) (L:List Nat) (w:World) (hv:bT L w v t):
  ck Tryz.prog 62 [v] w λr w'=>r= .bool (rV t)∧ak [] w w':=by
 have dK:=hv
 obtain⟨a,n,c,rfl,hn,bc⟩:=dO hv
 have hK:=ak.refl [] w
 refine cX [.tmp 2] 11 Tryz.func62 rfl Zq rfl rfl ?_
 refine zr<|fG rfl ?_
 intro w1 aK aT eh
 have hK:=hK.ext aK;have dK:=dK.ext aK
 refine zA<|ag<|zr<|zL ka fg rfl aT.all rfl<|aC (Hm t dz _ L w1 dK) ?_
 rintro v2 w2 ⟨dC,aq⟩
 have eH:=aq.size
 have hK:=hK.ext aq;have dK:=dK.ext aq;have aT:=aT.ext aq
 obtain rfl:=dC
 refine cY rfl rfl<|zm ?_
 apply fB 4 6 10 [6,7,8,9,10] (ak [] w2) rfl
 intro h1
 replace h1:=bw h1
 have Hr:=ak.refl [] w2
 refine zs<|zs<|zs<|zp rfl<|ag ?_
 exact mg rfl Hr
 intro h1
 replace h1:=bw h1
 have Hr:=ak.refl [] w2
 refine zL ka fg rfl aT.all rfl<|aC (Hm t dz _ L w2 dK) ?_
 rintro v3 w3 ⟨er,aJ⟩
 have gd:=aJ.size
 have Hr:=Hr.ext aJ
 obtain rfl:=er
 refine cY rfl rfl<|zp rfl<|ag ?_
 exact mg rfl Hr
 intro xx w4 aF
 have hK:=hK.ext aF
 refine zA<|ag<|aV ?_
 exact⟨_,rfl,rfl,hK⟩
def akT (L:List Nat) (d:Nat) (s:aj) (v:Value) (w:World):Prop:=
 ∃t tv r ok,v= .tuple #[tv,str r,.bool ok]∧bT L w tv t∧BJ d s t r ok
def akU:∀(d:Nat) (s:aj) (L:List Nat) (w:World),d<=60->s.length<=12000->(∀x,x∈L->x<w.heap.size)->
  ck Tryz.prog 64 [str s,.int .i64 ((60:Int)-(d:Int))] w λv w'=>akT L d s v w'∧ak [] w w':=by
 intro d
 induction d using Nat.strongRecOn with
 |_ d ih=>
 intro s L w hd hs hL
 have hK:=ak.refl [] w
 refine lH [.cell 4 58,.tmp 5,.tmp 6] 78 Tryz.func64 rfl Zr rfl rfl rfl ?_
 refine zr<|eD fg rfl rfl rfl ?_
 intro w1 aK aI eh
 have hK:=hK.grow;have hK:=hK.ext aK
 refine zA<|zA<|ag<|aQ<|zr<|zm<|aC (akw _ _ _) ?_
 rintro _ _ ⟨rfl,rfl⟩
 refine eM rfl<|ag<|zc rfl (λh1=>?_) (λh1=>?_)
 have wy:=h1
 refine zr<|zA<|ag<|aQ<|cS ?_
 refine fY (λk:Nat=>[(0,str s),(1,.int .i64 ((60:Int)-(d:Int))),(4,.pointer (some ⟨w.heap.size,0,none⟩)),(7,.int .i64 (k:Int))]) (λk w'=>w'=w1∧k<=(s.takeWhile fC).length) (λk=>s.length-k) (0) (⟨rfl,rfl,rfl,rfl⟩) (⟨rfl,om⟩) ?_
 intro gg w2 e2 hI
 obtain⟨rfl,Di⟩:=hI
 have E7:=Kt fC s gg Di
 have gx:=EW fC s
 refine aQ<|zr<|zm<|zm<|kO fh rfl rfl rfl<|fA rfl rfl rfl<|zm ?_
 apply fZ 5 19 24 [19,20,21,22,23,24] (λw'=>w2=w') rfl
 intro h2
 replace h2:=bw h2
 refine zm<|zm<|kE fh rfl rfl rfl rfl (jK om)<|aC (akB _ _) ?_
 rintro _ _ ⟨rfl,rfl⟩
 refine zp rfl<|ag ?_
 exact mg rfl rfl
 intro h2
 replace h2:=bw h2
 refine zs<|zs<|zs<|zs<|zp rfl<|ag ?_
 exact mg rfl rfl
 rintro xx _ rfl
 refine ag<|zc rfl (λh3=>?_) (λh3=>?_)
 have eW:=E7.2 (by simpa using h3)
 refine bz<|cS<|df<|zm<|eI rfl rfl rfl (wrap_i64 _ om om)<|zA<|ag ?_
 exact⟨gg+1,⟨rfl,rfl,rfl,rfl⟩,⟨rfl,om⟩,om⟩
 have E8:gg=(s.takeWhile fC).length:=Nat.le_antisymm Di (Nat.le_of_not_lt (λhh=>by have hx:=E7.1 hh;rw[hx.2,Bool.and_true,decide_eq_false_iff_not] at h3;omega))
 refine gD<|gF rfl<|aQ ?_
 refine ql et (cR w.heap.size ([str ((s.drop 0).take (gg-0)),.slice none 0 0]) 58) 12 (rA 27 9++[100009,5,6]) (rA 27 9++[100009,5,6]) [[],[],[0,1],[2],[],[],[4,5],[],[7],[3],[6],[8]] [λv _=>v=(str s),λv _=>v=(.int .i64 (gg:Int)),λv _=>v=(str ((s.drop 0).take (gg-0))),λv _=>v=(.agg #[str ((s.drop 0).take (gg-0)),.slice none 0 0]),λv _=>v=(str s),λv _=>v=(.int .i64 (gg:Int)),λv _=>v=(str ((s.drop gg).take (s.length-gg))),λv _=>v=(.int .i64 (gg:Int)),λv _=>v=(.bool (decide ((0:Int)<(gg:Int)))),λ_ ww=>aY ww w.heap.size ([str ((s.drop 0).take (gg-0)),.slice none 0 0]).toArray 58,λv _=>v=(str ((s.drop gg).take (s.length-gg))),λv _=>v=(.bool (decide ((0:Int)<(gg:Int))))] de (cZ (cZ (cZ (cZ (cZ (cZ (cZ (cZ (cZ (C6 (cZ (cZ trivial)))))))))))) (λwd aB=>?_) ?_
 refine bN ?_ ?_
 intro x vs w3 e aJ hd he
 replace aJ:=(cR w.heap.size ([str ((s.drop 0).take (gg-0)),.slice none 0 0]) 58).trans aB aJ
 replace he:e=aM (aN _ x _) []:=he
 subst he
 refine zm<|ag ?_
 exact dn ((cR w.heap.size ([str ((s.drop 0).take (gg-0)),.slice none 0 0]) 58).refl _) rfl
 refine bN ?_ ?_
 intro x vs w3 e aJ hd he
 replace aJ:=(cR w.heap.size ([str ((s.drop 0).take (gg-0)),.slice none 0 0]) 58).trans aB aJ
 replace he:e=aM (aN _ x _) []:=he
 subst he
 refine zm<|ag ?_
 exact dn ((cR w.heap.size ([str ((s.drop 0).take (gg-0)),.slice none 0 0]) 58).refl _) rfl
 refine bN ?_ ?_
 intro x vs w3 e aJ hd he
 have aR:(vs 0=(str s))∧(vs 1=(.int .i64 (gg:Int))):=hd
 obtain⟨d0,d1⟩:=aR
 replace aJ:=(cR w.heap.size ([str ((s.drop 0).take (gg-0)),.slice none 0 0]) 58).trans aB aJ
 replace he:e=aM (aN _ x _) [(27,vs 0),(28,vs 1)]:=he
 rw[d0,d1] at he
 subst he
 refine Bf fh rfl rfl rfl (.inl ⟨rfl,rfl⟩) (.inr ⟨_,rfl⟩) om om<|ag ?_
 exact dn ((cR w.heap.size ([str ((s.drop 0).take (gg-0)),.slice none 0 0]) 58).refl _) rfl
 refine bN ?_ ?_
 intro x vs w3 e aJ hd he
 have d2:vs 2=(str ((s.drop 0).take (gg-0))):=hd
 replace aJ:=(cR w.heap.size ([str ((s.drop 0).take (gg-0)),.slice none 0 0]) 58).trans aB aJ
 replace he:e=aM (aN _ x _) [(29,vs 2)]:=he
 rw[d2] at he
 subst he
 refine j7 (ZX _ _) rfl rfl<|ag ?_
 exact dn ((cR w.heap.size ([str ((s.drop 0).take (gg-0)),.slice none 0 0]) 58).refl _) rfl
 refine bN ?_ ?_
 intro x vs w3 e aJ hd he
 replace aJ:=(cR w.heap.size ([str ((s.drop 0).take (gg-0)),.slice none 0 0]) 58).trans aB aJ
 replace he:e=aM (aN _ x _) []:=he
 subst he
 refine zm<|ag ?_
 exact dn ((cR w.heap.size ([str ((s.drop 0).take (gg-0)),.slice none 0 0]) 58).refl _) rfl
 refine bN ?_ ?_
 intro x vs w3 e aJ hd he
 replace aJ:=(cR w.heap.size ([str ((s.drop 0).take (gg-0)),.slice none 0 0]) 58).trans aB aJ
 replace he:e=aM (aN _ x _) []:=he
 subst he
 refine zm<|ag ?_
 exact dn ((cR w.heap.size ([str ((s.drop 0).take (gg-0)),.slice none 0 0]) 58).refl _) rfl
 refine bN ?_ ?_
 intro x vs w3 e aJ hd he
 have aR:(vs 4=(str s))∧(vs 5=(.int .i64 (gg:Int))):=hd
 obtain⟨d4,d5⟩:=aR
 replace aJ:=(cR w.heap.size ([str ((s.drop 0).take (gg-0)),.slice none 0 0]) 58).trans aB aJ
 replace he:e=aM (aN _ x _) [(31,vs 4),(32,vs 5)]:=he
 rw[d4,d5] at he
 subst he
 refine Bf fh rfl rfl rfl (.inr ⟨_,rfl⟩) (.inl ⟨rfl,rfl⟩) om om<|ag ?_
 exact dn ((cR w.heap.size ([str ((s.drop 0).take (gg-0)),.slice none 0 0]) 58).refl _) rfl
 refine bN ?_ ?_
 intro x vs w3 e aJ hd he
 replace aJ:=(cR w.heap.size ([str ((s.drop 0).take (gg-0)),.slice none 0 0]) 58).trans aB aJ
 replace he:e=aM (aN _ x _) []:=he
 subst he
 refine zm<|ag ?_
 exact dn ((cR w.heap.size ([str ((s.drop 0).take (gg-0)),.slice none 0 0]) 58).refl _) rfl
 refine bN ?_ ?_
 intro x vs w3 e aJ hd he
 have d7:vs 7=(.int .i64 (gg:Int)):=hd
 replace aJ:=(cR w.heap.size ([str ((s.drop 0).take (gg-0)),.slice none 0 0]) 58).trans aB aJ
 replace he:e=aM (aN _ x _) [(34,vs 7)]:=he
 rw[d7] at he
 subst he
 refine jz rfl rfl rfl rfl rfl<|ag ?_
 exact dn ((cR w.heap.size ([str ((s.drop 0).take (gg-0)),.slice none 0 0]) 58).refl _) rfl
 refine bN ?_ ?_
 intro x vs w3 e aJ hd he
 have d3:vs 3=(.agg #[str ((s.drop 0).take (gg-0)),.slice none 0 0]):=hd
 replace aJ:=(cR w.heap.size ([str ((s.drop 0).take (gg-0)),.slice none 0 0]) 58).trans aB aJ
 obtain⟨us,vi,vj⟩:=aJ.2.2 ⟨_,(by rfl),aI⟩
 replace he:e=aM (aN _ x _) [(30,vs 3)]:=he
 rw[d3] at he
 subst he
 refine dw fg rfl rfl rfl vj (by rw[vi];rfl) ?_
 intro w4 aF hb iU
 refine ag ?_
 exact dn ⟨aF,λ_=>hb,λ_=>⟨_,rfl,hb⟩⟩ hb
 refine bN ?_ ?_
 intro x vs w3 e aJ hd he
 have d6:vs 6=(str ((s.drop gg).take (s.length-gg))):=hd
 replace aJ:=(cR w.heap.size ([str ((s.drop 0).take (gg-0)),.slice none 0 0]) 58).trans aB aJ
 replace he:e=aM (aN _ x _) [(33,vs 6)]:=he
 rw[d6] at he
 subst he
 refine zA<|ag ?_
 exact dn ((cR w.heap.size ([str ((s.drop 0).take (gg-0)),.slice none 0 0]) 58).refl _) rfl
 refine bN ?_ ?_
 intro x vs w3 e aJ hd he
 have d8:vs 8=(.bool (decide ((0:Int)<(gg:Int)))):=hd
 replace aJ:=(cR w.heap.size ([str ((s.drop 0).take (gg-0)),.slice none 0 0]) 58).trans aB aJ
 replace he:e=aM (aN _ x _) [(35,vs 8)]:=he
 rw[d8] at he
 subst he
 refine zA<|ag ?_
 exact dn ((cR w.heap.size ([str ((s.drop 0).take (gg-0)),.slice none 0 0]) 58).refl _) rfl
 exact trivial
 intro x vs qC ub bJ
 have d0:vs 0=(str s):=bJ 0 de
 have d1:vs 1=(.int .i64 (gg:Int)):=bJ 1 de
 have d2:vs 2=(str ((s.drop 0).take (gg-0))):=bJ 2 de
 have d3:vs 3=(.agg #[str ((s.drop 0).take (gg-0)),.slice none 0 0]):=bJ 3 de
 have d4:vs 4=(str s):=bJ 4 de
 have d5:vs 5=(.int .i64 (gg:Int)):=bJ 5 de
 have d6:vs 6=(str ((s.drop gg).take (s.length-gg))):=bJ 6 de
 have d7:vs 7=(.int .i64 (gg:Int)):=bJ 7 de
 have d8:vs 8=(.bool (decide ((0:Int)<(gg:Int)))):=bJ 8 de
 have d9:aY qC w.heap.size ([str ((s.drop 0).take (gg-0)),.slice none 0 0]).toArray 58:=bJ 9 de
 have d10:vs 10=(str ((s.drop gg).take (s.length-gg))):=bJ 10 de
 have d11:vs 11=(.bool (decide ((0:Int)<(gg:Int)))):=bJ 11 de
 have hK:=hK.aL ub.1 sx
 have aI:=d9
 change OW _ _ _ _ [] (aM (aN _ x _) (zZ 27 [vs 0,vs 1,vs 2,vs 3,vs 4,vs 5,vs 6,vs 7,vs 8]++[(100009,vs 9),(5,vs 10),(6,vs 11)])) _
 rw[d0,d1,d2,d3,d4,d5,d6,d7,d8,d10,d11]
 refine ag<|aV<|⟨[_,_,_],⟨gQ ka fg rfl aI rfl,rfl,rfl⟩,⟨.mk (s.takeWhile fC) [],_,s.dropWhile fC,_,by rw[List.drop_zero,Nat.sub_zero,E8,HD,Le,C9];rfl,lG o3,?_⟩,hK⟩
 unfold BJ
 rw[abq wy]
 by_cases hz:s.takeWhile fC=[]
 rw[iP hz];exact .inr ⟨rfl,by simp[hz]⟩
 rw[iN hz];refine .inl ⟨rfl,dT ?_⟩;have:=List.length_pos_iff.2 hz;omega
 obtain⟨r0,rfl⟩:=abo h1
 refine bz<|aQ<|zr<|zm<|dQ rfl rfl rfl<|ag<|zc rfl (λh4=>?_) (λh4=>?_)
 have OI:d=0:=by omega
 refine zr<|j7 (KB _) rfl rfl<|dw fg rfl rfl rfl aI rfl ?_
 intro w2 aq aI eO
 have hK:=hK.aL aq sx
 refine zA<|zA<|ag<|aV ?_
 exact⟨[_,_,_],⟨gQ ka fg rfl aI rfl,rfl,rfl⟩,⟨.mk [] [],_,[],_,rfl,lG o3,.inr ⟨by rw[OI];simp[fc],rfl⟩⟩,hK⟩
 have aR:∃d',d=d'+1:=⟨d-1,om⟩
 obtain⟨d',rfl⟩:=aR
 refine bz<|zr<|eD fg rfl rfl rfl ?_
 intro w2 aq dx eO
 have hK:=hK.grow;have hK:=hK.ext aq;have aI:=aI.grow;have aI:=aI.ext aq
 refine ag<|cS ?_
 have ao5:=aI.lt
 refine fY (λq:List aA×aj×Option Addr×Nat×Option Nat=>[(0,str q.2.1),(1,.int .i64 ((60:Int)-((d'+1:Nat):Int))),(4,.pointer (some ⟨w.heap.size,0,none⟩)),(8,.pointer (some ⟨w1.heap.size,0,none⟩))]) (λq w'=>ak [] w w'∧aY w' w.heap.size [str [],.slice none 0 0].toArray 58∧aY w' w1.heap.size [str [],.slice q.2.2.1 q.1.length q.2.2.2.1].toArray 58∧Gr w.heap.size (w.heap.size::w1.heap.size::L) w' 58 2 (.slice q.2.2.1 q.1.length q.2.2.2.1) q.2.2.2.2 (dH q.1)∧0<q.2.1.length∧q.2.1.length+q.1.length<=12000∧mQ (d'+1) r0=(mQ (d'+1) (q.2.1.drop 1)).map (λp=>(q.1++p.1,p.2))) (λq=>q.2.1.length) (([],40::r0,none,0,none)) (⟨rfl,rfl,rfl,rfl⟩) (⟨hK,aI,dx,Gr.nil (by intro x hx;simp at hx;rcases hx with rfl|rfl|hx;omega;omega;have:=hL x hx;omega) om,sm,by simp at hs⊢;omega,sm⟩) ?_
 intro gg w3 e3 hI
 obtain⟨acc,sc,a,cc,g⟩:=gg
 dsimp only at hI⊢
 obtain⟨hK,aI,dx,hO,SI,ao6,sy⟩:=hI
 have iY:=hK.size
 have Wx:=aI.lt
 have ao7:=dx.lt
 refine cS<|zr<|zm<|Bf (l:=1) fh rfl rfl rfl (.inr ⟨_,rfl⟩) (.inl ⟨rfl,rfl⟩) om om<|zm<|eI rfl rfl rfl (show IntKind.i64.wrap ((60:Int)-((d'+1:Nat):Int)+1)=(60:Int)-(d':Int) by rw[wrap_i64 _ om om];omega) ?_
 rw[Le]
 refine aC (ih d' om (sc.drop 1) (g.toList++(w.heap.size::w1.heap.size::L)) w3 om so hO.all) ?_
 rintro v4 w4 ⟨eJ,aF⟩
 have gK:=aF.size
 have hK:=hK.ext aF;have aI:=aI.ext aF;have dx:=dx.ext aF;have hO:=hO.ext aF
 obtain⟨t,tv,r,ok,rfl,ht,hm⟩:=eJ
 obtain⟨pa,pn,pc,rfl,fR,bc⟩:=dO ht
 subst fR
 refine zm<|zx (i:=0) rfl rfl<|zx (i:=1) rfl rfl<|zx (i:=2) rfl rfl<|eD fg rfl rfl rfl ?_
 intro w5 aU cV jr
 have hK:=hK.grow;have hK:=hK.ext aU;have aI:=aI.grow;have aI:=aI.ext aU;have dx:=dx.grow;have dx:=dx.ext aU;have hO:=hO.alloc aU jr;have ht:=ht.grow;have ht:=ht.ext aU
 refine dw fg rfl rfl rfl cV rfl ?_
 intro w6 bF cV lI
 have hK:=hK.aL bF sx;have aI:=aI.aL bF sx;have dx:=dx.aL bF sx;have hO:=hO.aL bF sx;have ht:=ht.aL bF sx
 refine zA<|zA<|ag<|aQ<|zr<|zm<|eM rfl<|zm ?_
 apply fB 3 50 53 [50,51,52,53] (λw'=>w6=w') rfl
 intro h5
 replace h5:=bw h5
 refine zs<|zs<|zp rfl<|ag ?_
 exact mg rfl rfl
 intro h5
 replace h5:=bw h5
 refine zm<|cY rfl rfl<|zp rfl<|ag ?_
 exact mg rfl rfl
 rintro xx _ rfl
 refine zm ?_
 apply fB 9 54 63 [54,55,56,57,58,59,60,61,62,63] (λw'=>w6=w') rfl
 intro h6
 replace h6:=bw h6
 refine zs<|zs<|zs<|zs<|zs<|zs<|zs<|zs<|zp rfl<|ag ?_
 exact mg rfl rfl
 intro h6
 replace h6:=bw h6
 simp at h6
 have oH:=List.length_pos_iff.2 h6.2
 refine zm<|kE (i:=0) fh rfl rfl rfl rfl (jK oH)<|uA rfl rfl rfl rfl rfl<|zm ?_
 apply fZ 4 58 62 [58,59,60,61,62] (λw'=>w6=w') rfl
 intro h7
 replace h7:=bw h7
 refine zm<|kE (i:=0) fh rfl rfl rfl rfl (jK oH)<|uA rfl rfl rfl rfl rfl<|zp rfl<|ag ?_
 exact mg rfl rfl
 intro h7
 replace h7:=bw h7
 refine zs<|zs<|zs<|zp rfl<|ag ?_
 exact mg rfl rfl
 rintro xx _ rfl
 refine zp rfl<|ag ?_
 exact mg rfl rfl
 rintro xx _ rfl
 refine ag<|zc rfl (λh8=>?_) (λh8=>?_)
 have hR:fc (d'+1) (40::r0)=none:=by rw[Da,sy,abu hm h8];rfl
 refine zr<|j7 (KB _) rfl rfl<|dw fg rfl rfl rfl aI rfl ?_
 intro w7 cz aI qm
 have hK:=hK.aL cz sx
 refine zA<|zA<|ag<|aV ?_
 exact⟨[_,_,_],⟨gQ ka fg rfl aI rfl,rfl,rfl⟩,⟨.mk [] [],_,[],_,rfl,lG o3,.inr ⟨hR,rfl⟩⟩,hK⟩
 obtain⟨oY,oH,iz⟩:=abv hm h8
 refine bz<|zr<|zf uJ rfl<|zl sw rfl (dx.at rfl)<|zL ka fg rfl cV.all rfl<|gH nP fg rfl rfl ?_
 intro w7 cz akV qm
 have hK:=hK.ext cz;have aI:=aI.ext cz;have dx:=dx.ext cz;have hO:=hO.ext cz;have ht:=ht.ext cz
 refine K5 nP fg rfl rfl rfl rfl rfl rfl hO akV ht.K6 om ?_
 intro a2 nQ g2 w8 gU cv
 have dS:=cv.size
 have hK:=hO.since hK cv
 have aI:=aI.aL cv (hO.Dr sm);have dx:=dx.aL cv (hO.Dr sm)
 refine zf uJ rfl<|gY KN rfl rfl rfl dx rfl ?_
 intro w9 aG dx dP
 have hK:=hK.aL aG sx;have aI:=aI.aL aG sx;have gU:=gU.aL aG sx
 refine ag<|zr<|zm<|zA<|ag<|zr<|zm<|kE (i:=0) fh rfl rfl rfl rfl (jK oY)<|dQ rfl rfl rfl<|ag<|zc rfl (λh9=>?_) (λh9=>?_)
 have zG:r.getD 0 0=41:=UInt8.toNat_inj.1 (by have Bv:(41:UInt8).toNat=41:=rfl;rw[Bv];omega)
 have hR:fc (d'+1) (40::r0)=some (.mk [] (acc++[t]),r.drop 1):=by rw[Da,sy,iz,iP zG];rfl
 refine aQ ?_
 refine ql et (cR w.heap.size ([str [],.slice a2 (acc++[t]).length nQ]) 58) 6 [75,76,77,100003,5,6] [75,76,77,100003,5,6] [[],[],[1],[0],[2],[]] [λv _=>v=(.agg #[str [],.slice a2 (acc++[t]).length nQ]),λv _=>v=(str r),λv _=>v=(str ((r.drop 1).take (r.length-1))),λ_ ww=>aY ww w.heap.size ([str [],.slice a2 (acc++[t]).length nQ]).toArray 58,λv _=>v=(str ((r.drop 1).take (r.length-1))),λv _=>v=(.bool true)] de (cZ (cZ (cZ (C6 (cZ (cZ trivial)))))) (λwd aB=>?_) ?_
 refine bN ?_ ?_
 intro x vs cO e bV hd he
 replace bV:=(cR w.heap.size ([str [],.slice a2 (acc++[t]).length nQ]) 58).trans aB bV
 have dx:=dx.aL bV.1 sx
 replace he:e=aM (aN _ x _) []:=he
 subst he
 refine zL ka fg rfl dx.all rfl<|ag ?_
 exact dn ((cR w.heap.size ([str [],.slice a2 (acc++[t]).length nQ]) 58).refl _) rfl
 refine bN ?_ ?_
 intro x vs cO e bV hd he
 replace bV:=(cR w.heap.size ([str [],.slice a2 (acc++[t]).length nQ]) 58).trans aB bV
 replace he:e=aM (aN _ x _) []:=he
 subst he
 refine zm<|ag ?_
 exact dn ((cR w.heap.size ([str [],.slice a2 (acc++[t]).length nQ]) 58).refl _) rfl
 refine bN ?_ ?_
 intro x vs cO e bV hd he
 have d1:vs 1=(str r):=hd
 replace bV:=(cR w.heap.size ([str [],.slice a2 (acc++[t]).length nQ]) 58).trans aB bV
 replace he:e=aM (aN _ x _) [(76,vs 1)]:=he
 rw[d1] at he
 subst he
 refine Bf (l:=1) fh rfl rfl rfl (.inr ⟨_,rfl⟩) (.inl ⟨rfl,rfl⟩) om om<|ag ?_
 exact dn ((cR w.heap.size ([str [],.slice a2 (acc++[t]).length nQ]) 58).refl _) rfl
 refine bN ?_ ?_
 intro x vs cO e bV hd he
 have d0:vs 0=(.agg #[str [],.slice a2 (acc++[t]).length nQ]):=hd
 replace bV:=(cR w.heap.size ([str [],.slice a2 (acc++[t]).length nQ]) 58).trans aB bV
 obtain⟨us,vi,vj⟩:=bV.2.2 ⟨_,(by rfl),aI⟩
 replace he:e=aM (aN _ x _) [(75,vs 0)]:=he
 rw[d0] at he
 subst he
 refine dw fg rfl rfl rfl vj (by rw[vi];rfl) ?_
 intro eY cM hb uK
 refine ag ?_
 exact dn ⟨cM,λ_=>hb,λ_=>⟨_,rfl,hb⟩⟩ hb
 refine bN ?_ ?_
 intro x vs cO e bV hd he
 have d2:vs 2=(str ((r.drop 1).take (r.length-1))):=hd
 replace bV:=(cR w.heap.size ([str [],.slice a2 (acc++[t]).length nQ]) 58).trans aB bV
 replace he:e=aM (aN _ x _) [(77,vs 2)]:=he
 rw[d2] at he
 subst he
 refine zA<|ag ?_
 exact dn ((cR w.heap.size ([str [],.slice a2 (acc++[t]).length nQ]) 58).refl _) rfl
 refine bN ?_ ?_
 intro x vs cO e bV hd he
 replace bV:=(cR w.heap.size ([str [],.slice a2 (acc++[t]).length nQ]) 58).trans aB bV
 replace he:e=aM (aN _ x _) []:=he
 subst he
 refine zA<|ag ?_
 exact dn ((cR w.heap.size ([str [],.slice a2 (acc++[t]).length nQ]) 58).refl _) rfl
 exact trivial
 intro x vs pr jE bJ
 have d0:vs 0=(.agg #[str [],.slice a2 (acc++[t]).length nQ]):=bJ 0 de
 have d1:vs 1=(str r):=bJ 1 de
 have d2:vs 2=(str ((r.drop 1).take (r.length-1))):=bJ 2 de
 have d3:aY pr w.heap.size ([str [],.slice a2 (acc++[t]).length nQ]).toArray 58:=bJ 3 de
 have d4:vs 4=(str ((r.drop 1).take (r.length-1))):=bJ 4 de
 have d5:vs 5=(.bool true):=bJ 5 de
 have hK:=hK.aL jE.1 sx;have gU:=gU.aL jE.1 sx
 have aI:=d3
 change OW _ _ _ _ [] (aM (aN _ x _) (zZ 75 [vs 0,vs 1,vs 2]++[(100003,vs 3),(5,vs 4),(6,vs 5)])) _
 rw[d0,d1,d2,d4,d5]
 refine ag<|aV ?_
 exact⟨[_,_,_],⟨gQ ka fg rfl aI rfl,rfl,rfl⟩,⟨.mk [] (acc++[t]),_,r.drop 1,_,by rw[Le];rfl,lG (gU.trees.jk (λx hx=>by simp[hx])),.inl ⟨hR,rfl⟩⟩,hK⟩
 have zG:r.getD 0 0≠41:=λh=>h9 (by rw[h];rfl)
 refine bz ?_
 exact⟨(acc++[t],r,a2,nQ,g2),⟨rfl,rfl,rfl,rfl⟩,⟨hK,aI,dx,gU.jk (λx hx=>mK _ hx),oY,by simp at oH⊢;omega,by rw[sy,iz,iN zG,map_append]⟩,by simp at oH;dsimp only;omega⟩
end Go.Proofs.YtigijcjccmdmhaaGreatDoor
