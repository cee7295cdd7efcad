/- Lemmas for the law FnProgram, no statement of their own: no conditions. -/
import Derived.Test.YtigijcjccmdmhaaGreatDoorGe
import Derived.Shelf.Bits.Mul64
import Derived.Shelf.LaysM
import Derived.Shelf.Small.Wraps
import Derived.Shelf.Strconv.Atoi
import Derived.Shelf.Strconv.Itoa0
import Derived.Shelf.Strconv.Itoa1
import Derived.Shelf.Strconv.Itoa2
import Derived.Shelf.Strconv.Itoa3
import Derived.Shelf.Strings.Builder1
import Derived.Shelf.Strings.Builder2
import Derived.Shelf.Strings.Builder2Cap
import Derived.Shelf.Strings.BuilderF
import Derived.Shelf.Strings.BuilderK
import Derived.Shelf.Strings.Prefix
import Derived.Shelf.Strings.Repeat
namespace Go.Proofs.YtigijcjccmdmhaaGreatDoor
open Go
variable {w w':World} {B b b6 b7 i q q':Nat} {L:List Nat} {v v1 v2:Value} {g g1 g2:Option Nat} {gss:List (Option Nat×Option Nat)} {vss:List (List Value)} {bs:List Bk} {xs ys:List aj}
def OQ:List aj:=[[97],[98],[99],[120,49],[121,48]]
def OR:List aj:=[[102],[103],[102,49]]
def OS:List aj:=[[120],[122],[120,50]]
def J2:List aj:=[[43],[45],[42]]
def Hg (d P:Nat):Prop:=∀(ns ts:List aj) (want:aj) (br q:Nat) (v1 v2:Value) (w:World),ns.length=ts.length->ns.length+2*d<=100->(∀x,x∈ns->x.length<=8000)->want.length+100*d<=26000->q+20*P<=800000000->dZ w br q->bI [br] w v1 ns->bI [br] w v2 ts->
  bZ Tryz.prog 85 [.pointer (some ⟨br,0,none⟩),.agg #[v1,v2],str want,.int .i64 (d:Int)] w λr w'=>(∃x,r=str x∧x.length<=100000*P)∧dZ w' br (q+20*P)∧ak [br] w w'
theorem J3 {ns:List aj} {x:aj} (h:∀x,x∈ns->x.length<=8000) (hx:x.length<=8000):∀y,y∈ns++[x]->y.length<=8000:=λy hy=>by
 rcases mA.1 hy with h9|h9
 ·exact h y h9
 ·simp only[List.mem_singleton] at h9;rw[h9];exact hx
theorem V2 {s sg:aj} {o:Option (Ty×Ty)} (h:BY s sg o):(sP o).length<=100∧(yj o).length<=100:=by
 cases o with
 |none=>exact⟨by decide,by decide⟩
 |some p=>
  obtain⟨g,_,_,h3⟩:=h
  have e:(Ty.op g p.1 p.2).n=1+p.1.n+p.2.n:=rfl
  have h1:=p.1.len
  have h2:=p.2.len
  exact⟨by show p.1.text.length<=100;omega,by show p.2.text.length<=100;omega⟩
def BuP (d P:Nat):Prop:=∀(ns ts:List aj) (want:aj) (br q:Nat) (v1 v2:Value) (w:World),ns.length=ts.length->ns.length+2*(d+1)<=100->(∀x,x∈ns->x.length<=8000)->want.length+100*(d+1)<=26000->q+40*P+20<=800000000->dZ w br q->bI [br] w v1 ns->bI [br] w v2 ts->
  bZ Tryz.prog 118 [.pointer (some ⟨br,0,none⟩),.agg #[v1,v2],str want,.int .i64 ((d+1:Nat):Int)] w λr w'=>(∃x,r=str x∧x.length<=200000*P+30000)∧dZ w' br (q+40*P+10)∧ak [br] w w'
set_option maxHeartbeats 4000000 in
theorem aje (d P:Nat) (hd:d<=10) (hP:1<=P) (V3:P<=1000000) (ih:Hg d P):BuP d P:=by
 intro ns ts want br q v1 v2 w hl D3 hs hw hq h cV cS
 obtain⟨a1,n1,c1,rfl,fK⟩:=eI cV
 obtain⟨a2,n2,c2,rfl,fu⟩:=eI cS
 subst fK
 subst fu
 have iO:=h.lt
 have hk:=ak.refl [br] w
 refine cU [.tmp 8] 119 Tryz.func118 rfl X6 rfl rfl ?_
 refine zr<|fA rfl ?_
 intro w1 aJ bQ dV
 have hk:=hk.ext aJ;have h:=h.ext aJ;have cV:=cV.ext aJ;have cS:=cS.ext aJ
 refine zA<|ag<|zr<|zm ?_
 have bQ:fh [br] w1 w.heap.size _ _:=⟨bQ,by simp;omega⟩
 refine aC (Te want w1) ?_
 rintro v2 w2 ⟨dz,aq⟩
 have dR:=aq.size
 have hk:=hk.ext aq;have h:=h.ext aq;have cV:=cV.ext aq;have cS:=cS.ext aq;have bQ:=bQ.ext aq
 obtain⟨o1,xe,rfl⟩:=dz
 have hAB:=V2 xe
 refine zm<|zx (i:=0) rfl rfl<|zx (i:=1) rfl rfl<|zx (i:=2) rfl rfl<|zA<|zA<|zA<|ag<|zr<|zm<|aC (Td want w2) ?_
 rintro v3 w3 ⟨et,aK⟩
 have gd:=aK.size
 have hk:=hk.ext aK;have h:=h.ext aK;have cV:=cV.ext aK;have cS:=cS.ext aK;have bQ:=bQ.ext aK
 obtain⟨o2,vw,rfl⟩:=et
 have hCE:=V2 vw
 refine zm<|zx (i:=0) rfl rfl<|zx (i:=1) rfl rfl<|zx (i:=2) rfl rfl<|zA<|zA<|zA<|ag<|zr<|zm<|mO rfl rfl rfl rfl rfl (j5 d om _ om)<|zA<|ag<|aQ<|cP<|zr<|zm<|zA<|ag<|zc rfl (λh1=>?_) (λh1=>?_)
 refine aQ ?_
 apply kc eu ([br]) 14 (rA 35 14) (rA 35 14) [[],[],[],[],(rA 0 4),[4],[5],[],[],[],[],(rA 7 4),[6,11],[12]] [Ie.v _,Ie.v _,Ie.v _,Ie.v _,Ie.q 0 (fun(v:Value)=>∃x,v=str x∧x.length<=100000*P),Ie.p (fun(G:List Nat) (v:Value) (ww:World)=>∃x,v=str x∧x.length<=100000*P+100),Ie.p (fun(G:List Nat) (v:Value) (ww:World)=>∃x,v=str x∧x.length<=100000*P+200),Ie.v _,Ie.v _,Ie.v _,Ie.v _,Ie.q 1 (fun(v:Value)=>∃x,v=str x∧x.length<=100000*P),Ie.p (fun(G:List Nat) (v:Value) (ww:World)=>∃x,v=str x∧x.length<=200000*P+300),Ie.p (fun(G:List Nat) (v:Value) (ww:World)=>∃x,v=str x∧x.length<=200000*P+400)] [4,11] [fun(G:List Nat) (vs:List Value) (ww:World)=>G=[br]∧ak [br] w3 ww∧dZ ww br q,fun(G:List Nat) (vs:List Value) (ww:World)=>G=[br]∧ak [br] w3 ww∧dZ ww br (q+20*P),fun(G:List Nat) (vs:List Value) (ww:World)=>G=[br]∧ak [br] w3 ww∧dZ ww br (q+40*P)] de rfl ((λz hz=>by simp at hz;subst hz;exact h.lt)) (by exact⟨λG v w G' w' h k=>h,λG v w G' w' h k=>h,λG v w G' w' h k=>h,λG v w G' w' h k=>h,trivial⟩) (by exact⟨λG vs w w' ⟨h1,h2,h3⟩ k=>⟨h1,h2.ext k,h3.ext k⟩,λG vs w w' ⟨h1,h2,h3⟩ k=>⟨h1,h2.ext k,h3.ext k⟩,λG vs w w' ⟨h1,h2,h3⟩ k=>⟨h1,h2.ext k,h3.ext k⟩,trivial⟩) (⟨rfl,ak.refl _ _,h⟩)
 refine cR ?_
 refine vf (λx w4 G4 aW te yY=>?_) ?_
 have bQ:=bQ.go te
 refine zL mT kP rfl bQ.all rfl ?_
 exact fv
 refine cR ?_
 refine cR ?_
 refine ve 0 (λx w4 G4 aW te yY hJ hlen=>?_) ?_
 have bo:=jO hlen
 subst bo
 have cV:=cV.go te;have cS:=cS.go te
 obtain⟨cz,cB,h⟩:=hJ
 subst cz
 refine aC (ih ns ts (sP o1) br q _ _ w4 hl om hs om om h cV cS) ?_
 rintro v9 w5 ⟨⟨x9,e9,jg⟩,h,aG⟩
 subst e9
 exact fq ([br]) (Fr.of aG sm) ((λz hz=>lL (yY z hz) aG.size)) (⟨rfl,cB.trans aG,h.more om⟩) (⟨_,rfl,jg⟩)
 refine vf (λx w4 G4 aW te yY=>?_) ?_
 intro v4 OT d4
 obtain⟨y4,e4,BB⟩:=d4
 subst e4
 refine cm rfl rfl (by(try simp);omega) ?_
 exact ff (ak.refl _ _) (⟨_,rfl,by simp;omega⟩)
 refine vf (λx w4 G4 aW te yY=>?_) ?_
 intro v5 d5
 obtain⟨y5,e5,hl5⟩:=d5
 subst e5
 refine cm rfl rfl (by(try simp);omega) ?_
 exact ff (ak.refl _ _) (⟨_,rfl,by simp;omega⟩)
 refine cR ?_
 refine vf (λx w4 G4 aW te yY=>?_) ?_
 have bQ:=bQ.go te
 refine zL mT kP rfl bQ.all rfl ?_
 exact fv
 refine cR ?_
 refine cR ?_
 refine ve 1 (λx w4 G4 aW te yY hJ hlen=>?_) ?_
 have aR:=jP hlen
 obtain⟨q0,bo⟩:=aR
 subst bo
 have cV:=cV.go te;have cS:=cS.go te
 obtain⟨cz,cB,h⟩:=hJ
 subst cz
 refine aC (ih ns ts (yj o1) br (q+20*P) _ _ w4 hl om hs om om h cV cS) ?_
 rintro v9 w5 ⟨⟨x9,e9,jg⟩,h,aG⟩
 subst e9
 exact fq ([br]) (Fr.of aG sm) ((λz hz=>lL (yY z hz) aG.size)) (⟨rfl,cB.trans aG,h.more om⟩) (⟨_,rfl,jg⟩)
 refine vf (λx w4 G4 aW te yY=>?_) ?_
 intro v6 d6
 intro v11 ajg d11
 obtain⟨y6,e6,hl6⟩:=d6
 subst e6
 obtain⟨V4,Cn,V5⟩:=d11
 subst Cn
 refine cm rfl rfl (by(try simp);omega) ?_
 exact ff (ak.refl _ _) (⟨_,rfl,by simp;omega⟩)
 refine vf (λx w4 G4 aW te yY=>?_) ?_
 intro v12 d12
 obtain⟨y12,qK,aji⟩:=d12
 subst qK
 refine cm rfl rfl (by(try simp);omega) ?_
 exact ff (ak.refl _ _) (⟨_,rfl,by simp;omega⟩)
 exact trivial
 intro x nP G43 aW aoq aor hJ hlen
 have aR:=lH hlen
 obtain⟨q0,q1,bo⟩:=aR
 subst bo
 intro v4 OT d4
 intro v5 d5
 intro v6 d6
 intro v11 ajg d11
 intro v12 d12
 intro wP d13
 change OW _ _ _ _ _ (aM (aN _ x _) (zZ 35 [_,_,_,_,_,_,_,_,_,_,_,_,_,_])) _
 obtain⟨cz,cB,h⟩:=hJ
 subst cz
 obtain⟨yz,ez,Eu⟩:=d13
 subst ez
 refine zA<|ag<|aV ?_
 exact⟨_,rfl,⟨yz,rfl,om⟩,h.more om,hk.trans cB⟩
 refine zr<|zm<|zA<|ag<|zc rfl (λh2=>?_) (λh2=>?_)
 refine zr<|zm<|pQ bh bB rfl rfl rfl rfl rfl ?_
 intro w4 aD ajj iL
 have hk:=hk.ext aD;have h:=h.ext aD;have cV:=cV.ext aD;have cS:=cS.ext aD;have bQ:=bQ.ext aD
 have mn:=h.lt
 refine aC (mJ OR de de br q om _ w4 h (aY.eF OR ajj (λhx=>by simp at hx;omega) de)) ?_
 rintro lJ w5 ⟨⟨fn,ajk,iE⟩,h,aG⟩
 subst iE
 have aos:=(show∀x,x∈OR->x.length<=30 from by decide) _ ajk
 have hk:=hk.trans aG
 have cV:=cV.aL aG sm;have cS:=cS.aL aG sm;have bQ:=bQ.aL aG sm
 have mn:=h.lt
 refine zA<|ag<|zr<|zm<|pQ bh bB rfl rfl rfl rfl rfl ?_
 intro w6 bD B2 lB
 have hk:=hk.ext bD;have h:=h.ext bD;have cV:=cV.ext bD;have cS:=cS.ext bD;have bQ:=bQ.ext bD
 refine aC (mJ OS de de br (q+1) om _ w6 h (aY.eF OS B2 (λhx=>by simp at hx;omega) de)) ?_
 rintro lJ w7 ⟨⟨xn,ajl,iE⟩,h,aG⟩
 subst iE
 have aot:=(show∀x,x∈OS->x.length<=30 from by decide) _ ajl
 have hk:=hk.trans aG
 have cV:=cV.aL aG sm;have cS:=cS.aL aG sm;have bQ:=bQ.aL aG sm
 have mn:=h.lt
 refine zA<|ag<|zr<|zL mT kP rfl bQ.all rfl<|zm<|zm<|aC (J0 ns ts xn (sP o2) om om _ _ [br] w7 (λx hx=>by simp at hx;subst hx;exact h.lt) cV cS) ?_
 rintro v8 w8 ⟨oP,cu⟩
 have yu:=cu.size
 have hk:=hk.ext cu;have h:=h.ext cu;have cV:=cV.ext cu;have cS:=cS.ext cu;have bQ:=bQ.ext cu
 obtain⟨u1,u2,e9,rG,rH⟩:=oP
 subst e9
 have cJ:=eI rG
 obtain⟨b1,m1,d1,e1,_⟩:=cJ
 subst e1
 have cJ:=eI rH
 obtain⟨b2,m2,d2,e2,_⟩:=cJ
 subst e2
 refine eC kP rfl rfl rfl ?_
 intro w9 aG kj Nn
 have hsb:=h.lt
 have aou:br<w8.heap.size:=hsb
 have aov:w.heap.size<w8.heap.size:=bQ.lt
 have aow:w.heap.size<=w8.heap.size:=hk.size
 have hk:=hk.ext aG;have h:=h.ext aG
 have cV:=(bI.fresh cV (L':=w8.heap.size::[br]) (λx hx=>by rcases mC.1 hx with h9|h9;(·right;omega);(·exact .inl h9))).ext aG
 have cS:=(bI.fresh cS (L':=w8.heap.size::[br]) (λx hx=>by rcases mC.1 hx with h9|h9;(·right;omega);(·exact .inl h9))).ext aG
 have rG:=(bI.fresh rG (L':=w8.heap.size::[br]) (λx hx=>by rcases mC.1 hx with h9|h9;(·right;omega);(·exact .inl h9))).ext aG
 have rH:=(bI.fresh rH (L':=w8.heap.size::[br]) (λx hx=>by rcases mC.1 hx with h9|h9;(·right;omega);(·exact .inl h9))).ext aG
 have bQ:=(bQ.ext aG)
 refine dk (vs:=[.slice b1 m1 d1,.slice b2 m2 d2]) kP rfl rfl rfl kj rfl ?_
 intro cN bU kj dP
 have hk:=hk.since bU (λx hx=>.inr (by simp at hx;omega))
 have h:=h.aO bU (λx hx=>by simp at hx;omega)
 have cV:=bI.aL cV bU sm
 have cS:=bI.aL cS bU sm
 have rG:=bI.aL rG bU sm
 have rH:=bI.aL rH bU sm
 have bQ:fh [br] cN _ _ _:=⟨bQ.ju.aO bU so,bQ.out⟩
 refine ag<|aQ<|zr<|zm<|aC (mm 6 de de br (q+2) om cN h) ?_
 rintro v9 eW ⟨⟨z,e9,hz⟩,h,aG⟩
 subst e9
 have rG:=bI.aL rG aG sm
 have rH:=bI.aL rH aG sm
 have kj:=kj.aO aG so
 have hk:=hk.trans aG
 have cV:=cV.aL aG sm;have cS:=cS.aL aG sm;have bQ:=bQ.aL aG sm
 have mn:=h.lt
 refine dO rfl rfl rfl<|ag ?_
 refine jh (λg:List aj×List aj×Value×Value=>[(0,.pointer (some ⟨br,0,none⟩)),(12,str (sP o2)),(13,str (yj o2)),(15,.int .i64 (d:Int)),(16,str fn),(17,str xn),(18,.pointer (some ⟨w8.heap.size,0,none⟩))]) (λg ww=>ak [br] w ww∧dZ ww br (q+3)∧aY ww w8.heap.size [g.2.2.1,g.2.2.2].toArray 104∧bI [br] ww g.2.2.1 g.1∧bI [br] ww g.2.2.2 g.2.1∧g.1.length=g.2.1.length∧g.1.length+2*d<=100∧∀x,x∈g.1->x.length<=8000) ?_ ?_
 refine zc rfl (λh3=>?_) (λh3=>?_)
 refine db<|zL mT kP rfl bQ.all rfl<|zm<|zm<|aC (J0 ns ts fn want om om _ _ (w8.heap.size::[br]) eW (λx hx=>by have:=kj.lt;simp at hx;rcases hx with hx|hx<;>omega) cV cS) ?_
 rintro v12 gj ⟨sX,dD⟩
 have D5:=dD.size
 have hk:=hk.ext dD;have h:=h.ext dD;have kj:=kj.ext dD
 obtain⟨u3,u4,e9,rG,rH⟩:=sX
 subst e9
 have cJ:=eI rG
 obtain⟨b3,m3,d3,e1,_⟩:=cJ
 subst e1
 have cJ:=eI rH
 obtain⟨b4,m4,d4,e2,_⟩:=cJ
 subst e2
 refine zm<|zm<|aC (J0 (ns++[fn]) (ts++[want]) xn (sP o2) so so _ _ (w8.heap.size::[br]) gj (λx hx=>by have:=kj.lt;simp at hx;rcases hx with hx|hx<;>omega) rG rH) ?_
 rintro wP jC ⟨vC,fM⟩
 have Gv:=fM.size
 have hk:=hk.ext fM;have h:=h.ext fM;have kj:=kj.ext fM
 obtain⟨u5,u6,e9,J4,J6⟩:=vC
 subst e9
 have cJ:=eI J4
 obtain⟨b5,m5,d5,e1,_⟩:=cJ
 subst e1
 have cJ:=eI J6
 obtain⟨b6,m6,d6,e2,_⟩:=cJ
 subst e2
 refine dk (vs:=[.slice b5 m5 d5,.slice b6 m6 d6]) kP rfl rfl rfl kj rfl ?_
 intro jf dL kj dP
 have hk:=hk.since dL (λx hx=>.inr (by simp at hx;omega))
 have h:=h.aO dL (λx hx=>by simp at hx;omega)
 have J4:=bI.aL J4 dL sm
 have J6:=bI.aL J6 dL sm
 refine ag ?_
 exact⟨((ns++[fn])++[xn],(ts++[want])++[sP o2],_,_),⟨rfl,rfl,rfl,rfl,rfl,rfl,rfl⟩,hk,h,kj,bI.fresh J4 (λx hx=>.inl (by simp at hx;simp[hx])),bI.fresh J6 (λx hx=>.inl (by simp at hx;simp[hx])),by simp;omega,by simp;omega,J3 (J3 hs om) om⟩
 refine bA ?_
 exact⟨(ns++[xn],ts++[sP o2],_,_),⟨rfl,rfl,rfl,rfl,rfl,rfl,rfl⟩,hk,h,kj,bI.fresh rG (λx hx=>.inl (by simp at hx;simp[hx])),bI.fresh rH (λx hx=>.inl (by simp at hx;simp[hx])),by simp;omega,by simp;omega,J3 hs om⟩
 intro gu gj qK hI
 obtain⟨zs,us,p1,p2⟩:=gu
 dsimp only at hI⊢
 obtain⟨hk,h,kj,qi,uJ,GZ,hzn,xu⟩:=hI
 have cJ:=eI qi
 obtain⟨b1,m1,d1,e1,_⟩:=cJ
 subst e1
 have cJ:=eI uJ
 obtain⟨b2,m2,d2,e2,_⟩:=cJ
 subst e2
 refine zr<|zm<|cm rfl rfl so<|cm rfl rfl so<|zm<|cm rfl rfl so<|cm rfl rfl so<|zm<|cm rfl rfl so<|cm rfl rfl so<|zm<|cm rfl rfl so<|cm rfl rfl so<|zm<|zL mT kP rfl kj.all rfl<|zm<|zm ?_
 refine aC (ih zs us (yj o2) br (q+3) _ _ gj GZ om xu om om h qi uJ) ?_
 rintro v9 jC ⟨⟨x9,e9,jg⟩,h,aG⟩
 subst e9
 have hk:=hk.trans aG
 refine cm rfl rfl so<|cm rfl rfl so<|zA<|ag<|aV ?_
 exact⟨_,rfl,⟨_,rfl,by simp;omega⟩,h.more om,hk⟩
 refine zr<|zm<|cW rfl rfl<|zm<|xz (t:=93) rfl (λh4=>?_) (λh4=>?_)
 replace h4:=bu h4
 refine zm<|aC (mm 3 de de br q om w3 h) ?_
 rintro v9 w4 ⟨⟨z,e9,hz⟩,h,aG⟩
 subst e9
 have hk:=hk.trans aG
 have cV:=cV.aL aG sm;have cS:=cS.aL aG sm;have bQ:=bQ.aL aG sm
 have mn:=h.lt
 refine jx rfl rfl rfl rfl rfl<|zp rfl<|zA<|ag<|zc rfl (λh5=>?_) (λh5=>?_)
 refine aQ ?_
 apply kc eu ([br]) 17 (rA 98 17) (rA 98 17) [[],[],[0,1],[2],[3],[],[],[],[5,6,7],[4,8],[9],[],[],[],[11,12,13],[10,14],[15]] [Ie.v _,Ie.p (fun(G:List Nat) (v:Value) (ww:World)=>bI G ww v J2),Ie.q 0 (fun(v:Value)=>∃x,v=str x∧x.length<=30),Ie.p (fun(G:List Nat) (v:Value) (ww:World)=>∃x,v=str x∧x.length<=40),Ie.p (fun(G:List Nat) (v:Value) (ww:World)=>∃x,v=str x∧x.length<=50),Ie.v _,Ie.v _,Ie.v _,Ie.q 1 (fun(v:Value)=>∃x,v=str x∧x.length<=100000*P),Ie.p (fun(G:List Nat) (v:Value) (ww:World)=>∃x,v=str x∧x.length<=100000*P+100),Ie.p (fun(G:List Nat) (v:Value) (ww:World)=>∃x,v=str x∧x.length<=100000*P+200),Ie.v _,Ie.v _,Ie.v _,Ie.q 2 (fun(v:Value)=>∃x,v=str x∧x.length<=100000*P),Ie.p (fun(G:List Nat) (v:Value) (ww:World)=>∃x,v=str x∧x.length<=200000*P+300),Ie.p (fun(G:List Nat) (v:Value) (ww:World)=>∃x,v=str x∧x.length<=200000*P+400)] [2,8,14] [fun(G:List Nat) (vs:List Value) (ww:World)=>G=[br]∧ak [br] w4 ww∧dZ ww br (q+1),fun(G:List Nat) (vs:List Value) (ww:World)=>G=[br]∧ak [br] w4 ww∧dZ ww br (q+2),fun(G:List Nat) (vs:List Value) (ww:World)=>G=[br]∧ak [br] w4 ww∧dZ ww br (q+2+20*P),fun(G:List Nat) (vs:List Value) (ww:World)=>G=[br]∧ak [br] w4 ww∧dZ ww br (q+2+40*P)] de rfl ((λz hz=>by simp at hz;subst hz;exact h.lt)) (by exact⟨λG v w G' w' h k=>bI.go h k,λG v w G' w' h k=>h,λG v w G' w' h k=>h,λG v w G' w' h k=>h,λG v w G' w' h k=>h,λG v w G' w' h k=>h,λG v w G' w' h k=>h,trivial⟩) (by exact⟨λG vs w w' ⟨h1,h2,h3⟩ k=>⟨h1,h2.ext k,h3.ext k⟩,λG vs w w' ⟨h1,h2,h3⟩ k=>⟨h1,h2.ext k,h3.ext k⟩,λG vs w w' ⟨h1,h2,h3⟩ k=>⟨h1,h2.ext k,h3.ext k⟩,λG vs w w' ⟨h1,h2,h3⟩ k=>⟨h1,h2.ext k,h3.ext k⟩,trivial⟩) (⟨rfl,ak.refl _ _,h⟩)
 refine cR ?_
 refine vf (λx w5 G5 aW nq rI=>?_) ?_
 refine pQ bh bB rfl rfl rfl rfl rfl ?_
 intro w6 bD Ny lB
 exact ff bD ((aY.eF J2 Ny (λhx=>by have:=rI _ hx;omega) de))
 refine ve 0 (λx w5 G5 aW nq rI hJ hlen=>?_) ?_
 have bo:=jO hlen
 subst bo
 intro v1 d1
 obtain⟨cz,cB,h⟩:=hJ
 subst cz
 refine aC (mJ J2 de de br (q+1) om _ w5 h d1) ?_
 rintro lJ w6 ⟨⟨x9,jg,iE⟩,h,aG⟩
 subst iE
 have fi:=(show∀x,x∈J2->x.length<=30 from by decide) _ jg
 exact fq ([br]) (Fr.of aG sm) ((λz hz=>lL (rI z hz) aG.size)) (⟨rfl,cB.trans aG,h⟩) (⟨_,rfl,fi⟩)
 refine vf (λx w5 G5 aW nq rI=>?_) ?_
 intro v2 oK d2
 obtain⟨y2,e2,iZ⟩:=d2
 subst e2
 refine cm rfl rfl (by(try simp);omega) ?_
 exact ff (ak.refl _ _) (⟨_,rfl,by simp;omega⟩)
 refine vf (λx w5 G5 aW nq rI=>?_) ?_
 intro v3 d3
 obtain⟨y3,e3,wh⟩:=d3
 subst e3
 refine cm rfl rfl (by(try simp);omega) ?_
 exact ff (ak.refl _ _) (⟨_,rfl,by simp;omega⟩)
 refine cR ?_
 refine vf (λx w5 G5 aW nq rI=>?_) ?_
 have bQ:=bQ.go nq
 refine zL mT kP rfl bQ.all rfl ?_
 exact fv
 refine cR ?_
 refine ve 1 (λx w5 G5 aW nq rI hJ hlen=>?_) ?_
 have aR:=jP hlen
 obtain⟨q0,bo⟩:=aR
 subst bo
 have cV:=cV.go nq;have cS:=cS.go nq
 obtain⟨cz,cB,h⟩:=hJ
 subst cz
 refine aC (ih ns ts ([105]) br (q+2) _ _ w5 hl om hs so om h cV cS) ?_
 rintro v9 w6 ⟨⟨x9,e9,jg⟩,h,aG⟩
 subst e9
 exact fq ([br]) (Fr.of aG sm) ((λz hz=>lL (rI z hz) aG.size)) (⟨rfl,cB.trans aG,h.more om⟩) (⟨_,rfl,jg⟩)
 refine vf (λx w5 G5 aW nq rI=>?_) ?_
 intro v4 d4
 intro v8 hq8 d8
 obtain⟨y4,e4,BB⟩:=d4
 subst e4
 obtain⟨y8,e8,hl8⟩:=d8
 subst e8
 refine cm rfl rfl (by(try simp);omega) ?_
 exact ff (ak.refl _ _) (⟨_,rfl,by simp;omega⟩)
 refine vf (λx w5 G5 aW nq rI=>?_) ?_
 intro v9 d9
 obtain⟨y9,e9,fi⟩:=d9
 subst e9
 refine cm rfl rfl (by(try simp);omega) ?_
 exact ff (ak.refl _ _) (⟨_,rfl,by simp;omega⟩)
 refine cR ?_
 refine vf (λx w5 G5 aW nq rI=>?_) ?_
 have bQ:=bQ.go nq
 refine zL mT kP rfl bQ.all rfl ?_
 exact fv
 refine cR ?_
 refine ve 2 (λx w5 G5 aW nq rI hJ hlen=>?_) ?_
 have aR:=lH hlen
 obtain⟨q0,q1,bo⟩:=aR
 subst bo
 have cV:=cV.go nq;have cS:=cS.go nq
 obtain⟨cz,cB,h⟩:=hJ
 subst cz
 refine aC (ih ns ts ([105]) br (q+2+20*P) _ _ w5 hl om hs so om h cV cS) ?_
 rintro v9 w6 ⟨⟨x9,e9,jg⟩,h,aG⟩
 subst e9
 exact fq ([br]) (Fr.of aG sm) ((λz hz=>lL (rI z hz) aG.size)) (⟨rfl,cB.trans aG,h.more om⟩) (⟨_,rfl,jg⟩)
 refine vf (λx w5 G5 aW nq rI=>?_) ?_
 intro v10 d10
 intro lJ ajp d14
 obtain⟨J7,fY,D0⟩:=d10
 subst fY
 obtain⟨y14,iE,aoz⟩:=d14
 subst iE
 refine cm rfl rfl (by(try simp);omega) ?_
 exact ff (ak.refl _ _) (⟨_,rfl,by simp;omega⟩)
 refine vf (λx w5 G5 aW nq rI=>?_) ?_
 intro vq d15
 obtain⟨y15,D4,aoB⟩:=d15
 subst D4
 refine cm rfl rfl (by(try simp);omega) ?_
 exact ff (ak.refl _ _) (⟨_,rfl,by simp;omega⟩)
 exact trivial
 intro x pX G44 aW aoD aoE hJ hlen
 have aR:=Ao hlen
 obtain⟨q0,q1,q2,bo⟩:=aR
 subst bo
 intro v1 d1
 intro v2 oK d2
 intro v3 d3
 intro v4 d4
 intro v8 hq8 d8
 intro v9 d9
 intro v10 d10
 intro lJ ajp d14
 intro vq d15
 intro yt d16
 change OW _ _ _ _ _ (aM (aN _ x _) (zZ 98 [_,_,_,_,_,_,_,_,_,_,_,_,_,_,_,_,_])) _
 obtain⟨cz,cB,h⟩:=hJ
 subst cz
 obtain⟨yz,ez,Eu⟩:=d16
 subst ez
 refine zA<|ag<|aV ?_
 exact⟨_,rfl,⟨yz,rfl,om⟩,h.more om,hk.trans cB⟩
 refine bA<|zr<|zm<|zL mT kP rfl bQ.all rfl<|zm<|aC (OO ns ts want hl om hs br (q+1) om _ _ w4 h cV cS) ?_
 rintro v9 w5 ⟨⟨x9,e9,jg⟩,h,aG⟩
 subst e9
 refine zA<|ag<|aV ?_
 exact⟨_,rfl,⟨x9,rfl,om⟩,h.more om,hk.trans aG⟩
 replace h4:=bu h4
 refine zs<|zs<|zs<|zp rfl<|zA<|ag<|zc rfl (λh6=>?_) (λh6=>?_)
 simp at h6
 refine bA<|zr<|zm<|zL mT kP rfl bQ.all rfl<|zm<|aC (OO ns ts want hl om hs br q om _ _ w3 h cV cS) ?_
 rintro v9 w4 ⟨⟨x9,e9,jg⟩,h,aG⟩
 subst e9
 refine zA<|ag<|aV ?_
 exact⟨_,rfl,⟨x9,rfl,om⟩,h.more om,hk.trans aG⟩
set_option maxHeartbeats 4000000 in
theorem ajq:Hg 0 1:=by
 intro ns ts want br q v1 v2 w hl D3 hs hw hq h cV cS
 obtain⟨a1,n1,c1,rfl,fK⟩:=eI cV
 obtain⟨a2,n2,c2,rfl,fu⟩:=eI cS
 subst fK
 subst fu
 have iO:=h.lt
 have hk:=ak.refl [br] w
 refine cU [.tmp 8] 130 Tryz.func85 rfl PW rfl rfl ?_
 refine zr<|fA rfl ?_
 intro w1 aJ bQ dV
 have hk:=hk.ext aJ;have h:=h.ext aJ;have cV:=cV.ext aJ;have cS:=cS.ext aJ
 refine zA<|ag<|aQ<|zr<|zm<|dO rfl rfl rfl<|ag<|zc rfl (λh1=>?_) (λh1=>?_)
 refine zr<|zm<|zL mT kP rfl bQ.all rfl<|zm<|aC (OO ns ts want hl om hs br q om _ _ w1 h cV cS) ?_
 rintro v9 w2 ⟨⟨x9,e9,jg⟩,h,aG⟩
 subst e9
 refine zA<|ag<|aV ?_
 exact⟨_,rfl,⟨x9,rfl,om⟩,h.more om,hk.trans aG⟩
 simp at h1
set_option maxHeartbeats 4000000 in
theorem ajr (d P:Nat) (hd:d<=10) (hP:1<=P) (V3:P<=1000000) (ih:Hg d P):Hg (d+1) (4*P):=by
 have hB:=aje d P hd hP V3 ih
 intro ns ts want br q v1 v2 w hl D3 hs hw hq h cV cS
 obtain⟨a1,n1,c1,rfl,fK⟩:=eI cV
 obtain⟨a2,n2,c2,rfl,fu⟩:=eI cS
 subst fK
 subst fu
 have iO:=h.lt
 have hk:=ak.refl [br] w
 refine cU [.tmp 8] 130 Tryz.func85 rfl PW rfl rfl ?_
 refine zr<|fA rfl ?_
 intro w1 aJ bQ dV
 have hk:=hk.ext aJ;have h:=h.ext aJ;have cV:=cV.ext aJ;have cS:=cS.ext aJ
 refine zA<|ag<|aQ<|zr<|zm<|dO rfl rfl rfl<|ag<|zc rfl (λh1=>?_) (λh1=>?_)
 simp at h1;omega
 have bQ:fh [br] w1 w.heap.size _ _:=⟨bQ,by simp;omega⟩
 refine bA<|zr<|zm<|mO rfl rfl rfl rfl rfl (j5 d om _ om)<|zA<|ag<|aQ<|zr<|zm<|aC (mm 12 de de br q om w1 h) ?_
 rintro v9 w2 ⟨⟨z,e9,hz⟩,h,aG⟩
 subst e9
 have hk:=hk.trans aG
 have cV:=cV.aL aG sm;have cS:=cS.aL aG sm;have bQ:=bQ.aL aG sm
 have mn:=h.lt
 refine ag<|cP<|zr<|dO rfl rfl rfl<|zA<|ag<|zc rfl (λh2=>?_) (λh2=>?_)
 refine aQ ?_
 apply kc eu ([br]) 20 (rA 25 20) (rA 25 20) [[],[],[],[0,1,2],[3],[4],[],[],[],[],(rA 6 4),[5,10],[11],[],[],[],[],(rA 13 4),[12,17],[18]] [Ie.v _,Ie.v _,Ie.v _,Ie.q 0 (fun(v:Value)=>∃x,v=str x∧x.length<=100000*P),Ie.p (fun(G:List Nat) (v:Value) (ww:World)=>∃x,v=str x∧x.length<=100000*P+100),Ie.p (fun(G:List Nat) (v:Value) (ww:World)=>∃x,v=str x∧x.length<=100000*P+200),Ie.v _,Ie.v _,Ie.v _,Ie.v _,Ie.q 1 (fun(v:Value)=>∃x,v=str x∧x.length<=100000*P),Ie.p (fun(G:List Nat) (v:Value) (ww:World)=>∃x,v=str x∧x.length<=200000*P+300),Ie.p (fun(G:List Nat) (v:Value) (ww:World)=>∃x,v=str x∧x.length<=200000*P+400),Ie.v _,Ie.v _,Ie.v _,Ie.v _,Ie.q 2 (fun(v:Value)=>∃x,v=str x∧x.length<=100000*P),Ie.p (fun(G:List Nat) (v:Value) (ww:World)=>∃x,v=str x∧x.length<=300000*P+500),Ie.p (fun(G:List Nat) (v:Value) (ww:World)=>∃x,v=str x∧x.length<=300000*P+600)] [3,10,17] [fun(G:List Nat) (vs:List Value) (ww:World)=>G=[br]∧ak [br] w2 ww∧dZ ww br (q+1),fun(G:List Nat) (vs:List Value) (ww:World)=>G=[br]∧ak [br] w2 ww∧dZ ww br (q+1+20*P),fun(G:List Nat) (vs:List Value) (ww:World)=>G=[br]∧ak [br] w2 ww∧dZ ww br (q+1+40*P),fun(G:List Nat) (vs:List Value) (ww:World)=>G=[br]∧ak [br] w2 ww∧dZ ww br (q+1+60*P)] de rfl ((λz hz=>by simp at hz;subst hz;exact h.lt)) (by exact⟨λG v w G' w' h k=>h,λG v w G' w' h k=>h,λG v w G' w' h k=>h,λG v w G' w' h k=>h,λG v w G' w' h k=>h,λG v w G' w' h k=>h,trivial⟩) (by exact⟨λG vs w w' ⟨h1,h2,h3⟩ k=>⟨h1,h2.ext k,h3.ext k⟩,λG vs w w' ⟨h1,h2,h3⟩ k=>⟨h1,h2.ext k,h3.ext k⟩,λG vs w w' ⟨h1,h2,h3⟩ k=>⟨h1,h2.ext k,h3.ext k⟩,λG vs w w' ⟨h1,h2,h3⟩ k=>⟨h1,h2.ext k,h3.ext k⟩,trivial⟩) (⟨rfl,ak.refl _ _,h⟩)
 refine cR ?_
 refine vf (λx w3 G3 aW fX iW=>?_) ?_
 have bQ:=bQ.go fX
 refine zL mT kP rfl bQ.all rfl ?_
 exact fv
 refine cR ?_
 refine ve 0 (λx w3 G3 aW fX iW hJ hlen=>?_) ?_
 have bo:=jO hlen
 subst bo
 have cV:=cV.go fX;have cS:=cS.go fX
 obtain⟨cz,cB,h⟩:=hJ
 subst cz
 refine aC (ih ns ts ([105]) br (q+1) _ _ w3 hl om hs so om h cV cS) ?_
 rintro v9 w4 ⟨⟨x9,e9,jg⟩,h,aG⟩
 subst e9
 exact fq ([br]) (Fr.of aG sm) ((λz hz=>lL (iW z hz) aG.size)) (⟨rfl,cB.trans aG,h.more om⟩) (⟨_,rfl,jg⟩)
 refine vf (λx w3 G3 aW fX iW=>?_) ?_
 intro v3 IP d3
 obtain⟨y3,e3,wh⟩:=d3
 subst e3
 refine cm rfl rfl (by(try simp);omega) ?_
 exact ff (ak.refl _ _) (⟨_,rfl,by simp;omega⟩)
 refine vf (λx w3 G3 aW fX iW=>?_) ?_
 intro v4 d4
 obtain⟨y4,e4,BB⟩:=d4
 subst e4
 refine cm rfl rfl (by(try simp);omega) ?_
 exact ff (ak.refl _ _) (⟨_,rfl,by simp;omega⟩)
 refine cR ?_
 refine vf (λx w3 G3 aW fX iW=>?_) ?_
 have bQ:=bQ.go fX
 refine zL mT kP rfl bQ.all rfl ?_
 exact fv
 refine cR ?_
 refine cR ?_
 refine ve 1 (λx w3 G3 aW fX iW hJ hlen=>?_) ?_
 have aR:=jP hlen
 obtain⟨q0,bo⟩:=aR
 subst bo
 have cV:=cV.go fX;have cS:=cS.go fX
 obtain⟨cz,cB,h⟩:=hJ
 subst cz
 refine aC (ih ns ts want br (q+1+20*P) _ _ w3 hl om hs om om h cV cS) ?_
 rintro v9 w4 ⟨⟨x9,e9,jg⟩,h,aG⟩
 subst e9
 exact fq ([br]) (Fr.of aG sm) ((λz hz=>lL (iW z hz) aG.size)) (⟨rfl,cB.trans aG,h.more om⟩) (⟨_,rfl,jg⟩)
 refine vf (λx w3 G3 aW fX iW=>?_) ?_
 intro v5 d5
 intro v10 V6 d10
 obtain⟨y5,e5,hl5⟩:=d5
 subst e5
 obtain⟨J7,fY,D0⟩:=d10
 subst fY
 refine cm rfl rfl (by(try simp);omega) ?_
 exact ff (ak.refl _ _) (⟨_,rfl,by simp;omega⟩)
 refine vf (λx w3 G3 aW fX iW=>?_) ?_
 intro v11 d11
 obtain⟨V4,Cn,V5⟩:=d11
 subst Cn
 refine cm rfl rfl (by(try simp);omega) ?_
 exact ff (ak.refl _ _) (⟨_,rfl,by simp;omega⟩)
 refine cR ?_
 refine vf (λx w3 G3 aW fX iW=>?_) ?_
 have bQ:=bQ.go fX
 refine zL mT kP rfl bQ.all rfl ?_
 exact fv
 refine cR ?_
 refine cR ?_
 refine ve 2 (λx w3 G3 aW fX iW hJ hlen=>?_) ?_
 have aR:=lH hlen
 obtain⟨q0,q1,bo⟩:=aR
 subst bo
 have cV:=cV.go fX;have cS:=cS.go fX
 obtain⟨cz,cB,h⟩:=hJ
 subst cz
 refine aC (ih ns ts want br (q+1+40*P) _ _ w3 hl om hs om om h cV cS) ?_
 rintro v9 w4 ⟨⟨x9,e9,jg⟩,h,aG⟩
 subst e9
 exact fq ([br]) (Fr.of aG sm) ((λz hz=>lL (iW z hz) aG.size)) (⟨rfl,cB.trans aG,h.more om⟩) (⟨_,rfl,jg⟩)
 refine vf (λx w3 G3 aW fX iW=>?_) ?_
 intro v12 d12
 intro jV OU d17
 obtain⟨y12,qK,aji⟩:=d12
 subst qK
 obtain⟨V7,r8,V8⟩:=d17
 subst r8
 refine cm rfl rfl (by(try simp);omega) ?_
 exact ff (ak.refl _ _) (⟨_,rfl,by simp;omega⟩)
 refine vf (λx w3 G3 aW fX iW=>?_) ?_
 intro wY d18
 obtain⟨y18,vu,No⟩:=d18
 subst vu
 refine cm rfl rfl (by(try simp);omega) ?_
 exact ff (ak.refl _ _) (⟨_,rfl,by simp;omega⟩)
 exact trivial
 intro x qz F6 aW DT MM hJ hlen
 have aR:=Ao hlen
 obtain⟨q0,q1,q2,bo⟩:=aR
 subst bo
 intro v3 IP d3
 intro v4 d4
 intro v5 d5
 intro v10 V6 d10
 intro v11 d11
 intro v12 d12
 intro jV OU d17
 intro wY d18
 intro Gs d19
 change OW _ _ _ _ _ (aM (aN _ x _) (zZ 25 [_,_,_,_,_,_,_,_,_,_,_,_,_,_,_,_,_,_,_,_])) _
 obtain⟨cz,cB,h⟩:=hJ
 subst cz
 obtain⟨yz,ez,Eu⟩:=d19
 subst ez
 refine zA<|ag<|aV ?_
 exact⟨_,rfl,⟨yz,rfl,om⟩,h.more om,hk.trans cB⟩
 refine aQ<|zr<|dO rfl rfl rfl<|zA<|ag ?_
 refine jh (λb:Bool=>[(0,.pointer (some ⟨br,0,none⟩)),(2,str want),(3,.int .i64 ((d+1:Nat):Int)),(5,.pointer (some ⟨w.heap.size,0,none⟩)),(9,.int .i64 (d:Int)),(22,.int .i64 (z:Int)),(45,.bool b)]) (λb ww=>ww=w2) ?_ ?_
 refine zc rfl (λh3=>?_) (λh3=>?_)
 refine bA ?_
 exact⟨_,⟨rfl,rfl,rfl,rfl,rfl,rfl,rfl⟩,rfl⟩
 refine db<|dO rfl rfl rfl<|zA<|ag ?_
 exact⟨_,⟨rfl,rfl,rfl,rfl,rfl,rfl,rfl⟩,rfl⟩
 intro gu w3 e3 hI
 have OV:w3=_:=hI
 subst OV
 refine zc rfl (λh4=>?_) (λh4=>?_)
 refine zr<|zm<|aC (OK 1 de br (q+1) om w3 h) ?_
 rintro v9 w4 ⟨⟨T,e9,hT⟩,h,aG⟩
 subst e9
 have V9:=T.len
 have hT:T.n+1<=4:=hT
 have h:=h.more (show _<=q+5 from om)
 have hk:=hk.trans aG
 have cV:=cV.aL aG sm;have cS:=cS.aL aG sm;have bQ:=bQ.aL aG sm
 have mn:=h.lt
 refine zA<|ag<|zr<|zm<|Sy bh bB rfl rfl rfl rfl rfl rfl rfl ?_
 intro w5 aT Nx jo
 have cV:=cV.ext aT;have cS:=cS.ext aT;have bQ:=bQ.ext aT;have h:=h.ext aT;have hk:=hk.ext aT
 refine aC (mJ OQ de de br (q+5) om _ w5 h (aY.eF OQ Nx (λhx=>by simp at hx;omega) de)) ?_
 rintro lJ w6 ⟨⟨nm,ajt,iE⟩,h,aG⟩
 subst iE
 have aoF:=(show∀x,x∈OQ->x.length<=30 from by decide) _ ajt
 have hk:=hk.trans aG
 have cV:=cV.aL aG sm;have cS:=cS.aL aG sm;have bQ:=bQ.aL aG sm
 have mn:=h.lt
 refine zA<|ag<|aQ ?_
 apply kc eu ([br]) 20 (rA 53 20) (rA 53 20) [[],[0],[1],[],[],[],[],(rA 3 4),[2,7],[8],[],[],[],[],[11,12,13],[],[],[10,14,15,16],[9,17],[18]] [Ie.v _,Ie.v _,Ie.v _,Ie.v _,Ie.v _,Ie.v _,Ie.v _,Ie.q 0 (fun(v:Value)=>∃x,v=str x∧x.length<=100000*P),Ie.p (fun(G:List Nat) (v:Value) (ww:World)=>∃x,v=str x∧x.length<=100000*P+200),Ie.p (fun(G:List Nat) (v:Value) (ww:World)=>∃x,v=str x∧x.length<=100000*P+300),Ie.v _,Ie.v _,Ie.v _,Ie.v _,Ie.e 1,Ie.v _,Ie.v _,Ie.q 2 (fun(v:Value)=>∃x,v=str x∧x.length<=100000*P),Ie.p (fun(G:List Nat) (v:Value) (ww:World)=>∃x,v=str x∧x.length<=200000*P+400),Ie.p (fun(G:List Nat) (v:Value) (ww:World)=>∃x,v=str x∧x.length<=200000*P+500)] [7,14,17] [fun(G:List Nat) (vs:List Value) (ww:World)=>G=[br]∧ak [br] w6 ww∧dZ ww br (q+6),fun(G:List Nat) (vs:List Value) (ww:World)=>G=[br]∧ak [br] w6 ww∧dZ ww br (q+6+20*P),fun(G:List Nat) (vs:List Value) (ww:World)=>G=[br]∧ak [br] w6 ww∧dZ ww br (q+6+20*P)∧∃u1 u2,vs.getD 1 undef= .agg #[u1,u2]∧bI [br] ww u1 (ns++[nm])∧bI [br] ww u2 (ts++[T.text]),fun(G:List Nat) (vs:List Value) (ww:World)=>G=[br]∧ak [br] w6 ww∧dZ ww br (q+6+40*P)] de rfl ((λz hz=>by simp at hz;subst hz;exact h.lt)) (by exact⟨λG v w G' w' h k=>h,λG v w G' w' h k=>h,λG v w G' w' h k=>h,λG v w G' w' h k=>h,trivial⟩) (by exact⟨λG vs w w' ⟨h1,h2,h3⟩ k=>⟨h1,h2.ext k,h3.ext k⟩,λG vs w w' ⟨h1,h2,h3⟩ k=>⟨h1,h2.ext k,h3.ext k⟩,λG vs w w' ⟨h1,h2,h3,u1,u2,e,g1,g2⟩ k=>⟨h1,h2.ext k,h3.ext k,u1,u2,e,g1.ext k,g2.ext k⟩,λG vs w w' ⟨h1,h2,h3⟩ k=>⟨h1,h2.ext k,h3.ext k⟩,trivial⟩) (⟨rfl,ak.refl _ _,h⟩)
 refine cR ?_
 refine vf (λ_ _ _ _ _ _=>cm rfl rfl so fv) ?_
 refine vf (λ_ _ _ _ _ _=>cm rfl rfl so fv) ?_
 refine cR ?_
 refine vf (λx w7 G7 aW iX jW=>?_) ?_
 have bQ:=bQ.go iX
 refine zL mT kP rfl bQ.all rfl ?_
 exact fv
 refine cR ?_
 refine cR ?_
 refine ve 0 (λx w7 G7 aW iX jW hJ hlen=>?_) ?_
 have bo:=jO hlen
 subst bo
 have cV:=cV.go iX;have cS:=cS.go iX
 obtain⟨cz,cB,h⟩:=hJ
 subst cz
 refine aC (ih ns ts T.text br (q+6) _ _ w7 hl om hs om om h cV cS) ?_
 rintro v9 w8 ⟨⟨x9,e9,jg⟩,h,aG⟩
 subst e9
 exact fq ([br]) (Fr.of aG sm) ((λz hz=>lL (jW z hz) aG.size)) (⟨rfl,cB.trans aG,h.more om⟩) (⟨_,rfl,jg⟩)
 refine vf (λx w7 G7 aW iX jW=>?_) ?_
 intro v7 hq7 d7
 obtain⟨y7,e7,Uh⟩:=d7
 subst e7
 refine cm rfl rfl (by(try simp);omega) ?_
 exact ff (ak.refl _ _) (⟨_,rfl,by simp;omega⟩)
 refine vf (λx w7 G7 aW iX jW=>?_) ?_
 intro v8 d8
 obtain⟨y8,e8,hl8⟩:=d8
 subst e8
 refine cm rfl rfl (by(try simp);omega) ?_
 exact ff (ak.refl _ _) (⟨_,rfl,by simp;omega⟩)
 refine cR ?_
 refine vf (λx w7 G7 aW iX jW=>?_) ?_
 have bQ:=bQ.go iX
 refine zL mT kP rfl bQ.all rfl ?_
 exact fv
 refine cR ?_
 refine cR ?_
 refine ve 1 (λx w7 G7 aW iX jW hJ hlen=>?_) ?_
 have aR:=jP hlen
 obtain⟨q0,bo⟩:=aR
 subst bo
 have cV:=cV.go iX;have cS:=cS.go iX
 obtain⟨cz,cB,h⟩:=hJ
 subst cz
 refine aC (J0 ns ts nm T.text om om _ _ [br] w7 (λx hx=>by simp at hx;subst hx;exact h.lt) cV cS) ?_
 rintro v9 w8 ⟨⟨u1,u2,e9,rG,rH⟩,aG⟩
 subst e9
 exact fe ([br]) (Fr.of aG sm) ((λz hz=>lL (jW z hz) aG.size)) (⟨rfl,cB.ext aG,h.ext aG,u1,u2,rfl,rG,rH⟩)
 refine cR ?_
 refine cR ?_
 refine ve 2 (λx w7 G7 aW iX jW hJ hlen=>?_) ?_
 have aR:=lH hlen
 obtain⟨q0,q1,bo⟩:=aR
 subst bo
 obtain⟨cz,cB,h,u1,u2,e1,rG,rH⟩:=hJ
 subst cz
 have e2:q1=_:=e1
 subst e2
 refine aC (ih (ns++[nm]) (ts++[T.text]) want br (q+6+20*P) _ _ w7 so so (J3 hs om) om om h rG rH) ?_
 rintro v9 w8 ⟨⟨x9,e9,jg⟩,h,aG⟩
 subst e9
 exact fq ([br]) (Fr.of aG sm) ((λz hz=>lL (jW z hz) aG.size)) (⟨rfl,cB.trans aG,h.more om⟩) (⟨_,rfl,jg⟩)
 refine vf (λx w7 G7 aW iX jW=>?_) ?_
 intro v9 d9
 intro jV OU d17
 obtain⟨y9,e9,fi⟩:=d9
 subst e9
 obtain⟨V7,r8,V8⟩:=d17
 subst r8
 refine cm rfl rfl (by(try simp);omega) ?_
 exact ff (ak.refl _ _) (⟨_,rfl,by simp;omega⟩)
 refine vf (λx w7 G7 aW iX jW=>?_) ?_
 intro wY d18
 obtain⟨y18,vu,No⟩:=d18
 subst vu
 refine cm rfl rfl (by(try simp);omega) ?_
 exact ff (ak.refl _ _) (⟨_,rfl,by simp;omega⟩)
 exact trivial
 intro x qG Jp aW wZ Jq hJ hlen
 have aR:=Ao hlen
 obtain⟨q0,q1,q2,bo⟩:=aR
 subst bo
 intro v7 hq7 d7
 intro v8 d8
 intro v9 d9
 intro jV OU d17
 intro wY d18
 intro Gs d19
 change OW _ _ _ _ _ (aM (aN _ x _) (zZ 53 [_,_,_,_,_,_,_,_,_,_,_,_,_,_,_,_,_,_,_,_])) _
 obtain⟨cz,cB,h⟩:=hJ
 subst cz
 obtain⟨yz,ez,Eu⟩:=d19
 subst ez
 refine zA<|ag<|aV ?_
 exact⟨_,rfl,⟨yz,rfl,om⟩,h.more om,hk.trans cB⟩
 refine aQ<|zr<|dO rfl rfl rfl<|zA<|ag ?_
 refine jh (λb:Bool=>[(0,.pointer (some ⟨br,0,none⟩)),(2,str want),(3,.int .i64 ((d+1:Nat):Int)),(5,.pointer (some ⟨w.heap.size,0,none⟩)),(9,.int .i64 (d:Int)),(22,.int .i64 (z:Int)),(73,.bool b)]) (λb ww=>ww=w3) ?_ ?_
 refine zc rfl (λh5=>?_) (λh5=>?_)
 refine bA ?_
 exact⟨_,⟨rfl,rfl,rfl,rfl,rfl,rfl,rfl⟩,rfl⟩
 refine db<|dO rfl rfl rfl<|zA<|ag ?_
 exact⟨_,⟨rfl,rfl,rfl,rfl,rfl,rfl,rfl⟩,rfl⟩
 intro gu w4 e4 hI
 have OV:w4=_:=hI
 subst OV
 refine zc rfl (λh6=>?_) (λh6=>?_)
 refine zr<|zm<|aC (OK 1 de br (q+1) om w4 h) ?_
 rintro v9 w5 ⟨⟨T,e9,hT⟩,h,aG⟩
 subst e9
 have V9:=T.len
 have hT:T.n+1<=4:=hT
 have h:=h.more (show _<=q+5 from om)
 have hk:=hk.trans aG
 have cV:=cV.aL aG sm;have cS:=cS.aL aG sm;have bQ:=bQ.aL aG sm
 have mn:=h.lt
 refine zA<|ag<|aQ ?_
 apply kc eu ([br]) 19 (rA 78 19) (rA 78 19) [[],[],[],[2],[3],[],[4,5],[6],[],[0,1,7,8],[9],[10],[],[],[],[],(rA 12 4),[11,16],[17]] [Ie.v _,Ie.v _,Ie.v _,Ie.v _,Ie.v _,Ie.v _,Ie.v _,Ie.v _,Ie.v _,Ie.q 0 (fun(v:Value)=>∃x,v=str x∧x.length<=100000*P),Ie.p (fun(G:List Nat) (v:Value) (ww:World)=>∃x,v=str x∧x.length<=100000*P+200),Ie.p (fun(G:List Nat) (v:Value) (ww:World)=>∃x,v=str x∧x.length<=100000*P+300),Ie.v _,Ie.v _,Ie.v _,Ie.v _,Ie.q 1 (fun(v:Value)=>∃x,v=str x∧x.length<=100000*P),Ie.p (fun(G:List Nat) (v:Value) (ww:World)=>∃x,v=str x∧x.length<=200000*P+400),Ie.p (fun(G:List Nat) (v:Value) (ww:World)=>∃x,v=str x∧x.length<=200000*P+500)] [9,16] [fun(G:List Nat) (vs:List Value) (ww:World)=>G=[br]∧ak [br] w5 ww∧dZ ww br (q+5),fun(G:List Nat) (vs:List Value) (ww:World)=>G=[br]∧ak [br] w5 ww∧dZ ww br (q+5+20*P),fun(G:List Nat) (vs:List Value) (ww:World)=>G=[br]∧ak [br] w5 ww∧dZ ww br (q+5+40*P)] de rfl ((λz hz=>by simp at hz;subst hz;exact h.lt)) (by exact⟨λG v w G' w' h k=>h,λG v w G' w' h k=>h,λG v w G' w' h k=>h,λG v w G' w' h k=>h,trivial⟩) (by exact⟨λG vs w w' ⟨h1,h2,h3⟩ k=>⟨h1,h2.ext k,h3.ext k⟩,λG vs w w' ⟨h1,h2,h3⟩ k=>⟨h1,h2.ext k,h3.ext k⟩,λG vs w w' ⟨h1,h2,h3⟩ k=>⟨h1,h2.ext k,h3.ext k⟩,trivial⟩) (⟨rfl,ak.refl _ _,h⟩)
 refine cR ?_
 refine vf (λx w6 G6 aW tf yZ=>?_) ?_
 have bQ:=bQ.go tf
 refine zL mT kP rfl bQ.all rfl ?_
 exact fv
 refine cR ?_
 refine vf (λ_ _ _ _ _ _=>cm rfl rfl so fv) ?_
 refine vf (λ_ _ _ _ _ _=>cm rfl rfl so fv) ?_
 refine cR ?_
 refine vf (λ_ _ _ _ _ _=>cm rfl rfl so fv) ?_
 refine vf (λ_ _ _ _ _ _=>cm rfl rfl so fv) ?_
 refine cR ?_
 refine ve 0 (λx w6 G6 aW tf yZ hJ hlen=>?_) ?_
 have bo:=jO hlen
 subst bo
 have cV:=cV.go tf;have cS:=cS.go tf
 obtain⟨cz,cB,h⟩:=hJ
 subst cz
 refine aC (ih ns ts (((([40,62,32]++T.text)++[32])++want)++[41]) br (q+5) _ _ w6 hl om hs so om h cV cS) ?_
 rintro v9 w7 ⟨⟨x9,e9,jg⟩,h,aG⟩
 subst e9
 exact fq ([br]) (Fr.of aG sm) ((λz hz=>lL (yZ z hz) aG.size)) (⟨rfl,cB.trans aG,h.more om⟩) (⟨_,rfl,jg⟩)
 refine vf (λx w6 G6 aW tf yZ=>?_) ?_
 intro v9 GW d9
 obtain⟨y9,e9,fi⟩:=d9
 subst e9
 refine cm rfl rfl (by(try simp);omega) ?_
 exact ff (ak.refl _ _) (⟨_,rfl,by simp;omega⟩)
 refine vf (λx w6 G6 aW tf yZ=>?_) ?_
 intro v10 d10
 obtain⟨J7,fY,D0⟩:=d10
 subst fY
 refine cm rfl rfl (by(try simp);omega) ?_
 exact ff (ak.refl _ _) (⟨_,rfl,by simp;omega⟩)
 refine cR ?_
 refine vf (λx w6 G6 aW tf yZ=>?_) ?_
 have bQ:=bQ.go tf
 refine zL mT kP rfl bQ.all rfl ?_
 exact fv
 refine cR ?_
 refine cR ?_
 refine ve 1 (λx w6 G6 aW tf yZ hJ hlen=>?_) ?_
 have aR:=jP hlen
 obtain⟨q0,bo⟩:=aR
 subst bo
 have cV:=cV.go tf;have cS:=cS.go tf
 obtain⟨cz,cB,h⟩:=hJ
 subst cz
 refine aC (ih ns ts T.text br (q+5+20*P) _ _ w6 hl om hs om om h cV cS) ?_
 rintro v9 w7 ⟨⟨x9,e9,jg⟩,h,aG⟩
 subst e9
 exact fq ([br]) (Fr.of aG sm) ((λz hz=>lL (yZ z hz) aG.size)) (⟨rfl,cB.trans aG,h.more om⟩) (⟨_,rfl,jg⟩)
 refine vf (λx w6 G6 aW tf yZ=>?_) ?_
 intro v11 d11
 intro yt ajv d16
 obtain⟨V4,Cn,V5⟩:=d11
 subst Cn
 obtain⟨y16,AY,aoH⟩:=d16
 subst AY
 refine cm rfl rfl (by(try simp);omega) ?_
 exact ff (ak.refl _ _) (⟨_,rfl,by simp;omega⟩)
 refine vf (λx w6 G6 aW tf yZ=>?_) ?_
 intro jV d17
 obtain⟨V7,r8,V8⟩:=d17
 subst r8
 refine cm rfl rfl (by(try simp);omega) ?_
 exact ff (ak.refl _ _) (⟨_,rfl,by simp;omega⟩)
 exact trivial
 intro x qy G45 aW aoJ aoK hJ hlen
 have aR:=lH hlen
 obtain⟨q0,q1,bo⟩:=aR
 subst bo
 intro v9 GW d9
 intro v10 d10
 intro v11 d11
 intro yt ajv d16
 intro jV d17
 intro wY d18
 change OW _ _ _ _ _ (aM (aN _ x _) (zZ 78 [_,_,_,_,_,_,_,_,_,_,_,_,_,_,_,_,_,_,_])) _
 obtain⟨cz,cB,h⟩:=hJ
 subst cz
 obtain⟨yz,ez,Eu⟩:=d18
 subst ez
 refine zA<|ag<|aV ?_
 exact⟨_,rfl,⟨yz,rfl,om⟩,h.more om,hk.trans cB⟩
 refine zr<|dO rfl rfl rfl<|zA<|ag<|zc rfl (λh7=>?_) (λh7=>?_)
 refine zr<|zm<|zL mT kP rfl bQ.all rfl<|zm<|cm rfl rfl so<|cm rfl rfl so<|zm<|aC (ih ns ts (([40,42,32]++want)++[32,105,41]) br (q+1) _ _ w4 hl om hs so om h cV cS) ?_
 rintro v9 w5 ⟨⟨x9,e9,jg⟩,h,aG⟩
 subst e9
 refine cm rfl rfl so<|cm rfl rfl so<|zA<|ag<|aV ?_
 exact⟨_,rfl,⟨_,rfl,by simp;omega⟩,h.more om,hk.trans aG⟩
 refine zr<|dO rfl rfl rfl<|zA<|ag<|zc rfl (λh8=>?_) (λh8=>?_)
 refine zr<|zm<|zL mT kP rfl bQ.all rfl<|zm<|cm rfl rfl so<|cm rfl rfl so<|zm<|aC (ih ns ts (([40,42,32,105,32]++want)++[41]) br (q+1) _ _ w4 hl om hs so om h cV cS) ?_
 rintro v9 w5 ⟨⟨x9,e9,jg⟩,h,aG⟩
 subst e9
 refine cm rfl rfl so<|cm rfl rfl so<|zA<|ag<|aV ?_
 exact⟨_,rfl,⟨_,rfl,by simp;omega⟩,h.more om,hk.trans aG⟩
 refine zr<|dO rfl rfl rfl<|zA<|ag<|zc rfl (λh9=>?_) (λh9=>?_)
 refine zr<|zm<|cW rfl rfl<|ag<|zc rfl (λgI=>?_) (λgI=>?_)
 refine zr<|zm<|aC (ai6 br (q+1) om w4 h) ?_
 rintro v9 w5 ⟨⟨x9,e9,jg⟩,h,aG⟩
 subst e9
 refine zA<|ag<|aV ?_
 exact⟨_,rfl,⟨x9,rfl,om⟩,h.more om,hk.trans aG⟩
 refine bA<|zr<|zm<|zL mT kP rfl bQ.all rfl<|zm<|zm<|aC (hB ns ts want br (q+1) _ _ w4 hl om hs om om h cV cS) ?_
 rintro v9 w5 ⟨⟨x9,e9,jg⟩,h,aG⟩
 subst e9
 refine zA<|ag<|aV ?_
 exact⟨_,rfl,⟨x9,rfl,om⟩,h.more om,hk.trans aG⟩
 refine bA<|zr<|zm<|zL mT kP rfl bQ.all rfl<|zm<|zm<|aC (hB ns ts want br (q+1) _ _ w4 hl om hs om om h cV cS) ?_
 rintro v9 w5 ⟨⟨x9,e9,jg⟩,h,aG⟩
 subst e9
 refine zA<|ag<|aV ?_
 exact⟨_,rfl,⟨x9,rfl,om⟩,h.more om,hk.trans aG⟩
theorem OX:∀d,d<=9->Hg d (4^d)
 |0,_=>ajq
 |d+1,h=>by
  have h2:4^d<=4^9:=Nat.pow_le_pow_right de om
  have:=ajr d (4^d) om (Nat.pos_of_ne_zero sm) (Nat.le_trans h2 de) (OX d om)
  rw[Nat.pow_succ,Nat.mul_comm]
  exact this
theorem mv.zero {TB TS:TypeId} (h:aY w b #[] TB):mv w TB TS (.slice (some ⟨b,0,none⟩) 0 0) (some b) [] [] []:=
 ⟨⟨by simp,.inr ⟨b,0,#[],rfl,rfl,h,lR _,by decide,rfl,rfl⟩⟩,trivial,by simp[ik],by simp[ik]⟩
theorem mv.gr {TB TS:TypeId} (h:mv w TB TS v g gss vss bs) (hL:∀x,x∈g.toList++ik gss->x∉L) (hB:∀b,g=some b->B<=b) (hl:∀x,x∈L->x<w.heap.size) (hs:B<=w.heap.size):Gr B L w TB 3 v g (bs.map Bk.enc):=by
 have hd:=(List.nodup_append.1 h.nodup).2.2
 refine⟨⟨vss.flatten,by simpa using h.own,h.rows.BC λx hx hc=>?_,?_,λb hb=>hL b (by simp[hb])⟩,hB,hl,hs⟩
 ·rcases mA.1 hc with hc|hc
  ·exact hd x hc x hx rfl
  ·exact hL x (by simp[hx]) hc
 ·intro row hr
  obtain⟨c,_,rfl⟩:=List.mem_map.1 hr
  rfl
theorem Gr.ajw {T:TypeId} (h:Gr B L w T 3 v g (bs.map Bk.enc)) (hb:0<bs.length):∃b a1 n1 c1 a2 n2 c2 cap,v= .slice (some ⟨b,0,none⟩) bs.length cap∧iH w b 0 [str (bz bs 0).aP,.slice a1 n1 c1,.slice a2 n2 c2]∧bI (g.toList++L) w (.slice a1 n1 c1) (bz bs 0).cE∧bI (g.toList++L) w (.slice a2 n2 c2) (bz bs 0).code:=by
 obtain⟨xs,⟨hl,dY⟩,ie,iI,Rj⟩:=h.own
 cases bs with
 |nil=>simp at hb
 |cons f bs=>
  rcases dY with⟨_,h0,_⟩|⟨b,cap,cur,hg,rfl,ajx,mM,mo,cJ,ht⟩
  ·simp at h0
  ·simp only[List.map_cons,List.flatten_cons,Bk.enc] at ie
   match xs,ie with
   |x0::x1::x2::r,ie=>
    obtain⟨r0,r1,r2,_⟩:=ie
    cases r0
    obtain⟨a1,n1,c1,rfl,_⟩:=eI (xs:=f.cE) r1
    obtain⟨a2,n2,c2,rfl,_⟩:=eI (xs:=f.code) r2
    refine⟨b,a1,n1,c1,a2,n2,c2,cap,sm,λj u hj=>?_,r1,r2⟩
    have B3:j<3:=(List.getElem?_eq_some_iff.1 hj).1
    have h1:cur.toList[j]?=some u:=by
     have h2:=congrArg (λl=>l[j]?) ht
     simp only[List.getElem?_take] at h2
     rw[iP so] at h2
     rw[h2,<-hj]
     match j,B3 with
     |0,_=>rfl
     |1,_=>rfl
     |2,_=>rfl
    rw[Nat.zero_add,ajx.cell]
    simpa using h1
section
variable {P:Program} {n:Nat} {ops:Array Oper} {K:Env->World->Prop} {rest:List Oper} {e:Env} {w:World}
 {dst:Option Nat} {ty:TypeId} {pos:String} {after:Array Edge} {g:Option (Nat×Bool)} {x y:Operand}
theorem ajy {t E TS bytes:Nat} {z:Value} {v:Value} {gb:Option Nat} {gss:List (Option Nat×Option Nat)} {vss:List (List Value)} {bs:List Bk} {f:Bk} {gs:Option Nat×Option Nat} {a1 a2:Option Addr} {n1 c1 n2 c2:Nat} {b U:Nat} (hT:P.underlying t=some (.slice E)) (hE:TI P E 3 bytes z) (hg:gate ops e g=true) (hd:dw n dst=true) (hz:Nat.beq z.cells.size 3=true) (ig:Nat.ble bytes 1000=true) 
  (hx:ev e x=v) (hy:ev e y= .slice (some ⟨b,0,none⟩) 1 1) (hP:mv w E TS v gb gss vss bs) (hb:aY w b [str f.aP,.slice a1 n1 c1,.slice a2 n2 c2].toArray U)
  (h1:dh w TS (.slice a1 n1 c1) gs.1 f.cE) (h2:dh w TS (.slice a2 n2 c2) gs.2 f.code) (nR:∀x,x∈jL gs->x∉gb.toList++ik gss) (jy:(jL gs).Nodup) (hn:bs.length<100000000)
  (k:∀a' cap' g' w',mv w' E TS (.slice a' (bs++[f]).length cap') g' (gss++[gs]) (vss++[[str f.aP,.slice a1 n1 c1,.slice a2 n2 c2]]) (bs++[f])->ak gb.toList w w'->(g'=gb∨∃z,g'=some z∧w.heap.size<=z)->OW P n ops K rest (cO e dst (.slice a' (bs++[f]).length cap')) w'):
  OW P n ops K (⟨dst,.call {callee:=.builtin .append,args:=#[x,y],argTypes:=#[t,t]},ty,pos,after,g⟩::rest) e w:=by
 obtain⟨i,hi,Bp,iY,xq⟩:=hE.get
 have Dm:bytes<=1000:=Nat.le_of_ble_eq_true ig
 have Hy:(bs.length+1)*bytes<=140737488355328:=Nat.le_trans (Nat.mul_le_mul (show bs.length+1<=100000000 by omega) Dm) de
 obtain⟨v',g',w',kl,dY,hk,k7⟩:=Pt (P:=P) (w:=w) (ty:=ty) hT hi Bp iY xq (Nat.eq_of_beq_eq_true hz) hP.own b 0 1 1 [str f.aP,.slice a1 n1 c1,.slice a2 n2 c2] rfl (by have:=hb.all;simpa using this)
  (by intro u hu;simp at hu;rcases hu with rfl|rfl|rfl<;>rfl) de (by unfold maxLen;omega) Hy
 have xC:jX w' E 3 v' g' (bs++[f]).length (vss++[[str f.aP,.slice a1 n1 c1,.slice a2 n2 c2]]).flatten:=by
  simpa using dY
 obtain⟨a',cap',he⟩:=xC.len
 subst he
 have Hh:=(List.nodup_append.1 hP.nodup)
 have Wa:∀x,x∈jL gs->x<w.heap.size:=λx hx=>by
  simp only[jL,mA] at hx
  rcases hx with hx|hx
  ·exact jX.lt h1 x (by simpa using hx)
  ·exact jX.lt h2 x (by simpa using hx)
 refine fT hg hd (w':=w') (by
  simp only[execOp,resolve,invoke,builtin,Sem.run_bind,Sem.run_pure,Result.andThen_ok,List.map_toArray,List.map_cons,List.map_nil,hx,hy,kl]) (k a' cap' g' w' ⟨xC,?_,?_,?_⟩ hk (k7.imp id λh=>⟨_,h,lR _⟩))
 ·refine js.snoc (hP.rows.aO hk λx hx hg=>Hh.2.2 x hg x hx rfl) ⟨_,_,rfl,h1.aO hk λb hb hx=>?_,h2.aO hk λb hb hx=>?_⟩
  ·exact nR b (by simp[jL,hb]) (by simp at hx;simp[hx])
  ·exact nR b (by simp[jL,hb]) (by simp at hx;simp[hx])
 ·rw[Ls,<-List.append_assoc]
  refine List.nodup_append.2 ⟨List.nodup_append.2 ⟨by cases g'<;>simp,Hh.2.1,λa ha c hc=>?_⟩,jy,λa ha c hc=>?_⟩
  ·rintro rfl
   rcases k7 with h|h
   ·rw[h] at ha;exact Hh.2.2 a ha a hc rfl
   ·rw[h] at ha;simp at ha;have:=hP.lt a hc;omega
  ·rintro rfl
   rcases mA.1 ha with ha|ha
   ·rcases k7 with h|h
    ·rw[h] at ha;exact nR a hc (by simp at ha;simp[ha])
    ·rw[h] at ha;simp at ha;have:=Wa a hc;omega
   ·exact nR a hc (by simp[ha])
 ·intro x hx
  rw[Ls,mA] at hx
  rcases hx with hx|hx
  ·exact lL (hP.lt x hx) hk.size
  ·exact lL (Wa x hx) hk.size
theorem js.OY {w:World} {T:TypeId}:∀{gss:List (Option Nat×Option Nat)} {vss:List (List Value)} {bs:List Bk} {i:Nat} {g:Option Nat×Option Nat} {v:List Value} {f:Bk},js w T gss vss bs->qm w' T g v f->
  (∀(g2:Option Nat×Option Nat) (v2:List Value) (b2:Bk),(∀x,x∈jL g2->x∈ik gss)->qm w T g2 v2 b2->qm w' T g2 v2 b2)->js w' T (gss.set i g) (vss.set i v) (bs.set i f)
 |[],[],[],i,g,v,f,_,_,_=>trivial
 |g0::gs,v0::vs,b0::bs,0,g,v,f,h,hf,hk=>by
  refine⟨hf,?_⟩
  have:=js.OY (i:=gs.length) (g:=g) (v:=v) (f:=f) h.2 hf λg2 v2 b2 hg ho=>hk g2 v2 b2 (λx hx=>by rw[BI];exact mR _ (hg x hx)) ho
  have hl:=js.lens h.2
  rwa [List.set_eq_of_length_le om,List.set_eq_of_length_le om,List.set_eq_of_length_le om] at this
 |g0::gs,v0::vs,b0::bs,i+1,g,v,f,h,hf,hk=>
  ⟨hk g0 v0 b0 (λx hx=>by rw[BI];exact List.mem_append_left _ hx) h.1,js.OY h.2 hf λg2 v2 b2 hg ho=>hk g2 v2 b2 (λx hx=>by rw[BI];exact mR _ (hg x hx)) ho⟩
theorem ajz {T TB TS bytes:Nat} {z:Value} {v:Value} {gb:Option Nat} {gss:List (Option Nat×Option Nat)} {vss:List (List Value)} {bs:List Bk} {a2:Option Addr} {n2 c2:Nat} {g2:Option Nat} {ys:List aj} {L:List Nat} {o i:Nat} (kK:TI P T 1 bytes z) (hg:gate ops e g=true) (hx:ev e x= .pointer (some ⟨b,o,none⟩)) (hy:ev e y= .slice a2 n2 c2) (ho:o=i*3+2) 
  (hO:mv w TB TS v gb gss vss bs) (oD:gb=some b) (hi:i<bs.length) (h2:dh w TS (.slice a2 n2 c2) g2 ys) (nR:∀x,x∈g2.toList->x∉gb.toList) (hL:∀x,x∈gb.toList++ik gss++g2.toList->x∉L)
  (k:∀w',ak gb.toList w w'->(∃xs,iw L w' TB 3 v gb ((bs.set i {bz bs i with code:=ys}).map Bk.enc) xs)->w'.heap.size=w.heap.size->OW P n ops K rest e w'):OW P n ops K (⟨none,.store T x y,ty,pos,after,g⟩::rest) e w:=by
 subst ho
 have hd:=List.nodup_append.1 hO.nodup
 have dY:=hO.own
 obtain⟨gs,vs,jM,bo,v1,v2,Lq,dy,dR⟩:=hO.rows.get (o3 hi)
 obtain⟨gi,iZ,wh⟩:=hO.rows.lens
 subst oD
 obtain⟨hl,h|⟨b',cap,cur,oD,hv,hb,mM,mo,cJ,ht⟩⟩:=dY
 ·obtain⟨_,_,h⟩:=h;cases h
 ·cases oD
  subst hv
  refine Kf kK rfl hg hx hy rfl hb (by rw[cJ];omega) λw' hk gW hz=>?_
  have pb:(vss.set i [str (bz bs i).aP,v1,.slice a2 n2 c2]).flatten=vss.flatten.set (i*3+2) (.slice a2 n2 c2):=by
   have:=Rw (a:=.slice a2 n2 c2) (j:=2) wh bo de
   rw[this,Lq];rfl
  have jS:∀x,x∈ik gss->x∉[b]:=λq hq h=>by simp at h;subst h;exact hd.2.2 q sm q hq rfl
  have iI:qm w' TS (gs.1,g2) [str (bz bs i).aP,v1,.slice a2 n2 c2] {bz bs i with code:=ys}:=
   ⟨v1,_,rfl,dy.aO hk (λb hb=>jS b (xS jM (by simp[jL,hb]))),h2.aO hk (λb hb hx=>nR b (by simp[hb]) (by simpa using hx))⟩
  have ajA:=js.OY (i:=i) hO.rows iI λg2 v2 b2 iz ho=>ho.aO hk λx hx=>jS x (iz x hx)
  have rV:∀x,x∈ik (gss.set i (gs.1,g2))->x∈ik gss∨x∈g2.toList:=λx hx=>by
   simp only[ik,List.mem_flatMap] at hx⊢
   obtain⟨q,hq,OZ⟩:=hx
   rcases List.mem_or_eq_of_mem_set hq with h|h
   ·exact .inl ⟨q,h,OZ⟩
   ·subst h
    simp only[jL,mA] at OZ
    rcases OZ with h|h
    ·exact .inl ⟨gs,List.mem_of_getElem? jM,by simp only[jL,mA];exact .inl h⟩
    ·exact .inr h
  have Hh:∀x,x∈ik (gss.set i (gs.1,g2))->x≠b:=λx hx e=>by
   rcases rV x hx with h|h
   ·exact jS x h (by simp[e])
   ·exact nR x h (by simp[e])
  refine k w' (by simpa using hk) ?_ hz
  refine⟨(vss.set i [str (bz bs i).aP,v1,.slice a2 n2 c2]).flatten,⟨?_,.inr ⟨b,_,_,rfl,sm,gW,by simpa using mM,mo,by simpa using cJ,?_⟩⟩,ajA.BC λx hx hc=>?_,?_,λc hc=>hL c (by simp[hc])⟩
  ·rw[pb,List.length_set,hl,List.length_map,List.length_set]
  ·rw[Array.toList_setIfInBounds,List.length_map,List.length_set,List.take_set,ht,pb]
  ·rcases mA.1 hc with hc|hc
   ·simp at hc;exact Hh x hx hc
   ·rcases rV x hx with h|h
    ·exact hL x (by simp[h]) hc
    ·exact hL x (by simp[h]) hc
  ·intro row hr
   obtain⟨c,_,rfl⟩:=List.mem_map.1 hr
   rfl
end
def vN (bs bs':List Bk):Prop:=bs'.length=bs.length∧∀i,i<bs.length->(bz bs' i).aP=(bz bs i).aP∧(bz bs' i).cE=(bz bs i).cE∧(bz bs' i).code.length<=(bz bs i).code.length∧∀x,x∈(bz bs' i).code->x∈(bz bs i).code∨bH x=true
theorem vN.refl (bs:List Bk):vN bs bs:=⟨rfl,λ_ _=>⟨rfl,rfl,lR _,λ_ h=>.inl h⟩⟩
theorem ajB {j:Nat} {f:Bk} (hi:i<bs.length):bz (bs.set i f) j=if j=i then f else bz bs j:=by
 unfold bz
 rw[gG,gG,List.getElem?_set]
 by_cases h:i=j
 ·subst h;simp[hi]
 ·rw[iN h,iN (λe=>h e.symm)]
theorem vN.set {cs:List Bk} (h:vN bs cs) (hi:i<bs.length) (hl:ys.length<=(bz bs i).code.length) (hy:∀x,x∈ys->x∈(bz bs i).code∨bH x=true):vN bs (cs.set i {bz cs i with code:=ys}):=by
 refine⟨by rw[List.length_set];exact h.1,λj hj=>?_⟩
 rw[ajB (by rw[h.1];exact hi)]
 by_cases e:j=i
 ·subst e
  rw[iP rfl]
  obtain⟨h1,h2,_,_⟩:=h.2 j hj
  exact⟨h1,h2,hl,hy⟩
 ·rw[iN e];exact h.2 j hj
def EA:List aj:=[[48],[49],[45,55],[57,57,57]]
def O0:List aj:=[[97,100,100],[115,117,98],[109,117,108]]
def O1:List aj:=[[48],[49],[50]]
def O2:List aj:=[[109,97,105,110],[98,48],[98,49],[101,110,100]]
def O3:List aj:=[[40,101,32,118,41,32,105],[40,101,32,40,116,32,118,32,118,41,41,32,105],[40,101,32,40,116,32,40,99,32,118,32,105,41,32,118,41,41,32,40,116,41],[40,101,32,118,41,32,40,116,32,105,32,105,41]]
def O4:List aj:=[[98,48],[98,49],[109,97,105,110]]
def O5:List aj:=[[40,104,97,108,116,32,52,48,41],[40,99,111,110,115,116,32,49,32,120,41],[40,109,111,118,32,49,41],[40,110,101,119,41],[40,112,97,99,107,32,49,32,50,32,105,32,105,41],[],[40,103,101,116,32,49,32,50,32,45,49,41],[40,122,101,114,111,32,49,32,50,41],[40,108,97,98,32,48,32,109,97,105,110,41],[40,104,97,108,116,32,48,41]]
set_option maxHeartbeats 4000000 in
theorem ajC (br q:Nat) (hq:q<=900000000) (w:World) (h:dZ w br q):
  bZ Tryz.prog 77 [.pointer (some ⟨br,0,none⟩)] w λr w'=>(∃x,r=str x∧x.length<=100)∧dZ w' br (q+5)∧ak [br] w w':=by
 refine cU [.tmp 2] 133 Tryz.func77 rfl ZC rfl rfl ?_
 refine zr<|zA<|ag<|zr<|zm<|aC (Hf br (q+0) om w h) ?_
 rintro v7 w1 ⟨⟨za,VY,e7⟩,h,cv⟩
 have hxA:∃x,x=bf za:=⟨_,rfl⟩
 obtain⟨tA,etA⟩:=hxA
 rw[<-etA] at e7
 subst e7
 have U5:tA.length<=3:=(by rw[etA];exact sM om)
 have aG:=cv
 refine zA<|ag<|zr<|zm<|aC (Hf br (q+1) om w1 h) ?_
 rintro v7 w2 ⟨⟨zb,VZ,e7⟩,h,cv⟩
 have hxB:∃x,x=bf zb:=⟨_,rfl⟩
 obtain⟨tB,etB⟩:=hxB
 rw[<-etB] at e7
 subst e7
 have U6:tB.length<=3:=(by rw[etB];exact sM om)
 have aG:=aG.trans cv
 refine zA<|ag<|zr<|zm<|aC (Hf br (q+2) om w2 h) ?_
 rintro v7 w3 ⟨⟨zd,hzd,e7⟩,h,cv⟩
 have hxD:∃x,x=bf zd:=⟨_,rfl⟩
 obtain⟨tD,etD⟩:=hxD
 rw[<-etD] at e7
 subst e7
 have hlD:tD.length<=3:=(by rw[etD];exact sM om)
 have aG:=aG.trans cv
 refine zA<|ag<|aQ<|zr<|zm<|aC (mm 14 de de br (q+3) om w3 h) ?_
 rintro wP w4 ⟨⟨z,Gy,hz⟩,h,fM⟩
 subst Gy
 have aG:=aG.trans fM
 have mn:=h.lt
 refine ag<|cP<|aQ<|zr<|dO rfl rfl rfl<|zA<|ag<|zc rfl (λh1=>?_) (λh1=>?_)
 refine bA<|zc rfl (λh2=>?_) (λh2=>?_)
 refine zr<|zm<|cm rfl rfl so<|cm rfl rfl so<|zm<|yc bh bB rfl rfl rfl rfl rfl rfl ?_
 intro w5 aT vg jo
 have h:=h.ext aT;have aG:=aG.ext aT
 refine aC (mJ EA de de br (q+4) om _ w5 h (aY.eF EA vg (λhx=>by simp at hx;omega) de)) ?_
 rintro lJ w6 ⟨⟨x1,iR,iE⟩,h,dL⟩
 subst iE
 have aG:=aG.trans dL
 have fi:=(show∀x,x∈EA->x.length<=30 from by decide) _ iR
 refine cm rfl rfl so<|cm rfl rfl so<|zA<|ag<|aV ?_
 exact⟨_,rfl,⟨_,rfl,by simp;omega⟩,h.more om,aG⟩
 omega
 refine db<|dO rfl rfl rfl<|zA<|ag<|zc rfl (λh3=>?_) (λh3=>?_)
 refine zr<|zm<|cm rfl rfl so<|cm rfl rfl so<|zm<|yc bh bB rfl rfl rfl rfl rfl rfl ?_
 intro w5 aT vg jo
 have h:=h.ext aT;have aG:=aG.ext aT
 refine aC (mJ EA de de br (q+4) om _ w5 h (aY.eF EA vg (λhx=>by simp at hx;omega) de)) ?_
 rintro lJ w6 ⟨⟨x1,iR,iE⟩,h,dL⟩
 subst iE
 have aG:=aG.trans dL
 have fi:=(show∀x,x∈EA->x.length<=30 from by decide) _ iR
 refine cm rfl rfl so<|cm rfl rfl so<|zA<|ag<|aV ?_
 exact⟨_,rfl,⟨_,rfl,by simp;omega⟩,h.more om,aG⟩
 refine zr<|dO rfl rfl rfl<|zA<|ag<|zc rfl (λh4=>?_) (λh4=>?_)
 refine zr<|zm<|cm rfl rfl so<|cm rfl rfl so<|zm<|cm rfl rfl so<|cm rfl rfl so<|zA<|ag<|aV ?_
 exact⟨_,rfl,⟨_,rfl,by simp;omega⟩,h.more om,aG⟩
 refine zr<|dO rfl rfl rfl<|zA<|ag<|zc rfl (λh5=>?_) (λh5=>?_)
 refine zr<|zm<|pQ bh bB rfl rfl rfl rfl rfl ?_
 intro w5 aT vE jo
 have h:=h.ext aT;have aG:=aG.ext aT
 refine aC (mJ O0 de de br (q+4) om _ w5 h (aY.eF O0 vE (λhx=>by simp at hx;omega) de)) ?_
 rintro lJ w6 ⟨⟨x1,iR,iE⟩,h,dL⟩
 subst iE
 have aG:=aG.trans dL
 have fi:=(show∀x,x∈O0->x.length<=30 from by decide) _ iR
 refine cm rfl rfl so<|cm rfl rfl so<|zm<|cm rfl rfl so<|cm rfl rfl so<|zm<|cm rfl rfl so<|cm rfl rfl so<|zm<|cm rfl rfl so<|cm rfl rfl so<|zA<|ag<|aV ?_
 exact⟨_,rfl,⟨_,rfl,by simp;omega⟩,h.more om,aG⟩
 refine zr<|dO rfl rfl rfl<|zA<|ag<|zc rfl (λh6=>?_) (λh6=>?_)
 refine zr<|zm<|cm rfl rfl so<|cm rfl rfl so<|zm<|cm rfl rfl so<|cm rfl rfl so<|zm<|cm rfl rfl so<|cm rfl rfl so<|zA<|ag<|aV ?_
 exact⟨_,rfl,⟨_,rfl,by simp;omega⟩,h.more om,aG⟩
 refine zr<|dO rfl rfl rfl<|zA<|ag<|zc rfl (λh7=>?_) (λh7=>?_)
 refine zr<|zm<|cm rfl rfl so<|cm rfl rfl so<|zA<|ag<|aV ?_
 exact⟨_,rfl,⟨_,rfl,by simp;omega⟩,h.more om,aG⟩
 refine zr<|dO rfl rfl rfl<|zA<|ag<|zc rfl (λh8=>?_) (λh8=>?_)
 refine zr<|zm<|cm rfl rfl so<|cm rfl rfl so<|zm<|cm rfl rfl so<|cm rfl rfl so<|zm<|pQ bh bB rfl rfl rfl rfl rfl ?_
 intro w5 aT NO jo
 have h:=h.ext aT;have aG:=aG.ext aT
 refine aC (mJ O1 de de br (q+4) om _ w5 h (aY.eF O1 NO (λhx=>by simp at hx;omega) de)) ?_
 rintro lJ w6 ⟨⟨x1,iR,iE⟩,h,dL⟩
 subst iE
 have aG:=aG.trans dL
 have fi:=(show∀x,x∈O1->x.length<=30 from by decide) _ iR
 refine cm rfl rfl so<|cm rfl rfl so<|zA<|ag<|aV ?_
 exact⟨_,rfl,⟨_,rfl,by simp;omega⟩,h.more om,aG⟩
 refine zr<|dO rfl rfl rfl<|zA<|ag<|zc rfl (λh9=>?_) (λh9=>?_)
 refine zr<|zm<|cm rfl rfl so<|cm rfl rfl so<|zm<|yc bh bB rfl rfl rfl rfl rfl rfl ?_
 intro w5 aT Ef jo
 have h:=h.ext aT;have aG:=aG.ext aT
 refine aC (mJ O2 de de br (q+4) om _ w5 h (aY.eF O2 Ef (λhx=>by simp at hx;omega) de)) ?_
 rintro lJ w6 ⟨⟨x1,iR,iE⟩,h,dL⟩
 subst iE
 have aG:=aG.trans dL
 have fi:=(show∀x,x∈O2->x.length<=30 from by decide) _ iR
 refine cm rfl rfl so<|cm rfl rfl so<|zA<|ag<|aV ?_
 exact⟨_,rfl,⟨_,rfl,by simp;omega⟩,h.more om,aG⟩
 refine zr<|dO rfl rfl rfl<|zA<|ag<|zc rfl (λgI=>?_) (λgI=>?_)
 refine zr<|zm<|cm rfl rfl so<|cm rfl rfl so<|zm<|cm rfl rfl so<|cm rfl rfl so<|zm<|yc bh bB rfl rfl rfl rfl rfl rfl ?_
 intro w5 aT GP jo
 have h:=h.ext aT;have aG:=aG.ext aT
 refine aC (mJ O3 de de br (q+4) om _ w5 h (aY.eF O3 GP (λhx=>by simp at hx;omega) de)) ?_
 rintro lJ w6 ⟨⟨x1,iR,iE⟩,h,dL⟩
 subst iE
 have aG:=aG.trans dL
 have fi:=(show∀x,x∈O3->x.length<=30 from by decide) _ iR
 refine cm rfl rfl so<|cm rfl rfl so<|zA<|ag<|aV ?_
 exact⟨_,rfl,⟨_,rfl,by simp;omega⟩,h.more om,aG⟩
 refine zr<|dO rfl rfl rfl<|zA<|ag<|zc rfl (λkm=>?_) (λkm=>?_)
 refine zr<|zm<|cm rfl rfl so<|cm rfl rfl so<|zm<|cm rfl rfl so<|cm rfl rfl so<|zA<|ag<|aV ?_
 exact⟨_,rfl,⟨_,rfl,by simp;omega⟩,h.more om,aG⟩
 refine zr<|dO rfl rfl rfl<|zA<|ag<|zc rfl (λjJ=>?_) (λjJ=>?_)
 refine zr<|zm<|cm rfl rfl so<|cm rfl rfl so<|zm<|pQ bh bB rfl rfl rfl rfl rfl ?_
 intro w5 aT JA jo
 have h:=h.ext aT;have aG:=aG.ext aT
 refine aC (mJ O4 de de br (q+4) om _ w5 h (aY.eF O4 JA (λhx=>by simp at hx;omega) de)) ?_
 rintro lJ w6 ⟨⟨x1,iR,iE⟩,h,dL⟩
 subst iE
 have aG:=aG.trans dL
 have fi:=(show∀x,x∈O4->x.length<=30 from by decide) _ iR
 refine cm rfl rfl so<|cm rfl rfl so<|zA<|ag<|aV ?_
 exact⟨_,rfl,⟨_,rfl,by simp;omega⟩,h.more om,aG⟩
 refine zr<|dO rfl rfl rfl<|zA<|ag<|zc rfl (λlD=>?_) (λlD=>?_)
 refine zr<|zm<|zm<|cm rfl rfl so<|cm rfl rfl so<|zm<|cm rfl rfl so<|cm rfl rfl so<|lk bh bB rfl rfl rfl rfl ?_
 intro w5 aT MY jo
 have h:=h.ext aT;have aG:=aG.ext aT
 refine aC (mJ [[40,106,117,109,112,32]++tA++[41],[40,104,97,108,116,32]++tA++[41]] sm sm br (q+4) om _ w5 h (aY.eF [[40,106,117,109,112,32]++tA++[41],[40,104,97,108,116,32]++tA++[41]] MY (λhx=>by simp at hx;omega))) ?_
 rintro lJ w6 ⟨⟨x1,iR,iE⟩,h,dL⟩
 subst iE
 have aG:=aG.trans dL
 have fi:x1.length<=30:=(by simp only[mC,List.not_mem_nil,or_false] at iR;rcases iR with rfl|rfl<;>simp<;>omega)
 refine zA<|ag<|aV ?_
 exact⟨_,rfl,⟨_,rfl,om⟩,h.more om,aG⟩
 refine bA<|zr<|zm<|acO bh bB rfl rfl rfl rfl rfl rfl rfl rfl rfl rfl rfl rfl ?_
 intro w5 aT ajG jo
 have h:=h.ext aT;have aG:=aG.ext aT
 refine aC (mJ O5 de de br (q+4) om _ w5 h (aY.eF O5 ajG (λhx=>by simp at hx;omega) de)) ?_
 rintro lJ w6 ⟨⟨x1,iR,iE⟩,h,dL⟩
 subst iE
 have aG:=aG.trans dL
 have fi:=(show∀x,x∈O5->x.length<=30 from by decide) _ iR
 refine zA<|ag<|aV ?_
 exact⟨_,rfl,⟨_,rfl,om⟩,h.more om,aG⟩
def J8:List aj:=[[105],[105],[40,116,41],[40,116,32,105,32,105,41],[40,101,32,118,41]]
theorem ajH {α:Type} {l:List α} (h:l.length=7):∃a b c d e f g,l=[a,b,c,d,e,f,g]:=by
 match l,h with|[a,b,c,d,e,f,g],_=>exact⟨a,b,c,d,e,f,g,rfl⟩
structure O6 (b:Bk) (aP:aj):Prop where
 aP:b.aP=aP
 regs:b.cE.length<=10∧∀x,x∈b.cE->x.length<=100
 code:1<=b.code.length∧b.code.length<=10∧∀x,x∈b.code->x.length<=100
structure rJ (br:Nat) (w:World) (b6 b7:Nat) (aP:aj) (v1:Value) (g1:Option Nat) (xs:List aj) (v2:Value) (g2:Option Nat) (ys:List aj) (q:Nat) (ww:World):Prop where
 box:aY ww b7 [str aP,v1,v2].toArray 29
 res:aY ww b6 [str [],.slice none 0 0,.slice none 0 0].toArray 29
 o1:dh ww 9 v1 g1 xs
 o2:dh ww 9 v2 g2 ys
 rd:dZ ww br q
 kp:ak [br] w ww
 f1:∀x,x∈g1.toList->w.heap.size<=x∧x≠b6∧x≠b7∧x∉g2.toList
 f2:∀x,x∈g2.toList->w.heap.size<=x∧x≠b6∧x≠b7∧x∉g1.toList
theorem rJ.ext {br:Nat} {aP:aj} {ww:World} (h:rJ br w b6 b7 aP v1 g1 xs v2 g2 ys q ww) (k:ak [] ww w'):rJ br w b6 b7 aP v1 g1 xs v2 g2 ys q w':=
 ⟨h.box.ext k,h.res.ext k,h.o1.ext k,h.o2.ext k,h.rd.ext k,h.kp.ext k,h.f1,h.f2⟩
theorem rJ.Gz {br:Nat} {aP:aj} {ww wx:World} {zs:List aj} (h:rJ br w b6 b7 aP v1 g1 xs v2 g2 ys q ww) (iO:br<w.heap.size) (h6:w.heap.size<=b6) (h7:w.heap.size<=b7) (O7:b6≠b7) (hO:dh wx 9 v g zs) (fp:dZ wx br q') (k:ak (br::g1.toList) ww wx) (hg:g=g1∨∃z,g=some z∧ww.heap.size<=z) (k2:ak [b7] wx w') (hb:aY w' b7 [str aP,v,v2].toArray 29):rJ br w b6 b7 aP v g zs v2 g2 ys q' w':=by
 have iz:∀x,x∈g.toList->x∈g1.toList∨ww.heap.size<=x:=λx hx=>by
  rcases hg with rfl|⟨z,rfl,hz⟩
  ·exact .inl hx
  ·simp at hx;right;omega
 have s7:=h.box.lt
 have s6:=h.res.lt
 have iY:=h.kp.size
 have f1:∀x,x∈g.toList->w.heap.size<=x∧x≠b6∧x≠b7∧x∉g2.toList:=λx hx=>by
  rcases iz x hx with h9|h9
  ·exact h.f1 x h9
  ·exact⟨by omega,om,om,λhy=>by have:=h.o2.lt x hy;omega⟩
 have n6:b6∉br::g1.toList:=λhx=>by
  rcases mC.1 hx with h9|h9
  ·omega
  ·exact(h.f1 b6 h9).2.1 rfl
 refine⟨hb,(h.res.aO k n6).aO k2 (by simpa using O7),hO.aO k2 (λx hx hy=>(f1 x (by simp[hx])).2.2.1 (by simpa using hy)),(h.o2.aO k (λx hx hy=>?_)).aO k2 (λx hx hy=>(h.f2 x (by simp[hx])).2.2.1 (by simpa using hy)),fp.aO k2 (λx hx=>by simp at hx;omega),?_,f1,λx hx=>⟨(h.f2 x hx).1,(h.f2 x hx).2.1,(h.f2 x hx).2.2.1,λhy=>(f1 x hy).2.2.2 hx⟩⟩
 ·rcases mC.1 hy with h9|h9
  ·have:=(h.f2 x (by simp[hx])).1;omega
  ·exact(h.f2 x (by simp[hx])).2.2.2 h9
 ·refine(h.kp.since k λx hx=>?_).since k2 λx hx=>.inr (by simp at hx;omega)
  rcases mC.1 hx with h9|h9
  ·exact .inl (by simp[h9])
  ·exact .inr (h.f1 x h9).1
theorem rJ.AJ {br:Nat} {aP:aj} {ww wx:World} {zs:List aj} (h:rJ br w b6 b7 aP v1 g1 xs v2 g2 ys q ww) (iO:br<w.heap.size) (h6:w.heap.size<=b6) (h7:w.heap.size<=b7) (O7:b6≠b7) (hO:dh wx 9 v g zs) (fp:dZ wx br q') (k:ak (br::g2.toList) ww wx) (hg:g=g2∨∃z,g=some z∧ww.heap.size<=z) (k2:ak [b7] wx w') (hb:aY w' b7 [str aP,v1,v].toArray 29):rJ br w b6 b7 aP v1 g1 xs v g zs q' w':=by
 have iz:∀x,x∈g.toList->x∈g2.toList∨ww.heap.size<=x:=λx hx=>by
  rcases hg with rfl|⟨z,rfl,hz⟩
  ·exact .inl hx
  ·simp at hx;right;omega
 have s7:=h.box.lt
 have s6:=h.res.lt
 have iY:=h.kp.size
 have f1:∀x,x∈g.toList->w.heap.size<=x∧x≠b6∧x≠b7∧x∉g1.toList:=λx hx=>by
  rcases iz x hx with h9|h9
  ·exact h.f2 x h9
  ·exact⟨by omega,om,om,λhy=>by have:=h.o1.lt x hy;omega⟩
 have n6:b6∉br::g2.toList:=λhx=>by
  rcases mC.1 hx with h9|h9
  ·omega
  ·exact(h.f2 b6 h9).2.1 rfl
 refine⟨hb,(h.res.aO k n6).aO k2 (by simpa using O7),(h.o1.aO k (λx hx hy=>?_)).aO k2 (λx hx hy=>(h.f1 x (by simp[hx])).2.2.1 (by simpa using hy)),hO.aO k2 (λx hx hy=>(f1 x (by simp[hx])).2.2.1 (by simpa using hy)),fp.aO k2 (λx hx=>by simp at hx;omega),?_,λx hx=>⟨(h.f1 x hx).1,(h.f1 x hx).2.1,(h.f1 x hx).2.2.1,λhy=>(f1 x hy).2.2.2 hx⟩,f1⟩
 ·rcases mC.1 hy with h9|h9
  ·have:=(h.f1 x (by simp[hx])).1;omega
  ·exact(h.f1 x (by simp[hx])).2.2.2 h9
 ·refine(h.kp.since k λx hx=>?_).since k2 λx hx=>.inr (by simp at hx;omega)
  rcases mC.1 hx with h9|h9
  ·exact .inl (by simp[h9])
  ·exact .inr (h.f2 x h9).1
theorem rJ.call {br:Nat} {aP:aj} {ww:World} (h:rJ br w b6 b7 aP v1 g1 xs v2 g2 ys q ww) (iO:br<w.heap.size) (h6:w.heap.size<=b6) (h7:w.heap.size<=b7) (fp:dZ w' br q') (k:ak [br] ww w'):rJ br w b6 b7 aP v1 g1 xs v2 g2 ys q' w':=
 ⟨h.box.aO k so,h.res.aO k so,h.o1.aO k (λx hx hy=>by have:=(h.f1 x (by simp[hx])).1;simp at hy;omega),h.o2.aO k (λx hx hy=>by have:=(h.f2 x (by simp[hx])).1;simp at hy;omega),fp,h.kp.trans k,h.f1,h.f2⟩
set_option maxHeartbeats 4000000 in
theorem O8 (aP:aj) (k:Nat) (hk:k<=10) (br q:Nat) (hq:q<=800000000) (w:World) (h:dZ w br q):
  bZ Tryz.prog 48 [.pointer (some ⟨br,0,none⟩),str aP,.int .i64 (k:Int)] w λr w'=>(∃bk,O6 bk aP∧∀L:List Nat,(∀x,x∈L->x<w.heap.size)->qj L w' r bk)∧dZ w' br (q+100)∧ak [br] w w':=by
 have iO:=h.lt
 have hK:=ak.refl [] w
 refine lz [.cell 6 29] 64 Tryz.func48 rfl Zj rfl rfl rfl ?_
 refine zr<|eC fH rfl rfl rfl ?_
 intro w1 aJ bR lB
 have hK:=hK.ext aJ
 refine ag<|zr<|zm<|gM bh bB ?_
 intro w2 aq mc Gg
 have hK:=hK.ext aq;have bR:=bR.ext aq
 refine gM bh bB ?_
 intro w3 aK wT Co
 have hK:=hK.ext aK;have bR:=bR.ext aK;have mc:=mc.ext aK
 refine j6 (Kz _ _ _ _ _ _ _ _) rfl rfl<|eC fH rfl rfl rfl ?_
 intro w4 aD cH qg
 have hK:=hK.ext aD;have bR:=bR.ext aD;have mc:=mc.ext aD;have wT:=wT.ext aD
 refine dk fH rfl rfl rfl cH rfl ?_
 intro w5 aT cH dP
 have hK:=hK.since aT (λx hx=>.inr (by simp at hx;omega))
 have bR:=bR.aO aT so
 have mc:=mc.aO aT so
 have wT:=wT.aO aT so
 have hS:rJ br w w.heap.size w3.heap.size aP (.slice (some ⟨w1.heap.size,0,none⟩) 0 0) (some w1.heap.size) [] (.slice (some ⟨w2.heap.size,0,none⟩) 0 0) (some w2.heap.size) [] q w5:=⟨cH,bR,mc.ll,wT.ll,h.ext hK,hK.any,λx hx=>by simp at hx;subst hx;simp;omega,λx hx=>by simp at hx;subst hx;simp;omega⟩
 refine ag<|aQ<|zr<|zA<|ag<|cP ?_
 refine fZ (λi:Nat=>[(0,.pointer (some ⟨br,0,none⟩)),(6,.pointer (some ⟨w.heap.size,0,none⟩)),(7,.pointer (some ⟨w3.heap.size,0,none⟩)),(2,.int .i64 (k:Int)),(8,.int .i64 (i:Int))]) (λi ww=>i<=k∧∃v1 g1 xs v2 g2,rJ br w w.heap.size w3.heap.size aP v1 g1 xs v2 g2 [] (q+i) ww∧xs.length=i∧∀x,x∈xs->x.length<=100) (λi=>k-i) (0) (⟨rfl,rfl,rfl,rfl,rfl⟩) (⟨Nat.zero_le _,_,_,_,_,_,hS,rfl,sm⟩) ?_
 intro gg w6 e6 hI
 obtain⟨hi,v1,g1,xs,v2,g2,hS,hxn,yX⟩:=hI
 refine aQ<|zr<|zm<|zm<|fJ rfl rfl rfl<|ag<|zc rfl (λh1=>?_) (λh1=>?_)
 have ky:gg<k:=(by simp at h1;omega)
 have cJ:=kr hS.o1
 obtain⟨a1,c1,e1⟩:=cJ
 subst e1
 have ajJ:br∉g1.toList:=(λhx=>by have:=(hS.f1 br hx).1;omega)
 have bj:fh (br::g1.toList) w6 w3.heap.size [str aP,.slice a1 xs.length c1,v2].toArray 29:=⟨hS.box,λhx=>by rcases mC.1 hx with h9|h9;(·omega);(·exact(hS.f1 _ h9).2.2.1 rfl)⟩
 have tS:=bj.out
 have pY:fy (br::g1.toList) w6:=(λz hz=>by rcases mC.1 hz with h9|h9;(·rw[h9];exact hS.rd.lt);(·exact hS.o1.lt z h9))
 refine bA<|aQ<|cP ?_
 apply kc eu ((br::g1.toList)) 7 (rA 21 7) (rA 21 7) [[],[0],[],[],[2,3],[4],[1,5]] [Ie.v _,Ie.v _,Ie.v _,Ie.p (fun(G:List Nat) (v:Value) (ww:World)=>bI G ww v J8),Ie.e 0,Ie.e 1,Ie.e 2] [4,5,6] [fun(G:List Nat) (vs:List Value) (ww:World)=>G=br::g1.toList∧ak [] w6 ww,fun(G:List Nat) (vs:List Value) (ww:World)=>G=br::g1.toList∧ak [br] w6 ww∧dZ ww br (q+gg+1)∧∃x,vs.getD 0 undef=str x∧x.length<=100,fun(G:List Nat) (vs:List Value) (ww:World)=>G=br::g1.toList∧ak [br] w6 ww∧dZ ww br (q+gg+1)∧∃x bb,vs.getD 0 undef=str x∧x.length<=100∧vs.getD 1 undef= .slice (some ⟨bb,0,none⟩) 1 1∧aY ww bb [str x].toArray 9,fun(G:List Nat) (vs:List Value) (ww:World)=>ak (br::g1.toList) w6 ww∧dZ ww br (q+gg+1)∧∃x g9,x.length<=100∧dh ww 9 (vs.getD 2 undef) g9 (xs++[x])∧(g9=g1∨∃z,g9=some z∧w6.heap.size<=z)] de rfl pY (by exact⟨λG v w G' w' h k=>bI.go h k,trivial⟩) (by exact⟨λG vs w w' ⟨h1,h2⟩ k=>⟨h1,h2.ext k⟩,λG vs w w' ⟨h1,h2,h3,h4⟩ k=>⟨h1,h2.ext k,h3.ext k,h4⟩,λG vs w w' ⟨h1,h2,h3,x,bb,h4,h5,h6,h7⟩ k=>⟨h1,h2.ext k,h3.ext k,x,bb,h4,h5,h6,h7.ext k⟩,λG vs w w' ⟨h1,h2,x,g9,h3,h4,h5⟩ k=>⟨h1.ext k,h2.ext k,x,g9,h3,h4.ext k,h5⟩,trivial⟩) (⟨rfl,ak.refl _ _⟩)
 refine vf (λ_ _ _ _ _ _=>zf wa rfl fv) ?_
 refine vf (λx w7 G7 aW iX jW=>?_) ?_
 have bj:=bj.go iX
 refine zl eO rfl (bj.at rfl) ?_
 exact fv
 refine cR ?_
 refine vf (λx w7 G7 aW iX jW=>?_) ?_
 refine Sy bh bB rfl rfl rfl rfl rfl rfl rfl ?_
 intro w8 cu yB mu
 exact ff cu ((aY.eF J8 yB (λhx=>by have:=jW _ hx;omega) de))
 refine ve 0 (λx w7 G7 aW iX jW hJ hlen=>?_) ?_
 have bo:=jO hlen
 subst bo
 intro v3 d3
 obtain⟨cz,cB⟩:=hJ
 subst cz
 have fp:=hS.rd.ext cB
 refine aC (mJ J8 de de br (q+gg) om _ w7 fp (bI.fresh d3 (λx hx=>.inl (by simp at hx;simp[hx])))) ?_
 rintro v25 w8 ⟨⟨x1,iR,Nq⟩,fp,GC⟩
 subst Nq
 have gi:=(show∀x,x∈J8->x.length<=100 from by decide) _ iR
 exact fe _ (Fr.of GC sm) ((λz hz=>lL (jW z hz) GC.size)) (⟨rfl,cB.any.trans GC,fp,x1,rfl,gi⟩)
 refine ve 1 (λx w7 G7 aW iX jW hJ hlen=>?_) ?_
 have aR:=jP hlen
 obtain⟨q0,bo⟩:=aR
 subst bo
 obtain⟨cz,cB,fp,x1,e1,gi⟩:=hJ
 subst cz
 have e2:q0=_:=e1
 subst e2
 refine gA bh bB rfl rfl ?_
 intro w8 cu Cs mu
 exact fe _ (Fr.of cu sm) ((λz hz=>lL (jW z hz) (ak.size cu))) (⟨rfl,cB.ext cu,fp.ext cu,x1,_,rfl,gi,rfl,Cs⟩)
 refine ve 2 (λx w7 G7 aW iX jW hJ hlen=>?_) ?_
 have aR:=lH hlen
 obtain⟨q0,q1,bo⟩:=aR
 subst bo
 obtain⟨cz,cB,fp,x1,bb,e1,gi,e2,gx⟩:=hJ
 subst cz
 have e3:q0=_:=e1
 subst e3
 have e4:q1=_:=e2
 subst e4
 have ho:=hS.o1.aO cB (λx hx hy=>ajJ (by simp at hy;subst hy;simp[hx]))
 refine r6 bh bB rfl rfl rfl rfl rfl rfl ho gx om ?_
 intro v9 g9 w8 dK aG fN
 have O9:=cB.size
 exact fe ((br::g9.toList)) (⟨aG.mono (λz hz=>mK _ hz),λz hz=>by rcases mC.1 hz with h9|h9;(·exact .inl (by simp[h9]));(·rcases fN with h8|h8;(·rw[h8] at h9;exact .inl (mK _ h9));(·rw[h8] at h9;simp at h9;right;omega))⟩) ((λz hz=>by rcases mC.1 hz with h9|h9;(·rw[h9];exact lL fp.lt aG.size);(·exact dK.lt z h9))) (⟨(cB.mono sm).trans (aG.mono (λz hz=>mK _ hz)),fp.aO aG (λz hz=>by have:=(hS.f1 z hz).1;omega),x1,g9,gi,dK,fN.imp id (λh8=>⟨_,h8,O9⟩)⟩)
 exact trivial
 intro x qG Jp aW wZ Jq hJ hlen
 have aR:=Ao hlen
 obtain⟨q0,q1,q2,bo⟩:=aR
 subst bo
 intro v3 d3
 have bj:=bj.go wZ
 change OW _ _ _ _ _ (aM (aN _ x _) (zZ 21 [_,_,_,_,_,_,_])) _
 obtain⟨fg,fp,x1,g9,gi,dK,fN⟩:=hJ
 have cJ:=kr dK
 obtain⟨a9,c9,e9⟩:=cJ
 have e8:q2=_:=e9
 subst e8
 have bj:=hS.box.aO fg tS
 refine zf wa rfl<|gX (o:=1) nL rfl rfl rfl bj rfl ?_
 intro wO jl bj dP
 have hS:=hS.Gz iO (lR _) om om dK fp fg fN jl bj
 refine ag<|db<|zm<|eE rfl rfl rfl (j5 (gg+1) om _ om)<|zA<|ag ?_
 exact⟨gg+1,⟨rfl,rfl,rfl,rfl,rfl⟩,⟨by omega,_,_,_,_,_,hS,by rw[lA,hxn];rfl,λx hx=>by rcases mA.1 hx with h9|h9;(·exact yX x h9);(·simp only[List.mem_singleton] at h9;rw[h9];exact gi)⟩,om⟩
 have B0:=hS.rd.more (show q+gg<=q+10 from om)
 have ajK:xs.length<=10:=om
 refine gF<|gH rfl<|zr<|zm<|aC (mm 5 de de br (q+10) om w6 B0) ?_
 rintro v30 w7 ⟨⟨n,e30,hn⟩,fp,ajM⟩
 subst e30
 have hS:=hS.call iO (lR _) om fp ajM
 refine zA<|ag<|aQ<|zr<|zA<|ag<|cP ?_
 refine fZ (λj:Nat=>[(0,.pointer (some ⟨br,0,none⟩)),(6,.pointer (some ⟨w.heap.size,0,none⟩)),(7,.pointer (some ⟨w3.heap.size,0,none⟩)),(9,.int .i64 (n:Int)),(10,.int .i64 (j:Int))]) (λj ww=>j<=n∧∃v1 g1 v2 g2 ys,rJ br w w.heap.size w3.heap.size aP v1 g1 xs v2 g2 ys (q+11+5*j) ww∧ys.length<=j∧∀x,x∈ys->x.length<=100) (λj=>n-j) (0) (⟨rfl,rfl,rfl,rfl,rfl⟩) (⟨Nat.zero_le _,_,_,_,_,[],hS,sm,sm⟩) ?_
 intro gg w8 e8 hI
 obtain⟨hj,v1,g1,v2,g2,ys,hS,hyn,Pa⟩:=hI
 refine aQ<|zr<|zm<|zm<|fJ rfl rfl rfl<|ag<|zc rfl (λh2=>?_) (λh2=>?_)
 have rU:gg<n:=om
 refine bA<|aQ<|cP<|zr<|zm<|aC (ajC br (q+11+5*gg) om w8 hS.rd) ?_
 rintro v37 w9 ⟨⟨x1,e37,gi⟩,fp,ajO⟩
 subst e37
 have hS:=hS.call iO (lR _) om fp ajO
 refine zA<|ag<|zr<|zm<|aC (K3 x1 w9) ?_
 rintro v10 cN ⟨rr,bU⟩
 have Cc:=bU.size
 have hS:=hS.ext bU
 obtain rfl:=rr
 refine zm ?_
 apply fU 4 40 44 [40,41,42,43,44] (ak [] cN) rfl
 intro h3
 replace h3:=bu h3
 have Hi:=ak.refl [] cN
 refine zm<|aC (HT x1 cN) ?_
 rintro v11 eW ⟨rC,cL⟩
 have CC:=cL.size
 have Hi:=Hi.ext cL
 obtain rfl:=rC
 refine eH rfl<|zp rfl<|ag ?_
 exact mg rfl Hi
 intro h3
 replace h3:=bu h3
 have Hi:=ak.refl [] cN
 refine zs<|zs<|zs<|zp rfl<|ag ?_
 exact mg rfl Hi
 intro xx eW cL
 have hS:=hS.ext cL
 refine ag<|zc rfl (λh4=>?_) (λh4=>?_)
 have cJ:=kr hS.o2
 obtain⟨a2,c2,e2⟩:=cJ
 subst e2
 have bj:=hS.box
 refine db<|zf mU rfl<|zl eO rfl (bj.at rfl)<|zm<|gA bh bB rfl rfl ?_
 intro gj dD CD Nr
 have hS:=hS.ext dD
 refine r6 bh bB rfl rfl rfl rfl rfl rfl hS.o2 CD om ?_
 intro v9 g9 jC dK fM fN
 have cJ:=kr dK
 obtain⟨a9,c9,e9⟩:=cJ
 subst e9
 have fg:ak (br::g2.toList) _ jC:=(fM).mono (λz hz=>mK _ hz)
 have ajP:=hS.rd.aO fM (λz hz=>by have:=(hS.f2 z hz).1;omega)
 have bj:=hS.box.aO fM (λhx=>(hS.f2 _ hx).2.2.1 rfl)
 refine zf mU rfl<|gX (o:=2) nL rfl rfl rfl bj rfl ?_
 intro jf dL bj dP
 have hS:=hS.AJ iO (lR _) om om dK ajP fg (fN.imp id (λh8=>⟨_,h8,lR _⟩)) dL bj
 refine ag<|db<|zm<|eE rfl rfl rfl (j5 (gg+1) om _ om)<|zA<|ag ?_
 exact⟨gg+1,⟨rfl,rfl,rfl,rfl,rfl⟩,⟨by omega,_,_,_,_,_,hS,by rw[lA];simp;omega,λx hx=>by rcases mA.1 hx with h9|h9;(·exact Pa x h9);(·simp only[List.mem_singleton] at h9;rw[h9];exact gi)⟩,om⟩
 refine bA<|db<|zm<|eE rfl rfl rfl (j5 (gg+1) om _ om)<|zA<|ag ?_
 exact⟨gg+1,⟨rfl,rfl,rfl,rfl,rfl⟩,⟨by omega,_,_,_,_,_,hS,om,Pa⟩,om⟩
 have ajQ:=hS.rd.more (show q+11+5*gg<=q+31 from om)
 have cJ:=kr hS.o2
 obtain⟨a2,c2,e2⟩:=cJ
 subst e2
 have ajR:br∉g2.toList:=(λhx=>by have:=(hS.f2 br hx).1;omega)
 have bj:fh (br::g2.toList) w8 w3.heap.size [str aP,v1,.slice a2 ys.length c2].toArray 29:=⟨hS.box,λhx=>by rcases mC.1 hx with h9|h9;(·omega);(·exact(hS.f2 _ h9).2.2.1 rfl)⟩
 have tS:=bj.out
 have pY:fy (br::g2.toList) w8:=(λz hz=>by rcases mC.1 hz with h9|h9;(·rw[h9];exact hS.rd.lt);(·exact hS.o2.lt z h9))
 have aoO:ys.length<=4:=om
 refine gF<|gH rfl<|aQ ?_
 apply kc eu ((br::g2.toList)) 11 (rA 51 11) (rA 51 11) [[],[0],[],[],[3],[4],[5],[6],[2,7],[8],[1,9]] [Ie.v _,Ie.v _,Ie.v _,Ie.v _,Ie.e 0,Ie.e 1,Ie.e 2,Ie.e 3,Ie.e 4,Ie.e 5,Ie.e 6] (rA 4 7) [fun(G:List Nat) (vs:List Value) (ww:World)=>G=br::g2.toList∧ak [] w8 ww,fun(G:List Nat) (vs:List Value) (ww:World)=>G=br::g2.toList∧ak [br] w8 ww∧dZ ww br (q+32)∧∃x,vs.getD 0 undef=str x∧x.length<=10,fun(G:List Nat) (vs:List Value) (ww:World)=>G=br::g2.toList∧ak [br] w8 ww∧dZ ww br (q+32)∧∃x,vs.getD 1 undef=str x∧x.length<=30,fun(G:List Nat) (vs:List Value) (ww:World)=>G=br::g2.toList∧ak [br] w8 ww∧dZ ww br (q+32)∧∃x,vs.getD 2 undef=str x∧x.length<=40,fun(G:List Nat) (vs:List Value) (ww:World)=>G=br::g2.toList∧ak [br] w8 ww∧dZ ww br (q+32)∧∃x,x.length<=40∧bI (br::g2.toList) ww (vs.getD 3 undef) [x,[40,104,97,108,116,32,48,41],[40,106,117,109,112,32,49,41]],fun(G:List Nat) (vs:List Value) (ww:World)=>G=br::g2.toList∧ak [br] w8 ww∧dZ ww br (q+33)∧∃x,vs.getD 4 undef=str x∧x.length<=100,fun(G:List Nat) (vs:List Value) (ww:World)=>G=br::g2.toList∧ak [br] w8 ww∧dZ ww br (q+33)∧∃x bb,x.length<=100∧vs.getD 5 undef= .slice (some ⟨bb,0,none⟩) 1 1∧aY ww bb [str x].toArray 9,fun(G:List Nat) (vs:List Value) (ww:World)=>ak (br::g2.toList) w8 ww∧dZ ww br (q+33)∧∃x g9,x.length<=100∧dh ww 9 (vs.getD 6 undef) g9 (ys++[x])∧(g9=g2∨∃z,g9=some z∧w8.heap.size<=z)] de rfl pY (by exact trivial) (by exact⟨λG vs w w' ⟨h1,h2⟩ k=>⟨h1,h2.ext k⟩,λG vs w w' ⟨h1,h2,h3,h4⟩ k=>⟨h1,h2.ext k,h3.ext k,h4⟩,λG vs w w' ⟨h1,h2,h3,h4⟩ k=>⟨h1,h2.ext k,h3.ext k,h4⟩,λG vs w w' ⟨h1,h2,h3,h4⟩ k=>⟨h1,h2.ext k,h3.ext k,h4⟩,λG vs w w' ⟨h1,h2,h3,x,h4,h5⟩ k=>⟨h1,h2.ext k,h3.ext k,x,h4,h5.ext k⟩,λG vs w w' ⟨h1,h2,h3,h4⟩ k=>⟨h1,h2.ext k,h3.ext k,h4⟩,λG vs w w' ⟨h1,h2,h3,x,bb,h4,h5,h6⟩ k=>⟨h1,h2.ext k,h3.ext k,x,bb,h4,h5,h6.ext k⟩,λG vs w w' ⟨h1,h2,x,g9,h3,h4,h5⟩ k=>⟨h1.ext k,h2.ext k,x,g9,h3,h4.ext k,h5⟩,trivial⟩) (⟨rfl,ak.refl _ _⟩)
 refine vf (λ_ _ _ _ _ _=>zf mU rfl fv) ?_
 refine vf (λx w9 G9 aW df lg=>?_) ?_
 have bj:=bj.go df
 refine zl eO rfl (bj.at rfl) ?_
 exact fv
 refine cR ?_
 refine cR ?_
 refine ve 0 (λx w9 G9 aW df lg hJ hlen=>?_) ?_
 have bo:=jO hlen
 subst bo
 obtain⟨cz,cB⟩:=hJ
 subst cz
 have fp:=ajQ.ext cB
 refine aC (Hf br (q+31) om w9 fp) ?_
 rintro v55 cN ⟨⟨z9,dP,U7⟩,fp,xk⟩
 subst U7
 have gi:=sM (n:=z9) om
 exact fe _ (Fr.of xk sm) ((λz hz=>lL (lg z hz) xk.size)) (⟨rfl,cB.any.trans xk,fp,_,rfl,om⟩)
 refine ve 1 (λx w9 G9 aW df lg hJ hlen=>?_) ?_
 have aR:=jP hlen
 obtain⟨q0,bo⟩:=aR
 subst bo
 obtain⟨cz,cB,fp,x1,e1,gi⟩:=hJ
 subst cz
 have e2:q0=_:=e1
 subst e2
 refine cm rfl rfl so ?_
 exact fe _ (Fr.refl _ _) lg (⟨rfl,cB,fp,_,rfl,by simp;omega⟩)
 refine ve 2 (λx w9 G9 aW df lg hJ hlen=>?_) ?_
 have aR:=lH hlen
 obtain⟨q0,q1,bo⟩:=aR
 subst bo
 obtain⟨cz,cB,fp,x1,e1,gi⟩:=hJ
 subst cz
 have e2:q1=_:=e1
 subst e2
 refine cm rfl rfl so ?_
 exact fe _ (Fr.refl _ _) lg (⟨rfl,cB,fp,_,rfl,by simp;omega⟩)
 refine ve 3 (λx w9 G9 aW df lg hJ hlen=>?_) ?_
 have aR:=Ao hlen
 obtain⟨q0,q1,q2,bo⟩:=aR
 subst bo
 obtain⟨cz,cB,fp,x1,e1,gi⟩:=hJ
 subst cz
 have e2:q2=_:=e1
 subst e2
 refine pQ bh bB rfl rfl rfl rfl rfl ?_
 intro cN bU Pb Bv
 exact fe _ (Fr.of bU sm) ((λz hz=>lL (lg z hz) (ak.size bU))) (⟨rfl,cB.ext bU,fp.ext bU,x1,gi,aY.eF [x1,[40,104,97,108,116,32,48,41],[40,106,117,109,112,32,49,41]] Pb (λhx=>by have:=lg _ hx;omega)⟩)
 refine ve 4 (λx w9 G9 aW df lg hJ hlen=>?_) ?_
 have aR:=Md hlen
 obtain⟨q0,q1,q2,q3,bo⟩:=aR
 subst bo
 obtain⟨cz,cB,fp,x1,gi,CS⟩:=hJ
 subst cz
 have CS:bI (br::g2.toList) _ q3 _:=CS
 refine aC (mJ [x1,[40,104,97,108,116,32,48,41],[40,106,117,109,112,32,49,41]] sm sm br (q+32) om _ w9 fp (bI.fresh CS (λx hx=>.inl (by simp at hx;simp[hx])))) ?_
 rintro v59 cN ⟨⟨x2,fF,e59⟩,fp,Ev⟩
 subst e59
 have iZ:x2.length<=100:=(by simp only[mC,List.not_mem_nil,or_false] at fF;rcases fF with rfl|rfl|rfl;(·omega);(·decide);(·decide))
 exact fe _ (Fr.of Ev sm) ((λz hz=>lL (lg z hz) Ev.size)) (⟨rfl,cB.trans Ev,fp,x2,rfl,iZ⟩)
 refine ve 5 (λx w9 G9 aW df lg hJ hlen=>?_) ?_
 have aR:=Sk hlen
 obtain⟨q0,q1,q2,q3,q4,bo⟩:=aR
 subst bo
 obtain⟨cz,cB,fp,x1,e1,gi⟩:=hJ
 subst cz
 have e2:q4=_:=e1
 subst e2
 refine gA bh bB rfl rfl ?_
 intro cN bU GD Bv
 exact fe _ (Fr.of bU sm) ((λz hz=>lL (lg z hz) (ak.size bU))) (⟨rfl,cB.ext bU,fp.ext bU,x1,_,gi,rfl,GD⟩)
 refine ve 6 (λx w9 G9 aW df lg hJ hlen=>?_) ?_
 have aR:=acJ hlen
 obtain⟨q0,q1,q2,q3,q4,q5,bo⟩:=aR
 subst bo
 obtain⟨cz,cB,fp,x1,bb,gi,e2,gx⟩:=hJ
 subst cz
 have e4:q5=_:=e2
 subst e4
 have ho:=hS.o2.aO cB (λx hx hy=>ajR (by simp at hy;subst hy;simp[hx]))
 refine r6 bh bB rfl rfl rfl rfl rfl rfl ho gx om ?_
 intro v9 g9 cN dK aG fN
 have O9:=cB.size
 exact fe ((br::g9.toList)) (⟨aG.mono (λz hz=>mK _ hz),λz hz=>by rcases mC.1 hz with h9|h9;(·exact .inl (by simp[h9]));(·rcases fN with h8|h8;(·rw[h8] at h9;exact .inl (mK _ h9));(·rw[h8] at h9;simp at h9;right;omega))⟩) ((λz hz=>by rcases mC.1 hz with h9|h9;(·rw[h9];exact lL fp.lt aG.size);(·exact dK.lt z h9))) (⟨(cB.mono sm).trans (aG.mono (λz hz=>mK _ hz)),fp.aO aG (λz hz=>by have:=(hS.f2 z hz).1;omega),x1,g9,gi,dK,fN.imp id (λh8=>⟨_,h8,O9⟩)⟩)
 exact trivial
 intro x j1 D1 aW wS Gf hJ hlen
 have aR:=ajH hlen
 obtain⟨q0,q1,q2,q3,q4,q5,q6,bo⟩:=aR
 subst bo
 have bj:=bj.go wS
 change OW _ _ _ _ _ (aM (aN _ x _) (zZ 51 [_,_,_,_,_,_,_,_,_,_,_])) _
 obtain⟨fg,fp,x1,g9,gi,dK,fN⟩:=hJ
 have cJ:=kr dK
 obtain⟨a9,c9,e9⟩:=cJ
 have e8:q6=_:=e9
 subst e8
 have bj:=hS.box.aO fg tS
 refine zf mU rfl<|gX (o:=2) nL rfl rfl rfl bj rfl ?_
 intro pj jB bj dP
 have hS:=hS.AJ iO (lR _) om om dK fp fg fN jB bj
 have Pc:=hS.res
 have cJ:=kr hS.o1
 obtain⟨a1,c1,e1⟩:=cJ
 subst e1
 refine ag<|zr<|zL vY fH rfl hS.box.all rfl<|dk (vs:=[str aP,.slice a1 xs.length c1,.slice a9 (ys++[x1]).length c9]) fH rfl rfl rfl Pc rfl ?_
 intro og jm Pc dP
 have xe:=hS.o1.aO jm (λx hx hy=>(hS.f1 x (by simp[hx])).2.1 (by simpa using hy))
 have vw:=hS.o2.aO jm (λx hx hy=>(hS.f2 x (by simp[hx])).2.1 (by simpa using hy))
 have ajT:=hS.rd.aO jm (λx hx=>by simp at hx;omega)
 have dm:=hS.kp.since jm (λx hx=>.inr (by simp at hx;omega))
 have cV:=(fun(L:List Nat) (hL:∀x,x∈L->x<w.heap.size)=>xe.rep (L:=L) (λx hx hy=>by have:=(hS.f1 x (by simp[hx])).1;have:=hL x hy;omega))
 have cS:=(fun(L:List Nat) (hL:∀x,x∈L->x<w.heap.size)=>vw.rep (L:=L) (λx hx hy=>by have:=(hS.f2 x (by simp[hx])).1;have:=hL x hy;omega))
 refine ag<|aV ?_
 exact⟨[_],gR vY fH rfl Pc rfl,⟨⟨aP,xs,ys++[x1]⟩,⟨rfl,⟨ajK,yX⟩,⟨by simp,by simp;omega,λx hx=>by rcases mA.1 hx with h9|h9;(·exact Pa x h9);(·simp only[List.mem_singleton] at h9;rw[h9];exact gi)⟩⟩,λL hL=>⟨_,rfl,⟨.val _,cV L hL,cS L hL,trivial⟩⟩⟩,ajT.more om,dm⟩
theorem Wb (t:aA):t.au.length<=t.size:=by
 cases t with
 |mk a ps=>
  have key:∀l:List aA,l.length<=aA.size.sizes l:=by
   intro l
   induction l with
   |nil=>simp
   |cons p l ih=>have:=size_pos p;simp only[aA.size.sizes,lC];omega
  have:=key ps
  show ps.length<=1+a.length+aA.size.sizes ps
  omega
set_option maxHeartbeats 4000000 in
theorem ajU (s:aj) (w:World):bZ Tryz.prog 88 [str s] w λr w'=>(∃v ok g xs,r= .tuple #[v,.bool ok]∧dh w' 9 v g xs∧(∀b,g=some b->w.heap.size<=b)∧ok=decide (0<xs.length)∧xs.length<=12001∧∀x,x∈xs->x.length<=24002)∧ak [] w w':=by
 have hK:=ak.refl [] w
 refine cU [.tmp 2,.tmp 3] 37 Tryz.func88 rfl ZN rfl rfl ?_
 refine zr<|zA<|zA<|ag<|zr<|zm<|aC (zK s [] w sm) ?_
 rintro v1 w1 ⟨fO,aJ⟩
 have dy:=aJ.size
 have hK:=hK.ext aJ
 have eR:=fO
 obtain⟨t,tv,e9,ht,hp⟩:=eR
 subst e9
 have cJ:=dN ht
 obtain⟨pa,pn,pc,e9,fR,bc⟩:=cJ
 subst e9
 subst fR
 have nu:=hK.size
 refine zm<|zx (i:=0) rfl rfl<|zx (i:=1) rfl rfl<|eC aH rfl rfl rfl ?_
 intro w2 aq aI iL
 have dm:=aq
 refine dk (vs:=[str t.az,.slice pa t.au.length pc]) aH rfl rfl rfl aI rfl ?_
 intro w3 aK aI dP
 have dm:=dm.since aK (λx hx=>.inr (by simp at hx;omega))
 have bc:=bc.ext dm;have hK:=hK.ext dm
 refine zA<|ag<|zr<|gM bh bB ?_
 intro w4 aD mc Gg
 have ajV:=mc.ll
 have aJ:=aD
 have jw:=hK.size
 refine zA<|ag<|aQ<|zr<|zA<|ag<|cP ?_
 refine fZ (λq9:Nat×Value×Option Nat=>[(4,.pointer (some ⟨w1.heap.size,0,none⟩)),(5,.bool ((ba s).isSome)),(6,q9.2.1),(7,.int .i64 (q9.1:Int))]) (λq9 w'=>ak [] w3 w'∧q9.1<=t.au.length∧(0<q9.1->(ba s).isSome=true)∧∃xs,dh w' 9 q9.2.1 q9.2.2 xs∧xs.length=q9.1∧(∀x,x∈xs->x.length<=24002)∧∀b,q9.2.2=some b->w3.heap.size<=b) (λq9=>t.au.length-q9.1) ((0,.slice (some ⟨w3.heap.size,0,none⟩) 0 0,some w3.heap.size)) (⟨rfl,rfl,rfl,rfl⟩) (⟨aJ,sm,sm,[],ajV,rfl,sm,by intro b hb;cases hb;exact lR _⟩) ?_
 intro gg w5 e5 hI
 obtain⟨k,vf,gf⟩:=gg
 obtain⟨dm,hk,Bj,xs,hO,mN,yX,gJ⟩:=hI
 dsimp only at hk Bj hO mN gJ
 have bc:=bc.ext dm;have hK:=hK.ext dm;have aI:=aI.ext dm
 refine aQ<|zr<|zm<|zf cM rfl<|zl cK rfl (aI.at rfl)<|eh cw rfl<|fJ rfl rfl rfl<|zm ?_
 apply fU 2 19 21 [19,20,21] (λw'=>w5=w') rfl
 intro h1
 replace h1:=bu h1
 refine zm<|zp rfl<|ag ?_
 exact mg rfl rfl
 intro h1
 replace h1:=bu h1
 refine zs<|zp rfl<|ag ?_
 exact mg rfl rfl
 rintro xx _ rfl
 refine ag<|zc rfl (λh2=>?_) (λh2=>?_)
 have hh:=Bool.and_eq_true_iff.1 h2
 have aq:k<t.au.length:=(by have:=hh.1;simp at this;omega)
 have bF:(ba s).isSome=true:=hh.2
 have dx:=Dq hp bF
 have hw2:=dx.2
 have oX:=Wb t
 have fK:=fI bc aq
 obtain⟨b9,ot,pa9,pc9,e9,gq,dS⟩:=fK
 cases e9
 have Wc:=dx.1.nth aq
 have FP:=lX aq
 have ql:=Lt _ _ (lR _) Wc
 refine bA<|aQ<|cP<|db<|zm<|zf cM rfl<|zl cK rfl (aI.at rfl)<|zm<|zi cw aH rfl rfl aq<|zL bT aH rfl gq.cells rfl<|aC (tx (nth t.au k).size _ (lR _) Wc om om _ _ w5 dS) ?_
 rintro v6 w6 ⟨kU,bD⟩
 have ob:=bD.size
 have hO:=hO.ext bD;have dm:=dm.ext bD
 obtain rfl:=kU
 refine gA bh bB rfl rfl ?_
 intro w7 cv ajW qg
 have hO:=hO.ext cv;have dm:=dm.ext cv
 refine r6 bh bB rfl rfl rfl rfl rfl rfl hO ajW om ?_
 intro v9 g9 w8 dK cu fN
 have V1:=dm.size
 have dm:=dm.since cu (λx hx=>.inr (gJ x (by simpa using hx)))
 refine zA<|ag<|db<|zm<|eE rfl rfl rfl (j5 (k+1) om _ om)<|zA<|ag ?_
 exact⟨(k+1,v9,g9),⟨rfl,rfl,rfl,rfl⟩,⟨dm,aq,λ_=>bF,xs++[(nth t.au k).text],dK,by show(xs++[_]).length=k+1;rw[lA,mN];rfl,λx hx=>by rcases mA.1 hx with h9|h9;(·exact yX x h9);(·simp only[List.mem_singleton] at h9;rw[h9];omega),λb hb=>by rcases fN with h9|h9;(·exact gJ b (h9.symm.trans hb));(·rw[h9] at hb;cases hb;omega)⟩,by show t.au.length-(k+1)<t.au.length-k;omega⟩
 have cJ:=kr hO
 obtain⟨af,cf,ef⟩:=cJ
 subst ef
 have oX:=Wb t
 have hxb:xs.length<=12001:=(by by_cases h0:0<k;(·have:=(Dq hp (Bj h0)).2;omega);(·omega))
 refine gF<|gH rfl<|zr<|zm<|zm<|eh bh rfl<|jx rfl rfl rfl rfl rfl<|zA<|zA<|ag<|aV ?_
 exact⟨_,rfl,⟨_,_,gf,xs,rfl,hO,λb hb=>by have:=gJ b hb;omega,sm,hxb,yX⟩,hK⟩
theorem Wd (xs ys:List aj) (hx:xs.length+ys.length<100000000) (v u:Value) (L:List Nat) (w:World) (hv:bI L w v xs) (hu:bI L w u ys):
  bZ Tryz.prog 119 [v,u] w λr w'=>(∃g,dh w' 9 r g (xs++ys)∧∀b,g=some b->w.heap.size<=b)∧ak [] w w':=by
 have hv:bI [] w v xs:=hv.fresh sm
 have hu:bI [] w u ys:=hu.fresh sm
 obtain⟨a,n,c,rfl,hn⟩:=eI hv
 obtain⟨a2,n2,c2,rfl,fu⟩:=eI hu
 subst hn fu
 have hK:=ak.refl [] w
 refine cU [.tmp 4] 10 Tryz.func119 rfl PT rfl rfl ?_
 refine zr<|zA<|ag<|zr<|zU w.heap.size [] bh bB rfl rfl (lR _) sm ?_
 intro w1 aJ dV hO
 have hK:=hK.ext aJ
 have fS:=cD.ext (cD.fresh hv (L':=w.heap.size::[]) zw) aJ
 refine zm<|xQ bh bB rfl rfl rfl rfl rfl rfl hO fS IS (by rw[rP];simp;omega) ?_
 intro a4 je g4 w2 od aq
 have hK:=hO.since hK aq
 have ML:=cD.ext (cD.fresh hu (L':=g4.toList++[]) (λx hx=>by rcases mA.1 hx with hx|hx;(·exact .inr (od.low x (by simpa using hx)));(·exact .inl hx))) hK
 refine zm<|xQ bh bB rfl rfl rfl rfl rfl rfl od ML IS (by simp only[lA,rP];simp;omega) ?_
 intro a5 Tz g5 w3 lq aK
 have hK:=od.since hK aK
 have ke:=lq.low
 rw[List.nil_append,Tx] at lq
 refine zA<|ag<|aV ?_
 exact⟨_,rfl,⟨g5,lq.wc,ke⟩,hK⟩
theorem ajY (bk:Bk) (h1:bk.cE.length<=1000000) (h2:bk.code.length<=1000000) (v:Value) (L:List Nat) (w:World) (hv:qj L w v bk):
  bZ Tryz.prog 87 [v] w λr w'=>(∃v1 v2 g1 g2,r= .agg #[str bk.aP,v1,v2]∧dh w' 9 v1 g1 bk.cE∧dh w' 9 v2 g2 bk.code∧(∀x,x∈g1.toList->w.heap.size<=x∧x∉g2.toList)∧∀x,x∈g2.toList->w.heap.size<=x∧x∉g1.toList)∧ak [] w w':=by
 obtain⟨b1,n1,c1,b2,n2,c2,rfl,fK,fu,cV,cS⟩:=Bz hv
 have cV:bI [] w _ bk.cE:=bI.fresh cV sm
 have cS:bI [] w _ bk.code:=bI.fresh cS sm
 have hK:=ak.refl [] w
 refine lz [.cell 2 29] 12 Tryz.func87 rfl ZM rfl rfl rfl ?_
 refine zr<|fA rfl ?_
 intro w1 aJ aU dV
 have hK:=hK.ext aJ;have cV:=cV.ext aJ;have cS:=cS.ext aJ
 refine eC fH rfl rfl rfl ?_
 intro w2 aq aZ eK
 have nu:=hK.ext aq
 have cV:=cV.ext aq;have cS:=cS.ext aq;have aU:=aU.ext aq
 have aU:fh [] w2 w.heap.size _ _:=⟨aU,sm⟩
 have jw:=nu.size
 have aoQ:=aZ.lt
 refine ag<|aQ ?_
 apply kc eu ([]) 9 (rA 3 9) (rA 3 9) [[],[0],[],[2],[3],[],[5],[6],[1,4,7]] [Ie.v _,Ie.v _,Ie.v _,Ie.v _,Ie.e 0,Ie.v _,Ie.v _,Ie.e 1,Ie.e 2] [4,7,8] [fun(G:List Nat) (vs:List Value) (ww:World)=>G=[]∧ak [] w2 ww,fun(G:List Nat) (vs:List Value) (ww:World)=>G=[]∧ak [] w2 ww∧∃g1,dh ww 9 (vs.getD 0 undef) g1 bk.cE∧∀x,x∈g1.toList->w2.heap.size<=x,fun(G:List Nat) (vs:List Value) (ww:World)=>G=[]∧ak [] w2 ww∧∃g1 g2,dh ww 9 (vs.getD 0 undef) g1 bk.cE∧dh ww 9 (vs.getD 1 undef) g2 bk.code∧(∀x,x∈g1.toList->w2.heap.size<=x∧x∉g2.toList)∧∀x,x∈g2.toList->w2.heap.size<=x∧x∉g1.toList,fun(G:List Nat) (vs:List Value) (ww:World)=>ak [] w2 ww∧∃g1 g2 b3 m3 d3 b4 m4 d4,vs.getD 2 undef= .agg #[str bk.aP,.slice b3 m3 d3,.slice b4 m4 d4]∧dh ww 9 (.slice b3 m3 d3) g1 bk.cE∧dh ww 9 (.slice b4 m4 d4) g2 bk.code∧(∀x,x∈g1.toList->w2.heap.size<=x∧x∉g2.toList)∧∀x,x∈g2.toList->w2.heap.size<=x∧x∉g1.toList] de rfl ((λx hx=>by simp at hx)) (by exact trivial) (by exact⟨λG vs w w' ⟨h1,h2⟩ k=>⟨h1,h2.ext k⟩,λG vs w w' ⟨h1,h2,g1,h3,h4⟩ k=>⟨h1,h2.ext k,g1,h3.ext k,h4⟩,λG vs w w' ⟨h1,h2,g1,g2,h3,h4,h5,h6⟩ k=>⟨h1,h2.ext k,g1,g2,h3.ext k,h4.ext k,h5,h6⟩,λG vs w w' ⟨h2,g1,g2,b3,m3,d3,b4,m4,d4,e,h3,h4,h5,h6⟩ k=>⟨h2.ext k,g1,g2,b3,m3,d3,b4,m4,d4,e,h3.ext k,h4.ext k,h5,h6⟩,trivial⟩) (⟨rfl,ak.refl _ _⟩)
 refine vf (λ_ _ _ _ _ _=>zf vZ rfl fv) ?_
 refine vf (λx w3 G3 aW fX iW=>?_) ?_
 have aU:=aU.go fX
 refine zl cg rfl (aU.at rfl) ?_
 exact fv
 refine vf (λ_ _ _ _ _ _=>zf wa rfl fv) ?_
 refine vf (λx w3 G3 aW fX iW=>?_) ?_
 have aU:=aU.go fX
 refine zl eO rfl (aU.at rfl) ?_
 exact fv
 refine ve 0 (λx w3 G3 aW fX iW hJ hlen=>?_) ?_
 have bo:=jO hlen
 subst bo
 have cV:=cV.go fX
 obtain⟨cz,cB⟩:=hJ
 subst cz
 refine aC (Wd bk.cE [] so _ _ [] w3 cV (.nil _ _ _)) ?_
 rintro v20 w4 ⟨⟨g1,pB,qb⟩,uk⟩
 rw[List.append_nil] at pB
 exact fe ([]) (Fr.of uk sm) ((λz hz=>by simp at hz)) (⟨rfl,cB.trans uk,g1,pB,λx hx=>Nat.le_trans cB.size (qb x (by simpa using hx))⟩)
 refine vf (λ_ _ _ _ _ _=>zf mU rfl fv) ?_
 refine vf (λx w3 G3 aW fX iW=>?_) ?_
 have aU:=aU.go fX
 refine zl eO rfl (aU.at rfl) ?_
 exact fv
 refine ve 1 (λx w3 G3 aW fX iW hJ hlen=>?_) ?_
 have aR:=jP hlen
 obtain⟨q0,bo⟩:=aR
 subst bo
 have cS:=cS.go fX
 obtain⟨cz,cB,g1,pB,qb⟩:=hJ
 subst cz
 refine aC (Wd bk.code [] so _ _ [] w3 cS (.nil _ _ _)) ?_
 rintro v21 w4 ⟨⟨g2,gP,iz⟩,vH⟩
 rw[List.append_nil] at gP
 exact fe ([]) (Fr.of vH sm) ((λz hz=>by simp at hz)) (⟨rfl,cB.trans vH,g1,g2,pB.ext vH,gP,λx hx=>⟨qb x hx,λhy=>by have h8:=pB.lt x hx;have h9:=iz x (by simpa using hy);omega⟩,λx hx=>⟨Nat.le_trans cB.size (iz x (by simpa using hx)),λhy=>by have h8:=pB.lt x hy;have h9:=iz x (by simpa using hx);omega⟩⟩)
 refine ve 2 (λx w3 G3 aW fX iW hJ hlen=>?_) ?_
 have aR:=lH hlen
 obtain⟨q0,q1,bo⟩:=aR
 subst bo
 obtain⟨cz,cB,g1,g2,pB,gP,qb,iz⟩:=hJ
 subst cz
 have cJ:=kr pB
 obtain⟨b3,d3,e3⟩:=cJ
 have e5:q0=_:=e3
 subst e5
 have cJ:=kr gP
 obtain⟨b4,d4,e4⟩:=cJ
 have e6:q1=_:=e4
 subst e6
 refine j6 (Kz _ _ _ _ _ _ _ _) rfl rfl ?_
 exact fe ([]) (Fr.refl _ _) iW (⟨cB,g1,g2,_,_,_,_,_,_,rfl,pB,gP,qb,iz⟩)
 exact trivial
 intro x qz F6 aW DT MM hJ hlen
 have aR:=Ao hlen
 obtain⟨q0,q1,q2,bo⟩:=aR
 subst bo
 change OW _ _ _ _ _ (aM (aN _ x _) (zZ 3 [_,_,_,_,_,_,_,_,_])) _
 obtain⟨cB,g1,g2,b3,m3,d3,b4,m4,d4,e9,pB,gP,qb,iz⟩:=hJ
 have e8:q2=_:=e9
 subst e8
 have aZ:=aZ.ext cB
 refine dk (vs:=[str bk.aP,.slice b3 m3 d3,.slice b4 m4 d4]) fH rfl rfl rfl aZ rfl ?_
 intro nP lE aZ dP
 have pB:=pB.aO lE (λx hx hy=>by have:=(qb x (by simp[hx])).1;simp at hy;omega)
 have gP:=gP.aO lE (λx hx hy=>by have:=(iz x (by simp[hx])).1;simp at hy;omega)
 have gm:=(nu.ext cB).since lE (λx hx=>.inr (by simp at hx;omega))
 refine ag<|aV ?_
 exact⟨[_],gR vY fH rfl aZ rfl,⟨_,_,g1,g2,rfl,pB,gP,λx hx=>⟨by have:=(qb x hx).1;omega,(qb x hx).2⟩,λx hx=>⟨by have:=(iz x hx).1;omega,(iz x hx).2⟩⟩,gm⟩
theorem Pd (h:jK bs=true):bs.length<=40∧1<=bs.length∧∀i,i<bs.length->(bz bs i).cE.length<=40∧1<=(bz bs i).code.length∧(bz bs i).code.length<=80:=by
 have hb:=HX h
 unfold jK at h
 simp only[aE,dE] at h
 refine⟨h.2.1.1.2,h.2.1.1.1,λi hi=>?_⟩
 have:=hb (bz bs i) (List.mem_of_getElem? (o3 hi))
 unfold oz at this
 simp only[aE,dE] at this
 exact⟨this.1.1.1.2,this.1.1.2.1,this.1.1.2.2⟩
theorem ajZ (h:i<bs.length):bs.take (i+1)=bs.take i++[bz bs i]:=by
 rw[List.take_succ_eq_append_getElem h];simp[bz,gE h]
theorem aj0 {h:aj} {ps:List aj} {m:Nat} (hp:∀x,x∈ps->x.length<=m):(bP h ps).length<=h.length+2+ps.length*(m+1):=by
 rw[lI]
 have:jZ ps<=ps.length*(m+1):=by
  clear h
  induction ps with
  |nil=>simp[jZ]
  |cons p l ih=>
   have h1:=hp p sm
   have h2:=ih (λx hx=>hp x (by simp[hx]))
   simp only[jZ,List.map_cons,List.sum_cons,lC,Nat.add_mul,Nat.one_mul] at h2⊢
   omega
 omega
theorem We {α:Type} {l:List α} {y x:α} (h:x∈l.set i y):x∈l∨x=y:=List.mem_or_eq_of_mem_set h
set_option maxHeartbeats 4000000 in
theorem aj1 (bs:List Bk) (uo:jK bs=true) (br q:Nat) (hq:q<=800000000) (v:Value) (w:World) (h:dZ w br q) (hv:qV [] w v bs):
  bZ Tryz.prog 51 [.pointer (some ⟨br,0,none⟩),v] w λr w'=>(∃bs' g,Gr w.heap.size [br] w' 29 3 r g (bs'.map Bk.enc)∧vN bs bs')∧dZ w' br (q+10)∧ak [br] w w':=by
 obtain⟨a,n0,c,rfl,z1⟩:=Fb hv
 obtain⟨OA,aU,fz⟩:=Pd uo
 have iO:=h.lt
 have hK:=ak.refl [] w
 have dI:=hv
 have Rt:=h
 refine cU [.tmp 4] 140 Tryz.func51 rfl Zm rfl rfl ?_
 refine zr<|zA<|ag<|zr<|gM gO fH ?_
 intro w1 aJ mc dV
 have hK:=hK.ext aJ;have h:=h.ext aJ;have hv:=hv.ext aJ
 refine zA<|ag<|aQ<|zr<|zA<|ag<|cP ?_
 refine fZ (λq9:Nat×Value=>[(0,.pointer (some ⟨br,0,none⟩)),(1,.slice a n0 c),(5,q9.2),(6,.int .i64 (q9.1:Int))]) (λq9 w'=>ak [] w w'∧q9.1<=n0∧∃g gss vss,mv w' 29 9 q9.2 g gss vss (bs.take q9.1)∧∀x,x∈g.toList++ik gss->w.heap.size<=x) (λq9=>n0-q9.1) ((0,.slice (some ⟨w.heap.size,0,none⟩) 0 0)) (⟨rfl,rfl,rfl,rfl⟩) (⟨hK,sm,some w.heap.size,[],[],mv.zero mc,by intro x hx;simp[ik] at hx;omega⟩) ?_
 intro gg w2 e2 hI
 obtain⟨i,vo⟩:=gg
 obtain⟨hK,hi,g,gss,vss,hO,ke⟩:=hI
 dsimp only at hi hO
 have hv:=dI.ext hK
 have h:=Rt.ext hK
 refine aQ<|zr<|zm<|zm<|eh gO rfl<|fJ rfl rfl rfl<|ag<|zc rfl (λh1=>?_) (λh1=>?_)
 have ky:i<bs.length:=(by simp at h1;omega)
 have gh:=o3 ky
 have Hj:=zS hv gh
 obtain⟨b,off,ra,rn,rc,ca,cn,c3,e1,hc,rl,xg,dy,dR⟩:=Hj
 subst e1
 have xq:=fz i ky
 have aoR:=hK.size
 have Pe:∀x,x∈g.toList++ik gss->x<w2.heap.size:=(λx hx=>(mA.1 hx).elim (λh9=>hO.own.lt x (by simpa using h9)) (hO.lt x))
 have gw:(bs.take i).length=i:=(by rw[List.length_take];omega)
 refine bA<|aQ<|cP<|db<|zm<|zm<|zm<|zi gO fH rfl rfl om<|zL vY fH rfl hc rfl<|aC (ajY (bz bs i) om om _ [] w2 (xK dy dR)) ?_
 rintro v3 w3 ⟨et,aK⟩
 have gd:=aK.size
 have hK:=hK.ext aK;have hO:=hO.ext aK
 obtain⟨v1,v2,g1,g2,e2,pB,gP,qb,iz⟩:=et
 subst e2
 have cJ:=kr pB
 obtain⟨a1,c1,e1⟩:=cJ
 subst e1
 have cJ:=kr gP
 obtain⟨a2,c2,e2⟩:=cJ
 subst e2
 refine gA gO fH rfl rfl ?_
 intro w4 aD Cs iL
 have hK:=hK.ext aD;have hO:=hO.ext aD;have pB:=pB.ext aD;have gP:=gP.ext aD
 refine ajy (f:=bz bs i) (gs:=(g1,g2)) gO fH rfl rfl rfl rfl rfl rfl hO Cs pB gP (λx hx fF=>by have h8:=Pe x fF;rcases mA.1 hx with h9|h9;(·have:=(qb x h9).1;omega);(·have:=(iz x h9).1;omega)) (List.nodup_append.2 ⟨by cases g1<;>simp,by cases g2<;>simp,λx hx y hy e=>by subst e;exact(qb x hx).2 hy⟩) om ?_
 intro a4 je g4 w5 hO aT hg4
 have V1:=hK.size
 have aj3:∀x,x∈g4.toList++ik (gss++[(g1,g2)])->w.heap.size<=x:=(λx hx=>by rcases mA.1 hx with h9|h9;(·rcases hg4 with h8|⟨z,h8,hz⟩;(·rw[h8] at h9;exact ke x (by simp at h9;simp[h9]));(·rw[h8] at h9;simp at h9;omega));(·rw[Ls] at h9;rcases mA.1 h9 with h8|h8;(·exact ke x (by simp[h8]));(·rcases mA.1 h8 with h7|h7;(·have:=(qb x h7).1;omega);(·have:=(iz x h7).1;omega))))
 have hK:=hK.since aT (λx hx=>.inr (ke x (by simp at hx;simp[hx])))
 refine zA<|ag<|db<|zm<|eE rfl rfl rfl (j5 (i+1) om _ om)<|zA<|ag ?_
 exact⟨(i+1,_),⟨rfl,rfl,rfl,rfl⟩,⟨hK,by show i+1<=n0;omega,g4,_,_,by rw[ajZ ky];exact hO,aj3⟩,by show n0-(i+1)<n0-i;omega⟩
 have dA:bs.take i=bs:=List.take_of_length_le (by simp at h1;omega)
 rw[dA] at hO
 have cJ:=hO.own.len
 obtain⟨ao,co,eo⟩:=cJ
 subst eo
 have fg:=hK.mono (L':=[br]) sm
 refine gF<|gH rfl<|zr<|zm<|zm<|eh gO rfl<|aC (mm bs.length om om br q om w2 h) ?_
 rintro v31 w3 ⟨⟨k,yP,hk⟩,h,aG⟩
 subst yP
 have fg:=fg.trans aG
 have hO:=hO.aO aG (λx hx hy=>by have:=ke x hx;simp at hy;omega)
 have iu:=hO.get hk
 obtain⟨lT,gs,a1,c1,a2,c2,e1,e2,tS,xh,jM,bo,kJ,fK,fu,J9⟩:=iu
 subst e1
 have y0:∀x,x∈g.toList++ik gss->x∉[br]:=(λx hx hy=>by have:=ke x hx;simp at hy;omega)
 have hc:ja [br] w3 lT (0+k*3) _:=⟨kJ,tS,λhy=>y0 lT (by rw[e2];simp) hy⟩
 have hr:bI [br] w3 _ _:=fu.rep (λb hb=>y0 b (mR _ (xS jM (by simp[jL,hb]))))
 have xq:=fz k hk
 refine zA<|ag<|zr<|zm<|zm<|zm<|zi gO fH rfl rfl hk<|zf mU rfl<|zl eO rfl (hc.cells 2 _ rfl)<|eh bh rfl<|aC (mm (bz bs k).code.length om om br (q+1) om w3 h) ?_
 rintro v31 w4 ⟨⟨n,yP,hn⟩,h,aG⟩
 subst yP
 have fg:=fg.trans aG
 have hO:=hO.aO aG (λx hx hy=>by have:=ke x hx;simp at hy;omega)
 have hc:=hc.aL aG sm;have hr:=hr.aL aG sm
 have gh:=oq hr hn
 obtain⟨b9,ot,e9,gq⟩:=gh
 subst e9
 refine zA<|ag<|zr<|zm<|zm<|zi gO fH rfl rfl hk<|zf mU rfl<|zl eO rfl (hc.cells 2 _ rfl)<|zm<|zi bh bB rfl rfl hn<|zl cg rfl (gq.cells 0 _ rfl) ?_
 have hkw:=fg.size
 have aj5:∀x,x∈g.toList++ik gss->x<w4.heap.size:=(λx hx=>(mA.1 hx).elim (λh9=>hO.own.lt x (by simpa using h9)) (hO.lt x))
 refine aC (ajU (aF (bz bs k).code n) w4) ?_
 rintro v5 w5 ⟨kQ,aT⟩
 have oW:=aT.size
 have h:=h.ext aT;have hO:=hO.ext aT;have fg:=fg.ext aT;have hc:=hc.ext aT;have hr:=hr.ext aT;have gq:=gq.ext aT
 obtain⟨vp,ok,gp,ps,e9,hP,gJ,bF,oX,CJ⟩:=kQ
 subst e9
 have hgp:∀x,x∈gp.toList->x∉g.toList++ik gss:=(λx hx hy=>by have h8:=aj5 x hy;have h9:=gJ x (by simpa using hx);omega)
 have gJ:∀b,gp=some b->w.heap.size<=b:=(λb hb=>Nat.le_trans hkw (gJ b hb))
 have cJ:=kr hP
 obtain⟨ap,cp,ep⟩:=cJ
 subst ep
 refine zm<|zx (i:=0) rfl rfl<|zx (i:=1) rfl rfl<|zA<|zA<|ag<|aQ<|zr<|zm<|eH rfl<|ag<|zc rfl (λh2=>?_) (λh2=>?_)
 refine zr<|zm<|zA<|ag<|aV ?_
 exact⟨_,rfl,⟨bs,_,hO.gr y0 (λb hb=>ke b (by simp[hb])) (λx hx=>by simp at hx;subst hx;exact h.lt) fg.size,vN.refl bs⟩,h.more om,fg⟩
 have mV:0<ps.length:=(by rw[bF] at h2;simpa using h2)
 have D6:=hP.form mV
 obtain⟨bp,ep,eg⟩:=D6
 subst ep
 have hbp:=gJ bp eg
 have aoT:=hP.lt bp (by simp[eg])
 refine bA<|zr<|zm<|zm<|eh bh rfl<|aC (mm ps.length mV om br (q+2) om w5 h) ?_
 rintro v31 w6 ⟨⟨j,yP,hj⟩,h,aG⟩
 subst yP
 have fg:=fg.trans aG
 have hO:=hO.aO aG (λx hx hy=>by have:=ke x hx;simp at hy;omega)
 have hP:=hP.aO aG (λb hb hy=>by have:=gJ b hb;simp at hy;omega)
 refine zA<|ag<|aQ<|zr<|zm<|jx rfl rfl rfl rfl rfl<|ag ?_
 refine jh (λ_:List aj=>[(0,.pointer (some ⟨br,0,none⟩)),(5,.slice (some ⟨lT,0,none⟩) bs.length co),(7,.int .i64 (k:Int)),(8,.int .i64 (n:Int)),(9,(.slice (some ⟨bp,0,none⟩) ps.length cp))]) (λp2 ww=>ak [br] w ww∧dZ ww br (q+5)∧mv ww 29 9 (.slice (some ⟨lT,0,none⟩) bs.length co) g gss vss bs∧dh ww 9 (.slice (some ⟨bp,0,none⟩) ps.length cp) gp p2∧p2.length=ps.length∧∀x,x∈p2->x.length<=24002) ?_ ?_
 refine zc rfl (λh3=>?_) (λh3=>?_)
 have AW:bI [br] w6 (.slice (some ⟨bp,0,none⟩) ps.length cp) ps:=hP.rep (λb hb hy=>by have:=gJ b hb;simp at hy;omega)
 have gh:=oq AW hj
 obtain⟨b8,aj7,e8,vO⟩:=gh
 cases e8
 have hxj:=CJ _ (List.mem_of_getElem? (lj hj))
 have pY:fy [br] w6:=(λz hz=>by simp at hz;subst hz;exact h.lt)
 apply kc eu ([br]) 11 (rA 61 11) (rA 61 11) [[],[],[],[],[3],[],[],[5,6],[7],[4,8],[2,9]] [Ie.v _,Ie.v _,Ie.v _,Ie.v _,Ie.q 0 (fun(v:Value)=>∃x,v=str x∧x.length<=24002),Ie.v _,Ie.v _,Ie.v _,Ie.v _,Ie.p (fun(G:List Nat) (v:Value) (ww:World)=>∃x y,x.length<=24002∧y.length<=24002∧bI G ww v [x,[98,48],[101,110,100],[49],[105],y]),Ie.q 1 (fun(v:Value)=>∃x,v=str x∧x.length<=24002)] [4,10] [fun(G:List Nat) (vs:List Value) (ww:World)=>G=[br]∧ak [br] w6 ww∧dZ ww br (q+3),fun(G:List Nat) (vs:List Value) (ww:World)=>G=[br]∧ak [br] w6 ww∧dZ ww br (q+4),fun(G:List Nat) (vs:List Value) (ww:World)=>G=[br]∧ak [br] w6 ww∧dZ ww br (q+5)] de rfl pY (by exact⟨λG v w G' w' ⟨x,y,h1,h2,h3⟩ k=>⟨x,y,h1,h2,bI.go h3 k⟩,trivial⟩) (by exact⟨λG vs w w' ⟨h1,h2,h3⟩ k=>⟨h1,h2.ext k,h3.ext k⟩,λG vs w w' ⟨h1,h2,h3⟩ k=>⟨h1,h2.ext k,h3.ext k⟩,λG vs w w' ⟨h1,h2,h3⟩ k=>⟨h1,h2.ext k,h3.ext k⟩,trivial⟩) (⟨rfl,ak.refl _ _,h⟩)
 refine cR ?_
 refine cR ?_
 refine cR ?_
 refine cR ?_
 refine ve 0 (λx w7 G7 aW iX jW hJ hlen=>?_) ?_
 have bo:=jO hlen
 subst bo
 obtain⟨cz,cB,h⟩:=hJ
 subst cz
 refine aC (Hf br (q+3) om w7 h) ?_
 rintro v9 w8 ⟨⟨z9,dP,e9⟩,h,aG⟩
 subst e9
 have fi:=sM (n:=z9) om
 exact fq ([br]) (Fr.of aG sm) ((λz hz=>lL (jW z hz) aG.size)) (⟨rfl,cB.trans aG,h⟩) (⟨_,rfl,om⟩)
 refine cR ?_
 refine cR ?_
 refine vf (λ_ _ _ _ _ _=>zi bh bB rfl rfl hj fv) ?_
 refine vf (λx w7 G7 aW iX jW=>?_) ?_
 have vO:=vO.go iX
 refine zl cg rfl (vO.cells 0 _ rfl) ?_
 exact fv
 refine vf (λx w7 G7 aW iX jW=>?_) ?_
 intro v4 OT d4
 obtain⟨y4,e4,BB⟩:=d4
 subst e4
 refine acN bh bB rfl rfl rfl rfl rfl rfl rfl rfl ?_
 intro w8 cu NN mu
 exact ff cu (⟨y4,aF ps j,BB,hxj,aY.eF [y4,[98,48],[101,110,100],[49],[105],aF ps j] NN (λhx=>by have:=jW _ hx;omega)⟩)
 refine ve 1 (λx w7 G7 aW iX jW hJ hlen=>?_) ?_
 have aR:=jP hlen
 obtain⟨q0,bo⟩:=aR
 subst bo
 intro v9 d9
 obtain⟨cz,cB,h⟩:=hJ
 subst cz
 obtain⟨x8,y8,UR,hy8,hr8⟩:=d9
 refine aC (mJ [x8,[98,48],[101,110,100],[49],[105],y8] sm sm br (q+4) om _ w7 h hr8) ?_
 rintro v9 w8 ⟨⟨x9,jg,e9⟩,h,aG⟩
 subst e9
 have fi:x9.length<=24002:=(by simp only[mC,List.not_mem_nil,or_false] at jg;rcases jg with rfl|rfl|rfl|rfl|rfl|rfl<;>first|omega|decide)
 exact fq ([br]) (Fr.of aG sm) ((λz hz=>lL (jW z hz) aG.size)) (⟨rfl,cB.trans aG,h⟩) (⟨_,rfl,fi⟩)
 exact trivial
 intro x qG Jp aW wZ Jq hJ hlen
 have aR:=lH hlen
 obtain⟨q0,q1,bo⟩:=aR
 subst bo
 intro v4 OT d4
 intro v9 d9
 intro v10 V6 d10
 change OW _ _ _ _ _ (aM (aN _ x _) (zZ 61 [_,_,_,_,_,_,_,_,_,_,_])) _
 obtain⟨cz,cB,h⟩:=hJ
 subst cz
 obtain⟨J7,fY,D0⟩:=d10
 subst fY
 have fg:=fg.trans cB
 have hO:=hO.aO cB (λx hx hy=>by have:=ke x hx;simp at hy;omega)
 have hP:=hP.aO cB (λb hb hy=>by have:=gJ b hb;simp at hy;omega)
 refine zi bh bB rfl rfl hj<|Rv (i:=j) bB rfl rfl rfl om hP hj ?_
 intro wO jl hP dP
 have hO:=hO.aO jl (λx hx hy=>hgp x hy hx)
 have h:=h.aO jl (λx hx=>by have:=gJ x (by simpa using hx);omega)
 have fg:=fg.since jl (λx hx=>.inr (gJ x (by simpa using hx)))
 refine ag ?_
 exact⟨ps.set j J7,⟨rfl,rfl,rfl,rfl,rfl⟩,fg,h.more om,hO,hP,by rw[List.length_set],λx hx=>by rcases We hx with h9|h9;(·exact CJ x h9);(·rw[h9];exact D0)⟩
 refine bA ?_
 exact⟨ps,⟨rfl,rfl,rfl,rfl,rfl⟩,fg,h.more om,hO,hP,rfl,CJ⟩
 intro gu w7 e7 hI
 obtain⟨fg,h,hO,hP,aoV,Wf⟩:=hI
 have iu:=hO.get hk
 obtain⟨lT,gs,a1,c1,a2,c2,e1,e2,tS,xh,jM,bo,kJ,fK,fu,J9⟩:=iu
 cases e1
 have y0:∀x,x∈g.toList++ik gss->x∉[br]:=(λx hx hy=>by have:=ke x hx;simp at hy;omega)
 have hc:ja [br] w7 lT (0+k*3) _:=⟨kJ,tS,λhy=>y0 lT (by rw[e2];simp) hy⟩
 have hr:bI [br] w7 _ _:=fu.rep (λb hb=>y0 b (mR _ (xS jM (by simp[jL,hb]))))
 have gh:=oq hr hn
 obtain⟨b9,ot,e9,gq⟩:=gh
 subst e9
 have AW:bI [] w7 (.slice (some ⟨bp,0,none⟩) ps.length cp) gu:=hP.rep sm
 have gh:=oq AW (i:=0) om
 obtain⟨b8,aj7,e8,vO⟩:=gh
 cases e8
 refine aQ ?_
 have GJ:(bP (aF gu 0) (gu.drop 1)).length<=1000000000:=(by have h1:=aj0 (h:=aF gu 0) (ps:=gu.drop 1) (m:=24002) (λx hx=>Wf x (List.mem_of_mem_drop hx));have h2:=Wf _ (List.mem_of_getElem? (lj (xs:=gu) (i:=0) om));rw[List.length_drop] at h1;have h3:(gu.length-1)*(24002+1)<=12001*24003:=Nat.mul_le_mul om om;omega)
 apply wC eu 6 (rA 73 6) (rA 73 6) [[],[0],[1],[],[3],[2,4]] [It.v _,It.v _,It.v _,It.v _,It.p (fun(v:Value) (ww:World)=>bI [] ww v (gu.drop 1)),It.v _] de (by exact⟨λv w w' h k=>bI.ext h k,trivial⟩)
 intro wd aB
 refine eM ?_
 refine vk aB (λx w8 cu=>?_) ?_
 refine zi (i:=0) bh bB rfl rfl om ?_
 exact pv
 refine vk aB (λx w8 cu=>?_) ?_
 have vO:=vO.ext cu
 refine zl cg rfl (vO.cells 0 _ rfl) ?_
 exact pv
 refine eM ?_
 refine vk aB (λx w8 cu=>?_) ?_
 have AW:=AW.ext cu
 refine EG (l:=1) bh bB rfl rfl rfl rfl om AW ?_
 intro Ba bo
 exact pf (ak.refl _ _) ((show bI [] _ Ba (gu.drop 1) from by unfold bI ji;rw[List.map_drop];exact bo))
 refine vk aB (λx w8 cu=>?_) ?_
 intro v4 d4
 refine aC (xR (aF gu 0) (gu.drop 1) GJ _ [] w8 d4) ?_
 rintro v9 w9 ⟨eR,aG⟩
 have ph:=aG.size
 obtain rfl:=eR
 exact pk aG
 exact trivial
 intro x wO jl
 intro v4 d4
 have h:=h.ext jl;have fg:=fg.ext jl;have hO:=hO.ext jl;have hc:=hc.ext jl;have hr:=hr.ext jl;have gq:=gq.ext jl;have fK:=fK.ext jl;have fu:=fu.ext jl
 change OW _ _ _ _ _ (aM (aN _ x _) (zZ 73 [_,_,_,_,_,_])) _
 refine zA<|ag<|aQ<|aQ ?_
 refine qf eu aS 16 (rA 79 16) (rA 79 16) [[],[0],[1],[2],[2,3],[2],[2],[2,5,6],[2,7],[2,8],[2],[2,9,10],[2,11],[2,12],[2,4,13],[2,14]] [λv _=>v=(str (bP (aF gu 0) (gu.drop 1))),λv _=>v=(.bool (bH (bP (aF gu 0) (gu.drop 1)))),λv _=>v=(.bool (bH (bP (aF gu 0) (gu.drop 1)))),λv _=>(bH (bP (aF gu 0) (gu.drop 1)))=true->v=(str (bP (aF gu 0) (gu.drop 1))),λv _=>(bH (bP (aF gu 0) (gu.drop 1)))=true->v=(.bool (jr (bP (aF gu 0) (gu.drop 1)))),λv _=>(bH (bP (aF gu 0) (gu.drop 1)))=true->v=(.slice (some ⟨lT,0,none⟩) bs.length co),λv _=>(bH (bP (aF gu 0) (gu.drop 1)))=true->v=(.int .i64 (k:Int)),λv _=>(bH (bP (aF gu 0) (gu.drop 1)))=true->v=(.pointer (some ⟨lT,0+k*3,none⟩)),λv _=>(bH (bP (aF gu 0) (gu.drop 1)))=true->v=(.pointer (some ⟨lT,0+k*3+2,none⟩)),λv _=>(bH (bP (aF gu 0) (gu.drop 1)))=true->v=(.slice (some ⟨b9,ot,none⟩) (bz bs k).code.length c2),λv _=>(bH (bP (aF gu 0) (gu.drop 1)))=true->v=(.int .i64 (n:Int)),λv _=>(bH (bP (aF gu 0) (gu.drop 1)))=true->v=(.pointer (some ⟨b9,ot+n*1,none⟩)),λv _=>(bH (bP (aF gu 0) (gu.drop 1)))=true->v=(str (aF (bz bs k).code n)),λv _=>(bH (bP (aF gu 0) (gu.drop 1)))=true->v=(.bool (jr (aF (bz bs k).code n))),λv _=>(bH (bP (aF gu 0) (gu.drop 1)))=true->v=(.bool (decide (jr (bP (aF gu 0) (gu.drop 1))=jr (aF (bz bs k).code n)))),λv _=>v=(.bool (bH (bP (aF gu 0) (gu.drop 1))&&(decide (jr (bP (aF gu 0) (gu.drop 1))=jr (aF (bz bs k).code n)))))] de (cX (cX (cX (eV (eV (eV (eV (eV (eV (eV (eV (eV (eV (eV (eV (cX trivial)))))))))))))))) (λwd aB=>?_) ?_
 refine bN ?_ ?_
 intro x vs j1 e eS hd he
 replace eS:=aS.trans aB eS
 replace he:e=aM (aN _ x _) []:=he
 subst he
 refine zm<|ag ?_
 exact dn (aS.refl _) rfl
 refine bN ?_ ?_
 intro x vs j1 e eS hd he
 have d0:vs 0=(str (bP (aF gu 0) (gu.drop 1))):=hd
 replace eS:=aS.trans aB eS
 replace he:e=aM (aN _ x _) [(79,vs 0)]:=he
 rw[d0] at he
 subst he
 refine aC (K3 (bP (aF gu 0) (gu.drop 1)) j1) ?_
 rintro v49 pj ⟨Hk,jB⟩
 have Wg:=jB.size
 obtain rfl:=Hk
 refine ag ?_
 exact dn (aS.of jB) rfl
 refine bN ?_ ?_
 intro x vs j1 e eS hd he
 have d1:vs 1=(.bool (bH (bP (aF gu 0) (gu.drop 1)))):=hd
 replace eS:=aS.trans aB eS
 replace he:e=aM (aN _ x _) [(80,vs 1)]:=he
 rw[d1] at he
 subst he
 refine zm<|ag ?_
 exact dn (aS.refl _) rfl
 refine bN ?_ ?_
 intro x vs j1 e eS hd he
 have d2:vs 2=(.bool (bH (bP (aF gu 0) (gu.drop 1)))):=hd
 replace eS:=aS.trans aB eS
 rcases bE (bH (bP (aF gu 0) (gu.drop 1))) with hg|hg
 rw[hg] at d2
 replace he:e=aM (aN _ x _) [(81,vs 2)]:=he
 rw[d2] at he
 subst he
 refine zm<|ag ?_
 exact dn (aS.refl _) (show(bH (bP (aF gu 0) (gu.drop 1)))=true->_=((str (bP (aF gu 0) (gu.drop 1))):Value) from λ_=>rfl)
 rw[hg] at d2
 replace he:e=aM (aN _ x _) [(81,vs 2)]:=he
 rw[d2] at he
 subst he
 refine zs<|ag ?_
 exact dn (aS.refl _) (show(bH (bP (aF gu 0) (gu.drop 1)))=true->_=(_:Value) from λhh=>nomatch hg.symm.trans hh)
 refine bN ?_ ?_
 intro x vs j1 e eS hd he
 have aR:(vs 2=(.bool (bH (bP (aF gu 0) (gu.drop 1)))))∧((bH (bP (aF gu 0) (gu.drop 1)))=true->vs 3=(str (bP (aF gu 0) (gu.drop 1)))):=hd
 obtain⟨d2,d3⟩:=aR
 replace eS:=aS.trans aB eS
 rcases bE (bH (bP (aF gu 0) (gu.drop 1))) with hg|hg
 rw[hg] at d2
 replace d3:=d3 hg
 replace he:e=aM (aN _ x _) [(81,vs 2),(82,vs 3)]:=he
 rw[d2,d3] at he
 subst he
 refine aC (HT (bP (aF gu 0) (gu.drop 1)) j1) ?_
 rintro v49 pj ⟨Hk,jB⟩
 have Wg:=jB.size
 obtain rfl:=Hk
 refine ag ?_
 exact dn (aS.of jB) (show(bH (bP (aF gu 0) (gu.drop 1)))=true->_=((.bool (jr (bP (aF gu 0) (gu.drop 1)))):Value) from λ_=>rfl)
 rw[hg] at d2
 replace he:e=aM (aN _ x _) [(81,vs 2),(82,vs 3)]:=he
 rw[d2] at he
 subst he
 refine zs<|ag ?_
 exact dn (aS.refl _) (show(bH (bP (aF gu 0) (gu.drop 1)))=true->_=(_:Value) from λhh=>nomatch hg.symm.trans hh)
 refine bN ?_ ?_
 intro x vs j1 e eS hd he
 have d2:vs 2=(.bool (bH (bP (aF gu 0) (gu.drop 1)))):=hd
 replace eS:=aS.trans aB eS
 rcases bE (bH (bP (aF gu 0) (gu.drop 1))) with hg|hg
 rw[hg] at d2
 replace he:e=aM (aN _ x _) [(81,vs 2)]:=he
 rw[d2] at he
 subst he
 refine zm<|ag ?_
 exact dn (aS.refl _) (show(bH (bP (aF gu 0) (gu.drop 1)))=true->_=((.slice (some ⟨lT,0,none⟩) bs.length co):Value) from λ_=>rfl)
 rw[hg] at d2
 replace he:e=aM (aN _ x _) [(81,vs 2)]:=he
 rw[d2] at he
 subst he
 refine zs<|ag ?_
 exact dn (aS.refl _) (show(bH (bP (aF gu 0) (gu.drop 1)))=true->_=(_:Value) from λhh=>nomatch hg.symm.trans hh)
 refine bN ?_ ?_
 intro x vs j1 e eS hd he
 have d2:vs 2=(.bool (bH (bP (aF gu 0) (gu.drop 1)))):=hd
 replace eS:=aS.trans aB eS
 rcases bE (bH (bP (aF gu 0) (gu.drop 1))) with hg|hg
 rw[hg] at d2
 replace he:e=aM (aN _ x _) [(81,vs 2)]:=he
 rw[d2] at he
 subst he
 refine zm<|ag ?_
 exact dn (aS.refl _) (show(bH (bP (aF gu 0) (gu.drop 1)))=true->_=((.int .i64 (k:Int)):Value) from λ_=>rfl)
 rw[hg] at d2
 replace he:e=aM (aN _ x _) [(81,vs 2)]:=he
 rw[d2] at he
 subst he
 refine zs<|ag ?_
 exact dn (aS.refl _) (show(bH (bP (aF gu 0) (gu.drop 1)))=true->_=(_:Value) from λhh=>nomatch hg.symm.trans hh)
 refine bN ?_ ?_
 intro x vs j1 e eS hd he
 have aR:(vs 2=(.bool (bH (bP (aF gu 0) (gu.drop 1)))))∧((bH (bP (aF gu 0) (gu.drop 1)))=true->vs 5=(.slice (some ⟨lT,0,none⟩) bs.length co))∧((bH (bP (aF gu 0) (gu.drop 1)))=true->vs 6=(.int .i64 (k:Int))):=hd
 obtain⟨d2,d5,d6⟩:=aR
 replace eS:=aS.trans aB eS
 rcases bE (bH (bP (aF gu 0) (gu.drop 1))) with hg|hg
 rw[hg] at d2
 replace d5:=d5 hg
 replace d6:=d6 hg
 replace he:e=aM (aN _ x _) [(81,vs 2),(84,vs 5),(85,vs 6)]:=he
 rw[d2,d5,d6] at he
 subst he
 refine zi gO fH rfl rfl hk<|ag ?_
 exact dn (aS.refl _) (show(bH (bP (aF gu 0) (gu.drop 1)))=true->_=((.pointer (some ⟨lT,0+k*3,none⟩)):Value) from λ_=>rfl)
 rw[hg] at d2
 replace he:e=aM (aN _ x _) [(81,vs 2),(84,vs 5),(85,vs 6)]:=he
 rw[d2] at he
 subst he
 refine zs<|ag ?_
 exact dn (aS.refl _) (show(bH (bP (aF gu 0) (gu.drop 1)))=true->_=(_:Value) from λhh=>nomatch hg.symm.trans hh)
 refine bN ?_ ?_
 intro x vs j1 e eS hd he
 have aR:(vs 2=(.bool (bH (bP (aF gu 0) (gu.drop 1)))))∧((bH (bP (aF gu 0) (gu.drop 1)))=true->vs 7=(.pointer (some ⟨lT,0+k*3,none⟩))):=hd
 obtain⟨d2,d7⟩:=aR
 replace eS:=aS.trans aB eS
 rcases bE (bH (bP (aF gu 0) (gu.drop 1))) with hg|hg
 rw[hg] at d2
 replace d7:=d7 hg
 replace he:e=aM (aN _ x _) [(81,vs 2),(86,vs 7)]:=he
 rw[d2,d7] at he
 subst he
 refine zf mU rfl<|ag ?_
 exact dn (aS.refl _) (show(bH (bP (aF gu 0) (gu.drop 1)))=true->_=((.pointer (some ⟨lT,0+k*3+2,none⟩)):Value) from λ_=>rfl)
 rw[hg] at d2
 replace he:e=aM (aN _ x _) [(81,vs 2),(86,vs 7)]:=he
 rw[d2] at he
 subst he
 refine zs<|ag ?_
 exact dn (aS.refl _) (show(bH (bP (aF gu 0) (gu.drop 1)))=true->_=(_:Value) from λhh=>nomatch hg.symm.trans hh)
 refine bN ?_ ?_
 intro x vs j1 e eS hd he
 have aR:(vs 2=(.bool (bH (bP (aF gu 0) (gu.drop 1)))))∧((bH (bP (aF gu 0) (gu.drop 1)))=true->vs 8=(.pointer (some ⟨lT,0+k*3+2,none⟩))):=hd
 obtain⟨d2,d8⟩:=aR
 replace eS:=aS.trans aB eS
 have hc:=hc.ext eS
 rcases bE (bH (bP (aF gu 0) (gu.drop 1))) with hg|hg
 rw[hg] at d2
 replace d8:=d8 hg
 replace he:e=aM (aN _ x _) [(81,vs 2),(87,vs 8)]:=he
 rw[d2,d8] at he
 subst he
 refine zl eO rfl (hc.cells 2 _ rfl)<|ag ?_
 exact dn (aS.refl _) (show(bH (bP (aF gu 0) (gu.drop 1)))=true->_=((.slice (some ⟨b9,ot,none⟩) (bz bs k).code.length c2):Value) from λ_=>rfl)
 rw[hg] at d2
 replace he:e=aM (aN _ x _) [(81,vs 2),(87,vs 8)]:=he
 rw[d2] at he
 subst he
 refine zs<|ag ?_
 exact dn (aS.refl _) (show(bH (bP (aF gu 0) (gu.drop 1)))=true->_=(_:Value) from λhh=>nomatch hg.symm.trans hh)
 refine bN ?_ ?_
 intro x vs j1 e eS hd he
 have d2:vs 2=(.bool (bH (bP (aF gu 0) (gu.drop 1)))):=hd
 replace eS:=aS.trans aB eS
 rcases bE (bH (bP (aF gu 0) (gu.drop 1))) with hg|hg
 rw[hg] at d2
 replace he:e=aM (aN _ x _) [(81,vs 2)]:=he
 rw[d2] at he
 subst he
 refine zm<|ag ?_
 exact dn (aS.refl _) (show(bH (bP (aF gu 0) (gu.drop 1)))=true->_=((.int .i64 (n:Int)):Value) from λ_=>rfl)
 rw[hg] at d2
 replace he:e=aM (aN _ x _) [(81,vs 2)]:=he
 rw[d2] at he
 subst he
 refine zs<|ag ?_
 exact dn (aS.refl _) (show(bH (bP (aF gu 0) (gu.drop 1)))=true->_=(_:Value) from λhh=>nomatch hg.symm.trans hh)
 refine bN ?_ ?_
 intro x vs j1 e eS hd he
 have aR:(vs 2=(.bool (bH (bP (aF gu 0) (gu.drop 1)))))∧((bH (bP (aF gu 0) (gu.drop 1)))=true->vs 9=(.slice (some ⟨b9,ot,none⟩) (bz bs k).code.length c2))∧((bH (bP (aF gu 0) (gu.drop 1)))=true->vs 10=(.int .i64 (n:Int))):=hd
 obtain⟨d2,d9,d10⟩:=aR
 replace eS:=aS.trans aB eS
 rcases bE (bH (bP (aF gu 0) (gu.drop 1))) with hg|hg
 rw[hg] at d2
 replace d9:=d9 hg
 replace d10:=d10 hg
 replace he:e=aM (aN _ x _) [(81,vs 2),(88,vs 9),(89,vs 10)]:=he
 rw[d2,d9,d10] at he
 subst he
 refine zi bh bB rfl rfl hn<|ag ?_
 exact dn (aS.refl _) (show(bH (bP (aF gu 0) (gu.drop 1)))=true->_=((.pointer (some ⟨b9,ot+n*1,none⟩)):Value) from λ_=>rfl)
 rw[hg] at d2
 replace he:e=aM (aN _ x _) [(81,vs 2),(88,vs 9),(89,vs 10)]:=he
 rw[d2] at he
 subst he
 refine zs<|ag ?_
 exact dn (aS.refl _) (show(bH (bP (aF gu 0) (gu.drop 1)))=true->_=(_:Value) from λhh=>nomatch hg.symm.trans hh)
 refine bN ?_ ?_
 intro x vs j1 e eS hd he
 have aR:(vs 2=(.bool (bH (bP (aF gu 0) (gu.drop 1)))))∧((bH (bP (aF gu 0) (gu.drop 1)))=true->vs 11=(.pointer (some ⟨b9,ot+n*1,none⟩))):=hd
 obtain⟨d2,d11⟩:=aR
 replace eS:=aS.trans aB eS
 have gq:=gq.ext eS
 rcases bE (bH (bP (aF gu 0) (gu.drop 1))) with hg|hg
 rw[hg] at d2
 replace d11:=d11 hg
 replace he:e=aM (aN _ x _) [(81,vs 2),(90,vs 11)]:=he
 rw[d2,d11] at he
 subst he
 refine zl cg rfl (gq.cells 0 _ rfl)<|ag ?_
 exact dn (aS.refl _) (show(bH (bP (aF gu 0) (gu.drop 1)))=true->_=((str (aF (bz bs k).code n)):Value) from λ_=>rfl)
 rw[hg] at d2
 replace he:e=aM (aN _ x _) [(81,vs 2),(90,vs 11)]:=he
 rw[d2] at he
 subst he
 refine zs<|ag ?_
 exact dn (aS.refl _) (show(bH (bP (aF gu 0) (gu.drop 1)))=true->_=(_:Value) from λhh=>nomatch hg.symm.trans hh)
 refine bN ?_ ?_
 intro x vs j1 e eS hd he
 have aR:(vs 2=(.bool (bH (bP (aF gu 0) (gu.drop 1)))))∧((bH (bP (aF gu 0) (gu.drop 1)))=true->vs 12=(str (aF (bz bs k).code n))):=hd
 obtain⟨d2,d12⟩:=aR
 replace eS:=aS.trans aB eS
 rcases bE (bH (bP (aF gu 0) (gu.drop 1))) with hg|hg
 rw[hg] at d2
 replace d12:=d12 hg
 replace he:e=aM (aN _ x _) [(81,vs 2),(91,vs 12)]:=he
 rw[d2,d12] at he
 subst he
 refine aC (HT (aF (bz bs k).code n) j1) ?_
 rintro v49 pj ⟨Hk,jB⟩
 have Wg:=jB.size
 obtain rfl:=Hk
 refine ag ?_
 exact dn (aS.of jB) (show(bH (bP (aF gu 0) (gu.drop 1)))=true->_=((.bool (jr (aF (bz bs k).code n))):Value) from λ_=>rfl)
 rw[hg] at d2
 replace he:e=aM (aN _ x _) [(81,vs 2),(91,vs 12)]:=he
 rw[d2] at he
 subst he
 refine zs<|ag ?_
 exact dn (aS.refl _) (show(bH (bP (aF gu 0) (gu.drop 1)))=true->_=(_:Value) from λhh=>nomatch hg.symm.trans hh)
 refine bN ?_ ?_
 intro x vs j1 e eS hd he
 have aR:(vs 2=(.bool (bH (bP (aF gu 0) (gu.drop 1)))))∧((bH (bP (aF gu 0) (gu.drop 1)))=true->vs 4=(.bool (jr (bP (aF gu 0) (gu.drop 1)))))∧((bH (bP (aF gu 0) (gu.drop 1)))=true->vs 13=(.bool (jr (aF (bz bs k).code n)))):=hd
 obtain⟨d2,d4,d13⟩:=aR
 replace eS:=aS.trans aB eS
 rcases bE (bH (bP (aF gu 0) (gu.drop 1))) with hg|hg
 rw[hg] at d2
 replace d4:=d4 hg
 replace d13:=d13 hg
 replace he:e=aM (aN _ x _) [(81,vs 2),(83,vs 4),(92,vs 13)]:=he
 rw[d2,d4,d13] at he
 subst he
 refine Pz EY rfl rfl rfl rfl<|ag ?_
 exact dn (aS.refl _) (show(bH (bP (aF gu 0) (gu.drop 1)))=true->_=((.bool (decide (jr (bP (aF gu 0) (gu.drop 1))=jr (aF (bz bs k).code n)))):Value) from λ_=>rfl)
 rw[hg] at d2
 replace he:e=aM (aN _ x _) [(81,vs 2),(83,vs 4),(92,vs 13)]:=he
 rw[d2] at he
 subst he
 refine zs<|ag ?_
 exact dn (aS.refl _) (show(bH (bP (aF gu 0) (gu.drop 1)))=true->_=(_:Value) from λhh=>nomatch hg.symm.trans hh)
 refine bN ?_ ?_
 intro x vs j1 e eS hd he
 have aR:(vs 2=(.bool (bH (bP (aF gu 0) (gu.drop 1)))))∧((bH (bP (aF gu 0) (gu.drop 1)))=true->vs 14=(.bool (decide (jr (bP (aF gu 0) (gu.drop 1))=jr (aF (bz bs k).code n))))):=hd
 obtain⟨d2,d14⟩:=aR
 replace eS:=aS.trans aB eS
 rcases bE (bH (bP (aF gu 0) (gu.drop 1))) with hg|hg
 rw[hg] at d2
 replace d14:=d14 hg
 replace he:e=aM (aN _ x _) [(81,vs 2),(93,vs 14)]:=he
 rw[d2,d14] at he
 subst he
 refine zp rfl<|ag ?_
 exact dn (aS.refl _) (by first|rfl|(rw[hg];rfl))
 rw[hg] at d2
 replace he:e=aM (aN _ x _) [(81,vs 2),(93,vs 14)]:=he
 rw[d2] at he
 subst he
 refine zp rfl<|ag ?_
 exact dn (aS.refl _) (by first|rfl|(rw[hg];rfl))
 exact trivial
 intro x vs w87 mI bJ
 have d0:vs 0=(str (bP (aF gu 0) (gu.drop 1))):=bJ 0 de
 have d1:vs 1=(.bool (bH (bP (aF gu 0) (gu.drop 1)))):=bJ 1 de
 have d2:vs 2=(.bool (bH (bP (aF gu 0) (gu.drop 1)))):=bJ 2 de
 have d3:(bH (bP (aF gu 0) (gu.drop 1)))=true->vs 3=(str (bP (aF gu 0) (gu.drop 1))):=bJ 3 de
 have d4:(bH (bP (aF gu 0) (gu.drop 1)))=true->vs 4=(.bool (jr (bP (aF gu 0) (gu.drop 1)))):=bJ 4 de
 have d5:(bH (bP (aF gu 0) (gu.drop 1)))=true->vs 5=(.slice (some ⟨lT,0,none⟩) bs.length co):=bJ 5 de
 have d6:(bH (bP (aF gu 0) (gu.drop 1)))=true->vs 6=(.int .i64 (k:Int)):=bJ 6 de
 have d7:(bH (bP (aF gu 0) (gu.drop 1)))=true->vs 7=(.pointer (some ⟨lT,0+k*3,none⟩)):=bJ 7 de
 have d8:(bH (bP (aF gu 0) (gu.drop 1)))=true->vs 8=(.pointer (some ⟨lT,0+k*3+2,none⟩)):=bJ 8 de
 have d9:(bH (bP (aF gu 0) (gu.drop 1)))=true->vs 9=(.slice (some ⟨b9,ot,none⟩) (bz bs k).code.length c2):=bJ 9 de
 have d10:(bH (bP (aF gu 0) (gu.drop 1)))=true->vs 10=(.int .i64 (n:Int)):=bJ 10 de
 have d11:(bH (bP (aF gu 0) (gu.drop 1)))=true->vs 11=(.pointer (some ⟨b9,ot+n*1,none⟩)):=bJ 11 de
 have d12:(bH (bP (aF gu 0) (gu.drop 1)))=true->vs 12=(str (aF (bz bs k).code n)):=bJ 12 de
 have d13:(bH (bP (aF gu 0) (gu.drop 1)))=true->vs 13=(.bool (jr (aF (bz bs k).code n))):=bJ 13 de
 have d14:(bH (bP (aF gu 0) (gu.drop 1)))=true->vs 14=(.bool (decide (jr (bP (aF gu 0) (gu.drop 1))=jr (aF (bz bs k).code n)))):=bJ 14 de
 have d15:vs 15=(.bool (bH (bP (aF gu 0) (gu.drop 1))&&(decide (jr (bP (aF gu 0) (gu.drop 1))=jr (aF (bz bs k).code n))))):=bJ 15 de
 have h:=h.ext mI;have fg:=fg.ext mI;have hO:=hO.ext mI;have hc:=hc.ext mI;have hr:=hr.ext mI;have gq:=gq.ext mI;have fK:=fK.ext mI;have fu:=fu.ext mI
 change OW _ _ _ _ [] (aM (aN _ x _) (zZ 79 [vs 0,vs 1,vs 2,vs 3,vs 4,vs 5,vs 6,vs 7,vs 8,vs 9,vs 10,vs 11,vs 12,vs 13,vs 14,vs 15])) _
 rw[d0,d1,d2,d15]
 refine ag ?_
 refine jh (λ_:List Bk=>[(0,.pointer (some ⟨br,0,none⟩)),(5,.slice (some ⟨lT,0,none⟩) bs.length co),(7,.int .i64 (k:Int)),(8,.int .i64 (n:Int))]) (λcs ww=>ak [br] w ww∧dZ ww br (q+5)∧(∃Wh,mv ww 29 9 (.slice (some ⟨lT,0,none⟩) bs.length co) g gss Wh cs)∧vN bs cs) ?_ ?_
 refine zc rfl (λh4=>?_) (λh4=>?_)
 have aka:bH (bP (aF gu 0) (gu.drop 1))=true:=(Bool.and_eq_true_iff.1 h4).1
 have D6:=fu.form om
 obtain⟨b7,e7,eg2⟩:=D6
 cases e7
 refine db<|zm<|zm<|zi gO fH rfl rfl hk<|zf mU rfl<|zl eO rfl (hc.cells 2 _ rfl)<|zm<|zm<|zi bh bB rfl rfl hn<|Rv (i:=n) bB rfl rfl rfl om fu hn ?_
 intro Gd AR fu dP
 have hO:=hO.row (f:={bz bs k with code:=(bz bs k).code.set n (bP (aF gu 0) (gu.drop 1))}) jM bo AR (λx hx=>by simp[jL,hx]) ⟨_,_,rfl,fK.aO AR (λb hb hy=>J9 b hb (by simpa using hy)),by rw[show({bz bs k with code:=(bz bs k).code.set n (bP (aF gu 0) (gu.drop 1))}:Bk).code=(bz bs k).code.set n (bP (aF gu 0) (gu.drop 1)) from rfl];exact fu⟩
 have h:=h.aO AR (λx hx=>by have:=ke x (mR _ (xS jM (by simp[jL,hx])));omega)
 have fg:=fg.since AR (λx hx=>.inr (ke x (mR _ (xS jM (by simp[jL,hx])))))
 refine ag ?_
 exact⟨_,⟨rfl,rfl,rfl,rfl⟩,fg,h,⟨_,hO⟩,(vN.refl bs).set hk (by rw[List.length_set];exact lR _) (λx hx=>by rcases We hx with h9|h9;(·exact .inl h9);(·rw[h9];exact .inr aka))⟩
 refine bA ?_
 exact⟨bs,⟨rfl,rfl,rfl,rfl⟩,fg,h,⟨_,hO⟩,vN.refl bs⟩
 intro gu Gd e88 hI
 obtain⟨fg,h,⟨Wh,hO⟩,hH⟩:=hI
 have ln:k<gu.length:=(by rw[hH.1];exact hk)
 have iu:=hO.get ln
 obtain⟨lT,gs,a1,c1,a2,c2,e1,e2,tS,xh,jM,bo,kJ,fK,fu,J9⟩:=iu
 cases e1
 refine aQ<|zr<|zm<|aC (mm 6 de de br (q+5) om Gd h) ?_
 rintro v31 sU ⟨⟨z,yP,hz⟩,h,aG⟩
 subst yP
 have fg:=fg.trans aG
 have hO:=hO.aO aG (λx hx hy=>by have:=ke x hx;simp at hy;omega)
 have iu:=hO.get ln
 obtain⟨lT,gs,a1,c1,a2,c2,e1,e2,tS,xh,jM,bo,kJ,fK,fu,J9⟩:=iu
 cases e1
 have y0:∀x,x∈g.toList++ik gss->x∉[br]:=(λx hx hy=>by have:=ke x hx;simp at hy;omega)
 have Pe:∀x,x∈g.toList++ik gss->x<sU.heap.size:=(λx hx=>(mA.1 hx).elim (λh9=>hO.own.lt x (by simpa using h9)) (hO.lt x))
 have hc:ja [] sU lT (0+k*3) _:=⟨kJ,tS,sm⟩
 have hr:bI [] sU _ _:=fu.rep sm
 have Wi:=hH.2 k hk
 have ov:(bz gu k).code.length<=80:=Nat.le_trans Wi.2.2.1 (fz k hk).2.2
 have aoY:=fg.size
 refine dO rfl rfl rfl<|zm ?_
 apply fU 10 106 116 [106,107,108,109,110,111,112,113,114,115,116] (λw'=>sU=w') rfl
 intro h5
 replace h5:=bu h5
 refine zm<|eE rfl rfl rfl (j5 (n+1) om _ om)<|zm<|zm<|zi gO fH rfl rfl hk<|zf mU rfl<|zl eO rfl (hc.cells 2 _ rfl)<|eh bh rfl<|fJ rfl rfl rfl<|zp rfl<|ag ?_
 exact mg rfl rfl
 intro h5
 replace h5:=bu h5
 refine zs<|zs<|zs<|zs<|zs<|zs<|zs<|zs<|zs<|zp rfl<|ag ?_
 exact mg rfl rfl
 rintro xx _ rfl
 refine ag<|zc rfl (λh6=>?_) (λh6=>?_)
 have px:n+1<(bz gu k).code.length:=(by have h9:=of_decide_eq_true (Bool.and_eq_true_iff.1 h6).2;omega)
 have gh:=oq hr (i:=n) om
 obtain⟨b9,ot,e9,gq⟩:=gh
 subst e9
 apply kc eu ([]) 20 (rA 117 20) (rA 117 20) [[],[],[],[],[],[3,4],[5],[6],[],[7,8],[2,9],[],[],[11,12],[13],[14],[],[16],[15,17],[10,18]] [Ie.v _,Ie.v _,Ie.p (fun(G:List Nat) (v:Value) (ww:World)=>∃bb,v= .slice (some ⟨bb,0,none⟩) 0 0∧fh G ww bb #[] 9∧sU.heap.size<=bb),Ie.v _,Ie.v _,Ie.v _,Ie.v _,Ie.v _,Ie.v _,Ie.v _,Ie.e 0,Ie.v _,Ie.v _,Ie.v _,Ie.v _,Ie.v _,Ie.v _,Ie.v _,Ie.p (fun(G:List Nat) (v:Value) (ww:World)=>bI G ww v ((bz gu k).code.drop (n+1))),Ie.e 1] [10,19] [fun(G:List Nat) (vs:List Value) (ww:World)=>True,fun(G:List Nat) (vs:List Value) (ww:World)=>∃g7,dh ww 9 (vs.getD 0 undef) g7 ((bz gu k).code.take n)∧qA G ww 9 g7∧(∀x,x∈g7.toList->sU.heap.size<=x),fun(G:List Nat) (vs:List Value) (ww:World)=>∃g7,dh ww 9 (vs.getD 1 undef) g7 ((bz gu k).code.take n++(bz gu k).code.drop (n+1))∧(∀x,x∈g7.toList->sU.heap.size<=x)] de rfl ((λz hz=>by simp at hz)) (by exact⟨λG v w G' w' ⟨bb,e,h,hz⟩ k=>⟨bb,e,h.go k,hz⟩,λG v w G' w' h k=>bI.go h k,trivial⟩) (by exact⟨λ_ _ _ _ _ _=>trivial,λG vs w w' ⟨g7,h2,h3,h4⟩ k=>⟨g7,h2.ext k,h3.ext k,h4⟩,λG vs w w' ⟨g7,h2,h4⟩ k=>⟨g7,h2.ext k,h4⟩,trivial⟩) trivial
 refine cR ?_
 refine cR ?_
 refine vf (λx j3 kX aW iC lf=>?_) ?_
 refine gM bh bB ?_
 intro oh yr akb I6
 exact ff yr (⟨_,rfl,akb.o lf,iC.aO.size⟩)
 refine cR ?_
 refine cR ?_
 refine vf (λ_ _ _ _ _ _=>zi gO fH rfl rfl hk fv) ?_
 refine vf (λ_ _ _ _ _ _=>zf mU rfl fv) ?_
 refine vf (λx j3 kX aW iC lf=>?_) ?_
 have hc:=hc.go iC
 refine zl eO rfl (hc.cells 2 _ rfl) ?_
 exact fv
 refine cR ?_
 refine vf (λx j3 kX aW iC lf=>?_) ?_
 have hr:=hr.go iC
 refine OI (h:=n) bh bB rfl rfl rfl rfl om hr ?_
 exact fv
 refine ve 0 (λx j3 kX aW iC lf hJ hlen=>?_) ?_
 have bo:=jO hlen
 subst bo
 have hr:=hr.go iC
 intro v2 d2
 obtain⟨bb,e2,gx,hN⟩:=d2
 subst e2
 have OB:bI kX j3 _ ((bz gu k).code.take n):=(show cD _ _ _ (.sl 1 (ji _)) from by have h9:=OH hr (h:=n) om;unfold ji at h9⊢;rw[List.map_take];exact h9)
 refine DP bh bB rfl rfl rfl rfl rfl rfl gx.ju.ll OB ‹_› (λx hx=>.inr (by simp at hx;subst hx;exact gx.ju)) (by rw[List.length_take];simp;omega) ?_
 intro v9 g9 oh G9 dK DS ph kV df fi aG
 exact fe G9 df fi (⟨g9,dK,DS,λx hx=>(ph x hx).elim (λh9=>by simp at h9;subst h9;exact hN) (λh9=>Nat.le_trans iC.aO.size h9)⟩)
 refine cR ?_
 refine cR ?_
 refine vf (λ_ _ _ _ _ _=>zi gO fH rfl rfl hk fv) ?_
 refine vf (λ_ _ _ _ _ _=>zf mU rfl fv) ?_
 refine vf (λx j3 kX aW iC lf=>?_) ?_
 have hc:=hc.go iC
 refine zl eO rfl (hc.cells 2 _ rfl) ?_
 exact fv
 refine cR ?_
 refine vf (λ_ _ _ _ _ _=>eE rfl rfl rfl (j5 (n+1) om _ om) fv) ?_
 refine vf (λx j3 kX aW iC lf=>?_) ?_
 have hr:=hr.go iC
 refine EG bh bB rfl rfl rfl rfl om hr ?_
 intro Ba bo
 exact ff (ak.refl _ _) ((show bI _ _ Ba ((bz gu k).code.drop (n+1)) from by unfold bI ji;rw[List.map_drop];exact bo))
 refine ve 1 (λx j3 kX aW iC lf hJ hlen=>?_) ?_
 have aR:=jP hlen
 obtain⟨q0,bo⟩:=aR
 subst bo
 intro wY d18
 have hJ:∃g7,dh j3 9 q0 g7 ((bz gu k).code.take n)∧qA kX j3 9 g7∧(∀x,x∈g7.toList->_<=x):=hJ
 obtain⟨g7,rU,B3,B4⟩:=hJ
 refine DP bh bB rfl rfl rfl rfl rfl rfl rU d18 ‹_› B3 (by rw[List.length_take,List.length_drop];omega) ?_
 intro v9 g9 oh G9 dK DS ph kV df fi aG
 exact fe G9 df fi (⟨g9,dK,λx hx=>(ph x hx).elim (B4 x) (λh9=>Nat.le_trans iC.aO.size h9)⟩)
 exact trivial
 intro x I7 TU aW MW adX hJ hlen
 have aR:=lH hlen
 obtain⟨q0,q1,bo⟩:=aR
 subst bo
 intro v2 d2
 intro wY d18
 change OW _ _ _ _ _ (aM (aN _ x _) (zZ 117 [_,_,_,_,_,_,_,_,_,_,_,_,_,_,_,_,_,_,_,_])) _
 have hJ:∃g7,dh I7 9 q1 g7 ((bz gu k).code.take n++(bz gu k).code.drop (n+1))∧(∀x,x∈g7.toList->_<=x):=hJ
 obtain⟨g7,rU,B4⟩:=hJ
 have cJ:=kr rU
 obtain⟨a9,c9,e9⟩:=cJ
 subst e9
 have JJ:ak [] _ I7:=MW.aO
 have hO:=hO.ext JJ;have h:=h.ext JJ;have fg:=fg.ext JJ
 refine zi gO fH rfl rfl hk<|zf mU rfl<|ajz (i:=k) (L:=[br]) nL rfl rfl rfl om hO e2 ln rU (λx hx hy=>by have h8:=B4 x hx;have h9:=Pe x (by simp at hy;simp[hy]);omega) (λx hx hy=>by rcases mA.1 hx with h9|h9;(·exact y0 x h9 hy);(·have h8:=B4 x h9;have h7:=fg.size;simp at hy;omega)) ?_
 intro MX Cb hR dP
 have h:=h.aO Cb (λx hx=>by have:=ke x (by simp at hx;simp[hx]);omega)
 have fg:=fg.since Cb (λx hx=>.inr (ke x (by simp at hx;simp[hx])))
 refine ag<|zr<|zm<|zA<|ag<|aV ?_
 exact⟨_,rfl,⟨_,_,⟨hR,λb hb=>ke b (by simp[hb]),λx hx=>by simp at hx;subst hx;exact h.lt,fg.size⟩,hH.set hk (by rw[lA,List.length_take,List.length_drop];omega) (λx hx=>Wi.2.2.2 x ((mA.1 hx).elim List.mem_of_mem_take List.mem_of_mem_drop))⟩,h.more om,fg⟩
 refine bA<|zr<|zm<|zA<|ag<|aV ?_
 exact⟨_,rfl,⟨gu,_,hO.gr y0 (λb hb=>ke b (by simp[hb])) (λx hx=>by simp at hx;subst hx;exact h.lt) fg.size,hH⟩,h.more om,fg⟩
theorem akc {br:Nat} {cs:Array Value} {T:TypeId} (hb:aY w br cs T) (hs:∀(i:Nat) (s:aj),cs[i]?≠some (str s)) {a:Option Addr} {n c size:Nat} {rows:List (List C)} (h:cD L w (.slice a n c) (.sl size rows)) (h0:∀row,row∈rows->∃s rest,row= .val (str s)::rest) (AG:∀row c' u,row∈rows->c'∈row->cD L w u c'->cD (L++[br]) w u c'):cD (L++[br]) w (.slice a n c) (.sl size rows):=by
 cases h with
 |nil=>exact .nil _ _ _
 |sl b off _ _ _ _ f hl hc iO hL iY kJ ie=>
  cases rows with
  |nil=>
   have:n=0:=by rw[<-hl];rfl
   subst this
   exact .nil _ _ _
  |cons row rest=>
   have eN:b≠br:=by
    rintro rfl
    obtain⟨s,r,e⟩:=h0 row sm
    have hz:=iY row sm
    have h1:=ie 0 0 row (.val (str s)) rfl (by rw[e];rfl)
    have h2:=kJ 0 0 (by rw[<-hl];simp) (by rw[<-hz,e];simp)
    rw[hb.cell] at h2
    generalize f 0 0=u at h1 h2
    cases h1
    exact hs _ _ h2
   exact .sl b off n c size _ f hl hc iO (λhx=>(mA.1 hx).elim hL (λh9=>eN (by simpa using h9))) iY kJ λi j row c hr hc=>AG row c _ (List.mem_of_getElem? hr) (List.mem_of_getElem? hc) (ie i j row c hr hc)
theorem Wj {br:Nat} {cs:Array Value} {T:TypeId} (hb:aY w br cs T) (hs:∀(i:Nat) (s:aj),cs[i]?≠some (str s)) {xs:List aj} (h:bI L w v xs):bI (L++[br]) w v xs:=by
 obtain⟨a,n,c,rfl,_⟩:=eI h
 refine akc hb hs h (λrow hr=>?_) (λrow c' u hr hc hu=>?_)
 ·obtain⟨x,_,rfl⟩:=List.mem_map.1 hr;exact⟨x,[],rfl⟩
 ·obtain⟨x,_,rfl⟩:=List.mem_map.1 hr
  simp only[List.mem_singleton] at hc
  subst hc
  cases hu;exact .val _
theorem Wk {br:Nat} {cs:Array Value} {T:TypeId} (hb:aY w br cs T) (hs:∀(i:Nat) (s:aj),cs[i]?≠some (str s)):∀{bs:List Bk} {xs:List Value},dQ L w xs (bs.map Bk.enc).flatten->dQ (L++[br]) w xs (bs.map Bk.enc).flatten
 |[],[],_=>trivial
 |f::bs,x0::x1::x2::r,h=>by
  obtain⟨r0,r1,r2,h⟩:=h
  cases r0
  exact⟨.val _,Wj (xs:=f.cE) hb hs r1,Wj (xs:=f.code) hb hs r2,Wk (bs:=bs) hb hs h⟩
theorem dZ.gr {br T:Nat} (h:dZ w br q) (hG:Gr B [] w T 3 v g (bs.map Bk.enc)) (hB:br<B):Gr B [br] w T 3 v g (bs.map Bk.enc):=by
 obtain⟨a,n,c,p,xs,h1,_⟩:=h
 obtain⟨ys,dY,ie,iI,_⟩:=hG.own
 have hs:∀(i:Nat) (s:aj),([.slice a n c,.int .i64 ((p:Nat):Int)]:List Value).toArray[i]?≠some (str s):=λi s hi=>by
  match i with
  |0=>cases hi
  |1=>cases hi
  |i+2=>cases hi
 rw[List.append_nil] at ie
 exact⟨⟨ys,dY,Wk h1 hs ie,iI,λb hb hx=>by have:=hG.low b hb;simp at hx;omega⟩,hG.low,λx hx=>by simp at hx;subst hx;exact h1.lt,hG.bsz⟩
theorem akd (br q:Nat) (hq:q<=700000000) (w:World) (h:dZ w br q):
  bZ Tryz.prog 50 [.pointer (some ⟨br,0,none⟩)] w λr w'=>(∃x,r=str x)∧dZ w' br (q+12000)∧ak [br] w w':=by
 have hk:=ak.refl [br] w
 have iO:=h.lt
 have uJ:(4:Nat)^2=16:=rfl
 refine cU [.tmp 2] 28 Tryz.func50 rfl Zl rfl rfl ?_
 refine zr<|zA<|ag<|zr<|zA<|ag<|aQ<|zr<|zm<|aC (mm 3 de de br q om w h) ?_
 rintro v9 w1 ⟨⟨z,e9,hz⟩,h,aG⟩
 subst e9
 have hk:=hk.trans aG
 refine dO rfl rfl rfl<|ag ?_
 refine jh (λx:aj=>[(0,.pointer (some ⟨br,0,none⟩)),(3,str x)]) (λx ww=>ak [br] w ww∧dZ ww br (q+20)∧x.length<=100) ?_ ?_
 refine zc rfl (λh1=>?_) (λh1=>?_)
 refine db<|zm<|aC (OK 2 de br (q+1) om w1 h) ?_
 rintro v9 w2 ⟨⟨T,e9,hT⟩,h,aG⟩
 subst e9
 have V9:=T.len
 have hT:T.n+1<=8:=hT
 have hk:=hk.trans aG
 refine zA<|ag ?_
 exact⟨_,⟨rfl,rfl⟩,hk,h.more om,om⟩
 refine bA ?_
 exact⟨_,⟨rfl,rfl⟩,hk,h.more om,by decide⟩
 intro gu w2 e2 hI
 obtain⟨hk,h,hx⟩:=hI
 have mn:=h.lt
 refine zr<|zm<|gM bh bB ?_
 intro w3 aK iD iK
 have hk:=hk.ext aK;have h:=h.ext aK
 refine gM bh bB ?_
 intro w4 aD ND iL
 have hk:=hk.ext aD;have h:=h.ext aD;have iD:=iD.ext aD
 refine j6 (Ky _ _ _ _ _ _ _) rfl rfl<|zm<|zm<|aC (mm 3 de de br (q+20) om w4 h) ?_
 rintro v9 w5 ⟨⟨z2,e9,eK⟩,h,aG⟩
 subst e9
 have hk:=hk.trans aG
 have cV:bI [br] w5 _ []:=(iD.ll.aO aG so).rep so
 have cS:bI [br] w5 _ []:=(ND.ll.aO aG so).rep so
 have hE:=OX (2+z2) om
 have hp:4^(2+z2)<=4^4:=Nat.pow_le_pow_right de om
 have VG:(4:Nat)^4=256:=rfl
 refine eE rfl rfl rfl (j5 (2+z2) om _ om)<|aC (hE [] [] gu br (q+21) _ _ w5 rfl so sm om om h cV cS) ?_
 rintro v9 w6 ⟨⟨x9,e9,jg⟩,h,aG⟩
 subst e9
 have hk:=hk.trans aG
 have h:=h.more (show _<=q+6000 from om)
 refine zA<|ag<|aQ<|zr<|zm<|aC (MJ x9 w6) ?_
 rintro v7 w7 ⟨iV,cv⟩
 have pg:=cv.size
 have hk:=hk.ext cv;have h:=h.ext cv
 obtain rfl:=iV
 refine ag<|zc rfl (λh2=>?_) (λh2=>?_)
 refine zr<|zm<|zA<|ag<|aV ?_
 exact⟨_,rfl,⟨_,rfl⟩,h.more om,hk⟩
 have mn:=h.lt
 refine bA<|zr<|zm<|gM bh bB ?_
 intro w8 cu A7 mu
 have hk:=hk.ext cu;have h:=h.ext cu
 refine gM bh bB ?_
 intro w9 aG yB dP
 have hk:=hk.ext aG;have h:=h.ext aG;have A7:=A7.ext aG
 refine j6 (Ky _ _ _ _ _ _ _) rfl rfl<|zm<|aC (OX 2 de [] [] gu br (q+6000) _ _ w9 rfl sm sm om om h (A7.ll.rep so) (yB.ll.rep so)) ?_
 rintro v9 cN ⟨⟨Ei,e9,aoZ⟩,h,aG⟩
 subst e9
 have hk:=hk.trans aG
 refine zA<|ag<|aV ?_
 exact⟨_,rfl,⟨_,rfl⟩,h.more om,hk⟩
theorem Gr.two {B TB:Nat} {x1 x2 x3 y1 y2 y3:Value} {f1 f2:Bk} (hb:aY w b [x1,x2,x3,y1,y2,y3].toArray TB) (h1:qj (b::L) w (.agg #[x1,x2,x3]) f1) (h2:qj (b::L) w (.agg #[y1,y2,y3]) f2) (hB:B<=b) (hL:∀x,x∈L->x<w.heap.size) (qY:b∉L):Gr B L w TB 3 (.slice (some ⟨b,0,none⟩) 2 2) (some b) ([f1,f2].map Bk.enc):=
 ⟨⟨[x1,x2,x3,y1,y2,y3],⟨rfl,.inr ⟨b,2,_,rfl,rfl,hb,lR _,by decide,rfl,rfl⟩⟩,dQ.append (vs:=[x1,x2,x3]) h1.kO (dQ.append (vs:=[y1,y2,y3]) h2.kO (vs':=[]) (cs':=[]) trivial),by intro row hr;simp at hr;rcases hr with rfl|rfl<;>rfl,by intro c hc;cases hc;exact qY⟩,by intro c hc;cases hc;exact hB,hL,Nat.le_of_lt (Nat.lt_of_le_of_lt hB hb.lt)⟩
structure CU (bs:List Bk):Prop where
 len:1<=bs.length∧bs.length<=40
 bk:∀b,b∈bs->b.aP.length<=100∧b.cE.length<=40∧b.code.length<=80∧(∀x,x∈b.cE->x.length<=12000)∧∀x,x∈b.code->x.length<=12000
theorem CU.smalls (h:CU bs):xO bs:=⟨by have:=h.len;omega,λi hi=>by
 have:=h.bk (bz bs i) (List.mem_of_getElem? (o3 hi))
 exact⟨by omega,om,om⟩⟩
theorem O6.dr {b:Bk} {l:aj} (h:O6 b l) (hl:l.length<=100):b.aP.length<=100∧b.cE.length<=40∧b.code.length<=80∧(∀x,x∈b.cE->x.length<=12000)∧∀x,x∈b.code->x.length<=12000:=
 ⟨by rw[h.aP];exact hl,by have:=h.regs.1;omega,by have:=h.code.2.1;omega,λx hx=>by have:=h.regs.2 x hx;omega,λx hx=>by have:=h.code.2.2 x hx;omega⟩
theorem ake {x:aj} (h:bH x=true):x.length<=12000:=by
 unfold bH seen at h
 cases hp:ba x with
 |none=>rw[hp] at h;cases h
 |some t=>exact(BF hp).2.2.2
theorem Wl (hp:jK bs=true) (hl:∀b,b∈bs->b.aP.length<=10):CU bs:=by
 obtain⟨h1,h2,h3⟩:=Pd hp
 refine⟨⟨h2,h1⟩,λb hb=>?_⟩
 obtain⟨i,hi,rfl⟩:=List.getElem_of_mem hb
 have e:bz bs i=bs[i]:=by unfold bz;rw[gG,gE hi];rfl
 have h4:=h3 i hi
 rw[e] at h4
 obtain⟨_,h5,h6⟩:=abp (HX hp _ hb)
 refine⟨by have:=hl _ hb;omega,h4.1,h4.2.2,λx hx=>?_,λx hx=>?_⟩
 ·obtain⟨t,ht,_⟩:=h5 x hx;exact(BF ht).2.2.2
 ·obtain⟨t,ht,_⟩:=h6 x hx;exact(BF ht).2.2.2
theorem CU.akf {cs:List Bk} (h:CU bs) (hh:vN bs cs):CU cs:=by
 refine⟨by rw[hh.1];exact h.len,λb hb=>?_⟩
 obtain⟨i,hi,rfl⟩:=List.getElem_of_mem hb
 have ky:i<bs.length:=by rw[<-hh.1];exact hi
 have e:bz cs i=cs[i]:=by unfold bz;rw[gG,gE hi];rfl
 obtain⟨h1,h2,h3,h4⟩:=hh.2 i ky
 rw[e] at h1 h2 h3 h4
 have h5:=h.bk (bz bs i) (List.mem_of_getElem? (o3 ky))
 rw[h1,h2]
 exact⟨h5.1,h5.2.1,om,h5.2.2.2.1,λx hx=>(h4 x hx).elim (h5.2.2.2.2 x) ake⟩
def Pf:List aj:=[[98,49],[98,48],[101,110,100]]
set_option maxHeartbeats 4000000 in
theorem akg (br q:Nat) (hq:q<=600000000) (w:World) (h:dZ w br q):
  bZ Tryz.prog 24 [.pointer (some ⟨br,0,none⟩)] w λr w'=>(∃bs g,CU bs∧Gr w.heap.size [br] w' 29 3 r g (bs.map Bk.enc))∧dZ w' br (q+20000)∧ak [br] w w':=by
 have hk:=ak.refl [br] w
 have iO:=h.lt
 refine cU [.tmp 2] 49 Tryz.func24 rfl Y5 rfl rfl ?_
 refine zr<|zA<|ag<|aQ<|zr<|zm<|aC (mm 3 de de br q om w h) ?_
 rintro v9 w1 ⟨⟨z,e9,hz⟩,h,aG⟩
 subst e9
 have hk:=hk.trans aG
 refine dO rfl rfl rfl<|ag<|zc rfl (λh1=>?_) (λh1=>?_)
 have mn:=h.lt
 refine zr<|zm<|aC (O8 [109,97,105,110] 0 de br (q+1) om w1 h) ?_
 rintro v9 w2 ⟨⟨f1,rZ,cV⟩,h,aG⟩
 have hk:=hk.trans aG
 have cV:=cV [br] so
 have cJ:=Bz cV
 obtain⟨a1,n1,c1,a2,n2,c2,e9,fK,fu,dy,dR⟩:=cJ
 subst e9
 refine zm<|zm<|aC (mm 3 de de br (q+101) om w2 h) ?_
 rintro v9 w3 ⟨⟨z2,e9,eK⟩,h,aG⟩
 subst e9
 have hk:=hk.trans aG
 have dy:=dy.aL aG sm;have dR:=dR.aL aG sm
 have mn:=h.lt
 refine aC (O8 [98,48] z2 om br (q+102) om w3 h) ?_
 rintro v9 w4 ⟨⟨f2,r5,cS⟩,h,aG⟩
 have hk:=hk.trans aG
 have dy:=dy.aL aG sm;have dR:=dR.aL aG sm
 have cS:=cS [br] so
 have cJ:=Bz cS
 obtain⟨a3,n3,c3,a4,n4,c4,e9,px,T8,gd,gK⟩:=cJ
 subst e9
 refine sB [.tmp 10,.tmp 14] [[str f1.aP,.slice a1 n1 c1,.slice a2 n2 c2],[str f2.aP,.slice a3 n3 c3,.slice a4 n4 c4]] gO fH rfl rfl rfl rfl rfl rfl rfl rfl rfl ?_
 intro w5 aT IZ I0
 have mn:=h.lt
 have vV:∀x,x∈w4.heap.size::[br]->x∈[br]∨w4.heap.size<=x:=(λx hx=>by rcases mC.1 hx with h9|h9;(·right;omega);(·exact .inl h9))
 have dy:=(dy.fresh vV).ext aT
 have dR:=(dR.fresh vV).ext aT
 have gd:=(gd.fresh vV).ext aT
 have gK:=(gK.fresh vV).ext aT
 have CV:=hk.size
 have hk:=hk.ext aT;have h:=h.ext aT
 have hO:=Gr.two (B:=w.heap.size) (L:=[br]) IZ (xK dy dR) (xK gd gK) om so so
 refine zA<|ag<|aQ<|zr<|zm<|aC (mm 3 de de br (q+202) om w5 h) ?_
 rintro v9 w6 ⟨⟨z3,e9,iK⟩,h,aG⟩
 subst e9
 have hk:=hk.trans aG
 have hO:=hO.aL aG sm
 refine dO rfl rfl rfl<|ag<|zc rfl (λh2=>?_) (λh2=>?_)
 have mn:=h.lt
 refine db<|zm<|zm<|zm<|pQ bh bB rfl rfl rfl rfl rfl ?_
 intro w7 cv tT qg
 have hk:=hk.ext cv;have h:=h.ext cv;have hO:=hO.ext cv
 refine aC (mJ Pf de de br (q+203) om _ w7 h (aY.eF Pf tT (λhx=>by simp at hx;omega) de)) ?_
 rintro lJ w8 ⟨⟨lb,hi,iE⟩,h,aG⟩
 subst iE
 have hk:=hk.trans aG
 have hO:=hO.aL aG sm
 have GJ:=(show∀x,x∈Pf->x.length<=30 from by decide) _ hi
 refine zm<|aC (mm 2 de de br (q+204) om w8 h) ?_
 rintro v9 w9 ⟨⟨z4,e9,iL⟩,h,aG⟩
 subst e9
 have hk:=hk.trans aG
 have hO:=hO.aL aG sm
 have mn:=h.lt
 have gJ:=hO.all
 refine aC (O8 lb z4 om br (q+205) om w9 h) ?_
 rintro v9 cN ⟨⟨f3,vj,IA⟩,h,aG⟩
 have hk:=hk.trans aG
 have hO:=hO.aL aG sm
 have IA:=IA _ gJ
 have cJ:=Bz IA
 obtain⟨a5,n5,c5,a6,n6,c6,e9,Jf,VE,oW,ob⟩:=cJ
 subst e9
 refine gA gO fH rfl rfl ?_
 intro eW cL akh uF
 have hk:=hk.ext cL;have h:=h.ext cL;have hO:=hO.ext cL;have oW:=oW.ext cL;have ob:=ob.ext cL
 refine QL gO fH rfl rfl rfl rfl rfl rfl hO akh (xK oW ob) sm ?_
 intro a7 c7 g7 gj gP dD
 have hk:=hO.since hk dD
 have h:=h.aO dD (λx hx=>by have:=hO.low x (by simp at hx;simp[hx]);omega)
 refine zA<|ag<|zr<|zm<|zA<|ag<|aV ?_
 exact⟨_,rfl,⟨[f1,f2]++[f3],_,⟨by simp,λb hb=>by simp at hb;rcases hb with rfl|rfl|rfl;(·exact rZ.dr de);(·exact r5.dr de);(·exact vj.dr om)⟩,gP⟩,h.more om,hk⟩
 refine bA<|zr<|zm<|zA<|ag<|aV ?_
 exact⟨_,rfl,⟨[f1,f2],_,⟨by simp,λb hb=>by simp at hb;rcases hb with rfl|rfl;(·exact rZ.dr de);(·exact r5.dr de)⟩,hO⟩,h.more om,hk⟩
 refine bA<|zr<|zm<|aC (akd br (q+1) om w1 h) ?_
 rintro v9 w2 ⟨⟨x9,e9⟩,h,aG⟩
 subst e9
 have hk:=hk.trans aG
 have mn:=h.lt
 have CV:=hk.size
 refine aC (VT x9 w2) ?_
 rintro v3 w3 ⟨et,aK⟩
 have gd:=aK.size
 have hk:=hk.ext aK;have h:=h.ext aK
 obtain⟨v1,ok,bs,e9,_,hC,hR⟩:=et
 subst e9
 refine zm<|zx (i:=0) rfl rfl<|zx (i:=1) rfl rfl<|zA<|zA<|ag<|aQ<|zr<|zm<|eH rfl<|ag ?_
 refine jh (λv:Value=>[(0,.pointer (some ⟨br,0,none⟩)),(4,v)]) (λv ww=>ak [br] w ww∧dZ ww br (q+12001)∧∃bs g,Gr w.heap.size [br] ww 29 3 v g (bs.map Bk.enc)∧jK bs=true∧∀b,b∈bs->b.aP.length<=10) ?_ ?_
 refine zc rfl (λh3=>?_) (λh3=>?_)
 have hf:ok=false:=(by simpa using h3)
 have mn:=h.lt
 have CV:=hk.size
 refine db<|aC (VT [40,43,32,49,32,50,41] w3) ?_
 rintro v4 w4 ⟨eJ,aD⟩
 have gK:=aD.size
 have hk:=hk.ext aD;have h:=h.ext aD
 obtain⟨v2,ok2,VW,e9,_,Pg,OJ⟩:=eJ
 subst e9
 have aki:=aiT Pg
 subst aki
 have aR:=OJ rfl
 obtain⟨g2,yq⟩:=aR
 refine zm<|zx (i:=0) rfl rfl<|zx (i:=1) rfl rfl<|zA<|ag ?_
 exact⟨_,⟨rfl,rfl⟩,hk,h.more om,_,g2,(h.gr yq mn).down CV,Pg.prog,Pg.aP⟩
 have bF:ok=true:=(by simpa using h3)
 subst bF
 have aR:=hR rfl
 obtain⟨g2,yq⟩:=aR
 refine bA ?_
 exact⟨_,⟨rfl,rfl⟩,hk,h.more om,_,g2,(h.gr yq mn).down CV,hC.prog,hC.aP⟩
 intro gu w4 e4 hI
 obtain⟨hk,h,bs,g,hR,uo,yW⟩:=hI
 refine aQ<|zr<|zm<|aC (mm 2 de de br (q+12001) om w4 h) ?_
 rintro v9 w5 ⟨⟨z5,e9,jo⟩,h,aG⟩
 subst e9
 have hk:=hk.trans aG
 have hR:=hR.aL aG sm
 have CV:=hk.size
 refine dO rfl rfl rfl<|ag<|zc rfl (λh4=>?_) (λh4=>?_)
 refine zr<|zm<|zA<|ag<|aV ?_
 exact⟨_,rfl,⟨bs,g,Wl uo yW,hR⟩,h.more om,hk⟩
 have hRn:=cD.none hR.wb
 refine bA<|zr<|zm<|zm<|aC (aj1 bs uo br (q+12002) om _ w5 h hRn) ?_
 rintro v9 w6 ⟨⟨cs,gc,hRc,hH⟩,h,aG⟩
 have hk:=hk.trans aG
 refine zA<|ag<|aV ?_
 exact⟨_,rfl,⟨cs,gc,(Wl uo yW).akf hH,hRc.down CV⟩,h.more om,hk⟩
structure Ph (bs:List Bk):Prop where
 len:bs.length<=41
 bk:∀b,b∈bs->b.aP.length<=100∧b.cE.length<=40∧b.code.length<=80∧(∀x,x∈b.cE->x.length<=12000)∧∀x,x∈b.code->x.length<=12000
theorem Ph.smalls (h:Ph bs):xO bs:=⟨by have:=h.len;omega,λi hi=>by
 have:=h.bk (bz bs i) (List.mem_of_getElem? (o3 hi))
 exact⟨by omega,om,om⟩⟩
theorem akl (bs:List UInt8) (hb:bs.length<=1000000000) (v:Value) (w:World) (hv:cD [] w v (.sl 1 (rF bs))):
  bZ Tryz.prog 10 [v] w λr w'=>(∃ps,Ph ps∧qV [] w' r ps)∧ak [] w w':=by
 have hK:=ak.refl [] w
 refine cU [.tmp 2] 27 Tryz.func10 rfl XL rfl rfl ?_
 refine zr<|zA<|ag<|zr<|zm<|aC (ai1 bs hb _ w hv) ?_
 rintro v1 w1 ⟨fO,aJ⟩
 have dy:=aJ.size
 have hK:=hK.ext aJ
 obtain⟨br,e9,LU,h⟩:=fO
 subst e9
 have CV:=hK.size
 refine zA<|ag<|zr<|zm<|aC (akg br 0 de w1 h) ?_
 rintro v9 w2 ⟨⟨ps,gp,hP,hG⟩,h,aG⟩
 have hK:=hK.since aG (λx hx=>.inr (by simp at hx;omega))
 have oX:=hP.len
 refine zA<|ag<|aQ<|zr<|zm<|aC (mm 12 de de br _ de w2 h) ?_
 rintro v10 w3 ⟨⟨z,fY,hz⟩,h,aG⟩
 subst fY
 have hK:=hK.since aG (λx hx=>.inr (by simp at hx;omega))
 have hG:=hG.aL aG sm
 have nK:=hG.ajw om
 obtain⟨b0,a1,n1,c1,a2,n2,c2,pc,e9,er,dy,dR⟩:=nK
 subst e9
 refine ag<|cP<|zr<|dO rfl rfl rfl<|zA<|ag<|zc rfl (λh1=>?_) (λh1=>?_)
 refine zr<|gM gO fH ?_
 intro w4 aD mc iL
 have hK:=hK.ext aD
 refine zA<|ag<|aV ?_
 exact⟨_,rfl,⟨[],⟨by simp,sm⟩,.nil _ _ _⟩,hK⟩
 refine zr<|dO rfl rfl rfl<|zA<|ag<|zc rfl (λh2=>?_) (λh2=>?_)
 refine zr<|zm<|EG (l:=1) gO fH rfl rfl rfl rfl om (cD.none hG.wb) ?_
 intro Ba bo
 refine zA<|ag<|aV ?_
 exact⟨_,rfl,⟨ps.drop 1,⟨by rw[List.length_drop];omega,λb hb=>hP.bk b (List.mem_of_mem_drop hb)⟩,show cD _ _ _ (.sl 3 ((ps.drop 1).map Bk.enc)) from by rw[List.map_drop];exact bo⟩,hK⟩
 refine zr<|dO rfl rfl rfl<|zA<|ag<|zc rfl (λh3=>?_) (λh3=>?_)
 refine zr<|zm<|zm<|zi (i:=0) gO fH rfl rfl om<|zL vY fH rfl ((show iH _ b0 (0+0*3) _ from by simpa using er)) rfl<|gA gO fH rfl rfl ?_
 intro w4 aD yB iL
 have hK:=hK.ext aD;have hG:=hG.ext aD;have dy:=dy.ext aD;have dR:=dR.ext aD
 refine QL gO fH rfl rfl rfl rfl rfl rfl hG yB (xK dy dR) om ?_
 intro a7 c7 g7 w5 gP aT
 have hK:=hK.since aT (λx hx=>.inr (by have:=hG.low x (by simpa using hx);omega))
 refine zA<|ag<|aV ?_
 exact⟨_,rfl,⟨ps++[bz ps 0],⟨by simp;omega,λb hb=>by rcases mA.1 hb with h9|h9;(·exact hP.bk b h9);(·simp only[List.mem_singleton] at h9;rw[h9];exact hP.bk _ (List.mem_of_getElem? (o3 om)))⟩,cD.none gP.wb⟩,hK⟩
 refine bA<|zr<|zm<|zA<|ag<|aV ?_
 exact⟨_,rfl,⟨ps,⟨by omega,hP.bk⟩,cD.none hG.wb⟩,hK⟩
end Go.Proofs.YtigijcjccmdmhaaGreatDoor
namespace Go.Proofs
open Go.Shelf
def Tryz.akm:Go.Shelf.Ren:=⟨fun|170=>164|n=>n,fun|70=>92|3=>3|0=>0|72=>94|37=>22|5=>5|n=>n,fun|n=>n⟩
theorem Tryz.akn:Go.Proofs.Lays.n170 Tryz.prog Tryz.akm:={
 mixed:=by kernel_rfl
 f170:=Tryz.func164.trans (congrArg some (by kernel_rfl))
 t0:=Tryz.underlying0
 a0:=Tryz.isAgg0
 z0:=Tryz.sizeOf0
 v0:=Tryz.zeroValue0
 t3:=Tryz.underlying3
 a3:=Tryz.isAgg3
 z3:=Tryz.sizeOf3
 v3:=Tryz.zeroValue3
 t37:=Tryz.underlying22
 a37:=Tryz.isAgg22
 z37:=Tryz.sizeOf22
 v37:=Tryz.zeroValue22
 t70:=Tryz.underlying92
 a70:=Tryz.isAgg92
 z70:=Tryz.sizeOf92
 v70:=Tryz.zeroValue92
 t72:=Tryz.underlying94
 a72:=Tryz.isAgg94
 z72:=Tryz.sizeOf94
 v72:=Tryz.zeroValue94}
def Tryz.Wm:Go.Shelf.Ren:=⟨fun|169=>74|n=>n,fun|70=>92|9=>9|0=>0|72=>94|37=>22|127=>120|3=>3|5=>5|n=>n,fun|n=>n⟩
theorem Tryz.ako:Go.Proofs.Lays.n169 Tryz.prog Tryz.Wm:={
 mixed:=by kernel_rfl
 f169:=Tryz.func74.trans (congrArg some (by kernel_rfl))
 t0:=Tryz.underlying0
 a0:=Tryz.isAgg0
 z0:=Tryz.sizeOf0
 v0:=Tryz.zeroValue0
 t3:=Tryz.underlying3
 a3:=Tryz.isAgg3
 z3:=Tryz.sizeOf3
 v3:=Tryz.zeroValue3
 t9:=Tryz.underlying9
 a9:=Tryz.isAgg9
 z9:=Tryz.sizeOf9
 v9:=Tryz.zeroValue9
 t37:=Tryz.underlying22
 a37:=Tryz.isAgg22
 z37:=Tryz.sizeOf22
 v37:=Tryz.zeroValue22
 t70:=Tryz.underlying92
 a70:=Tryz.isAgg92
 z70:=Tryz.sizeOf92
 v70:=Tryz.zeroValue92
 t72:=Tryz.underlying94
 a72:=Tryz.isAgg94
 z72:=Tryz.sizeOf94
 v72:=Tryz.zeroValue94
 t127:=Tryz.underlying120
 a127:=Tryz.isAgg120
 z127:=Tryz.sizeOf120
 v127:=Tryz.zeroValue120}
theorem Tryz.akp:Builder.Extra Tryz.prog Tryz.Wm:={
 sizeBuilder:=by kernel_rfl
 liesBuilder:=by kernel_rfl
 t5:=Tryz.underlying5
 a5:=Tryz.isAgg5
 z5:=Tryz.sizeOf5
 v5:=Tryz.zeroValue5
 infoByte:=by kernel_rfl
 cellsByte:=by kernel_rfl
 sizeByte:=by kernel_rfl
 neB5:=by decide}
def Tryz.Wn:Go.Shelf.Ren:=⟨fun|165=>163|240=>132|241=>193|276=>168|277=>207|n=>n,fun|70=>92|3=>3|0=>0|4=>4|9=>9|20=>20|72=>94|37=>22|164=>175|5=>5|n=>n,fun|n=>n⟩
theorem Tryz.akq:Go.Proofs.Lays.n165 Tryz.prog Tryz.Wn:={
 mixed:=by kernel_rfl
 f165:=Tryz.func163.trans (congrArg some (by kernel_rfl))
 f240:=Tryz.func132.trans (congrArg some (by kernel_rfl))
 f241:=Tryz.func193.trans (congrArg some (by kernel_rfl))
 f276:=Tryz.func168.trans (congrArg some (by kernel_rfl))
 f277:=Tryz.func207.trans (congrArg some (by kernel_rfl))
 t0:=Tryz.underlying0
 a0:=Tryz.isAgg0
 z0:=Tryz.sizeOf0
 v0:=Tryz.zeroValue0
 t3:=Tryz.underlying3
 a3:=Tryz.isAgg3
 z3:=Tryz.sizeOf3
 v3:=Tryz.zeroValue3
 t4:=Tryz.underlying4
 a4:=Tryz.isAgg4
 z4:=Tryz.sizeOf4
 v4:=Tryz.zeroValue4
 t9:=Tryz.underlying9
 a9:=Tryz.isAgg9
 z9:=Tryz.sizeOf9
 v9:=Tryz.zeroValue9
 t20:=Tryz.underlying20
 a20:=Tryz.isAgg20
 z20:=Tryz.sizeOf20
 v20:=Tryz.zeroValue20
 t37:=Tryz.underlying22
 a37:=Tryz.isAgg22
 z37:=Tryz.sizeOf22
 v37:=Tryz.zeroValue22
 t70:=Tryz.underlying92
 a70:=Tryz.isAgg92
 z70:=Tryz.sizeOf92
 v70:=Tryz.zeroValue92
 t72:=Tryz.underlying94
 a72:=Tryz.isAgg94
 z72:=Tryz.sizeOf94
 v72:=Tryz.zeroValue94
 t164:=Tryz.underlying175
 a164:=Tryz.isAgg175
 z164:=Tryz.sizeOf175
 v164:=Tryz.zeroValue175}
theorem Tryz.akr:Builder.Extra Tryz.prog Tryz.Wn:={
 sizeBuilder:=by kernel_rfl
 liesBuilder:=by kernel_rfl
 t5:=Tryz.underlying5
 a5:=Tryz.isAgg5
 z5:=Tryz.sizeOf5
 v5:=Tryz.zeroValue5
 infoByte:=by kernel_rfl
 cellsByte:=by kernel_rfl
 sizeByte:=by kernel_rfl
 neB5:=by decide}
open Go.RowKit in
theorem Tryz.Builder_Grow_fresh (B b n:Nat) (w:World) (hB:B<=b) (fz:w.heap[b]?=some (.cells #[.pointer none,.slice none 0 0] 94 (0,0))) (CX:B<=w.heap.size) (hn:n<=281474976710656):
  Calls Tryz.prog 163 #[.pointer (some ⟨b,0,none⟩),.int .i64 n] w λe w'=>e= .returned (.tuple #[])∧(Lib.BuilderAt 94 5 B b (.pointer (some ⟨b,0,none⟩)) [] w'∧Below B w w'):=Any.Builder_Grow_fresh Tryz.akq Tryz.akr B b n w hB fz CX hn
def Tryz.ao1:Go.Shelf.Ren:=⟨fun|210=>190|206=>131|n=>n,fun|9=>9|4=>4|3=>3|n=>n,fun|n=>n⟩
open Go.RowKit in
theorem Tryz.Builder_Len_f (B b:Nat) (bs:List Value) (w:World) (h:Lib.IsBuilderF 94 5 B b bs w):
  Calls Tryz.prog 164 #[.pointer (some ⟨b,0,none⟩)] w λe w'=>e= .returned (.int .i64 bs.length)∧w'=w:=Any.Builder_Len_f Tryz.akn B b bs w h
open Go.RowKit in
theorem Tryz.Builder_String_f (B b:Nat) (l:List UInt8) (w:World) (h:Lib.IsBuilderF 94 5 B b (Lib.byteCells l) w) (h0:l≠[]):
  Calls Tryz.prog 74 #[.pointer (some ⟨b,0,none⟩)] w λe w'=>e= .returned (.string ⟨l.toArray⟩)∧(Lib.IsBuilderF 94 5 B b (Lib.byteCells l) w'∧Below B w w'):=Any.Builder_String_f Tryz.ako Tryz.akp B b l w h h0
def Tryz.aks:Go.Shelf.Ren:=⟨fun|172=>130|244=>166|245=>167|247=>194|279=>195|280=>196|281=>197|282=>198|287=>208|316=>209|171=>173|205=>210|321=>213|322=>214|243=>200|246=>211|283=>215|284=>216|285=>217|286=>218|129=>220|317=>219|318=>221|319=>222|320=>223|337=>224|338=>225|n=>n,fun|9=>9|3=>3|75=>116|76=>117|4=>4|5=>5|167=>202|37=>22|0=>0|85=>203|2=>2|168=>205|53=>199|175=>216|46=>170|210=>219|127=>120|145=>226|143=>224|21=>21|171=>227|173=>230|212=>233|51=>196|20=>20|213=>234|232=>237|233=>238|80=>61|n=>n,fun|15=>0|16=>1|17=>3|18=>4|19=>5|n=>n⟩
theorem Tryz.akt:Go.Proofs.Lays.n172 Tryz.prog Tryz.aks:={
 mixed:=by kernel_rfl
 f129:=Tryz.func220.trans (congrArg some (by kernel_rfl))
 f171:=Tryz.func173.trans (congrArg some (by kernel_rfl))
 f172:=Tryz.func130.trans (congrArg some (by kernel_rfl))
 f205:=Tryz.func210.trans (congrArg some (by kernel_rfl))
 f243:=Tryz.func200.trans (congrArg some (by kernel_rfl))
 f244:=Tryz.func166.trans (congrArg some (by kernel_rfl))
 f245:=Tryz.func167.trans (congrArg some (by kernel_rfl))
 f246:=Tryz.func211.trans (congrArg some (by kernel_rfl))
 f247:=Tryz.func194.trans (congrArg some (by kernel_rfl))
 f279:=Tryz.func195.trans (congrArg some (by kernel_rfl))
 f280:=Tryz.func196.trans (congrArg some (by kernel_rfl))
 f281:=Tryz.func197.trans (congrArg some (by kernel_rfl))
 f282:=Tryz.func198.trans (congrArg some (by kernel_rfl))
 f283:=Tryz.func215.trans (congrArg some (by kernel_rfl))
 f284:=Tryz.func216.trans (congrArg some (by kernel_rfl))
 f285:=Tryz.func217.trans (congrArg some (by kernel_rfl))
 f286:=Tryz.func218.trans (congrArg some (by kernel_rfl))
 f287:=Tryz.func208.trans (congrArg some (by kernel_rfl))
 f316:=Tryz.func209.trans (congrArg some (by kernel_rfl))
 f317:=Tryz.func219.trans (congrArg some (by kernel_rfl))
 f318:=Tryz.func221.trans (congrArg some (by kernel_rfl))
 f319:=Tryz.func222.trans (congrArg some (by kernel_rfl))
 f320:=Tryz.func223.trans (congrArg some (by kernel_rfl))
 f321:=Tryz.func213.trans (congrArg some (by kernel_rfl))
 f322:=Tryz.func214.trans (congrArg some (by kernel_rfl))
 f337:=Tryz.func224.trans (congrArg some (by kernel_rfl))
 f338:=Tryz.func225.trans (congrArg some (by kernel_rfl))
 t0:=Tryz.underlying0
 a0:=Tryz.isAgg0
 z0:=Tryz.sizeOf0
 v0:=Tryz.zeroValue0
 t2:=Tryz.underlying2
 a2:=Tryz.isAgg2
 z2:=Tryz.sizeOf2
 v2:=Tryz.zeroValue2
 t3:=Tryz.underlying3
 a3:=Tryz.isAgg3
 z3:=Tryz.sizeOf3
 v3:=Tryz.zeroValue3
 t4:=Tryz.underlying4
 a4:=Tryz.isAgg4
 z4:=Tryz.sizeOf4
 v4:=Tryz.zeroValue4
 t5:=Tryz.underlying5
 a5:=Tryz.isAgg5
 z5:=Tryz.sizeOf5
 v5:=Tryz.zeroValue5
 t9:=Tryz.underlying9
 a9:=Tryz.isAgg9
 z9:=Tryz.sizeOf9
 v9:=Tryz.zeroValue9
 t20:=Tryz.underlying20
 a20:=Tryz.isAgg20
 z20:=Tryz.sizeOf20
 v20:=Tryz.zeroValue20
 t21:=Tryz.underlying21
 a21:=Tryz.isAgg21
 z21:=Tryz.sizeOf21
 v21:=Tryz.zeroValue21
 t37:=Tryz.underlying22
 a37:=Tryz.isAgg22
 z37:=Tryz.sizeOf22
 v37:=Tryz.zeroValue22
 t46:=Tryz.underlying170
 a46:=Tryz.isAgg170
 z46:=Tryz.sizeOf170
 v46:=Tryz.zeroValue170
 t51:=Tryz.underlying196
 a51:=Tryz.isAgg196
 z51:=Tryz.sizeOf196
 v51:=Tryz.zeroValue196
 t53:=Tryz.underlying199
 a53:=Tryz.isAgg199
 z53:=Tryz.sizeOf199
 v53:=Tryz.zeroValue199
 t75:=Tryz.underlying116
 a75:=Tryz.isAgg116
 z75:=Tryz.sizeOf116
 v75:=Tryz.zeroValue116
 t76:=Tryz.underlying117
 a76:=Tryz.isAgg117
 z76:=Tryz.sizeOf117
 v76:=Tryz.zeroValue117
 t85:=Tryz.underlying203
 a85:=Tryz.isAgg203
 z85:=Tryz.sizeOf203
 v85:=Tryz.zeroValue203
 t127:=Tryz.underlying120
 a127:=Tryz.isAgg120
 z127:=Tryz.sizeOf120
 v127:=Tryz.zeroValue120
 t143:=Tryz.underlying224
 a143:=Tryz.isAgg224
 z143:=Tryz.sizeOf224
 v143:=Tryz.zeroValue224
 t145:=Tryz.underlying226
 a145:=Tryz.isAgg226
 z145:=Tryz.sizeOf226
 v145:=Tryz.zeroValue226
 t167:=Tryz.underlying202
 a167:=Tryz.isAgg202
 z167:=Tryz.sizeOf202
 v167:=Tryz.zeroValue202
 t168:=Tryz.underlying205
 a168:=Tryz.isAgg205
 z168:=Tryz.sizeOf205
 v168:=Tryz.zeroValue205
 t171:=Tryz.underlying227
 a171:=Tryz.isAgg227
 z171:=Tryz.sizeOf227
 v171:=Tryz.zeroValue227
 t173:=Tryz.underlying230
 a173:=Tryz.isAgg230
 z173:=Tryz.sizeOf230
 v173:=Tryz.zeroValue230
 t175:=Tryz.underlying216
 a175:=Tryz.isAgg216
 z175:=Tryz.sizeOf216
 v175:=Tryz.zeroValue216
 t210:=Tryz.underlying219
 a210:=Tryz.isAgg219
 z210:=Tryz.sizeOf219
 v210:=Tryz.zeroValue219
 t212:=Tryz.underlying233
 a212:=Tryz.isAgg233
 z212:=Tryz.sizeOf233
 v212:=Tryz.zeroValue233
 t213:=Tryz.underlying234
 a213:=Tryz.isAgg234
 z213:=Tryz.sizeOf234
 t232:=Tryz.underlying237
 a232:=Tryz.isAgg237
 z232:=Tryz.sizeOf237
 v232:=Tryz.zeroValue237
 t233:=Tryz.underlying238
 a233:=Tryz.isAgg238
 z233:=Tryz.sizeOf238
 v233:=Tryz.zeroValue238
 g15:=by kernel_rfl
 g16:=by kernel_rfl
 g17:=by kernel_rfl
 g18:=by kernel_rfl
 g19:=by kernel_rfl}
open Go.RowKit in
theorem Tryz.strconv_Atoi (s:ByteArray) (n:Int) (hl:s.size<=18) (h:Lib.atoi s.data.toList=some n) (w:World):
  Calls Tryz.prog 130 #[.string s] w λe w'=>e= .returned (.tuple #[.int .i64 n,.nilIface])∧∃t,w'=Lib.bytesWorld w 5 t:=Any.strconv_Atoi Tryz.akt s n hl h w
def Tryz.aku:Go.Shelf.Ren:=⟨fun|99=>98|206=>131|n=>n,fun|9=>9|4=>4|3=>3|n=>n,fun|n=>n⟩
theorem Tryz.akv:Go.Proofs.Lays.n99 Tryz.prog Tryz.aku:={
 mixed:=by kernel_rfl
 f99:=Tryz.func98.trans (congrArg some (by kernel_rfl))
 f206:=Tryz.func131.trans (congrArg some (by kernel_rfl))
 t3:=Tryz.underlying3
 a3:=Tryz.isAgg3
 z3:=Tryz.sizeOf3
 v3:=Tryz.zeroValue3
 t4:=Tryz.underlying4
 a4:=Tryz.isAgg4
 z4:=Tryz.sizeOf4
 v4:=Tryz.zeroValue4
 t9:=Tryz.underlying9
 a9:=Tryz.isAgg9
 z9:=Tryz.sizeOf9
 v9:=Tryz.zeroValue9}
open Go.RowKit Go.Lib in
theorem Tryz.strings_HasPrefix (s p:ByteArray) (w:World):
  Calls Tryz.prog 98 #[.string s,.string p] w λe w'=>e= .returned (.bool (Lib.hasPrefix s.data.toList p.data.toList))∧w'=w:=Any.strings_HasPrefix Tryz.akv s p w
def Tryz.akw:Go.Shelf.Ren:=⟨fun|101=>128|208=>165|206=>131|n=>n,fun|9=>9|4=>4|3=>3|n=>n,fun|n=>n⟩
theorem Tryz.akx:Go.Proofs.Lays.n101 Tryz.prog Tryz.akw:={
 mixed:=by kernel_rfl
 f101:=Tryz.func128.trans (congrArg some (by kernel_rfl))
 f206:=Tryz.func131.trans (congrArg some (by kernel_rfl))
 f208:=Tryz.func165.trans (congrArg some (by kernel_rfl))
 t3:=Tryz.underlying3
 a3:=Tryz.isAgg3
 z3:=Tryz.sizeOf3
 v3:=Tryz.zeroValue3
 t4:=Tryz.underlying4
 a4:=Tryz.isAgg4
 z4:=Tryz.sizeOf4
 v4:=Tryz.zeroValue4
 t9:=Tryz.underlying9
 a9:=Tryz.isAgg9
 z9:=Tryz.sizeOf9
 v9:=Tryz.zeroValue9}
open Go.RowKit Go.Lib in
theorem Tryz.strings_TrimPrefix (s p:ByteArray) (w:World):
  Calls Tryz.prog 128 #[.string s,.string p] w λe w'=>e= .returned (.string ⟨(Lib.trimPrefix s.data.toList p.data.toList).toArray⟩)∧w'=w:=Any.strings_TrimPrefix Tryz.akx s p w
def Tryz.aky:Go.Shelf.Ren:=⟨fun|212=>162|263=>191|264=>192|n=>n,fun|46=>170|51=>196|146=>197|53=>199|148=>200|n=>n,fun|n=>n⟩
theorem Tryz.akz:Go.Proofs.Lays.n212 Tryz.prog Tryz.aky:={
 mixed:=by kernel_rfl
 f212:=Tryz.func162.trans (congrArg some (by kernel_rfl))
 f263:=Tryz.func191.trans (congrArg some (by kernel_rfl))
 f264:=Tryz.func192.trans (congrArg some (by kernel_rfl))
 t46:=Tryz.underlying170
 a46:=Tryz.isAgg170
 z46:=Tryz.sizeOf170
 v46:=Tryz.zeroValue170
 t51:=Tryz.underlying196
 a51:=Tryz.isAgg196
 z51:=Tryz.sizeOf196
 v51:=Tryz.zeroValue196
 t53:=Tryz.underlying199
 a53:=Tryz.isAgg199
 z53:=Tryz.sizeOf199
 v53:=Tryz.zeroValue199
 t146:=Tryz.underlying197
 a146:=Tryz.isAgg197
 z146:=Tryz.sizeOf197
 v146:=Tryz.zeroValue197
 t148:=Tryz.underlying200
 a148:=Tryz.isAgg200
 z148:=Tryz.sizeOf200
 v148:=Tryz.zeroValue200}
open Go.RowKit Go.Lib in
theorem Tryz.bits_Mul (x y:Nat) (hx:x<18446744073709551616) (hy:y<18446744073709551616) (w:World):
  Calls Tryz.prog 162 #[.int .u64 x,.int .u64 y] w λe w'=>e= .returned (.tuple #[.int .u64 ((x*y/18446744073709551616:Nat):Int),.int .u64 ((x*y%18446744073709551616:Nat):Int)])∧w'=w:=Any.bits_Mul Tryz.akz x y hx hy w
def Tryz.Wo:Go.Shelf.Ren:=⟨fun|166=>101|240=>132|276=>168|n=>n,fun|70=>92|3=>3|0=>0|4=>4|9=>9|20=>20|72=>94|37=>22|164=>175|5=>5|75=>116|80=>61|n=>n,fun|n=>n⟩
theorem Tryz.akA:Go.Proofs.Lays.n166 Tryz.prog Tryz.Wo:={
 mixed:=by kernel_rfl
 f166:=Tryz.func101.trans (congrArg some (by kernel_rfl))
 f240:=Tryz.func132.trans (congrArg some (by kernel_rfl))
 f276:=Tryz.func168.trans (congrArg some (by kernel_rfl))
 t0:=Tryz.underlying0
 a0:=Tryz.isAgg0
 z0:=Tryz.sizeOf0
 v0:=Tryz.zeroValue0
 t3:=Tryz.underlying3
 a3:=Tryz.isAgg3
 z3:=Tryz.sizeOf3
 v3:=Tryz.zeroValue3
 t4:=Tryz.underlying4
 a4:=Tryz.isAgg4
 z4:=Tryz.sizeOf4
 v4:=Tryz.zeroValue4
 t9:=Tryz.underlying9
 a9:=Tryz.isAgg9
 z9:=Tryz.sizeOf9
 v9:=Tryz.zeroValue9
 t20:=Tryz.underlying20
 a20:=Tryz.isAgg20
 z20:=Tryz.sizeOf20
 v20:=Tryz.zeroValue20
 t37:=Tryz.underlying22
 a37:=Tryz.isAgg22
 z37:=Tryz.sizeOf22
 v37:=Tryz.zeroValue22
 t70:=Tryz.underlying92
 a70:=Tryz.isAgg92
 z70:=Tryz.sizeOf92
 v70:=Tryz.zeroValue92
 t72:=Tryz.underlying94
 a72:=Tryz.isAgg94
 z72:=Tryz.sizeOf94
 v72:=Tryz.zeroValue94
 t164:=Tryz.underlying175
 a164:=Tryz.isAgg175
 z164:=Tryz.sizeOf175
 v164:=Tryz.zeroValue175
 t75:=Tryz.underlying116
 a75:=Tryz.isAgg116
 z75:=Tryz.sizeOf116
 v75:=Tryz.zeroValue116}
theorem Tryz.akB:Builder.Extra Tryz.prog Tryz.Wo:={
 sizeBuilder:=by kernel_rfl
 liesBuilder:=by kernel_rfl
 t5:=Tryz.underlying5
 a5:=Tryz.isAgg5
 z5:=Tryz.sizeOf5
 v5:=Tryz.zeroValue5
 infoByte:=by kernel_rfl
 cellsByte:=by kernel_rfl
 sizeByte:=by kernel_rfl
 neB5:=by decide}
open Go.RowKit in
theorem Tryz.Builder_WriteString_f (B b:Nat) (bs:List Value) (s:ByteArray) (w:World) (h:Lib.IsBuilderF 94 5 B b bs w) (hlen:bs.length+s.size<=140737488355328) (CX:B<=w.heap.size):
  Calls Tryz.prog 101 #[.pointer (some ⟨b,0,none⟩),.string s] w λe w'=>e= .returned (.tuple #[.int .i64 s.size,.nilIface])∧(Lib.BuilderAtF 94 5 B b (.pointer (some ⟨b,0,none⟩)) (bs++Lib.strCells s) w'∧Below B w w'):=Any.Builder_WriteString_f Tryz.akA Tryz.akB B b bs s w h hlen CX
end Go.Proofs
namespace Go.Proofs.YtigijcjccmdmhaaGreatDoor
open Go
variable {w w':World} {B b b6 b7 i q q':Nat} {L:List Nat} {v v1 v2:Value} {g g1 g2:Option Nat} {gss:List (Option Nat×Option Nat)} {vss:List (List Value)} {bs:List Bk} {xs ys:List aj}
theorem akC (s p:aj) (w:World):bZ Tryz.prog 98 [str s,str p] w λv w'=>v= .bool (Lib.hasPrefix s p)∧w=w':=
 ⟨tg.mk' Tryz.func98 rfl ZW,Calls.mono (Tryz.strings_HasPrefix ⟨s.toArray⟩ ⟨p.toArray⟩ w) λe w' ⟨he,hw⟩=>⟨_,he,sm,hw.symm⟩⟩
theorem akD (s p:aj) (w:World):bZ Tryz.prog 128 [str s,str p] w λv w'=>v=str (Lib.trimPrefix s p)∧w=w':=
 ⟨tg.mk' Tryz.func128 rfl Ye,Calls.mono (Tryz.strings_TrimPrefix ⟨s.toArray⟩ ⟨p.toArray⟩ w) λe w' ⟨he,hw⟩=>⟨_,he,by simp[str],hw.symm⟩⟩
theorem akE (w:World) (o:Obj) (a:Addr) (n:Nat) (ha:a.block=w.heap.size):ak [] w ((w.alloc o).freeze a n):=by
 unfold World.freeze
 split
 ·exact ak.alloc [] w o
 ·refine⟨rfl,rfl,rfl,?_,λk hk _=>?_⟩
  ·show w.heap.size<=Array.size (Array.modify (w.alloc o).heap _ _)
   rw[Array.size_modify];exact(ak.alloc [] w o).size
  ·show(Array.modify (w.alloc o).heap _ _)[k]?=_
   rw[Array.getElem?_modify,iN (by rw[ha];omega)];exact(ak.alloc [] w o).block k hk sm
theorem akF (w:World) (e:TypeId) (s:ByteArray):ak [] w (Lib.bytesWorld w e s):=
 (ak.drew [] w).trans (akE _ _ _ _ rfl)
theorem akG (s:aj) {z:Int} (h:numeral s=some z) (w:World):bZ Tryz.prog 130 [str s] w λv w'=>v= .tuple #[.int .i64 z,.nilIface]∧ak [] w w':=
 ⟨tg.mk' Tryz.func130 rfl Yh,Calls.mono (Tryz.strconv_Atoi ⟨s.toArray⟩ z (by have:=QQ h;simp[ByteArray.size];omega) (by simpa using aaO h) w) λe w' ⟨he,t,hw⟩=>⟨_,he,rfl,by rw[hw];exact akF _ _ _⟩⟩
theorem Ka (a b c:Int) (w:World):bZ Tryz.prog 52 [.int .i64 a,.int .i64 b,.int .i64 c] w λv w'=>v= .bool (decide (b<=a)&&decide (a<=c))∧w=w':=by
 refine cU [.tmp 6] 15 Tryz.func52 rfl Zn rfl rfl ?_
 refine zr<|zA<|ag<|zr<|zm<|zm<|qN rfl rfl rfl rfl rfl<|zm ?_
 apply fU 4 10 14 [10,11,12,13,14] (λw'=>w=w') rfl
 intro h1
 replace h1:=bu h1
 refine zm<|zm<|qN rfl rfl rfl rfl rfl<|zp rfl<|ag ?_
 exact mg rfl rfl
 intro h1
 replace h1:=bu h1
 refine zs<|zs<|zs<|zp rfl<|ag ?_
 exact mg rfl rfl
 rintro xx _ rfl
 refine zA<|ag<|aV ?_
 exact⟨_,rfl,rfl,rfl⟩
theorem akH (c:UInt8) (w:World):bZ Tryz.prog 99 [.int .u8 c.toNat] w λv w'=>v= .bool (fB c)∧w=w':=by
 refine cU [.tmp 2] 33 Tryz.func99 rfl ZX rfl rfl ?_
 refine zr<|zA<|ag<|zr<|zm<|lU rfl rfl rfl rfl rfl<|zm ?_
 apply fU 3 5 8 [5,6,7,8] (λw'=>w=w') rfl
 intro h1
 replace h1:=bu h1
 refine zm<|qN rfl rfl rfl rfl rfl<|zp rfl<|ag ?_
 exact mg rfl rfl
 intro h1
 replace h1:=bu h1
 refine zs<|zs<|zp rfl<|ag ?_
 exact mg rfl rfl
 rintro xx _ rfl
 refine zm ?_
 apply fo 7 9 16 [9,10,11,12,13,14,15,16] (λw'=>w=w') rfl
 intro h2
 replace h2:=bu h2
 refine zs<|zs<|zs<|zs<|zs<|zs<|zp rfl<|ag ?_
 exact mg rfl rfl
 intro h2
 replace h2:=bu h2
 refine zm<|lU rfl rfl rfl rfl rfl<|zm ?_
 apply fU 3 12 15 [12,13,14,15] (λw'=>w=w') rfl
 intro h3
 replace h3:=bu h3
 refine zm<|qN rfl rfl rfl rfl rfl<|zp rfl<|ag ?_
 exact mg rfl rfl
 intro h3
 replace h3:=bu h3
 refine zs<|zs<|zp rfl<|ag ?_
 exact mg rfl rfl
 rintro xx _ rfl
 refine zp rfl<|ag ?_
 exact mg rfl rfl
 rintro xx _ rfl
 refine zm ?_
 apply fo 3 17 20 [17,18,19,20] (λw'=>w=w') rfl
 intro h4
 replace h4:=bu h4
 refine zs<|zs<|zp rfl<|ag ?_
 exact mg rfl rfl
 intro h4
 replace h4:=bu h4
 refine zm<|dO rfl rfl rfl<|zp rfl<|ag ?_
 exact mg rfl rfl
 rintro xx _ rfl
 refine zm ?_
 apply fo 3 21 24 [21,22,23,24] (λw'=>w=w') rfl
 intro h5
 replace h5:=bu h5
 refine zs<|zs<|zp rfl<|ag ?_
 exact mg rfl rfl
 intro h5
 replace h5:=bu h5
 refine zm<|dO rfl rfl rfl<|zp rfl<|ag ?_
 exact mg rfl rfl
 rintro xx _ rfl
 refine zm ?_
 apply fo 3 25 28 [25,26,27,28] (λw'=>w=w') rfl
 intro h6
 replace h6:=bu h6
 refine zs<|zs<|zp rfl<|ag ?_
 exact mg rfl rfl
 intro h6
 replace h6:=bu h6
 refine zm<|dO rfl rfl rfl<|zp rfl<|ag ?_
 exact mg rfl rfl
 rintro xx _ rfl
 refine zm ?_
 apply fo 3 29 32 [29,30,31,32] (λw'=>w=w') rfl
 intro h7
 replace h7:=bu h7
 refine zs<|zs<|zp rfl<|ag ?_
 exact mg rfl rfl
 intro h7
 replace h7:=bu h7
 refine zm<|dO rfl rfl rfl<|zp rfl<|ag ?_
 exact mg rfl rfl
 rintro xx _ rfl
 refine zA<|ag<|aV ?_
 exact⟨_,rfl,congrArg Value.bool (PG c),rfl⟩
theorem akI (s:aj) (hs:s.length<9223372036854775807) (w:World):bZ Tryz.prog 129 [str s] w λv w'=>v= .bool (s.all ij)∧w=w':=by
 refine cU [.tmp 2] 20 Tryz.func129 rfl Yf rfl rfl ?_
 refine zr<|zA<|ag<|aQ<|zr<|zm<|kL fc rfl rfl rfl<|zm<|ag<|cP ?_
 refine fZ (λk:Nat=>[(0,str s),(5,.int .i64 (s.length:Int)),(6,.int .i64 (k:Int))]) (λk w'=>w'=w∧k<=s.length∧(s.take k).all ij=true) (λk=>s.length-k) (0) (⟨rfl,rfl,rfl⟩) (⟨rfl,om,sm⟩) ?_
 intro gg w1 e1 hI
 obtain⟨rfl,hk,dA⟩:=hI
 refine zr<|fJ rfl rfl rfl<|ag<|aQ<|zc rfl (λh1=>?_) (λh1=>?_)
 have eU:gg<s.length:=by omega
 refine bA<|aQ<|cP<|zr<|zm<|zA<|ag<|zr<|zm<|zm<|kC fc rfl rfl rfl rfl (jH eU)<|fJ rfl rfl rfl<|zm ?_
 apply fo 5 13 18 [13,14,15,16,17,18] (λw'=>w1=w') rfl
 intro h2
 replace h2:=bu h2
 refine zs<|zs<|zs<|zs<|zp rfl<|ag ?_
 exact mg rfl rfl
 intro h2
 replace h2:=bu h2
 refine zm<|zm<|kC fc rfl rfl rfl rfl (jH eU)<|jx rfl rfl rfl rfl rfl<|zp rfl<|ag ?_
 exact mg rfl rfl
 rintro xx _ rfl
 refine ag<|zc rfl (λh3=>?_) (λh3=>?_)
 have hq:s.all ij=false:=aaR eU (Qe h3)
 refine zr<|zA<|ag<|aV ?_
 exact⟨_,rfl,by rw[hq];rfl,rfl⟩
 have hc:=Qf h3
 refine bA<|db<|eE rfl rfl rfl (wrap_i64 _ om om)<|zm<|ag ?_
 exact⟨gg+1,⟨rfl,rfl,rfl⟩,⟨rfl,om,by rw[KV eU,List.all_append,dA];simp only[List.all_cons,hc.2.2];rfl⟩,om⟩
 have hq:s.all ij=true:=by rw[List.take_of_length_le om] at dA;exact dA
 refine gF<|gH rfl<|zr<|zA<|ag<|aV ?_
 exact⟨_,rfl,by rw[hq];rfl,rfl⟩
theorem Pj (s:aj) (hs:s.length<9223372036854775807) (w:World):bZ Tryz.prog 94 [str s] w λv w'=>v= .bool (numeral s).isSome∧w=w':=by
 have hl:(eD s).length<=s.length:=by unfold eD;split<;>simp
 refine cU [.tmp 2] 22 Tryz.func94 rfl ZT rfl rfl ?_
 refine zr<|zA<|ag<|zr<|zm<|aC (akD _ _ _) ?_
 rintro _ _ ⟨rfl,rfl⟩
 refine zA<|ag<|zr<|zm<|cW rfl rfl<|zm ?_
 rw[aaM]
 apply fo 13 8 21 [8,9,10,11,12,13,14,15,16,17,18,19,20,21] (λw'=>w=w') rfl
 intro h1
 replace h1:=bu h1
 refine zs<|zs<|zs<|zs<|zs<|zs<|zs<|zs<|zs<|zs<|zs<|zs<|zp rfl<|ag ?_
 exact mg rfl rfl
 intro h1
 replace h1:=bu h1
 refine zm<|kL fc rfl rfl rfl<|aC (Ka _ _ _ _) ?_
 rintro _ _ ⟨rfl,rfl⟩
 refine zm ?_
 apply fU 3 12 15 [12,13,14,15] (λw'=>w=w') rfl
 intro h2
 replace h2:=bu h2
 refine zm<|aC (akI _ om _) ?_
 rintro _ _ ⟨rfl,rfl⟩
 refine zp rfl<|ag ?_
 exact mg rfl rfl
 intro h2
 replace h2:=bu h2
 refine zs<|zs<|zp rfl<|ag ?_
 exact mg rfl rfl
 rintro xx _ rfl
 refine zm ?_
 apply fU 4 16 20 [16,17,18,19,20] (λw'=>w=w') rfl
 intro h3
 replace h3:=bu h3
 simp at h3
 refine zm<|kC (i:=0) fc rfl rfl rfl rfl (jH om)<|ur rfl rfl rfl rfl rfl<|zp rfl<|ag ?_
 exact mg rfl rfl
 intro h3
 replace h3:=bu h3
 refine zs<|zs<|zs<|zp rfl<|ag ?_
 exact mg rfl rfl
 rintro xx _ rfl
 refine zp rfl<|ag ?_
 exact mg rfl rfl
 rintro xx _ rfl
 refine zA<|ag<|aV ?_
 exact⟨_,rfl,show Value.bool _=Value.bool _ from congrArg _ (aaS s),rfl⟩
theorem Wp (s:aj) {z:Int} (h:numeral s=some z) (w:World):bZ Tryz.prog 95 [str s] w λv w'=>v= .int .i64 z∧ak [] w w':=by
 have hK:=ak.refl [] w
 refine cU [.tmp 2] 11 Tryz.func95 rfl ZU rfl rfl ?_
 refine zr<|zA<|ag<|zr<|zm<|aC (akG s h w) ?_
 rintro v1 w1 ⟨fO,aJ⟩
 have dy:=aJ.size
 have hK:=hK.ext aJ
 obtain rfl:=fO
 refine zm<|zx (i:=0) rfl rfl<|zx (i:=1) rfl rfl<|zA<|zA<|ag<|zr<|zm<|zA<|ag<|aV ?_
 exact⟨_,rfl,rfl,hK⟩
theorem akJ (s:aj) (hs:s.length<9223372036854775807) (w:World):bZ Tryz.prog 93 [str s] w λv w'=>v= .bool (uG s)∧ak [] w w':=by
 have hK:=ak.refl [] w
 refine cU [.tmp 2] 10 Tryz.func93 rfl ZS rfl rfl ?_
 refine zr<|zA<|ag<|zr<|zm<|aC (Pj s hs _) ?_
 rintro _ _ ⟨rfl,rfl⟩
 refine zm ?_
 apply fU 4 5 9 [5,6,7,8,9] (ak [] w) rfl
 intro h1
 replace h1:=bu h1
 have uV:=ak.refl [] w
 obtain⟨z,hz⟩:=Option.isSome_iff_exists.1 h1
 have Gl:z=(numeral s).getD 0:=by rw[hz];rfl
 refine zm<|aC (Wp s hz w) ?_
 rintro v1 w1 ⟨fO,aJ⟩
 have dy:=aJ.size
 have uV:=uV.ext aJ
 obtain rfl:=fO
 rw[Gl]
 refine aC (Ka _ _ _ _) ?_
 rintro _ _ ⟨rfl,rfl⟩
 refine zp rfl<|ag ?_
 exact mg rfl uV
 intro h1
 replace h1:=bu h1
 have uV:=ak.refl [] w
 refine zs<|zs<|zs<|zp rfl<|ag ?_
 exact mg rfl uV
 intro xx w1 aJ
 have hK:=hK.ext aJ
 refine zA<|ag<|aV ?_
 exact⟨_,rfl,show Value.bool _=Value.bool _ from congrArg _ (aaQ s),hK⟩
theorem Wq (s:aj) (hs:s.length<9223372036854775807) (w:World):bZ Tryz.prog 59 [str s] w λr w'=>r= .bool (nO s)∧w=w':=by
 refine cU [.tmp 2] 35 Tryz.func59 rfl Zu rfl rfl ?_
 refine zr<|zA<|ag<|aQ<|zr<|zm<|kL fc rfl rfl rfl<|zm<|ag<|cP ?_
 refine fZ (λk:Nat=>[(0,str s),(6,.int .i64 (s.length:Int)),(7,.int .i64 (k:Int))]) (λk w'=>w'=w∧k<=s.length∧∀j,j<k->Bx s j=true) (λk=>s.length-k) (0) (⟨rfl,rfl,rfl⟩) (⟨rfl,om,by intro j hj;omega⟩) ?_
 intro gg w1 e1 hI
 obtain⟨rfl,hk,dA⟩:=hI
 refine zr<|fJ rfl rfl rfl<|ag<|aQ<|zc rfl (λh1=>?_) (λh1=>?_)
 refine bA<|aQ<|cP<|zr<|zm<|zA<|ag<|zr<|zm<|zm<|kC fc rfl rfl rfl rfl (jH om)<|zA<|ag<|zr<|zm<|lU rfl rfl rfl rfl rfl<|zm ?_
 apply fU 3 15 18 [15,16,17,18] (λw'=>w1=w') rfl
 intro h2
 replace h2:=bu h2
 refine zm<|qN rfl rfl rfl rfl rfl<|zp rfl<|ag ?_
 exact mg rfl rfl
 intro h2
 replace h2:=bu h2
 refine zs<|zs<|zp rfl<|ag ?_
 exact mg rfl rfl
 rintro xx _ rfl
 refine zm ?_
 apply fo 11 19 30 [19,20,21,22,23,24,25,26,27,28,29,30] (λw'=>w1=w') rfl
 intro h3
 replace h3:=bu h3
 refine zs<|zs<|zs<|zs<|zs<|zs<|zs<|zs<|zs<|zs<|zp rfl<|ag ?_
 exact mg rfl rfl
 intro h3
 replace h3:=bu h3
 refine zm<|jx rfl rfl rfl rfl rfl<|zm ?_
 apply fU 3 22 25 [22,23,24,25] (λw'=>w1=w') rfl
 intro h4
 replace h4:=bu h4
 refine zm<|lU rfl rfl rfl rfl rfl<|zp rfl<|ag ?_
 exact mg rfl rfl
 intro h4
 replace h4:=bu h4
 refine zs<|zs<|zp rfl<|ag ?_
 exact mg rfl rfl
 rintro xx _ rfl
 refine zm ?_
 apply fU 3 26 29 [26,27,28,29] (λw'=>w1=w') rfl
 intro h5
 replace h5:=bu h5
 refine zm<|qN rfl rfl rfl rfl rfl<|zp rfl<|ag ?_
 exact mg rfl rfl
 intro h5
 replace h5:=bu h5
 refine zs<|zs<|zp rfl<|ag ?_
 exact mg rfl rfl
 rintro xx _ rfl
 refine zp rfl<|ag ?_
 exact mg rfl rfl
 rintro xx _ rfl
 refine eH rfl<|ag<|zc rfl (λh6=>?_) (λh6=>?_)
 rw[HM] at h6
 refine zr<|zA<|ag<|aV ?_
 exact⟨_,rfl,by rw[Qa om h6];rfl,rfl⟩
 rw[HM] at h6
 refine bA<|db<|eE rfl rfl rfl (wrap_i64 _ om om)<|zm<|ag ?_
 exact⟨gg+1,⟨rfl,rfl,rfl⟩,⟨rfl,om,Qc dA h6⟩,om⟩
 refine gF<|gH rfl<|zr<|zm<|jF rfl rfl rfl rfl<|zA<|ag<|aV ?_
 exact⟨_,rfl,by rw[Qb (λj hj=>dA j om)];rfl,rfl⟩
theorem Wr (t:aA) (v:Value) (L:List Nat) (w:World) (hv:bS L w v t):bZ Tryz.prog 65 [v] w λr w'=>r= .bool (decide (t.au.length=0))∧ak [] w w':=by
 obtain⟨a,n,c,rfl,hn,bc⟩:=dN hv
 have hK:=ak.refl [] w
 refine cU [.tmp 2] 7 Tryz.func65 rfl Zz rfl rfl ?_
 refine zr<|fA rfl ?_
 intro w1 aJ aU dV
 have hK:=hK.ext aJ
 refine zA<|ag<|zr<|zf uC rfl<|zl sr rfl (aU.at rfl)<|eh nM rfl<|dO rfl rfl rfl<|zA<|ag<|aV ?_
 exact⟨_,rfl,show Value.bool _=Value.bool _ from congrArg _ (decide_eq_decide.2 om),hK⟩
theorem Hl (t:aA) (dx:WF t) (v:Value) (L:List Nat) (w:World) (hv:bS L w v t):bZ Tryz.prog 35 [v] w λr w'=>r=str (cI t)∧ak [] w w':=by
 have dI:=hv
 obtain⟨a,n,c,rfl,hn,bc⟩:=dN hv
 have hK:=ak.refl [] w
 refine cU [.tmp 2] 10 Tryz.func35 rfl Zf rfl rfl ?_
 refine zr<|fA rfl ?_
 intro w1 aJ aU dV
 have hK:=hK.ext aJ;have bc:=bc.ext aJ;have dI:=dI.ext aJ
 refine zA<|ag<|aQ<|zr<|zL j9 fb rfl aU.all rfl<|aC (Wr t _ L w1 dI) ?_
 rintro v2 w2 ⟨dz,aq⟩
 have dR:=aq.size
 have hK:=hK.ext aq;have bc:=bc.ext aq;have aU:=aU.ext aq
 obtain rfl:=dz
 refine ag<|zc rfl (λh1=>?_) (λh1=>?_)
 have hh:cI t=[]:=Dg (.inr (List.length_eq_zero_iff.1 h1))
 refine zr<|zA<|ag<|aV ?_
 exact⟨_,rfl,by rw[hh];rfl,hK⟩
 have kR:0<t.au.length:=by omega
 have ha:t.az=[]:=Classical.byContradiction (λh=>by have:=dx.leaf h;rw[this] at kR;exact absurd kR de)
 have mV:=iM kR
 have hh:cI t=(nth t.au 0).az:=E7 ha mV
 obtain⟨b,off,pa,pn,pc,rfl,er,fR,iy⟩:=j8 bc mV
 refine bA<|zr<|zf uC rfl<|zl sr rfl (aU.at rfl)<|zi (i:=0) nM fb rfl rfl (by rw[hn];exact kR)<|zf zF rfl<|zl cg rfl (er 0 _ rfl)<|zA<|ag<|aV ?_
 exact⟨_,rfl,by rw[hh];rfl,hK⟩
theorem akK (t:aA) (dx:WF t) (h:aj) (k:Int) (v:Value) (L:List Nat) (w:World) (hv:bS L w v t):
  bZ Tryz.prog 36 [v,str h,.int .i64 k] w λr w'=>r= .bool (decide ((t.au.length:Int)=k)&&decide (cI t=h))∧ak [] w w':=by
 have dI:=hv
 obtain⟨a,n,c,rfl,hn,bc⟩:=dN hv
 have hK:=ak.refl [] w
 subst hn
 refine cU [.tmp 6] 18 Tryz.func36 rfl Zg rfl rfl ?_
 refine zr<|fA rfl ?_
 intro w1 aJ bO dV
 have hK:=hK.ext aJ;have dI:=dI.ext aJ
 refine zA<|ag<|zr<|zf uC rfl<|zl sr rfl (bO.at rfl)<|eh nM rfl<|zm<|dO rfl rfl rfl<|zm ?_
 apply fU 5 12 17 [12,13,14,15,16,17] (ak [] w1) rfl
 intro h1
 replace h1:=bu h1
 have Hm:=ak.refl [] w1
 refine zL j9 fb rfl bO.all rfl<|aC (Hl t dx _ L w1 dI) ?_
 rintro v2 w2 ⟨dz,aq⟩
 have dR:=aq.size
 have Hm:=Hm.ext aq
 obtain rfl:=dz
 refine zm<|cW rfl rfl<|zp rfl<|ag ?_
 exact mg rfl Hm
 intro h1
 replace h1:=bu h1
 have Hm:=ak.refl [] w1
 refine zs<|zs<|zs<|zs<|zp rfl<|ag ?_
 exact mg rfl Hm
 intro xx w2 aq
 have hK:=hK.ext aq
 refine zA<|ag<|aV ?_
 exact⟨_,rfl,rfl,hK⟩
theorem akL (ts:List aA) (hlen:ts.length<1000000000) (g:aA->Bool) (f:FuncId) (caps:List Value) (v:Value) (L:List Nat) (w:World) (hv:fG L w v ts) 
  (hf:∀i,i<ts.length->∀(u:Value) (w':World),ak [] w w'->bS L w' u (nth ts i)->bZ Tryz.prog f (u::caps) w' λr w''=>r= .bool (g (nth ts i))∧ak [] w' w''):
  bZ Tryz.prog 161 [v,.func (.func f) #[] caps.toArray] w λr w'=>r= .int .i64 (BD ts g)∧ak [] w w':=by
 obtain⟨a,c,rfl,hlc⟩:=rK hv
 have oT:(dG ts).length=ts.length:=iJ ts
 have hK:=ak.refl [] w
 refine cU [.tmp 4] 19 Tryz.func161 rfl YF rfl rfl ?_
 refine zr<|zA<|ag<|aQ<|zr<|zm<|eh nM rfl<|zm<|ag<|cP ?_
 refine fZ (λk:Nat=>[(0,.slice a (dG ts).length c),(1,.func (.func f) #[] caps.toArray),(7,.int .i64 ((dG ts).length:Int)),(8,.int .i64 (k:Int))]) (λk w'=>ak [] w w'∧k<=ts.length∧∀i,i<k->g (nth ts i)=false) (λk=>ts.length-k) (0) (⟨rfl,rfl,rfl,rfl⟩) (⟨hK,om,by intro i hi;omega⟩) ?_
 intro gg w1 e1 hI
 obtain⟨hK,hk,dA⟩:=hI
 have hv:=hv.ext hK
 refine zr<|fJ rfl rfl rfl<|ag<|aQ<|zc rfl (λh1=>?_) (λh1=>?_)
 have hp:=iM (ps:=ts) (i:=gg) om
 obtain⟨b,off,pa,pn,pc,rfl,hc,fR,iy⟩:=j8 hv hp
 refine bA<|aQ<|cP<|zr<|zm<|zA<|ag<|zr<|zm<|zm<|zm<|zi nM fb rfl rfl om<|zL j9 fb rfl hc rfl<|PS rfl rfl rfl (hf gg om _ w1 hK (mS iy)) ?_
 rintro v2 w2 ⟨dz,aq⟩
 have dR:=aq.size
 have hK:=hK.ext aq
 obtain rfl:=dz
 refine ag<|zc rfl (λh2=>?_) (λh2=>?_)
 have hq:=aaT om dA h2
 refine zr<|zm<|zA<|ag<|aV ?_
 exact⟨_,rfl,by rw[hq];rfl,hK⟩
 refine bA<|db<|eE rfl rfl rfl (wrap_i64 _ om om)<|zm<|ag ?_
 exact⟨gg+1,⟨rfl,rfl,rfl,rfl⟩,⟨hK,om,by intro i hi;rcases Nat.lt_or_ge i gg with h|h;exact dA i h;rw[show i=gg by omega];exact h2⟩,om⟩
 have hq:=aaU (λi hi=>dA i om)
 refine gF<|gH rfl<|zr<|zA<|ag<|aV ?_
 exact⟨_,rfl,by rw[hq];rfl,hK⟩
theorem akM (ts:List aA) (hlen:ts.length<1000000000) (g:aA->Bool) (f:FuncId) (caps:List Value) (v:Value) (L:List Nat) (w:World) (hv:fG L w v ts) 
  (hf:∀i,i<ts.length->∀(u:Value) (w':World),ak [] w w'->bS L w' u (nth ts i)->bZ Tryz.prog f (u::caps) w' λr w''=>r= .bool (g (nth ts i))∧ak [] w' w''):
  bZ Tryz.prog 125 [v,.func (.func f) #[] caps.toArray] w λr w'=>r= .bool (ts.any g)∧ak [] w w':=by
 have hK:=ak.refl [] w
 refine cU [.tmp 4] 9 Tryz.func125 rfl Yb rfl rfl ?_
 refine zr<|zA<|ag<|zr<|zm<|zm<|aC (akL ts hlen g f caps _ L w hv hf) ?_
 rintro v1 w1 ⟨fO,aJ⟩
 have dy:=aJ.size
 have hK:=hK.ext aJ
 obtain rfl:=fO
 refine lU rfl rfl rfl rfl rfl<|zA<|ag<|aV ?_
 exact⟨_,rfl,congrArg Value.bool (aaV ts g),hK⟩
def Ws (m:Nat):Prop:=∀(t:aA),t.size<=m->t.size<=100000->WF t->∀(hidden:Bool) (v:Value) (L:List Nat) (w:World),bS L w v t->
  bZ Tryz.prog 91 [v,.bool hidden,.bool false] w λr w'=>r= .bool (fC hidden t)∧ak [] w w'
theorem akN {m:Nat} (ih:Ws m) (t:aA) (h:t.size<=m) (h2:t.size<=100000) (dx:WF t) (hidden:Bool) (b1 b2:Nat) (v:Value) (L:List Nat) (w:World) (hv:bS L w v t) 
  (aU:aY w b1 #[.bool hidden] 4) (aZ:aY w b2 #[.bool false] 4):
  bZ Tryz.prog 126 [v,.pointer (some ⟨b1,0,none⟩),.pointer (some ⟨b2,0,none⟩)] w λr w'=>r= .bool (!fC hidden t)∧ak [] w w':=by
 have dI:=hv
 obtain⟨a,n,c,rfl,hn,bc⟩:=dN hv
 have hK:=ak.refl [] w
 refine cU [.tmp 4] 10 Tryz.func126 rfl Yc rfl rfl ?_
 refine zr<|fA rfl ?_
 intro w1 aJ bO dV
 have hK:=hK.ext aJ;have dI:=dI.ext aJ;have aU:=aU.ext aJ;have aZ:=aZ.ext aJ
 refine zA<|ag<|zr<|zL j9 fb rfl bO.all rfl<|zl Dd rfl (aU.at rfl)<|zl Dd rfl (aZ.at rfl)<|aC (ih t h h2 dx hidden _ L w1 dI) ?_
 rintro v2 w2 ⟨dz,aq⟩
 have dR:=aq.size
 have hK:=hK.ext aq
 obtain rfl:=dz
 refine eH rfl<|zA<|ag<|aV ?_
 exact⟨_,rfl,rfl,hK⟩
theorem akO {off n c:Nat} {ts:List aA} (h:fG L w (.slice (some ⟨b,off,none⟩) n c) ts) (k:Nat) (p:Prop) (hp:p->k<ts.length):
  ∃qa qn qc,HR p w b (off+k*2) [str (nth ts k).az,.slice qa qn qc]∧HS p L w (.slice qa qn qc) (nth ts k).au:=by
 by_cases h2:p
 ·obtain⟨b',off',qa,qn,qc,gx,hq,hqn,hqp⟩:=j8 h (iM (hp h2))
  cases gx
  exact⟨qa,qn,qc,λ_=>hq,λ_=>hqp⟩
 ·exact⟨none,0,0,λhh=>absurd hh h2,λhh=>absurd hh h2⟩
theorem Wt (ts:List aA) (k i:Nat):nth (ts.drop k) i=nth ts (i+k):=by
 simp[nth,List.getD,List.getElem?_drop,Nat.add_comm]
theorem akQ (ts:List aA) (f:aA->Bool):(!ts.any λu=>!f u)=ts.all f:=by
 induction ts with
 |nil=>rfl
 |cons t r ih=>simp only[List.any_cons,List.all_cons,Bool.not_or,Bool.not_not,ih]
theorem Pl:∀m,Ws m:=by
 intro m
 induction m with
 |zero=>intro t h;have:=xI t;omega
 |succ m ih=>
  intro t hm rO dx hidden v L w hv
  have dI:=hv
  obtain⟨a,n,c,rfl,hn,bc⟩:=dN hv
  have hK:=ak.refl [] w
  have oX:=xI t
  refine cU [.tmp 6] 53 Tryz.func91 rfl ZQ rfl rfl ?_
  refine zr<|fA rfl ?_
  intro w1 aJ bO dV
  have hK:=hK.ext aJ;have bc:=bc.ext aJ;have dI:=dI.ext aJ
  refine Ki rfl rfl rfl ?_
  intro w2 aq aI eK
  have hK:=hK.ext aq;have bc:=bc.ext aq;have dI:=dI.ext aq;have bO:=bO.ext aq
  refine Ki rfl rfl rfl ?_
  intro w3 aK bQ iK
  have hK:=hK.ext aK;have bc:=bc.ext aK;have dI:=dI.ext aK;have bO:=bO.ext aK;have aI:=aI.ext aK
  refine zA<|ag<|aQ<|zr<|zL j9 fb rfl bO.all rfl<|aC (Wr t _ L w3 dI) ?_
  rintro v4 w4 ⟨eJ,aD⟩
  have gK:=aD.size
  have hK:=hK.ext aD;have bc:=bc.ext aD;have dI:=dI.ext aD;have bO:=bO.ext aD;have aI:=aI.ext aD;have bQ:=bQ.ext aD
  obtain rfl:=eJ
  refine ag<|zc rfl (λh1=>?_) (λh1=>?_)
  have ha:t.az≠[]:=λh=>by have:=dx.pos h;omega
  refine zr<|zf zF rfl<|zl cg rfl (bO.at rfl)<|cW rfl rfl<|zm ?_
  apply fo 7 12 19 [12,13,14,15,16,17,18,19] (λw'=>w4=w') rfl
  intro h2
  replace h2:=bu h2
  refine zs<|zs<|zs<|zs<|zs<|zs<|zp rfl<|ag ?_
  exact mg rfl rfl
  intro h2
  replace h2:=bu h2
  refine zl Dd rfl (aI.at rfl)<|zm ?_
  apply fU 4 14 18 [14,15,16,17,18] (λw'=>w4=w') rfl
  intro h3
  replace h3:=bu h3
  refine zf zF rfl<|zl cg rfl (bO.at rfl)<|cW rfl rfl<|zp rfl<|ag ?_
  exact mg rfl rfl
  intro h3
  replace h3:=bu h3
  refine zs<|zs<|zs<|zp rfl<|ag ?_
  exact mg rfl rfl
  rintro xx _ rfl
  refine zp rfl<|ag ?_
  exact mg rfl rfl
  rintro xx _ rfl
  refine zm ?_
  apply fo 7 20 27 [20,21,22,23,24,25,26,27] (λw'=>w4=w') rfl
  intro h4
  replace h4:=bu h4
  refine zs<|zs<|zs<|zs<|zs<|zs<|zp rfl<|ag ?_
  exact mg rfl rfl
  intro h4
  replace h4:=bu h4
  refine zl Dd rfl (bQ.at rfl)<|zm<|EH (t:=22) (b:=false) rfl<|zs<|zs<|zs<|zp rfl<|zp rfl<|ag ?_
  exact mg rfl rfl
  rintro xx _ rfl
  refine zA<|ag<|aV ?_
  exact⟨_,rfl,show Value.bool _=Value.bool _ from congrArg _ (by rw[Ql ha,Bool.or_false]),hK⟩
  have kR:0<t.au.length:=by omega
  have ha:t.az=[]:=Classical.byContradiction (λh=>by have:=dx.leaf h;rw[this] at kR;exact absurd kR de)
  have mV:=iM kR
  have hh:cI t=(nth t.au 0).az:=E7 ha mV
  refine bA<|aQ<|zr<|zL j9 fb rfl bO.all rfl<|aC (Hl t dx _ L w4 dI) ?_
  rintro v5 w5 ⟨kQ,aT⟩
  have oW:=aT.size
  have hK:=hK.ext aT;have bc:=bc.ext aT;have bO:=bO.ext aT;have aI:=aI.ext aT;have bQ:=bQ.ext aT
  obtain rfl:=kQ
  obtain⟨b,off,pa,pn,pc,rfl,er,fR,iy⟩:=j8 bc mV
  refine ag<|cP<|zr<|cW rfl rfl<|zA<|ag<|zc rfl (λh5=>?_) (λh5=>?_)
  have he:(nth t.au 0).az=[101]:=hh.symm.trans h5
  have bQ:aY w5 w2.heap.size #[.bool false] 4:=bQ
  obtain⟨qa,qn,qc,kS,Pm⟩:=akO bc 1 ((n:Int)=2) (λh=>om)
  refine aQ ?_
  refine qf eu aS 13 (rA 32 12++[6]) (rA 32 12++[6]) [[],[0],[1],[2],[3],[4],[4,5],[4,6],[4,7],[4],[4,8,9],[4,10],[11]] [λv _=>v=(.pointer (some ⟨w.heap.size,0+1,none⟩)),λv _=>v=(.slice (some ⟨b,off,none⟩) n c),λv _=>v=(.int .i64 (n:Int)),λv _=>v=(.bool (decide ((n:Int)=2))),λv _=>v=(.bool (decide ((n:Int)=2))),λv _=>(decide ((n:Int)=2))=true->v=(.pointer (some ⟨w.heap.size,0+1,none⟩)),λv _=>(decide ((n:Int)=2))=true->v=(.slice (some ⟨b,off,none⟩) n c),λv _=>(decide ((n:Int)=2))=true->v=(.pointer (some ⟨b,off+1*2,none⟩)),λv _=>(decide ((n:Int)=2))=true->v=(.agg #[str (nth t.au 1).az,.slice qa qn qc]),λv _=>(decide ((n:Int)=2))=true->v=(.bool false),λv _=>(decide ((n:Int)=2))=true->v=(.bool (fC true (nth t.au 1))),λv _=>v=(.bool (decide ((n:Int)=2)&&fC true (nth t.au 1))),λv _=>v=(.bool (decide ((n:Int)=2)&&fC true (nth t.au 1)))] de (cX (cX (cX (cX (cX (eV (eV (eV (eV (eV (eV (cX (cX trivial))))))))))))) (λwd aB=>?_) ?_
  refine bN ?_ ?_
  intro x vs w6 e bD hd he
  replace bD:=aS.trans aB bD
  replace he:e=aM (aN _ x _) []:=he
  subst he
  refine zf uC rfl<|ag ?_
  exact dn (aS.refl _) rfl
  refine bN ?_ ?_
  intro x vs w6 e bD hd he
  have d0:vs 0=(.pointer (some ⟨w.heap.size,0+1,none⟩)):=hd
  replace bD:=aS.trans aB bD
  have bO:=bO.ext bD
  replace he:e=aM (aN _ x _) [(32,vs 0)]:=he
  rw[d0] at he
  subst he
  refine zl sr rfl (bO.at rfl)<|ag ?_
  exact dn (aS.refl _) rfl
  refine bN ?_ ?_
  intro x vs w6 e bD hd he
  have d1:vs 1=(.slice (some ⟨b,off,none⟩) n c):=hd
  replace bD:=aS.trans aB bD
  replace he:e=aM (aN _ x _) [(33,vs 1)]:=he
  rw[d1] at he
  subst he
  refine eh nM rfl<|ag ?_
  exact dn (aS.refl _) rfl
  refine bN ?_ ?_
  intro x vs w6 e bD hd he
  have d2:vs 2=(.int .i64 (n:Int)):=hd
  replace bD:=aS.trans aB bD
  replace he:e=aM (aN _ x _) [(34,vs 2)]:=he
  rw[d2] at he
  subst he
  refine dO rfl rfl rfl<|ag ?_
  exact dn (aS.refl _) rfl
  refine bN ?_ ?_
  intro x vs w6 e bD hd he
  have d3:vs 3=(.bool (decide ((n:Int)=2))):=hd
  replace bD:=aS.trans aB bD
  replace he:e=aM (aN _ x _) [(35,vs 3)]:=he
  rw[d3] at he
  subst he
  refine zm<|ag ?_
  exact dn (aS.refl _) rfl
  refine bN ?_ ?_
  intro x vs w6 e bD hd he
  have d4:vs 4=(.bool (decide ((n:Int)=2))):=hd
  replace bD:=aS.trans aB bD
  rcases bE (decide ((n:Int)=2)) with hg|hg
  rw[hg] at d4
  replace he:e=aM (aN _ x _) [(36,vs 4)]:=he
  rw[d4] at he
  subst he
  refine zf uC rfl<|ag ?_
  exact dn (aS.refl _) (show(decide ((n:Int)=2))=true->_=((.pointer (some ⟨w.heap.size,0+1,none⟩)):Value) from λ_=>rfl)
  rw[hg] at d4
  replace he:e=aM (aN _ x _) [(36,vs 4)]:=he
  rw[d4] at he
  subst he
  refine zs<|ag ?_
  exact dn (aS.refl _) (show(decide ((n:Int)=2))=true->_=(_:Value) from λhh=>nomatch hg.symm.trans hh)
  refine bN ?_ ?_
  intro x vs w6 e bD hd he
  have aR:(vs 4=(.bool (decide ((n:Int)=2))))∧((decide ((n:Int)=2))=true->vs 5=(.pointer (some ⟨w.heap.size,0+1,none⟩))):=hd
  obtain⟨d4,d5⟩:=aR
  replace bD:=aS.trans aB bD
  have bO:=bO.ext bD
  rcases bE (decide ((n:Int)=2)) with hg|hg
  rw[hg] at d4
  replace d5:=d5 hg
  replace he:e=aM (aN _ x _) [(36,vs 4),(37,vs 5)]:=he
  rw[d4,d5] at he
  subst he
  refine zl sr rfl (bO.at rfl)<|ag ?_
  exact dn (aS.refl _) (show(decide ((n:Int)=2))=true->_=((.slice (some ⟨b,off,none⟩) n c):Value) from λ_=>rfl)
  rw[hg] at d4
  replace he:e=aM (aN _ x _) [(36,vs 4),(37,vs 5)]:=he
  rw[d4] at he
  subst he
  refine zs<|ag ?_
  exact dn (aS.refl _) (show(decide ((n:Int)=2))=true->_=(_:Value) from λhh=>nomatch hg.symm.trans hh)
  refine bN ?_ ?_
  intro x vs w6 e bD hd he
  have aR:(vs 4=(.bool (decide ((n:Int)=2))))∧((decide ((n:Int)=2))=true->vs 6=(.slice (some ⟨b,off,none⟩) n c)):=hd
  obtain⟨d4,d6⟩:=aR
  replace bD:=aS.trans aB bD
  rcases bE (decide ((n:Int)=2)) with hg|hg
  rw[hg] at d4
  replace d6:=d6 hg
  replace he:e=aM (aN _ x _) [(36,vs 4),(38,vs 6)]:=he
  rw[d4,d6] at he
  subst he
  refine zi (i:=1) nM fb rfl rfl (by have:=of_decide_eq_true hg;omega)<|ag ?_
  exact dn (aS.refl _) (show(decide ((n:Int)=2))=true->_=((.pointer (some ⟨b,off+1*2,none⟩)):Value) from λ_=>rfl)
  rw[hg] at d4
  replace he:e=aM (aN _ x _) [(36,vs 4),(38,vs 6)]:=he
  rw[d4] at he
  subst he
  refine zs<|ag ?_
  exact dn (aS.refl _) (show(decide ((n:Int)=2))=true->_=(_:Value) from λhh=>nomatch hg.symm.trans hh)
  refine bN ?_ ?_
  intro x vs w6 e bD hd he
  have aR:(vs 4=(.bool (decide ((n:Int)=2))))∧((decide ((n:Int)=2))=true->vs 7=(.pointer (some ⟨b,off+1*2,none⟩))):=hd
  obtain⟨d4,d7⟩:=aR
  replace bD:=aS.trans aB bD
  have kS:=kS.ext bD
  rcases bE (decide ((n:Int)=2)) with hg|hg
  rw[hg] at d4
  replace d7:=d7 hg
  replace he:e=aM (aN _ x _) [(36,vs 4),(39,vs 7)]:=he
  rw[d4,d7] at he
  subst he
  refine zL j9 fb rfl (kS (of_decide_eq_true hg)) rfl<|ag ?_
  exact dn (aS.refl _) (show(decide ((n:Int)=2))=true->_=((.agg #[str (nth t.au 1).az,.slice qa qn qc]):Value) from λ_=>rfl)
  rw[hg] at d4
  replace he:e=aM (aN _ x _) [(36,vs 4),(39,vs 7)]:=he
  rw[d4] at he
  subst he
  refine zs<|ag ?_
  exact dn (aS.refl _) (show(decide ((n:Int)=2))=true->_=(_:Value) from λhh=>nomatch hg.symm.trans hh)
  refine bN ?_ ?_
  intro x vs w6 e bD hd he
  have d4:vs 4=(.bool (decide ((n:Int)=2))):=hd
  replace bD:=aS.trans aB bD
  have bQ:=bQ.ext bD
  rcases bE (decide ((n:Int)=2)) with hg|hg
  rw[hg] at d4
  replace he:e=aM (aN _ x _) [(36,vs 4)]:=he
  rw[d4] at he
  subst he
  refine zl Dd rfl (bQ.at rfl)<|ag ?_
  exact dn (aS.refl _) (show(decide ((n:Int)=2))=true->_=((.bool false):Value) from λ_=>rfl)
  rw[hg] at d4
  replace he:e=aM (aN _ x _) [(36,vs 4)]:=he
  rw[d4] at he
  subst he
  refine zs<|ag ?_
  exact dn (aS.refl _) (show(decide ((n:Int)=2))=true->_=(_:Value) from λhh=>nomatch hg.symm.trans hh)
  refine bN ?_ ?_
  intro x vs w6 e bD hd he
  have aR:(vs 4=(.bool (decide ((n:Int)=2))))∧((decide ((n:Int)=2))=true->vs 8=(.agg #[str (nth t.au 1).az,.slice qa qn qc]))∧((decide ((n:Int)=2))=true->vs 9=(.bool false)):=hd
  obtain⟨d4,d8,d9⟩:=aR
  replace bD:=aS.trans aB bD
  have Pm:=Pm.ext bD
  rcases bE (decide ((n:Int)=2)) with hg|hg
  rw[hg] at d4
  replace d8:=d8 hg
  replace d9:=d9 hg
  replace he:e=aM (aN _ x _) [(36,vs 4),(40,vs 8),(41,vs 9)]:=he
  rw[d4,d8,d9] at he
  subst he
  refine aC (ih (nth t.au 1) (by have:=of_decide_eq_true hg;have:=lX (t:=t) (i:=1) om;omega) (by have:=of_decide_eq_true hg;have:=lX (t:=t) (i:=1) om;omega) (dx.nth (by have:=of_decide_eq_true hg;omega)) true _ L w6 (mS (Pm (of_decide_eq_true hg)))) ?_
  rintro v7 w7 ⟨iV,cv⟩
  have pg:=cv.size
  obtain rfl:=iV
  refine ag ?_
  exact dn (aS.of cv) (show(decide ((n:Int)=2))=true->_=((.bool (fC true (nth t.au 1))):Value) from λ_=>rfl)
  rw[hg] at d4
  replace he:e=aM (aN _ x _) [(36,vs 4),(40,vs 8),(41,vs 9)]:=he
  rw[d4] at he
  subst he
  refine zs<|ag ?_
  exact dn (aS.refl _) (show(decide ((n:Int)=2))=true->_=(_:Value) from λhh=>nomatch hg.symm.trans hh)
  refine bN ?_ ?_
  intro x vs w6 e bD hd he
  have aR:(vs 4=(.bool (decide ((n:Int)=2))))∧((decide ((n:Int)=2))=true->vs 10=(.bool (fC true (nth t.au 1)))):=hd
  obtain⟨d4,d10⟩:=aR
  replace bD:=aS.trans aB bD
  rcases bE (decide ((n:Int)=2)) with hg|hg
  rw[hg] at d4
  replace d10:=d10 hg
  replace he:e=aM (aN _ x _) [(36,vs 4),(42,vs 10)]:=he
  rw[d4,d10] at he
  subst he
  refine zp rfl<|ag ?_
  exact dn (aS.refl _) (by first|rfl|(rw[hg];rfl))
  rw[hg] at d4
  replace he:e=aM (aN _ x _) [(36,vs 4),(42,vs 10)]:=he
  rw[d4] at he
  subst he
  refine zp rfl<|ag ?_
  exact dn (aS.refl _) (by first|rfl|(rw[hg];rfl))
  refine bN ?_ ?_
  intro x vs w6 e bD hd he
  have d11:vs 11=(.bool (decide ((n:Int)=2)&&fC true (nth t.au 1))):=hd
  replace bD:=aS.trans aB bD
  replace he:e=aM (aN _ x _) [(43,vs 11)]:=he
  rw[d11] at he
  subst he
  refine zA<|ag ?_
  exact dn (aS.refl _) rfl
  exact trivial
  intro x vs qy wJ bJ
  have d0:vs 0=(.pointer (some ⟨w.heap.size,0+1,none⟩)):=bJ 0 de
  have d1:vs 1=(.slice (some ⟨b,off,none⟩) n c):=bJ 1 de
  have d2:vs 2=(.int .i64 (n:Int)):=bJ 2 de
  have d3:vs 3=(.bool (decide ((n:Int)=2))):=bJ 3 de
  have d4:vs 4=(.bool (decide ((n:Int)=2))):=bJ 4 de
  have d5:(decide ((n:Int)=2))=true->vs 5=(.pointer (some ⟨w.heap.size,0+1,none⟩)):=bJ 5 de
  have d6:(decide ((n:Int)=2))=true->vs 6=(.slice (some ⟨b,off,none⟩) n c):=bJ 6 de
  have d7:(decide ((n:Int)=2))=true->vs 7=(.pointer (some ⟨b,off+1*2,none⟩)):=bJ 7 de
  have d8:(decide ((n:Int)=2))=true->vs 8=(.agg #[str (nth t.au 1).az,.slice qa qn qc]):=bJ 8 de
  have d9:(decide ((n:Int)=2))=true->vs 9=(.bool false):=bJ 9 de
  have d10:(decide ((n:Int)=2))=true->vs 10=(.bool (fC true (nth t.au 1))):=bJ 10 de
  have d11:vs 11=(.bool (decide ((n:Int)=2)&&fC true (nth t.au 1))):=bJ 11 de
  have d12:vs 12=(.bool (decide ((n:Int)=2)&&fC true (nth t.au 1))):=bJ 12 de
  have hK:=hK.ext wJ
  change OW _ _ _ _ [] (aM (aN _ x _) (zZ 32 [vs 0,vs 1,vs 2,vs 3,vs 4,vs 5,vs 6,vs 7,vs 8,vs 9,vs 10,vs 11]++[(6,vs 12)])) _
  rw[d0,d1,d2,d3,d4,d11,d12]
  refine ag<|aV<|⟨_,rfl,show Value.bool _=Value.bool _ from congrArg _ ?_,hK⟩
  rw[KY ha kR he]
  congr 1
  exact decide_eq_decide.2 om
  have eN:(nth t.au 0).az≠[101]:=λh=>h5 (hh.trans h)
  refine aQ<|zr<|cW rfl rfl<|zA<|ag ?_
  refine jh (λ_:Unit=>[(3,.pointer (some ⟨w.heap.size,0,none⟩)),(4,.pointer (some ⟨w1.heap.size,0,none⟩)),(5,.pointer (some ⟨w2.heap.size,0,none⟩)),(44,.bool (decide (cI t=[116])||decide (cI t=[99])))]) (λ_ w'=>w'=w5) ?_ ?_
  refine zc rfl (λh6=>?_) (λh6=>?_)
  refine bA ?_
  exact⟨(),⟨rfl,rfl,rfl,congrArg Value.bool (zN h6)⟩,rfl⟩
  refine db<|cW rfl rfl<|zA<|ag ?_
  exact⟨(),⟨rfl,rfl,rfl,congrArg Value.bool (zO h6)⟩,rfl⟩
  intro gu w6 e6 hI
  obtain rfl:=hI
  refine zc rfl (λh7=>?_) (λh7=>?_)
  have zR:=zP h7
  rw[hh] at zR
  refine zr<|zf uC rfl<|zl sr rfl (bO.at rfl)<|EG (l:=1) nM fb rfl rfl rfl rfl om bc ?_
  intro Ba bo
  have bo:fG L w6 Ba (t.au.drop 1):=by rw[fG,PK];exact bo
  refine PR (vs:=[.pointer (some ⟨w1.heap.size,0,none⟩),.pointer (some ⟨w2.heap.size,0,none⟩)]) rfl rfl rfl ?_
  refine aC (akM (t.au.drop 1) (by rw[List.length_drop];omega) (λu=>!fC hidden u) 126 [.pointer (some ⟨w1.heap.size,0,none⟩),.pointer (some ⟨w2.heap.size,0,none⟩)] _ L w6 bo (λi hi u w' k hu=>by rw[List.length_drop] at hi;rw[Wt] at hu⊢;exact akN ih (nth t.au (i+1)) (by have:=lX (t:=t) (i:=i+1) om;omega) (by have:=lX (t:=t) (i:=i+1) om;omega) (dx.nth om) hidden _ _ _ L _ hu (aI.ext k) (bQ.ext k))) ?_
  rintro v7 w7 ⟨iV,cv⟩
  have pg:=cv.size
  have hK:=hK.ext cv
  obtain rfl:=iV
  refine eH rfl<|zA<|ag<|aV ?_
  exact⟨_,rfl,show Value.bool _=Value.bool _ from congrArg _ (by rw[KZ ha kR zR,akQ]),hK⟩
  have zR:=zQ h7
  rw[hh] at zR
  refine bA<|zr<|zA<|ag<|aV ?_
  exact⟨_,rfl,by rw[Qm ha kR eN zR];rfl,hK⟩
theorem Hn {a b:World} (h:ak [] w a) (k:RowKit.Below w.heap.size a b):ak [] w b:=
 ⟨k.os.trans h.os,k.tape.trans h.tape,k.output.trans h.output,Nat.le_trans h.size k.size,λi hi hl=>(k.block i hi).trans (h.block i hi hl)⟩
theorem akR (x y:Nat) (h:x*y<18446744073709551616) (hx:x<18446744073709551616) (hy:y<18446744073709551616) (w:World):
  bZ Tryz.prog 162 [.int .u64 x,.int .u64 y] w λv w'=>v= .tuple #[.int .u64 0,.int .u64 ((x*y:Nat):Int)]∧w=w':=
 ⟨tg.mk' Tryz.func162 rfl YG,Calls.mono (Tryz.bits_Mul x y hx hy w) λ_ _ ⟨he,hw⟩=>⟨_,he,by rw[Nat.div_eq_of_lt h,Nat.mod_eq_of_lt h];rfl,hw.symm⟩⟩
theorem akS (B b n:Nat) (w:World) (hB:B<=b) (fz:aY w b #[.pointer none,.slice none 0 0] 94) (CX:B<=w.heap.size) (hn:n<=281474976710656):
  bZ Tryz.prog 163 [.pointer (some ⟨b,0,none⟩),.int .i64 n] w λv w'=>v= .tuple #[]∧Lib.IsBuilderF 94 5 B b (Lib.byteCells []) w'∧RowKit.Below B w w':=
 ⟨tg.mk' Tryz.func163 rfl YH,Calls.mono (Tryz.Builder_Grow_fresh B b n w hB fz CX hn) λ_ _ ⟨he,hb,hk⟩=>⟨_,he,rfl,.inr (Lib.BuilderAtF.of hb),hk⟩⟩
theorem Wu (B b:Nat) (l s:aj) (w:World) (h:Lib.IsBuilderF 94 5 B b (Lib.byteCells l) w) (hlen:l.length+s.length<=140737488355328) (CX:B<=w.heap.size):
  bZ Tryz.prog 101 [.pointer (some ⟨b,0,none⟩),str s] w λv w'=>(∃u,v=u)∧Lib.IsBuilderF 94 5 B b (Lib.byteCells (l++s)) w'∧RowKit.Below B w w':=
 ⟨tg.mk' Tryz.func101 rfl XN,Calls.mono (Tryz.Builder_WriteString_f B b _ ⟨s.toArray⟩ w h (by rw[Lib.byteCells_length];simpa[ByteArray.size] using hlen) CX) λ_ _ ⟨he,hb,hk⟩=>⟨_,he,⟨_,rfl⟩,.inr (by have e1:Lib.byteCells (l++s)=Lib.byteCells l++Lib.strCells ⟨s.toArray⟩:=by{simp[Lib.byteCells,Lib.strCells]};rw[e1];exact hb),hk⟩⟩
theorem Pn (B b:Nat) (l:aj) (w:World) (h:Lib.IsBuilderF 94 5 B b (Lib.byteCells l) w):
  bZ Tryz.prog 164 [.pointer (some ⟨b,0,none⟩)] w λv w'=>v= .int .i64 (l.length:Int)∧w=w':=
 ⟨tg.mk' Tryz.func164 rfl YI,Calls.mono (Tryz.Builder_Len_f B b _ w h) λ_ _ ⟨he,hw⟩=>⟨_,he,by rw[Lib.byteCells_length],hw.symm⟩⟩
theorem Wv (B b:Nat) (l:aj) (h0:l≠[]) (w:World) (h:Lib.IsBuilderF 94 5 B b (Lib.byteCells l) w):
  bZ Tryz.prog 74 [.pointer (some ⟨b,0,none⟩)] w λv w'=>v=str l∧Lib.IsBuilderF 94 5 B b (Lib.byteCells l) w'∧RowKit.Below B w w':=
 ⟨tg.mk' Tryz.func74 rfl ZA,Calls.mono (Tryz.Builder_String_f B b l w h h0) λ_ _ ⟨he,hb,hk⟩=>⟨_,he,rfl,hb,hk⟩⟩
theorem akT (c:Nat) (hc:c<=8192) (w:World):bZ Tryz.prog 127 [str [115],.int .i64 (c:Int)] w λv w'=>v=str (List.replicate c 115)∧ak [] w w':=by
 have hK:=ak.refl [] w
 refine cU [.tmp 4] 125 Tryz.func127 rfl Yd rfl rfl ?_
 refine zr<|zA<|ag<|aQ<|zr<|zm<|ag<|cP<|zr<|dO rfl rfl rfl<|zA<|ag<|zc rfl (λh1=>?_) (λh1=>?_)
 have er:c=0:=by omega
 refine zr<|zA<|ag<|aV ?_
 exact⟨_,rfl,by rw[er];rfl,hK⟩
 refine zr<|dO rfl rfl rfl<|zA<|ag<|zc rfl (λh2=>?_) (λh2=>?_)
 have bC:c=1:=by omega
 refine zr<|zm<|zA<|ag<|aV ?_
 exact⟨_,rfl,by rw[bC];rfl,hK⟩
 refine bA<|aQ<|zr<|zm<|fJ rfl rfl rfl<|ag<|zc rfl (λh3=>?_) (λh3=>?_)
 exfalso
 omega
 refine bA<|zr<|zm<|kL fc rfl rfl rfl<|xw xF KP rfl rfl rfl (show IntKind.u64.wrap (([115]:aj).length:Int)=((1:Nat):Int) from by decide)<|zm<|xw xF KP rfl rfl rfl (show IntKind.u64.wrap (c:Int)=((c:Nat):Int) from by rw[wrap_u64 _ om om])<|aC (akR 1 c om om om _) ?_
 rintro _ _ ⟨rfl,rfl⟩
 refine zm<|zx (i:=0) rfl rfl<|zx (i:=1) rfl rfl<|zA<|zA<|ag<|aQ<|zr<|zm<|jx rfl rfl rfl rfl rfl<|zm ?_
 apply fo 3 31 34 [31,32,33,34] (λw'=>w=w') rfl
 intro h4
 replace h4:=bu h4
 refine zs<|zs<|zp rfl<|ag ?_
 exact mg rfl rfl
 intro h4
 replace h4:=bu h4
 refine zm<|jx rfl rfl rfl rfl rfl<|zp rfl<|ag ?_
 exact mg rfl rfl
 rintro xx _ rfl
 refine ag<|zc rfl (λh5=>?_) (λh5=>?_)
 exfalso
 simp at h5
 omega
 refine bA<|zr<|zm<|xw KP xF rfl rfl rfl (show IntKind.i64.wrap ((1*c:Nat):Int)=(c:Int) from by rw[wrap_i64 _ om om];omega)<|zA<|ag<|aQ<|zr<|zm<|kL fc rfl rfl rfl<|dO rfl rfl rfl<|ag<|zc rfl (λh6=>?_) (λh6=>?_)
 exact absurd h6 de
 refine bA<|aQ<|zr<|zm<|kC (i:=0) fc rfl rfl rfl rfl (jH de)<|ag<|cP<|aQ<|zr<|dO rfl rfl rfl<|zA<|ag<|zc rfl (λh7=>?_) (λh7=>?_)
 exact absurd h7 de
 refine zr<|dO rfl rfl rfl<|zA<|ag<|zc rfl (λh8=>?_) (λh8=>?_)
 exact absurd h8 de
 refine zr<|dO rfl rfl rfl<|zA<|ag<|zc rfl (λh9=>?_) (λh9=>?_)
 exact absurd h9 de
 refine zr<|dO rfl rfl rfl<|zA<|ag<|zc rfl (λgI=>?_) (λgI=>?_)
 exact absurd gI de
 refine db<|dO rfl rfl rfl<|zA<|ag<|zc rfl (λkm=>?_) (λkm=>?_)
 exact absurd km de
 refine bA<|zr<|zm<|zA<|ag<|aQ<|zr<|zm<|jx rfl rfl rfl rfl rfl<|ag<|zc rfl (λjJ=>?_) (λjJ=>?_)
 exfalso
 omega
 refine bA<|zr<|eC aab rfl rfl rfl ?_
 intro w1 aJ cT dV
 have hK:=hK.ext aJ
 refine ag<|zr<|zm<|aC (akS w.heap.size w.heap.size c w1 (lR _) cT om om) ?_
 rintro _ w2 ⟨rfl,hB,rB⟩
 have hK:=Hn hK rB
 refine ag<|zr<|zm<|aC (Wu w.heap.size w.heap.size [] [115] w2 hB sm (by have:=hK.size;omega)) ?_
 rintro _ w3 ⟨_,hB,rB⟩
 have hK:=Hn hK rB
 refine ag<|aQ<|cP ?_
 refine fZ (λk:Nat=>[(0,str [115]),(7,.int .i64 (c:Int)),(8,.int .i64 (c:Int)),(9,.pointer (some ⟨w.heap.size,0,none⟩))]) (λk w'=>ak [] w w'∧Lib.IsBuilderF 94 5 w.heap.size w.heap.size (Lib.byteCells (List.replicate k 115)) w'∧1<=k∧k<=c) (λk=>c-k) (1) (⟨rfl,rfl,rfl,rfl⟩) (⟨hK,hB,om,om⟩) ?_
 intro gg w4 e4 hI
 obtain⟨hK,hB,hk,ln⟩:=hI
 have iY:=hK.size
 refine aQ<|zr<|aC (Pn _ _ _ _ hB) ?_
 rintro _ _ ⟨rfl,rfl⟩
 rw[List.length_replicate]
 refine zm<|fJ rfl rfl rfl<|ag<|zc rfl (λlD=>?_) (λlD=>?_)
 have eU:gg<c:=by omega
 refine bA<|cP<|zr<|zm<|aC (Pn _ _ _ _ hB) ?_
 rintro _ _ ⟨rfl,rfl⟩
 rw[List.length_replicate]
 refine mO rfl rfl rfl rfl rfl (wrap_i64 _ om om)<|aC (Pn _ _ _ _ hB) ?_
 rintro _ _ ⟨rfl,rfl⟩
 rw[List.length_replicate]
 refine zm<|XJ rfl rfl rfl rfl rfl (show(if(c:Int)<(if(gg:Int)<(c:Int)-gg then(gg:Int) else(c:Int)-gg) then(c:Int) else(if(gg:Int)<(c:Int)-gg then(gg:Int) else(c:Int)-gg))=((min gg (c-gg):Nat):Int) from by repeat' split<;>omega)<|zA<|ag<|db<|aC (Wv _ _ _ (by intro h;have:=congrArg List.length h;simp at this;omega) w4 hB) ?_
 rintro _ w5 ⟨rfl,hB,rB⟩
 have hK:=Hn hK rB
 refine zm<|Bf fc rfl rfl rfl (.inl ⟨rfl,rfl⟩) (.inr ⟨_,rfl⟩) om (by rw[List.length_replicate];omega)<|aC (Wu w.heap.size w.heap.size _ _ w5 hB so (by have:=hK.size;omega)) ?_
 rintro _ w6 ⟨_,hB,rB⟩
 have hK:=Hn hK rB
 refine ag ?_
 exact⟨gg+min gg (c-gg),⟨rfl,rfl,rfl,rfl⟩,⟨hK,by have e1:List.replicate gg 115++((List.replicate gg (115:UInt8)).drop 0).take (min gg (c-gg)-0)=List.replicate (gg+min gg (c-gg)) 115:=by{rw[List.drop_zero,Nat.sub_zero,List.take_replicate,List.replicate_append_replicate];congr 1;omega};rw[<-e1];exact hB,om,om⟩,om⟩
 have he:gg=c:=by omega
 refine gF<|gH rfl<|zr<|aC (Wv _ _ _ (by intro h;have:=congrArg List.length h;simp at this;omega) w4 hB) ?_
 rintro _ w5 ⟨rfl,hB,rB⟩
 have hK:=Hn hK rB
 refine zA<|ag<|aV ?_
 exact⟨_,rfl,by rw[<-he];rfl,hK⟩
theorem akU (h:aj) (n:Nat) (hn:n<=8000) (w:World):bZ Tryz.prog 92 [str h,.int .i64 (n:Int)] w λr w'=>r=str (ia h n)∧ak [] w w':=by
 have hK:=ak.refl [] w
 refine cU [.tmp 4] 33 Tryz.func92 rfl ZR rfl rfl ?_
 refine zr<|zA<|ag<|aQ<|zr<|zm<|ag<|cP<|zr<|cW rfl rfl<|zA<|ag<|zc rfl (λh1=>?_) (λh1=>?_)
 have er:=h1
 refine zr<|zA<|ag<|aV ?_
 exact⟨_,rfl,show str _=str _ from congrArg _ (by rw[ia,iP er]),hK⟩
 have er:=h1
 refine aQ<|zr<|cW rfl rfl<|zA<|ag ?_
 refine jh (λ_:Unit=>[(1,.int .i64 (n:Int)),(5,str h),(8,.bool (decide (h=[109,111,118])||decide (h=[111,112,101,110])))]) (λ_ w'=>w'=w) ?_ ?_
 refine zc rfl (λh2=>?_) (λh2=>?_)
 refine bA ?_
 exact⟨(),⟨rfl,rfl,congrArg Value.bool (zN h2)⟩,rfl⟩
 refine db<|cW rfl rfl<|zA<|ag ?_
 exact⟨(),⟨rfl,rfl,congrArg Value.bool (zO h2)⟩,rfl⟩
 intro gu w1 e1 hI
 obtain rfl:=hI
 refine zc rfl (λh3=>?_) (λh3=>?_)
 have bC:=zP h3
 refine zr<|zA<|ag<|aV ?_
 exact⟨_,rfl,show str _=str _ from congrArg _ (by rw[ia,iN er,iP bC]),hK⟩
 have bC:=zQ h3
 refine aQ<|zr<|cW rfl rfl<|zA<|ag ?_
 refine jh (λ_:Unit=>[(1,.int .i64 (n:Int)),(5,str h),(11,.bool (decide (h=[97,100,100])||decide (h=[115,117,98])||decide (h=[109,117,108])))]) (λ_ w'=>w'=w1) ?_ ?_
 refine zc rfl (λh4=>?_) (λh4=>?_)
 refine bA ?_
 exact⟨(),⟨rfl,rfl,congrArg Value.bool (Qq h4)⟩,rfl⟩
 have fK:=h4
 refine zr<|cW rfl rfl<|zA<|ag<|zc rfl (λh5=>?_) (λh5=>?_)
 refine bA ?_
 exact⟨(),⟨rfl,rfl,congrArg Value.bool (Qr fK h5)⟩,rfl⟩
 refine db<|cW rfl rfl<|zA<|ag ?_
 exact⟨(),⟨rfl,rfl,congrArg Value.bool (Qs fK h5)⟩,rfl⟩
 intro gu w2 e2 hI
 obtain rfl:=hI
 refine zc rfl (λh6=>?_) (λh6=>?_)
 have bX:=Qt h6
 refine zr<|zA<|ag<|aV ?_
 exact⟨_,rfl,show str _=str _ from congrArg _ (by rw[ia,iN er,iN bC,iP bX]),hK⟩
 have bX:=Qu h6
 refine zr<|cW rfl rfl<|zA<|ag<|zc rfl (λh7=>?_) (λh7=>?_)
 have ew:=h7
 refine zr<|zm<|mO rfl rfl rfl rfl rfl (wrap_i64 _ om om)<|XK rfl rfl rfl rfl (show(if(0:Int)<(n:Int)-2 then(n:Int)-2 else 0)=((n-2:Nat):Int) from by split<;>omega)<|aC (akT (n-2) om w2) ?_
 rintro v3 w3 ⟨et,aK⟩
 have gd:=aK.size
 have hK:=hK.ext aK
 obtain rfl:=et
 refine cm rfl rfl so<|zA<|ag<|aV ?_
 exact⟨_,rfl,show str _=str _ from congrArg _ (by rw[ia,iN er,iN bC,iN bX,iP ew]),hK⟩
 have ew:=h7
 refine zr<|cW rfl rfl<|zA<|ag<|zc rfl (λh8=>?_) (λh8=>?_)
 have jI:=h8
 refine zr<|zA<|ag<|aV ?_
 exact⟨_,rfl,show str _=str _ from congrArg _ (by rw[ia,iN er,iN bC,iN bX,iN ew,iP jI]),hK⟩
 have jI:=h8
 refine zr<|cW rfl rfl<|zA<|ag<|zc rfl (λh9=>?_) (λh9=>?_)
 have jY:=h9
 refine zr<|zA<|ag<|aV ?_
 exact⟨_,rfl,show str _=str _ from congrArg _ (by rw[ia,iN er,iN bC,iN bX,iN ew,iN jI,iP jY]),hK⟩
 have jY:=h9
 refine zr<|cW rfl rfl<|zA<|ag<|zc rfl (λgI=>?_) (λgI=>?_)
 have qk:=gI
 refine zr<|zA<|ag<|aV ?_
 exact⟨_,rfl,show str _=str _ from congrArg _ (by rw[ia,iN er,iN bC,iN bX,iN ew,iN jI,iN jY,iP qk]),hK⟩
 have qk:=gI
 refine zr<|cW rfl rfl<|zA<|ag<|zc rfl (λkm=>?_) (λkm=>?_)
 have zT:=km
 refine zr<|zA<|ag<|aV ?_
 exact⟨_,rfl,show str _=str _ from congrArg _ (by rw[ia,iN er,iN bC,iN bX,iN ew,iN jI,iN jY,iN qk,iP zT]),hK⟩
 have zT:=km
 refine aQ<|zr<|cW rfl rfl<|zA<|ag ?_
 refine jh (λ_:Unit=>[(5,str h),(30,.bool (decide (h=[106,117,109,112])||decide (h=[104,97,108,116])))]) (λ_ w'=>w'=w2) ?_ ?_
 refine zc rfl (λjJ=>?_) (λjJ=>?_)
 refine bA ?_
 exact⟨(),⟨rfl,congrArg Value.bool (zN jJ)⟩,rfl⟩
 refine db<|cW rfl rfl<|zA<|ag ?_
 exact⟨(),⟨rfl,congrArg Value.bool (zO jJ)⟩,rfl⟩
 intro gu w3 e3 hI
 obtain rfl:=hI
 refine zc rfl (λlD=>?_) (λlD=>?_)
 have vO:=zP lD
 refine zr<|zA<|ag<|aV ?_
 exact⟨_,rfl,show str _=str _ from congrArg _ (by rw[ia,iN er,iN bC,iN bX,iN ew,iN jI,iN jY,iN qk,iN zT,iP vO]),hK⟩
 have vO:=zQ lD
 refine bA<|zr<|zA<|ag<|aV ?_
 exact⟨_,rfl,show str _=str _ from congrArg _ (by rw[ia,iN er,iN bC,iN bX,iN ew,iN jI,iN jY,iN qk,iN zT,iN vO]),hK⟩
theorem akV {ts:List aA} (h:fG L w v ts):∃a c,v= .slice a ts.length c:=by
 obtain⟨a,c,rfl,_⟩:=rK h
 exact⟨a,c,by rw[iJ]⟩
theorem akW (t:aA) (hs:t.size<=12001) (dx:WF t) (v:Value) (L:List Nat) (w:World) (hv:bS L w v t):
  bZ Tryz.prog 61 [v] w λr w'=>r= .bool (dJ t)∧ak [] w w':=by
 have dI:=hv
 obtain⟨a,n,c,rfl,hn,bc⟩:=dN hv
 have hK:=ak.refl [] w
 have hn8:=abh dx
 subst hn
 have hσ:=abg (cI t) t.au.length
 refine cU [.tmp 2] 78 Tryz.func61 rfl Zw rfl rfl ?_
 refine zr<|fA rfl ?_
 intro w1 aJ aU dV
 have hK:=hK.ext aJ;have bc:=bc.ext aJ;have dI:=dI.ext aJ
 refine zA<|ag<|aQ ?_
 refine qf eu aS 7 (rA 7 6++[3]) (rA 7 6++[3]) [[],[0],[],[2],[3],[1,4],[5]] [λv _=>v=(.agg #[str t.az,.slice a t.au.length c]),λv _=>v=(str (cI t)),λv _=>v=(.pointer (some ⟨w.heap.size,0+1,none⟩)),λv _=>v=(.slice a t.au.length c),λv _=>v=(.int .i64 (t.au.length:Int)),λv _=>v=(str (ia (cI t) t.au.length)),λv _=>v=(str (ia (cI t) t.au.length))] de (cX (cX (cX (cX (cX (cX (cX trivial))))))) (λwd aB=>?_) ?_
 refine bN ?_ ?_
 intro x vs w2 e aq hd he
 replace aq:=aS.trans aB aq
 have aU:=aU.ext aq
 replace he:e=aM (aN _ x _) []:=he
 subst he
 refine zL j9 fb rfl aU.all rfl<|ag ?_
 exact dn (aS.refl _) rfl
 refine bN ?_ ?_
 intro x vs w2 e aq hd he
 have d0:vs 0=(.agg #[str t.az,.slice a t.au.length c]):=hd
 replace aq:=aS.trans aB aq
 have dI:=dI.ext aq
 replace he:e=aM (aN _ x _) [(7,vs 0)]:=he
 rw[d0] at he
 subst he
 refine aC (Hl t dx _ L w2 dI) ?_
 rintro v3 w3 ⟨et,aK⟩
 have gd:=aK.size
 obtain rfl:=et
 refine ag ?_
 exact dn (aS.of aK) rfl
 refine bN ?_ ?_
 intro x vs w2 e aq hd he
 replace aq:=aS.trans aB aq
 replace he:e=aM (aN _ x _) []:=he
 subst he
 refine zf uC rfl<|ag ?_
 exact dn (aS.refl _) rfl
 refine bN ?_ ?_
 intro x vs w2 e aq hd he
 have d2:vs 2=(.pointer (some ⟨w.heap.size,0+1,none⟩)):=hd
 replace aq:=aS.trans aB aq
 have aU:=aU.ext aq
 replace he:e=aM (aN _ x _) [(9,vs 2)]:=he
 rw[d2] at he
 subst he
 refine zl sr rfl (aU.at rfl)<|ag ?_
 exact dn (aS.refl _) rfl
 refine bN ?_ ?_
 intro x vs w2 e aq hd he
 have d3:vs 3=(.slice a t.au.length c):=hd
 replace aq:=aS.trans aB aq
 replace he:e=aM (aN _ x _) [(10,vs 3)]:=he
 rw[d3] at he
 subst he
 refine eh nM rfl<|ag ?_
 exact dn (aS.refl _) rfl
 refine bN ?_ ?_
 intro x vs w2 e aq hd he
 have aR:(vs 1=(str (cI t)))∧(vs 4=(.int .i64 (t.au.length:Int))):=hd
 obtain⟨d1,d4⟩:=aR
 replace aq:=aS.trans aB aq
 replace he:e=aM (aN _ x _) [(8,vs 1),(11,vs 4)]:=he
 rw[d1,d4] at he
 subst he
 refine aC (akU (cI t) t.au.length om w2) ?_
 rintro v3 w3 ⟨et,aK⟩
 have gd:=aK.size
 obtain rfl:=et
 refine ag ?_
 exact dn (aS.of aK) rfl
 refine bN ?_ ?_
 intro x vs w2 e aq hd he
 have d5:vs 5=(str (ia (cI t) t.au.length)):=hd
 replace aq:=aS.trans aB aq
 replace he:e=aM (aN _ x _) [(12,vs 5)]:=he
 rw[d5] at he
 subst he
 refine zA<|ag ?_
 exact dn (aS.refl _) rfl
 exact trivial
 intro x vs pT iB bJ
 have d0:vs 0=(.agg #[str t.az,.slice a t.au.length c]):=bJ 0 de
 have d1:vs 1=(str (cI t)):=bJ 1 de
 have d2:vs 2=(.pointer (some ⟨w.heap.size,0+1,none⟩)):=bJ 2 de
 have d3:vs 3=(.slice a t.au.length c):=bJ 3 de
 have d4:vs 4=(.int .i64 (t.au.length:Int)):=bJ 4 de
 have d5:vs 5=(str (ia (cI t) t.au.length)):=bJ 5 de
 have d6:vs 6=(str (ia (cI t) t.au.length)):=bJ 6 de
 have hK:=hK.ext iB;have bc:=bc.ext iB;have aU:=aU.ext iB
 change OW _ _ _ _ [] (aM (aN _ x _) (zZ 7 [vs 0,vs 1,vs 2,vs 3,vs 4,vs 5]++[(3,vs 6)])) _
 rw[d0,d1,d2,d3,d4,d5,d6]
 refine ag<|aQ<|zr<|zm<|cW rfl rfl<|zm ?_
 apply fo 8 15 23 [15,16,17,18,19,20,21,22,23] (λw'=>pT=w') rfl
 intro h1
 replace h1:=bu h1
 refine zs<|zs<|zs<|zs<|zs<|zs<|zs<|zp rfl<|ag ?_
 exact mg rfl rfl
 intro h1
 replace h1:=bu h1
 refine zf uC rfl<|zl sr rfl (aU.at rfl)<|eh nM rfl<|zm<|kL fc rfl rfl rfl<|eE rfl rfl rfl (wrap_i64 _ om om)<|ur rfl rfl rfl rfl rfl<|zp rfl<|ag ?_
 exact mg rfl rfl
 rintro xx _ rfl
 refine ag<|zc rfl (λh2=>?_) (λh2=>?_)
 have hb:ia (cI t) t.au.length=[]∨t.au.length≠(ia (cI t) t.au.length).length+1:=by simp only[oE,dE] at h2;rcases h2 with h|h;exact .inl h;exact .inr om
 refine zr<|zA<|ag<|aV ?_
 exact⟨_,rfl,by rw[HW hb];rfl,hK⟩
 have hb:¬(ia (cI t) t.au.length=[]∨t.au.length≠(ia (cI t) t.au.length).length+1):=by simp only[Bool.or_eq_false_iff,decide_eq_false_iff_not] at h2;rintro(h|h);exact h2.1 h;exact h2.2 om
 have eN:=List.length_pos_iff.2 (λh=>hb (.inl h))
 have hl:t.au.length=(ia (cI t) t.au.length).length+1:=Classical.byContradiction λh=>hb (.inr h)
 obtain⟨b0,AF,_,_,_,rfl,_,_,_⟩:=j8 bc (iM (ps:=t.au) (i:=0) om)
 refine bA<|aQ<|zr<|zf uC rfl<|zl sr rfl (aU.at rfl)<|EG (l:=1) nM fb rfl rfl rfl rfl om bc ?_
 intro Ba bo
 have bo:fG L pT Ba (t.au.drop 1):=by rw[fG,PK];exact bo
 obtain⟨a1,c1,rfl⟩:=akV bo
 have EJ:(t.au.drop 1).length=t.au.length-1:=List.length_drop
 generalize hσe:ia (cI t) t.au.length=σ at*
 refine eh nM rfl<|zm<|ag<|cP ?_
 refine fZ (λk:Nat=>[(1,.pointer (some ⟨w.heap.size,0,none⟩)),(3,str σ),(26,.slice a1 (t.au.drop 1).length c1),(27,.int .i64 ((t.au.drop 1).length:Int)),(28,.int .i64 (k:Int))]) (λk w'=>ak [] w w'∧ak [] pT w'∧k<=(t.au.drop 1).length∧∀i,i<k->ic ((σ.getD i 0).toNat:Int) (nth t.au (i+1))=true) (λk=>(t.au.drop 1).length-k) (0) (⟨rfl,rfl,rfl,rfl,rfl⟩) (⟨hK,ak.refl [] _,om,by intro i hi;omega⟩) ?_
 intro gg qz yl hI
 obtain⟨hK,aJ,hk,dA⟩:=hI
 have bo:=bo.ext aJ;have aU:=aU.ext aJ
 have iY:=hK.size
 have ao5:=aJ.size
 have iO:=aU.lt
 refine zr<|fJ rfl rfl rfl<|ag<|aQ<|zc rfl (λh3=>?_) (λh3=>?_)
 have hp:=iM (ps:=t.au.drop 1) (i:=gg) om
 obtain⟨b1,ga,pa,pn,pc,rfl,kS,fR,iy⟩:=j8 bo hp
 rw[Wt] at kS fR iy
 have BH:=dx.nth (i:=gg+1) om
 have ow:=lX (t:=t) (i:=gg+1) om
 have BA:=xJ (nth t.au (gg+1))
 refine bA<|aQ<|cP<|zr<|zm<|zi nM fb rfl rfl om<|zL j9 fb rfl kS rfl<|eC fb rfl rfl rfl ?_
 intro nP lE bQ ao6
 have hK:=hK.grow;have hK:=hK.ext lE;have aJ:=aJ.grow;have aJ:=aJ.ext lE;have iy:=iy.grow;have iy:=iy.ext lE
 refine zA<|dk fb rfl rfl rfl bQ rfl ?_
 intro pX jR bQ ai9
 have hK:=hK.aL jR sx;have aJ:=aJ.aL jR sx;have iy:=iy.aL jR sx
 refine ag<|zr<|zA<|ag<|aQ<|zr<|zm<|zm ?_
 have mE:=ak.refl [] pX
 refine kC fc rfl rfl rfl rfl (jH om)<|ag<|cP<|aQ<|zr<|dO rfl rfl rfl<|zA<|ag ?_
 refine jh (λ_:Unit=>[(1,.pointer (some ⟨w.heap.size,0,none⟩)),(3,str σ),(5,.pointer (some ⟨qz.heap.size,0,none⟩)),(6,.bool false),(26,.slice (some ⟨b1,ga,none⟩) (t.au.drop 1).length c1),(27,.int .i64 ((t.au.drop 1).length:Int)),(28,.int .i64 (gg:Int)),(35,.int .u8 ((σ.getD gg 0).toNat:Int)),(36,.bool (decide (((σ.getD gg 0).toNat:Int)=100)||decide (((σ.getD gg 0).toNat:Int)=115)))]) (λ_ w'=>w'=pX) ?_ ?_
 refine zc rfl (λh4=>?_) (λh4=>?_)
 refine bA ?_
 exact⟨(),⟨rfl,rfl,rfl,rfl,rfl,rfl,rfl,rfl,congrArg Value.bool (zN h4)⟩,rfl⟩
 refine db<|dO rfl rfl rfl<|zA<|ag ?_
 exact⟨(),⟨rfl,rfl,rfl,rfl,rfl,rfl,rfl,rfl,congrArg Value.bool (zO h4)⟩,rfl⟩
 intro gu qy e45 hI
 obtain rfl:=hI
 refine jh (λ_:Unit=>[(1,.pointer (some ⟨w.heap.size,0,none⟩)),(3,str σ),(6,.bool (ic ((σ.getD gg 0).toNat:Int) (nth t.au (gg+1)))),(26,.slice (some ⟨b1,ga,none⟩) (t.au.drop 1).length c1),(27,.int .i64 ((t.au.drop 1).length:Int)),(28,.int .i64 (gg:Int))]) (λ_ w'=>ak [] qy w') ?_ ?_
 refine zc rfl (λh5=>?_) (λh5=>?_)
 have hz:=zP h5
 refine db<|zf zF rfl<|zl cg rfl (bQ.at rfl)<|aC (akJ _ om qy) ?_
 rintro v46 qG ⟨yV,nI⟩
 have JY:=nI.size
 have mE:=mE.ext nI
 obtain rfl:=yV
 refine zA<|ag ?_
 exact⟨(),⟨rfl,rfl,by rw[ic,iP hz];rfl,rfl,rfl,rfl⟩,mE⟩
 have hz:=zQ h5
 refine zr<|dO rfl rfl rfl<|zA<|ag<|zc rfl (λh6=>?_) (λh6=>?_)
 refine db<|zf zF rfl<|zl cg rfl (bQ.at rfl)<|aC (Pj _ om _) ?_
 rintro _ _ ⟨rfl,rfl⟩
 refine zA<|ag ?_
 exact⟨(),⟨rfl,rfl,by rw[ic,iN hz,iP h6];rfl,rfl,rfl,rfl⟩,mE⟩
 have dV:=h6
 refine zr<|dO rfl rfl rfl<|zA<|ag<|zc rfl (λh7=>?_) (λh7=>?_)
 have eK:=h7
 refine db<|zf zF rfl<|zl cg rfl (bQ.at rfl)<|aC (Pj _ om _) ?_
 rintro _ _ ⟨rfl,rfl⟩
 refine zm ?_
 apply fU 5 52 57 [52,53,54,55,56,57] (ak [] qy) rfl
 intro h8
 replace h8:=bu h8
 have Ho:=ak.refl [] qy
 obtain⟨z,Ww⟩:=Option.isSome_iff_exists.1 h8
 have Gl:z=(numeral (nth t.au (gg+1)).az).getD 0:=by rw[Ww];rfl
 refine zf zF rfl<|zl cg rfl (bQ.at rfl)<|aC (Wp _ Ww qy) ?_
 rintro v46 qG ⟨yV,nI⟩
 have JY:=nI.size
 have Ho:=Ho.ext nI
 obtain rfl:=yV
 rw[Gl]
 refine lU rfl rfl rfl rfl rfl<|zp rfl<|ag ?_
 exact mg rfl Ho
 intro h8
 replace h8:=bu h8
 have Ho:=ak.refl [] qy
 refine zs<|zs<|zs<|zs<|zp rfl<|ag ?_
 exact mg rfl Ho
 intro xx qG nI
 have mE:=mE.ext nI
 refine zA<|ag ?_
 exact⟨(),⟨rfl,rfl,by rw[ic,iN hz,iN dV,iP eK];rfl,rfl,rfl,rfl⟩,mE⟩
 have eK:=h7
 refine zr<|dO rfl rfl rfl<|zA<|ag<|zc rfl (λh9=>?_) (λh9=>?_)
 refine db<|zf zF rfl<|zl cg rfl (bQ.at rfl)<|aC (Wq _ om _) ?_
 rintro _ _ ⟨rfl,rfl⟩
 refine zA<|ag ?_
 exact⟨(),⟨rfl,rfl,by rw[ic,iN hz,iN dV,iN eK,iP h9];rfl,rfl,rfl,rfl⟩,mE⟩
 have iK:=h9
 refine zr<|dO rfl rfl rfl<|zA<|ag<|zc rfl (λgI=>?_) (λgI=>?_)
 have iL:=gI
 refine db<|zL j9 fb rfl bQ.all rfl<|aC (akK (nth t.au (gg+1)) BH [101] 2 _ _ qy (mS iy)) ?_
 rintro v46 qG ⟨yV,nI⟩
 have JY:=nI.size
 have iy:=iy.ext nI;have bQ:=bQ.ext nI;have mE:=mE.ext nI
 obtain rfl:=yV
 refine zm ?_
 apply fU 3 67 70 [67,68,69,70] (ak [] qG) rfl
 intro km
 replace km:=bu km
 have Hp:=ak.refl [] qG
 refine zL j9 fb rfl bQ.all rfl<|aC (Pl (nth t.au (gg+1)).size (nth t.au (gg+1)) (lR _) om BH false _ _ qG (mS iy)) ?_
 rintro v47 wO ⟨akX,jl⟩
 have ao8:=jl.size
 have Hp:=Hp.ext jl
 obtain rfl:=akX
 refine zp rfl<|ag ?_
 exact mg rfl Hp
 intro km
 replace km:=bu km
 have Hp:=ak.refl [] qG
 refine zs<|zs<|zp rfl<|ag ?_
 exact mg rfl Hp
 intro xx wO jl
 have mE:=mE.ext jl
 refine zA<|ag ?_
 exact⟨(),⟨rfl,rfl,by rw[ic,iN hz,iN dV,iN eK,iN iK,iP iL,show decide ((nth t.au (gg+1)).au.length=2)=decide (((nth t.au (gg+1)).au.length:Int)=2) from decide_eq_decide.2 om];rfl,rfl,rfl,rfl⟩,mE⟩
 have iL:=gI
 refine zr<|dO rfl rfl rfl<|zA<|ag<|zc rfl (λjJ=>?_) (λjJ=>?_)
 have jo:=jJ
 refine db<|zL j9 fb rfl bQ.all rfl<|aC (Pl (nth t.au (gg+1)).size (nth t.au (gg+1)) (lR _) om BH false _ _ qy (mS iy)) ?_
 rintro v46 qG ⟨yV,nI⟩
 have JY:=nI.size
 have mE:=mE.ext nI
 obtain rfl:=yV
 refine zA<|ag ?_
 exact⟨(),⟨rfl,rfl,by rw[ic,iN hz,iN dV,iN eK,iN iK,iN iL,iP jo];rfl,rfl,rfl,rfl⟩,mE⟩
 have jo:=jJ
 refine bA ?_
 exact⟨(),⟨rfl,rfl,by rw[ic,iN hz,iN dV,iN eK,iN iK,iN iL,iN jo];rfl,rfl,rfl,rfl⟩,mE⟩
 intro gu qG e46 hI
 have hK:=hK.ext hI;have aJ:=aJ.ext hI
 refine zr<|zm<|eH rfl<|ag<|zc rfl (λlD=>?_) (λlD=>?_)
 subst hσe
 have hq:ic (((ia (cI t) t.au.length).getD gg 0).toNat:Int) (nth t.au (gg+1))=false:=by simpa using lD
 refine zr<|zA<|ag<|aV ?_
 exact⟨_,rfl,by rw[aaW om hq];rfl,hK⟩
 have hq:ic ((σ.getD gg 0).toNat:Int) (nth t.au (gg+1))=true:=by simpa using lD
 refine bA<|db<|eE rfl rfl rfl (wrap_i64 _ om om)<|zm<|ag ?_
 exact⟨gg+1,⟨rfl,rfl,rfl,rfl,rfl⟩,⟨hK,aJ,om,by intro i hi;rcases Nat.lt_or_ge i gg with h|h;exact dA i h;rw[show i=gg by omega];exact hq⟩,om⟩
 subst hσe
 have hq:=aaX hb (λi hi=>dA i om)
 refine gF<|gH rfl<|zr<|zA<|ag<|aV ?_
 exact⟨_,rfl,by rw[hq];rfl,hK⟩
theorem akY (t:aA) (dx:WF t) (v:Value) (L:List Nat) (w:World) (hv:bS L w v t):
  bZ Tryz.prog 62 [v] w λr w'=>r= .bool (rQ t)∧ak [] w w':=by
 have dI:=hv
 obtain⟨a,n,c,rfl,hn,bc⟩:=dN hv
 have hK:=ak.refl [] w
 refine cU [.tmp 2] 11 Tryz.func62 rfl Zx rfl rfl ?_
 refine zr<|fA rfl ?_
 intro w1 aJ aU dV
 have hK:=hK.ext aJ;have dI:=dI.ext aJ
 refine zA<|ag<|zr<|zL j9 fb rfl aU.all rfl<|aC (Hl t dx _ L w1 dI) ?_
 rintro v2 w2 ⟨dz,aq⟩
 have dR:=aq.size
 have hK:=hK.ext aq;have dI:=dI.ext aq;have aU:=aU.ext aq
 obtain rfl:=dz
 refine cW rfl rfl<|zm ?_
 apply fo 4 6 10 [6,7,8,9,10] (ak [] w2) rfl
 intro h1
 replace h1:=bu h1
 have Hq:=ak.refl [] w2
 refine zs<|zs<|zs<|zp rfl<|ag ?_
 exact mg rfl Hq
 intro h1
 replace h1:=bu h1
 have Hq:=ak.refl [] w2
 refine zL j9 fb rfl aU.all rfl<|aC (Hl t dx _ L w2 dI) ?_
 rintro v3 w3 ⟨et,aK⟩
 have gd:=aK.size
 have Hq:=Hq.ext aK
 obtain rfl:=et
 refine cW rfl rfl<|zp rfl<|ag ?_
 exact mg rfl Hq
 intro xx w4 aD
 have hK:=hK.ext aD
 refine zA<|ag<|aV ?_
 exact⟨_,rfl,rfl,hK⟩
def akZ (L:List Nat) (d:Nat) (s:aj) (v:Value) (w:World):Prop:=
 ∃t tv r ok,v= .tuple #[tv,str r,.bool ok]∧bS L w tv t∧BG d s t r ok
theorem ak0:∀(d:Nat) (s:aj) (L:List Nat) (w:World),d<=60->s.length<=12000->(∀x,x∈L->x<w.heap.size)->
  bZ Tryz.prog 64 [str s,.int .i64 ((60:Int)-(d:Int))] w λv w'=>akZ L d s v w'∧ak [] w w':=by
 intro d
 induction d using Nat.strongRecOn with
 |_ d ih=>
 intro s L w hd hs hL
 have hK:=ak.refl [] w
 refine lz [.cell 4 58,.tmp 5,.tmp 6] 78 Tryz.func64 rfl Zy rfl rfl rfl ?_
 refine zr<|eC fb rfl rfl rfl ?_
 intro w1 aJ aI dV
 have hK:=hK.grow;have hK:=hK.ext aJ
 refine zA<|zA<|ag<|aQ<|zr<|zm<|aC (akC _ _ _) ?_
 rintro _ _ ⟨rfl,rfl⟩
 refine eH rfl<|ag<|zc rfl (λh1=>?_) (λh1=>?_)
 have wu:=h1
 refine zr<|zA<|ag<|aQ<|cP ?_
 refine fZ (λk:Nat=>[(0,str s),(1,.int .i64 ((60:Int)-(d:Int))),(4,.pointer (some ⟨w.heap.size,0,none⟩)),(7,.int .i64 (k:Int))]) (λk w'=>w'=w1∧k<=(s.takeWhile fB).length) (λk=>s.length-k) (0) (⟨rfl,rfl,rfl,rfl⟩) (⟨rfl,om⟩) ?_
 intro gg w2 e2 hI
 obtain⟨rfl,Df⟩:=hI
 have E4:=Ku fB s gg Df
 have gw:=ES fB s
 refine aQ<|zr<|zm<|zm<|kL fc rfl rfl rfl<|fJ rfl rfl rfl<|zm ?_
 apply fU 5 19 24 [19,20,21,22,23,24] (λw'=>w2=w') rfl
 intro h2
 replace h2:=bu h2
 refine zm<|zm<|kC fc rfl rfl rfl rfl (jH om)<|aC (akH _ _) ?_
 rintro _ _ ⟨rfl,rfl⟩
 refine zp rfl<|ag ?_
 exact mg rfl rfl
 intro h2
 replace h2:=bu h2
 refine zs<|zs<|zs<|zs<|zp rfl<|ag ?_
 exact mg rfl rfl
 rintro xx _ rfl
 refine ag<|zc rfl (λh3=>?_) (λh3=>?_)
 have eU:=E4.2 (by simpa using h3)
 refine bA<|cP<|db<|zm<|eE rfl rfl rfl (wrap_i64 _ om om)<|zA<|ag ?_
 exact⟨gg+1,⟨rfl,rfl,rfl,rfl⟩,⟨rfl,om⟩,om⟩
 have E5:gg=(s.takeWhile fB).length:=Nat.le_antisymm Df (Nat.le_of_not_lt (λhh=>by have hx:=E4.1 hh;rw[hx.2,Bool.and_true,decide_eq_false_iff_not] at h3;omega))
 refine gF<|gH rfl<|aQ ?_
 refine qf eu (cQ w.heap.size ([str ((s.drop 0).take (gg-0)),.slice none 0 0]) 58) 12 (rA 27 9++[100009,5,6]) (rA 27 9++[100009,5,6]) [[],[],[0,1],[2],[],[],[4,5],[],[7],[3],[6],[8]] [λv _=>v=(str s),λv _=>v=(.int .i64 (gg:Int)),λv _=>v=(str ((s.drop 0).take (gg-0))),λv _=>v=(.agg #[str ((s.drop 0).take (gg-0)),.slice none 0 0]),λv _=>v=(str s),λv _=>v=(.int .i64 (gg:Int)),λv _=>v=(str ((s.drop gg).take (s.length-gg))),λv _=>v=(.int .i64 (gg:Int)),λv _=>v=(.bool (decide ((0:Int)<(gg:Int)))),λ_ ww=>aY ww w.heap.size ([str ((s.drop 0).take (gg-0)),.slice none 0 0]).toArray 58,λv _=>v=(str ((s.drop gg).take (s.length-gg))),λv _=>v=(.bool (decide ((0:Int)<(gg:Int))))] de (cX (cX (cX (cX (cX (cX (cX (cX (cX (C3 (cX (cX trivial)))))))))))) (λwd aB=>?_) ?_
 refine bN ?_ ?_
 intro x vs w3 e aK hd he
 replace aK:=(cQ w.heap.size ([str ((s.drop 0).take (gg-0)),.slice none 0 0]) 58).trans aB aK
 replace he:e=aM (aN _ x _) []:=he
 subst he
 refine zm<|ag ?_
 exact dn ((cQ w.heap.size ([str ((s.drop 0).take (gg-0)),.slice none 0 0]) 58).refl _) rfl
 refine bN ?_ ?_
 intro x vs w3 e aK hd he
 replace aK:=(cQ w.heap.size ([str ((s.drop 0).take (gg-0)),.slice none 0 0]) 58).trans aB aK
 replace he:e=aM (aN _ x _) []:=he
 subst he
 refine zm<|ag ?_
 exact dn ((cQ w.heap.size ([str ((s.drop 0).take (gg-0)),.slice none 0 0]) 58).refl _) rfl
 refine bN ?_ ?_
 intro x vs w3 e aK hd he
 have aR:(vs 0=(str s))∧(vs 1=(.int .i64 (gg:Int))):=hd
 obtain⟨d0,d1⟩:=aR
 replace aK:=(cQ w.heap.size ([str ((s.drop 0).take (gg-0)),.slice none 0 0]) 58).trans aB aK
 replace he:e=aM (aN _ x _) [(27,vs 0),(28,vs 1)]:=he
 rw[d0,d1] at he
 subst he
 refine Bf fc rfl rfl rfl (.inl ⟨rfl,rfl⟩) (.inr ⟨_,rfl⟩) om om<|ag ?_
 exact dn ((cQ w.heap.size ([str ((s.drop 0).take (gg-0)),.slice none 0 0]) 58).refl _) rfl
 refine bN ?_ ?_
 intro x vs w3 e aK hd he
 have d2:vs 2=(str ((s.drop 0).take (gg-0))):=hd
 replace aK:=(cQ w.heap.size ([str ((s.drop 0).take (gg-0)),.slice none 0 0]) 58).trans aB aK
 replace he:e=aM (aN _ x _) [(29,vs 2)]:=he
 rw[d2] at he
 subst he
 refine j6 (Z2 _ _) rfl rfl<|ag ?_
 exact dn ((cQ w.heap.size ([str ((s.drop 0).take (gg-0)),.slice none 0 0]) 58).refl _) rfl
 refine bN ?_ ?_
 intro x vs w3 e aK hd he
 replace aK:=(cQ w.heap.size ([str ((s.drop 0).take (gg-0)),.slice none 0 0]) 58).trans aB aK
 replace he:e=aM (aN _ x _) []:=he
 subst he
 refine zm<|ag ?_
 exact dn ((cQ w.heap.size ([str ((s.drop 0).take (gg-0)),.slice none 0 0]) 58).refl _) rfl
 refine bN ?_ ?_
 intro x vs w3 e aK hd he
 replace aK:=(cQ w.heap.size ([str ((s.drop 0).take (gg-0)),.slice none 0 0]) 58).trans aB aK
 replace he:e=aM (aN _ x _) []:=he
 subst he
 refine zm<|ag ?_
 exact dn ((cQ w.heap.size ([str ((s.drop 0).take (gg-0)),.slice none 0 0]) 58).refl _) rfl
 refine bN ?_ ?_
 intro x vs w3 e aK hd he
 have aR:(vs 4=(str s))∧(vs 5=(.int .i64 (gg:Int))):=hd
 obtain⟨d4,d5⟩:=aR
 replace aK:=(cQ w.heap.size ([str ((s.drop 0).take (gg-0)),.slice none 0 0]) 58).trans aB aK
 replace he:e=aM (aN _ x _) [(31,vs 4),(32,vs 5)]:=he
 rw[d4,d5] at he
 subst he
 refine Bf fc rfl rfl rfl (.inr ⟨_,rfl⟩) (.inl ⟨rfl,rfl⟩) om om<|ag ?_
 exact dn ((cQ w.heap.size ([str ((s.drop 0).take (gg-0)),.slice none 0 0]) 58).refl _) rfl
 refine bN ?_ ?_
 intro x vs w3 e aK hd he
 replace aK:=(cQ w.heap.size ([str ((s.drop 0).take (gg-0)),.slice none 0 0]) 58).trans aB aK
 replace he:e=aM (aN _ x _) []:=he
 subst he
 refine zm<|ag ?_
 exact dn ((cQ w.heap.size ([str ((s.drop 0).take (gg-0)),.slice none 0 0]) 58).refl _) rfl
 refine bN ?_ ?_
 intro x vs w3 e aK hd he
 have d7:vs 7=(.int .i64 (gg:Int)):=hd
 replace aK:=(cQ w.heap.size ([str ((s.drop 0).take (gg-0)),.slice none 0 0]) 58).trans aB aK
 replace he:e=aM (aN _ x _) [(34,vs 7)]:=he
 rw[d7] at he
 subst he
 refine jx rfl rfl rfl rfl rfl<|ag ?_
 exact dn ((cQ w.heap.size ([str ((s.drop 0).take (gg-0)),.slice none 0 0]) 58).refl _) rfl
 refine bN ?_ ?_
 intro x vs w3 e aK hd he
 have d3:vs 3=(.agg #[str ((s.drop 0).take (gg-0)),.slice none 0 0]):=hd
 replace aK:=(cQ w.heap.size ([str ((s.drop 0).take (gg-0)),.slice none 0 0]) 58).trans aB aK
 obtain⟨us,uY,uZ⟩:=aK.2.2 ⟨_,(by rfl),aI⟩
 replace he:e=aM (aN _ x _) [(30,vs 3)]:=he
 rw[d3] at he
 subst he
 refine dk fb rfl rfl rfl uZ (by rw[uY];rfl) ?_
 intro w4 aD hb iL
 refine ag ?_
 exact dn ⟨aD,λ_=>hb,λ_=>⟨_,rfl,hb⟩⟩ hb
 refine bN ?_ ?_
 intro x vs w3 e aK hd he
 have d6:vs 6=(str ((s.drop gg).take (s.length-gg))):=hd
 replace aK:=(cQ w.heap.size ([str ((s.drop 0).take (gg-0)),.slice none 0 0]) 58).trans aB aK
 replace he:e=aM (aN _ x _) [(33,vs 6)]:=he
 rw[d6] at he
 subst he
 refine zA<|ag ?_
 exact dn ((cQ w.heap.size ([str ((s.drop 0).take (gg-0)),.slice none 0 0]) 58).refl _) rfl
 refine bN ?_ ?_
 intro x vs w3 e aK hd he
 have d8:vs 8=(.bool (decide ((0:Int)<(gg:Int)))):=hd
 replace aK:=(cQ w.heap.size ([str ((s.drop 0).take (gg-0)),.slice none 0 0]) 58).trans aB aK
 replace he:e=aM (aN _ x _) [(35,vs 8)]:=he
 rw[d8] at he
 subst he
 refine zA<|ag ?_
 exact dn ((cQ w.heap.size ([str ((s.drop 0).take (gg-0)),.slice none 0 0]) 58).refl _) rfl
 exact trivial
 intro x vs qz tV bJ
 have d0:vs 0=(str s):=bJ 0 de
 have d1:vs 1=(.int .i64 (gg:Int)):=bJ 1 de
 have d2:vs 2=(str ((s.drop 0).take (gg-0))):=bJ 2 de
 have d3:vs 3=(.agg #[str ((s.drop 0).take (gg-0)),.slice none 0 0]):=bJ 3 de
 have d4:vs 4=(str s):=bJ 4 de
 have d5:vs 5=(.int .i64 (gg:Int)):=bJ 5 de
 have d6:vs 6=(str ((s.drop gg).take (s.length-gg))):=bJ 6 de
 have d7:vs 7=(.int .i64 (gg:Int)):=bJ 7 de
 have d8:vs 8=(.bool (decide ((0:Int)<(gg:Int)))):=bJ 8 de
 have d9:aY qz w.heap.size ([str ((s.drop 0).take (gg-0)),.slice none 0 0]).toArray 58:=bJ 9 de
 have d10:vs 10=(str ((s.drop gg).take (s.length-gg))):=bJ 10 de
 have d11:vs 11=(.bool (decide ((0:Int)<(gg:Int)))):=bJ 11 de
 have hK:=hK.aL tV.1 sx
 have aI:=d9
 change OW _ _ _ _ [] (aM (aN _ x _) (zZ 27 [vs 0,vs 1,vs 2,vs 3,vs 4,vs 5,vs 6,vs 7,vs 8]++[(100009,vs 9),(5,vs 10),(6,vs 11)])) _
 rw[d0,d1,d2,d3,d4,d5,d6,d7,d8,d10,d11]
 refine ag<|aV<|⟨[_,_,_],⟨gR j9 fb rfl aI rfl,rfl,rfl⟩,⟨.mk (s.takeWhile fB) [],_,s.dropWhile fB,_,by rw[List.drop_zero,Nat.sub_zero,E5,HF,Lf,C6];rfl,ly oV,?_⟩,hK⟩
 unfold BG
 rw[abw wu]
 by_cases hz:s.takeWhile fB=[]
 rw[iP hz];exact .inr ⟨rfl,by simp[hz]⟩
 rw[iN hz];refine .inl ⟨rfl,dT ?_⟩;have:=List.length_pos_iff.2 hz;omega
 obtain⟨r0,rfl⟩:=abu h1
 refine bA<|aQ<|zr<|zm<|dO rfl rfl rfl<|ag<|zc rfl (λh4=>?_) (λh4=>?_)
 have OL:d=0:=by omega
 refine zr<|j6 (KC _) rfl rfl<|dk fb rfl rfl rfl aI rfl ?_
 intro w2 aq aI eK
 have hK:=hK.aL aq sx
 refine zA<|zA<|ag<|aV ?_
 exact⟨[_,_,_],⟨gR j9 fb rfl aI rfl,rfl,rfl⟩,⟨.mk [] [],_,[],_,rfl,ly oV,.inr ⟨by rw[OL];simp[fa],rfl⟩⟩,hK⟩
 have aR:∃d',d=d'+1:=⟨d-1,om⟩
 obtain⟨d',rfl⟩:=aR
 refine bA<|zr<|eC fb rfl rfl rfl ?_
 intro w2 aq dv eK
 have hK:=hK.grow;have hK:=hK.ext aq;have aI:=aI.grow;have aI:=aI.ext aq
 refine ag<|cP ?_
 have apa:=aI.lt
 refine fZ (λq:List aA×aj×Option Addr×Nat×Option Nat=>[(0,str q.2.1),(1,.int .i64 ((60:Int)-((d'+1:Nat):Int))),(4,.pointer (some ⟨w.heap.size,0,none⟩)),(8,.pointer (some ⟨w1.heap.size,0,none⟩))]) (λq w'=>ak [] w w'∧aY w' w.heap.size [str [],.slice none 0 0].toArray 58∧aY w' w1.heap.size [str [],.slice q.2.2.1 q.1.length q.2.2.2.1].toArray 58∧Gr w.heap.size (w.heap.size::w1.heap.size::L) w' 58 2 (.slice q.2.2.1 q.1.length q.2.2.2.1) q.2.2.2.2 (dG q.1)∧0<q.2.1.length∧q.2.1.length+q.1.length<=12000∧mQ (d'+1) r0=(mQ (d'+1) (q.2.1.drop 1)).map (λp=>(q.1++p.1,p.2))) (λq=>q.2.1.length) (([],40::r0,none,0,none)) (⟨rfl,rfl,rfl,rfl⟩) (⟨hK,aI,dv,Gr.nil (by intro x hx;simp at hx;rcases hx with rfl|rfl|hx;omega;omega;have:=hL x hx;omega) om,sm,by simp at hs⊢;omega,sm⟩) ?_
 intro gg w3 e3 hI
 obtain⟨acc,sc,a,cc,g⟩:=gg
 dsimp only at hI⊢
 obtain⟨hK,aI,dv,hO,SN,apb,ss⟩:=hI
 have iY:=hK.size
 have Wx:=aI.lt
 have apc:=dv.lt
 refine cP<|zr<|zm<|Bf (l:=1) fc rfl rfl rfl (.inr ⟨_,rfl⟩) (.inl ⟨rfl,rfl⟩) om om<|zm<|eE rfl rfl rfl (show IntKind.i64.wrap ((60:Int)-((d'+1:Nat):Int)+1)=(60:Int)-(d':Int) by rw[wrap_i64 _ om om];omega) ?_
 rw[Lf]
 refine aC (ih d' om (sc.drop 1) (g.toList++(w.heap.size::w1.heap.size::L)) w3 om so hO.all) ?_
 rintro v4 w4 ⟨eJ,aD⟩
 have gK:=aD.size
 have hK:=hK.ext aD;have aI:=aI.ext aD;have dv:=dv.ext aD;have hO:=hO.ext aD
 obtain⟨t,tv,r,ok,rfl,ht,hm⟩:=eJ
 obtain⟨pa,pn,pc,rfl,fR,bc⟩:=dN ht
 subst fR
 refine zm<|zx (i:=0) rfl rfl<|zx (i:=1) rfl rfl<|zx (i:=2) rfl rfl<|eC fb rfl rfl rfl ?_
 intro w5 aT cT jo
 have hK:=hK.grow;have hK:=hK.ext aT;have aI:=aI.grow;have aI:=aI.ext aT;have dv:=dv.grow;have dv:=dv.ext aT;have hO:=hO.alloc aT jo;have ht:=ht.grow;have ht:=ht.ext aT
 refine dk fb rfl rfl rfl cT rfl ?_
 intro w6 bD cT lB
 have hK:=hK.aL bD sx;have aI:=aI.aL bD sx;have dv:=dv.aL bD sx;have hO:=hO.aL bD sx;have ht:=ht.aL bD sx
 refine zA<|zA<|ag<|aQ<|zr<|zm<|eH rfl<|zm ?_
 apply fo 3 50 53 [50,51,52,53] (λw'=>w6=w') rfl
 intro h5
 replace h5:=bu h5
 refine zs<|zs<|zp rfl<|ag ?_
 exact mg rfl rfl
 intro h5
 replace h5:=bu h5
 refine zm<|cW rfl rfl<|zp rfl<|ag ?_
 exact mg rfl rfl
 rintro xx _ rfl
 refine zm ?_
 apply fo 9 54 63 [54,55,56,57,58,59,60,61,62,63] (λw'=>w6=w') rfl
 intro h6
 replace h6:=bu h6
 refine zs<|zs<|zs<|zs<|zs<|zs<|zs<|zs<|zp rfl<|ag ?_
 exact mg rfl rfl
 intro h6
 replace h6:=bu h6
 simp at h6
 have oC:=List.length_pos_iff.2 h6.2
 refine zm<|kC (i:=0) fc rfl rfl rfl rfl (jH oC)<|ur rfl rfl rfl rfl rfl<|zm ?_
 apply fU 4 58 62 [58,59,60,61,62] (λw'=>w6=w') rfl
 intro h7
 replace h7:=bu h7
 refine zm<|kC (i:=0) fc rfl rfl rfl rfl (jH oC)<|ur rfl rfl rfl rfl rfl<|zp rfl<|ag ?_
 exact mg rfl rfl
 intro h7
 replace h7:=bu h7
 refine zs<|zs<|zs<|zp rfl<|ag ?_
 exact mg rfl rfl
 rintro xx _ rfl
 refine zp rfl<|ag ?_
 exact mg rfl rfl
 rintro xx _ rfl
 refine ag<|zc rfl (λh8=>?_) (λh8=>?_)
 have hR:fa (d'+1) (40::r0)=none:=by rw[C7,ss,abz hm h8];rfl
 refine zr<|j6 (KC _) rfl rfl<|dk fb rfl rfl rfl aI rfl ?_
 intro w7 cv aI qg
 have hK:=hK.aL cv sx
 refine zA<|zA<|ag<|aV ?_
 exact⟨[_,_,_],⟨gR j9 fb rfl aI rfl,rfl,rfl⟩,⟨.mk [] [],_,[],_,rfl,ly oV,.inr ⟨hR,rfl⟩⟩,hK⟩
 obtain⟨nK,oC,iy⟩:=abA hm h8
 refine bA<|zr<|zf uC rfl<|zl sr rfl (dv.at rfl)<|zL j9 fb rfl cT.all rfl<|gA nM fb rfl rfl ?_
 intro w7 cv ak1 qg
 have hK:=hK.ext cv;have aI:=aI.ext cv;have dv:=dv.ext cv;have hO:=hO.ext cv;have ht:=ht.ext cv
 refine K7 nM fb rfl rfl rfl rfl rfl rfl hO ak1 ht.K8 om ?_
 intro a2 nN g2 w8 gP cu
 have dy:=cu.size
 have hK:=hO.since hK cu
 have aI:=aI.aL cu (hO.Dl sm);have dv:=dv.aL cu (hO.Dl sm)
 refine zf uC rfl<|gX KO rfl rfl rfl dv rfl ?_
 intro w9 aG dv dP
 have hK:=hK.aL aG sx;have aI:=aI.aL aG sx;have gP:=gP.aL aG sx
 refine ag<|zr<|zm<|zA<|ag<|zr<|zm<|kC (i:=0) fc rfl rfl rfl rfl (jH nK)<|dO rfl rfl rfl<|ag<|zc rfl (λh9=>?_) (λh9=>?_)
 have zJ:r.getD 0 0=41:=UInt8.toNat_inj.1 (by have Bu:(41:UInt8).toNat=41:=rfl;rw[Bu];omega)
 have hR:fa (d'+1) (40::r0)=some (.mk [] (acc++[t]),r.drop 1):=by rw[C7,ss,iy,iP zJ];rfl
 refine aQ ?_
 refine qf eu (cQ w.heap.size ([str [],.slice a2 (acc++[t]).length nN]) 58) 6 [75,76,77,100003,5,6] [75,76,77,100003,5,6] [[],[],[1],[0],[2],[]] [λv _=>v=(.agg #[str [],.slice a2 (acc++[t]).length nN]),λv _=>v=(str r),λv _=>v=(str ((r.drop 1).take (r.length-1))),λ_ ww=>aY ww w.heap.size ([str [],.slice a2 (acc++[t]).length nN]).toArray 58,λv _=>v=(str ((r.drop 1).take (r.length-1))),λv _=>v=(.bool true)] de (cX (cX (cX (C3 (cX (cX trivial)))))) (λwd aB=>?_) ?_
 refine bN ?_ ?_
 intro x vs cN e bU hd he
 replace bU:=(cQ w.heap.size ([str [],.slice a2 (acc++[t]).length nN]) 58).trans aB bU
 have dv:=dv.aL bU.1 sx
 replace he:e=aM (aN _ x _) []:=he
 subst he
 refine zL j9 fb rfl dv.all rfl<|ag ?_
 exact dn ((cQ w.heap.size ([str [],.slice a2 (acc++[t]).length nN]) 58).refl _) rfl
 refine bN ?_ ?_
 intro x vs cN e bU hd he
 replace bU:=(cQ w.heap.size ([str [],.slice a2 (acc++[t]).length nN]) 58).trans aB bU
 replace he:e=aM (aN _ x _) []:=he
 subst he
 refine zm<|ag ?_
 exact dn ((cQ w.heap.size ([str [],.slice a2 (acc++[t]).length nN]) 58).refl _) rfl
 refine bN ?_ ?_
 intro x vs cN e bU hd he
 have d1:vs 1=(str r):=hd
 replace bU:=(cQ w.heap.size ([str [],.slice a2 (acc++[t]).length nN]) 58).trans aB bU
 replace he:e=aM (aN _ x _) [(76,vs 1)]:=he
 rw[d1] at he
 subst he
 refine Bf (l:=1) fc rfl rfl rfl (.inr ⟨_,rfl⟩) (.inl ⟨rfl,rfl⟩) om om<|ag ?_
 exact dn ((cQ w.heap.size ([str [],.slice a2 (acc++[t]).length nN]) 58).refl _) rfl
 refine bN ?_ ?_
 intro x vs cN e bU hd he
 have d0:vs 0=(.agg #[str [],.slice a2 (acc++[t]).length nN]):=hd
 replace bU:=(cQ w.heap.size ([str [],.slice a2 (acc++[t]).length nN]) 58).trans aB bU
 obtain⟨us,uY,uZ⟩:=bU.2.2 ⟨_,(by rfl),aI⟩
 replace he:e=aM (aN _ x _) [(75,vs 0)]:=he
 rw[d0] at he
 subst he
 refine dk fb rfl rfl rfl uZ (by rw[uY];rfl) ?_
 intro eW cL hb uF
 refine ag ?_
 exact dn ⟨cL,λ_=>hb,λ_=>⟨_,rfl,hb⟩⟩ hb
 refine bN ?_ ?_
 intro x vs cN e bU hd he
 have d2:vs 2=(str ((r.drop 1).take (r.length-1))):=hd
 replace bU:=(cQ w.heap.size ([str [],.slice a2 (acc++[t]).length nN]) 58).trans aB bU
 replace he:e=aM (aN _ x _) [(77,vs 2)]:=he
 rw[d2] at he
 subst he
 refine zA<|ag ?_
 exact dn ((cQ w.heap.size ([str [],.slice a2 (acc++[t]).length nN]) 58).refl _) rfl
 refine bN ?_ ?_
 intro x vs cN e bU hd he
 replace bU:=(cQ w.heap.size ([str [],.slice a2 (acc++[t]).length nN]) 58).trans aB bU
 replace he:e=aM (aN _ x _) []:=he
 subst he
 refine zA<|ag ?_
 exact dn ((cQ w.heap.size ([str [],.slice a2 (acc++[t]).length nN]) 58).refl _) rfl
 exact trivial
 intro x vs pj jB bJ
 have d0:vs 0=(.agg #[str [],.slice a2 (acc++[t]).length nN]):=bJ 0 de
 have d1:vs 1=(str r):=bJ 1 de
 have d2:vs 2=(str ((r.drop 1).take (r.length-1))):=bJ 2 de
 have d3:aY pj w.heap.size ([str [],.slice a2 (acc++[t]).length nN]).toArray 58:=bJ 3 de
 have d4:vs 4=(str ((r.drop 1).take (r.length-1))):=bJ 4 de
 have d5:vs 5=(.bool true):=bJ 5 de
 have hK:=hK.aL jB.1 sx;have gP:=gP.aL jB.1 sx
 have aI:=d3
 change OW _ _ _ _ [] (aM (aN _ x _) (zZ 75 [vs 0,vs 1,vs 2]++[(100003,vs 3),(5,vs 4),(6,vs 5)])) _
 rw[d0,d1,d2,d4,d5]
 refine ag<|aV ?_
 exact⟨[_,_,_],⟨gR j9 fb rfl aI rfl,rfl,rfl⟩,⟨.mk [] (acc++[t]),_,r.drop 1,_,by rw[Lf];rfl,ly (gP.trees.jj (λx hx=>by simp[hx])),.inl ⟨hR,rfl⟩⟩,hK⟩
 have zJ:r.getD 0 0≠41:=λh=>h9 (by rw[h];rfl)
 refine bA ?_
 exact⟨(acc++[t],r,a2,nN,g2),⟨rfl,rfl,rfl,rfl⟩,⟨hK,aI,dv,gP.jj (λx hx=>mK _ hx),nK,by simp at oC⊢;omega,by rw[ss,iy,iN zJ,map_append]⟩,by simp at oC;dsimp only;omega⟩
end Go.Proofs.YtigijcjccmdmhaaGreatDoor
