/- Lemmas for the law FnStart, no statement of their own: no conditions. -/
import Derived.Test.YthbhobaiopccaaaGreatDoorLj
set_option maxHeartbeats 4000000
set_option linter.unusedVariables false
set_option linter.unusedSimpArgs false
namespace Go.Proofs.YthbhobaiopccaaaGreatDoor
open Go
variable {w w':World} {B b b6 b7 i q q':Nat} {L:List Nat} {v v1 v2:Value} {g g1 g2:Option Nat} {gss:List (Option Nat×Option Nat)} {vss:List (List Value)} {bs:List Bk} {xs ys:List ai}
def E0:List ai:=[[48],[49],[50],[51],[55],[45,49],[52,48,48],[45,57,57,57]]
theorem Pw (ns ts:List ai) (want:ai) (hl:ns.length=ts.length) (El:ns.length<=1000) (hs:∀x,x∈ns->x.length<=8000) (br q:Nat) (hq:q<=900000000) (v1 v2:Value) (w:World) (h:dB w br q) (bM:bc [br] w v1 ns) (bT:bc [br] w v2 ts):
  bz Tryz.prog 160 [.pointer (some ⟨br,0,none⟩),.agg #[v1,v2],str want] w λr w'=>(∃x,r=str x∧x.length<=8000)∧dB w' br (q+2)∧aj [br] w w':=by
 obtain⟨a1,n1,c1,rfl,fi⟩:=dI bM
 obtain⟨a2,n2,c2,rfl,eK⟩:=dI bT
 subst fi
 have ig:=h.lt
 have hK:=aj.refl [] w
 refine bX [.tmp 6] 67 Tryz.func160 rfl abi rfl rfl ?_
 refine zr<|eu rfl λw1 aI aF db=>gQ aI bM bT hK h λbM bT hK h=>?_
 refine zA<|aZ<|zr<|fN bh bf λw2 az je rC=>?_
 have aI:=az
 have amF:=je.kL
 have arw:=hK.size
 refine W ?_
 refine eH (λq9:Nat×Value×Option Nat=>[(0,.pointer (some ⟨br,0,none⟩)),(2,str want),(4,.pointer (some ⟨w.heap.size,0,none⟩)),(7,q9.2.1),(8,.int .i64 (q9.1:Int))]) (λq9 w'=>aj [] w1 w'∧q9.1<=ns.length∧∃xs,cz w' 9 q9.2.1 q9.2.2 xs∧(∀x,x∈xs->x∈ns)∧xs.length<=q9.1∧∀b,q9.2.2=some b->w1.heap.size<=b) (λq9=>ns.length-q9.1) ((0,.slice (some ⟨w1.heap.size,0,none⟩) 0 0,some w1.heap.size)) (⟨rfl,rfl,rfl,rfl,rfl⟩) (⟨aI,sm,[],amF,sm,sm,by intro b hb;cases hb;exact lR _⟩) λgg w3 e3 hI=>?_
 obtain⟨k,vf,gf⟩:=gg
 obtain⟨dh,hk,xs,hO,yL,kV,fM⟩:=hI
 dsimp only at hk hO kV fM
 refine la dh bM bT hK h aF λbM bT hK h aF=>?_
 refine W ?_
 refine zc rfl (λh1=>?_) (λh1=>?_)
 have az:k<ns.length:=(by simp at h1;omega)
 have fu:=nS bM az
 obtain⟨b9,ub,e9,iy⟩:=fu
 cases e9
 have rF:=List.mem_of_getElem? (jN az)
 refine WZ ?_
 apply dV cT 12 [19,20,21,22,23,24,25,26,27,28,29,30] [[],[0],[],[2],[],[4],[],[5,6],[7],[1,3,8],[],[9,10]] (it [_,_,_,_,_,_,_,_,_,_,_,_]) de rfl
 intro wd aB
 refine vc (λ_ _ _=>WZ pv) ?_
 refine vk aB (λx w4 aO=>?_) ?_
 have aF:=aF.ext aO
 refine WZ ?_
 exact pv
 refine vc (λ_ _ _=>WZ pv) ?_
 refine vk aB (λx w4 aO=>?_) ?_
 have aF:=aF.ext aO
 refine WZ ?_
 exact pv
 refine vc (λ_ _ _=>WZ pv) ?_
 refine vk aB (λx w4 aO=>?_) ?_
 have aF:=aF.ext aO
 refine WZ ?_
 exact pv
 refine vc (λ_ _ _=>WZ pv) ?_
 refine VA ?_
 refine vk aB (λx w4 aO=>?_) ?_
 refine bI aO bM bT λbM bT=>?_
 refine aA (GB ns ts hl om (cv ns k) _ _ _ _ w4 bM bT) ?_
 rintro _ w5 ⟨rfl,aP⟩
 have og:=aP.size
 exact pk aP
 exact VZ
 intro x mI ie
 refine gQ ie aF hO dh iy λaF hO dh iy=>?_
 change OW _ _ _ _ [] (bm (bg _ x _) (zZ 19 [_,_,_,_,_,_,_,_,_,_,_,_])) _
 refine aZ<|zc rfl (λh2=>?_) (λh2=>?_)
 refine WI ?_
 refine zi bh bf rfl rfl az<|W ?_
 refine fF bh bf rfl rfl λow iJ Ki Xj=>bI iJ hO dh λhO dh=>?_
 refine rM bh bf rfl rfl rfl rfl rfl rfl hO Ki om λv9 g9 pK cO rI eA=>?_
 have XO:=dh.size
 have dh:=dh.since rI (λx hx=>.inr (fM x (by simpa using hx)))
 have arx:=dh.size
 refine WA ?_
 refine nU rfl rfl rfl rfl rfl (kR (k+1) om _ om)<|zA<|aZ ?_
 exact⟨(k+1,v9,g9),⟨rfl,rfl,rfl,rfl,rfl⟩,⟨dh,by show k+1<=_;omega,xs++[cv ns k],cO,λx hx=>by rcases mA.1 hx with h9|h9;(·exact yL x h9);(·simp only[List.mem_singleton] at h9;rw[h9];exact rF),by show(xs++[cv ns k]).length<=k+1;rw[lA];simp;omega,λb hb=>by rcases eA with h9|h9;(·exact fM b (h9.symm.trans hb));(·rw[h9] at hb;cases hb;omega)⟩,by show ns.length-(k+1)<ns.length-k;omega⟩
 refine gz<|lp<|zm<|nU rfl rfl rfl rfl rfl (kR (k+1) om _ om)<|zA<|aZ ?_
 exact⟨(k+1,_,gf),⟨rfl,rfl,rfl,rfl,rfl⟩,⟨dh,by show k+1<=_;omega,xs,hO,yL,by show xs.length<=k+1;omega,fM⟩,by show ns.length-(k+1)<ns.length-k;omega⟩
 have bY:=jw hO
 obtain⟨af,cf,ef⟩:=bY
 subst ef
 have aC:=hK.mono (L':=[br]) sm
 have amG:=hK.size
 have Eg:∀b,gf=some b->w.heap.size<=b:=(λb hb=>by have:=fM b hb;omega)
 refine W ?_
 refine xl (t:=42) rfl (λh3=>?_) (λh3=>?_)
 replace h3:=jG h3
 have jS:0<xs.length:=(by simp at h3;omega)
 refine zm<|aA (lP 4 de de br q om w3 h) ?_
 rintro v44 w4 ⟨⟨z,XP,hz⟩,h,iJ⟩
 subst XP
 have aC:=aC.trans iJ
 have hO:=hO.aG iJ (λb hb aN=>by have:=Eg b hb;simp at aN;omega)
 have amG:=aC.size
 refine W ?_
 refine zc rfl (λh4=>?_) (λh4=>?_)
 refine W ?_
 refine aA (lP xs.length jS om br (q+1) om w4 h) ?_
 rintro v51 w5 ⟨⟨z2,OU,dJ⟩,h,kQ⟩
 subst OU
 have aC:=aC.trans kQ
 have hO:=hO.aG kQ (λb hb aN=>by have:=Eg b hb;simp at aN;omega)
 have fu:=nS hO.rs dJ
 obtain⟨b9,ub,e9,iy⟩:=fu
 cases e9
 have rF:=yL _ (List.mem_of_getElem? (jN dJ))
 refine zi bh bf rfl rfl dJ<|W ?_
 exact⟨_,rfl,⟨_,rfl,hs _ rF⟩,h,aC⟩
 refine W ?_
 refine zc rfl (λh5=>?_) (λh5=>?_)
 refine zr<|zm<|Ti bh bf rfl rfl rfl rfl rfl rfl rfl rfl rfl rfl λw5 aP Px iI=>bI aP h aC λh aC=>?_
 refine aA (ml E0 de de br (q+1) om _ w5 h (aJ.dK E0 Px (λhx=>by simp at hx;omega) de)) ?_
 rintro NV w6 ⟨⟨x1,ij,EN⟩,h,ES⟩
 subst EN
 have aC:=(aC).trans ES
 have fj:=(show∀x,x∈E0->x.length<=8000 from by decide) _ ij
 refine W ?_
 exact⟨_,rfl,⟨x1,rfl,fj⟩,h.more om,aC⟩
 refine gz<|zr<|zm<|aA (XN want w4) ?_
 rintro v5 w5 ⟨xM,aP⟩
 have og:=aP.size
 refine bI aP h aC λh aC=>?_
 have eN:=xM
 obtain⟨x1,ok1,HK,fj⟩:=eN
 subst HK
 refine W ?_
 refine zc rfl (λh6=>?_) (λh6=>?_)
 refine W ?_
 exact⟨_,rfl,⟨[48],rfl,by decide⟩,h.more om,aC⟩
 refine W ?_
 exact⟨_,rfl,⟨x1,rfl,fj⟩,h.more om,aC⟩
 replace h3:=jG h3
 have jS:xs.length=0:=om
 refine W ?_
 refine zc rfl (λh7=>?_) (λh7=>?_)
 simp at h7
 refine W ?_
 refine zc rfl (λh8=>?_) (λh8=>?_)
 refine zr<|zm<|Ti bh bf rfl rfl rfl rfl rfl rfl rfl rfl rfl rfl λw4 aO Px gC=>bI aO hK h λhK h=>?_
 refine aA (ml E0 de de br q om _ w4 h (aJ.dK E0 Px (λhx=>by simp at hx;omega) de)) ?_
 rintro NV w5 ⟨⟨x1,ij,EN⟩,h,ES⟩
 subst EN
 have aC:=((hK.mono (L':=[br]) sm)).trans ES
 have fj:=(show∀x,x∈E0->x.length<=8000 from by decide) _ ij
 refine W ?_
 exact⟨_,rfl,⟨x1,rfl,fj⟩,h.more om,aC⟩
 refine gz<|zr<|zm<|aA (XN want w3) ?_
 rintro v4 w4 ⟨jU,aO⟩
 have fG:=aO.size
 refine bI aO hK h λhK h=>?_
 have eN:=jU
 obtain⟨x1,ok1,HK,fj⟩:=eN
 subst HK
 refine W ?_
 refine zc rfl (λh9=>?_) (λh9=>?_)
 refine W ?_
 exact⟨_,rfl,⟨[48],rfl,by decide⟩,h.more om,(hK.mono (L':=[br]) sm)⟩
 refine W ?_
 exact⟨_,rfl,⟨x1,rfl,fj⟩,h.more om,(hK.mono (L':=[br]) sm)⟩
def Py:List ai:=[[97],[98],[99],[120,49],[121,48]]
def Pz:List ai:=[[102],[103],[102,49]]
def PA:List ai:=[[120],[122],[120,50]]
def KC:List ai:=[[43],[45],[42]]
def HT (d P:Nat):Prop:=∀(ns ts:List ai) (want:ai) (br q:Nat) (v1 v2:Value) (w:World),ns.length=ts.length->ns.length+2*d<=100->(∀x,x∈ns->x.length<=8000)->want.length+100*d<=26000->q+20*P<=800000000->dB w br q->bc [br] w v1 ns->bc [br] w v2 ts->
  bz Tryz.prog 132 [.pointer (some ⟨br,0,none⟩),.agg #[v1,v2],str want,.int .i64 (d:Int)] w λr w'=>(∃x,r=str x∧x.length<=100000*P)∧dB w' br (q+20*P)∧aj [br] w w'
theorem KD {ns:List ai} {x:ai} (h:∀x,x∈ns->x.length<=8000) (hx:x.length<=8000):∀y,y∈ns++[x]->y.length<=8000:=λy hy=>by
 rcases mA.1 hy with h9|h9
 ·exact h y h9
 ·simp only[List.mem_singleton] at h9;rw[h9];exact hx
theorem XQ {s sg:ai} {o:Option (Ty×Ty)} (h:B6 s sg o):(sI o).length<=100∧(ya o).length<=100:=by
 cases o with
 |none=>exact⟨by decide,by decide⟩
 |some p=>
  obtain⟨g,_,_,h3⟩:=h
  have e:(Ty.op g p.1 p.2).n=1+p.1.n+p.2.n:=rfl
  have h1:=p.1.len
  have h2:=p.2.len
  exact⟨by show p.1.text.length<=100;omega,by show p.2.text.length<=100;omega⟩
def BuP (d P:Nat):Prop:=∀(ns ts:List ai) (want:ai) (br q:Nat) (v1 v2:Value) (w:World),ns.length=ts.length->ns.length+2*(d+1)<=100->(∀x,x∈ns->x.length<=8000)->want.length+100*(d+1)<=26000->q+40*P+20<=800000000->dB w br q->bc [br] w v1 ns->bc [br] w v2 ts->
  bz Tryz.prog 163 [.pointer (some ⟨br,0,none⟩),.agg #[v1,v2],str want,.int .i64 ((d+1:Nat):Int)] w λr w'=>(∃x,r=str x∧x.length<=200000*P+30000)∧dB w' br (q+40*P+10)∧aj [br] w w'
theorem amJ (d P:Nat) (hd:d<=10) (hP:1<=P) (XR:P<=1000000) (ih:HT d P):BuP d P:=by
 intro ns ts want br q v1 v2 w hl El hs hw hq h bM bT
 obtain⟨a1,n1,c1,rfl,fi⟩:=dI bM
 obtain⟨a2,n2,c2,rfl,eK⟩:=dI bT
 subst fi
 subst eK
 have ig:=h.lt
 have hk:=aj.refl [br] w
 refine bX [.tmp 8] 119 Tryz.func163 rfl abl rfl rfl ?_
 refine zr<|eu rfl λw1 aI cN db=>gQ aI hk h bM bT λhk h bM bT=>?_
 refine W ?_
 have cN:dL [br] w1 w.heap.size _ _:=⟨cN,by simp;omega⟩
 refine aA (T9 want w1) ?_
 rintro v2 w2 ⟨fl,az⟩
 have dy:=az.size
 refine la az hk h bM bT cN λhk h bM bT cN=>?_
 obtain⟨o1,wO,rfl⟩:=fl
 have hAB:=XQ wO
 refine W ?_
 refine aA (T8 want w2) ?_
 rintro v3 w3 ⟨jb,aH⟩
 have eU:=aH.size
 refine la aH hk h bM bT cN λhk h bM bT cN=>?_
 obtain⟨o2,vg,rfl⟩:=jb
 have hCE:=XQ vg
 refine WA ?_
 refine xh rfl rfl rfl rfl rfl (kR d om _ om)<|W ?_
 refine zc rfl (λh1=>?_) (λh1=>?_)
 refine WZ ?_
 apply jF cT ([br]) 14 (rA 35 14) (rA 35 14) [[],[],[],[],(rA 0 4),[4],[5],[],[],[],[],(rA 7 4),[6,11],[12]] [Ie.v _,Ie.v _,Ie.v _,Ie.v _,Ie.q 0 (fun(v:Value)=>∃x,v=str x∧x.length<=100000*P),Ie.p (fun(G:List Nat) (v:Value) (ww:World)=>∃x,v=str x∧x.length<=100000*P+100),Ie.p (fun(G:List Nat) (v:Value) (ww:World)=>∃x,v=str x∧x.length<=100000*P+200),Ie.v _,Ie.v _,Ie.v _,Ie.v _,Ie.q 1 (fun(v:Value)=>∃x,v=str x∧x.length<=100000*P),Ie.p (fun(G:List Nat) (v:Value) (ww:World)=>∃x,v=str x∧x.length<=200000*P+300),Ie.p (fun(G:List Nat) (v:Value) (ww:World)=>∃x,v=str x∧x.length<=200000*P+400)] [4,11] [fun(G:List Nat) (vs:List Value) (ww:World)=>G=[br]∧aj [br] w3 ww∧dB ww br q,fun(G:List Nat) (vs:List Value) (ww:World)=>G=[br]∧aj [br] w3 ww∧dB ww br (q+20*P),fun(G:List Nat) (vs:List Value) (ww:World)=>G=[br]∧aj [br] w3 ww∧dB ww br (q+40*P)] de rfl ((λz hz=>by simp at hz;subst hz;exact h.lt)) (by exact⟨λG v w G' w' h k=>h,λG v w G' w' h k=>h,λG v w G' w' h k=>h,λG v w G' w' h k=>h,trivial⟩) (by exact⟨λG vs w w' ⟨h1,h2,h3⟩ k=>⟨h1,h2.ext k,h3.ext k⟩,λG vs w w' ⟨h1,h2,h3⟩ k=>⟨h1,h2.ext k,h3.ext k⟩,λG vs w w' ⟨h1,h2,h3⟩ k=>⟨h1,h2.ext k,h3.ext k⟩,trivial⟩) (⟨rfl,aj.refl _ _,h⟩)
 refine FA ?_
 refine ve 0 (λx w4 G4 aR yM Df hJ hlen=>?_) ?_
 have aV:=jj hlen
 subst aV
 have bM:=bM.go yM;have bT:=bT.go yM
 obtain⟨bP,bS,h⟩:=hJ
 subst bP
 refine aA (ih ns ts (sI o1) br q _ _ w4 hl om hs om om h bM bT) ?_
 rintro v9 w5 ⟨⟨x9,e9,iC⟩,h,aC⟩
 subst e9
 exact fq ([br]) (Fr.of aC sm) ((λz hz=>lL (Df z hz) aC.size)) (⟨rfl,bS.trans aC,h.more om⟩) (⟨_,rfl,iC⟩)
 refine vf (λx w4 G4 aR yM Df=>?_) ?_
 intro v4 PB d4
 obtain⟨y4,e4,Am⟩:=d4
 subst e4
 refine gU rfl rfl rfl rfl (by(try simp);omega) ?_
 exact ff (aj.refl _ _) (⟨_,rfl,by simp;omega⟩)
 refine vf (λx w4 G4 aR yM Df=>?_) ?_
 intro v5 d5
 obtain⟨y5,e5,hl5⟩:=d5
 subst e5
 refine gU rfl rfl rfl rfl (by(try simp);omega) ?_
 exact ff (aj.refl _ _) (⟨_,rfl,by simp;omega⟩)
 refine FA ?_
 refine ve 1 (λx w4 G4 aR yM Df hJ hlen=>?_) ?_
 have aX:=jk hlen
 obtain⟨q0,aV⟩:=aX
 subst aV
 have bM:=bM.go yM;have bT:=bT.go yM
 obtain⟨bP,bS,h⟩:=hJ
 subst bP
 refine aA (ih ns ts (ya o1) br (q+20*P) _ _ w4 hl om hs om om h bM bT) ?_
 rintro v9 w5 ⟨⟨x9,e9,iC⟩,h,aC⟩
 subst e9
 exact fq ([br]) (Fr.of aC sm) ((λz hz=>lL (Df z hz) aC.size)) (⟨rfl,bS.trans aC,h.more om⟩) (⟨_,rfl,iC⟩)
 refine vf (λx w4 G4 aR yM Df=>?_) ?_
 intro v6 d6
 intro v11 amL d11
 obtain⟨y6,e6,hl6⟩:=d6
 subst e6
 obtain⟨XS,Cy,XT⟩:=d11
 subst Cy
 refine gU rfl rfl rfl rfl (by(try simp);omega) ?_
 exact ff (aj.refl _ _) (⟨_,rfl,by simp;omega⟩)
 refine vf (λx w4 G4 aR yM Df=>?_) ?_
 intro v12 d12
 obtain⟨y12,qw,amN⟩:=d12
 subst qw
 refine gU rfl rfl rfl rfl (by(try simp);omega) ?_
 exact ff (aj.refl _ _) (⟨_,rfl,by simp;omega⟩)
 exact trivial
 intro x mI G43 aR arC arD hJ hlen
 have aX:=k8 hlen
 obtain⟨q0,q1,aV⟩:=aX
 subst aV
 intro v4 PB d4
 intro v5 d5
 intro v6 d6
 intro v11 amL d11
 intro v12 d12
 intro GU d13
 change OW _ _ _ _ _ (bm (bg _ x _) (zZ 35 [_,_,_,_,_,_,_,_,_,_,_,_,_,_])) _
 obtain⟨bP,bS,h⟩:=hJ
 subst bP
 obtain⟨yz,ez,ER⟩:=d13
 subst ez
 refine W ?_
 exact⟨_,rfl,⟨yz,rfl,om⟩,h.more om,hk.trans bS⟩
 refine W ?_
 refine zc rfl (λh2=>?_) (λh2=>?_)
 refine zr<|zm<|pI bh bf rfl rfl rfl rfl rfl λw4 aO amO gC=>la aO hk h bM bT cN λhk h bM bT cN=>?_
 have lQ:=h.lt
 refine aA (ml Pz de de br q om _ w4 h (aJ.dK Pz amO (λhx=>by simp at hx;omega) de)) ?_
 rintro l9 w5 ⟨⟨fn,amP,gR⟩,h,aC⟩
 subst gR
 have arE:=(show∀x,x∈Pz->x.length<=30 from by decide) _ amP
 have hk:=hk.trans aC
 have bM:=bM.aD aC sm;have bT:=bT.aD aC sm;have cN:=cN.aD aC sm
 have lQ:=h.lt
 refine W ?_
 refine pI bh bf rfl rfl rfl rfl rfl λw6 bO Cb kF=>la bO hk h bM bT cN λhk h bM bT cN=>?_
 refine aA (ml PA de de br (q+1) om _ w6 h (aJ.dK PA Cb (λhx=>by simp at hx;omega) de)) ?_
 rintro l9 w7 ⟨⟨xn,amQ,gR⟩,h,aC⟩
 subst gR
 have arF:=(show∀x,x∈PA->x.length<=30 from by decide) _ amQ
 have hk:=hk.trans aC
 have bM:=bM.aD aC sm;have bT:=bT.aD aC sm;have cN:=cN.aD aC sm
 have lQ:=h.lt
 refine W ?_
 refine aA (Kz ns ts xn (sI o2) om om _ _ [br] w7 (λx hx=>by simp at hx;subst hx;exact h.lt) bM bT) ?_
 rintro v8 w8 ⟨GQ,cA⟩
 have yk:=cA.size
 refine la cA hk h bM bT cN λhk h bM bT cN=>?_
 obtain⟨u1,u2,e9,qY,qZ⟩:=GQ
 subst e9
 have bY:=dI qY
 obtain⟨b1,m1,d1,e1,_⟩:=bY
 subst e1
 have bY:=dI qZ
 obtain⟨b2,m2,d2,e2,_⟩:=bY
 subst e2
 refine dk BD rfl rfl rfl λw9 aC jX NX=>?_
 have hsb:=h.lt
 have arG:br<w8.heap.size:=hsb
 have arH:w.heap.size<w8.heap.size:=cN.lt
 have arI:w.heap.size<=w8.heap.size:=hk.size
 refine bI aC hk h λhk h=>?_
 have bM:=(bc.fresh bM (L':=w8.heap.size::[br]) (λx hx=>by rcases mC.1 hx with h9|h9;(·right;omega);(·exact .inl h9))).ext aC
 have bT:=(bc.fresh bT (L':=w8.heap.size::[br]) (λx hx=>by rcases mC.1 hx with h9|h9;(·right;omega);(·exact .inl h9))).ext aC
 have qY:=(bc.fresh qY (L':=w8.heap.size::[br]) (λx hx=>by rcases mC.1 hx with h9|h9;(·right;omega);(·exact .inl h9))).ext aC
 have qZ:=(bc.fresh qZ (L':=w8.heap.size::[br]) (λx hx=>by rcases mC.1 hx with h9|h9;(·right;omega);(·exact .inl h9))).ext aC
 have cN:=(cN.ext aC)
 refine cw (vs:=[.slice b1 m1 d1,.slice b2 m2 d2]) BD rfl rfl rfl jX rfl λbZ cj jX df=>?_
 have hk:=hk.since cj (λx hx=>.inr (by simp at hx;omega))
 have h:=h.aG cj (λx hx=>by simp at hx;omega)
 have bM:=bc.aD bM cj sm
 have bT:=bc.aD bT cj sm
 have qY:=bc.aD qY cj sm
 have qZ:=bc.aD qZ cj sm
 have cN:dL [br] bZ _ _ _:=⟨cN.gX.aG cj so,cN.out⟩
 refine W ?_
 refine aA (lP 6 de de br (q+2) om bZ h) ?_
 rintro v9 ey ⟨⟨z,e9,hz⟩,h,aC⟩
 subst e9
 have qY:=bc.aD qY aC sm
 have qZ:=bc.aD qZ aC sm
 have jX:=jX.aG aC so
 have hk:=hk.trans aC
 have bM:=bM.aD aC sm;have bT:=bT.aD aC sm;have cN:=cN.aD aC sm
 have lQ:=h.lt
 refine W ?_
 refine iD (λg:List ai×List ai×Value×Value=>[(0,.pointer (some ⟨br,0,none⟩)),(12,str (sI o2)),(13,str (ya o2)),(15,.int .i64 (d:Int)),(16,str fn),(17,str xn),(18,.pointer (some ⟨w8.heap.size,0,none⟩))]) (λg ww=>aj [br] w ww∧dB ww br (q+3)∧aJ ww w8.heap.size [g.2.2.1,g.2.2.2].toArray 152∧bc [br] ww g.2.2.1 g.1∧bc [br] ww g.2.2.2 g.2.1∧g.1.length=g.2.1.length∧g.1.length+2*d<=100∧∀x,x∈g.1->x.length<=8000) ?_ ?_
 refine zc rfl (λh3=>?_) (λh3=>?_)
 refine W ?_
 refine aA (Kz ns ts fn want om om _ _ (w8.heap.size::[br]) ey (λx hx=>by have:=jX.lt;simp at hx;rcases hx with hx|hx<;>omega) bM bT) ?_
 rintro v12 fa ⟨Hr,cV⟩
 have Ct:=cV.size
 refine cG cV hk h jX λhk h jX=>?_
 obtain⟨u3,u4,e9,qY,qZ⟩:=Hr
 subst e9
 have bY:=dI qY
 obtain⟨b3,m3,d3,e1,_⟩:=bY
 subst e1
 have bY:=dI qZ
 obtain⟨b4,m4,d4,e2,_⟩:=bY
 subst e2
 refine zm<|zm<|aA (Kz (ns++[fn]) (ts++[want]) xn (sI o2) so so _ _ (w8.heap.size::[br]) fa (λx hx=>by have:=jX.lt;simp at hx;rcases hx with hx|hx<;>omega) qY qZ) ?_
 rintro GU jf ⟨amS,gw⟩
 have Hi:=gw.size
 refine cG gw hk h jX λhk h jX=>?_
 obtain⟨u5,u6,e9,KE,KF⟩:=amS
 subst e9
 have bY:=dI KE
 obtain⟨b5,m5,d5,e1,_⟩:=bY
 subst e1
 have bY:=dI KF
 obtain⟨b6,m6,d6,e2,_⟩:=bY
 subst e2
 refine cw (vs:=[.slice b5 m5 d5,.slice b6 m6 d6]) BD rfl rfl rfl jX rfl λix du jX df=>?_
 have hk:=hk.since du (λx hx=>.inr (by simp at hx;omega))
 have h:=h.aG du (λx hx=>by simp at hx;omega)
 have KE:=bc.aD KE du sm
 have KF:=bc.aD KF du sm
 refine W ?_
 exact⟨((ns++[fn])++[xn],(ts++[want])++[sI o2],_,_),⟨rfl,rfl,rfl,rfl,rfl,rfl,rfl⟩,hk,h,jX,bc.fresh KE (λx hx=>.inl (by simp at hx;simp[hx])),bc.fresh KF (λx hx=>.inl (by simp at hx;simp[hx])),by simp;omega,by simp;omega,KD (KD hs om) om⟩
 refine WZ ?_
 exact⟨(ns++[xn],ts++[sI o2],_,_),⟨rfl,rfl,rfl,rfl,rfl,rfl,rfl⟩,hk,h,jX,bc.fresh qY (λx hx=>.inl (by simp at hx;simp[hx])),bc.fresh qZ (λx hx=>.inl (by simp at hx;simp[hx])),by simp;omega,by simp;omega,KD hs om⟩
 intro gu fa qw hI
 obtain⟨zs,us,p1,p2⟩:=gu
 dsimp only at hI⊢
 obtain⟨hk,h,jX,oU,rE,HH,hzn,xf⟩:=hI
 have bY:=dI oU
 obtain⟨b1,m1,d1,e1,_⟩:=bY
 subst e1
 have bY:=dI rE
 obtain⟨b2,m2,d2,e2,_⟩:=bY
 subst e2
 refine WZ ?_
 refine aA (ih zs us (ya o2) br (q+3) _ _ fa HH om xf om om h oU rE) ?_
 rintro v9 jf ⟨⟨x9,e9,iC⟩,h,aC⟩
 subst e9
 have hk:=hk.trans aC
 refine W ?_
 exact⟨_,rfl,⟨_,rfl,by simp;omega⟩,h.more om,hk⟩
 refine W ?_
 refine xl (t:=93) rfl (λh4=>?_) (λh4=>?_)
 replace h4:=jG h4
 refine zm<|aA (lP 3 de de br q om w3 h) ?_
 rintro v9 w4 ⟨⟨z,e9,hz⟩,h,aC⟩
 subst e9
 have hk:=hk.trans aC
 have bM:=bM.aD aC sm;have bT:=bT.aD aC sm;have cN:=cN.aD aC sm
 have lQ:=h.lt
 refine W ?_
 refine zc rfl (λh5=>?_) (λh5=>?_)
 refine WZ ?_
 apply jF cT ([br]) 17 (rA 98 17) (rA 98 17) [[],[],[0,1],[2],[3],[],[],[],[5,6,7],[4,8],[9],[],[],[],[11,12,13],[10,14],[15]] [Ie.v _,Ie.p (fun(G:List Nat) (v:Value) (ww:World)=>bc G ww v KC),Ie.q 0 (fun(v:Value)=>∃x,v=str x∧x.length<=30),Ie.p (fun(G:List Nat) (v:Value) (ww:World)=>∃x,v=str x∧x.length<=40),Ie.p (fun(G:List Nat) (v:Value) (ww:World)=>∃x,v=str x∧x.length<=50),Ie.v _,Ie.v _,Ie.v _,Ie.q 1 (fun(v:Value)=>∃x,v=str x∧x.length<=100000*P),Ie.p (fun(G:List Nat) (v:Value) (ww:World)=>∃x,v=str x∧x.length<=100000*P+100),Ie.p (fun(G:List Nat) (v:Value) (ww:World)=>∃x,v=str x∧x.length<=100000*P+200),Ie.v _,Ie.v _,Ie.v _,Ie.q 2 (fun(v:Value)=>∃x,v=str x∧x.length<=100000*P),Ie.p (fun(G:List Nat) (v:Value) (ww:World)=>∃x,v=str x∧x.length<=200000*P+300),Ie.p (fun(G:List Nat) (v:Value) (ww:World)=>∃x,v=str x∧x.length<=200000*P+400)] [2,8,14] [fun(G:List Nat) (vs:List Value) (ww:World)=>G=[br]∧aj [br] w4 ww∧dB ww br (q+1),fun(G:List Nat) (vs:List Value) (ww:World)=>G=[br]∧aj [br] w4 ww∧dB ww br (q+2),fun(G:List Nat) (vs:List Value) (ww:World)=>G=[br]∧aj [br] w4 ww∧dB ww br (q+2+20*P),fun(G:List Nat) (vs:List Value) (ww:World)=>G=[br]∧aj [br] w4 ww∧dB ww br (q+2+40*P)] de rfl ((λz hz=>by simp at hz;subst hz;exact h.lt)) (by exact⟨λG v w G' w' h k=>bc.go h k,λG v w G' w' h k=>h,λG v w G' w' h k=>h,λG v w G' w' h k=>h,λG v w G' w' h k=>h,λG v w G' w' h k=>h,λG v w G' w' h k=>h,trivial⟩) (by exact⟨λG vs w w' ⟨h1,h2,h3⟩ k=>⟨h1,h2.ext k,h3.ext k⟩,λG vs w w' ⟨h1,h2,h3⟩ k=>⟨h1,h2.ext k,h3.ext k⟩,λG vs w w' ⟨h1,h2,h3⟩ k=>⟨h1,h2.ext k,h3.ext k⟩,λG vs w w' ⟨h1,h2,h3⟩ k=>⟨h1,h2.ext k,h3.ext k⟩,trivial⟩) (⟨rfl,aj.refl _ _,h⟩)
 refine FA ?_
 refine vf (λx w5 G5 aR pQ sW=>?_) ?_
 refine pI bh bf rfl rfl rfl rfl rfl λw6 bO N8 kF=>?_
 exact ff bO ((aJ.dK KC N8 (λhx=>by have:=sW _ hx;omega) de))
 refine ve 0 (λx w5 G5 aR pQ sW hJ hlen=>?_) ?_
 have aV:=jj hlen
 subst aV
 intro v1 d1
 obtain⟨bP,bS,h⟩:=hJ
 subst bP
 refine aA (ml KC de de br (q+1) om _ w5 h d1) ?_
 rintro l9 w6 ⟨⟨x9,iC,gR⟩,h,aC⟩
 subst gR
 have et:=(show∀x,x∈KC->x.length<=30 from by decide) _ iC
 exact fq ([br]) (Fr.of aC sm) ((λz hz=>lL (sW z hz) aC.size)) (⟨rfl,bS.trans aC,h⟩) (⟨_,rfl,et⟩)
 refine vf (λx w5 G5 aR pQ sW=>?_) ?_
 intro v2 nD d2
 obtain⟨y2,e2,iw⟩:=d2
 subst e2
 refine gU rfl rfl rfl rfl (by(try simp);omega) ?_
 exact ff (aj.refl _ _) (⟨_,rfl,by simp;omega⟩)
 refine vf (λx w5 G5 aR pQ sW=>?_) ?_
 intro v3 d3
 obtain⟨y3,e3,wb⟩:=d3
 subst e3
 refine gU rfl rfl rfl rfl (by(try simp);omega) ?_
 exact ff (aj.refl _ _) (⟨_,rfl,by simp;omega⟩)
 refine FA ?_
 refine ve 1 (λx w5 G5 aR pQ sW hJ hlen=>?_) ?_
 have aX:=jk hlen
 obtain⟨q0,aV⟩:=aX
 subst aV
 have bM:=bM.go pQ;have bT:=bT.go pQ
 obtain⟨bP,bS,h⟩:=hJ
 subst bP
 refine aA (ih ns ts ([105]) br (q+2) _ _ w5 hl om hs so om h bM bT) ?_
 rintro v9 w6 ⟨⟨x9,e9,iC⟩,h,aC⟩
 subst e9
 exact fq ([br]) (Fr.of aC sm) ((λz hz=>lL (sW z hz) aC.size)) (⟨rfl,bS.trans aC,h.more om⟩) (⟨_,rfl,iC⟩)
 refine vf (λx w5 G5 aR pQ sW=>?_) ?_
 intro v4 d4
 intro v8 hq8 d8
 obtain⟨y4,e4,Am⟩:=d4
 subst e4
 obtain⟨y8,e8,XU⟩:=d8
 subst e8
 refine gU rfl rfl rfl rfl (by(try simp);omega) ?_
 exact ff (aj.refl _ _) (⟨_,rfl,by simp;omega⟩)
 refine vf (λx w5 G5 aR pQ sW=>?_) ?_
 intro v9 d9
 obtain⟨y9,e9,et⟩:=d9
 subst e9
 refine gU rfl rfl rfl rfl (by(try simp);omega) ?_
 exact ff (aj.refl _ _) (⟨_,rfl,by simp;omega⟩)
 refine FA ?_
 refine ve 2 (λx w5 G5 aR pQ sW hJ hlen=>?_) ?_
 have aX:=k8 hlen
 obtain⟨q0,q1,aV⟩:=aX
 subst aV
 have bM:=bM.go pQ;have bT:=bT.go pQ
 obtain⟨bP,bS,h⟩:=hJ
 subst bP
 refine aA (ih ns ts ([105]) br (q+2+20*P) _ _ w5 hl om hs so om h bM bT) ?_
 rintro v9 w6 ⟨⟨x9,e9,iC⟩,h,aC⟩
 subst e9
 exact fq ([br]) (Fr.of aC sm) ((λz hz=>lL (sW z hz) aC.size)) (⟨rfl,bS.trans aC,h.more om⟩) (⟨_,rfl,iC⟩)
 refine vf (λx w5 G5 aR pQ sW=>?_) ?_
 intro v10 d10
 intro l9 amU d14
 obtain⟨KG,fm,Ej⟩:=d10
 subst fm
 obtain⟨y14,gR,arL⟩:=d14
 subst gR
 refine gU rfl rfl rfl rfl (by(try simp);omega) ?_
 exact ff (aj.refl _ _) (⟨_,rfl,by simp;omega⟩)
 refine vf (λx w5 G5 aR pQ sW=>?_) ?_
 intro AH d15
 obtain⟨y15,Em,arN⟩:=d15
 subst Em
 refine gU rfl rfl rfl rfl (by(try simp);omega) ?_
 exact ff (aj.refl _ _) (⟨_,rfl,by simp;omega⟩)
 exact trivial
 intro x ow G44 aR arP arQ hJ hlen
 have aX:=zQ hlen
 obtain⟨q0,q1,q2,aV⟩:=aX
 subst aV
 intro v1 d1
 intro v2 nD d2
 intro v3 d3
 intro v4 d4
 intro v8 hq8 d8
 intro v9 d9
 intro v10 d10
 intro l9 amU d14
 intro AH d15
 intro AE d16
 change OW _ _ _ _ _ (bm (bg _ x _) (zZ 98 [_,_,_,_,_,_,_,_,_,_,_,_,_,_,_,_,_])) _
 obtain⟨bP,bS,h⟩:=hJ
 subst bP
 obtain⟨yz,ez,ER⟩:=d16
 subst ez
 refine W ?_
 exact⟨_,rfl,⟨yz,rfl,om⟩,h.more om,hk.trans bS⟩
 refine W ?_
 refine aA (Pw ns ts want hl om hs br (q+1) om _ _ w4 h bM bT) ?_
 rintro v9 w5 ⟨⟨x9,e9,iC⟩,h,aC⟩
 subst e9
 refine W ?_
 exact⟨_,rfl,⟨x9,rfl,om⟩,h.more om,hk.trans aC⟩
 replace h4:=jG h4
 refine W ?_
 refine zc rfl (λh6=>?_) (λh6=>?_)
 simp at h6
 refine W ?_
 refine aA (Pw ns ts want hl om hs br q om _ _ w3 h bM bT) ?_
 rintro v9 w4 ⟨⟨x9,e9,iC⟩,h,aC⟩
 subst e9
 refine W ?_
 exact⟨_,rfl,⟨x9,rfl,om⟩,h.more om,hk.trans aC⟩
theorem amV:HT 0 1:=by
 intro ns ts want br q v1 v2 w hl El hs hw hq h bM bT
 obtain⟨a1,n1,c1,rfl,fi⟩:=dI bM
 obtain⟨a2,n2,c2,rfl,eK⟩:=dI bT
 subst fi
 subst eK
 have ig:=h.lt
 have hk:=aj.refl [br] w
 refine bX [.tmp 8] 130 Tryz.func132 rfl RD rfl rfl ?_
 refine zr<|eu rfl λw1 aI cN db=>gQ aI hk h bM bT λhk h bM bT=>?_
 refine W ?_
 refine zc rfl (λh1=>?_) (λh1=>?_)
 refine W ?_
 refine aA (Pw ns ts want hl om hs br q om _ _ w1 h bM bT) ?_
 rintro v9 w2 ⟨⟨x9,e9,iC⟩,h,aC⟩
 subst e9
 refine W ?_
 exact⟨_,rfl,⟨x9,rfl,om⟩,h.more om,hk.trans aC⟩
 simp at h1
theorem amW (d P:Nat) (hd:d<=10) (hP:1<=P) (XR:P<=1000000) (ih:HT d P):HT (d+1) (4*P):=by
 have hB:=amJ d P hd hP XR ih
 intro ns ts want br q v1 v2 w hl El hs hw hq h bM bT
 obtain⟨a1,n1,c1,rfl,fi⟩:=dI bM
 obtain⟨a2,n2,c2,rfl,eK⟩:=dI bT
 subst fi
 subst eK
 have ig:=h.lt
 have hk:=aj.refl [br] w
 refine bX [.tmp 8] 130 Tryz.func132 rfl RD rfl rfl ?_
 refine zr<|eu rfl λw1 aI cN db=>gQ aI hk h bM bT λhk h bM bT=>?_
 refine W ?_
 refine zc rfl (λh1=>?_) (λh1=>?_)
 simp at h1;omega
 have cN:dL [br] w1 w.heap.size _ _:=⟨cN,by simp;omega⟩
 refine gz<|zr<|zm<|xh rfl rfl rfl rfl rfl (kR d om _ om)<|zA<|aZ<|jq<|zr<|zm<|aA (lP 12 de de br q om w1 h) ?_
 rintro v9 w2 ⟨⟨z,e9,hz⟩,h,aC⟩
 subst e9
 have hk:=hk.trans aC
 have bM:=bM.aD aC sm;have bT:=bT.aD aC sm;have cN:=cN.aD aC sm
 have lQ:=h.lt
 refine W ?_
 refine zc rfl (λh2=>?_) (λh2=>?_)
 refine WZ ?_
 apply jF cT ([br]) 20 (rA 25 20) (rA 25 20) [[],[],[],[0,1,2],[3],[4],[],[],[],[],(rA 6 4),[5,10],[11],[],[],[],[],(rA 13 4),[12,17],[18]] [Ie.v _,Ie.v _,Ie.v _,Ie.q 0 (fun(v:Value)=>∃x,v=str x∧x.length<=100000*P),Ie.p (fun(G:List Nat) (v:Value) (ww:World)=>∃x,v=str x∧x.length<=100000*P+100),Ie.p (fun(G:List Nat) (v:Value) (ww:World)=>∃x,v=str x∧x.length<=100000*P+200),Ie.v _,Ie.v _,Ie.v _,Ie.v _,Ie.q 1 (fun(v:Value)=>∃x,v=str x∧x.length<=100000*P),Ie.p (fun(G:List Nat) (v:Value) (ww:World)=>∃x,v=str x∧x.length<=200000*P+300),Ie.p (fun(G:List Nat) (v:Value) (ww:World)=>∃x,v=str x∧x.length<=200000*P+400),Ie.v _,Ie.v _,Ie.v _,Ie.v _,Ie.q 2 (fun(v:Value)=>∃x,v=str x∧x.length<=100000*P),Ie.p (fun(G:List Nat) (v:Value) (ww:World)=>∃x,v=str x∧x.length<=300000*P+500),Ie.p (fun(G:List Nat) (v:Value) (ww:World)=>∃x,v=str x∧x.length<=300000*P+600)] [3,10,17] [fun(G:List Nat) (vs:List Value) (ww:World)=>G=[br]∧aj [br] w2 ww∧dB ww br (q+1),fun(G:List Nat) (vs:List Value) (ww:World)=>G=[br]∧aj [br] w2 ww∧dB ww br (q+1+20*P),fun(G:List Nat) (vs:List Value) (ww:World)=>G=[br]∧aj [br] w2 ww∧dB ww br (q+1+40*P),fun(G:List Nat) (vs:List Value) (ww:World)=>G=[br]∧aj [br] w2 ww∧dB ww br (q+1+60*P)] de rfl ((λz hz=>by simp at hz;subst hz;exact h.lt)) (by exact⟨λG v w G' w' h k=>h,λG v w G' w' h k=>h,λG v w G' w' h k=>h,λG v w G' w' h k=>h,λG v w G' w' h k=>h,λG v w G' w' h k=>h,trivial⟩) (by exact⟨λG vs w w' ⟨h1,h2,h3⟩ k=>⟨h1,h2.ext k,h3.ext k⟩,λG vs w w' ⟨h1,h2,h3⟩ k=>⟨h1,h2.ext k,h3.ext k⟩,λG vs w w' ⟨h1,h2,h3⟩ k=>⟨h1,h2.ext k,h3.ext k⟩,λG vs w w' ⟨h1,h2,h3⟩ k=>⟨h1,h2.ext k,h3.ext k⟩,trivial⟩) (⟨rfl,aj.refl _ _,h⟩)
 refine FA ?_
 refine ve 0 (λx w3 G3 aR jn kt hJ hlen=>?_) ?_
 have aV:=jj hlen
 subst aV
 have bM:=bM.go jn;have bT:=bT.go jn
 obtain⟨bP,bS,h⟩:=hJ
 subst bP
 refine aA (ih ns ts ([105]) br (q+1) _ _ w3 hl om hs so om h bM bT) ?_
 rintro v9 w4 ⟨⟨x9,e9,iC⟩,h,aC⟩
 subst e9
 exact fq ([br]) (Fr.of aC sm) ((λz hz=>lL (kt z hz) aC.size)) (⟨rfl,bS.trans aC,h.more om⟩) (⟨_,rfl,iC⟩)
 refine vf (λx w3 G3 aR jn kt=>?_) ?_
 intro v3 Gx d3
 obtain⟨y3,e3,wb⟩:=d3
 subst e3
 refine gU rfl rfl rfl rfl (by(try simp);omega) ?_
 exact ff (aj.refl _ _) (⟨_,rfl,by simp;omega⟩)
 refine vf (λx w3 G3 aR jn kt=>?_) ?_
 intro v4 d4
 obtain⟨y4,e4,Am⟩:=d4
 subst e4
 refine gU rfl rfl rfl rfl (by(try simp);omega) ?_
 exact ff (aj.refl _ _) (⟨_,rfl,by simp;omega⟩)
 refine FA ?_
 refine ve 1 (λx w3 G3 aR jn kt hJ hlen=>?_) ?_
 have aX:=jk hlen
 obtain⟨q0,aV⟩:=aX
 subst aV
 have bM:=bM.go jn;have bT:=bT.go jn
 obtain⟨bP,bS,h⟩:=hJ
 subst bP
 refine aA (ih ns ts want br (q+1+20*P) _ _ w3 hl om hs om om h bM bT) ?_
 rintro v9 w4 ⟨⟨x9,e9,iC⟩,h,aC⟩
 subst e9
 exact fq ([br]) (Fr.of aC sm) ((λz hz=>lL (kt z hz) aC.size)) (⟨rfl,bS.trans aC,h.more om⟩) (⟨_,rfl,iC⟩)
 refine vf (λx w3 G3 aR jn kt=>?_) ?_
 intro v5 d5
 intro v10 XV d10
 obtain⟨y5,e5,hl5⟩:=d5
 subst e5
 obtain⟨KG,fm,Ej⟩:=d10
 subst fm
 refine gU rfl rfl rfl rfl (by(try simp);omega) ?_
 exact ff (aj.refl _ _) (⟨_,rfl,by simp;omega⟩)
 refine vf (λx w3 G3 aR jn kt=>?_) ?_
 intro v11 d11
 obtain⟨XS,Cy,XT⟩:=d11
 subst Cy
 refine gU rfl rfl rfl rfl (by(try simp);omega) ?_
 exact ff (aj.refl _ _) (⟨_,rfl,by simp;omega⟩)
 refine FA ?_
 refine ve 2 (λx w3 G3 aR jn kt hJ hlen=>?_) ?_
 have aX:=k8 hlen
 obtain⟨q0,q1,aV⟩:=aX
 subst aV
 have bM:=bM.go jn;have bT:=bT.go jn
 obtain⟨bP,bS,h⟩:=hJ
 subst bP
 refine aA (ih ns ts want br (q+1+40*P) _ _ w3 hl om hs om om h bM bT) ?_
 rintro v9 w4 ⟨⟨x9,e9,iC⟩,h,aC⟩
 subst e9
 exact fq ([br]) (Fr.of aC sm) ((λz hz=>lL (kt z hz) aC.size)) (⟨rfl,bS.trans aC,h.more om⟩) (⟨_,rfl,iC⟩)
 refine vf (λx w3 G3 aR jn kt=>?_) ?_
 intro v12 d12
 intro jA PC d17
 obtain⟨y12,qw,amN⟩:=d12
 subst qw
 obtain⟨XW,rO,XX⟩:=d17
 subst rO
 refine gU rfl rfl rfl rfl (by(try simp);omega) ?_
 exact ff (aj.refl _ _) (⟨_,rfl,by simp;omega⟩)
 refine vf (λx w3 G3 aR jn kt=>?_) ?_
 intro wI d18
 obtain⟨y18,uY,NY⟩:=d18
 subst uY
 refine gU rfl rfl rfl rfl (by(try simp);omega) ?_
 exact ff (aj.refl _ _) (⟨_,rfl,by simp;omega⟩)
 exact trivial
 intro x l6 GI aR Ed Np hJ hlen
 have aX:=zQ hlen
 obtain⟨q0,q1,q2,aV⟩:=aX
 subst aV
 intro v3 Gx d3
 intro v4 d4
 intro v5 d5
 intro v10 XV d10
 intro v11 d11
 intro v12 d12
 intro jA PC d17
 intro wI d18
 intro JY d19
 change OW _ _ _ _ _ (bm (bg _ x _) (zZ 25 [_,_,_,_,_,_,_,_,_,_,_,_,_,_,_,_,_,_,_,_])) _
 obtain⟨bP,bS,h⟩:=hJ
 subst bP
 obtain⟨yz,ez,ER⟩:=d19
 subst ez
 refine W ?_
 exact⟨_,rfl,⟨yz,rfl,om⟩,h.more om,hk.trans bS⟩
 refine W ?_
 refine iD (λb:Bool=>[(0,.pointer (some ⟨br,0,none⟩)),(2,str want),(3,.int .i64 ((d+1:Nat):Int)),(5,.pointer (some ⟨w.heap.size,0,none⟩)),(9,.int .i64 (d:Int)),(22,.int .i64 (z:Int)),(45,.bool b)]) (λb ww=>ww=w2) ?_ ?_
 refine zc rfl (λh3=>?_) (λh3=>?_)
 refine WZ ?_
 exact⟨_,⟨rfl,rfl,rfl,rfl,rfl,rfl,rfl⟩,rfl⟩
 refine W ?_
 exact⟨_,⟨rfl,rfl,rfl,rfl,rfl,rfl,rfl⟩,rfl⟩
 intro gu w3 e3 hI
 have PD:w3=_:=hI
 subst PD
 refine zc rfl (λh4=>?_) (λh4=>?_)
 refine zr<|zm<|aA (Pu 1 de br (q+1) om w3 h) ?_
 rintro v9 w4 ⟨⟨T,e9,hT⟩,h,aC⟩
 subst e9
 have XY:=T.len
 have hT:T.n+1<=4:=hT
 have h:=h.more (show _<=q+5 from om)
 have hk:=hk.trans aC
 have bM:=bM.aD aC sm;have bT:=bT.aD aC sm;have cN:=cN.aD aC sm
 have lQ:=h.lt
 refine W ?_
 refine Th bh bf rfl rfl rfl rfl rfl rfl rfl λw5 aP N7 iI=>la aP bM bT cN h hk λbM bT cN h hk=>?_
 refine aA (ml Py de de br (q+5) om _ w5 h (aJ.dK Py N7 (λhx=>by simp at hx;omega) de)) ?_
 rintro l9 w6 ⟨⟨nm,amY,gR⟩,h,aC⟩
 subst gR
 have arR:=(show∀x,x∈Py->x.length<=30 from by decide) _ amY
 have hk:=hk.trans aC
 have bM:=bM.aD aC sm;have bT:=bT.aD aC sm;have cN:=cN.aD aC sm
 have lQ:=h.lt
 refine W ?_
 apply jF cT ([br]) 20 (rA 53 20) (rA 53 20) [[],[0],[1],[],[],[],[],(rA 3 4),[2,7],[8],[],[],[],[],[11,12,13],[],[],[10,14,15,16],[9,17],[18]] [Ie.v _,Ie.v _,Ie.v _,Ie.v _,Ie.v _,Ie.v _,Ie.v _,Ie.q 0 (fun(v:Value)=>∃x,v=str x∧x.length<=100000*P),Ie.p (fun(G:List Nat) (v:Value) (ww:World)=>∃x,v=str x∧x.length<=100000*P+200),Ie.p (fun(G:List Nat) (v:Value) (ww:World)=>∃x,v=str x∧x.length<=100000*P+300),Ie.v _,Ie.v _,Ie.v _,Ie.v _,Ie.e 1,Ie.v _,Ie.v _,Ie.q 2 (fun(v:Value)=>∃x,v=str x∧x.length<=100000*P),Ie.p (fun(G:List Nat) (v:Value) (ww:World)=>∃x,v=str x∧x.length<=200000*P+400),Ie.p (fun(G:List Nat) (v:Value) (ww:World)=>∃x,v=str x∧x.length<=200000*P+500)] [7,14,17] [fun(G:List Nat) (vs:List Value) (ww:World)=>G=[br]∧aj [br] w6 ww∧dB ww br (q+6),fun(G:List Nat) (vs:List Value) (ww:World)=>G=[br]∧aj [br] w6 ww∧dB ww br (q+6+20*P),fun(G:List Nat) (vs:List Value) (ww:World)=>G=[br]∧aj [br] w6 ww∧dB ww br (q+6+20*P)∧∃u1 u2,vs.getD 1 undef= .agg #[u1,u2]∧bc [br] ww u1 (ns++[nm])∧bc [br] ww u2 (ts++[T.text]),fun(G:List Nat) (vs:List Value) (ww:World)=>G=[br]∧aj [br] w6 ww∧dB ww br (q+6+40*P)] de rfl ((λz hz=>by simp at hz;subst hz;exact h.lt)) (by exact⟨λG v w G' w' h k=>h,λG v w G' w' h k=>h,λG v w G' w' h k=>h,λG v w G' w' h k=>h,trivial⟩) (by exact⟨λG vs w w' ⟨h1,h2,h3⟩ k=>⟨h1,h2.ext k,h3.ext k⟩,λG vs w w' ⟨h1,h2,h3⟩ k=>⟨h1,h2.ext k,h3.ext k⟩,λG vs w w' ⟨h1,h2,h3,u1,u2,e,g1,g2⟩ k=>⟨h1,h2.ext k,h3.ext k,u1,u2,e,g1.ext k,g2.ext k⟩,λG vs w w' ⟨h1,h2,h3⟩ k=>⟨h1,h2.ext k,h3.ext k⟩,trivial⟩) (⟨rfl,aj.refl _ _,h⟩)
 refine FA ?_
 refine ve 0 (λx w7 G7 aR mX lg hJ hlen=>?_) ?_
 have aV:=jj hlen
 subst aV
 have bM:=bM.go mX;have bT:=bT.go mX
 obtain⟨bP,bS,h⟩:=hJ
 subst bP
 refine aA (ih ns ts T.text br (q+6) _ _ w7 hl om hs om om h bM bT) ?_
 rintro v9 w8 ⟨⟨x9,e9,iC⟩,h,aC⟩
 subst e9
 exact fq ([br]) (Fr.of aC sm) ((λz hz=>lL (lg z hz) aC.size)) (⟨rfl,bS.trans aC,h.more om⟩) (⟨_,rfl,iC⟩)
 refine vf (λx w7 G7 aR mX lg=>?_) ?_
 intro v7 hq7 d7
 obtain⟨y7,e7,Vd⟩:=d7
 subst e7
 refine gU rfl rfl rfl rfl (by(try simp);omega) ?_
 exact ff (aj.refl _ _) (⟨_,rfl,by simp;omega⟩)
 refine vf (λx w7 G7 aR mX lg=>?_) ?_
 intro v8 d8
 obtain⟨y8,e8,XU⟩:=d8
 subst e8
 refine gU rfl rfl rfl rfl (by(try simp);omega) ?_
 exact ff (aj.refl _ _) (⟨_,rfl,by simp;omega⟩)
 refine FA ?_
 refine ve 1 (λx w7 G7 aR mX lg hJ hlen=>?_) ?_
 have aX:=jk hlen
 obtain⟨q0,aV⟩:=aX
 subst aV
 have bM:=bM.go mX;have bT:=bT.go mX
 obtain⟨bP,bS,h⟩:=hJ
 subst bP
 refine aA (Kz ns ts nm T.text om om _ _ [br] w7 (λx hx=>by simp at hx;subst hx;exact h.lt) bM bT) ?_
 rintro v9 w8 ⟨⟨u1,u2,e9,qY,qZ⟩,aC⟩
 subst e9
 exact fe ([br]) (Fr.of aC sm) ((λz hz=>lL (lg z hz) aC.size)) (⟨rfl,bS.ext aC,h.ext aC,u1,u2,rfl,qY,qZ⟩)
 refine FA ?_
 refine ve 2 (λx w7 G7 aR mX lg hJ hlen=>?_) ?_
 have aX:=k8 hlen
 obtain⟨q0,q1,aV⟩:=aX
 subst aV
 obtain⟨bP,bS,h,u1,u2,e1,qY,qZ⟩:=hJ
 subst bP
 have e2:q1=_:=e1
 subst e2
 refine aA (ih (ns++[nm]) (ts++[T.text]) want br (q+6+20*P) _ _ w7 so so (KD hs om) om om h qY qZ) ?_
 rintro v9 w8 ⟨⟨x9,e9,iC⟩,h,aC⟩
 subst e9
 exact fq ([br]) (Fr.of aC sm) ((λz hz=>lL (lg z hz) aC.size)) (⟨rfl,bS.trans aC,h.more om⟩) (⟨_,rfl,iC⟩)
 refine vf (λx w7 G7 aR mX lg=>?_) ?_
 intro v9 d9
 intro jA PC d17
 obtain⟨y9,e9,et⟩:=d9
 subst e9
 obtain⟨XW,rO,XX⟩:=d17
 subst rO
 refine gU rfl rfl rfl rfl (by(try simp);omega) ?_
 exact ff (aj.refl _ _) (⟨_,rfl,by simp;omega⟩)
 refine vf (λx w7 G7 aR mX lg=>?_) ?_
 intro wI d18
 obtain⟨y18,uY,NY⟩:=d18
 subst uY
 refine gU rfl rfl rfl rfl (by(try simp);omega) ?_
 exact ff (aj.refl _ _) (⟨_,rfl,by simp;omega⟩)
 exact trivial
 intro x qQ JT aR wK JU hJ hlen
 have aX:=zQ hlen
 obtain⟨q0,q1,q2,aV⟩:=aX
 subst aV
 intro v7 hq7 d7
 intro v8 d8
 intro v9 d9
 intro jA PC d17
 intro wI d18
 intro JY d19
 change OW _ _ _ _ _ (bm (bg _ x _) (zZ 53 [_,_,_,_,_,_,_,_,_,_,_,_,_,_,_,_,_,_,_,_])) _
 obtain⟨bP,bS,h⟩:=hJ
 subst bP
 obtain⟨yz,ez,ER⟩:=d19
 subst ez
 refine W ?_
 exact⟨_,rfl,⟨yz,rfl,om⟩,h.more om,hk.trans bS⟩
 refine W ?_
 refine iD (λb:Bool=>[(0,.pointer (some ⟨br,0,none⟩)),(2,str want),(3,.int .i64 ((d+1:Nat):Int)),(5,.pointer (some ⟨w.heap.size,0,none⟩)),(9,.int .i64 (d:Int)),(22,.int .i64 (z:Int)),(73,.bool b)]) (λb ww=>ww=w3) ?_ ?_
 refine zc rfl (λh5=>?_) (λh5=>?_)
 refine WZ ?_
 exact⟨_,⟨rfl,rfl,rfl,rfl,rfl,rfl,rfl⟩,rfl⟩
 refine W ?_
 exact⟨_,⟨rfl,rfl,rfl,rfl,rfl,rfl,rfl⟩,rfl⟩
 intro gu w4 e4 hI
 have PD:w4=_:=hI
 subst PD
 refine zc rfl (λh6=>?_) (λh6=>?_)
 refine zr<|zm<|aA (Pu 1 de br (q+1) om w4 h) ?_
 rintro v9 w5 ⟨⟨T,e9,hT⟩,h,aC⟩
 subst e9
 have XY:=T.len
 have hT:T.n+1<=4:=hT
 have h:=h.more (show _<=q+5 from om)
 have hk:=hk.trans aC
 have bM:=bM.aD aC sm;have bT:=bT.aD aC sm;have cN:=cN.aD aC sm
 have lQ:=h.lt
 refine W ?_
 apply jF cT ([br]) 19 (rA 78 19) (rA 78 19) [[],[],[],[2],[3],[],[4,5],[6],[],[0,1,7,8],[9],[10],[],[],[],[],(rA 12 4),[11,16],[17]] [Ie.v _,Ie.v _,Ie.v _,Ie.v _,Ie.v _,Ie.v _,Ie.v _,Ie.v _,Ie.v _,Ie.q 0 (fun(v:Value)=>∃x,v=str x∧x.length<=100000*P),Ie.p (fun(G:List Nat) (v:Value) (ww:World)=>∃x,v=str x∧x.length<=100000*P+200),Ie.p (fun(G:List Nat) (v:Value) (ww:World)=>∃x,v=str x∧x.length<=100000*P+300),Ie.v _,Ie.v _,Ie.v _,Ie.v _,Ie.q 1 (fun(v:Value)=>∃x,v=str x∧x.length<=100000*P),Ie.p (fun(G:List Nat) (v:Value) (ww:World)=>∃x,v=str x∧x.length<=200000*P+400),Ie.p (fun(G:List Nat) (v:Value) (ww:World)=>∃x,v=str x∧x.length<=200000*P+500)] [9,16] [fun(G:List Nat) (vs:List Value) (ww:World)=>G=[br]∧aj [br] w5 ww∧dB ww br (q+5),fun(G:List Nat) (vs:List Value) (ww:World)=>G=[br]∧aj [br] w5 ww∧dB ww br (q+5+20*P),fun(G:List Nat) (vs:List Value) (ww:World)=>G=[br]∧aj [br] w5 ww∧dB ww br (q+5+40*P)] de rfl ((λz hz=>by simp at hz;subst hz;exact h.lt)) (by exact⟨λG v w G' w' h k=>h,λG v w G' w' h k=>h,λG v w G' w' h k=>h,λG v w G' w' h k=>h,trivial⟩) (by exact⟨λG vs w w' ⟨h1,h2,h3⟩ k=>⟨h1,h2.ext k,h3.ext k⟩,λG vs w w' ⟨h1,h2,h3⟩ k=>⟨h1,h2.ext k,h3.ext k⟩,λG vs w w' ⟨h1,h2,h3⟩ k=>⟨h1,h2.ext k,h3.ext k⟩,trivial⟩) (⟨rfl,aj.refl _ _,h⟩)
 refine FA ?_
 refine ve 0 (λx w6 G6 aR yN Dg hJ hlen=>?_) ?_
 have aV:=jj hlen
 subst aV
 have bM:=bM.go yN;have bT:=bT.go yN
 obtain⟨bP,bS,h⟩:=hJ
 subst bP
 refine aA (ih ns ts (((([40,62,32]++T.text)++[32])++want)++[41]) br (q+5) _ _ w6 hl om hs so om h bM bT) ?_
 rintro v9 w7 ⟨⟨x9,e9,iC⟩,h,aC⟩
 subst e9
 exact fq ([br]) (Fr.of aC sm) ((λz hz=>lL (Dg z hz) aC.size)) (⟨rfl,bS.trans aC,h.more om⟩) (⟨_,rfl,iC⟩)
 refine vf (λx w6 G6 aR yN Dg=>?_) ?_
 intro v9 HE d9
 obtain⟨y9,e9,et⟩:=d9
 subst e9
 refine gU rfl rfl rfl rfl (by(try simp);omega) ?_
 exact ff (aj.refl _ _) (⟨_,rfl,by simp;omega⟩)
 refine vf (λx w6 G6 aR yN Dg=>?_) ?_
 intro v10 d10
 obtain⟨KG,fm,Ej⟩:=d10
 subst fm
 refine gU rfl rfl rfl rfl (by(try simp);omega) ?_
 exact ff (aj.refl _ _) (⟨_,rfl,by simp;omega⟩)
 refine FA ?_
 refine ve 1 (λx w6 G6 aR yN Dg hJ hlen=>?_) ?_
 have aX:=jk hlen
 obtain⟨q0,aV⟩:=aX
 subst aV
 have bM:=bM.go yN;have bT:=bT.go yN
 obtain⟨bP,bS,h⟩:=hJ
 subst bP
 refine aA (ih ns ts T.text br (q+5+20*P) _ _ w6 hl om hs om om h bM bT) ?_
 rintro v9 w7 ⟨⟨x9,e9,iC⟩,h,aC⟩
 subst e9
 exact fq ([br]) (Fr.of aC sm) ((λz hz=>lL (Dg z hz) aC.size)) (⟨rfl,bS.trans aC,h.more om⟩) (⟨_,rfl,iC⟩)
 refine vf (λx w6 G6 aR yN Dg=>?_) ?_
 intro v11 d11
 intro AE am0 d16
 obtain⟨XS,Cy,XT⟩:=d11
 subst Cy
 obtain⟨y16,AW,arT⟩:=d16
 subst AW
 refine gU rfl rfl rfl rfl (by(try simp);omega) ?_
 exact ff (aj.refl _ _) (⟨_,rfl,by simp;omega⟩)
 refine vf (λx w6 G6 aR yN Dg=>?_) ?_
 intro jA d17
 obtain⟨XW,rO,XX⟩:=d17
 subst rO
 refine gU rfl rfl rfl rfl (by(try simp);omega) ?_
 exact ff (aj.refl _ _) (⟨_,rfl,by simp;omega⟩)
 exact trivial
 intro x pK G45 aR arV arW hJ hlen
 have aX:=k8 hlen
 obtain⟨q0,q1,aV⟩:=aX
 subst aV
 intro v9 HE d9
 intro v10 d10
 intro v11 d11
 intro AE am0 d16
 intro jA d17
 intro wI d18
 change OW _ _ _ _ _ (bm (bg _ x _) (zZ 78 [_,_,_,_,_,_,_,_,_,_,_,_,_,_,_,_,_,_,_])) _
 obtain⟨bP,bS,h⟩:=hJ
 subst bP
 obtain⟨yz,ez,ER⟩:=d18
 subst ez
 refine W ?_
 exact⟨_,rfl,⟨yz,rfl,om⟩,h.more om,hk.trans bS⟩
 refine W ?_
 refine zc rfl (λh7=>?_) (λh7=>?_)
 refine W ?_
 refine aA (ih ns ts (([40,42,32]++want)++[32,105,41]) br (q+1) _ _ w4 hl om hs so om h bM bT) ?_
 rintro v9 w5 ⟨⟨x9,e9,iC⟩,h,aC⟩
 subst e9
 refine W ?_
 exact⟨_,rfl,⟨_,rfl,by simp;omega⟩,h.more om,hk.trans aC⟩
 refine W ?_
 refine zc rfl (λh8=>?_) (λh8=>?_)
 refine W ?_
 refine aA (ih ns ts (([40,42,32,105,32]++want)++[41]) br (q+1) _ _ w4 hl om hs so om h bM bT) ?_
 rintro v9 w5 ⟨⟨x9,e9,iC⟩,h,aC⟩
 subst e9
 refine W ?_
 exact⟨_,rfl,⟨_,rfl,by simp;omega⟩,h.more om,hk.trans aC⟩
 refine W ?_
 refine zc rfl (λh9=>?_) (λh9=>?_)
 refine W ?_
 refine zc rfl (λfB=>?_) (λfB=>?_)
 refine zr<|zm<|aA (amD br (q+1) om w4 h) ?_
 rintro v9 w5 ⟨⟨x9,e9,iC⟩,h,aC⟩
 subst e9
 refine W ?_
 exact⟨_,rfl,⟨x9,rfl,om⟩,h.more om,hk.trans aC⟩
 refine W ?_
 refine aA (hB ns ts want br (q+1) _ _ w4 hl om hs om om h bM bT) ?_
 rintro v9 w5 ⟨⟨x9,e9,iC⟩,h,aC⟩
 subst e9
 refine W ?_
 exact⟨_,rfl,⟨x9,rfl,om⟩,h.more om,hk.trans aC⟩
 refine W ?_
 refine aA (hB ns ts want br (q+1) _ _ w4 hl om hs om om h bM bT) ?_
 rintro v9 w5 ⟨⟨x9,e9,iC⟩,h,aC⟩
 subst e9
 refine W ?_
 exact⟨_,rfl,⟨x9,rfl,om⟩,h.more om,hk.trans aC⟩
theorem PE:∀d,d<=9->HT d (4^d)
 |0,_=>amV
 |d+1,h=>by
  have h2:4^d<=4^9:=Nat.pow_le_pow_right de om
  have:=amW d (4^d) om (Nat.pos_of_ne_zero sm) (Nat.le_trans h2 de) (PE d om)
  rw[Nat.pow_succ,Nat.mul_comm]
  exact this
theorem lX.zero {TB TS:TypeId} (h:aJ w b #[] TB):lX w TB TS (.slice (some ⟨b,0,none⟩) 0 0) (some b) [] [] []:=
 ⟨⟨by simp,.inr ⟨b,0,#[],rfl,rfl,h,lR _,by decide,rfl,rfl⟩⟩,trivial,by simp[gA],by simp[gA]⟩
theorem lX.gr {TB TS:TypeId} (h:lX w TB TS v g gss vss bs) (hL:∀x,x∈g.toList++gA gss->x∉L) (hB:∀b,g=some b->B<=b) (hl:∀x,x∈L->x<w.heap.size) (hs:B<=w.heap.size):Gr B L w TB 3 v g (bs.map Bk.enc):=by
 have hd:=(List.nodup_append.1 h.nodup).2.2
 refine⟨⟨vss.flatten,by simpa using h.own,h.rows.Bx λx hx hc=>?_,?_,λb hb=>hL b (by simp[hb])⟩,hB,hl,hs⟩
 ·rcases mA.1 hc with hc|hc
  ·exact hd x hc x hx rfl
  ·exact hL x (by simp[hx]) hc
 ·intro row hr
  obtain⟨c,_,rfl⟩:=List.mem_map.1 hr
  rfl
theorem Gr.am1 {T:TypeId} (h:Gr B L w T 3 v g (bs.map Bk.enc)) (hb:0<bs.length):∃b a1 n1 c1 a2 n2 c2 cap,v= .slice (some ⟨b,0,none⟩) bs.length cap∧fQ w b 0 [str (bR bs 0).aM,.slice a1 n1 c1,.slice a2 n2 c2]∧bc (g.toList++L) w (.slice a1 n1 c1) (bR bs 0).ck∧bc (g.toList++L) w (.slice a2 n2 c2) (bR bs 0).code:=by
 obtain⟨xs,⟨hl,dA⟩,gD,gY,SJ⟩:=h.own
 cases bs with
 |nil=>simp at hb
 |cons f bs=>
  rcases dA with⟨_,h0,_⟩|⟨b,cap,cur,hg,rfl,am2,mn,lT,bY,ht⟩
  ·simp at h0
  ·simp only[List.map_cons,List.flatten_cons,Bk.enc] at gD
   match xs,gD with
   |x0::x1::x2::r,gD=>
    obtain⟨r0,r1,r2,_⟩:=gD
    cases r0
    obtain⟨a1,n1,c1,rfl,_⟩:=dI (xs:=f.ck) r1
    obtain⟨a2,n2,c2,rfl,_⟩:=dI (xs:=f.code) r2
    refine⟨b,a1,n1,c1,a2,n2,c2,cap,sm,λj u hj=>?_,r1,r2⟩
    have Cc:j<3:=(List.getElem?_eq_some_iff.1 hj).1
    have h1:cur.toList[j]?=some u:=by
     have h2:=congrArg (λl=>l[j]?) ht
     simp only[List.getElem?_take] at h2
     rw[iP so] at h2
     rw[h2,<-hj]
     match j,Cc with
     |0,_=>rfl
     |1,_=>rfl
     |2,_=>rfl
    rw[Nat.zero_add,am2.cell]
    simpa using h1
section
variable {P:Program} {n:Nat} {ops:Array Oper} {K:Env->World->Prop} {rest:List Oper} {e:Env} {w:World}
 {dst:Option Nat} {ty:TypeId} {pos:String} {after:Array Edge} {g:Option (Nat×Bool)} {x y:Operand}
theorem am3 {t E TS bytes:Nat} {z:Value} {v:Value} {gb:Option Nat} {gss:List (Option Nat×Option Nat)} {vss:List (List Value)} {bs:List Bk} {f:Bk} {gs:Option Nat×Option Nat} {a1 a2:Option Addr} {n1 c1 n2 c2:Nat} {b U:Nat} (hT:P.underlying t=some (.slice E)) (hE:TI P E 3 bytes z) (hg:gate ops e g=true) (hd:cm n dst=true) (hz:Nat.beq z.cells.size 3=true) (gj:Nat.ble bytes 1000=true) 
  (hx:ev e x=v) (hy:ev e y= .slice (some ⟨b,0,none⟩) 1 1) (hP:lX w E TS v gb gss vss bs) (hb:aJ w b [str f.aM,.slice a1 n1 c1,.slice a2 n2 c2].toArray U)
  (h1:cz w TS (.slice a1 n1 c1) gs.1 f.ck) (h2:cz w TS (.slice a2 n2 c2) gs.2 f.code) (nB:∀x,x∈iX gs->x∉gb.toList++gA gss) (iV:(iX gs).Nodup) (hn:bs.length<100000000)
  (k:∀a' cap' g' w',lX w' E TS (.slice a' (bs++[f]).length cap') g' (gss++[gs]) (vss++[[str f.aM,.slice a1 n1 c1,.slice a2 n2 c2]]) (bs++[f])->aj gb.toList w w'->(g'=gb∨∃z,g'=some z∧w.heap.size<=z)->OW P n ops K rest (bQ e dst (.slice a' (bs++[f]).length cap')) w'):
  OW P n ops K (⟨dst,.call {callee:=.builtin .append,args:=#[x,y],argTypes:=#[t,t]},ty,pos,after,g⟩::rest) e w:=by
 obtain⟨i,hi,xr,gN,yK⟩:=hE.get
 have Bw:bytes<=1000:=Nat.le_of_ble_eq_true gj
 have HX:(bs.length+1)*bytes<=140737488355328:=Nat.le_trans (Nat.mul_le_mul (show bs.length+1<=100000000 by omega) Bw) de
 obtain⟨v',g',w',jK,dA,hk,ky⟩:=P2 (P:=P) (w:=w) (ty:=ty) hT hi xr gN yK (Nat.eq_of_beq_eq_true hz) hP.own b 0 1 1 [str f.aM,.slice a1 n1 c1,.slice a2 n2 c2] rfl (by have:=hb.all;simpa using this)
  (by intro u hu;simp at hu;rcases hu with rfl|rfl|rfl<;>rfl) de (by unfold maxLen;omega) HX
 have xu:iE w' E 3 v' g' (bs++[f]).length (vss++[[str f.aM,.slice a1 n1 c1,.slice a2 n2 c2]]).flatten:=by
  simpa using dA
 obtain⟨a',cap',he⟩:=xu.len
 subst he
 have HU:=(List.nodup_append.1 hP.nodup)
 have XZ:∀x,x∈iX gs->x<w.heap.size:=λx hx=>by
  simp only[iX,mA] at hx
  rcases hx with hx|hx
  ·exact iE.lt h1 x (by simpa using hx)
  ·exact iE.lt h2 x (by simpa using hx)
 refine eX hg hd (w':=w') (by
  simp only[execOp,resolve,invoke,builtin,Sem.run_bind,Sem.run_pure,Result.andThen_ok,List.map_toArray,List.map_cons,List.map_nil,hx,hy,jK]) (k a' cap' g' w' ⟨xu,?_,?_,?_⟩ hk (ky.imp id λh=>⟨_,h,lR _⟩))
 ·refine iR.snoc (hP.rows.aG hk λx hx hg=>HU.2.2 x hg x hx rfl) ⟨_,_,rfl,h1.aG hk λb hb hx=>?_,h2.aG hk λb hb hx=>?_⟩
  ·exact nB b (by simp[iX,hb]) (by simp at hx;simp[hx])
  ·exact nB b (by simp[iX,hb]) (by simp at hx;simp[hx])
 ·rw[MK,<-List.append_assoc]
  refine List.nodup_append.2 ⟨List.nodup_append.2 ⟨by cases g'<;>simp,HU.2.1,λa ha c hc=>?_⟩,iV,λa ha c hc=>?_⟩
  ·rintro rfl
   rcases ky with h|h
   ·rw[h] at ha;exact HU.2.2 a ha a hc rfl
   ·rw[h] at ha;simp at ha;have:=hP.lt a hc;omega
  ·rintro rfl
   rcases mA.1 ha with ha|ha
   ·rcases ky with h|h
    ·rw[h] at ha;exact nB a hc (by simp at ha;simp[ha])
    ·rw[h] at ha;simp at ha;have:=XZ a hc;omega
   ·exact nB a hc (by simp[ha])
 ·intro x hx
  rw[MK,mA] at hx
  rcases hx with hx|hx
  ·exact lL (hP.lt x hx) hk.size
  ·exact lL (XZ x hx) hk.size
theorem iR.PF {w:World} {T:TypeId}:∀{gss:List (Option Nat×Option Nat)} {vss:List (List Value)} {bs:List Bk} {i:Nat} {g:Option Nat×Option Nat} {v:List Value} {f:Bk},iR w T gss vss bs->p4 w' T g v f->
  (∀(g2:Option Nat×Option Nat) (v2:List Value) (b2:Bk),(∀x,x∈iX g2->x∈gA gss)->p4 w T g2 v2 b2->p4 w' T g2 v2 b2)->iR w' T (gss.set i g) (vss.set i v) (bs.set i f)
 |[],[],[],i,g,v,f,_,_,_=>trivial
 |g0::gs,v0::vs,b0::bs,0,g,v,f,h,hf,hk=>by
  refine⟨hf,?_⟩
  have:=iR.PF (i:=gs.length) (g:=g) (v:=v) (f:=f) h.2 hf λg2 v2 b2 hg ho=>hk g2 v2 b2 (λx hx=>by rw[I1];exact mR _ (hg x hx)) ho
  have hl:=iR.lens h.2
  rwa [List.set_eq_of_length_le om,List.set_eq_of_length_le om,List.set_eq_of_length_le om] at this
 |g0::gs,v0::vs,b0::bs,i+1,g,v,f,h,hf,hk=>
  ⟨hk g0 v0 b0 (λx hx=>by rw[I1];exact List.mem_append_left _ hx) h.1,iR.PF h.2 hf λg2 v2 b2 hg ho=>hk g2 v2 b2 (λx hx=>by rw[I1];exact mR _ (hg x hx)) ho⟩
theorem am4 {T TB TS bytes:Nat} {z:Value} {v:Value} {gb:Option Nat} {gss:List (Option Nat×Option Nat)} {vss:List (List Value)} {bs:List Bk} {a2:Option Addr} {n2 c2:Nat} {g2:Option Nat} {ys:List ai} {L:List Nat} {o i:Nat} (jL:TI P T 1 bytes z) (hg:gate ops e g=true) (hx:ev e x= .pointer (some ⟨b,o,none⟩)) (hy:ev e y= .slice a2 n2 c2) (ho:o=i*3+2) 
  (hO:lX w TB TS v gb gss vss bs) (oe:gb=some b) (hi:i<bs.length) (h2:cz w TS (.slice a2 n2 c2) g2 ys) (nB:∀x,x∈g2.toList->x∉gb.toList) (hL:∀x,x∈gb.toList++gA gss++g2.toList->x∉L)
  (k:∀w',aj gb.toList w w'->(∃xs,gP L w' TB 3 v gb ((bs.set i {bR bs i with code:=ys}).map Bk.enc) xs)->w'.heap.size=w.heap.size->OW P n ops K rest e w'):OW P n ops K (⟨none,.store T x y,ty,pos,after,g⟩::rest) e w:=by
 subst ho
 have hd:=List.nodup_append.1 hO.nodup
 have dA:=hO.own
 obtain⟨gs,vs,jm,aV,v1,v2,MB,dm,dy⟩:=hO.rows.get (py hi)
 obtain⟨fj,iw,wb⟩:=hO.rows.lens
 subst oe
 obtain⟨hl,h|⟨b',cap,cur,oe,hv,hb,mn,lT,bY,ht⟩⟩:=dA
 ·obtain⟨_,_,h⟩:=h;cases h
 ·cases oe
  subst hv
  refine Dl jL rfl hg hx hy rfl hb (by rw[bY];omega) λw' hk gO hz=>?_
  have oW:(vss.set i [str (bR bs i).aM,v1,.slice a2 n2 c2]).flatten=vss.flatten.set (i*3+2) (.slice a2 n2 c2):=by
   have:=S4 (a:=.slice a2 n2 c2) (j:=2) wb aV de
   rw[this,MB];rfl
  have fO:∀x,x∈gA gss->x∉[b]:=λq hq h=>by simp at h;subst h;exact hd.2.2 q sm q hq rfl
  have gY:p4 w' TS (gs.1,g2) [str (bR bs i).aM,v1,.slice a2 n2 c2] {bR bs i with code:=ys}:=
   ⟨v1,_,rfl,dm.aG hk (λb hb=>fO b (BW jm (by simp[iX,hb]))),h2.aG hk (λb hb hx=>nB b (by simp[hb]) (by simpa using hx))⟩
  have am5:=iR.PF (i:=i) hO.rows gY λg2 v2 b2 iT ho=>ho.aG hk λx hx=>fO x (iT x hx)
  have rF:∀x,x∈gA (gss.set i (gs.1,g2))->x∈gA gss∨x∈g2.toList:=λx hx=>by
   simp only[gA,List.mem_flatMap] at hx⊢
   obtain⟨q,hq,PG⟩:=hx
   rcases List.mem_or_eq_of_mem_set hq with h|h
   ·exact .inl ⟨q,h,PG⟩
   ·subst h
    simp only[iX,mA] at PG
    rcases PG with h|h
    ·exact .inl ⟨gs,List.mem_of_getElem? jm,by simp only[iX,mA];exact .inl h⟩
    ·exact .inr h
  have HU:∀x,x∈gA (gss.set i (gs.1,g2))->x≠b:=λx hx e=>by
   rcases rF x hx with h|h
   ·exact fO x h (by simp[e])
   ·exact nB x h (by simp[e])
  refine k w' (by simpa using hk) ?_ hz
  refine⟨(vss.set i [str (bR bs i).aM,v1,.slice a2 n2 c2]).flatten,⟨?_,.inr ⟨b,_,_,rfl,sm,gO,by simpa using mn,lT,by simpa using bY,?_⟩⟩,am5.Bx λx hx hc=>?_,?_,λc hc=>hL c (by simp[hc])⟩
  ·rw[oW,List.length_set,hl,List.length_map,List.length_set]
  ·rw[Array.toList_setIfInBounds,List.length_map,List.length_set,List.take_set,ht,oW]
  ·rcases mA.1 hc with hc|hc
   ·simp at hc;exact HU x hx hc
   ·rcases rF x hx with h|h
    ·exact hL x (by simp[h]) hc
    ·exact hL x (by simp[h]) hc
  ·intro row hr
   obtain⟨c,_,rfl⟩:=List.mem_map.1 hr
   rfl
end
def vB (bs bs':List Bk):Prop:=bs'.length=bs.length∧∀i,i<bs.length->(bR bs' i).aM=(bR bs i).aM∧(bR bs' i).ck=(bR bs i).ck∧(bR bs' i).code.length<=(bR bs i).code.length∧∀x,x∈(bR bs' i).code->x∈(bR bs i).code∨si x=true
theorem vB.refl (bs:List Bk):vB bs bs:=⟨rfl,λ_ _=>⟨rfl,rfl,lR _,λ_ h=>.inl h⟩⟩
theorem am6 {j:Nat} {f:Bk} (hi:i<bs.length):bR (bs.set i f) j=if j=i then f else bR bs j:=by
 unfold bR
 rw[gG,gG,List.getElem?_set]
 by_cases h:i=j
 ·subst h;simp[hi]
 ·rw[iN h,iN (λe=>h e.symm)]
theorem vB.set {cs:List Bk} (h:vB bs cs) (hi:i<bs.length) (hl:ys.length<=(bR bs i).code.length) (hy:∀x,x∈ys->x∈(bR bs i).code∨si x=true):vB bs (cs.set i {bR cs i with code:=ys}):=by
 refine⟨by rw[List.length_set];exact h.1,λj hj=>?_⟩
 rw[am6 (by rw[h.1];exact hi)]
 by_cases e:j=i
 ·subst e
  rw[iP rfl]
  obtain⟨h1,h2,_,_⟩:=h.2 j hj
  exact⟨h1,h2,hl,hy⟩
 ·rw[iN e];exact h.2 j hj
def E1:List ai:=[[48],[49],[45,55],[57,57,57]]
def PH:List ai:=[[97,100,100],[115,117,98],[109,117,108]]
def PI:List ai:=[[48],[49],[50]]
def PJ:List ai:=[[109,97,105,110],[98,48],[98,49],[101,110,100]]
def PK:List ai:=[[40,101,32,118,41,32,105],[40,101,32,40,116,32,118,32,118,41,41,32,105],[40,101,32,40,116,32,40,99,32,118,32,105,41,32,118,41,41,32,40,116,41],[40,101,32,118,41,32,40,116,32,105,32,105,41]]
def PL:List ai:=[[98,48],[98,49],[109,97,105,110]]
def PM:List ai:=[[40,104,97,108,116,32,52,48,41],[40,99,111,110,115,116,32,49,32,120,41],[40,109,111,118,32,49,41],[40,110,101,119,41],[40,112,97,99,107,32,49,32,50,32,105,32,105,41],[],[40,103,101,116,32,49,32,50,32,45,49,41],[40,122,101,114,111,32,49,32,50,41],[40,108,97,98,32,48,32,109,97,105,110,41],[40,104,97,108,116,32,48,41]]
theorem am7 (br q:Nat) (hq:q<=900000000) (w:World) (h:dB w br q):
  bz Tryz.prog 113 [.pointer (some ⟨br,0,none⟩)] w λr w'=>(∃x,r=str x∧x.length<=100)∧dB w' br (q+5)∧aj [br] w w':=by
 refine bX [.tmp 2] 133 Tryz.func113 rfl aaJ rfl rfl ?_
 refine W ?_
 refine aA (HS br (q+0) om w h) ?_
 rintro v7 w1 ⟨⟨za,XL,e7⟩,h,bV⟩
 have hxA:∃x,x=aT za:=⟨_,rfl⟩
 obtain⟨tA,etA⟩:=hxA
 rw[<-etA] at e7
 subst e7
 have V3:tA.length<=3:=(by rw[etA];exact sE om)
 have aC:=bV
 refine W ?_
 refine aA (HS br (q+1) om w1 h) ?_
 rintro v7 w2 ⟨⟨zb,XM,e7⟩,h,bV⟩
 have hxB:∃x,x=aT zb:=⟨_,rfl⟩
 obtain⟨tB,etB⟩:=hxB
 rw[<-etB] at e7
 subst e7
 have V4:tB.length<=3:=(by rw[etB];exact sE om)
 have aC:=aC.trans bV
 refine W ?_
 refine aA (HS br (q+2) om w2 h) ?_
 rintro v7 w3 ⟨⟨zd,hzd,e7⟩,h,bV⟩
 have hxD:∃x,x=aT zd:=⟨_,rfl⟩
 obtain⟨tD,etD⟩:=hxD
 rw[<-etD] at e7
 subst e7
 have hlD:tD.length<=3:=(by rw[etD];exact sE om)
 have aC:=aC.trans bV
 refine W ?_
 refine aA (lP 14 de de br (q+3) om w3 h) ?_
 rintro GU w4 ⟨⟨z,EB,hz⟩,h,gw⟩
 subst EB
 have aC:=aC.trans gw
 have lQ:=h.lt
 refine W ?_
 refine zc rfl (λh1=>?_) (λh1=>?_)
 refine gz<|zc rfl (λh2=>?_) (λh2=>?_)
 refine W ?_
 refine xV bh bf rfl rfl rfl rfl rfl rfl λw5 aP uQ iI=>bI aP h aC λh aC=>?_
 refine aA (ml E1 de de br (q+4) om _ w5 h (aJ.dK E1 uQ (λhx=>by simp at hx;omega) de)) ?_
 rintro l9 w6 ⟨⟨x1,ij,gR⟩,h,du⟩
 subst gR
 have aC:=aC.trans du
 have et:=(show∀x,x∈E1->x.length<=30 from by decide) _ ij
 refine W ?_
 exact⟨_,rfl,⟨_,rfl,by simp;omega⟩,h.more om,aC⟩
 omega
 refine W ?_
 refine zc rfl (λh3=>?_) (λh3=>?_)
 refine W ?_
 refine xV bh bf rfl rfl rfl rfl rfl rfl λw5 aP uQ iI=>bI aP h aC λh aC=>?_
 refine aA (ml E1 de de br (q+4) om _ w5 h (aJ.dK E1 uQ (λhx=>by simp at hx;omega) de)) ?_
 rintro l9 w6 ⟨⟨x1,ij,gR⟩,h,du⟩
 subst gR
 have aC:=aC.trans du
 have et:=(show∀x,x∈E1->x.length<=30 from by decide) _ ij
 refine W ?_
 exact⟨_,rfl,⟨_,rfl,by simp;omega⟩,h.more om,aC⟩
 refine W ?_
 refine zc rfl (λh4=>?_) (λh4=>?_)
 refine W ?_
 exact⟨_,rfl,⟨_,rfl,by simp;omega⟩,h.more om,aC⟩
 refine W ?_
 refine zc rfl (λh5=>?_) (λh5=>?_)
 refine zr<|zm<|pI bh bf rfl rfl rfl rfl rfl λw5 aP vm iI=>bI aP h aC λh aC=>?_
 refine aA (ml PH de de br (q+4) om _ w5 h (aJ.dK PH vm (λhx=>by simp at hx;omega) de)) ?_
 rintro l9 w6 ⟨⟨x1,ij,gR⟩,h,du⟩
 subst gR
 have aC:=aC.trans du
 have et:=(show∀x,x∈PH->x.length<=30 from by decide) _ ij
 refine W ?_
 exact⟨_,rfl,⟨_,rfl,by simp;omega⟩,h.more om,aC⟩
 refine W ?_
 refine zc rfl (λh6=>?_) (λh6=>?_)
 refine W ?_
 exact⟨_,rfl,⟨_,rfl,by simp;omega⟩,h.more om,aC⟩
 refine W ?_
 refine zc rfl (λh7=>?_) (λh7=>?_)
 refine W ?_
 exact⟨_,rfl,⟨_,rfl,by simp;omega⟩,h.more om,aC⟩
 refine W ?_
 refine zc rfl (λh8=>?_) (λh8=>?_)
 refine W ?_
 refine pI bh bf rfl rfl rfl rfl rfl λw5 aP Ol iI=>bI aP h aC λh aC=>?_
 refine aA (ml PI de de br (q+4) om _ w5 h (aJ.dK PI Ol (λhx=>by simp at hx;omega) de)) ?_
 rintro l9 w6 ⟨⟨x1,ij,gR⟩,h,du⟩
 subst gR
 have aC:=aC.trans du
 have et:=(show∀x,x∈PI->x.length<=30 from by decide) _ ij
 refine W ?_
 exact⟨_,rfl,⟨_,rfl,by simp;omega⟩,h.more om,aC⟩
 refine W ?_
 refine zc rfl (λh9=>?_) (λh9=>?_)
 refine W ?_
 refine xV bh bf rfl rfl rfl rfl rfl rfl λw5 aP EC iI=>bI aP h aC λh aC=>?_
 refine aA (ml PJ de de br (q+4) om _ w5 h (aJ.dK PJ EC (λhx=>by simp at hx;omega) de)) ?_
 rintro l9 w6 ⟨⟨x1,ij,gR⟩,h,du⟩
 subst gR
 have aC:=aC.trans du
 have et:=(show∀x,x∈PJ->x.length<=30 from by decide) _ ij
 refine W ?_
 exact⟨_,rfl,⟨_,rfl,by simp;omega⟩,h.more om,aC⟩
 refine W ?_
 refine zc rfl (λfB=>?_) (λfB=>?_)
 refine W ?_
 refine xV bh bf rfl rfl rfl rfl rfl rfl λw5 aP Hz iI=>bI aP h aC λh aC=>?_
 refine aA (ml PK de de br (q+4) om _ w5 h (aJ.dK PK Hz (λhx=>by simp at hx;omega) de)) ?_
 rintro l9 w6 ⟨⟨x1,ij,gR⟩,h,du⟩
 subst gR
 have aC:=aC.trans du
 have et:=(show∀x,x∈PK->x.length<=30 from by decide) _ ij
 refine W ?_
 exact⟨_,rfl,⟨_,rfl,by simp;omega⟩,h.more om,aC⟩
 refine W ?_
 refine zc rfl (λmB=>?_) (λmB=>?_)
 refine W ?_
 exact⟨_,rfl,⟨_,rfl,by simp;omega⟩,h.more om,aC⟩
 refine W ?_
 refine zc rfl (λkC=>?_) (λkC=>?_)
 refine W ?_
 refine pI bh bf rfl rfl rfl rfl rfl λw5 aP Ka iI=>bI aP h aC λh aC=>?_
 refine aA (ml PL de de br (q+4) om _ w5 h (aJ.dK PL Ka (λhx=>by simp at hx;omega) de)) ?_
 rintro l9 w6 ⟨⟨x1,ij,gR⟩,h,du⟩
 subst gR
 have aC:=aC.trans du
 have et:=(show∀x,x∈PL->x.length<=30 from by decide) _ ij
 refine W ?_
 exact⟨_,rfl,⟨_,rfl,by simp;omega⟩,h.more om,aC⟩
 refine W ?_
 refine zc rfl (λmD=>?_) (λmD=>?_)
 refine W ?_
 refine kK bh bf rfl rfl rfl rfl λw5 aP NB iI=>bI aP h aC λh aC=>?_
 refine aA (ml [[40,106,117,109,112,32]++tA++[41],[40,104,97,108,116,32]++tA++[41]] sm sm br (q+4) om _ w5 h (aJ.dK [[40,106,117,109,112,32]++tA++[41],[40,104,97,108,116,32]++tA++[41]] NB (λhx=>by simp at hx;omega))) ?_
 rintro l9 w6 ⟨⟨x1,ij,gR⟩,h,du⟩
 subst gR
 have aC:=aC.trans du
 have et:x1.length<=30:=(by simp only[mC,List.not_mem_nil,or_false] at ij;rcases ij with rfl|rfl<;>simp<;>omega)
 refine W ?_
 exact⟨_,rfl,⟨_,rfl,om⟩,h.more om,aC⟩
 refine gz<|zr<|zm<|aeZ bh bf rfl rfl rfl rfl rfl rfl rfl rfl rfl rfl rfl rfl λw5 aP anb iI=>bI aP h aC λh aC=>?_
 refine aA (ml PM de de br (q+4) om _ w5 h (aJ.dK PM anb (λhx=>by simp at hx;omega) de)) ?_
 rintro l9 w6 ⟨⟨x1,ij,gR⟩,h,du⟩
 subst gR
 have aC:=aC.trans du
 have et:=(show∀x,x∈PM->x.length<=30 from by decide) _ ij
 refine W ?_
 exact⟨_,rfl,⟨_,rfl,om⟩,h.more om,aC⟩
def KH:List ai:=[[105],[105],[40,116,41],[40,116,32,105,32,105,41],[40,101,32,118,41]]
theorem anc {α:Type} {l:List α} (h:l.length=7):∃a b c d e f g,l=[a,b,c,d,e,f,g]:=by
 match l,h with|[a,b,c,d,e,f,g],_=>exact⟨a,b,c,d,e,f,g,rfl⟩
structure PN (b:Bk) (aM:ai):Prop where
 aM:b.aM=aM
 regs:b.ck.length<=10∧∀x,x∈b.ck->x.length<=100
 code:1<=b.code.length∧b.code.length<=10∧∀x,x∈b.code->x.length<=100
structure rf (br:Nat) (w:World) (b6 b7:Nat) (aM:ai) (v1:Value) (g1:Option Nat) (xs:List ai) (v2:Value) (g2:Option Nat) (ys:List ai) (q:Nat) (ww:World):Prop where
 box:aJ ww b7 [str aM,v1,v2].toArray 58
 res:aJ ww b6 [str [],.slice none 0 0,.slice none 0 0].toArray 58
 o1:cz ww 9 v1 g1 xs
 o2:cz ww 9 v2 g2 ys
 rd:dB ww br q
 kp:aj [br] w ww
 f1:∀x,x∈g1.toList->w.heap.size<=x∧x≠b6∧x≠b7∧x∉g2.toList
 f2:∀x,x∈g2.toList->w.heap.size<=x∧x≠b6∧x≠b7∧x∉g1.toList
theorem rf.ext {br:Nat} {aM:ai} {ww:World} (h:rf br w b6 b7 aM v1 g1 xs v2 g2 ys q ww) (k:aj [] ww w'):rf br w b6 b7 aM v1 g1 xs v2 g2 ys q w':=
 ⟨h.box.ext k,h.res.ext k,h.o1.ext k,h.o2.ext k,h.rd.ext k,h.kp.ext k,h.f1,h.f2⟩
theorem rf.Hl {br:Nat} {aM:ai} {ww wx:World} {zs:List ai} (h:rf br w b6 b7 aM v1 g1 xs v2 g2 ys q ww) (ig:br<w.heap.size) (h6:w.heap.size<=b6) (h7:w.heap.size<=b7) (PO:b6≠b7) (hO:cz wx 9 v g zs) (eF:dB wx br q') (k:aj (br::g1.toList) ww wx) (hg:g=g1∨∃z,g=some z∧ww.heap.size<=z) (k2:aj [b7] wx w') (hb:aJ w' b7 [str aM,v,v2].toArray 58):rf br w b6 b7 aM v g zs v2 g2 ys q' w':=by
 have iT:∀x,x∈g.toList->x∈g1.toList∨ww.heap.size<=x:=λx hx=>by
  rcases hg with rfl|⟨z,rfl,hz⟩
  ·exact .inl hx
  ·simp at hx;right;omega
 have s7:=h.box.lt
 have s6:=h.res.lt
 have gN:=h.kp.size
 have f1:∀x,x∈g.toList->w.heap.size<=x∧x≠b6∧x≠b7∧x∉g2.toList:=λx hx=>by
  rcases iT x hx with h9|h9
  ·exact h.f1 x h9
  ·exact⟨by omega,om,om,λhy=>by have:=h.o2.lt x hy;omega⟩
 have n6:b6∉br::g1.toList:=λhx=>by
  rcases mC.1 hx with h9|h9
  ·omega
  ·exact(h.f1 b6 h9).2.1 rfl
 refine⟨hb,(h.res.aG k n6).aG k2 (by simpa using PO),hO.aG k2 (λx hx hy=>(f1 x (by simp[hx])).2.2.1 (by simpa using hy)),(h.o2.aG k (λx hx hy=>?_)).aG k2 (λx hx hy=>(h.f2 x (by simp[hx])).2.2.1 (by simpa using hy)),eF.aG k2 (λx hx=>by simp at hx;omega),?_,f1,λx hx=>⟨(h.f2 x hx).1,(h.f2 x hx).2.1,(h.f2 x hx).2.2.1,λhy=>(f1 x hy).2.2.2 hx⟩⟩
 ·rcases mC.1 hy with h9|h9
  ·have:=(h.f2 x (by simp[hx])).1;omega
  ·exact(h.f2 x (by simp[hx])).2.2.2 h9
 ·refine(h.kp.since k λx hx=>?_).since k2 λx hx=>.inr (by simp at hx;omega)
  rcases mC.1 hx with h9|h9
  ·exact .inl (by simp[h9])
  ·exact .inr (h.f1 x h9).1
theorem rf.AF {br:Nat} {aM:ai} {ww wx:World} {zs:List ai} (h:rf br w b6 b7 aM v1 g1 xs v2 g2 ys q ww) (ig:br<w.heap.size) (h6:w.heap.size<=b6) (h7:w.heap.size<=b7) (PO:b6≠b7) (hO:cz wx 9 v g zs) (eF:dB wx br q') (k:aj (br::g2.toList) ww wx) (hg:g=g2∨∃z,g=some z∧ww.heap.size<=z) (k2:aj [b7] wx w') (hb:aJ w' b7 [str aM,v1,v].toArray 58):rf br w b6 b7 aM v1 g1 xs v g zs q' w':=by
 have iT:∀x,x∈g.toList->x∈g2.toList∨ww.heap.size<=x:=λx hx=>by
  rcases hg with rfl|⟨z,rfl,hz⟩
  ·exact .inl hx
  ·simp at hx;right;omega
 have s7:=h.box.lt
 have s6:=h.res.lt
 have gN:=h.kp.size
 have f1:∀x,x∈g.toList->w.heap.size<=x∧x≠b6∧x≠b7∧x∉g1.toList:=λx hx=>by
  rcases iT x hx with h9|h9
  ·exact h.f2 x h9
  ·exact⟨by omega,om,om,λhy=>by have:=h.o1.lt x hy;omega⟩
 have n6:b6∉br::g2.toList:=λhx=>by
  rcases mC.1 hx with h9|h9
  ·omega
  ·exact(h.f2 b6 h9).2.1 rfl
 refine⟨hb,(h.res.aG k n6).aG k2 (by simpa using PO),(h.o1.aG k (λx hx hy=>?_)).aG k2 (λx hx hy=>(h.f1 x (by simp[hx])).2.2.1 (by simpa using hy)),hO.aG k2 (λx hx hy=>(f1 x (by simp[hx])).2.2.1 (by simpa using hy)),eF.aG k2 (λx hx=>by simp at hx;omega),?_,λx hx=>⟨(h.f1 x hx).1,(h.f1 x hx).2.1,(h.f1 x hx).2.2.1,λhy=>(f1 x hy).2.2.2 hx⟩,f1⟩
 ·rcases mC.1 hy with h9|h9
  ·have:=(h.f1 x (by simp[hx])).1;omega
  ·exact(h.f1 x (by simp[hx])).2.2.2 h9
 ·refine(h.kp.since k λx hx=>?_).since k2 λx hx=>.inr (by simp at hx;omega)
  rcases mC.1 hx with h9|h9
  ·exact .inl (by simp[h9])
  ·exact .inr (h.f2 x h9).1
theorem rf.call {br:Nat} {aM:ai} {ww:World} (h:rf br w b6 b7 aM v1 g1 xs v2 g2 ys q ww) (ig:br<w.heap.size) (h6:w.heap.size<=b6) (h7:w.heap.size<=b7) (eF:dB w' br q') (k:aj [br] ww w'):rf br w b6 b7 aM v1 g1 xs v2 g2 ys q' w':=
 ⟨h.box.aG k so,h.res.aG k so,h.o1.aG k (λx hx hy=>by have:=(h.f1 x (by simp[hx])).1;simp at hy;omega),h.o2.aG k (λx hx hy=>by have:=(h.f2 x (by simp[hx])).1;simp at hy;omega),eF,h.kp.trans k,h.f1,h.f2⟩
theorem PQ (aM:ai) (k:Nat) (hk:k<=10) (br q:Nat) (hq:q<=800000000) (w:World) (h:dB w br q):
  bz Tryz.prog 80 [.pointer (some ⟨br,0,none⟩),str aM,.int .i64 (k:Int)] w λr w'=>(∃bk,PN bk aM∧∀L:List Nat,(∀x,x∈L->x<w.heap.size)->qC L w' r bk)∧dB w' br (q+100)∧aj [br] w w':=by
 have ig:=h.lt
 have hK:=aj.refl [] w
 refine jr [.cell 6 58] 64 Tryz.func80 rfl acN rfl rfl rfl ?_
 refine zr<|dk gB rfl rfl rfl λw1 aI bA kF=>?_
 have hK:=hK.ext aI
 refine aZ<|zr<|zm<|fN bh bf λw2 az lF GV=>bI az hK bA λhK bA=>?_
 refine fN bh bf λw3 aH wv Cz=>cG aH hK bA lF λhK bA lF=>?_
 refine iO (LI _ _ _ _ _ _ _ _) rfl rfl<|dk gB rfl rfl rfl λw4 aO cQ oT=>gQ aO hK bA lF wv λhK bA lF wv=>?_
 refine cw gB rfl rfl rfl cQ rfl λw5 aP cQ df=>?_
 have hK:=hK.since aP (λx hx=>.inr (by simp at hx;omega))
 have bA:=bA.aG aP so
 have lF:=lF.aG aP so
 have wv:=wv.aG aP so
 have hS:rf br w w.heap.size w3.heap.size aM (.slice (some ⟨w1.heap.size,0,none⟩) 0 0) (some w1.heap.size) [] (.slice (some ⟨w2.heap.size,0,none⟩) 0 0) (some w2.heap.size) [] q w5:=⟨cQ,bA,lF.kL,wv.kL,h.ext hK,hK.any,λx hx=>by simp at hx;subst hx;simp;omega,λx hx=>by simp at hx;subst hx;simp;omega⟩
 refine W ?_
 refine eH (λi:Nat=>[(0,.pointer (some ⟨br,0,none⟩)),(6,.pointer (some ⟨w.heap.size,0,none⟩)),(7,.pointer (some ⟨w3.heap.size,0,none⟩)),(2,.int .i64 (k:Int)),(8,.int .i64 (i:Int))]) (λi ww=>i<=k∧∃v1 g1 xs v2 g2,rf br w w.heap.size w3.heap.size aM v1 g1 xs v2 g2 [] (q+i) ww∧xs.length=i∧∀x,x∈xs->x.length<=100) (λi=>k-i) (0) (⟨rfl,rfl,rfl,rfl,rfl⟩) (⟨Nat.zero_le _,_,_,_,_,_,hS,rfl,sm⟩) λgg w6 e6 hI=>?_
 obtain⟨hi,v1,g1,xs,v2,g2,hS,hxn,yL⟩:=hI
 refine W ?_
 refine zc rfl (λh1=>?_) (λh1=>?_)
 have lK:gg<k:=(by simp at h1;omega)
 have bY:=jw hS.o1
 obtain⟨a1,c1,e1⟩:=bY
 subst e1
 have anf:br∉g1.toList:=(λhx=>by have:=(hS.f1 br hx).1;omega)
 have bj:dL (br::g1.toList) w6 w3.heap.size [str aM,.slice a1 xs.length c1,v2].toArray 58:=⟨hS.box,λhx=>by rcases mC.1 hx with h9|h9;(·omega);(·exact(hS.f1 _ h9).2.2.1 rfl)⟩
 have tQ:=bj.out
 have pP:eJ (br::g1.toList) w6:=(λz hz=>by rcases mC.1 hz with h9|h9;(·rw[h9];exact hS.rd.lt);(·exact hS.o1.lt z h9))
 refine WZ ?_
 apply jF cT ((br::g1.toList)) 7 (rA 21 7) (rA 21 7) [[],[0],[],[],[2,3],[4],[1,5]] [Ie.v _,Ie.v _,Ie.v _,Ie.p (fun(G:List Nat) (v:Value) (ww:World)=>bc G ww v KH),Ie.e 0,Ie.e 1,Ie.e 2] [4,5,6] [fun(G:List Nat) (vs:List Value) (ww:World)=>G=br::g1.toList∧aj [] w6 ww,fun(G:List Nat) (vs:List Value) (ww:World)=>G=br::g1.toList∧aj [br] w6 ww∧dB ww br (q+gg+1)∧∃x,vs.getD 0 undef=str x∧x.length<=100,fun(G:List Nat) (vs:List Value) (ww:World)=>G=br::g1.toList∧aj [br] w6 ww∧dB ww br (q+gg+1)∧∃x bb,vs.getD 0 undef=str x∧x.length<=100∧vs.getD 1 undef= .slice (some ⟨bb,0,none⟩) 1 1∧aJ ww bb [str x].toArray 9,fun(G:List Nat) (vs:List Value) (ww:World)=>aj (br::g1.toList) w6 ww∧dB ww br (q+gg+1)∧∃x g9,x.length<=100∧cz ww 9 (vs.getD 2 undef) g9 (xs++[x])∧(g9=g1∨∃z,g9=some z∧w6.heap.size<=z)] de rfl pP (by exact⟨λG v w G' w' h k=>bc.go h k,trivial⟩) (by exact⟨λG vs w w' ⟨h1,h2⟩ k=>⟨h1,h2.ext k⟩,λG vs w w' ⟨h1,h2,h3,h4⟩ k=>⟨h1,h2.ext k,h3.ext k,h4⟩,λG vs w w' ⟨h1,h2,h3,x,bb,h4,h5,h6,h7⟩ k=>⟨h1,h2.ext k,h3.ext k,x,bb,h4,h5,h6,h7.ext k⟩,λG vs w w' ⟨h1,h2,x,g9,h3,h4,h5⟩ k=>⟨h1.ext k,h2.ext k,x,g9,h3,h4.ext k,h5⟩,trivial⟩) (⟨rfl,aj.refl _ _⟩)
 refine FA ?_
 refine vf (λx w7 G7 aR mX lg=>?_) ?_
 refine Th bh bf rfl rfl rfl rfl rfl rfl rfl λw8 cA yt kG=>?_
 exact ff cA ((aJ.dK KH yt (λhx=>by have:=lg _ hx;omega) de))
 refine ve 0 (λx w7 G7 aR mX lg hJ hlen=>?_) ?_
 have aV:=jj hlen
 subst aV
 intro v3 d3
 obtain⟨bP,bS⟩:=hJ
 subst bP
 have eF:=hS.rd.ext bS
 refine aA (ml KH de de br (q+gg) om _ w7 eF (bc.fresh d3 (λx hx=>.inl (by simp at hx;simp[hx])))) ?_
 rintro v25 w8 ⟨⟨x1,ij,N0⟩,eF,Ho⟩
 subst N0
 have fj:=(show∀x,x∈KH->x.length<=100 from by decide) _ ij
 exact fe _ (Fr.of Ho sm) ((λz hz=>lL (lg z hz) Ho.size)) (⟨rfl,bS.any.trans Ho,eF,x1,rfl,fj⟩)
 refine ve 1 (λx w7 G7 aR mX lg hJ hlen=>?_) ?_
 have aX:=jk hlen
 obtain⟨q0,aV⟩:=aX
 subst aV
 obtain⟨bP,bS,eF,x1,e1,fj⟩:=hJ
 subst bP
 have e2:q0=_:=e1
 subst e2
 refine fF bh bf rfl rfl λw8 cA CE kG=>?_
 exact fe _ (Fr.of cA sm) ((λz hz=>lL (lg z hz) (aj.size cA))) (⟨rfl,bS.ext cA,eF.ext cA,x1,_,rfl,fj,rfl,CE⟩)
 refine ve 2 (λx w7 G7 aR mX lg hJ hlen=>?_) ?_
 have aX:=k8 hlen
 obtain⟨q0,q1,aV⟩:=aX
 subst aV
 obtain⟨bP,bS,eF,x1,bb,e1,fj,e2,fH⟩:=hJ
 subst bP
 have e3:q0=_:=e1
 subst e3
 have e4:q1=_:=e2
 subst e4
 have ho:=hS.o1.aG bS (λx hx hy=>anf (by simp at hy;subst hy;simp[hx]))
 refine rM bh bf rfl rfl rfl rfl rfl rfl ho fH om λv9 g9 w8 cO aC eA=>?_
 have PR:=bS.size
 exact fe ((br::g9.toList)) (⟨aC.mono (λz hz=>mK _ hz),λz hz=>by rcases mC.1 hz with h9|h9;(·exact .inl (by simp[h9]));(·rcases eA with h8|h8;(·rw[h8] at h9;exact .inl (mK _ h9));(·rw[h8] at h9;simp at h9;right;omega))⟩) ((λz hz=>by rcases mC.1 hz with h9|h9;(·rw[h9];exact lL eF.lt aC.size);(·exact cO.lt z h9))) (⟨(bS.mono sm).trans (aC.mono (λz hz=>mK _ hz)),eF.aG aC (λz hz=>by have:=(hS.f1 z hz).1;omega),x1,g9,fj,cO,eA.imp id (λh8=>⟨_,h8,PR⟩)⟩)
 exact trivial
 intro x qQ JT aR wK JU hJ hlen
 have aX:=zQ hlen
 obtain⟨q0,q1,q2,aV⟩:=aX
 subst aV
 intro v3 d3
 have bj:=bj.go wK
 change OW _ _ _ _ _ (bm (bg _ x _) (zZ 21 [_,_,_,_,_,_,_])) _
 obtain⟨ej,eF,x1,g9,fj,cO,eA⟩:=hJ
 have bY:=jw cO
 obtain⟨a9,c9,e9⟩:=bY
 have e8:q2=_:=e9
 subst e8
 have bj:=hS.box.aG ej tQ
 refine zf LN rfl<|fz (o:=1) kz rfl rfl rfl bj rfl λwq l7 bj df=>?_
 have hS:=hS.Hl ig (lR _) om om cO eF ej eA l7 bj
 refine aZ<|lp<|zm<|nU rfl rfl rfl rfl rfl (kR (gg+1) om _ om)<|zA<|aZ ?_
 exact⟨gg+1,⟨rfl,rfl,rfl,rfl,rfl⟩,⟨by omega,_,_,_,_,_,hS,by rw[lA,hxn];rfl,λx hx=>by rcases mA.1 hx with h9|h9;(·exact yL x h9);(·simp only[List.mem_singleton] at h9;rw[h9];exact fj)⟩,om⟩
 have B8:=hS.rd.more (show q+gg<=q+10 from om)
 have ang:xs.length<=10:=om
 refine W ?_
 refine aA (lP 5 de de br (q+10) om w6 B8) ?_
 rintro v30 w7 ⟨⟨n,e30,hn⟩,eF,ani⟩
 subst e30
 have hS:=hS.call ig (lR _) om eF ani
 refine W ?_
 refine eH (λj:Nat=>[(0,.pointer (some ⟨br,0,none⟩)),(6,.pointer (some ⟨w.heap.size,0,none⟩)),(7,.pointer (some ⟨w3.heap.size,0,none⟩)),(9,.int .i64 (n:Int)),(10,.int .i64 (j:Int))]) (λj ww=>j<=n∧∃v1 g1 v2 g2 ys,rf br w w.heap.size w3.heap.size aM v1 g1 xs v2 g2 ys (q+11+5*j) ww∧ys.length<=j∧∀x,x∈ys->x.length<=100) (λj=>n-j) (0) (⟨rfl,rfl,rfl,rfl,rfl⟩) (⟨Nat.zero_le _,_,_,_,_,[],hS,sm,sm⟩) λgg w8 e8 hI=>?_
 obtain⟨hj,v1,g1,v2,g2,ys,hS,hyn,PS⟩:=hI
 refine W ?_
 refine zc rfl (λh2=>?_) (λh2=>?_)
 have rB:gg<n:=om
 refine W ?_
 refine aA (am7 br (q+11+5*gg) om w8 hS.rd) ?_
 rintro v37 w9 ⟨⟨x1,e37,fj⟩,eF,ank⟩
 subst e37
 have hS:=hS.call ig (lR _) om eF ank
 refine W ?_
 refine aA (Gf x1 w9) ?_
 rintro _ bZ ⟨rfl,cj⟩
 have yl:=cj.size
 have hS:=hS.ext cj
 refine WZ ?_
 apply oA 4 40 44 (aj [] bZ) rfl oQ
 intro _
 refine zm<|aA (IX x1 bZ) ?_
 rintro _ ey ⟨rfl,cS⟩
 have A2:=cS.size
 exact oQ
 intro xx ey cS
 have hS:=hS.ext cS
 refine aZ<|zc rfl (λh4=>?_) (λh4=>?_)
 have bY:=jw hS.o2
 obtain⟨a2,c2,e2⟩:=bY
 subst e2
 have bj:=hS.box
 refine W ?_
 refine fF bh bf rfl rfl λfa cV CP He=>?_
 have hS:=hS.ext cV
 refine rM bh bf rfl rfl rfl rfl rfl rfl hS.o2 CP om λv9 g9 jf cO gw eA=>?_
 have bY:=jw cO
 obtain⟨a9,c9,e9⟩:=bY
 subst e9
 have ej:aj (br::g2.toList) _ jf:=(gw).mono (λz hz=>mK _ hz)
 have anl:=hS.rd.aG gw (λz hz=>by have:=(hS.f2 z hz).1;omega)
 have bj:=hS.box.aG gw (λhx=>(hS.f2 _ hx).2.2.1 rfl)
 refine zf zv rfl<|fz (o:=2) kz rfl rfl rfl bj rfl λix du bj df=>?_
 have hS:=hS.AF ig (lR _) om om cO anl ej (eA.imp id (λh8=>⟨_,h8,lR _⟩)) du bj
 refine aZ<|lp<|zm<|nU rfl rfl rfl rfl rfl (kR (gg+1) om _ om)<|zA<|aZ ?_
 exact⟨gg+1,⟨rfl,rfl,rfl,rfl,rfl⟩,⟨by omega,_,_,_,_,_,hS,by rw[lA];simp;omega,λx hx=>by rcases mA.1 hx with h9|h9;(·exact PS x h9);(·simp only[List.mem_singleton] at h9;rw[h9];exact fj)⟩,om⟩
 refine gz<|lp<|zm<|nU rfl rfl rfl rfl rfl (kR (gg+1) om _ om)<|zA<|aZ ?_
 exact⟨gg+1,⟨rfl,rfl,rfl,rfl,rfl⟩,⟨by omega,_,_,_,_,_,hS,om,PS⟩,om⟩
 have anm:=hS.rd.more (show q+11+5*gg<=q+31 from om)
 have bY:=jw hS.o2
 obtain⟨a2,c2,e2⟩:=bY
 subst e2
 have ann:br∉g2.toList:=(λhx=>by have:=(hS.f2 br hx).1;omega)
 have bj:dL (br::g2.toList) w8 w3.heap.size [str aM,v1,.slice a2 ys.length c2].toArray 58:=⟨hS.box,λhx=>by rcases mC.1 hx with h9|h9;(·omega);(·exact(hS.f2 _ h9).2.2.1 rfl)⟩
 have tQ:=bj.out
 have pP:eJ (br::g2.toList) w8:=(λz hz=>by rcases mC.1 hz with h9|h9;(·rw[h9];exact hS.rd.lt);(·exact hS.o2.lt z h9))
 have ar0:ys.length<=4:=om
 refine WZ ?_
 apply jF cT ((br::g2.toList)) 11 (rA 51 11) (rA 51 11) [[],[0],[],[],[3],[4],[5],[6],[2,7],[8],[1,9]] [Ie.v _,Ie.v _,Ie.v _,Ie.v _,Ie.e 0,Ie.e 1,Ie.e 2,Ie.e 3,Ie.e 4,Ie.e 5,Ie.e 6] (rA 4 7) [fun(G:List Nat) (vs:List Value) (ww:World)=>G=br::g2.toList∧aj [] w8 ww,fun(G:List Nat) (vs:List Value) (ww:World)=>G=br::g2.toList∧aj [br] w8 ww∧dB ww br (q+32)∧∃x,vs.getD 0 undef=str x∧x.length<=10,fun(G:List Nat) (vs:List Value) (ww:World)=>G=br::g2.toList∧aj [br] w8 ww∧dB ww br (q+32)∧∃x,vs.getD 1 undef=str x∧x.length<=30,fun(G:List Nat) (vs:List Value) (ww:World)=>G=br::g2.toList∧aj [br] w8 ww∧dB ww br (q+32)∧∃x,vs.getD 2 undef=str x∧x.length<=40,fun(G:List Nat) (vs:List Value) (ww:World)=>G=br::g2.toList∧aj [br] w8 ww∧dB ww br (q+32)∧∃x,x.length<=40∧bc (br::g2.toList) ww (vs.getD 3 undef) [x,[40,104,97,108,116,32,48,41],[40,106,117,109,112,32,49,41]],fun(G:List Nat) (vs:List Value) (ww:World)=>G=br::g2.toList∧aj [br] w8 ww∧dB ww br (q+33)∧∃x,vs.getD 4 undef=str x∧x.length<=100,fun(G:List Nat) (vs:List Value) (ww:World)=>G=br::g2.toList∧aj [br] w8 ww∧dB ww br (q+33)∧∃x bb,x.length<=100∧vs.getD 5 undef= .slice (some ⟨bb,0,none⟩) 1 1∧aJ ww bb [str x].toArray 9,fun(G:List Nat) (vs:List Value) (ww:World)=>aj (br::g2.toList) w8 ww∧dB ww br (q+33)∧∃x g9,x.length<=100∧cz ww 9 (vs.getD 6 undef) g9 (ys++[x])∧(g9=g2∨∃z,g9=some z∧w8.heap.size<=z)] de rfl pP (by exact trivial) (by exact⟨λG vs w w' ⟨h1,h2⟩ k=>⟨h1,h2.ext k⟩,λG vs w w' ⟨h1,h2,h3,h4⟩ k=>⟨h1,h2.ext k,h3.ext k,h4⟩,λG vs w w' ⟨h1,h2,h3,h4⟩ k=>⟨h1,h2.ext k,h3.ext k,h4⟩,λG vs w w' ⟨h1,h2,h3,h4⟩ k=>⟨h1,h2.ext k,h3.ext k,h4⟩,λG vs w w' ⟨h1,h2,h3,x,h4,h5⟩ k=>⟨h1,h2.ext k,h3.ext k,x,h4,h5.ext k⟩,λG vs w w' ⟨h1,h2,h3,h4⟩ k=>⟨h1,h2.ext k,h3.ext k,h4⟩,λG vs w w' ⟨h1,h2,h3,x,bb,h4,h5,h6⟩ k=>⟨h1,h2.ext k,h3.ext k,x,bb,h4,h5,h6.ext k⟩,λG vs w w' ⟨h1,h2,x,g9,h3,h4,h5⟩ k=>⟨h1.ext k,h2.ext k,x,g9,h3,h4.ext k,h5⟩,trivial⟩) (⟨rfl,aj.refl _ _⟩)
 refine FA ?_
 refine ve 0 (λx w9 G9 aR cR mP hJ hlen=>?_) ?_
 have aV:=jj hlen
 subst aV
 obtain⟨bP,bS⟩:=hJ
 subst bP
 have eF:=anm.ext bS
 refine aA (HS br (q+31) om w9 eF) ?_
 rintro v55 bZ ⟨⟨z9,df,V5⟩,eF,AY⟩
 subst V5
 have fj:=sE (n:=z9) om
 exact fe _ (Fr.of AY sm) ((λz hz=>lL (mP z hz) AY.size)) (⟨rfl,bS.any.trans AY,eF,_,rfl,om⟩)
 refine ve 1 (λx w9 G9 aR cR mP hJ hlen=>?_) ?_
 have aX:=jk hlen
 obtain⟨q0,aV⟩:=aX
 subst aV
 obtain⟨bP,bS,eF,x1,e1,fj⟩:=hJ
 subst bP
 have e2:q0=_:=e1
 subst e2
 refine WZ ?_
 exact fe _ (Fr.refl _ _) mP (⟨rfl,bS,eF,_,rfl,by simp;omega⟩)
 refine ve 2 (λx w9 G9 aR cR mP hJ hlen=>?_) ?_
 have aX:=k8 hlen
 obtain⟨q0,q1,aV⟩:=aX
 subst aV
 obtain⟨bP,bS,eF,x1,e1,fj⟩:=hJ
 subst bP
 have e2:q1=_:=e1
 subst e2
 refine WZ ?_
 exact fe _ (Fr.refl _ _) mP (⟨rfl,bS,eF,_,rfl,by simp;omega⟩)
 refine ve 3 (λx w9 G9 aR cR mP hJ hlen=>?_) ?_
 have aX:=zQ hlen
 obtain⟨q0,q1,q2,aV⟩:=aX
 subst aV
 obtain⟨bP,bS,eF,x1,e1,fj⟩:=hJ
 subst bP
 have e2:q2=_:=e1
 subst e2
 refine pI bh bf rfl rfl rfl rfl rfl λbZ cj Po xN=>?_
 exact fe _ (Fr.of cj sm) ((λz hz=>lL (mP z hz) (aj.size cj))) (⟨rfl,bS.ext cj,eF.ext cj,x1,fj,aJ.dK [x1,[40,104,97,108,116,32,48,41],[40,106,117,109,112,32,49,41]] Po (λhx=>by have:=mP _ hx;omega)⟩)
 refine ve 4 (λx w9 G9 aR cR mP hJ hlen=>?_) ?_
 have aX:=Mu hlen
 obtain⟨q0,q1,q2,q3,aV⟩:=aX
 subst aV
 obtain⟨bP,bS,eF,x1,fj,C7⟩:=hJ
 subst bP
 have C7:bc (br::g2.toList) _ q3 _:=C7
 refine aA (ml [x1,[40,104,97,108,116,32,48,41],[40,106,117,109,112,32,49,41]] sm sm br (q+32) om _ w9 eF (bc.fresh C7 (λx hx=>.inl (by simp at hx;simp[hx])))) ?_
 rintro v59 bZ ⟨⟨x2,fh,e59⟩,eF,HL⟩
 subst e59
 have iw:x2.length<=100:=(by simp only[mC,List.not_mem_nil,or_false] at fh;rcases fh with rfl|rfl|rfl;(·omega);(·decide);(·decide))
 exact fe _ (Fr.of HL sm) ((λz hz=>lL (mP z hz) HL.size)) (⟨rfl,bS.trans HL,eF,x2,rfl,iw⟩)
 refine ve 5 (λx w9 G9 aR cR mP hJ hlen=>?_) ?_
 have aX:=Sw hlen
 obtain⟨q0,q1,q2,q3,q4,aV⟩:=aX
 subst aV
 obtain⟨bP,bS,eF,x1,e1,fj⟩:=hJ
 subst bP
 have e2:q4=_:=e1
 subst e2
 refine fF bh bf rfl rfl λbZ cj Hp xN=>?_
 exact fe _ (Fr.of cj sm) ((λz hz=>lL (mP z hz) (aj.size cj))) (⟨rfl,bS.ext cj,eF.ext cj,x1,_,fj,rfl,Hp⟩)
 refine ve 6 (λx w9 G9 aR cR mP hJ hlen=>?_) ?_
 have aX:=ael hlen
 obtain⟨q0,q1,q2,q3,q4,q5,aV⟩:=aX
 subst aV
 obtain⟨bP,bS,eF,x1,bb,fj,e2,fH⟩:=hJ
 subst bP
 have e4:q5=_:=e2
 subst e4
 have ho:=hS.o2.aG bS (λx hx hy=>ann (by simp at hy;subst hy;simp[hx]))
 refine rM bh bf rfl rfl rfl rfl rfl rfl ho fH om λv9 g9 bZ cO aC eA=>?_
 have PR:=bS.size
 exact fe ((br::g9.toList)) (⟨aC.mono (λz hz=>mK _ hz),λz hz=>by rcases mC.1 hz with h9|h9;(·exact .inl (by simp[h9]));(·rcases eA with h8|h8;(·rw[h8] at h9;exact .inl (mK _ h9));(·rw[h8] at h9;simp at h9;right;omega))⟩) ((λz hz=>by rcases mC.1 hz with h9|h9;(·rw[h9];exact lL eF.lt aC.size);(·exact cO.lt z h9))) (⟨(bS.mono sm).trans (aC.mono (λz hz=>mK _ hz)),eF.aG aC (λz hz=>by have:=(hS.f2 z hz).1;omega),x1,g9,fj,cO,eA.imp id (λh8=>⟨_,h8,PR⟩)⟩)
 exact trivial
 intro x lH JE aR Ek NC hJ hlen
 have aX:=anc hlen
 obtain⟨q0,q1,q2,q3,q4,q5,q6,aV⟩:=aX
 subst aV
 have bj:=bj.go Ek
 change OW _ _ _ _ _ (bm (bg _ x _) (zZ 51 [_,_,_,_,_,_,_,_,_,_,_])) _
 obtain⟨ej,eF,x1,g9,fj,cO,eA⟩:=hJ
 have bY:=jw cO
 obtain⟨a9,c9,e9⟩:=bY
 have e8:q6=_:=e9
 subst e8
 have bj:=hS.box.aG ej tQ
 refine zf zv rfl<|fz (o:=2) kz rfl rfl rfl bj rfl λoz iL bj df=>?_
 have hS:=hS.AF ig (lR _) om om cO eF ej eA iL bj
 have PT:=hS.res
 have bY:=jw hS.o1
 obtain⟨a1,c1,e1⟩:=bY
 subst e1
 refine aZ<|zr<|zL DD gB rfl hS.box.all rfl<|cw (vs:=[str aM,.slice a1 xs.length c1,.slice a9 (ys++[x1]).length c9]) gB rfl rfl rfl PT rfl λoC lJ PT df=>?_
 have wO:=hS.o1.aG lJ (λx hx hy=>(hS.f1 x (by simp[hx])).2.1 (by simpa using hy))
 have vg:=hS.o2.aG lJ (λx hx hy=>(hS.f2 x (by simp[hx])).2.1 (by simpa using hy))
 have anp:=hS.rd.aG lJ (λx hx=>by simp at hx;omega)
 have dh:=hS.kp.since lJ (λx hx=>.inr (by simp at hx;omega))
 have bM:=(fun(L:List Nat) (hL:∀x,x∈L->x<w.heap.size)=>wO.rep (L:=L) (λx hx hy=>by have:=(hS.f1 x (by simp[hx])).1;have:=hL x hy;omega))
 have bT:=(fun(L:List Nat) (hL:∀x,x∈L->x<w.heap.size)=>vg.rep (L:=L) (λx hx hy=>by have:=(hS.f2 x (by simp[hx])).1;have:=hL x hy;omega))
 refine W ?_
 exact⟨[_],fb DD gB rfl PT rfl,⟨⟨aM,xs,ys++[x1]⟩,⟨rfl,⟨ang,yL⟩,⟨by simp,by simp;omega,λx hx=>by rcases mA.1 hx with h9|h9;(·exact PS x h9);(·simp only[List.mem_singleton] at h9;rw[h9];exact fj)⟩⟩,λL hL=>⟨_,rfl,⟨.val _,bM L hL,bT L hL,trivial⟩⟩⟩,anp.more om,dh⟩
theorem X0 (t:au):t.ak.length<=t.size:=by
 cases t with
 |mk a ps=>
  have key:∀l:List au,l.length<=au.size.sizes l:=by
   intro l
   induction l with
   |nil=>simp
   |cons p l ih=>have:=size_pos p;simp only[au.size.sizes,lC];omega
  have:=key ps
  show ps.length<=1+a.length+au.size.sizes ps
  omega
theorem anq (s:ai) (w:World):bz Tryz.prog 134 [str s] w λr w'=>(∃v ok g xs,r= .tuple #[v,.bool ok]∧cz w' 9 v g xs∧(∀b,g=some b->w.heap.size<=b)∧ok=decide (0<xs.length)∧xs.length<=12001∧∀x,x∈xs->x.length<=24002)∧aj [] w w':=by
 have hK:=aj.refl [] w
 refine bX [.tmp 2,.tmp 3] 37 Tryz.func134 rfl aaW rfl rfl ?_
 refine W ?_
 refine aA (Ak s [] w sm) ?_
 rintro v1 w1 ⟨fX,aI⟩
 have dm:=aI.size
 have hK:=hK.ext aI
 have eN:=fX
 obtain⟨t,tv,e9,ht,hp⟩:=eN
 subst e9
 have bY:=dj ht
 obtain⟨pa,pn,pc,e9,eT,aQ⟩:=bY
 subst e9
 subst eT
 have mM:=hK.size
 refine W ?_
 refine dk aL rfl rfl rfl λw2 az aF gC=>?_
 have dh:=az
 refine cw (vs:=[str t.aw,.slice pa t.ak.length pc]) aL rfl rfl rfl aF rfl λw3 aH aF df=>?_
 have dh:=dh.since aH (λx hx=>.inr (by simp at hx;omega))
 refine bI dh aQ hK λaQ hK=>?_
 refine zA<|aZ<|zr<|fN bh bf λw4 aO lF GV=>?_
 have anr:=lF.kL
 have aI:=aO
 have iK:=hK.size
 refine W ?_
 refine eH (λq9:Nat×Value×Option Nat=>[(4,.pointer (some ⟨w1.heap.size,0,none⟩)),(5,.bool ((bB s).isSome)),(6,q9.2.1),(7,.int .i64 (q9.1:Int))]) (λq9 w'=>aj [] w3 w'∧q9.1<=t.ak.length∧(0<q9.1->(bB s).isSome=true)∧∃xs,cz w' 9 q9.2.1 q9.2.2 xs∧xs.length=q9.1∧(∀x,x∈xs->x.length<=24002)∧∀b,q9.2.2=some b->w3.heap.size<=b) (λq9=>t.ak.length-q9.1) ((0,.slice (some ⟨w3.heap.size,0,none⟩) 0 0,some w3.heap.size)) (⟨rfl,rfl,rfl,rfl⟩) (⟨aI,sm,sm,[],anr,rfl,sm,by intro b hb;cases hb;exact lR _⟩) λgg w5 e5 hI=>?_
 obtain⟨k,vf,gf⟩:=gg
 obtain⟨dh,hk,Bo,xs,hO,kV,yL,fM⟩:=hI
 dsimp only at hk Bo hO kV fM
 refine cG dh aQ hK aF λaQ hK aF=>?_
 refine WZ ?_
 apply oB 2 19 21 rfl oQ
 intro _
 exact oQ
 intro xx
 refine aZ<|zc rfl (λh2=>?_) (λh2=>?_)
 have hh:=Bool.and_eq_true_iff.1 h2
 have az:k<t.ak.length:=(by have:=hh.1;simp at this;omega)
 have ba:(bB s).isSome=true:=hh.2
 have cL:=DB hp ba
 have hw2:=cL.2
 have mH:=X0 t
 have fi:=eS aQ az
 obtain⟨b9,ub,pa9,pc9,e9,iy,dv⟩:=fi
 cases e9
 have X4:=cL.1.nth az
 have Gu:=kX az
 have rD:=LU _ _ (lR _) X4
 refine WI ?_
 refine zi cB aL rfl rfl az<|W ?_
 refine aA (tG (nth t.ak k).size _ (lR _) X4 om om _ _ w5 dv) ?_
 rintro _ w6 ⟨rfl,bO⟩
 have ox:=bO.size
 refine bI bO hO dh λhO dh=>?_
 refine fF bh bf rfl rfl λw7 bV ans oT=>bI bV hO dh λhO dh=>?_
 refine rM bh bf rfl rfl rfl rfl rfl rfl hO ans om λv9 g9 w8 cO cA eA=>?_
 have XO:=dh.size
 have dh:=dh.since cA (λx hx=>.inr (fM x (by simpa using hx)))
 refine WA ?_
 refine nU rfl rfl rfl rfl rfl (kR (k+1) om _ om)<|zA<|aZ ?_
 exact⟨(k+1,v9,g9),⟨rfl,rfl,rfl,rfl⟩,⟨dh,az,λ_=>ba,xs++[(nth t.ak k).text],cO,by show(xs++[_]).length=k+1;rw[lA,kV];rfl,λx hx=>by rcases mA.1 hx with h9|h9;(·exact yL x h9);(·simp only[List.mem_singleton] at h9;rw[h9];omega),λb hb=>by rcases eA with h9|h9;(·exact fM b (h9.symm.trans hb));(·rw[h9] at hb;cases hb;omega)⟩,by show t.ak.length-(k+1)<t.ak.length-k;omega⟩
 have bY:=jw hO
 obtain⟨af,cf,ef⟩:=bY
 subst ef
 have mH:=X0 t
 have hxb:xs.length<=12001:=(by by_cases h0:0<k;(·have:=(DB hp (Bo h0)).2;omega);(·omega))
 refine W ?_
 exact⟨_,rfl,⟨_,_,gf,xs,rfl,hO,λb hb=>by have:=fM b hb;omega,sm,hxb,yL⟩,hK⟩
theorem X5 (xs ys:List ai) (hx:xs.length+ys.length<100000000) (v u:Value) (L:List Nat) (w:World) (hv:bc L w v xs) (hu:bc L w u ys):
  bz Tryz.prog 116 [v,u] w λr w'=>(∃g,cz w' 9 r g (xs++ys)∧∀b,g=some b->w.heap.size<=b)∧aj [] w w':=by
 have hv:bc [] w v xs:=hv.fresh sm
 have hu:bc [] w u ys:=hu.fresh sm
 obtain⟨a,n,c,rfl,hn⟩:=dI hv
 obtain⟨a2,n2,c2,rfl,eK⟩:=dI hu
 subst hn eK
 have hK:=aj.refl [] w
 refine bX [.tmp 4] 10 Tryz.func116 rfl RC rfl rfl ?_
 refine W ?_
 refine xw w.heap.size [] bh bf rfl rfl (lR _) sm λw1 aI db hO=>?_
 have hK:=hK.ext aI
 have eW:=bN.ext (bN.fresh hv (L':=w.heap.size::[]) xq) aI
 refine zm<|wa bh bf rfl rfl rfl rfl rfl rfl hO eW GC (by rw[qB];simp;omega) λa4 ir g4 w2 kO az=>?_
 have hK:=hO.since hK az
 have No:=bN.ext (bN.fresh hu (L':=g4.toList++[]) (λx hx=>by rcases mA.1 hx with hx|hx;(·exact .inr (kO.low x (by simpa using hx)));(·exact .inl hx))) hK
 refine zm<|wa bh bf rfl rfl rfl rfl rfl rfl kO No GC (by simp only[lA,qB];simp;omega) λa5 Ur g5 w3 kP aH=>?_
 have hK:=kO.since hK aH
 have jH:=kP.low
 rw[List.nil_append,Uq] at kP
 refine W ?_
 exact⟨_,rfl,⟨g5,kP.se,jH⟩,hK⟩
theorem anu (bk:Bk) (h1:bk.ck.length<=1000000) (h2:bk.code.length<=1000000) (v:Value) (L:List Nat) (w:World) (hv:qC L w v bk):
  bz Tryz.prog 83 [v] w λr w'=>(∃v1 v2 g1 g2,r= .agg #[str bk.aM,v1,v2]∧cz w' 9 v1 g1 bk.ck∧cz w' 9 v2 g2 bk.code∧(∀x,x∈g1.toList->w.heap.size<=x∧x∉g2.toList)∧∀x,x∈g2.toList->w.heap.size<=x∧x∉g1.toList)∧aj [] w w':=by
 obtain⟨b1,n1,c1,b2,n2,c2,rfl,fi,eK,bM,bT⟩:=Du hv
 have bM:bc [] w _ bk.ck:=bc.fresh bM sm
 have bT:bc [] w _ bk.code:=bc.fresh bT sm
 have hK:=aj.refl [] w
 refine jr [.cell 2 58] 12 Tryz.func83 rfl acP rfl rfl rfl ?_
 refine zr<|eu rfl λw1 aI aW db=>cG aI hK bM bT λhK bM bT=>?_
 refine dk gB rfl rfl rfl λw2 az aN dJ=>?_
 have mM:=hK.ext az
 refine cG az bM bT aW λbM bT aW=>?_
 have aW:dL [] w2 w.heap.size _ _:=⟨aW,sm⟩
 have iK:=mM.size
 have Xu:=aN.lt
 refine W ?_
 apply jF cT ([]) 9 (rA 3 9) (rA 3 9) [[],[0],[],[2],[3],[],[5],[6],[1,4,7]] [Ie.v _,Ie.v _,Ie.v _,Ie.v _,Ie.e 0,Ie.v _,Ie.v _,Ie.e 1,Ie.e 2] [4,7,8] [fun(G:List Nat) (vs:List Value) (ww:World)=>G=[]∧aj [] w2 ww,fun(G:List Nat) (vs:List Value) (ww:World)=>G=[]∧aj [] w2 ww∧∃g1,cz ww 9 (vs.getD 0 undef) g1 bk.ck∧∀x,x∈g1.toList->w2.heap.size<=x,fun(G:List Nat) (vs:List Value) (ww:World)=>G=[]∧aj [] w2 ww∧∃g1 g2,cz ww 9 (vs.getD 0 undef) g1 bk.ck∧cz ww 9 (vs.getD 1 undef) g2 bk.code∧(∀x,x∈g1.toList->w2.heap.size<=x∧x∉g2.toList)∧∀x,x∈g2.toList->w2.heap.size<=x∧x∉g1.toList,fun(G:List Nat) (vs:List Value) (ww:World)=>aj [] w2 ww∧∃g1 g2 b3 m3 d3 b4 m4 d4,vs.getD 2 undef= .agg #[str bk.aM,.slice b3 m3 d3,.slice b4 m4 d4]∧cz ww 9 (.slice b3 m3 d3) g1 bk.ck∧cz ww 9 (.slice b4 m4 d4) g2 bk.code∧(∀x,x∈g1.toList->w2.heap.size<=x∧x∉g2.toList)∧∀x,x∈g2.toList->w2.heap.size<=x∧x∉g1.toList] de rfl ((λx hx=>by simp at hx)) (by exact trivial) (by exact⟨λG vs w w' ⟨h1,h2⟩ k=>⟨h1,h2.ext k⟩,λG vs w w' ⟨h1,h2,g1,h3,h4⟩ k=>⟨h1,h2.ext k,g1,h3.ext k,h4⟩,λG vs w w' ⟨h1,h2,g1,g2,h3,h4,h5,h6⟩ k=>⟨h1,h2.ext k,g1,g2,h3.ext k,h4.ext k,h5,h6⟩,λG vs w w' ⟨h2,g1,g2,b3,m3,d3,b4,m4,d4,e,h3,h4,h5,h6⟩ k=>⟨h2.ext k,g1,g2,b3,m3,d3,b4,m4,d4,e,h3.ext k,h4.ext k,h5,h6⟩,trivial⟩) (⟨rfl,aj.refl _ _⟩)
 refine FA ?_
 refine ve 0 (λx w3 G3 aR jn kt hJ hlen=>?_) ?_
 have aV:=jj hlen
 subst aV
 have bM:=bM.go jn
 obtain⟨bP,bS⟩:=hJ
 subst bP
 refine aA (X5 bk.ck [] so _ _ [] w3 bM (.nil _ _ _)) ?_
 rintro v20 w4 ⟨⟨g1,pg,pY⟩,wU⟩
 rw[List.append_nil] at pg
 exact fe ([]) (Fr.of wU sm) ((λz hz=>by simp at hz)) (⟨rfl,bS.trans wU,g1,pg,λx hx=>Nat.le_trans bS.size (pY x (by simpa using hx))⟩)
 refine FA ?_
 refine ve 1 (λx w3 G3 aR jn kt hJ hlen=>?_) ?_
 have aX:=jk hlen
 obtain⟨q0,aV⟩:=aX
 subst aV
 have bT:=bT.go jn
 obtain⟨bP,bS,g1,pg,pY⟩:=hJ
 subst bP
 refine aA (X5 bk.code [] so _ _ [] w3 bT (.nil _ _ _)) ?_
 rintro v21 w4 ⟨⟨g2,fY,iT⟩,wQ⟩
 rw[List.append_nil] at fY
 exact fe ([]) (Fr.of wQ sm) ((λz hz=>by simp at hz)) (⟨rfl,bS.trans wQ,g1,g2,pg.ext wQ,fY,λx hx=>⟨pY x hx,λhy=>by have h8:=pg.lt x hx;have h9:=iT x (by simpa using hy);omega⟩,λx hx=>⟨Nat.le_trans bS.size (iT x (by simpa using hx)),λhy=>by have h8:=pg.lt x hy;have h9:=iT x (by simpa using hx);omega⟩⟩)
 refine ve 2 (λx w3 G3 aR jn kt hJ hlen=>?_) ?_
 have aX:=k8 hlen
 obtain⟨q0,q1,aV⟩:=aX
 subst aV
 obtain⟨bP,bS,g1,g2,pg,fY,pY,iT⟩:=hJ
 subst bP
 have bY:=jw pg
 obtain⟨b3,d3,e3⟩:=bY
 have e5:q0=_:=e3
 subst e5
 have bY:=jw fY
 obtain⟨b4,d4,e4⟩:=bY
 have e6:q1=_:=e4
 subst e6
 refine iO (LI _ _ _ _ _ _ _ _) rfl rfl ?_
 exact fe ([]) (Fr.refl _ _) kt (⟨bS,g1,g2,_,_,_,_,_,_,rfl,pg,fY,pY,iT⟩)
 exact trivial
 intro x l6 GI aR Ed Np hJ hlen
 have aX:=zQ hlen
 obtain⟨q0,q1,q2,aV⟩:=aX
 subst aV
 change OW _ _ _ _ _ (bm (bg _ x _) (zZ 3 [_,_,_,_,_,_,_,_,_])) _
 obtain⟨bS,g1,g2,b3,m3,d3,b4,m4,d4,e9,pg,fY,pY,iT⟩:=hJ
 have e8:q2=_:=e9
 subst e8
 have aN:=aN.ext bS
 refine cw (vs:=[str bk.aM,.slice b3 m3 d3,.slice b4 m4 d4]) gB rfl rfl rfl aN rfl λmI ie aN df=>?_
 have pg:=pg.aG ie (λx hx hy=>by have:=(pY x (by simp[hx])).1;simp at hy;omega)
 have fY:=fY.aG ie (λx hx hy=>by have:=(iT x (by simp[hx])).1;simp at hy;omega)
 have fy:=(mM.ext bS).since ie (λx hx=>.inr (by simp at hx;omega))
 refine W ?_
 exact⟨[_],fb DD gB rfl aN rfl,⟨_,_,g1,g2,rfl,pg,fY,λx hx=>⟨by have:=(pY x hx).1;omega,(pY x hx).2⟩,λx hx=>⟨by have:=(iT x hx).1;omega,(iT x hx).2⟩⟩,fy⟩
theorem X6 (h:gk bs=true):bs.length<=40∧1<=bs.length∧∀i,i<bs.length->(bR bs i).ck.length<=40∧1<=(bR bs i).code.length∧(bR bs i).code.length<=80:=by
 have hb:=DA h
 unfold gk at h
 simp only[aE,dE] at h
 refine⟨h.2.1.1.2,h.2.1.1.1,λi hi=>?_⟩
 have:=hb (bR bs i) (List.mem_of_getElem? (py hi))
 unfold lu at this
 simp only[aE,dE] at this
 exact⟨this.1.1.1.2,this.1.1.2.1,this.1.1.2.2⟩
theorem anv (h:i<bs.length):bs.take (i+1)=bs.take i++[bR bs i]:=by
 rw[List.take_succ_eq_append_getElem h];simp[bR,gE h]
theorem anw {h:ai} {ps:List ai} {m:Nat} (hp:∀x,x∈ps->x.length<=m):(dP h ps).length<=h.length+2+ps.length*(m+1):=by
 rw[lD]
 have:js ps<=ps.length*(m+1):=by
  clear h
  induction ps with
  |nil=>simp[js]
  |cons p l ih=>
   have h1:=hp p sm
   have h2:=ih (λx hx=>hp x (by simp[hx]))
   simp only[js,List.map_cons,List.sum_cons,lC,Nat.add_mul,Nat.one_mul] at h2⊢
   omega
 omega
theorem X7 {α:Type} {l:List α} {y x:α} (h:x∈l.set i y):x∈l∨x=y:=List.mem_or_eq_of_mem_set h
theorem anx (bs:List Bk) (lS:gk bs=true) (br q:Nat) (hq:q<=800000000) (v:Value) (w:World) (h:dB w br q) (hv:nj [] w v bs):
  bz Tryz.prog 95 [.pointer (some ⟨br,0,none⟩),v] w λr w'=>(∃bs' g,Gr w.heap.size [br] w' 58 3 r g (bs'.map Bk.enc)∧vB bs bs')∧dB w' br (q+10)∧aj [br] w w':=by
 obtain⟨a,n0,c,rfl,Ai⟩:=Ft hv
 obtain⟨O5,aW,fI⟩:=X6 lS
 have ig:=h.lt
 have hK:=aj.refl [] w
 have dd:=hv
 have S1:=h
 refine bX [.tmp 4] 140 Tryz.func95 rfl acY rfl rfl ?_
 refine W ?_
 refine fN jD gB λw1 aI lF db=>cG aI hK h hv λhK h hv=>?_
 refine W ?_
 refine eH (λq9:Nat×Value=>[(0,.pointer (some ⟨br,0,none⟩)),(1,.slice a n0 c),(5,q9.2),(6,.int .i64 (q9.1:Int))]) (λq9 w'=>aj [] w w'∧q9.1<=n0∧∃g gss vss,lX w' 58 9 q9.2 g gss vss (bs.take q9.1)∧∀x,x∈g.toList++gA gss->w.heap.size<=x) (λq9=>n0-q9.1) ((0,.slice (some ⟨w.heap.size,0,none⟩) 0 0)) (⟨rfl,rfl,rfl,rfl⟩) (⟨hK,sm,some w.heap.size,[],[],lX.zero lF,by intro x hx;simp[gA] at hx;omega⟩) λgg w2 e2 hI=>?_
 obtain⟨i,vo⟩:=gg
 obtain⟨hK,hi,g,gss,vss,hO,jH⟩:=hI
 dsimp only at hi hO
 have hv:=dd.ext hK
 have h:=S1.ext hK
 refine W ?_
 refine zc rfl (λh1=>?_) (λh1=>?_)
 have lK:i<bs.length:=(by simp at h1;omega)
 have fu:=py lK
 have hgv:=Dv hv fu
 obtain⟨b,off,ra,rn,rc,ca,cn,c3,e1,hc,mN,wR,dm,dy⟩:=hgv
 subst e1
 have yK:=fI i lK
 have ar3:=hK.size
 have PU:∀x,x∈g.toList++gA gss->x<w2.heap.size:=(λx hx=>(mA.1 hx).elim (λh9=>hO.own.lt x (by simpa using h9)) (hO.lt x))
 have fE:(bs.take i).length=i:=(by rw[List.length_take];omega)
 refine W ?_
 refine aA (anu (bR bs i) om om _ [] w2 (Bv dm dy)) ?_
 rintro v3 w3 ⟨jb,aH⟩
 have eU:=aH.size
 refine bI aH hK hO λhK hO=>?_
 obtain⟨v1,v2,g1,g2,e2,pg,fY,pY,iT⟩:=jb
 subst e2
 have bY:=jw pg
 obtain⟨a1,c1,e1⟩:=bY
 subst e1
 have bY:=jw fY
 obtain⟨a2,c2,e2⟩:=bY
 subst e2
 refine fF jD gB rfl rfl λw4 aO CE gC=>gQ aO hK hO pg fY λhK hO pg fY=>?_
 refine am3 (f:=bR bs i) (gs:=(g1,g2)) jD gB rfl rfl rfl rfl rfl rfl hO CE pg fY (λx hx fh=>by have h8:=PU x fh;rcases mA.1 hx with h9|h9;(·have:=(pY x h9).1;omega);(·have:=(iT x h9).1;omega)) (List.nodup_append.2 ⟨by cases g1<;>simp,by cases g2<;>simp,λx hx y hy e=>by subst e;exact(pY x hx).2 hy⟩) om λa4 ir g4 w5 hO aP hg4=>?_
 have XO:=hK.size
 have anB:∀x,x∈g4.toList++gA (gss++[(g1,g2)])->w.heap.size<=x:=(λx hx=>by rcases mA.1 hx with h9|h9;(·rcases hg4 with h8|⟨z,h8,hz⟩;(·rw[h8] at h9;exact jH x (by simp at h9;simp[h9]));(·rw[h8] at h9;simp at h9;omega));(·rw[MK] at h9;rcases mA.1 h9 with h8|h8;(·exact jH x (by simp[h8]));(·rcases mA.1 h8 with h7|h7;(·have:=(pY x h7).1;omega);(·have:=(iT x h7).1;omega))))
 have hK:=hK.since aP (λx hx=>.inr (jH x (by simp at hx;simp[hx])))
 refine WA ?_
 refine nU rfl rfl rfl rfl rfl (kR (i+1) om _ om)<|zA<|aZ ?_
 exact⟨(i+1,_),⟨rfl,rfl,rfl,rfl⟩,⟨hK,by show i+1<=n0;omega,g4,_,_,by rw[anv lK];exact hO,anB⟩,by show n0-(i+1)<n0-i;omega⟩
 have cP:bs.take i=bs:=List.take_of_length_le (by simp at h1;omega)
 rw[cP] at hO
 have bY:=hO.own.len
 obtain⟨ao,co,eo⟩:=bY
 subst eo
 have ej:=hK.mono (L':=[br]) sm
 refine W ?_
 refine aA (lP bs.length om om br q om w2 h) ?_
 rintro v31 w3 ⟨⟨k,yE,hk⟩,h,aC⟩
 subst yE
 have ej:=ej.trans aC
 have hO:=hO.aG aC (λx hx hy=>by have:=jH x hx;simp at hy;omega)
 have gK:=hO.get hk
 obtain⟨uh,gs,a1,c1,a2,c2,e1,e2,tQ,kh,jm,aV,kj,fi,eK,KI⟩:=gK
 subst e1
 have yO:∀x,x∈g.toList++gA gss->x∉[br]:=(λx hx hy=>by have:=jH x hx;simp at hy;omega)
 have hc:fp [br] w3 uh (0+k*3) _:=⟨kj,tQ,λhy=>yO uh (by rw[e2];simp) hy⟩
 have hr:bc [br] w3 _ _:=eK.rep (λb hb=>yO b (mR _ (BW jm (by simp[iX,hb]))))
 have yK:=fI k hk
 refine WI ?_
 refine zi jD gB rfl rfl hk<|zf zv rfl<|zl tl rfl (hc.cells 2 _ rfl)<|Dm bh rfl rfl rfl<|aA (lP (bR bs k).code.length om om br (q+1) om w3 h) ?_
 rintro v31 w4 ⟨⟨n,yE,hn⟩,h,aC⟩
 subst yE
 have ej:=ej.trans aC
 have hO:=hO.aG aC (λx hx hy=>by have:=jH x hx;simp at hy;omega)
 have hc:=hc.aD aC sm;have hr:=hr.aD aC sm
 have fu:=nS hr hn
 obtain⟨b9,ub,e9,iy⟩:=fu
 subst e9
 refine WI ?_
 refine zi jD gB rfl rfl hk<|zf zv rfl<|zl tl rfl (hc.cells 2 _ rfl)<|zm<|zi bh bf rfl rfl hn<|WZ ?_
 have hkw:=ej.size
 have anD:∀x,x∈g.toList++gA gss->x<w4.heap.size:=(λx hx=>(mA.1 hx).elim (λh9=>hO.own.lt x (by simpa using h9)) (hO.lt x))
 refine aA (anq (cv (bR bs k).code n) w4) ?_
 rintro v5 w5 ⟨xM,aP⟩
 have og:=aP.size
 refine sB aP h hO ej hc hr iy λh hO ej hc hr iy=>?_
 obtain⟨vp,ok,gp,ps,e9,hP,fM,ba,mH,CY⟩:=xM
 subst e9
 have hgp:∀x,x∈gp.toList->x∉g.toList++gA gss:=(λx hx hy=>by have h8:=anD x hy;have h9:=fM x (by simpa using hx);omega)
 have fM:∀b,gp=some b->w.heap.size<=b:=(λb hb=>Nat.le_trans hkw (fM b hb))
 have bY:=jw hP
 obtain⟨ap,cp,ep⟩:=bY
 subst ep
 refine W ?_
 refine zc rfl (λh2=>?_) (λh2=>?_)
 refine W ?_
 exact⟨_,rfl,⟨bs,_,hO.gr yO (λb hb=>jH b (by simp[hb])) (λx hx=>by simp at hx;subst hx;exact h.lt) ej.size,vB.refl bs⟩,h.more om,ej⟩
 have mG:0<ps.length:=(by rw[ba] at h2;simpa using h2)
 have En:=hP.form mG
 obtain⟨bp,ep,eg⟩:=En
 subst ep
 have hbp:=fM bp eg
 have ar5:=hP.lt bp (by simp[eg])
 refine W ?_
 refine aA (lP ps.length mG om br (q+2) om w5 h) ?_
 rintro v31 w6 ⟨⟨j,yE,hj⟩,h,aC⟩
 subst yE
 have ej:=ej.trans aC
 have hO:=hO.aG aC (λx hx hy=>by have:=jH x hx;simp at hy;omega)
 have hP:=hP.aG aC (λb hb hy=>by have:=fM b hb;simp at hy;omega)
 refine W ?_
 refine iD (λ_:List ai=>[(0,.pointer (some ⟨br,0,none⟩)),(5,.slice (some ⟨uh,0,none⟩) bs.length co),(7,.int .i64 (k:Int)),(8,.int .i64 (n:Int)),(9,(.slice (some ⟨bp,0,none⟩) ps.length cp))]) (λp2 ww=>aj [br] w ww∧dB ww br (q+5)∧lX ww 58 9 (.slice (some ⟨uh,0,none⟩) bs.length co) g gss vss bs∧cz ww 9 (.slice (some ⟨bp,0,none⟩) ps.length cp) gp p2∧p2.length=ps.length∧∀x,x∈p2->x.length<=24002) ?_ ?_
 refine zc rfl (λh3=>?_) (λh3=>?_)
 have AT:bc [br] w6 (.slice (some ⟨bp,0,none⟩) ps.length cp) ps:=hP.rep (λb hb hy=>by have:=fM b hb;simp at hy;omega)
 have fu:=nS AT hj
 obtain⟨b8,anF,e8,HP⟩:=fu
 cases e8
 have hxj:=CY _ (List.mem_of_getElem? (jN hj))
 have pP:eJ [br] w6:=(λz hz=>by simp at hz;subst hz;exact h.lt)
 apply jF cT ([br]) 11 (rA 61 11) (rA 61 11) [[],[],[],[],[3],[],[],[5,6],[7],[4,8],[2,9]] [Ie.v _,Ie.v _,Ie.v _,Ie.v _,Ie.q 0 (fun(v:Value)=>∃x,v=str x∧x.length<=24002),Ie.v _,Ie.v _,Ie.v _,Ie.v _,Ie.p (fun(G:List Nat) (v:Value) (ww:World)=>∃x y,x.length<=24002∧y.length<=24002∧bc G ww v [x,[98,48],[101,110,100],[49],[105],y]),Ie.q 1 (fun(v:Value)=>∃x,v=str x∧x.length<=24002)] [4,10] [fun(G:List Nat) (vs:List Value) (ww:World)=>G=[br]∧aj [br] w6 ww∧dB ww br (q+3),fun(G:List Nat) (vs:List Value) (ww:World)=>G=[br]∧aj [br] w6 ww∧dB ww br (q+4),fun(G:List Nat) (vs:List Value) (ww:World)=>G=[br]∧aj [br] w6 ww∧dB ww br (q+5)] de rfl pP (by exact⟨λG v w G' w' ⟨x,y,h1,h2,h3⟩ k=>⟨x,y,h1,h2,bc.go h3 k⟩,trivial⟩) (by exact⟨λG vs w w' ⟨h1,h2,h3⟩ k=>⟨h1,h2.ext k,h3.ext k⟩,λG vs w w' ⟨h1,h2,h3⟩ k=>⟨h1,h2.ext k,h3.ext k⟩,λG vs w w' ⟨h1,h2,h3⟩ k=>⟨h1,h2.ext k,h3.ext k⟩,trivial⟩) (⟨rfl,aj.refl _ _,h⟩)
 refine FA ?_
 refine ve 0 (λx w7 G7 aR mX lg hJ hlen=>?_) ?_
 have aV:=jj hlen
 subst aV
 obtain⟨bP,bS,h⟩:=hJ
 subst bP
 refine aA (HS br (q+3) om w7 h) ?_
 rintro v9 w8 ⟨⟨z9,df,e9⟩,h,aC⟩
 subst e9
 have et:=sE (n:=z9) om
 exact fq ([br]) (Fr.of aC sm) ((λz hz=>lL (lg z hz) aC.size)) (⟨rfl,bS.trans aC,h⟩) (⟨_,rfl,om⟩)
 refine FA ?_
 refine vf (λx w7 G7 aR mX lg=>?_) ?_
 intro v4 PB d4
 obtain⟨y4,e4,Am⟩:=d4
 subst e4
 refine aeY bh bf rfl rfl rfl rfl rfl rfl rfl rfl λw8 cA Ok kG=>?_
 exact ff cA (⟨y4,cv ps j,Am,hxj,aJ.dK [y4,[98,48],[101,110,100],[49],[105],cv ps j] Ok (λhx=>by have:=lg _ hx;omega)⟩)
 refine ve 1 (λx w7 G7 aR mX lg hJ hlen=>?_) ?_
 have aX:=jk hlen
 obtain⟨q0,aV⟩:=aX
 subst aV
 intro v9 d9
 obtain⟨bP,bS,h⟩:=hJ
 subst bP
 obtain⟨x8,y8,VN,hy8,hr8⟩:=d9
 refine aA (ml [x8,[98,48],[101,110,100],[49],[105],y8] sm sm br (q+4) om _ w7 h hr8) ?_
 rintro v9 w8 ⟨⟨x9,iC,e9⟩,h,aC⟩
 subst e9
 have et:x9.length<=24002:=(by simp only[mC,List.not_mem_nil,or_false] at iC;rcases iC with rfl|rfl|rfl|rfl|rfl|rfl<;>first|omega|decide)
 exact fq ([br]) (Fr.of aC sm) ((λz hz=>lL (lg z hz) aC.size)) (⟨rfl,bS.trans aC,h⟩) (⟨_,rfl,et⟩)
 exact trivial
 intro x qQ JT aR wK JU hJ hlen
 have aX:=k8 hlen
 obtain⟨q0,q1,aV⟩:=aX
 subst aV
 intro v4 PB d4
 intro v9 d9
 intro v10 XV d10
 change OW _ _ _ _ _ (bm (bg _ x _) (zZ 61 [_,_,_,_,_,_,_,_,_,_,_])) _
 obtain⟨bP,bS,h⟩:=hJ
 subst bP
 obtain⟨KG,fm,Ej⟩:=d10
 subst fm
 have ej:=ej.trans bS
 have hO:=hO.aG bS (λx hx hy=>by have:=jH x hx;simp at hy;omega)
 have hP:=hP.aG bS (λb hb hy=>by have:=fM b hb;simp at hy;omega)
 refine zi bh bf rfl rfl hj<|S3 (i:=j) bf rfl rfl rfl om hP hj λwq l7 hP df=>?_
 have hO:=hO.aG l7 (λx hx hy=>hgp x hy hx)
 have h:=h.aG l7 (λx hx=>by have:=fM x (by simpa using hx);omega)
 have ej:=ej.since l7 (λx hx=>.inr (fM x (by simpa using hx)))
 refine W ?_
 exact⟨ps.set j KG,⟨rfl,rfl,rfl,rfl,rfl⟩,ej,h.more om,hO,hP,by rw[List.length_set],λx hx=>by rcases X7 hx with h9|h9;(·exact CY x h9);(·rw[h9];exact Ej)⟩
 refine WZ ?_
 exact⟨ps,⟨rfl,rfl,rfl,rfl,rfl⟩,ej,h.more om,hO,hP,rfl,CY⟩
 intro gu w7 e7 hI
 obtain⟨ej,h,hO,hP,ar7,X8⟩:=hI
 have gK:=hO.get hk
 obtain⟨uh,gs,a1,c1,a2,c2,e1,e2,tQ,kh,jm,aV,kj,fi,eK,KI⟩:=gK
 cases e1
 have yO:∀x,x∈g.toList++gA gss->x∉[br]:=(λx hx hy=>by have:=jH x hx;simp at hy;omega)
 have hc:fp [br] w7 uh (0+k*3) _:=⟨kj,tQ,λhy=>yO uh (by rw[e2];simp) hy⟩
 have hr:bc [br] w7 _ _:=eK.rep (λb hb=>yO b (mR _ (BW jm (by simp[iX,hb]))))
 have fu:=nS hr hn
 obtain⟨b9,ub,e9,iy⟩:=fu
 subst e9
 have AT:bc [] w7 (.slice (some ⟨bp,0,none⟩) ps.length cp) gu:=hP.rep sm
 have fu:=nS AT (i:=0) om
 obtain⟨b8,anF,e8,HP⟩:=fu
 cases e8
 refine WZ ?_
 have Hu:(dP (cv gu 0) (gu.drop 1)).length<=1000000000:=(by have h1:=anw (h:=cv gu 0) (ps:=gu.drop 1) (m:=24002) (λx hx=>X8 x (List.mem_of_mem_drop hx));have h2:=X8 _ (List.mem_of_getElem? (jN (xs:=gu) (i:=0) om));rw[List.length_drop] at h1;have h3:(gu.length-1)*(24002+1)<=12001*24003:=Nat.mul_le_mul om om;omega)
 apply tC cT 6 (rA 73 6) (rA 73 6) [[],[0],[1],[],[3],[2,4]] [It.v _,It.v _,It.v _,It.v _,It.p (fun(v:Value) (ww:World)=>bc [] ww v (gu.drop 1)),It.v _] de (by exact⟨λv w w' h k=>bc.ext h k,trivial⟩)
 intro wd aB
 refine VA ?_
 refine vk aB (λx w8 cA=>?_) ?_
 have AT:=AT.ext cA
 refine Dn (l:=1) bh bf rfl rfl rfl rfl om AT λwY aV=>?_
 exact pf (aj.refl _ _) ((show bc [] _ wY (gu.drop 1) from by unfold bc il;rw[List.map_drop];exact aV))
 refine vk aB (λx w8 cA=>?_) ?_
 intro v4 d4
 refine aA (xR (cv gu 0) (gu.drop 1) Hu _ [] w8 d4) ?_
 rintro _ w9 ⟨rfl,aC⟩
 have oZ:=aC.size
 exact pk aC
 exact trivial
 intro x wq l7
 intro v4 d4
 refine BS l7 h ej hO hc hr iy fi eK λh ej hO hc hr iy fi eK=>?_
 change OW _ _ _ _ _ (bm (bg _ x _) (zZ 73 [_,_,_,_,_,_])) _
 refine W ?_
 refine DP [79,80,81,82,83,84,85,86,87,88,89,90,91,92,93,94] [(94,.bool (si (dP (cv gu 0) (gu.drop 1))&&(decide (Dy (dP (cv gu 0) (gu.drop 1))=Dy (cv (bR bs k).code n)))))] ?_ ?_
 rcases bE (si (dP (cv gu 0) (gu.drop 1))) with iH|iH
 apply kD cT 16 (rA 79 16) (rA 79 16) [[],[0],[1],[2],[2,3],[2],[2],[2,5,6],[2,7],[2,8],[2],[2,9,10],[2,11],[2,12],[2,4,13],[2,14]] [It.v _,It.v _,It.v (.bool true),It.v _,It.v _,It.v _,It.v _,It.v _,It.v _,It.v _,It.v _,It.v _,It.v _,It.v _,It.v _,It.v _] de rfl
 intro wd aB
 refine VA ?_
 refine vk aB (λx lH lI=>?_) ?_
 refine aA (Gf (dP (cv gu 0) (gu.drop 1)) lH) ?_
 rintro _ oz ⟨rfl,iL⟩
 have PV:=iL.size
 exact pk iL
 refine vc (λx lH lI=>?_) ?_
 refine WZ ?_
 exact pv (by exact congrArg Value.bool iH)
 refine VA ?_
 refine vk aB (λx lH lI=>?_) ?_
 refine aA (IX (dP (cv gu 0) (gu.drop 1)) lH) ?_
 rintro _ oz ⟨rfl,iL⟩
 have PV:=iL.size
 exact pk iL
 refine vc (λ_ _ _=>WZ pv) ?_
 refine vc (λ_ _ _=>WZ pv) ?_
 refine vk aB (λx lH lI=>?_) ?_
 refine zi jD gB rfl rfl hk ?_
 exact pv
 refine VA ?_
 refine vk aB (λx lH lI=>?_) ?_
 have hc:=hc.ext lI
 refine zl tl rfl (hc.cells 2 _ rfl) ?_
 exact pv
 refine vc (λ_ _ _=>WZ pv) ?_
 refine vk aB (λx lH lI=>?_) ?_
 refine zi bh bf rfl rfl hn ?_
 exact pv
 refine VA ?_
 refine vk aB (λx lH lI=>?_) ?_
 refine aA (IX (cv (bR bs k).code n) lH) ?_
 rintro _ oz ⟨rfl,iL⟩
 have PV:=iL.size
 exact pk iL
 exact VZ
 intro x Hb mj
 change OW _ _ _ _ [] (bm (bg _ x _) (zZ 79 [_,_,_,_,_,_,_,_,_,_,_,_,_,_,_,_])) _
 refine W ?_
 exact kE mj
 apply kD cT 16 (rA 79 16) (rA 79 16) [[],[0],[1],[2],[2,3],[2],[2],[2,5,6],[2,7],[2,8],[2],[2,9,10],[2,11],[2,12],[2,4,13],[2,14]] [It.v _,It.v _,It.v (.bool false),It.v _,It.v _,It.v _,It.v _,It.v _,It.v _,It.v _,It.v _,It.v _,It.v _,It.v _,It.v _,It.v _] de rfl
 intro wd aB
 refine VA ?_
 refine vk aB (λx lH lI=>?_) ?_
 refine aA (Gf (dP (cv gu 0) (gu.drop 1)) lH) ?_
 rintro _ oz ⟨rfl,iL⟩
 have PV:=iL.size
 exact pk iL
 refine vc (λx lH lI=>?_) ?_
 refine WZ ?_
 exact pv (by exact congrArg Value.bool iH)
 exact VZ
 intro x Hb mj
 change OW _ _ _ _ [] (bm (bg _ x _) (zZ 79 [_,_,_,_,_,_,_,_,_,_,_,_,_,_,_,_])) _
 refine W ?_
 exact kE mj
 intro x Hb mj
 refine BS mj h ej hO hc hr iy fi eK λh ej hO hc hr iy fi eK=>?_
 refine iD (λ_:List Bk=>[(0,.pointer (some ⟨br,0,none⟩)),(5,.slice (some ⟨uh,0,none⟩) bs.length co),(7,.int .i64 (k:Int)),(8,.int .i64 (n:Int))]) (λcs ww=>aj [br] w ww∧dB ww br (q+5)∧(∃X9,lX ww 58 9 (.slice (some ⟨uh,0,none⟩) bs.length co) g gss X9 cs)∧vB bs cs) ?_ ?_
 refine zc rfl (λh4=>?_) (λh4=>?_)
 have anI:si (dP (cv gu 0) (gu.drop 1))=true:=(Bool.and_eq_true_iff.1 h4).1
 have En:=eK.form om
 obtain⟨b7,e7,eg2⟩:=En
 cases e7
 refine lp<|zm<|zm<|zi jD gB rfl rfl hk<|zf zv rfl<|zl tl rfl (hc.cells 2 _ rfl)<|zm<|zm<|zi bh bf rfl rfl hn<|S3 (i:=n) bf rfl rfl rfl om eK hn λCh yp eK df=>?_
 have hO:=hO.row (f:={bR bs k with code:=(bR bs k).code.set n (dP (cv gu 0) (gu.drop 1))}) jm aV yp (λx hx=>by simp[iX,hx]) ⟨_,_,rfl,fi.aG yp (λb hb hy=>KI b hb (by simpa using hy)),by rw[show({bR bs k with code:=(bR bs k).code.set n (dP (cv gu 0) (gu.drop 1))}:Bk).code=(bR bs k).code.set n (dP (cv gu 0) (gu.drop 1)) from rfl];exact eK⟩
 have h:=h.aG yp (λx hx=>by have:=jH x (mR _ (BW jm (by simp[iX,hx])));omega)
 have ej:=ej.since yp (λx hx=>.inr (jH x (mR _ (BW jm (by simp[iX,hx])))))
 refine W ?_
 exact⟨_,⟨rfl,rfl,rfl,rfl⟩,ej,h,⟨_,hO⟩,(vB.refl bs).set hk (by rw[List.length_set];exact lR _) (λx hx=>by rcases X7 hx with h9|h9;(·exact .inl h9);(·rw[h9];exact .inr anI))⟩
 refine WZ ?_
 exact⟨bs,⟨rfl,rfl,rfl,rfl⟩,ej,h,⟨_,hO⟩,vB.refl bs⟩
 intro gu Ch e88 hI
 obtain⟨ej,h,⟨X9,hO⟩,hH⟩:=hI
 have ka:k<gu.length:=(by rw[hH.1];exact hk)
 have gK:=hO.get ka
 obtain⟨uh,gs,a1,c1,a2,c2,e1,e2,tQ,kh,jm,aV,kj,fi,eK,KI⟩:=gK
 cases e1
 refine jq<|zr<|zm<|aA (lP 6 de de br (q+5) om Ch h) ?_
 rintro v31 uT ⟨⟨z,yE,hz⟩,h,aC⟩
 subst yE
 have ej:=ej.trans aC
 have hO:=hO.aG aC (λx hx hy=>by have:=jH x hx;simp at hy;omega)
 have gK:=hO.get ka
 obtain⟨uh,gs,a1,c1,a2,c2,e1,e2,tQ,kh,jm,aV,kj,fi,eK,KI⟩:=gK
 cases e1
 have yO:∀x,x∈g.toList++gA gss->x∉[br]:=(λx hx hy=>by have:=jH x hx;simp at hy;omega)
 have PU:∀x,x∈g.toList++gA gss->x<uT.heap.size:=(λx hx=>(mA.1 hx).elim (λh9=>hO.own.lt x (by simpa using h9)) (hO.lt x))
 have hc:fp [] uT uh (0+k*3) _:=⟨kj,tQ,sm⟩
 have hr:bc [] uT _ _:=eK.rep sm
 have Ya:=hH.2 k hk
 have jB:(bR gu k).code.length<=80:=Nat.le_trans Ya.2.2.1 (fI k hk).2.2
 have asa:=ej.size
 refine WZ ?_
 apply oB 10 106 116 rfl oQ
 intro h5
 refine zm<|nU rfl rfl rfl rfl rfl (kR (n+1) om _ om)<|zm<|zm<|zi jD gB rfl rfl hk<|zf zv rfl<|zl tl rfl (hc.cells 2 _ rfl) ?_
 exact oQ
 intro xx
 refine aZ<|zc rfl (λh6=>?_) (λh6=>?_)
 have o8:n+1<(bR gu k).code.length:=(by have h9:=of_decide_eq_true (Bool.and_eq_true_iff.1 h6).2;omega)
 have fu:=nS hr (i:=n) om
 obtain⟨b9,ub,e9,iy⟩:=fu
 subst e9
 apply jF cT ([]) 20 (rA 117 20) (rA 117 20) [[],[],[],[],[],[3,4],[5],[6],[],[7,8],[2,9],[],[],[11,12],[13],[14],[],[16],[15,17],[10,18]] [Ie.v _,Ie.v _,Ie.p (fun(G:List Nat) (v:Value) (ww:World)=>∃bb,v= .slice (some ⟨bb,0,none⟩) 0 0∧dL G ww bb #[] 9∧uT.heap.size<=bb),Ie.v _,Ie.v _,Ie.v _,Ie.v _,Ie.v _,Ie.v _,Ie.v _,Ie.e 0,Ie.v _,Ie.v _,Ie.v _,Ie.v _,Ie.v _,Ie.v _,Ie.v _,Ie.p (fun(G:List Nat) (v:Value) (ww:World)=>bc G ww v ((bR gu k).code.drop (n+1))),Ie.e 1] [10,19] [fun(G:List Nat) (vs:List Value) (ww:World)=>True,fun(G:List Nat) (vs:List Value) (ww:World)=>∃g7,cz ww 9 (vs.getD 0 undef) g7 ((bR gu k).code.take n)∧ql G ww 9 g7∧(∀x,x∈g7.toList->uT.heap.size<=x),fun(G:List Nat) (vs:List Value) (ww:World)=>∃g7,cz ww 9 (vs.getD 1 undef) g7 ((bR gu k).code.take n++(bR gu k).code.drop (n+1))∧(∀x,x∈g7.toList->uT.heap.size<=x)] de rfl ((λz hz=>by simp at hz)) (by exact⟨λG v w G' w' ⟨bb,e,h,hz⟩ k=>⟨bb,e,h.go k,hz⟩,λG v w G' w' h k=>bc.go h k,trivial⟩) (by exact⟨λ_ _ _ _ _ _=>trivial,λG vs w w' ⟨g7,h2,h3,h4⟩ k=>⟨g7,h2.ext k,h3.ext k,h4⟩,λG vs w w' ⟨g7,h2,h4⟩ k=>⟨g7,h2.ext k,h4⟩,trivial⟩) trivial
 refine FA ?_
 refine vf (λx kI l8 aR jy mO=>?_) ?_
 refine fN bh bf λqo yj anJ JA=>?_
 exact ff yj (⟨_,rfl,anJ.o mO,jy.aG.size⟩)
 refine vf (λ_ _ _ _ _ _=>WZ fv) ?_
 refine vf (λ_ _ _ _ _ _=>WZ fv) ?_
 refine vf (λ_ _ _ _ _ _=>zi jD gB rfl rfl hk fv) ?_
 refine FA ?_
 refine vf (λx kI l8 aR jy mO=>?_) ?_
 have hc:=hc.go jy
 refine zl tl rfl (hc.cells 2 _ rfl) ?_
 exact fv
 refine FA ?_
 refine vf (λx kI l8 aR jy mO=>?_) ?_
 have hr:=hr.go jy
 refine W1 (h:=n) bh bf rfl rfl rfl rfl om hr ?_
 exact fv
 refine ve 0 (λx kI l8 aR jy mO hJ hlen=>?_) ?_
 have aV:=jj hlen
 subst aV
 have hr:=hr.go jy
 intro v2 d2
 obtain⟨bb,e2,fH,hN⟩:=d2
 subst e2
 have O6:bc l8 kI _ ((bR gu k).code.take n):=(show bN _ _ _ (.sl 1 (il _)) from by have h9:=W0 hr (h:=n) om;unfold il at h9⊢;rw[List.map_take];exact h9)
 refine D9 bh bf rfl rfl rfl rfl rfl rfl fH.gX.kL O6 ‹_› (λx hx=>.inr (by simp at hx;subst hx;exact fH.gX)) (by rw[List.length_take];simp;omega) λv9 g9 qo G9 cO Ec oZ ku cR et aC=>?_
 exact fe G9 cR et (⟨g9,cO,Ec,λx hx=>(oZ x hx).elim (λh9=>by simp at h9;subst h9;exact hN) (λh9=>Nat.le_trans jy.aG.size h9)⟩)
 refine vf (λ_ _ _ _ _ _=>WZ fv) ?_
 refine vf (λ_ _ _ _ _ _=>WZ fv) ?_
 refine vf (λ_ _ _ _ _ _=>zi jD gB rfl rfl hk fv) ?_
 refine FA ?_
 refine vf (λx kI l8 aR jy mO=>?_) ?_
 have hc:=hc.go jy
 refine zl tl rfl (hc.cells 2 _ rfl) ?_
 exact fv
 refine vf (λ_ _ _ _ _ _=>WZ fv) ?_
 refine vf (λ_ _ _ _ _ _=>nU rfl rfl rfl rfl rfl (kR (n+1) om _ om) fv) ?_
 refine vf (λx kI l8 aR jy mO=>?_) ?_
 have hr:=hr.go jy
 refine Dn bh bf rfl rfl rfl rfl om hr ?_
 intro wY aV
 exact ff (aj.refl _ _) ((show bc _ _ wY ((bR gu k).code.drop (n+1)) from by unfold bc il;rw[List.map_drop];exact aV))
 refine ve 1 (λx kI l8 aR jy mO hJ hlen=>?_) ?_
 have aX:=jk hlen
 obtain⟨q0,aV⟩:=aX
 subst aV
 intro wI d18
 have hJ:∃g7,cz kI 9 q0 g7 ((bR gu k).code.take n)∧ql l8 kI 9 g7∧(∀x,x∈g7.toList->_<=x):=hJ
 obtain⟨g7,rB,Cc,Cd⟩:=hJ
 refine D9 bh bf rfl rfl rfl rfl rfl rfl rB d18 ‹_› Cc (by rw[List.length_take,List.length_drop];omega) λv9 g9 qo G9 cO Ec oZ ku cR et aC=>?_
 exact fe G9 cR et (⟨g9,cO,λx hx=>(oZ x hx).elim (Cd x) (λh9=>Nat.le_trans jy.aG.size h9)⟩)
 exact trivial
 intro x GP UM aR Ny af8 hJ hlen
 have aX:=k8 hlen
 obtain⟨q0,q1,aV⟩:=aX
 subst aV
 intro v2 d2
 intro wI d18
 change OW _ _ _ _ _ (bm (bg _ x _) (zZ 117 [_,_,_,_,_,_,_,_,_,_,_,_,_,_,_,_,_,_,_,_])) _
 have hJ:∃g7,cz GP 9 q1 g7 ((bR gu k).code.take n++(bR gu k).code.drop (n+1))∧(∀x,x∈g7.toList->_<=x):=hJ
 obtain⟨g7,rB,Cd⟩:=hJ
 have bY:=jw rB
 obtain⟨a9,c9,e9⟩:=bY
 subst e9
 have V2:aj [] _ GP:=Ny.aG
 refine cG V2 hO h ej λhO h ej=>?_
 refine zi jD gB rfl rfl hk<|zf zv rfl<|am4 (i:=k) (L:=[br]) kz rfl rfl rfl om hO e2 ka rB (λx hx hy=>by have h8:=Cd x hx;have h9:=PU x (by simp at hy;simp[hy]);omega) (λx hx hy=>by rcases mA.1 hx with h9|h9;(·exact yO x h9 hy);(·have h8:=Cd x h9;have h7:=ej.size;simp at hy;omega)) λNz Ck hR df=>?_
 have h:=h.aG Ck (λx hx=>by have:=jH x (by simp at hx;simp[hx]);omega)
 have ej:=ej.since Ck (λx hx=>.inr (jH x (by simp at hx;simp[hx])))
 refine W ?_
 exact⟨_,rfl,⟨_,_,⟨hR,λb hb=>jH b (by simp[hb]),λx hx=>by simp at hx;subst hx;exact h.lt,ej.size⟩,hH.set hk (by rw[lA,List.length_take,List.length_drop];omega) (λx hx=>Ya.2.2.2 x ((mA.1 hx).elim List.mem_of_mem_take List.mem_of_mem_drop))⟩,h.more om,ej⟩
 refine W ?_
 exact⟨_,rfl,⟨gu,_,hO.gr yO (λb hb=>jH b (by simp[hb])) (λx hx=>by simp at hx;subst hx;exact h.lt) ej.size,hH⟩,h.more om,ej⟩
theorem anK {br:Nat} {cs:Array Value} {T:TypeId} (hb:aJ w br cs T) (hs:∀(i:Nat) (s:ai),cs[i]?≠some (str s)) {a:Option Addr} {n c size:Nat} {rows:List (List C)} (h:bN L w (.slice a n c) (.sl size rows)) (h0:∀row,row∈rows->∃s rest,row= .val (str s)::rest) (AB:∀row c' u,row∈rows->c'∈row->bN L w u c'->bN (L++[br]) w u c'):bN (L++[br]) w (.slice a n c) (.sl size rows):=by
 cases h with
 |nil=>exact .nil _ _ _
 |sl b off _ _ _ _ f hl hc ig hL gN kj gD=>
  cases rows with
  |nil=>
   have:n=0:=by rw[<-hl];rfl
   subst this
   exact .nil _ _ _
  |cons row rest=>
   have dH:b≠br:=by
    rintro rfl
    obtain⟨s,r,e⟩:=h0 row sm
    have hz:=gN row sm
    have h1:=gD 0 0 row (.val (str s)) rfl (by rw[e];rfl)
    have h2:=kj 0 0 (by rw[<-hl];simp) (by rw[<-hz,e];simp)
    rw[hb.cell] at h2
    generalize f 0 0=u at h1 h2
    cases h1
    exact hs _ _ h2
   exact .sl b off n c size _ f hl hc ig (λhx=>(mA.1 hx).elim hL (λh9=>dH (by simpa using h9))) gN kj λi j row c hr hc=>AB row c _ (List.mem_of_getElem? hr) (List.mem_of_getElem? hc) (gD i j row c hr hc)
theorem Yb {br:Nat} {cs:Array Value} {T:TypeId} (hb:aJ w br cs T) (hs:∀(i:Nat) (s:ai),cs[i]?≠some (str s)) {xs:List ai} (h:bc L w v xs):bc (L++[br]) w v xs:=by
 obtain⟨a,n,c,rfl,_⟩:=dI h
 refine anK hb hs h (λrow hr=>?_) (λrow c' u hr hc hu=>?_)
 ·obtain⟨x,_,rfl⟩:=List.mem_map.1 hr;exact⟨x,[],rfl⟩
 ·obtain⟨x,_,rfl⟩:=List.mem_map.1 hr
  simp only[List.mem_singleton] at hc
  subst hc
  cases hu;exact .val _
theorem Yc {br:Nat} {cs:Array Value} {T:TypeId} (hb:aJ w br cs T) (hs:∀(i:Nat) (s:ai),cs[i]?≠some (str s)):∀{bs:List Bk} {xs:List Value},cW L w xs (bs.map Bk.enc).flatten->cW (L++[br]) w xs (bs.map Bk.enc).flatten
 |[],[],_=>trivial
 |f::bs,x0::x1::x2::r,h=>by
  obtain⟨r0,r1,r2,h⟩:=h
  cases r0
  exact⟨.val _,Yb (xs:=f.ck) hb hs r1,Yb (xs:=f.code) hb hs r2,Yc (bs:=bs) hb hs h⟩
theorem dB.gr {br T:Nat} (h:dB w br q) (hG:Gr B [] w T 3 v g (bs.map Bk.enc)) (hB:br<B):Gr B [br] w T 3 v g (bs.map Bk.enc):=by
 obtain⟨a,n,c,p,xs,h1,_⟩:=h
 obtain⟨ys,dA,gD,gY,_⟩:=hG.own
 have hs:∀(i:Nat) (s:ai),([.slice a n c,.int .i64 ((p:Nat):Int)]:List Value).toArray[i]?≠some (str s):=λi s hi=>by
  match i with
  |0=>cases hi
  |1=>cases hi
  |i+2=>cases hi
 rw[List.append_nil] at gD
 exact⟨⟨ys,dA,Yc h1 hs gD,gY,λb hb hx=>by have:=hG.low b hb;simp at hx;omega⟩,hG.low,λx hx=>by simp at hx;subst hx;exact h1.lt,hG.bsz⟩
theorem anL (br q:Nat) (hq:q<=700000000) (w:World) (h:dB w br q):
  bz Tryz.prog 94 [.pointer (some ⟨br,0,none⟩)] w λr w'=>(∃x,r=str x)∧dB w' br (q+12000)∧aj [br] w w':=by
 have hk:=aj.refl [br] w
 have ig:=h.lt
 have rE:(4:Nat)^2=16:=rfl
 refine bX [.tmp 2] 28 Tryz.func94 rfl acX rfl rfl ?_
 refine W ?_
 refine aA (lP 3 de de br q om w h) ?_
 rintro v9 w1 ⟨⟨z,e9,hz⟩,h,aC⟩
 subst e9
 have hk:=hk.trans aC
 refine W ?_
 refine iD (λx:ai=>[(0,.pointer (some ⟨br,0,none⟩)),(3,str x)]) (λx ww=>aj [br] w ww∧dB ww br (q+20)∧x.length<=100) ?_ ?_
 refine zc rfl (λh1=>?_) (λh1=>?_)
 refine lp<|zm<|aA (Pu 2 de br (q+1) om w1 h) ?_
 rintro v9 w2 ⟨⟨T,e9,hT⟩,h,aC⟩
 subst e9
 have XY:=T.len
 have hT:T.n+1<=8:=hT
 have hk:=hk.trans aC
 refine W ?_
 exact⟨_,⟨rfl,rfl⟩,hk,h.more om,om⟩
 refine WZ ?_
 exact⟨_,⟨rfl,rfl⟩,hk,h.more om,by decide⟩
 intro gu w2 e2 hI
 obtain⟨hk,h,hx⟩:=hI
 have lQ:=h.lt
 refine zr<|zm<|fN bh bf λw3 aH je gv=>bI aH hk h λhk h=>?_
 refine fN bh bf λw4 aO Oc gC=>cG aO hk h je λhk h je=>?_
 refine iO (LG _ _ _ _ _ _ _) rfl rfl<|zm<|zm<|aA (lP 3 de de br (q+20) om w4 h) ?_
 rintro v9 w5 ⟨⟨z2,e9,dJ⟩,h,aC⟩
 subst e9
 have hk:=hk.trans aC
 have bM:bc [br] w5 _ []:=(je.kL.aG aC so).rep so
 have bT:bc [br] w5 _ []:=(Oc.kL.aG aC so).rep so
 have hE:=PE (2+z2) om
 have hp:4^(2+z2)<=4^4:=Nat.pow_le_pow_right de om
 have WH:(4:Nat)^4=256:=rfl
 refine nU rfl rfl rfl rfl rfl (kR (2+z2) om _ om)<|aA (hE [] [] gu br (q+21) _ _ w5 rfl so sm om om h bM bT) ?_
 rintro v9 w6 ⟨⟨x9,e9,iC⟩,h,aC⟩
 subst e9
 have hk:=hk.trans aC
 have h:=h.more (show _<=q+6000 from om)
 refine W ?_
 refine aA (Nl x9 w6) ?_
 rintro _ w7 ⟨rfl,bV⟩
 have ov:=bV.size
 refine bI bV hk h λhk h=>?_
 refine aZ<|zc rfl (λh2=>?_) (λh2=>?_)
 refine W ?_
 exact⟨_,rfl,⟨_,rfl⟩,h.more om,hk⟩
 have lQ:=h.lt
 refine gz<|zr<|zm<|fN bh bf λw8 cA A8 kG=>bI cA hk h λhk h=>?_
 refine fN bh bf λw9 aC yt df=>cG aC hk h A8 λhk h A8=>?_
 refine iO (LG _ _ _ _ _ _ _) rfl rfl<|zm<|aA (PE 2 de [] [] gu br (q+6000) _ _ w9 rfl sm sm om om h (A8.kL.rep so) (yt.kL.rep so)) ?_
 rintro v9 bZ ⟨⟨ED,e9,asb⟩,h,aC⟩
 subst e9
 have hk:=hk.trans aC
 refine W ?_
 exact⟨_,rfl,⟨_,rfl⟩,h.more om,hk⟩
theorem Gr.two {B TB:Nat} {x1 x2 x3 y1 y2 y3:Value} {f1 f2:Bk} (hb:aJ w b [x1,x2,x3,y1,y2,y3].toArray TB) (h1:qC (b::L) w (.agg #[x1,x2,x3]) f1) (h2:qC (b::L) w (.agg #[y1,y2,y3]) f2) (hB:B<=b) (hL:∀x,x∈L->x<w.heap.size) (qK:b∉L):Gr B L w TB 3 (.slice (some ⟨b,0,none⟩) 2 2) (some b) ([f1,f2].map Bk.enc):=
 ⟨⟨[x1,x2,x3,y1,y2,y3],⟨rfl,.inr ⟨b,2,_,rfl,rfl,hb,lR _,by decide,rfl,rfl⟩⟩,cW.append (vs:=[x1,x2,x3]) h1.ko (cW.append (vs:=[y1,y2,y3]) h2.ko (vs':=[]) (cs':=[]) trivial),by intro row hr;simp at hr;rcases hr with rfl|rfl<;>rfl,by intro c hc;cases hc;exact qK⟩,by intro c hc;cases hc;exact hB,hL,Nat.le_of_lt (Nat.lt_of_le_of_lt hB hb.lt)⟩
structure Dh (bs:List Bk):Prop where
 len:1<=bs.length∧bs.length<=40
 bk:∀b,b∈bs->b.aM.length<=100∧b.ck.length<=40∧b.code.length<=80∧(∀x,x∈b.ck->x.length<=12000)∧∀x,x∈b.code->x.length<=12000
theorem Dh.smalls (h:Dh bs):ti bs:=⟨by have:=h.len;omega,λi hi=>by
 have:=h.bk (bR bs i) (List.mem_of_getElem? (py hi))
 exact⟨by omega,om,om⟩⟩
theorem PN.dr {b:Bk} {l:ai} (h:PN b l) (hl:l.length<=100):b.aM.length<=100∧b.ck.length<=40∧b.code.length<=80∧(∀x,x∈b.ck->x.length<=12000)∧∀x,x∈b.code->x.length<=12000:=
 ⟨by rw[h.aM];exact hl,by have:=h.regs.1;omega,by have:=h.code.2.1;omega,λx hx=>by have:=h.regs.2 x hx;omega,λx hx=>by have:=h.code.2.2 x hx;omega⟩
theorem anM {x:ai} (h:si x=true):x.length<=12000:=by
 unfold si seen at h
 cases hp:bB x with
 |none=>rw[hp] at h;cases h
 |some t=>exact(vM hp).2.2.2
theorem Yd (hp:gk bs=true) (hl:∀b,b∈bs->b.aM.length<=10):Dh bs:=by
 obtain⟨h1,h2,h3⟩:=X6 hp
 refine⟨⟨h2,h1⟩,λb hb=>?_⟩
 obtain⟨i,hi,rfl⟩:=List.getElem_of_mem hb
 have e:bR bs i=bs[i]:=by unfold bR;rw[gG,gE hi];rfl
 have h4:=h3 i hi
 rw[e] at h4
 obtain⟨_,h5,h6⟩:=Rq (DA hp _ hb)
 refine⟨by have:=hl _ hb;omega,h4.1,h4.2.2,λx hx=>?_,λx hx=>?_⟩
 ·obtain⟨t,ht,_⟩:=h5 x hx;exact(vM ht).2.2.2
 ·obtain⟨t,ht,_⟩:=h6 x hx;exact(vM ht).2.2.2
theorem Dh.anN {cs:List Bk} (h:Dh bs) (hh:vB bs cs):Dh cs:=by
 refine⟨by rw[hh.1];exact h.len,λb hb=>?_⟩
 obtain⟨i,hi,rfl⟩:=List.getElem_of_mem hb
 have lK:i<bs.length:=by rw[<-hh.1];exact hi
 have e:bR cs i=cs[i]:=by unfold bR;rw[gG,gE hi];rfl
 obtain⟨h1,h2,h3,h4⟩:=hh.2 i lK
 rw[e] at h1 h2 h3 h4
 have h5:=h.bk (bR bs i) (List.mem_of_getElem? (py lK))
 rw[h1,h2]
 exact⟨h5.1,h5.2.1,om,h5.2.2.2.1,λx hx=>(h4 x hx).elim (h5.2.2.2.2 x) anM⟩
def PW:List ai:=[[98,49],[98,48],[101,110,100]]
theorem anO (br q:Nat) (hq:q<=600000000) (w:World) (h:dB w br q):
  bz Tryz.prog 61 [.pointer (some ⟨br,0,none⟩)] w λr w'=>(∃bs g,Dh bs∧Gr w.heap.size [br] w' 58 3 r g (bs.map Bk.enc))∧dB w' br (q+20000)∧aj [br] w w':=by
 have hk:=aj.refl [br] w
 have ig:=h.lt
 refine bX [.tmp 2] 49 Tryz.func61 rfl acD rfl rfl ?_
 refine W ?_
 refine aA (lP 3 de de br q om w h) ?_
 rintro v9 w1 ⟨⟨z,e9,hz⟩,h,aC⟩
 subst e9
 have hk:=hk.trans aC
 refine W ?_
 refine zc rfl (λh1=>?_) (λh1=>?_)
 have lQ:=h.lt
 refine zr<|zm<|aA (PQ [109,97,105,110] 0 de br (q+1) om w1 h) ?_
 rintro v9 w2 ⟨⟨f1,rK,bM⟩,h,aC⟩
 have hk:=hk.trans aC
 have bM:=bM [br] so
 have bY:=Du bM
 obtain⟨a1,n1,c1,a2,n2,c2,e9,fi,eK,dm,dy⟩:=bY
 subst e9
 refine zm<|zm<|aA (lP 3 de de br (q+101) om w2 h) ?_
 rintro v9 w3 ⟨⟨z2,e9,dJ⟩,h,aC⟩
 subst e9
 have hk:=hk.trans aC
 have dm:=dm.aD aC sm;have dy:=dy.aD aC sm
 have lQ:=h.lt
 refine aA (PQ [98,48] z2 om br (q+102) om w3 h) ?_
 rintro v9 w4 ⟨⟨f2,rL,bT⟩,h,aC⟩
 have hk:=hk.trans aC
 have dm:=dm.aD aC sm;have dy:=dy.aD aC sm
 have bT:=bT [br] so
 have bY:=Du bT
 obtain⟨a3,n3,c3,a4,n4,c4,e9,o8,U3,eU,fG⟩:=bY
 subst e9
 refine sC [.tmp 10,.tmp 14] [[str f1.aM,.slice a1 n1 c1,.slice a2 n2 c2],[str f2.aM,.slice a3 n3 c3,.slice a4 n4 c4]] jD gB rfl rfl rfl rfl rfl rfl rfl rfl rfl λw5 aP Jr Jt=>?_
 have lQ:=h.lt
 have vH:∀x,x∈w4.heap.size::[br]->x∈[br]∨w4.heap.size<=x:=(λx hx=>by rcases mC.1 hx with h9|h9;(·right;omega);(·exact .inl h9))
 have dm:=(dm.fresh vH).ext aP
 have dy:=(dy.fresh vH).ext aP
 have eU:=(eU.fresh vH).ext aP
 have fG:=(fG.fresh vH).ext aP
 have Di:=hk.size
 refine bI aP hk h λhk h=>?_
 have hO:=Gr.two (B:=w.heap.size) (L:=[br]) Jr (Bv dm dy) (Bv eU fG) om so so
 refine W ?_
 refine aA (lP 3 de de br (q+202) om w5 h) ?_
 rintro v9 w6 ⟨⟨z3,e9,gv⟩,h,aC⟩
 subst e9
 have hk:=hk.trans aC
 have hO:=hO.aD aC sm
 refine W ?_
 refine zc rfl (λh2=>?_) (λh2=>?_)
 have lQ:=h.lt
 refine W ?_
 refine pI bh bf rfl rfl rfl rfl rfl λw7 bV tS oT=>cG bV hk h hO λhk h hO=>?_
 refine aA (ml PW de de br (q+203) om _ w7 h (aJ.dK PW tS (λhx=>by simp at hx;omega) de)) ?_
 rintro l9 w8 ⟨⟨lb,hi,gR⟩,h,aC⟩
 subst gR
 have hk:=hk.trans aC
 have hO:=hO.aD aC sm
 have Hu:=(show∀x,x∈PW->x.length<=30 from by decide) _ hi
 refine zm<|aA (lP 2 de de br (q+204) om w8 h) ?_
 rintro v9 w9 ⟨⟨z4,e9,gC⟩,h,aC⟩
 subst e9
 have hk:=hk.trans aC
 have hO:=hO.aD aC sm
 have lQ:=h.lt
 have fM:=hO.all
 refine aA (PQ lb z4 om br (q+205) om w9 h) ?_
 rintro v9 bZ ⟨⟨f3,uX,qj⟩,h,aC⟩
 have hk:=hk.trans aC
 have hO:=hO.aD aC sm
 have qj:=qj _ fM
 have bY:=Du qj
 obtain⟨a5,n5,c5,a6,n6,c6,e9,JK,WE,og,ox⟩:=bY
 subst e9
 refine fF jD gB rfl rfl λey cS anP rC=>la cS hk h hO og ox λhk h hO og ox=>?_
 refine Qx jD gB rfl rfl rfl rfl rfl rfl hO anP (Bv og ox) sm λa7 c7 g7 fa fY cV=>?_
 have hk:=hO.since hk cV
 have h:=h.aG cV (λx hx=>by have:=hO.low x (by simp at hx;simp[hx]);omega)
 refine W ?_
 exact⟨_,rfl,⟨[f1,f2]++[f3],_,⟨by simp,λb hb=>by simp at hb;rcases hb with rfl|rfl|rfl;(·exact rK.dr de);(·exact rL.dr de);(·exact uX.dr om)⟩,fY⟩,h.more om,hk⟩
 refine W ?_
 exact⟨_,rfl,⟨[f1,f2],_,⟨by simp,λb hb=>by simp at hb;rcases hb with rfl|rfl;(·exact rK.dr de);(·exact rL.dr de)⟩,hO⟩,h.more om,hk⟩
 refine gz<|zr<|zm<|aA (anL br (q+1) om w1 h) ?_
 rintro v9 w2 ⟨⟨x9,e9⟩,h,aC⟩
 subst e9
 have hk:=hk.trans aC
 have lQ:=h.lt
 have Di:=hk.size
 refine aA (WX x9 w2) ?_
 rintro v3 w3 ⟨jb,aH⟩
 have eU:=aH.size
 refine bI aH hk h λhk h=>?_
 obtain⟨v1,ok,bs,e9,_,hC,hR⟩:=jb
 subst e9
 refine W ?_
 refine iD (λv:Value=>[(0,.pointer (some ⟨br,0,none⟩)),(4,v)]) (λv ww=>aj [br] w ww∧dB ww br (q+12001)∧∃bs g,Gr w.heap.size [br] ww 58 3 v g (bs.map Bk.enc)∧gk bs=true∧∀b,b∈bs->b.aM.length<=10) ?_ ?_
 refine zc rfl (λh3=>?_) (λh3=>?_)
 have hf:ok=false:=(by simpa using h3)
 have lQ:=h.lt
 have Di:=hk.size
 refine lp<|aA (WX [40,43,32,49,32,50,41] w3) ?_
 rintro v4 w4 ⟨jU,aO⟩
 have fG:=aO.size
 refine bI aO hk h λhk h=>?_
 obtain⟨v2,ok2,XJ,e9,_,PX,De⟩:=jU
 subst e9
 have anQ:=akV PX
 subst anQ
 have aX:=De rfl
 obtain⟨g2,yh⟩:=aX
 refine W ?_
 exact⟨_,⟨rfl,rfl⟩,hk,h.more om,_,g2,(h.gr yh lQ).down Di,PX.prog,PX.aM⟩
 have ba:ok=true:=(by simpa using h3)
 subst ba
 have aX:=hR rfl
 obtain⟨g2,yh⟩:=aX
 refine WZ ?_
 exact⟨_,⟨rfl,rfl⟩,hk,h.more om,_,g2,(h.gr yh lQ).down Di,hC.prog,hC.aM⟩
 intro gu w4 e4 hI
 obtain⟨hk,h,bs,g,hR,lS,EZ⟩:=hI
 refine jq<|zr<|zm<|aA (lP 2 de de br (q+12001) om w4 h) ?_
 rintro v9 w5 ⟨⟨z5,e9,iI⟩,h,aC⟩
 subst e9
 have hk:=hk.trans aC
 have hR:=hR.aD aC sm
 have Di:=hk.size
 refine W ?_
 refine zc rfl (λh4=>?_) (λh4=>?_)
 refine W ?_
 exact⟨_,rfl,⟨bs,g,Yd lS EZ,hR⟩,h.more om,hk⟩
 have hRn:=bN.none hR.vK
 refine W ?_
 refine aA (anx bs lS br (q+12002) om _ w5 h hRn) ?_
 rintro v9 w6 ⟨⟨cs,gc,hRc,hH⟩,h,aC⟩
 have hk:=hk.trans aC
 refine W ?_
 exact⟨_,rfl,⟨cs,gc,(Yd lS EZ).anN hH,hRc.down Di⟩,h.more om,hk⟩
structure KJ (bs:List Bk):Prop where
 len:bs.length<=41
 bk:∀b,b∈bs->b.aM.length<=100∧b.ck.length<=40∧b.code.length<=80∧(∀x,x∈b.ck->x.length<=12000)∧∀x,x∈b.code->x.length<=12000
theorem KJ.smalls (h:KJ bs):ti bs:=⟨by have:=h.len;omega,λi hi=>by
 have:=h.bk (bR bs i) (List.mem_of_getElem? (py hi))
 exact⟨by omega,om,om⟩⟩
theorem anT (bs:List UInt8) (hb:bs.length<=1000000000) (v:Value) (w:World) (hv:bN [] w v (.sl 1 (qy bs))):
  bz Tryz.prog 31 [v] w λr w'=>(∃ps,KJ ps∧nj [] w' r ps)∧aj [] w w':=by
 have hK:=aj.refl [] w
 refine bX [.tmp 2] 27 Tryz.func31 rfl acm rfl rfl ?_
 refine W ?_
 refine aA (amy bs hb _ w hv) ?_
 rintro v1 w1 ⟨fX,aI⟩
 have dm:=aI.size
 have hK:=hK.ext aI
 obtain⟨br,e9,MM,h⟩:=fX
 subst e9
 have Di:=hK.size
 refine W ?_
 refine aA (anO br 0 de w1 h) ?_
 rintro v9 w2 ⟨⟨ps,gp,hP,hG⟩,h,aC⟩
 have hK:=hK.since aC (λx hx=>.inr (by simp at hx;omega))
 have mH:=hP.len
 refine W ?_
 refine aA (lP 12 de de br _ de w2 h) ?_
 rintro v10 w3 ⟨⟨z,fm,hz⟩,h,aC⟩
 subst fm
 have hK:=hK.since aC (λx hx=>.inr (by simp at hx;omega))
 have hG:=hG.aD aC sm
 have lV:=hG.am1 om
 obtain⟨b0,a1,n1,c1,a2,n2,c2,pc,e9,er,dm,dy⟩:=lV
 subst e9
 refine W ?_
 refine zc rfl (λh1=>?_) (λh1=>?_)
 refine zr<|fN jD gB λw4 aO lF gC=>?_
 have hK:=hK.ext aO
 refine W ?_
 exact⟨_,rfl,⟨[],⟨by simp,sm⟩,.nil _ _ _⟩,hK⟩
 refine W ?_
 refine zc rfl (λh2=>?_) (λh2=>?_)
 refine zr<|zm<|Dn (l:=1) jD gB rfl rfl rfl rfl om (bN.none hG.vK) λwY aV=>W ?_
 exact⟨_,rfl,⟨ps.drop 1,⟨by rw[List.length_drop];omega,λb hb=>hP.bk b (List.mem_of_mem_drop hb)⟩,show bN _ _ _ (.sl 3 ((ps.drop 1).map Bk.enc)) from by rw[List.map_drop];exact aV⟩,hK⟩
 refine W ?_
 refine zc rfl (λh3=>?_) (λh3=>?_)
 refine zr<|zm<|zm<|zi (i:=0) jD gB rfl rfl om<|zL DD gB rfl ((show fQ _ b0 (0+0*3) _ from by simpa using er)) rfl<|fF jD gB rfl rfl ?_
 intro w4 aO yt gC
 refine gQ aO hK hG dm dy λhK hG dm dy=>?_
 refine Qx jD gB rfl rfl rfl rfl rfl rfl hG yt (Bv dm dy) om λa7 c7 g7 w5 fY aP=>?_
 have hK:=hK.since aP (λx hx=>.inr (by have:=hG.low x (by simpa using hx);omega))
 refine W ?_
 exact⟨_,rfl,⟨ps++[bR ps 0],⟨by simp;omega,λb hb=>by rcases mA.1 hb with h9|h9;(·exact hP.bk b h9);(·simp only[List.mem_singleton] at h9;rw[h9];exact hP.bk _ (List.mem_of_getElem? (py om)))⟩,bN.none fY.vK⟩,hK⟩
 refine W ?_
 exact⟨_,rfl,⟨ps,⟨by omega,hP.bk⟩,bN.none hG.vK⟩,hK⟩



theorem anU (h:∀b,b∈bs->b.aM.length<=12000):lv bs=gk bs:=by
 unfold lv
 rw[show bs.all BC=true from List.all_eq_true.2 λb hb=>dT (h b hb),Bool.and_true]
end Go.Proofs.YthbhobaiopccaaaGreatDoor
