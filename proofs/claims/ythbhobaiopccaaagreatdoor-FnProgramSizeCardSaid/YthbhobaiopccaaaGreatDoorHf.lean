/- Lemmas for the law FnProgramSize, no statement of their own: no conditions. -/
import Derived.Test.YthbhobaiopccaaaGreatDoorHe
set_option maxHeartbeats 4000000
set_option linter.unusedVariables false
set_option linter.unusedSimpArgs false
namespace Go.Proofs.YthbhobaiopccaaaGreatDoor
open Go
variable {E N bytes i k n sz t:Nat} {u v z:Value} {G G' G0 L:List Nat} {w w':World} {g:Option Nat} {xs ys:List ai} {rows:List (List C)} {s:ai} {e:Ex}
theorem afo (h:ai):((dW h).1=0∧(dW h).2=0)∨((dW h).1=1∧(dW h).2=2)∨((dW h).1=1∧(dW h).2=3)∨((dW h).1=1∧(dW h).2=4)∨((dW h).1=2∧(dW h).2=4)∨((dW h).1=5∧(dW h).2=6):=by
 unfold dW
 split
 ·simp
 ·split
  ·simp
  ·split
   ·simp
   ·split
    ·simp
    ·split<;>simp
theorem afp {ps:List aq} {f:aq->Bool} (h:∀j,k<=j->j<ps.length->f (nth ps j)=true):(ps.drop k).all f=true:=by
 rw[List.all_eq_true]
 intro c hc
 obtain⟨i,hi⟩:=List.mem_iff_getElem?.1 hc
 rw[List.getElem?_drop] at hi
 have hl:=(List.getElem?_eq_some_iff.1 hi).1
 have:=h (k+i) om hl
 rw[gh hl] at hi
 cases hi
 exact this
theorem afq {ps:List aq} {j:Nat} {f:aq->Bool} (h1:k<=j) (h2:j<ps.length) (h:f (nth ps j)=false):(ps.drop k).all f=false:=by
 rw[List.all_eq_false]
 refine⟨nth ps j,?_,by rw[h];simp⟩
 rw[List.mem_iff_getElem?]
 refine⟨j-k,?_⟩
 rw[List.getElem?_drop,show k+(j-k)=j by omega]
 exact gh h2
def Cu (ps:List aq):Bool:=dN (nth ps 2).aw&&decide ((nth ps 1).aw≠(nth ps 2).aw)&&jP (nth ps 3)&&jP (nth ps 4)
theorem afr (ps:List aq) (k:Nat):k≠5∨(k=5∧dN (nth ps 2).aw=false)∨(k=5∧dN (nth ps 2).aw=true∧(nth ps 1).aw=(nth ps 2).aw)∨(k=5∧dN (nth ps 2).aw=true∧(nth ps 1).aw≠(nth ps 2).aw∧jP (nth ps 3)=false)∨
  (k=5∧dN (nth ps 2).aw=true∧(nth ps 1).aw≠(nth ps 2).aw∧jP (nth ps 3)=true∧jP (nth ps 4)=false)∨(k=5∧dN (nth ps 2).aw=true∧(nth ps 1).aw≠(nth ps 2).aw∧jP (nth ps 3)=true∧jP (nth ps 4)=true):=by
 by_cases h5:k=5
 ·right
  cases h2:dN (nth ps 2).aw
  ·exact .inl ⟨h5,rfl⟩
  ·right
   by_cases he:(nth ps 1).aw=(nth ps 2).aw
   ·exact .inl ⟨h5,rfl,he⟩
   ·right
    cases h3:jP (nth ps 3)
    ·exact .inl ⟨h5,rfl,he,rfl⟩
    ·right
     cases h4:jP (nth ps 4)
     ·exact .inl ⟨h5,rfl,he,rfl,rfl⟩
     ·exact .inr ⟨h5,rfl,he,rfl,rfl⟩
 ·exact .inl h5
theorem afs:∀(m:Nat) (t:aq),t.size<=m->t.size<=10000000->WF t->∀(v:Value) (L:List Nat) (w:World),bB L w v t->
  bz Tryz.prog 151 [v] w λr w'=>r= .bool (dx t)∧aj [] w w':=by
 intro m
 induction m with
 |zero=>intro t h;have:=xQ t;omega
 |succ m ih=>
  intro t hm lD cm v L w hv
  obtain⟨a,n,c,rfl,hn,aP⟩:=cU hv
  subst hn
  have hK:=aj.refl [] w
  have ob:=wj t
  refine bS [.tmp 2] 105 Tryz.func151 rfl aa8 rfl rfl ?_
  refine zr<|eH rfl ?_
  intro w1 aI aX dk
  have hK:=hK.ext aI;have aP:=aP.ext aI
  refine zA<|aZ<|jL<|zr<|zf kY rfl<|zl gD rfl (aX.at rfl)<|K2 rfl rfl rfl rfl<|aZ<|zc rfl (λh1=>?_) (λh1=>?_)
  have hq:dx t=qg t.aw:=by rw[T9,iP h1]
  refine zr<|zf kY rfl<|zl gD rfl (aX.at rfl)<|aA (I9 _ _) ?_
  rintro _ _ ⟨rfl,rfl⟩
  refine zm<|zx (i:=0) rfl rfl<|zx (i:=1) rfl rfl<|zA<|zA<|aZ<|zr<|zm<|zm ?_
  apply BF 4 18 22 [18,19,20,21,22] (λw'=>w1=w') rfl
  intro h2
  replace h2:=jk h2
  refine zs<|zs<|zs<|zp rfl<|aZ ?_
  exact mg rfl rfl
  intro h2
  replace h2:=jk h2
  refine zf kY rfl<|zl gD rfl (aX.at rfl)<|aA (vw _ _) ?_
  rintro _ _ ⟨rfl,rfl⟩
  refine zp rfl<|aZ ?_
  exact mg rfl rfl
  rintro xx _ rfl
  refine zA<|aZ<|jZ ?_
  exact⟨_,rfl,by rw[hq];rfl,hK⟩
  have ha:t.aw=[]:=Classical.not_not.1 h1
  have j8:=cm.pos ha
  have hq:=afc ha
  obtain⟨b,off,pa,pn,pc,rfl,et,eP,fM⟩:=iJ aP (gh j8)
  have kL:=afo (nth t.ak 0).aw
  refine gY<|zr<|zf jv rfl<|zl iC rfl (aX.at rfl)<|zi (i:=0) cz aL rfl rfl om<|zf kY rfl<|zl gD rfl (et 0 _ rfl)<|aA (Jv _ _) ?_
  rintro _ _ ⟨rfl,rfl⟩
  refine zm<|zx (i:=0) rfl rfl<|zx (i:=1) rfl rfl<|zA<|zA<|aZ<|jL<|zr<|zm<|vY rfl rfl rfl rfl rfl<|zm ?_
  apply BF 6 34 40 [34,35,36,37,38,39,40] (λw'=>w1=w') rfl
  intro h3
  replace h3:=jk h3
  refine zs<|zs<|zs<|zs<|zs<|zp rfl<|aZ ?_
  exact mg rfl rfl
  intro h3
  replace h3:=jk h3
  refine zf jv rfl<|zl iC rfl (aX.at rfl)<|Fq cz rfl rfl rfl<|zm<|Ia rfl rfl rfl rfl rfl<|zp rfl<|aZ ?_
  exact mg rfl rfl
  rintro xx _ rfl
  refine aZ<|zc rfl (λh4=>?_) (λh4=>?_)
  have hz:dx t=false:=(by rw[hq];simp only[oE,dE] at h4;rcases h4 with h|h;(·rw[show decide ((dW (nth t.ak 0).aw).1≠0)=false from dF om];rfl);(·rw[show decide (t.ak.length=(dW (nth t.ak 0).aw).2)=false from dF om];simp))
  refine zr<|zA<|aZ<|jZ ?_
  exact⟨_,rfl,by rw[hz];rfl,hK⟩
  have fT:(dW (nth t.ak 0).aw).1≠0∧t.ak.length=(dW (nth t.ak 0).aw).2:=(by simp only[Bool.or_eq_false_iff,decide_eq_false_iff_not] at h4;omega)
  obtain⟨fT,fb⟩:=fT
  have Cv:dx t=(Et t.ak&&(t.ak.drop (dW (nth t.ak 0).aw).1).all dx):=by rw[hq,dT fT,dT fb];rfl
  refine gY<|jL<|zr<|zm<|Fs rfl rfl rfl rfl rfl<|zm ?_
  apply Ig 8 43 51 [43,44,45,46,47,48,49,50,51] (λw'=>w1=w') rfl
  intro h5
  replace h5:=jk h5
  have Ci:1<t.ak.length:=(by have h7:=h5;omega)
  obtain⟨b1,eX,gA,rf,gm,e1,bK,sK,oY⟩:=iJ aP (gh (i:=1) Ci)
  cases e1
  refine zf jv rfl<|zl iC rfl (aX.at rfl)<|zi (i:=1) cz aL rfl rfl om<|zf kY rfl<|zl gD rfl (bK 0 _ rfl)<|aA (vw _ _) ?_
  rintro _ _ ⟨rfl,rfl⟩
  refine kx rfl rfl rfl<|zp rfl<|aZ ?_
  exact mg rfl rfl
  intro h5
  replace h5:=jk h5
  refine zs<|zs<|zs<|zs<|zs<|zs<|zs<|zp rfl<|aZ ?_
  exact mg rfl rfl
  rintro xx _ rfl
  refine aZ<|zc rfl (λh6=>?_) (λh6=>?_)
  have hz:dx t=false:=(by simp only[aE,dE,Bool.not_eq_true'] at h6;rw[Cv];unfold Et;rw[show decide ((dW (nth t.ak 0).aw).1<=1)=false from dF om,h6.2];rfl)
  refine zr<|zA<|aZ<|jZ ?_
  exact⟨_,rfl,by rw[hz];rfl,hK⟩
  have mB:(decide ((dW (nth t.ak 0).aw).1<=1)||dN (nth t.ak 1).aw)=true:=(by simp only[Bool.and_eq_false_iff,decide_eq_false_iff_not,Bool.not_eq_false'] at h6;rcases h6 with h|h;(·rw[dT om];rfl);(·rw[h];simp))
  have nY:dx t=((decide ((dW (nth t.ak 0).aw).1≠5)||Cu t.ak)&&(t.ak.drop (dW (nth t.ak 0).aw).1).all dx):=by rw[Cv];unfold Et;rw[mB];rfl
  have GJ:(dW (nth t.ak 0).aw).1=5->t.ak.length=6:=(by intro h;omega)
  have jd:∀i,i<t.ak.length->∃pa pn pc,fS w1 b (off+i*2) [str (nth t.ak i).aw,.slice pa pn pc]∧bB L w1 (.agg #[str (nth t.ak i).aw,.slice pa pn pc]) (nth t.ak i):=(by intro i hi;obtain⟨b1,eX,gA,rf,gm,e1,bK,sK,oY⟩:=iJ aP (gh hi);cases e1;exact⟨_,_,_,bK,kV oY⟩)
  refine gY<|jL<|jL ?_
  refine ix (λ_:Unit=>[(1,.pointer (some ⟨w.heap.size,0,none⟩)),(5,.int .i64 ((dW (nth t.ak 0).aw).1:Int)),(6,.int .i64 ((dW (nth t.ak 0).aw).2:Int)),(91,.bool (decide ((dW (nth t.ak 0).aw).1=5)&&!Cu t.ak))]) (λ_ w'=>aj [] w w'∧aj [] w1 w') ?_ ?_
  rcases afr t.ak (dW (nth t.ak 0).aw).1 with kM|kM|kM|kM|kM|kM
  apply k8 dj 40 (rA 52 40) (rA 52 40) [[],[0],[1],[2],[2,3],[2,4],[2,5],[2,6],[2,7],[2,8],[2,9],[10],[10,11],[10,12],[10,13],[10,14],[10],[10,16],[10,17],[10,18],[10,19],[10,15,20],[2,10,21],[2,22],[23],[23,24],[23,25],[23,26],[23,27],[23,28],[2,23,29],[2,30],[31],[31,32],[31,33],[31,34],[31,35],[31,36],[2,31,37],[2,38]] [It.v _,It.v _,It.v (.bool false),It.v _,It.v _,It.v _,It.v _,It.v _,It.v _,It.v _,It.v _,It.v _,It.v _,It.v _,It.v _,It.v _,It.v _,It.v _,It.v _,It.v _,It.v _,It.v _,It.v _,It.v _,It.v _,It.v _,It.v _,It.v _,It.v _,It.v _,It.v _,It.v _,It.v _,It.v _,It.v _,It.v _,It.v _,It.v _,It.v _,It.v _] de rfl
  intro wd aC
  refine Ap ?_
  refine vk aC (λx w2 az=>?_) ?_
  refine vY rfl rfl rfl rfl rfl ?_
  exact pv
  refine vc (λx w2 az=>?_) ?_
  refine zm ?_
  exact pv (by exact congrArg Value.bool (dF om))
  refine vc (λx w2 az=>?_) ?_
  exact cF pv
  refine vk aC (λx w2 az=>?_) ?_
  exact cF pv
  refine vk aC (λx w2 az=>?_) ?_
  exact cF pv
  refine vc (λx w2 az=>?_) ?_
  exact cF pv
  refine vk aC (λx w2 az=>?_) ?_
  exact cF pv
  refine vk aC (λx w2 az=>?_) ?_
  exact cF pv
  refine vc (λx w2 az=>?_) ?_
  exact cF pv
  refine vc (λx w2 az=>?_) ?_
  exact cF pv
  refine vc (λx w2 az=>?_) ?_
  exact cF pv
  refine vk aC (λx w2 az=>?_) ?_
  exact cF pv
  refine vk aC (λx w2 az=>?_) ?_
  exact cF pv
  refine vc (λx w2 az=>?_) ?_
  exact cF pv
  refine vk aC (λx w2 az=>?_) ?_
  exact cF pv
  refine vc (λx w2 az=>?_) ?_
  exact cF pv
  refine vk aC (λx w2 az=>?_) ?_
  exact cF pv
  refine vk aC (λx w2 az=>?_) ?_
  exact cF pv
  refine vc (λx w2 az=>?_) ?_
  exact cF pv
  refine vk aC (λx w2 az=>?_) ?_
  exact cF pv
  refine vk aC (λx w2 az=>?_) ?_
  exact cF pv
  refine vc (λx w2 az=>?_) ?_
  exact cF pv
  refine vc (λx w2 az=>?_) ?_
  exact cF pv
  refine vc (λx w2 az=>?_) ?_
  exact cF pv
  refine vk aC (λx w2 az=>?_) ?_
  exact cF pv
  refine vk aC (λx w2 az=>?_) ?_
  exact cF pv
  refine vk aC (λx w2 az=>?_) ?_
  exact cF pv
  refine vk aC (λx w2 az=>?_) ?_
  exact cF pv
  refine vc (λx w2 az=>?_) ?_
  exact cF pv
  refine vc (λx w2 az=>?_) ?_
  exact cF pv
  refine vc (λx w2 az=>?_) ?_
  exact cF pv
  refine vc (λx w2 az=>?_) ?_
  exact cF pv
  refine vk aC (λx w2 az=>?_) ?_
  exact cF pv
  refine vk aC (λx w2 az=>?_) ?_
  exact cF pv
  refine vk aC (λx w2 az=>?_) ?_
  exact cF pv
  refine vk aC (λx w2 az=>?_) ?_
  exact cF pv
  refine vc (λx w2 az=>?_) ?_
  exact cF pv
  refine vc (λx w2 az=>?_) ?_
  exact cF pv
  refine vc (λ_ _ _=>zp rfl pv) ?_
  exact trivial
  intro x o5 gR
  have hK:=hK.ext gR
  change OW _ _ _ _ [] (bo (bj _ x _) (zZ 52 [_,_,_,_,_,_,_,_,_,_,_,_,_,_,_,_,_,_,_,_,_,_,_,_,_,_,_,_,_,_,_,_,_,_,_,_,_,_,_,_])) _
  refine aZ ?_
  exact⟨(),⟨rfl,rfl,rfl,congrArg Value.bool (show false=_ from by rw[dF kM];rfl)⟩,hK,gR⟩
  obtain⟨h5,h2⟩:=kM
  have h6:=GJ h5
  obtain⟨iA,AT,iw,bU,dI⟩:=jd 2 om
  apply k8 dj 40 (rA 52 40) (rA 52 40) [[],[0],[1],[2],[2,3],[2,4],[2,5],[2,6],[2,7],[2,8],[2,9],[10],[10,11],[10,12],[10,13],[10,14],[10],[10,16],[10,17],[10,18],[10,19],[10,15,20],[2,10,21],[2,22],[23],[23,24],[23,25],[23,26],[23,27],[23,28],[2,23,29],[2,30],[31],[31,32],[31,33],[31,34],[31,35],[31,36],[2,31,37],[2,38]] [It.v _,It.v _,It.v (.bool true),It.v _,It.v _,It.v _,It.v _,It.v _,It.v _,It.v _,It.v (.bool true),It.v _,It.v _,It.v _,It.v _,It.v _,It.v _,It.v _,It.v _,It.v _,It.v _,It.v _,It.v _,It.v (.bool true),It.v _,It.v _,It.v _,It.v _,It.v _,It.v _,It.v _,It.v (.bool true),It.v _,It.v _,It.v _,It.v _,It.v _,It.v _,It.v _,It.v _] de rfl
  intro wd aC
  refine Ap ?_
  refine vk aC (λx w2 az=>?_) ?_
  refine vY rfl rfl rfl rfl rfl ?_
  exact pv
  refine vc (λx w2 az=>?_) ?_
  refine zm ?_
  exact pv (by exact congrArg Value.bool (dT om))
  refine vc (λ_ _ _=>zf jv rfl pv) ?_
  refine vk aC (λx w2 az=>?_) ?_
  have aX:=aX.ext az
  refine zl iC rfl (aX.at rfl) ?_
  exact pv
  refine vk aC (λx w2 az=>?_) ?_
  refine zi (i:=2) cz aL rfl rfl om ?_
  exact pv
  refine vc (λ_ _ _=>zf kY rfl pv) ?_
  refine vk aC (λx w2 az=>?_) ?_
  have bU:=bU.ext az
  refine zl gD rfl (bU 0 _ rfl) ?_
  exact pv
  refine vk aC (λx w2 az=>?_) ?_
  refine aA (vw _ _) ?_
  rintro _ _ ⟨rfl,rfl⟩
  exact pv
  refine vc (λ_ _ _=>kx rfl rfl rfl pv) ?_
  refine vc (λx w2 az=>?_) ?_
  refine zm ?_
  exact pv (by exact congrArg Value.bool (show(!dN (nth t.ak 2).aw)=true from by rw[h2];rfl))
  refine vc (λx w2 az=>?_) ?_
  exact cF pv
  refine vk aC (λx w2 az=>?_) ?_
  exact cF pv
  refine vk aC (λx w2 az=>?_) ?_
  exact cF pv
  refine vc (λx w2 az=>?_) ?_
  exact cF pv
  refine vk aC (λx w2 az=>?_) ?_
  exact cF pv
  refine vc (λx w2 az=>?_) ?_
  exact cF pv
  refine vk aC (λx w2 az=>?_) ?_
  exact cF pv
  refine vk aC (λx w2 az=>?_) ?_
  exact cF pv
  refine vc (λx w2 az=>?_) ?_
  exact cF pv
  refine vk aC (λx w2 az=>?_) ?_
  exact cF pv
  refine vk aC (λx w2 az=>?_) ?_
  exact cF pv
  refine vc (λ_ _ _=>zp rfl pv) ?_
  refine vc (λx w2 az=>?_) ?_
  refine zm ?_
  exact pv (by exact rfl)
  refine vc (λx w2 az=>?_) ?_
  exact cF pv
  refine vk aC (λx w2 az=>?_) ?_
  exact cF pv
  refine vk aC (λx w2 az=>?_) ?_
  exact cF pv
  refine vk aC (λx w2 az=>?_) ?_
  exact cF pv
  refine vk aC (λx w2 az=>?_) ?_
  exact cF pv
  refine vc (λx w2 az=>?_) ?_
  exact cF pv
  refine vc (λ_ _ _=>zp rfl pv) ?_
  refine vc (λx w2 az=>?_) ?_
  refine zm ?_
  exact pv (by exact rfl)
  refine vc (λx w2 az=>?_) ?_
  exact cF pv
  refine vk aC (λx w2 az=>?_) ?_
  exact cF pv
  refine vk aC (λx w2 az=>?_) ?_
  exact cF pv
  refine vk aC (λx w2 az=>?_) ?_
  exact cF pv
  refine vk aC (λx w2 az=>?_) ?_
  exact cF pv
  refine vc (λx w2 az=>?_) ?_
  exact cF pv
  refine vc (λ_ _ _=>zp rfl pv) ?_
  refine vc (λ_ _ _=>zp rfl pv) ?_
  exact trivial
  intro x o5 gR
  have hK:=hK.ext gR
  change OW _ _ _ _ [] (bo (bj _ x _) (zZ 52 [_,_,_,_,_,_,_,_,_,_,_,_,_,_,_,_,_,_,_,_,_,_,_,_,_,_,_,_,_,_,_,_,_,_,_,_,_,_,_,_])) _
  refine aZ ?_
  exact⟨(),⟨rfl,rfl,rfl,congrArg Value.bool (show true=_ from by unfold Cu;rw[dT h5,h2];rfl)⟩,hK,gR⟩
  obtain⟨h5,h2,kC⟩:=kM
  have h6:=GJ h5
  obtain⟨gA,rf,gm,bK,cI⟩:=jd 1 om
  obtain⟨iA,AT,iw,bU,dI⟩:=jd 2 om
  apply k8 dj 40 (rA 52 40) (rA 52 40) [[],[0],[1],[2],[2,3],[2,4],[2,5],[2,6],[2,7],[2,8],[2,9],[10],[10,11],[10,12],[10,13],[10,14],[10],[10,16],[10,17],[10,18],[10,19],[10,15,20],[2,10,21],[2,22],[23],[23,24],[23,25],[23,26],[23,27],[23,28],[2,23,29],[2,30],[31],[31,32],[31,33],[31,34],[31,35],[31,36],[2,31,37],[2,38]] [It.v _,It.v _,It.v (.bool true),It.v _,It.v _,It.v _,It.v _,It.v _,It.v _,It.v _,It.v (.bool false),It.v _,It.v _,It.v _,It.v _,It.v _,It.v _,It.v _,It.v _,It.v _,It.v _,It.v _,It.v _,It.v (.bool true),It.v _,It.v _,It.v _,It.v _,It.v _,It.v _,It.v _,It.v (.bool true),It.v _,It.v _,It.v _,It.v _,It.v _,It.v _,It.v _,It.v _] de rfl
  intro wd aC
  refine Ap ?_
  refine vk aC (λx w2 az=>?_) ?_
  refine vY rfl rfl rfl rfl rfl ?_
  exact pv
  refine vc (λx w2 az=>?_) ?_
  refine zm ?_
  exact pv (by exact congrArg Value.bool (dT om))
  refine vc (λ_ _ _=>zf jv rfl pv) ?_
  refine vk aC (λx w2 az=>?_) ?_
  have aX:=aX.ext az
  refine zl iC rfl (aX.at rfl) ?_
  exact pv
  refine vk aC (λx w2 az=>?_) ?_
  refine zi (i:=2) cz aL rfl rfl om ?_
  exact pv
  refine vc (λ_ _ _=>zf kY rfl pv) ?_
  refine vk aC (λx w2 az=>?_) ?_
  have bU:=bU.ext az
  refine zl gD rfl (bU 0 _ rfl) ?_
  exact pv
  refine vk aC (λx w2 az=>?_) ?_
  refine aA (vw _ _) ?_
  rintro _ _ ⟨rfl,rfl⟩
  exact pv
  refine vc (λ_ _ _=>kx rfl rfl rfl pv) ?_
  refine vc (λx w2 az=>?_) ?_
  refine zm ?_
  exact pv (by exact congrArg Value.bool (show(!dN (nth t.ak 2).aw)=false from by rw[h2];rfl))
  refine vc (λ_ _ _=>zf jv rfl pv) ?_
  refine vk aC (λx w2 az=>?_) ?_
  have aX:=aX.ext az
  refine zl iC rfl (aX.at rfl) ?_
  exact pv
  refine vk aC (λx w2 az=>?_) ?_
  refine zi (i:=1) cz aL rfl rfl om ?_
  exact pv
  refine vc (λ_ _ _=>zf kY rfl pv) ?_
  refine vk aC (λx w2 az=>?_) ?_
  have bK:=bK.ext az
  refine zl gD rfl (bK 0 _ rfl) ?_
  exact pv
  refine vc (λ_ _ _=>zf jv rfl pv) ?_
  refine vk aC (λx w2 az=>?_) ?_
  have aX:=aX.ext az
  refine zl iC rfl (aX.at rfl) ?_
  exact pv
  refine vk aC (λx w2 az=>?_) ?_
  refine zi (i:=2) cz aL rfl rfl om ?_
  exact pv
  refine vc (λ_ _ _=>zf kY rfl pv) ?_
  refine vk aC (λx w2 az=>?_) ?_
  have bU:=bU.ext az
  refine zl gD rfl (bU 0 _ rfl) ?_
  exact pv
  refine vk aC (λx w2 az=>?_) ?_
  refine DG rfl rfl rfl rfl ?_
  exact pv
  refine vc (λ_ _ _=>zp rfl pv) ?_
  refine vc (λx w2 az=>?_) ?_
  refine zm ?_
  exact pv (by exact congrArg Value.bool (dT kC))
  refine vc (λx w2 az=>?_) ?_
  exact cF pv
  refine vk aC (λx w2 az=>?_) ?_
  exact cF pv
  refine vk aC (λx w2 az=>?_) ?_
  exact cF pv
  refine vk aC (λx w2 az=>?_) ?_
  exact cF pv
  refine vk aC (λx w2 az=>?_) ?_
  exact cF pv
  refine vc (λx w2 az=>?_) ?_
  exact cF pv
  refine vc (λ_ _ _=>zp rfl pv) ?_
  refine vc (λx w2 az=>?_) ?_
  refine zm ?_
  exact pv (by exact rfl)
  refine vc (λx w2 az=>?_) ?_
  exact cF pv
  refine vk aC (λx w2 az=>?_) ?_
  exact cF pv
  refine vk aC (λx w2 az=>?_) ?_
  exact cF pv
  refine vk aC (λx w2 az=>?_) ?_
  exact cF pv
  refine vk aC (λx w2 az=>?_) ?_
  exact cF pv
  refine vc (λx w2 az=>?_) ?_
  exact cF pv
  refine vc (λ_ _ _=>zp rfl pv) ?_
  refine vc (λ_ _ _=>zp rfl pv) ?_
  exact trivial
  intro x o5 gR
  have hK:=hK.ext gR
  change OW _ _ _ _ [] (bo (bj _ x _) (zZ 52 [_,_,_,_,_,_,_,_,_,_,_,_,_,_,_,_,_,_,_,_,_,_,_,_,_,_,_,_,_,_,_,_,_,_,_,_,_,_,_,_])) _
  refine aZ ?_
  exact⟨(),⟨rfl,rfl,rfl,congrArg Value.bool (show true=_ from by unfold Cu;rw[dT h5,h2,dF (λh=>h kC)];rfl)⟩,hK,gR⟩
  obtain⟨h5,h2,kC,h3⟩:=kM
  have h6:=GJ h5
  obtain⟨gA,rf,gm,bK,cI⟩:=jd 1 om
  obtain⟨iA,AT,iw,bU,dI⟩:=jd 2 om
  obtain⟨pP,Um,pQ,dO,dY⟩:=jd 3 om
  have fm:=kX (t:=t) (i:=3) om
  apply k8 dj 40 (rA 52 40) (rA 52 40) [[],[0],[1],[2],[2,3],[2,4],[2,5],[2,6],[2,7],[2,8],[2,9],[10],[10,11],[10,12],[10,13],[10,14],[10],[10,16],[10,17],[10,18],[10,19],[10,15,20],[2,10,21],[2,22],[23],[23,24],[23,25],[23,26],[23,27],[23,28],[2,23,29],[2,30],[31],[31,32],[31,33],[31,34],[31,35],[31,36],[2,31,37],[2,38]] [It.v _,It.v _,It.v (.bool true),It.v _,It.v _,It.v _,It.v _,It.v _,It.v _,It.v _,It.v (.bool false),It.v _,It.v _,It.v _,It.v _,It.v _,It.v _,It.v _,It.v _,It.v _,It.v _,It.v _,It.v _,It.v (.bool false),It.v _,It.v _,It.v _,It.v _,It.v _,It.v _,It.v _,It.v (.bool true),It.v _,It.v _,It.v _,It.v _,It.v _,It.v _,It.v _,It.v _] de rfl
  intro wd aC
  refine Ap ?_
  refine vk aC (λx w2 az=>?_) ?_
  refine vY rfl rfl rfl rfl rfl ?_
  exact pv
  refine vc (λx w2 az=>?_) ?_
  refine zm ?_
  exact pv (by exact congrArg Value.bool (dT om))
  refine vc (λ_ _ _=>zf jv rfl pv) ?_
  refine vk aC (λx w2 az=>?_) ?_
  have aX:=aX.ext az
  refine zl iC rfl (aX.at rfl) ?_
  exact pv
  refine vk aC (λx w2 az=>?_) ?_
  refine zi (i:=2) cz aL rfl rfl om ?_
  exact pv
  refine vc (λ_ _ _=>zf kY rfl pv) ?_
  refine vk aC (λx w2 az=>?_) ?_
  have bU:=bU.ext az
  refine zl gD rfl (bU 0 _ rfl) ?_
  exact pv
  refine vk aC (λx w2 az=>?_) ?_
  refine aA (vw _ _) ?_
  rintro _ _ ⟨rfl,rfl⟩
  exact pv
  refine vc (λ_ _ _=>kx rfl rfl rfl pv) ?_
  refine vc (λx w2 az=>?_) ?_
  refine zm ?_
  exact pv (by exact congrArg Value.bool (show(!dN (nth t.ak 2).aw)=false from by rw[h2];rfl))
  refine vc (λ_ _ _=>zf jv rfl pv) ?_
  refine vk aC (λx w2 az=>?_) ?_
  have aX:=aX.ext az
  refine zl iC rfl (aX.at rfl) ?_
  exact pv
  refine vk aC (λx w2 az=>?_) ?_
  refine zi (i:=1) cz aL rfl rfl om ?_
  exact pv
  refine vc (λ_ _ _=>zf kY rfl pv) ?_
  refine vk aC (λx w2 az=>?_) ?_
  have bK:=bK.ext az
  refine zl gD rfl (bK 0 _ rfl) ?_
  exact pv
  refine vc (λ_ _ _=>zf jv rfl pv) ?_
  refine vk aC (λx w2 az=>?_) ?_
  have aX:=aX.ext az
  refine zl iC rfl (aX.at rfl) ?_
  exact pv
  refine vk aC (λx w2 az=>?_) ?_
  refine zi (i:=2) cz aL rfl rfl om ?_
  exact pv
  refine vc (λ_ _ _=>zf kY rfl pv) ?_
  refine vk aC (λx w2 az=>?_) ?_
  have bU:=bU.ext az
  refine zl gD rfl (bU 0 _ rfl) ?_
  exact pv
  refine vk aC (λx w2 az=>?_) ?_
  refine DG rfl rfl rfl rfl ?_
  exact pv
  refine vc (λ_ _ _=>zp rfl pv) ?_
  refine vc (λx w2 az=>?_) ?_
  refine zm ?_
  exact pv (by exact congrArg Value.bool (dF kC))
  refine vc (λ_ _ _=>zf jv rfl pv) ?_
  refine vk aC (λx w2 az=>?_) ?_
  have aX:=aX.ext az
  refine zl iC rfl (aX.at rfl) ?_
  exact pv
  refine vk aC (λx w2 az=>?_) ?_
  refine zi (i:=3) cz aL rfl rfl om ?_
  exact pv
  refine vk aC (λx w2 az=>?_) ?_
  have dO:=dO.ext az
  refine zL eV aL rfl dO rfl ?_
  exact pv
  refine vk aC (λx w2 az=>?_) ?_
  have dY:=dY.ext az
  refine aA (AU (nth t.ak 3) om (cm.nth om) _ _ w2 dY) ?_
  rintro v3 w3 ⟨ko,aH⟩
  have fm:=aH.size
  obtain rfl:=ko
  exact pk aH
  refine vc (λ_ _ _=>kx rfl rfl rfl pv) ?_
  refine vc (λ_ _ _=>zp rfl pv) ?_
  refine vc (λx w2 az=>?_) ?_
  refine zm ?_
  exact pv (by exact congrArg Value.bool (show(!jP (nth t.ak 3))=true from by rw[h3];rfl))
  refine vc (λx w2 az=>?_) ?_
  exact cF pv
  refine vk aC (λx w2 az=>?_) ?_
  exact cF pv
  refine vk aC (λx w2 az=>?_) ?_
  exact cF pv
  refine vk aC (λx w2 az=>?_) ?_
  exact cF pv
  refine vk aC (λx w2 az=>?_) ?_
  exact cF pv
  refine vc (λx w2 az=>?_) ?_
  exact cF pv
  refine vc (λ_ _ _=>zp rfl pv) ?_
  refine vc (λ_ _ _=>zp rfl pv) ?_
  exact trivial
  intro x o5 gR
  have hK:=hK.ext gR
  change OW _ _ _ _ [] (bo (bj _ x _) (zZ 52 [_,_,_,_,_,_,_,_,_,_,_,_,_,_,_,_,_,_,_,_,_,_,_,_,_,_,_,_,_,_,_,_,_,_,_,_,_,_,_,_])) _
  refine aZ ?_
  exact⟨(),⟨rfl,rfl,rfl,congrArg Value.bool (show true=_ from by unfold Cu;rw[dT h5,h2,h3,Bool.and_false];rfl)⟩,hK,gR⟩
  obtain⟨h5,h2,kC,h3,h4⟩:=kM
  have h6:=GJ h5
  obtain⟨gA,rf,gm,bK,cI⟩:=jd 1 om
  obtain⟨iA,AT,iw,bU,dI⟩:=jd 2 om
  obtain⟨pP,Um,pQ,dO,dY⟩:=jd 3 om
  obtain⟨Nj,pn4,Nk,jx,pR⟩:=jd 4 om
  have fm:=kX (t:=t) (i:=3) om
  have fE:=kX (t:=t) (i:=4) om
  apply k8 dj 40 (rA 52 40) (rA 52 40) [[],[0],[1],[2],[2,3],[2,4],[2,5],[2,6],[2,7],[2,8],[2,9],[10],[10,11],[10,12],[10,13],[10,14],[10],[10,16],[10,17],[10,18],[10,19],[10,15,20],[2,10,21],[2,22],[23],[23,24],[23,25],[23,26],[23,27],[23,28],[2,23,29],[2,30],[31],[31,32],[31,33],[31,34],[31,35],[31,36],[2,31,37],[2,38]] [It.v _,It.v _,It.v (.bool true),It.v _,It.v _,It.v _,It.v _,It.v _,It.v _,It.v _,It.v (.bool false),It.v _,It.v _,It.v _,It.v _,It.v _,It.v _,It.v _,It.v _,It.v _,It.v _,It.v _,It.v _,It.v (.bool false),It.v _,It.v _,It.v _,It.v _,It.v _,It.v _,It.v _,It.v (.bool false),It.v _,It.v _,It.v _,It.v _,It.v _,It.v _,It.v _,It.v _] de rfl
  intro wd aC
  refine Ap ?_
  refine vk aC (λx w2 az=>?_) ?_
  refine vY rfl rfl rfl rfl rfl ?_
  exact pv
  refine vc (λx w2 az=>?_) ?_
  refine zm ?_
  exact pv (by exact congrArg Value.bool (dT om))
  refine vc (λ_ _ _=>zf jv rfl pv) ?_
  refine vk aC (λx w2 az=>?_) ?_
  have aX:=aX.ext az
  refine zl iC rfl (aX.at rfl) ?_
  exact pv
  refine vk aC (λx w2 az=>?_) ?_
  refine zi (i:=2) cz aL rfl rfl om ?_
  exact pv
  refine vc (λ_ _ _=>zf kY rfl pv) ?_
  refine vk aC (λx w2 az=>?_) ?_
  have bU:=bU.ext az
  refine zl gD rfl (bU 0 _ rfl) ?_
  exact pv
  refine vk aC (λx w2 az=>?_) ?_
  refine aA (vw _ _) ?_
  rintro _ _ ⟨rfl,rfl⟩
  exact pv
  refine vc (λ_ _ _=>kx rfl rfl rfl pv) ?_
  refine vc (λx w2 az=>?_) ?_
  refine zm ?_
  exact pv (by exact congrArg Value.bool (show(!dN (nth t.ak 2).aw)=false from by rw[h2];rfl))
  refine vc (λ_ _ _=>zf jv rfl pv) ?_
  refine vk aC (λx w2 az=>?_) ?_
  have aX:=aX.ext az
  refine zl iC rfl (aX.at rfl) ?_
  exact pv
  refine vk aC (λx w2 az=>?_) ?_
  refine zi (i:=1) cz aL rfl rfl om ?_
  exact pv
  refine vc (λ_ _ _=>zf kY rfl pv) ?_
  refine vk aC (λx w2 az=>?_) ?_
  have bK:=bK.ext az
  refine zl gD rfl (bK 0 _ rfl) ?_
  exact pv
  refine vc (λ_ _ _=>zf jv rfl pv) ?_
  refine vk aC (λx w2 az=>?_) ?_
  have aX:=aX.ext az
  refine zl iC rfl (aX.at rfl) ?_
  exact pv
  refine vk aC (λx w2 az=>?_) ?_
  refine zi (i:=2) cz aL rfl rfl om ?_
  exact pv
  refine vc (λ_ _ _=>zf kY rfl pv) ?_
  refine vk aC (λx w2 az=>?_) ?_
  have bU:=bU.ext az
  refine zl gD rfl (bU 0 _ rfl) ?_
  exact pv
  refine vk aC (λx w2 az=>?_) ?_
  refine DG rfl rfl rfl rfl ?_
  exact pv
  refine vc (λ_ _ _=>zp rfl pv) ?_
  refine vc (λx w2 az=>?_) ?_
  refine zm ?_
  exact pv (by exact congrArg Value.bool (dF kC))
  refine vc (λ_ _ _=>zf jv rfl pv) ?_
  refine vk aC (λx w2 az=>?_) ?_
  have aX:=aX.ext az
  refine zl iC rfl (aX.at rfl) ?_
  exact pv
  refine vk aC (λx w2 az=>?_) ?_
  refine zi (i:=3) cz aL rfl rfl om ?_
  exact pv
  refine vk aC (λx w2 az=>?_) ?_
  have dO:=dO.ext az
  refine zL eV aL rfl dO rfl ?_
  exact pv
  refine vk aC (λx w2 az=>?_) ?_
  have dY:=dY.ext az
  refine aA (AU (nth t.ak 3) om (cm.nth om) _ _ w2 dY) ?_
  rintro v3 w3 ⟨ko,aH⟩
  have fm:=aH.size
  obtain rfl:=ko
  exact pk aH
  refine vc (λ_ _ _=>kx rfl rfl rfl pv) ?_
  refine vc (λ_ _ _=>zp rfl pv) ?_
  refine vc (λx w2 az=>?_) ?_
  refine zm ?_
  exact pv (by exact congrArg Value.bool (show(!jP (nth t.ak 3))=false from by rw[h3];rfl))
  refine vc (λ_ _ _=>zf jv rfl pv) ?_
  refine vk aC (λx w2 az=>?_) ?_
  have aX:=aX.ext az
  refine zl iC rfl (aX.at rfl) ?_
  exact pv
  refine vk aC (λx w2 az=>?_) ?_
  refine zi (i:=4) cz aL rfl rfl om ?_
  exact pv
  refine vk aC (λx w2 az=>?_) ?_
  have jx:=jx.ext az
  refine zL eV aL rfl jx rfl ?_
  exact pv
  refine vk aC (λx w2 az=>?_) ?_
  have pR:=pR.ext az
  refine aA (AU (nth t.ak 4) om (cm.nth om) _ _ w2 pR) ?_
  rintro v3 w3 ⟨ko,aH⟩
  have fm:=aH.size
  obtain rfl:=ko
  exact pk aH
  refine vc (λ_ _ _=>kx rfl rfl rfl pv) ?_
  refine vc (λ_ _ _=>zp rfl pv) ?_
  refine vc (λ_ _ _=>zp rfl pv) ?_
  exact trivial
  intro x o5 gR
  have hK:=hK.ext gR
  change OW _ _ _ _ [] (bo (bj _ x _) (zZ 52 [_,_,_,_,_,_,_,_,_,_,_,_,_,_,_,_,_,_,_,_,_,_,_,_,_,_,_,_,_,_,_,_,_,_,_,_,_,_,_,_])) _
  refine aZ ?_
  exact⟨(),⟨rfl,rfl,rfl,congrArg Value.bool (show(!jP (nth t.ak 4))=_ from by unfold Cu;rw[dT h5,h2,h3,h4,Bool.and_false];rfl)⟩,hK,gR⟩
  obtain⟨h5,h2,kC,h3,h4⟩:=kM
  have h6:=GJ h5
  obtain⟨gA,rf,gm,bK,cI⟩:=jd 1 om
  obtain⟨iA,AT,iw,bU,dI⟩:=jd 2 om
  obtain⟨pP,Um,pQ,dO,dY⟩:=jd 3 om
  obtain⟨Nj,pn4,Nk,jx,pR⟩:=jd 4 om
  have fm:=kX (t:=t) (i:=3) om
  have fE:=kX (t:=t) (i:=4) om
  apply k8 dj 40 (rA 52 40) (rA 52 40) [[],[0],[1],[2],[2,3],[2,4],[2,5],[2,6],[2,7],[2,8],[2,9],[10],[10,11],[10,12],[10,13],[10,14],[10],[10,16],[10,17],[10,18],[10,19],[10,15,20],[2,10,21],[2,22],[23],[23,24],[23,25],[23,26],[23,27],[23,28],[2,23,29],[2,30],[31],[31,32],[31,33],[31,34],[31,35],[31,36],[2,31,37],[2,38]] [It.v _,It.v _,It.v (.bool true),It.v _,It.v _,It.v _,It.v _,It.v _,It.v _,It.v _,It.v (.bool false),It.v _,It.v _,It.v _,It.v _,It.v _,It.v _,It.v _,It.v _,It.v _,It.v _,It.v _,It.v _,It.v (.bool false),It.v _,It.v _,It.v _,It.v _,It.v _,It.v _,It.v _,It.v (.bool false),It.v _,It.v _,It.v _,It.v _,It.v _,It.v _,It.v _,It.v _] de rfl
  intro wd aC
  refine Ap ?_
  refine vk aC (λx w2 az=>?_) ?_
  refine vY rfl rfl rfl rfl rfl ?_
  exact pv
  refine vc (λx w2 az=>?_) ?_
  refine zm ?_
  exact pv (by exact congrArg Value.bool (dT om))
  refine vc (λ_ _ _=>zf jv rfl pv) ?_
  refine vk aC (λx w2 az=>?_) ?_
  have aX:=aX.ext az
  refine zl iC rfl (aX.at rfl) ?_
  exact pv
  refine vk aC (λx w2 az=>?_) ?_
  refine zi (i:=2) cz aL rfl rfl om ?_
  exact pv
  refine vc (λ_ _ _=>zf kY rfl pv) ?_
  refine vk aC (λx w2 az=>?_) ?_
  have bU:=bU.ext az
  refine zl gD rfl (bU 0 _ rfl) ?_
  exact pv
  refine vk aC (λx w2 az=>?_) ?_
  refine aA (vw _ _) ?_
  rintro _ _ ⟨rfl,rfl⟩
  exact pv
  refine vc (λ_ _ _=>kx rfl rfl rfl pv) ?_
  refine vc (λx w2 az=>?_) ?_
  refine zm ?_
  exact pv (by exact congrArg Value.bool (show(!dN (nth t.ak 2).aw)=false from by rw[h2];rfl))
  refine vc (λ_ _ _=>zf jv rfl pv) ?_
  refine vk aC (λx w2 az=>?_) ?_
  have aX:=aX.ext az
  refine zl iC rfl (aX.at rfl) ?_
  exact pv
  refine vk aC (λx w2 az=>?_) ?_
  refine zi (i:=1) cz aL rfl rfl om ?_
  exact pv
  refine vc (λ_ _ _=>zf kY rfl pv) ?_
  refine vk aC (λx w2 az=>?_) ?_
  have bK:=bK.ext az
  refine zl gD rfl (bK 0 _ rfl) ?_
  exact pv
  refine vc (λ_ _ _=>zf jv rfl pv) ?_
  refine vk aC (λx w2 az=>?_) ?_
  have aX:=aX.ext az
  refine zl iC rfl (aX.at rfl) ?_
  exact pv
  refine vk aC (λx w2 az=>?_) ?_
  refine zi (i:=2) cz aL rfl rfl om ?_
  exact pv
  refine vc (λ_ _ _=>zf kY rfl pv) ?_
  refine vk aC (λx w2 az=>?_) ?_
  have bU:=bU.ext az
  refine zl gD rfl (bU 0 _ rfl) ?_
  exact pv
  refine vk aC (λx w2 az=>?_) ?_
  refine DG rfl rfl rfl rfl ?_
  exact pv
  refine vc (λ_ _ _=>zp rfl pv) ?_
  refine vc (λx w2 az=>?_) ?_
  refine zm ?_
  exact pv (by exact congrArg Value.bool (dF kC))
  refine vc (λ_ _ _=>zf jv rfl pv) ?_
  refine vk aC (λx w2 az=>?_) ?_
  have aX:=aX.ext az
  refine zl iC rfl (aX.at rfl) ?_
  exact pv
  refine vk aC (λx w2 az=>?_) ?_
  refine zi (i:=3) cz aL rfl rfl om ?_
  exact pv
  refine vk aC (λx w2 az=>?_) ?_
  have dO:=dO.ext az
  refine zL eV aL rfl dO rfl ?_
  exact pv
  refine vk aC (λx w2 az=>?_) ?_
  have dY:=dY.ext az
  refine aA (AU (nth t.ak 3) om (cm.nth om) _ _ w2 dY) ?_
  rintro v3 w3 ⟨ko,aH⟩
  have fm:=aH.size
  obtain rfl:=ko
  exact pk aH
  refine vc (λ_ _ _=>kx rfl rfl rfl pv) ?_
  refine vc (λ_ _ _=>zp rfl pv) ?_
  refine vc (λx w2 az=>?_) ?_
  refine zm ?_
  exact pv (by exact congrArg Value.bool (show(!jP (nth t.ak 3))=false from by rw[h3];rfl))
  refine vc (λ_ _ _=>zf jv rfl pv) ?_
  refine vk aC (λx w2 az=>?_) ?_
  have aX:=aX.ext az
  refine zl iC rfl (aX.at rfl) ?_
  exact pv
  refine vk aC (λx w2 az=>?_) ?_
  refine zi (i:=4) cz aL rfl rfl om ?_
  exact pv
  refine vk aC (λx w2 az=>?_) ?_
  have jx:=jx.ext az
  refine zL eV aL rfl jx rfl ?_
  exact pv
  refine vk aC (λx w2 az=>?_) ?_
  have pR:=pR.ext az
  refine aA (AU (nth t.ak 4) om (cm.nth om) _ _ w2 pR) ?_
  rintro v3 w3 ⟨ko,aH⟩
  have fm:=aH.size
  obtain rfl:=ko
  exact pk aH
  refine vc (λ_ _ _=>kx rfl rfl rfl pv) ?_
  refine vc (λ_ _ _=>zp rfl pv) ?_
  refine vc (λ_ _ _=>zp rfl pv) ?_
  exact trivial
  intro x o5 gR
  have hK:=hK.ext gR
  change OW _ _ _ _ [] (bo (bj _ x _) (zZ 52 [_,_,_,_,_,_,_,_,_,_,_,_,_,_,_,_,_,_,_,_,_,_,_,_,_,_,_,_,_,_,_,_,_,_,_,_,_,_,_,_])) _
  refine aZ ?_
  exact⟨(),⟨rfl,rfl,rfl,congrArg Value.bool (show(!jP (nth t.ak 4))=_ from by unfold Cu;rw[dT h5,h2,h3,h4,dT kC];rfl)⟩,hK,gR⟩
  intro gu qx yt hI
  obtain⟨hK,aB⟩:=hI
  have aX:=aX.ext aB;have aP:=aP.ext aB
  refine zc rfl (λh7=>?_) (λh7=>?_)
  have hz:dx t=false:=(by simp only[aE,dE,Bool.not_eq_true'] at h7;rw[nY,dF (λh=>h h7.1),h7.2];rfl)
  refine zr<|zA<|aZ<|jZ ?_
  exact⟨_,rfl,by rw[hz];rfl,hK⟩
  have Jw:dx t=(t.ak.drop (dW (nth t.ak 0).aw).1).all dx:=(by simp only[Bool.and_eq_false_iff,decide_eq_false_iff_not,Bool.not_eq_false'] at h7;rw[nY];rcases h7 with h|h;(·rw[dT h];rfl);(·rw[h,Bool.or_true];rfl))
  refine gY<|jL<|zr<|zm<|zA<|aZ<|tj ?_
  refine eA (λk:Nat=>[(1,.pointer (some ⟨w.heap.size,0,none⟩)),(6,.int .i64 ((dW (nth t.ak 0).aw).2:Int)),(7,.int .i64 (k:Int))]) (λk w'=>aj [] w w'∧aj [] qx w'∧(dW (nth t.ak 0).aw).1<=k∧k<=t.ak.length∧∀j,(dW (nth t.ak 0).aw).1<=j->j<k->dx (nth t.ak j)=true) (λk=>t.ak.length-k) ((dW (nth t.ak 0).aw).1) (⟨rfl,rfl,rfl⟩) (⟨hK,aj.refl _ _,lR _,om,by intro j h1 h2;omega⟩) ?_
  intro gg oZ Eu hI
  obtain⟨hK,kq,aI,hk,cL⟩:=hI
  have aX:=aX.ext kq;have aP:=aP.ext kq
  refine jL<|zr<|zm<|zm<|H9 rfl rfl rfl rfl rfl<|aZ<|zc rfl (λh8=>?_) (λh8=>?_)
  have gL:gg<t.ak.length:=om
  obtain⟨b1,eX,gA,rf,gm,e1,bK,sK,oY⟩:=iJ aP (gh gL)
  cases e1
  subst sK
  have cI:=kV oY
  have cV:=kX gL
  refine gY<|jL<|tj<|zr<|zf jv rfl<|zl iC rfl (aX.at rfl)<|zm<|zi cz aL rfl rfl gL<|zL eV aL rfl bK rfl<|aA (ih (nth t.ak gg) om om (cm.nth gL) _ _ oZ cI) ?_
  rintro v44 o6 ⟨afv,iX⟩
  have aoi:=iX.size
  have hK:=hK.ext iX;have kq:=kq.ext iX
  obtain rfl:=afv
  refine kx rfl rfl rfl<|aZ<|zc rfl (λh9=>?_) (λh9=>?_)
  have hz:dx t=false:=(by rw[Jw];exact afq aI gL (by simpa using h9))
  refine zr<|zA<|aZ<|jZ ?_
  exact⟨_,rfl,by rw[hz];rfl,hK⟩
  have hy:dx (nth t.ak gg)=true:=(by simpa using h9)
  refine gY<|kH<|zm<|mY rfl rfl rfl rfl rfl (wrap_i64 _ om om)<|zA<|aZ ?_
  exact⟨gg+1,⟨rfl,rfl,rfl⟩,⟨hK,kq,om,om,by intro j h1 h2;rcases Nat.lt_or_ge j gg with h|h;exact cL j h1 h;rw[show j=gg by omega];exact hy⟩,om⟩
  refine zj<|zk rfl<|zr<|zA<|aZ<|jZ ?_
  exact⟨_,rfl,by rw[Jw,afp (λj h1 h2=>cL j h1 om)];rfl,hK⟩
section
variable {P:Program} {w:World}
theorem afw {t ty T:TypeId} {i:TypeInfo} {sz bytes:Nat} (ht:P.underlying t=some (.slice T)) (hi:P.info? T=some i) (hz:i.zero=some z) 
  (BC:i.size=sz) (fK:i.bytes=bytes) (xI:z.cells.size=sz)
  {v:Value} {g:Option Nat} {n:Nat} {xs:List Value} (dv:iH w T sz v g n xs)
  (ab aoff m c:Nat) (news:List Value) (hl:news.length=m*sz) (tl:fS w ab aoff news) (h1:∀u∈news,u.oneCell'=true) (hm:0<m) (afx:0<i.size)
  (zo:n+m<=maxLen) (xJ:(n+m)*bytes<=140737488355328):
  ∃v' g' w',(Builtin.append_ #[t,t] ty #[v,.slice (some ⟨ab,aoff,none⟩) m c]).run P w= .ok v' w'∧iH w' T sz v' g' (n+m) (xs++news)∧
   ((g'=g∧aj g.toList w w'∧∀b,g=some b->∃cur U,aJ w b cur U∧0<cur.size)∨(g'=some w.heap.size∧aj [] w w')):=by
 subst BC
 subst fK
 have H7:n+m<=9223372036854775807:=by simp only[maxLen] at zo;omega
 have hlen:(xs++news).length=(n+m)*i.size:=by rw[lA,dv.1,hl,Nat.add_mul]
 have uF:∀b o j:Nat,(⟨b,o,none⟩:Addr).add j=⟨b,o+j,none⟩:=λb o j=>by unfold Addr.add;split<;>simp_all
 have uG:∀j u,news[j]?=some u->w.cell? ((⟨ab,aoff,none⟩:Addr).add j)=some u:=λj u hu=>by rw[uF];exact tl j u hu
 have grown:∀(old:Nat),old<n+m->
   iH (w.drew.alloc (.cells (xs.toArray++news.toArray++Builtin.zeroCells z.cells (grownCap w (n+m) old T-(n+m))) T)) T i.size
    (.slice (some ⟨w.heap.size,0,none⟩) (n+m) (grownCap w (n+m) old T)) (some w.heap.size) (n+m) (xs++news)∧
   aj [] w (w.drew.alloc (.cells (xs.toArray++news.toArray++Builtin.zeroCells z.cells (grownCap w (n+m) old T-(n+m))) T)):=by
  intro old ho
  have oC:=grownCap_ge w (n+m) old T
  have lU:grownCap w (n+m) old T<=maxLen:=grownCap_le_maxLen w (n+m) old T zo
  refine⟨⟨hlen,.inr ⟨w.heap.size,_,_,rfl,rfl,heap_alloc_new w.drew _,oC,lU,?_,?_⟩⟩,⟨rfl,rfl,rfl,sm,λk hk _=>(aj.alloc [] w.drew _).block k hk sm⟩⟩
  ·simp only[Array.size_append,List.size_toArray,size_zeroCells,xI,dv.1,hl,<-Nat.add_mul]
   congr 1
   omega
  ·simp only[Array.toList_append,List.append_assoc]
   rw[<-List.append_assoc,<-hlen]
   exact List.take_left
 rcases dv.2 with⟨rfl,rfl,rfl⟩|⟨b,cap,cur,rfl,rfl,hb,ml,lU,bZ,tq⟩
 ·have hx:xs=[]:=List.eq_nil_of_length_eq_zero (by simpa using dv.1)
  subst hx
  have hr:=run_append_nil (P:=P) w t ty T i z ht hi hz ⟨ab,aoff,none⟩ m c news hl uG hm om (by have hb:=xJ;simp only[Nat.zero_add] at hb;omega)
  have kS:=grown 0 om
  simp only[Nat.zero_add,List.nil_append,Array.empty_append] at kS⊢
  exact⟨_,_,_,hr,kS.1,.inr ⟨rfl,kS.2⟩⟩
 ·by_cases oD:n+m<=cap
  ·have kv:n*i.size+news.length<=cur.size:=by rw[hl,bZ,<-Nat.add_mul];exact Nat.mul_le_mul_right _ oD
   have hr:=run_append_room (P:=P) w t ty T i ht hi b n cap cur hb ⟨ab,aoff,none⟩ m c news hl uG h1 oD kv
   refine⟨_,some b,_,hr,⟨hlen,.inr ⟨b,cap,_,rfl,rfl,setRow_heap w b cur _ T _ hb,oD,lU,?_,?_⟩⟩,.inl ⟨rfl,⟨rfl,rfl,rfl,sm,λk _ hk=>setRow_other w b k _ (by simpa using hk)⟩,λb' gN=>?_⟩⟩
   ·simp only[List.size_toArray,lA,List.length_take,List.length_drop,Array.length_toList]
    omega
   ·rw[tq,<-hlen]
    exact List.take_left
   ·cases gN
    refine⟨cur,T,hb,?_⟩
    rw[bZ]
    exact Nat.mul_pos om afx
  ·have holds:∀j u,xs[j]?=some u->w.cell? ((⟨b,0,none⟩:Addr).add j)=some u:=λj u hu=>by
    rw[uF,hb.cell]
    rw[<-tq,List.getElem?_take] at hu
    split at hu
    ·simpa using hu
    ·cases hu
   have hr:=run_append_grow (P:=P) w t ty T i z ht hi hz ⟨b,0,none⟩ n cap xs dv.1 holds ⟨ab,aoff,none⟩ m c news hl uG om om (growslice_fits om xJ)
   have kS:=grown cap om
   exact⟨_,_,_,hr,kS.1,.inr ⟨rfl,kS.2⟩⟩
end
def qy (G:List Nat) (w:World) (T:TypeId) (g:Option Nat):Prop:=∀x,x∈g.toList->x∈G∨aJ w x #[] T
theorem qy.ext {T:TypeId} (h:qy G w T g) (k:aj [] w w'):qy G w' T g:=λx hx=>(h x hx).imp id λh=>h.ext k
theorem qy.sub {T:TypeId} (h:∀x,x∈g.toList->x∈G):qy G w T g:=λx hx=>.inl (h x hx)
section
variable {P:Program} {n:Nat} {ops:Array Oper} {K:Env->World->Prop} {rest:List Oper} {e:Env} {w:World} {dst:Option Nat} {ty:TypeId} {pos:String} {after:Array Edge} {g:Option (Nat×Bool)} {x y:Operand}
theorem Ev {G L:List Nat} {v u:Value} {gb:Option Nat} {xs ys:List ai} (hT:P.underlying t=some (.slice E)) (hE:TI P E 1 bytes z) (hg:gate ops e g=true) (hd:bV n dst=true) (hz:Nat.beq z.cells.size 1=true) (fK:Nat.ble bytes 1000=true) 
  (hx:ev e x=v) (hy:ev e y=u) (hO:cG w E v gb xs) (hu:bc L w u ys) (hG:eO G w) (ba:qy G w E gb) (hn:xs.length+ys.length<100000000)
  (k:∀v' g' w' G',cG w' E v' g' (xs++ys)->qy G' w' E g'->(∀x,x∈g'.toList->x∈gb.toList∨w.heap.size<=x)->(∀x,x∈G->x∈G')->Fr G w G' w'->eO G' w'->aj gb.toList w w'->OW P n ops K rest (bM e dst v') w'):
  OW P n ops K (⟨dst,.call {callee:=.builtin .append,args:=#[x,y],argTypes:=#[t,t]},ty,pos,after,g⟩::rest) e w:=by
 obtain⟨i,hi,uO,fC,MN⟩:=hE.get
 have zH:bytes<=1000:=Nat.le_of_ble_eq_true fK
 obtain⟨a2,n2,c2,rfl,eU⟩:=dJ hu
 subst eU
 by_cases hp:0<ys.length
 ·obtain⟨ab,aoff,vs,rfl,IL,aoj,hc,I6,_,gZ⟩:=S0 hu (by rw[qb];exact hp)
  have aW:=MO I6
  subst aW
  obtain⟨v',g',w',jM,xP,afy⟩:=afw (P:=P) (ty:=ty) hT hi uO fC MN (Nat.eq_of_beq_eq_true hz) hO ab aoff ys.length c2 (ys.map λx=>str x) sm hc (by intro u hu;obtain⟨s,_,rfl⟩:=List.mem_map.1 hu;rfl) hp (by rw[fC];decide) (by simp only[maxLen];omega)
   (Nat.le_trans (Nat.mul_le_mul (show xs.length+ys.length<=100000000 by omega) zH) de)
  have Nl:cG w' E v' g' (xs++ys):=by
   unfold cG
   rw[lA,List.map_append]
   exact xP
  refine eQ hg hd (v:=v') (w':=w') (by
   simp only[execOp,resolve,invoke,builtin,Sem.run_bind,Sem.run_pure,Result.andThen_ok,List.map_toArray,List.map_cons,List.map_nil,hx,hy,jM]) ?_
  rcases afy with⟨rfl,hk,GK⟩|⟨rfl,hk⟩
  ·have tX:∀q,q∈g'.toList->q∈G:=λq hq=>by
    rcases ba q hq with h|h
    ·exact h
    ·obtain⟨cur,U,hb,hs⟩:=GK q (by simpa using hq)
     unfold aJ at h hb
     rw[h] at hb
     cases hb
     simp at hs
   exact k v' g' w' G Nl (qy.sub tX) (λq hq=>.inl hq) (λq hq=>hq) (Fr.of hk tX) (λq hq=>lL (hG q hq) hk.size) hk
  ·have dU:w.heap.size<w'.heap.size:=Nl.lt _ sm
   refine k v' _ w' (w.heap.size::G) Nl (qy.sub sm) (λq hq=>.inr (by simp at hq;omega)) (λq hq=>mK _ hq) ⟨hk.any,λq hq=>?_⟩ (λq hq=>?_) hk.any
   ·rcases mC.1 hq with h|h
    ·right;omega
    ·exact .inl h
   ·rcases mC.1 hq with h|h
    ·omega
    ·exact lL (hG q h) hk.size
 ·have nz:ys=[]:=List.length_eq_zero_iff.1 om
  subst nz
  obtain⟨a,cap,rfl⟩:=jR hO
  have zq:xs.length<=cap:=by
   rcases hO.2 with⟨h,h2,_⟩|⟨_,_,_,_,h,_,h2,_⟩
   ·rw[h2];omega
   ·cases h;exact h2
  have jM:=S1 (P:=P) (w:=w) (t:=t) (ty:=ty) hT hi (a:=a) (m:=xs.length) (cap:=cap) zq (a2:=a2) (c2:=c2)
  refine eQ hg hd (v:=.slice a xs.length cap) (w':=w) (by
   simp only[execOp,resolve,invoke,builtin,Sem.run_bind,Sem.run_pure,Result.andThen_ok,List.map_toArray,List.map_cons,List.map_nil,hx,hy]
   have e2:([]:List ai).length=0:=rfl
   rw[e2]
   simp only[jM,Sem.run_bind,Sem.run_pure,Result.andThen_ok]) ?_
  exact k _ gb w G (by rw[List.append_nil];exact hO) ba (λq hq=>.inl hq) (λq hq=>hq) (Fr.refl _ _) hG (aj.refl _ _)
theorem afz {T:Nat} (hT:P.underlying T=some (.slice E)) (hE:TI P E sz bytes z) (hg:gate ops e g=true) (hd:bV n dst=true) 
  (k:∀w',aj [] w w'->aJ w' w.heap.size #[] E->w'.heap.size=w.heap.size+1->OW P n ops K rest (bM e dst (.slice (some ⟨w.heap.size,0,none⟩) 0 0)) w'):
  OW P n ops K (⟨dst,.buildSlice T 0 #[],ty,pos,after,g⟩::rest) e w:=
 eQ hg hd (w':=w.alloc (.cells #[] E)) (by simp[execOp,QE (P:=P) (w:=w) hT hE]) (k _ (aj.alloc _ _ _) (aJ.alloc _ _ _) sm)
theorem fQ {T:Nat} (hT:P.underlying T=some (.slice E)) (hE:TI P E sz bytes z) (k:∀w',aj [] w w'->aJ w' w.heap.size #[] E->w'.heap.size=w.heap.size+1->OW P n ops K rest (bM e dst (.slice (some ⟨w.heap.size,0,none⟩) 0 0)) w') (hg:gate ops e g=true:=by rfl) (hd:bV n dst=true:=by rfl):OW P n ops K (⟨dst,.buildSlice T 0 #[],ty,pos,after,g⟩::rest) e w:=afz hT hE hg hd k
end
def LP (N:Nat) (G G0:List Nat) (w:World) (T:TypeId) (v:Value) (xs:List ai):Prop:=∃g,cG w T v g xs∧qy G w T g∧∀x,x∈g.toList->x∉G0∧N<=x
theorem LP.ext {T:TypeId} (h:LP N G G0 w T v xs) (k:aj [] w w'):LP N G G0 w' T v xs:=let⟨g,h1,h2,h3⟩:=h;⟨g,h1.ext k,h2.ext k,h3⟩
structure Out (N:Nat) (G0:List Nat) (w w':World):Prop where
 ex:∃H,aj H w w'∧∀x,x∈H->x∉G0∧N<=x
theorem Out.gX (h:Out N G0 w w') {b:Nat} {cs:Array Value} {T:TypeId} (hb:aJ w b cs T) (hG:b∈G0):aJ w' b cs T:=let⟨_,k,hH⟩:=h.ex;hb.aF k λhx=>(hH b hx).1 hG
theorem Out.since {w0:World} (h:Out w0.heap.size G0 w w') (k:aj L w0 w):aj L w0 w':=let⟨_,kk,hH⟩:=h.ex;k.since kk λx hx=>.inr (hH x hx).2
section
variable {P:Program} {n:Nat} {ops:Array Oper} {K:Env->World->Prop} {rest:List Oper} {e:Env} {w:World} {dst:Option Nat} {ty:TypeId} {pos:String} {after:Array Edge} {g:Option (Nat×Bool)} {x y:Operand}
theorem GL {N:Nat} {G0:List Nat} {bb:Nat} {u:Value} {ys:List ai} (hT:P.underlying t=some (.slice E)) (hE:TI P E 1 bytes z) (hg:gate ops e g=true) (hd:bV n dst=true) (hz:Nat.beq z.cells.size 1=true) (fK:Nat.ble bytes 1000=true) 
  (hx:ev e x= .slice (some ⟨bb,0,none⟩) 0 0) (hy:ev e y=u) (hb:dM G0 w bb #[] E) (Un:N<=bb) (hu:bc G0 w u ys) (hG:eO G0 w) (hn:ys.length<100000000)
  (k:∀v' w' G',(∀q,q∈G0->q∈G')->LP N G' G0 w' E v' ys->Fr G0 w G' w'->eO G' w'->Out N G0 w w'->OW P n ops K rest (bM e dst v') w'):
  OW P n ops K (⟨dst,.call {callee:=.builtin .append,args:=#[x,y],argTypes:=#[t,t]},ty,pos,after,g⟩::rest) e w:=by
 refine Ev hT hE hg hd hz fK hx hy hb.gX.kK hu hG (λq hq=>.inr (by simp at hq;subst hq;exact hb.gX)) (by simpa using hn) ?_
 intro v' g' w' G' hO hZ hs jU bC hl hk
 refine k v' w' G' jU ⟨g',hO,hZ,λq hq=>⟨λUo=>?_,?_⟩⟩ bC hl ⟨_,hk,λq hq=>?_⟩
 ·rcases hs q hq with h|h
  ·simp at h;subst h;exact hb.out Uo
  ·have:=hG q Uo;omega
 ·rcases hs q hq with h|h
  ·simp at h;subst h;exact Un
  ·have:=hb.gX.lt;omega
 ·simp at hq;subst hq;exact⟨hb.out,Un⟩
theorem Jx {N:Nat} {G G0:List Nat} {v u:Value} {xs ys:List ai} (hT:P.underlying t=some (.slice E)) (hE:TI P E 1 bytes z) (hg:gate ops e g=true) (hd:bV n dst=true) (hz:Nat.beq z.cells.size 1=true) (fK:Nat.ble bytes 1000=true) 
  (hx:ev e x=v) (hy:ev e y=u) (hO:LP N G G0 w E v xs) (hu:bc G w u ys) (hG:eO G w) (jU:∀q,q∈G0->q∈G) (hn:xs.length+ys.length<100000000)
  (k:∀v' w',bc G0 w' v' (xs++ys)->Fr G w G0 w'->eO G0 w'->Out N G0 w w'->OW P n ops K rest (bM e dst v') w'):
  OW P n ops K (⟨dst,.call {callee:=.builtin .append,args:=#[x,y],argTypes:=#[t,t]},ty,pos,after,g⟩::rest) e w:=by
 obtain⟨gb,h1,h2,h3⟩:=hO
 refine Ev hT hE hg hd hz fK hx hy h1 hu hG h2 hn ?_
 intro v' g' w' G' hO hZ hs Up bC hl hk
 refine k v' w' (hO.rep λb hb jn=>?_) (bC.to λq hq=>.inl (Up q (jU q hq))) (λq hq=>hl q (Up q (jU q hq))) ⟨_,hk,λq hq=>h3 q hq⟩
 rcases hs b (by simp[hb]) with h|h
 ·exact(h3 b h).1 jn
 ·have:=hG b (jU b jn);omega
end
theorem dH.out {T:TypeId} (h:dH G w T sz v g rows) (k:Fr G w G' w') (ho:Out N G0 w w') (hg:∀x,x∈g.toList->x∈G0):dH G' w' T sz v g rows:=
 let⟨_,kk,hH⟩:=ho.ex;h.aF k kk λx hx fj=>(hH x fj).1 (hg x hx)
section
variable {P:Program} {n:Nat} {ops:Array Oper} {K:Env->World->Prop} {rest:List Oper} {e:Env} {w:World} {pos:String} {ty:TypeId} {after:Array Edge} {g:Option (Nat×Bool)} {x y:Operand}
theorem sQ {G:List Nat} {T:Nat} {v:Value} {vs:List Value} {row:List C} {E gb:Nat} {N c:Nat} {rows:List (List C)} {b o i:Nat} (jN:TI P T sz bytes z) (hg:gate ops e g=true) 
  (hx:ev e x= .pointer (some ⟨b,o,none⟩)) (hy:ev e y=v) (hv:v.cells=vs.toArray) (ho:o=i*sz) (hO:dH G w E sz (.slice (some ⟨b,0,none⟩) N c) (some gb) rows) (hG:eO G w) (oa:gb∈G) (hi:i<rows.length) (h1:vs.all Value.oneCell'=true)
  (nZ:row.length=sz) (hr:cS G w vs row)
  (k:∀w',aj [gb] w w'->w'.heap.size=w.heap.size->dH G w' E sz (.slice (some ⟨b,0,none⟩) N c) (some gb) (rows.set i row)->OW P n ops K rest e w'):
  OW P n ops K (⟨none,.store T x y,ty,pos,after,g⟩::rest) e w:=by
 obtain⟨⟨xs,dv,gB⟩,gZ⟩:=hO
 have rI:∀q,q∈gb::G.filter (λq=>decide (q≠gb))->q∈G∨w.heap.size<=q:=λq hq=>by
  rcases mC.1 hq with h|h
  ·exact .inl (h▸oa)
  ·exact .inl (List.mem_filter.1 h).1
 have hGr:Gr 0 (G.filter λq=>decide (q≠gb)) w E sz (.slice (some ⟨b,0,none⟩) N c) (some gb) rows:=
  ⟨⟨xs,dv,gB.fresh rI,gZ,λq hq nY=>by cases hq;simpa using(List.mem_filter.1 nY).2⟩,λ_ _=>Nat.zero_le _,λq hq=>hG q (List.mem_filter.1 hq).1,Nat.zero_le _⟩
 refine aeh jN hg hx hy hv ho hGr hi h1 nZ (hr.fresh rI) ?_
 intro w' hk hz iT
 obtain⟨xs',h'⟩:=iT.own
 refine k w' hk hz ⟨⟨xs',h'.own,h'.rep.fresh λq hq=>?_⟩,h'.row⟩
 by_cases Uq:q=gb
 ·exact .inl (by simp[Uq])
 ·exact .inl (by simp[Uq,hq])
end
theorem afB {t:aq} (h:DY s t):(((bA s).isSome&&dx t)&&decide ((fh t:Int)<=120))=l5 s:=by
 unfold l5 Jt
 cases hp:bA s with
 |none=>rfl
 |some u=>rw[h.1 u hp];exact congrArg (λb=>dx u&&b) (decide_eq_decide.2 om)
theorem GM (s:ai) (L:List Nat) (w:World) (hL:∀x,x∈L->x<w.heap.size):
  bz Tryz.prog 128 [str s] w λv w'=>(∃t tv,v= .tuple #[tv,.bool (l5 s)]∧bB L w' tv t∧DY s t)∧aj [] w w':=by
 have hK:=aj.refl [] w
 refine kW [.cell 2 74,.tmp 3] 22 Tryz.func128 rfl aaR rfl rfl rfl ?_
 refine zr<|dy aL rfl rfl rfl λw1 aI aU dk=>?_
 have hK:=hK.grow;have hK:=hK.ext aI
 refine W ?_
 refine aA (Jd s (w.heap.size::L) w1 (by intro x hx;rcases mC.1 hx with rfl|hx;omega;have:=hL x hx;omega)) ?_
 rintro v2 w2 ⟨ij,az⟩
 have dm:=az.size
 refine bI az hK aU λhK aU=>?_
 obtain⟨t,tv,rfl,ht,hp⟩:=ij
 obtain⟨pa,pn,pc,rfl,eP,aP⟩:=cU ht
 subst eP
 have cm:∀h:(bA s).isSome=true,WF t∧t.size<=12001:=λh=>DS hp.1 h
 refine W ?_
 refine dy aL rfl rfl rfl λw3 aH aG gJ=>?_
 have hK:=hK.grow;have hK:=hK.ext aH;have aU:=aU.grow;have aU:=aU.ext aH;have ht:=ht.grow;have ht:=ht.ext aH
 refine cJ aL rfl rfl rfl aG rfl λw4 aO aG gQ=>?_
 have hK:=hK.aD aO sx;have aU:=aU.aD aO sx;have ht:=ht.aD aO sx
 refine W ?_
 refine zB dj (cj w.heap.size ([str t.aw,.slice pa t.ak.length pc]) 74) 13 (rA 11 11++[100011,3]) (rA 11 11++[100011,3]) [[],[],[1],[2],[2,3],[2,4],[5],[6],[6,7],[6,8],[6,9],[0],[10]] [λv _=>v=(.agg #[str t.aw,.slice pa t.ak.length pc]),λv _=>v=(.bool ((bA s).isSome)),λv _=>v=(.bool ((bA s).isSome)),λv _=>((bA s).isSome)=true->v=(.agg #[str t.aw,.slice pa t.ak.length pc]),λv _=>((bA s).isSome)=true->v=(.bool (dx t)),λv _=>v=(.bool ((bA s).isSome&&dx t)),λv _=>v=(.bool ((bA s).isSome&&dx t)),λv _=>((bA s).isSome&&dx t)=true->v=(.agg #[str t.aw,.slice pa t.ak.length pc]),λv _=>((bA s).isSome&&dx t)=true->v=(.int .i64 (fh t:Int)),λv _=>((bA s).isSome&&dx t)=true->v=(.bool (decide ((fh t:Int)<=120))),λv _=>v=(.bool (((bA s).isSome&&dx t)&&decide ((fh t:Int)<=120))),λ_ ww=>aJ ww w.heap.size ([str t.aw,.slice pa t.ak.length pc]).toArray 74,λv _=>v=(.bool (((bA s).isSome&&dx t)&&decide ((fh t:Int)<=120)))] de (fu (fu (fu (BG (BG (fu (fu (BG (BG (BG (fu (DH (fu trivial))))))))))))) (λwd aC=>?_) ?_
 refine eh ?_ ?_
 intro x vs w5 e aN hd he
 replace aN:=(cj w.heap.size ([str t.aw,.slice pa t.ak.length pc]) 74).trans aC aN
 have aG:=aG.aD aN.1 sx
 replace he:e=bo (bj _ x _) []:=he
 subst he
 refine W ?_
 exact dn ((cj w.heap.size ([str t.aw,.slice pa t.ak.length pc]) 74).refl _) rfl
 refine eh ?_ ?_
 intro x vs w5 e aN hd he
 replace aN:=(cj w.heap.size ([str t.aw,.slice pa t.ak.length pc]) 74).trans aC aN
 replace he:e=bo (bj _ x _) []:=he
 subst he
 refine W ?_
 exact dn ((cj w.heap.size ([str t.aw,.slice pa t.ak.length pc]) 74).refl _) rfl
 refine eh ?_ ?_
 intro x vs w5 e aN hd he
 have d1:vs 1=(.bool ((bA s).isSome)):=hd
 replace aN:=(cj w.heap.size ([str t.aw,.slice pa t.ak.length pc]) 74).trans aC aN
 replace he:e=bo (bj _ x _) [(12,vs 1)]:=he
 rw[d1] at he
 subst he
 refine W ?_
 exact dn ((cj w.heap.size ([str t.aw,.slice pa t.ak.length pc]) 74).refl _) rfl
 refine eh ?_ ?_
 intro x vs w5 e aN hd he
 have d2:vs 2=(.bool ((bA s).isSome)):=hd
 replace aN:=(cj w.heap.size ([str t.aw,.slice pa t.ak.length pc]) 74).trans aC aN
 have aG:=aG.aD aN.1 sx
 rcases bE ((bA s).isSome) with hg|hg
 rw[hg] at d2
 replace he:e=bo (bj _ x _) [(13,vs 2)]:=he
 rw[d2] at he
 subst he
 refine W ?_
 exact dn ((cj w.heap.size ([str t.aw,.slice pa t.ak.length pc]) 74).refl _) (show((bA s).isSome)=true->_=((.agg #[str t.aw,.slice pa t.ak.length pc]):Value) from λ_=>rfl)
 rw[hg] at d2
 replace he:e=bo (bj _ x _) [(13,vs 2)]:=he
 rw[d2] at he
 subst he
 refine W ?_
 exact dn ((cj w.heap.size ([str t.aw,.slice pa t.ak.length pc]) 74).refl _) (show((bA s).isSome)=true->_=(_:Value) from λhh=>nomatch hg.symm.trans hh)
 refine eh ?_ ?_
 intro x vs w5 e aN hd he
 have aQ:(vs 2=(.bool ((bA s).isSome)))∧(((bA s).isSome)=true->vs 3=(.agg #[str t.aw,.slice pa t.ak.length pc])):=hd
 obtain⟨d2,d3⟩:=aQ
 replace aN:=(cj w.heap.size ([str t.aw,.slice pa t.ak.length pc]) 74).trans aC aN
 have ht:=ht.aD aN.1 sx
 rcases bE ((bA s).isSome) with hg|hg
 rw[hg] at d2
 replace d3:=d3 hg
 replace he:e=bo (bj _ x _) [(13,vs 2),(14,vs 3)]:=he
 rw[d2,d3] at he
 subst he
 refine aA (afs t.size t (lR _) (by have:=(cm hg).2;omega) (cm hg).1 _ _ w5 ht) ?_
 rintro _ w6 ⟨rfl,bN⟩
 have oo:=bN.size
 refine W ?_
 exact dn ((cj w.heap.size ([str t.aw,.slice pa t.ak.length pc]) 74).of bN) (show((bA s).isSome)=true->_=((.bool (dx t)):Value) from λ_=>rfl)
 rw[hg] at d2
 replace he:e=bo (bj _ x _) [(13,vs 2),(14,vs 3)]:=he
 rw[d2] at he
 subst he
 refine W ?_
 exact dn ((cj w.heap.size ([str t.aw,.slice pa t.ak.length pc]) 74).refl _) (show((bA s).isSome)=true->_=(_:Value) from λhh=>nomatch hg.symm.trans hh)
 refine eh ?_ ?_
 intro x vs w5 e aN hd he
 have aQ:(vs 2=(.bool ((bA s).isSome)))∧(((bA s).isSome)=true->vs 4=(.bool (dx t))):=hd
 obtain⟨d2,d4⟩:=aQ
 replace aN:=(cj w.heap.size ([str t.aw,.slice pa t.ak.length pc]) 74).trans aC aN
 rcases bE ((bA s).isSome) with hg|hg
 rw[hg] at d2
 replace d4:=d4 hg
 replace he:e=bo (bj _ x _) [(13,vs 2),(15,vs 4)]:=he
 rw[d2,d4] at he
 subst he
 refine W ?_
 exact dn ((cj w.heap.size ([str t.aw,.slice pa t.ak.length pc]) 74).refl _) (by first|rfl|(rw[hg];rfl))
 rw[hg] at d2
 replace he:e=bo (bj _ x _) [(13,vs 2),(15,vs 4)]:=he
 rw[d2] at he
 subst he
 refine W ?_
 exact dn ((cj w.heap.size ([str t.aw,.slice pa t.ak.length pc]) 74).refl _) (by first|rfl|(rw[hg];rfl))
 refine eh ?_ ?_
 intro x vs w5 e aN hd he
 have d5:vs 5=(.bool ((bA s).isSome&&dx t)):=hd
 replace aN:=(cj w.heap.size ([str t.aw,.slice pa t.ak.length pc]) 74).trans aC aN
 replace he:e=bo (bj _ x _) [(16,vs 5)]:=he
 rw[d5] at he
 subst he
 refine W ?_
 exact dn ((cj w.heap.size ([str t.aw,.slice pa t.ak.length pc]) 74).refl _) rfl
 refine eh ?_ ?_
 intro x vs w5 e aN hd he
 have d6:vs 6=(.bool ((bA s).isSome&&dx t)):=hd
 replace aN:=(cj w.heap.size ([str t.aw,.slice pa t.ak.length pc]) 74).trans aC aN
 have aG:=aG.aD aN.1 sx
 rcases bE ((bA s).isSome&&dx t) with hg|hg
 rw[hg] at d6
 replace he:e=bo (bj _ x _) [(17,vs 6)]:=he
 rw[d6] at he
 subst he
 refine W ?_
 exact dn ((cj w.heap.size ([str t.aw,.slice pa t.ak.length pc]) 74).refl _) (show((bA s).isSome&&dx t)=true->_=((.agg #[str t.aw,.slice pa t.ak.length pc]):Value) from λ_=>rfl)
 rw[hg] at d6
 replace he:e=bo (bj _ x _) [(17,vs 6)]:=he
 rw[d6] at he
 subst he
 refine W ?_
 exact dn ((cj w.heap.size ([str t.aw,.slice pa t.ak.length pc]) 74).refl _) (show((bA s).isSome&&dx t)=true->_=(_:Value) from λhh=>nomatch hg.symm.trans hh)
 refine eh ?_ ?_
 intro x vs w5 e aN hd he
 have aQ:(vs 6=(.bool ((bA s).isSome&&dx t)))∧(((bA s).isSome&&dx t)=true->vs 7=(.agg #[str t.aw,.slice pa t.ak.length pc])):=hd
 obtain⟨d6,d7⟩:=aQ
 replace aN:=(cj w.heap.size ([str t.aw,.slice pa t.ak.length pc]) 74).trans aC aN
 have ht:=ht.aD aN.1 sx
 rcases bE ((bA s).isSome&&dx t) with hg|hg
 rw[hg] at d6
 replace d7:=d7 hg
 replace he:e=bo (bj _ x _) [(17,vs 6),(18,vs 7)]:=he
 rw[d6,d7] at he
 subst he
 refine aA (Ud t.size t (lR _) (by have:=(cm ((aE _ _).mp hg).1).2;omega) (cm ((aE _ _).mp hg).1).1 _ _ w5 ht) ?_
 rintro _ w6 ⟨rfl,bN⟩
 have oo:=bN.size
 refine W ?_
 exact dn ((cj w.heap.size ([str t.aw,.slice pa t.ak.length pc]) 74).of bN) (show((bA s).isSome&&dx t)=true->_=((.int .i64 (fh t:Int)):Value) from λ_=>rfl)
 rw[hg] at d6
 replace he:e=bo (bj _ x _) [(17,vs 6),(18,vs 7)]:=he
 rw[d6] at he
 subst he
 refine W ?_
 exact dn ((cj w.heap.size ([str t.aw,.slice pa t.ak.length pc]) 74).refl _) (show((bA s).isSome&&dx t)=true->_=(_:Value) from λhh=>nomatch hg.symm.trans hh)
 refine eh ?_ ?_
 intro x vs w5 e aN hd he
 have aQ:(vs 6=(.bool ((bA s).isSome&&dx t)))∧(((bA s).isSome&&dx t)=true->vs 8=(.int .i64 (fh t:Int))):=hd
 obtain⟨d6,d8⟩:=aQ
 replace aN:=(cj w.heap.size ([str t.aw,.slice pa t.ak.length pc]) 74).trans aC aN
 rcases bE ((bA s).isSome&&dx t) with hg|hg
 rw[hg] at d6
 replace d8:=d8 hg
 replace he:e=bo (bj _ x _) [(17,vs 6),(19,vs 8)]:=he
 rw[d6,d8] at he
 subst he
 refine W ?_
 exact dn ((cj w.heap.size ([str t.aw,.slice pa t.ak.length pc]) 74).refl _) (show((bA s).isSome&&dx t)=true->_=((.bool (decide ((fh t:Int)<=120))):Value) from λ_=>rfl)
 rw[hg] at d6
 replace he:e=bo (bj _ x _) [(17,vs 6),(19,vs 8)]:=he
 rw[d6] at he
 subst he
 refine W ?_
 exact dn ((cj w.heap.size ([str t.aw,.slice pa t.ak.length pc]) 74).refl _) (show((bA s).isSome&&dx t)=true->_=(_:Value) from λhh=>nomatch hg.symm.trans hh)
 refine eh ?_ ?_
 intro x vs w5 e aN hd he
 have aQ:(vs 6=(.bool ((bA s).isSome&&dx t)))∧(((bA s).isSome&&dx t)=true->vs 9=(.bool (decide ((fh t:Int)<=120)))):=hd
 obtain⟨d6,d9⟩:=aQ
 replace aN:=(cj w.heap.size ([str t.aw,.slice pa t.ak.length pc]) 74).trans aC aN
 rcases bE ((bA s).isSome&&dx t) with hg|hg
 rw[hg] at d6
 replace d9:=d9 hg
 replace he:e=bo (bj _ x _) [(17,vs 6),(20,vs 9)]:=he
 rw[d6,d9] at he
 subst he
 refine W ?_
 exact dn ((cj w.heap.size ([str t.aw,.slice pa t.ak.length pc]) 74).refl _) (by first|rfl|(rw[hg];rfl))
 rw[hg] at d6
 replace he:e=bo (bj _ x _) [(17,vs 6),(20,vs 9)]:=he
 rw[d6] at he
 subst he
 refine W ?_
 exact dn ((cj w.heap.size ([str t.aw,.slice pa t.ak.length pc]) 74).refl _) (by first|rfl|(rw[hg];rfl))
 refine eh ?_ ?_
 intro x vs w5 e aN hd he
 have d0:vs 0=(.agg #[str t.aw,.slice pa t.ak.length pc]):=hd
 replace aN:=(cj w.heap.size ([str t.aw,.slice pa t.ak.length pc]) 74).trans aC aN
 obtain⟨us,vz,vA⟩:=aN.2.2 ⟨_,(by rfl),aU⟩
 replace he:e=bo (bj _ x _) [(11,vs 0)]:=he
 rw[d0] at he
 subst he
 refine cJ aL rfl rfl rfl vA (by rw[vz];rfl) λw6 bN hb kI=>W ?_
 exact dn ⟨bN,λ_=>hb,λ_=>⟨_,rfl,hb⟩⟩ hb
 refine eh ?_ ?_
 intro x vs w5 e aN hd he
 have d10:vs 10=(.bool (((bA s).isSome&&dx t)&&decide ((fh t:Int)<=120))):=hd
 replace aN:=(cj w.heap.size ([str t.aw,.slice pa t.ak.length pc]) 74).trans aC aN
 replace he:e=bo (bj _ x _) [(21,vs 10)]:=he
 rw[d10] at he
 subst he
 refine W ?_
 exact dn ((cj w.heap.size ([str t.aw,.slice pa t.ak.length pc]) 74).refl _) rfl
 exact trivial
 intro x vs o6 iX dP
 have d0:vs 0=(.agg #[str t.aw,.slice pa t.ak.length pc]):=dP 0 de
 have d1:vs 1=(.bool ((bA s).isSome)):=dP 1 de
 have d2:vs 2=(.bool ((bA s).isSome)):=dP 2 de
 have d3:((bA s).isSome)=true->vs 3=(.agg #[str t.aw,.slice pa t.ak.length pc]):=dP 3 de
 have d4:((bA s).isSome)=true->vs 4=(.bool (dx t)):=dP 4 de
 have d5:vs 5=(.bool ((bA s).isSome&&dx t)):=dP 5 de
 have d6:vs 6=(.bool ((bA s).isSome&&dx t)):=dP 6 de
 have d7:((bA s).isSome&&dx t)=true->vs 7=(.agg #[str t.aw,.slice pa t.ak.length pc]):=dP 7 de
 have d8:((bA s).isSome&&dx t)=true->vs 8=(.int .i64 (fh t:Int)):=dP 8 de
 have d9:((bA s).isSome&&dx t)=true->vs 9=(.bool (decide ((fh t:Int)<=120))):=dP 9 de
 have d10:vs 10=(.bool (((bA s).isSome&&dx t)&&decide ((fh t:Int)<=120))):=dP 10 de
 have d11:aJ o6 w.heap.size ([str t.aw,.slice pa t.ak.length pc]).toArray 74:=dP 11 de
 have d12:vs 12=(.bool (((bA s).isSome&&dx t)&&decide ((fh t:Int)<=120))):=dP 12 de
 have hK:=hK.aD iX.1 sx;have ht:=ht.aD iX.1 sx
 have aU:=d11
 change OW _ _ _ _ [] (bo (bj _ x _) (zZ 11 [vs 0,vs 1,vs 2,vs 3,vs 4,vs 5,vs 6,vs 7,vs 8,vs 9,vs 10]++[(100011,vs 11),(3,vs 12)])) _
 rw[d0,d1,d2,d5,d6,d10,d12]
 refine W ?_
 exact⟨[_,_],⟨ga eV aL rfl aU rfl,rfl⟩,⟨t,_,by rw[afB hp];rfl,ht.gP (λx hx=>by simp[hx]),hp⟩,hK⟩
theorem Nn (s:ai) (w:World):bz Tryz.prog 133 [str s] w λr w'=>r= .bool (l5 s)∧aj [] w w':=by
 have hK:=aj.refl [] w
 refine bS [.tmp 2] 11 Tryz.func133 rfl aaV rfl rfl ?_
 refine W ?_
 refine aA (GM s [] w sm) ?_
 rintro v1 w1 ⟨fY,aI⟩
 have cV:=aI.size
 have hK:=hK.ext aI
 obtain⟨t,tv,rfl,ht,hp⟩:=fY
 obtain⟨pa,pn,pc,rfl,eP,aP⟩:=cU ht
 refine W ?_
 refine dy aL rfl rfl rfl λw2 az cQ dC=>?_
 have hK:=hK.grow;have hK:=hK.ext az
 refine cJ aL rfl rfl rfl cQ rfl λw3 aH cQ gJ=>?_
 have hK:=hK.aD aH sx
 refine W ?_
 exact⟨_,rfl,rfl,hK⟩
def nK (xs ys:List ai) (s d:ai):Nat->ai
 |0=>d
 |k+1=>if bX xs k=s then bX ys k else nK xs ys s d k
theorem Ur {xs' ys':List ai} {d:ai}:∀{k:Nat},(∀i,i<k->bX xs i=bX xs' i∧bX ys i=bX ys' i)->nK xs ys s d k=nK xs' ys' s d k
 |0,_=>rfl
 |k+1,h=>by
  unfold nK
  rw[(h k om).1,(h k om).2,Ur λi hi=>h i om]
theorem Us (h:i<xs.length):bX (xs++ys) i=bX xs i:=by
 simp only[bX,gG]
 rw[List.getElem?_append_left h]
theorem Ut {x:ai} (h:i=xs.length):bX (xs++[x]) i=x:=by
 subst h;simp[bX]
theorem Uu {xs:List ai} {x y d:ai} (h:xs.length=ys.length):nK (xs++[x]) (ys++[y]) s d (xs++[x]).length=if x=s then y else nK xs ys s d xs.length:=by
 rw[lA,List.length_singleton,nK,Ut rfl,Ut h,Ur (xs':=xs) (ys':=ys)]
 intro i hi
 exact⟨Us hi,Us om⟩
theorem Uv {α:Type} {Q:List α->Prop} (h0:Q []) (h1:∀l a,Q l->Q (l++[a])) (l:List α):Q l:=by
 have:∀r:List α,Q r.reverse:=by
  intro r
  induction r with
  |nil=>exact h0
  |cons a r ih=>rw[List.reverse_cons];exact h1 _ _ ih
 have:=this l.reverse
 rwa [List.reverse_reverse] at this
def Uw:Option Ty->ai
 |some T=>T.text
 |none=>[]
theorem Ux (s:ai):∀Γ:Sc,nK (Γ.map Prod.fst) (Γ.map λp=>p.2.text) s [] Γ.length=Uw (look Γ s):=by
 refine Uv rfl λΓ p ih=>?_
 ·obtain⟨x,T⟩:=p
  have:=Uu (xs:=Γ.map Prod.fst) (ys:=Γ.map λp=>p.2.text) (x:=x) (y:=T.text) (s:=s) (d:=[]) sm
  rw[oL,List.map_append,List.map_append,lA]
  simp only[List.map_cons,List.map_nil,lA,List.length_map,List.length_singleton] at this⊢
  rw[this,ih]
  split<;>rfl
theorem afC (s:ai):∀ρ:Rn,nK (ρ.map Prod.fst) (ρ.map Prod.snd) s s ρ.length=qj ρ s:=by
 refine Uv rfl λρ p ih=>?_
 ·obtain⟨x,y⟩:=p
  have:=Uu (xs:=ρ.map Prod.fst) (ys:=ρ.map Prod.snd) (x:=x) (y:=y) (s:=s) (d:=s) sm
  rw[Mi,List.map_append,List.map_append,lA]
  simp only[List.map_cons,List.map_nil,lA,List.length_map,List.length_singleton] at this⊢
  rw[this,ih]
theorem GN (xs ys:List ai) (hl:xs.length=ys.length) (hx:xs.length<=1000000000) (s:ai) (v u:Value) (L L2:List Nat) (w:World) (hv:bc L w v xs) (hu:bc L2 w u ys):
  bz Tryz.prog 196 [v,u,str s] w λr w'=>r=str (nK xs ys s [] xs.length)∧aj [] w w':=by
 obtain⟨a,n,c,rfl,hn⟩:=dJ hv
 obtain⟨a2,n2,c2,rfl,eU⟩:=dJ hu
 subst hn eU
 have hK:=aj.refl [] w
 refine bS [.tmp 6] 25 Tryz.func196 rfl abL rfl rfl ?_
 refine W ?_
 refine eA (λk:Nat=>[(0,.slice a xs.length c),(1,.slice a2 ys.length c2),(2,str s),(7,.int .i64 ((k:Int)-1))]) (λk w'=>w'=w∧k<=xs.length∧nK xs ys s [] xs.length=nK xs ys s [] k) (λk=>k) xs.length (⟨rfl,rfl,rfl,rfl⟩) (⟨rfl,lR _,rfl⟩) λgg w1 e1 hI=>?_
 obtain⟨e,hk,hq⟩:=hI
 subst e
 refine W ?_
 refine zc rfl (λh1=>?_) (λh1=>?_)
 have aQ:∃k,gg=k+1:=⟨gg-1,om⟩
 obtain⟨k,rfl⟩:=aQ
 have vB:=km (xs:=xs) (i:=k) om
 have No:=km (xs:=ys) (i:=k) om
 obtain⟨b1,eX,rfl,bK⟩:=pB hv vB
 obtain⟨b2,lG,rfl,bU⟩:=pB hu No
 have hi:((k+1:Nat):Int)-1=(k:Int):=by omega
 rw[hi]
 refine W ?_
 refine zc rfl (λh2=>?_) (λh2=>?_)
 refine W ?_
 exact⟨_,rfl,by rw[hq,nK,iP h2];rfl,hK⟩
 have dL:=h2
 refine W ?_
 exact⟨k,⟨rfl,rfl,rfl,rfl⟩,⟨rfl,om,by rw[hq,nK,iN dL]⟩,om⟩
 have h0:gg=0:=by omega
 refine W ?_
 exact⟨_,rfl,by rw[hq,h0];rfl,hK⟩
theorem afD (xs ys:List ai) (hl:xs.length=ys.length) (hx:xs.length<=1000000000) (s:ai) (v u:Value) (L L2:List Nat) (w:World) (hv:bc L w v xs) (hu:bc L2 w u ys):
  bz Tryz.prog 240 [v,u,str s] w λr w'=>r=str (nK xs ys s s xs.length)∧aj [] w w':=by
 obtain⟨a,n,c,rfl,hn⟩:=dJ hv
 obtain⟨a2,n2,c2,rfl,eU⟩:=dJ hu
 subst hn eU
 have hK:=aj.refl [] w
 refine bS [.tmp 6] 26 Tryz.func240 rfl ab6 rfl rfl ?_
 refine W ?_
 refine eA (λk:Nat=>[(0,.slice a xs.length c),(1,.slice a2 ys.length c2),(2,str s),(7,.int .i64 ((k:Int)-1))]) (λk w'=>w'=w∧k<=xs.length∧nK xs ys s s xs.length=nK xs ys s s k) (λk=>k) xs.length (⟨rfl,rfl,rfl,rfl⟩) (⟨rfl,lR _,rfl⟩) λgg w1 e1 hI=>?_
 obtain⟨e,hk,hq⟩:=hI
 subst e
 refine W ?_
 refine zc rfl (λh1=>?_) (λh1=>?_)
 have aQ:∃k,gg=k+1:=⟨gg-1,om⟩
 obtain⟨k,rfl⟩:=aQ
 have vB:=km (xs:=xs) (i:=k) om
 have No:=km (xs:=ys) (i:=k) om
 obtain⟨b1,eX,rfl,bK⟩:=pB hv vB
 obtain⟨b2,lG,rfl,bU⟩:=pB hu No
 have hi:((k+1:Nat):Int)-1=(k:Int):=by omega
 rw[hi]
 refine W ?_
 refine zc rfl (λh2=>?_) (λh2=>?_)
 refine W ?_
 exact⟨_,rfl,by rw[hq,nK,iP h2];rfl,hK⟩
 have dL:=h2
 refine W ?_
 exact⟨k,⟨rfl,rfl,rfl,rfl⟩,⟨rfl,om,by rw[hq,nK,iN dL]⟩,om⟩
 have h0:gg=0:=by omega
 refine W ?_
 exact⟨_,rfl,by rw[hq,h0];rfl,hK⟩
theorem Jy:∀row,row∈fU xs->∀c,c∈row->∀v,c= .val v->v.oneCell'=true:=by
 intro row hr
 simp only[fU,List.mem_map] at hr
 obtain⟨x,_,rfl⟩:=hr
 intro c hc u hu
 simp only[mC,List.not_mem_nil,or_false] at hc
 subst hc
 cases hu
 rfl
theorem Uy (xs ys:List ai):fU xs++fU ys=fU (xs++ys):=by simp[fU]
theorem tY (xs ys:List ai) (hx:xs.length+ys.length<100000000) (v u:Value) (L:List Nat) (w:World) (hv:bc L w v xs) (hu:bc L w u ys) (hL:∀x,x∈L->x<w.heap.size):
  bz Tryz.prog 116 [v,u] w λr w'=>bc L w' r (xs++ys)∧aj [] w w':=by
 obtain⟨a,n,c,rfl,hn⟩:=dJ hv
 obtain⟨a2,n2,c2,rfl,eU⟩:=dJ hu
 subst hn eU
 have hK:=aj.refl [] w
 refine bS [.tmp 4] 10 Tryz.func116 rfl RQ rfl rfl ?_
 refine W ?_
 refine zI w.heap.size L bh bf rfl rfl (lR _) hL λw1 aI dk hO=>?_
 have hK:=hK.ext aI
 have fi:=bQ.ext (bQ.fresh hv (L':=w.heap.size::L) zD) aI
 refine zm<|wP bh bf rfl rfl rfl rfl rfl rfl hO fi Jy (by rw[qb];simp;omega) λa4 fR g4 w2 iY az=>?_
 have hK:=hO.since hK az
 have Np:=bQ.ext (bQ.fresh hu (L':=g4.toList++L) (λx hx=>by rcases mA.1 hx with hx|hx;(·exact .inr (iY.low x (by simpa using hx)));(·exact .inl hx))) hK
 refine zm<|wP bh bf rfl rfl rfl rfl rfl rfl iY Np Jy (by simp only[lA,qb];simp;omega) λa5 Jz g5 w3 kO aH=>?_
 have hK:=iY.since hK aH
 refine W ?_
 exact⟨_,rfl,(by have:=kO.done;rw[List.nil_append,Uy] at this;exact this),hK⟩
def sR (t:aq) (i:Nat):List ai:=if(nth t.ak 0).aw=fW∧i=3 then[(nth t.ak 1).aw] else if(nth t.ak 0).aw=gF then[(nth t.ak 1).aw,(nth t.ak 2).aw] else[]
theorem Uz (h:e.ok) (ha:e.iv=false) (i:Nat):sR e.au i=e.binds i:=by
 cases e with
 |«at» s=>cases ha
 |un hd a=>
  have h1:hd≠fW∧hd≠gF:=by constructor<;>intro e<;>rw[e] at h<;>exact absurd h.1 de
  simp[sR,Ex.au,aq.ak,nth,bJ,aq.aw,h1.1,h1.2,Ex.binds]
 |bi hd a b=>
  have h1:hd≠fW∧hd≠gF:=by constructor<;>intro e<;>rw[e] at h<;>exact absurd h.1 de
  simp[sR,Ex.au,aq.ak,nth,bJ,aq.aw,h1.1,h1.2,Ex.binds]
 |ite a b c=>simp[sR,Ex.au,aq.ak,nth,bJ,aq.aw,Ex.binds]
 |lt x a b=>
  by_cases h3:i=3
  ·subst h3;simp[sR,Ex.au,aq.ak,nth,bJ,aq.aw,Ex.binds]
  ·have:(Ex.lt x a b).binds i=[]:=by unfold Ex.binds;split<;>first|rfl|simp_all
   rw[this]
   simp[sR,Ex.au,aq.ak,nth,bJ,aq.aw,h3]
 |fn f x A B b=>simp[sR,Ex.au,aq.ak,nth,bJ,aq.aw,Ex.binds]
theorem UA (t:aq) (h0:0<t.ak.length) (Cv:(nth t.ak 0).aw=fW->1<t.ak.length) (nY:(nth t.ak 0).aw=gF->2<t.ak.length) (i:Nat) (v:Value) (L:List Nat) (w:World) (hv:bB L w v t):
  bz Tryz.prog 239 [v,.int .i64 (i:Int)] w λr w'=>(∀Lr,(∀x,x∈Lr->x<w.heap.size)->bc Lr w' r (sR t i))∧aj [] w w':=by
 obtain⟨a,n,c,rfl,hn,aP⟩:=cU hv
 subst hn
 have hK:=aj.refl [] w
 obtain⟨b,off,pa,pn,pc,rfl,et,eP,fM⟩:=iJ aP (gh h0)
 have jd:∀i,i<t.ak.length->∃pa pn pc,fS w b (off+i*2) [str (nth t.ak i).aw,.slice pa pn pc]:=by intro i hi;obtain⟨b1,eX,gA,rf,gm,e1,bK,sK,oY⟩:=iJ aP (gh hi);cases e1;exact⟨_,_,_,bK⟩
 refine bS [.tmp 4] 41 Tryz.func239 rfl ab5 rfl rfl ?_
 refine zr<|eH rfl λw1 aI aU dk=>bI aI hK et λhK et=>?_
 refine W ?_
 apply oB 3 12 15 rfl oQ
 intro _
 exact oQ
 intro xx
 refine zA<|aZ<|zc rfl (λh2=>?_) (λh2=>?_)
 have hq:(nth t.ak 0).aw=fW∧i=3:=(by simp only[aE,dE] at h2;exact⟨h2.1,om⟩)
 obtain⟨gA,rf,gm,bK⟩:=jd 1 (Cv hq.1)
 have bK:=bK.ext hK
 have fl:=Cv hq.1
 have hb:sR t i=[(nth t.ak 1).aw]:=iP hq
 refine W ?_
 refine fc bh bf rfl rfl λw2 az vC dC=>?_
 have hK:=hK.ext az
 refine W ?_
 exact⟨_,rfl,λLr JA=>(by rw[hb];exact aJ.dK [(nth t.ak 1).aw] vC (λhx=>by have:=JA _ hx;omega)),hK⟩
 have wG:¬((nth t.ak 0).aw=fW∧i=3):=(λhh=>by simp only[Bool.and_eq_false_iff,decide_eq_false_iff_not] at h2;rcases h2 with h|h;(·exact h hh.1);(·exact h om))
 refine W ?_
 refine zc rfl (λh3=>?_) (λh3=>?_)
 have hq:=h3
 have iy:=nY hq
 obtain⟨gA,rf,gm,bK⟩:=jd 1 om
 obtain⟨iA,AT,iw,bU⟩:=jd 2 om
 have bK:=bK.ext hK;have bU:=bU.ext hK
 have hb:sR t i=[(nth t.ak 1).aw,(nth t.ak 2).aw]:=by unfold sR;rw[iN wG,iP hq]
 refine WZ ?_
 apply uZ dj 11 (rA 29 11) (rA 29 11) [[],[0],[1],[2],[3],[],[5],[6],[7],[8],[4,9]] [It.v _,It.v _,It.v _,It.v _,It.v _,It.v _,It.v _,It.v _,It.v _,It.v _,It.p (fun(v:Value) (ww:World)=>∃bb,v= .slice (some ⟨bb,0,none⟩) 2 2∧w.heap.size<=bb∧aJ ww bb [str (nth t.ak 1).aw,str (nth t.ak 2).aw].toArray 9)] de (by exact⟨λv w w' ⟨bb,e,h1,h2⟩ k=>⟨bb,e,h1,h2.ext k⟩,trivial⟩)
 intro wd aC
 refine vc (λ_ _ _=>WZ pv) ?_
 refine vk aC (λx w2 az=>?_) ?_
 have aU:=aU.ext az
 refine WZ ?_
 exact pv
 refine vk aC (λx w2 az=>?_) ?_
 refine zi (i:=1) cz aL rfl rfl om ?_
 exact pv
 refine VA ?_
 refine vk aC (λx w2 az=>?_) ?_
 have hK:=hK.ext az
 have o7:=hK.size
 refine kJ bh bf rfl rfl rfl rfl ?_
 intro w3 aH yu gJ
 exact pf aH (⟨_,rfl,o7,yu⟩)
 exact trivial
 intro x o5 gR
 intro v10 d10
 have hK:=hK.ext gR
 change OW _ _ _ _ _ (bo (bj _ x _) (zZ 29 [_,_,_,_,_,_,_,_,_,_,_])) _
 obtain⟨bb,e39,jG,yu⟩:=d10
 refine W ?_
 exact⟨_,rfl,λLr JA=>(by rw[hb];subst e39;exact aJ.dK [(nth t.ak 1).aw,(nth t.ak 2).aw] yu (λhx=>by have:=JA _ hx;omega)),hK⟩
 have hb:sR t i=[]:=(by unfold sR;rw[iN wG,iN h3])
 refine gY<|zr<|zI w.heap.size [] bh bf rfl rfl hK.size sm λw2 az dk hO=>?_
 have hK:=hK.ext az
 refine W ?_
 exact⟨_,rfl,λLr JA=>(by rw[hb];exact bQ.nil _ _ _),hK⟩
theorem GO (h:e.ok) (ha:e.iv=false):0<e.au.ak.length∧((nth e.au.ak 0).aw=fW->1<e.au.ak.length)∧((nth e.au.ak 0).aw=gF->2<e.au.ak.length):=by
 cases e with
 |«at» s=>cases ha
 |un hd a=>
  have hn:hd≠gF:=by intro e;rw[e] at h;exact absurd h.1 de
  exact⟨by simp[Ex.au,aq.ak],λ_=>by simp[Ex.au,aq.ak],λh=>absurd h hn⟩
 |bi hd a b=>exact⟨by simp[Ex.au,aq.ak],λ_=>by simp[Ex.au,aq.ak],λh=>by simp[Ex.au,aq.ak]⟩
 |ite a b c=>exact⟨by simp[Ex.au,aq.ak],λ_=>by simp[Ex.au,aq.ak],λh=>by simp[Ex.au,aq.ak]⟩
 |lt x a b=>exact⟨by simp[Ex.au,aq.ak],λ_=>by simp[Ex.au,aq.ak],λh=>by simp[Ex.au,aq.ak]⟩
 |fn f x A B b=>exact⟨by simp[Ex.au,aq.ak],λ_=>by simp[Ex.au,aq.ak],λh=>by simp[Ex.au,aq.ak]⟩
theorem UB (e:Ex) (i:Nat):(e.binds i).length<=2:=by unfold Ex.binds;split<;>simp
theorem UC (x:ai) (e:Ex) (k:Nat):z1 x e (k+1)=z1 x e k+if x∈e.binds (e.from+k) then 0 else jQ x (fL e k):=rfl
theorem UD (x:ai) (e:Ex):∀{i j:Nat},i<=j->z1 x e i<=z1 x e j
 |i,0,h=>by have:i=0:=om;subst this;exact lR _
 |i,j+1,h=>by
  rcases Nat.lt_or_ge i (j+1) with h1|h1
  ·have:=UD x e (i:=i) (j:=j) om;rw[UC];omega
  ·have:i=j+1:=by omega
   subst this;exact lR _
theorem vD (h:e.ok):e.au.aw≠[]↔e.iv=true:=by
 cases e with
 |«at» s=>exact⟨λ_=>rfl,λ_=>pD h⟩
 |_=>exact⟨λhh=>absurd rfl hh,λhh=>by cases hh⟩
theorem GP (e:Ex):e.from+e.kids.length<=6:=by cases e<;>simp[Ex.from,Ex.kids]
theorem afF (s:ai):∀(m:Nat) (e:Ex),e.n<=m->e.n<=1000000->e.ok->∀(v:Value) (L:List Nat) (w:World),bB L w v e.au->
  bz Tryz.prog 244 [v,str s] w λr w'=>r= .int .i64 (jQ s e:Int)∧aj [] w w':=by
 intro m
 induction m with
 |zero=>intro e h;have:=e.pos;omega
 |succ m ih=>
  intro e hm lD ba v L w hv
  have cO:=hv
  obtain⟨a,n,c,rfl,hn,aP⟩:=cU hv
  subst hn
  have hK:=aj.refl [] w
  have hce:=count_le s e
  have JB:=GP e
  refine bS [.tmp 4] 47 Tryz.func244 rfl aca rfl rfl ?_
  refine zr<|eH rfl λw1 aI aU dk=>cN aI hK aP cO λhK aP cO=>?_
  refine W ?_
  refine zc rfl (λh1=>?_) (λh1=>?_)
  have aQ:∃x,e= .at x:=(by have ha:=(vD ba).1 h1;cases e<;>first|exact⟨_,rfl⟩|cases ha)
  obtain⟨x,rfl⟩:=aQ
  refine W ?_
  refine zc rfl (λh2=>?_) (λh2=>?_)
  have hq:jQ s (.at x)=1:=iP h2
  refine W ?_
  exact⟨_,rfl,by rw[hq];rfl,hK⟩
  have hq:jQ s (.at x)=0:=iN h2
  refine W ?_
  exact⟨_,rfl,by rw[hq];rfl,hK⟩
  have eJ:e.iv=false:=(by cases hh:e.iv;rfl;exact absurd ((vD ba).2 hh) h1)
  obtain⟨GQ,ob,je,qz⟩:=Ex.ak eJ
  obtain⟨jn,Ew,Ey⟩:=GO ba eJ
  have GR:=Me ba eJ
  have lB:dW (nth e.au.ak 0).aw=(e.from,e.from+e.kids.length):=by rw[je];exact GR
  obtain⟨b,off,pa,pn,pc,rfl,et,eP,fM⟩:=iJ aP (gh jn)
  refine W ?_
  refine aA (Jv _ _) ?_
  rintro _ _ ⟨rfl,rfl⟩
  rw[yr lB]
  refine W ?_
  refine eA (λk:Nat=>[(1,str s),(2,.pointer (some ⟨w.heap.size,0,none⟩)),(5,.int .i64 (z1 s e k:Int)),(7,.int .i64 ((e.from+e.kids.length:Nat):Int)),(8,.int .i64 ((e.from+k:Nat):Int))]) (λk w'=>aj [] w w'∧aj [] w1 w'∧k<=e.kids.length) (λk=>e.kids.length-k) (0) (⟨rfl,rfl,rfl,rfl,rfl⟩) (⟨hK,aj.refl _ _,om⟩) λgg w2 e2 hI=>?_
  obtain⟨hK,kq,hk⟩:=hI
  refine cN kq aU aP cO λaU aP cO=>?_
  refine W ?_
  refine zc rfl (λh3=>?_) (λh3=>?_)
  have gL:gg<e.kids.length:=om
  have qo:=qz gg gL
  obtain⟨b1,eX,gA,rf,gm,e1,bK,sK,oY⟩:=iJ aP (gh (i:=e.from+gg) om)
  cases e1
  subst sK
  have cI:=(kV oY).eq qo
  have tZ:=F5 ba gL
  have aR:=UC s e gg
  have hmo:=UD s e (i:=gg+1) (j:=e.kids.length) om
  have hto:=Se eJ s
  refine W ?_
  refine aA (UA e.au jn Ew Ey (e.from+gg) _ _ w2 cO) ?_
  rintro v3 w3 ⟨ko,aH⟩
  have fm:=aH.size
  refine la aH hK aU kq bK cI λhK aU kq bK cI=>?_
  have tC:=ko [] sm
  rw[Uz ba eJ] at tC
  have hbf:=UB e (e.from+gg)
  refine zm<|aA (AJ (e.binds (e.from+gg)) om s _ [] w3 tC) ?_
  rintro _ w4 ⟨rfl,aO⟩
  have fE:=aO.size
  refine la aO hK aU kq bK cI λhK aU kq bK cI=>?_
  refine kx rfl rfl rfl<|aZ<|zc rfl (λh4=>?_) (λh4=>?_)
  have my:¬s∈e.binds (e.from+gg):=(by simpa using h4)
  rw[iN my] at aR
  refine W ?_
  refine aA (ih (fL e gg) om om tZ.1 _ _ w4 cI) ?_
  rintro _ w5 ⟨rfl,aN⟩
  have l3:=aN.size
  refine bI aN hK kq λhK kq=>?_
  refine W ?_
  exact⟨gg+1,⟨rfl,rfl,congrArg (Value.int .i64) om,rfl,congrArg (Value.int .i64) om⟩,⟨hK,kq,om⟩,om⟩
  have my:s∈e.binds (e.from+gg):=(by simpa using h4)
  rw[iP my] at aR
  refine W ?_
  exact⟨gg+1,⟨rfl,rfl,congrArg (Value.int .i64) om,rfl,congrArg (Value.int .i64) om⟩,⟨hK,kq,om⟩,om⟩
  have fG:gg=e.kids.length:=by omega
  refine W ?_
  exact⟨_,rfl,by rw[Se eJ s,fG];rfl,hK⟩
theorem UE (e:Ex) (bd l:List ai) (k:Nat):qh e bd l (k+1)=cH (fL e k) (bd++e.binds (e.from+k)) (qh e bd l k):=rfl
def kN (e:Ex) (k:Nat):Nat:=((e.kids.take k).map Ex.n).sum
theorem yv (h:k<e.kids.length):kN e (k+1)=kN e k+(fL e k).n:=by
 have h1:e.kids[k]?=some (fL e k):=by simp[fL,gE h]
 unfold kN
 rw[List.take_add_one,h1,List.map_append,List.sum_append]
 simp
theorem Cw (e:Ex) (k:Nat):kN e k<=e.n:=by
 have h1:kN e k<=(e.kids.map Ex.n).sum:=by
  conv=>rhs;rw[<-List.take_append_drop k e.kids,List.map_append,List.sum_append]
  unfold kN;omega
 have h2:(e.kids.map Ex.n).sum<=e.n:=by cases e<;>simp[Ex.kids,Ex.n]<;>omega
 omega
theorem UF (e:Ex) (bd l:List ai):∀{k:Nat},k<=e.kids.length->(qh e bd l k).length<=l.length+kN e k
 |0,_=>by simp[qh,kN]
 |k+1,hk=>by
  rw[UE,yv om]
  have h1:=Mf (fL e k) (bd++e.binds (e.from+k)) (qh e bd l k)
  have h2:=UF e bd l (k:=k) om
  omega
theorem JC:∀(m:Nat) (e:Ex),e.n<=m->e.n<=1000->e.ok->∀(bd l:List ai),bd.length+2*e.n<=100000->l.length+e.n<=100000->∀(v vb vl:Value) (g:Option Nat) (w:World),
  bB g.toList w v e.au->bc g.toList w vb bd->cG w 9 vl g l->
  bz Tryz.prog 216 [v,vb,vl] w λr w'=>∃g',cG w' 9 r g' (cH e bd l)∧Fr g.toList w g'.toList w':=by
 intro m
 induction m with
 |zero=>intro e h;have:=e.pos;omega
 |succ m ih=>
  intro e hm lD ba bd l tC hl v vb vl g w hv yw fP
  obtain⟨a,n,c,rfl,hn,aP⟩:=cU hv
  subst hn
  obtain⟨ab,nb,cb,rfl,UG⟩:=dJ yw
  subst UG
  obtain⟨al,cl,rfl⟩:=jR fP
  have pS:=fP.lt
  have oq:=fP.rs
  have hR:=Fr.refl g.toList w
  have JB:=GP e
  have cO:=kV aP
  refine bS [.tmp 6] 65 Tryz.func216 rfl abS rfl rfl ?_
  refine zr<|eH rfl λw1 aI cQ dk=>tS aI hR aP yw fP oq cO λhR aP yw fP oq cO=>?_
  refine W ?_
  refine zc rfl (λh1=>?_) (λh1=>?_)
  have aQ:∃x,e= .at x:=(by have ha:=(vD ba).1 h1;cases e<;>first|exact⟨_,rfl⟩|cases ha)
  obtain⟨x,rfl⟩:=aQ
  refine W ?_
  refine aA (vw _ _) ?_
  rintro _ _ ⟨rfl,rfl⟩
  refine WZ ?_
  apply oO 5 17 22 (aj [] w1) rfl oQ
  intro h2
  refine W ?_
  refine aA (AJ bd om x _ _ w1 yw) ?_
  rintro _ w2 ⟨rfl,az⟩
  have dm:=az.size
  exact oQ
  intro xx w3 aH
  refine ie aH hR fP oq cQ λhR fP oq cQ=>?_
  refine WZ ?_
  apply oO 5 23 28 (aj [] w3) rfl oQ
  intro h3
  refine W ?_
  refine aA (AJ l om x _ _ w3 oq) ?_
  rintro _ w4 ⟨rfl,aO⟩
  have fE:=aO.size
  exact oQ
  intro xx w5 aN
  refine cN aN hR fP cQ λhR fP cQ=>?_
  refine aZ<|zc rfl (λh4=>?_) (λh4=>?_)
  have hq:cH (.at x) bd l=l:=iP h4
  refine W ?_
  exact⟨_,rfl,g,by rw[hq];exact fP,hR⟩
  have hq:cH (.at x) bd l=l++[x]:=iN (λhh=>Bool.noConfusion (hh.symm.trans h4))
  refine W ?_
  refine fc bh bf rfl rfl λw6 bN JD kI=>bI bN hR fP λhR fP=>?_
  refine Tp bh bf rfl rfl rfl rfl rfl rfl fP JD om λv5 g5 w7 kO bW pT=>?_
  have hR:=hR.go pT
  refine W ?_
  exact⟨_,rfl,g5,by rw[hq];exact kO,hR⟩
  have eJ:e.iv=false:=(by cases hh:e.iv;rfl;exact absurd ((vD ba).2 hh) h1)
  obtain⟨GQ,ob,je,qz⟩:=Ex.ak eJ
  obtain⟨jn,Ew,Ey⟩:=GO ba eJ
  have GR:=Me ba eJ
  have lB:dW (nth e.au.ak 0).aw=(e.from,e.from+e.kids.length):=by rw[je];exact GR
  obtain⟨b,off,pa,pc,rfl,et,hT0⟩:=eW aP jn
  have cQ:=cQ.o pS
  refine W ?_
  refine aA (Jv _ _) ?_
  rintro _ _ ⟨rfl,rfl⟩
  rw[yr lB]
  refine W ?_
  refine eA (λq:Nat×Value×Option Nat=>[(1,.slice ab bd.length cb),(2,q.2.1),(3,.pointer (some ⟨w.heap.size,0,none⟩)),(8,.int .i64 ((e.from+e.kids.length:Nat):Int)),(9,.int .i64 ((e.from+q.1:Nat):Int))]) (λq w'=>Fr g.toList w q.2.2.toList w'∧Fr g.toList w1 q.2.2.toList w'∧cG w' 9 q.2.1 q.2.2 (qh e bd l q.1)∧q.1<=e.kids.length) (λq=>e.kids.length-q.1) ((0,.slice al l.length cl,g)) (⟨rfl,rfl,rfl,rfl,rfl⟩) (⟨hR,Fr.refl _ _,fP,sm⟩) λgg w2 e2 hI=>?_
  obtain⟨k,vl,gl⟩:=gg
  dsimp only at hI⊢
  obtain⟨hR,kq,fP,hk⟩:=hI
  have cQ:=cQ.go kq;have aP:=aP.go kq;have yw:=yw.go kq;have cO:=cO.go kq
  refine W ?_
  refine zc rfl (λh5=>?_) (λh5=>?_)
  have gL:k<e.kids.length:=om
  have qo:=qz k gL
  obtain⟨b1,eX,gA,gm,e1,bK,cI⟩:=eW aP (i:=e.from+k) om
  cases e1
  have cI:=cI.eq qo
  have tZ:=F5 ba gL
  have aR:=UE e bd l k
  have hbf:=UB e (e.from+k)
  have mE:=UF e bd l (k:=k) om
  have AV:=yv gL
  have fb:=Cw e (k+1)
  refine WZ ?_
  apply jF dj gl.toList 13 (rA 50 13) (rA 50 13) [[],[0],[],[1,2],[3],[],[],[5,6],[],[],[8,9],[7,10],[]] [Ie.v _,Ie.v _,Ie.v _,Ie.v _,Ie.v _,Ie.p (fun(G:List Nat) (v:Value) (ww:World)=>∃bb,v= .slice (some ⟨bb,0,none⟩) 0 0∧dM G ww bb #[] 9),Ie.v _,Ie.e 0,Ie.v _,Ie.v _,Ie.p (fun(G:List Nat) (v:Value) (ww:World)=>bc G ww v (e.binds (e.from+k))),Ie.e 1,Ie.v _] [7,11] [fun(G:List Nat) (vs:List Value) (ww:World)=>cG ww 9 vl gl (qh e bd l k)∧(∀x,x∈gl.toList->x∈G),fun(G:List Nat) (vs:List Value) (ww:World)=>(cG ww 9 vl gl (qh e bd l k)∧(∀x,x∈gl.toList->x∈G))∧∃g7,cG ww 9 (vs.getD 0 undef) g7 bd∧qy G ww 9 g7∧(∀x,x∈g7.toList->x∉gl.toList),fun(G:List Nat) (vs:List Value) (ww:World)=>(cG ww 9 vl gl (qh e bd l k)∧(∀x,x∈gl.toList->x∈G))∧∃g7,cG ww 9 (vs.getD 1 undef) g7 (bd++e.binds (e.from+k))∧qy G ww 9 g7∧(∀x,x∈g7.toList->x∉gl.toList)] de rfl fP.lt (by exact⟨λG v w G' w' ⟨bb,e,h⟩ k=>⟨bb,e,h.go k⟩,λG v w G' w' h k=>bc.go h k,trivial⟩) (by exact⟨λG vs w w' h k=>⟨h.1.ext k,h.2⟩,λG vs w w' ⟨h1,g7,h2,h3,h4⟩ k=>⟨⟨h1.1.ext k,h1.2⟩,g7,h2.ext k,h3.ext k,h4⟩,λG vs w w' ⟨h1,g7,h2,h3,h4⟩ k=>⟨⟨h1.1.ext k,h1.2⟩,g7,h2.ext k,h3.ext k,h4⟩,trivial⟩) (⟨fP,λx hx=>hx⟩)
  refine FA ?_
  refine vf (λx w3 G3 aS jo kr=>?_) ?_
  refine fQ bh bf λw4 aO Cx gQ=>?_
  exact ff aO (⟨_,rfl,Cx.o kr⟩)
  refine FA ?_
  refine ve 0 (λx w3 G3 aS jo kr hJ hlen=>?_) ?_
  have aW:=jh hlen
  subst aW
  have yw:=yw.go jo
  intro v5 d5
  obtain⟨bb,e5,fH⟩:=d5
  subst e5
  have hJ:cG w3 9 vl gl (qh e bd l k)∧(∀x,x∈gl.toList->x∈G3):=hJ
  refine Ev bh bf rfl rfl rfl rfl rfl rfl fH.gX.kK yw ‹_› (λx hx=>.inr (by simp at hx;subst hx;exact fH.gX)) so λv9 g9 w4 G9 cZ Ez o7 kt cP eu aB=>?_
  exact fe G9 cP eu (⟨⟨hJ.1.aF aB (λb hb hx=>fH.out (by simp at hx;subst hx;exact hJ.2 _ (by simp[hb]))),λx hx=>kt x (hJ.2 x hx)⟩,g9,cZ,Ez,λx hx fj=>(o7 x hx).elim (λh=>fH.out (by simp at h;subst h;exact hJ.2 _ fj)) (λh=>by have:=kr x (hJ.2 x fj);omega)⟩)
  refine FA ?_
  refine vf (λx w3 G3 aS jo kr=>?_) ?_
  have cO:=cO.go jo
  refine aA (UA e.au jn Ew Ey (e.from+k) _ _ w3 cO) ?_
  rintro v4 w4 ⟨jT,aO⟩
  have fE:=aO.size
  have afI:=jT
  exact ff aO ((by have h9:=afI _ kr;rw[Uz ba eJ] at h9;exact h9))
  refine ve 1 (λx w3 G3 aS jo kr hJ hlen=>?_) ?_
  obtain⟨q0,aW⟩:=ji hlen
  subst aW
  intro v10 d10
  have hJ:(cG w3 9 vl gl (qh e bd l k)∧(∀x,x∈gl.toList->x∈G3))∧∃g7,cG w3 9 q0 g7 bd∧qy G3 w3 9 g7∧(∀x,x∈g7.toList->x∉gl.toList):=hJ
  obtain⟨⟨Ee,rK⟩,g7,Cy,Cz,JE⟩:=hJ
  refine Ev bh bf rfl rfl rfl rfl rfl rfl Cy d10 ‹_› Cz om λv9 g9 w4 G9 cZ Ez o7 kt cP eu aB=>?_
  exact fe G9 cP eu (⟨⟨Ee.aF aB (λb hb hx=>JE b hx (by simp[hb])),λx hx=>kt x (rK x hx)⟩,g9,cZ,Ez,λx hx fj=>(o7 x hx).elim (λh=>JE x h fj) (λh=>by have:=kr x (rK x fj);omega)⟩)
  exact FZ
  intro x qx GS aS EA Nq hJ hlen
  obtain⟨q0,q1,aW⟩:=k9 hlen
  subst aW
  intro v5 d5
  intro v10 d10
  have hR:=hR.go EA;have kq:=kq.go EA;have cI:=cI.go EA
  change OW _ _ _ _ _ (bo (bj _ x _) (zZ 50 [_,_,_,_,_,_,_,_,_,_,_,_,_])) _
  have hJ:(cG qx 9 vl gl (qh e bd l k)∧(∀x,x∈gl.toList->x∈GS))∧∃g7,cG qx 9 q1 g7 (bd++e.binds (e.from+k))∧qy GS qx 9 g7∧(∀x,x∈g7.toList->x∉gl.toList):=hJ
  obtain⟨⟨Ee,rK⟩,g7,Cy,Cz,JE⟩:=hJ
  refine aA (ih (fL e k) om om tZ.1 (bd++e.binds (e.from+k)) (qh e bd l k) (by rw[lA];omega) om _ _ _ gl qx (cI.gP (λx hx=>rK x hx)) (Cy.rep (λb hb=>JE b (by simp[hb]))) Ee) ?_
  rintro Nr oZ ⟨Ns,JG,GU⟩
  refine W ?_
  exact⟨(k+1,Nr,Ns),⟨rfl,rfl,rfl,rfl,congrArg (Value.int .i64) so⟩,⟨(hR.to (λx hx=>.inl (rK x hx))).go GU,(kq.to (λx hx=>.inl (rK x hx))).go GU,JG,by simp;omega⟩,by simp;omega⟩
  have fG:k=e.kids.length:=by omega
  refine W ?_
  exact⟨_,rfl,gl,by rw[adP eJ,<-fG];exact fP,hR⟩
theorem afJ (s:ai) (w:World):bz Tryz.prog 195 [str s] w λv w'=>(∃a n c,v= .tuple #[.slice a n c,.bool (l5 s)]∧(l5 s=true->∃e:Ex,bA s=some e.au∧e.ok∧e.n<=120∧bc [] w' (.slice a n c) (cH e [] [])))∧aj [] w w':=by
 have hK:=aj.refl [] w
 refine bS [.tmp 2,.tmp 3] 18 Tryz.func195 rfl abK rfl rfl ?_
 refine W ?_
 refine aA (GM s [] w sm) ?_
 rintro v1 w1 ⟨fY,aI⟩
 have cV:=aI.size
 have hK:=hK.ext aI
 obtain⟨t,tv,rfl,ht,hp⟩:=fY
 obtain⟨pa,pn,pc,rfl,eP,aP⟩:=cU ht
 refine W ?_
 refine dy aL rfl rfl rfl λw2 az aG dC=>?_
 have hK:=hK.grow;have hK:=hK.ext az;have ht:=ht.grow;have ht:=ht.ext az
 refine cJ aL rfl rfl rfl aG rfl λw3 aH aG gJ=>?_
 have hK:=hK.aD aH sx;have ht:=ht.aD aH sx
 refine W ?_
 refine zc rfl (λh1=>?_) (λh1=>?_)
 have hx:l5 s=false:=by simpa using h1
 refine zr<|fQ bh bf λw4 aO lH gQ=>?_
 have hK:=hK.ext aO
 refine W ?_
 exact⟨_,rfl,⟨_,_,_,by rw[hx];rfl,λh=>by rw[hx] at h;cases h⟩,hK⟩
 have hx:l5 s=true:=by simpa using h1
 obtain⟨e,he,ba,hn⟩:=wV.1 hx
 have e2:=hp.1 _ he
 subst e2
 refine W ?_
 refine fQ bh bf λw4 aO EB JH=>bI aO ht hK λht hK=>?_
 refine fQ bh bf ?_
 have M1:=bB.grow (ht.gP (L':=[]) sm)
 intro w5 aN wS GV
 have ht:=M1.ext aN
 have hK:=hK.ext aN
 refine aA (JC 120 e hn om ba [] [] so so _ _ _ (some _) w5 ht (bQ.nil _ _ _) wS.kK) ?_
 rintro v9 w6 ⟨g9,cZ,cP⟩
 obtain⟨a9,c9,rfl⟩:=jR cZ
 have hK:=hK.since cP.aF (λx hx=>.inr (by simp at hx;omega))
 refine W ?_
 exact⟨_,rfl,⟨_,_,_,by rw[hx];rfl,λ_=>⟨e,he,ba,hn,cZ.rs⟩⟩,hK⟩
theorem EC {a b:ai} (h:bJ a=bJ b):a=b:=by simpa[bJ] using h
theorem qA:∀{e f:Ex},e.ok->f.ok->e.au=f.au->e=f
 | .at s,.at r,_,_,h=>by rw[EC h]
 | .at s,.un ..,h1,_,h=>absurd (congrArg aq.aw h) (pD h1)
 | .at s,.bi ..,h1,_,h=>absurd (congrArg aq.aw h) (pD h1)
 | .at s,.ite ..,h1,_,h=>absurd (congrArg aq.aw h) (pD h1)
 | .at s,.lt ..,h1,_,h=>absurd (congrArg aq.aw h) (pD h1)
 | .at s,.fn ..,h1,_,h=>absurd (congrArg aq.aw h) (pD h1)
 | .un ..,.at s,_,h1,h=>absurd (congrArg aq.aw h).symm (pD h1)
 | .bi ..,.at s,_,h1,h=>absurd (congrArg aq.aw h).symm (pD h1)
 | .ite ..,.at s,_,h1,h=>absurd (congrArg aq.aw h).symm (pD h1)
 | .lt ..,.at s,_,h1,h=>absurd (congrArg aq.aw h).symm (pD h1)
 | .fn ..,.at s,_,h1,h=>absurd (congrArg aq.aw h).symm (pD h1)
 | .un h a,.un h' a',k,k',e=>by
  have e:=congrArg aq.ak e
  simp only[Ex.au,aq.ak,List.cons.injEq,and_true] at e
  rw[EC e.1,qA k.2 k'.2 e.2]
 | .bi h a b,.bi h' a' b',k,k',e=>by
  have e:=congrArg aq.ak e
  simp only[Ex.au,aq.ak,List.cons.injEq,and_true] at e
  rw[EC e.1,qA k.2.1 k'.2.1 e.2.1,qA k.2.2 k'.2.2 e.2.2]
 | .ite a b c,.ite a' b' c',k,k',e=>by
  have e:=congrArg aq.ak e
  simp only[Ex.au,aq.ak,List.cons.injEq,and_true] at e
  rw[qA k.1 k'.1 e.2.1,qA k.2.1 k'.2.1 e.2.2.1,qA k.2.2 k'.2.2 e.2.2.2]
 | .lt x a b,.lt x' a' b',k,k',e=>by
  have e:=congrArg aq.ak e
  simp only[Ex.au,aq.ak,List.cons.injEq,and_true] at e
  rw[EC e.2.1,qA k.2.1 k'.2.1 e.2.2.1,qA k.2.2 k'.2.2 e.2.2.2]
 | .fn f x A B b,.fn f' x' A' B' b',k,k',e=>by
  have e:=congrArg aq.ak e
  simp only[Ex.au,aq.ak,List.cons.injEq,and_true] at e
  rw[EC e.2.1,EC e.2.2.1,F4 e.2.2.2.1,F4 e.2.2.2.2.1,qA k.2.2.2.2.2 k'.2.2.2.2.2 e.2.2.2.2.2]
 | .un ..,.bi ..,_,_,e=>by have e:=congrArg aq.ak e;simp[Ex.au,aq.ak] at e
 | .un ..,.ite ..,_,_,e=>by have e:=congrArg aq.ak e;simp[Ex.au,aq.ak] at e
 | .un ..,.lt ..,_,_,e=>by have e:=congrArg aq.ak e;simp[Ex.au,aq.ak] at e
 | .un ..,.fn ..,_,_,e=>by have e:=congrArg aq.ak e;simp[Ex.au,aq.ak] at e
 | .bi ..,.un ..,_,_,e=>by have e:=congrArg aq.ak e;simp[Ex.au,aq.ak] at e
 | .bi ..,.ite ..,_,_,e=>by have e:=congrArg aq.ak e;simp[Ex.au,aq.ak] at e
 | .bi ..,.lt ..,_,_,e=>by have e:=congrArg aq.ak e;simp[Ex.au,aq.ak] at e
 | .bi ..,.fn ..,_,_,e=>by have e:=congrArg aq.ak e;simp[Ex.au,aq.ak] at e
 | .ite ..,.un ..,_,_,e=>by have e:=congrArg aq.ak e;simp[Ex.au,aq.ak] at e
 | .ite ..,.bi ..,_,_,e=>by have e:=congrArg aq.ak e;simp[Ex.au,aq.ak] at e
 | .ite ..,.lt ..,_,_,e=>by have e:=congrArg aq.ak e;simp[Ex.au,aq.ak,bJ] at e
 | .ite ..,.fn ..,_,_,e=>by have e:=congrArg aq.ak e;simp[Ex.au,aq.ak] at e
 | .lt ..,.un ..,_,_,e=>by have e:=congrArg aq.ak e;simp[Ex.au,aq.ak] at e
 | .lt ..,.bi ..,_,_,e=>by have e:=congrArg aq.ak e;simp[Ex.au,aq.ak] at e
 | .lt ..,.ite ..,_,_,e=>by have e:=congrArg aq.ak e;simp[Ex.au,aq.ak,bJ] at e
 | .lt ..,.fn ..,_,_,e=>by have e:=congrArg aq.ak e;simp[Ex.au,aq.ak] at e
 | .fn ..,.un ..,_,_,e=>by have e:=congrArg aq.ak e;simp[Ex.au,aq.ak] at e
 | .fn ..,.bi ..,_,_,e=>by have e:=congrArg aq.ak e;simp[Ex.au,aq.ak] at e
 | .fn ..,.ite ..,_,_,e=>by have e:=congrArg aq.ak e;simp[Ex.au,aq.ak] at e
 | .fn ..,.lt ..,_,_,e=>by have e:=congrArg aq.ak e;simp[Ex.au,aq.ak] at e
def afK (s:ai) (e:Ex):Prop:=bA s=some e.au∧e.ok∧e.n<=120∧cH e [] []=[]
theorem afL (s:ai) (w:World):bz Tryz.prog 158 [str s] w λv w'=>(∃b,v= .bool b∧(b=true↔∃e:Ex,afK s e))∧aj [] w w':=by
 have hK:=aj.refl [] w
 refine bS [.tmp 2] 16 Tryz.func158 rfl abf rfl rfl ?_
 refine W ?_
 refine aA (afJ s w) ?_
 rintro v1 w1 ⟨fY,aI⟩
 have cV:=aI.size
 have hK:=hK.ext aI
 obtain⟨a,n,c,rfl,hf⟩:=fY
 refine W ?_
 apply oB 4 11 15 rfl oQ
 intro _
 exact oQ
 intro xx
 refine zA<|aZ<|jZ<|⟨_,rfl,⟨_,rfl,?_⟩,hK⟩
 rw[aE,dE]
 constructor
 rintro⟨h1,h2⟩;obtain⟨e,he,ba,hn,hs⟩:=hf h1;obtain⟨_,_,_,e2,e3⟩:=dJ hs;cases e2;exact⟨e,he,ba,hn,List.length_eq_zero_iff.1 om⟩
 rintro⟨e,he,ba,hn,h0⟩;have hx:l5 s=true:=wV.2 ⟨e,he,ba,hn⟩;refine⟨hx,?_⟩;obtain⟨e',uN,afM,DF,hs⟩:=hf hx;rw[he] at uN;have:=qA ba afM (Option.some.inj uN);subst this;rw[h0] at hs;obtain⟨_,_,_,e2,e3⟩:=dJ hs;cases e2;simp at e3;omega
def ke (ag:List ai) (ρ:Rn) (e:Ex) (n:Nat):Nat->List Ex×Nat
 |0=>([],n)
 |k+1=>((ke ag ρ e n k).1++[(bH ag (fL e k) ρ (ke ag ρ e n k).2).1],(bH ag (fL e k) ρ (ke ag ρ e n k).2).2)
theorem UH (ag:List ai) (ρ:Rn) (e:Ex) (n:Nat):∀k,(ke ag ρ e n k).1.length=k:=by intro x;induction x<;>grind [ke]
def iZ (ag:List ai) (ρ:Rn) (n:Nat):Ex->Rn
 | .fn f x _ _ _=>ρ++[(f,cK cx (bm cx ag n)),(x,cK cx (bm cx ag (bm cx ag n+1)))]
 |_=>ρ
def nF (ag:List ai) (n:Nat):Ex->Nat
 | .fn _ _ _ _ _=>bm cx ag (bm cx ag n+1)+1
 |_=>n
def wW (ag:List ai) (n:Nat):Ex->List aq
 | .fn _ _ A B _=>[bJ gF,bJ (cK cx (bm cx ag n)),bJ (cK cx (bm cx ag (bm cx ag n+1))),A.au,B.au]
 |e=>[bJ e.head]
def isLt:Ex->Bool
 | .lt _ _ _=>true
 |_=>false
theorem afN (ag:List ai) (ρ:Rn) (n:Nat) (ha:e.iv=false) (hl:isLt e=false):
  (bH ag e ρ n).1.au= .mk [] (wW ag n e++(ke ag (iZ ag ρ n e) e (nF ag n e) e.kids.length).1.map Ex.au)∧(bH ag e ρ n).2=(ke ag (iZ ag ρ n e) e (nF ag n e) e.kids.length).2:=by
 cases e with
 |«at» s=>cases ha
 |lt x a b=>cases hl
 |un h a=>exact⟨rfl,rfl⟩
 |bi h a b=>exact⟨rfl,rfl⟩
 |ite a b c=>exact⟨rfl,rfl⟩
 |fn f x A B b=>exact⟨rfl,rfl⟩
theorem afO (ag:List ai) (n:Nat) (ha:e.iv=false) (hl:isLt e=false):(wW ag n e).length=e.from:=by
 cases e with
 |«at» s=>cases ha
 |lt x a b=>cases hl
 |_=>rfl
theorem afP (ag:List ai) (n:Nat) (hk:e.ok) (ha:e.iv=false) (hf:e.head≠gF):wW ag n e=[bJ e.head]∧nF ag n e=n:=by
 cases e with
 |fn f x A B b=>exact absurd rfl hf
 |_=>exact⟨rfl,rfl⟩
theorem UI (ag:List ai) (ρ:Rn) (n:Nat) (hf:e.head≠gF):iZ ag ρ n e=ρ:=by cases e<;>grind [Ex.head,iZ]
theorem JI (h:e.ok) (he:e.head=fW):∃x a b,e= .lt x a b:=by
 cases e with
 |lt x a b=>exact⟨x,a,b,rfl⟩
 |un hd a=>have he:hd=fW:=he;rw[he] at h;exact absurd h.1 de
 |bi hd a b=>have he:hd=fW:=he;rw[he] at h;exact absurd h.1 de
 |«at» s=>cases he
 |ite a b c=>cases he
 |fn f x A B b=>cases he
theorem JJ (h:e.ok) (he:e.head=gF):∃f x A B b,e= .fn f x A B b:=by
 cases e with
 |fn f x A B b=>exact⟨f,x,A,B,b,rfl⟩
 |un hd a=>have he:hd=gF:=he;rw[he] at h;exact absurd h.1 de
 |bi hd a b=>have he:hd=gF:=he;rw[he] at h;exact absurd h.1 de
 |«at» s=>cases he
 |ite a b c=>cases he
 |lt x a b=>cases he
theorem UJ (h:e.ok) (he:e.head=gj):∃a b c,e= .ite a b c:=by
 cases e with
 |ite a b c=>exact⟨a,b,c,rfl⟩
 |un hd a=>have he:hd=gj:=he;rw[he] at h;exact absurd h.1 de
 |bi hd a b=>have he:hd=gj:=he;rw[he] at h;exact absurd h.1 de
 |«at» s=>cases he
 |lt x a b=>cases he
 |fn f x A B b=>cases he
theorem not_lt (he:e.head≠fW):isLt e=false:=by cases e<;>grind [Ex.head,isLt]
theorem UK (ha:e.iv=false) (hl:isLt e=false) (hf:e.head≠gF):e.au.ak=[bJ e.head]++e.kids.map Ex.au:=by
 cases e with
 |«at» s=>cases ha
 |lt x a b=>cases hl
 |fn f x A B b=>exact absurd rfl hf
 |_=>rfl
def lI (pre:List aq) (acc:List Ex) (e:Ex):List aq:=pre++acc.map Ex.au++(e.kids.drop acc.length).map Ex.au
theorem UM {pre:List aq} {acc:List Ex} {y:Ex} (h:acc.length<e.kids.length):(lI pre acc e).set (pre.length+acc.length) y.au=lI pre (acc++[y]) e:=by
 have h1:e.kids[acc.length]?=some (fL e acc.length):=by simp[fL,gE h]
 unfold lI
 rw[List.drop_eq_getElem_cons h,List.map_cons,List.set_append_right _ _ sm,lA,List.length_map,Nat.sub_self]
 simp
theorem UN {pre:List aq} {acc:List Ex} (h:acc.length<=e.kids.length):(lI pre acc e).length=pre.length+e.kids.length:=by
 simp[lI];omega
theorem UO {pre:List aq} {acc:List Ex} (h:acc.length=e.kids.length):lI pre acc e=pre++acc.map Ex.au:=by grind [lI]
structure RN (L:List Nat) (w:World) (br:Nat) (ag:List ai) (n:Nat):Prop where
 mem:br∈L
 box:∃vf,aJ w br [vf,.int .i64 (n:Int)].toArray 228∧bc L w vf ag
theorem RN.ext {br:Nat} {ag:List ai} (h:RN L w br ag n) (k:aj [] w w'):RN L w' br ag n:=let⟨v,h1,h2⟩:=h.box;⟨h.mem,v,h1.ext k,h2.ext k⟩
theorem RN.lt {br:Nat} {ag:List ai} (h:RN L w br ag n):br<w.heap.size:=let⟨_,h1,_⟩:=h.box;h1.lt
theorem RN.re {L':List Nat} {br:Nat} {ag:List ai} (h:RN L w br ag n) (hb:br∈L') (hL:∀x,x∈L'->x∈L∨w.heap.size<=x):RN L' w br ag n:=let⟨v,h1,h2⟩:=h.box;⟨hb,v,h1,h2.fresh hL⟩
theorem RN.aF {br:Nat} {ag:List ai} (h:RN L w br ag n) (k:aj G w w') (hb:br∉G) (hG:∀x,x∈G->x∈L):RN L w' br ag n:=
 let⟨v,h1,h2⟩:=h.box;⟨h.mem,v,h1.aF k hb,h2.aD k hG⟩
theorem RN.out {br:Nat} {ag:List ai} (h:RN G w br ag n) (k:Fr G w G' w') (ho:Out N G0 w w') (hb:br∈G0) (gN:br∈G'):RN G' w' br ag n:=
 let⟨v,h1,h2⟩:=h.box;⟨gN,v,ho.gX h1 hb,h2.go k⟩
theorem ED (c:UInt8) (ag:List ai) (n:Nat):bm c ag n<=n+ag.length+1:=(nU c ag n).2
theorem Nt (ag:List ai) (n:Nat) (hn:n<=100000) (hb:ag.length<=10000) (br:Nat) (L:List Nat) (w:World) (h:RN L w br ag n):
  bz Tryz.prog 241 [.pointer (some ⟨br,0,none⟩)] w λr w'=>(r=str (cK cx (bm cx ag n))∧RN L w' br ag (bm cx ag n+1))∧aj [br] w w':=by
 have Nu:=ED cx ag n
 have rM:=h.mem
 refine bS [.tmp 2] 26 Tryz.func241 rfl ab7 rfl rfl ?_
 refine W ?_
 refine eA (λk:Nat=>[(0,.pointer (some ⟨br,0,none⟩))]) (λk w'=>aj [br] w w'∧RN L w' br ag k∧n<=k∧bm cx ag k=bm cx ag n) (λk=>bm cx ag n+1-k) n rfl (⟨aj.refl _ _,h,lR _,rfl⟩) λgg w1 e1 hI=>?_
 obtain⟨hK,⟨_,vf,oh,fi⟩,hk,hq⟩:=hI
 have hle:=(nU cx ag gg).1
 refine W ?_
 refine aA (ir (gg+1) gg om om w1) ?_
 rintro _ w2 ⟨rfl,az⟩
 have dm:=az.size
 refine cN az hK oh fi λhK oh fi=>?_
 refine gV rfl rfl rfl rfl (by have:=Ej _ gg (lR _);simp;omega)<|W ?_
 refine gd (o:=1) oJ rfl rfl rfl oh rfl λw3 aH oh df=>?_
 have fi:=fi.aD aH (by simpa using rM)
 have hK:=hK.trans aH
 refine W ?_
 refine aA (AJ ag om (cK cx gg) _ _ w3 fi) ?_
 rintro _ w4 ⟨rfl,aO⟩
 have fE:=aO.size
 refine cN aO hK oh fi λhK oh fi=>?_
 refine kx rfl rfl rfl<|aZ<|zc rfl (λh1=>?_) (λh1=>?_)
 have my:cK cx gg∉ag:=(by simpa using h1)
 have GW:bm cx ag n=gg:=hq.symm.trans (Sh my)
 refine W ?_
 exact⟨_,rfl,⟨by rw[GW];rfl,rM,_,by rw[GW];exact oh,fi⟩,hK⟩
 have my:cK cx gg∈ag:=(by simpa using h1)
 have hfs:=Sg my
 have SU:=(nU cx ag (gg+1)).1
 refine WZ ?_
 exact⟨gg+1,rfl,⟨hK,⟨rM,vf,oh,fi⟩,om,om⟩,om⟩
theorem UP (ag:List ai) (ρ:Rn) (e:Ex) (n:Nat):∀k,k<=e.kids.length->n<=(ke ag ρ e n k).2∧(ke ag ρ e n k).2<=n+kN e k*(ag.length+2)
 |0,_=>by simp[ke]
 |k+1,hk=>by
  have h1:=UP ag ρ e n k om
  have h2:=iW ag (fL e k) ρ (ke ag ρ e n k).2
  rw[yv om,Nat.add_mul]
  show n<=(bH ag (fL e k) ρ (ke ag ρ e n k).2).2∧(bH ag (fL e k) ρ (ke ag ρ e n k).2).2<=_
  omega
theorem sS (ts:List aq) (i:Nat) (t:aq):(cT ts).set i t.enc=cT (ts.set i t):=by rw[zC,zC,List.map_set]
theorem UQ (ts:List aq):∀row,row∈cT ts->∀c,c∈row->∀v,c= .val v->v.oneCell'=true:=by
 intro row hr c hc v hv
 rw[zC] at hr
 obtain⟨t,_,rfl⟩:=List.mem_map.1 hr
 cases t with
 |mk a ps=>
  simp only[aq.enc,mC,List.not_mem_nil,or_false] at hc
  rcases hc with h|h
  ·subst h;cases hv;rfl
  ·subst h;cases hv
theorem dH.ext {T:TypeId} (h:dH L w T sz v g rows) (k:aj [] w w'):dH L w' T sz v g rows:=h.any k
theorem dH.grow {T:TypeId} (h:dH L w T sz v g rows):dH (w.heap.size::L) w T sz v g rows:=h.sub zD
theorem dH.aD {x:Nat} {T:TypeId} (h:dH (x::L) w T sz v g rows) (k:aj [x] w w') (hx:x∉g.toList):dH (x::L) w' T sz v g rows:=
 h.aF (Fr.of k sm) k λy hy wh=>hx (by simp at wh;subst wh;exact hy)
structure iQ (G:List Nat) (w0 w:World) (br:Nat) (ag:List ai) (n gb b8:Nat) (vP:Value) (ts:List aq):Prop where
 rn:RN G w br ag n
 own:dH G w 74 2 vP (some gb) (cT ts)
 kb:aj [br] w0 w
 bx:aJ w b8 [str [],.slice none 0 0].toArray 74
 mem:gb∈G∧b8∈G
 ne:br≠gb∧b8≠gb∧br≠b8
 low:w0.heap.size<=gb∧w0.heap.size<=b8
 cC:eO G w
section
variable {G:List Nat} {w0 w w':World} {br:Nat} {ag:List ai} {n gb b8:Nat} {vP:Value} {ts:List aq}
theorem iQ.ext (h:iQ G w0 w br ag n gb b8 vP ts) (k:aj [] w w'):iQ G w0 w' br ag n gb b8 vP ts:=
 ⟨h.rn.ext k,h.own.ext k,h.kb.ext k,h.bx.ext k,h.mem,h.ne,h.low,λx hx=>lL (h.cC x hx) k.size⟩
theorem iQ.out (h:iQ G w0 w br ag n gb b8 vP ts) (k:Fr G w G' w') (ho:Out w0.heap.size G0 w w') (hb:br∈G0∧gb∈G0∧b8∈G0) (gN:br∈G'∧gb∈G'∧b8∈G') (hl:eO G' w'):iQ G' w0 w' br ag n gb b8 vP ts:=
 ⟨h.rn.out k ho hb.1 gN.1,h.own.out k ho (by simpa using hb.2.1),ho.since h.kb,ho.gX h.bx hb.2.2,gN.2,h.ne,h.low,hl⟩
theorem iQ.call {n':Nat} (h:iQ G w0 w br ag n gb b8 vP ts) (hr:RN G w' br ag n') (k:aj [br] w w'):iQ G w0 w' br ag n' gb b8 vP ts:=
 ⟨hr,h.own.aF (Fr.of k (by simpa using h.rn.mem)) k (by intro x hx fj;simp at hx fj;exact h.ne.1 (fj.symm.trans hx)),h.kb.trans k,h.bx.aF k (by simpa using λe=>h.ne.2.2 e.symm),h.mem,h.ne,h.low,λx hx=>lL (h.cC x hx) k.size⟩
theorem iQ.store {ts':List aq} (h:iQ G w0 w br ag n gb b8 vP ts) (k:aj [gb] w w') (ho:dH G w' 74 2 vP (some gb) (cT ts')):iQ G w0 w' br ag n gb b8 vP ts':=
 ⟨h.rn.aF k (by simpa using h.ne.1) (by simpa using h.mem.1),ho,h.kb.since k (by intro x hx;simp at hx;subst hx;exact .inr h.low.1),h.bx.aF k (by simpa using h.ne.2.1),h.mem,h.ne,h.low,λx hx=>lL (h.cC x hx) k.size⟩
theorem iQ.ja (h:iQ G w0 w br ag n gb b8 vP ts):∀x,x∈[gb]->x∈G:=by simpa using h.mem.1
theorem iQ.nL (h:iQ G w0 w br ag n gb b8 vP ts):∀x,x∈[br]->x∈G:=by simpa using h.rn.mem
end
theorem iQ.fin {w0:World} {br:Nat} {ag:List ai} {gb b8:Nat} {vP:Value} {ts:List aq} (h:iQ (gb::b8::G) w0 w br ag n gb b8 vP ts) (hG:eO G w0) (oh:br∈G) (k:aj [b8] w w'):
  bB G w' (.agg #[str [],vP]) (.mk [] ts)∧RN G w' br ag n∧aj [br] w0 w':=by
 have oa:gb∉b8::G:=λhx=>by
  rcases mC.1 hx with h1|h1
  ·exact h.ne.2.1 h1.symm
  ·have:=hG gb h1;have:=h.low.1;omega
 have h1:bQ (b8::G) w vP (.sl 2 (cT ts)):=h.own.rep (λx hx=>.inl (by simpa using hx)) (by simpa using oa)
 have h2:bB (b8::G) w (.agg #[str [],vP]) (.mk [] ts):=kU h1
 refine⟨(h2.aD k sm).gP (λx hx=>mK _ hx),(h.rn.aF k (by simpa using h.ne.2.2) sm).re oh (λx hx=>.inl (by simp[hx])),h.kb.since k (λx hx=>?_)⟩
 simp at hx;subst hx;exact .inr h.low.2
theorem Nv (s:ai):cS G w [str s,.slice none 0 0] (bJ s).enc:=bB.kj (kU oH)
theorem afR (ag:List ai) (ρ:Rn) (n:Nat) {M:Nat} (ha:e.iv=false) (hl:isLt e=false) (hk:k<e.kids.length) (h1:ρ.length+2*e.n<=100000) (h2:n+e.n*(ag.length+2)<=100000) (hM:M<=nF ag n e+kN e k*(ag.length+2)):
  (iZ ag ρ n e).length+2*(fL e k).n<=100000∧M+(fL e k).n*(ag.length+2)<=100000:=by
 have h3:=yv hk
 have h4:=ED cx ag n
 have h5:=ED cx ag (bm cx ag n+1)
 have h6:(iZ ag ρ n e).length+2*(fL e k).n<=ρ.length+2*e.n∧nF ag n e+kN e (k+1)*(ag.length+2)<=n+e.n*(ag.length+2):=by
  cases e with
  |«at» s=>cases ha
  |lt x a b=>cases hl
  |fn f x A B b=>
   have fT:k=0:=by simp[Ex.kids] at hk;exact hk
   subst fT
   have e1:(fL (.fn f x A B b) 0).n=b.n:=rfl
   have e2:kN (.fn f x A B b) 1=b.n:=by simp[kN,Ex.kids]
   have e3:(Ex.fn f x A B b).n=3+A.n+B.n+b.n:=rfl
   rw[e1,e2,e3]
   simp only[iZ,nF,lA,lC,List.length_nil,Nat.add_mul]
   constructor<;>omega
  |un h a=>
   have:=Cw (.un h a) (k+1)
   exact⟨by show ρ.length+_<=_;omega,Nat.add_le_add_left (Nat.mul_le_mul_right _ this) _⟩
  |bi h a b=>
   have:=Cw (.bi h a b) (k+1)
   exact⟨by show ρ.length+_<=_;omega,Nat.add_le_add_left (Nat.mul_le_mul_right _ this) _⟩
  |ite a b c=>
   have:=Cw (.ite a b c) (k+1)
   exact⟨by show ρ.length+_<=_;omega,Nat.add_le_add_left (Nat.mul_le_mul_right _ this) _⟩
 rw[h3,Nat.add_mul] at h6
 omega
theorem afS (ag:List ai) (iq:ag.length<=10000):∀(m:Nat) (e:Ex),e.n<=m->e.n<=1000->e.ok->∀(ρ:Rn) (n:Nat),ρ.length+2*e.n<=100000->n+e.n*(ag.length+2)<=100000->∀(v vf vt:Value) (br:Nat) (G:List Nat) (w:World),
  bB G w v e.au->bc G w vf (ρ.map Prod.fst)->bc G w vt (ρ.map Prod.snd)->RN G w br ag n->eO G w->
  bz Tryz.prog 217 [v,vf,vt,.pointer (some ⟨br,0,none⟩)] w λr w'=>(bB G w' r (bH ag e ρ n).1.au∧RN G w' br ag (bH ag e ρ n).2)∧aj [br] w w':=by
 intro m
 induction m with
 |zero=>intro e h;have:=e.pos;omega
 |succ m ih=>
  intro e hm lD ba ρ n nZ oF v vf vt br G w cO Nw Nx CA hG
  obtain⟨a,np,c,rfl,hn,JK⟩:=cU cO
  subst hn
  obtain⟨af,nf,cf,rfl,ri⟩:=dJ Nw
  obtain⟨at_,nt,ct,rfl,Eb⟩:=dJ Nx
  have afT:(ρ.map Prod.fst).length=ρ.length:=by simp
  have aon:(ρ.map Prod.snd).length=ρ.length:=by simp
  have aoo:=CA.lt
  have hK:=aj.refl [] w
  have JB:=GP e
  have ua:=ED cx ag n
  have jq:=ED cx ag (bm cx ag n+1)
  have hB:e.n*(ag.length+2)<=100000:=by omega
  refine kW [.cell 8 74] 155 Tryz.func217 rfl abT rfl rfl rfl ?_
  refine zr<|eH rfl λw1 aI aG dk=>?_
  have hK:=hK.ext aI
  refine dy aL rfl rfl rfl λw2 az dh dC=>?_
  have hK:=hK.grow;have hK:=hK.ext az;have aG:=aG.grow;have aG:=aG.ext az
  refine W ?_
  refine zc rfl (λh1=>?_) (λh1=>?_)
  have aQ:∃x,e= .at x:=(by have ha:=(vD ba).1 h1;cases e<;>first|exact⟨_,rfl⟩|cases ha)
  obtain⟨x,rfl⟩:=aQ
  refine W ?_
  refine aA (vw _ _) ?_
  rintro _ _ ⟨rfl,rfl⟩
  refine aZ<|zc rfl (λh2=>?_) (λh2=>?_)
  have hq:(bH ag (.at x) ρ n).1.au=bJ (qj ρ x):=(show bJ (if dN x=true then qj ρ x else x)=bJ (qj ρ x) from congrArg bJ (iP h2))
  refine W ?_
  refine aA (afD (ρ.map Prod.fst) (ρ.map Prod.snd) om om x _ _ _ _ w2 (Nw.ext hK) (Nx.ext hK)) ?_
  rintro _ w3 ⟨rfl,aH⟩
  have fm:=aH.size
  refine bI aH hK dh λhK dh=>?_
  refine aA (AK _ w3) ?_
  rintro _ w4 ⟨rfl,aO⟩
  have fE:=aO.size
  refine bI aO hK dh λhK dh=>?_
  refine cJ aL rfl rfl rfl dh rfl λw5 aN dh ig=>?_
  have hK:=hK.aD aN sx
  refine W ?_
  have yx:=afC x ρ
  rw[<-afT] at yx
  exact⟨[_],ga eV aL rfl dh rfl,⟨by rw[hq,<-yx];exact kU oH,CA.ext hK⟩,hK.any⟩
  have hq:(bH ag (.at x) ρ n).1.au=bJ x:=(show bJ (if dN x=true then qj ρ x else x)=bJ x from congrArg bJ (iN (λhh=>Bool.noConfusion (hh.symm.trans h2))))
  refine W ?_
  refine cJ aL rfl rfl rfl dh rfl λw3 aH dh gJ=>?_
  have hK:=hK.aD aH sx
  refine W ?_
  exact⟨[_],ga eV aL rfl dh rfl,⟨by rw[hq];exact bB.ext cO hK,CA.ext hK⟩,hK.any⟩
  have eJ:e.iv=false:=(by cases hh:e.iv;rfl;exact absurd ((vD ba).2 hh) h1)
  obtain⟨GQ,ob,je,qz⟩:=Ex.ak eJ
  obtain⟨jn,Ew,Ey⟩:=GO ba eJ
  have GR:=Me ba eJ
  have lB:dW (nth e.au.ak 0).aw=(e.from,e.from+e.kids.length):=by rw[je];exact GR
  obtain⟨b,off,x6,ya,e0,ub,jV⟩:=eW JK jn
  subst e0
  have mG:=hK
  have GX:=aG
  have afU:=dh
  have afV:=dk
  have afW:=dC
  refine gY<|zr<|zI w2.heap.size (w1.heap.size::G) cz aL rfl rfl (lR _) (λx hx=>by rcases mC.1 hx with h|h;omega;have:=hG x h;omega) λw3 aH JL wX=>?_
  have jH:=aH
  refine bI aH aG dh λaG dh=>?_
  refine W ?_
  refine wP cz aL rfl rfl rfl rfl rfl rfl wX (eM.ext (bQ.fresh JK (L':=w2.heap.size::w1.heap.size::G) (by intro x hx;simp at hx;rcases hx with rfl|rfl|hx;right;omega;right;omega;exact .inl hx)) (mG.ext aH)) (UQ _) (by rw[ia];simp;omega) λa4 fR g4 w4 ku aO=>?_
  have jH:=wX.since jH aO
  have hK:=mG.trans jH
  have aG:=GX.ext jH
  have dh:=afU.ext jH
  have fE:=jH.size
  rw[show([]:List (List C)).length+(cT e.au.ak).length=e.au.ak.length from by rw[ia];simp] at ku⊢
  rw[List.nil_append] at ku
  obtain⟨gb,e4,e5⟩:=ku.form (by rw[ia];exact jn)
  subst e4
  subst e5
  have fG:gb<w4.heap.size:=ku.lt gb sm
  have EE:w2.heap.size<=gb:=ku.low gb rfl
  have hS:dH (gb::w1.heap.size::G) w4 74 2 (.slice (some ⟨gb,0,none⟩) e.au.ak.length fR) (some gb) (cT e.au.ak):=(let⟨xs,hr⟩:=ku.own;⟨⟨xs,hr.own,hr.rep⟩,hr.row⟩)
  refine js (LR _ _ _ _) rfl rfl<|dy aL rfl rfl rfl λw5 aN cW ig=>?_
  have hK:=hK.grow;have hK:=hK.ext aN;have aG:=aG.grow;have aG:=aG.ext aN;have dh:=dh.grow;have dh:=dh.ext aN;have hS:=hS.grow;have hS:=hS.ext aN
  refine cJ aL rfl rfl rfl cW rfl λw6 bN cW kI=>?_
  have hK:=hK.aD bN sx;have aG:=aG.aD bN sx;have dh:=dh.aD bN sx;have hS:=hS.aD bN sx
  refine aZ<|zr<|zf jv rfl<|zl iC rfl (aG.at rfl) ?_
  have kS:∀x,x∈gb::w1.heap.size::G->x∈G∨w.heap.size<=x:=(by intro x hx;simp at hx;rcases hx with rfl|rfl|hx;right;omega;right;omega;exact .inl hx)
  have jb:=hK.size
  have UR:eO (gb::w1.heap.size::G) w6:=(by intro x hx;simp at hx;rcases hx with rfl|rfl|hx;omega;omega;have:=hG x hx;omega)
  have EF:Fr G w (gb::w1.heap.size::G) w6:=⟨hK.any,kS⟩
  have aP:=JK.go EF
  have fi:=Nw.go EF
  have dZ:=Nx.go EF
  have ub:=ub.go EF
  have rj:RN (gb::w1.heap.size::G) w6 br ag n:=(CA.re (by simp[CA.mem]) kS).ext hK
  have eK:∀q,w.heap.size<=q->q≠gb->q≠w1.heap.size->q∉gb::w1.heap.size::G:=(by intro q h1 h2 h3 hx;simp at hx;rcases hx with h|h|h;exact h2 h;exact h3 h;have:=hG q h;omega)
  have aG:dM (gb::w1.heap.size::G) w6 w.heap.size _ _:=⟨aG,eK _ om om om⟩
  have cW:dM (gb::w1.heap.size::G) w6 w4.heap.size _ _:=⟨cW,eK _ om om om⟩
  have hS:=dH.sub hS (L':=gb::w1.heap.size::G) (λx hx=>.inl (mK _ hx))
  have aR:iQ (gb::w1.heap.size::G) w w6 br ag n gb w1.heap.size _ e.au.ak:=⟨rj,hS,hK.any,dh,sm,om,om,UR⟩
  have aQ:∃G2,G2=gb::w1.heap.size::G:=⟨_,rfl⟩
  obtain⟨G2,yy⟩:=aQ
  rw[<-yy] at aP fi dZ aG cW ub aR
  have fN:br∈G2∧gb∈G2∧w1.heap.size∈G2:=⟨aR.rn.mem,aR.mem⟩
  refine zi (i:=0) cz aL rfl rfl jn<|zf kY rfl<|zl gD rfl (ub.cells 0 _ rfl)<|aA (Jv _ _) ?_
  rintro _ _ ⟨rfl,rfl⟩
  rw[yr lB]
  refine WI ?_
  refine zi (i:=0) cz aL rfl rfl jn<|W ?_
  refine zc rfl (λh3=>?_) (λh3=>?_)
  obtain⟨nx,ea,eb,rfl⟩:=JI ba (je.symm.trans h3)
  have wY:(Ex.lt nx ea eb).n=2+ea.n+eb.n:=rfl
  have hmul:(Ex.lt nx ea eb).n*(ag.length+2)=2*(ag.length+2)+ea.n*(ag.length+2)+eb.n*(ag.length+2):=by rw[wY,Nat.add_mul,Nat.add_mul]
  have aop:=iW ag ea ρ (bm cx ag n+1)
  have JM:(Ex.lt nx ea eb).au.ak.length=4:=rfl
  refine zr<|zm<|aA (Nt ag n om iq br G2 w6 aR.rn) ?_
  rintro v7 w7 ⟨yA,bW⟩
  have lf:=bW.size
  have aP:=aP.aD bW (aR.nL);have fi:=fi.aD bW (aR.nL);have dZ:=dZ.aD bW (aR.nL);have aG:=aG.aD bW (aR.nL);have cW:=cW.aD bW aR.nL
  obtain⟨rfl,rj⟩:=yA
  have aR:=aR.call rj bW
  refine W ?_
  apply dV dj 5 [51,52,53,54,55] [[],[0],[],[2],[1]] (it [_,_,_,_,_]) de rfl
  intro wd aC
  refine VA ?_
  refine vk aC (λx w8 cE=>?_) ?_
  refine aA (AK _ w8) ?_
  rintro _ w9 ⟨rfl,aB⟩
  have o7:=aB.size
  exact pk aB
  refine vk aC (λx w8 cE=>?_) ?_
  refine zi (i:=1) cz aL rfl rfl ((show 1<4 from om)) ?_
  exact pv
  exact trivial
  intro x wZ l6
  refine tS l6 aP fi dZ aG cW aR λaP fi dZ aG cW aR=>?_
  change OW _ _ _ _ _ (bo (bj _ x _) (zZ 51 [_,_,_,_,_])) _
  refine sQ (i:=1) (vs:=[str (cK cx (bm cx ag n)),.slice none 0 0]) (row:=(bJ (cK cx (bm cx ag n))).enc) aL rfl rfl rfl rfl rfl aR.own aR.cC aR.mem.1 (by rw[ia];omega) rfl (oG _) (Nv _) λlJ lK rR dv=>?_
  rw[sS] at dv
  have aP:=aP.aD lK aR.ja;have fi:=fi.aD lK aR.ja;have dZ:=dZ.aD lK aR.ja;have aG:=aG.aD lK aR.ja;have cW:=cW.aD lK aR.ja
  have aR:=aR.store lK dv
  refine W ?_
  obtain⟨b2,lG,iA,iw,e2,bU,dI⟩:=eW aP (i:=2) om
  cases e2
  have dI:bB G2 lJ _ ea.au:=dI
  obtain⟨b3,AW,pP,pQ,e3,dO,dY⟩:=eW aP (i:=3) om
  cases e3
  have dY:bB G2 lJ _ eb.au:=dY
  obtain⟨b1,eX,gA,gm,e1,bK,cI⟩:=eW aP (i:=1) om
  cases e1
  apply jF dj G2 11 (rA 56 11) (rA 56 11) [[],[0],[],[2],[3],[4],[],[],[],(rA 5 4),[1]] [Ie.v _,Ie.v _,Ie.v _,Ie.v _,Ie.v _,Ie.v _,Ie.v _,Ie.v _,Ie.v _,Ie.e 0,Ie.v _] [9] [fun(G:List Nat) (vs:List Value) (ww:World)=>G=G2∧iQ G2 w ww br ag (bm cx ag n+1) gb w1.heap.size (.slice (some ⟨gb,0,none⟩) (Ex.lt nx ea eb).au.ak.length fR) (((Ex.lt nx ea eb).au.ak.set 1 (bJ (cK cx (bm cx ag n))))),fun(G:List Nat) (vs:List Value) (ww:World)=>G=G2∧iQ G2 w ww br ag ((bH ag ea ρ (bm cx ag n+1)).2) gb w1.heap.size (.slice (some ⟨gb,0,none⟩) (Ex.lt nx ea eb).au.ak.length fR) (((Ex.lt nx ea eb).au.ak.set 1 (bJ (cK cx (bm cx ag n)))))∧bB G2 ww (vs.getD 0 undef) (bH ag ea ρ (bm cx ag n+1)).1.au] de rfl aR.cC (by exact trivial) (by exact⟨λG vs w w' ⟨h1,h2⟩ k=>⟨h1,h2.ext k⟩,λG vs w w' ⟨h1,h2,h3⟩ k=>⟨h1,h2.ext k,h3.ext k⟩,trivial⟩) (⟨rfl,aR⟩)
  refine FA ?_
  refine vf (λ_ _ _ _ _ _=>zi (i:=2) cz aL rfl rfl ((show 2<4 from om)) fv) ?_
  refine FA ?_
  refine ve 0 (λx ot JN aS yB UT hJ hlen=>?_) ?_
  have aW:=jh hlen
  subst aW
  have fi:=fi.go yB;have dZ:=dZ.go yB;have dI:=dI.go yB
  obtain⟨bO,aR⟩:=hJ
  obtain rfl:G2=JN:=bO.symm
  refine aA (ih ea om om ba.2.1 ρ (bm cx ag n+1) om om _ _ _ br G2 ot dI fi dZ aR.rn aR.cC) ?_
  rintro CB ou ⟨⟨du,GY⟩,aB⟩
  exact fe G2 (Fr.of aB aR.nL) ((λq hq=>lL (aR.cC q hq) aB.size)) (⟨rfl,aR.call GY aB,du⟩)
  refine vf (λ_ _ _ _ _ _=>zi (i:=2) cz aL rfl rfl ((show 2<4 from om)) fv) ?_
  exact trivial
  intro x GZ G88 aS CC aoq hJ hlen
  obtain⟨q0,aW⟩:=ji hlen
  subst aW
  have fi:=fi.go CC;have dZ:=dZ.go CC;have aG:=aG.go CC;have cW:=cW.go CC;have dO:=dO.go CC;have dY:=dY.go CC;have bK:=bK.go CC
  change OW _ _ _ _ _ (bo (bj _ x _) (zZ 56 [_,_,_,_,_,_,_,_,_,_,_])) _
  obtain⟨bO,aR,du⟩:=hJ
  obtain rfl:G2=G88:=bO.symm
  obtain⟨a7,n7,c7,e7,_,_⟩:=cU du
  have e8:q0=_:=e7
  subst e8
  refine sQ (i:=2) (vs:=[str (bH ag ea ρ (bm cx ag n+1)).1.au.aw,.slice a7 n7 c7]) (row:=(bH ag ea ρ (bm cx ag n+1)).1.au.enc) aL rfl rfl rfl rfl rfl aR.own aR.cC aR.mem.1 (by rw[ia];rw[List.length_set];omega) rfl (oG _) ((show bB G2 _ (.agg #[_,_]) _ from du).kj) λxd xe rR dv=>?_
  rw[sS] at dv
  have fi:=fi.aD xe aR.ja;have dZ:=dZ.aD xe aR.ja;have aG:=aG.aD xe aR.ja;have cW:=cW.aD xe aR.ja;have dO:=dO.aD xe aR.ja;have dY:=dY.aD xe aR.ja;have bK:=bK.aD xe aR.ja
  have aR:=aR.store xe dv
  refine W ?_
  have x4:=aR.kb.size
  apply jF dj G2 25 (rA 67 25) (rA 67 25) [[],[0],[],[2],[3],[4],[],[],[6,7],[],[9],[10],[11],[12],[13],[8,14],[],[],[16,17],[],[19],[18,20],[],[5,15,21,22],[1]] [Ie.v _,Ie.v _,Ie.v _,Ie.v _,Ie.v _,Ie.v _,Ie.p (fun(G:List Nat) (v:Value) (ww:World)=>∃bb,v= .slice (some ⟨bb,0,none⟩) 0 0∧w.heap.size<=bb∧dM G ww bb #[] 9),Ie.v _,Ie.e 0,Ie.v _,Ie.v _,Ie.v _,Ie.v _,Ie.v _,Ie.p (fun(G:List Nat) (v:Value) (ww:World)=>bc G ww v [nx]),Ie.e 1,Ie.p (fun(G:List Nat) (v:Value) (ww:World)=>∃bb,v= .slice (some ⟨bb,0,none⟩) 0 0∧w.heap.size<=bb∧dM G ww bb #[] 9),Ie.v _,Ie.e 2,Ie.v _,Ie.p (fun(G:List Nat) (v:Value) (ww:World)=>bc G ww v [(cK cx (bm cx ag n))]),Ie.e 3,Ie.v _,Ie.e 4,Ie.v _] [8,15,18,21,23] [fun(G:List Nat) (vs:List Value) (ww:World)=>G=G2∧iQ G2 w ww br ag ((bH ag ea ρ (bm cx ag n+1)).2) gb w1.heap.size (.slice (some ⟨gb,0,none⟩) (Ex.lt nx ea eb).au.ak.length fR) ((((Ex.lt nx ea eb).au.ak.set 1 (bJ (cK cx (bm cx ag n)))).set 2 (bH ag ea ρ (bm cx ag n+1)).1.au)),fun(G:List Nat) (vs:List Value) (ww:World)=>(∀q,q∈G2->q∈G)∧iQ G w ww br ag ((bH ag ea ρ (bm cx ag n+1)).2) gb w1.heap.size (.slice (some ⟨gb,0,none⟩) (Ex.lt nx ea eb).au.ak.length fR) ((((Ex.lt nx ea eb).au.ak.set 1 (bJ (cK cx (bm cx ag n)))).set 2 (bH ag ea ρ (bm cx ag n+1)).1.au))∧LP w.heap.size G G2 ww 9 (vs.getD 0 undef) (ρ.map Prod.fst),fun(G:List Nat) (vs:List Value) (ww:World)=>G=G2∧iQ G2 w ww br ag ((bH ag ea ρ (bm cx ag n+1)).2) gb w1.heap.size (.slice (some ⟨gb,0,none⟩) (Ex.lt nx ea eb).au.ak.length fR) ((((Ex.lt nx ea eb).au.ak.set 1 (bJ (cK cx (bm cx ag n)))).set 2 (bH ag ea ρ (bm cx ag n+1)).1.au))∧bc G2 ww (vs.getD 1 undef) ((ρ.map Prod.fst)++[nx]),fun(G:List Nat) (vs:List Value) (ww:World)=>(∀q,q∈G2->q∈G)∧iQ G w ww br ag ((bH ag ea ρ (bm cx ag n+1)).2) gb w1.heap.size (.slice (some ⟨gb,0,none⟩) (Ex.lt nx ea eb).au.ak.length fR) ((((Ex.lt nx ea eb).au.ak.set 1 (bJ (cK cx (bm cx ag n)))).set 2 (bH ag ea ρ (bm cx ag n+1)).1.au))∧bc G ww (vs.getD 1 undef) ((ρ.map Prod.fst)++[nx])∧LP w.heap.size G G2 ww 9 (vs.getD 2 undef) (ρ.map Prod.snd),fun(G:List Nat) (vs:List Value) (ww:World)=>G=G2∧iQ G2 w ww br ag ((bH ag ea ρ (bm cx ag n+1)).2) gb w1.heap.size (.slice (some ⟨gb,0,none⟩) (Ex.lt nx ea eb).au.ak.length fR) ((((Ex.lt nx ea eb).au.ak.set 1 (bJ (cK cx (bm cx ag n)))).set 2 (bH ag ea ρ (bm cx ag n+1)).1.au))∧bc G2 ww (vs.getD 1 undef) ((ρ.map Prod.fst)++[nx])∧bc G2 ww (vs.getD 3 undef) ((ρ.map Prod.snd)++[(cK cx (bm cx ag n))]),fun(G:List Nat) (vs:List Value) (ww:World)=>G=G2∧iQ G2 w ww br ag ((bH ag eb (ρ++[(nx,(cK cx (bm cx ag n)))]) (bH ag ea ρ (bm cx ag n+1)).2).2) gb w1.heap.size (.slice (some ⟨gb,0,none⟩) (Ex.lt nx ea eb).au.ak.length fR) ((((Ex.lt nx ea eb).au.ak.set 1 (bJ (cK cx (bm cx ag n)))).set 2 (bH ag ea ρ (bm cx ag n+1)).1.au))∧bB G2 ww (vs.getD 4 undef) (bH ag eb (ρ++[(nx,(cK cx (bm cx ag n)))]) (bH ag ea ρ (bm cx ag n+1)).2).1.au] de rfl aR.cC (by exact⟨λG v w G' w' ⟨bb,e,h0,h⟩ k=>⟨bb,e,h0,h.go k⟩,λG v w G' w' h k=>bc.go h k,λG v w G' w' ⟨bb,e,h0,h⟩ k=>⟨bb,e,h0,h.go k⟩,λG v w G' w' h k=>bc.go h k,trivial⟩) (by exact⟨λG vs w w' ⟨h1,h2⟩ k=>⟨h1,h2.ext k⟩,λG vs w w' ⟨h1,h2,h3⟩ k=>⟨h1,h2.ext k,h3.ext k⟩,λG vs w w' ⟨h1,h2,h3⟩ k=>⟨h1,h2.ext k,h3.ext k⟩,λG vs w w' ⟨h1,h2,h3,h4⟩ k=>⟨h1,h2.ext k,h3.ext k,h4.ext k⟩,λG vs w w' ⟨h1,h2,h3,h4⟩ k=>⟨h1,h2.ext k,h3.ext k,h4.ext k⟩,λG vs w w' ⟨h1,h2,h3⟩ k=>⟨h1,h2.ext k,h3.ext k⟩,trivial⟩) (⟨rfl,aR⟩)
  refine FA ?_
  refine vf (λ_ _ _ _ _ _=>zi (i:=3) cz aL rfl rfl ((show 3<4 from om)) fv) ?_
  refine FA ?_
  refine vf (λx kF l7 aS jz mH=>?_) ?_
  refine fQ bh bf ?_
  intro qB yC Ny JO
  exact ff yC (⟨_,rfl,(by have h1:=jz.aF.size;omega),Ny.o mH⟩)
  refine FA ?_
  refine ve 0 (λx kF l7 aS jz mH hJ hlen=>?_) ?_
  have aW:=jh hlen
  subst aW
  have fi:=fi.go jz
  intro v6 d6
  obtain⟨bb,e6,CD,fH⟩:=d6
  subst e6
  obtain⟨bO,aR⟩:=hJ
  obtain rfl:G2=l7:=bO.symm
  refine GL (N:=w.heap.size) bh bf rfl rfl rfl rfl rfl rfl fH CD fi aR.cC om λv9 qB G9 kt vE cP eu pU=>?_
  exact fe G9 cP eu (⟨kt,aR.out cP pU ⟨fN.1,fN.2.1,fN.2.2⟩ ⟨kt _ fN.1,kt _ fN.2.1,kt _ fN.2.2⟩ eu,vE⟩)
  refine FA ?_
  refine vf (λ_ _ _ _ _ _=>zi (i:=1) cz aL rfl rfl ((show 1<4 from om)) fv) ?_
  refine FA ?_
  refine vf (λx kF l7 aS jz mH=>?_) ?_
  refine fc bh bf rfl rfl ?_
  intro qB yC EG JO
  exact ff yC (aJ.dK [nx] EG (λhx=>by have:=mH _ hx;omega))
  refine ve 1 (λx kF l7 aS jz mH hJ hlen=>?_) ?_
  obtain⟨q0,aW⟩:=ji hlen
  subst aW
  intro l8 d14
  obtain⟨jU,aR,Ha⟩:=hJ
  refine Jx bh bf rfl rfl rfl rfl rfl rfl Ha d14 aR.cC jU so λv9 qB jA cP eu pU=>?_
  exact fe G2 cP eu (⟨rfl,aR.out cP pU ⟨fN.1,fN.2.1,fN.2.2⟩ ⟨fN.1,fN.2.1,fN.2.2⟩ eu,jA⟩)
  refine vf (λx kF l7 aS jz mH=>?_) ?_
  refine fQ bh bf λqB yC afY JO=>?_
  exact ff yC (⟨_,rfl,(by have h1:=jz.aF.size;omega),afY.o mH⟩)
  refine FA ?_
  refine ve 2 (λx kF l7 aS jz mH hJ hlen=>?_) ?_
  obtain⟨q0,q1,aW⟩:=k9 hlen
  subst aW
  have dZ:=dZ.go jz
  intro CE d16
  obtain⟨bb,e6,CD,fH⟩:=d16
  subst e6
  obtain⟨bO,aR,rk⟩:=hJ
  obtain rfl:G2=l7:=bO.symm
  refine GL (N:=w.heap.size) bh bf rfl rfl rfl rfl rfl rfl fH CD dZ aR.cC om λv9 qB G9 kt vE cP eu pU=>?_
  exact fe G9 cP eu (⟨kt,aR.out cP pU ⟨fN.1,fN.2.1,fN.2.2⟩ ⟨kt _ fN.1,kt _ fN.2.1,kt _ fN.2.2⟩ eu,rk.go cP,vE⟩)
  refine FA ?_
  refine vf (λx kF l7 aS jz mH=>?_) ?_
  refine fc bh bf rfl rfl λqB yC afZ JO=>?_
  exact ff yC (aJ.dK [(cK cx (bm cx ag n))] afZ (λhx=>by have:=mH _ hx;omega))
  refine ve 3 (λx kF l7 aS jz mH hJ hlen=>?_) ?_
  obtain⟨q0,q1,q2,aW⟩:=Aj hlen
  subst aW
  intro v20 d20
  obtain⟨jU,aR,rk,Ha⟩:=hJ
  refine Jx bh bf rfl rfl rfl rfl rfl rfl Ha d20 aR.cC jU so λv9 qB jA cP eu pU=>?_
  exact fe G2 cP eu (⟨rfl,aR.out cP pU ⟨fN.1,fN.2.1,fN.2.2⟩ ⟨fN.1,fN.2.1,fN.2.2⟩ eu,rk.go cP,jA⟩)
  refine FA ?_
  refine ve 4 (λx kF l7 aS jz mH hJ hlen=>?_) ?_
  obtain⟨q0,q1,q2,q3,aW⟩:=Mx hlen
  subst aW
  have dY:=dY.go jz
  obtain⟨bO,aR,rk,af0⟩:=hJ
  obtain rfl:G2=l7:=bO.symm
  refine aA (ih eb om om ba.2.2 (ρ++[(nx,(cK cx (bm cx ag n)))]) (bH ag ea ρ (bm cx ag n+1)).2 so om _ _ _ br G2 kF dY (by rw[List.map_append];exact rk) (by rw[List.map_append];exact af0) aR.rn aR.cC) ?_
  rintro CB qB ⟨⟨du,GY⟩,aB⟩
  exact fe G2 (Fr.of aB aR.nL) ((λq hq=>lL (aR.cC q hq) aB.size)) (⟨rfl,aR.call GY aB,du⟩)
  refine vf (λ_ _ _ _ _ _=>zi (i:=3) cz aL rfl rfl ((show 3<4 from om)) fv) ?_
  exact trivial
  intro x JP UU aS Nz af1 hJ hlen
  obtain⟨q0,q1,q2,q3,q4,aW⟩:=SG hlen
  subst aW
  intro v6 d6
  intro l8 d14
  intro CE d16
  intro v20 d20
  have cW:=cW.go Nz
  change OW _ _ _ _ _ (bo (bj _ x _) (zZ 67 [_,_,_,_,_,_,_,_,_,_,_,_,_,_,_,_,_,_,_,_,_,_,_,_,_])) _
  obtain⟨bO,aR,du⟩:=hJ
  obtain rfl:G2=UU:=bO.symm
  obtain⟨a7,n7,c7,e7,_,_⟩:=cU du
  have e8:q4=_:=e7
  subst e8
  refine sQ (i:=3) (vs:=[str (bH ag eb (ρ++[(nx,(cK cx (bm cx ag n)))]) (bH ag ea ρ (bm cx ag n+1)).2).1.au.aw,.slice a7 n7 c7]) (row:=(bH ag eb (ρ++[(nx,(cK cx (bm cx ag n)))]) (bH ag ea ρ (bm cx ag n+1)).2).1.au.enc) aL rfl rfl rfl rfl rfl aR.own aR.cC aR.mem.1 (by rw[ia];rw[List.length_set,List.length_set];omega) rfl (oG _) ((show bB G2 _ (.agg #[_,_]) _ from du).kj) λNA CF rR dv=>?_
  rw[sS] at dv
  have cW:=cW.aD CF aR.ja
  have aR:=aR.store CF dv
  refine W ?_
  refine cJ aL rfl rfl rfl aR.bx rfl λaf2 NB dh ld=>?_
  subst yy
  obtain⟨rS,rU,vF⟩:=aR.fin hG CA.mem NB
  refine W ?_
  exact⟨[_],ga eV aL rfl dh rfl,⟨rS,rU⟩,vF⟩
  have JQ:isLt e=false:=not_lt (λhh=>h3 (je.trans hh))
  have UW:=afN ag ρ n eJ JQ
  have UX:=afO ag n eJ JQ
  have kf:=Fr.refl G2 w6
  have x4:=aR.kb.size
  refine WI ?_
  refine zi (i:=0) cz aL rfl rfl jn<|W ?_
  refine ix (λq:Value×Value=>[(1,q.1),(2,q.2),(3,.pointer (some ⟨br,0,none⟩)),(4,.pointer (some ⟨w.heap.size,0,none⟩)),(8,.pointer (some ⟨w1.heap.size,0,none⟩)),(9,.pointer (some ⟨w4.heap.size,0,none⟩)),(10,.int .i64 (e.from:Int)),(11,.int .i64 ((e.from+e.kids.length:Nat):Int))]) (λq ww=>Fr G2 w6 G2 ww∧iQ G2 w ww br ag (nF ag n e) gb w1.heap.size (.slice (some ⟨gb,0,none⟩) e.au.ak.length fR) (lI (wW ag n e) [] e)∧bc G2 ww q.1 ((iZ ag ρ n e).map Prod.fst)∧bc G2 ww q.2 ((iZ ag ρ n e).map Prod.snd)) ?_ ?_
  refine zc rfl (λh4=>?_) (λh4=>?_)
  obtain⟨nf,nx,tA,tB,eb,rfl⟩:=JJ ba (je.symm.trans h4)
  have wY:(Ex.fn nf nx tA tB eb).n=3+tA.n+tB.n+eb.n:=rfl
  have hmul:(Ex.fn nf nx tA tB eb).n*(ag.length+2)=3*(ag.length+2)+tA.n*(ag.length+2)+tB.n*(ag.length+2)+eb.n*(ag.length+2):=by rw[wY,Nat.add_mul,Nat.add_mul,Nat.add_mul]
  have JR:(Ex.fn nf nx tA tB eb).au.ak.length=6:=rfl
  refine zr<|zm<|aA (Nt ag n om iq br G2 w6 aR.rn) ?_
  rintro v7 w7 ⟨yA,bW⟩
  have lf:=bW.size
  have aP:=aP.aD bW (aR.nL);have fi:=fi.aD bW (aR.nL);have dZ:=dZ.aD bW (aR.nL);have aG:=aG.aD bW (aR.nL);have cW:=cW.aD bW (aR.nL);have kf:=kf.aD bW aR.nL
  obtain⟨rfl,rj⟩:=yA
  have aR:=aR.call rj bW
  refine W ?_
  refine aA (Nt ag (bm cx ag n+1) om iq br G2 w7 aR.rn) ?_
  rintro v8 w8 ⟨Hb,cE⟩
  have AX:=cE.size
  have aP:=aP.aD cE (aR.nL);have fi:=fi.aD cE (aR.nL);have dZ:=dZ.aD cE (aR.nL);have aG:=aG.aD cE (aR.nL);have cW:=cW.aD cE (aR.nL);have kf:=kf.aD cE aR.nL
  obtain⟨rfl,rj⟩:=Hb
  have aR:=aR.call rj cE
  refine W ?_
  apply dV dj 5 [103,104,105,106,107] [[],[0],[],[2],[1]] (it [_,_,_,_,_]) de rfl
  intro wd aC
  refine VA ?_
  refine vk aC (λx w9 aB=>?_) ?_
  refine aA (AK _ w9) ?_
  rintro _ cu ⟨rfl,cB⟩
  have CG:=cB.size
  exact pk cB
  refine vk aC (λx w9 aB=>?_) ?_
  refine zi (i:=1) cz aL rfl rfl ((show 1<6 from om)) ?_
  exact pv
  exact trivial
  intro x lJ lK
  refine I4 lK aP fi dZ aG cW kf aR λaP fi dZ aG cW kf aR=>?_
  change OW _ _ _ _ _ (bo (bj _ x _) (zZ 103 [_,_,_,_,_])) _
  refine sQ (i:=1) (vs:=[str (cK cx (bm cx ag n)),.slice none 0 0]) (row:=(bJ (cK cx (bm cx ag n))).enc) aL rfl rfl rfl rfl rfl aR.own aR.cC aR.mem.1 (by rw[ia];omega) rfl (oG _) (Nv _) λot iE rR dv=>?_
  rw[sS] at dv
  have aP:=aP.aD iE aR.ja;have fi:=fi.aD iE aR.ja;have dZ:=dZ.aD iE aR.ja;have aG:=aG.aD iE aR.ja;have cW:=cW.aD iE aR.ja;have kf:=kf.aD iE aR.ja
  have aR:=aR.store iE dv
  refine W ?_
  apply dV dj 5 [108,109,110,111,112] [[],[0],[],[2],[1]] (it [_,_,_,_,_]) de rfl
  intro wd aC
  refine VA ?_
  refine vk aC (λx ou lM=>?_) ?_
  refine aA (AK _ ou) ?_
  rintro _ lg ⟨rfl,kP⟩
  have aor:=kP.size
  exact pk kP
  refine vk aC (λx ou lM=>?_) ?_
  refine zi (i:=2) cz aL rfl rfl ((show 2<6 from om)) ?_
  exact pv
  exact trivial
  intro x xd xe
  refine tS xe aP fi dZ aG kf aR λaP fi dZ aG kf aR=>?_
  change OW _ _ _ _ _ (bo (bj _ x _) (zZ 108 [_,_,_,_,_])) _
  refine sQ (i:=2) (vs:=[str (cK cx (bm cx ag (bm cx ag n+1))),.slice none 0 0]) (row:=(bJ (cK cx (bm cx ag (bm cx ag n+1)))).enc) aL rfl rfl rfl rfl rfl aR.own aR.cC aR.mem.1 (by rw[ia];rw[List.length_set];omega) rfl (oG _) (Nv _) λkF ug rR dv=>?_
  rw[sS] at dv
  have aP:=aP.aD ug aR.ja;have fi:=fi.aD ug aR.ja;have dZ:=dZ.aD ug aR.ja;have aG:=aG.aD ug aR.ja;have kf:=kf.aD ug aR.ja
  have aR:=aR.store ug dv
  refine W ?_
  have x4:=aR.kb.size
  obtain⟨b1,eX,gA,gm,e1,bK,cI⟩:=eW aP (i:=1) om
  cases e1
  obtain⟨b2,lG,iA,iw,e2,bU,dI⟩:=eW aP (i:=2) om
  cases e2
  apply jF dj G2 15 (rA 113 15) (rA 113 15) [[],[],[0,1],[],[3],[4],[5],[6],[],[8],[9],[10],[11],[7,12],[2,13]] [Ie.p (fun(G:List Nat) (v:Value) (ww:World)=>∃bb,v= .slice (some ⟨bb,0,none⟩) 0 0∧w.heap.size<=bb∧dM G ww bb #[] 9),Ie.v _,Ie.e 0,Ie.v _,Ie.v _,Ie.v _,Ie.v _,Ie.v _,Ie.v _,Ie.v _,Ie.v _,Ie.v _,Ie.v _,Ie.p (fun(G:List Nat) (v:Value) (ww:World)=>bc G ww v [nf,nx]),Ie.e 1] [2,14] [fun(G:List Nat) (vs:List Value) (ww:World)=>G=G2∧iQ G2 w ww br ag (bm cx ag (bm cx ag n+1)+1) gb w1.heap.size (.slice (some ⟨gb,0,none⟩) (Ex.fn nf nx tA tB eb).au.ak.length fR) ((((Ex.fn nf nx tA tB eb).au.ak.set 1 (bJ (cK cx (bm cx ag n)))).set 2 (bJ (cK cx (bm cx ag (bm cx ag n+1)))))),fun(G:List Nat) (vs:List Value) (ww:World)=>(∀q,q∈G2->q∈G)∧iQ G w ww br ag (bm cx ag (bm cx ag n+1)+1) gb w1.heap.size (.slice (some ⟨gb,0,none⟩) (Ex.fn nf nx tA tB eb).au.ak.length fR) ((((Ex.fn nf nx tA tB eb).au.ak.set 1 (bJ (cK cx (bm cx ag n)))).set 2 (bJ (cK cx (bm cx ag (bm cx ag n+1))))))∧LP w.heap.size G G2 ww 9 (vs.getD 0 undef) (ρ.map Prod.fst),fun(G:List Nat) (vs:List Value) (ww:World)=>G=G2∧iQ G2 w ww br ag (bm cx ag (bm cx ag n+1)+1) gb w1.heap.size (.slice (some ⟨gb,0,none⟩) (Ex.fn nf nx tA tB eb).au.ak.length fR) ((((Ex.fn nf nx tA tB eb).au.ak.set 1 (bJ (cK cx (bm cx ag n)))).set 2 (bJ (cK cx (bm cx ag (bm cx ag n+1))))))∧bc G2 ww (vs.getD 1 undef) ((ρ.map Prod.fst)++[nf,nx])] de rfl aR.cC (by exact⟨λG v w G' w' ⟨bb,e,h0,h⟩ k=>⟨bb,e,h0,h.go k⟩,λG v w G' w' h k=>bc.go h k,trivial⟩) (by exact⟨λG vs w w' ⟨h1,h2⟩ k=>⟨h1,h2.ext k⟩,λG vs w w' ⟨h1,h2,h3⟩ k=>⟨h1,h2.ext k,h3.ext k⟩,λG vs w w' ⟨h1,h2,h3⟩ k=>⟨h1,h2.ext k,h3.ext k⟩,trivial⟩) (⟨rfl,aR⟩)
  refine vf (λx qB JS aS Hc He=>?_) ?_
  refine fQ bh bf λCH yD af3 af4=>?_
  exact ff yD (⟨_,rfl,(by have h1:=Hc.aF.size;omega),af3.o He⟩)
  refine FA ?_
  refine ve 0 (λx qB JS aS Hc He hJ hlen=>?_) ?_
  have aW:=jh hlen
  subst aW
  have fi:=fi.go Hc
  intro v0 d0
  obtain⟨bb,e6,CD,fH⟩:=d0
  subst e6
  obtain⟨bO,aR⟩:=hJ
  obtain rfl:G2=JS:=bO.symm
  refine GL (N:=w.heap.size) bh bf rfl rfl rfl rfl rfl rfl fH CD fi aR.cC om λv9 CH G9 kt vE cP eu pU=>?_
  exact fe G9 cP eu (⟨kt,aR.out cP pU ⟨fN.1,fN.2.1,fN.2.2⟩ ⟨kt _ fN.1,kt _ fN.2.1,kt _ fN.2.2⟩ eu,vE⟩)
  refine FA ?_
  refine vf (λ_ _ _ _ _ _=>zi (i:=1) cz aL rfl rfl ((show 1<6 from om)) fv) ?_
  refine FA ?_
  refine vf (λ_ _ _ _ _ _=>zi (i:=2) cz aL rfl rfl ((show 2<6 from om)) fv) ?_
  refine FA ?_
  refine vf (λx qB JS aS Hc He=>?_) ?_
  refine kJ bh bf rfl rfl rfl rfl ?_
  intro CH yD af5 af4
  exact ff yD (aJ.dK [nf,nx] af5 (λhx=>by have:=He _ hx;omega))
  refine ve 1 (λx qB JS aS Hc He hJ hlen=>?_) ?_
  obtain⟨q0,aW⟩:=ji hlen
  subst aW
  intro Hf d13
  obtain⟨jU,aR,Ha⟩:=hJ
  refine Jx bh bf rfl rfl rfl rfl rfl rfl Ha d13 aR.cC jU so λv9 CH jA cP eu pU=>?_
  exact fe G2 cP eu (⟨rfl,aR.out cP pU ⟨fN.1,fN.2.1,fN.2.2⟩ ⟨fN.1,fN.2.1,fN.2.2⟩ eu,jA⟩)
  exact trivial
  intro x NA af6 aS UY aos hJ hlen
  obtain⟨q0,q1,aW⟩:=k9 hlen
  subst aW
  intro v0 d0
  intro Hf d13
  have dZ:=dZ.go UY;have kf:=kf.go UY
  change OW _ _ _ _ _ (bo (bj _ x _) (zZ 113 [_,_,_,_,_,_,_,_,_,_,_,_,_,_,_])) _
  obtain⟨bO,aR,rk⟩:=hJ
  obtain rfl:G2=af6:=bO.symm
  refine zA<|aZ<|kH<|fQ bh bf λaf2 NB NC aot=>?_
  have cR:=aR.cC
  have x4:=aR.kb.size
  refine ie NB aR dZ kf rk λaR dZ kf rk=>?_
  have uh:=NC.o cR
  refine zm<|GL (N:=w.heap.size) bh bf rfl rfl rfl rfl rfl rfl uh om dZ aR.cC om λv9 aou G9 kt vE cP eu pU=>?_
  have aR:=aR.out cP pU ⟨fN.1,fN.2.1,fN.2.2⟩ ⟨kt _ fN.1,kt _ fN.2.1,kt _ fN.2.2⟩ eu
  have kf:=kf.go cP;have rk:=rk.go cP
  refine zm<|zm<|kJ bh bf rfl rfl rfl rfl λaov af7 af8 aow=>ie af7 kf rk vE aR λkf rk vE aR=>?_
  refine Jx bh bf rfl rfl rfl rfl rfl rfl vE (aJ.dK [(cK cx (bm cx ag n)),(cK cx (bm cx ag (bm cx ag n+1)))] af8 (λhx=>by have:=eu _ hx;omega)) aR.cC kt (show(ρ.map Prod.snd).length+2<100000000 from om) λv10 aox xf cP EH pU=>?_
  have aR:=aR.out cP pU ⟨fN.1,fN.2.1,fN.2.2⟩ ⟨fN.1,fN.2.1,fN.2.2⟩ EH
  have kf:=kf.go cP;have rk:=rk.go cP
  refine W ?_
  exact⟨(_,_),⟨rfl,rfl,rfl,rfl,rfl,rfl,rfl,rfl⟩,⟨kf,aR,by show bc G2 _ _ ((ρ++_).map Prod.fst);rw[List.map_append];exact rk,by show bc G2 _ _ ((ρ++_).map Prod.snd);rw[List.map_append];exact xf⟩⟩
  have ri:e.head≠gF:=λhh=>h4 (je.trans hh)
  have sI:=afP ag n ba eJ ri
  have vG:=UK eJ JQ ri
  refine gY ?_
  exact⟨(_,_),⟨rfl,rfl,rfl,rfl,rfl,rfl,rfl,rfl⟩,⟨kf,by rw[sI.2,sI.1,show lI [bJ e.head] [] e=e.au.ak from by rw[vG];simp[lI]];exact aR,by rw[UI ag ρ n ri];exact fi,by rw[UI ag ρ n ri];exact dZ⟩⟩
  intro gu w7 e7 hI
  obtain⟨vf2,Cp⟩:=gu
  dsimp only at hI⊢
  obtain⟨kf,aR,fi,dZ⟩:=hI
  have aP:=aP.go kf;have aG:=aG.go kf;have cW:=cW.go kf
  refine jL<|zr<|zm<|zA<|aZ<|tj ?_
  refine eA (λk:Nat=>[(1,vf2),(2,Cp),(3,.pointer (some ⟨br,0,none⟩)),(4,.pointer (some ⟨w.heap.size,0,none⟩)),(8,.pointer (some ⟨w1.heap.size,0,none⟩)),(9,.pointer (some ⟨w4.heap.size,0,none⟩)),(11,.int .i64 ((e.from+e.kids.length:Nat):Int)),(15,.int .i64 ((e.from+k:Nat):Int))]) (λk ww=>Fr G2 w7 G2 ww∧iQ G2 w ww br ag ((ke ag (iZ ag ρ n e) e (nF ag n e) k).2) gb w1.heap.size (.slice (some ⟨gb,0,none⟩) e.au.ak.length fR) (lI (wW ag n e) (ke ag (iZ ag ρ n e) e (nF ag n e) k).1 e)∧k<=e.kids.length) (λk=>e.kids.length-k) (0) (⟨rfl,rfl,rfl,rfl,rfl,rfl,rfl,rfl⟩) (⟨Fr.refl _ _,aR,om⟩) ?_
  intro gg w8 e8 hI
  obtain⟨o8,aR,hk⟩:=hI
  have aP:=aP.go o8;have fi:=fi.go o8;have dZ:=dZ.go o8;have aG:=aG.go o8;have cW:=cW.go o8
  refine jL<|zr<|zm<|zm<|H9 rfl rfl rfl rfl rfl<|aZ<|zc rfl (λh5=>?_) (λh5=>?_)
  have gL:gg<e.kids.length:=om
  have qo:=qz gg gL
  obtain⟨b1,eX,gA,gm,e1,bK,cI⟩:=eW aP (i:=e.from+gg) om
  cases e1
  have cI:=cI.eq qo
  have tZ:=F5 ba gL
  have fb:=UH ag (iZ ag ρ n e) e (nF ag n e) gg
  have AV:=UP ag (iZ ag ρ n e) e (nF ag n e) gg om
  have BI:=yv gL
  have kv:=afR ag ρ n eJ JQ gL nZ oF AV.2
  refine gY<|jL<|tj ?_
  apply jF dj G2 13 (rA 141 13) (rA 141 13) [[],[0],[],[],[3],[],[4,5],[6],[],[],[],(rA 7 4),[1,2]] [Ie.v _,Ie.v _,Ie.v _,Ie.v _,Ie.v _,Ie.v _,Ie.v _,Ie.v _,Ie.v _,Ie.v _,Ie.v _,Ie.e 0,Ie.v _] [11] [fun(G:List Nat) (vs:List Value) (ww:World)=>G=G2∧iQ G2 w ww br ag ((ke ag (iZ ag ρ n e) e (nF ag n e) gg).2) gb w1.heap.size (.slice (some ⟨gb,0,none⟩) e.au.ak.length fR) (lI (wW ag n e) (ke ag (iZ ag ρ n e) e (nF ag n e) gg).1 e),fun(G:List Nat) (vs:List Value) (ww:World)=>G=G2∧iQ G2 w ww br ag ((ke ag (iZ ag ρ n e) e (nF ag n e) (gg+1)).2) gb w1.heap.size (.slice (some ⟨gb,0,none⟩) e.au.ak.length fR) (lI (wW ag n e) (ke ag (iZ ag ρ n e) e (nF ag n e) gg).1 e)∧bB G2 ww (vs.getD 0 undef) (bH ag (fL e gg) (iZ ag ρ n e) (ke ag (iZ ag ρ n e) e (nF ag n e) gg).2).1.au] de rfl aR.cC (by exact trivial) (by exact⟨λG vs w w' ⟨h1,h2⟩ k=>⟨h1,h2.ext k⟩,λG vs w w' ⟨h1,h2,h3⟩ k=>⟨h1,h2.ext k,h3.ext k⟩,trivial⟩) (⟨rfl,aR⟩)
  refine vf (λ_ _ _ _ _ _=>zf jv rfl fv) ?_
  refine vf (λx w9 G9 aS cP mI=>?_) ?_
  have cW:=cW.go cP
  refine WZ ?_
  exact fv
  refine FA ?_
  refine ve 0 (λx w9 G9 aS cP mI hJ hlen=>?_) ?_
  have aW:=jh hlen
  subst aW
  have fi:=fi.go cP;have dZ:=dZ.go cP;have cI:=cI.go cP
  obtain⟨bO,aR⟩:=hJ
  obtain rfl:G2=G9:=bO.symm
  refine aA (ih (fL e gg) om om tZ.1 (iZ ag ρ n e) (ke ag (iZ ag ρ n e) e (nF ag n e) gg).2 kv.1 kv.2 _ _ _ br G2 w9 cI fi dZ aR.rn aR.cC) ?_
  rintro CB cu ⟨⟨du,GY⟩,aB⟩
  exact fe G2 (Fr.of aB aR.nL) ((λq hq=>lL (aR.cC q hq) aB.size)) (⟨rfl,aR.call GY aB,du⟩)
  exact FZ
  intro x lJ JT aS EI ND hJ hlen
  obtain⟨q0,aW⟩:=ji hlen
  subst aW
  have o8:=o8.go EI
  change OW _ _ _ _ _ (bo (bj _ x _) (zZ 141 [_,_,_,_,_,_,_,_,_,_,_,_,_])) _
  obtain⟨bO,aR,du⟩:=hJ
  obtain rfl:G2=JT:=bO.symm
  obtain⟨a7,n7,c7,e7,_,_⟩:=cU du
  have e8:q0=_:=e7
  subst e8
  have zu:(lI (wW ag n e) (ke ag (iZ ag ρ n e) e (nF ag n e) gg).1 e).set (e.from+gg) (bH ag (fL e gg) (iZ ag ρ n e) (ke ag (iZ ag ρ n e) e (nF ag n e) gg).2).1.au=lI (wW ag n e) (ke ag (iZ ag ρ n e) e (nF ag n e) (gg+1)).1 e:=(by have:=UM (pre:=(wW ag n e)) (acc:=(ke ag (iZ ag ρ n e) e (nF ag n e) gg).1) (e:=e) (y:=(bH ag (fL e gg) (iZ ag ρ n e) (ke ag (iZ ag ρ n e) e (nF ag n e) gg).2).1) om;rw[UX,fb] at this;exact this)
  refine sQ (i:=e.from+gg) (vs:=[str (bH ag (fL e gg) (iZ ag ρ n e) (ke ag (iZ ag ρ n e) e (nF ag n e) gg).2).1.au.aw,.slice a7 n7 c7]) (row:=(bH ag (fL e gg) (iZ ag ρ n e) (ke ag (iZ ag ρ n e) e (nF ag n e) gg).2).1.au.enc) aL rfl rfl rfl rfl (Nat.zero_add _) aR.own aR.cC aR.mem.1 (by rw[ia,UN om,UX];omega) rfl (oG _) (show bB G2 _ (.agg #[_,_]) _ from du).kj λot iE rR dv=>?_
  rw[sS,zu] at dv
  have o8:=o8.aD iE aR.ja
  have aR:=aR.store iE dv
  refine W ?_
  exact⟨gg+1,⟨rfl,rfl,rfl,rfl,rfl,rfl,rfl,congrArg (Value.int .i64) om⟩,⟨o8,aR,om⟩,om⟩
  have fG:gg=e.kids.length:=by omega
  subst fG
  have fb:=UH ag (iZ ag ρ n e) e (nF ag n e) e.kids.length
  refine W ?_
  refine cJ aL rfl rfl rfl aR.bx rfl λw9 aB dh ld=>?_
  subst yy
  obtain⟨rS,rU,vF⟩:=aR.fin hG CA.mem aB
  rw[UO fb,<-UW.1] at rS
  rw[<-UW.2] at rU
  refine W ?_
  exact⟨[_],ga eV aL rfl dh rfl,⟨rS,rU⟩,vF⟩
end Go.Proofs.YthbhobaiopccaaaGreatDoor
