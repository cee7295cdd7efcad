/- Lemmas for the law FnProgramSize, no statement of their own: no conditions. -/
import Derived.Test.YtkcegcjelmmilaaGreatDoorHc
namespace Go.Proofs.YtkcegcjelmmilaaGreatDoor
open Go
set_option maxHeartbeats 4000000
variable {ps ts:List aq} {E N b bytes c i k n sz t x:Nat} {u v z:Value} {G G' G0 L:List Nat} {w w':World} {g gb:Option Nat} {xs ys:List ai} {rows:List (List C)} {h s:ai} {e:Ex} {bs:Bs} {A:Ty} {o:Option (Ty×Ty)} {r9:List Ty}
theorem agr (h:ai):((dW h).1=0∧(dW h).2=0)∨((dW h).1=1∧(dW h).2=2)∨((dW h).1=1∧(dW h).2=3)∨((dW h).1=1∧(dW h).2=4)∨((dW h).1=2∧(dW h).2=4)∨((dW h).1=5∧(dW h).2=6):=by
 unfold dW
 split
 ·simp
 ·split
  ·simp
  ·split
   ·simp
   ·split
    ·simp
    ·split<;>simp
theorem ags {f:aq->Bool} (h:∀j,k<=j->j<ps.length->f (nth ps j)=true):(ps.drop k).all f=true:=by
 rw[List.all_eq_true]
 intro c hc
 obtain⟨i,hi⟩:=List.mem_iff_getElem?.1 hc
 rw[List.getElem?_drop] at hi
 have hl:=(List.getElem?_eq_some_iff.1 hi).1
 have:=h (k+i) om hl
 rw[gh hl] at hi
 cases hi
 exact this
theorem agt {j:Nat} {f:aq->Bool} (h1:k<=j) (h2:j<ps.length) (h:f (nth ps j)=false):(ps.drop k).all f=false:=by
 rw[List.all_eq_false]
 refine⟨nth ps j,?_,by rw[h];simp⟩
 rw[List.mem_iff_getElem?]
 refine⟨j-k,?_⟩
 rw[List.getElem?_drop,show k+(j-k)=j by omega]
 exact gh h2
def CA (ps:List aq):Bool:=dN (nth ps 2).aw&&decide ((nth ps 1).aw≠(nth ps 2).aw)&&jP (nth ps 3)&&jP (nth ps 4)
theorem agu (ps:List aq) (k:Nat):k≠5∨(k=5∧dN (nth ps 2).aw=false)∨(k=5∧dN (nth ps 2).aw=true∧(nth ps 1).aw=(nth ps 2).aw)∨(k=5∧dN (nth ps 2).aw=true∧(nth ps 1).aw≠(nth ps 2).aw∧jP (nth ps 3)=false)∨
  (k=5∧dN (nth ps 2).aw=true∧(nth ps 1).aw≠(nth ps 2).aw∧jP (nth ps 3)=true∧jP (nth ps 4)=false)∨(k=5∧dN (nth ps 2).aw=true∧(nth ps 1).aw≠(nth ps 2).aw∧jP (nth ps 3)=true∧jP (nth ps 4)=true):=by
 by_cases h5:k=5
 ·right
  cases h2:dN (nth ps 2).aw
  ·exact .inl ⟨h5,rfl⟩
  ·right
   by_cases he:(nth ps 1).aw=(nth ps 2).aw
   ·exact .inl ⟨h5,rfl,he⟩
   ·right
    cases h3:jP (nth ps 3)
    ·exact .inl ⟨h5,rfl,he,rfl⟩
    ·right
     cases h4:jP (nth ps 4)
     ·exact .inl ⟨h5,rfl,he,rfl,rfl⟩
     ·exact .inr ⟨h5,rfl,he,rfl,rfl⟩
 ·exact .inl h5
theorem agv:∀(m:Nat) (t:aq),t.size<=m->t.size<=10000000->WF t->∀(v:Value) (L:List Nat) (w:World),bB L w v t->
  bz Tryz.prog 73 [v] w λr w'=>r= .bool (dw t)∧aj [] w w':=by
 intro m
 induction m with
 |zero=>intro t h;have:=xR t;omega
 |succ m ih=>
  intro t hm lD cm v L w hv
  obtain⟨a,n,c,rfl,hn,aP⟩:=cU hv
  subst hn
  have hK:=aj.refl [] w
  have nZ:=wm t
  refine bS [.tmp 2] 105 Tryz.func73 rfl aa1 rfl rfl ?_
  refine zr<|eH rfl ?_
  intro w1 aI aX dk
  have hK:=hK.ext aI;have aP:=aP.ext aI
  refine zA<|aZ<|jL<|zr<|zf kX rfl<|zl gD rfl (aX.at rfl)<|K1 rfl rfl rfl rfl<|aZ<|zc rfl (λh1=>?_) (λh1=>?_)
  have hq:dw t=qg t.aw:=by rw[UF,iP h1]
  refine zr<|zf kX rfl<|zl gD rfl (aX.at rfl)<|aA (I6 _ _) ?_
  rintro _ _ ⟨rfl,rfl⟩
  refine zm<|zx (i:=0) rfl rfl<|zx (i:=1) rfl rfl<|zA<|zA<|aZ<|zr<|zm<|zm ?_
  apply BF 4 18 22 [18,19,20,21,22] (λw'=>w1=w') rfl
  intro h2
  replace h2:=jj h2
  refine zs<|zs<|zs<|zp rfl<|aZ ?_
  exact mg rfl rfl
  intro h2
  replace h2:=jj h2
  refine zf kX rfl<|zl gD rfl (aX.at rfl)<|aA (vA _ _) ?_
  rintro _ _ ⟨rfl,rfl⟩
  refine zp rfl<|aZ ?_
  exact mg rfl rfl
  rintro xx _ rfl
  refine zA<|aZ<|jZ ?_
  exact⟨_,rfl,by rw[hq];rfl,hK⟩
  have ha:t.aw=[]:=Classical.not_not.1 h1
  have j8:=cm.pos ha
  have hq:=age ha
  obtain⟨b,off,pa,pn,pc,rfl,et,eP,fM⟩:=iJ aP (gh j8)
  have kJ:=agr (nth t.ak 0).aw
  refine gY<|zr<|zf jt rfl<|zl iC rfl (aX.at rfl)<|zi (i:=0) cz aL rfl rfl om<|zf kX rfl<|zl gD rfl (et 0 _ rfl)<|aA (JA _ _) ?_
  rintro _ _ ⟨rfl,rfl⟩
  refine zm<|zx (i:=0) rfl rfl<|zx (i:=1) rfl rfl<|zA<|zA<|aZ<|jL<|zr<|zm<|vY rfl rfl rfl rfl rfl<|zm ?_
  apply BF 6 34 40 [34,35,36,37,38,39,40] (λw'=>w1=w') rfl
  intro h3
  replace h3:=jj h3
  refine zs<|zs<|zs<|zs<|zs<|zp rfl<|aZ ?_
  exact mg rfl rfl
  intro h3
  replace h3:=jj h3
  refine zf jt rfl<|zl iC rfl (aX.at rfl)<|Fp cz rfl rfl rfl<|zm<|H9 rfl rfl rfl rfl rfl<|zp rfl<|aZ ?_
  exact mg rfl rfl
  rintro xx _ rfl
  refine aZ<|zc rfl (λh4=>?_) (λh4=>?_)
  have hz:dw t=false:=(by rw[hq];simp only[oE,dE] at h4;rcases h4 with h|h;(·rw[show decide ((dW (nth t.ak 0).aw).1≠0)=false from dF om];rfl);(·rw[show decide (t.ak.length=(dW (nth t.ak 0).aw).2)=false from dF om];simp))
  refine zr<|zA<|aZ<|jZ ?_
  exact⟨_,rfl,by rw[hz];rfl,hK⟩
  have fT:(dW (nth t.ak 0).aw).1≠0∧t.ak.length=(dW (nth t.ak 0).aw).2:=(by simp only[Bool.or_eq_false_iff,decide_eq_false_iff_not] at h4;omega)
  obtain⟨fT,fb⟩:=fT
  have CB:dw t=(Et t.ak&&(t.ak.drop (dW (nth t.ak 0).aw).1).all dw):=by rw[hq,dT fT,dT fb];rfl
  refine gY<|jL<|zr<|zm<|Fq rfl rfl rfl rfl rfl<|zm ?_
  apply Ic 8 43 51 [43,44,45,46,47,48,49,50,51] (λw'=>w1=w') rfl
  intro h5
  replace h5:=jj h5
  have Ci:1<t.ak.length:=(by have h7:=h5;omega)
  obtain⟨b1,eX,gA,qZ,gm,e1,bK,sJ,oY⟩:=iJ aP (gh (i:=1) Ci)
  cases e1
  refine zf jt rfl<|zl iC rfl (aX.at rfl)<|zi (i:=1) cz aL rfl rfl om<|zf kX rfl<|zl gD rfl (bK 0 _ rfl)<|aA (vA _ _) ?_
  rintro _ _ ⟨rfl,rfl⟩
  refine kx rfl rfl rfl<|zp rfl<|aZ ?_
  exact mg rfl rfl
  intro h5
  replace h5:=jj h5
  refine zs<|zs<|zs<|zs<|zs<|zs<|zs<|zp rfl<|aZ ?_
  exact mg rfl rfl
  rintro xx _ rfl
  refine aZ<|zc rfl (λh6=>?_) (λh6=>?_)
  have hz:dw t=false:=(by simp only[aE,dE,Bool.not_eq_true'] at h6;rw[CB];unfold Et;rw[show decide ((dW (nth t.ak 0).aw).1<=1)=false from dF om,h6.2];rfl)
  refine zr<|zA<|aZ<|jZ ?_
  exact⟨_,rfl,by rw[hz];rfl,hK⟩
  have mB:(decide ((dW (nth t.ak 0).aw).1<=1)||dN (nth t.ak 1).aw)=true:=(by simp only[Bool.and_eq_false_iff,decide_eq_false_iff_not,Bool.not_eq_false'] at h6;rcases h6 with h|h;(·rw[dT om];rfl);(·rw[h];simp))
  have nY:dw t=((decide ((dW (nth t.ak 0).aw).1≠5)||CA t.ak)&&(t.ak.drop (dW (nth t.ak 0).aw).1).all dw):=by rw[CB];unfold Et;rw[mB];rfl
  have GO:(dW (nth t.ak 0).aw).1=5->t.ak.length=6:=(by intro h;omega)
  have jc:∀i,i<t.ak.length->∃pa pn pc,fS w1 b (off+i*2) [str (nth t.ak i).aw,.slice pa pn pc]∧bB L w1 (.agg #[str (nth t.ak i).aw,.slice pa pn pc]) (nth t.ak i):=(by intro i hi;obtain⟨b1,eX,gA,qZ,gm,e1,bK,sJ,oY⟩:=iJ aP (gh hi);cases e1;exact⟨_,_,_,bK,kV oY⟩)
  refine gY<|jL<|jL ?_
  refine ix (λ_:Unit=>[(1,.pointer (some ⟨w.heap.size,0,none⟩)),(5,.int .i64 ((dW (nth t.ak 0).aw).1:Int)),(6,.int .i64 ((dW (nth t.ak 0).aw).2:Int)),(91,.bool (decide ((dW (nth t.ak 0).aw).1=5)&&!CA t.ak))]) (λ_ w'=>aj [] w w'∧aj [] w1 w') ?_ ?_
  rcases agu t.ak (dW (nth t.ak 0).aw).1 with kO|kO|kO|kO|kO|kO
  apply k8 dj 40 (rA 52 40) (rA 52 40) [[],[0],[1],[2],[2,3],[2,4],[2,5],[2,6],[2,7],[2,8],[2,9],[10],[10,11],[10,12],[10,13],[10,14],[10],[10,16],[10,17],[10,18],[10,19],[10,15,20],[2,10,21],[2,22],[23],[23,24],[23,25],[23,26],[23,27],[23,28],[2,23,29],[2,30],[31],[31,32],[31,33],[31,34],[31,35],[31,36],[2,31,37],[2,38]] [It.v _,It.v _,It.v (.bool false),It.v _,It.v _,It.v _,It.v _,It.v _,It.v _,It.v _,It.v _,It.v _,It.v _,It.v _,It.v _,It.v _,It.v _,It.v _,It.v _,It.v _,It.v _,It.v _,It.v _,It.v _,It.v _,It.v _,It.v _,It.v _,It.v _,It.v _,It.v _,It.v _,It.v _,It.v _,It.v _,It.v _,It.v _,It.v _,It.v _,It.v _] de rfl
  intro wd aC
  refine Ap ?_
  refine vk aC (λx w2 az=>?_) ?_
  refine vY rfl rfl rfl rfl rfl ?_
  exact pv
  refine vc (λx w2 az=>?_) ?_
  refine zm ?_
  exact pv (by exact congrArg Value.bool (dF om))
  refine vc (λx w2 az=>?_) ?_
  exact cF pv
  refine vk aC (λx w2 az=>?_) ?_
  exact cF pv
  refine vk aC (λx w2 az=>?_) ?_
  exact cF pv
  refine vc (λx w2 az=>?_) ?_
  exact cF pv
  refine vk aC (λx w2 az=>?_) ?_
  exact cF pv
  refine vk aC (λx w2 az=>?_) ?_
  exact cF pv
  refine vc (λx w2 az=>?_) ?_
  exact cF pv
  refine vc (λx w2 az=>?_) ?_
  exact cF pv
  refine vc (λx w2 az=>?_) ?_
  exact cF pv
  refine vk aC (λx w2 az=>?_) ?_
  exact cF pv
  refine vk aC (λx w2 az=>?_) ?_
  exact cF pv
  refine vc (λx w2 az=>?_) ?_
  exact cF pv
  refine vk aC (λx w2 az=>?_) ?_
  exact cF pv
  refine vc (λx w2 az=>?_) ?_
  exact cF pv
  refine vk aC (λx w2 az=>?_) ?_
  exact cF pv
  refine vk aC (λx w2 az=>?_) ?_
  exact cF pv
  refine vc (λx w2 az=>?_) ?_
  exact cF pv
  refine vk aC (λx w2 az=>?_) ?_
  exact cF pv
  refine vk aC (λx w2 az=>?_) ?_
  exact cF pv
  refine vc (λx w2 az=>?_) ?_
  exact cF pv
  refine vc (λx w2 az=>?_) ?_
  exact cF pv
  refine vc (λx w2 az=>?_) ?_
  exact cF pv
  refine vk aC (λx w2 az=>?_) ?_
  exact cF pv
  refine vk aC (λx w2 az=>?_) ?_
  exact cF pv
  refine vk aC (λx w2 az=>?_) ?_
  exact cF pv
  refine vk aC (λx w2 az=>?_) ?_
  exact cF pv
  refine vc (λx w2 az=>?_) ?_
  exact cF pv
  refine vc (λx w2 az=>?_) ?_
  exact cF pv
  refine vc (λx w2 az=>?_) ?_
  exact cF pv
  refine vc (λx w2 az=>?_) ?_
  exact cF pv
  refine vk aC (λx w2 az=>?_) ?_
  exact cF pv
  refine vk aC (λx w2 az=>?_) ?_
  exact cF pv
  refine vk aC (λx w2 az=>?_) ?_
  exact cF pv
  refine vk aC (λx w2 az=>?_) ?_
  exact cF pv
  refine vc (λx w2 az=>?_) ?_
  exact cF pv
  refine vc (λx w2 az=>?_) ?_
  exact cF pv
  refine vc (λ_ _ _=>zp rfl pv) ?_
  exact trivial
  intro x o3 gR
  have hK:=hK.ext gR
  change OW _ _ _ _ [] (bo (bj _ x _) (zZ 52 [_,_,_,_,_,_,_,_,_,_,_,_,_,_,_,_,_,_,_,_,_,_,_,_,_,_,_,_,_,_,_,_,_,_,_,_,_,_,_,_])) _
  refine aZ ?_
  exact⟨(),⟨rfl,rfl,rfl,congrArg Value.bool (show false=_ from by rw[dF kO];rfl)⟩,hK,gR⟩
  obtain⟨h5,h2⟩:=kO
  have h6:=GO h5
  obtain⟨iA,AZ,iw,bU,dI⟩:=jc 2 om
  apply k8 dj 40 (rA 52 40) (rA 52 40) [[],[0],[1],[2],[2,3],[2,4],[2,5],[2,6],[2,7],[2,8],[2,9],[10],[10,11],[10,12],[10,13],[10,14],[10],[10,16],[10,17],[10,18],[10,19],[10,15,20],[2,10,21],[2,22],[23],[23,24],[23,25],[23,26],[23,27],[23,28],[2,23,29],[2,30],[31],[31,32],[31,33],[31,34],[31,35],[31,36],[2,31,37],[2,38]] [It.v _,It.v _,It.v (.bool true),It.v _,It.v _,It.v _,It.v _,It.v _,It.v _,It.v _,It.v (.bool true),It.v _,It.v _,It.v _,It.v _,It.v _,It.v _,It.v _,It.v _,It.v _,It.v _,It.v _,It.v _,It.v (.bool true),It.v _,It.v _,It.v _,It.v _,It.v _,It.v _,It.v _,It.v (.bool true),It.v _,It.v _,It.v _,It.v _,It.v _,It.v _,It.v _,It.v _] de rfl
  intro wd aC
  refine Ap ?_
  refine vk aC (λx w2 az=>?_) ?_
  refine vY rfl rfl rfl rfl rfl ?_
  exact pv
  refine vc (λx w2 az=>?_) ?_
  refine zm ?_
  exact pv (by exact congrArg Value.bool (dT om))
  refine vc (λ_ _ _=>zf jt rfl pv) ?_
  refine vk aC (λx w2 az=>?_) ?_
  have aX:=aX.ext az
  refine zl iC rfl (aX.at rfl) ?_
  exact pv
  refine vk aC (λx w2 az=>?_) ?_
  refine zi (i:=2) cz aL rfl rfl om ?_
  exact pv
  refine vc (λ_ _ _=>zf kX rfl pv) ?_
  refine vk aC (λx w2 az=>?_) ?_
  have bU:=bU.ext az
  refine zl gD rfl (bU 0 _ rfl) ?_
  exact pv
  refine vk aC (λx w2 az=>?_) ?_
  refine aA (vA _ _) ?_
  rintro _ _ ⟨rfl,rfl⟩
  exact pv
  refine vc (λ_ _ _=>kx rfl rfl rfl pv) ?_
  refine vc (λx w2 az=>?_) ?_
  refine zm ?_
  exact pv (by exact congrArg Value.bool (show(!dN (nth t.ak 2).aw)=true from by rw[h2];rfl))
  refine vc (λx w2 az=>?_) ?_
  exact cF pv
  refine vk aC (λx w2 az=>?_) ?_
  exact cF pv
  refine vk aC (λx w2 az=>?_) ?_
  exact cF pv
  refine vc (λx w2 az=>?_) ?_
  exact cF pv
  refine vk aC (λx w2 az=>?_) ?_
  exact cF pv
  refine vc (λx w2 az=>?_) ?_
  exact cF pv
  refine vk aC (λx w2 az=>?_) ?_
  exact cF pv
  refine vk aC (λx w2 az=>?_) ?_
  exact cF pv
  refine vc (λx w2 az=>?_) ?_
  exact cF pv
  refine vk aC (λx w2 az=>?_) ?_
  exact cF pv
  refine vk aC (λx w2 az=>?_) ?_
  exact cF pv
  refine vc (λ_ _ _=>zp rfl pv) ?_
  refine vc (λx w2 az=>?_) ?_
  refine zm ?_
  exact pv (by exact rfl)
  refine vc (λx w2 az=>?_) ?_
  exact cF pv
  refine vk aC (λx w2 az=>?_) ?_
  exact cF pv
  refine vk aC (λx w2 az=>?_) ?_
  exact cF pv
  refine vk aC (λx w2 az=>?_) ?_
  exact cF pv
  refine vk aC (λx w2 az=>?_) ?_
  exact cF pv
  refine vc (λx w2 az=>?_) ?_
  exact cF pv
  refine vc (λ_ _ _=>zp rfl pv) ?_
  refine vc (λx w2 az=>?_) ?_
  refine zm ?_
  exact pv (by exact rfl)
  refine vc (λx w2 az=>?_) ?_
  exact cF pv
  refine vk aC (λx w2 az=>?_) ?_
  exact cF pv
  refine vk aC (λx w2 az=>?_) ?_
  exact cF pv
  refine vk aC (λx w2 az=>?_) ?_
  exact cF pv
  refine vk aC (λx w2 az=>?_) ?_
  exact cF pv
  refine vc (λx w2 az=>?_) ?_
  exact cF pv
  refine vc (λ_ _ _=>zp rfl pv) ?_
  refine vc (λ_ _ _=>zp rfl pv) ?_
  exact trivial
  intro x o3 gR
  have hK:=hK.ext gR
  change OW _ _ _ _ [] (bo (bj _ x _) (zZ 52 [_,_,_,_,_,_,_,_,_,_,_,_,_,_,_,_,_,_,_,_,_,_,_,_,_,_,_,_,_,_,_,_,_,_,_,_,_,_,_,_])) _
  refine aZ ?_
  exact⟨(),⟨rfl,rfl,rfl,congrArg Value.bool (show true=_ from by unfold CA;rw[dT h5,h2];rfl)⟩,hK,gR⟩
  obtain⟨h5,h2,kC⟩:=kO
  have h6:=GO h5
  obtain⟨gA,qZ,gm,bK,cI⟩:=jc 1 om
  obtain⟨iA,AZ,iw,bU,dI⟩:=jc 2 om
  apply k8 dj 40 (rA 52 40) (rA 52 40) [[],[0],[1],[2],[2,3],[2,4],[2,5],[2,6],[2,7],[2,8],[2,9],[10],[10,11],[10,12],[10,13],[10,14],[10],[10,16],[10,17],[10,18],[10,19],[10,15,20],[2,10,21],[2,22],[23],[23,24],[23,25],[23,26],[23,27],[23,28],[2,23,29],[2,30],[31],[31,32],[31,33],[31,34],[31,35],[31,36],[2,31,37],[2,38]] [It.v _,It.v _,It.v (.bool true),It.v _,It.v _,It.v _,It.v _,It.v _,It.v _,It.v _,It.v (.bool false),It.v _,It.v _,It.v _,It.v _,It.v _,It.v _,It.v _,It.v _,It.v _,It.v _,It.v _,It.v _,It.v (.bool true),It.v _,It.v _,It.v _,It.v _,It.v _,It.v _,It.v _,It.v (.bool true),It.v _,It.v _,It.v _,It.v _,It.v _,It.v _,It.v _,It.v _] de rfl
  intro wd aC
  refine Ap ?_
  refine vk aC (λx w2 az=>?_) ?_
  refine vY rfl rfl rfl rfl rfl ?_
  exact pv
  refine vc (λx w2 az=>?_) ?_
  refine zm ?_
  exact pv (by exact congrArg Value.bool (dT om))
  refine vc (λ_ _ _=>zf jt rfl pv) ?_
  refine vk aC (λx w2 az=>?_) ?_
  have aX:=aX.ext az
  refine zl iC rfl (aX.at rfl) ?_
  exact pv
  refine vk aC (λx w2 az=>?_) ?_
  refine zi (i:=2) cz aL rfl rfl om ?_
  exact pv
  refine vc (λ_ _ _=>zf kX rfl pv) ?_
  refine vk aC (λx w2 az=>?_) ?_
  have bU:=bU.ext az
  refine zl gD rfl (bU 0 _ rfl) ?_
  exact pv
  refine vk aC (λx w2 az=>?_) ?_
  refine aA (vA _ _) ?_
  rintro _ _ ⟨rfl,rfl⟩
  exact pv
  refine vc (λ_ _ _=>kx rfl rfl rfl pv) ?_
  refine vc (λx w2 az=>?_) ?_
  refine zm ?_
  exact pv (by exact congrArg Value.bool (show(!dN (nth t.ak 2).aw)=false from by rw[h2];rfl))
  refine vc (λ_ _ _=>zf jt rfl pv) ?_
  refine vk aC (λx w2 az=>?_) ?_
  have aX:=aX.ext az
  refine zl iC rfl (aX.at rfl) ?_
  exact pv
  refine vk aC (λx w2 az=>?_) ?_
  refine zi (i:=1) cz aL rfl rfl om ?_
  exact pv
  refine vc (λ_ _ _=>zf kX rfl pv) ?_
  refine vk aC (λx w2 az=>?_) ?_
  have bK:=bK.ext az
  refine zl gD rfl (bK 0 _ rfl) ?_
  exact pv
  refine vc (λ_ _ _=>zf jt rfl pv) ?_
  refine vk aC (λx w2 az=>?_) ?_
  have aX:=aX.ext az
  refine zl iC rfl (aX.at rfl) ?_
  exact pv
  refine vk aC (λx w2 az=>?_) ?_
  refine zi (i:=2) cz aL rfl rfl om ?_
  exact pv
  refine vc (λ_ _ _=>zf kX rfl pv) ?_
  refine vk aC (λx w2 az=>?_) ?_
  have bU:=bU.ext az
  refine zl gD rfl (bU 0 _ rfl) ?_
  exact pv
  refine vk aC (λx w2 az=>?_) ?_
  refine DG rfl rfl rfl rfl ?_
  exact pv
  refine vc (λ_ _ _=>zp rfl pv) ?_
  refine vc (λx w2 az=>?_) ?_
  refine zm ?_
  exact pv (by exact congrArg Value.bool (dT kC))
  refine vc (λx w2 az=>?_) ?_
  exact cF pv
  refine vk aC (λx w2 az=>?_) ?_
  exact cF pv
  refine vk aC (λx w2 az=>?_) ?_
  exact cF pv
  refine vk aC (λx w2 az=>?_) ?_
  exact cF pv
  refine vk aC (λx w2 az=>?_) ?_
  exact cF pv
  refine vc (λx w2 az=>?_) ?_
  exact cF pv
  refine vc (λ_ _ _=>zp rfl pv) ?_
  refine vc (λx w2 az=>?_) ?_
  refine zm ?_
  exact pv (by exact rfl)
  refine vc (λx w2 az=>?_) ?_
  exact cF pv
  refine vk aC (λx w2 az=>?_) ?_
  exact cF pv
  refine vk aC (λx w2 az=>?_) ?_
  exact cF pv
  refine vk aC (λx w2 az=>?_) ?_
  exact cF pv
  refine vk aC (λx w2 az=>?_) ?_
  exact cF pv
  refine vc (λx w2 az=>?_) ?_
  exact cF pv
  refine vc (λ_ _ _=>zp rfl pv) ?_
  refine vc (λ_ _ _=>zp rfl pv) ?_
  exact trivial
  intro x o3 gR
  have hK:=hK.ext gR
  change OW _ _ _ _ [] (bo (bj _ x _) (zZ 52 [_,_,_,_,_,_,_,_,_,_,_,_,_,_,_,_,_,_,_,_,_,_,_,_,_,_,_,_,_,_,_,_,_,_,_,_,_,_,_,_])) _
  refine aZ ?_
  exact⟨(),⟨rfl,rfl,rfl,congrArg Value.bool (show true=_ from by unfold CA;rw[dT h5,h2,dF (λh=>h kC)];rfl)⟩,hK,gR⟩
  obtain⟨h5,h2,kC,h3⟩:=kO
  have h6:=GO h5
  obtain⟨gA,qZ,gm,bK,cI⟩:=jc 1 om
  obtain⟨iA,AZ,iw,bU,dI⟩:=jc 2 om
  obtain⟨pR,UU,pS,dO,dY⟩:=jc 3 om
  have fm:=kY (t:=t) (i:=3) om
  apply k8 dj 40 (rA 52 40) (rA 52 40) [[],[0],[1],[2],[2,3],[2,4],[2,5],[2,6],[2,7],[2,8],[2,9],[10],[10,11],[10,12],[10,13],[10,14],[10],[10,16],[10,17],[10,18],[10,19],[10,15,20],[2,10,21],[2,22],[23],[23,24],[23,25],[23,26],[23,27],[23,28],[2,23,29],[2,30],[31],[31,32],[31,33],[31,34],[31,35],[31,36],[2,31,37],[2,38]] [It.v _,It.v _,It.v (.bool true),It.v _,It.v _,It.v _,It.v _,It.v _,It.v _,It.v _,It.v (.bool false),It.v _,It.v _,It.v _,It.v _,It.v _,It.v _,It.v _,It.v _,It.v _,It.v _,It.v _,It.v _,It.v (.bool false),It.v _,It.v _,It.v _,It.v _,It.v _,It.v _,It.v _,It.v (.bool true),It.v _,It.v _,It.v _,It.v _,It.v _,It.v _,It.v _,It.v _] de rfl
  intro wd aC
  refine Ap ?_
  refine vk aC (λx w2 az=>?_) ?_
  refine vY rfl rfl rfl rfl rfl ?_
  exact pv
  refine vc (λx w2 az=>?_) ?_
  refine zm ?_
  exact pv (by exact congrArg Value.bool (dT om))
  refine vc (λ_ _ _=>zf jt rfl pv) ?_
  refine vk aC (λx w2 az=>?_) ?_
  have aX:=aX.ext az
  refine zl iC rfl (aX.at rfl) ?_
  exact pv
  refine vk aC (λx w2 az=>?_) ?_
  refine zi (i:=2) cz aL rfl rfl om ?_
  exact pv
  refine vc (λ_ _ _=>zf kX rfl pv) ?_
  refine vk aC (λx w2 az=>?_) ?_
  have bU:=bU.ext az
  refine zl gD rfl (bU 0 _ rfl) ?_
  exact pv
  refine vk aC (λx w2 az=>?_) ?_
  refine aA (vA _ _) ?_
  rintro _ _ ⟨rfl,rfl⟩
  exact pv
  refine vc (λ_ _ _=>kx rfl rfl rfl pv) ?_
  refine vc (λx w2 az=>?_) ?_
  refine zm ?_
  exact pv (by exact congrArg Value.bool (show(!dN (nth t.ak 2).aw)=false from by rw[h2];rfl))
  refine vc (λ_ _ _=>zf jt rfl pv) ?_
  refine vk aC (λx w2 az=>?_) ?_
  have aX:=aX.ext az
  refine zl iC rfl (aX.at rfl) ?_
  exact pv
  refine vk aC (λx w2 az=>?_) ?_
  refine zi (i:=1) cz aL rfl rfl om ?_
  exact pv
  refine vc (λ_ _ _=>zf kX rfl pv) ?_
  refine vk aC (λx w2 az=>?_) ?_
  have bK:=bK.ext az
  refine zl gD rfl (bK 0 _ rfl) ?_
  exact pv
  refine vc (λ_ _ _=>zf jt rfl pv) ?_
  refine vk aC (λx w2 az=>?_) ?_
  have aX:=aX.ext az
  refine zl iC rfl (aX.at rfl) ?_
  exact pv
  refine vk aC (λx w2 az=>?_) ?_
  refine zi (i:=2) cz aL rfl rfl om ?_
  exact pv
  refine vc (λ_ _ _=>zf kX rfl pv) ?_
  refine vk aC (λx w2 az=>?_) ?_
  have bU:=bU.ext az
  refine zl gD rfl (bU 0 _ rfl) ?_
  exact pv
  refine vk aC (λx w2 az=>?_) ?_
  refine DG rfl rfl rfl rfl ?_
  exact pv
  refine vc (λ_ _ _=>zp rfl pv) ?_
  refine vc (λx w2 az=>?_) ?_
  refine zm ?_
  exact pv (by exact congrArg Value.bool (dF kC))
  refine vc (λ_ _ _=>zf jt rfl pv) ?_
  refine vk aC (λx w2 az=>?_) ?_
  have aX:=aX.ext az
  refine zl iC rfl (aX.at rfl) ?_
  exact pv
  refine vk aC (λx w2 az=>?_) ?_
  refine zi (i:=3) cz aL rfl rfl om ?_
  exact pv
  refine vk aC (λx w2 az=>?_) ?_
  have dO:=dO.ext az
  refine zL eU aL rfl dO rfl ?_
  exact pv
  refine vk aC (λx w2 az=>?_) ?_
  have dY:=dY.ext az
  refine aA (A1 (nth t.ak 3) om (cm.nth om) _ _ w2 dY) ?_
  rintro v3 w3 ⟨ko,aH⟩
  have fm:=aH.size
  obtain rfl:=ko
  exact pk aH
  refine vc (λ_ _ _=>kx rfl rfl rfl pv) ?_
  refine vc (λ_ _ _=>zp rfl pv) ?_
  refine vc (λx w2 az=>?_) ?_
  refine zm ?_
  exact pv (by exact congrArg Value.bool (show(!jP (nth t.ak 3))=true from by rw[h3];rfl))
  refine vc (λx w2 az=>?_) ?_
  exact cF pv
  refine vk aC (λx w2 az=>?_) ?_
  exact cF pv
  refine vk aC (λx w2 az=>?_) ?_
  exact cF pv
  refine vk aC (λx w2 az=>?_) ?_
  exact cF pv
  refine vk aC (λx w2 az=>?_) ?_
  exact cF pv
  refine vc (λx w2 az=>?_) ?_
  exact cF pv
  refine vc (λ_ _ _=>zp rfl pv) ?_
  refine vc (λ_ _ _=>zp rfl pv) ?_
  exact trivial
  intro x o3 gR
  have hK:=hK.ext gR
  change OW _ _ _ _ [] (bo (bj _ x _) (zZ 52 [_,_,_,_,_,_,_,_,_,_,_,_,_,_,_,_,_,_,_,_,_,_,_,_,_,_,_,_,_,_,_,_,_,_,_,_,_,_,_,_])) _
  refine aZ ?_
  exact⟨(),⟨rfl,rfl,rfl,congrArg Value.bool (show true=_ from by unfold CA;rw[dT h5,h2,h3,Bool.and_false];rfl)⟩,hK,gR⟩
  obtain⟨h5,h2,kC,h3,h4⟩:=kO
  have h6:=GO h5
  obtain⟨gA,qZ,gm,bK,cI⟩:=jc 1 om
  obtain⟨iA,AZ,iw,bU,dI⟩:=jc 2 om
  obtain⟨pR,UU,pS,dO,dY⟩:=jc 3 om
  obtain⟨Nv,pn4,Nw,jx,pT⟩:=jc 4 om
  have fm:=kY (t:=t) (i:=3) om
  have fE:=kY (t:=t) (i:=4) om
  apply k8 dj 40 (rA 52 40) (rA 52 40) [[],[0],[1],[2],[2,3],[2,4],[2,5],[2,6],[2,7],[2,8],[2,9],[10],[10,11],[10,12],[10,13],[10,14],[10],[10,16],[10,17],[10,18],[10,19],[10,15,20],[2,10,21],[2,22],[23],[23,24],[23,25],[23,26],[23,27],[23,28],[2,23,29],[2,30],[31],[31,32],[31,33],[31,34],[31,35],[31,36],[2,31,37],[2,38]] [It.v _,It.v _,It.v (.bool true),It.v _,It.v _,It.v _,It.v _,It.v _,It.v _,It.v _,It.v (.bool false),It.v _,It.v _,It.v _,It.v _,It.v _,It.v _,It.v _,It.v _,It.v _,It.v _,It.v _,It.v _,It.v (.bool false),It.v _,It.v _,It.v _,It.v _,It.v _,It.v _,It.v _,It.v (.bool false),It.v _,It.v _,It.v _,It.v _,It.v _,It.v _,It.v _,It.v _] de rfl
  intro wd aC
  refine Ap ?_
  refine vk aC (λx w2 az=>?_) ?_
  refine vY rfl rfl rfl rfl rfl ?_
  exact pv
  refine vc (λx w2 az=>?_) ?_
  refine zm ?_
  exact pv (by exact congrArg Value.bool (dT om))
  refine vc (λ_ _ _=>zf jt rfl pv) ?_
  refine vk aC (λx w2 az=>?_) ?_
  have aX:=aX.ext az
  refine zl iC rfl (aX.at rfl) ?_
  exact pv
  refine vk aC (λx w2 az=>?_) ?_
  refine zi (i:=2) cz aL rfl rfl om ?_
  exact pv
  refine vc (λ_ _ _=>zf kX rfl pv) ?_
  refine vk aC (λx w2 az=>?_) ?_
  have bU:=bU.ext az
  refine zl gD rfl (bU 0 _ rfl) ?_
  exact pv
  refine vk aC (λx w2 az=>?_) ?_
  refine aA (vA _ _) ?_
  rintro _ _ ⟨rfl,rfl⟩
  exact pv
  refine vc (λ_ _ _=>kx rfl rfl rfl pv) ?_
  refine vc (λx w2 az=>?_) ?_
  refine zm ?_
  exact pv (by exact congrArg Value.bool (show(!dN (nth t.ak 2).aw)=false from by rw[h2];rfl))
  refine vc (λ_ _ _=>zf jt rfl pv) ?_
  refine vk aC (λx w2 az=>?_) ?_
  have aX:=aX.ext az
  refine zl iC rfl (aX.at rfl) ?_
  exact pv
  refine vk aC (λx w2 az=>?_) ?_
  refine zi (i:=1) cz aL rfl rfl om ?_
  exact pv
  refine vc (λ_ _ _=>zf kX rfl pv) ?_
  refine vk aC (λx w2 az=>?_) ?_
  have bK:=bK.ext az
  refine zl gD rfl (bK 0 _ rfl) ?_
  exact pv
  refine vc (λ_ _ _=>zf jt rfl pv) ?_
  refine vk aC (λx w2 az=>?_) ?_
  have aX:=aX.ext az
  refine zl iC rfl (aX.at rfl) ?_
  exact pv
  refine vk aC (λx w2 az=>?_) ?_
  refine zi (i:=2) cz aL rfl rfl om ?_
  exact pv
  refine vc (λ_ _ _=>zf kX rfl pv) ?_
  refine vk aC (λx w2 az=>?_) ?_
  have bU:=bU.ext az
  refine zl gD rfl (bU 0 _ rfl) ?_
  exact pv
  refine vk aC (λx w2 az=>?_) ?_
  refine DG rfl rfl rfl rfl ?_
  exact pv
  refine vc (λ_ _ _=>zp rfl pv) ?_
  refine vc (λx w2 az=>?_) ?_
  refine zm ?_
  exact pv (by exact congrArg Value.bool (dF kC))
  refine vc (λ_ _ _=>zf jt rfl pv) ?_
  refine vk aC (λx w2 az=>?_) ?_
  have aX:=aX.ext az
  refine zl iC rfl (aX.at rfl) ?_
  exact pv
  refine vk aC (λx w2 az=>?_) ?_
  refine zi (i:=3) cz aL rfl rfl om ?_
  exact pv
  refine vk aC (λx w2 az=>?_) ?_
  have dO:=dO.ext az
  refine zL eU aL rfl dO rfl ?_
  exact pv
  refine vk aC (λx w2 az=>?_) ?_
  have dY:=dY.ext az
  refine aA (A1 (nth t.ak 3) om (cm.nth om) _ _ w2 dY) ?_
  rintro v3 w3 ⟨ko,aH⟩
  have fm:=aH.size
  obtain rfl:=ko
  exact pk aH
  refine vc (λ_ _ _=>kx rfl rfl rfl pv) ?_
  refine vc (λ_ _ _=>zp rfl pv) ?_
  refine vc (λx w2 az=>?_) ?_
  refine zm ?_
  exact pv (by exact congrArg Value.bool (show(!jP (nth t.ak 3))=false from by rw[h3];rfl))
  refine vc (λ_ _ _=>zf jt rfl pv) ?_
  refine vk aC (λx w2 az=>?_) ?_
  have aX:=aX.ext az
  refine zl iC rfl (aX.at rfl) ?_
  exact pv
  refine vk aC (λx w2 az=>?_) ?_
  refine zi (i:=4) cz aL rfl rfl om ?_
  exact pv
  refine vk aC (λx w2 az=>?_) ?_
  have jx:=jx.ext az
  refine zL eU aL rfl jx rfl ?_
  exact pv
  refine vk aC (λx w2 az=>?_) ?_
  have pT:=pT.ext az
  refine aA (A1 (nth t.ak 4) om (cm.nth om) _ _ w2 pT) ?_
  rintro v3 w3 ⟨ko,aH⟩
  have fm:=aH.size
  obtain rfl:=ko
  exact pk aH
  refine vc (λ_ _ _=>kx rfl rfl rfl pv) ?_
  refine vc (λ_ _ _=>zp rfl pv) ?_
  refine vc (λ_ _ _=>zp rfl pv) ?_
  exact trivial
  intro x o3 gR
  have hK:=hK.ext gR
  change OW _ _ _ _ [] (bo (bj _ x _) (zZ 52 [_,_,_,_,_,_,_,_,_,_,_,_,_,_,_,_,_,_,_,_,_,_,_,_,_,_,_,_,_,_,_,_,_,_,_,_,_,_,_,_])) _
  refine aZ ?_
  exact⟨(),⟨rfl,rfl,rfl,congrArg Value.bool (show(!jP (nth t.ak 4))=_ from by unfold CA;rw[dT h5,h2,h3,h4,Bool.and_false];rfl)⟩,hK,gR⟩
  obtain⟨h5,h2,kC,h3,h4⟩:=kO
  have h6:=GO h5
  obtain⟨gA,qZ,gm,bK,cI⟩:=jc 1 om
  obtain⟨iA,AZ,iw,bU,dI⟩:=jc 2 om
  obtain⟨pR,UU,pS,dO,dY⟩:=jc 3 om
  obtain⟨Nv,pn4,Nw,jx,pT⟩:=jc 4 om
  have fm:=kY (t:=t) (i:=3) om
  have fE:=kY (t:=t) (i:=4) om
  apply k8 dj 40 (rA 52 40) (rA 52 40) [[],[0],[1],[2],[2,3],[2,4],[2,5],[2,6],[2,7],[2,8],[2,9],[10],[10,11],[10,12],[10,13],[10,14],[10],[10,16],[10,17],[10,18],[10,19],[10,15,20],[2,10,21],[2,22],[23],[23,24],[23,25],[23,26],[23,27],[23,28],[2,23,29],[2,30],[31],[31,32],[31,33],[31,34],[31,35],[31,36],[2,31,37],[2,38]] [It.v _,It.v _,It.v (.bool true),It.v _,It.v _,It.v _,It.v _,It.v _,It.v _,It.v _,It.v (.bool false),It.v _,It.v _,It.v _,It.v _,It.v _,It.v _,It.v _,It.v _,It.v _,It.v _,It.v _,It.v _,It.v (.bool false),It.v _,It.v _,It.v _,It.v _,It.v _,It.v _,It.v _,It.v (.bool false),It.v _,It.v _,It.v _,It.v _,It.v _,It.v _,It.v _,It.v _] de rfl
  intro wd aC
  refine Ap ?_
  refine vk aC (λx w2 az=>?_) ?_
  refine vY rfl rfl rfl rfl rfl ?_
  exact pv
  refine vc (λx w2 az=>?_) ?_
  refine zm ?_
  exact pv (by exact congrArg Value.bool (dT om))
  refine vc (λ_ _ _=>zf jt rfl pv) ?_
  refine vk aC (λx w2 az=>?_) ?_
  have aX:=aX.ext az
  refine zl iC rfl (aX.at rfl) ?_
  exact pv
  refine vk aC (λx w2 az=>?_) ?_
  refine zi (i:=2) cz aL rfl rfl om ?_
  exact pv
  refine vc (λ_ _ _=>zf kX rfl pv) ?_
  refine vk aC (λx w2 az=>?_) ?_
  have bU:=bU.ext az
  refine zl gD rfl (bU 0 _ rfl) ?_
  exact pv
  refine vk aC (λx w2 az=>?_) ?_
  refine aA (vA _ _) ?_
  rintro _ _ ⟨rfl,rfl⟩
  exact pv
  refine vc (λ_ _ _=>kx rfl rfl rfl pv) ?_
  refine vc (λx w2 az=>?_) ?_
  refine zm ?_
  exact pv (by exact congrArg Value.bool (show(!dN (nth t.ak 2).aw)=false from by rw[h2];rfl))
  refine vc (λ_ _ _=>zf jt rfl pv) ?_
  refine vk aC (λx w2 az=>?_) ?_
  have aX:=aX.ext az
  refine zl iC rfl (aX.at rfl) ?_
  exact pv
  refine vk aC (λx w2 az=>?_) ?_
  refine zi (i:=1) cz aL rfl rfl om ?_
  exact pv
  refine vc (λ_ _ _=>zf kX rfl pv) ?_
  refine vk aC (λx w2 az=>?_) ?_
  have bK:=bK.ext az
  refine zl gD rfl (bK 0 _ rfl) ?_
  exact pv
  refine vc (λ_ _ _=>zf jt rfl pv) ?_
  refine vk aC (λx w2 az=>?_) ?_
  have aX:=aX.ext az
  refine zl iC rfl (aX.at rfl) ?_
  exact pv
  refine vk aC (λx w2 az=>?_) ?_
  refine zi (i:=2) cz aL rfl rfl om ?_
  exact pv
  refine vc (λ_ _ _=>zf kX rfl pv) ?_
  refine vk aC (λx w2 az=>?_) ?_
  have bU:=bU.ext az
  refine zl gD rfl (bU 0 _ rfl) ?_
  exact pv
  refine vk aC (λx w2 az=>?_) ?_
  refine DG rfl rfl rfl rfl ?_
  exact pv
  refine vc (λ_ _ _=>zp rfl pv) ?_
  refine vc (λx w2 az=>?_) ?_
  refine zm ?_
  exact pv (by exact congrArg Value.bool (dF kC))
  refine vc (λ_ _ _=>zf jt rfl pv) ?_
  refine vk aC (λx w2 az=>?_) ?_
  have aX:=aX.ext az
  refine zl iC rfl (aX.at rfl) ?_
  exact pv
  refine vk aC (λx w2 az=>?_) ?_
  refine zi (i:=3) cz aL rfl rfl om ?_
  exact pv
  refine vk aC (λx w2 az=>?_) ?_
  have dO:=dO.ext az
  refine zL eU aL rfl dO rfl ?_
  exact pv
  refine vk aC (λx w2 az=>?_) ?_
  have dY:=dY.ext az
  refine aA (A1 (nth t.ak 3) om (cm.nth om) _ _ w2 dY) ?_
  rintro v3 w3 ⟨ko,aH⟩
  have fm:=aH.size
  obtain rfl:=ko
  exact pk aH
  refine vc (λ_ _ _=>kx rfl rfl rfl pv) ?_
  refine vc (λ_ _ _=>zp rfl pv) ?_
  refine vc (λx w2 az=>?_) ?_
  refine zm ?_
  exact pv (by exact congrArg Value.bool (show(!jP (nth t.ak 3))=false from by rw[h3];rfl))
  refine vc (λ_ _ _=>zf jt rfl pv) ?_
  refine vk aC (λx w2 az=>?_) ?_
  have aX:=aX.ext az
  refine zl iC rfl (aX.at rfl) ?_
  exact pv
  refine vk aC (λx w2 az=>?_) ?_
  refine zi (i:=4) cz aL rfl rfl om ?_
  exact pv
  refine vk aC (λx w2 az=>?_) ?_
  have jx:=jx.ext az
  refine zL eU aL rfl jx rfl ?_
  exact pv
  refine vk aC (λx w2 az=>?_) ?_
  have pT:=pT.ext az
  refine aA (A1 (nth t.ak 4) om (cm.nth om) _ _ w2 pT) ?_
  rintro v3 w3 ⟨ko,aH⟩
  have fm:=aH.size
  obtain rfl:=ko
  exact pk aH
  refine vc (λ_ _ _=>kx rfl rfl rfl pv) ?_
  refine vc (λ_ _ _=>zp rfl pv) ?_
  refine vc (λ_ _ _=>zp rfl pv) ?_
  exact trivial
  intro x o3 gR
  have hK:=hK.ext gR
  change OW _ _ _ _ [] (bo (bj _ x _) (zZ 52 [_,_,_,_,_,_,_,_,_,_,_,_,_,_,_,_,_,_,_,_,_,_,_,_,_,_,_,_,_,_,_,_,_,_,_,_,_,_,_,_])) _
  refine aZ ?_
  exact⟨(),⟨rfl,rfl,rfl,congrArg Value.bool (show(!jP (nth t.ak 4))=_ from by unfold CA;rw[dT h5,h2,h3,h4,dT kC];rfl)⟩,hK,gR⟩
  intro gu qw yc hI
  obtain⟨hK,aB⟩:=hI
  have aX:=aX.ext aB;have aP:=aP.ext aB
  refine zc rfl (λh7=>?_) (λh7=>?_)
  have hz:dw t=false:=(by simp only[aE,dE,Bool.not_eq_true'] at h7;rw[nY,dF (λh=>h h7.1),h7.2];rfl)
  refine zr<|zA<|aZ<|jZ ?_
  exact⟨_,rfl,by rw[hz];rfl,hK⟩
  have JB:dw t=(t.ak.drop (dW (nth t.ak 0).aw).1).all dw:=(by simp only[Bool.and_eq_false_iff,decide_eq_false_iff_not,Bool.not_eq_false'] at h7;rw[nY];rcases h7 with h|h;(·rw[dT h];rfl);(·rw[h,Bool.or_true];rfl))
  refine gY<|jL<|zr<|zm<|zA<|aZ<|tj ?_
  refine eA (λk:Nat=>[(1,.pointer (some ⟨w.heap.size,0,none⟩)),(6,.int .i64 ((dW (nth t.ak 0).aw).2:Int)),(7,.int .i64 (k:Int))]) (λk w'=>aj [] w w'∧aj [] qw w'∧(dW (nth t.ak 0).aw).1<=k∧k<=t.ak.length∧∀j,(dW (nth t.ak 0).aw).1<=j->j<k->dw (nth t.ak j)=true) (λk=>t.ak.length-k) ((dW (nth t.ak 0).aw).1) (⟨rfl,rfl,rfl⟩) (⟨hK,aj.refl _ _,lR _,om,by intro j h1 h2;omega⟩) ?_
  intro gg oZ Eu hI
  obtain⟨hK,kq,aI,hk,cL⟩:=hI
  have aX:=aX.ext kq;have aP:=aP.ext kq
  refine jL<|zr<|zm<|zm<|H8 rfl rfl rfl rfl rfl<|aZ<|zc rfl (λh8=>?_) (λh8=>?_)
  have gL:gg<t.ak.length:=om
  obtain⟨b1,eX,gA,qZ,gm,e1,bK,sJ,oY⟩:=iJ aP (gh gL)
  cases e1
  subst sJ
  have cI:=kV oY
  have cV:=kY gL
  refine gY<|jL<|tj<|zr<|zf jt rfl<|zl iC rfl (aX.at rfl)<|zm<|zi cz aL rfl rfl gL<|zL eU aL rfl bK rfl<|aA (ih (nth t.ak gg) om om (cm.nth gL) _ _ oZ cI) ?_
  rintro v44 o4 ⟨agy,iX⟩
  have aot:=iX.size
  have hK:=hK.ext iX;have kq:=kq.ext iX
  obtain rfl:=agy
  refine kx rfl rfl rfl<|aZ<|zc rfl (λh9=>?_) (λh9=>?_)
  have hz:dw t=false:=(by rw[JB];exact agt aI gL (by simpa using h9))
  refine zr<|zA<|aZ<|jZ ?_
  exact⟨_,rfl,by rw[hz];rfl,hK⟩
  have hy:dw (nth t.ak gg)=true:=(by simpa using h9)
  refine gY<|kH<|zm<|mX rfl rfl rfl rfl rfl (wrap_i64 _ om om)<|zA<|aZ ?_
  exact⟨gg+1,⟨rfl,rfl,rfl⟩,⟨hK,kq,om,om,by intro j h1 h2;rcases Nat.lt_or_ge j gg with h|h;exact cL j h1 h;rw[show j=gg by omega];exact hy⟩,om⟩
  refine zj<|zk rfl<|zr<|zA<|aZ<|jZ ?_
  exact⟨_,rfl,by rw[JB,ags (λj h1 h2=>cL j h1 om)];rfl,hK⟩
section
variable {P:Program} {w:World}
theorem agz {t ty T:TypeId} {i:TypeInfo} {sz bytes:Nat} (ht:P.underlying t=some (.slice T)) (hi:P.info? T=some i) (hz:i.zero=some z) 
  (BC:i.size=sz) (fK:i.bytes=bytes) (xI:z.cells.size=sz)
  {v:Value} {g:Option Nat} {n:Nat} {xs:List Value} (dv:iH w T sz v g n xs)
  (ab aoff m c:Nat) (news:List Value) (hl:news.length=m*sz) (tl:fS w ab aoff news) (h1:∀u∈news,u.oneCell'=true) (hm:0<m) (agA:0<i.size)
  (zo:n+m<=maxLen) (xJ:(n+m)*bytes<=140737488355328):
  ∃v' g' w',(Builtin.append_ #[t,t] ty #[v,.slice (some ⟨ab,aoff,none⟩) m c]).run P w= .ok v' w'∧iH w' T sz v' g' (n+m) (xs++news)∧
   ((g'=g∧aj g.toList w w'∧∀b,g=some b->∃cur U,aJ w b cur U∧0<cur.size)∨(g'=some w.heap.size∧aj [] w w')):=by
 subst BC
 subst fK
 have H6:n+m<=9223372036854775807:=by simp only[maxLen] at zo;omega
 have hlen:(xs++news).length=(n+m)*i.size:=by rw[lA,dv.1,hl,Nat.add_mul]
 have uF:∀b o j:Nat,(⟨b,o,none⟩:Addr).add j=⟨b,o+j,none⟩:=λb o j=>by unfold Addr.add;split<;>simp_all
 have uG:∀j u,news[j]?=some u->w.cell? ((⟨ab,aoff,none⟩:Addr).add j)=some u:=λj u hu=>by rw[uF];exact tl j u hu
 have grown:∀(old:Nat),old<n+m->
   iH (w.drew.alloc (.cells (xs.toArray++news.toArray++Builtin.zeroCells z.cells (grownCap w (n+m) old T-(n+m))) T)) T i.size
    (.slice (some ⟨w.heap.size,0,none⟩) (n+m) (grownCap w (n+m) old T)) (some w.heap.size) (n+m) (xs++news)∧
   aj [] w (w.drew.alloc (.cells (xs.toArray++news.toArray++Builtin.zeroCells z.cells (grownCap w (n+m) old T-(n+m))) T)):=by
  intro old ho
  have oC:=grownCap_ge w (n+m) old T
  have lU:grownCap w (n+m) old T<=maxLen:=grownCap_le_maxLen w (n+m) old T zo
  refine⟨⟨hlen,.inr ⟨w.heap.size,_,_,rfl,rfl,heap_alloc_new w.drew _,oC,lU,?_,?_⟩⟩,⟨rfl,rfl,rfl,sm,λk hk _=>heap_alloc_old w.drew _ k hk⟩⟩
  ·simp only[Array.size_append,List.size_toArray,size_zeroCells,xI,dv.1,hl,<-Nat.add_mul]
   congr 1
   omega
  ·simp only[Array.toList_append,List.append_assoc]
   rw[<-List.append_assoc,<-hlen]
   exact List.take_left
 rcases dv.2 with⟨rfl,rfl,rfl⟩|⟨b,cap,cur,rfl,rfl,hb,ml,lU,bZ,tq⟩
 ·have hx:xs=[]:=List.eq_nil_of_length_eq_zero (by simpa using dv.1)
  subst hx
  have hr:=run_append_nil (P:=P) w t ty T i z ht hi hz ⟨ab,aoff,none⟩ m c news hl uG hm om (by have hb:=xJ;simp only[Nat.zero_add] at hb;omega)
  have kS:=grown 0 om
  simp only[Nat.zero_add,List.nil_append,Array.empty_append] at kS⊢
  exact⟨_,_,_,hr,kS.1,.inr ⟨rfl,kS.2⟩⟩
 ·by_cases oD:n+m<=cap
  ·have kv:n*i.size+news.length<=cur.size:=by rw[hl,bZ,<-Nat.add_mul];exact Nat.mul_le_mul_right _ oD
   have hr:=run_append_room (P:=P) w t ty T i ht hi b n cap cur hb ⟨ab,aoff,none⟩ m c news hl uG h1 oD kv
   refine⟨_,some b,_,hr,⟨hlen,.inr ⟨b,cap,_,rfl,rfl,setRow_heap w b cur _ T _ hb,oD,lU,?_,?_⟩⟩,.inl ⟨rfl,⟨rfl,rfl,rfl,sm,λk _ hk=>setRow_other w b k _ (by simpa using hk)⟩,λb' gN=>?_⟩⟩
   ·simp only[List.size_toArray,lA,List.length_take,List.length_drop,Array.length_toList]
    omega
   ·rw[tq,<-hlen]
    exact List.take_left
   ·cases gN
    refine⟨cur,T,hb,?_⟩
    rw[bZ]
    exact Nat.mul_pos om agA
  ·have holds:∀j u,xs[j]?=some u->w.cell? ((⟨b,0,none⟩:Addr).add j)=some u:=λj u hu=>by
    rw[uF,hb.cell]
    rw[<-tq,List.getElem?_take] at hu
    split at hu
    ·simpa using hu
    ·cases hu
   have hr:=run_append_grow (P:=P) w t ty T i z ht hi hz ⟨b,0,none⟩ n cap xs dv.1 holds ⟨ab,aoff,none⟩ m c news hl uG om om (growslice_fits om xJ)
   have kS:=grown cap om
   exact⟨_,_,_,hr,kS.1,.inr ⟨rfl,kS.2⟩⟩
end
def qy (G:List Nat) (w:World) (T:TypeId) (g:Option Nat):Prop:=∀x,x∈g.toList->x∈G∨aJ w x #[] T
theorem qy.ext {T:TypeId} (h:qy G w T g) (k:aj [] w w'):qy G w' T g:=λx hx=>(h x hx).imp id λh=>h.ext k
theorem qy.sub {T:TypeId} (h:∀x,x∈g.toList->x∈G):qy G w T g:=λx hx=>.inl (h x hx)
section
variable {P:Program} {n:Nat} {ops:Array Oper} {K:Env->World->Prop} {rest:List Oper} {e:Env} {w:World} {dst:Option Nat} {ty:TypeId} {pos:String} {after:Array Edge} {g:Option (Nat×Bool)} {x y:Operand}
theorem Ev {G L:List Nat} {v u:Value} {gb:Option Nat} {xs ys:List ai} (hT:P.underlying t=some (.slice E)) (hE:TI P E 1 bytes z) (hg:gate ops e g=true) (hd:bV n dst=true) (hz:Nat.beq z.cells.size 1=true) (fK:Nat.ble bytes 1000=true) 
  (hx:ev e x=v) (hy:ev e y=u) (hO:cG w E v gb xs) (hu:bc L w u ys) (hG:eO G w) (ba:qy G w E gb) (hn:xs.length+ys.length<100000000)
  (k:∀v' g' w' G',cG w' E v' g' (xs++ys)->qy G' w' E g'->(∀x,x∈g'.toList->x∈gb.toList∨w.heap.size<=x)->(∀x,x∈G->x∈G')->Fr G w G' w'->eO G' w'->aj gb.toList w w'->OW P n ops K rest (bM e dst v') w'):
  OW P n ops K (⟨dst,.call {callee:=.builtin .append,args:=#[x,y],argTypes:=#[t,t]},ty,pos,after,g⟩::rest) e w:=by
 obtain⟨i,hi,uO,fC,MY⟩:=hE.get
 have zR:bytes<=1000:=Nat.le_of_ble_eq_true fK
 obtain⟨a2,n2,c2,rfl,eV⟩:=dJ hu
 subst eV
 by_cases hp:0<ys.length
 ·obtain⟨ab,aoff,vs,rfl,IK,aou,hc,Jg,_,gZ⟩:=TR hu (by rw[qb];exact hp)
  have aW:=MZ Jg
  subst aW
  obtain⟨v',g',w',jM,xP,agB⟩:=agz (P:=P) (ty:=ty) hT hi uO fC MY (Nat.eq_of_beq_eq_true hz) hO ab aoff ys.length c2 (ys.map λx=>str x) sm hc (by intro u hu;obtain⟨s,_,rfl⟩:=List.mem_map.1 hu;rfl) hp (by rw[fC];decide) (by simp only[maxLen];omega)
   (Nat.le_trans (Nat.mul_le_mul (show xs.length+ys.length<=100000000 by omega) zR) de)
  have Nx:cG w' E v' g' (xs++ys):=by
   unfold cG
   rw[lA,List.map_append]
   exact xP
  refine eQ hg hd (v:=v') (w':=w') (by
   simp only[execOp,resolve,invoke,builtin,Sem.run_bind,Sem.run_pure,Result.andThen_ok,List.map_toArray,List.map_cons,List.map_nil,hx,hy,jM]) ?_
  rcases agB with⟨rfl,hk,GP⟩|⟨rfl,hk⟩
  ·have tV:∀q,q∈g'.toList->q∈G:=λq hq=>by
    rcases ba q hq with h|h
    ·exact h
    ·obtain⟨cur,U,hb,hs⟩:=GP q (by simpa using hq)
     unfold aJ at h hb
     rw[h] at hb
     cases hb
     simp at hs
   exact k v' g' w' G Nx (qy.sub tV) (λq hq=>.inl hq) (λq hq=>hq) (Fr.of hk tV) (λq hq=>lL (hG q hq) hk.size) hk
  ·have dU:w.heap.size<w'.heap.size:=Nx.lt _ sm
   refine k v' _ w' (w.heap.size::G) Nx (qy.sub sm) (λq hq=>.inr (by simp at hq;omega)) (λq hq=>mK _ hq) ⟨hk.any,λq hq=>?_⟩ (λq hq=>?_) hk.any
   ·rcases mC.1 hq with h|h
    ·right;omega
    ·exact .inl h
   ·rcases mC.1 hq with h|h
    ·omega
    ·exact lL (hG q h) hk.size
 ·have nv:ys=[]:=List.length_eq_zero_iff.1 om
  subst nv
  obtain⟨a,cap,rfl⟩:=jS hO
  have zq:xs.length<=cap:=by
   rcases hO.2 with⟨h,h2,_⟩|⟨_,_,_,_,h,_,h2,_⟩
   ·rw[h2];omega
   ·cases h;exact h2
  have jM:=TT (P:=P) (w:=w) (t:=t) (ty:=ty) hT hi (a:=a) (m:=xs.length) (cap:=cap) zq (a2:=a2) (c2:=c2)
  refine eQ hg hd (v:=.slice a xs.length cap) (w':=w) (by
   simp only[execOp,resolve,invoke,builtin,Sem.run_bind,Sem.run_pure,Result.andThen_ok,List.map_toArray,List.map_cons,List.map_nil,hx,hy]
   have e2:([]:List ai).length=0:=rfl
   rw[e2]
   simp only[jM,Sem.run_bind,Sem.run_pure,Result.andThen_ok]) ?_
  exact k _ gb w G (by rw[List.append_nil];exact hO) ba (λq hq=>.inl hq) (λq hq=>hq) (Fr.refl _ _) hG (aj.refl _ _)
theorem agC {T:Nat} (hT:P.underlying T=some (.slice E)) (hE:TI P E sz bytes z) (hg:gate ops e g=true) (hd:bV n dst=true) 
  (k:∀w',aj [] w w'->aJ w' w.heap.size #[] E->w'.heap.size=w.heap.size+1->OW P n ops K rest (bM e dst (.slice (some ⟨w.heap.size,0,none⟩) 0 0)) w'):
  OW P n ops K (⟨dst,.buildSlice T 0 #[],ty,pos,after,g⟩::rest) e w:=
 eQ hg hd (w':=w.alloc (.cells #[] E)) (by simp[execOp,Rw (P:=P) (w:=w) hT hE]) (k _ (aj.alloc _ _ _) (aJ.alloc _ _ _) sm)
theorem fR {T:Nat} (hT:P.underlying T=some (.slice E)) (hE:TI P E sz bytes z) (k:∀w',aj [] w w'->aJ w' w.heap.size #[] E->w'.heap.size=w.heap.size+1->OW P n ops K rest (bM e dst (.slice (some ⟨w.heap.size,0,none⟩) 0 0)) w') (hg:gate ops e g=true:=by rfl) (hd:bV n dst=true:=by rfl):OW P n ops K (⟨dst,.buildSlice T 0 #[],ty,pos,after,g⟩::rest) e w:=agC hT hE hg hd k
end
def LP (N:Nat) (G G0:List Nat) (w:World) (T:TypeId) (v:Value) (xs:List ai):Prop:=∃g,cG w T v g xs∧qy G w T g∧∀x,x∈g.toList->x∉G0∧N<=x
theorem LP.ext {T:TypeId} (h:LP N G G0 w T v xs) (k:aj [] w w'):LP N G G0 w' T v xs:=let⟨g,h1,h2,h3⟩:=h;⟨g,h1.ext k,h2.ext k,h3⟩
structure Out (N:Nat) (G0:List Nat) (w w':World):Prop where
 ex:∃H,aj H w w'∧∀x,x∈H->x∉G0∧N<=x
theorem Out.gX (h:Out N G0 w w') {cs:Array Value} {T:TypeId} (hb:aJ w b cs T) (hG:b∈G0):aJ w' b cs T:=let⟨_,k,hH⟩:=h.ex;hb.aF k λhx=>(hH b hx).1 hG
theorem Out.since {w0:World} (h:Out w0.heap.size G0 w w') (k:aj L w0 w):aj L w0 w':=let⟨_,kk,hH⟩:=h.ex;k.since kk λx hx=>.inr (hH x hx).2
section
variable {P:Program} {n:Nat} {ops:Array Oper} {K:Env->World->Prop} {rest:List Oper} {e:Env} {w:World} {dst:Option Nat} {ty:TypeId} {pos:String} {after:Array Edge} {g:Option (Nat×Bool)} {x y:Operand}
theorem GQ {N:Nat} {G0:List Nat} {bb:Nat} {u:Value} {ys:List ai} (hT:P.underlying t=some (.slice E)) (hE:TI P E 1 bytes z) (hg:gate ops e g=true) (hd:bV n dst=true) (hz:Nat.beq z.cells.size 1=true) (fK:Nat.ble bytes 1000=true) 
  (hx:ev e x= .slice (some ⟨bb,0,none⟩) 0 0) (hy:ev e y=u) (hb:dM G0 w bb #[] E) (UW:N<=bb) (hu:bc G0 w u ys) (hG:eO G0 w) (hn:ys.length<100000000)
  (k:∀v' w' G',(∀q,q∈G0->q∈G')->LP N G' G0 w' E v' ys->Fr G0 w G' w'->eO G' w'->Out N G0 w w'->OW P n ops K rest (bM e dst v') w'):
  OW P n ops K (⟨dst,.call {callee:=.builtin .append,args:=#[x,y],argTypes:=#[t,t]},ty,pos,after,g⟩::rest) e w:=by
 refine Ev hT hE hg hd hz fK hx hy hb.gX.kM hu hG (λq hq=>.inr (by simp at hq;subst hq;exact hb.gX)) (by simpa using hn) ?_
 intro v' g' w' G' hO hZ hs jU bC hl hk
 refine k v' w' G' jU ⟨g',hO,hZ,λq hq=>⟨λUX=>?_,?_⟩⟩ bC hl ⟨_,hk,λq hq=>?_⟩
 ·rcases hs q hq with h|h
  ·simp at h;subst h;exact hb.out UX
  ·have:=hG q UX;omega
 ·rcases hs q hq with h|h
  ·simp at h;subst h;exact UW
  ·have:=hb.gX.lt;omega
 ·simp at hq;subst hq;exact⟨hb.out,UW⟩
theorem JC {N:Nat} {G G0:List Nat} {v u:Value} {xs ys:List ai} (hT:P.underlying t=some (.slice E)) (hE:TI P E 1 bytes z) (hg:gate ops e g=true) (hd:bV n dst=true) (hz:Nat.beq z.cells.size 1=true) (fK:Nat.ble bytes 1000=true) 
  (hx:ev e x=v) (hy:ev e y=u) (hO:LP N G G0 w E v xs) (hu:bc G w u ys) (hG:eO G w) (jU:∀q,q∈G0->q∈G) (hn:xs.length+ys.length<100000000)
  (k:∀v' w',bc G0 w' v' (xs++ys)->Fr G w G0 w'->eO G0 w'->Out N G0 w w'->OW P n ops K rest (bM e dst v') w'):
  OW P n ops K (⟨dst,.call {callee:=.builtin .append,args:=#[x,y],argTypes:=#[t,t]},ty,pos,after,g⟩::rest) e w:=by
 obtain⟨gb,h1,h2,h3⟩:=hO
 refine Ev hT hE hg hd hz fK hx hy h1 hu hG h2 hn ?_
 intro v' g' w' G' hO hZ hs UY bC hl hk
 refine k v' w' (hO.rep λb hb jn=>?_) (bC.to λq hq=>.inl (UY q (jU q hq))) (λq hq=>hl q (UY q (jU q hq))) ⟨_,hk,λq hq=>h3 q hq⟩
 rcases hs b (by simp[hb]) with h|h
 ·exact(h3 b h).1 jn
 ·have:=hG b (jU b jn);omega
end
theorem dH.out {T:TypeId} (h:dH G w T sz v g rows) (k:Fr G w G' w') (ho:Out N G0 w w') (hg:∀x,x∈g.toList->x∈G0):dH G' w' T sz v g rows:=
 let⟨_,kk,hH⟩:=ho.ex;h.aF k kk λx hx fj=>(hH x fj).1 (hg x hx)
section
variable {P:Program} {n:Nat} {ops:Array Oper} {K:Env->World->Prop} {rest:List Oper} {e:Env} {w:World} {pos:String} {ty:TypeId} {after:Array Edge} {g:Option (Nat×Bool)} {x y:Operand}
theorem sR {G:List Nat} {T:Nat} {v:Value} {vs:List Value} {row:List C} {E gb:Nat} {N c:Nat} {rows:List (List C)} {b o i:Nat} (jN:TI P T sz bytes z) (hg:gate ops e g=true) 
  (hx:ev e x= .pointer (some ⟨b,o,none⟩)) (hy:ev e y=v) (hv:v.cells=vs.toArray) (ho:o=i*sz) (hO:dH G w E sz (.slice (some ⟨b,0,none⟩) N c) (some gb) rows) (hG:eO G w) (oh:gb∈G) (hi:i<rows.length) (h1:vs.all Value.oneCell'=true)
  (ob:row.length=sz) (hr:cS G w vs row)
  (k:∀w',aj [gb] w w'->w'.heap.size=w.heap.size->dH G w' E sz (.slice (some ⟨b,0,none⟩) N c) (some gb) (rows.set i row)->OW P n ops K rest e w'):
  OW P n ops K (⟨none,.store T x y,ty,pos,after,g⟩::rest) e w:=by
 obtain⟨⟨xs,dv,gB⟩,gZ⟩:=hO
 have rI:∀q,q∈gb::G.filter (λq=>decide (q≠gb))->q∈G∨w.heap.size<=q:=λq hq=>by
  rcases mC.1 hq with h|h
  ·exact .inl (h▸oh)
  ·exact .inl (List.mem_filter.1 h).1
 have hGr:Gr 0 (G.filter λq=>decide (q≠gb)) w E sz (.slice (some ⟨b,0,none⟩) N c) (some gb) rows:=
  ⟨⟨xs,dv,gB.fresh rI,gZ,λq hq nY=>by cases hq;simpa using(List.mem_filter.1 nY).2⟩,λ_ _=>Nat.zero_le _,λq hq=>hG q (List.mem_filter.1 hq).1,Nat.zero_le _⟩
 refine afy jN hg hx hy hv ho hGr hi h1 ob (hr.fresh rI) ?_
 intro w' hk hz iU
 obtain⟨xs',h'⟩:=iU.own
 refine k w' hk hz ⟨⟨xs',h'.own,h'.rep.fresh λq hq=>?_⟩,h'.row⟩
 by_cases UZ:q=gb
 ·exact .inl (by simp[UZ])
 ·exact .inl (by simp[UZ,hq])
end
theorem agE {t:aq} (h:DY s t):(((bA s).isSome&&dw t)&&decide ((fh t:Int)<=120))=l7 s:=by
 unfold l7 Jy
 cases hp:bA s with
 |none=>rfl
 |some u=>rw[h.1 u hp];exact congrArg (λb=>dw u&&b) (decide_eq_decide.2 om)
theorem GR (s:ai) (L:List Nat) (w:World) (hL:∀x,x∈L->x<w.heap.size):
  bz Tryz.prog 47 [str s] w λv w'=>(∃t tv,v= .tuple #[tv,.bool (l7 s)]∧bB L w' tv t∧DY s t)∧aj [] w w':=by
 have hK:=aj.refl [] w
 refine kW [.cell 2 78,.tmp 3] 22 Tryz.func47 rfl aaB rfl rfl rfl ?_
 refine zr<|dx aL rfl rfl rfl λw1 aI aU dk=>?_
 have hK:=hK.grow;have hK:=hK.ext aI
 refine W ?_
 refine aA (Ji s (w.heap.size::L) w1 (by intro x hx;rcases mC.1 hx with rfl|hx;omega;have:=hL x hx;omega)) ?_
 rintro v2 w2 ⟨ij,az⟩
 have dm:=az.size
 refine bI az hK aU λhK aU=>?_
 obtain⟨t,tv,rfl,ht,hp⟩:=ij
 obtain⟨pa,pn,pc,rfl,eP,aP⟩:=cU ht
 subst eP
 have cm:∀h:(bA s).isSome=true,WF t∧t.size<=12001:=λh=>DV hp.1 h
 refine W ?_
 refine dx aL rfl rfl rfl λw3 aH aG gJ=>?_
 have hK:=hK.grow;have hK:=hK.ext aH;have aU:=aU.grow;have aU:=aU.ext aH;have ht:=ht.grow;have ht:=ht.ext aH
 refine cJ aL rfl rfl rfl aG rfl λw4 aO aG gQ=>?_
 have hK:=hK.aD aO sx;have aU:=aU.aD aO sx;have ht:=ht.aD aO sx
 refine W ?_
 refine zB dj (cj w.heap.size ([str t.aw,.slice pa t.ak.length pc]) 78) 13 (rA 11 11++[100011,3]) (rA 11 11++[100011,3]) [[],[],[1],[2],[2,3],[2,4],[5],[6],[6,7],[6,8],[6,9],[0],[10]] [λv _=>v=(.agg #[str t.aw,.slice pa t.ak.length pc]),λv _=>v=(.bool ((bA s).isSome)),λv _=>v=(.bool ((bA s).isSome)),λv _=>((bA s).isSome)=true->v=(.agg #[str t.aw,.slice pa t.ak.length pc]),λv _=>((bA s).isSome)=true->v=(.bool (dw t)),λv _=>v=(.bool ((bA s).isSome&&dw t)),λv _=>v=(.bool ((bA s).isSome&&dw t)),λv _=>((bA s).isSome&&dw t)=true->v=(.agg #[str t.aw,.slice pa t.ak.length pc]),λv _=>((bA s).isSome&&dw t)=true->v=(.int .i64 (fh t:Int)),λv _=>((bA s).isSome&&dw t)=true->v=(.bool (decide ((fh t:Int)<=120))),λv _=>v=(.bool (((bA s).isSome&&dw t)&&decide ((fh t:Int)<=120))),λ_ ww=>aJ ww w.heap.size ([str t.aw,.slice pa t.ak.length pc]).toArray 78,λv _=>v=(.bool (((bA s).isSome&&dw t)&&decide ((fh t:Int)<=120)))] de (fu (fu (fu (BG (BG (fu (fu (BG (BG (BG (fu (DH (fu trivial))))))))))))) (λwd aC=>?_) ?_
 refine eh ?_ ?_
 intro x vs w5 e aN hd he
 replace aN:=(cj w.heap.size ([str t.aw,.slice pa t.ak.length pc]) 78).trans aC aN
 have aG:=aG.aD aN.1 sx
 replace he:e=bo (bj _ x _) []:=he
 subst he
 refine W ?_
 exact dn ((cj w.heap.size ([str t.aw,.slice pa t.ak.length pc]) 78).refl _) rfl
 refine eh ?_ ?_
 intro x vs w5 e aN hd he
 replace aN:=(cj w.heap.size ([str t.aw,.slice pa t.ak.length pc]) 78).trans aC aN
 replace he:e=bo (bj _ x _) []:=he
 subst he
 refine W ?_
 exact dn ((cj w.heap.size ([str t.aw,.slice pa t.ak.length pc]) 78).refl _) rfl
 refine eh ?_ ?_
 intro x vs w5 e aN hd he
 have d1:vs 1=(.bool ((bA s).isSome)):=hd
 replace aN:=(cj w.heap.size ([str t.aw,.slice pa t.ak.length pc]) 78).trans aC aN
 replace he:e=bo (bj _ x _) [(12,vs 1)]:=he
 rw[d1] at he
 subst he
 refine W ?_
 exact dn ((cj w.heap.size ([str t.aw,.slice pa t.ak.length pc]) 78).refl _) rfl
 refine eh ?_ ?_
 intro x vs w5 e aN hd he
 have d2:vs 2=(.bool ((bA s).isSome)):=hd
 replace aN:=(cj w.heap.size ([str t.aw,.slice pa t.ak.length pc]) 78).trans aC aN
 have aG:=aG.aD aN.1 sx
 rcases bE ((bA s).isSome) with hg|hg
 rw[hg] at d2
 replace he:e=bo (bj _ x _) [(13,vs 2)]:=he
 rw[d2] at he
 subst he
 refine W ?_
 exact dn ((cj w.heap.size ([str t.aw,.slice pa t.ak.length pc]) 78).refl _) (show((bA s).isSome)=true->_=((.agg #[str t.aw,.slice pa t.ak.length pc]):Value) from λ_=>rfl)
 rw[hg] at d2
 replace he:e=bo (bj _ x _) [(13,vs 2)]:=he
 rw[d2] at he
 subst he
 refine W ?_
 exact dn ((cj w.heap.size ([str t.aw,.slice pa t.ak.length pc]) 78).refl _) (show((bA s).isSome)=true->_=(_:Value) from λhh=>nomatch hg.symm.trans hh)
 refine eh ?_ ?_
 intro x vs w5 e aN hd he
 have aQ:(vs 2=(.bool ((bA s).isSome)))∧(((bA s).isSome)=true->vs 3=(.agg #[str t.aw,.slice pa t.ak.length pc])):=hd
 obtain⟨d2,d3⟩:=aQ
 replace aN:=(cj w.heap.size ([str t.aw,.slice pa t.ak.length pc]) 78).trans aC aN
 have ht:=ht.aD aN.1 sx
 rcases bE ((bA s).isSome) with hg|hg
 rw[hg] at d2
 replace d3:=d3 hg
 replace he:e=bo (bj _ x _) [(13,vs 2),(14,vs 3)]:=he
 rw[d2,d3] at he
 subst he
 refine aA (agv t.size t (lR _) (by have:=(cm hg).2;omega) (cm hg).1 _ _ w5 ht) ?_
 rintro _ w6 ⟨rfl,bN⟩
 have od:=bN.size
 refine W ?_
 exact dn ((cj w.heap.size ([str t.aw,.slice pa t.ak.length pc]) 78).of bN) (show((bA s).isSome)=true->_=((.bool (dw t)):Value) from λ_=>rfl)
 rw[hg] at d2
 replace he:e=bo (bj _ x _) [(13,vs 2),(14,vs 3)]:=he
 rw[d2] at he
 subst he
 refine W ?_
 exact dn ((cj w.heap.size ([str t.aw,.slice pa t.ak.length pc]) 78).refl _) (show((bA s).isSome)=true->_=(_:Value) from λhh=>nomatch hg.symm.trans hh)
 refine eh ?_ ?_
 intro x vs w5 e aN hd he
 have aQ:(vs 2=(.bool ((bA s).isSome)))∧(((bA s).isSome)=true->vs 4=(.bool (dw t))):=hd
 obtain⟨d2,d4⟩:=aQ
 replace aN:=(cj w.heap.size ([str t.aw,.slice pa t.ak.length pc]) 78).trans aC aN
 rcases bE ((bA s).isSome) with hg|hg
 rw[hg] at d2
 replace d4:=d4 hg
 replace he:e=bo (bj _ x _) [(13,vs 2),(15,vs 4)]:=he
 rw[d2,d4] at he
 subst he
 refine W ?_
 exact dn ((cj w.heap.size ([str t.aw,.slice pa t.ak.length pc]) 78).refl _) (by first|rfl|(rw[hg];rfl))
 rw[hg] at d2
 replace he:e=bo (bj _ x _) [(13,vs 2),(15,vs 4)]:=he
 rw[d2] at he
 subst he
 refine W ?_
 exact dn ((cj w.heap.size ([str t.aw,.slice pa t.ak.length pc]) 78).refl _) (by first|rfl|(rw[hg];rfl))
 refine eh ?_ ?_
 intro x vs w5 e aN hd he
 have d5:vs 5=(.bool ((bA s).isSome&&dw t)):=hd
 replace aN:=(cj w.heap.size ([str t.aw,.slice pa t.ak.length pc]) 78).trans aC aN
 replace he:e=bo (bj _ x _) [(16,vs 5)]:=he
 rw[d5] at he
 subst he
 refine W ?_
 exact dn ((cj w.heap.size ([str t.aw,.slice pa t.ak.length pc]) 78).refl _) rfl
 refine eh ?_ ?_
 intro x vs w5 e aN hd he
 have d6:vs 6=(.bool ((bA s).isSome&&dw t)):=hd
 replace aN:=(cj w.heap.size ([str t.aw,.slice pa t.ak.length pc]) 78).trans aC aN
 have aG:=aG.aD aN.1 sx
 rcases bE ((bA s).isSome&&dw t) with hg|hg
 rw[hg] at d6
 replace he:e=bo (bj _ x _) [(17,vs 6)]:=he
 rw[d6] at he
 subst he
 refine W ?_
 exact dn ((cj w.heap.size ([str t.aw,.slice pa t.ak.length pc]) 78).refl _) (show((bA s).isSome&&dw t)=true->_=((.agg #[str t.aw,.slice pa t.ak.length pc]):Value) from λ_=>rfl)
 rw[hg] at d6
 replace he:e=bo (bj _ x _) [(17,vs 6)]:=he
 rw[d6] at he
 subst he
 refine W ?_
 exact dn ((cj w.heap.size ([str t.aw,.slice pa t.ak.length pc]) 78).refl _) (show((bA s).isSome&&dw t)=true->_=(_:Value) from λhh=>nomatch hg.symm.trans hh)
 refine eh ?_ ?_
 intro x vs w5 e aN hd he
 have aQ:(vs 6=(.bool ((bA s).isSome&&dw t)))∧(((bA s).isSome&&dw t)=true->vs 7=(.agg #[str t.aw,.slice pa t.ak.length pc])):=hd
 obtain⟨d6,d7⟩:=aQ
 replace aN:=(cj w.heap.size ([str t.aw,.slice pa t.ak.length pc]) 78).trans aC aN
 have ht:=ht.aD aN.1 sx
 rcases bE ((bA s).isSome&&dw t) with hg|hg
 rw[hg] at d6
 replace d7:=d7 hg
 replace he:e=bo (bj _ x _) [(17,vs 6),(18,vs 7)]:=he
 rw[d6,d7] at he
 subst he
 refine aA (UJ t.size t (lR _) (by have:=(cm ((aE _ _).mp hg).1).2;omega) (cm ((aE _ _).mp hg).1).1 _ _ w5 ht) ?_
 rintro _ w6 ⟨rfl,bN⟩
 have od:=bN.size
 refine W ?_
 exact dn ((cj w.heap.size ([str t.aw,.slice pa t.ak.length pc]) 78).of bN) (show((bA s).isSome&&dw t)=true->_=((.int .i64 (fh t:Int)):Value) from λ_=>rfl)
 rw[hg] at d6
 replace he:e=bo (bj _ x _) [(17,vs 6),(18,vs 7)]:=he
 rw[d6] at he
 subst he
 refine W ?_
 exact dn ((cj w.heap.size ([str t.aw,.slice pa t.ak.length pc]) 78).refl _) (show((bA s).isSome&&dw t)=true->_=(_:Value) from λhh=>nomatch hg.symm.trans hh)
 refine eh ?_ ?_
 intro x vs w5 e aN hd he
 have aQ:(vs 6=(.bool ((bA s).isSome&&dw t)))∧(((bA s).isSome&&dw t)=true->vs 8=(.int .i64 (fh t:Int))):=hd
 obtain⟨d6,d8⟩:=aQ
 replace aN:=(cj w.heap.size ([str t.aw,.slice pa t.ak.length pc]) 78).trans aC aN
 rcases bE ((bA s).isSome&&dw t) with hg|hg
 rw[hg] at d6
 replace d8:=d8 hg
 replace he:e=bo (bj _ x _) [(17,vs 6),(19,vs 8)]:=he
 rw[d6,d8] at he
 subst he
 refine W ?_
 exact dn ((cj w.heap.size ([str t.aw,.slice pa t.ak.length pc]) 78).refl _) (show((bA s).isSome&&dw t)=true->_=((.bool (decide ((fh t:Int)<=120))):Value) from λ_=>rfl)
 rw[hg] at d6
 replace he:e=bo (bj _ x _) [(17,vs 6),(19,vs 8)]:=he
 rw[d6] at he
 subst he
 refine W ?_
 exact dn ((cj w.heap.size ([str t.aw,.slice pa t.ak.length pc]) 78).refl _) (show((bA s).isSome&&dw t)=true->_=(_:Value) from λhh=>nomatch hg.symm.trans hh)
 refine eh ?_ ?_
 intro x vs w5 e aN hd he
 have aQ:(vs 6=(.bool ((bA s).isSome&&dw t)))∧(((bA s).isSome&&dw t)=true->vs 9=(.bool (decide ((fh t:Int)<=120)))):=hd
 obtain⟨d6,d9⟩:=aQ
 replace aN:=(cj w.heap.size ([str t.aw,.slice pa t.ak.length pc]) 78).trans aC aN
 rcases bE ((bA s).isSome&&dw t) with hg|hg
 rw[hg] at d6
 replace d9:=d9 hg
 replace he:e=bo (bj _ x _) [(17,vs 6),(20,vs 9)]:=he
 rw[d6,d9] at he
 subst he
 refine W ?_
 exact dn ((cj w.heap.size ([str t.aw,.slice pa t.ak.length pc]) 78).refl _) (by first|rfl|(rw[hg];rfl))
 rw[hg] at d6
 replace he:e=bo (bj _ x _) [(17,vs 6),(20,vs 9)]:=he
 rw[d6] at he
 subst he
 refine W ?_
 exact dn ((cj w.heap.size ([str t.aw,.slice pa t.ak.length pc]) 78).refl _) (by first|rfl|(rw[hg];rfl))
 refine eh ?_ ?_
 intro x vs w5 e aN hd he
 have d0:vs 0=(.agg #[str t.aw,.slice pa t.ak.length pc]):=hd
 replace aN:=(cj w.heap.size ([str t.aw,.slice pa t.ak.length pc]) 78).trans aC aN
 obtain⟨us,vm,vq⟩:=aN.2.2 ⟨_,(by rfl),aU⟩
 replace he:e=bo (bj _ x _) [(11,vs 0)]:=he
 rw[d0] at he
 subst he
 refine cJ aL rfl rfl rfl vq (by rw[vm];rfl) λw6 bN hb kI=>W ?_
 exact dn ⟨bN,λ_=>hb,λ_=>⟨_,rfl,hb⟩⟩ hb
 refine eh ?_ ?_
 intro x vs w5 e aN hd he
 have d10:vs 10=(.bool (((bA s).isSome&&dw t)&&decide ((fh t:Int)<=120))):=hd
 replace aN:=(cj w.heap.size ([str t.aw,.slice pa t.ak.length pc]) 78).trans aC aN
 replace he:e=bo (bj _ x _) [(21,vs 10)]:=he
 rw[d10] at he
 subst he
 refine W ?_
 exact dn ((cj w.heap.size ([str t.aw,.slice pa t.ak.length pc]) 78).refl _) rfl
 exact trivial
 intro x vs o4 iX dP
 have d0:vs 0=(.agg #[str t.aw,.slice pa t.ak.length pc]):=dP 0 de
 have d1:vs 1=(.bool ((bA s).isSome)):=dP 1 de
 have d2:vs 2=(.bool ((bA s).isSome)):=dP 2 de
 have d3:((bA s).isSome)=true->vs 3=(.agg #[str t.aw,.slice pa t.ak.length pc]):=dP 3 de
 have d4:((bA s).isSome)=true->vs 4=(.bool (dw t)):=dP 4 de
 have d5:vs 5=(.bool ((bA s).isSome&&dw t)):=dP 5 de
 have d6:vs 6=(.bool ((bA s).isSome&&dw t)):=dP 6 de
 have d7:((bA s).isSome&&dw t)=true->vs 7=(.agg #[str t.aw,.slice pa t.ak.length pc]):=dP 7 de
 have d8:((bA s).isSome&&dw t)=true->vs 8=(.int .i64 (fh t:Int)):=dP 8 de
 have d9:((bA s).isSome&&dw t)=true->vs 9=(.bool (decide ((fh t:Int)<=120))):=dP 9 de
 have d10:vs 10=(.bool (((bA s).isSome&&dw t)&&decide ((fh t:Int)<=120))):=dP 10 de
 have d11:aJ o4 w.heap.size ([str t.aw,.slice pa t.ak.length pc]).toArray 78:=dP 11 de
 have d12:vs 12=(.bool (((bA s).isSome&&dw t)&&decide ((fh t:Int)<=120))):=dP 12 de
 have hK:=hK.aD iX.1 sx;have ht:=ht.aD iX.1 sx
 have aU:=d11
 change OW _ _ _ _ [] (bo (bj _ x _) (zZ 11 [vs 0,vs 1,vs 2,vs 3,vs 4,vs 5,vs 6,vs 7,vs 8,vs 9,vs 10]++[(100011,vs 11),(3,vs 12)])) _
 rw[d0,d1,d2,d5,d6,d10,d12]
 refine W ?_
 exact⟨[_,_],⟨fZ eU aL rfl aU rfl,rfl⟩,⟨t,_,by rw[agE hp];rfl,ht.gP (λx hx=>by simp[hx]),hp⟩,hK⟩
theorem Ny (s:ai) (w:World):bz Tryz.prog 52 [str s] w λr w'=>r= .bool (l7 s)∧aj [] w w':=by
 have hK:=aj.refl [] w
 refine bS [.tmp 2] 11 Tryz.func52 rfl aaG rfl rfl ?_
 refine W ?_
 refine aA (GR s [] w sm) ?_
 rintro v1 w1 ⟨fX,aI⟩
 have cV:=aI.size
 have hK:=hK.ext aI
 obtain⟨t,tv,rfl,ht,hp⟩:=fX
 obtain⟨pa,pn,pc,rfl,eP,aP⟩:=cU ht
 refine W ?_
 refine dx aL rfl rfl rfl λw2 az cQ dC=>?_
 have hK:=hK.grow;have hK:=hK.ext az
 refine cJ aL rfl rfl rfl cQ rfl λw3 aH cQ gJ=>?_
 have hK:=hK.aD aH sx
 refine W ?_
 exact⟨_,rfl,rfl,hK⟩
def nK (xs ys:List ai) (s d:ai):Nat->ai
 |0=>d
 |k+1=>if bX xs k=s then bX ys k else nK xs ys s d k
theorem U0 {xs' ys':List ai} {d:ai}:∀{k:Nat},(∀i,i<k->bX xs i=bX xs' i∧bX ys i=bX ys' i)->nK xs ys s d k=nK xs' ys' s d k
 |0,_=>rfl
 |k+1,h=>by
  unfold nK
  rw[(h k om).1,(h k om).2,U0 λi hi=>h i om]
theorem U1 (h:i<xs.length):bX (xs++ys) i=bX xs i:=by
 simp only[bX,gG]
 rw[List.getElem?_append_left h]
theorem U2 {x:ai} (h:i=xs.length):bX (xs++[x]) i=x:=by
 subst h;simp[bX]
theorem U3 {xs:List ai} {x y d:ai} (h:xs.length=ys.length):nK (xs++[x]) (ys++[y]) s d (xs++[x]).length=if x=s then y else nK xs ys s d xs.length:=by
 rw[lA,List.length_singleton,nK,U2 rfl,U2 h,U0 (xs':=xs) (ys':=ys)]
 intro i hi
 exact⟨U1 hi,U1 om⟩
theorem U4 {α:Type} {Q:List α->Prop} (h0:Q []) (h1:∀l a,Q l->Q (l++[a])) (l:List α):Q l:=by
 have:∀r:List α,Q r.reverse:=by
  intro r
  induction r with
  |nil=>exact h0
  |cons a r ih=>rw[List.reverse_cons];exact h1 _ _ ih
 have:=this l.reverse
 rwa [List.reverse_reverse] at this
def U5:Option Ty->ai
 |some T=>T.text
 |none=>[]
theorem U6 (s:ai):∀Γ:Sc,nK (Γ.map Prod.fst) (Γ.map λp=>p.2.text) s [] Γ.length=U5 (look Γ s):=by
 refine U4 rfl λΓ p ih=>?_
 ·obtain⟨x,T⟩:=p
  have:=U3 (xs:=Γ.map Prod.fst) (ys:=Γ.map λp=>p.2.text) (x:=x) (y:=T.text) (s:=s) (d:=[]) sm
  rw[oL,List.map_append,List.map_append,lA]
  simp only[List.map_cons,List.map_nil,lA,List.length_map,List.length_singleton] at this⊢
  rw[this,ih]
  split<;>rfl
theorem agF (s:ai):∀ρ:Rn,nK (ρ.map Prod.fst) (ρ.map Prod.snd) s s ρ.length=qj ρ s:=by
 refine U4 rfl λρ p ih=>?_
 ·obtain⟨x,y⟩:=p
  have:=U3 (xs:=ρ.map Prod.fst) (ys:=ρ.map Prod.snd) (x:=x) (y:=y) (s:=s) (d:=s) sm
  rw[Mh,List.map_append,List.map_append,lA]
  simp only[List.map_cons,List.map_nil,lA,List.length_map,List.length_singleton] at this⊢
  rw[this,ih]
theorem GS (xs ys:List ai) (hl:xs.length=ys.length) (hx:xs.length<=1000000000) (s:ai) (v u:Value) (L L2:List Nat) (w:World) (hv:bc L w v xs) (hu:bc L2 w u ys):
  bz Tryz.prog 122 [v,u,str s] w λr w'=>r=str (nK xs ys s [] xs.length)∧aj [] w w':=by
 obtain⟨a,n,c,rfl,hn⟩:=dJ hv
 obtain⟨a2,n2,c2,rfl,eV⟩:=dJ hu
 subst hn eV
 have hK:=aj.refl [] w
 refine bS [.tmp 6] 25 Tryz.func122 rfl Zv rfl rfl ?_
 refine W ?_
 refine eA (λk:Nat=>[(0,.slice a xs.length c),(1,.slice a2 ys.length c2),(2,str s),(7,.int .i64 ((k:Int)-1))]) (λk w'=>w'=w∧k<=xs.length∧nK xs ys s [] xs.length=nK xs ys s [] k) (λk=>k) xs.length (⟨rfl,rfl,rfl,rfl⟩) (⟨rfl,lR _,rfl⟩) λgg w1 e1 hI=>?_
 obtain⟨e,hk,hq⟩:=hI
 subst e
 refine W ?_
 refine zc rfl (λh1=>?_) (λh1=>?_)
 have aQ:∃k,gg=k+1:=⟨gg-1,om⟩
 obtain⟨k,rfl⟩:=aQ
 have vB:=km (xs:=xs) (i:=k) om
 have Nz:=km (xs:=ys) (i:=k) om
 obtain⟨b1,eX,rfl,bK⟩:=pB hv vB
 obtain⟨b2,lF,rfl,bU⟩:=pB hu Nz
 have hi:((k+1:Nat):Int)-1=(k:Int):=by omega
 rw[hi]
 refine W ?_
 refine zc rfl (λh2=>?_) (λh2=>?_)
 refine W ?_
 exact⟨_,rfl,by rw[hq,nK,iP h2];rfl,hK⟩
 have dL:=h2
 refine W ?_
 exact⟨k,⟨rfl,rfl,rfl,rfl⟩,⟨rfl,om,by rw[hq,nK,iN dL]⟩,om⟩
 have h0:gg=0:=by omega
 refine W ?_
 exact⟨_,rfl,by rw[hq,h0];rfl,hK⟩
theorem agG (xs ys:List ai) (hl:xs.length=ys.length) (hx:xs.length<=1000000000) (s:ai) (v u:Value) (L L2:List Nat) (w:World) (hv:bc L w v xs) (hu:bc L2 w u ys):
  bz Tryz.prog 166 [v,u,str s] w λr w'=>r=str (nK xs ys s s xs.length)∧aj [] w w':=by
 obtain⟨a,n,c,rfl,hn⟩:=dJ hv
 obtain⟨a2,n2,c2,rfl,eV⟩:=dJ hu
 subst hn eV
 have hK:=aj.refl [] w
 refine bS [.tmp 6] 26 Tryz.func166 rfl ZZ rfl rfl ?_
 refine W ?_
 refine eA (λk:Nat=>[(0,.slice a xs.length c),(1,.slice a2 ys.length c2),(2,str s),(7,.int .i64 ((k:Int)-1))]) (λk w'=>w'=w∧k<=xs.length∧nK xs ys s s xs.length=nK xs ys s s k) (λk=>k) xs.length (⟨rfl,rfl,rfl,rfl⟩) (⟨rfl,lR _,rfl⟩) λgg w1 e1 hI=>?_
 obtain⟨e,hk,hq⟩:=hI
 subst e
 refine W ?_
 refine zc rfl (λh1=>?_) (λh1=>?_)
 have aQ:∃k,gg=k+1:=⟨gg-1,om⟩
 obtain⟨k,rfl⟩:=aQ
 have vB:=km (xs:=xs) (i:=k) om
 have Nz:=km (xs:=ys) (i:=k) om
 obtain⟨b1,eX,rfl,bK⟩:=pB hv vB
 obtain⟨b2,lF,rfl,bU⟩:=pB hu Nz
 have hi:((k+1:Nat):Int)-1=(k:Int):=by omega
 rw[hi]
 refine W ?_
 refine zc rfl (λh2=>?_) (λh2=>?_)
 refine W ?_
 exact⟨_,rfl,by rw[hq,nK,iP h2];rfl,hK⟩
 have dL:=h2
 refine W ?_
 exact⟨k,⟨rfl,rfl,rfl,rfl⟩,⟨rfl,om,by rw[hq,nK,iN dL]⟩,om⟩
 have h0:gg=0:=by omega
 refine W ?_
 exact⟨_,rfl,by rw[hq,h0];rfl,hK⟩
theorem JD:∀row,row∈ga xs->∀c,c∈row->∀v,c= .val v->v.oneCell'=true:=by
 intro row hr
 simp only[ga,List.mem_map] at hr
 obtain⟨x,_,rfl⟩:=hr
 intro c hc u hu
 simp only[mC,List.not_mem_nil,or_false] at hc
 subst hc
 cases hu
 rfl
theorem U7 (xs ys:List ai):ga xs++ga ys=ga (xs++ys):=by simp[ga]
theorem ua (xs ys:List ai) (hx:xs.length+ys.length<100000000) (v u:Value) (L:List Nat) (w:World) (hv:bc L w v xs) (hu:bc L w u ys) (hL:∀x,x∈L->x<w.heap.size):
  bz Tryz.prog 86 [v,u] w λr w'=>bc L w' r (xs++ys)∧aj [] w w':=by
 obtain⟨a,n,c,rfl,hn⟩:=dJ hv
 obtain⟨a2,n2,c2,rfl,eV⟩:=dJ hu
 subst hn eV
 have hK:=aj.refl [] w
 refine bS [.tmp 4] 10 Tryz.func86 rfl QE rfl rfl ?_
 refine W ?_
 refine zS w.heap.size L bh bf rfl rfl (lR _) hL λw1 aI dk hO=>?_
 have hK:=hK.ext aI
 have fi:=bQ.ext (bQ.fresh hv (L':=w.heap.size::L) zD) aI
 refine zm<|wT bh bf rfl rfl rfl rfl rfl rfl hO fi JD (by rw[qb];simp;omega) λa4 fP g4 w2 iY az=>?_
 have hK:=hO.since hK az
 have NA:=bQ.ext (bQ.fresh hu (L':=g4.toList++L) (λx hx=>by rcases mA.1 hx with hx|hx;(·exact .inr (iY.low x (by simpa using hx)));(·exact .inl hx))) hK
 refine zm<|wT bh bf rfl rfl rfl rfl rfl rfl iY NA JD (by simp only[lA,qb];simp;omega) λa5 Jc g5 w3 kP aH=>?_
 have hK:=iY.since hK aH
 refine W ?_
 exact⟨_,rfl,(by have:=kP.done;rw[List.nil_append,U7] at this;exact this),hK⟩
def sS (t:aq) (i:Nat):List ai:=if(nth t.ak 0).aw=fV∧i=3 then[(nth t.ak 1).aw] else if(nth t.ak 0).aw=gF then[(nth t.ak 1).aw,(nth t.ak 2).aw] else[]
theorem U8 (h:e.ok) (ha:e.iv=false) (i:Nat):sS e.au i=e.binds i:=by
 cases e with
 |«at» s=>cases ha
 |un hd a=>
  have h1:hd≠fV∧hd≠gF:=by constructor<;>intro e<;>rw[e] at h<;>exact absurd h.1 de
  simp[sS,Ex.au,aq.ak,nth,bJ,aq.aw,h1.1,h1.2,Ex.binds]
 |bi hd a b=>
  have h1:hd≠fV∧hd≠gF:=by constructor<;>intro e<;>rw[e] at h<;>exact absurd h.1 de
  simp[sS,Ex.au,aq.ak,nth,bJ,aq.aw,h1.1,h1.2,Ex.binds]
 |ite a b c=>simp[sS,Ex.au,aq.ak,nth,bJ,aq.aw,Ex.binds]
 |lt x a b=>
  by_cases h3:i=3
  ·subst h3;simp[sS,Ex.au,aq.ak,nth,bJ,aq.aw,Ex.binds]
  ·have:(Ex.lt x a b).binds i=[]:=by unfold Ex.binds;split<;>first|rfl|simp_all
   rw[this]
   simp[sS,Ex.au,aq.ak,nth,bJ,aq.aw,h3]
 |fn f x A B b=>simp[sS,Ex.au,aq.ak,nth,bJ,aq.aw,Ex.binds]
theorem U9 (t:aq) (h0:0<t.ak.length) (CB:(nth t.ak 0).aw=fV->1<t.ak.length) (nY:(nth t.ak 0).aw=gF->2<t.ak.length) (i:Nat) (v:Value) (L:List Nat) (w:World) (hv:bB L w v t):
  bz Tryz.prog 165 [v,.int .i64 (i:Int)] w λr w'=>(∀Lr,(∀x,x∈Lr->x<w.heap.size)->bc Lr w' r (sS t i))∧aj [] w w':=by
 obtain⟨a,n,c,rfl,hn,aP⟩:=cU hv
 subst hn
 have hK:=aj.refl [] w
 obtain⟨b,off,pa,pn,pc,rfl,et,eP,fM⟩:=iJ aP (gh h0)
 have jc:∀i,i<t.ak.length->∃pa pn pc,fS w b (off+i*2) [str (nth t.ak i).aw,.slice pa pn pc]:=by intro i hi;obtain⟨b1,eX,gA,qZ,gm,e1,bK,sJ,oY⟩:=iJ aP (gh hi);cases e1;exact⟨_,_,_,bK⟩
 refine bS [.tmp 4] 41 Tryz.func165 rfl ZY rfl rfl ?_
 refine zr<|eH rfl λw1 aI aU dk=>bI aI hK et λhK et=>?_
 refine W ?_
 apply oB 3 12 15 rfl oQ
 intro _
 exact oQ
 intro xx
 refine zA<|aZ<|zc rfl (λh2=>?_) (λh2=>?_)
 have hq:(nth t.ak 0).aw=fV∧i=3:=(by simp only[aE,dE] at h2;exact⟨h2.1,om⟩)
 obtain⟨gA,qZ,gm,bK⟩:=jc 1 (CB hq.1)
 have bK:=bK.ext hK
 have fl:=CB hq.1
 have hb:sS t i=[(nth t.ak 1).aw]:=iP hq
 refine W ?_
 refine fc bh bf rfl rfl λw2 az vC dC=>?_
 have hK:=hK.ext az
 refine W ?_
 exact⟨_,rfl,λLr JE=>(by rw[hb];exact aJ.dK [(nth t.ak 1).aw] vC (λhx=>by have:=JE _ hx;omega)),hK⟩
 have wG:¬((nth t.ak 0).aw=fV∧i=3):=(λhh=>by simp only[Bool.and_eq_false_iff,decide_eq_false_iff_not] at h2;rcases h2 with h|h;(·exact h hh.1);(·exact h om))
 refine W ?_
 refine zc rfl (λh3=>?_) (λh3=>?_)
 have hq:=h3
 have iy:=nY hq
 obtain⟨gA,qZ,gm,bK⟩:=jc 1 om
 obtain⟨iA,AZ,iw,bU⟩:=jc 2 om
 have bK:=bK.ext hK;have bU:=bU.ext hK
 have hb:sS t i=[(nth t.ak 1).aw,(nth t.ak 2).aw]:=by unfold sS;rw[iN wG,iP hq]
 refine WZ ?_
 apply uZ dj 11 (rA 29 11) (rA 29 11) [[],[0],[1],[2],[3],[],[5],[6],[7],[8],[4,9]] [It.v _,It.v _,It.v _,It.v _,It.v _,It.v _,It.v _,It.v _,It.v _,It.v _,It.p (fun(v:Value) (ww:World)=>∃bb,v= .slice (some ⟨bb,0,none⟩) 2 2∧w.heap.size<=bb∧aJ ww bb [str (nth t.ak 1).aw,str (nth t.ak 2).aw].toArray 9)] de (by exact⟨λv w w' ⟨bb,e,h1,h2⟩ k=>⟨bb,e,h1,h2.ext k⟩,trivial⟩)
 intro wd aC
 refine vc (λ_ _ _=>WZ pv) ?_
 refine vk aC (λx w2 az=>?_) ?_
 have aU:=aU.ext az
 refine WZ ?_
 exact pv
 refine vk aC (λx w2 az=>?_) ?_
 refine zi (i:=1) cz aL rfl rfl om ?_
 exact pv
 refine VA ?_
 refine vk aC (λx w2 az=>?_) ?_
 have hK:=hK.ext az
 have o7:=hK.size
 refine kL bh bf rfl rfl rfl rfl ?_
 intro w3 aH yv gJ
 exact pf aH (⟨_,rfl,o7,yv⟩)
 exact trivial
 intro x o3 gR
 intro v10 d10
 have hK:=hK.ext gR
 change OW _ _ _ _ _ (bo (bj _ x _) (zZ 29 [_,_,_,_,_,_,_,_,_,_,_])) _
 obtain⟨bb,e39,jH,yv⟩:=d10
 refine W ?_
 exact⟨_,rfl,λLr JE=>(by rw[hb];subst e39;exact aJ.dK [(nth t.ak 1).aw,(nth t.ak 2).aw] yv (λhx=>by have:=JE _ hx;omega)),hK⟩
 have hb:sS t i=[]:=(by unfold sS;rw[iN wG,iN h3])
 refine gY<|zr<|zS w.heap.size [] bh bf rfl rfl hK.size sm λw2 az dk hO=>?_
 have hK:=hK.ext az
 refine W ?_
 exact⟨_,rfl,λLr JE=>(by rw[hb];exact bQ.nil _ _ _),hK⟩
theorem GU (h:e.ok) (ha:e.iv=false):0<e.au.ak.length∧((nth e.au.ak 0).aw=fV->1<e.au.ak.length)∧((nth e.au.ak 0).aw=gF->2<e.au.ak.length):=by
 cases e with
 |«at» s=>cases ha
 |un hd a=>
  have hn:hd≠gF:=by intro e;rw[e] at h;exact absurd h.1 de
  exact⟨by simp[Ex.au,aq.ak],λ_=>by simp[Ex.au,aq.ak],λh=>absurd h hn⟩
 |bi hd a b=>exact⟨by simp[Ex.au,aq.ak],λ_=>by simp[Ex.au,aq.ak],λh=>by simp[Ex.au,aq.ak]⟩
 |ite a b c=>exact⟨by simp[Ex.au,aq.ak],λ_=>by simp[Ex.au,aq.ak],λh=>by simp[Ex.au,aq.ak]⟩
 |lt x a b=>exact⟨by simp[Ex.au,aq.ak],λ_=>by simp[Ex.au,aq.ak],λh=>by simp[Ex.au,aq.ak]⟩
 |fn f x A B b=>exact⟨by simp[Ex.au,aq.ak],λ_=>by simp[Ex.au,aq.ak],λh=>by simp[Ex.au,aq.ak]⟩
theorem Va (e:Ex) (i:Nat):(e.binds i).length<=2:=by unfold Ex.binds;split<;>simp
theorem Vb (x:ai) (e:Ex) (k:Nat):z1 x e (k+1)=z1 x e k+if x∈e.binds (e.from+k) then 0 else jQ x (fL e k):=rfl
theorem Vc (x:ai) (e:Ex):∀{i j:Nat},i<=j->z1 x e i<=z1 x e j
 |i,0,h=>by have:i=0:=om;subst this;exact lR _
 |i,j+1,h=>by
  rcases Nat.lt_or_ge i (j+1) with h1|h1
  ·have:=Vc x e (i:=i) (j:=j) om;rw[Vb];omega
  ·have:i=j+1:=by omega
   subst this;exact lR _
theorem vD (h:e.ok):e.au.aw≠[]↔e.iv=true:=by
 cases e with
 |«at» s=>exact⟨λ_=>rfl,λ_=>pD h⟩
 |_=>exact⟨λhh=>absurd rfl hh,λhh=>by cases hh⟩
theorem GV (e:Ex):e.from+e.kids.length<=6:=by cases e<;>simp[Ex.from,Ex.kids]
theorem agI (s:ai):∀(m:Nat) (e:Ex),e.n<=m->e.n<=1000000->e.ok->∀(v:Value) (L:List Nat) (w:World),bB L w v e.au->
  bz Tryz.prog 170 [v,str s] w λr w'=>r= .int .i64 (jQ s e:Int)∧aj [] w w':=by
 intro m
 induction m with
 |zero=>intro e h;have:=e.pos;omega
 |succ m ih=>
  intro e hm lD ba v L w hv
  have cO:=hv
  obtain⟨a,n,c,rfl,hn,aP⟩:=cU hv
  subst hn
  have hK:=aj.refl [] w
  have hce:=count_le s e
  have JG:=GV e
  refine bS [.tmp 4] 47 Tryz.func170 rfl Z4 rfl rfl ?_
  refine zr<|eH rfl λw1 aI aU dk=>cN aI hK aP cO λhK aP cO=>?_
  refine W ?_
  refine zc rfl (λh1=>?_) (λh1=>?_)
  have aQ:∃x,e= .at x:=(by have ha:=(vD ba).1 h1;cases e<;>first|exact⟨_,rfl⟩|cases ha)
  obtain⟨x,rfl⟩:=aQ
  refine W ?_
  refine zc rfl (λh2=>?_) (λh2=>?_)
  have hq:jQ s (.at x)=1:=iP h2
  refine W ?_
  exact⟨_,rfl,by rw[hq];rfl,hK⟩
  have hq:jQ s (.at x)=0:=iN h2
  refine W ?_
  exact⟨_,rfl,by rw[hq];rfl,hK⟩
  have eJ:e.iv=false:=(by cases hh:e.iv;rfl;exact absurd ((vD ba).2 hh) h1)
  obtain⟨GW,nZ,jd,qz⟩:=Ex.ak eJ
  obtain⟨jn,Ew,Ey⟩:=GU ba eJ
  have GX:=Md ba eJ
  have lB:dW (nth e.au.ak 0).aw=(e.from,e.from+e.kids.length):=by rw[jd];exact GX
  obtain⟨b,off,pa,pn,pc,rfl,et,eP,fM⟩:=iJ aP (gh jn)
  refine W ?_
  refine aA (JA _ _) ?_
  rintro _ _ ⟨rfl,rfl⟩
  rw[yu lB]
  refine W ?_
  refine eA (λk:Nat=>[(1,str s),(2,.pointer (some ⟨w.heap.size,0,none⟩)),(5,.int .i64 (z1 s e k:Int)),(7,.int .i64 ((e.from+e.kids.length:Nat):Int)),(8,.int .i64 ((e.from+k:Nat):Int))]) (λk w'=>aj [] w w'∧aj [] w1 w'∧k<=e.kids.length) (λk=>e.kids.length-k) (0) (⟨rfl,rfl,rfl,rfl,rfl⟩) (⟨hK,aj.refl _ _,om⟩) λgg w2 e2 hI=>?_
  obtain⟨hK,kq,hk⟩:=hI
  refine cN kq aU aP cO λaU aP cO=>?_
  refine W ?_
  refine zc rfl (λh3=>?_) (λh3=>?_)
  have gL:gg<e.kids.length:=om
  have qo:=qz gg gL
  obtain⟨b1,eX,gA,qZ,gm,e1,bK,sJ,oY⟩:=iJ aP (gh (i:=e.from+gg) om)
  cases e1
  subst sJ
  have cI:=(kV oY).eq qo
  have ub:=F4 ba gL
  have aR:=Vb s e gg
  have hmo:=Vc s e (i:=gg+1) (j:=e.kids.length) om
  have hto:=Se eJ s
  refine W ?_
  refine aA (U9 e.au jn Ew Ey (e.from+gg) _ _ w2 cO) ?_
  rintro v3 w3 ⟨ko,aH⟩
  have fm:=aH.size
  refine la aH hK aU kq bK cI λhK aU kq bK cI=>?_
  have tC:=ko [] sm
  rw[U8 ba eJ] at tC
  have hbf:=Va e (e.from+gg)
  refine zm<|aA (AP (e.binds (e.from+gg)) om s _ [] w3 tC) ?_
  rintro _ w4 ⟨rfl,aO⟩
  have fE:=aO.size
  refine la aO hK aU kq bK cI λhK aU kq bK cI=>?_
  refine kx rfl rfl rfl<|aZ<|zc rfl (λh4=>?_) (λh4=>?_)
  have my:¬s∈e.binds (e.from+gg):=(by simpa using h4)
  rw[iN my] at aR
  refine W ?_
  refine aA (ih (fL e gg) om om ub.1 _ _ w4 cI) ?_
  rintro _ w5 ⟨rfl,aN⟩
  have l3:=aN.size
  refine bI aN hK kq λhK kq=>?_
  refine W ?_
  exact⟨gg+1,⟨rfl,rfl,congrArg (Value.int .i64) om,rfl,congrArg (Value.int .i64) om⟩,⟨hK,kq,om⟩,om⟩
  have my:s∈e.binds (e.from+gg):=(by simpa using h4)
  rw[iP my] at aR
  refine W ?_
  exact⟨gg+1,⟨rfl,rfl,congrArg (Value.int .i64) om,rfl,congrArg (Value.int .i64) om⟩,⟨hK,kq,om⟩,om⟩
  have fG:gg=e.kids.length:=by omega
  refine W ?_
  exact⟨_,rfl,by rw[Se eJ s,fG];rfl,hK⟩
theorem Vd (e:Ex) (bd l:List ai) (k:Nat):qh e bd l (k+1)=cH (fL e k) (bd++e.binds (e.from+k)) (qh e bd l k):=rfl
def kN (e:Ex) (k:Nat):Nat:=((e.kids.take k).map Ex.n).sum
theorem yw (h:k<e.kids.length):kN e (k+1)=kN e k+(fL e k).n:=by
 have h1:e.kids[k]?=some (fL e k):=by simp[fL,gE h]
 unfold kN
 rw[List.take_add_one,h1,List.map_append,List.sum_append]
 simp
theorem CC (e:Ex) (k:Nat):kN e k<=e.n:=by
 have h1:kN e k<=(e.kids.map Ex.n).sum:=by
  conv=>rhs;rw[<-List.take_append_drop k e.kids,List.map_append,List.sum_append]
  unfold kN;omega
 have h2:(e.kids.map Ex.n).sum<=e.n:=by cases e<;>simp[Ex.kids,Ex.n]<;>omega
 omega
theorem Ve (e:Ex) (bd l:List ai):∀{k:Nat},k<=e.kids.length->(qh e bd l k).length<=l.length+kN e k
 |0,_=>by simp[qh,kN]
 |k+1,hk=>by
  rw[Vd,yw om]
  have h1:=Me (fL e k) (bd++e.binds (e.from+k)) (qh e bd l k)
  have h2:=Ve e bd l (k:=k) om
  omega
theorem JH:∀(m:Nat) (e:Ex),e.n<=m->e.n<=1000->e.ok->∀(bd l:List ai),bd.length+2*e.n<=100000->l.length+e.n<=100000->∀(v vb vl:Value) (g:Option Nat) (w:World),
  bB g.toList w v e.au->bc g.toList w vb bd->cG w 9 vl g l->
  bz Tryz.prog 140 [v,vb,vl] w λr w'=>∃g',cG w' 9 r g' (cH e bd l)∧Fr g.toList w g'.toList w':=by
 intro m
 induction m with
 |zero=>intro e h;have:=e.pos;omega
 |succ m ih=>
  intro e hm lD ba bd l tC hl v vb vl g w hv yx fQ
  obtain⟨a,n,c,rfl,hn,aP⟩:=cU hv
  subst hn
  obtain⟨ab,nb,cb,rfl,Vf⟩:=dJ yx
  subst Vf
  obtain⟨al,cl,rfl⟩:=jS fQ
  have pU:=fQ.lt
  have ow:=fQ.rs
  have hR:=Fr.refl g.toList w
  have JG:=GV e
  have cO:=kV aP
  refine bS [.tmp 6] 65 Tryz.func140 rfl ZI rfl rfl ?_
  refine zr<|eH rfl λw1 aI cQ dk=>tS aI hR aP yx fQ ow cO λhR aP yx fQ ow cO=>?_
  refine W ?_
  refine zc rfl (λh1=>?_) (λh1=>?_)
  have aQ:∃x,e= .at x:=(by have ha:=(vD ba).1 h1;cases e<;>first|exact⟨_,rfl⟩|cases ha)
  obtain⟨x,rfl⟩:=aQ
  refine W ?_
  refine aA (vA _ _) ?_
  rintro _ _ ⟨rfl,rfl⟩
  refine WZ ?_
  apply oO 5 17 22 (aj [] w1) rfl oQ
  intro h2
  refine W ?_
  refine aA (AP bd om x _ _ w1 yx) ?_
  rintro _ w2 ⟨rfl,az⟩
  have dm:=az.size
  exact oQ
  intro xx w3 aH
  refine ie aH hR fQ ow cQ λhR fQ ow cQ=>?_
  refine WZ ?_
  apply oO 5 23 28 (aj [] w3) rfl oQ
  intro h3
  refine W ?_
  refine aA (AP l om x _ _ w3 ow) ?_
  rintro _ w4 ⟨rfl,aO⟩
  have fE:=aO.size
  exact oQ
  intro xx w5 aN
  refine cN aN hR fQ cQ λhR fQ cQ=>?_
  refine aZ<|zc rfl (λh4=>?_) (λh4=>?_)
  have hq:cH (.at x) bd l=l:=iP h4
  refine W ?_
  exact⟨_,rfl,g,by rw[hq];exact fQ,hR⟩
  have hq:cH (.at x) bd l=l++[x]:=iN (λhh=>Bool.noConfusion (hh.symm.trans h4))
  refine W ?_
  refine fc bh bf rfl rfl λw6 bN JI kI=>bI bN hR fQ λhR fQ=>?_
  refine Ua bh bf rfl rfl rfl rfl rfl rfl fQ JI om λv5 g5 w7 kP bW pV=>?_
  have hR:=hR.go pV
  refine W ?_
  exact⟨_,rfl,g5,by rw[hq];exact kP,hR⟩
  have eJ:e.iv=false:=(by cases hh:e.iv;rfl;exact absurd ((vD ba).2 hh) h1)
  obtain⟨GW,nZ,jd,qz⟩:=Ex.ak eJ
  obtain⟨jn,Ew,Ey⟩:=GU ba eJ
  have GX:=Md ba eJ
  have lB:dW (nth e.au.ak 0).aw=(e.from,e.from+e.kids.length):=by rw[jd];exact GX
  obtain⟨b,off,pa,pc,rfl,et,hT0⟩:=eW aP jn
  have cQ:=cQ.o pU
  refine W ?_
  refine aA (JA _ _) ?_
  rintro _ _ ⟨rfl,rfl⟩
  rw[yu lB]
  refine W ?_
  refine eA (λq:Nat×Value×Option Nat=>[(1,.slice ab bd.length cb),(2,q.2.1),(3,.pointer (some ⟨w.heap.size,0,none⟩)),(8,.int .i64 ((e.from+e.kids.length:Nat):Int)),(9,.int .i64 ((e.from+q.1:Nat):Int))]) (λq w'=>Fr g.toList w q.2.2.toList w'∧Fr g.toList w1 q.2.2.toList w'∧cG w' 9 q.2.1 q.2.2 (qh e bd l q.1)∧q.1<=e.kids.length) (λq=>e.kids.length-q.1) ((0,.slice al l.length cl,g)) (⟨rfl,rfl,rfl,rfl,rfl⟩) (⟨hR,Fr.refl _ _,fQ,sm⟩) λgg w2 e2 hI=>?_
  obtain⟨k,vl,gl⟩:=gg
  dsimp only at hI⊢
  obtain⟨hR,kq,fQ,hk⟩:=hI
  have cQ:=cQ.go kq;have aP:=aP.go kq;have yx:=yx.go kq;have cO:=cO.go kq
  refine W ?_
  refine zc rfl (λh5=>?_) (λh5=>?_)
  have gL:k<e.kids.length:=om
  have qo:=qz k gL
  obtain⟨b1,eX,gA,gm,e1,bK,cI⟩:=eW aP (i:=e.from+k) om
  cases e1
  have cI:=cI.eq qo
  have ub:=F4 ba gL
  have aR:=Vd e bd l k
  have hbf:=Va e (e.from+k)
  have mE:=Ve e bd l (k:=k) om
  have A2:=yw gL
  have fb:=CC e (k+1)
  refine WZ ?_
  apply jF dj gl.toList 13 (rA 50 13) (rA 50 13) [[],[0],[],[1,2],[3],[],[],[5,6],[],[],[8,9],[7,10],[]] [Ie.v _,Ie.v _,Ie.v _,Ie.v _,Ie.v _,Ie.p (fun(G:List Nat) (v:Value) (ww:World)=>∃bb,v= .slice (some ⟨bb,0,none⟩) 0 0∧dM G ww bb #[] 9),Ie.v _,Ie.e 0,Ie.v _,Ie.v _,Ie.p (fun(G:List Nat) (v:Value) (ww:World)=>bc G ww v (e.binds (e.from+k))),Ie.e 1,Ie.v _] [7,11] [fun(G:List Nat) (vs:List Value) (ww:World)=>cG ww 9 vl gl (qh e bd l k)∧(∀x,x∈gl.toList->x∈G),fun(G:List Nat) (vs:List Value) (ww:World)=>(cG ww 9 vl gl (qh e bd l k)∧(∀x,x∈gl.toList->x∈G))∧∃g7,cG ww 9 (vs.getD 0 undef) g7 bd∧qy G ww 9 g7∧(∀x,x∈g7.toList->x∉gl.toList),fun(G:List Nat) (vs:List Value) (ww:World)=>(cG ww 9 vl gl (qh e bd l k)∧(∀x,x∈gl.toList->x∈G))∧∃g7,cG ww 9 (vs.getD 1 undef) g7 (bd++e.binds (e.from+k))∧qy G ww 9 g7∧(∀x,x∈g7.toList->x∉gl.toList)] de rfl fQ.lt (by exact⟨λG v w G' w' ⟨bb,e,h⟩ k=>⟨bb,e,h.go k⟩,λG v w G' w' h k=>bc.go h k,trivial⟩) (by exact⟨λG vs w w' h k=>⟨h.1.ext k,h.2⟩,λG vs w w' ⟨h1,g7,h2,h3,h4⟩ k=>⟨⟨h1.1.ext k,h1.2⟩,g7,h2.ext k,h3.ext k,h4⟩,λG vs w w' ⟨h1,g7,h2,h3,h4⟩ k=>⟨⟨h1.1.ext k,h1.2⟩,g7,h2.ext k,h3.ext k,h4⟩,trivial⟩) (⟨fQ,λx hx=>hx⟩)
  refine FA ?_
  refine vf (λx w3 G3 aS jo kr=>?_) ?_
  refine fR bh bf λw4 aO CD gQ=>?_
  exact ff aO (⟨_,rfl,CD.o kr⟩)
  refine FA ?_
  refine ve 0 (λx w3 G3 aS jo kr hJ hlen=>?_) ?_
  have aW:=jg hlen
  subst aW
  have yx:=yx.go jo
  intro v5 d5
  obtain⟨bb,e5,fH⟩:=d5
  subst e5
  have hJ:cG w3 9 vl gl (qh e bd l k)∧(∀x,x∈gl.toList->x∈G3):=hJ
  refine Ev bh bf rfl rfl rfl rfl rfl rfl fH.gX.kM yx ‹_› (λx hx=>.inr (by simp at hx;subst hx;exact fH.gX)) so λv9 g9 w4 G9 cZ Ez o7 kt cP eu aB=>?_
  exact fe G9 cP eu (⟨⟨hJ.1.aF aB (λb hb hx=>fH.out (by simp at hx;subst hx;exact hJ.2 _ (by simp[hb]))),λx hx=>kt x (hJ.2 x hx)⟩,g9,cZ,Ez,λx hx fj=>(o7 x hx).elim (λh=>fH.out (by simp at h;subst h;exact hJ.2 _ fj)) (λh=>by have:=kr x (hJ.2 x fj);omega)⟩)
  refine FA ?_
  refine vf (λx w3 G3 aS jo kr=>?_) ?_
  have cO:=cO.go jo
  refine aA (U9 e.au jn Ew Ey (e.from+k) _ _ w3 cO) ?_
  rintro v4 w4 ⟨jR,aO⟩
  have fE:=aO.size
  have agL:=jR
  exact ff aO ((by have h9:=agL _ kr;rw[U8 ba eJ] at h9;exact h9))
  refine ve 1 (λx w3 G3 aS jo kr hJ hlen=>?_) ?_
  obtain⟨q0,aW⟩:=jh hlen
  subst aW
  intro v10 d10
  have hJ:(cG w3 9 vl gl (qh e bd l k)∧(∀x,x∈gl.toList->x∈G3))∧∃g7,cG w3 9 q0 g7 bd∧qy G3 w3 9 g7∧(∀x,x∈g7.toList->x∉gl.toList):=hJ
  obtain⟨⟨Ee,rK⟩,g7,CE,CF,JJ⟩:=hJ
  refine Ev bh bf rfl rfl rfl rfl rfl rfl CE d10 ‹_› CF om λv9 g9 w4 G9 cZ Ez o7 kt cP eu aB=>?_
  exact fe G9 cP eu (⟨⟨Ee.aF aB (λb hb hx=>JJ b hx (by simp[hb])),λx hx=>kt x (rK x hx)⟩,g9,cZ,Ez,λx hx fj=>(o7 x hx).elim (λh=>JJ x h fj) (λh=>by have:=kr x (rK x fj);omega)⟩)
  exact FZ
  intro x qw GY aS EA NB hJ hlen
  obtain⟨q0,q1,aW⟩:=k9 hlen
  subst aW
  intro v5 d5
  intro v10 d10
  have hR:=hR.go EA;have kq:=kq.go EA;have cI:=cI.go EA
  change OW _ _ _ _ _ (bo (bj _ x _) (zZ 50 [_,_,_,_,_,_,_,_,_,_,_,_,_])) _
  have hJ:(cG qw 9 vl gl (qh e bd l k)∧(∀x,x∈gl.toList->x∈GY))∧∃g7,cG qw 9 q1 g7 (bd++e.binds (e.from+k))∧qy GY qw 9 g7∧(∀x,x∈g7.toList->x∉gl.toList):=hJ
  obtain⟨⟨Ee,rK⟩,g7,CE,CF,JJ⟩:=hJ
  refine aA (ih (fL e k) om om ub.1 (bd++e.binds (e.from+k)) (qh e bd l k) (by rw[lA];omega) om _ _ _ gl qw (cI.gP (λx hx=>rK x hx)) (CE.rep (λb hb=>JJ b (by simp[hb]))) Ee) ?_
  rintro NC oZ ⟨ND,JK,GZ⟩
  refine W ?_
  exact⟨(k+1,NC,ND),⟨rfl,rfl,rfl,rfl,congrArg (Value.int .i64) so⟩,⟨(hR.to (λx hx=>.inl (rK x hx))).go GZ,(kq.to (λx hx=>.inl (rK x hx))).go GZ,JK,by simp;omega⟩,by simp;omega⟩
  have fG:k=e.kids.length:=by omega
  refine W ?_
  exact⟨_,rfl,gl,by rw[adP eJ,<-fG];exact fQ,hR⟩
theorem agM (s:ai) (w:World):bz Tryz.prog 121 [str s] w λv w'=>(∃a n c,v= .tuple #[.slice a n c,.bool (l7 s)]∧(l7 s=true->∃e:Ex,bA s=some e.au∧e.ok∧e.n<=120∧bc [] w' (.slice a n c) (cH e [] [])))∧aj [] w w':=by
 have hK:=aj.refl [] w
 refine bS [.tmp 2,.tmp 3] 18 Tryz.func121 rfl Zu rfl rfl ?_
 refine W ?_
 refine aA (GR s [] w sm) ?_
 rintro v1 w1 ⟨fX,aI⟩
 have cV:=aI.size
 have hK:=hK.ext aI
 obtain⟨t,tv,rfl,ht,hp⟩:=fX
 obtain⟨pa,pn,pc,rfl,eP,aP⟩:=cU ht
 refine W ?_
 refine dx aL rfl rfl rfl λw2 az aG dC=>?_
 have hK:=hK.grow;have hK:=hK.ext az;have ht:=ht.grow;have ht:=ht.ext az
 refine cJ aL rfl rfl rfl aG rfl λw3 aH aG gJ=>?_
 have hK:=hK.aD aH sx;have ht:=ht.aD aH sx
 refine W ?_
 refine zc rfl (λh1=>?_) (λh1=>?_)
 have hx:l7 s=false:=by simpa using h1
 refine zr<|fR bh bf λw4 aO lI gQ=>?_
 have hK:=hK.ext aO
 refine W ?_
 exact⟨_,rfl,⟨_,_,_,by rw[hx];rfl,λh=>by rw[hx] at h;cases h⟩,hK⟩
 have hx:l7 s=true:=by simpa using h1
 obtain⟨e,he,ba,hn⟩:=wY.1 hx
 have e2:=hp.1 _ he
 subst e2
 refine W ?_
 refine fR bh bf λw4 aO EB JL=>bI aO ht hK λht hK=>?_
 refine fR bh bf ?_
 have Nf:=bB.grow (ht.gP (L':=[]) sm)
 intro w5 aN wV Ha
 have ht:=Nf.ext aN
 have hK:=hK.ext aN
 refine aA (JH 120 e hn om ba [] [] so so _ _ _ (some _) w5 ht (bQ.nil _ _ _) wV.kM) ?_
 rintro v9 w6 ⟨g9,cZ,cP⟩
 obtain⟨a9,c9,rfl⟩:=jS cZ
 have hK:=hK.since cP.aF (λx hx=>.inr (by simp at hx;omega))
 refine W ?_
 exact⟨_,rfl,⟨_,_,_,by rw[hx];rfl,λ_=>⟨e,he,ba,hn,cZ.rs⟩⟩,hK⟩
theorem EC {a b:ai} (h:bJ a=bJ b):a=b:=by simpa[bJ] using h
theorem qA:∀{e f:Ex},e.ok->f.ok->e.au=f.au->e=f
 | .at s,.at r,_,_,h=>by rw[EC h]
 | .at s,.un ..,h1,_,h=>absurd (congrArg aq.aw h) (pD h1)
 | .at s,.bi ..,h1,_,h=>absurd (congrArg aq.aw h) (pD h1)
 | .at s,.ite ..,h1,_,h=>absurd (congrArg aq.aw h) (pD h1)
 | .at s,.lt ..,h1,_,h=>absurd (congrArg aq.aw h) (pD h1)
 | .at s,.fn ..,h1,_,h=>absurd (congrArg aq.aw h) (pD h1)
 | .un ..,.at s,_,h1,h=>absurd (congrArg aq.aw h).symm (pD h1)
 | .bi ..,.at s,_,h1,h=>absurd (congrArg aq.aw h).symm (pD h1)
 | .ite ..,.at s,_,h1,h=>absurd (congrArg aq.aw h).symm (pD h1)
 | .lt ..,.at s,_,h1,h=>absurd (congrArg aq.aw h).symm (pD h1)
 | .fn ..,.at s,_,h1,h=>absurd (congrArg aq.aw h).symm (pD h1)
 | .un h a,.un h' a',k,k',e=>by
  have e:=congrArg aq.ak e
  simp only[Ex.au,aq.ak,List.cons.injEq,and_true] at e
  rw[EC e.1,qA k.2 k'.2 e.2]
 | .bi h a b,.bi h' a' b',k,k',e=>by
  have e:=congrArg aq.ak e
  simp only[Ex.au,aq.ak,List.cons.injEq,and_true] at e
  rw[EC e.1,qA k.2.1 k'.2.1 e.2.1,qA k.2.2 k'.2.2 e.2.2]
 | .ite a b c,.ite a' b' c',k,k',e=>by
  have e:=congrArg aq.ak e
  simp only[Ex.au,aq.ak,List.cons.injEq,and_true] at e
  rw[qA k.1 k'.1 e.2.1,qA k.2.1 k'.2.1 e.2.2.1,qA k.2.2 k'.2.2 e.2.2.2]
 | .lt x a b,.lt x' a' b',k,k',e=>by
  have e:=congrArg aq.ak e
  simp only[Ex.au,aq.ak,List.cons.injEq,and_true] at e
  rw[EC e.2.1,qA k.2.1 k'.2.1 e.2.2.1,qA k.2.2 k'.2.2 e.2.2.2]
 | .fn f x A B b,.fn f' x' A' B' b',k,k',e=>by
  have e:=congrArg aq.ak e
  simp only[Ex.au,aq.ak,List.cons.injEq,and_true] at e
  rw[EC e.2.1,EC e.2.2.1,F3 e.2.2.2.1,F3 e.2.2.2.2.1,qA k.2.2.2.2.2 k'.2.2.2.2.2 e.2.2.2.2.2]
 | .un ..,.bi ..,_,_,e=>by have e:=congrArg aq.ak e;simp[Ex.au,aq.ak] at e
 | .un ..,.ite ..,_,_,e=>by have e:=congrArg aq.ak e;simp[Ex.au,aq.ak] at e
 | .un ..,.lt ..,_,_,e=>by have e:=congrArg aq.ak e;simp[Ex.au,aq.ak] at e
 | .un ..,.fn ..,_,_,e=>by have e:=congrArg aq.ak e;simp[Ex.au,aq.ak] at e
 | .bi ..,.un ..,_,_,e=>by have e:=congrArg aq.ak e;simp[Ex.au,aq.ak] at e
 | .bi ..,.ite ..,_,_,e=>by have e:=congrArg aq.ak e;simp[Ex.au,aq.ak] at e
 | .bi ..,.lt ..,_,_,e=>by have e:=congrArg aq.ak e;simp[Ex.au,aq.ak] at e
 | .bi ..,.fn ..,_,_,e=>by have e:=congrArg aq.ak e;simp[Ex.au,aq.ak] at e
 | .ite ..,.un ..,_,_,e=>by have e:=congrArg aq.ak e;simp[Ex.au,aq.ak] at e
 | .ite ..,.bi ..,_,_,e=>by have e:=congrArg aq.ak e;simp[Ex.au,aq.ak] at e
 | .ite ..,.lt ..,_,_,e=>by have e:=congrArg aq.ak e;simp[Ex.au,aq.ak,bJ] at e
 | .ite ..,.fn ..,_,_,e=>by have e:=congrArg aq.ak e;simp[Ex.au,aq.ak] at e
 | .lt ..,.un ..,_,_,e=>by have e:=congrArg aq.ak e;simp[Ex.au,aq.ak] at e
 | .lt ..,.bi ..,_,_,e=>by have e:=congrArg aq.ak e;simp[Ex.au,aq.ak] at e
 | .lt ..,.ite ..,_,_,e=>by have e:=congrArg aq.ak e;simp[Ex.au,aq.ak,bJ] at e
 | .lt ..,.fn ..,_,_,e=>by have e:=congrArg aq.ak e;simp[Ex.au,aq.ak] at e
 | .fn ..,.un ..,_,_,e=>by have e:=congrArg aq.ak e;simp[Ex.au,aq.ak] at e
 | .fn ..,.bi ..,_,_,e=>by have e:=congrArg aq.ak e;simp[Ex.au,aq.ak] at e
 | .fn ..,.ite ..,_,_,e=>by have e:=congrArg aq.ak e;simp[Ex.au,aq.ak] at e
 | .fn ..,.lt ..,_,_,e=>by have e:=congrArg aq.ak e;simp[Ex.au,aq.ak] at e
def agN (s:ai) (e:Ex):Prop:=bA s=some e.au∧e.ok∧e.n<=120∧cH e [] []=[]
theorem agO (s:ai) (w:World):bz Tryz.prog 80 [str s] w λv w'=>(∃b,v= .bool b∧(b=true↔∃e:Ex,agN s e))∧aj [] w w':=by
 have hK:=aj.refl [] w
 refine bS [.tmp 2] 16 Tryz.func80 rfl aa9 rfl rfl ?_
 refine W ?_
 refine aA (agM s w) ?_
 rintro v1 w1 ⟨fX,aI⟩
 have cV:=aI.size
 have hK:=hK.ext aI
 obtain⟨a,n,c,rfl,hf⟩:=fX
 refine W ?_
 apply oB 4 11 15 rfl oQ
 intro _
 exact oQ
 intro xx
 refine zA<|aZ<|jZ<|⟨_,rfl,⟨_,rfl,?_⟩,hK⟩
 rw[aE,dE]
 constructor
 rintro⟨h1,h2⟩;obtain⟨e,he,ba,hn,hs⟩:=hf h1;obtain⟨_,_,_,e2,e3⟩:=dJ hs;cases e2;exact⟨e,he,ba,hn,List.length_eq_zero_iff.1 om⟩
 rintro⟨e,he,ba,hn,h0⟩;have hx:l7 s=true:=wY.2 ⟨e,he,ba,hn⟩;refine⟨hx,?_⟩;obtain⟨e',uN,agP,DF,hs⟩:=hf hx;rw[he] at uN;have:=qA ba agP (Option.some.inj uN);subst this;rw[h0] at hs;obtain⟨_,_,_,e2,e3⟩:=dJ hs;cases e2;simp at e3;omega
def ke (ag:List ai) (ρ:Rn) (e:Ex) (n:Nat):Nat->List Ex×Nat
 |0=>([],n)
 |k+1=>((ke ag ρ e n k).1++[(bH ag (fL e k) ρ (ke ag ρ e n k).2).1],(bH ag (fL e k) ρ (ke ag ρ e n k).2).2)
theorem Vg (ag:List ai) (ρ:Rn) (e:Ex) (n:Nat):∀k,(ke ag ρ e n k).1.length=k:=by intro x;induction x<;>grind [ke]
def ja (ag:List ai) (ρ:Rn) (n:Nat):Ex->Rn
 | .fn f x _ _ _=>ρ++[(f,cK cx (bm cx ag n)),(x,cK cx (bm cx ag (bm cx ag n+1)))]
 |_=>ρ
def nF (ag:List ai) (n:Nat):Ex->Nat
 | .fn _ _ _ _ _=>bm cx ag (bm cx ag n+1)+1
 |_=>n
def wZ (ag:List ai) (n:Nat):Ex->List aq
 | .fn _ _ A B _=>[bJ gF,bJ (cK cx (bm cx ag n)),bJ (cK cx (bm cx ag (bm cx ag n+1))),A.au,B.au]
 |e=>[bJ e.head]
def isLt:Ex->Bool
 | .lt _ _ _=>true
 |_=>false
theorem agQ (ag:List ai) (ρ:Rn) (n:Nat) (ha:e.iv=false) (hl:isLt e=false):
  (bH ag e ρ n).1.au= .mk [] (wZ ag n e++(ke ag (ja ag ρ n e) e (nF ag n e) e.kids.length).1.map Ex.au)∧(bH ag e ρ n).2=(ke ag (ja ag ρ n e) e (nF ag n e) e.kids.length).2:=by
 cases e with
 |«at» s=>cases ha
 |lt x a b=>cases hl
 |un h a=>exact⟨rfl,rfl⟩
 |bi h a b=>exact⟨rfl,rfl⟩
 |ite a b c=>exact⟨rfl,rfl⟩
 |fn f x A B b=>exact⟨rfl,rfl⟩
theorem agR (ag:List ai) (n:Nat) (ha:e.iv=false) (hl:isLt e=false):(wZ ag n e).length=e.from:=by
 cases e with
 |«at» s=>cases ha
 |lt x a b=>cases hl
 |_=>rfl
theorem agS (ag:List ai) (n:Nat) (hk:e.ok) (ha:e.iv=false) (hf:e.head≠gF):wZ ag n e=[bJ e.head]∧nF ag n e=n:=by
 cases e with
 |fn f x A B b=>exact absurd rfl hf
 |_=>exact⟨rfl,rfl⟩
theorem Vh (ag:List ai) (ρ:Rn) (n:Nat) (hf:e.head≠gF):ja ag ρ n e=ρ:=by cases e<;>grind [Ex.head,ja]
theorem JM (h:e.ok) (he:e.head=fV):∃x a b,e= .lt x a b:=by
 cases e with
 |lt x a b=>exact⟨x,a,b,rfl⟩
 |un hd a=>have he:hd=fV:=he;rw[he] at h;exact absurd h.1 de
 |bi hd a b=>have he:hd=fV:=he;rw[he] at h;exact absurd h.1 de
 |«at» s=>cases he
 |ite a b c=>cases he
 |fn f x A B b=>cases he
theorem JN (h:e.ok) (he:e.head=gF):∃f x A B b,e= .fn f x A B b:=by
 cases e with
 |fn f x A B b=>exact⟨f,x,A,B,b,rfl⟩
 |un hd a=>have he:hd=gF:=he;rw[he] at h;exact absurd h.1 de
 |bi hd a b=>have he:hd=gF:=he;rw[he] at h;exact absurd h.1 de
 |«at» s=>cases he
 |ite a b c=>cases he
 |lt x a b=>cases he
theorem Vi (h:e.ok) (he:e.head=gj):∃a b c,e= .ite a b c:=by
 cases e with
 |ite a b c=>exact⟨a,b,c,rfl⟩
 |un hd a=>have he:hd=gj:=he;rw[he] at h;exact absurd h.1 de
 |bi hd a b=>have he:hd=gj:=he;rw[he] at h;exact absurd h.1 de
 |«at» s=>cases he
 |lt x a b=>cases he
 |fn f x A B b=>cases he
theorem not_lt (he:e.head≠fV):isLt e=false:=by cases e<;>grind [Ex.head,isLt]
theorem Vj (ha:e.iv=false) (hl:isLt e=false) (hf:e.head≠gF):e.au.ak=[bJ e.head]++e.kids.map Ex.au:=by
 cases e with
 |«at» s=>cases ha
 |lt x a b=>cases hl
 |fn f x A B b=>exact absurd rfl hf
 |_=>rfl
def lJ (pre:List aq) (acc:List Ex) (e:Ex):List aq:=pre++acc.map Ex.au++(e.kids.drop acc.length).map Ex.au
theorem Vk {pre:List aq} {acc:List Ex} {y:Ex} (h:acc.length<e.kids.length):(lJ pre acc e).set (pre.length+acc.length) y.au=lJ pre (acc++[y]) e:=by
 have h1:e.kids[acc.length]?=some (fL e acc.length):=by simp[fL,gE h]
 unfold lJ
 rw[List.drop_eq_getElem_cons h,List.map_cons,List.set_append_right _ _ sm,lA,List.length_map,Nat.sub_self]
 simp
theorem Vl {pre:List aq} {acc:List Ex} (h:acc.length<=e.kids.length):(lJ pre acc e).length=pre.length+e.kids.length:=by
 simp[lJ];omega
theorem Vm {pre:List aq} {acc:List Ex} (h:acc.length=e.kids.length):lJ pre acc e=pre++acc.map Ex.au:=by grind [lJ]
structure RN (L:List Nat) (w:World) (br:Nat) (ag:List ai) (n:Nat):Prop where
 mem:br∈L
 box:∃vf,aJ w br [vf,.int .i64 (n:Int)].toArray 168∧bc L w vf ag
theorem RN.ext {br:Nat} {ag:List ai} (h:RN L w br ag n) (k:aj [] w w'):RN L w' br ag n:=let⟨v,h1,h2⟩:=h.box;⟨h.mem,v,h1.ext k,h2.ext k⟩
theorem RN.lt {br:Nat} {ag:List ai} (h:RN L w br ag n):br<w.heap.size:=let⟨_,h1,_⟩:=h.box;h1.lt
theorem RN.re {L':List Nat} {br:Nat} {ag:List ai} (h:RN L w br ag n) (hb:br∈L') (hL:∀x,x∈L'->x∈L∨w.heap.size<=x):RN L' w br ag n:=let⟨v,h1,h2⟩:=h.box;⟨hb,v,h1,h2.fresh hL⟩
theorem RN.aF {br:Nat} {ag:List ai} (h:RN L w br ag n) (k:aj G w w') (hb:br∉G) (hG:∀x,x∈G->x∈L):RN L w' br ag n:=
 let⟨v,h1,h2⟩:=h.box;⟨h.mem,v,h1.aF k hb,h2.aD k hG⟩
theorem RN.out {br:Nat} {ag:List ai} (h:RN G w br ag n) (k:Fr G w G' w') (ho:Out N G0 w w') (hb:br∈G0) (gN:br∈G'):RN G' w' br ag n:=
 let⟨v,h1,h2⟩:=h.box;⟨gN,v,ho.gX h1 hb,h2.go k⟩
theorem ED (c:UInt8) (ag:List ai) (n:Nat):bm c ag n<=n+ag.length+1:=(nU c ag n).2
theorem NF (ag:List ai) (n:Nat) (hn:n<=100000) (hb:ag.length<=10000) (br:Nat) (L:List Nat) (w:World) (h:RN L w br ag n):
  bz Tryz.prog 167 [.pointer (some ⟨br,0,none⟩)] w λr w'=>(r=str (cK cx (bm cx ag n))∧RN L w' br ag (bm cx ag n+1))∧aj [br] w w':=by
 have NH:=ED cx ag n
 have rO:=h.mem
 refine bS [.tmp 2] 26 Tryz.func167 rfl Z0 rfl rfl ?_
 refine W ?_
 refine eA (λk:Nat=>[(0,.pointer (some ⟨br,0,none⟩))]) (λk w'=>aj [br] w w'∧RN L w' br ag k∧n<=k∧bm cx ag k=bm cx ag n) (λk=>bm cx ag n+1-k) n rfl (⟨aj.refl _ _,h,lR _,rfl⟩) λgg w1 e1 hI=>?_
 obtain⟨hK,⟨_,vf,ov,fi⟩,hk,hq⟩:=hI
 have hle:=(nU cx ag gg).1
 refine W ?_
 refine aA (ir (gg+1) gg om om w1) ?_
 rintro _ w2 ⟨rfl,az⟩
 have dm:=az.size
 refine cN az hK ov fi λhK ov fi=>?_
 refine gV rfl rfl rfl rfl (by have:=Ej _ gg (lR _);simp;omega)<|W ?_
 refine gd (o:=1) oI rfl rfl rfl ov rfl λw3 aH ov df=>?_
 have fi:=fi.aD aH (by simpa using rO)
 have hK:=hK.trans aH
 refine W ?_
 refine aA (AP ag om (cK cx gg) _ _ w3 fi) ?_
 rintro _ w4 ⟨rfl,aO⟩
 have fE:=aO.size
 refine cN aO hK ov fi λhK ov fi=>?_
 refine kx rfl rfl rfl<|aZ<|zc rfl (λh1=>?_) (λh1=>?_)
 have my:cK cx gg∉ag:=(by simpa using h1)
 have Hb:bm cx ag n=gg:=hq.symm.trans (Sh my)
 refine W ?_
 exact⟨_,rfl,⟨by rw[Hb];rfl,rO,_,by rw[Hb];exact ov,fi⟩,hK⟩
 have my:cK cx gg∈ag:=(by simpa using h1)
 have hfs:=Sg my
 have TJ:=(nU cx ag (gg+1)).1
 refine WZ ?_
 exact⟨gg+1,rfl,⟨hK,⟨rO,vf,ov,fi⟩,om,om⟩,om⟩
theorem Vn (ag:List ai) (ρ:Rn) (e:Ex) (n:Nat):∀k,k<=e.kids.length->n<=(ke ag ρ e n k).2∧(ke ag ρ e n k).2<=n+kN e k*(ag.length+2)
 |0,_=>by simp[ke]
 |k+1,hk=>by
  have h1:=Vn ag ρ e n k om
  have h2:=iW ag (fL e k) ρ (ke ag ρ e n k).2
  rw[yw om,Nat.add_mul]
  show n<=(bH ag (fL e k) ρ (ke ag ρ e n k).2).2∧(bH ag (fL e k) ρ (ke ag ρ e n k).2).2<=_
  omega
theorem sU (ts:List aq) (i:Nat) (t:aq):(cT ts).set i t.enc=cT (ts.set i t):=by rw[zC,zC,List.map_set]
theorem Vo (ts:List aq):∀row,row∈cT ts->∀c,c∈row->∀v,c= .val v->v.oneCell'=true:=by
 intro row hr c hc v hv
 rw[zC] at hr
 obtain⟨t,_,rfl⟩:=List.mem_map.1 hr
 cases t with
 |mk a ps=>
  simp only[aq.enc,mC,List.not_mem_nil,or_false] at hc
  rcases hc with h|h
  ·subst h;cases hv;rfl
  ·subst h;cases hv
theorem dH.ext {T:TypeId} (h:dH L w T sz v g rows) (k:aj [] w w'):dH L w' T sz v g rows:=h.any k
theorem dH.grow {T:TypeId} (h:dH L w T sz v g rows):dH (w.heap.size::L) w T sz v g rows:=h.sub zD
theorem dH.aD {T:TypeId} (h:dH (x::L) w T sz v g rows) (k:aj [x] w w') (hx:x∉g.toList):dH (x::L) w' T sz v g rows:=
 h.aF (Fr.of k sm) k λy hy wh=>hx (by simp at wh;subst wh;exact hy)
structure iQ (G:List Nat) (w0 w:World) (br:Nat) (ag:List ai) (n gb b8:Nat) (vP:Value) (ts:List aq):Prop where
 rn:RN G w br ag n
 own:dH G w 78 2 vP (some gb) (cT ts)
 kb:aj [br] w0 w
 bx:aJ w b8 [str [],.slice none 0 0].toArray 78
 mem:gb∈G∧b8∈G
 ne:br≠gb∧b8≠gb∧br≠b8
 low:w0.heap.size<=gb∧w0.heap.size<=b8
 cC:eO G w
section
variable {G:List Nat} {w0 w w':World} {br:Nat} {ag:List ai} {n gb b8:Nat} {vP:Value} {ts:List aq}
theorem iQ.ext (h:iQ G w0 w br ag n gb b8 vP ts) (k:aj [] w w'):iQ G w0 w' br ag n gb b8 vP ts:=
 ⟨h.rn.ext k,h.own.ext k,h.kb.ext k,h.bx.ext k,h.mem,h.ne,h.low,λx hx=>lL (h.cC x hx) k.size⟩
theorem iQ.out (h:iQ G w0 w br ag n gb b8 vP ts) (k:Fr G w G' w') (ho:Out w0.heap.size G0 w w') (hb:br∈G0∧gb∈G0∧b8∈G0) (gN:br∈G'∧gb∈G'∧b8∈G') (hl:eO G' w'):iQ G' w0 w' br ag n gb b8 vP ts:=
 ⟨h.rn.out k ho hb.1 gN.1,h.own.out k ho (by simpa using hb.2.1),ho.since h.kb,ho.gX h.bx hb.2.2,gN.2,h.ne,h.low,hl⟩
theorem iQ.call {n':Nat} (h:iQ G w0 w br ag n gb b8 vP ts) (hr:RN G w' br ag n') (k:aj [br] w w'):iQ G w0 w' br ag n' gb b8 vP ts:=
 ⟨hr,h.own.aF (Fr.of k (by simpa using h.rn.mem)) k (by intro x hx fj;simp at hx fj;exact h.ne.1 (fj.symm.trans hx)),h.kb.trans k,h.bx.aF k (by simpa using λe=>h.ne.2.2 e.symm),h.mem,h.ne,h.low,λx hx=>lL (h.cC x hx) k.size⟩
theorem iQ.store {ts':List aq} (h:iQ G w0 w br ag n gb b8 vP ts) (k:aj [gb] w w') (ho:dH G w' 78 2 vP (some gb) (cT ts')):iQ G w0 w' br ag n gb b8 vP ts':=
 ⟨h.rn.aF k (by simpa using h.ne.1) (by simpa using h.mem.1),ho,h.kb.since k (by intro x hx;simp at hx;subst hx;exact .inr h.low.1),h.bx.aF k (by simpa using h.ne.2.1),h.mem,h.ne,h.low,λx hx=>lL (h.cC x hx) k.size⟩
theorem iQ.jb (h:iQ G w0 w br ag n gb b8 vP ts):∀x,x∈[gb]->x∈G:=by simpa using h.mem.1
theorem iQ.nL (h:iQ G w0 w br ag n gb b8 vP ts):∀x,x∈[br]->x∈G:=by simpa using h.rn.mem
end
theorem iQ.fin {w0:World} {br:Nat} {ag:List ai} {gb b8:Nat} {vP:Value} (h:iQ (gb::b8::G) w0 w br ag n gb b8 vP ts) (hG:eO G w0) (ov:br∈G) (k:aj [b8] w w'):
  bB G w' (.agg #[str [],vP]) (.mk [] ts)∧RN G w' br ag n∧aj [br] w0 w':=by
 have oh:gb∉b8::G:=λhx=>by
  rcases mC.1 hx with h1|h1
  ·exact h.ne.2.1 h1.symm
  ·have:=hG gb h1;have:=h.low.1;omega
 have h1:bQ (b8::G) w vP (.sl 2 (cT ts)):=h.own.rep (λx hx=>.inl (by simpa using hx)) (by simpa using oh)
 have h2:bB (b8::G) w (.agg #[str [],vP]) (.mk [] ts):=kU h1
 refine⟨(h2.aD k sm).gP (λx hx=>mK _ hx),(h.rn.aF k (by simpa using h.ne.2.2) sm).re ov (λx hx=>.inl (by simp[hx])),h.kb.since k (λx hx=>?_)⟩
 simp at hx;subst hx;exact .inr h.low.2
theorem NI (s:ai):cS G w [str s,.slice none 0 0] (bJ s).enc:=bB.kj (kU oH)
theorem agU (ag:List ai) (ρ:Rn) (n:Nat) {M:Nat} (ha:e.iv=false) (hl:isLt e=false) (hk:k<e.kids.length) (h1:ρ.length+2*e.n<=100000) (h2:n+e.n*(ag.length+2)<=100000) (hM:M<=nF ag n e+kN e k*(ag.length+2)):
  (ja ag ρ n e).length+2*(fL e k).n<=100000∧M+(fL e k).n*(ag.length+2)<=100000:=by
 have h3:=yw hk
 have h4:=ED cx ag n
 have h5:=ED cx ag (bm cx ag n+1)
 have h6:(ja ag ρ n e).length+2*(fL e k).n<=ρ.length+2*e.n∧nF ag n e+kN e (k+1)*(ag.length+2)<=n+e.n*(ag.length+2):=by
  cases e with
  |«at» s=>cases ha
  |lt x a b=>cases hl
  |fn f x A B b=>
   have fT:k=0:=by simp[Ex.kids] at hk;exact hk
   subst fT
   have e1:(fL (.fn f x A B b) 0).n=b.n:=rfl
   have e2:kN (.fn f x A B b) 1=b.n:=by simp[kN,Ex.kids]
   have e3:(Ex.fn f x A B b).n=3+A.n+B.n+b.n:=rfl
   rw[e1,e2,e3]
   simp only[ja,nF,lA,lC,List.length_nil,Nat.add_mul]
   constructor<;>omega
  |un h a=>
   have:=CC (.un h a) (k+1)
   exact⟨by show ρ.length+_<=_;omega,Nat.add_le_add_left (Nat.mul_le_mul_right _ this) _⟩
  |bi h a b=>
   have:=CC (.bi h a b) (k+1)
   exact⟨by show ρ.length+_<=_;omega,Nat.add_le_add_left (Nat.mul_le_mul_right _ this) _⟩
  |ite a b c=>
   have:=CC (.ite a b c) (k+1)
   exact⟨by show ρ.length+_<=_;omega,Nat.add_le_add_left (Nat.mul_le_mul_right _ this) _⟩
 rw[h3,Nat.add_mul] at h6
 omega
theorem agV (ag:List ai) (iq:ag.length<=10000):∀(m:Nat) (e:Ex),e.n<=m->e.n<=1000->e.ok->∀(ρ:Rn) (n:Nat),ρ.length+2*e.n<=100000->n+e.n*(ag.length+2)<=100000->∀(v vf vt:Value) (br:Nat) (G:List Nat) (w:World),
  bB G w v e.au->bc G w vf (ρ.map Prod.fst)->bc G w vt (ρ.map Prod.snd)->RN G w br ag n->eO G w->
  bz Tryz.prog 141 [v,vf,vt,.pointer (some ⟨br,0,none⟩)] w λr w'=>(bB G w' r (bH ag e ρ n).1.au∧RN G w' br ag (bH ag e ρ n).2)∧aj [br] w w':=by
 intro m
 induction m with
 |zero=>intro e h;have:=e.pos;omega
 |succ m ih=>
  intro e hm lD ba ρ n ob oF v vf vt br G w cO NJ NK CG hG
  obtain⟨a,np,c,rfl,hn,JO⟩:=cU cO
  subst hn
  obtain⟨af,nf,cf,rfl,rk⟩:=dJ NJ
  obtain⟨at_,nt,ct,rfl,Eb⟩:=dJ NK
  have agW:(ρ.map Prod.fst).length=ρ.length:=by simp
  have aoy:(ρ.map Prod.snd).length=ρ.length:=by simp
  have aoz:=CG.lt
  have hK:=aj.refl [] w
  have JG:=GV e
  have ug:=ED cx ag n
  have jq:=ED cx ag (bm cx ag n+1)
  have hB:e.n*(ag.length+2)<=100000:=by omega
  refine kW [.cell 8 78] 155 Tryz.func141 rfl ZJ rfl rfl rfl ?_
  refine zr<|eH rfl λw1 aI aG dk=>?_
  have hK:=hK.ext aI
  refine dx aL rfl rfl rfl λw2 az dh dC=>?_
  have hK:=hK.grow;have hK:=hK.ext az;have aG:=aG.grow;have aG:=aG.ext az
  refine W ?_
  refine zc rfl (λh1=>?_) (λh1=>?_)
  have aQ:∃x,e= .at x:=(by have ha:=(vD ba).1 h1;cases e<;>first|exact⟨_,rfl⟩|cases ha)
  obtain⟨x,rfl⟩:=aQ
  refine W ?_
  refine aA (vA _ _) ?_
  rintro _ _ ⟨rfl,rfl⟩
  refine aZ<|zc rfl (λh2=>?_) (λh2=>?_)
  have hq:(bH ag (.at x) ρ n).1.au=bJ (qj ρ x):=(show bJ (if dN x=true then qj ρ x else x)=bJ (qj ρ x) from congrArg bJ (iP h2))
  refine W ?_
  refine aA (agG (ρ.map Prod.fst) (ρ.map Prod.snd) om om x _ _ _ _ w2 (NJ.ext hK) (NK.ext hK)) ?_
  rintro _ w3 ⟨rfl,aH⟩
  have fm:=aH.size
  refine bI aH hK dh λhK dh=>?_
  refine aA (AQ _ w3) ?_
  rintro _ w4 ⟨rfl,aO⟩
  have fE:=aO.size
  refine bI aO hK dh λhK dh=>?_
  refine cJ aL rfl rfl rfl dh rfl λw5 aN dh ig=>?_
  have hK:=hK.aD aN sx
  refine W ?_
  have yy:=agF x ρ
  rw[<-agW] at yy
  exact⟨[_],fZ eU aL rfl dh rfl,⟨by rw[hq,<-yy];exact kU oH,CG.ext hK⟩,hK.any⟩
  have hq:(bH ag (.at x) ρ n).1.au=bJ x:=(show bJ (if dN x=true then qj ρ x else x)=bJ x from congrArg bJ (iN (λhh=>Bool.noConfusion (hh.symm.trans h2))))
  refine W ?_
  refine cJ aL rfl rfl rfl dh rfl λw3 aH dh gJ=>?_
  have hK:=hK.aD aH sx
  refine W ?_
  exact⟨[_],fZ eU aL rfl dh rfl,⟨by rw[hq];exact bB.ext cO hK,CG.ext hK⟩,hK.any⟩
  have eJ:e.iv=false:=(by cases hh:e.iv;rfl;exact absurd ((vD ba).2 hh) h1)
  obtain⟨GW,nZ,jd,qz⟩:=Ex.ak eJ
  obtain⟨jn,Ew,Ey⟩:=GU ba eJ
  have GX:=Md ba eJ
  have lB:dW (nth e.au.ak 0).aw=(e.from,e.from+e.kids.length):=by rw[jd];exact GX
  obtain⟨b,off,x6,ya,e0,uh,jV⟩:=eW JO jn
  subst e0
  have mG:=hK
  have Hc:=aG
  have agX:=dh
  have agY:=dk
  have agZ:=dC
  refine gY<|zr<|zS w2.heap.size (w1.heap.size::G) cz aL rfl rfl (lR _) (λx hx=>by rcases mC.1 hx with h|h;omega;have:=hG x h;omega) λw3 aH JP xd=>?_
  have jI:=aH
  refine bI aH aG dh λaG dh=>?_
  refine W ?_
  refine wT cz aL rfl rfl rfl rfl rfl rfl xd (eM.ext (bQ.fresh JO (L':=w2.heap.size::w1.heap.size::G) (by intro x hx;simp at hx;rcases hx with rfl|rfl|hx;right;omega;right;omega;exact .inl hx)) (mG.ext aH)) (Vo _) (by rw[ia];simp;omega) λa4 fP g4 w4 ku aO=>?_
  have jI:=xd.since jI aO
  have hK:=mG.trans jI
  have aG:=Hc.ext jI
  have dh:=agX.ext jI
  have fE:=jI.size
  rw[show([]:List (List C)).length+(cT e.au.ak).length=e.au.ak.length from by rw[ia];simp] at ku⊢
  rw[List.nil_append] at ku
  obtain⟨gb,e4,e5⟩:=ku.form (by rw[ia];exact jn)
  subst e4
  subst e5
  have fG:gb<w4.heap.size:=ku.lt gb sm
  have EE:w2.heap.size<=gb:=ku.low gb rfl
  have hS:dH (gb::w1.heap.size::G) w4 78 2 (.slice (some ⟨gb,0,none⟩) e.au.ak.length fP) (some gb) (cT e.au.ak):=(let⟨xs,hr⟩:=ku.own;⟨⟨xs,hr.own,hr.rep⟩,hr.row⟩)
  refine js (Lm _ _ _ _) rfl rfl<|dx aL rfl rfl rfl λw5 aN cW ig=>?_
  have hK:=hK.grow;have hK:=hK.ext aN;have aG:=aG.grow;have aG:=aG.ext aN;have dh:=dh.grow;have dh:=dh.ext aN;have hS:=hS.grow;have hS:=hS.ext aN
  refine cJ aL rfl rfl rfl cW rfl λw6 bN cW kI=>?_
  have hK:=hK.aD bN sx;have aG:=aG.aD bN sx;have dh:=dh.aD bN sx;have hS:=hS.aD bN sx
  refine aZ<|zr<|zf jt rfl<|zl iC rfl (aG.at rfl) ?_
  have kS:∀x,x∈gb::w1.heap.size::G->x∈G∨w.heap.size<=x:=(by intro x hx;simp at hx;rcases hx with rfl|rfl|hx;right;omega;right;omega;exact .inl hx)
  have iZ:=hK.size
  have Vp:eO (gb::w1.heap.size::G) w6:=(by intro x hx;simp at hx;rcases hx with rfl|rfl|hx;omega;omega;have:=hG x hx;omega)
  have EF:Fr G w (gb::w1.heap.size::G) w6:=⟨hK.any,kS⟩
  have aP:=JO.go EF
  have fi:=NJ.go EF
  have dZ:=NK.go EF
  have uh:=uh.go EF
  have rf:RN (gb::w1.heap.size::G) w6 br ag n:=(CG.re (by simp[CG.mem]) kS).ext hK
  have eK:∀q,w.heap.size<=q->q≠gb->q≠w1.heap.size->q∉gb::w1.heap.size::G:=(by intro q h1 h2 h3 hx;simp at hx;rcases hx with h|h|h;exact h2 h;exact h3 h;have:=hG q h;omega)
  have aG:dM (gb::w1.heap.size::G) w6 w.heap.size _ _:=⟨aG,eK _ om om om⟩
  have cW:dM (gb::w1.heap.size::G) w6 w4.heap.size _ _:=⟨cW,eK _ om om om⟩
  have hS:=dH.sub hS (L':=gb::w1.heap.size::G) (λx hx=>.inl (mK _ hx))
  have aR:iQ (gb::w1.heap.size::G) w w6 br ag n gb w1.heap.size _ e.au.ak:=⟨rf,hS,hK.any,dh,sm,om,om,Vp⟩
  have aQ:∃G2,G2=gb::w1.heap.size::G:=⟨_,rfl⟩
  obtain⟨G2,yA⟩:=aQ
  rw[<-yA] at aP fi dZ aG cW uh aR
  have fN:br∈G2∧gb∈G2∧w1.heap.size∈G2:=⟨aR.rn.mem,aR.mem⟩
  refine zi (i:=0) cz aL rfl rfl jn<|zf kX rfl<|zl gD rfl (uh.cells 0 _ rfl)<|aA (JA _ _) ?_
  rintro _ _ ⟨rfl,rfl⟩
  rw[yu lB]
  refine WI ?_
  refine zi (i:=0) cz aL rfl rfl jn<|W ?_
  refine zc rfl (λh3=>?_) (λh3=>?_)
  obtain⟨nx,ea,eb,rfl⟩:=JM ba (jd.symm.trans h3)
  have xe:(Ex.lt nx ea eb).n=2+ea.n+eb.n:=rfl
  have hmul:(Ex.lt nx ea eb).n*(ag.length+2)=2*(ag.length+2)+ea.n*(ag.length+2)+eb.n*(ag.length+2):=by rw[xe,Nat.add_mul,Nat.add_mul]
  have aoA:=iW ag ea ρ (bm cx ag n+1)
  have JQ:(Ex.lt nx ea eb).au.ak.length=4:=rfl
  refine zr<|zm<|aA (NF ag n om iq br G2 w6 aR.rn) ?_
  rintro v7 w7 ⟨ye,bW⟩
  have lf:=bW.size
  have aP:=aP.aD bW (aR.nL);have fi:=fi.aD bW (aR.nL);have dZ:=dZ.aD bW (aR.nL);have aG:=aG.aD bW (aR.nL);have cW:=cW.aD bW aR.nL
  obtain⟨rfl,rf⟩:=ye
  have aR:=aR.call rf bW
  refine W ?_
  apply dV dj 5 [51,52,53,54,55] [[],[0],[],[2],[1]] (it [_,_,_,_,_]) de rfl
  intro wd aC
  refine VA ?_
  refine vk aC (λx w8 cE=>?_) ?_
  refine aA (AQ _ w8) ?_
  rintro _ w9 ⟨rfl,aB⟩
  have o7:=aB.size
  exact pk aB
  refine vk aC (λx w8 cE=>?_) ?_
  refine zi (i:=1) cz aL rfl rfl ((show 1<4 from om)) ?_
  exact pv
  exact trivial
  intro x wO l5
  refine tS l5 aP fi dZ aG cW aR λaP fi dZ aG cW aR=>?_
  change OW _ _ _ _ _ (bo (bj _ x _) (zZ 51 [_,_,_,_,_])) _
  refine sR (i:=1) (vs:=[str (cK cx (bm cx ag n)),.slice none 0 0]) (row:=(bJ (cK cx (bm cx ag n))).enc) aL rfl rfl rfl rfl rfl aR.own aR.cC aR.mem.1 (by rw[ia];omega) rfl (oG _) (NI _) λlK lM rS dv=>?_
  rw[sU] at dv
  have aP:=aP.aD lM aR.jb;have fi:=fi.aD lM aR.jb;have dZ:=dZ.aD lM aR.jb;have aG:=aG.aD lM aR.jb;have cW:=cW.aD lM aR.jb
  have aR:=aR.store lM dv
  refine W ?_
  obtain⟨b2,lF,iA,iw,e2,bU,dI⟩:=eW aP (i:=2) om
  cases e2
  have dI:bB G2 lK _ ea.au:=dI
  obtain⟨b3,A3,pR,pS,e3,dO,dY⟩:=eW aP (i:=3) om
  cases e3
  have dY:bB G2 lK _ eb.au:=dY
  obtain⟨b1,eX,gA,gm,e1,bK,cI⟩:=eW aP (i:=1) om
  cases e1
  apply jF dj G2 11 (rA 56 11) (rA 56 11) [[],[0],[],[2],[3],[4],[],[],[],(rA 5 4),[1]] [Ie.v _,Ie.v _,Ie.v _,Ie.v _,Ie.v _,Ie.v _,Ie.v _,Ie.v _,Ie.v _,Ie.e 0,Ie.v _] [9] [fun(G:List Nat) (vs:List Value) (ww:World)=>G=G2∧iQ G2 w ww br ag (bm cx ag n+1) gb w1.heap.size (.slice (some ⟨gb,0,none⟩) (Ex.lt nx ea eb).au.ak.length fP) (((Ex.lt nx ea eb).au.ak.set 1 (bJ (cK cx (bm cx ag n))))),fun(G:List Nat) (vs:List Value) (ww:World)=>G=G2∧iQ G2 w ww br ag ((bH ag ea ρ (bm cx ag n+1)).2) gb w1.heap.size (.slice (some ⟨gb,0,none⟩) (Ex.lt nx ea eb).au.ak.length fP) (((Ex.lt nx ea eb).au.ak.set 1 (bJ (cK cx (bm cx ag n)))))∧bB G2 ww (vs.getD 0 undef) (bH ag ea ρ (bm cx ag n+1)).1.au] de rfl aR.cC (by exact trivial) (by exact⟨λG vs w w' ⟨h1,h2⟩ k=>⟨h1,h2.ext k⟩,λG vs w w' ⟨h1,h2,h3⟩ k=>⟨h1,h2.ext k,h3.ext k⟩,trivial⟩) (⟨rfl,aR⟩)
  refine FA ?_
  refine vf (λ_ _ _ _ _ _=>zi (i:=2) cz aL rfl rfl ((show 2<4 from om)) fv) ?_
  refine FA ?_
  refine ve 0 (λx oc JR aS yB Vq hJ hlen=>?_) ?_
  have aW:=jg hlen
  subst aW
  have fi:=fi.go yB;have dZ:=dZ.go yB;have dI:=dI.go yB
  obtain⟨bO,aR⟩:=hJ
  obtain rfl:G2=JR:=bO.symm
  refine aA (ih ea om om ba.2.1 ρ (bm cx ag n+1) om om _ _ _ br G2 oc dI fi dZ aR.rn aR.cC) ?_
  rintro CH oe ⟨⟨du,He⟩,aB⟩
  exact fe G2 (Fr.of aB aR.nL) ((λq hq=>lL (aR.cC q hq) aB.size)) (⟨rfl,aR.call He aB,du⟩)
  refine vf (λ_ _ _ _ _ _=>zi (i:=2) cz aL rfl rfl ((show 2<4 from om)) fv) ?_
  exact trivial
  intro x Hf G88 aS CI aoB hJ hlen
  obtain⟨q0,aW⟩:=jh hlen
  subst aW
  have fi:=fi.go CI;have dZ:=dZ.go CI;have aG:=aG.go CI;have cW:=cW.go CI;have dO:=dO.go CI;have dY:=dY.go CI;have bK:=bK.go CI
  change OW _ _ _ _ _ (bo (bj _ x _) (zZ 56 [_,_,_,_,_,_,_,_,_,_,_])) _
  obtain⟨bO,aR,du⟩:=hJ
  obtain rfl:G2=G88:=bO.symm
  obtain⟨a7,n7,c7,e7,_,_⟩:=cU du
  have e8:q0=_:=e7
  subst e8
  refine sR (i:=2) (vs:=[str (bH ag ea ρ (bm cx ag n+1)).1.au.aw,.slice a7 n7 c7]) (row:=(bH ag ea ρ (bm cx ag n+1)).1.au.enc) aL rfl rfl rfl rfl rfl aR.own aR.cC aR.mem.1 (by rw[ia];rw[List.length_set];omega) rfl (oG _) ((show bB G2 _ (.agg #[_,_]) _ from du).kj) λxf xg rS dv=>?_
  rw[sU] at dv
  have fi:=fi.aD xg aR.jb;have dZ:=dZ.aD xg aR.jb;have aG:=aG.aD xg aR.jb;have cW:=cW.aD xg aR.jb;have dO:=dO.aD xg aR.jb;have dY:=dY.aD xg aR.jb;have bK:=bK.aD xg aR.jb
  have aR:=aR.store xg dv
  refine W ?_
  have x4:=aR.kb.size
  apply jF dj G2 25 (rA 67 25) (rA 67 25) [[],[0],[],[2],[3],[4],[],[],[6,7],[],[9],[10],[11],[12],[13],[8,14],[],[],[16,17],[],[19],[18,20],[],[5,15,21,22],[1]] [Ie.v _,Ie.v _,Ie.v _,Ie.v _,Ie.v _,Ie.v _,Ie.p (fun(G:List Nat) (v:Value) (ww:World)=>∃bb,v= .slice (some ⟨bb,0,none⟩) 0 0∧w.heap.size<=bb∧dM G ww bb #[] 9),Ie.v _,Ie.e 0,Ie.v _,Ie.v _,Ie.v _,Ie.v _,Ie.v _,Ie.p (fun(G:List Nat) (v:Value) (ww:World)=>bc G ww v [nx]),Ie.e 1,Ie.p (fun(G:List Nat) (v:Value) (ww:World)=>∃bb,v= .slice (some ⟨bb,0,none⟩) 0 0∧w.heap.size<=bb∧dM G ww bb #[] 9),Ie.v _,Ie.e 2,Ie.v _,Ie.p (fun(G:List Nat) (v:Value) (ww:World)=>bc G ww v [(cK cx (bm cx ag n))]),Ie.e 3,Ie.v _,Ie.e 4,Ie.v _] [8,15,18,21,23] [fun(G:List Nat) (vs:List Value) (ww:World)=>G=G2∧iQ G2 w ww br ag ((bH ag ea ρ (bm cx ag n+1)).2) gb w1.heap.size (.slice (some ⟨gb,0,none⟩) (Ex.lt nx ea eb).au.ak.length fP) ((((Ex.lt nx ea eb).au.ak.set 1 (bJ (cK cx (bm cx ag n)))).set 2 (bH ag ea ρ (bm cx ag n+1)).1.au)),fun(G:List Nat) (vs:List Value) (ww:World)=>(∀q,q∈G2->q∈G)∧iQ G w ww br ag ((bH ag ea ρ (bm cx ag n+1)).2) gb w1.heap.size (.slice (some ⟨gb,0,none⟩) (Ex.lt nx ea eb).au.ak.length fP) ((((Ex.lt nx ea eb).au.ak.set 1 (bJ (cK cx (bm cx ag n)))).set 2 (bH ag ea ρ (bm cx ag n+1)).1.au))∧LP w.heap.size G G2 ww 9 (vs.getD 0 undef) (ρ.map Prod.fst),fun(G:List Nat) (vs:List Value) (ww:World)=>G=G2∧iQ G2 w ww br ag ((bH ag ea ρ (bm cx ag n+1)).2) gb w1.heap.size (.slice (some ⟨gb,0,none⟩) (Ex.lt nx ea eb).au.ak.length fP) ((((Ex.lt nx ea eb).au.ak.set 1 (bJ (cK cx (bm cx ag n)))).set 2 (bH ag ea ρ (bm cx ag n+1)).1.au))∧bc G2 ww (vs.getD 1 undef) ((ρ.map Prod.fst)++[nx]),fun(G:List Nat) (vs:List Value) (ww:World)=>(∀q,q∈G2->q∈G)∧iQ G w ww br ag ((bH ag ea ρ (bm cx ag n+1)).2) gb w1.heap.size (.slice (some ⟨gb,0,none⟩) (Ex.lt nx ea eb).au.ak.length fP) ((((Ex.lt nx ea eb).au.ak.set 1 (bJ (cK cx (bm cx ag n)))).set 2 (bH ag ea ρ (bm cx ag n+1)).1.au))∧bc G ww (vs.getD 1 undef) ((ρ.map Prod.fst)++[nx])∧LP w.heap.size G G2 ww 9 (vs.getD 2 undef) (ρ.map Prod.snd),fun(G:List Nat) (vs:List Value) (ww:World)=>G=G2∧iQ G2 w ww br ag ((bH ag ea ρ (bm cx ag n+1)).2) gb w1.heap.size (.slice (some ⟨gb,0,none⟩) (Ex.lt nx ea eb).au.ak.length fP) ((((Ex.lt nx ea eb).au.ak.set 1 (bJ (cK cx (bm cx ag n)))).set 2 (bH ag ea ρ (bm cx ag n+1)).1.au))∧bc G2 ww (vs.getD 1 undef) ((ρ.map Prod.fst)++[nx])∧bc G2 ww (vs.getD 3 undef) ((ρ.map Prod.snd)++[(cK cx (bm cx ag n))]),fun(G:List Nat) (vs:List Value) (ww:World)=>G=G2∧iQ G2 w ww br ag ((bH ag eb (ρ++[(nx,(cK cx (bm cx ag n)))]) (bH ag ea ρ (bm cx ag n+1)).2).2) gb w1.heap.size (.slice (some ⟨gb,0,none⟩) (Ex.lt nx ea eb).au.ak.length fP) ((((Ex.lt nx ea eb).au.ak.set 1 (bJ (cK cx (bm cx ag n)))).set 2 (bH ag ea ρ (bm cx ag n+1)).1.au))∧bB G2 ww (vs.getD 4 undef) (bH ag eb (ρ++[(nx,(cK cx (bm cx ag n)))]) (bH ag ea ρ (bm cx ag n+1)).2).1.au] de rfl aR.cC (by exact⟨λG v w G' w' ⟨bb,e,h0,h⟩ k=>⟨bb,e,h0,h.go k⟩,λG v w G' w' h k=>bc.go h k,λG v w G' w' ⟨bb,e,h0,h⟩ k=>⟨bb,e,h0,h.go k⟩,λG v w G' w' h k=>bc.go h k,trivial⟩) (by exact⟨λG vs w w' ⟨h1,h2⟩ k=>⟨h1,h2.ext k⟩,λG vs w w' ⟨h1,h2,h3⟩ k=>⟨h1,h2.ext k,h3.ext k⟩,λG vs w w' ⟨h1,h2,h3⟩ k=>⟨h1,h2.ext k,h3.ext k⟩,λG vs w w' ⟨h1,h2,h3,h4⟩ k=>⟨h1,h2.ext k,h3.ext k,h4.ext k⟩,λG vs w w' ⟨h1,h2,h3,h4⟩ k=>⟨h1,h2.ext k,h3.ext k,h4.ext k⟩,λG vs w w' ⟨h1,h2,h3⟩ k=>⟨h1,h2.ext k,h3.ext k⟩,trivial⟩) (⟨rfl,aR⟩)
  refine FA ?_
  refine vf (λ_ _ _ _ _ _=>zi (i:=3) cz aL rfl rfl ((show 3<4 from om)) fv) ?_
  refine FA ?_
  refine vf (λx kF l8 aS jz mH=>?_) ?_
  refine fR bh bf ?_
  intro qB yC NL JS
  exact ff yC (⟨_,rfl,(by have h1:=jz.aF.size;omega),NL.o mH⟩)
  refine FA ?_
  refine ve 0 (λx kF l8 aS jz mH hJ hlen=>?_) ?_
  have aW:=jg hlen
  subst aW
  have fi:=fi.go jz
  intro v6 d6
  obtain⟨bb,e6,CJ,fH⟩:=d6
  subst e6
  obtain⟨bO,aR⟩:=hJ
  obtain rfl:G2=l8:=bO.symm
  refine GQ (N:=w.heap.size) bh bf rfl rfl rfl rfl rfl rfl fH CJ fi aR.cC om λv9 qB G9 kt vE cP eu pW=>?_
  exact fe G9 cP eu (⟨kt,aR.out cP pW ⟨fN.1,fN.2.1,fN.2.2⟩ ⟨kt _ fN.1,kt _ fN.2.1,kt _ fN.2.2⟩ eu,vE⟩)
  refine FA ?_
  refine vf (λ_ _ _ _ _ _=>zi (i:=1) cz aL rfl rfl ((show 1<4 from om)) fv) ?_
  refine FA ?_
  refine vf (λx kF l8 aS jz mH=>?_) ?_
  refine fc bh bf rfl rfl ?_
  intro qB yC EG JS
  exact ff yC (aJ.dK [nx] EG (λhx=>by have:=mH _ hx;omega))
  refine ve 1 (λx kF l8 aS jz mH hJ hlen=>?_) ?_
  obtain⟨q0,aW⟩:=jh hlen
  subst aW
  intro l9 d14
  obtain⟨jU,aR,Hg⟩:=hJ
  refine JC bh bf rfl rfl rfl rfl rfl rfl Hg d14 aR.cC jU so λv9 qB jA cP eu pW=>?_
  exact fe G2 cP eu (⟨rfl,aR.out cP pW ⟨fN.1,fN.2.1,fN.2.2⟩ ⟨fN.1,fN.2.1,fN.2.2⟩ eu,jA⟩)
  refine vf (λx kF l8 aS jz mH=>?_) ?_
  refine fR bh bf λqB yC ag1 JS=>?_
  exact ff yC (⟨_,rfl,(by have h1:=jz.aF.size;omega),ag1.o mH⟩)
  refine FA ?_
  refine ve 2 (λx kF l8 aS jz mH hJ hlen=>?_) ?_
  obtain⟨q0,q1,aW⟩:=k9 hlen
  subst aW
  have dZ:=dZ.go jz
  intro CK d16
  obtain⟨bb,e6,CJ,fH⟩:=d16
  subst e6
  obtain⟨bO,aR,rl⟩:=hJ
  obtain rfl:G2=l8:=bO.symm
  refine GQ (N:=w.heap.size) bh bf rfl rfl rfl rfl rfl rfl fH CJ dZ aR.cC om λv9 qB G9 kt vE cP eu pW=>?_
  exact fe G9 cP eu (⟨kt,aR.out cP pW ⟨fN.1,fN.2.1,fN.2.2⟩ ⟨kt _ fN.1,kt _ fN.2.1,kt _ fN.2.2⟩ eu,rl.go cP,vE⟩)
  refine FA ?_
  refine vf (λx kF l8 aS jz mH=>?_) ?_
  refine fc bh bf rfl rfl λqB yC ag2 JS=>?_
  exact ff yC (aJ.dK [(cK cx (bm cx ag n))] ag2 (λhx=>by have:=mH _ hx;omega))
  refine ve 3 (λx kF l8 aS jz mH hJ hlen=>?_) ?_
  obtain⟨q0,q1,q2,aW⟩:=Aj hlen
  subst aW
  intro v20 d20
  obtain⟨jU,aR,rl,Hg⟩:=hJ
  refine JC bh bf rfl rfl rfl rfl rfl rfl Hg d20 aR.cC jU so λv9 qB jA cP eu pW=>?_
  exact fe G2 cP eu (⟨rfl,aR.out cP pW ⟨fN.1,fN.2.1,fN.2.2⟩ ⟨fN.1,fN.2.1,fN.2.2⟩ eu,rl.go cP,jA⟩)
  refine FA ?_
  refine ve 4 (λx kF l8 aS jz mH hJ hlen=>?_) ?_
  obtain⟨q0,q1,q2,q3,aW⟩:=Mw hlen
  subst aW
  have dY:=dY.go jz
  obtain⟨bO,aR,rl,ag3⟩:=hJ
  obtain rfl:G2=l8:=bO.symm
  refine aA (ih eb om om ba.2.2 (ρ++[(nx,(cK cx (bm cx ag n)))]) (bH ag ea ρ (bm cx ag n+1)).2 so om _ _ _ br G2 kF dY (by rw[List.map_append];exact rl) (by rw[List.map_append];exact ag3) aR.rn aR.cC) ?_
  rintro CH qB ⟨⟨du,He⟩,aB⟩
  exact fe G2 (Fr.of aB aR.nL) ((λq hq=>lL (aR.cC q hq) aB.size)) (⟨rfl,aR.call He aB,du⟩)
  refine vf (λ_ _ _ _ _ _=>zi (i:=3) cz aL rfl rfl ((show 3<4 from om)) fv) ?_
  exact trivial
  intro x JT Vr aS NM ag4 hJ hlen
  obtain⟨q0,q1,q2,q3,q4,aW⟩:=SG hlen
  subst aW
  intro v6 d6
  intro l9 d14
  intro CK d16
  intro v20 d20
  have cW:=cW.go NM
  change OW _ _ _ _ _ (bo (bj _ x _) (zZ 67 [_,_,_,_,_,_,_,_,_,_,_,_,_,_,_,_,_,_,_,_,_,_,_,_,_])) _
  obtain⟨bO,aR,du⟩:=hJ
  obtain rfl:G2=Vr:=bO.symm
  obtain⟨a7,n7,c7,e7,_,_⟩:=cU du
  have e8:q4=_:=e7
  subst e8
  refine sR (i:=3) (vs:=[str (bH ag eb (ρ++[(nx,(cK cx (bm cx ag n)))]) (bH ag ea ρ (bm cx ag n+1)).2).1.au.aw,.slice a7 n7 c7]) (row:=(bH ag eb (ρ++[(nx,(cK cx (bm cx ag n)))]) (bH ag ea ρ (bm cx ag n+1)).2).1.au.enc) aL rfl rfl rfl rfl rfl aR.own aR.cC aR.mem.1 (by rw[ia];rw[List.length_set,List.length_set];omega) rfl (oG _) ((show bB G2 _ (.agg #[_,_]) _ from du).kj) λNN CL rS dv=>?_
  rw[sU] at dv
  have cW:=cW.aD CL aR.jb
  have aR:=aR.store CL dv
  refine W ?_
  refine cJ aL rfl rfl rfl aR.bx rfl λag5 NO dh ld=>?_
  subst yA
  obtain⟨rU,rV,vF⟩:=aR.fin hG CG.mem NO
  refine W ?_
  exact⟨[_],fZ eU aL rfl dh rfl,⟨rU,rV⟩,vF⟩
  have JU:isLt e=false:=not_lt (λhh=>h3 (jd.trans hh))
  have Vs:=agQ ag ρ n eJ JU
  have Vt:=agR ag n eJ JU
  have kf:=Fr.refl G2 w6
  have x4:=aR.kb.size
  refine WI ?_
  refine zi (i:=0) cz aL rfl rfl jn<|W ?_
  refine ix (λq:Value×Value=>[(1,q.1),(2,q.2),(3,.pointer (some ⟨br,0,none⟩)),(4,.pointer (some ⟨w.heap.size,0,none⟩)),(8,.pointer (some ⟨w1.heap.size,0,none⟩)),(9,.pointer (some ⟨w4.heap.size,0,none⟩)),(10,.int .i64 (e.from:Int)),(11,.int .i64 ((e.from+e.kids.length:Nat):Int))]) (λq ww=>Fr G2 w6 G2 ww∧iQ G2 w ww br ag (nF ag n e) gb w1.heap.size (.slice (some ⟨gb,0,none⟩) e.au.ak.length fP) (lJ (wZ ag n e) [] e)∧bc G2 ww q.1 ((ja ag ρ n e).map Prod.fst)∧bc G2 ww q.2 ((ja ag ρ n e).map Prod.snd)) ?_ ?_
  refine zc rfl (λh4=>?_) (λh4=>?_)
  obtain⟨nf,nx,tA,tB,eb,rfl⟩:=JN ba (jd.symm.trans h4)
  have xe:(Ex.fn nf nx tA tB eb).n=3+tA.n+tB.n+eb.n:=rfl
  have hmul:(Ex.fn nf nx tA tB eb).n*(ag.length+2)=3*(ag.length+2)+tA.n*(ag.length+2)+tB.n*(ag.length+2)+eb.n*(ag.length+2):=by rw[xe,Nat.add_mul,Nat.add_mul,Nat.add_mul]
  have JV:(Ex.fn nf nx tA tB eb).au.ak.length=6:=rfl
  refine zr<|zm<|aA (NF ag n om iq br G2 w6 aR.rn) ?_
  rintro v7 w7 ⟨ye,bW⟩
  have lf:=bW.size
  have aP:=aP.aD bW (aR.nL);have fi:=fi.aD bW (aR.nL);have dZ:=dZ.aD bW (aR.nL);have aG:=aG.aD bW (aR.nL);have cW:=cW.aD bW (aR.nL);have kf:=kf.aD bW aR.nL
  obtain⟨rfl,rf⟩:=ye
  have aR:=aR.call rf bW
  refine W ?_
  refine aA (NF ag (bm cx ag n+1) om iq br G2 w7 aR.rn) ?_
  rintro v8 w8 ⟨Hh,cE⟩
  have A4:=cE.size
  have aP:=aP.aD cE (aR.nL);have fi:=fi.aD cE (aR.nL);have dZ:=dZ.aD cE (aR.nL);have aG:=aG.aD cE (aR.nL);have cW:=cW.aD cE (aR.nL);have kf:=kf.aD cE aR.nL
  obtain⟨rfl,rf⟩:=Hh
  have aR:=aR.call rf cE
  refine W ?_
  apply dV dj 5 [103,104,105,106,107] [[],[0],[],[2],[1]] (it [_,_,_,_,_]) de rfl
  intro wd aC
  refine VA ?_
  refine vk aC (λx w9 aB=>?_) ?_
  refine aA (AQ _ w9) ?_
  rintro _ cu ⟨rfl,cB⟩
  have CM:=cB.size
  exact pk cB
  refine vk aC (λx w9 aB=>?_) ?_
  refine zi (i:=1) cz aL rfl rfl ((show 1<6 from om)) ?_
  exact pv
  exact trivial
  intro x lK lM
  refine I3 lM aP fi dZ aG cW kf aR λaP fi dZ aG cW kf aR=>?_
  change OW _ _ _ _ _ (bo (bj _ x _) (zZ 103 [_,_,_,_,_])) _
  refine sR (i:=1) (vs:=[str (cK cx (bm cx ag n)),.slice none 0 0]) (row:=(bJ (cK cx (bm cx ag n))).enc) aL rfl rfl rfl rfl rfl aR.own aR.cC aR.mem.1 (by rw[ia];omega) rfl (oG _) (NI _) λoc iE rS dv=>?_
  rw[sU] at dv
  have aP:=aP.aD iE aR.jb;have fi:=fi.aD iE aR.jb;have dZ:=dZ.aD iE aR.jb;have aG:=aG.aD iE aR.jb;have cW:=cW.aD iE aR.jb;have kf:=kf.aD iE aR.jb
  have aR:=aR.store iE dv
  refine W ?_
  apply dV dj 5 [108,109,110,111,112] [[],[0],[],[2],[1]] (it [_,_,_,_,_]) de rfl
  intro wd aC
  refine VA ?_
  refine vk aC (λx oe lE=>?_) ?_
  refine aA (AQ _ oe) ?_
  rintro _ lg ⟨rfl,kK⟩
  have aoC:=kK.size
  exact pk kK
  refine vk aC (λx oe lE=>?_) ?_
  refine zi (i:=2) cz aL rfl rfl ((show 2<6 from om)) ?_
  exact pv
  exact trivial
  intro x xf xg
  refine tS xg aP fi dZ aG kf aR λaP fi dZ aG kf aR=>?_
  change OW _ _ _ _ _ (bo (bj _ x _) (zZ 108 [_,_,_,_,_])) _
  refine sR (i:=2) (vs:=[str (cK cx (bm cx ag (bm cx ag n+1))),.slice none 0 0]) (row:=(bJ (cK cx (bm cx ag (bm cx ag n+1)))).enc) aL rfl rfl rfl rfl rfl aR.own aR.cC aR.mem.1 (by rw[ia];rw[List.length_set];omega) rfl (oG _) (NI _) λkF ui rS dv=>?_
  rw[sU] at dv
  have aP:=aP.aD ui aR.jb;have fi:=fi.aD ui aR.jb;have dZ:=dZ.aD ui aR.jb;have aG:=aG.aD ui aR.jb;have kf:=kf.aD ui aR.jb
  have aR:=aR.store ui dv
  refine W ?_
  have x4:=aR.kb.size
  obtain⟨b1,eX,gA,gm,e1,bK,cI⟩:=eW aP (i:=1) om
  cases e1
  obtain⟨b2,lF,iA,iw,e2,bU,dI⟩:=eW aP (i:=2) om
  cases e2
  apply jF dj G2 15 (rA 113 15) (rA 113 15) [[],[],[0,1],[],[3],[4],[5],[6],[],[8],[9],[10],[11],[7,12],[2,13]] [Ie.p (fun(G:List Nat) (v:Value) (ww:World)=>∃bb,v= .slice (some ⟨bb,0,none⟩) 0 0∧w.heap.size<=bb∧dM G ww bb #[] 9),Ie.v _,Ie.e 0,Ie.v _,Ie.v _,Ie.v _,Ie.v _,Ie.v _,Ie.v _,Ie.v _,Ie.v _,Ie.v _,Ie.v _,Ie.p (fun(G:List Nat) (v:Value) (ww:World)=>bc G ww v [nf,nx]),Ie.e 1] [2,14] [fun(G:List Nat) (vs:List Value) (ww:World)=>G=G2∧iQ G2 w ww br ag (bm cx ag (bm cx ag n+1)+1) gb w1.heap.size (.slice (some ⟨gb,0,none⟩) (Ex.fn nf nx tA tB eb).au.ak.length fP) ((((Ex.fn nf nx tA tB eb).au.ak.set 1 (bJ (cK cx (bm cx ag n)))).set 2 (bJ (cK cx (bm cx ag (bm cx ag n+1)))))),fun(G:List Nat) (vs:List Value) (ww:World)=>(∀q,q∈G2->q∈G)∧iQ G w ww br ag (bm cx ag (bm cx ag n+1)+1) gb w1.heap.size (.slice (some ⟨gb,0,none⟩) (Ex.fn nf nx tA tB eb).au.ak.length fP) ((((Ex.fn nf nx tA tB eb).au.ak.set 1 (bJ (cK cx (bm cx ag n)))).set 2 (bJ (cK cx (bm cx ag (bm cx ag n+1))))))∧LP w.heap.size G G2 ww 9 (vs.getD 0 undef) (ρ.map Prod.fst),fun(G:List Nat) (vs:List Value) (ww:World)=>G=G2∧iQ G2 w ww br ag (bm cx ag (bm cx ag n+1)+1) gb w1.heap.size (.slice (some ⟨gb,0,none⟩) (Ex.fn nf nx tA tB eb).au.ak.length fP) ((((Ex.fn nf nx tA tB eb).au.ak.set 1 (bJ (cK cx (bm cx ag n)))).set 2 (bJ (cK cx (bm cx ag (bm cx ag n+1))))))∧bc G2 ww (vs.getD 1 undef) ((ρ.map Prod.fst)++[nf,nx])] de rfl aR.cC (by exact⟨λG v w G' w' ⟨bb,e,h0,h⟩ k=>⟨bb,e,h0,h.go k⟩,λG v w G' w' h k=>bc.go h k,trivial⟩) (by exact⟨λG vs w w' ⟨h1,h2⟩ k=>⟨h1,h2.ext k⟩,λG vs w w' ⟨h1,h2,h3⟩ k=>⟨h1,h2.ext k,h3.ext k⟩,λG vs w w' ⟨h1,h2,h3⟩ k=>⟨h1,h2.ext k,h3.ext k⟩,trivial⟩) (⟨rfl,aR⟩)
  refine vf (λx qB JW aS Hi Hj=>?_) ?_
  refine fR bh bf λCN yD ag6 ag7=>?_
  exact ff yD (⟨_,rfl,(by have h1:=Hi.aF.size;omega),ag6.o Hj⟩)
  refine FA ?_
  refine ve 0 (λx qB JW aS Hi Hj hJ hlen=>?_) ?_
  have aW:=jg hlen
  subst aW
  have fi:=fi.go Hi
  intro v0 d0
  obtain⟨bb,e6,CJ,fH⟩:=d0
  subst e6
  obtain⟨bO,aR⟩:=hJ
  obtain rfl:G2=JW:=bO.symm
  refine GQ (N:=w.heap.size) bh bf rfl rfl rfl rfl rfl rfl fH CJ fi aR.cC om λv9 CN G9 kt vE cP eu pW=>?_
  exact fe G9 cP eu (⟨kt,aR.out cP pW ⟨fN.1,fN.2.1,fN.2.2⟩ ⟨kt _ fN.1,kt _ fN.2.1,kt _ fN.2.2⟩ eu,vE⟩)
  refine FA ?_
  refine vf (λ_ _ _ _ _ _=>zi (i:=1) cz aL rfl rfl ((show 1<6 from om)) fv) ?_
  refine FA ?_
  refine vf (λ_ _ _ _ _ _=>zi (i:=2) cz aL rfl rfl ((show 2<6 from om)) fv) ?_
  refine FA ?_
  refine vf (λx qB JW aS Hi Hj=>?_) ?_
  refine kL bh bf rfl rfl rfl rfl ?_
  intro CN yD ag8 ag7
  exact ff yD (aJ.dK [nf,nx] ag8 (λhx=>by have:=Hj _ hx;omega))
  refine ve 1 (λx qB JW aS Hi Hj hJ hlen=>?_) ?_
  obtain⟨q0,aW⟩:=jh hlen
  subst aW
  intro Hk d13
  obtain⟨jU,aR,Hg⟩:=hJ
  refine JC bh bf rfl rfl rfl rfl rfl rfl Hg d13 aR.cC jU so λv9 CN jA cP eu pW=>?_
  exact fe G2 cP eu (⟨rfl,aR.out cP pW ⟨fN.1,fN.2.1,fN.2.2⟩ ⟨fN.1,fN.2.1,fN.2.2⟩ eu,jA⟩)
  exact trivial
  intro x NN ag9 aS Vu aoD hJ hlen
  obtain⟨q0,q1,aW⟩:=k9 hlen
  subst aW
  intro v0 d0
  intro Hk d13
  have dZ:=dZ.go Vu;have kf:=kf.go Vu
  change OW _ _ _ _ _ (bo (bj _ x _) (zZ 113 [_,_,_,_,_,_,_,_,_,_,_,_,_,_,_])) _
  obtain⟨bO,aR,rl⟩:=hJ
  obtain rfl:G2=ag9:=bO.symm
  refine zA<|aZ<|kH<|fR bh bf λag5 NO NP aoE=>?_
  have cR:=aR.cC
  have x4:=aR.kb.size
  refine ie NO aR dZ kf rl λaR dZ kf rl=>?_
  have uj:=NP.o cR
  refine zm<|GQ (N:=w.heap.size) bh bf rfl rfl rfl rfl rfl rfl uj om dZ aR.cC om λv9 aoF G9 kt vE cP eu pW=>?_
  have aR:=aR.out cP pW ⟨fN.1,fN.2.1,fN.2.2⟩ ⟨kt _ fN.1,kt _ fN.2.1,kt _ fN.2.2⟩ eu
  have kf:=kf.go cP;have rl:=rl.go cP
  refine zm<|zm<|kL bh bf rfl rfl rfl rfl λaoG aha ahb aoH=>ie aha kf rl vE aR λkf rl vE aR=>?_
  refine JC bh bf rfl rfl rfl rfl rfl rfl vE (aJ.dK [(cK cx (bm cx ag n)),(cK cx (bm cx ag (bm cx ag n+1)))] ahb (λhx=>by have:=eu _ hx;omega)) aR.cC kt (show(ρ.map Prod.snd).length+2<100000000 from om) λv10 aoI xh cP EH pW=>?_
  have aR:=aR.out cP pW ⟨fN.1,fN.2.1,fN.2.2⟩ ⟨fN.1,fN.2.1,fN.2.2⟩ EH
  have kf:=kf.go cP;have rl:=rl.go cP
  refine W ?_
  exact⟨(_,_),⟨rfl,rfl,rfl,rfl,rfl,rfl,rfl,rfl⟩,⟨kf,aR,by show bc G2 _ _ ((ρ++_).map Prod.fst);rw[List.map_append];exact rl,by show bc G2 _ _ ((ρ++_).map Prod.snd);rw[List.map_append];exact xh⟩⟩
  have rk:e.head≠gF:=λhh=>h4 (jd.trans hh)
  have sH:=agS ag n ba eJ rk
  have vG:=Vj eJ JU rk
  refine gY ?_
  exact⟨(_,_),⟨rfl,rfl,rfl,rfl,rfl,rfl,rfl,rfl⟩,⟨kf,by rw[sH.2,sH.1,show lJ [bJ e.head] [] e=e.au.ak from by rw[vG];simp[lJ]];exact aR,by rw[Vh ag ρ n rk];exact fi,by rw[Vh ag ρ n rk];exact dZ⟩⟩
  intro gu w7 e7 hI
  obtain⟨vf2,Cv⟩:=gu
  dsimp only at hI⊢
  obtain⟨kf,aR,fi,dZ⟩:=hI
  have aP:=aP.go kf;have aG:=aG.go kf;have cW:=cW.go kf
  refine jL<|zr<|zm<|zA<|aZ<|tj ?_
  refine eA (λk:Nat=>[(1,vf2),(2,Cv),(3,.pointer (some ⟨br,0,none⟩)),(4,.pointer (some ⟨w.heap.size,0,none⟩)),(8,.pointer (some ⟨w1.heap.size,0,none⟩)),(9,.pointer (some ⟨w4.heap.size,0,none⟩)),(11,.int .i64 ((e.from+e.kids.length:Nat):Int)),(15,.int .i64 ((e.from+k:Nat):Int))]) (λk ww=>Fr G2 w7 G2 ww∧iQ G2 w ww br ag ((ke ag (ja ag ρ n e) e (nF ag n e) k).2) gb w1.heap.size (.slice (some ⟨gb,0,none⟩) e.au.ak.length fP) (lJ (wZ ag n e) (ke ag (ja ag ρ n e) e (nF ag n e) k).1 e)∧k<=e.kids.length) (λk=>e.kids.length-k) (0) (⟨rfl,rfl,rfl,rfl,rfl,rfl,rfl,rfl⟩) (⟨Fr.refl _ _,aR,om⟩) ?_
  intro gg w8 e8 hI
  obtain⟨o8,aR,hk⟩:=hI
  have aP:=aP.go o8;have fi:=fi.go o8;have dZ:=dZ.go o8;have aG:=aG.go o8;have cW:=cW.go o8
  refine jL<|zr<|zm<|zm<|H8 rfl rfl rfl rfl rfl<|aZ<|zc rfl (λh5=>?_) (λh5=>?_)
  have gL:gg<e.kids.length:=om
  have qo:=qz gg gL
  obtain⟨b1,eX,gA,gm,e1,bK,cI⟩:=eW aP (i:=e.from+gg) om
  cases e1
  have cI:=cI.eq qo
  have ub:=F4 ba gL
  have fb:=Vg ag (ja ag ρ n e) e (nF ag n e) gg
  have A2:=Vn ag (ja ag ρ n e) e (nF ag n e) gg om
  have BI:=yw gL
  have kv:=agU ag ρ n eJ JU gL ob oF A2.2
  refine gY<|jL<|tj ?_
  apply jF dj G2 13 (rA 141 13) (rA 141 13) [[],[0],[],[],[3],[],[4,5],[6],[],[],[],(rA 7 4),[1,2]] [Ie.v _,Ie.v _,Ie.v _,Ie.v _,Ie.v _,Ie.v _,Ie.v _,Ie.v _,Ie.v _,Ie.v _,Ie.v _,Ie.e 0,Ie.v _] [11] [fun(G:List Nat) (vs:List Value) (ww:World)=>G=G2∧iQ G2 w ww br ag ((ke ag (ja ag ρ n e) e (nF ag n e) gg).2) gb w1.heap.size (.slice (some ⟨gb,0,none⟩) e.au.ak.length fP) (lJ (wZ ag n e) (ke ag (ja ag ρ n e) e (nF ag n e) gg).1 e),fun(G:List Nat) (vs:List Value) (ww:World)=>G=G2∧iQ G2 w ww br ag ((ke ag (ja ag ρ n e) e (nF ag n e) (gg+1)).2) gb w1.heap.size (.slice (some ⟨gb,0,none⟩) e.au.ak.length fP) (lJ (wZ ag n e) (ke ag (ja ag ρ n e) e (nF ag n e) gg).1 e)∧bB G2 ww (vs.getD 0 undef) (bH ag (fL e gg) (ja ag ρ n e) (ke ag (ja ag ρ n e) e (nF ag n e) gg).2).1.au] de rfl aR.cC (by exact trivial) (by exact⟨λG vs w w' ⟨h1,h2⟩ k=>⟨h1,h2.ext k⟩,λG vs w w' ⟨h1,h2,h3⟩ k=>⟨h1,h2.ext k,h3.ext k⟩,trivial⟩) (⟨rfl,aR⟩)
  refine vf (λ_ _ _ _ _ _=>zf jt rfl fv) ?_
  refine vf (λx w9 G9 aS cP mI=>?_) ?_
  have cW:=cW.go cP
  refine WZ ?_
  exact fv
  refine FA ?_
  refine ve 0 (λx w9 G9 aS cP mI hJ hlen=>?_) ?_
  have aW:=jg hlen
  subst aW
  have fi:=fi.go cP;have dZ:=dZ.go cP;have cI:=cI.go cP
  obtain⟨bO,aR⟩:=hJ
  obtain rfl:G2=G9:=bO.symm
  refine aA (ih (fL e gg) om om ub.1 (ja ag ρ n e) (ke ag (ja ag ρ n e) e (nF ag n e) gg).2 kv.1 kv.2 _ _ _ br G2 w9 cI fi dZ aR.rn aR.cC) ?_
  rintro CH cu ⟨⟨du,He⟩,aB⟩
  exact fe G2 (Fr.of aB aR.nL) ((λq hq=>lL (aR.cC q hq) aB.size)) (⟨rfl,aR.call He aB,du⟩)
  exact FZ
  intro x lK JX aS EI NQ hJ hlen
  obtain⟨q0,aW⟩:=jh hlen
  subst aW
  have o8:=o8.go EI
  change OW _ _ _ _ _ (bo (bj _ x _) (zZ 141 [_,_,_,_,_,_,_,_,_,_,_,_,_])) _
  obtain⟨bO,aR,du⟩:=hJ
  obtain rfl:G2=JX:=bO.symm
  obtain⟨a7,n7,c7,e7,_,_⟩:=cU du
  have e8:q0=_:=e7
  subst e8
  have zu:(lJ (wZ ag n e) (ke ag (ja ag ρ n e) e (nF ag n e) gg).1 e).set (e.from+gg) (bH ag (fL e gg) (ja ag ρ n e) (ke ag (ja ag ρ n e) e (nF ag n e) gg).2).1.au=lJ (wZ ag n e) (ke ag (ja ag ρ n e) e (nF ag n e) (gg+1)).1 e:=(by have:=Vk (pre:=(wZ ag n e)) (acc:=(ke ag (ja ag ρ n e) e (nF ag n e) gg).1) (e:=e) (y:=(bH ag (fL e gg) (ja ag ρ n e) (ke ag (ja ag ρ n e) e (nF ag n e) gg).2).1) om;rw[Vt,fb] at this;exact this)
  refine sR (i:=e.from+gg) (vs:=[str (bH ag (fL e gg) (ja ag ρ n e) (ke ag (ja ag ρ n e) e (nF ag n e) gg).2).1.au.aw,.slice a7 n7 c7]) (row:=(bH ag (fL e gg) (ja ag ρ n e) (ke ag (ja ag ρ n e) e (nF ag n e) gg).2).1.au.enc) aL rfl rfl rfl rfl (Nat.zero_add _) aR.own aR.cC aR.mem.1 (by rw[ia,Vl om,Vt];omega) rfl (oG _) (show bB G2 _ (.agg #[_,_]) _ from du).kj λoc iE rS dv=>?_
  rw[sU,zu] at dv
  have o8:=o8.aD iE aR.jb
  have aR:=aR.store iE dv
  refine W ?_
  exact⟨gg+1,⟨rfl,rfl,rfl,rfl,rfl,rfl,rfl,congrArg (Value.int .i64) om⟩,⟨o8,aR,om⟩,om⟩
  have fG:gg=e.kids.length:=by omega
  subst fG
  have fb:=Vg ag (ja ag ρ n e) e (nF ag n e) e.kids.length
  refine W ?_
  refine cJ aL rfl rfl rfl aR.bx rfl λw9 aB dh ld=>?_
  subst yA
  obtain⟨rU,rV,vF⟩:=aR.fin hG CG.mem aB
  rw[Vm fb,<-Vs.1] at rU
  rw[<-Vs.2] at rV
  refine W ?_
  exact⟨[_],fZ eU aL rfl dh rfl,⟨rU,rV⟩,vF⟩
theorem ahd (h:k<ps.length):jw (ps.take k)+fh (nth ps k)<=jw ps:=by
 have h1:=R8 (gh h)
 have h2:=UI (ps:=ps) (k+1)
 omega
theorem ahe:∀(m:Nat) (t:aq),t.size<=m->t.size<=1000000->WF t->∀(l:List ai),l.length+fh t<=100000->∀(v vl:Value) (g:Option Nat) (w:World),
  bB g.toList w v t->cG w 9 vl g l->
  bz Tryz.prog 106 [v,vl] w λr w'=>∃g',cG w' 9 r g' (kZ t l)∧Fr g.toList w g'.toList w':=by
 intro m
 induction m with
 |zero=>intro t h;have:=xR t;omega
 |succ m ih=>
  intro t hm lD cm l hl v vl g w hv fQ
  obtain⟨a,n,c,rfl,hn,aP⟩:=cU hv
  subst hn
  obtain⟨al,cl,rfl⟩:=jS fQ
  have pU:=fQ.lt
  have ow:=fQ.rs
  have hR:=Fr.refl g.toList w
  have nZ:=wm t
  refine bS [.tmp 4] 34 Tryz.func106 rfl Zd rfl rfl ?_
  refine zr<|eH rfl λw1 aI aU dk=>ie aI hR aP fQ ow λhR aP fQ ow=>?_
  refine W ?_
  refine zc rfl (λh1=>?_) (λh1=>?_)
  have hq:kZ t l=if t.aw∈l then l else l++[t.aw]:=by rw[Sn,iP h1]
  refine W ?_
  refine aA (AP l om t.aw _ _ w1 ow) ?_
  rintro _ w2 ⟨rfl,az⟩
  have dm:=az.size
  refine cN az hR fQ aU λhR fQ aU=>?_
  refine aZ<|zc rfl (λh2=>?_) (λh2=>?_)
  have tV:t.aw∈l:=h2
  refine W ?_
  exact⟨_,rfl,g,by rw[hq,iP tV];exact fQ,hR⟩
  have tV:¬t.aw∈l:=h2
  refine W ?_
  refine fc bh bf rfl rfl λw3 aH NR gJ=>bI aH hR fQ λhR fQ=>?_
  refine Ua bh bf rfl rfl rfl rfl rfl rfl fQ NR om λv5 g5 w4 kP aO pV=>?_
  have hR:=hR.go pV
  refine W ?_
  exact⟨_,rfl,g5,by rw[hq,iN tV];exact kP,hR⟩
  have hq:kZ t l=oR t.ak l:=(by rw[Sn,iN h1])
  have EJ:fh t=jw t.ak:=(by rw[LZ,iN h1])
  have aU:=aU.o pU
  refine W ?_
  refine eA (λq:Nat×Value×Option Nat=>[(1,q.2.1),(2,.pointer (some ⟨w.heap.size,0,none⟩)),(5,.int .i64 (q.1:Int))]) (λq w'=>Fr g.toList w q.2.2.toList w'∧Fr g.toList w1 q.2.2.toList w'∧cG w' 9 q.2.1 q.2.2 (oR (t.ak.take q.1) l)∧q.1<=t.ak.length) (λq=>t.ak.length-q.1) ((0,.slice al l.length cl,g)) (⟨rfl,rfl,rfl⟩) (⟨hR,Fr.refl _ _,fQ,sm⟩) λgg w2 e2 hI=>?_
  obtain⟨k,vl,gl⟩:=gg
  dsimp only at hI⊢
  obtain⟨hR,kq,fQ,hk⟩:=hI
  have aU:=aU.go kq;have aP:=aP.go kq
  refine W ?_
  refine zc rfl (λh3=>?_) (λh3=>?_)
  have gL:k<t.ak.length:=om
  obtain⟨b1,eX,gA,gm,e1,bK,cI⟩:=eW aP gL
  subst e1
  have cV:=kY gL
  have aR:=adY (gh gL) l
  have Ch:=Mn (t.ak.take k) l
  have Cp:=ahd gL
  refine WI ?_
  refine zi cz aL rfl rfl gL<|W ?_
  refine aA (ih (nth t.ak k) om om (cm.nth gL) _ om _ _ gl w2 cI fQ) ?_
  rintro NC w3 ⟨ND,JK,GZ⟩
  rw[<-aR] at JK
  refine W ?_
  exact⟨(k+1,NC,ND),⟨rfl,rfl,rfl⟩,⟨hR.go GZ,kq.go GZ,JK,by simp;omega⟩,by simp;omega⟩
  have fG:k=t.ak.length:=by omega
  subst fG
  refine W ?_
  exact⟨_,rfl,gl,by rw[hq,<-List.take_length (l:=t.ak)];exact fQ,hR⟩
theorem ahf (ee:Ex) (hn:ee.n<=120) (ba:ee.ok) (v:Value) (L:List Nat) (w:World) (lh:∀x,x∈L->x<w.heap.size) (hv:bB L w v ee.au):
  bz Tryz.prog 105 [v] w λr w'=>(∃tv,r= .tuple #[tv,.bool (ql ee).isSome]∧bB L w' tv (bH (cH ee [] []) ee [] 0).1.au)∧aj [] w w':=by
 have cO:=hv
 obtain⟨a,np,c,rfl,eV,aP⟩:=cU hv
 have mE:(cH ee [] []).length<=120:=by have:=Me ee [] [];simp at this;omega
 have EK:ee.n*((cH ee [] []).length+2)<=120*122:=Nat.mul_le_mul hn om
 have hK:=aj.refl [] w
 refine kW [.cell 2 78,.tmp 3] 23 Tryz.func105 rfl Zc rfl rfl rfl ?_
 refine zr<|eH rfl λw1 aI aX dk=>?_
 have hK:=hK.ext aI
 refine dx aL rfl rfl rfl λw2 az aU dC=>?_
 have hK:=hK.grow;have hK:=hK.ext az;have aX:=aX.grow;have aX:=aX.ext az
 refine W ?_
 refine fR bh bf λw3 aH cM oX=>cN aH hK aX aU λhK aX aU=>?_
 refine fR bh bf λw4 aO dh ld=>cN aO hK aX aU λhK aX aU=>?_
 have gJ:=hK.size
 refine aA (JH 120 ee hn om ba [] [] so so _ _ _ (some _) w4 (bB.ext (bB.fresh cO (by intro x hx;simp at hx;right;omega)) hK) (bQ.nil _ _ _) dh.kM) ?_
 rintro v9 w5 ⟨g9,cZ,cP⟩
 have o7:=cP.aF.size
 obtain⟨a9,c9,rfl⟩:=jS cZ
 have hK:=hK.since cP.aF (λx hx=>.inr (by simp at hx;omega))
 have aX:=aX.aF cP.aF so
 have aU:=aU.aF cP.aF so
 have fG:=cZ.lt
 have aoJ:=hK.size
 have Tj:=aX.lt
 have Tl:=aU.lt
 refine js (abu _ _ _ _ _) rfl rfl<|eH rfl λw6 bN iF kI=>ie bN hK aX aU cZ λhK aX aU cZ=>?_
 refine W ?_
 refine fR bh bf λw7 bW lI oX=>la bW hK aX aU cZ iF λhK aX aU cZ iF=>?_
 refine fR bh bf λw8 cE xi ld=>la cE hK aX aU cZ iF λhK aX aU cZ iF=>?_
 refine WZ ?_
 have ahg:∀q,q∈g9.toList->w.heap.size<=q:=(λq hq=>by rcases cP.mem q hq with h|h;(·simp at h;omega);(·omega))
 have iZ:=hK.size
 have ov:w5.heap.size<w8.heap.size:=iF.lt
 have ahh:∀q,q∈g9.toList->q≠w5.heap.size∧q≠w1.heap.size:=(λq hq=>⟨λh9=>by have:=fG q hq;omega,λh9=>by rcases cP.mem q hq with h|h;(·simp at h;omega);(·omega)⟩)
 refine aA (agV (cH ee [] []) om 120 ee hn om ba [] 0 so om _ _ _ w5.heap.size (w5.heap.size::w1.heap.size::L) w8 (bB.ext (bB.fresh cO (by intro q hq;simp at hq;rcases hq with h|h|h;(·right;omega);(·right;omega);(·exact .inl h))) hK) (bQ.nil _ _ _) (bQ.nil _ _ _) ⟨by simp,_,iF,cZ.rep (λq hq nY=>by have h1:=ahh q (by simp[hq]);rcases mC.1 nY with h|h;(·exact h1.1 h);(·rcases mC.1 h with h|h;(·exact h1.2 h);(·have h2:=lh q h;have h3:=ahg q (by simp[hq]);omega)))⟩ (by intro q hq;simp at hq;rcases hq with h|h|h;(·omega);(·omega);(·have:=lh q h;omega))) ?_
 rintro CK w9 ⟨⟨xj,rf⟩,mJ⟩
 have Vv:=mJ.size
 obtain⟨mL,mM,mN,rfl,_,_⟩:=cU xj
 obtain⟨_,aoK,iF,_⟩:=rf
 have hK:=hK.since mJ (λq hq=>.inr (by simp at hq;omega))
 have aX:=aX.aF mJ so
 have aU:=aU.aF mJ so
 refine dx aL rfl rfl rfl λcu cB cg Cg=>?_
 have hK:=hK.grow;have hK:=hK.ext cB;have aU:=aU.grow;have aU:=aU.ext cB;have iF:=iF.grow;have iF:=iF.ext cB;have xj:=xj.grow;have xj:=xj.ext cB
 refine cJ aL rfl rfl rfl cg rfl λeD dd cg vi=>?_
 have hK:=hK.aD dd sx;have aU:=aU.aD dd sx;have iF:=iF.aD dd sx;have xj:=xj.aD dd sx
 refine W ?_
 refine zB dj (cj w1.heap.size ([str (bH (cH ee [] []) ee [] 0).1.au.aw,.slice mL mM mN]) 78) 8 (rA 17 6++[100006,3]) (rA 17 6++[100006,3]) [[],[],[1],[2],[3],[4],[0],[5]] [λv _=>v=(.agg #[str (bH (cH ee [] []) ee [] 0).1.au.aw,.slice mL mM mN]),λv _=>v=(.pointer (some ⟨w5.heap.size,0,none⟩)),λv _=>v=(.pointer (some ⟨w5.heap.size,0,none⟩)),λv _=>v=(.pointer (some ⟨w5.heap.size,0+1,none⟩)),λv _=>v=(.int .i64 ((bH (cH ee [] []) ee [] 0).2:Int)),λv _=>v=(.bool (decide (((bH (cH ee [] []) ee [] 0).2:Int)<=100))),λ_ ww=>aJ ww w1.heap.size ([str (bH (cH ee [] []) ee [] 0).1.au.aw,.slice mL mM mN]).toArray 78,λv _=>v=(.bool (decide (((bH (cH ee [] []) ee [] 0).2:Int)<=100)))] de (fu (fu (fu (fu (fu (fu (DH (fu trivial)))))))) (λwd aC=>?_) ?_
 refine eh ?_ ?_
 intro x vs fA e di hd he
 replace di:=(cj w1.heap.size ([str (bH (cH ee [] []) ee [] 0).1.au.aw,.slice mL mM mN]) 78).trans aC di
 have cg:=cg.aD di.1 sx
 replace he:e=bo (bj _ x _) []:=he
 subst he
 refine W ?_
 exact dn ((cj w1.heap.size ([str (bH (cH ee [] []) ee [] 0).1.au.aw,.slice mL mM mN]) 78).refl _) rfl
 refine eh ?_ ?_
 intro x vs fA e di hd he
 replace di:=(cj w1.heap.size ([str (bH (cH ee [] []) ee [] 0).1.au.aw,.slice mL mM mN]) 78).trans aC di
 replace he:e=bo (bj _ x _) []:=he
 subst he
 refine W ?_
 exact dn ((cj w1.heap.size ([str (bH (cH ee [] []) ee [] 0).1.au.aw,.slice mL mM mN]) 78).refl _) rfl
 refine eh ?_ ?_
 intro x vs fA e di hd he
 have d1:vs 1=(.pointer (some ⟨w5.heap.size,0,none⟩)):=hd
 replace di:=(cj w1.heap.size ([str (bH (cH ee [] []) ee [] 0).1.au.aw,.slice mL mM mN]) 78).trans aC di
 replace he:e=bo (bj _ x _) [(18,vs 1)]:=he
 rw[d1] at he
 subst he
 refine W ?_
 exact dn ((cj w1.heap.size ([str (bH (cH ee [] []) ee [] 0).1.au.aw,.slice mL mM mN]) 78).refl _) rfl
 refine eh ?_ ?_
 intro x vs fA e di hd he
 have d2:vs 2=(.pointer (some ⟨w5.heap.size,0,none⟩)):=hd
 replace di:=(cj w1.heap.size ([str (bH (cH ee [] []) ee [] 0).1.au.aw,.slice mL mM mN]) 78).trans aC di
 replace he:e=bo (bj _ x _) [(19,vs 2)]:=he
 rw[d2] at he
 subst he
 refine W ?_
 exact dn ((cj w1.heap.size ([str (bH (cH ee [] []) ee [] 0).1.au.aw,.slice mL mM mN]) 78).refl _) rfl
 refine eh ?_ ?_
 intro x vs fA e di hd he
 have d3:vs 3=(.pointer (some ⟨w5.heap.size,0+1,none⟩)):=hd
 replace di:=(cj w1.heap.size ([str (bH (cH ee [] []) ee [] 0).1.au.aw,.slice mL mM mN]) 78).trans aC di
 have iF:=iF.aD di.1 sx
 replace he:e=bo (bj _ x _) [(20,vs 3)]:=he
 rw[d3] at he
 subst he
 refine W ?_
 exact dn ((cj w1.heap.size ([str (bH (cH ee [] []) ee [] 0).1.au.aw,.slice mL mM mN]) 78).refl _) rfl
 refine eh ?_ ?_
 intro x vs fA e di hd he
 have d4:vs 4=(.int .i64 ((bH (cH ee [] []) ee [] 0).2:Int)):=hd
 replace di:=(cj w1.heap.size ([str (bH (cH ee [] []) ee [] 0).1.au.aw,.slice mL mM mN]) 78).trans aC di
 replace he:e=bo (bj _ x _) [(21,vs 4)]:=he
 rw[d4] at he
 subst he
 refine W ?_
 exact dn ((cj w1.heap.size ([str (bH (cH ee [] []) ee [] 0).1.au.aw,.slice mL mM mN]) 78).refl _) rfl
 refine eh ?_ ?_
 intro x vs fA e di hd he
 have d0:vs 0=(.agg #[str (bH (cH ee [] []) ee [] 0).1.au.aw,.slice mL mM mN]):=hd
 replace di:=(cj w1.heap.size ([str (bH (cH ee [] []) ee [] 0).1.au.aw,.slice mL mM mN]) 78).trans aC di
 obtain⟨us,vm,vq⟩:=di.2.2 ⟨_,(by rfl),aU⟩
 replace he:e=bo (bj _ x _) [(17,vs 0)]:=he
 rw[d0] at he
 subst he
 refine cJ aL rfl rfl rfl vq (by rw[vm];rfl) λjB gv hb Hl=>W ?_
 exact dn ⟨gv,λ_=>hb,λ_=>⟨_,rfl,hb⟩⟩ hb
 refine eh ?_ ?_
 intro x vs fA e di hd he
 have d5:vs 5=(.bool (decide (((bH (cH ee [] []) ee [] 0).2:Int)<=100))):=hd
 replace di:=(cj w1.heap.size ([str (bH (cH ee [] []) ee [] 0).1.au.aw,.slice mL mM mN]) 78).trans aC di
 replace he:e=bo (bj _ x _) [(22,vs 5)]:=he
 rw[d5] at he
 subst he
 refine W ?_
 exact dn ((cj w1.heap.size ([str (bH (cH ee [] []) ee [] 0).1.au.aw,.slice mL mM mN]) 78).refl _) rfl
 exact trivial
 intro x vs lg kK dP
 have d0:vs 0=(.agg #[str (bH (cH ee [] []) ee [] 0).1.au.aw,.slice mL mM mN]):=dP 0 de
 have d1:vs 1=(.pointer (some ⟨w5.heap.size,0,none⟩)):=dP 1 de
 have d2:vs 2=(.pointer (some ⟨w5.heap.size,0,none⟩)):=dP 2 de
 have d3:vs 3=(.pointer (some ⟨w5.heap.size,0+1,none⟩)):=dP 3 de
 have d4:vs 4=(.int .i64 ((bH (cH ee [] []) ee [] 0).2:Int)):=dP 4 de
 have d5:vs 5=(.bool (decide (((bH (cH ee [] []) ee [] 0).2:Int)<=100))):=dP 5 de
 have d6:aJ lg w1.heap.size ([str (bH (cH ee [] []) ee [] 0).1.au.aw,.slice mL mM mN]).toArray 78:=dP 6 de
 have d7:vs 7=(.bool (decide (((bH (cH ee [] []) ee [] 0).2:Int)<=100))):=dP 7 de
 have hK:=hK.aD kK.1 sx;have xj:=xj.aD kK.1 sx
 have aU:=d6
 change OW _ _ _ _ [] (bo (bj _ x _) (zZ 17 [vs 0,vs 1,vs 2,vs 3,vs 4,vs 5]++[(100006,vs 6),(3,vs 7)])) _
 rw[d0,d1,d2,d3,d4,d5,d7]
 refine W ?_
 exact⟨[_,_],⟨fZ eU aL rfl aU rfl,rfl⟩,⟨_,congrArg (λb=>Value.tuple #[_,.bool b]) (show decide (((bH (cH ee [] []) ee [] 0).2:Int)<=100)=(ql ee).isSome from by unfold ql;by_cases h:(bH (cH ee [] []) ee [] 0).2<=100;(·rw[iP h];exact dT om);(·rw[iN h];exact dF om)),xj.gP (λx hx=>by simp[hx])⟩,hK⟩
def t5:yi:=⟨140,9,78⟩
theorem ahi (ag:List ai) (n:Nat) (hn:n<=100000) (hb:ag.length<=10000) (b:Nat) (E G:List Nat) (aK:List ai) (exprs:List aq) (w:World) (h:M5 t5 E G w b ag n aK exprs):
  bz Tryz.prog 176 [.pointer (some ⟨b,0,none⟩)] w λr w'=>(r=str (cK cy (bm cy ag n))∧M5 t5 E G w' b ag (bm cy ag n+1) aK exprs)∧aj [b] w w':=by
 have NH:=ED cy ag n
 obtain⟨vt,vn,ve,gn,ge,bg,hS⟩:=h
 have bg:aJ w b [vt,.int .i64 (n:Int),vn,ve].toArray 140:=bg
 refine bS [.tmp 2] 26 Tryz.func176 rfl Z5 rfl rfl ?_
 refine W ?_
 refine eA (λk:Nat=>[(0,.pointer (some ⟨b,0,none⟩))]) (λk w'=>aj [b] w w'∧aJ w' b [vt,.int .i64 (k:Int),vn,ve].toArray 140∧iz t5 E G w' b vt vn ve gn ge ag aK exprs∧n<=k∧bm cy ag k=bm cy ag n) (λk=>bm cy ag n+1-k) n rfl (⟨aj.refl _ _,bg,hS,lR _,rfl⟩) λgg w1 e1 hI=>?_
 obtain⟨hK,bg,hS,hk,hq⟩:=hI
 have hle:=(nU cy ag gg).1
 refine W ?_
 refine aA (ir (gg+1) gg om om w1) ?_
 rintro _ w2 ⟨rfl,az⟩
 have dm:=az.size
 refine cN az hK bg hS λhK bg hS=>?_
 refine gV rfl rfl rfl rfl (by have:=Ej _ gg (lR _);simp;omega)<|W ?_
 refine gd (o:=1) oI rfl rfl rfl bg rfl λw3 aH bg df=>?_
 have hS:=hS.aF aH sm
 have hK:=hK.trans aH
 refine W ?_
 refine aA (AP ag om (cK cy gg) _ _ w3 hS.ta) ?_
 rintro _ w4 ⟨rfl,aO⟩
 have fE:=aO.size
 refine cN aO hK bg hS λhK bg hS=>?_
 refine kx rfl rfl rfl<|aZ<|zc rfl (λh1=>?_) (λh1=>?_)
 have my:cK cy gg∉ag:=(by simpa using h1)
 have Hb:bm cy ag n=gg:=hq.symm.trans (Sh my)
 refine W ?_
 exact⟨_,rfl,⟨by rw[Hb];rfl,_,_,_,_,_,by rw[Hb];exact bg,hS⟩,hK⟩
 have my:cK cy gg∈ag:=(by simpa using h1)
 have hfs:=Sg my
 have TJ:=(nU cy ag (gg+1)).1
 refine WZ ?_
 exact⟨gg+1,rfl,⟨hK,bg,hS,om,om⟩,om⟩
section
variable {τ:yi} {E G:List Nat} {w w':World} {b:Nat} {vt vn ve:Value} {gn ge:Option Nat} {ag aK:List ai} {exprs:List aq}
theorem iz.A5 (h:iz τ E G w b vt vn ve gn ge ag aK exprs) {ys:List aq} (hy:dH (ge.toList++(g.toList++(E++G))) w' τ.T 2 v g (cT ys)) (k:aj (b::ge.toList) w w') (hg:g=ge∨∃x,g=some x∧w.heap.size<=x):
  ∃G',iz τ E G' w' b vt vn v gn g ag aK ys∧Fr G w G' w'∧∀x,x∈G'->x∈ge.toList++(g.toList++(E++G)):=by
 obtain⟨a1,a2,a3,a4⟩:=h.apart
 have o5:∀x,x∈g.toList->x∈ge.toList∨w.heap.size<=x:=λx hx=>by
  rcases hg with rfl|⟨y,rfl,hy⟩
  ·exact .inl hx
  ·right;simp at hx;omega
 have nM:b∈G:=h.mem.2 (.inl rfl)
 have hF:Fr G w (b::(gn.toList++g.toList)) w':=⟨k.mono λx hx=>by
  rcases mC.1 hx with rfl|hx
  ·exact nM
  ·exact h.mem.2 (by simp[hx]),λx hx=>by
  rcases mC.1 hx with rfl|hx
  ·exact .inl nM
  ·rcases mA.1 hx with hx|hx
   ·exact .inl (h.mem.2 (by simp[hx]))
   ·rcases o5 x hx with h1|h1
    ·exact .inl (h.mem.2 (by simp[h1]))
    ·exact .inr h1⟩
 have dU:∀x,x∈E++G->x<w.heap.size:=h.cC
 have hN:(E++b::(gn.toList++g.toList)).Nodup:=T7 a1 a2 a3 (λx hx=>by
  rcases o5 x hx with h1|h1
  ·exact a4 x h1
  ·exact⟨λhe=>by have:=dU x (by simp[he]);omega,λe=>by have:=dU x (mR _ (h.mem.2 (.inl e)));omega,λe=>by have:=dU x (mR _ (h.mem.2 (by simp[e])));omega⟩)
 have rI:∀x,x∈b::(gn.toList++g.toList)->x∈ge.toList++(g.toList++(E++G)):=λx hx=>by
  rw[mA,mA,mA]
  rcases mC.1 hx with rfl|hx
  ·exact .inr (.inr (.inr nM))
  ·rcases mA.1 hx with hx|hx
   ·exact .inr (.inr (.inr (h.mem.2 (by simp[hx]))))
   ·simp[hx]
 refine⟨_,⟨h.ta.go (hF.in E),h.na.aF k (λx hx hy=>?_),hy.sub λx hx=>.inl ?_,rfl,hN,λx hx=>?_⟩,hF,rI⟩
 ·rcases mC.1 hy with rfl|hy
  ·exact(a3 x (by simp[hx])).2 rfl
  ·exact(a4 x hy).2.2 (by simp[hx])
 ·rcases mA.1 hx with hx|hx
  ·simp[hx]
  ·exact rI x hx
 ·have hs:=k.size
  rcases mA.1 hx with hx|hx
  ·exact lL (h.cC x (by simp[hx])) hs
  ·rcases mC.1 hx with rfl|hx
   ·exact lL (h.cC x (mR _ nM)) hs
   ·rcases mA.1 hx with hx|hx
    ·exact lL (h.cC x (mR _ (h.mem.2 (by simp[hx])))) hs
    ·exact hy.lt x hx
theorem iz.alloc (h:iz τ E G w b vt vn ve gn ge ag aK exprs) (k:aj [] w w') (hz:w'.heap.size=w.heap.size+1):iz τ (w.heap.size::E) G w' b vt vn ve gn ge ag aK exprs:=by
 have hF:∀x,x∈(w.heap.size::E)++G->x∈E++G∨w.heap.size<=x:=λx hx=>by
  rcases mC.1 (show x∈w.heap.size::(E++G) from hx) with h1|h1
  ·right;omega
  ·exact .inl h1
 refine⟨(h.ta.fresh hF).ext k,h.na.ext k,(h.ex.sub hF).any k,h.eG,?_,λx hx=>?_⟩
 ·show(w.heap.size::(E++G)).Nodup
  rw[List.nodup_cons]
  exact⟨λhx=>by have:=h.cC _ hx;omega,h.nd⟩
 ·rcases mC.1 (show x∈w.heap.size::(E++G) from hx) with h1|h1
  ·omega
  ·have:=h.cC x h1;omega
theorem iz.aD (h:iz τ E G w b vt vn ve gn ge ag aK exprs) (k:aj [x] w w') (hx:x∈E):iz τ E G w' b vt vn ve gn ge ag aK exprs:=by
 obtain⟨a1,a2,a3,a4⟩:=h.apart
 have hF:Fr (E++G) w (E++G) w':=Fr.of k λy hy=>List.mem_append_left _ (by simp at hy;subst hy;exact hx)
 exact⟨h.ta.go hF,h.na.aF k (λy hy wh=>(a3 y (by simp[hy])).1 (by simp at wh;subst wh;exact hx)),h.ex.aF hF k (λy hy wh=>(a4 y hy).1 (by simp at wh;subst wh;exact hx)),h.eG,h.nd,λy hy=>lL (h.cC y hy) k.size⟩
theorem iz.drop (h:iz τ (x::E) G w b vt vn ve gn ge ag aK exprs):iz τ E G w b vt vn ve gn ge ag aK exprs:=
 ⟨h.ta.fresh λy hy=>.inl (mK _ hy),h.na,h.ex.sub λy hy=>.inl (mK _ hy),h.eG,(List.nodup_cons.1 (show(x::(E++G)).Nodup from h.nd)).2,λy hy=>h.cC y (mK _ hy)⟩
theorem M5.open (h:M5 τ E G w b ag n aK exprs):∃vt vn ve gn ge,aJ w b [vt,.int .i64 (n:Int),vn,ve].toArray τ.M∧iz τ E G w b vt vn ve gn ge ag aK exprs:=h
theorem M5.bG (h:M5 τ E G w b ag n aK exprs):b∈G∧b<w.heap.size∧eO (E++G) w:=by
 obtain⟨_,_,_,_,_,h1,h2⟩:=h
 exact⟨h2.mem.2 (.inl rfl),h1.lt,h2.cC⟩
theorem M5.nE (h:M5 τ E G w b ag n aK exprs) (hx:x∈E):x∉G:=by
 obtain⟨_,_,_,_,_,_,h2⟩:=h
 have:=h2.nd
 rw[List.nodup_append] at this
 exact λhg=>this.2.2 x hx x hg rfl
theorem M5.alloc (h:M5 τ E G w b ag n aK exprs) (k:aj [] w w') (hz:w'.heap.size=w.heap.size+1):M5 τ (w.heap.size::E) G w' b ag n aK exprs:=by
 obtain⟨vt,vn,ve,gn,ge,h1,h2⟩:=h
 exact⟨vt,vn,ve,gn,ge,h1.ext k,h2.alloc k hz⟩
theorem M5.aD (h:M5 τ E G w b ag n aK exprs) (k:aj [x] w w') (hx:x∈E):M5 τ E G w' b ag n aK exprs:=by
 obtain⟨vt,vn,ve,gn,ge,h1,h2⟩:=h
 exact⟨vt,vn,ve,gn,ge,h1.aF k (by simp;intro e;subst e;exact h2.apart.2.1 hx),h2.aD k hx⟩
theorem M5.drop (h:M5 τ (x::E) G w b ag n aK exprs):M5 τ E G w b ag n aK exprs:=by
 obtain⟨vt,vn,ve,gn,ge,h1,h2⟩:=h
 exact⟨vt,vn,ve,gn,ge,h1,h2.drop⟩
end
theorem dH.form {T:TypeId} (h:dH L w T sz v g rows) (hp:0<rows.length):∃b cap,v= .slice (some ⟨b,0,none⟩) rows.length cap∧g=some b:=by
 obtain⟨xs,hx,_⟩:=h.own
 rcases hx.2 with⟨_,h0,_⟩|⟨b,cap,_,e,hv,_⟩
 ·omega
 ·exact⟨b,cap,hv,e⟩
theorem dH.NS {T:TypeId} (h:dH L w T 2 (.slice (some ⟨b,0,none⟩) n c) g (cT ts)) (hi:i<ts.length):
  ∃pa pc,fS w b (0+i*2) [str (nth ts i).aw,.slice pa (nth ts i).ak.length pc]∧bB L w (.agg #[str (nth ts i).aw,.slice pa (nth ts i).ak.length pc]) (nth ts i):=by
 obtain⟨xs,dv,gB⟩:=h.own
 rcases dv.2 with⟨h0,_⟩|⟨b',cap,cur,e,hv,hb,ml,lU,bZ,ht⟩
 ·cases h0
 ·cases hv
  have gZ:=h.row
  have hlen:xs.length=(cT ts).length*2:=dv.1
  have jc:∀j,j<2->∀u,xs[i*2+j]?=some u->w.cell? ⟨b,i*2+j,none⟩=some u:=λj hj u hu=>by
   rw[hb.cell]
   rw[<-ht,List.getElem?_take] at hu
   split at hu
   ·simpa using hu
   ·cases hu
  have lN:i<(cT ts).length:=by rw[ia];exact hi
  obtain⟨u0,h0⟩:∃u,xs[i*2]?=some u:=⟨xs[i*2]'om,gE om⟩
  obtain⟨u1,h1⟩:∃u,xs[i*2+1]?=some u:=⟨xs[i*2+1]'om,gE om⟩
  have hr:cS L w [u0,u1] (nth ts i).enc:=by
   have iy:=oG (nth ts i)
   refine cS.of (by rw[iy];rfl) λj v c hv hc=>?_
   have mE:(cT ts).flatten[i*2+j]?=some c:=Fl gZ (Lh (gh hi)) hc
   refine gB.get ?_ mE
   match j,hv with
   |0,hv=>simp at hv;subst hv;exact h0
   |1,hv=>simp at hv;subst hv;exact h1
  obtain⟨pa,pn,pc,he,hn,hp⟩:=cU (t:=nth ts i) ⟨[u0,u1],rfl,hr⟩
  have ij:[u0,u1]=[str (nth ts i).aw,.slice pa pn pc]:=by
   have:=congrArg (λv=>match v with|Value.agg x=>x.toList|_=>[]) he
   simpa using this
  subst hn
  simp only[List.cons.injEq,and_true] at ij
  obtain⟨e0,e1⟩:=ij
  subst e0 e1
  refine⟨pa,pc,λj v hj=>?_,kV hp⟩
  match j,hj with
  |0,hj=>simp at hj;subst hj;have:=jc 0 om _ h0;simpa using this
  |1,hj=>simp at hj;subst hj;have:=jc 1 om _ h1;simpa using this
theorem cG.NS {T:TypeId} (h:cG w T (.slice (some ⟨b,0,none⟩) n c) g xs) (hi:i<xs.length):fS w b (0+i*1) [str (bX xs i)]:=by
 obtain⟨b1,eX,e1,hc⟩:=pB h.rs (km hi)
 cases e1
 exact hc
theorem cG.ahj {T:TypeId} (h:cG w T v g xs) (hp:0<xs.length):∃b cap,v= .slice (some ⟨b,0,none⟩) xs.length cap∧g=some b:=by cases h.2<;>grind
def Vw:Value->Nat->Value
 | .slice (some ⟨b,o,none⟩) _ _,k=>.pointer (some ⟨b,o+k,none⟩)
 |_,_=>undef
section
variable {P:Program} {n:Nat} {ops:Array Oper} {K:Env->World->Prop} {rest:List Oper} {e:Env} {w:World} {dst:Option Nat} {ty:TypeId} {pos:String} {after:Array Edge} {g:Option (Nat×Bool)} {x y:Operand}
theorem rW {v:Value} {gb:Option Nat} {xs:List ai} {s:ai} {b U:Nat} (hT:P.underlying t=some (.slice E)) (hE:TI P E 1 bytes z) (hg:gate ops e g=true) (hd:bV n dst=true) (hz:Nat.beq z.cells.size 1=true) (fK:Nat.ble bytes 1000=true) 
  (hx:ev e x=v) (hy:ev e y= .slice (some ⟨b,0,none⟩) 1 1) (hO:cG w E v gb xs) (hb:aJ w b [str s].toArray U) (hn:xs.length<100000000)
  (k:∀v' g' w',cG w' E v' g' (xs++[s])->aj gb.toList w w'->(g'=gb∨g'=some w.heap.size)->OW P n ops K rest (bM e dst v') w'):
  OW P n ops K (⟨dst,.call {callee:=.builtin .append,args:=#[x,y],argTypes:=#[t,t]},ty,pos,after,g⟩::rest) e w:=by
 refine Cu (L:=[]) (row:=[.val (str s)]) hT hE hg hd hz fK hx hy (hO.T4 _) rfl hb.all (by simp[Value.oneCell']) ⟨.val _,trivial⟩ (by rw[qb];exact hn) ?_
 intro v' g' w' iU hk kz
 rw[T5] at iU
 exact k v' g' w' iU.uR hk.aF kz
theorem Vx {G:List Nat} {v:Value} {gb:Option Nat} {ts:List aq} {b:Nat} {U c:Nat} (hT:P.underlying t=some (.slice E)) (hE:TI P E 2 bytes z) (hg:gate ops e g=true) (hd:bV n dst=true) (hz:Nat.beq z.cells.size 2=true) (fK:Nat.ble bytes 1000=true) 
  (hx:ev e x=v) (hy:ev e y= .slice (some ⟨b,0,none⟩) 1 c) (hO:dH G w E 2 v gb (cT ts)) (hG:eO G w) (oh:∀q,q∈gb.toList->q∈G) (hb:aJ w b [str [],.slice none 0 0].toArray U) (hn:ts.length<100000000)
  (k:∀v' g' w',dH (gb.toList++(g'.toList++G)) w' E 2 v' g' (cT (ts++[.mk [] []]))->aj gb.toList w w'->(g'=gb∨g'=some w.heap.size)->Fr G w (gb.toList++(g'.toList++G)) w'->eO (gb.toList++(g'.toList++G)) w'->OW P n ops K rest (bM e dst v') w'):
  OW P n ops K (⟨dst,.call {callee:=.builtin .append,args:=#[x,y],argTypes:=#[t,t]},ty,pos,after,g⟩::rest) e w:=by
 refine Cu (L:=G) (row:=(aq.mk [] []).enc) hT hE hg hd hz fK hx hy (hO.sub λq hq=>.inl ?_) (oG _) hb.all (by simp[Value.oneCell']) (bB.kj (kU oH)) (by rw[ia];exact hn) ?_
 ·rcases mA.1 hq with h|h
  ·exact oh q h
  ·exact h
 ·intro v' g' w' iU hk kz
  have e1:cT ts++[(aq.mk [] []).enc]=cT (ts++[.mk [] []]):=by rw[Lg];rfl
  rw[e1] at iU
  have o5:∀q,q∈g'.toList->q∈gb.toList∨w.heap.size<=q:=λq hq=>by
   rcases kz with h|h
   ·rw[h] at hq;exact .inl hq
   ·rw[h] at hq;simp at hq;right;omega
  refine k v' g' w' iU hk.aF kz ⟨hk.aF.mono oh,λq hq=>?_⟩ λq hq=>?_
  ·rcases mA.1 hq with h|h
   ·exact .inl (oh q h)
   ·rcases mA.1 h with h|h
    ·rcases o5 q h with h|h
     ·exact .inl (oh q h)
     ·exact .inr h
    ·exact .inl h
  ·have hs:=hk.aF.size
   rcases mA.1 hq with h|h
   ·exact lL (hG q (oh q h)) hs
   ·rcases mA.1 h with h|h
    ·exact iU.lt q h
    ·exact lL (hG q h) hs
end
structure J5 (τ:yi) (E G2:List Nat) (w0:World) (b:Nat) (vt n vn ve:Value) (ge:Option Nat) (exprs:List aq) (s:aq) (b9 CP:Bool) (G:List Nat) (v:Value) (w:World):Prop where
 box:aJ w b [vt,n,vn,if CP=true then v else ve].toArray τ.M
 cC:eO G w
 aF:aj (b::ge.toList) w0 w
 ex:∃g',G=ge.toList++(g'.toList++(E++G2))∧dH G w τ.T 2 v g' (cT (exprs++[if b9=true then s else .mk [] []]))∧(g'=ge∨∃x,g'=some x∧w0.heap.size<=x)
section
variable {τ:yi} {E G2:List Nat} {w0 w w':World} {b:Nat} {vt n vn ve:Value} {ge:Option Nat} {exprs:List aq} {s:aq} {b9 CP:Bool} {G:List Nat} {v:Value}
theorem J5.ext (h:J5 τ E G2 w0 b vt n vn ve ge exprs s b9 CP G v w) (k:aj [] w w'):J5 τ E G2 w0 b vt n vn ve ge exprs s b9 CP G v w':=
 ⟨h.box.ext k,λx hx=>lL (h.cC x hx) k.size,h.aF.ext k,let⟨g',h1,h2,h3⟩:=h.ex;⟨g',h1,h2.any k,h3⟩⟩
theorem J5.form (h:J5 τ E G2 w0 b vt n vn ve ge exprs s b9 CP G v w):∃bb cap,v= .slice (some ⟨bb,0,none⟩) (exprs.length+1) cap∧(bb∈G)∧(bb∈ge.toList∨w0.heap.size<=bb)∧G=ge.toList++([bb]++(E++G2))∧dH G w τ.T 2 v (some bb) (cT (exprs++[if b9=true then s else .mk [] []]))∧(some bb=ge∨∃x,some bb=some x∧w0.heap.size<=x):=by
 obtain⟨g',h1,h2,h3⟩:=h.ex
 obtain⟨bb,cap,e1,e2⟩:=h2.form (by rw[ia];simp)
 subst e2
 refine⟨bb,cap,by rw[e1,ia];simp,by rw[h1];simp,?_,h1,h2,h3⟩
 rcases h3 with h|⟨x,h,hx⟩
 ·left;rw[<-h];simp
 ·cases h;exact .inr hx
theorem J5.fill {bb:Nat} (h:J5 τ E G2 w0 b vt n vn ve ge exprs s false CP G v w) (hG:G=ge.toList++([bb]++(E++G2))) (hb:b≠bb) (fH:bb∈ge.toList∨w0.heap.size<=bb) (hg:some bb=ge∨∃x,some bb=some x∧w0.heap.size<=x) (k:aj [bb] w w') (ho:dH G w' τ.T 2 v (some bb) (cT (exprs++[s]))):J5 τ E G2 w0 b vt n vn ve ge exprs s true CP G v w':=
 ⟨h.box.aF k (by simpa using hb),λx hx=>lL (h.cC x hx) k.size,h.aF.since k (λx hx=>by
  simp at hx;subst hx
  rcases fH with h|h
  ·exact .inl (by simp only[mC];right;exact h)
  ·exact .inr h),some bb,hG,by simpa using ho,hg⟩
theorem J5.field (h:J5 τ E G2 w0 b vt n vn ve ge exprs s b9 false G v w) (k:aj [b] w w') (hb:aJ w' b [vt,n,vn,v].toArray τ.M) (ho:∀g',dH G w τ.T 2 v g' (cT (exprs++[if b9=true then s else .mk [] []]))->(g'=ge∨∃x,g'=some x∧w0.heap.size<=x)->b∉g'.toList) (nM:b∈G):J5 τ E G2 w0 b vt n vn ve ge exprs s b9 true G v w':=
 ⟨by simpa using hb,λx hx=>lL (h.cC x hx) k.size,h.aF.since k (λx hx=>by simp at hx;subst hx;exact .inl sm),let⟨g',h1,h2,h3⟩:=h.ex;⟨g',h1,h2.aF (Fr.of k (by simpa using nM)) k (λx hx hy=>by simp at hy;subst hy;exact ho g' h2 h3 hx),h3⟩⟩
end
def yE (ag:List ai) (e:Ex) (n:Nat) (aK:List ai) (exprs:List aq):Prop:=n+e.n*(2*(ag.length+2))<=100000∧aK.length+4*e.n<=100000∧exprs.length+4*e.n<=100000∧ag.length<=10000
def JY (ag:List ai) (E G:List Nat) (b:Nat) (aK:List ai) (exprs:List aq) (w:World) (q:Bs×Ex×Nat) (r:Value) (w':World):Prop:=
 ∃G',(bB (E++G') w' r q.2.1.au∧M5 t5 E G' w' b ag q.2.2 (aK++q.1.map Prod.fst) (exprs++q.1.map λp=>p.2.au))∧Fr G w G' w'
def NT (e:Ex):Prop:=∀(ag:List ai) (n:Nat) (aK:List ai) (exprs:List aq),yE ag e n aK exprs->∀(E G:List Nat) (b:Nat) (v:Value) (w:World),M5 t5 E G w b ag n aK exprs->bB (E++G) w v e.au->
 bz Tryz.prog 143 [.pointer (some ⟨b,0,none⟩),v] w (JY ag E G b aK exprs w (aY ag e n))
def ahk (e:Ex):Prop:=∀(ag:List ai) (n:Nat) (aK:List ai) (exprs:List aq),yE ag e n aK exprs->∀(E G:List Nat) (b:Nat) (v:Value) (w:World),M5 t5 E G w b ag n aK exprs->bB (E++G) w v e.au->
 bz Tryz.prog 168 [.pointer (some ⟨b,0,none⟩),v] w (JY ag E G b aK exprs w (dB ag (aY ag e n)))
theorem NU {ag:List ai}:∀{e:Ex} {n:Nat} {s:ai},e.ok->(aY ag e n).2.1= .at s->s≠[]
 | .at x,n,s,h,e=>by
  have:Ex.at x=Ex.at s:=e
  cases this
  exact pD h
 | .lt x a b,n,s,h,e=>NU (e:=b) h.2.2 e
 | .un ..,n,s,h,e=>by cases e
 | .bi ..,n,s,h,e=>by cases e
 | .ite ..,n,s,h,e=>by cases e
 | .fn ..,n,s,h,e=>by cases e
theorem Vy {f:Ex} (h:∀s,f= .at s->s≠[]):f.au.aw≠[]↔f.iv=true:=by
 cases f with
 |«at» s=>exact⟨λ_=>rfl,λ_=>h s rfl⟩
 |_=>exact⟨λhh=>absurd rfl hh,λhh=>by cases hh⟩
theorem JZ (ag:List ai) (e:Ex) (n:Nat):(aY ag e n).1.length+1<=2*e.n:=by
 have h1:=uY ag e n
 have h2:∀bs:Bs,3*bs.length<=pH bs:=by
  intro bs
  induction bs with
  |nil=>simp[pH]
  |cons p bs ih=>rw[Sq];have:=p.2.pos;simp only[lC];omega
 have h3:=h2 (aY ag e n).1
 have h4:=(aY ag e n).2.1.pos
 omega
theorem Vz (ba:e.ok) (hC:NT e):ahk e:=by
 intro ag n aK exprs hB E G b v w hM hv
 have cO:=hv
 obtain⟨a,np,c,rfl,hn,aP⟩:=cU hv
 obtain⟨Jn,NV,NW,J0⟩:=hB
 have J1:=ic ag e n
 have NX:=JZ ag e n
 have hK:=aj.refl [] w
 have av:=hM
 have hT:=cO
 obtain⟨q,hq⟩:∃q,q=aY ag e n:=⟨_,rfl⟩
 rw[<-hq] at J1 NX
 refine kW [.cell 4 78] 39 Tryz.func168 rfl Z1 rfl rfl rfl ?_
 refine zr<|eH rfl λw1 aI cQ dk=>cN aI hK av hT λhK av hT=>?_
 refine dx aL rfl rfl rfl λw2 az aG dC=>?_
 have hK:=hK.grow;have hK:=hK.ext az;have av:=av.alloc az dC;have hT:=hT.grow;have hT:=hT.ext az;have cQ:=cQ.grow;have cQ:=cQ.ext az
 refine W ?_
 refine aA (hC ag n aK exprs ⟨Jn,NV,NW,J0⟩ (w1.heap.size::E) G b _ w2 av hT) ?_
 rintro v9 w3 ⟨G1,⟨du,qC⟩,cP⟩
 rw[<-hq] at du qC
 obtain⟨a9,n9,c9,e9,_,_⟩:=cU du
 subst e9
 have aG:=aG.aF cP.aF (av.nE sm)
 have ahl:=aG.lt
 have hR:Fr G w G1 w3:=(Fr.of hK sm).go cP
 have A6:=aj.refl [] w3
 have av:=qC
 have hws:=hR.aF.size
 refine dx aL rfl rfl rfl λw4 aO cg gQ=>?_
 have av:=av.alloc aO gQ;have aG:=aG.grow;have aG:=aG.ext aO;have A6:=A6.grow;have A6:=A6.ext aO;have du:=du.grow;have du:=du.ext aO
 refine cJ aL rfl rfl rfl cg rfl λw5 aN cg ig=>?_
 have av:=av.aD aN sx;have aG:=aG.aD aN sx;have A6:=A6.aD aN sx;have du:=du.aD aN sx
 refine W ?_
 refine zc rfl (λh1=>?_) (λh1=>?_)
 have eJ:q.2.1.iv=true:=((Vy (λs e=>NU ba (by rw[<-hq];exact e))).1 h1)
 have NY:dB ag q=q:=iP eJ
 have hR:=hR.ext A6
 refine W ?_
 refine cJ aL rfl rfl rfl aG rfl λw6 bN aG df=>?_
 have av:=av.aD bN sm;have du:=du.aD bN sm
 have hR:Fr G w G1 w6:=⟨hR.aF.since bN (λx hx=>.inr (by simp at hx;omega)),hR.mem⟩
 refine W ?_
 exact⟨[_],fZ eU aL rfl aG rfl,by rw[<-hq,NY];exact⟨G1,⟨du.gP (λx hx=>mK _ (mK _ hx)),av.drop.drop⟩,hR⟩⟩
 have eJ:¬q.2.1.iv=true:=(λhh=>h1 ((Vy (λs e=>NU ba (by rw[<-hq];exact e))).2 hh))
 have NY:dB ag q=(q.1++[(cK cy (bm cy ag q.2.2),q.2.1)],.at (cK cy (bm cy ag q.2.2)),bm cy ag q.2.2+1):=iN eJ
 have hR:=hR.ext A6
 have aQ:∃nm,nm=cK cy (bm cy ag q.2.2):=⟨_,rfl⟩
 obtain⟨nm,eK⟩:=aQ
 have aQ:∃x,x=aK++q.1.map Prod.fst:=⟨_,rfl⟩
 obtain⟨N1,CQ⟩:=aQ
 have aQ:∃x,x=exprs++q.1.map λp=>p.2.au:=⟨_,rfl⟩
 obtain⟨X1,CR⟩:=aQ
 rw[<-CQ,<-CR] at av
 have VB:N1.length=aK.length+q.1.length:=by rw[CQ];simp
 have hXl:X1.length=exprs.length+q.1.length:=by rw[CR];simp
 refine gY<|zr<|zm<|aA (ahi ag q.2.2 om J0 b _ G1 N1 X1 w5 av) ?_
 rintro A7 w6 ⟨⟨EL,qC⟩,jJ⟩
 rw[<-eK] at EL
 subst EL
 have nM:=qC.bG
 have VC:=qC.nE (x:=w1.heap.size) sm
 have du:=du.aD jJ (by intro x hx;simp at hx;subst hx;simp[nM.1])
 have aG:=aG.aF jJ (by simp;intro e;subst e;exact VC nM.1)
 have J2:=qC.nE (List.mem_cons_self ..)
 have cg:=cg.aF jJ (by simp;intro e;exact J2 (e▸nM.1))
 have hR:=hR.aD jJ (by simpa using nM.1)
 obtain⟨vt,vn,ve,gn,ge,bg,hS⟩:=qC.open
 refine W ?_
 refine fc bh bf rfl rfl λw7 bW rX oX=>tS bW aG du cg bg hS hR λaG du cg bg hS hR=>?_
 refine rW bh bf rfl rfl rfl rfl rfl rfl hS.na rX om λVD g23 w8 VE cE ahn=>?_
 obtain⟨o9,pd,Hm⟩:=jS VE
 subst Hm
 obtain⟨J3,xk,xl,sV⟩:=hS.apart
 obtain⟨G2,fB,jq⟩:=hS.T8 VE cE ahn
 have bg:=bg.aF cE (λh=>(xl b h).2 rfl)
 have aG:=aG.aF cE (λh=>(xl _ h).1 sm)
 have cg:=cg.aF cE (λh=>(xl _ h).1 sm)
 have du:bB ((w3.heap.size::w1.heap.size::E)++G2) w8 _ q.2.1.au:=bB.go (L:=(w3.heap.size::w1.heap.size::E)++G1) du (jq.in _)
 have hR:=hR.go jq
 have xm:b∈G2:=fB.mem.2 (.inl rfl)
 refine W ?_
 refine gd (o:=2) mu rfl rfl rfl bg rfl λw9 aB bg df=>?_
 have hS:=fB.aF aB sm
 have aG:=aG.aF aB (by simp;intro e;subst e;exact xk sm)
 have cg:=cg.aF aB (by simp;intro e;exact xk (by simp[e]))
 have du:=du.aD aB (by intro x hx;simp at hx;subst hx;simp[xm]);have hR:=hR.aD aB (by simpa using xm)
 have aho:=(List.nodup_cons.1 (show(w3.heap.size::((w1.heap.size::E)++G2)).Nodup from hS.nd)).1
 have hS:=hS.drop
 have du:bB ((w1.heap.size::E)++G2) w9 _ q.2.1.au:=du.gP (λx hx=>mK _ hx)
 refine W ?_
 obtain⟨ae,ce,e5⟩:=hS.ex.len
 subst e5
 have cg:dM ((w1.heap.size::E)++G2) w9 _ _ _:=⟨cg,aho⟩
 have bg:aJ w9 b [vt,(.int .i64 ((bm cy ag q.2.2+1:Nat):Int)),(.slice o9 (N1++[nm]).length pd),(.slice ae (cT X1).length ce)].toArray 140:=bg
 have CS:eO ((w1.heap.size::E)++G2) w9:=hS.cC
 have dX:b∈G2:=xm
 obtain⟨J3,xk,xl,sV⟩:=hS.apart
 have iq:=bg.lt
 apply SK dj (((w1.heap.size::E)++G2)) 13 (rA 26 9++[100009,35,36,100012]) (rA 26 9++[100009,35,36,100012]) [[],[0],[1],[2],[],[3],[],[3,6],[5,7],[4,8],[0],[10],[7,11]] [Iu.v _,Iu.v _,Iu.v _,Iu.w 0 ((.slice ae (cT X1).length ce)),Iu.v _,Iu.v _,Iu.p (fun(G:List Nat) (v:Value) (ww:World)=>∃bb,v= .slice (some ⟨bb,0,none⟩) 1 1∧dM G ww bb [str [],.slice none 0 0].toArray 78),Iu.e 1,Iu.d (fun(vs:List Value)=>Vw (vs.getD 1 undef) ((cT X1).length*2)),Iu.u,Iu.v _,Iu.v _,Iu.u] [3,7] [fun(G:List Nat) (vs:List Value) (ww:World)=>G=((w1.heap.size::E)++G2)∧aJ ww b [vt,(.int .i64 ((bm cy ag q.2.2+1:Nat):Int)),(.slice o9 (N1++[nm]).length pd),(.slice ae (cT X1).length ce)].toArray 140∧aj [] w9 ww,fun(G:List Nat) (vs:List Value) (ww:World)=>G=((w1.heap.size::E)++G2)∧aJ ww b [vt,(.int .i64 ((bm cy ag q.2.2+1:Nat):Int)),(.slice o9 (N1++[nm]).length pd),(.slice ae (cT X1).length ce)].toArray 140∧aj [] w9 ww,fun(G:List Nat) (vs:List Value) (ww:World)=>J5 t5 (w1.heap.size::E) G2 w9 b vt (.int .i64 ((bm cy ag q.2.2+1:Nat):Int)) (.slice o9 (N1++[nm]).length pd) (.slice ae (cT X1).length ce) ge X1 q.2.1.au false false G (vs.getD 1 undef) ww] (fun(S:Nat->Bool) (G:List Nat) (vs:List Value) (ww:World)=>J5 t5 (w1.heap.size::E) G2 w9 b vt (.int .i64 ((bm cy ag q.2.2+1:Nat):Int)) (.slice o9 (N1++[nm]).length pd) (.slice ae (cT X1).length ce) ge X1 q.2.1.au (S 9) (S 12) G (vs.getD 1 undef) ww) de rfl CS (by exact⟨λG v w G' w' ⟨bb,e,h⟩ k=>⟨bb,e,h.go k⟩,trivial⟩) (by exact⟨λG vs w w' ⟨h1,h2,h3⟩ k=>⟨h1,h2.ext k,h3.ext k⟩,λG vs w w' ⟨h1,h2,h3⟩ k=>⟨h1,h2.ext k,h3.ext k⟩,λG vs w w' h k=>h.ext k,trivial⟩) (by exact λS G vs w w' h k=>h.ext k) (⟨rfl,bg,aj.refl _ _⟩) (by exact λ_ _ _ h _=>h)
 refine uf (λx cu mO aS pX ma=>?_) ?_
 refine WZ ?_
 exact uv
 refine uf (λx cu mO aS pX ma=>?_) ?_
 refine WZ ?_
 exact uv
 refine uf (λx cu mO aS pX ma=>?_) ?_
 refine WZ ?_
 exact uv
 refine ue 0 (λx cu mO aS pX ma hJ hlen=>?_) ?_
 have aW:=jg hlen
 subst aW
 obtain⟨bO,bg,bP⟩:=hJ
 refine WZ ?_
 exact uW mO (Fr.refl _ _) ma (⟨bO,bg,bP⟩)
 refine uf (λx cu mO aS pX ma=>?_) ?_
 have cg:=cg.go pX
 refine WZ ?_
 exact uv
 refine uf (λx cu mO aS pX ma=>?_) ?_
 refine WZ ?_
 exact uv
 refine uf (λx cu mO aS pX ma=>?_) ?_
 refine fc cz aL rfl rfl λeD dd ahp vi=>?_
 exact up dd (⟨_,rfl,ahp.o ma⟩)
 refine ue 1 (λx cu mO aS pX ma hJ hlen=>?_) ?_
 obtain⟨q0,aW⟩:=jh hlen
 subst aW
 intro v6 d6
 obtain⟨bb,e6,fH⟩:=d6
 subst e6
 obtain⟨bO,bg,bP⟩:=hJ
 subst bO
 refine Vx cz aL rfl rfl rfl rfl rfl rfl (hS.ext bP).ex ‹_› (λx hx=>mR _ (hS.mem.2 (by simp[hx]))) fH.gX om λv9 g9 eD cZ aB eZ cP eu=>?_
 exact uE _ cP eu (⟨bg.aF aB (λh=>(sV b h).2.1 rfl),eu,bP.any.trans (aB.mono (λx hx=>mK _ hx)),g9,rfl,cZ,eZ.imp id (λh=>⟨_,h,bP.size⟩)⟩)
 refine ud (λx cu mO aS S pX ma hJ hlen=>?_) ?_
 obtain⟨q0,q1,aW⟩:=k9 hlen
 subst aW
 obtain⟨bb,cap,e1,rY,rH,jU,hO,vB⟩:=J5.form hJ
 have e2:q1=_:=e1
 subst e2
 refine zi cz aL rfl rfl (by rw[ia];omega) ?_
 exact uD (aj.refl _ _) rfl
 refine uu (λx cu mO aS S pX ma hJ CT hlen=>?_) ?_
 obtain⟨q0,q1,aW⟩:=k9 hlen
 subst aW
 have du:=du.go pX
 have hJ:J5 t5 (w1.heap.size::E) G2 w9 b vt (.int .i64 ((bm cy ag q.2.2+1:Nat):Int)) (.slice o9 (N1++[nm]).length pd) (.slice ae (cT X1).length ce) ge X1 q.2.1.au (S 9) (S 12) mO q1 cu:=hJ
 rw[CT] at hJ
 obtain⟨bb,cap,e1,rY,rH,jU,hO,vB⟩:=J5.form hJ
 subst e1
 refine sR (i:=(cT X1).length) (vs:=[str q.2.1.au.aw,.slice a9 n9 c9]) (row:=q.2.1.au.enc) aL rfl rfl rfl rfl (Nat.zero_add _) hO ‹_› rY (by rw[ia,ia];simp) rfl (oG _) du.kj λeD dd rS dv=>?_
 rw[sU,ia] at dv
 exact uU mO (Fr.of dd (by simpa using rY)) ((λx hx=>lL (ma x hx) (aj.size dd))) (J5.fill hJ jU (by rintro rfl;rcases rH with h|h;(·exact(sV _ h).2.1 rfl);(·omega)) rH vB dd (by have e3:(X1++[if false=true then q.2.1.au else aq.mk [] []]).set X1.length q.2.1.au=X1++[q.2.1.au]:=sm;rw[e3] at dv;exact dv))
 refine uf (λx cu mO aS pX ma=>?_) ?_
 refine WZ ?_
 exact uv
 refine uf (λx cu mO aS pX ma=>?_) ?_
 refine WZ ?_
 exact uv
 refine uu (λx cu mO aS S pX ma hJ CT hlen=>?_) ?_
 obtain⟨q0,q1,aW⟩:=k9 hlen
 subst aW
 have hJ:J5 t5 (w1.heap.size::E) G2 w9 b vt (.int .i64 ((bm cy ag q.2.2+1:Nat):Int)) (.slice o9 (N1++[nm]).length pd) (.slice ae (cT X1).length ce) ge X1 q.2.1.au (S 9) (S 12) mO q1 cu:=hJ
 rw[CT] at hJ
 obtain⟨bb,cap,e1,rY,rH,Hn,hO,vB⟩:=J5.form hJ
 subst e1
 have NZ:=hJ.box
 refine gd (o:=3) DM rfl rfl rfl NZ rfl λeD dd CU rS=>?_
 exact uU mO (Fr.of dd (by rw[Hn];simp[dX])) ((λx hx=>lL (ma x hx) (aj.size dd))) (J5.field hJ dd CU (λg9 _ eZ hx=>by rcases eZ with h|⟨y,h,hy⟩;(·rw[h] at hx;exact(sV _ hx).2.1 rfl);(·rw[h] at hx;simp at hx;omega)) (by rw[Hn];simp[dX]))
 exact trivial
 intro x oc JR aS yB Vq hJ hlen
 obtain⟨q0,q1,aW⟩:=k9 hlen
 subst aW
 intro v6 d6
 intro v9
 intro v12
 change OW _ _ _ _ [] (bo (bj _ x _) (zZ 26 [_,_,_,_,_,_,_,_,_]++[(100009,_),(35,_),(36,_),(100012,_)])) _
 have hJ:J5 t5 (w1.heap.size::E) G2 w9 b vt (.int .i64 ((bm cy ag q.2.2+1:Nat):Int)) (.slice o9 (N1++[nm]).length pd) (.slice ae (cT X1).length ce) ge X1 q.2.1.au true true JR q1 oc:=hJ
 obtain⟨g9,jU,cZ,eZ⟩:=hJ.ex
 subst jU
 obtain⟨G3,yF,jo,VF⟩:=hS.A5 cZ hJ.aF eZ
 have aG:=aG.aF hJ.aF (by intro hx;rcases mC.1 hx with h|h;(·exact xk (by simp[h]));(·exact(sV _ h).1 sm))
 have hR:=hR.go jo
 have bg:=hJ.box
 have yF:=yF
 refine aZ<|zr<|zm<|aA (AQ nm oc) ?_
 rintro _ oe ⟨rfl,lE⟩
 have aoM:=lE.size
 refine ie lE aG yF bg hR λaG yF bg hR=>?_
 refine cJ aL rfl rfl rfl aG rfl λlg kK aG df=>?_
 have bg:=bg.aF kK (by simp;intro e;exact xk (by simp[e]))
 have yF:=yF.aD kK sm
 have hR:Fr G w G3 lg:=⟨hR.aF.since kK (λx hx=>.inr (by simp at hx;omega)),hR.mem⟩
 refine W ?_
 exact⟨[_],fZ eU aL rfl aG rfl,by rw[<-hq,NY];exact⟨G3,⟨(by rw[eK];exact kU oH),(by have e1:aK++(q.1++[(cK cy (bm cy ag q.2.2),q.2.1)]).map Prod.fst=N1++[nm]:=(by rw[CQ,eK];simp);have e2:exprs++(q.1++[(cK cy (bm cy ag q.2.2),q.2.1)]).map (λp=>p.2.au)=X1++[q.2.1.au]:=(by rw[CR];simp);show M5 t5 E G3 _ b ag _ (aK++(q.1++[(cK cy (bm cy ag q.2.2),q.2.1)]).map Prod.fst) (exprs++(q.1++[(cK cy (bm cy ag q.2.2),q.2.1)]).map (λp=>p.2.au));rw[e1,e2];exact⟨_,_,_,_,_,bg,yF.drop⟩)⟩,hR⟩⟩
theorem ahq (v:Value) (a:Option Addr) (n c:Nat) (hv:v= .slice a n c) (w:World):bz Tryz.prog 144 [v] w λr w'=>r= .agg #[str [],.slice a n c]∧aj [] w w':=by
 subst hv
 have hK:=aj.refl [] w
 refine kW [.cell 2 78] 5 Tryz.func144 rfl ZM rfl rfl rfl ?_
 refine zr<|dx aL rfl rfl rfl λw1 aI aU dk=>?_
 have hK:=hK.grow;have hK:=hK.ext aI
 refine aZ<|zr<|zm<|js (Lm _ _ _ _) rfl rfl<|cJ aL rfl rfl rfl aU rfl λw2 az aU dC=>?_
 have hK:=hK.aD az sx
 refine W ?_
 exact⟨[_],fZ eU aL rfl aU rfl,rfl,hK⟩
def ahr (e:Ex):Prop:=∀(ag:List ai) (n:Nat) (aK:List ai) (exprs:List aq),yE ag e n [] []->∀(E G:List Nat) (b:Nat) (v:Value) (w:World),M5 t5 E G w b ag n aK exprs->bB (E++G) w v e.au->
 bz Tryz.prog 107 [.pointer (some ⟨b,0,none⟩),v] w λr w'=>(bB (E++G) w' r (mv ag e n).au∧M5 t5 E G w' b ag (aY ag e n).2.2 aK exprs)∧Fr G w G w'
theorem ahs {bs:Bs} (h:k<bs.length):(nest (bs.drop k) e).au= .mk [] [bJ fV,bJ (bs.getD k ([],e)).1,(bs.getD k ([],e)).2.au,(nest (bs.drop (k+1)) e).au]:=by
 rw[List.drop_eq_getElem_cons h]
 have e1:bs.getD k ([],e)=bs[k]:=by simp[h]
 rw[e1];rfl
theorem aht {e:Ex} (h:k<bs.length):bX (bs.map Prod.fst) k=(bs.getD k ([],e)).1:=by simp[bX,List.getD,h]
theorem ahu {e:Ex} (h:k<bs.length):nth (bs.map λp=>p.2.au) k=(bs.getD k ([],e)).2.au:=by simp[nth,List.getD,h]
theorem ahv {T:TypeId} {u1 u2 u3 u4 u5 u6 u7 u8:Value} {t1 t2 t3 t4:aq} (hb:aJ w b [u1,u2,u3,u4,u5,u6,u7,u8].toArray T) (hL:b∉L) (h1:bB L w (.agg #[u1,u2]) t1) (h2:bB L w (.agg #[u3,u4]) t2) (h3:bB L w (.agg #[u5,u6]) t3) (h4:bB L w (.agg #[u7,u8]) t4):
  eM L w (.slice (some ⟨b,0,none⟩) 4 4) [t1,t2,t3,t4]:=by
 have hc:=hb.all
 refine Ym b 0 4 2 (cT [t1,t2,t3,t4]) [[u1,u2],[u3,u4],[u5,u6],[u7,u8]] rfl (lR 4) hb.lt hL (YZ _) (λi vs hi=>?_) λi vs row hi hr=>?_
 ·intro j v hj
  match i,hi with
  |0,hi=>simp at hi;subst hi;have:=hc j v (by match j,hj with|0,hj=>simpa using hj|1,hj=>simpa using hj);simpa using this
  |1,hi=>simp at hi;subst hi;have:=hc (2+j) v (by match j,hj with|0,hj=>simpa using hj|1,hj=>simpa using hj);simpa using this
  |2,hi=>simp at hi;subst hi;have:=hc (4+j) v (by match j,hj with|0,hj=>simpa using hj|1,hj=>simpa using hj);simpa using this
  |3,hi=>simp at hi;subst hi;have:=hc (6+j) v (by match j,hj with|0,hj=>simpa using hj|1,hj=>simpa using hj);simpa using this
 ·match i,hi with
  |0,hi=>simp at hi;subst hi;simp[cT] at hr;subst hr;exact h1.kj
  |1,hi=>simp at hi;subst hi;simp[cT] at hr;subst hr;exact h2.kj
  |2,hi=>simp at hi;subst hi;simp[cT] at hr;subst hr;exact h3.kj
  |3,hi=>simp at hi;subst hi;simp[cT] at hr;subst hr;exact h4.kj
theorem J4 (ba:e.ok) (hC:NT e):ahr e:=by
 intro ag n aK exprs hB E G b v w hM hv
 have cO:=hv
 obtain⟨a,np,c,rfl,hn,aP⟩:=cU hv
 have hB0:=hB
 obtain⟨Jn,NV,NW,J0⟩:=hB
 have J1:=ic ag e n
 have NX:=JZ ag e n
 have hK:=aj.refl [] w
 have av:=hM
 have hT:=cO
 obtain⟨q,hq⟩:∃q,q=aY ag e n:=⟨_,rfl⟩
 rw[<-hq] at J1 NX
 refine kW [.cell 4 78] 66 Tryz.func107 rfl Ze rfl rfl rfl ?_
 refine zr<|eH rfl λw1 aI cQ dk=>bI aI hK av λhK av=>?_
 refine dx aL rfl rfl rfl λw2 az aG dC=>?_
 have hK:=hK.grow;have hK:=hK.ext az;have av:=av.alloc az dC;have cQ:=cQ.grow;have cQ:=cQ.ext az
 refine W ?_
 obtain⟨vt,vn,ve,gn,ge,bg,hS⟩:=av.open
 obtain⟨an,cn,jK⟩:=jS hS.na
 subst jK
 obtain⟨ae,ce,B9⟩:=hS.ex.len
 subst B9
 obtain⟨J3,xk,xl,sV⟩:=hS.apart
 have nM:b∈G:=hS.mem.2 (.inl rfl)
 have iq:=bg.lt
 have CV:=hS
 have mG:=hK
 have N0:=aj.refl [] w2
 have ahl:=aG.lt
 have Hc:=aG
 have Ho:bB ((w1.heap.size::E)++G) w2 _ e.au:=bB.ext (bB.fresh cO (by intro x hx;rcases mC.1 (show x∈w1.heap.size::(E++G) from hx) with h|h;(·right;omega);(·exact .inl h))) mG
 have aoN:=dk
 have aoO:=dC
 have VG:w.heap.size≠b:=(by have:=hM.bG.2.1;omega)
 have J6:w1.heap.size≠b:=(by have:=hM.bG.2.1;omega)
 have Jj:=hM.bG.2.1
 refine W ?_
 refine fR bh bf λw3 aH jW gJ=>ie aH bg N0 cQ aG λbg N0 cQ aG=>?_
 refine W ?_
 refine gd (o:=2) mu rfl rfl rfl bg rfl λw4 aO bg df=>?_
 have pY:aj [b] w2 w4:=(aj.any N0).trans aO
 have jW:=jW.aF aO so
 have aG:=aG.aF aO (by simpa using J6)
 have cQ:=cQ.aF aO (by simpa using VG)
 refine aZ<|zr<|zm<|fR cz aL λw5 aN rX ig=>ie aN bg cQ aG jW λbg cQ aG jW=>?_
 refine W ?_
 refine gd (o:=3) DM rfl rfl rfl bg rfl λw6 bN bg df=>?_
 have pY:aj [b] w2 w6:=(pY.ext aN).trans bN
 have jW:=jW.aF bN so
 have rX:=rX.aF bN so
 have aG:=aG.aF bN (by simpa using J6)
 have cQ:=cQ.aF bN (by simpa using VG)
 refine W ?_
 have bg:aJ w6 b [vt,.int .i64 (n:Int),.slice (some ⟨w2.heap.size,0,none⟩) 0 0,.slice (some ⟨w4.heap.size,0,none⟩) 0 0].toArray 140:=bg
 obtain⟨hSo,_,_,aoP⟩:=CV.opened pY jW rX (lR _) om
 have av:M5 t5 (gn.toList++(ge.toList++(w1.heap.size::E))) [b,w2.heap.size,w4.heap.size] w6 b ag n [] []:=⟨_,_,_,_,_,bg,hSo⟩
 have hTP:bB ((gn.toList++(ge.toList++(w1.heap.size::E)))++[b,w2.heap.size,w4.heap.size]) w6 _ e.au:=Ho.go ⟨pY.mono (by intro x hx;simp at hx;subst hx;simp[nM]),by intro x hx;rcases mA.1 hx with h|h;(·left;rcases mA.1 h with h|h;(·exact mR _ (CV.mem.2 (by simp[h])));(·rcases mA.1 h with h|h;(·exact mR _ (CV.mem.2 (by simp[h])));(·exact List.mem_append_left _ h)));(·simp at h;rcases h with h|h|h;(·left;simp[h,nM]);(·right;omega);(·right;omega))⟩
 refine aA (hC ag n [] [] hB0 (gn.toList++(ge.toList++(w1.heap.size::E))) [b,w2.heap.size,w4.heap.size] b _ w6 av hTP) ?_
 rintro v27 w7 ⟨G2,⟨pe,av⟩,N2⟩
 rw[<-hq,List.nil_append,List.nil_append] at av
 rw[<-hq] at pe
 obtain⟨a9,n9,c9,e9,_,_⟩:=cU pe
 subst e9
 have pY:=pY.since N2.aF (by intro x hx;simp at hx;rcases hx with h|h|h;(·left;simp[h]);(·right;omega);(·right;omega))
 have aG:=aG.aF N2.aF so
 have ahz:∀x,x∈G2->x=b∨w2.heap.size<=x:=(by intro x hx;have h1:=pY.size;rcases N2.mem x hx with h|h;(·simp at h;omega);(·right;omega))
 have hzw:=pY.size
 refine dx aL rfl rfl rfl λw8 cE cM ld=>?_
 have aG:=aG.grow;have aG:=aG.ext cE;have av:=av.alloc cE ld;have pe:=pe.grow;have pe:=pe.ext cE;have pY:=pY.grow;have pY:=pY.ext cE
 refine cJ aL rfl rfl rfl cM rfl λw9 aB cM df=>?_
 have aG:=aG.aD aB sx;have av:=av.aD aB sx;have pe:=pe.aD aB sx;have pY:=pY.aD aB sx
 refine W ?_
 obtain⟨vt3,vn3,ve3,gn3,ge3,bg,hS⟩:=av.open
 obtain⟨an3,cn3,ahA⟩:=jS hS.na
 subst ahA
 obtain⟨ae3,ce3,ahB⟩:=hS.ex.len
 subst ahB
 have oF:(q.1.map Prod.fst).length=q.1.length:=by simp
 have mm:(q.1.map λp=>p.2.au).length=q.1.length:=by simp
 have ao1:(cT (q.1.map λp=>p.2.au)).length=q.1.length:=by rw[ia];exact mm
 refine W ?_
 have II:b<w7.heap.size∧w2.heap.size<=w7.heap.size:=(by constructor<;>omega)
 refine eA (λk:Nat=>[(0,.pointer (some ⟨b,0,none⟩)),(4,.pointer (some ⟨w1.heap.size,0,none⟩)),(5,.slice an aK.length cn),(6,.slice ae (cT exprs).length ce),(7,.pointer (some ⟨w7.heap.size,0,none⟩)),(8,.int .i64 ((k:Int)-1))]) (λk w'=>aj [w7.heap.size] w9 w'∧k<=q.1.length∧∃a n c,aJ w' w7.heap.size [str (nest (q.1.drop k) q.2.1).au.aw,.slice a n c].toArray 78∧bB (w7.heap.size::((gn.toList++(ge.toList++(w1.heap.size::E)))++G2)) w' (.agg #[str (nest (q.1.drop k) q.2.1).au.aw,.slice a n c]) (nest (q.1.drop k) q.2.1).au) (λk=>k) q.1.length (⟨rfl,rfl,rfl,rfl,rfl,congrArg (λz:Nat=>Value.int .i64 ((z:Int)-1)) oF⟩) (⟨aj.refl _ _,lR _,a9,n9,c9,by rw[List.drop_length];exact cM,by rw[List.drop_length];exact pe⟩) λgg cu fo hI=>?_
 obtain⟨iR,hk,a7,n7,c7,cM,pe⟩:=hI
 have N3:b≠w7.heap.size:=(by have:=II;omega)
 have bg:=bg.aF iR (by simpa using N3)
 have hS:=hS.aD iR (List.mem_cons_self ..)
 have pY:=pY.since iR (λx hx=>.inr (by rw[List.mem_singleton.1 hx];exact II.2))
 refine W ?_
 refine zc rfl (λh1=>?_) (λh1=>?_)
 have aQ:∃k,gg=k+1:=⟨gg-1,om⟩
 obtain⟨k,rfl⟩:=aQ
 have hi:((k+1:Nat):Int)-1=(k:Int):=by omega
 rw[hi]
 obtain⟨bn,capn,e1,o5⟩:=hS.na.ahj om
 cases e1
 obtain⟨be,cape,e2,oC⟩:=hS.ex.form om
 cases e2
 have hcN:=hS.na.NS (i:=k) om
 obtain⟨pa,pc,hcE,N4⟩:=hS.ex.NS (i:=k) om
 refine WZ ?_
 apply uZ dj 19 (rA 38 19) (rA 38 19) [[],[],[1],[2],[3],[],[4,5],[6],[7],[],[9],[10],[11],[],[12,13],[14],[],[0,8,15,16],[17]] [It.v _,It.v _,It.v _,It.v _,It.v _,It.v _,It.v _,It.v _,It.v _,It.v _,It.v _,It.v _,It.v _,It.v _,It.v _,It.v _,It.v _,It.p (fun(v:Value) (ww:World)=>∃bb,v= .slice (some ⟨bb,0,none⟩) 4 4∧eM (w7.heap.size::((gn.toList++(ge.toList++(w1.heap.size::E)))++G2)) ww v [bJ fV,bJ (bX (q.1.map Prod.fst) k),(nth (q.1.map λp=>p.2.au) k),(nest (q.1.drop (k+1)) q.2.1).au]),It.p (fun(v:Value) (ww:World)=>∃a n c,v= .agg #[str [],.slice a n c]∧bB (w7.heap.size::((gn.toList++(ge.toList++(w1.heap.size::E)))++G2)) ww v (.mk [] [bJ fV,bJ (bX (q.1.map Prod.fst) k),(nth (q.1.map λp=>p.2.au) k),(nest (q.1.drop (k+1)) q.2.1).au]))] de (by exact⟨λv w w' ⟨bb,e,h⟩ k=>⟨bb,e,h.ext k⟩,λv w w' ⟨a,n,c,e,h⟩ k=>⟨a,n,c,e,h.ext k⟩,trivial⟩)
 intro wd aC
 refine vk aC (λx eD dd=>?_) ?_
 refine aA (AQ _ eD) ?_
 rintro _ fA ⟨rfl,di⟩
 have EM:=di.size
 exact pk di
 refine vc (λ_ _ _=>WZ pv) ?_
 refine vk aC (λx eD dd=>?_) ?_
 refine WZ ?_
 exact pv
 refine vc (λ_ _ _=>WZ pv) ?_
 refine vk aC (λx eD dd=>?_) ?_
 have bg:=bg.ext dd
 refine WZ ?_
 exact pv
 refine vc (λ_ _ _=>WZ pv) ?_
 refine VA ?_
 refine vk aC (λx eD dd=>?_) ?_
 refine aA (AQ _ eD) ?_
 rintro _ fA ⟨rfl,di⟩
 have EM:=di.size
 exact pk di
 refine vc (λ_ _ _=>WZ pv) ?_
 refine vk aC (λx eD dd=>?_) ?_
 refine WZ ?_
 exact pv
 refine vc (λ_ _ _=>WZ pv) ?_
 refine vk aC (λx eD dd=>?_) ?_
 have bg:=bg.ext dd
 refine WZ ?_
 exact pv
 refine vc (λ_ _ _=>WZ pv) ?_
 refine VA ?_
 refine vk aC (λx eD dd=>?_) ?_
 refine cN dd pe hS N4 λpe hS N4=>?_
 have cR:=hS.cC
 refine sL [.tmp 38,.tmp 46,.tmp 53,.tmp 54] [[str fV,.slice none 0 0],[str (bX (q.1.map Prod.fst) k),.slice none 0 0],[str (nth (q.1.map λp=>p.2.au) k).aw,.slice pa (nth (q.1.map λp=>p.2.au) k).ak.length pc],[str (nest (q.1.drop (k+1)) q.2.1).au.aw,.slice a7 n7 c7]] cz aL rfl rfl rfl rfl rfl rfl rfl rfl rfl λfA di CD ao4=>?_
 exact pf di (⟨_,rfl,ahv CD (λhx=>by have:=cR _ hx;omega) (kU oH) (kU oH) (N4.ext di) (pe.ext di)⟩)
 refine vk aC (λx eD dd=>?_) ?_
 intro jC d17
 obtain⟨bb,rZ,J7⟩:=d17
 refine aA (ahq jC _ _ _ rZ eD) ?_
 rintro _ fA ⟨rfl,di⟩
 have EM:=di.size
 have J7:=eM.ext J7 di
 rw[rZ] at J7
 exact pf di (⟨_,_,_,rfl,kU J7⟩)
 exact trivial
 intro x oe lE
 intro jC d17
 intro xo d18
 refine bI lE iR cM λiR cM=>?_
 change OW _ _ _ _ _ (bo (bj _ x _) (zZ 38 [_,_,_,_,_,_,_,_,_,_,_,_,_,_,_,_,_,_,_])) _
 obtain⟨a8,n8,c8,vH,J8⟩:=d18
 subst vH
 have iS:=ahs (bs:=q.1) (e:=q.2.1) (k:=k) om
 rw[<-aht (e:=q.2.1) (show k<q.1.length by omega),<-ahu (e:=q.2.1) (show k<q.1.length by omega)] at iS
 rw[<-iS] at J8
 have VH:(nest (q.1.drop k) q.2.1).au.aw=[]:=by rw[iS];rfl
 refine cJ aL rfl rfl rfl cM rfl λlg kK cM df=>?_
 have iR:=iR.trans kK
 have J8:=J8.aD kK sm
 refine W ?_
 exact⟨k,⟨rfl,rfl,rfl,rfl,rfl,rfl⟩,⟨iR,om,a8,n8,c8,by rw[VH];exact cM,by rw[VH];exact J8⟩,om⟩
 have h0:gg=0:=by omega
 subst h0
 have A8:=hS
 have CU:=bg
 have Hp:=pY
 refine W ?_
 refine gd (o:=2) mu rfl rfl rfl bg rfl λeD dd bg df=>?_
 have l4:=dd
 have cM:=cM.aF dd (by simpa using λe=>N3 e.symm)
 have pe:=pe.aD dd (by intro x hx;simp at hx;subst hx;simp[A8.mem.2 (.inl rfl)])
 refine W ?_
 refine gd (o:=3) DM rfl rfl rfl bg rfl λfA di bg df=>?_
 have l4:=l4.trans di
 have cM:=cM.aF di (by simpa using λe=>N3 e.symm)
 have pe:=pe.aD di (by intro x hx;simp at hx;subst hx;simp[A8.mem.2 (.inl rfl)])
 have ahC:aj [b] w2 fA:=Hp.trans l4
 have aG:=Hc.aF ahC (by simpa using J6)
 obtain⟨hS,ahD⟩:=CV.closed A8.drop (CV.na.aF Hp (λx hx hy=>(xl x (by simp[hx])).2 (by simpa using hy))) (CV.ex.aF (Fr.of Hp (by intro x hx;simp at hx;subst hx;simp[nM])) Hp (λx hx hy=>(sV x hx).2.1 (by simpa using hy))) ⟨Hp.mono (by intro x hx;simp at hx;subst hx;exact nM),λx hx=>(ahz x hx).imp (λh=>by rw[h];exact nM) id⟩ l4
 have vI:bB ((w1.heap.size::E)++G) fA _ (nest (q.1.drop 0) q.2.1).au:=pe.gP (λx hx=>by rcases mA.1 hx with h|h;(·exact mK _ (by rcases mC.1 h with h|h<;>simp[h]));(·rcases CV.mem.1 h with h|h|h;(·rw[h];simp[A8.mem.2 (.inl rfl)]);(·simp[h]);(·simp[h])))
 refine W ?_
 refine cJ aL rfl rfl rfl aG rfl λjB gv aG df=>?_
 have bg:=bg.aF gv (by simpa using λe=>J6 e.symm)
 have hS:=(hS.aD gv sm).drop
 have vI:=vI.aD gv sm
 have x4:=mG.size
 have hFr:Fr G w G jB:=⟨((aj.any mG).trans ahD.aF).since gv (λx hx=>.inr (by simp at hx;omega)),λx hx=>.inl hx⟩
 refine W ?_
 exact⟨[_],fZ eU aL rfl aG rfl,⟨(by have h9:=bB.gP vI (L':=E++G) (λx hx=>mK _ hx);unfold mv;rw[<-hq];exact h9),by rw[<-hq];exact⟨_,_,_,_,_,bg,hS⟩⟩,hFr⟩
def gw (ag:List ai) (e:Ex) (n:Nat):Nat->Bs×List Ex×Nat
 |0=>([],[],n)
 |k+1=>((gw ag e n k).1++(dB ag (aY ag (fL e k) (gw ag e n k).2.2)).1,(gw ag e n k).2.1++[(dB ag (aY ag (fL e k) (gw ag e n k).2.2)).2.1],(dB ag (aY ag (fL e k) (gw ag e n k).2.2)).2.2)
theorem N5 (ag:List ai) (e:Ex) (n:Nat):∀k,(gw ag e n k).2.1.length=k
 |0=>rfl
 |k+1=>by simp[gw,N5 ag e n k]
theorem VI (ag:List ai) (e:Ex) (n:Nat):(dB ag (aY ag e n)).1.length<=2*e.n:=by
 have:=JZ ag e n
 unfold dB
 split
 ·omega
 ·simp;omega
theorem VJ (ag:List ai) (e:Ex) (n:Nat):(dB ag (aY ag e n)).2.2<=n+e.n*(2*(ag.length+2)):=by
 have h1:=ic ag e n
 have h2:=qk ag (aY ag e n)
 omega
theorem VK (ag:List ai) (e:Ex) (n:Nat):∀k,k<=e.kids.length->(gw ag e n k).1.length<=2*kN e k∧(gw ag e n k).2.2<=n+kN e k*(2*(ag.length+2))
 |0,_=>by simp[gw,kN]
 |k+1,hk=>by
  obtain⟨h1,h2⟩:=VK ag e n k om
  have h3:=VI ag (fL e k) (gw ag e n k).2.2
  have h4:=VJ ag (fL e k) (gw ag e n k).2.2
  rw[yw om,Nat.add_mul]
  simp only[gw,lA]
  constructor<;>omega
theorem ahF (ag:List ai) (e:Ex) (n:Nat) {aK:List ai} {exprs:List aq} (hB:yE ag e n aK exprs) (hk:k<e.kids.length):yE ag (fL e k) (gw ag e n k).2.2 (aK++(gw ag e n k).1.map Prod.fst) (exprs++(gw ag e n k).1.map λp=>p.2.au):=by
 obtain⟨h1,h2,h3,h4⟩:=hB
 obtain⟨h5,h6⟩:=VK ag e n k om
 have h7:=yw hk
 have h8:=CC e (k+1)
 have h9:=Nat.mul_le_mul_right (2*(ag.length+2)) h8
 rw[h7,Nat.add_mul] at h9
 refine⟨by omega,?_,?_,h4⟩
 ·simp only[lA,List.length_map];omega
 ·simp only[lA,List.length_map];omega
theorem ahG (ag:List ai) (n:Nat) (ha:e.iv=false) (h1:e.head≠fV) (h2:e.head≠gF) (h3:e.head≠gj):
  (aY ag e n).1=(gw ag e n e.kids.length).1∧(aY ag e n).2.1.au= .mk [] ([bJ e.head]++(gw ag e n e.kids.length).2.1.map Ex.au)∧(aY ag e n).2.2=(gw ag e n e.kids.length).2.2:=by
 cases e with
 |«at» s=>cases ha
 |lt x a b=>exact absurd rfl h1
 |fn f x A B b=>exact absurd rfl h2
 |ite a b c=>exact absurd rfl h3
 |un h a=>exact⟨rfl,rfl,rfl⟩
 |bi h a b=>exact⟨rfl,rfl,rfl⟩
theorem ahH (ha:e.iv=false) (h1:e.head≠fV) (h2:e.head≠gF):e.au.ak=lJ [bJ e.head] [] e:=by
 rw[Vj ha (not_lt h1) h2]
 simp[lJ]
theorem VL (ha:e.iv=false) (h1:e.head≠fV) (h2:e.head≠gF):e.from=1:=by
 cases e with
 |«at» s=>cases ha
 |lt x a b=>exact absurd rfl h1
 |fn f x A B b=>exact absurd rfl h2
 |_=>rfl
theorem yE.sub {ag:List ai} {e':Ex} {n':Nat} {aK names':List ai} {exprs exprs':List aq} (h:yE ag e n aK exprs) (m:Nat) (h1:m+e'.n<=e.n) (h2:n'<=n+m*(2*(ag.length+2))) (h3:names'.length<=aK.length+4*m) (h4:exprs'.length<=exprs.length+4*m):yE ag e' n' names' exprs':=by
 obtain⟨a1,a2,a3,a4⟩:=h
 have h9:=Nat.mul_le_mul_right (2*(ag.length+2)) h1
 rw[Nat.add_mul] at h9
 exact⟨by omega,om,om,a4⟩
theorem M5.nd {τ:yi} {E:List Nat} {ag aK:List ai} {exprs:List aq} (h:M5 τ E G w b ag n aK exprs):(E++G).Nodup:=by
 obtain⟨_,_,_,_,_,_,h2⟩:=h;exact h2.nd
theorem M5.more {τ:yi} {E:List Nat} {ag aK:List ai} {exprs:List aq} (h:M5 τ E G w b ag n aK exprs) (k:aj [] w w') (h1:w.heap.size<=x) (h2:x<w'.heap.size):M5 τ (x::E) G w' b ag n aK exprs:=by
 obtain⟨vt,vn,vex,gn,ge,hb,h⟩:=h
 have hF:∀y,y∈(x::E)++G->y∈E++G∨w.heap.size<=y:=λy hy=>by
  rcases mC.1 (show y∈x::(E++G) from hy) with h3|h3
  ·right;omega
  ·exact .inl h3
 refine⟨vt,vn,vex,gn,ge,hb.ext k,(h.ta.fresh hF).ext k,h.na.ext k,(h.ex.sub hF).any k,h.eG,?_,λy hy=>?_⟩
 ·show(x::(E++G)).Nodup
  rw[List.nodup_cons]
  exact⟨λhx=>by have:=h.cC _ hx;omega,h.nd⟩
 ·rcases mC.1 (show y∈x::(E++G) from hy) with h3|h3
  ·omega
  ·have:=h.cC y h3;have:=k.size;omega
structure jX (E G:List Nat) (w0 w:World) (G0:List Nat) (b:Nat) (ag:List ai) (n:Nat) (aK:List ai) (exprs:List aq) (gb b4:Nat) (vP:Value) (ts:List aq):Prop where
 m:M5 t5 (gb::b4::E) G w b ag n aK exprs
 own:dH ((gb::b4::E)++G) w 78 2 vP (some gb) (cT ts)
 bx:aJ w b4 [str [],.slice none 0 0].toArray 78
 fr:Fr G0 w0 G w
 low:w0.heap.size<=gb∧w0.heap.size<=b4
section
variable {E G G0 G':List Nat} {w0 w w':World} {b:Nat} {ag:List ai} {n n':Nat} {aK names':List ai} {exprs exprs':List aq} {gb b4:Nat} {vP:Value} {ts ts':List aq}
theorem jX.ext (h:jX E G w0 w G0 b ag n aK exprs gb b4 vP ts) (k:aj [] w w'):jX E G w0 w' G0 b ag n aK exprs gb b4 vP ts:=⟨h.m.ext k,h.own.ext k,h.bx.ext k,h.fr.ext k,h.low⟩
theorem jX.call (h:jX E G w0 w G0 b ag n aK exprs gb b4 vP ts) (hm:M5 t5 (gb::b4::E) G' w' b ag n' names' exprs') (k:Fr G w G' w'):jX E G' w0 w' G0 b ag n' names' exprs' gb b4 vP ts:=
 ⟨hm,h.own.aF (k.in _) k.aF (λx hx=>by simp at hx;subst hx;exact h.m.nE sm),h.bx.aF k.aF (h.m.nE sm),h.fr.go k,h.low⟩
theorem jX.ne (h:jX E G w0 w G0 b ag n aK exprs gb b4 vP ts):gb∉b4::(E++G)∧b4∉E++G:=by
 have h1:(gb::b4::(E++G)).Nodup:=h.m.nd
 rw[List.nodup_cons,List.nodup_cons] at h1
 exact⟨h1.1,h1.2.1⟩
theorem jX.store (h:jX E G w0 w G0 b ag n aK exprs gb b4 vP ts) (k:aj [gb] w w') (ho:dH ((gb::b4::E)++G) w' 78 2 vP (some gb) (cT ts')):jX E G w0 w' G0 b ag n aK exprs gb b4 vP ts':=
 ⟨h.m.aD k sm,ho,h.bx.aF k (by simp;intro e;exact h.ne.1 (by simp[e])),⟨h.fr.aF.since k (by intro x hx;simp at hx;subst hx;exact .inr h.low.1),h.fr.mem⟩,h.low⟩
theorem jX.cC (h:jX E G w0 w G0 b ag n aK exprs gb b4 vP ts):eO ((gb::b4::E)++G) w:=h.m.bG.2.2
theorem jX.jb (h:jX E G w0 w G0 b ag n aK exprs gb b4 vP ts):∀x,x∈[gb]->x∈(gb::b4::E)++G:=by simp
theorem jX.fin (h:jX E G w0 w G0 b ag n aK exprs gb b4 vP ts) (k:aj [b4] w w'):bB (E++G) w' (.agg #[str [],vP]) (.mk [] ts)∧M5 t5 E G w' b ag n aK exprs∧Fr G0 w0 G w':=by
 have h1:bQ (b4::(E++G)) w vP (.sl 2 (cT ts)):=h.own.rep (λx hx=>.inl (by simpa using hx)) (by simpa using h.ne.1)
 have h2:bB (b4::(E++G)) w (.agg #[str [],vP]) (.mk [] ts):=kU h1
 exact⟨(h2.aD k sm).gP (λx hx=>mK _ hx),(h.m.drop.aD k sm).drop,⟨h.fr.aF.since k (by intro x hx;simp at hx;subst hx;exact .inr h.low.2),h.fr.mem⟩⟩
end
theorem ahI:∀(m:Nat) (e:Ex),e.n<=m->e.ok->NT e:=by
 intro m
 induction m with
 |zero=>intro e h;have:=e.pos;omega
 |succ m ih=>
  intro e hm ba ag n aK exprs hB E F b v w hM cO
  have hv:=cO
  obtain⟨a,np,c,rfl,hn,JO⟩:=cU hv
  subst hn
  have J1:=ic ag e n
  have JG:=GV e
  have hK:=aj.refl [] w
  have av:=hM
  have hT:=cO
  have hMl:=hM.bG
  obtain⟨Jn,NV,NW,J0⟩:=id hB
  refine kW [.cell 4 78] 114 Tryz.func143 rfl ZL rfl rfl rfl ?_
  refine zr<|eH rfl λw1 aI cQ dk=>cN aI hK av hT λhK av hT=>?_
  refine dx aL rfl rfl rfl λw2 az aG dC=>?_
  have hK:=hK.grow;have hK:=hK.ext az;have av:=av.alloc az dC;have hT:=hT.grow;have hT:=hT.ext az;have cQ:=cQ.grow;have cQ:=cQ.ext az
  refine W ?_
  refine zc rfl (λh1=>?_) (λh1=>?_)
  have aQ:∃x,e= .at x:=(by have ha:=(vD ba).1 h1;cases e<;>first|exact⟨_,rfl⟩|cases ha)
  obtain⟨x,rfl⟩:=aQ
  refine W ?_
  refine cJ aL rfl rfl rfl aG rfl λw3 aH aG gJ=>?_
  have hK:=hK.aD aH sx;have av:=av.aD aH sx;have hT:=hT.aD aH sx
  refine W ?_
  exact⟨[_],fZ eU aL rfl aG rfl,by show JY ag E F b aK exprs w ([],.at x,n) _ _;exact⟨F,⟨hT.gP (λy hy=>mK _ hy),by simpa using av.drop⟩,Fr.of hK sm⟩⟩
  have eJ:e.iv=false:=(by cases hh:e.iv;rfl;exact absurd ((vD ba).2 hh) h1)
  obtain⟨GW,nZ,jd,qz⟩:=Ex.ak eJ
  obtain⟨jn,Ew,Ey⟩:=GU ba eJ
  have mG:=hK
  have lO:=av
  have Ho:=hT
  have N6:=cQ
  have Hc:=aG
  have agY:=dk
  have agZ:=dC
  have A9:eM (w1.heap.size::(E++F)) w2 (.slice a e.au.ak.length c) e.au.ak:=(by obtain⟨a9,n9,c9,e9,Ba,A9⟩:=cU Ho;cases e9;exact A9)
  have N7:=lO.bG.2.2
  refine W ?_
  refine zS w2.heap.size (w1.heap.size::(E++F)) cz aL rfl rfl (lR _) (λx hx=>N7 x hx) λw3 aH JP xd=>?_
  have jI:=aH
  refine bI aH cQ aG λcQ aG=>?_
  refine zm<|wT cz aL rfl rfl rfl rfl rfl rfl xd (eM.ext (eM.grow A9) aH) (Vo _) (by rw[ia];simp;omega) λa4 fP g4 w4 ku aO=>?_
  have jI:=xd.since jI aO
  have hK:=mG.trans jI
  have cQ:=N6.ext jI
  have aG:=Hc.ext jI
  have fE:=jI.size
  rw[show([]:List (List C)).length+(cT e.au.ak).length=e.au.ak.length from by rw[ia];simp] at ku⊢
  rw[List.nil_append] at ku
  obtain⟨gb,e4,e5⟩:=ku.form (by rw[ia];exact jn)
  subst e4
  subst e5
  have fG:gb<w4.heap.size:=ku.lt gb sm
  have EE:w2.heap.size<=gb:=ku.low gb rfl
  have hS:dH (gb::(w1.heap.size::(E++F))) w4 78 2 (.slice (some ⟨gb,0,none⟩) e.au.ak.length fP) (some gb) (cT e.au.ak):=(let⟨xs,hr⟩:=ku.own;⟨⟨xs,hr.own,hr.rep⟩,hr.row⟩)
  have av:M5 t5 (gb::w1.heap.size::E) F w4 b ag n aK exprs:=lO.more jI EE fG
  refine js (Lm _ _ _ _) rfl rfl<|dx aL rfl rfl rfl λw5 aN bL ig=>?_
  have hK:=hK.grow;have hK:=hK.ext aN;have aG:=aG.grow;have aG:=aG.ext aN;have hS:=hS.grow;have hS:=hS.ext aN;have jI:=jI.grow;have jI:=jI.ext aN
  refine cJ aL rfl rfl rfl bL rfl λw6 bN bL kI=>?_
  have hK:=hK.aD bN sx;have aG:=aG.aD bN sx;have hS:=hS.aD bN sx;have jI:=jI.aD bN sx
  refine W ?_
  have iZ:=hK.size
  have jI:aj [] w2 w6:=jI
  have av:M5 t5 (gb::w1.heap.size::E) F w6 b ag n aK exprs:=lO.more jI EE (by have:=bL.lt;omega)
  have hS:dH ((gb::w1.heap.size::E)++F) w6 78 2 _ _ _:=dH.sub hS (λx hx=>.inl (mK _ hx))
  have Vp:=av.bG.2.2
  have EF:Fr (w1.heap.size::(E++F)) w2 ((gb::w1.heap.size::E)++F) w6:=⟨jI.any,λx hx=>by rcases mC.1 (show x∈gb::(w1.heap.size::(E++F)) from hx) with h|h;(·right;omega);(·exact .inl h)⟩
  have aP:=eM.go A9 EF
  have eK:∀q,w.heap.size<=q->q≠gb->q≠w1.heap.size->q∉((gb::w1.heap.size::E)++F):=(by intro q h1 h2 h3 hx;rcases mC.1 (show q∈gb::(w1.heap.size::(E++F)) from hx) with h|h;(·exact h2 h);(·rcases mC.1 h with h|h;(·exact h3 h);(·have:=hMl.2.2 q h;omega)))
  have bL:dM ((gb::w1.heap.size::E)++F) w6 w4.heap.size _ _:=⟨bL,eK _ om om om⟩
  have aR:jX E F w w6 F b ag n aK exprs gb w1.heap.size (.slice (some ⟨gb,0,none⟩) e.au.ak.length fP) e.au.ak:=⟨av,hS,aG,⟨hK.any,λx hx=>.inl hx⟩,om,om⟩
  obtain⟨b0,vj,x6,ya,e0,uh,jV⟩:=eW aP jn
  cases e0
  refine zi (i:=0) cz aL rfl rfl jn<|W ?_
  refine zc rfl (λh2=>?_) (λh2=>?_)
  obtain⟨nx,ea,eb,rfl⟩:=JM ba (jd.symm.trans h2)
  have xe:(Ex.lt nx ea eb).n=2+ea.n+eb.n:=rfl
  have J9:aY ag (.lt nx ea eb) n=((aY ag ea n).1++(nx,(aY ag ea n).2.1)::(aY ag eb (aY ag ea n).2.2).1,(aY ag eb (aY ag ea n).2.2).2.1,(aY ag eb (aY ag ea n).2.2).2.2):=rfl
  have Ka:=ic ag ea n
  have oN:=JZ ag ea n
  have hBa:yE ag ea n aK exprs:=hB.sub 0 om om om om
  have aQ:∃q,q=aY ag ea n:=⟨_,rfl⟩
  obtain⟨q,hq⟩:=aQ
  rw[<-hq] at J9 Ka oN
  have JQ:(Ex.lt nx ea eb).au.ak.length=4:=rfl
  have aP:eM ((w1.heap.size::E)++F) w6 _ _:=aP.gP (λx hx=>mK _ hx)
  have av:=aR.m.drop
  have aG:=aR.bx
  have hR:=aR.fr
  obtain⟨b1,eX,gA,gm,e1,bK,cI⟩:=eW aP (i:=1) om
  cases e1
  obtain⟨b2,lF,iA,iw,e2,bU,dI⟩:=eW aP (i:=2) om
  cases e2
  have dI:bB ((w1.heap.size::E)++F) w6 _ ea.au:=dI
  obtain⟨b3,A3,pR,pS,e3,dO,dY⟩:=eW aP (i:=3) om
  cases e3
  have dY:bB ((w1.heap.size::E)++F) w6 _ eb.au:=dY
  refine zr<|zm<|zm<|zi (i:=2) cz aL rfl rfl ((show 2<4 from om))<|W ?_
  refine aA (ih ea om ba.2.1 ag n aK exprs hBa (w1.heap.size::E) F b _ w6 av dI) ?_
  rintro v29 w7 ⟨G1,⟨du,qC⟩,cP⟩
  rw[<-hq] at du qC
  obtain⟨a9,n9,c9,e9,_,_⟩:=cU du
  subst e9
  have jA:=hR.go cP
  have fp:=aj.refl [] w7
  have bK:=bK.go (cP.in _);have dO:=dO.go (cP.in _)
  have dY:=bB.go dY (cP.in _)
  have aG:=aG.aF cP.aF (av.nE sm)
  have av:=qC
  have VM:=av.bG.2.2
  have aQ:∃x,x=aK++q.1.map Prod.fst:=⟨_,rfl⟩
  obtain⟨N1,CQ⟩:=aQ
  have aQ:∃x,x=exprs++q.1.map λp=>p.2.au:=⟨_,rfl⟩
  obtain⟨X1,CR⟩:=aQ
  rw[<-CQ,<-CR] at av
  have VB:N1.length=aK.length+q.1.length:=by rw[CQ];simp
  have hXl:X1.length=exprs.length+q.1.length:=by rw[CR];simp
  have ahL:=aG
  have ahM:=bK
  have ahN:=dO
  have ahO:=dY
  have ahP:=du
  have ahQ:=av
  refine dx aL rfl rfl rfl λw8 cE cM ld=>?_
  have fp:=fp.grow;have fp:=fp.ext cE
  refine cJ aL rfl rfl rfl cM rfl λw9 aB cM df=>?_
  have fp:=fp.aD aB sx
  refine W ?_
  have AJ:=jA.aF.size
  have fp:aj [] w7 w9:=fp
  have hR:=jA.ext fp
  have aG:=ahL.ext fp
  have bK:=ahM.ext fp
  have dO:=ahN.ext fp
  have dY:=ahO.ext fp
  have du:=ahP.ext fp
  have av:=ahQ.ext fp
  obtain⟨vt,vn,vex,gn,ge,bg,hS⟩:=av.open
  have bg:aJ w9 b [vt,.int .i64 (q.2.2:Int),vn,vex].toArray 140:=bg
  obtain⟨J3,xk,xl,sV⟩:=hS.apart
  have CS:eO ((w1.heap.size::E)++G1) w9:=hS.cC
  have nM:b∈G1:=hS.mem.2 (.inl rfl)
  have oX:=cM.lt
  have cM:dM ((w1.heap.size::E)++G1) w9 _ _ _:=⟨cM,λhx=>by have:=VM _ hx;omega⟩
  apply jF dj (((w1.heap.size::E)++G1)) 13 (rA 30 13) (rA 30 13) [[],[],[1],[2],[3],[],[5],[6],[7],[8],[4,9],[0],[11]] [Ie.v _,Ie.v _,Ie.v _,Ie.v _,Ie.w 0 vn,Ie.v _,Ie.v _,Ie.v _,Ie.v _,Ie.p (fun(G:List Nat) (v:Value) (ww:World)=>∃bb,v= .slice (some ⟨bb,0,none⟩) 1 1∧aJ ww bb [str nx].toArray 9∧bb∉G),Ie.e 1,Ie.v _,Ie.v _] [4,10] [fun(G:List Nat) (vs:List Value) (ww:World)=>G=(w1.heap.size::E)++G1∧aj [] w9 ww,fun(G:List Nat) (vs:List Value) (ww:World)=>G=(w1.heap.size::E)++G1∧aj [] w9 ww,fun(G:List Nat) (vs:List Value) (ww:World)=>∃G2 g2,G=(w1.heap.size::E)++G2∧aj gn.toList w9 ww∧iz t5 (w1.heap.size::E) G2 ww b vt (vs.getD 1 undef) vex g2 ge ag (N1++[nx]) X1∧Fr G1 w9 G2 ww] de rfl CS (by exact⟨λG v w G' w' ⟨bb,e,h,ho⟩ k=>⟨bb,e,(dM.go ⟨h,ho⟩ k).gX,(dM.go ⟨h,ho⟩ k).out⟩,trivial⟩) (by exact⟨λG vs w w' ⟨h1,h2⟩ k=>⟨h1,h2.ext k⟩,λG vs w w' ⟨h1,h2⟩ k=>⟨h1,h2.ext k⟩,λG vs w w' ⟨G2,g2,h1,h2,h3,h4⟩ k=>⟨G2,g2,h1,h2.ext k,h3.ext k,h4.ext k⟩,trivial⟩) (⟨rfl,aj.refl _ _⟩)
  refine FA ?_
  refine ve 0 (λx cu mO aS pX ma hJ hlen=>?_) ?_
  have aW:=jg hlen
  subst aW
  obtain⟨bO,bP⟩:=hJ
  have xp:=bg.ext bP
  refine WZ ?_
  exact fw mO (Fr.refl _ _) ma (⟨bO,bP⟩)
  refine FA ?_
  refine vf (λ_ _ _ _ _ _=>zi (i:=1) cz aL rfl rfl ((show 1<4 from om)) fv) ?_
  refine FA ?_
  refine vf (λx cu mO aS pX ma=>?_) ?_
  refine fc bh bf rfl rfl ?_
  intro eD dd yv vi
  exact ff dd (⟨_,rfl,(yv.o ma).gX,(yv.o ma).out⟩)
  refine ve 1 (λx cu mO aS pX ma hJ hlen=>?_) ?_
  obtain⟨q0,aW⟩:=jh hlen
  subst aW
  intro v9 d9
  obtain⟨bb,e6,fH,_⟩:=d9
  subst e6
  obtain⟨bO,bP⟩:=hJ
  subst bO
  have Kb:=hS.ext bP
  refine rW bh bf rfl rfl rfl rfl rfl rfl Kb.na fH om λv9 g9 eD cZ aB eZ=>?_
  obtain⟨G2,fB,jq⟩:=Kb.T8 cZ aB eZ
  exact fe _ (jq.in _) fB.cC (⟨G2,g9,rfl,bP.any.trans aB,fB,(Fr.of bP sm).go jq⟩)
  exact FZ
  intro x oc JR aS yB Vq hJ hlen
  obtain⟨q0,q1,aW⟩:=k9 hlen
  subst aW
  intro v9 d9
  have cM:=cM.go yB;have dO:=dO.go yB;have dY:=dY.go yB;have du:=du.go yB
  change OW _ _ _ _ _ (bo (bj _ x _) (zZ 30 [_,_,_,_,_,_,_,_,_,_,_,_,_])) _
  obtain⟨G2,g9,bO,A2,fB,jq⟩:=hJ
  subst bO
  obtain⟨o9,pd,Hm⟩:=jS fB.na
  have e8:q1=_:=Hm
  subst e8
  have bg:=bg.aF A2 (λh=>(xl b h).2 rfl)
  have aG:=aG.aF A2 (λh=>(xl _ h).1 sm)
  have xm:b∈G2:=fB.mem.2 (.inl rfl)
  have hR:=hR.go jq
  refine gd (o:=2) mu rfl rfl rfl bg rfl λoe lE bg df=>?_
  have hS:=fB.aF lE sm
  have aG:=aG.aF lE (by simp;intro e;subst e;exact xk sm)
  have hR:=hR.aD lE (by simpa using xm);have cM:=cM.aD lE (by intro x hx;simp at hx;subst hx;simp[xm]);have dO:=dO.aD lE (by intro x hx;simp at hx;subst hx;simp[xm]);have du:=du.aD lE (by intro x hx;simp at hx;subst hx;simp[xm]);have dY:=dY.aD lE (by intro x hx;simp at hx;subst hx;simp[xm])
  refine W ?_
  obtain⟨ae,ce,e5⟩:=hS.ex.len
  subst e5
  have bg:aJ oe b [vt,(.int .i64 (q.2.2:Int)),(.slice o9 (N1++[nx]).length pd),(.slice ae (cT X1).length ce)].toArray 140:=bg
  have CS:eO ((w1.heap.size::E)++G2) oe:=hS.cC
  have dX:b∈G2:=xm
  obtain⟨J3,xk,xl,sV⟩:=hS.apart
  have iq:=bg.lt
  apply SK dj (((w1.heap.size::E)++G2)) 13 (rA 43 9++[100009,52,53,100012]) (rA 43 9++[100009,52,53,100012]) [[],[0],[1],[2],[],[3],[],[3,6],[5,7],[4,8],[0],[10],[7,11]] [Iu.v _,Iu.v _,Iu.v _,Iu.w 0 ((.slice ae (cT X1).length ce)),Iu.v _,Iu.v _,Iu.p (fun(G:List Nat) (v:Value) (ww:World)=>∃bb,v= .slice (some ⟨bb,0,none⟩) 1 1∧dM G ww bb [str [],.slice none 0 0].toArray 78),Iu.e 1,Iu.d (fun(vs:List Value)=>Vw (vs.getD 1 undef) ((cT X1).length*2)),Iu.u,Iu.v _,Iu.v _,Iu.u] [3,7] [fun(G:List Nat) (vs:List Value) (ww:World)=>G=((w1.heap.size::E)++G2)∧aJ ww b [vt,(.int .i64 (q.2.2:Int)),(.slice o9 (N1++[nx]).length pd),(.slice ae (cT X1).length ce)].toArray 140∧aj [] oe ww,fun(G:List Nat) (vs:List Value) (ww:World)=>G=((w1.heap.size::E)++G2)∧aJ ww b [vt,(.int .i64 (q.2.2:Int)),(.slice o9 (N1++[nx]).length pd),(.slice ae (cT X1).length ce)].toArray 140∧aj [] oe ww,fun(G:List Nat) (vs:List Value) (ww:World)=>J5 t5 (w1.heap.size::E) G2 oe b vt (.int .i64 (q.2.2:Int)) (.slice o9 (N1++[nx]).length pd) (.slice ae (cT X1).length ce) ge X1 q.2.1.au false false G (vs.getD 1 undef) ww] (fun(S:Nat->Bool) (G:List Nat) (vs:List Value) (ww:World)=>J5 t5 (w1.heap.size::E) G2 oe b vt (.int .i64 (q.2.2:Int)) (.slice o9 (N1++[nx]).length pd) (.slice ae (cT X1).length ce) ge X1 q.2.1.au (S 9) (S 12) G (vs.getD 1 undef) ww) de rfl CS (by exact⟨λG v w G' w' ⟨bb,e,h⟩ k=>⟨bb,e,h.go k⟩,trivial⟩) (by exact⟨λG vs w w' ⟨h1,h2,h3⟩ k=>⟨h1,h2.ext k,h3.ext k⟩,λG vs w w' ⟨h1,h2,h3⟩ k=>⟨h1,h2.ext k,h3.ext k⟩,λG vs w w' h k=>h.ext k,trivial⟩) (by exact λS G vs w w' h k=>h.ext k) (⟨rfl,bg,aj.refl _ _⟩) (by exact λ_ _ _ h _=>h)
  refine uf (λx lg pZ aS r5 qD=>?_) ?_
  refine WZ ?_
  exact uv
  refine uf (λx lg pZ aS r5 qD=>?_) ?_
  refine WZ ?_
  exact uv
  refine uf (λx lg pZ aS r5 qD=>?_) ?_
  refine WZ ?_
  exact uv
  refine ue 0 (λx lg pZ aS r5 qD hJ hlen=>?_) ?_
  have aW:=jg hlen
  subst aW
  obtain⟨bO,bg,bP⟩:=hJ
  refine WZ ?_
  exact uW pZ (Fr.refl _ _) qD (⟨bO,bg,bP⟩)
  refine uf (λx lg pZ aS r5 qD=>?_) ?_
  have cM:=cM.go r5
  refine WZ ?_
  exact uv
  refine uf (λx lg pZ aS r5 qD=>?_) ?_
  refine WZ ?_
  exact uv
  refine uf (λx lg pZ aS r5 qD=>?_) ?_
  refine fc cz aL rfl rfl λAN pM ahR afe=>?_
  exact up pM (⟨_,rfl,ahR.o qD⟩)
  refine ue 1 (λx lg pZ aS r5 qD hJ hlen=>?_) ?_
  obtain⟨q0,aW⟩:=jh hlen
  subst aW
  intro v6 d6
  obtain⟨bb,e6,fH⟩:=d6
  subst e6
  obtain⟨bO,bg,bP⟩:=hJ
  subst bO
  refine Vx cz aL rfl rfl rfl rfl rfl rfl (hS.ext bP).ex ‹_› (λx hx=>mR _ (hS.mem.2 (by simp[hx]))) fH.gX om λv9 g9 AN cZ aB eZ cP eu=>?_
  exact uE _ cP eu (⟨bg.aF aB (λh=>(sV b h).2.1 rfl),eu,bP.any.trans (aB.mono (λx hx=>mK _ hx)),g9,rfl,cZ,eZ.imp id (λh=>⟨_,h,bP.size⟩)⟩)
  refine ud (λx lg pZ aS S r5 qD hJ hlen=>?_) ?_
  obtain⟨q0,q1,aW⟩:=k9 hlen
  subst aW
  obtain⟨bb,cap,e1,rY,rH,jU,hO,vB⟩:=J5.form hJ
  have e2:q1=_:=e1
  subst e2
  refine zi cz aL rfl rfl (by rw[ia];omega) ?_
  exact uD (aj.refl _ _) rfl
  refine uu (λx lg pZ aS S r5 qD hJ CT hlen=>?_) ?_
  obtain⟨q0,q1,aW⟩:=k9 hlen
  subst aW
  have du:=du.go r5
  have hJ:J5 t5 (w1.heap.size::E) G2 oe b vt (.int .i64 (q.2.2:Int)) (.slice o9 (N1++[nx]).length pd) (.slice ae (cT X1).length ce) ge X1 q.2.1.au (S 9) (S 12) pZ q1 lg:=hJ
  rw[CT] at hJ
  obtain⟨bb,cap,e1,rY,rH,jU,hO,vB⟩:=J5.form hJ
  subst e1
  refine sR (i:=(cT X1).length) (vs:=[str q.2.1.au.aw,.slice a9 n9 c9]) (row:=q.2.1.au.enc) aL rfl rfl rfl rfl (Nat.zero_add _) hO ‹_› rY (by rw[ia,ia];simp) rfl (oG _) du.kj λAN pM rS dv=>?_
  rw[sU,ia] at dv
  exact uU pZ (Fr.of pM (by simpa using rY)) ((λx hx=>lL (qD x hx) (aj.size pM))) (J5.fill hJ jU (by rintro rfl;rcases rH with h|h;(·exact(sV _ h).2.1 rfl);(·omega)) rH vB pM (by have e3:(X1++[if false=true then q.2.1.au else aq.mk [] []]).set X1.length q.2.1.au=X1++[q.2.1.au]:=sm;rw[e3] at dv;exact dv))
  refine uf (λx lg pZ aS r5 qD=>?_) ?_
  refine WZ ?_
  exact uv
  refine uf (λx lg pZ aS r5 qD=>?_) ?_
  refine WZ ?_
  exact uv
  refine uu (λx lg pZ aS S r5 qD hJ CT hlen=>?_) ?_
  obtain⟨q0,q1,aW⟩:=k9 hlen
  subst aW
  have hJ:J5 t5 (w1.heap.size::E) G2 oe b vt (.int .i64 (q.2.2:Int)) (.slice o9 (N1++[nx]).length pd) (.slice ae (cT X1).length ce) ge X1 q.2.1.au (S 9) (S 12) pZ q1 lg:=hJ
  rw[CT] at hJ
  obtain⟨bb,cap,e1,rY,rH,Hn,hO,vB⟩:=J5.form hJ
  subst e1
  have NZ:=hJ.box
  refine gd (o:=3) DM rfl rfl rfl NZ rfl λAN pM CU rS=>?_
  exact uU pZ (Fr.of pM (by rw[Hn];simp[dX])) ((λx hx=>lL (qD x hx) (aj.size pM))) (J5.field hJ pM CU (λg9 _ eZ hx=>by rcases eZ with h|⟨y,h,hy⟩;(·rw[h] at hx;exact(sV _ hx).2.1 rfl);(·rw[h] at hx;simp at hx;omega)) (by rw[Hn];simp[dX]))
  exact trivial
  intro x kF l8 aS jz mH hJ hlen
  obtain⟨q0,q1,aW⟩:=k9 hlen
  subst aW
  intro v6 d6
  intro v9
  intro v12
  have dO:=dO.go jz;have dY:=dY.go jz
  change OW _ _ _ _ [] (bo (bj _ x _) (zZ 43 [_,_,_,_,_,_,_,_,_]++[(100009,_),(52,_),(53,_),(100012,_)])) _
  have hJ:J5 t5 (w1.heap.size::E) G2 oe b vt (.int .i64 (q.2.2:Int)) (.slice o9 (N1++[nx]).length pd) (.slice ae (cT X1).length ce) ge X1 q.2.1.au true true l8 q1 kF:=hJ
  obtain⟨g9,jU,cZ,eZ⟩:=hJ.ex
  subst jU
  obtain⟨G3,yF,jo,VF⟩:=hS.A5 cZ hJ.aF eZ
  have aG:=aG.aF hJ.aF (by intro hx;rcases mC.1 hx with h|h;(·exact xk (by simp[h]));(·exact(sV _ h).1 sm))
  have hR:=hR.go jo
  have bg:=hJ.box
  have VN:∀x,x∈(w1.heap.size::E)++G3->x∈ge.toList++(g9.toList++((w1.heap.size::E)++G2)):=(λx hx=>by rcases mA.1 hx with h|h;(·exact mR _ (mR _ (List.mem_append_left _ h)));(·exact VF x h))
  have dY:=dY.gP VN
  have dO:fy ((w1.heap.size::E)++G3) kF _ _ _:=⟨dO.cells,dO.lt,λhx=>dO.out (VN _ hx)⟩
  have av:M5 t5 (w1.heap.size::E) G3 kF b ag q.2.2 (N1++[nx]) (X1++[q.2.1.au]):=⟨_,_,_,_,_,bg,yF⟩
  refine WI ?_
  refine zi (i:=3) cz aL rfl rfl ((show 3<4 from om))<|W ?_
  refine aA (ih eb om ba.2.2 ag q.2.2 (N1++[nx]) (X1++[q.2.1.au]) (hB.sub ea.n om om so so) (w1.heap.size::E) G3 b _ kF av dY) ?_
  rintro N8 qB ⟨G4,⟨mP,qC⟩,cP⟩
  obtain⟨a5,n5,c5,e5,_,_⟩:=cU mP
  subst e5
  have hR:=hR.go cP
  have aG:=aG.aF cP.aF (av.nE sm)
  have av:=qC
  refine cJ aL rfl rfl rfl aG rfl λCN yD aG df=>?_
  have av:=av.aD yD sm;have mP:=mP.aD yD sm
  have hR:Fr F w G4 CN:=⟨hR.aF.since yD (λx hx=>.inr (by simp at hx;omega)),hR.mem⟩
  refine W ?_
  exact⟨[_],fZ eU aL rfl aG rfl,by rw[J9];exact⟨G4,⟨mP.gP (λx hx=>mK _ hx),(by have e1:aK++(q.1++(nx,q.2.1)::(aY ag eb q.2.2).1).map Prod.fst=(N1++[nx])++(aY ag eb q.2.2).1.map Prod.fst:=(by rw[CQ];simp);have e2:exprs++(q.1++(nx,q.2.1)::(aY ag eb q.2.2).1).map (λp=>p.2.au)=(X1++[q.2.1.au])++(aY ag eb q.2.2).1.map (λp=>p.2.au):=(by rw[CR];simp);show M5 t5 E G4 _ b ag _ (aK++(q.1++(nx,q.2.1)::(aY ag eb q.2.2).1).map Prod.fst) (exprs++(q.1++(nx,q.2.1)::(aY ag eb q.2.2).1).map (λp=>p.2.au));rw[e1,e2];exact av.drop)⟩,hR⟩⟩
  have oF:e.head≠fV:=λhh=>h2 (jd.trans hh)
  refine W ?_
  refine zc rfl (λh3=>?_) (λh3=>?_)
  obtain⟨nf,nx,tA,tB,eb,rfl⟩:=JN ba (jd.symm.trans h3)
  have xe:(Ex.fn nf nx tA tB eb).n=3+tA.n+tB.n+eb.n:=rfl
  have JV:(Ex.fn nf nx tA tB eb).au.ak.length=6:=rfl
  obtain⟨b1,eX,gA,gm,e1,bK,cI⟩:=eW aP (i:=5) om
  cases e1
  have cI:bB ((gb::w1.heap.size::E)++F) w6 _ eb.au:=cI
  have aQ:∃X,X=mv ag eb n:=⟨_,rfl⟩
  obtain⟨X,hX⟩:=aQ
  refine WZ ?_
  apply jF dj (((gb::w1.heap.size::E)++F)) 8 (rA 61 8) (rA 61 8) [[],[0],[],[],[3],[4],[2,5],[1]] [Ie.v _,Ie.v _,Ie.v _,Ie.v _,Ie.v _,Ie.v _,Ie.e 0,Ie.v _] [6] [fun(G:List Nat) (vs:List Value) (ww:World)=>G=((gb::w1.heap.size::E)++F)∧jX E F w ww F b ag n aK exprs gb w1.heap.size (.slice (some ⟨gb,0,none⟩) (Ex.fn nf nx tA tB eb).au.ak.length fP) (Ex.fn nf nx tA tB eb).au.ak,fun(G:List Nat) (vs:List Value) (ww:World)=>∃G9,G=((gb::w1.heap.size::E)++G9)∧jX E G9 w ww F b ag (aY ag eb n).2.2 aK exprs gb w1.heap.size (.slice (some ⟨gb,0,none⟩) (Ex.fn nf nx tA tB eb).au.ak.length fP) (Ex.fn nf nx tA tB eb).au.ak∧bB ((gb::w1.heap.size::E)++G9) ww (vs.getD 0 undef) (mv ag eb n).au] de rfl aR.cC (by exact trivial) (by exact⟨λG vs w w' ⟨h1,h2⟩ k=>⟨h1,h2.ext k⟩,λG vs w w' ⟨G9,h1,h2,h3⟩ k=>⟨G9,h1,h2.ext k,h3.ext k⟩,trivial⟩) (⟨rfl,aR⟩)
  refine FA ?_
  refine vf (λ_ _ _ _ _ _=>zi (i:=5) cz aL rfl rfl ((show 5<6 from om)) fv) ?_
  refine FA ?_
  refine ve 0 (λx w7 G7 aS mQ lj hJ hlen=>?_) ?_
  have aW:=jg hlen
  subst aW
  have cI:=cI.go mQ
  obtain⟨bO,aR⟩:=hJ
  subst bO
  refine aA (J4 ba.2.2.2.2.2 (ih eb om ba.2.2.2.2.2) ag n aK exprs (hB.sub 0 om om sm sm) (gb::w1.heap.size::E) F b _ w7 aR.m cI) ?_
  rintro CH w8 ⟨⟨du,qE⟩,cP⟩
  exact fe _ (cP.in _) qE.bG.2.2 (⟨F,rfl,aR.call qE cP,du⟩)
  refine vf (λ_ _ _ _ _ _=>zi (i:=5) cz aL rfl rfl ((show 5<6 from om)) fv) ?_
  exact trivial
  intro x rN Kc aS xq Kd hJ hlen
  obtain⟨q0,aW⟩:=jh hlen
  subst aW
  have bL:=bL.go xq
  change OW _ _ _ _ _ (bo (bj _ x _) (zZ 61 [_,_,_,_,_,_,_,_])) _
  obtain⟨G3,bO,aR,du⟩:=hJ
  subst bO
  obtain⟨a7,n7,c7,e7,_,_⟩:=cU du
  have e8:q0=_:=e7
  subst e8
  refine sR (i:=5) (vs:=[str (mv ag eb n).au.aw,.slice a7 n7 c7]) (row:=(mv ag eb n).au.enc) aL rfl rfl rfl rfl (by first|rfl|exact Nat.zero_add _) aR.own aR.cC sm (by rw[ia];omega) rfl (oG _) du.kj λwO l5 rS dv=>?_
  rw[sU] at dv
  have bL:=bL.aD l5 aR.jb
  have aR:=aR.store l5 dv
  refine W ?_
  refine cJ aL rfl rfl rfl aR.bx rfl λlK lM dh ld=>?_
  obtain⟨rU,rV,vF⟩:=aR.fin lM
  refine W ?_
  exact⟨[_],fZ eU aL rfl dh rfl,by show JY ag E F b aK exprs w ([],.fn nf nx tA tB (mv ag eb n),(aY ag eb n).2.2) _ _;exact⟨G3,⟨rU,by rw[List.map_nil,List.append_nil,List.map_nil,List.append_nil];exact rV⟩,vF⟩⟩
  have rk:e.head≠gF:=λhh=>h3 (jd.trans hh)
  refine W ?_
  refine zc rfl (λh4=>?_) (λh4=>?_)
  obtain⟨ea,eb,ec,rfl⟩:=Vi ba (jd.symm.trans h4)
  have xe:(Ex.ite ea eb ec).n=1+ea.n+eb.n+ec.n:=rfl
  have JV:(Ex.ite ea eb ec).au.ak.length=4:=rfl
  have Ka:=VJ ag ea n
  have oN:=VI ag ea n
  have aQ:∃q,q=dB ag (aY ag ea n):=⟨_,rfl⟩
  obtain⟨q,hq⟩:=aQ
  have J9:aY ag (.ite ea eb ec) n=(q.1,.ite q.2.1 (mv ag eb q.2.2) (mv ag ec (aY ag eb q.2.2).2.2),(aY ag ec (aY ag eb q.2.2).2.2).2.2):=(by rw[hq];rfl)
  rw[<-hq] at Ka oN
  have Vf:=ic ag eb q.2.2
  have uF:(ea.n+eb.n)*(2*(ag.length+2))=ea.n*(2*(ag.length+2))+eb.n*(2*(ag.length+2)):=Nat.add_mul _ _ _
  obtain⟨b1,eX,gA,gm,e1,bK,cI⟩:=eW aP (i:=1) om
  cases e1
  have cI:bB ((gb::w1.heap.size::E)++F) w6 _ ea.au:=cI
  refine WZ ?_
  apply jF dj (((gb::w1.heap.size::E)++F)) 8 (rA 72 8) (rA 72 8) [[],[0],[],[],[3],[4],[2,5],[1]] [Ie.v _,Ie.v _,Ie.v _,Ie.v _,Ie.v _,Ie.v _,Ie.e 0,Ie.v _] [6] [fun(G:List Nat) (vs:List Value) (ww:World)=>G=((gb::w1.heap.size::E)++F)∧jX E F w ww F b ag n aK exprs gb w1.heap.size (.slice (some ⟨gb,0,none⟩) (Ex.ite ea eb ec).au.ak.length fP) (Ex.ite ea eb ec).au.ak,fun(G:List Nat) (vs:List Value) (ww:World)=>∃G9,G=((gb::w1.heap.size::E)++G9)∧jX E G9 w ww F b ag q.2.2 (aK++q.1.map Prod.fst) (exprs++q.1.map λp=>p.2.au) gb w1.heap.size (.slice (some ⟨gb,0,none⟩) (Ex.ite ea eb ec).au.ak.length fP) (Ex.ite ea eb ec).au.ak∧bB ((gb::w1.heap.size::E)++G9) ww (vs.getD 0 undef) q.2.1.au] de rfl aR.cC (by exact trivial) (by exact⟨λG vs w w' ⟨h1,h2⟩ k=>⟨h1,h2.ext k⟩,λG vs w w' ⟨G9,h1,h2,h3⟩ k=>⟨G9,h1,h2.ext k,h3.ext k⟩,trivial⟩) (⟨rfl,aR⟩)
  refine FA ?_
  refine vf (λ_ _ _ _ _ _=>zi (i:=1) cz aL rfl rfl ((show 1<4 from om)) fv) ?_
  refine FA ?_
  refine ve 0 (λx w7 G7 aS mQ lj hJ hlen=>?_) ?_
  have aW:=jg hlen
  subst aW
  have cI:=cI.go mQ
  obtain⟨bO,aR⟩:=hJ
  subst bO
  refine aA (Vz ba.1 (ih ea om ba.1) ag n aK exprs (hB.sub 0 om om sm sm) (gb::w1.heap.size::E) F b _ w7 aR.m cI) ?_
  rintro CH w8 ⟨G9,⟨du,qE⟩,cP⟩
  rw[<-hq] at du qE
  exact fe _ (cP.in _) qE.bG.2.2 (⟨G9,rfl,aR.call qE cP,du⟩)
  refine vf (λ_ _ _ _ _ _=>zi (i:=1) cz aL rfl rfl ((show 1<4 from om)) fv) ?_
  exact trivial
  intro x rN Kc aS xq Kd hJ hlen
  obtain⟨q0,aW⟩:=jh hlen
  subst aW
  have aP:=aP.go xq;have bL:=bL.go xq;have bK:=bK.go xq;have cI:=cI.go xq
  change OW _ _ _ _ _ (bo (bj _ x _) (zZ 72 [_,_,_,_,_,_,_,_])) _
  obtain⟨G3,bO,aR,du⟩:=hJ
  subst bO
  obtain⟨a7,n7,c7,e7,_,_⟩:=cU du
  have e8:q0=_:=e7
  subst e8
  refine sR (i:=1) (vs:=[str q.2.1.au.aw,.slice a7 n7 c7]) (row:=q.2.1.au.enc) aL rfl rfl rfl rfl (by first|rfl|exact Nat.zero_add _) aR.own aR.cC sm (by rw[ia];omega) rfl (oG _) du.kj λwO l5 rS dv=>?_
  rw[sU] at dv
  have aP:=aP.aD l5 aR.jb;have bL:=bL.aD l5 aR.jb
  have aR:=aR.store l5 dv
  refine W ?_
  obtain⟨b2,lF,iA,iw,e2,bK,cI⟩:=eW aP (i:=2) om
  cases e2
  have cI:bB ((gb::w1.heap.size::E)++G3) wO _ eb.au:=cI
  apply jF dj (((gb::w1.heap.size::E)++G3)) 8 (rA 80 8) (rA 80 8) [[],[0],[],[],[3],[4],[2,5],[1]] [Ie.v _,Ie.v _,Ie.v _,Ie.v _,Ie.v _,Ie.v _,Ie.e 0,Ie.v _] [6] [fun(G:List Nat) (vs:List Value) (ww:World)=>G=((gb::w1.heap.size::E)++G3)∧jX E G3 w ww F b ag q.2.2 (aK++q.1.map Prod.fst) (exprs++q.1.map λp=>p.2.au) gb w1.heap.size (.slice (some ⟨gb,0,none⟩) (Ex.ite ea eb ec).au.ak.length fP) ((Ex.ite ea eb ec).au.ak.set 1 q.2.1.au),fun(G:List Nat) (vs:List Value) (ww:World)=>∃G9,G=((gb::w1.heap.size::E)++G9)∧jX E G9 w ww F b ag (aY ag eb q.2.2).2.2 (aK++q.1.map Prod.fst) (exprs++q.1.map λp=>p.2.au) gb w1.heap.size (.slice (some ⟨gb,0,none⟩) (Ex.ite ea eb ec).au.ak.length fP) ((Ex.ite ea eb ec).au.ak.set 1 q.2.1.au)∧bB ((gb::w1.heap.size::E)++G9) ww (vs.getD 0 undef) (mv ag eb q.2.2).au] de rfl aR.cC (by exact trivial) (by exact⟨λG vs w w' ⟨h1,h2⟩ k=>⟨h1,h2.ext k⟩,λG vs w w' ⟨G9,h1,h2,h3⟩ k=>⟨G9,h1,h2.ext k,h3.ext k⟩,trivial⟩) (⟨rfl,aR⟩)
  refine FA ?_
  refine vf (λ_ _ _ _ _ _=>zi (i:=2) cz aL rfl rfl ((show 2<4 from om)) fv) ?_
  refine FA ?_
  refine ve 0 (λx lK JX aS EI NQ hJ hlen=>?_) ?_
  have aW:=jg hlen
  subst aW
  have cI:=cI.go EI
  obtain⟨bO,aR⟩:=hJ
  subst bO
  refine aA (J4 ba.2.1 (ih eb om ba.2.1) ag q.2.2 (aK++q.1.map Prod.fst) (exprs++q.1.map λp=>p.2.au) (hB.sub ea.n om om sm sm) (gb::w1.heap.size::E) G3 b _ lK aR.m cI) ?_
  rintro CH oc ⟨⟨du,qE⟩,cP⟩
  exact fe _ (cP.in _) qE.bG.2.2 (⟨G3,rfl,aR.call qE cP,du⟩)
  refine vf (λ_ _ _ _ _ _=>zi (i:=2) cz aL rfl rfl ((show 2<4 from om)) fv) ?_
  exact trivial
  intro x N9 G87 aS Ke ao7 hJ hlen
  obtain⟨q0,aW⟩:=jh hlen
  subst aW
  have aP:=aP.go Ke;have bL:=bL.go Ke;have bK:=bK.go Ke;have cI:=cI.go Ke
  change OW _ _ _ _ _ (bo (bj _ x _) (zZ 80 [_,_,_,_,_,_,_,_])) _
  obtain⟨G3,bO,aR,du⟩:=hJ
  subst bO
  obtain⟨a7,n7,c7,e7,_,_⟩:=cU du
  have e8:q0=_:=e7
  subst e8
  refine sR (i:=2) (vs:=[str (mv ag eb q.2.2).au.aw,.slice a7 n7 c7]) (row:=(mv ag eb q.2.2).au.enc) aL rfl rfl rfl rfl (by first|rfl|exact Nat.zero_add _) aR.own aR.cC sm (by rw[ia,List.length_set];omega) rfl (oG _) du.kj λHf Bb rS dv=>?_
  rw[sU] at dv
  have aP:=aP.aD Bb aR.jb;have bL:=bL.aD Bb aR.jb
  have aR:=aR.store Bb dv
  refine W ?_
  obtain⟨b3,A3,pR,pS,e3,bK,cI⟩:=eW aP (i:=3) om
  cases e3
  have cI:bB ((gb::w1.heap.size::E)++G3) Hf _ ec.au:=cI
  apply jF dj (((gb::w1.heap.size::E)++G3)) 8 (rA 88 8) (rA 88 8) [[],[0],[],[],[3],[4],[2,5],[1]] [Ie.v _,Ie.v _,Ie.v _,Ie.v _,Ie.v _,Ie.v _,Ie.e 0,Ie.v _] [6] [fun(G:List Nat) (vs:List Value) (ww:World)=>G=((gb::w1.heap.size::E)++G3)∧jX E G3 w ww F b ag (aY ag eb q.2.2).2.2 (aK++q.1.map Prod.fst) (exprs++q.1.map λp=>p.2.au) gb w1.heap.size (.slice (some ⟨gb,0,none⟩) (Ex.ite ea eb ec).au.ak.length fP) (((Ex.ite ea eb ec).au.ak.set 1 q.2.1.au).set 2 (mv ag eb q.2.2).au),fun(G:List Nat) (vs:List Value) (ww:World)=>∃G9,G=((gb::w1.heap.size::E)++G9)∧jX E G9 w ww F b ag (aY ag ec (aY ag eb q.2.2).2.2).2.2 (aK++q.1.map Prod.fst) (exprs++q.1.map λp=>p.2.au) gb w1.heap.size (.slice (some ⟨gb,0,none⟩) (Ex.ite ea eb ec).au.ak.length fP) (((Ex.ite ea eb ec).au.ak.set 1 q.2.1.au).set 2 (mv ag eb q.2.2).au)∧bB ((gb::w1.heap.size::E)++G9) ww (vs.getD 0 undef) (mv ag ec (aY ag eb q.2.2).2.2).au] de rfl aR.cC (by exact trivial) (by exact⟨λG vs w w' ⟨h1,h2⟩ k=>⟨h1,h2.ext k⟩,λG vs w w' ⟨G9,h1,h2,h3⟩ k=>⟨G9,h1,h2.ext k,h3.ext k⟩,trivial⟩) (⟨rfl,aR⟩)
  refine FA ?_
  refine vf (λ_ _ _ _ _ _=>zi (i:=3) cz aL rfl rfl ((show 3<4 from om)) fv) ?_
  refine FA ?_
  refine ve 0 (λx xf G89 aS ahS ao9 hJ hlen=>?_) ?_
  have aW:=jg hlen
  subst aW
  have cI:=cI.go ahS
  obtain⟨bO,aR⟩:=hJ
  subst bO
  refine aA (J4 ba.2.2 (ih ec om ba.2.2) ag (aY ag eb q.2.2).2.2 (aK++q.1.map Prod.fst) (exprs++q.1.map λp=>p.2.au) (hB.sub (ea.n+eb.n) om om sm sm) (gb::w1.heap.size::E) G3 b _ xf aR.m cI) ?_
  rintro CH kF ⟨⟨du,qE⟩,cP⟩
  exact fe _ (cP.in _) qE.bG.2.2 (⟨G3,rfl,aR.call qE cP,du⟩)
  refine vf (λ_ _ _ _ _ _=>zi (i:=3) cz aL rfl rfl ((show 3<4 from om)) fv) ?_
  exact trivial
  intro x apa apb aS ahT apc hJ hlen
  obtain⟨q0,aW⟩:=jh hlen
  subst aW
  have bL:=bL.go ahT
  change OW _ _ _ _ _ (bo (bj _ x _) (zZ 88 [_,_,_,_,_,_,_,_])) _
  obtain⟨G3,bO,aR,du⟩:=hJ
  subst bO
  obtain⟨a7,n7,c7,e7,_,_⟩:=cU du
  have e8:q0=_:=e7
  subst e8
  refine sR (i:=3) (vs:=[str (mv ag ec (aY ag eb q.2.2).2.2).au.aw,.slice a7 n7 c7]) (row:=(mv ag ec (aY ag eb q.2.2).2.2).au.enc) aL rfl rfl rfl rfl (by first|rfl|exact Nat.zero_add _) aR.own aR.cC sm (by rw[ia,List.length_set,List.length_set];omega) rfl (oG _) du.kj λJT VO rS dv=>?_
  rw[sU] at dv
  have bL:=bL.aD VO aR.jb
  have aR:=aR.store VO dv
  refine W ?_
  refine cJ aL rfl rfl rfl aR.bx rfl λNN CL dh ld=>?_
  obtain⟨rU,rV,vF⟩:=aR.fin CL
  refine W ?_
  exact⟨[_],fZ eU aL rfl dh rfl,by rw[J9];exact⟨G3,⟨rU,rV⟩,vF⟩⟩
  have my:e.head≠gj:=λhh=>h4 (jd.trans hh)
  have EN:=VL eJ oF rk
  have wb:=ahG ag n eJ oF rk my
  have hpm:=ahH eJ oF rk
  refine W ?_
  refine eA (λk:Nat=>[(0,.pointer (some ⟨b,0,none⟩)),(4,.pointer (some ⟨w1.heap.size,0,none⟩)),(5,.slice (some ⟨b0,vj,none⟩) e.au.ak.length c),(6,.pointer (some ⟨w4.heap.size,0,none⟩)),(8,.int .i64 ((e.from+k:Nat):Int))]) (λk ww=>∃G2,Fr ((gb::w1.heap.size::E)++F) w6 ((gb::w1.heap.size::E)++G2) ww∧jX E G2 w ww F b ag (gw ag e n k).2.2 (aK++(gw ag e n k).1.map Prod.fst) (exprs++(gw ag e n k).1.map λp=>p.2.au) gb w1.heap.size (.slice (some ⟨gb,0,none⟩) e.au.ak.length fP) (lJ [bJ e.head] (gw ag e n k).2.1 e)∧k<=e.kids.length) (λk=>e.kids.length-k) (0) (⟨rfl,rfl,rfl,rfl,by rw[EN];rfl⟩) (⟨F,Fr.refl _ _,by rw[show lJ [bJ e.head] (gw ag e n 0).2.1 e=e.au.ak from hpm.symm];simpa[gw] using aR,om⟩) λgg w7 e7 hI=>?_
  obtain⟨G2,o8,aR,hk⟩:=hI
  have aP:=aP.go o8;have bL:=bL.go o8
  refine W ?_
  refine zc rfl (λh5=>?_) (λh5=>?_)
  have gL:gg<e.kids.length:=om
  have qo:=qz gg gL
  have fb:=N5 ag e n gg
  obtain⟨b1,eX,gA,gm,e1,bK,cI⟩:=eW aP (i:=e.from+gg) om
  cases e1
  have cI:=cI.eq qo
  have ub:=F4 ba gL
  have BI:=yw gL
  have hkN:=CC e (gg+1)
  have kv:=ahF ag e n hB gL
  refine WZ ?_
  apply jF dj (((gb::w1.heap.size::E)++G2)) 10 (rA 103 10) (rA 103 10) [[],[0],[],[],[],[],[4,5],[6],[3,7],[1,2]] [Ie.v _,Ie.v _,Ie.v _,Ie.v _,Ie.v _,Ie.v _,Ie.v _,Ie.v _,Ie.e 0,Ie.v _] [8] [fun(G:List Nat) (vs:List Value) (ww:World)=>G=((gb::w1.heap.size::E)++G2)∧jX E G2 w ww F b ag (gw ag e n gg).2.2 (aK++(gw ag e n gg).1.map Prod.fst) (exprs++(gw ag e n gg).1.map λp=>p.2.au) gb w1.heap.size (.slice (some ⟨gb,0,none⟩) e.au.ak.length fP) (lJ [bJ e.head] (gw ag e n gg).2.1 e),fun(G:List Nat) (vs:List Value) (ww:World)=>∃G9,G=((gb::w1.heap.size::E)++G9)∧jX E G9 w ww F b ag (gw ag e n (gg+1)).2.2 (aK++(gw ag e n (gg+1)).1.map Prod.fst) (exprs++(gw ag e n (gg+1)).1.map λp=>p.2.au) gb w1.heap.size (.slice (some ⟨gb,0,none⟩) e.au.ak.length fP) (lJ [bJ e.head] (gw ag e n gg).2.1 e)∧bB ((gb::w1.heap.size::E)++G9) ww (vs.getD 0 undef) (dB ag (aY ag (fL e gg) (gw ag e n gg).2.2)).2.1.au] de rfl aR.cC (by exact trivial) (by exact⟨λG vs w w' ⟨h1,h2⟩ k=>⟨h1,h2.ext k⟩,λG vs w w' ⟨G9,h1,h2,h3⟩ k=>⟨G9,h1,h2.ext k,h3.ext k⟩,trivial⟩) (⟨rfl,aR⟩)
  refine FA ?_
  refine ve 0 (λx w8 G8 aS ahW apd hJ hlen=>?_) ?_
  have aW:=jg hlen
  subst aW
  have cI:=cI.go ahW
  obtain⟨bO,aR⟩:=hJ
  subst bO
  refine aA (Vz ub.1 (ih (fL e gg) om ub.1) ag (gw ag e n gg).2.2 (aK++(gw ag e n gg).1.map Prod.fst) (exprs++(gw ag e n gg).1.map λp=>p.2.au) kv (gb::w1.heap.size::E) G2 b _ w8 aR.m cI) ?_
  rintro CH w9 ⟨G9,⟨du,qE⟩,cP⟩
  rw[List.append_assoc,List.append_assoc,<-List.map_append,<-List.map_append] at qE
  exact fe _ (cP.in _) qE.bG.2.2 (⟨G9,rfl,aR.call qE cP,du⟩)
  exact FZ
  intro x wO G47 aS ahX apf hJ hlen
  obtain⟨q0,aW⟩:=jh hlen
  subst aW
  have o8:=o8.go ahX
  change OW _ _ _ _ _ (bo (bj _ x _) (zZ 103 [_,_,_,_,_,_,_,_,_,_])) _
  obtain⟨G3,bO,aR,du⟩:=hJ
  subst bO
  obtain⟨a7,n7,c7,e7,_,_⟩:=cU du
  have e8:q0=_:=e7
  subst e8
  have zu:((lJ [bJ e.head] (gw ag e n gg).2.1 e)).set (e.from+gg) (dB ag (aY ag (fL e gg) (gw ag e n gg).2.2)).2.1.au=(lJ [bJ e.head] (gw ag e n (gg+1)).2.1 e):=(by have:=Vk (pre:=[bJ e.head]) (acc:=(gw ag e n gg).2.1) (e:=e) (y:=(dB ag (aY ag (fL e gg) (gw ag e n gg).2.2)).2.1) om;rw[show[bJ e.head].length=e.from from EN.symm,fb] at this;exact this)
  refine sR (i:=e.from+gg) (vs:=[str (dB ag (aY ag (fL e gg) (gw ag e n gg).2.2)).2.1.au.aw,.slice a7 n7 c7]) (row:=(dB ag (aY ag (fL e gg) (gw ag e n gg).2.2)).2.1.au.enc) aL rfl rfl rfl rfl (by first|rfl|exact Nat.zero_add _) aR.own aR.cC sm (by rw[ia,Vl om];simp;omega) rfl (oG _) du.kj λlK lM rS dv=>?_
  rw[sU,zu] at dv
  have o8:=o8.aD lM aR.jb
  have aR:=aR.store lM dv
  refine W ?_
  exact⟨gg+1,⟨rfl,rfl,rfl,rfl,congrArg (Value.int .i64) om⟩,⟨G3,o8,aR,om⟩,om⟩
  have fG:gg=e.kids.length:=by omega
  subst fG
  have fb:=N5 ag e n e.kids.length
  refine W ?_
  refine cJ aL rfl rfl rfl aR.bx rfl λw8 cE dh ld=>?_
  obtain⟨rU,rV,vF⟩:=aR.fin cE
  rw[Vm fb,<-wb.2.1] at rU
  rw[<-wb.1,<-wb.2.2] at rV
  refine W ?_
  exact⟨[_],fZ eU aL rfl dh rfl,⟨G2,⟨rU,rV⟩,vF⟩⟩
theorem EO (s:ai):(bJ s).size=1+s.length:=by simp[bJ,aq.size,aq.size.sizes]
theorem ahY (hk:fW h=true):h.length<=5:=by
 simp only[fW,oE,dE] at hk
 rcases hk with rfl|rfl<;>decide
theorem ahZ (hk:gH h=true):h.length<=5:=by
 simp only[gH,oE,dE] at hk
 rcases hk with(((rfl|rfl)|rfl)|rfl)|rfl<;>decide
theorem Ex.size:∀{e:Ex},e.ok->e.au.size<=30*e.n
 | .at s,h=>by
  have:s.length<=4:=oo (e:=.at s) h
  show(bJ s).size<=_
  rw[EO];simp only[Ex.n];omega
 | .un hd a,h=>by
  have:=ahY h.1
  have:=Ex.size h.2
  show 1+0+aq.size.sizes [bJ hd,a.au]<=_
  simp only[aq.size.sizes,EO,Ex.n];omega
 | .bi hd a b,h=>by
  have:=ahZ h.1
  have:=Ex.size h.2.1
  have:=Ex.size h.2.2
  show 1+0+aq.size.sizes [bJ hd,a.au,b.au]<=_
  simp only[aq.size.sizes,EO,Ex.n];omega
 | .ite a b c,h=>by
  have:=Ex.size h.1
  have:=Ex.size h.2.1
  have:=Ex.size h.2.2
  have:gj.length=2:=rfl
  show 1+0+aq.size.sizes [bJ gj,a.au,b.au,c.au]<=_
  simp only[aq.size.sizes,EO,Ex.n];omega
 | .lt x a b,h=>by
  have:=En h.1
  have:=Ex.size h.2.1
  have:=Ex.size h.2.2
  have:fV.length=3:=rfl
  show 1+0+aq.size.sizes [bJ fV,bJ x,a.au,b.au]<=_
  simp only[aq.size.sizes,EO,Ex.n];omega
 | .fn f x A B e,h=>by
  have:=En h.1
  have:=En h.2.1
  have:=Ex.size h.2.2.2.2.2
  have:=A.size
  have:=B.size
  have:gF.length=3:=rfl
  show 1+0+aq.size.sizes [bJ gF,bJ f,bJ x,A.au,B.au,e.au]<=_
  simp only[aq.size.sizes,EO,Ex.n];omega
theorem Ex.ah0 (h:e.ok):e.au.text.length<=60*e.n:=by
 have h1:=LW e.au _ (lR _) (Ex.wf h).wf
 have h2:=Ex.size h
 omega
theorem ah1 {q:Ex} (hq:nk e=some q):q.n<=4*e.n:=by
 unfold nk at hq
 cases hp:ql e with
 |none=>rw[hp] at hq;cases hq
 |some p=>
  have eP:p.n=e.n:=by
   unfold ql at hp
   split at hp
   ·cases hp;exact Sj _ e [] 0
   ·cases hp
  rw[hp,Option.bind_some] at hq
  split at hq
  ·cases hq
   have:=uY (kZ p.au []) p 0
   show(nest _ _).n<=_
   rw[Mo];omega
  ·cases hq
theorem ah2 {p:Ex} (hp:ql e=some p):p.n=e.n:=by
 unfold ql at hp
 split at hp
 ·cases hp;exact Sj _ e [] 0
 ·cases hp
theorem ah3 {T:Nat} (h:aJ w b #[] T):dH L w T 2 (.slice (some ⟨b,0,none⟩) 0 0) (some b) []:=
 ⟨⟨[],M1 h,trivial⟩,sm⟩
theorem ah4 (ee:Ex) (hn:ee.n<=120) (ba:ee.ok) (v:Value) (w:World) (hv:bB [] w v ee.au):
  bz Tryz.prog 71 [v] w λr w'=>(∃tv T,r= .tuple #[tv,.bool (nk ee).isSome]∧bB [] w' tv T∧∀f,nk ee=some f->T=f.au)∧aj [] w w':=by
 have cO:=hv
 obtain⟨a,np,c,rfl,eV,aP⟩:=cU hv
 have hK:=aj.refl [] w
 refine kW [.cell 2 78,.tmp 3] 32 Tryz.func71 rfl aaZ rfl rfl rfl ?_
 refine zr<|eH rfl λw1 aI aX dk=>?_
 have hK:=hK.ext aI
 refine dx aL rfl rfl rfl λw2 az aU dC=>?_
 have hK:=hK.grow;have hK:=hK.ext az;have aX:=aX.grow;have aX:=aX.ext az
 refine W ?_
 refine aA (ahf ee hn ba _ [w1.heap.size] w2 (by have:=aU.lt;simpa using this) (bB.ext (bB.fresh cO (by intro x hx;simp at hx;right;omega)) hK)) ?_
 rintro v3 w3 ⟨ko,aH⟩
 have fm:=aH.size
 refine cN aH hK aX aU λhK aX aU=>?_
 obtain⟨tv,rfl,hT⟩:=ko
 have aQ:∃p,p=(bH (cH ee [] []) ee [] 0).1:=⟨_,rfl⟩
 obtain⟨p,mz⟩:=aQ
 rw[<-mz] at hT
 obtain⟨a9,n9,c9,e9,_,_⟩:=cU hT
 subst e9
 have fp:=aj.refl [] w3
 have jV:=hT
 refine W ?_
 refine dx aL rfl rfl rfl λw4 aO aG gQ=>?_
 have hK:=hK.grow;have hK:=hK.ext aO;have aX:=aX.grow;have aX:=aX.ext aO;have aU:=aU.grow;have aU:=aU.ext aO;have fp:=fp.grow;have fp:=fp.ext aO
 refine cJ aL rfl rfl rfl aG rfl λw5 aN aG ig=>?_
 have hK:=hK.aD aN sx;have aX:=aX.aD aN sx;have aU:=aU.aD aN sx;have fp:=fp.aD aN sx
 refine W ?_
 refine zc rfl (λh1=>?_) (λh1=>?_)
 have hx:ql ee=none:=(by simpa using h1)
 have EP:nk ee=none:=by unfold nk;rw[hx];rfl
 refine W ?_
 refine cJ aL rfl rfl rfl aU rfl λw6 bN aU kI=>?_
 have hK:=hK.aD bN sx
 refine W ?_
 exact⟨[_,_],⟨fZ eU aL rfl aU rfl,rfl⟩,⟨_,_,by rw[EP];rfl,bB.ext cO hK,λf hf=>by rw[EP] at hf;cases hf⟩,hK⟩
 have hp:ql ee=some p:=(by rw[mz];unfold ql at h1⊢;split;(·rfl);(·rename_i h9;rw[iN h9] at h1;exact absurd h1 sm))
 have Hq:=Mp ba hp
 have eP:=ah2 hp
 have GM:=Ex.size Hq
 have EJ:=Ex.fh Hq
 have Ch:=So p.au []
 rw[List.length_nil,Nat.zero_add,EJ] at Ch
 have aQ:∃ag,ag=kZ p.au []:=⟨_,rfl⟩
 obtain⟨ag,Oa⟩:=aQ
 refine W ?_
 refine fR bh bf λw6 bN NR kI=>la bN hK aX aU fp aG λhK aX aU fp aG=>?_
 refine aA (ahe p.au.size p.au (lR _) om (Ex.wf Hq).wf [] so _ _ (some _) w6 (bB.ext (bB.fresh jV (by intro x hx;simp at hx;right;omega)) fp) NR.kM) ?_
 rintro xo w7 ⟨g18,xr,CX⟩
 have Ob:=CX.aF.size
 have Oc:=xr.lt
 rw[<-Oa] at xr Ch
 obtain⟨a18,c18,vH⟩:=jS xr
 subst vH
 have hK:=hK.since CX.aF (λx hx=>.inr (by have:=fp.size;simp at hx;omega))
 have fp:=fp.since CX.aF (λx hx=>.inr (by simp at hx;omega))
 have aX:=aX.aF CX.aF so
 have aU:=aU.aF CX.aF so
 have aG:=aG.aF CX.aF so
 have api:=fp.size
 have apj:=aU.lt
 refine fR bh bf λw8 cE CY ld=>la cE hK aU fp aG xr λhK aU fp aG xr=>?_
 refine fR cz aL λw9 aB sW df=>tS aB hK aU fp aG xr CY λhK aU fp aG xr CY=>?_
 refine js (abt _ _ _ _ _ _ _ _ _ _ _) rfl rfl<|eH rfl λcu cB rX Cg=>I3 cB hK aU fp aG xr CY sW λhK aU fp aG xr CY sW=>?_
 refine W ?_
 have ah5:=CY.lt
 have VP:=sW.lt
 have x4:=fp.size
 have o5:∀x,x∈[w1.heap.size]++[w9.heap.size,w7.heap.size,w8.heap.size]->x∉g18.toList:=(λx hx fj=>by have h1:=Oc x fj;have h2:=CX.mem x fj;simp at hx h2;omega)
 have apk:=rX.lt
 have EK:p.n*(2*(ag.length+2))<=120*(2*122):=Nat.mul_le_mul om om
 have hM:M5 t5 [w1.heap.size] [w9.heap.size,w7.heap.size,w8.heap.size] cu w9.heap.size ag 0 [] []:=⟨_,_,_,some _,some _,rX,⟨xr.rep (λx hx fj=>o5 x fj (by simp[hx])),CY.kM,ah3 sW,rfl,by simp;omega,by intro x hx;simp at hx;omega⟩⟩
 refine aA (J4 Hq (ahI p.n p (lR _) Hq) ag 0 [] [] ⟨by omega,by simp;omega,by simp;omega,om⟩ [w1.heap.size] _ w9.heap.size _ cu hM (bB.ext (bB.fresh jV (by intro x hx;simp at hx;rcases hx with h|h;(·exact .inl (by simp[h]));(·right;omega))) fp)) ?_
 rintro v25 eD ⟨⟨sX,ah7⟩,Od⟩
 have aQ:∃q,q=mv ag p 0:=⟨_,rfl⟩
 obtain⟨q,hq⟩:=aQ
 rw[<-hq] at sX
 obtain⟨mS,mT,mU,Oe,_,_⟩:=cU sX
 subst Oe
 have ah8:=Od.aF.size
 have hK:=hK.since Od.aF (λx hx=>.inr (by have:=hK.size;simp at hx;omega))
 have aU:=aU.aF Od.aF so
 obtain⟨vt,vn,vx,gn,ge,bg,_⟩:=ah7.open
 have bg:aJ eD w9.heap.size [vt,.int .i64 ((aY ag p 0).2.2:Int),vn,vx].toArray 140:=bg
 have sX:=sX.gP (L':=[w1.heap.size]) sm
 refine dx aL rfl rfl rfl λfA di cM Of=>?_
 have hK:=hK.grow;have hK:=hK.ext di;have aU:=aU.grow;have aU:=aU.ext di;have sX:=sX.grow;have sX:=sX.ext di;have bg:=bg.grow;have bg:=bg.ext di
 refine cJ aL rfl rfl rfl cM rfl λjB gv cM Hl=>?_
 have hK:=hK.aD gv sx;have aU:=aU.aD gv sx;have sX:=sX.aD gv sx;have bg:=bg.aD gv sx
 refine W ?_
 refine zB dj (cj w1.heap.size ([str q.au.aw,.slice mS mT mU]) 78) 8 (rA 26 6++[100006,3]) (rA 26 6++[100006,3]) [[],[],[1],[2],[3],[4],[0],[5]] [λv _=>v=(.agg #[str q.au.aw,.slice mS mT mU]),λv _=>v=(.pointer (some ⟨w9.heap.size,0,none⟩)),λv _=>v=(.pointer (some ⟨w9.heap.size,0,none⟩)),λv _=>v=(.pointer (some ⟨w9.heap.size,0+1,none⟩)),λv _=>v=(.int .i64 ((aY ag p 0).2.2:Int)),λv _=>v=(.bool (decide (((aY ag p 0).2.2:Int)<=100))),λ_ ww=>aJ ww w1.heap.size ([str q.au.aw,.slice mS mT mU]).toArray 78,λv _=>v=(.bool (decide (((aY ag p 0).2.2:Int)<=100)))] de (fu (fu (fu (fu (fu (fu (DH (fu trivial)))))))) (λwd aC=>?_) ?_
 refine eh ?_ ?_
 intro x vs iG e dA hd he
 replace dA:=(cj w1.heap.size ([str q.au.aw,.slice mS mT mU]) 78).trans aC dA
 have cM:=cM.aD dA.1 sx
 replace he:e=bo (bj _ x _) []:=he
 subst he
 refine W ?_
 exact dn ((cj w1.heap.size ([str q.au.aw,.slice mS mT mU]) 78).refl _) rfl
 refine eh ?_ ?_
 intro x vs iG e dA hd he
 replace dA:=(cj w1.heap.size ([str q.au.aw,.slice mS mT mU]) 78).trans aC dA
 replace he:e=bo (bj _ x _) []:=he
 subst he
 refine W ?_
 exact dn ((cj w1.heap.size ([str q.au.aw,.slice mS mT mU]) 78).refl _) rfl
 refine eh ?_ ?_
 intro x vs iG e dA hd he
 have d1:vs 1=(.pointer (some ⟨w9.heap.size,0,none⟩)):=hd
 replace dA:=(cj w1.heap.size ([str q.au.aw,.slice mS mT mU]) 78).trans aC dA
 replace he:e=bo (bj _ x _) [(27,vs 1)]:=he
 rw[d1] at he
 subst he
 refine W ?_
 exact dn ((cj w1.heap.size ([str q.au.aw,.slice mS mT mU]) 78).refl _) rfl
 refine eh ?_ ?_
 intro x vs iG e dA hd he
 have d2:vs 2=(.pointer (some ⟨w9.heap.size,0,none⟩)):=hd
 replace dA:=(cj w1.heap.size ([str q.au.aw,.slice mS mT mU]) 78).trans aC dA
 replace he:e=bo (bj _ x _) [(28,vs 2)]:=he
 rw[d2] at he
 subst he
 refine W ?_
 exact dn ((cj w1.heap.size ([str q.au.aw,.slice mS mT mU]) 78).refl _) rfl
 refine eh ?_ ?_
 intro x vs iG e dA hd he
 have d3:vs 3=(.pointer (some ⟨w9.heap.size,0+1,none⟩)):=hd
 replace dA:=(cj w1.heap.size ([str q.au.aw,.slice mS mT mU]) 78).trans aC dA
 have bg:=bg.aD dA.1 sx
 replace he:e=bo (bj _ x _) [(29,vs 3)]:=he
 rw[d3] at he
 subst he
 refine W ?_
 exact dn ((cj w1.heap.size ([str q.au.aw,.slice mS mT mU]) 78).refl _) rfl
 refine eh ?_ ?_
 intro x vs iG e dA hd he
 have d4:vs 4=(.int .i64 ((aY ag p 0).2.2:Int)):=hd
 replace dA:=(cj w1.heap.size ([str q.au.aw,.slice mS mT mU]) 78).trans aC dA
 replace he:e=bo (bj _ x _) [(30,vs 4)]:=he
 rw[d4] at he
 subst he
 refine W ?_
 exact dn ((cj w1.heap.size ([str q.au.aw,.slice mS mT mU]) 78).refl _) rfl
 refine eh ?_ ?_
 intro x vs iG e dA hd he
 have d0:vs 0=(.agg #[str q.au.aw,.slice mS mT mU]):=hd
 replace dA:=(cj w1.heap.size ([str q.au.aw,.slice mS mT mU]) 78).trans aC dA
 obtain⟨us,vm,vq⟩:=dA.2.2 ⟨_,(by rfl),aU⟩
 replace he:e=bo (bj _ x _) [(26,vs 0)]:=he
 rw[d0] at he
 subst he
 refine cJ aL rfl rfl rfl vq (by rw[vm];rfl) λp3 jJ hb JL=>W ?_
 exact dn ⟨jJ,λ_=>hb,λ_=>⟨_,rfl,hb⟩⟩ hb
 refine eh ?_ ?_
 intro x vs iG e dA hd he
 have d5:vs 5=(.bool (decide (((aY ag p 0).2.2:Int)<=100))):=hd
 replace dA:=(cj w1.heap.size ([str q.au.aw,.slice mS mT mU]) 78).trans aC dA
 replace he:e=bo (bj _ x _) [(31,vs 5)]:=he
 rw[d5] at he
 subst he
 refine W ?_
 exact dn ((cj w1.heap.size ([str q.au.aw,.slice mS mT mU]) 78).refl _) rfl
 exact trivial
 intro x vs r6 Kf dP
 have d0:vs 0=(.agg #[str q.au.aw,.slice mS mT mU]):=dP 0 de
 have d1:vs 1=(.pointer (some ⟨w9.heap.size,0,none⟩)):=dP 1 de
 have d2:vs 2=(.pointer (some ⟨w9.heap.size,0,none⟩)):=dP 2 de
 have d3:vs 3=(.pointer (some ⟨w9.heap.size,0+1,none⟩)):=dP 3 de
 have d4:vs 4=(.int .i64 ((aY ag p 0).2.2:Int)):=dP 4 de
 have d5:vs 5=(.bool (decide (((aY ag p 0).2.2:Int)<=100))):=dP 5 de
 have d6:aJ r6 w1.heap.size ([str q.au.aw,.slice mS mT mU]).toArray 78:=dP 6 de
 have d7:vs 7=(.bool (decide (((aY ag p 0).2.2:Int)<=100))):=dP 7 de
 have hK:=hK.aD Kf.1 sx;have sX:=sX.aD Kf.1 sx
 have aU:=d6
 change OW _ _ _ _ [] (bo (bj _ x _) (zZ 26 [vs 0,vs 1,vs 2,vs 3,vs 4,vs 5]++[(100006,vs 6),(3,vs 7)])) _
 rw[d0,d1,d2,d3,d4,d5,d7]
 refine W ?_
 exact⟨[_,_],⟨fZ eU aL rfl aU rfl,rfl⟩,⟨_,q.au,congrArg (λb=>Value.tuple #[_,.bool b]) (show decide (((aY ag p 0).2.2:Int)<=100)=(nk ee).isSome from by unfold nk;rw[hp,Option.bind_some,<-Oa];by_cases h:(aY ag p 0).2.2<=100;(·rw[iP h];exact dT om);(·rw[iN h];exact dF om)),sX.gP sm,λf hf=>by unfold nk at hf;rw[hp,Option.bind_some,<-Oa] at hf;split at hf;(·cases hf;rw[hq]);(·cases hf)⟩,hK⟩
theorem ah9 (s:ai) (w:World):bz Tryz.prog 45 [str s] w λr w'=>(∃x ok,r= .tuple #[str x,.bool ok]∧(ok=true↔∃e f,bA s=some e.au∧e.ok∧e.n<=120∧nk e=some f∧l7 f.au.text=true)∧∀e f,bA s=some e.au->e.ok->nk e=some f->ok=true->x=f.au.text)∧aj [] w w':=by
 have hK:=aj.refl [] w
 refine bS [.tmp 2,.tmp 3] 30 Tryz.func45 rfl aaz rfl rfl ?_
 refine W ?_
 refine aA (GR s [] w sm) ?_
 rintro v1 w1 ⟨fX,aI⟩
 have cV:=aI.size
 have hK:=hK.ext aI
 obtain⟨t,tv,rfl,ht,hp⟩:=fX
 obtain⟨pa,pn,pc,rfl,eP,aP⟩:=cU ht
 refine W ?_
 refine dx aL rfl rfl rfl λw2 az aG dC=>?_
 have hK:=hK.grow;have hK:=hK.ext az;have ht:=ht.grow;have ht:=ht.ext az
 refine cJ aL rfl rfl rfl aG rfl λw3 aH aG gJ=>?_
 have hK:=hK.aD aH sx;have ht:=ht.aD aH sx
 refine W ?_
 refine zc rfl (λh1=>?_) (λh1=>?_)
 have hx:l7 s=false:=by simpa using h1
 refine W ?_
 exact⟨_,rfl,⟨_,false,rfl,⟨λh=>by(cases h),fun⟨e,f,h1,h2,h3,_⟩=>by rw[wY.2 ⟨e,h1,h2,h3⟩] at hx;cases hx⟩,λ_ _ _ _ _ h=>by cases h⟩,hK⟩
 have hx:l7 s=true:=by simpa using h1
 obtain⟨e,he,ba,hn⟩:=wY.1 hx
 have e2:=hp.1 _ he
 subst e2
 have ER:∀{e':Ex},bA s=some e'.au->e'.ok->e'=e:=(λh1 h2=>qA h2 ba (Option.some.inj (h1.symm.trans he)))
 refine W ?_
 refine aA (ah4 e hn ba _ w3 (ht.gP sm)) ?_
 rintro v4 w4 ⟨jR,aO⟩
 have fE:=aO.size
 have hK:=hK.ext aO
 obtain⟨tv2,T,rfl,hT,Og⟩:=jR
 obtain⟨iA,AZ,iw,rfl,Jz,Oh⟩:=cU hT
 refine W ?_
 refine dx aL rfl rfl rfl λw5 aN bL ig=>?_
 have hK:=hK.grow;have hK:=hK.ext aN;have hT:=hT.grow;have hT:=hT.ext aN
 refine cJ aL rfl rfl rfl bL rfl λw6 bN bL kI=>?_
 have hK:=hK.aD bN sx;have hT:=hT.aD bN sx
 refine W ?_
 refine xM (t:=22) rfl (λh2=>?_) (λh2=>?_)
 replace h2:=jj h2
 have EP:nk e=none:=(by simpa using h2)
 refine W ?_
 refine zc rfl (λh3=>?_) (λh3=>?_)
 refine W ?_
 exact⟨_,rfl,⟨_,false,rfl,⟨λh=>by(cases h),fun⟨e',f',h1,h2,h3,h4,_⟩=>by cases ER h1 h2;rw[EP] at h4;cases h4⟩,λ_ _ _ _ _ h=>by cases h⟩,hK⟩
 simp at h3
 replace h2:=jj h2
 have aQ:∃f,nk e=some f:=(by cases hh:nk e;(·simp[hh] at h2);(·exact⟨_,rfl⟩))
 obtain⟨f,hf⟩:=aQ
 have e9:=Og f hf
 subst e9
 have Bc:=Mq ba hf
 have Oi:=ah1 hf
 have hfz:=Ex.size Bc
 have Oj:=Ex.ah0 Bc
 refine W ?_
 refine aA (tW f.au.size f.au (lR _) (Ex.wf Bc).wf om om _ _ w6 hT) ?_
 rintro _ w7 ⟨rfl,bW⟩
 have lf:=bW.size
 refine cN bW hK hT bL λhK hT bL=>?_
 refine aA (Ny _ w7) ?_
 rintro _ w8 ⟨rfl,cE⟩
 have A4:=cE.size
 refine cN cE hK hT bL λhK hT bL=>?_
 refine W ?_
 refine zc rfl (λh4=>?_) (λh4=>?_)
 have fj:l7 f.au.text=false:=(by simpa using h4)
 refine W ?_
 exact⟨_,rfl,⟨_,false,rfl,⟨λh=>by(cases h),fun⟨e',f',h1,h2,h3,h4,h5⟩=>by cases ER h1 h2;rw[hf] at h4;cases h4;rw[fj] at h5;cases h5⟩,λ_ _ _ _ _ h=>by cases h⟩,hK⟩
 have fj:l7 f.au.text=true:=(by simpa using h4)
 refine W ?_
 refine aA (tW f.au.size f.au (lR _) (Ex.wf Bc).wf om om _ _ w8 hT) ?_
 rintro _ w9 ⟨rfl,aB⟩
 have o7:=aB.size
 have hK:=hK.ext aB
 refine W ?_
 exact⟨_,rfl,⟨_,true,rfl,⟨λ_=>⟨e,f,he,ba,hn,hf,fj⟩,λ_=>rfl⟩,λe' f' h1 h2 h3 _=>by cases ER h1 h2;rw[hf] at h3;cases h3;rfl⟩,hK⟩
def eE:Option Ty->ai
 |some T=>T.text
 |none=>[]
def mc (h:ai) (Ts:List Ty):Prop:=(fW h=true∧∃A,Ts=[A])∨(gH h=true∧∃A B,Ts=[A,B])∨(h=gj∧∃A B C,Ts=[A,B,C])
theorem mc.pos {Ts:List Ty} (hj:mc h Ts):0<Ts.length:=by
 rcases hj with⟨_,A,rfl⟩|⟨_,A,B,rfl⟩|⟨_,A,B,C,rfl⟩<;>simp
theorem mc.three {Ts:List Ty} (hj:mc gj Ts):∃A B C,Ts=[A,B,C]:=by
 rcases hj with⟨h,_⟩|⟨h,_⟩|⟨_,h⟩
 ·exact absurd h de
 ·exact absurd h de
 ·exact h
theorem mc.two {Ts:List Ty} (hj:mc h Ts) (hb:gH h=true):∃A B,Ts=[A,B]:=by
 rcases hj with⟨h1,_⟩|⟨_,h1⟩|⟨rfl,_⟩
 ·exfalso
  simp only[fW,oE,dE] at h1
  rcases h1 with rfl|rfl<;>exact absurd hb de
 ·exact h1
 ·exact absurd hb de
theorem mc.one {Ts:List Ty} (hj:mc h Ts) (hb:fW h=true):∃A,Ts=[A]:=by
 rcases hj with⟨_,h1⟩|⟨h1,_⟩|⟨rfl,_⟩
 ·exact h1
 ·exfalso
  simp only[fW,oE,dE] at hb
  rcases hb with rfl|rfl<;>exact absurd h1 de
 ·exact absurd hb de
def yG (f:Bool):Ty->Option (Ty×Ty)
 | .op g a b=>if g=f then some (a,b) else none
 | .i=>none
theorem VQ:A.text=[105]↔A= .i:=⟨λh=>Ty.inj (h.trans (rfl:([105]:ai)=Ty.text .i)),λh=>by rw[h];rfl⟩
theorem aia:fW B2=true:=by simp[fW]
theorem aib:fW qT=true:=by simp[fW]
theorem VR:gH j4=true:=by simp[gH]
theorem aic:gH xS=true:=by simp[gH]
theorem VS (hh:(h=[43]∨h=[45])∨h=[42]):gH h=true:=by
 rcases hh with(rfl|rfl)|rfl<;>simp[gH]
theorem aid (h:ai) (ks:List ai) (hl:ks.length<=1000) (hn:[]∈ks) (v:Value) (L:List Nat) (w:World) (hv:bc L w v ks):
  bz Tryz.prog 124 [str h,v] w λr w'=>r=str []∧aj [] w w':=by
 have hK:=aj.refl [] w
 refine bS [.tmp 4] 117 Tryz.func124 rfl QA rfl rfl ?_
 refine W ?_
 refine aA (AP ks om [] _ _ w hv) ?_
 rintro _ w1 ⟨rfl,aI⟩
 have cV:=aI.size
 have hK:=hK.ext aI
 refine aZ<|zc rfl (λh1=>?_) (λh1=>?_)
 refine W ?_
 exact⟨_,rfl,rfl,hK⟩
 exact absurd hn (by simpa using h1)
theorem aie {B:Ty} (ho:o=yG true A) (hs:o.isSome=true) (he:sQ o=B.text):str (yt o)=str (eE (kB j4 [A,B])):=by
 cases A with
 |i=>rw[ho] at hs;cases hs
 |op g a b=>
  cases g with
  |false=>rw[ho] at hs;cases hs
  |true=>
   subst ho
   have he:a.text=B.text:=he
   show str b.text=str (eE (if kA a B=true then some b else none))
   rw[iP (show kA a B=true from dT he)];rfl
theorem VT (ho:o=yG false A) (hs:o.isSome=true):str (sQ o)=str (eE (kB B2 [A]))∧str (yt o)=str (eE (kB qT [A])):=by
 cases A with
 |i=>rw[ho] at hs;cases hs
 |op g a b=>
  cases g with
  |true=>rw[ho] at hs;cases hs
  |false=>subst ho;exact⟨rfl,rfl⟩
theorem aif (A B:Ty):eE (kB xS [A,B])=if 1+A.n+B.n<=16 then(Ty.op false A B).text else[]:=by
 show eE (if 1+A.n+B.n<=16 then some (.op false A B) else none)=_
 split<;>rfl
theorem aih (hh:(h=[43]∨h=[45])∨h=[42]):eE (kB h [.i,.i])=[105]:=by
 rcases hh with(rfl|rfl)|rfl<;>rfl
theorem aii (hj:mc h (A::r9)) {o1 o2:Option (Ty×Ty)} (xu:o1=yG true A) (vJ:o2=yG false A) 
  (bK:(decide (h=gj)&&decide (A.text=[105])&&decide ((bX ((A::r9).map Ty.text) 1)=(bX ((A::r9).map Ty.text) 2)))=false) (bU:(decide (h=j4)&&o1.isSome&&decide (sQ o1=(bX ((A::r9).map Ty.text) 1)))=false) (dO:¬h=xS)
  (jx:(decide (h=B2)&&o2.isSome)=false) (j9:(decide (h=qT)&&o2.isSome)=false) (qq:(((decide (h=[43])||decide (h=[45]))||decide (h=[42]))&&decide (A.text=[105])&&decide ((bX ((A::r9).map Ty.text) 1)=[105]))=false):eE (kB h (A::r9))=[]:=by
 rcases hj with⟨hu,A0,e⟩|⟨hb,A0,B,e⟩|⟨rfl,A0,B,C0,e⟩<;>cases e
 ·simp only[fW,oE,dE] at hu
  cases A with
  |i=>rfl
  |op g a b=>
   cases g with
   |true=>rfl
   |false=>
    subst vJ
    rcases hu with rfl|rfl
    ·exact Bool.noConfusion (show true=false from jx)
    ·exact Bool.noConfusion (show true=false from j9)
 ·have Ok:bX ([A,B].map Ty.text) 1=B.text:=rfl
  rw[Ok] at bU qq
  have Ol:(h=[43]∨h=[45])∨h=[42]->eE (kB h [A,B])=[]:=λhh=>by
   have h0:((decide (h=[43])||decide (h=[45]))||decide (h=[42]))=true:=by simpa using hh
   rw[h0,Bool.true_and,Bool.and_eq_false_iff] at qq
   have h1:kB h [A,B]=if(kA A .i&&kA B .i)=true then some .i else none:=by
    rcases hh with(rfl|rfl)|rfl<;>rfl
   have hi:Ty.i.text=[105]:=rfl
   rw[h1,iN (by unfold kA;rw[hi];rcases qq with h|h<;>rw[h]<;>simp)];rfl
  simp only[gH,oE,dE] at hb
  rcases hb with(((rfl|rfl)|rfl)|rfl)|rfl
  ·exact Ol (.inl (.inl rfl))
  ·exact Ol (.inl (.inr rfl))
  ·exact Ol (.inr rfl)
  ·cases A with
   |i=>rfl
   |op g a b=>
    cases g with
    |false=>rfl
    |true=>
     subst xu
     have bU:decide (a.text=B.text)=false:=bU
     show eE (if kA a B=true then some b else none)=[]
     rw[iN (by unfold kA;rw[bU];simp)];rfl
  ·exact absurd rfl dO
 ·have Ok:bX ([A,B,C0].map Ty.text) 1=B.text:=rfl
  have hcC:bX ([A,B,C0].map Ty.text) 2=C0.text:=rfl
  rw[Ok,hcC] at bK
  have bK:(decide (A.text=[105])&&decide (B.text=C0.text))=false:=bK
  show eE (if(kA A .i&&kA B C0)=true then some B else none)=[]
  have hi:Ty.i.text=[105]:=rfl
  rw[iN (by unfold kA;rw[hi,bK];simp)];rfl
theorem aik (hj:mc h (A::r9)) (hh:h=gj) (hA:A.text=[105]) (hB:(bX ((A::r9).map Ty.text) 1)=(bX ((A::r9).map Ty.text) 2)):str (bX ((A::r9).map Ty.text) 1)=str (eE (kB h (A::r9))):=by
 subst hh
 obtain⟨A0,B,C0,e⟩:=hj.three
 cases e
 have hB:B.text=C0.text:=hB
 show str B.text=str (eE (if(kA A .i&&kA B C0)=true then some B else none))
 rw[iP (by rw[aE];exact⟨dT hA,dT hB⟩)];rfl
theorem ail (hj:mc h (A::r9)) (hh:h=j4) (ho:o=yG true A) (hs:o.isSome=true) (he:sQ o=(bX ((A::r9).map Ty.text) 1)):str (yt o)=str (eE (kB h (A::r9))):=by
 subst hh
 obtain⟨A0,B,e⟩:=hj.two VR
 cases e
 exact aie ho hs he
theorem aim (hj:mc h (A::r9)) (hh:h=B2) (ho:o=yG false A) (hs:o.isSome=true):str (sQ o)=str (eE (kB h (A::r9))):=by
 subst hh
 obtain⟨A0,e⟩:=hj.one aia
 cases e
 exact(VT ho hs).1
theorem ain (hj:mc h (A::r9)) (hh:h=qT) (ho:o=yG false A) (hs:o.isSome=true):str (yt o)=str (eE (kB h (A::r9))):=by
 subst hh
 obtain⟨A0,e⟩:=hj.one aib
 cases e
 exact(VT ho hs).2
theorem aio {B:Ty} (hh:h=xS) (e:A::r9=[A,B]):str (if 1+A.n+B.n<=16 then(Ty.op false A B).text else[])=str (eE (kB h (A::r9))):=by
 subst hh
 rw[e,aif]
theorem aip (hj:mc h (A::r9)) (hh:(h=[43]∨h=[45])∨h=[42]) (hA:A.text=[105]) (hB:(bX ((A::r9).map Ty.text) 1)=[105]):str [105]=str (eE (kB h (A::r9))):=by
 obtain⟨A0,B,e⟩:=hj.two (VS hh)
 cases e
 have hB:B.text=[105]:=hB
 obtain rfl:=VQ.1 hA
 obtain rfl:=VQ.1 hB
 rw[aih hh]
theorem aiq (hj:mc h (A::r9)) (hh:h=xS):∃B,A::r9=[A,B]∧(bX ((A::r9).map Ty.text) 1)=B.text:=by
 subst hh
 obtain⟨A0,B,e⟩:=hj.two aic
 cases e
 exact⟨B,rfl,rfl⟩
theorem air (h:ai) (Ts:List Ty) (hj:mc h Ts) (hT:∀T,T∈Ts->T.n<=16) (v:Value) (L:List Nat) (w:World) (hv:bc L w v (Ts.map Ty.text)):
  bz Tryz.prog 124 [str h,v] w λr w'=>r=str (eE (kB h Ts))∧aj [] w w':=by
 have hK:=aj.refl [] w
 have hp:=hj.pos
 have cO:=hv
 obtain⟨a,np,c,rfl,VU⟩:=dJ hv
 have eu:(Ts.map Ty.text).length=Ts.length:=by simp
 rw[eu] at VU
 subst VU
 obtain⟨A,r9,rfl⟩:∃A r,Ts=A::r:=by cases Ts with|nil=>simp at hp|cons A r=>exact⟨A,r,rfl⟩
 have hA:=hT A sm
 have hg:∀i,i<(A::r9).length->(((A::r9).map Ty.text)[i]?=some (bX ((A::r9).map Ty.text) i)):=λi hi=>km (by rw[eu];exact hi)
 obtain⟨b,off,rfl,et⟩:=pB cO (hg 0 hp)
 have hx:∀i,i<(A::r9).length->fS w b (off+i*1) [str (bX ((A::r9).map Ty.text) i)]:=λi hi=>by obtain⟨b1,eX,e1,hc⟩:=pB cO (hg i hi);cases e1;exact hc
 have dL:([]:ai)∉(A::r9).map Ty.text:=λhm=>by obtain⟨T,_,h2⟩:=List.mem_map.1 hm;exact absurd h2 T.ne
 refine bS [.tmp 4] 117 Tryz.func124 rfl QA rfl rfl ?_
 refine W ?_
 refine aA (AP ((A::r9).map Ty.text) (by rw[eu];rcases hj with⟨_,_,e⟩|⟨_,_,_,e⟩|⟨_,_,_,_,e⟩<;>rw[e]<;>simp) [] _ _ w cO) ?_
 rintro _ w1 ⟨rfl,aI⟩
 have cV:=aI.size
 have hK:=hK.ext aI
 refine aZ<|zc rfl (λh1=>?_) (λh1=>?_)
 exact absurd (by simpa using h1) dL
 refine gY<|zr<|zm<|zi (i:=0) bh bf rfl rfl hp<|zl gD rfl ((hx 0 hp).ext hK 0 _ rfl)<|aA (UN A.text w1) ?_
 rintro v2 w2 ⟨ij,az⟩
 have dm:=az.size
 have hK:=hK.ext az
 obtain⟨o1,xu,rfl⟩:=ij
 have xu:o1=yG true A:=(by have:=UP hA true xu;cases A<;>exact this)
 refine WI ?_
 refine zi (i:=0) bh bf rfl rfl hp<|zl gD rfl ((hx 0 hp).ext hK 0 _ rfl)<|aA (UO A.text w2) ?_
 rintro v3 w3 ⟨ko,aH⟩
 have fm:=aH.size
 have hK:=hK.ext aH
 obtain⟨o2,vJ,rfl⟩:=ko
 have vJ:o2=yG false A:=(by have:=UP hA false vJ;cases A<;>exact this)
 refine W ?_
 refine D8 [32,33,34,35,36,37,38,39,40,41,42,43,44,45,46,47,48,31] [(31,.bool (decide (h=gj)&&decide (A.text=[105])&&decide ((bX ((A::r9).map Ty.text) 1)=(bX ((A::r9).map Ty.text) 2))))] ?_ ?_
 rcases bE (decide (h=gj)) with iD|iD
 rcases bE (decide (h=gj)&&decide (A.text=[105])) with mx|mx
 apply k8 dj 18 (rA 32 17++[31]) (rA 32 17++[31]) [[],[0],[1],[2],[2,3],[2,4],[2,5],[2,6],[7],[8],[8,9],[8,10],[8],[8,12],[8,13],[8,11,14],[8,15],[16]] [It.v _,It.v _,It.v (.bool true),It.v _,It.v _,It.v _,It.v _,It.v _,It.v (.bool true),It.v _,It.v _,It.v _,It.v _,It.v _,It.v _,It.v _,It.v _,It.v _] de rfl
 intro wd aC
 refine VA ?_
 refine vc (λx w4 aO=>?_) ?_
 refine WZ ?_
 exact pv (by exact congrArg Value.bool iD)
 refine vc (λ_ _ _=>WZ pv) ?_
 refine vk aC (λx w4 aO=>?_) ?_
 refine zi (i:=0) bh bf rfl rfl hp ?_
 exact pv
 refine vk aC (λx w4 aO=>?_) ?_
 have hK:=hK.ext aO
 refine zl gD rfl ((hx 0 hp).ext hK 0 _ rfl) ?_
 exact pv
 refine VA ?_
 refine vc (λx w4 aO=>?_) ?_
 refine zm ?_
 exact pv (by first|exact congrArg Value.bool mx|(rw[iD] at mx;exact congrArg Value.bool mx))
 refine VA ?_
 refine vk aC (λx w4 aO=>?_) ?_
 have hg:=mx
 refine zi (i:=1) bh bf rfl rfl ((by simp only[aE,dE] at hg;obtain⟨_,_,_,e⟩:=(hg.1▸hj:mc gj _).three;rw[e];simp)) ?_
 exact pv
 refine vk aC (λx w4 aO=>?_) ?_
 have hK:=hK.ext aO
 have hg:=mx
 refine zl gD rfl ((hx 1 (by simp only[aE,dE] at hg;obtain⟨_,_,_,e⟩:=(hg.1▸hj:mc gj _).three;rw[e];simp)).ext hK 0 _ rfl) ?_
 exact pv
 refine VA ?_
 refine vk aC (λx w4 aO=>?_) ?_
 have hg:=mx
 refine zi (i:=2) bh bf rfl rfl ((by simp only[aE,dE] at hg;obtain⟨_,_,_,e⟩:=(hg.1▸hj:mc gj _).three;rw[e];simp)) ?_
 exact pv
 refine vk aC (λx w4 aO=>?_) ?_
 have hK:=hK.ext aO
 have hg:=mx
 refine zl gD rfl ((hx 2 (by simp only[aE,dE] at hg;obtain⟨_,_,_,e⟩:=(hg.1▸hj:mc gj _).three;rw[e];simp)).ext hK 0 _ rfl) ?_
 exact pv
 exact VZ
 intro x oZ jy
 change OW _ _ _ _ [] (bo (bj _ x _) (zZ 32 [_,_,_,_,_,_,_,_,_,_,_,_,_,_,_,_,_]++[(31,_)])) _
 refine W ?_
 exact kE jy
 apply k8 dj 18 (rA 32 17++[31]) (rA 32 17++[31]) [[],[0],[1],[2],[2,3],[2,4],[2,5],[2,6],[7],[8],[8,9],[8,10],[8],[8,12],[8,13],[8,11,14],[8,15],[16]] [It.v _,It.v _,It.v (.bool true),It.v _,It.v _,It.v _,It.v _,It.v _,It.v (.bool false),It.v _,It.v _,It.v _,It.v _,It.v _,It.v _,It.v _,It.v _,It.v _] de rfl
 intro wd aC
 refine VA ?_
 refine vc (λx w4 aO=>?_) ?_
 refine WZ ?_
 exact pv (by exact congrArg Value.bool iD)
 refine vc (λ_ _ _=>WZ pv) ?_
 refine vk aC (λx w4 aO=>?_) ?_
 refine zi (i:=0) bh bf rfl rfl hp ?_
 exact pv
 refine vk aC (λx w4 aO=>?_) ?_
 have hK:=hK.ext aO
 refine zl gD rfl ((hx 0 hp).ext hK 0 _ rfl) ?_
 exact pv
 refine VA ?_
 refine vc (λx w4 aO=>?_) ?_
 refine zm ?_
 exact pv (by first|exact congrArg Value.bool mx|(rw[iD] at mx;exact congrArg Value.bool mx))
 exact VZ
 intro x oZ jy
 change OW _ _ _ _ [] (bo (bj _ x _) (zZ 32 [_,_,_,_,_,_,_,_,_,_,_,_,_,_,_,_,_]++[(31,_)])) _
 refine W ?_
 exact kE jy
 apply k8 dj 18 (rA 32 17++[31]) (rA 32 17++[31]) [[],[0],[1],[2],[2,3],[2,4],[2,5],[2,6],[7],[8],[8,9],[8,10],[8],[8,12],[8,13],[8,11,14],[8,15],[16]] [It.v _,It.v _,It.v (.bool false),It.v _,It.v _,It.v _,It.v _,It.v _,It.v (.bool false),It.v _,It.v _,It.v _,It.v _,It.v _,It.v _,It.v _,It.v _,It.v _] de rfl
 intro wd aC
 refine VA ?_
 refine vc (λx w4 aO=>?_) ?_
 refine WZ ?_
 exact pv (by exact congrArg Value.bool iD)
 refine vc (λx w4 aO=>?_) ?_
 exact cF pv
 refine vk aC (λx w4 aO=>?_) ?_
 exact cF pv
 refine vk aC (λx w4 aO=>?_) ?_
 exact cF pv
 refine vk aC (λx w4 aO=>?_) ?_
 exact cF pv
 refine vc (λ_ _ _=>WZ pv) ?_
 refine vc (λx w4 aO=>?_) ?_
 refine WZ ?_
 exact pv (by rfl)
 exact VZ
 intro x oZ jy
 change OW _ _ _ _ [] (bo (bj _ x _) (zZ 32 [_,_,_,_,_,_,_,_,_,_,_,_,_,_,_,_,_]++[(31,_)])) _
 refine W ?_
 exact kE jy
 intro x oZ jy
 have hK:=hK.ext jy
 refine zc rfl (λh2=>?_) (λh2=>?_)
 simp only[aE,dE] at h2
 obtain⟨⟨hh,ES⟩,hBC⟩:=h2
 have iy:1<(A::r9).length:=(by obtain⟨_,_,_,e⟩:=(hh▸hj:mc gj _).three;rw[e];simp)
 refine zr<|zm<|zi (i:=1) bh bf rfl rfl iy<|zl gD rfl ((hx 1 iy).ext hK 0 _ rfl)<|zA<|aZ<|jZ ?_
 exact⟨_,rfl,aik hj hh ES hBC,hK⟩
 have bK:=h2
 refine WZ ?_
 apply oB 2 55 57 rfl oQ
 intro _
 exact oQ
 intro xx
 refine WZ ?_
 apply oB 6 58 64 rfl oQ
 intro h4
 have iy:1<(A::r9).length:=(by simp only[aE,dE] at h4;obtain⟨_,_,e⟩:=hj.two (h4.1▸VR);rw[e];simp)
 refine zm<|zm<|zi (i:=1) bh bf rfl rfl iy<|zl gD rfl ((hx 1 iy).ext hK 0 _ rfl) ?_
 exact oQ
 intro xx
 refine zA<|aZ<|zc rfl (λh5=>?_) (λh5=>?_)
 simp only[aE,dE] at h5
 obtain⟨⟨hh,cV⟩,IK⟩:=h5
 refine W ?_
 exact⟨_,rfl,ail hj hh xu cV IK,hK⟩
 have bU:=h5
 refine W ?_
 refine zc rfl (λh6=>?_) (λh6=>?_)
 have hh:h=xS:=h6
 obtain⟨B,eB,hK1⟩:=aiq hj hh
 have iy:1<(A::r9).length:=(by rw[eB];simp)
 have ik:=hx 1 iy
 rw[hK1] at ik
 refine WZ ?_
 apply dV dj 12 [70,71,72,73,74,75,76,69,77,78,11,12] [[],[0],[1],[],[3],[4],[2,5],[6],[7],[7],[8],[9]] (it [_,_,_,_,_,_,_,_,_,_,_,_]) de rfl
 intro wd aC
 refine vc (λ_ _ _=>WZ pv) ?_
 refine vk aC (λx o4 iX=>?_) ?_
 refine zi (i:=0) bh bf rfl rfl hp ?_
 exact pv
 refine vk aC (λx o4 iX=>?_) ?_
 have hK:=hK.ext iX
 refine zl gD rfl ((hx 0 hp).ext hK 0 _ rfl) ?_
 exact pv
 refine vc (λ_ _ _=>WZ pv) ?_
 refine vk aC (λx o4 iX=>?_) ?_
 refine zi (i:=1) bh bf rfl rfl iy ?_
 exact pv
 refine vk aC (λx o4 iX=>?_) ?_
 have hK:=hK.ext iX
 refine zl gD rfl (ik.ext hK 0 _ rfl) ?_
 exact pv
 refine vk aC (λx o4 iX=>?_) ?_
 refine aA (UR false A B hA (hT B (by rw[eB];simp)) o4) ?_
 rintro _ qu ⟨rfl,rM⟩
 have apn:=rM.size
 exact pk rM
 exact VZ
 intro x w83 aiu
 have hK:=hK.ext aiu
 change OW _ _ _ _ [] (bo (bj _ x _) (zZ 70 [_,_,_,_,_,_,_]++[(69,_),(77,_),(78,_),(11,_),(12,_)])) _
 refine W ?_
 exact⟨_,rfl,aio hh eB,hK⟩
 have dO:=h6
 refine WZ ?_
 apply oB 2 83 85 rfl oQ
 intro _
 exact oQ
 intro xx
 refine zA<|aZ<|zc rfl (λh8=>?_) (λh8=>?_)
 simp only[aE,dE] at h8
 obtain⟨hh,cV⟩:=h8
 refine W ?_
 exact⟨_,rfl,aim hj hh vJ cV,hK⟩
 have jx:=h8
 refine WZ ?_
 apply oB 2 90 92 rfl oQ
 intro _
 exact oQ
 intro xx
 refine zA<|aZ<|zc rfl (λfO=>?_) (λfO=>?_)
 simp only[aE,dE] at fO
 obtain⟨hh,cV⟩:=fO
 refine W ?_
 exact⟨_,rfl,ain hj hh vJ cV,hK⟩
 have j9:=fO
 refine WZ ?_
 apply oP 3 97 100 rfl oQ
 intro _
 exact oQ
 intro xx
 refine WZ ?_
 apply oP 3 101 104 rfl oQ
 intro _
 exact oQ
 intro xx
 refine WZ ?_
 apply oB 5 105 110 rfl oQ
 intro _
 refine zm<|zi (i:=0) bh bf rfl rfl hp<|zl gD rfl ((hx 0 hp).ext hK 0 _ rfl) ?_
 exact oQ
 intro xx
 refine WZ ?_
 apply oB 5 111 116 rfl oQ
 intro D6
 have iy:1<(A::r9).length:=(by simp only[aE,oE,dE] at D6;obtain⟨_,_,e⟩:=hj.two (VS D6.1);rw[e];simp)
 refine zm<|zi (i:=1) bh bf rfl rfl iy<|zl gD rfl ((hx 1 iy).ext hK 0 _ rfl) ?_
 exact oQ
 intro xx
 refine zA<|aZ<|zc rfl (λKg=>?_) (λKg=>?_)
 simp only[aE,oE,dE] at Kg
 obtain⟨⟨hh,ES⟩,hBi⟩:=Kg
 refine W ?_
 exact⟨_,rfl,aip hj hh ES hBi,hK⟩
 have qq:=Kg
 refine W ?_
 exact⟨_,rfl,congrArg (λx=>str x) (aii hj xu vJ bK bU dO jx j9 qq).symm,hK⟩
end Go.Proofs.YtkcegcjelmmilaaGreatDoor
