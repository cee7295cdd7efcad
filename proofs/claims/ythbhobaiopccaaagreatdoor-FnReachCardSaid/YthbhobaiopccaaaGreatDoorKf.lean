/- Lemmas for the law FnReach, no statement of their own: no conditions. -/
import Derived.Test.YthbhobaiopccaaaGreatDoorKe
set_option maxHeartbeats 4000000
set_option linter.unusedVariables false
set_option linter.unusedSimpArgs false
namespace Go.Proofs.YthbhobaiopccaaaGreatDoor
open Go
variable {E N bytes i k n sz t:Nat} {u v z:Value} {G G' G0 L:List Nat} {w w':World} {g:Option Nat} {xs ys:List ai} {rows:List (List C)} {s:ai} {e:Ex}
theorem ag0 (h:ai):((dZ h).1=0∧(dZ h).2=0)∨((dZ h).1=1∧(dZ h).2=2)∨((dZ h).1=1∧(dZ h).2=3)∨((dZ h).1=1∧(dZ h).2=4)∨((dZ h).1=2∧(dZ h).2=4)∨((dZ h).1=5∧(dZ h).2=6):=by
 unfold dZ
 split
 ·simp
 ·split
  ·simp
  ·split
   ·simp
   ·split
    ·simp
    ·split<;>simp
theorem ag1 {ps:List aq} {f:aq->Bool} (h:∀j,k<=j->j<ps.length->f (nth ps j)=true):(ps.drop k).all f=true:=by
 rw[List.all_eq_true]
 intro c hc
 obtain⟨i,hi⟩:=List.mem_iff_getElem?.1 hc
 rw[List.getElem?_drop] at hi
 have hl:=(List.getElem?_eq_some_iff.1 hi).1
 have:=h (k+i) om hl
 rw[gh hl] at hi
 cases hi
 exact this
theorem ag2 {ps:List aq} {j:Nat} {f:aq->Bool} (h1:k<=j) (h2:j<ps.length) (h:f (nth ps j)=false):(ps.drop k).all f=false:=by
 rw[List.all_eq_false]
 refine⟨nth ps j,?_,by rw[h];simp⟩
 rw[List.mem_iff_getElem?]
 refine⟨j-k,?_⟩
 rw[List.getElem?_drop,show k+(j-k)=j by omega]
 exact gh h2
def Dk (ps:List aq):Bool:=dQ (nth ps 2).aw&&decide ((nth ps 1).aw≠(nth ps 2).aw)&&j8 (nth ps 3)&&j8 (nth ps 4)
theorem ag3 (ps:List aq) (k:Nat):k≠5∨(k=5∧dQ (nth ps 2).aw=false)∨(k=5∧dQ (nth ps 2).aw=true∧(nth ps 1).aw=(nth ps 2).aw)∨(k=5∧dQ (nth ps 2).aw=true∧(nth ps 1).aw≠(nth ps 2).aw∧j8 (nth ps 3)=false)∨
  (k=5∧dQ (nth ps 2).aw=true∧(nth ps 1).aw≠(nth ps 2).aw∧j8 (nth ps 3)=true∧j8 (nth ps 4)=false)∨(k=5∧dQ (nth ps 2).aw=true∧(nth ps 1).aw≠(nth ps 2).aw∧j8 (nth ps 3)=true∧j8 (nth ps 4)=true):=by
 by_cases h5:k=5
 ·right
  cases h2:dQ (nth ps 2).aw
  ·exact .inl ⟨h5,rfl⟩
  ·right
   by_cases he:(nth ps 1).aw=(nth ps 2).aw
   ·exact .inl ⟨h5,rfl,he⟩
   ·right
    cases h3:j8 (nth ps 3)
    ·exact .inl ⟨h5,rfl,he,rfl⟩
    ·right
     cases h4:j8 (nth ps 4)
     ·exact .inl ⟨h5,rfl,he,rfl,rfl⟩
     ·exact .inr ⟨h5,rfl,he,rfl,rfl⟩
 ·exact .inl h5
theorem ag4:∀(m:Nat) (t:aq),t.size<=m->t.size<=10000000->WF t->∀(v:Value) (L:List Nat) (w:World),bC L w v t->
  bw Tryz.prog 151 [v] w λr w'=>r= .bool (dA t)∧aj [] w w':=by
 intro m
 induction m with
 |zero=>intro t h;have:=yL t;omega
 |succ m ih=>
  intro t hm mh cB v L w hv
  obtain⟨a,n,c,rfl,hn,aO⟩:=cY hv
  subst hn
  have hK:=aj.refl [] w
  have nj:=xo t
  refine bU [.tmp 2] 105 Tryz.func151 rfl acJ rfl rfl ?_
  refine zr<|eK rfl ?_
  intro w1 aI aY dh
  have hK:=hK.ext aI;have aO:=aO.ext aI
  refine zA<|aV<|j3<|zr<|zf lK rfl<|zl fo rfl (aY.at rfl)<|Mf rfl rfl rfl rfl<|aV<|zc rfl (λh1=>?_) (λh1=>?_)
  have hq:dA t=qL t.aw:=by rw[Vy,iP h1]
  refine zr<|zf lK rfl<|zl fo rfl (aY.at rfl)<|aA (J8 _ _) ?_
  rintro _ _ ⟨rfl,rfl⟩
  refine zm<|zx (i:=0) rfl rfl<|zx (i:=1) rfl rfl<|zA<|zA<|aV<|zr<|zm<|zm ?_
  apply Cs 4 18 22 [18,19,20,21,22] (λw'=>w1=w') rfl
  intro h2
  replace h2:=jW h2
  refine zs<|zs<|zs<|zp rfl<|aV ?_
  exact mg rfl rfl
  intro h2
  replace h2:=jW h2
  refine zf lK rfl<|zl fo rfl (aY.at rfl)<|aA (wk _ _) ?_
  rintro _ _ ⟨rfl,rfl⟩
  refine zp rfl<|aV ?_
  exact mg rfl rfl
  rintro xx _ rfl
  refine zA<|aV<|j4 ?_
  exact⟨_,rfl,by rw[hq];rfl,hK⟩
  have ha:t.aw=[]:=Classical.not_not.1 h1
  have kK:=cB.pos ha
  have hq:=agO ha
  obtain⟨b,off,pa,pn,pc,rfl,eD,eO,ga⟩:=iM aO (gh kK)
  have lq:=ag0 (nth t.ak 0).aw
  refine gT<|zr<|zf jI rfl<|zl iW rfl (aY.at rfl)<|zi (i:=0) cD aM rfl rfl om<|zf lK rfl<|zl fo rfl (eD 0 _ rfl)<|aA (Kq _ _) ?_
  rintro _ _ ⟨rfl,rfl⟩
  refine zm<|zx (i:=0) rfl rfl<|zx (i:=1) rfl rfl<|zA<|zA<|aV<|j3<|zr<|zm<|xf rfl rfl rfl rfl rfl<|zm ?_
  apply Cs 6 34 40 [34,35,36,37,38,39,40] (λw'=>w1=w') rfl
  intro h3
  replace h3:=jW h3
  refine zs<|zs<|zs<|zs<|zs<|zp rfl<|aV ?_
  exact mg rfl rfl
  intro h3
  replace h3:=jW h3
  refine zf jI rfl<|zl iW rfl (aY.at rfl)<|Jc cD rfl rfl rfl<|zm<|Je rfl rfl rfl rfl rfl<|zp rfl<|aV ?_
  exact mg rfl rfl
  rintro xx _ rfl
  refine aV<|zc rfl (λh4=>?_) (λh4=>?_)
  have hz:dA t=false:=(by rw[hq];simp only[oE,dE] at h4;rcases h4 with h|h;(·rw[show decide ((dZ (nth t.ak 0).aw).1≠0)=false from dF om];rfl);(·rw[show decide (t.ak.length=(dZ (nth t.ak 0).aw).2)=false from dF om];simp))
  refine zr<|zA<|aV<|j4 ?_
  exact⟨_,rfl,by rw[hz];rfl,hK⟩
  have fS:(dZ (nth t.ak 0).aw).1≠0∧t.ak.length=(dZ (nth t.ak 0).aw).2:=(by simp only[Bool.or_eq_false_iff,decide_eq_false_iff_not] at h4;omega)
  obtain⟨fS,eM⟩:=fS
  have Dl:dA t=(E9 t.ak&&(t.ak.drop (dZ (nth t.ak 0).aw).1).all dA):=by rw[hq,dT fS,dT eM];rfl
  refine gT<|j3<|zr<|zm<|Gi rfl rfl rfl rfl rfl<|zm ?_
  apply Ml 8 43 51 [43,44,45,46,47,48,49,50,51] (λw'=>w1=w') rfl
  intro h5
  replace h5:=jW h5
  have C9:1<t.ak.length:=(by have h7:=h5;omega)
  obtain⟨b1,eX,gR,rM,gF,e1,bK,tH,pF⟩:=iM aO (gh (i:=1) C9)
  cases e1
  refine zf jI rfl<|zl iW rfl (aY.at rfl)<|zi (i:=1) cD aM rfl rfl om<|zf lK rfl<|zl fo rfl (bK 0 _ rfl)<|aA (wk _ _) ?_
  rintro _ _ ⟨rfl,rfl⟩
  refine kF rfl rfl rfl<|zp rfl<|aV ?_
  exact mg rfl rfl
  intro h5
  replace h5:=jW h5
  refine zs<|zs<|zs<|zs<|zs<|zs<|zs<|zp rfl<|aV ?_
  exact mg rfl rfl
  rintro xx _ rfl
  refine aV<|zc rfl (λh6=>?_) (λh6=>?_)
  have hz:dA t=false:=(by simp only[aE,dE,Bool.not_eq_true'] at h6;rw[Dl];unfold E9;rw[show decide ((dZ (nth t.ak 0).aw).1<=1)=false from dF om,h6.2];rfl)
  refine zr<|zA<|aV<|j4 ?_
  exact⟨_,rfl,by rw[hz];rfl,hK⟩
  have nk:(decide ((dZ (nth t.ak 0).aw).1<=1)||dQ (nth t.ak 1).aw)=true:=(by simp only[Bool.and_eq_false_iff,decide_eq_false_iff_not,Bool.not_eq_false'] at h6;rcases h6 with h|h;(·rw[dT om];rfl);(·rw[h];simp))
  have oL:dA t=((decide ((dZ (nth t.ak 0).aw).1≠5)||Dk t.ak)&&(t.ak.drop (dZ (nth t.ak 0).aw).1).all dA):=by rw[Dl];unfold E9;rw[nk];rfl
  have HI:(dZ (nth t.ak 0).aw).1=5->t.ak.length=6:=(by intro h;omega)
  have jt:∀i,i<t.ak.length->∃pa pn pc,gH w1 b (off+i*2) [str (nth t.ak i).aw,.slice pa pn pc]∧bC L w1 (.agg #[str (nth t.ak i).aw,.slice pa pn pc]) (nth t.ak i):=(by intro i hi;obtain⟨b1,eX,gR,rM,gF,e1,bK,tH,pF⟩:=iM aO (gh hi);cases e1;exact⟨_,_,_,bK,lF pF⟩)
  refine gT<|j3<|j3 ?_
  refine iS (λ_:Unit=>[(1,.pointer (some ⟨w.heap.size,0,none⟩)),(5,.int .i64 ((dZ (nth t.ak 0).aw).1:Int)),(6,.int .i64 ((dZ (nth t.ak 0).aw).2:Int)),(91,.bool (decide ((dZ (nth t.ak 0).aw).1=5)&&!Dk t.ak))]) (λ_ w'=>aj [] w w'∧aj [] w1 w') ?_ ?_
  rcases ag3 t.ak (dZ (nth t.ak 0).aw).1 with lr|lr|lr|lr|lr|lr
  apply lh dv 40 (rA 52 40) (rA 52 40) [[],[0],[1],[2],[2,3],[2,4],[2,5],[2,6],[2,7],[2,8],[2,9],[10],[10,11],[10,12],[10,13],[10,14],[10],[10,16],[10,17],[10,18],[10,19],[10,15,20],[2,10,21],[2,22],[23],[23,24],[23,25],[23,26],[23,27],[23,28],[2,23,29],[2,30],[31],[31,32],[31,33],[31,34],[31,35],[31,36],[2,31,37],[2,38]] [It.v _,It.v _,It.v (.bool false),It.v _,It.v _,It.v _,It.v _,It.v _,It.v _,It.v _,It.v _,It.v _,It.v _,It.v _,It.v _,It.v _,It.v _,It.v _,It.v _,It.v _,It.v _,It.v _,It.v _,It.v _,It.v _,It.v _,It.v _,It.v _,It.v _,It.v _,It.v _,It.v _,It.v _,It.v _,It.v _,It.v _,It.v _,It.v _,It.v _,It.v _] de rfl
  intro wd aC
  refine Bg ?_
  refine vk aC (λx w2 az=>?_) ?_
  refine xf rfl rfl rfl rfl rfl ?_
  exact pv
  refine vc (λx w2 az=>?_) ?_
  refine zm ?_
  exact pv (by exact congrArg Value.bool (dF om))
  refine vc (λx w2 az=>?_) ?_
  exact cK pv
  refine vk aC (λx w2 az=>?_) ?_
  exact cK pv
  refine vk aC (λx w2 az=>?_) ?_
  exact cK pv
  refine vc (λx w2 az=>?_) ?_
  exact cK pv
  refine vk aC (λx w2 az=>?_) ?_
  exact cK pv
  refine vk aC (λx w2 az=>?_) ?_
  exact cK pv
  refine vc (λx w2 az=>?_) ?_
  exact cK pv
  refine vc (λx w2 az=>?_) ?_
  exact cK pv
  refine vc (λx w2 az=>?_) ?_
  exact cK pv
  refine vk aC (λx w2 az=>?_) ?_
  exact cK pv
  refine vk aC (λx w2 az=>?_) ?_
  exact cK pv
  refine vc (λx w2 az=>?_) ?_
  exact cK pv
  refine vk aC (λx w2 az=>?_) ?_
  exact cK pv
  refine vc (λx w2 az=>?_) ?_
  exact cK pv
  refine vk aC (λx w2 az=>?_) ?_
  exact cK pv
  refine vk aC (λx w2 az=>?_) ?_
  exact cK pv
  refine vc (λx w2 az=>?_) ?_
  exact cK pv
  refine vk aC (λx w2 az=>?_) ?_
  exact cK pv
  refine vk aC (λx w2 az=>?_) ?_
  exact cK pv
  refine vc (λx w2 az=>?_) ?_
  exact cK pv
  refine vc (λx w2 az=>?_) ?_
  exact cK pv
  refine vc (λx w2 az=>?_) ?_
  exact cK pv
  refine vk aC (λx w2 az=>?_) ?_
  exact cK pv
  refine vk aC (λx w2 az=>?_) ?_
  exact cK pv
  refine vk aC (λx w2 az=>?_) ?_
  exact cK pv
  refine vk aC (λx w2 az=>?_) ?_
  exact cK pv
  refine vc (λx w2 az=>?_) ?_
  exact cK pv
  refine vc (λx w2 az=>?_) ?_
  exact cK pv
  refine vc (λx w2 az=>?_) ?_
  exact cK pv
  refine vc (λx w2 az=>?_) ?_
  exact cK pv
  refine vk aC (λx w2 az=>?_) ?_
  exact cK pv
  refine vk aC (λx w2 az=>?_) ?_
  exact cK pv
  refine vk aC (λx w2 az=>?_) ?_
  exact cK pv
  refine vk aC (λx w2 az=>?_) ?_
  exact cK pv
  refine vc (λx w2 az=>?_) ?_
  exact cK pv
  refine vc (λx w2 az=>?_) ?_
  exact cK pv
  refine vc (λ_ _ _=>zp rfl pv) ?_
  exact trivial
  intro x oW gS
  have hK:=hK.ext gS
  change OW _ _ _ _ [] (bo (bm _ x _) (zZ 52 [_,_,_,_,_,_,_,_,_,_,_,_,_,_,_,_,_,_,_,_,_,_,_,_,_,_,_,_,_,_,_,_,_,_,_,_,_,_,_,_])) _
  refine aV ?_
  exact⟨(),⟨rfl,rfl,rfl,congrArg Value.bool (show false=_ from by rw[dF lr];rfl)⟩,hK,gS⟩
  obtain⟨h5,h2⟩:=lr
  have h6:=HI h5
  obtain⟨iI,xR,iy,bY,dM⟩:=jt 2 om
  apply lh dv 40 (rA 52 40) (rA 52 40) [[],[0],[1],[2],[2,3],[2,4],[2,5],[2,6],[2,7],[2,8],[2,9],[10],[10,11],[10,12],[10,13],[10,14],[10],[10,16],[10,17],[10,18],[10,19],[10,15,20],[2,10,21],[2,22],[23],[23,24],[23,25],[23,26],[23,27],[23,28],[2,23,29],[2,30],[31],[31,32],[31,33],[31,34],[31,35],[31,36],[2,31,37],[2,38]] [It.v _,It.v _,It.v (.bool true),It.v _,It.v _,It.v _,It.v _,It.v _,It.v _,It.v _,It.v (.bool true),It.v _,It.v _,It.v _,It.v _,It.v _,It.v _,It.v _,It.v _,It.v _,It.v _,It.v _,It.v _,It.v (.bool true),It.v _,It.v _,It.v _,It.v _,It.v _,It.v _,It.v _,It.v (.bool true),It.v _,It.v _,It.v _,It.v _,It.v _,It.v _,It.v _,It.v _] de rfl
  intro wd aC
  refine Bg ?_
  refine vk aC (λx w2 az=>?_) ?_
  refine xf rfl rfl rfl rfl rfl ?_
  exact pv
  refine vc (λx w2 az=>?_) ?_
  refine zm ?_
  exact pv (by exact congrArg Value.bool (dT om))
  refine vc (λ_ _ _=>zf jI rfl pv) ?_
  refine vk aC (λx w2 az=>?_) ?_
  have aY:=aY.ext az
  refine zl iW rfl (aY.at rfl) ?_
  exact pv
  refine vk aC (λx w2 az=>?_) ?_
  refine zi (i:=2) cD aM rfl rfl om ?_
  exact pv
  refine vc (λ_ _ _=>zf lK rfl pv) ?_
  refine vk aC (λx w2 az=>?_) ?_
  have bY:=bY.ext az
  refine zl fo rfl (bY 0 _ rfl) ?_
  exact pv
  refine vk aC (λx w2 az=>?_) ?_
  refine aA (wk _ _) ?_
  rintro _ _ ⟨rfl,rfl⟩
  exact pv
  refine vc (λ_ _ _=>kF rfl rfl rfl pv) ?_
  refine vc (λx w2 az=>?_) ?_
  refine zm ?_
  exact pv (by exact congrArg Value.bool (show(!dQ (nth t.ak 2).aw)=true from by rw[h2];rfl))
  refine vc (λx w2 az=>?_) ?_
  exact cK pv
  refine vk aC (λx w2 az=>?_) ?_
  exact cK pv
  refine vk aC (λx w2 az=>?_) ?_
  exact cK pv
  refine vc (λx w2 az=>?_) ?_
  exact cK pv
  refine vk aC (λx w2 az=>?_) ?_
  exact cK pv
  refine vc (λx w2 az=>?_) ?_
  exact cK pv
  refine vk aC (λx w2 az=>?_) ?_
  exact cK pv
  refine vk aC (λx w2 az=>?_) ?_
  exact cK pv
  refine vc (λx w2 az=>?_) ?_
  exact cK pv
  refine vk aC (λx w2 az=>?_) ?_
  exact cK pv
  refine vk aC (λx w2 az=>?_) ?_
  exact cK pv
  refine vc (λ_ _ _=>zp rfl pv) ?_
  refine vc (λx w2 az=>?_) ?_
  refine zm ?_
  exact pv (by exact rfl)
  refine vc (λx w2 az=>?_) ?_
  exact cK pv
  refine vk aC (λx w2 az=>?_) ?_
  exact cK pv
  refine vk aC (λx w2 az=>?_) ?_
  exact cK pv
  refine vk aC (λx w2 az=>?_) ?_
  exact cK pv
  refine vk aC (λx w2 az=>?_) ?_
  exact cK pv
  refine vc (λx w2 az=>?_) ?_
  exact cK pv
  refine vc (λ_ _ _=>zp rfl pv) ?_
  refine vc (λx w2 az=>?_) ?_
  refine zm ?_
  exact pv (by exact rfl)
  refine vc (λx w2 az=>?_) ?_
  exact cK pv
  refine vk aC (λx w2 az=>?_) ?_
  exact cK pv
  refine vk aC (λx w2 az=>?_) ?_
  exact cK pv
  refine vk aC (λx w2 az=>?_) ?_
  exact cK pv
  refine vk aC (λx w2 az=>?_) ?_
  exact cK pv
  refine vc (λx w2 az=>?_) ?_
  exact cK pv
  refine vc (λ_ _ _=>zp rfl pv) ?_
  refine vc (λ_ _ _=>zp rfl pv) ?_
  exact trivial
  intro x oW gS
  have hK:=hK.ext gS
  change OW _ _ _ _ [] (bo (bm _ x _) (zZ 52 [_,_,_,_,_,_,_,_,_,_,_,_,_,_,_,_,_,_,_,_,_,_,_,_,_,_,_,_,_,_,_,_,_,_,_,_,_,_,_,_])) _
  refine aV ?_
  exact⟨(),⟨rfl,rfl,rfl,congrArg Value.bool (show true=_ from by unfold Dk;rw[dT h5,h2];rfl)⟩,hK,gS⟩
  obtain⟨h5,h2,kW⟩:=lr
  have h6:=HI h5
  obtain⟨gR,rM,gF,bK,cN⟩:=jt 1 om
  obtain⟨iI,xR,iy,bY,dM⟩:=jt 2 om
  apply lh dv 40 (rA 52 40) (rA 52 40) [[],[0],[1],[2],[2,3],[2,4],[2,5],[2,6],[2,7],[2,8],[2,9],[10],[10,11],[10,12],[10,13],[10,14],[10],[10,16],[10,17],[10,18],[10,19],[10,15,20],[2,10,21],[2,22],[23],[23,24],[23,25],[23,26],[23,27],[23,28],[2,23,29],[2,30],[31],[31,32],[31,33],[31,34],[31,35],[31,36],[2,31,37],[2,38]] [It.v _,It.v _,It.v (.bool true),It.v _,It.v _,It.v _,It.v _,It.v _,It.v _,It.v _,It.v (.bool false),It.v _,It.v _,It.v _,It.v _,It.v _,It.v _,It.v _,It.v _,It.v _,It.v _,It.v _,It.v _,It.v (.bool true),It.v _,It.v _,It.v _,It.v _,It.v _,It.v _,It.v _,It.v (.bool true),It.v _,It.v _,It.v _,It.v _,It.v _,It.v _,It.v _,It.v _] de rfl
  intro wd aC
  refine Bg ?_
  refine vk aC (λx w2 az=>?_) ?_
  refine xf rfl rfl rfl rfl rfl ?_
  exact pv
  refine vc (λx w2 az=>?_) ?_
  refine zm ?_
  exact pv (by exact congrArg Value.bool (dT om))
  refine vc (λ_ _ _=>zf jI rfl pv) ?_
  refine vk aC (λx w2 az=>?_) ?_
  have aY:=aY.ext az
  refine zl iW rfl (aY.at rfl) ?_
  exact pv
  refine vk aC (λx w2 az=>?_) ?_
  refine zi (i:=2) cD aM rfl rfl om ?_
  exact pv
  refine vc (λ_ _ _=>zf lK rfl pv) ?_
  refine vk aC (λx w2 az=>?_) ?_
  have bY:=bY.ext az
  refine zl fo rfl (bY 0 _ rfl) ?_
  exact pv
  refine vk aC (λx w2 az=>?_) ?_
  refine aA (wk _ _) ?_
  rintro _ _ ⟨rfl,rfl⟩
  exact pv
  refine vc (λ_ _ _=>kF rfl rfl rfl pv) ?_
  refine vc (λx w2 az=>?_) ?_
  refine zm ?_
  exact pv (by exact congrArg Value.bool (show(!dQ (nth t.ak 2).aw)=false from by rw[h2];rfl))
  refine vc (λ_ _ _=>zf jI rfl pv) ?_
  refine vk aC (λx w2 az=>?_) ?_
  have aY:=aY.ext az
  refine zl iW rfl (aY.at rfl) ?_
  exact pv
  refine vk aC (λx w2 az=>?_) ?_
  refine zi (i:=1) cD aM rfl rfl om ?_
  exact pv
  refine vc (λ_ _ _=>zf lK rfl pv) ?_
  refine vk aC (λx w2 az=>?_) ?_
  have bK:=bK.ext az
  refine zl fo rfl (bK 0 _ rfl) ?_
  exact pv
  refine vc (λ_ _ _=>zf jI rfl pv) ?_
  refine vk aC (λx w2 az=>?_) ?_
  have aY:=aY.ext az
  refine zl iW rfl (aY.at rfl) ?_
  exact pv
  refine vk aC (λx w2 az=>?_) ?_
  refine zi (i:=2) cD aM rfl rfl om ?_
  exact pv
  refine vc (λ_ _ _=>zf lK rfl pv) ?_
  refine vk aC (λx w2 az=>?_) ?_
  have bY:=bY.ext az
  refine zl fo rfl (bY 0 _ rfl) ?_
  exact pv
  refine vk aC (λx w2 az=>?_) ?_
  refine Ap rfl rfl rfl rfl ?_
  exact pv
  refine vc (λ_ _ _=>zp rfl pv) ?_
  refine vc (λx w2 az=>?_) ?_
  refine zm ?_
  exact pv (by exact congrArg Value.bool (dT kW))
  refine vc (λx w2 az=>?_) ?_
  exact cK pv
  refine vk aC (λx w2 az=>?_) ?_
  exact cK pv
  refine vk aC (λx w2 az=>?_) ?_
  exact cK pv
  refine vk aC (λx w2 az=>?_) ?_
  exact cK pv
  refine vk aC (λx w2 az=>?_) ?_
  exact cK pv
  refine vc (λx w2 az=>?_) ?_
  exact cK pv
  refine vc (λ_ _ _=>zp rfl pv) ?_
  refine vc (λx w2 az=>?_) ?_
  refine zm ?_
  exact pv (by exact rfl)
  refine vc (λx w2 az=>?_) ?_
  exact cK pv
  refine vk aC (λx w2 az=>?_) ?_
  exact cK pv
  refine vk aC (λx w2 az=>?_) ?_
  exact cK pv
  refine vk aC (λx w2 az=>?_) ?_
  exact cK pv
  refine vk aC (λx w2 az=>?_) ?_
  exact cK pv
  refine vc (λx w2 az=>?_) ?_
  exact cK pv
  refine vc (λ_ _ _=>zp rfl pv) ?_
  refine vc (λ_ _ _=>zp rfl pv) ?_
  exact trivial
  intro x oW gS
  have hK:=hK.ext gS
  change OW _ _ _ _ [] (bo (bm _ x _) (zZ 52 [_,_,_,_,_,_,_,_,_,_,_,_,_,_,_,_,_,_,_,_,_,_,_,_,_,_,_,_,_,_,_,_,_,_,_,_,_,_,_,_])) _
  refine aV ?_
  exact⟨(),⟨rfl,rfl,rfl,congrArg Value.bool (show true=_ from by unfold Dk;rw[dT h5,h2,dF (λh=>h kW)];rfl)⟩,hK,gS⟩
  obtain⟨h5,h2,kW,h3⟩:=lr
  have h6:=HI h5
  obtain⟨gR,rM,gF,bK,cN⟩:=jt 1 om
  obtain⟨iI,xR,iy,bY,dM⟩:=jt 2 om
  obtain⟨qm,VM,qo,dS,ei⟩:=jt 3 om
  have fh:=lI (t:=t) (i:=3) om
  apply lh dv 40 (rA 52 40) (rA 52 40) [[],[0],[1],[2],[2,3],[2,4],[2,5],[2,6],[2,7],[2,8],[2,9],[10],[10,11],[10,12],[10,13],[10,14],[10],[10,16],[10,17],[10,18],[10,19],[10,15,20],[2,10,21],[2,22],[23],[23,24],[23,25],[23,26],[23,27],[23,28],[2,23,29],[2,30],[31],[31,32],[31,33],[31,34],[31,35],[31,36],[2,31,37],[2,38]] [It.v _,It.v _,It.v (.bool true),It.v _,It.v _,It.v _,It.v _,It.v _,It.v _,It.v _,It.v (.bool false),It.v _,It.v _,It.v _,It.v _,It.v _,It.v _,It.v _,It.v _,It.v _,It.v _,It.v _,It.v _,It.v (.bool false),It.v _,It.v _,It.v _,It.v _,It.v _,It.v _,It.v _,It.v (.bool true),It.v _,It.v _,It.v _,It.v _,It.v _,It.v _,It.v _,It.v _] de rfl
  intro wd aC
  refine Bg ?_
  refine vk aC (λx w2 az=>?_) ?_
  refine xf rfl rfl rfl rfl rfl ?_
  exact pv
  refine vc (λx w2 az=>?_) ?_
  refine zm ?_
  exact pv (by exact congrArg Value.bool (dT om))
  refine vc (λ_ _ _=>zf jI rfl pv) ?_
  refine vk aC (λx w2 az=>?_) ?_
  have aY:=aY.ext az
  refine zl iW rfl (aY.at rfl) ?_
  exact pv
  refine vk aC (λx w2 az=>?_) ?_
  refine zi (i:=2) cD aM rfl rfl om ?_
  exact pv
  refine vc (λ_ _ _=>zf lK rfl pv) ?_
  refine vk aC (λx w2 az=>?_) ?_
  have bY:=bY.ext az
  refine zl fo rfl (bY 0 _ rfl) ?_
  exact pv
  refine vk aC (λx w2 az=>?_) ?_
  refine aA (wk _ _) ?_
  rintro _ _ ⟨rfl,rfl⟩
  exact pv
  refine vc (λ_ _ _=>kF rfl rfl rfl pv) ?_
  refine vc (λx w2 az=>?_) ?_
  refine zm ?_
  exact pv (by exact congrArg Value.bool (show(!dQ (nth t.ak 2).aw)=false from by rw[h2];rfl))
  refine vc (λ_ _ _=>zf jI rfl pv) ?_
  refine vk aC (λx w2 az=>?_) ?_
  have aY:=aY.ext az
  refine zl iW rfl (aY.at rfl) ?_
  exact pv
  refine vk aC (λx w2 az=>?_) ?_
  refine zi (i:=1) cD aM rfl rfl om ?_
  exact pv
  refine vc (λ_ _ _=>zf lK rfl pv) ?_
  refine vk aC (λx w2 az=>?_) ?_
  have bK:=bK.ext az
  refine zl fo rfl (bK 0 _ rfl) ?_
  exact pv
  refine vc (λ_ _ _=>zf jI rfl pv) ?_
  refine vk aC (λx w2 az=>?_) ?_
  have aY:=aY.ext az
  refine zl iW rfl (aY.at rfl) ?_
  exact pv
  refine vk aC (λx w2 az=>?_) ?_
  refine zi (i:=2) cD aM rfl rfl om ?_
  exact pv
  refine vc (λ_ _ _=>zf lK rfl pv) ?_
  refine vk aC (λx w2 az=>?_) ?_
  have bY:=bY.ext az
  refine zl fo rfl (bY 0 _ rfl) ?_
  exact pv
  refine vk aC (λx w2 az=>?_) ?_
  refine Ap rfl rfl rfl rfl ?_
  exact pv
  refine vc (λ_ _ _=>zp rfl pv) ?_
  refine vc (λx w2 az=>?_) ?_
  refine zm ?_
  exact pv (by exact congrArg Value.bool (dF kW))
  refine vc (λ_ _ _=>zf jI rfl pv) ?_
  refine vk aC (λx w2 az=>?_) ?_
  have aY:=aY.ext az
  refine zl iW rfl (aY.at rfl) ?_
  exact pv
  refine vk aC (λx w2 az=>?_) ?_
  refine zi (i:=3) cD aM rfl rfl om ?_
  exact pv
  refine vk aC (λx w2 az=>?_) ?_
  have dS:=dS.ext az
  refine zL fc aM rfl dS rfl ?_
  exact pv
  refine vk aC (λx w2 az=>?_) ?_
  have ei:=ei.ext az
  refine aA (BN (nth t.ak 3) om (cB.nth om) _ _ w2 ei) ?_
  rintro v3 w3 ⟨jo,aH⟩
  have fh:=aH.size
  obtain rfl:=jo
  exact pk aH
  refine vc (λ_ _ _=>kF rfl rfl rfl pv) ?_
  refine vc (λ_ _ _=>zp rfl pv) ?_
  refine vc (λx w2 az=>?_) ?_
  refine zm ?_
  exact pv (by exact congrArg Value.bool (show(!j8 (nth t.ak 3))=true from by rw[h3];rfl))
  refine vc (λx w2 az=>?_) ?_
  exact cK pv
  refine vk aC (λx w2 az=>?_) ?_
  exact cK pv
  refine vk aC (λx w2 az=>?_) ?_
  exact cK pv
  refine vk aC (λx w2 az=>?_) ?_
  exact cK pv
  refine vk aC (λx w2 az=>?_) ?_
  exact cK pv
  refine vc (λx w2 az=>?_) ?_
  exact cK pv
  refine vc (λ_ _ _=>zp rfl pv) ?_
  refine vc (λ_ _ _=>zp rfl pv) ?_
  exact trivial
  intro x oW gS
  have hK:=hK.ext gS
  change OW _ _ _ _ [] (bo (bm _ x _) (zZ 52 [_,_,_,_,_,_,_,_,_,_,_,_,_,_,_,_,_,_,_,_,_,_,_,_,_,_,_,_,_,_,_,_,_,_,_,_,_,_,_,_])) _
  refine aV ?_
  exact⟨(),⟨rfl,rfl,rfl,congrArg Value.bool (show true=_ from by unfold Dk;rw[dT h5,h2,h3,Bool.and_false];rfl)⟩,hK,gS⟩
  obtain⟨h5,h2,kW,h3,h4⟩:=lr
  have h6:=HI h5
  obtain⟨gR,rM,gF,bK,cN⟩:=jt 1 om
  obtain⟨iI,xR,iy,bY,dM⟩:=jt 2 om
  obtain⟨qm,VM,qo,dS,ei⟩:=jt 3 om
  obtain⟨Oq,pn4,Ot,jK,qp⟩:=jt 4 om
  have fh:=lI (t:=t) (i:=3) om
  have fH:=lI (t:=t) (i:=4) om
  apply lh dv 40 (rA 52 40) (rA 52 40) [[],[0],[1],[2],[2,3],[2,4],[2,5],[2,6],[2,7],[2,8],[2,9],[10],[10,11],[10,12],[10,13],[10,14],[10],[10,16],[10,17],[10,18],[10,19],[10,15,20],[2,10,21],[2,22],[23],[23,24],[23,25],[23,26],[23,27],[23,28],[2,23,29],[2,30],[31],[31,32],[31,33],[31,34],[31,35],[31,36],[2,31,37],[2,38]] [It.v _,It.v _,It.v (.bool true),It.v _,It.v _,It.v _,It.v _,It.v _,It.v _,It.v _,It.v (.bool false),It.v _,It.v _,It.v _,It.v _,It.v _,It.v _,It.v _,It.v _,It.v _,It.v _,It.v _,It.v _,It.v (.bool false),It.v _,It.v _,It.v _,It.v _,It.v _,It.v _,It.v _,It.v (.bool false),It.v _,It.v _,It.v _,It.v _,It.v _,It.v _,It.v _,It.v _] de rfl
  intro wd aC
  refine Bg ?_
  refine vk aC (λx w2 az=>?_) ?_
  refine xf rfl rfl rfl rfl rfl ?_
  exact pv
  refine vc (λx w2 az=>?_) ?_
  refine zm ?_
  exact pv (by exact congrArg Value.bool (dT om))
  refine vc (λ_ _ _=>zf jI rfl pv) ?_
  refine vk aC (λx w2 az=>?_) ?_
  have aY:=aY.ext az
  refine zl iW rfl (aY.at rfl) ?_
  exact pv
  refine vk aC (λx w2 az=>?_) ?_
  refine zi (i:=2) cD aM rfl rfl om ?_
  exact pv
  refine vc (λ_ _ _=>zf lK rfl pv) ?_
  refine vk aC (λx w2 az=>?_) ?_
  have bY:=bY.ext az
  refine zl fo rfl (bY 0 _ rfl) ?_
  exact pv
  refine vk aC (λx w2 az=>?_) ?_
  refine aA (wk _ _) ?_
  rintro _ _ ⟨rfl,rfl⟩
  exact pv
  refine vc (λ_ _ _=>kF rfl rfl rfl pv) ?_
  refine vc (λx w2 az=>?_) ?_
  refine zm ?_
  exact pv (by exact congrArg Value.bool (show(!dQ (nth t.ak 2).aw)=false from by rw[h2];rfl))
  refine vc (λ_ _ _=>zf jI rfl pv) ?_
  refine vk aC (λx w2 az=>?_) ?_
  have aY:=aY.ext az
  refine zl iW rfl (aY.at rfl) ?_
  exact pv
  refine vk aC (λx w2 az=>?_) ?_
  refine zi (i:=1) cD aM rfl rfl om ?_
  exact pv
  refine vc (λ_ _ _=>zf lK rfl pv) ?_
  refine vk aC (λx w2 az=>?_) ?_
  have bK:=bK.ext az
  refine zl fo rfl (bK 0 _ rfl) ?_
  exact pv
  refine vc (λ_ _ _=>zf jI rfl pv) ?_
  refine vk aC (λx w2 az=>?_) ?_
  have aY:=aY.ext az
  refine zl iW rfl (aY.at rfl) ?_
  exact pv
  refine vk aC (λx w2 az=>?_) ?_
  refine zi (i:=2) cD aM rfl rfl om ?_
  exact pv
  refine vc (λ_ _ _=>zf lK rfl pv) ?_
  refine vk aC (λx w2 az=>?_) ?_
  have bY:=bY.ext az
  refine zl fo rfl (bY 0 _ rfl) ?_
  exact pv
  refine vk aC (λx w2 az=>?_) ?_
  refine Ap rfl rfl rfl rfl ?_
  exact pv
  refine vc (λ_ _ _=>zp rfl pv) ?_
  refine vc (λx w2 az=>?_) ?_
  refine zm ?_
  exact pv (by exact congrArg Value.bool (dF kW))
  refine vc (λ_ _ _=>zf jI rfl pv) ?_
  refine vk aC (λx w2 az=>?_) ?_
  have aY:=aY.ext az
  refine zl iW rfl (aY.at rfl) ?_
  exact pv
  refine vk aC (λx w2 az=>?_) ?_
  refine zi (i:=3) cD aM rfl rfl om ?_
  exact pv
  refine vk aC (λx w2 az=>?_) ?_
  have dS:=dS.ext az
  refine zL fc aM rfl dS rfl ?_
  exact pv
  refine vk aC (λx w2 az=>?_) ?_
  have ei:=ei.ext az
  refine aA (BN (nth t.ak 3) om (cB.nth om) _ _ w2 ei) ?_
  rintro v3 w3 ⟨jo,aH⟩
  have fh:=aH.size
  obtain rfl:=jo
  exact pk aH
  refine vc (λ_ _ _=>kF rfl rfl rfl pv) ?_
  refine vc (λ_ _ _=>zp rfl pv) ?_
  refine vc (λx w2 az=>?_) ?_
  refine zm ?_
  exact pv (by exact congrArg Value.bool (show(!j8 (nth t.ak 3))=false from by rw[h3];rfl))
  refine vc (λ_ _ _=>zf jI rfl pv) ?_
  refine vk aC (λx w2 az=>?_) ?_
  have aY:=aY.ext az
  refine zl iW rfl (aY.at rfl) ?_
  exact pv
  refine vk aC (λx w2 az=>?_) ?_
  refine zi (i:=4) cD aM rfl rfl om ?_
  exact pv
  refine vk aC (λx w2 az=>?_) ?_
  have jK:=jK.ext az
  refine zL fc aM rfl jK rfl ?_
  exact pv
  refine vk aC (λx w2 az=>?_) ?_
  have qp:=qp.ext az
  refine aA (BN (nth t.ak 4) om (cB.nth om) _ _ w2 qp) ?_
  rintro v3 w3 ⟨jo,aH⟩
  have fh:=aH.size
  obtain rfl:=jo
  exact pk aH
  refine vc (λ_ _ _=>kF rfl rfl rfl pv) ?_
  refine vc (λ_ _ _=>zp rfl pv) ?_
  refine vc (λ_ _ _=>zp rfl pv) ?_
  exact trivial
  intro x oW gS
  have hK:=hK.ext gS
  change OW _ _ _ _ [] (bo (bm _ x _) (zZ 52 [_,_,_,_,_,_,_,_,_,_,_,_,_,_,_,_,_,_,_,_,_,_,_,_,_,_,_,_,_,_,_,_,_,_,_,_,_,_,_,_])) _
  refine aV ?_
  exact⟨(),⟨rfl,rfl,rfl,congrArg Value.bool (show(!j8 (nth t.ak 4))=_ from by unfold Dk;rw[dT h5,h2,h3,h4,Bool.and_false];rfl)⟩,hK,gS⟩
  obtain⟨h5,h2,kW,h3,h4⟩:=lr
  have h6:=HI h5
  obtain⟨gR,rM,gF,bK,cN⟩:=jt 1 om
  obtain⟨iI,xR,iy,bY,dM⟩:=jt 2 om
  obtain⟨qm,VM,qo,dS,ei⟩:=jt 3 om
  obtain⟨Oq,pn4,Ot,jK,qp⟩:=jt 4 om
  have fh:=lI (t:=t) (i:=3) om
  have fH:=lI (t:=t) (i:=4) om
  apply lh dv 40 (rA 52 40) (rA 52 40) [[],[0],[1],[2],[2,3],[2,4],[2,5],[2,6],[2,7],[2,8],[2,9],[10],[10,11],[10,12],[10,13],[10,14],[10],[10,16],[10,17],[10,18],[10,19],[10,15,20],[2,10,21],[2,22],[23],[23,24],[23,25],[23,26],[23,27],[23,28],[2,23,29],[2,30],[31],[31,32],[31,33],[31,34],[31,35],[31,36],[2,31,37],[2,38]] [It.v _,It.v _,It.v (.bool true),It.v _,It.v _,It.v _,It.v _,It.v _,It.v _,It.v _,It.v (.bool false),It.v _,It.v _,It.v _,It.v _,It.v _,It.v _,It.v _,It.v _,It.v _,It.v _,It.v _,It.v _,It.v (.bool false),It.v _,It.v _,It.v _,It.v _,It.v _,It.v _,It.v _,It.v (.bool false),It.v _,It.v _,It.v _,It.v _,It.v _,It.v _,It.v _,It.v _] de rfl
  intro wd aC
  refine Bg ?_
  refine vk aC (λx w2 az=>?_) ?_
  refine xf rfl rfl rfl rfl rfl ?_
  exact pv
  refine vc (λx w2 az=>?_) ?_
  refine zm ?_
  exact pv (by exact congrArg Value.bool (dT om))
  refine vc (λ_ _ _=>zf jI rfl pv) ?_
  refine vk aC (λx w2 az=>?_) ?_
  have aY:=aY.ext az
  refine zl iW rfl (aY.at rfl) ?_
  exact pv
  refine vk aC (λx w2 az=>?_) ?_
  refine zi (i:=2) cD aM rfl rfl om ?_
  exact pv
  refine vc (λ_ _ _=>zf lK rfl pv) ?_
  refine vk aC (λx w2 az=>?_) ?_
  have bY:=bY.ext az
  refine zl fo rfl (bY 0 _ rfl) ?_
  exact pv
  refine vk aC (λx w2 az=>?_) ?_
  refine aA (wk _ _) ?_
  rintro _ _ ⟨rfl,rfl⟩
  exact pv
  refine vc (λ_ _ _=>kF rfl rfl rfl pv) ?_
  refine vc (λx w2 az=>?_) ?_
  refine zm ?_
  exact pv (by exact congrArg Value.bool (show(!dQ (nth t.ak 2).aw)=false from by rw[h2];rfl))
  refine vc (λ_ _ _=>zf jI rfl pv) ?_
  refine vk aC (λx w2 az=>?_) ?_
  have aY:=aY.ext az
  refine zl iW rfl (aY.at rfl) ?_
  exact pv
  refine vk aC (λx w2 az=>?_) ?_
  refine zi (i:=1) cD aM rfl rfl om ?_
  exact pv
  refine vc (λ_ _ _=>zf lK rfl pv) ?_
  refine vk aC (λx w2 az=>?_) ?_
  have bK:=bK.ext az
  refine zl fo rfl (bK 0 _ rfl) ?_
  exact pv
  refine vc (λ_ _ _=>zf jI rfl pv) ?_
  refine vk aC (λx w2 az=>?_) ?_
  have aY:=aY.ext az
  refine zl iW rfl (aY.at rfl) ?_
  exact pv
  refine vk aC (λx w2 az=>?_) ?_
  refine zi (i:=2) cD aM rfl rfl om ?_
  exact pv
  refine vc (λ_ _ _=>zf lK rfl pv) ?_
  refine vk aC (λx w2 az=>?_) ?_
  have bY:=bY.ext az
  refine zl fo rfl (bY 0 _ rfl) ?_
  exact pv
  refine vk aC (λx w2 az=>?_) ?_
  refine Ap rfl rfl rfl rfl ?_
  exact pv
  refine vc (λ_ _ _=>zp rfl pv) ?_
  refine vc (λx w2 az=>?_) ?_
  refine zm ?_
  exact pv (by exact congrArg Value.bool (dF kW))
  refine vc (λ_ _ _=>zf jI rfl pv) ?_
  refine vk aC (λx w2 az=>?_) ?_
  have aY:=aY.ext az
  refine zl iW rfl (aY.at rfl) ?_
  exact pv
  refine vk aC (λx w2 az=>?_) ?_
  refine zi (i:=3) cD aM rfl rfl om ?_
  exact pv
  refine vk aC (λx w2 az=>?_) ?_
  have dS:=dS.ext az
  refine zL fc aM rfl dS rfl ?_
  exact pv
  refine vk aC (λx w2 az=>?_) ?_
  have ei:=ei.ext az
  refine aA (BN (nth t.ak 3) om (cB.nth om) _ _ w2 ei) ?_
  rintro v3 w3 ⟨jo,aH⟩
  have fh:=aH.size
  obtain rfl:=jo
  exact pk aH
  refine vc (λ_ _ _=>kF rfl rfl rfl pv) ?_
  refine vc (λ_ _ _=>zp rfl pv) ?_
  refine vc (λx w2 az=>?_) ?_
  refine zm ?_
  exact pv (by exact congrArg Value.bool (show(!j8 (nth t.ak 3))=false from by rw[h3];rfl))
  refine vc (λ_ _ _=>zf jI rfl pv) ?_
  refine vk aC (λx w2 az=>?_) ?_
  have aY:=aY.ext az
  refine zl iW rfl (aY.at rfl) ?_
  exact pv
  refine vk aC (λx w2 az=>?_) ?_
  refine zi (i:=4) cD aM rfl rfl om ?_
  exact pv
  refine vk aC (λx w2 az=>?_) ?_
  have jK:=jK.ext az
  refine zL fc aM rfl jK rfl ?_
  exact pv
  refine vk aC (λx w2 az=>?_) ?_
  have qp:=qp.ext az
  refine aA (BN (nth t.ak 4) om (cB.nth om) _ _ w2 qp) ?_
  rintro v3 w3 ⟨jo,aH⟩
  have fh:=aH.size
  obtain rfl:=jo
  exact pk aH
  refine vc (λ_ _ _=>kF rfl rfl rfl pv) ?_
  refine vc (λ_ _ _=>zp rfl pv) ?_
  refine vc (λ_ _ _=>zp rfl pv) ?_
  exact trivial
  intro x oW gS
  have hK:=hK.ext gS
  change OW _ _ _ _ [] (bo (bm _ x _) (zZ 52 [_,_,_,_,_,_,_,_,_,_,_,_,_,_,_,_,_,_,_,_,_,_,_,_,_,_,_,_,_,_,_,_,_,_,_,_,_,_,_,_])) _
  refine aV ?_
  exact⟨(),⟨rfl,rfl,rfl,congrArg Value.bool (show(!j8 (nth t.ak 4))=_ from by unfold Dk;rw[dT h5,h2,h3,h4,dT kW];rfl)⟩,hK,gS⟩
  intro gu qY zz hI
  obtain⟨hK,aB⟩:=hI
  have aY:=aY.ext aB;have aO:=aO.ext aB
  refine zc rfl (λh7=>?_) (λh7=>?_)
  have hz:dA t=false:=(by simp only[aE,dE,Bool.not_eq_true'] at h7;rw[oL,dF (λh=>h h7.1),h7.2];rfl)
  refine zr<|zA<|aV<|j4 ?_
  exact⟨_,rfl,by rw[hz];rfl,hK⟩
  have Kr:dA t=(t.ak.drop (dZ (nth t.ak 0).aw).1).all dA:=(by simp only[Bool.and_eq_false_iff,decide_eq_false_iff_not,Bool.not_eq_false'] at h7;rw[oL];rcases h7 with h|h;(·rw[dT h];rfl);(·rw[h,Bool.or_true];rfl))
  refine gT<|j3<|zr<|zm<|zA<|aV<|sV ?_
  refine dR (λk:Nat=>[(1,.pointer (some ⟨w.heap.size,0,none⟩)),(6,.int .i64 ((dZ (nth t.ak 0).aw).2:Int)),(7,.int .i64 (k:Int))]) (λk w'=>aj [] w w'∧aj [] qY w'∧(dZ (nth t.ak 0).aw).1<=k∧k<=t.ak.length∧∀j,(dZ (nth t.ak 0).aw).1<=j->j<k->dA (nth t.ak j)=true) (λk=>t.ak.length-k) ((dZ (nth t.ak 0).aw).1) (⟨rfl,rfl,rfl⟩) (⟨hK,aj.refl _ _,lR _,om,by intro j h1 h2;omega⟩) ?_
  intro gg pG Fa hI
  obtain⟨hK,kL,aI,hk,cC⟩:=hI
  have aY:=aY.ext kL;have aO:=aO.ext kL
  refine j3<|zr<|zm<|zm<|Jd rfl rfl rfl rfl rfl<|aV<|zc rfl (λh8=>?_) (λh8=>?_)
  have ic:gg<t.ak.length:=om
  obtain⟨b1,eX,gR,rM,gF,e1,bK,tH,pF⟩:=iM aO (gh ic)
  cases e1
  subst tH
  have cN:=lF pF
  have dk:=lI ic
  refine gT<|j3<|sV<|zr<|zf jI rfl<|zl iW rfl (aY.at rfl)<|zm<|zi cD aM rfl rfl ic<|zL fc aM rfl bK rfl<|aA (ih (nth t.ak gg) om om (cB.nth ic) _ _ pG cN) ?_
  rintro v44 pL ⟨ag7,jq⟩
  have aqs:=jq.size
  have hK:=hK.ext jq;have kL:=kL.ext jq
  obtain rfl:=ag7
  refine kF rfl rfl rfl<|aV<|zc rfl (λh9=>?_) (λh9=>?_)
  have hz:dA t=false:=(by rw[Kr];exact ag2 aI ic (by simpa using h9))
  refine zr<|zA<|aV<|j4 ?_
  exact⟨_,rfl,by rw[hz];rfl,hK⟩
  have hy:dA (nth t.ak gg)=true:=(by simpa using h9)
  refine gT<|jF<|zm<|kR rfl rfl rfl rfl rfl (wrap_i64 _ om om)<|zA<|aV ?_
  exact⟨gg+1,⟨rfl,rfl,rfl⟩,⟨hK,kL,om,om,by intro j h1 h2;rcases Nat.lt_or_ge j gg with h|h;exact cC j h1 h;rw[show j=gg by omega];exact hy⟩,om⟩
  refine yx<|yy rfl<|zr<|zA<|aV<|j4 ?_
  exact⟨_,rfl,by rw[Kr,ag1 (λj h1 h2=>cC j h1 om)];rfl,hK⟩
section
variable {P:Program} {w:World}
theorem ag8 {t ty T:TypeId} {i:TypeInfo} {sz bytes:Nat} (ht:P.underlying t=some (.slice T)) (hi:P.info? T=some i) (hz:i.zero=some z) 
  (Cq:i.size=sz) (fY:i.bytes=bytes) (yB:z.cells.size=sz)
  {v:Value} {g:Option Nat} {n:Nat} {xs:List Value} (dm:jb w T sz v g n xs)
  (ab aoff m c:Nat) (news:List Value) (hl:news.length=m*sz) (ub:gH w ab aoff news) (h1:∀u∈news,u.oneCell'=true) (hm:0<m) (VN:0<i.size)
  (Ao:n+m<=maxLen) (yC:(n+m)*bytes<=140737488355328):
  ∃v' g' w',(Builtin.append_ #[t,t] ty #[v,.slice (some ⟨ab,aoff,none⟩) m c]).run P w= .ok v' w'∧jb w' T sz v' g' (n+m) (xs++news)∧
   ((g'=g∧aj g.toList w w'∧∀b,g=some b->∃cur U,aK w b cur U∧0<cur.size)∨(g'=some w.heap.size∧aj [] w w')):=by
 subst Cq
 subst fY
 have I8:n+m<=9223372036854775807:=by simp only[maxLen] at Ao;omega
 have hlen:(xs++news).length=(n+m)*i.size:=by rw[lA,dm.1,hl,Nat.add_mul]
 have sW:∀b o j:Nat,(⟨b,o,none⟩:Addr).add j=⟨b,o+j,none⟩:=λb o j=>by unfold Addr.add;split<;>simp_all
 have vw:∀j u,news[j]?=some u->w.cell? ((⟨ab,aoff,none⟩:Addr).add j)=some u:=λj u hu=>by rw[sW];exact ub j u hu
 have grown:∀(old:Nat),old<n+m->
   jb (w.drew.alloc (.cells (xs.toArray++news.toArray++Builtin.zeroCells z.cells (grownCap w (n+m) old T-(n+m))) T)) T i.size
    (.slice (some ⟨w.heap.size,0,none⟩) (n+m) (grownCap w (n+m) old T)) (some w.heap.size) (n+m) (xs++news)∧
   aj [] w (w.drew.alloc (.cells (xs.toArray++news.toArray++Builtin.zeroCells z.cells (grownCap w (n+m) old T-(n+m))) T)):=by
  intro old ho
  have qE:=grownCap_ge w (n+m) old T
  have l0:grownCap w (n+m) old T<=maxLen:=grownCap_le_maxLen w (n+m) old T Ao
  refine⟨⟨hlen,.inr ⟨w.heap.size,_,_,rfl,rfl,heap_alloc_new w.drew _,qE,l0,?_,?_⟩⟩,⟨rfl,rfl,rfl,sm,λk hk _=>(aj.alloc [] w.drew _).block k hk sm⟩⟩
  ·simp only[Array.size_append,List.size_toArray,size_zeroCells,yB,dm.1,hl,<-Nat.add_mul]
   congr 1
   omega
  ·simp only[Array.toList_append,List.append_assoc]
   rw[<-List.append_assoc,<-hlen]
   exact List.take_left
 rcases dm.2 with⟨rfl,rfl,rfl⟩|⟨b,cap,cur,rfl,rfl,hb,my,l0,bV,ug⟩
 ·have hx:xs=[]:=List.eq_nil_of_length_eq_zero (by simpa using dm.1)
  subst hx
  have hr:=run_append_nil (P:=P) w t ty T i z ht hi hz ⟨ab,aoff,none⟩ m c news hl vw hm om (by have hb:=yC;simp only[Nat.zero_add] at hb;omega)
  have lz:=grown 0 om
  simp only[Nat.zero_add,List.nil_append,Array.empty_append] at lz⊢
  exact⟨_,_,_,hr,lz.1,.inr ⟨rfl,lz.2⟩⟩
 ·by_cases pe:n+m<=cap
  ·have kQ:n*i.size+news.length<=cur.size:=by rw[hl,bV,<-Nat.add_mul];exact Nat.mul_le_mul_right _ pe
   have hr:=run_append_room (P:=P) w t ty T i ht hi b n cap cur hb ⟨ab,aoff,none⟩ m c news hl vw h1 pe kQ
   refine⟨_,some b,_,hr,⟨hlen,.inr ⟨b,cap,_,rfl,rfl,setRow_heap w b cur _ T _ hb,pe,l0,?_,?_⟩⟩,.inl ⟨rfl,⟨rfl,rfl,rfl,sm,λk _ hk=>setRow_other w b k _ (by simpa using hk)⟩,λb' gB=>?_⟩⟩
   ·simp only[List.size_toArray,lA,List.length_take,List.length_drop,Array.length_toList]
    omega
   ·rw[ug,<-hlen]
    exact List.take_left
   ·cases gB
    refine⟨cur,T,hb,?_⟩
    rw[bV]
    exact Nat.mul_pos om VN
  ·have holds:∀j u,xs[j]?=some u->w.cell? ((⟨b,0,none⟩:Addr).add j)=some u:=λj u hu=>by
    rw[sW,hb.cell]
    rw[<-ug,List.getElem?_take] at hu
    split at hu
    ·simpa using hu
    ·cases hu
   have hr:=run_append_grow (P:=P) w t ty T i z ht hi hz ⟨b,0,none⟩ n cap xs dm.1 holds ⟨ab,aoff,none⟩ m c news hl vw om om (growslice_fits om yC)
   have lz:=grown cap om
   exact⟨_,_,_,hr,lz.1,.inr ⟨rfl,lz.2⟩⟩
end
def qZ (G:List Nat) (w:World) (T:TypeId) (g:Option Nat):Prop:=∀x,x∈g.toList->x∈G∨aK w x #[] T
theorem qZ.ext {T:TypeId} (h:qZ G w T g) (k:aj [] w w'):qZ G w' T g:=λx hx=>(h x hx).imp id λh=>h.ext k
theorem qZ.sub {T:TypeId} (h:∀x,x∈g.toList->x∈G):qZ G w T g:=λx hx=>.inl (h x hx)
section
variable {P:Program} {n:Nat} {ops:Array Oper} {K:Env->World->Prop} {rest:List Oper} {e:Env} {w:World} {dst:Option Nat} {ty:TypeId} {pos:String} {after:Array Edge} {g:Option (Nat×Bool)} {x y:Operand}
theorem Fb {G L:List Nat} {v u:Value} {gb:Option Nat} {xs ys:List ai} (hT:P.underlying t=some (.slice E)) (hE:TI P E 1 bytes z) (hg:gate ops e g=true) (hd:cj n dst=true) (hz:Nat.beq z.cells.size 1=true) (fY:Nat.ble bytes 1000=true) 
  (hx:ev e x=v) (hy:ev e y=u) (hO:cG w E v gb xs) (hu:bf L w u ys) (hG:eW G w) (bh:qZ G w E gb) (hn:xs.length+ys.length<100000000)
  (k:∀v' g' w' G',cG w' E v' g' (xs++ys)->qZ G' w' E g'->(∀x,x∈g'.toList->x∈gb.toList∨w.heap.size<=x)->(∀x,x∈G->x∈G')->Fr G w G' w'->eW G' w'->aj gb.toList w w'->OW P n ops K rest (bQ e dst v') w'):
  OW P n ops K (⟨dst,.call {callee:=.builtin .append,args:=#[x,y],argTypes:=#[t,t]},ty,pos,after,g⟩::rest) e w:=by
 obtain⟨i,hi,vG,fR,NT⟩:=hE.get
 have AE:bytes<=1000:=Nat.le_of_ble_eq_true fY
 obtain⟨a2,n2,c2,rfl,eS⟩:=dH hu
 subst eS
 by_cases hp:0<ys.length
 ·obtain⟨ab,aoff,vs,rfl,JL,aqt,hc,J4,_,iC⟩:=Uz hu (by rw[po];exact hp)
  have aX:=NU J4
  subst aX
  obtain⟨v',g',w',j5,yK,ag9⟩:=ag8 (P:=P) (ty:=ty) hT hi vG fR NT (Nat.eq_of_beq_eq_true hz) hO ab aoff ys.length c2 (ys.map λx=>str x) sm hc (by intro u hu;obtain⟨s,_,rfl⟩:=List.mem_map.1 hu;rfl) hp (by rw[fR];decide) (by simp only[maxLen];omega)
   (Nat.le_trans (Nat.mul_le_mul (show xs.length+ys.length<=100000000 by omega) AE) de)
  have Ou:cG w' E v' g' (xs++ys):=by
   unfold cG
   rw[lA,List.map_append]
   exact yK
  refine eJ hg hd (v:=v') (w':=w') (by
   simp only[execOp,resolve,invoke,builtin,Sem.run_bind,Sem.run_pure,Result.andThen_ok,List.map_toArray,List.map_cons,List.map_nil,hx,hy,j5]) ?_
  rcases ag9 with⟨rfl,hk,HJ⟩|⟨rfl,hk⟩
  ·have nz:∀q,q∈g'.toList->q∈G:=λq hq=>by
    rcases bh q hq with h|h
    ·exact h
    ·obtain⟨cur,U,hb,hs⟩:=HJ q (by simpa using hq)
     unfold aK at h hb
     rw[h] at hb
     cases hb
     simp at hs
   exact k v' g' w' G Ou (qZ.sub nz) (λq hq=>.inl hq) (λq hq=>hq) (Fr.of hk nz) (λq hq=>lL (hG q hq) hk.size) hk
  ·have dY:w.heap.size<w'.heap.size:=Ou.lt _ sm
   refine k v' _ w' (w.heap.size::G) Ou (qZ.sub sm) (λq hq=>.inr (by simp at hq;omega)) (λq hq=>mK _ hq) ⟨hk.any,λq hq=>?_⟩ (λq hq=>?_) hk.any
   ·rcases mC.1 hq with h|h
    ·right;omega
    ·exact .inl h
   ·rcases mC.1 hq with h|h
    ·omega
    ·exact lL (hG q h) hk.size
 ·have od:ys=[]:=List.length_eq_zero_iff.1 om
  subst od
  obtain⟨a,cap,rfl⟩:=jn hO
  have xg:xs.length<=cap:=by
   rcases hO.2 with⟨h,h2,_⟩|⟨_,_,_,_,h,_,h2,_⟩
   ·rw[h2];omega
   ·cases h;exact h2
  have j5:=UA (P:=P) (w:=w) (t:=t) (ty:=ty) hT hi (a:=a) (m:=xs.length) (cap:=cap) xg (a2:=a2) (c2:=c2)
  refine eJ hg hd (v:=.slice a xs.length cap) (w':=w) (by
   simp only[execOp,resolve,invoke,builtin,Sem.run_bind,Sem.run_pure,Result.andThen_ok,List.map_toArray,List.map_cons,List.map_nil,hx,hy]
   have e2:([]:List ai).length=0:=rfl
   rw[e2]
   simp only[j5,Sem.run_bind,Sem.run_pure,Result.andThen_ok]) ?_
  exact k _ gb w G (by rw[List.append_nil];exact hO) bh (λq hq=>.inl hq) (λq hq=>hq) (Fr.refl _ _) hG (aj.refl _ _)
theorem aha {T:Nat} (hT:P.underlying T=some (.slice E)) (hE:TI P E sz bytes z) (hg:gate ops e g=true) (hd:cj n dst=true) 
  (k:∀w',aj [] w w'->aK w' w.heap.size #[] E->w'.heap.size=w.heap.size+1->OW P n ops K rest (bQ e dst (.slice (some ⟨w.heap.size,0,none⟩) 0 0)) w'):
  OW P n ops K (⟨dst,.buildSlice T 0 #[],ty,pos,after,g⟩::rest) e w:=
 eJ hg hd (w':=w.alloc (.cells #[] E)) (by simp[execOp,R4 (P:=P) (w:=w) hT hE]) (k _ (aj.alloc _ _ _) (aK.alloc _ _ _) sm)
theorem gA {T:Nat} (hT:P.underlying T=some (.slice E)) (hE:TI P E sz bytes z) (k:∀w',aj [] w w'->aK w' w.heap.size #[] E->w'.heap.size=w.heap.size+1->OW P n ops K rest (bQ e dst (.slice (some ⟨w.heap.size,0,none⟩) 0 0)) w') (hg:gate ops e g=true:=by rfl) (hd:cj n dst=true:=by rfl):OW P n ops K (⟨dst,.buildSlice T 0 #[],ty,pos,after,g⟩::rest) e w:=aha hT hE hg hd k
end
def LP (N:Nat) (G G0:List Nat) (w:World) (T:TypeId) (v:Value) (xs:List ai):Prop:=∃g,cG w T v g xs∧qZ G w T g∧∀x,x∈g.toList->x∉G0∧N<=x
theorem LP.ext {T:TypeId} (h:LP N G G0 w T v xs) (k:aj [] w w'):LP N G G0 w' T v xs:=let⟨g,h1,h2,h3⟩:=h;⟨g,h1.ext k,h2.ext k,h3⟩
structure Out (N:Nat) (G0:List Nat) (w w':World):Prop where
 ex:∃H,aj H w w'∧∀x,x∈H->x∉G0∧N<=x
theorem Out.iw (h:Out N G0 w w') {b:Nat} {cs:Array Value} {T:TypeId} (hb:aK w b cs T) (hG:b∈G0):aK w' b cs T:=let⟨_,k,hH⟩:=h.ex;hb.aF k λhx=>(hH b hx).1 hG
theorem Out.since {w0:World} (h:Out w0.heap.size G0 w w') (k:aj L w0 w):aj L w0 w':=let⟨_,kk,hH⟩:=h.ex;k.since kk λx hx=>.inr (hH x hx).2
section
variable {P:Program} {n:Nat} {ops:Array Oper} {K:Env->World->Prop} {rest:List Oper} {e:Env} {w:World} {dst:Option Nat} {ty:TypeId} {pos:String} {after:Array Edge} {g:Option (Nat×Bool)} {x y:Operand}
theorem HK {N:Nat} {G0:List Nat} {bb:Nat} {u:Value} {ys:List ai} (hT:P.underlying t=some (.slice E)) (hE:TI P E 1 bytes z) (hg:gate ops e g=true) (hd:cj n dst=true) (hz:Nat.beq z.cells.size 1=true) (fY:Nat.ble bytes 1000=true) 
  (hx:ev e x= .slice (some ⟨bb,0,none⟩) 0 0) (hy:ev e y=u) (hb:dP G0 w bb #[] E) (VO:N<=bb) (hu:bf G0 w u ys) (hG:eW G0 w) (hn:ys.length<100000000)
  (k:∀v' w' G',(∀q,q∈G0->q∈G')->LP N G' G0 w' E v' ys->Fr G0 w G' w'->eW G' w'->Out N G0 w w'->OW P n ops K rest (bQ e dst v') w'):
  OW P n ops K (⟨dst,.call {callee:=.builtin .append,args:=#[x,y],argTypes:=#[t,t]},ty,pos,after,g⟩::rest) e w:=by
 refine Fb hT hE hg hd hz fY hx hy hb.iw.ll hu hG (λq hq=>.inr (by simp at hq;subst hq;exact hb.iw)) (by simpa using hn) ?_
 intro v' g' w' G' hO hZ hs kf bF hl hk
 refine k v' w' G' kf ⟨g',hO,hZ,λq hq=>⟨λVP=>?_,?_⟩⟩ bF hl ⟨_,hk,λq hq=>?_⟩
 ·rcases hs q hq with h|h
  ·simp at h;subst h;exact hb.out VP
  ·have:=hG q VP;omega
 ·rcases hs q hq with h|h
  ·simp at h;subst h;exact VO
  ·have:=hb.iw.lt;omega
 ·simp at hq;subst hq;exact⟨hb.out,VO⟩
theorem Ks {N:Nat} {G G0:List Nat} {v u:Value} {xs ys:List ai} (hT:P.underlying t=some (.slice E)) (hE:TI P E 1 bytes z) (hg:gate ops e g=true) (hd:cj n dst=true) (hz:Nat.beq z.cells.size 1=true) (fY:Nat.ble bytes 1000=true) 
  (hx:ev e x=v) (hy:ev e y=u) (hO:LP N G G0 w E v xs) (hu:bf G w u ys) (hG:eW G w) (kf:∀q,q∈G0->q∈G) (hn:xs.length+ys.length<100000000)
  (k:∀v' w',bf G0 w' v' (xs++ys)->Fr G w G0 w'->eW G0 w'->Out N G0 w w'->OW P n ops K rest (bQ e dst v') w'):
  OW P n ops K (⟨dst,.call {callee:=.builtin .append,args:=#[x,y],argTypes:=#[t,t]},ty,pos,after,g⟩::rest) e w:=by
 obtain⟨gb,h1,h2,h3⟩:=hO
 refine Fb hT hE hg hd hz fY hx hy h1 hu hG h2 hn ?_
 intro v' g' w' G' hO hZ hs VQ bF hl hk
 refine k v' w' (hO.rep λb hb jB=>?_) (bF.to λq hq=>.inl (VQ q (kf q hq))) (λq hq=>hl q (VQ q (kf q hq))) ⟨_,hk,λq hq=>h3 q hq⟩
 rcases hs b (by simp[hb]) with h|h
 ·exact(h3 b h).1 jB
 ·have:=hG b (kf b jB);omega
end
theorem dL.out {T:TypeId} (h:dL G w T sz v g rows) (k:Fr G w G' w') (ho:Out N G0 w w') (hg:∀x,x∈g.toList->x∈G0):dL G' w' T sz v g rows:=
 let⟨_,kk,hH⟩:=ho.ex;h.aF k kk λx hx fC=>(hH x fC).1 (hg x hx)
section
variable {P:Program} {n:Nat} {ops:Array Oper} {K:Env->World->Prop} {rest:List Oper} {e:Env} {w:World} {pos:String} {ty:TypeId} {after:Array Edge} {g:Option (Nat×Bool)} {x y:Operand}
theorem tM {G:List Nat} {T:Nat} {v:Value} {vs:List Value} {row:List C} {E gb:Nat} {N c:Nat} {rows:List (List C)} {b o i:Nat} (j6:TI P T sz bytes z) (hg:gate ops e g=true) 
  (hx:ev e x= .pointer (some ⟨b,o,none⟩)) (hy:ev e y=v) (hv:v.cells=vs.toArray) (ho:o=i*sz) (hO:dL G w E sz (.slice (some ⟨b,0,none⟩) N c) (some gb) rows) (hG:eW G w) (mc:gb∈G) (hi:i<rows.length) (h1:vs.all Value.oneCell'=true)
  (oN:row.length=sz) (hr:cZ G w vs row)
  (k:∀w',aj [gb] w w'->w'.heap.size=w.heap.size->dL G w' E sz (.slice (some ⟨b,0,none⟩) N c) (some gb) (rows.set i row)->OW P n ops K rest e w'):
  OW P n ops K (⟨none,.store T x y,ty,pos,after,g⟩::rest) e w:=by
 obtain⟨⟨xs,dm,iK⟩,iC⟩:=hO
 have oK:∀q,q∈gb::G.filter (λq=>decide (q≠gb))->q∈G∨w.heap.size<=q:=λq hq=>by
  rcases mC.1 hq with h|h
  ·exact .inl (h▸mc)
  ·exact .inl (List.mem_filter.1 h).1
 have hGr:Gr 0 (G.filter λq=>decide (q≠gb)) w E sz (.slice (some ⟨b,0,none⟩) N c) (some gb) rows:=
  ⟨⟨xs,dm,iK.fresh oK,iC,λq hq oL=>by cases hq;simpa using(List.mem_filter.1 oL).2⟩,λ_ _=>Nat.zero_le _,λq hq=>hG q (List.mem_filter.1 hq).1,Nat.zero_le _⟩
 refine afW j6 hg hx hy hv ho hGr hi h1 oN (hr.fresh oK) ?_
 intro w' hk hz jj
 obtain⟨xs',h'⟩:=jj.own
 refine k w' hk hz ⟨⟨xs',h'.own,h'.rep.fresh λq hq=>?_⟩,h'.row⟩
 by_cases VR:q=gb
 ·exact .inl (by simp[VR])
 ·exact .inl (by simp[VR,hq])
end
theorem ahc {t:aq} (h:EH s t):(((bB s).isSome&&dA t)&&decide ((fy t:Int)<=120))=mF s:=by
 unfold mF Ko
 cases hp:bB s with
 |none=>rfl
 |some u=>rw[h.1 u hp];exact congrArg (λb=>dA u&&b) (decide_eq_decide.2 om)
theorem HL (s:ai) (L:List Nat) (w:World) (hL:∀x,x∈L->x<w.heap.size):
  bw Tryz.prog 128 [str s] w λv w'=>(∃t tv,v= .tuple #[tv,.bool (mF s)]∧bC L w' tv t∧EH s t)∧aj [] w w':=by
 have hK:=aj.refl [] w
 refine lG [.cell 2 74,.tmp 3] 22 Tryz.func128 rfl acr rfl rfl rfl ?_
 refine zr<|dz aM rfl rfl rfl λw1 aI aR dh=>?_
 have hK:=hK.grow;have hK:=hK.ext aI
 refine W ?_
 refine aA (Kc s (w.heap.size::L) w1 (by intro x hx;rcases mC.1 hx with rfl|hx;omega;have:=hL x hx;omega)) ?_
 rintro v2 w2 ⟨gz,az⟩
 have dx:=az.size
 refine bI az hK aR λhK aR=>?_
 obtain⟨t,tv,rfl,ht,hp⟩:=gz
 obtain⟨pa,pn,pc,rfl,eO,aO⟩:=cY ht
 subst eO
 have cB:∀h:(bB s).isSome=true,WF t∧t.size<=12001:=λh=>EC hp.1 h
 refine W ?_
 refine dz aM rfl rfl rfl λw3 aH aG gL=>?_
 have hK:=hK.grow;have hK:=hK.ext aH;have aR:=aR.grow;have aR:=aR.ext aH;have ht:=ht.grow;have ht:=ht.ext aH
 refine cL aM rfl rfl rfl aG rfl λw4 aP aG gQ=>?_
 have hK:=hK.aD aP sx;have aR:=aR.aD aP sx;have ht:=ht.aD aP sx
 refine W ?_
 refine Ax dv (cA w.heap.size ([str t.aw,.slice pa t.ak.length pc]) 74) 13 (rA 11 11++[100011,3]) (rA 11 11++[100011,3]) [[],[],[1],[2],[2,3],[2,4],[5],[6],[6,7],[6,8],[6,9],[0],[10]] [λv _=>v=(.agg #[str t.aw,.slice pa t.ak.length pc]),λv _=>v=(.bool ((bB s).isSome)),λv _=>v=(.bool ((bB s).isSome)),λv _=>((bB s).isSome)=true->v=(.agg #[str t.aw,.slice pa t.ak.length pc]),λv _=>((bB s).isSome)=true->v=(.bool (dA t)),λv _=>v=(.bool ((bB s).isSome&&dA t)),λv _=>v=(.bool ((bB s).isSome&&dA t)),λv _=>((bB s).isSome&&dA t)=true->v=(.agg #[str t.aw,.slice pa t.ak.length pc]),λv _=>((bB s).isSome&&dA t)=true->v=(.int .i64 (fy t:Int)),λv _=>((bB s).isSome&&dA t)=true->v=(.bool (decide ((fy t:Int)<=120))),λv _=>v=(.bool (((bB s).isSome&&dA t)&&decide ((fy t:Int)<=120))),λ_ ww=>aK ww w.heap.size ([str t.aw,.slice pa t.ak.length pc]).toArray 74,λv _=>v=(.bool (((bB s).isSome&&dA t)&&decide ((fy t:Int)<=120)))] de (fE (fE (fE (Ct (Ct (fE (fE (Ct (Ct (Ct (fE (Es (fE trivial))))))))))))) (λwd aC=>?_) ?_
 refine et ?_ ?_
 intro x vs w5 e aN hd he
 replace aN:=(cA w.heap.size ([str t.aw,.slice pa t.ak.length pc]) 74).trans aC aN
 have aG:=aG.aD aN.1 sx
 replace he:e=bo (bm _ x _) []:=he
 subst he
 refine W ?_
 exact dn ((cA w.heap.size ([str t.aw,.slice pa t.ak.length pc]) 74).refl _) rfl
 refine et ?_ ?_
 intro x vs w5 e aN hd he
 replace aN:=(cA w.heap.size ([str t.aw,.slice pa t.ak.length pc]) 74).trans aC aN
 replace he:e=bo (bm _ x _) []:=he
 subst he
 refine W ?_
 exact dn ((cA w.heap.size ([str t.aw,.slice pa t.ak.length pc]) 74).refl _) rfl
 refine et ?_ ?_
 intro x vs w5 e aN hd he
 have d1:vs 1=(.bool ((bB s).isSome)):=hd
 replace aN:=(cA w.heap.size ([str t.aw,.slice pa t.ak.length pc]) 74).trans aC aN
 replace he:e=bo (bm _ x _) [(12,vs 1)]:=he
 rw[d1] at he
 subst he
 refine W ?_
 exact dn ((cA w.heap.size ([str t.aw,.slice pa t.ak.length pc]) 74).refl _) rfl
 refine et ?_ ?_
 intro x vs w5 e aN hd he
 have d2:vs 2=(.bool ((bB s).isSome)):=hd
 replace aN:=(cA w.heap.size ([str t.aw,.slice pa t.ak.length pc]) 74).trans aC aN
 have aG:=aG.aD aN.1 sx
 rcases bE ((bB s).isSome) with hg|hg
 rw[hg] at d2
 replace he:e=bo (bm _ x _) [(13,vs 2)]:=he
 rw[d2] at he
 subst he
 refine W ?_
 exact dn ((cA w.heap.size ([str t.aw,.slice pa t.ak.length pc]) 74).refl _) (show((bB s).isSome)=true->_=((.agg #[str t.aw,.slice pa t.ak.length pc]):Value) from λ_=>rfl)
 rw[hg] at d2
 replace he:e=bo (bm _ x _) [(13,vs 2)]:=he
 rw[d2] at he
 subst he
 refine W ?_
 exact dn ((cA w.heap.size ([str t.aw,.slice pa t.ak.length pc]) 74).refl _) (show((bB s).isSome)=true->_=(_:Value) from λhh=>nomatch hg.symm.trans hh)
 refine et ?_ ?_
 intro x vs w5 e aN hd he
 have aQ:(vs 2=(.bool ((bB s).isSome)))∧(((bB s).isSome)=true->vs 3=(.agg #[str t.aw,.slice pa t.ak.length pc])):=hd
 obtain⟨d2,d3⟩:=aQ
 replace aN:=(cA w.heap.size ([str t.aw,.slice pa t.ak.length pc]) 74).trans aC aN
 have ht:=ht.aD aN.1 sx
 rcases bE ((bB s).isSome) with hg|hg
 rw[hg] at d2
 replace d3:=d3 hg
 replace he:e=bo (bm _ x _) [(13,vs 2),(14,vs 3)]:=he
 rw[d2,d3] at he
 subst he
 refine aA (ag4 t.size t (lR _) (by have:=(cB hg).2;omega) (cB hg).1 _ _ w5 ht) ?_
 rintro _ w6 ⟨rfl,bN⟩
 have iJ:=bN.size
 refine W ?_
 exact dn ((cA w.heap.size ([str t.aw,.slice pa t.ak.length pc]) 74).of bN) (show((bB s).isSome)=true->_=((.bool (dA t)):Value) from λ_=>rfl)
 rw[hg] at d2
 replace he:e=bo (bm _ x _) [(13,vs 2),(14,vs 3)]:=he
 rw[d2] at he
 subst he
 refine W ?_
 exact dn ((cA w.heap.size ([str t.aw,.slice pa t.ak.length pc]) 74).refl _) (show((bB s).isSome)=true->_=(_:Value) from λhh=>nomatch hg.symm.trans hh)
 refine et ?_ ?_
 intro x vs w5 e aN hd he
 have aQ:(vs 2=(.bool ((bB s).isSome)))∧(((bB s).isSome)=true->vs 4=(.bool (dA t))):=hd
 obtain⟨d2,d4⟩:=aQ
 replace aN:=(cA w.heap.size ([str t.aw,.slice pa t.ak.length pc]) 74).trans aC aN
 rcases bE ((bB s).isSome) with hg|hg
 rw[hg] at d2
 replace d4:=d4 hg
 replace he:e=bo (bm _ x _) [(13,vs 2),(15,vs 4)]:=he
 rw[d2,d4] at he
 subst he
 refine W ?_
 exact dn ((cA w.heap.size ([str t.aw,.slice pa t.ak.length pc]) 74).refl _) (by first|rfl|(rw[hg];rfl))
 rw[hg] at d2
 replace he:e=bo (bm _ x _) [(13,vs 2),(15,vs 4)]:=he
 rw[d2] at he
 subst he
 refine W ?_
 exact dn ((cA w.heap.size ([str t.aw,.slice pa t.ak.length pc]) 74).refl _) (by first|rfl|(rw[hg];rfl))
 refine et ?_ ?_
 intro x vs w5 e aN hd he
 have d5:vs 5=(.bool ((bB s).isSome&&dA t)):=hd
 replace aN:=(cA w.heap.size ([str t.aw,.slice pa t.ak.length pc]) 74).trans aC aN
 replace he:e=bo (bm _ x _) [(16,vs 5)]:=he
 rw[d5] at he
 subst he
 refine W ?_
 exact dn ((cA w.heap.size ([str t.aw,.slice pa t.ak.length pc]) 74).refl _) rfl
 refine et ?_ ?_
 intro x vs w5 e aN hd he
 have d6:vs 6=(.bool ((bB s).isSome&&dA t)):=hd
 replace aN:=(cA w.heap.size ([str t.aw,.slice pa t.ak.length pc]) 74).trans aC aN
 have aG:=aG.aD aN.1 sx
 rcases bE ((bB s).isSome&&dA t) with hg|hg
 rw[hg] at d6
 replace he:e=bo (bm _ x _) [(17,vs 6)]:=he
 rw[d6] at he
 subst he
 refine W ?_
 exact dn ((cA w.heap.size ([str t.aw,.slice pa t.ak.length pc]) 74).refl _) (show((bB s).isSome&&dA t)=true->_=((.agg #[str t.aw,.slice pa t.ak.length pc]):Value) from λ_=>rfl)
 rw[hg] at d6
 replace he:e=bo (bm _ x _) [(17,vs 6)]:=he
 rw[d6] at he
 subst he
 refine W ?_
 exact dn ((cA w.heap.size ([str t.aw,.slice pa t.ak.length pc]) 74).refl _) (show((bB s).isSome&&dA t)=true->_=(_:Value) from λhh=>nomatch hg.symm.trans hh)
 refine et ?_ ?_
 intro x vs w5 e aN hd he
 have aQ:(vs 6=(.bool ((bB s).isSome&&dA t)))∧(((bB s).isSome&&dA t)=true->vs 7=(.agg #[str t.aw,.slice pa t.ak.length pc])):=hd
 obtain⟨d6,d7⟩:=aQ
 replace aN:=(cA w.heap.size ([str t.aw,.slice pa t.ak.length pc]) 74).trans aC aN
 have ht:=ht.aD aN.1 sx
 rcases bE ((bB s).isSome&&dA t) with hg|hg
 rw[hg] at d6
 replace d7:=d7 hg
 replace he:e=bo (bm _ x _) [(17,vs 6),(18,vs 7)]:=he
 rw[d6,d7] at he
 subst he
 refine aA (VD t.size t (lR _) (by have:=(cB ((aE _ _).mp hg).1).2;omega) (cB ((aE _ _).mp hg).1).1 _ _ w5 ht) ?_
 rintro _ w6 ⟨rfl,bN⟩
 have iJ:=bN.size
 refine W ?_
 exact dn ((cA w.heap.size ([str t.aw,.slice pa t.ak.length pc]) 74).of bN) (show((bB s).isSome&&dA t)=true->_=((.int .i64 (fy t:Int)):Value) from λ_=>rfl)
 rw[hg] at d6
 replace he:e=bo (bm _ x _) [(17,vs 6),(18,vs 7)]:=he
 rw[d6] at he
 subst he
 refine W ?_
 exact dn ((cA w.heap.size ([str t.aw,.slice pa t.ak.length pc]) 74).refl _) (show((bB s).isSome&&dA t)=true->_=(_:Value) from λhh=>nomatch hg.symm.trans hh)
 refine et ?_ ?_
 intro x vs w5 e aN hd he
 have aQ:(vs 6=(.bool ((bB s).isSome&&dA t)))∧(((bB s).isSome&&dA t)=true->vs 8=(.int .i64 (fy t:Int))):=hd
 obtain⟨d6,d8⟩:=aQ
 replace aN:=(cA w.heap.size ([str t.aw,.slice pa t.ak.length pc]) 74).trans aC aN
 rcases bE ((bB s).isSome&&dA t) with hg|hg
 rw[hg] at d6
 replace d8:=d8 hg
 replace he:e=bo (bm _ x _) [(17,vs 6),(19,vs 8)]:=he
 rw[d6,d8] at he
 subst he
 refine W ?_
 exact dn ((cA w.heap.size ([str t.aw,.slice pa t.ak.length pc]) 74).refl _) (show((bB s).isSome&&dA t)=true->_=((.bool (decide ((fy t:Int)<=120))):Value) from λ_=>rfl)
 rw[hg] at d6
 replace he:e=bo (bm _ x _) [(17,vs 6),(19,vs 8)]:=he
 rw[d6] at he
 subst he
 refine W ?_
 exact dn ((cA w.heap.size ([str t.aw,.slice pa t.ak.length pc]) 74).refl _) (show((bB s).isSome&&dA t)=true->_=(_:Value) from λhh=>nomatch hg.symm.trans hh)
 refine et ?_ ?_
 intro x vs w5 e aN hd he
 have aQ:(vs 6=(.bool ((bB s).isSome&&dA t)))∧(((bB s).isSome&&dA t)=true->vs 9=(.bool (decide ((fy t:Int)<=120)))):=hd
 obtain⟨d6,d9⟩:=aQ
 replace aN:=(cA w.heap.size ([str t.aw,.slice pa t.ak.length pc]) 74).trans aC aN
 rcases bE ((bB s).isSome&&dA t) with hg|hg
 rw[hg] at d6
 replace d9:=d9 hg
 replace he:e=bo (bm _ x _) [(17,vs 6),(20,vs 9)]:=he
 rw[d6,d9] at he
 subst he
 refine W ?_
 exact dn ((cA w.heap.size ([str t.aw,.slice pa t.ak.length pc]) 74).refl _) (by first|rfl|(rw[hg];rfl))
 rw[hg] at d6
 replace he:e=bo (bm _ x _) [(17,vs 6),(20,vs 9)]:=he
 rw[d6] at he
 subst he
 refine W ?_
 exact dn ((cA w.heap.size ([str t.aw,.slice pa t.ak.length pc]) 74).refl _) (by first|rfl|(rw[hg];rfl))
 refine et ?_ ?_
 intro x vs w5 e aN hd he
 have d0:vs 0=(.agg #[str t.aw,.slice pa t.ak.length pc]):=hd
 replace aN:=(cA w.heap.size ([str t.aw,.slice pa t.ak.length pc]) 74).trans aC aN
 obtain⟨us,wm,wo⟩:=aN.2.2 ⟨_,(by rfl),aR⟩
 replace he:e=bo (bm _ x _) [(11,vs 0)]:=he
 rw[d0] at he
 subst he
 refine cL aM rfl rfl rfl wo (by rw[wm];rfl) λw6 bN hb lj=>W ?_
 exact dn ⟨bN,λ_=>hb,λ_=>⟨_,rfl,hb⟩⟩ hb
 refine et ?_ ?_
 intro x vs w5 e aN hd he
 have d10:vs 10=(.bool (((bB s).isSome&&dA t)&&decide ((fy t:Int)<=120))):=hd
 replace aN:=(cA w.heap.size ([str t.aw,.slice pa t.ak.length pc]) 74).trans aC aN
 replace he:e=bo (bm _ x _) [(21,vs 10)]:=he
 rw[d10] at he
 subst he
 refine W ?_
 exact dn ((cA w.heap.size ([str t.aw,.slice pa t.ak.length pc]) 74).refl _) rfl
 exact trivial
 intro x vs pL jq dU
 have d0:vs 0=(.agg #[str t.aw,.slice pa t.ak.length pc]):=dU 0 de
 have d1:vs 1=(.bool ((bB s).isSome)):=dU 1 de
 have d2:vs 2=(.bool ((bB s).isSome)):=dU 2 de
 have d3:((bB s).isSome)=true->vs 3=(.agg #[str t.aw,.slice pa t.ak.length pc]):=dU 3 de
 have d4:((bB s).isSome)=true->vs 4=(.bool (dA t)):=dU 4 de
 have d5:vs 5=(.bool ((bB s).isSome&&dA t)):=dU 5 de
 have d6:vs 6=(.bool ((bB s).isSome&&dA t)):=dU 6 de
 have d7:((bB s).isSome&&dA t)=true->vs 7=(.agg #[str t.aw,.slice pa t.ak.length pc]):=dU 7 de
 have d8:((bB s).isSome&&dA t)=true->vs 8=(.int .i64 (fy t:Int)):=dU 8 de
 have d9:((bB s).isSome&&dA t)=true->vs 9=(.bool (decide ((fy t:Int)<=120))):=dU 9 de
 have d10:vs 10=(.bool (((bB s).isSome&&dA t)&&decide ((fy t:Int)<=120))):=dU 10 de
 have d11:aK pL w.heap.size ([str t.aw,.slice pa t.ak.length pc]).toArray 74:=dU 11 de
 have d12:vs 12=(.bool (((bB s).isSome&&dA t)&&decide ((fy t:Int)<=120))):=dU 12 de
 have hK:=hK.aD jq.1 sx;have ht:=ht.aD jq.1 sx
 have aR:=d11
 change OW _ _ _ _ [] (bo (bm _ x _) (zZ 11 [vs 0,vs 1,vs 2,vs 3,vs 4,vs 5,vs 6,vs 7,vs 8,vs 9,vs 10]++[(100011,vs 11),(3,vs 12)])) _
 rw[d0,d1,d2,d5,d6,d10,d12]
 refine W ?_
 exact⟨[_,_],⟨gC fc aM rfl aR rfl,rfl⟩,⟨t,_,by rw[ahc hp];rfl,ht.gm (λx hx=>by simp[hx]),hp⟩,hK⟩
theorem Ov (s:ai) (w:World):bw Tryz.prog 133 [str s] w λr w'=>r= .bool (mF s)∧aj [] w w':=by
 have hK:=aj.refl [] w
 refine bU [.tmp 2] 11 Tryz.func133 rfl acw rfl rfl ?_
 refine W ?_
 refine aA (HL s [] w sm) ?_
 rintro v1 w1 ⟨fN,aI⟩
 have dk:=aI.size
 have hK:=hK.ext aI
 obtain⟨t,tv,rfl,ht,hp⟩:=fN
 obtain⟨pa,pn,pc,rfl,eO,aO⟩:=cY ht
 refine W ?_
 refine dz aM rfl rfl rfl λw2 az cW dD=>?_
 have hK:=hK.grow;have hK:=hK.ext az
 refine cL aM rfl rfl rfl cW rfl λw3 aH cW gL=>?_
 have hK:=hK.aD aH sx
 refine W ?_
 exact⟨_,rfl,rfl,hK⟩
def ov (xs ys:List ai) (s d:ai):Nat->ai
 |0=>d
 |k+1=>if bD xs k=s then bD ys k else ov xs ys s d k
theorem VS {xs' ys':List ai} {d:ai}:∀{k:Nat},(∀i,i<k->bD xs i=bD xs' i∧bD ys i=bD ys' i)->ov xs ys s d k=ov xs' ys' s d k
 |0,_=>rfl
 |k+1,h=>by
  unfold ov
  rw[(h k om).1,(h k om).2,VS λi hi=>h i om]
theorem VT (h:i<xs.length):bD (xs++ys) i=bD xs i:=by
 simp only[bD,gG]
 rw[List.getElem?_append_left h]
theorem VU {x:ai} (h:i=xs.length):bD (xs++[x]) i=x:=by
 subst h;simp[bD]
theorem VV {xs:List ai} {x y d:ai} (h:xs.length=ys.length):ov (xs++[x]) (ys++[y]) s d (xs++[x]).length=if x=s then y else ov xs ys s d xs.length:=by
 rw[lA,List.length_singleton,ov,VU rfl,VU h,VS (xs':=xs) (ys':=ys)]
 intro i hi
 exact⟨VT hi,VT om⟩
theorem VW {α:Type} {Q:List α->Prop} (h0:Q []) (h1:∀l a,Q l->Q (l++[a])) (l:List α):Q l:=by
 have:∀r:List α,Q r.reverse:=by
  intro r
  induction r with
  |nil=>exact h0
  |cons a r ih=>rw[List.reverse_cons];exact h1 _ _ ih
 have:=this l.reverse
 rwa [List.reverse_reverse] at this
def VX:Option Ty->ai
 |some T=>T.text
 |none=>[]
theorem VY (s:ai):∀Γ:Sc,ov (Γ.map Prod.fst) (Γ.map λp=>p.2.text) s [] Γ.length=VX (look Γ s):=by
 refine VW rfl λΓ p ih=>?_
 ·obtain⟨x,T⟩:=p
  have:=VV (xs:=Γ.map Prod.fst) (ys:=Γ.map λp=>p.2.text) (x:=x) (y:=T.text) (s:=s) (d:=[]) sm
  rw[pw,List.map_append,List.map_append,lA]
  simp only[List.map_cons,List.map_nil,lA,List.length_map,List.length_singleton] at this⊢
  rw[this,ih]
  split<;>rfl
theorem ahd (s:ai):∀ρ:Rn,ov (ρ.map Prod.fst) (ρ.map Prod.snd) s s ρ.length=qO ρ s:=by
 refine VW rfl λρ p ih=>?_
 ·obtain⟨x,y⟩:=p
  have:=VV (xs:=ρ.map Prod.fst) (ys:=ρ.map Prod.snd) (x:=x) (y:=y) (s:=s) (d:=s) sm
  rw[Nl,List.map_append,List.map_append,lA]
  simp only[List.map_cons,List.map_nil,lA,List.length_map,List.length_singleton] at this⊢
  rw[this,ih]
theorem HM (xs ys:List ai) (hl:xs.length=ys.length) (hx:xs.length<=1000000000) (s:ai) (v u:Value) (L L2:List Nat) (w:World) (hv:bf L w v xs) (hu:bf L2 w u ys):
  bw Tryz.prog 196 [v,u,str s] w λr w'=>r=str (ov xs ys s [] xs.length)∧aj [] w w':=by
 obtain⟨a,n,c,rfl,hn⟩:=dH hv
 obtain⟨a2,n2,c2,rfl,eS⟩:=dH hu
 subst hn eS
 have hK:=aj.refl [] w
 refine bU [.tmp 6] 25 Tryz.func196 rfl adq rfl rfl ?_
 refine W ?_
 refine dR (λk:Nat=>[(0,.slice a xs.length c),(1,.slice a2 ys.length c2),(2,str s),(7,.int .i64 ((k:Int)-1))]) (λk w'=>w'=w∧k<=xs.length∧ov xs ys s [] xs.length=ov xs ys s [] k) (λk=>k) xs.length (⟨rfl,rfl,rfl,rfl⟩) (⟨rfl,lR _,rfl⟩) λgg w1 e1 hI=>?_
 obtain⟨e,hk,hq⟩:=hI
 subst e
 refine W ?_
 refine zc rfl (λh1=>?_) (λh1=>?_)
 have aQ:∃k,gg=k+1:=⟨gg-1,om⟩
 obtain⟨k,rfl⟩:=aQ
 have tN:=ik (xs:=xs) (i:=k) om
 have Ow:=ik (xs:=ys) (i:=k) om
 obtain⟨b1,eX,rfl,bK⟩:=lf hv tN
 obtain⟨b2,lP,rfl,bY⟩:=lf hu Ow
 have hi:((k+1:Nat):Int)-1=(k:Int):=by omega
 rw[hi]
 refine W ?_
 refine zc rfl (λh2=>?_) (λh2=>?_)
 refine W ?_
 exact⟨_,rfl,by rw[hq,ov,iP h2];rfl,hK⟩
 have dN:=h2
 refine W ?_
 exact⟨k,⟨rfl,rfl,rfl,rfl⟩,⟨rfl,om,by rw[hq,ov,iN dN]⟩,om⟩
 have h0:gg=0:=by omega
 refine W ?_
 exact⟨_,rfl,by rw[hq,h0];rfl,hK⟩
theorem ahe (xs ys:List ai) (hl:xs.length=ys.length) (hx:xs.length<=1000000000) (s:ai) (v u:Value) (L L2:List Nat) (w:World) (hv:bf L w v xs) (hu:bf L2 w u ys):
  bw Tryz.prog 240 [v,u,str s] w λr w'=>r=str (ov xs ys s s xs.length)∧aj [] w w':=by
 obtain⟨a,n,c,rfl,hn⟩:=dH hv
 obtain⟨a2,n2,c2,rfl,eS⟩:=dH hu
 subst hn eS
 have hK:=aj.refl [] w
 refine bU [.tmp 6] 26 Tryz.func240 rfl adQ rfl rfl ?_
 refine W ?_
 refine dR (λk:Nat=>[(0,.slice a xs.length c),(1,.slice a2 ys.length c2),(2,str s),(7,.int .i64 ((k:Int)-1))]) (λk w'=>w'=w∧k<=xs.length∧ov xs ys s s xs.length=ov xs ys s s k) (λk=>k) xs.length (⟨rfl,rfl,rfl,rfl⟩) (⟨rfl,lR _,rfl⟩) λgg w1 e1 hI=>?_
 obtain⟨e,hk,hq⟩:=hI
 subst e
 refine W ?_
 refine zc rfl (λh1=>?_) (λh1=>?_)
 have aQ:∃k,gg=k+1:=⟨gg-1,om⟩
 obtain⟨k,rfl⟩:=aQ
 have tN:=ik (xs:=xs) (i:=k) om
 have Ow:=ik (xs:=ys) (i:=k) om
 obtain⟨b1,eX,rfl,bK⟩:=lf hv tN
 obtain⟨b2,lP,rfl,bY⟩:=lf hu Ow
 have hi:((k+1:Nat):Int)-1=(k:Int):=by omega
 rw[hi]
 refine W ?_
 refine zc rfl (λh2=>?_) (λh2=>?_)
 refine W ?_
 exact⟨_,rfl,by rw[hq,ov,iP h2];rfl,hK⟩
 have dN:=h2
 refine W ?_
 exact⟨k,⟨rfl,rfl,rfl,rfl⟩,⟨rfl,om,by rw[hq,ov,iN dN]⟩,om⟩
 have h0:gg=0:=by omega
 refine W ?_
 exact⟨_,rfl,by rw[hq,h0];rfl,hK⟩
theorem Kt:∀row,row∈fb xs->∀c,c∈row->∀v,c= .val v->v.oneCell'=true:=by
 intro row hr
 simp only[fb,List.mem_map] at hr
 obtain⟨x,_,rfl⟩:=hr
 intro c hc u hu
 simp only[mC,List.not_mem_nil,or_false] at hc
 subst hc
 cases hu
 rfl
theorem V0 (xs ys:List ai):fb xs++fb ys=fb (xs++ys):=by simp[fb]
theorem uN (xs ys:List ai) (hx:xs.length+ys.length<100000000) (v u:Value) (L:List Nat) (w:World) (hv:bf L w v xs) (hu:bf L w u ys) (hL:∀x,x∈L->x<w.heap.size):
  bw Tryz.prog 116 [v,u] w λr w'=>bf L w' r (xs++ys)∧aj [] w w':=by
 obtain⟨a,n,c,rfl,hn⟩:=dH hv
 obtain⟨a2,n2,c2,rfl,eS⟩:=dH hu
 subst hn eS
 have hK:=aj.refl [] w
 refine bU [.tmp 4] 10 Tryz.func116 rfl Tc rfl rfl ?_
 refine W ?_
 refine vJ w.heap.size L bg ba rfl rfl (lR _) hL λw1 aI dh hO=>?_
 have hK:=hK.ext aI
 have fA:=bP.ext (bP.fresh hv (L':=w.heap.size::L) xj) aI
 refine zm<|xH bg ba rfl rfl rfl rfl rfl rfl hO fA Kt (by rw[po];simp;omega) λa4 fU g4 w2 fP az=>?_
 have hK:=hO.since hK az
 have Ox:=bP.ext (bP.fresh hu (L':=g4.toList++L) (λx hx=>by rcases mA.1 hx with hx|hx;(·exact .inr (fP.low x (by simpa using hx)));(·exact .inl hx))) hK
 refine zm<|xH bg ba rfl rfl rfl rfl rfl rfl fP Ox Kt (by simp only[lA,po];simp;omega) λa5 Fc g5 w3 lu aH=>?_
 have hK:=fP.since hK aH
 refine W ?_
 exact⟨_,rfl,(by have:=lu.done;rw[List.nil_append,V0] at this;exact this),hK⟩
def tO (t:aq) (i:Nat):List ai:=if(nth t.ak 0).aw=gv∧i=3 then[(nth t.ak 1).aw] else if(nth t.ak 0).aw=gV then[(nth t.ak 1).aw,(nth t.ak 2).aw] else[]
theorem V2 (h:e.ok) (ha:e.iQ=false) (i:Nat):tO e.au i=e.binds i:=by
 cases e with
 |«at» s=>cases ha
 |un hd a=>
  have h1:hd≠gv∧hd≠gV:=by constructor<;>intro e<;>rw[e] at h<;>exact absurd h.1 de
  simp[tO,Ex.au,aq.ak,nth,bM,aq.aw,h1.1,h1.2,Ex.binds]
 |bi hd a b=>
  have h1:hd≠gv∧hd≠gV:=by constructor<;>intro e<;>rw[e] at h<;>exact absurd h.1 de
  simp[tO,Ex.au,aq.ak,nth,bM,aq.aw,h1.1,h1.2,Ex.binds]
 |ite a b c=>simp[tO,Ex.au,aq.ak,nth,bM,aq.aw,Ex.binds]
 |lt x a b=>
  by_cases h3:i=3
  ·subst h3;simp[tO,Ex.au,aq.ak,nth,bM,aq.aw,Ex.binds]
  ·have:(Ex.lt x a b).binds i=[]:=by unfold Ex.binds;split<;>first|rfl|simp_all
   rw[this]
   simp[tO,Ex.au,aq.ak,nth,bM,aq.aw,h3]
 |fn f x A B b=>simp[tO,Ex.au,aq.ak,nth,bM,aq.aw,Ex.binds]
theorem V3 (t:aq) (h0:0<t.ak.length) (Dl:(nth t.ak 0).aw=gv->1<t.ak.length) (oL:(nth t.ak 0).aw=gV->2<t.ak.length) (i:Nat) (v:Value) (L:List Nat) (w:World) (hv:bC L w v t):
  bw Tryz.prog 239 [v,.int .i64 (i:Int)] w λr w'=>(∀Lr,(∀x,x∈Lr->x<w.heap.size)->bf Lr w' r (tO t i))∧aj [] w w':=by
 obtain⟨a,n,c,rfl,hn,aO⟩:=cY hv
 subst hn
 have hK:=aj.refl [] w
 obtain⟨b,off,pa,pn,pc,rfl,eD,eO,ga⟩:=iM aO (gh h0)
 have jt:∀i,i<t.ak.length->∃pa pn pc,gH w b (off+i*2) [str (nth t.ak i).aw,.slice pa pn pc]:=by intro i hi;obtain⟨b1,eX,gR,rM,gF,e1,bK,tH,pF⟩:=iM aO (gh hi);cases e1;exact⟨_,_,_,bK⟩
 refine bU [.tmp 4] 41 Tryz.func239 rfl adO rfl rfl ?_
 refine zr<|eK rfl λw1 aI aR dh=>bI aI hK eD λhK eD=>?_
 refine W ?_
 apply oB 3 12 15 rfl oQ
 intro _
 exact oQ
 intro xx
 refine zA<|aV<|zc rfl (λh2=>?_) (λh2=>?_)
 have hq:(nth t.ak 0).aw=gv∧i=3:=(by simp only[aE,dE] at h2;exact⟨h2.1,om⟩)
 obtain⟨gR,rM,gF,bK⟩:=jt 1 (Dl hq.1)
 have bK:=bK.ext hK
 have fD:=Dl hq.1
 have hb:tO t i=[(nth t.ak 1).aw]:=iP hq
 refine W ?_
 refine eR bg ba rfl rfl λw2 az wq dD=>?_
 have hK:=hK.ext az
 refine W ?_
 exact⟨_,rfl,λLr Ku=>(by rw[hb];exact aK.dO [(nth t.ak 1).aw] wq (λhx=>by have:=Ku _ hx;omega)),hK⟩
 have uz:¬((nth t.ak 0).aw=gv∧i=3):=(λhh=>by simp only[Bool.and_eq_false_iff,decide_eq_false_iff_not] at h2;rcases h2 with h|h;(·exact h hh.1);(·exact h om))
 refine W ?_
 refine zc rfl (λh3=>?_) (λh3=>?_)
 have hq:=h3
 have iG:=oL hq
 obtain⟨gR,rM,gF,bK⟩:=jt 1 om
 obtain⟨iI,xR,iy,bY⟩:=jt 2 om
 have bK:=bK.ext hK;have bY:=bY.ext hK
 have hb:tO t i=[(nth t.ak 1).aw,(nth t.ak 2).aw]:=by unfold tO;rw[iN uz,iP hq]
 refine WZ ?_
 apply vT dv 11 (rA 29 11) (rA 29 11) [[],[0],[1],[2],[3],[],[5],[6],[7],[8],[4,9]] [It.v _,It.v _,It.v _,It.v _,It.v _,It.v _,It.v _,It.v _,It.v _,It.v _,It.p (fun(v:Value) (ww:World)=>∃bb,v= .slice (some ⟨bb,0,none⟩) 2 2∧w.heap.size<=bb∧aK ww bb [str (nth t.ak 1).aw,str (nth t.ak 2).aw].toArray 9)] de (by exact⟨λv w w' ⟨bb,e,h1,h2⟩ k=>⟨bb,e,h1,h2.ext k⟩,trivial⟩)
 intro wd aC
 refine vc (λ_ _ _=>WZ pv) ?_
 refine vk aC (λx w2 az=>?_) ?_
 have aR:=aR.ext az
 refine WZ ?_
 exact pv
 refine vk aC (λx w2 az=>?_) ?_
 refine zi (i:=1) cD aM rfl rfl om ?_
 exact pv
 refine VA ?_
 refine vk aC (λx w2 az=>?_) ?_
 have hK:=hK.ext az
 have nA:=hK.size
 refine lk bg ba rfl rfl rfl rfl ?_
 intro w3 aH zB gL
 exact pf aH (⟨_,rfl,nA,zB⟩)
 exact trivial
 intro x oW gS
 intro v10 d10
 have hK:=hK.ext gS
 change OW _ _ _ _ _ (bo (bm _ x _) (zZ 29 [_,_,_,_,_,_,_,_,_,_,_])) _
 obtain⟨bb,e39,jX,zB⟩:=d10
 refine W ?_
 exact⟨_,rfl,λLr Ku=>(by rw[hb];subst e39;exact aK.dO [(nth t.ak 1).aw,(nth t.ak 2).aw] zB (λhx=>by have:=Ku _ hx;omega)),hK⟩
 have hb:tO t i=[]:=(by unfold tO;rw[iN uz,iN h3])
 refine gT<|zr<|vJ w.heap.size [] bg ba rfl rfl hK.size sm λw2 az dh hO=>?_
 have hK:=hK.ext az
 refine W ?_
 exact⟨_,rfl,λLr Ku=>(by rw[hb];exact bP.nil _ _ _),hK⟩
theorem HN (h:e.ok) (ha:e.iQ=false):0<e.au.ak.length∧((nth e.au.ak 0).aw=gv->1<e.au.ak.length)∧((nth e.au.ak 0).aw=gV->2<e.au.ak.length):=by
 cases e with
 |«at» s=>cases ha
 |un hd a=>
  have hn:hd≠gV:=by intro e;rw[e] at h;exact absurd h.1 de
  exact⟨by simp[Ex.au,aq.ak],λ_=>by simp[Ex.au,aq.ak],λh=>absurd h hn⟩
 |bi hd a b=>exact⟨by simp[Ex.au,aq.ak],λ_=>by simp[Ex.au,aq.ak],λh=>by simp[Ex.au,aq.ak]⟩
 |ite a b c=>exact⟨by simp[Ex.au,aq.ak],λ_=>by simp[Ex.au,aq.ak],λh=>by simp[Ex.au,aq.ak]⟩
 |lt x a b=>exact⟨by simp[Ex.au,aq.ak],λ_=>by simp[Ex.au,aq.ak],λh=>by simp[Ex.au,aq.ak]⟩
 |fn f x A B b=>exact⟨by simp[Ex.au,aq.ak],λ_=>by simp[Ex.au,aq.ak],λh=>by simp[Ex.au,aq.ak]⟩
theorem V4 (e:Ex) (i:Nat):(e.binds i).length<=2:=by unfold Ex.binds;split<;>simp
theorem V5 (x:ai) (e:Ex) (k:Nat):AV x e (k+1)=AV x e k+if x∈e.binds (e.from+k) then 0 else j9 x (fZ e k):=rfl
theorem V6 (x:ai) (e:Ex):∀{i j:Nat},i<=j->AV x e i<=AV x e j
 |i,0,h=>by have:i=0:=om;subst this;exact lR _
 |i,j+1,h=>by
  rcases Nat.lt_or_ge i (j+1) with h1|h1
  ·have:=V6 x e (i:=i) (j:=j) om;rw[V5];omega
  ·have:i=j+1:=by omega
   subst this;exact lR _
theorem wu (h:e.ok):e.au.aw≠[]↔e.iQ=true:=by
 cases e with
 |«at» s=>exact⟨λ_=>rfl,λ_=>p8 h⟩
 |_=>exact⟨λhh=>absurd rfl hh,λhh=>by cases hh⟩
theorem HO (e:Ex):e.from+e.kids.length<=6:=by cases e<;>simp[Ex.from,Ex.kids]
theorem ahg (s:ai):∀(m:Nat) (e:Ex),e.n<=m->e.n<=1000000->e.ok->∀(v:Value) (L:List Nat) (w:World),bC L w v e.au->
  bw Tryz.prog 244 [v,str s] w λr w'=>r= .int .i64 (j9 s e:Int)∧aj [] w w':=by
 intro m
 induction m with
 |zero=>intro e h;have:=e.pos;omega
 |succ m ih=>
  intro e hm mh bh v L w hv
  have cQ:=hv
  obtain⟨a,n,c,rfl,hn,aO⟩:=cY hv
  subst hn
  have hK:=aj.refl [] w
  have hce:=count_le s e
  have Kv:=HO e
  refine bU [.tmp 4] 47 Tryz.func244 rfl adU rfl rfl ?_
  refine zr<|eK rfl λw1 aI aR dh=>cJ aI hK aO cQ λhK aO cQ=>?_
  refine W ?_
  refine zc rfl (λh1=>?_) (λh1=>?_)
  have aQ:∃x,e= .at x:=(by have ha:=(wu bh).1 h1;cases e<;>first|exact⟨_,rfl⟩|cases ha)
  obtain⟨x,rfl⟩:=aQ
  refine W ?_
  refine zc rfl (λh2=>?_) (λh2=>?_)
  have hq:j9 s (.at x)=1:=iP h2
  refine W ?_
  exact⟨_,rfl,by rw[hq];rfl,hK⟩
  have hq:j9 s (.at x)=0:=iN h2
  refine W ?_
  exact⟨_,rfl,by rw[hq];rfl,hK⟩
  have eF:e.iQ=false:=(by cases hh:e.iQ;rfl;exact absurd ((wu bh).2 hh) h1)
  obtain⟨HP,nj,ju,oX⟩:=Ex.ak eF
  obtain⟨jB,Fe,Ff⟩:=HN bh eF
  have HQ:=Nh bh eF
  have ma:dZ (nth e.au.ak 0).aw=(e.from,e.from+e.kids.length):=by rw[ju];exact HQ
  obtain⟨b,off,pa,pn,pc,rfl,eD,eO,ga⟩:=iM aO (gh jB)
  refine W ?_
  refine aA (Kq _ _) ?_
  rintro _ _ ⟨rfl,rfl⟩
  rw[zy ma]
  refine W ?_
  refine dR (λk:Nat=>[(1,str s),(2,.pointer (some ⟨w.heap.size,0,none⟩)),(5,.int .i64 (AV s e k:Int)),(7,.int .i64 ((e.from+e.kids.length:Nat):Int)),(8,.int .i64 ((e.from+k:Nat):Int))]) (λk w'=>aj [] w w'∧aj [] w1 w'∧k<=e.kids.length) (λk=>e.kids.length-k) (0) (⟨rfl,rfl,rfl,rfl,rfl⟩) (⟨hK,aj.refl _ _,om⟩) λgg w2 e2 hI=>?_
  obtain⟨hK,kL,hk⟩:=hI
  refine cJ kL aR aO cQ λaR aO cQ=>?_
  refine W ?_
  refine zc rfl (λh3=>?_) (λh3=>?_)
  have ic:gg<e.kids.length:=om
  have qS:=oX gg ic
  obtain⟨b1,eX,gR,rM,gF,e1,bK,tH,pF⟩:=iM aO (gh (i:=e.from+gg) om)
  cases e1
  subst tH
  have cN:=(lF pF).eq qS
  have uO:=GU bh ic
  have aS:=V5 s e gg
  have hmo:=V6 s e (i:=gg+1) (j:=e.kids.length) om
  have hto:=TL eF s
  refine W ?_
  refine aA (V3 e.au jB Fe Ff (e.from+gg) _ _ w2 cQ) ?_
  rintro v3 w3 ⟨jo,aH⟩
  have fh:=aH.size
  refine kJ aH hK aR kL bK cN λhK aR kL bK cN=>?_
  have uk:=jo [] sm
  rw[V2 bh eF] at uk
  have hbf:=V4 e (e.from+gg)
  refine zm<|aA (xM (e.binds (e.from+gg)) om s _ [] w3 uk) ?_
  rintro _ w4 ⟨rfl,aP⟩
  have fH:=aP.size
  refine kJ aP hK aR kL bK cN λhK aR kL bK cN=>?_
  refine kF rfl rfl rfl<|aV<|zc rfl (λh4=>?_) (λh4=>?_)
  have nh:¬s∈e.binds (e.from+gg):=(by simpa using h4)
  rw[iN nh] at aS
  refine W ?_
  refine aA (ih (fZ e gg) om om uO.1 _ _ w4 cN) ?_
  rintro _ w5 ⟨rfl,aN⟩
  have iR:=aN.size
  refine bI aN hK kL λhK kL=>?_
  refine W ?_
  exact⟨gg+1,⟨rfl,rfl,congrArg (Value.int .i64) om,rfl,congrArg (Value.int .i64) om⟩,⟨hK,kL,om⟩,om⟩
  have nh:s∈e.binds (e.from+gg):=(by simpa using h4)
  rw[iP nh] at aS
  refine W ?_
  exact⟨gg+1,⟨rfl,rfl,congrArg (Value.int .i64) om,rfl,congrArg (Value.int .i64) om⟩,⟨hK,kL,om⟩,om⟩
  have fG:gg=e.kids.length:=by omega
  refine W ?_
  exact⟨_,rfl,by rw[TL eF s,fG];rfl,hK⟩
theorem V7 (e:Ex) (bd l:List ai) (k:Nat):qM e bd l (k+1)=cM (fZ e k) (bd++e.binds (e.from+k)) (qM e bd l k):=rfl
def kN (e:Ex) (k:Nat):Nat:=((e.kids.take k).map Ex.n).sum
theorem zC (h:k<e.kids.length):kN e (k+1)=kN e k+(fZ e k).n:=by
 have h1:e.kids[k]?=some (fZ e k):=by simp[fZ,gE h]
 unfold kN
 rw[List.take_add_one,h1,List.map_append,List.sum_append]
 simp
theorem Dm (e:Ex) (k:Nat):kN e k<=e.n:=by
 have h1:kN e k<=(e.kids.map Ex.n).sum:=by
  conv=>rhs;rw[<-List.take_append_drop k e.kids,List.map_append,List.sum_append]
  unfold kN;omega
 have h2:(e.kids.map Ex.n).sum<=e.n:=by cases e<;>simp[Ex.kids,Ex.n]<;>omega
 omega
theorem V8 (e:Ex) (bd l:List ai):∀{k:Nat},k<=e.kids.length->(qM e bd l k).length<=l.length+kN e k
 |0,_=>by simp[qM,kN]
 |k+1,hk=>by
  rw[V7,zC om]
  have h1:=Ni (fZ e k) (bd++e.binds (e.from+k)) (qM e bd l k)
  have h2:=V8 e bd l (k:=k) om
  omega
theorem Kw:∀(m:Nat) (e:Ex),e.n<=m->e.n<=1000->e.ok->∀(bd l:List ai),bd.length+2*e.n<=100000->l.length+e.n<=100000->∀(v vb vl:Value) (g:Option Nat) (w:World),
  bC g.toList w v e.au->bf g.toList w vb bd->cG w 9 vl g l->
  bw Tryz.prog 216 [v,vb,vl] w λr w'=>∃g',cG w' 9 r g' (cM e bd l)∧Fr g.toList w g'.toList w':=by
 intro m
 induction m with
 |zero=>intro e h;have:=e.pos;omega
 |succ m ih=>
  intro e hm mh bh bd l uk hl v vb vl g w hv zD gj
  obtain⟨a,n,c,rfl,hn,aO⟩:=cY hv
  subst hn
  obtain⟨ab,nb,cb,rfl,V9⟩:=dH zD
  subst V9
  obtain⟨al,cl,rfl⟩:=jn gj
  have qq:=gj.lt
  have oY:=gj.rs
  have hR:=Fr.refl g.toList w
  have Kv:=HO e
  have cQ:=lF aO
  refine bU [.tmp 6] 65 Tryz.func216 rfl adz rfl rfl ?_
  refine zr<|eK rfl λw1 aI cW dh=>tC aI hR aO zD gj oY cQ λhR aO zD gj oY cQ=>?_
  refine W ?_
  refine zc rfl (λh1=>?_) (λh1=>?_)
  have aQ:∃x,e= .at x:=(by have ha:=(wu bh).1 h1;cases e<;>first|exact⟨_,rfl⟩|cases ha)
  obtain⟨x,rfl⟩:=aQ
  refine W ?_
  refine aA (wk _ _) ?_
  rintro _ _ ⟨rfl,rfl⟩
  refine WZ ?_
  apply oO 5 17 22 (aj [] w1) rfl oQ
  intro h2
  refine W ?_
  refine aA (xM bd om x _ _ w1 zD) ?_
  rintro _ w2 ⟨rfl,az⟩
  have dx:=az.size
  exact oQ
  intro xx w3 aH
  refine gY aH hR gj oY cW λhR gj oY cW=>?_
  refine WZ ?_
  apply oO 5 23 28 (aj [] w3) rfl oQ
  intro h3
  refine W ?_
  refine aA (xM l om x _ _ w3 oY) ?_
  rintro _ w4 ⟨rfl,aP⟩
  have fH:=aP.size
  exact oQ
  intro xx w5 aN
  refine cJ aN hR gj cW λhR gj cW=>?_
  refine aV<|zc rfl (λh4=>?_) (λh4=>?_)
  have hq:cM (.at x) bd l=l:=iP h4
  refine W ?_
  exact⟨_,rfl,g,by rw[hq];exact gj,hR⟩
  have hq:cM (.at x) bd l=l++[x]:=iN (λhh=>Bool.noConfusion (hh.symm.trans h4))
  refine W ?_
  refine eR bg ba rfl rfl λw6 bN Fg lj=>bI bN hR gj λhR gj=>?_
  refine U1 bg ba rfl rfl rfl rfl rfl rfl gj Fg om λv5 g5 w7 lu bW qt=>?_
  have hR:=hR.go qt
  refine W ?_
  exact⟨_,rfl,g5,by rw[hq];exact lu,hR⟩
  have eF:e.iQ=false:=(by cases hh:e.iQ;rfl;exact absurd ((wu bh).2 hh) h1)
  obtain⟨HP,nj,ju,oX⟩:=Ex.ak eF
  obtain⟨jB,Fe,Ff⟩:=HN bh eF
  have HQ:=Nh bh eF
  have ma:dZ (nth e.au.ak 0).aw=(e.from,e.from+e.kids.length):=by rw[ju];exact HQ
  obtain⟨b,off,pa,pc,rfl,eD,hT0⟩:=fg aO jB
  have cW:=cW.o qq
  refine W ?_
  refine aA (Kq _ _) ?_
  rintro _ _ ⟨rfl,rfl⟩
  rw[zy ma]
  refine W ?_
  refine dR (λq:Nat×Value×Option Nat=>[(1,.slice ab bd.length cb),(2,q.2.1),(3,.pointer (some ⟨w.heap.size,0,none⟩)),(8,.int .i64 ((e.from+e.kids.length:Nat):Int)),(9,.int .i64 ((e.from+q.1:Nat):Int))]) (λq w'=>Fr g.toList w q.2.2.toList w'∧Fr g.toList w1 q.2.2.toList w'∧cG w' 9 q.2.1 q.2.2 (qM e bd l q.1)∧q.1<=e.kids.length) (λq=>e.kids.length-q.1) ((0,.slice al l.length cl,g)) (⟨rfl,rfl,rfl,rfl,rfl⟩) (⟨hR,Fr.refl _ _,gj,sm⟩) λgg w2 e2 hI=>?_
  obtain⟨k,vl,gl⟩:=gg
  dsimp only at hI⊢
  obtain⟨hR,kL,gj,hk⟩:=hI
  have cW:=cW.go kL;have aO:=aO.go kL;have zD:=zD.go kL;have cQ:=cQ.go kL
  refine W ?_
  refine zc rfl (λh5=>?_) (λh5=>?_)
  have ic:k<e.kids.length:=om
  have qS:=oX k ic
  obtain⟨b1,eX,gR,gF,e1,bK,cN⟩:=fg aO (i:=e.from+k) om
  cases e1
  have cN:=cN.eq qS
  have uO:=GU bh ic
  have aS:=V7 e bd l k
  have hbf:=V4 e (e.from+k)
  have nq:=V8 e bd l (k:=k) om
  have BO:=zC ic
  have eM:=Dm e (k+1)
  refine WZ ?_
  apply jV dv gl.toList 13 (rA 50 13) (rA 50 13) [[],[0],[],[1,2],[3],[],[],[5,6],[],[],[8,9],[7,10],[]] [Ie.v _,Ie.v _,Ie.v _,Ie.v _,Ie.v _,Ie.p (fun(G:List Nat) (v:Value) (ww:World)=>∃bb,v= .slice (some ⟨bb,0,none⟩) 0 0∧dP G ww bb #[] 9),Ie.v _,Ie.e 0,Ie.v _,Ie.v _,Ie.p (fun(G:List Nat) (v:Value) (ww:World)=>bf G ww v (e.binds (e.from+k))),Ie.e 1,Ie.v _] [7,11] [fun(G:List Nat) (vs:List Value) (ww:World)=>cG ww 9 vl gl (qM e bd l k)∧(∀x,x∈gl.toList->x∈G),fun(G:List Nat) (vs:List Value) (ww:World)=>(cG ww 9 vl gl (qM e bd l k)∧(∀x,x∈gl.toList->x∈G))∧∃g7,cG ww 9 (vs.getD 0 undef) g7 bd∧qZ G ww 9 g7∧(∀x,x∈g7.toList->x∉gl.toList),fun(G:List Nat) (vs:List Value) (ww:World)=>(cG ww 9 vl gl (qM e bd l k)∧(∀x,x∈gl.toList->x∈G))∧∃g7,cG ww 9 (vs.getD 1 undef) g7 (bd++e.binds (e.from+k))∧qZ G ww 9 g7∧(∀x,x∈g7.toList->x∉gl.toList)] de rfl gj.lt (by exact⟨λG v w G' w' ⟨bb,e,h⟩ k=>⟨bb,e,h.go k⟩,λG v w G' w' h k=>bf.go h k,trivial⟩) (by exact⟨λG vs w w' h k=>⟨h.1.ext k,h.2⟩,λG vs w w' ⟨h1,g7,h2,h3,h4⟩ k=>⟨⟨h1.1.ext k,h1.2⟩,g7,h2.ext k,h3.ext k,h4⟩,λG vs w w' ⟨h1,g7,h2,h3,h4⟩ k=>⟨⟨h1.1.ext k,h1.2⟩,g7,h2.ext k,h3.ext k,h4⟩,trivial⟩) (⟨gj,λx hx=>hx⟩)
  refine FA ?_
  refine vf (λx w3 G3 aT jC kM=>?_) ?_
  refine gA bg ba λw4 aP Dn gQ=>?_
  exact ff aP (⟨_,rfl,Dn.o kM⟩)
  refine FA ?_
  refine ve 0 (λx w3 G3 aT jC kM hJ hlen=>?_) ?_
  have aX:=jw hlen
  subst aX
  have zD:=zD.go jC
  intro v5 d5
  obtain⟨bb,e5,fT⟩:=d5
  subst e5
  have hJ:cG w3 9 vl gl (qM e bd l k)∧(∀x,x∈gl.toList->x∈G3):=hJ
  refine Fb bg ba rfl rfl rfl rfl rfl rfl fT.iw.ll zD ‹_› (λx hx=>.inr (by simp at hx;subst hx;exact fT.iw)) so λv9 g9 w4 G9 cU Fh nA kO cV eE aB=>?_
  exact fe G9 cV eE (⟨⟨hJ.1.aF aB (λb hb hx=>fT.out (by simp at hx;subst hx;exact hJ.2 _ (by simp[hb]))),λx hx=>kO x (hJ.2 x hx)⟩,g9,cU,Fh,λx hx fC=>(nA x hx).elim (λh=>fT.out (by simp at h;subst h;exact hJ.2 _ fC)) (λh=>by have:=kM x (hJ.2 x fC);omega)⟩)
  refine FA ?_
  refine vf (λx w3 G3 aT jC kM=>?_) ?_
  have cQ:=cQ.go jC
  refine aA (V3 e.au jB Fe Ff (e.from+k) _ _ w3 cQ) ?_
  rintro v4 w4 ⟨ke,aP⟩
  have fH:=aP.size
  have ahj:=ke
  exact ff aP ((by have h9:=ahj _ kM;rw[V2 bh eF] at h9;exact h9))
  refine ve 1 (λx w3 G3 aT jC kM hJ hlen=>?_) ?_
  obtain⟨q0,aX⟩:=jx hlen
  subst aX
  intro v10 d10
  have hJ:(cG w3 9 vl gl (qM e bd l k)∧(∀x,x∈gl.toList->x∈G3))∧∃g7,cG w3 9 q0 g7 bd∧qZ G3 w3 9 g7∧(∀x,x∈g7.toList->x∉gl.toList):=hJ
  obtain⟨⟨EX,sv⟩,g7,HR,Dp,Kx⟩:=hJ
  refine Fb bg ba rfl rfl rfl rfl rfl rfl HR d10 ‹_› Dp om λv9 g9 w4 G9 cU Fh nA kO cV eE aB=>?_
  exact fe G9 cV eE (⟨⟨EX.aF aB (λb hb hx=>Kx b hx (by simp[hb])),λx hx=>kO x (sv x hx)⟩,g9,cU,Fh,λx hx fC=>(nA x hx).elim (λh=>Kx x h fC) (λh=>by have:=kM x (sv x fC);omega)⟩)
  exact FZ
  intro x qY HS aT Fi Oy hJ hlen
  obtain⟨q0,q1,aX⟩:=lO hlen
  subst aX
  intro v5 d5
  intro v10 d10
  have hR:=hR.go Fi;have kL:=kL.go Fi;have cN:=cN.go Fi
  change OW _ _ _ _ _ (bo (bm _ x _) (zZ 50 [_,_,_,_,_,_,_,_,_,_,_,_,_])) _
  have hJ:(cG qY 9 vl gl (qM e bd l k)∧(∀x,x∈gl.toList->x∈HS))∧∃g7,cG qY 9 q1 g7 (bd++e.binds (e.from+k))∧qZ HS qY 9 g7∧(∀x,x∈g7.toList->x∉gl.toList):=hJ
  obtain⟨⟨EX,sv⟩,g7,HR,Dp,Kx⟩:=hJ
  refine aA (ih (fZ e k) om om uO.1 (bd++e.binds (e.from+k)) (qM e bd l k) (by rw[lA];omega) om _ _ _ gl qY (cN.gm (λx hx=>sv x hx)) (HR.rep (λb hb=>Kx b (by simp[hb]))) EX) ?_
  rintro Oz pG ⟨OB,Ky,HT⟩
  refine W ?_
  exact⟨(k+1,Oz,OB),⟨rfl,rfl,rfl,rfl,congrArg (Value.int .i64) so⟩,⟨(hR.to (λx hx=>.inl (sv x hx))).go HT,(kL.to (λx hx=>.inl (sv x hx))).go HT,Ky,by simp;omega⟩,by simp;omega⟩
  have fG:k=e.kids.length:=by omega
  refine W ?_
  exact⟨_,rfl,gl,by rw[afu eF,<-fG];exact gj,hR⟩
theorem ahk (s:ai) (w:World):bw Tryz.prog 195 [str s] w λv w'=>(∃a n c,v= .tuple #[.slice a n c,.bool (mF s)]∧(mF s=true->∃e:Ex,bB s=some e.au∧e.ok∧e.n<=120∧bf [] w' (.slice a n c) (cM e [] [])))∧aj [] w w':=by
 have hK:=aj.refl [] w
 refine bU [.tmp 2,.tmp 3] 18 Tryz.func195 rfl adp rfl rfl ?_
 refine W ?_
 refine aA (HL s [] w sm) ?_
 rintro v1 w1 ⟨fN,aI⟩
 have dk:=aI.size
 have hK:=hK.ext aI
 obtain⟨t,tv,rfl,ht,hp⟩:=fN
 obtain⟨pa,pn,pc,rfl,eO,aO⟩:=cY ht
 refine W ?_
 refine dz aM rfl rfl rfl λw2 az aG dD=>?_
 have hK:=hK.grow;have hK:=hK.ext az;have ht:=ht.grow;have ht:=ht.ext az
 refine cL aM rfl rfl rfl aG rfl λw3 aH aG gL=>?_
 have hK:=hK.aD aH sx;have ht:=ht.aD aH sx
 refine W ?_
 refine zc rfl (λh1=>?_) (λh1=>?_)
 have hx:mF s=false:=by simpa using h1
 refine zr<|gA bg ba λw4 aP mG gQ=>?_
 have hK:=hK.ext aP
 refine W ?_
 exact⟨_,rfl,⟨_,_,_,by rw[hx];rfl,λh=>by rw[hx] at h;cases h⟩,hK⟩
 have hx:mF s=true:=by simpa using h1
 obtain⟨e,he,bh,hn⟩:=xQ.1 hx
 have e2:=hp.1 _ he
 subst e2
 refine W ?_
 refine gA bg ba λw4 aP Fj Kz=>bI aP ht hK λht hK=>?_
 refine gA bg ba ?_
 have N8:=bC.grow (ht.gm (L':=[]) sm)
 intro w5 aN xN HU
 have ht:=N8.ext aN
 have hK:=hK.ext aN
 refine aA (Kw 120 e hn om bh [] [] so so _ _ _ (some _) w5 ht (bP.nil _ _ _) xN.ll) ?_
 rintro v9 w6 ⟨g9,cU,cV⟩
 obtain⟨a9,c9,rfl⟩:=jn cU
 have hK:=hK.since cV.aF (λx hx=>.inr (by simp at hx;omega))
 refine W ?_
 exact⟨_,rfl,⟨_,_,_,by rw[hx];rfl,λ_=>⟨e,he,bh,hn,cU.rs⟩⟩,hK⟩
theorem Fk {a b:ai} (h:bM a=bM b):a=b:=by simpa[bM] using h
theorem rb:∀{e f:Ex},e.ok->f.ok->e.au=f.au->e=f
 | .at s,.at r,_,_,h=>by rw[Fk h]
 | .at s,.un ..,h1,_,h=>absurd (congrArg aq.aw h) (p8 h1)
 | .at s,.bi ..,h1,_,h=>absurd (congrArg aq.aw h) (p8 h1)
 | .at s,.ite ..,h1,_,h=>absurd (congrArg aq.aw h) (p8 h1)
 | .at s,.lt ..,h1,_,h=>absurd (congrArg aq.aw h) (p8 h1)
 | .at s,.fn ..,h1,_,h=>absurd (congrArg aq.aw h) (p8 h1)
 | .un ..,.at s,_,h1,h=>absurd (congrArg aq.aw h).symm (p8 h1)
 | .bi ..,.at s,_,h1,h=>absurd (congrArg aq.aw h).symm (p8 h1)
 | .ite ..,.at s,_,h1,h=>absurd (congrArg aq.aw h).symm (p8 h1)
 | .lt ..,.at s,_,h1,h=>absurd (congrArg aq.aw h).symm (p8 h1)
 | .fn ..,.at s,_,h1,h=>absurd (congrArg aq.aw h).symm (p8 h1)
 | .un h a,.un h' a',k,k',e=>by
  have e:=congrArg aq.ak e
  simp only[Ex.au,aq.ak,List.cons.injEq,and_true] at e
  rw[Fk e.1,rb k.2 k'.2 e.2]
 | .bi h a b,.bi h' a' b',k,k',e=>by
  have e:=congrArg aq.ak e
  simp only[Ex.au,aq.ak,List.cons.injEq,and_true] at e
  rw[Fk e.1,rb k.2.1 k'.2.1 e.2.1,rb k.2.2 k'.2.2 e.2.2]
 | .ite a b c,.ite a' b' c',k,k',e=>by
  have e:=congrArg aq.ak e
  simp only[Ex.au,aq.ak,List.cons.injEq,and_true] at e
  rw[rb k.1 k'.1 e.2.1,rb k.2.1 k'.2.1 e.2.2.1,rb k.2.2 k'.2.2 e.2.2.2]
 | .lt x a b,.lt x' a' b',k,k',e=>by
  have e:=congrArg aq.ak e
  simp only[Ex.au,aq.ak,List.cons.injEq,and_true] at e
  rw[Fk e.2.1,rb k.2.1 k'.2.1 e.2.2.1,rb k.2.2 k'.2.2 e.2.2.2]
 | .fn f x A B b,.fn f' x' A' B' b',k,k',e=>by
  have e:=congrArg aq.ak e
  simp only[Ex.au,aq.ak,List.cons.injEq,and_true] at e
  rw[Fk e.2.1,Fk e.2.2.1,GS e.2.2.2.1,GS e.2.2.2.2.1,rb k.2.2.2.2.2 k'.2.2.2.2.2 e.2.2.2.2.2]
 | .un ..,.bi ..,_,_,e=>by have e:=congrArg aq.ak e;simp[Ex.au,aq.ak] at e
 | .un ..,.ite ..,_,_,e=>by have e:=congrArg aq.ak e;simp[Ex.au,aq.ak] at e
 | .un ..,.lt ..,_,_,e=>by have e:=congrArg aq.ak e;simp[Ex.au,aq.ak] at e
 | .un ..,.fn ..,_,_,e=>by have e:=congrArg aq.ak e;simp[Ex.au,aq.ak] at e
 | .bi ..,.un ..,_,_,e=>by have e:=congrArg aq.ak e;simp[Ex.au,aq.ak] at e
 | .bi ..,.ite ..,_,_,e=>by have e:=congrArg aq.ak e;simp[Ex.au,aq.ak] at e
 | .bi ..,.lt ..,_,_,e=>by have e:=congrArg aq.ak e;simp[Ex.au,aq.ak] at e
 | .bi ..,.fn ..,_,_,e=>by have e:=congrArg aq.ak e;simp[Ex.au,aq.ak] at e
 | .ite ..,.un ..,_,_,e=>by have e:=congrArg aq.ak e;simp[Ex.au,aq.ak] at e
 | .ite ..,.bi ..,_,_,e=>by have e:=congrArg aq.ak e;simp[Ex.au,aq.ak] at e
 | .ite ..,.lt ..,_,_,e=>by have e:=congrArg aq.ak e;simp[Ex.au,aq.ak,bM] at e
 | .ite ..,.fn ..,_,_,e=>by have e:=congrArg aq.ak e;simp[Ex.au,aq.ak] at e
 | .lt ..,.un ..,_,_,e=>by have e:=congrArg aq.ak e;simp[Ex.au,aq.ak] at e
 | .lt ..,.bi ..,_,_,e=>by have e:=congrArg aq.ak e;simp[Ex.au,aq.ak] at e
 | .lt ..,.ite ..,_,_,e=>by have e:=congrArg aq.ak e;simp[Ex.au,aq.ak,bM] at e
 | .lt ..,.fn ..,_,_,e=>by have e:=congrArg aq.ak e;simp[Ex.au,aq.ak] at e
 | .fn ..,.un ..,_,_,e=>by have e:=congrArg aq.ak e;simp[Ex.au,aq.ak] at e
 | .fn ..,.bi ..,_,_,e=>by have e:=congrArg aq.ak e;simp[Ex.au,aq.ak] at e
 | .fn ..,.ite ..,_,_,e=>by have e:=congrArg aq.ak e;simp[Ex.au,aq.ak] at e
 | .fn ..,.lt ..,_,_,e=>by have e:=congrArg aq.ak e;simp[Ex.au,aq.ak] at e
def ahl (s:ai) (e:Ex):Prop:=bB s=some e.au∧e.ok∧e.n<=120∧cM e [] []=[]
theorem ahm (s:ai) (w:World):bw Tryz.prog 158 [str s] w λv w'=>(∃b,v= .bool b∧(b=true↔∃e:Ex,ahl s e))∧aj [] w w':=by
 have hK:=aj.refl [] w
 refine bU [.tmp 2] 16 Tryz.func158 rfl acQ rfl rfl ?_
 refine W ?_
 refine aA (ahk s w) ?_
 rintro v1 w1 ⟨fN,aI⟩
 have dk:=aI.size
 have hK:=hK.ext aI
 obtain⟨a,n,c,rfl,hf⟩:=fN
 refine W ?_
 apply oB 4 11 15 rfl oQ
 intro _
 exact oQ
 intro xx
 refine zA<|aV<|j4<|⟨_,rfl,⟨_,rfl,?_⟩,hK⟩
 rw[aE,dE]
 constructor
 rintro⟨h1,h2⟩;obtain⟨e,he,bh,hn,hs⟩:=hf h1;obtain⟨_,_,_,e2,e3⟩:=dH hs;cases e2;exact⟨e,he,bh,hn,List.length_eq_zero_iff.1 om⟩
 rintro⟨e,he,bh,hn,h0⟩;have hx:mF s=true:=xQ.2 ⟨e,he,bh,hn⟩;refine⟨hx,?_⟩;obtain⟨e',vF,ahn,Er,hs⟩:=hf hx;rw[he] at vF;have:=rb bh ahn (Option.some.inj vF);subst this;rw[h0] at hs;obtain⟨_,_,_,e2,e3⟩:=dH hs;cases e2;simp at e3;omega
def kA (ag:List ai) (ρ:Rn) (e:Ex) (n:Nat):Nat->List Ex×Nat
 |0=>([],n)
 |k+1=>((kA ag ρ e n k).1++[(bL ag (fZ e k) ρ (kA ag ρ e n k).2).1],(bL ag (fZ e k) ρ (kA ag ρ e n k).2).2)
theorem Wa (ag:List ai) (ρ:Rn) (e:Ex) (n:Nat):∀k,(kA ag ρ e n k).1.length=k:=by intro x;induction x<;>grind [kA]
def jr (ag:List ai) (ρ:Rn) (n:Nat):Ex->Rn
 | .fn f x _ _ _=>ρ++[(f,cO cx (bu cx ag n)),(x,cO cx (bu cx ag (bu cx ag n+1)))]
 |_=>ρ
def nF (ag:List ai) (n:Nat):Ex->Nat
 | .fn _ _ _ _ _=>bu cx ag (bu cx ag n+1)+1
 |_=>n
def xS (ag:List ai) (n:Nat):Ex->List aq
 | .fn _ _ A B _=>[bM gV,bM (cO cx (bu cx ag n)),bM (cO cx (bu cx ag (bu cx ag n+1))),A.au,B.au]
 |e=>[bM e.head]
def isLt:Ex->Bool
 | .lt _ _ _=>true
 |_=>false
theorem aho (ag:List ai) (ρ:Rn) (n:Nat) (ha:e.iQ=false) (hl:isLt e=false):
  (bL ag e ρ n).1.au= .mk [] (xS ag n e++(kA ag (jr ag ρ n e) e (nF ag n e) e.kids.length).1.map Ex.au)∧(bL ag e ρ n).2=(kA ag (jr ag ρ n e) e (nF ag n e) e.kids.length).2:=by
 cases e with
 |«at» s=>cases ha
 |lt x a b=>cases hl
 |un h a=>exact⟨rfl,rfl⟩
 |bi h a b=>exact⟨rfl,rfl⟩
 |ite a b c=>exact⟨rfl,rfl⟩
 |fn f x A B b=>exact⟨rfl,rfl⟩
theorem ahp (ag:List ai) (n:Nat) (ha:e.iQ=false) (hl:isLt e=false):(xS ag n e).length=e.from:=by
 cases e with
 |«at» s=>cases ha
 |lt x a b=>cases hl
 |_=>rfl
theorem ahq (ag:List ai) (n:Nat) (hk:e.ok) (ha:e.iQ=false) (hf:e.head≠gV):xS ag n e=[bM e.head]∧nF ag n e=n:=by
 cases e with
 |fn f x A B b=>exact absurd rfl hf
 |_=>exact⟨rfl,rfl⟩
theorem Wb (ag:List ai) (ρ:Rn) (n:Nat) (hf:e.head≠gV):jr ag ρ n e=ρ:=by cases e<;>grind [Ex.head,jr]
theorem KB (h:e.ok) (he:e.head=gv):∃x a b,e= .lt x a b:=by
 cases e with
 |lt x a b=>exact⟨x,a,b,rfl⟩
 |un hd a=>have he:hd=gv:=he;rw[he] at h;exact absurd h.1 de
 |bi hd a b=>have he:hd=gv:=he;rw[he] at h;exact absurd h.1 de
 |«at» s=>cases he
 |ite a b c=>cases he
 |fn f x A B b=>cases he
theorem KC (h:e.ok) (he:e.head=gV):∃f x A B b,e= .fn f x A B b:=by
 cases e with
 |fn f x A B b=>exact⟨f,x,A,B,b,rfl⟩
 |un hd a=>have he:hd=gV:=he;rw[he] at h;exact absurd h.1 de
 |bi hd a b=>have he:hd=gV:=he;rw[he] at h;exact absurd h.1 de
 |«at» s=>cases he
 |ite a b c=>cases he
 |lt x a b=>cases he
theorem Wc (h:e.ok) (he:e.head=gJ):∃a b c,e= .ite a b c:=by
 cases e with
 |ite a b c=>exact⟨a,b,c,rfl⟩
 |un hd a=>have he:hd=gJ:=he;rw[he] at h;exact absurd h.1 de
 |bi hd a b=>have he:hd=gJ:=he;rw[he] at h;exact absurd h.1 de
 |«at» s=>cases he
 |lt x a b=>cases he
 |fn f x A B b=>cases he
theorem not_lt (he:e.head≠gv):isLt e=false:=by cases e<;>grind [Ex.head,isLt]
theorem Wd (ha:e.iQ=false) (hl:isLt e=false) (hf:e.head≠gV):e.au.ak=[bM e.head]++e.kids.map Ex.au:=by
 cases e with
 |«at» s=>cases ha
 |lt x a b=>cases hl
 |fn f x A B b=>exact absurd rfl hf
 |_=>rfl
def ml (pre:List aq) (acc:List Ex) (e:Ex):List aq:=pre++acc.map Ex.au++(e.kids.drop acc.length).map Ex.au
theorem We {pre:List aq} {acc:List Ex} {y:Ex} (h:acc.length<e.kids.length):(ml pre acc e).set (pre.length+acc.length) y.au=ml pre (acc++[y]) e:=by
 have h1:e.kids[acc.length]?=some (fZ e acc.length):=by simp[fZ,gE h]
 unfold ml
 rw[List.drop_eq_getElem_cons h,List.map_cons,List.set_append_right _ _ sm,lA,List.length_map,Nat.sub_self]
 simp
theorem Wf {pre:List aq} {acc:List Ex} (h:acc.length<=e.kids.length):(ml pre acc e).length=pre.length+e.kids.length:=by
 simp[ml];omega
theorem Wg {pre:List aq} {acc:List Ex} (h:acc.length=e.kids.length):ml pre acc e=pre++acc.map Ex.au:=by grind [ml]
structure RN (L:List Nat) (w:World) (br:Nat) (ag:List ai) (n:Nat):Prop where
 mem:br∈L
 box:∃vf,aK w br [vf,.int .i64 (n:Int)].toArray 228∧bf L w vf ag
theorem RN.ext {br:Nat} {ag:List ai} (h:RN L w br ag n) (k:aj [] w w'):RN L w' br ag n:=let⟨v,h1,h2⟩:=h.box;⟨h.mem,v,h1.ext k,h2.ext k⟩
theorem RN.lt {br:Nat} {ag:List ai} (h:RN L w br ag n):br<w.heap.size:=let⟨_,h1,_⟩:=h.box;h1.lt
theorem RN.re {L':List Nat} {br:Nat} {ag:List ai} (h:RN L w br ag n) (hb:br∈L') (hL:∀x,x∈L'->x∈L∨w.heap.size<=x):RN L' w br ag n:=let⟨v,h1,h2⟩:=h.box;⟨hb,v,h1,h2.fresh hL⟩
theorem RN.aF {br:Nat} {ag:List ai} (h:RN L w br ag n) (k:aj G w w') (hb:br∉G) (hG:∀x,x∈G->x∈L):RN L w' br ag n:=
 let⟨v,h1,h2⟩:=h.box;⟨h.mem,v,h1.aF k hb,h2.aD k hG⟩
theorem RN.out {br:Nat} {ag:List ai} (h:RN G w br ag n) (k:Fr G w G' w') (ho:Out N G0 w w') (hb:br∈G0) (gB:br∈G'):RN G' w' br ag n:=
 let⟨v,h1,h2⟩:=h.box;⟨gB,v,ho.iw h1 hb,h2.go k⟩
theorem Fl (c:UInt8) (ag:List ai) (n:Nat):bu c ag n<=n+ag.length+1:=(oG c ag n).2
theorem OC (ag:List ai) (n:Nat) (hn:n<=100000) (hb:ag.length<=10000) (br:Nat) (L:List Nat) (w:World) (h:RN L w br ag n):
  bw Tryz.prog 241 [.pointer (some ⟨br,0,none⟩)] w λr w'=>(r=str (cO cx (bu cx ag n))∧RN L w' br ag (bu cx ag n+1))∧aj [br] w w':=by
 have OD:=Fl cx ag n
 have sw:=h.mem
 refine bU [.tmp 2] 26 Tryz.func241 rfl adR rfl rfl ?_
 refine W ?_
 refine dR (λk:Nat=>[(0,.pointer (some ⟨br,0,none⟩))]) (λk w'=>aj [br] w w'∧RN L w' br ag k∧n<=k∧bu cx ag k=bu cx ag n) (λk=>bu cx ag n+1-k) n rfl (⟨aj.refl _ _,h,lR _,rfl⟩) λgg w1 e1 hI=>?_
 obtain⟨hK,⟨_,vf,oV,fA⟩,hk,hq⟩:=hI
 have hle:=(oG cx ag gg).1
 refine W ?_
 refine aA (iH (gg+1) gg om om w1) ?_
 rintro _ w2 ⟨rfl,az⟩
 have dx:=az.size
 refine cJ az hK oV fA λhK oV fA=>?_
 refine iu rfl rfl rfl rfl (by have:=E0 _ gg (lR _);simp;omega)<|W ?_
 refine gD (o:=1) pq rfl rfl rfl oV rfl λw3 aH oV du=>?_
 have fA:=fA.aD aH (by simpa using sw)
 have hK:=hK.trans aH
 refine W ?_
 refine aA (xM ag om (cO cx gg) _ _ w3 fA) ?_
 rintro _ w4 ⟨rfl,aP⟩
 have fH:=aP.size
 refine cJ aP hK oV fA λhK oV fA=>?_
 refine kF rfl rfl rfl<|aV<|zc rfl (λh1=>?_) (λh1=>?_)
 have nh:cO cx gg∉ag:=(by simpa using h1)
 have HV:bu cx ag n=gg:=hq.symm.trans (TQ nh)
 refine W ?_
 exact⟨_,rfl,⟨by rw[HV];rfl,sw,_,by rw[HV];exact oV,fA⟩,hK⟩
 have nh:cO cx gg∈ag:=(by simpa using h1)
 have hfs:=TP nh
 have Ut:=(oG cx ag (gg+1)).1
 refine WZ ?_
 exact⟨gg+1,rfl,⟨hK,⟨sw,vf,oV,fA⟩,om,om⟩,om⟩
theorem Wh (ag:List ai) (ρ:Rn) (e:Ex) (n:Nat):∀k,k<=e.kids.length->n<=(kA ag ρ e n k).2∧(kA ag ρ e n k).2<=n+kN e k*(ag.length+2)
 |0,_=>by simp[kA]
 |k+1,hk=>by
  have h1:=Wh ag ρ e n k om
  have h2:=jm ag (fZ e k) ρ (kA ag ρ e n k).2
  rw[zC om,Nat.add_mul]
  show n<=(bL ag (fZ e k) ρ (kA ag ρ e n k).2).2∧(bL ag (fZ e k) ρ (kA ag ρ e n k).2).2<=_
  omega
theorem tP (ts:List aq) (i:Nat) (t:aq):(da ts).set i t.enc=da (ts.set i t):=by rw[Ay,Ay,List.map_set]
theorem Wi (ts:List aq):∀row,row∈da ts->∀c,c∈row->∀v,c= .val v->v.oneCell'=true:=by
 intro row hr c hc v hv
 rw[Ay] at hr
 obtain⟨t,_,rfl⟩:=List.mem_map.1 hr
 cases t with
 |mk a ps=>
  simp only[aq.enc,mC,List.not_mem_nil,or_false] at hc
  rcases hc with h|h
  ·subst h;cases hv;rfl
  ·subst h;cases hv
theorem dL.ext {T:TypeId} (h:dL L w T sz v g rows) (k:aj [] w w'):dL L w' T sz v g rows:=h.any k
theorem dL.grow {T:TypeId} (h:dL L w T sz v g rows):dL (w.heap.size::L) w T sz v g rows:=h.sub xj
theorem dL.aD {x:Nat} {T:TypeId} (h:dL (x::L) w T sz v g rows) (k:aj [x] w w') (hx:x∉g.toList):dL (x::L) w' T sz v g rows:=
 h.aF (Fr.of k sm) k λy hy xl=>hx (by simp at xl;subst xl;exact hy)
structure jf (G:List Nat) (w0 w:World) (br:Nat) (ag:List ai) (n gb b8:Nat) (vP:Value) (ts:List aq):Prop where
 rn:RN G w br ag n
 own:dL G w 74 2 vP (some gb) (da ts)
 kb:aj [br] w0 w
 bx:aK w b8 [str [],.slice none 0 0].toArray 74
 mem:gb∈G∧b8∈G
 ne:br≠gb∧b8≠gb∧br≠b8
 low:w0.heap.size<=gb∧w0.heap.size<=b8
 cF:eW G w
section
variable {G:List Nat} {w0 w w':World} {br:Nat} {ag:List ai} {n gb b8:Nat} {vP:Value} {ts:List aq}
theorem jf.ext (h:jf G w0 w br ag n gb b8 vP ts) (k:aj [] w w'):jf G w0 w' br ag n gb b8 vP ts:=
 ⟨h.rn.ext k,h.own.ext k,h.kb.ext k,h.bx.ext k,h.mem,h.ne,h.low,λx hx=>lL (h.cF x hx) k.size⟩
theorem jf.out (h:jf G w0 w br ag n gb b8 vP ts) (k:Fr G w G' w') (ho:Out w0.heap.size G0 w w') (hb:br∈G0∧gb∈G0∧b8∈G0) (gB:br∈G'∧gb∈G'∧b8∈G') (hl:eW G' w'):jf G' w0 w' br ag n gb b8 vP ts:=
 ⟨h.rn.out k ho hb.1 gB.1,h.own.out k ho (by simpa using hb.2.1),ho.since h.kb,ho.iw h.bx hb.2.2,gB.2,h.ne,h.low,hl⟩
theorem jf.call {n':Nat} (h:jf G w0 w br ag n gb b8 vP ts) (hr:RN G w' br ag n') (k:aj [br] w w'):jf G w0 w' br ag n' gb b8 vP ts:=
 ⟨hr,h.own.aF (Fr.of k (by simpa using h.rn.mem)) k (by intro x hx fC;simp at hx fC;exact h.ne.1 (fC.symm.trans hx)),h.kb.trans k,h.bx.aF k (by simpa using λe=>h.ne.2.2 e.symm),h.mem,h.ne,h.low,λx hx=>lL (h.cF x hx) k.size⟩
theorem jf.store {ts':List aq} (h:jf G w0 w br ag n gb b8 vP ts) (k:aj [gb] w w') (ho:dL G w' 74 2 vP (some gb) (da ts')):jf G w0 w' br ag n gb b8 vP ts':=
 ⟨h.rn.aF k (by simpa using h.ne.1) (by simpa using h.mem.1),ho,h.kb.since k (by intro x hx;simp at hx;subst hx;exact .inr h.low.1),h.bx.aF k (by simpa using h.ne.2.1),h.mem,h.ne,h.low,λx hx=>lL (h.cF x hx) k.size⟩
theorem jf.js (h:jf G w0 w br ag n gb b8 vP ts):∀x,x∈[gb]->x∈G:=by simpa using h.mem.1
theorem jf.ow (h:jf G w0 w br ag n gb b8 vP ts):∀x,x∈[br]->x∈G:=by simpa using h.rn.mem
end
theorem jf.fin {w0:World} {br:Nat} {ag:List ai} {gb b8:Nat} {vP:Value} {ts:List aq} (h:jf (gb::b8::G) w0 w br ag n gb b8 vP ts) (hG:eW G w0) (oV:br∈G) (k:aj [b8] w w'):
  bC G w' (.agg #[str [],vP]) (.mk [] ts)∧RN G w' br ag n∧aj [br] w0 w':=by
 have mc:gb∉b8::G:=λhx=>by
  rcases mC.1 hx with h1|h1
  ·exact h.ne.2.1 h1.symm
  ·have:=hG gb h1;have:=h.low.1;omega
 have h1:bP (b8::G) w vP (.sl 2 (da ts)):=h.own.rep (λx hx=>.inl (by simpa using hx)) (by simpa using mc)
 have h2:bC (b8::G) w (.agg #[str [],vP]) (.mk [] ts):=lE h1
 refine⟨(h2.aD k sm).gm (λx hx=>mK _ hx),(h.rn.aF k (by simpa using h.ne.2.2) sm).re oV (λx hx=>.inl (by simp[hx])),h.kb.since k (λx hx=>?_)⟩
 simp at hx;subst hx;exact .inr h.low.2
theorem OE (s:ai):cZ G w [str s,.slice none 0 0] (bM s).enc:=bC.kG (lE pj)
theorem ahs (ag:List ai) (ρ:Rn) (n:Nat) {M:Nat} (ha:e.iQ=false) (hl:isLt e=false) (hk:k<e.kids.length) (h1:ρ.length+2*e.n<=100000) (h2:n+e.n*(ag.length+2)<=100000) (hM:M<=nF ag n e+kN e k*(ag.length+2)):
  (jr ag ρ n e).length+2*(fZ e k).n<=100000∧M+(fZ e k).n*(ag.length+2)<=100000:=by
 have h3:=zC hk
 have h4:=Fl cx ag n
 have h5:=Fl cx ag (bu cx ag n+1)
 have h6:(jr ag ρ n e).length+2*(fZ e k).n<=ρ.length+2*e.n∧nF ag n e+kN e (k+1)*(ag.length+2)<=n+e.n*(ag.length+2):=by
  cases e with
  |«at» s=>cases ha
  |lt x a b=>cases hl
  |fn f x A B b=>
   have fS:k=0:=by simp[Ex.kids] at hk;exact hk
   subst fS
   have e1:(fZ (.fn f x A B b) 0).n=b.n:=rfl
   have e2:kN (.fn f x A B b) 1=b.n:=by simp[kN,Ex.kids]
   have e3:(Ex.fn f x A B b).n=3+A.n+B.n+b.n:=rfl
   rw[e1,e2,e3]
   simp only[jr,nF,lA,lC,List.length_nil,Nat.add_mul]
   constructor<;>omega
  |un h a=>
   have:=Dm (.un h a) (k+1)
   exact⟨by show ρ.length+_<=_;omega,Nat.add_le_add_left (Nat.mul_le_mul_right _ this) _⟩
  |bi h a b=>
   have:=Dm (.bi h a b) (k+1)
   exact⟨by show ρ.length+_<=_;omega,Nat.add_le_add_left (Nat.mul_le_mul_right _ this) _⟩
  |ite a b c=>
   have:=Dm (.ite a b c) (k+1)
   exact⟨by show ρ.length+_<=_;omega,Nat.add_le_add_left (Nat.mul_le_mul_right _ this) _⟩
 rw[h3,Nat.add_mul] at h6
 omega
theorem aht (ag:List ai) (ix:ag.length<=10000):∀(m:Nat) (e:Ex),e.n<=m->e.n<=1000->e.ok->∀(ρ:Rn) (n:Nat),ρ.length+2*e.n<=100000->n+e.n*(ag.length+2)<=100000->∀(v vf vt:Value) (br:Nat) (G:List Nat) (w:World),
  bC G w v e.au->bf G w vf (ρ.map Prod.fst)->bf G w vt (ρ.map Prod.snd)->RN G w br ag n->eW G w->
  bw Tryz.prog 217 [v,vf,vt,.pointer (some ⟨br,0,none⟩)] w λr w'=>(bC G w' r (bL ag e ρ n).1.au∧RN G w' br ag (bL ag e ρ n).2)∧aj [br] w w':=by
 intro m
 induction m with
 |zero=>intro e h;have:=e.pos;omega
 |succ m ih=>
  intro e hm mh bh ρ n oN mQ v vf vt br G w cQ OF OG Dq hG
  obtain⟨a,np,c,rfl,hn,KD⟩:=cY cQ
  subst hn
  obtain⟨af,nf,cf,rfl,rO⟩:=dH OF
  obtain⟨at_,nt,ct,rfl,EU⟩:=dH OG
  have ahu:(ρ.map Prod.fst).length=ρ.length:=by simp
  have aqx:(ρ.map Prod.snd).length=ρ.length:=by simp
  have aqy:=Dq.lt
  have hK:=aj.refl [] w
  have Kv:=HO e
  have uP:=Fl cx ag n
  have jD:=Fl cx ag (bu cx ag n+1)
  have hB:e.n*(ag.length+2)<=100000:=by omega
  refine lG [.cell 8 74] 155 Tryz.func217 rfl adA rfl rfl rfl ?_
  refine zr<|eK rfl λw1 aI aG dh=>?_
  have hK:=hK.ext aI
  refine dz aM rfl rfl rfl λw2 az db dD=>?_
  have hK:=hK.grow;have hK:=hK.ext az;have aG:=aG.grow;have aG:=aG.ext az
  refine W ?_
  refine zc rfl (λh1=>?_) (λh1=>?_)
  have aQ:∃x,e= .at x:=(by have ha:=(wu bh).1 h1;cases e<;>first|exact⟨_,rfl⟩|cases ha)
  obtain⟨x,rfl⟩:=aQ
  refine W ?_
  refine aA (wk _ _) ?_
  rintro _ _ ⟨rfl,rfl⟩
  refine aV<|zc rfl (λh2=>?_) (λh2=>?_)
  have hq:(bL ag (.at x) ρ n).1.au=bM (qO ρ x):=(show bM (if dQ x=true then qO ρ x else x)=bM (qO ρ x) from congrArg bM (iP h2))
  refine W ?_
  refine aA (ahe (ρ.map Prod.fst) (ρ.map Prod.snd) om om x _ _ _ _ w2 (OF.ext hK) (OG.ext hK)) ?_
  rintro _ w3 ⟨rfl,aH⟩
  have fh:=aH.size
  refine bI aH hK db λhK db=>?_
  refine aA (BD _ w3) ?_
  rintro _ w4 ⟨rfl,aP⟩
  have fH:=aP.size
  refine bI aP hK db λhK db=>?_
  refine cL aM rfl rfl rfl db rfl λw5 aN db gZ=>?_
  have hK:=hK.aD aN sx
  refine W ?_
  have zE:=ahd x ρ
  rw[<-ahu] at zE
  exact⟨[_],gC fc aM rfl db rfl,⟨by rw[hq,<-zE];exact lE pj,Dq.ext hK⟩,hK.any⟩
  have hq:(bL ag (.at x) ρ n).1.au=bM x:=(show bM (if dQ x=true then qO ρ x else x)=bM x from congrArg bM (iN (λhh=>Bool.noConfusion (hh.symm.trans h2))))
  refine W ?_
  refine cL aM rfl rfl rfl db rfl λw3 aH db gL=>?_
  have hK:=hK.aD aH sx
  refine W ?_
  exact⟨[_],gC fc aM rfl db rfl,⟨by rw[hq];exact bC.ext cQ hK,Dq.ext hK⟩,hK.any⟩
  have eF:e.iQ=false:=(by cases hh:e.iQ;rfl;exact absurd ((wu bh).2 hh) h1)
  obtain⟨HP,nj,ju,oX⟩:=Ex.ak eF
  obtain⟨jB,Fe,Ff⟩:=HN bh eF
  have HQ:=Nh bh eF
  have ma:dZ (nth e.au.ak 0).aw=(e.from,e.from+e.kids.length):=by rw[ju];exact HQ
  obtain⟨b,off,xI,xJ,e0,uQ,kh⟩:=fg KD jB
  subst e0
  have nB:=hK
  have HW:=aG
  have ahv:=db
  have ahw:=dh
  have ahx:=dD
  refine gT<|zr<|vJ w2.heap.size (w1.heap.size::G) cD aM rfl rfl (lR _) (λx hx=>by rcases mC.1 hx with h|h;omega;have:=hG x h;omega) λw3 aH KE xT=>?_
  have jY:=aH
  refine bI aH aG db λaG db=>?_
  refine W ?_
  refine xH cD aM rfl rfl rfl rfl rfl rfl xT (eU.ext (bP.fresh KD (L':=w2.heap.size::w1.heap.size::G) (by intro x hx;simp at hx;rcases hx with rfl|rfl|hx;right;omega;right;omega;exact .inl hx)) (nB.ext aH)) (Wi _) (by rw[iz];simp;omega) λa4 fU g4 w4 kP aP=>?_
  have jY:=xT.since jY aP
  have hK:=nB.trans jY
  have aG:=HW.ext jY
  have db:=ahv.ext jY
  have fH:=jY.size
  rw[show([]:List (List C)).length+(da e.au.ak).length=e.au.ak.length from by rw[iz];simp] at kP⊢
  rw[List.nil_append] at kP
  obtain⟨gb,e4,e5⟩:=kP.form (by rw[iz];exact jB)
  subst e4
  subst e5
  have fG:gb<w4.heap.size:=kP.lt gb sm
  have Fm:w2.heap.size<=gb:=kP.low gb rfl
  have hS:dL (gb::w1.heap.size::G) w4 74 2 (.slice (some ⟨gb,0,none⟩) e.au.ak.length fU) (some gb) (da e.au.ak):=(let⟨xs,hr⟩:=kP.own;⟨⟨xs,hr.own,hr.rep⟩,hr.row⟩)
  refine jG (M3 _ _ _ _) rfl rfl<|dz aM rfl rfl rfl λw5 aN cT gZ=>?_
  have hK:=hK.grow;have hK:=hK.ext aN;have aG:=aG.grow;have aG:=aG.ext aN;have db:=db.grow;have db:=db.ext aN;have hS:=hS.grow;have hS:=hS.ext aN
  refine cL aM rfl rfl rfl cT rfl λw6 bN cT lj=>?_
  have hK:=hK.aD bN sx;have aG:=aG.aD bN sx;have db:=db.aD bN sx;have hS:=hS.aD bN sx
  refine aV<|zr<|zf jI rfl<|zl iW rfl (aG.at rfl) ?_
  have lz:∀x,x∈gb::w1.heap.size::G->x∈G∨w.heap.size<=x:=(by intro x hx;simp at hx;rcases hx with rfl|rfl|hx;right;omega;right;omega;exact .inl hx)
  have jg:=hK.size
  have Wj:eW (gb::w1.heap.size::G) w6:=(by intro x hx;simp at hx;rcases hx with rfl|rfl|hx;omega;omega;have:=hG x hx;omega)
  have Fo:Fr G w (gb::w1.heap.size::G) w6:=⟨hK.any,lz⟩
  have aO:=KD.go Fo
  have fA:=OF.go Fo
  have ek:=OG.go Fo
  have uQ:=uQ.go Fo
  have rP:RN (gb::w1.heap.size::G) w6 br ag n:=(Dq.re (by simp[Dq.mem]) lz).ext hK
  have eT:∀q,w.heap.size<=q->q≠gb->q≠w1.heap.size->q∉gb::w1.heap.size::G:=(by intro q h1 h2 h3 hx;simp at hx;rcases hx with h|h|h;exact h2 h;exact h3 h;have:=hG q h;omega)
  have aG:dP (gb::w1.heap.size::G) w6 w.heap.size _ _:=⟨aG,eT _ om om om⟩
  have cT:dP (gb::w1.heap.size::G) w6 w4.heap.size _ _:=⟨cT,eT _ om om om⟩
  have hS:=dL.sub hS (L':=gb::w1.heap.size::G) (λx hx=>.inl (mK _ hx))
  have aS:jf (gb::w1.heap.size::G) w w6 br ag n gb w1.heap.size _ e.au.ak:=⟨rP,hS,hK.any,db,sm,om,om,Wj⟩
  have aQ:∃G2,G2=gb::w1.heap.size::G:=⟨_,rfl⟩
  obtain⟨G2,zF⟩:=aQ
  rw[<-zF] at aO fA ek aG cT uQ aS
  have gd:br∈G2∧gb∈G2∧w1.heap.size∈G2:=⟨aS.rn.mem,aS.mem⟩
  refine zi (i:=0) cD aM rfl rfl jB<|zf lK rfl<|zl fo rfl (uQ.cells 0 _ rfl)<|aA (Kq _ _) ?_
  rintro _ _ ⟨rfl,rfl⟩
  rw[zy ma]
  refine WI ?_
  refine zi (i:=0) cD aM rfl rfl jB<|W ?_
  refine zc rfl (λh3=>?_) (λh3=>?_)
  obtain⟨nx,ea,eb,rfl⟩:=KB bh (ju.symm.trans h3)
  have xU:(Ex.lt nx ea eb).n=2+ea.n+eb.n:=rfl
  have hmul:(Ex.lt nx ea eb).n*(ag.length+2)=2*(ag.length+2)+ea.n*(ag.length+2)+eb.n*(ag.length+2):=by rw[xU,Nat.add_mul,Nat.add_mul]
  have aqz:=jm ag ea ρ (bu cx ag n+1)
  have KF:(Ex.lt nx ea eb).au.ak.length=4:=rfl
  refine zr<|zm<|aA (OC ag n om ix br G2 w6 aS.rn) ?_
  rintro v7 w7 ⟨wy,bW⟩
  have lp:=bW.size
  have aO:=aO.aD bW (aS.ow);have fA:=fA.aD bW (aS.ow);have ek:=ek.aD bW (aS.ow);have aG:=aG.aD bW (aS.ow);have cT:=cT.aD bW aS.ow
  obtain⟨rfl,rP⟩:=wy
  have aS:=aS.call rP bW
  refine W ?_
  apply dV dv 5 [51,52,53,54,55] [[],[0],[],[2],[1]] (it [_,_,_,_,_]) de rfl
  intro wd aC
  refine VA ?_
  refine vk aC (λx w8 cg=>?_) ?_
  refine aA (BD _ w8) ?_
  rintro _ w9 ⟨rfl,aB⟩
  have nA:=aB.size
  exact pk aB
  refine vk aC (λx w8 cg=>?_) ?_
  refine zi (i:=1) cD aM rfl rfl ((show 1<4 from om)) ?_
  exact pv
  exact trivial
  intro x xV mH
  refine tC mH aO fA ek aG cT aS λaO fA ek aG cT aS=>?_
  change OW _ _ _ _ _ (bo (bm _ x _) (zZ 51 [_,_,_,_,_])) _
  refine tM (i:=1) (vs:=[str (cO cx (bu cx ag n)),.slice none 0 0]) (row:=(bM (cO cx (bu cx ag n))).enc) aM rfl rfl rfl rfl rfl aS.own aS.cF aS.mem.1 (by rw[iz];omega) rfl (ph _) (OE _) λmm mn sC dm=>?_
  rw[tP] at dm
  have aO:=aO.aD mn aS.js;have fA:=fA.aD mn aS.js;have ek:=ek.aD mn aS.js;have aG:=aG.aD mn aS.js;have cT:=cT.aD mn aS.js
  have aS:=aS.store mn dm
  refine W ?_
  obtain⟨b2,lP,iI,iy,e2,bY,dM⟩:=fg aO (i:=2) om
  cases e2
  have dM:bC G2 mm _ ea.au:=dM
  obtain⟨b3,BP,qm,qo,e3,dS,ei⟩:=fg aO (i:=3) om
  cases e3
  have ei:bC G2 mm _ eb.au:=ei
  obtain⟨b1,eX,gR,gF,e1,bK,cN⟩:=fg aO (i:=1) om
  cases e1
  apply jV dv G2 11 (rA 56 11) (rA 56 11) [[],[0],[],[2],[3],[4],[],[],[],(rA 5 4),[1]] [Ie.v _,Ie.v _,Ie.v _,Ie.v _,Ie.v _,Ie.v _,Ie.v _,Ie.v _,Ie.v _,Ie.e 0,Ie.v _] [9] [fun(G:List Nat) (vs:List Value) (ww:World)=>G=G2∧jf G2 w ww br ag (bu cx ag n+1) gb w1.heap.size (.slice (some ⟨gb,0,none⟩) (Ex.lt nx ea eb).au.ak.length fU) (((Ex.lt nx ea eb).au.ak.set 1 (bM (cO cx (bu cx ag n))))),fun(G:List Nat) (vs:List Value) (ww:World)=>G=G2∧jf G2 w ww br ag ((bL ag ea ρ (bu cx ag n+1)).2) gb w1.heap.size (.slice (some ⟨gb,0,none⟩) (Ex.lt nx ea eb).au.ak.length fU) (((Ex.lt nx ea eb).au.ak.set 1 (bM (cO cx (bu cx ag n)))))∧bC G2 ww (vs.getD 0 undef) (bL ag ea ρ (bu cx ag n+1)).1.au] de rfl aS.cF (by exact trivial) (by exact⟨λG vs w w' ⟨h1,h2⟩ k=>⟨h1,h2.ext k⟩,λG vs w w' ⟨h1,h2,h3⟩ k=>⟨h1,h2.ext k,h3.ext k⟩,trivial⟩) (⟨rfl,aS⟩)
  refine FA ?_
  refine vf (λ_ _ _ _ _ _=>zi (i:=2) cD aM rfl rfl ((show 2<4 from om)) fv) ?_
  refine FA ?_
  refine ve 0 (λx oZ KG aT zG Wk hJ hlen=>?_) ?_
  have aX:=jw hlen
  subst aX
  have fA:=fA.go zG;have ek:=ek.go zG;have dM:=dM.go zG
  obtain⟨bS,aS⟩:=hJ
  obtain rfl:G2=KG:=bS.symm
  refine aA (ih ea om om bh.2.1 ρ (bu cx ag n+1) om om _ _ _ br G2 oZ dM fA ek aS.rn aS.cF) ?_
  rintro Dr o3 ⟨⟨dy,HX⟩,aB⟩
  exact fe G2 (Fr.of aB aS.ow) ((λq hq=>lL (aS.cF q hq) aB.size)) (⟨rfl,aS.call HX aB,dy⟩)
  refine vf (λ_ _ _ _ _ _=>zi (i:=2) cD aM rfl rfl ((show 2<4 from om)) fv) ?_
  exact trivial
  intro x HY G88 aT Ds aqA hJ hlen
  obtain⟨q0,aX⟩:=jx hlen
  subst aX
  have fA:=fA.go Ds;have ek:=ek.go Ds;have aG:=aG.go Ds;have cT:=cT.go Ds;have dS:=dS.go Ds;have ei:=ei.go Ds;have bK:=bK.go Ds
  change OW _ _ _ _ _ (bo (bm _ x _) (zZ 56 [_,_,_,_,_,_,_,_,_,_,_])) _
  obtain⟨bS,aS,dy⟩:=hJ
  obtain rfl:G2=G88:=bS.symm
  obtain⟨a7,n7,c7,e7,_,_⟩:=cY dy
  have e8:q0=_:=e7
  subst e8
  refine tM (i:=2) (vs:=[str (bL ag ea ρ (bu cx ag n+1)).1.au.aw,.slice a7 n7 c7]) (row:=(bL ag ea ρ (bu cx ag n+1)).1.au.enc) aM rfl rfl rfl rfl rfl aS.own aS.cF aS.mem.1 (by rw[iz];rw[List.length_set];omega) rfl (ph _) ((show bC G2 _ (.agg #[_,_]) _ from dy).kG) λxW xX sC dm=>?_
  rw[tP] at dm
  have fA:=fA.aD xX aS.js;have ek:=ek.aD xX aS.js;have aG:=aG.aD xX aS.js;have cT:=cT.aD xX aS.js;have dS:=dS.aD xX aS.js;have ei:=ei.aD xX aS.js;have bK:=bK.aD xX aS.js
  have aS:=aS.store xX dm
  refine W ?_
  have yV:=aS.kb.size
  apply jV dv G2 25 (rA 67 25) (rA 67 25) [[],[0],[],[2],[3],[4],[],[],[6,7],[],[9],[10],[11],[12],[13],[8,14],[],[],[16,17],[],[19],[18,20],[],[5,15,21,22],[1]] [Ie.v _,Ie.v _,Ie.v _,Ie.v _,Ie.v _,Ie.v _,Ie.p (fun(G:List Nat) (v:Value) (ww:World)=>∃bb,v= .slice (some ⟨bb,0,none⟩) 0 0∧w.heap.size<=bb∧dP G ww bb #[] 9),Ie.v _,Ie.e 0,Ie.v _,Ie.v _,Ie.v _,Ie.v _,Ie.v _,Ie.p (fun(G:List Nat) (v:Value) (ww:World)=>bf G ww v [nx]),Ie.e 1,Ie.p (fun(G:List Nat) (v:Value) (ww:World)=>∃bb,v= .slice (some ⟨bb,0,none⟩) 0 0∧w.heap.size<=bb∧dP G ww bb #[] 9),Ie.v _,Ie.e 2,Ie.v _,Ie.p (fun(G:List Nat) (v:Value) (ww:World)=>bf G ww v [(cO cx (bu cx ag n))]),Ie.e 3,Ie.v _,Ie.e 4,Ie.v _] [8,15,18,21,23] [fun(G:List Nat) (vs:List Value) (ww:World)=>G=G2∧jf G2 w ww br ag ((bL ag ea ρ (bu cx ag n+1)).2) gb w1.heap.size (.slice (some ⟨gb,0,none⟩) (Ex.lt nx ea eb).au.ak.length fU) ((((Ex.lt nx ea eb).au.ak.set 1 (bM (cO cx (bu cx ag n)))).set 2 (bL ag ea ρ (bu cx ag n+1)).1.au)),fun(G:List Nat) (vs:List Value) (ww:World)=>(∀q,q∈G2->q∈G)∧jf G w ww br ag ((bL ag ea ρ (bu cx ag n+1)).2) gb w1.heap.size (.slice (some ⟨gb,0,none⟩) (Ex.lt nx ea eb).au.ak.length fU) ((((Ex.lt nx ea eb).au.ak.set 1 (bM (cO cx (bu cx ag n)))).set 2 (bL ag ea ρ (bu cx ag n+1)).1.au))∧LP w.heap.size G G2 ww 9 (vs.getD 0 undef) (ρ.map Prod.fst),fun(G:List Nat) (vs:List Value) (ww:World)=>G=G2∧jf G2 w ww br ag ((bL ag ea ρ (bu cx ag n+1)).2) gb w1.heap.size (.slice (some ⟨gb,0,none⟩) (Ex.lt nx ea eb).au.ak.length fU) ((((Ex.lt nx ea eb).au.ak.set 1 (bM (cO cx (bu cx ag n)))).set 2 (bL ag ea ρ (bu cx ag n+1)).1.au))∧bf G2 ww (vs.getD 1 undef) ((ρ.map Prod.fst)++[nx]),fun(G:List Nat) (vs:List Value) (ww:World)=>(∀q,q∈G2->q∈G)∧jf G w ww br ag ((bL ag ea ρ (bu cx ag n+1)).2) gb w1.heap.size (.slice (some ⟨gb,0,none⟩) (Ex.lt nx ea eb).au.ak.length fU) ((((Ex.lt nx ea eb).au.ak.set 1 (bM (cO cx (bu cx ag n)))).set 2 (bL ag ea ρ (bu cx ag n+1)).1.au))∧bf G ww (vs.getD 1 undef) ((ρ.map Prod.fst)++[nx])∧LP w.heap.size G G2 ww 9 (vs.getD 2 undef) (ρ.map Prod.snd),fun(G:List Nat) (vs:List Value) (ww:World)=>G=G2∧jf G2 w ww br ag ((bL ag ea ρ (bu cx ag n+1)).2) gb w1.heap.size (.slice (some ⟨gb,0,none⟩) (Ex.lt nx ea eb).au.ak.length fU) ((((Ex.lt nx ea eb).au.ak.set 1 (bM (cO cx (bu cx ag n)))).set 2 (bL ag ea ρ (bu cx ag n+1)).1.au))∧bf G2 ww (vs.getD 1 undef) ((ρ.map Prod.fst)++[nx])∧bf G2 ww (vs.getD 3 undef) ((ρ.map Prod.snd)++[(cO cx (bu cx ag n))]),fun(G:List Nat) (vs:List Value) (ww:World)=>G=G2∧jf G2 w ww br ag ((bL ag eb (ρ++[(nx,(cO cx (bu cx ag n)))]) (bL ag ea ρ (bu cx ag n+1)).2).2) gb w1.heap.size (.slice (some ⟨gb,0,none⟩) (Ex.lt nx ea eb).au.ak.length fU) ((((Ex.lt nx ea eb).au.ak.set 1 (bM (cO cx (bu cx ag n)))).set 2 (bL ag ea ρ (bu cx ag n+1)).1.au))∧bC G2 ww (vs.getD 4 undef) (bL ag eb (ρ++[(nx,(cO cx (bu cx ag n)))]) (bL ag ea ρ (bu cx ag n+1)).2).1.au] de rfl aS.cF (by exact⟨λG v w G' w' ⟨bb,e,h0,h⟩ k=>⟨bb,e,h0,h.go k⟩,λG v w G' w' h k=>bf.go h k,λG v w G' w' ⟨bb,e,h0,h⟩ k=>⟨bb,e,h0,h.go k⟩,λG v w G' w' h k=>bf.go h k,trivial⟩) (by exact⟨λG vs w w' ⟨h1,h2⟩ k=>⟨h1,h2.ext k⟩,λG vs w w' ⟨h1,h2,h3⟩ k=>⟨h1,h2.ext k,h3.ext k⟩,λG vs w w' ⟨h1,h2,h3⟩ k=>⟨h1,h2.ext k,h3.ext k⟩,λG vs w w' ⟨h1,h2,h3,h4⟩ k=>⟨h1,h2.ext k,h3.ext k,h4.ext k⟩,λG vs w w' ⟨h1,h2,h3,h4⟩ k=>⟨h1,h2.ext k,h3.ext k,h4.ext k⟩,λG vs w w' ⟨h1,h2,h3⟩ k=>⟨h1,h2.ext k,h3.ext k⟩,trivial⟩) (⟨rfl,aS⟩)
  refine FA ?_
  refine vf (λ_ _ _ _ _ _=>zi (i:=3) cD aM rfl rfl ((show 3<4 from om)) fv) ?_
  refine FA ?_
  refine vf (λx kZ mI aT jM nC=>?_) ?_
  refine gA bg ba ?_
  intro rf zH OH KH
  exact ff zH (⟨_,rfl,(by have h1:=jM.aF.size;omega),OH.o nC⟩)
  refine FA ?_
  refine ve 0 (λx kZ mI aT jM nC hJ hlen=>?_) ?_
  have aX:=jw hlen
  subst aX
  have fA:=fA.go jM
  intro v6 d6
  obtain⟨bb,e6,Dt,fT⟩:=d6
  subst e6
  obtain⟨bS,aS⟩:=hJ
  obtain rfl:G2=mI:=bS.symm
  refine HK (N:=w.heap.size) bg ba rfl rfl rfl rfl rfl rfl fT Dt fA aS.cF om λv9 rf G9 kO wA cV eE qu=>?_
  exact fe G9 cV eE (⟨kO,aS.out cV qu ⟨gd.1,gd.2.1,gd.2.2⟩ ⟨kO _ gd.1,kO _ gd.2.1,kO _ gd.2.2⟩ eE,wA⟩)
  refine FA ?_
  refine vf (λ_ _ _ _ _ _=>zi (i:=1) cD aM rfl rfl ((show 1<4 from om)) fv) ?_
  refine FA ?_
  refine vf (λx kZ mI aT jM nC=>?_) ?_
  refine eR bg ba rfl rfl ?_
  intro rf zH Fp KH
  exact ff zH (aK.dO [nx] Fp (λhx=>by have:=nC _ hx;omega))
  refine ve 1 (λx kZ mI aT jM nC hJ hlen=>?_) ?_
  obtain⟨q0,aX⟩:=jx hlen
  subst aX
  intro mJ d14
  obtain⟨kf,aS,HZ⟩:=hJ
  refine Ks bg ba rfl rfl rfl rfl rfl rfl HZ d14 aS.cF kf so λv9 rf jN cV eE qu=>?_
  exact fe G2 cV eE (⟨rfl,aS.out cV qu ⟨gd.1,gd.2.1,gd.2.2⟩ ⟨gd.1,gd.2.1,gd.2.2⟩ eE,jN⟩)
  refine vf (λx kZ mI aT jM nC=>?_) ?_
  refine gA bg ba λrf zH ahz KH=>?_
  exact ff zH (⟨_,rfl,(by have h1:=jM.aF.size;omega),ahz.o nC⟩)
  refine FA ?_
  refine ve 2 (λx kZ mI aT jM nC hJ hlen=>?_) ?_
  obtain⟨q0,q1,aX⟩:=lO hlen
  subst aX
  have ek:=ek.go jM
  intro Du d16
  obtain⟨bb,e6,Dt,fT⟩:=d16
  subst e6
  obtain⟨bS,aS,rQ⟩:=hJ
  obtain rfl:G2=mI:=bS.symm
  refine HK (N:=w.heap.size) bg ba rfl rfl rfl rfl rfl rfl fT Dt ek aS.cF om λv9 rf G9 kO wA cV eE qu=>?_
  exact fe G9 cV eE (⟨kO,aS.out cV qu ⟨gd.1,gd.2.1,gd.2.2⟩ ⟨kO _ gd.1,kO _ gd.2.1,kO _ gd.2.2⟩ eE,rQ.go cV,wA⟩)
  refine FA ?_
  refine vf (λx kZ mI aT jM nC=>?_) ?_
  refine eR bg ba rfl rfl λrf zH ahA KH=>?_
  exact ff zH (aK.dO [(cO cx (bu cx ag n))] ahA (λhx=>by have:=nC _ hx;omega))
  refine ve 3 (λx kZ mI aT jM nC hJ hlen=>?_) ?_
  obtain⟨q0,q1,q2,aX⟩:=A9 hlen
  subst aX
  intro v20 d20
  obtain⟨kf,aS,rQ,HZ⟩:=hJ
  refine Ks bg ba rfl rfl rfl rfl rfl rfl HZ d20 aS.cF kf so λv9 rf jN cV eE qu=>?_
  exact fe G2 cV eE (⟨rfl,aS.out cV qu ⟨gd.1,gd.2.1,gd.2.2⟩ ⟨gd.1,gd.2.1,gd.2.2⟩ eE,rQ.go cV,jN⟩)
  refine FA ?_
  refine ve 4 (λx kZ mI aT jM nC hJ hlen=>?_) ?_
  obtain⟨q0,q1,q2,q3,aX⟩:=NA hlen
  subst aX
  have ei:=ei.go jM
  obtain⟨bS,aS,rQ,ahB⟩:=hJ
  obtain rfl:G2=mI:=bS.symm
  refine aA (ih eb om om bh.2.2 (ρ++[(nx,(cO cx (bu cx ag n)))]) (bL ag ea ρ (bu cx ag n+1)).2 so om _ _ _ br G2 kZ ei (by rw[List.map_append];exact rQ) (by rw[List.map_append];exact ahB) aS.rn aS.cF) ?_
  rintro Dr rf ⟨⟨dy,HX⟩,aB⟩
  exact fe G2 (Fr.of aB aS.ow) ((λq hq=>lL (aS.cF q hq) aB.size)) (⟨rfl,aS.call HX aB,dy⟩)
  refine vf (λ_ _ _ _ _ _=>zi (i:=3) cD aM rfl rfl ((show 3<4 from om)) fv) ?_
  exact trivial
  intro x KI Wl aT OI ahC hJ hlen
  obtain⟨q0,q1,q2,q3,q4,aX⟩:=Ug hlen
  subst aX
  intro v6 d6
  intro mJ d14
  intro Du d16
  intro v20 d20
  have cT:=cT.go OI
  change OW _ _ _ _ _ (bo (bm _ x _) (zZ 67 [_,_,_,_,_,_,_,_,_,_,_,_,_,_,_,_,_,_,_,_,_,_,_,_,_])) _
  obtain⟨bS,aS,dy⟩:=hJ
  obtain rfl:G2=Wl:=bS.symm
  obtain⟨a7,n7,c7,e7,_,_⟩:=cY dy
  have e8:q4=_:=e7
  subst e8
  refine tM (i:=3) (vs:=[str (bL ag eb (ρ++[(nx,(cO cx (bu cx ag n)))]) (bL ag ea ρ (bu cx ag n+1)).2).1.au.aw,.slice a7 n7 c7]) (row:=(bL ag eb (ρ++[(nx,(cO cx (bu cx ag n)))]) (bL ag ea ρ (bu cx ag n+1)).2).1.au.enc) aM rfl rfl rfl rfl rfl aS.own aS.cF aS.mem.1 (by rw[iz];rw[List.length_set,List.length_set];omega) rfl (ph _) ((show bC G2 _ (.agg #[_,_]) _ from dy).kG) λOJ Dv sC dm=>?_
  rw[tP] at dm
  have cT:=cT.aD Dv aS.js
  have aS:=aS.store Dv dm
  refine W ?_
  refine cL aM rfl rfl rfl aS.bx rfl λahD OK db kX=>?_
  subst zF
  obtain⟨sD,sE,wG⟩:=aS.fin hG Dq.mem OK
  refine W ?_
  exact⟨[_],gC fc aM rfl db rfl,⟨sD,sE⟩,wG⟩
  have Fq:isLt e=false:=not_lt (λhh=>h3 (ju.trans hh))
  have Wm:=aho ag ρ n eF Fq
  have Wn:=ahp ag n eF Fq
  have kB:=Fr.refl G2 w6
  have yV:=aS.kb.size
  refine WI ?_
  refine zi (i:=0) cD aM rfl rfl jB<|W ?_
  refine iS (λq:Value×Value=>[(1,q.1),(2,q.2),(3,.pointer (some ⟨br,0,none⟩)),(4,.pointer (some ⟨w.heap.size,0,none⟩)),(8,.pointer (some ⟨w1.heap.size,0,none⟩)),(9,.pointer (some ⟨w4.heap.size,0,none⟩)),(10,.int .i64 (e.from:Int)),(11,.int .i64 ((e.from+e.kids.length:Nat):Int))]) (λq ww=>Fr G2 w6 G2 ww∧jf G2 w ww br ag (nF ag n e) gb w1.heap.size (.slice (some ⟨gb,0,none⟩) e.au.ak.length fU) (ml (xS ag n e) [] e)∧bf G2 ww q.1 ((jr ag ρ n e).map Prod.fst)∧bf G2 ww q.2 ((jr ag ρ n e).map Prod.snd)) ?_ ?_
  refine zc rfl (λh4=>?_) (λh4=>?_)
  obtain⟨nf,nx,tA,tB,eb,rfl⟩:=KC bh (ju.symm.trans h4)
  have xU:(Ex.fn nf nx tA tB eb).n=3+tA.n+tB.n+eb.n:=rfl
  have hmul:(Ex.fn nf nx tA tB eb).n*(ag.length+2)=3*(ag.length+2)+tA.n*(ag.length+2)+tB.n*(ag.length+2)+eb.n*(ag.length+2):=by rw[xU,Nat.add_mul,Nat.add_mul,Nat.add_mul]
  have KJ:(Ex.fn nf nx tA tB eb).au.ak.length=6:=rfl
  refine zr<|zm<|aA (OC ag n om ix br G2 w6 aS.rn) ?_
  rintro v7 w7 ⟨wy,bW⟩
  have lp:=bW.size
  have aO:=aO.aD bW (aS.ow);have fA:=fA.aD bW (aS.ow);have ek:=ek.aD bW (aS.ow);have aG:=aG.aD bW (aS.ow);have cT:=cT.aD bW (aS.ow);have kB:=kB.aD bW aS.ow
  obtain⟨rfl,rP⟩:=wy
  have aS:=aS.call rP bW
  refine W ?_
  refine aA (OC ag (bu cx ag n+1) om ix br G2 w7 aS.rn) ?_
  rintro v8 w8 ⟨Dw,cg⟩
  have wH:=cg.size
  have aO:=aO.aD cg (aS.ow);have fA:=fA.aD cg (aS.ow);have ek:=ek.aD cg (aS.ow);have aG:=aG.aD cg (aS.ow);have cT:=cT.aD cg (aS.ow);have kB:=kB.aD cg aS.ow
  obtain⟨rfl,rP⟩:=Dw
  have aS:=aS.call rP cg
  refine W ?_
  apply dV dv 5 [103,104,105,106,107] [[],[0],[],[2],[1]] (it [_,_,_,_,_]) de rfl
  intro wd aC
  refine VA ?_
  refine vk aC (λx w9 aB=>?_) ?_
  refine aA (BD _ w9) ?_
  rintro _ cv ⟨rfl,cw⟩
  have zI:=cw.size
  exact pk cw
  refine vk aC (λx w9 aB=>?_) ?_
  refine zi (i:=1) cD aM rfl rfl ((show 1<6 from om)) ?_
  exact pv
  exact trivial
  intro x mm mn
  refine J2 mn aO fA ek aG cT kB aS λaO fA ek aG cT kB aS=>?_
  change OW _ _ _ _ _ (bo (bm _ x _) (zZ 103 [_,_,_,_,_])) _
  refine tM (i:=1) (vs:=[str (cO cx (bu cx ag n)),.slice none 0 0]) (row:=(bM (cO cx (bu cx ag n))).enc) aM rfl rfl rfl rfl rfl aS.own aS.cF aS.mem.1 (by rw[iz];omega) rfl (ph _) (OE _) λoZ iY sC dm=>?_
  rw[tP] at dm
  have aO:=aO.aD iY aS.js;have fA:=fA.aD iY aS.js;have ek:=ek.aD iY aS.js;have aG:=aG.aD iY aS.js;have cT:=cT.aD iY aS.js;have kB:=kB.aD iY aS.js
  have aS:=aS.store iY dm
  refine W ?_
  apply dV dv 5 [108,109,110,111,112] [[],[0],[],[2],[1]] (it [_,_,_,_,_]) de rfl
  intro wd aC
  refine VA ?_
  refine vk aC (λx o3 mo=>?_) ?_
  refine aA (BD _ o3) ?_
  rintro _ lQ ⟨rfl,lv⟩
  have aqB:=lv.size
  exact pk lv
  refine vk aC (λx o3 mo=>?_) ?_
  refine zi (i:=2) cD aM rfl rfl ((show 2<6 from om)) ?_
  exact pv
  exact trivial
  intro x xW xX
  refine tC xX aO fA ek aG kB aS λaO fA ek aG kB aS=>?_
  change OW _ _ _ _ _ (bo (bm _ x _) (zZ 108 [_,_,_,_,_])) _
  refine tM (i:=2) (vs:=[str (cO cx (bu cx ag (bu cx ag n+1))),.slice none 0 0]) (row:=(bM (cO cx (bu cx ag (bu cx ag n+1)))).enc) aM rfl rfl rfl rfl rfl aS.own aS.cF aS.mem.1 (by rw[iz];rw[List.length_set];omega) rfl (ph _) (OE _) λkZ uR sC dm=>?_
  rw[tP] at dm
  have aO:=aO.aD uR aS.js;have fA:=fA.aD uR aS.js;have ek:=ek.aD uR aS.js;have aG:=aG.aD uR aS.js;have kB:=kB.aD uR aS.js
  have aS:=aS.store uR dm
  refine W ?_
  have yV:=aS.kb.size
  obtain⟨b1,eX,gR,gF,e1,bK,cN⟩:=fg aO (i:=1) om
  cases e1
  obtain⟨b2,lP,iI,iy,e2,bY,dM⟩:=fg aO (i:=2) om
  cases e2
  apply jV dv G2 15 (rA 113 15) (rA 113 15) [[],[],[0,1],[],[3],[4],[5],[6],[],[8],[9],[10],[11],[7,12],[2,13]] [Ie.p (fun(G:List Nat) (v:Value) (ww:World)=>∃bb,v= .slice (some ⟨bb,0,none⟩) 0 0∧w.heap.size<=bb∧dP G ww bb #[] 9),Ie.v _,Ie.e 0,Ie.v _,Ie.v _,Ie.v _,Ie.v _,Ie.v _,Ie.v _,Ie.v _,Ie.v _,Ie.v _,Ie.v _,Ie.p (fun(G:List Nat) (v:Value) (ww:World)=>bf G ww v [nf,nx]),Ie.e 1] [2,14] [fun(G:List Nat) (vs:List Value) (ww:World)=>G=G2∧jf G2 w ww br ag (bu cx ag (bu cx ag n+1)+1) gb w1.heap.size (.slice (some ⟨gb,0,none⟩) (Ex.fn nf nx tA tB eb).au.ak.length fU) ((((Ex.fn nf nx tA tB eb).au.ak.set 1 (bM (cO cx (bu cx ag n)))).set 2 (bM (cO cx (bu cx ag (bu cx ag n+1)))))),fun(G:List Nat) (vs:List Value) (ww:World)=>(∀q,q∈G2->q∈G)∧jf G w ww br ag (bu cx ag (bu cx ag n+1)+1) gb w1.heap.size (.slice (some ⟨gb,0,none⟩) (Ex.fn nf nx tA tB eb).au.ak.length fU) ((((Ex.fn nf nx tA tB eb).au.ak.set 1 (bM (cO cx (bu cx ag n)))).set 2 (bM (cO cx (bu cx ag (bu cx ag n+1))))))∧LP w.heap.size G G2 ww 9 (vs.getD 0 undef) (ρ.map Prod.fst),fun(G:List Nat) (vs:List Value) (ww:World)=>G=G2∧jf G2 w ww br ag (bu cx ag (bu cx ag n+1)+1) gb w1.heap.size (.slice (some ⟨gb,0,none⟩) (Ex.fn nf nx tA tB eb).au.ak.length fU) ((((Ex.fn nf nx tA tB eb).au.ak.set 1 (bM (cO cx (bu cx ag n)))).set 2 (bM (cO cx (bu cx ag (bu cx ag n+1))))))∧bf G2 ww (vs.getD 1 undef) ((ρ.map Prod.fst)++[nf,nx])] de rfl aS.cF (by exact⟨λG v w G' w' ⟨bb,e,h0,h⟩ k=>⟨bb,e,h0,h.go k⟩,λG v w G' w' h k=>bf.go h k,trivial⟩) (by exact⟨λG vs w w' ⟨h1,h2⟩ k=>⟨h1,h2.ext k⟩,λG vs w w' ⟨h1,h2,h3⟩ k=>⟨h1,h2.ext k,h3.ext k⟩,λG vs w w' ⟨h1,h2,h3⟩ k=>⟨h1,h2.ext k,h3.ext k⟩,trivial⟩) (⟨rfl,aS⟩)
  refine vf (λx rf KL aT H0 H2=>?_) ?_
  refine gA bg ba λDx zJ ahE ahF=>?_
  exact ff zJ (⟨_,rfl,(by have h1:=H0.aF.size;omega),ahE.o H2⟩)
  refine FA ?_
  refine ve 0 (λx rf KL aT H0 H2 hJ hlen=>?_) ?_
  have aX:=jw hlen
  subst aX
  have fA:=fA.go H0
  intro v0 d0
  obtain⟨bb,e6,Dt,fT⟩:=d0
  subst e6
  obtain⟨bS,aS⟩:=hJ
  obtain rfl:G2=KL:=bS.symm
  refine HK (N:=w.heap.size) bg ba rfl rfl rfl rfl rfl rfl fT Dt fA aS.cF om λv9 Dx G9 kO wA cV eE qu=>?_
  exact fe G9 cV eE (⟨kO,aS.out cV qu ⟨gd.1,gd.2.1,gd.2.2⟩ ⟨kO _ gd.1,kO _ gd.2.1,kO _ gd.2.2⟩ eE,wA⟩)
  refine FA ?_
  refine vf (λ_ _ _ _ _ _=>zi (i:=1) cD aM rfl rfl ((show 1<6 from om)) fv) ?_
  refine FA ?_
  refine vf (λ_ _ _ _ _ _=>zi (i:=2) cD aM rfl rfl ((show 2<6 from om)) fv) ?_
  refine FA ?_
  refine vf (λx rf KL aT H0 H2=>?_) ?_
  refine lk bg ba rfl rfl rfl rfl ?_
  intro Dx zJ ahG ahF
  exact ff zJ (aK.dO [nf,nx] ahG (λhx=>by have:=H2 _ hx;omega))
  refine ve 1 (λx rf KL aT H0 H2 hJ hlen=>?_) ?_
  obtain⟨q0,aX⟩:=jx hlen
  subst aX
  intro H3 d13
  obtain⟨kf,aS,HZ⟩:=hJ
  refine Ks bg ba rfl rfl rfl rfl rfl rfl HZ d13 aS.cF kf so λv9 Dx jN cV eE qu=>?_
  exact fe G2 cV eE (⟨rfl,aS.out cV qu ⟨gd.1,gd.2.1,gd.2.2⟩ ⟨gd.1,gd.2.1,gd.2.2⟩ eE,jN⟩)
  exact trivial
  intro x OJ ahH aT Wo aqC hJ hlen
  obtain⟨q0,q1,aX⟩:=lO hlen
  subst aX
  intro v0 d0
  intro H3 d13
  have ek:=ek.go Wo;have kB:=kB.go Wo
  change OW _ _ _ _ _ (bo (bm _ x _) (zZ 113 [_,_,_,_,_,_,_,_,_,_,_,_,_,_,_])) _
  obtain⟨bS,aS,rQ⟩:=hJ
  obtain rfl:G2=ahH:=bS.symm
  refine zA<|aV<|jF<|gA bg ba λahD OK OL aqD=>?_
  have cX:=aS.cF
  have yV:=aS.kb.size
  refine gY OK aS ek kB rQ λaS ek kB rQ=>?_
  have rh:=OL.o cX
  refine zm<|HK (N:=w.heap.size) bg ba rfl rfl rfl rfl rfl rfl rh om ek aS.cF om λv9 aqE G9 kO wA cV eE qu=>?_
  have aS:=aS.out cV qu ⟨gd.1,gd.2.1,gd.2.2⟩ ⟨kO _ gd.1,kO _ gd.2.1,kO _ gd.2.2⟩ eE
  have kB:=kB.go cV;have rQ:=rQ.go cV
  refine zm<|zm<|lk bg ba rfl rfl rfl rfl λaqF ahI ahJ aqG=>gY ahI kB rQ wA aS λkB rQ wA aS=>?_
  refine Ks bg ba rfl rfl rfl rfl rfl rfl wA (aK.dO [(cO cx (bu cx ag n)),(cO cx (bu cx ag (bu cx ag n+1)))] ahJ (λhx=>by have:=eE _ hx;omega)) aS.cF kO (show(ρ.map Prod.snd).length+2<100000000 from om) λv10 aqH xY cV Fs qu=>?_
  have aS:=aS.out cV qu ⟨gd.1,gd.2.1,gd.2.2⟩ ⟨gd.1,gd.2.1,gd.2.2⟩ Fs
  have kB:=kB.go cV;have rQ:=rQ.go cV
  refine W ?_
  exact⟨(_,_),⟨rfl,rfl,rfl,rfl,rfl,rfl,rfl,rfl⟩,⟨kB,aS,by show bf G2 _ _ ((ρ++_).map Prod.fst);rw[List.map_append];exact rQ,by show bf G2 _ _ ((ρ++_).map Prod.snd);rw[List.map_append];exact xY⟩⟩
  have rO:e.head≠gV:=λhh=>h4 (ju.trans hh)
  have tF:=ahq ag n bh eF rO
  have rR:=Wd eF Fq rO
  refine gT ?_
  exact⟨(_,_),⟨rfl,rfl,rfl,rfl,rfl,rfl,rfl,rfl⟩,⟨kB,by rw[tF.2,tF.1,show ml [bM e.head] [] e=e.au.ak from by rw[rR];simp[ml]];exact aS,by rw[Wb ag ρ n rO];exact fA,by rw[Wb ag ρ n rO];exact ek⟩⟩
  intro gu w7 e7 hI
  obtain⟨vf2,Df⟩:=gu
  dsimp only at hI⊢
  obtain⟨kB,aS,fA,ek⟩:=hI
  have aO:=aO.go kB;have aG:=aG.go kB;have cT:=cT.go kB
  refine j3<|zr<|zm<|zA<|aV<|sV ?_
  refine dR (λk:Nat=>[(1,vf2),(2,Df),(3,.pointer (some ⟨br,0,none⟩)),(4,.pointer (some ⟨w.heap.size,0,none⟩)),(8,.pointer (some ⟨w1.heap.size,0,none⟩)),(9,.pointer (some ⟨w4.heap.size,0,none⟩)),(11,.int .i64 ((e.from+e.kids.length:Nat):Int)),(15,.int .i64 ((e.from+k:Nat):Int))]) (λk ww=>Fr G2 w7 G2 ww∧jf G2 w ww br ag ((kA ag (jr ag ρ n e) e (nF ag n e) k).2) gb w1.heap.size (.slice (some ⟨gb,0,none⟩) e.au.ak.length fU) (ml (xS ag n e) (kA ag (jr ag ρ n e) e (nF ag n e) k).1 e)∧k<=e.kids.length) (λk=>e.kids.length-k) (0) (⟨rfl,rfl,rfl,rfl,rfl,rfl,rfl,rfl⟩) (⟨Fr.refl _ _,aS,om⟩) ?_
  intro gg w8 e8 hI
  obtain⟨pM,aS,hk⟩:=hI
  have aO:=aO.go pM;have fA:=fA.go pM;have ek:=ek.go pM;have aG:=aG.go pM;have cT:=cT.go pM
  refine j3<|zr<|zm<|zm<|Jd rfl rfl rfl rfl rfl<|aV<|zc rfl (λh5=>?_) (λh5=>?_)
  have ic:gg<e.kids.length:=om
  have qS:=oX gg ic
  obtain⟨b1,eX,gR,gF,e1,bK,cN⟩:=fg aO (i:=e.from+gg) om
  cases e1
  have cN:=cN.eq qS
  have uO:=GU bh ic
  have eM:=Wa ag (jr ag ρ n e) e (nF ag n e) gg
  have BO:=Wh ag (jr ag ρ n e) e (nF ag n e) gg om
  have Cv:=zC ic
  have kQ:=ahs ag ρ n eF Fq ic oN mQ BO.2
  refine gT<|j3<|sV ?_
  apply jV dv G2 13 (rA 141 13) (rA 141 13) [[],[0],[],[],[3],[],[4,5],[6],[],[],[],(rA 7 4),[1,2]] [Ie.v _,Ie.v _,Ie.v _,Ie.v _,Ie.v _,Ie.v _,Ie.v _,Ie.v _,Ie.v _,Ie.v _,Ie.v _,Ie.e 0,Ie.v _] [11] [fun(G:List Nat) (vs:List Value) (ww:World)=>G=G2∧jf G2 w ww br ag ((kA ag (jr ag ρ n e) e (nF ag n e) gg).2) gb w1.heap.size (.slice (some ⟨gb,0,none⟩) e.au.ak.length fU) (ml (xS ag n e) (kA ag (jr ag ρ n e) e (nF ag n e) gg).1 e),fun(G:List Nat) (vs:List Value) (ww:World)=>G=G2∧jf G2 w ww br ag ((kA ag (jr ag ρ n e) e (nF ag n e) (gg+1)).2) gb w1.heap.size (.slice (some ⟨gb,0,none⟩) e.au.ak.length fU) (ml (xS ag n e) (kA ag (jr ag ρ n e) e (nF ag n e) gg).1 e)∧bC G2 ww (vs.getD 0 undef) (bL ag (fZ e gg) (jr ag ρ n e) (kA ag (jr ag ρ n e) e (nF ag n e) gg).2).1.au] de rfl aS.cF (by exact trivial) (by exact⟨λG vs w w' ⟨h1,h2⟩ k=>⟨h1,h2.ext k⟩,λG vs w w' ⟨h1,h2,h3⟩ k=>⟨h1,h2.ext k,h3.ext k⟩,trivial⟩) (⟨rfl,aS⟩)
  refine vf (λ_ _ _ _ _ _=>zf jI rfl fv) ?_
  refine vf (λx w9 G9 aT cV nD=>?_) ?_
  have cT:=cT.go cV
  refine WZ ?_
  exact fv
  refine FA ?_
  refine ve 0 (λx w9 G9 aT cV nD hJ hlen=>?_) ?_
  have aX:=jw hlen
  subst aX
  have fA:=fA.go cV;have ek:=ek.go cV;have cN:=cN.go cV
  obtain⟨bS,aS⟩:=hJ
  obtain rfl:G2=G9:=bS.symm
  refine aA (ih (fZ e gg) om om uO.1 (jr ag ρ n e) (kA ag (jr ag ρ n e) e (nF ag n e) gg).2 kQ.1 kQ.2 _ _ _ br G2 w9 cN fA ek aS.rn aS.cF) ?_
  rintro Dr cv ⟨⟨dy,HX⟩,aB⟩
  exact fe G2 (Fr.of aB aS.ow) ((λq hq=>lL (aS.cF q hq) aB.size)) (⟨rfl,aS.call HX aB,dy⟩)
  exact FZ
  intro x mm KM aT Ft OM hJ hlen
  obtain⟨q0,aX⟩:=jx hlen
  subst aX
  have pM:=pM.go Ft
  change OW _ _ _ _ _ (bo (bm _ x _) (zZ 141 [_,_,_,_,_,_,_,_,_,_,_,_,_])) _
  obtain⟨bS,aS,dy⟩:=hJ
  obtain rfl:G2=KM:=bS.symm
  obtain⟨a7,n7,c7,e7,_,_⟩:=cY dy
  have e8:q0=_:=e7
  subst e8
  have Ar:(ml (xS ag n e) (kA ag (jr ag ρ n e) e (nF ag n e) gg).1 e).set (e.from+gg) (bL ag (fZ e gg) (jr ag ρ n e) (kA ag (jr ag ρ n e) e (nF ag n e) gg).2).1.au=ml (xS ag n e) (kA ag (jr ag ρ n e) e (nF ag n e) (gg+1)).1 e:=(by have:=We (pre:=(xS ag n e)) (acc:=(kA ag (jr ag ρ n e) e (nF ag n e) gg).1) (e:=e) (y:=(bL ag (fZ e gg) (jr ag ρ n e) (kA ag (jr ag ρ n e) e (nF ag n e) gg).2).1) om;rw[Wn,eM] at this;exact this)
  refine tM (i:=e.from+gg) (vs:=[str (bL ag (fZ e gg) (jr ag ρ n e) (kA ag (jr ag ρ n e) e (nF ag n e) gg).2).1.au.aw,.slice a7 n7 c7]) (row:=(bL ag (fZ e gg) (jr ag ρ n e) (kA ag (jr ag ρ n e) e (nF ag n e) gg).2).1.au.enc) aM rfl rfl rfl rfl (Nat.zero_add _) aS.own aS.cF aS.mem.1 (by rw[iz,Wf om,Wn];omega) rfl (ph _) (show bC G2 _ (.agg #[_,_]) _ from dy).kG λoZ iY sC dm=>?_
  rw[tP,Ar] at dm
  have pM:=pM.aD iY aS.js
  have aS:=aS.store iY dm
  refine W ?_
  exact⟨gg+1,⟨rfl,rfl,rfl,rfl,rfl,rfl,rfl,congrArg (Value.int .i64) om⟩,⟨pM,aS,om⟩,om⟩
  have fG:gg=e.kids.length:=by omega
  subst fG
  have eM:=Wa ag (jr ag ρ n e) e (nF ag n e) e.kids.length
  refine W ?_
  refine cL aM rfl rfl rfl aS.bx rfl λw9 aB db kX=>?_
  subst zF
  obtain⟨sD,sE,wG⟩:=aS.fin hG Dq.mem aB
  rw[Wg eM,<-Wm.1] at sD
  rw[<-Wm.2] at sE
  refine W ?_
  exact⟨[_],gC fc aM rfl db rfl,⟨sD,sE⟩,wG⟩
end Go.Proofs.YthbhobaiopccaaaGreatDoor
