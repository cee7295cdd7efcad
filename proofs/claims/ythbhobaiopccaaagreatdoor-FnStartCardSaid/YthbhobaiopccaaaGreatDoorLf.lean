/- Lemmas for the law FnStart, no statement of their own: no conditions. -/
import Derived.Test.YthbhobaiopccaaaGreatDoorLe
set_option maxHeartbeats 4000000
set_option linter.unusedVariables false
set_option linter.unusedSimpArgs false
namespace Go.Proofs.YthbhobaiopccaaaGreatDoor
open Go
variable {E N bytes i k n sz t:Nat} {u v z:Value} {G G' G0 L:List Nat} {w w':World} {g:Option Nat} {xs ys:List ai} {rows:List (List C)} {s:ai} {e:Ex}
theorem afv (h:ai):((dS h).1=0∧(dS h).2=0)∨((dS h).1=1∧(dS h).2=2)∨((dS h).1=1∧(dS h).2=3)∨((dS h).1=1∧(dS h).2=4)∨((dS h).1=2∧(dS h).2=4)∨((dS h).1=5∧(dS h).2=6):=by
 unfold dS
 split
 ·simp
 ·split
  ·simp
  ·split
   ·simp
   ·split
    ·simp
    ·split<;>simp
theorem afw {ps:List au} {f:au->Bool} (h:∀j,k<=j->j<ps.length->f (nth ps j)=true):(ps.drop k).all f=true:=by
 rw[List.all_eq_true]
 intro c hc
 obtain⟨i,hi⟩:=List.mem_iff_getElem?.1 hc
 rw[List.getElem?_drop] at hi
 have hl:=(List.getElem?_eq_some_iff.1 hi).1
 have:=h (k+i) om hl
 rw[fK hl] at hi
 cases hi
 exact this
theorem afx {ps:List au} {j:Nat} {f:au->Bool} (h1:k<=j) (h2:j<ps.length) (h:f (nth ps j)=false):(ps.drop k).all f=false:=by
 rw[List.all_eq_false]
 refine⟨nth ps j,?_,by rw[h];simp⟩
 rw[List.mem_iff_getElem?]
 refine⟨j-k,?_⟩
 rw[List.getElem?_drop,show k+(j-k)=j by omega]
 exact fK h2
def B7 (ps:List au):Bool:=dN (nth ps 2).aw&&decide ((nth ps 1).aw≠(nth ps 2).aw)&&jQ (nth ps 3)&&jQ (nth ps 4)
theorem afy (ps:List au) (k:Nat):k≠5∨(k=5∧dN (nth ps 2).aw=false)∨(k=5∧dN (nth ps 2).aw=true∧(nth ps 1).aw=(nth ps 2).aw)∨(k=5∧dN (nth ps 2).aw=true∧(nth ps 1).aw≠(nth ps 2).aw∧jQ (nth ps 3)=false)∨
  (k=5∧dN (nth ps 2).aw=true∧(nth ps 1).aw≠(nth ps 2).aw∧jQ (nth ps 3)=true∧jQ (nth ps 4)=false)∨(k=5∧dN (nth ps 2).aw=true∧(nth ps 1).aw≠(nth ps 2).aw∧jQ (nth ps 3)=true∧jQ (nth ps 4)=true):=by
 by_cases h5:k=5
 ·right
  cases h2:dN (nth ps 2).aw
  ·exact .inl ⟨h5,rfl⟩
  ·right
   by_cases he:(nth ps 1).aw=(nth ps 2).aw
   ·exact .inl ⟨h5,rfl,he⟩
   ·right
    cases h3:jQ (nth ps 3)
    ·exact .inl ⟨h5,rfl,he,rfl⟩
    ·right
     cases h4:jQ (nth ps 4)
     ·exact .inl ⟨h5,rfl,he,rfl,rfl⟩
     ·exact .inr ⟨h5,rfl,he,rfl,rfl⟩
 ·exact .inl h5
theorem afz:∀(m:Nat) (t:au),t.size<=m->t.size<=10000000->WF t->∀(v:Value) (L:List Nat) (w:World),bC L w v t->
  bz Tryz.prog 151 [v] w λr w'=>r= .bool (dw t)∧aj [] w w':=by
 intro m
 induction m with
 |zero=>intro t h;have:=vL t;omega
 |succ m ih=>
  intro t hm mJ cL v L w hv
  obtain⟨a,n,c,rfl,hn,aQ⟩:=dj hv
  subst hn
  have hK:=aj.refl [] w
  have mH:=xz t
  refine bX [.tmp 2] 105 Tryz.func151 rfl aa8 rfl rfl ?_
  refine zr<|eu rfl ?_
  intro w1 aI aW db
  have hK:=hK.ext aI;have aQ:=aQ.ext aI
  refine zA<|aZ<|jq<|zr<|zf kY rfl<|zl fA rfl (aW.at rfl)<|H2 rfl rfl rfl rfl<|aZ<|zc rfl (λh1=>?_) (λh1=>?_)
  have hq:dw t=p9 t.aw:=by rw[T1,iP h1]
  refine zr<|zf kY rfl<|zl fA rfl (aW.at rfl)<|aA (IW _ _) ?_
  rintro _ _ ⟨rfl,rfl⟩
  refine zm<|zx (i:=0) rfl rfl<|zx (i:=1) rfl rfl<|zA<|zA<|aZ<|zr<|zm<|zm ?_
  apply Bj 4 18 22 [18,19,20,21,22] (λw'=>w1=w') rfl
  intro h2
  replace h2:=jG h2
  refine zs<|zs<|zs<|zp rfl<|aZ ?_
  exact mg rfl rfl
  intro h2
  replace h2:=jG h2
  refine zf kY rfl<|zl fA rfl (aW.at rfl)<|aA (uM _ _) ?_
  rintro _ _ ⟨rfl,rfl⟩
  refine zp rfl<|aZ ?_
  exact mg rfl rfl
  rintro xx _ rfl
  refine zA<|aZ<|jJ ?_
  exact⟨_,rfl,by rw[hq];rfl,hK⟩
  have ha:t.aw=[]:=Classical.not_not.1 h1
  have jS:=cL.pos ha
  have hq:=afj ha
  obtain⟨b,off,pa,pn,pc,rfl,er,eT,fD⟩:=ik aQ (fK jS)
  have ka:=afv (nth t.ak 0).aw
  refine gz<|zr<|zf jt rfl<|zl iG rfl (aW.at rfl)<|zi (i:=0) cB aL rfl rfl om<|zf kY rfl<|zl fA rfl (er 0 _ rfl)<|aA (Jj _ _) ?_
  rintro _ _ ⟨rfl,rfl⟩
  refine zm<|zx (i:=0) rfl rfl<|zx (i:=1) rfl rfl<|zA<|zA<|aZ<|jq<|zr<|zm<|uj rfl rfl rfl rfl rfl<|zm ?_
  apply Bj 6 34 40 [34,35,36,37,38,39,40] (λw'=>w1=w') rfl
  intro h3
  replace h3:=jG h3
  refine zs<|zs<|zs<|zs<|zs<|zp rfl<|aZ ?_
  exact mg rfl rfl
  intro h3
  replace h3:=jG h3
  refine zf jt rfl<|zl iG rfl (aW.at rfl)<|Dm cB rfl rfl rfl<|zm<|E8 rfl rfl rfl rfl rfl<|zp rfl<|aZ ?_
  exact mg rfl rfl
  rintro xx _ rfl
  refine aZ<|zc rfl (λh4=>?_) (λh4=>?_)
  have hz:dw t=false:=(by rw[hq];simp only[oE,dE] at h4;rcases h4 with h|h;(·rw[show decide ((dS (nth t.ak 0).aw).1≠0)=false from dF om];rfl);(·rw[show decide (t.ak.length=(dS (nth t.ak 0).aw).2)=false from dF om];simp))
  refine zr<|zA<|aZ<|jJ ?_
  exact⟨_,rfl,by rw[hz];rfl,hK⟩
  have fU:(dS (nth t.ak 0).aw).1≠0∧t.ak.length=(dS (nth t.ak 0).aw).2:=(by simp only[Bool.or_eq_false_iff,decide_eq_false_iff_not] at h4;omega)
  obtain⟨fU,fZ⟩:=fU
  have B8:dw t=(D8 t.ak&&(t.ak.drop (dS (nth t.ak 0).aw).1).all dw):=by rw[hq,dT fU,dT fZ];rfl
  refine gz<|jq<|zr<|zm<|E7 rfl rfl rfl rfl rfl<|zm ?_
  apply KV 8 43 51 [43,44,45,46,47,48,49,50,51] (λw'=>w1=w') rfl
  intro h5
  replace h5:=jG h5
  have Am:1<t.ak.length:=(by have h7:=h5;omega)
  obtain⟨b1,eR,gd,pG,gh,e1,bF,qL,nI⟩:=ik aQ (fK (i:=1) Am)
  cases e1
  refine zf jt rfl<|zl iG rfl (aW.at rfl)<|zi (i:=1) cB aL rfl rfl om<|zf kY rfl<|zl fA rfl (bF 0 _ rfl)<|aA (uM _ _) ?_
  rintro _ _ ⟨rfl,rfl⟩
  refine km rfl rfl rfl<|zp rfl<|aZ ?_
  exact mg rfl rfl
  intro h5
  replace h5:=jG h5
  refine zs<|zs<|zs<|zs<|zs<|zs<|zs<|zp rfl<|aZ ?_
  exact mg rfl rfl
  rintro xx _ rfl
  refine aZ<|zc rfl (λh6=>?_) (λh6=>?_)
  have hz:dw t=false:=(by simp only[aE,dE,Bool.not_eq_true'] at h6;rw[B8];unfold D8;rw[show decide ((dS (nth t.ak 0).aw).1<=1)=false from dF om,h6.2];rfl)
  refine zr<|zA<|aZ<|jJ ?_
  exact⟨_,rfl,by rw[hz];rfl,hK⟩
  have oU:(decide ((dS (nth t.ak 0).aw).1<=1)||dN (nth t.ak 1).aw)=true:=(by simp only[Bool.and_eq_false_iff,decide_eq_false_iff_not,Bool.not_eq_false'] at h6;rcases h6 with h|h;(·rw[dT om];rfl);(·rw[h];simp))
  have nD:dw t=((decide ((dS (nth t.ak 0).aw).1≠5)||B7 t.ak)&&(t.ak.drop (dS (nth t.ak 0).aw).1).all dw):=by rw[B8];unfold D8;rw[oU];rfl
  have Gw:(dS (nth t.ak 0).aw).1=5->t.ak.length=6:=(by intro h;omega)
  have jh:∀i,i<t.ak.length->∃pa pn pc,fQ w1 b (off+i*2) [str (nth t.ak i).aw,.slice pa pn pc]∧bC L w1 (.agg #[str (nth t.ak i).aw,.slice pa pn pc]) (nth t.ak i):=(by intro i hi;obtain⟨b1,eR,gd,pG,gh,e1,bF,qL,nI⟩:=ik aQ (fK hi);cases e1;exact⟨_,_,_,bF,lW nI⟩)
  refine gz<|jq<|jq ?_
  refine iD (λ_:Unit=>[(1,.pointer (some ⟨w.heap.size,0,none⟩)),(5,.int .i64 ((dS (nth t.ak 0).aw).1:Int)),(6,.int .i64 ((dS (nth t.ak 0).aw).2:Int)),(91,.bool (decide ((dS (nth t.ak 0).aw).1=5)&&!B7 t.ak))]) (λ_ w'=>aj [] w w'∧aj [] w1 w') ?_ ?_
  rcases afy t.ak (dS (nth t.ak 0).aw).1 with kM|kM|kM|kM|kM|kM
  apply kD cT 40 (rA 52 40) (rA 52 40) [[],[0],[1],[2],[2,3],[2,4],[2,5],[2,6],[2,7],[2,8],[2,9],[10],[10,11],[10,12],[10,13],[10,14],[10],[10,16],[10,17],[10,18],[10,19],[10,15,20],[2,10,21],[2,22],[23],[23,24],[23,25],[23,26],[23,27],[23,28],[2,23,29],[2,30],[31],[31,32],[31,33],[31,34],[31,35],[31,36],[2,31,37],[2,38]] [It.v _,It.v _,It.v (.bool false),It.v _,It.v _,It.v _,It.v _,It.v _,It.v _,It.v _,It.v _,It.v _,It.v _,It.v _,It.v _,It.v _,It.v _,It.v _,It.v _,It.v _,It.v _,It.v _,It.v _,It.v _,It.v _,It.v _,It.v _,It.v _,It.v _,It.v _,It.v _,It.v _,It.v _,It.v _,It.v _,It.v _,It.v _,It.v _,It.v _,It.v _] de rfl
  intro wd aB
  refine zW ?_
  refine vk aB (λx w2 az=>?_) ?_
  refine uj rfl rfl rfl rfl rfl ?_
  exact pv
  refine vc (λx w2 az=>?_) ?_
  refine zm ?_
  exact pv (by exact congrArg Value.bool (dF om))
  refine vc (λx w2 az=>?_) ?_
  exact cH pv
  refine vk aB (λx w2 az=>?_) ?_
  exact cH pv
  refine vk aB (λx w2 az=>?_) ?_
  exact cH pv
  refine vc (λx w2 az=>?_) ?_
  exact cH pv
  refine vk aB (λx w2 az=>?_) ?_
  exact cH pv
  refine vk aB (λx w2 az=>?_) ?_
  exact cH pv
  refine vc (λx w2 az=>?_) ?_
  exact cH pv
  refine vc (λx w2 az=>?_) ?_
  exact cH pv
  refine vc (λx w2 az=>?_) ?_
  exact cH pv
  refine vk aB (λx w2 az=>?_) ?_
  exact cH pv
  refine vk aB (λx w2 az=>?_) ?_
  exact cH pv
  refine vc (λx w2 az=>?_) ?_
  exact cH pv
  refine vk aB (λx w2 az=>?_) ?_
  exact cH pv
  refine vc (λx w2 az=>?_) ?_
  exact cH pv
  refine vk aB (λx w2 az=>?_) ?_
  exact cH pv
  refine vk aB (λx w2 az=>?_) ?_
  exact cH pv
  refine vc (λx w2 az=>?_) ?_
  exact cH pv
  refine vk aB (λx w2 az=>?_) ?_
  exact cH pv
  refine vk aB (λx w2 az=>?_) ?_
  exact cH pv
  refine vc (λx w2 az=>?_) ?_
  exact cH pv
  refine vc (λx w2 az=>?_) ?_
  exact cH pv
  refine vc (λx w2 az=>?_) ?_
  exact cH pv
  refine vk aB (λx w2 az=>?_) ?_
  exact cH pv
  refine vk aB (λx w2 az=>?_) ?_
  exact cH pv
  refine vk aB (λx w2 az=>?_) ?_
  exact cH pv
  refine vk aB (λx w2 az=>?_) ?_
  exact cH pv
  refine vc (λx w2 az=>?_) ?_
  exact cH pv
  refine vc (λx w2 az=>?_) ?_
  exact cH pv
  refine vc (λx w2 az=>?_) ?_
  exact cH pv
  refine vc (λx w2 az=>?_) ?_
  exact cH pv
  refine vk aB (λx w2 az=>?_) ?_
  exact cH pv
  refine vk aB (λx w2 az=>?_) ?_
  exact cH pv
  refine vk aB (λx w2 az=>?_) ?_
  exact cH pv
  refine vk aB (λx w2 az=>?_) ?_
  exact cH pv
  refine vc (λx w2 az=>?_) ?_
  exact cH pv
  refine vc (λx w2 az=>?_) ?_
  exact cH pv
  refine vc (λ_ _ _=>zp rfl pv) ?_
  exact trivial
  intro x nO gi
  have hK:=hK.ext gi
  change OW _ _ _ _ [] (bm (bg _ x _) (zZ 52 [_,_,_,_,_,_,_,_,_,_,_,_,_,_,_,_,_,_,_,_,_,_,_,_,_,_,_,_,_,_,_,_,_,_,_,_,_,_,_,_])) _
  refine aZ ?_
  exact⟨(),⟨rfl,rfl,rfl,congrArg Value.bool (show false=_ from by rw[dF kM];rfl)⟩,hK,gi⟩
  obtain⟨h5,h2⟩:=kM
  have h6:=Gw h5
  obtain⟨iA,Ay,iB,bU,dG⟩:=jh 2 om
  apply kD cT 40 (rA 52 40) (rA 52 40) [[],[0],[1],[2],[2,3],[2,4],[2,5],[2,6],[2,7],[2,8],[2,9],[10],[10,11],[10,12],[10,13],[10,14],[10],[10,16],[10,17],[10,18],[10,19],[10,15,20],[2,10,21],[2,22],[23],[23,24],[23,25],[23,26],[23,27],[23,28],[2,23,29],[2,30],[31],[31,32],[31,33],[31,34],[31,35],[31,36],[2,31,37],[2,38]] [It.v _,It.v _,It.v (.bool true),It.v _,It.v _,It.v _,It.v _,It.v _,It.v _,It.v _,It.v (.bool true),It.v _,It.v _,It.v _,It.v _,It.v _,It.v _,It.v _,It.v _,It.v _,It.v _,It.v _,It.v _,It.v (.bool true),It.v _,It.v _,It.v _,It.v _,It.v _,It.v _,It.v _,It.v (.bool true),It.v _,It.v _,It.v _,It.v _,It.v _,It.v _,It.v _,It.v _] de rfl
  intro wd aB
  refine zW ?_
  refine vk aB (λx w2 az=>?_) ?_
  refine uj rfl rfl rfl rfl rfl ?_
  exact pv
  refine vc (λx w2 az=>?_) ?_
  refine zm ?_
  exact pv (by exact congrArg Value.bool (dT om))
  refine vc (λ_ _ _=>zf jt rfl pv) ?_
  refine vk aB (λx w2 az=>?_) ?_
  have aW:=aW.ext az
  refine zl iG rfl (aW.at rfl) ?_
  exact pv
  refine vk aB (λx w2 az=>?_) ?_
  refine zi (i:=2) cB aL rfl rfl om ?_
  exact pv
  refine vc (λ_ _ _=>zf kY rfl pv) ?_
  refine vk aB (λx w2 az=>?_) ?_
  have bU:=bU.ext az
  refine zl fA rfl (bU 0 _ rfl) ?_
  exact pv
  refine vk aB (λx w2 az=>?_) ?_
  refine aA (uM _ _) ?_
  rintro _ _ ⟨rfl,rfl⟩
  exact pv
  refine vc (λ_ _ _=>km rfl rfl rfl pv) ?_
  refine vc (λx w2 az=>?_) ?_
  refine zm ?_
  exact pv (by exact congrArg Value.bool (show(!dN (nth t.ak 2).aw)=true from by rw[h2];rfl))
  refine vc (λx w2 az=>?_) ?_
  exact cH pv
  refine vk aB (λx w2 az=>?_) ?_
  exact cH pv
  refine vk aB (λx w2 az=>?_) ?_
  exact cH pv
  refine vc (λx w2 az=>?_) ?_
  exact cH pv
  refine vk aB (λx w2 az=>?_) ?_
  exact cH pv
  refine vc (λx w2 az=>?_) ?_
  exact cH pv
  refine vk aB (λx w2 az=>?_) ?_
  exact cH pv
  refine vk aB (λx w2 az=>?_) ?_
  exact cH pv
  refine vc (λx w2 az=>?_) ?_
  exact cH pv
  refine vk aB (λx w2 az=>?_) ?_
  exact cH pv
  refine vk aB (λx w2 az=>?_) ?_
  exact cH pv
  refine vc (λ_ _ _=>zp rfl pv) ?_
  refine vc (λx w2 az=>?_) ?_
  refine zm ?_
  exact pv (by exact rfl)
  refine vc (λx w2 az=>?_) ?_
  exact cH pv
  refine vk aB (λx w2 az=>?_) ?_
  exact cH pv
  refine vk aB (λx w2 az=>?_) ?_
  exact cH pv
  refine vk aB (λx w2 az=>?_) ?_
  exact cH pv
  refine vk aB (λx w2 az=>?_) ?_
  exact cH pv
  refine vc (λx w2 az=>?_) ?_
  exact cH pv
  refine vc (λ_ _ _=>zp rfl pv) ?_
  refine vc (λx w2 az=>?_) ?_
  refine zm ?_
  exact pv (by exact rfl)
  refine vc (λx w2 az=>?_) ?_
  exact cH pv
  refine vk aB (λx w2 az=>?_) ?_
  exact cH pv
  refine vk aB (λx w2 az=>?_) ?_
  exact cH pv
  refine vk aB (λx w2 az=>?_) ?_
  exact cH pv
  refine vk aB (λx w2 az=>?_) ?_
  exact cH pv
  refine vc (λx w2 az=>?_) ?_
  exact cH pv
  refine vc (λ_ _ _=>zp rfl pv) ?_
  refine vc (λ_ _ _=>zp rfl pv) ?_
  exact trivial
  intro x nO gi
  have hK:=hK.ext gi
  change OW _ _ _ _ [] (bm (bg _ x _) (zZ 52 [_,_,_,_,_,_,_,_,_,_,_,_,_,_,_,_,_,_,_,_,_,_,_,_,_,_,_,_,_,_,_,_,_,_,_,_,_,_,_,_])) _
  refine aZ ?_
  exact⟨(),⟨rfl,rfl,rfl,congrArg Value.bool (show true=_ from by unfold B7;rw[dT h5,h2];rfl)⟩,hK,gi⟩
  obtain⟨h5,h2,kC⟩:=kM
  have h6:=Gw h5
  obtain⟨gd,pG,gh,bF,cK⟩:=jh 1 om
  obtain⟨iA,Ay,iB,bU,dG⟩:=jh 2 om
  apply kD cT 40 (rA 52 40) (rA 52 40) [[],[0],[1],[2],[2,3],[2,4],[2,5],[2,6],[2,7],[2,8],[2,9],[10],[10,11],[10,12],[10,13],[10,14],[10],[10,16],[10,17],[10,18],[10,19],[10,15,20],[2,10,21],[2,22],[23],[23,24],[23,25],[23,26],[23,27],[23,28],[2,23,29],[2,30],[31],[31,32],[31,33],[31,34],[31,35],[31,36],[2,31,37],[2,38]] [It.v _,It.v _,It.v (.bool true),It.v _,It.v _,It.v _,It.v _,It.v _,It.v _,It.v _,It.v (.bool false),It.v _,It.v _,It.v _,It.v _,It.v _,It.v _,It.v _,It.v _,It.v _,It.v _,It.v _,It.v _,It.v (.bool true),It.v _,It.v _,It.v _,It.v _,It.v _,It.v _,It.v _,It.v (.bool true),It.v _,It.v _,It.v _,It.v _,It.v _,It.v _,It.v _,It.v _] de rfl
  intro wd aB
  refine zW ?_
  refine vk aB (λx w2 az=>?_) ?_
  refine uj rfl rfl rfl rfl rfl ?_
  exact pv
  refine vc (λx w2 az=>?_) ?_
  refine zm ?_
  exact pv (by exact congrArg Value.bool (dT om))
  refine vc (λ_ _ _=>zf jt rfl pv) ?_
  refine vk aB (λx w2 az=>?_) ?_
  have aW:=aW.ext az
  refine zl iG rfl (aW.at rfl) ?_
  exact pv
  refine vk aB (λx w2 az=>?_) ?_
  refine zi (i:=2) cB aL rfl rfl om ?_
  exact pv
  refine vc (λ_ _ _=>zf kY rfl pv) ?_
  refine vk aB (λx w2 az=>?_) ?_
  have bU:=bU.ext az
  refine zl fA rfl (bU 0 _ rfl) ?_
  exact pv
  refine vk aB (λx w2 az=>?_) ?_
  refine aA (uM _ _) ?_
  rintro _ _ ⟨rfl,rfl⟩
  exact pv
  refine vc (λ_ _ _=>km rfl rfl rfl pv) ?_
  refine vc (λx w2 az=>?_) ?_
  refine zm ?_
  exact pv (by exact congrArg Value.bool (show(!dN (nth t.ak 2).aw)=false from by rw[h2];rfl))
  refine vc (λ_ _ _=>zf jt rfl pv) ?_
  refine vk aB (λx w2 az=>?_) ?_
  have aW:=aW.ext az
  refine zl iG rfl (aW.at rfl) ?_
  exact pv
  refine vk aB (λx w2 az=>?_) ?_
  refine zi (i:=1) cB aL rfl rfl om ?_
  exact pv
  refine vc (λ_ _ _=>zf kY rfl pv) ?_
  refine vk aB (λx w2 az=>?_) ?_
  have bF:=bF.ext az
  refine zl fA rfl (bF 0 _ rfl) ?_
  exact pv
  refine vc (λ_ _ _=>zf jt rfl pv) ?_
  refine vk aB (λx w2 az=>?_) ?_
  have aW:=aW.ext az
  refine zl iG rfl (aW.at rfl) ?_
  exact pv
  refine vk aB (λx w2 az=>?_) ?_
  refine zi (i:=2) cB aL rfl rfl om ?_
  exact pv
  refine vc (λ_ _ _=>zf kY rfl pv) ?_
  refine vk aB (λx w2 az=>?_) ?_
  have bU:=bU.ext az
  refine zl fA rfl (bU 0 _ rfl) ?_
  exact pv
  refine vk aB (λx w2 az=>?_) ?_
  refine Bh rfl rfl rfl rfl ?_
  exact pv
  refine vc (λ_ _ _=>zp rfl pv) ?_
  refine vc (λx w2 az=>?_) ?_
  refine zm ?_
  exact pv (by exact congrArg Value.bool (dT kC))
  refine vc (λx w2 az=>?_) ?_
  exact cH pv
  refine vk aB (λx w2 az=>?_) ?_
  exact cH pv
  refine vk aB (λx w2 az=>?_) ?_
  exact cH pv
  refine vk aB (λx w2 az=>?_) ?_
  exact cH pv
  refine vk aB (λx w2 az=>?_) ?_
  exact cH pv
  refine vc (λx w2 az=>?_) ?_
  exact cH pv
  refine vc (λ_ _ _=>zp rfl pv) ?_
  refine vc (λx w2 az=>?_) ?_
  refine zm ?_
  exact pv (by exact rfl)
  refine vc (λx w2 az=>?_) ?_
  exact cH pv
  refine vk aB (λx w2 az=>?_) ?_
  exact cH pv
  refine vk aB (λx w2 az=>?_) ?_
  exact cH pv
  refine vk aB (λx w2 az=>?_) ?_
  exact cH pv
  refine vk aB (λx w2 az=>?_) ?_
  exact cH pv
  refine vc (λx w2 az=>?_) ?_
  exact cH pv
  refine vc (λ_ _ _=>zp rfl pv) ?_
  refine vc (λ_ _ _=>zp rfl pv) ?_
  exact trivial
  intro x nO gi
  have hK:=hK.ext gi
  change OW _ _ _ _ [] (bm (bg _ x _) (zZ 52 [_,_,_,_,_,_,_,_,_,_,_,_,_,_,_,_,_,_,_,_,_,_,_,_,_,_,_,_,_,_,_,_,_,_,_,_,_,_,_,_])) _
  refine aZ ?_
  exact⟨(),⟨rfl,rfl,rfl,congrArg Value.bool (show true=_ from by unfold B7;rw[dT h5,h2,dF (λh=>h kC)];rfl)⟩,hK,gi⟩
  obtain⟨h5,h2,kC,h3⟩:=kM
  have h6:=Gw h5
  obtain⟨gd,pG,gh,bF,cK⟩:=jh 1 om
  obtain⟨iA,Ay,iB,bU,dG⟩:=jh 2 om
  obtain⟨pM,Ue,pN,dM,dW⟩:=jh 3 om
  have eU:=kX (t:=t) (i:=3) om
  apply kD cT 40 (rA 52 40) (rA 52 40) [[],[0],[1],[2],[2,3],[2,4],[2,5],[2,6],[2,7],[2,8],[2,9],[10],[10,11],[10,12],[10,13],[10,14],[10],[10,16],[10,17],[10,18],[10,19],[10,15,20],[2,10,21],[2,22],[23],[23,24],[23,25],[23,26],[23,27],[23,28],[2,23,29],[2,30],[31],[31,32],[31,33],[31,34],[31,35],[31,36],[2,31,37],[2,38]] [It.v _,It.v _,It.v (.bool true),It.v _,It.v _,It.v _,It.v _,It.v _,It.v _,It.v _,It.v (.bool false),It.v _,It.v _,It.v _,It.v _,It.v _,It.v _,It.v _,It.v _,It.v _,It.v _,It.v _,It.v _,It.v (.bool false),It.v _,It.v _,It.v _,It.v _,It.v _,It.v _,It.v _,It.v (.bool true),It.v _,It.v _,It.v _,It.v _,It.v _,It.v _,It.v _,It.v _] de rfl
  intro wd aB
  refine zW ?_
  refine vk aB (λx w2 az=>?_) ?_
  refine uj rfl rfl rfl rfl rfl ?_
  exact pv
  refine vc (λx w2 az=>?_) ?_
  refine zm ?_
  exact pv (by exact congrArg Value.bool (dT om))
  refine vc (λ_ _ _=>zf jt rfl pv) ?_
  refine vk aB (λx w2 az=>?_) ?_
  have aW:=aW.ext az
  refine zl iG rfl (aW.at rfl) ?_
  exact pv
  refine vk aB (λx w2 az=>?_) ?_
  refine zi (i:=2) cB aL rfl rfl om ?_
  exact pv
  refine vc (λ_ _ _=>zf kY rfl pv) ?_
  refine vk aB (λx w2 az=>?_) ?_
  have bU:=bU.ext az
  refine zl fA rfl (bU 0 _ rfl) ?_
  exact pv
  refine vk aB (λx w2 az=>?_) ?_
  refine aA (uM _ _) ?_
  rintro _ _ ⟨rfl,rfl⟩
  exact pv
  refine vc (λ_ _ _=>km rfl rfl rfl pv) ?_
  refine vc (λx w2 az=>?_) ?_
  refine zm ?_
  exact pv (by exact congrArg Value.bool (show(!dN (nth t.ak 2).aw)=false from by rw[h2];rfl))
  refine vc (λ_ _ _=>zf jt rfl pv) ?_
  refine vk aB (λx w2 az=>?_) ?_
  have aW:=aW.ext az
  refine zl iG rfl (aW.at rfl) ?_
  exact pv
  refine vk aB (λx w2 az=>?_) ?_
  refine zi (i:=1) cB aL rfl rfl om ?_
  exact pv
  refine vc (λ_ _ _=>zf kY rfl pv) ?_
  refine vk aB (λx w2 az=>?_) ?_
  have bF:=bF.ext az
  refine zl fA rfl (bF 0 _ rfl) ?_
  exact pv
  refine vc (λ_ _ _=>zf jt rfl pv) ?_
  refine vk aB (λx w2 az=>?_) ?_
  have aW:=aW.ext az
  refine zl iG rfl (aW.at rfl) ?_
  exact pv
  refine vk aB (λx w2 az=>?_) ?_
  refine zi (i:=2) cB aL rfl rfl om ?_
  exact pv
  refine vc (λ_ _ _=>zf kY rfl pv) ?_
  refine vk aB (λx w2 az=>?_) ?_
  have bU:=bU.ext az
  refine zl fA rfl (bU 0 _ rfl) ?_
  exact pv
  refine vk aB (λx w2 az=>?_) ?_
  refine Bh rfl rfl rfl rfl ?_
  exact pv
  refine vc (λ_ _ _=>zp rfl pv) ?_
  refine vc (λx w2 az=>?_) ?_
  refine zm ?_
  exact pv (by exact congrArg Value.bool (dF kC))
  refine vc (λ_ _ _=>zf jt rfl pv) ?_
  refine vk aB (λx w2 az=>?_) ?_
  have aW:=aW.ext az
  refine zl iG rfl (aW.at rfl) ?_
  exact pv
  refine vk aB (λx w2 az=>?_) ?_
  refine zi (i:=3) cB aL rfl rfl om ?_
  exact pv
  refine vk aB (λx w2 az=>?_) ?_
  have dM:=dM.ext az
  refine zL eQ aL rfl dM rfl ?_
  exact pv
  refine vk aB (λx w2 az=>?_) ?_
  have dW:=dW.ext az
  refine aA (Az (nth t.ak 3) om (cL.nth om) _ _ w2 dW) ?_
  rintro v3 w3 ⟨jb,aH⟩
  have eU:=aH.size
  obtain rfl:=jb
  exact pk aH
  refine vc (λ_ _ _=>km rfl rfl rfl pv) ?_
  refine vc (λ_ _ _=>zp rfl pv) ?_
  refine vc (λx w2 az=>?_) ?_
  refine zm ?_
  exact pv (by exact congrArg Value.bool (show(!jQ (nth t.ak 3))=true from by rw[h3];rfl))
  refine vc (λx w2 az=>?_) ?_
  exact cH pv
  refine vk aB (λx w2 az=>?_) ?_
  exact cH pv
  refine vk aB (λx w2 az=>?_) ?_
  exact cH pv
  refine vk aB (λx w2 az=>?_) ?_
  exact cH pv
  refine vk aB (λx w2 az=>?_) ?_
  exact cH pv
  refine vc (λx w2 az=>?_) ?_
  exact cH pv
  refine vc (λ_ _ _=>zp rfl pv) ?_
  refine vc (λ_ _ _=>zp rfl pv) ?_
  exact trivial
  intro x nO gi
  have hK:=hK.ext gi
  change OW _ _ _ _ [] (bm (bg _ x _) (zZ 52 [_,_,_,_,_,_,_,_,_,_,_,_,_,_,_,_,_,_,_,_,_,_,_,_,_,_,_,_,_,_,_,_,_,_,_,_,_,_,_,_])) _
  refine aZ ?_
  exact⟨(),⟨rfl,rfl,rfl,congrArg Value.bool (show true=_ from by unfold B7;rw[dT h5,h2,h3,Bool.and_false];rfl)⟩,hK,gi⟩
  obtain⟨h5,h2,kC,h3,h4⟩:=kM
  have h6:=Gw h5
  obtain⟨gd,pG,gh,bF,cK⟩:=jh 1 om
  obtain⟨iA,Ay,iB,bU,dG⟩:=jh 2 om
  obtain⟨pM,Ue,pN,dM,dW⟩:=jh 3 om
  obtain⟨Ni,pn4,Nj,jv,pO⟩:=jh 4 om
  have eU:=kX (t:=t) (i:=3) om
  have fG:=kX (t:=t) (i:=4) om
  apply kD cT 40 (rA 52 40) (rA 52 40) [[],[0],[1],[2],[2,3],[2,4],[2,5],[2,6],[2,7],[2,8],[2,9],[10],[10,11],[10,12],[10,13],[10,14],[10],[10,16],[10,17],[10,18],[10,19],[10,15,20],[2,10,21],[2,22],[23],[23,24],[23,25],[23,26],[23,27],[23,28],[2,23,29],[2,30],[31],[31,32],[31,33],[31,34],[31,35],[31,36],[2,31,37],[2,38]] [It.v _,It.v _,It.v (.bool true),It.v _,It.v _,It.v _,It.v _,It.v _,It.v _,It.v _,It.v (.bool false),It.v _,It.v _,It.v _,It.v _,It.v _,It.v _,It.v _,It.v _,It.v _,It.v _,It.v _,It.v _,It.v (.bool false),It.v _,It.v _,It.v _,It.v _,It.v _,It.v _,It.v _,It.v (.bool false),It.v _,It.v _,It.v _,It.v _,It.v _,It.v _,It.v _,It.v _] de rfl
  intro wd aB
  refine zW ?_
  refine vk aB (λx w2 az=>?_) ?_
  refine uj rfl rfl rfl rfl rfl ?_
  exact pv
  refine vc (λx w2 az=>?_) ?_
  refine zm ?_
  exact pv (by exact congrArg Value.bool (dT om))
  refine vc (λ_ _ _=>zf jt rfl pv) ?_
  refine vk aB (λx w2 az=>?_) ?_
  have aW:=aW.ext az
  refine zl iG rfl (aW.at rfl) ?_
  exact pv
  refine vk aB (λx w2 az=>?_) ?_
  refine zi (i:=2) cB aL rfl rfl om ?_
  exact pv
  refine vc (λ_ _ _=>zf kY rfl pv) ?_
  refine vk aB (λx w2 az=>?_) ?_
  have bU:=bU.ext az
  refine zl fA rfl (bU 0 _ rfl) ?_
  exact pv
  refine vk aB (λx w2 az=>?_) ?_
  refine aA (uM _ _) ?_
  rintro _ _ ⟨rfl,rfl⟩
  exact pv
  refine vc (λ_ _ _=>km rfl rfl rfl pv) ?_
  refine vc (λx w2 az=>?_) ?_
  refine zm ?_
  exact pv (by exact congrArg Value.bool (show(!dN (nth t.ak 2).aw)=false from by rw[h2];rfl))
  refine vc (λ_ _ _=>zf jt rfl pv) ?_
  refine vk aB (λx w2 az=>?_) ?_
  have aW:=aW.ext az
  refine zl iG rfl (aW.at rfl) ?_
  exact pv
  refine vk aB (λx w2 az=>?_) ?_
  refine zi (i:=1) cB aL rfl rfl om ?_
  exact pv
  refine vc (λ_ _ _=>zf kY rfl pv) ?_
  refine vk aB (λx w2 az=>?_) ?_
  have bF:=bF.ext az
  refine zl fA rfl (bF 0 _ rfl) ?_
  exact pv
  refine vc (λ_ _ _=>zf jt rfl pv) ?_
  refine vk aB (λx w2 az=>?_) ?_
  have aW:=aW.ext az
  refine zl iG rfl (aW.at rfl) ?_
  exact pv
  refine vk aB (λx w2 az=>?_) ?_
  refine zi (i:=2) cB aL rfl rfl om ?_
  exact pv
  refine vc (λ_ _ _=>zf kY rfl pv) ?_
  refine vk aB (λx w2 az=>?_) ?_
  have bU:=bU.ext az
  refine zl fA rfl (bU 0 _ rfl) ?_
  exact pv
  refine vk aB (λx w2 az=>?_) ?_
  refine Bh rfl rfl rfl rfl ?_
  exact pv
  refine vc (λ_ _ _=>zp rfl pv) ?_
  refine vc (λx w2 az=>?_) ?_
  refine zm ?_
  exact pv (by exact congrArg Value.bool (dF kC))
  refine vc (λ_ _ _=>zf jt rfl pv) ?_
  refine vk aB (λx w2 az=>?_) ?_
  have aW:=aW.ext az
  refine zl iG rfl (aW.at rfl) ?_
  exact pv
  refine vk aB (λx w2 az=>?_) ?_
  refine zi (i:=3) cB aL rfl rfl om ?_
  exact pv
  refine vk aB (λx w2 az=>?_) ?_
  have dM:=dM.ext az
  refine zL eQ aL rfl dM rfl ?_
  exact pv
  refine vk aB (λx w2 az=>?_) ?_
  have dW:=dW.ext az
  refine aA (Az (nth t.ak 3) om (cL.nth om) _ _ w2 dW) ?_
  rintro v3 w3 ⟨jb,aH⟩
  have eU:=aH.size
  obtain rfl:=jb
  exact pk aH
  refine vc (λ_ _ _=>km rfl rfl rfl pv) ?_
  refine vc (λ_ _ _=>zp rfl pv) ?_
  refine vc (λx w2 az=>?_) ?_
  refine zm ?_
  exact pv (by exact congrArg Value.bool (show(!jQ (nth t.ak 3))=false from by rw[h3];rfl))
  refine vc (λ_ _ _=>zf jt rfl pv) ?_
  refine vk aB (λx w2 az=>?_) ?_
  have aW:=aW.ext az
  refine zl iG rfl (aW.at rfl) ?_
  exact pv
  refine vk aB (λx w2 az=>?_) ?_
  refine zi (i:=4) cB aL rfl rfl om ?_
  exact pv
  refine vk aB (λx w2 az=>?_) ?_
  have jv:=jv.ext az
  refine zL eQ aL rfl jv rfl ?_
  exact pv
  refine vk aB (λx w2 az=>?_) ?_
  have pO:=pO.ext az
  refine aA (Az (nth t.ak 4) om (cL.nth om) _ _ w2 pO) ?_
  rintro v3 w3 ⟨jb,aH⟩
  have eU:=aH.size
  obtain rfl:=jb
  exact pk aH
  refine vc (λ_ _ _=>km rfl rfl rfl pv) ?_
  refine vc (λ_ _ _=>zp rfl pv) ?_
  refine vc (λ_ _ _=>zp rfl pv) ?_
  exact trivial
  intro x nO gi
  have hK:=hK.ext gi
  change OW _ _ _ _ [] (bm (bg _ x _) (zZ 52 [_,_,_,_,_,_,_,_,_,_,_,_,_,_,_,_,_,_,_,_,_,_,_,_,_,_,_,_,_,_,_,_,_,_,_,_,_,_,_,_])) _
  refine aZ ?_
  exact⟨(),⟨rfl,rfl,rfl,congrArg Value.bool (show(!jQ (nth t.ak 4))=_ from by unfold B7;rw[dT h5,h2,h3,h4,Bool.and_false];rfl)⟩,hK,gi⟩
  obtain⟨h5,h2,kC,h3,h4⟩:=kM
  have h6:=Gw h5
  obtain⟨gd,pG,gh,bF,cK⟩:=jh 1 om
  obtain⟨iA,Ay,iB,bU,dG⟩:=jh 2 om
  obtain⟨pM,Ue,pN,dM,dW⟩:=jh 3 om
  obtain⟨Ni,pn4,Nj,jv,pO⟩:=jh 4 om
  have eU:=kX (t:=t) (i:=3) om
  have fG:=kX (t:=t) (i:=4) om
  apply kD cT 40 (rA 52 40) (rA 52 40) [[],[0],[1],[2],[2,3],[2,4],[2,5],[2,6],[2,7],[2,8],[2,9],[10],[10,11],[10,12],[10,13],[10,14],[10],[10,16],[10,17],[10,18],[10,19],[10,15,20],[2,10,21],[2,22],[23],[23,24],[23,25],[23,26],[23,27],[23,28],[2,23,29],[2,30],[31],[31,32],[31,33],[31,34],[31,35],[31,36],[2,31,37],[2,38]] [It.v _,It.v _,It.v (.bool true),It.v _,It.v _,It.v _,It.v _,It.v _,It.v _,It.v _,It.v (.bool false),It.v _,It.v _,It.v _,It.v _,It.v _,It.v _,It.v _,It.v _,It.v _,It.v _,It.v _,It.v _,It.v (.bool false),It.v _,It.v _,It.v _,It.v _,It.v _,It.v _,It.v _,It.v (.bool false),It.v _,It.v _,It.v _,It.v _,It.v _,It.v _,It.v _,It.v _] de rfl
  intro wd aB
  refine zW ?_
  refine vk aB (λx w2 az=>?_) ?_
  refine uj rfl rfl rfl rfl rfl ?_
  exact pv
  refine vc (λx w2 az=>?_) ?_
  refine zm ?_
  exact pv (by exact congrArg Value.bool (dT om))
  refine vc (λ_ _ _=>zf jt rfl pv) ?_
  refine vk aB (λx w2 az=>?_) ?_
  have aW:=aW.ext az
  refine zl iG rfl (aW.at rfl) ?_
  exact pv
  refine vk aB (λx w2 az=>?_) ?_
  refine zi (i:=2) cB aL rfl rfl om ?_
  exact pv
  refine vc (λ_ _ _=>zf kY rfl pv) ?_
  refine vk aB (λx w2 az=>?_) ?_
  have bU:=bU.ext az
  refine zl fA rfl (bU 0 _ rfl) ?_
  exact pv
  refine vk aB (λx w2 az=>?_) ?_
  refine aA (uM _ _) ?_
  rintro _ _ ⟨rfl,rfl⟩
  exact pv
  refine vc (λ_ _ _=>km rfl rfl rfl pv) ?_
  refine vc (λx w2 az=>?_) ?_
  refine zm ?_
  exact pv (by exact congrArg Value.bool (show(!dN (nth t.ak 2).aw)=false from by rw[h2];rfl))
  refine vc (λ_ _ _=>zf jt rfl pv) ?_
  refine vk aB (λx w2 az=>?_) ?_
  have aW:=aW.ext az
  refine zl iG rfl (aW.at rfl) ?_
  exact pv
  refine vk aB (λx w2 az=>?_) ?_
  refine zi (i:=1) cB aL rfl rfl om ?_
  exact pv
  refine vc (λ_ _ _=>zf kY rfl pv) ?_
  refine vk aB (λx w2 az=>?_) ?_
  have bF:=bF.ext az
  refine zl fA rfl (bF 0 _ rfl) ?_
  exact pv
  refine vc (λ_ _ _=>zf jt rfl pv) ?_
  refine vk aB (λx w2 az=>?_) ?_
  have aW:=aW.ext az
  refine zl iG rfl (aW.at rfl) ?_
  exact pv
  refine vk aB (λx w2 az=>?_) ?_
  refine zi (i:=2) cB aL rfl rfl om ?_
  exact pv
  refine vc (λ_ _ _=>zf kY rfl pv) ?_
  refine vk aB (λx w2 az=>?_) ?_
  have bU:=bU.ext az
  refine zl fA rfl (bU 0 _ rfl) ?_
  exact pv
  refine vk aB (λx w2 az=>?_) ?_
  refine Bh rfl rfl rfl rfl ?_
  exact pv
  refine vc (λ_ _ _=>zp rfl pv) ?_
  refine vc (λx w2 az=>?_) ?_
  refine zm ?_
  exact pv (by exact congrArg Value.bool (dF kC))
  refine vc (λ_ _ _=>zf jt rfl pv) ?_
  refine vk aB (λx w2 az=>?_) ?_
  have aW:=aW.ext az
  refine zl iG rfl (aW.at rfl) ?_
  exact pv
  refine vk aB (λx w2 az=>?_) ?_
  refine zi (i:=3) cB aL rfl rfl om ?_
  exact pv
  refine vk aB (λx w2 az=>?_) ?_
  have dM:=dM.ext az
  refine zL eQ aL rfl dM rfl ?_
  exact pv
  refine vk aB (λx w2 az=>?_) ?_
  have dW:=dW.ext az
  refine aA (Az (nth t.ak 3) om (cL.nth om) _ _ w2 dW) ?_
  rintro v3 w3 ⟨jb,aH⟩
  have eU:=aH.size
  obtain rfl:=jb
  exact pk aH
  refine vc (λ_ _ _=>km rfl rfl rfl pv) ?_
  refine vc (λ_ _ _=>zp rfl pv) ?_
  refine vc (λx w2 az=>?_) ?_
  refine zm ?_
  exact pv (by exact congrArg Value.bool (show(!jQ (nth t.ak 3))=false from by rw[h3];rfl))
  refine vc (λ_ _ _=>zf jt rfl pv) ?_
  refine vk aB (λx w2 az=>?_) ?_
  have aW:=aW.ext az
  refine zl iG rfl (aW.at rfl) ?_
  exact pv
  refine vk aB (λx w2 az=>?_) ?_
  refine zi (i:=4) cB aL rfl rfl om ?_
  exact pv
  refine vk aB (λx w2 az=>?_) ?_
  have jv:=jv.ext az
  refine zL eQ aL rfl jv rfl ?_
  exact pv
  refine vk aB (λx w2 az=>?_) ?_
  have pO:=pO.ext az
  refine aA (Az (nth t.ak 4) om (cL.nth om) _ _ w2 pO) ?_
  rintro v3 w3 ⟨jb,aH⟩
  have eU:=aH.size
  obtain rfl:=jb
  exact pk aH
  refine vc (λ_ _ _=>km rfl rfl rfl pv) ?_
  refine vc (λ_ _ _=>zp rfl pv) ?_
  refine vc (λ_ _ _=>zp rfl pv) ?_
  exact trivial
  intro x nO gi
  have hK:=hK.ext gi
  change OW _ _ _ _ [] (bm (bg _ x _) (zZ 52 [_,_,_,_,_,_,_,_,_,_,_,_,_,_,_,_,_,_,_,_,_,_,_,_,_,_,_,_,_,_,_,_,_,_,_,_,_,_,_,_])) _
  refine aZ ?_
  exact⟨(),⟨rfl,rfl,rfl,congrArg Value.bool (show(!jQ (nth t.ak 4))=_ from by unfold B7;rw[dT h5,h2,h3,h4,dT kC];rfl)⟩,hK,gi⟩
  intro gu l6 yc hI
  obtain⟨hK,aC⟩:=hI
  have aW:=aW.ext aC;have aQ:=aQ.ext aC
  refine zc rfl (λh7=>?_) (λh7=>?_)
  have hz:dw t=false:=(by simp only[aE,dE,Bool.not_eq_true'] at h7;rw[nD,dF (λh=>h h7.1),h7.2];rfl)
  refine zr<|zA<|aZ<|jJ ?_
  exact⟨_,rfl,by rw[hz];rfl,hK⟩
  have Gx:dw t=(t.ak.drop (dS (nth t.ak 0).aw).1).all dw:=(by simp only[Bool.and_eq_false_iff,decide_eq_false_iff_not,Bool.not_eq_false'] at h7;rw[nD];rcases h7 with h|h;(·rw[dT h];rfl);(·rw[h,Bool.or_true];rfl))
  refine gz<|jq<|zr<|zm<|zA<|aZ<|r6 ?_
  refine eH (λk:Nat=>[(1,.pointer (some ⟨w.heap.size,0,none⟩)),(6,.int .i64 ((dS (nth t.ak 0).aw).2:Int)),(7,.int .i64 (k:Int))]) (λk w'=>aj [] w w'∧aj [] l6 w'∧(dS (nth t.ak 0).aw).1<=k∧k<=t.ak.length∧∀j,(dS (nth t.ak 0).aw).1<=j->j<k->dw (nth t.ak j)=true) (λk=>t.ak.length-k) ((dS (nth t.ak 0).aw).1) (⟨rfl,rfl,rfl⟩) (⟨hK,aj.refl _ _,lR _,om,by intro j h1 h2;omega⟩) ?_
  intro gg mI B9 hI
  obtain⟨hK,kr,aI,hk,cP⟩:=hI
  have aW:=aW.ext kr;have aQ:=aQ.ext kr
  refine jq<|zr<|zm<|zm<|HZ rfl rfl rfl rfl rfl<|aZ<|zc rfl (λh8=>?_) (λh8=>?_)
  have gK:gg<t.ak.length:=om
  obtain⟨b1,eR,gd,pG,gh,e1,bF,qL,nI⟩:=ik aQ (fK gK)
  cases e1
  subst qL
  have cK:=lW nI
  have dm:=kX gK
  refine gz<|jq<|r6<|zr<|zf jt rfl<|zl iG rfl (aW.at rfl)<|zm<|zi cB aL rfl rfl gK<|zL eQ aL rfl bF rfl<|aA (ih (nth t.ak gg) om om (cL.nth gK) _ _ mI cK) ?_
  rintro v44 ow ⟨afC,iJ⟩
  have aoo:=iJ.size
  have hK:=hK.ext iJ;have kr:=kr.ext iJ
  obtain rfl:=afC
  refine km rfl rfl rfl<|aZ<|zc rfl (λh9=>?_) (λh9=>?_)
  have hz:dw t=false:=(by rw[Gx];exact afx aI gK (by simpa using h9))
  refine zr<|zA<|aZ<|jJ ?_
  exact⟨_,rfl,by rw[hz];rfl,hK⟩
  have hy:dw (nth t.ak gg)=true:=(by simpa using h9)
  refine gz<|lp<|zm<|nU rfl rfl rfl rfl rfl (wrap_i64 _ om om)<|zA<|aZ ?_
  exact⟨gg+1,⟨rfl,rfl,rfl⟩,⟨hK,kr,om,om,by intro j h1 h2;rcases Nat.lt_or_ge j gg with h|h;exact cP j h1 h;rw[show j=gg by omega];exact hy⟩,om⟩
  refine yP<|yQ rfl<|zr<|zA<|aZ<|jJ ?_
  exact⟨_,rfl,by rw[Gx,afw (λj h1 h2=>cP j h1 om)];rfl,hK⟩
section
variable {P:Program} {w:World}
theorem afD {t ty T:TypeId} {i:TypeInfo} {sz bytes:Nat} (ht:P.underlying t=some (.slice T)) (hi:P.info? T=some i) (hz:i.zero=some z) 
  (Bf:i.size=sz) (gj:i.bytes=bytes) (xf:z.cells.size=sz)
  {v:Value} {g:Option Nat} {n:Nat} {xs:List Value} (dA:iE w T sz v g n xs)
  (ab aoff m c:Nat) (news:List Value) (hl:news.length=m*sz) (Bg:fQ w ab aoff news) (h1:∀u∈news,u.oneCell'=true) (hm:0<m) (afE:0<i.size)
  (yS:n+m<=maxLen) (xg:(n+m)*bytes<=140737488355328):
  ∃v' g' w',(Builtin.append_ #[t,t] ty #[v,.slice (some ⟨ab,aoff,none⟩) m c]).run P w= .ok v' w'∧iE w' T sz v' g' (n+m) (xs++news)∧
   ((g'=g∧aj g.toList w w'∧∀b,g=some b->∃cur U,aJ w b cur U∧0<cur.size)∨(g'=some w.heap.size∧aj [] w w')):=by
 subst Bf
 subst gj
 have HX:n+m<=9223372036854775807:=by simp only[maxLen] at yS;omega
 have hlen:(xs++news).length=(n+m)*i.size:=by rw[lA,dA.1,hl,Nat.add_mul]
 have vD:∀b o j:Nat,(⟨b,o,none⟩:Addr).add j=⟨b,o+j,none⟩:=λb o j=>by unfold Addr.add;split<;>simp_all
 have ui:∀j u,news[j]?=some u->w.cell? ((⟨ab,aoff,none⟩:Addr).add j)=some u:=λj u hu=>by rw[vD];exact Bg j u hu
 have grown:∀(old:Nat),old<n+m->
   iE (w.drew.alloc (.cells (xs.toArray++news.toArray++Builtin.zeroCells z.cells (grownCap w (n+m) old T-(n+m))) T)) T i.size
    (.slice (some ⟨w.heap.size,0,none⟩) (n+m) (grownCap w (n+m) old T)) (some w.heap.size) (n+m) (xs++news)∧
   aj [] w (w.drew.alloc (.cells (xs.toArray++news.toArray++Builtin.zeroCells z.cells (grownCap w (n+m) old T-(n+m))) T)):=by
  intro old ho
  have oF:=grownCap_ge w (n+m) old T
  have lT:grownCap w (n+m) old T<=maxLen:=grownCap_le_maxLen w (n+m) old T yS
  refine⟨⟨hlen,.inr ⟨w.heap.size,_,_,rfl,rfl,heap_alloc_new w.drew _,oF,lT,?_,?_⟩⟩,⟨rfl,rfl,rfl,sm,λk hk _=>(aj.alloc [] w.drew _).block k hk sm⟩⟩
  ·simp only[Array.size_append,List.size_toArray,size_zeroCells,xf,dA.1,hl,<-Nat.add_mul]
   congr 1
   omega
  ·simp only[Array.toList_append,List.append_assoc]
   rw[<-List.append_assoc,<-hlen]
   exact List.take_left
 rcases dA.2 with⟨rfl,rfl,rfl⟩|⟨b,cap,cur,rfl,rfl,hb,mn,lT,bY,sX⟩
 ·have hx:xs=[]:=List.eq_nil_of_length_eq_zero (by simpa using dA.1)
  subst hx
  have hr:=run_append_nil (P:=P) w t ty T i z ht hi hz ⟨ab,aoff,none⟩ m c news hl ui hm om (by have hb:=xg;simp only[Nat.zero_add] at hb;omega)
  have kU:=grown 0 om
  simp only[Nat.zero_add,List.nil_append,Array.empty_append] at kU⊢
  exact⟨_,_,_,hr,kU.1,.inr ⟨rfl,kU.2⟩⟩
 ·by_cases r8:n+m<=cap
  ·have kT:n*i.size+news.length<=cur.size:=by rw[hl,bY,<-Nat.add_mul];exact Nat.mul_le_mul_right _ r8
   have hr:=run_append_room (P:=P) w t ty T i ht hi b n cap cur hb ⟨ab,aoff,none⟩ m c news hl ui h1 r8 kT
   refine⟨_,some b,_,hr,⟨hlen,.inr ⟨b,cap,_,rfl,rfl,setRow_heap w b cur _ T _ hb,r8,lT,?_,?_⟩⟩,.inl ⟨rfl,⟨rfl,rfl,rfl,sm,λk _ hk=>setRow_other w b k _ (by simpa using hk)⟩,λb' gO=>?_⟩⟩
   ·simp only[List.size_toArray,lA,List.length_take,List.length_drop,Array.length_toList]
    omega
   ·rw[sX,<-hlen]
    exact List.take_left
   ·cases gO
    refine⟨cur,T,hb,?_⟩
    rw[bY]
    exact Nat.mul_pos om afE
  ·have holds:∀j u,xs[j]?=some u->w.cell? ((⟨b,0,none⟩:Addr).add j)=some u:=λj u hu=>by
    rw[vD,hb.cell]
    rw[<-sX,List.getElem?_take] at hu
    split at hu
    ·simpa using hu
    ·cases hu
   have hr:=run_append_grow (P:=P) w t ty T i z ht hi hz ⟨b,0,none⟩ n cap xs dA.1 holds ⟨ab,aoff,none⟩ m c news hl ui om om (growslice_fits om xg)
   have kU:=grown cap om
   exact⟨_,_,_,hr,kU.1,.inr ⟨rfl,kU.2⟩⟩
end
def ql (G:List Nat) (w:World) (T:TypeId) (g:Option Nat):Prop:=∀x,x∈g.toList->x∈G∨aJ w x #[] T
theorem ql.ext {T:TypeId} (h:ql G w T g) (k:aj [] w w'):ql G w' T g:=λx hx=>(h x hx).imp id λh=>h.ext k
theorem ql.sub {T:TypeId} (h:∀x,x∈g.toList->x∈G):ql G w T g:=λx hx=>.inl (h x hx)
section
variable {P:Program} {n:Nat} {ops:Array Oper} {K:Env->World->Prop} {rest:List Oper} {e:Env} {w:World} {dst:Option Nat} {ty:TypeId} {pos:String} {after:Array Edge} {g:Option (Nat×Bool)} {x y:Operand}
theorem D9 {G L:List Nat} {v u:Value} {gb:Option Nat} {xs ys:List ai} (hT:P.underlying t=some (.slice E)) (hE:TI P E 1 bytes z) (hg:gate ops e g=true) (hd:cm n dst=true) (hz:Nat.beq z.cells.size 1=true) (gj:Nat.ble bytes 1000=true) 
  (hx:ev e x=v) (hy:ev e y=u) (hO:cz w E v gb xs) (hu:bc L w u ys) (hG:eJ G w) (ba:ql G w E gb) (hn:xs.length+ys.length<100000000)
  (k:∀v' g' w' G',cz w' E v' g' (xs++ys)->ql G' w' E g'->(∀x,x∈g'.toList->x∈gb.toList∨w.heap.size<=x)->(∀x,x∈G->x∈G')->Fr G w G' w'->eJ G' w'->aj gb.toList w w'->OW P n ops K rest (bQ e dst v') w'):
  OW P n ops K (⟨dst,.call {callee:=.builtin .append,args:=#[x,y],argTypes:=#[t,t]},ty,pos,after,g⟩::rest) e w:=by
 obtain⟨i,hi,xr,gN,MN⟩:=hE.get
 have Bw:bytes<=1000:=Nat.le_of_ble_eq_true gj
 obtain⟨a2,n2,c2,rfl,eK⟩:=dI hu
 subst eK
 by_cases hp:0<ys.length
 ·obtain⟨ab,aoff,vs,rfl,Iz,aop,hc,IU,_,gY⟩:=SQ hu (by rw[qB];exact hp)
  have aV:=MO IU
  subst aV
  obtain⟨v',g',w',jK,xu,afF⟩:=afD (P:=P) (ty:=ty) hT hi xr gN MN (Nat.eq_of_beq_eq_true hz) hO ab aoff ys.length c2 (ys.map λx=>str x) sm hc (by intro u hu;obtain⟨s,_,rfl⟩:=List.mem_map.1 hu;rfl) hp (by rw[gN];decide) (by simp only[maxLen];omega)
   (Nat.le_trans (Nat.mul_le_mul (show xs.length+ys.length<=100000000 by omega) Bw) de)
  have Nk:cz w' E v' g' (xs++ys):=by
   unfold cz
   rw[lA,List.map_append]
   exact xu
  refine eX hg hd (v:=v') (w':=w') (by
   simp only[execOp,resolve,invoke,builtin,Sem.run_bind,Sem.run_pure,Result.andThen_ok,List.map_toArray,List.map_cons,List.map_nil,hx,hy,jK]) ?_
  rcases afF with⟨rfl,hk,Gy⟩|⟨rfl,hk⟩
  ·have AB:∀q,q∈g'.toList->q∈G:=λq hq=>by
    rcases ba q hq with h|h
    ·exact h
    ·obtain⟨cur,U,hb,hs⟩:=Gy q (by simpa using hq)
     unfold aJ at h hb
     rw[h] at hb
     cases hb
     simp at hs
   exact k v' g' w' G Nk (ql.sub AB) (λq hq=>.inl hq) (λq hq=>hq) (Fr.of hk AB) (λq hq=>lL (hG q hq) hk.size) hk
  ·have dR:w.heap.size<w'.heap.size:=Nk.lt _ sm
   refine k v' _ w' (w.heap.size::G) Nk (ql.sub sm) (λq hq=>.inr (by simp at hq;omega)) (λq hq=>mK _ hq) ⟨hk.any,λq hq=>?_⟩ (λq hq=>?_) hk.any
   ·rcases mC.1 hq with h|h
    ·right;omega
    ·exact .inl h
   ·rcases mC.1 hq with h|h
    ·omega
    ·exact lL (hG q h) hk.size
 ·have nB:ys=[]:=List.length_eq_zero_iff.1 om
  subst nB
  obtain⟨a,cap,rfl⟩:=jw hO
  have Dp:xs.length<=cap:=by
   rcases hO.2 with⟨h,h2,_⟩|⟨_,_,_,_,h,_,h2,_⟩
   ·rw[h2];omega
   ·cases h;exact h2
  have jK:=SR (P:=P) (w:=w) (t:=t) (ty:=ty) hT hi (a:=a) (m:=xs.length) (cap:=cap) Dp (a2:=a2) (c2:=c2)
  refine eX hg hd (v:=.slice a xs.length cap) (w':=w) (by
   simp only[execOp,resolve,invoke,builtin,Sem.run_bind,Sem.run_pure,Result.andThen_ok,List.map_toArray,List.map_cons,List.map_nil,hx,hy]
   have e2:([]:List ai).length=0:=rfl
   rw[e2]
   simp only[jK,Sem.run_bind,Sem.run_pure,Result.andThen_ok]) ?_
  exact k _ gb w G (by rw[List.append_nil];exact hO) ba (λq hq=>.inl hq) (λq hq=>hq) (Fr.refl _ _) hG (aj.refl _ _)
theorem afG {T:Nat} (hT:P.underlying T=some (.slice E)) (hE:TI P E sz bytes z) (hg:gate ops e g=true) (hd:cm n dst=true) 
  (k:∀w',aj [] w w'->aJ w' w.heap.size #[] E->w'.heap.size=w.heap.size+1->OW P n ops K rest (bQ e dst (.slice (some ⟨w.heap.size,0,none⟩) 0 0)) w'):
  OW P n ops K (⟨dst,.buildSlice T 0 #[],ty,pos,after,g⟩::rest) e w:=
 eX hg hd (w':=w.alloc (.cells #[] E)) (by simp[execOp,Qw (P:=P) (w:=w) hT hE]) (k _ (aj.alloc _ _ _) (aJ.alloc _ _ _) sm)
theorem fN {T:Nat} (hT:P.underlying T=some (.slice E)) (hE:TI P E sz bytes z) (k:∀w',aj [] w w'->aJ w' w.heap.size #[] E->w'.heap.size=w.heap.size+1->OW P n ops K rest (bQ e dst (.slice (some ⟨w.heap.size,0,none⟩) 0 0)) w') (hg:gate ops e g=true:=by rfl) (hd:cm n dst=true:=by rfl):OW P n ops K (⟨dst,.buildSlice T 0 #[],ty,pos,after,g⟩::rest) e w:=afG hT hE hg hd k
end
def LP (N:Nat) (G G0:List Nat) (w:World) (T:TypeId) (v:Value) (xs:List ai):Prop:=∃g,cz w T v g xs∧ql G w T g∧∀x,x∈g.toList->x∉G0∧N<=x
theorem LP.ext {T:TypeId} (h:LP N G G0 w T v xs) (k:aj [] w w'):LP N G G0 w' T v xs:=let⟨g,h1,h2,h3⟩:=h;⟨g,h1.ext k,h2.ext k,h3⟩
structure Out (N:Nat) (G0:List Nat) (w w':World):Prop where
 ex:∃H,aj H w w'∧∀x,x∈H->x∉G0∧N<=x
theorem Out.gX (h:Out N G0 w w') {b:Nat} {cs:Array Value} {T:TypeId} (hb:aJ w b cs T) (hG:b∈G0):aJ w' b cs T:=let⟨_,k,hH⟩:=h.ex;hb.aG k λhx=>(hH b hx).1 hG
theorem Out.since {w0:World} (h:Out w0.heap.size G0 w w') (k:aj L w0 w):aj L w0 w':=let⟨_,kk,hH⟩:=h.ex;k.since kk λx hx=>.inr (hH x hx).2
section
variable {P:Program} {n:Nat} {ops:Array Oper} {K:Env->World->Prop} {rest:List Oper} {e:Env} {w:World} {dst:Option Nat} {ty:TypeId} {pos:String} {after:Array Edge} {g:Option (Nat×Bool)} {x y:Operand}
theorem Gz {N:Nat} {G0:List Nat} {bb:Nat} {u:Value} {ys:List ai} (hT:P.underlying t=some (.slice E)) (hE:TI P E 1 bytes z) (hg:gate ops e g=true) (hd:cm n dst=true) (hz:Nat.beq z.cells.size 1=true) (gj:Nat.ble bytes 1000=true) 
  (hx:ev e x= .slice (some ⟨bb,0,none⟩) 0 0) (hy:ev e y=u) (hb:dL G0 w bb #[] E) (Uf:N<=bb) (hu:bc G0 w u ys) (hG:eJ G0 w) (hn:ys.length<100000000)
  (k:∀v' w' G',(∀q,q∈G0->q∈G')->LP N G' G0 w' E v' ys->Fr G0 w G' w'->eJ G' w'->Out N G0 w w'->OW P n ops K rest (bQ e dst v') w'):
  OW P n ops K (⟨dst,.call {callee:=.builtin .append,args:=#[x,y],argTypes:=#[t,t]},ty,pos,after,g⟩::rest) e w:=by
 refine D9 hT hE hg hd hz gj hx hy hb.gX.kL hu hG (λq hq=>.inr (by simp at hq;subst hq;exact hb.gX)) (by simpa using hn) ?_
 intro v' g' w' G' hO hZ hs jV bD hl hk
 refine k v' w' G' jV ⟨g',hO,hZ,λq hq=>⟨λUg=>?_,?_⟩⟩ bD hl ⟨_,hk,λq hq=>?_⟩
 ·rcases hs q hq with h|h
  ·simp at h;subst h;exact hb.out Ug
  ·have:=hG q Ug;omega
 ·rcases hs q hq with h|h
  ·simp at h;subst h;exact Uf
  ·have:=hb.gX.lt;omega
 ·simp at hq;subst hq;exact⟨hb.out,Uf⟩
theorem Jk {N:Nat} {G G0:List Nat} {v u:Value} {xs ys:List ai} (hT:P.underlying t=some (.slice E)) (hE:TI P E 1 bytes z) (hg:gate ops e g=true) (hd:cm n dst=true) (hz:Nat.beq z.cells.size 1=true) (gj:Nat.ble bytes 1000=true) 
  (hx:ev e x=v) (hy:ev e y=u) (hO:LP N G G0 w E v xs) (hu:bc G w u ys) (hG:eJ G w) (jV:∀q,q∈G0->q∈G) (hn:xs.length+ys.length<100000000)
  (k:∀v' w',bc G0 w' v' (xs++ys)->Fr G w G0 w'->eJ G0 w'->Out N G0 w w'->OW P n ops K rest (bQ e dst v') w'):
  OW P n ops K (⟨dst,.call {callee:=.builtin .append,args:=#[x,y],argTypes:=#[t,t]},ty,pos,after,g⟩::rest) e w:=by
 obtain⟨gb,h1,h2,h3⟩:=hO
 refine D9 hT hE hg hd hz gj hx hy h1 hu hG h2 hn ?_
 intro v' g' w' G' hO hZ hs Uh bD hl hk
 refine k v' w' (hO.rep λb hb fO=>?_) (bD.to λq hq=>.inl (Uh q (jV q hq))) (λq hq=>hl q (Uh q (jV q hq))) ⟨_,hk,λq hq=>h3 q hq⟩
 rcases hs b (by simp[hb]) with h|h
 ·exact(h3 b h).1 fO
 ·have:=hG b (jV b fO);omega
end
theorem dD.out {T:TypeId} (h:dD G w T sz v g rows) (k:Fr G w G' w') (ho:Out N G0 w w') (hg:∀x,x∈g.toList->x∈G0):dD G' w' T sz v g rows:=
 let⟨_,kk,hH⟩:=ho.ex;h.aG k kk λx hx fh=>(hH x fh).1 (hg x hx)
section
variable {P:Program} {n:Nat} {ops:Array Oper} {K:Env->World->Prop} {rest:List Oper} {e:Env} {w:World} {pos:String} {ty:TypeId} {after:Array Edge} {g:Option (Nat×Bool)} {x y:Operand}
theorem sJ {G:List Nat} {T:Nat} {v:Value} {vs:List Value} {row:List C} {E gb:Nat} {N c:Nat} {rows:List (List C)} {b o i:Nat} (jL:TI P T sz bytes z) (hg:gate ops e g=true) 
  (hx:ev e x= .pointer (some ⟨b,o,none⟩)) (hy:ev e y=v) (hv:v.cells=vs.toArray) (ho:o=i*sz) (hO:dD G w E sz (.slice (some ⟨b,0,none⟩) N c) (some gb) rows) (hG:eJ G w) (oe:gb∈G) (hi:i<rows.length) (h1:vs.all Value.oneCell'=true)
  (nG:row.length=sz) (hr:cW G w vs row)
  (k:∀w',aj [gb] w w'->w'.heap.size=w.heap.size->dD G w' E sz (.slice (some ⟨b,0,none⟩) N c) (some gb) (rows.set i row)->OW P n ops K rest e w'):
  OW P n ops K (⟨none,.store T x y,ty,pos,after,g⟩::rest) e w:=by
 obtain⟨⟨xs,dA,gD⟩,gY⟩:=hO
 have ry:∀q,q∈gb::G.filter (λq=>decide (q≠gb))->q∈G∨w.heap.size<=q:=λq hq=>by
  rcases mC.1 hq with h|h
  ·exact .inl (h▸oe)
  ·exact .inl (List.mem_filter.1 h).1
 have hGr:Gr 0 (G.filter λq=>decide (q≠gb)) w E sz (.slice (some ⟨b,0,none⟩) N c) (some gb) rows:=
  ⟨⟨xs,dA,gD.fresh ry,gY,λq hq nD=>by cases hq;simpa using(List.mem_filter.1 nD).2⟩,λ_ _=>Nat.zero_le _,λq hq=>hG q (List.mem_filter.1 hq).1,Nat.zero_le _⟩
 refine aeq jL hg hx hy hv ho hGr hi h1 nG (hr.fresh ry) ?_
 intro w' hk hz jO
 obtain⟨xs',h'⟩:=jO.own
 refine k w' hk hz ⟨⟨xs',h'.own,h'.rep.fresh λq hq=>?_⟩,h'.row⟩
 by_cases Ui:q=gb
 ·exact .inl (by simp[Ui])
 ·exact .inl (by simp[Ui,hq])
end
theorem afI {t:au} (h:DH s t):(((bB s).isSome&&dw t)&&decide ((fg t:Int)<=120))=l4 s:=by
 unfold l4 Jh
 cases hp:bB s with
 |none=>rfl
 |some u=>rw[h.1 u hp];exact congrArg (λb=>dw u&&b) (decide_eq_decide.2 om)
theorem GA (s:ai) (L:List Nat) (w:World) (hL:∀x,x∈L->x<w.heap.size):
  bz Tryz.prog 128 [str s] w λv w'=>(∃t tv,v= .tuple #[tv,.bool (l4 s)]∧bC L w' tv t∧DH s t)∧aj [] w w':=by
 have hK:=aj.refl [] w
 refine jr [.cell 2 74,.tmp 3] 22 Tryz.func128 rfl aaR rfl rfl rfl ?_
 refine zr<|dk aL rfl rfl rfl λw1 aI aN db=>?_
 have hK:=hK.grow;have hK:=hK.ext aI
 refine W ?_
 refine aA (I2 s (w.heap.size::L) w1 (by intro x hx;rcases mC.1 hx with rfl|hx;omega;have:=hL x hx;omega)) ?_
 rintro v2 w2 ⟨fl,az⟩
 have dy:=az.size
 refine bI az hK aN λhK aN=>?_
 obtain⟨t,tv,rfl,ht,hp⟩:=fl
 obtain⟨pa,pn,pc,rfl,eT,aQ⟩:=dj ht
 subst eT
 have cL:∀h:(bB s).isSome=true,WF t∧t.size<=12001:=λh=>DB hp.1 h
 refine W ?_
 refine dk aL rfl rfl rfl λw3 aH aF gv=>?_
 have hK:=hK.grow;have hK:=hK.ext aH;have aN:=aN.grow;have aN:=aN.ext aH;have ht:=ht.grow;have ht:=ht.ext aH
 refine cw aL rfl rfl rfl aF rfl λw4 aO aF gC=>?_
 have hK:=hK.aD aO sx;have aN:=aN.aD aO sx;have ht:=ht.aD aO sx
 refine W ?_
 refine yZ cT (cu w.heap.size ([str t.aw,.slice pa t.ak.length pc]) 74) 13 (rA 11 11++[100011,3]) (rA 11 11++[100011,3]) [[],[],[1],[2],[2,3],[2,4],[5],[6],[6,7],[6,8],[6,9],[0],[10]] [λv _=>v=(.agg #[str t.aw,.slice pa t.ak.length pc]),λv _=>v=(.bool ((bB s).isSome)),λv _=>v=(.bool ((bB s).isSome)),λv _=>((bB s).isSome)=true->v=(.agg #[str t.aw,.slice pa t.ak.length pc]),λv _=>((bB s).isSome)=true->v=(.bool (dw t)),λv _=>v=(.bool ((bB s).isSome&&dw t)),λv _=>v=(.bool ((bB s).isSome&&dw t)),λv _=>((bB s).isSome&&dw t)=true->v=(.agg #[str t.aw,.slice pa t.ak.length pc]),λv _=>((bB s).isSome&&dw t)=true->v=(.int .i64 (fg t:Int)),λv _=>((bB s).isSome&&dw t)=true->v=(.bool (decide ((fg t:Int)<=120))),λv _=>v=(.bool (((bB s).isSome&&dw t)&&decide ((fg t:Int)<=120))),λ_ ww=>aJ ww w.heap.size ([str t.aw,.slice pa t.ak.length pc]).toArray 74,λv _=>v=(.bool (((bB s).isSome&&dw t)&&decide ((fg t:Int)<=120)))] de (fo (fo (fo (Bl (Bl (fo (fo (Bl (Bl (Bl (fo (Dq (fo trivial))))))))))))) (λwd aB=>?_) ?_
 refine dY ?_ ?_
 intro x vs w5 e aP hd he
 replace aP:=(cu w.heap.size ([str t.aw,.slice pa t.ak.length pc]) 74).trans aB aP
 have aF:=aF.aD aP.1 sx
 replace he:e=bm (bg _ x _) []:=he
 subst he
 refine W ?_
 exact dn ((cu w.heap.size ([str t.aw,.slice pa t.ak.length pc]) 74).refl _) rfl
 refine dY ?_ ?_
 intro x vs w5 e aP hd he
 replace aP:=(cu w.heap.size ([str t.aw,.slice pa t.ak.length pc]) 74).trans aB aP
 replace he:e=bm (bg _ x _) []:=he
 subst he
 refine W ?_
 exact dn ((cu w.heap.size ([str t.aw,.slice pa t.ak.length pc]) 74).refl _) rfl
 refine dY ?_ ?_
 intro x vs w5 e aP hd he
 have d1:vs 1=(.bool ((bB s).isSome)):=hd
 replace aP:=(cu w.heap.size ([str t.aw,.slice pa t.ak.length pc]) 74).trans aB aP
 replace he:e=bm (bg _ x _) [(12,vs 1)]:=he
 rw[d1] at he
 subst he
 refine W ?_
 exact dn ((cu w.heap.size ([str t.aw,.slice pa t.ak.length pc]) 74).refl _) rfl
 refine dY ?_ ?_
 intro x vs w5 e aP hd he
 have d2:vs 2=(.bool ((bB s).isSome)):=hd
 replace aP:=(cu w.heap.size ([str t.aw,.slice pa t.ak.length pc]) 74).trans aB aP
 have aF:=aF.aD aP.1 sx
 rcases bE ((bB s).isSome) with hg|hg
 rw[hg] at d2
 replace he:e=bm (bg _ x _) [(13,vs 2)]:=he
 rw[d2] at he
 subst he
 refine W ?_
 exact dn ((cu w.heap.size ([str t.aw,.slice pa t.ak.length pc]) 74).refl _) (show((bB s).isSome)=true->_=((.agg #[str t.aw,.slice pa t.ak.length pc]):Value) from λ_=>rfl)
 rw[hg] at d2
 replace he:e=bm (bg _ x _) [(13,vs 2)]:=he
 rw[d2] at he
 subst he
 refine W ?_
 exact dn ((cu w.heap.size ([str t.aw,.slice pa t.ak.length pc]) 74).refl _) (show((bB s).isSome)=true->_=(_:Value) from λhh=>nomatch hg.symm.trans hh)
 refine dY ?_ ?_
 intro x vs w5 e aP hd he
 have aX:(vs 2=(.bool ((bB s).isSome)))∧(((bB s).isSome)=true->vs 3=(.agg #[str t.aw,.slice pa t.ak.length pc])):=hd
 obtain⟨d2,d3⟩:=aX
 replace aP:=(cu w.heap.size ([str t.aw,.slice pa t.ak.length pc]) 74).trans aB aP
 have ht:=ht.aD aP.1 sx
 rcases bE ((bB s).isSome) with hg|hg
 rw[hg] at d2
 replace d3:=d3 hg
 replace he:e=bm (bg _ x _) [(13,vs 2),(14,vs 3)]:=he
 rw[d2,d3] at he
 subst he
 refine aA (afz t.size t (lR _) (by have:=(cL hg).2;omega) (cL hg).1 _ _ w5 ht) ?_
 rintro _ w6 ⟨rfl,bO⟩
 have ox:=bO.size
 refine W ?_
 exact dn ((cu w.heap.size ([str t.aw,.slice pa t.ak.length pc]) 74).of bO) (show((bB s).isSome)=true->_=((.bool (dw t)):Value) from λ_=>rfl)
 rw[hg] at d2
 replace he:e=bm (bg _ x _) [(13,vs 2),(14,vs 3)]:=he
 rw[d2] at he
 subst he
 refine W ?_
 exact dn ((cu w.heap.size ([str t.aw,.slice pa t.ak.length pc]) 74).refl _) (show((bB s).isSome)=true->_=(_:Value) from λhh=>nomatch hg.symm.trans hh)
 refine dY ?_ ?_
 intro x vs w5 e aP hd he
 have aX:(vs 2=(.bool ((bB s).isSome)))∧(((bB s).isSome)=true->vs 4=(.bool (dw t))):=hd
 obtain⟨d2,d4⟩:=aX
 replace aP:=(cu w.heap.size ([str t.aw,.slice pa t.ak.length pc]) 74).trans aB aP
 rcases bE ((bB s).isSome) with hg|hg
 rw[hg] at d2
 replace d4:=d4 hg
 replace he:e=bm (bg _ x _) [(13,vs 2),(15,vs 4)]:=he
 rw[d2,d4] at he
 subst he
 refine W ?_
 exact dn ((cu w.heap.size ([str t.aw,.slice pa t.ak.length pc]) 74).refl _) (by first|rfl|(rw[hg];rfl))
 rw[hg] at d2
 replace he:e=bm (bg _ x _) [(13,vs 2),(15,vs 4)]:=he
 rw[d2] at he
 subst he
 refine W ?_
 exact dn ((cu w.heap.size ([str t.aw,.slice pa t.ak.length pc]) 74).refl _) (by first|rfl|(rw[hg];rfl))
 refine dY ?_ ?_
 intro x vs w5 e aP hd he
 have d5:vs 5=(.bool ((bB s).isSome&&dw t)):=hd
 replace aP:=(cu w.heap.size ([str t.aw,.slice pa t.ak.length pc]) 74).trans aB aP
 replace he:e=bm (bg _ x _) [(16,vs 5)]:=he
 rw[d5] at he
 subst he
 refine W ?_
 exact dn ((cu w.heap.size ([str t.aw,.slice pa t.ak.length pc]) 74).refl _) rfl
 refine dY ?_ ?_
 intro x vs w5 e aP hd he
 have d6:vs 6=(.bool ((bB s).isSome&&dw t)):=hd
 replace aP:=(cu w.heap.size ([str t.aw,.slice pa t.ak.length pc]) 74).trans aB aP
 have aF:=aF.aD aP.1 sx
 rcases bE ((bB s).isSome&&dw t) with hg|hg
 rw[hg] at d6
 replace he:e=bm (bg _ x _) [(17,vs 6)]:=he
 rw[d6] at he
 subst he
 refine W ?_
 exact dn ((cu w.heap.size ([str t.aw,.slice pa t.ak.length pc]) 74).refl _) (show((bB s).isSome&&dw t)=true->_=((.agg #[str t.aw,.slice pa t.ak.length pc]):Value) from λ_=>rfl)
 rw[hg] at d6
 replace he:e=bm (bg _ x _) [(17,vs 6)]:=he
 rw[d6] at he
 subst he
 refine W ?_
 exact dn ((cu w.heap.size ([str t.aw,.slice pa t.ak.length pc]) 74).refl _) (show((bB s).isSome&&dw t)=true->_=(_:Value) from λhh=>nomatch hg.symm.trans hh)
 refine dY ?_ ?_
 intro x vs w5 e aP hd he
 have aX:(vs 6=(.bool ((bB s).isSome&&dw t)))∧(((bB s).isSome&&dw t)=true->vs 7=(.agg #[str t.aw,.slice pa t.ak.length pc])):=hd
 obtain⟨d6,d7⟩:=aX
 replace aP:=(cu w.heap.size ([str t.aw,.slice pa t.ak.length pc]) 74).trans aB aP
 have ht:=ht.aD aP.1 sx
 rcases bE ((bB s).isSome&&dw t) with hg|hg
 rw[hg] at d6
 replace d7:=d7 hg
 replace he:e=bm (bg _ x _) [(17,vs 6),(18,vs 7)]:=he
 rw[d6,d7] at he
 subst he
 refine aA (T5 t.size t (lR _) (by have:=(cL ((aE _ _).mp hg).1).2;omega) (cL ((aE _ _).mp hg).1).1 _ _ w5 ht) ?_
 rintro _ w6 ⟨rfl,bO⟩
 have ox:=bO.size
 refine W ?_
 exact dn ((cu w.heap.size ([str t.aw,.slice pa t.ak.length pc]) 74).of bO) (show((bB s).isSome&&dw t)=true->_=((.int .i64 (fg t:Int)):Value) from λ_=>rfl)
 rw[hg] at d6
 replace he:e=bm (bg _ x _) [(17,vs 6),(18,vs 7)]:=he
 rw[d6] at he
 subst he
 refine W ?_
 exact dn ((cu w.heap.size ([str t.aw,.slice pa t.ak.length pc]) 74).refl _) (show((bB s).isSome&&dw t)=true->_=(_:Value) from λhh=>nomatch hg.symm.trans hh)
 refine dY ?_ ?_
 intro x vs w5 e aP hd he
 have aX:(vs 6=(.bool ((bB s).isSome&&dw t)))∧(((bB s).isSome&&dw t)=true->vs 8=(.int .i64 (fg t:Int))):=hd
 obtain⟨d6,d8⟩:=aX
 replace aP:=(cu w.heap.size ([str t.aw,.slice pa t.ak.length pc]) 74).trans aB aP
 rcases bE ((bB s).isSome&&dw t) with hg|hg
 rw[hg] at d6
 replace d8:=d8 hg
 replace he:e=bm (bg _ x _) [(17,vs 6),(19,vs 8)]:=he
 rw[d6,d8] at he
 subst he
 refine W ?_
 exact dn ((cu w.heap.size ([str t.aw,.slice pa t.ak.length pc]) 74).refl _) (show((bB s).isSome&&dw t)=true->_=((.bool (decide ((fg t:Int)<=120))):Value) from λ_=>rfl)
 rw[hg] at d6
 replace he:e=bm (bg _ x _) [(17,vs 6),(19,vs 8)]:=he
 rw[d6] at he
 subst he
 refine W ?_
 exact dn ((cu w.heap.size ([str t.aw,.slice pa t.ak.length pc]) 74).refl _) (show((bB s).isSome&&dw t)=true->_=(_:Value) from λhh=>nomatch hg.symm.trans hh)
 refine dY ?_ ?_
 intro x vs w5 e aP hd he
 have aX:(vs 6=(.bool ((bB s).isSome&&dw t)))∧(((bB s).isSome&&dw t)=true->vs 9=(.bool (decide ((fg t:Int)<=120)))):=hd
 obtain⟨d6,d9⟩:=aX
 replace aP:=(cu w.heap.size ([str t.aw,.slice pa t.ak.length pc]) 74).trans aB aP
 rcases bE ((bB s).isSome&&dw t) with hg|hg
 rw[hg] at d6
 replace d9:=d9 hg
 replace he:e=bm (bg _ x _) [(17,vs 6),(20,vs 9)]:=he
 rw[d6,d9] at he
 subst he
 refine W ?_
 exact dn ((cu w.heap.size ([str t.aw,.slice pa t.ak.length pc]) 74).refl _) (by first|rfl|(rw[hg];rfl))
 rw[hg] at d6
 replace he:e=bm (bg _ x _) [(17,vs 6),(20,vs 9)]:=he
 rw[d6] at he
 subst he
 refine W ?_
 exact dn ((cu w.heap.size ([str t.aw,.slice pa t.ak.length pc]) 74).refl _) (by first|rfl|(rw[hg];rfl))
 refine dY ?_ ?_
 intro x vs w5 e aP hd he
 have d0:vs 0=(.agg #[str t.aw,.slice pa t.ak.length pc]):=hd
 replace aP:=(cu w.heap.size ([str t.aw,.slice pa t.ak.length pc]) 74).trans aB aP
 obtain⟨us,uN,uO⟩:=aP.2.2 ⟨_,(by rfl),aN⟩
 replace he:e=bm (bg _ x _) [(11,vs 0)]:=he
 rw[d0] at he
 subst he
 refine cw aL rfl rfl rfl uO (by rw[uN];rfl) λw6 bO hb kF=>W ?_
 exact dn ⟨bO,λ_=>hb,λ_=>⟨_,rfl,hb⟩⟩ hb
 refine dY ?_ ?_
 intro x vs w5 e aP hd he
 have d10:vs 10=(.bool (((bB s).isSome&&dw t)&&decide ((fg t:Int)<=120))):=hd
 replace aP:=(cu w.heap.size ([str t.aw,.slice pa t.ak.length pc]) 74).trans aB aP
 replace he:e=bm (bg _ x _) [(21,vs 10)]:=he
 rw[d10] at he
 subst he
 refine W ?_
 exact dn ((cu w.heap.size ([str t.aw,.slice pa t.ak.length pc]) 74).refl _) rfl
 exact trivial
 intro x vs ow iJ dO
 have d0:vs 0=(.agg #[str t.aw,.slice pa t.ak.length pc]):=dO 0 de
 have d1:vs 1=(.bool ((bB s).isSome)):=dO 1 de
 have d2:vs 2=(.bool ((bB s).isSome)):=dO 2 de
 have d3:((bB s).isSome)=true->vs 3=(.agg #[str t.aw,.slice pa t.ak.length pc]):=dO 3 de
 have d4:((bB s).isSome)=true->vs 4=(.bool (dw t)):=dO 4 de
 have d5:vs 5=(.bool ((bB s).isSome&&dw t)):=dO 5 de
 have d6:vs 6=(.bool ((bB s).isSome&&dw t)):=dO 6 de
 have d7:((bB s).isSome&&dw t)=true->vs 7=(.agg #[str t.aw,.slice pa t.ak.length pc]):=dO 7 de
 have d8:((bB s).isSome&&dw t)=true->vs 8=(.int .i64 (fg t:Int)):=dO 8 de
 have d9:((bB s).isSome&&dw t)=true->vs 9=(.bool (decide ((fg t:Int)<=120))):=dO 9 de
 have d10:vs 10=(.bool (((bB s).isSome&&dw t)&&decide ((fg t:Int)<=120))):=dO 10 de
 have d11:aJ ow w.heap.size ([str t.aw,.slice pa t.ak.length pc]).toArray 74:=dO 11 de
 have d12:vs 12=(.bool (((bB s).isSome&&dw t)&&decide ((fg t:Int)<=120))):=dO 12 de
 have hK:=hK.aD iJ.1 sx;have ht:=ht.aD iJ.1 sx
 have aN:=d11
 change OW _ _ _ _ [] (bm (bg _ x _) (zZ 11 [vs 0,vs 1,vs 2,vs 3,vs 4,vs 5,vs 6,vs 7,vs 8,vs 9,vs 10]++[(100011,vs 11),(3,vs 12)])) _
 rw[d0,d1,d2,d5,d6,d10,d12]
 refine W ?_
 exact⟨[_,_],⟨fb eQ aL rfl aN rfl,rfl⟩,⟨t,_,by rw[afI hp];rfl,ht.iF (λx hx=>by simp[hx]),hp⟩,hK⟩
theorem Nl (s:ai) (w:World):bz Tryz.prog 133 [str s] w λr w'=>r= .bool (l4 s)∧aj [] w w':=by
 have hK:=aj.refl [] w
 refine bX [.tmp 2] 11 Tryz.func133 rfl aaV rfl rfl ?_
 refine W ?_
 refine aA (GA s [] w sm) ?_
 rintro v1 w1 ⟨fX,aI⟩
 have dm:=aI.size
 have hK:=hK.ext aI
 obtain⟨t,tv,rfl,ht,hp⟩:=fX
 obtain⟨pa,pn,pc,rfl,eT,aQ⟩:=dj ht
 refine W ?_
 refine dk aL rfl rfl rfl λw2 az cF dJ=>?_
 have hK:=hK.grow;have hK:=hK.ext az
 refine cw aL rfl rfl rfl cF rfl λw3 aH cF gv=>?_
 have hK:=hK.aD aH sx
 refine W ?_
 exact⟨_,rfl,rfl,hK⟩
def nP (xs ys:List ai) (s d:ai):Nat->ai
 |0=>d
 |k+1=>if cv xs k=s then cv ys k else nP xs ys s d k
theorem Uj {xs' ys':List ai} {d:ai}:∀{k:Nat},(∀i,i<k->cv xs i=cv xs' i∧cv ys i=cv ys' i)->nP xs ys s d k=nP xs' ys' s d k
 |0,_=>rfl
 |k+1,h=>by
  unfold nP
  rw[(h k om).1,(h k om).2,Uj λi hi=>h i om]
theorem Uk (h:i<xs.length):cv (xs++ys) i=cv xs i:=by
 simp only[cv,gG]
 rw[List.getElem?_append_left h]
theorem Ul {x:ai} (h:i=xs.length):cv (xs++[x]) i=x:=by
 subst h;simp[cv]
theorem Um {xs:List ai} {x y d:ai} (h:xs.length=ys.length):nP (xs++[x]) (ys++[y]) s d (xs++[x]).length=if x=s then y else nP xs ys s d xs.length:=by
 rw[lA,List.length_singleton,nP,Ul rfl,Ul h,Uj (xs':=xs) (ys':=ys)]
 intro i hi
 exact⟨Uk hi,Uk om⟩
theorem Un {α:Type} {Q:List α->Prop} (h0:Q []) (h1:∀l a,Q l->Q (l++[a])) (l:List α):Q l:=by
 have:∀r:List α,Q r.reverse:=by
  intro r
  induction r with
  |nil=>exact h0
  |cons a r ih=>rw[List.reverse_cons];exact h1 _ _ ih
 have:=this l.reverse
 rwa [List.reverse_reverse] at this
def Uo:Option Ty->ai
 |some T=>T.text
 |none=>[]
theorem Up (s:ai):∀Γ:Sc,nP (Γ.map Prod.fst) (Γ.map λp=>p.2.text) s [] Γ.length=Uo (look Γ s):=by
 refine Un rfl λΓ p ih=>?_
 ·obtain⟨x,T⟩:=p
  have:=Um (xs:=Γ.map Prod.fst) (ys:=Γ.map λp=>p.2.text) (x:=x) (y:=T.text) (s:=s) (d:=[]) sm
  rw[oJ,List.map_append,List.map_append,lA]
  simp only[List.map_cons,List.map_nil,lA,List.length_map,List.length_singleton] at this⊢
  rw[this,ih]
  split<;>rfl
theorem afJ (s:ai):∀ρ:Rn,nP (ρ.map Prod.fst) (ρ.map Prod.snd) s s ρ.length=qe ρ s:=by
 refine Un rfl λρ p ih=>?_
 ·obtain⟨x,y⟩:=p
  have:=Um (xs:=ρ.map Prod.fst) (ys:=ρ.map Prod.snd) (x:=x) (y:=y) (s:=s) (d:=s) sm
  rw[Mf,List.map_append,List.map_append,lA]
  simp only[List.map_cons,List.map_nil,lA,List.length_map,List.length_singleton] at this⊢
  rw[this,ih]
theorem GB (xs ys:List ai) (hl:xs.length=ys.length) (hx:xs.length<=1000000000) (s:ai) (v u:Value) (L L2:List Nat) (w:World) (hv:bc L w v xs) (hu:bc L2 w u ys):
  bz Tryz.prog 196 [v,u,str s] w λr w'=>r=str (nP xs ys s [] xs.length)∧aj [] w w':=by
 obtain⟨a,n,c,rfl,hn⟩:=dI hv
 obtain⟨a2,n2,c2,rfl,eK⟩:=dI hu
 subst hn eK
 have hK:=aj.refl [] w
 refine bX [.tmp 6] 25 Tryz.func196 rfl abM rfl rfl ?_
 refine W ?_
 refine eH (λk:Nat=>[(0,.slice a xs.length c),(1,.slice a2 ys.length c2),(2,str s),(7,.int .i64 ((k:Int)-1))]) (λk w'=>w'=w∧k<=xs.length∧nP xs ys s [] xs.length=nP xs ys s [] k) (λk=>k) xs.length (⟨rfl,rfl,rfl,rfl⟩) (⟨rfl,lR _,rfl⟩) λgg w1 e1 hI=>?_
 obtain⟨e,hk,hq⟩:=hI
 subst e
 refine W ?_
 refine zc rfl (λh1=>?_) (λh1=>?_)
 have aX:∃k,gg=k+1:=⟨gg-1,om⟩
 obtain⟨k,rfl⟩:=aX
 have uP:=jN (xs:=xs) (i:=k) om
 have Nn:=jN (xs:=ys) (i:=k) om
 obtain⟨b1,eR,rfl,bF⟩:=mu hv uP
 obtain⟨b2,l5,rfl,bU⟩:=mu hu Nn
 have hi:((k+1:Nat):Int)-1=(k:Int):=by omega
 rw[hi]
 refine W ?_
 refine zc rfl (λh2=>?_) (λh2=>?_)
 refine W ?_
 exact⟨_,rfl,by rw[hq,nP,iP h2];rfl,hK⟩
 have dH:=h2
 refine W ?_
 exact⟨k,⟨rfl,rfl,rfl,rfl⟩,⟨rfl,om,by rw[hq,nP,iN dH]⟩,om⟩
 have h0:gg=0:=by omega
 refine W ?_
 exact⟨_,rfl,by rw[hq,h0];rfl,hK⟩
theorem afK (xs ys:List ai) (hl:xs.length=ys.length) (hx:xs.length<=1000000000) (s:ai) (v u:Value) (L L2:List Nat) (w:World) (hv:bc L w v xs) (hu:bc L2 w u ys):
  bz Tryz.prog 240 [v,u,str s] w λr w'=>r=str (nP xs ys s s xs.length)∧aj [] w w':=by
 obtain⟨a,n,c,rfl,hn⟩:=dI hv
 obtain⟨a2,n2,c2,rfl,eK⟩:=dI hu
 subst hn eK
 have hK:=aj.refl [] w
 refine bX [.tmp 6] 26 Tryz.func240 rfl ab8 rfl rfl ?_
 refine W ?_
 refine eH (λk:Nat=>[(0,.slice a xs.length c),(1,.slice a2 ys.length c2),(2,str s),(7,.int .i64 ((k:Int)-1))]) (λk w'=>w'=w∧k<=xs.length∧nP xs ys s s xs.length=nP xs ys s s k) (λk=>k) xs.length (⟨rfl,rfl,rfl,rfl⟩) (⟨rfl,lR _,rfl⟩) λgg w1 e1 hI=>?_
 obtain⟨e,hk,hq⟩:=hI
 subst e
 refine W ?_
 refine zc rfl (λh1=>?_) (λh1=>?_)
 have aX:∃k,gg=k+1:=⟨gg-1,om⟩
 obtain⟨k,rfl⟩:=aX
 have uP:=jN (xs:=xs) (i:=k) om
 have Nn:=jN (xs:=ys) (i:=k) om
 obtain⟨b1,eR,rfl,bF⟩:=mu hv uP
 obtain⟨b2,l5,rfl,bU⟩:=mu hu Nn
 have hi:((k+1:Nat):Int)-1=(k:Int):=by omega
 rw[hi]
 refine W ?_
 refine zc rfl (λh2=>?_) (λh2=>?_)
 refine W ?_
 exact⟨_,rfl,by rw[hq,nP,iP h2];rfl,hK⟩
 have dH:=h2
 refine W ?_
 exact⟨k,⟨rfl,rfl,rfl,rfl⟩,⟨rfl,om,by rw[hq,nP,iN dH]⟩,om⟩
 have h0:gg=0:=by omega
 refine W ?_
 exact⟨_,rfl,by rw[hq,h0];rfl,hK⟩
theorem GC:∀row,row∈il xs->∀c,c∈row->∀v,c= .val v->v.oneCell'=true:=by
 intro row hr
 simp only[il,List.mem_map] at hr
 obtain⟨x,_,rfl⟩:=hr
 intro c hc u hu
 simp only[mC,List.not_mem_nil,or_false] at hc
 subst hc
 cases hu
 rfl
theorem Uq (xs ys:List ai):il xs++il ys=il (xs++ys):=by simp[il]
theorem tL (xs ys:List ai) (hx:xs.length+ys.length<100000000) (v u:Value) (L:List Nat) (w:World) (hv:bc L w v xs) (hu:bc L w u ys) (hL:∀x,x∈L->x<w.heap.size):
  bz Tryz.prog 116 [v,u] w λr w'=>bc L w' r (xs++ys)∧aj [] w w':=by
 obtain⟨a,n,c,rfl,hn⟩:=dI hv
 obtain⟨a2,n2,c2,rfl,eK⟩:=dI hu
 subst hn eK
 have hK:=aj.refl [] w
 refine bX [.tmp 4] 10 Tryz.func116 rfl RC rfl rfl ?_
 refine W ?_
 refine xw w.heap.size L bh bf rfl rfl (lR _) hL λw1 aI db hO=>?_
 have hK:=hK.ext aI
 have eW:=bN.ext (bN.fresh hv (L':=w.heap.size::L) xq) aI
 refine zm<|wa bh bf rfl rfl rfl rfl rfl rfl hO eW GC (by rw[qB];simp;omega) λa4 ir g4 w2 kO az=>?_
 have hK:=hO.since hK az
 have No:=bN.ext (bN.fresh hu (L':=g4.toList++L) (λx hx=>by rcases mA.1 hx with hx|hx;(·exact .inr (kO.low x (by simpa using hx)));(·exact .inl hx))) hK
 refine zm<|wa bh bf rfl rfl rfl rfl rfl rfl kO No GC (by simp only[lA,qB];simp;omega) λa5 Ur g5 w3 kP aH=>?_
 have hK:=kO.since hK aH
 refine W ?_
 exact⟨_,rfl,(by have:=kP.done;rw[List.nil_append,Uq] at this;exact this),hK⟩
def sK (t:au) (i:Nat):List ai:=if(nth t.ak 0).aw=fV∧i=3 then[(nth t.ak 1).aw] else if(nth t.ak 0).aw=gF then[(nth t.ak 1).aw,(nth t.ak 2).aw] else[]
theorem Us (h:e.ok) (ha:e.iv=false) (i:Nat):sK e.aq i=e.binds i:=by
 cases e with
 |«at» s=>cases ha
 |un hd a=>
  have h1:hd≠fV∧hd≠gF:=by constructor<;>intro e<;>rw[e] at h<;>exact absurd h.1 de
  simp[sK,Ex.aq,au.ak,nth,bL,au.aw,h1.1,h1.2,Ex.binds]
 |bi hd a b=>
  have h1:hd≠fV∧hd≠gF:=by constructor<;>intro e<;>rw[e] at h<;>exact absurd h.1 de
  simp[sK,Ex.aq,au.ak,nth,bL,au.aw,h1.1,h1.2,Ex.binds]
 |ite a b c=>simp[sK,Ex.aq,au.ak,nth,bL,au.aw,Ex.binds]
 |lt x a b=>
  by_cases h3:i=3
  ·subst h3;simp[sK,Ex.aq,au.ak,nth,bL,au.aw,Ex.binds]
  ·have:(Ex.lt x a b).binds i=[]:=by unfold Ex.binds;split<;>first|rfl|simp_all
   rw[this]
   simp[sK,Ex.aq,au.ak,nth,bL,au.aw,h3]
 |fn f x A B b=>simp[sK,Ex.aq,au.ak,nth,bL,au.aw,Ex.binds]
theorem Ut (t:au) (h0:0<t.ak.length) (B8:(nth t.ak 0).aw=fV->1<t.ak.length) (nD:(nth t.ak 0).aw=gF->2<t.ak.length) (i:Nat) (v:Value) (L:List Nat) (w:World) (hv:bC L w v t):
  bz Tryz.prog 239 [v,.int .i64 (i:Int)] w λr w'=>(∀Lr,(∀x,x∈Lr->x<w.heap.size)->bc Lr w' r (sK t i))∧aj [] w w':=by
 obtain⟨a,n,c,rfl,hn,aQ⟩:=dj hv
 subst hn
 have hK:=aj.refl [] w
 obtain⟨b,off,pa,pn,pc,rfl,er,eT,fD⟩:=ik aQ (fK h0)
 have jh:∀i,i<t.ak.length->∃pa pn pc,fQ w b (off+i*2) [str (nth t.ak i).aw,.slice pa pn pc]:=by intro i hi;obtain⟨b1,eR,gd,pG,gh,e1,bF,qL,nI⟩:=ik aQ (fK hi);cases e1;exact⟨_,_,_,bF⟩
 refine bX [.tmp 4] 41 Tryz.func239 rfl ab7 rfl rfl ?_
 refine zr<|eu rfl λw1 aI aN db=>bI aI hK er λhK er=>?_
 refine W ?_
 apply oB 3 12 15 rfl oQ
 intro _
 exact oQ
 intro xx
 refine zA<|aZ<|zc rfl (λh2=>?_) (λh2=>?_)
 have hq:(nth t.ak 0).aw=fV∧i=3:=(by simp only[aE,dE] at h2;exact⟨h2.1,om⟩)
 obtain⟨gd,pG,gh,bF⟩:=jh 1 (B8 hq.1)
 have bF:=bF.ext hK
 have fj:=B8 hq.1
 have hb:sK t i=[(nth t.ak 1).aw]:=iP hq
 refine W ?_
 refine fF bh bf rfl rfl λw2 az uQ dJ=>?_
 have hK:=hK.ext az
 refine W ?_
 exact⟨_,rfl,λLr Jl=>(by rw[hb];exact aJ.dK [(nth t.ak 1).aw] uQ (λhx=>by have:=Jl _ hx;omega)),hK⟩
 have zF:¬((nth t.ak 0).aw=fV∧i=3):=(λhh=>by simp only[Bool.and_eq_false_iff,decide_eq_false_iff_not] at h2;rcases h2 with h|h;(·exact h hh.1);(·exact h om))
 refine W ?_
 refine zc rfl (λh3=>?_) (λh3=>?_)
 have hq:=h3
 have iw:=nD hq
 obtain⟨gd,pG,gh,bF⟩:=jh 1 om
 obtain⟨iA,Ay,iB,bU⟩:=jh 2 om
 have bF:=bF.ext hK;have bU:=bU.ext hK
 have hb:sK t i=[(nth t.ak 1).aw,(nth t.ak 2).aw]:=by unfold sK;rw[iN zF,iP hq]
 refine WZ ?_
 apply tC cT 11 (rA 29 11) (rA 29 11) [[],[0],[1],[2],[3],[],[5],[6],[7],[8],[4,9]] [It.v _,It.v _,It.v _,It.v _,It.v _,It.v _,It.v _,It.v _,It.v _,It.v _,It.p (fun(v:Value) (ww:World)=>∃bb,v= .slice (some ⟨bb,0,none⟩) 2 2∧w.heap.size<=bb∧aJ ww bb [str (nth t.ak 1).aw,str (nth t.ak 2).aw].toArray 9)] de (by exact⟨λv w w' ⟨bb,e,h1,h2⟩ k=>⟨bb,e,h1,h2.ext k⟩,trivial⟩)
 intro wd aB
 refine vc (λ_ _ _=>WZ pv) ?_
 refine vk aB (λx w2 az=>?_) ?_
 have aN:=aN.ext az
 refine WZ ?_
 exact pv
 refine vk aB (λx w2 az=>?_) ?_
 refine zi (i:=1) cB aL rfl rfl om ?_
 exact pv
 refine VA ?_
 refine vk aB (λx w2 az=>?_) ?_
 have hK:=hK.ext az
 have oZ:=hK.size
 refine kK bh bf rfl rfl rfl rfl ?_
 intro w3 aH yd gv
 exact pf aH (⟨_,rfl,oZ,yd⟩)
 exact trivial
 intro x nO gi
 intro v10 d10
 have hK:=hK.ext gi
 change OW _ _ _ _ _ (bm (bg _ x _) (zZ 29 [_,_,_,_,_,_,_,_,_,_,_])) _
 obtain⟨bb,e39,jH,yd⟩:=d10
 refine W ?_
 exact⟨_,rfl,λLr Jl=>(by rw[hb];subst e39;exact aJ.dK [(nth t.ak 1).aw,(nth t.ak 2).aw] yd (λhx=>by have:=Jl _ hx;omega)),hK⟩
 have hb:sK t i=[]:=(by unfold sK;rw[iN zF,iN h3])
 refine gz<|zr<|xw w.heap.size [] bh bf rfl rfl hK.size sm λw2 az db hO=>?_
 have hK:=hK.ext az
 refine W ?_
 exact⟨_,rfl,λLr Jl=>(by rw[hb];exact bN.nil _ _ _),hK⟩
theorem GD (h:e.ok) (ha:e.iv=false):0<e.aq.ak.length∧((nth e.aq.ak 0).aw=fV->1<e.aq.ak.length)∧((nth e.aq.ak 0).aw=gF->2<e.aq.ak.length):=by
 cases e with
 |«at» s=>cases ha
 |un hd a=>
  have hn:hd≠gF:=by intro e;rw[e] at h;exact absurd h.1 de
  exact⟨by simp[Ex.aq,au.ak],λ_=>by simp[Ex.aq,au.ak],λh=>absurd h hn⟩
 |bi hd a b=>exact⟨by simp[Ex.aq,au.ak],λ_=>by simp[Ex.aq,au.ak],λh=>by simp[Ex.aq,au.ak]⟩
 |ite a b c=>exact⟨by simp[Ex.aq,au.ak],λ_=>by simp[Ex.aq,au.ak],λh=>by simp[Ex.aq,au.ak]⟩
 |lt x a b=>exact⟨by simp[Ex.aq,au.ak],λ_=>by simp[Ex.aq,au.ak],λh=>by simp[Ex.aq,au.ak]⟩
 |fn f x A B b=>exact⟨by simp[Ex.aq,au.ak],λ_=>by simp[Ex.aq,au.ak],λh=>by simp[Ex.aq,au.ak]⟩
theorem Uu (e:Ex) (i:Nat):(e.binds i).length<=2:=by unfold Ex.binds;split<;>simp
theorem Uv (x:ai) (e:Ex) (k:Nat):zB x e (k+1)=zB x e k+if x∈e.binds (e.from+k) then 0 else jR x (fL e k):=rfl
theorem Uw (x:ai) (e:Ex):∀{i j:Nat},i<=j->zB x e i<=zB x e j
 |i,0,h=>by have:i=0:=om;subst this;exact lR _
 |i,j+1,h=>by
  rcases Nat.lt_or_ge i (j+1) with h1|h1
  ·have:=Uw x e (i:=i) (j:=j) om;rw[Uv];omega
  ·have:i=j+1:=by omega
   subst this;exact lR _
theorem uR (h:e.ok):e.aq.aw≠[]↔e.iv=true:=by
 cases e with
 |«at» s=>exact⟨λ_=>rfl,λ_=>pz h⟩
 |_=>exact⟨λhh=>absurd rfl hh,λhh=>by cases hh⟩
theorem GF (e:Ex):e.from+e.kids.length<=6:=by cases e<;>simp[Ex.from,Ex.kids]
theorem afM (s:ai):∀(m:Nat) (e:Ex),e.n<=m->e.n<=1000000->e.ok->∀(v:Value) (L:List Nat) (w:World),bC L w v e.aq->
  bz Tryz.prog 244 [v,str s] w λr w'=>r= .int .i64 (jR s e:Int)∧aj [] w w':=by
 intro m
 induction m with
 |zero=>intro e h;have:=e.pos;omega
 |succ m ih=>
  intro e hm mJ ba v L w hv
  have dd:=hv
  obtain⟨a,n,c,rfl,hn,aQ⟩:=dj hv
  subst hn
  have hK:=aj.refl [] w
  have hce:=count_le s e
  have Jm:=GF e
  refine bX [.tmp 4] 47 Tryz.func244 rfl acd rfl rfl ?_
  refine zr<|eu rfl λw1 aI aN db=>cG aI hK aQ dd λhK aQ dd=>?_
  refine W ?_
  refine zc rfl (λh1=>?_) (λh1=>?_)
  have aX:∃x,e= .at x:=(by have ha:=(uR ba).1 h1;cases e<;>first|exact⟨_,rfl⟩|cases ha)
  obtain⟨x,rfl⟩:=aX
  refine W ?_
  refine zc rfl (λh2=>?_) (λh2=>?_)
  have hq:jR s (.at x)=1:=iP h2
  refine W ?_
  exact⟨_,rfl,by rw[hq];rfl,hK⟩
  have hq:jR s (.at x)=0:=iN h2
  refine W ?_
  exact⟨_,rfl,by rw[hq];rfl,hK⟩
  have eD:e.iv=false:=(by cases hh:e.iv;rfl;exact absurd ((uR ba).2 hh) h1)
  obtain⟨GG,mH,ji,wj⟩:=Ex.ak eD
  obtain⟨fO,Ea,Eb⟩:=GD ba eD
  have GH:=Mb ba eD
  have k9:dS (nth e.aq.ak 0).aw=(e.from,e.from+e.kids.length):=by rw[ji];exact GH
  obtain⟨b,off,pa,pn,pc,rfl,er,eT,fD⟩:=ik aQ (fK fO)
  refine W ?_
  refine aA (Jj _ _) ?_
  rintro _ _ ⟨rfl,rfl⟩
  rw[yb k9]
  refine W ?_
  refine eH (λk:Nat=>[(1,str s),(2,.pointer (some ⟨w.heap.size,0,none⟩)),(5,.int .i64 (zB s e k:Int)),(7,.int .i64 ((e.from+e.kids.length:Nat):Int)),(8,.int .i64 ((e.from+k:Nat):Int))]) (λk w'=>aj [] w w'∧aj [] w1 w'∧k<=e.kids.length) (λk=>e.kids.length-k) (0) (⟨rfl,rfl,rfl,rfl,rfl⟩) (⟨hK,aj.refl _ _,om⟩) λgg w2 e2 hI=>?_
  obtain⟨hK,kr,hk⟩:=hI
  refine cG kr aN aQ dd λaN aQ dd=>?_
  refine W ?_
  refine zc rfl (λh3=>?_) (λh3=>?_)
  have gK:gg<e.kids.length:=om
  have sy:=wj gg gK
  obtain⟨b1,eR,gd,pG,gh,e1,bF,qL,nI⟩:=ik aQ (fK (i:=e.from+gg) om)
  cases e1
  subst qL
  have cK:=(lW nI).eq sy
  have tM:=FN ba gK
  have aS:=Uv s e gg
  have hmo:=Uw s e (i:=gg+1) (j:=e.kids.length) om
  have hto:=R3 eD s
  refine W ?_
  refine aA (Ut e.aq fO Ea Eb (e.from+gg) _ _ w2 dd) ?_
  rintro v3 w3 ⟨jb,aH⟩
  have eU:=aH.size
  refine la aH hK aN kr bF cK λhK aN kr bF cK=>?_
  have uo:=jb [] sm
  rw[Us ba eD] at uo
  have hbf:=Uu e (e.from+gg)
  refine zm<|aA (An (e.binds (e.from+gg)) om s _ [] w3 uo) ?_
  rintro _ w4 ⟨rfl,aO⟩
  have fG:=aO.size
  refine la aO hK aN kr bF cK λhK aN kr bF cK=>?_
  refine km rfl rfl rfl<|aZ<|zc rfl (λh4=>?_) (λh4=>?_)
  have mF:¬s∈e.binds (e.from+gg):=(by simpa using h4)
  rw[iN mF] at aS
  refine W ?_
  refine aA (ih (fL e gg) om om tM.1 _ _ w4 cK) ?_
  rintro _ w5 ⟨rfl,aP⟩
  have og:=aP.size
  refine bI aP hK kr λhK kr=>?_
  refine W ?_
  exact⟨gg+1,⟨rfl,rfl,congrArg (Value.int .i64) om,rfl,congrArg (Value.int .i64) om⟩,⟨hK,kr,om⟩,om⟩
  have mF:s∈e.binds (e.from+gg):=(by simpa using h4)
  rw[iP mF] at aS
  refine W ?_
  exact⟨gg+1,⟨rfl,rfl,congrArg (Value.int .i64) om,rfl,congrArg (Value.int .i64) om⟩,⟨hK,kr,om⟩,om⟩
  have fM:gg=e.kids.length:=by omega
  refine W ?_
  exact⟨_,rfl,by rw[R3 eD s,fM];rfl,hK⟩
theorem Ux (e:Ex) (bd l:List ai) (k:Nat):qb e bd l (k+1)=cI (fL e k) (bd++e.binds (e.from+k)) (qb e bd l k):=rfl
def kN (e:Ex) (k:Nat):Nat:=((e.kids.take k).map Ex.n).sum
theorem ye (h:k<e.kids.length):kN e (k+1)=kN e k+(fL e k).n:=by
 have h1:e.kids[k]?=some (fL e k):=by simp[fL,gE h]
 unfold kN
 rw[List.take_add_one,h1,List.map_append,List.sum_append]
 simp
theorem Ca (e:Ex) (k:Nat):kN e k<=e.n:=by
 have h1:kN e k<=(e.kids.map Ex.n).sum:=by
  conv=>rhs;rw[<-List.take_append_drop k e.kids,List.map_append,List.sum_append]
  unfold kN;omega
 have h2:(e.kids.map Ex.n).sum<=e.n:=by cases e<;>simp[Ex.kids,Ex.n]<;>omega
 omega
theorem Uy (e:Ex) (bd l:List ai):∀{k:Nat},k<=e.kids.length->(qb e bd l k).length<=l.length+kN e k
 |0,_=>by simp[qb,kN]
 |k+1,hk=>by
  rw[Ux,ye om]
  have h1:=Mc (fL e k) (bd++e.binds (e.from+k)) (qb e bd l k)
  have h2:=Uy e bd l (k:=k) om
  omega
theorem Jn:∀(m:Nat) (e:Ex),e.n<=m->e.n<=1000->e.ok->∀(bd l:List ai),bd.length+2*e.n<=100000->l.length+e.n<=100000->∀(v vb vl:Value) (g:Option Nat) (w:World),
  bC g.toList w v e.aq->bc g.toList w vb bd->cz w 9 vl g l->
  bz Tryz.prog 216 [v,vb,vl] w λr w'=>∃g',cz w' 9 r g' (cI e bd l)∧Fr g.toList w g'.toList w':=by
 intro m
 induction m with
 |zero=>intro e h;have:=e.pos;omega
 |succ m ih=>
  intro e hm mJ ba bd l uo hl v vb vl g w hv yf fR
  obtain⟨a,n,c,rfl,hn,aQ⟩:=dj hv
  subst hn
  obtain⟨ab,nb,cb,rfl,Uz⟩:=dI yf
  subst Uz
  obtain⟨al,cl,rfl⟩:=jw fR
  have pP:=fR.lt
  have oy:=fR.rs
  have hR:=Fr.refl g.toList w
  have Jm:=GF e
  have dd:=lW aQ
  refine bX [.tmp 6] 65 Tryz.func216 rfl abU rfl rfl ?_
  refine zr<|eu rfl λw1 aI cF db=>sB aI hR aQ yf fR oy dd λhR aQ yf fR oy dd=>?_
  refine W ?_
  refine zc rfl (λh1=>?_) (λh1=>?_)
  have aX:∃x,e= .at x:=(by have ha:=(uR ba).1 h1;cases e<;>first|exact⟨_,rfl⟩|cases ha)
  obtain⟨x,rfl⟩:=aX
  refine W ?_
  refine aA (uM _ _) ?_
  rintro _ _ ⟨rfl,rfl⟩
  refine WZ ?_
  apply oO 5 17 22 (aj [] w1) rfl oQ
  intro h2
  refine W ?_
  refine aA (An bd om x _ _ w1 yf) ?_
  rintro _ w2 ⟨rfl,az⟩
  have dy:=az.size
  exact oQ
  intro xx w3 aH
  refine gQ aH hR fR oy cF λhR fR oy cF=>?_
  refine WZ ?_
  apply oO 5 23 28 (aj [] w3) rfl oQ
  intro h3
  refine W ?_
  refine aA (An l om x _ _ w3 oy) ?_
  rintro _ w4 ⟨rfl,aO⟩
  have fG:=aO.size
  exact oQ
  intro xx w5 aP
  refine cG aP hR fR cF λhR fR cF=>?_
  refine aZ<|zc rfl (λh4=>?_) (λh4=>?_)
  have hq:cI (.at x) bd l=l:=iP h4
  refine W ?_
  exact⟨_,rfl,g,by rw[hq];exact fR,hR⟩
  have hq:cI (.at x) bd l=l++[x]:=iN (λhh=>Bool.noConfusion (hh.symm.trans h4))
  refine W ?_
  refine fF bh bf rfl rfl λw6 bO Jo kF=>bI bO hR fR λhR fR=>?_
  refine Tg bh bf rfl rfl rfl rfl rfl rfl fR Jo om λv5 g5 w7 kP bV pQ=>?_
  have hR:=hR.go pQ
  refine W ?_
  exact⟨_,rfl,g5,by rw[hq];exact kP,hR⟩
  have eD:e.iv=false:=(by cases hh:e.iv;rfl;exact absurd ((uR ba).2 hh) h1)
  obtain⟨GG,mH,ji,wj⟩:=Ex.ak eD
  obtain⟨fO,Ea,Eb⟩:=GD ba eD
  have GH:=Mb ba eD
  have k9:dS (nth e.aq.ak 0).aw=(e.from,e.from+e.kids.length):=by rw[ji];exact GH
  obtain⟨b,off,pa,pc,rfl,er,hT0⟩:=eS aQ fO
  have cF:=cF.o pP
  refine W ?_
  refine aA (Jj _ _) ?_
  rintro _ _ ⟨rfl,rfl⟩
  rw[yb k9]
  refine W ?_
  refine eH (λq:Nat×Value×Option Nat=>[(1,.slice ab bd.length cb),(2,q.2.1),(3,.pointer (some ⟨w.heap.size,0,none⟩)),(8,.int .i64 ((e.from+e.kids.length:Nat):Int)),(9,.int .i64 ((e.from+q.1:Nat):Int))]) (λq w'=>Fr g.toList w q.2.2.toList w'∧Fr g.toList w1 q.2.2.toList w'∧cz w' 9 q.2.1 q.2.2 (qb e bd l q.1)∧q.1<=e.kids.length) (λq=>e.kids.length-q.1) ((0,.slice al l.length cl,g)) (⟨rfl,rfl,rfl,rfl,rfl⟩) (⟨hR,Fr.refl _ _,fR,sm⟩) λgg w2 e2 hI=>?_
  obtain⟨k,vl,gl⟩:=gg
  dsimp only at hI⊢
  obtain⟨hR,kr,fR,hk⟩:=hI
  have cF:=cF.go kr;have aQ:=aQ.go kr;have yf:=yf.go kr;have dd:=dd.go kr
  refine W ?_
  refine zc rfl (λh5=>?_) (λh5=>?_)
  have gK:k<e.kids.length:=om
  have sy:=wj k gK
  obtain⟨b1,eR,gd,gh,e1,bF,cK⟩:=eS aQ (i:=e.from+k) om
  cases e1
  have cK:=cK.eq sy
  have tM:=FN ba gK
  have aS:=Ux e bd l k
  have hbf:=Uu e (e.from+k)
  have oW:=Uy e bd l (k:=k) om
  have AD:=ye gK
  have fZ:=Ca e (k+1)
  refine WZ ?_
  apply jF cT gl.toList 13 (rA 50 13) (rA 50 13) [[],[0],[],[1,2],[3],[],[],[5,6],[],[],[8,9],[7,10],[]] [Ie.v _,Ie.v _,Ie.v _,Ie.v _,Ie.v _,Ie.p (fun(G:List Nat) (v:Value) (ww:World)=>∃bb,v= .slice (some ⟨bb,0,none⟩) 0 0∧dL G ww bb #[] 9),Ie.v _,Ie.e 0,Ie.v _,Ie.v _,Ie.p (fun(G:List Nat) (v:Value) (ww:World)=>bc G ww v (e.binds (e.from+k))),Ie.e 1,Ie.v _] [7,11] [fun(G:List Nat) (vs:List Value) (ww:World)=>cz ww 9 vl gl (qb e bd l k)∧(∀x,x∈gl.toList->x∈G),fun(G:List Nat) (vs:List Value) (ww:World)=>(cz ww 9 vl gl (qb e bd l k)∧(∀x,x∈gl.toList->x∈G))∧∃g7,cz ww 9 (vs.getD 0 undef) g7 bd∧ql G ww 9 g7∧(∀x,x∈g7.toList->x∉gl.toList),fun(G:List Nat) (vs:List Value) (ww:World)=>(cz ww 9 vl gl (qb e bd l k)∧(∀x,x∈gl.toList->x∈G))∧∃g7,cz ww 9 (vs.getD 1 undef) g7 (bd++e.binds (e.from+k))∧ql G ww 9 g7∧(∀x,x∈g7.toList->x∉gl.toList)] de rfl fR.lt (by exact⟨λG v w G' w' ⟨bb,e,h⟩ k=>⟨bb,e,h.go k⟩,λG v w G' w' h k=>bc.go h k,trivial⟩) (by exact⟨λG vs w w' h k=>⟨h.1.ext k,h.2⟩,λG vs w w' ⟨h1,g7,h2,h3,h4⟩ k=>⟨⟨h1.1.ext k,h1.2⟩,g7,h2.ext k,h3.ext k,h4⟩,λG vs w w' ⟨h1,g7,h2,h3,h4⟩ k=>⟨⟨h1.1.ext k,h1.2⟩,g7,h2.ext k,h3.ext k,h4⟩,trivial⟩) (⟨fR,λx hx=>hx⟩)
  refine FA ?_
  refine vf (λx w3 G3 aR jn kt=>?_) ?_
  refine fN bh bf λw4 aO Cb gC=>?_
  exact ff aO (⟨_,rfl,Cb.o kt⟩)
  refine FA ?_
  refine ve 0 (λx w3 G3 aR jn kt hJ hlen=>?_) ?_
  have aV:=jj hlen
  subst aV
  have yf:=yf.go jn
  intro v5 d5
  obtain⟨bb,e5,fH⟩:=d5
  subst e5
  have hJ:cz w3 9 vl gl (qb e bd l k)∧(∀x,x∈gl.toList->x∈G3):=hJ
  refine D9 bh bf rfl rfl rfl rfl rfl rfl fH.gX.kL yf ‹_› (λx hx=>.inr (by simp at hx;subst hx;exact fH.gX)) so λv9 g9 w4 G9 cO Ec oZ ku cR et aC=>?_
  exact fe G9 cR et (⟨⟨hJ.1.aG aC (λb hb hx=>fH.out (by simp at hx;subst hx;exact hJ.2 _ (by simp[hb]))),λx hx=>ku x (hJ.2 x hx)⟩,g9,cO,Ec,λx hx fh=>(oZ x hx).elim (λh=>fH.out (by simp at h;subst h;exact hJ.2 _ fh)) (λh=>by have:=kt x (hJ.2 x fh);omega)⟩)
  refine FA ?_
  refine vf (λx w3 G3 aR jn kt=>?_) ?_
  have dd:=dd.go jn
  refine aA (Ut e.aq fO Ea Eb (e.from+k) _ _ w3 dd) ?_
  rintro v4 w4 ⟨jU,aO⟩
  have fG:=aO.size
  have afP:=jU
  exact ff aO ((by have h9:=afP _ kt;rw[Us ba eD] at h9;exact h9))
  refine ve 1 (λx w3 G3 aR jn kt hJ hlen=>?_) ?_
  obtain⟨q0,aV⟩:=jk hlen
  subst aV
  intro v10 d10
  have hJ:(cz w3 9 vl gl (qb e bd l k)∧(∀x,x∈gl.toList->x∈G3))∧∃g7,cz w3 9 q0 g7 bd∧ql G3 w3 9 g7∧(∀x,x∈g7.toList->x∉gl.toList):=hJ
  obtain⟨⟨DV,rB⟩,g7,Cc,Cd,Jp⟩:=hJ
  refine D9 bh bf rfl rfl rfl rfl rfl rfl Cc d10 ‹_› Cd om λv9 g9 w4 G9 cO Ec oZ ku cR et aC=>?_
  exact fe G9 cR et (⟨⟨DV.aG aC (λb hb hx=>Jp b hx (by simp[hb])),λx hx=>ku x (rB x hx)⟩,g9,cO,Ec,λx hx fh=>(oZ x hx).elim (λh=>Jp x h fh) (λh=>by have:=kt x (rB x fh);omega)⟩)
  exact FZ
  intro x l6 GI aR Ed Np hJ hlen
  obtain⟨q0,q1,aV⟩:=k8 hlen
  subst aV
  intro v5 d5
  intro v10 d10
  have hR:=hR.go Ed;have kr:=kr.go Ed;have cK:=cK.go Ed
  change OW _ _ _ _ _ (bm (bg _ x _) (zZ 50 [_,_,_,_,_,_,_,_,_,_,_,_,_])) _
  have hJ:(cz l6 9 vl gl (qb e bd l k)∧(∀x,x∈gl.toList->x∈GI))∧∃g7,cz l6 9 q1 g7 (bd++e.binds (e.from+k))∧ql GI l6 9 g7∧(∀x,x∈g7.toList->x∉gl.toList):=hJ
  obtain⟨⟨DV,rB⟩,g7,Cc,Cd,Jp⟩:=hJ
  refine aA (ih (fL e k) om om tM.1 (bd++e.binds (e.from+k)) (qb e bd l k) (by rw[lA];omega) om _ _ _ gl l6 (cK.iF (λx hx=>rB x hx)) (Cc.rep (λb hb=>Jp b (by simp[hb]))) DV) ?_
  rintro Nq mI ⟨Nr,Jq,GJ⟩
  refine W ?_
  exact⟨(k+1,Nq,Nr),⟨rfl,rfl,rfl,rfl,congrArg (Value.int .i64) so⟩,⟨(hR.to (λx hx=>.inl (rB x hx))).go GJ,(kr.to (λx hx=>.inl (rB x hx))).go GJ,Jq,by simp;omega⟩,by simp;omega⟩
  have fM:k=e.kids.length:=by omega
  refine W ?_
  exact⟨_,rfl,gl,by rw[adY eD,<-fM];exact fR,hR⟩
theorem afQ (s:ai) (w:World):bz Tryz.prog 195 [str s] w λv w'=>(∃a n c,v= .tuple #[.slice a n c,.bool (l4 s)]∧(l4 s=true->∃e:Ex,bB s=some e.aq∧e.ok∧e.n<=120∧bc [] w' (.slice a n c) (cI e [] [])))∧aj [] w w':=by
 have hK:=aj.refl [] w
 refine bX [.tmp 2,.tmp 3] 18 Tryz.func195 rfl abL rfl rfl ?_
 refine W ?_
 refine aA (GA s [] w sm) ?_
 rintro v1 w1 ⟨fX,aI⟩
 have dm:=aI.size
 have hK:=hK.ext aI
 obtain⟨t,tv,rfl,ht,hp⟩:=fX
 obtain⟨pa,pn,pc,rfl,eT,aQ⟩:=dj ht
 refine W ?_
 refine dk aL rfl rfl rfl λw2 az aF dJ=>?_
 have hK:=hK.grow;have hK:=hK.ext az;have ht:=ht.grow;have ht:=ht.ext az
 refine cw aL rfl rfl rfl aF rfl λw3 aH aF gv=>?_
 have hK:=hK.aD aH sx;have ht:=ht.aD aH sx
 refine W ?_
 refine zc rfl (λh1=>?_) (λh1=>?_)
 have hx:l4 s=false:=by simpa using h1
 refine zr<|fN bh bf λw4 aO lF gC=>?_
 have hK:=hK.ext aO
 refine W ?_
 exact⟨_,rfl,⟨_,_,_,by rw[hx];rfl,λh=>by rw[hx] at h;cases h⟩,hK⟩
 have hx:l4 s=true:=by simpa using h1
 obtain⟨e,he,ba,hn⟩:=wh.1 hx
 have e2:=hp.1 _ he
 subst e2
 refine W ?_
 refine fN bh bf λw4 aO Jr Jt=>bI aO ht hK λht hK=>?_
 refine fN bh bf ?_
 have M0:=bC.grow (ht.iF (L':=[]) sm)
 intro w5 aP wc GK
 have ht:=M0.ext aP
 have hK:=hK.ext aP
 refine aA (Jn 120 e hn om ba [] [] so so _ _ _ (some _) w5 ht (bN.nil _ _ _) wc.kL) ?_
 rintro v9 w6 ⟨g9,cO,cR⟩
 obtain⟨a9,c9,rfl⟩:=jw cO
 have hK:=hK.since cR.aG (λx hx=>.inr (by simp at hx;omega))
 refine W ?_
 exact⟨_,rfl,⟨_,_,_,by rw[hx];rfl,λ_=>⟨e,he,ba,hn,cO.rs⟩⟩,hK⟩
theorem Ee {a b:ai} (h:bL a=bL b):a=b:=by simpa[bL] using h
theorem qm:∀{e f:Ex},e.ok->f.ok->e.aq=f.aq->e=f
 | .at s,.at r,_,_,h=>by rw[Ee h]
 | .at s,.un ..,h1,_,h=>absurd (congrArg au.aw h) (pz h1)
 | .at s,.bi ..,h1,_,h=>absurd (congrArg au.aw h) (pz h1)
 | .at s,.ite ..,h1,_,h=>absurd (congrArg au.aw h) (pz h1)
 | .at s,.lt ..,h1,_,h=>absurd (congrArg au.aw h) (pz h1)
 | .at s,.fn ..,h1,_,h=>absurd (congrArg au.aw h) (pz h1)
 | .un ..,.at s,_,h1,h=>absurd (congrArg au.aw h).symm (pz h1)
 | .bi ..,.at s,_,h1,h=>absurd (congrArg au.aw h).symm (pz h1)
 | .ite ..,.at s,_,h1,h=>absurd (congrArg au.aw h).symm (pz h1)
 | .lt ..,.at s,_,h1,h=>absurd (congrArg au.aw h).symm (pz h1)
 | .fn ..,.at s,_,h1,h=>absurd (congrArg au.aw h).symm (pz h1)
 | .un h a,.un h' a',k,k',e=>by
  have e:=congrArg au.ak e
  simp only[Ex.aq,au.ak,List.cons.injEq,and_true] at e
  rw[Ee e.1,qm k.2 k'.2 e.2]
 | .bi h a b,.bi h' a' b',k,k',e=>by
  have e:=congrArg au.ak e
  simp only[Ex.aq,au.ak,List.cons.injEq,and_true] at e
  rw[Ee e.1,qm k.2.1 k'.2.1 e.2.1,qm k.2.2 k'.2.2 e.2.2]
 | .ite a b c,.ite a' b' c',k,k',e=>by
  have e:=congrArg au.ak e
  simp only[Ex.aq,au.ak,List.cons.injEq,and_true] at e
  rw[qm k.1 k'.1 e.2.1,qm k.2.1 k'.2.1 e.2.2.1,qm k.2.2 k'.2.2 e.2.2.2]
 | .lt x a b,.lt x' a' b',k,k',e=>by
  have e:=congrArg au.ak e
  simp only[Ex.aq,au.ak,List.cons.injEq,and_true] at e
  rw[Ee e.2.1,qm k.2.1 k'.2.1 e.2.2.1,qm k.2.2 k'.2.2 e.2.2.2]
 | .fn f x A B b,.fn f' x' A' B' b',k,k',e=>by
  have e:=congrArg au.ak e
  simp only[Ex.aq,au.ak,List.cons.injEq,and_true] at e
  rw[Ee e.2.1,Ee e.2.2.1,FM e.2.2.2.1,FM e.2.2.2.2.1,qm k.2.2.2.2.2 k'.2.2.2.2.2 e.2.2.2.2.2]
 | .un ..,.bi ..,_,_,e=>by have e:=congrArg au.ak e;simp[Ex.aq,au.ak] at e
 | .un ..,.ite ..,_,_,e=>by have e:=congrArg au.ak e;simp[Ex.aq,au.ak] at e
 | .un ..,.lt ..,_,_,e=>by have e:=congrArg au.ak e;simp[Ex.aq,au.ak] at e
 | .un ..,.fn ..,_,_,e=>by have e:=congrArg au.ak e;simp[Ex.aq,au.ak] at e
 | .bi ..,.un ..,_,_,e=>by have e:=congrArg au.ak e;simp[Ex.aq,au.ak] at e
 | .bi ..,.ite ..,_,_,e=>by have e:=congrArg au.ak e;simp[Ex.aq,au.ak] at e
 | .bi ..,.lt ..,_,_,e=>by have e:=congrArg au.ak e;simp[Ex.aq,au.ak] at e
 | .bi ..,.fn ..,_,_,e=>by have e:=congrArg au.ak e;simp[Ex.aq,au.ak] at e
 | .ite ..,.un ..,_,_,e=>by have e:=congrArg au.ak e;simp[Ex.aq,au.ak] at e
 | .ite ..,.bi ..,_,_,e=>by have e:=congrArg au.ak e;simp[Ex.aq,au.ak] at e
 | .ite ..,.lt ..,_,_,e=>by have e:=congrArg au.ak e;simp[Ex.aq,au.ak,bL] at e
 | .ite ..,.fn ..,_,_,e=>by have e:=congrArg au.ak e;simp[Ex.aq,au.ak] at e
 | .lt ..,.un ..,_,_,e=>by have e:=congrArg au.ak e;simp[Ex.aq,au.ak] at e
 | .lt ..,.bi ..,_,_,e=>by have e:=congrArg au.ak e;simp[Ex.aq,au.ak] at e
 | .lt ..,.ite ..,_,_,e=>by have e:=congrArg au.ak e;simp[Ex.aq,au.ak,bL] at e
 | .lt ..,.fn ..,_,_,e=>by have e:=congrArg au.ak e;simp[Ex.aq,au.ak] at e
 | .fn ..,.un ..,_,_,e=>by have e:=congrArg au.ak e;simp[Ex.aq,au.ak] at e
 | .fn ..,.bi ..,_,_,e=>by have e:=congrArg au.ak e;simp[Ex.aq,au.ak] at e
 | .fn ..,.ite ..,_,_,e=>by have e:=congrArg au.ak e;simp[Ex.aq,au.ak] at e
 | .fn ..,.lt ..,_,_,e=>by have e:=congrArg au.ak e;simp[Ex.aq,au.ak] at e
def afR (s:ai) (e:Ex):Prop:=bB s=some e.aq∧e.ok∧e.n<=120∧cI e [] []=[]
theorem afS (s:ai) (w:World):bz Tryz.prog 158 [str s] w λv w'=>(∃b,v= .bool b∧(b=true↔∃e:Ex,afR s e))∧aj [] w w':=by
 have hK:=aj.refl [] w
 refine bX [.tmp 2] 16 Tryz.func158 rfl abf rfl rfl ?_
 refine W ?_
 refine aA (afQ s w) ?_
 rintro v1 w1 ⟨fX,aI⟩
 have dm:=aI.size
 have hK:=hK.ext aI
 obtain⟨a,n,c,rfl,hf⟩:=fX
 refine W ?_
 apply oB 4 11 15 rfl oQ
 intro _
 exact oQ
 intro xx
 refine zA<|aZ<|jJ<|⟨_,rfl,⟨_,rfl,?_⟩,hK⟩
 rw[aE,dE]
 constructor
 rintro⟨h1,h2⟩;obtain⟨e,he,ba,hn,hs⟩:=hf h1;obtain⟨_,_,_,e2,e3⟩:=dI hs;cases e2;exact⟨e,he,ba,hn,List.length_eq_zero_iff.1 om⟩
 rintro⟨e,he,ba,hn,h0⟩;have hx:l4 s=true:=wh.2 ⟨e,he,ba,hn⟩;refine⟨hx,?_⟩;obtain⟨e',ux,afT,Dk,hs⟩:=hf hx;rw[he] at ux;have:=qm ba afT (Option.some.inj ux);subst this;rw[h0] at hs;obtain⟨_,_,_,e2,e3⟩:=dI hs;cases e2;simp at e3;omega
def ke (ag:List ai) (ρ:Rn) (e:Ex) (n:Nat):Nat->List Ex×Nat
 |0=>([],n)
 |k+1=>((ke ag ρ e n k).1++[(bK ag (fL e k) ρ (ke ag ρ e n k).2).1],(bK ag (fL e k) ρ (ke ag ρ e n k).2).2)
theorem UA (ag:List ai) (ρ:Rn) (e:Ex) (n:Nat):∀k,(ke ag ρ e n k).1.length=k:=by intro x;induction x<;>grind [ke]
def jc (ag:List ai) (ρ:Rn) (n:Nat):Ex->Rn
 | .fn f x _ _ _=>ρ++[(f,cM cx (bo cx ag n)),(x,cM cx (bo cx ag (bo cx ag n+1)))]
 |_=>ρ
def nF (ag:List ai) (n:Nat):Ex->Nat
 | .fn _ _ _ _ _=>bo cx ag (bo cx ag n+1)+1
 |_=>n
def wk (ag:List ai) (n:Nat):Ex->List au
 | .fn _ _ A B _=>[bL gF,bL (cM cx (bo cx ag n)),bL (cM cx (bo cx ag (bo cx ag n+1))),A.aq,B.aq]
 |e=>[bL e.head]
def isLt:Ex->Bool
 | .lt _ _ _=>true
 |_=>false
theorem afU (ag:List ai) (ρ:Rn) (n:Nat) (ha:e.iv=false) (hl:isLt e=false):
  (bK ag e ρ n).1.aq= .mk [] (wk ag n e++(ke ag (jc ag ρ n e) e (nF ag n e) e.kids.length).1.map Ex.aq)∧(bK ag e ρ n).2=(ke ag (jc ag ρ n e) e (nF ag n e) e.kids.length).2:=by
 cases e with
 |«at» s=>cases ha
 |lt x a b=>cases hl
 |un h a=>exact⟨rfl,rfl⟩
 |bi h a b=>exact⟨rfl,rfl⟩
 |ite a b c=>exact⟨rfl,rfl⟩
 |fn f x A B b=>exact⟨rfl,rfl⟩
theorem afV (ag:List ai) (n:Nat) (ha:e.iv=false) (hl:isLt e=false):(wk ag n e).length=e.from:=by
 cases e with
 |«at» s=>cases ha
 |lt x a b=>cases hl
 |_=>rfl
theorem afW (ag:List ai) (n:Nat) (hk:e.ok) (ha:e.iv=false) (hf:e.head≠gF):wk ag n e=[bL e.head]∧nF ag n e=n:=by
 cases e with
 |fn f x A B b=>exact absurd rfl hf
 |_=>exact⟨rfl,rfl⟩
theorem UB (ag:List ai) (ρ:Rn) (n:Nat) (hf:e.head≠gF):jc ag ρ n e=ρ:=by cases e<;>grind [Ex.head,jc]
theorem Ju (h:e.ok) (he:e.head=fV):∃x a b,e= .lt x a b:=by
 cases e with
 |lt x a b=>exact⟨x,a,b,rfl⟩
 |un hd a=>have he:hd=fV:=he;rw[he] at h;exact absurd h.1 de
 |bi hd a b=>have he:hd=fV:=he;rw[he] at h;exact absurd h.1 de
 |«at» s=>cases he
 |ite a b c=>cases he
 |fn f x A B b=>cases he
theorem Jv (h:e.ok) (he:e.head=gF):∃f x A B b,e= .fn f x A B b:=by
 cases e with
 |fn f x A B b=>exact⟨f,x,A,B,b,rfl⟩
 |un hd a=>have he:hd=gF:=he;rw[he] at h;exact absurd h.1 de
 |bi hd a b=>have he:hd=gF:=he;rw[he] at h;exact absurd h.1 de
 |«at» s=>cases he
 |ite a b c=>cases he
 |lt x a b=>cases he
theorem UC (h:e.ok) (he:e.head=gm):∃a b c,e= .ite a b c:=by
 cases e with
 |ite a b c=>exact⟨a,b,c,rfl⟩
 |un hd a=>have he:hd=gm:=he;rw[he] at h;exact absurd h.1 de
 |bi hd a b=>have he:hd=gm:=he;rw[he] at h;exact absurd h.1 de
 |«at» s=>cases he
 |lt x a b=>cases he
 |fn f x A B b=>cases he
theorem not_lt (he:e.head≠fV):isLt e=false:=by cases e<;>grind [Ex.head,isLt]
theorem UD (ha:e.iv=false) (hl:isLt e=false) (hf:e.head≠gF):e.aq.ak=[bL e.head]++e.kids.map Ex.aq:=by
 cases e with
 |«at» s=>cases ha
 |lt x a b=>cases hl
 |fn f x A B b=>exact absurd rfl hf
 |_=>rfl
def lG (pre:List au) (acc:List Ex) (e:Ex):List au:=pre++acc.map Ex.aq++(e.kids.drop acc.length).map Ex.aq
theorem UE {pre:List au} {acc:List Ex} {y:Ex} (h:acc.length<e.kids.length):(lG pre acc e).set (pre.length+acc.length) y.aq=lG pre (acc++[y]) e:=by
 have h1:e.kids[acc.length]?=some (fL e acc.length):=by simp[fL,gE h]
 unfold lG
 rw[List.drop_eq_getElem_cons h,List.map_cons,List.set_append_right _ _ sm,lA,List.length_map,Nat.sub_self]
 simp
theorem UF {pre:List au} {acc:List Ex} (h:acc.length<=e.kids.length):(lG pre acc e).length=pre.length+e.kids.length:=by
 simp[lG];omega
theorem UG {pre:List au} {acc:List Ex} (h:acc.length=e.kids.length):lG pre acc e=pre++acc.map Ex.aq:=by grind [lG]
structure RN (L:List Nat) (w:World) (br:Nat) (ag:List ai) (n:Nat):Prop where
 mem:br∈L
 box:∃vf,aJ w br [vf,.int .i64 (n:Int)].toArray 228∧bc L w vf ag
theorem RN.ext {br:Nat} {ag:List ai} (h:RN L w br ag n) (k:aj [] w w'):RN L w' br ag n:=let⟨v,h1,h2⟩:=h.box;⟨h.mem,v,h1.ext k,h2.ext k⟩
theorem RN.lt {br:Nat} {ag:List ai} (h:RN L w br ag n):br<w.heap.size:=let⟨_,h1,_⟩:=h.box;h1.lt
theorem RN.re {L':List Nat} {br:Nat} {ag:List ai} (h:RN L w br ag n) (hb:br∈L') (hL:∀x,x∈L'->x∈L∨w.heap.size<=x):RN L' w br ag n:=let⟨v,h1,h2⟩:=h.box;⟨hb,v,h1,h2.fresh hL⟩
theorem RN.aG {br:Nat} {ag:List ai} (h:RN L w br ag n) (k:aj G w w') (hb:br∉G) (hG:∀x,x∈G->x∈L):RN L w' br ag n:=
 let⟨v,h1,h2⟩:=h.box;⟨h.mem,v,h1.aG k hb,h2.aD k hG⟩
theorem RN.out {br:Nat} {ag:List ai} (h:RN G w br ag n) (k:Fr G w G' w') (ho:Out N G0 w w') (hb:br∈G0) (gO:br∈G'):RN G' w' br ag n:=
 let⟨v,h1,h2⟩:=h.box;⟨gO,v,ho.gX h1 hb,h2.go k⟩
theorem Ef (c:UInt8) (ag:List ai) (n:Nat):bo c ag n<=n+ag.length+1:=(oa c ag n).2
theorem Ns (ag:List ai) (n:Nat) (hn:n<=100000) (hb:ag.length<=10000) (br:Nat) (L:List Nat) (w:World) (h:RN L w br ag n):
  bz Tryz.prog 241 [.pointer (some ⟨br,0,none⟩)] w λr w'=>(r=str (cM cx (bo cx ag n))∧RN L w' br ag (bo cx ag n+1))∧aj [br] w w':=by
 have Nt:=Ef cx ag n
 have rF:=h.mem
 refine bX [.tmp 2] 26 Tryz.func241 rfl ab9 rfl rfl ?_
 refine W ?_
 refine eH (λk:Nat=>[(0,.pointer (some ⟨br,0,none⟩))]) (λk w'=>aj [br] w w'∧RN L w' br ag k∧n<=k∧bo cx ag k=bo cx ag n) (λk=>bo cx ag n+1-k) n rfl (⟨aj.refl _ _,h,lR _,rfl⟩) λgg w1 e1 hI=>?_
 obtain⟨hK,⟨_,vf,jx,eW⟩,hk,hq⟩:=hI
 have hle:=(oa cx ag gg).1
 refine W ?_
 refine aA (iq (gg+1) gg om om w1) ?_
 rintro _ w2 ⟨rfl,az⟩
 have dy:=az.size
 refine cG az hK jx eW λhK jx eW=>?_
 refine gU rfl rfl rfl rfl (by have:=DY _ gg (lR _);simp;omega)<|W ?_
 refine fz (o:=1) p6 rfl rfl rfl jx rfl λw3 aH jx df=>?_
 have eW:=eW.aD aH (by simpa using rF)
 have hK:=hK.trans aH
 refine W ?_
 refine aA (An ag om (cM cx gg) _ _ w3 eW) ?_
 rintro _ w4 ⟨rfl,aO⟩
 have fG:=aO.size
 refine cG aO hK jx eW λhK jx eW=>?_
 refine km rfl rfl rfl<|aZ<|zc rfl (λh1=>?_) (λh1=>?_)
 have mF:cM cx gg∉ag:=(by simpa using h1)
 have GL:bo cx ag n=gg:=hq.symm.trans (R6 mF)
 refine W ?_
 exact⟨_,rfl,⟨by rw[GL];rfl,rF,_,by rw[GL];exact jx,eW⟩,hK⟩
 have mF:cM cx gg∈ag:=(by simpa using h1)
 have hfs:=R5 mF
 have SK:=(oa cx ag (gg+1)).1
 refine WZ ?_
 exact⟨gg+1,rfl,⟨hK,⟨rF,vf,jx,eW⟩,om,om⟩,om⟩
theorem UH (ag:List ai) (ρ:Rn) (e:Ex) (n:Nat):∀k,k<=e.kids.length->n<=(ke ag ρ e n k).2∧(ke ag ρ e n k).2<=n+kN e k*(ag.length+2)
 |0,_=>by simp[ke]
 |k+1,hk=>by
  have h1:=UH ag ρ e n k om
  have h2:=ja ag (fL e k) ρ (ke ag ρ e n k).2
  rw[ye om,Nat.add_mul]
  show n<=(bK ag (fL e k) ρ (ke ag ρ e n k).2).2∧(bK ag (fL e k) ρ (ke ag ρ e n k).2).2<=_
  omega
theorem sL (ts:List au) (i:Nat) (t:au):(cX ts).set i t.enc=cX (ts.set i t):=by rw[y0,y0,List.map_set]
theorem UI (ts:List au):∀row,row∈cX ts->∀c,c∈row->∀v,c= .val v->v.oneCell'=true:=by
 intro row hr c hc v hv
 rw[y0] at hr
 obtain⟨t,_,rfl⟩:=List.mem_map.1 hr
 cases t with
 |mk a ps=>
  simp only[au.enc,mC,List.not_mem_nil,or_false] at hc
  rcases hc with h|h
  ·subst h;cases hv;rfl
  ·subst h;cases hv
theorem dD.ext {T:TypeId} (h:dD L w T sz v g rows) (k:aj [] w w'):dD L w' T sz v g rows:=h.any k
theorem dD.grow {T:TypeId} (h:dD L w T sz v g rows):dD (w.heap.size::L) w T sz v g rows:=h.sub xq
theorem dD.aD {x:Nat} {T:TypeId} (h:dD (x::L) w T sz v g rows) (k:aj [x] w w') (hx:x∉g.toList):dD (x::L) w' T sz v g rows:=
 h.aG (Fr.of k sm) k λy hy vJ=>hx (by simp at vJ;subst vJ;exact hy)
structure iU (G:List Nat) (w0 w:World) (br:Nat) (ag:List ai) (n gb b8:Nat) (vP:Value) (ts:List au):Prop where
 rn:RN G w br ag n
 own:dD G w 74 2 vP (some gb) (cX ts)
 kb:aj [br] w0 w
 bx:aJ w b8 [str [],.slice none 0 0].toArray 74
 mem:gb∈G∧b8∈G
 ne:br≠gb∧b8≠gb∧br≠b8
 low:w0.heap.size<=gb∧w0.heap.size<=b8
 cD:eJ G w
section
variable {G:List Nat} {w0 w w':World} {br:Nat} {ag:List ai} {n gb b8:Nat} {vP:Value} {ts:List au}
theorem iU.ext (h:iU G w0 w br ag n gb b8 vP ts) (k:aj [] w w'):iU G w0 w' br ag n gb b8 vP ts:=
 ⟨h.rn.ext k,h.own.ext k,h.kb.ext k,h.bx.ext k,h.mem,h.ne,h.low,λx hx=>lL (h.cD x hx) k.size⟩
theorem iU.out (h:iU G w0 w br ag n gb b8 vP ts) (k:Fr G w G' w') (ho:Out w0.heap.size G0 w w') (hb:br∈G0∧gb∈G0∧b8∈G0) (gO:br∈G'∧gb∈G'∧b8∈G') (hl:eJ G' w'):iU G' w0 w' br ag n gb b8 vP ts:=
 ⟨h.rn.out k ho hb.1 gO.1,h.own.out k ho (by simpa using hb.2.1),ho.since h.kb,ho.gX h.bx hb.2.2,gO.2,h.ne,h.low,hl⟩
theorem iU.call {n':Nat} (h:iU G w0 w br ag n gb b8 vP ts) (hr:RN G w' br ag n') (k:aj [br] w w'):iU G w0 w' br ag n' gb b8 vP ts:=
 ⟨hr,h.own.aG (Fr.of k (by simpa using h.rn.mem)) k (by intro x hx fh;simp at hx fh;exact h.ne.1 (fh.symm.trans hx)),h.kb.trans k,h.bx.aG k (by simpa using λe=>h.ne.2.2 e.symm),h.mem,h.ne,h.low,λx hx=>lL (h.cD x hx) k.size⟩
theorem iU.store {ts':List au} (h:iU G w0 w br ag n gb b8 vP ts) (k:aj [gb] w w') (ho:dD G w' 74 2 vP (some gb) (cX ts')):iU G w0 w' br ag n gb b8 vP ts':=
 ⟨h.rn.aG k (by simpa using h.ne.1) (by simpa using h.mem.1),ho,h.kb.since k (by intro x hx;simp at hx;subst hx;exact .inr h.low.1),h.bx.aG k (by simpa using h.ne.2.1),h.mem,h.ne,h.low,λx hx=>lL (h.cD x hx) k.size⟩
theorem iU.jd (h:iU G w0 w br ag n gb b8 vP ts):∀x,x∈[gb]->x∈G:=by simpa using h.mem.1
theorem iU.nQ (h:iU G w0 w br ag n gb b8 vP ts):∀x,x∈[br]->x∈G:=by simpa using h.rn.mem
end
theorem iU.fin {w0:World} {br:Nat} {ag:List ai} {gb b8:Nat} {vP:Value} {ts:List au} (h:iU (gb::b8::G) w0 w br ag n gb b8 vP ts) (hG:eJ G w0) (jx:br∈G) (k:aj [b8] w w'):
  bC G w' (.agg #[str [],vP]) (.mk [] ts)∧RN G w' br ag n∧aj [br] w0 w':=by
 have oe:gb∉b8::G:=λhx=>by
  rcases mC.1 hx with h1|h1
  ·exact h.ne.2.1 h1.symm
  ·have:=hG gb h1;have:=h.low.1;omega
 have h1:bN (b8::G) w vP (.sl 2 (cX ts)):=h.own.rep (λx hx=>.inl (by simpa using hx)) (by simpa using oe)
 have h2:bC (b8::G) w (.agg #[str [],vP]) (.mk [] ts):=kW h1
 refine⟨(h2.aD k sm).iF (λx hx=>mK _ hx),(h.rn.aG k (by simpa using h.ne.2.2) sm).re jx (λx hx=>.inl (by simp[hx])),h.kb.since k (λx hx=>?_)⟩
 simp at hx;subst hx;exact .inr h.low.2
theorem Nu (s:ai):cW G w [str s,.slice none 0 0] (bL s).enc:=bC.ko (kW oH)
theorem afY (ag:List ai) (ρ:Rn) (n:Nat) {M:Nat} (ha:e.iv=false) (hl:isLt e=false) (hk:k<e.kids.length) (h1:ρ.length+2*e.n<=100000) (h2:n+e.n*(ag.length+2)<=100000) (hM:M<=nF ag n e+kN e k*(ag.length+2)):
  (jc ag ρ n e).length+2*(fL e k).n<=100000∧M+(fL e k).n*(ag.length+2)<=100000:=by
 have h3:=ye hk
 have h4:=Ef cx ag n
 have h5:=Ef cx ag (bo cx ag n+1)
 have h6:(jc ag ρ n e).length+2*(fL e k).n<=ρ.length+2*e.n∧nF ag n e+kN e (k+1)*(ag.length+2)<=n+e.n*(ag.length+2):=by
  cases e with
  |«at» s=>cases ha
  |lt x a b=>cases hl
  |fn f x A B b=>
   have fU:k=0:=by simp[Ex.kids] at hk;exact hk
   subst fU
   have e1:(fL (.fn f x A B b) 0).n=b.n:=rfl
   have e2:kN (.fn f x A B b) 1=b.n:=by simp[kN,Ex.kids]
   have e3:(Ex.fn f x A B b).n=3+A.n+B.n+b.n:=rfl
   rw[e1,e2,e3]
   simp only[jc,nF,lA,lC,List.length_nil,Nat.add_mul]
   constructor<;>omega
  |un h a=>
   have:=Ca (.un h a) (k+1)
   exact⟨by show ρ.length+_<=_;omega,Nat.add_le_add_left (Nat.mul_le_mul_right _ this) _⟩
  |bi h a b=>
   have:=Ca (.bi h a b) (k+1)
   exact⟨by show ρ.length+_<=_;omega,Nat.add_le_add_left (Nat.mul_le_mul_right _ this) _⟩
  |ite a b c=>
   have:=Ca (.ite a b c) (k+1)
   exact⟨by show ρ.length+_<=_;omega,Nat.add_le_add_left (Nat.mul_le_mul_right _ this) _⟩
 rw[h3,Nat.add_mul] at h6
 omega
theorem afZ (ag:List ai) (ig:ag.length<=10000):∀(m:Nat) (e:Ex),e.n<=m->e.n<=1000->e.ok->∀(ρ:Rn) (n:Nat),ρ.length+2*e.n<=100000->n+e.n*(ag.length+2)<=100000->∀(v vf vt:Value) (br:Nat) (G:List Nat) (w:World),
  bC G w v e.aq->bc G w vf (ρ.map Prod.fst)->bc G w vt (ρ.map Prod.snd)->RN G w br ag n->eJ G w->
  bz Tryz.prog 217 [v,vf,vt,.pointer (some ⟨br,0,none⟩)] w λr w'=>(bC G w' r (bK ag e ρ n).1.aq∧RN G w' br ag (bK ag e ρ n).2)∧aj [br] w w':=by
 intro m
 induction m with
 |zero=>intro e h;have:=e.pos;omega
 |succ m ih=>
  intro e hm mJ ba ρ n nG po v vf vt br G w dd Nv Nw Ce hG
  obtain⟨a,np,c,rfl,hn,Jw⟩:=dj dd
  subst hn
  obtain⟨af,nf,cf,rfl,qO⟩:=dI Nv
  obtain⟨at_,nt,ct,rfl,DS⟩:=dI Nw
  have af0:(ρ.map Prod.fst).length=ρ.length:=by simp
  have aot:(ρ.map Prod.snd).length=ρ.length:=by simp
  have aou:=Ce.lt
  have hK:=aj.refl [] w
  have Jm:=GF e
  have tN:=Ef cx ag n
  have jo:=Ef cx ag (bo cx ag n+1)
  have hB:e.n*(ag.length+2)<=100000:=by omega
  refine jr [.cell 8 74] 155 Tryz.func217 rfl abV rfl rfl rfl ?_
  refine zr<|eu rfl λw1 aI aF db=>?_
  have hK:=hK.ext aI
  refine dk aL rfl rfl rfl λw2 az cJ dJ=>?_
  have hK:=hK.grow;have hK:=hK.ext az;have aF:=aF.grow;have aF:=aF.ext az
  refine W ?_
  refine zc rfl (λh1=>?_) (λh1=>?_)
  have aX:∃x,e= .at x:=(by have ha:=(uR ba).1 h1;cases e<;>first|exact⟨_,rfl⟩|cases ha)
  obtain⟨x,rfl⟩:=aX
  refine W ?_
  refine aA (uM _ _) ?_
  rintro _ _ ⟨rfl,rfl⟩
  refine aZ<|zc rfl (λh2=>?_) (λh2=>?_)
  have hq:(bK ag (.at x) ρ n).1.aq=bL (qe ρ x):=(show bL (if dN x=true then qe ρ x else x)=bL (qe ρ x) from congrArg bL (iP h2))
  refine W ?_
  refine aA (afK (ρ.map Prod.fst) (ρ.map Prod.snd) om om x _ _ _ _ w2 (Nv.ext hK) (Nw.ext hK)) ?_
  rintro _ w3 ⟨rfl,aH⟩
  have eU:=aH.size
  refine bI aH hK cJ λhK cJ=>?_
  refine aA (Ao _ w3) ?_
  rintro _ w4 ⟨rfl,aO⟩
  have fG:=aO.size
  refine bI aO hK cJ λhK cJ=>?_
  refine cw aL rfl rfl rfl cJ rfl λw5 aP cJ iI=>?_
  have hK:=hK.aD aP sx
  refine W ?_
  have yg:=afJ x ρ
  rw[<-af0] at yg
  exact⟨[_],fb eQ aL rfl cJ rfl,⟨by rw[hq,<-yg];exact kW oH,Ce.ext hK⟩,hK.any⟩
  have hq:(bK ag (.at x) ρ n).1.aq=bL x:=(show bL (if dN x=true then qe ρ x else x)=bL x from congrArg bL (iN (λhh=>Bool.noConfusion (hh.symm.trans h2))))
  refine W ?_
  refine cw aL rfl rfl rfl cJ rfl λw3 aH cJ gv=>?_
  have hK:=hK.aD aH sx
  refine W ?_
  exact⟨[_],fb eQ aL rfl cJ rfl,⟨by rw[hq];exact bC.ext dd hK,Ce.ext hK⟩,hK.any⟩
  have eD:e.iv=false:=(by cases hh:e.iv;rfl;exact absurd ((uR ba).2 hh) h1)
  obtain⟨GG,mH,ji,wj⟩:=Ex.ak eD
  obtain⟨fO,Ea,Eb⟩:=GD ba eD
  have GH:=Mb ba eD
  have k9:dS (nth e.aq.ak 0).aw=(e.from,e.from+e.kids.length):=by rw[ji];exact GH
  obtain⟨b,off,xP,xQ,e0,tO,jW⟩:=eS Jw fO
  subst e0
  have mM:=hK
  have GM:=aF
  have af1:=cJ
  have af2:=db
  have af3:=dJ
  refine gz<|zr<|xw w2.heap.size (w1.heap.size::G) cB aL rfl rfl (lR _) (λx hx=>by rcases mC.1 hx with h|h;omega;have:=hG x h;omega) λw3 aH Jx wm=>?_
  have gL:=aH
  refine bI aH aF cJ λaF cJ=>?_
  refine W ?_
  refine wa cB aL rfl rfl rfl rfl rfl rfl wm (ek.ext (bN.fresh Jw (L':=w2.heap.size::w1.heap.size::G) (by intro x hx;simp at hx;rcases hx with rfl|rfl|hx;right;omega;right;omega;exact .inl hx)) (mM.ext aH)) (UI _) (by rw[gZ];simp;omega) λa4 ir g4 w4 kv aO=>?_
  have gL:=wm.since gL aO
  have hK:=mM.trans gL
  have aF:=GM.ext gL
  have cJ:=af1.ext gL
  have fG:=gL.size
  rw[show([]:List (List C)).length+(cX e.aq.ak).length=e.aq.ak.length from by rw[gZ];simp] at kv⊢
  rw[List.nil_append] at kv
  obtain⟨gb,e4,e5⟩:=kv.form (by rw[gZ];exact fO)
  subst e4
  subst e5
  have fM:gb<w4.heap.size:=kv.lt gb sm
  have Eg:w2.heap.size<=gb:=kv.low gb rfl
  have hS:dD (gb::w1.heap.size::G) w4 74 2 (.slice (some ⟨gb,0,none⟩) e.aq.ak.length ir) (some gb) (cX e.aq.ak):=(let⟨xs,hr⟩:=kv.own;⟨⟨xs,hr.own,hr.rep⟩,hr.row⟩)
  refine iO (LK _ _ _ _) rfl rfl<|dk aL rfl rfl rfl λw5 aP cY iI=>?_
  have hK:=hK.grow;have hK:=hK.ext aP;have aF:=aF.grow;have aF:=aF.ext aP;have cJ:=cJ.grow;have cJ:=cJ.ext aP;have hS:=hS.grow;have hS:=hS.ext aP
  refine cw aL rfl rfl rfl cY rfl λw6 bO cY kF=>?_
  have hK:=hK.aD bO sx;have aF:=aF.aD bO sx;have cJ:=cJ.aD bO sx;have hS:=hS.aD bO sx
  refine aZ<|zr<|zf jt rfl<|zl iG rfl (aF.at rfl) ?_
  have kU:∀x,x∈gb::w1.heap.size::G->x∈G∨w.heap.size<=x:=(by intro x hx;simp at hx;rcases hx with rfl|rfl|hx;right;omega;right;omega;exact .inl hx)
  have iK:=hK.size
  have UJ:eJ (gb::w1.heap.size::G) w6:=(by intro x hx;simp at hx;rcases hx with rfl|rfl|hx;omega;omega;have:=hG x hx;omega)
  have Eh:Fr G w (gb::w1.heap.size::G) w6:=⟨hK.any,kU⟩
  have aQ:=Jw.go Eh
  have eW:=Nv.go Eh
  have dX:=Nw.go Eh
  have tO:=tO.go Eh
  have mN:RN (gb::w1.heap.size::G) w6 br ag n:=(Ce.re (by simp[Ce.mem]) kU).ext hK
  have fS:∀q,w.heap.size<=q->q≠gb->q≠w1.heap.size->q∉gb::w1.heap.size::G:=(by intro q h1 h2 h3 hx;simp at hx;rcases hx with h|h|h;exact h2 h;exact h3 h;have:=hG q h;omega)
  have aF:dL (gb::w1.heap.size::G) w6 w.heap.size _ _:=⟨aF,fS _ om om om⟩
  have cY:dL (gb::w1.heap.size::G) w6 w4.heap.size _ _:=⟨cY,fS _ om om om⟩
  have hS:=dD.sub hS (L':=gb::w1.heap.size::G) (λx hx=>.inl (mK _ hx))
  have aS:iU (gb::w1.heap.size::G) w w6 br ag n gb w1.heap.size _ e.aq.ak:=⟨mN,hS,hK.any,cJ,sm,om,om,UJ⟩
  have aX:∃G2,G2=gb::w1.heap.size::G:=⟨_,rfl⟩
  obtain⟨G2,yh⟩:=aX
  rw[<-yh] at aQ eW dX aF cY tO aS
  have fP:br∈G2∧gb∈G2∧w1.heap.size∈G2:=⟨aS.rn.mem,aS.mem⟩
  refine zi (i:=0) cB aL rfl rfl fO<|zf kY rfl<|zl fA rfl (tO.cells 0 _ rfl)<|aA (Jj _ _) ?_
  rintro _ _ ⟨rfl,rfl⟩
  rw[yb k9]
  refine WI ?_
  refine zi (i:=0) cB aL rfl rfl fO<|W ?_
  refine zc rfl (λh3=>?_) (λh3=>?_)
  obtain⟨nx,ea,eb,rfl⟩:=Ju ba (ji.symm.trans h3)
  have wo:(Ex.lt nx ea eb).n=2+ea.n+eb.n:=rfl
  have hmul:(Ex.lt nx ea eb).n*(ag.length+2)=2*(ag.length+2)+ea.n*(ag.length+2)+eb.n*(ag.length+2):=by rw[wo,Nat.add_mul,Nat.add_mul]
  have aov:=ja ag ea ρ (bo cx ag n+1)
  have Jy:(Ex.lt nx ea eb).aq.ak.length=4:=rfl
  refine zr<|zm<|aA (Ns ag n om ig br G2 w6 aS.rn) ?_
  rintro v7 w7 ⟨uS,bV⟩
  have ov:=bV.size
  have aQ:=aQ.aD bV (aS.nQ);have eW:=eW.aD bV (aS.nQ);have dX:=dX.aD bV (aS.nQ);have aF:=aF.aD bV (aS.nQ);have cY:=cY.aD bV aS.nQ
  obtain⟨rfl,mN⟩:=uS
  have aS:=aS.call mN bV
  refine W ?_
  apply dV cT 5 [51,52,53,54,55] [[],[0],[],[2],[1]] (it [_,_,_,_,_]) de rfl
  intro wd aB
  refine VA ?_
  refine vk aB (λx w8 cA=>?_) ?_
  refine aA (Ao _ w8) ?_
  rintro _ w9 ⟨rfl,aC⟩
  have oZ:=aC.size
  exact pk aC
  refine vk aB (λx w8 cA=>?_) ?_
  refine zi (i:=1) cB aL rfl rfl ((show 1<4 from om)) ?_
  exact pv
  exact trivial
  intro x wq l7
  refine sB l7 aQ eW dX aF cY aS λaQ eW dX aF cY aS=>?_
  change OW _ _ _ _ _ (bm (bg _ x _) (zZ 51 [_,_,_,_,_])) _
  refine sJ (i:=1) (vs:=[str (cM cx (bo cx ag n)),.slice none 0 0]) (row:=(bL (cM cx (bo cx ag n))).enc) aL rfl rfl rfl rfl rfl aS.own aS.cD aS.mem.1 (by rw[gZ];omega) rfl (oG _) (Nu _) λlH lI rJ dA=>?_
  rw[sL] at dA
  have aQ:=aQ.aD lI aS.jd;have eW:=eW.aD lI aS.jd;have dX:=dX.aD lI aS.jd;have aF:=aF.aD lI aS.jd;have cY:=cY.aD lI aS.jd
  have aS:=aS.store lI dA
  refine W ?_
  obtain⟨b2,l5,iA,iB,e2,bU,dG⟩:=eS aQ (i:=2) om
  cases e2
  have dG:bC G2 lH _ ea.aq:=dG
  obtain⟨b3,Cf,pM,pN,e3,dM,dW⟩:=eS aQ (i:=3) om
  cases e3
  have dW:bC G2 lH _ eb.aq:=dW
  obtain⟨b1,eR,gd,gh,e1,bF,cK⟩:=eS aQ (i:=1) om
  cases e1
  apply jF cT G2 11 (rA 56 11) (rA 56 11) [[],[0],[],[2],[3],[4],[],[],[],(rA 5 4),[1]] [Ie.v _,Ie.v _,Ie.v _,Ie.v _,Ie.v _,Ie.v _,Ie.v _,Ie.v _,Ie.v _,Ie.e 0,Ie.v _] [9] [fun(G:List Nat) (vs:List Value) (ww:World)=>G=G2∧iU G2 w ww br ag (bo cx ag n+1) gb w1.heap.size (.slice (some ⟨gb,0,none⟩) (Ex.lt nx ea eb).aq.ak.length ir) (((Ex.lt nx ea eb).aq.ak.set 1 (bL (cM cx (bo cx ag n))))),fun(G:List Nat) (vs:List Value) (ww:World)=>G=G2∧iU G2 w ww br ag ((bK ag ea ρ (bo cx ag n+1)).2) gb w1.heap.size (.slice (some ⟨gb,0,none⟩) (Ex.lt nx ea eb).aq.ak.length ir) (((Ex.lt nx ea eb).aq.ak.set 1 (bL (cM cx (bo cx ag n)))))∧bC G2 ww (vs.getD 0 undef) (bK ag ea ρ (bo cx ag n+1)).1.aq] de rfl aS.cD (by exact trivial) (by exact⟨λG vs w w' ⟨h1,h2⟩ k=>⟨h1,h2.ext k⟩,λG vs w w' ⟨h1,h2,h3⟩ k=>⟨h1,h2.ext k,h3.ext k⟩,trivial⟩) (⟨rfl,aS⟩)
  refine FA ?_
  refine vf (λ_ _ _ _ _ _=>zi (i:=2) cB aL rfl rfl ((show 2<4 from om)) fv) ?_
  refine FA ?_
  refine ve 0 (λx oz Jz aR yi UK hJ hlen=>?_) ?_
  have aV:=jj hlen
  subst aV
  have eW:=eW.go yi;have dX:=dX.go yi;have dG:=dG.go yi
  obtain⟨bP,aS⟩:=hJ
  obtain rfl:G2=Jz:=bP.symm
  refine aA (ih ea om om ba.2.1 ρ (bo cx ag n+1) om om _ _ _ br G2 oz dG eW dX aS.rn aS.cD) ?_
  rintro Cg oC ⟨⟨dv,GN⟩,aC⟩
  exact fe G2 (Fr.of aC aS.nQ) ((λq hq=>lL (aS.cD q hq) aC.size)) (⟨rfl,aS.call GN aC,dv⟩)
  refine vf (λ_ _ _ _ _ _=>zi (i:=2) cB aL rfl rfl ((show 2<4 from om)) fv) ?_
  exact trivial
  intro x Ch G88 aR Ci aow hJ hlen
  obtain⟨q0,aV⟩:=jk hlen
  subst aV
  have eW:=eW.go Ci;have dX:=dX.go Ci;have aF:=aF.go Ci;have cY:=cY.go Ci;have dM:=dM.go Ci;have dW:=dW.go Ci;have bF:=bF.go Ci
  change OW _ _ _ _ _ (bm (bg _ x _) (zZ 56 [_,_,_,_,_,_,_,_,_,_,_])) _
  obtain⟨bP,aS,dv⟩:=hJ
  obtain rfl:G2=G88:=bP.symm
  obtain⟨a7,n7,c7,e7,_,_⟩:=dj dv
  have e8:q0=_:=e7
  subst e8
  refine sJ (i:=2) (vs:=[str (bK ag ea ρ (bo cx ag n+1)).1.aq.aw,.slice a7 n7 c7]) (row:=(bK ag ea ρ (bo cx ag n+1)).1.aq.enc) aL rfl rfl rfl rfl rfl aS.own aS.cD aS.mem.1 (by rw[gZ];rw[List.length_set];omega) rfl (oG _) ((show bC G2 _ (.agg #[_,_]) _ from dv).ko) λuT sM rJ dA=>?_
  rw[sL] at dA
  have eW:=eW.aD sM aS.jd;have dX:=dX.aD sM aS.jd;have aF:=aF.aD sM aS.jd;have cY:=cY.aD sM aS.jd;have dM:=dM.aD sM aS.jd;have dW:=dW.aD sM aS.jd;have bF:=bF.aD sM aS.jd
  have aS:=aS.store sM dA
  refine W ?_
  have xL:=aS.kb.size
  apply jF cT G2 25 (rA 67 25) (rA 67 25) [[],[0],[],[2],[3],[4],[],[],[6,7],[],[9],[10],[11],[12],[13],[8,14],[],[],[16,17],[],[19],[18,20],[],[5,15,21,22],[1]] [Ie.v _,Ie.v _,Ie.v _,Ie.v _,Ie.v _,Ie.v _,Ie.p (fun(G:List Nat) (v:Value) (ww:World)=>∃bb,v= .slice (some ⟨bb,0,none⟩) 0 0∧w.heap.size<=bb∧dL G ww bb #[] 9),Ie.v _,Ie.e 0,Ie.v _,Ie.v _,Ie.v _,Ie.v _,Ie.v _,Ie.p (fun(G:List Nat) (v:Value) (ww:World)=>bc G ww v [nx]),Ie.e 1,Ie.p (fun(G:List Nat) (v:Value) (ww:World)=>∃bb,v= .slice (some ⟨bb,0,none⟩) 0 0∧w.heap.size<=bb∧dL G ww bb #[] 9),Ie.v _,Ie.e 2,Ie.v _,Ie.p (fun(G:List Nat) (v:Value) (ww:World)=>bc G ww v [(cM cx (bo cx ag n))]),Ie.e 3,Ie.v _,Ie.e 4,Ie.v _] [8,15,18,21,23] [fun(G:List Nat) (vs:List Value) (ww:World)=>G=G2∧iU G2 w ww br ag ((bK ag ea ρ (bo cx ag n+1)).2) gb w1.heap.size (.slice (some ⟨gb,0,none⟩) (Ex.lt nx ea eb).aq.ak.length ir) ((((Ex.lt nx ea eb).aq.ak.set 1 (bL (cM cx (bo cx ag n)))).set 2 (bK ag ea ρ (bo cx ag n+1)).1.aq)),fun(G:List Nat) (vs:List Value) (ww:World)=>(∀q,q∈G2->q∈G)∧iU G w ww br ag ((bK ag ea ρ (bo cx ag n+1)).2) gb w1.heap.size (.slice (some ⟨gb,0,none⟩) (Ex.lt nx ea eb).aq.ak.length ir) ((((Ex.lt nx ea eb).aq.ak.set 1 (bL (cM cx (bo cx ag n)))).set 2 (bK ag ea ρ (bo cx ag n+1)).1.aq))∧LP w.heap.size G G2 ww 9 (vs.getD 0 undef) (ρ.map Prod.fst),fun(G:List Nat) (vs:List Value) (ww:World)=>G=G2∧iU G2 w ww br ag ((bK ag ea ρ (bo cx ag n+1)).2) gb w1.heap.size (.slice (some ⟨gb,0,none⟩) (Ex.lt nx ea eb).aq.ak.length ir) ((((Ex.lt nx ea eb).aq.ak.set 1 (bL (cM cx (bo cx ag n)))).set 2 (bK ag ea ρ (bo cx ag n+1)).1.aq))∧bc G2 ww (vs.getD 1 undef) ((ρ.map Prod.fst)++[nx]),fun(G:List Nat) (vs:List Value) (ww:World)=>(∀q,q∈G2->q∈G)∧iU G w ww br ag ((bK ag ea ρ (bo cx ag n+1)).2) gb w1.heap.size (.slice (some ⟨gb,0,none⟩) (Ex.lt nx ea eb).aq.ak.length ir) ((((Ex.lt nx ea eb).aq.ak.set 1 (bL (cM cx (bo cx ag n)))).set 2 (bK ag ea ρ (bo cx ag n+1)).1.aq))∧bc G ww (vs.getD 1 undef) ((ρ.map Prod.fst)++[nx])∧LP w.heap.size G G2 ww 9 (vs.getD 2 undef) (ρ.map Prod.snd),fun(G:List Nat) (vs:List Value) (ww:World)=>G=G2∧iU G2 w ww br ag ((bK ag ea ρ (bo cx ag n+1)).2) gb w1.heap.size (.slice (some ⟨gb,0,none⟩) (Ex.lt nx ea eb).aq.ak.length ir) ((((Ex.lt nx ea eb).aq.ak.set 1 (bL (cM cx (bo cx ag n)))).set 2 (bK ag ea ρ (bo cx ag n+1)).1.aq))∧bc G2 ww (vs.getD 1 undef) ((ρ.map Prod.fst)++[nx])∧bc G2 ww (vs.getD 3 undef) ((ρ.map Prod.snd)++[(cM cx (bo cx ag n))]),fun(G:List Nat) (vs:List Value) (ww:World)=>G=G2∧iU G2 w ww br ag ((bK ag eb (ρ++[(nx,(cM cx (bo cx ag n)))]) (bK ag ea ρ (bo cx ag n+1)).2).2) gb w1.heap.size (.slice (some ⟨gb,0,none⟩) (Ex.lt nx ea eb).aq.ak.length ir) ((((Ex.lt nx ea eb).aq.ak.set 1 (bL (cM cx (bo cx ag n)))).set 2 (bK ag ea ρ (bo cx ag n+1)).1.aq))∧bC G2 ww (vs.getD 4 undef) (bK ag eb (ρ++[(nx,(cM cx (bo cx ag n)))]) (bK ag ea ρ (bo cx ag n+1)).2).1.aq] de rfl aS.cD (by exact⟨λG v w G' w' ⟨bb,e,h0,h⟩ k=>⟨bb,e,h0,h.go k⟩,λG v w G' w' h k=>bc.go h k,λG v w G' w' ⟨bb,e,h0,h⟩ k=>⟨bb,e,h0,h.go k⟩,λG v w G' w' h k=>bc.go h k,trivial⟩) (by exact⟨λG vs w w' ⟨h1,h2⟩ k=>⟨h1,h2.ext k⟩,λG vs w w' ⟨h1,h2,h3⟩ k=>⟨h1,h2.ext k,h3.ext k⟩,λG vs w w' ⟨h1,h2,h3⟩ k=>⟨h1,h2.ext k,h3.ext k⟩,λG vs w w' ⟨h1,h2,h3,h4⟩ k=>⟨h1,h2.ext k,h3.ext k,h4.ext k⟩,λG vs w w' ⟨h1,h2,h3,h4⟩ k=>⟨h1,h2.ext k,h3.ext k,h4.ext k⟩,λG vs w w' ⟨h1,h2,h3⟩ k=>⟨h1,h2.ext k,h3.ext k⟩,trivial⟩) (⟨rfl,aS⟩)
  refine FA ?_
  refine vf (λ_ _ _ _ _ _=>zi (i:=3) cB aL rfl rfl ((show 3<4 from om)) fv) ?_
  refine FA ?_
  refine vf (λx kI l8 aR jy mO=>?_) ?_
  refine fN bh bf ?_
  intro qo yj Nx JA
  exact ff yj (⟨_,rfl,(by have h1:=jy.aG.size;omega),Nx.o mO⟩)
  refine FA ?_
  refine ve 0 (λx kI l8 aR jy mO hJ hlen=>?_) ?_
  have aV:=jj hlen
  subst aV
  have eW:=eW.go jy
  intro v6 d6
  obtain⟨bb,e6,Cj,fH⟩:=d6
  subst e6
  obtain⟨bP,aS⟩:=hJ
  obtain rfl:G2=l8:=bP.symm
  refine Gz (N:=w.heap.size) bh bf rfl rfl rfl rfl rfl rfl fH Cj eW aS.cD om λv9 qo G9 ku uV cR et pR=>?_
  exact fe G9 cR et (⟨ku,aS.out cR pR ⟨fP.1,fP.2.1,fP.2.2⟩ ⟨ku _ fP.1,ku _ fP.2.1,ku _ fP.2.2⟩ et,uV⟩)
  refine FA ?_
  refine vf (λ_ _ _ _ _ _=>zi (i:=1) cB aL rfl rfl ((show 1<4 from om)) fv) ?_
  refine FA ?_
  refine vf (λx kI l8 aR jy mO=>?_) ?_
  refine fF bh bf rfl rfl ?_
  intro qo yj Ei JA
  exact ff yj (aJ.dK [nx] Ei (λhx=>by have:=mO _ hx;omega))
  refine ve 1 (λx kI l8 aR jy mO hJ hlen=>?_) ?_
  obtain⟨q0,aV⟩:=jk hlen
  subst aV
  intro l9 d14
  obtain⟨jV,aS,GO⟩:=hJ
  refine Jk bh bf rfl rfl rfl rfl rfl rfl GO d14 aS.cD jV so λv9 qo jz cR et pR=>?_
  exact fe G2 cR et (⟨rfl,aS.out cR pR ⟨fP.1,fP.2.1,fP.2.2⟩ ⟨fP.1,fP.2.1,fP.2.2⟩ et,jz⟩)
  refine vf (λx kI l8 aR jy mO=>?_) ?_
  refine fN bh bf λqo yj af5 JA=>?_
  exact ff yj (⟨_,rfl,(by have h1:=jy.aG.size;omega),af5.o mO⟩)
  refine FA ?_
  refine ve 2 (λx kI l8 aR jy mO hJ hlen=>?_) ?_
  obtain⟨q0,q1,aV⟩:=k8 hlen
  subst aV
  have dX:=dX.go jy
  intro AE d16
  obtain⟨bb,e6,Cj,fH⟩:=d16
  subst e6
  obtain⟨bP,aS,qP⟩:=hJ
  obtain rfl:G2=l8:=bP.symm
  refine Gz (N:=w.heap.size) bh bf rfl rfl rfl rfl rfl rfl fH Cj dX aS.cD om λv9 qo G9 ku uV cR et pR=>?_
  exact fe G9 cR et (⟨ku,aS.out cR pR ⟨fP.1,fP.2.1,fP.2.2⟩ ⟨ku _ fP.1,ku _ fP.2.1,ku _ fP.2.2⟩ et,qP.go cR,uV⟩)
  refine FA ?_
  refine vf (λx kI l8 aR jy mO=>?_) ?_
  refine fF bh bf rfl rfl λqo yj af6 JA=>?_
  exact ff yj (aJ.dK [(cM cx (bo cx ag n))] af6 (λhx=>by have:=mO _ hx;omega))
  refine ve 3 (λx kI l8 aR jy mO hJ hlen=>?_) ?_
  obtain⟨q0,q1,q2,aV⟩:=zQ hlen
  subst aV
  intro v20 d20
  obtain⟨jV,aS,qP,GO⟩:=hJ
  refine Jk bh bf rfl rfl rfl rfl rfl rfl GO d20 aS.cD jV so λv9 qo jz cR et pR=>?_
  exact fe G2 cR et (⟨rfl,aS.out cR pR ⟨fP.1,fP.2.1,fP.2.2⟩ ⟨fP.1,fP.2.1,fP.2.2⟩ et,qP.go cR,jz⟩)
  refine FA ?_
  refine ve 4 (λx kI l8 aR jy mO hJ hlen=>?_) ?_
  obtain⟨q0,q1,q2,q3,aV⟩:=Mu hlen
  subst aV
  have dW:=dW.go jy
  obtain⟨bP,aS,qP,af7⟩:=hJ
  obtain rfl:G2=l8:=bP.symm
  refine aA (ih eb om om ba.2.2 (ρ++[(nx,(cM cx (bo cx ag n)))]) (bK ag ea ρ (bo cx ag n+1)).2 so om _ _ _ br G2 kI dW (by rw[List.map_append];exact qP) (by rw[List.map_append];exact af7) aS.rn aS.cD) ?_
  rintro Cg qo ⟨⟨dv,GN⟩,aC⟩
  exact fe G2 (Fr.of aC aS.nQ) ((λq hq=>lL (aS.cD q hq) aC.size)) (⟨rfl,aS.call GN aC,dv⟩)
  refine vf (λ_ _ _ _ _ _=>zi (i:=3) cB aL rfl rfl ((show 3<4 from om)) fv) ?_
  exact trivial
  intro x GP UM aR Ny af8 hJ hlen
  obtain⟨q0,q1,q2,q3,q4,aV⟩:=Sw hlen
  subst aV
  intro v6 d6
  intro l9 d14
  intro AE d16
  intro v20 d20
  have cY:=cY.go Ny
  change OW _ _ _ _ _ (bm (bg _ x _) (zZ 67 [_,_,_,_,_,_,_,_,_,_,_,_,_,_,_,_,_,_,_,_,_,_,_,_,_])) _
  obtain⟨bP,aS,dv⟩:=hJ
  obtain rfl:G2=UM:=bP.symm
  obtain⟨a7,n7,c7,e7,_,_⟩:=dj dv
  have e8:q4=_:=e7
  subst e8
  refine sJ (i:=3) (vs:=[str (bK ag eb (ρ++[(nx,(cM cx (bo cx ag n)))]) (bK ag ea ρ (bo cx ag n+1)).2).1.aq.aw,.slice a7 n7 c7]) (row:=(bK ag eb (ρ++[(nx,(cM cx (bo cx ag n)))]) (bK ag ea ρ (bo cx ag n+1)).2).1.aq.enc) aL rfl rfl rfl rfl rfl aS.own aS.cD aS.mem.1 (by rw[gZ];rw[List.length_set,List.length_set];omega) rfl (oG _) ((show bC G2 _ (.agg #[_,_]) _ from dv).ko) λNz Ck rJ dA=>?_
  rw[sL] at dA
  have cY:=cY.aD Ck aS.jd
  have aS:=aS.store Ck dA
  refine W ?_
  refine cw aL rfl rfl rfl aS.bx rfl λaf9 NA cJ kG=>?_
  subst yh
  obtain⟨rK,rL,uX⟩:=aS.fin hG Ce.mem NA
  refine W ?_
  exact⟨[_],fb eQ aL rfl cJ rfl,⟨rK,rL⟩,uX⟩
  have JB:isLt e=false:=not_lt (λhh=>h3 (ji.trans hh))
  have UN:=afU ag ρ n eD JB
  have UO:=afV ag n eD JB
  have kf:=Fr.refl G2 w6
  have xL:=aS.kb.size
  refine WI ?_
  refine zi (i:=0) cB aL rfl rfl fO<|W ?_
  refine iD (λq:Value×Value=>[(1,q.1),(2,q.2),(3,.pointer (some ⟨br,0,none⟩)),(4,.pointer (some ⟨w.heap.size,0,none⟩)),(8,.pointer (some ⟨w1.heap.size,0,none⟩)),(9,.pointer (some ⟨w4.heap.size,0,none⟩)),(10,.int .i64 (e.from:Int)),(11,.int .i64 ((e.from+e.kids.length:Nat):Int))]) (λq ww=>Fr G2 w6 G2 ww∧iU G2 w ww br ag (nF ag n e) gb w1.heap.size (.slice (some ⟨gb,0,none⟩) e.aq.ak.length ir) (lG (wk ag n e) [] e)∧bc G2 ww q.1 ((jc ag ρ n e).map Prod.fst)∧bc G2 ww q.2 ((jc ag ρ n e).map Prod.snd)) ?_ ?_
  refine zc rfl (λh4=>?_) (λh4=>?_)
  obtain⟨nf,nx,tA,tB,eb,rfl⟩:=Jv ba (ji.symm.trans h4)
  have wo:(Ex.fn nf nx tA tB eb).n=3+tA.n+tB.n+eb.n:=rfl
  have hmul:(Ex.fn nf nx tA tB eb).n*(ag.length+2)=3*(ag.length+2)+tA.n*(ag.length+2)+tB.n*(ag.length+2)+eb.n*(ag.length+2):=by rw[wo,Nat.add_mul,Nat.add_mul,Nat.add_mul]
  have JC:(Ex.fn nf nx tA tB eb).aq.ak.length=6:=rfl
  refine zr<|zm<|aA (Ns ag n om ig br G2 w6 aS.rn) ?_
  rintro v7 w7 ⟨uS,bV⟩
  have ov:=bV.size
  have aQ:=aQ.aD bV (aS.nQ);have eW:=eW.aD bV (aS.nQ);have dX:=dX.aD bV (aS.nQ);have aF:=aF.aD bV (aS.nQ);have cY:=cY.aD bV (aS.nQ);have kf:=kf.aD bV aS.nQ
  obtain⟨rfl,mN⟩:=uS
  have aS:=aS.call mN bV
  refine W ?_
  refine aA (Ns ag (bo cx ag n+1) om ig br G2 w7 aS.rn) ?_
  rintro v8 w8 ⟨GQ,cA⟩
  have yk:=cA.size
  have aQ:=aQ.aD cA (aS.nQ);have eW:=eW.aD cA (aS.nQ);have dX:=dX.aD cA (aS.nQ);have aF:=aF.aD cA (aS.nQ);have cY:=cY.aD cA (aS.nQ);have kf:=kf.aD cA aS.nQ
  obtain⟨rfl,mN⟩:=GQ
  have aS:=aS.call mN cA
  refine W ?_
  apply dV cT 5 [103,104,105,106,107] [[],[0],[],[2],[1]] (it [_,_,_,_,_]) de rfl
  intro wd aB
  refine VA ?_
  refine vk aB (λx w9 aC=>?_) ?_
  refine aA (Ao _ w9) ?_
  rintro _ bZ ⟨rfl,cj⟩
  have yl:=cj.size
  exact pk cj
  refine vk aB (λx w9 aC=>?_) ?_
  refine zi (i:=1) cB aL rfl rfl ((show 1<6 from om)) ?_
  exact pv
  exact trivial
  intro x lH lI
  refine IS lI aQ eW dX aF cY kf aS λaQ eW dX aF cY kf aS=>?_
  change OW _ _ _ _ _ (bm (bg _ x _) (zZ 103 [_,_,_,_,_])) _
  refine sJ (i:=1) (vs:=[str (cM cx (bo cx ag n)),.slice none 0 0]) (row:=(bL (cM cx (bo cx ag n))).enc) aL rfl rfl rfl rfl rfl aS.own aS.cD aS.mem.1 (by rw[gZ];omega) rfl (oG _) (Nu _) λoz iL rJ dA=>?_
  rw[sL] at dA
  have aQ:=aQ.aD iL aS.jd;have eW:=eW.aD iL aS.jd;have dX:=dX.aD iL aS.jd;have aF:=aF.aD iL aS.jd;have cY:=cY.aD iL aS.jd;have kf:=kf.aD iL aS.jd
  have aS:=aS.store iL dA
  refine W ?_
  apply dV cT 5 [108,109,110,111,112] [[],[0],[],[2],[1]] (it [_,_,_,_,_]) de rfl
  intro wd aB
  refine VA ?_
  refine vk aB (λx oC lJ=>?_) ?_
  refine aA (Ao _ oC) ?_
  rintro _ ld ⟨rfl,kQ⟩
  have aox:=kQ.size
  exact pk kQ
  refine vk aB (λx oC lJ=>?_) ?_
  refine zi (i:=2) cB aL rfl rfl ((show 2<6 from om)) ?_
  exact pv
  exact trivial
  intro x uT sM
  refine sB sM aQ eW dX aF kf aS λaQ eW dX aF kf aS=>?_
  change OW _ _ _ _ _ (bm (bg _ x _) (zZ 108 [_,_,_,_,_])) _
  refine sJ (i:=2) (vs:=[str (cM cx (bo cx ag (bo cx ag n+1))),.slice none 0 0]) (row:=(bL (cM cx (bo cx ag (bo cx ag n+1)))).enc) aL rfl rfl rfl rfl rfl aS.own aS.cD aS.mem.1 (by rw[gZ];rw[List.length_set];omega) rfl (oG _) (Nu _) λkI tP rJ dA=>?_
  rw[sL] at dA
  have aQ:=aQ.aD tP aS.jd;have eW:=eW.aD tP aS.jd;have dX:=dX.aD tP aS.jd;have aF:=aF.aD tP aS.jd;have kf:=kf.aD tP aS.jd
  have aS:=aS.store tP dA
  refine W ?_
  have xL:=aS.kb.size
  obtain⟨b1,eR,gd,gh,e1,bF,cK⟩:=eS aQ (i:=1) om
  cases e1
  obtain⟨b2,l5,iA,iB,e2,bU,dG⟩:=eS aQ (i:=2) om
  cases e2
  apply jF cT G2 15 (rA 113 15) (rA 113 15) [[],[],[0,1],[],[3],[4],[5],[6],[],[8],[9],[10],[11],[7,12],[2,13]] [Ie.p (fun(G:List Nat) (v:Value) (ww:World)=>∃bb,v= .slice (some ⟨bb,0,none⟩) 0 0∧w.heap.size<=bb∧dL G ww bb #[] 9),Ie.v _,Ie.e 0,Ie.v _,Ie.v _,Ie.v _,Ie.v _,Ie.v _,Ie.v _,Ie.v _,Ie.v _,Ie.v _,Ie.v _,Ie.p (fun(G:List Nat) (v:Value) (ww:World)=>bc G ww v [nf,nx]),Ie.e 1] [2,14] [fun(G:List Nat) (vs:List Value) (ww:World)=>G=G2∧iU G2 w ww br ag (bo cx ag (bo cx ag n+1)+1) gb w1.heap.size (.slice (some ⟨gb,0,none⟩) (Ex.fn nf nx tA tB eb).aq.ak.length ir) ((((Ex.fn nf nx tA tB eb).aq.ak.set 1 (bL (cM cx (bo cx ag n)))).set 2 (bL (cM cx (bo cx ag (bo cx ag n+1)))))),fun(G:List Nat) (vs:List Value) (ww:World)=>(∀q,q∈G2->q∈G)∧iU G w ww br ag (bo cx ag (bo cx ag n+1)+1) gb w1.heap.size (.slice (some ⟨gb,0,none⟩) (Ex.fn nf nx tA tB eb).aq.ak.length ir) ((((Ex.fn nf nx tA tB eb).aq.ak.set 1 (bL (cM cx (bo cx ag n)))).set 2 (bL (cM cx (bo cx ag (bo cx ag n+1))))))∧LP w.heap.size G G2 ww 9 (vs.getD 0 undef) (ρ.map Prod.fst),fun(G:List Nat) (vs:List Value) (ww:World)=>G=G2∧iU G2 w ww br ag (bo cx ag (bo cx ag n+1)+1) gb w1.heap.size (.slice (some ⟨gb,0,none⟩) (Ex.fn nf nx tA tB eb).aq.ak.length ir) ((((Ex.fn nf nx tA tB eb).aq.ak.set 1 (bL (cM cx (bo cx ag n)))).set 2 (bL (cM cx (bo cx ag (bo cx ag n+1))))))∧bc G2 ww (vs.getD 1 undef) ((ρ.map Prod.fst)++[nf,nx])] de rfl aS.cD (by exact⟨λG v w G' w' ⟨bb,e,h0,h⟩ k=>⟨bb,e,h0,h.go k⟩,λG v w G' w' h k=>bc.go h k,trivial⟩) (by exact⟨λG vs w w' ⟨h1,h2⟩ k=>⟨h1,h2.ext k⟩,λG vs w w' ⟨h1,h2,h3⟩ k=>⟨h1,h2.ext k,h3.ext k⟩,λG vs w w' ⟨h1,h2,h3⟩ k=>⟨h1,h2.ext k,h3.ext k⟩,trivial⟩) (⟨rfl,aS⟩)
  refine vf (λx qo JD aR GR GS=>?_) ?_
  refine fN bh bf λCl ym aga agb=>?_
  exact ff ym (⟨_,rfl,(by have h1:=GR.aG.size;omega),aga.o GS⟩)
  refine FA ?_
  refine ve 0 (λx qo JD aR GR GS hJ hlen=>?_) ?_
  have aV:=jj hlen
  subst aV
  have eW:=eW.go GR
  intro v0 d0
  obtain⟨bb,e6,Cj,fH⟩:=d0
  subst e6
  obtain⟨bP,aS⟩:=hJ
  obtain rfl:G2=JD:=bP.symm
  refine Gz (N:=w.heap.size) bh bf rfl rfl rfl rfl rfl rfl fH Cj eW aS.cD om λv9 Cl G9 ku uV cR et pR=>?_
  exact fe G9 cR et (⟨ku,aS.out cR pR ⟨fP.1,fP.2.1,fP.2.2⟩ ⟨ku _ fP.1,ku _ fP.2.1,ku _ fP.2.2⟩ et,uV⟩)
  refine FA ?_
  refine vf (λ_ _ _ _ _ _=>zi (i:=1) cB aL rfl rfl ((show 1<6 from om)) fv) ?_
  refine FA ?_
  refine vf (λ_ _ _ _ _ _=>zi (i:=2) cB aL rfl rfl ((show 2<6 from om)) fv) ?_
  refine FA ?_
  refine vf (λx qo JD aR GR GS=>?_) ?_
  refine kK bh bf rfl rfl rfl rfl ?_
  intro Cl ym agc agb
  exact ff ym (aJ.dK [nf,nx] agc (λhx=>by have:=GS _ hx;omega))
  refine ve 1 (λx qo JD aR GR GS hJ hlen=>?_) ?_
  obtain⟨q0,aV⟩:=jk hlen
  subst aV
  intro GU d13
  obtain⟨jV,aS,GO⟩:=hJ
  refine Jk bh bf rfl rfl rfl rfl rfl rfl GO d13 aS.cD jV so λv9 Cl jz cR et pR=>?_
  exact fe G2 cR et (⟨rfl,aS.out cR pR ⟨fP.1,fP.2.1,fP.2.2⟩ ⟨fP.1,fP.2.1,fP.2.2⟩ et,jz⟩)
  exact trivial
  intro x Nz agd aR UP aoy hJ hlen
  obtain⟨q0,q1,aV⟩:=k8 hlen
  subst aV
  intro v0 d0
  intro GU d13
  have dX:=dX.go UP;have kf:=kf.go UP
  change OW _ _ _ _ _ (bm (bg _ x _) (zZ 113 [_,_,_,_,_,_,_,_,_,_,_,_,_,_,_])) _
  obtain⟨bP,aS,qP⟩:=hJ
  obtain rfl:G2=agd:=bP.symm
  refine zA<|aZ<|lp<|fN bh bf λaf9 NA NB aoz=>?_
  have cU:=aS.cD
  have xL:=aS.kb.size
  refine gQ NA aS dX kf qP λaS dX kf qP=>?_
  have tQ:=NB.o cU
  refine zm<|Gz (N:=w.heap.size) bh bf rfl rfl rfl rfl rfl rfl tQ om dX aS.cD om λv9 aoA G9 ku uV cR et pR=>?_
  have aS:=aS.out cR pR ⟨fP.1,fP.2.1,fP.2.2⟩ ⟨ku _ fP.1,ku _ fP.2.1,ku _ fP.2.2⟩ et
  have kf:=kf.go cR;have qP:=qP.go cR
  refine zm<|zm<|kK bh bf rfl rfl rfl rfl λaoB age agf aoC=>gQ age kf qP uV aS λkf qP uV aS=>?_
  refine Jk bh bf rfl rfl rfl rfl rfl rfl uV (aJ.dK [(cM cx (bo cx ag n)),(cM cx (bo cx ag (bo cx ag n+1)))] agf (λhx=>by have:=et _ hx;omega)) aS.cD ku (show(ρ.map Prod.snd).length+2<100000000 from om) λv10 aoD wu cR Ej pR=>?_
  have aS:=aS.out cR pR ⟨fP.1,fP.2.1,fP.2.2⟩ ⟨fP.1,fP.2.1,fP.2.2⟩ Ej
  have kf:=kf.go cR;have qP:=qP.go cR
  refine W ?_
  exact⟨(_,_),⟨rfl,rfl,rfl,rfl,rfl,rfl,rfl,rfl⟩,⟨kf,aS,by show bc G2 _ _ ((ρ++_).map Prod.fst);rw[List.map_append];exact qP,by show bc G2 _ _ ((ρ++_).map Prod.snd);rw[List.map_append];exact wu⟩⟩
  have qO:e.head≠gF:=λhh=>h4 (ji.trans hh)
  have sD:=afW ag n ba eD qO
  have tR:=UD eD JB qO
  refine gz ?_
  exact⟨(_,_),⟨rfl,rfl,rfl,rfl,rfl,rfl,rfl,rfl⟩,⟨kf,by rw[sD.2,sD.1,show lG [bL e.head] [] e=e.aq.ak from by rw[tR];simp[lG]];exact aS,by rw[UB ag ρ n qO];exact eW,by rw[UB ag ρ n qO];exact dX⟩⟩
  intro gu w7 e7 hI
  obtain⟨vf2,B1⟩:=gu
  dsimp only at hI⊢
  obtain⟨kf,aS,eW,dX⟩:=hI
  have aQ:=aQ.go kf;have aF:=aF.go kf;have cY:=cY.go kf
  refine jq<|zr<|zm<|zA<|aZ<|r6 ?_
  refine eH (λk:Nat=>[(1,vf2),(2,B1),(3,.pointer (some ⟨br,0,none⟩)),(4,.pointer (some ⟨w.heap.size,0,none⟩)),(8,.pointer (some ⟨w1.heap.size,0,none⟩)),(9,.pointer (some ⟨w4.heap.size,0,none⟩)),(11,.int .i64 ((e.from+e.kids.length:Nat):Int)),(15,.int .i64 ((e.from+k:Nat):Int))]) (λk ww=>Fr G2 w7 G2 ww∧iU G2 w ww br ag ((ke ag (jc ag ρ n e) e (nF ag n e) k).2) gb w1.heap.size (.slice (some ⟨gb,0,none⟩) e.aq.ak.length ir) (lG (wk ag n e) (ke ag (jc ag ρ n e) e (nF ag n e) k).1 e)∧k<=e.kids.length) (λk=>e.kids.length-k) (0) (⟨rfl,rfl,rfl,rfl,rfl,rfl,rfl,rfl⟩) (⟨Fr.refl _ _,aS,om⟩) ?_
  intro gg w8 e8 hI
  obtain⟨o3,aS,hk⟩:=hI
  have aQ:=aQ.go o3;have eW:=eW.go o3;have dX:=dX.go o3;have aF:=aF.go o3;have cY:=cY.go o3
  refine jq<|zr<|zm<|zm<|HZ rfl rfl rfl rfl rfl<|aZ<|zc rfl (λh5=>?_) (λh5=>?_)
  have gK:gg<e.kids.length:=om
  have sy:=wj gg gK
  obtain⟨b1,eR,gd,gh,e1,bF,cK⟩:=eS aQ (i:=e.from+gg) om
  cases e1
  have cK:=cK.eq sy
  have tM:=FN ba gK
  have fZ:=UA ag (jc ag ρ n e) e (nF ag n e) gg
  have AD:=UH ag (jc ag ρ n e) e (nF ag n e) gg om
  have Bo:=ye gK
  have kT:=afY ag ρ n eD JB gK nG po AD.2
  refine gz<|jq<|r6 ?_
  apply jF cT G2 13 (rA 141 13) (rA 141 13) [[],[0],[],[],[3],[],[4,5],[6],[],[],[],(rA 7 4),[1,2]] [Ie.v _,Ie.v _,Ie.v _,Ie.v _,Ie.v _,Ie.v _,Ie.v _,Ie.v _,Ie.v _,Ie.v _,Ie.v _,Ie.e 0,Ie.v _] [11] [fun(G:List Nat) (vs:List Value) (ww:World)=>G=G2∧iU G2 w ww br ag ((ke ag (jc ag ρ n e) e (nF ag n e) gg).2) gb w1.heap.size (.slice (some ⟨gb,0,none⟩) e.aq.ak.length ir) (lG (wk ag n e) (ke ag (jc ag ρ n e) e (nF ag n e) gg).1 e),fun(G:List Nat) (vs:List Value) (ww:World)=>G=G2∧iU G2 w ww br ag ((ke ag (jc ag ρ n e) e (nF ag n e) (gg+1)).2) gb w1.heap.size (.slice (some ⟨gb,0,none⟩) e.aq.ak.length ir) (lG (wk ag n e) (ke ag (jc ag ρ n e) e (nF ag n e) gg).1 e)∧bC G2 ww (vs.getD 0 undef) (bK ag (fL e gg) (jc ag ρ n e) (ke ag (jc ag ρ n e) e (nF ag n e) gg).2).1.aq] de rfl aS.cD (by exact trivial) (by exact⟨λG vs w w' ⟨h1,h2⟩ k=>⟨h1,h2.ext k⟩,λG vs w w' ⟨h1,h2,h3⟩ k=>⟨h1,h2.ext k,h3.ext k⟩,trivial⟩) (⟨rfl,aS⟩)
  refine vf (λ_ _ _ _ _ _=>zf jt rfl fv) ?_
  refine vf (λx w9 G9 aR cR mP=>?_) ?_
  have cY:=cY.go cR
  refine WZ ?_
  exact fv
  refine FA ?_
  refine ve 0 (λx w9 G9 aR cR mP hJ hlen=>?_) ?_
  have aV:=jj hlen
  subst aV
  have eW:=eW.go cR;have dX:=dX.go cR;have cK:=cK.go cR
  obtain⟨bP,aS⟩:=hJ
  obtain rfl:G2=G9:=bP.symm
  refine aA (ih (fL e gg) om om tM.1 (jc ag ρ n e) (ke ag (jc ag ρ n e) e (nF ag n e) gg).2 kT.1 kT.2 _ _ _ br G2 w9 cK eW dX aS.rn aS.cD) ?_
  rintro Cg bZ ⟨⟨dv,GN⟩,aC⟩
  exact fe G2 (Fr.of aC aS.nQ) ((λq hq=>lL (aS.cD q hq) aC.size)) (⟨rfl,aS.call GN aC,dv⟩)
  exact FZ
  intro x lH JE aR Ek NC hJ hlen
  obtain⟨q0,aV⟩:=jk hlen
  subst aV
  have o3:=o3.go Ek
  change OW _ _ _ _ _ (bm (bg _ x _) (zZ 141 [_,_,_,_,_,_,_,_,_,_,_,_,_])) _
  obtain⟨bP,aS,dv⟩:=hJ
  obtain rfl:G2=JE:=bP.symm
  obtain⟨a7,n7,c7,e7,_,_⟩:=dj dv
  have e8:q0=_:=e7
  subst e8
  have yU:(lG (wk ag n e) (ke ag (jc ag ρ n e) e (nF ag n e) gg).1 e).set (e.from+gg) (bK ag (fL e gg) (jc ag ρ n e) (ke ag (jc ag ρ n e) e (nF ag n e) gg).2).1.aq=lG (wk ag n e) (ke ag (jc ag ρ n e) e (nF ag n e) (gg+1)).1 e:=(by have:=UE (pre:=(wk ag n e)) (acc:=(ke ag (jc ag ρ n e) e (nF ag n e) gg).1) (e:=e) (y:=(bK ag (fL e gg) (jc ag ρ n e) (ke ag (jc ag ρ n e) e (nF ag n e) gg).2).1) om;rw[UO,fZ] at this;exact this)
  refine sJ (i:=e.from+gg) (vs:=[str (bK ag (fL e gg) (jc ag ρ n e) (ke ag (jc ag ρ n e) e (nF ag n e) gg).2).1.aq.aw,.slice a7 n7 c7]) (row:=(bK ag (fL e gg) (jc ag ρ n e) (ke ag (jc ag ρ n e) e (nF ag n e) gg).2).1.aq.enc) aL rfl rfl rfl rfl (Nat.zero_add _) aS.own aS.cD aS.mem.1 (by rw[gZ,UF om,UO];omega) rfl (oG _) (show bC G2 _ (.agg #[_,_]) _ from dv).ko λoz iL rJ dA=>?_
  rw[sL,yU] at dA
  have o3:=o3.aD iL aS.jd
  have aS:=aS.store iL dA
  refine W ?_
  exact⟨gg+1,⟨rfl,rfl,rfl,rfl,rfl,rfl,rfl,congrArg (Value.int .i64) om⟩,⟨o3,aS,om⟩,om⟩
  have fM:gg=e.kids.length:=by omega
  subst fM
  have fZ:=UA ag (jc ag ρ n e) e (nF ag n e) e.kids.length
  refine W ?_
  refine cw aL rfl rfl rfl aS.bx rfl λw9 aC cJ kG=>?_
  subst yh
  obtain⟨rK,rL,uX⟩:=aS.fin hG Ce.mem aC
  rw[UG fZ,<-UN.1] at rK
  rw[<-UN.2] at rL
  refine W ?_
  exact⟨[_],fb eQ aL rfl cJ rfl,⟨rK,rL⟩,uX⟩
end Go.Proofs.YthbhobaiopccaaaGreatDoor
