/- Lemmas for the law FnFrom, no statement of their own: no conditions. -/
import Derived.Test.YthbhobaiopccaaaGreatDoorJe
set_option maxHeartbeats 4000000
set_option linter.unusedVariables false
set_option linter.unusedSimpArgs false
namespace Go.Proofs.YthbhobaiopccaaaGreatDoor
open Go
variable {h s:aj} {E N b bytes i k n sz t:Nat} {u v z:Value} {G G0 L:List Nat} {w w':World} {g:Option Nat} {xs ys:List aj} {e:Ex}
theorem Vl (c:UInt8):(decide ((c.toNat:Int)<97)||decide ((122:Int)<(c.toNat:Int)))=!(decide (97<=c)&&decide (c<=122)):=by
 have h1:decide (97<=c)=decide ((97:Int)<=c.toNat):=(Gk 97 c).symm
 have h2:decide (c<=122)=decide ((c.toNat:Int)<=122):=decide_eq_decide.2 (by rw[UInt8.le_iff_toNat_le];have:(122:UInt8).toNat=122:=rfl;omega)
 rw[h1,h2,Bool.not_and,<-decide_not,<-decide_not]
 congr 1<;>exact decide_eq_decide.2 om
theorem agM (h1:1<=k) (hk:k<s.length) (h:gZ (s.getD k 0)=false):(s.drop 1).all gZ=false:=by
 rw[List.all_eq_false]
 refine⟨s.getD k 0,?_,by rw[h];simp⟩
 rw[List.mem_iff_getElem?]
 refine⟨k-1,?_⟩
 rw[List.getElem?_drop,show 1+(k-1)=k by omega]
 exact jt hk
theorem agN (h:∀k,1<=k->k<s.length->gZ (s.getD k 0)=true):(s.drop 1).all gZ=true:=by
 rw[List.all_eq_true]
 intro c hc
 obtain⟨i,hi⟩:=List.mem_iff_getElem?.1 hc
 rw[List.getElem?_drop] at hi
 have hl:=(List.getElem?_eq_some_iff.1 hi).1
 have:=h (1+i) om hl
 rw[jt hl] at hi
 cases hi
 exact this
theorem vH (s:aj) (w:World):bC Tryz.prog 182 [str s] w λv w'=>v= .bool (dX s)∧w=w':=by
 have hN:dX s=(((decide (1<=s.length)&&decide (s.length<=4))&&(decide (97<=s.getD 0 0)&&decide (s.getD 0 0<=122)))&&(s.drop 1).all gZ):=rfl
 have hz:∀c:UInt8,(decide ((c.toNat:Int)<48)||decide ((57:Int)<(c.toNat:Int)))=!gZ c:=by
  intro c
  cases hd:gZ c with
  |true=>have:=(Cr c).1 hd;simp;omega
  |false=>rw[Bool.not_false,oE,dE,dE];apply Classical.byContradiction;intro hh;have:=(Cr c).2 om;rw[hd] at this;cases this
 refine cj [.tmp 2] 34 Tryz.func182 rfl acG rfl rfl ?_
 refine W ?_
 refine aA (GX _ _ _ _) ?_
 rintro _ _ ⟨rfl,rfl⟩
 refine WZ ?_
 apply oP 4 8 12 rfl oQ
 intro h1
 have hl:1<=s.length∧s.length<=4:=(by simp at h1;omega)
 refine zm<|kl (i:=0) iG rfl rfl rfl rfl (jt om) ?_
 exact oQ
 intro xx
 refine WZ ?_
 apply oP 4 13 17 rfl oQ
 intro h2
 have hl:1<=s.length∧s.length<=4:=(by simp at h2;omega)
 refine zm<|kl (i:=0) iG rfl rfl rfl rfl (jt om) ?_
 exact oQ
 intro xx
 refine aV<|zc rfl (λh3=>?_) (λh3=>?_)
 have hq:dX s=false:=(by rw[hN];rw[Bool.or_assoc,Vl] at h3;simp only[oE,Bool.not_eq_true',Bool.and_eq_false_iff,decide_eq_false_iff_not] at h3;simp only[Bool.and_eq_false_iff,decide_eq_false_iff_not];left;rcases h3 with(h|h)|h;(·left;left;omega);(·left;right;omega);(·right;exact h))
 refine W ?_
 exact⟨_,rfl,by rw[hq];rfl,rfl⟩
 have hl:(1<=s.length∧s.length<=4)∧(decide (97<=s.getD 0 0)&&decide (s.getD 0 0<=122))=true:=(by rw[Bool.or_assoc,Vl] at h3;simp only[Bool.or_eq_false_iff,Bool.not_eq_false'] at h3;refine⟨?_,h3.2⟩;have h1:=h3.1;simp at h1;omega)
 have hq:dX s=(s.drop 1).all gZ:=(by rw[hN,hl.2,dT hl.1.1,dT hl.1.2];rfl)
 refine W ?_
 refine eO (λk:Nat=>[(0,str s),(3,.int .i64 (k:Int))]) (λk w'=>w'=w∧1<=k∧k<=s.length∧∀j,1<=j->j<k->gZ (s.getD j 0)=true) (λk=>s.length-k) (1) (⟨rfl,rfl⟩) (⟨rfl,om,om,by intro j h1 h2;omega⟩) λgg w1 e1 hI=>?_
 obtain⟨rfl,aI,hk,cZ⟩:=hI
 refine W ?_
 refine zc rfl (λh4=>?_) (λh4=>?_)
 refine W ?_
 refine kl iG rfl rfl rfl rfl (jt om)<|WZ ?_
 apply oP 5 28 33 rfl oQ
 intro h5
 refine zm<|zm<|kl iG rfl rfl rfl rfl (jt om) ?_
 exact oQ
 intro xx
 refine aV<|zc rfl (λh6=>?_) (λh6=>?_)
 have hd:gZ (s.getD gg 0)=false:=(by rw[hz] at h6;simpa using h6)
 refine W ?_
 exact⟨_,rfl,by rw[hq,agM aI om hd];rfl,rfl⟩
 have hd:gZ (s.getD gg 0)=true:=(by rw[hz] at h6;simpa using h6)
 refine W ?_
 exact⟨gg+1,⟨rfl,rfl⟩,⟨rfl,om,om,by intro j h1 h2;rcases Nat.lt_or_ge j gg with h|h;exact cZ j h1 h;rw[show j=gg by omega];exact hd⟩,om⟩
 refine W ?_
 exact⟨_,rfl,by rw[hq,agN (λj h1 h2=>cZ j h1 om)];rfl,rfl⟩
def Od (h:aj):Value:=.tuple #[.int .i64 ((ek h).1:Int),.int .i64 ((ek h).2:Int)]
theorem yW {a:Nat} (e:ek h=(a,b)):Od h= .tuple #[.int .i64 (a:Int),.int .i64 (b:Int)]:=by unfold Od;rw[e]
theorem agO (e:ie h=true):ek h=(1,3):=by unfold ek;rw[iP e]
theorem agP (e:gx h=true):ek h=(1,2):=by
 unfold gx at e
 simp only[oE,dE] at e
 rcases e with e|e<;>subst e<;>decide
theorem Kd (h:aj) (w:World):bC Tryz.prog 183 [str h] w λv w'=>v=Od h∧w=w':=by
 refine cj [.tmp 2,.tmp 3] 20 Tryz.func183 rfl acH rfl rfl ?_
 refine W ?_
 refine iS (λ_:Unit=>[(4,str h),(5,.bool (ie h))]) (λ_ w'=>w'=w) ?_ ?_
 refine zc rfl (λh1=>?_) (λh1=>?_)
 refine WZ ?_
 exact⟨(),⟨rfl,congrArg Value.bool (show decide (h=[43])=ie h from by rw[dT h1,show ie h=true from by rw[h1];rfl])⟩,rfl⟩
 have n1:=h1
 refine W ?_
 refine zc rfl (λh2=>?_) (λh2=>?_)
 refine WZ ?_
 exact⟨(),⟨rfl,congrArg Value.bool (show decide (h=[45])=ie h from by rw[dT h2,show ie h=true from by rw[h2];rfl])⟩,rfl⟩
 have n2:=h2
 refine W ?_
 refine zc rfl (λh3=>?_) (λh3=>?_)
 refine WZ ?_
 exact⟨(),⟨rfl,congrArg Value.bool (show decide (h=[42])=ie h from by rw[dT h3,show ie h=true from by rw[h3];rfl])⟩,rfl⟩
 have n3:=h3
 refine W ?_
 refine zc rfl (λh4=>?_) (λh4=>?_)
 refine WZ ?_
 exact⟨(),⟨rfl,congrArg Value.bool (show decide (h=kn)=ie h from by rw[dT h4,show ie h=true from by rw[h4];rfl])⟩,rfl⟩
 have n4:=h4
 refine W ?_
 exact⟨(),⟨rfl,congrArg Value.bool (show decide (h=ym)=ie h from by unfold ie;rw[dF n1,dF n2,dF n3,dF n4];rfl)⟩,rfl⟩
 intro gu w1 e1 hI
 obtain rfl:=hI.symm
 refine zc rfl (λh5=>?_) (λh5=>?_)
 have hq:=h5
 refine W ?_
 exact⟨_,rfl,(yW (agO hq)).symm,rfl⟩
 have b0:=h5
 refine W ?_
 refine zc rfl (λh6=>?_) (λh6=>?_)
 have hq:=h6
 refine W ?_
 exact⟨_,rfl,(yW (by rw[hq];rfl)).symm,rfl⟩
 have m1:=h6
 refine W ?_
 refine zc rfl (λh7=>?_) (λh7=>?_)
 have hq:=h7
 refine W ?_
 exact⟨_,rfl,(yW (by rw[hq];rfl)).symm,rfl⟩
 have m2:=h7
 refine W ?_
 refine zc rfl (λh8=>?_) (λh8=>?_)
 have hq:=h8
 refine W ?_
 exact⟨_,rfl,(yW (by rw[hq];rfl)).symm,rfl⟩
 have m3:=h8
 refine W ?_
 refine iS (λ_:Unit=>[(4,str h),(17,.bool (gx h))]) (λ_ w'=>w'=w) ?_ ?_
 refine zc rfl (λh9=>?_) (λh9=>?_)
 refine WZ ?_
 exact⟨(),⟨rfl,congrArg Value.bool (show decide (h=Cz)=gx h from by rw[dT h9,show gx h=true from by rw[h9];rfl])⟩,rfl⟩
 have n5:=h9
 refine W ?_
 exact⟨(),⟨rfl,congrArg Value.bool (show decide (h=rm)=gx h from by unfold gx;rw[dF n5];rfl)⟩,rfl⟩
 intro gu w2 e2 hI
 obtain rfl:=hI.symm
 refine zc rfl (λgh=>?_) (λgh=>?_)
 have hq:=gh
 refine W ?_
 exact⟨_,rfl,(yW (agP hq)).symm,rfl⟩
 have m4:=gh
 refine W ?_
 exact⟨_,rfl,(yW (by unfold ek;rw[iN (by rw[b0];simp),iN m1,iN m2,iN m3,iN (by rw[m4];simp)])).symm,rfl⟩
theorem agQ (h:aj):((ek h).1=0∧(ek h).2=0)∨((ek h).1=1∧(ek h).2=2)∨((ek h).1=1∧(ek h).2=3)∨((ek h).1=1∧(ek h).2=4)∨((ek h).1=2∧(ek h).2=4)∨((ek h).1=5∧(ek h).2=6):=by
 unfold ek
 split
 ·simp
 ·split
  ·simp
  ·split
   ·simp
   ·split
    ·simp
    ·split<;>simp
theorem agR {ps:List aq} {f:aq->Bool} (h:∀j,k<=j->j<ps.length->f (nth ps j)=true):(ps.drop k).all f=true:=by
 rw[List.all_eq_true]
 intro c hc
 obtain⟨i,hi⟩:=List.mem_iff_getElem?.1 hc
 rw[List.getElem?_drop] at hi
 have hl:=(List.getElem?_eq_some_iff.1 hi).1
 have:=h (k+i) om hl
 rw[ej hl] at hi
 cases hi
 exact this
theorem agS {ps:List aq} {j:Nat} {f:aq->Bool} (h1:k<=j) (h2:j<ps.length) (h:f (nth ps j)=false):(ps.drop k).all f=false:=by
 rw[List.all_eq_false]
 refine⟨nth ps j,?_,by rw[h];simp⟩
 rw[List.mem_iff_getElem?]
 refine⟨j-k,?_⟩
 rw[List.getElem?_drop,show k+(j-k)=j by omega]
 exact ej h2
def C7 (ps:List aq):Bool:=dX (nth ps 2).av&&decide ((nth ps 1).av≠(nth ps 2).av)&&j5 (nth ps 3)&&j5 (nth ps 4)
theorem agT (ps:List aq) (k:Nat):k≠5∨(k=5∧dX (nth ps 2).av=false)∨(k=5∧dX (nth ps 2).av=true∧(nth ps 1).av=(nth ps 2).av)∨(k=5∧dX (nth ps 2).av=true∧(nth ps 1).av≠(nth ps 2).av∧j5 (nth ps 3)=false)∨
  (k=5∧dX (nth ps 2).av=true∧(nth ps 1).av≠(nth ps 2).av∧j5 (nth ps 3)=true∧j5 (nth ps 4)=false)∨(k=5∧dX (nth ps 2).av=true∧(nth ps 1).av≠(nth ps 2).av∧j5 (nth ps 3)=true∧j5 (nth ps 4)=true):=by
 by_cases h5:k=5
 ·right
  cases h2:dX (nth ps 2).av
  ·exact .inl ⟨h5,rfl⟩
  ·right
   by_cases he:(nth ps 1).av=(nth ps 2).av
   ·exact .inl ⟨h5,rfl,he⟩
   ·right
    cases h3:j5 (nth ps 3)
    ·exact .inl ⟨h5,rfl,he,rfl⟩
    ·right
     cases h4:j5 (nth ps 4)
     ·exact .inl ⟨h5,rfl,he,rfl,rfl⟩
     ·exact .inr ⟨h5,rfl,he,rfl,rfl⟩
 ·exact .inl h5
theorem agU:∀(m:Nat) (t:aq),t.size<=m->t.size<=10000000->WF t->∀(v:Value) (L:List Nat) (w:World),bh L w v t->
  bC Tryz.prog 151 [v] w λr w'=>r= .bool (dI t)∧ak [] w w':=by
 intro m
 induction m with
 |zero=>intro t h;have:=qB t;omega
 |succ m ih=>
  intro t hm kW cF v L w hv
  obtain⟨a,n,c,rfl,hn,aQ⟩:=cS hv
  subst hn
  have hK:=ak.refl [] w
  have lK:=mP t
  refine cj [.tmp 2] 105 Tryz.func151 rfl acf rfl rfl ?_
  refine zr<|ey rfl ?_
  intro w1 aI aT di
  have hK:=hK.ext aI;have aQ:=aQ.ext aI
  refine zA<|aV<|jV<|zr<|zf lF rfl<|zl gv rfl (aT.at rfl)<|LO rfl rfl rfl rfl<|aV<|zc rfl (λh1=>?_) (λh1=>?_)
  have hq:dI t=qD t.av:=by rw[U9,iP h1]
  refine zr<|zf lF rfl<|zl gv rfl (aT.at rfl)<|aA (JQ _ _) ?_
  rintro _ _ ⟨rfl,rfl⟩
  refine zm<|zx (i:=0) rfl rfl<|zx (i:=1) rfl rfl<|zA<|zA<|aV<|zr<|zm<|zm ?_
  apply Ce 4 18 22 [18,19,20,21,22] (λw'=>w1=w') rfl
  intro h2
  replace h2:=jy h2
  refine zs<|zs<|zs<|zp rfl<|aV ?_
  exact mg rfl rfl
  intro h2
  replace h2:=jy h2
  refine zf lF rfl<|zl gv rfl (aT.at rfl)<|aA (vH _ _) ?_
  rintro _ _ ⟨rfl,rfl⟩
  refine zp rfl<|aV ?_
  exact mg rfl rfl
  rintro xx _ rfl
  refine zA<|aV<|kj ?_
  exact⟨_,rfl,by rw[hq];rfl,hK⟩
  have ha:t.av=[]:=Classical.not_not.1 h1
  have jS:=cF.pos ha
  have hq:=agE ha
  obtain⟨b,off,pa,pn,pc,rfl,eR,dZ,fG⟩:=fC aQ (ej jS)
  have lj:=agQ (nth t.ai 0).av
  refine gX<|zr<|zf ja rfl<|zl ix rfl (aT.at rfl)<|zi (i:=0) cw aK rfl rfl om<|zf lF rfl<|zl gv rfl (eR 0 _ rfl)<|aA (Kd _ _) ?_
  rintro _ _ ⟨rfl,rfl⟩
  refine zm<|zx (i:=0) rfl rfl<|zx (i:=1) rfl rfl<|zA<|zA<|aV<|jV<|zr<|zm<|wv rfl rfl rfl rfl rfl<|zm ?_
  apply Ce 6 34 40 [34,35,36,37,38,39,40] (λw'=>w1=w') rfl
  intro h3
  replace h3:=jy h3
  refine zs<|zs<|zs<|zs<|zs<|zp rfl<|aV ?_
  exact mg rfl rfl
  intro h3
  replace h3:=jy h3
  refine zf ja rfl<|zl ix rfl (aT.at rfl)<|IU cw rfl rfl rfl<|zm<|IW rfl rfl rfl rfl rfl<|zp rfl<|aV ?_
  exact mg rfl rfl
  rintro xx _ rfl
  refine aV<|zc rfl (λh4=>?_) (λh4=>?_)
  have hz:dI t=false:=(by rw[hq];simp only[oE,dE] at h4;rcases h4 with h|h;(·rw[show decide ((ek (nth t.ai 0).av).1≠0)=false from dF om];rfl);(·rw[show decide (t.ai.length=(ek (nth t.ai 0).av).2)=false from dF om];simp))
  refine zr<|zA<|aV<|kj ?_
  exact⟨_,rfl,by rw[hz];rfl,hK⟩
  have gq:(ek (nth t.ai 0).av).1≠0∧t.ai.length=(ek (nth t.ai 0).av).2:=(by simp only[Bool.or_eq_false_iff,decide_eq_false_iff_not] at h4;omega)
  obtain⟨gq,gD⟩:=gq
  have kX:dI t=(EU t.ai&&(t.ai.drop (ek (nth t.ai 0).av).1).all dI):=by rw[hq,dT gq,dT gD];rfl
  refine gX<|jV<|zr<|zm<|FX rfl rfl rfl rfl rfl<|zm ?_
  apply IZ 8 43 51 [43,44,45,46,47,48,49,50,51] (λw'=>w1=w') rfl
  intro h5
  replace h5:=jy h5
  have Bh:1<t.ai.length:=(by have h7:=h5;omega)
  obtain⟨b1,eh,gT,rB,gU,e1,bM,sY,pw⟩:=fC aQ (ej (i:=1) Bh)
  cases e1
  refine zf ja rfl<|zl ix rfl (aT.at rfl)<|zi (i:=1) cw aK rfl rfl om<|zf lF rfl<|zl gv rfl (bM 0 _ rfl)<|aA (vH _ _) ?_
  rintro _ _ ⟨rfl,rfl⟩
  refine jY rfl rfl rfl<|zp rfl<|aV ?_
  exact mg rfl rfl
  intro h5
  replace h5:=jy h5
  refine zs<|zs<|zs<|zs<|zs<|zs<|zs<|zp rfl<|aV ?_
  exact mg rfl rfl
  rintro xx _ rfl
  refine aV<|zc rfl (λh6=>?_) (λh6=>?_)
  have hz:dI t=false:=(by simp only[aE,dE,Bool.not_eq_true'] at h6;rw[kX];unfold EU;rw[show decide ((ek (nth t.ai 0).av).1<=1)=false from dF om,h6.2];rfl)
  refine zr<|zA<|aV<|kj ?_
  exact⟨_,rfl,by rw[hz];rfl,hK⟩
  have qK:(decide ((ek (nth t.ai 0).av).1<=1)||dX (nth t.ai 1).av)=true:=(by simp only[Bool.and_eq_false_iff,decide_eq_false_iff_not,Bool.not_eq_false'] at h6;rcases h6 with h|h;(·rw[dT om];rfl);(·rw[h];simp))
  have gi:dI t=((decide ((ek (nth t.ai 0).av).1≠5)||C7 t.ai)&&(t.ai.drop (ek (nth t.ai 0).av).1).all dI):=by rw[kX];unfold EU;rw[qK];rfl
  have Hw:(ek (nth t.ai 0).av).1=5->t.ai.length=6:=(by intro h;omega)
  have jr:∀i,i<t.ai.length->∃pa pn pc,gJ w1 b (off+i*2) [str (nth t.ai i).av,.slice pa pn pc]∧bh L w1 (.agg #[str (nth t.ai i).av,.slice pa pn pc]) (nth t.ai i):=(by intro i hi;obtain⟨b1,eh,gT,rB,gU,e1,bM,sY,pw⟩:=fC aQ (ej hi);cases e1;exact⟨_,_,_,bM,jh pw⟩)
  refine gX<|jV<|jV ?_
  refine iS (λ_:Unit=>[(1,.pointer (some ⟨w.heap.size,0,none⟩)),(5,.int .i64 ((ek (nth t.ai 0).av).1:Int)),(6,.int .i64 ((ek (nth t.ai 0).av).2:Int)),(91,.bool (decide ((ek (nth t.ai 0).av).1=5)&&!C7 t.ai))]) (λ_ w'=>ak [] w w'∧ak [] w1 w') ?_ ?_
  rcases agT t.ai (ek (nth t.ai 0).av).1 with lk|lk|lk|lk|lk|lk
  apply kU du 40 (rA 52 40) (rA 52 40) [[],[0],[1],[2],[2,3],[2,4],[2,5],[2,6],[2,7],[2,8],[2,9],[10],[10,11],[10,12],[10,13],[10,14],[10],[10,16],[10,17],[10,18],[10,19],[10,15,20],[2,10,21],[2,22],[23],[23,24],[23,25],[23,26],[23,27],[23,28],[2,23,29],[2,30],[31],[31,32],[31,33],[31,34],[31,35],[31,36],[2,31,37],[2,38]] [It.v _,It.v _,It.v (.bool false),It.v _,It.v _,It.v _,It.v _,It.v _,It.v _,It.v _,It.v _,It.v _,It.v _,It.v _,It.v _,It.v _,It.v _,It.v _,It.v _,It.v _,It.v _,It.v _,It.v _,It.v _,It.v _,It.v _,It.v _,It.v _,It.v _,It.v _,It.v _,It.v _,It.v _,It.v _,It.v _,It.v _,It.v _,It.v _,It.v _,It.v _] de rfl
  intro wd aB
  refine AW ?_
  refine vk aB (λx w2 az=>?_) ?_
  refine wv rfl rfl rfl rfl rfl ?_
  exact pv
  refine vc (λx w2 az=>?_) ?_
  refine zm ?_
  exact pv (by exact congrArg Value.bool (dF om))
  refine vc (λx w2 az=>?_) ?_
  exact cT pv
  refine vk aB (λx w2 az=>?_) ?_
  exact cT pv
  refine vk aB (λx w2 az=>?_) ?_
  exact cT pv
  refine vc (λx w2 az=>?_) ?_
  exact cT pv
  refine vk aB (λx w2 az=>?_) ?_
  exact cT pv
  refine vk aB (λx w2 az=>?_) ?_
  exact cT pv
  refine vc (λx w2 az=>?_) ?_
  exact cT pv
  refine vc (λx w2 az=>?_) ?_
  exact cT pv
  refine vc (λx w2 az=>?_) ?_
  exact cT pv
  refine vk aB (λx w2 az=>?_) ?_
  exact cT pv
  refine vk aB (λx w2 az=>?_) ?_
  exact cT pv
  refine vc (λx w2 az=>?_) ?_
  exact cT pv
  refine vk aB (λx w2 az=>?_) ?_
  exact cT pv
  refine vc (λx w2 az=>?_) ?_
  exact cT pv
  refine vk aB (λx w2 az=>?_) ?_
  exact cT pv
  refine vk aB (λx w2 az=>?_) ?_
  exact cT pv
  refine vc (λx w2 az=>?_) ?_
  exact cT pv
  refine vk aB (λx w2 az=>?_) ?_
  exact cT pv
  refine vk aB (λx w2 az=>?_) ?_
  exact cT pv
  refine vc (λx w2 az=>?_) ?_
  exact cT pv
  refine vc (λx w2 az=>?_) ?_
  exact cT pv
  refine vc (λx w2 az=>?_) ?_
  exact cT pv
  refine vk aB (λx w2 az=>?_) ?_
  exact cT pv
  refine vk aB (λx w2 az=>?_) ?_
  exact cT pv
  refine vk aB (λx w2 az=>?_) ?_
  exact cT pv
  refine vk aB (λx w2 az=>?_) ?_
  exact cT pv
  refine vc (λx w2 az=>?_) ?_
  exact cT pv
  refine vc (λx w2 az=>?_) ?_
  exact cT pv
  refine vc (λx w2 az=>?_) ?_
  exact cT pv
  refine vc (λx w2 az=>?_) ?_
  exact cT pv
  refine vk aB (λx w2 az=>?_) ?_
  exact cT pv
  refine vk aB (λx w2 az=>?_) ?_
  exact cT pv
  refine vk aB (λx w2 az=>?_) ?_
  exact cT pv
  refine vk aB (λx w2 az=>?_) ?_
  exact cT pv
  refine vc (λx w2 az=>?_) ?_
  exact cT pv
  refine vc (λx w2 az=>?_) ?_
  exact cT pv
  refine vc (λ_ _ _=>zp rfl pv) ?_
  exact trivial
  intro x oc gI
  have hK:=hK.ext gI
  change OW _ _ _ _ [] (aS (aR _ x _) (zZ 52 [_,_,_,_,_,_,_,_,_,_,_,_,_,_,_,_,_,_,_,_,_,_,_,_,_,_,_,_,_,_,_,_,_,_,_,_,_,_,_,_])) _
  refine aV ?_
  exact⟨(),⟨rfl,rfl,rfl,congrArg Value.bool (show false=_ from by rw[dF lk];rfl)⟩,hK,gI⟩
  obtain⟨h5,h2⟩:=lk
  have h6:=Hw h5
  obtain⟨iQ,yT,iR,bZ,dQ⟩:=jr 2 om
  apply kU du 40 (rA 52 40) (rA 52 40) [[],[0],[1],[2],[2,3],[2,4],[2,5],[2,6],[2,7],[2,8],[2,9],[10],[10,11],[10,12],[10,13],[10,14],[10],[10,16],[10,17],[10,18],[10,19],[10,15,20],[2,10,21],[2,22],[23],[23,24],[23,25],[23,26],[23,27],[23,28],[2,23,29],[2,30],[31],[31,32],[31,33],[31,34],[31,35],[31,36],[2,31,37],[2,38]] [It.v _,It.v _,It.v (.bool true),It.v _,It.v _,It.v _,It.v _,It.v _,It.v _,It.v _,It.v (.bool true),It.v _,It.v _,It.v _,It.v _,It.v _,It.v _,It.v _,It.v _,It.v _,It.v _,It.v _,It.v _,It.v (.bool true),It.v _,It.v _,It.v _,It.v _,It.v _,It.v _,It.v _,It.v (.bool true),It.v _,It.v _,It.v _,It.v _,It.v _,It.v _,It.v _,It.v _] de rfl
  intro wd aB
  refine AW ?_
  refine vk aB (λx w2 az=>?_) ?_
  refine wv rfl rfl rfl rfl rfl ?_
  exact pv
  refine vc (λx w2 az=>?_) ?_
  refine zm ?_
  exact pv (by exact congrArg Value.bool (dT om))
  refine vc (λ_ _ _=>zf ja rfl pv) ?_
  refine vk aB (λx w2 az=>?_) ?_
  have aT:=aT.ext az
  refine zl ix rfl (aT.at rfl) ?_
  exact pv
  refine vk aB (λx w2 az=>?_) ?_
  refine zi (i:=2) cw aK rfl rfl om ?_
  exact pv
  refine vc (λ_ _ _=>zf lF rfl pv) ?_
  refine vk aB (λx w2 az=>?_) ?_
  have bZ:=bZ.ext az
  refine zl gv rfl (bZ 0 _ rfl) ?_
  exact pv
  refine vk aB (λx w2 az=>?_) ?_
  refine aA (vH _ _) ?_
  rintro _ _ ⟨rfl,rfl⟩
  exact pv
  refine vc (λ_ _ _=>jY rfl rfl rfl pv) ?_
  refine vc (λx w2 az=>?_) ?_
  refine zm ?_
  exact pv (by exact congrArg Value.bool (show(!dX (nth t.ai 2).av)=true from by rw[h2];rfl))
  refine vc (λx w2 az=>?_) ?_
  exact cT pv
  refine vk aB (λx w2 az=>?_) ?_
  exact cT pv
  refine vk aB (λx w2 az=>?_) ?_
  exact cT pv
  refine vc (λx w2 az=>?_) ?_
  exact cT pv
  refine vk aB (λx w2 az=>?_) ?_
  exact cT pv
  refine vc (λx w2 az=>?_) ?_
  exact cT pv
  refine vk aB (λx w2 az=>?_) ?_
  exact cT pv
  refine vk aB (λx w2 az=>?_) ?_
  exact cT pv
  refine vc (λx w2 az=>?_) ?_
  exact cT pv
  refine vk aB (λx w2 az=>?_) ?_
  exact cT pv
  refine vk aB (λx w2 az=>?_) ?_
  exact cT pv
  refine vc (λ_ _ _=>zp rfl pv) ?_
  refine vc (λx w2 az=>?_) ?_
  refine zm ?_
  exact pv (by exact rfl)
  refine vc (λx w2 az=>?_) ?_
  exact cT pv
  refine vk aB (λx w2 az=>?_) ?_
  exact cT pv
  refine vk aB (λx w2 az=>?_) ?_
  exact cT pv
  refine vk aB (λx w2 az=>?_) ?_
  exact cT pv
  refine vk aB (λx w2 az=>?_) ?_
  exact cT pv
  refine vc (λx w2 az=>?_) ?_
  exact cT pv
  refine vc (λ_ _ _=>zp rfl pv) ?_
  refine vc (λx w2 az=>?_) ?_
  refine zm ?_
  exact pv (by exact rfl)
  refine vc (λx w2 az=>?_) ?_
  exact cT pv
  refine vk aB (λx w2 az=>?_) ?_
  exact cT pv
  refine vk aB (λx w2 az=>?_) ?_
  exact cT pv
  refine vk aB (λx w2 az=>?_) ?_
  exact cT pv
  refine vk aB (λx w2 az=>?_) ?_
  exact cT pv
  refine vc (λx w2 az=>?_) ?_
  exact cT pv
  refine vc (λ_ _ _=>zp rfl pv) ?_
  refine vc (λ_ _ _=>zp rfl pv) ?_
  exact trivial
  intro x oc gI
  have hK:=hK.ext gI
  change OW _ _ _ _ [] (aS (aR _ x _) (zZ 52 [_,_,_,_,_,_,_,_,_,_,_,_,_,_,_,_,_,_,_,_,_,_,_,_,_,_,_,_,_,_,_,_,_,_,_,_,_,_,_,_])) _
  refine aV ?_
  exact⟨(),⟨rfl,rfl,rfl,congrArg Value.bool (show true=_ from by unfold C7;rw[dT h5,h2];rfl)⟩,hK,gI⟩
  obtain⟨h5,h2,kS⟩:=lk
  have h6:=Hw h5
  obtain⟨gT,rB,gU,bM,cV⟩:=jr 1 om
  obtain⟨iQ,yT,iR,bZ,dQ⟩:=jr 2 om
  apply kU du 40 (rA 52 40) (rA 52 40) [[],[0],[1],[2],[2,3],[2,4],[2,5],[2,6],[2,7],[2,8],[2,9],[10],[10,11],[10,12],[10,13],[10,14],[10],[10,16],[10,17],[10,18],[10,19],[10,15,20],[2,10,21],[2,22],[23],[23,24],[23,25],[23,26],[23,27],[23,28],[2,23,29],[2,30],[31],[31,32],[31,33],[31,34],[31,35],[31,36],[2,31,37],[2,38]] [It.v _,It.v _,It.v (.bool true),It.v _,It.v _,It.v _,It.v _,It.v _,It.v _,It.v _,It.v (.bool false),It.v _,It.v _,It.v _,It.v _,It.v _,It.v _,It.v _,It.v _,It.v _,It.v _,It.v _,It.v _,It.v (.bool true),It.v _,It.v _,It.v _,It.v _,It.v _,It.v _,It.v _,It.v (.bool true),It.v _,It.v _,It.v _,It.v _,It.v _,It.v _,It.v _,It.v _] de rfl
  intro wd aB
  refine AW ?_
  refine vk aB (λx w2 az=>?_) ?_
  refine wv rfl rfl rfl rfl rfl ?_
  exact pv
  refine vc (λx w2 az=>?_) ?_
  refine zm ?_
  exact pv (by exact congrArg Value.bool (dT om))
  refine vc (λ_ _ _=>zf ja rfl pv) ?_
  refine vk aB (λx w2 az=>?_) ?_
  have aT:=aT.ext az
  refine zl ix rfl (aT.at rfl) ?_
  exact pv
  refine vk aB (λx w2 az=>?_) ?_
  refine zi (i:=2) cw aK rfl rfl om ?_
  exact pv
  refine vc (λ_ _ _=>zf lF rfl pv) ?_
  refine vk aB (λx w2 az=>?_) ?_
  have bZ:=bZ.ext az
  refine zl gv rfl (bZ 0 _ rfl) ?_
  exact pv
  refine vk aB (λx w2 az=>?_) ?_
  refine aA (vH _ _) ?_
  rintro _ _ ⟨rfl,rfl⟩
  exact pv
  refine vc (λ_ _ _=>jY rfl rfl rfl pv) ?_
  refine vc (λx w2 az=>?_) ?_
  refine zm ?_
  exact pv (by exact congrArg Value.bool (show(!dX (nth t.ai 2).av)=false from by rw[h2];rfl))
  refine vc (λ_ _ _=>zf ja rfl pv) ?_
  refine vk aB (λx w2 az=>?_) ?_
  have aT:=aT.ext az
  refine zl ix rfl (aT.at rfl) ?_
  exact pv
  refine vk aB (λx w2 az=>?_) ?_
  refine zi (i:=1) cw aK rfl rfl om ?_
  exact pv
  refine vc (λ_ _ _=>zf lF rfl pv) ?_
  refine vk aB (λx w2 az=>?_) ?_
  have bM:=bM.ext az
  refine zl gv rfl (bM 0 _ rfl) ?_
  exact pv
  refine vc (λ_ _ _=>zf ja rfl pv) ?_
  refine vk aB (λx w2 az=>?_) ?_
  have aT:=aT.ext az
  refine zl ix rfl (aT.at rfl) ?_
  exact pv
  refine vk aB (λx w2 az=>?_) ?_
  refine zi (i:=2) cw aK rfl rfl om ?_
  exact pv
  refine vc (λ_ _ _=>zf lF rfl pv) ?_
  refine vk aB (λx w2 az=>?_) ?_
  have bZ:=bZ.ext az
  refine zl gv rfl (bZ 0 _ rfl) ?_
  exact pv
  refine vk aB (λx w2 az=>?_) ?_
  refine Cc rfl rfl rfl rfl ?_
  exact pv
  refine vc (λ_ _ _=>zp rfl pv) ?_
  refine vc (λx w2 az=>?_) ?_
  refine zm ?_
  exact pv (by exact congrArg Value.bool (dT kS))
  refine vc (λx w2 az=>?_) ?_
  exact cT pv
  refine vk aB (λx w2 az=>?_) ?_
  exact cT pv
  refine vk aB (λx w2 az=>?_) ?_
  exact cT pv
  refine vk aB (λx w2 az=>?_) ?_
  exact cT pv
  refine vk aB (λx w2 az=>?_) ?_
  exact cT pv
  refine vc (λx w2 az=>?_) ?_
  exact cT pv
  refine vc (λ_ _ _=>zp rfl pv) ?_
  refine vc (λx w2 az=>?_) ?_
  refine zm ?_
  exact pv (by exact rfl)
  refine vc (λx w2 az=>?_) ?_
  exact cT pv
  refine vk aB (λx w2 az=>?_) ?_
  exact cT pv
  refine vk aB (λx w2 az=>?_) ?_
  exact cT pv
  refine vk aB (λx w2 az=>?_) ?_
  exact cT pv
  refine vk aB (λx w2 az=>?_) ?_
  exact cT pv
  refine vc (λx w2 az=>?_) ?_
  exact cT pv
  refine vc (λ_ _ _=>zp rfl pv) ?_
  refine vc (λ_ _ _=>zp rfl pv) ?_
  exact trivial
  intro x oc gI
  have hK:=hK.ext gI
  change OW _ _ _ _ [] (aS (aR _ x _) (zZ 52 [_,_,_,_,_,_,_,_,_,_,_,_,_,_,_,_,_,_,_,_,_,_,_,_,_,_,_,_,_,_,_,_,_,_,_,_,_,_,_,_])) _
  refine aV ?_
  exact⟨(),⟨rfl,rfl,rfl,congrArg Value.bool (show true=_ from by unfold C7;rw[dT h5,h2,dF (λh=>h kS)];rfl)⟩,hK,gI⟩
  obtain⟨h5,h2,kS,h3⟩:=lk
  have h6:=Hw h5
  obtain⟨gT,rB,gU,bM,cV⟩:=jr 1 om
  obtain⟨iQ,yT,iR,bZ,dQ⟩:=jr 2 om
  obtain⟨pz,Oe,pA,dP,ew⟩:=jr 3 om
  have eM:=kB (t:=t) (i:=3) om
  apply kU du 40 (rA 52 40) (rA 52 40) [[],[0],[1],[2],[2,3],[2,4],[2,5],[2,6],[2,7],[2,8],[2,9],[10],[10,11],[10,12],[10,13],[10,14],[10],[10,16],[10,17],[10,18],[10,19],[10,15,20],[2,10,21],[2,22],[23],[23,24],[23,25],[23,26],[23,27],[23,28],[2,23,29],[2,30],[31],[31,32],[31,33],[31,34],[31,35],[31,36],[2,31,37],[2,38]] [It.v _,It.v _,It.v (.bool true),It.v _,It.v _,It.v _,It.v _,It.v _,It.v _,It.v _,It.v (.bool false),It.v _,It.v _,It.v _,It.v _,It.v _,It.v _,It.v _,It.v _,It.v _,It.v _,It.v _,It.v _,It.v (.bool false),It.v _,It.v _,It.v _,It.v _,It.v _,It.v _,It.v _,It.v (.bool true),It.v _,It.v _,It.v _,It.v _,It.v _,It.v _,It.v _,It.v _] de rfl
  intro wd aB
  refine AW ?_
  refine vk aB (λx w2 az=>?_) ?_
  refine wv rfl rfl rfl rfl rfl ?_
  exact pv
  refine vc (λx w2 az=>?_) ?_
  refine zm ?_
  exact pv (by exact congrArg Value.bool (dT om))
  refine vc (λ_ _ _=>zf ja rfl pv) ?_
  refine vk aB (λx w2 az=>?_) ?_
  have aT:=aT.ext az
  refine zl ix rfl (aT.at rfl) ?_
  exact pv
  refine vk aB (λx w2 az=>?_) ?_
  refine zi (i:=2) cw aK rfl rfl om ?_
  exact pv
  refine vc (λ_ _ _=>zf lF rfl pv) ?_
  refine vk aB (λx w2 az=>?_) ?_
  have bZ:=bZ.ext az
  refine zl gv rfl (bZ 0 _ rfl) ?_
  exact pv
  refine vk aB (λx w2 az=>?_) ?_
  refine aA (vH _ _) ?_
  rintro _ _ ⟨rfl,rfl⟩
  exact pv
  refine vc (λ_ _ _=>jY rfl rfl rfl pv) ?_
  refine vc (λx w2 az=>?_) ?_
  refine zm ?_
  exact pv (by exact congrArg Value.bool (show(!dX (nth t.ai 2).av)=false from by rw[h2];rfl))
  refine vc (λ_ _ _=>zf ja rfl pv) ?_
  refine vk aB (λx w2 az=>?_) ?_
  have aT:=aT.ext az
  refine zl ix rfl (aT.at rfl) ?_
  exact pv
  refine vk aB (λx w2 az=>?_) ?_
  refine zi (i:=1) cw aK rfl rfl om ?_
  exact pv
  refine vc (λ_ _ _=>zf lF rfl pv) ?_
  refine vk aB (λx w2 az=>?_) ?_
  have bM:=bM.ext az
  refine zl gv rfl (bM 0 _ rfl) ?_
  exact pv
  refine vc (λ_ _ _=>zf ja rfl pv) ?_
  refine vk aB (λx w2 az=>?_) ?_
  have aT:=aT.ext az
  refine zl ix rfl (aT.at rfl) ?_
  exact pv
  refine vk aB (λx w2 az=>?_) ?_
  refine zi (i:=2) cw aK rfl rfl om ?_
  exact pv
  refine vc (λ_ _ _=>zf lF rfl pv) ?_
  refine vk aB (λx w2 az=>?_) ?_
  have bZ:=bZ.ext az
  refine zl gv rfl (bZ 0 _ rfl) ?_
  exact pv
  refine vk aB (λx w2 az=>?_) ?_
  refine Cc rfl rfl rfl rfl ?_
  exact pv
  refine vc (λ_ _ _=>zp rfl pv) ?_
  refine vc (λx w2 az=>?_) ?_
  refine zm ?_
  exact pv (by exact congrArg Value.bool (dF kS))
  refine vc (λ_ _ _=>zf ja rfl pv) ?_
  refine vk aB (λx w2 az=>?_) ?_
  have aT:=aT.ext az
  refine zl ix rfl (aT.at rfl) ?_
  exact pv
  refine vk aB (λx w2 az=>?_) ?_
  refine zi (i:=3) cw aK rfl rfl om ?_
  exact pv
  refine vk aB (λx w2 az=>?_) ?_
  have dP:=dP.ext az
  refine zL eK aK rfl dP rfl ?_
  exact pv
  refine vk aB (λx w2 az=>?_) ?_
  have ew:=ew.ext az
  refine aA (Bw (nth t.ai 3) om (cF.nth om) _ _ w2 ew) ?_
  rintro v3 w3 ⟨ka,aH⟩
  have eM:=aH.size
  obtain rfl:=ka
  exact pk aH
  refine vc (λ_ _ _=>jY rfl rfl rfl pv) ?_
  refine vc (λ_ _ _=>zp rfl pv) ?_
  refine vc (λx w2 az=>?_) ?_
  refine zm ?_
  exact pv (by exact congrArg Value.bool (show(!j5 (nth t.ai 3))=true from by rw[h3];rfl))
  refine vc (λx w2 az=>?_) ?_
  exact cT pv
  refine vk aB (λx w2 az=>?_) ?_
  exact cT pv
  refine vk aB (λx w2 az=>?_) ?_
  exact cT pv
  refine vk aB (λx w2 az=>?_) ?_
  exact cT pv
  refine vk aB (λx w2 az=>?_) ?_
  exact cT pv
  refine vc (λx w2 az=>?_) ?_
  exact cT pv
  refine vc (λ_ _ _=>zp rfl pv) ?_
  refine vc (λ_ _ _=>zp rfl pv) ?_
  exact trivial
  intro x oc gI
  have hK:=hK.ext gI
  change OW _ _ _ _ [] (aS (aR _ x _) (zZ 52 [_,_,_,_,_,_,_,_,_,_,_,_,_,_,_,_,_,_,_,_,_,_,_,_,_,_,_,_,_,_,_,_,_,_,_,_,_,_,_,_])) _
  refine aV ?_
  exact⟨(),⟨rfl,rfl,rfl,congrArg Value.bool (show true=_ from by unfold C7;rw[dT h5,h2,h3,Bool.and_false];rfl)⟩,hK,gI⟩
  obtain⟨h5,h2,kS,h3,h4⟩:=lk
  have h6:=Hw h5
  obtain⟨gT,rB,gU,bM,cV⟩:=jr 1 om
  obtain⟨iQ,yT,iR,bZ,dQ⟩:=jr 2 om
  obtain⟨pz,Oe,pA,dP,ew⟩:=jr 3 om
  obtain⟨Of,pn4,Og,jJ,qi⟩:=jr 4 om
  have eM:=kB (t:=t) (i:=3) om
  have fg:=kB (t:=t) (i:=4) om
  apply kU du 40 (rA 52 40) (rA 52 40) [[],[0],[1],[2],[2,3],[2,4],[2,5],[2,6],[2,7],[2,8],[2,9],[10],[10,11],[10,12],[10,13],[10,14],[10],[10,16],[10,17],[10,18],[10,19],[10,15,20],[2,10,21],[2,22],[23],[23,24],[23,25],[23,26],[23,27],[23,28],[2,23,29],[2,30],[31],[31,32],[31,33],[31,34],[31,35],[31,36],[2,31,37],[2,38]] [It.v _,It.v _,It.v (.bool true),It.v _,It.v _,It.v _,It.v _,It.v _,It.v _,It.v _,It.v (.bool false),It.v _,It.v _,It.v _,It.v _,It.v _,It.v _,It.v _,It.v _,It.v _,It.v _,It.v _,It.v _,It.v (.bool false),It.v _,It.v _,It.v _,It.v _,It.v _,It.v _,It.v _,It.v (.bool false),It.v _,It.v _,It.v _,It.v _,It.v _,It.v _,It.v _,It.v _] de rfl
  intro wd aB
  refine AW ?_
  refine vk aB (λx w2 az=>?_) ?_
  refine wv rfl rfl rfl rfl rfl ?_
  exact pv
  refine vc (λx w2 az=>?_) ?_
  refine zm ?_
  exact pv (by exact congrArg Value.bool (dT om))
  refine vc (λ_ _ _=>zf ja rfl pv) ?_
  refine vk aB (λx w2 az=>?_) ?_
  have aT:=aT.ext az
  refine zl ix rfl (aT.at rfl) ?_
  exact pv
  refine vk aB (λx w2 az=>?_) ?_
  refine zi (i:=2) cw aK rfl rfl om ?_
  exact pv
  refine vc (λ_ _ _=>zf lF rfl pv) ?_
  refine vk aB (λx w2 az=>?_) ?_
  have bZ:=bZ.ext az
  refine zl gv rfl (bZ 0 _ rfl) ?_
  exact pv
  refine vk aB (λx w2 az=>?_) ?_
  refine aA (vH _ _) ?_
  rintro _ _ ⟨rfl,rfl⟩
  exact pv
  refine vc (λ_ _ _=>jY rfl rfl rfl pv) ?_
  refine vc (λx w2 az=>?_) ?_
  refine zm ?_
  exact pv (by exact congrArg Value.bool (show(!dX (nth t.ai 2).av)=false from by rw[h2];rfl))
  refine vc (λ_ _ _=>zf ja rfl pv) ?_
  refine vk aB (λx w2 az=>?_) ?_
  have aT:=aT.ext az
  refine zl ix rfl (aT.at rfl) ?_
  exact pv
  refine vk aB (λx w2 az=>?_) ?_
  refine zi (i:=1) cw aK rfl rfl om ?_
  exact pv
  refine vc (λ_ _ _=>zf lF rfl pv) ?_
  refine vk aB (λx w2 az=>?_) ?_
  have bM:=bM.ext az
  refine zl gv rfl (bM 0 _ rfl) ?_
  exact pv
  refine vc (λ_ _ _=>zf ja rfl pv) ?_
  refine vk aB (λx w2 az=>?_) ?_
  have aT:=aT.ext az
  refine zl ix rfl (aT.at rfl) ?_
  exact pv
  refine vk aB (λx w2 az=>?_) ?_
  refine zi (i:=2) cw aK rfl rfl om ?_
  exact pv
  refine vc (λ_ _ _=>zf lF rfl pv) ?_
  refine vk aB (λx w2 az=>?_) ?_
  have bZ:=bZ.ext az
  refine zl gv rfl (bZ 0 _ rfl) ?_
  exact pv
  refine vk aB (λx w2 az=>?_) ?_
  refine Cc rfl rfl rfl rfl ?_
  exact pv
  refine vc (λ_ _ _=>zp rfl pv) ?_
  refine vc (λx w2 az=>?_) ?_
  refine zm ?_
  exact pv (by exact congrArg Value.bool (dF kS))
  refine vc (λ_ _ _=>zf ja rfl pv) ?_
  refine vk aB (λx w2 az=>?_) ?_
  have aT:=aT.ext az
  refine zl ix rfl (aT.at rfl) ?_
  exact pv
  refine vk aB (λx w2 az=>?_) ?_
  refine zi (i:=3) cw aK rfl rfl om ?_
  exact pv
  refine vk aB (λx w2 az=>?_) ?_
  have dP:=dP.ext az
  refine zL eK aK rfl dP rfl ?_
  exact pv
  refine vk aB (λx w2 az=>?_) ?_
  have ew:=ew.ext az
  refine aA (Bw (nth t.ai 3) om (cF.nth om) _ _ w2 ew) ?_
  rintro v3 w3 ⟨ka,aH⟩
  have eM:=aH.size
  obtain rfl:=ka
  exact pk aH
  refine vc (λ_ _ _=>jY rfl rfl rfl pv) ?_
  refine vc (λ_ _ _=>zp rfl pv) ?_
  refine vc (λx w2 az=>?_) ?_
  refine zm ?_
  exact pv (by exact congrArg Value.bool (show(!j5 (nth t.ai 3))=false from by rw[h3];rfl))
  refine vc (λ_ _ _=>zf ja rfl pv) ?_
  refine vk aB (λx w2 az=>?_) ?_
  have aT:=aT.ext az
  refine zl ix rfl (aT.at rfl) ?_
  exact pv
  refine vk aB (λx w2 az=>?_) ?_
  refine zi (i:=4) cw aK rfl rfl om ?_
  exact pv
  refine vk aB (λx w2 az=>?_) ?_
  have jJ:=jJ.ext az
  refine zL eK aK rfl jJ rfl ?_
  exact pv
  refine vk aB (λx w2 az=>?_) ?_
  have qi:=qi.ext az
  refine aA (Bw (nth t.ai 4) om (cF.nth om) _ _ w2 qi) ?_
  rintro v3 w3 ⟨ka,aH⟩
  have eM:=aH.size
  obtain rfl:=ka
  exact pk aH
  refine vc (λ_ _ _=>jY rfl rfl rfl pv) ?_
  refine vc (λ_ _ _=>zp rfl pv) ?_
  refine vc (λ_ _ _=>zp rfl pv) ?_
  exact trivial
  intro x oc gI
  have hK:=hK.ext gI
  change OW _ _ _ _ [] (aS (aR _ x _) (zZ 52 [_,_,_,_,_,_,_,_,_,_,_,_,_,_,_,_,_,_,_,_,_,_,_,_,_,_,_,_,_,_,_,_,_,_,_,_,_,_,_,_])) _
  refine aV ?_
  exact⟨(),⟨rfl,rfl,rfl,congrArg Value.bool (show(!j5 (nth t.ai 4))=_ from by unfold C7;rw[dT h5,h2,h3,h4,Bool.and_false];rfl)⟩,hK,gI⟩
  obtain⟨h5,h2,kS,h3,h4⟩:=lk
  have h6:=Hw h5
  obtain⟨gT,rB,gU,bM,cV⟩:=jr 1 om
  obtain⟨iQ,yT,iR,bZ,dQ⟩:=jr 2 om
  obtain⟨pz,Oe,pA,dP,ew⟩:=jr 3 om
  obtain⟨Of,pn4,Og,jJ,qi⟩:=jr 4 om
  have eM:=kB (t:=t) (i:=3) om
  have fg:=kB (t:=t) (i:=4) om
  apply kU du 40 (rA 52 40) (rA 52 40) [[],[0],[1],[2],[2,3],[2,4],[2,5],[2,6],[2,7],[2,8],[2,9],[10],[10,11],[10,12],[10,13],[10,14],[10],[10,16],[10,17],[10,18],[10,19],[10,15,20],[2,10,21],[2,22],[23],[23,24],[23,25],[23,26],[23,27],[23,28],[2,23,29],[2,30],[31],[31,32],[31,33],[31,34],[31,35],[31,36],[2,31,37],[2,38]] [It.v _,It.v _,It.v (.bool true),It.v _,It.v _,It.v _,It.v _,It.v _,It.v _,It.v _,It.v (.bool false),It.v _,It.v _,It.v _,It.v _,It.v _,It.v _,It.v _,It.v _,It.v _,It.v _,It.v _,It.v _,It.v (.bool false),It.v _,It.v _,It.v _,It.v _,It.v _,It.v _,It.v _,It.v (.bool false),It.v _,It.v _,It.v _,It.v _,It.v _,It.v _,It.v _,It.v _] de rfl
  intro wd aB
  refine AW ?_
  refine vk aB (λx w2 az=>?_) ?_
  refine wv rfl rfl rfl rfl rfl ?_
  exact pv
  refine vc (λx w2 az=>?_) ?_
  refine zm ?_
  exact pv (by exact congrArg Value.bool (dT om))
  refine vc (λ_ _ _=>zf ja rfl pv) ?_
  refine vk aB (λx w2 az=>?_) ?_
  have aT:=aT.ext az
  refine zl ix rfl (aT.at rfl) ?_
  exact pv
  refine vk aB (λx w2 az=>?_) ?_
  refine zi (i:=2) cw aK rfl rfl om ?_
  exact pv
  refine vc (λ_ _ _=>zf lF rfl pv) ?_
  refine vk aB (λx w2 az=>?_) ?_
  have bZ:=bZ.ext az
  refine zl gv rfl (bZ 0 _ rfl) ?_
  exact pv
  refine vk aB (λx w2 az=>?_) ?_
  refine aA (vH _ _) ?_
  rintro _ _ ⟨rfl,rfl⟩
  exact pv
  refine vc (λ_ _ _=>jY rfl rfl rfl pv) ?_
  refine vc (λx w2 az=>?_) ?_
  refine zm ?_
  exact pv (by exact congrArg Value.bool (show(!dX (nth t.ai 2).av)=false from by rw[h2];rfl))
  refine vc (λ_ _ _=>zf ja rfl pv) ?_
  refine vk aB (λx w2 az=>?_) ?_
  have aT:=aT.ext az
  refine zl ix rfl (aT.at rfl) ?_
  exact pv
  refine vk aB (λx w2 az=>?_) ?_
  refine zi (i:=1) cw aK rfl rfl om ?_
  exact pv
  refine vc (λ_ _ _=>zf lF rfl pv) ?_
  refine vk aB (λx w2 az=>?_) ?_
  have bM:=bM.ext az
  refine zl gv rfl (bM 0 _ rfl) ?_
  exact pv
  refine vc (λ_ _ _=>zf ja rfl pv) ?_
  refine vk aB (λx w2 az=>?_) ?_
  have aT:=aT.ext az
  refine zl ix rfl (aT.at rfl) ?_
  exact pv
  refine vk aB (λx w2 az=>?_) ?_
  refine zi (i:=2) cw aK rfl rfl om ?_
  exact pv
  refine vc (λ_ _ _=>zf lF rfl pv) ?_
  refine vk aB (λx w2 az=>?_) ?_
  have bZ:=bZ.ext az
  refine zl gv rfl (bZ 0 _ rfl) ?_
  exact pv
  refine vk aB (λx w2 az=>?_) ?_
  refine Cc rfl rfl rfl rfl ?_
  exact pv
  refine vc (λ_ _ _=>zp rfl pv) ?_
  refine vc (λx w2 az=>?_) ?_
  refine zm ?_
  exact pv (by exact congrArg Value.bool (dF kS))
  refine vc (λ_ _ _=>zf ja rfl pv) ?_
  refine vk aB (λx w2 az=>?_) ?_
  have aT:=aT.ext az
  refine zl ix rfl (aT.at rfl) ?_
  exact pv
  refine vk aB (λx w2 az=>?_) ?_
  refine zi (i:=3) cw aK rfl rfl om ?_
  exact pv
  refine vk aB (λx w2 az=>?_) ?_
  have dP:=dP.ext az
  refine zL eK aK rfl dP rfl ?_
  exact pv
  refine vk aB (λx w2 az=>?_) ?_
  have ew:=ew.ext az
  refine aA (Bw (nth t.ai 3) om (cF.nth om) _ _ w2 ew) ?_
  rintro v3 w3 ⟨ka,aH⟩
  have eM:=aH.size
  obtain rfl:=ka
  exact pk aH
  refine vc (λ_ _ _=>jY rfl rfl rfl pv) ?_
  refine vc (λ_ _ _=>zp rfl pv) ?_
  refine vc (λx w2 az=>?_) ?_
  refine zm ?_
  exact pv (by exact congrArg Value.bool (show(!j5 (nth t.ai 3))=false from by rw[h3];rfl))
  refine vc (λ_ _ _=>zf ja rfl pv) ?_
  refine vk aB (λx w2 az=>?_) ?_
  have aT:=aT.ext az
  refine zl ix rfl (aT.at rfl) ?_
  exact pv
  refine vk aB (λx w2 az=>?_) ?_
  refine zi (i:=4) cw aK rfl rfl om ?_
  exact pv
  refine vk aB (λx w2 az=>?_) ?_
  have jJ:=jJ.ext az
  refine zL eK aK rfl jJ rfl ?_
  exact pv
  refine vk aB (λx w2 az=>?_) ?_
  have qi:=qi.ext az
  refine aA (Bw (nth t.ai 4) om (cF.nth om) _ _ w2 qi) ?_
  rintro v3 w3 ⟨ka,aH⟩
  have eM:=aH.size
  obtain rfl:=ka
  exact pk aH
  refine vc (λ_ _ _=>jY rfl rfl rfl pv) ?_
  refine vc (λ_ _ _=>zp rfl pv) ?_
  refine vc (λ_ _ _=>zp rfl pv) ?_
  exact trivial
  intro x oc gI
  have hK:=hK.ext gI
  change OW _ _ _ _ [] (aS (aR _ x _) (zZ 52 [_,_,_,_,_,_,_,_,_,_,_,_,_,_,_,_,_,_,_,_,_,_,_,_,_,_,_,_,_,_,_,_,_,_,_,_,_,_,_,_])) _
  refine aV ?_
  exact⟨(),⟨rfl,rfl,rfl,congrArg Value.bool (show(!j5 (nth t.ai 4))=_ from by unfold C7;rw[dT h5,h2,h3,h4,dT kS];rfl)⟩,hK,gI⟩
  intro gu qQ yX hI
  obtain⟨hK,aC⟩:=hI
  have aT:=aT.ext aC;have aQ:=aQ.ext aC
  refine zc rfl (λh7=>?_) (λh7=>?_)
  have hz:dI t=false:=(by simp only[aE,dE,Bool.not_eq_true'] at h7;rw[gi,dF (λh=>h h7.1),h7.2];rfl)
  refine zr<|zA<|aV<|kj ?_
  exact⟨_,rfl,by rw[hz];rfl,hK⟩
  have r7:dI t=(t.ai.drop (ek (nth t.ai 0).av).1).all dI:=(by simp only[Bool.and_eq_false_iff,decide_eq_false_iff_not,Bool.not_eq_false'] at h7;rw[gi];rcases h7 with h|h;(·rw[dT h];rfl);(·rw[h,Bool.or_true];rfl))
  refine gX<|jV<|zr<|zm<|zA<|aV<|tI ?_
  refine eO (λk:Nat=>[(1,.pointer (some ⟨w.heap.size,0,none⟩)),(6,.int .i64 ((ek (nth t.ai 0).av).2:Int)),(7,.int .i64 (k:Int))]) (λk w'=>ak [] w w'∧ak [] qQ w'∧(ek (nth t.ai 0).av).1<=k∧k<=t.ai.length∧∀j,(ek (nth t.ai 0).av).1<=j->j<k->dI (nth t.ai j)=true) (λk=>t.ai.length-k) ((ek (nth t.ai 0).av).1) (⟨rfl,rfl,rfl⟩) (⟨hK,ak.refl _ _,lR _,om,by intro j h1 h2;omega⟩) ?_
  intro gg p7 EW hI
  obtain⟨hK,kG,aI,hk,cZ⟩:=hI
  have aT:=aT.ext kG;have aQ:=aQ.ext kG
  refine jV<|zr<|zm<|zm<|IV rfl rfl rfl rfl rfl<|aV<|zc rfl (λh8=>?_) (λh8=>?_)
  have ik:gg<t.ai.length:=om
  obtain⟨b1,eh,gT,rB,gU,e1,bM,sY,pw⟩:=fC aQ (ej ik)
  cases e1
  subst sY
  have cV:=jh pw
  have df:=kB ik
  refine gX<|jV<|tI<|zr<|zf ja rfl<|zl ix rfl (aT.at rfl)<|zm<|zi cw aK rfl rfl ik<|zL eK aK rfl bM rfl<|aA (ih (nth t.ai gg) om om (cF.nth ik) _ _ p7 cV) ?_
  rintro v44 nX ⟨agX,jm⟩
  have apw:=jm.size
  have hK:=hK.ext jm;have kG:=kG.ext jm
  obtain rfl:=agX
  refine jY rfl rfl rfl<|aV<|zc rfl (λh9=>?_) (λh9=>?_)
  have hz:dI t=false:=(by rw[r7];exact agS aI ik (by simpa using h9))
  refine zr<|zA<|aV<|kj ?_
  exact⟨_,rfl,by rw[hz];rfl,hK⟩
  have hy:dI (nth t.ai gg)=true:=(by simpa using h9)
  refine gX<|lv<|zm<|o3 rfl rfl rfl rfl rfl (wrap_i64 _ om om)<|zA<|aV ?_
  exact⟨gg+1,⟨rfl,rfl,rfl⟩,⟨hK,kG,om,om,by intro j h1 h2;rcases Nat.lt_or_ge j gg with h|h;exact cZ j h1 h;rw[show j=gg by omega];exact hy⟩,om⟩
  refine zX<|zY rfl<|zr<|zA<|aV<|kj ?_
  exact⟨_,rfl,by rw[r7,agR (λj h1 h2=>cZ j h1 om)];rfl,hK⟩
section
variable {P:Program} {w:World}
theorem agY {t ty T:TypeId} {i:TypeInfo} {sz bytes:Nat} (ht:P.underlying t=some (.slice T)) (hi:P.info? T=some i) (hz:i.zero=some z) 
  (Ca:i.size=sz) (gm:i.bytes=bytes) (xV:z.cells.size=sz)
  {v:Value} {g:Option Nat} {n:Nat} {xs:List Value} (dH:im w T sz v g n xs)
  (ab aoff m c:Nat) (news:List Value) (hl:news.length=m*sz) (Cb:gJ w ab aoff news) (h1:∀u∈news,u.oneCell'=true) (hm:0<m) (Oh:0<i.size)
  (Aa:n+m<=maxLen) (xW:(n+m)*bytes<=140737488355328):
  ∃v' g' w',(Builtin.append_ #[t,t] ty #[v,.slice (some ⟨ab,aoff,none⟩) m c]).run P w= .ok v' w'∧im w' T sz v' g' (n+m) (xs++news)∧
   ((g'=g∧ak g.toList w w'∧∀b,g=some b->∃cur U,aL w b cur U∧0<cur.size)∨(g'=some w.heap.size∧ak [] w w')):=by
 subst Ca
 subst gm
 have D6:n+m<=9223372036854775807:=by simp only[maxLen] at Aa;omega
 have hlen:(xs++news).length=(n+m)*i.size:=by rw[lA,dH.1,hl,Nat.add_mul]
 have wq:∀b o j:Nat,(⟨b,o,none⟩:Addr).add j=⟨b,o+j,none⟩:=λb o j=>by unfold Addr.add;split<;>simp_all
 have uP:∀j u,news[j]?=some u->w.cell? ((⟨ab,aoff,none⟩:Addr).add j)=some u:=λj u hu=>by rw[wq];exact Cb j u hu
 have grown:∀(old:Nat),old<n+m->
   im (w.drew.alloc (.cells (xs.toArray++news.toArray++Builtin.zeroCells z.cells (grownCap w (n+m) old T-(n+m))) T)) T i.size
    (.slice (some ⟨w.heap.size,0,none⟩) (n+m) (grownCap w (n+m) old T)) (some w.heap.size) (n+m) (xs++news)∧
   ak [] w (w.drew.alloc (.cells (xs.toArray++news.toArray++Builtin.zeroCells z.cells (grownCap w (n+m) old T-(n+m))) T)):=by
  intro old ho
  have rU:=grownCap_ge w (n+m) old T
  have mH:grownCap w (n+m) old T<=maxLen:=grownCap_le_maxLen w (n+m) old T Aa
  refine⟨⟨hlen,.inr ⟨w.heap.size,_,_,rfl,rfl,heap_alloc_new w.drew _,rU,mH,?_,?_⟩⟩,⟨rfl,rfl,rfl,sm,λk hk _=>(ak.alloc [] w.drew _).block k hk sm⟩⟩
  ·simp only[Array.size_append,List.size_toArray,size_zeroCells,xV,dH.1,hl,<-Nat.add_mul]
   congr 1
   omega
  ·simp only[Array.toList_append,List.append_assoc]
   rw[<-List.append_assoc,<-hlen]
   exact List.take_left
 rcases dH.2 with⟨rfl,rfl,rfl⟩|⟨b,cap,cur,rfl,rfl,hb,mI,mH,cG,tJ⟩
 ·have hx:xs=[]:=List.eq_nil_of_length_eq_zero (by simpa using dH.1)
  subst hx
  have hr:=run_append_nil (P:=P) w t ty T i z ht hi hz ⟨ab,aoff,none⟩ m c news hl uP hm om (by have hb:=xW;simp only[Nat.zero_add] at hb;omega)
  have ly:=grown 0 om
  simp only[Nat.zero_add,List.nil_append,Array.empty_append] at ly⊢
  exact⟨_,_,_,hr,ly.1,.inr ⟨rfl,ly.2⟩⟩
 ·by_cases sC:n+m<=cap
  ·have lx:n*i.size+news.length<=cur.size:=by rw[hl,cG,<-Nat.add_mul];exact Nat.mul_le_mul_right _ sC
   have hr:=run_append_room (P:=P) w t ty T i ht hi b n cap cur hb ⟨ab,aoff,none⟩ m c news hl uP h1 sC lx
   refine⟨_,some b,_,hr,⟨hlen,.inr ⟨b,cap,_,rfl,rfl,setRow_heap w b cur _ T _ hb,sC,mH,?_,?_⟩⟩,.inl ⟨rfl,⟨rfl,rfl,rfl,sm,λk _ hk=>setRow_other w b k _ (by simpa using hk)⟩,λb' gC=>?_⟩⟩
   ·simp only[List.size_toArray,lA,List.length_take,List.length_drop,Array.length_toList]
    omega
   ·rw[tJ,<-hlen]
    exact List.take_left
   ·cases gC
    refine⟨cur,T,hb,?_⟩
    rw[cG]
    exact Nat.mul_pos om Oh
  ·have holds:∀j u,xs[j]?=some u->w.cell? ((⟨b,0,none⟩:Addr).add j)=some u:=λj u hu=>by
    rw[wq,hb.cell]
    rw[<-tJ,List.getElem?_take] at hu
    split at hu
    ·simpa using hu
    ·cases hu
   have hr:=run_append_grow (P:=P) w t ty T i z ht hi hz ⟨b,0,none⟩ n cap xs dH.1 holds ⟨ab,aoff,none⟩ m c news hl uP om om (growslice_fits om xW)
   have ly:=grown cap om
   exact⟨_,_,_,hr,ly.1,.inr ⟨rfl,ly.2⟩⟩
end
def qR (G:List Nat) (w:World) (T:TypeId) (g:Option Nat):Prop:=∀x,x∈g.toList->x∈G∨aL w x #[] T
theorem qR.ext {T:TypeId} (h:qR G w T g) (k:ak [] w w'):qR G w' T g:=λx hx=>(h x hx).imp id λh=>h.ext k
theorem qR.sub {T:TypeId} (h:∀x,x∈g.toList->x∈G):qR G w T g:=λx hx=>.inl (h x hx)
section
variable {P:Program} {n:Nat} {ops:Array Oper} {K:Env->World->Prop} {rest:List Oper} {e:Env} {w:World} {dst:Option Nat} {ty:TypeId} {pos:String} {after:Array Edge} {g:Option (Nat×Bool)} {x y:Operand}
theorem EX {G L:List Nat} {v u:Value} {gb:Option Nat} {xs ys:List aj} (hT:P.underlying t=some (.slice E)) (hE:TI P E 1 bytes z) (hg:gate ops e g=true) (hd:cC n dst=true) (hz:Nat.beq z.cells.size 1=true) (gm:Nat.ble bytes 1000=true) 
  (hx:ev e x=v) (hy:ev e y=u) (hO:cE w E v gb xs) (hu:bg L w u ys) (hG:eZ G w) (bj:qR G w E gb) (hn:xs.length+ys.length<100000000)
  (k:∀v' g' w' G',cE w' E v' g' (xs++ys)->qR G' w' E g'->(∀x,x∈g'.toList->x∈gb.toList∨w.heap.size<=x)->(∀x,x∈G->x∈G')->Fr G w G' w'->eZ G' w'->ak gb.toList w w'->OW P n ops K rest (bY e dst v') w'):
  OW P n ops K (⟨dst,.call {callee:=.builtin .append,args:=#[x,y],argTypes:=#[t,t]},ty,pos,after,g⟩::rest) e w:=by
 obtain⟨i,hi,ye,fU,NK⟩:=hE.get
 have Aj:bytes<=1000:=Nat.le_of_ble_eq_true gm
 obtain⟨a2,n2,c2,rfl,eQ⟩:=dU hu
 subst eQ
 by_cases hp:0<ys.length
 ·obtain⟨ab,aoff,vs,rfl,Jv,apx,hc,JP,_,gR⟩:=T6 hu (by rw[qA];exact hp)
  have ba:=NL JP
  subst ba
  obtain⟨v',g',w',jG,tP,agZ⟩:=agY (P:=P) (ty:=ty) hT hi ye fU NK (Nat.eq_of_beq_eq_true hz) hO ab aoff ys.length c2 (ys.map λx=>str x) sm hc (by intro u hu;obtain⟨s,_,rfl⟩:=List.mem_map.1 hu;rfl) hp (by rw[fU];decide) (by simp only[maxLen];omega)
   (Nat.le_trans (Nat.mul_le_mul (show xs.length+ys.length<=100000000 by omega) Aj) de)
  have Oi:cE w' E v' g' (xs++ys):=by
   unfold cE
   rw[lA,List.map_append]
   exact tP
  refine fA hg hd (v:=v') (w':=w') (by
   simp only[execOp,resolve,invoke,builtin,Sem.run_bind,Sem.run_pure,Result.andThen_ok,List.map_toArray,List.map_cons,List.map_nil,hx,hy,jG]) ?_
  rcases agZ with⟨rfl,hk,Hx⟩|⟨rfl,hk⟩
  ·have Bx:∀q,q∈g'.toList->q∈G:=λq hq=>by
    rcases bj q hq with h|h
    ·exact h
    ·obtain⟨cur,U,hb,hs⟩:=Hx q (by simpa using hq)
     unfold aL at h hb
     rw[h] at hb
     cases hb
     simp at hs
   exact k v' g' w' G Oi (qR.sub Bx) (λq hq=>.inl hq) (λq hq=>hq) (Fr.of hk Bx) (λq hq=>lL (hG q hq) hk.size) hk
  ·have et:w.heap.size<w'.heap.size:=Oi.lt _ sm
   refine k v' _ w' (w.heap.size::G) Oi (qR.sub sm) (λq hq=>.inr (by simp at hq;omega)) (λq hq=>mK _ hq) ⟨hk.any,λq hq=>?_⟩ (λq hq=>?_) hk.any
   ·rcases mC.1 hq with h|h
    ·right;omega
    ·exact .inl h
   ·rcases mC.1 hq with h|h
    ·omega
    ·exact lL (hG q h) hk.size
 ·have kT:ys=[]:=List.length_eq_zero_iff.1 om
  subst kT
  obtain⟨a,cap,rfl⟩:=j8 hO
  have D9:xs.length<=cap:=by
   rcases hO.2 with⟨h,h2,_⟩|⟨_,_,_,_,h,_,h2,_⟩
   ·rw[h2];omega
   ·cases h;exact h2
  have jG:=T7 (P:=P) (w:=w) (t:=t) (ty:=ty) hT hi (a:=a) (m:=xs.length) (cap:=cap) D9 (a2:=a2) (c2:=c2)
  refine fA hg hd (v:=.slice a xs.length cap) (w':=w) (by
   simp only[execOp,resolve,invoke,builtin,Sem.run_bind,Sem.run_pure,Result.andThen_ok,List.map_toArray,List.map_cons,List.map_nil,hx,hy]
   have e2:([]:List aj).length=0:=rfl
   rw[e2]
   simp only[jG,Sem.run_bind,Sem.run_pure,Result.andThen_ok]) ?_
  exact k _ gb w G (by rw[List.append_nil];exact hO) bj (λq hq=>.inl hq) (λq hq=>hq) (Fr.refl _ _) hG (ak.refl _ _)
theorem ag0 {T:Nat} (hT:P.underlying T=some (.slice E)) (hE:TI P E sz bytes z) (hg:gate ops e g=true) (hd:cC n dst=true) 
  (k:∀w',ak [] w w'->aL w' w.heap.size #[] E->w'.heap.size=w.heap.size+1->OW P n ops K rest (bY e dst (.slice (some ⟨w.heap.size,0,none⟩) 0 0)) w'):
  OW P n ops K (⟨dst,.buildSlice T 0 #[],ty,pos,after,g⟩::rest) e w:=
 fA hg hd (w':=w.alloc (.cells #[] E)) (by simp[execOp,Rt (P:=P) (w:=w) hT hE]) (k _ (ak.alloc _ _ _) (aL.alloc _ _ _) sm)
theorem gA {T:Nat} (hT:P.underlying T=some (.slice E)) (hE:TI P E sz bytes z) (k:∀w',ak [] w w'->aL w' w.heap.size #[] E->w'.heap.size=w.heap.size+1->OW P n ops K rest (bY e dst (.slice (some ⟨w.heap.size,0,none⟩) 0 0)) w') (hg:gate ops e g=true:=by rfl) (hd:cC n dst=true:=by rfl):OW P n ops K (⟨dst,.buildSlice T 0 #[],ty,pos,after,g⟩::rest) e w:=ag0 hT hE hg hd k
end
def LP (N:Nat) (G G0:List Nat) (w:World) (T:TypeId) (v:Value) (xs:List aj):Prop:=∃g,cE w T v g xs∧qR G w T g∧∀x,x∈g.toList->x∉G0∧N<=x
theorem LP.ext {T:TypeId} (h:LP N G G0 w T v xs) (k:ak [] w w'):LP N G G0 w' T v xs:=let⟨g,h1,h2,h3⟩:=h;⟨g,h1.ext k,h2.ext k,h3⟩
structure Out (N:Nat) (G0:List Nat) (w w':World):Prop where
 ex:∃H,ak H w w'∧∀x,x∈H->x∉G0∧N<=x
theorem Out.iy (h:Out N G0 w w') {cs:Array Value} {T:TypeId} (hb:aL w b cs T) (hG:b∈G0):aL w' b cs T:=let⟨_,k,hH⟩:=h.ex;hb.aG k λhx=>(hH b hx).1 hG
theorem Out.since {w0:World} (h:Out w0.heap.size G0 w w') (k:ak L w0 w):ak L w0 w':=let⟨_,kk,hH⟩:=h.ex;k.since kk λx hx=>.inr (hH x hx).2
section
variable {P:Program} {n:Nat} {ops:Array Oper} {K:Env->World->Prop} {rest:List Oper} {e:Env} {w:World} {dst:Option Nat} {ty:TypeId} {pos:String} {after:Array Edge} {g:Option (Nat×Bool)} {x y:Operand}
theorem Hy {N:Nat} {G0:List Nat} {bb:Nat} {u:Value} {ys:List aj} (hT:P.underlying t=some (.slice E)) (hE:TI P E 1 bytes z) (hg:gate ops e g=true) (hd:cC n dst=true) (hz:Nat.beq z.cells.size 1=true) (gm:Nat.ble bytes 1000=true) 
  (hx:ev e x= .slice (some ⟨bb,0,none⟩) 0 0) (hy:ev e y=u) (hb:dW G0 w bb #[] E) (Vm:N<=bb) (hu:bg G0 w u ys) (hG:eZ G0 w) (hn:ys.length<100000000)
  (k:∀v' w' G',(∀q,q∈G0->q∈G')->LP N G' G0 w' E v' ys->Fr G0 w G' w'->eZ G' w'->Out N G0 w w'->OW P n ops K rest (bY e dst v') w'):
  OW P n ops K (⟨dst,.call {callee:=.builtin .append,args:=#[x,y],argTypes:=#[t,t]},ty,pos,after,g⟩::rest) e w:=by
 refine EX hT hE hg hd hz gm hx hy hb.iy.lh hu hG (λq hq=>.inr (by simp at hq;subst hq;exact hb.iy)) (by simpa using hn) ?_
 intro v' g' w' G' hO hZ hs kc bI hl hk
 refine k v' w' G' kc ⟨g',hO,hZ,λq hq=>⟨λVn=>?_,?_⟩⟩ bI hl ⟨_,hk,λq hq=>?_⟩
 ·rcases hs q hq with h|h
  ·simp at h;subst h;exact hb.out Vn
  ·have:=hG q Vn;omega
 ·rcases hs q hq with h|h
  ·simp at h;subst h;exact Vm
  ·have:=hb.iy.lt;omega
 ·simp at hq;subst hq;exact⟨hb.out,Vm⟩
theorem Ke {N:Nat} {G G0:List Nat} {v u:Value} {xs ys:List aj} (hT:P.underlying t=some (.slice E)) (hE:TI P E 1 bytes z) (hg:gate ops e g=true) (hd:cC n dst=true) (hz:Nat.beq z.cells.size 1=true) (gm:Nat.ble bytes 1000=true) 
  (hx:ev e x=v) (hy:ev e y=u) (hO:LP N G G0 w E v xs) (hu:bg G w u ys) (hG:eZ G w) (kc:∀q,q∈G0->q∈G) (hn:xs.length+ys.length<100000000)
  (k:∀v' w',bg G0 w' v' (xs++ys)->Fr G w G0 w'->eZ G0 w'->Out N G0 w w'->OW P n ops K rest (bY e dst v') w'):
  OW P n ops K (⟨dst,.call {callee:=.builtin .append,args:=#[x,y],argTypes:=#[t,t]},ty,pos,after,g⟩::rest) e w:=by
 obtain⟨gb,h1,h2,h3⟩:=hO
 refine EX hT hE hg hd hz gm hx hy h1 hu hG h2 hn ?_
 intro v' g' w' G' hO hZ hs Vo bI hl hk
 refine k v' w' (hO.rep λb hb jB=>?_) (bI.to λq hq=>.inl (Vo q (kc q hq))) (λq hq=>hl q (Vo q (kc q hq))) ⟨_,hk,λq hq=>h3 q hq⟩
 rcases hs b (by simp[hb]) with h|h
 ·exact(h3 b h).1 jB
 ·have:=hG b (kc b jB);omega
end
theorem dO.out {G':List Nat} {T:TypeId} {rows:List (List C)} (h:dO G w T sz v g rows) (k:Fr G w G' w') (ho:Out N G0 w w') (hg:∀x,x∈g.toList->x∈G0):dO G' w' T sz v g rows:=
 let⟨_,kk,hH⟩:=ho.ex;h.aG k kk λx hx eA=>(hH x eA).1 (hg x hx)
section
variable {P:Program} {n:Nat} {ops:Array Oper} {K:Env->World->Prop} {rest:List Oper} {e:Env} {w:World} {pos:String} {ty:TypeId} {after:Array Edge} {g:Option (Nat×Bool)} {x y:Operand}
theorem ti {G:List Nat} {T:Nat} {v:Value} {vs:List Value} {row:List C} {E gb:Nat} {N c:Nat} {rows:List (List C)} {b o i:Nat} (jX:TI P T sz bytes z) (hg:gate ops e g=true) 
  (hx:ev e x= .pointer (some ⟨b,o,none⟩)) (hy:ev e y=v) (hv:v.cells=vs.toArray) (ho:o=i*sz) (hO:dO G w E sz (.slice (some ⟨b,0,none⟩) N c) (some gb) rows) (hG:eZ G w) (oJ:gb∈G) (hi:i<rows.length) (h1:vs.all Value.oneCell'=true)
  (oI:row.length=sz) (hr:dd G w vs row)
  (k:∀w',ak [gb] w w'->w'.heap.size=w.heap.size->dO G w' E sz (.slice (some ⟨b,0,none⟩) N c) (some gb) (rows.set i row)->OW P n ops K rest e w'):
  OW P n ops K (⟨none,.store T x y,ty,pos,after,g⟩::rest) e w:=by
 obtain⟨⟨xs,dH,iJ⟩,gR⟩:=hO
 have rY:∀q,q∈gb::G.filter (λq=>decide (q≠gb))->q∈G∨w.heap.size<=q:=λq hq=>by
  rcases mC.1 hq with h|h
  ·exact .inl (h▸oJ)
  ·exact .inl (List.mem_filter.1 h).1
 have hGr:Gr 0 (G.filter λq=>decide (q≠gb)) w E sz (.slice (some ⟨b,0,none⟩) N c) (some gb) rows:=
  ⟨⟨xs,dH,iJ.fresh rY,gR,λq hq gi=>by cases hq;simpa using(List.mem_filter.1 gi).2⟩,λ_ _=>Nat.zero_le _,λq hq=>hG q (List.mem_filter.1 hq).1,Nat.zero_le _⟩
 refine afl jX hg hx hy hv ho hGr hi h1 oI (hr.fresh rY) ?_
 intro w' hk hz jj
 obtain⟨xs',h'⟩:=jj.own
 refine k w' hk hz ⟨⟨xs',h'.own,h'.rep.fresh λq hq=>?_⟩,h'.row⟩
 by_cases Vp:q=gb
 ·exact .inl (by simp[Vp])
 ·exact .inl (by simp[Vp,hq])
end
theorem ag2 {t:aq} (h:Eo s t):(((bA s).isSome&&dI t)&&decide ((fE t:Int)<=120))=mw s:=by
 unfold mw Kc
 cases hp:bA s with
 |none=>rfl
 |some u=>rw[h.1 u hp];exact congrArg (λb=>dI u&&b) (decide_eq_decide.2 om)
theorem Hz (s:aj) (L:List Nat) (w:World) (hL:∀x,x∈L->x<w.heap.size):
  bC Tryz.prog 128 [str s] w λv w'=>(∃t tv,v= .tuple #[tv,.bool (mw s)]∧bh L w' tv t∧Eo s t)∧ak [] w w':=by
 have hK:=ak.refl [] w
 refine j1 [.cell 2 74,.tmp 3] 22 Tryz.func128 rfl abU rfl rfl rfl ?_
 refine zr<|da aK rfl rfl rfl λw1 aI aO di=>?_
 have hK:=hK.grow;have hK:=hK.ext aI
 refine W ?_
 refine aA (JW s (w.heap.size::L) w1 (by intro x hx;rcases mC.1 hx with rfl|hx;omega;have:=hL x hx;omega)) ?_
 rintro v2 w2 ⟨gP,az⟩
 have dz:=az.size
 refine bL az hK aO λhK aO=>?_
 obtain⟨t,tv,rfl,ht,hp⟩:=gP
 obtain⟨pa,pn,pc,rfl,dZ,aQ⟩:=cS ht
 subst dZ
 have cF:∀h:(bA s).isSome=true,WF t∧t.size<=12001:=λh=>Cv hp.1 h
 refine W ?_
 refine da aK rfl rfl rfl λw3 aH aF fS=>?_
 have hK:=hK.grow;have hK:=hK.ext aH;have aO:=aO.grow;have aO:=aO.ext aH;have ht:=ht.grow;have ht:=ht.ext aH
 refine cu aK rfl rfl rfl aF rfl λw4 aN aF ga=>?_
 have hK:=hK.aD aN sx;have aO:=aO.aD aN sx;have ht:=ht.aD aN sx
 refine W ?_
 refine sE du (cD w.heap.size ([str t.av,.slice pa t.ai.length pc]) 74) 13 (rA 11 11++[100011,3]) (rA 11 11++[100011,3]) [[],[],[1],[2],[2,3],[2,4],[5],[6],[6,7],[6,8],[6,9],[0],[10]] [λv _=>v=(.agg #[str t.av,.slice pa t.ai.length pc]),λv _=>v=(.bool ((bA s).isSome)),λv _=>v=(.bool ((bA s).isSome)),λv _=>((bA s).isSome)=true->v=(.agg #[str t.av,.slice pa t.ai.length pc]),λv _=>((bA s).isSome)=true->v=(.bool (dI t)),λv _=>v=(.bool ((bA s).isSome&&dI t)),λv _=>v=(.bool ((bA s).isSome&&dI t)),λv _=>((bA s).isSome&&dI t)=true->v=(.agg #[str t.av,.slice pa t.ai.length pc]),λv _=>((bA s).isSome&&dI t)=true->v=(.int .i64 (fE t:Int)),λv _=>((bA s).isSome&&dI t)=true->v=(.bool (decide ((fE t:Int)<=120))),λv _=>v=(.bool (((bA s).isSome&&dI t)&&decide ((fE t:Int)<=120))),λ_ ww=>aL ww w.heap.size ([str t.av,.slice pa t.ai.length pc]).toArray 74,λv _=>v=(.bool (((bA s).isSome&&dI t)&&decide ((fE t:Int)<=120)))] de (cR (cR (cR (Cf (Cf (cR (cR (Cf (Cf (Cf (cR (Ea (cR trivial))))))))))))) (λwd aB=>?_) ?_
 refine bV ?_ ?_
 intro x vs w5 e aJ hd he
 replace aJ:=(cD w.heap.size ([str t.av,.slice pa t.ai.length pc]) 74).trans aB aJ
 have aF:=aF.aD aJ.1 sx
 replace he:e=aS (aR _ x _) []:=he
 subst he
 refine W ?_
 exact dn ((cD w.heap.size ([str t.av,.slice pa t.ai.length pc]) 74).refl _) rfl
 refine bV ?_ ?_
 intro x vs w5 e aJ hd he
 replace aJ:=(cD w.heap.size ([str t.av,.slice pa t.ai.length pc]) 74).trans aB aJ
 replace he:e=aS (aR _ x _) []:=he
 subst he
 refine W ?_
 exact dn ((cD w.heap.size ([str t.av,.slice pa t.ai.length pc]) 74).refl _) rfl
 refine bV ?_ ?_
 intro x vs w5 e aJ hd he
 have d1:vs 1=(.bool ((bA s).isSome)):=hd
 replace aJ:=(cD w.heap.size ([str t.av,.slice pa t.ai.length pc]) 74).trans aB aJ
 replace he:e=aS (aR _ x _) [(12,vs 1)]:=he
 rw[d1] at he
 subst he
 refine W ?_
 exact dn ((cD w.heap.size ([str t.av,.slice pa t.ai.length pc]) 74).refl _) rfl
 refine bV ?_ ?_
 intro x vs w5 e aJ hd he
 have d2:vs 2=(.bool ((bA s).isSome)):=hd
 replace aJ:=(cD w.heap.size ([str t.av,.slice pa t.ai.length pc]) 74).trans aB aJ
 have aF:=aF.aD aJ.1 sx
 rcases bE ((bA s).isSome) with hg|hg
 rw[hg] at d2
 replace he:e=aS (aR _ x _) [(13,vs 2)]:=he
 rw[d2] at he
 subst he
 refine W ?_
 exact dn ((cD w.heap.size ([str t.av,.slice pa t.ai.length pc]) 74).refl _) (show((bA s).isSome)=true->_=((.agg #[str t.av,.slice pa t.ai.length pc]):Value) from λ_=>rfl)
 rw[hg] at d2
 replace he:e=aS (aR _ x _) [(13,vs 2)]:=he
 rw[d2] at he
 subst he
 refine W ?_
 exact dn ((cD w.heap.size ([str t.av,.slice pa t.ai.length pc]) 74).refl _) (show((bA s).isSome)=true->_=(_:Value) from λhh=>nomatch hg.symm.trans hh)
 refine bV ?_ ?_
 intro x vs w5 e aJ hd he
 have aY:(vs 2=(.bool ((bA s).isSome)))∧(((bA s).isSome)=true->vs 3=(.agg #[str t.av,.slice pa t.ai.length pc])):=hd
 obtain⟨d2,d3⟩:=aY
 replace aJ:=(cD w.heap.size ([str t.av,.slice pa t.ai.length pc]) 74).trans aB aJ
 have ht:=ht.aD aJ.1 sx
 rcases bE ((bA s).isSome) with hg|hg
 rw[hg] at d2
 replace d3:=d3 hg
 replace he:e=aS (aR _ x _) [(13,vs 2),(14,vs 3)]:=he
 rw[d2,d3] at he
 subst he
 refine aA (agU t.size t (lR _) (by have:=(cF hg).2;omega) (cF hg).1 _ _ w5 ht) ?_
 rintro _ w6 ⟨rfl,bB⟩
 have ku:=bB.size
 refine W ?_
 exact dn ((cD w.heap.size ([str t.av,.slice pa t.ai.length pc]) 74).of bB) (show((bA s).isSome)=true->_=((.bool (dI t)):Value) from λ_=>rfl)
 rw[hg] at d2
 replace he:e=aS (aR _ x _) [(13,vs 2),(14,vs 3)]:=he
 rw[d2] at he
 subst he
 refine W ?_
 exact dn ((cD w.heap.size ([str t.av,.slice pa t.ai.length pc]) 74).refl _) (show((bA s).isSome)=true->_=(_:Value) from λhh=>nomatch hg.symm.trans hh)
 refine bV ?_ ?_
 intro x vs w5 e aJ hd he
 have aY:(vs 2=(.bool ((bA s).isSome)))∧(((bA s).isSome)=true->vs 4=(.bool (dI t))):=hd
 obtain⟨d2,d4⟩:=aY
 replace aJ:=(cD w.heap.size ([str t.av,.slice pa t.ai.length pc]) 74).trans aB aJ
 rcases bE ((bA s).isSome) with hg|hg
 rw[hg] at d2
 replace d4:=d4 hg
 replace he:e=aS (aR _ x _) [(13,vs 2),(15,vs 4)]:=he
 rw[d2,d4] at he
 subst he
 refine W ?_
 exact dn ((cD w.heap.size ([str t.av,.slice pa t.ai.length pc]) 74).refl _) (by first|rfl|(rw[hg];rfl))
 rw[hg] at d2
 replace he:e=aS (aR _ x _) [(13,vs 2),(15,vs 4)]:=he
 rw[d2] at he
 subst he
 refine W ?_
 exact dn ((cD w.heap.size ([str t.av,.slice pa t.ai.length pc]) 74).refl _) (by first|rfl|(rw[hg];rfl))
 refine bV ?_ ?_
 intro x vs w5 e aJ hd he
 have d5:vs 5=(.bool ((bA s).isSome&&dI t)):=hd
 replace aJ:=(cD w.heap.size ([str t.av,.slice pa t.ai.length pc]) 74).trans aB aJ
 replace he:e=aS (aR _ x _) [(16,vs 5)]:=he
 rw[d5] at he
 subst he
 refine W ?_
 exact dn ((cD w.heap.size ([str t.av,.slice pa t.ai.length pc]) 74).refl _) rfl
 refine bV ?_ ?_
 intro x vs w5 e aJ hd he
 have d6:vs 6=(.bool ((bA s).isSome&&dI t)):=hd
 replace aJ:=(cD w.heap.size ([str t.av,.slice pa t.ai.length pc]) 74).trans aB aJ
 have aF:=aF.aD aJ.1 sx
 rcases bE ((bA s).isSome&&dI t) with hg|hg
 rw[hg] at d6
 replace he:e=aS (aR _ x _) [(17,vs 6)]:=he
 rw[d6] at he
 subst he
 refine W ?_
 exact dn ((cD w.heap.size ([str t.av,.slice pa t.ai.length pc]) 74).refl _) (show((bA s).isSome&&dI t)=true->_=((.agg #[str t.av,.slice pa t.ai.length pc]):Value) from λ_=>rfl)
 rw[hg] at d6
 replace he:e=aS (aR _ x _) [(17,vs 6)]:=he
 rw[d6] at he
 subst he
 refine W ?_
 exact dn ((cD w.heap.size ([str t.av,.slice pa t.ai.length pc]) 74).refl _) (show((bA s).isSome&&dI t)=true->_=(_:Value) from λhh=>nomatch hg.symm.trans hh)
 refine bV ?_ ?_
 intro x vs w5 e aJ hd he
 have aY:(vs 6=(.bool ((bA s).isSome&&dI t)))∧(((bA s).isSome&&dI t)=true->vs 7=(.agg #[str t.av,.slice pa t.ai.length pc])):=hd
 obtain⟨d6,d7⟩:=aY
 replace aJ:=(cD w.heap.size ([str t.av,.slice pa t.ai.length pc]) 74).trans aB aJ
 have ht:=ht.aD aJ.1 sx
 rcases bE ((bA s).isSome&&dI t) with hg|hg
 rw[hg] at d6
 replace d7:=d7 hg
 replace he:e=aS (aR _ x _) [(17,vs 6),(18,vs 7)]:=he
 rw[d6,d7] at he
 subst he
 refine aA (Vd t.size t (lR _) (by have:=(cF ((aE _ _).mp hg).1).2;omega) (cF ((aE _ _).mp hg).1).1 _ _ w5 ht) ?_
 rintro _ w6 ⟨rfl,bB⟩
 have ku:=bB.size
 refine W ?_
 exact dn ((cD w.heap.size ([str t.av,.slice pa t.ai.length pc]) 74).of bB) (show((bA s).isSome&&dI t)=true->_=((.int .i64 (fE t:Int)):Value) from λ_=>rfl)
 rw[hg] at d6
 replace he:e=aS (aR _ x _) [(17,vs 6),(18,vs 7)]:=he
 rw[d6] at he
 subst he
 refine W ?_
 exact dn ((cD w.heap.size ([str t.av,.slice pa t.ai.length pc]) 74).refl _) (show((bA s).isSome&&dI t)=true->_=(_:Value) from λhh=>nomatch hg.symm.trans hh)
 refine bV ?_ ?_
 intro x vs w5 e aJ hd he
 have aY:(vs 6=(.bool ((bA s).isSome&&dI t)))∧(((bA s).isSome&&dI t)=true->vs 8=(.int .i64 (fE t:Int))):=hd
 obtain⟨d6,d8⟩:=aY
 replace aJ:=(cD w.heap.size ([str t.av,.slice pa t.ai.length pc]) 74).trans aB aJ
 rcases bE ((bA s).isSome&&dI t) with hg|hg
 rw[hg] at d6
 replace d8:=d8 hg
 replace he:e=aS (aR _ x _) [(17,vs 6),(19,vs 8)]:=he
 rw[d6,d8] at he
 subst he
 refine W ?_
 exact dn ((cD w.heap.size ([str t.av,.slice pa t.ai.length pc]) 74).refl _) (show((bA s).isSome&&dI t)=true->_=((.bool (decide ((fE t:Int)<=120))):Value) from λ_=>rfl)
 rw[hg] at d6
 replace he:e=aS (aR _ x _) [(17,vs 6),(19,vs 8)]:=he
 rw[d6] at he
 subst he
 refine W ?_
 exact dn ((cD w.heap.size ([str t.av,.slice pa t.ai.length pc]) 74).refl _) (show((bA s).isSome&&dI t)=true->_=(_:Value) from λhh=>nomatch hg.symm.trans hh)
 refine bV ?_ ?_
 intro x vs w5 e aJ hd he
 have aY:(vs 6=(.bool ((bA s).isSome&&dI t)))∧(((bA s).isSome&&dI t)=true->vs 9=(.bool (decide ((fE t:Int)<=120)))):=hd
 obtain⟨d6,d9⟩:=aY
 replace aJ:=(cD w.heap.size ([str t.av,.slice pa t.ai.length pc]) 74).trans aB aJ
 rcases bE ((bA s).isSome&&dI t) with hg|hg
 rw[hg] at d6
 replace d9:=d9 hg
 replace he:e=aS (aR _ x _) [(17,vs 6),(20,vs 9)]:=he
 rw[d6,d9] at he
 subst he
 refine W ?_
 exact dn ((cD w.heap.size ([str t.av,.slice pa t.ai.length pc]) 74).refl _) (by first|rfl|(rw[hg];rfl))
 rw[hg] at d6
 replace he:e=aS (aR _ x _) [(17,vs 6),(20,vs 9)]:=he
 rw[d6] at he
 subst he
 refine W ?_
 exact dn ((cD w.heap.size ([str t.av,.slice pa t.ai.length pc]) 74).refl _) (by first|rfl|(rw[hg];rfl))
 refine bV ?_ ?_
 intro x vs w5 e aJ hd he
 have d0:vs 0=(.agg #[str t.av,.slice pa t.ai.length pc]):=hd
 replace aJ:=(cD w.heap.size ([str t.av,.slice pa t.ai.length pc]) 74).trans aB aJ
 obtain⟨us,vI,vJ⟩:=aJ.2.2 ⟨_,(by rfl),aO⟩
 replace he:e=aS (aR _ x _) [(11,vs 0)]:=he
 rw[d0] at he
 subst he
 refine cu aK rfl rfl rfl vJ (by rw[vI];rfl) λw6 bB hb jR=>W ?_
 exact dn ⟨bB,λ_=>hb,λ_=>⟨_,rfl,hb⟩⟩ hb
 refine bV ?_ ?_
 intro x vs w5 e aJ hd he
 have d10:vs 10=(.bool (((bA s).isSome&&dI t)&&decide ((fE t:Int)<=120))):=hd
 replace aJ:=(cD w.heap.size ([str t.av,.slice pa t.ai.length pc]) 74).trans aB aJ
 replace he:e=aS (aR _ x _) [(21,vs 10)]:=he
 rw[d10] at he
 subst he
 refine W ?_
 exact dn ((cD w.heap.size ([str t.av,.slice pa t.ai.length pc]) 74).refl _) rfl
 exact trivial
 intro x vs nX jm bT
 have d0:vs 0=(.agg #[str t.av,.slice pa t.ai.length pc]):=bT 0 de
 have d1:vs 1=(.bool ((bA s).isSome)):=bT 1 de
 have d2:vs 2=(.bool ((bA s).isSome)):=bT 2 de
 have d3:((bA s).isSome)=true->vs 3=(.agg #[str t.av,.slice pa t.ai.length pc]):=bT 3 de
 have d4:((bA s).isSome)=true->vs 4=(.bool (dI t)):=bT 4 de
 have d5:vs 5=(.bool ((bA s).isSome&&dI t)):=bT 5 de
 have d6:vs 6=(.bool ((bA s).isSome&&dI t)):=bT 6 de
 have d7:((bA s).isSome&&dI t)=true->vs 7=(.agg #[str t.av,.slice pa t.ai.length pc]):=bT 7 de
 have d8:((bA s).isSome&&dI t)=true->vs 8=(.int .i64 (fE t:Int)):=bT 8 de
 have d9:((bA s).isSome&&dI t)=true->vs 9=(.bool (decide ((fE t:Int)<=120))):=bT 9 de
 have d10:vs 10=(.bool (((bA s).isSome&&dI t)&&decide ((fE t:Int)<=120))):=bT 10 de
 have d11:aL nX w.heap.size ([str t.av,.slice pa t.ai.length pc]).toArray 74:=bT 11 de
 have d12:vs 12=(.bool (((bA s).isSome&&dI t)&&decide ((fE t:Int)<=120))):=bT 12 de
 have hK:=hK.aD jm.1 sx;have ht:=ht.aD jm.1 sx
 have aO:=d11
 change OW _ _ _ _ [] (aS (aR _ x _) (zZ 11 [vs 0,vs 1,vs 2,vs 3,vs 4,vs 5,vs 6,vs 7,vs 8,vs 9,vs 10]++[(100011,vs 11),(3,vs 12)])) _
 rw[d0,d1,d2,d5,d6,d10,d12]
 refine W ?_
 exact⟨[_,_],⟨fB eK aK rfl aO rfl,rfl⟩,⟨t,_,by rw[ag2 hp];rfl,ht.fV (λx hx=>by simp[hx]),hp⟩,hK⟩
theorem Oj (s:aj) (w:World):bC Tryz.prog 133 [str s] w λr w'=>r= .bool (mw s)∧ak [] w w':=by
 have hK:=ak.refl [] w
 refine cj [.tmp 2] 11 Tryz.func133 rfl abZ rfl rfl ?_
 refine W ?_
 refine aA (Hz s [] w sm) ?_
 rintro v1 w1 ⟨fK,aI⟩
 have df:=aI.size
 have hK:=hK.ext aI
 obtain⟨t,tv,rfl,ht,hp⟩:=fK
 obtain⟨pa,pn,pc,rfl,dZ,aQ⟩:=cS ht
 refine W ?_
 refine da aK rfl rfl rfl λw2 az bU dK=>?_
 have hK:=hK.grow;have hK:=hK.ext az
 refine cu aK rfl rfl rfl bU rfl λw3 aH bU fS=>?_
 have hK:=hK.aD aH sx
 refine W ?_
 exact⟨_,rfl,rfl,hK⟩
def od (xs ys:List aj) (s d:aj):Nat->aj
 |0=>d
 |k+1=>if cJ xs k=s then cJ ys k else od xs ys s d k
theorem Vq {xs' ys':List aj} {d:aj}:∀{k:Nat},(∀i,i<k->cJ xs i=cJ xs' i∧cJ ys i=cJ ys' i)->od xs ys s d k=od xs' ys' s d k
 |0,_=>rfl
 |k+1,h=>by
  unfold od
  rw[(h k om).1,(h k om).2,Vq λi hi=>h i om]
theorem Vr (h:i<xs.length):cJ (xs++ys) i=cJ xs i:=by
 simp only[cJ,gG]
 rw[List.getElem?_append_left h]
theorem Vs {x:aj} (h:i=xs.length):cJ (xs++[x]) i=x:=by
 subst h;simp[cJ]
theorem Vt {xs:List aj} {x y d:aj} (h:xs.length=ys.length):od (xs++[x]) (ys++[y]) s d (xs++[x]).length=if x=s then y else od xs ys s d xs.length:=by
 rw[lA,List.length_singleton,od,Vs rfl,Vs h,Vq (xs':=xs) (ys':=ys)]
 intro i hi
 exact⟨Vr hi,Vr om⟩
theorem Vu {α:Type} {Q:List α->Prop} (h0:Q []) (h1:∀l a,Q l->Q (l++[a])) (l:List α):Q l:=by
 have:∀r:List α,Q r.reverse:=by
  intro r
  induction r with
  |nil=>exact h0
  |cons a r ih=>rw[List.reverse_cons];exact h1 _ _ ih
 have:=this l.reverse
 rwa [List.reverse_reverse] at this
def Vv:Option Ty->aj
 |some T=>T.text
 |none=>[]
theorem Vw (s:aj):∀Γ:Sc,od (Γ.map Prod.fst) (Γ.map λp=>p.2.text) s [] Γ.length=Vv (look Γ s):=by
 refine Vu rfl λΓ p ih=>?_
 ·obtain⟨x,T⟩:=p
  have:=Vt (xs:=Γ.map Prod.fst) (ys:=Γ.map λp=>p.2.text) (x:=x) (y:=T.text) (s:=s) (d:=[]) sm
  rw[pe,List.map_append,List.map_append,lA]
  simp only[List.map_cons,List.map_nil,lA,List.length_map,List.length_singleton] at this⊢
  rw[this,ih]
  split<;>rfl
theorem ag3 (s:aj):∀ρ:Rn,od (ρ.map Prod.fst) (ρ.map Prod.snd) s s ρ.length=qG ρ s:=by
 refine Vu rfl λρ p ih=>?_
 ·obtain⟨x,y⟩:=p
  have:=Vt (xs:=ρ.map Prod.fst) (ys:=ρ.map Prod.snd) (x:=x) (y:=y) (s:=s) (d:=s) sm
  rw[M9,List.map_append,List.map_append,lA]
  simp only[List.map_cons,List.map_nil,lA,List.length_map,List.length_singleton] at this⊢
  rw[this,ih]
theorem HA (xs ys:List aj) (hl:xs.length=ys.length) (hx:xs.length<=1000000000) (s:aj) (v u:Value) (L L2:List Nat) (w:World) (hv:bg L w v xs) (hu:bg L2 w u ys):
  bC Tryz.prog 196 [v,u,str s] w λr w'=>r=str (od xs ys s [] xs.length)∧ak [] w w':=by
 obtain⟨a,n,c,rfl,hn⟩:=dU hv
 obtain⟨a2,n2,c2,rfl,eQ⟩:=dU hu
 subst hn eQ
 have hK:=ak.refl [] w
 refine cj [.tmp 6] 25 Tryz.func196 rfl acU rfl rfl ?_
 refine W ?_
 refine eO (λk:Nat=>[(0,.slice a xs.length c),(1,.slice a2 ys.length c2),(2,str s),(7,.int .i64 ((k:Int)-1))]) (λk w'=>w'=w∧k<=xs.length∧od xs ys s [] xs.length=od xs ys s [] k) (λk=>k) xs.length (⟨rfl,rfl,rfl,rfl⟩) (⟨rfl,lR _,rfl⟩) λgg w1 e1 hI=>?_
 obtain⟨e,hk,hq⟩:=hI
 subst e
 refine W ?_
 refine zc rfl (λh1=>?_) (λh1=>?_)
 have aY:∃k,gg=k+1:=⟨gg-1,om⟩
 obtain⟨k,rfl⟩:=aY
 have vK:=kM (xs:=xs) (i:=k) om
 have Ok:=kM (xs:=ys) (i:=k) om
 obtain⟨b1,eh,rfl,bM⟩:=pR hv vK
 obtain⟨b2,kY,rfl,bZ⟩:=pR hu Ok
 have hi:((k+1:Nat):Int)-1=(k:Int):=by omega
 rw[hi]
 refine W ?_
 refine zc rfl (λh2=>?_) (λh2=>?_)
 refine W ?_
 exact⟨_,rfl,by rw[hq,od,iP h2];rfl,hK⟩
 have dY:=h2
 refine W ?_
 exact⟨k,⟨rfl,rfl,rfl,rfl⟩,⟨rfl,om,by rw[hq,od,iN dY]⟩,om⟩
 have h0:gg=0:=by omega
 refine W ?_
 exact⟨_,rfl,by rw[hq,h0];rfl,hK⟩
theorem ag4 (xs ys:List aj) (hl:xs.length=ys.length) (hx:xs.length<=1000000000) (s:aj) (v u:Value) (L L2:List Nat) (w:World) (hv:bg L w v xs) (hu:bg L2 w u ys):
  bC Tryz.prog 240 [v,u,str s] w λr w'=>r=str (od xs ys s s xs.length)∧ak [] w w':=by
 obtain⟨a,n,c,rfl,hn⟩:=dU hv
 obtain⟨a2,n2,c2,rfl,eQ⟩:=dU hu
 subst hn eQ
 have hK:=ak.refl [] w
 refine cj [.tmp 6] 26 Tryz.func240 rfl adi rfl rfl ?_
 refine W ?_
 refine eO (λk:Nat=>[(0,.slice a xs.length c),(1,.slice a2 ys.length c2),(2,str s),(7,.int .i64 ((k:Int)-1))]) (λk w'=>w'=w∧k<=xs.length∧od xs ys s s xs.length=od xs ys s s k) (λk=>k) xs.length (⟨rfl,rfl,rfl,rfl⟩) (⟨rfl,lR _,rfl⟩) λgg w1 e1 hI=>?_
 obtain⟨e,hk,hq⟩:=hI
 subst e
 refine W ?_
 refine zc rfl (λh1=>?_) (λh1=>?_)
 have aY:∃k,gg=k+1:=⟨gg-1,om⟩
 obtain⟨k,rfl⟩:=aY
 have vK:=kM (xs:=xs) (i:=k) om
 have Ok:=kM (xs:=ys) (i:=k) om
 obtain⟨b1,eh,rfl,bM⟩:=pR hv vK
 obtain⟨b2,kY,rfl,bZ⟩:=pR hu Ok
 have hi:((k+1:Nat):Int)-1=(k:Int):=by omega
 rw[hi]
 refine W ?_
 refine zc rfl (λh2=>?_) (λh2=>?_)
 refine W ?_
 exact⟨_,rfl,by rw[hq,od,iP h2];rfl,hK⟩
 have dY:=h2
 refine W ?_
 exact⟨k,⟨rfl,rfl,rfl,rfl⟩,⟨rfl,om,by rw[hq,od,iN dY]⟩,om⟩
 have h0:gg=0:=by omega
 refine W ?_
 exact⟨_,rfl,by rw[hq,h0];rfl,hK⟩
theorem Kf:∀row,row∈gL xs->∀c,c∈row->∀v,c= .val v->v.oneCell'=true:=by
 intro row hr
 simp only[gL,List.mem_map] at hr
 obtain⟨x,_,rfl⟩:=hr
 intro c hc u hu
 simp only[mC,List.not_mem_nil,or_false] at hc
 subst hc
 cases hu
 rfl
theorem Vx (xs ys:List aj):gL xs++gL ys=gL (xs++ys):=by simp[gL]
theorem uo (xs ys:List aj) (hx:xs.length+ys.length<100000000) (v u:Value) (L:List Nat) (w:World) (hv:bg L w v xs) (hu:bg L w u ys) (hL:∀x,x∈L->x<w.heap.size):
  bC Tryz.prog 116 [v,u] w λr w'=>bg L w' r (xs++ys)∧ak [] w w':=by
 obtain⟨a,n,c,rfl,hn⟩:=dU hv
 obtain⟨a2,n2,c2,rfl,eQ⟩:=dU hu
 subst hn eQ
 have hK:=ak.refl [] w
 refine cj [.tmp 4] 10 Tryz.func116 rfl SH rfl rfl ?_
 refine W ?_
 refine tQ w.heap.size L bo bm rfl rfl (lR _) hL λw1 aI di hO=>?_
 have hK:=hK.ext aI
 have fi:=ck.ext (ck.fresh hv (L':=w.heap.size::L) yd) aI
 refine zm<|xd bo bm rfl rfl rfl rfl rfl rfl hO fi Kf (by rw[qA];simp;omega) λa4 fT g4 w2 gz az=>?_
 have hK:=hO.since hK az
 have Ol:=ck.ext (ck.fresh hu (L':=g4.toList++L) (λx hx=>by rcases mA.1 hx with hx|hx;(·exact .inr (gz.low x (by simpa using hx)));(·exact .inl hx))) hK
 refine zm<|xd bo bm rfl rfl rfl rfl rfl rfl gz Ol Kf (by simp only[lA,qA];simp;omega) λa5 Vy g5 w3 ll aH=>?_
 have hK:=gz.since hK aH
 refine W ?_
 exact⟨_,rfl,(by have:=ll.done;rw[List.nil_append,Vx] at this;exact this),hK⟩
def tj (t:aq) (i:Nat):List aj:=if(nth t.ai 0).av=gw∧i=3 then[(nth t.ai 1).av] else if(nth t.ai 0).av=ic then[(nth t.ai 1).av,(nth t.ai 2).av] else[]
theorem Vz (h:e.ok) (ha:e.iM=false) (i:Nat):tj e.au i=e.binds i:=by
 cases e with
 |«at» s=>cases ha
 |un hd a=>
  have h1:hd≠gw∧hd≠ic:=by constructor<;>intro e<;>rw[e] at h<;>exact absurd h.1 de
  simp[tj,Ex.au,aq.ai,nth,bH,aq.av,h1.1,h1.2,Ex.binds]
 |bi hd a b=>
  have h1:hd≠gw∧hd≠ic:=by constructor<;>intro e<;>rw[e] at h<;>exact absurd h.1 de
  simp[tj,Ex.au,aq.ai,nth,bH,aq.av,h1.1,h1.2,Ex.binds]
 |ite a b c=>simp[tj,Ex.au,aq.ai,nth,bH,aq.av,Ex.binds]
 |lt x a b=>
  by_cases h3:i=3
  ·subst h3;simp[tj,Ex.au,aq.ai,nth,bH,aq.av,Ex.binds]
  ·have:(Ex.lt x a b).binds i=[]:=by unfold Ex.binds;split<;>first|rfl|simp_all
   rw[this]
   simp[tj,Ex.au,aq.ai,nth,bH,aq.av,h3]
 |fn f x A B b=>simp[tj,Ex.au,aq.ai,nth,bH,aq.av,Ex.binds]
theorem VB (t:aq) (h0:0<t.ai.length) (kX:(nth t.ai 0).av=gw->1<t.ai.length) (gi:(nth t.ai 0).av=ic->2<t.ai.length) (i:Nat) (v:Value) (L:List Nat) (w:World) (hv:bh L w v t):
  bC Tryz.prog 239 [v,.int .i64 (i:Int)] w λr w'=>(∀Lr,(∀x,x∈Lr->x<w.heap.size)->bg Lr w' r (tj t i))∧ak [] w w':=by
 obtain⟨a,n,c,rfl,hn,aQ⟩:=cS hv
 subst hn
 have hK:=ak.refl [] w
 obtain⟨b,off,pa,pn,pc,rfl,eR,dZ,fG⟩:=fC aQ (ej h0)
 have jr:∀i,i<t.ai.length->∃pa pn pc,gJ w b (off+i*2) [str (nth t.ai i).av,.slice pa pn pc]:=by intro i hi;obtain⟨b1,eh,gT,rB,gU,e1,bM,sY,pw⟩:=fC aQ (ej hi);cases e1;exact⟨_,_,_,bM⟩
 refine cj [.tmp 4] 41 Tryz.func239 rfl adh rfl rfl ?_
 refine zr<|ey rfl λw1 aI aO di=>bL aI hK eR λhK eR=>?_
 refine W ?_
 apply oB 3 12 15 rfl oQ
 intro _
 exact oQ
 intro xx
 refine zA<|aV<|zc rfl (λh2=>?_) (λh2=>?_)
 have hq:(nth t.ai 0).av=gw∧i=3:=(by simp only[aE,dE] at h2;exact⟨h2.1,om⟩)
 obtain⟨gT,rB,gU,bM⟩:=jr 1 (kX hq.1)
 have bM:=bM.ext hK
 have fF:=kX hq.1
 have hb:tj t i=[(nth t.ai 1).av]:=iP hq
 refine W ?_
 refine fo bo bm rfl rfl λw2 az vL dK=>?_
 have hK:=hK.ext az
 refine W ?_
 exact⟨_,rfl,λLr Kg=>(by rw[hb];exact aL.dS [(nth t.ai 1).av] vL (λhx=>by have:=Kg _ hx;omega)),hK⟩
 have wT:¬((nth t.ai 0).av=gw∧i=3):=(λhh=>by simp only[Bool.and_eq_false_iff,decide_eq_false_iff_not] at h2;rcases h2 with h|h;(·exact h hh.1);(·exact h om))
 refine W ?_
 refine zc rfl (λh3=>?_) (λh3=>?_)
 have hq:=h3
 have iz:=gi hq
 obtain⟨gT,rB,gU,bM⟩:=jr 1 om
 obtain⟨iQ,yT,iR,bZ⟩:=jr 2 om
 have bM:=bM.ext hK;have bZ:=bZ.ext hK
 have hb:tj t i=[(nth t.ai 1).av,(nth t.ai 2).av]:=by unfold tj;rw[iN wT,iP hq]
 refine WZ ?_
 apply wX du 11 (rA 29 11) (rA 29 11) [[],[0],[1],[2],[3],[],[5],[6],[7],[8],[4,9]] [It.v _,It.v _,It.v _,It.v _,It.v _,It.v _,It.v _,It.v _,It.v _,It.v _,It.p (fun(v:Value) (ww:World)=>∃bb,v= .slice (some ⟨bb,0,none⟩) 2 2∧w.heap.size<=bb∧aL ww bb [str (nth t.ai 1).av,str (nth t.ai 2).av].toArray 9)] de (by exact⟨λv w w' ⟨bb,e,h1,h2⟩ k=>⟨bb,e,h1,h2.ext k⟩,trivial⟩)
 intro wd aB
 refine vc (λ_ _ _=>WZ pv) ?_
 refine vk aB (λx w2 az=>?_) ?_
 have aO:=aO.ext az
 refine WZ ?_
 exact pv
 refine vk aB (λx w2 az=>?_) ?_
 refine zi (i:=1) cw aK rfl rfl om ?_
 exact pv
 refine VA ?_
 refine vk aB (λx w2 az=>?_) ?_
 have hK:=hK.ext az
 have lf:=hK.size
 refine lg bo bm rfl rfl rfl rfl ?_
 intro w3 aH yY fS
 exact pf aH (⟨_,rfl,lf,yY⟩)
 exact trivial
 intro x oc gI
 intro v10 d10
 have hK:=hK.ext gI
 change OW _ _ _ _ _ (aS (aR _ x _) (zZ 29 [_,_,_,_,_,_,_,_,_,_,_])) _
 obtain⟨bb,e39,je,yY⟩:=d10
 refine W ?_
 exact⟨_,rfl,λLr Kg=>(by rw[hb];subst e39;exact aL.dS [(nth t.ai 1).av,(nth t.ai 2).av] yY (λhx=>by have:=Kg _ hx;omega)),hK⟩
 have hb:tj t i=[]:=(by unfold tj;rw[iN wT,iN h3])
 refine gX<|zr<|tQ w.heap.size [] bo bm rfl rfl hK.size sm λw2 az di hO=>?_
 have hK:=hK.ext az
 refine W ?_
 exact⟨_,rfl,λLr Kg=>(by rw[hb];exact ck.nil _ _ _),hK⟩
theorem HB (h:e.ok) (ha:e.iM=false):0<e.au.ai.length∧((nth e.au.ai 0).av=gw->1<e.au.ai.length)∧((nth e.au.ai 0).av=ic->2<e.au.ai.length):=by
 cases e with
 |«at» s=>cases ha
 |un hd a=>
  have hn:hd≠ic:=by intro e;rw[e] at h;exact absurd h.1 de
  exact⟨by simp[Ex.au,aq.ai],λ_=>by simp[Ex.au,aq.ai],λh=>absurd h hn⟩
 |bi hd a b=>exact⟨by simp[Ex.au,aq.ai],λ_=>by simp[Ex.au,aq.ai],λh=>by simp[Ex.au,aq.ai]⟩
 |ite a b c=>exact⟨by simp[Ex.au,aq.ai],λ_=>by simp[Ex.au,aq.ai],λh=>by simp[Ex.au,aq.ai]⟩
 |lt x a b=>exact⟨by simp[Ex.au,aq.ai],λ_=>by simp[Ex.au,aq.ai],λh=>by simp[Ex.au,aq.ai]⟩
 |fn f x A B b=>exact⟨by simp[Ex.au,aq.ai],λ_=>by simp[Ex.au,aq.ai],λh=>by simp[Ex.au,aq.ai]⟩
theorem VC (e:Ex) (i:Nat):(e.binds i).length<=2:=by unfold Ex.binds;split<;>simp
theorem VD (x:aj) (e:Ex) (k:Nat):AD x e (k+1)=AD x e k+if x∈e.binds (e.from+k) then 0 else j6 x (fZ e k):=rfl
theorem VE (x:aj) (e:Ex):∀{i j:Nat},i<=j->AD x e i<=AD x e j
 |i,0,h=>by have:i=0:=om;subst this;exact lR _
 |i,j+1,h=>by
  rcases Nat.lt_or_ge i (j+1) with h1|h1
  ·have:=VE x e (i:=i) (j:=j) om;rw[VD];omega
  ·have:i=j+1:=by omega
   subst this;exact lR _
theorem vM (h:e.ok):e.au.av≠[]↔e.iM=true:=by
 cases e with
 |«at» s=>exact⟨λ_=>rfl,λ_=>pV h⟩
 |_=>exact⟨λhh=>absurd rfl hh,λhh=>by cases hh⟩
theorem HC (e:Ex):e.from+e.kids.length<=6:=by cases e<;>simp[Ex.from,Ex.kids]
theorem ag6 (s:aj):∀(m:Nat) (e:Ex),e.n<=m->e.n<=1000000->e.ok->∀(v:Value) (L:List Nat) (w:World),bh L w v e.au->
  bC Tryz.prog 244 [v,str s] w λr w'=>r= .int .i64 (j6 s e:Int)∧ak [] w w':=by
 intro m
 induction m with
 |zero=>intro e h;have:=e.pos;omega
 |succ m ih=>
  intro e hm kW bj v L w hv
  have cm:=hv
  obtain⟨a,n,c,rfl,hn,aQ⟩:=cS hv
  subst hn
  have hK:=ak.refl [] w
  have hce:=count_le s e
  have Kh:=HC e
  refine cj [.tmp 4] 47 Tryz.func244 rfl adm rfl rfl ?_
  refine zr<|ey rfl λw1 aI aO di=>cO aI hK aQ cm λhK aQ cm=>?_
  refine W ?_
  refine zc rfl (λh1=>?_) (λh1=>?_)
  have aY:∃x,e= .at x:=(by have ha:=(vM bj).1 h1;cases e<;>first|exact⟨_,rfl⟩|cases ha)
  obtain⟨x,rfl⟩:=aY
  refine W ?_
  refine zc rfl (λh2=>?_) (λh2=>?_)
  have hq:j6 s (.at x)=1:=iP h2
  refine W ?_
  exact⟨_,rfl,by rw[hq];rfl,hK⟩
  have hq:j6 s (.at x)=0:=iN h2
  refine W ?_
  exact⟨_,rfl,by rw[hq];rfl,hK⟩
  have eX:e.iM=false:=(by cases hh:e.iM;rfl;exact absurd ((vM bj).2 hh) h1)
  obtain⟨HD,lK,js,xl⟩:=Ex.ai eX
  obtain⟨jB,EY,EZ⟩:=HB bj eX
  have HE:=M4 bj eX
  have l3:ek (nth e.au.ai 0).av=(e.from,e.from+e.kids.length):=by rw[js];exact HE
  obtain⟨b,off,pa,pn,pc,rfl,eR,dZ,fG⟩:=fC aQ (ej jB)
  refine W ?_
  refine aA (Kd _ _) ?_
  rintro _ _ ⟨rfl,rfl⟩
  rw[yW l3]
  refine W ?_
  refine eO (λk:Nat=>[(1,str s),(2,.pointer (some ⟨w.heap.size,0,none⟩)),(5,.int .i64 (AD s e k:Int)),(7,.int .i64 ((e.from+e.kids.length:Nat):Int)),(8,.int .i64 ((e.from+k:Nat):Int))]) (λk w'=>ak [] w w'∧ak [] w1 w'∧k<=e.kids.length) (λk=>e.kids.length-k) (0) (⟨rfl,rfl,rfl,rfl,rfl⟩) (⟨hK,ak.refl _ _,om⟩) λgg w2 e2 hI=>?_
  obtain⟨hK,kG,hk⟩:=hI
  refine cO kG aO aQ cm λaO aQ cm=>?_
  refine W ?_
  refine zc rfl (λh3=>?_) (λh3=>?_)
  have ik:gg<e.kids.length:=om
  have sS:=xl gg ik
  obtain⟨b1,eh,gT,rB,gU,e1,bM,sY,pw⟩:=fC aQ (ej (i:=e.from+gg) om)
  cases e1
  subst sY
  have cV:=(jh pw).eq sS
  have uq:=GD bj ik
  have aW:=VD s e gg
  have hmo:=VE s e (i:=gg+1) (j:=e.kids.length) om
  have hto:=S7 eX s
  refine W ?_
  refine aA (VB e.au jB EY EZ (e.from+gg) _ _ w2 cm) ?_
  rintro v3 w3 ⟨ka,aH⟩
  have eM:=aH.size
  refine ld aH hK aO kG bM cV λhK aO kG bM cV=>?_
  have uS:=ka [] sm
  rw[Vz bj eX] at uS
  have hbf:=VC e (e.from+gg)
  refine zm<|aA (Bl (e.binds (e.from+gg)) om s _ [] w3 uS) ?_
  rintro _ w4 ⟨rfl,aN⟩
  have fg:=aN.size
  refine ld aN hK aO kG bM cV λhK aO kG bM cV=>?_
  refine jY rfl rfl rfl<|aV<|zc rfl (λh4=>?_) (λh4=>?_)
  have mY:¬s∈e.binds (e.from+gg):=(by simpa using h4)
  rw[iN mY] at aW
  refine W ?_
  refine aA (ih (fZ e gg) om om uq.1 _ _ w4 cV) ?_
  rintro _ w5 ⟨rfl,aJ⟩
  have mn:=aJ.size
  refine bL aJ hK kG λhK kG=>?_
  refine W ?_
  exact⟨gg+1,⟨rfl,rfl,congrArg (Value.int .i64) om,rfl,congrArg (Value.int .i64) om⟩,⟨hK,kG,om⟩,om⟩
  have mY:s∈e.binds (e.from+gg):=(by simpa using h4)
  rw[iP mY] at aW
  refine W ?_
  exact⟨gg+1,⟨rfl,rfl,congrArg (Value.int .i64) om,rfl,congrArg (Value.int .i64) om⟩,⟨hK,kG,om⟩,om⟩
  have fH:gg=e.kids.length:=by omega
  refine W ?_
  exact⟨_,rfl,by rw[S7 eX s,fH];rfl,hK⟩
theorem VF (e:Ex) (bd l:List aj) (k:Nat):qE e bd l (k+1)=cU (fZ e k) (bd++e.binds (e.from+k)) (qE e bd l k):=rfl
def kN (e:Ex) (k:Nat):Nat:=((e.kids.take k).map Ex.n).sum
theorem yZ (h:k<e.kids.length):kN e (k+1)=kN e k+(fZ e k).n:=by
 have h1:e.kids[k]?=some (fZ e k):=by simp[fZ,gE h]
 unfold kN
 rw[List.take_add_one,h1,List.map_append,List.sum_append]
 simp
theorem C8 (e:Ex) (k:Nat):kN e k<=e.n:=by
 have h1:kN e k<=(e.kids.map Ex.n).sum:=by
  conv=>rhs;rw[<-List.take_append_drop k e.kids,List.map_append,List.sum_append]
  unfold kN;omega
 have h2:(e.kids.map Ex.n).sum<=e.n:=by cases e<;>simp[Ex.kids,Ex.n]<;>omega
 omega
theorem VG (e:Ex) (bd l:List aj):∀{k:Nat},k<=e.kids.length->(qE e bd l k).length<=l.length+kN e k
 |0,_=>by simp[qE,kN]
 |k+1,hk=>by
  rw[VF,yZ om]
  have h1:=M6 (fZ e k) (bd++e.binds (e.from+k)) (qE e bd l k)
  have h2:=VG e bd l (k:=k) om
  omega
theorem Ki:∀(m:Nat) (e:Ex),e.n<=m->e.n<=1000->e.ok->∀(bd l:List aj),bd.length+2*e.n<=100000->l.length+e.n<=100000->∀(v vb vl:Value) (g:Option Nat) (w:World),
  bh g.toList w v e.au->bg g.toList w vb bd->cE w 9 vl g l->
  bC Tryz.prog 216 [v,vb,vl] w λr w'=>∃g',cE w' 9 r g' (cU e bd l)∧Fr g.toList w g'.toList w':=by
 intro m
 induction m with
 |zero=>intro e h;have:=e.pos;omega
 |succ m ih=>
  intro e hm kW bj bd l uS hl v vb vl g w hv y0 gj
  obtain⟨a,n,c,rfl,hn,aQ⟩:=cS hv
  subst hn
  obtain⟨ab,nb,cb,rfl,VH⟩:=dU y0
  subst VH
  obtain⟨al,cl,rfl⟩:=j8 gj
  have qj:=gj.lt
  have oU:=gj.rs
  have hR:=Fr.refl g.toList w
  have Kh:=HC e
  have cm:=jh aQ
  refine cj [.tmp 6] 65 Tryz.func216 rfl ac2 rfl rfl ?_
  refine zr<|ey rfl λw1 aI bU di=>sV aI hR aQ y0 gj oU cm λhR aQ y0 gj oU cm=>?_
  refine W ?_
  refine zc rfl (λh1=>?_) (λh1=>?_)
  have aY:∃x,e= .at x:=(by have ha:=(vM bj).1 h1;cases e<;>first|exact⟨_,rfl⟩|cases ha)
  obtain⟨x,rfl⟩:=aY
  refine W ?_
  refine aA (vH _ _) ?_
  rintro _ _ ⟨rfl,rfl⟩
  refine WZ ?_
  apply oO 5 17 22 (ak [] w1) rfl oQ
  intro h2
  refine W ?_
  refine aA (Bl bd om x _ _ w1 y0) ?_
  rintro _ w2 ⟨rfl,az⟩
  have dz:=az.size
  exact oQ
  intro xx w3 aH
  refine gH aH hR gj oU bU λhR gj oU bU=>?_
  refine WZ ?_
  apply oO 5 23 28 (ak [] w3) rfl oQ
  intro h3
  refine W ?_
  refine aA (Bl l om x _ _ w3 oU) ?_
  rintro _ w4 ⟨rfl,aN⟩
  have fg:=aN.size
  exact oQ
  intro xx w5 aJ
  refine cO aJ hR gj bU λhR gj bU=>?_
  refine aV<|zc rfl (λh4=>?_) (λh4=>?_)
  have hq:cU (.at x) bd l=l:=iP h4
  refine W ?_
  exact⟨_,rfl,g,by rw[hq];exact gj,hR⟩
  have hq:cU (.at x) bd l=l++[x]:=iN (λhh=>Bool.noConfusion (hh.symm.trans h4))
  refine W ?_
  refine fo bo bm rfl rfl λw6 bB Kj jR=>bL bB hR gj λhR gj=>?_
  refine UB bo bm rfl rfl rfl rfl rfl rfl gj Kj om λv5 g5 w7 ll bJ qk=>?_
  have hR:=hR.go qk
  refine W ?_
  exact⟨_,rfl,g5,by rw[hq];exact ll,hR⟩
  have eX:e.iM=false:=(by cases hh:e.iM;rfl;exact absurd ((vM bj).2 hh) h1)
  obtain⟨HD,lK,js,xl⟩:=Ex.ai eX
  obtain⟨jB,EY,EZ⟩:=HB bj eX
  have HE:=M4 bj eX
  have l3:ek (nth e.au.ai 0).av=(e.from,e.from+e.kids.length):=by rw[js];exact HE
  obtain⟨b,off,pa,pc,rfl,eR,hT0⟩:=fm aQ jB
  have bU:=bU.o qj
  refine W ?_
  refine aA (Kd _ _) ?_
  rintro _ _ ⟨rfl,rfl⟩
  rw[yW l3]
  refine W ?_
  refine eO (λq:Nat×Value×Option Nat=>[(1,.slice ab bd.length cb),(2,q.2.1),(3,.pointer (some ⟨w.heap.size,0,none⟩)),(8,.int .i64 ((e.from+e.kids.length:Nat):Int)),(9,.int .i64 ((e.from+q.1:Nat):Int))]) (λq w'=>Fr g.toList w q.2.2.toList w'∧Fr g.toList w1 q.2.2.toList w'∧cE w' 9 q.2.1 q.2.2 (qE e bd l q.1)∧q.1<=e.kids.length) (λq=>e.kids.length-q.1) ((0,.slice al l.length cl,g)) (⟨rfl,rfl,rfl,rfl,rfl⟩) (⟨hR,Fr.refl _ _,gj,sm⟩) λgg w2 e2 hI=>?_
  obtain⟨k,vl,gl⟩:=gg
  dsimp only at hI⊢
  obtain⟨hR,kG,gj,hk⟩:=hI
  have bU:=bU.go kG;have aQ:=aQ.go kG;have y0:=y0.go kG;have cm:=cm.go kG
  refine W ?_
  refine zc rfl (λh5=>?_) (λh5=>?_)
  have ik:k<e.kids.length:=om
  have sS:=xl k ik
  obtain⟨b1,eh,gT,gU,e1,bM,cV⟩:=fm aQ (i:=e.from+k) om
  cases e1
  have cV:=cV.eq sS
  have uq:=GD bj ik
  have aW:=VF e bd l k
  have hbf:=VC e (e.from+k)
  have mZ:=VG e bd l (k:=k) om
  have By:=yZ ik
  have gD:=C8 e (k+1)
  refine WZ ?_
  apply jQ du gl.toList 13 (rA 50 13) (rA 50 13) [[],[0],[],[1,2],[3],[],[],[5,6],[],[],[8,9],[7,10],[]] [Ie.v _,Ie.v _,Ie.v _,Ie.v _,Ie.v _,Ie.p (fun(G:List Nat) (v:Value) (ww:World)=>∃bb,v= .slice (some ⟨bb,0,none⟩) 0 0∧dW G ww bb #[] 9),Ie.v _,Ie.e 0,Ie.v _,Ie.v _,Ie.p (fun(G:List Nat) (v:Value) (ww:World)=>bg G ww v (e.binds (e.from+k))),Ie.e 1,Ie.v _] [7,11] [fun(G:List Nat) (vs:List Value) (ww:World)=>cE ww 9 vl gl (qE e bd l k)∧(∀x,x∈gl.toList->x∈G),fun(G:List Nat) (vs:List Value) (ww:World)=>(cE ww 9 vl gl (qE e bd l k)∧(∀x,x∈gl.toList->x∈G))∧∃g7,cE ww 9 (vs.getD 0 undef) g7 bd∧qR G ww 9 g7∧(∀x,x∈g7.toList->x∉gl.toList),fun(G:List Nat) (vs:List Value) (ww:World)=>(cE ww 9 vl gl (qE e bd l k)∧(∀x,x∈gl.toList->x∈G))∧∃g7,cE ww 9 (vs.getD 1 undef) g7 (bd++e.binds (e.from+k))∧qR G ww 9 g7∧(∀x,x∈g7.toList->x∉gl.toList)] de rfl gj.lt (by exact⟨λG v w G' w' ⟨bb,e,h⟩ k=>⟨bb,e,h.go k⟩,λG v w G' w' h k=>bg.go h k,trivial⟩) (by exact⟨λG vs w w' h k=>⟨h.1.ext k,h.2⟩,λG vs w w' ⟨h1,g7,h2,h3,h4⟩ k=>⟨⟨h1.1.ext k,h1.2⟩,g7,h2.ext k,h3.ext k,h4⟩,λG vs w w' ⟨h1,g7,h2,h3,h4⟩ k=>⟨⟨h1.1.ext k,h1.2⟩,g7,h2.ext k,h3.ext k,h4⟩,trivial⟩) (⟨gj,λx hx=>hx⟩)
  refine FA ?_
  refine vf (λx w3 G3 aX jC kH=>?_) ?_
  refine gA bo bm λw4 aN C9 ga=>?_
  exact ff aN (⟨_,rfl,C9.o kH⟩)
  refine FA ?_
  refine ve 0 (λx w3 G3 aX jC kH hJ hlen=>?_) ?_
  have ba:=jv hlen
  subst ba
  have y0:=y0.go jC
  intro v5 d5
  obtain⟨bb,e5,fX⟩:=d5
  subst e5
  have hJ:cE w3 9 vl gl (qE e bd l k)∧(∀x,x∈gl.toList->x∈G3):=hJ
  refine EX bo bm rfl rfl rfl rfl rfl rfl fX.iy.lh y0 ‹_› (λx hx=>.inr (by simp at hx;subst hx;exact fX.iy)) so λv9 g9 w4 G9 dm E0 lf kI db eN aC=>?_
  exact fe G9 db eN (⟨⟨hJ.1.aG aC (λb hb hx=>fX.out (by simp at hx;subst hx;exact hJ.2 _ (by simp[hb]))),λx hx=>kI x (hJ.2 x hx)⟩,g9,dm,E0,λx hx eA=>(lf x hx).elim (λh=>fX.out (by simp at h;subst h;exact hJ.2 _ eA)) (λh=>by have:=kH x (hJ.2 x eA);omega)⟩)
  refine FA ?_
  refine vf (λx w3 G3 aX jC kH=>?_) ?_
  have cm:=cm.go jC
  refine aA (VB e.au jB EY EZ (e.from+k) _ _ w3 cm) ?_
  rintro v4 w4 ⟨kF,aN⟩
  have fg:=aN.size
  have ag9:=kF
  exact ff aN ((by have h9:=ag9 _ kH;rw[Vz bj eX] at h9;exact h9))
  refine ve 1 (λx w3 G3 aX jC kH hJ hlen=>?_) ?_
  obtain⟨q0,ba⟩:=jw hlen
  subst ba
  intro v10 d10
  have hJ:(cE w3 9 vl gl (qE e bd l k)∧(∀x,x∈gl.toList->x∈G3))∧∃g7,cE w3 9 q0 g7 bd∧qR G3 w3 9 g7∧(∀x,x∈g7.toList->x∉gl.toList):=hJ
  obtain⟨⟨EG,r5⟩,g7,HF,Da,Kk⟩:=hJ
  refine EX bo bm rfl rfl rfl rfl rfl rfl HF d10 ‹_› Da om λv9 g9 w4 G9 dm E0 lf kI db eN aC=>?_
  exact fe G9 db eN (⟨⟨EG.aG aC (λb hb hx=>Kk b hx (by simp[hb])),λx hx=>kI x (r5 x hx)⟩,g9,dm,E0,λx hx eA=>(lf x hx).elim (λh=>Kk x h eA) (λh=>by have:=kH x (r5 x eA);omega)⟩)
  exact FZ
  intro x qQ HG aX E1 Om hJ hlen
  obtain⟨q0,q1,ba⟩:=lJ hlen
  subst ba
  intro v5 d5
  intro v10 d10
  have hR:=hR.go E1;have kG:=kG.go E1;have cV:=cV.go E1
  change OW _ _ _ _ _ (aS (aR _ x _) (zZ 50 [_,_,_,_,_,_,_,_,_,_,_,_,_])) _
  have hJ:(cE qQ 9 vl gl (qE e bd l k)∧(∀x,x∈gl.toList->x∈HG))∧∃g7,cE qQ 9 q1 g7 (bd++e.binds (e.from+k))∧qR HG qQ 9 g7∧(∀x,x∈g7.toList->x∉gl.toList):=hJ
  obtain⟨⟨EG,r5⟩,g7,HF,Da,Kk⟩:=hJ
  refine aA (ih (fZ e k) om om uq.1 (bd++e.binds (e.from+k)) (qE e bd l k) (by rw[lA];omega) om _ _ _ gl qQ (cV.fV (λx hx=>r5 x hx)) (HF.rep (λb hb=>Kk b (by simp[hb]))) EG) ?_
  rintro Oo p7 ⟨Oq,Kl,HH⟩
  refine W ?_
  exact⟨(k+1,Oo,Oq),⟨rfl,rfl,rfl,rfl,congrArg (Value.int .i64) so⟩,⟨(hR.to (λx hx=>.inl (r5 x hx))).go HH,(kG.to (λx hx=>.inl (r5 x hx))).go HH,Kl,by simp;omega⟩,by simp;omega⟩
  have fH:k=e.kids.length:=by omega
  refine W ?_
  exact⟨_,rfl,gl,by rw[aeU eX,<-fH];exact gj,hR⟩
theorem aha (s:aj) (w:World):bC Tryz.prog 195 [str s] w λv w'=>(∃a n c,v= .tuple #[.slice a n c,.bool (mw s)]∧(mw s=true->∃e:Ex,bA s=some e.au∧e.ok∧e.n<=120∧bg [] w' (.slice a n c) (cU e [] [])))∧ak [] w w':=by
 have hK:=ak.refl [] w
 refine cj [.tmp 2,.tmp 3] 18 Tryz.func195 rfl acT rfl rfl ?_
 refine W ?_
 refine aA (Hz s [] w sm) ?_
 rintro v1 w1 ⟨fK,aI⟩
 have df:=aI.size
 have hK:=hK.ext aI
 obtain⟨t,tv,rfl,ht,hp⟩:=fK
 obtain⟨pa,pn,pc,rfl,dZ,aQ⟩:=cS ht
 refine W ?_
 refine da aK rfl rfl rfl λw2 az aF dK=>?_
 have hK:=hK.grow;have hK:=hK.ext az;have ht:=ht.grow;have ht:=ht.ext az
 refine cu aK rfl rfl rfl aF rfl λw3 aH aF fS=>?_
 have hK:=hK.aD aH sx;have ht:=ht.aD aH sx
 refine W ?_
 refine zc rfl (λh1=>?_) (λh1=>?_)
 have hx:mw s=false:=by simpa using h1
 refine zr<|gA bo bm λw4 aN mx ga=>?_
 have hK:=hK.ext aN
 refine W ?_
 exact⟨_,rfl,⟨_,_,_,by rw[hx];rfl,λh=>by rw[hx] at h;cases h⟩,hK⟩
 have hx:mw s=true:=by simpa using h1
 obtain⟨e,he,bj,hn⟩:=xk.1 hx
 have e2:=hp.1 _ he
 subst e2
 refine W ?_
 refine gA bo bm λw4 aN E2 HI=>bL aN ht hK λht hK=>?_
 refine gA bo bm ?_
 have Bj:=bh.grow (ht.fV (L':=[]) sm)
 intro w5 aJ xg HJ
 have ht:=Bj.ext aJ
 have hK:=hK.ext aJ
 refine aA (Ki 120 e hn om bj [] [] so so _ _ _ (some _) w5 ht (ck.nil _ _ _) xg.lh) ?_
 rintro v9 w6 ⟨g9,dm,db⟩
 obtain⟨a9,c9,rfl⟩:=j8 dm
 have hK:=hK.since db.aG (λx hx=>.inr (by simp at hx;omega))
 refine W ?_
 exact⟨_,rfl,⟨_,_,_,by rw[hx];rfl,λ_=>⟨e,he,bj,hn,dm.rs⟩⟩,hK⟩
theorem E3 {a b:aj} (h:bH a=bH b):a=b:=by simpa[bH] using h
theorem qS:∀{e f:Ex},e.ok->f.ok->e.au=f.au->e=f
 | .at s,.at r,_,_,h=>by rw[E3 h]
 | .at s,.un ..,h1,_,h=>absurd (congrArg aq.av h) (pV h1)
 | .at s,.bi ..,h1,_,h=>absurd (congrArg aq.av h) (pV h1)
 | .at s,.ite ..,h1,_,h=>absurd (congrArg aq.av h) (pV h1)
 | .at s,.lt ..,h1,_,h=>absurd (congrArg aq.av h) (pV h1)
 | .at s,.fn ..,h1,_,h=>absurd (congrArg aq.av h) (pV h1)
 | .un ..,.at s,_,h1,h=>absurd (congrArg aq.av h).symm (pV h1)
 | .bi ..,.at s,_,h1,h=>absurd (congrArg aq.av h).symm (pV h1)
 | .ite ..,.at s,_,h1,h=>absurd (congrArg aq.av h).symm (pV h1)
 | .lt ..,.at s,_,h1,h=>absurd (congrArg aq.av h).symm (pV h1)
 | .fn ..,.at s,_,h1,h=>absurd (congrArg aq.av h).symm (pV h1)
 | .un h a,.un h' a',k,k',e=>by
  have e:=congrArg aq.ai e
  simp only[Ex.au,aq.ai,List.cons.injEq,and_true] at e
  rw[E3 e.1,qS k.2 k'.2 e.2]
 | .bi h a b,.bi h' a' b',k,k',e=>by
  have e:=congrArg aq.ai e
  simp only[Ex.au,aq.ai,List.cons.injEq,and_true] at e
  rw[E3 e.1,qS k.2.1 k'.2.1 e.2.1,qS k.2.2 k'.2.2 e.2.2]
 | .ite a b c,.ite a' b' c',k,k',e=>by
  have e:=congrArg aq.ai e
  simp only[Ex.au,aq.ai,List.cons.injEq,and_true] at e
  rw[qS k.1 k'.1 e.2.1,qS k.2.1 k'.2.1 e.2.2.1,qS k.2.2 k'.2.2 e.2.2.2]
 | .lt x a b,.lt x' a' b',k,k',e=>by
  have e:=congrArg aq.ai e
  simp only[Ex.au,aq.ai,List.cons.injEq,and_true] at e
  rw[E3 e.2.1,qS k.2.1 k'.2.1 e.2.2.1,qS k.2.2 k'.2.2 e.2.2.2]
 | .fn f x A B b,.fn f' x' A' B' b',k,k',e=>by
  have e:=congrArg aq.ai e
  simp only[Ex.au,aq.ai,List.cons.injEq,and_true] at e
  rw[E3 e.2.1,E3 e.2.2.1,GC e.2.2.2.1,GC e.2.2.2.2.1,qS k.2.2.2.2.2 k'.2.2.2.2.2 e.2.2.2.2.2]
 | .un ..,.bi ..,_,_,e=>by have e:=congrArg aq.ai e;simp[Ex.au,aq.ai] at e
 | .un ..,.ite ..,_,_,e=>by have e:=congrArg aq.ai e;simp[Ex.au,aq.ai] at e
 | .un ..,.lt ..,_,_,e=>by have e:=congrArg aq.ai e;simp[Ex.au,aq.ai] at e
 | .un ..,.fn ..,_,_,e=>by have e:=congrArg aq.ai e;simp[Ex.au,aq.ai] at e
 | .bi ..,.un ..,_,_,e=>by have e:=congrArg aq.ai e;simp[Ex.au,aq.ai] at e
 | .bi ..,.ite ..,_,_,e=>by have e:=congrArg aq.ai e;simp[Ex.au,aq.ai] at e
 | .bi ..,.lt ..,_,_,e=>by have e:=congrArg aq.ai e;simp[Ex.au,aq.ai] at e
 | .bi ..,.fn ..,_,_,e=>by have e:=congrArg aq.ai e;simp[Ex.au,aq.ai] at e
 | .ite ..,.un ..,_,_,e=>by have e:=congrArg aq.ai e;simp[Ex.au,aq.ai] at e
 | .ite ..,.bi ..,_,_,e=>by have e:=congrArg aq.ai e;simp[Ex.au,aq.ai] at e
 | .ite ..,.lt ..,_,_,e=>by have e:=congrArg aq.ai e;simp[Ex.au,aq.ai,bH] at e
 | .ite ..,.fn ..,_,_,e=>by have e:=congrArg aq.ai e;simp[Ex.au,aq.ai] at e
 | .lt ..,.un ..,_,_,e=>by have e:=congrArg aq.ai e;simp[Ex.au,aq.ai] at e
 | .lt ..,.bi ..,_,_,e=>by have e:=congrArg aq.ai e;simp[Ex.au,aq.ai] at e
 | .lt ..,.ite ..,_,_,e=>by have e:=congrArg aq.ai e;simp[Ex.au,aq.ai,bH] at e
 | .lt ..,.fn ..,_,_,e=>by have e:=congrArg aq.ai e;simp[Ex.au,aq.ai] at e
 | .fn ..,.un ..,_,_,e=>by have e:=congrArg aq.ai e;simp[Ex.au,aq.ai] at e
 | .fn ..,.bi ..,_,_,e=>by have e:=congrArg aq.ai e;simp[Ex.au,aq.ai] at e
 | .fn ..,.ite ..,_,_,e=>by have e:=congrArg aq.ai e;simp[Ex.au,aq.ai] at e
 | .fn ..,.lt ..,_,_,e=>by have e:=congrArg aq.ai e;simp[Ex.au,aq.ai] at e
def ahb (s:aj) (e:Ex):Prop:=bA s=some e.au∧e.ok∧e.n<=120∧cU e [] []=[]
theorem ahc (s:aj) (w:World):bC Tryz.prog 158 [str s] w λv w'=>(∃b,v= .bool b∧(b=true↔∃e:Ex,ahb s e))∧ak [] w w':=by
 have hK:=ak.refl [] w
 refine cj [.tmp 2] 16 Tryz.func158 rfl acn rfl rfl ?_
 refine W ?_
 refine aA (aha s w) ?_
 rintro v1 w1 ⟨fK,aI⟩
 have df:=aI.size
 have hK:=hK.ext aI
 obtain⟨a,n,c,rfl,hf⟩:=fK
 refine W ?_
 apply oB 4 11 15 rfl oQ
 intro _
 exact oQ
 intro xx
 refine zA<|aV<|kj<|⟨_,rfl,⟨_,rfl,?_⟩,hK⟩
 rw[aE,dE]
 constructor
 rintro⟨h1,h2⟩;obtain⟨e,he,bj,hn,hs⟩:=hf h1;obtain⟨_,_,_,e2,e3⟩:=dU hs;cases e2;exact⟨e,he,bj,hn,List.length_eq_zero_iff.1 om⟩
 rintro⟨e,he,bj,hn,h0⟩;have hx:mw s=true:=xk.2 ⟨e,he,bj,hn⟩;refine⟨hx,?_⟩;obtain⟨e',uZ,ahd,D7,hs⟩:=hf hx;rw[he] at uZ;have:=qS bj ahd (Option.some.inj uZ);subst this;rw[h0] at hs;obtain⟨_,_,_,e2,e3⟩:=dU hs;cases e2;simp at e3;omega
def kx (ag:List aj) (ρ:Rn) (e:Ex) (n:Nat):Nat->List Ex×Nat
 |0=>([],n)
 |k+1=>((kx ag ρ e n k).1++[(bR ag (fZ e k) ρ (kx ag ρ e n k).2).1],(bR ag (fZ e k) ρ (kx ag ρ e n k).2).2)
theorem VI (ag:List aj) (ρ:Rn) (e:Ex) (n:Nat):∀k,(kx ag ρ e n k).1.length=k:=by intro x;induction x<;>grind [kx]
def jn (ag:List aj) (ρ:Rn) (n:Nat):Ex->Rn
 | .fn f x _ _ _=>ρ++[(f,cW cx (bw cx ag n)),(x,cW cx (bw cx ag (bw cx ag n+1)))]
 |_=>ρ
def nF (ag:List aj) (n:Nat):Ex->Nat
 | .fn _ _ _ _ _=>bw cx ag (bw cx ag n+1)+1
 |_=>n
def xm (ag:List aj) (n:Nat):Ex->List aq
 | .fn _ _ A B _=>[bH ic,bH (cW cx (bw cx ag n)),bH (cW cx (bw cx ag (bw cx ag n+1))),A.au,B.au]
 |e=>[bH e.head]
def isLt:Ex->Bool
 | .lt _ _ _=>true
 |_=>false
theorem ahe (ag:List aj) (ρ:Rn) (n:Nat) (ha:e.iM=false) (hl:isLt e=false):
  (bR ag e ρ n).1.au= .mk [] (xm ag n e++(kx ag (jn ag ρ n e) e (nF ag n e) e.kids.length).1.map Ex.au)∧(bR ag e ρ n).2=(kx ag (jn ag ρ n e) e (nF ag n e) e.kids.length).2:=by
 cases e with
 |«at» s=>cases ha
 |lt x a b=>cases hl
 |un h a=>exact⟨rfl,rfl⟩
 |bi h a b=>exact⟨rfl,rfl⟩
 |ite a b c=>exact⟨rfl,rfl⟩
 |fn f x A B b=>exact⟨rfl,rfl⟩
theorem ahf (ag:List aj) (n:Nat) (ha:e.iM=false) (hl:isLt e=false):(xm ag n e).length=e.from:=by
 cases e with
 |«at» s=>cases ha
 |lt x a b=>cases hl
 |_=>rfl
theorem ahg (ag:List aj) (n:Nat) (hk:e.ok) (ha:e.iM=false) (hf:e.head≠ic):xm ag n e=[bH e.head]∧nF ag n e=n:=by
 cases e with
 |fn f x A B b=>exact absurd rfl hf
 |_=>exact⟨rfl,rfl⟩
theorem VJ (ag:List aj) (ρ:Rn) (n:Nat) (hf:e.head≠ic):jn ag ρ n e=ρ:=by cases e<;>grind [Ex.head,jn]
theorem Km (h:e.ok) (he:e.head=gw):∃x a b,e= .lt x a b:=by
 cases e with
 |lt x a b=>exact⟨x,a,b,rfl⟩
 |un hd a=>have he:hd=gw:=he;rw[he] at h;exact absurd h.1 de
 |bi hd a b=>have he:hd=gw:=he;rw[he] at h;exact absurd h.1 de
 |«at» s=>cases he
 |ite a b c=>cases he
 |fn f x A B b=>cases he
theorem Kn (h:e.ok) (he:e.head=ic):∃f x A B b,e= .fn f x A B b:=by
 cases e with
 |fn f x A B b=>exact⟨f,x,A,B,b,rfl⟩
 |un hd a=>have he:hd=ic:=he;rw[he] at h;exact absurd h.1 de
 |bi hd a b=>have he:hd=ic:=he;rw[he] at h;exact absurd h.1 de
 |«at» s=>cases he
 |ite a b c=>cases he
 |lt x a b=>cases he
theorem VK (h:e.ok) (he:e.head=gN):∃a b c,e= .ite a b c:=by
 cases e with
 |ite a b c=>exact⟨a,b,c,rfl⟩
 |un hd a=>have he:hd=gN:=he;rw[he] at h;exact absurd h.1 de
 |bi hd a b=>have he:hd=gN:=he;rw[he] at h;exact absurd h.1 de
 |«at» s=>cases he
 |lt x a b=>cases he
 |fn f x A B b=>cases he
theorem not_lt (he:e.head≠gw):isLt e=false:=by cases e<;>grind [Ex.head,isLt]
theorem VL (ha:e.iM=false) (hl:isLt e=false) (hf:e.head≠ic):e.au.ai=[bH e.head]++e.kids.map Ex.au:=by
 cases e with
 |«at» s=>cases ha
 |lt x a b=>cases hl
 |fn f x A B b=>exact absurd rfl hf
 |_=>rfl
def l8 (pre:List aq) (acc:List Ex) (e:Ex):List aq:=pre++acc.map Ex.au++(e.kids.drop acc.length).map Ex.au
theorem VM {pre:List aq} {acc:List Ex} {y:Ex} (h:acc.length<e.kids.length):(l8 pre acc e).set (pre.length+acc.length) y.au=l8 pre (acc++[y]) e:=by
 have h1:e.kids[acc.length]?=some (fZ e acc.length):=by simp[fZ,gE h]
 unfold l8
 rw[List.drop_eq_getElem_cons h,List.map_cons,List.set_append_right _ _ sm,lA,List.length_map,Nat.sub_self]
 simp
theorem VN {pre:List aq} {acc:List Ex} (h:acc.length<=e.kids.length):(l8 pre acc e).length=pre.length+e.kids.length:=by
 simp[l8];omega
theorem VO {pre:List aq} {acc:List Ex} (h:acc.length=e.kids.length):l8 pre acc e=pre++acc.map Ex.au:=by grind [l8]
structure RN (L:List Nat) (w:World) (br:Nat) (ag:List aj) (n:Nat):Prop where
 mem:br∈L
 box:∃vf,aL w br [vf,.int .i64 (n:Int)].toArray 228∧bg L w vf ag
theorem RN.ext {br:Nat} {ag:List aj} (h:RN L w br ag n) (k:ak [] w w'):RN L w' br ag n:=let⟨v,h1,h2⟩:=h.box;⟨h.mem,v,h1.ext k,h2.ext k⟩
theorem RN.lt {br:Nat} {ag:List aj} (h:RN L w br ag n):br<w.heap.size:=let⟨_,h1,_⟩:=h.box;h1.lt
theorem RN.re {L':List Nat} {br:Nat} {ag:List aj} (h:RN L w br ag n) (hb:br∈L') (hL:∀x,x∈L'->x∈L∨w.heap.size<=x):RN L' w br ag n:=let⟨v,h1,h2⟩:=h.box;⟨hb,v,h1,h2.fresh hL⟩
theorem RN.aG {br:Nat} {ag:List aj} (h:RN L w br ag n) (k:ak G w w') (hb:br∉G) (hG:∀x,x∈G->x∈L):RN L w' br ag n:=
 let⟨v,h1,h2⟩:=h.box;⟨h.mem,v,h1.aG k hb,h2.aD k hG⟩
theorem RN.out {G':List Nat} {br:Nat} {ag:List aj} (h:RN G w br ag n) (k:Fr G w G' w') (ho:Out N G0 w w') (hb:br∈G0) (gC:br∈G'):RN G' w' br ag n:=
 let⟨v,h1,h2⟩:=h.box;⟨gC,v,ho.iy h1 hb,h2.go k⟩
theorem E4 (c:UInt8) (ag:List aj) (n:Nat):bw c ag n<=n+ag.length+1:=(oC c ag n).2
theorem Ot (ag:List aj) (n:Nat) (hn:n<=100000) (hb:ag.length<=10000) (br:Nat) (L:List Nat) (w:World) (h:RN L w br ag n):
  bC Tryz.prog 241 [.pointer (some ⟨br,0,none⟩)] w λr w'=>(r=str (cW cx (bw cx ag n))∧RN L w' br ag (bw cx ag n+1))∧ak [br] w w':=by
 have Ou:=E4 cx ag n
 have r8:=h.mem
 refine cj [.tmp 2] 26 Tryz.func241 rfl adj rfl rfl ?_
 refine W ?_
 refine eO (λk:Nat=>[(0,.pointer (some ⟨br,0,none⟩))]) (λk w'=>ak [br] w w'∧RN L w' br ag k∧n<=k∧bw cx ag k=bw cx ag n) (λk=>bw cx ag n+1-k) n rfl (⟨ak.refl _ _,h,lR _,rfl⟩) λgg w1 e1 hI=>?_
 obtain⟨hK,⟨_,vf,oT,fi⟩,hk,hq⟩:=hI
 have hle:=(oC cx ag gg).1
 refine W ?_
 refine aA (iI (gg+1) gg om om w1) ?_
 rintro _ w2 ⟨rfl,az⟩
 have dz:=az.size
 refine cO az hK oT fi λhK oT fi=>?_
 refine iw rfl rfl rfl rfl (by have:=EK _ gg (lR _);simp;omega)<|W ?_
 refine gF (o:=1) sJ rfl rfl rfl oT rfl λw3 aH oT dv=>?_
 have fi:=fi.aD aH (by simpa using r8)
 have hK:=hK.trans aH
 refine W ?_
 refine aA (Bl ag om (cW cx gg) _ _ w3 fi) ?_
 rintro _ w4 ⟨rfl,aN⟩
 have fg:=aN.size
 refine cO aN hK oT fi λhK oT fi=>?_
 refine jY rfl rfl rfl<|aV<|zc rfl (λh1=>?_) (λh1=>?_)
 have mY:cW cx gg∉ag:=(by simpa using h1)
 have HK:bw cx ag n=gg:=hq.symm.trans (Ta mY)
 refine W ?_
 exact⟨_,rfl,⟨by rw[HK];rfl,r8,_,by rw[HK];exact oT,fi⟩,hK⟩
 have mY:cW cx gg∈ag:=(by simpa using h1)
 have hfs:=S9 mY
 have T0:=(oC cx ag (gg+1)).1
 refine WZ ?_
 exact⟨gg+1,rfl,⟨hK,⟨r8,vf,oT,fi⟩,om,om⟩,om⟩
theorem VP (ag:List aj) (ρ:Rn) (e:Ex) (n:Nat):∀k,k<=e.kids.length->n<=(kx ag ρ e n k).2∧(kx ag ρ e n k).2<=n+kN e k*(ag.length+2)
 |0,_=>by simp[kx]
 |k+1,hk=>by
  have h1:=VP ag ρ e n k om
  have h2:=jl ag (fZ e k) ρ (kx ag ρ e n k).2
  rw[yZ om,Nat.add_mul]
  show n<=(bR ag (fZ e k) ρ (kx ag ρ e n k).2).2∧(bR ag (fZ e k) ρ (kx ag ρ e n k).2).2<=_
  omega
end Go.Proofs.YthbhobaiopccaaaGreatDoor
