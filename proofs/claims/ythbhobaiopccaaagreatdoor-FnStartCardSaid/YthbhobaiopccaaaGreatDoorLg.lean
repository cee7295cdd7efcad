/- Lemmas for the law FnStart, no statement of their own: no conditions. -/
import Derived.Test.YthbhobaiopccaaaGreatDoorLf
set_option maxHeartbeats 4000000
set_option linter.unusedVariables false
set_option linter.unusedSimpArgs false
namespace Go.Proofs.YthbhobaiopccaaaGreatDoor
open Go
variable {b c k n x:Nat} {v:Value} {g:Option Nat} {G L:List Nat} {w:World} {xs:List ai} {e:Ex} {bs:Bs} {h:ai} {A:Ty} {o:Option (Ty×Ty)} {r9:List Ty}
theorem agi {ps:List au} (h:k<ps.length):ju (ps.take k)+fg (nth ps k)<=ju ps:=by
 have h1:=RY (fK h)
 have h2:=T4 (ps:=ps) (k+1)
 omega
theorem agj:∀(m:Nat) (t:au),t.size<=m->t.size<=1000000->WF t->∀(l:List ai),l.length+fg t<=100000->∀(v vl:Value) (g:Option Nat) (w:World),
  bC g.toList w v t->cz w 9 vl g l->
  bz Tryz.prog 180 [v,vl] w λr w'=>∃g',cz w' 9 r g' (kZ t l)∧Fr g.toList w g'.toList w':=by
 intro m
 induction m with
 |zero=>intro t h;have:=vL t;omega
 |succ m ih=>
  intro t hm mJ cL l hl v vl g w hv fR
  obtain⟨a,n,c,rfl,hn,aQ⟩:=dj hv
  subst hn
  obtain⟨al,cl,rfl⟩:=jw fR
  have pP:=fR.lt
  have oy:=fR.rs
  have hR:=Fr.refl g.toList w
  have mH:=xz t
  refine bX [.tmp 4] 34 Tryz.func180 rfl abw rfl rfl ?_
  refine zr<|eu rfl λw1 aI aN db=>gQ aI hR aQ fR oy λhR aQ fR oy=>?_
  refine W ?_
  refine zc rfl (λh1=>?_) (λh1=>?_)
  have hq:kZ t l=if t.aw∈l then l else l++[t.aw]:=by rw[Sd,iP h1]
  refine W ?_
  refine aA (An l om t.aw _ _ w1 oy) ?_
  rintro _ w2 ⟨rfl,az⟩
  have dy:=az.size
  refine cG az hR fR aN λhR fR aN=>?_
  refine aZ<|zc rfl (λh2=>?_) (λh2=>?_)
  have AB:t.aw∈l:=h2
  refine W ?_
  exact⟨_,rfl,g,by rw[hq,iP AB];exact fR,hR⟩
  have AB:¬t.aw∈l:=h2
  refine W ?_
  refine fF bh bf rfl rfl λw3 aH ND gv=>bI aH hR fR λhR fR=>?_
  refine Tg bh bf rfl rfl rfl rfl rfl rfl fR ND om λv5 g5 w4 kP aO pQ=>?_
  have hR:=hR.go pQ
  refine W ?_
  exact⟨_,rfl,g5,by rw[hq,iN AB];exact kP,hR⟩
  have hq:kZ t l=oL t.ak l:=(by rw[Sd,iN h1])
  have UQ:fg t=ju t.ak:=(by rw[LX,iN h1])
  have aN:=aN.o pP
  refine W ?_
  refine eH (λq:Nat×Value×Option Nat=>[(1,q.2.1),(2,.pointer (some ⟨w.heap.size,0,none⟩)),(5,.int .i64 (q.1:Int))]) (λq w'=>Fr g.toList w q.2.2.toList w'∧Fr g.toList w1 q.2.2.toList w'∧cz w' 9 q.2.1 q.2.2 (oL (t.ak.take q.1) l)∧q.1<=t.ak.length) (λq=>t.ak.length-q.1) ((0,.slice al l.length cl,g)) (⟨rfl,rfl,rfl⟩) (⟨hR,Fr.refl _ _,fR,sm⟩) λgg w2 e2 hI=>?_
  obtain⟨k,vl,gl⟩:=gg
  dsimp only at hI⊢
  obtain⟨hR,kr,fR,hk⟩:=hI
  have aN:=aN.go kr;have aQ:=aQ.go kr
  refine W ?_
  refine zc rfl (λh3=>?_) (λh3=>?_)
  have gK:k<t.ak.length:=om
  obtain⟨b1,eR,gd,gh,e1,bF,cK⟩:=eS aQ gK
  subst e1
  have dm:=kX gK
  have aS:=ad7 (fK gK) l
  have oh:=Ml (t.ak.take k) l
  have El:=agi gK
  refine WI ?_
  refine zi cB aL rfl rfl gK<|W ?_
  refine aA (ih (nth t.ak k) om om (cL.nth gK) _ om _ _ gl w2 cK fR) ?_
  rintro Nq w3 ⟨Nr,Jq,GJ⟩
  rw[<-aS] at Jq
  refine W ?_
  exact⟨(k+1,Nq,Nr),⟨rfl,rfl,rfl⟩,⟨hR.go GJ,kr.go GJ,Jq,by simp;omega⟩,by simp;omega⟩
  have fM:k=t.ak.length:=by omega
  subst fM
  refine W ?_
  exact⟨_,rfl,gl,by rw[hq,<-List.take_length (l:=t.ak)];exact fR,hR⟩
theorem agk (ee:Ex) (hn:ee.n<=120) (ba:ee.ok) (v:Value) (L:List Nat) (w:World) (lf:∀x,x∈L->x<w.heap.size) (hv:bC L w v ee.aq):
  bz Tryz.prog 179 [v] w λr w'=>(∃tv,r= .tuple #[tv,.bool (qg ee).isSome]∧bC L w' tv (bK (cI ee [] []) ee [] 0).1.aq)∧aj [] w w':=by
 have dd:=hv
 obtain⟨a,np,c,rfl,eK,aQ⟩:=dj hv
 have oW:(cI ee [] []).length<=120:=by have:=Mc ee [] [];simp at this;omega
 have hmu:ee.n*((cI ee [] []).length+2)<=120*122:=Nat.mul_le_mul hn om
 have hK:=aj.refl [] w
 refine jr [.cell 2 74,.tmp 3] 23 Tryz.func179 rfl abv rfl rfl rfl ?_
 refine zr<|eu rfl λw1 aI aW db=>?_
 have hK:=hK.ext aI
 refine dk aL rfl rfl rfl λw2 az aN dJ=>?_
 have hK:=hK.grow;have hK:=hK.ext az;have aW:=aW.grow;have aW:=aW.ext az
 refine W ?_
 refine fN bh bf λw3 aH cQ oT=>cG aH hK aW aN λhK aW aN=>?_
 refine fN bh bf λw4 aO cJ kG=>cG aO hK aW aN λhK aW aN=>?_
 have gv:=hK.size
 refine aA (Jn 120 ee hn om ba [] [] so so _ _ _ (some _) w4 (bC.ext (bC.fresh dd (by intro x hx;simp at hx;right;omega)) hK) (bN.nil _ _ _) cJ.kL) ?_
 rintro v9 w5 ⟨g9,cO,cR⟩
 have oZ:=cR.aG.size
 obtain⟨a9,c9,rfl⟩:=jw cO
 have hK:=hK.since cR.aG (λx hx=>.inr (by simp at hx;omega))
 have aW:=aW.aG cR.aG so
 have aN:=aN.aG cR.aG so
 have fM:=cO.lt
 have aoE:=hK.size
 have UR:=aW.lt
 have UT:=aN.lt
 refine iO (ac7 _ _ _ _ _) rfl rfl<|eu rfl λw6 bO je kF=>gQ bO hK aW aN cO λhK aW aN cO=>?_
 refine W ?_
 refine fN bh bf λw7 bV lF oT=>la bV hK aW aN cO je λhK aW aN cO je=>?_
 refine fN bh bf λw8 cA wv kG=>la cA hK aW aN cO je λhK aW aN cO je=>?_
 refine WZ ?_
 have agm:∀q,q∈g9.toList->w.heap.size<=q:=(λq hq=>by rcases cR.mem q hq with h|h;(·simp at h;omega);(·omega))
 have iK:=hK.size
 have jx:w5.heap.size<w8.heap.size:=je.lt
 have agn:∀q,q∈g9.toList->q≠w5.heap.size∧q≠w1.heap.size:=(λq hq=>⟨λh9=>by have:=fM q hq;omega,λh9=>by rcases cR.mem q hq with h|h;(·simp at h;omega);(·omega)⟩)
 refine aA (afZ (cI ee [] []) om 120 ee hn om ba [] 0 so om _ _ _ w5.heap.size (w5.heap.size::w1.heap.size::L) w8 (bC.ext (bC.fresh dd (by intro q hq;simp at hq;rcases hq with h|h|h;(·right;omega);(·right;omega);(·exact .inl h))) hK) (bN.nil _ _ _) (bN.nil _ _ _) ⟨by simp,_,je,cO.rep (λq hq nD=>by have h1:=agn q (by simp[hq]);rcases mC.1 nD with h|h;(·exact h1.1 h);(·rcases mC.1 h with h|h;(·exact h1.2 h);(·have h2:=lf q h;have h3:=agm q (by simp[hq]);omega)))⟩ (by intro q hq;simp at hq;rcases hq with h|h|h;(·omega);(·omega);(·have:=lf q h;omega))) ?_
 rintro AE w9 ⟨⟨wy,mN⟩,mQ⟩
 have UU:=mQ.size
 obtain⟨mS,mT,mU,rfl,_,_⟩:=dj wy
 obtain⟨_,aoF,je,_⟩:=mN
 have hK:=hK.since mQ (λq hq=>.inr (by simp at hq;omega))
 have aW:=aW.aG mQ so
 have aN:=aN.aG mQ so
 refine dk aL rfl rfl rfl λbZ cj cN xN=>?_
 have hK:=hK.grow;have hK:=hK.ext cj;have aN:=aN.grow;have aN:=aN.ext cj;have je:=je.grow;have je:=je.ext cj;have wy:=wy.grow;have wy:=wy.ext cj
 refine cw aL rfl rfl rfl cN rfl λey cS cN rC=>?_
 have hK:=hK.aD cS sx;have aN:=aN.aD cS sx;have je:=je.aD cS sx;have wy:=wy.aD cS sx
 refine W ?_
 refine yZ cT (cu w1.heap.size ([str (bK (cI ee [] []) ee [] 0).1.aq.aw,.slice mS mT mU]) 74) 8 (rA 17 6++[100006,3]) (rA 17 6++[100006,3]) [[],[],[1],[2],[3],[4],[0],[5]] [λv _=>v=(.agg #[str (bK (cI ee [] []) ee [] 0).1.aq.aw,.slice mS mT mU]),λv _=>v=(.pointer (some ⟨w5.heap.size,0,none⟩)),λv _=>v=(.pointer (some ⟨w5.heap.size,0,none⟩)),λv _=>v=(.pointer (some ⟨w5.heap.size,0+1,none⟩)),λv _=>v=(.int .i64 ((bK (cI ee [] []) ee [] 0).2:Int)),λv _=>v=(.bool (decide (((bK (cI ee [] []) ee [] 0).2:Int)<=100))),λ_ ww=>aJ ww w1.heap.size ([str (bK (cI ee [] []) ee [] 0).1.aq.aw,.slice mS mT mU]).toArray 74,λv _=>v=(.bool (decide (((bK (cI ee [] []) ee [] 0).2:Int)<=100)))] de (fo (fo (fo (fo (fo (fo (Dq (fo trivial)))))))) (λwd aB=>?_) ?_
 refine dY ?_ ?_
 intro x vs fa e cV hd he
 replace cV:=(cu w1.heap.size ([str (bK (cI ee [] []) ee [] 0).1.aq.aw,.slice mS mT mU]) 74).trans aB cV
 have cN:=cN.aD cV.1 sx
 replace he:e=bm (bg _ x _) []:=he
 subst he
 refine W ?_
 exact dn ((cu w1.heap.size ([str (bK (cI ee [] []) ee [] 0).1.aq.aw,.slice mS mT mU]) 74).refl _) rfl
 refine dY ?_ ?_
 intro x vs fa e cV hd he
 replace cV:=(cu w1.heap.size ([str (bK (cI ee [] []) ee [] 0).1.aq.aw,.slice mS mT mU]) 74).trans aB cV
 replace he:e=bm (bg _ x _) []:=he
 subst he
 refine W ?_
 exact dn ((cu w1.heap.size ([str (bK (cI ee [] []) ee [] 0).1.aq.aw,.slice mS mT mU]) 74).refl _) rfl
 refine dY ?_ ?_
 intro x vs fa e cV hd he
 have d1:vs 1=(.pointer (some ⟨w5.heap.size,0,none⟩)):=hd
 replace cV:=(cu w1.heap.size ([str (bK (cI ee [] []) ee [] 0).1.aq.aw,.slice mS mT mU]) 74).trans aB cV
 replace he:e=bm (bg _ x _) [(18,vs 1)]:=he
 rw[d1] at he
 subst he
 refine W ?_
 exact dn ((cu w1.heap.size ([str (bK (cI ee [] []) ee [] 0).1.aq.aw,.slice mS mT mU]) 74).refl _) rfl
 refine dY ?_ ?_
 intro x vs fa e cV hd he
 have d2:vs 2=(.pointer (some ⟨w5.heap.size,0,none⟩)):=hd
 replace cV:=(cu w1.heap.size ([str (bK (cI ee [] []) ee [] 0).1.aq.aw,.slice mS mT mU]) 74).trans aB cV
 replace he:e=bm (bg _ x _) [(19,vs 2)]:=he
 rw[d2] at he
 subst he
 refine W ?_
 exact dn ((cu w1.heap.size ([str (bK (cI ee [] []) ee [] 0).1.aq.aw,.slice mS mT mU]) 74).refl _) rfl
 refine dY ?_ ?_
 intro x vs fa e cV hd he
 have d3:vs 3=(.pointer (some ⟨w5.heap.size,0+1,none⟩)):=hd
 replace cV:=(cu w1.heap.size ([str (bK (cI ee [] []) ee [] 0).1.aq.aw,.slice mS mT mU]) 74).trans aB cV
 have je:=je.aD cV.1 sx
 replace he:e=bm (bg _ x _) [(20,vs 3)]:=he
 rw[d3] at he
 subst he
 refine W ?_
 exact dn ((cu w1.heap.size ([str (bK (cI ee [] []) ee [] 0).1.aq.aw,.slice mS mT mU]) 74).refl _) rfl
 refine dY ?_ ?_
 intro x vs fa e cV hd he
 have d4:vs 4=(.int .i64 ((bK (cI ee [] []) ee [] 0).2:Int)):=hd
 replace cV:=(cu w1.heap.size ([str (bK (cI ee [] []) ee [] 0).1.aq.aw,.slice mS mT mU]) 74).trans aB cV
 replace he:e=bm (bg _ x _) [(21,vs 4)]:=he
 rw[d4] at he
 subst he
 refine W ?_
 exact dn ((cu w1.heap.size ([str (bK (cI ee [] []) ee [] 0).1.aq.aw,.slice mS mT mU]) 74).refl _) rfl
 refine dY ?_ ?_
 intro x vs fa e cV hd he
 have d0:vs 0=(.agg #[str (bK (cI ee [] []) ee [] 0).1.aq.aw,.slice mS mT mU]):=hd
 replace cV:=(cu w1.heap.size ([str (bK (cI ee [] []) ee [] 0).1.aq.aw,.slice mS mT mU]) 74).trans aB cV
 obtain⟨us,uN,uO⟩:=cV.2.2 ⟨_,(by rfl),aN⟩
 replace he:e=bm (bg _ x _) [(17,vs 0)]:=he
 rw[d0] at he
 subst he
 refine cw aL rfl rfl rfl uO (by rw[uN];rfl) λjf gw hb GV=>W ?_
 exact dn ⟨gw,λ_=>hb,λ_=>⟨_,rfl,hb⟩⟩ hb
 refine dY ?_ ?_
 intro x vs fa e cV hd he
 have d5:vs 5=(.bool (decide (((bK (cI ee [] []) ee [] 0).2:Int)<=100))):=hd
 replace cV:=(cu w1.heap.size ([str (bK (cI ee [] []) ee [] 0).1.aq.aw,.slice mS mT mU]) 74).trans aB cV
 replace he:e=bm (bg _ x _) [(22,vs 5)]:=he
 rw[d5] at he
 subst he
 refine W ?_
 exact dn ((cu w1.heap.size ([str (bK (cI ee [] []) ee [] 0).1.aq.aw,.slice mS mT mU]) 74).refl _) rfl
 exact trivial
 intro x vs ld kQ dO
 have d0:vs 0=(.agg #[str (bK (cI ee [] []) ee [] 0).1.aq.aw,.slice mS mT mU]):=dO 0 de
 have d1:vs 1=(.pointer (some ⟨w5.heap.size,0,none⟩)):=dO 1 de
 have d2:vs 2=(.pointer (some ⟨w5.heap.size,0,none⟩)):=dO 2 de
 have d3:vs 3=(.pointer (some ⟨w5.heap.size,0+1,none⟩)):=dO 3 de
 have d4:vs 4=(.int .i64 ((bK (cI ee [] []) ee [] 0).2:Int)):=dO 4 de
 have d5:vs 5=(.bool (decide (((bK (cI ee [] []) ee [] 0).2:Int)<=100))):=dO 5 de
 have d6:aJ ld w1.heap.size ([str (bK (cI ee [] []) ee [] 0).1.aq.aw,.slice mS mT mU]).toArray 74:=dO 6 de
 have d7:vs 7=(.bool (decide (((bK (cI ee [] []) ee [] 0).2:Int)<=100))):=dO 7 de
 have hK:=hK.aD kQ.1 sx;have wy:=wy.aD kQ.1 sx
 have aN:=d6
 change OW _ _ _ _ [] (bm (bg _ x _) (zZ 17 [vs 0,vs 1,vs 2,vs 3,vs 4,vs 5]++[(100006,vs 6),(3,vs 7)])) _
 rw[d0,d1,d2,d3,d4,d5,d7]
 refine W ?_
 exact⟨[_,_],⟨fb eQ aL rfl aN rfl,rfl⟩,⟨_,congrArg (λb=>Value.tuple #[_,.bool b]) (show decide (((bK (cI ee [] []) ee [] 0).2:Int)<=100)=(qg ee).isSome from by unfold qg;by_cases h:(bK (cI ee [] []) ee [] 0).2<=100;(·rw[iP h];exact dT om);(·rw[iN h];exact dF om)),wy.iF (λx hx=>by simp[hx])⟩,hK⟩
def t5:xT:=⟨190,9,74⟩
theorem ago (ag:List ai) (n:Nat) (hn:n<=100000) (hb:ag.length<=10000) (b:Nat) (E G:List Nat) (aK:List ai) (exprs:List au) (w:World) (h:M5 t5 E G w b ag n aK exprs):
  bz Tryz.prog 249 [.pointer (some ⟨b,0,none⟩)] w λr w'=>(r=str (cM cy (bo cy ag n))∧M5 t5 E G w' b ag (bo cy ag n+1) aK exprs)∧aj [b] w w':=by
 have Nt:=Ef cy ag n
 obtain⟨vt,vn,ve,gn,ge,bj,hS⟩:=h
 have bj:aJ w b [vt,.int .i64 (n:Int),vn,ve].toArray 190:=bj
 refine bX [.tmp 2] 26 Tryz.func249 rfl ace rfl rfl ?_
 refine W ?_
 refine eH (λk:Nat=>[(0,.pointer (some ⟨b,0,none⟩))]) (λk w'=>aj [b] w w'∧aJ w' b [vt,.int .i64 (k:Int),vn,ve].toArray 190∧iz t5 E G w' b vt vn ve gn ge ag aK exprs∧n<=k∧bo cy ag k=bo cy ag n) (λk=>bo cy ag n+1-k) n rfl (⟨aj.refl _ _,bj,hS,lR _,rfl⟩) λgg w1 e1 hI=>?_
 obtain⟨hK,bj,hS,hk,hq⟩:=hI
 have hle:=(oa cy ag gg).1
 refine W ?_
 refine aA (iq (gg+1) gg om om w1) ?_
 rintro _ w2 ⟨rfl,az⟩
 have dy:=az.size
 refine cG az hK bj hS λhK bj hS=>?_
 refine gU rfl rfl rfl rfl (by have:=DY _ gg (lR _);simp;omega)<|W ?_
 refine fz (o:=1) p6 rfl rfl rfl bj rfl λw3 aH bj df=>?_
 have hS:=hS.aG aH sm
 have hK:=hK.trans aH
 refine W ?_
 refine aA (An ag om (cM cy gg) _ _ w3 hS.ta) ?_
 rintro _ w4 ⟨rfl,aO⟩
 have fG:=aO.size
 refine cG aO hK bj hS λhK bj hS=>?_
 refine km rfl rfl rfl<|aZ<|zc rfl (λh1=>?_) (λh1=>?_)
 have mF:cM cy gg∉ag:=(by simpa using h1)
 have GL:bo cy ag n=gg:=hq.symm.trans (R6 mF)
 refine W ?_
 exact⟨_,rfl,⟨by rw[GL];rfl,_,_,_,_,_,by rw[GL];exact bj,hS⟩,hK⟩
 have mF:cM cy gg∈ag:=(by simpa using h1)
 have hfs:=R5 mF
 have SK:=(oa cy ag (gg+1)).1
 refine WZ ?_
 exact⟨gg+1,rfl,⟨hK,bj,hS,om,om⟩,om⟩
section
variable {τ:xT} {E G:List Nat} {w w':World} {b:Nat} {vt vn ve:Value} {gn ge:Option Nat} {ag aK:List ai} {exprs:List au}
theorem iz.AF (h:iz τ E G w b vt vn ve gn ge ag aK exprs) {ys:List au} (hy:dD (ge.toList++(g.toList++(E++G))) w' τ.T 2 v g (cX ys)) (k:aj (b::ge.toList) w w') (hg:g=ge∨∃x,g=some x∧w.heap.size<=x):
  ∃G',iz τ E G' w' b vt vn v gn g ag aK ys∧Fr G w G' w'∧∀x,x∈G'->x∈ge.toList++(g.toList++(E++G)):=by
 obtain⟨a1,a2,a3,a4⟩:=h.apart
 have oX:∀x,x∈g.toList->x∈ge.toList∨w.heap.size<=x:=λx hx=>by
  rcases hg with rfl|⟨y,rfl,hy⟩
  ·exact .inl hx
  ·right;simp at hx;omega
 have nR:b∈G:=h.mem.2 (.inl rfl)
 have hF:Fr G w (b::(gn.toList++g.toList)) w':=⟨k.mono λx hx=>by
  rcases mC.1 hx with rfl|hx
  ·exact nR
  ·exact h.mem.2 (by simp[hx]),λx hx=>by
  rcases mC.1 hx with rfl|hx
  ·exact .inl nR
  ·rcases mA.1 hx with hx|hx
   ·exact .inl (h.mem.2 (by simp[hx]))
   ·rcases oX x hx with h1|h1
    ·exact .inl (h.mem.2 (by simp[h1]))
    ·exact .inr h1⟩
 have dR:∀x,x∈E++G->x<w.heap.size:=h.cD
 have hN:(E++b::(gn.toList++g.toList)).Nodup:=Td a1 a2 a3 (λx hx=>by
  rcases oX x hx with h1|h1
  ·exact a4 x h1
  ·exact⟨λhe=>by have:=dR x (by simp[he]);omega,λe=>by have:=dR x (mR _ (h.mem.2 (.inl e)));omega,λe=>by have:=dR x (mR _ (h.mem.2 (by simp[e])));omega⟩)
 have ry:∀x,x∈b::(gn.toList++g.toList)->x∈ge.toList++(g.toList++(E++G)):=λx hx=>by
  rw[mA,mA,mA]
  rcases mC.1 hx with rfl|hx
  ·exact .inr (.inr (.inr nR))
  ·rcases mA.1 hx with hx|hx
   ·exact .inr (.inr (.inr (h.mem.2 (by simp[hx]))))
   ·simp[hx]
 refine⟨_,⟨h.ta.go (hF.in E),h.na.aG k (λx hx hy=>?_),hy.sub λx hx=>.inl ?_,rfl,hN,λx hx=>?_⟩,hF,ry⟩
 ·rcases mC.1 hy with rfl|hy
  ·exact(a3 x (by simp[hx])).2 rfl
  ·exact(a4 x hy).2.2 (by simp[hx])
 ·rcases mA.1 hx with hx|hx
  ·simp[hx]
  ·exact ry x hx
 ·have hs:=k.size
  rcases mA.1 hx with hx|hx
  ·exact lL (h.cD x (by simp[hx])) hs
  ·rcases mC.1 hx with rfl|hx
   ·exact lL (h.cD x (mR _ nR)) hs
   ·rcases mA.1 hx with hx|hx
    ·exact lL (h.cD x (mR _ (h.mem.2 (by simp[hx])))) hs
    ·exact hy.lt x hx
theorem iz.alloc (h:iz τ E G w b vt vn ve gn ge ag aK exprs) (k:aj [] w w') (hz:w'.heap.size=w.heap.size+1):iz τ (w.heap.size::E) G w' b vt vn ve gn ge ag aK exprs:=by
 have hF:∀x,x∈(w.heap.size::E)++G->x∈E++G∨w.heap.size<=x:=λx hx=>by
  rcases mC.1 (show x∈w.heap.size::(E++G) from hx) with h1|h1
  ·right;omega
  ·exact .inl h1
 refine⟨(h.ta.fresh hF).ext k,h.na.ext k,(h.ex.sub hF).any k,h.eG,?_,λx hx=>?_⟩
 ·show(w.heap.size::(E++G)).Nodup
  rw[List.nodup_cons]
  exact⟨λhx=>by have:=h.cD _ hx;omega,h.nd⟩
 ·rcases mC.1 (show x∈w.heap.size::(E++G) from hx) with h1|h1
  ·omega
  ·have:=h.cD x h1;omega
theorem iz.aD (h:iz τ E G w b vt vn ve gn ge ag aK exprs) (k:aj [x] w w') (hx:x∈E):iz τ E G w' b vt vn ve gn ge ag aK exprs:=by
 obtain⟨a1,a2,a3,a4⟩:=h.apart
 have hF:Fr (E++G) w (E++G) w':=Fr.of k λy hy=>List.mem_append_left _ (by simp at hy;subst hy;exact hx)
 exact⟨h.ta.go hF,h.na.aG k (λy hy vJ=>(a3 y (by simp[hy])).1 (by simp at vJ;subst vJ;exact hx)),h.ex.aG hF k (λy hy vJ=>(a4 y hy).1 (by simp at vJ;subst vJ;exact hx)),h.eG,h.nd,λy hy=>lL (h.cD y hy) k.size⟩
theorem iz.drop (h:iz τ (x::E) G w b vt vn ve gn ge ag aK exprs):iz τ E G w b vt vn ve gn ge ag aK exprs:=
 ⟨h.ta.fresh λy hy=>.inl (mK _ hy),h.na,h.ex.sub λy hy=>.inl (mK _ hy),h.eG,(List.nodup_cons.1 (show(x::(E++G)).Nodup from h.nd)).2,λy hy=>h.cD y (mK _ hy)⟩
theorem M5.open (h:M5 τ E G w b ag n aK exprs):∃vt vn ve gn ge,aJ w b [vt,.int .i64 (n:Int),vn,ve].toArray τ.M∧iz τ E G w b vt vn ve gn ge ag aK exprs:=h
theorem M5.bG (h:M5 τ E G w b ag n aK exprs):b∈G∧b<w.heap.size∧eJ (E++G) w:=by
 obtain⟨_,_,_,_,_,h1,h2⟩:=h
 exact⟨h2.mem.2 (.inl rfl),h1.lt,h2.cD⟩
theorem M5.nE (h:M5 τ E G w b ag n aK exprs) (hx:x∈E):x∉G:=by
 obtain⟨_,_,_,_,_,_,h2⟩:=h
 have:=h2.nd
 rw[List.nodup_append] at this
 exact λhg=>this.2.2 x hx x hg rfl
theorem M5.alloc (h:M5 τ E G w b ag n aK exprs) (k:aj [] w w') (hz:w'.heap.size=w.heap.size+1):M5 τ (w.heap.size::E) G w' b ag n aK exprs:=by
 obtain⟨vt,vn,ve,gn,ge,h1,h2⟩:=h
 exact⟨vt,vn,ve,gn,ge,h1.ext k,h2.alloc k hz⟩
theorem M5.aD (h:M5 τ E G w b ag n aK exprs) (k:aj [x] w w') (hx:x∈E):M5 τ E G w' b ag n aK exprs:=by
 obtain⟨vt,vn,ve,gn,ge,h1,h2⟩:=h
 exact⟨vt,vn,ve,gn,ge,h1.aG k (by simp;intro e;subst e;exact h2.apart.2.1 hx),h2.aD k hx⟩
theorem M5.drop (h:M5 τ (x::E) G w b ag n aK exprs):M5 τ E G w b ag n aK exprs:=by
 obtain⟨vt,vn,ve,gn,ge,h1,h2⟩:=h
 exact⟨vt,vn,ve,gn,ge,h1,h2.drop⟩
end
theorem dD.form {T:TypeId} {sz:Nat} {rows:List (List C)} (h:dD L w T sz v g rows) (hp:0<rows.length):∃b cap,v= .slice (some ⟨b,0,none⟩) rows.length cap∧g=some b:=by
 obtain⟨xs,hx,_⟩:=h.own
 rcases hx.2 with⟨_,h0,_⟩|⟨b,cap,_,e,hv,_⟩
 ·omega
 ·exact⟨b,cap,hv,e⟩
theorem dD.NF {T:TypeId} {i:Nat} {ts:List au} (h:dD L w T 2 (.slice (some ⟨b,0,none⟩) n c) g (cX ts)) (hi:i<ts.length):
  ∃pa pc,fQ w b (0+i*2) [str (nth ts i).aw,.slice pa (nth ts i).ak.length pc]∧bC L w (.agg #[str (nth ts i).aw,.slice pa (nth ts i).ak.length pc]) (nth ts i):=by
 obtain⟨xs,dA,gD⟩:=h.own
 rcases dA.2 with⟨h0,_⟩|⟨b',cap,cur,e,hv,hb,mn,lT,bY,ht⟩
 ·cases h0
 ·cases hv
  have gY:=h.row
  have hlen:xs.length=(cX ts).length*2:=dA.1
  have jh:∀j,j<2->∀u,xs[i*2+j]?=some u->w.cell? ⟨b,i*2+j,none⟩=some u:=λj hj u hu=>by
   rw[hb.cell]
   rw[<-ht,List.getElem?_take] at hu
   split at hu
   ·simpa using hu
   ·cases hu
  have lK:i<(cX ts).length:=by rw[gZ];exact hi
  obtain⟨u0,h0⟩:∃u,xs[i*2]?=some u:=⟨xs[i*2]'om,gE om⟩
  obtain⟨u1,h1⟩:∃u,xs[i*2+1]?=some u:=⟨xs[i*2+1]'om,gE om⟩
  have hr:cW L w [u0,u1] (nth ts i).enc:=by
   have iw:=oG (nth ts i)
   refine cW.of (by rw[iw];rfl) λj v c hv hc=>?_
   have oW:(cX ts).flatten[i*2+j]?=some c:=E4 gY (K7 (fK hi)) hc
   refine gD.get ?_ oW
   match j,hv with
   |0,hv=>simp at hv;subst hv;exact h0
   |1,hv=>simp at hv;subst hv;exact h1
  obtain⟨pa,pn,pc,he,hn,hp⟩:=dj (t:=nth ts i) ⟨[u0,u1],rfl,hr⟩
  have fl:[u0,u1]=[str (nth ts i).aw,.slice pa pn pc]:=by
   have:=congrArg (λv=>match v with|Value.agg x=>x.toList|_=>[]) he
   simpa using this
  subst hn
  simp only[List.cons.injEq,and_true] at fl
  obtain⟨e0,e1⟩:=fl
  subst e0 e1
  refine⟨pa,pc,λj v hj=>?_,lW hp⟩
  match j,hj with
  |0,hj=>simp at hj;subst hj;have:=jh 0 om _ h0;simpa using this
  |1,hj=>simp at hj;subst hj;have:=jh 1 om _ h1;simpa using this
theorem cz.NF {T:TypeId} {i:Nat} (h:cz w T (.slice (some ⟨b,0,none⟩) n c) g xs) (hi:i<xs.length):fQ w b (0+i*1) [str (cv xs i)]:=by
 obtain⟨b1,eR,e1,hc⟩:=mu h.rs (jN hi)
 cases e1
 exact hc
theorem cz.UW {T:TypeId} (h:cz w T v g xs) (hp:0<xs.length):∃b cap,v= .slice (some ⟨b,0,none⟩) xs.length cap∧g=some b:=by cases h.2<;>grind
def UX:Value->Nat->Value
 | .slice (some ⟨b,o,none⟩) _ _,k=>.pointer (some ⟨b,o+k,none⟩)
 |_,_=>undef
section
variable {P:Program} {n:Nat} {ops:Array Oper} {K:Env->World->Prop} {rest:List Oper} {e:Env} {w:World} {dst:Option Nat} {ty:TypeId} {pos:String} {after:Array Edge} {g:Option (Nat×Bool)} {x y:Operand}
theorem rM {t E bytes:Nat} {z:Value} {v:Value} {gb:Option Nat} {xs:List ai} {s:ai} {b U:Nat} (hT:P.underlying t=some (.slice E)) (hE:TI P E 1 bytes z) (hg:gate ops e g=true) (hd:cm n dst=true) (hz:Nat.beq z.cells.size 1=true) (gj:Nat.ble bytes 1000=true) 
  (hx:ev e x=v) (hy:ev e y= .slice (some ⟨b,0,none⟩) 1 1) (hO:cz w E v gb xs) (hb:aJ w b [str s].toArray U) (hn:xs.length<100000000)
  (k:∀v' g' w',cz w' E v' g' (xs++[s])->aj gb.toList w w'->(g'=gb∨g'=some w.heap.size)->OW P n ops K rest (bQ e dst v') w'):
  OW P n ops K (⟨dst,.call {callee:=.builtin .append,args:=#[x,y],argTypes:=#[t,t]},ty,pos,after,g⟩::rest) e w:=by
 refine B0 (L:=[]) (row:=[.val (str s)]) hT hE hg hd hz gj hx hy (hO.Ta _) rfl hb.all (by simp[Value.oneCell']) ⟨.val _,trivial⟩ (by rw[qB];exact hn) ?_
 intro v' g' w' jO hk ky
 rw[Tb] at jO
 exact k v' g' w' jO.se hk.aG ky
theorem UY {G:List Nat} {t E bytes:Nat} {z:Value} {v:Value} {gb:Option Nat} {ts:List au} {b:Nat} {U c:Nat} (hT:P.underlying t=some (.slice E)) (hE:TI P E 2 bytes z) (hg:gate ops e g=true) (hd:cm n dst=true) (hz:Nat.beq z.cells.size 2=true) (gj:Nat.ble bytes 1000=true) 
  (hx:ev e x=v) (hy:ev e y= .slice (some ⟨b,0,none⟩) 1 c) (hO:dD G w E 2 v gb (cX ts)) (hG:eJ G w) (oe:∀q,q∈gb.toList->q∈G) (hb:aJ w b [str [],.slice none 0 0].toArray U) (hn:ts.length<100000000)
  (k:∀v' g' w',dD (gb.toList++(g'.toList++G)) w' E 2 v' g' (cX (ts++[.mk [] []]))->aj gb.toList w w'->(g'=gb∨g'=some w.heap.size)->Fr G w (gb.toList++(g'.toList++G)) w'->eJ (gb.toList++(g'.toList++G)) w'->OW P n ops K rest (bQ e dst v') w'):
  OW P n ops K (⟨dst,.call {callee:=.builtin .append,args:=#[x,y],argTypes:=#[t,t]},ty,pos,after,g⟩::rest) e w:=by
 refine B0 (L:=G) (row:=(au.mk [] []).enc) hT hE hg hd hz gj hx hy (hO.sub λq hq=>.inl ?_) (oG _) hb.all (by simp[Value.oneCell']) (bC.ko (kW oH)) (by rw[gZ];exact hn) ?_
 ·rcases mA.1 hq with h|h
  ·exact oe q h
  ·exact h
 ·intro v' g' w' jO hk ky
  have e1:cX ts++[(au.mk [] []).enc]=cX (ts++[.mk [] []]):=by rw[K6];rfl
  rw[e1] at jO
  have oX:∀q,q∈g'.toList->q∈gb.toList∨w.heap.size<=q:=λq hq=>by
   rcases ky with h|h
   ·rw[h] at hq;exact .inl hq
   ·rw[h] at hq;simp at hq;right;omega
  refine k v' g' w' jO hk.aG ky ⟨hk.aG.mono oe,λq hq=>?_⟩ λq hq=>?_
  ·rcases mA.1 hq with h|h
   ·exact .inl (oe q h)
   ·rcases mA.1 h with h|h
    ·rcases oX q h with h|h
     ·exact .inl (oe q h)
     ·exact .inr h
    ·exact .inl h
  ·have hs:=hk.aG.size
   rcases mA.1 hq with h|h
   ·exact lL (hG q (oe q h)) hs
   ·rcases mA.1 h with h|h
    ·exact jO.lt q h
    ·exact lL (hG q h) hs
end
structure J5 (τ:xT) (E G2:List Nat) (w0:World) (b:Nat) (vt n vn ve:Value) (ge:Option Nat) (exprs:List au) (s:au) (b9 Cm:Bool) (G:List Nat) (v:Value) (w:World):Prop where
 box:aJ w b [vt,n,vn,if Cm=true then v else ve].toArray τ.M
 cD:eJ G w
 aG:aj (b::ge.toList) w0 w
 ex:∃g',G=ge.toList++(g'.toList++(E++G2))∧dD G w τ.T 2 v g' (cX (exprs++[if b9=true then s else .mk [] []]))∧(g'=ge∨∃x,g'=some x∧w0.heap.size<=x)
section
variable {τ:xT} {E G2:List Nat} {w0 w w':World} {b:Nat} {vt n vn ve:Value} {ge:Option Nat} {exprs:List au} {s:au} {b9 Cm:Bool} {G:List Nat} {v:Value}
theorem J5.ext (h:J5 τ E G2 w0 b vt n vn ve ge exprs s b9 Cm G v w) (k:aj [] w w'):J5 τ E G2 w0 b vt n vn ve ge exprs s b9 Cm G v w':=
 ⟨h.box.ext k,λx hx=>lL (h.cD x hx) k.size,h.aG.ext k,let⟨g',h1,h2,h3⟩:=h.ex;⟨g',h1,h2.any k,h3⟩⟩
theorem J5.form (h:J5 τ E G2 w0 b vt n vn ve ge exprs s b9 Cm G v w):∃bb cap,v= .slice (some ⟨bb,0,none⟩) (exprs.length+1) cap∧(bb∈G)∧(bb∈ge.toList∨w0.heap.size<=bb)∧G=ge.toList++([bb]++(E++G2))∧dD G w τ.T 2 v (some bb) (cX (exprs++[if b9=true then s else .mk [] []]))∧(some bb=ge∨∃x,some bb=some x∧w0.heap.size<=x):=by
 obtain⟨g',h1,h2,h3⟩:=h.ex
 obtain⟨bb,cap,e1,e2⟩:=h2.form (by rw[gZ];simp)
 subst e2
 refine⟨bb,cap,by rw[e1,gZ];simp,by rw[h1];simp,?_,h1,h2,h3⟩
 rcases h3 with h|⟨x,h,hx⟩
 ·left;rw[<-h];simp
 ·cases h;exact .inr hx
theorem J5.fill {bb:Nat} (h:J5 τ E G2 w0 b vt n vn ve ge exprs s false Cm G v w) (hG:G=ge.toList++([bb]++(E++G2))) (hb:b≠bb) (fH:bb∈ge.toList∨w0.heap.size<=bb) (hg:some bb=ge∨∃x,some bb=some x∧w0.heap.size<=x) (k:aj [bb] w w') (ho:dD G w' τ.T 2 v (some bb) (cX (exprs++[s]))):J5 τ E G2 w0 b vt n vn ve ge exprs s true Cm G v w':=
 ⟨h.box.aG k (by simpa using hb),λx hx=>lL (h.cD x hx) k.size,h.aG.since k (λx hx=>by
  simp at hx;subst hx
  rcases fH with h|h
  ·exact .inl (by simp only[mC];right;exact h)
  ·exact .inr h),some bb,hG,by simpa using ho,hg⟩
theorem J5.field (h:J5 τ E G2 w0 b vt n vn ve ge exprs s b9 false G v w) (k:aj [b] w w') (hb:aJ w' b [vt,n,vn,v].toArray τ.M) (ho:∀g',dD G w τ.T 2 v g' (cX (exprs++[if b9=true then s else .mk [] []]))->(g'=ge∨∃x,g'=some x∧w0.heap.size<=x)->b∉g'.toList) (nR:b∈G):J5 τ E G2 w0 b vt n vn ve ge exprs s b9 true G v w':=
 ⟨by simpa using hb,λx hx=>lL (h.cD x hx) k.size,h.aG.since k (λx hx=>by simp at hx;subst hx;exact .inl sm),let⟨g',h1,h2,h3⟩:=h.ex;⟨g',h1,h2.aG (Fr.of k (by simpa using nR)) k (λx hx hy=>by simp at hy;subst hy;exact ho g' h2 h3 hx),h3⟩⟩
end
def yn (ag:List ai) (e:Ex) (n:Nat) (aK:List ai) (exprs:List au):Prop:=n+e.n*(2*(ag.length+2))<=100000∧aK.length+4*e.n<=100000∧exprs.length+4*e.n<=100000∧ag.length<=10000
def JG (ag:List ai) (E G:List Nat) (b:Nat) (aK:List ai) (exprs:List au) (w:World) (q:Bs×Ex×Nat) (r:Value) (w':World):Prop:=
 ∃G',(bC (E++G') w' r q.2.1.aq∧M5 t5 E G' w' b ag q.2.2 (aK++q.1.map Prod.fst) (exprs++q.1.map λp=>p.2.aq))∧Fr G w G' w'
def NH (e:Ex):Prop:=∀(ag:List ai) (n:Nat) (aK:List ai) (exprs:List au),yn ag e n aK exprs->∀(E G:List Nat) (b:Nat) (v:Value) (w:World),M5 t5 E G w b ag n aK exprs->bC (E++G) w v e.aq->
 bz Tryz.prog 218 [.pointer (some ⟨b,0,none⟩),v] w (JG ag E G b aK exprs w (aY ag e n))
def agp (e:Ex):Prop:=∀(ag:List ai) (n:Nat) (aK:List ai) (exprs:List au),yn ag e n aK exprs->∀(E G:List Nat) (b:Nat) (v:Value) (w:World),M5 t5 E G w b ag n aK exprs->bC (E++G) w v e.aq->
 bz Tryz.prog 242 [.pointer (some ⟨b,0,none⟩),v] w (JG ag E G b aK exprs w (dz ag (aY ag e n)))
theorem NI {ag:List ai}:∀{e:Ex} {n:Nat} {s:ai},e.ok->(aY ag e n).2.1= .at s->s≠[]
 | .at x,n,s,h,e=>by
  have:Ex.at x=Ex.at s:=e
  cases this
  exact pz h
 | .lt x a b,n,s,h,e=>NI (e:=b) h.2.2 e
 | .un ..,n,s,h,e=>by cases e
 | .bi ..,n,s,h,e=>by cases e
 | .ite ..,n,s,h,e=>by cases e
 | .fn ..,n,s,h,e=>by cases e
theorem UZ {f:Ex} (h:∀s,f= .at s->s≠[]):f.aq.aw≠[]↔f.iv=true:=by
 cases f with
 |«at» s=>exact⟨λ_=>rfl,λ_=>h s rfl⟩
 |_=>exact⟨λhh=>absurd rfl hh,λhh=>by cases hh⟩
theorem JH (ag:List ai) (e:Ex) (n:Nat):(aY ag e n).1.length+1<=2*e.n:=by
 have h1:=uF ag e n
 have h2:∀bs:Bs,3*bs.length<=pD bs:=by
  intro bs
  induction bs with
  |nil=>simp[pD]
  |cons p bs ih=>rw[Sg];have:=p.2.pos;simp only[lC];omega
 have h3:=h2 (aY ag e n).1
 have h4:=(aY ag e n).2.1.pos
 omega
theorem U0 (ba:e.ok) (hC:NH e):agp e:=by
 intro ag n aK exprs hB E G b v w hM hv
 have dd:=hv
 obtain⟨a,np,c,rfl,hn,aQ⟩:=dj hv
 obtain⟨I7,NJ,NK,JI⟩:=hB
 have JJ:=ic ag e n
 have NL:=JH ag e n
 have hK:=aj.refl [] w
 have av:=hM
 have hT:=dd
 obtain⟨q,hq⟩:∃q,q=aY ag e n:=⟨_,rfl⟩
 rw[<-hq] at JJ NL
 refine jr [.cell 4 74] 39 Tryz.func242 rfl aca rfl rfl rfl ?_
 refine zr<|eu rfl λw1 aI cF db=>cG aI hK av hT λhK av hT=>?_
 refine dk aL rfl rfl rfl λw2 az aF dJ=>?_
 have hK:=hK.grow;have hK:=hK.ext az;have av:=av.alloc az dJ;have hT:=hT.grow;have hT:=hT.ext az;have cF:=cF.grow;have cF:=cF.ext az
 refine W ?_
 refine aA (hC ag n aK exprs ⟨I7,NJ,NK,JI⟩ (w1.heap.size::E) G b _ w2 av hT) ?_
 rintro v9 w3 ⟨G1,⟨dv,qp⟩,cR⟩
 rw[<-hq] at dv qp
 obtain⟨a9,n9,c9,e9,_,_⟩:=dj dv
 subst e9
 have aF:=aF.aG cR.aG (av.nE sm)
 have U1:=aF.lt
 have hR:Fr G w G1 w3:=(Fr.of hK sm).go cR
 have AG:=aj.refl [] w3
 have av:=qp
 have hws:=hR.aG.size
 refine dk aL rfl rfl rfl λw4 aO cN gC=>?_
 have av:=av.alloc aO gC;have aF:=aF.grow;have aF:=aF.ext aO;have AG:=AG.grow;have AG:=AG.ext aO;have dv:=dv.grow;have dv:=dv.ext aO
 refine cw aL rfl rfl rfl cN rfl λw5 aP cN iI=>?_
 have av:=av.aD aP sx;have aF:=aF.aD aP sx;have AG:=AG.aD aP sx;have dv:=dv.aD aP sx
 refine W ?_
 refine zc rfl (λh1=>?_) (λh1=>?_)
 have eD:q.2.1.iv=true:=((UZ (λs e=>NI ba (by rw[<-hq];exact e))).1 h1)
 have NM:dz ag q=q:=iP eD
 have hR:=hR.ext AG
 refine W ?_
 refine cw aL rfl rfl rfl aF rfl λw6 bO aF df=>?_
 have av:=av.aD bO sm;have dv:=dv.aD bO sm
 have hR:Fr G w G1 w6:=⟨hR.aG.since bO (λx hx=>.inr (by simp at hx;omega)),hR.mem⟩
 refine W ?_
 exact⟨[_],fb eQ aL rfl aF rfl,by rw[<-hq,NM];exact⟨G1,⟨dv.iF (λx hx=>mK _ (mK _ hx)),av.drop.drop⟩,hR⟩⟩
 have eD:¬q.2.1.iv=true:=(λhh=>h1 ((UZ (λs e=>NI ba (by rw[<-hq];exact e))).2 hh))
 have NM:dz ag q=(q.1++[(cM cy (bo cy ag q.2.2),q.2.1)],.at (cM cy (bo cy ag q.2.2)),bo cy ag q.2.2+1):=iN eD
 have hR:=hR.ext AG
 have aX:∃nm,nm=cM cy (bo cy ag q.2.2):=⟨_,rfl⟩
 obtain⟨nm,fS⟩:=aX
 have aX:∃x,x=aK++q.1.map Prod.fst:=⟨_,rfl⟩
 obtain⟨N1,Cn⟩:=aX
 have aX:∃x,x=exprs++q.1.map λp=>p.2.aq:=⟨_,rfl⟩
 obtain⟨X1,Co⟩:=aX
 rw[<-Cn,<-Co] at av
 have U2:N1.length=aK.length+q.1.length:=by rw[Cn];simp
 have hXl:X1.length=exprs.length+q.1.length:=by rw[Co];simp
 refine gz<|zr<|zm<|aA (ago ag q.2.2 om JI b _ G1 N1 X1 w5 av) ?_
 rintro AH w6 ⟨⟨Em,qp⟩,jg⟩
 rw[<-fS] at Em
 subst Em
 have nR:=qp.bG
 have U3:=qp.nE (x:=w1.heap.size) sm
 have dv:=dv.aD jg (by intro x hx;simp at hx;subst hx;simp[nR.1])
 have aF:=aF.aG jg (by simp;intro e;subst e;exact U3 nR.1)
 have JK:=qp.nE (List.mem_cons_self ..)
 have cN:=cN.aG jg (by simp;intro e;exact JK (e▸nR.1))
 have hR:=hR.aD jg (by simpa using nR.1)
 obtain⟨vt,vn,ve,gn,ge,bj,hS⟩:=qp.open
 refine W ?_
 refine fF bh bf rfl rfl λw7 bV tS oT=>sB bV aF dv cN bj hS hR λaF dv cN bj hS hR=>?_
 refine rM bh bf rfl rfl rfl rfl rfl rfl hS.na tS om λU4 g23 w8 U5 cA agr=>?_
 obtain⟨o4,o5,GW⟩:=jw U5
 subst GW
 obtain⟨JL,wA,wG,sN⟩:=hS.apart
 obtain⟨G2,fx,jo⟩:=hS.Te U5 cA agr
 have bj:=bj.aG cA (λh=>(wG b h).2 rfl)
 have aF:=aF.aG cA (λh=>(wG _ h).1 sm)
 have cN:=cN.aG cA (λh=>(wG _ h).1 sm)
 have dv:bC ((w3.heap.size::w1.heap.size::E)++G2) w8 _ q.2.1.aq:=bC.go (L:=(w3.heap.size::w1.heap.size::E)++G1) dv (jo.in _)
 have hR:=hR.go jo
 have wH:b∈G2:=fx.mem.2 (.inl rfl)
 refine W ?_
 refine fz (o:=2) kz rfl rfl rfl bj rfl λw9 aC bj df=>?_
 have hS:=fx.aG aC sm
 have aF:=aF.aG aC (by simp;intro e;subst e;exact wA sm)
 have cN:=cN.aG aC (by simp;intro e;exact wA (by simp[e]))
 have dv:=dv.aD aC (by intro x hx;simp at hx;subst hx;simp[wH]);have hR:=hR.aD aC (by simpa using wH)
 have ags:=(List.nodup_cons.1 (show(w3.heap.size::((w1.heap.size::E)++G2)).Nodup from hS.nd)).1
 have hS:=hS.drop
 have dv:bC ((w1.heap.size::E)++G2) w9 _ q.2.1.aq:=dv.iF (λx hx=>mK _ hx)
 refine W ?_
 obtain⟨ae,ce,e5⟩:=hS.ex.len
 subst e5
 have cN:dL ((w1.heap.size::E)++G2) w9 _ _ _:=⟨cN,ags⟩
 have bj:aJ w9 b [vt,(.int .i64 ((bo cy ag q.2.2+1:Nat):Int)),(.slice o4 (N1++[nm]).length o5),(.slice ae (cX X1).length ce)].toArray 190:=bj
 have Cp:eJ ((w1.heap.size::E)++G2) w9:=hS.cD
 have dU:b∈G2:=wH
 obtain⟨JL,wA,wG,sN⟩:=hS.apart
 have ig:=bj.lt
 apply SA cT (((w1.heap.size::E)++G2)) 13 (rA 26 9++[100009,35,36,100012]) (rA 26 9++[100009,35,36,100012]) [[],[0],[1],[2],[],[3],[],[3,6],[5,7],[4,8],[0],[10],[7,11]] [Iu.v _,Iu.v _,Iu.v _,Iu.w 0 ((.slice ae (cX X1).length ce)),Iu.v _,Iu.v _,Iu.p (fun(G:List Nat) (v:Value) (ww:World)=>∃bb,v= .slice (some ⟨bb,0,none⟩) 1 1∧dL G ww bb [str [],.slice none 0 0].toArray 74),Iu.e 1,Iu.d (fun(vs:List Value)=>UX (vs.getD 1 undef) ((cX X1).length*2)),Iu.u,Iu.v _,Iu.v _,Iu.u] [3,7] [fun(G:List Nat) (vs:List Value) (ww:World)=>G=((w1.heap.size::E)++G2)∧aJ ww b [vt,(.int .i64 ((bo cy ag q.2.2+1:Nat):Int)),(.slice o4 (N1++[nm]).length o5),(.slice ae (cX X1).length ce)].toArray 190∧aj [] w9 ww,fun(G:List Nat) (vs:List Value) (ww:World)=>G=((w1.heap.size::E)++G2)∧aJ ww b [vt,(.int .i64 ((bo cy ag q.2.2+1:Nat):Int)),(.slice o4 (N1++[nm]).length o5),(.slice ae (cX X1).length ce)].toArray 190∧aj [] w9 ww,fun(G:List Nat) (vs:List Value) (ww:World)=>J5 t5 (w1.heap.size::E) G2 w9 b vt (.int .i64 ((bo cy ag q.2.2+1:Nat):Int)) (.slice o4 (N1++[nm]).length o5) (.slice ae (cX X1).length ce) ge X1 q.2.1.aq false false G (vs.getD 1 undef) ww] (fun(S:Nat->Bool) (G:List Nat) (vs:List Value) (ww:World)=>J5 t5 (w1.heap.size::E) G2 w9 b vt (.int .i64 ((bo cy ag q.2.2+1:Nat):Int)) (.slice o4 (N1++[nm]).length o5) (.slice ae (cX X1).length ce) ge X1 q.2.1.aq (S 9) (S 12) G (vs.getD 1 undef) ww) de rfl Cp (by exact⟨λG v w G' w' ⟨bb,e,h⟩ k=>⟨bb,e,h.go k⟩,trivial⟩) (by exact⟨λG vs w w' ⟨h1,h2,h3⟩ k=>⟨h1,h2.ext k,h3.ext k⟩,λG vs w w' ⟨h1,h2,h3⟩ k=>⟨h1,h2.ext k,h3.ext k⟩,λG vs w w' h k=>h.ext k,trivial⟩) (by exact λS G vs w w' h k=>h.ext k) (⟨rfl,bj,aj.refl _ _⟩) (by exact λ_ _ _ h _=>h)
 refine uf (λx bZ mV aR pS ma=>?_) ?_
 refine WZ ?_
 exact uv
 refine uf (λx bZ mV aR pS ma=>?_) ?_
 refine WZ ?_
 exact uv
 refine uf (λx bZ mV aR pS ma=>?_) ?_
 refine WZ ?_
 exact uv
 refine ue 0 (λx bZ mV aR pS ma hJ hlen=>?_) ?_
 have aV:=jj hlen
 subst aV
 obtain⟨bP,bj,bS⟩:=hJ
 refine WZ ?_
 exact uW mV (Fr.refl _ _) ma (⟨bP,bj,bS⟩)
 refine uf (λx bZ mV aR pS ma=>?_) ?_
 have cN:=cN.go pS
 refine WZ ?_
 exact uv
 refine uf (λx bZ mV aR pS ma=>?_) ?_
 refine WZ ?_
 exact uv
 refine uf (λx bZ mV aR pS ma=>?_) ?_
 refine fF cB aL rfl rfl λey cS agt rC=>?_
 exact up cS (⟨_,rfl,agt.o ma⟩)
 refine ue 1 (λx bZ mV aR pS ma hJ hlen=>?_) ?_
 obtain⟨q0,aV⟩:=jk hlen
 subst aV
 intro v6 d6
 obtain⟨bb,e6,fH⟩:=d6
 subst e6
 obtain⟨bP,bj,bS⟩:=hJ
 subst bP
 refine UY cB aL rfl rfl rfl rfl rfl rfl (hS.ext bS).ex ‹_› (λx hx=>mR _ (hS.mem.2 (by simp[hx]))) fH.gX om λv9 g9 ey cO aC eA cR et=>?_
 exact uE _ cR et (⟨bj.aG aC (λh=>(sN b h).2.1 rfl),et,bS.any.trans (aC.mono (λx hx=>mK _ hx)),g9,rfl,cO,eA.imp id (λh=>⟨_,h,bS.size⟩)⟩)
 refine ud (λx bZ mV aR S pS ma hJ hlen=>?_) ?_
 obtain⟨q0,q1,aV⟩:=k8 hlen
 subst aV
 obtain⟨bb,cap,e1,rN,rv,jV,hO,uP⟩:=J5.form hJ
 have e2:q1=_:=e1
 subst e2
 refine zi cB aL rfl rfl (by rw[gZ];omega) ?_
 exact uD (aj.refl _ _) rfl
 refine uu (λx bZ mV aR S pS ma hJ Cq hlen=>?_) ?_
 obtain⟨q0,q1,aV⟩:=k8 hlen
 subst aV
 have dv:=dv.go pS
 have hJ:J5 t5 (w1.heap.size::E) G2 w9 b vt (.int .i64 ((bo cy ag q.2.2+1:Nat):Int)) (.slice o4 (N1++[nm]).length o5) (.slice ae (cX X1).length ce) ge X1 q.2.1.aq (S 9) (S 12) mV q1 bZ:=hJ
 rw[Cq] at hJ
 obtain⟨bb,cap,e1,rN,rv,jV,hO,uP⟩:=J5.form hJ
 subst e1
 refine sJ (i:=(cX X1).length) (vs:=[str q.2.1.aq.aw,.slice a9 n9 c9]) (row:=q.2.1.aq.enc) aL rfl rfl rfl rfl (Nat.zero_add _) hO ‹_› rN (by rw[gZ,gZ];simp) rfl (oG _) dv.ko λey cS rJ dA=>?_
 rw[sL,gZ] at dA
 exact uU mV (Fr.of cS (by simpa using rN)) ((λx hx=>lL (ma x hx) (aj.size cS))) (J5.fill hJ jV (by rintro rfl;rcases rv with h|h;(·exact(sN _ h).2.1 rfl);(·omega)) rv uP cS (by have e3:(X1++[if false=true then q.2.1.aq else au.mk [] []]).set X1.length q.2.1.aq=X1++[q.2.1.aq]:=sm;rw[e3] at dA;exact dA))
 refine uf (λx bZ mV aR pS ma=>?_) ?_
 refine WZ ?_
 exact uv
 refine uf (λx bZ mV aR pS ma=>?_) ?_
 refine WZ ?_
 exact uv
 refine uu (λx bZ mV aR S pS ma hJ Cq hlen=>?_) ?_
 obtain⟨q0,q1,aV⟩:=k8 hlen
 subst aV
 have hJ:J5 t5 (w1.heap.size::E) G2 w9 b vt (.int .i64 ((bo cy ag q.2.2+1:Nat):Int)) (.slice o4 (N1++[nm]).length o5) (.slice ae (cX X1).length ce) ge X1 q.2.1.aq (S 9) (S 12) mV q1 bZ:=hJ
 rw[Cq] at hJ
 obtain⟨bb,cap,e1,rN,rv,GX,hO,uP⟩:=J5.form hJ
 subst e1
 have NN:=hJ.box
 refine fz (o:=3) DE rfl rfl rfl NN rfl λey cS Cr rJ=>?_
 exact uU mV (Fr.of cS (by rw[GX];simp[dU])) ((λx hx=>lL (ma x hx) (aj.size cS))) (J5.field hJ cS Cr (λg9 _ eA hx=>by rcases eA with h|⟨y,h,hy⟩;(·rw[h] at hx;exact(sN _ hx).2.1 rfl);(·rw[h] at hx;simp at hx;omega)) (by rw[GX];simp[dU]))
 exact trivial
 intro x oz Jz aR yi UK hJ hlen
 obtain⟨q0,q1,aV⟩:=k8 hlen
 subst aV
 intro v6 d6
 intro v9
 intro v12
 change OW _ _ _ _ [] (bm (bg _ x _) (zZ 26 [_,_,_,_,_,_,_,_,_]++[(100009,_),(35,_),(36,_),(100012,_)])) _
 have hJ:J5 t5 (w1.heap.size::E) G2 w9 b vt (.int .i64 ((bo cy ag q.2.2+1:Nat):Int)) (.slice o4 (N1++[nm]).length o5) (.slice ae (cX X1).length ce) ge X1 q.2.1.aq true true Jz q1 oz:=hJ
 obtain⟨g9,jV,cO,eA⟩:=hJ.ex
 subst jV
 obtain⟨G3,yo,jn,U6⟩:=hS.AF cO hJ.aG eA
 have aF:=aF.aG hJ.aG (by intro hx;rcases mC.1 hx with h|h;(·exact wA (by simp[h]));(·exact(sN _ h).1 sm))
 have hR:=hR.go jn
 have bj:=hJ.box
 have yo:=yo
 refine aZ<|zr<|zm<|aA (Ao nm oz) ?_
 rintro _ oC ⟨rfl,lJ⟩
 have aoH:=lJ.size
 refine gQ lJ aF yo bj hR λaF yo bj hR=>?_
 refine cw aL rfl rfl rfl aF rfl λld kQ aF df=>?_
 have bj:=bj.aG kQ (by simp;intro e;exact wA (by simp[e]))
 have yo:=yo.aD kQ sm
 have hR:Fr G w G3 ld:=⟨hR.aG.since kQ (λx hx=>.inr (by simp at hx;omega)),hR.mem⟩
 refine W ?_
 exact⟨[_],fb eQ aL rfl aF rfl,by rw[<-hq,NM];exact⟨G3,⟨(by rw[fS];exact kW oH),(by have e1:aK++(q.1++[(cM cy (bo cy ag q.2.2),q.2.1)]).map Prod.fst=N1++[nm]:=(by rw[Cn,fS];simp);have e2:exprs++(q.1++[(cM cy (bo cy ag q.2.2),q.2.1)]).map (λp=>p.2.aq)=X1++[q.2.1.aq]:=(by rw[Co];simp);show M5 t5 E G3 _ b ag _ (aK++(q.1++[(cM cy (bo cy ag q.2.2),q.2.1)]).map Prod.fst) (exprs++(q.1++[(cM cy (bo cy ag q.2.2),q.2.1)]).map (λp=>p.2.aq));rw[e1,e2];exact⟨_,_,_,_,_,bj,yo.drop⟩)⟩,hR⟩⟩
theorem agu (v:Value) (a:Option Addr) (n c:Nat) (hv:v= .slice a n c) (w:World):bz Tryz.prog 219 [v] w λr w'=>r= .agg #[str [],.slice a n c]∧aj [] w w':=by
 subst hv
 have hK:=aj.refl [] w
 refine jr [.cell 2 74] 5 Tryz.func219 rfl abX rfl rfl rfl ?_
 refine zr<|dk aL rfl rfl rfl λw1 aI aN db=>?_
 have hK:=hK.grow;have hK:=hK.ext aI
 refine aZ<|zr<|zm<|iO (LK _ _ _ _) rfl rfl<|cw aL rfl rfl rfl aN rfl λw2 az aN dJ=>?_
 have hK:=hK.aD az sx
 refine W ?_
 exact⟨[_],fb eQ aL rfl aN rfl,rfl,hK⟩
def agv (e:Ex):Prop:=∀(ag:List ai) (n:Nat) (aK:List ai) (exprs:List au),yn ag e n [] []->∀(E G:List Nat) (b:Nat) (v:Value) (w:World),M5 t5 E G w b ag n aK exprs->bC (E++G) w v e.aq->
 bz Tryz.prog 181 [.pointer (some ⟨b,0,none⟩),v] w λr w'=>(bC (E++G) w' r (my ag e n).aq∧M5 t5 E G w' b ag (aY ag e n).2.2 aK exprs)∧Fr G w G w'
theorem agw {bs:Bs} (h:k<bs.length):(nest (bs.drop k) e).aq= .mk [] [bL fV,bL (bs.getD k ([],e)).1,(bs.getD k ([],e)).2.aq,(nest (bs.drop (k+1)) e).aq]:=by
 rw[List.drop_eq_getElem_cons h]
 have e1:bs.getD k ([],e)=bs[k]:=by simp[h]
 rw[e1];rfl
theorem agx {e:Ex} (h:k<bs.length):cv (bs.map Prod.fst) k=(bs.getD k ([],e)).1:=by simp[cv,List.getD,h]
theorem agy {e:Ex} (h:k<bs.length):nth (bs.map λp=>p.2.aq) k=(bs.getD k ([],e)).2.aq:=by simp[nth,List.getD,h]
theorem agz {T:TypeId} {u1 u2 u3 u4 u5 u6 u7 u8:Value} {t1 t2 t3 t4:au} (hb:aJ w b [u1,u2,u3,u4,u5,u6,u7,u8].toArray T) (hL:b∉L) (h1:bC L w (.agg #[u1,u2]) t1) (h2:bC L w (.agg #[u3,u4]) t2) (h3:bC L w (.agg #[u5,u6]) t3) (h4:bC L w (.agg #[u7,u8]) t4):
  ek L w (.slice (some ⟨b,0,none⟩) 4 4) [t1,t2,t3,t4]:=by
 have hc:=hb.all
 refine Yk b 0 4 2 (cX [t1,t2,t3,t4]) [[u1,u2],[u3,u4],[u5,u6],[u7,u8]] rfl (lR 4) hb.lt hL (Y0 _) (λi vs hi=>?_) λi vs row hi hr=>?_
 ·intro j v hj
  match i,hi with
  |0,hi=>simp at hi;subst hi;have:=hc j v (by match j,hj with|0,hj=>simpa using hj|1,hj=>simpa using hj);simpa using this
  |1,hi=>simp at hi;subst hi;have:=hc (2+j) v (by match j,hj with|0,hj=>simpa using hj|1,hj=>simpa using hj);simpa using this
  |2,hi=>simp at hi;subst hi;have:=hc (4+j) v (by match j,hj with|0,hj=>simpa using hj|1,hj=>simpa using hj);simpa using this
  |3,hi=>simp at hi;subst hi;have:=hc (6+j) v (by match j,hj with|0,hj=>simpa using hj|1,hj=>simpa using hj);simpa using this
 ·match i,hi with
  |0,hi=>simp at hi;subst hi;simp[cX] at hr;subst hr;exact h1.ko
  |1,hi=>simp at hi;subst hi;simp[cX] at hr;subst hr;exact h2.ko
  |2,hi=>simp at hi;subst hi;simp[cX] at hr;subst hr;exact h3.ko
  |3,hi=>simp at hi;subst hi;simp[cX] at hr;subst hr;exact h4.ko
theorem JM (ba:e.ok) (hC:NH e):agv e:=by
 intro ag n aK exprs hB E G b v w hM hv
 have dd:=hv
 obtain⟨a,np,c,rfl,hn,aQ⟩:=dj hv
 have hB0:=hB
 obtain⟨I7,NJ,NK,JI⟩:=hB
 have JJ:=ic ag e n
 have NL:=JH ag e n
 have hK:=aj.refl [] w
 have av:=hM
 have hT:=dd
 obtain⟨q,hq⟩:∃q,q=aY ag e n:=⟨_,rfl⟩
 rw[<-hq] at JJ NL
 refine jr [.cell 4 74] 66 Tryz.func181 rfl abx rfl rfl rfl ?_
 refine zr<|eu rfl λw1 aI cF db=>bI aI hK av λhK av=>?_
 refine dk aL rfl rfl rfl λw2 az aF dJ=>?_
 have hK:=hK.grow;have hK:=hK.ext az;have av:=av.alloc az dJ;have cF:=cF.grow;have cF:=cF.ext az
 refine W ?_
 obtain⟨vt,vn,ve,gn,ge,bj,hS⟩:=av.open
 obtain⟨an,cn,jI⟩:=jw hS.na
 subst jI
 obtain⟨ae,ce,BO⟩:=hS.ex.len
 subst BO
 obtain⟨JL,wA,wG,sN⟩:=hS.apart
 have nR:b∈G:=hS.mem.2 (.inl rfl)
 have ig:=bj.lt
 have Cs:=hS
 have mM:=hK
 have NO:=aj.refl [] w2
 have U1:=aF.lt
 have GM:=aF
 have GY:bC ((w1.heap.size::E)++G) w2 _ e.aq:=bC.ext (bC.fresh dd (by intro x hx;rcases mC.1 (show x∈w1.heap.size::(E++G) from hx) with h|h;(·right;omega);(·exact .inl h))) mM
 have aoI:=db
 have aoJ:=dJ
 have U7:w.heap.size≠b:=(by have:=hM.bG.2.1;omega)
 have JN:w1.heap.size≠b:=(by have:=hM.bG.2.1;omega)
 have MM:=hM.bG.2.1
 refine W ?_
 refine fN bh bf λw3 aH jX gv=>gQ aH bj NO cF aF λbj NO cF aF=>?_
 refine W ?_
 refine fz (o:=2) kz rfl rfl rfl bj rfl λw4 aO bj df=>?_
 have iM:aj [b] w2 w4:=(aj.any NO).trans aO
 have jX:=jX.aG aO so
 have aF:=aF.aG aO (by simpa using JN)
 have cF:=cF.aG aO (by simpa using U7)
 refine aZ<|zr<|zm<|fN cB aL λw5 aP tS iI=>gQ aP bj cF aF jX λbj cF aF jX=>?_
 refine W ?_
 refine fz (o:=3) DE rfl rfl rfl bj rfl λw6 bO bj df=>?_
 have iM:aj [b] w2 w6:=(iM.ext aP).trans bO
 have jX:=jX.aG bO so
 have tS:=tS.aG bO so
 have aF:=aF.aG bO (by simpa using JN)
 have cF:=cF.aG bO (by simpa using U7)
 refine W ?_
 have bj:aJ w6 b [vt,.int .i64 (n:Int),.slice (some ⟨w2.heap.size,0,none⟩) 0 0,.slice (some ⟨w4.heap.size,0,none⟩) 0 0].toArray 190:=bj
 obtain⟨hSo,_,_,aoK⟩:=Cs.opened iM jX tS (lR _) om
 have av:M5 t5 (gn.toList++(ge.toList++(w1.heap.size::E))) [b,w2.heap.size,w4.heap.size] w6 b ag n [] []:=⟨_,_,_,_,_,bj,hSo⟩
 have hTP:bC ((gn.toList++(ge.toList++(w1.heap.size::E)))++[b,w2.heap.size,w4.heap.size]) w6 _ e.aq:=GY.go ⟨iM.mono (by intro x hx;simp at hx;subst hx;simp[nR]),by intro x hx;rcases mA.1 hx with h|h;(·left;rcases mA.1 h with h|h;(·exact mR _ (Cs.mem.2 (by simp[h])));(·rcases mA.1 h with h|h;(·exact mR _ (Cs.mem.2 (by simp[h])));(·exact List.mem_append_left _ h)));(·simp at h;rcases h with h|h|h;(·left;simp[h,nR]);(·right;omega);(·right;omega))⟩
 refine aA (hC ag n [] [] hB0 (gn.toList++(ge.toList++(w1.heap.size::E))) [b,w2.heap.size,w4.heap.size] b _ w6 av hTP) ?_
 rintro v27 w7 ⟨G2,⟨o6,av⟩,NP⟩
 rw[<-hq,List.nil_append,List.nil_append] at av
 rw[<-hq] at o6
 obtain⟨a9,n9,c9,e9,_,_⟩:=dj o6
 subst e9
 have iM:=iM.since NP.aG (by intro x hx;simp at hx;rcases hx with h|h|h;(·left;simp[h]);(·right;omega);(·right;omega))
 have aF:=aF.aG NP.aG so
 have agD:∀x,x∈G2->x=b∨w2.heap.size<=x:=(by intro x hx;have h1:=iM.size;rcases NP.mem x hx with h|h;(·simp at h;omega);(·right;omega))
 have hzw:=iM.size
 refine dk aL rfl rfl rfl λw8 cA cQ kG=>?_
 have aF:=aF.grow;have aF:=aF.ext cA;have av:=av.alloc cA kG;have o6:=o6.grow;have o6:=o6.ext cA;have iM:=iM.grow;have iM:=iM.ext cA
 refine cw aL rfl rfl rfl cQ rfl λw9 aC cQ df=>?_
 have aF:=aF.aD aC sx;have av:=av.aD aC sx;have o6:=o6.aD aC sx;have iM:=iM.aD aC sx
 refine W ?_
 obtain⟨vt3,vn3,ve3,gn3,ge3,bj,hS⟩:=av.open
 obtain⟨an3,cn3,agE⟩:=jw hS.na
 subst agE
 obtain⟨ae3,ce3,agF⟩:=hS.ex.len
 subst agF
 have po:(q.1.map Prod.fst).length=q.1.length:=by simp
 have kV:(q.1.map λp=>p.2.aq).length=q.1.length:=by simp
 have aoW:(cX (q.1.map λp=>p.2.aq)).length=q.1.length:=by rw[gZ];exact kV
 refine W ?_
 have Ix:b<w7.heap.size∧w2.heap.size<=w7.heap.size:=(by constructor<;>omega)
 refine eH (λk:Nat=>[(0,.pointer (some ⟨b,0,none⟩)),(4,.pointer (some ⟨w1.heap.size,0,none⟩)),(5,.slice an aK.length cn),(6,.slice ae (cX exprs).length ce),(7,.pointer (some ⟨w7.heap.size,0,none⟩)),(8,.int .i64 ((k:Int)-1))]) (λk w'=>aj [w7.heap.size] w9 w'∧k<=q.1.length∧∃a n c,aJ w' w7.heap.size [str (nest (q.1.drop k) q.2.1).aq.aw,.slice a n c].toArray 74∧bC (w7.heap.size::((gn.toList++(ge.toList++(w1.heap.size::E)))++G2)) w' (.agg #[str (nest (q.1.drop k) q.2.1).aq.aw,.slice a n c]) (nest (q.1.drop k) q.2.1).aq) (λk=>k) q.1.length (⟨rfl,rfl,rfl,rfl,rfl,congrArg (λz:Nat=>Value.int .i64 ((z:Int)-1)) po⟩) (⟨aj.refl _ _,lR _,a9,n9,c9,by rw[List.drop_length];exact cQ,by rw[List.drop_length];exact o6⟩) λgg bZ fm hI=>?_
 obtain⟨AI,hk,a7,n7,c7,cQ,o6⟩:=hI
 have NQ:b≠w7.heap.size:=(by have:=Ix;omega)
 have bj:=bj.aG AI (by simpa using NQ)
 have hS:=hS.aD AI (List.mem_cons_self ..)
 have iM:=iM.since AI (λx hx=>.inr (by rw[List.mem_singleton.1 hx];exact Ix.2))
 refine W ?_
 refine zc rfl (λh1=>?_) (λh1=>?_)
 have aX:∃k,gg=k+1:=⟨gg-1,om⟩
 obtain⟨k,rfl⟩:=aX
 have hi:((k+1:Nat):Int)-1=(k:Int):=by omega
 rw[hi]
 obtain⟨bn,capn,e1,oX⟩:=hS.na.UW om
 cases e1
 obtain⟨be,cape,e2,oF⟩:=hS.ex.form om
 cases e2
 have hcN:=hS.na.NF (i:=k) om
 obtain⟨pa,pc,hcE,NR⟩:=hS.ex.NF (i:=k) om
 refine WZ ?_
 apply tC cT 19 (rA 38 19) (rA 38 19) [[],[],[1],[2],[3],[],[4,5],[6],[7],[],[9],[10],[11],[],[12,13],[14],[],[0,8,15,16],[17]] [It.v _,It.v _,It.v _,It.v _,It.v _,It.v _,It.v _,It.v _,It.v _,It.v _,It.v _,It.v _,It.v _,It.v _,It.v _,It.v _,It.v _,It.p (fun(v:Value) (ww:World)=>∃bb,v= .slice (some ⟨bb,0,none⟩) 4 4∧ek (w7.heap.size::((gn.toList++(ge.toList++(w1.heap.size::E)))++G2)) ww v [bL fV,bL (cv (q.1.map Prod.fst) k),(nth (q.1.map λp=>p.2.aq) k),(nest (q.1.drop (k+1)) q.2.1).aq]),It.p (fun(v:Value) (ww:World)=>∃a n c,v= .agg #[str [],.slice a n c]∧bC (w7.heap.size::((gn.toList++(ge.toList++(w1.heap.size::E)))++G2)) ww v (.mk [] [bL fV,bL (cv (q.1.map Prod.fst) k),(nth (q.1.map λp=>p.2.aq) k),(nest (q.1.drop (k+1)) q.2.1).aq]))] de (by exact⟨λv w w' ⟨bb,e,h⟩ k=>⟨bb,e,h.ext k⟩,λv w w' ⟨a,n,c,e,h⟩ k=>⟨a,n,c,e,h.ext k⟩,trivial⟩)
 intro wd aB
 refine vk aB (λx ey cS=>?_) ?_
 refine aA (Ao _ ey) ?_
 rintro _ fa ⟨rfl,cV⟩
 have Ct:=cV.size
 exact pk cV
 refine vc (λ_ _ _=>WZ pv) ?_
 refine vk aB (λx ey cS=>?_) ?_
 refine WZ ?_
 exact pv
 refine vc (λ_ _ _=>WZ pv) ?_
 refine vk aB (λx ey cS=>?_) ?_
 have bj:=bj.ext cS
 refine WZ ?_
 exact pv
 refine vc (λ_ _ _=>WZ pv) ?_
 refine VA ?_
 refine vk aB (λx ey cS=>?_) ?_
 refine aA (Ao _ ey) ?_
 rintro _ fa ⟨rfl,cV⟩
 have Ct:=cV.size
 exact pk cV
 refine vc (λ_ _ _=>WZ pv) ?_
 refine vk aB (λx ey cS=>?_) ?_
 refine WZ ?_
 exact pv
 refine vc (λ_ _ _=>WZ pv) ?_
 refine vk aB (λx ey cS=>?_) ?_
 have bj:=bj.ext cS
 refine WZ ?_
 exact pv
 refine vc (λ_ _ _=>WZ pv) ?_
 refine VA ?_
 refine vk aB (λx ey cS=>?_) ?_
 refine cG cS o6 hS NR λo6 hS NR=>?_
 have cU:=hS.cD
 refine sC [.tmp 38,.tmp 46,.tmp 53,.tmp 54] [[str fV,.slice none 0 0],[str (cv (q.1.map Prod.fst) k),.slice none 0 0],[str (nth (q.1.map λp=>p.2.aq) k).aw,.slice pa (nth (q.1.map λp=>p.2.aq) k).ak.length pc],[str (nest (q.1.drop (k+1)) q.2.1).aq.aw,.slice a7 n7 c7]] cB aL rfl rfl rfl rfl rfl rfl rfl rfl rfl λfa cV Cb aoZ=>?_
 exact pf cV (⟨_,rfl,agz Cb (λhx=>by have:=cU _ hx;omega) (kW oH) (kW oH) (NR.ext cV) (o6.ext cV)⟩)
 refine vk aB (λx ey cS=>?_) ?_
 intro jA d17
 obtain⟨bb,rO,JO⟩:=d17
 refine aA (agu jA _ _ _ rO ey) ?_
 rintro _ fa ⟨rfl,cV⟩
 have Ct:=cV.size
 have JO:=ek.ext JO cV
 rw[rO] at JO
 exact pf cV (⟨_,_,_,rfl,kW JO⟩)
 exact trivial
 intro x oC lJ
 intro jA d17
 intro wI d18
 refine bI lJ AI cQ λAI cQ=>?_
 change OW _ _ _ _ _ (bm (bg _ x _) (zZ 38 [_,_,_,_,_,_,_,_,_,_,_,_,_,_,_,_,_,_,_])) _
 obtain⟨a8,n8,c8,uY,JP⟩:=d18
 subst uY
 have iV:=agw (bs:=q.1) (e:=q.2.1) (k:=k) om
 rw[<-agx (e:=q.2.1) (show k<q.1.length by omega),<-agy (e:=q.2.1) (show k<q.1.length by omega)] at iV
 rw[<-iV] at JP
 have U8:(nest (q.1.drop k) q.2.1).aq.aw=[]:=by rw[iV];rfl
 refine cw aL rfl rfl rfl cQ rfl λld kQ cQ df=>?_
 have AI:=AI.trans kQ
 have JP:=JP.aD kQ sm
 refine W ?_
 exact⟨k,⟨rfl,rfl,rfl,rfl,rfl,rfl⟩,⟨AI,om,a8,n8,c8,by rw[U8];exact cQ,by rw[U8];exact JP⟩,om⟩
 have h0:gg=0:=by omega
 subst h0
 have AJ:=hS
 have Cr:=bj
 have GZ:=iM
 refine W ?_
 refine fz (o:=2) kz rfl rfl rfl bj rfl λey cS bj df=>?_
 have mc:=cS
 have cQ:=cQ.aG cS (by simpa using λe=>NQ e.symm)
 have o6:=o6.aD cS (by intro x hx;simp at hx;subst hx;simp[AJ.mem.2 (.inl rfl)])
 refine W ?_
 refine fz (o:=3) DE rfl rfl rfl bj rfl λfa cV bj df=>?_
 have mc:=mc.trans cV
 have cQ:=cQ.aG cV (by simpa using λe=>NQ e.symm)
 have o6:=o6.aD cV (by intro x hx;simp at hx;subst hx;simp[AJ.mem.2 (.inl rfl)])
 have agG:aj [b] w2 fa:=GZ.trans mc
 have aF:=GM.aG agG (by simpa using JN)
 obtain⟨hS,agH⟩:=Cs.closed AJ.drop (Cs.na.aG GZ (λx hx hy=>(wG x (by simp[hx])).2 (by simpa using hy))) (Cs.ex.aG (Fr.of GZ (by intro x hx;simp at hx;subst hx;simp[nR])) GZ (λx hx hy=>(sN x hx).2.1 (by simpa using hy))) ⟨GZ.mono (by intro x hx;simp at hx;subst hx;exact nR),λx hx=>(agD x hx).imp (λh=>by rw[h];exact nR) id⟩ mc
 have uZ:bC ((w1.heap.size::E)++G) fa _ (nest (q.1.drop 0) q.2.1).aq:=o6.iF (λx hx=>by rcases mA.1 hx with h|h;(·exact mK _ (by rcases mC.1 h with h|h<;>simp[h]));(·rcases Cs.mem.1 h with h|h|h;(·rw[h];simp[AJ.mem.2 (.inl rfl)]);(·simp[h]);(·simp[h])))
 refine W ?_
 refine cw aL rfl rfl rfl aF rfl λjf gw aF df=>?_
 have bj:=bj.aG gw (by simpa using λe=>JN e.symm)
 have hS:=(hS.aD gw sm).drop
 have uZ:=uZ.aD gw sm
 have xL:=mM.size
 have hFr:Fr G w G jf:=⟨((aj.any mM).trans agH.aG).since gw (λx hx=>.inr (by simp at hx;omega)),λx hx=>.inl hx⟩
 refine W ?_
 exact⟨[_],fb eQ aL rfl aF rfl,⟨(by have h9:=bC.iF uZ (L':=E++G) (λx hx=>mK _ hx);unfold my;rw[<-hq];exact h9),by rw[<-hq];exact⟨_,_,_,_,_,bj,hS⟩⟩,hFr⟩
def gx (ag:List ai) (e:Ex) (n:Nat):Nat->Bs×List Ex×Nat
 |0=>([],[],n)
 |k+1=>((gx ag e n k).1++(dz ag (aY ag (fL e k) (gx ag e n k).2.2)).1,(gx ag e n k).2.1++[(dz ag (aY ag (fL e k) (gx ag e n k).2.2)).2.1],(dz ag (aY ag (fL e k) (gx ag e n k).2.2)).2.2)
theorem NS (ag:List ai) (e:Ex) (n:Nat):∀k,(gx ag e n k).2.1.length=k
 |0=>rfl
 |k+1=>by simp[gx,NS ag e n k]
theorem U9 (ag:List ai) (e:Ex) (n:Nat):(dz ag (aY ag e n)).1.length<=2*e.n:=by
 have:=JH ag e n
 unfold dz
 split
 ·omega
 ·simp;omega
theorem Va (ag:List ai) (e:Ex) (n:Nat):(dz ag (aY ag e n)).2.2<=n+e.n*(2*(ag.length+2)):=by
 have h1:=ic ag e n
 have h2:=qf ag (aY ag e n)
 omega
theorem Vb (ag:List ai) (e:Ex) (n:Nat):∀k,k<=e.kids.length->(gx ag e n k).1.length<=2*kN e k∧(gx ag e n k).2.2<=n+kN e k*(2*(ag.length+2))
 |0,_=>by simp[gx,kN]
 |k+1,hk=>by
  obtain⟨h1,h2⟩:=Vb ag e n k om
  have h3:=U9 ag (fL e k) (gx ag e n k).2.2
  have h4:=Va ag (fL e k) (gx ag e n k).2.2
  rw[ye om,Nat.add_mul]
  simp only[gx,lA]
  constructor<;>omega
theorem agJ (ag:List ai) (e:Ex) (n:Nat) {aK:List ai} {exprs:List au} (hB:yn ag e n aK exprs) (hk:k<e.kids.length):yn ag (fL e k) (gx ag e n k).2.2 (aK++(gx ag e n k).1.map Prod.fst) (exprs++(gx ag e n k).1.map λp=>p.2.aq):=by
 obtain⟨h1,h2,h3,h4⟩:=hB
 obtain⟨h5,h6⟩:=Vb ag e n k om
 have h7:=ye hk
 have h8:=Ca e (k+1)
 have h9:=Nat.mul_le_mul_right (2*(ag.length+2)) h8
 rw[h7,Nat.add_mul] at h9
 refine⟨by omega,?_,?_,h4⟩
 ·simp only[lA,List.length_map];omega
 ·simp only[lA,List.length_map];omega
theorem agK (ag:List ai) (n:Nat) (ha:e.iv=false) (h1:e.head≠fV) (h2:e.head≠gF) (h3:e.head≠gm):
  (aY ag e n).1=(gx ag e n e.kids.length).1∧(aY ag e n).2.1.aq= .mk [] ([bL e.head]++(gx ag e n e.kids.length).2.1.map Ex.aq)∧(aY ag e n).2.2=(gx ag e n e.kids.length).2.2:=by
 cases e with
 |«at» s=>cases ha
 |lt x a b=>exact absurd rfl h1
 |fn f x A B b=>exact absurd rfl h2
 |ite a b c=>exact absurd rfl h3
 |un h a=>exact⟨rfl,rfl,rfl⟩
 |bi h a b=>exact⟨rfl,rfl,rfl⟩
theorem agL (ha:e.iv=false) (h1:e.head≠fV) (h2:e.head≠gF):e.aq.ak=lG [bL e.head] [] e:=by
 rw[UD ha (not_lt h1) h2]
 simp[lG]
theorem Vc (ha:e.iv=false) (h1:e.head≠fV) (h2:e.head≠gF):e.from=1:=by
 cases e with
 |«at» s=>cases ha
 |lt x a b=>exact absurd rfl h1
 |fn f x A B b=>exact absurd rfl h2
 |_=>rfl
theorem yn.sub {ag:List ai} {e':Ex} {n':Nat} {aK names':List ai} {exprs exprs':List au} (h:yn ag e n aK exprs) (m:Nat) (h1:m+e'.n<=e.n) (h2:n'<=n+m*(2*(ag.length+2))) (h3:names'.length<=aK.length+4*m) (h4:exprs'.length<=exprs.length+4*m):yn ag e' n' names' exprs':=by
 obtain⟨a1,a2,a3,a4⟩:=h
 have h9:=Nat.mul_le_mul_right (2*(ag.length+2)) h1
 rw[Nat.add_mul] at h9
 exact⟨by omega,om,om,a4⟩
theorem M5.nd {τ:xT} {E:List Nat} {ag aK:List ai} {exprs:List au} (h:M5 τ E G w b ag n aK exprs):(E++G).Nodup:=by
 obtain⟨_,_,_,_,_,_,h2⟩:=h;exact h2.nd
theorem M5.more {τ:xT} {E:List Nat} {w':World} {ag aK:List ai} {exprs:List au} (h:M5 τ E G w b ag n aK exprs) (k:aj [] w w') (h1:w.heap.size<=x) (h2:x<w'.heap.size):M5 τ (x::E) G w' b ag n aK exprs:=by
 obtain⟨vt,vn,vex,gn,ge,hb,h⟩:=h
 have hF:∀y,y∈(x::E)++G->y∈E++G∨w.heap.size<=y:=λy hy=>by
  rcases mC.1 (show y∈x::(E++G) from hy) with h3|h3
  ·right;omega
  ·exact .inl h3
 refine⟨vt,vn,vex,gn,ge,hb.ext k,(h.ta.fresh hF).ext k,h.na.ext k,(h.ex.sub hF).any k,h.eG,?_,λy hy=>?_⟩
 ·show(x::(E++G)).Nodup
  rw[List.nodup_cons]
  exact⟨λhx=>by have:=h.cD _ hx;omega,h.nd⟩
 ·rcases mC.1 (show y∈x::(E++G) from hy) with h3|h3
  ·omega
  ·have:=h.cD y h3;have:=k.size;omega
structure jY (E G:List Nat) (w0 w:World) (G0:List Nat) (b:Nat) (ag:List ai) (n:Nat) (aK:List ai) (exprs:List au) (gb b4:Nat) (vP:Value) (ts:List au):Prop where
 m:M5 t5 (gb::b4::E) G w b ag n aK exprs
 own:dD ((gb::b4::E)++G) w 74 2 vP (some gb) (cX ts)
 bx:aJ w b4 [str [],.slice none 0 0].toArray 74
 fr:Fr G0 w0 G w
 low:w0.heap.size<=gb∧w0.heap.size<=b4
section
variable {E G G0 G':List Nat} {w0 w w':World} {b:Nat} {ag:List ai} {n n':Nat} {aK names':List ai} {exprs exprs':List au} {gb b4:Nat} {vP:Value} {ts ts':List au}
theorem jY.ext (h:jY E G w0 w G0 b ag n aK exprs gb b4 vP ts) (k:aj [] w w'):jY E G w0 w' G0 b ag n aK exprs gb b4 vP ts:=⟨h.m.ext k,h.own.ext k,h.bx.ext k,h.fr.ext k,h.low⟩
theorem jY.call (h:jY E G w0 w G0 b ag n aK exprs gb b4 vP ts) (hm:M5 t5 (gb::b4::E) G' w' b ag n' names' exprs') (k:Fr G w G' w'):jY E G' w0 w' G0 b ag n' names' exprs' gb b4 vP ts:=
 ⟨hm,h.own.aG (k.in _) k.aG (λx hx=>by simp at hx;subst hx;exact h.m.nE sm),h.bx.aG k.aG (h.m.nE sm),h.fr.go k,h.low⟩
theorem jY.ne (h:jY E G w0 w G0 b ag n aK exprs gb b4 vP ts):gb∉b4::(E++G)∧b4∉E++G:=by
 have h1:(gb::b4::(E++G)).Nodup:=h.m.nd
 rw[List.nodup_cons,List.nodup_cons] at h1
 exact⟨h1.1,h1.2.1⟩
theorem jY.store (h:jY E G w0 w G0 b ag n aK exprs gb b4 vP ts) (k:aj [gb] w w') (ho:dD ((gb::b4::E)++G) w' 74 2 vP (some gb) (cX ts')):jY E G w0 w' G0 b ag n aK exprs gb b4 vP ts':=
 ⟨h.m.aD k sm,ho,h.bx.aG k (by simp;intro e;exact h.ne.1 (by simp[e])),⟨h.fr.aG.since k (by intro x hx;simp at hx;subst hx;exact .inr h.low.1),h.fr.mem⟩,h.low⟩
theorem jY.cD (h:jY E G w0 w G0 b ag n aK exprs gb b4 vP ts):eJ ((gb::b4::E)++G) w:=h.m.bG.2.2
theorem jY.jd (h:jY E G w0 w G0 b ag n aK exprs gb b4 vP ts):∀x,x∈[gb]->x∈(gb::b4::E)++G:=by simp
theorem jY.fin (h:jY E G w0 w G0 b ag n aK exprs gb b4 vP ts) (k:aj [b4] w w'):bC (E++G) w' (.agg #[str [],vP]) (.mk [] ts)∧M5 t5 E G w' b ag n aK exprs∧Fr G0 w0 G w':=by
 have h1:bN (b4::(E++G)) w vP (.sl 2 (cX ts)):=h.own.rep (λx hx=>.inl (by simpa using hx)) (by simpa using h.ne.1)
 have h2:bC (b4::(E++G)) w (.agg #[str [],vP]) (.mk [] ts):=kW h1
 exact⟨(h2.aD k sm).iF (λx hx=>mK _ hx),(h.m.drop.aD k sm).drop,⟨h.fr.aG.since k (by intro x hx;simp at hx;subst hx;exact .inr h.low.2),h.fr.mem⟩⟩
end
theorem agM:∀(m:Nat) (e:Ex),e.n<=m->e.ok->NH e:=by
 intro m
 induction m with
 |zero=>intro e h;have:=e.pos;omega
 |succ m ih=>
  intro e hm ba ag n aK exprs hB E F b v w hM dd
  have hv:=dd
  obtain⟨a,np,c,rfl,hn,Jw⟩:=dj hv
  subst hn
  have JJ:=ic ag e n
  have Jm:=GF e
  have hK:=aj.refl [] w
  have av:=hM
  have hT:=dd
  have hMl:=hM.bG
  obtain⟨I7,NJ,NK,JI⟩:=id hB
  refine jr [.cell 4 74] 114 Tryz.func218 rfl abW rfl rfl rfl ?_
  refine zr<|eu rfl λw1 aI cF db=>cG aI hK av hT λhK av hT=>?_
  refine dk aL rfl rfl rfl λw2 az aF dJ=>?_
  have hK:=hK.grow;have hK:=hK.ext az;have av:=av.alloc az dJ;have hT:=hT.grow;have hT:=hT.ext az;have cF:=cF.grow;have cF:=cF.ext az
  refine W ?_
  refine zc rfl (λh1=>?_) (λh1=>?_)
  have aX:∃x,e= .at x:=(by have ha:=(uR ba).1 h1;cases e<;>first|exact⟨_,rfl⟩|cases ha)
  obtain⟨x,rfl⟩:=aX
  refine W ?_
  refine cw aL rfl rfl rfl aF rfl λw3 aH aF gv=>?_
  have hK:=hK.aD aH sx;have av:=av.aD aH sx;have hT:=hT.aD aH sx
  refine W ?_
  exact⟨[_],fb eQ aL rfl aF rfl,by show JG ag E F b aK exprs w ([],.at x,n) _ _;exact⟨F,⟨hT.iF (λy hy=>mK _ hy),by simpa using av.drop⟩,Fr.of hK sm⟩⟩
  have eD:e.iv=false:=(by cases hh:e.iv;rfl;exact absurd ((uR ba).2 hh) h1)
  obtain⟨GG,mH,ji,wj⟩:=Ex.ak eD
  obtain⟨fO,Ea,Eb⟩:=GD ba eD
  have mM:=hK
  have lM:=av
  have GY:=hT
  have NT:=cF
  have GM:=aF
  have af2:=db
  have af3:=dJ
  have AK:ek (w1.heap.size::(E++F)) w2 (.slice a e.aq.ak.length c) e.aq.ak:=(by obtain⟨a9,n9,c9,e9,AL,AK⟩:=dj GY;cases e9;exact AK)
  have NU:=lM.bG.2.2
  refine W ?_
  refine xw w2.heap.size (w1.heap.size::(E++F)) cB aL rfl rfl (lR _) (λx hx=>NU x hx) λw3 aH Jx wm=>?_
  have gL:=aH
  refine bI aH cF aF λcF aF=>?_
  refine zm<|wa cB aL rfl rfl rfl rfl rfl rfl wm (ek.ext (ek.grow AK) aH) (UI _) (by rw[gZ];simp;omega) λa4 ir g4 w4 kv aO=>?_
  have gL:=wm.since gL aO
  have hK:=mM.trans gL
  have cF:=NT.ext gL
  have aF:=GM.ext gL
  have fG:=gL.size
  rw[show([]:List (List C)).length+(cX e.aq.ak).length=e.aq.ak.length from by rw[gZ];simp] at kv⊢
  rw[List.nil_append] at kv
  obtain⟨gb,e4,e5⟩:=kv.form (by rw[gZ];exact fO)
  subst e4
  subst e5
  have fM:gb<w4.heap.size:=kv.lt gb sm
  have Eg:w2.heap.size<=gb:=kv.low gb rfl
  have hS:dD (gb::(w1.heap.size::(E++F))) w4 74 2 (.slice (some ⟨gb,0,none⟩) e.aq.ak.length ir) (some gb) (cX e.aq.ak):=(let⟨xs,hr⟩:=kv.own;⟨⟨xs,hr.own,hr.rep⟩,hr.row⟩)
  have av:M5 t5 (gb::w1.heap.size::E) F w4 b ag n aK exprs:=lM.more gL Eg fM
  refine iO (LK _ _ _ _) rfl rfl<|dk aL rfl rfl rfl λw5 aP bA iI=>?_
  have hK:=hK.grow;have hK:=hK.ext aP;have aF:=aF.grow;have aF:=aF.ext aP;have hS:=hS.grow;have hS:=hS.ext aP;have gL:=gL.grow;have gL:=gL.ext aP
  refine cw aL rfl rfl rfl bA rfl λw6 bO bA kF=>?_
  have hK:=hK.aD bO sx;have aF:=aF.aD bO sx;have hS:=hS.aD bO sx;have gL:=gL.aD bO sx
  refine W ?_
  have iK:=hK.size
  have gL:aj [] w2 w6:=gL
  have av:M5 t5 (gb::w1.heap.size::E) F w6 b ag n aK exprs:=lM.more gL Eg (by have:=bA.lt;omega)
  have hS:dD ((gb::w1.heap.size::E)++F) w6 74 2 _ _ _:=dD.sub hS (λx hx=>.inl (mK _ hx))
  have UJ:=av.bG.2.2
  have Eh:Fr (w1.heap.size::(E++F)) w2 ((gb::w1.heap.size::E)++F) w6:=⟨gL.any,λx hx=>by rcases mC.1 (show x∈gb::(w1.heap.size::(E++F)) from hx) with h|h;(·right;omega);(·exact .inl h)⟩
  have aQ:=ek.go AK Eh
  have fS:∀q,w.heap.size<=q->q≠gb->q≠w1.heap.size->q∉((gb::w1.heap.size::E)++F):=(by intro q h1 h2 h3 hx;rcases mC.1 (show q∈gb::(w1.heap.size::(E++F)) from hx) with h|h;(·exact h2 h);(·rcases mC.1 h with h|h;(·exact h3 h);(·have:=hMl.2.2 q h;omega)))
  have bA:dL ((gb::w1.heap.size::E)++F) w6 w4.heap.size _ _:=⟨bA,fS _ om om om⟩
  have aS:jY E F w w6 F b ag n aK exprs gb w1.heap.size (.slice (some ⟨gb,0,none⟩) e.aq.ak.length ir) e.aq.ak:=⟨av,hS,aF,⟨hK.any,λx hx=>.inl hx⟩,om,om⟩
  obtain⟨b0,AA,xP,xQ,e0,tO,jW⟩:=eS aQ fO
  cases e0
  refine zi (i:=0) cB aL rfl rfl fO<|W ?_
  refine zc rfl (λh2=>?_) (λh2=>?_)
  obtain⟨nx,ea,eb,rfl⟩:=Ju ba (ji.symm.trans h2)
  have wo:(Ex.lt nx ea eb).n=2+ea.n+eb.n:=rfl
  have JQ:aY ag (.lt nx ea eb) n=((aY ag ea n).1++(nx,(aY ag ea n).2.1)::(aY ag eb (aY ag ea n).2.2).1,(aY ag eb (aY ag ea n).2.2).2.1,(aY ag eb (aY ag ea n).2.2).2.2):=rfl
  have JR:=ic ag ea n
  have oK:=JH ag ea n
  have hBa:yn ag ea n aK exprs:=hB.sub 0 om om om om
  have aX:∃q,q=aY ag ea n:=⟨_,rfl⟩
  obtain⟨q,hq⟩:=aX
  rw[<-hq] at JQ JR oK
  have Jy:(Ex.lt nx ea eb).aq.ak.length=4:=rfl
  have aQ:ek ((w1.heap.size::E)++F) w6 _ _:=aQ.iF (λx hx=>mK _ hx)
  have av:=aS.m.drop
  have aF:=aS.bx
  have hR:=aS.fr
  obtain⟨b1,eR,gd,gh,e1,bF,cK⟩:=eS aQ (i:=1) om
  cases e1
  obtain⟨b2,l5,iA,iB,e2,bU,dG⟩:=eS aQ (i:=2) om
  cases e2
  have dG:bC ((w1.heap.size::E)++F) w6 _ ea.aq:=dG
  obtain⟨b3,Cf,pM,pN,e3,dM,dW⟩:=eS aQ (i:=3) om
  cases e3
  have dW:bC ((w1.heap.size::E)++F) w6 _ eb.aq:=dW
  refine zr<|zm<|zm<|zi (i:=2) cB aL rfl rfl ((show 2<4 from om))<|W ?_
  refine aA (ih ea om ba.2.1 ag n aK exprs hBa (w1.heap.size::E) F b _ w6 av dG) ?_
  rintro v29 w7 ⟨G1,⟨dv,qp⟩,cR⟩
  rw[<-hq] at dv qp
  obtain⟨a9,n9,c9,e9,_,_⟩:=dj dv
  subst e9
  have jz:=hR.go cR
  have fy:=aj.refl [] w7
  have bF:=bF.go (cR.in _);have dM:=dM.go (cR.in _)
  have dW:=bC.go dW (cR.in _)
  have aF:=aF.aG cR.aG (av.nE sm)
  have av:=qp
  have Vd:=av.bG.2.2
  have aX:∃x,x=aK++q.1.map Prod.fst:=⟨_,rfl⟩
  obtain⟨N1,Cn⟩:=aX
  have aX:∃x,x=exprs++q.1.map λp=>p.2.aq:=⟨_,rfl⟩
  obtain⟨X1,Co⟩:=aX
  rw[<-Cn,<-Co] at av
  have U2:N1.length=aK.length+q.1.length:=by rw[Cn];simp
  have hXl:X1.length=exprs.length+q.1.length:=by rw[Co];simp
  have agP:=aF
  have agQ:=bF
  have agR:=dM
  have agS:=dW
  have agT:=dv
  have agU:=av
  refine dk aL rfl rfl rfl λw8 cA cQ kG=>?_
  have fy:=fy.grow;have fy:=fy.ext cA
  refine cw aL rfl rfl rfl cQ rfl λw9 aC cQ df=>?_
  have fy:=fy.aD aC sx
  refine W ?_
  have Ha:=jz.aG.size
  have fy:aj [] w7 w9:=fy
  have hR:=jz.ext fy
  have aF:=agP.ext fy
  have bF:=agQ.ext fy
  have dM:=agR.ext fy
  have dW:=agS.ext fy
  have dv:=agT.ext fy
  have av:=agU.ext fy
  obtain⟨vt,vn,vex,gn,ge,bj,hS⟩:=av.open
  have bj:aJ w9 b [vt,.int .i64 (q.2.2:Int),vn,vex].toArray 190:=bj
  obtain⟨JL,wA,wG,sN⟩:=hS.apart
  have Cp:eJ ((w1.heap.size::E)++G1) w9:=hS.cD
  have nR:b∈G1:=hS.mem.2 (.inl rfl)
  have oT:=cQ.lt
  have cQ:dL ((w1.heap.size::E)++G1) w9 _ _ _:=⟨cQ,λhx=>by have:=Vd _ hx;omega⟩
  apply jF cT (((w1.heap.size::E)++G1)) 13 (rA 30 13) (rA 30 13) [[],[],[1],[2],[3],[],[5],[6],[7],[8],[4,9],[0],[11]] [Ie.v _,Ie.v _,Ie.v _,Ie.v _,Ie.w 0 vn,Ie.v _,Ie.v _,Ie.v _,Ie.v _,Ie.p (fun(G:List Nat) (v:Value) (ww:World)=>∃bb,v= .slice (some ⟨bb,0,none⟩) 1 1∧aJ ww bb [str nx].toArray 9∧bb∉G),Ie.e 1,Ie.v _,Ie.v _] [4,10] [fun(G:List Nat) (vs:List Value) (ww:World)=>G=(w1.heap.size::E)++G1∧aj [] w9 ww,fun(G:List Nat) (vs:List Value) (ww:World)=>G=(w1.heap.size::E)++G1∧aj [] w9 ww,fun(G:List Nat) (vs:List Value) (ww:World)=>∃G2 g2,G=(w1.heap.size::E)++G2∧aj gn.toList w9 ww∧iz t5 (w1.heap.size::E) G2 ww b vt (vs.getD 1 undef) vex g2 ge ag (N1++[nx]) X1∧Fr G1 w9 G2 ww] de rfl Cp (by exact⟨λG v w G' w' ⟨bb,e,h,ho⟩ k=>⟨bb,e,(dL.go ⟨h,ho⟩ k).gX,(dL.go ⟨h,ho⟩ k).out⟩,trivial⟩) (by exact⟨λG vs w w' ⟨h1,h2⟩ k=>⟨h1,h2.ext k⟩,λG vs w w' ⟨h1,h2⟩ k=>⟨h1,h2.ext k⟩,λG vs w w' ⟨G2,g2,h1,h2,h3,h4⟩ k=>⟨G2,g2,h1,h2.ext k,h3.ext k,h4.ext k⟩,trivial⟩) (⟨rfl,aj.refl _ _⟩)
  refine FA ?_
  refine ve 0 (λx bZ mV aR pS ma hJ hlen=>?_) ?_
  have aV:=jj hlen
  subst aV
  obtain⟨bP,bS⟩:=hJ
  have wJ:=bj.ext bS
  refine WZ ?_
  exact fw mV (Fr.refl _ _) ma (⟨bP,bS⟩)
  refine FA ?_
  refine vf (λ_ _ _ _ _ _=>zi (i:=1) cB aL rfl rfl ((show 1<4 from om)) fv) ?_
  refine FA ?_
  refine vf (λx bZ mV aR pS ma=>?_) ?_
  refine fF bh bf rfl rfl ?_
  intro ey cS yd rC
  exact ff cS (⟨_,rfl,(yd.o ma).gX,(yd.o ma).out⟩)
  refine ve 1 (λx bZ mV aR pS ma hJ hlen=>?_) ?_
  obtain⟨q0,aV⟩:=jk hlen
  subst aV
  intro v9 d9
  obtain⟨bb,e6,fH,_⟩:=d9
  subst e6
  obtain⟨bP,bS⟩:=hJ
  subst bP
  have JS:=hS.ext bS
  refine rM bh bf rfl rfl rfl rfl rfl rfl JS.na fH om λv9 g9 ey cO aC eA=>?_
  obtain⟨G2,fx,jo⟩:=JS.Te cO aC eA
  exact fe _ (jo.in _) fx.cD (⟨G2,g9,rfl,bS.any.trans aC,fx,(Fr.of bS sm).go jo⟩)
  exact FZ
  intro x oz Jz aR yi UK hJ hlen
  obtain⟨q0,q1,aV⟩:=k8 hlen
  subst aV
  intro v9 d9
  have cQ:=cQ.go yi;have dM:=dM.go yi;have dW:=dW.go yi;have dv:=dv.go yi
  change OW _ _ _ _ _ (bm (bg _ x _) (zZ 30 [_,_,_,_,_,_,_,_,_,_,_,_,_])) _
  obtain⟨G2,g9,bP,AD,fx,jo⟩:=hJ
  subst bP
  obtain⟨o4,o5,GW⟩:=jw fx.na
  have e8:q1=_:=GW
  subst e8
  have bj:=bj.aG AD (λh=>(wG b h).2 rfl)
  have aF:=aF.aG AD (λh=>(wG _ h).1 sm)
  have wH:b∈G2:=fx.mem.2 (.inl rfl)
  have hR:=hR.go jo
  refine fz (o:=2) kz rfl rfl rfl bj rfl λoC lJ bj df=>?_
  have hS:=fx.aG lJ sm
  have aF:=aF.aG lJ (by simp;intro e;subst e;exact wA sm)
  have hR:=hR.aD lJ (by simpa using wH);have cQ:=cQ.aD lJ (by intro x hx;simp at hx;subst hx;simp[wH]);have dM:=dM.aD lJ (by intro x hx;simp at hx;subst hx;simp[wH]);have dv:=dv.aD lJ (by intro x hx;simp at hx;subst hx;simp[wH]);have dW:=dW.aD lJ (by intro x hx;simp at hx;subst hx;simp[wH])
  refine W ?_
  obtain⟨ae,ce,e5⟩:=hS.ex.len
  subst e5
  have bj:aJ oC b [vt,(.int .i64 (q.2.2:Int)),(.slice o4 (N1++[nx]).length o5),(.slice ae (cX X1).length ce)].toArray 190:=bj
  have Cp:eJ ((w1.heap.size::E)++G2) oC:=hS.cD
  have dU:b∈G2:=wH
  obtain⟨JL,wA,wG,sN⟩:=hS.apart
  have ig:=bj.lt
  apply SA cT (((w1.heap.size::E)++G2)) 13 (rA 43 9++[100009,52,53,100012]) (rA 43 9++[100009,52,53,100012]) [[],[0],[1],[2],[],[3],[],[3,6],[5,7],[4,8],[0],[10],[7,11]] [Iu.v _,Iu.v _,Iu.v _,Iu.w 0 ((.slice ae (cX X1).length ce)),Iu.v _,Iu.v _,Iu.p (fun(G:List Nat) (v:Value) (ww:World)=>∃bb,v= .slice (some ⟨bb,0,none⟩) 1 1∧dL G ww bb [str [],.slice none 0 0].toArray 74),Iu.e 1,Iu.d (fun(vs:List Value)=>UX (vs.getD 1 undef) ((cX X1).length*2)),Iu.u,Iu.v _,Iu.v _,Iu.u] [3,7] [fun(G:List Nat) (vs:List Value) (ww:World)=>G=((w1.heap.size::E)++G2)∧aJ ww b [vt,(.int .i64 (q.2.2:Int)),(.slice o4 (N1++[nx]).length o5),(.slice ae (cX X1).length ce)].toArray 190∧aj [] oC ww,fun(G:List Nat) (vs:List Value) (ww:World)=>G=((w1.heap.size::E)++G2)∧aJ ww b [vt,(.int .i64 (q.2.2:Int)),(.slice o4 (N1++[nx]).length o5),(.slice ae (cX X1).length ce)].toArray 190∧aj [] oC ww,fun(G:List Nat) (vs:List Value) (ww:World)=>J5 t5 (w1.heap.size::E) G2 oC b vt (.int .i64 (q.2.2:Int)) (.slice o4 (N1++[nx]).length o5) (.slice ae (cX X1).length ce) ge X1 q.2.1.aq false false G (vs.getD 1 undef) ww] (fun(S:Nat->Bool) (G:List Nat) (vs:List Value) (ww:World)=>J5 t5 (w1.heap.size::E) G2 oC b vt (.int .i64 (q.2.2:Int)) (.slice o4 (N1++[nx]).length o5) (.slice ae (cX X1).length ce) ge X1 q.2.1.aq (S 9) (S 12) G (vs.getD 1 undef) ww) de rfl Cp (by exact⟨λG v w G' w' ⟨bb,e,h⟩ k=>⟨bb,e,h.go k⟩,trivial⟩) (by exact⟨λG vs w w' ⟨h1,h2,h3⟩ k=>⟨h1,h2.ext k,h3.ext k⟩,λG vs w w' ⟨h1,h2,h3⟩ k=>⟨h1,h2.ext k,h3.ext k⟩,λG vs w w' h k=>h.ext k,trivial⟩) (by exact λS G vs w w' h k=>h.ext k) (⟨rfl,bj,aj.refl _ _⟩) (by exact λ_ _ _ h _=>h)
  refine uf (λx ld pT aR rP qq=>?_) ?_
  refine WZ ?_
  exact uv
  refine uf (λx ld pT aR rP qq=>?_) ?_
  refine WZ ?_
  exact uv
  refine uf (λx ld pT aR rP qq=>?_) ?_
  refine WZ ?_
  exact uv
  refine ue 0 (λx ld pT aR rP qq hJ hlen=>?_) ?_
  have aV:=jj hlen
  subst aV
  obtain⟨bP,bj,bS⟩:=hJ
  refine WZ ?_
  exact uW pT (Fr.refl _ _) qq (⟨bP,bj,bS⟩)
  refine uf (λx ld pT aR rP qq=>?_) ?_
  have cQ:=cQ.go rP
  refine WZ ?_
  exact uv
  refine uf (λx ld pT aR rP qq=>?_) ?_
  refine WZ ?_
  exact uv
  refine uf (λx ld pT aR rP qq=>?_) ?_
  refine fF cB aL rfl rfl λAM pU agV agW=>?_
  exact up pU (⟨_,rfl,agV.o qq⟩)
  refine ue 1 (λx ld pT aR rP qq hJ hlen=>?_) ?_
  obtain⟨q0,aV⟩:=jk hlen
  subst aV
  intro v6 d6
  obtain⟨bb,e6,fH⟩:=d6
  subst e6
  obtain⟨bP,bj,bS⟩:=hJ
  subst bP
  refine UY cB aL rfl rfl rfl rfl rfl rfl (hS.ext bS).ex ‹_› (λx hx=>mR _ (hS.mem.2 (by simp[hx]))) fH.gX om λv9 g9 AM cO aC eA cR et=>?_
  exact uE _ cR et (⟨bj.aG aC (λh=>(sN b h).2.1 rfl),et,bS.any.trans (aC.mono (λx hx=>mK _ hx)),g9,rfl,cO,eA.imp id (λh=>⟨_,h,bS.size⟩)⟩)
  refine ud (λx ld pT aR S rP qq hJ hlen=>?_) ?_
  obtain⟨q0,q1,aV⟩:=k8 hlen
  subst aV
  obtain⟨bb,cap,e1,rN,rv,jV,hO,uP⟩:=J5.form hJ
  have e2:q1=_:=e1
  subst e2
  refine zi cB aL rfl rfl (by rw[gZ];omega) ?_
  exact uD (aj.refl _ _) rfl
  refine uu (λx ld pT aR S rP qq hJ Cq hlen=>?_) ?_
  obtain⟨q0,q1,aV⟩:=k8 hlen
  subst aV
  have dv:=dv.go rP
  have hJ:J5 t5 (w1.heap.size::E) G2 oC b vt (.int .i64 (q.2.2:Int)) (.slice o4 (N1++[nx]).length o5) (.slice ae (cX X1).length ce) ge X1 q.2.1.aq (S 9) (S 12) pT q1 ld:=hJ
  rw[Cq] at hJ
  obtain⟨bb,cap,e1,rN,rv,jV,hO,uP⟩:=J5.form hJ
  subst e1
  refine sJ (i:=(cX X1).length) (vs:=[str q.2.1.aq.aw,.slice a9 n9 c9]) (row:=q.2.1.aq.enc) aL rfl rfl rfl rfl (Nat.zero_add _) hO ‹_› rN (by rw[gZ,gZ];simp) rfl (oG _) dv.ko λAM pU rJ dA=>?_
  rw[sL,gZ] at dA
  exact uU pT (Fr.of pU (by simpa using rN)) ((λx hx=>lL (qq x hx) (aj.size pU))) (J5.fill hJ jV (by rintro rfl;rcases rv with h|h;(·exact(sN _ h).2.1 rfl);(·omega)) rv uP pU (by have e3:(X1++[if false=true then q.2.1.aq else au.mk [] []]).set X1.length q.2.1.aq=X1++[q.2.1.aq]:=sm;rw[e3] at dA;exact dA))
  refine uf (λx ld pT aR rP qq=>?_) ?_
  refine WZ ?_
  exact uv
  refine uf (λx ld pT aR rP qq=>?_) ?_
  refine WZ ?_
  exact uv
  refine uu (λx ld pT aR S rP qq hJ Cq hlen=>?_) ?_
  obtain⟨q0,q1,aV⟩:=k8 hlen
  subst aV
  have hJ:J5 t5 (w1.heap.size::E) G2 oC b vt (.int .i64 (q.2.2:Int)) (.slice o4 (N1++[nx]).length o5) (.slice ae (cX X1).length ce) ge X1 q.2.1.aq (S 9) (S 12) pT q1 ld:=hJ
  rw[Cq] at hJ
  obtain⟨bb,cap,e1,rN,rv,GX,hO,uP⟩:=J5.form hJ
  subst e1
  have NN:=hJ.box
  refine fz (o:=3) DE rfl rfl rfl NN rfl λAM pU Cr rJ=>?_
  exact uU pT (Fr.of pU (by rw[GX];simp[dU])) ((λx hx=>lL (qq x hx) (aj.size pU))) (J5.field hJ pU Cr (λg9 _ eA hx=>by rcases eA with h|⟨y,h,hy⟩;(·rw[h] at hx;exact(sN _ hx).2.1 rfl);(·rw[h] at hx;simp at hx;omega)) (by rw[GX];simp[dU]))
  exact trivial
  intro x kI l8 aR jy mO hJ hlen
  obtain⟨q0,q1,aV⟩:=k8 hlen
  subst aV
  intro v6 d6
  intro v9
  intro v12
  have dM:=dM.go jy;have dW:=dW.go jy
  change OW _ _ _ _ [] (bm (bg _ x _) (zZ 43 [_,_,_,_,_,_,_,_,_]++[(100009,_),(52,_),(53,_),(100012,_)])) _
  have hJ:J5 t5 (w1.heap.size::E) G2 oC b vt (.int .i64 (q.2.2:Int)) (.slice o4 (N1++[nx]).length o5) (.slice ae (cX X1).length ce) ge X1 q.2.1.aq true true l8 q1 kI:=hJ
  obtain⟨g9,jV,cO,eA⟩:=hJ.ex
  subst jV
  obtain⟨G3,yo,jn,U6⟩:=hS.AF cO hJ.aG eA
  have aF:=aF.aG hJ.aG (by intro hx;rcases mC.1 hx with h|h;(·exact wA (by simp[h]));(·exact(sN _ h).1 sm))
  have hR:=hR.go jn
  have bj:=hJ.box
  have Ve:∀x,x∈(w1.heap.size::E)++G3->x∈ge.toList++(g9.toList++((w1.heap.size::E)++G2)):=(λx hx=>by rcases mA.1 hx with h|h;(·exact mR _ (mR _ (List.mem_append_left _ h)));(·exact U6 x h))
  have dW:=dW.iF Ve
  have dM:fp ((w1.heap.size::E)++G3) kI _ _ _:=⟨dM.cells,dM.lt,λhx=>dM.out (Ve _ hx)⟩
  have av:M5 t5 (w1.heap.size::E) G3 kI b ag q.2.2 (N1++[nx]) (X1++[q.2.1.aq]):=⟨_,_,_,_,_,bj,yo⟩
  refine WI ?_
  refine zi (i:=3) cB aL rfl rfl ((show 3<4 from om))<|W ?_
  refine aA (ih eb om ba.2.2 ag q.2.2 (N1++[nx]) (X1++[q.2.1.aq]) (hB.sub ea.n om om so so) (w1.heap.size::E) G3 b _ kI av dW) ?_
  rintro NV qo ⟨G4,⟨mW,qp⟩,cR⟩
  obtain⟨a5,n5,c5,e5,_,_⟩:=dj mW
  subst e5
  have hR:=hR.go cR
  have aF:=aF.aG cR.aG (av.nE sm)
  have av:=qp
  refine cw aL rfl rfl rfl aF rfl λCl ym aF df=>?_
  have av:=av.aD ym sm;have mW:=mW.aD ym sm
  have hR:Fr F w G4 Cl:=⟨hR.aG.since ym (λx hx=>.inr (by simp at hx;omega)),hR.mem⟩
  refine W ?_
  exact⟨[_],fb eQ aL rfl aF rfl,by rw[JQ];exact⟨G4,⟨mW.iF (λx hx=>mK _ hx),(by have e1:aK++(q.1++(nx,q.2.1)::(aY ag eb q.2.2).1).map Prod.fst=(N1++[nx])++(aY ag eb q.2.2).1.map Prod.fst:=(by rw[Cn];simp);have e2:exprs++(q.1++(nx,q.2.1)::(aY ag eb q.2.2).1).map (λp=>p.2.aq)=(X1++[q.2.1.aq])++(aY ag eb q.2.2).1.map (λp=>p.2.aq):=(by rw[Co];simp);show M5 t5 E G4 _ b ag _ (aK++(q.1++(nx,q.2.1)::(aY ag eb q.2.2).1).map Prod.fst) (exprs++(q.1++(nx,q.2.1)::(aY ag eb q.2.2).1).map (λp=>p.2.aq));rw[e1,e2];exact av.drop)⟩,hR⟩⟩
  have po:e.head≠fV:=λhh=>h2 (ji.trans hh)
  refine W ?_
  refine zc rfl (λh3=>?_) (λh3=>?_)
  obtain⟨nf,nx,tA,tB,eb,rfl⟩:=Jv ba (ji.symm.trans h3)
  have wo:(Ex.fn nf nx tA tB eb).n=3+tA.n+tB.n+eb.n:=rfl
  have JC:(Ex.fn nf nx tA tB eb).aq.ak.length=6:=rfl
  obtain⟨b1,eR,gd,gh,e1,bF,cK⟩:=eS aQ (i:=5) om
  cases e1
  have cK:bC ((gb::w1.heap.size::E)++F) w6 _ eb.aq:=cK
  have aX:∃X,X=my ag eb n:=⟨_,rfl⟩
  obtain⟨X,hX⟩:=aX
  refine WZ ?_
  apply jF cT (((gb::w1.heap.size::E)++F)) 8 (rA 61 8) (rA 61 8) [[],[0],[],[],[3],[4],[2,5],[1]] [Ie.v _,Ie.v _,Ie.v _,Ie.v _,Ie.v _,Ie.v _,Ie.e 0,Ie.v _] [6] [fun(G:List Nat) (vs:List Value) (ww:World)=>G=((gb::w1.heap.size::E)++F)∧jY E F w ww F b ag n aK exprs gb w1.heap.size (.slice (some ⟨gb,0,none⟩) (Ex.fn nf nx tA tB eb).aq.ak.length ir) (Ex.fn nf nx tA tB eb).aq.ak,fun(G:List Nat) (vs:List Value) (ww:World)=>∃G9,G=((gb::w1.heap.size::E)++G9)∧jY E G9 w ww F b ag (aY ag eb n).2.2 aK exprs gb w1.heap.size (.slice (some ⟨gb,0,none⟩) (Ex.fn nf nx tA tB eb).aq.ak.length ir) (Ex.fn nf nx tA tB eb).aq.ak∧bC ((gb::w1.heap.size::E)++G9) ww (vs.getD 0 undef) (my ag eb n).aq] de rfl aS.cD (by exact trivial) (by exact⟨λG vs w w' ⟨h1,h2⟩ k=>⟨h1,h2.ext k⟩,λG vs w w' ⟨G9,h1,h2,h3⟩ k=>⟨G9,h1,h2.ext k,h3.ext k⟩,trivial⟩) (⟨rfl,aS⟩)
  refine FA ?_
  refine vf (λ_ _ _ _ _ _=>zi (i:=5) cB aL rfl rfl ((show 5<6 from om)) fv) ?_
  refine FA ?_
  refine ve 0 (λx w7 G7 aR mX lg hJ hlen=>?_) ?_
  have aV:=jj hlen
  subst aV
  have cK:=cK.go mX
  obtain⟨bP,aS⟩:=hJ
  subst bP
  refine aA (JM ba.2.2.2.2.2 (ih eb om ba.2.2.2.2.2) ag n aK exprs (hB.sub 0 om om sm sm) (gb::w1.heap.size::E) F b _ w7 aS.m cK) ?_
  rintro Cg w8 ⟨⟨dv,qt⟩,cR⟩
  exact fe _ (cR.in _) qt.bG.2.2 (⟨F,rfl,aS.call qt cR,dv⟩)
  refine vf (λ_ _ _ _ _ _=>zi (i:=5) cB aL rfl rfl ((show 5<6 from om)) fv) ?_
  exact trivial
  intro x qQ JT aR wK JU hJ hlen
  obtain⟨q0,aV⟩:=jk hlen
  subst aV
  have bA:=bA.go wK
  change OW _ _ _ _ _ (bm (bg _ x _) (zZ 61 [_,_,_,_,_,_,_,_])) _
  obtain⟨G3,bP,aS,dv⟩:=hJ
  subst bP
  obtain⟨a7,n7,c7,e7,_,_⟩:=dj dv
  have e8:q0=_:=e7
  subst e8
  refine sJ (i:=5) (vs:=[str (my ag eb n).aq.aw,.slice a7 n7 c7]) (row:=(my ag eb n).aq.enc) aL rfl rfl rfl rfl (by first|rfl|exact Nat.zero_add _) aS.own aS.cD sm (by rw[gZ];omega) rfl (oG _) dv.ko λwq l7 rJ dA=>?_
  rw[sL] at dA
  have bA:=bA.aD l7 aS.jd
  have aS:=aS.store l7 dA
  refine W ?_
  refine cw aL rfl rfl rfl aS.bx rfl λlH lI cJ kG=>?_
  obtain⟨rK,rL,uX⟩:=aS.fin lI
  refine W ?_
  exact⟨[_],fb eQ aL rfl cJ rfl,by show JG ag E F b aK exprs w ([],.fn nf nx tA tB (my ag eb n),(aY ag eb n).2.2) _ _;exact⟨G3,⟨rK,by rw[List.map_nil,List.append_nil,List.map_nil,List.append_nil];exact rL⟩,uX⟩⟩
  have qO:e.head≠gF:=λhh=>h3 (ji.trans hh)
  refine W ?_
  refine zc rfl (λh4=>?_) (λh4=>?_)
  obtain⟨ea,eb,ec,rfl⟩:=UC ba (ji.symm.trans h4)
  have wo:(Ex.ite ea eb ec).n=1+ea.n+eb.n+ec.n:=rfl
  have JC:(Ex.ite ea eb ec).aq.ak.length=4:=rfl
  have JR:=Va ag ea n
  have oK:=U9 ag ea n
  have aX:∃q,q=dz ag (aY ag ea n):=⟨_,rfl⟩
  obtain⟨q,hq⟩:=aX
  have JQ:aY ag (.ite ea eb ec) n=(q.1,.ite q.2.1 (my ag eb q.2.2) (my ag ec (aY ag eb q.2.2).2.2),(aY ag ec (aY ag eb q.2.2).2.2).2.2):=(by rw[hq];rfl)
  rw[<-hq] at JR oK
  have Uz:=ic ag eb q.2.2
  have vD:(ea.n+eb.n)*(2*(ag.length+2))=ea.n*(2*(ag.length+2))+eb.n*(2*(ag.length+2)):=Nat.add_mul _ _ _
  obtain⟨b1,eR,gd,gh,e1,bF,cK⟩:=eS aQ (i:=1) om
  cases e1
  have cK:bC ((gb::w1.heap.size::E)++F) w6 _ ea.aq:=cK
  refine WZ ?_
  apply jF cT (((gb::w1.heap.size::E)++F)) 8 (rA 72 8) (rA 72 8) [[],[0],[],[],[3],[4],[2,5],[1]] [Ie.v _,Ie.v _,Ie.v _,Ie.v _,Ie.v _,Ie.v _,Ie.e 0,Ie.v _] [6] [fun(G:List Nat) (vs:List Value) (ww:World)=>G=((gb::w1.heap.size::E)++F)∧jY E F w ww F b ag n aK exprs gb w1.heap.size (.slice (some ⟨gb,0,none⟩) (Ex.ite ea eb ec).aq.ak.length ir) (Ex.ite ea eb ec).aq.ak,fun(G:List Nat) (vs:List Value) (ww:World)=>∃G9,G=((gb::w1.heap.size::E)++G9)∧jY E G9 w ww F b ag q.2.2 (aK++q.1.map Prod.fst) (exprs++q.1.map λp=>p.2.aq) gb w1.heap.size (.slice (some ⟨gb,0,none⟩) (Ex.ite ea eb ec).aq.ak.length ir) (Ex.ite ea eb ec).aq.ak∧bC ((gb::w1.heap.size::E)++G9) ww (vs.getD 0 undef) q.2.1.aq] de rfl aS.cD (by exact trivial) (by exact⟨λG vs w w' ⟨h1,h2⟩ k=>⟨h1,h2.ext k⟩,λG vs w w' ⟨G9,h1,h2,h3⟩ k=>⟨G9,h1,h2.ext k,h3.ext k⟩,trivial⟩) (⟨rfl,aS⟩)
  refine FA ?_
  refine vf (λ_ _ _ _ _ _=>zi (i:=1) cB aL rfl rfl ((show 1<4 from om)) fv) ?_
  refine FA ?_
  refine ve 0 (λx w7 G7 aR mX lg hJ hlen=>?_) ?_
  have aV:=jj hlen
  subst aV
  have cK:=cK.go mX
  obtain⟨bP,aS⟩:=hJ
  subst bP
  refine aA (U0 ba.1 (ih ea om ba.1) ag n aK exprs (hB.sub 0 om om sm sm) (gb::w1.heap.size::E) F b _ w7 aS.m cK) ?_
  rintro Cg w8 ⟨G9,⟨dv,qt⟩,cR⟩
  rw[<-hq] at dv qt
  exact fe _ (cR.in _) qt.bG.2.2 (⟨G9,rfl,aS.call qt cR,dv⟩)
  refine vf (λ_ _ _ _ _ _=>zi (i:=1) cB aL rfl rfl ((show 1<4 from om)) fv) ?_
  exact trivial
  intro x qQ JT aR wK JU hJ hlen
  obtain⟨q0,aV⟩:=jk hlen
  subst aV
  have aQ:=aQ.go wK;have bA:=bA.go wK;have bF:=bF.go wK;have cK:=cK.go wK
  change OW _ _ _ _ _ (bm (bg _ x _) (zZ 72 [_,_,_,_,_,_,_,_])) _
  obtain⟨G3,bP,aS,dv⟩:=hJ
  subst bP
  obtain⟨a7,n7,c7,e7,_,_⟩:=dj dv
  have e8:q0=_:=e7
  subst e8
  refine sJ (i:=1) (vs:=[str q.2.1.aq.aw,.slice a7 n7 c7]) (row:=q.2.1.aq.enc) aL rfl rfl rfl rfl (by first|rfl|exact Nat.zero_add _) aS.own aS.cD sm (by rw[gZ];omega) rfl (oG _) dv.ko λwq l7 rJ dA=>?_
  rw[sL] at dA
  have aQ:=aQ.aD l7 aS.jd;have bA:=bA.aD l7 aS.jd
  have aS:=aS.store l7 dA
  refine W ?_
  obtain⟨b2,l5,iA,iB,e2,bF,cK⟩:=eS aQ (i:=2) om
  cases e2
  have cK:bC ((gb::w1.heap.size::E)++G3) wq _ eb.aq:=cK
  apply jF cT (((gb::w1.heap.size::E)++G3)) 8 (rA 80 8) (rA 80 8) [[],[0],[],[],[3],[4],[2,5],[1]] [Ie.v _,Ie.v _,Ie.v _,Ie.v _,Ie.v _,Ie.v _,Ie.e 0,Ie.v _] [6] [fun(G:List Nat) (vs:List Value) (ww:World)=>G=((gb::w1.heap.size::E)++G3)∧jY E G3 w ww F b ag q.2.2 (aK++q.1.map Prod.fst) (exprs++q.1.map λp=>p.2.aq) gb w1.heap.size (.slice (some ⟨gb,0,none⟩) (Ex.ite ea eb ec).aq.ak.length ir) ((Ex.ite ea eb ec).aq.ak.set 1 q.2.1.aq),fun(G:List Nat) (vs:List Value) (ww:World)=>∃G9,G=((gb::w1.heap.size::E)++G9)∧jY E G9 w ww F b ag (aY ag eb q.2.2).2.2 (aK++q.1.map Prod.fst) (exprs++q.1.map λp=>p.2.aq) gb w1.heap.size (.slice (some ⟨gb,0,none⟩) (Ex.ite ea eb ec).aq.ak.length ir) ((Ex.ite ea eb ec).aq.ak.set 1 q.2.1.aq)∧bC ((gb::w1.heap.size::E)++G9) ww (vs.getD 0 undef) (my ag eb q.2.2).aq] de rfl aS.cD (by exact trivial) (by exact⟨λG vs w w' ⟨h1,h2⟩ k=>⟨h1,h2.ext k⟩,λG vs w w' ⟨G9,h1,h2,h3⟩ k=>⟨G9,h1,h2.ext k,h3.ext k⟩,trivial⟩) (⟨rfl,aS⟩)
  refine FA ?_
  refine vf (λ_ _ _ _ _ _=>zi (i:=2) cB aL rfl rfl ((show 2<4 from om)) fv) ?_
  refine FA ?_
  refine ve 0 (λx lH JE aR Ek NC hJ hlen=>?_) ?_
  have aV:=jj hlen
  subst aV
  have cK:=cK.go Ek
  obtain⟨bP,aS⟩:=hJ
  subst bP
  refine aA (JM ba.2.1 (ih eb om ba.2.1) ag q.2.2 (aK++q.1.map Prod.fst) (exprs++q.1.map λp=>p.2.aq) (hB.sub ea.n om om sm sm) (gb::w1.heap.size::E) G3 b _ lH aS.m cK) ?_
  rintro Cg oz ⟨⟨dv,qt⟩,cR⟩
  exact fe _ (cR.in _) qt.bG.2.2 (⟨G3,rfl,aS.call qt cR,dv⟩)
  refine vf (λ_ _ _ _ _ _=>zi (i:=2) cB aL rfl rfl ((show 2<4 from om)) fv) ?_
  exact trivial
  intro x Hb G87 aR JV ao2 hJ hlen
  obtain⟨q0,aV⟩:=jk hlen
  subst aV
  have aQ:=aQ.go JV;have bA:=bA.go JV;have bF:=bF.go JV;have cK:=cK.go JV
  change OW _ _ _ _ _ (bm (bg _ x _) (zZ 80 [_,_,_,_,_,_,_,_])) _
  obtain⟨G3,bP,aS,dv⟩:=hJ
  subst bP
  obtain⟨a7,n7,c7,e7,_,_⟩:=dj dv
  have e8:q0=_:=e7
  subst e8
  refine sJ (i:=2) (vs:=[str (my ag eb q.2.2).aq.aw,.slice a7 n7 c7]) (row:=(my ag eb q.2.2).aq.enc) aL rfl rfl rfl rfl (by first|rfl|exact Nat.zero_add _) aS.own aS.cD sm (by rw[gZ,List.length_set];omega) rfl (oG _) dv.ko λCh yp rJ dA=>?_
  rw[sL] at dA
  have aQ:=aQ.aD yp aS.jd;have bA:=bA.aD yp aS.jd
  have aS:=aS.store yp dA
  refine W ?_
  obtain⟨b3,Cf,pM,pN,e3,bF,cK⟩:=eS aQ (i:=3) om
  cases e3
  have cK:bC ((gb::w1.heap.size::E)++G3) Ch _ ec.aq:=cK
  apply jF cT (((gb::w1.heap.size::E)++G3)) 8 (rA 88 8) (rA 88 8) [[],[0],[],[],[3],[4],[2,5],[1]] [Ie.v _,Ie.v _,Ie.v _,Ie.v _,Ie.v _,Ie.v _,Ie.e 0,Ie.v _] [6] [fun(G:List Nat) (vs:List Value) (ww:World)=>G=((gb::w1.heap.size::E)++G3)∧jY E G3 w ww F b ag (aY ag eb q.2.2).2.2 (aK++q.1.map Prod.fst) (exprs++q.1.map λp=>p.2.aq) gb w1.heap.size (.slice (some ⟨gb,0,none⟩) (Ex.ite ea eb ec).aq.ak.length ir) (((Ex.ite ea eb ec).aq.ak.set 1 q.2.1.aq).set 2 (my ag eb q.2.2).aq),fun(G:List Nat) (vs:List Value) (ww:World)=>∃G9,G=((gb::w1.heap.size::E)++G9)∧jY E G9 w ww F b ag (aY ag ec (aY ag eb q.2.2).2.2).2.2 (aK++q.1.map Prod.fst) (exprs++q.1.map λp=>p.2.aq) gb w1.heap.size (.slice (some ⟨gb,0,none⟩) (Ex.ite ea eb ec).aq.ak.length ir) (((Ex.ite ea eb ec).aq.ak.set 1 q.2.1.aq).set 2 (my ag eb q.2.2).aq)∧bC ((gb::w1.heap.size::E)++G9) ww (vs.getD 0 undef) (my ag ec (aY ag eb q.2.2).2.2).aq] de rfl aS.cD (by exact trivial) (by exact⟨λG vs w w' ⟨h1,h2⟩ k=>⟨h1,h2.ext k⟩,λG vs w w' ⟨G9,h1,h2,h3⟩ k=>⟨G9,h1,h2.ext k,h3.ext k⟩,trivial⟩) (⟨rfl,aS⟩)
  refine FA ?_
  refine vf (λ_ _ _ _ _ _=>zi (i:=3) cB aL rfl rfl ((show 3<4 from om)) fv) ?_
  refine FA ?_
  refine ve 0 (λx uT G89 aR agX ao4 hJ hlen=>?_) ?_
  have aV:=jj hlen
  subst aV
  have cK:=cK.go agX
  obtain⟨bP,aS⟩:=hJ
  subst bP
  refine aA (JM ba.2.2 (ih ec om ba.2.2) ag (aY ag eb q.2.2).2.2 (aK++q.1.map Prod.fst) (exprs++q.1.map λp=>p.2.aq) (hB.sub (ea.n+eb.n) om om sm sm) (gb::w1.heap.size::E) G3 b _ uT aS.m cK) ?_
  rintro Cg kI ⟨⟨dv,qt⟩,cR⟩
  exact fe _ (cR.in _) qt.bG.2.2 (⟨G3,rfl,aS.call qt cR,dv⟩)
  refine vf (λ_ _ _ _ _ _=>zi (i:=3) cB aL rfl rfl ((show 3<4 from om)) fv) ?_
  exact trivial
  intro x Vf ao5 aR agY ao6 hJ hlen
  obtain⟨q0,aV⟩:=jk hlen
  subst aV
  have bA:=bA.go agY
  change OW _ _ _ _ _ (bm (bg _ x _) (zZ 88 [_,_,_,_,_,_,_,_])) _
  obtain⟨G3,bP,aS,dv⟩:=hJ
  subst bP
  obtain⟨a7,n7,c7,e7,_,_⟩:=dj dv
  have e8:q0=_:=e7
  subst e8
  refine sJ (i:=3) (vs:=[str (my ag ec (aY ag eb q.2.2).2.2).aq.aw,.slice a7 n7 c7]) (row:=(my ag ec (aY ag eb q.2.2).2.2).aq.enc) aL rfl rfl rfl rfl (by first|rfl|exact Nat.zero_add _) aS.own aS.cD sm (by rw[gZ,List.length_set,List.length_set];omega) rfl (oG _) dv.ko λGP JW rJ dA=>?_
  rw[sL] at dA
  have bA:=bA.aD JW aS.jd
  have aS:=aS.store JW dA
  refine W ?_
  refine cw aL rfl rfl rfl aS.bx rfl λNz Ck cJ kG=>?_
  obtain⟨rK,rL,uX⟩:=aS.fin Ck
  refine W ?_
  exact⟨[_],fb eQ aL rfl cJ rfl,by rw[JQ];exact⟨G3,⟨rK,rL⟩,uX⟩⟩
  have mF:e.head≠gm:=λhh=>h4 (ji.trans hh)
  have En:=Vc eD po qO
  have Bn:=agK ag n eD po qO mF
  have hpm:=agL eD po qO
  refine W ?_
  refine eH (λk:Nat=>[(0,.pointer (some ⟨b,0,none⟩)),(4,.pointer (some ⟨w1.heap.size,0,none⟩)),(5,.slice (some ⟨b0,AA,none⟩) e.aq.ak.length c),(6,.pointer (some ⟨w4.heap.size,0,none⟩)),(8,.int .i64 ((e.from+k:Nat):Int))]) (λk ww=>∃G2,Fr ((gb::w1.heap.size::E)++F) w6 ((gb::w1.heap.size::E)++G2) ww∧jY E G2 w ww F b ag (gx ag e n k).2.2 (aK++(gx ag e n k).1.map Prod.fst) (exprs++(gx ag e n k).1.map λp=>p.2.aq) gb w1.heap.size (.slice (some ⟨gb,0,none⟩) e.aq.ak.length ir) (lG [bL e.head] (gx ag e n k).2.1 e)∧k<=e.kids.length) (λk=>e.kids.length-k) (0) (⟨rfl,rfl,rfl,rfl,by rw[En];rfl⟩) (⟨F,Fr.refl _ _,by rw[show lG [bL e.head] (gx ag e n 0).2.1 e=e.aq.ak from hpm.symm];simpa[gx] using aS,om⟩) λgg w7 e7 hI=>?_
  obtain⟨G2,o3,aS,hk⟩:=hI
  have aQ:=aQ.go o3;have bA:=bA.go o3
  refine W ?_
  refine zc rfl (λh5=>?_) (λh5=>?_)
  have gK:gg<e.kids.length:=om
  have sy:=wj gg gK
  have fZ:=NS ag e n gg
  obtain⟨b1,eR,gd,gh,e1,bF,cK⟩:=eS aQ (i:=e.from+gg) om
  cases e1
  have cK:=cK.eq sy
  have tM:=FN ba gK
  have Bo:=ye gK
  have hkN:=Ca e (gg+1)
  have kT:=agJ ag e n hB gK
  refine WZ ?_
  apply jF cT (((gb::w1.heap.size::E)++G2)) 10 (rA 103 10) (rA 103 10) [[],[0],[],[],[],[],[4,5],[6],[3,7],[1,2]] [Ie.v _,Ie.v _,Ie.v _,Ie.v _,Ie.v _,Ie.v _,Ie.v _,Ie.v _,Ie.e 0,Ie.v _] [8] [fun(G:List Nat) (vs:List Value) (ww:World)=>G=((gb::w1.heap.size::E)++G2)∧jY E G2 w ww F b ag (gx ag e n gg).2.2 (aK++(gx ag e n gg).1.map Prod.fst) (exprs++(gx ag e n gg).1.map λp=>p.2.aq) gb w1.heap.size (.slice (some ⟨gb,0,none⟩) e.aq.ak.length ir) (lG [bL e.head] (gx ag e n gg).2.1 e),fun(G:List Nat) (vs:List Value) (ww:World)=>∃G9,G=((gb::w1.heap.size::E)++G9)∧jY E G9 w ww F b ag (gx ag e n (gg+1)).2.2 (aK++(gx ag e n (gg+1)).1.map Prod.fst) (exprs++(gx ag e n (gg+1)).1.map λp=>p.2.aq) gb w1.heap.size (.slice (some ⟨gb,0,none⟩) e.aq.ak.length ir) (lG [bL e.head] (gx ag e n gg).2.1 e)∧bC ((gb::w1.heap.size::E)++G9) ww (vs.getD 0 undef) (dz ag (aY ag (fL e gg) (gx ag e n gg).2.2)).2.1.aq] de rfl aS.cD (by exact trivial) (by exact⟨λG vs w w' ⟨h1,h2⟩ k=>⟨h1,h2.ext k⟩,λG vs w w' ⟨G9,h1,h2,h3⟩ k=>⟨G9,h1,h2.ext k,h3.ext k⟩,trivial⟩) (⟨rfl,aS⟩)
  refine FA ?_
  refine ve 0 (λx w8 G8 aR ag1 ao7 hJ hlen=>?_) ?_
  have aV:=jj hlen
  subst aV
  have cK:=cK.go ag1
  obtain⟨bP,aS⟩:=hJ
  subst bP
  refine aA (U0 tM.1 (ih (fL e gg) om tM.1) ag (gx ag e n gg).2.2 (aK++(gx ag e n gg).1.map Prod.fst) (exprs++(gx ag e n gg).1.map λp=>p.2.aq) kT (gb::w1.heap.size::E) G2 b _ w8 aS.m cK) ?_
  rintro Cg w9 ⟨G9,⟨dv,qt⟩,cR⟩
  rw[List.append_assoc,List.append_assoc,<-List.map_append,<-List.map_append] at qt
  exact fe _ (cR.in _) qt.bG.2.2 (⟨G9,rfl,aS.call qt cR,dv⟩)
  exact FZ
  intro x wq G47 aR ag2 ao9 hJ hlen
  obtain⟨q0,aV⟩:=jk hlen
  subst aV
  have o3:=o3.go ag2
  change OW _ _ _ _ _ (bm (bg _ x _) (zZ 103 [_,_,_,_,_,_,_,_,_,_])) _
  obtain⟨G3,bP,aS,dv⟩:=hJ
  subst bP
  obtain⟨a7,n7,c7,e7,_,_⟩:=dj dv
  have e8:q0=_:=e7
  subst e8
  have yU:((lG [bL e.head] (gx ag e n gg).2.1 e)).set (e.from+gg) (dz ag (aY ag (fL e gg) (gx ag e n gg).2.2)).2.1.aq=(lG [bL e.head] (gx ag e n (gg+1)).2.1 e):=(by have:=UE (pre:=[bL e.head]) (acc:=(gx ag e n gg).2.1) (e:=e) (y:=(dz ag (aY ag (fL e gg) (gx ag e n gg).2.2)).2.1) om;rw[show[bL e.head].length=e.from from En.symm,fZ] at this;exact this)
  refine sJ (i:=e.from+gg) (vs:=[str (dz ag (aY ag (fL e gg) (gx ag e n gg).2.2)).2.1.aq.aw,.slice a7 n7 c7]) (row:=(dz ag (aY ag (fL e gg) (gx ag e n gg).2.2)).2.1.aq.enc) aL rfl rfl rfl rfl (by first|rfl|exact Nat.zero_add _) aS.own aS.cD sm (by rw[gZ,UF om];simp;omega) rfl (oG _) dv.ko λlH lI rJ dA=>?_
  rw[sL,yU] at dA
  have o3:=o3.aD lI aS.jd
  have aS:=aS.store lI dA
  refine W ?_
  exact⟨gg+1,⟨rfl,rfl,rfl,rfl,congrArg (Value.int .i64) om⟩,⟨G3,o3,aS,om⟩,om⟩
  have fM:gg=e.kids.length:=by omega
  subst fM
  have fZ:=NS ag e n e.kids.length
  refine W ?_
  refine cw aL rfl rfl rfl aS.bx rfl λw8 cA cJ kG=>?_
  obtain⟨rK,rL,uX⟩:=aS.fin cA
  rw[UG fZ,<-Bn.2.1] at rK
  rw[<-Bn.1,<-Bn.2.2] at rL
  refine W ?_
  exact⟨[_],fb eQ aL rfl cJ rfl,⟨G2,⟨rK,rL⟩,uX⟩⟩
theorem Eo (s:ai):(bL s).size=1+s.length:=by simp[bL,au.size,au.size.sizes]
theorem ag3 (hk:fW h=true):h.length<=5:=by
 simp only[fW,oE,dE] at hk
 rcases hk with rfl|rfl<;>decide
theorem ag4 (hk:gH h=true):h.length<=5:=by
 simp only[gH,oE,dE] at hk
 rcases hk with(((rfl|rfl)|rfl)|rfl)|rfl<;>decide
theorem Ex.size:∀{e:Ex},e.ok->e.aq.size<=30*e.n
 | .at s,h=>by
  have:s.length<=4:=oo (e:=.at s) h
  show(bL s).size<=_
  rw[Eo];simp only[Ex.n];omega
 | .un hd a,h=>by
  have:=ag3 h.1
  have:=Ex.size h.2
  show 1+0+au.size.sizes [bL hd,a.aq]<=_
  simp only[au.size.sizes,Eo,Ex.n];omega
 | .bi hd a b,h=>by
  have:=ag4 h.1
  have:=Ex.size h.2.1
  have:=Ex.size h.2.2
  show 1+0+au.size.sizes [bL hd,a.aq,b.aq]<=_
  simp only[au.size.sizes,Eo,Ex.n];omega
 | .ite a b c,h=>by
  have:=Ex.size h.1
  have:=Ex.size h.2.1
  have:=Ex.size h.2.2
  have:gm.length=2:=rfl
  show 1+0+au.size.sizes [bL gm,a.aq,b.aq,c.aq]<=_
  simp only[au.size.sizes,Eo,Ex.n];omega
 | .lt x a b,h=>by
  have:=D3 h.1
  have:=Ex.size h.2.1
  have:=Ex.size h.2.2
  have:fV.length=3:=rfl
  show 1+0+au.size.sizes [bL fV,bL x,a.aq,b.aq]<=_
  simp only[au.size.sizes,Eo,Ex.n];omega
 | .fn f x A B e,h=>by
  have:=D3 h.1
  have:=D3 h.2.1
  have:=Ex.size h.2.2.2.2.2
  have:=A.size
  have:=B.size
  have:gF.length=3:=rfl
  show 1+0+au.size.sizes [bL gF,bL f,bL x,A.aq,B.aq,e.aq]<=_
  simp only[au.size.sizes,Eo,Ex.n];omega
theorem Ex.ag5 (h:e.ok):e.aq.text.length<=60*e.n:=by
 have h1:=LU e.aq _ (lR _) (Ex.wf h).wf
 have h2:=Ex.size h
 omega
theorem ag6 {q:Ex} (hq:nv e=some q):q.n<=4*e.n:=by
 unfold nv at hq
 cases hp:qg e with
 |none=>rw[hp] at hq;cases hq
 |some p=>
  have eT:p.n=e.n:=by
   unfold qg at hp
   split at hp
   ·cases hp;exact R8 _ e [] 0
   ·cases hp
  rw[hp,Option.bind_some] at hq
  split at hq
  ·cases hq
   have:=uF (kZ p.aq []) p 0
   show(nest _ _).n<=_
   rw[Mm];omega
  ·cases hq
theorem ag7 {p:Ex} (hp:qg e=some p):p.n=e.n:=by
 unfold qg at hp
 split at hp
 ·cases hp;exact R8 _ e [] 0
 ·cases hp
theorem ag8 {T:Nat} (h:aJ w b #[] T):dD L w T 2 (.slice (some ⟨b,0,none⟩) 0 0) (some b) []:=
 ⟨⟨[],MQ h,trivial⟩,sm⟩
theorem ag9 (ee:Ex) (hn:ee.n<=120) (ba:ee.ok) (v:Value) (w:World) (hv:bC [] w v ee.aq):
  bz Tryz.prog 150 [v] w λr w'=>(∃tv T,r= .tuple #[tv,.bool (nv ee).isSome]∧bC [] w' tv T∧∀f,nv ee=some f->T=f.aq)∧aj [] w w':=by
 have dd:=hv
 obtain⟨a,np,c,rfl,eK,aQ⟩:=dj hv
 have hK:=aj.refl [] w
 refine jr [.cell 2 74,.tmp 3] 32 Tryz.func150 rfl aa7 rfl rfl rfl ?_
 refine zr<|eu rfl λw1 aI aW db=>?_
 have hK:=hK.ext aI
 refine dk aL rfl rfl rfl λw2 az aN dJ=>?_
 have hK:=hK.grow;have hK:=hK.ext az;have aW:=aW.grow;have aW:=aW.ext az
 refine W ?_
 refine aA (agk ee hn ba _ [w1.heap.size] w2 (by have:=aN.lt;simpa using this) (bC.ext (bC.fresh dd (by intro x hx;simp at hx;right;omega)) hK)) ?_
 rintro v3 w3 ⟨jb,aH⟩
 have eU:=aH.size
 refine cG aH hK aW aN λhK aW aN=>?_
 obtain⟨tv,rfl,hT⟩:=jb
 have aX:∃p,p=(bK (cI ee [] []) ee [] 0).1:=⟨_,rfl⟩
 obtain⟨p,mG⟩:=aX
 rw[<-mG] at hT
 obtain⟨a9,n9,c9,e9,_,_⟩:=dj hT
 subst e9
 have fy:=aj.refl [] w3
 have jW:=hT
 refine W ?_
 refine dk aL rfl rfl rfl λw4 aO aF gC=>?_
 have hK:=hK.grow;have hK:=hK.ext aO;have aW:=aW.grow;have aW:=aW.ext aO;have aN:=aN.grow;have aN:=aN.ext aO;have fy:=fy.grow;have fy:=fy.ext aO
 refine cw aL rfl rfl rfl aF rfl λw5 aP aF iI=>?_
 have hK:=hK.aD aP sx;have aW:=aW.aD aP sx;have aN:=aN.aD aP sx;have fy:=fy.aD aP sx
 refine W ?_
 refine zc rfl (λh1=>?_) (λh1=>?_)
 have hx:qg ee=none:=(by simpa using h1)
 have Ep:nv ee=none:=by unfold nv;rw[hx];rfl
 refine W ?_
 refine cw aL rfl rfl rfl aN rfl λw6 bO aN kF=>?_
 have hK:=hK.aD bO sx
 refine W ?_
 exact⟨[_,_],⟨fb eQ aL rfl aN rfl,rfl⟩,⟨_,_,by rw[Ep];rfl,bC.ext dd hK,λf hf=>by rw[Ep] at hf;cases hf⟩,hK⟩
 have hp:qg ee=some p:=(by rw[mG];unfold qg at h1⊢;split;(·rfl);(·rename_i h9;rw[iN h9] at h1;exact absurd h1 sm))
 have Hc:=Mn ba hp
 have eT:=ag7 hp
 have Gu:=Ex.size Hc
 have UQ:=Ex.fg Hc
 have oh:=Se p.aq []
 rw[List.length_nil,Nat.zero_add,UQ] at oh
 have aX:∃ag,ag=kZ p.aq []:=⟨_,rfl⟩
 obtain⟨ag,NW⟩:=aX
 refine W ?_
 refine fN bh bf λw6 bO ND kF=>la bO hK aW aN fy aF λhK aW aN fy aF=>?_
 refine aA (agj p.aq.size p.aq (lR _) om (Ex.wf Hc).wf [] so _ _ (some _) w6 (bC.ext (bC.fresh jW (by intro x hx;simp at hx;right;omega)) fy) ND.kL) ?_
 rintro wI w7 ⟨g18,wL,Cu⟩
 have NX:=Cu.aG.size
 have NY:=wL.lt
 rw[<-NW] at wL oh
 obtain⟨a18,c18,uY⟩:=jw wL
 subst uY
 have hK:=hK.since Cu.aG (λx hx=>.inr (by have:=fy.size;simp at hx;omega))
 have fy:=fy.since Cu.aG (λx hx=>.inr (by simp at hx;omega))
 have aW:=aW.aG Cu.aG so
 have aN:=aN.aG Cu.aG so
 have aF:=aF.aG Cu.aG so
 have apc:=fy.size
 have apd:=aN.lt
 refine fN bh bf λw8 cA Cv kG=>la cA hK aN fy aF wL λhK aN fy aF wL=>?_
 refine fN cB aL λw9 aC sO df=>sB aC hK aN fy aF wL Cv λhK aN fy aF wL Cv=>?_
 refine iO (ac6 _ _ _ _ _ _ _ _ _ _ _) rfl rfl<|eu rfl λbZ cj tS xN=>IS cj hK aN fy aF wL Cv sO λhK aN fy aF wL Cv sO=>?_
 refine W ?_
 have aha:=Cv.lt
 have Vg:=sO.lt
 have xL:=fy.size
 have oX:∀x,x∈[w1.heap.size]++[w9.heap.size,w7.heap.size,w8.heap.size]->x∉g18.toList:=(λx hx fh=>by have h1:=NY x fh;have h2:=Cu.mem x fh;simp at hx h2;omega)
 have ape:=tS.lt
 have hmu:p.n*(2*(ag.length+2))<=120*(2*122):=Nat.mul_le_mul om om
 have hM:M5 t5 [w1.heap.size] [w9.heap.size,w7.heap.size,w8.heap.size] bZ w9.heap.size ag 0 [] []:=⟨_,_,_,some _,some _,tS,⟨wL.rep (λx hx fh=>oX x fh (by simp[hx])),Cv.kL,ag8 sO,rfl,by simp;omega,by intro x hx;simp at hx;omega⟩⟩
 refine aA (JM Hc (agM p.n p (lR _) Hc) ag 0 [] [] ⟨by omega,by simp;omega,by simp;omega,om⟩ [w1.heap.size] _ w9.heap.size _ bZ hM (bC.ext (bC.fresh jW (by intro x hx;simp at hx;rcases hx with h|h;(·exact .inl (by simp[h]));(·right;omega))) fy)) ?_
 rintro v25 ey ⟨⟨sP,ahc⟩,NZ⟩
 have aX:∃q,q=my ag p 0:=⟨_,rfl⟩
 obtain⟨q,hq⟩:=aX
 rw[<-hq] at sP
 obtain⟨mY,mZ,nh,N0,_,_⟩:=dj sP
 subst N0
 have ahd:=NZ.aG.size
 have hK:=hK.since NZ.aG (λx hx=>.inr (by have:=hK.size;simp at hx;omega))
 have aN:=aN.aG NZ.aG so
 obtain⟨vt,vn,vx,gn,ge,bj,_⟩:=ahc.open
 have bj:aJ ey w9.heap.size [vt,.int .i64 ((aY ag p 0).2.2:Int),vn,vx].toArray 190:=bj
 have sP:=sP.iF (L':=[w1.heap.size]) sm
 refine dk aL rfl rfl rfl λfa cV cQ He=>?_
 have hK:=hK.grow;have hK:=hK.ext cV;have aN:=aN.grow;have aN:=aN.ext cV;have sP:=sP.grow;have sP:=sP.ext cV;have bj:=bj.grow;have bj:=bj.ext cV
 refine cw aL rfl rfl rfl cQ rfl λjf gw cQ GV=>?_
 have hK:=hK.aD gw sx;have aN:=aN.aD gw sx;have sP:=sP.aD gw sx;have bj:=bj.aD gw sx
 refine W ?_
 refine yZ cT (cu w1.heap.size ([str q.aq.aw,.slice mY mZ nh]) 74) 8 (rA 26 6++[100006,3]) (rA 26 6++[100006,3]) [[],[],[1],[2],[3],[4],[0],[5]] [λv _=>v=(.agg #[str q.aq.aw,.slice mY mZ nh]),λv _=>v=(.pointer (some ⟨w9.heap.size,0,none⟩)),λv _=>v=(.pointer (some ⟨w9.heap.size,0,none⟩)),λv _=>v=(.pointer (some ⟨w9.heap.size,0+1,none⟩)),λv _=>v=(.int .i64 ((aY ag p 0).2.2:Int)),λv _=>v=(.bool (decide (((aY ag p 0).2.2:Int)<=100))),λ_ ww=>aJ ww w1.heap.size ([str q.aq.aw,.slice mY mZ nh]).toArray 74,λv _=>v=(.bool (decide (((aY ag p 0).2.2:Int)<=100)))] de (fo (fo (fo (fo (fo (fo (Dq (fo trivial)))))))) (λwd aB=>?_) ?_
 refine dY ?_ ?_
 intro x vs ix e du hd he
 replace du:=(cu w1.heap.size ([str q.aq.aw,.slice mY mZ nh]) 74).trans aB du
 have cQ:=cQ.aD du.1 sx
 replace he:e=bm (bg _ x _) []:=he
 subst he
 refine W ?_
 exact dn ((cu w1.heap.size ([str q.aq.aw,.slice mY mZ nh]) 74).refl _) rfl
 refine dY ?_ ?_
 intro x vs ix e du hd he
 replace du:=(cu w1.heap.size ([str q.aq.aw,.slice mY mZ nh]) 74).trans aB du
 replace he:e=bm (bg _ x _) []:=he
 subst he
 refine W ?_
 exact dn ((cu w1.heap.size ([str q.aq.aw,.slice mY mZ nh]) 74).refl _) rfl
 refine dY ?_ ?_
 intro x vs ix e du hd he
 have d1:vs 1=(.pointer (some ⟨w9.heap.size,0,none⟩)):=hd
 replace du:=(cu w1.heap.size ([str q.aq.aw,.slice mY mZ nh]) 74).trans aB du
 replace he:e=bm (bg _ x _) [(27,vs 1)]:=he
 rw[d1] at he
 subst he
 refine W ?_
 exact dn ((cu w1.heap.size ([str q.aq.aw,.slice mY mZ nh]) 74).refl _) rfl
 refine dY ?_ ?_
 intro x vs ix e du hd he
 have d2:vs 2=(.pointer (some ⟨w9.heap.size,0,none⟩)):=hd
 replace du:=(cu w1.heap.size ([str q.aq.aw,.slice mY mZ nh]) 74).trans aB du
 replace he:e=bm (bg _ x _) [(28,vs 2)]:=he
 rw[d2] at he
 subst he
 refine W ?_
 exact dn ((cu w1.heap.size ([str q.aq.aw,.slice mY mZ nh]) 74).refl _) rfl
 refine dY ?_ ?_
 intro x vs ix e du hd he
 have d3:vs 3=(.pointer (some ⟨w9.heap.size,0+1,none⟩)):=hd
 replace du:=(cu w1.heap.size ([str q.aq.aw,.slice mY mZ nh]) 74).trans aB du
 have bj:=bj.aD du.1 sx
 replace he:e=bm (bg _ x _) [(29,vs 3)]:=he
 rw[d3] at he
 subst he
 refine W ?_
 exact dn ((cu w1.heap.size ([str q.aq.aw,.slice mY mZ nh]) 74).refl _) rfl
 refine dY ?_ ?_
 intro x vs ix e du hd he
 have d4:vs 4=(.int .i64 ((aY ag p 0).2.2:Int)):=hd
 replace du:=(cu w1.heap.size ([str q.aq.aw,.slice mY mZ nh]) 74).trans aB du
 replace he:e=bm (bg _ x _) [(30,vs 4)]:=he
 rw[d4] at he
 subst he
 refine W ?_
 exact dn ((cu w1.heap.size ([str q.aq.aw,.slice mY mZ nh]) 74).refl _) rfl
 refine dY ?_ ?_
 intro x vs ix e du hd he
 have d0:vs 0=(.agg #[str q.aq.aw,.slice mY mZ nh]):=hd
 replace du:=(cu w1.heap.size ([str q.aq.aw,.slice mY mZ nh]) 74).trans aB du
 obtain⟨us,uN,uO⟩:=du.2.2 ⟨_,(by rfl),aN⟩
 replace he:e=bm (bg _ x _) [(26,vs 0)]:=he
 rw[d0] at he
 subst he
 refine cw aL rfl rfl rfl uO (by rw[uN];rfl) λo7 jg hb Jt=>W ?_
 exact dn ⟨jg,λ_=>hb,λ_=>⟨_,rfl,hb⟩⟩ hb
 refine dY ?_ ?_
 intro x vs ix e du hd he
 have d5:vs 5=(.bool (decide (((aY ag p 0).2.2:Int)<=100))):=hd
 replace du:=(cu w1.heap.size ([str q.aq.aw,.slice mY mZ nh]) 74).trans aB du
 replace he:e=bm (bg _ x _) [(31,vs 5)]:=he
 rw[d5] at he
 subst he
 refine W ?_
 exact dn ((cu w1.heap.size ([str q.aq.aw,.slice mY mZ nh]) 74).refl _) rfl
 exact trivial
 intro x vs rQ JX dO
 have d0:vs 0=(.agg #[str q.aq.aw,.slice mY mZ nh]):=dO 0 de
 have d1:vs 1=(.pointer (some ⟨w9.heap.size,0,none⟩)):=dO 1 de
 have d2:vs 2=(.pointer (some ⟨w9.heap.size,0,none⟩)):=dO 2 de
 have d3:vs 3=(.pointer (some ⟨w9.heap.size,0+1,none⟩)):=dO 3 de
 have d4:vs 4=(.int .i64 ((aY ag p 0).2.2:Int)):=dO 4 de
 have d5:vs 5=(.bool (decide (((aY ag p 0).2.2:Int)<=100))):=dO 5 de
 have d6:aJ rQ w1.heap.size ([str q.aq.aw,.slice mY mZ nh]).toArray 74:=dO 6 de
 have d7:vs 7=(.bool (decide (((aY ag p 0).2.2:Int)<=100))):=dO 7 de
 have hK:=hK.aD JX.1 sx;have sP:=sP.aD JX.1 sx
 have aN:=d6
 change OW _ _ _ _ [] (bm (bg _ x _) (zZ 26 [vs 0,vs 1,vs 2,vs 3,vs 4,vs 5]++[(100006,vs 6),(3,vs 7)])) _
 rw[d0,d1,d2,d3,d4,d5,d7]
 refine W ?_
 exact⟨[_,_],⟨fb eQ aL rfl aN rfl,rfl⟩,⟨_,q.aq,congrArg (λb=>Value.tuple #[_,.bool b]) (show decide (((aY ag p 0).2.2:Int)<=100)=(nv ee).isSome from by unfold nv;rw[hp,Option.bind_some,<-NW];by_cases h:(aY ag p 0).2.2<=100;(·rw[iP h];exact dT om);(·rw[iN h];exact dF om)),sP.iF sm,λf hf=>by unfold nv at hf;rw[hp,Option.bind_some,<-NW] at hf;split at hf;(·cases hf;rw[hq]);(·cases hf)⟩,hK⟩
theorem ahe (s:ai) (w:World):bz Tryz.prog 126 [str s] w λr w'=>(∃x ok,r= .tuple #[str x,.bool ok]∧(ok=true↔∃e f,bB s=some e.aq∧e.ok∧e.n<=120∧nv e=some f∧l4 f.aq.text=true)∧∀e f,bB s=some e.aq->e.ok->nv e=some f->ok=true->x=f.aq.text)∧aj [] w w':=by
 have hK:=aj.refl [] w
 refine bX [.tmp 2,.tmp 3] 30 Tryz.func126 rfl aaP rfl rfl ?_
 refine W ?_
 refine aA (GA s [] w sm) ?_
 rintro v1 w1 ⟨fX,aI⟩
 have dm:=aI.size
 have hK:=hK.ext aI
 obtain⟨t,tv,rfl,ht,hp⟩:=fX
 obtain⟨pa,pn,pc,rfl,eT,aQ⟩:=dj ht
 refine W ?_
 refine dk aL rfl rfl rfl λw2 az aF dJ=>?_
 have hK:=hK.grow;have hK:=hK.ext az;have ht:=ht.grow;have ht:=ht.ext az
 refine cw aL rfl rfl rfl aF rfl λw3 aH aF gv=>?_
 have hK:=hK.aD aH sx;have ht:=ht.aD aH sx
 refine W ?_
 refine zc rfl (λh1=>?_) (λh1=>?_)
 have hx:l4 s=false:=by simpa using h1
 refine W ?_
 exact⟨_,rfl,⟨_,false,rfl,⟨λh=>by(cases h),fun⟨e,f,h1,h2,h3,_⟩=>by rw[wh.2 ⟨e,h1,h2,h3⟩] at hx;cases hx⟩,λ_ _ _ _ _ h=>by cases h⟩,hK⟩
 have hx:l4 s=true:=by simpa using h1
 obtain⟨e,he,ba,hn⟩:=wh.1 hx
 have e2:=hp.1 _ he
 subst e2
 have Er:∀{e':Ex},bB s=some e'.aq->e'.ok->e'=e:=(λh1 h2=>qm h2 ba (Option.some.inj (h1.symm.trans he)))
 refine W ?_
 refine aA (ag9 e hn ba _ w3 (ht.iF sm)) ?_
 rintro v4 w4 ⟨jU,aO⟩
 have fG:=aO.size
 have hK:=hK.ext aO
 obtain⟨tv2,T,rfl,hT,N2⟩:=jU
 obtain⟨iA,Ay,iB,rfl,Ji,apg⟩:=dj hT
 refine W ?_
 refine dk aL rfl rfl rfl λw5 aP bA iI=>?_
 have hK:=hK.grow;have hK:=hK.ext aP;have hT:=hT.grow;have hT:=hT.ext aP
 refine cw aL rfl rfl rfl bA rfl λw6 bO bA kF=>?_
 have hK:=hK.aD bO sx;have hT:=hT.aD bO sx
 refine W ?_
 refine xl (t:=22) rfl (λh2=>?_) (λh2=>?_)
 replace h2:=jG h2
 have Ep:nv e=none:=(by simpa using h2)
 refine W ?_
 refine zc rfl (λh3=>?_) (λh3=>?_)
 refine W ?_
 exact⟨_,rfl,⟨_,false,rfl,⟨λh=>by(cases h),fun⟨e',f',h1,h2,h3,h4,_⟩=>by cases Er h1 h2;rw[Ep] at h4;cases h4⟩,λ_ _ _ _ _ h=>by cases h⟩,hK⟩
 simp at h3
 replace h2:=jG h2
 have aX:∃f,nv e=some f:=(by cases hh:nv e;(·simp[hh] at h2);(·exact⟨_,rfl⟩))
 obtain⟨f,hf⟩:=aX
 have e9:=N2 f hf
 subst e9
 have AN:=Mo ba hf
 have N3:=ag6 hf
 have hfz:=Ex.size AN
 have N4:=Ex.ag5 AN
 refine W ?_
 refine aA (tG f.aq.size f.aq (lR _) (Ex.wf AN).wf om om _ _ w6 hT) ?_
 rintro _ w7 ⟨rfl,bV⟩
 have ov:=bV.size
 refine cG bV hK hT bA λhK hT bA=>?_
 refine aA (Nl _ w7) ?_
 rintro _ w8 ⟨rfl,cA⟩
 have yk:=cA.size
 refine cG cA hK hT bA λhK hT bA=>?_
 refine W ?_
 refine zc rfl (λh4=>?_) (λh4=>?_)
 have fh:l4 f.aq.text=false:=(by simpa using h4)
 refine W ?_
 exact⟨_,rfl,⟨_,false,rfl,⟨λh=>by(cases h),fun⟨e',f',h1,h2,h3,h4,h5⟩=>by cases Er h1 h2;rw[hf] at h4;cases h4;rw[fh] at h5;cases h5⟩,λ_ _ _ _ _ h=>by cases h⟩,hK⟩
 have fh:l4 f.aq.text=true:=(by simpa using h4)
 refine W ?_
 refine aA (tG f.aq.size f.aq (lR _) (Ex.wf AN).wf om om _ _ w8 hT) ?_
 rintro _ w9 ⟨rfl,aC⟩
 have oZ:=aC.size
 have hK:=hK.ext aC
 refine W ?_
 exact⟨_,rfl,⟨_,true,rfl,⟨λ_=>⟨e,f,he,ba,hn,hf,fh⟩,λ_=>rfl⟩,λe' f' h1 h2 h3 _=>by cases Er h1 h2;rw[hf] at h3;cases h3;rfl⟩,hK⟩
def eC:Option Ty->ai
 |some T=>T.text
 |none=>[]
def mf (h:ai) (Ts:List Ty):Prop:=(fW h=true∧∃A,Ts=[A])∨(gH h=true∧∃A B,Ts=[A,B])∨(h=gm∧∃A B C,Ts=[A,B,C])
theorem mf.pos {Ts:List Ty} (hj:mf h Ts):0<Ts.length:=by
 rcases hj with⟨_,A,rfl⟩|⟨_,A,B,rfl⟩|⟨_,A,B,C,rfl⟩<;>simp
theorem mf.three {Ts:List Ty} (hj:mf gm Ts):∃A B C,Ts=[A,B,C]:=by
 rcases hj with⟨h,_⟩|⟨h,_⟩|⟨_,h⟩
 ·exact absurd h de
 ·exact absurd h de
 ·exact h
theorem mf.two {Ts:List Ty} (hj:mf h Ts) (hb:gH h=true):∃A B,Ts=[A,B]:=by
 rcases hj with⟨h1,_⟩|⟨_,h1⟩|⟨rfl,_⟩
 ·exfalso
  simp only[fW,oE,dE] at h1
  rcases h1 with rfl|rfl<;>exact absurd hb de
 ·exact h1
 ·exact absurd hb de
theorem mf.one {Ts:List Ty} (hj:mf h Ts) (hb:fW h=true):∃A,Ts=[A]:=by
 rcases hj with⟨_,h1⟩|⟨h1,_⟩|⟨rfl,_⟩
 ·exact h1
 ·exfalso
  simp only[fW,oE,dE] at hb
  rcases hb with rfl|rfl<;>exact absurd h1 de
 ·exact absurd hb de
def yq (f:Bool):Ty->Option (Ty×Ty)
 | .op g a b=>if g=f then some (a,b) else none
 | .i=>none
theorem Vh:A.text=[105]↔A= .i:=⟨λh=>Ty.inj (h.trans (rfl:([105]:ai)=Ty.text .i)),λh=>by rw[h];rfl⟩
theorem ahf:fW BH=true:=by simp[fW]
theorem ahg:fW qE=true:=by simp[fW]
theorem Vi:gH j3=true:=by simp[gH]
theorem ahh:gH xC=true:=by simp[gH]
theorem Vj (hh:(h=[43]∨h=[45])∨h=[42]):gH h=true:=by
 rcases hh with(rfl|rfl)|rfl<;>simp[gH]
theorem ahi (h:ai) (ks:List ai) (hl:ks.length<=1000) (hn:[]∈ks) (v:Value) (L:List Nat) (w:World) (hv:bc L w v ks):
  bz Tryz.prog 198 [str h,v] w λr w'=>r=str []∧aj [] w w':=by
 have hK:=aj.refl [] w
 refine bX [.tmp 4] 117 Tryz.func198 rfl RE rfl rfl ?_
 refine W ?_
 refine aA (An ks om [] _ _ w hv) ?_
 rintro _ w1 ⟨rfl,aI⟩
 have dm:=aI.size
 have hK:=hK.ext aI
 refine aZ<|zc rfl (λh1=>?_) (λh1=>?_)
 refine W ?_
 exact⟨_,rfl,rfl,hK⟩
 exact absurd hn (by simpa using h1)
theorem ahj {B:Ty} (ho:o=yq true A) (hs:o.isSome=true) (he:sI o=B.text):str (ya o)=str (eC (kB j3 [A,B])):=by
 cases A with
 |i=>rw[ho] at hs;cases hs
 |op g a b=>
  cases g with
  |false=>rw[ho] at hs;cases hs
  |true=>
   subst ho
   have he:a.text=B.text:=he
   show str b.text=str (eC (if kA a B=true then some b else none))
   rw[iP (show kA a B=true from dT he)];rfl
theorem Vk (ho:o=yq false A) (hs:o.isSome=true):str (sI o)=str (eC (kB BH [A]))∧str (ya o)=str (eC (kB qE [A])):=by
 cases A with
 |i=>rw[ho] at hs;cases hs
 |op g a b=>
  cases g with
  |true=>rw[ho] at hs;cases hs
  |false=>subst ho;exact⟨rfl,rfl⟩
theorem ahk (A B:Ty):eC (kB xC [A,B])=if 1+A.n+B.n<=16 then(Ty.op false A B).text else[]:=by
 show eC (if 1+A.n+B.n<=16 then some (.op false A B) else none)=_
 split<;>rfl
theorem ahl (hh:(h=[43]∨h=[45])∨h=[42]):eC (kB h [.i,.i])=[105]:=by
 rcases hh with(rfl|rfl)|rfl<;>rfl
theorem ahm (hj:mf h (A::r9)) {o1 o2:Option (Ty×Ty)} (wO:o1=yq true A) (vg:o2=yq false A) 
  (bF:(decide (h=gm)&&decide (A.text=[105])&&decide ((cv ((A::r9).map Ty.text) 1)=(cv ((A::r9).map Ty.text) 2)))=false) (bU:(decide (h=j3)&&o1.isSome&&decide (sI o1=(cv ((A::r9).map Ty.text) 1)))=false) (dM:¬h=xC)
  (jv:(decide (h=BH)&&o2.isSome)=false) (j8:(decide (h=qE)&&o2.isSome)=false) (qi:(((decide (h=[43])||decide (h=[45]))||decide (h=[42]))&&decide (A.text=[105])&&decide ((cv ((A::r9).map Ty.text) 1)=[105]))=false):eC (kB h (A::r9))=[]:=by
 rcases hj with⟨hu,A0,e⟩|⟨hb,A0,B,e⟩|⟨rfl,A0,B,C0,e⟩<;>cases e
 ·simp only[fW,oE,dE] at hu
  cases A with
  |i=>rfl
  |op g a b=>
   cases g with
   |true=>rfl
   |false=>
    subst vg
    rcases hu with rfl|rfl
    ·exact Bool.noConfusion (show true=false from jv)
    ·exact Bool.noConfusion (show true=false from j8)
 ·have N5:cv ([A,B].map Ty.text) 1=B.text:=rfl
  rw[N5] at bU qi
  have N6:(h=[43]∨h=[45])∨h=[42]->eC (kB h [A,B])=[]:=λhh=>by
   have h0:((decide (h=[43])||decide (h=[45]))||decide (h=[42]))=true:=by simpa using hh
   rw[h0,Bool.true_and,Bool.and_eq_false_iff] at qi
   have h1:kB h [A,B]=if(kA A .i&&kA B .i)=true then some .i else none:=by
    rcases hh with(rfl|rfl)|rfl<;>rfl
   have hi:Ty.i.text=[105]:=rfl
   rw[h1,iN (by unfold kA;rw[hi];rcases qi with h|h<;>rw[h]<;>simp)];rfl
  simp only[gH,oE,dE] at hb
  rcases hb with(((rfl|rfl)|rfl)|rfl)|rfl
  ·exact N6 (.inl (.inl rfl))
  ·exact N6 (.inl (.inr rfl))
  ·exact N6 (.inr rfl)
  ·cases A with
   |i=>rfl
   |op g a b=>
    cases g with
    |false=>rfl
    |true=>
     subst wO
     have bU:decide (a.text=B.text)=false:=bU
     show eC (if kA a B=true then some b else none)=[]
     rw[iN (by unfold kA;rw[bU];simp)];rfl
  ·exact absurd rfl dM
 ·have N5:cv ([A,B,C0].map Ty.text) 1=B.text:=rfl
  have hcC:cv ([A,B,C0].map Ty.text) 2=C0.text:=rfl
  rw[N5,hcC] at bF
  have bF:(decide (A.text=[105])&&decide (B.text=C0.text))=false:=bF
  show eC (if(kA A .i&&kA B C0)=true then some B else none)=[]
  have hi:Ty.i.text=[105]:=rfl
  rw[iN (by unfold kA;rw[hi,bF];simp)];rfl
theorem aho (hj:mf h (A::r9)) (hh:h=gm) (hA:A.text=[105]) (hB:(cv ((A::r9).map Ty.text) 1)=(cv ((A::r9).map Ty.text) 2)):str (cv ((A::r9).map Ty.text) 1)=str (eC (kB h (A::r9))):=by
 subst hh
 obtain⟨A0,B,C0,e⟩:=hj.three
 cases e
 have hB:B.text=C0.text:=hB
 show str B.text=str (eC (if(kA A .i&&kA B C0)=true then some B else none))
 rw[iP (by rw[aE];exact⟨dT hA,dT hB⟩)];rfl
theorem ahp (hj:mf h (A::r9)) (hh:h=j3) (ho:o=yq true A) (hs:o.isSome=true) (he:sI o=(cv ((A::r9).map Ty.text) 1)):str (ya o)=str (eC (kB h (A::r9))):=by
 subst hh
 obtain⟨A0,B,e⟩:=hj.two Vi
 cases e
 exact ahj ho hs he
theorem ahq (hj:mf h (A::r9)) (hh:h=BH) (ho:o=yq false A) (hs:o.isSome=true):str (sI o)=str (eC (kB h (A::r9))):=by
 subst hh
 obtain⟨A0,e⟩:=hj.one ahf
 cases e
 exact(Vk ho hs).1
theorem ahr (hj:mf h (A::r9)) (hh:h=qE) (ho:o=yq false A) (hs:o.isSome=true):str (ya o)=str (eC (kB h (A::r9))):=by
 subst hh
 obtain⟨A0,e⟩:=hj.one ahg
 cases e
 exact(Vk ho hs).2
theorem ahs {B:Ty} (hh:h=xC) (e:A::r9=[A,B]):str (if 1+A.n+B.n<=16 then(Ty.op false A B).text else[])=str (eC (kB h (A::r9))):=by
 subst hh
 rw[e,ahk]
theorem aht (hj:mf h (A::r9)) (hh:(h=[43]∨h=[45])∨h=[42]) (hA:A.text=[105]) (hB:(cv ((A::r9).map Ty.text) 1)=[105]):str [105]=str (eC (kB h (A::r9))):=by
 obtain⟨A0,B,e⟩:=hj.two (Vj hh)
 cases e
 have hB:B.text=[105]:=hB
 obtain rfl:=Vh.1 hA
 obtain rfl:=Vh.1 hB
 rw[ahl hh]
theorem ahu (hj:mf h (A::r9)) (hh:h=xC):∃B,A::r9=[A,B]∧(cv ((A::r9).map Ty.text) 1)=B.text:=by
 subst hh
 obtain⟨A0,B,e⟩:=hj.two ahh
 cases e
 exact⟨B,rfl,rfl⟩
theorem ahv (h:ai) (Ts:List Ty) (hj:mf h Ts) (hT:∀T,T∈Ts->T.n<=16) (v:Value) (L:List Nat) (w:World) (hv:bc L w v (Ts.map Ty.text)):
  bz Tryz.prog 198 [str h,v] w λr w'=>r=str (eC (kB h Ts))∧aj [] w w':=by
 have hK:=aj.refl [] w
 have hp:=hj.pos
 have dd:=hv
 obtain⟨a,np,c,rfl,Vl⟩:=dI hv
 have et:(Ts.map Ty.text).length=Ts.length:=by simp
 rw[et] at Vl
 subst Vl
 obtain⟨A,r9,rfl⟩:∃A r,Ts=A::r:=by cases Ts with|nil=>simp at hp|cons A r=>exact⟨A,r,rfl⟩
 have hA:=hT A sm
 have hg:∀i,i<(A::r9).length->(((A::r9).map Ty.text)[i]?=some (cv ((A::r9).map Ty.text) i)):=λi hi=>jN (by rw[et];exact hi)
 obtain⟨b,off,rfl,er⟩:=mu dd (hg 0 hp)
 have hx:∀i,i<(A::r9).length->fQ w b (off+i*1) [str (cv ((A::r9).map Ty.text) i)]:=λi hi=>by obtain⟨b1,eR,e1,hc⟩:=mu dd (hg i hi);cases e1;exact hc
 have dH:([]:ai)∉(A::r9).map Ty.text:=λhm=>by obtain⟨T,_,h2⟩:=List.mem_map.1 hm;exact absurd h2 T.ne
 refine bX [.tmp 4] 117 Tryz.func198 rfl RE rfl rfl ?_
 refine W ?_
 refine aA (An ((A::r9).map Ty.text) (by rw[et];rcases hj with⟨_,_,e⟩|⟨_,_,_,e⟩|⟨_,_,_,_,e⟩<;>rw[e]<;>simp) [] _ _ w dd) ?_
 rintro _ w1 ⟨rfl,aI⟩
 have dm:=aI.size
 have hK:=hK.ext aI
 refine aZ<|zc rfl (λh1=>?_) (λh1=>?_)
 exact absurd (by simpa using h1) dH
 refine gz<|zr<|zm<|zi (i:=0) bh bf rfl rfl hp<|zl fA rfl ((hx 0 hp).ext hK 0 _ rfl)<|aA (T8 A.text w1) ?_
 rintro v2 w2 ⟨fl,az⟩
 have dy:=az.size
 have hK:=hK.ext az
 obtain⟨o1,wO,rfl⟩:=fl
 have wO:o1=yq true A:=(by have:=Ua hA true wO;cases A<;>exact this)
 refine WI ?_
 refine zi (i:=0) bh bf rfl rfl hp<|zl fA rfl ((hx 0 hp).ext hK 0 _ rfl)<|aA (T9 A.text w2) ?_
 rintro v3 w3 ⟨jb,aH⟩
 have eU:=aH.size
 have hK:=hK.ext aH
 obtain⟨o2,vg,rfl⟩:=jb
 have vg:o2=yq false A:=(by have:=Ua hA false vg;cases A<;>exact this)
 refine W ?_
 refine DP [32,33,34,35,36,37,38,39,40,41,42,43,44,45,46,47,48,31] [(31,.bool (decide (h=gm)&&decide (A.text=[105])&&decide ((cv ((A::r9).map Ty.text) 1)=(cv ((A::r9).map Ty.text) 2))))] ?_ ?_
 rcases bE (decide (h=gm)) with iH|iH
 rcases bE (decide (h=gm)&&decide (A.text=[105])) with mE|mE
 apply kD cT 18 (rA 32 17++[31]) (rA 32 17++[31]) [[],[0],[1],[2],[2,3],[2,4],[2,5],[2,6],[7],[8],[8,9],[8,10],[8],[8,12],[8,13],[8,11,14],[8,15],[16]] [It.v _,It.v _,It.v (.bool true),It.v _,It.v _,It.v _,It.v _,It.v _,It.v (.bool true),It.v _,It.v _,It.v _,It.v _,It.v _,It.v _,It.v _,It.v _,It.v _] de rfl
 intro wd aB
 refine VA ?_
 refine vc (λx w4 aO=>?_) ?_
 refine WZ ?_
 exact pv (by exact congrArg Value.bool iH)
 refine vc (λ_ _ _=>WZ pv) ?_
 refine vk aB (λx w4 aO=>?_) ?_
 refine zi (i:=0) bh bf rfl rfl hp ?_
 exact pv
 refine vk aB (λx w4 aO=>?_) ?_
 have hK:=hK.ext aO
 refine zl fA rfl ((hx 0 hp).ext hK 0 _ rfl) ?_
 exact pv
 refine VA ?_
 refine vc (λx w4 aO=>?_) ?_
 refine zm ?_
 exact pv (by first|exact congrArg Value.bool mE|(rw[iH] at mE;exact congrArg Value.bool mE))
 refine VA ?_
 refine vk aB (λx w4 aO=>?_) ?_
 have hg:=mE
 refine zi (i:=1) bh bf rfl rfl ((by simp only[aE,dE] at hg;obtain⟨_,_,_,e⟩:=(hg.1▸hj:mf gm _).three;rw[e];simp)) ?_
 exact pv
 refine vk aB (λx w4 aO=>?_) ?_
 have hK:=hK.ext aO
 have hg:=mE
 refine zl fA rfl ((hx 1 (by simp only[aE,dE] at hg;obtain⟨_,_,_,e⟩:=(hg.1▸hj:mf gm _).three;rw[e];simp)).ext hK 0 _ rfl) ?_
 exact pv
 refine VA ?_
 refine vk aB (λx w4 aO=>?_) ?_
 have hg:=mE
 refine zi (i:=2) bh bf rfl rfl ((by simp only[aE,dE] at hg;obtain⟨_,_,_,e⟩:=(hg.1▸hj:mf gm _).three;rw[e];simp)) ?_
 exact pv
 refine vk aB (λx w4 aO=>?_) ?_
 have hK:=hK.ext aO
 have hg:=mE
 refine zl fA rfl ((hx 2 (by simp only[aE,dE] at hg;obtain⟨_,_,_,e⟩:=(hg.1▸hj:mf gm _).three;rw[e];simp)).ext hK 0 _ rfl) ?_
 exact pv
 exact VZ
 intro x mI ie
 change OW _ _ _ _ [] (bm (bg _ x _) (zZ 32 [_,_,_,_,_,_,_,_,_,_,_,_,_,_,_,_,_]++[(31,_)])) _
 refine W ?_
 exact kE ie
 apply kD cT 18 (rA 32 17++[31]) (rA 32 17++[31]) [[],[0],[1],[2],[2,3],[2,4],[2,5],[2,6],[7],[8],[8,9],[8,10],[8],[8,12],[8,13],[8,11,14],[8,15],[16]] [It.v _,It.v _,It.v (.bool true),It.v _,It.v _,It.v _,It.v _,It.v _,It.v (.bool false),It.v _,It.v _,It.v _,It.v _,It.v _,It.v _,It.v _,It.v _,It.v _] de rfl
 intro wd aB
 refine VA ?_
 refine vc (λx w4 aO=>?_) ?_
 refine WZ ?_
 exact pv (by exact congrArg Value.bool iH)
 refine vc (λ_ _ _=>WZ pv) ?_
 refine vk aB (λx w4 aO=>?_) ?_
 refine zi (i:=0) bh bf rfl rfl hp ?_
 exact pv
 refine vk aB (λx w4 aO=>?_) ?_
 have hK:=hK.ext aO
 refine zl fA rfl ((hx 0 hp).ext hK 0 _ rfl) ?_
 exact pv
 refine VA ?_
 refine vc (λx w4 aO=>?_) ?_
 refine zm ?_
 exact pv (by first|exact congrArg Value.bool mE|(rw[iH] at mE;exact congrArg Value.bool mE))
 exact VZ
 intro x mI ie
 change OW _ _ _ _ [] (bm (bg _ x _) (zZ 32 [_,_,_,_,_,_,_,_,_,_,_,_,_,_,_,_,_]++[(31,_)])) _
 refine W ?_
 exact kE ie
 apply kD cT 18 (rA 32 17++[31]) (rA 32 17++[31]) [[],[0],[1],[2],[2,3],[2,4],[2,5],[2,6],[7],[8],[8,9],[8,10],[8],[8,12],[8,13],[8,11,14],[8,15],[16]] [It.v _,It.v _,It.v (.bool false),It.v _,It.v _,It.v _,It.v _,It.v _,It.v (.bool false),It.v _,It.v _,It.v _,It.v _,It.v _,It.v _,It.v _,It.v _,It.v _] de rfl
 intro wd aB
 refine VA ?_
 refine vc (λx w4 aO=>?_) ?_
 refine WZ ?_
 exact pv (by exact congrArg Value.bool iH)
 refine vc (λx w4 aO=>?_) ?_
 exact cH pv
 refine vk aB (λx w4 aO=>?_) ?_
 exact cH pv
 refine vk aB (λx w4 aO=>?_) ?_
 exact cH pv
 refine vk aB (λx w4 aO=>?_) ?_
 exact cH pv
 refine vc (λ_ _ _=>WZ pv) ?_
 refine vc (λx w4 aO=>?_) ?_
 refine WZ ?_
 exact pv (by rfl)
 exact VZ
 intro x mI ie
 change OW _ _ _ _ [] (bm (bg _ x _) (zZ 32 [_,_,_,_,_,_,_,_,_,_,_,_,_,_,_,_,_]++[(31,_)])) _
 refine W ?_
 exact kE ie
 intro x mI ie
 have hK:=hK.ext ie
 refine zc rfl (λh2=>?_) (λh2=>?_)
 simp only[aE,dE] at h2
 obtain⟨⟨hh,Es⟩,hBC⟩:=h2
 have iw:1<(A::r9).length:=(by obtain⟨_,_,_,e⟩:=(hh▸hj:mf gm _).three;rw[e];simp)
 refine zr<|zm<|zi (i:=1) bh bf rfl rfl iw<|zl fA rfl ((hx 1 iw).ext hK 0 _ rfl)<|zA<|aZ<|jJ ?_
 exact⟨_,rfl,aho hj hh Es hBC,hK⟩
 have bF:=h2
 refine WZ ?_
 apply oB 2 55 57 rfl oQ
 intro _
 exact oQ
 intro xx
 refine WZ ?_
 apply oB 6 58 64 rfl oQ
 intro h4
 have iw:1<(A::r9).length:=(by simp only[aE,dE] at h4;obtain⟨_,_,e⟩:=hj.two (h4.1▸Vi);rw[e];simp)
 refine zm<|zm<|zi (i:=1) bh bf rfl rfl iw<|zl fA rfl ((hx 1 iw).ext hK 0 _ rfl) ?_
 exact oQ
 intro xx
 refine zA<|aZ<|zc rfl (λh5=>?_) (λh5=>?_)
 simp only[aE,dE] at h5
 obtain⟨⟨hh,dm⟩,Iz⟩:=h5
 refine W ?_
 exact⟨_,rfl,ahp hj hh wO dm Iz,hK⟩
 have bU:=h5
 refine W ?_
 refine zc rfl (λh6=>?_) (λh6=>?_)
 have hh:h=xC:=h6
 obtain⟨B,eB,hK1⟩:=ahu hj hh
 have iw:1<(A::r9).length:=(by rw[eB];simp)
 have ij:=hx 1 iw
 rw[hK1] at ij
 refine WZ ?_
 apply dV cT 12 [70,71,72,73,74,75,76,69,77,78,11,12] [[],[0],[1],[],[3],[4],[2,5],[6],[7],[7],[8],[9]] (it [_,_,_,_,_,_,_,_,_,_,_,_]) de rfl
 intro wd aB
 refine vc (λ_ _ _=>WZ pv) ?_
 refine vk aB (λx ow iJ=>?_) ?_
 refine zi (i:=0) bh bf rfl rfl hp ?_
 exact pv
 refine vk aB (λx ow iJ=>?_) ?_
 have hK:=hK.ext iJ
 refine zl fA rfl ((hx 0 hp).ext hK 0 _ rfl) ?_
 exact pv
 refine vc (λ_ _ _=>WZ pv) ?_
 refine vk aB (λx ow iJ=>?_) ?_
 refine zi (i:=1) bh bf rfl rfl iw ?_
 exact pv
 refine vk aB (λx ow iJ=>?_) ?_
 have hK:=hK.ext iJ
 refine zl fA rfl (ij.ext hK 0 _ rfl) ?_
 exact pv
 refine vk aB (λx ow iJ=>?_) ?_
 refine aA (Uc false A B hA (hT B (by rw[eB];simp)) ow) ?_
 rintro _ pK ⟨rfl,rI⟩
 have api:=rI.size
 exact pk rI
 exact VZ
 intro x Et Eu
 have hK:=hK.ext Eu
 change OW _ _ _ _ [] (bm (bg _ x _) (zZ 70 [_,_,_,_,_,_,_]++[(69,_),(77,_),(78,_),(11,_),(12,_)])) _
 refine W ?_
 exact⟨_,rfl,ahs hh eB,hK⟩
 have dM:=h6
 refine WZ ?_
 apply oB 2 83 85 rfl oQ
 intro _
 exact oQ
 intro xx
 refine zA<|aZ<|zc rfl (λh8=>?_) (λh8=>?_)
 simp only[aE,dE] at h8
 obtain⟨hh,dm⟩:=h8
 refine W ?_
 exact⟨_,rfl,ahq hj hh vg dm,hK⟩
 have jv:=h8
 refine WZ ?_
 apply oB 2 90 92 rfl oQ
 intro _
 exact oQ
 intro xx
 refine zA<|aZ<|zc rfl (λfB=>?_) (λfB=>?_)
 simp only[aE,dE] at fB
 obtain⟨hh,dm⟩:=fB
 refine W ?_
 exact⟨_,rfl,ahr hj hh vg dm,hK⟩
 have j8:=fB
 refine WZ ?_
 apply oP 3 97 100 rfl oQ
 intro _
 exact oQ
 intro xx
 refine WZ ?_
 apply oP 3 101 104 rfl oQ
 intro _
 exact oQ
 intro xx
 refine WZ ?_
 apply oB 5 105 110 rfl oQ
 intro _
 refine zm<|zi (i:=0) bh bf rfl rfl hp<|zl fA rfl ((hx 0 hp).ext hK 0 _ rfl) ?_
 exact oQ
 intro xx
 refine WZ ?_
 apply oB 5 111 116 rfl oQ
 intro vX
 have iw:1<(A::r9).length:=(by simp only[aE,oE,dE] at vX;obtain⟨_,_,e⟩:=hj.two (Vj vX.1);rw[e];simp)
 refine zm<|zi (i:=1) bh bf rfl rfl iw<|zl fA rfl ((hx 1 iw).ext hK 0 _ rfl) ?_
 exact oQ
 intro xx
 refine zA<|aZ<|zc rfl (λEv=>?_) (λEv=>?_)
 simp only[aE,oE,dE] at Ev
 obtain⟨⟨hh,Es⟩,hBi⟩:=Ev
 refine W ?_
 exact⟨_,rfl,aht hj hh Es hBi,hK⟩
 have qi:=Ev
 refine W ?_
 exact⟨_,rfl,congrArg (λx=>str x) (ahm hj wO vg bF bU dM jv j8 qi).symm,hK⟩
end Go.Proofs.YthbhobaiopccaaaGreatDoor
