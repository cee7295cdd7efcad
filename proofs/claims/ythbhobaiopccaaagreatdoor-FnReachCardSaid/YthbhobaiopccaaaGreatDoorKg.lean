/- Lemmas for the law FnReach, no statement of their own: no conditions. -/
import Derived.Test.YthbhobaiopccaaaGreatDoorKf
set_option maxHeartbeats 4000000
set_option linter.unusedVariables false
set_option linter.unusedSimpArgs false
namespace Go.Proofs.YthbhobaiopccaaaGreatDoor
open Go
variable {b c k n x:Nat} {v:Value} {g:Option Nat} {G L:List Nat} {w:World} {xs:List ai} {e:Ex} {bs:Bs} {h:ai} {A:Ty} {o:Option (Ty×Ty)} {r9:List Ty}
theorem ahL {ps:List aq} (h:k<ps.length):jJ (ps.take k)+fy (nth ps k)<=jJ ps:=by
 have h1:=Tx (gh h)
 have h2:=VC (ps:=ps) (k+1)
 omega
theorem ahM:∀(m:Nat) (t:aq),t.size<=m->t.size<=1000000->WF t->∀(l:List ai),l.length+fy t<=100000->∀(v vl:Value) (g:Option Nat) (w:World),
  bC g.toList w v t->cG w 9 vl g l->
  bw Tryz.prog 180 [v,vl] w λr w'=>∃g',cG w' 9 r g' (lM t l)∧Fr g.toList w g'.toList w':=by
 intro m
 induction m with
 |zero=>intro t h;have:=yL t;omega
 |succ m ih=>
  intro t hm mh cB l hl v vl g w hv gj
  obtain⟨a,n,c,rfl,hn,aO⟩:=cY hv
  subst hn
  obtain⟨al,cl,rfl⟩:=jn gj
  have qq:=gj.lt
  have oY:=gj.rs
  have hR:=Fr.refl g.toList w
  have nj:=xo t
  refine bU [.tmp 4] 34 Tryz.func180 rfl ac7 rfl rfl ?_
  refine zr<|eK rfl λw1 aI aR dh=>gY aI hR aO gj oY λhR aO gj oY=>?_
  refine W ?_
  refine zc rfl (λh1=>?_) (λh1=>?_)
  have hq:lM t l=if t.aw∈l then l else l++[t.aw]:=by rw[TX,iP h1]
  refine W ?_
  refine aA (xM l om t.aw _ _ w1 oY) ?_
  rintro _ w2 ⟨rfl,az⟩
  have dx:=az.size
  refine cJ az hR gj aR λhR gj aR=>?_
  refine aV<|zc rfl (λh2=>?_) (λh2=>?_)
  have nz:t.aw∈l:=h2
  refine W ?_
  exact⟨_,rfl,g,by rw[hq,iP nz];exact gj,hR⟩
  have nz:¬t.aw∈l:=h2
  refine W ?_
  refine eR bg ba rfl rfl λw3 aH OO gL=>bI aH hR gj λhR gj=>?_
  refine U1 bg ba rfl rfl rfl rfl rfl rfl gj OO om λv5 g5 w4 lu aP qt=>?_
  have hR:=hR.go qt
  refine W ?_
  exact⟨_,rfl,g5,by rw[hq,iN nz];exact lu,hR⟩
  have hq:lM t l=py t.ak l:=(by rw[TX,iN h1])
  have uS:fy t=jJ t.ak:=(by rw[Nc,iN h1])
  have aR:=aR.o qq
  refine W ?_
  refine dR (λq:Nat×Value×Option Nat=>[(1,q.2.1),(2,.pointer (some ⟨w.heap.size,0,none⟩)),(5,.int .i64 (q.1:Int))]) (λq w'=>Fr g.toList w q.2.2.toList w'∧Fr g.toList w1 q.2.2.toList w'∧cG w' 9 q.2.1 q.2.2 (py (t.ak.take q.1) l)∧q.1<=t.ak.length) (λq=>t.ak.length-q.1) ((0,.slice al l.length cl,g)) (⟨rfl,rfl,rfl⟩) (⟨hR,Fr.refl _ _,gj,sm⟩) λgg w2 e2 hI=>?_
  obtain⟨k,vl,gl⟩:=gg
  dsimp only at hI⊢
  obtain⟨hR,kL,gj,hk⟩:=hI
  have aR:=aR.go kL;have aO:=aO.go kL
  refine W ?_
  refine zc rfl (λh3=>?_) (λh3=>?_)
  have ic:k<t.ak.length:=om
  obtain⟨b1,eX,gR,gF,e1,bK,cN⟩:=fg aO ic
  subst e1
  have dk:=lI ic
  have aS:=afD (gh ic) l
  have C8:=Nr (t.ak.take k) l
  have BQ:=ahL ic
  refine WI ?_
  refine zi cD aM rfl rfl ic<|W ?_
  refine aA (ih (nth t.ak k) om om (cB.nth ic) _ om _ _ gl w2 cN gj) ?_
  rintro Oz w3 ⟨OB,Ky,HT⟩
  rw[<-aS] at Ky
  refine W ?_
  exact⟨(k+1,Oz,OB),⟨rfl,rfl,rfl⟩,⟨hR.go HT,kL.go HT,Ky,by simp;omega⟩,by simp;omega⟩
  have fG:k=t.ak.length:=by omega
  subst fG
  refine W ?_
  exact⟨_,rfl,gl,by rw[hq,<-List.take_length (l:=t.ak)];exact gj,hR⟩
theorem ahN (ee:Ex) (hn:ee.n<=120) (bh:ee.ok) (v:Value) (L:List Nat) (w:World) (lS:∀x,x∈L->x<w.heap.size) (hv:bC L w v ee.au):
  bw Tryz.prog 179 [v] w λr w'=>(∃tv,r= .tuple #[tv,.bool (qQ ee).isSome]∧bC L w' tv (bL (cM ee [] []) ee [] 0).1.au)∧aj [] w w':=by
 have cQ:=hv
 obtain⟨a,np,c,rfl,eS,aO⟩:=cY hv
 have nq:(cM ee [] []).length<=120:=by have:=Ni ee [] [];simp at this;omega
 have Fu:ee.n*((cM ee [] []).length+2)<=120*122:=Nat.mul_le_mul hn om
 have hK:=aj.refl [] w
 refine lG [.cell 2 74,.tmp 3] 23 Tryz.func179 rfl ac5 rfl rfl rfl ?_
 refine zr<|eK rfl λw1 aI aY dh=>?_
 have hK:=hK.ext aI
 refine dz aM rfl rfl rfl λw2 az aR dD=>?_
 have hK:=hK.grow;have hK:=hK.ext az;have aY:=aY.grow;have aY:=aY.ext az
 refine W ?_
 refine gA bg ba λw3 aH cS oe=>cJ aH hK aY aR λhK aY aR=>?_
 refine gA bg ba λw4 aP db kX=>cJ aP hK aY aR λhK aY aR=>?_
 have gL:=hK.size
 refine aA (Kw 120 ee hn om bh [] [] so so _ _ _ (some _) w4 (bC.ext (bC.fresh cQ (by intro x hx;simp at hx;right;omega)) hK) (bP.nil _ _ _) db.ll) ?_
 rintro v9 w5 ⟨g9,cU,cV⟩
 have nA:=cV.aF.size
 obtain⟨a9,c9,rfl⟩:=jn cU
 have hK:=hK.since cV.aF (λx hx=>.inr (by simp at hx;omega))
 have aY:=aY.aF cV.aF so
 have aR:=aR.aF cV.aF so
 have fG:=cU.lt
 have aqI:=hK.size
 have Wp:=aY.lt
 have Wq:=aR.lt
 refine jG (aeJ _ _ _ _ _) rfl rfl<|eK rfl λw6 bN iZ lj=>gY bN hK aY aR cU λhK aY aR cU=>?_
 refine W ?_
 refine gA bg ba λw7 bW mG oe=>kJ bW hK aY aR cU iZ λhK aY aR cU iZ=>?_
 refine gA bg ba λw8 cg uT kX=>kJ cg hK aY aR cU iZ λhK aY aR cU iZ=>?_
 refine WZ ?_
 have ahO:∀q,q∈g9.toList->w.heap.size<=q:=(λq hq=>by rcases cV.mem q hq with h|h;(·simp at h;omega);(·omega))
 have jg:=hK.size
 have oV:w5.heap.size<w8.heap.size:=iZ.lt
 have ahP:∀q,q∈g9.toList->q≠w5.heap.size∧q≠w1.heap.size:=(λq hq=>⟨λh9=>by have:=fG q hq;omega,λh9=>by rcases cV.mem q hq with h|h;(·simp at h;omega);(·omega)⟩)
 refine aA (aht (cM ee [] []) om 120 ee hn om bh [] 0 so om _ _ _ w5.heap.size (w5.heap.size::w1.heap.size::L) w8 (bC.ext (bC.fresh cQ (by intro q hq;simp at hq;rcases hq with h|h|h;(·right;omega);(·right;omega);(·exact .inl h))) hK) (bP.nil _ _ _) (bP.nil _ _ _) ⟨by simp,_,iZ,cU.rep (λq hq oL=>by have h1:=ahP q (by simp[hq]);rcases mC.1 oL with h|h;(·exact h1.1 h);(·rcases mC.1 h with h|h;(·exact h1.2 h);(·have h2:=lS q h;have h3:=ahO q (by simp[hq]);omega)))⟩ (by intro q hq;simp at hq;rcases hq with h|h|h;(·omega);(·omega);(·have:=lS q h;omega))) ?_
 rintro Du w9 ⟨⟨xZ,rP⟩,nG⟩
 have Wr:=nG.size
 obtain⟨nH,nI,nJ,rfl,_,_⟩:=cY xZ
 obtain⟨_,aqJ,iZ,_⟩:=rP
 have hK:=hK.since nG (λq hq=>.inr (by simp at hq;omega))
 have aY:=aY.aF nG so
 have aR:=aR.aF nG so
 refine dz aM rfl rfl rfl λcv cw cu Bx=>?_
 have hK:=hK.grow;have hK:=hK.ext cw;have aR:=aR.grow;have aR:=aR.ext cw;have iZ:=iZ.grow;have iZ:=iZ.ext cw;have xZ:=xZ.grow;have xZ:=xZ.ext cw
 refine cL aM rfl rfl rfl cu rfl λew cR cu vY=>?_
 have hK:=hK.aD cR sx;have aR:=aR.aD cR sx;have iZ:=iZ.aD cR sx;have xZ:=xZ.aD cR sx
 refine W ?_
 refine Ax dv (cA w1.heap.size ([str (bL (cM ee [] []) ee [] 0).1.au.aw,.slice nH nI nJ]) 74) 8 (rA 17 6++[100006,3]) (rA 17 6++[100006,3]) [[],[],[1],[2],[3],[4],[0],[5]] [λv _=>v=(.agg #[str (bL (cM ee [] []) ee [] 0).1.au.aw,.slice nH nI nJ]),λv _=>v=(.pointer (some ⟨w5.heap.size,0,none⟩)),λv _=>v=(.pointer (some ⟨w5.heap.size,0,none⟩)),λv _=>v=(.pointer (some ⟨w5.heap.size,0+1,none⟩)),λv _=>v=(.int .i64 ((bL (cM ee [] []) ee [] 0).2:Int)),λv _=>v=(.bool (decide (((bL (cM ee [] []) ee [] 0).2:Int)<=100))),λ_ ww=>aK ww w1.heap.size ([str (bL (cM ee [] []) ee [] 0).1.au.aw,.slice nH nI nJ]).toArray 74,λv _=>v=(.bool (decide (((bL (cM ee [] []) ee [] 0).2:Int)<=100)))] de (fE (fE (fE (fE (fE (fE (Es (fE trivial)))))))) (λwd aC=>?_) ?_
 refine et ?_ ?_
 intro x vs fI e dw hd he
 replace dw:=(cA w1.heap.size ([str (bL (cM ee [] []) ee [] 0).1.au.aw,.slice nH nI nJ]) 74).trans aC dw
 have cu:=cu.aD dw.1 sx
 replace he:e=bo (bm _ x _) []:=he
 subst he
 refine W ?_
 exact dn ((cA w1.heap.size ([str (bL (cM ee [] []) ee [] 0).1.au.aw,.slice nH nI nJ]) 74).refl _) rfl
 refine et ?_ ?_
 intro x vs fI e dw hd he
 replace dw:=(cA w1.heap.size ([str (bL (cM ee [] []) ee [] 0).1.au.aw,.slice nH nI nJ]) 74).trans aC dw
 replace he:e=bo (bm _ x _) []:=he
 subst he
 refine W ?_
 exact dn ((cA w1.heap.size ([str (bL (cM ee [] []) ee [] 0).1.au.aw,.slice nH nI nJ]) 74).refl _) rfl
 refine et ?_ ?_
 intro x vs fI e dw hd he
 have d1:vs 1=(.pointer (some ⟨w5.heap.size,0,none⟩)):=hd
 replace dw:=(cA w1.heap.size ([str (bL (cM ee [] []) ee [] 0).1.au.aw,.slice nH nI nJ]) 74).trans aC dw
 replace he:e=bo (bm _ x _) [(18,vs 1)]:=he
 rw[d1] at he
 subst he
 refine W ?_
 exact dn ((cA w1.heap.size ([str (bL (cM ee [] []) ee [] 0).1.au.aw,.slice nH nI nJ]) 74).refl _) rfl
 refine et ?_ ?_
 intro x vs fI e dw hd he
 have d2:vs 2=(.pointer (some ⟨w5.heap.size,0,none⟩)):=hd
 replace dw:=(cA w1.heap.size ([str (bL (cM ee [] []) ee [] 0).1.au.aw,.slice nH nI nJ]) 74).trans aC dw
 replace he:e=bo (bm _ x _) [(19,vs 2)]:=he
 rw[d2] at he
 subst he
 refine W ?_
 exact dn ((cA w1.heap.size ([str (bL (cM ee [] []) ee [] 0).1.au.aw,.slice nH nI nJ]) 74).refl _) rfl
 refine et ?_ ?_
 intro x vs fI e dw hd he
 have d3:vs 3=(.pointer (some ⟨w5.heap.size,0+1,none⟩)):=hd
 replace dw:=(cA w1.heap.size ([str (bL (cM ee [] []) ee [] 0).1.au.aw,.slice nH nI nJ]) 74).trans aC dw
 have iZ:=iZ.aD dw.1 sx
 replace he:e=bo (bm _ x _) [(20,vs 3)]:=he
 rw[d3] at he
 subst he
 refine W ?_
 exact dn ((cA w1.heap.size ([str (bL (cM ee [] []) ee [] 0).1.au.aw,.slice nH nI nJ]) 74).refl _) rfl
 refine et ?_ ?_
 intro x vs fI e dw hd he
 have d4:vs 4=(.int .i64 ((bL (cM ee [] []) ee [] 0).2:Int)):=hd
 replace dw:=(cA w1.heap.size ([str (bL (cM ee [] []) ee [] 0).1.au.aw,.slice nH nI nJ]) 74).trans aC dw
 replace he:e=bo (bm _ x _) [(21,vs 4)]:=he
 rw[d4] at he
 subst he
 refine W ?_
 exact dn ((cA w1.heap.size ([str (bL (cM ee [] []) ee [] 0).1.au.aw,.slice nH nI nJ]) 74).refl _) rfl
 refine et ?_ ?_
 intro x vs fI e dw hd he
 have d0:vs 0=(.agg #[str (bL (cM ee [] []) ee [] 0).1.au.aw,.slice nH nI nJ]):=hd
 replace dw:=(cA w1.heap.size ([str (bL (cM ee [] []) ee [] 0).1.au.aw,.slice nH nI nJ]) 74).trans aC dw
 obtain⟨us,wm,wo⟩:=dw.2.2 ⟨_,(by rfl),aR⟩
 replace he:e=bo (bm _ x _) [(17,vs 0)]:=he
 rw[d0] at he
 subst he
 refine cL aM rfl rfl rfl wo (by rw[wm];rfl) λjO gM hb H4=>W ?_
 exact dn ⟨gM,λ_=>hb,λ_=>⟨_,rfl,hb⟩⟩ hb
 refine et ?_ ?_
 intro x vs fI e dw hd he
 have d5:vs 5=(.bool (decide (((bL (cM ee [] []) ee [] 0).2:Int)<=100))):=hd
 replace dw:=(cA w1.heap.size ([str (bL (cM ee [] []) ee [] 0).1.au.aw,.slice nH nI nJ]) 74).trans aC dw
 replace he:e=bo (bm _ x _) [(22,vs 5)]:=he
 rw[d5] at he
 subst he
 refine W ?_
 exact dn ((cA w1.heap.size ([str (bL (cM ee [] []) ee [] 0).1.au.aw,.slice nH nI nJ]) 74).refl _) rfl
 exact trivial
 intro x vs lQ lv dU
 have d0:vs 0=(.agg #[str (bL (cM ee [] []) ee [] 0).1.au.aw,.slice nH nI nJ]):=dU 0 de
 have d1:vs 1=(.pointer (some ⟨w5.heap.size,0,none⟩)):=dU 1 de
 have d2:vs 2=(.pointer (some ⟨w5.heap.size,0,none⟩)):=dU 2 de
 have d3:vs 3=(.pointer (some ⟨w5.heap.size,0+1,none⟩)):=dU 3 de
 have d4:vs 4=(.int .i64 ((bL (cM ee [] []) ee [] 0).2:Int)):=dU 4 de
 have d5:vs 5=(.bool (decide (((bL (cM ee [] []) ee [] 0).2:Int)<=100))):=dU 5 de
 have d6:aK lQ w1.heap.size ([str (bL (cM ee [] []) ee [] 0).1.au.aw,.slice nH nI nJ]).toArray 74:=dU 6 de
 have d7:vs 7=(.bool (decide (((bL (cM ee [] []) ee [] 0).2:Int)<=100))):=dU 7 de
 have hK:=hK.aD lv.1 sx;have xZ:=xZ.aD lv.1 sx
 have aR:=d6
 change OW _ _ _ _ [] (bo (bm _ x _) (zZ 17 [vs 0,vs 1,vs 2,vs 3,vs 4,vs 5]++[(100006,vs 6),(3,vs 7)])) _
 rw[d0,d1,d2,d3,d4,d5,d7]
 refine W ?_
 exact⟨[_,_],⟨gC fc aM rfl aR rfl,rfl⟩,⟨_,congrArg (λb=>Value.tuple #[_,.bool b]) (show decide (((bL (cM ee [] []) ee [] 0).2:Int)<=100)=(qQ ee).isSome from by unfold qQ;by_cases h:(bL (cM ee [] []) ee [] 0).2<=100;(·rw[iP h];exact dT om);(·rw[iN h];exact dF om)),xZ.gm (λx hx=>by simp[hx])⟩,hK⟩
def t5:zg:=⟨190,9,74⟩
theorem ahQ (ag:List ai) (n:Nat) (hn:n<=100000) (hb:ag.length<=10000) (b:Nat) (E G:List Nat) (aL:List ai) (exprs:List aq) (w:World) (h:M5 t5 E G w b ag n aL exprs):
  bw Tryz.prog 249 [.pointer (some ⟨b,0,none⟩)] w λr w'=>(r=str (cO cy (bu cy ag n))∧M5 t5 E G w' b ag (bu cy ag n+1) aL exprs)∧aj [b] w w':=by
 have OD:=Fl cy ag n
 obtain⟨vt,vn,ve,gn,ge,bj,hS⟩:=h
 have bj:aK w b [vt,.int .i64 (n:Int),vn,ve].toArray 190:=bj
 refine bU [.tmp 2] 26 Tryz.func249 rfl adV rfl rfl ?_
 refine W ?_
 refine dR (λk:Nat=>[(0,.pointer (some ⟨b,0,none⟩))]) (λk w'=>aj [b] w w'∧aK w' b [vt,.int .i64 (k:Int),vn,ve].toArray 190∧iU t5 E G w' b vt vn ve gn ge ag aL exprs∧n<=k∧bu cy ag k=bu cy ag n) (λk=>bu cy ag n+1-k) n rfl (⟨aj.refl _ _,bj,hS,lR _,rfl⟩) λgg w1 e1 hI=>?_
 obtain⟨hK,bj,hS,hk,hq⟩:=hI
 have hle:=(oG cy ag gg).1
 refine W ?_
 refine aA (iH (gg+1) gg om om w1) ?_
 rintro _ w2 ⟨rfl,az⟩
 have dx:=az.size
 refine cJ az hK bj hS λhK bj hS=>?_
 refine iu rfl rfl rfl rfl (by have:=E0 _ gg (lR _);simp;omega)<|W ?_
 refine gD (o:=1) pq rfl rfl rfl bj rfl λw3 aH bj du=>?_
 have hS:=hS.aF aH sm
 have hK:=hK.trans aH
 refine W ?_
 refine aA (xM ag om (cO cy gg) _ _ w3 hS.ta) ?_
 rintro _ w4 ⟨rfl,aP⟩
 have fH:=aP.size
 refine cJ aP hK bj hS λhK bj hS=>?_
 refine kF rfl rfl rfl<|aV<|zc rfl (λh1=>?_) (λh1=>?_)
 have nh:cO cy gg∉ag:=(by simpa using h1)
 have HV:bu cy ag n=gg:=hq.symm.trans (TQ nh)
 refine W ?_
 exact⟨_,rfl,⟨by rw[HV];rfl,_,_,_,_,_,by rw[HV];exact bj,hS⟩,hK⟩
 have nh:cO cy gg∈ag:=(by simpa using h1)
 have hfs:=TP nh
 have Ut:=(oG cy ag (gg+1)).1
 refine WZ ?_
 exact⟨gg+1,rfl,⟨hK,bj,hS,om,om⟩,om⟩
section
variable {τ:zg} {E G:List Nat} {w w':World} {b:Nat} {vt vn ve:Value} {gn ge:Option Nat} {ag aL:List ai} {exprs:List aq}
theorem iU.BR (h:iU τ E G w b vt vn ve gn ge ag aL exprs) {ys:List aq} (hy:dL (ge.toList++(g.toList++(E++G))) w' τ.T 2 v g (da ys)) (k:aj (b::ge.toList) w w') (hg:g=ge∨∃x,g=some x∧w.heap.size<=x):
  ∃G',iU τ E G' w' b vt vn v gn g ag aL ys∧Fr G w G' w'∧∀x,x∈G'->x∈ge.toList++(g.toList++(E++G)):=by
 obtain⟨a1,a2,a3,a4⟩:=h.apart
 have pI:∀x,x∈g.toList->x∈ge.toList∨w.heap.size<=x:=λx hx=>by
  rcases hg with rfl|⟨y,rfl,hy⟩
  ·exact .inl hx
  ·right;simp at hx;omega
 have ox:b∈G:=h.mem.2 (.inl rfl)
 have hF:Fr G w (b::(gn.toList++g.toList)) w':=⟨k.mono λx hx=>by
  rcases mC.1 hx with rfl|hx
  ·exact ox
  ·exact h.mem.2 (by simp[hx]),λx hx=>by
  rcases mC.1 hx with rfl|hx
  ·exact .inl ox
  ·rcases mA.1 hx with hx|hx
   ·exact .inl (h.mem.2 (by simp[hx]))
   ·rcases pI x hx with h1|h1
    ·exact .inl (h.mem.2 (by simp[h1]))
    ·exact .inr h1⟩
 have dY:∀x,x∈E++G->x<w.heap.size:=h.cF
 have hN:(E++b::(gn.toList++g.toList)).Nodup:=UY a1 a2 a3 (λx hx=>by
  rcases pI x hx with h1|h1
  ·exact a4 x h1
  ·exact⟨λhe=>by have:=dY x (by simp[he]);omega,λe=>by have:=dY x (mR _ (h.mem.2 (.inl e)));omega,λe=>by have:=dY x (mR _ (h.mem.2 (by simp[e])));omega⟩)
 have oK:∀x,x∈b::(gn.toList++g.toList)->x∈ge.toList++(g.toList++(E++G)):=λx hx=>by
  rw[mA,mA,mA]
  rcases mC.1 hx with rfl|hx
  ·exact .inr (.inr (.inr ox))
  ·rcases mA.1 hx with hx|hx
   ·exact .inr (.inr (.inr (h.mem.2 (by simp[hx]))))
   ·simp[hx]
 refine⟨_,⟨h.ta.go (hF.in E),h.na.aF k (λx hx hy=>?_),hy.sub λx hx=>.inl ?_,rfl,hN,λx hx=>?_⟩,hF,oK⟩
 ·rcases mC.1 hy with rfl|hy
  ·exact(a3 x (by simp[hx])).2 rfl
  ·exact(a4 x hy).2.2 (by simp[hx])
 ·rcases mA.1 hx with hx|hx
  ·simp[hx]
  ·exact oK x hx
 ·have hs:=k.size
  rcases mA.1 hx with hx|hx
  ·exact lL (h.cF x (by simp[hx])) hs
  ·rcases mC.1 hx with rfl|hx
   ·exact lL (h.cF x (mR _ ox)) hs
   ·rcases mA.1 hx with hx|hx
    ·exact lL (h.cF x (mR _ (h.mem.2 (by simp[hx])))) hs
    ·exact hy.lt x hx
theorem iU.alloc (h:iU τ E G w b vt vn ve gn ge ag aL exprs) (k:aj [] w w') (hz:w'.heap.size=w.heap.size+1):iU τ (w.heap.size::E) G w' b vt vn ve gn ge ag aL exprs:=by
 have hF:∀x,x∈(w.heap.size::E)++G->x∈E++G∨w.heap.size<=x:=λx hx=>by
  rcases mC.1 (show x∈w.heap.size::(E++G) from hx) with h1|h1
  ·right;omega
  ·exact .inl h1
 refine⟨(h.ta.fresh hF).ext k,h.na.ext k,(h.ex.sub hF).any k,h.eG,?_,λx hx=>?_⟩
 ·show(w.heap.size::(E++G)).Nodup
  rw[List.nodup_cons]
  exact⟨λhx=>by have:=h.cF _ hx;omega,h.nd⟩
 ·rcases mC.1 (show x∈w.heap.size::(E++G) from hx) with h1|h1
  ·omega
  ·have:=h.cF x h1;omega
theorem iU.aD (h:iU τ E G w b vt vn ve gn ge ag aL exprs) (k:aj [x] w w') (hx:x∈E):iU τ E G w' b vt vn ve gn ge ag aL exprs:=by
 obtain⟨a1,a2,a3,a4⟩:=h.apart
 have hF:Fr (E++G) w (E++G) w':=Fr.of k λy hy=>List.mem_append_left _ (by simp at hy;subst hy;exact hx)
 exact⟨h.ta.go hF,h.na.aF k (λy hy xl=>(a3 y (by simp[hy])).1 (by simp at xl;subst xl;exact hx)),h.ex.aF hF k (λy hy xl=>(a4 y hy).1 (by simp at xl;subst xl;exact hx)),h.eG,h.nd,λy hy=>lL (h.cF y hy) k.size⟩
theorem iU.drop (h:iU τ (x::E) G w b vt vn ve gn ge ag aL exprs):iU τ E G w b vt vn ve gn ge ag aL exprs:=
 ⟨h.ta.fresh λy hy=>.inl (mK _ hy),h.na,h.ex.sub λy hy=>.inl (mK _ hy),h.eG,(List.nodup_cons.1 (show(x::(E++G)).Nodup from h.nd)).2,λy hy=>h.cF y (mK _ hy)⟩
theorem M5.open (h:M5 τ E G w b ag n aL exprs):∃vt vn ve gn ge,aK w b [vt,.int .i64 (n:Int),vn,ve].toArray τ.M∧iU τ E G w b vt vn ve gn ge ag aL exprs:=h
theorem M5.bG (h:M5 τ E G w b ag n aL exprs):b∈G∧b<w.heap.size∧eW (E++G) w:=by
 obtain⟨_,_,_,_,_,h1,h2⟩:=h
 exact⟨h2.mem.2 (.inl rfl),h1.lt,h2.cF⟩
theorem M5.nE (h:M5 τ E G w b ag n aL exprs) (hx:x∈E):x∉G:=by
 obtain⟨_,_,_,_,_,_,h2⟩:=h
 have:=h2.nd
 rw[List.nodup_append] at this
 exact λhg=>this.2.2 x hx x hg rfl
theorem M5.alloc (h:M5 τ E G w b ag n aL exprs) (k:aj [] w w') (hz:w'.heap.size=w.heap.size+1):M5 τ (w.heap.size::E) G w' b ag n aL exprs:=by
 obtain⟨vt,vn,ve,gn,ge,h1,h2⟩:=h
 exact⟨vt,vn,ve,gn,ge,h1.ext k,h2.alloc k hz⟩
theorem M5.aD (h:M5 τ E G w b ag n aL exprs) (k:aj [x] w w') (hx:x∈E):M5 τ E G w' b ag n aL exprs:=by
 obtain⟨vt,vn,ve,gn,ge,h1,h2⟩:=h
 exact⟨vt,vn,ve,gn,ge,h1.aF k (by simp;intro e;subst e;exact h2.apart.2.1 hx),h2.aD k hx⟩
theorem M5.drop (h:M5 τ (x::E) G w b ag n aL exprs):M5 τ E G w b ag n aL exprs:=by
 obtain⟨vt,vn,ve,gn,ge,h1,h2⟩:=h
 exact⟨vt,vn,ve,gn,ge,h1,h2.drop⟩
end
theorem dL.form {T:TypeId} {sz:Nat} {rows:List (List C)} (h:dL L w T sz v g rows) (hp:0<rows.length):∃b cap,v= .slice (some ⟨b,0,none⟩) rows.length cap∧g=some b:=by
 obtain⟨xs,hx,_⟩:=h.own
 rcases hx.2 with⟨_,h0,_⟩|⟨b,cap,_,e,hv,_⟩
 ·omega
 ·exact⟨b,cap,hv,e⟩
theorem dL.OP {T:TypeId} {i:Nat} {ts:List aq} (h:dL L w T 2 (.slice (some ⟨b,0,none⟩) n c) g (da ts)) (hi:i<ts.length):
  ∃pa pc,gH w b (0+i*2) [str (nth ts i).aw,.slice pa (nth ts i).ak.length pc]∧bC L w (.agg #[str (nth ts i).aw,.slice pa (nth ts i).ak.length pc]) (nth ts i):=by
 obtain⟨xs,dm,iK⟩:=h.own
 rcases dm.2 with⟨h0,_⟩|⟨b',cap,cur,e,hv,hb,my,l0,bV,ht⟩
 ·cases h0
 ·cases hv
  have iC:=h.row
  have hlen:xs.length=(da ts).length*2:=dm.1
  have jt:∀j,j<2->∀u,xs[i*2+j]?=some u->w.cell? ⟨b,i*2+j,none⟩=some u:=λj hj u hu=>by
   rw[hb.cell]
   rw[<-ht,List.getElem?_take] at hu
   split at hu
   ·simpa using hu
   ·cases hu
  have mq:i<(da ts).length:=by rw[iz];exact hi
  obtain⟨u0,h0⟩:∃u,xs[i*2]?=some u:=⟨xs[i*2]'om,gE om⟩
  obtain⟨u1,h1⟩:∃u,xs[i*2+1]?=some u:=⟨xs[i*2+1]'om,gE om⟩
  have hr:cZ L w [u0,u1] (nth ts i).enc:=by
   have iG:=ph (nth ts i)
   refine cZ.of (by rw[iG];rfl) λj v c hv hc=>?_
   have nq:(da ts).flatten[i*2+j]?=some c:=Gf iC (Mx (gh hi)) hc
   refine iK.get ?_ nq
   match j,hv with
   |0,hv=>simp at hv;subst hv;exact h0
   |1,hv=>simp at hv;subst hv;exact h1
  obtain⟨pa,pn,pc,he,hn,hp⟩:=cY (t:=nth ts i) ⟨[u0,u1],rfl,hr⟩
  have gz:[u0,u1]=[str (nth ts i).aw,.slice pa pn pc]:=by
   have:=congrArg (λv=>match v with|Value.agg x=>x.toList|_=>[]) he
   simpa using this
  subst hn
  simp only[List.cons.injEq,and_true] at gz
  obtain⟨e0,e1⟩:=gz
  subst e0 e1
  refine⟨pa,pc,λj v hj=>?_,lF hp⟩
  match j,hj with
  |0,hj=>simp at hj;subst hj;have:=jt 0 om _ h0;simpa using this
  |1,hj=>simp at hj;subst hj;have:=jt 1 om _ h1;simpa using this
theorem cG.OP {T:TypeId} {i:Nat} (h:cG w T (.slice (some ⟨b,0,none⟩) n c) g xs) (hi:i<xs.length):gH w b (0+i*1) [str (bD xs i)]:=by
 obtain⟨b1,eX,e1,hc⟩:=lf h.rs (ik hi)
 cases e1
 exact hc
theorem cG.ahR {T:TypeId} (h:cG w T v g xs) (hp:0<xs.length):∃b cap,v= .slice (some ⟨b,0,none⟩) xs.length cap∧g=some b:=by cases h.2<;>grind
def Ws:Value->Nat->Value
 | .slice (some ⟨b,o,none⟩) _ _,k=>.pointer (some ⟨b,o+k,none⟩)
 |_,_=>undef
section
variable {P:Program} {n:Nat} {ops:Array Oper} {K:Env->World->Prop} {rest:List Oper} {e:Env} {w:World} {dst:Option Nat} {ty:TypeId} {pos:String} {after:Array Edge} {g:Option (Nat×Bool)} {x y:Operand}
theorem sF {t E bytes:Nat} {z:Value} {v:Value} {gb:Option Nat} {xs:List ai} {s:ai} {b U:Nat} (hT:P.underlying t=some (.slice E)) (hE:TI P E 1 bytes z) (hg:gate ops e g=true) (hd:cj n dst=true) (hz:Nat.beq z.cells.size 1=true) (fY:Nat.ble bytes 1000=true) 
  (hx:ev e x=v) (hy:ev e y= .slice (some ⟨b,0,none⟩) 1 1) (hO:cG w E v gb xs) (hb:aK w b [str s].toArray U) (hn:xs.length<100000000)
  (k:∀v' g' w',cG w' E v' g' (xs++[s])->aj gb.toList w w'->(g'=gb∨g'=some w.heap.size)->OW P n ops K rest (bQ e dst v') w'):
  OW P n ops K (⟨dst,.call {callee:=.builtin .append,args:=#[x,y],argTypes:=#[t,t]},ty,pos,after,g⟩::rest) e w:=by
 refine De (L:=[]) (row:=[.val (str s)]) hT hE hg hd hz fY hx hy (hO.UU _) rfl hb.all (by simp[Value.oneCell']) ⟨.val _,trivial⟩ (by rw[po];exact hn) ?_
 intro v' g' w' jj hk kT
 rw[UW] at jj
 exact k v' g' w' jj.sn hk.aF kT
theorem Wt {G:List Nat} {t E bytes:Nat} {z:Value} {v:Value} {gb:Option Nat} {ts:List aq} {b:Nat} {U c:Nat} (hT:P.underlying t=some (.slice E)) (hE:TI P E 2 bytes z) (hg:gate ops e g=true) (hd:cj n dst=true) (hz:Nat.beq z.cells.size 2=true) (fY:Nat.ble bytes 1000=true) 
  (hx:ev e x=v) (hy:ev e y= .slice (some ⟨b,0,none⟩) 1 c) (hO:dL G w E 2 v gb (da ts)) (hG:eW G w) (mc:∀q,q∈gb.toList->q∈G) (hb:aK w b [str [],.slice none 0 0].toArray U) (hn:ts.length<100000000)
  (k:∀v' g' w',dL (gb.toList++(g'.toList++G)) w' E 2 v' g' (da (ts++[.mk [] []]))->aj gb.toList w w'->(g'=gb∨g'=some w.heap.size)->Fr G w (gb.toList++(g'.toList++G)) w'->eW (gb.toList++(g'.toList++G)) w'->OW P n ops K rest (bQ e dst v') w'):
  OW P n ops K (⟨dst,.call {callee:=.builtin .append,args:=#[x,y],argTypes:=#[t,t]},ty,pos,after,g⟩::rest) e w:=by
 refine De (L:=G) (row:=(aq.mk [] []).enc) hT hE hg hd hz fY hx hy (hO.sub λq hq=>.inl ?_) (ph _) hb.all (by simp[Value.oneCell']) (bC.kG (lE pj)) (by rw[iz];exact hn) ?_
 ·rcases mA.1 hq with h|h
  ·exact mc q h
  ·exact h
 ·intro v' g' w' jj hk kT
  have e1:da ts++[(aq.mk [] []).enc]=da (ts++[.mk [] []]):=by rw[Mw];rfl
  rw[e1] at jj
  have pI:∀q,q∈g'.toList->q∈gb.toList∨w.heap.size<=q:=λq hq=>by
   rcases kT with h|h
   ·rw[h] at hq;exact .inl hq
   ·rw[h] at hq;simp at hq;right;omega
  refine k v' g' w' jj hk.aF kT ⟨hk.aF.mono mc,λq hq=>?_⟩ λq hq=>?_
  ·rcases mA.1 hq with h|h
   ·exact .inl (mc q h)
   ·rcases mA.1 h with h|h
    ·rcases pI q h with h|h
     ·exact .inl (mc q h)
     ·exact .inr h
    ·exact .inl h
  ·have hs:=hk.aF.size
   rcases mA.1 hq with h|h
   ·exact lL (hG q (mc q h)) hs
   ·rcases mA.1 h with h|h
    ·exact jj.lt q h
    ·exact lL (hG q h) hs
end
structure J5 (τ:zg) (E G2:List Nat) (w0:World) (b:Nat) (vt n vn ve:Value) (ge:Option Nat) (exprs:List aq) (s:aq) (b9 Dy:Bool) (G:List Nat) (v:Value) (w:World):Prop where
 box:aK w b [vt,n,vn,if Dy=true then v else ve].toArray τ.M
 cF:eW G w
 aF:aj (b::ge.toList) w0 w
 ex:∃g',G=ge.toList++(g'.toList++(E++G2))∧dL G w τ.T 2 v g' (da (exprs++[if b9=true then s else .mk [] []]))∧(g'=ge∨∃x,g'=some x∧w0.heap.size<=x)
section
variable {τ:zg} {E G2:List Nat} {w0 w w':World} {b:Nat} {vt n vn ve:Value} {ge:Option Nat} {exprs:List aq} {s:aq} {b9 Dy:Bool} {G:List Nat} {v:Value}
theorem J5.ext (h:J5 τ E G2 w0 b vt n vn ve ge exprs s b9 Dy G v w) (k:aj [] w w'):J5 τ E G2 w0 b vt n vn ve ge exprs s b9 Dy G v w':=
 ⟨h.box.ext k,λx hx=>lL (h.cF x hx) k.size,h.aF.ext k,let⟨g',h1,h2,h3⟩:=h.ex;⟨g',h1,h2.any k,h3⟩⟩
theorem J5.form (h:J5 τ E G2 w0 b vt n vn ve ge exprs s b9 Dy G v w):∃bb cap,v= .slice (some ⟨bb,0,none⟩) (exprs.length+1) cap∧(bb∈G)∧(bb∈ge.toList∨w0.heap.size<=bb)∧G=ge.toList++([bb]++(E++G2))∧dL G w τ.T 2 v (some bb) (da (exprs++[if b9=true then s else .mk [] []]))∧(some bb=ge∨∃x,some bb=some x∧w0.heap.size<=x):=by
 obtain⟨g',h1,h2,h3⟩:=h.ex
 obtain⟨bb,cap,e1,e2⟩:=h2.form (by rw[iz];simp)
 subst e2
 refine⟨bb,cap,by rw[e1,iz];simp,by rw[h1];simp,?_,h1,h2,h3⟩
 rcases h3 with h|⟨x,h,hx⟩
 ·left;rw[<-h];simp
 ·cases h;exact .inr hx
theorem J5.fill {bb:Nat} (h:J5 τ E G2 w0 b vt n vn ve ge exprs s false Dy G v w) (hG:G=ge.toList++([bb]++(E++G2))) (hb:b≠bb) (fT:bb∈ge.toList∨w0.heap.size<=bb) (hg:some bb=ge∨∃x,some bb=some x∧w0.heap.size<=x) (k:aj [bb] w w') (ho:dL G w' τ.T 2 v (some bb) (da (exprs++[s]))):J5 τ E G2 w0 b vt n vn ve ge exprs s true Dy G v w':=
 ⟨h.box.aF k (by simpa using hb),λx hx=>lL (h.cF x hx) k.size,h.aF.since k (λx hx=>by
  simp at hx;subst hx
  rcases fT with h|h
  ·exact .inl (by simp only[mC];right;exact h)
  ·exact .inr h),some bb,hG,by simpa using ho,hg⟩
theorem J5.field (h:J5 τ E G2 w0 b vt n vn ve ge exprs s b9 false G v w) (k:aj [b] w w') (hb:aK w' b [vt,n,vn,v].toArray τ.M) (ho:∀g',dL G w τ.T 2 v g' (da (exprs++[if b9=true then s else .mk [] []]))->(g'=ge∨∃x,g'=some x∧w0.heap.size<=x)->b∉g'.toList) (ox:b∈G):J5 τ E G2 w0 b vt n vn ve ge exprs s b9 true G v w':=
 ⟨by simpa using hb,λx hx=>lL (h.cF x hx) k.size,h.aF.since k (λx hx=>by simp at hx;subst hx;exact .inl sm),let⟨g',h1,h2,h3⟩:=h.ex;⟨g',h1,h2.aF (Fr.of k (by simpa using ox)) k (λx hx hy=>by simp at hy;subst hy;exact ho g' h2 h3 hx),h3⟩⟩
end
def zK (ag:List ai) (e:Ex) (n:Nat) (aL:List ai) (exprs:List aq):Prop:=n+e.n*(2*(ag.length+2))<=100000∧aL.length+4*e.n<=100000∧exprs.length+4*e.n<=100000∧ag.length<=10000
def KN (ag:List ai) (E G:List Nat) (b:Nat) (aL:List ai) (exprs:List aq) (w:World) (q:Bs×Ex×Nat) (r:Value) (w':World):Prop:=
 ∃G',(bC (E++G') w' r q.2.1.au∧M5 t5 E G' w' b ag q.2.2 (aL++q.1.map Prod.fst) (exprs++q.1.map λp=>p.2.au))∧Fr G w G' w'
def OQ (e:Ex):Prop:=∀(ag:List ai) (n:Nat) (aL:List ai) (exprs:List aq),zK ag e n aL exprs->∀(E G:List Nat) (b:Nat) (v:Value) (w:World),M5 t5 E G w b ag n aL exprs->bC (E++G) w v e.au->
 bw Tryz.prog 218 [.pointer (some ⟨b,0,none⟩),v] w (KN ag E G b aL exprs w (aZ ag e n))
def ahS (e:Ex):Prop:=∀(ag:List ai) (n:Nat) (aL:List ai) (exprs:List aq),zK ag e n aL exprs->∀(E G:List Nat) (b:Nat) (v:Value) (w:World),M5 t5 E G w b ag n aL exprs->bC (E++G) w v e.au->
 bw Tryz.prog 242 [.pointer (some ⟨b,0,none⟩),v] w (KN ag E G b aL exprs w (dI ag (aZ ag e n)))
theorem OR {ag:List ai}:∀{e:Ex} {n:Nat} {s:ai},e.ok->(aZ ag e n).2.1= .at s->s≠[]
 | .at x,n,s,h,e=>by
  have:Ex.at x=Ex.at s:=e
  cases this
  exact p8 h
 | .lt x a b,n,s,h,e=>OR (e:=b) h.2.2 e
 | .un ..,n,s,h,e=>by cases e
 | .bi ..,n,s,h,e=>by cases e
 | .ite ..,n,s,h,e=>by cases e
 | .fn ..,n,s,h,e=>by cases e
theorem Wu {f:Ex} (h:∀s,f= .at s->s≠[]):f.au.aw≠[]↔f.iQ=true:=by
 cases f with
 |«at» s=>exact⟨λ_=>rfl,λ_=>h s rfl⟩
 |_=>exact⟨λhh=>absurd rfl hh,λhh=>by cases hh⟩
theorem KO (ag:List ai) (e:Ex) (n:Nat):(aZ ag e n).1.length+1<=2*e.n:=by
 have h1:=vS ag e n
 have h2:∀bs:Bs,3*bs.length<=qe bs:=by
  intro bs
  induction bs with
  |nil=>simp[qe]
  |cons p bs ih=>rw[T1];have:=p.2.pos;simp only[lC];omega
 have h3:=h2 (aZ ag e n).1
 have h4:=(aZ ag e n).2.1.pos
 omega
theorem Wv (bh:e.ok) (hC:OQ e):ahS e:=by
 intro ag n aL exprs hB E G b v w hM hv
 have cQ:=hv
 obtain⟨a,np,c,rfl,hn,aO⟩:=cY hv
 obtain⟨Kg,OS,OT,KP⟩:=hB
 have KQ:=iA ag e n
 have OU:=KO ag e n
 have hK:=aj.refl [] w
 have av:=hM
 have hT:=cQ
 obtain⟨q,hq⟩:∃q,q=aZ ag e n:=⟨_,rfl⟩
 rw[<-hq] at KQ OU
 refine lG [.cell 4 74] 39 Tryz.func242 rfl adS rfl rfl rfl ?_
 refine zr<|eK rfl λw1 aI cW dh=>cJ aI hK av hT λhK av hT=>?_
 refine dz aM rfl rfl rfl λw2 az aG dD=>?_
 have hK:=hK.grow;have hK:=hK.ext az;have av:=av.alloc az dD;have hT:=hT.grow;have hT:=hT.ext az;have cW:=cW.grow;have cW:=cW.ext az
 refine W ?_
 refine aA (hC ag n aL exprs ⟨Kg,OS,OT,KP⟩ (w1.heap.size::E) G b _ w2 av hT) ?_
 rintro v9 w3 ⟨G1,⟨dy,ri⟩,cV⟩
 rw[<-hq] at dy ri
 obtain⟨a9,n9,c9,e9,_,_⟩:=cY dy
 subst e9
 have aG:=aG.aF cV.aF (av.nE sm)
 have Ww:=aG.lt
 have hR:Fr G w G1 w3:=(Fr.of hK sm).go cV
 have x4:=aj.refl [] w3
 have av:=ri
 have H5:=hR.aF.size
 refine dz aM rfl rfl rfl λw4 aP cu gQ=>?_
 have av:=av.alloc aP gQ;have aG:=aG.grow;have aG:=aG.ext aP;have x4:=x4.grow;have x4:=x4.ext aP;have dy:=dy.grow;have dy:=dy.ext aP
 refine cL aM rfl rfl rfl cu rfl λw5 aN cu gZ=>?_
 have av:=av.aD aN sx;have aG:=aG.aD aN sx;have x4:=x4.aD aN sx;have dy:=dy.aD aN sx
 refine W ?_
 refine zc rfl (λh1=>?_) (λh1=>?_)
 have eF:q.2.1.iQ=true:=((Wu (λs e=>OR bh (by rw[<-hq];exact e))).1 h1)
 have OV:dI ag q=q:=iP eF
 have hR:=hR.ext x4
 refine W ?_
 refine cL aM rfl rfl rfl aG rfl λw6 bN aG du=>?_
 have av:=av.aD bN sm;have dy:=dy.aD bN sm
 have hR:Fr G w G1 w6:=⟨hR.aF.since bN (λx hx=>.inr (by simp at hx;omega)),hR.mem⟩
 refine W ?_
 exact⟨[_],gC fc aM rfl aG rfl,by rw[<-hq,OV];exact⟨G1,⟨dy.gm (λx hx=>mK _ (mK _ hx)),av.drop.drop⟩,hR⟩⟩
 have eF:¬q.2.1.iQ=true:=(λhh=>h1 ((Wu (λs e=>OR bh (by rw[<-hq];exact e))).2 hh))
 have OV:dI ag q=(q.1++[(cO cy (bu cy ag q.2.2),q.2.1)],.at (cO cy (bu cy ag q.2.2)),bu cy ag q.2.2+1):=iN eF
 have hR:=hR.ext x4
 have aQ:∃nm,nm=cO cy (bu cy ag q.2.2):=⟨_,rfl⟩
 obtain⟨nm,eT⟩:=aQ
 have aQ:∃x,x=aL++q.1.map Prod.fst:=⟨_,rfl⟩
 obtain⟨N1,Dz⟩:=aQ
 have aQ:∃x,x=exprs++q.1.map λp=>p.2.au:=⟨_,rfl⟩
 obtain⟨X1,DA⟩:=aQ
 rw[<-Dz,<-DA] at av
 have Wx:N1.length=aL.length+q.1.length:=by rw[Dz];simp
 have hXl:X1.length=exprs.length+q.1.length:=by rw[DA];simp
 refine gT<|zr<|zm<|aA (ahQ ag q.2.2 om KP b _ G1 N1 X1 w5 av) ?_
 rintro zM w6 ⟨⟨BS,ri⟩,jZ⟩
 rw[<-eT] at BS
 subst BS
 have ox:=ri.bG
 have Wy:=ri.nE (x:=w1.heap.size) sm
 have dy:=dy.aD jZ (by intro x hx;simp at hx;subst hx;simp[ox.1])
 have aG:=aG.aF jZ (by simp;intro e;subst e;exact Wy ox.1)
 have H6:=ri.nE (List.mem_cons_self ..)
 have cu:=cu.aF jZ (by simp;intro e;exact H6 (e▸ox.1))
 have hR:=hR.aD jZ (by simpa using ox.1)
 obtain⟨vt,vn,ve,gn,ge,bj,hS⟩:=ri.open
 refine W ?_
 refine eR bg ba rfl rfl λw7 bW sG oe=>tC bW aG dy cu bj hS hR λaG dy cu bj hS hR=>?_
 refine sF bg ba rfl rfl rfl rfl rfl rfl hS.na sG om λWz g23 w8 WB cg ahU=>?_
 obtain⟨pN,pO,H7⟩:=jn WB
 subst H7
 obtain⟨KR,x5,x6,tQ⟩:=hS.apart
 obtain⟨G2,fJ,jD⟩:=hS.UZ WB cg ahU
 have bj:=bj.aF cg (λh=>(x6 b h).2 rfl)
 have aG:=aG.aF cg (λh=>(x6 _ h).1 sm)
 have cu:=cu.aF cg (λh=>(x6 _ h).1 sm)
 have dy:bC ((w3.heap.size::w1.heap.size::E)++G2) w8 _ q.2.1.au:=bC.go (L:=(w3.heap.size::w1.heap.size::E)++G1) dy (jD.in _)
 have hR:=hR.go jD
 have yb:b∈G2:=fJ.mem.2 (.inl rfl)
 refine W ?_
 refine gD (o:=2) mW rfl rfl rfl bj rfl λw9 aB bj du=>?_
 have hS:=fJ.aF aB sm
 have aG:=aG.aF aB (by simp;intro e;subst e;exact x5 sm)
 have cu:=cu.aF aB (by simp;intro e;exact x5 (by simp[e]))
 have dy:=dy.aD aB (by intro x hx;simp at hx;subst hx;simp[yb]);have hR:=hR.aD aB (by simpa using yb)
 have ahV:=(List.nodup_cons.1 (show(w3.heap.size::((w1.heap.size::E)++G2)).Nodup from hS.nd)).1
 have hS:=hS.drop
 have dy:bC ((w1.heap.size::E)++G2) w9 _ q.2.1.au:=dy.gm (λx hx=>mK _ hx)
 refine W ?_
 obtain⟨ae,ce,e5⟩:=hS.ex.len
 subst e5
 have cu:dP ((w1.heap.size::E)++G2) w9 _ _ _:=⟨cu,ahV⟩
 have bj:aK w9 b [vt,(.int .i64 ((bu cy ag q.2.2+1:Nat):Int)),(.slice pN (N1++[nm]).length pO),(.slice ae (da X1).length ce)].toArray 190:=bj
 have DB:eW ((w1.heap.size::E)++G2) w9:=hS.cF
 have eh:b∈G2:=yb
 obtain⟨KR,x5,x6,tQ⟩:=hS.apart
 have ix:=bj.lt
 apply Uk dv (((w1.heap.size::E)++G2)) 13 (rA 26 9++[100009,35,36,100012]) (rA 26 9++[100009,35,36,100012]) [[],[0],[1],[2],[],[3],[],[3,6],[5,7],[4,8],[0],[10],[7,11]] [Iu.v _,Iu.v _,Iu.v _,Iu.w 0 ((.slice ae (da X1).length ce)),Iu.v _,Iu.v _,Iu.p (fun(G:List Nat) (v:Value) (ww:World)=>∃bb,v= .slice (some ⟨bb,0,none⟩) 1 1∧dP G ww bb [str [],.slice none 0 0].toArray 74),Iu.e 1,Iu.d (fun(vs:List Value)=>Ws (vs.getD 1 undef) ((da X1).length*2)),Iu.u,Iu.v _,Iu.v _,Iu.u] [3,7] [fun(G:List Nat) (vs:List Value) (ww:World)=>G=((w1.heap.size::E)++G2)∧aK ww b [vt,(.int .i64 ((bu cy ag q.2.2+1:Nat):Int)),(.slice pN (N1++[nm]).length pO),(.slice ae (da X1).length ce)].toArray 190∧aj [] w9 ww,fun(G:List Nat) (vs:List Value) (ww:World)=>G=((w1.heap.size::E)++G2)∧aK ww b [vt,(.int .i64 ((bu cy ag q.2.2+1:Nat):Int)),(.slice pN (N1++[nm]).length pO),(.slice ae (da X1).length ce)].toArray 190∧aj [] w9 ww,fun(G:List Nat) (vs:List Value) (ww:World)=>J5 t5 (w1.heap.size::E) G2 w9 b vt (.int .i64 ((bu cy ag q.2.2+1:Nat):Int)) (.slice pN (N1++[nm]).length pO) (.slice ae (da X1).length ce) ge X1 q.2.1.au false false G (vs.getD 1 undef) ww] (fun(S:Nat->Bool) (G:List Nat) (vs:List Value) (ww:World)=>J5 t5 (w1.heap.size::E) G2 w9 b vt (.int .i64 ((bu cy ag q.2.2+1:Nat):Int)) (.slice pN (N1++[nm]).length pO) (.slice ae (da X1).length ce) ge X1 q.2.1.au (S 9) (S 12) G (vs.getD 1 undef) ww) de rfl DB (by exact⟨λG v w G' w' ⟨bb,e,h⟩ k=>⟨bb,e,h.go k⟩,trivial⟩) (by exact⟨λG vs w w' ⟨h1,h2,h3⟩ k=>⟨h1,h2.ext k,h3.ext k⟩,λG vs w w' ⟨h1,h2,h3⟩ k=>⟨h1,h2.ext k,h3.ext k⟩,λG vs w w' h k=>h.ext k,trivial⟩) (by exact λS G vs w w' h k=>h.ext k) (⟨rfl,bj,aj.refl _ _⟩) (by exact λ_ _ _ h _=>h)
 refine uf (λx cv nK aT qw mL=>?_) ?_
 refine WZ ?_
 exact uv
 refine uf (λx cv nK aT qw mL=>?_) ?_
 refine WZ ?_
 exact uv
 refine uf (λx cv nK aT qw mL=>?_) ?_
 refine WZ ?_
 exact uv
 refine ue 0 (λx cv nK aT qw mL hJ hlen=>?_) ?_
 have aX:=jw hlen
 subst aX
 obtain⟨bS,bj,bT⟩:=hJ
 refine WZ ?_
 exact uW nK (Fr.refl _ _) mL (⟨bS,bj,bT⟩)
 refine uf (λx cv nK aT qw mL=>?_) ?_
 have cu:=cu.go qw
 refine WZ ?_
 exact uv
 refine uf (λx cv nK aT qw mL=>?_) ?_
 refine WZ ?_
 exact uv
 refine uf (λx cv nK aT qw mL=>?_) ?_
 refine eR cD aM rfl rfl λew cR ahW vY=>?_
 exact up cR (⟨_,rfl,ahW.o mL⟩)
 refine ue 1 (λx cv nK aT qw mL hJ hlen=>?_) ?_
 obtain⟨q0,aX⟩:=jx hlen
 subst aX
 intro v6 d6
 obtain⟨bb,e6,fT⟩:=d6
 subst e6
 obtain⟨bS,bj,bT⟩:=hJ
 subst bS
 refine Wt cD aM rfl rfl rfl rfl rfl rfl (hS.ext bT).ex ‹_› (λx hx=>mR _ (hS.mem.2 (by simp[hx]))) fT.iw om λv9 g9 ew cU aB fj cV eE=>?_
 exact uE _ cV eE (⟨bj.aF aB (λh=>(tQ b h).2.1 rfl),eE,bT.any.trans (aB.mono (λx hx=>mK _ hx)),g9,rfl,cU,fj.imp id (λh=>⟨_,h,bT.size⟩)⟩)
 refine ud (λx cv nK aT S qw mL hJ hlen=>?_) ?_
 obtain⟨q0,q1,aX⟩:=lO hlen
 subst aX
 obtain⟨bb,cap,e1,pP,pz,kf,hO,tN⟩:=J5.form hJ
 have e2:q1=_:=e1
 subst e2
 refine zi cD aM rfl rfl (by rw[iz];omega) ?_
 exact uD (aj.refl _ _) rfl
 refine uu (λx cv nK aT S qw mL hJ DC hlen=>?_) ?_
 obtain⟨q0,q1,aX⟩:=lO hlen
 subst aX
 have dy:=dy.go qw
 have hJ:J5 t5 (w1.heap.size::E) G2 w9 b vt (.int .i64 ((bu cy ag q.2.2+1:Nat):Int)) (.slice pN (N1++[nm]).length pO) (.slice ae (da X1).length ce) ge X1 q.2.1.au (S 9) (S 12) nK q1 cv:=hJ
 rw[DC] at hJ
 obtain⟨bb,cap,e1,pP,pz,kf,hO,tN⟩:=J5.form hJ
 subst e1
 refine tM (i:=(da X1).length) (vs:=[str q.2.1.au.aw,.slice a9 n9 c9]) (row:=q.2.1.au.enc) aM rfl rfl rfl rfl (Nat.zero_add _) hO ‹_› pP (by rw[iz,iz];simp) rfl (ph _) dy.kG λew cR sC dm=>?_
 rw[tP,iz] at dm
 exact uU nK (Fr.of cR (by simpa using pP)) ((λx hx=>lL (mL x hx) (aj.size cR))) (J5.fill hJ kf (by rintro rfl;rcases pz with h|h;(·exact(tQ _ h).2.1 rfl);(·omega)) pz tN cR (by have e3:(X1++[if false=true then q.2.1.au else aq.mk [] []]).set X1.length q.2.1.au=X1++[q.2.1.au]:=sm;rw[e3] at dm;exact dm))
 refine uf (λx cv nK aT qw mL=>?_) ?_
 refine WZ ?_
 exact uv
 refine uf (λx cv nK aT qw mL=>?_) ?_
 refine WZ ?_
 exact uv
 refine uu (λx cv nK aT S qw mL hJ DC hlen=>?_) ?_
 obtain⟨q0,q1,aX⟩:=lO hlen
 subst aX
 have hJ:J5 t5 (w1.heap.size::E) G2 w9 b vt (.int .i64 ((bu cy ag q.2.2+1:Nat):Int)) (.slice pN (N1++[nm]).length pO) (.slice ae (da X1).length ce) ge X1 q.2.1.au (S 9) (S 12) nK q1 cv:=hJ
 rw[DC] at hJ
 obtain⟨bb,cap,e1,pP,pz,H8,hO,tN⟩:=J5.form hJ
 subst e1
 have OX:=hJ.box
 refine gD (o:=3) EF rfl rfl rfl OX rfl λew cR DD sC=>?_
 exact uU nK (Fr.of cR (by rw[H8];simp[eh])) ((λx hx=>lL (mL x hx) (aj.size cR))) (J5.field hJ cR DD (λg9 _ fj hx=>by rcases fj with h|⟨y,h,hy⟩;(·rw[h] at hx;exact(tQ _ hx).2.1 rfl);(·rw[h] at hx;simp at hx;omega)) (by rw[H8];simp[eh]))
 exact trivial
 intro x oZ KG aT zG Wk hJ hlen
 obtain⟨q0,q1,aX⟩:=lO hlen
 subst aX
 intro v6 d6
 intro v9
 intro v12
 change OW _ _ _ _ [] (bo (bm _ x _) (zZ 26 [_,_,_,_,_,_,_,_,_]++[(100009,_),(35,_),(36,_),(100012,_)])) _
 have hJ:J5 t5 (w1.heap.size::E) G2 w9 b vt (.int .i64 ((bu cy ag q.2.2+1:Nat):Int)) (.slice pN (N1++[nm]).length pO) (.slice ae (da X1).length ce) ge X1 q.2.1.au true true KG q1 oZ:=hJ
 obtain⟨g9,kf,cU,fj⟩:=hJ.ex
 subst kf
 obtain⟨G3,zN,jC,WC⟩:=hS.BR cU hJ.aF fj
 have aG:=aG.aF hJ.aF (by intro hx;rcases mC.1 hx with h|h;(·exact x5 (by simp[h]));(·exact(tQ _ h).1 sm))
 have hR:=hR.go jC
 have bj:=hJ.box
 have zN:=zN
 refine aV<|zr<|zm<|aA (BD nm oZ) ?_
 rintro _ o3 ⟨rfl,mo⟩
 have aqK:=mo.size
 refine gY mo aG zN bj hR λaG zN bj hR=>?_
 refine cL aM rfl rfl rfl aG rfl λlQ lv aG du=>?_
 have bj:=bj.aF lv (by simp;intro e;exact x5 (by simp[e]))
 have zN:=zN.aD lv sm
 have hR:Fr G w G3 lQ:=⟨hR.aF.since lv (λx hx=>.inr (by simp at hx;omega)),hR.mem⟩
 refine W ?_
 exact⟨[_],gC fc aM rfl aG rfl,by rw[<-hq,OV];exact⟨G3,⟨(by rw[eT];exact lE pj),(by have e1:aL++(q.1++[(cO cy (bu cy ag q.2.2),q.2.1)]).map Prod.fst=N1++[nm]:=(by rw[Dz,eT];simp);have e2:exprs++(q.1++[(cO cy (bu cy ag q.2.2),q.2.1)]).map (λp=>p.2.au)=X1++[q.2.1.au]:=(by rw[DA];simp);show M5 t5 E G3 _ b ag _ (aL++(q.1++[(cO cy (bu cy ag q.2.2),q.2.1)]).map Prod.fst) (exprs++(q.1++[(cO cy (bu cy ag q.2.2),q.2.1)]).map (λp=>p.2.au));rw[e1,e2];exact⟨_,_,_,_,_,bj,zN.drop⟩)⟩,hR⟩⟩
theorem ahX (v:Value) (a:Option Addr) (n c:Nat) (hv:v= .slice a n c) (w:World):bw Tryz.prog 219 [v] w λr w'=>r= .agg #[str [],.slice a n c]∧aj [] w w':=by
 subst hv
 have hK:=aj.refl [] w
 refine lG [.cell 2 74] 5 Tryz.func219 rfl adC rfl rfl rfl ?_
 refine zr<|dz aM rfl rfl rfl λw1 aI aR dh=>?_
 have hK:=hK.grow;have hK:=hK.ext aI
 refine aV<|zr<|zm<|jG (M3 _ _ _ _) rfl rfl<|cL aM rfl rfl rfl aR rfl λw2 az aR dD=>?_
 have hK:=hK.aD az sx
 refine W ?_
 exact⟨[_],gC fc aM rfl aR rfl,rfl,hK⟩
def ahY (e:Ex):Prop:=∀(ag:List ai) (n:Nat) (aL:List ai) (exprs:List aq),zK ag e n [] []->∀(E G:List Nat) (b:Nat) (v:Value) (w:World),M5 t5 E G w b ag n aL exprs->bC (E++G) w v e.au->
 bw Tryz.prog 181 [.pointer (some ⟨b,0,none⟩),v] w λr w'=>(bC (E++G) w' r (mX ag e n).au∧M5 t5 E G w' b ag (aZ ag e n).2.2 aL exprs)∧Fr G w G w'
theorem ahZ {bs:Bs} (h:k<bs.length):(nest (bs.drop k) e).au= .mk [] [bM gv,bM (bs.getD k ([],e)).1,(bs.getD k ([],e)).2.au,(nest (bs.drop (k+1)) e).au]:=by
 rw[List.drop_eq_getElem_cons h]
 have e1:bs.getD k ([],e)=bs[k]:=by simp[h]
 rw[e1];rfl
theorem ah0 {e:Ex} (h:k<bs.length):bD (bs.map Prod.fst) k=(bs.getD k ([],e)).1:=by simp[bD,List.getD,h]
theorem ah1 {e:Ex} (h:k<bs.length):nth (bs.map λp=>p.2.au) k=(bs.getD k ([],e)).2.au:=by simp[nth,List.getD,h]
theorem ah2 {T:TypeId} {u1 u2 u3 u4 u5 u6 u7 u8:Value} {t1 t2 t3 t4:aq} (hb:aK w b [u1,u2,u3,u4,u5,u6,u7,u8].toArray T) (hL:b∉L) (h1:bC L w (.agg #[u1,u2]) t1) (h2:bC L w (.agg #[u3,u4]) t2) (h3:bC L w (.agg #[u5,u6]) t3) (h4:bC L w (.agg #[u7,u8]) t4):
  eU L w (.slice (some ⟨b,0,none⟩) 4 4) [t1,t2,t3,t4]:=by
 have hc:=hb.all
 refine ZU b 0 4 2 (da [t1,t2,t3,t4]) [[u1,u2],[u3,u4],[u5,u6],[u7,u8]] rfl (lR 4) hb.lt hL (aay _) (λi vs hi=>?_) λi vs row hi hr=>?_
 ·intro j v hj
  match i,hi with
  |0,hi=>simp at hi;subst hi;have:=hc j v (by match j,hj with|0,hj=>simpa using hj|1,hj=>simpa using hj);simpa using this
  |1,hi=>simp at hi;subst hi;have:=hc (2+j) v (by match j,hj with|0,hj=>simpa using hj|1,hj=>simpa using hj);simpa using this
  |2,hi=>simp at hi;subst hi;have:=hc (4+j) v (by match j,hj with|0,hj=>simpa using hj|1,hj=>simpa using hj);simpa using this
  |3,hi=>simp at hi;subst hi;have:=hc (6+j) v (by match j,hj with|0,hj=>simpa using hj|1,hj=>simpa using hj);simpa using this
 ·match i,hi with
  |0,hi=>simp at hi;subst hi;simp[da] at hr;subst hr;exact h1.kG
  |1,hi=>simp at hi;subst hi;simp[da] at hr;subst hr;exact h2.kG
  |2,hi=>simp at hi;subst hi;simp[da] at hr;subst hr;exact h3.kG
  |3,hi=>simp at hi;subst hi;simp[da] at hr;subst hr;exact h4.kG
theorem KT (bh:e.ok) (hC:OQ e):ahY e:=by
 intro ag n aL exprs hB E G b v w hM hv
 have cQ:=hv
 obtain⟨a,np,c,rfl,hn,aO⟩:=cY hv
 have hB0:=hB
 obtain⟨Kg,OS,OT,KP⟩:=hB
 have KQ:=iA ag e n
 have OU:=KO ag e n
 have hK:=aj.refl [] w
 have av:=hM
 have hT:=cQ
 obtain⟨q,hq⟩:∃q,q=aZ ag e n:=⟨_,rfl⟩
 rw[<-hq] at KQ OU
 refine lG [.cell 4 74] 66 Tryz.func181 rfl ac8 rfl rfl rfl ?_
 refine zr<|eK rfl λw1 aI cW dh=>bI aI hK av λhK av=>?_
 refine dz aM rfl rfl rfl λw2 az aG dD=>?_
 have hK:=hK.grow;have hK:=hK.ext az;have av:=av.alloc az dD;have cW:=cW.grow;have cW:=cW.ext az
 refine W ?_
 obtain⟨vt,vn,ve,gn,ge,bj,hS⟩:=av.open
 obtain⟨an,cn,j1⟩:=jn hS.na
 subst j1
 obtain⟨ae,ce,CZ⟩:=hS.ex.len
 subst CZ
 obtain⟨KR,x5,x6,tQ⟩:=hS.apart
 have ox:b∈G:=hS.mem.2 (.inl rfl)
 have ix:=bj.lt
 have DE:=hS
 have nB:=hK
 have OY:=aj.refl [] w2
 have Ww:=aG.lt
 have HW:=aG
 have H9:bC ((w1.heap.size::E)++G) w2 _ e.au:=bC.ext (bC.fresh cQ (by intro x hx;rcases mC.1 (show x∈w1.heap.size::(E++G) from hx) with h|h;(·right;omega);(·exact .inl h))) nB
 have aqL:=dh
 have aqM:=dD
 have WD:w.heap.size≠b:=(by have:=hM.bG.2.1;omega)
 have KU:w1.heap.size≠b:=(by have:=hM.bG.2.1;omega)
 have Kd:=hM.bG.2.1
 refine W ?_
 refine gA bg ba λw3 aH jP gL=>gY aH bj OY cW aG λbj OY cW aG=>?_
 refine W ?_
 refine gD (o:=2) mW rfl rfl rfl bj rfl λw4 aP bj du=>?_
 have qx:aj [b] w2 w4:=(aj.any OY).trans aP
 have jP:=jP.aF aP so
 have aG:=aG.aF aP (by simpa using KU)
 have cW:=cW.aF aP (by simpa using WD)
 refine aV<|zr<|zm<|gA cD aM λw5 aN sG gZ=>gY aN bj cW aG jP λbj cW aG jP=>?_
 refine W ?_
 refine gD (o:=3) EF rfl rfl rfl bj rfl λw6 bN bj du=>?_
 have qx:aj [b] w2 w6:=(qx.ext aN).trans bN
 have jP:=jP.aF bN so
 have sG:=sG.aF bN so
 have aG:=aG.aF bN (by simpa using KU)
 have cW:=cW.aF bN (by simpa using WD)
 refine W ?_
 have bj:aK w6 b [vt,.int .i64 (n:Int),.slice (some ⟨w2.heap.size,0,none⟩) 0 0,.slice (some ⟨w4.heap.size,0,none⟩) 0 0].toArray 190:=bj
 obtain⟨hSo,_,_,aqN⟩:=DE.opened qx jP sG (lR _) om
 have av:M5 t5 (gn.toList++(ge.toList++(w1.heap.size::E))) [b,w2.heap.size,w4.heap.size] w6 b ag n [] []:=⟨_,_,_,_,_,bj,hSo⟩
 have hTP:bC ((gn.toList++(ge.toList++(w1.heap.size::E)))++[b,w2.heap.size,w4.heap.size]) w6 _ e.au:=H9.go ⟨qx.mono (by intro x hx;simp at hx;subst hx;simp[ox]),by intro x hx;rcases mA.1 hx with h|h;(·left;rcases mA.1 h with h|h;(·exact mR _ (DE.mem.2 (by simp[h])));(·rcases mA.1 h with h|h;(·exact mR _ (DE.mem.2 (by simp[h])));(·exact List.mem_append_left _ h)));(·simp at h;rcases h with h|h|h;(·left;simp[h,ox]);(·right;omega);(·right;omega))⟩
 refine aA (hC ag n [] [] hB0 (gn.toList++(ge.toList++(w1.heap.size::E))) [b,w2.heap.size,w4.heap.size] b _ w6 av hTP) ?_
 rintro v27 w7 ⟨G2,⟨pQ,av⟩,OZ⟩
 rw[<-hq,List.nil_append,List.nil_append] at av
 rw[<-hq] at pQ
 obtain⟨a9,n9,c9,e9,_,_⟩:=cY pQ
 subst e9
 have qx:=qx.since OZ.aF (by intro x hx;simp at hx;rcases hx with h|h|h;(·left;simp[h]);(·right;omega);(·right;omega))
 have aG:=aG.aF OZ.aF so
 have ah6:∀x,x∈G2->x=b∨w2.heap.size<=x:=(by intro x hx;have h1:=qx.size;rcases OZ.mem x hx with h|h;(·simp at h;omega);(·right;omega))
 have hzw:=qx.size
 refine dz aM rfl rfl rfl λw8 cg cS kX=>?_
 have aG:=aG.grow;have aG:=aG.ext cg;have av:=av.alloc cg kX;have pQ:=pQ.grow;have pQ:=pQ.ext cg;have qx:=qx.grow;have qx:=qx.ext cg
 refine cL aM rfl rfl rfl cS rfl λw9 aB cS du=>?_
 have aG:=aG.aD aB sx;have av:=av.aD aB sx;have pQ:=pQ.aD aB sx;have qx:=qx.aD aB sx
 refine W ?_
 obtain⟨vt3,vn3,ve3,gn3,ge3,bj,hS⟩:=av.open
 obtain⟨an3,cn3,ah7⟩:=jn hS.na
 subst ah7
 obtain⟨ae3,ce3,ah8⟩:=hS.ex.len
 subst ah8
 have mQ:(q.1.map Prod.fst).length=q.1.length:=by simp
 have lB:(q.1.map λp=>p.2.au).length=q.1.length:=by simp
 have aqZ:(da (q.1.map λp=>p.2.au)).length=q.1.length:=by rw[iz];exact lB
 refine W ?_
 have JJ:b<w7.heap.size∧w2.heap.size<=w7.heap.size:=(by constructor<;>omega)
 refine dR (λk:Nat=>[(0,.pointer (some ⟨b,0,none⟩)),(4,.pointer (some ⟨w1.heap.size,0,none⟩)),(5,.slice an aL.length cn),(6,.slice ae (da exprs).length ce),(7,.pointer (some ⟨w7.heap.size,0,none⟩)),(8,.int .i64 ((k:Int)-1))]) (λk w'=>aj [w7.heap.size] w9 w'∧k<=q.1.length∧∃a n c,aK w' w7.heap.size [str (nest (q.1.drop k) q.2.1).au.aw,.slice a n c].toArray 74∧bC (w7.heap.size::((gn.toList++(ge.toList++(w1.heap.size::E)))++G2)) w' (.agg #[str (nest (q.1.drop k) q.2.1).au.aw,.slice a n c]) (nest (q.1.drop k) q.2.1).au) (λk=>k) q.1.length (⟨rfl,rfl,rfl,rfl,rfl,congrArg (λz:Nat=>Value.int .i64 ((z:Int)-1)) mQ⟩) (⟨aj.refl _ _,lR _,a9,n9,c9,by rw[List.drop_length];exact cS,by rw[List.drop_length];exact pQ⟩) λgg cv fQ hI=>?_
 obtain⟨jh,hk,a7,n7,c7,cS,pQ⟩:=hI
 have O0:b≠w7.heap.size:=(by have:=JJ;omega)
 have bj:=bj.aF jh (by simpa using O0)
 have hS:=hS.aD jh (List.mem_cons_self ..)
 have qx:=qx.since jh (λx hx=>.inr (by rw[List.mem_singleton.1 hx];exact JJ.2))
 refine W ?_
 refine zc rfl (λh1=>?_) (λh1=>?_)
 have aQ:∃k,gg=k+1:=⟨gg-1,om⟩
 obtain⟨k,rfl⟩:=aQ
 have hi:((k+1:Nat):Int)-1=(k:Int):=by omega
 rw[hi]
 obtain⟨bn,capn,e1,pI⟩:=hS.na.ahR om
 cases e1
 obtain⟨be,cape,e2,qE⟩:=hS.ex.form om
 cases e2
 have hcN:=hS.na.OP (i:=k) om
 obtain⟨pa,pc,hcE,O2⟩:=hS.ex.OP (i:=k) om
 refine WZ ?_
 apply vT dv 19 (rA 38 19) (rA 38 19) [[],[],[1],[2],[3],[],[4,5],[6],[7],[],[9],[10],[11],[],[12,13],[14],[],[0,8,15,16],[17]] [It.v _,It.v _,It.v _,It.v _,It.v _,It.v _,It.v _,It.v _,It.v _,It.v _,It.v _,It.v _,It.v _,It.v _,It.v _,It.v _,It.v _,It.p (fun(v:Value) (ww:World)=>∃bb,v= .slice (some ⟨bb,0,none⟩) 4 4∧eU (w7.heap.size::((gn.toList++(ge.toList++(w1.heap.size::E)))++G2)) ww v [bM gv,bM (bD (q.1.map Prod.fst) k),(nth (q.1.map λp=>p.2.au) k),(nest (q.1.drop (k+1)) q.2.1).au]),It.p (fun(v:Value) (ww:World)=>∃a n c,v= .agg #[str [],.slice a n c]∧bC (w7.heap.size::((gn.toList++(ge.toList++(w1.heap.size::E)))++G2)) ww v (.mk [] [bM gv,bM (bD (q.1.map Prod.fst) k),(nth (q.1.map λp=>p.2.au) k),(nest (q.1.drop (k+1)) q.2.1).au]))] de (by exact⟨λv w w' ⟨bb,e,h⟩ k=>⟨bb,e,h.ext k⟩,λv w w' ⟨a,n,c,e,h⟩ k=>⟨a,n,c,e,h.ext k⟩,trivial⟩)
 intro wd aC
 refine vk aC (λx ew cR=>?_) ?_
 refine aA (BD _ ew) ?_
 rintro _ fI ⟨rfl,dw⟩
 have Fw:=dw.size
 exact pk dw
 refine vc (λ_ _ _=>WZ pv) ?_
 refine vk aC (λx ew cR=>?_) ?_
 refine WZ ?_
 exact pv
 refine vc (λ_ _ _=>WZ pv) ?_
 refine vk aC (λx ew cR=>?_) ?_
 have bj:=bj.ext cR
 refine WZ ?_
 exact pv
 refine vc (λ_ _ _=>WZ pv) ?_
 refine VA ?_
 refine vk aC (λx ew cR=>?_) ?_
 refine aA (BD _ ew) ?_
 rintro _ fI ⟨rfl,dw⟩
 have Fw:=dw.size
 exact pk dw
 refine vc (λ_ _ _=>WZ pv) ?_
 refine vk aC (λx ew cR=>?_) ?_
 refine WZ ?_
 exact pv
 refine vc (λ_ _ _=>WZ pv) ?_
 refine vk aC (λx ew cR=>?_) ?_
 have bj:=bj.ext cR
 refine WZ ?_
 exact pv
 refine vc (λ_ _ _=>WZ pv) ?_
 refine VA ?_
 refine vk aC (λx ew cR=>?_) ?_
 refine cJ cR pQ hS O2 λpQ hS O2=>?_
 have cX:=hS.cF
 refine tE [.tmp 38,.tmp 46,.tmp 53,.tmp 54] [[str gv,.slice none 0 0],[str (bD (q.1.map Prod.fst) k),.slice none 0 0],[str (nth (q.1.map λp=>p.2.au) k).aw,.slice pa (nth (q.1.map λp=>p.2.au) k).ak.length pc],[str (nest (q.1.drop (k+1)) q.2.1).au.aw,.slice a7 n7 c7]] cD aM rfl rfl rfl rfl rfl rfl rfl rfl rfl λfI dw Dn aq2=>?_
 exact pf dw (⟨_,rfl,ah2 Dn (λhx=>by have:=cX _ hx;omega) (lE pj) (lE pj) (O2.ext dw) (pQ.ext dw)⟩)
 refine vk aC (λx ew cR=>?_) ?_
 intro jQ d17
 obtain⟨bb,sH,KV⟩:=d17
 refine aA (ahX jQ _ _ _ sH ew) ?_
 rintro _ fI ⟨rfl,dw⟩
 have Fw:=dw.size
 have KV:=eU.ext KV dw
 rw[sH] at KV
 exact pf dw (⟨_,_,_,rfl,lE KV⟩)
 exact trivial
 intro x o3 mo
 intro jQ d17
 intro yd d18
 refine bI mo jh cS λjh cS=>?_
 change OW _ _ _ _ _ (bo (bm _ x _) (zZ 38 [_,_,_,_,_,_,_,_,_,_,_,_,_,_,_,_,_,_,_])) _
 obtain⟨a8,n8,c8,wI,KX⟩:=d18
 subst wI
 have ji:=ahZ (bs:=q.1) (e:=q.2.1) (k:=k) om
 rw[<-ah0 (e:=q.2.1) (show k<q.1.length by omega),<-ah1 (e:=q.2.1) (show k<q.1.length by omega)] at ji
 rw[<-ji] at KX
 have WE:(nest (q.1.drop k) q.2.1).au.aw=[]:=by rw[ji];rfl
 refine cL aM rfl rfl rfl cS rfl λlQ lv cS du=>?_
 have jh:=jh.trans lv
 have KX:=KX.aD lv sm
 refine W ?_
 exact⟨k,⟨rfl,rfl,rfl,rfl,rfl,rfl⟩,⟨jh,om,a8,n8,c8,by rw[WE];exact cS,by rw[WE];exact KX⟩,om⟩
 have h0:gg=0:=by omega
 subst h0
 have BT:=hS
 have DD:=bj
 have Ia:=qx
 refine W ?_
 refine gD (o:=2) mW rfl rfl rfl bj rfl λew cR bj du=>?_
 have mM:=cR
 have cS:=cS.aF cR (by simpa using λe=>O0 e.symm)
 have pQ:=pQ.aD cR (by intro x hx;simp at hx;subst hx;simp[BT.mem.2 (.inl rfl)])
 refine W ?_
 refine gD (o:=3) EF rfl rfl rfl bj rfl λfI dw bj du=>?_
 have mM:=mM.trans dw
 have cS:=cS.aF dw (by simpa using λe=>O0 e.symm)
 have pQ:=pQ.aD dw (by intro x hx;simp at hx;subst hx;simp[BT.mem.2 (.inl rfl)])
 have ah9:aj [b] w2 fI:=Ia.trans mM
 have aG:=HW.aF ah9 (by simpa using KU)
 obtain⟨hS,aia⟩:=DE.closed BT.drop (DE.na.aF Ia (λx hx hy=>(x6 x (by simp[hx])).2 (by simpa using hy))) (DE.ex.aF (Fr.of Ia (by intro x hx;simp at hx;subst hx;simp[ox])) Ia (λx hx hy=>(tQ x hx).2.1 (by simpa using hy))) ⟨Ia.mono (by intro x hx;simp at hx;subst hx;exact ox),λx hx=>(ah6 x hx).imp (λh=>by rw[h];exact ox) id⟩ mM
 have wJ:bC ((w1.heap.size::E)++G) fI _ (nest (q.1.drop 0) q.2.1).au:=pQ.gm (λx hx=>by rcases mA.1 hx with h|h;(·exact mK _ (by rcases mC.1 h with h|h<;>simp[h]));(·rcases DE.mem.1 h with h|h|h;(·rw[h];simp[BT.mem.2 (.inl rfl)]);(·simp[h]);(·simp[h])))
 refine W ?_
 refine cL aM rfl rfl rfl aG rfl λjO gM aG du=>?_
 have bj:=bj.aF gM (by simpa using λe=>KU e.symm)
 have hS:=(hS.aD gM sm).drop
 have wJ:=wJ.aD gM sm
 have yV:=nB.size
 have hFr:Fr G w G jO:=⟨((aj.any nB).trans aia.aF).since gM (λx hx=>.inr (by simp at hx;omega)),λx hx=>.inl hx⟩
 refine W ?_
 exact⟨[_],gC fc aM rfl aG rfl,⟨(by have h9:=bC.gm wJ (L':=E++G) (λx hx=>mK _ hx);unfold mX;rw[<-hq];exact h9),by rw[<-hq];exact⟨_,_,_,_,_,bj,hS⟩⟩,hFr⟩
def gN (ag:List ai) (e:Ex) (n:Nat):Nat->Bs×List Ex×Nat
 |0=>([],[],n)
 |k+1=>((gN ag e n k).1++(dI ag (aZ ag (fZ e k) (gN ag e n k).2.2)).1,(gN ag e n k).2.1++[(dI ag (aZ ag (fZ e k) (gN ag e n k).2.2)).2.1],(dI ag (aZ ag (fZ e k) (gN ag e n k).2.2)).2.2)
theorem O3 (ag:List ai) (e:Ex) (n:Nat):∀k,(gN ag e n k).2.1.length=k
 |0=>rfl
 |k+1=>by simp[gN,O3 ag e n k]
theorem WG (ag:List ai) (e:Ex) (n:Nat):(dI ag (aZ ag e n)).1.length<=2*e.n:=by
 have:=KO ag e n
 unfold dI
 split
 ·omega
 ·simp;omega
theorem WH (ag:List ai) (e:Ex) (n:Nat):(dI ag (aZ ag e n)).2.2<=n+e.n*(2*(ag.length+2)):=by
 have h1:=iA ag e n
 have h2:=qP ag (aZ ag e n)
 omega
theorem WJ (ag:List ai) (e:Ex) (n:Nat):∀k,k<=e.kids.length->(gN ag e n k).1.length<=2*kN e k∧(gN ag e n k).2.2<=n+kN e k*(2*(ag.length+2))
 |0,_=>by simp[gN,kN]
 |k+1,hk=>by
  obtain⟨h1,h2⟩:=WJ ag e n k om
  have h3:=WG ag (fZ e k) (gN ag e n k).2.2
  have h4:=WH ag (fZ e k) (gN ag e n k).2.2
  rw[zC om,Nat.add_mul]
  simp only[gN,lA]
  constructor<;>omega
theorem aic (ag:List ai) (e:Ex) (n:Nat) {aL:List ai} {exprs:List aq} (hB:zK ag e n aL exprs) (hk:k<e.kids.length):zK ag (fZ e k) (gN ag e n k).2.2 (aL++(gN ag e n k).1.map Prod.fst) (exprs++(gN ag e n k).1.map λp=>p.2.au):=by
 obtain⟨h1,h2,h3,h4⟩:=hB
 obtain⟨h5,h6⟩:=WJ ag e n k om
 have h7:=zC hk
 have h8:=Dm e (k+1)
 have h9:=Nat.mul_le_mul_right (2*(ag.length+2)) h8
 rw[h7,Nat.add_mul] at h9
 refine⟨by omega,?_,?_,h4⟩
 ·simp only[lA,List.length_map];omega
 ·simp only[lA,List.length_map];omega
theorem aid (ag:List ai) (n:Nat) (ha:e.iQ=false) (h1:e.head≠gv) (h2:e.head≠gV) (h3:e.head≠gJ):
  (aZ ag e n).1=(gN ag e n e.kids.length).1∧(aZ ag e n).2.1.au= .mk [] ([bM e.head]++(gN ag e n e.kids.length).2.1.map Ex.au)∧(aZ ag e n).2.2=(gN ag e n e.kids.length).2.2:=by
 cases e with
 |«at» s=>cases ha
 |lt x a b=>exact absurd rfl h1
 |fn f x A B b=>exact absurd rfl h2
 |ite a b c=>exact absurd rfl h3
 |un h a=>exact⟨rfl,rfl,rfl⟩
 |bi h a b=>exact⟨rfl,rfl,rfl⟩
theorem aie (ha:e.iQ=false) (h1:e.head≠gv) (h2:e.head≠gV):e.au.ak=ml [bM e.head] [] e:=by
 rw[Wd ha (not_lt h1) h2]
 simp[ml]
theorem WK (ha:e.iQ=false) (h1:e.head≠gv) (h2:e.head≠gV):e.from=1:=by
 cases e with
 |«at» s=>cases ha
 |lt x a b=>exact absurd rfl h1
 |fn f x A B b=>exact absurd rfl h2
 |_=>rfl
theorem zK.sub {ag:List ai} {e':Ex} {n':Nat} {aL names':List ai} {exprs exprs':List aq} (h:zK ag e n aL exprs) (m:Nat) (h1:m+e'.n<=e.n) (h2:n'<=n+m*(2*(ag.length+2))) (h3:names'.length<=aL.length+4*m) (h4:exprs'.length<=exprs.length+4*m):zK ag e' n' names' exprs':=by
 obtain⟨a1,a2,a3,a4⟩:=h
 have h9:=Nat.mul_le_mul_right (2*(ag.length+2)) h1
 rw[Nat.add_mul] at h9
 exact⟨by omega,om,om,a4⟩
theorem M5.nd {τ:zg} {E:List Nat} {ag aL:List ai} {exprs:List aq} (h:M5 τ E G w b ag n aL exprs):(E++G).Nodup:=by
 obtain⟨_,_,_,_,_,_,h2⟩:=h;exact h2.nd
theorem M5.more {τ:zg} {E:List Nat} {w':World} {ag aL:List ai} {exprs:List aq} (h:M5 τ E G w b ag n aL exprs) (k:aj [] w w') (h1:w.heap.size<=x) (h2:x<w'.heap.size):M5 τ (x::E) G w' b ag n aL exprs:=by
 obtain⟨vt,vn,vex,gn,ge,hb,h⟩:=h
 have hF:∀y,y∈(x::E)++G->y∈E++G∨w.heap.size<=y:=λy hy=>by
  rcases mC.1 (show y∈x::(E++G) from hy) with h3|h3
  ·right;omega
  ·exact .inl h3
 refine⟨vt,vn,vex,gn,ge,hb.ext k,(h.ta.fresh hF).ext k,h.na.ext k,(h.ex.sub hF).any k,h.eG,?_,λy hy=>?_⟩
 ·show(x::(E++G)).Nodup
  rw[List.nodup_cons]
  exact⟨λhx=>by have:=h.cF _ hx;omega,h.nd⟩
 ·rcases mC.1 (show y∈x::(E++G) from hy) with h3|h3
  ·omega
  ·have:=h.cF y h3;have:=k.size;omega
structure kj (E G:List Nat) (w0 w:World) (G0:List Nat) (b:Nat) (ag:List ai) (n:Nat) (aL:List ai) (exprs:List aq) (gb b4:Nat) (vP:Value) (ts:List aq):Prop where
 m:M5 t5 (gb::b4::E) G w b ag n aL exprs
 own:dL ((gb::b4::E)++G) w 74 2 vP (some gb) (da ts)
 bx:aK w b4 [str [],.slice none 0 0].toArray 74
 fr:Fr G0 w0 G w
 low:w0.heap.size<=gb∧w0.heap.size<=b4
section
variable {E G G0 G':List Nat} {w0 w w':World} {b:Nat} {ag:List ai} {n n':Nat} {aL names':List ai} {exprs exprs':List aq} {gb b4:Nat} {vP:Value} {ts ts':List aq}
theorem kj.ext (h:kj E G w0 w G0 b ag n aL exprs gb b4 vP ts) (k:aj [] w w'):kj E G w0 w' G0 b ag n aL exprs gb b4 vP ts:=⟨h.m.ext k,h.own.ext k,h.bx.ext k,h.fr.ext k,h.low⟩
theorem kj.call (h:kj E G w0 w G0 b ag n aL exprs gb b4 vP ts) (hm:M5 t5 (gb::b4::E) G' w' b ag n' names' exprs') (k:Fr G w G' w'):kj E G' w0 w' G0 b ag n' names' exprs' gb b4 vP ts:=
 ⟨hm,h.own.aF (k.in _) k.aF (λx hx=>by simp at hx;subst hx;exact h.m.nE sm),h.bx.aF k.aF (h.m.nE sm),h.fr.go k,h.low⟩
theorem kj.ne (h:kj E G w0 w G0 b ag n aL exprs gb b4 vP ts):gb∉b4::(E++G)∧b4∉E++G:=by
 have h1:(gb::b4::(E++G)).Nodup:=h.m.nd
 rw[List.nodup_cons,List.nodup_cons] at h1
 exact⟨h1.1,h1.2.1⟩
theorem kj.store (h:kj E G w0 w G0 b ag n aL exprs gb b4 vP ts) (k:aj [gb] w w') (ho:dL ((gb::b4::E)++G) w' 74 2 vP (some gb) (da ts')):kj E G w0 w' G0 b ag n aL exprs gb b4 vP ts':=
 ⟨h.m.aD k sm,ho,h.bx.aF k (by simp;intro e;exact h.ne.1 (by simp[e])),⟨h.fr.aF.since k (by intro x hx;simp at hx;subst hx;exact .inr h.low.1),h.fr.mem⟩,h.low⟩
theorem kj.cF (h:kj E G w0 w G0 b ag n aL exprs gb b4 vP ts):eW ((gb::b4::E)++G) w:=h.m.bG.2.2
theorem kj.js (h:kj E G w0 w G0 b ag n aL exprs gb b4 vP ts):∀x,x∈[gb]->x∈(gb::b4::E)++G:=by simp
theorem kj.fin (h:kj E G w0 w G0 b ag n aL exprs gb b4 vP ts) (k:aj [b4] w w'):bC (E++G) w' (.agg #[str [],vP]) (.mk [] ts)∧M5 t5 E G w' b ag n aL exprs∧Fr G0 w0 G w':=by
 have h1:bP (b4::(E++G)) w vP (.sl 2 (da ts)):=h.own.rep (λx hx=>.inl (by simpa using hx)) (by simpa using h.ne.1)
 have h2:bC (b4::(E++G)) w (.agg #[str [],vP]) (.mk [] ts):=lE h1
 exact⟨(h2.aD k sm).gm (λx hx=>mK _ hx),(h.m.drop.aD k sm).drop,⟨h.fr.aF.since k (by intro x hx;simp at hx;subst hx;exact .inr h.low.2),h.fr.mem⟩⟩
end
theorem aif:∀(m:Nat) (e:Ex),e.n<=m->e.ok->OQ e:=by
 intro m
 induction m with
 |zero=>intro e h;have:=e.pos;omega
 |succ m ih=>
  intro e hm bh ag n aL exprs hB E F b v w hM cQ
  have hv:=cQ
  obtain⟨a,np,c,rfl,hn,KD⟩:=cY hv
  subst hn
  have KQ:=iA ag e n
  have Kv:=HO e
  have hK:=aj.refl [] w
  have av:=hM
  have hT:=cQ
  have hMl:=hM.bG
  obtain⟨Kg,OS,OT,KP⟩:=id hB
  refine lG [.cell 4 74] 114 Tryz.func218 rfl adB rfl rfl rfl ?_
  refine zr<|eK rfl λw1 aI cW dh=>cJ aI hK av hT λhK av hT=>?_
  refine dz aM rfl rfl rfl λw2 az aG dD=>?_
  have hK:=hK.grow;have hK:=hK.ext az;have av:=av.alloc az dD;have hT:=hT.grow;have hT:=hT.ext az;have cW:=cW.grow;have cW:=cW.ext az
  refine W ?_
  refine zc rfl (λh1=>?_) (λh1=>?_)
  have aQ:∃x,e= .at x:=(by have ha:=(wu bh).1 h1;cases e<;>first|exact⟨_,rfl⟩|cases ha)
  obtain⟨x,rfl⟩:=aQ
  refine W ?_
  refine cL aM rfl rfl rfl aG rfl λw3 aH aG gL=>?_
  have hK:=hK.aD aH sx;have av:=av.aD aH sx;have hT:=hT.aD aH sx
  refine W ?_
  exact⟨[_],gC fc aM rfl aG rfl,by show KN ag E F b aL exprs w ([],.at x,n) _ _;exact⟨F,⟨hT.gm (λy hy=>mK _ hy),by simpa using av.drop⟩,Fr.of hK sm⟩⟩
  have eF:e.iQ=false:=(by cases hh:e.iQ;rfl;exact absurd ((wu bh).2 hh) h1)
  obtain⟨HP,nj,ju,oX⟩:=Ex.ak eF
  obtain⟨jB,Fe,Ff⟩:=HN bh eF
  have nB:=hK
  have mr:=av
  have H9:=hT
  have O4:=cW
  have HW:=aG
  have ahw:=dh
  have ahx:=dD
  have BU:eU (w1.heap.size::(E++F)) w2 (.slice a e.au.ak.length c) e.au.ak:=(by obtain⟨a9,n9,c9,e9,BV,BU⟩:=cY H9;cases e9;exact BU)
  have O5:=mr.bG.2.2
  refine W ?_
  refine vJ w2.heap.size (w1.heap.size::(E++F)) cD aM rfl rfl (lR _) (λx hx=>O5 x hx) λw3 aH KE xT=>?_
  have jY:=aH
  refine bI aH cW aG λcW aG=>?_
  refine zm<|xH cD aM rfl rfl rfl rfl rfl rfl xT (eU.ext (eU.grow BU) aH) (Wi _) (by rw[iz];simp;omega) λa4 fU g4 w4 kP aP=>?_
  have jY:=xT.since jY aP
  have hK:=nB.trans jY
  have cW:=O4.ext jY
  have aG:=HW.ext jY
  have fH:=jY.size
  rw[show([]:List (List C)).length+(da e.au.ak).length=e.au.ak.length from by rw[iz];simp] at kP⊢
  rw[List.nil_append] at kP
  obtain⟨gb,e4,e5⟩:=kP.form (by rw[iz];exact jB)
  subst e4
  subst e5
  have fG:gb<w4.heap.size:=kP.lt gb sm
  have Fm:w2.heap.size<=gb:=kP.low gb rfl
  have hS:dL (gb::(w1.heap.size::(E++F))) w4 74 2 (.slice (some ⟨gb,0,none⟩) e.au.ak.length fU) (some gb) (da e.au.ak):=(let⟨xs,hr⟩:=kP.own;⟨⟨xs,hr.own,hr.rep⟩,hr.row⟩)
  have av:M5 t5 (gb::w1.heap.size::E) F w4 b ag n aL exprs:=mr.more jY Fm fG
  refine jG (M3 _ _ _ _) rfl rfl<|dz aM rfl rfl rfl λw5 aN bO gZ=>?_
  have hK:=hK.grow;have hK:=hK.ext aN;have aG:=aG.grow;have aG:=aG.ext aN;have hS:=hS.grow;have hS:=hS.ext aN;have jY:=jY.grow;have jY:=jY.ext aN
  refine cL aM rfl rfl rfl bO rfl λw6 bN bO lj=>?_
  have hK:=hK.aD bN sx;have aG:=aG.aD bN sx;have hS:=hS.aD bN sx;have jY:=jY.aD bN sx
  refine W ?_
  have jg:=hK.size
  have jY:aj [] w2 w6:=jY
  have av:M5 t5 (gb::w1.heap.size::E) F w6 b ag n aL exprs:=mr.more jY Fm (by have:=bO.lt;omega)
  have hS:dL ((gb::w1.heap.size::E)++F) w6 74 2 _ _ _:=dL.sub hS (λx hx=>.inl (mK _ hx))
  have Wj:=av.bG.2.2
  have Fo:Fr (w1.heap.size::(E++F)) w2 ((gb::w1.heap.size::E)++F) w6:=⟨jY.any,λx hx=>by rcases mC.1 (show x∈gb::(w1.heap.size::(E++F)) from hx) with h|h;(·right;omega);(·exact .inl h)⟩
  have aO:=eU.go BU Fo
  have eT:∀q,w.heap.size<=q->q≠gb->q≠w1.heap.size->q∉((gb::w1.heap.size::E)++F):=(by intro q h1 h2 h3 hx;rcases mC.1 (show q∈gb::(w1.heap.size::(E++F)) from hx) with h|h;(·exact h2 h);(·rcases mC.1 h with h|h;(·exact h3 h);(·have:=hMl.2.2 q h;omega)))
  have bO:dP ((gb::w1.heap.size::E)++F) w6 w4.heap.size _ _:=⟨bO,eT _ om om om⟩
  have aS:kj E F w w6 F b ag n aL exprs gb w1.heap.size (.slice (some ⟨gb,0,none⟩) e.au.ak.length fU) e.au.ak:=⟨av,hS,aG,⟨hK.any,λx hx=>.inl hx⟩,om,om⟩
  obtain⟨b0,wj,xI,xJ,e0,uQ,kh⟩:=fg aO jB
  cases e0
  refine zi (i:=0) cD aM rfl rfl jB<|W ?_
  refine zc rfl (λh2=>?_) (λh2=>?_)
  obtain⟨nx,ea,eb,rfl⟩:=KB bh (ju.symm.trans h2)
  have xU:(Ex.lt nx ea eb).n=2+ea.n+eb.n:=rfl
  have KY:aZ ag (.lt nx ea eb) n=((aZ ag ea n).1++(nx,(aZ ag ea n).2.1)::(aZ ag eb (aZ ag ea n).2.2).1,(aZ ag eb (aZ ag ea n).2.2).2.1,(aZ ag eb (aZ ag ea n).2.2).2.2):=rfl
  have KZ:=iA ag ea n
  have px:=KO ag ea n
  have hBa:zK ag ea n aL exprs:=hB.sub 0 om om om om
  have aQ:∃q,q=aZ ag ea n:=⟨_,rfl⟩
  obtain⟨q,hq⟩:=aQ
  rw[<-hq] at KY KZ px
  have KF:(Ex.lt nx ea eb).au.ak.length=4:=rfl
  have aO:eU ((w1.heap.size::E)++F) w6 _ _:=aO.gm (λx hx=>mK _ hx)
  have av:=aS.m.drop
  have aG:=aS.bx
  have hR:=aS.fr
  obtain⟨b1,eX,gR,gF,e1,bK,cN⟩:=fg aO (i:=1) om
  cases e1
  obtain⟨b2,lP,iI,iy,e2,bY,dM⟩:=fg aO (i:=2) om
  cases e2
  have dM:bC ((w1.heap.size::E)++F) w6 _ ea.au:=dM
  obtain⟨b3,BP,qm,qo,e3,dS,ei⟩:=fg aO (i:=3) om
  cases e3
  have ei:bC ((w1.heap.size::E)++F) w6 _ eb.au:=ei
  refine zr<|zm<|zm<|zi (i:=2) cD aM rfl rfl ((show 2<4 from om))<|W ?_
  refine aA (ih ea om bh.2.1 ag n aL exprs hBa (w1.heap.size::E) F b _ w6 av dM) ?_
  rintro v29 w7 ⟨G1,⟨dy,ri⟩,cV⟩
  rw[<-hq] at dy ri
  obtain⟨a9,n9,c9,e9,_,_⟩:=cY dy
  subst e9
  have jN:=hR.go cV
  have fB:=aj.refl [] w7
  have bK:=bK.go (cV.in _);have dS:=dS.go (cV.in _)
  have ei:=bC.go ei (cV.in _)
  have aG:=aG.aF cV.aF (av.nE sm)
  have av:=ri
  have WM:=av.bG.2.2
  have aQ:∃x,x=aL++q.1.map Prod.fst:=⟨_,rfl⟩
  obtain⟨N1,Dz⟩:=aQ
  have aQ:∃x,x=exprs++q.1.map λp=>p.2.au:=⟨_,rfl⟩
  obtain⟨X1,DA⟩:=aQ
  rw[<-Dz,<-DA] at av
  have Wx:N1.length=aL.length+q.1.length:=by rw[Dz];simp
  have hXl:X1.length=exprs.length+q.1.length:=by rw[DA];simp
  have aij:=aG
  have aik:=bK
  have ail:=dS
  have aim:=ei
  have ain:=dy
  have aio:=av
  refine dz aM rfl rfl rfl λw8 cg cS kX=>?_
  have fB:=fB.grow;have fB:=fB.ext cg
  refine cL aM rfl rfl rfl cS rfl λw9 aB cS du=>?_
  have fB:=fB.aD aB sx
  refine W ?_
  have BW:=jN.aF.size
  have fB:aj [] w7 w9:=fB
  have hR:=jN.ext fB
  have aG:=aij.ext fB
  have bK:=aik.ext fB
  have dS:=ail.ext fB
  have ei:=aim.ext fB
  have dy:=ain.ext fB
  have av:=aio.ext fB
  obtain⟨vt,vn,vex,gn,ge,bj,hS⟩:=av.open
  have bj:aK w9 b [vt,.int .i64 (q.2.2:Int),vn,vex].toArray 190:=bj
  obtain⟨KR,x5,x6,tQ⟩:=hS.apart
  have DB:eW ((w1.heap.size::E)++G1) w9:=hS.cF
  have ox:b∈G1:=hS.mem.2 (.inl rfl)
  have oe:=cS.lt
  have cS:dP ((w1.heap.size::E)++G1) w9 _ _ _:=⟨cS,λhx=>by have:=WM _ hx;omega⟩
  apply jV dv (((w1.heap.size::E)++G1)) 13 (rA 30 13) (rA 30 13) [[],[],[1],[2],[3],[],[5],[6],[7],[8],[4,9],[0],[11]] [Ie.v _,Ie.v _,Ie.v _,Ie.v _,Ie.w 0 vn,Ie.v _,Ie.v _,Ie.v _,Ie.v _,Ie.p (fun(G:List Nat) (v:Value) (ww:World)=>∃bb,v= .slice (some ⟨bb,0,none⟩) 1 1∧aK ww bb [str nx].toArray 9∧bb∉G),Ie.e 1,Ie.v _,Ie.v _] [4,10] [fun(G:List Nat) (vs:List Value) (ww:World)=>G=(w1.heap.size::E)++G1∧aj [] w9 ww,fun(G:List Nat) (vs:List Value) (ww:World)=>G=(w1.heap.size::E)++G1∧aj [] w9 ww,fun(G:List Nat) (vs:List Value) (ww:World)=>∃G2 g2,G=(w1.heap.size::E)++G2∧aj gn.toList w9 ww∧iU t5 (w1.heap.size::E) G2 ww b vt (vs.getD 1 undef) vex g2 ge ag (N1++[nx]) X1∧Fr G1 w9 G2 ww] de rfl DB (by exact⟨λG v w G' w' ⟨bb,e,h,ho⟩ k=>⟨bb,e,(dP.go ⟨h,ho⟩ k).iw,(dP.go ⟨h,ho⟩ k).out⟩,trivial⟩) (by exact⟨λG vs w w' ⟨h1,h2⟩ k=>⟨h1,h2.ext k⟩,λG vs w w' ⟨h1,h2⟩ k=>⟨h1,h2.ext k⟩,λG vs w w' ⟨G2,g2,h1,h2,h3,h4⟩ k=>⟨G2,g2,h1,h2.ext k,h3.ext k,h4.ext k⟩,trivial⟩) (⟨rfl,aj.refl _ _⟩)
  refine FA ?_
  refine ve 0 (λx cv nK aT qw mL hJ hlen=>?_) ?_
  have aX:=jw hlen
  subst aX
  obtain⟨bS,bT⟩:=hJ
  have ye:=bj.ext bT
  refine WZ ?_
  exact fw nK (Fr.refl _ _) mL (⟨bS,bT⟩)
  refine FA ?_
  refine vf (λ_ _ _ _ _ _=>zi (i:=1) cD aM rfl rfl ((show 1<4 from om)) fv) ?_
  refine FA ?_
  refine vf (λx cv nK aT qw mL=>?_) ?_
  refine eR bg ba rfl rfl ?_
  intro ew cR zB vY
  exact ff cR (⟨_,rfl,(zB.o mL).iw,(zB.o mL).out⟩)
  refine ve 1 (λx cv nK aT qw mL hJ hlen=>?_) ?_
  obtain⟨q0,aX⟩:=jx hlen
  subst aX
  intro v9 d9
  obtain⟨bb,e6,fT,_⟩:=d9
  subst e6
  obtain⟨bS,bT⟩:=hJ
  subst bS
  have K0:=hS.ext bT
  refine sF bg ba rfl rfl rfl rfl rfl rfl K0.na fT om λv9 g9 ew cU aB fj=>?_
  obtain⟨G2,fJ,jD⟩:=K0.UZ cU aB fj
  exact fe _ (jD.in _) fJ.cF (⟨G2,g9,rfl,bT.any.trans aB,fJ,(Fr.of bT sm).go jD⟩)
  exact FZ
  intro x oZ KG aT zG Wk hJ hlen
  obtain⟨q0,q1,aX⟩:=lO hlen
  subst aX
  intro v9 d9
  have cS:=cS.go zG;have dS:=dS.go zG;have ei:=ei.go zG;have dy:=dy.go zG
  change OW _ _ _ _ _ (bo (bm _ x _) (zZ 30 [_,_,_,_,_,_,_,_,_,_,_,_,_])) _
  obtain⟨G2,g9,bS,BO,fJ,jD⟩:=hJ
  subst bS
  obtain⟨pN,pO,H7⟩:=jn fJ.na
  have e8:q1=_:=H7
  subst e8
  have bj:=bj.aF BO (λh=>(x6 b h).2 rfl)
  have aG:=aG.aF BO (λh=>(x6 _ h).1 sm)
  have yb:b∈G2:=fJ.mem.2 (.inl rfl)
  have hR:=hR.go jD
  refine gD (o:=2) mW rfl rfl rfl bj rfl λo3 mo bj du=>?_
  have hS:=fJ.aF mo sm
  have aG:=aG.aF mo (by simp;intro e;subst e;exact x5 sm)
  have hR:=hR.aD mo (by simpa using yb);have cS:=cS.aD mo (by intro x hx;simp at hx;subst hx;simp[yb]);have dS:=dS.aD mo (by intro x hx;simp at hx;subst hx;simp[yb]);have dy:=dy.aD mo (by intro x hx;simp at hx;subst hx;simp[yb]);have ei:=ei.aD mo (by intro x hx;simp at hx;subst hx;simp[yb])
  refine W ?_
  obtain⟨ae,ce,e5⟩:=hS.ex.len
  subst e5
  have bj:aK o3 b [vt,(.int .i64 (q.2.2:Int)),(.slice pN (N1++[nx]).length pO),(.slice ae (da X1).length ce)].toArray 190:=bj
  have DB:eW ((w1.heap.size::E)++G2) o3:=hS.cF
  have eh:b∈G2:=yb
  obtain⟨KR,x5,x6,tQ⟩:=hS.apart
  have ix:=bj.lt
  apply Uk dv (((w1.heap.size::E)++G2)) 13 (rA 43 9++[100009,52,53,100012]) (rA 43 9++[100009,52,53,100012]) [[],[0],[1],[2],[],[3],[],[3,6],[5,7],[4,8],[0],[10],[7,11]] [Iu.v _,Iu.v _,Iu.v _,Iu.w 0 ((.slice ae (da X1).length ce)),Iu.v _,Iu.v _,Iu.p (fun(G:List Nat) (v:Value) (ww:World)=>∃bb,v= .slice (some ⟨bb,0,none⟩) 1 1∧dP G ww bb [str [],.slice none 0 0].toArray 74),Iu.e 1,Iu.d (fun(vs:List Value)=>Ws (vs.getD 1 undef) ((da X1).length*2)),Iu.u,Iu.v _,Iu.v _,Iu.u] [3,7] [fun(G:List Nat) (vs:List Value) (ww:World)=>G=((w1.heap.size::E)++G2)∧aK ww b [vt,(.int .i64 (q.2.2:Int)),(.slice pN (N1++[nx]).length pO),(.slice ae (da X1).length ce)].toArray 190∧aj [] o3 ww,fun(G:List Nat) (vs:List Value) (ww:World)=>G=((w1.heap.size::E)++G2)∧aK ww b [vt,(.int .i64 (q.2.2:Int)),(.slice pN (N1++[nx]).length pO),(.slice ae (da X1).length ce)].toArray 190∧aj [] o3 ww,fun(G:List Nat) (vs:List Value) (ww:World)=>J5 t5 (w1.heap.size::E) G2 o3 b vt (.int .i64 (q.2.2:Int)) (.slice pN (N1++[nx]).length pO) (.slice ae (da X1).length ce) ge X1 q.2.1.au false false G (vs.getD 1 undef) ww] (fun(S:Nat->Bool) (G:List Nat) (vs:List Value) (ww:World)=>J5 t5 (w1.heap.size::E) G2 o3 b vt (.int .i64 (q.2.2:Int)) (.slice pN (N1++[nx]).length pO) (.slice ae (da X1).length ce) ge X1 q.2.1.au (S 9) (S 12) G (vs.getD 1 undef) ww) de rfl DB (by exact⟨λG v w G' w' ⟨bb,e,h⟩ k=>⟨bb,e,h.go k⟩,trivial⟩) (by exact⟨λG vs w w' ⟨h1,h2,h3⟩ k=>⟨h1,h2.ext k,h3.ext k⟩,λG vs w w' ⟨h1,h2,h3⟩ k=>⟨h1,h2.ext k,h3.ext k⟩,λG vs w w' h k=>h.ext k,trivial⟩) (by exact λS G vs w w' h k=>h.ext k) (⟨rfl,bj,aj.refl _ _⟩) (by exact λ_ _ _ h _=>h)
  refine uf (λx lQ qy aT sI rj=>?_) ?_
  refine WZ ?_
  exact uv
  refine uf (λx lQ qy aT sI rj=>?_) ?_
  refine WZ ?_
  exact uv
  refine uf (λx lQ qy aT sI rj=>?_) ?_
  refine WZ ?_
  exact uv
  refine ue 0 (λx lQ qy aT sI rj hJ hlen=>?_) ?_
  have aX:=jw hlen
  subst aX
  obtain⟨bS,bj,bT⟩:=hJ
  refine WZ ?_
  exact uW qy (Fr.refl _ _) rj (⟨bS,bj,bT⟩)
  refine uf (λx lQ qy aT sI rj=>?_) ?_
  have cS:=cS.go sI
  refine WZ ?_
  exact uv
  refine uf (λx lQ qy aT sI rj=>?_) ?_
  refine WZ ?_
  exact uv
  refine uf (λx lQ qy aT sI rj=>?_) ?_
  refine eR cD aM rfl rfl λBX qz aip aiq=>?_
  exact up qz (⟨_,rfl,aip.o rj⟩)
  refine ue 1 (λx lQ qy aT sI rj hJ hlen=>?_) ?_
  obtain⟨q0,aX⟩:=jx hlen
  subst aX
  intro v6 d6
  obtain⟨bb,e6,fT⟩:=d6
  subst e6
  obtain⟨bS,bj,bT⟩:=hJ
  subst bS
  refine Wt cD aM rfl rfl rfl rfl rfl rfl (hS.ext bT).ex ‹_› (λx hx=>mR _ (hS.mem.2 (by simp[hx]))) fT.iw om λv9 g9 BX cU aB fj cV eE=>?_
  exact uE _ cV eE (⟨bj.aF aB (λh=>(tQ b h).2.1 rfl),eE,bT.any.trans (aB.mono (λx hx=>mK _ hx)),g9,rfl,cU,fj.imp id (λh=>⟨_,h,bT.size⟩)⟩)
  refine ud (λx lQ qy aT S sI rj hJ hlen=>?_) ?_
  obtain⟨q0,q1,aX⟩:=lO hlen
  subst aX
  obtain⟨bb,cap,e1,pP,pz,kf,hO,tN⟩:=J5.form hJ
  have e2:q1=_:=e1
  subst e2
  refine zi cD aM rfl rfl (by rw[iz];omega) ?_
  exact uD (aj.refl _ _) rfl
  refine uu (λx lQ qy aT S sI rj hJ DC hlen=>?_) ?_
  obtain⟨q0,q1,aX⟩:=lO hlen
  subst aX
  have dy:=dy.go sI
  have hJ:J5 t5 (w1.heap.size::E) G2 o3 b vt (.int .i64 (q.2.2:Int)) (.slice pN (N1++[nx]).length pO) (.slice ae (da X1).length ce) ge X1 q.2.1.au (S 9) (S 12) qy q1 lQ:=hJ
  rw[DC] at hJ
  obtain⟨bb,cap,e1,pP,pz,kf,hO,tN⟩:=J5.form hJ
  subst e1
  refine tM (i:=(da X1).length) (vs:=[str q.2.1.au.aw,.slice a9 n9 c9]) (row:=q.2.1.au.enc) aM rfl rfl rfl rfl (Nat.zero_add _) hO ‹_› pP (by rw[iz,iz];simp) rfl (ph _) dy.kG λBX qz sC dm=>?_
  rw[tP,iz] at dm
  exact uU qy (Fr.of qz (by simpa using pP)) ((λx hx=>lL (rj x hx) (aj.size qz))) (J5.fill hJ kf (by rintro rfl;rcases pz with h|h;(·exact(tQ _ h).2.1 rfl);(·omega)) pz tN qz (by have e3:(X1++[if false=true then q.2.1.au else aq.mk [] []]).set X1.length q.2.1.au=X1++[q.2.1.au]:=sm;rw[e3] at dm;exact dm))
  refine uf (λx lQ qy aT sI rj=>?_) ?_
  refine WZ ?_
  exact uv
  refine uf (λx lQ qy aT sI rj=>?_) ?_
  refine WZ ?_
  exact uv
  refine uu (λx lQ qy aT S sI rj hJ DC hlen=>?_) ?_
  obtain⟨q0,q1,aX⟩:=lO hlen
  subst aX
  have hJ:J5 t5 (w1.heap.size::E) G2 o3 b vt (.int .i64 (q.2.2:Int)) (.slice pN (N1++[nx]).length pO) (.slice ae (da X1).length ce) ge X1 q.2.1.au (S 9) (S 12) qy q1 lQ:=hJ
  rw[DC] at hJ
  obtain⟨bb,cap,e1,pP,pz,H8,hO,tN⟩:=J5.form hJ
  subst e1
  have OX:=hJ.box
  refine gD (o:=3) EF rfl rfl rfl OX rfl λBX qz DD sC=>?_
  exact uU qy (Fr.of qz (by rw[H8];simp[eh])) ((λx hx=>lL (rj x hx) (aj.size qz))) (J5.field hJ qz DD (λg9 _ fj hx=>by rcases fj with h|⟨y,h,hy⟩;(·rw[h] at hx;exact(tQ _ hx).2.1 rfl);(·rw[h] at hx;simp at hx;omega)) (by rw[H8];simp[eh]))
  exact trivial
  intro x kZ mI aT jM nC hJ hlen
  obtain⟨q0,q1,aX⟩:=lO hlen
  subst aX
  intro v6 d6
  intro v9
  intro v12
  have dS:=dS.go jM;have ei:=ei.go jM
  change OW _ _ _ _ [] (bo (bm _ x _) (zZ 43 [_,_,_,_,_,_,_,_,_]++[(100009,_),(52,_),(53,_),(100012,_)])) _
  have hJ:J5 t5 (w1.heap.size::E) G2 o3 b vt (.int .i64 (q.2.2:Int)) (.slice pN (N1++[nx]).length pO) (.slice ae (da X1).length ce) ge X1 q.2.1.au true true mI q1 kZ:=hJ
  obtain⟨g9,kf,cU,fj⟩:=hJ.ex
  subst kf
  obtain⟨G3,zN,jC,WC⟩:=hS.BR cU hJ.aF fj
  have aG:=aG.aF hJ.aF (by intro hx;rcases mC.1 hx with h|h;(·exact x5 (by simp[h]));(·exact(tQ _ h).1 sm))
  have hR:=hR.go jC
  have bj:=hJ.box
  have WN:∀x,x∈(w1.heap.size::E)++G3->x∈ge.toList++(g9.toList++((w1.heap.size::E)++G2)):=(λx hx=>by rcases mA.1 hx with h|h;(·exact mR _ (mR _ (List.mem_append_left _ h)));(·exact WC x h))
  have ei:=ei.gm WN
  have dS:fF ((w1.heap.size::E)++G3) kZ _ _ _:=⟨dS.cells,dS.lt,λhx=>dS.out (WN _ hx)⟩
  have av:M5 t5 (w1.heap.size::E) G3 kZ b ag q.2.2 (N1++[nx]) (X1++[q.2.1.au]):=⟨_,_,_,_,_,bj,zN⟩
  refine WI ?_
  refine zi (i:=3) cD aM rfl rfl ((show 3<4 from om))<|W ?_
  refine aA (ih eb om bh.2.2 ag q.2.2 (N1++[nx]) (X1++[q.2.1.au]) (hB.sub ea.n om om so so) (w1.heap.size::E) G3 b _ kZ av ei) ?_
  rintro O6 rf ⟨G4,⟨nL,ri⟩,cV⟩
  obtain⟨a5,n5,c5,e5,_,_⟩:=cY nL
  subst e5
  have hR:=hR.go cV
  have aG:=aG.aF cV.aF (av.nE sm)
  have av:=ri
  refine cL aM rfl rfl rfl aG rfl λDx zJ aG du=>?_
  have av:=av.aD zJ sm;have nL:=nL.aD zJ sm
  have hR:Fr F w G4 Dx:=⟨hR.aF.since zJ (λx hx=>.inr (by simp at hx;omega)),hR.mem⟩
  refine W ?_
  exact⟨[_],gC fc aM rfl aG rfl,by rw[KY];exact⟨G4,⟨nL.gm (λx hx=>mK _ hx),(by have e1:aL++(q.1++(nx,q.2.1)::(aZ ag eb q.2.2).1).map Prod.fst=(N1++[nx])++(aZ ag eb q.2.2).1.map Prod.fst:=(by rw[Dz];simp);have e2:exprs++(q.1++(nx,q.2.1)::(aZ ag eb q.2.2).1).map (λp=>p.2.au)=(X1++[q.2.1.au])++(aZ ag eb q.2.2).1.map (λp=>p.2.au):=(by rw[DA];simp);show M5 t5 E G4 _ b ag _ (aL++(q.1++(nx,q.2.1)::(aZ ag eb q.2.2).1).map Prod.fst) (exprs++(q.1++(nx,q.2.1)::(aZ ag eb q.2.2).1).map (λp=>p.2.au));rw[e1,e2];exact av.drop)⟩,hR⟩⟩
  have mQ:e.head≠gv:=λhh=>h2 (ju.trans hh)
  refine W ?_
  refine zc rfl (λh3=>?_) (λh3=>?_)
  obtain⟨nf,nx,tA,tB,eb,rfl⟩:=KC bh (ju.symm.trans h3)
  have xU:(Ex.fn nf nx tA tB eb).n=3+tA.n+tB.n+eb.n:=rfl
  have KJ:(Ex.fn nf nx tA tB eb).au.ak.length=6:=rfl
  obtain⟨b1,eX,gR,gF,e1,bK,cN⟩:=fg aO (i:=5) om
  cases e1
  have cN:bC ((gb::w1.heap.size::E)++F) w6 _ eb.au:=cN
  have aQ:∃X,X=mX ag eb n:=⟨_,rfl⟩
  obtain⟨X,hX⟩:=aQ
  refine WZ ?_
  apply jV dv (((gb::w1.heap.size::E)++F)) 8 (rA 61 8) (rA 61 8) [[],[0],[],[],[3],[4],[2,5],[1]] [Ie.v _,Ie.v _,Ie.v _,Ie.v _,Ie.v _,Ie.v _,Ie.e 0,Ie.v _] [6] [fun(G:List Nat) (vs:List Value) (ww:World)=>G=((gb::w1.heap.size::E)++F)∧kj E F w ww F b ag n aL exprs gb w1.heap.size (.slice (some ⟨gb,0,none⟩) (Ex.fn nf nx tA tB eb).au.ak.length fU) (Ex.fn nf nx tA tB eb).au.ak,fun(G:List Nat) (vs:List Value) (ww:World)=>∃G9,G=((gb::w1.heap.size::E)++G9)∧kj E G9 w ww F b ag (aZ ag eb n).2.2 aL exprs gb w1.heap.size (.slice (some ⟨gb,0,none⟩) (Ex.fn nf nx tA tB eb).au.ak.length fU) (Ex.fn nf nx tA tB eb).au.ak∧bC ((gb::w1.heap.size::E)++G9) ww (vs.getD 0 undef) (mX ag eb n).au] de rfl aS.cF (by exact trivial) (by exact⟨λG vs w w' ⟨h1,h2⟩ k=>⟨h1,h2.ext k⟩,λG vs w w' ⟨G9,h1,h2,h3⟩ k=>⟨G9,h1,h2.ext k,h3.ext k⟩,trivial⟩) (⟨rfl,aS⟩)
  refine FA ?_
  refine vf (λ_ _ _ _ _ _=>zi (i:=5) cD aM rfl rfl ((show 5<6 from om)) fv) ?_
  refine FA ?_
  refine ve 0 (λx w7 G7 aT nM lT hJ hlen=>?_) ?_
  have aX:=jw hlen
  subst aX
  have cN:=cN.go nM
  obtain⟨bS,aS⟩:=hJ
  subst bS
  refine aA (KT bh.2.2.2.2.2 (ih eb om bh.2.2.2.2.2) ag n aL exprs (hB.sub 0 om om sm sm) (gb::w1.heap.size::E) F b _ w7 aS.m cN) ?_
  rintro Dr w8 ⟨⟨dy,rk⟩,cV⟩
  exact fe _ (cV.in _) rk.bG.2.2 (⟨F,rfl,aS.call rk cV,dy⟩)
  refine vf (λ_ _ _ _ _ _=>zi (i:=5) cD aM rfl rfl ((show 5<6 from om)) fv) ?_
  exact trivial
  intro x sJ K1 aT yf K2 hJ hlen
  obtain⟨q0,aX⟩:=jx hlen
  subst aX
  have bO:=bO.go yf
  change OW _ _ _ _ _ (bo (bm _ x _) (zZ 61 [_,_,_,_,_,_,_,_])) _
  obtain⟨G3,bS,aS,dy⟩:=hJ
  subst bS
  obtain⟨a7,n7,c7,e7,_,_⟩:=cY dy
  have e8:q0=_:=e7
  subst e8
  refine tM (i:=5) (vs:=[str (mX ag eb n).au.aw,.slice a7 n7 c7]) (row:=(mX ag eb n).au.enc) aM rfl rfl rfl rfl (by first|rfl|exact Nat.zero_add _) aS.own aS.cF sm (by rw[iz];omega) rfl (ph _) dy.kG λxV mH sC dm=>?_
  rw[tP] at dm
  have bO:=bO.aD mH aS.js
  have aS:=aS.store mH dm
  refine W ?_
  refine cL aM rfl rfl rfl aS.bx rfl λmm mn db kX=>?_
  obtain⟨sD,sE,wG⟩:=aS.fin mn
  refine W ?_
  exact⟨[_],gC fc aM rfl db rfl,by show KN ag E F b aL exprs w ([],.fn nf nx tA tB (mX ag eb n),(aZ ag eb n).2.2) _ _;exact⟨G3,⟨sD,by rw[List.map_nil,List.append_nil,List.map_nil,List.append_nil];exact sE⟩,wG⟩⟩
  have rO:e.head≠gV:=λhh=>h3 (ju.trans hh)
  refine W ?_
  refine zc rfl (λh4=>?_) (λh4=>?_)
  obtain⟨ea,eb,ec,rfl⟩:=Wc bh (ju.symm.trans h4)
  have xU:(Ex.ite ea eb ec).n=1+ea.n+eb.n+ec.n:=rfl
  have KJ:(Ex.ite ea eb ec).au.ak.length=4:=rfl
  have KZ:=WH ag ea n
  have px:=WG ag ea n
  have aQ:∃q,q=dI ag (aZ ag ea n):=⟨_,rfl⟩
  obtain⟨q,hq⟩:=aQ
  have KY:aZ ag (.ite ea eb ec) n=(q.1,.ite q.2.1 (mX ag eb q.2.2) (mX ag ec (aZ ag eb q.2.2).2.2),(aZ ag ec (aZ ag eb q.2.2).2.2).2.2):=(by rw[hq];rfl)
  rw[<-hq] at KZ px
  have V9:=iA ag eb q.2.2
  have sW:(ea.n+eb.n)*(2*(ag.length+2))=ea.n*(2*(ag.length+2))+eb.n*(2*(ag.length+2)):=Nat.add_mul _ _ _
  obtain⟨b1,eX,gR,gF,e1,bK,cN⟩:=fg aO (i:=1) om
  cases e1
  have cN:bC ((gb::w1.heap.size::E)++F) w6 _ ea.au:=cN
  refine WZ ?_
  apply jV dv (((gb::w1.heap.size::E)++F)) 8 (rA 72 8) (rA 72 8) [[],[0],[],[],[3],[4],[2,5],[1]] [Ie.v _,Ie.v _,Ie.v _,Ie.v _,Ie.v _,Ie.v _,Ie.e 0,Ie.v _] [6] [fun(G:List Nat) (vs:List Value) (ww:World)=>G=((gb::w1.heap.size::E)++F)∧kj E F w ww F b ag n aL exprs gb w1.heap.size (.slice (some ⟨gb,0,none⟩) (Ex.ite ea eb ec).au.ak.length fU) (Ex.ite ea eb ec).au.ak,fun(G:List Nat) (vs:List Value) (ww:World)=>∃G9,G=((gb::w1.heap.size::E)++G9)∧kj E G9 w ww F b ag q.2.2 (aL++q.1.map Prod.fst) (exprs++q.1.map λp=>p.2.au) gb w1.heap.size (.slice (some ⟨gb,0,none⟩) (Ex.ite ea eb ec).au.ak.length fU) (Ex.ite ea eb ec).au.ak∧bC ((gb::w1.heap.size::E)++G9) ww (vs.getD 0 undef) q.2.1.au] de rfl aS.cF (by exact trivial) (by exact⟨λG vs w w' ⟨h1,h2⟩ k=>⟨h1,h2.ext k⟩,λG vs w w' ⟨G9,h1,h2,h3⟩ k=>⟨G9,h1,h2.ext k,h3.ext k⟩,trivial⟩) (⟨rfl,aS⟩)
  refine FA ?_
  refine vf (λ_ _ _ _ _ _=>zi (i:=1) cD aM rfl rfl ((show 1<4 from om)) fv) ?_
  refine FA ?_
  refine ve 0 (λx w7 G7 aT nM lT hJ hlen=>?_) ?_
  have aX:=jw hlen
  subst aX
  have cN:=cN.go nM
  obtain⟨bS,aS⟩:=hJ
  subst bS
  refine aA (Wv bh.1 (ih ea om bh.1) ag n aL exprs (hB.sub 0 om om sm sm) (gb::w1.heap.size::E) F b _ w7 aS.m cN) ?_
  rintro Dr w8 ⟨G9,⟨dy,rk⟩,cV⟩
  rw[<-hq] at dy rk
  exact fe _ (cV.in _) rk.bG.2.2 (⟨G9,rfl,aS.call rk cV,dy⟩)
  refine vf (λ_ _ _ _ _ _=>zi (i:=1) cD aM rfl rfl ((show 1<4 from om)) fv) ?_
  exact trivial
  intro x sJ K1 aT yf K2 hJ hlen
  obtain⟨q0,aX⟩:=jx hlen
  subst aX
  have aO:=aO.go yf;have bO:=bO.go yf;have bK:=bK.go yf;have cN:=cN.go yf
  change OW _ _ _ _ _ (bo (bm _ x _) (zZ 72 [_,_,_,_,_,_,_,_])) _
  obtain⟨G3,bS,aS,dy⟩:=hJ
  subst bS
  obtain⟨a7,n7,c7,e7,_,_⟩:=cY dy
  have e8:q0=_:=e7
  subst e8
  refine tM (i:=1) (vs:=[str q.2.1.au.aw,.slice a7 n7 c7]) (row:=q.2.1.au.enc) aM rfl rfl rfl rfl (by first|rfl|exact Nat.zero_add _) aS.own aS.cF sm (by rw[iz];omega) rfl (ph _) dy.kG λxV mH sC dm=>?_
  rw[tP] at dm
  have aO:=aO.aD mH aS.js;have bO:=bO.aD mH aS.js
  have aS:=aS.store mH dm
  refine W ?_
  obtain⟨b2,lP,iI,iy,e2,bK,cN⟩:=fg aO (i:=2) om
  cases e2
  have cN:bC ((gb::w1.heap.size::E)++G3) xV _ eb.au:=cN
  apply jV dv (((gb::w1.heap.size::E)++G3)) 8 (rA 80 8) (rA 80 8) [[],[0],[],[],[3],[4],[2,5],[1]] [Ie.v _,Ie.v _,Ie.v _,Ie.v _,Ie.v _,Ie.v _,Ie.e 0,Ie.v _] [6] [fun(G:List Nat) (vs:List Value) (ww:World)=>G=((gb::w1.heap.size::E)++G3)∧kj E G3 w ww F b ag q.2.2 (aL++q.1.map Prod.fst) (exprs++q.1.map λp=>p.2.au) gb w1.heap.size (.slice (some ⟨gb,0,none⟩) (Ex.ite ea eb ec).au.ak.length fU) ((Ex.ite ea eb ec).au.ak.set 1 q.2.1.au),fun(G:List Nat) (vs:List Value) (ww:World)=>∃G9,G=((gb::w1.heap.size::E)++G9)∧kj E G9 w ww F b ag (aZ ag eb q.2.2).2.2 (aL++q.1.map Prod.fst) (exprs++q.1.map λp=>p.2.au) gb w1.heap.size (.slice (some ⟨gb,0,none⟩) (Ex.ite ea eb ec).au.ak.length fU) ((Ex.ite ea eb ec).au.ak.set 1 q.2.1.au)∧bC ((gb::w1.heap.size::E)++G9) ww (vs.getD 0 undef) (mX ag eb q.2.2).au] de rfl aS.cF (by exact trivial) (by exact⟨λG vs w w' ⟨h1,h2⟩ k=>⟨h1,h2.ext k⟩,λG vs w w' ⟨G9,h1,h2,h3⟩ k=>⟨G9,h1,h2.ext k,h3.ext k⟩,trivial⟩) (⟨rfl,aS⟩)
  refine FA ?_
  refine vf (λ_ _ _ _ _ _=>zi (i:=2) cD aM rfl rfl ((show 2<4 from om)) fv) ?_
  refine FA ?_
  refine ve 0 (λx mm KM aT Ft OM hJ hlen=>?_) ?_
  have aX:=jw hlen
  subst aX
  have cN:=cN.go Ft
  obtain⟨bS,aS⟩:=hJ
  subst bS
  refine aA (KT bh.2.1 (ih eb om bh.2.1) ag q.2.2 (aL++q.1.map Prod.fst) (exprs++q.1.map λp=>p.2.au) (hB.sub ea.n om om sm sm) (gb::w1.heap.size::E) G3 b _ mm aS.m cN) ?_
  rintro Dr oZ ⟨⟨dy,rk⟩,cV⟩
  exact fe _ (cV.in _) rk.bG.2.2 (⟨G3,rfl,aS.call rk cV,dy⟩)
  refine vf (λ_ _ _ _ _ _=>zi (i:=2) cD aM rfl rfl ((show 2<4 from om)) fv) ?_
  exact trivial
  intro x O7 G87 aT K3 aq5 hJ hlen
  obtain⟨q0,aX⟩:=jx hlen
  subst aX
  have aO:=aO.go K3;have bO:=bO.go K3;have bK:=bK.go K3;have cN:=cN.go K3
  change OW _ _ _ _ _ (bo (bm _ x _) (zZ 80 [_,_,_,_,_,_,_,_])) _
  obtain⟨G3,bS,aS,dy⟩:=hJ
  subst bS
  obtain⟨a7,n7,c7,e7,_,_⟩:=cY dy
  have e8:q0=_:=e7
  subst e8
  refine tM (i:=2) (vs:=[str (mX ag eb q.2.2).au.aw,.slice a7 n7 c7]) (row:=(mX ag eb q.2.2).au.enc) aM rfl rfl rfl rfl (by first|rfl|exact Nat.zero_add _) aS.own aS.cF sm (by rw[iz,List.length_set];omega) rfl (ph _) dy.kG λHY BY sC dm=>?_
  rw[tP] at dm
  have aO:=aO.aD BY aS.js;have bO:=bO.aD BY aS.js
  have aS:=aS.store BY dm
  refine W ?_
  obtain⟨b3,BP,qm,qo,e3,bK,cN⟩:=fg aO (i:=3) om
  cases e3
  have cN:bC ((gb::w1.heap.size::E)++G3) HY _ ec.au:=cN
  apply jV dv (((gb::w1.heap.size::E)++G3)) 8 (rA 88 8) (rA 88 8) [[],[0],[],[],[3],[4],[2,5],[1]] [Ie.v _,Ie.v _,Ie.v _,Ie.v _,Ie.v _,Ie.v _,Ie.e 0,Ie.v _] [6] [fun(G:List Nat) (vs:List Value) (ww:World)=>G=((gb::w1.heap.size::E)++G3)∧kj E G3 w ww F b ag (aZ ag eb q.2.2).2.2 (aL++q.1.map Prod.fst) (exprs++q.1.map λp=>p.2.au) gb w1.heap.size (.slice (some ⟨gb,0,none⟩) (Ex.ite ea eb ec).au.ak.length fU) (((Ex.ite ea eb ec).au.ak.set 1 q.2.1.au).set 2 (mX ag eb q.2.2).au),fun(G:List Nat) (vs:List Value) (ww:World)=>∃G9,G=((gb::w1.heap.size::E)++G9)∧kj E G9 w ww F b ag (aZ ag ec (aZ ag eb q.2.2).2.2).2.2 (aL++q.1.map Prod.fst) (exprs++q.1.map λp=>p.2.au) gb w1.heap.size (.slice (some ⟨gb,0,none⟩) (Ex.ite ea eb ec).au.ak.length fU) (((Ex.ite ea eb ec).au.ak.set 1 q.2.1.au).set 2 (mX ag eb q.2.2).au)∧bC ((gb::w1.heap.size::E)++G9) ww (vs.getD 0 undef) (mX ag ec (aZ ag eb q.2.2).2.2).au] de rfl aS.cF (by exact trivial) (by exact⟨λG vs w w' ⟨h1,h2⟩ k=>⟨h1,h2.ext k⟩,λG vs w w' ⟨G9,h1,h2,h3⟩ k=>⟨G9,h1,h2.ext k,h3.ext k⟩,trivial⟩) (⟨rfl,aS⟩)
  refine FA ?_
  refine vf (λ_ _ _ _ _ _=>zi (i:=3) cD aM rfl rfl ((show 3<4 from om)) fv) ?_
  refine FA ?_
  refine ve 0 (λx xW G89 aT air aq7 hJ hlen=>?_) ?_
  have aX:=jw hlen
  subst aX
  have cN:=cN.go air
  obtain⟨bS,aS⟩:=hJ
  subst bS
  refine aA (KT bh.2.2 (ih ec om bh.2.2) ag (aZ ag eb q.2.2).2.2 (aL++q.1.map Prod.fst) (exprs++q.1.map λp=>p.2.au) (hB.sub (ea.n+eb.n) om om sm sm) (gb::w1.heap.size::E) G3 b _ xW aS.m cN) ?_
  rintro Dr kZ ⟨⟨dy,rk⟩,cV⟩
  exact fe _ (cV.in _) rk.bG.2.2 (⟨G3,rfl,aS.call rk cV,dy⟩)
  refine vf (λ_ _ _ _ _ _=>zi (i:=3) cD aM rfl rfl ((show 3<4 from om)) fv) ?_
  exact trivial
  intro x aq8 aq9 aT ais ara hJ hlen
  obtain⟨q0,aX⟩:=jx hlen
  subst aX
  have bO:=bO.go ais
  change OW _ _ _ _ _ (bo (bm _ x _) (zZ 88 [_,_,_,_,_,_,_,_])) _
  obtain⟨G3,bS,aS,dy⟩:=hJ
  subst bS
  obtain⟨a7,n7,c7,e7,_,_⟩:=cY dy
  have e8:q0=_:=e7
  subst e8
  refine tM (i:=3) (vs:=[str (mX ag ec (aZ ag eb q.2.2).2.2).au.aw,.slice a7 n7 c7]) (row:=(mX ag ec (aZ ag eb q.2.2).2.2).au.enc) aM rfl rfl rfl rfl (by first|rfl|exact Nat.zero_add _) aS.own aS.cF sm (by rw[iz,List.length_set,List.length_set];omega) rfl (ph _) dy.kG λKI WO sC dm=>?_
  rw[tP] at dm
  have bO:=bO.aD WO aS.js
  have aS:=aS.store WO dm
  refine W ?_
  refine cL aM rfl rfl rfl aS.bx rfl λOJ Dv db kX=>?_
  obtain⟨sD,sE,wG⟩:=aS.fin Dv
  refine W ?_
  exact⟨[_],gC fc aM rfl db rfl,by rw[KY];exact⟨G3,⟨sD,sE⟩,wG⟩⟩
  have nh:e.head≠gJ:=λhh=>h4 (ju.trans hh)
  have Fx:=WK eF mQ rO
  have sY:=aid ag n eF mQ rO nh
  have hpm:=aie eF mQ rO
  refine W ?_
  refine dR (λk:Nat=>[(0,.pointer (some ⟨b,0,none⟩)),(4,.pointer (some ⟨w1.heap.size,0,none⟩)),(5,.slice (some ⟨b0,wj,none⟩) e.au.ak.length c),(6,.pointer (some ⟨w4.heap.size,0,none⟩)),(8,.int .i64 ((e.from+k:Nat):Int))]) (λk ww=>∃G2,Fr ((gb::w1.heap.size::E)++F) w6 ((gb::w1.heap.size::E)++G2) ww∧kj E G2 w ww F b ag (gN ag e n k).2.2 (aL++(gN ag e n k).1.map Prod.fst) (exprs++(gN ag e n k).1.map λp=>p.2.au) gb w1.heap.size (.slice (some ⟨gb,0,none⟩) e.au.ak.length fU) (ml [bM e.head] (gN ag e n k).2.1 e)∧k<=e.kids.length) (λk=>e.kids.length-k) (0) (⟨rfl,rfl,rfl,rfl,by rw[Fx];rfl⟩) (⟨F,Fr.refl _ _,by rw[show ml [bM e.head] (gN ag e n 0).2.1 e=e.au.ak from hpm.symm];simpa[gN] using aS,om⟩) λgg w7 e7 hI=>?_
  obtain⟨G2,pM,aS,hk⟩:=hI
  have aO:=aO.go pM;have bO:=bO.go pM
  refine W ?_
  refine zc rfl (λh5=>?_) (λh5=>?_)
  have ic:gg<e.kids.length:=om
  have qS:=oX gg ic
  have eM:=O3 ag e n gg
  obtain⟨b1,eX,gR,gF,e1,bK,cN⟩:=fg aO (i:=e.from+gg) om
  cases e1
  have cN:=cN.eq qS
  have uO:=GU bh ic
  have Cv:=zC ic
  have hkN:=Dm e (gg+1)
  have kQ:=aic ag e n hB ic
  refine WZ ?_
  apply jV dv (((gb::w1.heap.size::E)++G2)) 10 (rA 103 10) (rA 103 10) [[],[0],[],[],[],[],[4,5],[6],[3,7],[1,2]] [Ie.v _,Ie.v _,Ie.v _,Ie.v _,Ie.v _,Ie.v _,Ie.v _,Ie.v _,Ie.e 0,Ie.v _] [8] [fun(G:List Nat) (vs:List Value) (ww:World)=>G=((gb::w1.heap.size::E)++G2)∧kj E G2 w ww F b ag (gN ag e n gg).2.2 (aL++(gN ag e n gg).1.map Prod.fst) (exprs++(gN ag e n gg).1.map λp=>p.2.au) gb w1.heap.size (.slice (some ⟨gb,0,none⟩) e.au.ak.length fU) (ml [bM e.head] (gN ag e n gg).2.1 e),fun(G:List Nat) (vs:List Value) (ww:World)=>∃G9,G=((gb::w1.heap.size::E)++G9)∧kj E G9 w ww F b ag (gN ag e n (gg+1)).2.2 (aL++(gN ag e n (gg+1)).1.map Prod.fst) (exprs++(gN ag e n (gg+1)).1.map λp=>p.2.au) gb w1.heap.size (.slice (some ⟨gb,0,none⟩) e.au.ak.length fU) (ml [bM e.head] (gN ag e n gg).2.1 e)∧bC ((gb::w1.heap.size::E)++G9) ww (vs.getD 0 undef) (dI ag (aZ ag (fZ e gg) (gN ag e n gg).2.2)).2.1.au] de rfl aS.cF (by exact trivial) (by exact⟨λG vs w w' ⟨h1,h2⟩ k=>⟨h1,h2.ext k⟩,λG vs w w' ⟨G9,h1,h2,h3⟩ k=>⟨G9,h1,h2.ext k,h3.ext k⟩,trivial⟩) (⟨rfl,aS⟩)
  refine FA ?_
  refine ve 0 (λx w8 G8 aT aiv arb hJ hlen=>?_) ?_
  have aX:=jw hlen
  subst aX
  have cN:=cN.go aiv
  obtain⟨bS,aS⟩:=hJ
  subst bS
  refine aA (Wv uO.1 (ih (fZ e gg) om uO.1) ag (gN ag e n gg).2.2 (aL++(gN ag e n gg).1.map Prod.fst) (exprs++(gN ag e n gg).1.map λp=>p.2.au) kQ (gb::w1.heap.size::E) G2 b _ w8 aS.m cN) ?_
  rintro Dr w9 ⟨G9,⟨dy,rk⟩,cV⟩
  rw[List.append_assoc,List.append_assoc,<-List.map_append,<-List.map_append] at rk
  exact fe _ (cV.in _) rk.bG.2.2 (⟨G9,rfl,aS.call rk cV,dy⟩)
  exact FZ
  intro x xV G47 aT aiw ard hJ hlen
  obtain⟨q0,aX⟩:=jx hlen
  subst aX
  have pM:=pM.go aiw
  change OW _ _ _ _ _ (bo (bm _ x _) (zZ 103 [_,_,_,_,_,_,_,_,_,_])) _
  obtain⟨G3,bS,aS,dy⟩:=hJ
  subst bS
  obtain⟨a7,n7,c7,e7,_,_⟩:=cY dy
  have e8:q0=_:=e7
  subst e8
  have Ar:((ml [bM e.head] (gN ag e n gg).2.1 e)).set (e.from+gg) (dI ag (aZ ag (fZ e gg) (gN ag e n gg).2.2)).2.1.au=(ml [bM e.head] (gN ag e n (gg+1)).2.1 e):=(by have:=We (pre:=[bM e.head]) (acc:=(gN ag e n gg).2.1) (e:=e) (y:=(dI ag (aZ ag (fZ e gg) (gN ag e n gg).2.2)).2.1) om;rw[show[bM e.head].length=e.from from Fx.symm,eM] at this;exact this)
  refine tM (i:=e.from+gg) (vs:=[str (dI ag (aZ ag (fZ e gg) (gN ag e n gg).2.2)).2.1.au.aw,.slice a7 n7 c7]) (row:=(dI ag (aZ ag (fZ e gg) (gN ag e n gg).2.2)).2.1.au.enc) aM rfl rfl rfl rfl (by first|rfl|exact Nat.zero_add _) aS.own aS.cF sm (by rw[iz,Wf om];simp;omega) rfl (ph _) dy.kG λmm mn sC dm=>?_
  rw[tP,Ar] at dm
  have pM:=pM.aD mn aS.js
  have aS:=aS.store mn dm
  refine W ?_
  exact⟨gg+1,⟨rfl,rfl,rfl,rfl,congrArg (Value.int .i64) om⟩,⟨G3,pM,aS,om⟩,om⟩
  have fG:gg=e.kids.length:=by omega
  subst fG
  have eM:=O3 ag e n e.kids.length
  refine W ?_
  refine cL aM rfl rfl rfl aS.bx rfl λw8 cg db kX=>?_
  obtain⟨sD,sE,wG⟩:=aS.fin cg
  rw[Wg eM,<-sY.2.1] at sD
  rw[<-sY.1,<-sY.2.2] at sE
  refine W ?_
  exact⟨[_],gC fc aM rfl db rfl,⟨G2,⟨sD,sE⟩,wG⟩⟩
theorem Fy (s:ai):(bM s).size=1+s.length:=by simp[bM,aq.size,aq.size.sizes]
theorem aix (hk:gw h=true):h.length<=5:=by
 simp only[gw,oE,dE] at hk
 rcases hk with rfl|rfl<;>decide
theorem aiy (hk:gW h=true):h.length<=5:=by
 simp only[gW,oE,dE] at hk
 rcases hk with(((rfl|rfl)|rfl)|rfl)|rfl<;>decide
theorem Ex.size:∀{e:Ex},e.ok->e.au.size<=30*e.n
 | .at s,h=>by
  have:s.length<=4:=oR (e:=.at s) h
  show(bM s).size<=_
  rw[Fy];simp only[Ex.n];omega
 | .un hd a,h=>by
  have:=aix h.1
  have:=Ex.size h.2
  show 1+0+aq.size.sizes [bM hd,a.au]<=_
  simp only[aq.size.sizes,Fy,Ex.n];omega
 | .bi hd a b,h=>by
  have:=aiy h.1
  have:=Ex.size h.2.1
  have:=Ex.size h.2.2
  show 1+0+aq.size.sizes [bM hd,a.au,b.au]<=_
  simp only[aq.size.sizes,Fy,Ex.n];omega
 | .ite a b c,h=>by
  have:=Ex.size h.1
  have:=Ex.size h.2.1
  have:=Ex.size h.2.2
  have:gJ.length=2:=rfl
  show 1+0+aq.size.sizes [bM gJ,a.au,b.au,c.au]<=_
  simp only[aq.size.sizes,Fy,Ex.n];omega
 | .lt x a b,h=>by
  have:=E4 h.1
  have:=Ex.size h.2.1
  have:=Ex.size h.2.2
  have:gv.length=3:=rfl
  show 1+0+aq.size.sizes [bM gv,bM x,a.au,b.au]<=_
  simp only[aq.size.sizes,Fy,Ex.n];omega
 | .fn f x A B e,h=>by
  have:=E4 h.1
  have:=E4 h.2.1
  have:=Ex.size h.2.2.2.2.2
  have:=A.size
  have:=B.size
  have:gV.length=3:=rfl
  show 1+0+aq.size.sizes [bM gV,bM f,bM x,A.au,B.au,e.au]<=_
  simp only[aq.size.sizes,Fy,Ex.n];omega
theorem Ex.aiz (h:e.ok):e.au.text.length<=60*e.n:=by
 have h1:=M9 e.au _ (lR _) (Ex.wf h).wf
 have h2:=Ex.size h
 omega
theorem aiA {q:Ex} (hq:nZ e=some q):q.n<=4*e.n:=by
 unfold nZ at hq
 cases hp:qQ e with
 |none=>rw[hp] at hq;cases hq
 |some p=>
  have eO:p.n=e.n:=by
   unfold qQ at hp
   split at hp
   ·cases hp;exact TT _ e [] 0
   ·cases hp
  rw[hp,Option.bind_some] at hq
  split at hq
  ·cases hq
   have:=vS (lM p.au []) p 0
   show(nest _ _).n<=_
   rw[Ns];omega
  ·cases hq
theorem aiB {p:Ex} (hp:qQ e=some p):p.n=e.n:=by
 unfold qQ at hp
 split at hp
 ·cases hp;exact TT _ e [] 0
 ·cases hp
theorem aiC {T:Nat} (h:aK w b #[] T):dL L w T 2 (.slice (some ⟨b,0,none⟩) 0 0) (some b) []:=
 ⟨⟨[],NW h,trivial⟩,sm⟩
theorem aiD (ee:Ex) (hn:ee.n<=120) (bh:ee.ok) (v:Value) (w:World) (hv:bC [] w v ee.au):
  bw Tryz.prog 150 [v] w λr w'=>(∃tv T,r= .tuple #[tv,.bool (nZ ee).isSome]∧bC [] w' tv T∧∀f,nZ ee=some f->T=f.au)∧aj [] w w':=by
 have cQ:=hv
 obtain⟨a,np,c,rfl,eS,aO⟩:=cY hv
 have hK:=aj.refl [] w
 refine lG [.cell 2 74,.tmp 3] 32 Tryz.func150 rfl acI rfl rfl rfl ?_
 refine zr<|eK rfl λw1 aI aY dh=>?_
 have hK:=hK.ext aI
 refine dz aM rfl rfl rfl λw2 az aR dD=>?_
 have hK:=hK.grow;have hK:=hK.ext az;have aY:=aY.grow;have aY:=aY.ext az
 refine W ?_
 refine aA (ahN ee hn bh _ [w1.heap.size] w2 (by have:=aR.lt;simpa using this) (bC.ext (bC.fresh cQ (by intro x hx;simp at hx;right;omega)) hK)) ?_
 rintro v3 w3 ⟨jo,aH⟩
 have fh:=aH.size
 refine cJ aH hK aY aR λhK aY aR=>?_
 obtain⟨tv,rfl,hT⟩:=jo
 have aQ:∃p,p=(bL (cM ee [] []) ee [] 0).1:=⟨_,rfl⟩
 obtain⟨p,mf⟩:=aQ
 rw[<-mf] at hT
 obtain⟨a9,n9,c9,e9,_,_⟩:=cY hT
 subst e9
 have fB:=aj.refl [] w3
 have kh:=hT
 refine W ?_
 refine dz aM rfl rfl rfl λw4 aP aG gQ=>?_
 have hK:=hK.grow;have hK:=hK.ext aP;have aY:=aY.grow;have aY:=aY.ext aP;have aR:=aR.grow;have aR:=aR.ext aP;have fB:=fB.grow;have fB:=fB.ext aP
 refine cL aM rfl rfl rfl aG rfl λw5 aN aG gZ=>?_
 have hK:=hK.aD aN sx;have aY:=aY.aD aN sx;have aR:=aR.aD aN sx;have fB:=fB.aD aN sx
 refine W ?_
 refine zc rfl (λh1=>?_) (λh1=>?_)
 have hx:qQ ee=none:=(by simpa using h1)
 have Fz:nZ ee=none:=by unfold nZ;rw[hx];rfl
 refine W ?_
 refine cL aM rfl rfl rfl aR rfl λw6 bN aR lj=>?_
 have hK:=hK.aD bN sx
 refine W ?_
 exact⟨[_,_],⟨gC fc aM rfl aR rfl,rfl⟩,⟨_,_,by rw[Fz];rfl,bC.ext cQ hK,λf hf=>by rw[Fz] at hf;cases hf⟩,hK⟩
 have hp:qQ ee=some p:=(by rw[mf];unfold qQ at h1⊢;split;(·rfl);(·rename_i h9;rw[iN h9] at h1;exact absurd h1 sm))
 have Ib:=Nt bh hp
 have eO:=aiB hp
 have HG:=Ex.size Ib
 have uS:=Ex.fy Ib
 have C8:=TZ p.au []
 rw[List.length_nil,Nat.zero_add,uS] at C8
 have aQ:∃ag,ag=lM p.au []:=⟨_,rfl⟩
 obtain⟨ag,O8⟩:=aQ
 refine W ?_
 refine gA bg ba λw6 bN OO lj=>kJ bN hK aY aR fB aG λhK aY aR fB aG=>?_
 refine aA (ahM p.au.size p.au (lR _) om (Ex.wf Ib).wf [] so _ _ (some _) w6 (bC.ext (bC.fresh kh (by intro x hx;simp at hx;right;omega)) fB) OO.ll) ?_
 rintro yd w7 ⟨g18,yg,DF⟩
 have O9:=DF.aF.size
 have Pa:=yg.lt
 rw[<-O8] at yg C8
 obtain⟨a18,c18,wI⟩:=jn yg
 subst wI
 have hK:=hK.since DF.aF (λx hx=>.inr (by have:=fB.size;simp at hx;omega))
 have fB:=fB.since DF.aF (λx hx=>.inr (by simp at hx;omega))
 have aY:=aY.aF DF.aF so
 have aR:=aR.aF DF.aF so
 have aG:=aG.aF DF.aF so
 have ari:=fB.size
 have arj:=aR.lt
 refine gA bg ba λw8 cg DG kX=>kJ cg hK aR fB aG yg λhK aR fB aG yg=>?_
 refine gA cD aM λw9 aB tR du=>tC aB hK aR fB aG yg DG λhK aR fB aG yg DG=>?_
 refine jG (aeI _ _ _ _ _ _ _ _ _ _ _) rfl rfl<|eK rfl λcv cw sG Bx=>J2 cw hK aR fB aG yg DG tR λhK aR fB aG yg DG tR=>?_
 refine W ?_
 have aiE:=DG.lt
 have WQ:=tR.lt
 have yV:=fB.size
 have pI:∀x,x∈[w1.heap.size]++[w9.heap.size,w7.heap.size,w8.heap.size]->x∉g18.toList:=(λx hx fC=>by have h1:=Pa x fC;have h2:=DF.mem x fC;simp at hx h2;omega)
 have ark:=sG.lt
 have Fu:p.n*(2*(ag.length+2))<=120*(2*122):=Nat.mul_le_mul om om
 have hM:M5 t5 [w1.heap.size] [w9.heap.size,w7.heap.size,w8.heap.size] cv w9.heap.size ag 0 [] []:=⟨_,_,_,some _,some _,sG,⟨yg.rep (λx hx fC=>pI x fC (by simp[hx])),DG.ll,aiC tR,rfl,by simp;omega,by intro x hx;simp at hx;omega⟩⟩
 refine aA (KT Ib (aif p.n p (lR _) Ib) ag 0 [] [] ⟨by omega,by simp;omega,by simp;omega,om⟩ [w1.heap.size] _ w9.heap.size _ cv hM (bC.ext (bC.fresh kh (by intro x hx;simp at hx;rcases hx with h|h;(·exact .inl (by simp[h]));(·right;omega))) fB)) ?_
 rintro v25 ew ⟨⟨tS,aiG⟩,Pb⟩
 have aQ:∃q,q=mX ag p 0:=⟨_,rfl⟩
 obtain⟨q,hq⟩:=aQ
 rw[<-hq] at tS
 obtain⟨nN,nO,nP,Pc,_,_⟩:=cY tS
 subst Pc
 have aiH:=Pb.aF.size
 have hK:=hK.since Pb.aF (λx hx=>.inr (by have:=hK.size;simp at hx;omega))
 have aR:=aR.aF Pb.aF so
 obtain⟨vt,vn,vx,gn,ge,bj,_⟩:=aiG.open
 have bj:aK ew w9.heap.size [vt,.int .i64 ((aZ ag p 0).2.2:Int),vn,vx].toArray 190:=bj
 have tS:=tS.gm (L':=[w1.heap.size]) sm
 refine dz aM rfl rfl rfl λfI dw cS Pd=>?_
 have hK:=hK.grow;have hK:=hK.ext dw;have aR:=aR.grow;have aR:=aR.ext dw;have tS:=tS.grow;have tS:=tS.ext dw;have bj:=bj.grow;have bj:=bj.ext dw
 refine cL aM rfl rfl rfl cS rfl λjO gM cS H4=>?_
 have hK:=hK.aD gM sx;have aR:=aR.aD gM sx;have tS:=tS.aD gM sx;have bj:=bj.aD gM sx
 refine W ?_
 refine Ax dv (cA w1.heap.size ([str q.au.aw,.slice nN nO nP]) 74) 8 (rA 26 6++[100006,3]) (rA 26 6++[100006,3]) [[],[],[1],[2],[3],[4],[0],[5]] [λv _=>v=(.agg #[str q.au.aw,.slice nN nO nP]),λv _=>v=(.pointer (some ⟨w9.heap.size,0,none⟩)),λv _=>v=(.pointer (some ⟨w9.heap.size,0,none⟩)),λv _=>v=(.pointer (some ⟨w9.heap.size,0+1,none⟩)),λv _=>v=(.int .i64 ((aZ ag p 0).2.2:Int)),λv _=>v=(.bool (decide (((aZ ag p 0).2.2:Int)<=100))),λ_ ww=>aK ww w1.heap.size ([str q.au.aw,.slice nN nO nP]).toArray 74,λv _=>v=(.bool (decide (((aZ ag p 0).2.2:Int)<=100)))] de (fE (fE (fE (fE (fE (fE (Es (fE trivial)))))))) (λwd aC=>?_) ?_
 refine et ?_ ?_
 intro x vs ja e dG hd he
 replace dG:=(cA w1.heap.size ([str q.au.aw,.slice nN nO nP]) 74).trans aC dG
 have cS:=cS.aD dG.1 sx
 replace he:e=bo (bm _ x _) []:=he
 subst he
 refine W ?_
 exact dn ((cA w1.heap.size ([str q.au.aw,.slice nN nO nP]) 74).refl _) rfl
 refine et ?_ ?_
 intro x vs ja e dG hd he
 replace dG:=(cA w1.heap.size ([str q.au.aw,.slice nN nO nP]) 74).trans aC dG
 replace he:e=bo (bm _ x _) []:=he
 subst he
 refine W ?_
 exact dn ((cA w1.heap.size ([str q.au.aw,.slice nN nO nP]) 74).refl _) rfl
 refine et ?_ ?_
 intro x vs ja e dG hd he
 have d1:vs 1=(.pointer (some ⟨w9.heap.size,0,none⟩)):=hd
 replace dG:=(cA w1.heap.size ([str q.au.aw,.slice nN nO nP]) 74).trans aC dG
 replace he:e=bo (bm _ x _) [(27,vs 1)]:=he
 rw[d1] at he
 subst he
 refine W ?_
 exact dn ((cA w1.heap.size ([str q.au.aw,.slice nN nO nP]) 74).refl _) rfl
 refine et ?_ ?_
 intro x vs ja e dG hd he
 have d2:vs 2=(.pointer (some ⟨w9.heap.size,0,none⟩)):=hd
 replace dG:=(cA w1.heap.size ([str q.au.aw,.slice nN nO nP]) 74).trans aC dG
 replace he:e=bo (bm _ x _) [(28,vs 2)]:=he
 rw[d2] at he
 subst he
 refine W ?_
 exact dn ((cA w1.heap.size ([str q.au.aw,.slice nN nO nP]) 74).refl _) rfl
 refine et ?_ ?_
 intro x vs ja e dG hd he
 have d3:vs 3=(.pointer (some ⟨w9.heap.size,0+1,none⟩)):=hd
 replace dG:=(cA w1.heap.size ([str q.au.aw,.slice nN nO nP]) 74).trans aC dG
 have bj:=bj.aD dG.1 sx
 replace he:e=bo (bm _ x _) [(29,vs 3)]:=he
 rw[d3] at he
 subst he
 refine W ?_
 exact dn ((cA w1.heap.size ([str q.au.aw,.slice nN nO nP]) 74).refl _) rfl
 refine et ?_ ?_
 intro x vs ja e dG hd he
 have d4:vs 4=(.int .i64 ((aZ ag p 0).2.2:Int)):=hd
 replace dG:=(cA w1.heap.size ([str q.au.aw,.slice nN nO nP]) 74).trans aC dG
 replace he:e=bo (bm _ x _) [(30,vs 4)]:=he
 rw[d4] at he
 subst he
 refine W ?_
 exact dn ((cA w1.heap.size ([str q.au.aw,.slice nN nO nP]) 74).refl _) rfl
 refine et ?_ ?_
 intro x vs ja e dG hd he
 have d0:vs 0=(.agg #[str q.au.aw,.slice nN nO nP]):=hd
 replace dG:=(cA w1.heap.size ([str q.au.aw,.slice nN nO nP]) 74).trans aC dG
 obtain⟨us,wm,wo⟩:=dG.2.2 ⟨_,(by rfl),aR⟩
 replace he:e=bo (bm _ x _) [(26,vs 0)]:=he
 rw[d0] at he
 subst he
 refine cL aM rfl rfl rfl wo (by rw[wm];rfl) λqA jZ hb Kz=>W ?_
 exact dn ⟨jZ,λ_=>hb,λ_=>⟨_,rfl,hb⟩⟩ hb
 refine et ?_ ?_
 intro x vs ja e dG hd he
 have d5:vs 5=(.bool (decide (((aZ ag p 0).2.2:Int)<=100))):=hd
 replace dG:=(cA w1.heap.size ([str q.au.aw,.slice nN nO nP]) 74).trans aC dG
 replace he:e=bo (bm _ x _) [(31,vs 5)]:=he
 rw[d5] at he
 subst he
 refine W ?_
 exact dn ((cA w1.heap.size ([str q.au.aw,.slice nN nO nP]) 74).refl _) rfl
 exact trivial
 intro x vs sK K4 dU
 have d0:vs 0=(.agg #[str q.au.aw,.slice nN nO nP]):=dU 0 de
 have d1:vs 1=(.pointer (some ⟨w9.heap.size,0,none⟩)):=dU 1 de
 have d2:vs 2=(.pointer (some ⟨w9.heap.size,0,none⟩)):=dU 2 de
 have d3:vs 3=(.pointer (some ⟨w9.heap.size,0+1,none⟩)):=dU 3 de
 have d4:vs 4=(.int .i64 ((aZ ag p 0).2.2:Int)):=dU 4 de
 have d5:vs 5=(.bool (decide (((aZ ag p 0).2.2:Int)<=100))):=dU 5 de
 have d6:aK sK w1.heap.size ([str q.au.aw,.slice nN nO nP]).toArray 74:=dU 6 de
 have d7:vs 7=(.bool (decide (((aZ ag p 0).2.2:Int)<=100))):=dU 7 de
 have hK:=hK.aD K4.1 sx;have tS:=tS.aD K4.1 sx
 have aR:=d6
 change OW _ _ _ _ [] (bo (bm _ x _) (zZ 26 [vs 0,vs 1,vs 2,vs 3,vs 4,vs 5]++[(100006,vs 6),(3,vs 7)])) _
 rw[d0,d1,d2,d3,d4,d5,d7]
 refine W ?_
 exact⟨[_,_],⟨gC fc aM rfl aR rfl,rfl⟩,⟨_,q.au,congrArg (λb=>Value.tuple #[_,.bool b]) (show decide (((aZ ag p 0).2.2:Int)<=100)=(nZ ee).isSome from by unfold nZ;rw[hp,Option.bind_some,<-O8];by_cases h:(aZ ag p 0).2.2<=100;(·rw[iP h];exact dT om);(·rw[iN h];exact dF om)),tS.gm sm,λf hf=>by unfold nZ at hf;rw[hp,Option.bind_some,<-O8] at hf;split at hf;(·cases hf;rw[hq]);(·cases hf)⟩,hK⟩
theorem aiI (s:ai) (w:World):bw Tryz.prog 126 [str s] w λr w'=>(∃x ok,r= .tuple #[str x,.bool ok]∧(ok=true↔∃e f,bB s=some e.au∧e.ok∧e.n<=120∧nZ e=some f∧mF f.au.text=true)∧∀e f,bB s=some e.au->e.ok->nZ e=some f->ok=true->x=f.au.text)∧aj [] w w':=by
 have hK:=aj.refl [] w
 refine bU [.tmp 2,.tmp 3] 30 Tryz.func126 rfl acp rfl rfl ?_
 refine W ?_
 refine aA (HL s [] w sm) ?_
 rintro v1 w1 ⟨fN,aI⟩
 have dk:=aI.size
 have hK:=hK.ext aI
 obtain⟨t,tv,rfl,ht,hp⟩:=fN
 obtain⟨pa,pn,pc,rfl,eO,aO⟩:=cY ht
 refine W ?_
 refine dz aM rfl rfl rfl λw2 az aG dD=>?_
 have hK:=hK.grow;have hK:=hK.ext az;have ht:=ht.grow;have ht:=ht.ext az
 refine cL aM rfl rfl rfl aG rfl λw3 aH aG gL=>?_
 have hK:=hK.aD aH sx;have ht:=ht.aD aH sx
 refine W ?_
 refine zc rfl (λh1=>?_) (λh1=>?_)
 have hx:mF s=false:=by simpa using h1
 refine W ?_
 exact⟨_,rfl,⟨_,false,rfl,⟨λh=>by(cases h),fun⟨e,f,h1,h2,h3,_⟩=>by rw[xQ.2 ⟨e,h1,h2,h3⟩] at hx;cases hx⟩,λ_ _ _ _ _ h=>by cases h⟩,hK⟩
 have hx:mF s=true:=by simpa using h1
 obtain⟨e,he,bh,hn⟩:=xQ.1 hx
 have e2:=hp.1 _ he
 subst e2
 have FB:∀{e':Ex},bB s=some e'.au->e'.ok->e'=e:=(λh1 h2=>rb h2 bh (Option.some.inj (h1.symm.trans he)))
 refine W ?_
 refine aA (aiD e hn bh _ w3 (ht.gm sm)) ?_
 rintro v4 w4 ⟨ke,aP⟩
 have fH:=aP.size
 have hK:=hK.ext aP
 obtain⟨tv2,T,rfl,hT,Pe⟩:=ke
 obtain⟨iI,xR,iy,rfl,Kp,Pf⟩:=cY hT
 refine W ?_
 refine dz aM rfl rfl rfl λw5 aN bO gZ=>?_
 have hK:=hK.grow;have hK:=hK.ext aN;have hT:=hT.grow;have hT:=hT.ext aN
 refine cL aM rfl rfl rfl bO rfl λw6 bN bO lj=>?_
 have hK:=hK.aD bN sx;have hT:=hT.aD bN sx
 refine W ?_
 refine yG (t:=22) rfl (λh2=>?_) (λh2=>?_)
 replace h2:=jW h2
 have Fz:nZ e=none:=(by simpa using h2)
 refine W ?_
 refine zc rfl (λh3=>?_) (λh3=>?_)
 refine W ?_
 exact⟨_,rfl,⟨_,false,rfl,⟨λh=>by(cases h),fun⟨e',f',h1,h2,h3,h4,_⟩=>by cases FB h1 h2;rw[Fz] at h4;cases h4⟩,λ_ _ _ _ _ h=>by cases h⟩,hK⟩
 simp at h3
 replace h2:=jW h2
 have aQ:∃f,nZ e=some f:=(by cases hh:nZ e;(·simp[hh] at h2);(·exact⟨_,rfl⟩))
 obtain⟨f,hf⟩:=aQ
 have e9:=Pe f hf
 subst e9
 have BZ:=Nu bh hf
 have Pg:=aiA hf
 have hfz:=Ex.size BZ
 have Ph:=Ex.aiz BZ
 refine W ?_
 refine aA (uJ f.au.size f.au (lR _) (Ex.wf BZ).wf om om _ _ w6 hT) ?_
 rintro _ w7 ⟨rfl,bW⟩
 have lp:=bW.size
 refine cJ bW hK hT bO λhK hT bO=>?_
 refine aA (Ov _ w7) ?_
 rintro _ w8 ⟨rfl,cg⟩
 have wH:=cg.size
 refine cJ cg hK hT bO λhK hT bO=>?_
 refine W ?_
 refine zc rfl (λh4=>?_) (λh4=>?_)
 have fC:mF f.au.text=false:=(by simpa using h4)
 refine W ?_
 exact⟨_,rfl,⟨_,false,rfl,⟨λh=>by(cases h),fun⟨e',f',h1,h2,h3,h4,h5⟩=>by cases FB h1 h2;rw[hf] at h4;cases h4;rw[fC] at h5;cases h5⟩,λ_ _ _ _ _ h=>by cases h⟩,hK⟩
 have fC:mF f.au.text=true:=(by simpa using h4)
 refine W ?_
 refine aA (uJ f.au.size f.au (lR _) (Ex.wf BZ).wf om om _ _ w8 hT) ?_
 rintro _ w9 ⟨rfl,aB⟩
 have nA:=aB.size
 have hK:=hK.ext aB
 refine W ?_
 exact⟨_,rfl,⟨_,true,rfl,⟨λ_=>⟨e,f,he,bh,hn,hf,fC⟩,λ_=>rfl⟩,λe' f' h1 h2 h3 _=>by cases FB h1 h2;rw[hf] at h3;cases h3;rfl⟩,hK⟩
def eI:Option Ty->ai
 |some T=>T.text
 |none=>[]
def mN (h:ai) (Ts:List Ty):Prop:=(gw h=true∧∃A,Ts=[A])∨(gW h=true∧∃A B,Ts=[A,B])∨(h=gJ∧∃A B C,Ts=[A,B,C])
theorem mN.pos {Ts:List Ty} (hj:mN h Ts):0<Ts.length:=by
 rcases hj with⟨_,A,rfl⟩|⟨_,A,B,rfl⟩|⟨_,A,B,C,rfl⟩<;>simp
theorem mN.three {Ts:List Ty} (hj:mN gJ Ts):∃A B C,Ts=[A,B,C]:=by
 rcases hj with⟨h,_⟩|⟨h,_⟩|⟨_,h⟩
 ·exact absurd h de
 ·exact absurd h de
 ·exact h
theorem mN.two {Ts:List Ty} (hj:mN h Ts) (hb:gW h=true):∃A B,Ts=[A,B]:=by
 rcases hj with⟨h1,_⟩|⟨_,h1⟩|⟨rfl,_⟩
 ·exfalso
  simp only[gw,oE,dE] at h1
  rcases h1 with rfl|rfl<;>exact absurd hb de
 ·exact h1
 ·exact absurd hb de
theorem mN.one {Ts:List Ty} (hj:mN h Ts) (hb:gw h=true):∃A,Ts=[A]:=by
 rcases hj with⟨_,h1⟩|⟨h1,_⟩|⟨rfl,_⟩
 ·exact h1
 ·exfalso
  simp only[gw,oE,dE] at hb
  rcases hb with rfl|rfl<;>exact absurd h1 de
 ·exact absurd hb de
def zO (f:Bool):Ty->Option (Ty×Ty)
 | .op g a b=>if g=f then some (a,b) else none
 | .i=>none
theorem WR:A.text=[105]↔A= .i:=⟨λh=>Ty.inj (h.trans (rfl:([105]:ai)=Ty.text .i)),λh=>by rw[h];rfl⟩
theorem aiJ:gw CR=true:=by simp[gw]
theorem aiK:gw rF=true:=by simp[gw]
theorem WT:gW kr=true:=by simp[gW]
theorem aiL:gW yN=true:=by simp[gW]
theorem WU (hh:(h=[43]∨h=[45])∨h=[42]):gW h=true:=by
 rcases hh with(rfl|rfl)|rfl<;>simp[gW]
theorem aiM (h:ai) (ks:List ai) (hl:ks.length<=1000) (hn:[]∈ks) (v:Value) (L:List Nat) (w:World) (hv:bf L w v ks):
  bw Tryz.prog 198 [str h,v] w λr w'=>r=str []∧aj [] w w':=by
 have hK:=aj.refl [] w
 refine bU [.tmp 4] 117 Tryz.func198 rfl Te rfl rfl ?_
 refine W ?_
 refine aA (xM ks om [] _ _ w hv) ?_
 rintro _ w1 ⟨rfl,aI⟩
 have dk:=aI.size
 have hK:=hK.ext aI
 refine aV<|zc rfl (λh1=>?_) (λh1=>?_)
 refine W ?_
 exact⟨_,rfl,rfl,hK⟩
 exact absurd hn (by simpa using h1)
theorem aiN {B:Ty} (ho:o=zO true A) (hs:o.isSome=true) (he:tL o=B.text):str (zw o)=str (eI (kV kr [A,B])):=by
 cases A with
 |i=>rw[ho] at hs;cases hs
 |op g a b=>
  cases g with
  |false=>rw[ho] at hs;cases hs
  |true=>
   subst ho
   have he:a.text=B.text:=he
   show str b.text=str (eI (if kU a B=true then some b else none))
   rw[iP (show kU a B=true from dT he)];rfl
theorem WV (ho:o=zO false A) (hs:o.isSome=true):str (tL o)=str (eI (kV CR [A]))∧str (zw o)=str (eI (kV rF [A])):=by
 cases A with
 |i=>rw[ho] at hs;cases hs
 |op g a b=>
  cases g with
  |true=>rw[ho] at hs;cases hs
  |false=>subst ho;exact⟨rfl,rfl⟩
theorem aiO (A B:Ty):eI (kV yN [A,B])=if 1+A.n+B.n<=16 then(Ty.op false A B).text else[]:=by
 show eI (if 1+A.n+B.n<=16 then some (.op false A B) else none)=_
 split<;>rfl
theorem aiP (hh:(h=[43]∨h=[45])∨h=[42]):eI (kV h [.i,.i])=[105]:=by
 rcases hh with(rfl|rfl)|rfl<;>rfl
theorem aiQ (hj:mN h (A::r9)) {o1 o2:Option (Ty×Ty)} (yh:o1=zO true A) (wK:o2=zO false A) 
  (bK:(decide (h=gJ)&&decide (A.text=[105])&&decide ((bD ((A::r9).map Ty.text) 1)=(bD ((A::r9).map Ty.text) 2)))=false) (bY:(decide (h=kr)&&o1.isSome&&decide (tL o1=(bD ((A::r9).map Ty.text) 1)))=false) (dS:¬h=yN)
  (jK:(decide (h=CR)&&o2.isSome)=false) (kx:(decide (h=rF)&&o2.isSome)=false) (qU:(((decide (h=[43])||decide (h=[45]))||decide (h=[42]))&&decide (A.text=[105])&&decide ((bD ((A::r9).map Ty.text) 1)=[105]))=false):eI (kV h (A::r9))=[]:=by
 rcases hj with⟨hu,A0,e⟩|⟨hb,A0,B,e⟩|⟨rfl,A0,B,C0,e⟩<;>cases e
 ·simp only[gw,oE,dE] at hu
  cases A with
  |i=>rfl
  |op g a b=>
   cases g with
   |true=>rfl
   |false=>
    subst wK
    rcases hu with rfl|rfl
    ·exact Bool.noConfusion (show true=false from jK)
    ·exact Bool.noConfusion (show true=false from kx)
 ·have Pj:bD ([A,B].map Ty.text) 1=B.text:=rfl
  rw[Pj] at bY qU
  have Pl:(h=[43]∨h=[45])∨h=[42]->eI (kV h [A,B])=[]:=λhh=>by
   have h0:((decide (h=[43])||decide (h=[45]))||decide (h=[42]))=true:=by simpa using hh
   rw[h0,Bool.true_and,Bool.and_eq_false_iff] at qU
   have h1:kV h [A,B]=if(kU A .i&&kU B .i)=true then some .i else none:=by
    rcases hh with(rfl|rfl)|rfl<;>rfl
   have hi:Ty.i.text=[105]:=rfl
   rw[h1,iN (by unfold kU;rw[hi];rcases qU with h|h<;>rw[h]<;>simp)];rfl
  simp only[gW,oE,dE] at hb
  rcases hb with(((rfl|rfl)|rfl)|rfl)|rfl
  ·exact Pl (.inl (.inl rfl))
  ·exact Pl (.inl (.inr rfl))
  ·exact Pl (.inr rfl)
  ·cases A with
   |i=>rfl
   |op g a b=>
    cases g with
    |false=>rfl
    |true=>
     subst yh
     have bY:decide (a.text=B.text)=false:=bY
     show eI (if kU a B=true then some b else none)=[]
     rw[iN (by unfold kU;rw[bY];simp)];rfl
  ·exact absurd rfl dS
 ·have Pj:bD ([A,B,C0].map Ty.text) 1=B.text:=rfl
  have hcC:bD ([A,B,C0].map Ty.text) 2=C0.text:=rfl
  rw[Pj,hcC] at bK
  have bK:(decide (A.text=[105])&&decide (B.text=C0.text))=false:=bK
  show eI (if(kU A .i&&kU B C0)=true then some B else none)=[]
  have hi:Ty.i.text=[105]:=rfl
  rw[iN (by unfold kU;rw[hi,bK];simp)];rfl
theorem aiS (hj:mN h (A::r9)) (hh:h=gJ) (hA:A.text=[105]) (hB:(bD ((A::r9).map Ty.text) 1)=(bD ((A::r9).map Ty.text) 2)):str (bD ((A::r9).map Ty.text) 1)=str (eI (kV h (A::r9))):=by
 subst hh
 obtain⟨A0,B,C0,e⟩:=hj.three
 cases e
 have hB:B.text=C0.text:=hB
 show str B.text=str (eI (if(kU A .i&&kU B C0)=true then some B else none))
 rw[iP (by rw[aE];exact⟨dT hA,dT hB⟩)];rfl
theorem aiT (hj:mN h (A::r9)) (hh:h=kr) (ho:o=zO true A) (hs:o.isSome=true) (he:tL o=(bD ((A::r9).map Ty.text) 1)):str (zw o)=str (eI (kV h (A::r9))):=by
 subst hh
 obtain⟨A0,B,e⟩:=hj.two WT
 cases e
 exact aiN ho hs he
theorem aiU (hj:mN h (A::r9)) (hh:h=CR) (ho:o=zO false A) (hs:o.isSome=true):str (tL o)=str (eI (kV h (A::r9))):=by
 subst hh
 obtain⟨A0,e⟩:=hj.one aiJ
 cases e
 exact(WV ho hs).1
theorem aiV (hj:mN h (A::r9)) (hh:h=rF) (ho:o=zO false A) (hs:o.isSome=true):str (zw o)=str (eI (kV h (A::r9))):=by
 subst hh
 obtain⟨A0,e⟩:=hj.one aiK
 cases e
 exact(WV ho hs).2
theorem aiW {B:Ty} (hh:h=yN) (e:A::r9=[A,B]):str (if 1+A.n+B.n<=16 then(Ty.op false A B).text else[])=str (eI (kV h (A::r9))):=by
 subst hh
 rw[e,aiO]
theorem aiX (hj:mN h (A::r9)) (hh:(h=[43]∨h=[45])∨h=[42]) (hA:A.text=[105]) (hB:(bD ((A::r9).map Ty.text) 1)=[105]):str [105]=str (eI (kV h (A::r9))):=by
 obtain⟨A0,B,e⟩:=hj.two (WU hh)
 cases e
 have hB:B.text=[105]:=hB
 obtain rfl:=WR.1 hA
 obtain rfl:=WR.1 hB
 rw[aiP hh]
theorem aiY (hj:mN h (A::r9)) (hh:h=yN):∃B,A::r9=[A,B]∧(bD ((A::r9).map Ty.text) 1)=B.text:=by
 subst hh
 obtain⟨A0,B,e⟩:=hj.two aiL
 cases e
 exact⟨B,rfl,rfl⟩
theorem aiZ (h:ai) (Ts:List Ty) (hj:mN h Ts) (hT:∀T,T∈Ts->T.n<=16) (v:Value) (L:List Nat) (w:World) (hv:bf L w v (Ts.map Ty.text)):
  bw Tryz.prog 198 [str h,v] w λr w'=>r=str (eI (kV h Ts))∧aj [] w w':=by
 have hK:=aj.refl [] w
 have hp:=hj.pos
 have cQ:=hv
 obtain⟨a,np,c,rfl,WW⟩:=dH hv
 have eE:(Ts.map Ty.text).length=Ts.length:=by simp
 rw[eE] at WW
 subst WW
 obtain⟨A,r9,rfl⟩:∃A r,Ts=A::r:=by cases Ts with|nil=>simp at hp|cons A r=>exact⟨A,r,rfl⟩
 have hA:=hT A sm
 have hg:∀i,i<(A::r9).length->(((A::r9).map Ty.text)[i]?=some (bD ((A::r9).map Ty.text) i)):=λi hi=>ik (by rw[eE];exact hi)
 obtain⟨b,off,rfl,eD⟩:=lf cQ (hg 0 hp)
 have hx:∀i,i<(A::r9).length->gH w b (off+i*1) [str (bD ((A::r9).map Ty.text) i)]:=λi hi=>by obtain⟨b1,eX,e1,hc⟩:=lf cQ (hg i hi);cases e1;exact hc
 have dN:([]:ai)∉(A::r9).map Ty.text:=λhm=>by obtain⟨T,_,h2⟩:=List.mem_map.1 hm;exact absurd h2 T.ne
 refine bU [.tmp 4] 117 Tryz.func198 rfl Te rfl rfl ?_
 refine W ?_
 refine aA (xM ((A::r9).map Ty.text) (by rw[eE];rcases hj with⟨_,_,e⟩|⟨_,_,_,e⟩|⟨_,_,_,_,e⟩<;>rw[e]<;>simp) [] _ _ w cQ) ?_
 rintro _ w1 ⟨rfl,aI⟩
 have dk:=aI.size
 have hK:=hK.ext aI
 refine aV<|zc rfl (λh1=>?_) (λh1=>?_)
 exact absurd (by simpa using h1) dN
 refine gT<|zr<|zm<|zi (i:=0) bg ba rfl rfl hp<|zl fo rfl ((hx 0 hp).ext hK 0 _ rfl)<|aA (VG A.text w1) ?_
 rintro v2 w2 ⟨gz,az⟩
 have dx:=az.size
 have hK:=hK.ext az
 obtain⟨o1,yh,rfl⟩:=gz
 have yh:o1=zO true A:=(by have:=VI hA true yh;cases A<;>exact this)
 refine WI ?_
 refine zi (i:=0) bg ba rfl rfl hp<|zl fo rfl ((hx 0 hp).ext hK 0 _ rfl)<|aA (VH A.text w2) ?_
 rintro v3 w3 ⟨jo,aH⟩
 have fh:=aH.size
 have hK:=hK.ext aH
 obtain⟨o2,wK,rfl⟩:=jo
 have wK:o2=zO false A:=(by have:=VI hA false wK;cases A<;>exact this)
 refine W ?_
 refine ER [32,33,34,35,36,37,38,39,40,41,42,43,44,45,46,47,48,31] [(31,.bool (decide (h=gJ)&&decide (A.text=[105])&&decide ((bD ((A::r9).map Ty.text) 1)=(bD ((A::r9).map Ty.text) 2))))] ?_ ?_
 rcases bE (decide (h=gJ)) with iX|iX
 rcases bE (decide (h=gJ)&&decide (A.text=[105])) with mZ|mZ
 apply lh dv 18 (rA 32 17++[31]) (rA 32 17++[31]) [[],[0],[1],[2],[2,3],[2,4],[2,5],[2,6],[7],[8],[8,9],[8,10],[8],[8,12],[8,13],[8,11,14],[8,15],[16]] [It.v _,It.v _,It.v (.bool true),It.v _,It.v _,It.v _,It.v _,It.v _,It.v (.bool true),It.v _,It.v _,It.v _,It.v _,It.v _,It.v _,It.v _,It.v _,It.v _] de rfl
 intro wd aC
 refine VA ?_
 refine vc (λx w4 aP=>?_) ?_
 refine WZ ?_
 exact pv (by exact congrArg Value.bool iX)
 refine vc (λ_ _ _=>WZ pv) ?_
 refine vk aC (λx w4 aP=>?_) ?_
 refine zi (i:=0) bg ba rfl rfl hp ?_
 exact pv
 refine vk aC (λx w4 aP=>?_) ?_
 have hK:=hK.ext aP
 refine zl fo rfl ((hx 0 hp).ext hK 0 _ rfl) ?_
 exact pv
 refine VA ?_
 refine vc (λx w4 aP=>?_) ?_
 refine zm ?_
 exact pv (by first|exact congrArg Value.bool mZ|(rw[iX] at mZ;exact congrArg Value.bool mZ))
 refine VA ?_
 refine vk aC (λx w4 aP=>?_) ?_
 have hg:=mZ
 refine zi (i:=1) bg ba rfl rfl ((by simp only[aE,dE] at hg;obtain⟨_,_,_,e⟩:=(hg.1▸hj:mN gJ _).three;rw[e];simp)) ?_
 exact pv
 refine vk aC (λx w4 aP=>?_) ?_
 have hK:=hK.ext aP
 have hg:=mZ
 refine zl fo rfl ((hx 1 (by simp only[aE,dE] at hg;obtain⟨_,_,_,e⟩:=(hg.1▸hj:mN gJ _).three;rw[e];simp)).ext hK 0 _ rfl) ?_
 exact pv
 refine VA ?_
 refine vk aC (λx w4 aP=>?_) ?_
 have hg:=mZ
 refine zi (i:=2) bg ba rfl rfl ((by simp only[aE,dE] at hg;obtain⟨_,_,_,e⟩:=(hg.1▸hj:mN gJ _).three;rw[e];simp)) ?_
 exact pv
 refine vk aC (λx w4 aP=>?_) ?_
 have hK:=hK.ext aP
 have hg:=mZ
 refine zl fo rfl ((hx 2 (by simp only[aE,dE] at hg;obtain⟨_,_,_,e⟩:=(hg.1▸hj:mN gJ _).three;rw[e];simp)).ext hK 0 _ rfl) ?_
 exact pv
 exact VZ
 intro x pG jL
 change OW _ _ _ _ [] (bo (bm _ x _) (zZ 32 [_,_,_,_,_,_,_,_,_,_,_,_,_,_,_,_,_]++[(31,_)])) _
 refine W ?_
 exact kE jL
 apply lh dv 18 (rA 32 17++[31]) (rA 32 17++[31]) [[],[0],[1],[2],[2,3],[2,4],[2,5],[2,6],[7],[8],[8,9],[8,10],[8],[8,12],[8,13],[8,11,14],[8,15],[16]] [It.v _,It.v _,It.v (.bool true),It.v _,It.v _,It.v _,It.v _,It.v _,It.v (.bool false),It.v _,It.v _,It.v _,It.v _,It.v _,It.v _,It.v _,It.v _,It.v _] de rfl
 intro wd aC
 refine VA ?_
 refine vc (λx w4 aP=>?_) ?_
 refine WZ ?_
 exact pv (by exact congrArg Value.bool iX)
 refine vc (λ_ _ _=>WZ pv) ?_
 refine vk aC (λx w4 aP=>?_) ?_
 refine zi (i:=0) bg ba rfl rfl hp ?_
 exact pv
 refine vk aC (λx w4 aP=>?_) ?_
 have hK:=hK.ext aP
 refine zl fo rfl ((hx 0 hp).ext hK 0 _ rfl) ?_
 exact pv
 refine VA ?_
 refine vc (λx w4 aP=>?_) ?_
 refine zm ?_
 exact pv (by first|exact congrArg Value.bool mZ|(rw[iX] at mZ;exact congrArg Value.bool mZ))
 exact VZ
 intro x pG jL
 change OW _ _ _ _ [] (bo (bm _ x _) (zZ 32 [_,_,_,_,_,_,_,_,_,_,_,_,_,_,_,_,_]++[(31,_)])) _
 refine W ?_
 exact kE jL
 apply lh dv 18 (rA 32 17++[31]) (rA 32 17++[31]) [[],[0],[1],[2],[2,3],[2,4],[2,5],[2,6],[7],[8],[8,9],[8,10],[8],[8,12],[8,13],[8,11,14],[8,15],[16]] [It.v _,It.v _,It.v (.bool false),It.v _,It.v _,It.v _,It.v _,It.v _,It.v (.bool false),It.v _,It.v _,It.v _,It.v _,It.v _,It.v _,It.v _,It.v _,It.v _] de rfl
 intro wd aC
 refine VA ?_
 refine vc (λx w4 aP=>?_) ?_
 refine WZ ?_
 exact pv (by exact congrArg Value.bool iX)
 refine vc (λx w4 aP=>?_) ?_
 exact cK pv
 refine vk aC (λx w4 aP=>?_) ?_
 exact cK pv
 refine vk aC (λx w4 aP=>?_) ?_
 exact cK pv
 refine vk aC (λx w4 aP=>?_) ?_
 exact cK pv
 refine vc (λ_ _ _=>WZ pv) ?_
 refine vc (λx w4 aP=>?_) ?_
 refine WZ ?_
 exact pv (by rfl)
 exact VZ
 intro x pG jL
 change OW _ _ _ _ [] (bo (bm _ x _) (zZ 32 [_,_,_,_,_,_,_,_,_,_,_,_,_,_,_,_,_]++[(31,_)])) _
 refine W ?_
 exact kE jL
 intro x pG jL
 have hK:=hK.ext jL
 refine zc rfl (λh2=>?_) (λh2=>?_)
 simp only[aE,dE] at h2
 obtain⟨⟨hh,FC⟩,hBC⟩:=h2
 have iG:1<(A::r9).length:=(by obtain⟨_,_,_,e⟩:=(hh▸hj:mN gJ _).three;rw[e];simp)
 refine zr<|zm<|zi (i:=1) bg ba rfl rfl iG<|zl fo rfl ((hx 1 iG).ext hK 0 _ rfl)<|zA<|aV<|j4 ?_
 exact⟨_,rfl,aiS hj hh FC hBC,hK⟩
 have bK:=h2
 refine WZ ?_
 apply oB 2 55 57 rfl oQ
 intro _
 exact oQ
 intro xx
 refine WZ ?_
 apply oB 6 58 64 rfl oQ
 intro h4
 have iG:1<(A::r9).length:=(by simp only[aE,dE] at h4;obtain⟨_,_,e⟩:=hj.two (h4.1▸WT);rw[e];simp)
 refine zm<|zm<|zi (i:=1) bg ba rfl rfl iG<|zl fo rfl ((hx 1 iG).ext hK 0 _ rfl) ?_
 exact oQ
 intro xx
 refine zA<|aV<|zc rfl (λh5=>?_) (λh5=>?_)
 simp only[aE,dE] at h5
 obtain⟨⟨hh,dk⟩,JL⟩:=h5
 refine W ?_
 exact⟨_,rfl,aiT hj hh yh dk JL,hK⟩
 have bY:=h5
 refine W ?_
 refine zc rfl (λh6=>?_) (λh6=>?_)
 have hh:h=yN:=h6
 obtain⟨B,eB,Pm⟩:=aiY hj hh
 have iG:1<(A::r9).length:=(by rw[eB];simp)
 have il:=hx 1 iG
 rw[Pm] at il
 refine WZ ?_
 apply dV dv 12 [70,71,72,73,74,75,76,69,77,78,11,12] [[],[0],[1],[],[3],[4],[2,5],[6],[7],[7],[8],[9]] (it [_,_,_,_,_,_,_,_,_,_,_,_]) de rfl
 intro wd aC
 refine vc (λ_ _ _=>WZ pv) ?_
 refine vk aC (λx pL jq=>?_) ?_
 refine zi (i:=0) bg ba rfl rfl hp ?_
 exact pv
 refine vk aC (λx pL jq=>?_) ?_
 have hK:=hK.ext jq
 refine zl fo rfl ((hx 0 hp).ext hK 0 _ rfl) ?_
 exact pv
 refine vc (λ_ _ _=>WZ pv) ?_
 refine vk aC (λx pL jq=>?_) ?_
 refine zi (i:=1) bg ba rfl rfl iG ?_
 exact pv
 refine vk aC (λx pL jq=>?_) ?_
 have hK:=hK.ext jq
 refine zl fo rfl (il.ext hK 0 _ rfl) ?_
 exact pv
 refine vk aC (λx pL jq=>?_) ?_
 refine aA (VK false A B hA (hT B (by rw[eB];simp)) pL) ?_
 rintro _ qX ⟨rfl,sB⟩
 have aro:=sB.size
 exact pk sB
 exact VZ
 intro x w83 ai1
 have hK:=hK.ext ai1
 change OW _ _ _ _ [] (bo (bm _ x _) (zZ 70 [_,_,_,_,_,_,_]++[(69,_),(77,_),(78,_),(11,_),(12,_)])) _
 refine W ?_
 exact⟨_,rfl,aiW hh eB,hK⟩
 have dS:=h6
 refine WZ ?_
 apply oB 2 83 85 rfl oQ
 intro _
 exact oQ
 intro xx
 refine zA<|aV<|zc rfl (λh8=>?_) (λh8=>?_)
 simp only[aE,dE] at h8
 obtain⟨hh,dk⟩:=h8
 refine W ?_
 exact⟨_,rfl,aiU hj hh wK dk,hK⟩
 have jK:=h8
 refine WZ ?_
 apply oB 2 90 92 rfl oQ
 intro _
 exact oQ
 intro xx
 refine zA<|aV<|zc rfl (λgi=>?_) (λgi=>?_)
 simp only[aE,dE] at gi
 obtain⟨hh,dk⟩:=gi
 refine W ?_
 exact⟨_,rfl,aiV hj hh wK dk,hK⟩
 have kx:=gi
 refine WZ ?_
 apply oP 3 97 100 rfl oQ
 intro _
 exact oQ
 intro xx
 refine WZ ?_
 apply oP 3 101 104 rfl oQ
 intro _
 exact oQ
 intro xx
 refine WZ ?_
 apply oB 5 105 110 rfl oQ
 intro _
 refine zm<|zi (i:=0) bg ba rfl rfl hp<|zl fo rfl ((hx 0 hp).ext hK 0 _ rfl) ?_
 exact oQ
 intro xx
 refine WZ ?_
 apply oB 5 111 116 rfl oQ
 intro EO
 have iG:1<(A::r9).length:=(by simp only[aE,oE,dE] at EO;obtain⟨_,_,e⟩:=hj.two (WU EO.1);rw[e];simp)
 refine zm<|zi (i:=1) bg ba rfl rfl iG<|zl fo rfl ((hx 1 iG).ext hK 0 _ rfl) ?_
 exact oQ
 intro xx
 refine zA<|aV<|zc rfl (λK5=>?_) (λK5=>?_)
 simp only[aE,oE,dE] at K5
 obtain⟨⟨hh,FC⟩,hBi⟩:=K5
 refine W ?_
 exact⟨_,rfl,aiX hj hh FC hBi,hK⟩
 have qU:=K5
 refine W ?_
 exact⟨_,rfl,congrArg (λx=>str x) (aiQ hj yh wK bK bY dS jK kx qU).symm,hK⟩
end Go.Proofs.YthbhobaiopccaaaGreatDoor
