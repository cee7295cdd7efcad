/- Lemmas for the law FnProgramSize, no statement of their own: no conditions. -/
import Derived.Test.YthbhobaiopccaaaGreatDoorHf
set_option maxHeartbeats 4000000
set_option linter.unusedVariables false
set_option linter.unusedSimpArgs false
namespace Go.Proofs.YthbhobaiopccaaaGreatDoor
open Go
variable {b c k n x:Nat} {v:Value} {g:Option Nat} {G L:List Nat} {w:World} {xs:List ai} {e:Ex} {bs:Bs} {h:ai} {A:Ty} {o:Option (Ty×Ty)} {r9:List Ty}
theorem aga {ps:List aq} (h:k<ps.length):jw (ps.take k)+fh (nth ps k)<=jw ps:=by
 have h1:=R8 (gh h)
 have h2:=Uc (ps:=ps) (k+1)
 omega
theorem agb:∀(m:Nat) (t:aq),t.size<=m->t.size<=1000000->WF t->∀(l:List ai),l.length+fh t<=100000->∀(v vl:Value) (g:Option Nat) (w:World),
  bB g.toList w v t->cG w 9 vl g l->
  bz Tryz.prog 180 [v,vl] w λr w'=>∃g',cG w' 9 r g' (kZ t l)∧Fr g.toList w g'.toList w':=by
 intro m
 induction m with
 |zero=>intro t h;have:=xQ t;omega
 |succ m ih=>
  intro t hm lD cm l hl v vl g w hv fP
  obtain⟨a,n,c,rfl,hn,aP⟩:=cU hv
  subst hn
  obtain⟨al,cl,rfl⟩:=jR fP
  have pS:=fP.lt
  have oq:=fP.rs
  have hR:=Fr.refl g.toList w
  have ob:=wj t
  refine bS [.tmp 4] 34 Tryz.func180 rfl abv rfl rfl ?_
  refine zr<|eH rfl λw1 aI aU dk=>ie aI hR aP fP oq λhR aP fP oq=>?_
  refine W ?_
  refine zc rfl (λh1=>?_) (λh1=>?_)
  have hq:kZ t l=if t.aw∈l then l else l++[t.aw]:=by rw[Sn,iP h1]
  refine W ?_
  refine aA (AJ l om t.aw _ _ w1 oq) ?_
  rintro _ w2 ⟨rfl,az⟩
  have dm:=az.size
  refine cN az hR fP aU λhR fP aU=>?_
  refine aZ<|zc rfl (λh2=>?_) (λh2=>?_)
  have tX:t.aw∈l:=h2
  refine W ?_
  exact⟨_,rfl,g,by rw[hq,iP tX];exact fP,hR⟩
  have tX:¬t.aw∈l:=h2
  refine W ?_
  refine fc bh bf rfl rfl λw3 aH NF gJ=>bI aH hR fP λhR fP=>?_
  refine Tp bh bf rfl rfl rfl rfl rfl rfl fP NF om λv5 g5 w4 kO aO pT=>?_
  have hR:=hR.go pT
  refine W ?_
  exact⟨_,rfl,g5,by rw[hq,iN tX];exact kO,hR⟩
  have hq:kZ t l=oR t.ak l:=(by rw[Sn,iN h1])
  have EJ:fh t=jw t.ak:=(by rw[Ma,iN h1])
  have aU:=aU.o pS
  refine W ?_
  refine eA (λq:Nat×Value×Option Nat=>[(1,q.2.1),(2,.pointer (some ⟨w.heap.size,0,none⟩)),(5,.int .i64 (q.1:Int))]) (λq w'=>Fr g.toList w q.2.2.toList w'∧Fr g.toList w1 q.2.2.toList w'∧cG w' 9 q.2.1 q.2.2 (oR (t.ak.take q.1) l)∧q.1<=t.ak.length) (λq=>t.ak.length-q.1) ((0,.slice al l.length cl,g)) (⟨rfl,rfl,rfl⟩) (⟨hR,Fr.refl _ _,fP,sm⟩) λgg w2 e2 hI=>?_
  obtain⟨k,vl,gl⟩:=gg
  dsimp only at hI⊢
  obtain⟨hR,kq,fP,hk⟩:=hI
  have aU:=aU.go kq;have aP:=aP.go kq
  refine W ?_
  refine zc rfl (λh3=>?_) (λh3=>?_)
  have gL:k<t.ak.length:=om
  obtain⟨b1,eX,gA,gm,e1,bK,cI⟩:=eW aP gL
  subst e1
  have cV:=kX gL
  have aR:=adY (gh gL) l
  have Ch:=Mo (t.ak.take k) l
  have CI:=aga gL
  refine WI ?_
  refine zi cz aL rfl rfl gL<|W ?_
  refine aA (ih (nth t.ak k) om om (cm.nth gL) _ om _ _ gl w2 cI fP) ?_
  rintro Nr w3 ⟨Ns,JG,GU⟩
  rw[<-aR] at JG
  refine W ?_
  exact⟨(k+1,Nr,Ns),⟨rfl,rfl,rfl⟩,⟨hR.go GU,kq.go GU,JG,by simp;omega⟩,by simp;omega⟩
  have fG:k=t.ak.length:=by omega
  subst fG
  refine W ?_
  exact⟨_,rfl,gl,by rw[hq,<-List.take_length (l:=t.ak)];exact fP,hR⟩
theorem agc (ee:Ex) (hn:ee.n<=120) (ba:ee.ok) (v:Value) (L:List Nat) (w:World) (lh:∀x,x∈L->x<w.heap.size) (hv:bB L w v ee.au):
  bz Tryz.prog 179 [v] w λr w'=>(∃tv,r= .tuple #[tv,.bool (ql ee).isSome]∧bB L w' tv (bH (cH ee [] []) ee [] 0).1.au)∧aj [] w w':=by
 have cO:=hv
 obtain⟨a,np,c,rfl,eU,aP⟩:=cU hv
 have mE:(cH ee [] []).length<=120:=by have:=Mf ee [] [];simp at this;omega
 have EK:ee.n*((cH ee [] []).length+2)<=120*122:=Nat.mul_le_mul hn om
 have hK:=aj.refl [] w
 refine kW [.cell 2 74,.tmp 3] 23 Tryz.func179 rfl abu rfl rfl rfl ?_
 refine zr<|eH rfl λw1 aI aX dk=>?_
 have hK:=hK.ext aI
 refine dy aL rfl rfl rfl λw2 az aU dC=>?_
 have hK:=hK.grow;have hK:=hK.ext az;have aX:=aX.grow;have aX:=aX.ext az
 refine W ?_
 refine fQ bh bf λw3 aH cM oX=>cN aH hK aX aU λhK aX aU=>?_
 refine fQ bh bf λw4 aO dh ld=>cN aO hK aX aU λhK aX aU=>?_
 have gJ:=hK.size
 refine aA (JC 120 ee hn om ba [] [] so so _ _ _ (some _) w4 (bB.ext (bB.fresh cO (by intro x hx;simp at hx;right;omega)) hK) (bQ.nil _ _ _) dh.kK) ?_
 rintro v9 w5 ⟨g9,cZ,cP⟩
 have o7:=cP.aF.size
 obtain⟨a9,c9,rfl⟩:=jR cZ
 have hK:=hK.since cP.aF (λx hx=>.inr (by simp at hx;omega))
 have aX:=aX.aF cP.aF so
 have aU:=aU.aF cP.aF so
 have fG:=cZ.lt
 have aoy:=hK.size
 have UZ:=aX.lt
 have U0:=aU.lt
 refine js (ac0 _ _ _ _ _) rfl rfl<|eH rfl λw6 bN iF kI=>ie bN hK aX aU cZ λhK aX aU cZ=>?_
 refine W ?_
 refine fQ bh bf λw7 bW lH oX=>la bW hK aX aU cZ iF λhK aX aU cZ iF=>?_
 refine fQ bh bf λw8 cE xg ld=>la cE hK aX aU cZ iF λhK aX aU cZ iF=>?_
 refine WZ ?_
 have agd:∀q,q∈g9.toList->w.heap.size<=q:=(λq hq=>by rcases cP.mem q hq with h|h;(·simp at h;omega);(·omega))
 have jb:=hK.size
 have oh:w5.heap.size<w8.heap.size:=iF.lt
 have age:∀q,q∈g9.toList->q≠w5.heap.size∧q≠w1.heap.size:=(λq hq=>⟨λh9=>by have:=fG q hq;omega,λh9=>by rcases cP.mem q hq with h|h;(·simp at h;omega);(·omega)⟩)
 refine aA (afS (cH ee [] []) om 120 ee hn om ba [] 0 so om _ _ _ w5.heap.size (w5.heap.size::w1.heap.size::L) w8 (bB.ext (bB.fresh cO (by intro q hq;simp at hq;rcases hq with h|h|h;(·right;omega);(·right;omega);(·exact .inl h))) hK) (bQ.nil _ _ _) (bQ.nil _ _ _) ⟨by simp,_,iF,cZ.rep (λq hq nY=>by have h1:=age q (by simp[hq]);rcases mC.1 nY with h|h;(·exact h1.1 h);(·rcases mC.1 h with h|h;(·exact h1.2 h);(·have h2:=lh q h;have h3:=agd q (by simp[hq]);omega)))⟩ (by intro q hq;simp at hq;rcases hq with h|h|h;(·omega);(·omega);(·have:=lh q h;omega))) ?_
 rintro CE w9 ⟨⟨xh,rj⟩,mJ⟩
 have U1:=mJ.size
 obtain⟨mL,mM,mN,rfl,_,_⟩:=cU xh
 obtain⟨_,aoz,iF,_⟩:=rj
 have hK:=hK.since mJ (λq hq=>.inr (by simp at hq;omega))
 have aX:=aX.aF mJ so
 have aU:=aU.aF mJ so
 refine dy aL rfl rfl rfl λcu cB cg Cg=>?_
 have hK:=hK.grow;have hK:=hK.ext cB;have aU:=aU.grow;have aU:=aU.ext cB;have iF:=iF.grow;have iF:=iF.ext cB;have xh:=xh.grow;have xh:=xh.ext cB
 refine cJ aL rfl rfl rfl cg rfl λeD dd cg vj=>?_
 have hK:=hK.aD dd sx;have aU:=aU.aD dd sx;have iF:=iF.aD dd sx;have xh:=xh.aD dd sx
 refine W ?_
 refine zB dj (cj w1.heap.size ([str (bH (cH ee [] []) ee [] 0).1.au.aw,.slice mL mM mN]) 74) 8 (rA 17 6++[100006,3]) (rA 17 6++[100006,3]) [[],[],[1],[2],[3],[4],[0],[5]] [λv _=>v=(.agg #[str (bH (cH ee [] []) ee [] 0).1.au.aw,.slice mL mM mN]),λv _=>v=(.pointer (some ⟨w5.heap.size,0,none⟩)),λv _=>v=(.pointer (some ⟨w5.heap.size,0,none⟩)),λv _=>v=(.pointer (some ⟨w5.heap.size,0+1,none⟩)),λv _=>v=(.int .i64 ((bH (cH ee [] []) ee [] 0).2:Int)),λv _=>v=(.bool (decide (((bH (cH ee [] []) ee [] 0).2:Int)<=100))),λ_ ww=>aJ ww w1.heap.size ([str (bH (cH ee [] []) ee [] 0).1.au.aw,.slice mL mM mN]).toArray 74,λv _=>v=(.bool (decide (((bH (cH ee [] []) ee [] 0).2:Int)<=100)))] de (fu (fu (fu (fu (fu (fu (DH (fu trivial)))))))) (λwd aC=>?_) ?_
 refine eh ?_ ?_
 intro x vs fA e di hd he
 replace di:=(cj w1.heap.size ([str (bH (cH ee [] []) ee [] 0).1.au.aw,.slice mL mM mN]) 74).trans aC di
 have cg:=cg.aD di.1 sx
 replace he:e=bo (bj _ x _) []:=he
 subst he
 refine W ?_
 exact dn ((cj w1.heap.size ([str (bH (cH ee [] []) ee [] 0).1.au.aw,.slice mL mM mN]) 74).refl _) rfl
 refine eh ?_ ?_
 intro x vs fA e di hd he
 replace di:=(cj w1.heap.size ([str (bH (cH ee [] []) ee [] 0).1.au.aw,.slice mL mM mN]) 74).trans aC di
 replace he:e=bo (bj _ x _) []:=he
 subst he
 refine W ?_
 exact dn ((cj w1.heap.size ([str (bH (cH ee [] []) ee [] 0).1.au.aw,.slice mL mM mN]) 74).refl _) rfl
 refine eh ?_ ?_
 intro x vs fA e di hd he
 have d1:vs 1=(.pointer (some ⟨w5.heap.size,0,none⟩)):=hd
 replace di:=(cj w1.heap.size ([str (bH (cH ee [] []) ee [] 0).1.au.aw,.slice mL mM mN]) 74).trans aC di
 replace he:e=bo (bj _ x _) [(18,vs 1)]:=he
 rw[d1] at he
 subst he
 refine W ?_
 exact dn ((cj w1.heap.size ([str (bH (cH ee [] []) ee [] 0).1.au.aw,.slice mL mM mN]) 74).refl _) rfl
 refine eh ?_ ?_
 intro x vs fA e di hd he
 have d2:vs 2=(.pointer (some ⟨w5.heap.size,0,none⟩)):=hd
 replace di:=(cj w1.heap.size ([str (bH (cH ee [] []) ee [] 0).1.au.aw,.slice mL mM mN]) 74).trans aC di
 replace he:e=bo (bj _ x _) [(19,vs 2)]:=he
 rw[d2] at he
 subst he
 refine W ?_
 exact dn ((cj w1.heap.size ([str (bH (cH ee [] []) ee [] 0).1.au.aw,.slice mL mM mN]) 74).refl _) rfl
 refine eh ?_ ?_
 intro x vs fA e di hd he
 have d3:vs 3=(.pointer (some ⟨w5.heap.size,0+1,none⟩)):=hd
 replace di:=(cj w1.heap.size ([str (bH (cH ee [] []) ee [] 0).1.au.aw,.slice mL mM mN]) 74).trans aC di
 have iF:=iF.aD di.1 sx
 replace he:e=bo (bj _ x _) [(20,vs 3)]:=he
 rw[d3] at he
 subst he
 refine W ?_
 exact dn ((cj w1.heap.size ([str (bH (cH ee [] []) ee [] 0).1.au.aw,.slice mL mM mN]) 74).refl _) rfl
 refine eh ?_ ?_
 intro x vs fA e di hd he
 have d4:vs 4=(.int .i64 ((bH (cH ee [] []) ee [] 0).2:Int)):=hd
 replace di:=(cj w1.heap.size ([str (bH (cH ee [] []) ee [] 0).1.au.aw,.slice mL mM mN]) 74).trans aC di
 replace he:e=bo (bj _ x _) [(21,vs 4)]:=he
 rw[d4] at he
 subst he
 refine W ?_
 exact dn ((cj w1.heap.size ([str (bH (cH ee [] []) ee [] 0).1.au.aw,.slice mL mM mN]) 74).refl _) rfl
 refine eh ?_ ?_
 intro x vs fA e di hd he
 have d0:vs 0=(.agg #[str (bH (cH ee [] []) ee [] 0).1.au.aw,.slice mL mM mN]):=hd
 replace di:=(cj w1.heap.size ([str (bH (cH ee [] []) ee [] 0).1.au.aw,.slice mL mM mN]) 74).trans aC di
 obtain⟨us,vz,vA⟩:=di.2.2 ⟨_,(by rfl),aU⟩
 replace he:e=bo (bj _ x _) [(17,vs 0)]:=he
 rw[d0] at he
 subst he
 refine cJ aL rfl rfl rfl vA (by rw[vz];rfl) λjB gv hb Hg=>W ?_
 exact dn ⟨gv,λ_=>hb,λ_=>⟨_,rfl,hb⟩⟩ hb
 refine eh ?_ ?_
 intro x vs fA e di hd he
 have d5:vs 5=(.bool (decide (((bH (cH ee [] []) ee [] 0).2:Int)<=100))):=hd
 replace di:=(cj w1.heap.size ([str (bH (cH ee [] []) ee [] 0).1.au.aw,.slice mL mM mN]) 74).trans aC di
 replace he:e=bo (bj _ x _) [(22,vs 5)]:=he
 rw[d5] at he
 subst he
 refine W ?_
 exact dn ((cj w1.heap.size ([str (bH (cH ee [] []) ee [] 0).1.au.aw,.slice mL mM mN]) 74).refl _) rfl
 exact trivial
 intro x vs lg kP dP
 have d0:vs 0=(.agg #[str (bH (cH ee [] []) ee [] 0).1.au.aw,.slice mL mM mN]):=dP 0 de
 have d1:vs 1=(.pointer (some ⟨w5.heap.size,0,none⟩)):=dP 1 de
 have d2:vs 2=(.pointer (some ⟨w5.heap.size,0,none⟩)):=dP 2 de
 have d3:vs 3=(.pointer (some ⟨w5.heap.size,0+1,none⟩)):=dP 3 de
 have d4:vs 4=(.int .i64 ((bH (cH ee [] []) ee [] 0).2:Int)):=dP 4 de
 have d5:vs 5=(.bool (decide (((bH (cH ee [] []) ee [] 0).2:Int)<=100))):=dP 5 de
 have d6:aJ lg w1.heap.size ([str (bH (cH ee [] []) ee [] 0).1.au.aw,.slice mL mM mN]).toArray 74:=dP 6 de
 have d7:vs 7=(.bool (decide (((bH (cH ee [] []) ee [] 0).2:Int)<=100))):=dP 7 de
 have hK:=hK.aD kP.1 sx;have xh:=xh.aD kP.1 sx
 have aU:=d6
 change OW _ _ _ _ [] (bo (bj _ x _) (zZ 17 [vs 0,vs 1,vs 2,vs 3,vs 4,vs 5]++[(100006,vs 6),(3,vs 7)])) _
 rw[d0,d1,d2,d3,d4,d5,d7]
 refine W ?_
 exact⟨[_,_],⟨ga eV aL rfl aU rfl,rfl⟩,⟨_,congrArg (λb=>Value.tuple #[_,.bool b]) (show decide (((bH (cH ee [] []) ee [] 0).2:Int)<=100)=(ql ee).isSome from by unfold ql;by_cases h:(bH (cH ee [] []) ee [] 0).2<=100;(·rw[iP h];exact dT om);(·rw[iN h];exact dF om)),xh.gP (λx hx=>by simp[hx])⟩,hK⟩
def t5:yg:=⟨190,9,74⟩
theorem agf (ag:List ai) (n:Nat) (hn:n<=100000) (hb:ag.length<=10000) (b:Nat) (E G:List Nat) (aK:List ai) (exprs:List aq) (w:World) (h:M5 t5 E G w b ag n aK exprs):
  bz Tryz.prog 249 [.pointer (some ⟨b,0,none⟩)] w λr w'=>(r=str (cK cy (bm cy ag n))∧M5 t5 E G w' b ag (bm cy ag n+1) aK exprs)∧aj [b] w w':=by
 have Nu:=ED cy ag n
 obtain⟨vt,vn,ve,gn,ge,bg,hS⟩:=h
 have bg:aJ w b [vt,.int .i64 (n:Int),vn,ve].toArray 190:=bg
 refine bS [.tmp 2] 26 Tryz.func249 rfl acb rfl rfl ?_
 refine W ?_
 refine eA (λk:Nat=>[(0,.pointer (some ⟨b,0,none⟩))]) (λk w'=>aj [b] w w'∧aJ w' b [vt,.int .i64 (k:Int),vn,ve].toArray 190∧iz t5 E G w' b vt vn ve gn ge ag aK exprs∧n<=k∧bm cy ag k=bm cy ag n) (λk=>bm cy ag n+1-k) n rfl (⟨aj.refl _ _,bg,hS,lR _,rfl⟩) λgg w1 e1 hI=>?_
 obtain⟨hK,bg,hS,hk,hq⟩:=hI
 have hle:=(nU cy ag gg).1
 refine W ?_
 refine aA (ir (gg+1) gg om om w1) ?_
 rintro _ w2 ⟨rfl,az⟩
 have dm:=az.size
 refine cN az hK bg hS λhK bg hS=>?_
 refine gV rfl rfl rfl rfl (by have:=Ej _ gg (lR _);simp;omega)<|W ?_
 refine gd (o:=1) oJ rfl rfl rfl bg rfl λw3 aH bg df=>?_
 have hS:=hS.aF aH sm
 have hK:=hK.trans aH
 refine W ?_
 refine aA (AJ ag om (cK cy gg) _ _ w3 hS.ta) ?_
 rintro _ w4 ⟨rfl,aO⟩
 have fE:=aO.size
 refine cN aO hK bg hS λhK bg hS=>?_
 refine kx rfl rfl rfl<|aZ<|zc rfl (λh1=>?_) (λh1=>?_)
 have my:cK cy gg∉ag:=(by simpa using h1)
 have GW:bm cy ag n=gg:=hq.symm.trans (Sh my)
 refine W ?_
 exact⟨_,rfl,⟨by rw[GW];rfl,_,_,_,_,_,by rw[GW];exact bg,hS⟩,hK⟩
 have my:cK cy gg∈ag:=(by simpa using h1)
 have hfs:=Sg my
 have SU:=(nU cy ag (gg+1)).1
 refine WZ ?_
 exact⟨gg+1,rfl,⟨hK,bg,hS,om,om⟩,om⟩
section
variable {τ:yg} {E G:List Nat} {w w':World} {b:Nat} {vt vn ve:Value} {gn ge:Option Nat} {ag aK:List ai} {exprs:List aq}
theorem iz.AY (h:iz τ E G w b vt vn ve gn ge ag aK exprs) {ys:List aq} (hy:dH (ge.toList++(g.toList++(E++G))) w' τ.T 2 v g (cT ys)) (k:aj (b::ge.toList) w w') (hg:g=ge∨∃x,g=some x∧w.heap.size<=x):
  ∃G',iz τ E G' w' b vt vn v gn g ag aK ys∧Fr G w G' w'∧∀x,x∈G'->x∈ge.toList++(g.toList++(E++G)):=by
 obtain⟨a1,a2,a3,a4⟩:=h.apart
 have o3:∀x,x∈g.toList->x∈ge.toList∨w.heap.size<=x:=λx hx=>by
  rcases hg with rfl|⟨y,rfl,hy⟩
  ·exact .inl hx
  ·right;simp at hx;omega
 have nM:b∈G:=h.mem.2 (.inl rfl)
 have hF:Fr G w (b::(gn.toList++g.toList)) w':=⟨k.mono λx hx=>by
  rcases mC.1 hx with rfl|hx
  ·exact nM
  ·exact h.mem.2 (by simp[hx]),λx hx=>by
  rcases mC.1 hx with rfl|hx
  ·exact .inl nM
  ·rcases mA.1 hx with hx|hx
   ·exact .inl (h.mem.2 (by simp[hx]))
   ·rcases o3 x hx with h1|h1
    ·exact .inl (h.mem.2 (by simp[h1]))
    ·exact .inr h1⟩
 have dU:∀x,x∈E++G->x<w.heap.size:=h.cC
 have hN:(E++b::(gn.toList++g.toList)).Nodup:=Tm a1 a2 a3 (λx hx=>by
  rcases o3 x hx with h1|h1
  ·exact a4 x h1
  ·exact⟨λhe=>by have:=dU x (by simp[he]);omega,λe=>by have:=dU x (mR _ (h.mem.2 (.inl e)));omega,λe=>by have:=dU x (mR _ (h.mem.2 (by simp[e])));omega⟩)
 have rI:∀x,x∈b::(gn.toList++g.toList)->x∈ge.toList++(g.toList++(E++G)):=λx hx=>by
  rw[mA,mA,mA]
  rcases mC.1 hx with rfl|hx
  ·exact .inr (.inr (.inr nM))
  ·rcases mA.1 hx with hx|hx
   ·exact .inr (.inr (.inr (h.mem.2 (by simp[hx]))))
   ·simp[hx]
 refine⟨_,⟨h.ta.go (hF.in E),h.na.aF k (λx hx hy=>?_),hy.sub λx hx=>.inl ?_,rfl,hN,λx hx=>?_⟩,hF,rI⟩
 ·rcases mC.1 hy with rfl|hy
  ·exact(a3 x (by simp[hx])).2 rfl
  ·exact(a4 x hy).2.2 (by simp[hx])
 ·rcases mA.1 hx with hx|hx
  ·simp[hx]
  ·exact rI x hx
 ·have hs:=k.size
  rcases mA.1 hx with hx|hx
  ·exact lL (h.cC x (by simp[hx])) hs
  ·rcases mC.1 hx with rfl|hx
   ·exact lL (h.cC x (mR _ nM)) hs
   ·rcases mA.1 hx with hx|hx
    ·exact lL (h.cC x (mR _ (h.mem.2 (by simp[hx])))) hs
    ·exact hy.lt x hx
theorem iz.alloc (h:iz τ E G w b vt vn ve gn ge ag aK exprs) (k:aj [] w w') (hz:w'.heap.size=w.heap.size+1):iz τ (w.heap.size::E) G w' b vt vn ve gn ge ag aK exprs:=by
 have hF:∀x,x∈(w.heap.size::E)++G->x∈E++G∨w.heap.size<=x:=λx hx=>by
  rcases mC.1 (show x∈w.heap.size::(E++G) from hx) with h1|h1
  ·right;omega
  ·exact .inl h1
 refine⟨(h.ta.fresh hF).ext k,h.na.ext k,(h.ex.sub hF).any k,h.eG,?_,λx hx=>?_⟩
 ·show(w.heap.size::(E++G)).Nodup
  rw[List.nodup_cons]
  exact⟨λhx=>by have:=h.cC _ hx;omega,h.nd⟩
 ·rcases mC.1 (show x∈w.heap.size::(E++G) from hx) with h1|h1
  ·omega
  ·have:=h.cC x h1;omega
theorem iz.aD (h:iz τ E G w b vt vn ve gn ge ag aK exprs) (k:aj [x] w w') (hx:x∈E):iz τ E G w' b vt vn ve gn ge ag aK exprs:=by
 obtain⟨a1,a2,a3,a4⟩:=h.apart
 have hF:Fr (E++G) w (E++G) w':=Fr.of k λy hy=>List.mem_append_left _ (by simp at hy;subst hy;exact hx)
 exact⟨h.ta.go hF,h.na.aF k (λy hy wh=>(a3 y (by simp[hy])).1 (by simp at wh;subst wh;exact hx)),h.ex.aF hF k (λy hy wh=>(a4 y hy).1 (by simp at wh;subst wh;exact hx)),h.eG,h.nd,λy hy=>lL (h.cC y hy) k.size⟩
theorem iz.drop (h:iz τ (x::E) G w b vt vn ve gn ge ag aK exprs):iz τ E G w b vt vn ve gn ge ag aK exprs:=
 ⟨h.ta.fresh λy hy=>.inl (mK _ hy),h.na,h.ex.sub λy hy=>.inl (mK _ hy),h.eG,(List.nodup_cons.1 (show(x::(E++G)).Nodup from h.nd)).2,λy hy=>h.cC y (mK _ hy)⟩
theorem M5.open (h:M5 τ E G w b ag n aK exprs):∃vt vn ve gn ge,aJ w b [vt,.int .i64 (n:Int),vn,ve].toArray τ.M∧iz τ E G w b vt vn ve gn ge ag aK exprs:=h
theorem M5.bG (h:M5 τ E G w b ag n aK exprs):b∈G∧b<w.heap.size∧eO (E++G) w:=by
 obtain⟨_,_,_,_,_,h1,h2⟩:=h
 exact⟨h2.mem.2 (.inl rfl),h1.lt,h2.cC⟩
theorem M5.nE (h:M5 τ E G w b ag n aK exprs) (hx:x∈E):x∉G:=by
 obtain⟨_,_,_,_,_,_,h2⟩:=h
 have:=h2.nd
 rw[List.nodup_append] at this
 exact λhg=>this.2.2 x hx x hg rfl
theorem M5.alloc (h:M5 τ E G w b ag n aK exprs) (k:aj [] w w') (hz:w'.heap.size=w.heap.size+1):M5 τ (w.heap.size::E) G w' b ag n aK exprs:=by
 obtain⟨vt,vn,ve,gn,ge,h1,h2⟩:=h
 exact⟨vt,vn,ve,gn,ge,h1.ext k,h2.alloc k hz⟩
theorem M5.aD (h:M5 τ E G w b ag n aK exprs) (k:aj [x] w w') (hx:x∈E):M5 τ E G w' b ag n aK exprs:=by
 obtain⟨vt,vn,ve,gn,ge,h1,h2⟩:=h
 exact⟨vt,vn,ve,gn,ge,h1.aF k (by simp;intro e;subst e;exact h2.apart.2.1 hx),h2.aD k hx⟩
theorem M5.drop (h:M5 τ (x::E) G w b ag n aK exprs):M5 τ E G w b ag n aK exprs:=by
 obtain⟨vt,vn,ve,gn,ge,h1,h2⟩:=h
 exact⟨vt,vn,ve,gn,ge,h1,h2.drop⟩
end
theorem dH.form {T:TypeId} {sz:Nat} {rows:List (List C)} (h:dH L w T sz v g rows) (hp:0<rows.length):∃b cap,v= .slice (some ⟨b,0,none⟩) rows.length cap∧g=some b:=by
 obtain⟨xs,hx,_⟩:=h.own
 rcases hx.2 with⟨_,h0,_⟩|⟨b,cap,_,e,hv,_⟩
 ·omega
 ·exact⟨b,cap,hv,e⟩
theorem dH.NH {T:TypeId} {i:Nat} {ts:List aq} (h:dH L w T 2 (.slice (some ⟨b,0,none⟩) n c) g (cT ts)) (hi:i<ts.length):
  ∃pa pc,fS w b (0+i*2) [str (nth ts i).aw,.slice pa (nth ts i).ak.length pc]∧bB L w (.agg #[str (nth ts i).aw,.slice pa (nth ts i).ak.length pc]) (nth ts i):=by
 obtain⟨xs,dv,gB⟩:=h.own
 rcases dv.2 with⟨h0,_⟩|⟨b',cap,cur,e,hv,hb,ml,lU,bZ,ht⟩
 ·cases h0
 ·cases hv
  have gZ:=h.row
  have hlen:xs.length=(cT ts).length*2:=dv.1
  have jd:∀j,j<2->∀u,xs[i*2+j]?=some u->w.cell? ⟨b,i*2+j,none⟩=some u:=λj hj u hu=>by
   rw[hb.cell]
   rw[<-ht,List.getElem?_take] at hu
   split at hu
   ·simpa using hu
   ·cases hu
  have lN:i<(cT ts).length:=by rw[ia];exact hi
  obtain⟨u0,h0⟩:∃u,xs[i*2]?=some u:=⟨xs[i*2]'om,gE om⟩
  obtain⟨u1,h1⟩:∃u,xs[i*2+1]?=some u:=⟨xs[i*2+1]'om,gE om⟩
  have hr:cS L w [u0,u1] (nth ts i).enc:=by
   have iy:=oG (nth ts i)
   refine cS.of (by rw[iy];rfl) λj v c hv hc=>?_
   have mE:(cT ts).flatten[i*2+j]?=some c:=Fm gZ (Lj (gh hi)) hc
   refine gB.get ?_ mE
   match j,hv with
   |0,hv=>simp at hv;subst hv;exact h0
   |1,hv=>simp at hv;subst hv;exact h1
  obtain⟨pa,pn,pc,he,hn,hp⟩:=cU (t:=nth ts i) ⟨[u0,u1],rfl,hr⟩
  have ij:[u0,u1]=[str (nth ts i).aw,.slice pa pn pc]:=by
   have:=congrArg (λv=>match v with|Value.agg x=>x.toList|_=>[]) he
   simpa using this
  subst hn
  simp only[List.cons.injEq,and_true] at ij
  obtain⟨e0,e1⟩:=ij
  subst e0 e1
  refine⟨pa,pc,λj v hj=>?_,kV hp⟩
  match j,hj with
  |0,hj=>simp at hj;subst hj;have:=jd 0 om _ h0;simpa using this
  |1,hj=>simp at hj;subst hj;have:=jd 1 om _ h1;simpa using this
theorem cG.NH {T:TypeId} {i:Nat} (h:cG w T (.slice (some ⟨b,0,none⟩) n c) g xs) (hi:i<xs.length):fS w b (0+i*1) [str (bX xs i)]:=by
 obtain⟨b1,eX,e1,hc⟩:=pB h.rs (km hi)
 cases e1
 exact hc
theorem cG.agh {T:TypeId} (h:cG w T v g xs) (hp:0<xs.length):∃b cap,v= .slice (some ⟨b,0,none⟩) xs.length cap∧g=some b:=by cases h.2<;>grind
def U2:Value->Nat->Value
 | .slice (some ⟨b,o,none⟩) _ _,k=>.pointer (some ⟨b,o+k,none⟩)
 |_,_=>undef
section
variable {P:Program} {n:Nat} {ops:Array Oper} {K:Env->World->Prop} {rest:List Oper} {e:Env} {w:World} {dst:Option Nat} {ty:TypeId} {pos:String} {after:Array Edge} {g:Option (Nat×Bool)} {x y:Operand}
theorem rV {t E bytes:Nat} {z:Value} {v:Value} {gb:Option Nat} {xs:List ai} {s:ai} {b U:Nat} (hT:P.underlying t=some (.slice E)) (hE:TI P E 1 bytes z) (hg:gate ops e g=true) (hd:bV n dst=true) (hz:Nat.beq z.cells.size 1=true) (fK:Nat.ble bytes 1000=true) 
  (hx:ev e x=v) (hy:ev e y= .slice (some ⟨b,0,none⟩) 1 1) (hO:cG w E v gb xs) (hb:aJ w b [str s].toArray U) (hn:xs.length<100000000)
  (k:∀v' g' w',cG w' E v' g' (xs++[s])->aj gb.toList w w'->(g'=gb∨g'=some w.heap.size)->OW P n ops K rest (bM e dst v') w'):
  OW P n ops K (⟨dst,.call {callee:=.builtin .append,args:=#[x,y],argTypes:=#[t,t]},ty,pos,after,g⟩::rest) e w:=by
 refine Co (L:=[]) (row:=[.val (str s)]) hT hE hg hd hz fK hx hy (hO.Ti _) rfl hb.all (by simp[Value.oneCell']) ⟨.val _,trivial⟩ (by rw[qb];exact hn) ?_
 intro v' g' w' iT hk kz
 rw[Tj] at iT
 exact k v' g' w' iT.uP hk.aF kz
theorem U3 {G:List Nat} {t E bytes:Nat} {z:Value} {v:Value} {gb:Option Nat} {ts:List aq} {b:Nat} {U c:Nat} (hT:P.underlying t=some (.slice E)) (hE:TI P E 2 bytes z) (hg:gate ops e g=true) (hd:bV n dst=true) (hz:Nat.beq z.cells.size 2=true) (fK:Nat.ble bytes 1000=true) 
  (hx:ev e x=v) (hy:ev e y= .slice (some ⟨b,0,none⟩) 1 c) (hO:dH G w E 2 v gb (cT ts)) (hG:eO G w) (oa:∀q,q∈gb.toList->q∈G) (hb:aJ w b [str [],.slice none 0 0].toArray U) (hn:ts.length<100000000)
  (k:∀v' g' w',dH (gb.toList++(g'.toList++G)) w' E 2 v' g' (cT (ts++[.mk [] []]))->aj gb.toList w w'->(g'=gb∨g'=some w.heap.size)->Fr G w (gb.toList++(g'.toList++G)) w'->eO (gb.toList++(g'.toList++G)) w'->OW P n ops K rest (bM e dst v') w'):
  OW P n ops K (⟨dst,.call {callee:=.builtin .append,args:=#[x,y],argTypes:=#[t,t]},ty,pos,after,g⟩::rest) e w:=by
 refine Co (L:=G) (row:=(aq.mk [] []).enc) hT hE hg hd hz fK hx hy (hO.sub λq hq=>.inl ?_) (oG _) hb.all (by simp[Value.oneCell']) (bB.kj (kU oH)) (by rw[ia];exact hn) ?_
 ·rcases mA.1 hq with h|h
  ·exact oa q h
  ·exact h
 ·intro v' g' w' iT hk kz
  have e1:cT ts++[(aq.mk [] []).enc]=cT (ts++[.mk [] []]):=by rw[Lh];rfl
  rw[e1] at iT
  have o3:∀q,q∈g'.toList->q∈gb.toList∨w.heap.size<=q:=λq hq=>by
   rcases kz with h|h
   ·rw[h] at hq;exact .inl hq
   ·rw[h] at hq;simp at hq;right;omega
  refine k v' g' w' iT hk.aF kz ⟨hk.aF.mono oa,λq hq=>?_⟩ λq hq=>?_
  ·rcases mA.1 hq with h|h
   ·exact .inl (oa q h)
   ·rcases mA.1 h with h|h
    ·rcases o3 q h with h|h
     ·exact .inl (oa q h)
     ·exact .inr h
    ·exact .inl h
  ·have hs:=hk.aF.size
   rcases mA.1 hq with h|h
   ·exact lL (hG q (oa q h)) hs
   ·rcases mA.1 h with h|h
    ·exact iT.lt q h
    ·exact lL (hG q h) hs
end
structure J5 (τ:yg) (E G2:List Nat) (w0:World) (b:Nat) (vt n vn ve:Value) (ge:Option Nat) (exprs:List aq) (s:aq) (b9 CJ:Bool) (G:List Nat) (v:Value) (w:World):Prop where
 box:aJ w b [vt,n,vn,if CJ=true then v else ve].toArray τ.M
 cC:eO G w
 aF:aj (b::ge.toList) w0 w
 ex:∃g',G=ge.toList++(g'.toList++(E++G2))∧dH G w τ.T 2 v g' (cT (exprs++[if b9=true then s else .mk [] []]))∧(g'=ge∨∃x,g'=some x∧w0.heap.size<=x)
section
variable {τ:yg} {E G2:List Nat} {w0 w w':World} {b:Nat} {vt n vn ve:Value} {ge:Option Nat} {exprs:List aq} {s:aq} {b9 CJ:Bool} {G:List Nat} {v:Value}
theorem J5.ext (h:J5 τ E G2 w0 b vt n vn ve ge exprs s b9 CJ G v w) (k:aj [] w w'):J5 τ E G2 w0 b vt n vn ve ge exprs s b9 CJ G v w':=
 ⟨h.box.ext k,λx hx=>lL (h.cC x hx) k.size,h.aF.ext k,let⟨g',h1,h2,h3⟩:=h.ex;⟨g',h1,h2.any k,h3⟩⟩
theorem J5.form (h:J5 τ E G2 w0 b vt n vn ve ge exprs s b9 CJ G v w):∃bb cap,v= .slice (some ⟨bb,0,none⟩) (exprs.length+1) cap∧(bb∈G)∧(bb∈ge.toList∨w0.heap.size<=bb)∧G=ge.toList++([bb]++(E++G2))∧dH G w τ.T 2 v (some bb) (cT (exprs++[if b9=true then s else .mk [] []]))∧(some bb=ge∨∃x,some bb=some x∧w0.heap.size<=x):=by
 obtain⟨g',h1,h2,h3⟩:=h.ex
 obtain⟨bb,cap,e1,e2⟩:=h2.form (by rw[ia];simp)
 subst e2
 refine⟨bb,cap,by rw[e1,ia];simp,by rw[h1];simp,?_,h1,h2,h3⟩
 rcases h3 with h|⟨x,h,hx⟩
 ·left;rw[<-h];simp
 ·cases h;exact .inr hx
theorem J5.fill {bb:Nat} (h:J5 τ E G2 w0 b vt n vn ve ge exprs s false CJ G v w) (hG:G=ge.toList++([bb]++(E++G2))) (hb:b≠bb) (fH:bb∈ge.toList∨w0.heap.size<=bb) (hg:some bb=ge∨∃x,some bb=some x∧w0.heap.size<=x) (k:aj [bb] w w') (ho:dH G w' τ.T 2 v (some bb) (cT (exprs++[s]))):J5 τ E G2 w0 b vt n vn ve ge exprs s true CJ G v w':=
 ⟨h.box.aF k (by simpa using hb),λx hx=>lL (h.cC x hx) k.size,h.aF.since k (λx hx=>by
  simp at hx;subst hx
  rcases fH with h|h
  ·exact .inl (by simp only[mC];right;exact h)
  ·exact .inr h),some bb,hG,by simpa using ho,hg⟩
theorem J5.field (h:J5 τ E G2 w0 b vt n vn ve ge exprs s b9 false G v w) (k:aj [b] w w') (hb:aJ w' b [vt,n,vn,v].toArray τ.M) (ho:∀g',dH G w τ.T 2 v g' (cT (exprs++[if b9=true then s else .mk [] []]))->(g'=ge∨∃x,g'=some x∧w0.heap.size<=x)->b∉g'.toList) (nM:b∈G):J5 τ E G2 w0 b vt n vn ve ge exprs s b9 true G v w':=
 ⟨by simpa using hb,λx hx=>lL (h.cC x hx) k.size,h.aF.since k (λx hx=>by simp at hx;subst hx;exact .inl sm),let⟨g',h1,h2,h3⟩:=h.ex;⟨g',h1,h2.aF (Fr.of k (by simpa using nM)) k (λx hx hy=>by simp at hy;subst hy;exact ho g' h2 h3 hx),h3⟩⟩
end
def yE (ag:List ai) (e:Ex) (n:Nat) (aK:List ai) (exprs:List aq):Prop:=n+e.n*(2*(ag.length+2))<=100000∧aK.length+4*e.n<=100000∧exprs.length+4*e.n<=100000∧ag.length<=10000
def JU (ag:List ai) (E G:List Nat) (b:Nat) (aK:List ai) (exprs:List aq) (w:World) (q:Bs×Ex×Nat) (r:Value) (w':World):Prop:=
 ∃G',(bB (E++G') w' r q.2.1.au∧M5 t5 E G' w' b ag q.2.2 (aK++q.1.map Prod.fst) (exprs++q.1.map λp=>p.2.au))∧Fr G w G' w'
def NI (e:Ex):Prop:=∀(ag:List ai) (n:Nat) (aK:List ai) (exprs:List aq),yE ag e n aK exprs->∀(E G:List Nat) (b:Nat) (v:Value) (w:World),M5 t5 E G w b ag n aK exprs->bB (E++G) w v e.au->
 bz Tryz.prog 218 [.pointer (some ⟨b,0,none⟩),v] w (JU ag E G b aK exprs w (aY ag e n))
def agi (e:Ex):Prop:=∀(ag:List ai) (n:Nat) (aK:List ai) (exprs:List aq),yE ag e n aK exprs->∀(E G:List Nat) (b:Nat) (v:Value) (w:World),M5 t5 E G w b ag n aK exprs->bB (E++G) w v e.au->
 bz Tryz.prog 242 [.pointer (some ⟨b,0,none⟩),v] w (JU ag E G b aK exprs w (dB ag (aY ag e n)))
theorem NJ {ag:List ai}:∀{e:Ex} {n:Nat} {s:ai},e.ok->(aY ag e n).2.1= .at s->s≠[]
 | .at x,n,s,h,e=>by
  have:Ex.at x=Ex.at s:=e
  cases this
  exact pD h
 | .lt x a b,n,s,h,e=>NJ (e:=b) h.2.2 e
 | .un ..,n,s,h,e=>by cases e
 | .bi ..,n,s,h,e=>by cases e
 | .ite ..,n,s,h,e=>by cases e
 | .fn ..,n,s,h,e=>by cases e
theorem U4 {f:Ex} (h:∀s,f= .at s->s≠[]):f.au.aw≠[]↔f.iv=true:=by
 cases f with
 |«at» s=>exact⟨λ_=>rfl,λ_=>h s rfl⟩
 |_=>exact⟨λhh=>absurd rfl hh,λhh=>by cases hh⟩
theorem JV (ag:List ai) (e:Ex) (n:Nat):(aY ag e n).1.length+1<=2*e.n:=by
 have h1:=uY ag e n
 have h2:∀bs:Bs,3*bs.length<=pH bs:=by
  intro bs
  induction bs with
  |nil=>simp[pH]
  |cons p bs ih=>rw[Sq];have:=p.2.pos;simp only[lC];omega
 have h3:=h2 (aY ag e n).1
 have h4:=(aY ag e n).2.1.pos
 omega
theorem U5 (ba:e.ok) (hC:NI e):agi e:=by
 intro ag n aK exprs hB E G b v w hM hv
 have cO:=hv
 obtain⟨a,np,c,rfl,hn,aP⟩:=cU hv
 obtain⟨Ji,NK,NL,JW⟩:=hB
 have JX:=ic ag e n
 have NM:=JV ag e n
 have hK:=aj.refl [] w
 have av:=hM
 have hT:=cO
 obtain⟨q,hq⟩:∃q,q=aY ag e n:=⟨_,rfl⟩
 rw[<-hq] at JX NM
 refine kW [.cell 4 74] 39 Tryz.func242 rfl ab8 rfl rfl rfl ?_
 refine zr<|eH rfl λw1 aI cQ dk=>cN aI hK av hT λhK av hT=>?_
 refine dy aL rfl rfl rfl λw2 az aG dC=>?_
 have hK:=hK.grow;have hK:=hK.ext az;have av:=av.alloc az dC;have hT:=hT.grow;have hT:=hT.ext az;have cQ:=cQ.grow;have cQ:=cQ.ext az
 refine W ?_
 refine aA (hC ag n aK exprs ⟨Ji,NK,NL,JW⟩ (w1.heap.size::E) G b _ w2 av hT) ?_
 rintro v9 w3 ⟨G1,⟨du,qC⟩,cP⟩
 rw[<-hq] at du qC
 obtain⟨a9,n9,c9,e9,_,_⟩:=cU du
 subst e9
 have aG:=aG.aF cP.aF (av.nE sm)
 have agj:=aG.lt
 have hR:Fr G w G1 w3:=(Fr.of hK sm).go cP
 have AZ:=aj.refl [] w3
 have av:=qC
 have hws:=hR.aF.size
 refine dy aL rfl rfl rfl λw4 aO cg gQ=>?_
 have av:=av.alloc aO gQ;have aG:=aG.grow;have aG:=aG.ext aO;have AZ:=AZ.grow;have AZ:=AZ.ext aO;have du:=du.grow;have du:=du.ext aO
 refine cJ aL rfl rfl rfl cg rfl λw5 aN cg ig=>?_
 have av:=av.aD aN sx;have aG:=aG.aD aN sx;have AZ:=AZ.aD aN sx;have du:=du.aD aN sx
 refine W ?_
 refine zc rfl (λh1=>?_) (λh1=>?_)
 have eJ:q.2.1.iv=true:=((U4 (λs e=>NJ ba (by rw[<-hq];exact e))).1 h1)
 have NN:dB ag q=q:=iP eJ
 have hR:=hR.ext AZ
 refine W ?_
 refine cJ aL rfl rfl rfl aG rfl λw6 bN aG df=>?_
 have av:=av.aD bN sm;have du:=du.aD bN sm
 have hR:Fr G w G1 w6:=⟨hR.aF.since bN (λx hx=>.inr (by simp at hx;omega)),hR.mem⟩
 refine W ?_
 exact⟨[_],ga eV aL rfl aG rfl,by rw[<-hq,NN];exact⟨G1,⟨du.gP (λx hx=>mK _ (mK _ hx)),av.drop.drop⟩,hR⟩⟩
 have eJ:¬q.2.1.iv=true:=(λhh=>h1 ((U4 (λs e=>NJ ba (by rw[<-hq];exact e))).2 hh))
 have NN:dB ag q=(q.1++[(cK cy (bm cy ag q.2.2),q.2.1)],.at (cK cy (bm cy ag q.2.2)),bm cy ag q.2.2+1):=iN eJ
 have hR:=hR.ext AZ
 have aQ:∃nm,nm=cK cy (bm cy ag q.2.2):=⟨_,rfl⟩
 obtain⟨nm,eK⟩:=aQ
 have aQ:∃x,x=aK++q.1.map Prod.fst:=⟨_,rfl⟩
 obtain⟨N1,CK⟩:=aQ
 have aQ:∃x,x=exprs++q.1.map λp=>p.2.au:=⟨_,rfl⟩
 obtain⟨X1,CL⟩:=aQ
 rw[<-CK,<-CL] at av
 have U6:N1.length=aK.length+q.1.length:=by rw[CK];simp
 have hXl:X1.length=exprs.length+q.1.length:=by rw[CL];simp
 refine gY<|zr<|zm<|aA (agf ag q.2.2 om JW b _ G1 N1 X1 w5 av) ?_
 rintro A1 w6 ⟨⟨EL,qC⟩,jI⟩
 rw[<-eK] at EL
 subst EL
 have nM:=qC.bG
 have U7:=qC.nE (x:=w1.heap.size) sm
 have du:=du.aD jI (by intro x hx;simp at hx;subst hx;simp[nM.1])
 have aG:=aG.aF jI (by simp;intro e;subst e;exact U7 nM.1)
 have JY:=qC.nE (List.mem_cons_self ..)
 have cg:=cg.aF jI (by simp;intro e;exact JY (e▸nM.1))
 have hR:=hR.aD jI (by simpa using nM.1)
 obtain⟨vt,vn,ve,gn,ge,bg,hS⟩:=qC.open
 refine W ?_
 refine fc bh bf rfl rfl λw7 bW rW oX=>tS bW aG du cg bg hS hR λaG du cg bg hS hR=>?_
 refine rV bh bf rfl rfl rfl rfl rfl rfl hS.na rW om λU8 g23 w8 U9 cE agl=>?_
 obtain⟨o9,pd,Hh⟩:=jR U9
 subst Hh
 obtain⟨JZ,xi,xj,sU⟩:=hS.apart
 obtain⟨G2,fB,jq⟩:=hS.Tn U9 cE agl
 have bg:=bg.aF cE (λh=>(xj b h).2 rfl)
 have aG:=aG.aF cE (λh=>(xj _ h).1 sm)
 have cg:=cg.aF cE (λh=>(xj _ h).1 sm)
 have du:bB ((w3.heap.size::w1.heap.size::E)++G2) w8 _ q.2.1.au:=bB.go (L:=(w3.heap.size::w1.heap.size::E)++G1) du (jq.in _)
 have hR:=hR.go jq
 have xk:b∈G2:=fB.mem.2 (.inl rfl)
 refine W ?_
 refine gd (o:=2) mu rfl rfl rfl bg rfl λw9 aB bg df=>?_
 have hS:=fB.aF aB sm
 have aG:=aG.aF aB (by simp;intro e;subst e;exact xi sm)
 have cg:=cg.aF aB (by simp;intro e;exact xi (by simp[e]))
 have du:=du.aD aB (by intro x hx;simp at hx;subst hx;simp[xk]);have hR:=hR.aD aB (by simpa using xk)
 have agm:=(List.nodup_cons.1 (show(w3.heap.size::((w1.heap.size::E)++G2)).Nodup from hS.nd)).1
 have hS:=hS.drop
 have du:bB ((w1.heap.size::E)++G2) w9 _ q.2.1.au:=du.gP (λx hx=>mK _ hx)
 refine W ?_
 obtain⟨ae,ce,e5⟩:=hS.ex.len
 subst e5
 have cg:dM ((w1.heap.size::E)++G2) w9 _ _ _:=⟨cg,agm⟩
 have bg:aJ w9 b [vt,(.int .i64 ((bm cy ag q.2.2+1:Nat):Int)),(.slice o9 (N1++[nm]).length pd),(.slice ae (cT X1).length ce)].toArray 190:=bg
 have CM:eO ((w1.heap.size::E)++G2) w9:=hS.cC
 have dX:b∈G2:=xk
 obtain⟨JZ,xi,xj,sU⟩:=hS.apart
 have iq:=bg.lt
 apply SK dj (((w1.heap.size::E)++G2)) 13 (rA 26 9++[100009,35,36,100012]) (rA 26 9++[100009,35,36,100012]) [[],[0],[1],[2],[],[3],[],[3,6],[5,7],[4,8],[0],[10],[7,11]] [Iu.v _,Iu.v _,Iu.v _,Iu.w 0 ((.slice ae (cT X1).length ce)),Iu.v _,Iu.v _,Iu.p (fun(G:List Nat) (v:Value) (ww:World)=>∃bb,v= .slice (some ⟨bb,0,none⟩) 1 1∧dM G ww bb [str [],.slice none 0 0].toArray 74),Iu.e 1,Iu.d (fun(vs:List Value)=>U2 (vs.getD 1 undef) ((cT X1).length*2)),Iu.u,Iu.v _,Iu.v _,Iu.u] [3,7] [fun(G:List Nat) (vs:List Value) (ww:World)=>G=((w1.heap.size::E)++G2)∧aJ ww b [vt,(.int .i64 ((bm cy ag q.2.2+1:Nat):Int)),(.slice o9 (N1++[nm]).length pd),(.slice ae (cT X1).length ce)].toArray 190∧aj [] w9 ww,fun(G:List Nat) (vs:List Value) (ww:World)=>G=((w1.heap.size::E)++G2)∧aJ ww b [vt,(.int .i64 ((bm cy ag q.2.2+1:Nat):Int)),(.slice o9 (N1++[nm]).length pd),(.slice ae (cT X1).length ce)].toArray 190∧aj [] w9 ww,fun(G:List Nat) (vs:List Value) (ww:World)=>J5 t5 (w1.heap.size::E) G2 w9 b vt (.int .i64 ((bm cy ag q.2.2+1:Nat):Int)) (.slice o9 (N1++[nm]).length pd) (.slice ae (cT X1).length ce) ge X1 q.2.1.au false false G (vs.getD 1 undef) ww] (fun(S:Nat->Bool) (G:List Nat) (vs:List Value) (ww:World)=>J5 t5 (w1.heap.size::E) G2 w9 b vt (.int .i64 ((bm cy ag q.2.2+1:Nat):Int)) (.slice o9 (N1++[nm]).length pd) (.slice ae (cT X1).length ce) ge X1 q.2.1.au (S 9) (S 12) G (vs.getD 1 undef) ww) de rfl CM (by exact⟨λG v w G' w' ⟨bb,e,h⟩ k=>⟨bb,e,h.go k⟩,trivial⟩) (by exact⟨λG vs w w' ⟨h1,h2,h3⟩ k=>⟨h1,h2.ext k,h3.ext k⟩,λG vs w w' ⟨h1,h2,h3⟩ k=>⟨h1,h2.ext k,h3.ext k⟩,λG vs w w' h k=>h.ext k,trivial⟩) (by exact λS G vs w w' h k=>h.ext k) (⟨rfl,bg,aj.refl _ _⟩) (by exact λ_ _ _ h _=>h)
 refine uf (λx cu mO aS pV l9=>?_) ?_
 refine WZ ?_
 exact uv
 refine uf (λx cu mO aS pV l9=>?_) ?_
 refine WZ ?_
 exact uv
 refine uf (λx cu mO aS pV l9=>?_) ?_
 refine WZ ?_
 exact uv
 refine ue 0 (λx cu mO aS pV l9 hJ hlen=>?_) ?_
 have aW:=jh hlen
 subst aW
 obtain⟨bO,bg,bP⟩:=hJ
 refine WZ ?_
 exact uW mO (Fr.refl _ _) l9 (⟨bO,bg,bP⟩)
 refine uf (λx cu mO aS pV l9=>?_) ?_
 have cg:=cg.go pV
 refine WZ ?_
 exact uv
 refine uf (λx cu mO aS pV l9=>?_) ?_
 refine WZ ?_
 exact uv
 refine uf (λx cu mO aS pV l9=>?_) ?_
 refine fc cz aL rfl rfl λeD dd agn vj=>?_
 exact up dd (⟨_,rfl,agn.o l9⟩)
 refine ue 1 (λx cu mO aS pV l9 hJ hlen=>?_) ?_
 obtain⟨q0,aW⟩:=ji hlen
 subst aW
 intro v6 d6
 obtain⟨bb,e6,fH⟩:=d6
 subst e6
 obtain⟨bO,bg,bP⟩:=hJ
 subst bO
 refine U3 cz aL rfl rfl rfl rfl rfl rfl (hS.ext bP).ex ‹_› (λx hx=>mR _ (hS.mem.2 (by simp[hx]))) fH.gX om λv9 g9 eD cZ aB eZ cP eu=>?_
 exact uE _ cP eu (⟨bg.aF aB (λh=>(sU b h).2.1 rfl),eu,bP.any.trans (aB.mono (λx hx=>mK _ hx)),g9,rfl,cZ,eZ.imp id (λh=>⟨_,h,bP.size⟩)⟩)
 refine ud (λx cu mO aS S pV l9 hJ hlen=>?_) ?_
 obtain⟨q0,q1,aW⟩:=k9 hlen
 subst aW
 obtain⟨bb,cap,e1,rX,rH,jU,hO,vB⟩:=J5.form hJ
 have e2:q1=_:=e1
 subst e2
 refine zi cz aL rfl rfl (by rw[ia];omega) ?_
 exact uD (aj.refl _ _) rfl
 refine uu (λx cu mO aS S pV l9 hJ CN hlen=>?_) ?_
 obtain⟨q0,q1,aW⟩:=k9 hlen
 subst aW
 have du:=du.go pV
 have hJ:J5 t5 (w1.heap.size::E) G2 w9 b vt (.int .i64 ((bm cy ag q.2.2+1:Nat):Int)) (.slice o9 (N1++[nm]).length pd) (.slice ae (cT X1).length ce) ge X1 q.2.1.au (S 9) (S 12) mO q1 cu:=hJ
 rw[CN] at hJ
 obtain⟨bb,cap,e1,rX,rH,jU,hO,vB⟩:=J5.form hJ
 subst e1
 refine sQ (i:=(cT X1).length) (vs:=[str q.2.1.au.aw,.slice a9 n9 c9]) (row:=q.2.1.au.enc) aL rfl rfl rfl rfl (Nat.zero_add _) hO ‹_› rX (by rw[ia,ia];simp) rfl (oG _) du.kj λeD dd rR dv=>?_
 rw[sS,ia] at dv
 exact uU mO (Fr.of dd (by simpa using rX)) ((λx hx=>lL (l9 x hx) (aj.size dd))) (J5.fill hJ jU (by rintro rfl;rcases rH with h|h;(·exact(sU _ h).2.1 rfl);(·omega)) rH vB dd (by have e3:(X1++[if false=true then q.2.1.au else aq.mk [] []]).set X1.length q.2.1.au=X1++[q.2.1.au]:=sm;rw[e3] at dv;exact dv))
 refine uf (λx cu mO aS pV l9=>?_) ?_
 refine WZ ?_
 exact uv
 refine uf (λx cu mO aS pV l9=>?_) ?_
 refine WZ ?_
 exact uv
 refine uu (λx cu mO aS S pV l9 hJ CN hlen=>?_) ?_
 obtain⟨q0,q1,aW⟩:=k9 hlen
 subst aW
 have hJ:J5 t5 (w1.heap.size::E) G2 w9 b vt (.int .i64 ((bm cy ag q.2.2+1:Nat):Int)) (.slice o9 (N1++[nm]).length pd) (.slice ae (cT X1).length ce) ge X1 q.2.1.au (S 9) (S 12) mO q1 cu:=hJ
 rw[CN] at hJ
 obtain⟨bb,cap,e1,rX,rH,Hi,hO,vB⟩:=J5.form hJ
 subst e1
 have NO:=hJ.box
 refine gd (o:=3) DW rfl rfl rfl NO rfl λeD dd CP rR=>?_
 exact uU mO (Fr.of dd (by rw[Hi];simp[dX])) ((λx hx=>lL (l9 x hx) (aj.size dd))) (J5.field hJ dd CP (λg9 _ eZ hx=>by rcases eZ with h|⟨y,h,hy⟩;(·rw[h] at hx;exact(sU _ hx).2.1 rfl);(·rw[h] at hx;simp at hx;omega)) (by rw[Hi];simp[dX]))
 exact trivial
 intro x ot JN aS yB UT hJ hlen
 obtain⟨q0,q1,aW⟩:=k9 hlen
 subst aW
 intro v6 d6
 intro v9
 intro v12
 change OW _ _ _ _ [] (bo (bj _ x _) (zZ 26 [_,_,_,_,_,_,_,_,_]++[(100009,_),(35,_),(36,_),(100012,_)])) _
 have hJ:J5 t5 (w1.heap.size::E) G2 w9 b vt (.int .i64 ((bm cy ag q.2.2+1:Nat):Int)) (.slice o9 (N1++[nm]).length pd) (.slice ae (cT X1).length ce) ge X1 q.2.1.au true true JN q1 ot:=hJ
 obtain⟨g9,jU,cZ,eZ⟩:=hJ.ex
 subst jU
 obtain⟨G3,yF,jo,Va⟩:=hS.AY cZ hJ.aF eZ
 have aG:=aG.aF hJ.aF (by intro hx;rcases mC.1 hx with h|h;(·exact xi (by simp[h]));(·exact(sU _ h).1 sm))
 have hR:=hR.go jo
 have bg:=hJ.box
 have yF:=yF
 refine aZ<|zr<|zm<|aA (AK nm ot) ?_
 rintro _ ou ⟨rfl,lM⟩
 have aoB:=lM.size
 refine ie lM aG yF bg hR λaG yF bg hR=>?_
 refine cJ aL rfl rfl rfl aG rfl λlg kP aG df=>?_
 have bg:=bg.aF kP (by simp;intro e;exact xi (by simp[e]))
 have yF:=yF.aD kP sm
 have hR:Fr G w G3 lg:=⟨hR.aF.since kP (λx hx=>.inr (by simp at hx;omega)),hR.mem⟩
 refine W ?_
 exact⟨[_],ga eV aL rfl aG rfl,by rw[<-hq,NN];exact⟨G3,⟨(by rw[eK];exact kU oH),(by have e1:aK++(q.1++[(cK cy (bm cy ag q.2.2),q.2.1)]).map Prod.fst=N1++[nm]:=(by rw[CK,eK];simp);have e2:exprs++(q.1++[(cK cy (bm cy ag q.2.2),q.2.1)]).map (λp=>p.2.au)=X1++[q.2.1.au]:=(by rw[CL];simp);show M5 t5 E G3 _ b ag _ (aK++(q.1++[(cK cy (bm cy ag q.2.2),q.2.1)]).map Prod.fst) (exprs++(q.1++[(cK cy (bm cy ag q.2.2),q.2.1)]).map (λp=>p.2.au));rw[e1,e2];exact⟨_,_,_,_,_,bg,yF.drop⟩)⟩,hR⟩⟩
theorem ago (v:Value) (a:Option Addr) (n c:Nat) (hv:v= .slice a n c) (w:World):bz Tryz.prog 219 [v] w λr w'=>r= .agg #[str [],.slice a n c]∧aj [] w w':=by
 subst hv
 have hK:=aj.refl [] w
 refine kW [.cell 2 74] 5 Tryz.func219 rfl abV rfl rfl rfl ?_
 refine zr<|dy aL rfl rfl rfl λw1 aI aU dk=>?_
 have hK:=hK.grow;have hK:=hK.ext aI
 refine aZ<|zr<|zm<|js (LR _ _ _ _) rfl rfl<|cJ aL rfl rfl rfl aU rfl λw2 az aU dC=>?_
 have hK:=hK.aD az sx
 refine W ?_
 exact⟨[_],ga eV aL rfl aU rfl,rfl,hK⟩
def agp (e:Ex):Prop:=∀(ag:List ai) (n:Nat) (aK:List ai) (exprs:List aq),yE ag e n [] []->∀(E G:List Nat) (b:Nat) (v:Value) (w:World),M5 t5 E G w b ag n aK exprs->bB (E++G) w v e.au->
 bz Tryz.prog 181 [.pointer (some ⟨b,0,none⟩),v] w λr w'=>(bB (E++G) w' r (mv ag e n).au∧M5 t5 E G w' b ag (aY ag e n).2.2 aK exprs)∧Fr G w G w'
theorem agq {bs:Bs} (h:k<bs.length):(nest (bs.drop k) e).au= .mk [] [bJ fW,bJ (bs.getD k ([],e)).1,(bs.getD k ([],e)).2.au,(nest (bs.drop (k+1)) e).au]:=by
 rw[List.drop_eq_getElem_cons h]
 have e1:bs.getD k ([],e)=bs[k]:=by simp[h]
 rw[e1];rfl
theorem agr {e:Ex} (h:k<bs.length):bX (bs.map Prod.fst) k=(bs.getD k ([],e)).1:=by simp[bX,List.getD,h]
theorem ags {e:Ex} (h:k<bs.length):nth (bs.map λp=>p.2.au) k=(bs.getD k ([],e)).2.au:=by simp[nth,List.getD,h]
theorem agt {T:TypeId} {u1 u2 u3 u4 u5 u6 u7 u8:Value} {t1 t2 t3 t4:aq} (hb:aJ w b [u1,u2,u3,u4,u5,u6,u7,u8].toArray T) (hL:b∉L) (h1:bB L w (.agg #[u1,u2]) t1) (h2:bB L w (.agg #[u3,u4]) t2) (h3:bB L w (.agg #[u5,u6]) t3) (h4:bB L w (.agg #[u7,u8]) t4):
  eM L w (.slice (some ⟨b,0,none⟩) 4 4) [t1,t2,t3,t4]:=by
 have hc:=hb.all
 refine Ym b 0 4 2 (cT [t1,t2,t3,t4]) [[u1,u2],[u3,u4],[u5,u6],[u7,u8]] rfl (lR 4) hb.lt hL (YZ _) (λi vs hi=>?_) λi vs row hi hr=>?_
 ·intro j v hj
  match i,hi with
  |0,hi=>simp at hi;subst hi;have:=hc j v (by match j,hj with|0,hj=>simpa using hj|1,hj=>simpa using hj);simpa using this
  |1,hi=>simp at hi;subst hi;have:=hc (2+j) v (by match j,hj with|0,hj=>simpa using hj|1,hj=>simpa using hj);simpa using this
  |2,hi=>simp at hi;subst hi;have:=hc (4+j) v (by match j,hj with|0,hj=>simpa using hj|1,hj=>simpa using hj);simpa using this
  |3,hi=>simp at hi;subst hi;have:=hc (6+j) v (by match j,hj with|0,hj=>simpa using hj|1,hj=>simpa using hj);simpa using this
 ·match i,hi with
  |0,hi=>simp at hi;subst hi;simp[cT] at hr;subst hr;exact h1.kj
  |1,hi=>simp at hi;subst hi;simp[cT] at hr;subst hr;exact h2.kj
  |2,hi=>simp at hi;subst hi;simp[cT] at hr;subst hr;exact h3.kj
  |3,hi=>simp at hi;subst hi;simp[cT] at hr;subst hr;exact h4.kj
theorem J0 (ba:e.ok) (hC:NI e):agp e:=by
 intro ag n aK exprs hB E G b v w hM hv
 have cO:=hv
 obtain⟨a,np,c,rfl,hn,aP⟩:=cU hv
 have hB0:=hB
 obtain⟨Ji,NK,NL,JW⟩:=hB
 have JX:=ic ag e n
 have NM:=JV ag e n
 have hK:=aj.refl [] w
 have av:=hM
 have hT:=cO
 obtain⟨q,hq⟩:∃q,q=aY ag e n:=⟨_,rfl⟩
 rw[<-hq] at JX NM
 refine kW [.cell 4 74] 66 Tryz.func181 rfl abw rfl rfl rfl ?_
 refine zr<|eH rfl λw1 aI cQ dk=>bI aI hK av λhK av=>?_
 refine dy aL rfl rfl rfl λw2 az aG dC=>?_
 have hK:=hK.grow;have hK:=hK.ext az;have av:=av.alloc az dC;have cQ:=cQ.grow;have cQ:=cQ.ext az
 refine W ?_
 obtain⟨vt,vn,ve,gn,ge,bg,hS⟩:=av.open
 obtain⟨an,cn,jJ⟩:=jR hS.na
 subst jJ
 obtain⟨ae,ce,B9⟩:=hS.ex.len
 subst B9
 obtain⟨JZ,xi,xj,sU⟩:=hS.apart
 have nM:b∈G:=hS.mem.2 (.inl rfl)
 have iq:=bg.lt
 have CQ:=hS
 have mG:=hK
 have NP:=aj.refl [] w2
 have agj:=aG.lt
 have GX:=aG
 have Hj:bB ((w1.heap.size::E)++G) w2 _ e.au:=bB.ext (bB.fresh cO (by intro x hx;rcases mC.1 (show x∈w1.heap.size::(E++G) from hx) with h|h;(·right;omega);(·exact .inl h))) mG
 have aoC:=dk
 have aoD:=dC
 have Vb:w.heap.size≠b:=(by have:=hM.bG.2.1;omega)
 have J1:w1.heap.size≠b:=(by have:=hM.bG.2.1;omega)
 have Je:=hM.bG.2.1
 refine W ?_
 refine fQ bh bf λw3 aH jW gJ=>ie aH bg NP cQ aG λbg NP cQ aG=>?_
 refine W ?_
 refine gd (o:=2) mu rfl rfl rfl bg rfl λw4 aO bg df=>?_
 have pW:aj [b] w2 w4:=(aj.any NP).trans aO
 have jW:=jW.aF aO so
 have aG:=aG.aF aO (by simpa using J1)
 have cQ:=cQ.aF aO (by simpa using Vb)
 refine aZ<|zr<|zm<|fQ cz aL λw5 aN rW ig=>ie aN bg cQ aG jW λbg cQ aG jW=>?_
 refine W ?_
 refine gd (o:=3) DW rfl rfl rfl bg rfl λw6 bN bg df=>?_
 have pW:aj [b] w2 w6:=(pW.ext aN).trans bN
 have jW:=jW.aF bN so
 have rW:=rW.aF bN so
 have aG:=aG.aF bN (by simpa using J1)
 have cQ:=cQ.aF bN (by simpa using Vb)
 refine W ?_
 have bg:aJ w6 b [vt,.int .i64 (n:Int),.slice (some ⟨w2.heap.size,0,none⟩) 0 0,.slice (some ⟨w4.heap.size,0,none⟩) 0 0].toArray 190:=bg
 obtain⟨hSo,_,_,aoE⟩:=CQ.opened pW jW rW (lR _) om
 have av:M5 t5 (gn.toList++(ge.toList++(w1.heap.size::E))) [b,w2.heap.size,w4.heap.size] w6 b ag n [] []:=⟨_,_,_,_,_,bg,hSo⟩
 have hTP:bB ((gn.toList++(ge.toList++(w1.heap.size::E)))++[b,w2.heap.size,w4.heap.size]) w6 _ e.au:=Hj.go ⟨pW.mono (by intro x hx;simp at hx;subst hx;simp[nM]),by intro x hx;rcases mA.1 hx with h|h;(·left;rcases mA.1 h with h|h;(·exact mR _ (CQ.mem.2 (by simp[h])));(·rcases mA.1 h with h|h;(·exact mR _ (CQ.mem.2 (by simp[h])));(·exact List.mem_append_left _ h)));(·simp at h;rcases h with h|h|h;(·left;simp[h,nM]);(·right;omega);(·right;omega))⟩
 refine aA (hC ag n [] [] hB0 (gn.toList++(ge.toList++(w1.heap.size::E))) [b,w2.heap.size,w4.heap.size] b _ w6 av hTP) ?_
 rintro v27 w7 ⟨G2,⟨pe,av⟩,NQ⟩
 rw[<-hq,List.nil_append,List.nil_append] at av
 rw[<-hq] at pe
 obtain⟨a9,n9,c9,e9,_,_⟩:=cU pe
 subst e9
 have pW:=pW.since NQ.aF (by intro x hx;simp at hx;rcases hx with h|h|h;(·left;simp[h]);(·right;omega);(·right;omega))
 have aG:=aG.aF NQ.aF so
 have agx:∀x,x∈G2->x=b∨w2.heap.size<=x:=(by intro x hx;have h1:=pW.size;rcases NQ.mem x hx with h|h;(·simp at h;omega);(·right;omega))
 have hzw:=pW.size
 refine dy aL rfl rfl rfl λw8 cE cM ld=>?_
 have aG:=aG.grow;have aG:=aG.ext cE;have av:=av.alloc cE ld;have pe:=pe.grow;have pe:=pe.ext cE;have pW:=pW.grow;have pW:=pW.ext cE
 refine cJ aL rfl rfl rfl cM rfl λw9 aB cM df=>?_
 have aG:=aG.aD aB sx;have av:=av.aD aB sx;have pe:=pe.aD aB sx;have pW:=pW.aD aB sx
 refine W ?_
 obtain⟨vt3,vn3,ve3,gn3,ge3,bg,hS⟩:=av.open
 obtain⟨an3,cn3,agy⟩:=jR hS.na
 subst agy
 obtain⟨ae3,ce3,agz⟩:=hS.ex.len
 subst agz
 have oF:(q.1.map Prod.fst).length=q.1.length:=by simp
 have mm:(q.1.map λp=>p.2.au).length=q.1.length:=by simp
 have aoQ:(cT (q.1.map λp=>p.2.au)).length=q.1.length:=by rw[ia];exact mm
 refine W ?_
 have IJ:b<w7.heap.size∧w2.heap.size<=w7.heap.size:=(by constructor<;>omega)
 refine eA (λk:Nat=>[(0,.pointer (some ⟨b,0,none⟩)),(4,.pointer (some ⟨w1.heap.size,0,none⟩)),(5,.slice an aK.length cn),(6,.slice ae (cT exprs).length ce),(7,.pointer (some ⟨w7.heap.size,0,none⟩)),(8,.int .i64 ((k:Int)-1))]) (λk w'=>aj [w7.heap.size] w9 w'∧k<=q.1.length∧∃a n c,aJ w' w7.heap.size [str (nest (q.1.drop k) q.2.1).au.aw,.slice a n c].toArray 74∧bB (w7.heap.size::((gn.toList++(ge.toList++(w1.heap.size::E)))++G2)) w' (.agg #[str (nest (q.1.drop k) q.2.1).au.aw,.slice a n c]) (nest (q.1.drop k) q.2.1).au) (λk=>k) q.1.length (⟨rfl,rfl,rfl,rfl,rfl,congrArg (λz:Nat=>Value.int .i64 ((z:Int)-1)) oF⟩) (⟨aj.refl _ _,lR _,a9,n9,c9,by rw[List.drop_length];exact cM,by rw[List.drop_length];exact pe⟩) λgg cu fo hI=>?_
 obtain⟨iR,hk,a7,n7,c7,cM,pe⟩:=hI
 have NR:b≠w7.heap.size:=(by have:=IJ;omega)
 have bg:=bg.aF iR (by simpa using NR)
 have hS:=hS.aD iR (List.mem_cons_self ..)
 have pW:=pW.since iR (λx hx=>.inr (by rw[List.mem_singleton.1 hx];exact IJ.2))
 refine W ?_
 refine zc rfl (λh1=>?_) (λh1=>?_)
 have aQ:∃k,gg=k+1:=⟨gg-1,om⟩
 obtain⟨k,rfl⟩:=aQ
 have hi:((k+1:Nat):Int)-1=(k:Int):=by omega
 rw[hi]
 obtain⟨bn,capn,e1,o3⟩:=hS.na.agh om
 cases e1
 obtain⟨be,cape,e2,oC⟩:=hS.ex.form om
 cases e2
 have hcN:=hS.na.NH (i:=k) om
 obtain⟨pa,pc,hcE,NS⟩:=hS.ex.NH (i:=k) om
 refine WZ ?_
 apply uZ dj 19 (rA 38 19) (rA 38 19) [[],[],[1],[2],[3],[],[4,5],[6],[7],[],[9],[10],[11],[],[12,13],[14],[],[0,8,15,16],[17]] [It.v _,It.v _,It.v _,It.v _,It.v _,It.v _,It.v _,It.v _,It.v _,It.v _,It.v _,It.v _,It.v _,It.v _,It.v _,It.v _,It.v _,It.p (fun(v:Value) (ww:World)=>∃bb,v= .slice (some ⟨bb,0,none⟩) 4 4∧eM (w7.heap.size::((gn.toList++(ge.toList++(w1.heap.size::E)))++G2)) ww v [bJ fW,bJ (bX (q.1.map Prod.fst) k),(nth (q.1.map λp=>p.2.au) k),(nest (q.1.drop (k+1)) q.2.1).au]),It.p (fun(v:Value) (ww:World)=>∃a n c,v= .agg #[str [],.slice a n c]∧bB (w7.heap.size::((gn.toList++(ge.toList++(w1.heap.size::E)))++G2)) ww v (.mk [] [bJ fW,bJ (bX (q.1.map Prod.fst) k),(nth (q.1.map λp=>p.2.au) k),(nest (q.1.drop (k+1)) q.2.1).au]))] de (by exact⟨λv w w' ⟨bb,e,h⟩ k=>⟨bb,e,h.ext k⟩,λv w w' ⟨a,n,c,e,h⟩ k=>⟨a,n,c,e,h.ext k⟩,trivial⟩)
 intro wd aC
 refine vk aC (λx eD dd=>?_) ?_
 refine aA (AK _ eD) ?_
 rintro _ fA ⟨rfl,di⟩
 have EM:=di.size
 exact pk di
 refine vc (λ_ _ _=>WZ pv) ?_
 refine vk aC (λx eD dd=>?_) ?_
 refine WZ ?_
 exact pv
 refine vc (λ_ _ _=>WZ pv) ?_
 refine vk aC (λx eD dd=>?_) ?_
 have bg:=bg.ext dd
 refine WZ ?_
 exact pv
 refine vc (λ_ _ _=>WZ pv) ?_
 refine VA ?_
 refine vk aC (λx eD dd=>?_) ?_
 refine aA (AK _ eD) ?_
 rintro _ fA ⟨rfl,di⟩
 have EM:=di.size
 exact pk di
 refine vc (λ_ _ _=>WZ pv) ?_
 refine vk aC (λx eD dd=>?_) ?_
 refine WZ ?_
 exact pv
 refine vc (λ_ _ _=>WZ pv) ?_
 refine vk aC (λx eD dd=>?_) ?_
 have bg:=bg.ext dd
 refine WZ ?_
 exact pv
 refine vc (λ_ _ _=>WZ pv) ?_
 refine VA ?_
 refine vk aC (λx eD dd=>?_) ?_
 refine cN dd pe hS NS λpe hS NS=>?_
 have cR:=hS.cC
 refine sH [.tmp 38,.tmp 46,.tmp 53,.tmp 54] [[str fW,.slice none 0 0],[str (bX (q.1.map Prod.fst) k),.slice none 0 0],[str (nth (q.1.map λp=>p.2.au) k).aw,.slice pa (nth (q.1.map λp=>p.2.au) k).ak.length pc],[str (nest (q.1.drop (k+1)) q.2.1).au.aw,.slice a7 n7 c7]] cz aL rfl rfl rfl rfl rfl rfl rfl rfl rfl λfA di Cx aoT=>?_
 exact pf di (⟨_,rfl,agt Cx (λhx=>by have:=cR _ hx;omega) (kU oH) (kU oH) (NS.ext di) (pe.ext di)⟩)
 refine vk aC (λx eD dd=>?_) ?_
 intro jC d17
 obtain⟨bb,rY,J2⟩:=d17
 refine aA (ago jC _ _ _ rY eD) ?_
 rintro _ fA ⟨rfl,di⟩
 have EM:=di.size
 have J2:=eM.ext J2 di
 rw[rY] at J2
 exact pf di (⟨_,_,_,rfl,kU J2⟩)
 exact trivial
 intro x ou lM
 intro jC d17
 intro xl d18
 refine bI lM iR cM λiR cM=>?_
 change OW _ _ _ _ _ (bo (bj _ x _) (zZ 38 [_,_,_,_,_,_,_,_,_,_,_,_,_,_,_,_,_,_,_])) _
 obtain⟨a8,n8,c8,vH,J3⟩:=d18
 subst vH
 have iS:=agq (bs:=q.1) (e:=q.2.1) (k:=k) om
 rw[<-agr (e:=q.2.1) (show k<q.1.length by omega),<-ags (e:=q.2.1) (show k<q.1.length by omega)] at iS
 rw[<-iS] at J3
 have Vc:(nest (q.1.drop k) q.2.1).au.aw=[]:=by rw[iS];rfl
 refine cJ aL rfl rfl rfl cM rfl λlg kP cM df=>?_
 have iR:=iR.trans kP
 have J3:=J3.aD kP sm
 refine W ?_
 exact⟨k,⟨rfl,rfl,rfl,rfl,rfl,rfl⟩,⟨iR,om,a8,n8,c8,by rw[Vc];exact cM,by rw[Vc];exact J3⟩,om⟩
 have h0:gg=0:=by omega
 subst h0
 have A2:=hS
 have CP:=bg
 have Hk:=pW
 refine W ?_
 refine gd (o:=2) mu rfl rfl rfl bg rfl λeD dd bg df=>?_
 have ma:=dd
 have cM:=cM.aF dd (by simpa using λe=>NR e.symm)
 have pe:=pe.aD dd (by intro x hx;simp at hx;subst hx;simp[A2.mem.2 (.inl rfl)])
 refine W ?_
 refine gd (o:=3) DW rfl rfl rfl bg rfl λfA di bg df=>?_
 have ma:=ma.trans di
 have cM:=cM.aF di (by simpa using λe=>NR e.symm)
 have pe:=pe.aD di (by intro x hx;simp at hx;subst hx;simp[A2.mem.2 (.inl rfl)])
 have agA:aj [b] w2 fA:=Hk.trans ma
 have aG:=GX.aF agA (by simpa using J1)
 obtain⟨hS,agB⟩:=CQ.closed A2.drop (CQ.na.aF Hk (λx hx hy=>(xj x (by simp[hx])).2 (by simpa using hy))) (CQ.ex.aF (Fr.of Hk (by intro x hx;simp at hx;subst hx;simp[nM])) Hk (λx hx hy=>(sU x hx).2.1 (by simpa using hy))) ⟨Hk.mono (by intro x hx;simp at hx;subst hx;exact nM),λx hx=>(agx x hx).imp (λh=>by rw[h];exact nM) id⟩ ma
 have vI:bB ((w1.heap.size::E)++G) fA _ (nest (q.1.drop 0) q.2.1).au:=pe.gP (λx hx=>by rcases mA.1 hx with h|h;(·exact mK _ (by rcases mC.1 h with h|h<;>simp[h]));(·rcases CQ.mem.1 h with h|h|h;(·rw[h];simp[A2.mem.2 (.inl rfl)]);(·simp[h]);(·simp[h])))
 refine W ?_
 refine cJ aL rfl rfl rfl aG rfl λjB gv aG df=>?_
 have bg:=bg.aF gv (by simpa using λe=>J1 e.symm)
 have hS:=(hS.aD gv sm).drop
 have vI:=vI.aD gv sm
 have x4:=mG.size
 have hFr:Fr G w G jB:=⟨((aj.any mG).trans agB.aF).since gv (λx hx=>.inr (by simp at hx;omega)),λx hx=>.inl hx⟩
 refine W ?_
 exact⟨[_],ga eV aL rfl aG rfl,⟨(by have h9:=bB.gP vI (L':=E++G) (λx hx=>mK _ hx);unfold mv;rw[<-hq];exact h9),by rw[<-hq];exact⟨_,_,_,_,_,bg,hS⟩⟩,hFr⟩
def gw (ag:List ai) (e:Ex) (n:Nat):Nat->Bs×List Ex×Nat
 |0=>([],[],n)
 |k+1=>((gw ag e n k).1++(dB ag (aY ag (fL e k) (gw ag e n k).2.2)).1,(gw ag e n k).2.1++[(dB ag (aY ag (fL e k) (gw ag e n k).2.2)).2.1],(dB ag (aY ag (fL e k) (gw ag e n k).2.2)).2.2)
theorem NT (ag:List ai) (e:Ex) (n:Nat):∀k,(gw ag e n k).2.1.length=k
 |0=>rfl
 |k+1=>by simp[gw,NT ag e n k]
theorem Vd (ag:List ai) (e:Ex) (n:Nat):(dB ag (aY ag e n)).1.length<=2*e.n:=by
 have:=JV ag e n
 unfold dB
 split
 ·omega
 ·simp;omega
theorem Ve (ag:List ai) (e:Ex) (n:Nat):(dB ag (aY ag e n)).2.2<=n+e.n*(2*(ag.length+2)):=by
 have h1:=ic ag e n
 have h2:=qk ag (aY ag e n)
 omega
theorem Vf (ag:List ai) (e:Ex) (n:Nat):∀k,k<=e.kids.length->(gw ag e n k).1.length<=2*kN e k∧(gw ag e n k).2.2<=n+kN e k*(2*(ag.length+2))
 |0,_=>by simp[gw,kN]
 |k+1,hk=>by
  obtain⟨h1,h2⟩:=Vf ag e n k om
  have h3:=Vd ag (fL e k) (gw ag e n k).2.2
  have h4:=Ve ag (fL e k) (gw ag e n k).2.2
  rw[yv om,Nat.add_mul]
  simp only[gw,lA]
  constructor<;>omega
theorem agD (ag:List ai) (e:Ex) (n:Nat) {aK:List ai} {exprs:List aq} (hB:yE ag e n aK exprs) (hk:k<e.kids.length):yE ag (fL e k) (gw ag e n k).2.2 (aK++(gw ag e n k).1.map Prod.fst) (exprs++(gw ag e n k).1.map λp=>p.2.au):=by
 obtain⟨h1,h2,h3,h4⟩:=hB
 obtain⟨h5,h6⟩:=Vf ag e n k om
 have h7:=yv hk
 have h8:=Cw e (k+1)
 have h9:=Nat.mul_le_mul_right (2*(ag.length+2)) h8
 rw[h7,Nat.add_mul] at h9
 refine⟨by omega,?_,?_,h4⟩
 ·simp only[lA,List.length_map];omega
 ·simp only[lA,List.length_map];omega
theorem agE (ag:List ai) (n:Nat) (ha:e.iv=false) (h1:e.head≠fW) (h2:e.head≠gF) (h3:e.head≠gj):
  (aY ag e n).1=(gw ag e n e.kids.length).1∧(aY ag e n).2.1.au= .mk [] ([bJ e.head]++(gw ag e n e.kids.length).2.1.map Ex.au)∧(aY ag e n).2.2=(gw ag e n e.kids.length).2.2:=by
 cases e with
 |«at» s=>cases ha
 |lt x a b=>exact absurd rfl h1
 |fn f x A B b=>exact absurd rfl h2
 |ite a b c=>exact absurd rfl h3
 |un h a=>exact⟨rfl,rfl,rfl⟩
 |bi h a b=>exact⟨rfl,rfl,rfl⟩
theorem agF (ha:e.iv=false) (h1:e.head≠fW) (h2:e.head≠gF):e.au.ak=lI [bJ e.head] [] e:=by
 rw[UK ha (not_lt h1) h2]
 simp[lI]
theorem Vg (ha:e.iv=false) (h1:e.head≠fW) (h2:e.head≠gF):e.from=1:=by
 cases e with
 |«at» s=>cases ha
 |lt x a b=>exact absurd rfl h1
 |fn f x A B b=>exact absurd rfl h2
 |_=>rfl
theorem yE.sub {ag:List ai} {e':Ex} {n':Nat} {aK names':List ai} {exprs exprs':List aq} (h:yE ag e n aK exprs) (m:Nat) (h1:m+e'.n<=e.n) (h2:n'<=n+m*(2*(ag.length+2))) (h3:names'.length<=aK.length+4*m) (h4:exprs'.length<=exprs.length+4*m):yE ag e' n' names' exprs':=by
 obtain⟨a1,a2,a3,a4⟩:=h
 have h9:=Nat.mul_le_mul_right (2*(ag.length+2)) h1
 rw[Nat.add_mul] at h9
 exact⟨by omega,om,om,a4⟩
theorem M5.nd {τ:yg} {E:List Nat} {ag aK:List ai} {exprs:List aq} (h:M5 τ E G w b ag n aK exprs):(E++G).Nodup:=by
 obtain⟨_,_,_,_,_,_,h2⟩:=h;exact h2.nd
theorem M5.more {τ:yg} {E:List Nat} {w':World} {ag aK:List ai} {exprs:List aq} (h:M5 τ E G w b ag n aK exprs) (k:aj [] w w') (h1:w.heap.size<=x) (h2:x<w'.heap.size):M5 τ (x::E) G w' b ag n aK exprs:=by
 obtain⟨vt,vn,vex,gn,ge,hb,h⟩:=h
 have hF:∀y,y∈(x::E)++G->y∈E++G∨w.heap.size<=y:=λy hy=>by
  rcases mC.1 (show y∈x::(E++G) from hy) with h3|h3
  ·right;omega
  ·exact .inl h3
 refine⟨vt,vn,vex,gn,ge,hb.ext k,(h.ta.fresh hF).ext k,h.na.ext k,(h.ex.sub hF).any k,h.eG,?_,λy hy=>?_⟩
 ·show(x::(E++G)).Nodup
  rw[List.nodup_cons]
  exact⟨λhx=>by have:=h.cC _ hx;omega,h.nd⟩
 ·rcases mC.1 (show y∈x::(E++G) from hy) with h3|h3
  ·omega
  ·have:=h.cC y h3;have:=k.size;omega
structure jX (E G:List Nat) (w0 w:World) (G0:List Nat) (b:Nat) (ag:List ai) (n:Nat) (aK:List ai) (exprs:List aq) (gb b4:Nat) (vP:Value) (ts:List aq):Prop where
 m:M5 t5 (gb::b4::E) G w b ag n aK exprs
 own:dH ((gb::b4::E)++G) w 74 2 vP (some gb) (cT ts)
 bx:aJ w b4 [str [],.slice none 0 0].toArray 74
 fr:Fr G0 w0 G w
 low:w0.heap.size<=gb∧w0.heap.size<=b4
section
variable {E G G0 G':List Nat} {w0 w w':World} {b:Nat} {ag:List ai} {n n':Nat} {aK names':List ai} {exprs exprs':List aq} {gb b4:Nat} {vP:Value} {ts ts':List aq}
theorem jX.ext (h:jX E G w0 w G0 b ag n aK exprs gb b4 vP ts) (k:aj [] w w'):jX E G w0 w' G0 b ag n aK exprs gb b4 vP ts:=⟨h.m.ext k,h.own.ext k,h.bx.ext k,h.fr.ext k,h.low⟩
theorem jX.call (h:jX E G w0 w G0 b ag n aK exprs gb b4 vP ts) (hm:M5 t5 (gb::b4::E) G' w' b ag n' names' exprs') (k:Fr G w G' w'):jX E G' w0 w' G0 b ag n' names' exprs' gb b4 vP ts:=
 ⟨hm,h.own.aF (k.in _) k.aF (λx hx=>by simp at hx;subst hx;exact h.m.nE sm),h.bx.aF k.aF (h.m.nE sm),h.fr.go k,h.low⟩
theorem jX.ne (h:jX E G w0 w G0 b ag n aK exprs gb b4 vP ts):gb∉b4::(E++G)∧b4∉E++G:=by
 have h1:(gb::b4::(E++G)).Nodup:=h.m.nd
 rw[List.nodup_cons,List.nodup_cons] at h1
 exact⟨h1.1,h1.2.1⟩
theorem jX.store (h:jX E G w0 w G0 b ag n aK exprs gb b4 vP ts) (k:aj [gb] w w') (ho:dH ((gb::b4::E)++G) w' 74 2 vP (some gb) (cT ts')):jX E G w0 w' G0 b ag n aK exprs gb b4 vP ts':=
 ⟨h.m.aD k sm,ho,h.bx.aF k (by simp;intro e;exact h.ne.1 (by simp[e])),⟨h.fr.aF.since k (by intro x hx;simp at hx;subst hx;exact .inr h.low.1),h.fr.mem⟩,h.low⟩
theorem jX.cC (h:jX E G w0 w G0 b ag n aK exprs gb b4 vP ts):eO ((gb::b4::E)++G) w:=h.m.bG.2.2
theorem jX.ja (h:jX E G w0 w G0 b ag n aK exprs gb b4 vP ts):∀x,x∈[gb]->x∈(gb::b4::E)++G:=by simp
theorem jX.fin (h:jX E G w0 w G0 b ag n aK exprs gb b4 vP ts) (k:aj [b4] w w'):bB (E++G) w' (.agg #[str [],vP]) (.mk [] ts)∧M5 t5 E G w' b ag n aK exprs∧Fr G0 w0 G w':=by
 have h1:bQ (b4::(E++G)) w vP (.sl 2 (cT ts)):=h.own.rep (λx hx=>.inl (by simpa using hx)) (by simpa using h.ne.1)
 have h2:bB (b4::(E++G)) w (.agg #[str [],vP]) (.mk [] ts):=kU h1
 exact⟨(h2.aD k sm).gP (λx hx=>mK _ hx),(h.m.drop.aD k sm).drop,⟨h.fr.aF.since k (by intro x hx;simp at hx;subst hx;exact .inr h.low.2),h.fr.mem⟩⟩
end
theorem agG:∀(m:Nat) (e:Ex),e.n<=m->e.ok->NI e:=by
 intro m
 induction m with
 |zero=>intro e h;have:=e.pos;omega
 |succ m ih=>
  intro e hm ba ag n aK exprs hB E F b v w hM cO
  have hv:=cO
  obtain⟨a,np,c,rfl,hn,JK⟩:=cU hv
  subst hn
  have JX:=ic ag e n
  have JB:=GP e
  have hK:=aj.refl [] w
  have av:=hM
  have hT:=cO
  have hMl:=hM.bG
  obtain⟨Ji,NK,NL,JW⟩:=id hB
  refine kW [.cell 4 74] 114 Tryz.func218 rfl abU rfl rfl rfl ?_
  refine zr<|eH rfl λw1 aI cQ dk=>cN aI hK av hT λhK av hT=>?_
  refine dy aL rfl rfl rfl λw2 az aG dC=>?_
  have hK:=hK.grow;have hK:=hK.ext az;have av:=av.alloc az dC;have hT:=hT.grow;have hT:=hT.ext az;have cQ:=cQ.grow;have cQ:=cQ.ext az
  refine W ?_
  refine zc rfl (λh1=>?_) (λh1=>?_)
  have aQ:∃x,e= .at x:=(by have ha:=(vD ba).1 h1;cases e<;>first|exact⟨_,rfl⟩|cases ha)
  obtain⟨x,rfl⟩:=aQ
  refine W ?_
  refine cJ aL rfl rfl rfl aG rfl λw3 aH aG gJ=>?_
  have hK:=hK.aD aH sx;have av:=av.aD aH sx;have hT:=hT.aD aH sx
  refine W ?_
  exact⟨[_],ga eV aL rfl aG rfl,by show JU ag E F b aK exprs w ([],.at x,n) _ _;exact⟨F,⟨hT.gP (λy hy=>mK _ hy),by simpa using av.drop⟩,Fr.of hK sm⟩⟩
  have eJ:e.iv=false:=(by cases hh:e.iv;rfl;exact absurd ((vD ba).2 hh) h1)
  obtain⟨GQ,ob,je,qz⟩:=Ex.ak eJ
  obtain⟨jn,Ew,Ey⟩:=GO ba eJ
  have mG:=hK
  have lO:=av
  have Hj:=hT
  have NU:=cQ
  have GX:=aG
  have afV:=dk
  have afW:=dC
  have A3:eM (w1.heap.size::(E++F)) w2 (.slice a e.au.ak.length c) e.au.ak:=(by obtain⟨a9,n9,c9,e9,A4,A3⟩:=cU Hj;cases e9;exact A3)
  have NV:=lO.bG.2.2
  refine W ?_
  refine zI w2.heap.size (w1.heap.size::(E++F)) cz aL rfl rfl (lR _) (λx hx=>NV x hx) λw3 aH JL wX=>?_
  have jH:=aH
  refine bI aH cQ aG λcQ aG=>?_
  refine zm<|wP cz aL rfl rfl rfl rfl rfl rfl wX (eM.ext (eM.grow A3) aH) (UQ _) (by rw[ia];simp;omega) λa4 fR g4 w4 ku aO=>?_
  have jH:=wX.since jH aO
  have hK:=mG.trans jH
  have cQ:=NU.ext jH
  have aG:=GX.ext jH
  have fE:=jH.size
  rw[show([]:List (List C)).length+(cT e.au.ak).length=e.au.ak.length from by rw[ia];simp] at ku⊢
  rw[List.nil_append] at ku
  obtain⟨gb,e4,e5⟩:=ku.form (by rw[ia];exact jn)
  subst e4
  subst e5
  have fG:gb<w4.heap.size:=ku.lt gb sm
  have EE:w2.heap.size<=gb:=ku.low gb rfl
  have hS:dH (gb::(w1.heap.size::(E++F))) w4 74 2 (.slice (some ⟨gb,0,none⟩) e.au.ak.length fR) (some gb) (cT e.au.ak):=(let⟨xs,hr⟩:=ku.own;⟨⟨xs,hr.own,hr.rep⟩,hr.row⟩)
  have av:M5 t5 (gb::w1.heap.size::E) F w4 b ag n aK exprs:=lO.more jH EE fG
  refine js (LR _ _ _ _) rfl rfl<|dy aL rfl rfl rfl λw5 aN bL ig=>?_
  have hK:=hK.grow;have hK:=hK.ext aN;have aG:=aG.grow;have aG:=aG.ext aN;have hS:=hS.grow;have hS:=hS.ext aN;have jH:=jH.grow;have jH:=jH.ext aN
  refine cJ aL rfl rfl rfl bL rfl λw6 bN bL kI=>?_
  have hK:=hK.aD bN sx;have aG:=aG.aD bN sx;have hS:=hS.aD bN sx;have jH:=jH.aD bN sx
  refine W ?_
  have jb:=hK.size
  have jH:aj [] w2 w6:=jH
  have av:M5 t5 (gb::w1.heap.size::E) F w6 b ag n aK exprs:=lO.more jH EE (by have:=bL.lt;omega)
  have hS:dH ((gb::w1.heap.size::E)++F) w6 74 2 _ _ _:=dH.sub hS (λx hx=>.inl (mK _ hx))
  have UR:=av.bG.2.2
  have EF:Fr (w1.heap.size::(E++F)) w2 ((gb::w1.heap.size::E)++F) w6:=⟨jH.any,λx hx=>by rcases mC.1 (show x∈gb::(w1.heap.size::(E++F)) from hx) with h|h;(·right;omega);(·exact .inl h)⟩
  have aP:=eM.go A3 EF
  have eK:∀q,w.heap.size<=q->q≠gb->q≠w1.heap.size->q∉((gb::w1.heap.size::E)++F):=(by intro q h1 h2 h3 hx;rcases mC.1 (show q∈gb::(w1.heap.size::(E++F)) from hx) with h|h;(·exact h2 h);(·rcases mC.1 h with h|h;(·exact h3 h);(·have:=hMl.2.2 q h;omega)))
  have bL:dM ((gb::w1.heap.size::E)++F) w6 w4.heap.size _ _:=⟨bL,eK _ om om om⟩
  have aR:jX E F w w6 F b ag n aK exprs gb w1.heap.size (.slice (some ⟨gb,0,none⟩) e.au.ak.length fR) e.au.ak:=⟨av,hS,aG,⟨hK.any,λx hx=>.inl hx⟩,om,om⟩
  obtain⟨b0,vv,x6,ya,e0,ub,jV⟩:=eW aP jn
  cases e0
  refine zi (i:=0) cz aL rfl rfl jn<|W ?_
  refine zc rfl (λh2=>?_) (λh2=>?_)
  obtain⟨nx,ea,eb,rfl⟩:=JI ba (je.symm.trans h2)
  have wY:(Ex.lt nx ea eb).n=2+ea.n+eb.n:=rfl
  have J4:aY ag (.lt nx ea eb) n=((aY ag ea n).1++(nx,(aY ag ea n).2.1)::(aY ag eb (aY ag ea n).2.2).1,(aY ag eb (aY ag ea n).2.2).2.1,(aY ag eb (aY ag ea n).2.2).2.2):=rfl
  have J6:=ic ag ea n
  have oN:=JV ag ea n
  have hBa:yE ag ea n aK exprs:=hB.sub 0 om om om om
  have aQ:∃q,q=aY ag ea n:=⟨_,rfl⟩
  obtain⟨q,hq⟩:=aQ
  rw[<-hq] at J4 J6 oN
  have JM:(Ex.lt nx ea eb).au.ak.length=4:=rfl
  have aP:eM ((w1.heap.size::E)++F) w6 _ _:=aP.gP (λx hx=>mK _ hx)
  have av:=aR.m.drop
  have aG:=aR.bx
  have hR:=aR.fr
  obtain⟨b1,eX,gA,gm,e1,bK,cI⟩:=eW aP (i:=1) om
  cases e1
  obtain⟨b2,lG,iA,iw,e2,bU,dI⟩:=eW aP (i:=2) om
  cases e2
  have dI:bB ((w1.heap.size::E)++F) w6 _ ea.au:=dI
  obtain⟨b3,AW,pP,pQ,e3,dO,dY⟩:=eW aP (i:=3) om
  cases e3
  have dY:bB ((w1.heap.size::E)++F) w6 _ eb.au:=dY
  refine zr<|zm<|zm<|zi (i:=2) cz aL rfl rfl ((show 2<4 from om))<|W ?_
  refine aA (ih ea om ba.2.1 ag n aK exprs hBa (w1.heap.size::E) F b _ w6 av dI) ?_
  rintro v29 w7 ⟨G1,⟨du,qC⟩,cP⟩
  rw[<-hq] at du qC
  obtain⟨a9,n9,c9,e9,_,_⟩:=cU du
  subst e9
  have jA:=hR.go cP
  have fp:=aj.refl [] w7
  have bK:=bK.go (cP.in _);have dO:=dO.go (cP.in _)
  have dY:=bB.go dY (cP.in _)
  have aG:=aG.aF cP.aF (av.nE sm)
  have av:=qC
  have Vh:=av.bG.2.2
  have aQ:∃x,x=aK++q.1.map Prod.fst:=⟨_,rfl⟩
  obtain⟨N1,CK⟩:=aQ
  have aQ:∃x,x=exprs++q.1.map λp=>p.2.au:=⟨_,rfl⟩
  obtain⟨X1,CL⟩:=aQ
  rw[<-CK,<-CL] at av
  have U6:N1.length=aK.length+q.1.length:=by rw[CK];simp
  have hXl:X1.length=exprs.length+q.1.length:=by rw[CL];simp
  have agJ:=aG
  have agK:=bK
  have agL:=dO
  have agM:=dY
  have agN:=du
  have agO:=av
  refine dy aL rfl rfl rfl λw8 cE cM ld=>?_
  have fp:=fp.grow;have fp:=fp.ext cE
  refine cJ aL rfl rfl rfl cM rfl λw9 aB cM df=>?_
  have fp:=fp.aD aB sx
  refine W ?_
  have A5:=jA.aF.size
  have fp:aj [] w7 w9:=fp
  have hR:=jA.ext fp
  have aG:=agJ.ext fp
  have bK:=agK.ext fp
  have dO:=agL.ext fp
  have dY:=agM.ext fp
  have du:=agN.ext fp
  have av:=agO.ext fp
  obtain⟨vt,vn,vex,gn,ge,bg,hS⟩:=av.open
  have bg:aJ w9 b [vt,.int .i64 (q.2.2:Int),vn,vex].toArray 190:=bg
  obtain⟨JZ,xi,xj,sU⟩:=hS.apart
  have CM:eO ((w1.heap.size::E)++G1) w9:=hS.cC
  have nM:b∈G1:=hS.mem.2 (.inl rfl)
  have oX:=cM.lt
  have cM:dM ((w1.heap.size::E)++G1) w9 _ _ _:=⟨cM,λhx=>by have:=Vh _ hx;omega⟩
  apply jF dj (((w1.heap.size::E)++G1)) 13 (rA 30 13) (rA 30 13) [[],[],[1],[2],[3],[],[5],[6],[7],[8],[4,9],[0],[11]] [Ie.v _,Ie.v _,Ie.v _,Ie.v _,Ie.w 0 vn,Ie.v _,Ie.v _,Ie.v _,Ie.v _,Ie.p (fun(G:List Nat) (v:Value) (ww:World)=>∃bb,v= .slice (some ⟨bb,0,none⟩) 1 1∧aJ ww bb [str nx].toArray 9∧bb∉G),Ie.e 1,Ie.v _,Ie.v _] [4,10] [fun(G:List Nat) (vs:List Value) (ww:World)=>G=(w1.heap.size::E)++G1∧aj [] w9 ww,fun(G:List Nat) (vs:List Value) (ww:World)=>G=(w1.heap.size::E)++G1∧aj [] w9 ww,fun(G:List Nat) (vs:List Value) (ww:World)=>∃G2 g2,G=(w1.heap.size::E)++G2∧aj gn.toList w9 ww∧iz t5 (w1.heap.size::E) G2 ww b vt (vs.getD 1 undef) vex g2 ge ag (N1++[nx]) X1∧Fr G1 w9 G2 ww] de rfl CM (by exact⟨λG v w G' w' ⟨bb,e,h,ho⟩ k=>⟨bb,e,(dM.go ⟨h,ho⟩ k).gX,(dM.go ⟨h,ho⟩ k).out⟩,trivial⟩) (by exact⟨λG vs w w' ⟨h1,h2⟩ k=>⟨h1,h2.ext k⟩,λG vs w w' ⟨h1,h2⟩ k=>⟨h1,h2.ext k⟩,λG vs w w' ⟨G2,g2,h1,h2,h3,h4⟩ k=>⟨G2,g2,h1,h2.ext k,h3.ext k,h4.ext k⟩,trivial⟩) (⟨rfl,aj.refl _ _⟩)
  refine FA ?_
  refine ve 0 (λx cu mO aS pV l9 hJ hlen=>?_) ?_
  have aW:=jh hlen
  subst aW
  obtain⟨bO,bP⟩:=hJ
  have xm:=bg.ext bP
  refine WZ ?_
  exact fw mO (Fr.refl _ _) l9 (⟨bO,bP⟩)
  refine FA ?_
  refine vf (λ_ _ _ _ _ _=>zi (i:=1) cz aL rfl rfl ((show 1<4 from om)) fv) ?_
  refine FA ?_
  refine vf (λx cu mO aS pV l9=>?_) ?_
  refine fc bh bf rfl rfl ?_
  intro eD dd yu vj
  exact ff dd (⟨_,rfl,(yu.o l9).gX,(yu.o l9).out⟩)
  refine ve 1 (λx cu mO aS pV l9 hJ hlen=>?_) ?_
  obtain⟨q0,aW⟩:=ji hlen
  subst aW
  intro v9 d9
  obtain⟨bb,e6,fH,_⟩:=d9
  subst e6
  obtain⟨bO,bP⟩:=hJ
  subst bO
  have J7:=hS.ext bP
  refine rV bh bf rfl rfl rfl rfl rfl rfl J7.na fH om λv9 g9 eD cZ aB eZ=>?_
  obtain⟨G2,fB,jq⟩:=J7.Tn cZ aB eZ
  exact fe _ (jq.in _) fB.cC (⟨G2,g9,rfl,bP.any.trans aB,fB,(Fr.of bP sm).go jq⟩)
  exact FZ
  intro x ot JN aS yB UT hJ hlen
  obtain⟨q0,q1,aW⟩:=k9 hlen
  subst aW
  intro v9 d9
  have cM:=cM.go yB;have dO:=dO.go yB;have dY:=dY.go yB;have du:=du.go yB
  change OW _ _ _ _ _ (bo (bj _ x _) (zZ 30 [_,_,_,_,_,_,_,_,_,_,_,_,_])) _
  obtain⟨G2,g9,bO,AV,fB,jq⟩:=hJ
  subst bO
  obtain⟨o9,pd,Hh⟩:=jR fB.na
  have e8:q1=_:=Hh
  subst e8
  have bg:=bg.aF AV (λh=>(xj b h).2 rfl)
  have aG:=aG.aF AV (λh=>(xj _ h).1 sm)
  have xk:b∈G2:=fB.mem.2 (.inl rfl)
  have hR:=hR.go jq
  refine gd (o:=2) mu rfl rfl rfl bg rfl λou lM bg df=>?_
  have hS:=fB.aF lM sm
  have aG:=aG.aF lM (by simp;intro e;subst e;exact xi sm)
  have hR:=hR.aD lM (by simpa using xk);have cM:=cM.aD lM (by intro x hx;simp at hx;subst hx;simp[xk]);have dO:=dO.aD lM (by intro x hx;simp at hx;subst hx;simp[xk]);have du:=du.aD lM (by intro x hx;simp at hx;subst hx;simp[xk]);have dY:=dY.aD lM (by intro x hx;simp at hx;subst hx;simp[xk])
  refine W ?_
  obtain⟨ae,ce,e5⟩:=hS.ex.len
  subst e5
  have bg:aJ ou b [vt,(.int .i64 (q.2.2:Int)),(.slice o9 (N1++[nx]).length pd),(.slice ae (cT X1).length ce)].toArray 190:=bg
  have CM:eO ((w1.heap.size::E)++G2) ou:=hS.cC
  have dX:b∈G2:=xk
  obtain⟨JZ,xi,xj,sU⟩:=hS.apart
  have iq:=bg.lt
  apply SK dj (((w1.heap.size::E)++G2)) 13 (rA 43 9++[100009,52,53,100012]) (rA 43 9++[100009,52,53,100012]) [[],[0],[1],[2],[],[3],[],[3,6],[5,7],[4,8],[0],[10],[7,11]] [Iu.v _,Iu.v _,Iu.v _,Iu.w 0 ((.slice ae (cT X1).length ce)),Iu.v _,Iu.v _,Iu.p (fun(G:List Nat) (v:Value) (ww:World)=>∃bb,v= .slice (some ⟨bb,0,none⟩) 1 1∧dM G ww bb [str [],.slice none 0 0].toArray 74),Iu.e 1,Iu.d (fun(vs:List Value)=>U2 (vs.getD 1 undef) ((cT X1).length*2)),Iu.u,Iu.v _,Iu.v _,Iu.u] [3,7] [fun(G:List Nat) (vs:List Value) (ww:World)=>G=((w1.heap.size::E)++G2)∧aJ ww b [vt,(.int .i64 (q.2.2:Int)),(.slice o9 (N1++[nx]).length pd),(.slice ae (cT X1).length ce)].toArray 190∧aj [] ou ww,fun(G:List Nat) (vs:List Value) (ww:World)=>G=((w1.heap.size::E)++G2)∧aJ ww b [vt,(.int .i64 (q.2.2:Int)),(.slice o9 (N1++[nx]).length pd),(.slice ae (cT X1).length ce)].toArray 190∧aj [] ou ww,fun(G:List Nat) (vs:List Value) (ww:World)=>J5 t5 (w1.heap.size::E) G2 ou b vt (.int .i64 (q.2.2:Int)) (.slice o9 (N1++[nx]).length pd) (.slice ae (cT X1).length ce) ge X1 q.2.1.au false false G (vs.getD 1 undef) ww] (fun(S:Nat->Bool) (G:List Nat) (vs:List Value) (ww:World)=>J5 t5 (w1.heap.size::E) G2 ou b vt (.int .i64 (q.2.2:Int)) (.slice o9 (N1++[nx]).length pd) (.slice ae (cT X1).length ce) ge X1 q.2.1.au (S 9) (S 12) G (vs.getD 1 undef) ww) de rfl CM (by exact⟨λG v w G' w' ⟨bb,e,h⟩ k=>⟨bb,e,h.go k⟩,trivial⟩) (by exact⟨λG vs w w' ⟨h1,h2,h3⟩ k=>⟨h1,h2.ext k,h3.ext k⟩,λG vs w w' ⟨h1,h2,h3⟩ k=>⟨h1,h2.ext k,h3.ext k⟩,λG vs w w' h k=>h.ext k,trivial⟩) (by exact λS G vs w w' h k=>h.ext k) (⟨rfl,bg,aj.refl _ _⟩) (by exact λ_ _ _ h _=>h)
  refine uf (λx lg pX aS rZ qD=>?_) ?_
  refine WZ ?_
  exact uv
  refine uf (λx lg pX aS rZ qD=>?_) ?_
  refine WZ ?_
  exact uv
  refine uf (λx lg pX aS rZ qD=>?_) ?_
  refine WZ ?_
  exact uv
  refine ue 0 (λx lg pX aS rZ qD hJ hlen=>?_) ?_
  have aW:=jh hlen
  subst aW
  obtain⟨bO,bg,bP⟩:=hJ
  refine WZ ?_
  exact uW pX (Fr.refl _ _) qD (⟨bO,bg,bP⟩)
  refine uf (λx lg pX aS rZ qD=>?_) ?_
  have cM:=cM.go rZ
  refine WZ ?_
  exact uv
  refine uf (λx lg pX aS rZ qD=>?_) ?_
  refine WZ ?_
  exact uv
  refine uf (λx lg pX aS rZ qD=>?_) ?_
  refine fc cz aL rfl rfl λA6 pY agP agQ=>?_
  exact up pY (⟨_,rfl,agP.o qD⟩)
  refine ue 1 (λx lg pX aS rZ qD hJ hlen=>?_) ?_
  obtain⟨q0,aW⟩:=ji hlen
  subst aW
  intro v6 d6
  obtain⟨bb,e6,fH⟩:=d6
  subst e6
  obtain⟨bO,bg,bP⟩:=hJ
  subst bO
  refine U3 cz aL rfl rfl rfl rfl rfl rfl (hS.ext bP).ex ‹_› (λx hx=>mR _ (hS.mem.2 (by simp[hx]))) fH.gX om λv9 g9 A6 cZ aB eZ cP eu=>?_
  exact uE _ cP eu (⟨bg.aF aB (λh=>(sU b h).2.1 rfl),eu,bP.any.trans (aB.mono (λx hx=>mK _ hx)),g9,rfl,cZ,eZ.imp id (λh=>⟨_,h,bP.size⟩)⟩)
  refine ud (λx lg pX aS S rZ qD hJ hlen=>?_) ?_
  obtain⟨q0,q1,aW⟩:=k9 hlen
  subst aW
  obtain⟨bb,cap,e1,rX,rH,jU,hO,vB⟩:=J5.form hJ
  have e2:q1=_:=e1
  subst e2
  refine zi cz aL rfl rfl (by rw[ia];omega) ?_
  exact uD (aj.refl _ _) rfl
  refine uu (λx lg pX aS S rZ qD hJ CN hlen=>?_) ?_
  obtain⟨q0,q1,aW⟩:=k9 hlen
  subst aW
  have du:=du.go rZ
  have hJ:J5 t5 (w1.heap.size::E) G2 ou b vt (.int .i64 (q.2.2:Int)) (.slice o9 (N1++[nx]).length pd) (.slice ae (cT X1).length ce) ge X1 q.2.1.au (S 9) (S 12) pX q1 lg:=hJ
  rw[CN] at hJ
  obtain⟨bb,cap,e1,rX,rH,jU,hO,vB⟩:=J5.form hJ
  subst e1
  refine sQ (i:=(cT X1).length) (vs:=[str q.2.1.au.aw,.slice a9 n9 c9]) (row:=q.2.1.au.enc) aL rfl rfl rfl rfl (Nat.zero_add _) hO ‹_› rX (by rw[ia,ia];simp) rfl (oG _) du.kj λA6 pY rR dv=>?_
  rw[sS,ia] at dv
  exact uU pX (Fr.of pY (by simpa using rX)) ((λx hx=>lL (qD x hx) (aj.size pY))) (J5.fill hJ jU (by rintro rfl;rcases rH with h|h;(·exact(sU _ h).2.1 rfl);(·omega)) rH vB pY (by have e3:(X1++[if false=true then q.2.1.au else aq.mk [] []]).set X1.length q.2.1.au=X1++[q.2.1.au]:=sm;rw[e3] at dv;exact dv))
  refine uf (λx lg pX aS rZ qD=>?_) ?_
  refine WZ ?_
  exact uv
  refine uf (λx lg pX aS rZ qD=>?_) ?_
  refine WZ ?_
  exact uv
  refine uu (λx lg pX aS S rZ qD hJ CN hlen=>?_) ?_
  obtain⟨q0,q1,aW⟩:=k9 hlen
  subst aW
  have hJ:J5 t5 (w1.heap.size::E) G2 ou b vt (.int .i64 (q.2.2:Int)) (.slice o9 (N1++[nx]).length pd) (.slice ae (cT X1).length ce) ge X1 q.2.1.au (S 9) (S 12) pX q1 lg:=hJ
  rw[CN] at hJ
  obtain⟨bb,cap,e1,rX,rH,Hi,hO,vB⟩:=J5.form hJ
  subst e1
  have NO:=hJ.box
  refine gd (o:=3) DW rfl rfl rfl NO rfl λA6 pY CP rR=>?_
  exact uU pX (Fr.of pY (by rw[Hi];simp[dX])) ((λx hx=>lL (qD x hx) (aj.size pY))) (J5.field hJ pY CP (λg9 _ eZ hx=>by rcases eZ with h|⟨y,h,hy⟩;(·rw[h] at hx;exact(sU _ hx).2.1 rfl);(·rw[h] at hx;simp at hx;omega)) (by rw[Hi];simp[dX]))
  exact trivial
  intro x kF l7 aS jz mH hJ hlen
  obtain⟨q0,q1,aW⟩:=k9 hlen
  subst aW
  intro v6 d6
  intro v9
  intro v12
  have dO:=dO.go jz;have dY:=dY.go jz
  change OW _ _ _ _ [] (bo (bj _ x _) (zZ 43 [_,_,_,_,_,_,_,_,_]++[(100009,_),(52,_),(53,_),(100012,_)])) _
  have hJ:J5 t5 (w1.heap.size::E) G2 ou b vt (.int .i64 (q.2.2:Int)) (.slice o9 (N1++[nx]).length pd) (.slice ae (cT X1).length ce) ge X1 q.2.1.au true true l7 q1 kF:=hJ
  obtain⟨g9,jU,cZ,eZ⟩:=hJ.ex
  subst jU
  obtain⟨G3,yF,jo,Va⟩:=hS.AY cZ hJ.aF eZ
  have aG:=aG.aF hJ.aF (by intro hx;rcases mC.1 hx with h|h;(·exact xi (by simp[h]));(·exact(sU _ h).1 sm))
  have hR:=hR.go jo
  have bg:=hJ.box
  have Vi:∀x,x∈(w1.heap.size::E)++G3->x∈ge.toList++(g9.toList++((w1.heap.size::E)++G2)):=(λx hx=>by rcases mA.1 hx with h|h;(·exact mR _ (mR _ (List.mem_append_left _ h)));(·exact Va x h))
  have dY:=dY.gP Vi
  have dO:fy ((w1.heap.size::E)++G3) kF _ _ _:=⟨dO.cells,dO.lt,λhx=>dO.out (Vi _ hx)⟩
  have av:M5 t5 (w1.heap.size::E) G3 kF b ag q.2.2 (N1++[nx]) (X1++[q.2.1.au]):=⟨_,_,_,_,_,bg,yF⟩
  refine WI ?_
  refine zi (i:=3) cz aL rfl rfl ((show 3<4 from om))<|W ?_
  refine aA (ih eb om ba.2.2 ag q.2.2 (N1++[nx]) (X1++[q.2.1.au]) (hB.sub ea.n om om so so) (w1.heap.size::E) G3 b _ kF av dY) ?_
  rintro NW qB ⟨G4,⟨mP,qC⟩,cP⟩
  obtain⟨a5,n5,c5,e5,_,_⟩:=cU mP
  subst e5
  have hR:=hR.go cP
  have aG:=aG.aF cP.aF (av.nE sm)
  have av:=qC
  refine cJ aL rfl rfl rfl aG rfl λCH yD aG df=>?_
  have av:=av.aD yD sm;have mP:=mP.aD yD sm
  have hR:Fr F w G4 CH:=⟨hR.aF.since yD (λx hx=>.inr (by simp at hx;omega)),hR.mem⟩
  refine W ?_
  exact⟨[_],ga eV aL rfl aG rfl,by rw[J4];exact⟨G4,⟨mP.gP (λx hx=>mK _ hx),(by have e1:aK++(q.1++(nx,q.2.1)::(aY ag eb q.2.2).1).map Prod.fst=(N1++[nx])++(aY ag eb q.2.2).1.map Prod.fst:=(by rw[CK];simp);have e2:exprs++(q.1++(nx,q.2.1)::(aY ag eb q.2.2).1).map (λp=>p.2.au)=(X1++[q.2.1.au])++(aY ag eb q.2.2).1.map (λp=>p.2.au):=(by rw[CL];simp);show M5 t5 E G4 _ b ag _ (aK++(q.1++(nx,q.2.1)::(aY ag eb q.2.2).1).map Prod.fst) (exprs++(q.1++(nx,q.2.1)::(aY ag eb q.2.2).1).map (λp=>p.2.au));rw[e1,e2];exact av.drop)⟩,hR⟩⟩
  have oF:e.head≠fW:=λhh=>h2 (je.trans hh)
  refine W ?_
  refine zc rfl (λh3=>?_) (λh3=>?_)
  obtain⟨nf,nx,tA,tB,eb,rfl⟩:=JJ ba (je.symm.trans h3)
  have wY:(Ex.fn nf nx tA tB eb).n=3+tA.n+tB.n+eb.n:=rfl
  have JR:(Ex.fn nf nx tA tB eb).au.ak.length=6:=rfl
  obtain⟨b1,eX,gA,gm,e1,bK,cI⟩:=eW aP (i:=5) om
  cases e1
  have cI:bB ((gb::w1.heap.size::E)++F) w6 _ eb.au:=cI
  have aQ:∃X,X=mv ag eb n:=⟨_,rfl⟩
  obtain⟨X,hX⟩:=aQ
  refine WZ ?_
  apply jF dj (((gb::w1.heap.size::E)++F)) 8 (rA 61 8) (rA 61 8) [[],[0],[],[],[3],[4],[2,5],[1]] [Ie.v _,Ie.v _,Ie.v _,Ie.v _,Ie.v _,Ie.v _,Ie.e 0,Ie.v _] [6] [fun(G:List Nat) (vs:List Value) (ww:World)=>G=((gb::w1.heap.size::E)++F)∧jX E F w ww F b ag n aK exprs gb w1.heap.size (.slice (some ⟨gb,0,none⟩) (Ex.fn nf nx tA tB eb).au.ak.length fR) (Ex.fn nf nx tA tB eb).au.ak,fun(G:List Nat) (vs:List Value) (ww:World)=>∃G9,G=((gb::w1.heap.size::E)++G9)∧jX E G9 w ww F b ag (aY ag eb n).2.2 aK exprs gb w1.heap.size (.slice (some ⟨gb,0,none⟩) (Ex.fn nf nx tA tB eb).au.ak.length fR) (Ex.fn nf nx tA tB eb).au.ak∧bB ((gb::w1.heap.size::E)++G9) ww (vs.getD 0 undef) (mv ag eb n).au] de rfl aR.cC (by exact trivial) (by exact⟨λG vs w w' ⟨h1,h2⟩ k=>⟨h1,h2.ext k⟩,λG vs w w' ⟨G9,h1,h2,h3⟩ k=>⟨G9,h1,h2.ext k,h3.ext k⟩,trivial⟩) (⟨rfl,aR⟩)
  refine FA ?_
  refine vf (λ_ _ _ _ _ _=>zi (i:=5) cz aL rfl rfl ((show 5<6 from om)) fv) ?_
  refine FA ?_
  refine ve 0 (λx w7 G7 aS mQ lj hJ hlen=>?_) ?_
  have aW:=jh hlen
  subst aW
  have cI:=cI.go mQ
  obtain⟨bO,aR⟩:=hJ
  subst bO
  refine aA (J0 ba.2.2.2.2.2 (ih eb om ba.2.2.2.2.2) ag n aK exprs (hB.sub 0 om om sm sm) (gb::w1.heap.size::E) F b _ w7 aR.m cI) ?_
  rintro CB w8 ⟨⟨du,qE⟩,cP⟩
  exact fe _ (cP.in _) qE.bG.2.2 (⟨F,rfl,aR.call qE cP,du⟩)
  refine vf (λ_ _ _ _ _ _=>zi (i:=5) cz aL rfl rfl ((show 5<6 from om)) fv) ?_
  exact trivial
  intro x r5 J8 aS xo J9 hJ hlen
  obtain⟨q0,aW⟩:=ji hlen
  subst aW
  have bL:=bL.go xo
  change OW _ _ _ _ _ (bo (bj _ x _) (zZ 61 [_,_,_,_,_,_,_,_])) _
  obtain⟨G3,bO,aR,du⟩:=hJ
  subst bO
  obtain⟨a7,n7,c7,e7,_,_⟩:=cU du
  have e8:q0=_:=e7
  subst e8
  refine sQ (i:=5) (vs:=[str (mv ag eb n).au.aw,.slice a7 n7 c7]) (row:=(mv ag eb n).au.enc) aL rfl rfl rfl rfl (by first|rfl|exact Nat.zero_add _) aR.own aR.cC sm (by rw[ia];omega) rfl (oG _) du.kj λwZ l6 rR dv=>?_
  rw[sS] at dv
  have bL:=bL.aD l6 aR.ja
  have aR:=aR.store l6 dv
  refine W ?_
  refine cJ aL rfl rfl rfl aR.bx rfl λlJ lK dh ld=>?_
  obtain⟨rS,rU,vF⟩:=aR.fin lK
  refine W ?_
  exact⟨[_],ga eV aL rfl dh rfl,by show JU ag E F b aK exprs w ([],.fn nf nx tA tB (mv ag eb n),(aY ag eb n).2.2) _ _;exact⟨G3,⟨rS,by rw[List.map_nil,List.append_nil,List.map_nil,List.append_nil];exact rU⟩,vF⟩⟩
  have ri:e.head≠gF:=λhh=>h3 (je.trans hh)
  refine W ?_
  refine zc rfl (λh4=>?_) (λh4=>?_)
  obtain⟨ea,eb,ec,rfl⟩:=UJ ba (je.symm.trans h4)
  have wY:(Ex.ite ea eb ec).n=1+ea.n+eb.n+ec.n:=rfl
  have JR:(Ex.ite ea eb ec).au.ak.length=4:=rfl
  have J6:=Ve ag ea n
  have oN:=Vd ag ea n
  have aQ:∃q,q=dB ag (aY ag ea n):=⟨_,rfl⟩
  obtain⟨q,hq⟩:=aQ
  have J4:aY ag (.ite ea eb ec) n=(q.1,.ite q.2.1 (mv ag eb q.2.2) (mv ag ec (aY ag eb q.2.2).2.2),(aY ag ec (aY ag eb q.2.2).2.2).2.2):=(by rw[hq];rfl)
  rw[<-hq] at J6 oN
  have UG:=ic ag eb q.2.2
  have uF:(ea.n+eb.n)*(2*(ag.length+2))=ea.n*(2*(ag.length+2))+eb.n*(2*(ag.length+2)):=Nat.add_mul _ _ _
  obtain⟨b1,eX,gA,gm,e1,bK,cI⟩:=eW aP (i:=1) om
  cases e1
  have cI:bB ((gb::w1.heap.size::E)++F) w6 _ ea.au:=cI
  refine WZ ?_
  apply jF dj (((gb::w1.heap.size::E)++F)) 8 (rA 72 8) (rA 72 8) [[],[0],[],[],[3],[4],[2,5],[1]] [Ie.v _,Ie.v _,Ie.v _,Ie.v _,Ie.v _,Ie.v _,Ie.e 0,Ie.v _] [6] [fun(G:List Nat) (vs:List Value) (ww:World)=>G=((gb::w1.heap.size::E)++F)∧jX E F w ww F b ag n aK exprs gb w1.heap.size (.slice (some ⟨gb,0,none⟩) (Ex.ite ea eb ec).au.ak.length fR) (Ex.ite ea eb ec).au.ak,fun(G:List Nat) (vs:List Value) (ww:World)=>∃G9,G=((gb::w1.heap.size::E)++G9)∧jX E G9 w ww F b ag q.2.2 (aK++q.1.map Prod.fst) (exprs++q.1.map λp=>p.2.au) gb w1.heap.size (.slice (some ⟨gb,0,none⟩) (Ex.ite ea eb ec).au.ak.length fR) (Ex.ite ea eb ec).au.ak∧bB ((gb::w1.heap.size::E)++G9) ww (vs.getD 0 undef) q.2.1.au] de rfl aR.cC (by exact trivial) (by exact⟨λG vs w w' ⟨h1,h2⟩ k=>⟨h1,h2.ext k⟩,λG vs w w' ⟨G9,h1,h2,h3⟩ k=>⟨G9,h1,h2.ext k,h3.ext k⟩,trivial⟩) (⟨rfl,aR⟩)
  refine FA ?_
  refine vf (λ_ _ _ _ _ _=>zi (i:=1) cz aL rfl rfl ((show 1<4 from om)) fv) ?_
  refine FA ?_
  refine ve 0 (λx w7 G7 aS mQ lj hJ hlen=>?_) ?_
  have aW:=jh hlen
  subst aW
  have cI:=cI.go mQ
  obtain⟨bO,aR⟩:=hJ
  subst bO
  refine aA (U5 ba.1 (ih ea om ba.1) ag n aK exprs (hB.sub 0 om om sm sm) (gb::w1.heap.size::E) F b _ w7 aR.m cI) ?_
  rintro CB w8 ⟨G9,⟨du,qE⟩,cP⟩
  rw[<-hq] at du qE
  exact fe _ (cP.in _) qE.bG.2.2 (⟨G9,rfl,aR.call qE cP,du⟩)
  refine vf (λ_ _ _ _ _ _=>zi (i:=1) cz aL rfl rfl ((show 1<4 from om)) fv) ?_
  exact trivial
  intro x r5 J8 aS xo J9 hJ hlen
  obtain⟨q0,aW⟩:=ji hlen
  subst aW
  have aP:=aP.go xo;have bL:=bL.go xo;have bK:=bK.go xo;have cI:=cI.go xo
  change OW _ _ _ _ _ (bo (bj _ x _) (zZ 72 [_,_,_,_,_,_,_,_])) _
  obtain⟨G3,bO,aR,du⟩:=hJ
  subst bO
  obtain⟨a7,n7,c7,e7,_,_⟩:=cU du
  have e8:q0=_:=e7
  subst e8
  refine sQ (i:=1) (vs:=[str q.2.1.au.aw,.slice a7 n7 c7]) (row:=q.2.1.au.enc) aL rfl rfl rfl rfl (by first|rfl|exact Nat.zero_add _) aR.own aR.cC sm (by rw[ia];omega) rfl (oG _) du.kj λwZ l6 rR dv=>?_
  rw[sS] at dv
  have aP:=aP.aD l6 aR.ja;have bL:=bL.aD l6 aR.ja
  have aR:=aR.store l6 dv
  refine W ?_
  obtain⟨b2,lG,iA,iw,e2,bK,cI⟩:=eW aP (i:=2) om
  cases e2
  have cI:bB ((gb::w1.heap.size::E)++G3) wZ _ eb.au:=cI
  apply jF dj (((gb::w1.heap.size::E)++G3)) 8 (rA 80 8) (rA 80 8) [[],[0],[],[],[3],[4],[2,5],[1]] [Ie.v _,Ie.v _,Ie.v _,Ie.v _,Ie.v _,Ie.v _,Ie.e 0,Ie.v _] [6] [fun(G:List Nat) (vs:List Value) (ww:World)=>G=((gb::w1.heap.size::E)++G3)∧jX E G3 w ww F b ag q.2.2 (aK++q.1.map Prod.fst) (exprs++q.1.map λp=>p.2.au) gb w1.heap.size (.slice (some ⟨gb,0,none⟩) (Ex.ite ea eb ec).au.ak.length fR) ((Ex.ite ea eb ec).au.ak.set 1 q.2.1.au),fun(G:List Nat) (vs:List Value) (ww:World)=>∃G9,G=((gb::w1.heap.size::E)++G9)∧jX E G9 w ww F b ag (aY ag eb q.2.2).2.2 (aK++q.1.map Prod.fst) (exprs++q.1.map λp=>p.2.au) gb w1.heap.size (.slice (some ⟨gb,0,none⟩) (Ex.ite ea eb ec).au.ak.length fR) ((Ex.ite ea eb ec).au.ak.set 1 q.2.1.au)∧bB ((gb::w1.heap.size::E)++G9) ww (vs.getD 0 undef) (mv ag eb q.2.2).au] de rfl aR.cC (by exact trivial) (by exact⟨λG vs w w' ⟨h1,h2⟩ k=>⟨h1,h2.ext k⟩,λG vs w w' ⟨G9,h1,h2,h3⟩ k=>⟨G9,h1,h2.ext k,h3.ext k⟩,trivial⟩) (⟨rfl,aR⟩)
  refine FA ?_
  refine vf (λ_ _ _ _ _ _=>zi (i:=2) cz aL rfl rfl ((show 2<4 from om)) fv) ?_
  refine FA ?_
  refine ve 0 (λx lJ JT aS EI ND hJ hlen=>?_) ?_
  have aW:=jh hlen
  subst aW
  have cI:=cI.go EI
  obtain⟨bO,aR⟩:=hJ
  subst bO
  refine aA (J0 ba.2.1 (ih eb om ba.2.1) ag q.2.2 (aK++q.1.map Prod.fst) (exprs++q.1.map λp=>p.2.au) (hB.sub ea.n om om sm sm) (gb::w1.heap.size::E) G3 b _ lJ aR.m cI) ?_
  rintro CB ot ⟨⟨du,qE⟩,cP⟩
  exact fe _ (cP.in _) qE.bG.2.2 (⟨G3,rfl,aR.call qE cP,du⟩)
  refine vf (λ_ _ _ _ _ _=>zi (i:=2) cz aL rfl rfl ((show 2<4 from om)) fv) ?_
  exact trivial
  intro x NX G87 aS Ka aoW hJ hlen
  obtain⟨q0,aW⟩:=ji hlen
  subst aW
  have aP:=aP.go Ka;have bL:=bL.go Ka;have bK:=bK.go Ka;have cI:=cI.go Ka
  change OW _ _ _ _ _ (bo (bj _ x _) (zZ 80 [_,_,_,_,_,_,_,_])) _
  obtain⟨G3,bO,aR,du⟩:=hJ
  subst bO
  obtain⟨a7,n7,c7,e7,_,_⟩:=cU du
  have e8:q0=_:=e7
  subst e8
  refine sQ (i:=2) (vs:=[str (mv ag eb q.2.2).au.aw,.slice a7 n7 c7]) (row:=(mv ag eb q.2.2).au.enc) aL rfl rfl rfl rfl (by first|rfl|exact Nat.zero_add _) aR.own aR.cC sm (by rw[ia,List.length_set];omega) rfl (oG _) du.kj λGZ A7 rR dv=>?_
  rw[sS] at dv
  have aP:=aP.aD A7 aR.ja;have bL:=bL.aD A7 aR.ja
  have aR:=aR.store A7 dv
  refine W ?_
  obtain⟨b3,AW,pP,pQ,e3,bK,cI⟩:=eW aP (i:=3) om
  cases e3
  have cI:bB ((gb::w1.heap.size::E)++G3) GZ _ ec.au:=cI
  apply jF dj (((gb::w1.heap.size::E)++G3)) 8 (rA 88 8) (rA 88 8) [[],[0],[],[],[3],[4],[2,5],[1]] [Ie.v _,Ie.v _,Ie.v _,Ie.v _,Ie.v _,Ie.v _,Ie.e 0,Ie.v _] [6] [fun(G:List Nat) (vs:List Value) (ww:World)=>G=((gb::w1.heap.size::E)++G3)∧jX E G3 w ww F b ag (aY ag eb q.2.2).2.2 (aK++q.1.map Prod.fst) (exprs++q.1.map λp=>p.2.au) gb w1.heap.size (.slice (some ⟨gb,0,none⟩) (Ex.ite ea eb ec).au.ak.length fR) (((Ex.ite ea eb ec).au.ak.set 1 q.2.1.au).set 2 (mv ag eb q.2.2).au),fun(G:List Nat) (vs:List Value) (ww:World)=>∃G9,G=((gb::w1.heap.size::E)++G9)∧jX E G9 w ww F b ag (aY ag ec (aY ag eb q.2.2).2.2).2.2 (aK++q.1.map Prod.fst) (exprs++q.1.map λp=>p.2.au) gb w1.heap.size (.slice (some ⟨gb,0,none⟩) (Ex.ite ea eb ec).au.ak.length fR) (((Ex.ite ea eb ec).au.ak.set 1 q.2.1.au).set 2 (mv ag eb q.2.2).au)∧bB ((gb::w1.heap.size::E)++G9) ww (vs.getD 0 undef) (mv ag ec (aY ag eb q.2.2).2.2).au] de rfl aR.cC (by exact trivial) (by exact⟨λG vs w w' ⟨h1,h2⟩ k=>⟨h1,h2.ext k⟩,λG vs w w' ⟨G9,h1,h2,h3⟩ k=>⟨G9,h1,h2.ext k,h3.ext k⟩,trivial⟩) (⟨rfl,aR⟩)
  refine FA ?_
  refine vf (λ_ _ _ _ _ _=>zi (i:=3) cz aL rfl rfl ((show 3<4 from om)) fv) ?_
  refine FA ?_
  refine ve 0 (λx xd G89 aS agR aoY hJ hlen=>?_) ?_
  have aW:=jh hlen
  subst aW
  have cI:=cI.go agR
  obtain⟨bO,aR⟩:=hJ
  subst bO
  refine aA (J0 ba.2.2 (ih ec om ba.2.2) ag (aY ag eb q.2.2).2.2 (aK++q.1.map Prod.fst) (exprs++q.1.map λp=>p.2.au) (hB.sub (ea.n+eb.n) om om sm sm) (gb::w1.heap.size::E) G3 b _ xd aR.m cI) ?_
  rintro CB kF ⟨⟨du,qE⟩,cP⟩
  exact fe _ (cP.in _) qE.bG.2.2 (⟨G3,rfl,aR.call qE cP,du⟩)
  refine vf (λ_ _ _ _ _ _=>zi (i:=3) cz aL rfl rfl ((show 3<4 from om)) fv) ?_
  exact trivial
  intro x aoZ ao0 aS agS ao1 hJ hlen
  obtain⟨q0,aW⟩:=ji hlen
  subst aW
  have bL:=bL.go agS
  change OW _ _ _ _ _ (bo (bj _ x _) (zZ 88 [_,_,_,_,_,_,_,_])) _
  obtain⟨G3,bO,aR,du⟩:=hJ
  subst bO
  obtain⟨a7,n7,c7,e7,_,_⟩:=cU du
  have e8:q0=_:=e7
  subst e8
  refine sQ (i:=3) (vs:=[str (mv ag ec (aY ag eb q.2.2).2.2).au.aw,.slice a7 n7 c7]) (row:=(mv ag ec (aY ag eb q.2.2).2.2).au.enc) aL rfl rfl rfl rfl (by first|rfl|exact Nat.zero_add _) aR.own aR.cC sm (by rw[ia,List.length_set,List.length_set];omega) rfl (oG _) du.kj λJP Vj rR dv=>?_
  rw[sS] at dv
  have bL:=bL.aD Vj aR.ja
  have aR:=aR.store Vj dv
  refine W ?_
  refine cJ aL rfl rfl rfl aR.bx rfl λNA CF dh ld=>?_
  obtain⟨rS,rU,vF⟩:=aR.fin CF
  refine W ?_
  exact⟨[_],ga eV aL rfl dh rfl,by rw[J4];exact⟨G3,⟨rS,rU⟩,vF⟩⟩
  have my:e.head≠gj:=λhh=>h4 (je.trans hh)
  have EN:=Vg eJ oF ri
  have wb:=agE ag n eJ oF ri my
  have hpm:=agF eJ oF ri
  refine W ?_
  refine eA (λk:Nat=>[(0,.pointer (some ⟨b,0,none⟩)),(4,.pointer (some ⟨w1.heap.size,0,none⟩)),(5,.slice (some ⟨b0,vv,none⟩) e.au.ak.length c),(6,.pointer (some ⟨w4.heap.size,0,none⟩)),(8,.int .i64 ((e.from+k:Nat):Int))]) (λk ww=>∃G2,Fr ((gb::w1.heap.size::E)++F) w6 ((gb::w1.heap.size::E)++G2) ww∧jX E G2 w ww F b ag (gw ag e n k).2.2 (aK++(gw ag e n k).1.map Prod.fst) (exprs++(gw ag e n k).1.map λp=>p.2.au) gb w1.heap.size (.slice (some ⟨gb,0,none⟩) e.au.ak.length fR) (lI [bJ e.head] (gw ag e n k).2.1 e)∧k<=e.kids.length) (λk=>e.kids.length-k) (0) (⟨rfl,rfl,rfl,rfl,by rw[EN];rfl⟩) (⟨F,Fr.refl _ _,by rw[show lI [bJ e.head] (gw ag e n 0).2.1 e=e.au.ak from hpm.symm];simpa[gw] using aR,om⟩) λgg w7 e7 hI=>?_
  obtain⟨G2,o8,aR,hk⟩:=hI
  have aP:=aP.go o8;have bL:=bL.go o8
  refine W ?_
  refine zc rfl (λh5=>?_) (λh5=>?_)
  have gL:gg<e.kids.length:=om
  have qo:=qz gg gL
  have fb:=NT ag e n gg
  obtain⟨b1,eX,gA,gm,e1,bK,cI⟩:=eW aP (i:=e.from+gg) om
  cases e1
  have cI:=cI.eq qo
  have tZ:=F5 ba gL
  have BI:=yv gL
  have hkN:=Cw e (gg+1)
  have kv:=agD ag e n hB gL
  refine WZ ?_
  apply jF dj (((gb::w1.heap.size::E)++G2)) 10 (rA 103 10) (rA 103 10) [[],[0],[],[],[],[],[4,5],[6],[3,7],[1,2]] [Ie.v _,Ie.v _,Ie.v _,Ie.v _,Ie.v _,Ie.v _,Ie.v _,Ie.v _,Ie.e 0,Ie.v _] [8] [fun(G:List Nat) (vs:List Value) (ww:World)=>G=((gb::w1.heap.size::E)++G2)∧jX E G2 w ww F b ag (gw ag e n gg).2.2 (aK++(gw ag e n gg).1.map Prod.fst) (exprs++(gw ag e n gg).1.map λp=>p.2.au) gb w1.heap.size (.slice (some ⟨gb,0,none⟩) e.au.ak.length fR) (lI [bJ e.head] (gw ag e n gg).2.1 e),fun(G:List Nat) (vs:List Value) (ww:World)=>∃G9,G=((gb::w1.heap.size::E)++G9)∧jX E G9 w ww F b ag (gw ag e n (gg+1)).2.2 (aK++(gw ag e n (gg+1)).1.map Prod.fst) (exprs++(gw ag e n (gg+1)).1.map λp=>p.2.au) gb w1.heap.size (.slice (some ⟨gb,0,none⟩) e.au.ak.length fR) (lI [bJ e.head] (gw ag e n gg).2.1 e)∧bB ((gb::w1.heap.size::E)++G9) ww (vs.getD 0 undef) (dB ag (aY ag (fL e gg) (gw ag e n gg).2.2)).2.1.au] de rfl aR.cC (by exact trivial) (by exact⟨λG vs w w' ⟨h1,h2⟩ k=>⟨h1,h2.ext k⟩,λG vs w w' ⟨G9,h1,h2,h3⟩ k=>⟨G9,h1,h2.ext k,h3.ext k⟩,trivial⟩) (⟨rfl,aR⟩)
  refine FA ?_
  refine ve 0 (λx w8 G8 aS agV ao2 hJ hlen=>?_) ?_
  have aW:=jh hlen
  subst aW
  have cI:=cI.go agV
  obtain⟨bO,aR⟩:=hJ
  subst bO
  refine aA (U5 tZ.1 (ih (fL e gg) om tZ.1) ag (gw ag e n gg).2.2 (aK++(gw ag e n gg).1.map Prod.fst) (exprs++(gw ag e n gg).1.map λp=>p.2.au) kv (gb::w1.heap.size::E) G2 b _ w8 aR.m cI) ?_
  rintro CB w9 ⟨G9,⟨du,qE⟩,cP⟩
  rw[List.append_assoc,List.append_assoc,<-List.map_append,<-List.map_append] at qE
  exact fe _ (cP.in _) qE.bG.2.2 (⟨G9,rfl,aR.call qE cP,du⟩)
  exact FZ
  intro x wZ G47 aS agW ao4 hJ hlen
  obtain⟨q0,aW⟩:=ji hlen
  subst aW
  have o8:=o8.go agW
  change OW _ _ _ _ _ (bo (bj _ x _) (zZ 103 [_,_,_,_,_,_,_,_,_,_])) _
  obtain⟨G3,bO,aR,du⟩:=hJ
  subst bO
  obtain⟨a7,n7,c7,e7,_,_⟩:=cU du
  have e8:q0=_:=e7
  subst e8
  have zu:((lI [bJ e.head] (gw ag e n gg).2.1 e)).set (e.from+gg) (dB ag (aY ag (fL e gg) (gw ag e n gg).2.2)).2.1.au=(lI [bJ e.head] (gw ag e n (gg+1)).2.1 e):=(by have:=UM (pre:=[bJ e.head]) (acc:=(gw ag e n gg).2.1) (e:=e) (y:=(dB ag (aY ag (fL e gg) (gw ag e n gg).2.2)).2.1) om;rw[show[bJ e.head].length=e.from from EN.symm,fb] at this;exact this)
  refine sQ (i:=e.from+gg) (vs:=[str (dB ag (aY ag (fL e gg) (gw ag e n gg).2.2)).2.1.au.aw,.slice a7 n7 c7]) (row:=(dB ag (aY ag (fL e gg) (gw ag e n gg).2.2)).2.1.au.enc) aL rfl rfl rfl rfl (by first|rfl|exact Nat.zero_add _) aR.own aR.cC sm (by rw[ia,UN om];simp;omega) rfl (oG _) du.kj λlJ lK rR dv=>?_
  rw[sS,zu] at dv
  have o8:=o8.aD lK aR.ja
  have aR:=aR.store lK dv
  refine W ?_
  exact⟨gg+1,⟨rfl,rfl,rfl,rfl,congrArg (Value.int .i64) om⟩,⟨G3,o8,aR,om⟩,om⟩
  have fG:gg=e.kids.length:=by omega
  subst fG
  have fb:=NT ag e n e.kids.length
  refine W ?_
  refine cJ aL rfl rfl rfl aR.bx rfl λw8 cE dh ld=>?_
  obtain⟨rS,rU,vF⟩:=aR.fin cE
  rw[UO fb,<-wb.2.1] at rS
  rw[<-wb.1,<-wb.2.2] at rU
  refine W ?_
  exact⟨[_],ga eV aL rfl dh rfl,⟨G2,⟨rS,rU⟩,vF⟩⟩
theorem EO (s:ai):(bJ s).size=1+s.length:=by simp[bJ,aq.size,aq.size.sizes]
theorem agX (hk:fX h=true):h.length<=5:=by
 simp only[fX,oE,dE] at hk
 rcases hk with rfl|rfl<;>decide
theorem agY (hk:gH h=true):h.length<=5:=by
 simp only[gH,oE,dE] at hk
 rcases hk with(((rfl|rfl)|rfl)|rfl)|rfl<;>decide
theorem Ex.size:∀{e:Ex},e.ok->e.au.size<=30*e.n
 | .at s,h=>by
  have:s.length<=4:=oc (e:=.at s) h
  show(bJ s).size<=_
  rw[EO];simp only[Ex.n];omega
 | .un hd a,h=>by
  have:=agX h.1
  have:=Ex.size h.2
  show 1+0+aq.size.sizes [bJ hd,a.au]<=_
  simp only[aq.size.sizes,EO,Ex.n];omega
 | .bi hd a b,h=>by
  have:=agY h.1
  have:=Ex.size h.2.1
  have:=Ex.size h.2.2
  show 1+0+aq.size.sizes [bJ hd,a.au,b.au]<=_
  simp only[aq.size.sizes,EO,Ex.n];omega
 | .ite a b c,h=>by
  have:=Ex.size h.1
  have:=Ex.size h.2.1
  have:=Ex.size h.2.2
  have:gj.length=2:=rfl
  show 1+0+aq.size.sizes [bJ gj,a.au,b.au,c.au]<=_
  simp only[aq.size.sizes,EO,Ex.n];omega
 | .lt x a b,h=>by
  have:=En h.1
  have:=Ex.size h.2.1
  have:=Ex.size h.2.2
  have:fW.length=3:=rfl
  show 1+0+aq.size.sizes [bJ fW,bJ x,a.au,b.au]<=_
  simp only[aq.size.sizes,EO,Ex.n];omega
 | .fn f x A B e,h=>by
  have:=En h.1
  have:=En h.2.1
  have:=Ex.size h.2.2.2.2.2
  have:=A.size
  have:=B.size
  have:gF.length=3:=rfl
  show 1+0+aq.size.sizes [bJ gF,bJ f,bJ x,A.au,B.au,e.au]<=_
  simp only[aq.size.sizes,EO,Ex.n];omega
theorem Ex.agZ (h:e.ok):e.au.text.length<=60*e.n:=by
 have h1:=LX e.au _ (lR _) (Ex.wf h).wf
 have h2:=Ex.size h
 omega
theorem ag0 {q:Ex} (hq:nq e=some q):q.n<=4*e.n:=by
 unfold nq at hq
 cases hp:ql e with
 |none=>rw[hp] at hq;cases hq
 |some p=>
  have eP:p.n=e.n:=by
   unfold ql at hp
   split at hp
   ·cases hp;exact Sj _ e [] 0
   ·cases hp
  rw[hp,Option.bind_some] at hq
  split at hq
  ·cases hq
   have:=uY (kZ p.au []) p 0
   show(nest _ _).n<=_
   rw[Mp];omega
  ·cases hq
theorem ag1 {p:Ex} (hp:ql e=some p):p.n=e.n:=by
 unfold ql at hp
 split at hp
 ·cases hp;exact Sj _ e [] 0
 ·cases hp
theorem ag2 {T:Nat} (h:aJ w b #[] T):dH L w T 2 (.slice (some ⟨b,0,none⟩) 0 0) (some b) []:=
 ⟨⟨[],MQ h,trivial⟩,sm⟩
theorem ag3 (ee:Ex) (hn:ee.n<=120) (ba:ee.ok) (v:Value) (w:World) (hv:bB [] w v ee.au):
  bz Tryz.prog 150 [v] w λr w'=>(∃tv T,r= .tuple #[tv,.bool (nq ee).isSome]∧bB [] w' tv T∧∀f,nq ee=some f->T=f.au)∧aj [] w w':=by
 have cO:=hv
 obtain⟨a,np,c,rfl,eU,aP⟩:=cU hv
 have hK:=aj.refl [] w
 refine kW [.cell 2 74,.tmp 3] 32 Tryz.func150 rfl aa7 rfl rfl rfl ?_
 refine zr<|eH rfl λw1 aI aX dk=>?_
 have hK:=hK.ext aI
 refine dy aL rfl rfl rfl λw2 az aU dC=>?_
 have hK:=hK.grow;have hK:=hK.ext az;have aX:=aX.grow;have aX:=aX.ext az
 refine W ?_
 refine aA (agc ee hn ba _ [w1.heap.size] w2 (by have:=aU.lt;simpa using this) (bB.ext (bB.fresh cO (by intro x hx;simp at hx;right;omega)) hK)) ?_
 rintro v3 w3 ⟨ko,aH⟩
 have fm:=aH.size
 refine cN aH hK aX aU λhK aX aU=>?_
 obtain⟨tv,rfl,hT⟩:=ko
 have aQ:∃p,p=(bH (cH ee [] []) ee [] 0).1:=⟨_,rfl⟩
 obtain⟨p,mz⟩:=aQ
 rw[<-mz] at hT
 obtain⟨a9,n9,c9,e9,_,_⟩:=cU hT
 subst e9
 have fp:=aj.refl [] w3
 have jV:=hT
 refine W ?_
 refine dy aL rfl rfl rfl λw4 aO aG gQ=>?_
 have hK:=hK.grow;have hK:=hK.ext aO;have aX:=aX.grow;have aX:=aX.ext aO;have aU:=aU.grow;have aU:=aU.ext aO;have fp:=fp.grow;have fp:=fp.ext aO
 refine cJ aL rfl rfl rfl aG rfl λw5 aN aG ig=>?_
 have hK:=hK.aD aN sx;have aX:=aX.aD aN sx;have aU:=aU.aD aN sx;have fp:=fp.aD aN sx
 refine W ?_
 refine zc rfl (λh1=>?_) (λh1=>?_)
 have hx:ql ee=none:=(by simpa using h1)
 have EP:nq ee=none:=by unfold nq;rw[hx];rfl
 refine W ?_
 refine cJ aL rfl rfl rfl aU rfl λw6 bN aU kI=>?_
 have hK:=hK.aD bN sx
 refine W ?_
 exact⟨[_,_],⟨ga eV aL rfl aU rfl,rfl⟩,⟨_,_,by rw[EP];rfl,bB.ext cO hK,λf hf=>by rw[EP] at hf;cases hf⟩,hK⟩
 have hp:ql ee=some p:=(by rw[mz];unfold ql at h1⊢;split;(·rfl);(·rename_i h9;rw[iN h9] at h1;exact absurd h1 sm))
 have Hl:=Mq ba hp
 have eP:=ag1 hp
 have GH:=Ex.size Hl
 have EJ:=Ex.fh Hl
 have Ch:=So p.au []
 rw[List.length_nil,Nat.zero_add,EJ] at Ch
 have aQ:∃ag,ag=kZ p.au []:=⟨_,rfl⟩
 obtain⟨ag,NY⟩:=aQ
 refine W ?_
 refine fQ bh bf λw6 bN NF kI=>la bN hK aX aU fp aG λhK aX aU fp aG=>?_
 refine aA (agb p.au.size p.au (lR _) om (Ex.wf Hl).wf [] so _ _ (some _) w6 (bB.ext (bB.fresh jV (by intro x hx;simp at hx;right;omega)) fp) NF.kK) ?_
 rintro xl w7 ⟨g18,xp,CR⟩
 have NZ:=CR.aF.size
 have N0:=xp.lt
 rw[<-NY] at xp Ch
 obtain⟨a18,c18,vH⟩:=jR xp
 subst vH
 have hK:=hK.since CR.aF (λx hx=>.inr (by have:=fp.size;simp at hx;omega))
 have fp:=fp.since CR.aF (λx hx=>.inr (by simp at hx;omega))
 have aX:=aX.aF CR.aF so
 have aU:=aU.aF CR.aF so
 have aG:=aG.aF CR.aF so
 have ao7:=fp.size
 have ao8:=aU.lt
 refine fQ bh bf λw8 cE CS ld=>la cE hK aU fp aG xp λhK aU fp aG xp=>?_
 refine fQ cz aL λw9 aB sV df=>tS aB hK aU fp aG xp CS λhK aU fp aG xp CS=>?_
 refine js (acZ _ _ _ _ _ _ _ _ _ _ _) rfl rfl<|eH rfl λcu cB rW Cg=>I4 cB hK aU fp aG xp CS sV λhK aU fp aG xp CS sV=>?_
 refine W ?_
 have ag4:=CS.lt
 have Vk:=sV.lt
 have x4:=fp.size
 have o3:∀x,x∈[w1.heap.size]++[w9.heap.size,w7.heap.size,w8.heap.size]->x∉g18.toList:=(λx hx fj=>by have h1:=N0 x fj;have h2:=CR.mem x fj;simp at hx h2;omega)
 have ao9:=rW.lt
 have EK:p.n*(2*(ag.length+2))<=120*(2*122):=Nat.mul_le_mul om om
 have hM:M5 t5 [w1.heap.size] [w9.heap.size,w7.heap.size,w8.heap.size] cu w9.heap.size ag 0 [] []:=⟨_,_,_,some _,some _,rW,⟨xp.rep (λx hx fj=>o3 x fj (by simp[hx])),CS.kK,ag2 sV,rfl,by simp;omega,by intro x hx;simp at hx;omega⟩⟩
 refine aA (J0 Hl (agG p.n p (lR _) Hl) ag 0 [] [] ⟨by omega,by simp;omega,by simp;omega,om⟩ [w1.heap.size] _ w9.heap.size _ cu hM (bB.ext (bB.fresh jV (by intro x hx;simp at hx;rcases hx with h|h;(·exact .inl (by simp[h]));(·right;omega))) fp)) ?_
 rintro v25 eD ⟨⟨sW,ag6⟩,N2⟩
 have aQ:∃q,q=mv ag p 0:=⟨_,rfl⟩
 obtain⟨q,hq⟩:=aQ
 rw[<-hq] at sW
 obtain⟨mS,mT,mU,N3,_,_⟩:=cU sW
 subst N3
 have ag7:=N2.aF.size
 have hK:=hK.since N2.aF (λx hx=>.inr (by have:=hK.size;simp at hx;omega))
 have aU:=aU.aF N2.aF so
 obtain⟨vt,vn,vx,gn,ge,bg,_⟩:=ag6.open
 have bg:aJ eD w9.heap.size [vt,.int .i64 ((aY ag p 0).2.2:Int),vn,vx].toArray 190:=bg
 have sW:=sW.gP (L':=[w1.heap.size]) sm
 refine dy aL rfl rfl rfl λfA di cM N4=>?_
 have hK:=hK.grow;have hK:=hK.ext di;have aU:=aU.grow;have aU:=aU.ext di;have sW:=sW.grow;have sW:=sW.ext di;have bg:=bg.grow;have bg:=bg.ext di
 refine cJ aL rfl rfl rfl cM rfl λjB gv cM Hg=>?_
 have hK:=hK.aD gv sx;have aU:=aU.aD gv sx;have sW:=sW.aD gv sx;have bg:=bg.aD gv sx
 refine W ?_
 refine zB dj (cj w1.heap.size ([str q.au.aw,.slice mS mT mU]) 74) 8 (rA 26 6++[100006,3]) (rA 26 6++[100006,3]) [[],[],[1],[2],[3],[4],[0],[5]] [λv _=>v=(.agg #[str q.au.aw,.slice mS mT mU]),λv _=>v=(.pointer (some ⟨w9.heap.size,0,none⟩)),λv _=>v=(.pointer (some ⟨w9.heap.size,0,none⟩)),λv _=>v=(.pointer (some ⟨w9.heap.size,0+1,none⟩)),λv _=>v=(.int .i64 ((aY ag p 0).2.2:Int)),λv _=>v=(.bool (decide (((aY ag p 0).2.2:Int)<=100))),λ_ ww=>aJ ww w1.heap.size ([str q.au.aw,.slice mS mT mU]).toArray 74,λv _=>v=(.bool (decide (((aY ag p 0).2.2:Int)<=100)))] de (fu (fu (fu (fu (fu (fu (DH (fu trivial)))))))) (λwd aC=>?_) ?_
 refine eh ?_ ?_
 intro x vs iG e dA hd he
 replace dA:=(cj w1.heap.size ([str q.au.aw,.slice mS mT mU]) 74).trans aC dA
 have cM:=cM.aD dA.1 sx
 replace he:e=bo (bj _ x _) []:=he
 subst he
 refine W ?_
 exact dn ((cj w1.heap.size ([str q.au.aw,.slice mS mT mU]) 74).refl _) rfl
 refine eh ?_ ?_
 intro x vs iG e dA hd he
 replace dA:=(cj w1.heap.size ([str q.au.aw,.slice mS mT mU]) 74).trans aC dA
 replace he:e=bo (bj _ x _) []:=he
 subst he
 refine W ?_
 exact dn ((cj w1.heap.size ([str q.au.aw,.slice mS mT mU]) 74).refl _) rfl
 refine eh ?_ ?_
 intro x vs iG e dA hd he
 have d1:vs 1=(.pointer (some ⟨w9.heap.size,0,none⟩)):=hd
 replace dA:=(cj w1.heap.size ([str q.au.aw,.slice mS mT mU]) 74).trans aC dA
 replace he:e=bo (bj _ x _) [(27,vs 1)]:=he
 rw[d1] at he
 subst he
 refine W ?_
 exact dn ((cj w1.heap.size ([str q.au.aw,.slice mS mT mU]) 74).refl _) rfl
 refine eh ?_ ?_
 intro x vs iG e dA hd he
 have d2:vs 2=(.pointer (some ⟨w9.heap.size,0,none⟩)):=hd
 replace dA:=(cj w1.heap.size ([str q.au.aw,.slice mS mT mU]) 74).trans aC dA
 replace he:e=bo (bj _ x _) [(28,vs 2)]:=he
 rw[d2] at he
 subst he
 refine W ?_
 exact dn ((cj w1.heap.size ([str q.au.aw,.slice mS mT mU]) 74).refl _) rfl
 refine eh ?_ ?_
 intro x vs iG e dA hd he
 have d3:vs 3=(.pointer (some ⟨w9.heap.size,0+1,none⟩)):=hd
 replace dA:=(cj w1.heap.size ([str q.au.aw,.slice mS mT mU]) 74).trans aC dA
 have bg:=bg.aD dA.1 sx
 replace he:e=bo (bj _ x _) [(29,vs 3)]:=he
 rw[d3] at he
 subst he
 refine W ?_
 exact dn ((cj w1.heap.size ([str q.au.aw,.slice mS mT mU]) 74).refl _) rfl
 refine eh ?_ ?_
 intro x vs iG e dA hd he
 have d4:vs 4=(.int .i64 ((aY ag p 0).2.2:Int)):=hd
 replace dA:=(cj w1.heap.size ([str q.au.aw,.slice mS mT mU]) 74).trans aC dA
 replace he:e=bo (bj _ x _) [(30,vs 4)]:=he
 rw[d4] at he
 subst he
 refine W ?_
 exact dn ((cj w1.heap.size ([str q.au.aw,.slice mS mT mU]) 74).refl _) rfl
 refine eh ?_ ?_
 intro x vs iG e dA hd he
 have d0:vs 0=(.agg #[str q.au.aw,.slice mS mT mU]):=hd
 replace dA:=(cj w1.heap.size ([str q.au.aw,.slice mS mT mU]) 74).trans aC dA
 obtain⟨us,vz,vA⟩:=dA.2.2 ⟨_,(by rfl),aU⟩
 replace he:e=bo (bj _ x _) [(26,vs 0)]:=he
 rw[d0] at he
 subst he
 refine cJ aL rfl rfl rfl vA (by rw[vz];rfl) λpZ jI hb JH=>W ?_
 exact dn ⟨jI,λ_=>hb,λ_=>⟨_,rfl,hb⟩⟩ hb
 refine eh ?_ ?_
 intro x vs iG e dA hd he
 have d5:vs 5=(.bool (decide (((aY ag p 0).2.2:Int)<=100))):=hd
 replace dA:=(cj w1.heap.size ([str q.au.aw,.slice mS mT mU]) 74).trans aC dA
 replace he:e=bo (bj _ x _) [(31,vs 5)]:=he
 rw[d5] at he
 subst he
 refine W ?_
 exact dn ((cj w1.heap.size ([str q.au.aw,.slice mS mT mU]) 74).refl _) rfl
 exact trivial
 intro x vs r6 Kb dP
 have d0:vs 0=(.agg #[str q.au.aw,.slice mS mT mU]):=dP 0 de
 have d1:vs 1=(.pointer (some ⟨w9.heap.size,0,none⟩)):=dP 1 de
 have d2:vs 2=(.pointer (some ⟨w9.heap.size,0,none⟩)):=dP 2 de
 have d3:vs 3=(.pointer (some ⟨w9.heap.size,0+1,none⟩)):=dP 3 de
 have d4:vs 4=(.int .i64 ((aY ag p 0).2.2:Int)):=dP 4 de
 have d5:vs 5=(.bool (decide (((aY ag p 0).2.2:Int)<=100))):=dP 5 de
 have d6:aJ r6 w1.heap.size ([str q.au.aw,.slice mS mT mU]).toArray 74:=dP 6 de
 have d7:vs 7=(.bool (decide (((aY ag p 0).2.2:Int)<=100))):=dP 7 de
 have hK:=hK.aD Kb.1 sx;have sW:=sW.aD Kb.1 sx
 have aU:=d6
 change OW _ _ _ _ [] (bo (bj _ x _) (zZ 26 [vs 0,vs 1,vs 2,vs 3,vs 4,vs 5]++[(100006,vs 6),(3,vs 7)])) _
 rw[d0,d1,d2,d3,d4,d5,d7]
 refine W ?_
 exact⟨[_,_],⟨ga eV aL rfl aU rfl,rfl⟩,⟨_,q.au,congrArg (λb=>Value.tuple #[_,.bool b]) (show decide (((aY ag p 0).2.2:Int)<=100)=(nq ee).isSome from by unfold nq;rw[hp,Option.bind_some,<-NY];by_cases h:(aY ag p 0).2.2<=100;(·rw[iP h];exact dT om);(·rw[iN h];exact dF om)),sW.gP sm,λf hf=>by unfold nq at hf;rw[hp,Option.bind_some,<-NY] at hf;split at hf;(·cases hf;rw[hq]);(·cases hf)⟩,hK⟩
theorem ag8 (s:ai) (w:World):bz Tryz.prog 126 [str s] w λr w'=>(∃x ok,r= .tuple #[str x,.bool ok]∧(ok=true↔∃e f,bA s=some e.au∧e.ok∧e.n<=120∧nq e=some f∧l5 f.au.text=true)∧∀e f,bA s=some e.au->e.ok->nq e=some f->ok=true->x=f.au.text)∧aj [] w w':=by
 have hK:=aj.refl [] w
 refine bS [.tmp 2,.tmp 3] 30 Tryz.func126 rfl aaP rfl rfl ?_
 refine W ?_
 refine aA (GM s [] w sm) ?_
 rintro v1 w1 ⟨fY,aI⟩
 have cV:=aI.size
 have hK:=hK.ext aI
 obtain⟨t,tv,rfl,ht,hp⟩:=fY
 obtain⟨pa,pn,pc,rfl,eP,aP⟩:=cU ht
 refine W ?_
 refine dy aL rfl rfl rfl λw2 az aG dC=>?_
 have hK:=hK.grow;have hK:=hK.ext az;have ht:=ht.grow;have ht:=ht.ext az
 refine cJ aL rfl rfl rfl aG rfl λw3 aH aG gJ=>?_
 have hK:=hK.aD aH sx;have ht:=ht.aD aH sx
 refine W ?_
 refine zc rfl (λh1=>?_) (λh1=>?_)
 have hx:l5 s=false:=by simpa using h1
 refine W ?_
 exact⟨_,rfl,⟨_,false,rfl,⟨λh=>by(cases h),fun⟨e,f,h1,h2,h3,_⟩=>by rw[wV.2 ⟨e,h1,h2,h3⟩] at hx;cases hx⟩,λ_ _ _ _ _ h=>by cases h⟩,hK⟩
 have hx:l5 s=true:=by simpa using h1
 obtain⟨e,he,ba,hn⟩:=wV.1 hx
 have e2:=hp.1 _ he
 subst e2
 have ER:∀{e':Ex},bA s=some e'.au->e'.ok->e'=e:=(λh1 h2=>qA h2 ba (Option.some.inj (h1.symm.trans he)))
 refine W ?_
 refine aA (ag3 e hn ba _ w3 (ht.gP sm)) ?_
 rintro v4 w4 ⟨jT,aO⟩
 have fE:=aO.size
 have hK:=hK.ext aO
 obtain⟨tv2,T,rfl,hT,N5⟩:=jT
 obtain⟨iA,AT,iw,rfl,Ju,N6⟩:=cU hT
 refine W ?_
 refine dy aL rfl rfl rfl λw5 aN bL ig=>?_
 have hK:=hK.grow;have hK:=hK.ext aN;have hT:=hT.grow;have hT:=hT.ext aN
 refine cJ aL rfl rfl rfl bL rfl λw6 bN bL kI=>?_
 have hK:=hK.aD bN sx;have hT:=hT.aD bN sx
 refine W ?_
 refine xM (t:=22) rfl (λh2=>?_) (λh2=>?_)
 replace h2:=jk h2
 have EP:nq e=none:=(by simpa using h2)
 refine W ?_
 refine zc rfl (λh3=>?_) (λh3=>?_)
 refine W ?_
 exact⟨_,rfl,⟨_,false,rfl,⟨λh=>by(cases h),fun⟨e',f',h1,h2,h3,h4,_⟩=>by cases ER h1 h2;rw[EP] at h4;cases h4⟩,λ_ _ _ _ _ h=>by cases h⟩,hK⟩
 simp at h3
 replace h2:=jk h2
 have aQ:∃f,nq e=some f:=(by cases hh:nq e;(·simp[hh] at h2);(·exact⟨_,rfl⟩))
 obtain⟨f,hf⟩:=aQ
 have e9:=N5 f hf
 subst e9
 have A8:=Mr ba hf
 have N7:=ag0 hf
 have hfz:=Ex.size A8
 have N8:=Ex.agZ A8
 refine W ?_
 refine aA (tT f.au.size f.au (lR _) (Ex.wf A8).wf om om _ _ w6 hT) ?_
 rintro _ w7 ⟨rfl,bW⟩
 have lf:=bW.size
 refine cN bW hK hT bL λhK hT bL=>?_
 refine aA (Nn _ w7) ?_
 rintro _ w8 ⟨rfl,cE⟩
 have AX:=cE.size
 refine cN cE hK hT bL λhK hT bL=>?_
 refine W ?_
 refine zc rfl (λh4=>?_) (λh4=>?_)
 have fj:l5 f.au.text=false:=(by simpa using h4)
 refine W ?_
 exact⟨_,rfl,⟨_,false,rfl,⟨λh=>by(cases h),fun⟨e',f',h1,h2,h3,h4,h5⟩=>by cases ER h1 h2;rw[hf] at h4;cases h4;rw[fj] at h5;cases h5⟩,λ_ _ _ _ _ h=>by cases h⟩,hK⟩
 have fj:l5 f.au.text=true:=(by simpa using h4)
 refine W ?_
 refine aA (tT f.au.size f.au (lR _) (Ex.wf A8).wf om om _ _ w8 hT) ?_
 rintro _ w9 ⟨rfl,aB⟩
 have o7:=aB.size
 have hK:=hK.ext aB
 refine W ?_
 exact⟨_,rfl,⟨_,true,rfl,⟨λ_=>⟨e,f,he,ba,hn,hf,fj⟩,λ_=>rfl⟩,λe' f' h1 h2 h3 _=>by cases ER h1 h2;rw[hf] at h3;cases h3;rfl⟩,hK⟩
def eE:Option Ty->ai
 |some T=>T.text
 |none=>[]
def mc (h:ai) (Ts:List Ty):Prop:=(fX h=true∧∃A,Ts=[A])∨(gH h=true∧∃A B,Ts=[A,B])∨(h=gj∧∃A B C,Ts=[A,B,C])
theorem mc.pos {Ts:List Ty} (hj:mc h Ts):0<Ts.length:=by
 rcases hj with⟨_,A,rfl⟩|⟨_,A,B,rfl⟩|⟨_,A,B,C,rfl⟩<;>simp
theorem mc.three {Ts:List Ty} (hj:mc gj Ts):∃A B C,Ts=[A,B,C]:=by
 rcases hj with⟨h,_⟩|⟨h,_⟩|⟨_,h⟩
 ·exact absurd h de
 ·exact absurd h de
 ·exact h
theorem mc.two {Ts:List Ty} (hj:mc h Ts) (hb:gH h=true):∃A B,Ts=[A,B]:=by
 rcases hj with⟨h1,_⟩|⟨_,h1⟩|⟨rfl,_⟩
 ·exfalso
  simp only[fX,oE,dE] at h1
  rcases h1 with rfl|rfl<;>exact absurd hb de
 ·exact h1
 ·exact absurd hb de
theorem mc.one {Ts:List Ty} (hj:mc h Ts) (hb:fX h=true):∃A,Ts=[A]:=by
 rcases hj with⟨_,h1⟩|⟨h1,_⟩|⟨rfl,_⟩
 ·exact h1
 ·exfalso
  simp only[fX,oE,dE] at hb
  rcases hb with rfl|rfl<;>exact absurd h1 de
 ·exact absurd hb de
def yG (f:Bool):Ty->Option (Ty×Ty)
 | .op g a b=>if g=f then some (a,b) else none
 | .i=>none
theorem Vl:A.text=[105]↔A= .i:=⟨λh=>Ty.inj (h.trans (rfl:([105]:ai)=Ty.text .i)),λh=>by rw[h];rfl⟩
theorem ag9:fX B2=true:=by simp[fX]
theorem aha:fX qU=true:=by simp[fX]
theorem Vm:gH j4=true:=by simp[gH]
theorem ahb:gH xS=true:=by simp[gH]
theorem Vn (hh:(h=[43]∨h=[45])∨h=[42]):gH h=true:=by
 rcases hh with(rfl|rfl)|rfl<;>simp[gH]
theorem ahc (h:ai) (ks:List ai) (hl:ks.length<=1000) (hn:[]∈ks) (v:Value) (L:List Nat) (w:World) (hv:bc L w v ks):
  bz Tryz.prog 198 [str h,v] w λr w'=>r=str []∧aj [] w w':=by
 have hK:=aj.refl [] w
 refine bS [.tmp 4] 117 Tryz.func198 rfl RS rfl rfl ?_
 refine W ?_
 refine aA (AJ ks om [] _ _ w hv) ?_
 rintro _ w1 ⟨rfl,aI⟩
 have cV:=aI.size
 have hK:=hK.ext aI
 refine aZ<|zc rfl (λh1=>?_) (λh1=>?_)
 refine W ?_
 exact⟨_,rfl,rfl,hK⟩
 exact absurd hn (by simpa using h1)
theorem ahd {B:Ty} (ho:o=yG true A) (hs:o.isSome=true) (he:sP o=B.text):str (yq o)=str (eE (kB j4 [A,B])):=by
 cases A with
 |i=>rw[ho] at hs;cases hs
 |op g a b=>
  cases g with
  |false=>rw[ho] at hs;cases hs
  |true=>
   subst ho
   have he:a.text=B.text:=he
   show str b.text=str (eE (if kA a B=true then some b else none))
   rw[iP (show kA a B=true from dT he)];rfl
theorem Vo (ho:o=yG false A) (hs:o.isSome=true):str (sP o)=str (eE (kB B2 [A]))∧str (yq o)=str (eE (kB qU [A])):=by
 cases A with
 |i=>rw[ho] at hs;cases hs
 |op g a b=>
  cases g with
  |true=>rw[ho] at hs;cases hs
  |false=>subst ho;exact⟨rfl,rfl⟩
theorem ahe (A B:Ty):eE (kB xS [A,B])=if 1+A.n+B.n<=16 then(Ty.op false A B).text else[]:=by
 show eE (if 1+A.n+B.n<=16 then some (.op false A B) else none)=_
 split<;>rfl
theorem ahf (hh:(h=[43]∨h=[45])∨h=[42]):eE (kB h [.i,.i])=[105]:=by
 rcases hh with(rfl|rfl)|rfl<;>rfl
theorem ahg (hj:mc h (A::r9)) {o1 o2:Option (Ty×Ty)} (xq:o1=yG true A) (vJ:o2=yG false A) 
  (bK:(decide (h=gj)&&decide (A.text=[105])&&decide ((bX ((A::r9).map Ty.text) 1)=(bX ((A::r9).map Ty.text) 2)))=false) (bU:(decide (h=j4)&&o1.isSome&&decide (sP o1=(bX ((A::r9).map Ty.text) 1)))=false) (dO:¬h=xS)
  (jx:(decide (h=B2)&&o2.isSome)=false) (j9:(decide (h=qU)&&o2.isSome)=false) (qq:(((decide (h=[43])||decide (h=[45]))||decide (h=[42]))&&decide (A.text=[105])&&decide ((bX ((A::r9).map Ty.text) 1)=[105]))=false):eE (kB h (A::r9))=[]:=by
 rcases hj with⟨hu,A0,e⟩|⟨hb,A0,B,e⟩|⟨rfl,A0,B,C0,e⟩<;>cases e
 ·simp only[fX,oE,dE] at hu
  cases A with
  |i=>rfl
  |op g a b=>
   cases g with
   |true=>rfl
   |false=>
    subst vJ
    rcases hu with rfl|rfl
    ·exact Bool.noConfusion (show true=false from jx)
    ·exact Bool.noConfusion (show true=false from j9)
 ·have N9:bX ([A,B].map Ty.text) 1=B.text:=rfl
  rw[N9] at bU qq
  have Oa:(h=[43]∨h=[45])∨h=[42]->eE (kB h [A,B])=[]:=λhh=>by
   have h0:((decide (h=[43])||decide (h=[45]))||decide (h=[42]))=true:=by simpa using hh
   rw[h0,Bool.true_and,Bool.and_eq_false_iff] at qq
   have h1:kB h [A,B]=if(kA A .i&&kA B .i)=true then some .i else none:=by
    rcases hh with(rfl|rfl)|rfl<;>rfl
   have hi:Ty.i.text=[105]:=rfl
   rw[h1,iN (by unfold kA;rw[hi];rcases qq with h|h<;>rw[h]<;>simp)];rfl
  simp only[gH,oE,dE] at hb
  rcases hb with(((rfl|rfl)|rfl)|rfl)|rfl
  ·exact Oa (.inl (.inl rfl))
  ·exact Oa (.inl (.inr rfl))
  ·exact Oa (.inr rfl)
  ·cases A with
   |i=>rfl
   |op g a b=>
    cases g with
    |false=>rfl
    |true=>
     subst xq
     have bU:decide (a.text=B.text)=false:=bU
     show eE (if kA a B=true then some b else none)=[]
     rw[iN (by unfold kA;rw[bU];simp)];rfl
  ·exact absurd rfl dO
 ·have N9:bX ([A,B,C0].map Ty.text) 1=B.text:=rfl
  have hcC:bX ([A,B,C0].map Ty.text) 2=C0.text:=rfl
  rw[N9,hcC] at bK
  have bK:(decide (A.text=[105])&&decide (B.text=C0.text))=false:=bK
  show eE (if(kA A .i&&kA B C0)=true then some B else none)=[]
  have hi:Ty.i.text=[105]:=rfl
  rw[iN (by unfold kA;rw[hi,bK];simp)];rfl
theorem ahi (hj:mc h (A::r9)) (hh:h=gj) (hA:A.text=[105]) (hB:(bX ((A::r9).map Ty.text) 1)=(bX ((A::r9).map Ty.text) 2)):str (bX ((A::r9).map Ty.text) 1)=str (eE (kB h (A::r9))):=by
 subst hh
 obtain⟨A0,B,C0,e⟩:=hj.three
 cases e
 have hB:B.text=C0.text:=hB
 show str B.text=str (eE (if(kA A .i&&kA B C0)=true then some B else none))
 rw[iP (by rw[aE];exact⟨dT hA,dT hB⟩)];rfl
theorem ahj (hj:mc h (A::r9)) (hh:h=j4) (ho:o=yG true A) (hs:o.isSome=true) (he:sP o=(bX ((A::r9).map Ty.text) 1)):str (yq o)=str (eE (kB h (A::r9))):=by
 subst hh
 obtain⟨A0,B,e⟩:=hj.two Vm
 cases e
 exact ahd ho hs he
theorem ahk (hj:mc h (A::r9)) (hh:h=B2) (ho:o=yG false A) (hs:o.isSome=true):str (sP o)=str (eE (kB h (A::r9))):=by
 subst hh
 obtain⟨A0,e⟩:=hj.one ag9
 cases e
 exact(Vo ho hs).1
theorem ahl (hj:mc h (A::r9)) (hh:h=qU) (ho:o=yG false A) (hs:o.isSome=true):str (yq o)=str (eE (kB h (A::r9))):=by
 subst hh
 obtain⟨A0,e⟩:=hj.one aha
 cases e
 exact(Vo ho hs).2
theorem ahm {B:Ty} (hh:h=xS) (e:A::r9=[A,B]):str (if 1+A.n+B.n<=16 then(Ty.op false A B).text else[])=str (eE (kB h (A::r9))):=by
 subst hh
 rw[e,ahe]
theorem ahn (hj:mc h (A::r9)) (hh:(h=[43]∨h=[45])∨h=[42]) (hA:A.text=[105]) (hB:(bX ((A::r9).map Ty.text) 1)=[105]):str [105]=str (eE (kB h (A::r9))):=by
 obtain⟨A0,B,e⟩:=hj.two (Vn hh)
 cases e
 have hB:B.text=[105]:=hB
 obtain rfl:=Vl.1 hA
 obtain rfl:=Vl.1 hB
 rw[ahf hh]
theorem aho (hj:mc h (A::r9)) (hh:h=xS):∃B,A::r9=[A,B]∧(bX ((A::r9).map Ty.text) 1)=B.text:=by
 subst hh
 obtain⟨A0,B,e⟩:=hj.two ahb
 cases e
 exact⟨B,rfl,rfl⟩
theorem ahp (h:ai) (Ts:List Ty) (hj:mc h Ts) (hT:∀T,T∈Ts->T.n<=16) (v:Value) (L:List Nat) (w:World) (hv:bc L w v (Ts.map Ty.text)):
  bz Tryz.prog 198 [str h,v] w λr w'=>r=str (eE (kB h Ts))∧aj [] w w':=by
 have hK:=aj.refl [] w
 have hp:=hj.pos
 have cO:=hv
 obtain⟨a,np,c,rfl,Vp⟩:=dJ hv
 have eu:(Ts.map Ty.text).length=Ts.length:=by simp
 rw[eu] at Vp
 subst Vp
 obtain⟨A,r9,rfl⟩:∃A r,Ts=A::r:=by cases Ts with|nil=>simp at hp|cons A r=>exact⟨A,r,rfl⟩
 have hA:=hT A sm
 have hg:∀i,i<(A::r9).length->(((A::r9).map Ty.text)[i]?=some (bX ((A::r9).map Ty.text) i)):=λi hi=>km (by rw[eu];exact hi)
 obtain⟨b,off,rfl,et⟩:=pB cO (hg 0 hp)
 have hx:∀i,i<(A::r9).length->fS w b (off+i*1) [str (bX ((A::r9).map Ty.text) i)]:=λi hi=>by obtain⟨b1,eX,e1,hc⟩:=pB cO (hg i hi);cases e1;exact hc
 have dL:([]:ai)∉(A::r9).map Ty.text:=λhm=>by obtain⟨T,_,h2⟩:=List.mem_map.1 hm;exact absurd h2 T.ne
 refine bS [.tmp 4] 117 Tryz.func198 rfl RS rfl rfl ?_
 refine W ?_
 refine aA (AJ ((A::r9).map Ty.text) (by rw[eu];rcases hj with⟨_,_,e⟩|⟨_,_,_,e⟩|⟨_,_,_,_,e⟩<;>rw[e]<;>simp) [] _ _ w cO) ?_
 rintro _ w1 ⟨rfl,aI⟩
 have cV:=aI.size
 have hK:=hK.ext aI
 refine aZ<|zc rfl (λh1=>?_) (λh1=>?_)
 exact absurd (by simpa using h1) dL
 refine gY<|zr<|zm<|zi (i:=0) bh bf rfl rfl hp<|zl gD rfl ((hx 0 hp).ext hK 0 _ rfl)<|aA (Ug A.text w1) ?_
 rintro v2 w2 ⟨ij,az⟩
 have dm:=az.size
 have hK:=hK.ext az
 obtain⟨o1,xq,rfl⟩:=ij
 have xq:o1=yG true A:=(by have:=Ui hA true xq;cases A<;>exact this)
 refine WI ?_
 refine zi (i:=0) bh bf rfl rfl hp<|zl gD rfl ((hx 0 hp).ext hK 0 _ rfl)<|aA (Uh A.text w2) ?_
 rintro v3 w3 ⟨ko,aH⟩
 have fm:=aH.size
 have hK:=hK.ext aH
 obtain⟨o2,vJ,rfl⟩:=ko
 have vJ:o2=yG false A:=(by have:=Ui hA false vJ;cases A<;>exact this)
 refine W ?_
 refine D8 [32,33,34,35,36,37,38,39,40,41,42,43,44,45,46,47,48,31] [(31,.bool (decide (h=gj)&&decide (A.text=[105])&&decide ((bX ((A::r9).map Ty.text) 1)=(bX ((A::r9).map Ty.text) 2))))] ?_ ?_
 rcases bE (decide (h=gj)) with iD|iD
 rcases bE (decide (h=gj)&&decide (A.text=[105])) with mx|mx
 apply k8 dj 18 (rA 32 17++[31]) (rA 32 17++[31]) [[],[0],[1],[2],[2,3],[2,4],[2,5],[2,6],[7],[8],[8,9],[8,10],[8],[8,12],[8,13],[8,11,14],[8,15],[16]] [It.v _,It.v _,It.v (.bool true),It.v _,It.v _,It.v _,It.v _,It.v _,It.v (.bool true),It.v _,It.v _,It.v _,It.v _,It.v _,It.v _,It.v _,It.v _,It.v _] de rfl
 intro wd aC
 refine VA ?_
 refine vc (λx w4 aO=>?_) ?_
 refine WZ ?_
 exact pv (by exact congrArg Value.bool iD)
 refine vc (λ_ _ _=>WZ pv) ?_
 refine vk aC (λx w4 aO=>?_) ?_
 refine zi (i:=0) bh bf rfl rfl hp ?_
 exact pv
 refine vk aC (λx w4 aO=>?_) ?_
 have hK:=hK.ext aO
 refine zl gD rfl ((hx 0 hp).ext hK 0 _ rfl) ?_
 exact pv
 refine VA ?_
 refine vc (λx w4 aO=>?_) ?_
 refine zm ?_
 exact pv (by first|exact congrArg Value.bool mx|(rw[iD] at mx;exact congrArg Value.bool mx))
 refine VA ?_
 refine vk aC (λx w4 aO=>?_) ?_
 have hg:=mx
 refine zi (i:=1) bh bf rfl rfl ((by simp only[aE,dE] at hg;obtain⟨_,_,_,e⟩:=(hg.1▸hj:mc gj _).three;rw[e];simp)) ?_
 exact pv
 refine vk aC (λx w4 aO=>?_) ?_
 have hK:=hK.ext aO
 have hg:=mx
 refine zl gD rfl ((hx 1 (by simp only[aE,dE] at hg;obtain⟨_,_,_,e⟩:=(hg.1▸hj:mc gj _).three;rw[e];simp)).ext hK 0 _ rfl) ?_
 exact pv
 refine VA ?_
 refine vk aC (λx w4 aO=>?_) ?_
 have hg:=mx
 refine zi (i:=2) bh bf rfl rfl ((by simp only[aE,dE] at hg;obtain⟨_,_,_,e⟩:=(hg.1▸hj:mc gj _).three;rw[e];simp)) ?_
 exact pv
 refine vk aC (λx w4 aO=>?_) ?_
 have hK:=hK.ext aO
 have hg:=mx
 refine zl gD rfl ((hx 2 (by simp only[aE,dE] at hg;obtain⟨_,_,_,e⟩:=(hg.1▸hj:mc gj _).three;rw[e];simp)).ext hK 0 _ rfl) ?_
 exact pv
 exact VZ
 intro x oZ jy
 change OW _ _ _ _ [] (bo (bj _ x _) (zZ 32 [_,_,_,_,_,_,_,_,_,_,_,_,_,_,_,_,_]++[(31,_)])) _
 refine W ?_
 exact kE jy
 apply k8 dj 18 (rA 32 17++[31]) (rA 32 17++[31]) [[],[0],[1],[2],[2,3],[2,4],[2,5],[2,6],[7],[8],[8,9],[8,10],[8],[8,12],[8,13],[8,11,14],[8,15],[16]] [It.v _,It.v _,It.v (.bool true),It.v _,It.v _,It.v _,It.v _,It.v _,It.v (.bool false),It.v _,It.v _,It.v _,It.v _,It.v _,It.v _,It.v _,It.v _,It.v _] de rfl
 intro wd aC
 refine VA ?_
 refine vc (λx w4 aO=>?_) ?_
 refine WZ ?_
 exact pv (by exact congrArg Value.bool iD)
 refine vc (λ_ _ _=>WZ pv) ?_
 refine vk aC (λx w4 aO=>?_) ?_
 refine zi (i:=0) bh bf rfl rfl hp ?_
 exact pv
 refine vk aC (λx w4 aO=>?_) ?_
 have hK:=hK.ext aO
 refine zl gD rfl ((hx 0 hp).ext hK 0 _ rfl) ?_
 exact pv
 refine VA ?_
 refine vc (λx w4 aO=>?_) ?_
 refine zm ?_
 exact pv (by first|exact congrArg Value.bool mx|(rw[iD] at mx;exact congrArg Value.bool mx))
 exact VZ
 intro x oZ jy
 change OW _ _ _ _ [] (bo (bj _ x _) (zZ 32 [_,_,_,_,_,_,_,_,_,_,_,_,_,_,_,_,_]++[(31,_)])) _
 refine W ?_
 exact kE jy
 apply k8 dj 18 (rA 32 17++[31]) (rA 32 17++[31]) [[],[0],[1],[2],[2,3],[2,4],[2,5],[2,6],[7],[8],[8,9],[8,10],[8],[8,12],[8,13],[8,11,14],[8,15],[16]] [It.v _,It.v _,It.v (.bool false),It.v _,It.v _,It.v _,It.v _,It.v _,It.v (.bool false),It.v _,It.v _,It.v _,It.v _,It.v _,It.v _,It.v _,It.v _,It.v _] de rfl
 intro wd aC
 refine VA ?_
 refine vc (λx w4 aO=>?_) ?_
 refine WZ ?_
 exact pv (by exact congrArg Value.bool iD)
 refine vc (λx w4 aO=>?_) ?_
 exact cF pv
 refine vk aC (λx w4 aO=>?_) ?_
 exact cF pv
 refine vk aC (λx w4 aO=>?_) ?_
 exact cF pv
 refine vk aC (λx w4 aO=>?_) ?_
 exact cF pv
 refine vc (λ_ _ _=>WZ pv) ?_
 refine vc (λx w4 aO=>?_) ?_
 refine WZ ?_
 exact pv (by rfl)
 exact VZ
 intro x oZ jy
 change OW _ _ _ _ [] (bo (bj _ x _) (zZ 32 [_,_,_,_,_,_,_,_,_,_,_,_,_,_,_,_,_]++[(31,_)])) _
 refine W ?_
 exact kE jy
 intro x oZ jy
 have hK:=hK.ext jy
 refine zc rfl (λh2=>?_) (λh2=>?_)
 simp only[aE,dE] at h2
 obtain⟨⟨hh,ES⟩,hBC⟩:=h2
 have iy:1<(A::r9).length:=(by obtain⟨_,_,_,e⟩:=(hh▸hj:mc gj _).three;rw[e];simp)
 refine zr<|zm<|zi (i:=1) bh bf rfl rfl iy<|zl gD rfl ((hx 1 iy).ext hK 0 _ rfl)<|zA<|aZ<|jZ ?_
 exact⟨_,rfl,ahi hj hh ES hBC,hK⟩
 have bK:=h2
 refine WZ ?_
 apply oB 2 55 57 rfl oQ
 intro _
 exact oQ
 intro xx
 refine WZ ?_
 apply oB 6 58 64 rfl oQ
 intro h4
 have iy:1<(A::r9).length:=(by simp only[aE,dE] at h4;obtain⟨_,_,e⟩:=hj.two (h4.1▸Vm);rw[e];simp)
 refine zm<|zm<|zi (i:=1) bh bf rfl rfl iy<|zl gD rfl ((hx 1 iy).ext hK 0 _ rfl) ?_
 exact oQ
 intro xx
 refine zA<|aZ<|zc rfl (λh5=>?_) (λh5=>?_)
 simp only[aE,dE] at h5
 obtain⟨⟨hh,cV⟩,IL⟩:=h5
 refine W ?_
 exact⟨_,rfl,ahj hj hh xq cV IL,hK⟩
 have bU:=h5
 refine W ?_
 refine zc rfl (λh6=>?_) (λh6=>?_)
 have hh:h=xS:=h6
 obtain⟨B,eB,hK1⟩:=aho hj hh
 have iy:1<(A::r9).length:=(by rw[eB];simp)
 have ik:=hx 1 iy
 rw[hK1] at ik
 refine WZ ?_
 apply dV dj 12 [70,71,72,73,74,75,76,69,77,78,11,12] [[],[0],[1],[],[3],[4],[2,5],[6],[7],[7],[8],[9]] (it [_,_,_,_,_,_,_,_,_,_,_,_]) de rfl
 intro wd aC
 refine vc (λ_ _ _=>WZ pv) ?_
 refine vk aC (λx o6 iX=>?_) ?_
 refine zi (i:=0) bh bf rfl rfl hp ?_
 exact pv
 refine vk aC (λx o6 iX=>?_) ?_
 have hK:=hK.ext iX
 refine zl gD rfl ((hx 0 hp).ext hK 0 _ rfl) ?_
 exact pv
 refine vc (λ_ _ _=>WZ pv) ?_
 refine vk aC (λx o6 iX=>?_) ?_
 refine zi (i:=1) bh bf rfl rfl iy ?_
 exact pv
 refine vk aC (λx o6 iX=>?_) ?_
 have hK:=hK.ext iX
 refine zl gD rfl (ik.ext hK 0 _ rfl) ?_
 exact pv
 refine vk aC (λx o6 iX=>?_) ?_
 refine aA (Uk false A B hA (hT B (by rw[eB];simp)) o6) ?_
 rintro _ qw ⟨rfl,rQ⟩
 have apc:=rQ.size
 exact pk rQ
 exact VZ
 intro x w83 ahs
 have hK:=hK.ext ahs
 change OW _ _ _ _ [] (bo (bj _ x _) (zZ 70 [_,_,_,_,_,_,_]++[(69,_),(77,_),(78,_),(11,_),(12,_)])) _
 refine W ?_
 exact⟨_,rfl,ahm hh eB,hK⟩
 have dO:=h6
 refine WZ ?_
 apply oB 2 83 85 rfl oQ
 intro _
 exact oQ
 intro xx
 refine zA<|aZ<|zc rfl (λh8=>?_) (λh8=>?_)
 simp only[aE,dE] at h8
 obtain⟨hh,cV⟩:=h8
 refine W ?_
 exact⟨_,rfl,ahk hj hh vJ cV,hK⟩
 have jx:=h8
 refine WZ ?_
 apply oB 2 90 92 rfl oQ
 intro _
 exact oQ
 intro xx
 refine zA<|aZ<|zc rfl (λfO=>?_) (λfO=>?_)
 simp only[aE,dE] at fO
 obtain⟨hh,cV⟩:=fO
 refine W ?_
 exact⟨_,rfl,ahl hj hh vJ cV,hK⟩
 have j9:=fO
 refine WZ ?_
 apply oP 3 97 100 rfl oQ
 intro _
 exact oQ
 intro xx
 refine WZ ?_
 apply oP 3 101 104 rfl oQ
 intro _
 exact oQ
 intro xx
 refine WZ ?_
 apply oB 5 105 110 rfl oQ
 intro _
 refine zm<|zi (i:=0) bh bf rfl rfl hp<|zl gD rfl ((hx 0 hp).ext hK 0 _ rfl) ?_
 exact oQ
 intro xx
 refine WZ ?_
 apply oB 5 111 116 rfl oQ
 intro D6
 have iy:1<(A::r9).length:=(by simp only[aE,oE,dE] at D6;obtain⟨_,_,e⟩:=hj.two (Vn D6.1);rw[e];simp)
 refine zm<|zi (i:=1) bh bf rfl rfl iy<|zl gD rfl ((hx 1 iy).ext hK 0 _ rfl) ?_
 exact oQ
 intro xx
 refine zA<|aZ<|zc rfl (λKc=>?_) (λKc=>?_)
 simp only[aE,oE,dE] at Kc
 obtain⟨⟨hh,ES⟩,hBi⟩:=Kc
 refine W ?_
 exact⟨_,rfl,ahn hj hh ES hBi,hK⟩
 have qq:=Kc
 refine W ?_
 exact⟨_,rfl,congrArg (λx=>str x) (ahg hj xq vJ bK bU dO jx j9 qq).symm,hK⟩
end Go.Proofs.YthbhobaiopccaaaGreatDoor
