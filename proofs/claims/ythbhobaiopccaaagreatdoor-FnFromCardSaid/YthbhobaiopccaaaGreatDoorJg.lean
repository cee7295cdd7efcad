/- Lemmas for the law FnFrom, no statement of their own: no conditions. -/
import Derived.Test.YthbhobaiopccaaaGreatDoorJf
set_option maxHeartbeats 4000000
set_option linter.unusedVariables false
set_option linter.unusedSimpArgs false
namespace Go.Proofs.YthbhobaiopccaaaGreatDoor
open Go
variable {G L:List Nat} {w w':World} {b c k n sz x:Nat} {v:Value} {g:Option Nat} {rows:List (List C)} {ts:List aq} {e:Ex} {xs:List aj} {bs:Bs}
theorem tl (ts:List aq) (i:Nat) (t:aq):(cQ ts).set i t.enc=cQ (ts.set i t):=by rw[yb,yb,List.map_set]
theorem VQ (ts:List aq):∀row,row∈cQ ts->∀c,c∈row->∀v,c= .val v->v.oneCell'=true:=by
 intro row hr c hc v hv
 rw[yb] at hr
 obtain⟨t,_,rfl⟩:=List.mem_map.1 hr
 cases t with
 |mk a ps=>
  simp only[aq.enc,mC,List.not_mem_nil,or_false] at hc
  rcases hc with h|h
  ·subst h;cases hv;rfl
  ·subst h;cases hv
theorem dO.ext {T:TypeId} (h:dO L w T sz v g rows) (k:ak [] w w'):dO L w' T sz v g rows:=h.any k
theorem dO.grow {T:TypeId} (h:dO L w T sz v g rows):dO (w.heap.size::L) w T sz v g rows:=h.sub yd
theorem dO.aD {T:TypeId} (h:dO (x::L) w T sz v g rows) (k:ak [x] w w') (hx:x∉g.toList):dO (x::L) w' T sz v g rows:=
 h.aG (Fr.of k sm) k λy hy wH=>hx (by simp at wH;subst wH;exact hy)
structure jf (G:List Nat) (w0 w:World) (br:Nat) (ag:List aj) (n gb b8:Nat) (vP:Value) (ts:List aq):Prop where
 rn:RN G w br ag n
 own:dO G w 74 2 vP (some gb) (cQ ts)
 kb:ak [br] w0 w
 bx:aL w b8 [str [],.slice none 0 0].toArray 74
 mem:gb∈G∧b8∈G
 ne:br≠gb∧b8≠gb∧br≠b8
 low:w0.heap.size<=gb∧w0.heap.size<=b8
 cN:eZ G w
section
variable {G:List Nat} {w0 w w':World} {br:Nat} {ag:List aj} {n gb b8:Nat} {vP:Value} {ts:List aq}
theorem jf.ext (h:jf G w0 w br ag n gb b8 vP ts) (k:ak [] w w'):jf G w0 w' br ag n gb b8 vP ts:=
 ⟨h.rn.ext k,h.own.ext k,h.kb.ext k,h.bx.ext k,h.mem,h.ne,h.low,λx hx=>lL (h.cN x hx) k.size⟩
theorem jf.out {G' G0:List Nat} (h:jf G w0 w br ag n gb b8 vP ts) (k:Fr G w G' w') (ho:Out w0.heap.size G0 w w') (hb:br∈G0∧gb∈G0∧b8∈G0) (gC:br∈G'∧gb∈G'∧b8∈G') (hl:eZ G' w'):jf G' w0 w' br ag n gb b8 vP ts:=
 ⟨h.rn.out k ho hb.1 gC.1,h.own.out k ho (by simpa using hb.2.1),ho.since h.kb,ho.iy h.bx hb.2.2,gC.2,h.ne,h.low,hl⟩
theorem jf.call {n':Nat} (h:jf G w0 w br ag n gb b8 vP ts) (hr:RN G w' br ag n') (k:ak [br] w w'):jf G w0 w' br ag n' gb b8 vP ts:=
 ⟨hr,h.own.aG (Fr.of k (by simpa using h.rn.mem)) k (by intro x hx eA;simp at hx eA;exact h.ne.1 (eA.symm.trans hx)),h.kb.trans k,h.bx.aG k (by simpa using λe=>h.ne.2.2 e.symm),h.mem,h.ne,h.low,λx hx=>lL (h.cN x hx) k.size⟩
theorem jf.store {ts':List aq} (h:jf G w0 w br ag n gb b8 vP ts) (k:ak [gb] w w') (ho:dO G w' 74 2 vP (some gb) (cQ ts')):jf G w0 w' br ag n gb b8 vP ts':=
 ⟨h.rn.aG k (by simpa using h.ne.1) (by simpa using h.mem.1),ho,h.kb.since k (by intro x hx;simp at hx;subst hx;exact .inr h.low.1),h.bx.aG k (by simpa using h.ne.2.1),h.mem,h.ne,h.low,λx hx=>lL (h.cN x hx) k.size⟩
theorem jf.jo (h:jf G w0 w br ag n gb b8 vP ts):∀x,x∈[gb]->x∈G:=by simpa using h.mem.1
theorem jf.oe (h:jf G w0 w br ag n gb b8 vP ts):∀x,x∈[br]->x∈G:=by simpa using h.rn.mem
end
theorem jf.fin {w0:World} {br:Nat} {ag:List aj} {gb b8:Nat} {vP:Value} (h:jf (gb::b8::G) w0 w br ag n gb b8 vP ts) (hG:eZ G w0) (oT:br∈G) (k:ak [b8] w w'):
  bh G w' (.agg #[str [],vP]) (.mk [] ts)∧RN G w' br ag n∧ak [br] w0 w':=by
 have oJ:gb∉b8::G:=λhx=>by
  rcases mC.1 hx with h1|h1
  ·exact h.ne.2.1 h1.symm
  ·have:=hG gb h1;have:=h.low.1;omega
 have h1:ck (b8::G) w vP (.sl 2 (cQ ts)):=h.own.rep (λx hx=>.inl (by simpa using hx)) (by simpa using oJ)
 have h2:bh (b8::G) w (.agg #[str [],vP]) (.mk [] ts):=km h1
 refine⟨(h2.aD k sm).fV (λx hx=>mK _ hx),(h.rn.aG k (by simpa using h.ne.2.2) sm).re oT (λx hx=>.inl (by simp[hx])),h.kb.since k (λx hx=>?_)⟩
 simp at hx;subst hx;exact .inr h.low.2
theorem Ov (s:aj):dd G w [str s,.slice none 0 0] (bH s).enc:=bh.ji (km nM)
theorem ahi (ag:List aj) (ρ:Rn) (n:Nat) {M:Nat} (ha:e.iM=false) (hl:isLt e=false) (hk:k<e.kids.length) (h1:ρ.length+2*e.n<=100000) (h2:n+e.n*(ag.length+2)<=100000) (hM:M<=nF ag n e+kN e k*(ag.length+2)):
  (jn ag ρ n e).length+2*(fZ e k).n<=100000∧M+(fZ e k).n*(ag.length+2)<=100000:=by
 have h3:=yZ hk
 have h4:=E4 cx ag n
 have h5:=E4 cx ag (bw cx ag n+1)
 have h6:(jn ag ρ n e).length+2*(fZ e k).n<=ρ.length+2*e.n∧nF ag n e+kN e (k+1)*(ag.length+2)<=n+e.n*(ag.length+2):=by
  cases e with
  |«at» s=>cases ha
  |lt x a b=>cases hl
  |fn f x A B b=>
   have gq:k=0:=by simp[Ex.kids] at hk;exact hk
   subst gq
   have e1:(fZ (.fn f x A B b) 0).n=b.n:=rfl
   have e2:kN (.fn f x A B b) 1=b.n:=by simp[kN,Ex.kids]
   have e3:(Ex.fn f x A B b).n=3+A.n+B.n+b.n:=rfl
   rw[e1,e2,e3]
   simp only[jn,nF,lA,lC,List.length_nil,Nat.add_mul]
   constructor<;>omega
  |un h a=>
   have:=C8 (.un h a) (k+1)
   exact⟨by show ρ.length+_<=_;omega,Nat.add_le_add_left (Nat.mul_le_mul_right _ this) _⟩
  |bi h a b=>
   have:=C8 (.bi h a b) (k+1)
   exact⟨by show ρ.length+_<=_;omega,Nat.add_le_add_left (Nat.mul_le_mul_right _ this) _⟩
  |ite a b c=>
   have:=C8 (.ite a b c) (k+1)
   exact⟨by show ρ.length+_<=_;omega,Nat.add_le_add_left (Nat.mul_le_mul_right _ this) _⟩
 rw[h3,Nat.add_mul] at h6
 omega
theorem ahj (ag:List aj) (ir:ag.length<=10000):∀(m:Nat) (e:Ex),e.n<=m->e.n<=1000->e.ok->∀(ρ:Rn) (n:Nat),ρ.length+2*e.n<=100000->n+e.n*(ag.length+2)<=100000->∀(v vf vt:Value) (br:Nat) (G:List Nat) (w:World),
  bh G w v e.au->bg G w vf (ρ.map Prod.fst)->bg G w vt (ρ.map Prod.snd)->RN G w br ag n->eZ G w->
  bC Tryz.prog 217 [v,vf,vt,.pointer (some ⟨br,0,none⟩)] w λr w'=>(bh G w' r (bR ag e ρ n).1.au∧RN G w' br ag (bR ag e ρ n).2)∧ak [br] w w':=by
 intro m
 induction m with
 |zero=>intro e h;have:=e.pos;omega
 |succ m ih=>
  intro e hm kW bj ρ n oI pN v vf vt br G w cm Ow Ox Db hG
  obtain⟨a,np,c,rfl,hn,ze⟩:=cS cm
  subst hn
  obtain⟨af,nf,cf,rfl,rD⟩:=dU Ow
  obtain⟨at_,nt,ct,rfl,EC⟩:=dU Ox
  have ahk:(ρ.map Prod.fst).length=ρ.length:=by simp
  have apB:(ρ.map Prod.snd).length=ρ.length:=by simp
  have apC:=Db.lt
  have hK:=ak.refl [] w
  have Kh:=HC e
  have ur:=E4 cx ag n
  have jD:=E4 cx ag (bw cx ag n+1)
  have hB:e.n*(ag.length+2)<=100000:=by omega
  refine j1 [.cell 8 74] 155 Tryz.func217 rfl ac3 rfl rfl rfl ?_
  refine zr<|ey rfl λw1 aI aF di=>?_
  have hK:=hK.ext aI
  refine da aK rfl rfl rfl λw2 az cz dK=>?_
  have hK:=hK.grow;have hK:=hK.ext az;have aF:=aF.grow;have aF:=aF.ext az
  refine W ?_
  refine zc rfl (λh1=>?_) (λh1=>?_)
  have aY:∃x,e= .at x:=(by have ha:=(vM bj).1 h1;cases e<;>first|exact⟨_,rfl⟩|cases ha)
  obtain⟨x,rfl⟩:=aY
  refine W ?_
  refine aA (vH _ _) ?_
  rintro _ _ ⟨rfl,rfl⟩
  refine aV<|zc rfl (λh2=>?_) (λh2=>?_)
  have hq:(bR ag (.at x) ρ n).1.au=bH (qG ρ x):=(show bH (if dX x=true then qG ρ x else x)=bH (qG ρ x) from congrArg bH (iP h2))
  refine W ?_
  refine aA (ag4 (ρ.map Prod.fst) (ρ.map Prod.snd) om om x _ _ _ _ w2 (Ow.ext hK) (Ox.ext hK)) ?_
  rintro _ w3 ⟨rfl,aH⟩
  have eM:=aH.size
  refine bL aH hK cz λhK cz=>?_
  refine aA (Bm _ w3) ?_
  rintro _ w4 ⟨rfl,aN⟩
  have fg:=aN.size
  refine bL aN hK cz λhK cz=>?_
  refine cu aK rfl rfl rfl cz rfl λw5 aJ cz iq=>?_
  have hK:=hK.aD aJ sx
  refine W ?_
  have zg:=ag3 x ρ
  rw[<-ahk] at zg
  exact⟨[_],fB eK aK rfl cz rfl,⟨by rw[hq,<-zg];exact km nM,Db.ext hK⟩,hK.any⟩
  have hq:(bR ag (.at x) ρ n).1.au=bH x:=(show bH (if dX x=true then qG ρ x else x)=bH x from congrArg bH (iN (λhh=>Bool.noConfusion (hh.symm.trans h2))))
  refine W ?_
  refine cu aK rfl rfl rfl cz rfl λw3 aH cz fS=>?_
  have hK:=hK.aD aH sx
  refine W ?_
  exact⟨[_],fB eK aK rfl cz rfl,⟨by rw[hq];exact bh.ext cm hK,Db.ext hK⟩,hK.any⟩
  have eX:e.iM=false:=(by cases hh:e.iM;rfl;exact absurd ((vM bj).2 hh) h1)
  obtain⟨HD,lK,js,xl⟩:=Ex.ai eX
  obtain⟨jB,EY,EZ⟩:=HB bj eX
  have HE:=M4 bj eX
  have l3:ek (nth e.au.ai 0).av=(e.from,e.from+e.kids.length):=by rw[js];exact HE
  obtain⟨b,off,yA,yB,e0,uw,ke⟩:=fm ze jB
  subst e0
  have ni:=hK
  have HL:=aF
  have ahl:=cz
  have ahm:=di
  have ahn:=dK
  refine gX<|zr<|tQ w2.heap.size (w1.heap.size::G) cw aK rfl rfl (lR _) (λx hx=>by rcases mC.1 hx with h|h;omega;have:=hG x h;omega) λw3 aH Ko xo=>?_
  have jT:=aH
  refine bL aH aF cz λaF cz=>?_
  refine W ?_
  refine xd cw aK rfl rfl rfl rfl rfl rfl xo (cX.ext (ck.fresh ze (L':=w2.heap.size::w1.heap.size::G) (by intro x hx;simp at hx;rcases hx with rfl|rfl|hx;right;omega;right;omega;exact .inl hx)) (ni.ext aH)) (VQ _) (by rw[gK];simp;omega) λa4 fT g4 w4 kJ aN=>?_
  have jT:=xo.since jT aN
  have hK:=ni.trans jT
  have aF:=HL.ext jT
  have cz:=ahl.ext jT
  have fg:=jT.size
  rw[show([]:List (List C)).length+(cQ e.au.ai).length=e.au.ai.length from by rw[gK];simp] at kJ⊢
  rw[List.nil_append] at kJ
  obtain⟨gb,e4,e5⟩:=kJ.form (by rw[gK];exact jB)
  subst e4
  subst e5
  have fH:gb<w4.heap.size:=kJ.lt gb sm
  have E5:w2.heap.size<=gb:=kJ.low gb rfl
  have hS:dO (gb::w1.heap.size::G) w4 74 2 (.slice (some ⟨gb,0,none⟩) e.au.ai.length fT) (some gb) (cQ e.au.ai):=(let⟨xs,hr⟩:=kJ.own;⟨⟨xs,hr.own,hr.rep⟩,hr.row⟩)
  refine iT (MS _ _ _ _) rfl rfl<|da aK rfl rfl rfl λw5 aJ dj iq=>?_
  have hK:=hK.grow;have hK:=hK.ext aJ;have aF:=aF.grow;have aF:=aF.ext aJ;have cz:=cz.grow;have cz:=cz.ext aJ;have hS:=hS.grow;have hS:=hS.ext aJ
  refine cu aK rfl rfl rfl dj rfl λw6 bB dj jR=>?_
  have hK:=hK.aD bB sx;have aF:=aF.aD bB sx;have cz:=cz.aD bB sx;have hS:=hS.aD bB sx
  refine aV<|zr<|zf ja rfl<|zl ix rfl (aF.at rfl) ?_
  have ly:∀x,x∈gb::w1.heap.size::G->x∈G∨w.heap.size<=x:=(by intro x hx;simp at hx;rcases hx with rfl|rfl|hx;right;omega;right;omega;exact .inl hx)
  have dC:=hK.size
  have VR:eZ (gb::w1.heap.size::G) w6:=(by intro x hx;simp at hx;rcases hx with rfl|rfl|hx;omega;omega;have:=hG x hx;omega)
  have E6:Fr G w (gb::w1.heap.size::G) w6:=⟨hK.any,ly⟩
  have aQ:=ze.go E6
  have fi:=Ow.go E6
  have eD:=Ox.go E6
  have uw:=uw.go E6
  have rE:RN (gb::w1.heap.size::G) w6 br ag n:=(Db.re (by simp[Db.mem]) ly).ext hK
  have gk:∀q,w.heap.size<=q->q≠gb->q≠w1.heap.size->q∉gb::w1.heap.size::G:=(by intro q h1 h2 h3 hx;simp at hx;rcases hx with h|h|h;exact h2 h;exact h3 h;have:=hG q h;omega)
  have aF:dW (gb::w1.heap.size::G) w6 w.heap.size _ _:=⟨aF,gk _ om om om⟩
  have dj:dW (gb::w1.heap.size::G) w6 w4.heap.size _ _:=⟨dj,gk _ om om om⟩
  have hS:=dO.sub hS (L':=gb::w1.heap.size::G) (λx hx=>.inl (mK _ hx))
  have aW:jf (gb::w1.heap.size::G) w w6 br ag n gb w1.heap.size _ e.au.ai:=⟨rE,hS,hK.any,cz,sm,om,om,VR⟩
  have aY:∃G2,G2=gb::w1.heap.size::G:=⟨_,rfl⟩
  obtain⟨G2,zh⟩:=aY
  rw[<-zh] at aQ fi eD aF dj uw aW
  have gd:br∈G2∧gb∈G2∧w1.heap.size∈G2:=⟨aW.rn.mem,aW.mem⟩
  refine zi (i:=0) cw aK rfl rfl jB<|zf lF rfl<|zl gv rfl (uw.cells 0 _ rfl)<|aA (Kd _ _) ?_
  rintro _ _ ⟨rfl,rfl⟩
  rw[yW l3]
  refine WI ?_
  refine zi (i:=0) cw aK rfl rfl jB<|W ?_
  refine zc rfl (λh3=>?_) (λh3=>?_)
  obtain⟨nx,ea,eb,rfl⟩:=Km bj (js.symm.trans h3)
  have xp:(Ex.lt nx ea eb).n=2+ea.n+eb.n:=rfl
  have hmul:(Ex.lt nx ea eb).n*(ag.length+2)=2*(ag.length+2)+ea.n*(ag.length+2)+eb.n*(ag.length+2):=by rw[xp,Nat.add_mul,Nat.add_mul]
  have apD:=jl ag ea ρ (bw cx ag n+1)
  have Kp:(Ex.lt nx ea eb).au.ai.length=4:=rfl
  refine zr<|zm<|aA (Ot ag n om ir br G2 w6 aW.rn) ?_
  rintro v7 w7 ⟨vN,bJ⟩
  have jd:=bJ.size
  have aQ:=aQ.aD bJ (aW.oe);have fi:=fi.aD bJ (aW.oe);have eD:=eD.aD bJ (aW.oe);have aF:=aF.aD bJ (aW.oe);have dj:=dj.aD bJ aW.oe
  obtain⟨rfl,rE⟩:=vN
  have aW:=aW.call rE bJ
  refine W ?_
  apply dV du 5 [51,52,53,54,55] [[],[0],[],[2],[1]] (it [_,_,_,_,_]) de rfl
  intro wd aB
  refine VA ?_
  refine vk aB (λx w8 aU=>?_) ?_
  refine aA (Bm _ w8) ?_
  rintro _ w9 ⟨rfl,aC⟩
  have lf:=aC.size
  exact pk aC
  refine vk aB (λx w8 aU=>?_) ?_
  refine zi (i:=1) cw aK rfl rfl ((show 1<4 from om)) ?_
  exact pv
  exact trivial
  intro x l5 jz
  refine sV jz aQ fi eD aF dj aW λaQ fi eD aF dj aW=>?_
  change OW _ _ _ _ _ (aS (aR _ x _) (zZ 51 [_,_,_,_,_])) _
  refine ti (i:=1) (vs:=[str (cW cx (bw cx ag n)),.slice none 0 0]) (row:=(bH (cW cx (bw cx ag n))).enc) aK rfl rfl rfl rfl rfl aW.own aW.cN aW.mem.1 (by rw[gK];omega) rfl (o5 _) (Ov _) λkZ iO sf dH=>?_
  rw[tl] at dH
  have aQ:=aQ.aD iO aW.jo;have fi:=fi.aD iO aW.jo;have eD:=eD.aD iO aW.jo;have aF:=aF.aD iO aW.jo;have dj:=dj.aD iO aW.jo
  have aW:=aW.store iO dH
  refine W ?_
  obtain⟨b2,kY,iQ,iR,e2,bZ,dQ⟩:=fm aQ (i:=2) om
  cases e2
  have dQ:bh G2 kZ _ ea.au:=dQ
  obtain⟨b3,xe,pz,pA,e3,dP,ew⟩:=fm aQ (i:=3) om
  cases e3
  have ew:bh G2 kZ _ eb.au:=ew
  obtain⟨b1,eh,gT,gU,e1,bM,cV⟩:=fm aQ (i:=1) om
  cases e1
  apply jQ du G2 11 (rA 56 11) (rA 56 11) [[],[0],[],[2],[3],[4],[],[],[],(rA 5 4),[1]] [Ie.v _,Ie.v _,Ie.v _,Ie.v _,Ie.v _,Ie.v _,Ie.v _,Ie.v _,Ie.v _,Ie.e 0,Ie.v _] [9] [fun(G:List Nat) (vs:List Value) (ww:World)=>G=G2∧jf G2 w ww br ag (bw cx ag n+1) gb w1.heap.size (.slice (some ⟨gb,0,none⟩) (Ex.lt nx ea eb).au.ai.length fT) (((Ex.lt nx ea eb).au.ai.set 1 (bH (cW cx (bw cx ag n))))),fun(G:List Nat) (vs:List Value) (ww:World)=>G=G2∧jf G2 w ww br ag ((bR ag ea ρ (bw cx ag n+1)).2) gb w1.heap.size (.slice (some ⟨gb,0,none⟩) (Ex.lt nx ea eb).au.ai.length fT) (((Ex.lt nx ea eb).au.ai.set 1 (bH (cW cx (bw cx ag n)))))∧bh G2 ww (vs.getD 0 undef) (bR ag ea ρ (bw cx ag n+1)).1.au] de rfl aW.cN (by exact trivial) (by exact⟨λG vs w w' ⟨h1,h2⟩ k=>⟨h1,h2.ext k⟩,λG vs w w' ⟨h1,h2,h3⟩ k=>⟨h1,h2.ext k,h3.ext k⟩,trivial⟩) (⟨rfl,aW⟩)
  refine FA ?_
  refine vf (λ_ _ _ _ _ _=>zi (i:=2) cw aK rfl rfl ((show 2<4 from om)) fv) ?_
  refine FA ?_
  refine ve 0 (λx og Kq aX zj VS hJ hlen=>?_) ?_
  have ba:=jv hlen
  subst ba
  have fi:=fi.go zj;have eD:=eD.go zj;have dQ:=dQ.go zj
  obtain⟨bX,aW⟩:=hJ
  obtain rfl:G2=Kq:=bX.symm
  refine aA (ih ea om om bj.2.1 ρ (bw cx ag n+1) om om _ _ _ br G2 og dQ fi eD aW.rn aW.cN) ?_
  rintro Dc oV ⟨⟨dG,HM⟩,aC⟩
  exact fe G2 (Fr.of aC aW.oe) ((λq hq=>lL (aW.cN q hq) aC.size)) (⟨rfl,aW.call HM aC,dG⟩)
  refine vf (λ_ _ _ _ _ _=>zi (i:=2) cw aK rfl rfl ((show 2<4 from om)) fv) ?_
  exact trivial
  intro x HN G88 aX Dd apE hJ hlen
  obtain⟨q0,ba⟩:=jw hlen
  subst ba
  have fi:=fi.go Dd;have eD:=eD.go Dd;have aF:=aF.go Dd;have dj:=dj.go Dd;have dP:=dP.go Dd;have ew:=ew.go Dd;have bM:=bM.go Dd
  change OW _ _ _ _ _ (aS (aR _ x _) (zZ 56 [_,_,_,_,_,_,_,_,_,_,_])) _
  obtain⟨bX,aW,dG⟩:=hJ
  obtain rfl:G2=G88:=bX.symm
  obtain⟨a7,n7,c7,e7,_,_⟩:=cS dG
  have e8:q0=_:=e7
  subst e8
  refine ti (i:=2) (vs:=[str (bR ag ea ρ (bw cx ag n+1)).1.au.av,.slice a7 n7 c7]) (row:=(bR ag ea ρ (bw cx ag n+1)).1.au.enc) aK rfl rfl rfl rfl rfl aW.own aW.cN aW.mem.1 (by rw[gK];rw[List.length_set];omega) rfl (o5 _) ((show bh G2 _ (.agg #[_,_]) _ from dG).ji) λxq xr sf dH=>?_
  rw[tl] at dH
  have fi:=fi.aD xr aW.jo;have eD:=eD.aD xr aW.jo;have aF:=aF.aD xr aW.jo;have dj:=dj.aD xr aW.jo;have dP:=dP.aD xr aW.jo;have ew:=ew.aD xr aW.jo;have bM:=bM.aD xr aW.jo
  have aW:=aW.store xr dH
  refine W ?_
  have yx:=aW.kb.size
  apply jQ du G2 25 (rA 67 25) (rA 67 25) [[],[0],[],[2],[3],[4],[],[],[6,7],[],[9],[10],[11],[12],[13],[8,14],[],[],[16,17],[],[19],[18,20],[],[5,15,21,22],[1]] [Ie.v _,Ie.v _,Ie.v _,Ie.v _,Ie.v _,Ie.v _,Ie.p (fun(G:List Nat) (v:Value) (ww:World)=>∃bb,v= .slice (some ⟨bb,0,none⟩) 0 0∧w.heap.size<=bb∧dW G ww bb #[] 9),Ie.v _,Ie.e 0,Ie.v _,Ie.v _,Ie.v _,Ie.v _,Ie.v _,Ie.p (fun(G:List Nat) (v:Value) (ww:World)=>bg G ww v [nx]),Ie.e 1,Ie.p (fun(G:List Nat) (v:Value) (ww:World)=>∃bb,v= .slice (some ⟨bb,0,none⟩) 0 0∧w.heap.size<=bb∧dW G ww bb #[] 9),Ie.v _,Ie.e 2,Ie.v _,Ie.p (fun(G:List Nat) (v:Value) (ww:World)=>bg G ww v [(cW cx (bw cx ag n))]),Ie.e 3,Ie.v _,Ie.e 4,Ie.v _] [8,15,18,21,23] [fun(G:List Nat) (vs:List Value) (ww:World)=>G=G2∧jf G2 w ww br ag ((bR ag ea ρ (bw cx ag n+1)).2) gb w1.heap.size (.slice (some ⟨gb,0,none⟩) (Ex.lt nx ea eb).au.ai.length fT) ((((Ex.lt nx ea eb).au.ai.set 1 (bH (cW cx (bw cx ag n)))).set 2 (bR ag ea ρ (bw cx ag n+1)).1.au)),fun(G:List Nat) (vs:List Value) (ww:World)=>(∀q,q∈G2->q∈G)∧jf G w ww br ag ((bR ag ea ρ (bw cx ag n+1)).2) gb w1.heap.size (.slice (some ⟨gb,0,none⟩) (Ex.lt nx ea eb).au.ai.length fT) ((((Ex.lt nx ea eb).au.ai.set 1 (bH (cW cx (bw cx ag n)))).set 2 (bR ag ea ρ (bw cx ag n+1)).1.au))∧LP w.heap.size G G2 ww 9 (vs.getD 0 undef) (ρ.map Prod.fst),fun(G:List Nat) (vs:List Value) (ww:World)=>G=G2∧jf G2 w ww br ag ((bR ag ea ρ (bw cx ag n+1)).2) gb w1.heap.size (.slice (some ⟨gb,0,none⟩) (Ex.lt nx ea eb).au.ai.length fT) ((((Ex.lt nx ea eb).au.ai.set 1 (bH (cW cx (bw cx ag n)))).set 2 (bR ag ea ρ (bw cx ag n+1)).1.au))∧bg G2 ww (vs.getD 1 undef) ((ρ.map Prod.fst)++[nx]),fun(G:List Nat) (vs:List Value) (ww:World)=>(∀q,q∈G2->q∈G)∧jf G w ww br ag ((bR ag ea ρ (bw cx ag n+1)).2) gb w1.heap.size (.slice (some ⟨gb,0,none⟩) (Ex.lt nx ea eb).au.ai.length fT) ((((Ex.lt nx ea eb).au.ai.set 1 (bH (cW cx (bw cx ag n)))).set 2 (bR ag ea ρ (bw cx ag n+1)).1.au))∧bg G ww (vs.getD 1 undef) ((ρ.map Prod.fst)++[nx])∧LP w.heap.size G G2 ww 9 (vs.getD 2 undef) (ρ.map Prod.snd),fun(G:List Nat) (vs:List Value) (ww:World)=>G=G2∧jf G2 w ww br ag ((bR ag ea ρ (bw cx ag n+1)).2) gb w1.heap.size (.slice (some ⟨gb,0,none⟩) (Ex.lt nx ea eb).au.ai.length fT) ((((Ex.lt nx ea eb).au.ai.set 1 (bH (cW cx (bw cx ag n)))).set 2 (bR ag ea ρ (bw cx ag n+1)).1.au))∧bg G2 ww (vs.getD 1 undef) ((ρ.map Prod.fst)++[nx])∧bg G2 ww (vs.getD 3 undef) ((ρ.map Prod.snd)++[(cW cx (bw cx ag n))]),fun(G:List Nat) (vs:List Value) (ww:World)=>G=G2∧jf G2 w ww br ag ((bR ag eb (ρ++[(nx,(cW cx (bw cx ag n)))]) (bR ag ea ρ (bw cx ag n+1)).2).2) gb w1.heap.size (.slice (some ⟨gb,0,none⟩) (Ex.lt nx ea eb).au.ai.length fT) ((((Ex.lt nx ea eb).au.ai.set 1 (bH (cW cx (bw cx ag n)))).set 2 (bR ag ea ρ (bw cx ag n+1)).1.au))∧bh G2 ww (vs.getD 4 undef) (bR ag eb (ρ++[(nx,(cW cx (bw cx ag n)))]) (bR ag ea ρ (bw cx ag n+1)).2).1.au] de rfl aW.cN (by exact⟨λG v w G' w' ⟨bb,e,h0,h⟩ k=>⟨bb,e,h0,h.go k⟩,λG v w G' w' h k=>bg.go h k,λG v w G' w' ⟨bb,e,h0,h⟩ k=>⟨bb,e,h0,h.go k⟩,λG v w G' w' h k=>bg.go h k,trivial⟩) (by exact⟨λG vs w w' ⟨h1,h2⟩ k=>⟨h1,h2.ext k⟩,λG vs w w' ⟨h1,h2,h3⟩ k=>⟨h1,h2.ext k,h3.ext k⟩,λG vs w w' ⟨h1,h2,h3⟩ k=>⟨h1,h2.ext k,h3.ext k⟩,λG vs w w' ⟨h1,h2,h3,h4⟩ k=>⟨h1,h2.ext k,h3.ext k,h4.ext k⟩,λG vs w w' ⟨h1,h2,h3,h4⟩ k=>⟨h1,h2.ext k,h3.ext k,h4.ext k⟩,λG vs w w' ⟨h1,h2,h3⟩ k=>⟨h1,h2.ext k,h3.ext k⟩,trivial⟩) (⟨rfl,aW⟩)
  refine FA ?_
  refine vf (λ_ _ _ _ _ _=>zi (i:=3) cw aK rfl rfl ((show 3<4 from om)) fv) ?_
  refine FA ?_
  refine vf (λx k8 my aX jL nj=>?_) ?_
  refine gA bo bm ?_
  intro qT zk Oy Kr
  exact ff zk (⟨_,rfl,(by have h1:=jL.aG.size;omega),Oy.o nj⟩)
  refine FA ?_
  refine ve 0 (λx k8 my aX jL nj hJ hlen=>?_) ?_
  have ba:=jv hlen
  subst ba
  have fi:=fi.go jL
  intro v6 d6
  obtain⟨bb,e6,De,fX⟩:=d6
  subst e6
  obtain⟨bX,aW⟩:=hJ
  obtain rfl:G2=my:=bX.symm
  refine Hy (N:=w.heap.size) bo bm rfl rfl rfl rfl rfl rfl fX De fi aW.cN om λv9 qT G9 kI vO db eN ql=>?_
  exact fe G9 db eN (⟨kI,aW.out db ql ⟨gd.1,gd.2.1,gd.2.2⟩ ⟨kI _ gd.1,kI _ gd.2.1,kI _ gd.2.2⟩ eN,vO⟩)
  refine FA ?_
  refine vf (λ_ _ _ _ _ _=>zi (i:=1) cw aK rfl rfl ((show 1<4 from om)) fv) ?_
  refine FA ?_
  refine vf (λx k8 my aX jL nj=>?_) ?_
  refine fo bo bm rfl rfl ?_
  intro qT zk E7 Kr
  exact ff zk (aL.dS [nx] E7 (λhx=>by have:=nj _ hx;omega))
  refine ve 1 (λx k8 my aX jL nj hJ hlen=>?_) ?_
  obtain⟨q0,ba⟩:=jw hlen
  subst ba
  intro l9 d14
  obtain⟨kc,aW,HO⟩:=hJ
  refine Ke bo bm rfl rfl rfl rfl rfl rfl HO d14 aW.cN kc so λv9 qT jM db eN ql=>?_
  exact fe G2 db eN (⟨rfl,aW.out db ql ⟨gd.1,gd.2.1,gd.2.2⟩ ⟨gd.1,gd.2.1,gd.2.2⟩ eN,jM⟩)
  refine vf (λx k8 my aX jL nj=>?_) ?_
  refine gA bo bm λqT zk ahp Kr=>?_
  exact ff zk (⟨_,rfl,(by have h1:=jL.aG.size;omega),ahp.o nj⟩)
  refine FA ?_
  refine ve 2 (λx k8 my aX jL nj hJ hlen=>?_) ?_
  obtain⟨q0,q1,ba⟩:=lJ hlen
  subst ba
  have eD:=eD.go jL
  intro Df d16
  obtain⟨bb,e6,De,fX⟩:=d16
  subst e6
  obtain⟨bX,aW,rF⟩:=hJ
  obtain rfl:G2=my:=bX.symm
  refine Hy (N:=w.heap.size) bo bm rfl rfl rfl rfl rfl rfl fX De eD aW.cN om λv9 qT G9 kI vO db eN ql=>?_
  exact fe G9 db eN (⟨kI,aW.out db ql ⟨gd.1,gd.2.1,gd.2.2⟩ ⟨kI _ gd.1,kI _ gd.2.1,kI _ gd.2.2⟩ eN,rF.go db,vO⟩)
  refine FA ?_
  refine vf (λx k8 my aX jL nj=>?_) ?_
  refine fo bo bm rfl rfl λqT zk ahq Kr=>?_
  exact ff zk (aL.dS [(cW cx (bw cx ag n))] ahq (λhx=>by have:=nj _ hx;omega))
  refine ve 3 (λx k8 my aX jL nj hJ hlen=>?_) ?_
  obtain⟨q0,q1,q2,ba⟩:=AQ hlen
  subst ba
  intro v20 d20
  obtain⟨kc,aW,rF,HO⟩:=hJ
  refine Ke bo bm rfl rfl rfl rfl rfl rfl HO d20 aW.cN kc so λv9 qT jM db eN ql=>?_
  exact fe G2 db eN (⟨rfl,aW.out db ql ⟨gd.1,gd.2.1,gd.2.2⟩ ⟨gd.1,gd.2.1,gd.2.2⟩ eN,rF.go db,jM⟩)
  refine FA ?_
  refine ve 4 (λx k8 my aX jL nj hJ hlen=>?_) ?_
  obtain⟨q0,q1,q2,q3,ba⟩:=Np hlen
  subst ba
  have ew:=ew.go jL
  obtain⟨bX,aW,rF,ahr⟩:=hJ
  obtain rfl:G2=my:=bX.symm
  refine aA (ih eb om om bj.2.2 (ρ++[(nx,(cW cx (bw cx ag n)))]) (bR ag ea ρ (bw cx ag n+1)).2 so om _ _ _ br G2 k8 ew (by rw[List.map_append];exact rF) (by rw[List.map_append];exact ahr) aW.rn aW.cN) ?_
  rintro Dc qT ⟨⟨dG,HM⟩,aC⟩
  exact fe G2 (Fr.of aC aW.oe) ((λq hq=>lL (aW.cN q hq) aC.size)) (⟨rfl,aW.call HM aC,dG⟩)
  refine vf (λ_ _ _ _ _ _=>zi (i:=3) cw aK rfl rfl ((show 3<4 from om)) fv) ?_
  exact trivial
  intro x Ks VT aX Oz ahs hJ hlen
  obtain⟨q0,q1,q2,q3,q4,ba⟩:=TK hlen
  subst ba
  intro v6 d6
  intro l9 d14
  intro Df d16
  intro v20 d20
  have dj:=dj.go Oz
  change OW _ _ _ _ _ (aS (aR _ x _) (zZ 67 [_,_,_,_,_,_,_,_,_,_,_,_,_,_,_,_,_,_,_,_,_,_,_,_,_])) _
  obtain⟨bX,aW,dG⟩:=hJ
  obtain rfl:G2=VT:=bX.symm
  obtain⟨a7,n7,c7,e7,_,_⟩:=cS dG
  have e8:q4=_:=e7
  subst e8
  refine ti (i:=3) (vs:=[str (bR ag eb (ρ++[(nx,(cW cx (bw cx ag n)))]) (bR ag ea ρ (bw cx ag n+1)).2).1.au.av,.slice a7 n7 c7]) (row:=(bR ag eb (ρ++[(nx,(cW cx (bw cx ag n)))]) (bR ag ea ρ (bw cx ag n+1)).2).1.au.enc) aK rfl rfl rfl rfl rfl aW.own aW.cN aW.mem.1 (by rw[gK];rw[List.length_set,List.length_set];omega) rfl (o5 _) ((show bh G2 _ (.agg #[_,_]) _ from dG).ji) λOB Dg sf dH=>?_
  rw[tl] at dH
  have dj:=dj.aD Dg aW.jo
  have aW:=aW.store Dg dH
  refine W ?_
  refine cu aK rfl rfl rfl aW.bx rfl λaht OC cz kV=>?_
  subst zh
  obtain⟨sh,si,vQ⟩:=aW.fin hG Db.mem OC
  refine W ?_
  exact⟨[_],fB eK aK rfl cz rfl,⟨sh,si⟩,vQ⟩
  have Kt:isLt e=false:=not_lt (λhh=>h3 (js.trans hh))
  have VU:=ahe ag ρ n eX Kt
  have VV:=ahf ag n eX Kt
  have ky:=Fr.refl G2 w6
  have yx:=aW.kb.size
  refine WI ?_
  refine zi (i:=0) cw aK rfl rfl jB<|W ?_
  refine iS (λq:Value×Value=>[(1,q.1),(2,q.2),(3,.pointer (some ⟨br,0,none⟩)),(4,.pointer (some ⟨w.heap.size,0,none⟩)),(8,.pointer (some ⟨w1.heap.size,0,none⟩)),(9,.pointer (some ⟨w4.heap.size,0,none⟩)),(10,.int .i64 (e.from:Int)),(11,.int .i64 ((e.from+e.kids.length:Nat):Int))]) (λq ww=>Fr G2 w6 G2 ww∧jf G2 w ww br ag (nF ag n e) gb w1.heap.size (.slice (some ⟨gb,0,none⟩) e.au.ai.length fT) (l8 (xm ag n e) [] e)∧bg G2 ww q.1 ((jn ag ρ n e).map Prod.fst)∧bg G2 ww q.2 ((jn ag ρ n e).map Prod.snd)) ?_ ?_
  refine zc rfl (λh4=>?_) (λh4=>?_)
  obtain⟨nf,nx,tA,tB,eb,rfl⟩:=Kn bj (js.symm.trans h4)
  have xp:(Ex.fn nf nx tA tB eb).n=3+tA.n+tB.n+eb.n:=rfl
  have hmul:(Ex.fn nf nx tA tB eb).n*(ag.length+2)=3*(ag.length+2)+tA.n*(ag.length+2)+tB.n*(ag.length+2)+eb.n*(ag.length+2):=by rw[xp,Nat.add_mul,Nat.add_mul,Nat.add_mul]
  have Ku:(Ex.fn nf nx tA tB eb).au.ai.length=6:=rfl
  refine zr<|zm<|aA (Ot ag n om ir br G2 w6 aW.rn) ?_
  rintro v7 w7 ⟨vN,bJ⟩
  have jd:=bJ.size
  have aQ:=aQ.aD bJ (aW.oe);have fi:=fi.aD bJ (aW.oe);have eD:=eD.aD bJ (aW.oe);have aF:=aF.aD bJ (aW.oe);have dj:=dj.aD bJ (aW.oe);have ky:=ky.aD bJ aW.oe
  obtain⟨rfl,rE⟩:=vN
  have aW:=aW.call rE bJ
  refine W ?_
  refine aA (Ot ag (bw cx ag n+1) om ir br G2 w7 aW.rn) ?_
  rintro v8 w8 ⟨ux,aU⟩
  have oK:=aU.size
  have aQ:=aQ.aD aU (aW.oe);have fi:=fi.aD aU (aW.oe);have eD:=eD.aD aU (aW.oe);have aF:=aF.aD aU (aW.oe);have dj:=dj.aD aU (aW.oe);have ky:=ky.aD aU aW.oe
  obtain⟨rfl,rE⟩:=ux
  have aW:=aW.call rE aU
  refine W ?_
  apply dV du 5 [103,104,105,106,107] [[],[0],[],[2],[1]] (it [_,_,_,_,_]) de rfl
  intro wd aB
  refine VA ?_
  refine vk aB (λx w9 aC=>?_) ?_
  refine aA (Bm _ w9) ?_
  rintro _ cB ⟨rfl,cA⟩
  have zn:=cA.size
  exact pk cA
  refine vk aB (λx w9 aC=>?_) ?_
  refine zi (i:=1) cw aK rfl rfl ((show 1<6 from om)) ?_
  exact pv
  exact trivial
  intro x kZ iO
  refine JN iO aQ fi eD aF dj ky aW λaQ fi eD aF dj ky aW=>?_
  change OW _ _ _ _ _ (aS (aR _ x _) (zZ 103 [_,_,_,_,_])) _
  refine ti (i:=1) (vs:=[str (cW cx (bw cx ag n)),.slice none 0 0]) (row:=(bH (cW cx (bw cx ag n))).enc) aK rfl rfl rfl rfl rfl aW.own aW.cN aW.mem.1 (by rw[gK];omega) rfl (o5 _) (Ov _) λog iE sf dH=>?_
  rw[tl] at dH
  have aQ:=aQ.aD iE aW.jo;have fi:=fi.aD iE aW.jo;have eD:=eD.aD iE aW.jo;have aF:=aF.aD iE aW.jo;have dj:=dj.aD iE aW.jo;have ky:=ky.aD iE aW.jo
  have aW:=aW.store iE dH
  refine W ?_
  apply dV du 5 [108,109,110,111,112] [[],[0],[],[2],[1]] (it [_,_,_,_,_]) de rfl
  intro wd aB
  refine VA ?_
  refine vk aB (λx oV ma=>?_) ?_
  refine aA (Bm _ oV) ?_
  rintro _ lM ⟨rfl,ln⟩
  have apF:=ln.size
  exact pk ln
  refine vk aB (λx oV ma=>?_) ?_
  refine zi (i:=2) cw aK rfl rfl ((show 2<6 from om)) ?_
  exact pv
  exact trivial
  intro x xq xr
  refine sV xr aQ fi eD aF ky aW λaQ fi eD aF ky aW=>?_
  change OW _ _ _ _ _ (aS (aR _ x _) (zZ 108 [_,_,_,_,_])) _
  refine ti (i:=2) (vs:=[str (cW cx (bw cx ag (bw cx ag n+1))),.slice none 0 0]) (row:=(bH (cW cx (bw cx ag (bw cx ag n+1)))).enc) aK rfl rfl rfl rfl rfl aW.own aW.cN aW.mem.1 (by rw[gK];rw[List.length_set];omega) rfl (o5 _) (Ov _) λk8 uy sf dH=>?_
  rw[tl] at dH
  have aQ:=aQ.aD uy aW.jo;have fi:=fi.aD uy aW.jo;have eD:=eD.aD uy aW.jo;have aF:=aF.aD uy aW.jo;have ky:=ky.aD uy aW.jo
  have aW:=aW.store uy dH
  refine W ?_
  have yx:=aW.kb.size
  obtain⟨b1,eh,gT,gU,e1,bM,cV⟩:=fm aQ (i:=1) om
  cases e1
  obtain⟨b2,kY,iQ,iR,e2,bZ,dQ⟩:=fm aQ (i:=2) om
  cases e2
  apply jQ du G2 15 (rA 113 15) (rA 113 15) [[],[],[0,1],[],[3],[4],[5],[6],[],[8],[9],[10],[11],[7,12],[2,13]] [Ie.p (fun(G:List Nat) (v:Value) (ww:World)=>∃bb,v= .slice (some ⟨bb,0,none⟩) 0 0∧w.heap.size<=bb∧dW G ww bb #[] 9),Ie.v _,Ie.e 0,Ie.v _,Ie.v _,Ie.v _,Ie.v _,Ie.v _,Ie.v _,Ie.v _,Ie.v _,Ie.v _,Ie.v _,Ie.p (fun(G:List Nat) (v:Value) (ww:World)=>bg G ww v [nf,nx]),Ie.e 1] [2,14] [fun(G:List Nat) (vs:List Value) (ww:World)=>G=G2∧jf G2 w ww br ag (bw cx ag (bw cx ag n+1)+1) gb w1.heap.size (.slice (some ⟨gb,0,none⟩) (Ex.fn nf nx tA tB eb).au.ai.length fT) ((((Ex.fn nf nx tA tB eb).au.ai.set 1 (bH (cW cx (bw cx ag n)))).set 2 (bH (cW cx (bw cx ag (bw cx ag n+1)))))),fun(G:List Nat) (vs:List Value) (ww:World)=>(∀q,q∈G2->q∈G)∧jf G w ww br ag (bw cx ag (bw cx ag n+1)+1) gb w1.heap.size (.slice (some ⟨gb,0,none⟩) (Ex.fn nf nx tA tB eb).au.ai.length fT) ((((Ex.fn nf nx tA tB eb).au.ai.set 1 (bH (cW cx (bw cx ag n)))).set 2 (bH (cW cx (bw cx ag (bw cx ag n+1))))))∧LP w.heap.size G G2 ww 9 (vs.getD 0 undef) (ρ.map Prod.fst),fun(G:List Nat) (vs:List Value) (ww:World)=>G=G2∧jf G2 w ww br ag (bw cx ag (bw cx ag n+1)+1) gb w1.heap.size (.slice (some ⟨gb,0,none⟩) (Ex.fn nf nx tA tB eb).au.ai.length fT) ((((Ex.fn nf nx tA tB eb).au.ai.set 1 (bH (cW cx (bw cx ag n)))).set 2 (bH (cW cx (bw cx ag (bw cx ag n+1))))))∧bg G2 ww (vs.getD 1 undef) ((ρ.map Prod.fst)++[nf,nx])] de rfl aW.cN (by exact⟨λG v w G' w' ⟨bb,e,h0,h⟩ k=>⟨bb,e,h0,h.go k⟩,λG v w G' w' h k=>bg.go h k,trivial⟩) (by exact⟨λG vs w w' ⟨h1,h2⟩ k=>⟨h1,h2.ext k⟩,λG vs w w' ⟨h1,h2,h3⟩ k=>⟨h1,h2.ext k,h3.ext k⟩,λG vs w w' ⟨h1,h2,h3⟩ k=>⟨h1,h2.ext k,h3.ext k⟩,trivial⟩) (⟨rfl,aW⟩)
  refine vf (λx qT Kv aX HP HQ=>?_) ?_
  refine gA bo bm λDh zo ahu ahv=>?_
  exact ff zo (⟨_,rfl,(by have h1:=HP.aG.size;omega),ahu.o HQ⟩)
  refine FA ?_
  refine ve 0 (λx qT Kv aX HP HQ hJ hlen=>?_) ?_
  have ba:=jv hlen
  subst ba
  have fi:=fi.go HP
  intro v0 d0
  obtain⟨bb,e6,De,fX⟩:=d0
  subst e6
  obtain⟨bX,aW⟩:=hJ
  obtain rfl:G2=Kv:=bX.symm
  refine Hy (N:=w.heap.size) bo bm rfl rfl rfl rfl rfl rfl fX De fi aW.cN om λv9 Dh G9 kI vO db eN ql=>?_
  exact fe G9 db eN (⟨kI,aW.out db ql ⟨gd.1,gd.2.1,gd.2.2⟩ ⟨kI _ gd.1,kI _ gd.2.1,kI _ gd.2.2⟩ eN,vO⟩)
  refine FA ?_
  refine vf (λ_ _ _ _ _ _=>zi (i:=1) cw aK rfl rfl ((show 1<6 from om)) fv) ?_
  refine FA ?_
  refine vf (λ_ _ _ _ _ _=>zi (i:=2) cw aK rfl rfl ((show 2<6 from om)) fv) ?_
  refine FA ?_
  refine vf (λx qT Kv aX HP HQ=>?_) ?_
  refine lg bo bm rfl rfl rfl rfl ?_
  intro Dh zo ahw ahv
  exact ff zo (aL.dS [nf,nx] ahw (λhx=>by have:=HQ _ hx;omega))
  refine ve 1 (λx qT Kv aX HP HQ hJ hlen=>?_) ?_
  obtain⟨q0,ba⟩:=jw hlen
  subst ba
  intro HR d13
  obtain⟨kc,aW,HO⟩:=hJ
  refine Ke bo bm rfl rfl rfl rfl rfl rfl HO d13 aW.cN kc so λv9 Dh jM db eN ql=>?_
  exact fe G2 db eN (⟨rfl,aW.out db ql ⟨gd.1,gd.2.1,gd.2.2⟩ ⟨gd.1,gd.2.1,gd.2.2⟩ eN,jM⟩)
  exact trivial
  intro x OB ahx aX VW apG hJ hlen
  obtain⟨q0,q1,ba⟩:=lJ hlen
  subst ba
  intro v0 d0
  intro HR d13
  have eD:=eD.go VW;have ky:=ky.go VW
  change OW _ _ _ _ _ (aS (aR _ x _) (zZ 113 [_,_,_,_,_,_,_,_,_,_,_,_,_,_,_])) _
  obtain⟨bX,aW,rF⟩:=hJ
  obtain rfl:G2=ahx:=bX.symm
  refine zA<|aV<|lv<|gA bo bm λaht OC OD apH=>?_
  have dk:=aW.cN
  have yx:=aW.kb.size
  refine gH OC aW eD ky rF λaW eD ky rF=>?_
  have uz:=OD.o dk
  refine zm<|Hy (N:=w.heap.size) bo bm rfl rfl rfl rfl rfl rfl uz om eD aW.cN om λv9 apI G9 kI vO db eN ql=>?_
  have aW:=aW.out db ql ⟨gd.1,gd.2.1,gd.2.2⟩ ⟨kI _ gd.1,kI _ gd.2.1,kI _ gd.2.2⟩ eN
  have ky:=ky.go db;have rF:=rF.go db
  refine zm<|zm<|lg bo bm rfl rfl rfl rfl λapJ ahy ahz apK=>gH ahy ky rF vO aW λky rF vO aW=>?_
  refine Ke bo bm rfl rfl rfl rfl rfl rfl vO (aL.dS [(cW cx (bw cx ag n)),(cW cx (bw cx ag (bw cx ag n+1)))] ahz (λhx=>by have:=eN _ hx;omega)) aW.cN kI (show(ρ.map Prod.snd).length+2<100000000 from om) λv10 apL xu db E8 ql=>?_
  have aW:=aW.out db ql ⟨gd.1,gd.2.1,gd.2.2⟩ ⟨gd.1,gd.2.1,gd.2.2⟩ E8
  have ky:=ky.go db;have rF:=rF.go db
  refine W ?_
  exact⟨(_,_),⟨rfl,rfl,rfl,rfl,rfl,rfl,rfl,rfl⟩,⟨ky,aW,by show bg G2 _ _ ((ρ++_).map Prod.fst);rw[List.map_append];exact rF,by show bg G2 _ _ ((ρ++_).map Prod.snd);rw[List.map_append];exact xu⟩⟩
  have rD:e.head≠ic:=λhh=>h4 (js.trans hh)
  have sW:=ahg ag n bj eX rD
  have xv:=VL eX Kt rD
  refine gX ?_
  exact⟨(_,_),⟨rfl,rfl,rfl,rfl,rfl,rfl,rfl,rfl⟩,⟨ky,by rw[sW.2,sW.1,show l8 [bH e.head] [] e=e.au.ai from by rw[xv];simp[l8]];exact aW,by rw[VJ ag ρ n rD];exact fi,by rw[VJ ag ρ n rD];exact eD⟩⟩
  intro gu w7 e7 hI
  obtain⟨vf2,C1⟩:=gu
  dsimp only at hI⊢
  obtain⟨ky,aW,fi,eD⟩:=hI
  have aQ:=aQ.go ky;have aF:=aF.go ky;have dj:=dj.go ky
  refine jV<|zr<|zm<|zA<|aV<|tI ?_
  refine eO (λk:Nat=>[(1,vf2),(2,C1),(3,.pointer (some ⟨br,0,none⟩)),(4,.pointer (some ⟨w.heap.size,0,none⟩)),(8,.pointer (some ⟨w1.heap.size,0,none⟩)),(9,.pointer (some ⟨w4.heap.size,0,none⟩)),(11,.int .i64 ((e.from+e.kids.length:Nat):Int)),(15,.int .i64 ((e.from+k:Nat):Int))]) (λk ww=>Fr G2 w7 G2 ww∧jf G2 w ww br ag ((kx ag (jn ag ρ n e) e (nF ag n e) k).2) gb w1.heap.size (.slice (some ⟨gb,0,none⟩) e.au.ai.length fT) (l8 (xm ag n e) (kx ag (jn ag ρ n e) e (nF ag n e) k).1 e)∧k<=e.kids.length) (λk=>e.kids.length-k) (0) (⟨rfl,rfl,rfl,rfl,rfl,rfl,rfl,rfl⟩) (⟨Fr.refl _ _,aW,om⟩) ?_
  intro gg w8 e8 hI
  obtain⟨pB,aW,hk⟩:=hI
  have aQ:=aQ.go pB;have fi:=fi.go pB;have eD:=eD.go pB;have aF:=aF.go pB;have dj:=dj.go pB
  refine jV<|zr<|zm<|zm<|IV rfl rfl rfl rfl rfl<|aV<|zc rfl (λh5=>?_) (λh5=>?_)
  have ik:gg<e.kids.length:=om
  have sS:=xl gg ik
  obtain⟨b1,eh,gT,gU,e1,bM,cV⟩:=fm aQ (i:=e.from+gg) om
  cases e1
  have cV:=cV.eq sS
  have uq:=GD bj ik
  have gD:=VI ag (jn ag ρ n e) e (nF ag n e) gg
  have By:=VP ag (jn ag ρ n e) e (nF ag n e) gg om
  have Ci:=yZ ik
  have lx:=ahi ag ρ n eX Kt ik oI pN By.2
  refine gX<|jV<|tI ?_
  apply jQ du G2 13 (rA 141 13) (rA 141 13) [[],[0],[],[],[3],[],[4,5],[6],[],[],[],(rA 7 4),[1,2]] [Ie.v _,Ie.v _,Ie.v _,Ie.v _,Ie.v _,Ie.v _,Ie.v _,Ie.v _,Ie.v _,Ie.v _,Ie.v _,Ie.e 0,Ie.v _] [11] [fun(G:List Nat) (vs:List Value) (ww:World)=>G=G2∧jf G2 w ww br ag ((kx ag (jn ag ρ n e) e (nF ag n e) gg).2) gb w1.heap.size (.slice (some ⟨gb,0,none⟩) e.au.ai.length fT) (l8 (xm ag n e) (kx ag (jn ag ρ n e) e (nF ag n e) gg).1 e),fun(G:List Nat) (vs:List Value) (ww:World)=>G=G2∧jf G2 w ww br ag ((kx ag (jn ag ρ n e) e (nF ag n e) (gg+1)).2) gb w1.heap.size (.slice (some ⟨gb,0,none⟩) e.au.ai.length fT) (l8 (xm ag n e) (kx ag (jn ag ρ n e) e (nF ag n e) gg).1 e)∧bh G2 ww (vs.getD 0 undef) (bR ag (fZ e gg) (jn ag ρ n e) (kx ag (jn ag ρ n e) e (nF ag n e) gg).2).1.au] de rfl aW.cN (by exact trivial) (by exact⟨λG vs w w' ⟨h1,h2⟩ k=>⟨h1,h2.ext k⟩,λG vs w w' ⟨h1,h2,h3⟩ k=>⟨h1,h2.ext k,h3.ext k⟩,trivial⟩) (⟨rfl,aW⟩)
  refine vf (λ_ _ _ _ _ _=>zf ja rfl fv) ?_
  refine vf (λx w9 G9 aX db nk=>?_) ?_
  have dj:=dj.go db
  refine WZ ?_
  exact fv
  refine FA ?_
  refine ve 0 (λx w9 G9 aX db nk hJ hlen=>?_) ?_
  have ba:=jv hlen
  subst ba
  have fi:=fi.go db;have eD:=eD.go db;have cV:=cV.go db
  obtain⟨bX,aW⟩:=hJ
  obtain rfl:G2=G9:=bX.symm
  refine aA (ih (fZ e gg) om om uq.1 (jn ag ρ n e) (kx ag (jn ag ρ n e) e (nF ag n e) gg).2 lx.1 lx.2 _ _ _ br G2 w9 cV fi eD aW.rn aW.cN) ?_
  rintro Dc cB ⟨⟨dG,HM⟩,aC⟩
  exact fe G2 (Fr.of aC aW.oe) ((λq hq=>lL (aW.cN q hq) aC.size)) (⟨rfl,aW.call HM aC,dG⟩)
  exact FZ
  intro x kZ Kw aX E9 OE hJ hlen
  obtain⟨q0,ba⟩:=jw hlen
  subst ba
  have pB:=pB.go E9
  change OW _ _ _ _ _ (aS (aR _ x _) (zZ 141 [_,_,_,_,_,_,_,_,_,_,_,_,_])) _
  obtain⟨bX,aW,dG⟩:=hJ
  obtain rfl:G2=Kw:=bX.symm
  obtain⟨a7,n7,c7,e7,_,_⟩:=cS dG
  have e8:q0=_:=e7
  subst e8
  have Ac:(l8 (xm ag n e) (kx ag (jn ag ρ n e) e (nF ag n e) gg).1 e).set (e.from+gg) (bR ag (fZ e gg) (jn ag ρ n e) (kx ag (jn ag ρ n e) e (nF ag n e) gg).2).1.au=l8 (xm ag n e) (kx ag (jn ag ρ n e) e (nF ag n e) (gg+1)).1 e:=(by have:=VM (pre:=(xm ag n e)) (acc:=(kx ag (jn ag ρ n e) e (nF ag n e) gg).1) (e:=e) (y:=(bR ag (fZ e gg) (jn ag ρ n e) (kx ag (jn ag ρ n e) e (nF ag n e) gg).2).1) om;rw[VV,gD] at this;exact this)
  refine ti (i:=e.from+gg) (vs:=[str (bR ag (fZ e gg) (jn ag ρ n e) (kx ag (jn ag ρ n e) e (nF ag n e) gg).2).1.au.av,.slice a7 n7 c7]) (row:=(bR ag (fZ e gg) (jn ag ρ n e) (kx ag (jn ag ρ n e) e (nF ag n e) gg).2).1.au.enc) aK rfl rfl rfl rfl (Nat.zero_add _) aW.own aW.cN aW.mem.1 (by rw[gK,VN om,VV];omega) rfl (o5 _) (show bh G2 _ (.agg #[_,_]) _ from dG).ji λog iE sf dH=>?_
  rw[tl,Ac] at dH
  have pB:=pB.aD iE aW.jo
  have aW:=aW.store iE dH
  refine W ?_
  exact⟨gg+1,⟨rfl,rfl,rfl,rfl,rfl,rfl,rfl,congrArg (Value.int .i64) om⟩,⟨pB,aW,om⟩,om⟩
  have fH:gg=e.kids.length:=by omega
  subst fH
  have gD:=VI ag (jn ag ρ n e) e (nF ag n e) e.kids.length
  refine W ?_
  refine cu aK rfl rfl rfl aW.bx rfl λw9 aC cz kV=>?_
  subst zh
  obtain⟨sh,si,vQ⟩:=aW.fin hG Db.mem aC
  rw[VO gD,<-VU.1] at sh
  rw[<-VU.2] at si
  refine W ?_
  exact⟨[_],fB eK aK rfl cz rfl,⟨sh,si⟩,vQ⟩
theorem ahB {ps:List aq} (h:k<ps.length):jI (ps.take k)+fE (nth ps k)<=jI ps:=by
 have h1:=S2 (ej h)
 have h2:=Vc (ps:=ps) (k+1)
 omega
theorem ahC:∀(m:Nat) (t:aq),t.size<=m->t.size<=1000000->WF t->∀(l:List aj),l.length+fE t<=100000->∀(v vl:Value) (g:Option Nat) (w:World),
  bh g.toList w v t->cE w 9 vl g l->
  bC Tryz.prog 180 [v,vl] w λr w'=>∃g',cE w' 9 r g' (lH t l)∧Fr g.toList w g'.toList w':=by
 intro m
 induction m with
 |zero=>intro t h;have:=qB t;omega
 |succ m ih=>
  intro t hm kW cF l hl v vl g w hv gj
  obtain⟨a,n,c,rfl,hn,aQ⟩:=cS hv
  subst hn
  obtain⟨al,cl,rfl⟩:=j8 gj
  have qj:=gj.lt
  have oU:=gj.rs
  have hR:=Fr.refl g.toList w
  have lK:=mP t
  refine cj [.tmp 4] 34 Tryz.func180 rfl acE rfl rfl ?_
  refine zr<|ey rfl λw1 aI aO di=>gH aI hR aQ gj oU λhR aQ gj oU=>?_
  refine W ?_
  refine zc rfl (λh1=>?_) (λh1=>?_)
  have hq:lH t l=if t.av∈l then l else l++[t.av]:=by rw[Tg,iP h1]
  refine W ?_
  refine aA (Bl l om t.av _ _ w1 oU) ?_
  rintro _ w2 ⟨rfl,az⟩
  have dz:=az.size
  refine cO az hR gj aO λhR gj aO=>?_
  refine aV<|zc rfl (λh2=>?_) (λh2=>?_)
  have Bx:t.av∈l:=h2
  refine W ?_
  exact⟨_,rfl,g,by rw[hq,iP Bx];exact gj,hR⟩
  have Bx:¬t.av∈l:=h2
  refine W ?_
  refine fo bo bm rfl rfl λw3 aH OF fS=>bL aH hR gj λhR gj=>?_
  refine UB bo bm rfl rfl rfl rfl rfl rfl gj OF om λv5 g5 w4 ll aN qk=>?_
  have hR:=hR.go qk
  refine W ?_
  exact⟨_,rfl,g5,by rw[hq,iN Bx];exact ll,hR⟩
  have hq:lH t l=ph t.ai l:=(by rw[Tg,iN h1])
  have VX:fE t=jI t.ai:=(by rw[MZ,iN h1])
  have aO:=aO.o qj
  refine W ?_
  refine eO (λq:Nat×Value×Option Nat=>[(1,q.2.1),(2,.pointer (some ⟨w.heap.size,0,none⟩)),(5,.int .i64 (q.1:Int))]) (λq w'=>Fr g.toList w q.2.2.toList w'∧Fr g.toList w1 q.2.2.toList w'∧cE w' 9 q.2.1 q.2.2 (ph (t.ai.take q.1) l)∧q.1<=t.ai.length) (λq=>t.ai.length-q.1) ((0,.slice al l.length cl,g)) (⟨rfl,rfl,rfl⟩) (⟨hR,Fr.refl _ _,gj,sm⟩) λgg w2 e2 hI=>?_
  obtain⟨k,vl,gl⟩:=gg
  dsimp only at hI⊢
  obtain⟨hR,kG,gj,hk⟩:=hI
  have aO:=aO.go kG;have aQ:=aQ.go kG
  refine W ?_
  refine zc rfl (λh3=>?_) (λh3=>?_)
  have ik:k<t.ai.length:=om
  obtain⟨b1,eh,gT,gU,e1,bM,cV⟩:=fm aQ ik
  subst e1
  have df:=kB ik
  have aW:=ae3 (ej ik) l
  have CQ:=Nf (t.ai.take k) l
  have Fa:=ahB ik
  refine WI ?_
  refine zi cw aK rfl rfl ik<|W ?_
  refine aA (ih (nth t.ai k) om om (cF.nth ik) _ om _ _ gl w2 cV gj) ?_
  rintro Oo w3 ⟨Oq,Kl,HH⟩
  rw[<-aW] at Kl
  refine W ?_
  exact⟨(k+1,Oo,Oq),⟨rfl,rfl,rfl⟩,⟨hR.go HH,kG.go HH,Kl,by simp;omega⟩,by simp;omega⟩
  have fH:k=t.ai.length:=by omega
  subst fH
  refine W ?_
  exact⟨_,rfl,gl,by rw[hq,<-List.take_length (l:=t.ai)];exact gj,hR⟩
theorem ahD (ee:Ex) (hn:ee.n<=120) (bj:ee.ok) (v:Value) (L:List Nat) (w:World) (lN:∀x,x∈L->x<w.heap.size) (hv:bh L w v ee.au):
  bC Tryz.prog 179 [v] w λr w'=>(∃tv,r= .tuple #[tv,.bool (qI ee).isSome]∧bh L w' tv (bR (cU ee [] []) ee [] 0).1.au)∧ak [] w w':=by
 have cm:=hv
 obtain⟨a,np,c,rfl,eQ,aQ⟩:=cS hv
 have mZ:(cU ee [] []).length<=120:=by have:=M6 ee [] [];simp at this;omega
 have hmu:ee.n*((cU ee [] []).length+2)<=120*122:=Nat.mul_le_mul hn om
 have hK:=ak.refl [] w
 refine j1 [.cell 2 74,.tmp 3] 23 Tryz.func179 rfl acD rfl rfl rfl ?_
 refine zr<|ey rfl λw1 aI aT di=>?_
 have hK:=hK.ext aI
 refine da aK rfl rfl rfl λw2 az aO dK=>?_
 have hK:=hK.grow;have hK:=hK.ext az;have aT:=aT.grow;have aT:=aT.ext az
 refine W ?_
 refine gA bo bm λw3 aH cL l4=>cO aH hK aT aO λhK aT aO=>?_
 refine gA bo bm λw4 aN cz kV=>cO aN hK aT aO λhK aT aO=>?_
 have fS:=hK.size
 refine aA (Ki 120 ee hn om bj [] [] so so _ _ _ (some _) w4 (bh.ext (bh.fresh cm (by intro x hx;simp at hx;right;omega)) hK) (ck.nil _ _ _) cz.lh) ?_
 rintro v9 w5 ⟨g9,dm,db⟩
 have lf:=db.aG.size
 obtain⟨a9,c9,rfl⟩:=j8 dm
 have hK:=hK.since db.aG (λx hx=>.inr (by simp at hx;omega))
 have aT:=aT.aG db.aG so
 have aO:=aO.aG db.aG so
 have fH:=dm.lt
 have apM:=hK.size
 have VY:=aT.lt
 have OG:=aO.lt
 refine iT (aec _ _ _ _ _) rfl rfl<|ey rfl λw6 bB iY jR=>gH bB hK aT aO dm λhK aT aO dm=>?_
 refine W ?_
 refine gA bo bm λw7 bJ mx l4=>ld bJ hK aT aO dm iY λhK aT aO dm iY=>?_
 refine gA bo bm λw8 aU xw kV=>ld aU hK aT aO dm iY λhK aT aO dm iY=>?_
 refine WZ ?_
 have ahF:∀q,q∈g9.toList->w.heap.size<=q:=(λq hq=>by rcases db.mem q hq with h|h;(·simp at h;omega);(·omega))
 have dC:=hK.size
 have oT:w5.heap.size<w8.heap.size:=iY.lt
 have ahG:∀q,q∈g9.toList->q≠w5.heap.size∧q≠w1.heap.size:=(λq hq=>⟨λh9=>by have:=fH q hq;omega,λh9=>by rcases db.mem q hq with h|h;(·simp at h;omega);(·omega)⟩)
 refine aA (ahj (cU ee [] []) om 120 ee hn om bj [] 0 so om _ _ _ w5.heap.size (w5.heap.size::w1.heap.size::L) w8 (bh.ext (bh.fresh cm (by intro q hq;simp at hq;rcases hq with h|h|h;(·right;omega);(·right;omega);(·exact .inl h))) hK) (ck.nil _ _ _) (ck.nil _ _ _) ⟨by simp,_,iY,dm.rep (λq hq gi=>by have h1:=ahG q (by simp[hq]);rcases mC.1 gi with h|h;(·exact h1.1 h);(·rcases mC.1 h with h|h;(·exact h1.2 h);(·have h2:=lN q h;have h3:=ahF q (by simp[hq]);omega)))⟩ (by intro q hq;simp at hq;rcases hq with h|h|h;(·omega);(·omega);(·have:=lN q h;omega))) ?_
 rintro Df w9 ⟨⟨xz,rE⟩,nq⟩
 have V0:=nq.size
 obtain⟨nu,nv,nz,rfl,_,_⟩:=cS xz
 obtain⟨_,apN,iY,_⟩:=rE
 have hK:=hK.since nq (λq hq=>.inr (by simp at hq;omega))
 have aT:=aT.aG nq so
 have aO:=aO.aG nq so
 refine da aK rfl rfl rfl λcB cA bQ CP=>?_
 have hK:=hK.grow;have hK:=hK.ext cA;have aO:=aO.grow;have aO:=aO.ext cA;have iY:=iY.grow;have iY:=iY.ext cA;have xz:=xz.grow;have xz:=xz.ext cA
 refine cu aK rfl rfl rfl bQ rfl λeC dh bQ uh=>?_
 have hK:=hK.aD dh sx;have aO:=aO.aD dh sx;have iY:=iY.aD dh sx;have xz:=xz.aD dh sx
 refine W ?_
 refine sE du (cD w1.heap.size ([str (bR (cU ee [] []) ee [] 0).1.au.av,.slice nu nv nz]) 74) 8 (rA 17 6++[100006,3]) (rA 17 6++[100006,3]) [[],[],[1],[2],[3],[4],[0],[5]] [λv _=>v=(.agg #[str (bR (cU ee [] []) ee [] 0).1.au.av,.slice nu nv nz]),λv _=>v=(.pointer (some ⟨w5.heap.size,0,none⟩)),λv _=>v=(.pointer (some ⟨w5.heap.size,0,none⟩)),λv _=>v=(.pointer (some ⟨w5.heap.size,0+1,none⟩)),λv _=>v=(.int .i64 ((bR (cU ee [] []) ee [] 0).2:Int)),λv _=>v=(.bool (decide (((bR (cU ee [] []) ee [] 0).2:Int)<=100))),λ_ ww=>aL ww w1.heap.size ([str (bR (cU ee [] []) ee [] 0).1.au.av,.slice nu nv nz]).toArray 74,λv _=>v=(.bool (decide (((bR (cU ee [] []) ee [] 0).2:Int)<=100)))] de (cR (cR (cR (cR (cR (cR (Ea (cR trivial)))))))) (λwd aB=>?_) ?_
 refine bV ?_ ?_
 intro x vs fI e dw hd he
 replace dw:=(cD w1.heap.size ([str (bR (cU ee [] []) ee [] 0).1.au.av,.slice nu nv nz]) 74).trans aB dw
 have bQ:=bQ.aD dw.1 sx
 replace he:e=aS (aR _ x _) []:=he
 subst he
 refine W ?_
 exact dn ((cD w1.heap.size ([str (bR (cU ee [] []) ee [] 0).1.au.av,.slice nu nv nz]) 74).refl _) rfl
 refine bV ?_ ?_
 intro x vs fI e dw hd he
 replace dw:=(cD w1.heap.size ([str (bR (cU ee [] []) ee [] 0).1.au.av,.slice nu nv nz]) 74).trans aB dw
 replace he:e=aS (aR _ x _) []:=he
 subst he
 refine W ?_
 exact dn ((cD w1.heap.size ([str (bR (cU ee [] []) ee [] 0).1.au.av,.slice nu nv nz]) 74).refl _) rfl
 refine bV ?_ ?_
 intro x vs fI e dw hd he
 have d1:vs 1=(.pointer (some ⟨w5.heap.size,0,none⟩)):=hd
 replace dw:=(cD w1.heap.size ([str (bR (cU ee [] []) ee [] 0).1.au.av,.slice nu nv nz]) 74).trans aB dw
 replace he:e=aS (aR _ x _) [(18,vs 1)]:=he
 rw[d1] at he
 subst he
 refine W ?_
 exact dn ((cD w1.heap.size ([str (bR (cU ee [] []) ee [] 0).1.au.av,.slice nu nv nz]) 74).refl _) rfl
 refine bV ?_ ?_
 intro x vs fI e dw hd he
 have d2:vs 2=(.pointer (some ⟨w5.heap.size,0,none⟩)):=hd
 replace dw:=(cD w1.heap.size ([str (bR (cU ee [] []) ee [] 0).1.au.av,.slice nu nv nz]) 74).trans aB dw
 replace he:e=aS (aR _ x _) [(19,vs 2)]:=he
 rw[d2] at he
 subst he
 refine W ?_
 exact dn ((cD w1.heap.size ([str (bR (cU ee [] []) ee [] 0).1.au.av,.slice nu nv nz]) 74).refl _) rfl
 refine bV ?_ ?_
 intro x vs fI e dw hd he
 have d3:vs 3=(.pointer (some ⟨w5.heap.size,0+1,none⟩)):=hd
 replace dw:=(cD w1.heap.size ([str (bR (cU ee [] []) ee [] 0).1.au.av,.slice nu nv nz]) 74).trans aB dw
 have iY:=iY.aD dw.1 sx
 replace he:e=aS (aR _ x _) [(20,vs 3)]:=he
 rw[d3] at he
 subst he
 refine W ?_
 exact dn ((cD w1.heap.size ([str (bR (cU ee [] []) ee [] 0).1.au.av,.slice nu nv nz]) 74).refl _) rfl
 refine bV ?_ ?_
 intro x vs fI e dw hd he
 have d4:vs 4=(.int .i64 ((bR (cU ee [] []) ee [] 0).2:Int)):=hd
 replace dw:=(cD w1.heap.size ([str (bR (cU ee [] []) ee [] 0).1.au.av,.slice nu nv nz]) 74).trans aB dw
 replace he:e=aS (aR _ x _) [(21,vs 4)]:=he
 rw[d4] at he
 subst he
 refine W ?_
 exact dn ((cD w1.heap.size ([str (bR (cU ee [] []) ee [] 0).1.au.av,.slice nu nv nz]) 74).refl _) rfl
 refine bV ?_ ?_
 intro x vs fI e dw hd he
 have d0:vs 0=(.agg #[str (bR (cU ee [] []) ee [] 0).1.au.av,.slice nu nv nz]):=hd
 replace dw:=(cD w1.heap.size ([str (bR (cU ee [] []) ee [] 0).1.au.av,.slice nu nv nz]) 74).trans aB dw
 obtain⟨us,vI,vJ⟩:=dw.2.2 ⟨_,(by rfl),aO⟩
 replace he:e=aS (aR _ x _) [(17,vs 0)]:=he
 rw[d0] at he
 subst he
 refine cu aK rfl rfl rfl vJ (by rw[vI];rfl) λjE gB hb HS=>W ?_
 exact dn ⟨gB,λ_=>hb,λ_=>⟨_,rfl,hb⟩⟩ hb
 refine bV ?_ ?_
 intro x vs fI e dw hd he
 have d5:vs 5=(.bool (decide (((bR (cU ee [] []) ee [] 0).2:Int)<=100))):=hd
 replace dw:=(cD w1.heap.size ([str (bR (cU ee [] []) ee [] 0).1.au.av,.slice nu nv nz]) 74).trans aB dw
 replace he:e=aS (aR _ x _) [(22,vs 5)]:=he
 rw[d5] at he
 subst he
 refine W ?_
 exact dn ((cD w1.heap.size ([str (bR (cU ee [] []) ee [] 0).1.au.av,.slice nu nv nz]) 74).refl _) rfl
 exact trivial
 intro x vs lM ln bT
 have d0:vs 0=(.agg #[str (bR (cU ee [] []) ee [] 0).1.au.av,.slice nu nv nz]):=bT 0 de
 have d1:vs 1=(.pointer (some ⟨w5.heap.size,0,none⟩)):=bT 1 de
 have d2:vs 2=(.pointer (some ⟨w5.heap.size,0,none⟩)):=bT 2 de
 have d3:vs 3=(.pointer (some ⟨w5.heap.size,0+1,none⟩)):=bT 3 de
 have d4:vs 4=(.int .i64 ((bR (cU ee [] []) ee [] 0).2:Int)):=bT 4 de
 have d5:vs 5=(.bool (decide (((bR (cU ee [] []) ee [] 0).2:Int)<=100))):=bT 5 de
 have d6:aL lM w1.heap.size ([str (bR (cU ee [] []) ee [] 0).1.au.av,.slice nu nv nz]).toArray 74:=bT 6 de
 have d7:vs 7=(.bool (decide (((bR (cU ee [] []) ee [] 0).2:Int)<=100))):=bT 7 de
 have hK:=hK.aD ln.1 sx;have xz:=xz.aD ln.1 sx
 have aO:=d6
 change OW _ _ _ _ [] (aS (aR _ x _) (zZ 17 [vs 0,vs 1,vs 2,vs 3,vs 4,vs 5]++[(100006,vs 6),(3,vs 7)])) _
 rw[d0,d1,d2,d3,d4,d5,d7]
 refine W ?_
 exact⟨[_,_],⟨fB eK aK rfl aO rfl,rfl⟩,⟨_,congrArg (λb=>Value.tuple #[_,.bool b]) (show decide (((bR (cU ee [] []) ee [] 0).2:Int)<=100)=(qI ee).isSome from by unfold qI;by_cases h:(bR (cU ee [] []) ee [] 0).2<=100;(·rw[iP h];exact dT om);(·rw[iN h];exact dF om)),xz.fV (λx hx=>by simp[hx])⟩,hK⟩
def t5:yJ:=⟨190,9,74⟩
theorem ahH (ag:List aj) (n:Nat) (hn:n<=100000) (hb:ag.length<=10000) (b:Nat) (E G:List Nat) (aP:List aj) (exprs:List aq) (w:World) (h:M5 t5 E G w b ag n aP exprs):
  bC Tryz.prog 249 [.pointer (some ⟨b,0,none⟩)] w λr w'=>(r=str (cW cy (bw cy ag n))∧M5 t5 E G w' b ag (bw cy ag n+1) aP exprs)∧ak [b] w w':=by
 have Ou:=E4 cy ag n
 obtain⟨vt,vn,ve,gn,ge,bu,hS⟩:=h
 have bu:aL w b [vt,.int .i64 (n:Int),vn,ve].toArray 190:=bu
 refine cj [.tmp 2] 26 Tryz.func249 rfl adn rfl rfl ?_
 refine W ?_
 refine eO (λk:Nat=>[(0,.pointer (some ⟨b,0,none⟩))]) (λk w'=>ak [b] w w'∧aL w' b [vt,.int .i64 (k:Int),vn,ve].toArray 190∧iV t5 E G w' b vt vn ve gn ge ag aP exprs∧n<=k∧bw cy ag k=bw cy ag n) (λk=>bw cy ag n+1-k) n rfl (⟨ak.refl _ _,bu,hS,lR _,rfl⟩) λgg w1 e1 hI=>?_
 obtain⟨hK,bu,hS,hk,hq⟩:=hI
 have hle:=(oC cy ag gg).1
 refine W ?_
 refine aA (iI (gg+1) gg om om w1) ?_
 rintro _ w2 ⟨rfl,az⟩
 have dz:=az.size
 refine cO az hK bu hS λhK bu hS=>?_
 refine iw rfl rfl rfl rfl (by have:=EK _ gg (lR _);simp;omega)<|W ?_
 refine gF (o:=1) sJ rfl rfl rfl bu rfl λw3 aH bu dv=>?_
 have hS:=hS.aG aH sm
 have hK:=hK.trans aH
 refine W ?_
 refine aA (Bl ag om (cW cy gg) _ _ w3 hS.ta) ?_
 rintro _ w4 ⟨rfl,aN⟩
 have fg:=aN.size
 refine cO aN hK bu hS λhK bu hS=>?_
 refine jY rfl rfl rfl<|aV<|zc rfl (λh1=>?_) (λh1=>?_)
 have mY:cW cy gg∉ag:=(by simpa using h1)
 have HK:bw cy ag n=gg:=hq.symm.trans (Ta mY)
 refine W ?_
 exact⟨_,rfl,⟨by rw[HK];rfl,_,_,_,_,_,by rw[HK];exact bu,hS⟩,hK⟩
 have mY:cW cy gg∈ag:=(by simpa using h1)
 have hfs:=S9 mY
 have T0:=(oC cy ag (gg+1)).1
 refine WZ ?_
 exact⟨gg+1,rfl,⟨hK,bu,hS,om,om⟩,om⟩
section
variable {τ:yJ} {E G:List Nat} {w w':World} {b:Nat} {vt vn ve:Value} {gn ge:Option Nat} {ag aP:List aj} {exprs:List aq}
theorem iV.Bz (h:iV τ E G w b vt vn ve gn ge ag aP exprs) {ys:List aq} (hy:dO (ge.toList++(g.toList++(E++G))) w' τ.T 2 v g (cQ ys)) (k:ak (b::ge.toList) w w') (hg:g=ge∨∃x,g=some x∧w.heap.size<=x):
  ∃G',iV τ E G' w' b vt vn v gn g ag aP ys∧Fr G w G' w'∧∀x,x∈G'->x∈ge.toList++(g.toList++(E++G)):=by
 obtain⟨a1,a2,a3,a4⟩:=h.apart
 have px:∀x,x∈g.toList->x∈ge.toList∨w.heap.size<=x:=λx hx=>by
  rcases hg with rfl|⟨y,rfl,hy⟩
  ·exact .inl hx
  ·right;simp at hx;omega
 have oh:b∈G:=h.mem.2 (.inl rfl)
 have hF:Fr G w (b::(gn.toList++g.toList)) w':=⟨k.mono λx hx=>by
  rcases mC.1 hx with rfl|hx
  ·exact oh
  ·exact h.mem.2 (by simp[hx]),λx hx=>by
  rcases mC.1 hx with rfl|hx
  ·exact .inl oh
  ·rcases mA.1 hx with hx|hx
   ·exact .inl (h.mem.2 (by simp[hx]))
   ·rcases px x hx with h1|h1
    ·exact .inl (h.mem.2 (by simp[h1]))
    ·exact .inr h1⟩
 have et:∀x,x∈E++G->x<w.heap.size:=h.cN
 have hN:(E++b::(gn.toList++g.toList)).Nodup:=Uy a1 a2 a3 (λx hx=>by
  rcases px x hx with h1|h1
  ·exact a4 x h1
  ·exact⟨λhe=>by have:=et x (by simp[he]);omega,λe=>by have:=et x (mR _ (h.mem.2 (.inl e)));omega,λe=>by have:=et x (mR _ (h.mem.2 (by simp[e])));omega⟩)
 have rY:∀x,x∈b::(gn.toList++g.toList)->x∈ge.toList++(g.toList++(E++G)):=λx hx=>by
  rw[mA,mA,mA]
  rcases mC.1 hx with rfl|hx
  ·exact .inr (.inr (.inr oh))
  ·rcases mA.1 hx with hx|hx
   ·exact .inr (.inr (.inr (h.mem.2 (by simp[hx]))))
   ·simp[hx]
 refine⟨_,⟨h.ta.go (hF.in E),h.na.aG k (λx hx hy=>?_),hy.sub λx hx=>.inl ?_,rfl,hN,λx hx=>?_⟩,hF,rY⟩
 ·rcases mC.1 hy with rfl|hy
  ·exact(a3 x (by simp[hx])).2 rfl
  ·exact(a4 x hy).2.2 (by simp[hx])
 ·rcases mA.1 hx with hx|hx
  ·simp[hx]
  ·exact rY x hx
 ·have hs:=k.size
  rcases mA.1 hx with hx|hx
  ·exact lL (h.cN x (by simp[hx])) hs
  ·rcases mC.1 hx with rfl|hx
   ·exact lL (h.cN x (mR _ oh)) hs
   ·rcases mA.1 hx with hx|hx
    ·exact lL (h.cN x (mR _ (h.mem.2 (by simp[hx])))) hs
    ·exact hy.lt x hx
theorem iV.alloc (h:iV τ E G w b vt vn ve gn ge ag aP exprs) (k:ak [] w w') (hz:w'.heap.size=w.heap.size+1):iV τ (w.heap.size::E) G w' b vt vn ve gn ge ag aP exprs:=by
 have hF:∀x,x∈(w.heap.size::E)++G->x∈E++G∨w.heap.size<=x:=λx hx=>by
  rcases mC.1 (show x∈w.heap.size::(E++G) from hx) with h1|h1
  ·right;omega
  ·exact .inl h1
 refine⟨(h.ta.fresh hF).ext k,h.na.ext k,(h.ex.sub hF).any k,h.eG,?_,λx hx=>?_⟩
 ·show(w.heap.size::(E++G)).Nodup
  rw[List.nodup_cons]
  exact⟨λhx=>by have:=h.cN _ hx;omega,h.nd⟩
 ·rcases mC.1 (show x∈w.heap.size::(E++G) from hx) with h1|h1
  ·omega
  ·have:=h.cN x h1;omega
theorem iV.aD (h:iV τ E G w b vt vn ve gn ge ag aP exprs) (k:ak [x] w w') (hx:x∈E):iV τ E G w' b vt vn ve gn ge ag aP exprs:=by
 obtain⟨a1,a2,a3,a4⟩:=h.apart
 have hF:Fr (E++G) w (E++G) w':=Fr.of k λy hy=>List.mem_append_left _ (by simp at hy;subst hy;exact hx)
 exact⟨h.ta.go hF,h.na.aG k (λy hy wH=>(a3 y (by simp[hy])).1 (by simp at wH;subst wH;exact hx)),h.ex.aG hF k (λy hy wH=>(a4 y hy).1 (by simp at wH;subst wH;exact hx)),h.eG,h.nd,λy hy=>lL (h.cN y hy) k.size⟩
theorem iV.drop (h:iV τ (x::E) G w b vt vn ve gn ge ag aP exprs):iV τ E G w b vt vn ve gn ge ag aP exprs:=
 ⟨h.ta.fresh λy hy=>.inl (mK _ hy),h.na,h.ex.sub λy hy=>.inl (mK _ hy),h.eG,(List.nodup_cons.1 (show(x::(E++G)).Nodup from h.nd)).2,λy hy=>h.cN y (mK _ hy)⟩
theorem M5.open (h:M5 τ E G w b ag n aP exprs):∃vt vn ve gn ge,aL w b [vt,.int .i64 (n:Int),vn,ve].toArray τ.M∧iV τ E G w b vt vn ve gn ge ag aP exprs:=h
theorem M5.bG (h:M5 τ E G w b ag n aP exprs):b∈G∧b<w.heap.size∧eZ (E++G) w:=by
 obtain⟨_,_,_,_,_,h1,h2⟩:=h
 exact⟨h2.mem.2 (.inl rfl),h1.lt,h2.cN⟩
theorem M5.nE (h:M5 τ E G w b ag n aP exprs) (hx:x∈E):x∉G:=by
 obtain⟨_,_,_,_,_,_,h2⟩:=h
 have:=h2.nd
 rw[List.nodup_append] at this
 exact λhg=>this.2.2 x hx x hg rfl
theorem M5.alloc (h:M5 τ E G w b ag n aP exprs) (k:ak [] w w') (hz:w'.heap.size=w.heap.size+1):M5 τ (w.heap.size::E) G w' b ag n aP exprs:=by
 obtain⟨vt,vn,ve,gn,ge,h1,h2⟩:=h
 exact⟨vt,vn,ve,gn,ge,h1.ext k,h2.alloc k hz⟩
theorem M5.aD (h:M5 τ E G w b ag n aP exprs) (k:ak [x] w w') (hx:x∈E):M5 τ E G w' b ag n aP exprs:=by
 obtain⟨vt,vn,ve,gn,ge,h1,h2⟩:=h
 exact⟨vt,vn,ve,gn,ge,h1.aG k (by simp;intro e;subst e;exact h2.apart.2.1 hx),h2.aD k hx⟩
theorem M5.drop (h:M5 τ (x::E) G w b ag n aP exprs):M5 τ E G w b ag n aP exprs:=by
 obtain⟨vt,vn,ve,gn,ge,h1,h2⟩:=h
 exact⟨vt,vn,ve,gn,ge,h1,h2.drop⟩
end
theorem dO.form {T:TypeId} (h:dO L w T sz v g rows) (hp:0<rows.length):∃b cap,v= .slice (some ⟨b,0,none⟩) rows.length cap∧g=some b:=by
 obtain⟨xs,hx,_⟩:=h.own
 rcases hx.2 with⟨_,h0,_⟩|⟨b,cap,_,e,hv,_⟩
 ·omega
 ·exact⟨b,cap,hv,e⟩
theorem dO.OH {T:TypeId} {i:Nat} (h:dO L w T 2 (.slice (some ⟨b,0,none⟩) n c) g (cQ ts)) (hi:i<ts.length):
  ∃pa pc,gJ w b (0+i*2) [str (nth ts i).av,.slice pa (nth ts i).ai.length pc]∧bh L w (.agg #[str (nth ts i).av,.slice pa (nth ts i).ai.length pc]) (nth ts i):=by
 obtain⟨xs,dH,iJ⟩:=h.own
 rcases dH.2 with⟨h0,_⟩|⟨b',cap,cur,e,hv,hb,mI,mH,cG,ht⟩
 ·cases h0
 ·cases hv
  have gR:=h.row
  have hlen:xs.length=(cQ ts).length*2:=dH.1
  have jr:∀j,j<2->∀u,xs[i*2+j]?=some u->w.cell? ⟨b,i*2+j,none⟩=some u:=λj hj u hu=>by
   rw[hb.cell]
   rw[<-ht,List.getElem?_take] at hu
   split at hu
   ·simpa using hu
   ·cases hu
  have lp:i<(cQ ts).length:=by rw[gK];exact hi
  obtain⟨u0,h0⟩:∃u,xs[i*2]?=some u:=⟨xs[i*2]'om,gE om⟩
  obtain⟨u1,h1⟩:∃u,xs[i*2+1]?=some u:=⟨xs[i*2+1]'om,gE om⟩
  have hr:dd L w [u0,u1] (nth ts i).enc:=by
   have iz:=o5 (nth ts i)
   refine dd.of (by rw[iz];rfl) λj v c hv hc=>?_
   have mZ:(cQ ts).flatten[i*2+j]?=some c:=FU gR (Mg (ej hi)) hc
   refine iJ.get ?_ mZ
   match j,hv with
   |0,hv=>simp at hv;subst hv;exact h0
   |1,hv=>simp at hv;subst hv;exact h1
  obtain⟨pa,pn,pc,he,hn,hp⟩:=cS (t:=nth ts i) ⟨[u0,u1],rfl,hr⟩
  have gP:[u0,u1]=[str (nth ts i).av,.slice pa pn pc]:=by
   have:=congrArg (λv=>match v with|Value.agg x=>x.toList|_=>[]) he
   simpa using this
  subst hn
  simp only[List.cons.injEq,and_true] at gP
  obtain⟨e0,e1⟩:=gP
  subst e0 e1
  refine⟨pa,pc,λj v hj=>?_,jh hp⟩
  match j,hj with
  |0,hj=>simp at hj;subst hj;have:=jr 0 om _ h0;simpa using this
  |1,hj=>simp at hj;subst hj;have:=jr 1 om _ h1;simpa using this
theorem cE.OH {T:TypeId} {i:Nat} (h:cE w T (.slice (some ⟨b,0,none⟩) n c) g xs) (hi:i<xs.length):gJ w b (0+i*1) [str (cJ xs i)]:=by
 obtain⟨b1,eh,e1,hc⟩:=pR h.rs (kM hi)
 cases e1
 exact hc
theorem cE.ahI {T:TypeId} (h:cE w T v g xs) (hp:0<xs.length):∃b cap,v= .slice (some ⟨b,0,none⟩) xs.length cap∧g=some b:=by cases h.2<;>grind
def V2:Value->Nat->Value
 | .slice (some ⟨b,o,none⟩) _ _,k=>.pointer (some ⟨b,o+k,none⟩)
 |_,_=>undef
section
variable {P:Program} {n:Nat} {ops:Array Oper} {K:Env->World->Prop} {rest:List Oper} {e:Env} {w:World} {dst:Option Nat} {ty:TypeId} {pos:String} {after:Array Edge} {g:Option (Nat×Bool)} {x y:Operand}
theorem sj {t E bytes:Nat} {z:Value} {v:Value} {gb:Option Nat} {xs:List aj} {s:aj} {b U:Nat} (hT:P.underlying t=some (.slice E)) (hE:TI P E 1 bytes z) (hg:gate ops e g=true) (hd:cC n dst=true) (hz:Nat.beq z.cells.size 1=true) (gm:Nat.ble bytes 1000=true) 
  (hx:ev e x=v) (hy:ev e y= .slice (some ⟨b,0,none⟩) 1 1) (hO:cE w E v gb xs) (hb:aL w b [str s].toArray U) (hn:xs.length<100000000)
  (k:∀v' g' w',cE w' E v' g' (xs++[s])->ak gb.toList w w'->(g'=gb∨g'=some w.heap.size)->OW P n ops K rest (bY e dst v') w'):
  OW P n ops K (⟨dst,.call {callee:=.builtin .append,args:=#[x,y],argTypes:=#[t,t]},ty,pos,after,g⟩::rest) e w:=by
 refine CZ (L:=[]) (row:=[.val (str s)]) hT hE hg hd hz gm hx hy (hO.Uv _) rfl hb.all (by simp[Value.oneCell']) ⟨.val _,trivial⟩ (by rw[qA];exact hn) ?_
 intro v' g' w' jj hk jZ
 rw[Uw] at jj
 exact k v' g' w' jj.vh hk.aG jZ
theorem V3 {G:List Nat} {t E bytes:Nat} {z:Value} {v:Value} {gb:Option Nat} {ts:List aq} {b:Nat} {U c:Nat} (hT:P.underlying t=some (.slice E)) (hE:TI P E 2 bytes z) (hg:gate ops e g=true) (hd:cC n dst=true) (hz:Nat.beq z.cells.size 2=true) (gm:Nat.ble bytes 1000=true) 
  (hx:ev e x=v) (hy:ev e y= .slice (some ⟨b,0,none⟩) 1 c) (hO:dO G w E 2 v gb (cQ ts)) (hG:eZ G w) (oJ:∀q,q∈gb.toList->q∈G) (hb:aL w b [str [],.slice none 0 0].toArray U) (hn:ts.length<100000000)
  (k:∀v' g' w',dO (gb.toList++(g'.toList++G)) w' E 2 v' g' (cQ (ts++[.mk [] []]))->ak gb.toList w w'->(g'=gb∨g'=some w.heap.size)->Fr G w (gb.toList++(g'.toList++G)) w'->eZ (gb.toList++(g'.toList++G)) w'->OW P n ops K rest (bY e dst v') w'):
  OW P n ops K (⟨dst,.call {callee:=.builtin .append,args:=#[x,y],argTypes:=#[t,t]},ty,pos,after,g⟩::rest) e w:=by
 refine CZ (L:=G) (row:=(aq.mk [] []).enc) hT hE hg hd hz gm hx hy (hO.sub λq hq=>.inl ?_) (o5 _) hb.all (by simp[Value.oneCell']) (bh.ji (km nM)) (by rw[gK];exact hn) ?_
 ·rcases mA.1 hq with h|h
  ·exact oJ q h
  ·exact h
 ·intro v' g' w' jj hk jZ
  have e1:cQ ts++[(aq.mk [] []).enc]=cQ (ts++[.mk [] []]):=by rw[Mf];rfl
  rw[e1] at jj
  have px:∀q,q∈g'.toList->q∈gb.toList∨w.heap.size<=q:=λq hq=>by
   rcases jZ with h|h
   ·rw[h] at hq;exact .inl hq
   ·rw[h] at hq;simp at hq;right;omega
  refine k v' g' w' jj hk.aG jZ ⟨hk.aG.mono oJ,λq hq=>?_⟩ λq hq=>?_
  ·rcases mA.1 hq with h|h
   ·exact .inl (oJ q h)
   ·rcases mA.1 h with h|h
    ·rcases px q h with h|h
     ·exact .inl (oJ q h)
     ·exact .inr h
    ·exact .inl h
  ·have hs:=hk.aG.size
   rcases mA.1 hq with h|h
   ·exact lL (hG q (oJ q h)) hs
   ·rcases mA.1 h with h|h
    ·exact jj.lt q h
    ·exact lL (hG q h) hs
end
structure J5 (τ:yJ) (E G2:List Nat) (w0:World) (b:Nat) (vt n vn ve:Value) (ge:Option Nat) (exprs:List aq) (s:aq) (b9 Di:Bool) (G:List Nat) (v:Value) (w:World):Prop where
 box:aL w b [vt,n,vn,if Di=true then v else ve].toArray τ.M
 cN:eZ G w
 aG:ak (b::ge.toList) w0 w
 ex:∃g',G=ge.toList++(g'.toList++(E++G2))∧dO G w τ.T 2 v g' (cQ (exprs++[if b9=true then s else .mk [] []]))∧(g'=ge∨∃x,g'=some x∧w0.heap.size<=x)
section
variable {τ:yJ} {E G2:List Nat} {w0 w w':World} {b:Nat} {vt n vn ve:Value} {ge:Option Nat} {exprs:List aq} {s:aq} {b9 Di:Bool} {G:List Nat} {v:Value}
theorem J5.ext (h:J5 τ E G2 w0 b vt n vn ve ge exprs s b9 Di G v w) (k:ak [] w w'):J5 τ E G2 w0 b vt n vn ve ge exprs s b9 Di G v w':=
 ⟨h.box.ext k,λx hx=>lL (h.cN x hx) k.size,h.aG.ext k,let⟨g',h1,h2,h3⟩:=h.ex;⟨g',h1,h2.any k,h3⟩⟩
theorem J5.form (h:J5 τ E G2 w0 b vt n vn ve ge exprs s b9 Di G v w):∃bb cap,v= .slice (some ⟨bb,0,none⟩) (exprs.length+1) cap∧(bb∈G)∧(bb∈ge.toList∨w0.heap.size<=bb)∧G=ge.toList++([bb]++(E++G2))∧dO G w τ.T 2 v (some bb) (cQ (exprs++[if b9=true then s else .mk [] []]))∧(some bb=ge∨∃x,some bb=some x∧w0.heap.size<=x):=by
 obtain⟨g',h1,h2,h3⟩:=h.ex
 obtain⟨bb,cap,e1,e2⟩:=h2.form (by rw[gK];simp)
 subst e2
 refine⟨bb,cap,by rw[e1,gK];simp,by rw[h1];simp,?_,h1,h2,h3⟩
 rcases h3 with h|⟨x,h,hx⟩
 ·left;rw[<-h];simp
 ·cases h;exact .inr hx
theorem J5.fill {bb:Nat} (h:J5 τ E G2 w0 b vt n vn ve ge exprs s false Di G v w) (hG:G=ge.toList++([bb]++(E++G2))) (hb:b≠bb) (fX:bb∈ge.toList∨w0.heap.size<=bb) (hg:some bb=ge∨∃x,some bb=some x∧w0.heap.size<=x) (k:ak [bb] w w') (ho:dO G w' τ.T 2 v (some bb) (cQ (exprs++[s]))):J5 τ E G2 w0 b vt n vn ve ge exprs s true Di G v w':=
 ⟨h.box.aG k (by simpa using hb),λx hx=>lL (h.cN x hx) k.size,h.aG.since k (λx hx=>by
  simp at hx;subst hx
  rcases fX with h|h
  ·exact .inl (by simp only[mC];right;exact h)
  ·exact .inr h),some bb,hG,by simpa using ho,hg⟩
theorem J5.field (h:J5 τ E G2 w0 b vt n vn ve ge exprs s b9 false G v w) (k:ak [b] w w') (hb:aL w' b [vt,n,vn,v].toArray τ.M) (ho:∀g',dO G w τ.T 2 v g' (cQ (exprs++[if b9=true then s else .mk [] []]))->(g'=ge∨∃x,g'=some x∧w0.heap.size<=x)->b∉g'.toList) (oh:b∈G):J5 τ E G2 w0 b vt n vn ve ge exprs s b9 true G v w':=
 ⟨by simpa using hb,λx hx=>lL (h.cN x hx) k.size,h.aG.since k (λx hx=>by simp at hx;subst hx;exact .inl sm),let⟨g',h1,h2,h3⟩:=h.ex;⟨g',h1,h2.aG (Fr.of k (by simpa using oh)) k (λx hx hy=>by simp at hy;subst hy;exact ho g' h2 h3 hx),h3⟩⟩
end
def zq (ag:List aj) (e:Ex) (n:Nat) (aP:List aj) (exprs:List aq):Prop:=n+e.n*(2*(ag.length+2))<=100000∧aP.length+4*e.n<=100000∧exprs.length+4*e.n<=100000∧ag.length<=10000
def Kx (ag:List aj) (E G:List Nat) (b:Nat) (aP:List aj) (exprs:List aq) (w:World) (q:Bs×Ex×Nat) (r:Value) (w':World):Prop:=
 ∃G',(bh (E++G') w' r q.2.1.au∧M5 t5 E G' w' b ag q.2.2 (aP++q.1.map Prod.fst) (exprs++q.1.map λp=>p.2.au))∧Fr G w G' w'
def OI (e:Ex):Prop:=∀(ag:List aj) (n:Nat) (aP:List aj) (exprs:List aq),zq ag e n aP exprs->∀(E G:List Nat) (b:Nat) (v:Value) (w:World),M5 t5 E G w b ag n aP exprs->bh (E++G) w v e.au->
 bC Tryz.prog 218 [.pointer (some ⟨b,0,none⟩),v] w (Kx ag E G b aP exprs w (bf ag e n))
def ahJ (e:Ex):Prop:=∀(ag:List aj) (n:Nat) (aP:List aj) (exprs:List aq),zq ag e n aP exprs->∀(E G:List Nat) (b:Nat) (v:Value) (w:World),M5 t5 E G w b ag n aP exprs->bh (E++G) w v e.au->
 bC Tryz.prog 242 [.pointer (some ⟨b,0,none⟩),v] w (Kx ag E G b aP exprs w (dL ag (bf ag e n)))
theorem OJ {ag:List aj}:∀{e:Ex} {n:Nat} {s:aj},e.ok->(bf ag e n).2.1= .at s->s≠[]
 | .at x,n,s,h,e=>by
  have:Ex.at x=Ex.at s:=e
  cases this
  exact pV h
 | .lt x a b,n,s,h,e=>OJ (e:=b) h.2.2 e
 | .un ..,n,s,h,e=>by cases e
 | .bi ..,n,s,h,e=>by cases e
 | .ite ..,n,s,h,e=>by cases e
 | .fn ..,n,s,h,e=>by cases e
theorem V4 {f:Ex} (h:∀s,f= .at s->s≠[]):f.au.av≠[]↔f.iM=true:=by
 cases f with
 |«at» s=>exact⟨λ_=>rfl,λ_=>h s rfl⟩
 |_=>exact⟨λhh=>absurd rfl hh,λhh=>by cases hh⟩
theorem Ky (ag:List aj) (e:Ex) (n:Nat):(bf ag e n).1.length+1<=2*e.n:=by
 have h1:=vw ag e n
 have h2:∀bs:Bs,3*bs.length<=pZ bs:=by
  intro bs
  induction bs with
  |nil=>simp[pZ]
  |cons p bs ih=>rw[Tj];have:=p.2.pos;simp only[lC];omega
 have h3:=h2 (bf ag e n).1
 have h4:=(bf ag e n).2.1.pos
 omega
theorem V5 (bj:e.ok) (hC:OI e):ahJ e:=by
 intro ag n aP exprs hB E G b v w hM hv
 have cm:=hv
 obtain⟨a,np,c,rfl,hn,aQ⟩:=cS hv
 obtain⟨J1,OK,OL,Kz⟩:=hB
 have KB:=iD ag e n
 have OM:=Ky ag e n
 have hK:=ak.refl [] w
 have aw:=hM
 have hT:=cm
 obtain⟨q,hq⟩:∃q,q=bf ag e n:=⟨_,rfl⟩
 rw[<-hq] at KB OM
 refine j1 [.cell 4 74] 39 Tryz.func242 rfl adk rfl rfl rfl ?_
 refine zr<|ey rfl λw1 aI bU di=>cO aI hK aw hT λhK aw hT=>?_
 refine da aK rfl rfl rfl λw2 az aF dK=>?_
 have hK:=hK.grow;have hK:=hK.ext az;have aw:=aw.alloc az dK;have hT:=hT.grow;have hT:=hT.ext az;have bU:=bU.grow;have bU:=bU.ext az
 refine W ?_
 refine aA (hC ag n aP exprs ⟨J1,OK,OL,Kz⟩ (w1.heap.size::E) G b _ w2 aw hT) ?_
 rintro v9 w3 ⟨G1,⟨dG,qU⟩,db⟩
 rw[<-hq] at dG qU
 obtain⟨a9,n9,c9,e9,_,_⟩:=cS dG
 subst e9
 have aF:=aF.aG db.aG (aw.nE sm)
 have ahK:=aF.lt
 have hR:Fr G w G1 w3:=(Fr.of hK sm).go db
 have BA:=ak.refl [] w3
 have aw:=qU
 have hws:=hR.aG.size
 refine da aK rfl rfl rfl λw4 aN bQ ga=>?_
 have aw:=aw.alloc aN ga;have aF:=aF.grow;have aF:=aF.ext aN;have BA:=BA.grow;have BA:=BA.ext aN;have dG:=dG.grow;have dG:=dG.ext aN
 refine cu aK rfl rfl rfl bQ rfl λw5 aJ bQ iq=>?_
 have aw:=aw.aD aJ sx;have aF:=aF.aD aJ sx;have BA:=BA.aD aJ sx;have dG:=dG.aD aJ sx
 refine W ?_
 refine zc rfl (λh1=>?_) (λh1=>?_)
 have eX:q.2.1.iM=true:=((V4 (λs e=>OJ bj (by rw[<-hq];exact e))).1 h1)
 have OO:dL ag q=q:=iP eX
 have hR:=hR.ext BA
 refine W ?_
 refine cu aK rfl rfl rfl aF rfl λw6 bB aF dv=>?_
 have aw:=aw.aD bB sm;have dG:=dG.aD bB sm
 have hR:Fr G w G1 w6:=⟨hR.aG.since bB (λx hx=>.inr (by simp at hx;omega)),hR.mem⟩
 refine W ?_
 exact⟨[_],fB eK aK rfl aF rfl,by rw[<-hq,OO];exact⟨G1,⟨dG.fV (λx hx=>mK _ (mK _ hx)),aw.drop.drop⟩,hR⟩⟩
 have eX:¬q.2.1.iM=true:=(λhh=>h1 ((V4 (λs e=>OJ bj (by rw[<-hq];exact e))).2 hh))
 have OO:dL ag q=(q.1++[(cW cy (bw cy ag q.2.2),q.2.1)],.at (cW cy (bw cy ag q.2.2)),bw cy ag q.2.2+1):=iN eX
 have hR:=hR.ext BA
 have aY:∃nm,nm=cW cy (bw cy ag q.2.2):=⟨_,rfl⟩
 obtain⟨nm,gk⟩:=aY
 have aY:∃x,x=aP++q.1.map Prod.fst:=⟨_,rfl⟩
 obtain⟨N1,Dj⟩:=aY
 have aY:∃x,x=exprs++q.1.map λp=>p.2.au:=⟨_,rfl⟩
 obtain⟨X1,Dk⟩:=aY
 rw[<-Dj,<-Dk] at aw
 have V6:N1.length=aP.length+q.1.length:=by rw[Dj];simp
 have hXl:X1.length=exprs.length+q.1.length:=by rw[Dk];simp
 refine gX<|zr<|zm<|aA (ahH ag q.2.2 om Kz b _ G1 N1 X1 w5 aw) ?_
 rintro vR w6 ⟨⟨BB,qU⟩,iA⟩
 rw[<-gk] at BB
 subst BB
 have oh:=qU.bG
 have JS:=qU.nE (x:=w1.heap.size) sm
 have dG:=dG.aD iA (by intro x hx;simp at hx;subst hx;simp[oh.1])
 have aF:=aF.aG iA (by simp;intro e;subst e;exact JS oh.1)
 have KC:=qU.nE (List.mem_cons_self ..)
 have bQ:=bQ.aG iA (by simp;intro e;exact KC (e▸oh.1))
 have hR:=hR.aD iA (by simpa using oh.1)
 obtain⟨vt,vn,ve,gn,ge,bu,hS⟩:=qU.open
 refine W ?_
 refine fo bo bm rfl rfl λw7 bJ uA l4=>sV bJ aF dG bQ bu hS hR λaF dG bQ bu hS hR=>?_
 refine sj bo bm rfl rfl rfl rfl rfl rfl hS.na uA om λV7 g23 w8 V8 aU ahM=>?_
 obtain⟨pC,pD,HT⟩:=j8 V8
 subst HT
 obtain⟨KD,xA,xB,tq⟩:=hS.apart
 obtain⟨G2,fp,jD⟩:=hS.Uz V8 aU ahM
 have bu:=bu.aG aU (λh=>(xB b h).2 rfl)
 have aF:=aF.aG aU (λh=>(xB _ h).1 sm)
 have bQ:=bQ.aG aU (λh=>(xB _ h).1 sm)
 have dG:bh ((w3.heap.size::w1.heap.size::E)++G2) w8 _ q.2.1.au:=bh.go (L:=(w3.heap.size::w1.heap.size::E)++G1) dG (jD.in _)
 have hR:=hR.go jD
 have xC:b∈G2:=fp.mem.2 (.inl rfl)
 refine W ?_
 refine gF (o:=2) mT rfl rfl rfl bu rfl λw9 aC bu dv=>?_
 have hS:=fp.aG aC sm
 have aF:=aF.aG aC (by simp;intro e;subst e;exact xA sm)
 have bQ:=bQ.aG aC (by simp;intro e;exact xA (by simp[e]))
 have dG:=dG.aD aC (by intro x hx;simp at hx;subst hx;simp[xC]);have hR:=hR.aD aC (by simpa using xC)
 have ahN:=(List.nodup_cons.1 (show(w3.heap.size::((w1.heap.size::E)++G2)).Nodup from hS.nd)).1
 have hS:=hS.drop
 have dG:bh ((w1.heap.size::E)++G2) w9 _ q.2.1.au:=dG.fV (λx hx=>mK _ hx)
 refine W ?_
 obtain⟨ae,ce,e5⟩:=hS.ex.len
 subst e5
 have bQ:dW ((w1.heap.size::E)++G2) w9 _ _ _:=⟨bQ,ahN⟩
 have bu:aL w9 b [vt,(.int .i64 ((bw cy ag q.2.2+1:Nat):Int)),(.slice pC (N1++[nm]).length pD),(.slice ae (cQ X1).length ce)].toArray 190:=bu
 have Dl:eZ ((w1.heap.size::E)++G2) w9:=hS.cN
 have er:b∈G2:=xC
 obtain⟨KD,xA,xB,tq⟩:=hS.apart
 have ir:=bu.lt
 apply TQ du (((w1.heap.size::E)++G2)) 13 (rA 26 9++[100009,35,36,100012]) (rA 26 9++[100009,35,36,100012]) [[],[0],[1],[2],[],[3],[],[3,6],[5,7],[4,8],[0],[10],[7,11]] [Iu.v _,Iu.v _,Iu.v _,Iu.w 0 ((.slice ae (cQ X1).length ce)),Iu.v _,Iu.v _,Iu.p (fun(G:List Nat) (v:Value) (ww:World)=>∃bb,v= .slice (some ⟨bb,0,none⟩) 1 1∧dW G ww bb [str [],.slice none 0 0].toArray 74),Iu.e 1,Iu.d (fun(vs:List Value)=>V2 (vs.getD 1 undef) ((cQ X1).length*2)),Iu.u,Iu.v _,Iu.v _,Iu.u] [3,7] [fun(G:List Nat) (vs:List Value) (ww:World)=>G=((w1.heap.size::E)++G2)∧aL ww b [vt,(.int .i64 ((bw cy ag q.2.2+1:Nat):Int)),(.slice pC (N1++[nm]).length pD),(.slice ae (cQ X1).length ce)].toArray 190∧ak [] w9 ww,fun(G:List Nat) (vs:List Value) (ww:World)=>G=((w1.heap.size::E)++G2)∧aL ww b [vt,(.int .i64 ((bw cy ag q.2.2+1:Nat):Int)),(.slice pC (N1++[nm]).length pD),(.slice ae (cQ X1).length ce)].toArray 190∧ak [] w9 ww,fun(G:List Nat) (vs:List Value) (ww:World)=>J5 t5 (w1.heap.size::E) G2 w9 b vt (.int .i64 ((bw cy ag q.2.2+1:Nat):Int)) (.slice pC (N1++[nm]).length pD) (.slice ae (cQ X1).length ce) ge X1 q.2.1.au false false G (vs.getD 1 undef) ww] (fun(S:Nat->Bool) (G:List Nat) (vs:List Value) (ww:World)=>J5 t5 (w1.heap.size::E) G2 w9 b vt (.int .i64 ((bw cy ag q.2.2+1:Nat):Int)) (.slice pC (N1++[nm]).length pD) (.slice ae (cQ X1).length ce) ge X1 q.2.1.au (S 9) (S 12) G (vs.getD 1 undef) ww) de rfl Dl (by exact⟨λG v w G' w' ⟨bb,e,h⟩ k=>⟨bb,e,h.go k⟩,trivial⟩) (by exact⟨λG vs w w' ⟨h1,h2,h3⟩ k=>⟨h1,h2.ext k,h3.ext k⟩,λG vs w w' ⟨h1,h2,h3⟩ k=>⟨h1,h2.ext k,h3.ext k⟩,λG vs w w' h k=>h.ext k,trivial⟩) (by exact λS G vs w w' h k=>h.ext k) (⟨rfl,bu,ak.refl _ _⟩) (by exact λ_ _ _ h _=>h)
 refine uf (λx cB nA aX qm mz=>?_) ?_
 refine WZ ?_
 exact uv
 refine uf (λx cB nA aX qm mz=>?_) ?_
 refine WZ ?_
 exact uv
 refine uf (λx cB nA aX qm mz=>?_) ?_
 refine WZ ?_
 exact uv
 refine ue 0 (λx cB nA aX qm mz hJ hlen=>?_) ?_
 have ba:=jv hlen
 subst ba
 obtain⟨bX,bu,cg⟩:=hJ
 refine WZ ?_
 exact uW nA (Fr.refl _ _) mz (⟨bX,bu,cg⟩)
 refine uf (λx cB nA aX qm mz=>?_) ?_
 have bQ:=bQ.go qm
 refine WZ ?_
 exact uv
 refine uf (λx cB nA aX qm mz=>?_) ?_
 refine WZ ?_
 exact uv
 refine uf (λx cB nA aX qm mz=>?_) ?_
 refine fo cw aK rfl rfl λeC dh ahO uh=>?_
 exact up dh (⟨_,rfl,ahO.o mz⟩)
 refine ue 1 (λx cB nA aX qm mz hJ hlen=>?_) ?_
 obtain⟨q0,ba⟩:=jw hlen
 subst ba
 intro v6 d6
 obtain⟨bb,e6,fX⟩:=d6
 subst e6
 obtain⟨bX,bu,cg⟩:=hJ
 subst bX
 refine V3 cw aK rfl rfl rfl rfl rfl rfl (hS.ext cg).ex ‹_› (λx hx=>mR _ (hS.mem.2 (by simp[hx]))) fX.iy om λv9 g9 eC dm aC fx db eN=>?_
 exact uE _ db eN (⟨bu.aG aC (λh=>(tq b h).2.1 rfl),eN,cg.any.trans (aC.mono (λx hx=>mK _ hx)),g9,rfl,dm,fx.imp id (λh=>⟨_,h,cg.size⟩)⟩)
 refine ud (λx cB nA aX S qm mz hJ hlen=>?_) ?_
 obtain⟨q0,q1,ba⟩:=lJ hlen
 subst ba
 obtain⟨bb,cap,e1,rG,rq,kc,hO,vK⟩:=J5.form hJ
 have e2:q1=_:=e1
 subst e2
 refine zi cw aK rfl rfl (by rw[gK];omega) ?_
 exact uD (ak.refl _ _) rfl
 refine uu (λx cB nA aX S qm mz hJ Dm hlen=>?_) ?_
 obtain⟨q0,q1,ba⟩:=lJ hlen
 subst ba
 have dG:=dG.go qm
 have hJ:J5 t5 (w1.heap.size::E) G2 w9 b vt (.int .i64 ((bw cy ag q.2.2+1:Nat):Int)) (.slice pC (N1++[nm]).length pD) (.slice ae (cQ X1).length ce) ge X1 q.2.1.au (S 9) (S 12) nA q1 cB:=hJ
 rw[Dm] at hJ
 obtain⟨bb,cap,e1,rG,rq,kc,hO,vK⟩:=J5.form hJ
 subst e1
 refine ti (i:=(cQ X1).length) (vs:=[str q.2.1.au.av,.slice a9 n9 c9]) (row:=q.2.1.au.enc) aK rfl rfl rfl rfl (Nat.zero_add _) hO ‹_› rG (by rw[gK,gK];simp) rfl (o5 _) dG.ji λeC dh sf dH=>?_
 rw[tl,gK] at dH
 exact uU nA (Fr.of dh (by simpa using rG)) ((λx hx=>lL (mz x hx) (ak.size dh))) (J5.fill hJ kc (by rintro rfl;rcases rq with h|h;(·exact(tq _ h).2.1 rfl);(·omega)) rq vK dh (by have e3:(X1++[if false=true then q.2.1.au else aq.mk [] []]).set X1.length q.2.1.au=X1++[q.2.1.au]:=sm;rw[e3] at dH;exact dH))
 refine uf (λx cB nA aX qm mz=>?_) ?_
 refine WZ ?_
 exact uv
 refine uf (λx cB nA aX qm mz=>?_) ?_
 refine WZ ?_
 exact uv
 refine uu (λx cB nA aX S qm mz hJ Dm hlen=>?_) ?_
 obtain⟨q0,q1,ba⟩:=lJ hlen
 subst ba
 have hJ:J5 t5 (w1.heap.size::E) G2 w9 b vt (.int .i64 ((bw cy ag q.2.2+1:Nat):Int)) (.slice pC (N1++[nm]).length pD) (.slice ae (cQ X1).length ce) ge X1 q.2.1.au (S 9) (S 12) nA q1 cB:=hJ
 rw[Dm] at hJ
 obtain⟨bb,cap,e1,rG,rq,HU,hO,vK⟩:=J5.form hJ
 subst e1
 have OP:=hJ.box
 refine gF (o:=3) Cx rfl rfl rfl OP rfl λeC dh Dn sf=>?_
 exact uU nA (Fr.of dh (by rw[HU];simp[er])) ((λx hx=>lL (mz x hx) (ak.size dh))) (J5.field hJ dh Dn (λg9 _ fx hx=>by rcases fx with h|⟨y,h,hy⟩;(·rw[h] at hx;exact(tq _ hx).2.1 rfl);(·rw[h] at hx;simp at hx;omega)) (by rw[HU];simp[er]))
 exact trivial
 intro x og Kq aX zj VS hJ hlen
 obtain⟨q0,q1,ba⟩:=lJ hlen
 subst ba
 intro v6 d6
 intro v9
 intro v12
 change OW _ _ _ _ [] (aS (aR _ x _) (zZ 26 [_,_,_,_,_,_,_,_,_]++[(100009,_),(35,_),(36,_),(100012,_)])) _
 have hJ:J5 t5 (w1.heap.size::E) G2 w9 b vt (.int .i64 ((bw cy ag q.2.2+1:Nat):Int)) (.slice pC (N1++[nm]).length pD) (.slice ae (cQ X1).length ce) ge X1 q.2.1.au true true Kq q1 og:=hJ
 obtain⟨g9,kc,dm,fx⟩:=hJ.ex
 subst kc
 obtain⟨G3,sZ,jC,V9⟩:=hS.Bz dm hJ.aG fx
 have aF:=aF.aG hJ.aG (by intro hx;rcases mC.1 hx with h|h;(·exact xA (by simp[h]));(·exact(tq _ h).1 sm))
 have hR:=hR.go jC
 have bu:=hJ.box
 have sZ:=sZ
 refine aV<|zr<|zm<|aA (Bm nm og) ?_
 rintro _ oV ⟨rfl,ma⟩
 have apP:=ma.size
 refine gH ma aF sZ bu hR λaF sZ bu hR=>?_
 refine cu aK rfl rfl rfl aF rfl λlM ln aF dv=>?_
 have bu:=bu.aG ln (by simp;intro e;exact xA (by simp[e]))
 have sZ:=sZ.aD ln sm
 have hR:Fr G w G3 lM:=⟨hR.aG.since ln (λx hx=>.inr (by simp at hx;omega)),hR.mem⟩
 refine W ?_
 exact⟨[_],fB eK aK rfl aF rfl,by rw[<-hq,OO];exact⟨G3,⟨(by rw[gk];exact km nM),(by have e1:aP++(q.1++[(cW cy (bw cy ag q.2.2),q.2.1)]).map Prod.fst=N1++[nm]:=(by rw[Dj,gk];simp);have e2:exprs++(q.1++[(cW cy (bw cy ag q.2.2),q.2.1)]).map (λp=>p.2.au)=X1++[q.2.1.au]:=(by rw[Dk];simp);show M5 t5 E G3 _ b ag _ (aP++(q.1++[(cW cy (bw cy ag q.2.2),q.2.1)]).map Prod.fst) (exprs++(q.1++[(cW cy (bw cy ag q.2.2),q.2.1)]).map (λp=>p.2.au));rw[e1,e2];exact⟨_,_,_,_,_,bu,sZ.drop⟩)⟩,hR⟩⟩
theorem ahP (v:Value) (a:Option Addr) (n c:Nat) (hv:v= .slice a n c) (w:World):bC Tryz.prog 219 [v] w λr w'=>r= .agg #[str [],.slice a n c]∧ak [] w w':=by
 subst hv
 have hK:=ak.refl [] w
 refine j1 [.cell 2 74] 5 Tryz.func219 rfl ac5 rfl rfl rfl ?_
 refine zr<|da aK rfl rfl rfl λw1 aI aO di=>?_
 have hK:=hK.grow;have hK:=hK.ext aI
 refine aV<|zr<|zm<|iT (MS _ _ _ _) rfl rfl<|cu aK rfl rfl rfl aO rfl λw2 az aO dK=>?_
 have hK:=hK.aD az sx
 refine W ?_
 exact⟨[_],fB eK aK rfl aO rfl,rfl,hK⟩
def ahQ (e:Ex):Prop:=∀(ag:List aj) (n:Nat) (aP:List aj) (exprs:List aq),zq ag e n [] []->∀(E G:List Nat) (b:Nat) (v:Value) (w:World),M5 t5 E G w b ag n aP exprs->bh (E++G) w v e.au->
 bC Tryz.prog 181 [.pointer (some ⟨b,0,none⟩),v] w λr w'=>(bh (E++G) w' r (mV ag e n).au∧M5 t5 E G w' b ag (bf ag e n).2.2 aP exprs)∧Fr G w G w'
theorem ahR {bs:Bs} (h:k<bs.length):(nest (bs.drop k) e).au= .mk [] [bH gw,bH (bs.getD k ([],e)).1,(bs.getD k ([],e)).2.au,(nest (bs.drop (k+1)) e).au]:=by
 rw[List.drop_eq_getElem_cons h]
 have e1:bs.getD k ([],e)=bs[k]:=by simp[h]
 rw[e1];rfl
theorem ahS {e:Ex} (h:k<bs.length):cJ (bs.map Prod.fst) k=(bs.getD k ([],e)).1:=by simp[cJ,List.getD,h]
theorem ahT {e:Ex} (h:k<bs.length):nth (bs.map λp=>p.2.au) k=(bs.getD k ([],e)).2.au:=by simp[nth,List.getD,h]
theorem ahU {T:TypeId} {u1 u2 u3 u4 u5 u6 u7 u8:Value} {t1 t2 t3 t4:aq} (hb:aL w b [u1,u2,u3,u4,u5,u6,u7,u8].toArray T) (hL:b∉L) (h1:bh L w (.agg #[u1,u2]) t1) (h2:bh L w (.agg #[u3,u4]) t2) (h3:bh L w (.agg #[u5,u6]) t3) (h4:bh L w (.agg #[u7,u8]) t4):
  cX L w (.slice (some ⟨b,0,none⟩) 4 4) [t1,t2,t3,t4]:=by
 have hc:=hb.all
 refine QX b 0 4 2 (cQ [t1,t2,t3,t4]) [[u1,u2],[u3,u4],[u5,u6],[u7,u8]] rfl (lR 4) hb.lt hL (Me _) (λi vs hi=>?_) λi vs row hi hr=>?_
 ·intro j v hj
  match i,hi with
  |0,hi=>simp at hi;subst hi;have:=hc j v (by match j,hj with|0,hj=>simpa using hj|1,hj=>simpa using hj);simpa using this
  |1,hi=>simp at hi;subst hi;have:=hc (2+j) v (by match j,hj with|0,hj=>simpa using hj|1,hj=>simpa using hj);simpa using this
  |2,hi=>simp at hi;subst hi;have:=hc (4+j) v (by match j,hj with|0,hj=>simpa using hj|1,hj=>simpa using hj);simpa using this
  |3,hi=>simp at hi;subst hi;have:=hc (6+j) v (by match j,hj with|0,hj=>simpa using hj|1,hj=>simpa using hj);simpa using this
 ·match i,hi with
  |0,hi=>simp at hi;subst hi;simp[cQ] at hr;subst hr;exact h1.ji
  |1,hi=>simp at hi;subst hi;simp[cQ] at hr;subst hr;exact h2.ji
  |2,hi=>simp at hi;subst hi;simp[cQ] at hr;subst hr;exact h3.ji
  |3,hi=>simp at hi;subst hi;simp[cQ] at hr;subst hr;exact h4.ji
theorem KE (bj:e.ok) (hC:OI e):ahQ e:=by
 intro ag n aP exprs hB E G b v w hM hv
 have cm:=hv
 obtain⟨a,np,c,rfl,hn,aQ⟩:=cS hv
 have hB0:=hB
 obtain⟨J1,OK,OL,Kz⟩:=hB
 have KB:=iD ag e n
 have OM:=Ky ag e n
 have hK:=ak.refl [] w
 have aw:=hM
 have hT:=cm
 obtain⟨q,hq⟩:∃q,q=bf ag e n:=⟨_,rfl⟩
 rw[<-hq] at KB OM
 refine j1 [.cell 4 74] 66 Tryz.func181 rfl acF rfl rfl rfl ?_
 refine zr<|ey rfl λw1 aI bU di=>bL aI hK aw λhK aw=>?_
 refine da aK rfl rfl rfl λw2 az aF dK=>?_
 have hK:=hK.grow;have hK:=hK.ext az;have aw:=aw.alloc az dK;have bU:=bU.grow;have bU:=bU.ext az
 refine W ?_
 obtain⟨vt,vn,ve,gn,ge,bu,hS⟩:=aw.open
 obtain⟨an,cn,jU⟩:=j8 hS.na
 subst jU
 obtain⟨ae,ce,CG⟩:=hS.ex.len
 subst CG
 obtain⟨KD,xA,xB,tq⟩:=hS.apart
 have oh:b∈G:=hS.mem.2 (.inl rfl)
 have ir:=bu.lt
 have Dp:=hS
 have ni:=hK
 have OQ:=ak.refl [] w2
 have ahK:=aF.lt
 have HL:=aF
 have HV:bh ((w1.heap.size::E)++G) w2 _ e.au:=bh.ext (bh.fresh cm (by intro x hx;rcases mC.1 (show x∈w1.heap.size::(E++G) from hx) with h|h;(·right;omega);(·exact .inl h))) ni
 have apQ:=di
 have apR:=dK
 have Wa:w.heap.size≠b:=(by have:=hM.bG.2.1;omega)
 have KF:w1.heap.size≠b:=(by have:=hM.bG.2.1;omega)
 have JX:=hM.bG.2.1
 refine W ?_
 refine gA bo bm λw3 aH jK fS=>gH aH bu OQ bU aF λbu OQ bU aF=>?_
 refine W ?_
 refine gF (o:=2) mT rfl rfl rfl bu rfl λw4 aN bu dv=>?_
 have qo:ak [b] w2 w4:=(ak.any OQ).trans aN
 have jK:=jK.aG aN so
 have aF:=aF.aG aN (by simpa using KF)
 have bU:=bU.aG aN (by simpa using Wa)
 refine aV<|zr<|zm<|gA cw aK λw5 aJ uA iq=>gH aJ bu bU aF jK λbu bU aF jK=>?_
 refine W ?_
 refine gF (o:=3) Cx rfl rfl rfl bu rfl λw6 bB bu dv=>?_
 have qo:ak [b] w2 w6:=(qo.ext aJ).trans bB
 have jK:=jK.aG bB so
 have uA:=uA.aG bB so
 have aF:=aF.aG bB (by simpa using KF)
 have bU:=bU.aG bB (by simpa using Wa)
 refine W ?_
 have bu:aL w6 b [vt,.int .i64 (n:Int),.slice (some ⟨w2.heap.size,0,none⟩) 0 0,.slice (some ⟨w4.heap.size,0,none⟩) 0 0].toArray 190:=bu
 obtain⟨hSo,_,_,apS⟩:=Dp.opened qo jK uA (lR _) om
 have aw:M5 t5 (gn.toList++(ge.toList++(w1.heap.size::E))) [b,w2.heap.size,w4.heap.size] w6 b ag n [] []:=⟨_,_,_,_,_,bu,hSo⟩
 have hTP:bh ((gn.toList++(ge.toList++(w1.heap.size::E)))++[b,w2.heap.size,w4.heap.size]) w6 _ e.au:=HV.go ⟨qo.mono (by intro x hx;simp at hx;subst hx;simp[oh]),by intro x hx;rcases mA.1 hx with h|h;(·left;rcases mA.1 h with h|h;(·exact mR _ (Dp.mem.2 (by simp[h])));(·rcases mA.1 h with h|h;(·exact mR _ (Dp.mem.2 (by simp[h])));(·exact List.mem_append_left _ h)));(·simp at h;rcases h with h|h|h;(·left;simp[h,oh]);(·right;omega);(·right;omega))⟩
 refine aA (hC ag n [] [] hB0 (gn.toList++(ge.toList++(w1.heap.size::E))) [b,w2.heap.size,w4.heap.size] b _ w6 aw hTP) ?_
 rintro v27 w7 ⟨G2,⟨pE,aw⟩,OR⟩
 rw[<-hq,List.nil_append,List.nil_append] at aw
 rw[<-hq] at pE
 obtain⟨a9,n9,c9,e9,_,_⟩:=cS pE
 subst e9
 have qo:=qo.since OR.aG (by intro x hx;simp at hx;rcases hx with h|h|h;(·left;simp[h]);(·right;omega);(·right;omega))
 have aF:=aF.aG OR.aG so
 have ahY:∀x,x∈G2->x=b∨w2.heap.size<=x:=(by intro x hx;have h1:=qo.size;rcases OR.mem x hx with h|h;(·simp at h;omega);(·right;omega))
 have hzw:=qo.size
 refine da aK rfl rfl rfl λw8 aU cL kV=>?_
 have aF:=aF.grow;have aF:=aF.ext aU;have aw:=aw.alloc aU kV;have pE:=pE.grow;have pE:=pE.ext aU;have qo:=qo.grow;have qo:=qo.ext aU
 refine cu aK rfl rfl rfl cL rfl λw9 aC cL dv=>?_
 have aF:=aF.aD aC sx;have aw:=aw.aD aC sx;have pE:=pE.aD aC sx;have qo:=qo.aD aC sx
 refine W ?_
 obtain⟨vt3,vn3,ve3,gn3,ge3,bu,hS⟩:=aw.open
 obtain⟨an3,cn3,ahZ⟩:=j8 hS.na
 subst ahZ
 obtain⟨ae3,ce3,ah0⟩:=hS.ex.len
 subst ah0
 have pN:(q.1.map Prod.fst).length=q.1.length:=by simp
 have mJ:(q.1.map λp=>p.2.au).length=q.1.length:=by simp
 have ap4:(cQ (q.1.map λp=>p.2.au)).length=q.1.length:=by rw[gK];exact mJ
 refine W ?_
 have Jt:b<w7.heap.size∧w2.heap.size<=w7.heap.size:=(by constructor<;>omega)
 refine eO (λk:Nat=>[(0,.pointer (some ⟨b,0,none⟩)),(4,.pointer (some ⟨w1.heap.size,0,none⟩)),(5,.slice an aP.length cn),(6,.slice ae (cQ exprs).length ce),(7,.pointer (some ⟨w7.heap.size,0,none⟩)),(8,.int .i64 ((k:Int)-1))]) (λk w'=>ak [w7.heap.size] w9 w'∧k<=q.1.length∧∃a n c,aL w' w7.heap.size [str (nest (q.1.drop k) q.2.1).au.av,.slice a n c].toArray 74∧bh (w7.heap.size::((gn.toList++(ge.toList++(w1.heap.size::E)))++G2)) w' (.agg #[str (nest (q.1.drop k) q.2.1).au.av,.slice a n c]) (nest (q.1.drop k) q.2.1).au) (λk=>k) q.1.length (⟨rfl,rfl,rfl,rfl,rfl,congrArg (λz:Nat=>Value.int .i64 ((z:Int)-1)) pN⟩) (⟨ak.refl _ _,lR _,a9,n9,c9,by rw[List.drop_length];exact cL,by rw[List.drop_length];exact pE⟩) λgg cB fL hI=>?_
 obtain⟨fb,hk,a7,n7,c7,cL,pE⟩:=hI
 have OS:b≠w7.heap.size:=(by have:=Jt;omega)
 have bu:=bu.aG fb (by simpa using OS)
 have hS:=hS.aD fb (List.mem_cons_self ..)
 have qo:=qo.since fb (λx hx=>.inr (by rw[List.mem_singleton.1 hx];exact Jt.2))
 refine W ?_
 refine zc rfl (λh1=>?_) (λh1=>?_)
 have aY:∃k,gg=k+1:=⟨gg-1,om⟩
 obtain⟨k,rfl⟩:=aY
 have hi:((k+1:Nat):Int)-1=(k:Int):=by omega
 rw[hi]
 obtain⟨bn,capn,e1,px⟩:=hS.na.ahI om
 cases e1
 obtain⟨be,cape,e2,rU⟩:=hS.ex.form om
 cases e2
 have hcN:=hS.na.OH (i:=k) om
 obtain⟨pa,pc,hcE,OT⟩:=hS.ex.OH (i:=k) om
 refine WZ ?_
 apply wX du 19 (rA 38 19) (rA 38 19) [[],[],[1],[2],[3],[],[4,5],[6],[7],[],[9],[10],[11],[],[12,13],[14],[],[0,8,15,16],[17]] [It.v _,It.v _,It.v _,It.v _,It.v _,It.v _,It.v _,It.v _,It.v _,It.v _,It.v _,It.v _,It.v _,It.v _,It.v _,It.v _,It.v _,It.p (fun(v:Value) (ww:World)=>∃bb,v= .slice (some ⟨bb,0,none⟩) 4 4∧cX (w7.heap.size::((gn.toList++(ge.toList++(w1.heap.size::E)))++G2)) ww v [bH gw,bH (cJ (q.1.map Prod.fst) k),(nth (q.1.map λp=>p.2.au) k),(nest (q.1.drop (k+1)) q.2.1).au]),It.p (fun(v:Value) (ww:World)=>∃a n c,v= .agg #[str [],.slice a n c]∧bh (w7.heap.size::((gn.toList++(ge.toList++(w1.heap.size::E)))++G2)) ww v (.mk [] [bH gw,bH (cJ (q.1.map Prod.fst) k),(nth (q.1.map λp=>p.2.au) k),(nest (q.1.drop (k+1)) q.2.1).au]))] de (by exact⟨λv w w' ⟨bb,e,h⟩ k=>⟨bb,e,h.ext k⟩,λv w w' ⟨a,n,c,e,h⟩ k=>⟨a,n,c,e,h.ext k⟩,trivial⟩)
 intro wd aB
 refine vk aB (λx eC dh=>?_) ?_
 refine aA (Bm _ eC) ?_
 rintro _ fI ⟨rfl,dw⟩
 have BC:=dw.size
 exact pk dw
 refine vc (λ_ _ _=>WZ pv) ?_
 refine vk aB (λx eC dh=>?_) ?_
 refine WZ ?_
 exact pv
 refine vc (λ_ _ _=>WZ pv) ?_
 refine vk aB (λx eC dh=>?_) ?_
 have bu:=bu.ext dh
 refine WZ ?_
 exact pv
 refine vc (λ_ _ _=>WZ pv) ?_
 refine VA ?_
 refine vk aB (λx eC dh=>?_) ?_
 refine aA (Bm _ eC) ?_
 rintro _ fI ⟨rfl,dw⟩
 have BC:=dw.size
 exact pk dw
 refine vc (λ_ _ _=>WZ pv) ?_
 refine vk aB (λx eC dh=>?_) ?_
 refine WZ ?_
 exact pv
 refine vc (λ_ _ _=>WZ pv) ?_
 refine vk aB (λx eC dh=>?_) ?_
 have bu:=bu.ext dh
 refine WZ ?_
 exact pv
 refine vc (λ_ _ _=>WZ pv) ?_
 refine VA ?_
 refine vk aB (λx eC dh=>?_) ?_
 refine cO dh pE hS OT λpE hS OT=>?_
 have dk:=hS.cN
 refine rz [.tmp 38,.tmp 46,.tmp 53,.tmp 54] [[str gw,.slice none 0 0],[str (cJ (q.1.map Prod.fst) k),.slice none 0 0],[str (nth (q.1.map λp=>p.2.au) k).av,.slice pa (nth (q.1.map λp=>p.2.au) k).ai.length pc],[str (nest (q.1.drop (k+1)) q.2.1).au.av,.slice a7 n7 c7]] cw aK rfl rfl rfl rfl rfl rfl rfl rfl rfl λfI dw C9 ap7=>?_
 exact pf dw (⟨_,rfl,ahU C9 (λhx=>by have:=dk _ hx;omega) (km nM) (km nM) (OT.ext dw) (pE.ext dw)⟩)
 refine vk aB (λx eC dh=>?_) ?_
 intro jN d17
 obtain⟨bb,sk,KG⟩:=d17
 refine aA (ahP jN _ _ _ sk eC) ?_
 rintro _ fI ⟨rfl,dw⟩
 have BC:=dw.size
 have KG:=cX.ext KG dw
 rw[sk] at KG
 exact pf dw (⟨_,_,_,rfl,km KG⟩)
 exact trivial
 intro x oV ma
 intro jN d17
 intro xD d18
 refine bL ma fb cL λfb cL=>?_
 change OW _ _ _ _ _ (aS (aR _ x _) (zZ 38 [_,_,_,_,_,_,_,_,_,_,_,_,_,_,_,_,_,_,_])) _
 obtain⟨a8,n8,c8,vS,KH⟩:=d18
 subst vS
 have jg:=ahR (bs:=q.1) (e:=q.2.1) (k:=k) om
 rw[<-ahS (e:=q.2.1) (show k<q.1.length by omega),<-ahT (e:=q.2.1) (show k<q.1.length by omega)] at jg
 rw[<-jg] at KH
 have Wb:(nest (q.1.drop k) q.2.1).au.av=[]:=by rw[jg];rfl
 refine cu aK rfl rfl rfl cL rfl λlM ln cL dv=>?_
 have fb:=fb.trans ln
 have KH:=KH.aD ln sm
 refine W ?_
 exact⟨k,⟨rfl,rfl,rfl,rfl,rfl,rfl⟩,⟨fb,om,a8,n8,c8,by rw[Wb];exact cL,by rw[Wb];exact KH⟩,om⟩
 have h0:gg=0:=by omega
 subst h0
 have BD:=hS
 have Dn:=bu
 have HW:=qo
 refine W ?_
 refine gF (o:=2) mT rfl rfl rfl bu rfl λeC dh bu dv=>?_
 have mB:=dh
 have cL:=cL.aG dh (by simpa using λe=>OS e.symm)
 have pE:=pE.aD dh (by intro x hx;simp at hx;subst hx;simp[BD.mem.2 (.inl rfl)])
 refine W ?_
 refine gF (o:=3) Cx rfl rfl rfl bu rfl λfI dw bu dv=>?_
 have mB:=mB.trans dw
 have cL:=cL.aG dw (by simpa using λe=>OS e.symm)
 have pE:=pE.aD dw (by intro x hx;simp at hx;subst hx;simp[BD.mem.2 (.inl rfl)])
 have ah1:ak [b] w2 fI:=HW.trans mB
 have aF:=HL.aG ah1 (by simpa using KF)
 obtain⟨hS,ah2⟩:=Dp.closed BD.drop (Dp.na.aG HW (λx hx hy=>(xB x (by simp[hx])).2 (by simpa using hy))) (Dp.ex.aG (Fr.of HW (by intro x hx;simp at hx;subst hx;simp[oh])) HW (λx hx hy=>(tq x hx).2.1 (by simpa using hy))) ⟨HW.mono (by intro x hx;simp at hx;subst hx;exact oh),λx hx=>(ahY x hx).imp (λh=>by rw[h];exact oh) id⟩ mB
 have vT:bh ((w1.heap.size::E)++G) fI _ (nest (q.1.drop 0) q.2.1).au:=pE.fV (λx hx=>by rcases mA.1 hx with h|h;(·exact mK _ (by rcases mC.1 h with h|h<;>simp[h]));(·rcases Dp.mem.1 h with h|h|h;(·rw[h];simp[BD.mem.2 (.inl rfl)]);(·simp[h]);(·simp[h])))
 refine W ?_
 refine cu aK rfl rfl rfl aF rfl λjE gB aF dv=>?_
 have bu:=bu.aG gB (by simpa using λe=>KF e.symm)
 have hS:=(hS.aD gB sm).drop
 have vT:=vT.aD gB sm
 have yx:=ni.size
 have hFr:Fr G w G jE:=⟨((ak.any ni).trans ah2.aG).since gB (λx hx=>.inr (by simp at hx;omega)),λx hx=>.inl hx⟩
 refine W ?_
 exact⟨[_],fB eK aK rfl aF rfl,⟨(by have h9:=bh.fV vT (L':=E++G) (λx hx=>mK _ hx);unfold mV;rw[<-hq];exact h9),by rw[<-hq];exact⟨_,_,_,_,_,bu,hS⟩⟩,hFr⟩
def gQ (ag:List aj) (e:Ex) (n:Nat):Nat->Bs×List Ex×Nat
 |0=>([],[],n)
 |k+1=>((gQ ag e n k).1++(dL ag (bf ag (fZ e k) (gQ ag e n k).2.2)).1,(gQ ag e n k).2.1++[(dL ag (bf ag (fZ e k) (gQ ag e n k).2.2)).2.1],(dL ag (bf ag (fZ e k) (gQ ag e n k).2.2)).2.2)
theorem OU (ag:List aj) (e:Ex) (n:Nat):∀k,(gQ ag e n k).2.1.length=k
 |0=>rfl
 |k+1=>by simp[gQ,OU ag e n k]
theorem Wc (ag:List aj) (e:Ex) (n:Nat):(dL ag (bf ag e n)).1.length<=2*e.n:=by
 have:=Ky ag e n
 unfold dL
 split
 ·omega
 ·simp;omega
theorem Wd (ag:List aj) (e:Ex) (n:Nat):(dL ag (bf ag e n)).2.2<=n+e.n*(2*(ag.length+2)):=by
 have h1:=iD ag e n
 have h2:=qH ag (bf ag e n)
 omega
theorem We (ag:List aj) (e:Ex) (n:Nat):∀k,k<=e.kids.length->(gQ ag e n k).1.length<=2*kN e k∧(gQ ag e n k).2.2<=n+kN e k*(2*(ag.length+2))
 |0,_=>by simp[gQ,kN]
 |k+1,hk=>by
  obtain⟨h1,h2⟩:=We ag e n k om
  have h3:=Wc ag (fZ e k) (gQ ag e n k).2.2
  have h4:=Wd ag (fZ e k) (gQ ag e n k).2.2
  rw[yZ om,Nat.add_mul]
  simp only[gQ,lA]
  constructor<;>omega
theorem ah4 (ag:List aj) (e:Ex) (n:Nat) {aP:List aj} {exprs:List aq} (hB:zq ag e n aP exprs) (hk:k<e.kids.length):zq ag (fZ e k) (gQ ag e n k).2.2 (aP++(gQ ag e n k).1.map Prod.fst) (exprs++(gQ ag e n k).1.map λp=>p.2.au):=by
 obtain⟨h1,h2,h3,h4⟩:=hB
 obtain⟨h5,h6⟩:=We ag e n k om
 have h7:=yZ hk
 have h8:=C8 e (k+1)
 have h9:=Nat.mul_le_mul_right (2*(ag.length+2)) h8
 rw[h7,Nat.add_mul] at h9
 refine⟨by omega,?_,?_,h4⟩
 ·simp only[lA,List.length_map];omega
 ·simp only[lA,List.length_map];omega
theorem ah5 (ag:List aj) (n:Nat) (ha:e.iM=false) (h1:e.head≠gw) (h2:e.head≠ic) (h3:e.head≠gN):
  (bf ag e n).1=(gQ ag e n e.kids.length).1∧(bf ag e n).2.1.au= .mk [] ([bH e.head]++(gQ ag e n e.kids.length).2.1.map Ex.au)∧(bf ag e n).2.2=(gQ ag e n e.kids.length).2.2:=by
 cases e with
 |«at» s=>cases ha
 |lt x a b=>exact absurd rfl h1
 |fn f x A B b=>exact absurd rfl h2
 |ite a b c=>exact absurd rfl h3
 |un h a=>exact⟨rfl,rfl,rfl⟩
 |bi h a b=>exact⟨rfl,rfl,rfl⟩
theorem ah6 (ha:e.iM=false) (h1:e.head≠gw) (h2:e.head≠ic):e.au.ai=l8 [bH e.head] [] e:=by
 rw[VL ha (not_lt h1) h2]
 simp[l8]
theorem Wf (ha:e.iM=false) (h1:e.head≠gw) (h2:e.head≠ic):e.from=1:=by
 cases e with
 |«at» s=>cases ha
 |lt x a b=>exact absurd rfl h1
 |fn f x A B b=>exact absurd rfl h2
 |_=>rfl
theorem zq.sub {ag:List aj} {e':Ex} {n':Nat} {aP names':List aj} {exprs exprs':List aq} (h:zq ag e n aP exprs) (m:Nat) (h1:m+e'.n<=e.n) (h2:n'<=n+m*(2*(ag.length+2))) (h3:names'.length<=aP.length+4*m) (h4:exprs'.length<=exprs.length+4*m):zq ag e' n' names' exprs':=by
 obtain⟨a1,a2,a3,a4⟩:=h
 have h9:=Nat.mul_le_mul_right (2*(ag.length+2)) h1
 rw[Nat.add_mul] at h9
 exact⟨by omega,om,om,a4⟩
theorem M5.nd {τ:yJ} {E:List Nat} {ag aP:List aj} {exprs:List aq} (h:M5 τ E G w b ag n aP exprs):(E++G).Nodup:=by
 obtain⟨_,_,_,_,_,_,h2⟩:=h;exact h2.nd
theorem M5.more {τ:yJ} {E:List Nat} {ag aP:List aj} {exprs:List aq} (h:M5 τ E G w b ag n aP exprs) (k:ak [] w w') (h1:w.heap.size<=x) (h2:x<w'.heap.size):M5 τ (x::E) G w' b ag n aP exprs:=by
 obtain⟨vt,vn,vex,gn,ge,hb,h⟩:=h
 have hF:∀y,y∈(x::E)++G->y∈E++G∨w.heap.size<=y:=λy hy=>by
  rcases mC.1 (show y∈x::(E++G) from hy) with h3|h3
  ·right;omega
  ·exact .inl h3
 refine⟨vt,vn,vex,gn,ge,hb.ext k,(h.ta.fresh hF).ext k,h.na.ext k,(h.ex.sub hF).any k,h.eG,?_,λy hy=>?_⟩
 ·show(x::(E++G)).Nodup
  rw[List.nodup_cons]
  exact⟨λhx=>by have:=h.cN _ hx;omega,h.nd⟩
 ·rcases mC.1 (show y∈x::(E++G) from hy) with h3|h3
  ·omega
  ·have:=h.cN y h3;have:=k.size;omega
structure kf (E G:List Nat) (w0 w:World) (G0:List Nat) (b:Nat) (ag:List aj) (n:Nat) (aP:List aj) (exprs:List aq) (gb b4:Nat) (vP:Value) (ts:List aq):Prop where
 m:M5 t5 (gb::b4::E) G w b ag n aP exprs
 own:dO ((gb::b4::E)++G) w 74 2 vP (some gb) (cQ ts)
 bx:aL w b4 [str [],.slice none 0 0].toArray 74
 fr:Fr G0 w0 G w
 low:w0.heap.size<=gb∧w0.heap.size<=b4
section
variable {E G G0 G':List Nat} {w0 w w':World} {b:Nat} {ag:List aj} {n n':Nat} {aP names':List aj} {exprs exprs':List aq} {gb b4:Nat} {vP:Value} {ts ts':List aq}
theorem kf.ext (h:kf E G w0 w G0 b ag n aP exprs gb b4 vP ts) (k:ak [] w w'):kf E G w0 w' G0 b ag n aP exprs gb b4 vP ts:=⟨h.m.ext k,h.own.ext k,h.bx.ext k,h.fr.ext k,h.low⟩
theorem kf.call (h:kf E G w0 w G0 b ag n aP exprs gb b4 vP ts) (hm:M5 t5 (gb::b4::E) G' w' b ag n' names' exprs') (k:Fr G w G' w'):kf E G' w0 w' G0 b ag n' names' exprs' gb b4 vP ts:=
 ⟨hm,h.own.aG (k.in _) k.aG (λx hx=>by simp at hx;subst hx;exact h.m.nE sm),h.bx.aG k.aG (h.m.nE sm),h.fr.go k,h.low⟩
theorem kf.ne (h:kf E G w0 w G0 b ag n aP exprs gb b4 vP ts):gb∉b4::(E++G)∧b4∉E++G:=by
 have h1:(gb::b4::(E++G)).Nodup:=h.m.nd
 rw[List.nodup_cons,List.nodup_cons] at h1
 exact⟨h1.1,h1.2.1⟩
theorem kf.store (h:kf E G w0 w G0 b ag n aP exprs gb b4 vP ts) (k:ak [gb] w w') (ho:dO ((gb::b4::E)++G) w' 74 2 vP (some gb) (cQ ts')):kf E G w0 w' G0 b ag n aP exprs gb b4 vP ts':=
 ⟨h.m.aD k sm,ho,h.bx.aG k (by simp;intro e;exact h.ne.1 (by simp[e])),⟨h.fr.aG.since k (by intro x hx;simp at hx;subst hx;exact .inr h.low.1),h.fr.mem⟩,h.low⟩
theorem kf.cN (h:kf E G w0 w G0 b ag n aP exprs gb b4 vP ts):eZ ((gb::b4::E)++G) w:=h.m.bG.2.2
theorem kf.jo (h:kf E G w0 w G0 b ag n aP exprs gb b4 vP ts):∀x,x∈[gb]->x∈(gb::b4::E)++G:=by simp
theorem kf.fin (h:kf E G w0 w G0 b ag n aP exprs gb b4 vP ts) (k:ak [b4] w w'):bh (E++G) w' (.agg #[str [],vP]) (.mk [] ts)∧M5 t5 E G w' b ag n aP exprs∧Fr G0 w0 G w':=by
 have h1:ck (b4::(E++G)) w vP (.sl 2 (cQ ts)):=h.own.rep (λx hx=>.inl (by simpa using hx)) (by simpa using h.ne.1)
 have h2:bh (b4::(E++G)) w (.agg #[str [],vP]) (.mk [] ts):=km h1
 exact⟨(h2.aD k sm).fV (λx hx=>mK _ hx),(h.m.drop.aD k sm).drop,⟨h.fr.aG.since k (by intro x hx;simp at hx;subst hx;exact .inr h.low.2),h.fr.mem⟩⟩
end
theorem ah7:∀(m:Nat) (e:Ex),e.n<=m->e.ok->OI e:=by
 intro m
 induction m with
 |zero=>intro e h;have:=e.pos;omega
 |succ m ih=>
  intro e hm bj ag n aP exprs hB E F b v w hM cm
  have hv:=cm
  obtain⟨a,np,c,rfl,hn,ze⟩:=cS hv
  subst hn
  have KB:=iD ag e n
  have Kh:=HC e
  have hK:=ak.refl [] w
  have aw:=hM
  have hT:=cm
  have hMl:=hM.bG
  obtain⟨J1,OK,OL,Kz⟩:=id hB
  refine j1 [.cell 4 74] 114 Tryz.func218 rfl ac4 rfl rfl rfl ?_
  refine zr<|ey rfl λw1 aI bU di=>cO aI hK aw hT λhK aw hT=>?_
  refine da aK rfl rfl rfl λw2 az aF dK=>?_
  have hK:=hK.grow;have hK:=hK.ext az;have aw:=aw.alloc az dK;have hT:=hT.grow;have hT:=hT.ext az;have bU:=bU.grow;have bU:=bU.ext az
  refine W ?_
  refine zc rfl (λh1=>?_) (λh1=>?_)
  have aY:∃x,e= .at x:=(by have ha:=(vM bj).1 h1;cases e<;>first|exact⟨_,rfl⟩|cases ha)
  obtain⟨x,rfl⟩:=aY
  refine W ?_
  refine cu aK rfl rfl rfl aF rfl λw3 aH aF fS=>?_
  have hK:=hK.aD aH sx;have aw:=aw.aD aH sx;have hT:=hT.aD aH sx
  refine W ?_
  exact⟨[_],fB eK aK rfl aF rfl,by show Kx ag E F b aP exprs w ([],.at x,n) _ _;exact⟨F,⟨hT.fV (λy hy=>mK _ hy),by simpa using aw.drop⟩,Fr.of hK sm⟩⟩
  have eX:e.iM=false:=(by cases hh:e.iM;rfl;exact absurd ((vM bj).2 hh) h1)
  obtain⟨HD,lK,js,xl⟩:=Ex.ai eX
  obtain⟨jB,EY,EZ⟩:=HB bj eX
  have ni:=hK
  have mc:=aw
  have HV:=hT
  have OV:=bU
  have HL:=aF
  have ahm:=di
  have ahn:=dK
  have BE:cX (w1.heap.size::(E++F)) w2 (.slice a e.au.ai.length c) e.au.ai:=(by obtain⟨a9,n9,c9,e9,BF,BE⟩:=cS HV;cases e9;exact BE)
  have OX:=mc.bG.2.2
  refine W ?_
  refine tQ w2.heap.size (w1.heap.size::(E++F)) cw aK rfl rfl (lR _) (λx hx=>OX x hx) λw3 aH Ko xo=>?_
  have jT:=aH
  refine bL aH bU aF λbU aF=>?_
  refine zm<|xd cw aK rfl rfl rfl rfl rfl rfl xo (cX.ext (cX.grow BE) aH) (VQ _) (by rw[gK];simp;omega) λa4 fT g4 w4 kJ aN=>?_
  have jT:=xo.since jT aN
  have hK:=ni.trans jT
  have bU:=OV.ext jT
  have aF:=HL.ext jT
  have fg:=jT.size
  rw[show([]:List (List C)).length+(cQ e.au.ai).length=e.au.ai.length from by rw[gK];simp] at kJ⊢
  rw[List.nil_append] at kJ
  obtain⟨gb,e4,e5⟩:=kJ.form (by rw[gK];exact jB)
  subst e4
  subst e5
  have fH:gb<w4.heap.size:=kJ.lt gb sm
  have E5:w2.heap.size<=gb:=kJ.low gb rfl
  have hS:dO (gb::(w1.heap.size::(E++F))) w4 74 2 (.slice (some ⟨gb,0,none⟩) e.au.ai.length fT) (some gb) (cQ e.au.ai):=(let⟨xs,hr⟩:=kJ.own;⟨⟨xs,hr.own,hr.rep⟩,hr.row⟩)
  have aw:M5 t5 (gb::w1.heap.size::E) F w4 b ag n aP exprs:=mc.more jT E5 fH
  refine iT (MS _ _ _ _) rfl rfl<|da aK rfl rfl rfl λw5 aJ bK iq=>?_
  have hK:=hK.grow;have hK:=hK.ext aJ;have aF:=aF.grow;have aF:=aF.ext aJ;have hS:=hS.grow;have hS:=hS.ext aJ;have jT:=jT.grow;have jT:=jT.ext aJ
  refine cu aK rfl rfl rfl bK rfl λw6 bB bK jR=>?_
  have hK:=hK.aD bB sx;have aF:=aF.aD bB sx;have hS:=hS.aD bB sx;have jT:=jT.aD bB sx
  refine W ?_
  have dC:=hK.size
  have jT:ak [] w2 w6:=jT
  have aw:M5 t5 (gb::w1.heap.size::E) F w6 b ag n aP exprs:=mc.more jT E5 (by have:=bK.lt;omega)
  have hS:dO ((gb::w1.heap.size::E)++F) w6 74 2 _ _ _:=dO.sub hS (λx hx=>.inl (mK _ hx))
  have VR:=aw.bG.2.2
  have E6:Fr (w1.heap.size::(E++F)) w2 ((gb::w1.heap.size::E)++F) w6:=⟨jT.any,λx hx=>by rcases mC.1 (show x∈gb::(w1.heap.size::(E++F)) from hx) with h|h;(·right;omega);(·exact .inl h)⟩
  have aQ:=cX.go BE E6
  have gk:∀q,w.heap.size<=q->q≠gb->q≠w1.heap.size->q∉((gb::w1.heap.size::E)++F):=(by intro q h1 h2 h3 hx;rcases mC.1 (show q∈gb::(w1.heap.size::(E++F)) from hx) with h|h;(·exact h2 h);(·rcases mC.1 h with h|h;(·exact h3 h);(·have:=hMl.2.2 q h;omega)))
  have bK:dW ((gb::w1.heap.size::E)++F) w6 w4.heap.size _ _:=⟨bK,gk _ om om om⟩
  have aW:kf E F w w6 F b ag n aP exprs gb w1.heap.size (.slice (some ⟨gb,0,none⟩) e.au.ai.length fT) e.au.ai:=⟨aw,hS,aF,⟨hK.any,λx hx=>.inl hx⟩,om,om⟩
  obtain⟨b0,yV,yA,yB,e0,uw,ke⟩:=fm aQ jB
  cases e0
  refine zi (i:=0) cw aK rfl rfl jB<|W ?_
  refine zc rfl (λh2=>?_) (λh2=>?_)
  obtain⟨nx,ea,eb,rfl⟩:=Km bj (js.symm.trans h2)
  have xp:(Ex.lt nx ea eb).n=2+ea.n+eb.n:=rfl
  have KI:bf ag (.lt nx ea eb) n=((bf ag ea n).1++(nx,(bf ag ea n).2.1)::(bf ag eb (bf ag ea n).2.2).1,(bf ag eb (bf ag ea n).2.2).2.1,(bf ag eb (bf ag ea n).2.2).2.2):=rfl
  have Fb:=iD ag ea n
  have pg:=Ky ag ea n
  have hBa:zq ag ea n aP exprs:=hB.sub 0 om om om om
  have aY:∃q,q=bf ag ea n:=⟨_,rfl⟩
  obtain⟨q,hq⟩:=aY
  rw[<-hq] at KI Fb pg
  have Kp:(Ex.lt nx ea eb).au.ai.length=4:=rfl
  have aQ:cX ((w1.heap.size::E)++F) w6 _ _:=aQ.fV (λx hx=>mK _ hx)
  have aw:=aW.m.drop
  have aF:=aW.bx
  have hR:=aW.fr
  obtain⟨b1,eh,gT,gU,e1,bM,cV⟩:=fm aQ (i:=1) om
  cases e1
  obtain⟨b2,kY,iQ,iR,e2,bZ,dQ⟩:=fm aQ (i:=2) om
  cases e2
  have dQ:bh ((w1.heap.size::E)++F) w6 _ ea.au:=dQ
  obtain⟨b3,xe,pz,pA,e3,dP,ew⟩:=fm aQ (i:=3) om
  cases e3
  have ew:bh ((w1.heap.size::E)++F) w6 _ eb.au:=ew
  refine zr<|zm<|zm<|zi (i:=2) cw aK rfl rfl ((show 2<4 from om))<|W ?_
  refine aA (ih ea om bj.2.1 ag n aP exprs hBa (w1.heap.size::E) F b _ w6 aw dQ) ?_
  rintro v29 w7 ⟨G1,⟨dG,qU⟩,db⟩
  rw[<-hq] at dG qU
  obtain⟨a9,n9,c9,e9,_,_⟩:=cS dG
  subst e9
  have jM:=hR.go db
  have fO:=ak.refl [] w7
  have bM:=bM.go (db.in _);have dP:=dP.go (db.in _)
  have ew:=bh.go ew (db.in _)
  have aF:=aF.aG db.aG (aw.nE sm)
  have aw:=qU
  have Wg:=aw.bG.2.2
  have aY:∃x,x=aP++q.1.map Prod.fst:=⟨_,rfl⟩
  obtain⟨N1,Dj⟩:=aY
  have aY:∃x,x=exprs++q.1.map λp=>p.2.au:=⟨_,rfl⟩
  obtain⟨X1,Dk⟩:=aY
  rw[<-Dj,<-Dk] at aw
  have V6:N1.length=aP.length+q.1.length:=by rw[Dj];simp
  have hXl:X1.length=exprs.length+q.1.length:=by rw[Dk];simp
  have aia:=aF
  have aib:=bM
  have aic:=dP
  have aid:=ew
  have aie:=dG
  have aif:=aw
  refine da aK rfl rfl rfl λw8 aU cL kV=>?_
  have fO:=fO.grow;have fO:=fO.ext aU
  refine cu aK rfl rfl rfl cL rfl λw9 aC cL dv=>?_
  have fO:=fO.aD aC sx
  refine W ?_
  have HX:=jM.aG.size
  have fO:ak [] w7 w9:=fO
  have hR:=jM.ext fO
  have aF:=aia.ext fO
  have bM:=aib.ext fO
  have dP:=aic.ext fO
  have ew:=aid.ext fO
  have dG:=aie.ext fO
  have aw:=aif.ext fO
  obtain⟨vt,vn,vex,gn,ge,bu,hS⟩:=aw.open
  have bu:aL w9 b [vt,.int .i64 (q.2.2:Int),vn,vex].toArray 190:=bu
  obtain⟨KD,xA,xB,tq⟩:=hS.apart
  have Dl:eZ ((w1.heap.size::E)++G1) w9:=hS.cN
  have oh:b∈G1:=hS.mem.2 (.inl rfl)
  have l4:=cL.lt
  have cL:dW ((w1.heap.size::E)++G1) w9 _ _ _:=⟨cL,λhx=>by have:=Wg _ hx;omega⟩
  apply jQ du (((w1.heap.size::E)++G1)) 13 (rA 30 13) (rA 30 13) [[],[],[1],[2],[3],[],[5],[6],[7],[8],[4,9],[0],[11]] [Ie.v _,Ie.v _,Ie.v _,Ie.v _,Ie.w 0 vn,Ie.v _,Ie.v _,Ie.v _,Ie.v _,Ie.p (fun(G:List Nat) (v:Value) (ww:World)=>∃bb,v= .slice (some ⟨bb,0,none⟩) 1 1∧aL ww bb [str nx].toArray 9∧bb∉G),Ie.e 1,Ie.v _,Ie.v _] [4,10] [fun(G:List Nat) (vs:List Value) (ww:World)=>G=(w1.heap.size::E)++G1∧ak [] w9 ww,fun(G:List Nat) (vs:List Value) (ww:World)=>G=(w1.heap.size::E)++G1∧ak [] w9 ww,fun(G:List Nat) (vs:List Value) (ww:World)=>∃G2 g2,G=(w1.heap.size::E)++G2∧ak gn.toList w9 ww∧iV t5 (w1.heap.size::E) G2 ww b vt (vs.getD 1 undef) vex g2 ge ag (N1++[nx]) X1∧Fr G1 w9 G2 ww] de rfl Dl (by exact⟨λG v w G' w' ⟨bb,e,h,ho⟩ k=>⟨bb,e,(dW.go ⟨h,ho⟩ k).iy,(dW.go ⟨h,ho⟩ k).out⟩,trivial⟩) (by exact⟨λG vs w w' ⟨h1,h2⟩ k=>⟨h1,h2.ext k⟩,λG vs w w' ⟨h1,h2⟩ k=>⟨h1,h2.ext k⟩,λG vs w w' ⟨G2,g2,h1,h2,h3,h4⟩ k=>⟨G2,g2,h1,h2.ext k,h3.ext k,h4.ext k⟩,trivial⟩) (⟨rfl,ak.refl _ _⟩)
  refine FA ?_
  refine ve 0 (λx cB nA aX qm mz hJ hlen=>?_) ?_
  have ba:=jv hlen
  subst ba
  obtain⟨bX,cg⟩:=hJ
  have xF:=bu.ext cg
  refine WZ ?_
  exact fw nA (Fr.refl _ _) mz (⟨bX,cg⟩)
  refine FA ?_
  refine vf (λ_ _ _ _ _ _=>zi (i:=1) cw aK rfl rfl ((show 1<4 from om)) fv) ?_
  refine FA ?_
  refine vf (λx cB nA aX qm mz=>?_) ?_
  refine fo bo bm rfl rfl ?_
  intro eC dh yY uh
  exact ff dh (⟨_,rfl,(yY.o mz).iy,(yY.o mz).out⟩)
  refine ve 1 (λx cB nA aX qm mz hJ hlen=>?_) ?_
  obtain⟨q0,ba⟩:=jw hlen
  subst ba
  intro v9 d9
  obtain⟨bb,e6,fX,_⟩:=d9
  subst e6
  obtain⟨bX,cg⟩:=hJ
  subst bX
  have KJ:=hS.ext cg
  refine sj bo bm rfl rfl rfl rfl rfl rfl KJ.na fX om λv9 g9 eC dm aC fx=>?_
  obtain⟨G2,fp,jD⟩:=KJ.Uz dm aC fx
  exact fe _ (jD.in _) fp.cN (⟨G2,g9,rfl,cg.any.trans aC,fp,(Fr.of cg sm).go jD⟩)
  exact FZ
  intro x og Kq aX zj VS hJ hlen
  obtain⟨q0,q1,ba⟩:=lJ hlen
  subst ba
  intro v9 d9
  have cL:=cL.go zj;have dP:=dP.go zj;have ew:=ew.go zj;have dG:=dG.go zj
  change OW _ _ _ _ _ (aS (aR _ x _) (zZ 30 [_,_,_,_,_,_,_,_,_,_,_,_,_])) _
  obtain⟨G2,g9,bX,By,fp,jD⟩:=hJ
  subst bX
  obtain⟨pC,pD,HT⟩:=j8 fp.na
  have e8:q1=_:=HT
  subst e8
  have bu:=bu.aG By (λh=>(xB b h).2 rfl)
  have aF:=aF.aG By (λh=>(xB _ h).1 sm)
  have xC:b∈G2:=fp.mem.2 (.inl rfl)
  have hR:=hR.go jD
  refine gF (o:=2) mT rfl rfl rfl bu rfl λoV ma bu dv=>?_
  have hS:=fp.aG ma sm
  have aF:=aF.aG ma (by simp;intro e;subst e;exact xA sm)
  have hR:=hR.aD ma (by simpa using xC);have cL:=cL.aD ma (by intro x hx;simp at hx;subst hx;simp[xC]);have dP:=dP.aD ma (by intro x hx;simp at hx;subst hx;simp[xC]);have dG:=dG.aD ma (by intro x hx;simp at hx;subst hx;simp[xC]);have ew:=ew.aD ma (by intro x hx;simp at hx;subst hx;simp[xC])
  refine W ?_
  obtain⟨ae,ce,e5⟩:=hS.ex.len
  subst e5
  have bu:aL oV b [vt,(.int .i64 (q.2.2:Int)),(.slice pC (N1++[nx]).length pD),(.slice ae (cQ X1).length ce)].toArray 190:=bu
  have Dl:eZ ((w1.heap.size::E)++G2) oV:=hS.cN
  have er:b∈G2:=xC
  obtain⟨KD,xA,xB,tq⟩:=hS.apart
  have ir:=bu.lt
  apply TQ du (((w1.heap.size::E)++G2)) 13 (rA 43 9++[100009,52,53,100012]) (rA 43 9++[100009,52,53,100012]) [[],[0],[1],[2],[],[3],[],[3,6],[5,7],[4,8],[0],[10],[7,11]] [Iu.v _,Iu.v _,Iu.v _,Iu.w 0 ((.slice ae (cQ X1).length ce)),Iu.v _,Iu.v _,Iu.p (fun(G:List Nat) (v:Value) (ww:World)=>∃bb,v= .slice (some ⟨bb,0,none⟩) 1 1∧dW G ww bb [str [],.slice none 0 0].toArray 74),Iu.e 1,Iu.d (fun(vs:List Value)=>V2 (vs.getD 1 undef) ((cQ X1).length*2)),Iu.u,Iu.v _,Iu.v _,Iu.u] [3,7] [fun(G:List Nat) (vs:List Value) (ww:World)=>G=((w1.heap.size::E)++G2)∧aL ww b [vt,(.int .i64 (q.2.2:Int)),(.slice pC (N1++[nx]).length pD),(.slice ae (cQ X1).length ce)].toArray 190∧ak [] oV ww,fun(G:List Nat) (vs:List Value) (ww:World)=>G=((w1.heap.size::E)++G2)∧aL ww b [vt,(.int .i64 (q.2.2:Int)),(.slice pC (N1++[nx]).length pD),(.slice ae (cQ X1).length ce)].toArray 190∧ak [] oV ww,fun(G:List Nat) (vs:List Value) (ww:World)=>J5 t5 (w1.heap.size::E) G2 oV b vt (.int .i64 (q.2.2:Int)) (.slice pC (N1++[nx]).length pD) (.slice ae (cQ X1).length ce) ge X1 q.2.1.au false false G (vs.getD 1 undef) ww] (fun(S:Nat->Bool) (G:List Nat) (vs:List Value) (ww:World)=>J5 t5 (w1.heap.size::E) G2 oV b vt (.int .i64 (q.2.2:Int)) (.slice pC (N1++[nx]).length pD) (.slice ae (cQ X1).length ce) ge X1 q.2.1.au (S 9) (S 12) G (vs.getD 1 undef) ww) de rfl Dl (by exact⟨λG v w G' w' ⟨bb,e,h⟩ k=>⟨bb,e,h.go k⟩,trivial⟩) (by exact⟨λG vs w w' ⟨h1,h2,h3⟩ k=>⟨h1,h2.ext k,h3.ext k⟩,λG vs w w' ⟨h1,h2,h3⟩ k=>⟨h1,h2.ext k,h3.ext k⟩,λG vs w w' h k=>h.ext k,trivial⟩) (by exact λS G vs w w' h k=>h.ext k) (⟨rfl,bu,ak.refl _ _⟩) (by exact λ_ _ _ h _=>h)
  refine uf (λx lM qp aX sn qV=>?_) ?_
  refine WZ ?_
  exact uv
  refine uf (λx lM qp aX sn qV=>?_) ?_
  refine WZ ?_
  exact uv
  refine uf (λx lM qp aX sn qV=>?_) ?_
  refine WZ ?_
  exact uv
  refine ue 0 (λx lM qp aX sn qV hJ hlen=>?_) ?_
  have ba:=jv hlen
  subst ba
  obtain⟨bX,bu,cg⟩:=hJ
  refine WZ ?_
  exact uW qp (Fr.refl _ _) qV (⟨bX,bu,cg⟩)
  refine uf (λx lM qp aX sn qV=>?_) ?_
  have cL:=cL.go sn
  refine WZ ?_
  exact uv
  refine uf (λx lM qp aX sn qV=>?_) ?_
  refine WZ ?_
  exact uv
  refine uf (λx lM qp aX sn qV=>?_) ?_
  refine fo cw aK rfl rfl λBG qq aih aii=>?_
  exact up qq (⟨_,rfl,aih.o qV⟩)
  refine ue 1 (λx lM qp aX sn qV hJ hlen=>?_) ?_
  obtain⟨q0,ba⟩:=jw hlen
  subst ba
  intro v6 d6
  obtain⟨bb,e6,fX⟩:=d6
  subst e6
  obtain⟨bX,bu,cg⟩:=hJ
  subst bX
  refine V3 cw aK rfl rfl rfl rfl rfl rfl (hS.ext cg).ex ‹_› (λx hx=>mR _ (hS.mem.2 (by simp[hx]))) fX.iy om λv9 g9 BG dm aC fx db eN=>?_
  exact uE _ db eN (⟨bu.aG aC (λh=>(tq b h).2.1 rfl),eN,cg.any.trans (aC.mono (λx hx=>mK _ hx)),g9,rfl,dm,fx.imp id (λh=>⟨_,h,cg.size⟩)⟩)
  refine ud (λx lM qp aX S sn qV hJ hlen=>?_) ?_
  obtain⟨q0,q1,ba⟩:=lJ hlen
  subst ba
  obtain⟨bb,cap,e1,rG,rq,kc,hO,vK⟩:=J5.form hJ
  have e2:q1=_:=e1
  subst e2
  refine zi cw aK rfl rfl (by rw[gK];omega) ?_
  exact uD (ak.refl _ _) rfl
  refine uu (λx lM qp aX S sn qV hJ Dm hlen=>?_) ?_
  obtain⟨q0,q1,ba⟩:=lJ hlen
  subst ba
  have dG:=dG.go sn
  have hJ:J5 t5 (w1.heap.size::E) G2 oV b vt (.int .i64 (q.2.2:Int)) (.slice pC (N1++[nx]).length pD) (.slice ae (cQ X1).length ce) ge X1 q.2.1.au (S 9) (S 12) qp q1 lM:=hJ
  rw[Dm] at hJ
  obtain⟨bb,cap,e1,rG,rq,kc,hO,vK⟩:=J5.form hJ
  subst e1
  refine ti (i:=(cQ X1).length) (vs:=[str q.2.1.au.av,.slice a9 n9 c9]) (row:=q.2.1.au.enc) aK rfl rfl rfl rfl (Nat.zero_add _) hO ‹_› rG (by rw[gK,gK];simp) rfl (o5 _) dG.ji λBG qq sf dH=>?_
  rw[tl,gK] at dH
  exact uU qp (Fr.of qq (by simpa using rG)) ((λx hx=>lL (qV x hx) (ak.size qq))) (J5.fill hJ kc (by rintro rfl;rcases rq with h|h;(·exact(tq _ h).2.1 rfl);(·omega)) rq vK qq (by have e3:(X1++[if false=true then q.2.1.au else aq.mk [] []]).set X1.length q.2.1.au=X1++[q.2.1.au]:=sm;rw[e3] at dH;exact dH))
  refine uf (λx lM qp aX sn qV=>?_) ?_
  refine WZ ?_
  exact uv
  refine uf (λx lM qp aX sn qV=>?_) ?_
  refine WZ ?_
  exact uv
  refine uu (λx lM qp aX S sn qV hJ Dm hlen=>?_) ?_
  obtain⟨q0,q1,ba⟩:=lJ hlen
  subst ba
  have hJ:J5 t5 (w1.heap.size::E) G2 oV b vt (.int .i64 (q.2.2:Int)) (.slice pC (N1++[nx]).length pD) (.slice ae (cQ X1).length ce) ge X1 q.2.1.au (S 9) (S 12) qp q1 lM:=hJ
  rw[Dm] at hJ
  obtain⟨bb,cap,e1,rG,rq,HU,hO,vK⟩:=J5.form hJ
  subst e1
  have OP:=hJ.box
  refine gF (o:=3) Cx rfl rfl rfl OP rfl λBG qq Dn sf=>?_
  exact uU qp (Fr.of qq (by rw[HU];simp[er])) ((λx hx=>lL (qV x hx) (ak.size qq))) (J5.field hJ qq Dn (λg9 _ fx hx=>by rcases fx with h|⟨y,h,hy⟩;(·rw[h] at hx;exact(tq _ hx).2.1 rfl);(·rw[h] at hx;simp at hx;omega)) (by rw[HU];simp[er]))
  exact trivial
  intro x k8 my aX jL nj hJ hlen
  obtain⟨q0,q1,ba⟩:=lJ hlen
  subst ba
  intro v6 d6
  intro v9
  intro v12
  have dP:=dP.go jL;have ew:=ew.go jL
  change OW _ _ _ _ [] (aS (aR _ x _) (zZ 43 [_,_,_,_,_,_,_,_,_]++[(100009,_),(52,_),(53,_),(100012,_)])) _
  have hJ:J5 t5 (w1.heap.size::E) G2 oV b vt (.int .i64 (q.2.2:Int)) (.slice pC (N1++[nx]).length pD) (.slice ae (cQ X1).length ce) ge X1 q.2.1.au true true my q1 k8:=hJ
  obtain⟨g9,kc,dm,fx⟩:=hJ.ex
  subst kc
  obtain⟨G3,sZ,jC,V9⟩:=hS.Bz dm hJ.aG fx
  have aF:=aF.aG hJ.aG (by intro hx;rcases mC.1 hx with h|h;(·exact xA (by simp[h]));(·exact(tq _ h).1 sm))
  have hR:=hR.go jC
  have bu:=hJ.box
  have Wh:∀x,x∈(w1.heap.size::E)++G3->x∈ge.toList++(g9.toList++((w1.heap.size::E)++G2)):=(λx hx=>by rcases mA.1 hx with h|h;(·exact mR _ (mR _ (List.mem_append_left _ h)));(·exact V9 x h))
  have ew:=ew.fV Wh
  have dP:fM ((w1.heap.size::E)++G3) k8 _ _ _:=⟨dP.cells,dP.lt,λhx=>dP.out (Wh _ hx)⟩
  have aw:M5 t5 (w1.heap.size::E) G3 k8 b ag q.2.2 (N1++[nx]) (X1++[q.2.1.au]):=⟨_,_,_,_,_,bu,sZ⟩
  refine WI ?_
  refine zi (i:=3) cw aK rfl rfl ((show 3<4 from om))<|W ?_
  refine aA (ih eb om bj.2.2 ag q.2.2 (N1++[nx]) (X1++[q.2.1.au]) (hB.sub ea.n om om so so) (w1.heap.size::E) G3 b _ k8 aw ew) ?_
  rintro OY qT ⟨G4,⟨nB,qU⟩,db⟩
  obtain⟨a5,n5,c5,e5,_,_⟩:=cS nB
  subst e5
  have hR:=hR.go db
  have aF:=aF.aG db.aG (aw.nE sm)
  have aw:=qU
  refine cu aK rfl rfl rfl aF rfl λDh zo aF dv=>?_
  have aw:=aw.aD zo sm;have nB:=nB.aD zo sm
  have hR:Fr F w G4 Dh:=⟨hR.aG.since zo (λx hx=>.inr (by simp at hx;omega)),hR.mem⟩
  refine W ?_
  exact⟨[_],fB eK aK rfl aF rfl,by rw[KI];exact⟨G4,⟨nB.fV (λx hx=>mK _ hx),(by have e1:aP++(q.1++(nx,q.2.1)::(bf ag eb q.2.2).1).map Prod.fst=(N1++[nx])++(bf ag eb q.2.2).1.map Prod.fst:=(by rw[Dj];simp);have e2:exprs++(q.1++(nx,q.2.1)::(bf ag eb q.2.2).1).map (λp=>p.2.au)=(X1++[q.2.1.au])++(bf ag eb q.2.2).1.map (λp=>p.2.au):=(by rw[Dk];simp);show M5 t5 E G4 _ b ag _ (aP++(q.1++(nx,q.2.1)::(bf ag eb q.2.2).1).map Prod.fst) (exprs++(q.1++(nx,q.2.1)::(bf ag eb q.2.2).1).map (λp=>p.2.au));rw[e1,e2];exact aw.drop)⟩,hR⟩⟩
  have pN:e.head≠gw:=λhh=>h2 (js.trans hh)
  refine W ?_
  refine zc rfl (λh3=>?_) (λh3=>?_)
  obtain⟨nf,nx,tA,tB,eb,rfl⟩:=Kn bj (js.symm.trans h3)
  have xp:(Ex.fn nf nx tA tB eb).n=3+tA.n+tB.n+eb.n:=rfl
  have Ku:(Ex.fn nf nx tA tB eb).au.ai.length=6:=rfl
  obtain⟨b1,eh,gT,gU,e1,bM,cV⟩:=fm aQ (i:=5) om
  cases e1
  have cV:bh ((gb::w1.heap.size::E)++F) w6 _ eb.au:=cV
  have aY:∃X,X=mV ag eb n:=⟨_,rfl⟩
  obtain⟨X,hX⟩:=aY
  refine WZ ?_
  apply jQ du (((gb::w1.heap.size::E)++F)) 8 (rA 61 8) (rA 61 8) [[],[0],[],[],[3],[4],[2,5],[1]] [Ie.v _,Ie.v _,Ie.v _,Ie.v _,Ie.v _,Ie.v _,Ie.e 0,Ie.v _] [6] [fun(G:List Nat) (vs:List Value) (ww:World)=>G=((gb::w1.heap.size::E)++F)∧kf E F w ww F b ag n aP exprs gb w1.heap.size (.slice (some ⟨gb,0,none⟩) (Ex.fn nf nx tA tB eb).au.ai.length fT) (Ex.fn nf nx tA tB eb).au.ai,fun(G:List Nat) (vs:List Value) (ww:World)=>∃G9,G=((gb::w1.heap.size::E)++G9)∧kf E G9 w ww F b ag (bf ag eb n).2.2 aP exprs gb w1.heap.size (.slice (some ⟨gb,0,none⟩) (Ex.fn nf nx tA tB eb).au.ai.length fT) (Ex.fn nf nx tA tB eb).au.ai∧bh ((gb::w1.heap.size::E)++G9) ww (vs.getD 0 undef) (mV ag eb n).au] de rfl aW.cN (by exact trivial) (by exact⟨λG vs w w' ⟨h1,h2⟩ k=>⟨h1,h2.ext k⟩,λG vs w w' ⟨G9,h1,h2,h3⟩ k=>⟨G9,h1,h2.ext k,h3.ext k⟩,trivial⟩) (⟨rfl,aW⟩)
  refine FA ?_
  refine vf (λ_ _ _ _ _ _=>zi (i:=5) cw aK rfl rfl ((show 5<6 from om)) fv) ?_
  refine FA ?_
  refine ve 0 (λx w7 G7 aX nC lO hJ hlen=>?_) ?_
  have ba:=jv hlen
  subst ba
  have cV:=cV.go nC
  obtain⟨bX,aW⟩:=hJ
  subst bX
  refine aA (KE bj.2.2.2.2.2 (ih eb om bj.2.2.2.2.2) ag n aP exprs (hB.sub 0 om om sm sm) (gb::w1.heap.size::E) F b _ w7 aW.m cV) ?_
  rintro Dc w8 ⟨⟨dG,qW⟩,db⟩
  exact fe _ (db.in _) qW.bG.2.2 (⟨F,rfl,aW.call qW db,dG⟩)
  refine vf (λ_ _ _ _ _ _=>zi (i:=5) cw aK rfl rfl ((show 5<6 from om)) fv) ?_
  exact trivial
  intro x qt KL aX xG KM hJ hlen
  obtain⟨q0,ba⟩:=jw hlen
  subst ba
  have bK:=bK.go xG
  change OW _ _ _ _ _ (aS (aR _ x _) (zZ 61 [_,_,_,_,_,_,_,_])) _
  obtain⟨G3,bX,aW,dG⟩:=hJ
  subst bX
  obtain⟨a7,n7,c7,e7,_,_⟩:=cS dG
  have e8:q0=_:=e7
  subst e8
  refine ti (i:=5) (vs:=[str (mV ag eb n).au.av,.slice a7 n7 c7]) (row:=(mV ag eb n).au.enc) aK rfl rfl rfl rfl (by first|rfl|exact Nat.zero_add _) aW.own aW.cN sm (by rw[gK];omega) rfl (o5 _) dG.ji λl5 jz sf dH=>?_
  rw[tl] at dH
  have bK:=bK.aD jz aW.jo
  have aW:=aW.store jz dH
  refine W ?_
  refine cu aK rfl rfl rfl aW.bx rfl λkZ iO cz kV=>?_
  obtain⟨sh,si,vQ⟩:=aW.fin iO
  refine W ?_
  exact⟨[_],fB eK aK rfl cz rfl,by show Kx ag E F b aP exprs w ([],.fn nf nx tA tB (mV ag eb n),(bf ag eb n).2.2) _ _;exact⟨G3,⟨sh,by rw[List.map_nil,List.append_nil,List.map_nil,List.append_nil];exact si⟩,vQ⟩⟩
  have rD:e.head≠ic:=λhh=>h3 (js.trans hh)
  refine W ?_
  refine zc rfl (λh4=>?_) (λh4=>?_)
  obtain⟨ea,eb,ec,rfl⟩:=VK bj (js.symm.trans h4)
  have xp:(Ex.ite ea eb ec).n=1+ea.n+eb.n+ec.n:=rfl
  have Ku:(Ex.ite ea eb ec).au.ai.length=4:=rfl
  have Fb:=Wd ag ea n
  have pg:=Wc ag ea n
  have aY:∃q,q=dL ag (bf ag ea n):=⟨_,rfl⟩
  obtain⟨q,hq⟩:=aY
  have KI:bf ag (.ite ea eb ec) n=(q.1,.ite q.2.1 (mV ag eb q.2.2) (mV ag ec (bf ag eb q.2.2).2.2),(bf ag ec (bf ag eb q.2.2).2.2).2.2):=(by rw[hq];rfl)
  rw[<-hq] at Fb pg
  have VH:=iD ag eb q.2.2
  have wq:(ea.n+eb.n)*(2*(ag.length+2))=ea.n*(2*(ag.length+2))+eb.n*(2*(ag.length+2)):=Nat.add_mul _ _ _
  obtain⟨b1,eh,gT,gU,e1,bM,cV⟩:=fm aQ (i:=1) om
  cases e1
  have cV:bh ((gb::w1.heap.size::E)++F) w6 _ ea.au:=cV
  refine WZ ?_
  apply jQ du (((gb::w1.heap.size::E)++F)) 8 (rA 72 8) (rA 72 8) [[],[0],[],[],[3],[4],[2,5],[1]] [Ie.v _,Ie.v _,Ie.v _,Ie.v _,Ie.v _,Ie.v _,Ie.e 0,Ie.v _] [6] [fun(G:List Nat) (vs:List Value) (ww:World)=>G=((gb::w1.heap.size::E)++F)∧kf E F w ww F b ag n aP exprs gb w1.heap.size (.slice (some ⟨gb,0,none⟩) (Ex.ite ea eb ec).au.ai.length fT) (Ex.ite ea eb ec).au.ai,fun(G:List Nat) (vs:List Value) (ww:World)=>∃G9,G=((gb::w1.heap.size::E)++G9)∧kf E G9 w ww F b ag q.2.2 (aP++q.1.map Prod.fst) (exprs++q.1.map λp=>p.2.au) gb w1.heap.size (.slice (some ⟨gb,0,none⟩) (Ex.ite ea eb ec).au.ai.length fT) (Ex.ite ea eb ec).au.ai∧bh ((gb::w1.heap.size::E)++G9) ww (vs.getD 0 undef) q.2.1.au] de rfl aW.cN (by exact trivial) (by exact⟨λG vs w w' ⟨h1,h2⟩ k=>⟨h1,h2.ext k⟩,λG vs w w' ⟨G9,h1,h2,h3⟩ k=>⟨G9,h1,h2.ext k,h3.ext k⟩,trivial⟩) (⟨rfl,aW⟩)
  refine FA ?_
  refine vf (λ_ _ _ _ _ _=>zi (i:=1) cw aK rfl rfl ((show 1<4 from om)) fv) ?_
  refine FA ?_
  refine ve 0 (λx w7 G7 aX nC lO hJ hlen=>?_) ?_
  have ba:=jv hlen
  subst ba
  have cV:=cV.go nC
  obtain⟨bX,aW⟩:=hJ
  subst bX
  refine aA (V5 bj.1 (ih ea om bj.1) ag n aP exprs (hB.sub 0 om om sm sm) (gb::w1.heap.size::E) F b _ w7 aW.m cV) ?_
  rintro Dc w8 ⟨G9,⟨dG,qW⟩,db⟩
  rw[<-hq] at dG qW
  exact fe _ (db.in _) qW.bG.2.2 (⟨G9,rfl,aW.call qW db,dG⟩)
  refine vf (λ_ _ _ _ _ _=>zi (i:=1) cw aK rfl rfl ((show 1<4 from om)) fv) ?_
  exact trivial
  intro x qt KL aX xG KM hJ hlen
  obtain⟨q0,ba⟩:=jw hlen
  subst ba
  have aQ:=aQ.go xG;have bK:=bK.go xG;have bM:=bM.go xG;have cV:=cV.go xG
  change OW _ _ _ _ _ (aS (aR _ x _) (zZ 72 [_,_,_,_,_,_,_,_])) _
  obtain⟨G3,bX,aW,dG⟩:=hJ
  subst bX
  obtain⟨a7,n7,c7,e7,_,_⟩:=cS dG
  have e8:q0=_:=e7
  subst e8
  refine ti (i:=1) (vs:=[str q.2.1.au.av,.slice a7 n7 c7]) (row:=q.2.1.au.enc) aK rfl rfl rfl rfl (by first|rfl|exact Nat.zero_add _) aW.own aW.cN sm (by rw[gK];omega) rfl (o5 _) dG.ji λl5 jz sf dH=>?_
  rw[tl] at dH
  have aQ:=aQ.aD jz aW.jo;have bK:=bK.aD jz aW.jo
  have aW:=aW.store jz dH
  refine W ?_
  obtain⟨b2,kY,iQ,iR,e2,bM,cV⟩:=fm aQ (i:=2) om
  cases e2
  have cV:bh ((gb::w1.heap.size::E)++G3) l5 _ eb.au:=cV
  apply jQ du (((gb::w1.heap.size::E)++G3)) 8 (rA 80 8) (rA 80 8) [[],[0],[],[],[3],[4],[2,5],[1]] [Ie.v _,Ie.v _,Ie.v _,Ie.v _,Ie.v _,Ie.v _,Ie.e 0,Ie.v _] [6] [fun(G:List Nat) (vs:List Value) (ww:World)=>G=((gb::w1.heap.size::E)++G3)∧kf E G3 w ww F b ag q.2.2 (aP++q.1.map Prod.fst) (exprs++q.1.map λp=>p.2.au) gb w1.heap.size (.slice (some ⟨gb,0,none⟩) (Ex.ite ea eb ec).au.ai.length fT) ((Ex.ite ea eb ec).au.ai.set 1 q.2.1.au),fun(G:List Nat) (vs:List Value) (ww:World)=>∃G9,G=((gb::w1.heap.size::E)++G9)∧kf E G9 w ww F b ag (bf ag eb q.2.2).2.2 (aP++q.1.map Prod.fst) (exprs++q.1.map λp=>p.2.au) gb w1.heap.size (.slice (some ⟨gb,0,none⟩) (Ex.ite ea eb ec).au.ai.length fT) ((Ex.ite ea eb ec).au.ai.set 1 q.2.1.au)∧bh ((gb::w1.heap.size::E)++G9) ww (vs.getD 0 undef) (mV ag eb q.2.2).au] de rfl aW.cN (by exact trivial) (by exact⟨λG vs w w' ⟨h1,h2⟩ k=>⟨h1,h2.ext k⟩,λG vs w w' ⟨G9,h1,h2,h3⟩ k=>⟨G9,h1,h2.ext k,h3.ext k⟩,trivial⟩) (⟨rfl,aW⟩)
  refine FA ?_
  refine vf (λ_ _ _ _ _ _=>zi (i:=2) cw aK rfl rfl ((show 2<4 from om)) fv) ?_
  refine FA ?_
  refine ve 0 (λx kZ Kw aX E9 OE hJ hlen=>?_) ?_
  have ba:=jv hlen
  subst ba
  have cV:=cV.go E9
  obtain⟨bX,aW⟩:=hJ
  subst bX
  refine aA (KE bj.2.1 (ih eb om bj.2.1) ag q.2.2 (aP++q.1.map Prod.fst) (exprs++q.1.map λp=>p.2.au) (hB.sub ea.n om om sm sm) (gb::w1.heap.size::E) G3 b _ kZ aW.m cV) ?_
  rintro Dc og ⟨⟨dG,qW⟩,db⟩
  exact fe _ (db.in _) qW.bG.2.2 (⟨G3,rfl,aW.call qW db,dG⟩)
  refine vf (λ_ _ _ _ _ _=>zi (i:=2) cw aK rfl rfl ((show 2<4 from om)) fv) ?_
  exact trivial
  intro x OZ G87 aX KN aqa hJ hlen
  obtain⟨q0,ba⟩:=jw hlen
  subst ba
  have aQ:=aQ.go KN;have bK:=bK.go KN;have bM:=bM.go KN;have cV:=cV.go KN
  change OW _ _ _ _ _ (aS (aR _ x _) (zZ 80 [_,_,_,_,_,_,_,_])) _
  obtain⟨G3,bX,aW,dG⟩:=hJ
  subst bX
  obtain⟨a7,n7,c7,e7,_,_⟩:=cS dG
  have e8:q0=_:=e7
  subst e8
  refine ti (i:=2) (vs:=[str (mV ag eb q.2.2).au.av,.slice a7 n7 c7]) (row:=(mV ag eb q.2.2).au.enc) aK rfl rfl rfl rfl (by first|rfl|exact Nat.zero_add _) aW.own aW.cN sm (by rw[gK,List.length_set];omega) rfl (o5 _) dG.ji λHN BH sf dH=>?_
  rw[tl] at dH
  have aQ:=aQ.aD BH aW.jo;have bK:=bK.aD BH aW.jo
  have aW:=aW.store BH dH
  refine W ?_
  obtain⟨b3,xe,pz,pA,e3,bM,cV⟩:=fm aQ (i:=3) om
  cases e3
  have cV:bh ((gb::w1.heap.size::E)++G3) HN _ ec.au:=cV
  apply jQ du (((gb::w1.heap.size::E)++G3)) 8 (rA 88 8) (rA 88 8) [[],[0],[],[],[3],[4],[2,5],[1]] [Ie.v _,Ie.v _,Ie.v _,Ie.v _,Ie.v _,Ie.v _,Ie.e 0,Ie.v _] [6] [fun(G:List Nat) (vs:List Value) (ww:World)=>G=((gb::w1.heap.size::E)++G3)∧kf E G3 w ww F b ag (bf ag eb q.2.2).2.2 (aP++q.1.map Prod.fst) (exprs++q.1.map λp=>p.2.au) gb w1.heap.size (.slice (some ⟨gb,0,none⟩) (Ex.ite ea eb ec).au.ai.length fT) (((Ex.ite ea eb ec).au.ai.set 1 q.2.1.au).set 2 (mV ag eb q.2.2).au),fun(G:List Nat) (vs:List Value) (ww:World)=>∃G9,G=((gb::w1.heap.size::E)++G9)∧kf E G9 w ww F b ag (bf ag ec (bf ag eb q.2.2).2.2).2.2 (aP++q.1.map Prod.fst) (exprs++q.1.map λp=>p.2.au) gb w1.heap.size (.slice (some ⟨gb,0,none⟩) (Ex.ite ea eb ec).au.ai.length fT) (((Ex.ite ea eb ec).au.ai.set 1 q.2.1.au).set 2 (mV ag eb q.2.2).au)∧bh ((gb::w1.heap.size::E)++G9) ww (vs.getD 0 undef) (mV ag ec (bf ag eb q.2.2).2.2).au] de rfl aW.cN (by exact trivial) (by exact⟨λG vs w w' ⟨h1,h2⟩ k=>⟨h1,h2.ext k⟩,λG vs w w' ⟨G9,h1,h2,h3⟩ k=>⟨G9,h1,h2.ext k,h3.ext k⟩,trivial⟩) (⟨rfl,aW⟩)
  refine FA ?_
  refine vf (λ_ _ _ _ _ _=>zi (i:=3) cw aK rfl rfl ((show 3<4 from om)) fv) ?_
  refine FA ?_
  refine ve 0 (λx xq G89 aX aij aqc hJ hlen=>?_) ?_
  have ba:=jv hlen
  subst ba
  have cV:=cV.go aij
  obtain⟨bX,aW⟩:=hJ
  subst bX
  refine aA (KE bj.2.2 (ih ec om bj.2.2) ag (bf ag eb q.2.2).2.2 (aP++q.1.map Prod.fst) (exprs++q.1.map λp=>p.2.au) (hB.sub (ea.n+eb.n) om om sm sm) (gb::w1.heap.size::E) G3 b _ xq aW.m cV) ?_
  rintro Dc k8 ⟨⟨dG,qW⟩,db⟩
  exact fe _ (db.in _) qW.bG.2.2 (⟨G3,rfl,aW.call qW db,dG⟩)
  refine vf (λ_ _ _ _ _ _=>zi (i:=3) cw aK rfl rfl ((show 3<4 from om)) fv) ?_
  exact trivial
  intro x aqd aqe aX aik aqf hJ hlen
  obtain⟨q0,ba⟩:=jw hlen
  subst ba
  have bK:=bK.go aik
  change OW _ _ _ _ _ (aS (aR _ x _) (zZ 88 [_,_,_,_,_,_,_,_])) _
  obtain⟨G3,bX,aW,dG⟩:=hJ
  subst bX
  obtain⟨a7,n7,c7,e7,_,_⟩:=cS dG
  have e8:q0=_:=e7
  subst e8
  refine ti (i:=3) (vs:=[str (mV ag ec (bf ag eb q.2.2).2.2).au.av,.slice a7 n7 c7]) (row:=(mV ag ec (bf ag eb q.2.2).2.2).au.enc) aK rfl rfl rfl rfl (by first|rfl|exact Nat.zero_add _) aW.own aW.cN sm (by rw[gK,List.length_set,List.length_set];omega) rfl (o5 _) dG.ji λKs Wi sf dH=>?_
  rw[tl] at dH
  have bK:=bK.aD Wi aW.jo
  have aW:=aW.store Wi dH
  refine W ?_
  refine cu aK rfl rfl rfl aW.bx rfl λOB Dg cz kV=>?_
  obtain⟨sh,si,vQ⟩:=aW.fin Dg
  refine W ?_
  exact⟨[_],fB eK aK rfl cz rfl,by rw[KI];exact⟨G3,⟨sh,si⟩,vQ⟩⟩
  have mY:e.head≠gN:=λhh=>h4 (js.trans hh)
  have Fc:=Wf eX pN rD
  have Ch:=ah5 ag n eX pN rD mY
  have hpm:=ah6 eX pN rD
  refine W ?_
  refine eO (λk:Nat=>[(0,.pointer (some ⟨b,0,none⟩)),(4,.pointer (some ⟨w1.heap.size,0,none⟩)),(5,.slice (some ⟨b0,yV,none⟩) e.au.ai.length c),(6,.pointer (some ⟨w4.heap.size,0,none⟩)),(8,.int .i64 ((e.from+k:Nat):Int))]) (λk ww=>∃G2,Fr ((gb::w1.heap.size::E)++F) w6 ((gb::w1.heap.size::E)++G2) ww∧kf E G2 w ww F b ag (gQ ag e n k).2.2 (aP++(gQ ag e n k).1.map Prod.fst) (exprs++(gQ ag e n k).1.map λp=>p.2.au) gb w1.heap.size (.slice (some ⟨gb,0,none⟩) e.au.ai.length fT) (l8 [bH e.head] (gQ ag e n k).2.1 e)∧k<=e.kids.length) (λk=>e.kids.length-k) (0) (⟨rfl,rfl,rfl,rfl,by rw[Fc];rfl⟩) (⟨F,Fr.refl _ _,by rw[show l8 [bH e.head] (gQ ag e n 0).2.1 e=e.au.ai from hpm.symm];simpa[gQ] using aW,om⟩) λgg w7 e7 hI=>?_
  obtain⟨G2,pB,aW,hk⟩:=hI
  have aQ:=aQ.go pB;have bK:=bK.go pB
  refine W ?_
  refine zc rfl (λh5=>?_) (λh5=>?_)
  have ik:gg<e.kids.length:=om
  have sS:=xl gg ik
  have gD:=OU ag e n gg
  obtain⟨b1,eh,gT,gU,e1,bM,cV⟩:=fm aQ (i:=e.from+gg) om
  cases e1
  have cV:=cV.eq sS
  have uq:=GD bj ik
  have Ci:=yZ ik
  have hkN:=C8 e (gg+1)
  have lx:=ah4 ag e n hB ik
  refine WZ ?_
  apply jQ du (((gb::w1.heap.size::E)++G2)) 10 (rA 103 10) (rA 103 10) [[],[0],[],[],[],[],[4,5],[6],[3,7],[1,2]] [Ie.v _,Ie.v _,Ie.v _,Ie.v _,Ie.v _,Ie.v _,Ie.v _,Ie.v _,Ie.e 0,Ie.v _] [8] [fun(G:List Nat) (vs:List Value) (ww:World)=>G=((gb::w1.heap.size::E)++G2)∧kf E G2 w ww F b ag (gQ ag e n gg).2.2 (aP++(gQ ag e n gg).1.map Prod.fst) (exprs++(gQ ag e n gg).1.map λp=>p.2.au) gb w1.heap.size (.slice (some ⟨gb,0,none⟩) e.au.ai.length fT) (l8 [bH e.head] (gQ ag e n gg).2.1 e),fun(G:List Nat) (vs:List Value) (ww:World)=>∃G9,G=((gb::w1.heap.size::E)++G9)∧kf E G9 w ww F b ag (gQ ag e n (gg+1)).2.2 (aP++(gQ ag e n (gg+1)).1.map Prod.fst) (exprs++(gQ ag e n (gg+1)).1.map λp=>p.2.au) gb w1.heap.size (.slice (some ⟨gb,0,none⟩) e.au.ai.length fT) (l8 [bH e.head] (gQ ag e n gg).2.1 e)∧bh ((gb::w1.heap.size::E)++G9) ww (vs.getD 0 undef) (dL ag (bf ag (fZ e gg) (gQ ag e n gg).2.2)).2.1.au] de rfl aW.cN (by exact trivial) (by exact⟨λG vs w w' ⟨h1,h2⟩ k=>⟨h1,h2.ext k⟩,λG vs w w' ⟨G9,h1,h2,h3⟩ k=>⟨G9,h1,h2.ext k,h3.ext k⟩,trivial⟩) (⟨rfl,aW⟩)
  refine FA ?_
  refine ve 0 (λx w8 G8 aX ain aqg hJ hlen=>?_) ?_
  have ba:=jv hlen
  subst ba
  have cV:=cV.go ain
  obtain⟨bX,aW⟩:=hJ
  subst bX
  refine aA (V5 uq.1 (ih (fZ e gg) om uq.1) ag (gQ ag e n gg).2.2 (aP++(gQ ag e n gg).1.map Prod.fst) (exprs++(gQ ag e n gg).1.map λp=>p.2.au) lx (gb::w1.heap.size::E) G2 b _ w8 aW.m cV) ?_
  rintro Dc w9 ⟨G9,⟨dG,qW⟩,db⟩
  rw[List.append_assoc,List.append_assoc,<-List.map_append,<-List.map_append] at qW
  exact fe _ (db.in _) qW.bG.2.2 (⟨G9,rfl,aW.call qW db,dG⟩)
  exact FZ
  intro x l5 G47 aX aio aqi hJ hlen
  obtain⟨q0,ba⟩:=jw hlen
  subst ba
  have pB:=pB.go aio
  change OW _ _ _ _ _ (aS (aR _ x _) (zZ 103 [_,_,_,_,_,_,_,_,_,_])) _
  obtain⟨G3,bX,aW,dG⟩:=hJ
  subst bX
  obtain⟨a7,n7,c7,e7,_,_⟩:=cS dG
  have e8:q0=_:=e7
  subst e8
  have Ac:((l8 [bH e.head] (gQ ag e n gg).2.1 e)).set (e.from+gg) (dL ag (bf ag (fZ e gg) (gQ ag e n gg).2.2)).2.1.au=(l8 [bH e.head] (gQ ag e n (gg+1)).2.1 e):=(by have:=VM (pre:=[bH e.head]) (acc:=(gQ ag e n gg).2.1) (e:=e) (y:=(dL ag (bf ag (fZ e gg) (gQ ag e n gg).2.2)).2.1) om;rw[show[bH e.head].length=e.from from Fc.symm,gD] at this;exact this)
  refine ti (i:=e.from+gg) (vs:=[str (dL ag (bf ag (fZ e gg) (gQ ag e n gg).2.2)).2.1.au.av,.slice a7 n7 c7]) (row:=(dL ag (bf ag (fZ e gg) (gQ ag e n gg).2.2)).2.1.au.enc) aK rfl rfl rfl rfl (by first|rfl|exact Nat.zero_add _) aW.own aW.cN sm (by rw[gK,VN om];simp;omega) rfl (o5 _) dG.ji λkZ iO sf dH=>?_
  rw[tl,Ac] at dH
  have pB:=pB.aD iO aW.jo
  have aW:=aW.store iO dH
  refine W ?_
  exact⟨gg+1,⟨rfl,rfl,rfl,rfl,congrArg (Value.int .i64) om⟩,⟨G3,pB,aW,om⟩,om⟩
  have fH:gg=e.kids.length:=by omega
  subst fH
  have gD:=OU ag e n e.kids.length
  refine W ?_
  refine cu aK rfl rfl rfl aW.bx rfl λw8 aU cz kV=>?_
  obtain⟨sh,si,vQ⟩:=aW.fin aU
  rw[VO gD,<-Ch.2.1] at sh
  rw[<-Ch.1,<-Ch.2.2] at si
  refine W ?_
  exact⟨[_],fB eK aK rfl cz rfl,⟨G2,⟨sh,si⟩,vQ⟩⟩
theorem Fe (s:aj):(bH s).size=1+s.length:=by simp[bH,aq.size,aq.size.sizes]
theorem aip {h:aj} (hk:gx h=true):h.length<=5:=by
 simp only[gx,oE,dE] at hk
 rcases hk with rfl|rfl<;>decide
theorem aiq {h:aj} (hk:ie h=true):h.length<=5:=by
 simp only[ie,oE,dE] at hk
 rcases hk with(((rfl|rfl)|rfl)|rfl)|rfl<;>decide
theorem Ex.size:∀{e:Ex},e.ok->e.au.size<=30*e.n
 | .at s,h=>by
  have:s.length<=4:=oL (e:=.at s) h
  show(bH s).size<=_
  rw[Fe];simp only[Ex.n];omega
 | .un hd a,h=>by
  have:=aip h.1
  have:=Ex.size h.2
  show 1+0+aq.size.sizes [bH hd,a.au]<=_
  simp only[aq.size.sizes,Fe,Ex.n];omega
 | .bi hd a b,h=>by
  have:=aiq h.1
  have:=Ex.size h.2.1
  have:=Ex.size h.2.2
  show 1+0+aq.size.sizes [bH hd,a.au,b.au]<=_
  simp only[aq.size.sizes,Fe,Ex.n];omega
 | .ite a b c,h=>by
  have:=Ex.size h.1
  have:=Ex.size h.2.1
  have:=Ex.size h.2.2
  have:gN.length=2:=rfl
  show 1+0+aq.size.sizes [bH gN,a.au,b.au,c.au]<=_
  simp only[aq.size.sizes,Fe,Ex.n];omega
 | .lt x a b,h=>by
  have:=EO h.1
  have:=Ex.size h.2.1
  have:=Ex.size h.2.2
  have:gw.length=3:=rfl
  show 1+0+aq.size.sizes [bH gw,bH x,a.au,b.au]<=_
  simp only[aq.size.sizes,Fe,Ex.n];omega
 | .fn f x A B e,h=>by
  have:=EO h.1
  have:=EO h.2.1
  have:=Ex.size h.2.2.2.2.2
  have:=A.size
  have:=B.size
  have:ic.length=3:=rfl
  show 1+0+aq.size.sizes [bH ic,bH f,bH x,A.au,B.au,e.au]<=_
  simp only[aq.size.sizes,Fe,Ex.n];omega
theorem Ex.air (h:e.ok):e.au.text.length<=60*e.n:=by
 have h1:=MW e.au _ (lR _) (Ex.wf h).wf
 have h2:=Ex.size h
 omega
theorem ais {q:Ex} (hq:nQ e=some q):q.n<=4*e.n:=by
 unfold nQ at hq
 cases hp:qI e with
 |none=>rw[hp] at hq;cases hq
 |some p=>
  have dZ:p.n=e.n:=by
   unfold qI at hp
   split at hp
   ·cases hp;exact Tc _ e [] 0
   ·cases hp
  rw[hp,Option.bind_some] at hq
  split at hq
  ·cases hq
   have:=vw (lH p.au []) p 0
   show(nest _ _).n<=_
   rw[Ng];omega
  ·cases hq
theorem ait {p:Ex} (hp:qI e=some p):p.n=e.n:=by
 unfold qI at hp
 split at hp
 ·cases hp;exact Tc _ e [] 0
 ·cases hp
end Go.Proofs.YthbhobaiopccaaaGreatDoor
