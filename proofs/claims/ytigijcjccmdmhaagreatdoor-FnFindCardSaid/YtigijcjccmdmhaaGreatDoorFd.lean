/- Lemmas for the law FnFind, no statement of their own: no conditions. -/
import Derived.Test.YtigijcjccmdmhaaGreatDoorFc
namespace Go.Proofs.YtigijcjccmdmhaaGreatDoor
open Go
variable {E G L:List Nat} {w w':World} {b c k n sz x:Nat} {v:Value} {g gb:Option Nat} {rows:List (List C)} {ts:List aA} {e:Ex} {xs:List aj} {bs:Bs} {h:aj} {A B:Ty} {o:Option (Ty×Ty)} {r9:List Ty} {m:Mk}
theorem sR (ts:List aA) (i:Nat) (t:aA):(dD ts).set i t.enc=dD (ts.set i t):=by rw[xq,xq,List.map_set]
theorem TF (ts:List aA):∀row,row∈dD ts->∀c,c∈row->∀v,c= .val v->v.oneCell'=true:=by
 intro row hr c hc v hv
 rw[xq] at hr
 obtain⟨t,_,rfl⟩:=List.mem_map.1 hr
 cases t with
 |mk a ps=>
  simp only[aA.enc,mC,List.not_mem_nil,or_false] at hc
  rcases hc with h|h
  ·subst h;cases hv;rfl
  ·subst h;cases hv
theorem eC.ext {T:TypeId} (h:eC L w T sz v g rows) (k:ak [] w w'):eC L w' T sz v g rows:=h.any k
theorem eC.grow {T:TypeId} (h:eC L w T sz v g rows):eC (w.heap.size::L) w T sz v g rows:=h.sub zg
theorem eC.aL {T:TypeId} (h:eC (x::L) w T sz v g rows) (k:ak [x] w w') (hx:x∉g.toList):eC (x::L) w' T sz v g rows:=
 h.aO (Fr.of k sm) k λy hy vX=>hx (by simp at vX;subst vX;exact hy)
structure jw (G:List Nat) (w0 w:World) (br:Nat) (ai:List aj) (n gb b8:Nat) (vP:Value) (ts:List aA):Prop where
 rn:RN G w br ai n
 own:eC G w 66 2 vP (some gb) (dD ts)
 kb:ak [br] w0 w
 bx:aY w b8 [str [],.slice none 0 0].toArray 66
 mem:gb∈G∧b8∈G
 ne:br≠gb∧b8≠gb∧br≠b8
 low:w0.heap.size<=gb∧w0.heap.size<=b8
 cZ:fu G w
section
variable {G:List Nat} {w0 w w':World} {br:Nat} {ai:List aj} {n gb b8:Nat} {vP:Value} {ts:List aA}
theorem jw.ext (h:jw G w0 w br ai n gb b8 vP ts) (k:ak [] w w'):jw G w0 w' br ai n gb b8 vP ts:=
 ⟨h.rn.ext k,h.own.ext k,h.kb.ext k,h.bx.ext k,h.mem,h.ne,h.low,λx hx=>lL (h.cZ x hx) k.size⟩
theorem jw.out {G' G0:List Nat} (h:jw G w0 w br ai n gb b8 vP ts) (k:Fr G w G' w') (ho:Out w0.heap.size G0 w w') (hb:br∈G0∧gb∈G0∧b8∈G0) (gV:br∈G'∧gb∈G'∧b8∈G') (hl:fu G' w'):jw G' w0 w' br ai n gb b8 vP ts:=
 ⟨h.rn.out k ho hb.1 gV.1,h.own.out k ho (by simpa using hb.2.1),ho.since h.kb,ho.jv h.bx hb.2.2,gV.2,h.ne,h.low,hl⟩
theorem jw.call {n':Nat} (h:jw G w0 w br ai n gb b8 vP ts) (hr:RN G w' br ai n') (k:ak [br] w w'):jw G w0 w' br ai n' gb b8 vP ts:=
 ⟨hr,h.own.aO (Fr.of k (by simpa using h.rn.mem)) k (by intro x hx fF;simp at hx fF;exact h.ne.1 (fF.symm.trans hx)),h.kb.trans k,h.bx.aO k (by simpa using λe=>h.ne.2.2 e.symm),h.mem,h.ne,h.low,λx hx=>lL (h.cZ x hx) k.size⟩
theorem jw.store {ts':List aA} (h:jw G w0 w br ai n gb b8 vP ts) (k:ak [gb] w w') (ho:eC G w' 66 2 vP (some gb) (dD ts')):jw G w0 w' br ai n gb b8 vP ts':=
 ⟨h.rn.aO k (by simpa using h.ne.1) (by simpa using h.mem.1),ho,h.kb.since k (by intro x hx;simp at hx;subst hx;exact .inr h.low.1),h.bx.aO k (by simpa using h.ne.2.1),h.mem,h.ne,h.low,λx hx=>lL (h.cZ x hx) k.size⟩
theorem jw.jA (h:jw G w0 w br ai n gb b8 vP ts):∀x,x∈[gb]->x∈G:=by simpa using h.mem.1
theorem jw.ob (h:jw G w0 w br ai n gb b8 vP ts):∀x,x∈[br]->x∈G:=by simpa using h.rn.mem
end
theorem jw.fin {w0:World} {br:Nat} {ai:List aj} {gb b8:Nat} {vP:Value} (h:jw (gb::b8::G) w0 w br ai n gb b8 vP ts) (hG:fu G w0) (iF:br∈G) (k:ak [b8] w w'):
  bS G w' (.agg #[str [],vP]) (.mk [] ts)∧RN G w' br ai n∧ak [br] w0 w':=by
 have oB:gb∉b8::G:=λhx=>by
  rcases mC.1 hx with h1|h1
  ·exact h.ne.2.1 h1.symm
  ·have:=hG gb h1;have:=h.low.1;omega
 have h1:cD (b8::G) w vP (.sl 2 (dD ts)):=h.own.rep (λx hx=>.inl (by simpa using hx)) (by simpa using oB)
 have h2:bS (b8::G) w (.agg #[str [],vP]) (.mk [] ts):=lE h1
 refine⟨(h2.aL k sm).ji (λx hx=>mK _ hx),(h.rn.aO k (by simpa using h.ne.2.2) sm).re iF (λx hx=>.inl (by simp[hx])),h.kb.since k (λx hx=>?_)⟩
 simp at hx;subst hx;exact .inr h.low.2
theorem ML (s:aj):dP G w [str s,.slice none 0 0] (bZ s).enc:=bS.kO (lE oU)
theorem adD (ai:List aj) (ρ:Rn) (n:Nat) {M:Nat} (ha:e.jj=false) (hl:isLt e=false) (hk:k<e.kids.length) (h1:ρ.length+2*e.n<=100000) (h2:n+e.n*(ai.length+2)<=100000) (hM:M<=nF ai n e+kN e k*(ai.length+2)):
  (jT ai ρ n e).length+2*(fJ e k).n<=100000∧M+(fJ e k).n*(ai.length+2)<=100000:=by
 have h3:=yf hk
 have h4:=DU cx ai n
 have h5:=DU cx ai (bK cx ai n+1)
 have h6:(jT ai ρ n e).length+2*(fJ e k).n<=ρ.length+2*e.n∧nF ai n e+kN e (k+1)*(ai.length+2)<=n+e.n*(ai.length+2):=by
  cases e with
  |«at» s=>cases ha
  |lt x a b=>cases hl
  |fn f x A B b=>
   have gL:k=0:=by simp[Ex.kids] at hk;exact hk
   subst gL
   have e1:(fJ (.fn f x A B b) 0).n=b.n:=rfl
   have e2:kN (.fn f x A B b) 1=b.n:=by simp[kN,Ex.kids]
   have e3:(Ex.fn f x A B b).n=3+A.n+B.n+b.n:=rfl
   rw[e1,e2,e3]
   simp only[jT,nF,lA,lC,List.length_nil,Nat.add_mul]
   constructor<;>omega
  |un h a=>
   have:=BY (.un h a) (k+1)
   exact⟨by show ρ.length+_<=_;omega,Nat.add_le_add_left (Nat.mul_le_mul_right _ this) _⟩
  |bi h a b=>
   have:=BY (.bi h a b) (k+1)
   exact⟨by show ρ.length+_<=_;omega,Nat.add_le_add_left (Nat.mul_le_mul_right _ this) _⟩
  |ite a b c=>
   have:=BY (.ite a b c) (k+1)
   exact⟨by show ρ.length+_<=_;omega,Nat.add_le_add_left (Nat.mul_le_mul_right _ this) _⟩
 rw[h3,Nat.add_mul] at h6
 omega
theorem adE (ai:List aj) (iE:ai.length<=10000):∀(m:Nat) (e:Ex),e.n<=m->e.n<=1000->e.ok->∀(ρ:Rn) (n:Nat),ρ.length+2*e.n<=100000->n+e.n*(ai.length+2)<=100000->∀(v vf vt:Value) (br:Nat) (G:List Nat) (w:World),
  bS G w v e.av->bI G w vf (ρ.map Prod.fst)->bI G w vt (ρ.map Prod.snd)->RN G w br ai n->fu G w->
  cj Tryz.prog 176 [v,vf,vt,.pointer (some ⟨br,0,none⟩)] w λr w'=>(bS G w' r (cg ai e ρ n).1.av∧RN G w' br ai (cg ai e ρ n).2)∧ak [br] w w':=by
 intro m
 induction m with
 |zero=>intro e h;have:=e.pos;omega
 |succ m ih=>
  intro e hm mU bD ρ n oA oR v vf vt br G w dI MM MN B1 hG
  obtain⟨a,np,c,rfl,hn,IV⟩:=dM dI
  subst hn
  obtain⟨af,nf,cf,rfl,rh⟩:=eN MM
  obtain⟨at_,nt,ct,rfl,DA⟩:=eN MN
  have adF:(ρ.map Prod.fst).length=ρ.length:=by simp
  have alF:(ρ.map Prod.snd).length=ρ.length:=by simp
  have alG:=B1.lt
  have hK:=ak.refl [] w
  have IK:=FX e
  have qz:=DU cx ai n
  have jU:=DU cx ai (bK cx ai n+1)
  have hB:e.n*(ai.length+2)<=100000:=by omega
  refine lF [.cell 8 66] 155 Tryz.func176 rfl Yx rfl rfl rfl ?_
  refine zr<|fE rfl ?_
  intro w1 aK aI dY
  have hK:=hK.ext aK
  refine eA aH rfl rfl rfl ?_
  intro w2 aq dv eM
  have hK:=hK.grow;have hK:=hK.ext aq;have aI:=aI.grow;have aI:=aI.ext aq
  refine ag<|aQ<|zr<|zf dz rfl<|zl ck rfl (aI.at rfl)<|jG rfl rfl rfl rfl<|ag<|zc rfl (λh1=>?_) (λh1=>?_)
  have aR:∃x,e= .at x:=(by have ha:=(vg bD).1 h1;cases e<;>first|exact⟨_,rfl⟩|cases ha)
  obtain⟨x,rfl⟩:=aR
  refine aQ<|zr<|zf dz rfl<|zl ck rfl (aI.at rfl)<|aC (uV _ _) ?_
  rintro _ _ ⟨rfl,rfl⟩
  refine ag<|zc rfl (λh2=>?_) (λh2=>?_)
  have hq:(cg ai (.at x) ρ n).1.av=bZ (qX ρ x):=(show bZ (if eO x=true then qX ρ x else x)=bZ (qX ρ x) from congrArg bZ (iP h2))
  refine zr<|zm<|zm<|zf dz rfl<|zl ck rfl (aI.at rfl)<|aC (adp (ρ.map Prod.fst) (ρ.map Prod.snd) om om x _ _ _ _ w2 (MM.ext hK) (MN.ext hK)) ?_
  rintro v3 w3 ⟨eh,aJ⟩
  have fZ:=aJ.size
  have hK:=hK.ext aJ;have dv:=dv.ext aJ
  obtain rfl:=eh
  refine aC (zS _ w3) ?_
  rintro v4 w4 ⟨eH,aF⟩
  have gI:=aF.size
  have hK:=hK.ext aF;have dv:=dv.ext aF
  obtain rfl:=eH
  refine du aH rfl rfl rfl dv rfl ?_
  intro w5 aU dv jo
  have hK:=hK.aL aU sx
  refine ag<|aV ?_
  have yh:=ado x ρ
  rw[<-adF] at yh
  exact⟨[_],gO bT aH rfl dv rfl,⟨by rw[hq,<-yh];exact lE oU,B1.ext hK⟩,hK.any⟩
  have hq:(cg ai (.at x) ρ n).1.av=bZ x:=(show bZ (if eO x=true then qX ρ x else x)=bZ x from congrArg bZ (iN (λhh=>Bool.noConfusion (hh.symm.trans h2))))
  refine bz<|zr<|zL bT aH rfl aI.all rfl<|du aH rfl rfl rfl dv rfl ?_
  intro w3 aJ dv iH
  have hK:=hK.aL aJ sx
  refine ag<|aV ?_
  exact⟨[_],gO bT aH rfl dv rfl,⟨by rw[hq];exact bS.ext dI hK,B1.ext hK⟩,hK.any⟩
  have fp:e.jj=false:=(by cases hh:e.jj;rfl;exact absurd ((vg bD).2 hh) h1)
  obtain⟨FY,pE,jH,wG⟩:=Ex.au fp
  obtain⟨jS,DP,DQ⟩:=FW bD fp
  have FZ:=Lu bD fp
  have l9:eX (nth e.av.au 0).az=(e.from,e.from+e.kids.length):=by rw[jH];exact FZ
  obtain⟨b,off,xF,xG,e0,pY,ky⟩:=fI IV jS
  subst e0
  have nk:=hK
  have F7:=aI
  have adG:=dv
  have adH:=dY
  have adI:=eM
  refine bz<|zr<|zJ w2.heap.size (w1.heap.size::G) cv aH rfl rfl (lR _) (λx hx=>by rcases mC.1 hx with h|h;omega;have:=hG x h;omega) ?_
  intro w3 aJ IW wI
  have ke:=aJ
  have aI:=aI.ext aJ;have dv:=dv.ext aJ
  refine zf cL rfl<|zl cI rfl (aI.at rfl)<|xI cv aH rfl rfl rfl rfl rfl rfl wI (fG.ext (cD.fresh IV (L':=w2.heap.size::w1.heap.size::G) (by intro x hx;simp at hx;rcases hx with rfl|rfl|hx;right;omega;right;omega;exact .inl hx)) (nk.ext aJ)) (TF _) (by rw[iG];simp;omega) ?_
  intro a4 jd g4 w4 kV aF
  have ke:=wI.since ke aF
  have hK:=nk.trans ke
  have aI:=F7.ext ke
  have dv:=adG.ext ke
  have gI:=ke.size
  rw[show([]:List (List C)).length+(dD e.av.au).length=e.av.au.length from by rw[iG];simp] at kV⊢
  rw[List.nil_append] at kV
  obtain⟨gb,e4,e5⟩:=kV.form (by rw[iG];exact jS)
  subst e4
  subst e5
  have gH:gb<w4.heap.size:=kV.lt gb sm
  have DV:w2.heap.size<=gb:=kV.low gb rfl
  have hS:eC (gb::w1.heap.size::G) w4 66 2 (.slice (some ⟨gb,0,none⟩) e.av.au.length jd) (some gb) (dD e.av.au):=(let⟨xs,hr⟩:=kV.own;⟨⟨xs,hr.own,hr.rep⟩,hr.row⟩)
  refine j5 (Kv _ _ _ _) rfl rfl<|eA aH rfl rfl rfl ?_
  intro w5 aU cT jo
  have hK:=hK.grow;have hK:=hK.ext aU;have aI:=aI.grow;have aI:=aI.ext aU;have dv:=dv.grow;have dv:=dv.ext aU;have hS:=hS.grow;have hS:=hS.ext aU
  refine du aH rfl rfl rfl cT rfl ?_
  intro w6 bF cT lG
  have hK:=hK.aL bF sx;have aI:=aI.aL bF sx;have dv:=dv.aL bF sx;have hS:=hS.aL bF sx
  refine ag<|zr<|zf cL rfl<|zl cI rfl (aI.at rfl) ?_
  have lD:∀x,x∈gb::w1.heap.size::G->x∈G∨w.heap.size<=x:=(by intro x hx;simp at hx;rcases hx with rfl|rfl|hx;right;omega;right;omega;exact .inl hx)
  have jB:=hK.size
  have TG:fu (gb::w1.heap.size::G) w6:=(by intro x hx;simp at hx;rcases hx with rfl|rfl|hx;omega;omega;have:=hG x hx;omega)
  have DW:Fr G w (gb::w1.heap.size::G) w6:=⟨hK.any,lD⟩
  have bc:=IV.go DW
  have fQ:=MM.go DW
  have eZ:=MN.go DW
  have pY:=pY.go DW
  have ri:RN (gb::w1.heap.size::G) w6 br ai n:=(B1.re (by simp[B1.mem]) lD).ext hK
  have gK:∀q,w.heap.size<=q->q≠gb->q≠w1.heap.size->q∉gb::w1.heap.size::G:=(by intro q h1 h2 h3 hx;simp at hx;rcases hx with h|h|h;exact h2 h;exact h3 h;have:=hG q h;omega)
  have aI:fg (gb::w1.heap.size::G) w6 w.heap.size _ _:=⟨aI,gK _ om om om⟩
  have cT:fg (gb::w1.heap.size::G) w6 w4.heap.size _ _:=⟨cT,gK _ om om om⟩
  have hS:=eC.sub hS (L':=gb::w1.heap.size::G) (λx hx=>.inl (mK _ hx))
  have bg:jw (gb::w1.heap.size::G) w w6 br ai n gb w1.heap.size _ e.av.au:=⟨ri,hS,hK.any,dv,sm,om,om,TG⟩
  have aR:∃G2,G2=gb::w1.heap.size::G:=⟨_,rfl⟩
  obtain⟨G2,F8⟩:=aR
  rw[<-F8] at bc fQ eZ aI cT pY bg
  have gA:br∈G2∧gb∈G2∧w1.heap.size∈G2:=⟨bg.rn.mem,bg.mem⟩
  refine zi (i:=0) cv aH rfl rfl jS<|zf dz rfl<|zl ck rfl (pY.cells 0 _ rfl)<|aC (IF _ _) ?_
  rintro _ _ ⟨rfl,rfl⟩
  rw[yc l9]
  refine zm<|zx (i:=0) rfl rfl<|zx (i:=1) rfl rfl<|zA<|zA<|ag<|aQ<|zr<|zf cL rfl<|zl cI rfl (aI.at rfl)<|zi (i:=0) cv aH rfl rfl jS<|zf dz rfl<|zl ck rfl (pY.cells 0 _ rfl)<|cW rfl rfl<|ag<|zc rfl (λh3=>?_) (λh3=>?_)
  obtain⟨nx,ea,eb,rfl⟩:=IT bD (jH.symm.trans h3)
  have wJ:(Ex.lt nx ea eb).n=2+ea.n+eb.n:=rfl
  have hmul:(Ex.lt nx ea eb).n*(ai.length+2)=2*(ai.length+2)+ea.n*(ai.length+2)+eb.n*(ai.length+2):=by rw[wJ,Nat.add_mul,Nat.add_mul]
  have alH:=jz ai ea ρ (bK cx ai n+1)
  have IX:(Ex.lt nx ea eb).av.au.length=4:=rfl
  refine zr<|zm<|aC (MJ ai n om iE br G2 w6 bg.rn) ?_
  rintro v7 w7 ⟨iT,cw⟩
  have pb:=cw.size
  have bc:=bc.aL cw (bg.ob);have fQ:=fQ.aL cw (bg.ob);have eZ:=eZ.aL cw (bg.ob);have aI:=aI.aL cw (bg.ob);have cT:=cT.aL cw bg.ob
  obtain⟨rfl,ri⟩:=iT
  have bg:=bg.call ri cw
  refine zA<|ag<|aQ ?_
  apply mq ei 5 (rA 51 5) (rA 51 5) [[],[0],[],[2],[1]] [It.v _,It.v _,It.v _,It.v _,It.v _] de rfl
  intro wd aB
  refine vc (λ_ _ _=>zf cL rfl pv) ?_
  refine vk aB (λx w8 cu=>?_) ?_
  have cT:=cT.ext cu
  refine zl cI rfl (cT.at rfl) ?_
  exact pv
  refine eI ?_
  refine vk aB (λx w8 cu=>?_) ?_
  refine aC (zS _ w8) ?_
  rintro v9 w9 ⟨eR,aG⟩
  have pd:=aG.size
  obtain rfl:=eR
  exact pk aG
  refine vk aB (λx w8 cu=>?_) ?_
  refine zi (i:=1) cv aH rfl rfl ((show 1<4 from om)) ?_
  exact pv
  exact trivial
  intro x wK jk
  have bc:=bc.ext jk;have fQ:=fQ.ext jk;have eZ:=eZ.ext jk;have aI:=aI.ext jk;have cT:=cT.ext jk;have bg:=bg.ext jk
  change OW _ _ _ _ _ (aM (aN _ x _) (zZ 51 [_,_,_,_,_])) _
  refine sP (i:=1) (vs:=[str (dj cx (bK cx ai n)),.slice none 0 0]) (row:=(bZ (dj cx (bK cx ai n))).enc) aH rfl rfl rfl rfl rfl bg.own bg.cZ bg.mem.1 (by rw[iG];omega) rfl (oT _) (ML _) ?_
  intro j1 eS rW eu
  rw[sR] at eu
  have bc:=bc.aL eS bg.jA;have fQ:=fQ.aL eS bg.jA;have eZ:=eZ.aL eS bg.jA;have aI:=aI.aL eS bg.jA;have cT:=cT.aL eS bg.jA
  have bg:=bg.store eS eu
  refine ag<|aQ ?_
  obtain⟨b2,ni,jb,jc,e2,bX,et⟩:=fI bc (i:=2) om
  cases e2
  have et:bS G2 j1 _ ea.av:=et
  obtain⟨b3,B2,pT,pU,e3,er,eY⟩:=fI bc (i:=3) om
  cases e3
  have eY:bS G2 j1 _ eb.av:=eY
  obtain⟨b1,fY,gX,gY,e1,bC,dd⟩:=fI bc (i:=1) om
  cases e1
  apply kc ei G2 11 (rA 56 11) (rA 56 11) [[],[0],[],[2],[3],[4],[],[],[],(rA 5 4),[1]] [Ie.v _,Ie.v _,Ie.v _,Ie.v _,Ie.v _,Ie.v _,Ie.v _,Ie.v _,Ie.v _,Ie.e 0,Ie.v _] [9] [fun(G:List Nat) (vs:List Value) (ww:World)=>G=G2∧jw G2 w ww br ai (bK cx ai n+1) gb w1.heap.size (.slice (some ⟨gb,0,none⟩) (Ex.lt nx ea eb).av.au.length jd) (((Ex.lt nx ea eb).av.au.set 1 (bZ (dj cx (bK cx ai n))))),fun(G:List Nat) (vs:List Value) (ww:World)=>G=G2∧jw G2 w ww br ai ((cg ai ea ρ (bK cx ai n+1)).2) gb w1.heap.size (.slice (some ⟨gb,0,none⟩) (Ex.lt nx ea eb).av.au.length jd) (((Ex.lt nx ea eb).av.au.set 1 (bZ (dj cx (bK cx ai n)))))∧bS G2 ww (vs.getD 0 undef) (cg ai ea ρ (bK cx ai n+1)).1.av] de rfl bg.cZ (by exact trivial) (by exact⟨λG vs w w' ⟨h1,h2⟩ k=>⟨h1,h2.ext k⟩,λG vs w w' ⟨h1,h2,h3⟩ k=>⟨h1,h2.ext k,h3.ext k⟩,trivial⟩) (⟨rfl,bg⟩)
  refine vf (λ_ _ _ _ _ _=>zf cL rfl fv) ?_
  refine vf (λx pe B3 aW rj F9=>?_) ?_
  have cT:=cT.go rj
  refine zl cI rfl (cT.at rfl) ?_
  exact fv
  refine vf (λ_ _ _ _ _ _=>zf cL rfl fv) ?_
  refine vf (λx pe B3 aW rj F9=>?_) ?_
  have aI:=aI.go rj
  refine zl cI rfl (aI.at rfl) ?_
  exact fv
  refine vf (λ_ _ _ _ _ _=>zi (i:=2) cv aH rfl rfl ((show 2<4 from om)) fv) ?_
  refine vf (λx pe B3 aW rj F9=>?_) ?_
  have bX:=bX.go rj
  refine zL bT aH rfl bX.cells rfl ?_
  exact fv
  refine cR ?_
  refine cR ?_
  refine cR ?_
  refine ve 0 (λx pe B3 aW rj F9 hJ hlen=>?_) ?_
  have bo:=jP hlen
  subst bo
  have fQ:=fQ.go rj;have eZ:=eZ.go rj;have et:=et.go rj
  obtain⟨cz,bg⟩:=hJ
  obtain rfl:G2=B3:=cz.symm
  refine aC (ih ea om om bD.2.1 ρ (bK cx ai n+1) om om _ _ _ br G2 pe et fQ eZ bg.rn bg.cZ) ?_
  rintro B4 oc ⟨⟨dR,Ga⟩,aG⟩
  exact fe G2 (Fr.of aG bg.ob) ((λq hq=>lL (bg.cZ q hq) aG.size)) (⟨rfl,bg.call Ga aG,dR⟩)
  refine vf (λ_ _ _ _ _ _=>zi (i:=2) cv aH rfl rfl ((show 2<4 from om)) fv) ?_
  exact trivial
  intro x Gb G88 aW B5 alI hJ hlen
  obtain⟨q0,bo⟩:=jQ hlen
  subst bo
  have fQ:=fQ.go B5;have eZ:=eZ.go B5;have aI:=aI.go B5;have cT:=cT.go B5;have er:=er.go B5;have eY:=eY.go B5;have bC:=bC.go B5
  change OW _ _ _ _ _ (aM (aN _ x _) (zZ 56 [_,_,_,_,_,_,_,_,_,_,_])) _
  obtain⟨cz,bg,dR⟩:=hJ
  obtain rfl:G2=G88:=cz.symm
  obtain⟨a7,n7,c7,e7,_,_⟩:=dM dR
  have e8:q0=_:=e7
  subst e8
  refine sP (i:=2) (vs:=[str (cg ai ea ρ (bK cx ai n+1)).1.av.az,.slice a7 n7 c7]) (row:=(cg ai ea ρ (bK cx ai n+1)).1.av.enc) aH rfl rfl rfl rfl rfl bg.own bg.cZ bg.mem.1 (by rw[iG];rw[List.length_set];omega) rfl (oT _) ((show bS G2 _ (.agg #[_,_]) _ from dR).kO) ?_
  intro sS rk rW eu
  rw[sR] at eu
  have fQ:=fQ.aL rk bg.jA;have eZ:=eZ.aL rk bg.jA;have aI:=aI.aL rk bg.jA;have cT:=cT.aL rk bg.jA;have er:=er.aL rk bg.jA;have eY:=eY.aL rk bg.jA;have bC:=bC.aL rk bg.jA
  have bg:=bg.store rk eu
  refine ag<|aQ ?_
  have zy:=bg.kb.size
  apply kc ei G2 25 (rA 67 25) (rA 67 25) [[],[0],[],[2],[3],[4],[],[],[6,7],[],[9],[10],[11],[12],[13],[8,14],[],[],[16,17],[],[19],[18,20],[],[5,15,21,22],[1]] [Ie.v _,Ie.v _,Ie.v _,Ie.v _,Ie.v _,Ie.v _,Ie.p (fun(G:List Nat) (v:Value) (ww:World)=>∃bb,v= .slice (some ⟨bb,0,none⟩) 0 0∧w.heap.size<=bb∧fg G ww bb #[] 9),Ie.v _,Ie.e 0,Ie.v _,Ie.v _,Ie.v _,Ie.v _,Ie.v _,Ie.p (fun(G:List Nat) (v:Value) (ww:World)=>bI G ww v [nx]),Ie.e 1,Ie.p (fun(G:List Nat) (v:Value) (ww:World)=>∃bb,v= .slice (some ⟨bb,0,none⟩) 0 0∧w.heap.size<=bb∧fg G ww bb #[] 9),Ie.v _,Ie.e 2,Ie.v _,Ie.p (fun(G:List Nat) (v:Value) (ww:World)=>bI G ww v [(dj cx (bK cx ai n))]),Ie.e 3,Ie.v _,Ie.e 4,Ie.v _] [8,15,18,21,23] [fun(G:List Nat) (vs:List Value) (ww:World)=>G=G2∧jw G2 w ww br ai ((cg ai ea ρ (bK cx ai n+1)).2) gb w1.heap.size (.slice (some ⟨gb,0,none⟩) (Ex.lt nx ea eb).av.au.length jd) ((((Ex.lt nx ea eb).av.au.set 1 (bZ (dj cx (bK cx ai n)))).set 2 (cg ai ea ρ (bK cx ai n+1)).1.av)),fun(G:List Nat) (vs:List Value) (ww:World)=>(∀q,q∈G2->q∈G)∧jw G w ww br ai ((cg ai ea ρ (bK cx ai n+1)).2) gb w1.heap.size (.slice (some ⟨gb,0,none⟩) (Ex.lt nx ea eb).av.au.length jd) ((((Ex.lt nx ea eb).av.au.set 1 (bZ (dj cx (bK cx ai n)))).set 2 (cg ai ea ρ (bK cx ai n+1)).1.av))∧LP w.heap.size G G2 ww 9 (vs.getD 0 undef) (ρ.map Prod.fst),fun(G:List Nat) (vs:List Value) (ww:World)=>G=G2∧jw G2 w ww br ai ((cg ai ea ρ (bK cx ai n+1)).2) gb w1.heap.size (.slice (some ⟨gb,0,none⟩) (Ex.lt nx ea eb).av.au.length jd) ((((Ex.lt nx ea eb).av.au.set 1 (bZ (dj cx (bK cx ai n)))).set 2 (cg ai ea ρ (bK cx ai n+1)).1.av))∧bI G2 ww (vs.getD 1 undef) ((ρ.map Prod.fst)++[nx]),fun(G:List Nat) (vs:List Value) (ww:World)=>(∀q,q∈G2->q∈G)∧jw G w ww br ai ((cg ai ea ρ (bK cx ai n+1)).2) gb w1.heap.size (.slice (some ⟨gb,0,none⟩) (Ex.lt nx ea eb).av.au.length jd) ((((Ex.lt nx ea eb).av.au.set 1 (bZ (dj cx (bK cx ai n)))).set 2 (cg ai ea ρ (bK cx ai n+1)).1.av))∧bI G ww (vs.getD 1 undef) ((ρ.map Prod.fst)++[nx])∧LP w.heap.size G G2 ww 9 (vs.getD 2 undef) (ρ.map Prod.snd),fun(G:List Nat) (vs:List Value) (ww:World)=>G=G2∧jw G2 w ww br ai ((cg ai ea ρ (bK cx ai n+1)).2) gb w1.heap.size (.slice (some ⟨gb,0,none⟩) (Ex.lt nx ea eb).av.au.length jd) ((((Ex.lt nx ea eb).av.au.set 1 (bZ (dj cx (bK cx ai n)))).set 2 (cg ai ea ρ (bK cx ai n+1)).1.av))∧bI G2 ww (vs.getD 1 undef) ((ρ.map Prod.fst)++[nx])∧bI G2 ww (vs.getD 3 undef) ((ρ.map Prod.snd)++[(dj cx (bK cx ai n))]),fun(G:List Nat) (vs:List Value) (ww:World)=>G=G2∧jw G2 w ww br ai ((cg ai eb (ρ++[(nx,(dj cx (bK cx ai n)))]) (cg ai ea ρ (bK cx ai n+1)).2).2) gb w1.heap.size (.slice (some ⟨gb,0,none⟩) (Ex.lt nx ea eb).av.au.length jd) ((((Ex.lt nx ea eb).av.au.set 1 (bZ (dj cx (bK cx ai n)))).set 2 (cg ai ea ρ (bK cx ai n+1)).1.av))∧bS G2 ww (vs.getD 4 undef) (cg ai eb (ρ++[(nx,(dj cx (bK cx ai n)))]) (cg ai ea ρ (bK cx ai n+1)).2).1.av] de rfl bg.cZ (by exact⟨λG v w G' w' ⟨bb,e,h0,h⟩ k=>⟨bb,e,h0,h.go k⟩,λG v w G' w' h k=>bI.go h k,λG v w G' w' ⟨bb,e,h0,h⟩ k=>⟨bb,e,h0,h.go k⟩,λG v w G' w' h k=>bI.go h k,trivial⟩) (by exact⟨λG vs w w' ⟨h1,h2⟩ k=>⟨h1,h2.ext k⟩,λG vs w w' ⟨h1,h2,h3⟩ k=>⟨h1,h2.ext k,h3.ext k⟩,λG vs w w' ⟨h1,h2,h3⟩ k=>⟨h1,h2.ext k,h3.ext k⟩,λG vs w w' ⟨h1,h2,h3,h4⟩ k=>⟨h1,h2.ext k,h3.ext k,h4.ext k⟩,λG vs w w' ⟨h1,h2,h3,h4⟩ k=>⟨h1,h2.ext k,h3.ext k,h4.ext k⟩,λG vs w w' ⟨h1,h2,h3⟩ k=>⟨h1,h2.ext k,h3.ext k⟩,trivial⟩) (⟨rfl,bg⟩)
  refine vf (λ_ _ _ _ _ _=>zf cL rfl fv) ?_
  refine vf (λx j3 kW aW iB ld=>?_) ?_
  have cT:=cT.go iB
  refine zl cI rfl (cT.at rfl) ?_
  exact fv
  refine vf (λ_ _ _ _ _ _=>zf cL rfl fv) ?_
  refine vf (λx j3 kW aW iB ld=>?_) ?_
  have aI:=aI.go iB
  refine zl cI rfl (aI.at rfl) ?_
  exact fv
  refine vf (λ_ _ _ _ _ _=>zi (i:=3) cv aH rfl rfl ((show 3<4 from om)) fv) ?_
  refine vf (λx j3 kW aW iB ld=>?_) ?_
  have er:=er.go iB
  refine zL bT aH rfl er.cells rfl ?_
  exact fv
  refine vf (λx j3 kW aW iB ld=>?_) ?_
  refine gN bh bA ?_
  intro od yi MO IY
  exact ff yi (⟨_,rfl,(by have h1:=iB.aO.size;omega),MO.o ld⟩)
  refine cR ?_
  refine ve 0 (λx j3 kW aW iB ld hJ hlen=>?_) ?_
  have bo:=jP hlen
  subst bo
  have fQ:=fQ.go iB
  intro v6 d6
  obtain⟨bb,e6,B6,gw⟩:=d6
  subst e6
  obtain⟨cz,bg⟩:=hJ
  obtain rfl:G2=kW:=cz.symm
  refine FT (N:=w.heap.size) bh bA rfl rfl rfl rfl rfl rfl gw B6 fQ bg.cZ om ?_
  intro v9 od G9 kU vh df fh pZ
  exact fe G9 df fh (⟨kU,bg.out df pZ ⟨gA.1,gA.2.1,gA.2.2⟩ ⟨kU _ gA.1,kU _ gA.2.1,kU _ gA.2.2⟩ fh,vh⟩)
  refine vf (λ_ _ _ _ _ _=>zf cL rfl fv) ?_
  refine vf (λx j3 kW aW iB ld=>?_) ?_
  have aI:=aI.go iB
  refine zl cI rfl (aI.at rfl) ?_
  exact fv
  refine vf (λ_ _ _ _ _ _=>zi (i:=1) cv aH rfl rfl ((show 1<4 from om)) fv) ?_
  refine vf (λ_ _ _ _ _ _=>zf dz rfl fv) ?_
  refine vf (λx j3 kW aW iB ld=>?_) ?_
  have bC:=bC.go iB
  refine zl ck rfl (bC.cells 0 _ rfl) ?_
  exact fv
  refine vf (λx j3 kW aW iB ld=>?_) ?_
  refine gD bh bA rfl rfl ?_
  intro od yi DX IY
  exact ff yi (aY.eD [nx] DX (λhx=>by have:=ld _ hx;omega))
  refine ve 1 (λx j3 kW aW iB ld hJ hlen=>?_) ?_
  obtain⟨q0,bo⟩:=jQ hlen
  subst bo
  intro lx d14
  obtain⟨kx,bg,Gc⟩:=hJ
  refine IH bh bA rfl rfl rfl rfl rfl rfl Gc d14 bg.cZ kx so ?_
  intro v9 od j4 df fh pZ
  exact fe G2 df fh (⟨rfl,bg.out df pZ ⟨gA.1,gA.2.1,gA.2.2⟩ ⟨gA.1,gA.2.1,gA.2.2⟩ fh,j4⟩)
  refine vf (λx j3 kW aW iB ld=>?_) ?_
  refine gN bh bA ?_
  intro od yi adK IY
  exact ff yi (⟨_,rfl,(by have h1:=iB.aO.size;omega),adK.o ld⟩)
  refine cR ?_
  refine ve 2 (λx j3 kW aW iB ld hJ hlen=>?_) ?_
  obtain⟨q0,q1,bo⟩:=lM hlen
  subst bo
  have eZ:=eZ.go iB
  intro yj d16
  obtain⟨bb,e6,B6,gw⟩:=d16
  subst e6
  obtain⟨cz,bg,rl⟩:=hJ
  obtain rfl:G2=kW:=cz.symm
  refine FT (N:=w.heap.size) bh bA rfl rfl rfl rfl rfl rfl gw B6 eZ bg.cZ om ?_
  intro v9 od G9 kU vh df fh pZ
  exact fe G9 df fh (⟨kU,bg.out df pZ ⟨gA.1,gA.2.1,gA.2.2⟩ ⟨kU _ gA.1,kU _ gA.2.1,kU _ gA.2.2⟩ fh,rl.go df,vh⟩)
  refine cR ?_
  refine vf (λx j3 kW aW iB ld=>?_) ?_
  refine gD bh bA rfl rfl ?_
  intro od yi adL IY
  exact ff yi (aY.eD [(dj cx (bK cx ai n))] adL (λhx=>by have:=ld _ hx;omega))
  refine ve 3 (λx j3 kW aW iB ld hJ hlen=>?_) ?_
  obtain⟨q0,q1,q2,bo⟩:=Af hlen
  subst bo
  intro v20 d20
  obtain⟨kx,bg,rl,Gc⟩:=hJ
  refine IH bh bA rfl rfl rfl rfl rfl rfl Gc d20 bg.cZ kx so ?_
  intro v9 od j4 df fh pZ
  exact fe G2 df fh (⟨rfl,bg.out df pZ ⟨gA.1,gA.2.1,gA.2.2⟩ ⟨gA.1,gA.2.1,gA.2.2⟩ fh,rl.go df,j4⟩)
  refine cR ?_
  refine ve 4 (λx j3 kW aW iB ld hJ hlen=>?_) ?_
  obtain⟨q0,q1,q2,q3,bo⟩:=LV hlen
  subst bo
  have eY:=eY.go iB
  obtain⟨cz,bg,rl,adM⟩:=hJ
  obtain rfl:G2=kW:=cz.symm
  refine aC (ih eb om om bD.2.2 (ρ++[(nx,(dj cx (bK cx ai n)))]) (cg ai ea ρ (bK cx ai n+1)).2 so om _ _ _ br G2 j3 eY (by rw[List.map_append];exact rl) (by rw[List.map_append];exact adM) bg.rn bg.cZ) ?_
  rintro B4 od ⟨⟨dR,Ga⟩,aG⟩
  exact fe G2 (Fr.of aG bg.ob) ((λq hq=>lL (bg.cZ q hq) aG.size)) (⟨rfl,bg.call Ga aG,dR⟩)
  refine vf (λ_ _ _ _ _ _=>zi (i:=3) cv aH rfl rfl ((show 3<4 from om)) fv) ?_
  exact trivial
  intro x IZ TH aW MP adN hJ hlen
  obtain⟨q0,q1,q2,q3,q4,bo⟩:=R9 hlen
  subst bo
  intro v6 d6
  intro lx d14
  intro yj d16
  intro v20 d20
  have cT:=cT.go MP
  change OW _ _ _ _ _ (aM (aN _ x _) (zZ 67 [_,_,_,_,_,_,_,_,_,_,_,_,_,_,_,_,_,_,_,_,_,_,_,_,_])) _
  obtain⟨cz,bg,dR⟩:=hJ
  obtain rfl:G2=TH:=cz.symm
  obtain⟨a7,n7,c7,e7,_,_⟩:=dM dR
  have e8:q4=_:=e7
  subst e8
  refine sP (i:=3) (vs:=[str (cg ai eb (ρ++[(nx,(dj cx (bK cx ai n)))]) (cg ai ea ρ (bK cx ai n+1)).2).1.av.az,.slice a7 n7 c7]) (row:=(cg ai eb (ρ++[(nx,(dj cx (bK cx ai n)))]) (cg ai ea ρ (bK cx ai n+1)).2).1.av.enc) aH rfl rfl rfl rfl rfl bg.own bg.cZ bg.mem.1 (by rw[iG];rw[List.length_set,List.length_set];omega) rfl (oT _) ((show bS G2 _ (.agg #[_,_]) _ from dR).kO) ?_
  intro MQ B7 rW eu
  rw[sR] at eu
  have cT:=cT.aL B7 bg.jA
  have bg:=bg.store B7 eu
  refine ag<|zr<|zL bT aH rfl cT.all rfl<|du aH rfl rfl rfl bg.bx rfl ?_
  intro adO DY dv mn
  subst F8
  obtain⟨rX,rY,vi⟩:=bg.fin hG B1.mem DY
  refine ag<|aV ?_
  exact⟨[_],gO bT aH rfl dv rfl,⟨rX,rY⟩,vi⟩
  have I0:isLt e=false:=not_lt (λhh=>h3 (jH.trans hh))
  have TJ:=adz ai ρ n fp I0
  have TK:=adA ai n fp I0
  have kH:=Fr.refl G2 w6
  have zy:=bg.kb.size
  refine bz<|aQ<|zr<|zf cL rfl<|zl cI rfl (aI.at rfl)<|zi (i:=0) cv aH rfl rfl jS<|zf dz rfl<|zl ck rfl (pY.cells 0 _ rfl)<|cW rfl rfl<|ag ?_
  refine jg (λq:Value×Value=>[(1,q.1),(2,q.2),(3,.pointer (some ⟨br,0,none⟩)),(4,.pointer (some ⟨w.heap.size,0,none⟩)),(8,.pointer (some ⟨w1.heap.size,0,none⟩)),(9,.pointer (some ⟨w4.heap.size,0,none⟩)),(10,.int .i64 (e.from:Int)),(11,.int .i64 ((e.from+e.kids.length:Nat):Int))]) (λq ww=>Fr G2 w6 G2 ww∧jw G2 w ww br ai (nF ai n e) gb w1.heap.size (.slice (some ⟨gb,0,none⟩) e.av.au.length jd) (mc (wH ai n e) [] e)∧bI G2 ww q.1 ((jT ai ρ n e).map Prod.fst)∧bI G2 ww q.2 ((jT ai ρ n e).map Prod.snd)) ?_ ?_
  refine zc rfl (λh4=>?_) (λh4=>?_)
  obtain⟨nf,nx,tA,tB,eb,rfl⟩:=IU bD (jH.symm.trans h4)
  have wJ:(Ex.fn nf nx tA tB eb).n=3+tA.n+tB.n+eb.n:=rfl
  have hmul:(Ex.fn nf nx tA tB eb).n*(ai.length+2)=3*(ai.length+2)+tA.n*(ai.length+2)+tB.n*(ai.length+2)+eb.n*(ai.length+2):=by rw[wJ,Nat.add_mul,Nat.add_mul,Nat.add_mul]
  have I1:(Ex.fn nf nx tA tB eb).av.au.length=6:=rfl
  refine zr<|zm<|aC (MJ ai n om iE br G2 w6 bg.rn) ?_
  rintro v7 w7 ⟨iT,cw⟩
  have pb:=cw.size
  have bc:=bc.aL cw (bg.ob);have fQ:=fQ.aL cw (bg.ob);have eZ:=eZ.aL cw (bg.ob);have aI:=aI.aL cw (bg.ob);have cT:=cT.aL cw (bg.ob);have kH:=kH.aL cw bg.ob
  obtain⟨rfl,ri⟩:=iT
  have bg:=bg.call ri cw
  refine zA<|ag<|zr<|zm<|aC (MJ ai (bK cx ai n+1) om iE br G2 w7 bg.rn) ?_
  rintro v8 w8 ⟨p3,cu⟩
  have Ay:=cu.size
  have bc:=bc.aL cu (bg.ob);have fQ:=fQ.aL cu (bg.ob);have eZ:=eZ.aL cu (bg.ob);have aI:=aI.aL cu (bg.ob);have cT:=cT.aL cu (bg.ob);have kH:=kH.aL cu bg.ob
  obtain⟨rfl,ri⟩:=p3
  have bg:=bg.call ri cu
  refine zA<|ag<|aQ ?_
  apply mq ei 5 (rA 103 5) (rA 103 5) [[],[0],[],[2],[1]] [It.v _,It.v _,It.v _,It.v _,It.v _] de rfl
  intro wd aB
  refine vc (λ_ _ _=>zf cL rfl pv) ?_
  refine vk aB (λx w9 aG=>?_) ?_
  have cT:=cT.ext aG
  refine zl cI rfl (cT.at rfl) ?_
  exact pv
  refine eI ?_
  refine vk aB (λx w9 aG=>?_) ?_
  refine aC (zS _ w9) ?_
  rintro v10 cM ⟨rm,bU⟩
  have B8:=bU.size
  obtain rfl:=rm
  exact pk bU
  refine vk aB (λx w9 aG=>?_) ?_
  refine zi (i:=1) cv aH rfl rfl ((show 1<6 from om)) ?_
  exact pv
  exact trivial
  intro x j1 eS
  have bc:=bc.ext eS;have fQ:=fQ.ext eS;have eZ:=eZ.ext eS;have aI:=aI.ext eS;have cT:=cT.ext eS;have kH:=kH.ext eS;have bg:=bg.ext eS
  change OW _ _ _ _ _ (aM (aN _ x _) (zZ 103 [_,_,_,_,_])) _
  refine sP (i:=1) (vs:=[str (dj cx (bK cx ai n)),.slice none 0 0]) (row:=(bZ (dj cx (bK cx ai n))).enc) aH rfl rfl rfl rfl rfl bg.own bg.cZ bg.mem.1 (by rw[iG];omega) rfl (oT _) (ML _) ?_
  intro pe jC rW eu
  rw[sR] at eu
  have bc:=bc.aL jC bg.jA;have fQ:=fQ.aL jC bg.jA;have eZ:=eZ.aL jC bg.jA;have aI:=aI.aL jC bg.jA;have cT:=cT.aL jC bg.jA;have kH:=kH.aL jC bg.jA
  have bg:=bg.store jC eu
  refine ag<|aQ ?_
  apply mq ei 5 (rA 108 5) (rA 108 5) [[],[0],[],[2],[1]] [It.v _,It.v _,It.v _,It.v _,It.v _] de rfl
  intro wd aB
  refine vc (λ_ _ _=>zf cL rfl pv) ?_
  refine vk aB (λx oc jl=>?_) ?_
  have cT:=cT.ext jl
  refine zl cI rfl (cT.at rfl) ?_
  exact pv
  refine eI ?_
  refine vk aB (λx oc jl=>?_) ?_
  refine aC (zS _ oc) ?_
  rintro v51 lO ⟨adP,ly⟩
  have alJ:=ly.size
  obtain rfl:=adP
  exact pk ly
  refine vk aB (λx oc jl=>?_) ?_
  refine zi (i:=2) cv aH rfl rfl ((show 2<6 from om)) ?_
  exact pv
  exact trivial
  intro x sS rk
  have bc:=bc.ext rk;have fQ:=fQ.ext rk;have eZ:=eZ.ext rk;have aI:=aI.ext rk;have kH:=kH.ext rk;have bg:=bg.ext rk
  change OW _ _ _ _ _ (aM (aN _ x _) (zZ 108 [_,_,_,_,_])) _
  refine sP (i:=2) (vs:=[str (dj cx (bK cx ai (bK cx ai n+1))),.slice none 0 0]) (row:=(bZ (dj cx (bK cx ai (bK cx ai n+1)))).enc) aH rfl rfl rfl rfl rfl bg.own bg.cZ bg.mem.1 (by rw[iG];rw[List.length_set];omega) rfl (oT _) (ML _) ?_
  intro j3 tR rW eu
  rw[sR] at eu
  have bc:=bc.aL tR bg.jA;have fQ:=fQ.aL tR bg.jA;have eZ:=eZ.aL tR bg.jA;have aI:=aI.aL tR bg.jA;have kH:=kH.aL tR bg.jA
  have bg:=bg.store tR eu
  refine ag<|aQ ?_
  have zy:=bg.kb.size
  obtain⟨b1,fY,gX,gY,e1,bC,dd⟩:=fI bc (i:=1) om
  cases e1
  obtain⟨b2,ni,jb,jc,e2,bX,et⟩:=fI bc (i:=2) om
  cases e2
  apply kc ei G2 15 (rA 113 15) (rA 113 15) [[],[],[0,1],[],[3],[4],[5],[6],[],[8],[9],[10],[11],[7,12],[2,13]] [Ie.p (fun(G:List Nat) (v:Value) (ww:World)=>∃bb,v= .slice (some ⟨bb,0,none⟩) 0 0∧w.heap.size<=bb∧fg G ww bb #[] 9),Ie.v _,Ie.e 0,Ie.v _,Ie.v _,Ie.v _,Ie.v _,Ie.v _,Ie.v _,Ie.v _,Ie.v _,Ie.v _,Ie.v _,Ie.p (fun(G:List Nat) (v:Value) (ww:World)=>bI G ww v [nf,nx]),Ie.e 1] [2,14] [fun(G:List Nat) (vs:List Value) (ww:World)=>G=G2∧jw G2 w ww br ai (bK cx ai (bK cx ai n+1)+1) gb w1.heap.size (.slice (some ⟨gb,0,none⟩) (Ex.fn nf nx tA tB eb).av.au.length jd) ((((Ex.fn nf nx tA tB eb).av.au.set 1 (bZ (dj cx (bK cx ai n)))).set 2 (bZ (dj cx (bK cx ai (bK cx ai n+1)))))),fun(G:List Nat) (vs:List Value) (ww:World)=>(∀q,q∈G2->q∈G)∧jw G w ww br ai (bK cx ai (bK cx ai n+1)+1) gb w1.heap.size (.slice (some ⟨gb,0,none⟩) (Ex.fn nf nx tA tB eb).av.au.length jd) ((((Ex.fn nf nx tA tB eb).av.au.set 1 (bZ (dj cx (bK cx ai n)))).set 2 (bZ (dj cx (bK cx ai (bK cx ai n+1))))))∧LP w.heap.size G G2 ww 9 (vs.getD 0 undef) (ρ.map Prod.fst),fun(G:List Nat) (vs:List Value) (ww:World)=>G=G2∧jw G2 w ww br ai (bK cx ai (bK cx ai n+1)+1) gb w1.heap.size (.slice (some ⟨gb,0,none⟩) (Ex.fn nf nx tA tB eb).av.au.length jd) ((((Ex.fn nf nx tA tB eb).av.au.set 1 (bZ (dj cx (bK cx ai n)))).set 2 (bZ (dj cx (bK cx ai (bK cx ai n+1))))))∧bI G2 ww (vs.getD 1 undef) ((ρ.map Prod.fst)++[nf,nx])] de rfl bg.cZ (by exact⟨λG v w G' w' ⟨bb,e,h0,h⟩ k=>⟨bb,e,h0,h.go k⟩,λG v w G' w' h k=>bI.go h k,trivial⟩) (by exact⟨λG vs w w' ⟨h1,h2⟩ k=>⟨h1,h2.ext k⟩,λG vs w w' ⟨h1,h2,h3⟩ k=>⟨h1,h2.ext k,h3.ext k⟩,λG vs w w' ⟨h1,h2,h3⟩ k=>⟨h1,h2.ext k,h3.ext k⟩,trivial⟩) (⟨rfl,bg⟩)
  refine vf (λx od Az aW sU yk=>?_) ?_
  refine gN bh bA ?_
  intro B9 vj adQ adR
  exact ff vj (⟨_,rfl,(by have h1:=sU.aO.size;omega),adQ.o yk⟩)
  refine cR ?_
  refine ve 0 (λx od Az aW sU yk hJ hlen=>?_) ?_
  have bo:=jP hlen
  subst bo
  have fQ:=fQ.go sU
  intro v0 d0
  obtain⟨bb,e6,B6,gw⟩:=d0
  subst e6
  obtain⟨cz,bg⟩:=hJ
  obtain rfl:G2=Az:=cz.symm
  refine FT (N:=w.heap.size) bh bA rfl rfl rfl rfl rfl rfl gw B6 fQ bg.cZ om ?_
  intro v9 B9 G9 kU vh df fh pZ
  exact fe G9 df fh (⟨kU,bg.out df pZ ⟨gA.1,gA.2.1,gA.2.2⟩ ⟨kU _ gA.1,kU _ gA.2.1,kU _ gA.2.2⟩ fh,vh⟩)
  refine vf (λ_ _ _ _ _ _=>zf cL rfl fv) ?_
  refine vf (λx od Az aW sU yk=>?_) ?_
  have aI:=aI.go sU
  refine zl cI rfl (aI.at rfl) ?_
  exact fv
  refine vf (λ_ _ _ _ _ _=>zi (i:=1) cv aH rfl rfl ((show 1<6 from om)) fv) ?_
  refine vf (λ_ _ _ _ _ _=>zf dz rfl fv) ?_
  refine vf (λx od Az aW sU yk=>?_) ?_
  have bC:=bC.go sU
  refine zl ck rfl (bC.cells 0 _ rfl) ?_
  exact fv
  refine vf (λ_ _ _ _ _ _=>zf cL rfl fv) ?_
  refine vf (λx od Az aW sU yk=>?_) ?_
  have aI:=aI.go sU
  refine zl cI rfl (aI.at rfl) ?_
  exact fv
  refine vf (λ_ _ _ _ _ _=>zi (i:=2) cv aH rfl rfl ((show 2<6 from om)) fv) ?_
  refine vf (λ_ _ _ _ _ _=>zf dz rfl fv) ?_
  refine vf (λx od Az aW sU yk=>?_) ?_
  have bX:=bX.go sU
  refine zl ck rfl (bX.cells 0 _ rfl) ?_
  exact fv
  refine vf (λx od Az aW sU yk=>?_) ?_
  refine ln bh bA rfl rfl rfl rfl ?_
  intro B9 vj adS adR
  exact ff vj (aY.eD [nf,nx] adS (λhx=>by have:=yk _ hx;omega))
  refine ve 1 (λx od Az aW sU yk hJ hlen=>?_) ?_
  obtain⟨q0,bo⟩:=jQ hlen
  subst bo
  intro wL d13
  obtain⟨kx,bg,Gc⟩:=hJ
  refine IH bh bA rfl rfl rfl rfl rfl rfl Gc d13 bg.cZ kx so ?_
  intro v9 B9 j4 df fh pZ
  exact fe G2 df fh (⟨rfl,bg.out df pZ ⟨gA.1,gA.2.1,gA.2.2⟩ ⟨gA.1,gA.2.1,gA.2.2⟩ fh,j4⟩)
  exact trivial
  intro x MQ adT aW TL alK hJ hlen
  obtain⟨q0,q1,bo⟩:=lM hlen
  subst bo
  intro v0 d0
  intro wL d13
  have eZ:=eZ.go TL;have kH:=kH.go TL
  change OW _ _ _ _ _ (aM (aN _ x _) (zZ 113 [_,_,_,_,_,_,_,_,_,_,_,_,_,_,_])) _
  obtain⟨cz,bg,rl⟩:=hJ
  obtain rfl:G2=adT:=cz.symm
  refine zA<|ag<|db<|gN bh bA ?_
  intro adO DY MR alL
  have dB:=bg.cZ
  have zy:=bg.kb.size
  have bg:=bg.ext DY;have eZ:=eZ.ext DY;have kH:=kH.ext DY;have rl:=rl.ext DY
  have tS:=MR.o dB
  refine zm<|FT (N:=w.heap.size) bh bA rfl rfl rfl rfl rfl rfl tS om eZ bg.cZ om ?_
  intro v9 alM G9 kU vh df fh pZ
  have bg:=bg.out df pZ ⟨gA.1,gA.2.1,gA.2.2⟩ ⟨kU _ gA.1,kU _ gA.2.1,kU _ gA.2.2⟩ fh
  have kH:=kH.go df;have rl:=rl.go df
  refine zm<|zm<|ln bh bA rfl rfl rfl rfl ?_
  intro alN I2 adU alO
  have kH:=kH.ext I2;have rl:=rl.ext I2;have vh:=vh.ext I2;have bg:=bg.ext I2
  refine IH bh bA rfl rfl rfl rfl rfl rfl vh (aY.eD [(dj cx (bK cx ai n)),(dj cx (bK cx ai (bK cx ai n+1)))] adU (λhx=>by have:=fh _ hx;omega)) bg.cZ kU (show(ρ.map Prod.snd).length+2<100000000 from om) ?_
  intro v10 alP wM df DZ pZ
  have bg:=bg.out df pZ ⟨gA.1,gA.2.1,gA.2.2⟩ ⟨gA.1,gA.2.1,gA.2.2⟩ DZ
  have kH:=kH.go df;have rl:=rl.go df
  refine zA<|ag ?_
  exact⟨(_,_),⟨rfl,rfl,rfl,rfl,rfl,rfl,rfl,rfl⟩,⟨kH,bg,by show bI G2 _ _ ((ρ++_).map Prod.fst);rw[List.map_append];exact rl,by show bI G2 _ _ ((ρ++_).map Prod.snd);rw[List.map_append];exact wM⟩⟩
  have rh:e.head≠il:=λhh=>h4 (jH.trans hh)
  have sq:=adB ai n bD fp rh
  have yl:=Tz fp I0 rh
  refine bz ?_
  exact⟨(_,_),⟨rfl,rfl,rfl,rfl,rfl,rfl,rfl,rfl⟩,⟨kH,by rw[sq.2,sq.1,show mc [bZ e.head] [] e=e.av.au from by rw[yl];simp[mc]];exact bg,by rw[Tw ai ρ n rh];exact fQ,by rw[Tw ai ρ n rh];exact eZ⟩⟩
  intro gu w7 e7 hI
  obtain⟨vf2,BN⟩:=gu
  dsimp only at hI⊢
  obtain⟨kH,bg,fQ,eZ⟩:=hI
  have bc:=bc.go kH;have aI:=aI.go kH;have cT:=cT.go kH
  refine aQ<|zr<|zm<|zA<|ag<|cQ ?_
  refine fW (λk:Nat=>[(1,vf2),(2,BN),(3,.pointer (some ⟨br,0,none⟩)),(4,.pointer (some ⟨w.heap.size,0,none⟩)),(8,.pointer (some ⟨w1.heap.size,0,none⟩)),(9,.pointer (some ⟨w4.heap.size,0,none⟩)),(11,.int .i64 ((e.from+e.kids.length:Nat):Int)),(15,.int .i64 ((e.from+k:Nat):Int))]) (λk ww=>Fr G2 w7 G2 ww∧jw G2 w ww br ai ((kG ai (jT ai ρ n e) e (nF ai n e) k).2) gb w1.heap.size (.slice (some ⟨gb,0,none⟩) e.av.au.length jd) (mc (wH ai n e) (kG ai (jT ai ρ n e) e (nF ai n e) k).1 e)∧k<=e.kids.length) (λk=>e.kids.length-k) (0) (⟨rfl,rfl,rfl,rfl,rfl,rfl,rfl,rfl⟩) (⟨Fr.refl _ _,bg,om⟩) ?_
  intro gg w8 e8 hI
  obtain⟨pg,bg,hk⟩:=hI
  have bc:=bc.go pg;have fQ:=fQ.go pg;have eZ:=eZ.go pg;have aI:=aI.go pg;have cT:=cT.go pg
  refine aQ<|zr<|zm<|zm<|fy rfl rfl rfl<|ag<|zc rfl (λh5=>?_) (λh5=>?_)
  have iu:gg<e.kids.length:=om
  have sJ:=wG gg iu
  obtain⟨b1,fY,gX,gY,e1,bC,dd⟩:=fI bc (i:=e.from+gg) om
  cases e1
  have dd:=dd.eq sJ
  have tQ:=Fg bD iu
  have gP:=MI ai (jT ai ρ n e) e (nF ai n e) gg
  have Ax:=TE ai (jT ai ρ n e) e (nF ai n e) gg om
  have Bd:=yf iu
  have lB:=adD ai ρ n fp I0 iu oA oR Ax.2
  refine bz<|aQ<|cQ ?_
  apply kc ei G2 13 (rA 141 13) (rA 141 13) [[],[0],[],[],[3],[],[4,5],[6],[],[],[],(rA 7 4),[1,2]] [Ie.v _,Ie.v _,Ie.v _,Ie.v _,Ie.v _,Ie.v _,Ie.v _,Ie.v _,Ie.v _,Ie.v _,Ie.v _,Ie.e 0,Ie.v _] [11] [fun(G:List Nat) (vs:List Value) (ww:World)=>G=G2∧jw G2 w ww br ai ((kG ai (jT ai ρ n e) e (nF ai n e) gg).2) gb w1.heap.size (.slice (some ⟨gb,0,none⟩) e.av.au.length jd) (mc (wH ai n e) (kG ai (jT ai ρ n e) e (nF ai n e) gg).1 e),fun(G:List Nat) (vs:List Value) (ww:World)=>G=G2∧jw G2 w ww br ai ((kG ai (jT ai ρ n e) e (nF ai n e) (gg+1)).2) gb w1.heap.size (.slice (some ⟨gb,0,none⟩) e.av.au.length jd) (mc (wH ai n e) (kG ai (jT ai ρ n e) e (nF ai n e) gg).1 e)∧bS G2 ww (vs.getD 0 undef) (cg ai (fJ e gg) (jT ai ρ n e) (kG ai (jT ai ρ n e) e (nF ai n e) gg).2).1.av] de rfl bg.cZ (by exact trivial) (by exact⟨λG vs w w' ⟨h1,h2⟩ k=>⟨h1,h2.ext k⟩,λG vs w w' ⟨h1,h2,h3⟩ k=>⟨h1,h2.ext k,h3.ext k⟩,trivial⟩) (⟨rfl,bg⟩)
  refine vf (λ_ _ _ _ _ _=>zf cL rfl fv) ?_
  refine vf (λx w9 G9 aW df lf=>?_) ?_
  have cT:=cT.go df
  refine zl cI rfl (cT.at rfl) ?_
  exact fv
  refine cR ?_
  refine vf (λ_ _ _ _ _ _=>zf cL rfl fv) ?_
  refine vf (λx w9 G9 aW df lf=>?_) ?_
  have aI:=aI.go df
  refine zl cI rfl (aI.at rfl) ?_
  exact fv
  refine cR ?_
  refine vf (λ_ _ _ _ _ _=>zi cv aH rfl rfl om fv) ?_
  refine vf (λx w9 G9 aW df lf=>?_) ?_
  have bC:=bC.go df
  refine zL bT aH rfl bC.cells rfl ?_
  exact fv
  refine cR ?_
  refine cR ?_
  refine cR ?_
  refine ve 0 (λx w9 G9 aW df lf hJ hlen=>?_) ?_
  have bo:=jP hlen
  subst bo
  have fQ:=fQ.go df;have eZ:=eZ.go df;have dd:=dd.go df
  obtain⟨cz,bg⟩:=hJ
  obtain rfl:G2=G9:=cz.symm
  refine aC (ih (fJ e gg) om om tQ.1 (jT ai ρ n e) (kG ai (jT ai ρ n e) e (nF ai n e) gg).2 lB.1 lB.2 _ _ _ br G2 w9 dd fQ eZ bg.rn bg.cZ) ?_
  rintro B4 cM ⟨⟨dR,Ga⟩,aG⟩
  exact fe G2 (Fr.of aG bg.ob) ((λq hq=>lL (bg.cZ q hq) aG.size)) (⟨rfl,bg.call Ga aG,dR⟩)
  refine vf (λ_ _ _ _ _ _=>zi cv aH rfl rfl om fv) ?_
  exact trivial
  intro x j1 D0 aW wN Gd hJ hlen
  obtain⟨q0,bo⟩:=jQ hlen
  subst bo
  have pg:=pg.go wN
  change OW _ _ _ _ _ (aM (aN _ x _) (zZ 141 [_,_,_,_,_,_,_,_,_,_,_,_,_])) _
  obtain⟨cz,bg,dR⟩:=hJ
  obtain rfl:G2=D0:=cz.symm
  obtain⟨a7,n7,c7,e7,_,_⟩:=dM dR
  have e8:q0=_:=e7
  subst e8
  have yV:(mc (wH ai n e) (kG ai (jT ai ρ n e) e (nF ai n e) gg).1 e).set (e.from+gg) (cg ai (fJ e gg) (jT ai ρ n e) (kG ai (jT ai ρ n e) e (nF ai n e) gg).2).1.av=mc (wH ai n e) (kG ai (jT ai ρ n e) e (nF ai n e) (gg+1)).1 e:=(by have:=TA (pre:=(wH ai n e)) (acc:=(kG ai (jT ai ρ n e) e (nF ai n e) gg).1) (e:=e) (y:=(cg ai (fJ e gg) (jT ai ρ n e) (kG ai (jT ai ρ n e) e (nF ai n e) gg).2).1) om;rw[TK,gP] at this;exact this)
  refine sP (i:=e.from+gg) (vs:=[str (cg ai (fJ e gg) (jT ai ρ n e) (kG ai (jT ai ρ n e) e (nF ai n e) gg).2).1.av.az,.slice a7 n7 c7]) (row:=(cg ai (fJ e gg) (jT ai ρ n e) (kG ai (jT ai ρ n e) e (nF ai n e) gg).2).1.av.enc) aH rfl rfl rfl rfl (Nat.zero_add _) bg.own bg.cZ bg.mem.1 (by rw[iG,TC om,TK];omega) rfl (oT _) (show bS G2 _ (.agg #[_,_]) _ from dR).kO ?_
  intro pe jC rW eu
  rw[sR,yV] at eu
  have pg:=pg.aL jC bg.jA
  have bg:=bg.store jC eu
  refine ag<|db<|zm<|eF rfl rfl rfl (wrap_i64 _ om om)<|zA<|ag ?_
  exact⟨gg+1,⟨rfl,rfl,rfl,rfl,rfl,rfl,rfl,congrArg (Value.int .i64) om⟩,⟨pg,bg,om⟩,om⟩
  have gH:gg=e.kids.length:=by omega
  subst gH
  have gP:=MI ai (jT ai ρ n e) e (nF ai n e) e.kids.length
  refine gB<|gC rfl<|zr<|zL bT aH rfl cT.all rfl<|du aH rfl rfl rfl bg.bx rfl ?_
  intro w9 aG dv mn
  subst F8
  obtain⟨rX,rY,vi⟩:=bg.fin hG B1.mem aG
  rw[TD gP,<-TJ.1] at rX
  rw[<-TJ.2] at rY
  refine ag<|aV ?_
  exact⟨[_],gO bT aH rfl dv rfl,⟨rX,rY⟩,vi⟩
theorem adW {ps:List aA} (h:k<ps.length):jO (ps.take k)+fN (nth ps k)<=jO ps:=by
 have h1:=Rq (iI h)
 have h2:=SY (ps:=ps) (k+1)
 omega
theorem adX:∀(m:Nat) (t:aA),t.size<=m->t.size<=1000000->WF t->∀(l:List aj),l.length+fN t<=100000->∀(v vl:Value) (g:Option Nat) (w:World),
  bS g.toList w v t->dh w 9 vl g l->
  cj Tryz.prog 137 [v,vl] w λr w'=>∃g',dh w' 9 r g' (lJ t l)∧Fr g.toList w g'.toList w':=by
 intro m
 induction m with
 |zero=>intro t h;have:=xC t;omega
 |succ m ih=>
  intro t hm mU dx l hl v vl g w hv gJ
  obtain⟨a,n,c,rfl,hn,bc⟩:=dM hv
  subst hn
  obtain⟨al,cl,rfl⟩:=kt gJ
  have pX:=gJ.lt
  have oN:=gJ.rs
  have hR:=Fr.refl g.toList w
  have pE:=xB t
  refine cV [.tmp 4] 34 Tryz.func137 rfl X6 rfl rfl ?_
  refine zr<|fE rfl ?_
  intro w1 aK aZ dY
  have hR:=hR.ext aK;have bc:=bc.ext aK;have gJ:=gJ.ext aK;have oN:=oN.ext aK
  refine zA<|ag<|aQ<|zr<|zf dz rfl<|zl ck rfl (aZ.at rfl)<|jG rfl rfl rfl rfl<|ag<|zc rfl (λh1=>?_) (λh1=>?_)
  have hq:lJ t l=if t.az∈l then l else l++[t.az]:=by rw[RF,iP h1]
  refine aQ<|zr<|zm<|zf dz rfl<|zl ck rfl (aZ.at rfl)<|aC (zR l om t.az _ _ w1 oN) ?_
  rintro v2 w2 ⟨dA,aq⟩
  have eE:=aq.size
  have hR:=hR.ext aq;have gJ:=gJ.ext aq;have aZ:=aZ.ext aq
  obtain rfl:=dA
  refine ag<|zc rfl (λh2=>?_) (λh2=>?_)
  have Aw:t.az∈l:=h2
  refine zr<|zm<|zA<|ag<|aV ?_
  exact⟨_,rfl,g,by rw[hq,iP Aw];exact gJ,hR⟩
  have Aw:¬t.az∈l:=h2
  refine bz<|zr<|zm<|zf dz rfl<|zl ck rfl (aZ.at rfl)<|gD bh bA rfl rfl ?_
  intro w3 aJ MS iH
  have hR:=hR.ext aJ;have gJ:=gJ.ext aJ
  refine Sn bh bA rfl rfl rfl rfl rfl rfl gJ MS om ?_
  intro v5 g5 w4 lv aF nj
  have hR:=hR.go nj
  refine zA<|ag<|aV ?_
  exact⟨_,rfl,g5,by rw[hq,iN Aw];exact lv,hR⟩
  have hq:lJ t l=o4 t.au l:=(by rw[RF,iN h1])
  have TM:fN t=jO t.au:=(by rw[Lp,iN h1])
  have aZ:=aZ.o pX
  refine bz<|aQ<|zr<|zA<|ag<|cQ ?_
  refine fW (λq:Nat×Value×Option Nat=>[(1,q.2.1),(2,.pointer (some ⟨w.heap.size,0,none⟩)),(5,.int .i64 (q.1:Int))]) (λq w'=>Fr g.toList w q.2.2.toList w'∧Fr g.toList w1 q.2.2.toList w'∧dh w' 9 q.2.1 q.2.2 (o4 (t.au.take q.1) l)∧q.1<=t.au.length) (λq=>t.au.length-q.1) ((0,.slice al l.length cl,g)) (⟨rfl,rfl,rfl⟩) (⟨hR,Fr.refl _ _,gJ,sm⟩) ?_
  intro gg w2 e2 hI
  obtain⟨k,vl,gl⟩:=gg
  dsimp only at hI⊢
  obtain⟨hR,kv,gJ,hk⟩:=hI
  have aZ:=aZ.go kv;have bc:=bc.go kv
  refine aQ<|zr<|zm<|zf cL rfl<|zl cI rfl (aZ.at rfl)<|dX cv rfl<|fy rfl rfl rfl<|ag<|zc rfl (λh3=>?_) (λh3=>?_)
  have iu:k<t.au.length:=om
  obtain⟨b1,fY,gX,gY,e1,bC,dd⟩:=fI bc iu
  subst e1
  have dQ:=lY iu
  have bg:=ab7 (iI iu) l
  have Bw:=LC (t.au.take k) l
  have D1:=adW iu
  refine bz<|aQ<|cQ<|db<|zf cL rfl<|zl cI rfl (aZ.at rfl)<|zm<|zi cv aH rfl rfl iu<|zL bT aH rfl bC.cells rfl<|zm<|aC (ih (nth t.au k) om om (dx.nth iu) _ om _ _ gl w2 dd gJ) ?_
  rintro MG w3 ⟨MH,IP,F4⟩
  rw[<-bg] at IP
  refine zA<|ag<|db<|zm<|eF rfl rfl rfl (wrap_i64 _ om om)<|zA<|ag ?_
  exact⟨(k+1,MG,MH),⟨rfl,rfl,rfl⟩,⟨hR.go F4,kv.go F4,IP,by simp;omega⟩,by simp;omega⟩
  have gH:k=t.au.length:=by omega
  subst gH
  refine gB<|gC rfl<|zr<|zm<|zA<|ag<|aV ?_
  exact⟨_,rfl,gl,by rw[hq,<-List.take_length (l:=t.au)];exact gJ,hR⟩
theorem adY (ee:Ex) (hn:ee.n<=120) (bD:ee.ok) (v:Value) (L:List Nat) (w:World) (lP:∀x,x∈L->x<w.heap.size) (hv:bS L w v ee.av):
  cj Tryz.prog 136 [v] w λr w'=>(∃tv,r= .tuple #[tv,.bool (qq ee).isSome]∧bS L w' tv (cg (cE ee [] []) ee [] 0).1.av)∧ak [] w w':=by
 have dI:=hv
 obtain⟨a,np,c,rfl,fH,bc⟩:=dM hv
 have o7:(cE ee [] []).length<=120:=by have:=tC ee [] [];simp at this;omega
 have hmu:ee.n*((cE ee [] []).length+2)<=120*122:=Nat.mul_le_mul hn om
 have hK:=ak.refl [] w
 refine lF [.cell 2 66,.tmp 3] 23 Tryz.func136 rfl X5 rfl rfl rfl ?_
 refine zr<|fE rfl ?_
 intro w1 aK aT dY
 have hK:=hK.ext aK
 refine eA aH rfl rfl rfl ?_
 intro w2 aq aZ eM
 have hK:=hK.grow;have hK:=hK.ext aq;have aT:=aT.grow;have aT:=aT.ext aq
 refine zA<|ag<|zr<|zL bT aH rfl aT.all rfl<|gN bh bA ?_
 intro w3 aJ cG qg
 have hK:=hK.ext aJ;have aT:=aT.ext aJ;have aZ:=aZ.ext aJ
 refine gN bh bA ?_
 intro w4 aF dv mn
 have hK:=hK.ext aF;have aT:=aT.ext aF;have aZ:=aZ.ext aF
 have iH:=hK.size
 refine aC (IL 120 ee hn om bD [] [] so so _ _ _ (some _) w4 (bS.ext (bS.fresh dI (by intro x hx;simp at hx;right;omega)) hK) (cD.nil _ _ _) dv.lp) ?_
 rintro v9 w5 ⟨g9,dJ,df⟩
 have pd:=df.aO.size
 obtain⟨a9,c9,rfl⟩:=kt dJ
 have hK:=hK.since df.aO (λx hx=>.inr (by simp at hx;omega))
 have aT:=aT.aO df.aO so
 have aZ:=aZ.aO df.aO so
 have gH:=dJ.lt
 have alQ:=hK.size
 have TN:=aT.lt
 have TO:=aZ.lt
 refine j5 (ZP _ _ _ _ _) rfl rfl<|fE rfl ?_
 intro w6 bF iC lG
 have hK:=hK.ext bF;have aT:=aT.ext bF;have aZ:=aZ.ext bF;have dJ:=dJ.ext bF
 refine zA<|ag<|zr<|zL bT aH rfl aT.all rfl<|gN bh bA ?_
 intro w7 cw mw qg
 have hK:=hK.ext cw;have aT:=aT.ext cw;have aZ:=aZ.ext cw;have dJ:=dJ.ext cw;have iC:=iC.ext cw
 refine gN bh bA ?_
 intro w8 cu wO mn
 have hK:=hK.ext cu;have aT:=aT.ext cu;have aZ:=aZ.ext cu;have dJ:=dJ.ext cu;have iC:=iC.ext cu
 refine zm ?_
 have ad0:∀q,q∈g9.toList->w.heap.size<=q:=(λq hq=>by rcases df.mem q hq with h|h;(·simp at h;omega);(·omega))
 have jB:=hK.size
 have iF:w5.heap.size<w8.heap.size:=iC.lt
 have ad1:∀q,q∈g9.toList->q≠w5.heap.size∧q≠w1.heap.size:=(λq hq=>⟨λh9=>by have:=gH q hq;omega,λh9=>by rcases df.mem q hq with h|h;(·simp at h;omega);(·omega)⟩)
 refine aC (adE (cE ee [] []) om 120 ee hn om bD [] 0 so om _ _ _ w5.heap.size (w5.heap.size::w1.heap.size::L) w8 (bS.ext (bS.fresh dI (by intro q hq;simp at hq;rcases hq with h|h|h;(·right;omega);(·right;omega);(·exact .inl h))) hK) (cD.nil _ _ _) (cD.nil _ _ _) ⟨by simp,_,iC,dJ.rep (λq hq oI=>by have h1:=ad1 q (by simp[hq]);rcases mC.1 oI with h|h;(·exact h1.1 h);(·rcases mC.1 h with h|h;(·exact h1.2 h);(·have h2:=lP q h;have h3:=ad0 q (by simp[hq]);omega)))⟩ (by intro q hq;simp at hq;rcases hq with h|h|h;(·omega);(·omega);(·have:=lP q h;omega))) ?_
 rintro yj w9 ⟨⟨wP,ri⟩,kX⟩
 have TP:=kX.size
 obtain⟨nq,nu,nv,rfl,_,_⟩:=dM wP
 obtain⟨_,alR,iC,_⟩:=ri
 have hK:=hK.since kX (λq hq=>.inr (by simp at hq;omega))
 have aT:=aT.aO kX so
 have aZ:=aZ.aO kX so
 refine eA aH rfl rfl rfl ?_
 intro cM bU bP Bp
 have hK:=hK.grow;have hK:=hK.ext bU;have aZ:=aZ.grow;have aZ:=aZ.ext bU;have iC:=iC.grow;have iC:=iC.ext bU;have wP:=wP.grow;have wP:=wP.ext bU
 refine du aH rfl rfl rfl bP rfl ?_
 intro eW cK bP uC
 have hK:=hK.aL cK sx;have aZ:=aZ.aL cK sx;have iC:=iC.aL cK sx;have wP:=wP.aL cK sx
 refine ag<|aQ ?_
 refine qf ei (cP w1.heap.size ([str (cg (cE ee [] []) ee [] 0).1.av.az,.slice nq nu nv]) 66) 8 (rA 17 6++[100006,3]) (rA 17 6++[100006,3]) [[],[],[1],[2],[3],[4],[0],[5]] [λv _=>v=(.agg #[str (cg (cE ee [] []) ee [] 0).1.av.az,.slice nq nu nv]),λv _=>v=(.pointer (some ⟨w5.heap.size,0,none⟩)),λv _=>v=(.pointer (some ⟨w5.heap.size,0,none⟩)),λv _=>v=(.pointer (some ⟨w5.heap.size,0+1,none⟩)),λv _=>v=(.int .i64 ((cg (cE ee [] []) ee [] 0).2:Int)),λv _=>v=(.bool (decide (((cg (cE ee [] []) ee [] 0).2:Int)<=100))),λ_ ww=>aY ww w1.heap.size ([str (cg (cE ee [] []) ee [] 0).1.av.az,.slice nq nu nv]).toArray 66,λv _=>v=(.bool (decide (((cg (cE ee [] []) ee [] 0).2:Int)<=100)))] de (cX (cX (cX (cX (cX (cX (CY (cX trivial)))))))) (λwd aB=>?_) ?_
 refine bN ?_ ?_
 intro x vs gh e dC hd he
 replace dC:=(cP w1.heap.size ([str (cg (cE ee [] []) ee [] 0).1.av.az,.slice nq nu nv]) 66).trans aB dC
 have bP:=bP.aL dC.1 sx
 replace he:e=aM (aN _ x _) []:=he
 subst he
 refine zL bT aH rfl bP.all rfl<|ag ?_
 exact dn ((cP w1.heap.size ([str (cg (cE ee [] []) ee [] 0).1.av.az,.slice nq nu nv]) 66).refl _) rfl
 refine bN ?_ ?_
 intro x vs gh e dC hd he
 replace dC:=(cP w1.heap.size ([str (cg (cE ee [] []) ee [] 0).1.av.az,.slice nq nu nv]) 66).trans aB dC
 replace he:e=aM (aN _ x _) []:=he
 subst he
 refine zm<|ag ?_
 exact dn ((cP w1.heap.size ([str (cg (cE ee [] []) ee [] 0).1.av.az,.slice nq nu nv]) 66).refl _) rfl
 refine bN ?_ ?_
 intro x vs gh e dC hd he
 have d1:vs 1=(.pointer (some ⟨w5.heap.size,0,none⟩)):=hd
 replace dC:=(cP w1.heap.size ([str (cg (cE ee [] []) ee [] 0).1.av.az,.slice nq nu nv]) 66).trans aB dC
 replace he:e=aM (aN _ x _) [(18,vs 1)]:=he
 rw[d1] at he
 subst he
 refine di rfl<|ag ?_
 exact dn ((cP w1.heap.size ([str (cg (cE ee [] []) ee [] 0).1.av.az,.slice nq nu nv]) 66).refl _) rfl
 refine bN ?_ ?_
 intro x vs gh e dC hd he
 have d2:vs 2=(.pointer (some ⟨w5.heap.size,0,none⟩)):=hd
 replace dC:=(cP w1.heap.size ([str (cg (cE ee [] []) ee [] 0).1.av.az,.slice nq nu nv]) 66).trans aB dC
 replace he:e=aM (aN _ x _) [(19,vs 2)]:=he
 rw[d2] at he
 subst he
 refine zf HE rfl<|ag ?_
 exact dn ((cP w1.heap.size ([str (cg (cE ee [] []) ee [] 0).1.av.az,.slice nq nu nv]) 66).refl _) rfl
 refine bN ?_ ?_
 intro x vs gh e dC hd he
 have d3:vs 3=(.pointer (some ⟨w5.heap.size,0+1,none⟩)):=hd
 replace dC:=(cP w1.heap.size ([str (cg (cE ee [] []) ee [] 0).1.av.az,.slice nq nu nv]) 66).trans aB dC
 have iC:=iC.aL dC.1 sx
 replace he:e=aM (aN _ x _) [(20,vs 3)]:=he
 rw[d3] at he
 subst he
 refine zl qN rfl (iC.at rfl)<|ag ?_
 exact dn ((cP w1.heap.size ([str (cg (cE ee [] []) ee [] 0).1.av.az,.slice nq nu nv]) 66).refl _) rfl
 refine bN ?_ ?_
 intro x vs gh e dC hd he
 have d4:vs 4=(.int .i64 ((cg (cE ee [] []) ee [] 0).2:Int)):=hd
 replace dC:=(cP w1.heap.size ([str (cg (cE ee [] []) ee [] 0).1.av.az,.slice nq nu nv]) 66).trans aB dC
 replace he:e=aM (aN _ x _) [(21,vs 4)]:=he
 rw[d4] at he
 subst he
 refine qK rfl rfl rfl rfl rfl<|ag ?_
 exact dn ((cP w1.heap.size ([str (cg (cE ee [] []) ee [] 0).1.av.az,.slice nq nu nv]) 66).refl _) rfl
 refine bN ?_ ?_
 intro x vs gh e dC hd he
 have d0:vs 0=(.agg #[str (cg (cE ee [] []) ee [] 0).1.av.az,.slice nq nu nv]):=hd
 replace dC:=(cP w1.heap.size ([str (cg (cE ee [] []) ee [] 0).1.av.az,.slice nq nu nv]) 66).trans aB dC
 obtain⟨us,uX,uY⟩:=dC.2.2 ⟨_,(by rfl),aZ⟩
 replace he:e=aM (aN _ x _) [(17,vs 0)]:=he
 rw[d0] at he
 subst he
 refine du aH rfl rfl rfl uY (by rw[uX];rfl) ?_
 intro jD fK hb Ge
 refine ag ?_
 exact dn ⟨fK,λ_=>hb,λ_=>⟨_,rfl,hb⟩⟩ hb
 refine bN ?_ ?_
 intro x vs gh e dC hd he
 have d5:vs 5=(.bool (decide (((cg (cE ee [] []) ee [] 0).2:Int)<=100))):=hd
 replace dC:=(cP w1.heap.size ([str (cg (cE ee [] []) ee [] 0).1.av.az,.slice nq nu nv]) 66).trans aB dC
 replace he:e=aM (aN _ x _) [(22,vs 5)]:=he
 rw[d5] at he
 subst he
 refine zA<|ag ?_
 exact dn ((cP w1.heap.size ([str (cg (cE ee [] []) ee [] 0).1.av.az,.slice nq nu nv]) 66).refl _) rfl
 exact trivial
 intro x vs lO ly bJ
 have d0:vs 0=(.agg #[str (cg (cE ee [] []) ee [] 0).1.av.az,.slice nq nu nv]):=bJ 0 de
 have d1:vs 1=(.pointer (some ⟨w5.heap.size,0,none⟩)):=bJ 1 de
 have d2:vs 2=(.pointer (some ⟨w5.heap.size,0,none⟩)):=bJ 2 de
 have d3:vs 3=(.pointer (some ⟨w5.heap.size,0+1,none⟩)):=bJ 3 de
 have d4:vs 4=(.int .i64 ((cg (cE ee [] []) ee [] 0).2:Int)):=bJ 4 de
 have d5:vs 5=(.bool (decide (((cg (cE ee [] []) ee [] 0).2:Int)<=100))):=bJ 5 de
 have d6:aY lO w1.heap.size ([str (cg (cE ee [] []) ee [] 0).1.av.az,.slice nq nu nv]).toArray 66:=bJ 6 de
 have d7:vs 7=(.bool (decide (((cg (cE ee [] []) ee [] 0).2:Int)<=100))):=bJ 7 de
 have hK:=hK.aL ly.1 sx;have wP:=wP.aL ly.1 sx
 have aZ:=d6
 change OW _ _ _ _ [] (aM (aN _ x _) (zZ 17 [vs 0,vs 1,vs 2,vs 3,vs 4,vs 5]++[(100006,vs 6),(3,vs 7)])) _
 rw[d0,d1,d2,d3,d4,d5,d7]
 refine ag<|aV ?_
 exact⟨[_,_],⟨gO bT aH rfl aZ rfl,rfl⟩,⟨_,congrArg (λb=>Value.tuple #[_,.bool b]) (show decide (((cg (cE ee [] []) ee [] 0).2:Int)<=100)=(qq ee).isSome from by unfold qq;by_cases h:(cg (cE ee [] []) ee [] 0).2<=100;(·rw[iP h];exact dT om);(·rw[iN h];exact dF om)),wP.ji (λx hx=>by simp[hx])⟩,hK⟩
def t5:xT:=⟨151,9,66⟩
theorem ad2 (ai:List aj) (n:Nat) (hn:n<=100000) (hb:ai.length<=10000) (b:Nat) (E G:List Nat) (aX:List aj) (exprs:List aA) (w:World) (h:M5 t5 E G w b ai n aX exprs):
  cj Tryz.prog 212 [.pointer (some ⟨b,0,none⟩)] w λr w'=>(r=str (dj cy (bK cy ai n))∧M5 t5 E G w' b ai (bK cy ai n+1) aX exprs)∧ak [b] w w':=by
 have MK:=DU cy ai n
 obtain⟨vt,vn,ve,gn,ge,bj,hS⟩:=h
 have bj:aY w b [vt,.int .i64 (n:Int),vn,ve].toArray 151:=bj
 refine cV [.tmp 2] 26 Tryz.func212 rfl YQ rfl rfl ?_
 refine zr<|zA<|ag<|cQ ?_
 refine fW (λk:Nat=>[(0,.pointer (some ⟨b,0,none⟩))]) (λk w'=>ak [b] w w'∧aY w' b [vt,.int .i64 (k:Int),vn,ve].toArray 151∧ja t5 E G w' b vt vn ve gn ge ai aX exprs∧n<=k∧bK cy ai k=bK cy ai n) (λk=>bK cy ai n+1-k) n rfl (⟨ak.refl _ _,bj,hS,lR _,rfl⟩) ?_
 intro gg w1 e1 hI
 obtain⟨hK,bj,hS,hk,hq⟩:=hI
 have hle:=(oD cy ai gg).1
 refine cQ<|zr<|zm<|di rfl<|zf HD rfl<|zl qN rfl (bj.at rfl)<|aC (iM (gg+1) gg om om w1) ?_
 rintro v2 w2 ⟨dA,aq⟩
 have eE:=aq.size
 have hK:=hK.ext aq;have bj:=bj.ext aq;have hS:=hS.ext aq
 obtain rfl:=dA
 refine cm rfl rfl (by have:=Dr _ gg (lR _);simp;omega)<|zA<|ag<|zr<|zm<|zm<|di rfl<|zf HD rfl<|zl qN rfl (bj.at rfl)<|eF rfl rfl rfl (wrap_i64 _ om om)<|di rfl<|zf HD rfl<|gW (o:=1) tq rfl rfl rfl bj rfl ?_
 intro w3 aJ bj dN
 have hS:=hS.aO aJ sm
 have hK:=hK.trans aJ
 refine ag<|zr<|zm<|di rfl<|zf ZV rfl<|zl eQ rfl (bj.at rfl)<|zm<|aC (zR ai om (dj cy gg) _ _ w3 hS.ta) ?_
 rintro v4 w4 ⟨eH,aF⟩
 have gI:=aF.size
 have hK:=hK.ext aF;have bj:=bj.ext aF;have hS:=hS.ext aF
 obtain rfl:=eH
 refine eJ rfl<|ag<|zc rfl (λh1=>?_) (λh1=>?_)
 have mZ:dj cy gg∉ai:=(by simpa using h1)
 have F6:bK cy ai n=gg:=hq.symm.trans (RA mZ)
 refine zr<|zm<|zA<|ag<|aV ?_
 exact⟨_,rfl,⟨by rw[F6];rfl,_,_,_,_,_,by rw[F6];exact bj,hS⟩,hK⟩
 have mZ:dj cy gg∈ai:=(by simpa using h1)
 have hfs:=Rz mZ
 have Ra:=(oD cy ai (gg+1)).1
 refine bz ?_
 exact⟨gg+1,rfl,⟨hK,bj,hS,om,om⟩,om⟩
section
variable {τ:xT} {E G:List Nat} {w w':World} {b:Nat} {vt vn ve:Value} {gn ge:Option Nat} {ai aX:List aj} {exprs:List aA}
theorem ja.AA (h:ja τ E G w b vt vn ve gn ge ai aX exprs) {ys:List aA} (hy:eC (ge.toList++(g.toList++(E++G))) w' τ.T 2 v g (dD ys)) (k:ak (b::ge.toList) w w') (hg:g=ge∨∃x,g=some x∧w.heap.size<=x):
  ∃G',ja τ E G' w' b vt vn v gn g ai aX ys∧Fr G w G' w'∧∀x,x∈G'->x∈ge.toList++(g.toList++(E++G)):=by
 obtain⟨a1,a2,a3,a4⟩:=h.apart
 have o8:∀x,x∈g.toList->x∈ge.toList∨w.heap.size<=x:=λx hx=>by
  rcases hg with rfl|⟨y,rfl,hy⟩
  ·exact .inl hx
  ·right;simp at hx;omega
 have oe:b∈G:=h.mem.2 (.inl rfl)
 have hF:Fr G w (b::(gn.toList++g.toList)) w':=⟨k.mono λx hx=>by
  rcases mC.1 hx with rfl|hx
  ·exact oe
  ·exact h.mem.2 (by simp[hx]),λx hx=>by
  rcases mC.1 hx with rfl|hx
  ·exact .inl oe
  ·rcases mA.1 hx with hx|hx
   ·exact .inl (h.mem.2 (by simp[hx]))
   ·rcases o8 x hx with h1|h1
    ·exact .inl (h.mem.2 (by simp[h1]))
    ·exact .inr h1⟩
 have eU:∀x,x∈E++G->x<w.heap.size:=h.cZ
 have hN:(E++b::(gn.toList++g.toList)).Nodup:=RZ a1 a2 a3 (λx hx=>by
  rcases o8 x hx with h1|h1
  ·exact a4 x h1
  ·exact⟨λhe=>by have:=eU x (by simp[he]);omega,λe=>by have:=eU x (mR _ (h.mem.2 (.inl e)));omega,λe=>by have:=eU x (mR _ (h.mem.2 (by simp[e])));omega⟩)
 have rP:∀x,x∈b::(gn.toList++g.toList)->x∈ge.toList++(g.toList++(E++G)):=λx hx=>by
  rw[mA,mA,mA]
  rcases mC.1 hx with rfl|hx
  ·exact .inr (.inr (.inr oe))
  ·rcases mA.1 hx with hx|hx
   ·exact .inr (.inr (.inr (h.mem.2 (by simp[hx]))))
   ·simp[hx]
 refine⟨_,⟨h.ta.go (hF.in E),h.na.aO k (λx hx hy=>?_),hy.sub λx hx=>.inl ?_,rfl,hN,λx hx=>?_⟩,hF,rP⟩
 ·rcases mC.1 hy with rfl|hy
  ·exact(a3 x (by simp[hx])).2 rfl
  ·exact(a4 x hy).2.2 (by simp[hx])
 ·rcases mA.1 hx with hx|hx
  ·simp[hx]
  ·exact rP x hx
 ·have hs:=k.size
  rcases mA.1 hx with hx|hx
  ·exact lL (h.cZ x (by simp[hx])) hs
  ·rcases mC.1 hx with rfl|hx
   ·exact lL (h.cZ x (mR _ oe)) hs
   ·rcases mA.1 hx with hx|hx
    ·exact lL (h.cZ x (mR _ (h.mem.2 (by simp[hx])))) hs
    ·exact hy.lt x hx
theorem ja.alloc (h:ja τ E G w b vt vn ve gn ge ai aX exprs) (k:ak [] w w') (hz:w'.heap.size=w.heap.size+1):ja τ (w.heap.size::E) G w' b vt vn ve gn ge ai aX exprs:=by
 have hF:∀x,x∈(w.heap.size::E)++G->x∈E++G∨w.heap.size<=x:=λx hx=>by
  rcases mC.1 (show x∈w.heap.size::(E++G) from hx) with h1|h1
  ·right;omega
  ·exact .inl h1
 refine⟨(h.ta.fresh hF).ext k,h.na.ext k,(h.ex.sub hF).any k,h.eG,?_,λx hx=>?_⟩
 ·show(w.heap.size::(E++G)).Nodup
  rw[List.nodup_cons]
  exact⟨λhx=>by have:=h.cZ _ hx;omega,h.nd⟩
 ·rcases mC.1 (show x∈w.heap.size::(E++G) from hx) with h1|h1
  ·omega
  ·have:=h.cZ x h1;omega
theorem ja.aL (h:ja τ E G w b vt vn ve gn ge ai aX exprs) (k:ak [x] w w') (hx:x∈E):ja τ E G w' b vt vn ve gn ge ai aX exprs:=by
 obtain⟨a1,a2,a3,a4⟩:=h.apart
 have hF:Fr (E++G) w (E++G) w':=Fr.of k λy hy=>List.mem_append_left _ (by simp at hy;subst hy;exact hx)
 exact⟨h.ta.go hF,h.na.aO k (λy hy vX=>(a3 y (by simp[hy])).1 (by simp at vX;subst vX;exact hx)),h.ex.aO hF k (λy hy vX=>(a4 y hy).1 (by simp at vX;subst vX;exact hx)),h.eG,h.nd,λy hy=>lL (h.cZ y hy) k.size⟩
theorem ja.drop (h:ja τ (x::E) G w b vt vn ve gn ge ai aX exprs):ja τ E G w b vt vn ve gn ge ai aX exprs:=
 ⟨h.ta.fresh λy hy=>.inl (mK _ hy),h.na,h.ex.sub λy hy=>.inl (mK _ hy),h.eG,(List.nodup_cons.1 (show(x::(E++G)).Nodup from h.nd)).2,λy hy=>h.cZ y (mK _ hy)⟩
theorem M5.open (h:M5 τ E G w b ai n aX exprs):∃vt vn ve gn ge,aY w b [vt,.int .i64 (n:Int),vn,ve].toArray τ.M∧ja τ E G w b vt vn ve gn ge ai aX exprs:=h
theorem M5.bG (h:M5 τ E G w b ai n aX exprs):b∈G∧b<w.heap.size∧fu (E++G) w:=by
 obtain⟨_,_,_,_,_,h1,h2⟩:=h
 exact⟨h2.mem.2 (.inl rfl),h1.lt,h2.cZ⟩
theorem M5.nE (h:M5 τ E G w b ai n aX exprs) (hx:x∈E):x∉G:=by
 obtain⟨_,_,_,_,_,_,h2⟩:=h
 have:=h2.nd
 rw[List.nodup_append] at this
 exact λhg=>this.2.2 x hx x hg rfl
theorem M5.alloc (h:M5 τ E G w b ai n aX exprs) (k:ak [] w w') (hz:w'.heap.size=w.heap.size+1):M5 τ (w.heap.size::E) G w' b ai n aX exprs:=by
 obtain⟨vt,vn,ve,gn,ge,h1,h2⟩:=h
 exact⟨vt,vn,ve,gn,ge,h1.ext k,h2.alloc k hz⟩
theorem M5.aL (h:M5 τ E G w b ai n aX exprs) (k:ak [x] w w') (hx:x∈E):M5 τ E G w' b ai n aX exprs:=by
 obtain⟨vt,vn,ve,gn,ge,h1,h2⟩:=h
 exact⟨vt,vn,ve,gn,ge,h1.aO k (by simp;intro e;subst e;exact h2.apart.2.1 hx),h2.aL k hx⟩
theorem M5.drop (h:M5 τ (x::E) G w b ai n aX exprs):M5 τ E G w b ai n aX exprs:=by
 obtain⟨vt,vn,ve,gn,ge,h1,h2⟩:=h
 exact⟨vt,vn,ve,gn,ge,h1,h2.drop⟩
end
theorem eC.form {T:TypeId} (h:eC L w T sz v g rows) (hp:0<rows.length):∃b cap,v= .slice (some ⟨b,0,none⟩) rows.length cap∧g=some b:=by
 obtain⟨xs,hx,_⟩:=h.own
 rcases hx.2 with⟨_,h0,_⟩|⟨b,cap,_,e,hv,_⟩
 ·omega
 ·exact⟨b,cap,hv,e⟩
theorem eC.MT {T:TypeId} {i:Nat} (h:eC L w T 2 (.slice (some ⟨b,0,none⟩) n c) g (dD ts)) (hi:i<ts.length):
  ∃pa pc,iQ w b (0+i*2) [str (nth ts i).az,.slice pa (nth ts i).au.length pc]∧bS L w (.agg #[str (nth ts i).az,.slice pa (nth ts i).au.length pc]) (nth ts i):=by
 obtain⟨xs,eu,jm⟩:=h.own
 rcases eu.2 with⟨h0,_⟩|⟨b',cap,cur,e,hv,hb,nI,mH,cJ,ht⟩
 ·cases h0
 ·cases hv
  have iX:=h.row
  have hlen:xs.length=(dD ts).length*2:=eu.1
  have jF:∀j,j<2->∀u,xs[i*2+j]?=some u->w.cell? ⟨b,i*2+j,none⟩=some u:=λj hj u hu=>by
   rw[hb.cell]
   rw[<-ht,List.getElem?_take] at hu
   split at hu
   ·simpa using hu
   ·cases hu
  have lg:i<(dD ts).length:=by rw[iG];exact hi
  obtain⟨u0,h0⟩:∃u,xs[i*2]?=some u:=⟨xs[i*2]'om,gE om⟩
  obtain⟨u1,h1⟩:∃u,xs[i*2+1]?=some u:=⟨xs[i*2+1]'om,gE om⟩
  have hr:dP L w [u0,u1] (nth ts i).enc:=by
   have iY:=oT (nth ts i)
   refine dP.of (by rw[iY];rfl) λj v c hv hc=>?_
   have o7:(dD ts).flatten[i*2+j]?=some c:=EB iX (Kp (iI hi)) hc
   refine jm.get ?_ o7
   match j,hv with
   |0,hv=>simp at hv;subst hv;exact h0
   |1,hv=>simp at hv;subst hv;exact h1
  obtain⟨pa,pn,pc,he,hn,hp⟩:=dM (t:=nth ts i) ⟨[u0,u1],rfl,hr⟩
  have dA:[u0,u1]=[str (nth ts i).az,.slice pa pn pc]:=by
   have:=congrArg (λv=>match v with|Value.agg x=>x.toList|_=>[]) he
   simpa using this
  subst hn
  simp only[List.cons.injEq,and_true] at dA
  obtain⟨e0,e1⟩:=dA
  subst e0 e1
  refine⟨pa,pc,λj v hj=>?_,mO hp⟩
  match j,hj with
  |0,hj=>simp at hj;subst hj;have:=jF 0 om _ h0;simpa using this
  |1,hj=>simp at hj;subst hj;have:=jF 1 om _ h1;simpa using this
theorem dh.MT {T:TypeId} {i:Nat} (h:dh w T (.slice (some ⟨b,0,none⟩) n c) g xs) (hi:i<xs.length):iQ w b (0+i*1) [str (aD xs i)]:=by
 obtain⟨b1,fY,e1,hc⟩:=qR h.rs (ll hi)
 cases e1
 exact hc
theorem dh.ad3 {T:TypeId} (h:dh w T v g xs) (hp:0<xs.length):∃b cap,v= .slice (some ⟨b,0,none⟩) xs.length cap∧g=some b:=by
 rcases h.2 with⟨_,h0,_⟩|⟨b,cap,_,e,hv,_⟩
 ·omega
 ·exact⟨b,cap,hv,e⟩
def TQ:Value->Nat->Value
 | .slice (some ⟨b,o,none⟩) _ _,k=>.pointer (some ⟨b,o+k,none⟩)
 |_,_=>undef
section
variable {P:Program} {n:Nat} {ops:Array Oper} {K:Env->World->Prop} {rest:List Oper} {e:Env} {w:World} {dst:Option Nat} {ty:TypeId} {pos:String} {after:Array Edge} {g:Option (Nat×Bool)} {x y:Operand}
theorem rZ {t E bytes:Nat} {z:Value} {v:Value} {gb:Option Nat} {xs:List aj} {s:aj} {b U:Nat} (hT:P.underlying t=some (.slice E)) (hE:TI P E 1 bytes z) (hg:gate ops e g=true) (hd:dw n dst=true) (hz:Nat.beq z.cells.size 1=true) (ie:Nat.ble bytes 1000=true) 
  (hx:ev e x=v) (hy:ev e y= .slice (some ⟨b,0,none⟩) 1 1) (hO:dh w E v gb xs) (hb:aY w b [str s].toArray U) (hn:xs.length<100000000)
  (k:∀v' g' w',dh w' E v' g' (xs++[s])->ak gb.toList w w'->(g'=gb∨g'=some w.heap.size)->OW P n ops K rest (cO e dst v') w'):
  OW P n ops K (⟨dst,.call {callee:=.builtin .append,args:=#[x,y],argTypes:=#[t,t]},ty,pos,after,g⟩::rest) e w:=by
 refine BM (L:=[]) (row:=[.val (str s)]) hT hE hg hd hz ie hx hy (hO.RW _) rfl hb.all (by simp[Value.oneCell']) ⟨.val _,trivial⟩ (by rw[rM];exact hn) ?_
 intro v' g' w' ko hk kZ
 rw[RX] at ko
 exact k v' g' w' ko.vY hk.aO kZ
theorem TR {G:List Nat} {t E bytes:Nat} {z:Value} {v:Value} {gb:Option Nat} {ts:List aA} {b:Nat} {U c:Nat} (hT:P.underlying t=some (.slice E)) (hE:TI P E 2 bytes z) (hg:gate ops e g=true) (hd:dw n dst=true) (hz:Nat.beq z.cells.size 2=true) (ie:Nat.ble bytes 1000=true) 
  (hx:ev e x=v) (hy:ev e y= .slice (some ⟨b,0,none⟩) 1 c) (hO:eC G w E 2 v gb (dD ts)) (hG:fu G w) (oB:∀q,q∈gb.toList->q∈G) (hb:aY w b [str [],.slice none 0 0].toArray U) (hn:ts.length<100000000)
  (k:∀v' g' w',eC (gb.toList++(g'.toList++G)) w' E 2 v' g' (dD (ts++[.mk [] []]))->ak gb.toList w w'->(g'=gb∨g'=some w.heap.size)->Fr G w (gb.toList++(g'.toList++G)) w'->fu (gb.toList++(g'.toList++G)) w'->OW P n ops K rest (cO e dst v') w'):
  OW P n ops K (⟨dst,.call {callee:=.builtin .append,args:=#[x,y],argTypes:=#[t,t]},ty,pos,after,g⟩::rest) e w:=by
 refine BM (L:=G) (row:=(aA.mk [] []).enc) hT hE hg hd hz ie hx hy (hO.sub λq hq=>.inl ?_) (oT _) hb.all (by simp[Value.oneCell']) (bS.kO (lE oU)) (by rw[iG];exact hn) ?_
 ·rcases mA.1 hq with h|h
  ·exact oB q h
  ·exact h
 ·intro v' g' w' ko hk kZ
  have e1:dD ts++[(aA.mk [] []).enc]=dD (ts++[.mk [] []]):=by rw[Ko];rfl
  rw[e1] at ko
  have o8:∀q,q∈g'.toList->q∈gb.toList∨w.heap.size<=q:=λq hq=>by
   rcases kZ with h|h
   ·rw[h] at hq;exact .inl hq
   ·rw[h] at hq;simp at hq;right;omega
  refine k v' g' w' ko hk.aO kZ ⟨hk.aO.mono oB,λq hq=>?_⟩ λq hq=>?_
  ·rcases mA.1 hq with h|h
   ·exact .inl (oB q h)
   ·rcases mA.1 h with h|h
    ·rcases o8 q h with h|h
     ·exact .inl (oB q h)
     ·exact .inr h
    ·exact .inl h
  ·have hs:=hk.aO.size
   rcases mA.1 hq with h|h
   ·exact lL (hG q (oB q h)) hs
   ·rcases mA.1 h with h|h
    ·exact ko.lt q h
    ·exact lL (hG q h) hs
end
structure J5 (τ:xT) (E G2:List Nat) (w0:World) (b:Nat) (vt n vn ve:Value) (ge:Option Nat) (exprs:List aA) (s:aA) (b9 Ca:Bool) (G:List Nat) (v:Value) (w:World):Prop where
 box:aY w b [vt,n,vn,if Ca=true then v else ve].toArray τ.M
 cZ:fu G w
 aO:ak (b::ge.toList) w0 w
 ex:∃g',G=ge.toList++(g'.toList++(E++G2))∧eC G w τ.T 2 v g' (dD (exprs++[if b9=true then s else .mk [] []]))∧(g'=ge∨∃x,g'=some x∧w0.heap.size<=x)
section
variable {τ:xT} {E G2:List Nat} {w0 w w':World} {b:Nat} {vt n vn ve:Value} {ge:Option Nat} {exprs:List aA} {s:aA} {b9 Ca:Bool} {G:List Nat} {v:Value}
theorem J5.ext (h:J5 τ E G2 w0 b vt n vn ve ge exprs s b9 Ca G v w) (k:ak [] w w'):J5 τ E G2 w0 b vt n vn ve ge exprs s b9 Ca G v w':=
 ⟨h.box.ext k,λx hx=>lL (h.cZ x hx) k.size,h.aO.ext k,let⟨g',h1,h2,h3⟩:=h.ex;⟨g',h1,h2.any k,h3⟩⟩
theorem J5.form (h:J5 τ E G2 w0 b vt n vn ve ge exprs s b9 Ca G v w):∃bb cap,v= .slice (some ⟨bb,0,none⟩) (exprs.length+1) cap∧(bb∈G)∧(bb∈ge.toList∨w0.heap.size<=bb)∧G=ge.toList++([bb]++(E++G2))∧eC G w τ.T 2 v (some bb) (dD (exprs++[if b9=true then s else .mk [] []]))∧(some bb=ge∨∃x,some bb=some x∧w0.heap.size<=x):=by
 obtain⟨g',h1,h2,h3⟩:=h.ex
 obtain⟨bb,cap,e1,e2⟩:=h2.form (by rw[iG];simp)
 subst e2
 refine⟨bb,cap,by rw[e1,iG];simp,by rw[h1];simp,?_,h1,h2,h3⟩
 rcases h3 with h|⟨x,h,hx⟩
 ·left;rw[<-h];simp
 ·cases h;exact .inr hx
theorem J5.fill {bb:Nat} (h:J5 τ E G2 w0 b vt n vn ve ge exprs s false Ca G v w) (hG:G=ge.toList++([bb]++(E++G2))) (hb:b≠bb) (gw:bb∈ge.toList∨w0.heap.size<=bb) (hg:some bb=ge∨∃x,some bb=some x∧w0.heap.size<=x) (k:ak [bb] w w') (ho:eC G w' τ.T 2 v (some bb) (dD (exprs++[s]))):J5 τ E G2 w0 b vt n vn ve ge exprs s true Ca G v w':=
 ⟨h.box.aO k (by simpa using hb),λx hx=>lL (h.cZ x hx) k.size,h.aO.since k (λx hx=>by
  simp at hx;subst hx
  rcases gw with h|h
  ·exact .inl (by simp only[mC];right;exact h)
  ·exact .inr h),some bb,hG,by simpa using ho,hg⟩
theorem J5.field (h:J5 τ E G2 w0 b vt n vn ve ge exprs s b9 false G v w) (k:ak [b] w w') (hb:aY w' b [vt,n,vn,v].toArray τ.M) (ho:∀g',eC G w τ.T 2 v g' (dD (exprs++[if b9=true then s else .mk [] []]))->(g'=ge∨∃x,g'=some x∧w0.heap.size<=x)->b∉g'.toList) (oe:b∈G):J5 τ E G2 w0 b vt n vn ve ge exprs s b9 true G v w':=
 ⟨by simpa using hb,λx hx=>lL (h.cZ x hx) k.size,h.aO.since k (λx hx=>by simp at hx;subst hx;exact .inl sm),let⟨g',h1,h2,h3⟩:=h.ex;⟨g',h1,h2.aO (Fr.of k (by simpa using oe)) k (λx hx hy=>by simp at hy;subst hy;exact ho g' h2 h3 hx),h3⟩⟩
end
def ym (ai:List aj) (e:Ex) (n:Nat) (aX:List aj) (exprs:List aA):Prop:=n+e.n*(2*(ai.length+2))<=100000∧aX.length+4*e.n<=100000∧exprs.length+4*e.n<=100000∧ai.length<=10000
def I3 (ai:List aj) (E G:List Nat) (b:Nat) (aX:List aj) (exprs:List aA) (w:World) (q:Bs×Ex×Nat) (r:Value) (w':World):Prop:=
 ∃G',(bS (E++G') w' r q.2.1.av∧M5 t5 E G' w' b ai q.2.2 (aX++q.1.map Prod.fst) (exprs++q.1.map λp=>p.2.av))∧Fr G w G' w'
def MU (e:Ex):Prop:=∀(ai:List aj) (n:Nat) (aX:List aj) (exprs:List aA),ym ai e n aX exprs->∀(E G:List Nat) (b:Nat) (v:Value) (w:World),M5 t5 E G w b ai n aX exprs->bS (E++G) w v e.av->
 cj Tryz.prog 178 [.pointer (some ⟨b,0,none⟩),v] w (I3 ai E G b aX exprs w (bu ai e n))
def ad4 (e:Ex):Prop:=∀(ai:List aj) (n:Nat) (aX:List aj) (exprs:List aA),ym ai e n aX exprs->∀(E G:List Nat) (b:Nat) (v:Value) (w:World),M5 t5 E G w b ai n aX exprs->bS (E++G) w v e.av->
 cj Tryz.prog 204 [.pointer (some ⟨b,0,none⟩),v] w (I3 ai E G b aX exprs w (dU ai (bu ai e n)))
theorem MV {ai:List aj}:∀{e:Ex} {n:Nat} {s:aj},e.ok->(bu ai e n).2.1= .at s->s≠[]
 | .at x,n,s,h,e=>by
  have:Ex.at x=Ex.at s:=e
  cases this
  exact pH h
 | .lt x a b,n,s,h,e=>MV (e:=b) h.2.2 e
 | .un ..,n,s,h,e=>by cases e
 | .bi ..,n,s,h,e=>by cases e
 | .ite ..,n,s,h,e=>by cases e
 | .fn ..,n,s,h,e=>by cases e
theorem TT {f:Ex} (h:∀s,f= .at s->s≠[]):f.av.az≠[]↔f.jj=true:=by
 cases f with
 |«at» s=>exact⟨λ_=>rfl,λ_=>h s rfl⟩
 |_=>exact⟨λhh=>absurd rfl hh,λhh=>by cases hh⟩
theorem I4 (ai:List aj) (e:Ex) (n:Nat):(bu ai e n).1.length+1<=2*e.n:=by
 have h1:=uM ai e n
 have h2:∀bs:Bs,3*bs.length<=pK bs:=by
  intro bs
  induction bs with
  |nil=>simp[pK]
  |cons p bs ih=>rw[H7];have:=p.2.pos;simp only[lC];omega
 have h3:=h2 (bu ai e n).1
 have h4:=(bu ai e n).2.1.pos
 omega
theorem TU (bD:e.ok) (hC:MU e):ad4 e:=by
 intro ai n aX exprs hB E G b v w hM hv
 have dI:=hv
 obtain⟨a,np,c,rfl,hn,bc⟩:=dM hv
 obtain⟨Ir,MW,MX,I5⟩:=hB
 have I6:=iJ ai e n
 have MY:=I4 ai e n
 have hK:=ak.refl [] w
 have aw:=hM
 have hT:=dI
 obtain⟨q,hq⟩:∃q,q=bu ai e n:=⟨_,rfl⟩
 rw[<-hq] at I6 MY
 refine lF [.cell 4 66] 39 Tryz.func204 rfl YN rfl rfl rfl ?_
 refine zr<|fE rfl ?_
 intro w1 aK bR dY
 have hK:=hK.ext aK;have aw:=aw.ext aK;have hT:=hT.ext aK
 refine eA aH rfl rfl rfl ?_
 intro w2 aq aI eM
 have hK:=hK.grow;have hK:=hK.ext aq;have aw:=aw.alloc aq eM;have hT:=hT.grow;have hT:=hT.ext aq;have bR:=bR.grow;have bR:=bR.ext aq
 refine ag<|zr<|zm<|zL bT aH rfl bR.all rfl<|aC (hC ai n aX exprs ⟨Ir,MW,MX,I5⟩ (w1.heap.size::E) G b _ w2 aw hT) ?_
 rintro v9 w3 ⟨G1,⟨dR,qA⟩,df⟩
 rw[<-hq] at dR qA
 obtain⟨a9,n9,c9,e9,_,_⟩:=dM dR
 subst e9
 have aI:=aI.aO df.aO (aw.nE sm)
 have ad5:=aI.lt
 have hR:Fr G w G1 w3:=(Fr.of hK sm).go df
 have AB:=ak.refl [] w3
 have aw:=qA
 have hws:=hR.aO.size
 refine eA aH rfl rfl rfl ?_
 intro w4 aF bP iS
 have aw:=aw.alloc aF iS;have aI:=aI.grow;have aI:=aI.ext aF;have AB:=AB.grow;have AB:=AB.ext aF;have dR:=dR.grow;have dR:=dR.ext aF
 refine du aH rfl rfl rfl bP rfl ?_
 intro w5 aU bP jo
 have aw:=aw.aL aU sx;have aI:=aI.aL aU sx;have AB:=AB.aL aU sx;have dR:=dR.aL aU sx
 refine ag<|aQ<|zr<|zf dz rfl<|zl ck rfl (bP.at rfl)<|jG rfl rfl rfl rfl<|ag<|zc rfl (λh1=>?_) (λh1=>?_)
 have fp:q.2.1.jj=true:=((TT (λs e=>MV bD (by rw[<-hq];exact e))).1 h1)
 have MZ:dU ai q=q:=iP fp
 have hR:=hR.ext AB
 refine zr<|zL bT aH rfl bP.all rfl<|du aH rfl rfl rfl aI rfl ?_
 intro w6 bF aI dN
 have aw:=aw.aL bF sm;have dR:=dR.aL bF sm
 have hR:Fr G w G1 w6:=⟨hR.aO.since bF (λx hx=>.inr (by simp at hx;omega)),hR.mem⟩
 refine ag<|aV ?_
 exact⟨[_],gO bT aH rfl aI rfl,by rw[<-hq,MZ];exact⟨G1,⟨dR.ji (λx hx=>mK _ (mK _ hx)),aw.drop.drop⟩,hR⟩⟩
 have fp:¬q.2.1.jj=true:=(λhh=>h1 ((TT (λs e=>MV bD (by rw[<-hq];exact e))).2 hh))
 have MZ:dU ai q=(q.1++[(dj cy (bK cy ai q.2.2),q.2.1)],.at (dj cy (bK cy ai q.2.2)),bK cy ai q.2.2+1):=iN fp
 have hR:=hR.ext AB
 have aR:∃nm,nm=dj cy (bK cy ai q.2.2):=⟨_,rfl⟩
 obtain⟨nm,gK⟩:=aR
 have aR:∃x,x=aX++q.1.map Prod.fst:=⟨_,rfl⟩
 obtain⟨N1,Cb⟩:=aR
 have aR:∃x,x=exprs++q.1.map λp=>p.2.av:=⟨_,rfl⟩
 obtain⟨X1,Cc⟩:=aR
 rw[<-Cb,<-Cc] at aw
 have TV:N1.length=aX.length+q.1.length:=by rw[Cb];simp
 have hXl:X1.length=exprs.length+q.1.length:=by rw[Cc];simp
 refine bz<|zr<|zm<|aC (ad2 ai q.2.2 om I5 b _ G1 N1 X1 w5 aw) ?_
 rintro vm w6 ⟨⟨D3,qA⟩,jE⟩
 rw[<-gK] at D3
 subst D3
 have oe:=qA.bG
 have TW:=qA.nE (x:=w1.heap.size) sm
 have dR:=dR.aL jE (by intro x hx;simp at hx;subst hx;simp[oe.1])
 have aI:=aI.aO jE (by simp;intro e;subst e;exact TW oe.1)
 have I7:=qA.nE (List.mem_cons_self ..)
 have bP:=bP.aO jE (by simp;intro e;exact I7 (e▸oe.1))
 have hR:=hR.aL jE (by simpa using oe.1)
 obtain⟨vt,vn,ve,gn,ge,bj,hS⟩:=qA.open
 refine zA<|ag<|zr<|zm<|zm<|di rfl<|zf xu rfl<|zl eQ rfl (bj.at rfl)<|zm<|gD bh bA rfl rfl ?_
 intro w7 cw tT qg
 have aI:=aI.ext cw;have dR:=dR.ext cw;have bP:=bP.ext cw;have bj:=bj.ext cw;have hS:=hS.ext cw;have hR:=hR.ext cw
 refine rZ bh bA rfl rfl rfl rfl rfl rfl hS.na tT om ?_
 intro M0 g23 w8 TX cu ad7
 obtain⟨ph,pj,Gf⟩:=kt TX
 subst Gf
 obtain⟨I8,wQ,wR,sV⟩:=hS.apart
 obtain⟨G2,gi,jU⟩:=hS.R0 TX cu ad7
 have bj:=bj.aO cu (λh=>(wR b h).2 rfl)
 have aI:=aI.aO cu (λh=>(wR _ h).1 sm)
 have bP:=bP.aO cu (λh=>(wR _ h).1 sm)
 have dR:bS ((w3.heap.size::w1.heap.size::E)++G2) w8 _ q.2.1.av:=bS.go (L:=(w3.heap.size::w1.heap.size::E)++G1) dR (jU.in _)
 have hR:=hR.go jU
 have wS:b∈G2:=gi.mem.2 (.inl rfl)
 refine di rfl<|zf xu rfl<|gW (o:=2) nJ rfl rfl rfl bj rfl ?_
 intro w9 aG bj dN
 have hS:=gi.aO aG sm
 have aI:=aI.aO aG (by simp;intro e;subst e;exact wQ sm)
 have bP:=bP.aO aG (by simp;intro e;exact wQ (by simp[e]))
 have dR:=dR.aL aG (by intro x hx;simp at hx;subst hx;simp[wS]);have hR:=hR.aL aG (by simpa using wS)
 have ad8:=(List.nodup_cons.1 (show(w3.heap.size::((w1.heap.size::E)++G2)).Nodup from hS.nd)).1
 have hS:=hS.drop
 have dR:bS ((w1.heap.size::E)++G2) w9 _ q.2.1.av:=dR.ji (λx hx=>mK _ hx)
 refine ag<|aQ ?_
 obtain⟨ae,ce,e5⟩:=hS.ex.len
 subst e5
 have bP:fg ((w1.heap.size::E)++G2) w9 _ _ _:=⟨bP,ad8⟩
 have bj:aY w9 b [vt,(.int .i64 ((bK cy ai q.2.2+1:Nat):Int)),(.slice ph (N1++[nm]).length pj),(.slice ae (dD X1).length ce)].toArray 151:=bj
 have Cd:fu ((w1.heap.size::E)++G2) w9:=hS.cZ
 have eT:b∈G2:=wS
 obtain⟨I8,wQ,wR,sV⟩:=hS.apart
 have iE:=bj.lt
 apply Sg ei (((w1.heap.size::E)++G2)) 13 (rA 26 9++[100009,35,36,100012]) (rA 26 9++[100009,35,36,100012]) [[],[0],[1],[2],[],[3],[],[3,6],[5,7],[4,8],[0],[10],[7,11]] [Iu.v _,Iu.v _,Iu.v _,Iu.w 0 ((.slice ae (dD X1).length ce)),Iu.v _,Iu.v _,Iu.p (fun(G:List Nat) (v:Value) (ww:World)=>∃bb,v= .slice (some ⟨bb,0,none⟩) 1 1∧fg G ww bb [str [],.slice none 0 0].toArray 66),Iu.e 1,Iu.d (fun(vs:List Value)=>TQ (vs.getD 1 undef) ((dD X1).length*2)),Iu.u,Iu.v _,Iu.v _,Iu.u] [3,7] [fun(G:List Nat) (vs:List Value) (ww:World)=>G=((w1.heap.size::E)++G2)∧aY ww b [vt,(.int .i64 ((bK cy ai q.2.2+1:Nat):Int)),(.slice ph (N1++[nm]).length pj),(.slice ae (dD X1).length ce)].toArray 151∧ak [] w9 ww,fun(G:List Nat) (vs:List Value) (ww:World)=>G=((w1.heap.size::E)++G2)∧aY ww b [vt,(.int .i64 ((bK cy ai q.2.2+1:Nat):Int)),(.slice ph (N1++[nm]).length pj),(.slice ae (dD X1).length ce)].toArray 151∧ak [] w9 ww,fun(G:List Nat) (vs:List Value) (ww:World)=>J5 t5 (w1.heap.size::E) G2 w9 b vt (.int .i64 ((bK cy ai q.2.2+1:Nat):Int)) (.slice ph (N1++[nm]).length pj) (.slice ae (dD X1).length ce) ge X1 q.2.1.av false false G (vs.getD 1 undef) ww] (fun(S:Nat->Bool) (G:List Nat) (vs:List Value) (ww:World)=>J5 t5 (w1.heap.size::E) G2 w9 b vt (.int .i64 ((bK cy ai q.2.2+1:Nat):Int)) (.slice ph (N1++[nm]).length pj) (.slice ae (dD X1).length ce) ge X1 q.2.1.av (S 9) (S 12) G (vs.getD 1 undef) ww) de rfl Cd (by exact⟨λG v w G' w' ⟨bb,e,h⟩ k=>⟨bb,e,h.go k⟩,trivial⟩) (by exact⟨λG vs w w' ⟨h1,h2,h3⟩ k=>⟨h1,h2.ext k,h3.ext k⟩,λG vs w w' ⟨h1,h2,h3⟩ k=>⟨h1,h2.ext k,h3.ext k⟩,λG vs w w' h k=>h.ext k,trivial⟩) (by exact λS G vs w w' h k=>h.ext k) (⟨rfl,bj,ak.refl _ _⟩) (by exact λ_ _ _ h _=>h)
 refine uf (λx cM mx aW oO mf=>?_) ?_
 refine zm ?_
 exact uv
 refine uf (λx cM mx aW oO mf=>?_) ?_
 refine di rfl ?_
 exact uv
 refine uf (λx cM mx aW oO mf=>?_) ?_
 refine zf zq rfl ?_
 exact uv
 refine ue 0 (λx cM mx aW oO mf hJ hlen=>?_) ?_
 have bo:=jP hlen
 subst bo
 obtain⟨cz,bj,cB⟩:=hJ
 refine zl cI rfl (bj.at rfl) ?_
 exact uW mx (Fr.refl _ _) mf (⟨cz,bj,cB⟩)
 refine uf (λx cM mx aW oO mf=>?_) ?_
 have bP:=bP.go oO
 refine zL bT aH rfl bP.all rfl ?_
 exact uv
 refine uf (λx cM mx aW oO mf=>?_) ?_
 refine dX cv rfl ?_
 exact uv
 refine uf (λx cM mx aW oO mf=>?_) ?_
 refine gD cv aH rfl rfl ?_
 intro eW cK ad9 uC
 exact up cK (⟨_,rfl,ad9.o mf⟩)
 refine ue 1 (λx cM mx aW oO mf hJ hlen=>?_) ?_
 obtain⟨q0,bo⟩:=jQ hlen
 subst bo
 intro v6 d6
 obtain⟨bb,e6,gw⟩:=d6
 subst e6
 obtain⟨cz,bj,cB⟩:=hJ
 subst cz
 refine TR cv aH rfl rfl rfl rfl rfl rfl (hS.ext cB).ex ‹_› (λx hx=>mR _ (hS.mem.2 (by simp[hx]))) gw.jv om ?_
 intro v9 g9 eW dJ aG fL df fh
 exact uE _ df fh (⟨bj.aO aG (λh=>(sV b h).2.1 rfl),fh,cB.any.trans (aG.mono (λx hx=>mK _ hx)),g9,rfl,dJ,fL.imp id (λh=>⟨_,h,cB.size⟩)⟩)
 refine ud (λx cM mx aW S oO mf hJ hlen=>?_) ?_
 obtain⟨q0,q1,bo⟩:=lM hlen
 subst bo
 obtain⟨bb,cap,e1,r5,rL,kx,hO,uZ⟩:=J5.form hJ
 have e2:q1=_:=e1
 subst e2
 refine zi cv aH rfl rfl (by rw[iG];omega) ?_
 exact uD (ak.refl _ _) rfl
 refine uu (λx cM mx aW S oO mf hJ Ce hlen=>?_) ?_
 obtain⟨q0,q1,bo⟩:=lM hlen
 subst bo
 have dR:=dR.go oO
 have hJ:J5 t5 (w1.heap.size::E) G2 w9 b vt (.int .i64 ((bK cy ai q.2.2+1:Nat):Int)) (.slice ph (N1++[nm]).length pj) (.slice ae (dD X1).length ce) ge X1 q.2.1.av (S 9) (S 12) mx q1 cM:=hJ
 rw[Ce] at hJ
 obtain⟨bb,cap,e1,r5,rL,kx,hO,uZ⟩:=J5.form hJ
 subst e1
 refine sP (i:=(dD X1).length) (vs:=[str q.2.1.av.az,.slice a9 n9 c9]) (row:=q.2.1.av.enc) aH rfl rfl rfl rfl (Nat.zero_add _) hO ‹_› r5 (by rw[iG,iG];simp) rfl (oT _) dR.kO ?_
 intro eW cK rW eu
 rw[sR,iG] at eu
 exact uU mx (Fr.of cK (by simpa using r5)) ((λx hx=>lL (mf x hx) (ak.size cK))) (J5.fill hJ kx (by rintro rfl;rcases rL with h|h;(·exact(sV _ h).2.1 rfl);(·omega)) rL uZ cK (by have e3:(X1++[if false=true then q.2.1.av else aA.mk [] []]).set X1.length q.2.1.av=X1++[q.2.1.av]:=sm;rw[e3] at eu;exact eu))
 refine uf (λx cM mx aW oO mf=>?_) ?_
 refine di rfl ?_
 exact uv
 refine uf (λx cM mx aW oO mf=>?_) ?_
 refine zf zq rfl ?_
 exact uv
 refine uu (λx cM mx aW S oO mf hJ Ce hlen=>?_) ?_
 obtain⟨q0,q1,bo⟩:=lM hlen
 subst bo
 have hJ:J5 t5 (w1.heap.size::E) G2 w9 b vt (.int .i64 ((bK cy ai q.2.2+1:Nat):Int)) (.slice ph (N1++[nm]).length pj) (.slice ae (dD X1).length ce) ge X1 q.2.1.av (S 9) (S 12) mx q1 cM:=hJ
 rw[Ce] at hJ
 obtain⟨bb,cap,e1,r5,rL,Gg,hO,uZ⟩:=J5.form hJ
 subst e1
 have M1:=hJ.box
 refine gW (o:=3) EX rfl rfl rfl M1 rfl ?_
 intro eW cK AD rW
 exact uU mx (Fr.of cK (by rw[Gg];simp[eT])) ((λx hx=>lL (mf x hx) (ak.size cK))) (J5.field hJ cK AD (λg9 _ fL hx=>by rcases fL with h|⟨y,h,hy⟩;(·rw[h] at hx;exact(sV _ hx).2.1 rfl);(·rw[h] at hx;simp at hx;omega)) (by rw[Gg];simp[eT]))
 exact trivial
 intro x pe B3 aW rj F9 hJ hlen
 obtain⟨q0,q1,bo⟩:=lM hlen
 subst bo
 intro v6 d6
 intro v9
 intro v12
 change OW _ _ _ _ [] (aM (aN _ x _) (zZ 26 [_,_,_,_,_,_,_,_,_]++[(100009,_),(35,_),(36,_),(100012,_)])) _
 have hJ:J5 t5 (w1.heap.size::E) G2 w9 b vt (.int .i64 ((bK cy ai q.2.2+1:Nat):Int)) (.slice ph (N1++[nm]).length pj) (.slice ae (dD X1).length ce) ge X1 q.2.1.av true true B3 q1 pe:=hJ
 obtain⟨g9,kx,dJ,fL⟩:=hJ.ex
 subst kx
 obtain⟨G3,yn,fV,TZ⟩:=hS.AA dJ hJ.aO fL
 have aI:=aI.aO hJ.aO (by intro hx;rcases mC.1 hx with h|h;(·exact wQ (by simp[h]));(·exact(sV _ h).1 sm))
 have hR:=hR.go fV
 have bj:=hJ.box
 have yn:=yn
 refine ag<|zr<|zm<|aC (zS nm pe) ?_
 rintro v50 oc ⟨aea,jl⟩
 have alU:=jl.size
 obtain rfl:=aea
 have aI:=aI.ext jl;have yn:=yn.ext jl;have bj:=bj.ext jl;have hR:=hR.ext jl
 refine du aH rfl rfl rfl aI rfl ?_
 intro lO ly aI dN
 have bj:=bj.aO ly (by simp;intro e;exact wQ (by simp[e]))
 have yn:=yn.aL ly sm
 have hR:Fr G w G3 lO:=⟨hR.aO.since ly (λx hx=>.inr (by simp at hx;omega)),hR.mem⟩
 refine ag<|aV ?_
 exact⟨[_],gO bT aH rfl aI rfl,by rw[<-hq,MZ];exact⟨G3,⟨(by rw[gK];exact lE oU),(by have e1:aX++(q.1++[(dj cy (bK cy ai q.2.2),q.2.1)]).map Prod.fst=N1++[nm]:=(by rw[Cb,gK];simp);have e2:exprs++(q.1++[(dj cy (bK cy ai q.2.2),q.2.1)]).map (λp=>p.2.av)=X1++[q.2.1.av]:=(by rw[Cc];simp);show M5 t5 E G3 _ b ai _ (aX++(q.1++[(dj cy (bK cy ai q.2.2),q.2.1)]).map Prod.fst) (exprs++(q.1++[(dj cy (bK cy ai q.2.2),q.2.1)]).map (λp=>p.2.av));rw[e1,e2];exact⟨_,_,_,_,_,bj,yn.drop⟩)⟩,hR⟩⟩
theorem aeb (v:Value) (a:Option Addr) (n c:Nat) (hv:v= .slice a n c) (w:World):cj Tryz.prog 179 [v] w λr w'=>r= .agg #[str [],.slice a n c]∧ak [] w w':=by
 subst hv
 have hK:=ak.refl [] w
 refine lF [.cell 2 66] 5 Tryz.func179 rfl YA rfl rfl rfl ?_
 refine zr<|eA aH rfl rfl rfl ?_
 intro w1 aK aZ dY
 have hK:=hK.grow;have hK:=hK.ext aK
 refine ag<|zr<|zm<|j5 (Kv _ _ _ _) rfl rfl<|du aH rfl rfl rfl aZ rfl ?_
 intro w2 aq aZ eM
 have hK:=hK.aL aq sx
 refine ag<|aV ?_
 exact⟨[_],gO bT aH rfl aZ rfl,rfl,hK⟩
def aec (e:Ex):Prop:=∀(ai:List aj) (n:Nat) (aX:List aj) (exprs:List aA),ym ai e n [] []->∀(E G:List Nat) (b:Nat) (v:Value) (w:World),M5 t5 E G w b ai n aX exprs->bS (E++G) w v e.av->
 cj Tryz.prog 138 [.pointer (some ⟨b,0,none⟩),v] w λr w'=>(bS (E++G) w' r (mW ai e n).av∧M5 t5 E G w' b ai (bu ai e n).2.2 aX exprs)∧Fr G w G w'
theorem aed {bs:Bs} (h:k<bs.length):(nest (bs.drop k) e).av= .mk [] [bZ gM,bZ (bs.getD k ([],e)).1,(bs.getD k ([],e)).2.av,(nest (bs.drop (k+1)) e).av]:=by
 rw[List.drop_eq_getElem_cons h]
 have e1:bs.getD k ([],e)=bs[k]:=by simp[h]
 rw[e1];rfl
theorem aee {e:Ex} (h:k<bs.length):aD (bs.map Prod.fst) k=(bs.getD k ([],e)).1:=by simp[aD,List.getD,h]
theorem aef {e:Ex} (h:k<bs.length):nth (bs.map λp=>p.2.av) k=(bs.getD k ([],e)).2.av:=by simp[nth,List.getD,h]
theorem aeg {T:TypeId} {u1 u2 u3 u4 u5 u6 u7 u8:Value} {t1 t2 t3 t4:aA} (hb:aY w b [u1,u2,u3,u4,u5,u6,u7,u8].toArray T) (hL:b∉L) (h1:bS L w (.agg #[u1,u2]) t1) (h2:bS L w (.agg #[u3,u4]) t2) (h3:bS L w (.agg #[u5,u6]) t3) (h4:bS L w (.agg #[u7,u8]) t4):
  fG L w (.slice (some ⟨b,0,none⟩) 4 4) [t1,t2,t3,t4]:=by
 have hc:=hb.all
 refine WE b 0 4 2 (dD [t1,t2,t3,t4]) [[u1,u2],[u3,u4],[u5,u6],[u7,u8]] rfl (lR 4) hb.lt hL (Xt _) (λi vs hi=>?_) λi vs row hi hr=>?_
 ·intro j v hj
  match i,hi with
  |0,hi=>simp at hi;subst hi;have:=hc j v (by match j,hj with|0,hj=>simpa using hj|1,hj=>simpa using hj);simpa using this
  |1,hi=>simp at hi;subst hi;have:=hc (2+j) v (by match j,hj with|0,hj=>simpa using hj|1,hj=>simpa using hj);simpa using this
  |2,hi=>simp at hi;subst hi;have:=hc (4+j) v (by match j,hj with|0,hj=>simpa using hj|1,hj=>simpa using hj);simpa using this
  |3,hi=>simp at hi;subst hi;have:=hc (6+j) v (by match j,hj with|0,hj=>simpa using hj|1,hj=>simpa using hj);simpa using this
 ·match i,hi with
  |0,hi=>simp at hi;subst hi;simp[dD] at hr;subst hr;exact h1.kO
  |1,hi=>simp at hi;subst hi;simp[dD] at hr;subst hr;exact h2.kO
  |2,hi=>simp at hi;subst hi;simp[dD] at hr;subst hr;exact h3.kO
  |3,hi=>simp at hi;subst hi;simp[dD] at hr;subst hr;exact h4.kO
theorem I9 (bD:e.ok) (hC:MU e):aec e:=by
 intro ai n aX exprs hB E G b v w hM hv
 have dI:=hv
 obtain⟨a,np,c,rfl,hn,bc⟩:=dM hv
 have hB0:=hB
 obtain⟨Ir,MW,MX,I5⟩:=hB
 have I6:=iJ ai e n
 have MY:=I4 ai e n
 have hK:=ak.refl [] w
 have aw:=hM
 have hT:=dI
 obtain⟨q,hq⟩:∃q,q=bu ai e n:=⟨_,rfl⟩
 rw[<-hq] at I6 MY
 refine lF [.cell 4 66] 66 Tryz.func138 rfl X7 rfl rfl rfl ?_
 refine zr<|fE rfl ?_
 intro w1 aK bR dY
 have hK:=hK.ext aK;have aw:=aw.ext aK
 refine eA aH rfl rfl rfl ?_
 intro w2 aq aI eM
 have hK:=hK.grow;have hK:=hK.ext aq;have aw:=aw.alloc aq eM;have bR:=bR.grow;have bR:=bR.ext aq
 refine ag<|zr<|zm<|di rfl<|zf xu rfl ?_
 obtain⟨vt,vn,ve,gn,ge,bj,hS⟩:=aw.open
 obtain⟨an,cn,kf⟩:=kt hS.na
 subst kf
 obtain⟨ae,ce,BR⟩:=hS.ex.len
 subst BR
 obtain⟨I8,wQ,wR,sV⟩:=hS.apart
 have oe:b∈G:=hS.mem.2 (.inl rfl)
 have iE:=bj.lt
 have Cf:=hS
 have nk:=hK
 have M3:=ak.refl [] w2
 have ad5:=aI.lt
 have F7:=aI
 have Gh:bS ((w1.heap.size::E)++G) w2 _ e.av:=bS.ext (bS.fresh dI (by intro x hx;rcases mC.1 (show x∈w1.heap.size::(E++G) from hx) with h|h;(·right;omega);(·exact .inl h))) nk
 have alV:=dY
 have alW:=eM
 have T0:w.heap.size≠b:=(by have:=hM.bG.2.1;omega)
 have Ja:w1.heap.size≠b:=(by have:=hM.bG.2.1;omega)
 have LK:=hM.bG.2.1
 refine zl eQ rfl (bj.at rfl)<|zA<|ag<|zr<|zm<|di rfl<|zf zq rfl<|zl cI rfl (bj.at rfl)<|zA<|ag<|zr<|zm<|gN bh bA ?_
 intro w3 aJ kh iH
 have bj:=bj.ext aJ;have M3:=M3.ext aJ;have bR:=bR.ext aJ;have aI:=aI.ext aJ
 refine di rfl<|zf xu rfl<|gW (o:=2) nJ rfl rfl rfl bj rfl ?_
 intro w4 aF bj dN
 have p4:ak [b] w2 w4:=(ak.any M3).trans aF
 have kh:=kh.aO aF so
 have aI:=aI.aO aF (by simpa using Ja)
 have bR:=bR.aO aF (by simpa using T0)
 refine ag<|zr<|zm<|gN cv aH ?_
 intro w5 aU tT jo
 have bj:=bj.ext aU;have bR:=bR.ext aU;have aI:=aI.ext aU;have kh:=kh.ext aU
 refine di rfl<|zf zq rfl<|gW (o:=3) EX rfl rfl rfl bj rfl ?_
 intro w6 bF bj dN
 have p4:ak [b] w2 w6:=(p4.ext aU).trans bF
 have kh:=kh.aO bF so
 have tT:=tT.aO bF so
 have aI:=aI.aO bF (by simpa using Ja)
 have bR:=bR.aO bF (by simpa using T0)
 refine ag<|zr<|zm<|zL bT aH rfl bR.all rfl ?_
 have bj:aY w6 b [vt,.int .i64 (n:Int),.slice (some ⟨w2.heap.size,0,none⟩) 0 0,.slice (some ⟨w4.heap.size,0,none⟩) 0 0].toArray 151:=bj
 obtain⟨hSo,_,_,alX⟩:=Cf.opened p4 kh tT (lR _) om
 have aw:M5 t5 (gn.toList++(ge.toList++(w1.heap.size::E))) [b,w2.heap.size,w4.heap.size] w6 b ai n [] []:=⟨_,_,_,_,_,bj,hSo⟩
 have hTP:bS ((gn.toList++(ge.toList++(w1.heap.size::E)))++[b,w2.heap.size,w4.heap.size]) w6 _ e.av:=Gh.go ⟨p4.mono (by intro x hx;simp at hx;subst hx;simp[oe]),by intro x hx;rcases mA.1 hx with h|h;(·left;rcases mA.1 h with h|h;(·exact mR _ (Cf.mem.2 (by simp[h])));(·rcases mA.1 h with h|h;(·exact mR _ (Cf.mem.2 (by simp[h])));(·exact List.mem_append_left _ h)));(·simp at h;rcases h with h|h|h;(·left;simp[h,oe]);(·right;omega);(·right;omega))⟩
 refine aC (hC ai n [] [] hB0 (gn.toList++(ge.toList++(w1.heap.size::E))) [b,w2.heap.size,w4.heap.size] b _ w6 aw hTP) ?_
 rintro v27 w7 ⟨G2,⟨po,aw⟩,M4⟩
 rw[<-hq,List.nil_append,List.nil_append] at aw
 rw[<-hq] at po
 obtain⟨a9,n9,c9,e9,_,_⟩:=dM po
 subst e9
 have p4:=p4.since M4.aO (by intro x hx;simp at hx;rcases hx with h|h|h;(·left;simp[h]);(·right;omega);(·right;omega))
 have aI:=aI.aO M4.aO so
 have ael:∀x,x∈G2->x=b∨w2.heap.size<=x:=(by intro x hx;have h1:=p4.size;rcases M4.mem x hx with h|h;(·simp at h;omega);(·right;omega))
 have hzw:=p4.size
 refine eA aH rfl rfl rfl ?_
 intro w8 cu cG mn
 have aI:=aI.grow;have aI:=aI.ext cu;have aw:=aw.alloc cu mn;have po:=po.grow;have po:=po.ext cu;have p4:=p4.grow;have p4:=p4.ext cu
 refine du aH rfl rfl rfl cG rfl ?_
 intro w9 aG cG dN
 have aI:=aI.aL aG sx;have aw:=aw.aL aG sx;have po:=po.aL aG sx;have p4:=p4.aL aG sx
 refine ag<|aQ<|zr<|zm<|di rfl<|zf xu rfl ?_
 obtain⟨vt3,vn3,ve3,gn3,ge3,bj,hS⟩:=aw.open
 obtain⟨an3,cn3,aem⟩:=kt hS.na
 subst aem
 obtain⟨ae3,ce3,aen⟩:=hS.ex.len
 subst aen
 have oR:(q.1.map Prod.fst).length=q.1.length:=by simp
 have mI:(q.1.map λp=>p.2.av).length=q.1.length:=by simp
 have aeo:(dD (q.1.map λp=>p.2.av)).length=q.1.length:=by rw[iG];exact mI
 refine zl eQ rfl (bj.at rfl)<|dX bh rfl<|mJ rfl rfl rfl rfl rfl (wrap_i64 _ om om)<|zA<|ag<|cQ ?_
 have HY:b<w7.heap.size∧w2.heap.size<=w7.heap.size:=(by constructor<;>omega)
 refine fW (λk:Nat=>[(0,.pointer (some ⟨b,0,none⟩)),(4,.pointer (some ⟨w1.heap.size,0,none⟩)),(5,.slice an aX.length cn),(6,.slice ae (dD exprs).length ce),(7,.pointer (some ⟨w7.heap.size,0,none⟩)),(8,.int .i64 ((k:Int)-1))]) (λk w'=>ak [w7.heap.size] w9 w'∧k<=q.1.length∧∃a n c,aY w' w7.heap.size [str (nest (q.1.drop k) q.2.1).av.az,.slice a n c].toArray 66∧bS (w7.heap.size::((gn.toList++(ge.toList++(w1.heap.size::E)))++G2)) w' (.agg #[str (nest (q.1.drop k) q.2.1).av.az,.slice a n c]) (nest (q.1.drop k) q.2.1).av) (λk=>k) q.1.length (⟨rfl,rfl,rfl,rfl,rfl,congrArg (λz:Nat=>Value.int .i64 ((z:Int)-1)) oR⟩) (⟨ak.refl _ _,lR _,a9,n9,c9,by rw[List.drop_length];exact cG,by rw[List.drop_length];exact po⟩) ?_
 intro gg cM gq hI
 obtain⟨AE,hk,a7,n7,c7,cG,po⟩:=hI
 have M6:b≠w7.heap.size:=(by have:=HY;omega)
 have bj:=bj.aO AE (by simpa using M6)
 have hS:=hS.aL AE (List.mem_cons_self ..)
 have p4:=p4.since AE (λx hx=>.inr (by rw[List.mem_singleton.1 hx];exact HY.2))
 refine aQ<|zr<|zm<|lX rfl rfl rfl rfl rfl<|ag<|zc rfl (λh1=>?_) (λh1=>?_)
 have aR:∃k,gg=k+1:=⟨gg-1,om⟩
 obtain⟨k,rfl⟩:=aR
 have hi:((k+1:Nat):Int)-1=(k:Int):=by omega
 rw[hi]
 obtain⟨bn,capn,e1,o8⟩:=hS.na.ad3 om
 cases e1
 obtain⟨be,cape,e2,rI⟩:=hS.ex.form om
 cases e2
 have M7:=hS.na.MT (i:=k) om
 obtain⟨pa,pc,M8,M9⟩:=hS.ex.MT (i:=k) om
 refine bz<|aQ<|cQ ?_
 apply wv ei 19 (rA 38 19) (rA 38 19) [[],[],[1],[2],[3],[],[4,5],[6],[7],[],[9],[10],[11],[],[12,13],[14],[],[0,8,15,16],[17]] [It.v _,It.v _,It.v _,It.v _,It.v _,It.v _,It.v _,It.v _,It.v _,It.v _,It.v _,It.v _,It.v _,It.v _,It.v _,It.v _,It.v _,It.p (fun(v:Value) (ww:World)=>∃bb,v= .slice (some ⟨bb,0,none⟩) 4 4∧fG (w7.heap.size::((gn.toList++(ge.toList++(w1.heap.size::E)))++G2)) ww v [bZ gM,bZ (aD (q.1.map Prod.fst) k),(nth (q.1.map λp=>p.2.av) k),(nest (q.1.drop (k+1)) q.2.1).av]),It.p (fun(v:Value) (ww:World)=>∃a n c,v= .agg #[str [],.slice a n c]∧bS (w7.heap.size::((gn.toList++(ge.toList++(w1.heap.size::E)))++G2)) ww v (.mk [] [bZ gM,bZ (aD (q.1.map Prod.fst) k),(nth (q.1.map λp=>p.2.av) k),(nest (q.1.drop (k+1)) q.2.1).av]))] de (by exact⟨λv w w' ⟨bb,e,h⟩ k=>⟨bb,e,h.ext k⟩,λv w w' ⟨a,n,c,e,h⟩ k=>⟨a,n,c,e,h.ext k⟩,trivial⟩)
 intro wd aB
 refine vk aB (λx eW cK=>?_) ?_
 refine aC (zS _ eW) ?_
 rintro v12 gh ⟨sW,dC⟩
 have D4:=dC.size
 obtain rfl:=sW
 exact pk dC
 refine eI ?_
 refine vk aB (λx eW cK=>?_) ?_
 refine di rfl ?_
 exact pv
 refine vc (λ_ _ _=>zf xu rfl pv) ?_
 refine vk aB (λx eW cK=>?_) ?_
 have bj:=bj.ext cK
 refine zl eQ rfl (bj.at rfl) ?_
 exact pv
 refine eI ?_
 refine vk aB (λx eW cK=>?_) ?_
 refine zi bh bA rfl rfl (by rw[oR];omega) ?_
 exact pv
 refine vk aB (λx eW cK=>?_) ?_
 have M7:=M7.ext cK
 refine zl ck rfl (M7 0 _ rfl) ?_
 exact pv
 refine vk aB (λx eW cK=>?_) ?_
 refine aC (zS _ eW) ?_
 rintro v12 gh ⟨sW,dC⟩
 have D4:=dC.size
 obtain rfl:=sW
 exact pk dC
 refine eI ?_
 refine vk aB (λx eW cK=>?_) ?_
 refine di rfl ?_
 exact pv
 refine vc (λ_ _ _=>zf zq rfl pv) ?_
 refine vk aB (λx eW cK=>?_) ?_
 have bj:=bj.ext cK
 refine zl cI rfl (bj.at rfl) ?_
 exact pv
 refine eI ?_
 refine vk aB (λx eW cK=>?_) ?_
 refine zi cv aH rfl rfl (by rw[aeo];omega) ?_
 exact pv
 refine vk aB (λx eW cK=>?_) ?_
 have M8:=M8.ext cK
 refine zL bT aH rfl M8 rfl ?_
 exact pv
 refine vk aB (λx eW cK=>?_) ?_
 have cG:=cG.ext cK
 refine zL bT aH rfl cG.all rfl ?_
 exact pv
 refine vk aB (λx eW cK=>?_) ?_
 have po:=po.ext cK;have hS:=hS.ext cK;have M9:=M9.ext cK
 have dB:=hS.cZ
 refine sA [.tmp 38,.tmp 46,.tmp 53,.tmp 54] [[str gM,.slice none 0 0],[str (aD (q.1.map Prod.fst) k),.slice none 0 0],[str (nth (q.1.map λp=>p.2.av) k).az,.slice pa (nth (q.1.map λp=>p.2.av) k).au.length pc],[str (nest (q.1.drop (k+1)) q.2.1).av.az,.slice a7 n7 c7]] cv aH rfl rfl rfl rfl rfl rfl rfl rfl rfl ?_
 intro gh dC BZ al8
 exact pf dC (⟨_,rfl,aeg BZ (λhx=>by have:=dB _ hx;omega) (lE oU) (lE oU) (M9.ext dC) (po.ext dC)⟩)
 refine vk aB (λx eW cK=>?_) ?_
 intro jV d17
 obtain⟨bb,r6,Jb⟩:=d17
 refine aC (aeb jV _ _ _ r6 eW) ?_
 rintro v12 gh ⟨sW,dC⟩
 have D4:=dC.size
 obtain rfl:=sW
 have Jb:=fG.ext Jb dC
 rw[r6] at Jb
 exact pf dC (⟨_,_,_,rfl,lE Jb⟩)
 exact trivial
 intro x oc jl
 intro jV d17
 intro wT d18
 have AE:=AE.ext jl;have cG:=cG.ext jl
 change OW _ _ _ _ _ (aM (aN _ x _) (zZ 38 [_,_,_,_,_,_,_,_,_,_,_,_,_,_,_,_,_,_,_])) _
 obtain⟨a8,n8,c8,vq,Jc⟩:=d18
 subst vq
 have jy:=aed (bs:=q.1) (e:=q.2.1) (k:=k) om
 rw[<-aee (e:=q.2.1) (show k<q.1.length by omega),<-aef (e:=q.2.1) (show k<q.1.length by omega)] at jy
 rw[<-jy] at Jc
 have T1:(nest (q.1.drop k) q.2.1).av.az=[]:=by rw[jy];rfl
 refine du aH rfl rfl rfl cG rfl ?_
 intro lO ly cG dN
 have AE:=AE.trans ly
 have Jc:=Jc.aL ly sm
 refine ag<|db<|zm<|mJ rfl rfl rfl rfl rfl (wrap_i64 _ om om)<|zA<|ag ?_
 exact⟨k,⟨rfl,rfl,rfl,rfl,rfl,rfl⟩,⟨AE,om,a8,n8,c8,by rw[T1];exact cG,by rw[T1];exact Jc⟩,om⟩
 have h0:gg=0:=by omega
 subst h0
 have AF:=hS
 have AD:=bj
 have Gi:=p4
 refine gB<|gC rfl<|zr<|zm<|zm<|di rfl<|zf xu rfl<|gW (o:=2) nJ rfl rfl rfl bj rfl ?_
 intro eW cK bj dN
 have my:=cK
 have cG:=cG.aO cK (by simpa using λe=>M6 e.symm)
 have po:=po.aL cK (by intro x hx;simp at hx;subst hx;simp[AF.mem.2 (.inl rfl)])
 refine ag<|zr<|zm<|zm<|di rfl<|zf zq rfl<|gW (o:=3) EX rfl rfl rfl bj rfl ?_
 intro gh dC bj dN
 have my:=my.trans dC
 have cG:=cG.aO dC (by simpa using λe=>M6 e.symm)
 have po:=po.aL dC (by intro x hx;simp at hx;subst hx;simp[AF.mem.2 (.inl rfl)])
 have aep:ak [b] w2 gh:=Gi.trans my
 have aI:=F7.aO aep (by simpa using Ja)
 obtain⟨hS,aeq⟩:=Cf.closed AF.drop (Cf.na.aO Gi (λx hx hy=>(wR x (by simp[hx])).2 (by simpa using hy))) (Cf.ex.aO (Fr.of Gi (by intro x hx;simp at hx;subst hx;simp[oe])) Gi (λx hx hy=>(sV x hx).2.1 (by simpa using hy))) ⟨Gi.mono (by intro x hx;simp at hx;subst hx;exact oe),λx hx=>(ael x hx).imp (λh=>by rw[h];exact oe) id⟩ my
 have vu:bS ((w1.heap.size::E)++G) gh _ (nest (q.1.drop 0) q.2.1).av:=po.ji (λx hx=>by rcases mA.1 hx with h|h;(·exact mK _ (by rcases mC.1 h with h|h<;>simp[h]));(·rcases Cf.mem.1 h with h|h|h;(·rw[h];simp[AF.mem.2 (.inl rfl)]);(·simp[h]);(·simp[h])))
 refine ag<|zr<|zL bT aH rfl cG.all rfl<|du aH rfl rfl rfl aI rfl ?_
 intro jD fK aI dN
 have bj:=bj.aO fK (by simpa using λe=>Ja e.symm)
 have hS:=(hS.aL fK sm).drop
 have vu:=vu.aL fK sm
 have zy:=nk.size
 have hFr:Fr G w G jD:=⟨((ak.any nk).trans aeq.aO).since fK (λx hx=>.inr (by simp at hx;omega)),λx hx=>.inl hx⟩
 refine ag<|aV ?_
 exact⟨[_],gO bT aH rfl aI rfl,⟨(by have h9:=bS.ji vu (L':=E++G) (λx hx=>mK _ hx);unfold mW;rw[<-hq];exact h9),by rw[<-hq];exact⟨_,_,_,_,_,bj,hS⟩⟩,hFr⟩
def gU (ai:List aj) (e:Ex) (n:Nat):Nat->Bs×List Ex×Nat
 |0=>([],[],n)
 |k+1=>((gU ai e n k).1++(dU ai (bu ai (fJ e k) (gU ai e n k).2.2)).1,(gU ai e n k).2.1++[(dU ai (bu ai (fJ e k) (gU ai e n k).2.2)).2.1],(dU ai (bu ai (fJ e k) (gU ai e n k).2.2)).2.2)
theorem Na (ai:List aj) (e:Ex) (n:Nat):∀k,(gU ai e n k).2.1.length=k
 |0=>rfl
 |k+1=>by simp[gU,Na ai e n k]
theorem T2 (ai:List aj) (e:Ex) (n:Nat):(dU ai (bu ai e n)).1.length<=2*e.n:=by
 have:=I4 ai e n
 unfold dU
 split
 ·omega
 ·simp;omega
theorem T3 (ai:List aj) (e:Ex) (n:Nat):(dU ai (bu ai e n)).2.2<=n+e.n*(2*(ai.length+2)):=by
 have h1:=iJ ai e n
 have h2:=qp ai (bu ai e n)
 omega
theorem T4 (ai:List aj) (e:Ex) (n:Nat):∀k,k<=e.kids.length->(gU ai e n k).1.length<=2*kN e k∧(gU ai e n k).2.2<=n+kN e k*(2*(ai.length+2))
 |0,_=>by simp[gU,kN]
 |k+1,hk=>by
  obtain⟨h1,h2⟩:=T4 ai e n k om
  have h3:=T2 ai (fJ e k) (gU ai e n k).2.2
  have h4:=T3 ai (fJ e k) (gU ai e n k).2.2
  rw[yf om,Nat.add_mul]
  simp only[gU,lA]
  constructor<;>omega
theorem aes (ai:List aj) (e:Ex) (n:Nat) {aX:List aj} {exprs:List aA} (hB:ym ai e n aX exprs) (hk:k<e.kids.length):ym ai (fJ e k) (gU ai e n k).2.2 (aX++(gU ai e n k).1.map Prod.fst) (exprs++(gU ai e n k).1.map λp=>p.2.av):=by
 obtain⟨h1,h2,h3,h4⟩:=hB
 obtain⟨h5,h6⟩:=T4 ai e n k om
 have h7:=yf hk
 have h8:=BY e (k+1)
 have h9:=Nat.mul_le_mul_right (2*(ai.length+2)) h8
 rw[h7,Nat.add_mul] at h9
 refine⟨by omega,?_,?_,h4⟩
 ·simp only[lA,List.length_map];omega
 ·simp only[lA,List.length_map];omega
theorem aet (ai:List aj) (n:Nat) (ha:e.jj=false) (h1:e.head≠gM) (h2:e.head≠il) (h3:e.head≠cC):
  (bu ai e n).1=(gU ai e n e.kids.length).1∧(bu ai e n).2.1.av= .mk [] ([bZ e.head]++(gU ai e n e.kids.length).2.1.map Ex.av)∧(bu ai e n).2.2=(gU ai e n e.kids.length).2.2:=by
 cases e with
 |«at» s=>cases ha
 |lt x a b=>exact absurd rfl h1
 |fn f x A B b=>exact absurd rfl h2
 |ite a b c=>exact absurd rfl h3
 |un h a=>exact⟨rfl,rfl,rfl⟩
 |bi h a b=>exact⟨rfl,rfl,rfl⟩
theorem aeu (ha:e.jj=false) (h1:e.head≠gM) (h2:e.head≠il):e.av.au=mc [bZ e.head] [] e:=by
 rw[Tz ha (not_lt h1) h2]
 simp[mc]
theorem T5 (ha:e.jj=false) (h1:e.head≠gM) (h2:e.head≠il):e.from=1:=by
 cases e with
 |«at» s=>cases ha
 |lt x a b=>exact absurd rfl h1
 |fn f x A B b=>exact absurd rfl h2
 |_=>rfl
theorem ym.sub {ai:List aj} {e':Ex} {n':Nat} {aX names':List aj} {exprs exprs':List aA} (h:ym ai e n aX exprs) (m:Nat) (h1:m+e'.n<=e.n) (h2:n'<=n+m*(2*(ai.length+2))) (h3:names'.length<=aX.length+4*m) (h4:exprs'.length<=exprs.length+4*m):ym ai e' n' names' exprs':=by
 obtain⟨a1,a2,a3,a4⟩:=h
 have h9:=Nat.mul_le_mul_right (2*(ai.length+2)) h1
 rw[Nat.add_mul] at h9
 exact⟨by omega,om,om,a4⟩
theorem M5.nd {τ:xT} {ai aX:List aj} {exprs:List aA} (h:M5 τ E G w b ai n aX exprs):(E++G).Nodup:=by
 obtain⟨_,_,_,_,_,_,h2⟩:=h;exact h2.nd
theorem M5.more {τ:xT} {ai aX:List aj} {exprs:List aA} (h:M5 τ E G w b ai n aX exprs) (k:ak [] w w') (h1:w.heap.size<=x) (h2:x<w'.heap.size):M5 τ (x::E) G w' b ai n aX exprs:=by
 obtain⟨vt,vn,vex,gn,ge,hb,h⟩:=h
 have hF:∀y,y∈(x::E)++G->y∈E++G∨w.heap.size<=y:=λy hy=>by
  rcases mC.1 (show y∈x::(E++G) from hy) with h3|h3
  ·right;omega
  ·exact .inl h3
 refine⟨vt,vn,vex,gn,ge,hb.ext k,(h.ta.fresh hF).ext k,h.na.ext k,(h.ex.sub hF).any k,h.eG,?_,λy hy=>?_⟩
 ·show(x::(E++G)).Nodup
  rw[List.nodup_cons]
  exact⟨λhx=>by have:=h.cZ _ hx;omega,h.nd⟩
 ·rcases mC.1 (show y∈x::(E++G) from hy) with h3|h3
  ·omega
  ·have:=h.cZ y h3;have:=k.size;omega
structure kz (E G:List Nat) (w0 w:World) (G0:List Nat) (b:Nat) (ai:List aj) (n:Nat) (aX:List aj) (exprs:List aA) (gb b4:Nat) (vP:Value) (ts:List aA):Prop where
 m:M5 t5 (gb::b4::E) G w b ai n aX exprs
 own:eC ((gb::b4::E)++G) w 66 2 vP (some gb) (dD ts)
 bx:aY w b4 [str [],.slice none 0 0].toArray 66
 fr:Fr G0 w0 G w
 low:w0.heap.size<=gb∧w0.heap.size<=b4
section
variable {E G G0 G':List Nat} {w0 w w':World} {b:Nat} {ai:List aj} {n n':Nat} {aX names':List aj} {exprs exprs':List aA} {gb b4:Nat} {vP:Value} {ts ts':List aA}
theorem kz.ext (h:kz E G w0 w G0 b ai n aX exprs gb b4 vP ts) (k:ak [] w w'):kz E G w0 w' G0 b ai n aX exprs gb b4 vP ts:=⟨h.m.ext k,h.own.ext k,h.bx.ext k,h.fr.ext k,h.low⟩
theorem kz.call (h:kz E G w0 w G0 b ai n aX exprs gb b4 vP ts) (hm:M5 t5 (gb::b4::E) G' w' b ai n' names' exprs') (k:Fr G w G' w'):kz E G' w0 w' G0 b ai n' names' exprs' gb b4 vP ts:=
 ⟨hm,h.own.aO (k.in _) k.aO (λx hx=>by simp at hx;subst hx;exact h.m.nE sm),h.bx.aO k.aO (h.m.nE sm),h.fr.go k,h.low⟩
theorem kz.ne (h:kz E G w0 w G0 b ai n aX exprs gb b4 vP ts):gb∉b4::(E++G)∧b4∉E++G:=by
 have h1:(gb::b4::(E++G)).Nodup:=h.m.nd
 rw[List.nodup_cons,List.nodup_cons] at h1
 exact⟨h1.1,h1.2.1⟩
theorem kz.store (h:kz E G w0 w G0 b ai n aX exprs gb b4 vP ts) (k:ak [gb] w w') (ho:eC ((gb::b4::E)++G) w' 66 2 vP (some gb) (dD ts')):kz E G w0 w' G0 b ai n aX exprs gb b4 vP ts':=
 ⟨h.m.aL k sm,ho,h.bx.aO k (by simp;intro e;exact h.ne.1 (by simp[e])),⟨h.fr.aO.since k (by intro x hx;simp at hx;subst hx;exact .inr h.low.1),h.fr.mem⟩,h.low⟩
theorem kz.cZ (h:kz E G w0 w G0 b ai n aX exprs gb b4 vP ts):fu ((gb::b4::E)++G) w:=h.m.bG.2.2
theorem kz.jA (h:kz E G w0 w G0 b ai n aX exprs gb b4 vP ts):∀x,x∈[gb]->x∈(gb::b4::E)++G:=by simp
theorem kz.fin (h:kz E G w0 w G0 b ai n aX exprs gb b4 vP ts) (k:ak [b4] w w'):bS (E++G) w' (.agg #[str [],vP]) (.mk [] ts)∧M5 t5 E G w' b ai n aX exprs∧Fr G0 w0 G w':=by
 have h1:cD (b4::(E++G)) w vP (.sl 2 (dD ts)):=h.own.rep (λx hx=>.inl (by simpa using hx)) (by simpa using h.ne.1)
 have h2:bS (b4::(E++G)) w (.agg #[str [],vP]) (.mk [] ts):=lE h1
 exact⟨(h2.aL k sm).ji (λx hx=>mK _ hx),(h.m.drop.aL k sm).drop,⟨h.fr.aO.since k (by intro x hx;simp at hx;subst hx;exact .inr h.low.2),h.fr.mem⟩⟩
end
theorem aev:∀(m:Nat) (e:Ex),e.n<=m->e.ok->MU e:=by
 intro m
 induction m with
 |zero=>intro e h;have:=e.pos;omega
 |succ m ih=>
  intro e hm bD ai n aX exprs hB E F b v w hM dI
  have hv:=dI
  obtain⟨a,np,c,rfl,hn,IV⟩:=dM hv
  subst hn
  have I6:=iJ ai e n
  have IK:=FX e
  have hK:=ak.refl [] w
  have aw:=hM
  have hT:=dI
  have hMl:=hM.bG
  obtain⟨Ir,MW,MX,I5⟩:=id hB
  refine lF [.cell 4 66] 114 Tryz.func178 rfl Yz rfl rfl rfl ?_
  refine zr<|fE rfl ?_
  intro w1 aK bR dY
  have hK:=hK.ext aK;have aw:=aw.ext aK;have hT:=hT.ext aK
  refine eA aH rfl rfl rfl ?_
  intro w2 aq aI eM
  have hK:=hK.grow;have hK:=hK.ext aq;have aw:=aw.alloc aq eM;have hT:=hT.grow;have hT:=hT.ext aq;have bR:=bR.grow;have bR:=bR.ext aq
  refine ag<|aQ<|zr<|zf dz rfl<|zl ck rfl (bR.at rfl)<|jG rfl rfl rfl rfl<|ag<|zc rfl (λh1=>?_) (λh1=>?_)
  have aR:∃x,e= .at x:=(by have ha:=(vg bD).1 h1;cases e<;>first|exact⟨_,rfl⟩|cases ha)
  obtain⟨x,rfl⟩:=aR
  refine zr<|zL bT aH rfl bR.all rfl<|du aH rfl rfl rfl aI rfl ?_
  intro w3 aJ aI iH
  have hK:=hK.aL aJ sx;have aw:=aw.aL aJ sx;have hT:=hT.aL aJ sx
  refine ag<|aV ?_
  exact⟨[_],gO bT aH rfl aI rfl,by show I3 ai E F b aX exprs w ([],.at x,n) _ _;exact⟨F,⟨hT.ji (λy hy=>mK _ hy),by simpa using aw.drop⟩,Fr.of hK sm⟩⟩
  have fp:e.jj=false:=(by cases hh:e.jj;rfl;exact absurd ((vg bD).2 hh) h1)
  obtain⟨FY,pE,jH,wG⟩:=Ex.au fp
  obtain⟨jS,DP,DQ⟩:=FW bD fp
  have nk:=hK
  have mh:=aw
  have Gh:=hT
  have Nb:=bR
  have F7:=aI
  have adH:=dY
  have adI:=eM
  have AG:fG (w1.heap.size::(E++F)) w2 (.slice a e.av.au.length c) e.av.au:=(by obtain⟨a9,n9,c9,e9,AH,AG⟩:=dM Gh;cases e9;exact AG)
  have Nc:=mh.bG.2.2
  refine bz<|zr<|zf cL rfl<|zl cI rfl (bR.at rfl)<|zA<|ag<|zr<|zJ w2.heap.size (w1.heap.size::(E++F)) cv aH rfl rfl (lR _) (λx hx=>Nc x hx) ?_
  intro w3 aJ IW wI
  have ke:=aJ
  have bR:=bR.ext aJ;have aI:=aI.ext aJ
  refine zm<|xI cv aH rfl rfl rfl rfl rfl rfl wI (fG.ext (fG.grow AG) aJ) (TF _) (by rw[iG];simp;omega) ?_
  intro a4 jd g4 w4 kV aF
  have ke:=wI.since ke aF
  have hK:=nk.trans ke
  have bR:=Nb.ext ke
  have aI:=F7.ext ke
  have gI:=ke.size
  rw[show([]:List (List C)).length+(dD e.av.au).length=e.av.au.length from by rw[iG];simp] at kV⊢
  rw[List.nil_append] at kV
  obtain⟨gb,e4,e5⟩:=kV.form (by rw[iG];exact jS)
  subst e4
  subst e5
  have gH:gb<w4.heap.size:=kV.lt gb sm
  have DV:w2.heap.size<=gb:=kV.low gb rfl
  have hS:eC (gb::(w1.heap.size::(E++F))) w4 66 2 (.slice (some ⟨gb,0,none⟩) e.av.au.length jd) (some gb) (dD e.av.au):=(let⟨xs,hr⟩:=kV.own;⟨⟨xs,hr.own,hr.rep⟩,hr.row⟩)
  have aw:M5 t5 (gb::w1.heap.size::E) F w4 b ai n aX exprs:=mh.more ke DV gH
  refine j5 (Kv _ _ _ _) rfl rfl<|eA aH rfl rfl rfl ?_
  intro w5 aU bQ jo
  have hK:=hK.grow;have hK:=hK.ext aU;have aI:=aI.grow;have aI:=aI.ext aU;have hS:=hS.grow;have hS:=hS.ext aU;have ke:=ke.grow;have ke:=ke.ext aU
  refine du aH rfl rfl rfl bQ rfl ?_
  intro w6 bF bQ lG
  have hK:=hK.aL bF sx;have aI:=aI.aL bF sx;have hS:=hS.aL bF sx;have ke:=ke.aL bF sx
  refine ag<|aQ<|zr<|zm ?_
  have jB:=hK.size
  have ke:ak [] w2 w6:=ke
  have aw:M5 t5 (gb::w1.heap.size::E) F w6 b ai n aX exprs:=mh.more ke DV (by have:=bQ.lt;omega)
  have hS:eC ((gb::w1.heap.size::E)++F) w6 66 2 _ _ _:=eC.sub hS (λx hx=>.inl (mK _ hx))
  have TG:=aw.bG.2.2
  have DW:Fr (w1.heap.size::(E++F)) w2 ((gb::w1.heap.size::E)++F) w6:=⟨ke.any,λx hx=>by rcases mC.1 (show x∈gb::(w1.heap.size::(E++F)) from hx) with h|h;(·right;omega);(·exact .inl h)⟩
  have bc:=fG.go AG DW
  have gK:∀q,w.heap.size<=q->q≠gb->q≠w1.heap.size->q∉((gb::w1.heap.size::E)++F):=(by intro q h1 h2 h3 hx;rcases mC.1 (show q∈gb::(w1.heap.size::(E++F)) from hx) with h|h;(·exact h2 h);(·rcases mC.1 h with h|h;(·exact h3 h);(·have:=hMl.2.2 q h;omega)))
  have bQ:fg ((gb::w1.heap.size::E)++F) w6 w4.heap.size _ _:=⟨bQ,gK _ om om om⟩
  have bg:kz E F w w6 F b ai n aX exprs gb w1.heap.size (.slice (some ⟨gb,0,none⟩) e.av.au.length jd) e.av.au:=⟨aw,hS,aI,⟨hK.any,λx hx=>.inl hx⟩,om,om⟩
  obtain⟨b0,Av,xF,xG,e0,pY,ky⟩:=fI bc jS
  cases e0
  refine zi (i:=0) cv aH rfl rfl jS<|zf dz rfl<|zl ck rfl (pY.cells 0 _ rfl)<|ag<|cQ<|zr<|cW rfl rfl<|zA<|ag<|zc rfl (λh2=>?_) (λh2=>?_)
  obtain⟨nx,ea,eb,rfl⟩:=IT bD (jH.symm.trans h2)
  have wJ:(Ex.lt nx ea eb).n=2+ea.n+eb.n:=rfl
  have Jd:bu ai (.lt nx ea eb) n=((bu ai ea n).1++(nx,(bu ai ea n).2.1)::(bu ai eb (bu ai ea n).2.2).1,(bu ai eb (bu ai ea n).2.2).2.1,(bu ai eb (bu ai ea n).2.2).2.2):=rfl
  have Je:=iJ ai ea n
  have o3:=I4 ai ea n
  have hBa:ym ai ea n aX exprs:=hB.sub 0 om om om om
  have aR:∃q,q=bu ai ea n:=⟨_,rfl⟩
  obtain⟨q,hq⟩:=aR
  rw[<-hq] at Jd Je o3
  have IX:(Ex.lt nx ea eb).av.au.length=4:=rfl
  have bc:fG ((w1.heap.size::E)++F) w6 _ _:=bc.ji (λx hx=>mK _ hx)
  have aw:=bg.m.drop
  have aI:=bg.bx
  have hR:=bg.fr
  obtain⟨b1,fY,gX,gY,e1,bC,dd⟩:=fI bc (i:=1) om
  cases e1
  obtain⟨b2,ni,jb,jc,e2,bX,et⟩:=fI bc (i:=2) om
  cases e2
  have et:bS ((w1.heap.size::E)++F) w6 _ ea.av:=et
  obtain⟨b3,B2,pT,pU,e3,er,eY⟩:=fI bc (i:=3) om
  cases e3
  have eY:bS ((w1.heap.size::E)++F) w6 _ eb.av:=eY
  refine zr<|zm<|zm<|zi (i:=2) cv aH rfl rfl ((show 2<4 from om))<|zL bT aH rfl bX.cells rfl<|aC (ih ea om bD.2.1 ai n aX exprs hBa (w1.heap.size::E) F b _ w6 aw et) ?_
  rintro v29 w7 ⟨G1,⟨dR,qA⟩,df⟩
  rw[<-hq] at dR qA
  obtain⟨a9,n9,c9,e9,_,_⟩:=dM dR
  subst e9
  have j4:=hR.go df
  have gj:=ak.refl [] w7
  have bC:=bC.go (df.in _);have er:=er.go (df.in _)
  have eY:=bS.go eY (df.in _)
  have aI:=aI.aO df.aO (aw.nE sm)
  have aw:=qA
  have T6:=aw.bG.2.2
  have aR:∃x,x=aX++q.1.map Prod.fst:=⟨_,rfl⟩
  obtain⟨N1,Cb⟩:=aR
  have aR:∃x,x=exprs++q.1.map λp=>p.2.av:=⟨_,rfl⟩
  obtain⟨X1,Cc⟩:=aR
  rw[<-Cb,<-Cc] at aw
  have TV:N1.length=aX.length+q.1.length:=by rw[Cb];simp
  have hXl:X1.length=exprs.length+q.1.length:=by rw[Cc];simp
  have aey:=aI
  have aez:=bC
  have aeA:=er
  have aeB:=eY
  have aeC:=dR
  have aeD:=aw
  refine eA aH rfl rfl rfl ?_
  intro w8 cu cG mn
  have gj:=gj.grow;have gj:=gj.ext cu
  refine du aH rfl rfl rfl cG rfl ?_
  intro w9 aG cG dN
  have gj:=gj.aL aG sx
  refine ag<|aQ ?_
  have Gj:=j4.aO.size
  have gj:ak [] w7 w9:=gj
  have hR:=j4.ext gj
  have aI:=aey.ext gj
  have bC:=aez.ext gj
  have er:=aeA.ext gj
  have eY:=aeB.ext gj
  have dR:=aeC.ext gj
  have aw:=aeD.ext gj
  obtain⟨vt,vn,vex,gn,ge,bj,hS⟩:=aw.open
  have bj:aY w9 b [vt,.int .i64 (q.2.2:Int),vn,vex].toArray 151:=bj
  obtain⟨I8,wQ,wR,sV⟩:=hS.apart
  have Cd:fu ((w1.heap.size::E)++G1) w9:=hS.cZ
  have oe:b∈G1:=hS.mem.2 (.inl rfl)
  have qg:=cG.lt
  have cG:fg ((w1.heap.size::E)++G1) w9 _ _ _:=⟨cG,λhx=>by have:=T6 _ hx;omega⟩
  apply kc ei (((w1.heap.size::E)++G1)) 13 (rA 30 13) (rA 30 13) [[],[],[1],[2],[3],[],[5],[6],[7],[8],[4,9],[0],[11]] [Ie.v _,Ie.v _,Ie.v _,Ie.v _,Ie.w 0 vn,Ie.v _,Ie.v _,Ie.v _,Ie.v _,Ie.p (fun(G:List Nat) (v:Value) (ww:World)=>∃bb,v= .slice (some ⟨bb,0,none⟩) 1 1∧aY ww bb [str nx].toArray 9∧bb∉G),Ie.e 1,Ie.v _,Ie.v _] [4,10] [fun(G:List Nat) (vs:List Value) (ww:World)=>G=(w1.heap.size::E)++G1∧ak [] w9 ww,fun(G:List Nat) (vs:List Value) (ww:World)=>G=(w1.heap.size::E)++G1∧ak [] w9 ww,fun(G:List Nat) (vs:List Value) (ww:World)=>∃G2 g2,G=(w1.heap.size::E)++G2∧ak gn.toList w9 ww∧ja t5 (w1.heap.size::E) G2 ww b vt (vs.getD 1 undef) vex g2 ge ai (N1++[nx]) X1∧Fr G1 w9 G2 ww] de rfl Cd (by exact⟨λG v w G' w' ⟨bb,e,h,ho⟩ k=>⟨bb,e,(fg.go ⟨h,ho⟩ k).jv,(fg.go ⟨h,ho⟩ k).out⟩,trivial⟩) (by exact⟨λG vs w w' ⟨h1,h2⟩ k=>⟨h1,h2.ext k⟩,λG vs w w' ⟨h1,h2⟩ k=>⟨h1,h2.ext k⟩,λG vs w w' ⟨G2,g2,h1,h2,h3,h4⟩ k=>⟨G2,g2,h1,h2.ext k,h3.ext k,h4.ext k⟩,trivial⟩) (⟨rfl,ak.refl _ _⟩)
  refine cR ?_
  refine cR ?_
  refine vf (λ_ _ _ _ _ _=>di rfl fv) ?_
  refine vf (λ_ _ _ _ _ _=>zf xu rfl fv) ?_
  refine ve 0 (λx cM mx aW oO mf hJ hlen=>?_) ?_
  have bo:=jP hlen
  subst bo
  obtain⟨cz,cB⟩:=hJ
  have tU:=bj.ext cB
  refine zl eQ rfl (tU.at rfl) ?_
  exact fw mx (Fr.refl _ _) mf (⟨cz,cB⟩)
  refine cR ?_
  refine vf (λ_ _ _ _ _ _=>zi (i:=1) cv aH rfl rfl ((show 1<4 from om)) fv) ?_
  refine vf (λ_ _ _ _ _ _=>zf dz rfl fv) ?_
  refine vf (λx cM mx aW oO mf=>?_) ?_
  have bC:=bC.go oO
  refine zl ck rfl (bC.cells 0 _ rfl) ?_
  exact fv
  refine vf (λx cM mx aW oO mf=>?_) ?_
  refine gD bh bA rfl rfl ?_
  intro eW cK ye uC
  exact ff cK (⟨_,rfl,(ye.o mf).jv,(ye.o mf).out⟩)
  refine ve 1 (λx cM mx aW oO mf hJ hlen=>?_) ?_
  obtain⟨q0,bo⟩:=jQ hlen
  subst bo
  intro v9 d9
  obtain⟨bb,e6,gw,_⟩:=d9
  subst e6
  obtain⟨cz,cB⟩:=hJ
  subst cz
  have Jf:=hS.ext cB
  refine rZ bh bA rfl rfl rfl rfl rfl rfl Jf.na gw om ?_
  intro v9 g9 eW dJ aG fL
  obtain⟨G2,gi,jU⟩:=Jf.R0 dJ aG fL
  exact fe _ (jU.in _) gi.cZ (⟨G2,g9,rfl,cB.any.trans aG,gi,(Fr.of cB sm).go jU⟩)
  refine vf (λ_ _ _ _ _ _=>di rfl fv) ?_
  refine vf (λ_ _ _ _ _ _=>zf xu rfl fv) ?_
  exact trivial
  intro x pe B3 aW rj F9 hJ hlen
  obtain⟨q0,q1,bo⟩:=lM hlen
  subst bo
  intro v9 d9
  have cG:=cG.go rj;have er:=er.go rj;have eY:=eY.go rj;have dR:=dR.go rj
  change OW _ _ _ _ _ (aM (aN _ x _) (zZ 30 [_,_,_,_,_,_,_,_,_,_,_,_,_])) _
  obtain⟨G2,g9,cz,Ax,gi,jU⟩:=hJ
  subst cz
  obtain⟨ph,pj,Gf⟩:=kt gi.na
  have e8:q1=_:=Gf
  subst e8
  have bj:=bj.aO Ax (λh=>(wR b h).2 rfl)
  have aI:=aI.aO Ax (λh=>(wR _ h).1 sm)
  have wS:b∈G2:=gi.mem.2 (.inl rfl)
  have hR:=hR.go jU
  refine gW (o:=2) nJ rfl rfl rfl bj rfl ?_
  intro oc jl bj dN
  have hS:=gi.aO jl sm
  have aI:=aI.aO jl (by simp;intro e;subst e;exact wQ sm)
  have hR:=hR.aL jl (by simpa using wS);have cG:=cG.aL jl (by intro x hx;simp at hx;subst hx;simp[wS]);have er:=er.aL jl (by intro x hx;simp at hx;subst hx;simp[wS]);have dR:=dR.aL jl (by intro x hx;simp at hx;subst hx;simp[wS]);have eY:=eY.aL jl (by intro x hx;simp at hx;subst hx;simp[wS])
  refine ag<|aQ ?_
  obtain⟨ae,ce,e5⟩:=hS.ex.len
  subst e5
  have bj:aY oc b [vt,(.int .i64 (q.2.2:Int)),(.slice ph (N1++[nx]).length pj),(.slice ae (dD X1).length ce)].toArray 151:=bj
  have Cd:fu ((w1.heap.size::E)++G2) oc:=hS.cZ
  have eT:b∈G2:=wS
  obtain⟨I8,wQ,wR,sV⟩:=hS.apart
  have iE:=bj.lt
  apply Sg ei (((w1.heap.size::E)++G2)) 13 (rA 43 9++[100009,52,53,100012]) (rA 43 9++[100009,52,53,100012]) [[],[0],[1],[2],[],[3],[],[3,6],[5,7],[4,8],[0],[10],[7,11]] [Iu.v _,Iu.v _,Iu.v _,Iu.w 0 ((.slice ae (dD X1).length ce)),Iu.v _,Iu.v _,Iu.p (fun(G:List Nat) (v:Value) (ww:World)=>∃bb,v= .slice (some ⟨bb,0,none⟩) 1 1∧fg G ww bb [str [],.slice none 0 0].toArray 66),Iu.e 1,Iu.d (fun(vs:List Value)=>TQ (vs.getD 1 undef) ((dD X1).length*2)),Iu.u,Iu.v _,Iu.v _,Iu.u] [3,7] [fun(G:List Nat) (vs:List Value) (ww:World)=>G=((w1.heap.size::E)++G2)∧aY ww b [vt,(.int .i64 (q.2.2:Int)),(.slice ph (N1++[nx]).length pj),(.slice ae (dD X1).length ce)].toArray 151∧ak [] oc ww,fun(G:List Nat) (vs:List Value) (ww:World)=>G=((w1.heap.size::E)++G2)∧aY ww b [vt,(.int .i64 (q.2.2:Int)),(.slice ph (N1++[nx]).length pj),(.slice ae (dD X1).length ce)].toArray 151∧ak [] oc ww,fun(G:List Nat) (vs:List Value) (ww:World)=>J5 t5 (w1.heap.size::E) G2 oc b vt (.int .i64 (q.2.2:Int)) (.slice ph (N1++[nx]).length pj) (.slice ae (dD X1).length ce) ge X1 q.2.1.av false false G (vs.getD 1 undef) ww] (fun(S:Nat->Bool) (G:List Nat) (vs:List Value) (ww:World)=>J5 t5 (w1.heap.size::E) G2 oc b vt (.int .i64 (q.2.2:Int)) (.slice ph (N1++[nx]).length pj) (.slice ae (dD X1).length ce) ge X1 q.2.1.av (S 9) (S 12) G (vs.getD 1 undef) ww) de rfl Cd (by exact⟨λG v w G' w' ⟨bb,e,h⟩ k=>⟨bb,e,h.go k⟩,trivial⟩) (by exact⟨λG vs w w' ⟨h1,h2,h3⟩ k=>⟨h1,h2.ext k,h3.ext k⟩,λG vs w w' ⟨h1,h2,h3⟩ k=>⟨h1,h2.ext k,h3.ext k⟩,λG vs w w' h k=>h.ext k,trivial⟩) (by exact λS G vs w w' h k=>h.ext k) (⟨rfl,bj,ak.refl _ _⟩) (by exact λ_ _ _ h _=>h)
  refine uf (λx lO p5 aW r7 qB=>?_) ?_
  refine zm ?_
  exact uv
  refine uf (λx lO p5 aW r7 qB=>?_) ?_
  refine di rfl ?_
  exact uv
  refine uf (λx lO p5 aW r7 qB=>?_) ?_
  refine zf zq rfl ?_
  exact uv
  refine ue 0 (λx lO p5 aW r7 qB hJ hlen=>?_) ?_
  have bo:=jP hlen
  subst bo
  obtain⟨cz,bj,cB⟩:=hJ
  refine zl cI rfl (bj.at rfl) ?_
  exact uW p5 (Fr.refl _ _) qB (⟨cz,bj,cB⟩)
  refine uf (λx lO p5 aW r7 qB=>?_) ?_
  have cG:=cG.go r7
  refine zL bT aH rfl cG.all rfl ?_
  exact uv
  refine uf (λx lO p5 aW r7 qB=>?_) ?_
  refine dX cv rfl ?_
  exact uv
  refine uf (λx lO p5 aW r7 qB=>?_) ?_
  refine gD cv aH rfl rfl ?_
  intro AI oP aeE aeF
  exact up oP (⟨_,rfl,aeE.o qB⟩)
  refine ue 1 (λx lO p5 aW r7 qB hJ hlen=>?_) ?_
  obtain⟨q0,bo⟩:=jQ hlen
  subst bo
  intro v6 d6
  obtain⟨bb,e6,gw⟩:=d6
  subst e6
  obtain⟨cz,bj,cB⟩:=hJ
  subst cz
  refine TR cv aH rfl rfl rfl rfl rfl rfl (hS.ext cB).ex ‹_› (λx hx=>mR _ (hS.mem.2 (by simp[hx]))) gw.jv om ?_
  intro v9 g9 AI dJ aG fL df fh
  exact uE _ df fh (⟨bj.aO aG (λh=>(sV b h).2.1 rfl),fh,cB.any.trans (aG.mono (λx hx=>mK _ hx)),g9,rfl,dJ,fL.imp id (λh=>⟨_,h,cB.size⟩)⟩)
  refine ud (λx lO p5 aW S r7 qB hJ hlen=>?_) ?_
  obtain⟨q0,q1,bo⟩:=lM hlen
  subst bo
  obtain⟨bb,cap,e1,r5,rL,kx,hO,uZ⟩:=J5.form hJ
  have e2:q1=_:=e1
  subst e2
  refine zi cv aH rfl rfl (by rw[iG];omega) ?_
  exact uD (ak.refl _ _) rfl
  refine uu (λx lO p5 aW S r7 qB hJ Ce hlen=>?_) ?_
  obtain⟨q0,q1,bo⟩:=lM hlen
  subst bo
  have dR:=dR.go r7
  have hJ:J5 t5 (w1.heap.size::E) G2 oc b vt (.int .i64 (q.2.2:Int)) (.slice ph (N1++[nx]).length pj) (.slice ae (dD X1).length ce) ge X1 q.2.1.av (S 9) (S 12) p5 q1 lO:=hJ
  rw[Ce] at hJ
  obtain⟨bb,cap,e1,r5,rL,kx,hO,uZ⟩:=J5.form hJ
  subst e1
  refine sP (i:=(dD X1).length) (vs:=[str q.2.1.av.az,.slice a9 n9 c9]) (row:=q.2.1.av.enc) aH rfl rfl rfl rfl (Nat.zero_add _) hO ‹_› r5 (by rw[iG,iG];simp) rfl (oT _) dR.kO ?_
  intro AI oP rW eu
  rw[sR,iG] at eu
  exact uU p5 (Fr.of oP (by simpa using r5)) ((λx hx=>lL (qB x hx) (ak.size oP))) (J5.fill hJ kx (by rintro rfl;rcases rL with h|h;(·exact(sV _ h).2.1 rfl);(·omega)) rL uZ oP (by have e3:(X1++[if false=true then q.2.1.av else aA.mk [] []]).set X1.length q.2.1.av=X1++[q.2.1.av]:=sm;rw[e3] at eu;exact eu))
  refine uf (λx lO p5 aW r7 qB=>?_) ?_
  refine di rfl ?_
  exact uv
  refine uf (λx lO p5 aW r7 qB=>?_) ?_
  refine zf zq rfl ?_
  exact uv
  refine uu (λx lO p5 aW S r7 qB hJ Ce hlen=>?_) ?_
  obtain⟨q0,q1,bo⟩:=lM hlen
  subst bo
  have hJ:J5 t5 (w1.heap.size::E) G2 oc b vt (.int .i64 (q.2.2:Int)) (.slice ph (N1++[nx]).length pj) (.slice ae (dD X1).length ce) ge X1 q.2.1.av (S 9) (S 12) p5 q1 lO:=hJ
  rw[Ce] at hJ
  obtain⟨bb,cap,e1,r5,rL,Gg,hO,uZ⟩:=J5.form hJ
  subst e1
  have M1:=hJ.box
  refine gW (o:=3) EX rfl rfl rfl M1 rfl ?_
  intro AI oP AD rW
  exact uU p5 (Fr.of oP (by rw[Gg];simp[eT])) ((λx hx=>lL (qB x hx) (ak.size oP))) (J5.field hJ oP AD (λg9 _ fL hx=>by rcases fL with h|⟨y,h,hy⟩;(·rw[h] at hx;exact(sV _ hx).2.1 rfl);(·rw[h] at hx;simp at hx;omega)) (by rw[Gg];simp[eT]))
  exact trivial
  intro x j3 kW aW iB ld hJ hlen
  obtain⟨q0,q1,bo⟩:=lM hlen
  subst bo
  intro v6 d6
  intro v9
  intro v12
  have er:=er.go iB;have eY:=eY.go iB
  change OW _ _ _ _ [] (aM (aN _ x _) (zZ 43 [_,_,_,_,_,_,_,_,_]++[(100009,_),(52,_),(53,_),(100012,_)])) _
  have hJ:J5 t5 (w1.heap.size::E) G2 oc b vt (.int .i64 (q.2.2:Int)) (.slice ph (N1++[nx]).length pj) (.slice ae (dD X1).length ce) ge X1 q.2.1.av true true kW q1 j3:=hJ
  obtain⟨g9,kx,dJ,fL⟩:=hJ.ex
  subst kx
  obtain⟨G3,yn,fV,TZ⟩:=hS.AA dJ hJ.aO fL
  have aI:=aI.aO hJ.aO (by intro hx;rcases mC.1 hx with h|h;(·exact wQ (by simp[h]));(·exact(sV _ h).1 sm))
  have hR:=hR.go fV
  have bj:=hJ.box
  have T7:∀x,x∈(w1.heap.size::E)++G3->x∈ge.toList++(g9.toList++((w1.heap.size::E)++G2)):=(λx hx=>by rcases mA.1 hx with h|h;(·exact mR _ (mR _ (List.mem_append_left _ h)));(·exact TZ x h))
  have eY:=eY.ji T7
  have er:iZ ((w1.heap.size::E)++G3) j3 _ _ _:=⟨er.cells,er.lt,λhx=>er.out (T7 _ hx)⟩
  have aw:M5 t5 (w1.heap.size::E) G3 j3 b ai q.2.2 (N1++[nx]) (X1++[q.2.1.av]):=⟨_,_,_,_,_,bj,yn⟩
  refine ag<|zr<|zm<|zm<|zi (i:=3) cv aH rfl rfl ((show 3<4 from om))<|zL bT aH rfl er.cells rfl<|aC (ih eb om bD.2.2 ai q.2.2 (N1++[nx]) (X1++[q.2.1.av]) (hB.sub ea.n om om so so) (w1.heap.size::E) G3 b _ j3 aw eY) ?_
  rintro Jg od ⟨G4,⟨nz,qA⟩,df⟩
  obtain⟨a5,n5,c5,e5,_,_⟩:=dM nz
  subst e5
  have hR:=hR.go df
  have aI:=aI.aO df.aO (aw.nE sm)
  have aw:=qA
  refine du aH rfl rfl rfl aI rfl ?_
  intro B9 vj aI dN
  have aw:=aw.aL vj sm;have nz:=nz.aL vj sm
  have hR:Fr F w G4 B9:=⟨hR.aO.since vj (λx hx=>.inr (by simp at hx;omega)),hR.mem⟩
  refine ag<|aV ?_
  exact⟨[_],gO bT aH rfl aI rfl,by rw[Jd];exact⟨G4,⟨nz.ji (λx hx=>mK _ hx),(by have e1:aX++(q.1++(nx,q.2.1)::(bu ai eb q.2.2).1).map Prod.fst=(N1++[nx])++(bu ai eb q.2.2).1.map Prod.fst:=(by rw[Cb];simp);have e2:exprs++(q.1++(nx,q.2.1)::(bu ai eb q.2.2).1).map (λp=>p.2.av)=(X1++[q.2.1.av])++(bu ai eb q.2.2).1.map (λp=>p.2.av):=(by rw[Cc];simp);show M5 t5 E G4 _ b ai _ (aX++(q.1++(nx,q.2.1)::(bu ai eb q.2.2).1).map Prod.fst) (exprs++(q.1++(nx,q.2.1)::(bu ai eb q.2.2).1).map (λp=>p.2.av));rw[e1,e2];exact aw.drop)⟩,hR⟩⟩
  have oR:e.head≠gM:=λhh=>h2 (jH.trans hh)
  refine zr<|cW rfl rfl<|zA<|ag<|zc rfl (λh3=>?_) (λh3=>?_)
  obtain⟨nf,nx,tA,tB,eb,rfl⟩:=IU bD (jH.symm.trans h3)
  have wJ:(Ex.fn nf nx tA tB eb).n=3+tA.n+tB.n+eb.n:=rfl
  have I1:(Ex.fn nf nx tA tB eb).av.au.length=6:=rfl
  obtain⟨b1,fY,gX,gY,e1,bC,dd⟩:=fI bc (i:=5) om
  cases e1
  have dd:bS ((gb::w1.heap.size::E)++F) w6 _ eb.av:=dd
  have aR:∃X,X=mW ai eb n:=⟨_,rfl⟩
  obtain⟨X,hX⟩:=aR
  refine aQ ?_
  apply kc ei (((gb::w1.heap.size::E)++F)) 8 (rA 61 8) (rA 61 8) [[],[0],[],[],[3],[4],[2,5],[1]] [Ie.v _,Ie.v _,Ie.v _,Ie.v _,Ie.v _,Ie.v _,Ie.e 0,Ie.v _] [6] [fun(G:List Nat) (vs:List Value) (ww:World)=>G=((gb::w1.heap.size::E)++F)∧kz E F w ww F b ai n aX exprs gb w1.heap.size (.slice (some ⟨gb,0,none⟩) (Ex.fn nf nx tA tB eb).av.au.length jd) (Ex.fn nf nx tA tB eb).av.au,fun(G:List Nat) (vs:List Value) (ww:World)=>∃G9,G=((gb::w1.heap.size::E)++G9)∧kz E G9 w ww F b ai (bu ai eb n).2.2 aX exprs gb w1.heap.size (.slice (some ⟨gb,0,none⟩) (Ex.fn nf nx tA tB eb).av.au.length jd) (Ex.fn nf nx tA tB eb).av.au∧bS ((gb::w1.heap.size::E)++G9) ww (vs.getD 0 undef) (mW ai eb n).av] de rfl bg.cZ (by exact trivial) (by exact⟨λG vs w w' ⟨h1,h2⟩ k=>⟨h1,h2.ext k⟩,λG vs w w' ⟨G9,h1,h2,h3⟩ k=>⟨G9,h1,h2.ext k,h3.ext k⟩,trivial⟩) (⟨rfl,bg⟩)
  refine vf (λ_ _ _ _ _ _=>zf cL rfl fv) ?_
  refine vf (λx w7 G7 aW iV jW=>?_) ?_
  have bQ:=bQ.go iV
  refine zl cI rfl (bQ.at rfl) ?_
  exact fv
  refine cR ?_
  refine cR ?_
  refine vf (λ_ _ _ _ _ _=>zi (i:=5) cv aH rfl rfl ((show 5<6 from om)) fv) ?_
  refine vf (λx w7 G7 aW iV jW=>?_) ?_
  have bC:=bC.go iV
  refine zL bT aH rfl bC.cells rfl ?_
  exact fv
  refine ve 0 (λx w7 G7 aW iV jW hJ hlen=>?_) ?_
  have bo:=jP hlen
  subst bo
  have dd:=dd.go iV
  obtain⟨cz,bg⟩:=hJ
  subst cz
  refine aC (I9 bD.2.2.2.2.2 (ih eb om bD.2.2.2.2.2) ai n aX exprs (hB.sub 0 om om sm sm) (gb::w1.heap.size::E) F b _ w7 bg.m dd) ?_
  rintro B4 w8 ⟨⟨dR,qC⟩,df⟩
  exact fe _ (df.in _) qC.bG.2.2 (⟨F,rfl,bg.call qC df,dR⟩)
  refine vf (λ_ _ _ _ _ _=>zi (i:=5) cv aH rfl rfl ((show 5<6 from om)) fv) ?_
  exact trivial
  intro x qD Jh aW wU Ji hJ hlen
  obtain⟨q0,bo⟩:=jQ hlen
  subst bo
  have bQ:=bQ.go wU
  change OW _ _ _ _ _ (aM (aN _ x _) (zZ 61 [_,_,_,_,_,_,_,_])) _
  obtain⟨G3,cz,bg,dR⟩:=hJ
  subst cz
  obtain⟨a7,n7,c7,e7,_,_⟩:=dM dR
  have e8:q0=_:=e7
  subst e8
  refine sP (i:=5) (vs:=[str (mW ai eb n).av.az,.slice a7 n7 c7]) (row:=(mW ai eb n).av.enc) aH rfl rfl rfl rfl (by first|rfl|exact Nat.zero_add _) bg.own bg.cZ sm (by rw[iG];omega) rfl (oT _) dR.kO ?_
  intro wK jk rW eu
  rw[sR] at eu
  have bQ:=bQ.aL jk bg.jA
  have bg:=bg.store jk eu
  refine ag<|zr<|zL bT aH rfl bQ.all rfl<|du aH rfl rfl rfl bg.bx rfl ?_
  intro j1 eS dv mn
  obtain⟨rX,rY,vi⟩:=bg.fin eS
  refine ag<|aV ?_
  exact⟨[_],gO bT aH rfl dv rfl,by show I3 ai E F b aX exprs w ([],.fn nf nx tA tB (mW ai eb n),(bu ai eb n).2.2) _ _;exact⟨G3,⟨rX,by rw[List.map_nil,List.append_nil,List.map_nil,List.append_nil];exact rY⟩,vi⟩⟩
  have rh:e.head≠il:=λhh=>h3 (jH.trans hh)
  refine zr<|cW rfl rfl<|zA<|ag<|zc rfl (λh4=>?_) (λh4=>?_)
  obtain⟨ea,eb,ec,rfl⟩:=Tx bD (jH.symm.trans h4)
  have wJ:(Ex.ite ea eb ec).n=1+ea.n+eb.n+ec.n:=rfl
  have I1:(Ex.ite ea eb ec).av.au.length=4:=rfl
  have Je:=T3 ai ea n
  have o3:=T2 ai ea n
  have aR:∃q,q=dU ai (bu ai ea n):=⟨_,rfl⟩
  obtain⟨q,hq⟩:=aR
  have Jd:bu ai (.ite ea eb ec) n=(q.1,.ite q.2.1 (mW ai eb q.2.2) (mW ai ec (bu ai eb q.2.2).2.2),(bu ai ec (bu ai eb q.2.2).2.2).2.2):=(by rw[hq];rfl)
  rw[<-hq] at Je o3
  have Tv:=iJ ai eb q.2.2
  have vR:(ea.n+eb.n)*(2*(ai.length+2))=ea.n*(2*(ai.length+2))+eb.n*(2*(ai.length+2)):=Nat.add_mul _ _ _
  obtain⟨b1,fY,gX,gY,e1,bC,dd⟩:=fI bc (i:=1) om
  cases e1
  have dd:bS ((gb::w1.heap.size::E)++F) w6 _ ea.av:=dd
  refine aQ ?_
  apply kc ei (((gb::w1.heap.size::E)++F)) 8 (rA 72 8) (rA 72 8) [[],[0],[],[],[3],[4],[2,5],[1]] [Ie.v _,Ie.v _,Ie.v _,Ie.v _,Ie.v _,Ie.v _,Ie.e 0,Ie.v _] [6] [fun(G:List Nat) (vs:List Value) (ww:World)=>G=((gb::w1.heap.size::E)++F)∧kz E F w ww F b ai n aX exprs gb w1.heap.size (.slice (some ⟨gb,0,none⟩) (Ex.ite ea eb ec).av.au.length jd) (Ex.ite ea eb ec).av.au,fun(G:List Nat) (vs:List Value) (ww:World)=>∃G9,G=((gb::w1.heap.size::E)++G9)∧kz E G9 w ww F b ai q.2.2 (aX++q.1.map Prod.fst) (exprs++q.1.map λp=>p.2.av) gb w1.heap.size (.slice (some ⟨gb,0,none⟩) (Ex.ite ea eb ec).av.au.length jd) (Ex.ite ea eb ec).av.au∧bS ((gb::w1.heap.size::E)++G9) ww (vs.getD 0 undef) q.2.1.av] de rfl bg.cZ (by exact trivial) (by exact⟨λG vs w w' ⟨h1,h2⟩ k=>⟨h1,h2.ext k⟩,λG vs w w' ⟨G9,h1,h2,h3⟩ k=>⟨G9,h1,h2.ext k,h3.ext k⟩,trivial⟩) (⟨rfl,bg⟩)
  refine vf (λ_ _ _ _ _ _=>zf cL rfl fv) ?_
  refine vf (λx w7 G7 aW iV jW=>?_) ?_
  have bQ:=bQ.go iV
  refine zl cI rfl (bQ.at rfl) ?_
  exact fv
  refine cR ?_
  refine cR ?_
  refine vf (λ_ _ _ _ _ _=>zi (i:=1) cv aH rfl rfl ((show 1<4 from om)) fv) ?_
  refine vf (λx w7 G7 aW iV jW=>?_) ?_
  have bC:=bC.go iV
  refine zL bT aH rfl bC.cells rfl ?_
  exact fv
  refine ve 0 (λx w7 G7 aW iV jW hJ hlen=>?_) ?_
  have bo:=jP hlen
  subst bo
  have dd:=dd.go iV
  obtain⟨cz,bg⟩:=hJ
  subst cz
  refine aC (TU bD.1 (ih ea om bD.1) ai n aX exprs (hB.sub 0 om om sm sm) (gb::w1.heap.size::E) F b _ w7 bg.m dd) ?_
  rintro B4 w8 ⟨G9,⟨dR,qC⟩,df⟩
  rw[<-hq] at dR qC
  exact fe _ (df.in _) qC.bG.2.2 (⟨G9,rfl,bg.call qC df,dR⟩)
  refine vf (λ_ _ _ _ _ _=>zi (i:=1) cv aH rfl rfl ((show 1<4 from om)) fv) ?_
  exact trivial
  intro x qD Jh aW wU Ji hJ hlen
  obtain⟨q0,bo⟩:=jQ hlen
  subst bo
  have bc:=bc.go wU;have bQ:=bQ.go wU;have bC:=bC.go wU;have dd:=dd.go wU
  change OW _ _ _ _ _ (aM (aN _ x _) (zZ 72 [_,_,_,_,_,_,_,_])) _
  obtain⟨G3,cz,bg,dR⟩:=hJ
  subst cz
  obtain⟨a7,n7,c7,e7,_,_⟩:=dM dR
  have e8:q0=_:=e7
  subst e8
  refine sP (i:=1) (vs:=[str q.2.1.av.az,.slice a7 n7 c7]) (row:=q.2.1.av.enc) aH rfl rfl rfl rfl (by first|rfl|exact Nat.zero_add _) bg.own bg.cZ sm (by rw[iG];omega) rfl (oT _) dR.kO ?_
  intro wK jk rW eu
  rw[sR] at eu
  have bc:=bc.aL jk bg.jA;have bQ:=bQ.aL jk bg.jA
  have bg:=bg.store jk eu
  refine ag<|aQ ?_
  obtain⟨b2,ni,jb,jc,e2,bC,dd⟩:=fI bc (i:=2) om
  cases e2
  have dd:bS ((gb::w1.heap.size::E)++G3) wK _ eb.av:=dd
  apply kc ei (((gb::w1.heap.size::E)++G3)) 8 (rA 80 8) (rA 80 8) [[],[0],[],[],[3],[4],[2,5],[1]] [Ie.v _,Ie.v _,Ie.v _,Ie.v _,Ie.v _,Ie.v _,Ie.e 0,Ie.v _] [6] [fun(G:List Nat) (vs:List Value) (ww:World)=>G=((gb::w1.heap.size::E)++G3)∧kz E G3 w ww F b ai q.2.2 (aX++q.1.map Prod.fst) (exprs++q.1.map λp=>p.2.av) gb w1.heap.size (.slice (some ⟨gb,0,none⟩) (Ex.ite ea eb ec).av.au.length jd) ((Ex.ite ea eb ec).av.au.set 1 q.2.1.av),fun(G:List Nat) (vs:List Value) (ww:World)=>∃G9,G=((gb::w1.heap.size::E)++G9)∧kz E G9 w ww F b ai (bu ai eb q.2.2).2.2 (aX++q.1.map Prod.fst) (exprs++q.1.map λp=>p.2.av) gb w1.heap.size (.slice (some ⟨gb,0,none⟩) (Ex.ite ea eb ec).av.au.length jd) ((Ex.ite ea eb ec).av.au.set 1 q.2.1.av)∧bS ((gb::w1.heap.size::E)++G9) ww (vs.getD 0 undef) (mW ai eb q.2.2).av] de rfl bg.cZ (by exact trivial) (by exact⟨λG vs w w' ⟨h1,h2⟩ k=>⟨h1,h2.ext k⟩,λG vs w w' ⟨G9,h1,h2,h3⟩ k=>⟨G9,h1,h2.ext k,h3.ext k⟩,trivial⟩) (⟨rfl,bg⟩)
  refine vf (λ_ _ _ _ _ _=>zf cL rfl fv) ?_
  refine vf (λx j1 D0 aW wN Gd=>?_) ?_
  have bQ:=bQ.go wN
  refine zl cI rfl (bQ.at rfl) ?_
  exact fv
  refine cR ?_
  refine cR ?_
  refine vf (λ_ _ _ _ _ _=>zi (i:=2) cv aH rfl rfl ((show 2<4 from om)) fv) ?_
  refine vf (λx j1 D0 aW wN Gd=>?_) ?_
  have bC:=bC.go wN
  refine zL bT aH rfl bC.cells rfl ?_
  exact fv
  refine ve 0 (λx j1 D0 aW wN Gd hJ hlen=>?_) ?_
  have bo:=jP hlen
  subst bo
  have dd:=dd.go wN
  obtain⟨cz,bg⟩:=hJ
  subst cz
  refine aC (I9 bD.2.1 (ih eb om bD.2.1) ai q.2.2 (aX++q.1.map Prod.fst) (exprs++q.1.map λp=>p.2.av) (hB.sub ea.n om om sm sm) (gb::w1.heap.size::E) G3 b _ j1 bg.m dd) ?_
  rintro B4 pe ⟨⟨dR,qC⟩,df⟩
  exact fe _ (df.in _) qC.bG.2.2 (⟨G3,rfl,bg.call qC df,dR⟩)
  refine vf (λ_ _ _ _ _ _=>zi (i:=2) cv aH rfl rfl ((show 2<4 from om)) fv) ?_
  exact trivial
  intro x w87 G87 aW Jj amb hJ hlen
  obtain⟨q0,bo⟩:=jQ hlen
  subst bo
  have bc:=bc.go Jj;have bQ:=bQ.go Jj;have bC:=bC.go Jj;have dd:=dd.go Jj
  change OW _ _ _ _ _ (aM (aN _ x _) (zZ 80 [_,_,_,_,_,_,_,_])) _
  obtain⟨G3,cz,bg,dR⟩:=hJ
  subst cz
  obtain⟨a7,n7,c7,e7,_,_⟩:=dM dR
  have e8:q0=_:=e7
  subst e8
  refine sP (i:=2) (vs:=[str (mW ai eb q.2.2).av.az,.slice a7 n7 c7]) (row:=(mW ai eb q.2.2).av.enc) aH rfl rfl rfl rfl (by first|rfl|exact Nat.zero_add _) bg.own bg.cZ sm (by rw[iG,List.length_set];omega) rfl (oT _) dR.kO ?_
  intro Gb AJ rW eu
  rw[sR] at eu
  have bc:=bc.aL AJ bg.jA;have bQ:=bQ.aL AJ bg.jA
  have bg:=bg.store AJ eu
  refine ag<|aQ ?_
  obtain⟨b3,B2,pT,pU,e3,bC,dd⟩:=fI bc (i:=3) om
  cases e3
  have dd:bS ((gb::w1.heap.size::E)++G3) Gb _ ec.av:=dd
  apply kc ei (((gb::w1.heap.size::E)++G3)) 8 (rA 88 8) (rA 88 8) [[],[0],[],[],[3],[4],[2,5],[1]] [Ie.v _,Ie.v _,Ie.v _,Ie.v _,Ie.v _,Ie.v _,Ie.e 0,Ie.v _] [6] [fun(G:List Nat) (vs:List Value) (ww:World)=>G=((gb::w1.heap.size::E)++G3)∧kz E G3 w ww F b ai (bu ai eb q.2.2).2.2 (aX++q.1.map Prod.fst) (exprs++q.1.map λp=>p.2.av) gb w1.heap.size (.slice (some ⟨gb,0,none⟩) (Ex.ite ea eb ec).av.au.length jd) (((Ex.ite ea eb ec).av.au.set 1 q.2.1.av).set 2 (mW ai eb q.2.2).av),fun(G:List Nat) (vs:List Value) (ww:World)=>∃G9,G=((gb::w1.heap.size::E)++G9)∧kz E G9 w ww F b ai (bu ai ec (bu ai eb q.2.2).2.2).2.2 (aX++q.1.map Prod.fst) (exprs++q.1.map λp=>p.2.av) gb w1.heap.size (.slice (some ⟨gb,0,none⟩) (Ex.ite ea eb ec).av.au.length jd) (((Ex.ite ea eb ec).av.au.set 1 q.2.1.av).set 2 (mW ai eb q.2.2).av)∧bS ((gb::w1.heap.size::E)++G9) ww (vs.getD 0 undef) (mW ai ec (bu ai eb q.2.2).2.2).av] de rfl bg.cZ (by exact trivial) (by exact⟨λG vs w w' ⟨h1,h2⟩ k=>⟨h1,h2.ext k⟩,λG vs w w' ⟨G9,h1,h2,h3⟩ k=>⟨G9,h1,h2.ext k,h3.ext k⟩,trivial⟩) (⟨rfl,bg⟩)
  refine vf (λ_ _ _ _ _ _=>zf cL rfl fv) ?_
  refine vf (λx sS T8 aW Gk T9=>?_) ?_
  have bQ:=bQ.go Gk
  refine zl cI rfl (bQ.at rfl) ?_
  exact fv
  refine cR ?_
  refine cR ?_
  refine vf (λ_ _ _ _ _ _=>zi (i:=3) cv aH rfl rfl ((show 3<4 from om)) fv) ?_
  refine vf (λx sS T8 aW Gk T9=>?_) ?_
  have bC:=bC.go Gk
  refine zL bT aH rfl bC.cells rfl ?_
  exact fv
  refine ve 0 (λx sS T8 aW Gk T9 hJ hlen=>?_) ?_
  have bo:=jP hlen
  subst bo
  have dd:=dd.go Gk
  obtain⟨cz,bg⟩:=hJ
  subst cz
  refine aC (I9 bD.2.2 (ih ec om bD.2.2) ai (bu ai eb q.2.2).2.2 (aX++q.1.map Prod.fst) (exprs++q.1.map λp=>p.2.av) (hB.sub (ea.n+eb.n) om om sm sm) (gb::w1.heap.size::E) G3 b _ sS bg.m dd) ?_
  rintro B4 j3 ⟨⟨dR,qC⟩,df⟩
  exact fe _ (df.in _) qC.bG.2.2 (⟨G3,rfl,bg.call qC df,dR⟩)
  refine vf (λ_ _ _ _ _ _=>zi (i:=3) cv aH rfl rfl ((show 3<4 from om)) fv) ?_
  exact trivial
  intro x amc amd aW aeH ame hJ hlen
  obtain⟨q0,bo⟩:=jQ hlen
  subst bo
  have bQ:=bQ.go aeH
  change OW _ _ _ _ _ (aM (aN _ x _) (zZ 88 [_,_,_,_,_,_,_,_])) _
  obtain⟨G3,cz,bg,dR⟩:=hJ
  subst cz
  obtain⟨a7,n7,c7,e7,_,_⟩:=dM dR
  have e8:q0=_:=e7
  subst e8
  refine sP (i:=3) (vs:=[str (mW ai ec (bu ai eb q.2.2).2.2).av.az,.slice a7 n7 c7]) (row:=(mW ai ec (bu ai eb q.2.2).2.2).av.enc) aH rfl rfl rfl rfl (by first|rfl|exact Nat.zero_add _) bg.own bg.cZ sm (by rw[iG,List.length_set,List.length_set];omega) rfl (oT _) dR.kO ?_
  intro IZ Ua rW eu
  rw[sR] at eu
  have bQ:=bQ.aL Ua bg.jA
  have bg:=bg.store Ua eu
  refine ag<|zr<|zL bT aH rfl bQ.all rfl<|du aH rfl rfl rfl bg.bx rfl ?_
  intro MQ B7 dv mn
  obtain⟨rX,rY,vi⟩:=bg.fin B7
  refine ag<|aV ?_
  exact⟨[_],gO bT aH rfl dv rfl,by rw[Jd];exact⟨G3,⟨rX,rY⟩,vi⟩⟩
  have mZ:e.head≠cC:=λhh=>h4 (jH.trans hh)
  have D5:=T5 fp oR rh
  have Bc:=aet ai n fp oR rh mZ
  have hpm:=aeu fp oR rh
  refine bz<|aQ<|zr<|zA<|ag<|cQ ?_
  refine fW (λk:Nat=>[(0,.pointer (some ⟨b,0,none⟩)),(4,.pointer (some ⟨w1.heap.size,0,none⟩)),(5,.slice (some ⟨b0,Av,none⟩) e.av.au.length c),(6,.pointer (some ⟨w4.heap.size,0,none⟩)),(8,.int .i64 ((e.from+k:Nat):Int))]) (λk ww=>∃G2,Fr ((gb::w1.heap.size::E)++F) w6 ((gb::w1.heap.size::E)++G2) ww∧kz E G2 w ww F b ai (gU ai e n k).2.2 (aX++(gU ai e n k).1.map Prod.fst) (exprs++(gU ai e n k).1.map λp=>p.2.av) gb w1.heap.size (.slice (some ⟨gb,0,none⟩) e.av.au.length jd) (mc [bZ e.head] (gU ai e n k).2.1 e)∧k<=e.kids.length) (λk=>e.kids.length-k) (0) (⟨rfl,rfl,rfl,rfl,by rw[D5];rfl⟩) (⟨F,Fr.refl _ _,by rw[show mc [bZ e.head] (gU ai e n 0).2.1 e=e.av.au from hpm.symm];simpa[gU] using bg,om⟩) ?_
  intro gg w7 e7 hI
  obtain⟨G2,pg,bg,hk⟩:=hI
  have bc:=bc.go pg;have bQ:=bQ.go pg
  refine aQ<|zr<|zm<|zm<|dX cv rfl<|fy rfl rfl rfl<|ag<|zc rfl (λh5=>?_) (λh5=>?_)
  have iu:gg<e.kids.length:=om
  have sJ:=wG gg iu
  have gP:=Na ai e n gg
  obtain⟨b1,fY,gX,gY,e1,bC,dd⟩:=fI bc (i:=e.from+gg) om
  cases e1
  have dd:=dd.eq sJ
  have tQ:=Fg bD iu
  have Bd:=yf iu
  have hkN:=BY e (gg+1)
  have lB:=aes ai e n hB iu
  refine bz<|aQ<|cQ ?_
  apply kc ei (((gb::w1.heap.size::E)++G2)) 10 (rA 103 10) (rA 103 10) [[],[0],[],[],[],[],[4,5],[6],[3,7],[1,2]] [Ie.v _,Ie.v _,Ie.v _,Ie.v _,Ie.v _,Ie.v _,Ie.v _,Ie.v _,Ie.e 0,Ie.v _] [8] [fun(G:List Nat) (vs:List Value) (ww:World)=>G=((gb::w1.heap.size::E)++G2)∧kz E G2 w ww F b ai (gU ai e n gg).2.2 (aX++(gU ai e n gg).1.map Prod.fst) (exprs++(gU ai e n gg).1.map λp=>p.2.av) gb w1.heap.size (.slice (some ⟨gb,0,none⟩) e.av.au.length jd) (mc [bZ e.head] (gU ai e n gg).2.1 e),fun(G:List Nat) (vs:List Value) (ww:World)=>∃G9,G=((gb::w1.heap.size::E)++G9)∧kz E G9 w ww F b ai (gU ai e n (gg+1)).2.2 (aX++(gU ai e n (gg+1)).1.map Prod.fst) (exprs++(gU ai e n (gg+1)).1.map λp=>p.2.av) gb w1.heap.size (.slice (some ⟨gb,0,none⟩) e.av.au.length jd) (mc [bZ e.head] (gU ai e n gg).2.1 e)∧bS ((gb::w1.heap.size::E)++G9) ww (vs.getD 0 undef) (dU ai (bu ai (fJ e gg) (gU ai e n gg).2.2)).2.1.av] de rfl bg.cZ (by exact trivial) (by exact⟨λG vs w w' ⟨h1,h2⟩ k=>⟨h1,h2.ext k⟩,λG vs w w' ⟨G9,h1,h2,h3⟩ k=>⟨G9,h1,h2.ext k,h3.ext k⟩,trivial⟩) (⟨rfl,bg⟩)
  refine vf (λ_ _ _ _ _ _=>zf cL rfl fv) ?_
  refine vf (λx w8 G8 aW Gl Ub=>?_) ?_
  have bQ:=bQ.go Gl
  refine zl cI rfl (bQ.at rfl) ?_
  exact fv
  refine cR ?_
  refine cR ?_
  refine cR ?_
  refine cR ?_
  refine vf (λ_ _ _ _ _ _=>zi cv aH rfl rfl om fv) ?_
  refine vf (λx w8 G8 aW Gl Ub=>?_) ?_
  have bC:=bC.go Gl
  refine zL bT aH rfl bC.cells rfl ?_
  exact fv
  refine ve 0 (λx w8 G8 aW Gl Ub hJ hlen=>?_) ?_
  have bo:=jP hlen
  subst bo
  have dd:=dd.go Gl
  obtain⟨cz,bg⟩:=hJ
  subst cz
  refine aC (TU tQ.1 (ih (fJ e gg) om tQ.1) ai (gU ai e n gg).2.2 (aX++(gU ai e n gg).1.map Prod.fst) (exprs++(gU ai e n gg).1.map λp=>p.2.av) lB (gb::w1.heap.size::E) G2 b _ w8 bg.m dd) ?_
  rintro B4 w9 ⟨G9,⟨dR,qC⟩,df⟩
  rw[List.append_assoc,List.append_assoc,<-List.map_append,<-List.map_append] at qC
  exact fe _ (df.in _) qC.bG.2.2 (⟨G9,rfl,bg.call qC df,dR⟩)
  refine vf (λ_ _ _ _ _ _=>zi cv aH rfl rfl om fv) ?_
  exact trivial
  intro x wK G47 aW aeK amg hJ hlen
  obtain⟨q0,bo⟩:=jQ hlen
  subst bo
  have pg:=pg.go aeK
  change OW _ _ _ _ _ (aM (aN _ x _) (zZ 103 [_,_,_,_,_,_,_,_,_,_])) _
  obtain⟨G3,cz,bg,dR⟩:=hJ
  subst cz
  obtain⟨a7,n7,c7,e7,_,_⟩:=dM dR
  have e8:q0=_:=e7
  subst e8
  have yV:((mc [bZ e.head] (gU ai e n gg).2.1 e)).set (e.from+gg) (dU ai (bu ai (fJ e gg) (gU ai e n gg).2.2)).2.1.av=(mc [bZ e.head] (gU ai e n (gg+1)).2.1 e):=(by have:=TA (pre:=[bZ e.head]) (acc:=(gU ai e n gg).2.1) (e:=e) (y:=(dU ai (bu ai (fJ e gg) (gU ai e n gg).2.2)).2.1) om;rw[show[bZ e.head].length=e.from from D5.symm,gP] at this;exact this)
  refine sP (i:=e.from+gg) (vs:=[str (dU ai (bu ai (fJ e gg) (gU ai e n gg).2.2)).2.1.av.az,.slice a7 n7 c7]) (row:=(dU ai (bu ai (fJ e gg) (gU ai e n gg).2.2)).2.1.av.enc) aH rfl rfl rfl rfl (by first|rfl|exact Nat.zero_add _) bg.own bg.cZ sm (by rw[iG,TC om];simp;omega) rfl (oT _) dR.kO ?_
  intro j1 eS rW eu
  rw[sR,yV] at eu
  have pg:=pg.aL eS bg.jA
  have bg:=bg.store eS eu
  refine ag<|db<|zm<|eF rfl rfl rfl (wrap_i64 _ om om)<|zA<|ag ?_
  exact⟨gg+1,⟨rfl,rfl,rfl,rfl,congrArg (Value.int .i64) om⟩,⟨G3,pg,bg,om⟩,om⟩
  have gH:gg=e.kids.length:=by omega
  subst gH
  have gP:=Na ai e n e.kids.length
  refine gB<|gC rfl<|zr<|zL bT aH rfl bQ.all rfl<|du aH rfl rfl rfl bg.bx rfl ?_
  intro w8 cu dv mn
  obtain⟨rX,rY,vi⟩:=bg.fin cu
  rw[TD gP,<-Bc.2.1] at rX
  rw[<-Bc.1,<-Bc.2.2] at rY
  refine ag<|aV ?_
  exact⟨[_],gO bT aH rfl dv rfl,⟨G2,⟨rX,rY⟩,vi⟩⟩
theorem D6 (s:aj):(bZ s).size=1+s.length:=by simp[bZ,aA.size,aA.size.sizes]
theorem aeL (hk:gQ h=true):h.length<=5:=by
 simp only[gQ,oE,dE] at hk
 rcases hk with rfl|rfl<;>decide
theorem aeM (hk:iz h=true):h.length<=5:=by
 simp only[iz,oE,dE] at hk
 rcases hk with(((rfl|rfl)|rfl)|rfl)|rfl<;>decide
theorem Ex.size:∀{e:Ex},e.ok->e.av.size<=30*e.n
 | .at s,h=>by
  have:s.length<=4:=oJ (e:=.at s) h
  show(bZ s).size<=_
  rw[D6];simp only[Ex.n];omega
 | .un hd a,h=>by
  have:=aeL h.1
  have:=Ex.size h.2
  show 1+0+aA.size.sizes [bZ hd,a.av]<=_
  simp only[aA.size.sizes,D6,Ex.n];omega
 | .bi hd a b,h=>by
  have:=aeM h.1
  have:=Ex.size h.2.1
  have:=Ex.size h.2.2
  show 1+0+aA.size.sizes [bZ hd,a.av,b.av]<=_
  simp only[aA.size.sizes,D6,Ex.n];omega
 | .ite a b c,h=>by
  have:=Ex.size h.1
  have:=Ex.size h.2.1
  have:=Ex.size h.2.2
  have:cC.length=2:=rfl
  show 1+0+aA.size.sizes [bZ cC,a.av,b.av,c.av]<=_
  simp only[aA.size.sizes,D6,Ex.n];omega
 | .lt x a b,h=>by
  have:=DH h.1
  have:=Ex.size h.2.1
  have:=Ex.size h.2.2
  have:gM.length=3:=rfl
  show 1+0+aA.size.sizes [bZ gM,bZ x,a.av,b.av]<=_
  simp only[aA.size.sizes,D6,Ex.n];omega
 | .fn f x A B e,h=>by
  have:=DH h.1
  have:=DH h.2.1
  have:=Ex.size h.2.2.2.2.2
  have:=A.size
  have:=B.size
  have:il.length=3:=rfl
  show 1+0+aA.size.sizes [bZ il,bZ f,bZ x,A.av,B.av,e.av]<=_
  simp only[aA.size.sizes,D6,Ex.n];omega
theorem Ex.aeN (h:e.ok):e.av.text.length<=60*e.n:=by
 have h1:=Lk e.av _ (lR _) (Ex.wf h).wf
 have h2:=Ex.size h
 omega
theorem aeO {q:Ex} (hq:nS e=some q):q.n<=4*e.n:=by
 unfold nS at hq
 cases hp:qq e with
 |none=>rw[hp] at hq;cases hq
 |some p=>
  have fP:p.n=e.n:=by
   unfold qq at hp
   split at hp
   ·cases hp;exact uL _ e [] 0
   ·cases hp
  rw[hp,Option.bind_some] at hq
  split at hq
  ·cases hq
   have:=uM (lJ p.av []) p 0
   show(nest _ _).n<=_
   rw[LF];omega
  ·cases hq
theorem aeP {p:Ex} (hp:qq e=some p):p.n=e.n:=by
 unfold qq at hp
 split at hp
 ·cases hp;exact uL _ e [] 0
 ·cases hp
theorem aeQ {T:Nat} (h:aY w b #[] T):eC L w T 2 (.slice (some ⟨b,0,none⟩) 0 0) (some b) []:=
 ⟨⟨[],LO h,trivial⟩,sm⟩
theorem aeR (ee:Ex) (hn:ee.n<=120) (bD:ee.ok) (v:Value) (w:World) (hv:bS [] w v ee.av):
  cj Tryz.prog 105 [v] w λr w'=>(∃tv T,r= .tuple #[tv,.bool (nS ee).isSome]∧bS [] w' tv T∧∀f,nS ee=some f->T=f.av)∧ak [] w w':=by
 have dI:=hv
 obtain⟨a,np,c,rfl,fH,bc⟩:=dM hv
 have hK:=ak.refl [] w
 refine lF [.cell 2 66,.tmp 3] 32 Tryz.func105 rfl XE rfl rfl rfl ?_
 refine zr<|fE rfl ?_
 intro w1 aK aT dY
 have hK:=hK.ext aK
 refine eA aH rfl rfl rfl ?_
 intro w2 aq aZ eM
 have hK:=hK.grow;have hK:=hK.ext aq;have aT:=aT.grow;have aT:=aT.ext aq
 refine zA<|ag<|zr<|zL bT aH rfl aT.all rfl<|aC (adY ee hn bD _ [w1.heap.size] w2 (by have:=aZ.lt;simpa using this) (bS.ext (bS.fresh dI (by intro x hx;simp at hx;right;omega)) hK)) ?_
 rintro v3 w3 ⟨eh,aJ⟩
 have fZ:=aJ.size
 have hK:=hK.ext aJ;have aT:=aT.ext aJ;have aZ:=aZ.ext aJ
 obtain⟨tv,rfl,hT⟩:=eh
 have aR:∃p,p=(cg (cE ee [] []) ee [] 0).1:=⟨_,rfl⟩
 obtain⟨p,mT⟩:=aR
 rw[<-mT] at hT
 obtain⟨a9,n9,c9,e9,_,_⟩:=dM hT
 subst e9
 have gj:=ak.refl [] w3
 have ky:=hT
 refine zm<|zx (i:=0) rfl rfl<|zx (i:=1) rfl rfl<|eA aH rfl rfl rfl ?_
 intro w4 aF aI iS
 have hK:=hK.grow;have hK:=hK.ext aF;have aT:=aT.grow;have aT:=aT.ext aF;have aZ:=aZ.grow;have aZ:=aZ.ext aF;have gj:=gj.grow;have gj:=gj.ext aF
 refine du aH rfl rfl rfl aI rfl ?_
 intro w5 aU aI jo
 have hK:=hK.aL aU sx;have aT:=aT.aL aU sx;have aZ:=aZ.aL aU sx;have gj:=gj.aL aU sx
 refine zA<|ag<|aQ<|zr<|zm<|eJ rfl<|ag<|zc rfl (λh1=>?_) (λh1=>?_)
 have hx:qq ee=none:=(by simpa using h1)
 have D7:nS ee=none:=by unfold nS;rw[hx];rfl
 refine zr<|zL bT aH rfl aT.all rfl<|du aH rfl rfl rfl aZ rfl ?_
 intro w6 bF aZ lG
 have hK:=hK.aL bF sx
 refine zA<|ag<|aV ?_
 exact⟨[_,_],⟨gO bT aH rfl aZ rfl,rfl⟩,⟨_,_,by rw[D7];rfl,bS.ext dI hK,λf hf=>by rw[D7] at hf;cases hf⟩,hK⟩
 have hp:qq ee=some p:=(by rw[mT];unfold qq at h1⊢;split;(·rfl);(·rename_i h9;rw[iN h9] at h1;exact absurd h1 sm))
 have Gm:=LG bD hp
 have fP:=aeP hp
 have FL:=Ex.size Gm
 have TM:=Ex.fN Gm
 have Bw:=RH p.av []
 rw[List.length_nil,Nat.zero_add,TM] at Bw
 have aR:∃ai,ai=lJ p.av []:=⟨_,rfl⟩
 obtain⟨ai,Nd⟩:=aR
 refine bz<|zr<|zL bT aH rfl aI.all rfl<|gN bh bA ?_
 intro w6 bF MS lG
 have hK:=hK.ext bF;have aT:=aT.ext bF;have aZ:=aZ.ext bF;have gj:=gj.ext bF;have aI:=aI.ext bF
 refine aC (adX p.av.size p.av (lR _) om (Ex.wf Gm).wf [] so _ _ (some _) w6 (bS.ext (bS.fresh ky (by intro x hx;simp at hx;right;omega)) gj) MS.lp) ?_
 rintro wT w7 ⟨g18,wV,Cg⟩
 have Nf:=Cg.aO.size
 have Ng:=wV.lt
 rw[<-Nd] at wV Bw
 obtain⟨a18,c18,vq⟩:=kt wV
 subst vq
 have hK:=hK.since Cg.aO (λx hx=>.inr (by have:=gj.size;simp at hx;omega))
 have gj:=gj.since Cg.aO (λx hx=>.inr (by simp at hx;omega))
 have aT:=aT.aO Cg.aO so
 have aZ:=aZ.aO Cg.aO so
 have aI:=aI.aO Cg.aO so
 have amj:=gj.size
 have amk:=aZ.lt
 refine gN bh bA ?_
 intro w8 cu Ch mn
 have hK:=hK.ext cu;have aZ:=aZ.ext cu;have gj:=gj.ext cu;have aI:=aI.ext cu;have wV:=wV.ext cu
 refine gN cv aH ?_
 intro w9 aG sX dN
 have hK:=hK.ext aG;have aZ:=aZ.ext aG;have gj:=gj.ext aG;have aI:=aI.ext aG;have wV:=wV.ext aG;have Ch:=Ch.ext aG
 refine j5 (ZO _ _ _ _ _ _ _ _ _ _ _) rfl rfl<|fE rfl ?_
 intro cM bU tT Bp
 have hK:=hK.ext bU;have aZ:=aZ.ext bU;have gj:=gj.ext bU;have aI:=aI.ext bU;have wV:=wV.ext bU;have Ch:=Ch.ext bU;have sX:=sX.ext bU
 refine zA<|ag<|zr<|zm<|zL bT aH rfl aI.all rfl ?_
 have aeS:=Ch.lt
 have Uc:=sX.lt
 have zy:=gj.size
 have o8:∀x,x∈[w1.heap.size]++[w9.heap.size,w7.heap.size,w8.heap.size]->x∉g18.toList:=(λx hx fF=>by have h1:=Ng x fF;have h2:=Cg.mem x fF;simp at hx h2;omega)
 have aml:=tT.lt
 have hmu:p.n*(2*(ai.length+2))<=120*(2*122):=Nat.mul_le_mul om om
 have hM:M5 t5 [w1.heap.size] [w9.heap.size,w7.heap.size,w8.heap.size] cM w9.heap.size ai 0 [] []:=⟨_,_,_,some _,some _,tT,⟨wV.rep (λx hx fF=>o8 x fF (by simp[hx])),Ch.lp,aeQ sX,rfl,by simp;omega,by intro x hx;simp at hx;omega⟩⟩
 refine aC (I9 Gm (aev p.n p (lR _) Gm) ai 0 [] [] ⟨by omega,by simp;omega,by simp;omega,om⟩ [w1.heap.size] _ w9.heap.size _ cM hM (bS.ext (bS.fresh ky (by intro x hx;simp at hx;rcases hx with h|h;(·exact .inl (by simp[h]));(·right;omega))) gj)) ?_
 rintro v25 eW ⟨⟨sY,aeU⟩,Nh⟩
 have aR:∃q,q=mW ai p 0:=⟨_,rfl⟩
 obtain⟨q,hq⟩:=aR
 rw[<-hq] at sY
 obtain⟨nA,nB,nC,Ni,_,_⟩:=dM sY
 subst Ni
 have aeV:=Nh.aO.size
 have hK:=hK.since Nh.aO (λx hx=>.inr (by have:=hK.size;simp at hx;omega))
 have aZ:=aZ.aO Nh.aO so
 obtain⟨vt,vn,vx,gn,ge,bj,_⟩:=aeU.open
 have bj:aY eW w9.heap.size [vt,.int .i64 ((bu ai p 0).2.2:Int),vn,vx].toArray 151:=bj
 have sY:=sY.ji (L':=[w1.heap.size]) sm
 refine eA aH rfl rfl rfl ?_
 intro gh dC cG Nj
 have hK:=hK.grow;have hK:=hK.ext dC;have aZ:=aZ.grow;have aZ:=aZ.ext dC;have sY:=sY.grow;have sY:=sY.ext dC;have bj:=bj.grow;have bj:=bj.ext dC
 refine du aH rfl rfl rfl cG rfl ?_
 intro jD fK cG Ge
 have hK:=hK.aL fK sx;have aZ:=aZ.aL fK sx;have sY:=sY.aL fK sx;have bj:=bj.aL fK sx
 refine ag<|aQ ?_
 refine qf ei (cP w1.heap.size ([str q.av.az,.slice nA nB nC]) 66) 8 (rA 26 6++[100006,3]) (rA 26 6++[100006,3]) [[],[],[1],[2],[3],[4],[0],[5]] [λv _=>v=(.agg #[str q.av.az,.slice nA nB nC]),λv _=>v=(.pointer (some ⟨w9.heap.size,0,none⟩)),λv _=>v=(.pointer (some ⟨w9.heap.size,0,none⟩)),λv _=>v=(.pointer (some ⟨w9.heap.size,0+1,none⟩)),λv _=>v=(.int .i64 ((bu ai p 0).2.2:Int)),λv _=>v=(.bool (decide (((bu ai p 0).2.2:Int)<=100))),λ_ ww=>aY ww w1.heap.size ([str q.av.az,.slice nA nB nC]).toArray 66,λv _=>v=(.bool (decide (((bu ai p 0).2.2:Int)<=100)))] de (cX (cX (cX (cX (cX (cX (CY (cX trivial)))))))) (λwd aB=>?_) ?_
 refine bN ?_ ?_
 intro x vs je e dK hd he
 replace dK:=(cP w1.heap.size ([str q.av.az,.slice nA nB nC]) 66).trans aB dK
 have cG:=cG.aL dK.1 sx
 replace he:e=aM (aN _ x _) []:=he
 subst he
 refine zL bT aH rfl cG.all rfl<|ag ?_
 exact dn ((cP w1.heap.size ([str q.av.az,.slice nA nB nC]) 66).refl _) rfl
 refine bN ?_ ?_
 intro x vs je e dK hd he
 replace dK:=(cP w1.heap.size ([str q.av.az,.slice nA nB nC]) 66).trans aB dK
 replace he:e=aM (aN _ x _) []:=he
 subst he
 refine zm<|ag ?_
 exact dn ((cP w1.heap.size ([str q.av.az,.slice nA nB nC]) 66).refl _) rfl
 refine bN ?_ ?_
 intro x vs je e dK hd he
 have d1:vs 1=(.pointer (some ⟨w9.heap.size,0,none⟩)):=hd
 replace dK:=(cP w1.heap.size ([str q.av.az,.slice nA nB nC]) 66).trans aB dK
 replace he:e=aM (aN _ x _) [(27,vs 1)]:=he
 rw[d1] at he
 subst he
 refine di rfl<|ag ?_
 exact dn ((cP w1.heap.size ([str q.av.az,.slice nA nB nC]) 66).refl _) rfl
 refine bN ?_ ?_
 intro x vs je e dK hd he
 have d2:vs 2=(.pointer (some ⟨w9.heap.size,0,none⟩)):=hd
 replace dK:=(cP w1.heap.size ([str q.av.az,.slice nA nB nC]) 66).trans aB dK
 replace he:e=aM (aN _ x _) [(28,vs 2)]:=he
 rw[d2] at he
 subst he
 refine zf HD rfl<|ag ?_
 exact dn ((cP w1.heap.size ([str q.av.az,.slice nA nB nC]) 66).refl _) rfl
 refine bN ?_ ?_
 intro x vs je e dK hd he
 have d3:vs 3=(.pointer (some ⟨w9.heap.size,0+1,none⟩)):=hd
 replace dK:=(cP w1.heap.size ([str q.av.az,.slice nA nB nC]) 66).trans aB dK
 have bj:=bj.aL dK.1 sx
 replace he:e=aM (aN _ x _) [(29,vs 3)]:=he
 rw[d3] at he
 subst he
 refine zl qN rfl (bj.at rfl)<|ag ?_
 exact dn ((cP w1.heap.size ([str q.av.az,.slice nA nB nC]) 66).refl _) rfl
 refine bN ?_ ?_
 intro x vs je e dK hd he
 have d4:vs 4=(.int .i64 ((bu ai p 0).2.2:Int)):=hd
 replace dK:=(cP w1.heap.size ([str q.av.az,.slice nA nB nC]) 66).trans aB dK
 replace he:e=aM (aN _ x _) [(30,vs 4)]:=he
 rw[d4] at he
 subst he
 refine qK rfl rfl rfl rfl rfl<|ag ?_
 exact dn ((cP w1.heap.size ([str q.av.az,.slice nA nB nC]) 66).refl _) rfl
 refine bN ?_ ?_
 intro x vs je e dK hd he
 have d0:vs 0=(.agg #[str q.av.az,.slice nA nB nC]):=hd
 replace dK:=(cP w1.heap.size ([str q.av.az,.slice nA nB nC]) 66).trans aB dK
 obtain⟨us,uX,uY⟩:=dK.2.2 ⟨_,(by rfl),aZ⟩
 replace he:e=aM (aN _ x _) [(26,vs 0)]:=he
 rw[d0] at he
 subst he
 refine du aH rfl rfl rfl uY (by rw[uX];rfl) ?_
 intro p6 jE hb IS
 refine ag ?_
 exact dn ⟨jE,λ_=>hb,λ_=>⟨_,rfl,hb⟩⟩ hb
 refine bN ?_ ?_
 intro x vs je e dK hd he
 have d5:vs 5=(.bool (decide (((bu ai p 0).2.2:Int)<=100))):=hd
 replace dK:=(cP w1.heap.size ([str q.av.az,.slice nA nB nC]) 66).trans aB dK
 replace he:e=aM (aN _ x _) [(31,vs 5)]:=he
 rw[d5] at he
 subst he
 refine zA<|ag ?_
 exact dn ((cP w1.heap.size ([str q.av.az,.slice nA nB nC]) 66).refl _) rfl
 exact trivial
 intro x vs mi pq bJ
 have d0:vs 0=(.agg #[str q.av.az,.slice nA nB nC]):=bJ 0 de
 have d1:vs 1=(.pointer (some ⟨w9.heap.size,0,none⟩)):=bJ 1 de
 have d2:vs 2=(.pointer (some ⟨w9.heap.size,0,none⟩)):=bJ 2 de
 have d3:vs 3=(.pointer (some ⟨w9.heap.size,0+1,none⟩)):=bJ 3 de
 have d4:vs 4=(.int .i64 ((bu ai p 0).2.2:Int)):=bJ 4 de
 have d5:vs 5=(.bool (decide (((bu ai p 0).2.2:Int)<=100))):=bJ 5 de
 have d6:aY mi w1.heap.size ([str q.av.az,.slice nA nB nC]).toArray 66:=bJ 6 de
 have d7:vs 7=(.bool (decide (((bu ai p 0).2.2:Int)<=100))):=bJ 7 de
 have hK:=hK.aL pq.1 sx;have sY:=sY.aL pq.1 sx
 have aZ:=d6
 change OW _ _ _ _ [] (aM (aN _ x _) (zZ 26 [vs 0,vs 1,vs 2,vs 3,vs 4,vs 5]++[(100006,vs 6),(3,vs 7)])) _
 rw[d0,d1,d2,d3,d4,d5,d7]
 refine ag<|aV ?_
 exact⟨[_,_],⟨gO bT aH rfl aZ rfl,rfl⟩,⟨_,q.av,congrArg (λb=>Value.tuple #[_,.bool b]) (show decide (((bu ai p 0).2.2:Int)<=100)=(nS ee).isSome from by unfold nS;rw[hp,Option.bind_some,<-Nd];by_cases h:(bu ai p 0).2.2<=100;(·rw[iP h];exact dT om);(·rw[iN h];exact dF om)),sY.ji sm,λf hf=>by unfold nS at hf;rw[hp,Option.bind_some,<-Nd] at hf;split at hf;(·cases hf;rw[hq]);(·cases hf)⟩,hK⟩
theorem aeW (s:aj) (w:World):cj Tryz.prog 79 [str s] w λr w'=>(∃x ok,r= .tuple #[str x,.bool ok]∧(ok=true↔∃e f,ba s=some e.av∧e.ok∧e.n<=120∧nS e=some f∧mv f.av.text=true)∧∀e f,ba s=some e.av->e.ok->nS e=some f->ok=true->x=f.av.text)∧ak [] w w':=by
 have hK:=ak.refl [] w
 refine cV [.tmp 2,.tmp 3] 30 Tryz.func79 rfl Zs rfl rfl ?_
 refine zr<|zA<|zA<|ag<|zr<|zm<|aC (FU s [] w sm) ?_
 rintro v1 w1 ⟨fM,aK⟩
 have dQ:=aK.size
 have hK:=hK.ext aK
 obtain⟨t,tv,rfl,ht,hp⟩:=fM
 obtain⟨pa,pn,pc,rfl,fP,bc⟩:=dM ht
 refine zm<|zx (i:=0) rfl rfl<|zx (i:=1) rfl rfl<|eA aH rfl rfl rfl ?_
 intro w2 aq aI eM
 have hK:=hK.grow;have hK:=hK.ext aq;have ht:=ht.grow;have ht:=ht.ext aq
 refine du aH rfl rfl rfl aI rfl ?_
 intro w3 aJ aI iH
 have hK:=hK.aL aJ sx;have ht:=ht.aL aJ sx
 refine zA<|ag<|aQ<|zr<|zm<|eJ rfl<|ag<|zc rfl (λh1=>?_) (λh1=>?_)
 have hx:mv s=false:=by simpa using h1
 refine zr<|zA<|zA<|ag<|aV ?_
 exact⟨_,rfl,⟨_,false,rfl,⟨λh=>by(cases h),fun⟨e,f,h1,h2,h3,_⟩=>by rw[wE.2 ⟨e,h1,h2,h3⟩] at hx;cases hx⟩,λ_ _ _ _ _ h=>by cases h⟩,hK⟩
 have hx:mv s=true:=by simpa using h1
 obtain⟨e,he,bD,hn⟩:=wE.1 hx
 have e2:=hp.1 _ he
 subst e2
 have D8:∀{e':Ex},ba s=some e'.av->e'.ok->e'=e:=(λh1 h2=>qy h2 bD (Option.some.inj (h1.symm.trans he)))
 refine bz<|zr<|zL bT aH rfl aI.all rfl<|aC (aeR e hn bD _ w3 (ht.ji sm)) ?_
 rintro v4 w4 ⟨eH,aF⟩
 have gI:=aF.size
 have hK:=hK.ext aF
 obtain⟨tv2,T,rfl,hT,Nk⟩:=eH
 obtain⟨jb,As,jc,rfl,IE,amn⟩:=dM hT
 refine zm<|zx (i:=0) rfl rfl<|zx (i:=1) rfl rfl<|eA aH rfl rfl rfl ?_
 intro w5 aU bQ jo
 have hK:=hK.grow;have hK:=hK.ext aU;have hT:=hT.grow;have hT:=hT.ext aU
 refine du aH rfl rfl rfl bQ rfl ?_
 intro w6 bF bQ lG
 have hK:=hK.aL bF sx;have hT:=hT.aL bF sx
 refine zA<|ag<|aQ<|zr<|zm<|eJ rfl<|zm<|xo (t:=22) rfl (λh2=>?_) (λh2=>?_)
 replace h2:=bw h2
 have D7:nS e=none:=(by simpa using h2)
 refine zs<|zs<|zs<|zs<|zp rfl<|ag<|zc rfl (λh3=>?_) (λh3=>?_)
 refine zr<|zA<|zA<|ag<|aV ?_
 exact⟨_,rfl,⟨_,false,rfl,⟨λh=>by(cases h),fun⟨e',f',h1,h2,h3,h4,_⟩=>by cases D8 h1 h2;rw[D7] at h4;cases h4⟩,λ_ _ _ _ _ h=>by cases h⟩,hK⟩
 simp at h3
 replace h2:=bw h2
 have aR:∃f,nS e=some f:=(by cases hh:nS e;(·simp[hh] at h2);(·exact⟨_,rfl⟩))
 obtain⟨f,hf⟩:=aR
 have e9:=Nk f hf
 subst e9
 have AK:=LH bD hf
 have Nl:=aeO hf
 have Jk:=Ex.size AK
 have Nn:=Ex.aeN AK
 refine zL bT aH rfl bQ.all rfl<|aC (tx f.av.size f.av (lR _) (Ex.wf AK).wf om om _ _ w6 hT) ?_
 rintro v7 w7 ⟨iT,cw⟩
 have pb:=cw.size
 have hK:=hK.ext cw;have hT:=hT.ext cw;have bQ:=bQ.ext cw
 obtain rfl:=iT
 refine aC (MC _ w7) ?_
 rintro v8 w8 ⟨p3,cu⟩
 have Ay:=cu.size
 have hK:=hK.ext cu;have hT:=hT.ext cu;have bQ:=bQ.ext cu
 obtain rfl:=p3
 refine eJ rfl<|zp rfl<|ag<|zc rfl (λh4=>?_) (λh4=>?_)
 have fF:mv f.av.text=false:=(by simpa using h4)
 refine zr<|zA<|zA<|ag<|aV ?_
 exact⟨_,rfl,⟨_,false,rfl,⟨λh=>by(cases h),fun⟨e',f',h1,h2,h3,h4,h5⟩=>by cases D8 h1 h2;rw[hf] at h4;cases h4;rw[fF] at h5;cases h5⟩,λ_ _ _ _ _ h=>by cases h⟩,hK⟩
 have fF:mv f.av.text=true:=(by simpa using h4)
 refine bz<|zr<|zL bT aH rfl bQ.all rfl<|aC (tx f.av.size f.av (lR _) (Ex.wf AK).wf om om _ _ w8 hT) ?_
 rintro v9 w9 ⟨eR,aG⟩
 have pd:=aG.size
 have hK:=hK.ext aG
 obtain rfl:=eR
 refine zA<|zA<|ag<|aV ?_
 exact⟨_,rfl,⟨_,true,rfl,⟨λ_=>⟨e,f,he,bD,hn,hf,fF⟩,λ_=>rfl⟩,λe' f' h1 h2 h3 _=>by cases D8 h1 h2;rw[hf] at h3;cases h3;rfl⟩,hK⟩
def fj:Option Ty->aj
 |some T=>T.text
 |none=>[]
def mz (h:aj) (Ts:List Ty):Prop:=(gQ h=true∧∃A,Ts=[A])∨(iz h=true∧∃A B,Ts=[A,B])∨(h=cC∧∃A B C,Ts=[A,B,C])
theorem mz.pos {Ts:List Ty} (hj:mz h Ts):0<Ts.length:=by
 rcases hj with⟨_,A,rfl⟩|⟨_,A,B,rfl⟩|⟨_,A,B,C,rfl⟩<;>simp
theorem mz.three {Ts:List Ty} (hj:mz cC Ts):∃A B C,Ts=[A,B,C]:=by
 rcases hj with⟨h,_⟩|⟨h,_⟩|⟨_,h⟩
 ·exact absurd h de
 ·exact absurd h de
 ·exact h
theorem mz.two {Ts:List Ty} (hj:mz h Ts) (hb:iz h=true):∃A B,Ts=[A,B]:=by
 rcases hj with⟨h1,_⟩|⟨_,h1⟩|⟨rfl,_⟩
 ·exfalso
  simp only[gQ,oE,dE] at h1
  rcases h1 with rfl|rfl<;>exact absurd hb de
 ·exact h1
 ·exact absurd hb de
theorem mz.one {Ts:List Ty} (hj:mz h Ts) (hb:gQ h=true):∃A,Ts=[A]:=by
 rcases hj with⟨_,h1⟩|⟨h1,_⟩|⟨rfl,_⟩
 ·exact h1
 ·exfalso
  simp only[gQ,oE,dE] at hb
  rcases hb with rfl|rfl<;>exact absurd h1 de
 ·exact absurd hb de
def yo (f:Bool):Ty->Option (Ty×Ty)
 | .op g a b=>if g=f then some (a,b) else none
 | .i=>none
theorem Ud:A.text=[105]↔A= .i:=⟨λh=>Ty.inj (h.trans (rfl:([105]:aj)=Ty.text .i)),λh=>by rw[h];rfl⟩
theorem aeX:gQ BI=true:=by simp[gQ]
theorem aeY:gQ qW=true:=by simp[gQ]
theorem Ue:iz kD=true:=by simp[iz]
theorem aeZ:iz xM=true:=by simp[iz]
theorem Uf (hh:(h=[43]∨h=[45])∨h=[42]):iz h=true:=by
 rcases hh with(rfl|rfl)|rfl<;>simp[iz]
theorem ae0 (h:aj) (ks:List aj) (hl:ks.length<=1000) (hn:[]∈ks) (v:Value) (L:List Nat) (w:World) (hv:bI L w v ks):
  cj Tryz.prog 155 [str h,v] w λr w'=>r=str []∧ak [] w w':=by
 have hK:=ak.refl [] w
 refine cV [.tmp 4] 117 Tryz.func155 rfl PI rfl rfl ?_
 refine zr<|zA<|ag<|aQ<|zr<|zm<|aC (zR ks om [] _ _ w hv) ?_
 rintro v1 w1 ⟨fM,aK⟩
 have dQ:=aK.size
 have hK:=hK.ext aK
 obtain rfl:=fM
 refine ag<|zc rfl (λh1=>?_) (λh1=>?_)
 refine zr<|zA<|ag<|aV ?_
 exact⟨_,rfl,rfl,hK⟩
 exact absurd hn (by simpa using h1)
theorem ae1 (ho:o=yo true A) (hs:o.isSome=true) (he:sO o=B.text):str (yb o)=str (fj (k9 kD [A,B])):=by
 cases A with
 |i=>rw[ho] at hs;cases hs
 |op g a b=>
  cases g with
  |false=>rw[ho] at hs;cases hs
  |true=>
   subst ho
   have he:a.text=B.text:=he
   show str b.text=str (fj (if k8 a B=true then some b else none))
   rw[iP (show k8 a B=true from dT he)];rfl
theorem Ug (ho:o=yo false A) (hs:o.isSome=true):str (sO o)=str (fj (k9 BI [A]))∧str (yb o)=str (fj (k9 qW [A])):=by
 cases A with
 |i=>rw[ho] at hs;cases hs
 |op g a b=>
  cases g with
  |true=>rw[ho] at hs;cases hs
  |false=>subst ho;exact⟨rfl,rfl⟩
theorem ae2 (A B:Ty):fj (k9 xM [A,B])=if 1+A.n+B.n<=16 then(Ty.op false A B).text else[]:=by
 show fj (if 1+A.n+B.n<=16 then some (.op false A B) else none)=_
 split<;>rfl
theorem ae3 (hh:(h=[43]∨h=[45])∨h=[42]):fj (k9 h [.i,.i])=[105]:=by
 rcases hh with(rfl|rfl)|rfl<;>rfl
theorem ae4 (hj:mz h (A::r9)) {o1 o2:Option (Ty×Ty)} (wW:o1=yo true A) (vv:o2=yo false A) 
  (bC:(decide (h=cC)&&decide (A.text=[105])&&decide ((aD ((A::r9).map Ty.text) 1)=(aD ((A::r9).map Ty.text) 2)))=false) (bX:(decide (h=kD)&&o1.isSome&&decide (sO o1=(aD ((A::r9).map Ty.text) 1)))=false) (er:¬h=xM)
  (jJ:(decide (h=BI)&&o2.isSome)=false) (jY:(decide (h=qW)&&o2.isSome)=false) (qj:(((decide (h=[43])||decide (h=[45]))||decide (h=[42]))&&decide (A.text=[105])&&decide ((aD ((A::r9).map Ty.text) 1)=[105]))=false):fj (k9 h (A::r9))=[]:=by
 rcases hj with⟨hu,A0,e⟩|⟨hb,A0,B,e⟩|⟨rfl,A0,B,C0,e⟩<;>cases e
 ·simp only[gQ,oE,dE] at hu
  cases A with
  |i=>rfl
  |op g a b=>
   cases g with
   |true=>rfl
   |false=>
    subst vv
    rcases hu with rfl|rfl
    ·exact Bool.noConfusion (show true=false from jJ)
    ·exact Bool.noConfusion (show true=false from jY)
 ·have No:aD ([A,B].map Ty.text) 1=B.text:=rfl
  rw[No] at bX qj
  have Np:(h=[43]∨h=[45])∨h=[42]->fj (k9 h [A,B])=[]:=λhh=>by
   have h0:((decide (h=[43])||decide (h=[45]))||decide (h=[42]))=true:=by simpa using hh
   rw[h0,Bool.true_and,Bool.and_eq_false_iff] at qj
   have h1:k9 h [A,B]=if(k8 A .i&&k8 B .i)=true then some .i else none:=by
    rcases hh with(rfl|rfl)|rfl<;>rfl
   have hi:Ty.i.text=[105]:=rfl
   rw[h1,iN (by unfold k8;rw[hi];rcases qj with h|h<;>rw[h]<;>simp)];rfl
  simp only[iz,oE,dE] at hb
  rcases hb with(((rfl|rfl)|rfl)|rfl)|rfl
  ·exact Np (.inl (.inl rfl))
  ·exact Np (.inl (.inr rfl))
  ·exact Np (.inr rfl)
  ·cases A with
   |i=>rfl
   |op g a b=>
    cases g with
    |false=>rfl
    |true=>
     subst wW
     have bX:decide (a.text=B.text)=false:=bX
     show fj (if k8 a B=true then some b else none)=[]
     rw[iN (by unfold k8;rw[bX];simp)];rfl
  ·exact absurd rfl er
 ·have No:aD ([A,B,C0].map Ty.text) 1=B.text:=rfl
  have hcC:aD ([A,B,C0].map Ty.text) 2=C0.text:=rfl
  rw[No,hcC] at bC
  have bC:(decide (A.text=[105])&&decide (B.text=C0.text))=false:=bC
  show fj (if(k8 A .i&&k8 B C0)=true then some B else none)=[]
  have hi:Ty.i.text=[105]:=rfl
  rw[iN (by unfold k8;rw[hi,bC];simp)];rfl
theorem ae6 (hj:mz h (A::r9)) (hh:h=cC) (hA:A.text=[105]) (hB:(aD ((A::r9).map Ty.text) 1)=(aD ((A::r9).map Ty.text) 2)):str (aD ((A::r9).map Ty.text) 1)=str (fj (k9 h (A::r9))):=by
 subst hh
 obtain⟨A0,B,C0,e⟩:=hj.three
 cases e
 have hB:B.text=C0.text:=hB
 show str B.text=str (fj (if(k8 A .i&&k8 B C0)=true then some B else none))
 rw[iP (by rw[aE];exact⟨dT hA,dT hB⟩)];rfl
theorem ae7 (hj:mz h (A::r9)) (hh:h=kD) (ho:o=yo true A) (hs:o.isSome=true) (he:sO o=(aD ((A::r9).map Ty.text) 1)):str (yb o)=str (fj (k9 h (A::r9))):=by
 subst hh
 obtain⟨A0,B,e⟩:=hj.two Ue
 cases e
 exact ae1 ho hs he
theorem ae8 (hj:mz h (A::r9)) (hh:h=BI) (ho:o=yo false A) (hs:o.isSome=true):str (sO o)=str (fj (k9 h (A::r9))):=by
 subst hh
 obtain⟨A0,e⟩:=hj.one aeX
 cases e
 exact(Ug ho hs).1
theorem ae9 (hj:mz h (A::r9)) (hh:h=qW) (ho:o=yo false A) (hs:o.isSome=true):str (yb o)=str (fj (k9 h (A::r9))):=by
 subst hh
 obtain⟨A0,e⟩:=hj.one aeY
 cases e
 exact(Ug ho hs).2
theorem afa (hh:h=xM) (e:A::r9=[A,B]):str (if 1+A.n+B.n<=16 then(Ty.op false A B).text else[])=str (fj (k9 h (A::r9))):=by
 subst hh
 rw[e,ae2]
theorem afb (hj:mz h (A::r9)) (hh:(h=[43]∨h=[45])∨h=[42]) (hA:A.text=[105]) (hB:(aD ((A::r9).map Ty.text) 1)=[105]):str [105]=str (fj (k9 h (A::r9))):=by
 obtain⟨A0,B,e⟩:=hj.two (Uf hh)
 cases e
 have hB:B.text=[105]:=hB
 obtain rfl:=Ud.1 hA
 obtain rfl:=Ud.1 hB
 rw[ae3 hh]
theorem afc (hj:mz h (A::r9)) (hh:h=xM):∃B,A::r9=[A,B]∧(aD ((A::r9).map Ty.text) 1)=B.text:=by
 subst hh
 obtain⟨A0,B,e⟩:=hj.two aeZ
 cases e
 exact⟨B,rfl,rfl⟩
set_option maxHeartbeats 4000000 in
theorem afd (h:aj) (Ts:List Ty) (hj:mz h Ts) (hT:∀T,T∈Ts->T.n<=16) (v:Value) (L:List Nat) (w:World) (hv:bI L w v (Ts.map Ty.text)):
  cj Tryz.prog 155 [str h,v] w λr w'=>r=str (fj (k9 h Ts))∧ak [] w w':=by
 have hK:=ak.refl [] w
 have hp:=hj.pos
 have dI:=hv
 obtain⟨a,np,c,rfl,Uh⟩:=eN hv
 have fh:(Ts.map Ty.text).length=Ts.length:=by simp
 rw[fh] at Uh
 subst Uh
 obtain⟨A,r9,rfl⟩:∃A r,Ts=A::r:=by cases Ts with|nil=>simp at hp|cons A r=>exact⟨A,r,rfl⟩
 have hA:=hT A sm
 have hg:∀i,i<(A::r9).length->(((A::r9).map Ty.text)[i]?=some (aD ((A::r9).map Ty.text) i)):=λi hi=>ll (by rw[fh];exact hi)
 obtain⟨b,off,rfl,ey⟩:=qR dI (hg 0 hp)
 have hx:∀i,i<(A::r9).length->iQ w b (off+i*1) [str (aD ((A::r9).map Ty.text) i)]:=λi hi=>by obtain⟨b1,fY,e1,hc⟩:=qR dI (hg i hi);cases e1;exact hc
 have eK:([]:aj)∉(A::r9).map Ty.text:=λhm=>by obtain⟨T,_,h2⟩:=List.mem_map.1 hm;exact absurd h2 T.ne
 refine cV [.tmp 4] 117 Tryz.func155 rfl PI rfl rfl ?_
 refine zr<|zA<|ag<|aQ<|zr<|zm<|aC (zR ((A::r9).map Ty.text) (by rw[fh];rcases hj with⟨_,_,e⟩|⟨_,_,_,e⟩|⟨_,_,_,_,e⟩<;>rw[e]<;>simp) [] _ _ w dI) ?_
 rintro v1 w1 ⟨fM,aK⟩
 have dQ:=aK.size
 have hK:=hK.ext aK
 obtain rfl:=fM
 refine ag<|zc rfl (λh1=>?_) (λh1=>?_)
 exact absurd (by simpa using h1) eK
 refine bz<|zr<|zm<|zi (i:=0) bh bA rfl rfl hp<|zl ck rfl ((hx 0 hp).ext hK 0 _ rfl)<|aC (S2 A.text w1) ?_
 rintro v2 w2 ⟨dA,aq⟩
 have eE:=aq.size
 have hK:=hK.ext aq
 obtain⟨o1,wW,rfl⟩:=dA
 have wW:o1=yo true A:=(by have:=S4 hA true wW;cases A<;>exact this)
 refine zm<|zx (i:=0) rfl rfl<|zx (i:=1) rfl rfl<|zx (i:=2) rfl rfl<|zA<|zA<|zA<|ag<|zr<|zm<|zi (i:=0) bh bA rfl rfl hp<|zl ck rfl ((hx 0 hp).ext hK 0 _ rfl)<|aC (S3 A.text w2) ?_
 rintro v3 w3 ⟨eh,aJ⟩
 have fZ:=aJ.size
 have hK:=hK.ext aJ
 obtain⟨o2,vv,rfl⟩:=eh
 have vv:o2=yo false A:=(by have:=S4 hA false vv;cases A<;>exact this)
 refine zm<|zx (i:=0) rfl rfl<|zx (i:=1) rfl rfl<|zx (i:=2) rfl rfl<|zA<|zA<|zA<|ag<|aQ<|cQ<|aQ ?_
 refine qf ei aS 18 (rA 32 17++[31]) (rA 32 17++[31]) [[],[0],[1],[2],[2,3],[2,4],[2,5],[2,6],[7],[8],[8,9],[8,10],[8],[8,12],[8,13],[8,11,14],[8,15],[16]] [λv _=>v=(str h),λv _=>v=(.bool (decide (h=cC))),λv _=>v=(.bool (decide (h=cC))),λv _=>(decide (h=cC))=true->v=(.slice (some ⟨b,off,none⟩) (A::r9).length c),λv _=>(decide (h=cC))=true->v=(.pointer (some ⟨b,off+0*1,none⟩)),λv _=>(decide (h=cC))=true->v=(str A.text),λv _=>(decide (h=cC))=true->v=(.bool (decide (A.text=[105]))),λv _=>v=(.bool (decide (h=cC)&&decide (A.text=[105]))),λv _=>v=(.bool (decide (h=cC)&&decide (A.text=[105]))),λv _=>(decide (h=cC)&&decide (A.text=[105]))=true->v=(.slice (some ⟨b,off,none⟩) (A::r9).length c),λv _=>(decide (h=cC)&&decide (A.text=[105]))=true->v=(.pointer (some ⟨b,off+1*1,none⟩)),λv _=>(decide (h=cC)&&decide (A.text=[105]))=true->v=(str (aD ((A::r9).map Ty.text) 1)),λv _=>(decide (h=cC)&&decide (A.text=[105]))=true->v=(.slice (some ⟨b,off,none⟩) (A::r9).length c),λv _=>(decide (h=cC)&&decide (A.text=[105]))=true->v=(.pointer (some ⟨b,off+2*1,none⟩)),λv _=>(decide (h=cC)&&decide (A.text=[105]))=true->v=(str (aD ((A::r9).map Ty.text) 2)),λv _=>(decide (h=cC)&&decide (A.text=[105]))=true->v=(.bool (decide ((aD ((A::r9).map Ty.text) 1)=(aD ((A::r9).map Ty.text) 2)))),λv _=>v=(.bool (decide (h=cC)&&decide (A.text=[105])&&decide ((aD ((A::r9).map Ty.text) 1)=(aD ((A::r9).map Ty.text) 2)))),λv _=>v=(.bool (decide (h=cC)&&decide (A.text=[105])&&decide ((aD ((A::r9).map Ty.text) 1)=(aD ((A::r9).map Ty.text) 2))))] de (cX (cX (cX (eV (eV (eV (eV (cX (cX (eV (eV (eV (eV (eV (eV (eV (cX (cX trivial)))))))))))))))))) (λwd aB=>?_) ?_
 refine bN ?_ ?_
 intro x vs w4 e aF hd he
 replace aF:=aS.trans aB aF
 replace he:e=aM (aN _ x _) []:=he
 subst he
 refine zm<|ag ?_
 exact dn (aS.refl _) rfl
 refine bN ?_ ?_
 intro x vs w4 e aF hd he
 have d0:vs 0=(str h):=hd
 replace aF:=aS.trans aB aF
 replace he:e=aM (aN _ x _) [(32,vs 0)]:=he
 rw[d0] at he
 subst he
 refine cW rfl rfl<|ag ?_
 exact dn (aS.refl _) rfl
 refine bN ?_ ?_
 intro x vs w4 e aF hd he
 have d1:vs 1=(.bool (decide (h=cC))):=hd
 replace aF:=aS.trans aB aF
 replace he:e=aM (aN _ x _) [(33,vs 1)]:=he
 rw[d1] at he
 subst he
 refine zm<|ag ?_
 exact dn (aS.refl _) rfl
 refine bN ?_ ?_
 intro x vs w4 e aF hd he
 have d2:vs 2=(.bool (decide (h=cC))):=hd
 replace aF:=aS.trans aB aF
 rcases bE (decide (h=cC)) with hg|hg
 rw[hg] at d2
 replace he:e=aM (aN _ x _) [(34,vs 2)]:=he
 rw[d2] at he
 subst he
 refine zm<|ag ?_
 exact dn (aS.refl _) (show(decide (h=cC))=true->_=((.slice (some ⟨b,off,none⟩) (A::r9).length c):Value) from λ_=>rfl)
 rw[hg] at d2
 replace he:e=aM (aN _ x _) [(34,vs 2)]:=he
 rw[d2] at he
 subst he
 refine zs<|ag ?_
 exact dn (aS.refl _) (show(decide (h=cC))=true->_=(_:Value) from λhh=>nomatch hg.symm.trans hh)
 refine bN ?_ ?_
 intro x vs w4 e aF hd he
 have aR:(vs 2=(.bool (decide (h=cC))))∧((decide (h=cC))=true->vs 3=(.slice (some ⟨b,off,none⟩) (A::r9).length c)):=hd
 obtain⟨d2,d3⟩:=aR
 replace aF:=aS.trans aB aF
 rcases bE (decide (h=cC)) with hg|hg
 rw[hg] at d2
 replace d3:=d3 hg
 replace he:e=aM (aN _ x _) [(34,vs 2),(35,vs 3)]:=he
 rw[d2,d3] at he
 subst he
 refine zi (i:=0) bh bA rfl rfl hp<|ag ?_
 exact dn (aS.refl _) (show(decide (h=cC))=true->_=((.pointer (some ⟨b,off+0*1,none⟩)):Value) from λ_=>rfl)
 rw[hg] at d2
 replace he:e=aM (aN _ x _) [(34,vs 2),(35,vs 3)]:=he
 rw[d2] at he
 subst he
 refine zs<|ag ?_
 exact dn (aS.refl _) (show(decide (h=cC))=true->_=(_:Value) from λhh=>nomatch hg.symm.trans hh)
 refine bN ?_ ?_
 intro x vs w4 e aF hd he
 have aR:(vs 2=(.bool (decide (h=cC))))∧((decide (h=cC))=true->vs 4=(.pointer (some ⟨b,off+0*1,none⟩))):=hd
 obtain⟨d2,d4⟩:=aR
 replace aF:=aS.trans aB aF
 have hK:=hK.ext aF
 rcases bE (decide (h=cC)) with hg|hg
 rw[hg] at d2
 replace d4:=d4 hg
 replace he:e=aM (aN _ x _) [(34,vs 2),(36,vs 4)]:=he
 rw[d2,d4] at he
 subst he
 refine zl ck rfl ((hx 0 hp).ext hK 0 _ rfl)<|ag ?_
 exact dn (aS.refl _) (show(decide (h=cC))=true->_=((str A.text):Value) from λ_=>rfl)
 rw[hg] at d2
 replace he:e=aM (aN _ x _) [(34,vs 2),(36,vs 4)]:=he
 rw[d2] at he
 subst he
 refine zs<|ag ?_
 exact dn (aS.refl _) (show(decide (h=cC))=true->_=(_:Value) from λhh=>nomatch hg.symm.trans hh)
 refine bN ?_ ?_
 intro x vs w4 e aF hd he
 have aR:(vs 2=(.bool (decide (h=cC))))∧((decide (h=cC))=true->vs 5=(str A.text)):=hd
 obtain⟨d2,d5⟩:=aR
 replace aF:=aS.trans aB aF
 rcases bE (decide (h=cC)) with hg|hg
 rw[hg] at d2
 replace d5:=d5 hg
 replace he:e=aM (aN _ x _) [(34,vs 2),(37,vs 5)]:=he
 rw[d2,d5] at he
 subst he
 refine cW rfl rfl<|ag ?_
 exact dn (aS.refl _) (show(decide (h=cC))=true->_=((.bool (decide (A.text=[105]))):Value) from λ_=>rfl)
 rw[hg] at d2
 replace he:e=aM (aN _ x _) [(34,vs 2),(37,vs 5)]:=he
 rw[d2] at he
 subst he
 refine zs<|ag ?_
 exact dn (aS.refl _) (show(decide (h=cC))=true->_=(_:Value) from λhh=>nomatch hg.symm.trans hh)
 refine bN ?_ ?_
 intro x vs w4 e aF hd he
 have aR:(vs 2=(.bool (decide (h=cC))))∧((decide (h=cC))=true->vs 6=(.bool (decide (A.text=[105])))):=hd
 obtain⟨d2,d6⟩:=aR
 replace aF:=aS.trans aB aF
 rcases bE (decide (h=cC)) with hg|hg
 rw[hg] at d2
 replace d6:=d6 hg
 replace he:e=aM (aN _ x _) [(34,vs 2),(38,vs 6)]:=he
 rw[d2,d6] at he
 subst he
 refine zp rfl<|ag ?_
 exact dn (aS.refl _) (by first|rfl|(rw[hg];rfl))
 rw[hg] at d2
 replace he:e=aM (aN _ x _) [(34,vs 2),(38,vs 6)]:=he
 rw[d2] at he
 subst he
 refine zp rfl<|ag ?_
 exact dn (aS.refl _) (by first|rfl|(rw[hg];rfl))
 refine bN ?_ ?_
 intro x vs w4 e aF hd he
 have d7:vs 7=(.bool (decide (h=cC)&&decide (A.text=[105]))):=hd
 replace aF:=aS.trans aB aF
 replace he:e=aM (aN _ x _) [(39,vs 7)]:=he
 rw[d7] at he
 subst he
 refine zm<|ag ?_
 exact dn (aS.refl _) rfl
 refine bN ?_ ?_
 intro x vs w4 e aF hd he
 have d8:vs 8=(.bool (decide (h=cC)&&decide (A.text=[105]))):=hd
 replace aF:=aS.trans aB aF
 rcases bE (decide (h=cC)&&decide (A.text=[105])) with hg|hg
 rw[hg] at d8
 replace he:e=aM (aN _ x _) [(40,vs 8)]:=he
 rw[d8] at he
 subst he
 refine zm<|ag ?_
 exact dn (aS.refl _) (show(decide (h=cC)&&decide (A.text=[105]))=true->_=((.slice (some ⟨b,off,none⟩) (A::r9).length c):Value) from λ_=>rfl)
 rw[hg] at d8
 replace he:e=aM (aN _ x _) [(40,vs 8)]:=he
 rw[d8] at he
 subst he
 refine zs<|ag ?_
 exact dn (aS.refl _) (show(decide (h=cC)&&decide (A.text=[105]))=true->_=(_:Value) from λhh=>nomatch hg.symm.trans hh)
 refine bN ?_ ?_
 intro x vs w4 e aF hd he
 have aR:(vs 8=(.bool (decide (h=cC)&&decide (A.text=[105]))))∧((decide (h=cC)&&decide (A.text=[105]))=true->vs 9=(.slice (some ⟨b,off,none⟩) (A::r9).length c)):=hd
 obtain⟨d8,d9⟩:=aR
 replace aF:=aS.trans aB aF
 rcases bE (decide (h=cC)&&decide (A.text=[105])) with hg|hg
 rw[hg] at d8
 replace d9:=d9 hg
 replace he:e=aM (aN _ x _) [(40,vs 8),(41,vs 9)]:=he
 rw[d8,d9] at he
 subst he
 refine zi (i:=1) bh bA rfl rfl ((by simp only[aE,dE] at hg;obtain⟨_,_,_,e⟩:=(hg.1▸hj:mz cC _).three;rw[e];simp))<|ag ?_
 exact dn (aS.refl _) (show(decide (h=cC)&&decide (A.text=[105]))=true->_=((.pointer (some ⟨b,off+1*1,none⟩)):Value) from λ_=>rfl)
 rw[hg] at d8
 replace he:e=aM (aN _ x _) [(40,vs 8),(41,vs 9)]:=he
 rw[d8] at he
 subst he
 refine zs<|ag ?_
 exact dn (aS.refl _) (show(decide (h=cC)&&decide (A.text=[105]))=true->_=(_:Value) from λhh=>nomatch hg.symm.trans hh)
 refine bN ?_ ?_
 intro x vs w4 e aF hd he
 have aR:(vs 8=(.bool (decide (h=cC)&&decide (A.text=[105]))))∧((decide (h=cC)&&decide (A.text=[105]))=true->vs 10=(.pointer (some ⟨b,off+1*1,none⟩))):=hd
 obtain⟨d8,d10⟩:=aR
 replace aF:=aS.trans aB aF
 have hK:=hK.ext aF
 rcases bE (decide (h=cC)&&decide (A.text=[105])) with hg|hg
 rw[hg] at d8
 replace d10:=d10 hg
 replace he:e=aM (aN _ x _) [(40,vs 8),(42,vs 10)]:=he
 rw[d8,d10] at he
 subst he
 refine zl ck rfl ((hx 1 (by simp only[aE,dE] at hg;obtain⟨_,_,_,e⟩:=(hg.1▸hj:mz cC _).three;rw[e];simp)).ext hK 0 _ rfl)<|ag ?_
 exact dn (aS.refl _) (show(decide (h=cC)&&decide (A.text=[105]))=true->_=((str (aD ((A::r9).map Ty.text) 1)):Value) from λ_=>rfl)
 rw[hg] at d8
 replace he:e=aM (aN _ x _) [(40,vs 8),(42,vs 10)]:=he
 rw[d8] at he
 subst he
 refine zs<|ag ?_
 exact dn (aS.refl _) (show(decide (h=cC)&&decide (A.text=[105]))=true->_=(_:Value) from λhh=>nomatch hg.symm.trans hh)
 refine bN ?_ ?_
 intro x vs w4 e aF hd he
 have d8:vs 8=(.bool (decide (h=cC)&&decide (A.text=[105]))):=hd
 replace aF:=aS.trans aB aF
 rcases bE (decide (h=cC)&&decide (A.text=[105])) with hg|hg
 rw[hg] at d8
 replace he:e=aM (aN _ x _) [(40,vs 8)]:=he
 rw[d8] at he
 subst he
 refine zm<|ag ?_
 exact dn (aS.refl _) (show(decide (h=cC)&&decide (A.text=[105]))=true->_=((.slice (some ⟨b,off,none⟩) (A::r9).length c):Value) from λ_=>rfl)
 rw[hg] at d8
 replace he:e=aM (aN _ x _) [(40,vs 8)]:=he
 rw[d8] at he
 subst he
 refine zs<|ag ?_
 exact dn (aS.refl _) (show(decide (h=cC)&&decide (A.text=[105]))=true->_=(_:Value) from λhh=>nomatch hg.symm.trans hh)
 refine bN ?_ ?_
 intro x vs w4 e aF hd he
 have aR:(vs 8=(.bool (decide (h=cC)&&decide (A.text=[105]))))∧((decide (h=cC)&&decide (A.text=[105]))=true->vs 12=(.slice (some ⟨b,off,none⟩) (A::r9).length c)):=hd
 obtain⟨d8,d12⟩:=aR
 replace aF:=aS.trans aB aF
 rcases bE (decide (h=cC)&&decide (A.text=[105])) with hg|hg
 rw[hg] at d8
 replace d12:=d12 hg
 replace he:e=aM (aN _ x _) [(40,vs 8),(44,vs 12)]:=he
 rw[d8,d12] at he
 subst he
 refine zi (i:=2) bh bA rfl rfl ((by simp only[aE,dE] at hg;obtain⟨_,_,_,e⟩:=(hg.1▸hj:mz cC _).three;rw[e];simp))<|ag ?_
 exact dn (aS.refl _) (show(decide (h=cC)&&decide (A.text=[105]))=true->_=((.pointer (some ⟨b,off+2*1,none⟩)):Value) from λ_=>rfl)
 rw[hg] at d8
 replace he:e=aM (aN _ x _) [(40,vs 8),(44,vs 12)]:=he
 rw[d8] at he
 subst he
 refine zs<|ag ?_
 exact dn (aS.refl _) (show(decide (h=cC)&&decide (A.text=[105]))=true->_=(_:Value) from λhh=>nomatch hg.symm.trans hh)
 refine bN ?_ ?_
 intro x vs w4 e aF hd he
 have aR:(vs 8=(.bool (decide (h=cC)&&decide (A.text=[105]))))∧((decide (h=cC)&&decide (A.text=[105]))=true->vs 13=(.pointer (some ⟨b,off+2*1,none⟩))):=hd
 obtain⟨d8,d13⟩:=aR
 replace aF:=aS.trans aB aF
 have hK:=hK.ext aF
 rcases bE (decide (h=cC)&&decide (A.text=[105])) with hg|hg
 rw[hg] at d8
 replace d13:=d13 hg
 replace he:e=aM (aN _ x _) [(40,vs 8),(45,vs 13)]:=he
 rw[d8,d13] at he
 subst he
 refine zl ck rfl ((hx 2 (by simp only[aE,dE] at hg;obtain⟨_,_,_,e⟩:=(hg.1▸hj:mz cC _).three;rw[e];simp)).ext hK 0 _ rfl)<|ag ?_
 exact dn (aS.refl _) (show(decide (h=cC)&&decide (A.text=[105]))=true->_=((str (aD ((A::r9).map Ty.text) 2)):Value) from λ_=>rfl)
 rw[hg] at d8
 replace he:e=aM (aN _ x _) [(40,vs 8),(45,vs 13)]:=he
 rw[d8] at he
 subst he
 refine zs<|ag ?_
 exact dn (aS.refl _) (show(decide (h=cC)&&decide (A.text=[105]))=true->_=(_:Value) from λhh=>nomatch hg.symm.trans hh)
 refine bN ?_ ?_
 intro x vs w4 e aF hd he
 have aR:(vs 8=(.bool (decide (h=cC)&&decide (A.text=[105]))))∧((decide (h=cC)&&decide (A.text=[105]))=true->vs 11=(str (aD ((A::r9).map Ty.text) 1)))∧((decide (h=cC)&&decide (A.text=[105]))=true->vs 14=(str (aD ((A::r9).map Ty.text) 2))):=hd
 obtain⟨d8,d11,d14⟩:=aR
 replace aF:=aS.trans aB aF
 rcases bE (decide (h=cC)&&decide (A.text=[105])) with hg|hg
 rw[hg] at d8
 replace d11:=d11 hg
 replace d14:=d14 hg
 replace he:e=aM (aN _ x _) [(40,vs 8),(43,vs 11),(46,vs 14)]:=he
 rw[d8,d11,d14] at he
 subst he
 refine cW rfl rfl<|ag ?_
 exact dn (aS.refl _) (show(decide (h=cC)&&decide (A.text=[105]))=true->_=((.bool (decide ((aD ((A::r9).map Ty.text) 1)=(aD ((A::r9).map Ty.text) 2)))):Value) from λ_=>rfl)
 rw[hg] at d8
 replace he:e=aM (aN _ x _) [(40,vs 8),(43,vs 11),(46,vs 14)]:=he
 rw[d8] at he
 subst he
 refine zs<|ag ?_
 exact dn (aS.refl _) (show(decide (h=cC)&&decide (A.text=[105]))=true->_=(_:Value) from λhh=>nomatch hg.symm.trans hh)
 refine bN ?_ ?_
 intro x vs w4 e aF hd he
 have aR:(vs 8=(.bool (decide (h=cC)&&decide (A.text=[105]))))∧((decide (h=cC)&&decide (A.text=[105]))=true->vs 15=(.bool (decide ((aD ((A::r9).map Ty.text) 1)=(aD ((A::r9).map Ty.text) 2))))):=hd
 obtain⟨d8,d15⟩:=aR
 replace aF:=aS.trans aB aF
 rcases bE (decide (h=cC)&&decide (A.text=[105])) with hg|hg
 rw[hg] at d8
 replace d15:=d15 hg
 replace he:e=aM (aN _ x _) [(40,vs 8),(47,vs 15)]:=he
 rw[d8,d15] at he
 subst he
 refine zp rfl<|ag ?_
 exact dn (aS.refl _) (by first|rfl|(rw[hg];rfl))
 rw[hg] at d8
 replace he:e=aM (aN _ x _) [(40,vs 8),(47,vs 15)]:=he
 rw[d8] at he
 subst he
 refine zp rfl<|ag ?_
 exact dn (aS.refl _) (by first|rfl|(rw[hg];rfl))
 refine bN ?_ ?_
 intro x vs w4 e aF hd he
 have d16:vs 16=(.bool (decide (h=cC)&&decide (A.text=[105])&&decide ((aD ((A::r9).map Ty.text) 1)=(aD ((A::r9).map Ty.text) 2)))):=hd
 replace aF:=aS.trans aB aF
 replace he:e=aM (aN _ x _) [(48,vs 16)]:=he
 rw[d16] at he
 subst he
 refine zA<|ag ?_
 exact dn (aS.refl _) rfl
 exact trivial
 intro x vs nN lI bJ
 have d0:vs 0=(str h):=bJ 0 de
 have d1:vs 1=(.bool (decide (h=cC))):=bJ 1 de
 have d2:vs 2=(.bool (decide (h=cC))):=bJ 2 de
 have d3:(decide (h=cC))=true->vs 3=(.slice (some ⟨b,off,none⟩) (A::r9).length c):=bJ 3 de
 have d4:(decide (h=cC))=true->vs 4=(.pointer (some ⟨b,off+0*1,none⟩)):=bJ 4 de
 have d5:(decide (h=cC))=true->vs 5=(str A.text):=bJ 5 de
 have d6:(decide (h=cC))=true->vs 6=(.bool (decide (A.text=[105]))):=bJ 6 de
 have d7:vs 7=(.bool (decide (h=cC)&&decide (A.text=[105]))):=bJ 7 de
 have d8:vs 8=(.bool (decide (h=cC)&&decide (A.text=[105]))):=bJ 8 de
 have d9:(decide (h=cC)&&decide (A.text=[105]))=true->vs 9=(.slice (some ⟨b,off,none⟩) (A::r9).length c):=bJ 9 de
 have d10:(decide (h=cC)&&decide (A.text=[105]))=true->vs 10=(.pointer (some ⟨b,off+1*1,none⟩)):=bJ 10 de
 have d11:(decide (h=cC)&&decide (A.text=[105]))=true->vs 11=(str (aD ((A::r9).map Ty.text) 1)):=bJ 11 de
 have d12:(decide (h=cC)&&decide (A.text=[105]))=true->vs 12=(.slice (some ⟨b,off,none⟩) (A::r9).length c):=bJ 12 de
 have d13:(decide (h=cC)&&decide (A.text=[105]))=true->vs 13=(.pointer (some ⟨b,off+2*1,none⟩)):=bJ 13 de
 have d14:(decide (h=cC)&&decide (A.text=[105]))=true->vs 14=(str (aD ((A::r9).map Ty.text) 2)):=bJ 14 de
 have d15:(decide (h=cC)&&decide (A.text=[105]))=true->vs 15=(.bool (decide ((aD ((A::r9).map Ty.text) 1)=(aD ((A::r9).map Ty.text) 2)))):=bJ 15 de
 have d16:vs 16=(.bool (decide (h=cC)&&decide (A.text=[105])&&decide ((aD ((A::r9).map Ty.text) 1)=(aD ((A::r9).map Ty.text) 2)))):=bJ 16 de
 have d17:vs 17=(.bool (decide (h=cC)&&decide (A.text=[105])&&decide ((aD ((A::r9).map Ty.text) 1)=(aD ((A::r9).map Ty.text) 2)))):=bJ 17 de
 have hK:=hK.ext lI
 change OW _ _ _ _ [] (aM (aN _ x _) (zZ 32 [vs 0,vs 1,vs 2,vs 3,vs 4,vs 5,vs 6,vs 7,vs 8,vs 9,vs 10,vs 11,vs 12,vs 13,vs 14,vs 15,vs 16]++[(31,vs 17)])) _
 rw[d0,d1,d2,d7,d8,d16,d17]
 refine ag<|zc rfl (λh2=>?_) (λh2=>?_)
 simp only[aE,dE] at h2
 obtain⟨⟨hh,D9⟩,hBC⟩:=h2
 have iY:1<(A::r9).length:=(by obtain⟨_,_,_,e⟩:=(hh▸hj:mz cC _).three;rw[e];simp)
 refine zr<|zm<|zi (i:=1) bh bA rfl rfl iY<|zl ck rfl ((hx 1 iY).ext hK 0 _ rfl)<|zA<|ag<|aV ?_
 exact⟨_,rfl,ae6 hj hh D9 hBC,hK⟩
 have bC:=h2
 refine zr<|zm<|cW rfl rfl<|zm ?_
 apply fX 2 55 57 [55,56,57] (λw'=>nN=w') rfl
 intro h3
 replace h3:=bw h3
 refine zm<|zp rfl<|ag ?_
 exact mg rfl rfl
 intro h3
 replace h3:=bw h3
 refine zs<|zp rfl<|ag ?_
 exact mg rfl rfl
 rintro xx _ rfl
 refine zm ?_
 apply fX 6 58 64 [58,59,60,61,62,63,64] (λw'=>nN=w') rfl
 intro h4
 replace h4:=bw h4
 have iY:1<(A::r9).length:=(by simp only[aE,dE] at h4;obtain⟨_,_,e⟩:=hj.two (h4.1▸Ue);rw[e];simp)
 refine zm<|zm<|zi (i:=1) bh bA rfl rfl iY<|zl ck rfl ((hx 1 iY).ext hK 0 _ rfl)<|cW rfl rfl<|zp rfl<|ag ?_
 exact mg rfl rfl
 intro h4
 replace h4:=bw h4
 refine zs<|zs<|zs<|zs<|zs<|zp rfl<|ag ?_
 exact mg rfl rfl
 rintro xx _ rfl
 refine zA<|ag<|zc rfl (λh5=>?_) (λh5=>?_)
 simp only[aE,dE] at h5
 obtain⟨⟨hh,dQ⟩,H0⟩:=h5
 refine zr<|zm<|zA<|ag<|aV ?_
 exact⟨_,rfl,ae7 hj hh wW dQ H0,hK⟩
 have bX:=h5
 refine zr<|zm<|cW rfl rfl<|zA<|ag<|zc rfl (λh6=>?_) (λh6=>?_)
 have hh:h=xM:=h6
 obtain⟨B,eB,hK1⟩:=afc hj hh
 have iY:1<(A::r9).length:=(by rw[eB];simp)
 have iK:=hx 1 iY
 rw[hK1] at iK
 refine aQ ?_
 apply mq ei 12 (rA 70 7++[69,77,78,11,12]) (rA 70 7++[69,77,78,11,12]) [[],[0],[1],[],[3],[4],[2,5],[6],[7],[7],[8],[9]] [It.v _,It.v _,It.v _,It.v _,It.v _,It.v _,It.v _,It.v _,It.v _,It.v _,It.v _,It.v _] de rfl
 intro wd aB
 refine eI ?_
 refine vk aB (λx pW jR=>?_) ?_
 refine zi (i:=0) bh bA rfl rfl hp ?_
 exact pv
 refine vk aB (λx pW jR=>?_) ?_
 have hK:=hK.ext jR
 refine zl ck rfl ((hx 0 hp).ext hK 0 _ rfl) ?_
 exact pv
 refine eI ?_
 refine vk aB (λx pW jR=>?_) ?_
 refine zi (i:=1) bh bA rfl rfl iY ?_
 exact pv
 refine vk aB (λx pW jR=>?_) ?_
 have hK:=hK.ext jR
 refine zl ck rfl (iK.ext hK 0 _ rfl) ?_
 exact pv
 refine vk aB (λx pW jR=>?_) ?_
 refine aC (S6 false A B hA (hT B (by rw[eB];simp)) pW) ?_
 rintro v45 pQ ⟨afg,wF⟩
 have amp:=wF.size
 obtain rfl:=afg
 exact pk wF
 refine eI ?_
 refine vc (λ_ _ _=>zx (i:=0) rfl rfl pv) ?_
 refine vc (λ_ _ _=>zx (i:=1) rfl rfl pv) ?_
 refine vc (λ_ _ _=>zA pv) ?_
 refine vc (λ_ _ _=>zA pv) ?_
 exact trivial
 intro x w83 afh
 have hK:=hK.ext afh
 change OW _ _ _ _ [] (aM (aN _ x _) (zZ 70 [_,_,_,_,_,_,_]++[(69,_),(77,_),(78,_),(11,_),(12,_)])) _
 refine ag<|zr<|zm<|zA<|ag<|aV ?_
 exact⟨_,rfl,afa hh eB,hK⟩
 have er:=h6
 refine zr<|zm<|cW rfl rfl<|zm ?_
 apply fX 2 83 85 [83,84,85] (λw'=>nN=w') rfl
 intro h7
 replace h7:=bw h7
 refine zm<|zp rfl<|ag ?_
 exact mg rfl rfl
 intro h7
 replace h7:=bw h7
 refine zs<|zp rfl<|ag ?_
 exact mg rfl rfl
 rintro xx _ rfl
 refine zA<|ag<|zc rfl (λh8=>?_) (λh8=>?_)
 simp only[aE,dE] at h8
 obtain⟨hh,dQ⟩:=h8
 refine zr<|zm<|zA<|ag<|aV ?_
 exact⟨_,rfl,ae8 hj hh vv dQ,hK⟩
 have jJ:=h8
 refine zr<|zm<|cW rfl rfl<|zm ?_
 apply fX 2 90 92 [90,91,92] (λw'=>nN=w') rfl
 intro h9
 replace h9:=bw h9
 refine zm<|zp rfl<|ag ?_
 exact mg rfl rfl
 intro h9
 replace h9:=bw h9
 refine zs<|zp rfl<|ag ?_
 exact mg rfl rfl
 rintro xx _ rfl
 refine zA<|ag<|zc rfl (λgF=>?_) (λgF=>?_)
 simp only[aE,dE] at gF
 obtain⟨hh,dQ⟩:=gF
 refine zr<|zm<|zA<|ag<|aV ?_
 exact⟨_,rfl,ae9 hj hh vv dQ,hK⟩
 have jY:=gF
 refine zr<|zm<|cW rfl rfl<|zm ?_
 apply fz 3 97 100 [97,98,99,100] (λw'=>nN=w') rfl
 intro kn
 replace kn:=bw kn
 refine zs<|zs<|zp rfl<|ag ?_
 exact mg rfl rfl
 intro kn
 replace kn:=bw kn
 refine zm<|cW rfl rfl<|zp rfl<|ag ?_
 exact mg rfl rfl
 rintro xx _ rfl
 refine zm ?_
 apply fz 3 101 104 [101,102,103,104] (λw'=>nN=w') rfl
 intro jK
 replace jK:=bw jK
 refine zs<|zs<|zp rfl<|ag ?_
 exact mg rfl rfl
 intro jK
 replace jK:=bw jK
 refine zm<|cW rfl rfl<|zp rfl<|ag ?_
 exact mg rfl rfl
 rintro xx _ rfl
 refine zm ?_
 apply fX 5 105 110 [105,106,107,108,109,110] (λw'=>nN=w') rfl
 intro lH
 replace lH:=bw lH
 refine zm<|zi (i:=0) bh bA rfl rfl hp<|zl ck rfl ((hx 0 hp).ext hK 0 _ rfl)<|cW rfl rfl<|zp rfl<|ag ?_
 exact mg rfl rfl
 intro lH
 replace lH:=bw lH
 refine zs<|zs<|zs<|zs<|zp rfl<|ag ?_
 exact mg rfl rfl
 rintro xx _ rfl
 refine zm ?_
 apply fX 5 111 116 [111,112,113,114,115,116] (λw'=>nN=w') rfl
 intro uN
 replace uN:=bw uN
 have iY:1<(A::r9).length:=(by simp only[aE,oE,dE] at uN;obtain⟨_,_,e⟩:=hj.two (Uf uN.1);rw[e];simp)
 refine zm<|zi (i:=1) bh bA rfl rfl iY<|zl ck rfl ((hx 1 iY).ext hK 0 _ rfl)<|cW rfl rfl<|zp rfl<|ag ?_
 exact mg rfl rfl
 intro uN
 replace uN:=bw uN
 refine zs<|zs<|zs<|zs<|zp rfl<|ag ?_
 exact mg rfl rfl
 rintro xx _ rfl
 refine zA<|ag<|zc rfl (λJl=>?_) (λJl=>?_)
 simp only[aE,oE,dE] at Jl
 obtain⟨⟨hh,D9⟩,hBi⟩:=Jl
 refine zr<|zA<|ag<|aV ?_
 exact⟨_,rfl,afb hj hh D9 hBi,hK⟩
 have qj:=Jl
 refine bz<|zr<|zA<|ag<|aV ?_
 exact⟨_,rfl,congrArg (λx=>str x) (ae4 hj wW vv bC bX er jJ jY qj).symm,hK⟩
theorem afj (o:Option Ty):Ti o=fj o:=by cases o<;>rfl
theorem Ui {o:Option Ty} (h:fj o=[]):o=none:=by
 cases o with
 |none=>rfl
 |some T=>exact absurd h T.ne
theorem Uj {o:Option Ty} (h:fj o≠[]):∃T,o=some T:=by
 cases o with
 |none=>exact absurd rfl h
 |some T=>exact⟨T,rfl⟩
def rp (e:Ex) (Γ:Sc):List aj:=e.kids.map λx=>fj (bM x Γ)
theorem afk {Γ:Sc} (bD:e.ok) (fp:e.jj=false) (h1:e.head≠gM) (h2:e.head≠il) (hΓ:zV Γ):
  ([]∈rp e Γ∧bM e Γ=none)∨∃Ts,rp e Γ=Ts.map Ty.text∧mz e.head Ts∧bM e Γ=k9 e.head Ts∧∀T,T∈Ts->T.n<=16:=by
 cases e with
 |«at» s=>cases fp
 |lt x a b=>exact absurd rfl h1
 |fn f x A B b=>exact absurd rfl h2
 |un h a=>
  show([]∈[fj (bM a Γ)]∧(bM a Γ).bind _=none)∨_
  cases ha:bM a Γ with
  |none=>exact .inl ⟨by simp[fj],rfl⟩
  |some A=>exact .inr ⟨[A],by simp[rp,Ex.kids,ha,fj],.inl ⟨bD.1,A,rfl⟩,by simp[bM,ha,Ex.head],by simpa using l4 hΓ ha⟩
 |bi h a b=>
  show([]∈[fj (bM a Γ),fj (bM b Γ)]∧(bM a Γ).bind _=none)∨_
  cases ha:bM a Γ with
  |none=>exact .inl ⟨by simp[fj],rfl⟩
  |some A=>
   cases hb:bM b Γ with
   |none=>exact .inl ⟨by simp[fj],rfl⟩
   |some B=>exact .inr ⟨[A,B],by simp[rp,Ex.kids,ha,hb,fj],.inr (.inl ⟨bD.1,A,B,rfl⟩),by simp[bM,ha,hb,Ex.head],by intro T hT;simp at hT;rcases hT with rfl|rfl;exact l4 hΓ ha;exact l4 hΓ hb⟩
 |ite a b c=>
  show([]∈[fj (bM a Γ),fj (bM b Γ),fj (bM c Γ)]∧(bM a Γ).bind _=none)∨_
  cases ha:bM a Γ with
  |none=>exact .inl ⟨by simp[fj],rfl⟩
  |some A=>
   cases hb:bM b Γ with
   |none=>exact .inl ⟨by simp[fj],rfl⟩
   |some B=>
    cases hc:bM c Γ with
    |none=>exact .inl ⟨by simp[fj],rfl⟩
    |some C0=>exact .inr ⟨[A,B,C0],by simp[rp,Ex.kids,ha,hb,hc,fj],.inr (.inr ⟨rfl,A,B,C0,rfl⟩),by simp[bM,ha,hb,hc,Ex.head],by intro T hT;simp at hT;rcases hT with rfl|rfl|rfl;exact l4 hΓ ha;exact l4 hΓ hb;exact l4 hΓ hc⟩
theorem Uk {f x:aj} {Γ:Sc}:fj (bM (.fn f x A B e) Γ)=if(!decide (1+A.n+B.n<=16)||decide (fj (bM e (Γ++[(f,.op true A B),(x,A)]))≠B.text))=true then[] else(Ty.op true A B).text:=by
 show fj (if 1+A.n+B.n<=16 then(bM e (Γ++[(f,.op true A B),(x,A)])).bind λC=>if k8 C B then some (.op true A B) else none else none)=_
 by_cases h:1+A.n+B.n<=16
 ·rw[iP h,dT h,Bool.not_true,Bool.false_or]
  cases hC:bM e (Γ++[(f,.op true A B),(x,A)]) with
  |none=>
   have hz:decide (fj none≠B.text)=true:=by simpa[fj] using λh:[]=B.text=>B.ne h.symm
   rw[iP hz];rfl
  |some C0=>
   show fj (if k8 C0 B=true then some (.op true A B) else none)=_
   by_cases hq:C0.text=B.text
   ·rw[iP (show k8 C0 B=true from dT hq),iN (by simp[fj,hq])];rfl
   ·rw[iN (show¬k8 C0 B=true from by unfold k8;simpa using hq),iP (by simp[fj,hq])];rfl
 ·rw[iN h,dF h,iP sm];rfl
theorem afl (e:Ex) (Γ:Sc):(rp e Γ).length<=3:=by
 rw[rp,List.length_map]
 cases e<;>simp[Ex.kids]
theorem afm {Γ:Sc} (bD:e.ok) (fp:e.jj=false) (h1:e.head≠gM) (h2:e.head≠il) (hΓ:zV Γ) (v:Value) (L:List Nat) (w:World) (hv:bI L w v (rp e Γ)):
  cj Tryz.prog 155 [str e.head,v] w λr w'=>r=str (fj (bM e Γ))∧ak [] w w':=by
 rcases afk bD fp h1 h2 hΓ with⟨hn,hq⟩|⟨Ts,hk,hj,hq,hT⟩
 ·rw[hq];exact ae0 e.head (rp e Γ) (by have:=afl e Γ;omega) hn v L w hv
 ·rw[hq];exact afd e.head Ts hj hT v L w (hk▸hv)
theorem afn {Γ:Sc} (h:k<e.kids.length):(rp e Γ).take (k+1)=(rp e Γ).take k++[fj (bM (fJ e k) Γ)]:=by
 rw[List.take_add_one]
 simp[rp,fJ,gE h]
theorem Ul:∀(m:Nat) (e:Ex),e.n<=m->e.n<=1000->e.ok->∀(Γ:Sc),Γ.length+2*e.n<=100000->zV Γ->∀(v vn vt:Value) (L:List Nat) (w:World),(∀x,x∈L->x<w.heap.size)->bS L w v e.av->bI L w vn (Γ.map Prod.fst)->bI L w vt (Γ.map λp=>p.2.text)->
  cj Tryz.prog 114 [v,vn,vt] w λr w'=>r=str (fj (bM e Γ))∧ak [] w w':=by
 intro m
 induction m with
 |zero=>intro e h;have:=e.pos;omega
 |succ m ih=>
  intro e hm mU bD Γ hΓl hΓ v vn vt L w lP hv kf eZ
  obtain⟨a,np,c,rfl,hn,bc⟩:=dM hv
  subst hn
  obtain⟨an,nn,cn,rfl,rf⟩:=eN kf
  obtain⟨ay,ny,Gn,rfl,Iw⟩:=eN eZ
  have hK:=ak.refl [] w
  have gd:(Γ.map Prod.fst).length=Γ.length:=by simp
  have iY:(Γ.map λp=>p.2.text).length=Γ.length:=by simp
  have IK:=FX e
  refine cV [.tmp 6] 132 Tryz.func114 rfl XN rfl rfl ?_
  refine zr<|fE rfl ?_
  intro w1 aK bR dY
  have hK:=hK.ext aK;have bc:=bc.ext aK;have kf:=kf.ext aK;have eZ:=eZ.ext aK
  refine zA<|ag<|aQ<|zr<|zf dz rfl<|zl ck rfl (bR.at rfl)<|jG rfl rfl rfl rfl<|ag<|zc rfl (λh1=>?_) (λh1=>?_)
  have aR:∃x,e= .at x:=(by have ha:=(vg bD).1 h1;cases e<;>first|exact⟨_,rfl⟩|cases ha)
  obtain⟨x,rfl⟩:=aR
  refine aQ<|zr<|zf dz rfl<|zl ck rfl (bR.at rfl)<|aC (uV _ _) ?_
  rintro _ _ ⟨rfl,rfl⟩
  refine ag<|zc rfl (λh2=>?_) (λh2=>?_)
  have hq:bM (.at x) Γ=look Γ x:=iP h2
  refine zr<|zm<|zm<|zf dz rfl<|zl ck rfl (bR.at rfl)<|aC (FV (Γ.map Prod.fst) (Γ.map λp=>p.2.text) om om x _ _ _ _ w1 kf eZ) ?_
  rintro v2 w2 ⟨dA,aq⟩
  have eE:=aq.size
  have hK:=hK.ext aq
  obtain rfl:=dA
  refine zA<|ag<|aV ?_
  have yh:=Tj x Γ
  rw[<-gd] at yh
  exact⟨_,rfl,congrArg (λz=>str z) (by rw[hq,<-afj];exact yh),hK⟩
  have hq:bM (.at x) Γ=some .i:=iN (λhh=>Bool.noConfusion (hh.symm.trans h2))
  refine bz<|zr<|zA<|ag<|aV ?_
  exact⟨_,rfl,by rw[hq];rfl,hK⟩
  have fp:e.jj=false:=(by cases hh:e.jj;rfl;exact absurd ((vg bD).2 hh) h1)
  obtain⟨FY,pE,jH,wG⟩:=Ex.au fp
  obtain⟨jS,DP,DQ⟩:=FW bD fp
  obtain⟨b0,Av,xF,xG,e0,pY,ky⟩:=fI bc jS
  cases e0
  have pY:=pY.cells
  refine bz<|aQ<|zr<|zf cL rfl<|zl cI rfl (bR.at rfl)<|zi (i:=0) cv aH rfl rfl jS<|zf dz rfl<|zl ck rfl (pY 0 _ rfl)<|ag<|cQ<|zr<|cW rfl rfl<|zA<|ag<|zc rfl (λh3=>?_) (λh3=>?_)
  obtain⟨nx,ea,eb,rfl⟩:=IT bD (jH.symm.trans h3)
  have wJ:(Ex.lt nx ea eb).n=2+ea.n+eb.n:=rfl
  have IX:(Ex.lt nx ea eb).av.au.length=4:=rfl
  obtain⟨b1,fY,gX,gY,e1,bC,dd⟩:=fI bc (i:=1) om
  cases e1
  obtain⟨b2,ni,jb,jc,e2,bX,et⟩:=fI bc (i:=2) om
  cases e2
  have et:bS L _ _ ea.av:=et
  obtain⟨b3,B2,pT,pU,e3,er,eY⟩:=fI bc (i:=3) om
  cases e3
  have eY:bS L _ _ eb.av:=eY
  refine zr<|zf cL rfl<|zl cI rfl (bR.at rfl)<|zi (i:=2) cv aH rfl rfl ((show 2<4 from om))<|zL bT aH rfl bX.cells rfl<|zm<|zm<|aC (ih ea om om bD.2.1 Γ om hΓ _ _ _ L w1 (λx hx=>lL (lP x hx) hK.size) et kf eZ) ?_
  rintro v2 w2 ⟨dA,aq⟩
  have eE:=aq.size
  have hK:=hK.ext aq;have kf:=kf.ext aq;have eZ:=eZ.ext aq;have bR:=bR.ext aq;have bC:=bC.ext aq;have er:=er.ext aq;have eY:=eY.ext aq
  obtain rfl:=dA
  refine zA<|ag<|aQ<|zr<|zm<|cW rfl rfl<|ag<|zc rfl (λh4=>?_) (λh4=>?_)
  have hz:bM ea Γ=none:=Ui h4
  have hq:bM (.lt nx ea eb) Γ=none:=(show(bM ea Γ).bind _=none from by rw[hz];rfl)
  refine zr<|zA<|ag<|aV ?_
  exact⟨_,rfl,by rw[hq];rfl,hK⟩
  obtain⟨A,hA⟩:=Uj h4
  have hq:bM (.lt nx ea eb) Γ=bM eb (Γ++[(nx,A)]):=(show(bM ea Γ).bind _=_ from by rw[hA];rfl)
  have hGA:=Fh (x:=nx) hΓ (l4 hΓ hA)
  have hAt:fj (bM ea Γ)=A.text:=by rw[hA];rfl
  refine bz<|aQ ?_
  apply wv ei 18 (rA 41 17++[6]) (rA 41 17++[6]) [[],[0],[1],[2],[],[],[5],[6],[7],[8],[9],[4,10],[],[],[13],[12,14],[3,11,15],[16]] [It.v _,It.v _,It.v _,It.v _,It.v _,It.v _,It.v _,It.v _,It.v _,It.v _,It.p (fun(v:Value) (ww:World)=>bI L ww v [nx]),It.p (fun(v:Value) (ww:World)=>bI L ww v (Γ.map Prod.fst++[nx])),It.v _,It.v _,It.p (fun(v:Value) (ww:World)=>bI L ww v [fj (bM ea Γ)]),It.p (fun(v:Value) (ww:World)=>bI L ww v ((Γ.map λp=>p.2.text)++[fj (bM ea Γ)])),It.v _,It.v _] de (by exact⟨λv w w' h k=>bI.ext h k,λv w w' h k=>bI.ext h k,λv w w' h k=>bI.ext h k,λv w w' h k=>bI.ext h k,trivial⟩)
  intro wd aB
  refine vc (λ_ _ _=>zf cL rfl pv) ?_
  refine vk aB (λx w3 aJ=>?_) ?_
  have bR:=bR.ext aJ
  refine zl cI rfl (bR.at rfl) ?_
  exact pv
  refine vk aB (λx w3 aJ=>?_) ?_
  refine zi (i:=3) cv aH rfl rfl ((show 3<4 from om)) ?_
  exact pv
  refine vk aB (λx w3 aJ=>?_) ?_
  have er:=er.ext aJ
  refine zL bT aH rfl er.cells rfl ?_
  exact pv
  refine eI ?_
  refine vc (λ_ _ _=>zf cL rfl pv) ?_
  refine vk aB (λx w3 aJ=>?_) ?_
  have bR:=bR.ext aJ
  refine zl cI rfl (bR.at rfl) ?_
  exact pv
  refine vk aB (λx w3 aJ=>?_) ?_
  refine zi (i:=1) cv aH rfl rfl ((show 1<4 from om)) ?_
  exact pv
  refine vc (λ_ _ _=>zf dz rfl pv) ?_
  refine vk aB (λx w3 aJ=>?_) ?_
  have bC:=bC.ext aJ
  refine zl ck rfl (bC.cells 0 _ rfl) ?_
  exact pv
  refine vk aB (λx w3 aJ=>?_) ?_
  have hK:=hK.ext aJ
  refine gD bh bA rfl rfl ?_
  intro w4 aF Nq iS
  have hK:=hK.ext aF
  exact pf aF ((aY.eD [nx] Nq (λhx=>by have:=lP _ hx;have:=hK.size;have:=aJ.size;omega)))
  refine vk aB (λx w3 aJ=>?_) ?_
  have hK:=hK.ext aJ;have kf:=kf.ext aJ
  intro v10 d10
  refine aC (tP (Γ.map Prod.fst) [nx] so _ _ L w3 kf d10 (λx hx=>lL (lP x hx) hK.size)) ?_
  rintro v4 w4 ⟨eH,aF⟩
  have gI:=aF.size
  have j4:=eH
  exact pf aF j4
  refine eI ?_
  refine eI ?_
  refine vk aB (λx w3 aJ=>?_) ?_
  have hK:=hK.ext aJ
  refine gD bh bA rfl rfl ?_
  intro w4 aF BZ iS
  have hK:=hK.ext aF
  exact pf aF ((aY.eD [fj (bM ea Γ)] BZ (λhx=>by have:=lP _ hx;have:=hK.size;have:=aJ.size;omega)))
  refine vk aB (λx w3 aJ=>?_) ?_
  have hK:=hK.ext aJ;have eZ:=eZ.ext aJ
  intro lx d14
  refine aC (tP (Γ.map λp=>p.2.text) [fj (bM ea Γ)] so (.slice ay ny Gn) _ L w3 eZ d14 (λx hx=>lL (lP x hx) hK.size)) ?_
  rintro v4 w4 ⟨eH,aF⟩
  have gI:=aF.size
  have j4:=eH
  exact pf aF j4
  refine vk aB (λx w3 aJ=>?_) ?_
  have hK:=hK.ext aJ;have eY:=eY.ext aJ
  intro v11 d11
  intro vm d15
  refine aC (ih eb om om bD.2.2 (Γ++[(nx,A)]) so hGA _ _ _ L w3 (λx hx=>lL (lP x hx) hK.size) eY (show bI L _ _ ((Γ++_).map _) from by rw[List.map_append];exact d11) (show bI L _ _ ((Γ++[(nx,A)]).map _) from by rw[List.map_append,List.map_singleton,<-hAt];exact d15)) ?_
  rintro v4 w4 ⟨eH,aF⟩
  have gI:=aF.size
  obtain rfl:=eH
  exact pk aF
  refine vc (λ_ _ _=>zA pv) ?_
  exact trivial
  intro x qw tV
  intro v10 d10
  intro v11 d11
  intro lx d14
  intro vm d15
  have hK:=hK.ext tV
  change OW _ _ _ _ [] (aM (aN _ x _) (zZ 41 [_,_,_,_,_,_,_,_,_,_,_,_,_,_,_,_,_]++[(6,_)])) _
  refine ag<|aV ?_
  exact⟨_,rfl,congrArg (λz=>str (fj z)) hq.symm,hK⟩
  have oR:e.head≠gM:=λhh=>h3 (jH.trans hh)
  refine zr<|cW rfl rfl<|zA<|ag<|zc rfl (λh5=>?_) (λh5=>?_)
  obtain⟨nf,nx,tA,tB,eb,rfl⟩:=IU bD (jH.symm.trans h5)
  have wJ:(Ex.fn nf nx tA tB eb).n=3+tA.n+tB.n+eb.n:=rfl
  have I1:(Ex.fn nf nx tA tB eb).av.au.length=6:=rfl
  obtain⟨b1,fY,gX,gY,e1,bC,dd⟩:=fI bc (i:=1) om
  cases e1
  obtain⟨b2,ni,jb,jc,e2,bX,et⟩:=fI bc (i:=2) om
  cases e2
  obtain⟨b3,B2,pT,pU,e3,er,eY⟩:=fI bc (i:=3) om
  cases e3
  have eY:bS L _ _ tA.av:=eY
  obtain⟨b4,afq,Mz,MA,e4,jJ,pV⟩:=fI bc (i:=4) om
  cases e4
  have pV:bS L _ _ tB.av:=pV
  obtain⟨b5,afr,Ea,Eb,e5,jY,nz⟩:=fI bc (i:=5) om
  cases e5
  have nz:bS L _ _ eb.av:=nz
  have hAz:=tA.size
  have hBz:=tB.size
  have Mw:=tA.len
  have Mx:=tB.len
  refine zr<|zf cL rfl<|zl cI rfl (bR.at rfl)<|zi (i:=3) cv aH rfl rfl ((show 3<6 from om))<|zL bT aH rfl er.cells rfl<|aC (tx tA.av.size tA.av (lR _) tA.oC.wf om (show tA.text.length<=100000000 from om) _ _ w1 eY) ?_
  rintro v2 w2 ⟨dA,aq⟩
  have eE:=aq.size
  have hK:=hK.ext aq;have kf:=kf.ext aq;have eZ:=eZ.ext aq;have bR:=bR.ext aq;have bC:=bC.ext aq;have bX:=bX.ext aq;have jJ:=jJ.ext aq;have jY:=jY.ext aq;have pV:=pV.ext aq;have nz:=nz.ext aq
  obtain rfl:=dA
  refine zA<|ag<|zr<|zf cL rfl<|zl cI rfl (bR.at rfl)<|zi (i:=4) cv aH rfl rfl ((show 4<6 from om))<|zL bT aH rfl jJ.cells rfl<|aC (tx tB.av.size tB.av (lR _) tB.oC.wf om (show tB.text.length<=100000000 from om) _ _ w2 pV) ?_
  rintro v3 w3 ⟨eh,aJ⟩
  have fZ:=aJ.size
  have hK:=hK.ext aJ;have kf:=kf.ext aJ;have eZ:=eZ.ext aJ;have bR:=bR.ext aJ;have bC:=bC.ext aJ;have bX:=bX.ext aJ;have jY:=jY.ext aJ;have nz:=nz.ext aJ
  obtain rfl:=eh
  refine zA<|ag<|zr<|zm<|zm<|aC (S6 true tA tB bD.2.2.2.1 bD.2.2.2.2.1 w3) ?_
  rintro v4 w4 ⟨eH,aF⟩
  have gI:=aF.size
  have hK:=hK.ext aF;have kf:=kf.ext aF;have eZ:=eZ.ext aF;have bR:=bR.ext aF;have bC:=bC.ext aF;have bX:=bX.ext aF;have jY:=jY.ext aF;have nz:=nz.ext aF
  obtain rfl:=eH
  have Um:∀x,x∈L->x<w4.heap.size:=(λx hx=>lL (lP x hx) hK.size)
  refine zm<|zx (i:=0) rfl rfl<|zx (i:=1) rfl rfl<|zA<|zA<|ag<|aQ<|aQ ?_
  refine jg (λ_:Unit=>[(10,str (if 1+tA.n+tB.n<=16 then(Ty.op true tA tB).text else[])),(104,.bool (!decide (1+tA.n+tB.n<=16)||decide (fj (bM eb (Γ++[(nf,.op true tA tB),(nx,tA)]))≠tB.text)))]) (λ_ w'=>ak [] w w'∧ak [] w4 w') ?_ ?_
  rcases Classical.em (1+tA.n+tB.n<=16) with lr|lr
  apply wv ei 29 (rA 76 29) (rA 76 29) [[],[0],[1],[2],[2,3],[2,4],[2,5],[2],[2],[2,8],[2,9],[2,10],[2,11],[2],[2,13],[2,14],[2,15],[2,16],[2,12,17],[2,7,18],[2],[2],[2],[2,21,22],[2,20,23],[2,6,19,24],[2],[2,25,26],[2,27]] [It.v _,It.v _,It.v (.bool false),It.v _,It.v _,It.v _,It.v _,It.v _,It.v _,It.v _,It.v _,It.v _,It.v _,It.v _,It.v _,It.v _,It.v _,It.v _,It.p (fun(v:Value) (ww:World)=>bI L ww v [nf,nx]),It.p (fun(v:Value) (ww:World)=>bI L ww v (Γ.map Prod.fst++[nf,nx])),It.v _,It.v _,It.v _,It.p (fun(v:Value) (ww:World)=>bI L ww v [(if 1+tA.n+tB.n<=16 then(Ty.op true tA tB).text else[]),tA.text]),It.p (fun(v:Value) (ww:World)=>bI L ww v ((Γ.map λp=>p.2.text)++[(if 1+tA.n+tB.n<=16 then(Ty.op true tA tB).text else[]),tA.text])),It.v _,It.v _,It.v _,It.v _] de (by exact⟨λv w w' h k=>bI.ext h k,λv w w' h k=>bI.ext h k,λv w w' h k=>bI.ext h k,λv w w' h k=>bI.ext h k,trivial⟩)
  intro wd aB
  refine eI ?_
  refine vc (λ_ _ _=>eJ rfl pv) ?_
  refine vc (λx w5 aU=>?_) ?_
  refine zm ?_
  exact pv (by exact congrArg Value.bool (show(!decide (1+tA.n+tB.n<=16))=false from by rw[dT lr];rfl))
  refine vc (λ_ _ _=>zf cL rfl pv) ?_
  refine vk aB (λx w5 aU=>?_) ?_
  have bR:=bR.ext aU
  refine zl cI rfl (bR.at rfl) ?_
  exact pv
  refine vk aB (λx w5 aU=>?_) ?_
  refine zi (i:=5) cv aH rfl rfl ((show 5<6 from om)) ?_
  exact pv
  refine vk aB (λx w5 aU=>?_) ?_
  have jY:=jY.ext aU
  refine zL bT aH rfl jY.cells rfl ?_
  exact pv
  refine eI ?_
  refine vc (λ_ _ _=>zf cL rfl pv) ?_
  refine vk aB (λx w5 aU=>?_) ?_
  have bR:=bR.ext aU
  refine zl cI rfl (bR.at rfl) ?_
  exact pv
  refine vk aB (λx w5 aU=>?_) ?_
  refine zi (i:=1) cv aH rfl rfl ((show 1<6 from om)) ?_
  exact pv
  refine vc (λ_ _ _=>zf dz rfl pv) ?_
  refine vk aB (λx w5 aU=>?_) ?_
  have bC:=bC.ext aU
  refine zl ck rfl (bC.cells 0 _ rfl) ?_
  exact pv
  refine vc (λ_ _ _=>zf cL rfl pv) ?_
  refine vk aB (λx w5 aU=>?_) ?_
  have bR:=bR.ext aU
  refine zl cI rfl (bR.at rfl) ?_
  exact pv
  refine vk aB (λx w5 aU=>?_) ?_
  refine zi (i:=2) cv aH rfl rfl ((show 2<6 from om)) ?_
  exact pv
  refine vc (λ_ _ _=>zf dz rfl pv) ?_
  refine vk aB (λx w5 aU=>?_) ?_
  have bX:=bX.ext aU
  refine zl ck rfl (bX.cells 0 _ rfl) ?_
  exact pv
  refine vk aB (λx w5 aU=>?_) ?_
  refine ln bh bA rfl rfl rfl rfl ?_
  intro w6 bF afs lG
  exact pf bF ((aY.eD [nf,nx] afs (λhx=>by have:=Um _ hx;have:=aU.size;omega)))
  refine vk aB (λx w5 aU=>?_) ?_
  have hK:=hK.ext aU;have kf:=kf.ext aU
  intro wT d18
  refine aC (tP (Γ.map Prod.fst) [nf,nx] so (.slice an nn cn) _ L w5 kf d18 (λx hx=>lL (lP x hx) hK.size)) ?_
  rintro v6 w6 ⟨lu,bF⟩
  have oM:=bF.size
  have j4:=lu
  exact pf bF j4
  refine eI ?_
  refine eI ?_
  refine eI ?_
  refine vk aB (λx w5 aU=>?_) ?_
  refine ln bh bA rfl rfl rfl rfl ?_
  intro w6 bF Nr lG
  exact pf bF ((aY.eD [(if 1+tA.n+tB.n<=16 then(Ty.op true tA tB).text else[]),tA.text] Nr (λhx=>by have:=Um _ hx;have:=aU.size;omega)))
  refine vk aB (λx w5 aU=>?_) ?_
  have hK:=hK.ext aU;have eZ:=eZ.ext aU
  intro M0 d23
  refine aC (tP (Γ.map λp=>p.2.text) [(if 1+tA.n+tB.n<=16 then(Ty.op true tA tB).text else[]),tA.text] so (.slice ay ny Gn) _ L w5 eZ d23 (λx hx=>lL (lP x hx) hK.size)) ?_
  rintro v6 w6 ⟨lu,bF⟩
  have oM:=bF.size
  have j4:=lu
  exact pf bF j4
  refine vk aB (λx w5 aU=>?_) ?_
  have hK:=hK.ext aU;have nz:=nz.ext aU
  intro Gp d19
  intro v24 d24
  refine aC (ih eb om om bD.2.2.2.2.2 (Γ++[(nf,.op true tA tB),(nx,tA)]) so (by have:=Fh (x:=nx) (Fh (x:=nf) hΓ (T:=.op true tA tB) (show 1+tA.n+tB.n<=16 from lr)) bD.2.2.2.1;simpa using this) _ _ _ L w5 (λx hx=>lL (lP x hx) hK.size) nz (show bI L _ _ (List.map _ (Γ++[(nf,.op true tA tB),(nx,tA)])) from by rw[List.map_append];exact d19) (show bI L _ _ (List.map _ (Γ++[(nf,.op true tA tB),(nx,tA)])) from by rw[iP lr] at d24;rw[List.map_append];exact d24)) ?_
  rintro v6 w6 ⟨lu,bF⟩
  have oM:=bF.size
  obtain rfl:=lu
  exact pk bF
  refine eI ?_
  refine vk aB (λx w5 aU=>?_) ?_
  refine jG rfl rfl rfl rfl ?_
  exact pv
  refine vc (λ_ _ _=>zp rfl pv) ?_
  exact trivial
  intro x pW jR
  intro wT d18
  intro Gp d19
  intro M0 d23
  intro v24 d24
  have hK:=hK.ext jR
  change OW _ _ _ _ [] (aM (aN _ x _) (zZ 76 [_,_,_,_,_,_,_,_,_,_,_,_,_,_,_,_,_,_,_,_,_,_,_,_,_,_,_,_,_])) _
  refine ag ?_
  exact⟨(),⟨rfl,congrArg Value.bool (show decide (fj (bM eb (Γ++[(nf,.op true tA tB),(nx,tA)]))≠tB.text)=_ from by rw[dT lr];rfl)⟩,hK,jR⟩
  apply mq ei 29 (rA 76 29) (rA 76 29) [[],[0],[1],[2],[2,3],[2,4],[2,5],[2],[2],[2,8],[2,9],[2,10],[2,11],[2],[2,13],[2,14],[2,15],[2,16],[2,12,17],[2,7,18],[2],[2],[2],[2,21,22],[2,20,23],[2,6,19,24],[2],[2,25,26],[2,27]] [It.v _,It.v _,It.v (.bool true),It.v _,It.v _,It.v _,It.v _,It.v _,It.v _,It.v _,It.v _,It.v _,It.v _,It.v _,It.v _,It.v _,It.v _,It.v _,It.v _,It.v _,It.v _,It.v _,It.v _,It.v _,It.v _,It.v _,It.v _,It.v _,It.v _] de rfl
  intro wd aB
  refine eI ?_
  refine vc (λ_ _ _=>eJ rfl pv) ?_
  refine vc (λx w5 aU=>?_) ?_
  refine zm ?_
  exact pv (by exact congrArg Value.bool (show(!decide (1+tA.n+tB.n<=16))=true from by rw[dF lr];rfl))
  refine vc (λx w5 aU=>?_) ?_
  exact dm pv
  refine vk aB (λx w5 aU=>?_) ?_
  exact dm pv
  refine vk aB (λx w5 aU=>?_) ?_
  exact dm pv
  refine vk aB (λx w5 aU=>?_) ?_
  exact dm pv
  refine vc (λx w5 aU=>?_) ?_
  exact dm pv
  refine vc (λx w5 aU=>?_) ?_
  exact dm pv
  refine vk aB (λx w5 aU=>?_) ?_
  exact dm pv
  refine vk aB (λx w5 aU=>?_) ?_
  exact dm pv
  refine vc (λx w5 aU=>?_) ?_
  exact dm pv
  refine vk aB (λx w5 aU=>?_) ?_
  exact dm pv
  refine vc (λx w5 aU=>?_) ?_
  exact dm pv
  refine vk aB (λx w5 aU=>?_) ?_
  exact dm pv
  refine vk aB (λx w5 aU=>?_) ?_
  exact dm pv
  refine vc (λx w5 aU=>?_) ?_
  exact dm pv
  refine vk aB (λx w5 aU=>?_) ?_
  exact dm pv
  refine vk aB (λx w5 aU=>?_) ?_
  exact dm pv
  refine vk aB (λx w5 aU=>?_) ?_
  exact dm pv
  refine vc (λx w5 aU=>?_) ?_
  exact dm pv
  refine vc (λx w5 aU=>?_) ?_
  exact dm pv
  refine vc (λx w5 aU=>?_) ?_
  exact dm pv
  refine vk aB (λx w5 aU=>?_) ?_
  exact dm pv
  refine vk aB (λx w5 aU=>?_) ?_
  exact dm pv
  refine vk aB (λx w5 aU=>?_) ?_
  exact dm pv
  refine vc (λx w5 aU=>?_) ?_
  exact dm pv
  refine vk aB (λx w5 aU=>?_) ?_
  exact dm pv
  refine vc (λ_ _ _=>zp rfl pv) ?_
  exact trivial
  intro x pW jR
  have hK:=hK.ext jR
  change OW _ _ _ _ [] (aM (aN _ x _) (zZ 76 [_,_,_,_,_,_,_,_,_,_,_,_,_,_,_,_,_,_,_,_,_,_,_,_,_,_,_,_,_])) _
  refine ag ?_
  exact⟨(),⟨rfl,congrArg Value.bool (show true=_ from by rw[dF lr];rfl)⟩,hK,jR⟩
  intro gu pQ e45 hI
  obtain⟨hK,aG⟩:=hI
  refine zc rfl (λh6=>?_) (λh6=>?_)
  have hq:=(Uk (f:=nf) (x:=nx) (A:=tA) (B:=tB) (e:=eb) (Γ:=Γ)).trans (iP h6)
  refine zr<|zA<|ag<|aV ?_
  exact⟨_,rfl,congrArg (λz=>str z) hq.symm,hK⟩
  have hq:=(Uk (f:=nf) (x:=nx) (A:=tA) (B:=tB) (e:=eb) (Γ:=Γ)).trans (iN (by rw[h6];simp))
  have h16:1+tA.n+tB.n<=16:=(by simp at h6;exact h6.1)
  refine bz<|zr<|zm<|zA<|ag<|aV ?_
  exact⟨_,rfl,congrArg (λz=>str z) ((iP h16).trans hq.symm),hK⟩
  have rh:e.head≠il:=λhh=>h5 (jH.trans hh)
  have Nb:=bR
  have nk:=hK
  have afv:=bc
  have afw:=kf
  have afx:=eZ
  have afy:=pY
  have hky:(rp e Γ).length=e.kids.length:=by simp[rp]
  refine bz<|zr<|gN bh bA ?_
  intro w2 aq afA eM
  have hK:=hK.ext aq;have bc:=bc.ext aq;have kf:=kf.ext aq;have eZ:=eZ.ext aq;have bR:=bR.ext aq;have pY:=pY.ext aq
  refine zA<|ag<|aQ<|zr<|zA<|ag<|cQ ?_
  refine fW (λq:Nat×Value×Option Nat=>[(1,.slice an nn cn),(2,.slice ay ny Gn),(3,.pointer (some ⟨w.heap.size,0,none⟩)),(12,q.2.1),(13,.int .i64 ((e.from+q.1:Nat):Int))]) (λq ww=>ak [] w1 ww∧dh ww 9 q.2.1 q.2.2 ((rp e Γ).take q.1)∧(∀x,x∈q.2.2.toList->w1.heap.size<=x)∧q.1<=e.kids.length) (λq=>e.kids.length-q.1) ((0,.slice (some ⟨w1.heap.size,0,none⟩) 0 0,some w1.heap.size)) (⟨rfl,rfl,rfl,rfl,by rw[T5 fp oR rh];rfl⟩) (⟨aq,by simpa using afA.lp,sm,sm⟩) ?_
  intro gg w3 e3 hI
  obtain⟨k,vl,gl⟩:=gg
  dsimp only at hI⊢
  obtain⟨dk,hO,gH,hk⟩:=hI
  have hK:=nk.ext dk
  have bc:=afv.ext dk
  have kf:=afw.ext dk
  have eZ:=afx.ext dk
  have bR:=Nb.ext dk
  have pY:=afy.ext dk
  refine aQ<|zr<|zm<|zf cL rfl<|zl cI rfl (bR.at rfl)<|dX cv rfl<|fy rfl rfl rfl<|ag<|zc rfl (λh7=>?_) (λh7=>?_)
  have iu:k<e.kids.length:=om
  have sJ:=wG k iu
  obtain⟨b1,fY,gX,gY,e1,bC,dd⟩:=fI bc (i:=e.from+k) om
  cases e1
  have dd:=dd.eq sJ
  have tQ:=Fg bD iu
  have Bd:=yf iu
  have hkN:=BY e (k+1)
  have bg:=afn (Γ:=Γ) iu
  refine bz<|aQ<|cQ<|db<|zm<|zf cL rfl<|zl cI rfl (bR.at rfl)<|zm<|zi cv aH rfl rfl om<|zL bT aH rfl bC.cells rfl<|zm<|zm<|aC (ih (fJ e k) om om tQ.1 Γ om hΓ _ (.slice an nn cn) (.slice ay ny Gn) L w3 (λx hx=>lL (lP x hx) hK.size) dd kf eZ) ?_
  rintro v4 w4 ⟨eH,aF⟩
  have gI:=aF.size
  have hK:=hK.ext aF;have hO:=hO.ext aF;have dk:=dk.ext aF
  obtain rfl:=eH
  refine gD bh bA rfl rfl ?_
  intro w5 aU afB jo
  have hK:=hK.ext aU;have hO:=hO.ext aU;have dk:=dk.ext aU
  refine rZ bh bA rfl rfl rfl rfl rfl rfl hO afB (by rw[List.length_take];omega) ?_
  intro v9 g9 w6 dJ aG fL
  rw[<-bg] at dJ
  have Gj:=dk.size
  have dk:=dk.since aG (λx hx=>.inr (gH x hx))
  have hK:=nk.ext dk
  have afC:∀x,x∈g9.toList->w1.heap.size<=x:=(λx hx=>by rcases fL with h|h;(·exact gH x (h▸hx));(·rw[h] at hx;simp at hx;omega))
  refine zA<|ag<|db<|zm<|eF rfl rfl rfl (wrap_i64 _ om om)<|zA<|ag ?_
  exact⟨(k+1,v9,g9),⟨rfl,rfl,rfl,rfl,congrArg (Value.int .i64) om⟩,⟨dk,dJ,afC,om⟩,by simp;omega⟩
  have afD:k=e.kids.length:=by omega
  subst afD
  rw[List.take_of_length_le (by rw[hky];exact lR _)] at hO
  refine gB<|gC rfl<|zr<|zf cL rfl<|zl cI rfl (bR.at rfl)<|zi (i:=0) cv aH rfl rfl jS<|zf dz rfl<|zl ck rfl (pY 0 _ rfl)<|zm<|aC ((jH▸afm bD fp oR rh hΓ _ _ w3 hO.rs)) ?_
  rintro v4 w4 ⟨eH,aF⟩
  have gI:=aF.size
  have hK:=hK.ext aF
  obtain rfl:=eH
  refine zA<|ag<|aV ?_
  exact⟨_,rfl,rfl,hK⟩
def Ci (s x:aj):Prop:=(mv s=false->x=[])∧∀e:Ex,ba s=some e.av->e.ok->e.n<=120->x=fj (bM e [])
theorem Un {s x y:aj} (hx:Ci s x) (hy:Ci s y):x=y:=by
 cases h:mv s with
 |false=>rw[hx.1 h,hy.1 h]
 |true=>
  obtain⟨e,he,bD,hn⟩:=wE.1 h
  rw[hx.2 e he bD hn,hy.2 e he bD hn]
theorem afE (h:cE e [] []≠[]):bM e []=none:=by
 cases ht:bM e [] with
 |none=>rfl
 |some T=>
  exfalso
  cases hf:cE e [] [] with
  |nil=>exact h hf
  |cons y ys=>
   have hy:y∈cE e [] []:=by rw[hf];simp
   rcases(qm y e [] []).1 hy with h1|⟨h1,_⟩
   ·cases h1
   ·have:=pJ ht h1;simp[look] at this
theorem Uo (s:aj) (w:World):cj Tryz.prog 83 [str s] w λr w'=>(∃x,r=str x∧Ci s x)∧ak [] w w':=by
 have hK:=ak.refl [] w
 refine cV [.tmp 2] 21 Tryz.func83 rfl Zx rfl rfl ?_
 refine zr<|zA<|ag<|zr<|zm<|aC (FU s [] w sm) ?_
 rintro v1 w1 ⟨fM,aK⟩
 have dQ:=aK.size
 have hK:=hK.ext aK
 obtain⟨t,tv,rfl,ht,hp⟩:=fM
 obtain⟨pa,pn,pc,rfl,fP,bc⟩:=dM ht
 refine zm<|zx (i:=0) rfl rfl<|zx (i:=1) rfl rfl<|eA aH rfl rfl rfl ?_
 intro w2 aq bR eM
 have hK:=hK.grow;have hK:=hK.ext aq;have ht:=ht.grow;have ht:=ht.ext aq
 refine du aH rfl rfl rfl bR rfl ?_
 intro w3 aJ bR iH
 have hK:=hK.aL aJ sx;have ht:=ht.aL aJ sx
 refine zA<|ag<|aQ<|zr<|zm<|eJ rfl<|zm<|xo (t:=12) rfl (λh1=>?_) (λh1=>?_)
 replace h1:=bw h1
 have hx:mv s=false:=by simpa using h1
 refine zs<|zs<|zs<|zp rfl<|ag<|zc rfl (λh2=>?_) (λh2=>?_)
 refine zr<|zA<|ag<|aV ?_
 exact⟨_,rfl,⟨[],rfl,λ_=>rfl,λe h1 h2 h3=>by rw[wE.2 ⟨e,h1,h2,h3⟩] at hx;cases hx⟩,hK⟩
 simp at h2
 replace h1:=bw h1
 have hx:mv s=true:=by simpa using h1
 obtain⟨e,he,bD,hn⟩:=wE.1 hx
 have e2:=hp.1 _ he
 subst e2
 have D8:∀{e':Ex},ba s=some e'.av->e'.ok->e'=e:=(λh1 h2=>qy h2 bD (Option.some.inj (h1.symm.trans he)))
 refine zm<|aC (adx s w3) ?_
 rintro v4 w4 ⟨eH,aF⟩
 have gI:=aF.size
 have hK:=hK.ext aF;have ht:=ht.ext aF;have bR:=bR.ext aF
 obtain⟨b9,rfl,cT⟩:=eH
 refine eJ rfl<|zp rfl<|ag<|zc rfl (λh3=>?_) (λh3=>?_)
 have jS:b9=false:=(by simpa using h3)
 have nI:cE e [] []≠[]:=(λh=>by have:=cT.2 ⟨e,he,bD,hn,h⟩;rw[jS] at this;cases this)
 refine zr<|zA<|ag<|aV ?_
 exact⟨_,rfl,⟨[],rfl,λh=>rfl,λe' h1 h2 h3=>by rw[D8 h1 h2,afE nI];rfl⟩,hK⟩
 refine bz<|zr<|zL bT aH rfl bR.all rfl<|gN bh bA ?_
 intro w5 aU kh jo
 have hK:=hK.ext aU;have ht:=ht.ext aU
 refine gN bh bA ?_
 intro w6 bF Ch lG
 have hK:=hK.ext bF;have ht:=ht.ext bF
 refine aC (Ul 120 e hn om bD [] so (λs T h=>by simp[look] at h) _ _ _ [] w6 sm (ht.ji sm) (cD.nil _ _ _) (cD.nil _ _ _)) ?_
 rintro v7 w7 ⟨iT,cw⟩
 have pb:=cw.size
 have hK:=hK.ext cw
 obtain rfl:=iT
 refine zA<|ag<|aV ?_
 have hcy:Ci s (fj (bM e [])):=⟨(λh=>by rw[hx] at h;cases h),λe' h1 h2 h3=>by rw[D8 h1 h2]⟩
 exact⟨_,rfl,⟨_,rfl,hcy⟩,hK⟩
theorem afG (s:aj) (w:World):cj Tryz.prog 80 [str s] w λr w'=>(∃b,r= .bool b∧∀x,Ci s x->b=decide (x≠[]))∧ak [] w w':=by
 have hK:=ak.refl [] w
 refine cV [.tmp 2] 6 Tryz.func80 rfl Zu rfl rfl ?_
 refine zr<|zA<|ag<|zr<|zm<|aC (Uo s w) ?_
 rintro v1 w1 ⟨fM,aK⟩
 have dQ:=aK.size
 have hK:=hK.ext aK
 obtain⟨x,rfl,hx⟩:=fM
 refine jG rfl rfl rfl rfl<|zA<|ag<|aV ?_
 exact⟨_,rfl,⟨_,rfl,λy hy=>by rw[Un hx hy]⟩,hK⟩
theorem Gq (s:aj) (hs:s.length<=1000000) (w:World):cj Tryz.prog 142 [str s] w λr w'=>r=str (dV s)∧ak [] w w':=by
 have hK:=ak.refl [] w
 refine cV [.tmp 2] 6 Tryz.func142 rfl Yb rfl rfl ?_
 refine zr<|zA<|ag<|zr<|zm<|cm rfl rfl so<|cm rfl rfl so<|zA<|ag<|aV ?_
 exact⟨_,rfl,rfl,hK⟩
theorem afH:∀(m:Nat) (T:Ty),T.n<=m->T.n<=60->∀(v:Value) (L:List Nat) (w:World),bS L w v T.av->cj Tryz.prog 150 [v] w λr w'=>r=str (bL T)∧ak [] w w':=by
 intro m
 induction m with
 |zero=>intro T h;have:=T.pos;omega
 |succ m ih=>
  intro T hm mU v L w hv
  obtain⟨a,np,c,rfl,hn,bc⟩:=dM hv
  subst hn
  have hK:=ak.refl [] w
  refine cV [.tmp 2] 37 Tryz.func150 rfl Yj rfl rfl ?_
  refine zr<|fE rfl ?_
  intro w1 aK aT dY
  have hK:=hK.ext aK;have bc:=bc.ext aK
  refine zA<|ag<|aQ<|zr<|zf dz rfl<|zl ck rfl (aT.at rfl)<|jG rfl rfl rfl rfl<|ag<|zc rfl (λh1=>?_) (λh1=>?_)
  have hi:T= .i:=(by cases T with|i=>rfl|op g a b=>exact absurd rfl h1)
  refine zr<|zA<|ag<|aV ?_
  exact⟨_,rfl,congrArg (λz=>str z) (by rw[hi,RP]),hK⟩
  have aR:∃g A B,T= .op g A B:=(by cases T with|i=>exact absurd h1 de|op g a b=>exact⟨g,a,b,rfl⟩)
  obtain⟨g,A,B,rfl⟩:=aR
  have wJ:(Ty.op g A B).n=1+A.n+B.n:=rfl
  have Ns:(Ty.op g A B).av.au.length=3:=rfl
  obtain⟨b0,Av,xF,xG,e0,ey,hT0⟩:=fI bc (i:=0) om
  cases e0
  have ey:iZ L _ _ _ [str (kq g),_]:=ey
  obtain⟨b1,fY,gX,gY,e1,bC,dd⟩:=fI bc (i:=1) om
  cases e1
  have dd:bS L _ _ A.av:=dd
  obtain⟨b2,ni,jb,jc,e2,bX,et⟩:=fI bc (i:=2) om
  cases e2
  have et:bS L _ _ B.av:=et
  have Mw:=BJ A
  have Mx:=BJ B
  have TV:=LI (bL B)
  refine bz<|zr<|zf cL rfl<|zl cI rfl (aT.at rfl)<|zi (i:=1) cv aH rfl rfl ((show 1<3 from om))<|zL bT aH rfl bC.cells rfl<|aC (ih A om om _ L w1 dd) ?_
  rintro v2 w2 ⟨dA,aq⟩
  have eE:=aq.size
  have hK:=hK.ext aq;have aT:=aT.ext aq;have ey:=ey.ext aq;have bX:=bX.ext aq;have et:=et.ext aq
  obtain rfl:=dA
  refine zA<|ag<|zr<|zf cL rfl<|zl cI rfl (aT.at rfl)<|zi (i:=2) cv aH rfl rfl ((show 2<3 from om))<|zL bT aH rfl bX.cells rfl<|aC (ih B om om _ L w2 et) ?_
  rintro v3 w3 ⟨eh,aJ⟩
  have fZ:=aJ.size
  have hK:=hK.ext aJ;have aT:=aT.ext aJ;have ey:=ey.ext aJ
  obtain rfl:=eh
  refine zA<|ag<|aQ<|zr<|zf cL rfl<|zl cI rfl (aT.at rfl)<|zi (i:=0) cv aH rfl rfl ((show 0<3 from om))<|zf dz rfl<|zl ck rfl (ey.cells 0 _ rfl)<|cW rfl rfl<|ag<|zc rfl (λh2=>?_) (λh2=>?_)
  have hg:g=false:=(by cases g with|false=>rfl|true=>exact absurd h2 de)
  refine zr<|zm<|cm rfl rfl so<|cm rfl rfl so<|zm<|cm rfl rfl so<|cm rfl rfl so<|zA<|ag<|aV ?_
  exact⟨_,rfl,congrArg (λz=>str z) (by rw[hg,RQ]),hK⟩
  have hg:g=true:=(by cases g with|true=>rfl|false=>exact absurd rfl h2)
  refine bz<|zr<|zm<|cm rfl rfl so<|cm rfl rfl so<|zm<|aC (Gq (bL B) om w3) ?_
  rintro v4 w4 ⟨eH,aF⟩
  have gI:=aF.size
  have hK:=hK.ext aF
  obtain rfl:=eH
  refine cm rfl rfl so<|cm rfl rfl so<|zA<|ag<|aV ?_
  exact⟨_,rfl,congrArg (λz=>str z) (by rw[hg,RR]),hK⟩
theorem vw (T:Ty) (hT:T.n<=60) (w:World):cj Tryz.prog 111 [str T.text] w λr w'=>r=str (bL T)∧ak [] w w':=by
 have hK:=ak.refl [] w
 refine cV [.tmp 2] 12 Tryz.func111 rfl XK rfl rfl ?_
 refine zr<|zA<|ag<|zr<|zm<|aC (HW T.text [] w sm) ?_
 rintro v1 w1 ⟨fM,aK⟩
 have dQ:=aK.size
 have hK:=hK.ext aK
 obtain⟨t,tv,rfl,ht,hp⟩:=fM
 have e2:=hp.1 _ (Ty.ba hT)
 subst e2
 obtain⟨pa,pn,pc,rfl,fP,bc⟩:=dM ht
 refine zm<|zx (i:=0) rfl rfl<|zx (i:=1) rfl rfl<|eA aH rfl rfl rfl ?_
 intro w2 aq bR eM
 have hK:=hK.grow;have hK:=hK.ext aq;have ht:=ht.grow;have ht:=ht.ext aq
 refine du aH rfl rfl rfl bR rfl ?_
 intro w3 aJ bR iH
 have hK:=hK.aL aJ sx;have ht:=ht.aL aJ sx
 refine zA<|ag<|zr<|zL bT aH rfl bR.all rfl<|aC (afH 60 T hT hT _ [] w3 (ht.ji sm)) ?_
 rintro v4 w4 ⟨eH,aF⟩
 have gI:=aF.size
 have hK:=hK.ext aF
 obtain rfl:=eH
 refine zA<|ag<|aV ?_
 exact⟨_,rfl,rfl,hK⟩
theorem afI (h:aj) (w:World):cj Tryz.prog 186 [str h] w λr w'=>r=str (qt h)∧ak [] w w':=by
 have hK:=ak.refl [] w
 refine cV [.tmp 2] 10 Tryz.func186 rfl YH rfl rfl ?_
 refine zr<|zA<|ag<|aQ<|zr<|zm<|ag<|cQ<|zr<|cW rfl rfl<|zA<|ag<|zc rfl (λh1=>?_) (λh1=>?_)
 have hq:qt h=[97,100,100]:=iP h1
 refine zr<|zA<|ag<|aV ?_
 exact⟨_,rfl,congrArg (λz=>str z) hq.symm,hK⟩
 have h1:=h1
 refine zr<|cW rfl rfl<|zA<|ag<|zc rfl (λh2=>?_) (λh2=>?_)
 have hq:qt h=[115,117,98]:=(iN h1).trans (iP h2)
 refine zr<|zA<|ag<|aV ?_
 exact⟨_,rfl,congrArg (λz=>str z) hq.symm,hK⟩
 have h2:=h2
 refine zr<|cW rfl rfl<|zA<|ag<|zc rfl (λh3=>?_) (λh3=>?_)
 have hq:qt h=[109,117,108]:=(iN h1).trans ((iN h2).trans (iP h3))
 refine zr<|zA<|ag<|aV ?_
 exact⟨_,rfl,congrArg (λz=>str z) hq.symm,hK⟩
 have hq:qt h=l5:=(iN h1).trans ((iN h2).trans (iN h3))
 refine bz<|zr<|zA<|ag<|aV ?_
 exact⟨_,rfl,congrArg (λz=>str z) hq.symm,hK⟩
def t8:sG:=⟨127,29,130,9⟩
theorem dZ.open {τ:sG} {o:Bool} (h:dZ τ E L w b o m):∃vb vt vc vy gb gt gc gy,aY w b [vb,vt,.int .i64 (m.count:Int),.bool m.wide,vc,vy].toArray τ.M∧gT τ E L w b o vb vt vc vy gb gt gc gy m:=h
structure eP (E L:List Nat) (w:World) (L':List Nat) (w':World):Prop where
 fr:Fr L w L' w'
 out:∃G,ak G w w'∧∀x,x∈G->x∉E
section
variable {E L L1 L2:List Nat} {w w1 w2:World}
theorem eP.refl (E L:List Nat) (w:World):eP E L w L w:=⟨Fr.refl _ _,[],ak.refl _ _,sm⟩
theorem eP.add (h:eP E L w L1 w1) (k:Fr L1 w1 L2 w2) (kg:ak G w1 w2) (hG:∀x,x∈G->x∉E):eP E L w L2 w2:=
 let⟨G0,k0,h0⟩:=h.out
 ⟨h.fr.go k,G0++G,(k0.mono λx hx=>List.mem_append_left _ hx).trans (kg.mono λx hx=>mR _ hx),λx hx=>(mA.1 hx).elim (h0 x) (hG x)⟩
theorem eP.go (h:eP E L w L1 w1) (k:eP E L1 w1 L2 w2):eP E L w L2 w2:=let⟨_,kg,hG⟩:=k.out;h.add k.fr kg hG
theorem eP.ext (h:eP E L w L1 w1) (k:ak [] w1 w2):eP E L w L1 w2:=h.add (Fr.of k sm) k sm
theorem eP.aL (h:eP E L w L1 w1) (k:ak [x] w1 w2) (h1:x∈L1) (h2:x∉E):eP E L w L1 w2:=h.add (Fr.of k (by simpa using h1)) k (by simpa using h2)
theorem eP.tk (k:eP E L w L1 w1) {T:TypeId} {t:Tk} (h:iq L w T b t) (hb:b∈E):iq L1 w1 T b t:=let⟨_,kg,hG⟩:=k.out;h.go k.fr kg λhx=>hG b hx hb
end
theorem afJ (n:Nat) (hn:n<100000) (w:World):cj Tryz.prog 104 [.int .i64 ((n:Int)+1-1)] w λr w'=>r=str (bf n)∧ak [] w w':=by
 rw[Int.add_sub_cancel];exact iM (n+1) n om om w
theorem Nt (m:Mk) (hc:m.count<100000) (E L:List Nat) (b:Nat) (o:Bool) (w:World) (h:dZ t8 E L w b o m):
  cj Tryz.prog 184 [.pointer (some ⟨b,0,none⟩)] w λr w'=>(r=str m.aP∧dZ t8 E L w' b o m.lK)∧ak [b] w w':=by
 obtain⟨vb,vt,vc,vy,gb,gt,gc,gy,bj,hS⟩:=h.open
 have bj:aY w b [vb,vt,.int .i64 (m.count:Int),.bool m.wide,vc,vy].toArray 127:=bj
 have hK:=ak.refl [b] w
 refine cV [.tmp 2] 18 Tryz.func184 rfl YF rfl rfl ?_
 refine zr<|zA<|ag<|zr<|zm<|zm<|di rfl<|zf Kx rfl<|zl qN rfl (bj.at rfl)<|eF rfl rfl rfl (wrap_i64 _ om om)<|di rfl<|zf Kx rfl<|gW (o:=2) tq rfl rfl rfl bj rfl ?_
 intro w1 aK bj dN
 have hS:=hS.aO aK sm
 have hK:=hK.trans aK
 refine ag<|zr<|zm<|di rfl<|zf Kx rfl<|zl qN rfl (bj.at rfl)<|mJ rfl rfl rfl rfl rfl (wrap_i64 _ om om)<|aC ((afJ m.count hc w1)) ?_
 rintro v2 w2 ⟨dA,aq⟩
 have eE:=aq.size
 have hK:=hK.ext aq;have bj:=bj.ext aq;have hS:=hS.ext aq
 obtain rfl:=dA
 refine cm rfl rfl (by have:=Dr _ m.count (lR _);simp;omega)<|zA<|ag<|aV ?_
 exact⟨_,rfl,⟨rfl,⟨_,_,_,_,_,_,_,_,bj,hS.num (m.count+1) m.wide⟩⟩,hK⟩
theorem r8 (k:aj) (m:Mk) (hc:m.types.length<100000) (E L:List Nat) (b:Nat) (o:Bool) (w:World) (h:dZ t8 E L w b o m):
  cj Tryz.prog 151 [.pointer (some ⟨b,0,none⟩),str k] w λr w'=>r= .int .i64 (m.types.length:Int)∧∃L',dZ t8 E L' w' b o (m.dG k)∧eP E L w L' w':=by
 obtain⟨vb,vt,vc,vy,gb,gt,gc,gy,bj,hS⟩:=h.open
 have bj:aY w b [vb,vt,.int .i64 (m.count:Int),.bool m.wide,vc,vy].toArray 127:=bj
 have hR:=eP.refl E L w
 refine cV [.tmp 4] 30 Tryz.func151 rfl Yk rfl rfl ?_
 refine zr<|zA<|ag<|zr<|zm<|zm<|di rfl<|zf zn rfl<|zl eQ rfl (bj.at rfl)<|zm<|gD bh bA rfl rfl ?_
 intro w1 aK iC dY
 have hR:=hR.ext aK;have bj:=bj.ext aK;have hS:=hS.ext aK
 refine rZ bh bA rfl rfl rfl rfl rfl rfl hS.ty iC om ?_
 intro v9 g9 w2 dJ aq fL
 obtain⟨a9,c9,e9⟩:=kt dJ
 subst e9
 obtain⟨yp,nD,vz,mB,vA,tW⟩:=hS.apart
 have qV:=hS.mem.2 (.inr (.inl rfl))
 obtain⟨L2,gi,jU⟩:=hS.LJ dJ aq (λx hx=>fL.imp (λh=>h.symm.trans hx) (λh=>by rw[h] at hx;cases hx;exact lR _))
 have bj:=bj.aO aq (λh=>(tW b h).2.1 rfl)
 have hR:=hR.add jU aq (λx hx=>(tW x hx).1)
 refine di rfl<|zf zn rfl<|gW (o:=5) nJ rfl rfl rfl bj rfl ?_
 intro w3 aJ bj dN
 have gi:=gi.aO aJ sm
 have hR:=hR.aL aJ (gi.mem.2 (.inr (.inl rfl))) nD
 refine ag<|aQ<|zr<|zm<|di rfl<|zf zn rfl<|zl eQ rfl (bj.at rfl)<|dX bh rfl<|jx rfl rfl rfl rfl rfl<|ag ?_
 refine jg (λ_:Unit=>[(0,.pointer (some ⟨b,0,none⟩))]) (λ_ w'=>ak [b] w3 w'∧aY w' b [vb,vt,.int .i64 (m.count:Int),.bool (m.wide||decide (40<m.types.length+1)),vc,.slice a9 (m.types++[k]).length c9].toArray 127) ?_ ?_
 refine zc rfl (λh1=>?_) (λh1=>?_)
 have hd:decide (40<m.types.length+1)=true:=dT (by simp at h1;omega)
 refine db<|zm<|di rfl<|zf PM rfl<|gW (o:=3) ZZ rfl rfl rfl bj rfl ?_
 intro w4 aF bj dN
 have Gs:=aF
 refine ag ?_
 exact⟨(),rfl,Gs,by rw[hd,Bool.or_true];exact bj⟩
 have hd:decide (40<m.types.length+1)=false:=dF (by simp at h1;omega)
 refine bz ?_
 exact⟨(),rfl,ak.refl _ _,by rw[hd,Bool.or_false];exact bj⟩
 intro gu w4 e4 hI
 obtain⟨Fp,bj⟩:=hI
 have gi:=gi.aO Fp sm
 have hR:=hR.aL Fp (gi.mem.2 (.inr (.inl rfl))) nD
 refine zr<|zm<|di rfl<|zf zn rfl<|zl eQ rfl (bj.at rfl)<|dX bh rfl<|mJ rfl rfl rfl rfl rfl (wrap_i64 _ sx sx)<|zA<|ag<|aV ?_
 exact⟨_,rfl,congrArg (Value.int .i64) sm,L2,⟨_,_,_,_,_,_,_,_,bj,gi.num m.count (m.wide||decide (40<m.types.length+1))⟩,hR⟩
theorem gT.code {τ:sG} {vb vt vc vy:Value} {gt gc gy:Option Nat} (h:gT τ E L w b true vb vt vc vy gb gt gc gy m):dh w τ.S vc gc m.code:=by
 rcases h.co with⟨_,h⟩|⟨h,_⟩
 ·exact h
 ·cases h
theorem lh (hd:aj) (ps:List aj) (hl:(bO hd ps).length<=1000000) (m:Mk) (hc:m.code.length<100000) (E L:List Nat) (b:Nat) (v:Value) (w:World) (h:dZ t8 E L w b true m) (hv:bI L w v ps):
  cj Tryz.prog 143 [.pointer (some ⟨b,0,none⟩),str hd,v] w λr w'=>∃L',dZ t8 E L' w' b true (m.cY hd ps)∧eP E L w L' w':=by
 obtain⟨vb,vt,vc,vy,gb,gt,gc,gy,bj,hS⟩:=h.open
 have bj:aY w b [vb,vt,.int .i64 (m.count:Int),.bool m.wide,vc,vy].toArray 127:=bj
 have hco:dh w 9 vc gc m.code:=by
  rcases hS.co with⟨_,h⟩|⟨h,_⟩
  ·exact h
  ·cases h
 obtain⟨yp,nD,vz,mB,vA,tW⟩:=hS.apart
 have Cd:fu L w:=hS.cZ
 refine cV [] 18 Tryz.func143 rfl Yc rfl rfl ?_
 apply kc ei L 12 (rA 6 12) (rA 6 12) [[],[],[1],[2],[3],[],[],[5,6],[7],[4,8],[0],[10]] [Ie.v _,Ie.v _,Ie.v _,Ie.v _,Ie.w 0 vc,Ie.v _,Ie.v _,Ie.v _,Ie.p (fun(G:List Nat) (v:Value) (ww:World)=>∃bb,v= .slice (some ⟨bb,0,none⟩) 1 1∧fg G ww bb [str (bO hd ps)].toArray 9),Ie.e 1,Ie.v _,Ie.v _] [4,9] [fun(G:List Nat) (vs:List Value) (ww:World)=>G=L∧ak [] w ww,fun(G:List Nat) (vs:List Value) (ww:World)=>G=L∧ak [] w ww,fun(G:List Nat) (vs:List Value) (ww:World)=>∃g2,ak gc.toList w ww∧gT t8 E G ww b true vb vt (vs.getD 1 undef) vy gb gt g2 gy {m with code:=m.code++[bO hd ps]}∧Fr L w G ww] de rfl Cd (by exact⟨λG v w G' w' ⟨bb,e,h⟩ k=>⟨bb,e,h.go k⟩,trivial⟩) (by exact⟨λG vs w w' ⟨h1,h2⟩ k=>⟨h1,h2.ext k⟩,λG vs w w' ⟨h1,h2⟩ k=>⟨h1,h2.ext k⟩,λG vs w w' ⟨g2,h1,h2,h3⟩ k=>⟨g2,h1.ext k,h2.ext k,h3.ext k⟩,trivial⟩) (⟨rfl,ak.refl _ _⟩)
 refine cR ?_
 refine cR ?_
 refine vf (λ_ _ _ _ _ _=>di rfl fv) ?_
 refine vf (λ_ _ _ _ _ _=>zf C6 rfl fv) ?_
 refine ve 0 (λx w1 G1 aW qz qE hJ hlen=>?_) ?_
 have bo:=jP hlen
 subst bo
 obtain⟨cz,cB⟩:=hJ
 have tU:=bj.ext cB
 refine zl eQ rfl (tU.at rfl) ?_
 exact fw G1 (Fr.refl _ _) qE (⟨cz,cB⟩)
 refine cR ?_
 refine cR ?_
 refine vf (λx w1 G1 aW qz qE=>?_) ?_
 have hv:=hv.go qz
 refine aC (xJ hd ps om _ _ w1 hv) ?_
 rintro v2 w2 ⟨dA,aq⟩
 have eE:=aq.size
 obtain rfl:=dA
 exact fk aq
 refine vf (λx w1 G1 aW qz qE=>?_) ?_
 refine gD bh bA rfl rfl ?_
 intro w2 aq wO eM
 exact ff aq (⟨_,rfl,wO.o qE⟩)
 refine ve 1 (λx w1 G1 aW qz qE hJ hlen=>?_) ?_
 obtain⟨q0,bo⟩:=jQ hlen
 subst bo
 intro v8 d8
 obtain⟨bb,e6,gw⟩:=d8
 subst e6
 obtain⟨cz,cB⟩:=hJ
 subst cz
 have Jf:=hS.ext cB
 have hcw:=hco.ext cB
 refine rZ bh bA rfl rfl rfl rfl rfl rfl hcw gw.jv om ?_
 intro v9 g9 w2 dJ aG fL
 obtain⟨L2,gi,jU⟩:=Jf.Ig dJ aG (λx hx=>fL.imp (λh=>h.symm.trans hx) (λh=>by rw[h] at hx;cases hx;exact lR _))
 exact fe _ jU gi.cZ (⟨g9,cB.any.trans aG,gi,(Fr.of cB sm).go jU⟩)
 refine vf (λ_ _ _ _ _ _=>di rfl fv) ?_
 refine vf (λ_ _ _ _ _ _=>zf C6 rfl fv) ?_
 exact trivial
 intro x Ll G40 aW Up afN hJ hlen
 obtain⟨q0,q1,bo⟩:=lM hlen
 subst bo
 intro v8 d8
 change OW _ _ _ _ _ (aM (aN _ x _) (zZ 6 [_,_,_,_,_,_,_,_,_,_,_,_])) _
 obtain⟨g2,Ax,gi,jU⟩:=hJ
 obtain⟨ph,pj,Gf⟩:=kt gi.code
 have e8:q1=_:=Gf
 subst e8
 have bj:=bj.aO Ax (λh=>(vA b h).2.1 rfl)
 refine gW (o:=4) nJ rfl rfl rfl bj rfl ?_
 intro pS iA bj dN
 have gi:=gi.aO iA sm
 have hR:=((eP.refl E L w).add jU Ax (λx hx=>(vA x hx).1)).aL iA (gi.mem.2 (.inr (.inl rfl))) nD
 refine ag ?_
 exact⟨_,rfl,_,⟨_,_,_,_,_,_,_,_,bj,gi⟩,hR⟩
theorem Jm {hd:aj} {ps:List aj} (hh:hd.length<=100) (hp:ps.length<=10) (hs:∀p,p∈ps->p.length<=10001):(bO hd ps).length<=1000000:=by
 have h1:=Al (m:=10001) ps hs
 have h2:ps.length*10002<=10*10002:=Nat.mul_le_mul hp (lR _)
 rw[lN];omega
theorem Ec (h:n<=10000):(bf n).length<=10001:=by have:=Dr _ n (lR _);omega
theorem dZ.dL {τ:sG} {o:Bool} (h:dZ τ E L w b o m):∀x,x∈L->x<w.heap.size:=h.mem.2.2.2
theorem Uq (m:Mk) (s:Nat) (hs:s<=10000) (ht:m.types.length<=9000) (hc:m.code.length<=9000) (E L:List Nat) (b:Nat) (w:World) (h:dZ t8 E L w b true m):
  cj Tryz.prog 148 [.pointer (some ⟨b,0,none⟩),.int .i64 (s:Int)] w λr w'=>r= .tuple #[str (bf (m.types.length+1)),str (bf (m.types.length+2))]∧∃L',dZ t8 E L' w' b true (sF m s)∧eP E L w L' w':=by
 have aw:=h
 have hR:=eP.refl E L w
 obtain⟨r,hr⟩:∃r,r=m.types.length:=⟨_,rfl⟩
 have hE:sF m s=((((((m.dG []).cY zY [bf r,bf s]).dG []).cY sE [bf (r+1),bf r,[48]]).dG []).cY sE [bf (r+2),bf r,[49]]):=by rw[hr];rfl
 rw[<-hr,hE]
 refine cV [.tmp 4,.tmp 5] 40 Tryz.func148 rfl Yh rfl rfl ?_
 refine zr<|zA<|zA<|ag<|zr<|zm<|aC (r8 [] m om E L b true w aw) ?_
 rintro v10 w1 ⟨gq,L1,aw,bY⟩
 rw[<-hr] at gq
 subst gq
 have hR:=hR.go bY
 refine zA<|ag<|zr<|zm<|zm<|aC (iM (r+1) r om om w1) ?_
 rintro v2 w2 ⟨dA,aq⟩
 have eE:=aq.size
 have aw:=aw.ext aq;have hR:=hR.ext aq
 obtain rfl:=dA
 refine zm<|aC (iM (s+1) s om om w2) ?_
 rintro v3 w3 ⟨eh,aJ⟩
 have fZ:=aJ.size
 have aw:=aw.ext aJ;have hR:=hR.ext aJ
 obtain rfl:=eh
 have dB:=aw.dL
 refine ln bh bA rfl rfl rfl rfl ?_
 intro w4 aF wc iS
 have aw:=aw.ext aF;have hR:=hR.ext aF
 refine aC (lh zY [bf r,bf s] (Jm de sm (by intro p hp;simp at hp;rcases hp with rfl|rfl<;>exact Ec om)) (m.dG []) (show m.code.length<100000 from om) E L1 b _ w4 aw (aY.eD [bf r,bf s] wc (λhx=>by have:=dB _ hx;omega))) ?_
 rintro jV w5 ⟨L2,aw,bY⟩
 have hR:=hR.go bY
 refine ag<|zr<|zm<|aC (r8 [] ((m.dG []).cY zY [bf r,bf s]) (show(m.dG []).types.length<100000 from by rw[xZ];omega) E L2 b true w5 aw) ?_
 rintro v10 w6 ⟨gq,L3,aw,bY⟩
 rw[show((m.dG []).cY zY [bf r,bf s]).types.length=r+1 from by rw[oL,xZ,hr]] at gq
 subst gq
 have hR:=hR.go bY
 refine zA<|ag<|zr<|zm<|zm<|aC (iM (r+2) (r+1) om om w6) ?_
 rintro v7 w7 ⟨iT,cw⟩
 have pb:=cw.size
 have aw:=aw.ext cw;have hR:=hR.ext cw
 obtain rfl:=iT
 refine zm<|aC (iM (r+1) r om om w7) ?_
 rintro v8 w8 ⟨p3,cu⟩
 have Ay:=cu.size
 have aw:=aw.ext cu;have hR:=hR.ext cu
 obtain rfl:=p3
 have dB:=aw.dL
 refine pO bh bA rfl rfl rfl rfl rfl ?_
 intro w9 aG BH dN
 have aw:=aw.ext aG;have hR:=hR.ext aG
 refine aC (lh sE [bf (r+1),bf r,[48]] (Jm de sm (by intro p hp;simp at hp;rcases hp with rfl|rfl|rfl;(·exact Ec om);(·exact Ec om);(·decide))) (((m.dG []).cY zY [bf r,bf s]).dG []) (show(m.code++[_]).length<100000 from by simp;omega) E L3 b _ w9 aw (aY.eD [bf (r+1),bf r,[48]] BH (λhx=>by have:=dB _ hx;omega))) ?_
 rintro jV cM ⟨L4,aw,bY⟩
 have hR:=hR.go bY
 refine ag<|zr<|zm<|aC (r8 [] ((((m.dG []).cY zY [bf r,bf s]).dG []).cY sE [bf (r+1),bf r,[48]]) (show(m.types++[_]++[_]).length<100000 from by simp;omega) E L4 b true cM aw) ?_
 rintro v10 eW ⟨gq,L5,aw,bY⟩
 have Cj:v10= .int .i64 ((r+2:Nat):Int):=gq.trans (congrArg (λn:Nat=>Value.int .i64 (n:Int)) (show(m.types++[_]++[_]).length=r+2 from by simp[hr]))
 subst Cj
 have hR:=hR.go bY
 refine zA<|ag<|zr<|zm<|zm<|aC (iM (r+3) (r+2) om om eW) ?_
 rintro v12 gh ⟨sW,dC⟩
 have D4:=dC.size
 have aw:=aw.ext dC;have hR:=hR.ext dC
 obtain rfl:=sW
 refine zm<|aC (iM (r+1) r om om gh) ?_
 rintro wL jD ⟨vB,fK⟩
 have Gt:=fK.size
 have aw:=aw.ext fK;have hR:=hR.ext fK
 obtain rfl:=vB
 have dB:=aw.dL
 refine pO bh bA rfl rfl rfl rfl rfl ?_
 intro je dK afO Ck
 have aw:=aw.ext dK;have hR:=hR.ext dK
 refine aC (lh sE [bf (r+2),bf r,[49]] (Jm de sm (by intro p hp;simp at hp;rcases hp with rfl|rfl|rfl;(·exact Ec om);(·exact Ec om);(·decide))) (((((m.dG []).cY zY [bf r,bf s]).dG []).cY sE [bf (r+1),bf r,[48]]).dG []) (show(m.code++[_]++[_]).length<100000 from by simp;omega) E L5 b _ je aw (aY.eD [bf (r+2),bf r,[49]] afO (λhx=>by have:=dB _ hx;omega))) ?_
 rintro jV p6 ⟨L6,aw,bY⟩
 have hR:=hR.go bY
 refine ag<|zr<|zm<|aC (iM (r+2) (r+1) om om p6) ?_
 rintro yj lQ ⟨Nu,kX⟩
 have TP:=kX.size
 have aw:=aw.ext kX;have hR:=hR.ext kX
 obtain rfl:=Nu
 refine zm<|aC (iM (r+3) (r+2) om om lQ) ?_
 rintro jV vC ⟨afP,p7⟩
 have amt:=p7.size
 have aw:=aw.ext p7;have hR:=hR.ext p7
 obtain rfl:=afP
 refine zA<|zA<|ag<|aV ?_
 exact⟨_,rfl,rfl,L6,aw,hR⟩
theorem Ur (s:da):(fi s).map Prod.fst=ka s:=by unfold fi ka;rw[List.map_map];rfl
theorem Us (s:da):((fi s).map λp=>p.2.text)=o6 s:=by unfold fi o6;rw[List.map_map];rfl
theorem Jn (t:Tk) (e:Ex) (bD:e.ok) (hn:e.n<=1000) (hΓ:zV (fi t.sc)) (hl:t.sc.length+2*e.n<=100000) (v:Value) (L:List Nat) (bt:Nat) (w:World) (lP:∀x,x∈L->x<w.heap.size) (hT:iq L w 130 bt t) (hv:bS L w v e.av):
  cj Tryz.prog 146 [.pointer (some ⟨bt,0,none⟩),v] w λr w'=>r=str (fj (bM e (fi t.sc)))∧ak [] w w':=by
 obtain⟨v1,v3,v4,v5,v6,v8,cA,hC⟩:=hT
 obtain⟨a,np,c,rfl,fH,bc⟩:=dM hv
 have gK:=hC.aX
 have fC:=hC.types
 have hK:=ak.refl [] w
 have e1:=Ur t.sc
 have e2:=Us t.sc
 refine cV [.tmp 4] 15 Tryz.func146 rfl Yf rfl rfl ?_
 refine zr<|fE rfl ?_
 intro w1 aK bR dY
 have hK:=hK.ext aK;have hv:=hv.ext aK;have cA:=cA.ext aK;have gK:=gK.ext aK;have fC:=fC.ext aK
 refine zA<|ag<|aQ ?_
 apply mq ei 11 (rA 5 10++[4]) (rA 5 10++[4]) [[],[],[1],[2],[3],[],[5],[6],[7],[0,4,8],[9]] [It.v _,It.v _,It.v _,It.v _,It.v _,It.v _,It.v _,It.v _,It.v _,It.v _,It.v _] de rfl
 intro wd aB
 refine vk aB (λx w2 aq=>?_) ?_
 have bR:=bR.ext aq
 refine zL bT aH rfl bR.all rfl ?_
 exact pv
 refine eI ?_
 refine vk aB (λx w2 aq=>?_) ?_
 refine di rfl ?_
 exact pv
 refine vc (λ_ _ _=>zf zo rfl pv) ?_
 refine vk aB (λx w2 aq=>?_) ?_
 have cA:=cA.ext aq
 refine zl eQ rfl (cA.at rfl) ?_
 exact pv
 refine eI ?_
 refine vk aB (λx w2 aq=>?_) ?_
 refine di rfl ?_
 exact pv
 refine vc (λ_ _ _=>zf C8 rfl pv) ?_
 refine vk aB (λx w2 aq=>?_) ?_
 have cA:=cA.ext aq
 refine zl eQ rfl (cA.at rfl) ?_
 exact pv
 refine vk aB (λx w2 aq=>?_) ?_
 have hK:=hK.ext aq;have hv:=hv.ext aq;have gK:=gK.ext aq;have fC:=fC.ext aq
 refine aC (Ul 1000 e hn om bD (fi t.sc) (by simp[fi];omega) hΓ _ v4 v6 L w2 (λx hx=>lL (lP x hx) hK.size) hv (by rw[e1];exact gK) (by rw[e2];exact fC)) ?_
 rintro v3 w3 ⟨eh,aJ⟩
 have fZ:=aJ.size
 obtain rfl:=eh
 exact pk aJ
 refine vc (λ_ _ _=>zA pv) ?_
 exact trivial
 intro x pS iA
 have hK:=hK.ext iA
 change OW _ _ _ _ [] (aM (aN _ x _) (zZ 5 [_,_,_,_,_,_,_,_,_,_]++[(4,_)])) _
 refine ag<|aV ?_
 exact⟨_,rfl,rfl,hK⟩
theorem afQ (xs:List Nat):∀row,row∈tI xs->∀c,c∈row->∀v,c= .val v->v.oneCell'=true:=by
 intro row hr c hc v hv
 obtain⟨n,_,rfl⟩:=List.mem_map.1 hr
 simp at hc;subst hc;cases hv;rfl
theorem Ed (t:Tk) (x:aj) (r:Nat) (T:Ty) (hl:t.sc.length<100000) (L:List Nat) (bt:Nat) (w:World) (qV:bt∈L) (lP:∀x,x∈L->x<w.heap.size) (hT:iq L w 130 bt t):
  cj Tryz.prog 149 [.pointer (some ⟨bt,0,none⟩),str x,.int .i64 (r:Int),str T.text] w λ_ w'=>iq L w' 130 bt {t with sc:=t.sc++[(x,r,T)]}∧ak [bt] w w':=by
 obtain⟨v1,v3,v4,v5,v6,v8,cA,hC⟩:=hT
 have cA:aY w bt [str t.aP,v1,.int .i64 (t.loads:Int),v3,v4,v5,v6,str t.expr.av.az,v8,.int .i64 (t.on:Int),str t.bm,.int .i64 (t.next:Int)].toArray 130:=cA
 have hK:=ak.refl [bt] w
 have fS:(ka t.sc).length=t.sc.length:=by simp[ka]
 have fH:(o6 t.sc).length=t.sc.length:=by simp[o6]
 have pr:(tI (wu t.sc)).length=t.sc.length:=by simp[tI,wu]
 have Iv:=cA.lt
 obtain⟨a5,c5,rfl,_⟩:=rH hC.at_
 refine cV [] 40 Tryz.func149 rfl Yi rfl rfl ?_
 refine zr<|zm<|zm<|di rfl<|zf zo rfl<|zl eQ rfl (cA.at rfl)<|zm<|gD bh bA rfl rfl ?_
 intro w1 aK wO dY
 have hK:=hK.ext aK;have cA:=cA.ext aK;have hC:=hC.ext aK
 refine aC (tP (ka t.sc) [x] so v4 _ L w1 hC.aX (aY.eD [x] wO (λhx=>by have:=lP _ hx;omega)) (λx hx=>lL (lP x hx) hK.size)) ?_
 rintro v2 w2 ⟨dA,aq⟩
 have eE:=aq.size
 have hK:=hK.ext aq;have cA:=cA.ext aq;have hC:=hC.ext aq
 have j4:=dA
 obtain⟨a9,n9,c9,e9,_⟩:=eN j4
 subst e9
 refine di rfl<|zf zo rfl<|gW (o:=4) nJ rfl rfl rfl cA rfl ?_
 intro w3 aJ cA dN
 have hC:=hC.aL aJ (by simpa using qV);have j4:=j4.aL aJ (by simpa using qV)
 have hK:=hK.trans aJ
 have zy:=hK.size
 refine ag<|zr<|zm<|zm<|di rfl<|zf C8 rfl<|zl eQ rfl (cA.at rfl)<|zm<|gD bh bA rfl rfl ?_
 intro w4 aF Cl iS
 have hK:=hK.ext aF;have cA:=cA.ext aF;have hC:=hC.ext aF;have j4:=j4.ext aF
 refine aC (tP (o6 t.sc) [T.text] so v6 _ L w4 hC.types (aY.eD [T.text] Cl (λhx=>by have:=lP _ hx;omega)) (λx hx=>lL (lP x hx) hK.size)) ?_
 rintro v5 w5 ⟨lk,aU⟩
 have pD:=aU.size
 have hK:=hK.ext aU;have cA:=cA.ext aU;have hC:=hC.ext aU;have j4:=j4.ext aU
 have wM:=lk
 obtain⟨Io,n10,c10,gq,_⟩:=eN wM
 subst gq
 refine di rfl<|zf C8 rfl<|gW (o:=6) nJ rfl rfl rfl cA rfl ?_
 intro w6 bF cA dN
 have hC:=hC.aL bF (by simpa using qV);have j4:=j4.aL bF (by simpa using qV);have wM:=wM.aL bF (by simpa using qV)
 have hK:=hK.trans bF
 have zy:=hK.size
 have hL9:∀x,x∈L->x<w6.heap.size:=(λx hx=>lL (lP x hx) hK.size)
 have hCw:=hC
 have afT:=j4
 have afU:=wM
 have yq:=cA
 have nk:=hK
 have amw:=cA.lt
 refine ag<|db<|zm<|zJ w6.heap.size L EZ tq rfl rfl (lR _) hL9 ?_
 intro w7 cw IW wI
 have gj:=cw
 have hC:=hC.grow.ext cw;have cA:=cA.ext cw
 refine zm<|di rfl<|zf Kz rfl<|zl PR rfl (cA.at rfl)<|xI EZ tq rfl rfl rfl rfl rfl rfl wI hC.at_ (afQ _) (by rw[pr];simp;omega) ?_
 intro a4 jd g4 w8 kV cu
 rw[List.nil_append] at kV
 have amx:=wI.low
 have gj:=gj.since cu (λx hx=>.inr (by simp at hx;omega))
 refine zm<|gD EZ tq rfl rfl ?_
 intro w9 aG vD dN
 have kV:=kV.ext aG;have gj:=gj.ext aG
 refine HO (row:=[.val (.int .i64 (r:Int))]) EZ tq rfl rfl rfl rfl rfl rfl kV vD rfl rfl ⟨.val _,trivial⟩ (by rw[pr];omega) ?_
 intro a6 cc6 g6 cM hO6 bU
 have gj:=gj.since bU (λx hx=>.inr (kV.low x (by simpa using hx)))
 have j4:=afT.ext gj
 have wM:=afU.ext gj
 have hC:=hCw.ext gj
 have cA:=yq.ext gj
 have hK:=nk.ext gj
 have hN:=hO6.done
 rw[acm] at hN
 refine di rfl<|zf Kz rfl<|gW (o:=5) ZX rfl rfl rfl cA rfl ?_
 intro eW cK cA dN
 have hC:=hC.aL cK (by simpa using qV);have j4:=j4.aL cK (by simpa using qV);have wM:=wM.aL cK (by simpa using qV)
 have hN:=cD.aO hN (cK.mono (by simpa using qV))
 have hK:=hK.trans cK
 refine ag ?_
 exact⟨_,rfl,⟨v1,v3,_,_,_,v8,cA,⟨hC.regs,hC.self,(by rw[aca];exact j4),(by rw[acb];exact hN),(by rw[acd];exact wM),hC.au⟩⟩,hK⟩
theorem afW (s:da) (p:aj×Nat×Ty) (x:aj):kS (s++[p]) x=if p.1=x then p.2.1 else kS s x:=by
 unfold kS
 rw[List.reverse_append]
 simp only[List.reverse_cons,List.reverse_nil,List.nil_append,List.cons_append,List.find?_cons]
 by_cases h:p.1=x
 ·simp[h]
 ·simp[h]
theorem afX {s:da} (h:k<s.length) (x:aj):kS (s.take (k+1)) x=if aD (ka s) k=x then(s[k]'h).2.1 else kS (s.take k) x:=by
 rw[List.take_add_one,gE h]
 show kS (s.take k++[s[k]]) x=_
 rw[afW]
 have e:aD (ka s) k=(s[k]'h).1:=by simp[aD,ka,gE h]
 rw[e]
theorem Cm (t:Tk) (a:aj) (m:Mk) (Bw:a.length<=10000) (ht:m.types.length<=9000) (hc:m.code.length<=9000) (hs:t.sc.length<=9000) (E L:List Nat) (b bt:Nat) (pa:Option Addr) (pn pc:Nat) (w:World) (h:dZ t8 E L w b true m) (hT:iq L w 130 bt t) (eT:bt∈E):
  cj Tryz.prog 182 [.pointer (some ⟨b,0,none⟩),.pointer (some ⟨bt,0,none⟩),.agg #[str a,.slice pa pn pc]] w λr w'=>r= .int .i64 ((cF m t.sc a).2:Int)∧∃L',dZ t8 E L' w' b true (cF m t.sc a).1∧eP E L w L' w':=by
 have aw:=h
 have hR:=eP.refl E L w
 obtain⟨v1,v3,v4,v5,v6,v8,cA,hC⟩:=hT
 obtain⟨r,hr⟩:∃r,r=m.types.length:=⟨_,rfl⟩
 have gK:=hC.aX
 obtain⟨an,nn,cn,rfl,rf⟩:=eN gK
 have fp:=hC.at_
 obtain⟨aa,ca,rfl,Je⟩:=rH fp
 refine cV [.tmp 6] 50 Tryz.func182 rfl YD rfl rfl ?_
 refine zr<|fE rfl ?_
 intro w1 aK bP dY
 have aw:=aw.ext aK;have hR:=hR.ext aK;have cA:=cA.ext aK;have gK:=gK.ext aK;have fp:=fp.ext aK
 refine zA<|ag<|aQ<|zr<|zf dz rfl<|zl ck rfl (bP.at rfl)<|aC (uV _ _) ?_
 rintro _ _ ⟨rfl,rfl⟩
 refine eJ rfl<|ag<|zc rfl (λh1=>?_) (λh1=>?_)
 have hq:cF m t.sc a=((m.dG [105]).cY H9 [bf r,a],r):=(by unfold cF;rw[iN (by rw[h1];simp),hr])
 rw[hq]
 refine zr<|zm<|aC (r8 [105] m om E L b true w1 aw) ?_
 rintro lx w2 ⟨ic,L1,aw,bY⟩
 rw[<-hr] at ic
 subst ic
 have hR:=hR.go bY
 have dB:=aw.dL
 have bP:fg L1 w2 w.heap.size _ _:=⟨bP.aO bY.fr.aO (λhx=>by have:=h.dL _ hx;omega),λhx=>by rcases bY.fr.mem _ hx with h9|h9;(·have:=h.dL _ h9;omega);(·omega)⟩
 have mh:=aw
 have tX:=hR
 refine zA<|ag<|aQ ?_
 apply kc ei L1 7 (rA 15 7) (rA 15 7) [[],[],[1],[],[3],[2,4],[0,5]] [Ie.v _,Ie.v _,Ie.v _,Ie.v _,Ie.v _,Ie.p (fun(G:List Nat) (v:Value) (ww:World)=>bI G ww v [bf r,a]),Ie.e 0] [6] [fun(G:List Nat) (vs:List Value) (ww:World)=>G=L1∧ak [] w2 ww,fun(G:List Nat) (vs:List Value) (ww:World)=>dZ t8 E G ww b true ((m.dG [105]).cY H9 [bf r,a])∧eP E L1 w2 G ww] de rfl dB (by exact⟨λG v w G' w' h k=>bI.go h k,trivial⟩) (by exact⟨λG vs w w' ⟨h1,h2⟩ k=>⟨h1,h2.ext k⟩,λG vs w w' ⟨h1,h2⟩ k=>⟨h1.ext k,h2.ext k⟩,trivial⟩) (⟨rfl,ak.refl _ _⟩)
 refine cR ?_
 refine cR ?_
 refine vf (λx w3 G3 aW fV iU=>?_) ?_
 refine aC (iM (r+1) r om om w3) ?_
 rintro v4 w4 ⟨eH,aF⟩
 have gI:=aF.size
 obtain rfl:=eH
 exact fk aF
 refine vf (λ_ _ _ _ _ _=>zf dz rfl fv) ?_
 refine vf (λx w3 G3 aW fV iU=>?_) ?_
 have bP:=bP.go fV
 refine zl ck rfl (bP.at rfl) ?_
 exact fv
 refine vf (λx w3 G3 aW fV iU=>?_) ?_
 refine ln bh bA rfl rfl rfl rfl ?_
 intro w4 aF sX iS
 exact ff aF (aY.eD [bf r,a] sX (λhx=>by have:=iU _ hx;omega))
 refine ve 0 (λx w3 G3 aW fV iU hJ hlen=>?_) ?_
 have bo:=jP hlen
 subst bo
 intro v5 d5
 obtain⟨cz,cB⟩:=hJ
 subst cz
 refine aC (lh H9 [bf r,a] (Jm de sm (by intro p hp;simp at hp;rcases hp with rfl|rfl;(·exact Ec om);(·omega))) (m.dG [105]) (show m.code.length<100000 from om) E _ b _ w3 (mh.ext cB) d5) ?_
 rintro v21 w4 ⟨L2,Gu,jU⟩
 exact fe L2 jU.fr Gu.dL (⟨Gu,((eP.refl _ _ _).ext cB).go jU⟩)
 exact trivial
 intro x qw F3 aW DS MF hJ hlen
 obtain⟨q0,bo⟩:=jQ hlen
 subst bo
 intro v5 d5
 change OW _ _ _ _ [] (aM (aN _ x _) (zZ 15 [_,_,_,_,_,_,_])) _
 obtain⟨aw,jU⟩:=hJ
 have hR:=tX.go jU
 refine ag<|zr<|zm<|zA<|ag<|aV ?_
 exact⟨_,rfl,rfl,_,aw,hR⟩
 have hq:cF m t.sc a=(m,kS t.sc a):=(by unfold cF;rw[iP (by simpa using h1)])
 rw[hq]
 have D1:(ka t.sc).length=t.sc.length:=by simp[ka]
 refine bz<|aQ<|zr<|zm<|di rfl<|zf zo rfl<|zl eQ rfl (cA.at rfl)<|dX bh rfl<|mJ rfl rfl rfl rfl rfl (wrap_i64 _ om om)<|zA<|ag<|cQ ?_
 refine fW (λk:Nat=>[(1,.pointer (some ⟨bt,0,none⟩)),(5,.pointer (some ⟨w.heap.size,0,none⟩)),(8,.int .i64 ((k:Int)-1))]) (λk w'=>ak [] w1 w'∧k<=t.sc.length∧kS t.sc a=kS (t.sc.take k) a) (λk=>k) t.sc.length (⟨rfl,rfl,congrArg (λz:Nat=>Value.int .i64 ((z:Int)-1)) (rf.trans D1)⟩) (⟨ak.refl _ _,lR _,by rw[List.take_length]⟩) ?_
 intro gg w2 e2 hI
 obtain⟨dk,hk,yh⟩:=hI
 have aw:=aw.ext dk;have hR:=hR.ext dk;have cA:=cA.ext dk;have gK:=gK.ext dk
 have fp:=xQ.ext fp dk
 have bP:=bP.ext dk
 refine aQ<|zr<|zm<|lX rfl rfl rfl rfl rfl<|ag<|zc rfl (λh2=>?_) (λh2=>?_)
 have aR:∃k,gg=k+1:=⟨gg-1,om⟩
 obtain⟨k,rfl⟩:=aR
 have hi:((k+1:Nat):Int)-1=(k:Int):=by omega
 rw[hi]
 obtain⟨b1,fY,e1,bC⟩:=qR gK (ll (xs:=ka t.sc) (i:=k) om)
 cases e1
 obtain⟨b2,ni,e2,bX⟩:=ab9 fp (i:=k) (x:=(t.sc[k]'om).2.1) (by simp[wu,gE (show k<t.sc.length by omega)])
 cases e2
 have nV:=afX (s:=t.sc) (k:=k) om a
 refine bz<|aQ<|cQ<|aQ ?_
 apply mq ei 10 (rA 33 10) (rA 33 10) [[],[0],[1],[2],[],[3,4],[5],[],[7],[6,8]] [It.v _,It.v _,It.v _,It.v _,It.v _,It.v _,It.v _,It.v _,It.v _,It.v _] de rfl
 intro wd aB
 refine eI ?_
 refine vk aB (λx w3 aJ=>?_) ?_
 refine di rfl ?_
 exact pv
 refine vc (λ_ _ _=>zf zo rfl pv) ?_
 refine vk aB (λx w3 aJ=>?_) ?_
 have cA:=cA.ext aJ
 refine zl eQ rfl (cA.at rfl) ?_
 exact pv
 refine eI ?_
 refine vk aB (λx w3 aJ=>?_) ?_
 refine zi bh bA rfl rfl (by rw[rf];omega) ?_
 exact pv
 refine vk aB (λx w3 aJ=>?_) ?_
 have bC:=bC.ext aJ
 refine zl ck rfl (bC 0 _ rfl) ?_
 exact pv
 refine vc (λ_ _ _=>zf dz rfl pv) ?_
 refine vk aB (λx w3 aJ=>?_) ?_
 have bP:=bP.ext aJ
 refine zl ck rfl (bP.at rfl) ?_
 exact pv
 refine vk aB (λx w3 aJ=>?_) ?_
 refine cW rfl rfl ?_
 exact pv
 exact trivial
 intro x qw tV
 have aw:=aw.ext tV;have hR:=hR.ext tV;have cA:=cA.ext tV;have dk:=dk.ext tV;have bX:=bX.ext tV
 change OW _ _ _ _ [] (aM (aN _ x _) (zZ 33 [_,_,_,_,_,_,_,_,_,_])) _
 refine ag<|zc rfl (λh3=>?_) (λh3=>?_)
 have Fe:=yh.trans (nV.trans (iP h3))
 refine zr<|zm<|di rfl<|zf Kz rfl<|zl PR rfl (cA.at rfl)<|zm<|zi EZ tq rfl rfl (by have h9:(tI (wu t.sc)).length=t.sc.length:=(by simp[tI,wu]);omega)<|zl qN rfl (bX 0 _ rfl)<|zA<|ag<|aV ?_
 exact⟨_,rfl,congrArg (λz:Nat=>Value.int .i64 (z:Int)) Fe.symm,_,aw,hR⟩
 have Fe:=yh.trans (nV.trans (iN h3))
 refine bz<|db<|zm<|mJ rfl rfl rfl rfl rfl (wrap_i64 _ om om)<|zA<|ag ?_
 exact⟨k,⟨rfl,rfl,rfl⟩,⟨dk,om,Fe⟩,om⟩
 have h0:gg=0:=by omega
 subst h0
 refine gB<|gC rfl<|zr<|zA<|ag<|aV ?_
 exact⟨_,rfl,congrArg (λz:Nat=>Value.int .i64 (z:Int)) yh.symm,_,aw,hR⟩
theorem Nv (aP:aj) (regs:List aj) (hr:regs.length<10000) (m:Mk) (cT:m.blocks.length<100000) (E L:List Nat) (b:Nat) (v:Value) (w:World) (h:dZ t8 E L w b true m) (hv:bI L w v regs):
  cj Tryz.prog 110 [.pointer (some ⟨b,0,none⟩),str aP,v] w λr w'=>∃L',dZ t8 E L' w' b false (BT m aP regs)∧eP E L w L' w':=by
 obtain⟨vb,vt,vc,vy,gb,gt,gc,gy,bj,hS⟩:=h.open
 obtain⟨yp,nD,vz,mB,vA,tW⟩:=hS.apart
 have Ut:=hS.LN
 obtain⟨G0,Gv⟩:∃G,G=E++(gb.toList++(gt.toList++gy.toList)):=⟨_,rfl⟩
 have Uu:∀x,x∈G0->x∈L:=λx hx=>by rw[Gv] at hx;simp only[mA] at hx;exact hS.mem.2 (by rcases hx with h|h|h|h<;>simp[h])
 have oe:b∉G0:=λhx=>by
  rw[Gv] at hx;simp only[mA] at hx
  rcases hx with h|h|h|h
  ·exact nD h
  ·exact(vz b h).2 rfl
  ·exact(mB b h).2.1 rfl
  ·exact(tW b h).2.1 rfl
 have bj:fg G0 w b [vb,vt,.int .i64 (m.count:Int),.bool m.wide,vc,vy].toArray 127:=⟨bj,oe⟩
 have oN:=bI.fresh hv (λx hx=>.inl (Uu x hx))
 have qu:fu G0 w:=λx hx=>hS.cZ x (Uu x hx)
 have wk:∀x,w.heap.size<=x->x∉pN E b gb gt gy:=λx h1 hx=>by have:=hS.cZ x (hS.RY x hx);omega
 obtain⟨an,nn,cn,rfl,rf⟩:=eN hv
 obtain⟨ac,nc,cc,rfl,nI⟩:=eN Ut
 refine cV [] 24 Tryz.func110 rfl XJ rfl rfl ?_
 apply kc ei G0 18 (rA 6 18) (rA 6 18) [[],[],[1],[2],[3],[],[],[],[6,7],[],[9],[10],[11],[5,8,12],[13],[4,14],[0],[16]] [Ie.v _,Ie.v _,Ie.v _,Ie.v _,Ie.v _,Ie.v _,Ie.p (fun(G:List Nat) (v:Value) (ww:World)=>∃bb,v= .slice (some ⟨bb,0,none⟩) 0 0∧w.heap.size<=bb∧fg G ww bb #[] 9),Ie.v _,Ie.e 0,Ie.v _,Ie.v _,Ie.v _,Ie.v _,Ie.e 1,Ie.e 2,Ie.e 3,Ie.v _,Ie.v _] [8,13,14,15] [fun(G:List Nat) (vs:List Value) (ww:World)=>(∀x,x∈G0->x∈G)∧ak [] w ww,fun(G:List Nat) (vs:List Value) (ww:World)=>(∀x,x∈G0->x∈G)∧ak [] w ww∧bI (pN E b gb gt gy) ww (vs.getD 0 undef) regs,fun(G:List Nat) (vs:List Value) (ww:World)=>(∀x,x∈G0->x∈G)∧ak [] w ww∧bI (pN E b gb gt gy) ww (vs.getD 0 undef) regs∧vs.getD 1 undef= .agg #[str aP,vs.getD 0 undef,.slice ac nc cc],fun(G:List Nat) (vs:List Value) (ww:World)=>(∀x,x∈G0->x∈G)∧ak [] w ww∧bI (pN E b gb gt gy) ww (vs.getD 0 undef) regs∧∃bb,vs.getD 2 undef= .slice (some ⟨bb,0,none⟩) 1 1∧aY ww bb [str aP,vs.getD 0 undef,.slice ac nc cc].toArray 29,fun(G:List Nat) (vs:List Value) (ww:World)=>∃g2,eC (gb.toList++(g2.toList++pN E b gb gt gy)) ww 29 3 (vs.getD 3 undef) g2 ((m.blocks++[(⟨aP,regs,m.code⟩:Bk)]).map Bk.enc)∧ak gb.toList w ww∧(g2=gb∨∃x,g2=some x∧w.heap.size<=x)] de rfl qu (by exact⟨λG v w G' w' ⟨bb,e,h1,h⟩ k=>⟨bb,e,h1,h.go k⟩,trivial⟩) (by exact⟨λG vs w w' ⟨h1,h2⟩ k=>⟨h1,h2.ext k⟩,λG vs w w' ⟨h1,h2,h3⟩ k=>⟨h1,h2.ext k,h3.ext k⟩,λG vs w w' ⟨h1,h2,h3,h4⟩ k=>⟨h1,h2.ext k,h3.ext k,h4⟩,λG vs w w' ⟨h1,h2,h3,bb,h4,h5⟩ k=>⟨h1,h2.ext k,h3.ext k,bb,h4,h5.ext k⟩,λG vs w w' ⟨g2,h1,h2,h3⟩ k=>⟨g2,h1.ext k,h2.ext k,h3⟩,trivial⟩) (⟨λx hx=>hx,ak.refl _ _⟩)
 refine cR ?_
 refine cR ?_
 refine vf (λ_ _ _ _ _ _=>di rfl fv) ?_
 refine vf (λ_ _ _ _ _ _=>zf Kw rfl fv) ?_
 refine vf (λx w1 G1 aW qz qE=>?_) ?_
 have bj:=bj.go qz
 refine zl PS rfl (bj.at rfl) ?_
 exact fv
 refine cR ?_
 refine vf (λx w1 G1 aW qz qE=>?_) ?_
 refine gN bh bA ?_
 intro w2 aq Nw eM
 exact ff aq (⟨_,rfl,(by have h1:=qz.aO.size;omega),Nw.o qE⟩)
 refine cR ?_
 refine ve 0 (λx w1 G1 aW qz qE hJ hlen=>?_) ?_
 have bo:=jP hlen
 subst bo
 have oN:=oN.go qz
 intro v6 d6
 obtain⟨bb,e6,B6,gw⟩:=d6
 subst e6
 obtain⟨kx,gL⟩:=hJ
 refine FT (N:=w.heap.size) bh bA rfl rfl rfl rfl rfl rfl gw B6 oN ‹_› om ?_
 intro v9 w2 G9 kU vh df fh pZ
 exact fe G9 df fh (⟨λx hx=>kU _ (kx x hx),pZ.since gL,let⟨g',ko,_,hs⟩:=vh;ko.rep (λx hx fF=>wk x (hs x (by simp[hx])).2 fF)⟩)
 refine cR ?_
 refine vf (λ_ _ _ _ _ _=>di rfl fv) ?_
 refine vf (λ_ _ _ _ _ _=>zf C6 rfl fv) ?_
 refine vf (λx w1 G1 aW qz qE=>?_) ?_
 have bj:=bj.go qz
 refine zl eQ rfl (bj.at rfl) ?_
 exact fv
 refine ve 1 (λx w1 G1 aW qz qE hJ hlen=>?_) ?_
 obtain⟨q0,bo⟩:=jQ hlen
 subst bo
 obtain⟨kx,gL,p8⟩:=hJ
 obtain⟨a7,n7,c7,e7,_⟩:=eN p8
 have e8:q0=_:=e7
 subst e8
 refine j5 (Ks _ _ _ _ _ _ _ _) rfl rfl ?_
 exact fe G1 (Fr.refl _ _) qE (⟨kx,gL,p8,rfl⟩)
 refine ve 2 (λx w1 G1 aW qz qE hJ hlen=>?_) ?_
 obtain⟨q0,q1,bo⟩:=lM hlen
 subst bo
 obtain⟨kx,gL,p8,lH⟩:=hJ
 obtain⟨a7,n7,c7,e7,_⟩:=eN p8
 have e8:q0=_:=e7
 subst e8
 have Gw:q1=Value.agg #[str aP,.slice a7 n7 c7,.slice ac nc cc]:=lH
 subst Gw
 refine sA [.tmp 19] [[str aP,.slice a7 n7 c7,.slice ac nc cc]] iL gR rfl rfl rfl rfl rfl rfl rfl rfl rfl ?_
 intro w2 aq sX Uc
 exact fe G1 (Fr.of aq sm) ((λx hx=>lL (qE x hx) (ak.size aq))) (⟨kx,gL.trans aq,p8.ext aq,_,rfl,sX⟩)
 refine ve 3 (λx w1 G1 aW qz qE hJ hlen=>?_) ?_
 obtain⟨q0,q1,q2,bo⟩:=Af hlen
 subst bo
 obtain⟨kx,gL,p8,bb,uN,gw⟩:=hJ
 have ic:q2=_:=uN
 subst ic
 have iE:=(hS.bl.any gL).sub (L':=gb.toList++pN E b gb gt gy) (λx hx=>.inl (by rcases mA.1 hx with h|h;(·exact hS.mem.2 (by simp[h]));(·exact hS.RY x h)))
 have Uv:∀x,x∈gb.toList++pN E b gb gt gy->x∈pN E b gb gt gy:=(λx hx=>by rcases mA.1 hx with h|h;(·exact xS.2 (by simp[h]));(·exact h))
 refine BM (L:=pN E b gb gt gy) (row:=Bk.enc ⟨aP,regs,m.code⟩) iL gR rfl rfl rfl rfl rfl rfl iE rfl gw.all (by obtain⟨a7,n7,c7,e7,_⟩:=eN p8;have e8:q0=_:=e7;subst e8;simp[Value.oneCell']) ⟨.val _,bI.fresh p8 (λx hx=>.inl (Uv x hx)),bI.fresh (Ut.ext gL) (λx hx=>.inl (Uv x hx)),trivial⟩ (by simpa using(show m.blocks.length<100000000 from om)) ?_
 intro v9 g9 w2 dJ tY fL
 exact fe G1 (Fr.of tY.aO (λx hx=>kx x (by rw[Gv];simp[hx]))) ((λx hx=>lL (qE x hx) tY.aO.size)) (⟨g9,by simpa using dJ,gL.any.trans tY.aO,fL.imp id (λh=>⟨_,h,gL.size⟩)⟩)
 refine vf (λ_ _ _ _ _ _=>di rfl fv) ?_
 refine vf (λ_ _ _ _ _ _=>zf Kw rfl fv) ?_
 exact trivial
 intro x Ll G40 aW Up afN hJ hlen
 obtain⟨q0,q1,q2,q3,bo⟩:=LV hlen
 subst bo
 intro v6 d6
 have bj:=bj.go Up
 change OW _ _ _ _ _ (aM (aN _ x _) (zZ 6 [_,_,_,_,_,_,_,_,_,_,_,_,_,_,_,_,_,_])) _
 obtain⟨g2,dJ,fl,iy⟩:=hJ
 obtain⟨L2,gi,jU⟩:=hS.acn dJ fl iy
 obtain⟨a3,c3,e3⟩:=dJ.len
 have e4:q3=_:=e3
 subst e4
 have bj:=bj.jv
 refine gW (o:=0) ZY rfl rfl rfl bj rfl ?_
 intro pS iA bj dN
 have gi:=gi.aO iA sm
 have hR:=((eP.refl E L w).add jU fl (λx hx=>(vz x hx).1)).aL iA (gi.mem.2 (.inr (.inl rfl))) nD
 refine ag ?_
 exact⟨_,rfl,L2,⟨_,_,_,_,_,_,_,_,bj,gi⟩,hR⟩
end Go.Proofs.YtigijcjccmdmhaaGreatDoor
