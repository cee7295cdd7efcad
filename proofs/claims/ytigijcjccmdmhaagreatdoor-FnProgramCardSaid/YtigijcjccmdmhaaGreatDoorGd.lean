/- Lemmas for the law FnProgram, no statement of their own: no conditions. -/
import Derived.Test.YtigijcjccmdmhaaGreatDoorGc
namespace Go.Proofs.YtigijcjccmdmhaaGreatDoor
open Go
variable {E G L:List Nat} {w w':World} {b c k n sz x:Nat} {v:Value} {g gb:Option Nat} {rows:List (List C)} {ts:List aA} {e:Ex} {xs:List aj} {bs:Bs} {h:aj} {A B:Ty} {o:Option (Ty×Ty)} {r9:List Ty} {m:Mk}
theorem sS (ts:List aA) (i:Nat) (t:aA):(dG ts).set i t.enc=dG (ts.set i t):=by rw[xB,xB,List.map_set]
theorem TR (ts:List aA):∀row,row∈dG ts->∀c,c∈row->∀v,c= .val v->v.oneCell'=true:=by
 intro row hr c hc v hv
 rw[xB] at hr
 obtain⟨t,_,rfl⟩:=List.mem_map.1 hr
 cases t with
 |mk a ps=>
  simp only[aA.enc,mC,List.not_mem_nil,or_false] at hc
  rcases hc with h|h
  ·subst h;cases hv;rfl
  ·subst h;cases hv
theorem ey.ext {T:TypeId} (h:ey L w T sz v g rows) (k:ak [] w w'):ey L w' T sz v g rows:=h.any k
theorem ey.grow {T:TypeId} (h:ey L w T sz v g rows):ey (w.heap.size::L) w T sz v g rows:=h.sub zw
theorem ey.aL {T:TypeId} (h:ey (x::L) w T sz v g rows) (k:ak [x] w w') (hx:x∉g.toList):ey (x::L) w' T sz v g rows:=
 h.aO (Fr.of k sm) k λy hy vX=>hx (by simp at vX;subst vX;exact hy)
structure jv (G:List Nat) (w0 w:World) (br:Nat) (ai:List aj) (n gb b8:Nat) (vP:Value) (ts:List aA):Prop where
 rn:RN G w br ai n
 own:ey G w 66 2 vP (some gb) (dG ts)
 kb:ak [br] w0 w
 bx:aY w b8 [str [],.slice none 0 0].toArray 66
 mem:gb∈G∧b8∈G
 ne:br≠gb∧b8≠gb∧br≠b8
 low:w0.heap.size<=gb∧w0.heap.size<=b8
 cZ:fy G w
section
variable {G:List Nat} {w0 w w':World} {br:Nat} {ai:List aj} {n gb b8:Nat} {vP:Value} {ts:List aA}
theorem jv.ext (h:jv G w0 w br ai n gb b8 vP ts) (k:ak [] w w'):jv G w0 w' br ai n gb b8 vP ts:=
 ⟨h.rn.ext k,h.own.ext k,h.kb.ext k,h.bx.ext k,h.mem,h.ne,h.low,λx hx=>lL (h.cZ x hx) k.size⟩
theorem jv.out {G' G0:List Nat} (h:jv G w0 w br ai n gb b8 vP ts) (k:Fr G w G' w') (ho:Out w0.heap.size G0 w w') (hb:br∈G0∧gb∈G0∧b8∈G0) (gW:br∈G'∧gb∈G'∧b8∈G') (hl:fy G' w'):jv G' w0 w' br ai n gb b8 vP ts:=
 ⟨h.rn.out k ho hb.1 gW.1,h.own.out k ho (by simpa using hb.2.1),ho.since h.kb,ho.ju h.bx hb.2.2,gW.2,h.ne,h.low,hl⟩
theorem jv.call {n':Nat} (h:jv G w0 w br ai n gb b8 vP ts) (hr:RN G w' br ai n') (k:ak [br] w w'):jv G w0 w' br ai n' gb b8 vP ts:=
 ⟨hr,h.own.aO (Fr.of k (by simpa using h.rn.mem)) k (by intro x hx fF;simp at hx fF;exact h.ne.1 (fF.symm.trans hx)),h.kb.trans k,h.bx.aO k (by simpa using λe=>h.ne.2.2 e.symm),h.mem,h.ne,h.low,λx hx=>lL (h.cZ x hx) k.size⟩
theorem jv.store {ts':List aA} (h:jv G w0 w br ai n gb b8 vP ts) (k:ak [gb] w w') (ho:ey G w' 66 2 vP (some gb) (dG ts')):jv G w0 w' br ai n gb b8 vP ts':=
 ⟨h.rn.aO k (by simpa using h.ne.1) (by simpa using h.mem.1),ho,h.kb.since k (by intro x hx;simp at hx;subst hx;exact .inr h.low.1),h.bx.aO k (by simpa using h.ne.2.1),h.mem,h.ne,h.low,λx hx=>lL (h.cZ x hx) k.size⟩
theorem jv.jA (h:jv G w0 w br ai n gb b8 vP ts):∀x,x∈[gb]->x∈G:=by simpa using h.mem.1
theorem jv.oe (h:jv G w0 w br ai n gb b8 vP ts):∀x,x∈[br]->x∈G:=by simpa using h.rn.mem
end
theorem jv.fin {w0:World} {br:Nat} {ai:List aj} {gb b8:Nat} {vP:Value} (h:jv (gb::b8::G) w0 w br ai n gb b8 vP ts) (hG:fy G w0) (iG:br∈G) (k:ak [b8] w w'):
  bS G w' (.agg #[str [],vP]) (.mk [] ts)∧RN G w' br ai n∧ak [br] w0 w':=by
 have oD:gb∉b8::G:=λhx=>by
  rcases mC.1 hx with h1|h1
  ·exact h.ne.2.1 h1.symm
  ·have:=hG gb h1;have:=h.low.1;omega
 have h1:cD (b8::G) w vP (.sl 2 (dG ts)):=h.own.rep (λx hx=>.inl (by simpa using hx)) (by simpa using oD)
 have h2:bS (b8::G) w (.agg #[str [],vP]) (.mk [] ts):=ly h1
 refine⟨(h2.aL k sm).jj (λx hx=>mK _ hx),(h.rn.aO k (by simpa using h.ne.2.2) sm).re iG (λx hx=>.inl (by simp[hx])),h.kb.since k (λx hx=>?_)⟩
 simp at hx;subst hx;exact .inr h.low.2
theorem MS (s:aj):dQ G w [str s,.slice none 0 0] (cj s).enc:=bS.kO (ly oV)
theorem adN (ai:List aj) (ρ:Rn) (n:Nat) {M:Nat} (ha:e.jk=false) (hl:isLt e=false) (hk:k<e.kids.length) (h1:ρ.length+2*e.n<=100000) (h2:n+e.n*(ai.length+2)<=100000) (hM:M<=nF ai n e+kN e k*(ai.length+2)):
  (jT ai ρ n e).length+2*(fL e k).n<=100000∧M+(fL e k).n*(ai.length+2)<=100000:=by
 have h3:=yn hk
 have h4:=DV cx ai n
 have h5:=DV cx ai (bK cx ai n+1)
 have h6:(jT ai ρ n e).length+2*(fL e k).n<=ρ.length+2*e.n∧nF ai n e+kN e (k+1)*(ai.length+2)<=n+e.n*(ai.length+2):=by
  cases e with
  |«at» s=>cases ha
  |lt x a b=>cases hl
  |fn f x A B b=>
   have gN:k=0:=by simp[Ex.kids] at hk;exact hk
   subst gN
   have e1:(fL (.fn f x A B b) 0).n=b.n:=rfl
   have e2:kN (.fn f x A B b) 1=b.n:=by simp[kN,Ex.kids]
   have e3:(Ex.fn f x A B b).n=3+A.n+B.n+b.n:=rfl
   rw[e1,e2,e3]
   simp only[jT,nF,lA,lC,List.length_nil,Nat.add_mul]
   constructor<;>omega
  |un h a=>
   have:=B1 (.un h a) (k+1)
   exact⟨by show ρ.length+_<=_;omega,Nat.add_le_add_left (Nat.mul_le_mul_right _ this) _⟩
  |bi h a b=>
   have:=B1 (.bi h a b) (k+1)
   exact⟨by show ρ.length+_<=_;omega,Nat.add_le_add_left (Nat.mul_le_mul_right _ this) _⟩
  |ite a b c=>
   have:=B1 (.ite a b c) (k+1)
   exact⟨by show ρ.length+_<=_;omega,Nat.add_le_add_left (Nat.mul_le_mul_right _ this) _⟩
 rw[h3,Nat.add_mul] at h6
 omega
theorem adO (ai:List aj) (iO:ai.length<=10000):∀(m:Nat) (e:Ex),e.n<=m->e.n<=1000->e.ok->∀(ρ:Rn) (n:Nat),ρ.length+2*e.n<=100000->n+e.n*(ai.length+2)<=100000->∀(v vf vt:Value) (br:Nat) (G:List Nat) (w:World),
  bS G w v e.av->bI G w vf (ρ.map Prod.fst)->bI G w vt (ρ.map Prod.snd)->RN G w br ai n->fy G w->
  bZ Tryz.prog 176 [v,vf,vt,.pointer (some ⟨br,0,none⟩)] w λr w'=>(bS G w' r (ck ai e ρ n).1.av∧RN G w' br ai (ck ai e ρ n).2)∧ak [br] w w':=by
 intro m
 induction m with
 |zero=>intro e h;have:=e.pos;omega
 |succ m ih=>
  intro e hm mW bF ρ n oC oT v vf vt br G w dI MT MU B5 hG
  obtain⟨a,np,c,rfl,hn,I3⟩:=dN dI
  subst hn
  obtain⟨af,nf,cf,rfl,rk⟩:=eI MT
  obtain⟨at_,nt,ct,rfl,DB⟩:=eI MU
  have adP:(ρ.map Prod.fst).length=ρ.length:=by simp
  have alQ:(ρ.map Prod.snd).length=ρ.length:=by simp
  have alR:=B5.lt
  have hK:=ak.refl [] w
  have IU:=F1 e
  have qC:=DV cx ai n
  have jU:=DV cx ai (bK cx ai n+1)
  have hB:e.n*(ai.length+2)<=100000:=by omega
  refine lz [.cell 8 66] 155 Tryz.func176 rfl YK rfl rfl rfl ?_
  refine zr<|fA rfl ?_
  intro w1 aJ aI dV
  have hK:=hK.ext aJ
  refine eC aH rfl rfl rfl ?_
  intro w2 aq dv eK
  have hK:=hK.grow;have hK:=hK.ext aq;have aI:=aI.grow;have aI:=aI.ext aq
  refine ag<|aQ<|zr<|zf dB rfl<|zl cg rfl (aI.at rfl)<|jF rfl rfl rfl rfl<|ag<|zc rfl (λh1=>?_) (λh1=>?_)
  have aR:∃x,e= .at x:=(by have ha:=(vh bF).1 h1;cases e<;>first|exact⟨_,rfl⟩|cases ha)
  obtain⟨x,rfl⟩:=aR
  refine aQ<|zr<|zf dB rfl<|zl cg rfl (aI.at rfl)<|aC (uX _ _) ?_
  rintro _ _ ⟨rfl,rfl⟩
  refine ag<|zc rfl (λh2=>?_) (λh2=>?_)
  have hq:(ck ai (.at x) ρ n).1.av=cj (rb ρ x):=(show cj (if eP x=true then rb ρ x else x)=cj (rb ρ x) from congrArg cj (iP h2))
  refine zr<|zm<|zm<|zf dB rfl<|zl cg rfl (aI.at rfl)<|aC (adz (ρ.map Prod.fst) (ρ.map Prod.snd) om om x _ _ _ _ w2 (MT.ext hK) (MU.ext hK)) ?_
  rintro v3 w3 ⟨et,aK⟩
  have gd:=aK.size
  have hK:=hK.ext aK;have dv:=dv.ext aK
  obtain rfl:=et
  refine aC (z7 _ w3) ?_
  rintro v4 w4 ⟨eJ,aD⟩
  have gK:=aD.size
  have hK:=hK.ext aD;have dv:=dv.ext aD
  obtain rfl:=eJ
  refine dk aH rfl rfl rfl dv rfl ?_
  intro w5 aT dv jo
  have hK:=hK.aL aT sx
  refine ag<|aV ?_
  have yp:=ady x ρ
  rw[<-adP] at yp
  exact⟨[_],gR bT aH rfl dv rfl,⟨by rw[hq,<-yp];exact ly oV,B5.ext hK⟩,hK.any⟩
  have hq:(ck ai (.at x) ρ n).1.av=cj x:=(show cj (if eP x=true then rb ρ x else x)=cj x from congrArg cj (iN (λhh=>Bool.noConfusion (hh.symm.trans h2))))
  refine bA<|zr<|zL bT aH rfl aI.all rfl<|dk aH rfl rfl rfl dv rfl ?_
  intro w3 aK dv iK
  have hK:=hK.aL aK sx
  refine ag<|aV ?_
  exact⟨[_],gR bT aH rfl dv rfl,⟨by rw[hq];exact bS.ext dI hK,B5.ext hK⟩,hK.any⟩
  have fx:e.jk=false:=(by cases hh:e.jk;rfl;exact absurd ((vh bF).2 hh) h1)
  obtain⟨F2,oX,jG,wK⟩:=Ex.au fx
  obtain⟨jS,DQ,DR⟩:=F0 bF fx
  have F3:=LD bF fx
  have l9:eX (nth e.av.au 0).az=(e.from,e.from+e.kids.length):=by rw[jG];exact F3
  obtain⟨b,off,xM,xN,e0,pZ,kx⟩:=fI I3 jS
  subst e0
  have nu:=hK
  have Ga:=aI
  have adQ:=dv
  have adR:=dV
  have adS:=eK
  refine bA<|zr<|zU w2.heap.size (w1.heap.size::G) cw aH rfl rfl (lR _) (λx hx=>by rcases mC.1 hx with h|h;omega;have:=hG x h;omega) ?_
  intro w3 aK I4 wM
  have kf:=aK
  have aI:=aI.ext aK;have dv:=dv.ext aK
  refine zf cM rfl<|zl cK rfl (aI.at rfl)<|xQ cw aH rfl rfl rfl rfl rfl rfl wM (fG.ext (cD.fresh I3 (L':=w2.heap.size::w1.heap.size::G) (by intro x hx;simp at hx;rcases hx with rfl|rfl|hx;right;omega;right;omega;exact .inl hx)) (nu.ext aK)) (TR _) (by rw[iJ];simp;omega) ?_
  intro a4 je g4 w4 kW aD
  have kf:=wM.since kf aD
  have hK:=nu.trans kf
  have aI:=Ga.ext kf
  have dv:=adQ.ext kf
  have gK:=kf.size
  rw[show([]:List (List C)).length+(dG e.av.au).length=e.av.au.length from by rw[iJ];simp] at kW⊢
  rw[List.nil_append] at kW
  obtain⟨gb,e4,e5⟩:=kW.form (by rw[iJ];exact jS)
  subst e4
  subst e5
  have gJ:gb<w4.heap.size:=kW.lt gb sm
  have DW:w2.heap.size<=gb:=kW.low gb rfl
  have hS:ey (gb::w1.heap.size::G) w4 66 2 (.slice (some ⟨gb,0,none⟩) e.av.au.length je) (some gb) (dG e.av.au):=(let⟨xs,hr⟩:=kW.own;⟨⟨xs,hr.own,hr.rep⟩,hr.row⟩)
  refine j6 (KD _ _ _ _) rfl rfl<|eC aH rfl rfl rfl ?_
  intro w5 aT cT jo
  have hK:=hK.grow;have hK:=hK.ext aT;have aI:=aI.grow;have aI:=aI.ext aT;have dv:=dv.grow;have dv:=dv.ext aT;have hS:=hS.grow;have hS:=hS.ext aT
  refine dk aH rfl rfl rfl cT rfl ?_
  intro w6 bD cT lB
  have hK:=hK.aL bD sx;have aI:=aI.aL bD sx;have dv:=dv.aL bD sx;have hS:=hS.aL bD sx
  refine ag<|zr<|zf cM rfl<|zl cK rfl (aI.at rfl) ?_
  have lx:∀x,x∈gb::w1.heap.size::G->x∈G∨w.heap.size<=x:=(by intro x hx;simp at hx;rcases hx with rfl|rfl|hx;right;omega;right;omega;exact .inl hx)
  have jw:=hK.size
  have TT:fy (gb::w1.heap.size::G) w6:=(by intro x hx;simp at hx;rcases hx with rfl|rfl|hx;omega;omega;have:=hG x hx;omega)
  have DX:Fr G w (gb::w1.heap.size::G) w6:=⟨hK.any,lx⟩
  have bc:=I3.go DX
  have fS:=MT.go DX
  have eZ:=MU.go DX
  have pZ:=pZ.go DX
  have rl:RN (gb::w1.heap.size::G) w6 br ai n:=(B5.re (by simp[B5.mem]) lx).ext hK
  have gC:∀q,w.heap.size<=q->q≠gb->q≠w1.heap.size->q∉gb::w1.heap.size::G:=(by intro q h1 h2 h3 hx;simp at hx;rcases hx with h|h|h;exact h2 h;exact h3 h;have:=hG q h;omega)
  have aI:fh (gb::w1.heap.size::G) w6 w.heap.size _ _:=⟨aI,gC _ om om om⟩
  have cT:fh (gb::w1.heap.size::G) w6 w4.heap.size _ _:=⟨cT,gC _ om om om⟩
  have hS:=ey.sub hS (L':=gb::w1.heap.size::G) (λx hx=>.inl (mK _ hx))
  have bg:jv (gb::w1.heap.size::G) w w6 br ai n gb w1.heap.size _ e.av.au:=⟨rl,hS,hK.any,dv,sm,om,om,TT⟩
  have aR:∃G2,G2=gb::w1.heap.size::G:=⟨_,rfl⟩
  obtain⟨G2,yq⟩:=aR
  rw[<-yq] at bc fS eZ aI cT pZ bg
  have gD:br∈G2∧gb∈G2∧w1.heap.size∈G2:=⟨bg.rn.mem,bg.mem⟩
  refine zi (i:=0) cw aH rfl rfl jS<|zf dB rfl<|zl cg rfl (pZ.cells 0 _ rfl)<|aC (IN _ _) ?_
  rintro _ _ ⟨rfl,rfl⟩
  rw[yk l9]
  refine zm<|zx (i:=0) rfl rfl<|zx (i:=1) rfl rfl<|zA<|zA<|ag<|aQ<|zr<|zf cM rfl<|zl cK rfl (aI.at rfl)<|zi (i:=0) cw aH rfl rfl jS<|zf dB rfl<|zl cg rfl (pZ.cells 0 _ rfl)<|cW rfl rfl<|ag<|zc rfl (λh3=>?_) (λh3=>?_)
  obtain⟨nx,ea,eb,rfl⟩:=I1 bF (jG.symm.trans h3)
  have wN:(Ex.lt nx ea eb).n=2+ea.n+eb.n:=rfl
  have hmul:(Ex.lt nx ea eb).n*(ai.length+2)=2*(ai.length+2)+ea.n*(ai.length+2)+eb.n*(ai.length+2):=by rw[wN,Nat.add_mul,Nat.add_mul]
  have alS:=jz ai ea ρ (bK cx ai n+1)
  have I5:(Ex.lt nx ea eb).av.au.length=4:=rfl
  refine zr<|zm<|aC (MQ ai n om iO br G2 w6 bg.rn) ?_
  rintro v7 w7 ⟨iV,cv⟩
  have pg:=cv.size
  have bc:=bc.aL cv (bg.oe);have fS:=fS.aL cv (bg.oe);have eZ:=eZ.aL cv (bg.oe);have aI:=aI.aL cv (bg.oe);have cT:=cT.aL cv bg.oe
  obtain⟨rfl,rl⟩:=iV
  have bg:=bg.call rl cv
  refine zA<|ag<|aQ ?_
  apply mx eu 5 (rA 51 5) (rA 51 5) [[],[0],[],[2],[1]] [It.v _,It.v _,It.v _,It.v _,It.v _] de rfl
  intro wd aB
  refine vc (λ_ _ _=>zf cM rfl pv) ?_
  refine vk aB (λx w8 cu=>?_) ?_
  have cT:=cT.ext cu
  refine zl cK rfl (cT.at rfl) ?_
  exact pv
  refine eM ?_
  refine vk aB (λx w8 cu=>?_) ?_
  refine aC (z7 _ w8) ?_
  rintro v9 w9 ⟨eR,aG⟩
  have ph:=aG.size
  obtain rfl:=eR
  exact pk aG
  refine vk aB (λx w8 cu=>?_) ?_
  refine zi (i:=1) cw aH rfl rfl ((show 1<4 from om)) ?_
  exact pv
  exact trivial
  intro x wO jl
  have bc:=bc.ext jl;have fS:=fS.ext jl;have eZ:=eZ.ext jl;have aI:=aI.ext jl;have cT:=cT.ext jl;have bg:=bg.ext jl
  change OW _ _ _ _ _ (aM (aN _ x _) (zZ 51 [_,_,_,_,_])) _
  refine sQ (i:=1) (vs:=[str (dj cx (bK cx ai n)),.slice none 0 0]) (row:=(cj (dj cx (bK cx ai n))).enc) aH rfl rfl rfl rfl rfl bg.own bg.cZ bg.mem.1 (by rw[iJ];omega) rfl (oU _) (MS _) ?_
  intro j1 eS rY dY
  rw[sS] at dY
  have bc:=bc.aL eS bg.jA;have fS:=fS.aL eS bg.jA;have eZ:=eZ.aL eS bg.jA;have aI:=aI.aL eS bg.jA;have cT:=cT.aL eS bg.jA
  have bg:=bg.store eS dY
  refine ag<|aQ ?_
  obtain⟨b2,nk,jc,jd,e2,bX,eA⟩:=fI bc (i:=2) om
  cases e2
  have eA:bS G2 j1 _ ea.av:=eA
  obtain⟨b3,B6,pU,pV,e3,ew,eY⟩:=fI bc (i:=3) om
  cases e3
  have eY:bS G2 j1 _ eb.av:=eY
  obtain⟨b1,ga,gY,gZ,e1,bC,dd⟩:=fI bc (i:=1) om
  cases e1
  apply kc eu G2 11 (rA 56 11) (rA 56 11) [[],[0],[],[2],[3],[4],[],[],[],(rA 5 4),[1]] [Ie.v _,Ie.v _,Ie.v _,Ie.v _,Ie.v _,Ie.v _,Ie.v _,Ie.v _,Ie.v _,Ie.e 0,Ie.v _] [9] [fun(G:List Nat) (vs:List Value) (ww:World)=>G=G2∧jv G2 w ww br ai (bK cx ai n+1) gb w1.heap.size (.slice (some ⟨gb,0,none⟩) (Ex.lt nx ea eb).av.au.length je) (((Ex.lt nx ea eb).av.au.set 1 (cj (dj cx (bK cx ai n))))),fun(G:List Nat) (vs:List Value) (ww:World)=>G=G2∧jv G2 w ww br ai ((ck ai ea ρ (bK cx ai n+1)).2) gb w1.heap.size (.slice (some ⟨gb,0,none⟩) (Ex.lt nx ea eb).av.au.length je) (((Ex.lt nx ea eb).av.au.set 1 (cj (dj cx (bK cx ai n)))))∧bS G2 ww (vs.getD 0 undef) (ck ai ea ρ (bK cx ai n+1)).1.av] de rfl bg.cZ (by exact trivial) (by exact⟨λG vs w w' ⟨h1,h2⟩ k=>⟨h1,h2.ext k⟩,λG vs w w' ⟨h1,h2,h3⟩ k=>⟨h1,h2.ext k,h3.ext k⟩,trivial⟩) (⟨rfl,bg⟩)
  refine vf (λ_ _ _ _ _ _=>zf cM rfl fv) ?_
  refine vf (λx pj B7 aW rm Gb=>?_) ?_
  have cT:=cT.go rm
  refine zl cK rfl (cT.at rfl) ?_
  exact fv
  refine vf (λ_ _ _ _ _ _=>zf cM rfl fv) ?_
  refine vf (λx pj B7 aW rm Gb=>?_) ?_
  have aI:=aI.go rm
  refine zl cK rfl (aI.at rfl) ?_
  exact fv
  refine vf (λ_ _ _ _ _ _=>zi (i:=2) cw aH rfl rfl ((show 2<4 from om)) fv) ?_
  refine vf (λx pj B7 aW rm Gb=>?_) ?_
  have bX:=bX.go rm
  refine zL bT aH rfl bX.cells rfl ?_
  exact fv
  refine cR ?_
  refine cR ?_
  refine cR ?_
  refine ve 0 (λx pj B7 aW rm Gb hJ hlen=>?_) ?_
  have bo:=jO hlen
  subst bo
  have fS:=fS.go rm;have eZ:=eZ.go rm;have eA:=eA.go rm
  obtain⟨cz,bg⟩:=hJ
  obtain rfl:G2=B7:=cz.symm
  refine aC (ih ea om om bF.2.1 ρ (bK cx ai n+1) om om _ _ _ br G2 pj eA fS eZ bg.rn bg.cZ) ?_
  rintro B8 og ⟨⟨dS,Gc⟩,aG⟩
  exact fe G2 (Fr.of aG bg.oe) ((λq hq=>lL (bg.cZ q hq) aG.size)) (⟨rfl,bg.call Gc aG,dS⟩)
  refine vf (λ_ _ _ _ _ _=>zi (i:=2) cw aH rfl rfl ((show 2<4 from om)) fv) ?_
  exact trivial
  intro x Gd G88 aW B9 alT hJ hlen
  obtain⟨q0,bo⟩:=jP hlen
  subst bo
  have fS:=fS.go B9;have eZ:=eZ.go B9;have aI:=aI.go B9;have cT:=cT.go B9;have ew:=ew.go B9;have eY:=eY.go B9;have bC:=bC.go B9
  change OW _ _ _ _ _ (aM (aN _ x _) (zZ 56 [_,_,_,_,_,_,_,_,_,_,_])) _
  obtain⟨cz,bg,dS⟩:=hJ
  obtain rfl:G2=G88:=cz.symm
  obtain⟨a7,n7,c7,e7,_,_⟩:=dN dS
  have e8:q0=_:=e7
  subst e8
  refine sQ (i:=2) (vs:=[str (ck ai ea ρ (bK cx ai n+1)).1.av.az,.slice a7 n7 c7]) (row:=(ck ai ea ρ (bK cx ai n+1)).1.av.enc) aH rfl rfl rfl rfl rfl bg.own bg.cZ bg.mem.1 (by rw[iJ];rw[List.length_set];omega) rfl (oU _) ((show bS G2 _ (.agg #[_,_]) _ from dS).kO) ?_
  intro sU rp rY dY
  rw[sS] at dY
  have fS:=fS.aL rp bg.jA;have eZ:=eZ.aL rp bg.jA;have aI:=aI.aL rp bg.jA;have cT:=cT.aL rp bg.jA;have ew:=ew.aL rp bg.jA;have eY:=eY.aL rp bg.jA;have bC:=bC.aL rp bg.jA
  have bg:=bg.store rp dY
  refine ag<|aQ ?_
  have xH:=bg.kb.size
  apply kc eu G2 25 (rA 67 25) (rA 67 25) [[],[0],[],[2],[3],[4],[],[],[6,7],[],[9],[10],[11],[12],[13],[8,14],[],[],[16,17],[],[19],[18,20],[],[5,15,21,22],[1]] [Ie.v _,Ie.v _,Ie.v _,Ie.v _,Ie.v _,Ie.v _,Ie.p (fun(G:List Nat) (v:Value) (ww:World)=>∃bb,v= .slice (some ⟨bb,0,none⟩) 0 0∧w.heap.size<=bb∧fh G ww bb #[] 9),Ie.v _,Ie.e 0,Ie.v _,Ie.v _,Ie.v _,Ie.v _,Ie.v _,Ie.p (fun(G:List Nat) (v:Value) (ww:World)=>bI G ww v [nx]),Ie.e 1,Ie.p (fun(G:List Nat) (v:Value) (ww:World)=>∃bb,v= .slice (some ⟨bb,0,none⟩) 0 0∧w.heap.size<=bb∧fh G ww bb #[] 9),Ie.v _,Ie.e 2,Ie.v _,Ie.p (fun(G:List Nat) (v:Value) (ww:World)=>bI G ww v [(dj cx (bK cx ai n))]),Ie.e 3,Ie.v _,Ie.e 4,Ie.v _] [8,15,18,21,23] [fun(G:List Nat) (vs:List Value) (ww:World)=>G=G2∧jv G2 w ww br ai ((ck ai ea ρ (bK cx ai n+1)).2) gb w1.heap.size (.slice (some ⟨gb,0,none⟩) (Ex.lt nx ea eb).av.au.length je) ((((Ex.lt nx ea eb).av.au.set 1 (cj (dj cx (bK cx ai n)))).set 2 (ck ai ea ρ (bK cx ai n+1)).1.av)),fun(G:List Nat) (vs:List Value) (ww:World)=>(∀q,q∈G2->q∈G)∧jv G w ww br ai ((ck ai ea ρ (bK cx ai n+1)).2) gb w1.heap.size (.slice (some ⟨gb,0,none⟩) (Ex.lt nx ea eb).av.au.length je) ((((Ex.lt nx ea eb).av.au.set 1 (cj (dj cx (bK cx ai n)))).set 2 (ck ai ea ρ (bK cx ai n+1)).1.av))∧LP w.heap.size G G2 ww 9 (vs.getD 0 undef) (ρ.map Prod.fst),fun(G:List Nat) (vs:List Value) (ww:World)=>G=G2∧jv G2 w ww br ai ((ck ai ea ρ (bK cx ai n+1)).2) gb w1.heap.size (.slice (some ⟨gb,0,none⟩) (Ex.lt nx ea eb).av.au.length je) ((((Ex.lt nx ea eb).av.au.set 1 (cj (dj cx (bK cx ai n)))).set 2 (ck ai ea ρ (bK cx ai n+1)).1.av))∧bI G2 ww (vs.getD 1 undef) ((ρ.map Prod.fst)++[nx]),fun(G:List Nat) (vs:List Value) (ww:World)=>(∀q,q∈G2->q∈G)∧jv G w ww br ai ((ck ai ea ρ (bK cx ai n+1)).2) gb w1.heap.size (.slice (some ⟨gb,0,none⟩) (Ex.lt nx ea eb).av.au.length je) ((((Ex.lt nx ea eb).av.au.set 1 (cj (dj cx (bK cx ai n)))).set 2 (ck ai ea ρ (bK cx ai n+1)).1.av))∧bI G ww (vs.getD 1 undef) ((ρ.map Prod.fst)++[nx])∧LP w.heap.size G G2 ww 9 (vs.getD 2 undef) (ρ.map Prod.snd),fun(G:List Nat) (vs:List Value) (ww:World)=>G=G2∧jv G2 w ww br ai ((ck ai ea ρ (bK cx ai n+1)).2) gb w1.heap.size (.slice (some ⟨gb,0,none⟩) (Ex.lt nx ea eb).av.au.length je) ((((Ex.lt nx ea eb).av.au.set 1 (cj (dj cx (bK cx ai n)))).set 2 (ck ai ea ρ (bK cx ai n+1)).1.av))∧bI G2 ww (vs.getD 1 undef) ((ρ.map Prod.fst)++[nx])∧bI G2 ww (vs.getD 3 undef) ((ρ.map Prod.snd)++[(dj cx (bK cx ai n))]),fun(G:List Nat) (vs:List Value) (ww:World)=>G=G2∧jv G2 w ww br ai ((ck ai eb (ρ++[(nx,(dj cx (bK cx ai n)))]) (ck ai ea ρ (bK cx ai n+1)).2).2) gb w1.heap.size (.slice (some ⟨gb,0,none⟩) (Ex.lt nx ea eb).av.au.length je) ((((Ex.lt nx ea eb).av.au.set 1 (cj (dj cx (bK cx ai n)))).set 2 (ck ai ea ρ (bK cx ai n+1)).1.av))∧bS G2 ww (vs.getD 4 undef) (ck ai eb (ρ++[(nx,(dj cx (bK cx ai n)))]) (ck ai ea ρ (bK cx ai n+1)).2).1.av] de rfl bg.cZ (by exact⟨λG v w G' w' ⟨bb,e,h0,h⟩ k=>⟨bb,e,h0,h.go k⟩,λG v w G' w' h k=>bI.go h k,λG v w G' w' ⟨bb,e,h0,h⟩ k=>⟨bb,e,h0,h.go k⟩,λG v w G' w' h k=>bI.go h k,trivial⟩) (by exact⟨λG vs w w' ⟨h1,h2⟩ k=>⟨h1,h2.ext k⟩,λG vs w w' ⟨h1,h2,h3⟩ k=>⟨h1,h2.ext k,h3.ext k⟩,λG vs w w' ⟨h1,h2,h3⟩ k=>⟨h1,h2.ext k,h3.ext k⟩,λG vs w w' ⟨h1,h2,h3,h4⟩ k=>⟨h1,h2.ext k,h3.ext k,h4.ext k⟩,λG vs w w' ⟨h1,h2,h3,h4⟩ k=>⟨h1,h2.ext k,h3.ext k,h4.ext k⟩,λG vs w w' ⟨h1,h2,h3⟩ k=>⟨h1,h2.ext k,h3.ext k⟩,trivial⟩) (⟨rfl,bg⟩)
  refine vf (λ_ _ _ _ _ _=>zf cM rfl fv) ?_
  refine vf (λx j3 kX aW iC lf=>?_) ?_
  have cT:=cT.go iC
  refine zl cK rfl (cT.at rfl) ?_
  exact fv
  refine vf (λ_ _ _ _ _ _=>zf cM rfl fv) ?_
  refine vf (λx j3 kX aW iC lf=>?_) ?_
  have aI:=aI.go iC
  refine zl cK rfl (aI.at rfl) ?_
  exact fv
  refine vf (λ_ _ _ _ _ _=>zi (i:=3) cw aH rfl rfl ((show 3<4 from om)) fv) ?_
  refine vf (λx j3 kX aW iC lf=>?_) ?_
  have ew:=ew.go iC
  refine zL bT aH rfl ew.cells rfl ?_
  exact fv
  refine vf (λx j3 kX aW iC lf=>?_) ?_
  refine gM bh bB ?_
  intro oh yr MV I6
  exact ff yr (⟨_,rfl,(by have h1:=iC.aO.size;omega),MV.o lf⟩)
  refine cR ?_
  refine ve 0 (λx j3 kX aW iC lf hJ hlen=>?_) ?_
  have bo:=jO hlen
  subst bo
  have fS:=fS.go iC
  intro v6 d6
  obtain⟨bb,e6,Ca,gx⟩:=d6
  subst e6
  obtain⟨cz,bg⟩:=hJ
  obtain rfl:G2=kX:=cz.symm
  refine FX (N:=w.heap.size) bh bB rfl rfl rfl rfl rfl rfl gx Ca fS bg.cZ om ?_
  intro v9 oh G9 kV vi df fi p3
  exact fe G9 df fi (⟨kV,bg.out df p3 ⟨gD.1,gD.2.1,gD.2.2⟩ ⟨kV _ gD.1,kV _ gD.2.1,kV _ gD.2.2⟩ fi,vi⟩)
  refine vf (λ_ _ _ _ _ _=>zf cM rfl fv) ?_
  refine vf (λx j3 kX aW iC lf=>?_) ?_
  have aI:=aI.go iC
  refine zl cK rfl (aI.at rfl) ?_
  exact fv
  refine vf (λ_ _ _ _ _ _=>zi (i:=1) cw aH rfl rfl ((show 1<4 from om)) fv) ?_
  refine vf (λ_ _ _ _ _ _=>zf dB rfl fv) ?_
  refine vf (λx j3 kX aW iC lf=>?_) ?_
  have bC:=bC.go iC
  refine zl cg rfl (bC.cells 0 _ rfl) ?_
  exact fv
  refine vf (λx j3 kX aW iC lf=>?_) ?_
  refine gA bh bB rfl rfl ?_
  intro oh yr DY I6
  exact ff yr (aY.eF [nx] DY (λhx=>by have:=lf _ hx;omega))
  refine ve 1 (λx j3 kX aW iC lf hJ hlen=>?_) ?_
  obtain⟨q0,bo⟩:=jP hlen
  subst bo
  intro lJ d14
  obtain⟨kv,bg,Ge⟩:=hJ
  refine IQ bh bB rfl rfl rfl rfl rfl rfl Ge d14 bg.cZ kv so ?_
  intro v9 oh j4 df fi p3
  exact fe G2 df fi (⟨rfl,bg.out df p3 ⟨gD.1,gD.2.1,gD.2.2⟩ ⟨gD.1,gD.2.1,gD.2.2⟩ fi,j4⟩)
  refine vf (λx j3 kX aW iC lf=>?_) ?_
  refine gM bh bB ?_
  intro oh yr adU I6
  exact ff yr (⟨_,rfl,(by have h1:=iC.aO.size;omega),adU.o lf⟩)
  refine cR ?_
  refine ve 2 (λx j3 kX aW iC lf hJ hlen=>?_) ?_
  obtain⟨q0,q1,bo⟩:=lH hlen
  subst bo
  have eZ:=eZ.go iC
  intro yt d16
  obtain⟨bb,e6,Ca,gx⟩:=d16
  subst e6
  obtain⟨cz,bg,rq⟩:=hJ
  obtain rfl:G2=kX:=cz.symm
  refine FX (N:=w.heap.size) bh bB rfl rfl rfl rfl rfl rfl gx Ca eZ bg.cZ om ?_
  intro v9 oh G9 kV vi df fi p3
  exact fe G9 df fi (⟨kV,bg.out df p3 ⟨gD.1,gD.2.1,gD.2.2⟩ ⟨kV _ gD.1,kV _ gD.2.1,kV _ gD.2.2⟩ fi,rq.go df,vi⟩)
  refine cR ?_
  refine vf (λx j3 kX aW iC lf=>?_) ?_
  refine gA bh bB rfl rfl ?_
  intro oh yr adV I6
  exact ff yr (aY.eF [(dj cx (bK cx ai n))] adV (λhx=>by have:=lf _ hx;omega))
  refine ve 3 (λx j3 kX aW iC lf hJ hlen=>?_) ?_
  obtain⟨q0,q1,q2,bo⟩:=Ao hlen
  subst bo
  intro v20 d20
  obtain⟨kv,bg,rq,Ge⟩:=hJ
  refine IQ bh bB rfl rfl rfl rfl rfl rfl Ge d20 bg.cZ kv so ?_
  intro v9 oh j4 df fi p3
  exact fe G2 df fi (⟨rfl,bg.out df p3 ⟨gD.1,gD.2.1,gD.2.2⟩ ⟨gD.1,gD.2.1,gD.2.2⟩ fi,rq.go df,j4⟩)
  refine cR ?_
  refine ve 4 (λx j3 kX aW iC lf hJ hlen=>?_) ?_
  obtain⟨q0,q1,q2,q3,bo⟩:=Md hlen
  subst bo
  have eY:=eY.go iC
  obtain⟨cz,bg,rq,adW⟩:=hJ
  obtain rfl:G2=kX:=cz.symm
  refine aC (ih eb om om bF.2.2 (ρ++[(nx,(dj cx (bK cx ai n)))]) (ck ai ea ρ (bK cx ai n+1)).2 so om _ _ _ br G2 j3 eY (by rw[List.map_append];exact rq) (by rw[List.map_append];exact adW) bg.rn bg.cZ) ?_
  rintro B8 oh ⟨⟨dS,Gc⟩,aG⟩
  exact fe G2 (Fr.of aG bg.oe) ((λq hq=>lL (bg.cZ q hq) aG.size)) (⟨rfl,bg.call Gc aG,dS⟩)
  refine vf (λ_ _ _ _ _ _=>zi (i:=3) cw aH rfl rfl ((show 3<4 from om)) fv) ?_
  exact trivial
  intro x I7 TU aW MW adX hJ hlen
  obtain⟨q0,q1,q2,q3,q4,bo⟩:=Sk hlen
  subst bo
  intro v6 d6
  intro lJ d14
  intro yt d16
  intro v20 d20
  have cT:=cT.go MW
  change OW _ _ _ _ _ (aM (aN _ x _) (zZ 67 [_,_,_,_,_,_,_,_,_,_,_,_,_,_,_,_,_,_,_,_,_,_,_,_,_])) _
  obtain⟨cz,bg,dS⟩:=hJ
  obtain rfl:G2=TU:=cz.symm
  obtain⟨a7,n7,c7,e7,_,_⟩:=dN dS
  have e8:q4=_:=e7
  subst e8
  refine sQ (i:=3) (vs:=[str (ck ai eb (ρ++[(nx,(dj cx (bK cx ai n)))]) (ck ai ea ρ (bK cx ai n+1)).2).1.av.az,.slice a7 n7 c7]) (row:=(ck ai eb (ρ++[(nx,(dj cx (bK cx ai n)))]) (ck ai ea ρ (bK cx ai n+1)).2).1.av.enc) aH rfl rfl rfl rfl rfl bg.own bg.cZ bg.mem.1 (by rw[iJ];rw[List.length_set,List.length_set];omega) rfl (oU _) ((show bS G2 _ (.agg #[_,_]) _ from dS).kO) ?_
  intro MX Cb rY dY
  rw[sS] at dY
  have cT:=cT.aL Cb bg.jA
  have bg:=bg.store Cb dY
  refine ag<|zr<|zL bT aH rfl cT.all rfl<|dk aH rfl rfl rfl bg.bx rfl ?_
  intro adY DZ dv mu
  subst yq
  obtain⟨rZ,r5,vj⟩:=bg.fin hG B5.mem DZ
  refine ag<|aV ?_
  exact⟨[_],gR bT aH rfl dv rfl,⟨rZ,r5⟩,vj⟩
  have I8:isLt e=false:=not_lt (λhh=>h3 (jG.trans hh))
  have TV:=adJ ai ρ n fx I8
  have TW:=adK ai n fx I8
  have kH:=Fr.refl G2 w6
  have xH:=bg.kb.size
  refine bA<|aQ<|zr<|zf cM rfl<|zl cK rfl (aI.at rfl)<|zi (i:=0) cw aH rfl rfl jS<|zf dB rfl<|zl cg rfl (pZ.cells 0 _ rfl)<|cW rfl rfl<|ag ?_
  refine jh (λq:Value×Value=>[(1,q.1),(2,q.2),(3,.pointer (some ⟨br,0,none⟩)),(4,.pointer (some ⟨w.heap.size,0,none⟩)),(8,.pointer (some ⟨w1.heap.size,0,none⟩)),(9,.pointer (some ⟨w4.heap.size,0,none⟩)),(10,.int .i64 (e.from:Int)),(11,.int .i64 ((e.from+e.kids.length:Nat):Int))]) (λq ww=>Fr G2 w6 G2 ww∧jv G2 w ww br ai (nF ai n e) gb w1.heap.size (.slice (some ⟨gb,0,none⟩) e.av.au.length je) (mf (wL ai n e) [] e)∧bI G2 ww q.1 ((jT ai ρ n e).map Prod.fst)∧bI G2 ww q.2 ((jT ai ρ n e).map Prod.snd)) ?_ ?_
  refine zc rfl (λh4=>?_) (λh4=>?_)
  obtain⟨nf,nx,tA,tB,eb,rfl⟩:=I2 bF (jG.symm.trans h4)
  have wN:(Ex.fn nf nx tA tB eb).n=3+tA.n+tB.n+eb.n:=rfl
  have hmul:(Ex.fn nf nx tA tB eb).n*(ai.length+2)=3*(ai.length+2)+tA.n*(ai.length+2)+tB.n*(ai.length+2)+eb.n*(ai.length+2):=by rw[wN,Nat.add_mul,Nat.add_mul,Nat.add_mul]
  have I9:(Ex.fn nf nx tA tB eb).av.au.length=6:=rfl
  refine zr<|zm<|aC (MQ ai n om iO br G2 w6 bg.rn) ?_
  rintro v7 w7 ⟨iV,cv⟩
  have pg:=cv.size
  have bc:=bc.aL cv (bg.oe);have fS:=fS.aL cv (bg.oe);have eZ:=eZ.aL cv (bg.oe);have aI:=aI.aL cv (bg.oe);have cT:=cT.aL cv (bg.oe);have kH:=kH.aL cv bg.oe
  obtain⟨rfl,rl⟩:=iV
  have bg:=bg.call rl cv
  refine zA<|ag<|zr<|zm<|aC (MQ ai (bK cx ai n+1) om iO br G2 w7 bg.rn) ?_
  rintro v8 w8 ⟨oP,cu⟩
  have yu:=cu.size
  have bc:=bc.aL cu (bg.oe);have fS:=fS.aL cu (bg.oe);have eZ:=eZ.aL cu (bg.oe);have aI:=aI.aL cu (bg.oe);have cT:=cT.aL cu (bg.oe);have kH:=kH.aL cu bg.oe
  obtain⟨rfl,rl⟩:=oP
  have bg:=bg.call rl cu
  refine zA<|ag<|aQ ?_
  apply mx eu 5 (rA 103 5) (rA 103 5) [[],[0],[],[2],[1]] [It.v _,It.v _,It.v _,It.v _,It.v _] de rfl
  intro wd aB
  refine vc (λ_ _ _=>zf cM rfl pv) ?_
  refine vk aB (λx w9 aG=>?_) ?_
  have cT:=cT.ext aG
  refine zl cK rfl (cT.at rfl) ?_
  exact pv
  refine eM ?_
  refine vk aB (λx w9 aG=>?_) ?_
  refine aC (z7 _ w9) ?_
  rintro v10 cN ⟨rr,bU⟩
  have Cc:=bU.size
  obtain rfl:=rr
  exact pk bU
  refine vk aB (λx w9 aG=>?_) ?_
  refine zi (i:=1) cw aH rfl rfl ((show 1<6 from om)) ?_
  exact pv
  exact trivial
  intro x j1 eS
  have bc:=bc.ext eS;have fS:=fS.ext eS;have eZ:=eZ.ext eS;have aI:=aI.ext eS;have cT:=cT.ext eS;have kH:=kH.ext eS;have bg:=bg.ext eS
  change OW _ _ _ _ _ (aM (aN _ x _) (zZ 103 [_,_,_,_,_])) _
  refine sQ (i:=1) (vs:=[str (dj cx (bK cx ai n)),.slice none 0 0]) (row:=(cj (dj cx (bK cx ai n))).enc) aH rfl rfl rfl rfl rfl bg.own bg.cZ bg.mem.1 (by rw[iJ];omega) rfl (oU _) (MS _) ?_
  intro pj jB rY dY
  rw[sS] at dY
  have bc:=bc.aL jB bg.jA;have fS:=fS.aL jB bg.jA;have eZ:=eZ.aL jB bg.jA;have aI:=aI.aL jB bg.jA;have cT:=cT.aL jB bg.jA;have kH:=kH.aL jB bg.jA
  have bg:=bg.store jB dY
  refine ag<|aQ ?_
  apply mx eu 5 (rA 108 5) (rA 108 5) [[],[0],[],[2],[1]] [It.v _,It.v _,It.v _,It.v _,It.v _] de rfl
  intro wd aB
  refine vc (λ_ _ _=>zf cM rfl pv) ?_
  refine vk aB (λx og jm=>?_) ?_
  have cT:=cT.ext jm
  refine zl cK rfl (cT.at rfl) ?_
  exact pv
  refine eM ?_
  refine vk aB (λx og jm=>?_) ?_
  refine aC (z7 _ og) ?_
  rintro v51 lK ⟨adZ,lr⟩
  have alU:=lr.size
  obtain rfl:=adZ
  exact pk lr
  refine vk aB (λx og jm=>?_) ?_
  refine zi (i:=2) cw aH rfl rfl ((show 2<6 from om)) ?_
  exact pv
  exact trivial
  intro x sU rp
  have bc:=bc.ext rp;have fS:=fS.ext rp;have eZ:=eZ.ext rp;have aI:=aI.ext rp;have kH:=kH.ext rp;have bg:=bg.ext rp
  change OW _ _ _ _ _ (aM (aN _ x _) (zZ 108 [_,_,_,_,_])) _
  refine sQ (i:=2) (vs:=[str (dj cx (bK cx ai (bK cx ai n+1))),.slice none 0 0]) (row:=(cj (dj cx (bK cx ai (bK cx ai n+1)))).enc) aH rfl rfl rfl rfl rfl bg.own bg.cZ bg.mem.1 (by rw[iJ];rw[List.length_set];omega) rfl (oU _) (MS _) ?_
  intro j3 tR rY dY
  rw[sS] at dY
  have bc:=bc.aL tR bg.jA;have fS:=fS.aL tR bg.jA;have eZ:=eZ.aL tR bg.jA;have aI:=aI.aL tR bg.jA;have kH:=kH.aL tR bg.jA
  have bg:=bg.store tR dY
  refine ag<|aQ ?_
  have xH:=bg.kb.size
  obtain⟨b1,ga,gY,gZ,e1,bC,dd⟩:=fI bc (i:=1) om
  cases e1
  obtain⟨b2,nk,jc,jd,e2,bX,eA⟩:=fI bc (i:=2) om
  cases e2
  apply kc eu G2 15 (rA 113 15) (rA 113 15) [[],[],[0,1],[],[3],[4],[5],[6],[],[8],[9],[10],[11],[7,12],[2,13]] [Ie.p (fun(G:List Nat) (v:Value) (ww:World)=>∃bb,v= .slice (some ⟨bb,0,none⟩) 0 0∧w.heap.size<=bb∧fh G ww bb #[] 9),Ie.v _,Ie.e 0,Ie.v _,Ie.v _,Ie.v _,Ie.v _,Ie.v _,Ie.v _,Ie.v _,Ie.v _,Ie.v _,Ie.v _,Ie.p (fun(G:List Nat) (v:Value) (ww:World)=>bI G ww v [nf,nx]),Ie.e 1] [2,14] [fun(G:List Nat) (vs:List Value) (ww:World)=>G=G2∧jv G2 w ww br ai (bK cx ai (bK cx ai n+1)+1) gb w1.heap.size (.slice (some ⟨gb,0,none⟩) (Ex.fn nf nx tA tB eb).av.au.length je) ((((Ex.fn nf nx tA tB eb).av.au.set 1 (cj (dj cx (bK cx ai n)))).set 2 (cj (dj cx (bK cx ai (bK cx ai n+1)))))),fun(G:List Nat) (vs:List Value) (ww:World)=>(∀q,q∈G2->q∈G)∧jv G w ww br ai (bK cx ai (bK cx ai n+1)+1) gb w1.heap.size (.slice (some ⟨gb,0,none⟩) (Ex.fn nf nx tA tB eb).av.au.length je) ((((Ex.fn nf nx tA tB eb).av.au.set 1 (cj (dj cx (bK cx ai n)))).set 2 (cj (dj cx (bK cx ai (bK cx ai n+1))))))∧LP w.heap.size G G2 ww 9 (vs.getD 0 undef) (ρ.map Prod.fst),fun(G:List Nat) (vs:List Value) (ww:World)=>G=G2∧jv G2 w ww br ai (bK cx ai (bK cx ai n+1)+1) gb w1.heap.size (.slice (some ⟨gb,0,none⟩) (Ex.fn nf nx tA tB eb).av.au.length je) ((((Ex.fn nf nx tA tB eb).av.au.set 1 (cj (dj cx (bK cx ai n)))).set 2 (cj (dj cx (bK cx ai (bK cx ai n+1))))))∧bI G2 ww (vs.getD 1 undef) ((ρ.map Prod.fst)++[nf,nx])] de rfl bg.cZ (by exact⟨λG v w G' w' ⟨bb,e,h0,h⟩ k=>⟨bb,e,h0,h.go k⟩,λG v w G' w' h k=>bI.go h k,trivial⟩) (by exact⟨λG vs w w' ⟨h1,h2⟩ k=>⟨h1,h2.ext k⟩,λG vs w w' ⟨h1,h2,h3⟩ k=>⟨h1,h2.ext k,h3.ext k⟩,λG vs w w' ⟨h1,h2,h3⟩ k=>⟨h1,h2.ext k,h3.ext k⟩,trivial⟩) (⟨rfl,bg⟩)
  refine vf (λx oh AI aW sV yv=>?_) ?_
  refine gM bh bB ?_
  intro Cd vm ad0 ad1
  exact ff vm (⟨_,rfl,(by have h1:=sV.aO.size;omega),ad0.o yv⟩)
  refine cR ?_
  refine ve 0 (λx oh AI aW sV yv hJ hlen=>?_) ?_
  have bo:=jO hlen
  subst bo
  have fS:=fS.go sV
  intro v0 d0
  obtain⟨bb,e6,Ca,gx⟩:=d0
  subst e6
  obtain⟨cz,bg⟩:=hJ
  obtain rfl:G2=AI:=cz.symm
  refine FX (N:=w.heap.size) bh bB rfl rfl rfl rfl rfl rfl gx Ca fS bg.cZ om ?_
  intro v9 Cd G9 kV vi df fi p3
  exact fe G9 df fi (⟨kV,bg.out df p3 ⟨gD.1,gD.2.1,gD.2.2⟩ ⟨kV _ gD.1,kV _ gD.2.1,kV _ gD.2.2⟩ fi,vi⟩)
  refine vf (λ_ _ _ _ _ _=>zf cM rfl fv) ?_
  refine vf (λx oh AI aW sV yv=>?_) ?_
  have aI:=aI.go sV
  refine zl cK rfl (aI.at rfl) ?_
  exact fv
  refine vf (λ_ _ _ _ _ _=>zi (i:=1) cw aH rfl rfl ((show 1<6 from om)) fv) ?_
  refine vf (λ_ _ _ _ _ _=>zf dB rfl fv) ?_
  refine vf (λx oh AI aW sV yv=>?_) ?_
  have bC:=bC.go sV
  refine zl cg rfl (bC.cells 0 _ rfl) ?_
  exact fv
  refine vf (λ_ _ _ _ _ _=>zf cM rfl fv) ?_
  refine vf (λx oh AI aW sV yv=>?_) ?_
  have aI:=aI.go sV
  refine zl cK rfl (aI.at rfl) ?_
  exact fv
  refine vf (λ_ _ _ _ _ _=>zi (i:=2) cw aH rfl rfl ((show 2<6 from om)) fv) ?_
  refine vf (λ_ _ _ _ _ _=>zf dB rfl fv) ?_
  refine vf (λx oh AI aW sV yv=>?_) ?_
  have bX:=bX.go sV
  refine zl cg rfl (bX.cells 0 _ rfl) ?_
  exact fv
  refine vf (λx oh AI aW sV yv=>?_) ?_
  refine lk bh bB rfl rfl rfl rfl ?_
  intro Cd vm ad2 ad1
  exact ff vm (aY.eF [nf,nx] ad2 (λhx=>by have:=yv _ hx;omega))
  refine ve 1 (λx oh AI aW sV yv hJ hlen=>?_) ?_
  obtain⟨q0,bo⟩:=jP hlen
  subst bo
  intro wP d13
  obtain⟨kv,bg,Ge⟩:=hJ
  refine IQ bh bB rfl rfl rfl rfl rfl rfl Ge d13 bg.cZ kv so ?_
  intro v9 Cd j4 df fi p3
  exact fe G2 df fi (⟨rfl,bg.out df p3 ⟨gD.1,gD.2.1,gD.2.2⟩ ⟨gD.1,gD.2.1,gD.2.2⟩ fi,j4⟩)
  exact trivial
  intro x MX ad3 aW TX alV hJ hlen
  obtain⟨q0,q1,bo⟩:=lH hlen
  subst bo
  intro v0 d0
  intro wP d13
  have eZ:=eZ.go TX;have kH:=kH.go TX
  change OW _ _ _ _ _ (aM (aN _ x _) (zZ 113 [_,_,_,_,_,_,_,_,_,_,_,_,_,_,_])) _
  obtain⟨cz,bg,rq⟩:=hJ
  obtain rfl:G2=ad3:=cz.symm
  refine zA<|ag<|db<|gM bh bB ?_
  intro adY DZ MY alW
  have dC:=bg.cZ
  have xH:=bg.kb.size
  have bg:=bg.ext DZ;have eZ:=eZ.ext DZ;have kH:=kH.ext DZ;have rq:=rq.ext DZ
  have tS:=MY.o dC
  refine zm<|FX (N:=w.heap.size) bh bB rfl rfl rfl rfl rfl rfl tS om eZ bg.cZ om ?_
  intro v9 alX G9 kV vi df fi p3
  have bg:=bg.out df p3 ⟨gD.1,gD.2.1,gD.2.2⟩ ⟨kV _ gD.1,kV _ gD.2.1,kV _ gD.2.2⟩ fi
  have kH:=kH.go df;have rq:=rq.go df
  refine zm<|zm<|lk bh bB rfl rfl rfl rfl ?_
  intro alY Ja ad4 alZ
  have kH:=kH.ext Ja;have rq:=rq.ext Ja;have vi:=vi.ext Ja;have bg:=bg.ext Ja
  refine IQ bh bB rfl rfl rfl rfl rfl rfl vi (aY.eF [(dj cx (bK cx ai n)),(dj cx (bK cx ai (bK cx ai n+1)))] ad4 (λhx=>by have:=fi _ hx;omega)) bg.cZ kV (show(ρ.map Prod.snd).length+2<100000000 from om) ?_
  intro v10 al0 wQ df D0 p3
  have bg:=bg.out df p3 ⟨gD.1,gD.2.1,gD.2.2⟩ ⟨gD.1,gD.2.1,gD.2.2⟩ D0
  have kH:=kH.go df;have rq:=rq.go df
  refine zA<|ag ?_
  exact⟨(_,_),⟨rfl,rfl,rfl,rfl,rfl,rfl,rfl,rfl⟩,⟨kH,bg,by show bI G2 _ _ ((ρ++_).map Prod.fst);rw[List.map_append];exact rq,by show bI G2 _ _ ((ρ++_).map Prod.snd);rw[List.map_append];exact wQ⟩⟩
  have rk:e.head≠il:=λhh=>h4 (jG.trans hh)
  have ss:=adL ai n bF fx rk
  have wR:=TM fx I8 rk
  refine bA ?_
  exact⟨(_,_),⟨rfl,rfl,rfl,rfl,rfl,rfl,rfl,rfl⟩,⟨kH,by rw[ss.2,ss.1,show mf [cj e.head] [] e=e.av.au from by rw[wR];simp[mf]];exact bg,by rw[TK ai ρ n rk];exact fS,by rw[TK ai ρ n rk];exact eZ⟩⟩
  intro gu w7 e7 hI
  obtain⟨vf2,BQ⟩:=gu
  dsimp only at hI⊢
  obtain⟨kH,bg,fS,eZ⟩:=hI
  have bc:=bc.go kH;have aI:=aI.go kH;have cT:=cT.go kH
  refine aQ<|zr<|zm<|zA<|ag<|cP ?_
  refine fZ (λk:Nat=>[(1,vf2),(2,BQ),(3,.pointer (some ⟨br,0,none⟩)),(4,.pointer (some ⟨w.heap.size,0,none⟩)),(8,.pointer (some ⟨w1.heap.size,0,none⟩)),(9,.pointer (some ⟨w4.heap.size,0,none⟩)),(11,.int .i64 ((e.from+e.kids.length:Nat):Int)),(15,.int .i64 ((e.from+k:Nat):Int))]) (λk ww=>Fr G2 w7 G2 ww∧jv G2 w ww br ai ((kG ai (jT ai ρ n e) e (nF ai n e) k).2) gb w1.heap.size (.slice (some ⟨gb,0,none⟩) e.av.au.length je) (mf (wL ai n e) (kG ai (jT ai ρ n e) e (nF ai n e) k).1 e)∧k<=e.kids.length) (λk=>e.kids.length-k) (0) (⟨rfl,rfl,rfl,rfl,rfl,rfl,rfl,rfl⟩) (⟨Fr.refl _ _,bg,om⟩) ?_
  intro gg w8 e8 hI
  obtain⟨po,bg,hk⟩:=hI
  have bc:=bc.go po;have fS:=fS.go po;have eZ:=eZ.go po;have aI:=aI.go po;have cT:=cT.go po
  refine aQ<|zr<|zm<|zm<|fJ rfl rfl rfl<|ag<|zc rfl (λh5=>?_) (λh5=>?_)
  have iu:gg<e.kids.length:=om
  have sK:=wK gg iu
  obtain⟨b1,ga,gY,gZ,e1,bC,dd⟩:=fI bc (i:=e.from+gg) om
  cases e1
  have dd:=dd.eq sK
  have tQ:=Fk bF iu
  have gS:=MP ai (jT ai ρ n e) e (nF ai n e) gg
  have AH:=TQ ai (jT ai ρ n e) e (nF ai n e) gg om
  have Bj:=yn iu
  have lv:=adN ai ρ n fx I8 iu oC oT AH.2
  refine bA<|aQ<|cP ?_
  apply kc eu G2 13 (rA 141 13) (rA 141 13) [[],[0],[],[],[3],[],[4,5],[6],[],[],[],(rA 7 4),[1,2]] [Ie.v _,Ie.v _,Ie.v _,Ie.v _,Ie.v _,Ie.v _,Ie.v _,Ie.v _,Ie.v _,Ie.v _,Ie.v _,Ie.e 0,Ie.v _] [11] [fun(G:List Nat) (vs:List Value) (ww:World)=>G=G2∧jv G2 w ww br ai ((kG ai (jT ai ρ n e) e (nF ai n e) gg).2) gb w1.heap.size (.slice (some ⟨gb,0,none⟩) e.av.au.length je) (mf (wL ai n e) (kG ai (jT ai ρ n e) e (nF ai n e) gg).1 e),fun(G:List Nat) (vs:List Value) (ww:World)=>G=G2∧jv G2 w ww br ai ((kG ai (jT ai ρ n e) e (nF ai n e) (gg+1)).2) gb w1.heap.size (.slice (some ⟨gb,0,none⟩) e.av.au.length je) (mf (wL ai n e) (kG ai (jT ai ρ n e) e (nF ai n e) gg).1 e)∧bS G2 ww (vs.getD 0 undef) (ck ai (fL e gg) (jT ai ρ n e) (kG ai (jT ai ρ n e) e (nF ai n e) gg).2).1.av] de rfl bg.cZ (by exact trivial) (by exact⟨λG vs w w' ⟨h1,h2⟩ k=>⟨h1,h2.ext k⟩,λG vs w w' ⟨h1,h2,h3⟩ k=>⟨h1,h2.ext k,h3.ext k⟩,trivial⟩) (⟨rfl,bg⟩)
  refine vf (λ_ _ _ _ _ _=>zf cM rfl fv) ?_
  refine vf (λx w9 G9 aW df lg=>?_) ?_
  have cT:=cT.go df
  refine zl cK rfl (cT.at rfl) ?_
  exact fv
  refine cR ?_
  refine vf (λ_ _ _ _ _ _=>zf cM rfl fv) ?_
  refine vf (λx w9 G9 aW df lg=>?_) ?_
  have aI:=aI.go df
  refine zl cK rfl (aI.at rfl) ?_
  exact fv
  refine cR ?_
  refine vf (λ_ _ _ _ _ _=>zi cw aH rfl rfl om fv) ?_
  refine vf (λx w9 G9 aW df lg=>?_) ?_
  have bC:=bC.go df
  refine zL bT aH rfl bC.cells rfl ?_
  exact fv
  refine cR ?_
  refine cR ?_
  refine cR ?_
  refine ve 0 (λx w9 G9 aW df lg hJ hlen=>?_) ?_
  have bo:=jO hlen
  subst bo
  have fS:=fS.go df;have eZ:=eZ.go df;have dd:=dd.go df
  obtain⟨cz,bg⟩:=hJ
  obtain rfl:G2=G9:=cz.symm
  refine aC (ih (fL e gg) om om tQ.1 (jT ai ρ n e) (kG ai (jT ai ρ n e) e (nF ai n e) gg).2 lv.1 lv.2 _ _ _ br G2 w9 dd fS eZ bg.rn bg.cZ) ?_
  rintro B8 cN ⟨⟨dS,Gc⟩,aG⟩
  exact fe G2 (Fr.of aG bg.oe) ((λq hq=>lL (bg.cZ q hq) aG.size)) (⟨rfl,bg.call Gc aG,dS⟩)
  refine vf (λ_ _ _ _ _ _=>zi cw aH rfl rfl om fv) ?_
  exact trivial
  intro x j1 D1 aW wS Gf hJ hlen
  obtain⟨q0,bo⟩:=jP hlen
  subst bo
  have po:=po.go wS
  change OW _ _ _ _ _ (aM (aN _ x _) (zZ 141 [_,_,_,_,_,_,_,_,_,_,_,_,_])) _
  obtain⟨cz,bg,dS⟩:=hJ
  obtain rfl:G2=D1:=cz.symm
  obtain⟨a7,n7,c7,e7,_,_⟩:=dN dS
  have e8:q0=_:=e7
  subst e8
  have zk:(mf (wL ai n e) (kG ai (jT ai ρ n e) e (nF ai n e) gg).1 e).set (e.from+gg) (ck ai (fL e gg) (jT ai ρ n e) (kG ai (jT ai ρ n e) e (nF ai n e) gg).2).1.av=mf (wL ai n e) (kG ai (jT ai ρ n e) e (nF ai n e) (gg+1)).1 e:=(by have:=TN (pre:=(wL ai n e)) (acc:=(kG ai (jT ai ρ n e) e (nF ai n e) gg).1) (e:=e) (y:=(ck ai (fL e gg) (jT ai ρ n e) (kG ai (jT ai ρ n e) e (nF ai n e) gg).2).1) om;rw[TW,gS] at this;exact this)
  refine sQ (i:=e.from+gg) (vs:=[str (ck ai (fL e gg) (jT ai ρ n e) (kG ai (jT ai ρ n e) e (nF ai n e) gg).2).1.av.az,.slice a7 n7 c7]) (row:=(ck ai (fL e gg) (jT ai ρ n e) (kG ai (jT ai ρ n e) e (nF ai n e) gg).2).1.av.enc) aH rfl rfl rfl rfl (Nat.zero_add _) bg.own bg.cZ bg.mem.1 (by rw[iJ,TO om,TW];omega) rfl (oU _) (show bS G2 _ (.agg #[_,_]) _ from dS).kO ?_
  intro pj jB rY dY
  rw[sS,zk] at dY
  have po:=po.aL jB bg.jA
  have bg:=bg.store jB dY
  refine ag<|db<|zm<|eE rfl rfl rfl (wrap_i64 _ om om)<|zA<|ag ?_
  exact⟨gg+1,⟨rfl,rfl,rfl,rfl,rfl,rfl,rfl,congrArg (Value.int .i64) om⟩,⟨po,bg,om⟩,om⟩
  have gJ:gg=e.kids.length:=by omega
  subst gJ
  have gS:=MP ai (jT ai ρ n e) e (nF ai n e) e.kids.length
  refine gF<|gH rfl<|zr<|zL bT aH rfl cT.all rfl<|dk aH rfl rfl rfl bg.bx rfl ?_
  intro w9 aG dv mu
  subst yq
  obtain⟨rZ,r5,vj⟩:=bg.fin hG B5.mem aG
  rw[TP gS,<-TV.1] at rZ
  rw[<-TV.2] at r5
  refine ag<|aV ?_
  exact⟨[_],gR bT aH rfl dv rfl,⟨rZ,r5⟩,vj⟩
theorem ad6 {ps:List aA} (h:k<ps.length):jN (ps.take k)+fP (nth ps k)<=jN ps:=by
 have h1:=RA (iM h)
 have h2:=S9 (ps:=ps) (k+1)
 omega
theorem ad7:∀(m:Nat) (t:aA),t.size<=m->t.size<=1000000->WF t->∀(l:List aj),l.length+fP t<=100000->∀(v vl:Value) (g:Option Nat) (w:World),
  bS g.toList w v t->dh w 9 vl g l->
  bZ Tryz.prog 137 [v,vl] w λr w'=>∃g',dh w' 9 r g' (lF t l)∧Fr g.toList w g'.toList w':=by
 intro m
 induction m with
 |zero=>intro t h;have:=xJ t;omega
 |succ m ih=>
  intro t hm mW dx l hl v vl g w hv gL
  obtain⟨a,n,c,rfl,hn,bc⟩:=dN hv
  subst hn
  obtain⟨al,cl,rfl⟩:=kr gL
  have pY:=gL.lt
  have oO:=gL.rs
  have hR:=Fr.refl g.toList w
  have oX:=xI t
  refine cU [.tmp 4] 34 Tryz.func137 rfl Yj rfl rfl ?_
  refine zr<|fA rfl ?_
  intro w1 aJ aZ dV
  have hR:=hR.ext aJ;have bc:=bc.ext aJ;have gL:=gL.ext aJ;have oO:=oO.ext aJ
  refine zA<|ag<|aQ<|zr<|zf dB rfl<|zl cg rfl (aZ.at rfl)<|jF rfl rfl rfl rfl<|ag<|zc rfl (λh1=>?_) (λh1=>?_)
  have hq:lF t l=if t.az∈l then l else l++[t.az]:=by rw[RQ,iP h1]
  refine aQ<|zr<|zm<|zf dB rfl<|zl cg rfl (aZ.at rfl)<|aC (z6 l om t.az _ _ w1 oO) ?_
  rintro v2 w2 ⟨dz,aq⟩
  have dR:=aq.size
  have hR:=hR.ext aq;have gL:=gL.ext aq;have aZ:=aZ.ext aq
  obtain rfl:=dz
  refine ag<|zc rfl (λh2=>?_) (λh2=>?_)
  have AG:t.az∈l:=h2
  refine zr<|zm<|zA<|ag<|aV ?_
  exact⟨_,rfl,g,by rw[hq,iP AG];exact gL,hR⟩
  have AG:¬t.az∈l:=h2
  refine bA<|zr<|zm<|zf dB rfl<|zl cg rfl (aZ.at rfl)<|gA bh bB rfl rfl ?_
  intro w3 aK MZ iK
  have hR:=hR.ext aK;have gL:=gL.ext aK
  refine Sx bh bB rfl rfl rfl rfl rfl rfl gL MZ om ?_
  intro v5 g5 w4 lq aD nq
  have hR:=hR.go nq
  refine zA<|ag<|aV ?_
  exact⟨_,rfl,g5,by rw[hq,iN AG];exact lq,hR⟩
  have hq:lF t l=o7 t.au l:=(by rw[RQ,iN h1])
  have TZ:fP t=jN t.au:=(by rw[Lz,iN h1])
  have aZ:=aZ.o pY
  refine bA<|aQ<|zr<|zA<|ag<|cP ?_
  refine fZ (λq:Nat×Value×Option Nat=>[(1,q.2.1),(2,.pointer (some ⟨w.heap.size,0,none⟩)),(5,.int .i64 (q.1:Int))]) (λq w'=>Fr g.toList w q.2.2.toList w'∧Fr g.toList w1 q.2.2.toList w'∧dh w' 9 q.2.1 q.2.2 (o7 (t.au.take q.1) l)∧q.1<=t.au.length) (λq=>t.au.length-q.1) ((0,.slice al l.length cl,g)) (⟨rfl,rfl,rfl⟩) (⟨hR,Fr.refl _ _,gL,sm⟩) ?_
  intro gg w2 e2 hI
  obtain⟨k,vl,gl⟩:=gg
  dsimp only at hI⊢
  obtain⟨hR,ku,gL,hk⟩:=hI
  have aZ:=aZ.go ku;have bc:=bc.go ku
  refine aQ<|zr<|zm<|zf cM rfl<|zl cK rfl (aZ.at rfl)<|eh cw rfl<|fJ rfl rfl rfl<|ag<|zc rfl (λh3=>?_) (λh3=>?_)
  have iu:k<t.au.length:=om
  obtain⟨b1,ga,gY,gZ,e1,bC,dd⟩:=fI bc iu
  subst e1
  have dy:=lX iu
  have bg:=aci (iM iu) l
  have BA:=LL (t.au.take k) l
  have D3:=ad6 iu
  refine bA<|aQ<|cP<|db<|zf cM rfl<|zl cK rfl (aZ.at rfl)<|zm<|zi cw aH rfl rfl iu<|zL bT aH rfl bC.cells rfl<|zm<|aC (ih (nth t.au k) om om (dx.nth iu) _ om _ _ gl w2 dd gL) ?_
  rintro MN w3 ⟨MO,IY,F7⟩
  rw[<-bg] at IY
  refine zA<|ag<|db<|zm<|eE rfl rfl rfl (wrap_i64 _ om om)<|zA<|ag ?_
  exact⟨(k+1,MN,MO),⟨rfl,rfl,rfl⟩,⟨hR.go F7,ku.go F7,IY,by simp;omega⟩,by simp;omega⟩
  have gJ:k=t.au.length:=by omega
  subst gJ
  refine gF<|gH rfl<|zr<|zm<|zA<|ag<|aV ?_
  exact⟨_,rfl,gl,by rw[hq,<-List.take_length (l:=t.au)];exact gL,hR⟩
theorem ad8 (ee:Ex) (hn:ee.n<=120) (bF:ee.ok) (v:Value) (L:List Nat) (w:World) (lM:∀x,x∈L->x<w.heap.size) (hv:bS L w v ee.av):
  bZ Tryz.prog 136 [v] w λr w'=>(∃tv,r= .tuple #[tv,.bool (qu ee).isSome]∧bS L w' tv (ck (cF ee [] []) ee [] 0).1.av)∧ak [] w w':=by
 have dI:=hv
 obtain⟨a,np,c,rfl,fu,bc⟩:=dN hv
 have pb:(cF ee [] []).length<=120:=by have:=tC ee [] [];simp at this;omega
 have hmu:ee.n*((cF ee [] []).length+2)<=120*122:=Nat.mul_le_mul hn om
 have hK:=ak.refl [] w
 refine lz [.cell 2 66,.tmp 3] 23 Tryz.func136 rfl Yi rfl rfl rfl ?_
 refine zr<|fA rfl ?_
 intro w1 aJ aU dV
 have hK:=hK.ext aJ
 refine eC aH rfl rfl rfl ?_
 intro w2 aq aZ eK
 have hK:=hK.grow;have hK:=hK.ext aq;have aU:=aU.grow;have aU:=aU.ext aq
 refine zA<|ag<|zr<|zL bT aH rfl aU.all rfl<|gM bh bB ?_
 intro w3 aK cH qg
 have hK:=hK.ext aK;have aU:=aU.ext aK;have aZ:=aZ.ext aK
 refine gM bh bB ?_
 intro w4 aD dv mu
 have hK:=hK.ext aD;have aU:=aU.ext aD;have aZ:=aZ.ext aD
 have iK:=hK.size
 refine aC (IV 120 ee hn om bF [] [] so so _ _ _ (some _) w4 (bS.ext (bS.fresh dI (by intro x hx;simp at hx;right;omega)) hK) (cD.nil _ _ _) dv.ll) ?_
 rintro v9 w5 ⟨g9,dK,df⟩
 have ph:=df.aO.size
 obtain⟨a9,c9,rfl⟩:=kr dK
 have hK:=hK.since df.aO (λx hx=>.inr (by simp at hx;omega))
 have aU:=aU.aO df.aO so
 have aZ:=aZ.aO df.aO so
 have gJ:=dK.lt
 have al1:=hK.size
 have T0:=aU.lt
 have T1:=aZ.lt
 refine j6 (Z0 _ _ _ _ _) rfl rfl<|fA rfl ?_
 intro w6 bD iD lB
 have hK:=hK.ext bD;have aU:=aU.ext bD;have aZ:=aZ.ext bD;have dK:=dK.ext bD
 refine zA<|ag<|zr<|zL bT aH rfl aU.all rfl<|gM bh bB ?_
 intro w7 cv mc qg
 have hK:=hK.ext cv;have aU:=aU.ext cv;have aZ:=aZ.ext cv;have dK:=dK.ext cv;have iD:=iD.ext cv
 refine gM bh bB ?_
 intro w8 cu wT mu
 have hK:=hK.ext cu;have aU:=aU.ext cu;have aZ:=aZ.ext cu;have dK:=dK.ext cu;have iD:=iD.ext cu
 refine zm ?_
 have aea:∀q,q∈g9.toList->w.heap.size<=q:=(λq hq=>by rcases df.mem q hq with h|h;(·simp at h;omega);(·omega))
 have jw:=hK.size
 have iG:w5.heap.size<w8.heap.size:=iD.lt
 have aeb:∀q,q∈g9.toList->q≠w5.heap.size∧q≠w1.heap.size:=(λq hq=>⟨λh9=>by have:=gJ q hq;omega,λh9=>by rcases df.mem q hq with h|h;(·simp at h;omega);(·omega)⟩)
 refine aC (adO (cF ee [] []) om 120 ee hn om bF [] 0 so om _ _ _ w5.heap.size (w5.heap.size::w1.heap.size::L) w8 (bS.ext (bS.fresh dI (by intro q hq;simp at hq;rcases hq with h|h|h;(·right;omega);(·right;omega);(·exact .inl h))) hK) (cD.nil _ _ _) (cD.nil _ _ _) ⟨by simp,_,iD,dK.rep (λq hq oK=>by have h1:=aeb q (by simp[hq]);rcases mC.1 oK with h|h;(·exact h1.1 h);(·rcases mC.1 h with h|h;(·exact h1.2 h);(·have h2:=lM q h;have h3:=aea q (by simp[hq]);omega)))⟩ (by intro q hq;simp at hq;rcases hq with h|h|h;(·omega);(·omega);(·have:=lM q h;omega))) ?_
 rintro yt w9 ⟨⟨wU,rl⟩,kY⟩
 have T2:=kY.size
 obtain⟨nv,nz,nA,rfl,_,_⟩:=dN wU
 obtain⟨_,al2,iD,_⟩:=rl
 have hK:=hK.since kY (λq hq=>.inr (by simp at hq;omega))
 have aU:=aU.aO kY so
 have aZ:=aZ.aO kY so
 refine eC aH rfl rfl rfl ?_
 intro cN bU bQ Bv
 have hK:=hK.grow;have hK:=hK.ext bU;have aZ:=aZ.grow;have aZ:=aZ.ext bU;have iD:=iD.grow;have iD:=iD.ext bU;have wU:=wU.grow;have wU:=wU.ext bU
 refine dk aH rfl rfl rfl bQ rfl ?_
 intro eW cL bQ uF
 have hK:=hK.aL cL sx;have aZ:=aZ.aL cL sx;have iD:=iD.aL cL sx;have wU:=wU.aL cL sx
 refine ag<|aQ ?_
 refine qf eu (cQ w1.heap.size ([str (ck (cF ee [] []) ee [] 0).1.av.az,.slice nv nz nA]) 66) 8 (rA 17 6++[100006,3]) (rA 17 6++[100006,3]) [[],[],[1],[2],[3],[4],[0],[5]] [λv _=>v=(.agg #[str (ck (cF ee [] []) ee [] 0).1.av.az,.slice nv nz nA]),λv _=>v=(.pointer (some ⟨w5.heap.size,0,none⟩)),λv _=>v=(.pointer (some ⟨w5.heap.size,0,none⟩)),λv _=>v=(.pointer (some ⟨w5.heap.size,0+1,none⟩)),λv _=>v=(.int .i64 ((ck (cF ee [] []) ee [] 0).2:Int)),λv _=>v=(.bool (decide (((ck (cF ee [] []) ee [] 0).2:Int)<=100))),λ_ ww=>aY ww w1.heap.size ([str (ck (cF ee [] []) ee [] 0).1.av.az,.slice nv nz nA]).toArray 66,λv _=>v=(.bool (decide (((ck (cF ee [] []) ee [] 0).2:Int)<=100)))] de (cX (cX (cX (cX (cX (cX (C3 (cX trivial)))))))) (λwd aB=>?_) ?_
 refine bN ?_ ?_
 intro x vs gj e dD hd he
 replace dD:=(cQ w1.heap.size ([str (ck (cF ee [] []) ee [] 0).1.av.az,.slice nv nz nA]) 66).trans aB dD
 have bQ:=bQ.aL dD.1 sx
 replace he:e=aM (aN _ x _) []:=he
 subst he
 refine zL bT aH rfl bQ.all rfl<|ag ?_
 exact dn ((cQ w1.heap.size ([str (ck (cF ee [] []) ee [] 0).1.av.az,.slice nv nz nA]) 66).refl _) rfl
 refine bN ?_ ?_
 intro x vs gj e dD hd he
 replace dD:=(cQ w1.heap.size ([str (ck (cF ee [] []) ee [] 0).1.av.az,.slice nv nz nA]) 66).trans aB dD
 replace he:e=aM (aN _ x _) []:=he
 subst he
 refine zm<|ag ?_
 exact dn ((cQ w1.heap.size ([str (ck (cF ee [] []) ee [] 0).1.av.az,.slice nv nz nA]) 66).refl _) rfl
 refine bN ?_ ?_
 intro x vs gj e dD hd he
 have d1:vs 1=(.pointer (some ⟨w5.heap.size,0,none⟩)):=hd
 replace dD:=(cQ w1.heap.size ([str (ck (cF ee [] []) ee [] 0).1.av.az,.slice nv nz nA]) 66).trans aB dD
 replace he:e=aM (aN _ x _) [(18,vs 1)]:=he
 rw[d1] at he
 subst he
 refine di rfl<|ag ?_
 exact dn ((cQ w1.heap.size ([str (ck (cF ee [] []) ee [] 0).1.av.az,.slice nv nz nA]) 66).refl _) rfl
 refine bN ?_ ?_
 intro x vs gj e dD hd he
 have d2:vs 2=(.pointer (some ⟨w5.heap.size,0,none⟩)):=hd
 replace dD:=(cQ w1.heap.size ([str (ck (cF ee [] []) ee [] 0).1.av.az,.slice nv nz nA]) 66).trans aB dD
 replace he:e=aM (aN _ x _) [(19,vs 2)]:=he
 rw[d2] at he
 subst he
 refine zf HL rfl<|ag ?_
 exact dn ((cQ w1.heap.size ([str (ck (cF ee [] []) ee [] 0).1.av.az,.slice nv nz nA]) 66).refl _) rfl
 refine bN ?_ ?_
 intro x vs gj e dD hd he
 have d3:vs 3=(.pointer (some ⟨w5.heap.size,0+1,none⟩)):=hd
 replace dD:=(cQ w1.heap.size ([str (ck (cF ee [] []) ee [] 0).1.av.az,.slice nv nz nA]) 66).trans aB dD
 have iD:=iD.aL dD.1 sx
 replace he:e=aM (aN _ x _) [(20,vs 3)]:=he
 rw[d3] at he
 subst he
 refine zl qQ rfl (iD.at rfl)<|ag ?_
 exact dn ((cQ w1.heap.size ([str (ck (cF ee [] []) ee [] 0).1.av.az,.slice nv nz nA]) 66).refl _) rfl
 refine bN ?_ ?_
 intro x vs gj e dD hd he
 have d4:vs 4=(.int .i64 ((ck (cF ee [] []) ee [] 0).2:Int)):=hd
 replace dD:=(cQ w1.heap.size ([str (ck (cF ee [] []) ee [] 0).1.av.az,.slice nv nz nA]) 66).trans aB dD
 replace he:e=aM (aN _ x _) [(21,vs 4)]:=he
 rw[d4] at he
 subst he
 refine qN rfl rfl rfl rfl rfl<|ag ?_
 exact dn ((cQ w1.heap.size ([str (ck (cF ee [] []) ee [] 0).1.av.az,.slice nv nz nA]) 66).refl _) rfl
 refine bN ?_ ?_
 intro x vs gj e dD hd he
 have d0:vs 0=(.agg #[str (ck (cF ee [] []) ee [] 0).1.av.az,.slice nv nz nA]):=hd
 replace dD:=(cQ w1.heap.size ([str (ck (cF ee [] []) ee [] 0).1.av.az,.slice nv nz nA]) 66).trans aB dD
 obtain⟨us,uY,uZ⟩:=dD.2.2 ⟨_,(by rfl),aZ⟩
 replace he:e=aM (aN _ x _) [(17,vs 0)]:=he
 rw[d0] at he
 subst he
 refine dk aH rfl rfl rfl uZ (by rw[uY];rfl) ?_
 intro jC fM hb Gg
 refine ag ?_
 exact dn ⟨fM,λ_=>hb,λ_=>⟨_,rfl,hb⟩⟩ hb
 refine bN ?_ ?_
 intro x vs gj e dD hd he
 have d5:vs 5=(.bool (decide (((ck (cF ee [] []) ee [] 0).2:Int)<=100))):=hd
 replace dD:=(cQ w1.heap.size ([str (ck (cF ee [] []) ee [] 0).1.av.az,.slice nv nz nA]) 66).trans aB dD
 replace he:e=aM (aN _ x _) [(22,vs 5)]:=he
 rw[d5] at he
 subst he
 refine zA<|ag ?_
 exact dn ((cQ w1.heap.size ([str (ck (cF ee [] []) ee [] 0).1.av.az,.slice nv nz nA]) 66).refl _) rfl
 exact trivial
 intro x vs lK lr bJ
 have d0:vs 0=(.agg #[str (ck (cF ee [] []) ee [] 0).1.av.az,.slice nv nz nA]):=bJ 0 de
 have d1:vs 1=(.pointer (some ⟨w5.heap.size,0,none⟩)):=bJ 1 de
 have d2:vs 2=(.pointer (some ⟨w5.heap.size,0,none⟩)):=bJ 2 de
 have d3:vs 3=(.pointer (some ⟨w5.heap.size,0+1,none⟩)):=bJ 3 de
 have d4:vs 4=(.int .i64 ((ck (cF ee [] []) ee [] 0).2:Int)):=bJ 4 de
 have d5:vs 5=(.bool (decide (((ck (cF ee [] []) ee [] 0).2:Int)<=100))):=bJ 5 de
 have d6:aY lK w1.heap.size ([str (ck (cF ee [] []) ee [] 0).1.av.az,.slice nv nz nA]).toArray 66:=bJ 6 de
 have d7:vs 7=(.bool (decide (((ck (cF ee [] []) ee [] 0).2:Int)<=100))):=bJ 7 de
 have hK:=hK.aL lr.1 sx;have wU:=wU.aL lr.1 sx
 have aZ:=d6
 change OW _ _ _ _ [] (aM (aN _ x _) (zZ 17 [vs 0,vs 1,vs 2,vs 3,vs 4,vs 5]++[(100006,vs 6),(3,vs 7)])) _
 rw[d0,d1,d2,d3,d4,d5,d7]
 refine ag<|aV ?_
 exact⟨[_,_],⟨gR bT aH rfl aZ rfl,rfl⟩,⟨_,congrArg (λb=>Value.tuple #[_,.bool b]) (show decide (((ck (cF ee [] []) ee [] 0).2:Int)<=100)=(qu ee).isSome from by unfold qu;by_cases h:(ck (cF ee [] []) ee [] 0).2<=100;(·rw[iP h];exact dT om);(·rw[iN h];exact dF om)),wU.jj (λx hx=>by simp[hx])⟩,hK⟩
def t5:x5:=⟨151,9,66⟩
theorem aec (ai:List aj) (n:Nat) (hn:n<=100000) (hb:ai.length<=10000) (b:Nat) (E G:List Nat) (aX:List aj) (exprs:List aA) (w:World) (h:M5 t5 E G w b ai n aX exprs):
  bZ Tryz.prog 212 [.pointer (some ⟨b,0,none⟩)] w λr w'=>(r=str (dj cy (bK cy ai n))∧M5 t5 E G w' b ai (bK cy ai n+1) aX exprs)∧ak [b] w w':=by
 have MR:=DV cy ai n
 obtain⟨vt,vn,ve,gn,ge,bj,hS⟩:=h
 have bj:aY w b [vt,.int .i64 (n:Int),vn,ve].toArray 151:=bj
 refine cU [.tmp 2] 26 Tryz.func212 rfl Y3 rfl rfl ?_
 refine zr<|zA<|ag<|cP ?_
 refine fZ (λk:Nat=>[(0,.pointer (some ⟨b,0,none⟩))]) (λk w'=>ak [b] w w'∧aY w' b [vt,.int .i64 (k:Int),vn,ve].toArray 151∧jb t5 E G w' b vt vn ve gn ge ai aX exprs∧n<=k∧bK cy ai k=bK cy ai n) (λk=>bK cy ai n+1-k) n rfl (⟨ak.refl _ _,bj,hS,lR _,rfl⟩) ?_
 intro gg w1 e1 hI
 obtain⟨hK,bj,hS,hk,hq⟩:=hI
 have hle:=(oG cy ai gg).1
 refine cP<|zr<|zm<|di rfl<|zf HK rfl<|zl qQ rfl (bj.at rfl)<|aC (iS (gg+1) gg om om w1) ?_
 rintro v2 w2 ⟨dz,aq⟩
 have dR:=aq.size
 have hK:=hK.ext aq;have bj:=bj.ext aq;have hS:=hS.ext aq
 obtain rfl:=dz
 refine cm rfl rfl (by have:=Ds _ gg (lR _);simp;omega)<|zA<|ag<|zr<|zm<|zm<|di rfl<|zf HK rfl<|zl qQ rfl (bj.at rfl)<|eE rfl rfl rfl (wrap_i64 _ om om)<|di rfl<|zf HK rfl<|gX (o:=1) tt rfl rfl rfl bj rfl ?_
 intro w3 aK bj dP
 have hS:=hS.aO aK sm
 have hK:=hK.trans aK
 refine ag<|zr<|zm<|di rfl<|zf Z6 rfl<|zl eO rfl (bj.at rfl)<|zm<|aC (z6 ai om (dj cy gg) _ _ w3 hS.ta) ?_
 rintro v4 w4 ⟨eJ,aD⟩
 have gK:=aD.size
 have hK:=hK.ext aD;have bj:=bj.ext aD;have hS:=hS.ext aD
 obtain rfl:=eJ
 refine eH rfl<|ag<|zc rfl (λh1=>?_) (λh1=>?_)
 have ni:dj cy gg∉ai:=(by simpa using h1)
 have F9:bK cy ai n=gg:=hq.symm.trans (RK ni)
 refine zr<|zm<|zA<|ag<|aV ?_
 exact⟨_,rfl,⟨by rw[F9];rfl,_,_,_,_,_,by rw[F9];exact bj,hS⟩,hK⟩
 have ni:dj cy gg∈ai:=(by simpa using h1)
 have hfs:=RJ ni
 have Rk:=(oG cy ai (gg+1)).1
 refine bA ?_
 exact⟨gg+1,rfl,⟨hK,bj,hS,om,om⟩,om⟩
section
variable {τ:x5} {E G:List Nat} {w w':World} {b:Nat} {vt vn ve:Value} {gn ge:Option Nat} {ai aX:List aj} {exprs:List aA}
theorem jb.AJ (h:jb τ E G w b vt vn ve gn ge ai aX exprs) {ys:List aA} (hy:ey (ge.toList++(g.toList++(E++G))) w' τ.T 2 v g (dG ys)) (k:ak (b::ge.toList) w w') (hg:g=ge∨∃x,g=some x∧w.heap.size<=x):
  ∃G',jb τ E G' w' b vt vn v gn g ai aX ys∧Fr G w G' w'∧∀x,x∈G'->x∈ge.toList++(g.toList++(E++G)):=by
 obtain⟨a1,a2,a3,a4⟩:=h.apart
 have pd:∀x,x∈g.toList->x∈ge.toList∨w.heap.size<=x:=λx hx=>by
  rcases hg with rfl|⟨y,rfl,hy⟩
  ·exact .inl hx
  ·right;simp at hx;omega
 have oo:b∈G:=h.mem.2 (.inl rfl)
 have hF:Fr G w (b::(gn.toList++g.toList)) w':=⟨k.mono λx hx=>by
  rcases mC.1 hx with rfl|hx
  ·exact oo
  ·exact h.mem.2 (by simp[hx]),λx hx=>by
  rcases mC.1 hx with rfl|hx
  ·exact .inl oo
  ·rcases mA.1 hx with hx|hx
   ·exact .inl (h.mem.2 (by simp[hx]))
   ·rcases pd x hx with h1|h1
    ·exact .inl (h.mem.2 (by simp[h1]))
    ·exact .inr h1⟩
 have eU:∀x,x∈E++G->x<w.heap.size:=h.cZ
 have hN:(E++b::(gn.toList++g.toList)).Nodup:=R9 a1 a2 a3 (λx hx=>by
  rcases pd x hx with h1|h1
  ·exact a4 x h1
  ·exact⟨λhe=>by have:=eU x (by simp[he]);omega,λe=>by have:=eU x (mR _ (h.mem.2 (.inl e)));omega,λe=>by have:=eU x (mR _ (h.mem.2 (by simp[e])));omega⟩)
 have rR:∀x,x∈b::(gn.toList++g.toList)->x∈ge.toList++(g.toList++(E++G)):=λx hx=>by
  rw[mA,mA,mA]
  rcases mC.1 hx with rfl|hx
  ·exact .inr (.inr (.inr oo))
  ·rcases mA.1 hx with hx|hx
   ·exact .inr (.inr (.inr (h.mem.2 (by simp[hx]))))
   ·simp[hx]
 refine⟨_,⟨h.ta.go (hF.in E),h.na.aO k (λx hx hy=>?_),hy.sub λx hx=>.inl ?_,rfl,hN,λx hx=>?_⟩,hF,rR⟩
 ·rcases mC.1 hy with rfl|hy
  ·exact(a3 x (by simp[hx])).2 rfl
  ·exact(a4 x hy).2.2 (by simp[hx])
 ·rcases mA.1 hx with hx|hx
  ·simp[hx]
  ·exact rR x hx
 ·have hs:=k.size
  rcases mA.1 hx with hx|hx
  ·exact lL (h.cZ x (by simp[hx])) hs
  ·rcases mC.1 hx with rfl|hx
   ·exact lL (h.cZ x (mR _ oo)) hs
   ·rcases mA.1 hx with hx|hx
    ·exact lL (h.cZ x (mR _ (h.mem.2 (by simp[hx])))) hs
    ·exact hy.lt x hx
theorem jb.alloc (h:jb τ E G w b vt vn ve gn ge ai aX exprs) (k:ak [] w w') (hz:w'.heap.size=w.heap.size+1):jb τ (w.heap.size::E) G w' b vt vn ve gn ge ai aX exprs:=by
 have hF:∀x,x∈(w.heap.size::E)++G->x∈E++G∨w.heap.size<=x:=λx hx=>by
  rcases mC.1 (show x∈w.heap.size::(E++G) from hx) with h1|h1
  ·right;omega
  ·exact .inl h1
 refine⟨(h.ta.fresh hF).ext k,h.na.ext k,(h.ex.sub hF).any k,h.eG,?_,λx hx=>?_⟩
 ·show(w.heap.size::(E++G)).Nodup
  rw[List.nodup_cons]
  exact⟨λhx=>by have:=h.cZ _ hx;omega,h.nd⟩
 ·rcases mC.1 (show x∈w.heap.size::(E++G) from hx) with h1|h1
  ·omega
  ·have:=h.cZ x h1;omega
theorem jb.aL (h:jb τ E G w b vt vn ve gn ge ai aX exprs) (k:ak [x] w w') (hx:x∈E):jb τ E G w' b vt vn ve gn ge ai aX exprs:=by
 obtain⟨a1,a2,a3,a4⟩:=h.apart
 have hF:Fr (E++G) w (E++G) w':=Fr.of k λy hy=>List.mem_append_left _ (by simp at hy;subst hy;exact hx)
 exact⟨h.ta.go hF,h.na.aO k (λy hy vX=>(a3 y (by simp[hy])).1 (by simp at vX;subst vX;exact hx)),h.ex.aO hF k (λy hy vX=>(a4 y hy).1 (by simp at vX;subst vX;exact hx)),h.eG,h.nd,λy hy=>lL (h.cZ y hy) k.size⟩
theorem jb.drop (h:jb τ (x::E) G w b vt vn ve gn ge ai aX exprs):jb τ E G w b vt vn ve gn ge ai aX exprs:=
 ⟨h.ta.fresh λy hy=>.inl (mK _ hy),h.na,h.ex.sub λy hy=>.inl (mK _ hy),h.eG,(List.nodup_cons.1 (show(x::(E++G)).Nodup from h.nd)).2,λy hy=>h.cZ y (mK _ hy)⟩
theorem M5.open (h:M5 τ E G w b ai n aX exprs):∃vt vn ve gn ge,aY w b [vt,.int .i64 (n:Int),vn,ve].toArray τ.M∧jb τ E G w b vt vn ve gn ge ai aX exprs:=h
theorem M5.bG (h:M5 τ E G w b ai n aX exprs):b∈G∧b<w.heap.size∧fy (E++G) w:=by
 obtain⟨_,_,_,_,_,h1,h2⟩:=h
 exact⟨h2.mem.2 (.inl rfl),h1.lt,h2.cZ⟩
theorem M5.nE (h:M5 τ E G w b ai n aX exprs) (hx:x∈E):x∉G:=by
 obtain⟨_,_,_,_,_,_,h2⟩:=h
 have:=h2.nd
 rw[List.nodup_append] at this
 exact λhg=>this.2.2 x hx x hg rfl
theorem M5.alloc (h:M5 τ E G w b ai n aX exprs) (k:ak [] w w') (hz:w'.heap.size=w.heap.size+1):M5 τ (w.heap.size::E) G w' b ai n aX exprs:=by
 obtain⟨vt,vn,ve,gn,ge,h1,h2⟩:=h
 exact⟨vt,vn,ve,gn,ge,h1.ext k,h2.alloc k hz⟩
theorem M5.aL (h:M5 τ E G w b ai n aX exprs) (k:ak [x] w w') (hx:x∈E):M5 τ E G w' b ai n aX exprs:=by
 obtain⟨vt,vn,ve,gn,ge,h1,h2⟩:=h
 exact⟨vt,vn,ve,gn,ge,h1.aO k (by simp;intro e;subst e;exact h2.apart.2.1 hx),h2.aL k hx⟩
theorem M5.drop (h:M5 τ (x::E) G w b ai n aX exprs):M5 τ E G w b ai n aX exprs:=by
 obtain⟨vt,vn,ve,gn,ge,h1,h2⟩:=h
 exact⟨vt,vn,ve,gn,ge,h1,h2.drop⟩
end
theorem ey.form {T:TypeId} (h:ey L w T sz v g rows) (hp:0<rows.length):∃b cap,v= .slice (some ⟨b,0,none⟩) rows.length cap∧g=some b:=by
 obtain⟨xs,hx,_⟩:=h.own
 rcases hx.2 with⟨_,h0,_⟩|⟨b,cap,_,e,hv,_⟩
 ·omega
 ·exact⟨b,cap,hv,e⟩
theorem ey.M0 {T:TypeId} {i:Nat} (h:ey L w T 2 (.slice (some ⟨b,0,none⟩) n c) g (dG ts)) (hi:i<ts.length):
  ∃pa pc,iH w b (0+i*2) [str (nth ts i).az,.slice pa (nth ts i).au.length pc]∧bS L w (.agg #[str (nth ts i).az,.slice pa (nth ts i).au.length pc]) (nth ts i):=by
 obtain⟨xs,dY,ie⟩:=h.own
 rcases dY.2 with⟨h0,_⟩|⟨b',cap,cur,e,hv,hb,mM,mo,cJ,ht⟩
 ·cases h0
 ·cases hv
  have iI:=h.row
  have hlen:xs.length=(dG ts).length*2:=dY.1
  have jE:∀j,j<2->∀u,xs[i*2+j]?=some u->w.cell? ⟨b,i*2+j,none⟩=some u:=λj hj u hu=>by
   rw[hb.cell]
   rw[<-ht,List.getElem?_take] at hu
   split at hu
   ·simpa using hu
   ·cases hu
  have ky:i<(dG ts).length:=by rw[iJ];exact hi
  obtain⟨u0,h0⟩:∃u,xs[i*2]?=some u:=⟨xs[i*2]'om,gE om⟩
  obtain⟨u1,h1⟩:∃u,xs[i*2+1]?=some u:=⟨xs[i*2+1]'om,gE om⟩
  have hr:dQ L w [u0,u1] (nth ts i).enc:=by
   have iZ:=oU (nth ts i)
   refine dQ.of (by rw[iZ];rfl) λj v c hv hc=>?_
   have pb:(dG ts).flatten[i*2+j]?=some c:=EC iI (Kw (iM hi)) hc
   refine ie.get ?_ pb
   match j,hv with
   |0,hv=>simp at hv;subst hv;exact h0
   |1,hv=>simp at hv;subst hv;exact h1
  obtain⟨pa,pn,pc,he,hn,hp⟩:=dN (t:=nth ts i) ⟨[u0,u1],rfl,hr⟩
  have dz:[u0,u1]=[str (nth ts i).az,.slice pa pn pc]:=by
   have:=congrArg (λv=>match v with|Value.agg x=>x.toList|_=>[]) he
   simpa using this
  subst hn
  simp only[List.cons.injEq,and_true] at dz
  obtain⟨e0,e1⟩:=dz
  subst e0 e1
  refine⟨pa,pc,λj v hj=>?_,mS hp⟩
  match j,hj with
  |0,hj=>simp at hj;subst hj;have:=jE 0 om _ h0;simpa using this
  |1,hj=>simp at hj;subst hj;have:=jE 1 om _ h1;simpa using this
theorem dh.M0 {T:TypeId} {i:Nat} (h:dh w T (.slice (some ⟨b,0,none⟩) n c) g xs) (hi:i<xs.length):iH w b (0+i*1) [str (aF xs i)]:=by
 obtain⟨b1,ga,e1,hc⟩:=qU h.rs (lj hi)
 cases e1
 exact hc
theorem dh.aed {T:TypeId} (h:dh w T v g xs) (hp:0<xs.length):∃b cap,v= .slice (some ⟨b,0,none⟩) xs.length cap∧g=some b:=by
 rcases h.2 with⟨_,h0,_⟩|⟨b,cap,_,e,hv,_⟩
 ·omega
 ·exact⟨b,cap,hv,e⟩
def T3:Value->Nat->Value
 | .slice (some ⟨b,o,none⟩) _ _,k=>.pointer (some ⟨b,o+k,none⟩)
 |_,_=>undef
section
variable {P:Program} {n:Nat} {ops:Array Oper} {K:Env->World->Prop} {rest:List Oper} {e:Env} {w:World} {dst:Option Nat} {ty:TypeId} {pos:String} {after:Array Edge} {g:Option (Nat×Bool)} {x y:Operand}
theorem r6 {t E bytes:Nat} {z:Value} {v:Value} {gb:Option Nat} {xs:List aj} {s:aj} {b U:Nat} (hT:P.underlying t=some (.slice E)) (hE:TI P E 1 bytes z) (hg:gate ops e g=true) (hd:dw n dst=true) (hz:Nat.beq z.cells.size 1=true) (ig:Nat.ble bytes 1000=true) 
  (hx:ev e x=v) (hy:ev e y= .slice (some ⟨b,0,none⟩) 1 1) (hO:dh w E v gb xs) (hb:aY w b [str s].toArray U) (hn:xs.length<100000000)
  (k:∀v' g' w',dh w' E v' g' (xs++[s])->ak gb.toList w w'->(g'=gb∨g'=some w.heap.size)->OW P n ops K rest (cO e dst v') w'):
  OW P n ops K (⟨dst,.call {callee:=.builtin .append,args:=#[x,y],argTypes:=#[t,t]},ty,pos,after,g⟩::rest) e w:=by
 refine BP (L:=[]) (row:=[.val (str s)]) hT hE hg hd hz ig hx hy (hO.R6 _) rfl hb.all (by simp[Value.oneCell']) ⟨.val _,trivial⟩ (by rw[rP];exact hn) ?_
 intro v' g' w' kn hk k7
 rw[R7] at kn
 exact k v' g' w' kn.wc hk.aO k7
theorem T4 {G:List Nat} {t E bytes:Nat} {z:Value} {v:Value} {gb:Option Nat} {ts:List aA} {b:Nat} {U c:Nat} (hT:P.underlying t=some (.slice E)) (hE:TI P E 2 bytes z) (hg:gate ops e g=true) (hd:dw n dst=true) (hz:Nat.beq z.cells.size 2=true) (ig:Nat.ble bytes 1000=true) 
  (hx:ev e x=v) (hy:ev e y= .slice (some ⟨b,0,none⟩) 1 c) (hO:ey G w E 2 v gb (dG ts)) (hG:fy G w) (oD:∀q,q∈gb.toList->q∈G) (hb:aY w b [str [],.slice none 0 0].toArray U) (hn:ts.length<100000000)
  (k:∀v' g' w',ey (gb.toList++(g'.toList++G)) w' E 2 v' g' (dG (ts++[.mk [] []]))->ak gb.toList w w'->(g'=gb∨g'=some w.heap.size)->Fr G w (gb.toList++(g'.toList++G)) w'->fy (gb.toList++(g'.toList++G)) w'->OW P n ops K rest (cO e dst v') w'):
  OW P n ops K (⟨dst,.call {callee:=.builtin .append,args:=#[x,y],argTypes:=#[t,t]},ty,pos,after,g⟩::rest) e w:=by
 refine BP (L:=G) (row:=(aA.mk [] []).enc) hT hE hg hd hz ig hx hy (hO.sub λq hq=>.inl ?_) (oU _) hb.all (by simp[Value.oneCell']) (bS.kO (ly oV)) (by rw[iJ];exact hn) ?_
 ·rcases mA.1 hq with h|h
  ·exact oD q h
  ·exact h
 ·intro v' g' w' kn hk k7
  have e1:dG ts++[(aA.mk [] []).enc]=dG (ts++[.mk [] []]):=by rw[Kv];rfl
  rw[e1] at kn
  have pd:∀q,q∈g'.toList->q∈gb.toList∨w.heap.size<=q:=λq hq=>by
   rcases k7 with h|h
   ·rw[h] at hq;exact .inl hq
   ·rw[h] at hq;simp at hq;right;omega
  refine k v' g' w' kn hk.aO k7 ⟨hk.aO.mono oD,λq hq=>?_⟩ λq hq=>?_
  ·rcases mA.1 hq with h|h
   ·exact .inl (oD q h)
   ·rcases mA.1 h with h|h
    ·rcases pd q h with h|h
     ·exact .inl (oD q h)
     ·exact .inr h
    ·exact .inl h
  ·have hs:=hk.aO.size
   rcases mA.1 hq with h|h
   ·exact lL (hG q (oD q h)) hs
   ·rcases mA.1 h with h|h
    ·exact kn.lt q h
    ·exact lL (hG q h) hs
end
structure J5 (τ:x5) (E G2:List Nat) (w0:World) (b:Nat) (vt n vn ve:Value) (ge:Option Nat) (exprs:List aA) (s:aA) (b9 Ce:Bool) (G:List Nat) (v:Value) (w:World):Prop where
 box:aY w b [vt,n,vn,if Ce=true then v else ve].toArray τ.M
 cZ:fy G w
 aO:ak (b::ge.toList) w0 w
 ex:∃g',G=ge.toList++(g'.toList++(E++G2))∧ey G w τ.T 2 v g' (dG (exprs++[if b9=true then s else .mk [] []]))∧(g'=ge∨∃x,g'=some x∧w0.heap.size<=x)
section
variable {τ:x5} {E G2:List Nat} {w0 w w':World} {b:Nat} {vt n vn ve:Value} {ge:Option Nat} {exprs:List aA} {s:aA} {b9 Ce:Bool} {G:List Nat} {v:Value}
theorem J5.ext (h:J5 τ E G2 w0 b vt n vn ve ge exprs s b9 Ce G v w) (k:ak [] w w'):J5 τ E G2 w0 b vt n vn ve ge exprs s b9 Ce G v w':=
 ⟨h.box.ext k,λx hx=>lL (h.cZ x hx) k.size,h.aO.ext k,let⟨g',h1,h2,h3⟩:=h.ex;⟨g',h1,h2.any k,h3⟩⟩
theorem J5.form (h:J5 τ E G2 w0 b vt n vn ve ge exprs s b9 Ce G v w):∃bb cap,v= .slice (some ⟨bb,0,none⟩) (exprs.length+1) cap∧(bb∈G)∧(bb∈ge.toList∨w0.heap.size<=bb)∧G=ge.toList++([bb]++(E++G2))∧ey G w τ.T 2 v (some bb) (dG (exprs++[if b9=true then s else .mk [] []]))∧(some bb=ge∨∃x,some bb=some x∧w0.heap.size<=x):=by
 obtain⟨g',h1,h2,h3⟩:=h.ex
 obtain⟨bb,cap,e1,e2⟩:=h2.form (by rw[iJ];simp)
 subst e2
 refine⟨bb,cap,by rw[e1,iJ];simp,by rw[h1];simp,?_,h1,h2,h3⟩
 rcases h3 with h|⟨x,h,hx⟩
 ·left;rw[<-h];simp
 ·cases h;exact .inr hx
theorem J5.fill {bb:Nat} (h:J5 τ E G2 w0 b vt n vn ve ge exprs s false Ce G v w) (hG:G=ge.toList++([bb]++(E++G2))) (hb:b≠bb) (gx:bb∈ge.toList∨w0.heap.size<=bb) (hg:some bb=ge∨∃x,some bb=some x∧w0.heap.size<=x) (k:ak [bb] w w') (ho:ey G w' τ.T 2 v (some bb) (dG (exprs++[s]))):J5 τ E G2 w0 b vt n vn ve ge exprs s true Ce G v w':=
 ⟨h.box.aO k (by simpa using hb),λx hx=>lL (h.cZ x hx) k.size,h.aO.since k (λx hx=>by
  simp at hx;subst hx
  rcases gx with h|h
  ·exact .inl (by simp only[mC];right;exact h)
  ·exact .inr h),some bb,hG,by simpa using ho,hg⟩
theorem J5.field (h:J5 τ E G2 w0 b vt n vn ve ge exprs s b9 false G v w) (k:ak [b] w w') (hb:aY w' b [vt,n,vn,v].toArray τ.M) (ho:∀g',ey G w τ.T 2 v g' (dG (exprs++[if b9=true then s else .mk [] []]))->(g'=ge∨∃x,g'=some x∧w0.heap.size<=x)->b∉g'.toList) (oo:b∈G):J5 τ E G2 w0 b vt n vn ve ge exprs s b9 true G v w':=
 ⟨by simpa using hb,λx hx=>lL (h.cZ x hx) k.size,h.aO.since k (λx hx=>by simp at hx;subst hx;exact .inl sm),let⟨g',h1,h2,h3⟩:=h.ex;⟨g',h1,h2.aO (Fr.of k (by simpa using oo)) k (λx hx hy=>by simp at hy;subst hy;exact ho g' h2 h3 hx),h3⟩⟩
end
def yw (ai:List aj) (e:Ex) (n:Nat) (aX:List aj) (exprs:List aA):Prop:=n+e.n*(2*(ai.length+2))<=100000∧aX.length+4*e.n<=100000∧exprs.length+4*e.n<=100000∧ai.length<=10000
def Jb (ai:List aj) (E G:List Nat) (b:Nat) (aX:List aj) (exprs:List aA) (w:World) (q:Bs×Ex×Nat) (r:Value) (w':World):Prop:=
 ∃G',(bS (E++G') w' r q.2.1.av∧M5 t5 E G' w' b ai q.2.2 (aX++q.1.map Prod.fst) (exprs++q.1.map λp=>p.2.av))∧Fr G w G' w'
def M1 (e:Ex):Prop:=∀(ai:List aj) (n:Nat) (aX:List aj) (exprs:List aA),yw ai e n aX exprs->∀(E G:List Nat) (b:Nat) (v:Value) (w:World),M5 t5 E G w b ai n aX exprs->bS (E++G) w v e.av->
 bZ Tryz.prog 178 [.pointer (some ⟨b,0,none⟩),v] w (Jb ai E G b aX exprs w (bw ai e n))
def aee (e:Ex):Prop:=∀(ai:List aj) (n:Nat) (aX:List aj) (exprs:List aA),yw ai e n aX exprs->∀(E G:List Nat) (b:Nat) (v:Value) (w:World),M5 t5 E G w b ai n aX exprs->bS (E++G) w v e.av->
 bZ Tryz.prog 204 [.pointer (some ⟨b,0,none⟩),v] w (Jb ai E G b aX exprs w (dW ai (bw ai e n)))
theorem M3 {ai:List aj}:∀{e:Ex} {n:Nat} {s:aj},e.ok->(bw ai e n).2.1= .at s->s≠[]
 | .at x,n,s,h,e=>by
  have:Ex.at x=Ex.at s:=e
  cases this
  exact pJ h
 | .lt x a b,n,s,h,e=>M3 (e:=b) h.2.2 e
 | .un ..,n,s,h,e=>by cases e
 | .bi ..,n,s,h,e=>by cases e
 | .ite ..,n,s,h,e=>by cases e
 | .fn ..,n,s,h,e=>by cases e
theorem T5 {f:Ex} (h:∀s,f= .at s->s≠[]):f.av.az≠[]↔f.jk=true:=by
 cases f with
 |«at» s=>exact⟨λ_=>rfl,λ_=>h s rfl⟩
 |_=>exact⟨λhh=>absurd rfl hh,λhh=>by cases hh⟩
theorem Jc (ai:List aj) (e:Ex) (n:Nat):(bw ai e n).1.length+1<=2*e.n:=by
 have h1:=uN ai e n
 have h2:∀bs:Bs,3*bs.length<=pM bs:=by
  intro bs
  induction bs with
  |nil=>simp[pM]
  |cons p bs ih=>rw[Ii];have:=p.2.pos;simp only[lC];omega
 have h3:=h2 (bw ai e n).1
 have h4:=(bw ai e n).2.1.pos
 omega
theorem T6 (bF:e.ok) (hC:M1 e):aee e:=by
 intro ai n aX exprs hB E G b v w hM hv
 have dI:=hv
 obtain⟨a,np,c,rfl,hn,bc⟩:=dN hv
 obtain⟨IB,M4,M6,Jd⟩:=hB
 have Je:=iQ ai e n
 have M7:=Jc ai e n
 have hK:=ak.refl [] w
 have aw:=hM
 have hT:=dI
 obtain⟨q,hq⟩:∃q,q=bw ai e n:=⟨_,rfl⟩
 rw[<-hq] at Je M7
 refine lz [.cell 4 66] 39 Tryz.func204 rfl Y0 rfl rfl rfl ?_
 refine zr<|fA rfl ?_
 intro w1 aJ bO dV
 have hK:=hK.ext aJ;have aw:=aw.ext aJ;have hT:=hT.ext aJ
 refine eC aH rfl rfl rfl ?_
 intro w2 aq aI eK
 have hK:=hK.grow;have hK:=hK.ext aq;have aw:=aw.alloc aq eK;have hT:=hT.grow;have hT:=hT.ext aq;have bO:=bO.grow;have bO:=bO.ext aq
 refine ag<|zr<|zm<|zL bT aH rfl bO.all rfl<|aC (hC ai n aX exprs ⟨IB,M4,M6,Jd⟩ (w1.heap.size::E) G b _ w2 aw hT) ?_
 rintro v9 w3 ⟨G1,⟨dS,qD⟩,df⟩
 rw[<-hq] at dS qD
 obtain⟨a9,n9,c9,e9,_,_⟩:=dN dS
 subst e9
 have aI:=aI.aO df.aO (aw.nE sm)
 have aef:=aI.lt
 have hR:Fr G w G1 w3:=(Fr.of hK sm).go df
 have AK:=ak.refl [] w3
 have aw:=qD
 have hws:=hR.aO.size
 refine eC aH rfl rfl rfl ?_
 intro w4 aD bQ iL
 have aw:=aw.alloc aD iL;have aI:=aI.grow;have aI:=aI.ext aD;have AK:=AK.grow;have AK:=AK.ext aD;have dS:=dS.grow;have dS:=dS.ext aD
 refine dk aH rfl rfl rfl bQ rfl ?_
 intro w5 aT bQ jo
 have aw:=aw.aL aT sx;have aI:=aI.aL aT sx;have AK:=AK.aL aT sx;have dS:=dS.aL aT sx
 refine ag<|aQ<|zr<|zf dB rfl<|zl cg rfl (bQ.at rfl)<|jF rfl rfl rfl rfl<|ag<|zc rfl (λh1=>?_) (λh1=>?_)
 have fx:q.2.1.jk=true:=((T5 (λs e=>M3 bF (by rw[<-hq];exact e))).1 h1)
 have M8:dW ai q=q:=iP fx
 have hR:=hR.ext AK
 refine zr<|zL bT aH rfl bQ.all rfl<|dk aH rfl rfl rfl aI rfl ?_
 intro w6 bD aI dP
 have aw:=aw.aL bD sm;have dS:=dS.aL bD sm
 have hR:Fr G w G1 w6:=⟨hR.aO.since bD (λx hx=>.inr (by simp at hx;omega)),hR.mem⟩
 refine ag<|aV ?_
 exact⟨[_],gR bT aH rfl aI rfl,by rw[<-hq,M8];exact⟨G1,⟨dS.jj (λx hx=>mK _ (mK _ hx)),aw.drop.drop⟩,hR⟩⟩
 have fx:¬q.2.1.jk=true:=(λhh=>h1 ((T5 (λs e=>M3 bF (by rw[<-hq];exact e))).2 hh))
 have M8:dW ai q=(q.1++[(dj cy (bK cy ai q.2.2),q.2.1)],.at (dj cy (bK cy ai q.2.2)),bK cy ai q.2.2+1):=iN fx
 have hR:=hR.ext AK
 have aR:∃nm,nm=dj cy (bK cy ai q.2.2):=⟨_,rfl⟩
 obtain⟨nm,gC⟩:=aR
 have aR:∃x,x=aX++q.1.map Prod.fst:=⟨_,rfl⟩
 obtain⟨N1,Cf⟩:=aR
 have aR:∃x,x=exprs++q.1.map λp=>p.2.av:=⟨_,rfl⟩
 obtain⟨X1,Cg⟩:=aR
 rw[<-Cf,<-Cg] at aw
 have T7:N1.length=aX.length+q.1.length:=by rw[Cf];simp
 have hXl:X1.length=exprs.length+q.1.length:=by rw[Cg];simp
 refine bA<|zr<|zm<|aC (aec ai q.2.2 om Jd b _ G1 N1 X1 w5 aw) ?_
 rintro vq w6 ⟨⟨D4,qD⟩,jD⟩
 rw[<-gC] at D4
 subst D4
 have oo:=qD.bG
 have T8:=qD.nE (x:=w1.heap.size) sm
 have dS:=dS.aL jD (by intro x hx;simp at hx;subst hx;simp[oo.1])
 have aI:=aI.aO jD (by simp;intro e;subst e;exact T8 oo.1)
 have Jf:=qD.nE (List.mem_cons_self ..)
 have bQ:=bQ.aO jD (by simp;intro e;exact Jf (e▸oo.1))
 have hR:=hR.aL jD (by simpa using oo.1)
 obtain⟨vt,vn,ve,gn,ge,bj,hS⟩:=qD.open
 refine zA<|ag<|zr<|zm<|zm<|di rfl<|zf xD rfl<|zl eO rfl (bj.at rfl)<|zm<|gA bh bB rfl rfl ?_
 intro w7 cv tT qg
 have aI:=aI.ext cv;have dS:=dS.ext cv;have bQ:=bQ.ext cv;have bj:=bj.ext cv;have hS:=hS.ext cv;have hR:=hR.ext cv
 refine r6 bh bB rfl rfl rfl rfl rfl rfl hS.na tT om ?_
 intro M9 g23 w8 T9 cu aeh
 obtain⟨pq,pr,Gh⟩:=kr T9
 subst Gh
 obtain⟨Jg,wV,wW,sW⟩:=hS.apart
 obtain⟨G2,gk,jU⟩:=hS.Sa T9 cu aeh
 have bj:=bj.aO cu (λh=>(wW b h).2 rfl)
 have aI:=aI.aO cu (λh=>(wW _ h).1 sm)
 have bQ:=bQ.aO cu (λh=>(wW _ h).1 sm)
 have dS:bS ((w3.heap.size::w1.heap.size::E)++G2) w8 _ q.2.1.av:=bS.go (L:=(w3.heap.size::w1.heap.size::E)++G1) dS (jU.in _)
 have hR:=hR.go jU
 have wX:b∈G2:=gk.mem.2 (.inl rfl)
 refine di rfl<|zf xD rfl<|gX (o:=2) nL rfl rfl rfl bj rfl ?_
 intro w9 aG bj dP
 have hS:=gk.aO aG sm
 have aI:=aI.aO aG (by simp;intro e;subst e;exact wV sm)
 have bQ:=bQ.aO aG (by simp;intro e;exact wV (by simp[e]))
 have dS:=dS.aL aG (by intro x hx;simp at hx;subst hx;simp[wX]);have hR:=hR.aL aG (by simpa using wX)
 have aei:=(List.nodup_cons.1 (show(w3.heap.size::((w1.heap.size::E)++G2)).Nodup from hS.nd)).1
 have hS:=hS.drop
 have dS:bS ((w1.heap.size::E)++G2) w9 _ q.2.1.av:=dS.jj (λx hx=>mK _ hx)
 refine ag<|aQ ?_
 obtain⟨ae,ce,e5⟩:=hS.ex.len
 subst e5
 have bQ:fh ((w1.heap.size::E)++G2) w9 _ _ _:=⟨bQ,aei⟩
 have bj:aY w9 b [vt,(.int .i64 ((bK cy ai q.2.2+1:Nat):Int)),(.slice pq (N1++[nm]).length pr),(.slice ae (dG X1).length ce)].toArray 151:=bj
 have Ch:fy ((w1.heap.size::E)++G2) w9:=hS.cZ
 have eT:b∈G2:=wX
 obtain⟨Jg,wV,wW,sW⟩:=hS.apart
 have iO:=bj.lt
 apply Sq eu (((w1.heap.size::E)++G2)) 13 (rA 26 9++[100009,35,36,100012]) (rA 26 9++[100009,35,36,100012]) [[],[0],[1],[2],[],[3],[],[3,6],[5,7],[4,8],[0],[10],[7,11]] [Iu.v _,Iu.v _,Iu.v _,Iu.w 0 ((.slice ae (dG X1).length ce)),Iu.v _,Iu.v _,Iu.p (fun(G:List Nat) (v:Value) (ww:World)=>∃bb,v= .slice (some ⟨bb,0,none⟩) 1 1∧fh G ww bb [str [],.slice none 0 0].toArray 66),Iu.e 1,Iu.d (fun(vs:List Value)=>T3 (vs.getD 1 undef) ((dG X1).length*2)),Iu.u,Iu.v _,Iu.v _,Iu.u] [3,7] [fun(G:List Nat) (vs:List Value) (ww:World)=>G=((w1.heap.size::E)++G2)∧aY ww b [vt,(.int .i64 ((bK cy ai q.2.2+1:Nat):Int)),(.slice pq (N1++[nm]).length pr),(.slice ae (dG X1).length ce)].toArray 151∧ak [] w9 ww,fun(G:List Nat) (vs:List Value) (ww:World)=>G=((w1.heap.size::E)++G2)∧aY ww b [vt,(.int .i64 ((bK cy ai q.2.2+1:Nat):Int)),(.slice pq (N1++[nm]).length pr),(.slice ae (dG X1).length ce)].toArray 151∧ak [] w9 ww,fun(G:List Nat) (vs:List Value) (ww:World)=>J5 t5 (w1.heap.size::E) G2 w9 b vt (.int .i64 ((bK cy ai q.2.2+1:Nat):Int)) (.slice pq (N1++[nm]).length pr) (.slice ae (dG X1).length ce) ge X1 q.2.1.av false false G (vs.getD 1 undef) ww] (fun(S:Nat->Bool) (G:List Nat) (vs:List Value) (ww:World)=>J5 t5 (w1.heap.size::E) G2 w9 b vt (.int .i64 ((bK cy ai q.2.2+1:Nat):Int)) (.slice pq (N1++[nm]).length pr) (.slice ae (dG X1).length ce) ge X1 q.2.1.av (S 9) (S 12) G (vs.getD 1 undef) ww) de rfl Ch (by exact⟨λG v w G' w' ⟨bb,e,h⟩ k=>⟨bb,e,h.go k⟩,trivial⟩) (by exact⟨λG vs w w' ⟨h1,h2,h3⟩ k=>⟨h1,h2.ext k,h3.ext k⟩,λG vs w w' ⟨h1,h2,h3⟩ k=>⟨h1,h2.ext k,h3.ext k⟩,λG vs w w' h k=>h.ext k,trivial⟩) (by exact λS G vs w w' h k=>h.ext k) (⟨rfl,bj,ak.refl _ _⟩) (by exact λ_ _ _ h _=>h)
 refine uf (λx cN mD aW oQ mh=>?_) ?_
 refine zm ?_
 exact uv
 refine uf (λx cN mD aW oQ mh=>?_) ?_
 refine di rfl ?_
 exact uv
 refine uf (λx cN mD aW oQ mh=>?_) ?_
 refine zf zE rfl ?_
 exact uv
 refine ue 0 (λx cN mD aW oQ mh hJ hlen=>?_) ?_
 have bo:=jO hlen
 subst bo
 obtain⟨cz,bj,cB⟩:=hJ
 refine zl cK rfl (bj.at rfl) ?_
 exact uW mD (Fr.refl _ _) mh (⟨cz,bj,cB⟩)
 refine uf (λx cN mD aW oQ mh=>?_) ?_
 have bQ:=bQ.go oQ
 refine zL bT aH rfl bQ.all rfl ?_
 exact uv
 refine uf (λx cN mD aW oQ mh=>?_) ?_
 refine eh cw rfl ?_
 exact uv
 refine uf (λx cN mD aW oQ mh=>?_) ?_
 refine gA cw aH rfl rfl ?_
 intro eW cL aej uF
 exact up cL (⟨_,rfl,aej.o mh⟩)
 refine ue 1 (λx cN mD aW oQ mh hJ hlen=>?_) ?_
 obtain⟨q0,bo⟩:=jP hlen
 subst bo
 intro v6 d6
 obtain⟨bb,e6,gx⟩:=d6
 subst e6
 obtain⟨cz,bj,cB⟩:=hJ
 subst cz
 refine T4 cw aH rfl rfl rfl rfl rfl rfl (hS.ext cB).ex ‹_› (λx hx=>mR _ (hS.mem.2 (by simp[hx]))) gx.ju om ?_
 intro v9 g9 eW dK aG fN df fi
 exact uE _ df fi (⟨bj.aO aG (λh=>(sW b h).2.1 rfl),fi,cB.any.trans (aG.mono (λx hx=>mK _ hx)),g9,rfl,dK,fN.imp id (λh=>⟨_,h,cB.size⟩)⟩)
 refine ud (λx cN mD aW S oQ mh hJ hlen=>?_) ?_
 obtain⟨q0,q1,bo⟩:=lH hlen
 subst bo
 obtain⟨bb,cap,e1,r7,rO,kv,hO,va⟩:=J5.form hJ
 have e2:q1=_:=e1
 subst e2
 refine zi cw aH rfl rfl (by rw[iJ];omega) ?_
 exact uD (ak.refl _ _) rfl
 refine uu (λx cN mD aW S oQ mh hJ Ci hlen=>?_) ?_
 obtain⟨q0,q1,bo⟩:=lH hlen
 subst bo
 have dS:=dS.go oQ
 have hJ:J5 t5 (w1.heap.size::E) G2 w9 b vt (.int .i64 ((bK cy ai q.2.2+1:Nat):Int)) (.slice pq (N1++[nm]).length pr) (.slice ae (dG X1).length ce) ge X1 q.2.1.av (S 9) (S 12) mD q1 cN:=hJ
 rw[Ci] at hJ
 obtain⟨bb,cap,e1,r7,rO,kv,hO,va⟩:=J5.form hJ
 subst e1
 refine sQ (i:=(dG X1).length) (vs:=[str q.2.1.av.az,.slice a9 n9 c9]) (row:=q.2.1.av.enc) aH rfl rfl rfl rfl (Nat.zero_add _) hO ‹_› r7 (by rw[iJ,iJ];simp) rfl (oU _) dS.kO ?_
 intro eW cL rY dY
 rw[sS,iJ] at dY
 exact uU mD (Fr.of cL (by simpa using r7)) ((λx hx=>lL (mh x hx) (ak.size cL))) (J5.fill hJ kv (by rintro rfl;rcases rO with h|h;(·exact(sW _ h).2.1 rfl);(·omega)) rO va cL (by have e3:(X1++[if false=true then q.2.1.av else aA.mk [] []]).set X1.length q.2.1.av=X1++[q.2.1.av]:=sm;rw[e3] at dY;exact dY))
 refine uf (λx cN mD aW oQ mh=>?_) ?_
 refine di rfl ?_
 exact uv
 refine uf (λx cN mD aW oQ mh=>?_) ?_
 refine zf zE rfl ?_
 exact uv
 refine uu (λx cN mD aW S oQ mh hJ Ci hlen=>?_) ?_
 obtain⟨q0,q1,bo⟩:=lH hlen
 subst bo
 have hJ:J5 t5 (w1.heap.size::E) G2 w9 b vt (.int .i64 ((bK cy ai q.2.2+1:Nat):Int)) (.slice pq (N1++[nm]).length pr) (.slice ae (dG X1).length ce) ge X1 q.2.1.av (S 9) (S 12) mD q1 cN:=hJ
 rw[Ci] at hJ
 obtain⟨bb,cap,e1,r7,rO,Gi,hO,va⟩:=J5.form hJ
 subst e1
 have Na:=hJ.box
 refine gX (o:=3) E0 rfl rfl rfl Na rfl ?_
 intro eW cL AL rY
 exact uU mD (Fr.of cL (by rw[Gi];simp[eT])) ((λx hx=>lL (mh x hx) (ak.size cL))) (J5.field hJ cL AL (λg9 _ fN hx=>by rcases fN with h|⟨y,h,hy⟩;(·rw[h] at hx;exact(sW _ hx).2.1 rfl);(·rw[h] at hx;simp at hx;omega)) (by rw[Gi];simp[eT]))
 exact trivial
 intro x pj B7 aW rm Gb hJ hlen
 obtain⟨q0,q1,bo⟩:=lH hlen
 subst bo
 intro v6 d6
 intro v9
 intro v12
 change OW _ _ _ _ [] (aM (aN _ x _) (zZ 26 [_,_,_,_,_,_,_,_,_]++[(100009,_),(35,_),(36,_),(100012,_)])) _
 have hJ:J5 t5 (w1.heap.size::E) G2 w9 b vt (.int .i64 ((bK cy ai q.2.2+1:Nat):Int)) (.slice pq (N1++[nm]).length pr) (.slice ae (dG X1).length ce) ge X1 q.2.1.av true true B7 q1 pj:=hJ
 obtain⟨g9,kv,dK,fN⟩:=hJ.ex
 subst kv
 obtain⟨G3,yx,fX,Ua⟩:=hS.AJ dK hJ.aO fN
 have aI:=aI.aO hJ.aO (by intro hx;rcases mC.1 hx with h|h;(·exact wV (by simp[h]));(·exact(sW _ h).1 sm))
 have hR:=hR.go fX
 have bj:=hJ.box
 have yx:=yx
 refine ag<|zr<|zm<|aC (z7 nm pj) ?_
 rintro v50 og ⟨aek,jm⟩
 have al5:=jm.size
 obtain rfl:=aek
 have aI:=aI.ext jm;have yx:=yx.ext jm;have bj:=bj.ext jm;have hR:=hR.ext jm
 refine dk aH rfl rfl rfl aI rfl ?_
 intro lK lr aI dP
 have bj:=bj.aO lr (by simp;intro e;exact wV (by simp[e]))
 have yx:=yx.aL lr sm
 have hR:Fr G w G3 lK:=⟨hR.aO.since lr (λx hx=>.inr (by simp at hx;omega)),hR.mem⟩
 refine ag<|aV ?_
 exact⟨[_],gR bT aH rfl aI rfl,by rw[<-hq,M8];exact⟨G3,⟨(by rw[gC];exact ly oV),(by have e1:aX++(q.1++[(dj cy (bK cy ai q.2.2),q.2.1)]).map Prod.fst=N1++[nm]:=(by rw[Cf,gC];simp);have e2:exprs++(q.1++[(dj cy (bK cy ai q.2.2),q.2.1)]).map (λp=>p.2.av)=X1++[q.2.1.av]:=(by rw[Cg];simp);show M5 t5 E G3 _ b ai _ (aX++(q.1++[(dj cy (bK cy ai q.2.2),q.2.1)]).map Prod.fst) (exprs++(q.1++[(dj cy (bK cy ai q.2.2),q.2.1)]).map (λp=>p.2.av));rw[e1,e2];exact⟨_,_,_,_,_,bj,yx.drop⟩)⟩,hR⟩⟩
theorem ael (v:Value) (a:Option Addr) (n c:Nat) (hv:v= .slice a n c) (w:World):bZ Tryz.prog 179 [v] w λr w'=>r= .agg #[str [],.slice a n c]∧ak [] w w':=by
 subst hv
 have hK:=ak.refl [] w
 refine lz [.cell 2 66] 5 Tryz.func179 rfl YN rfl rfl rfl ?_
 refine zr<|eC aH rfl rfl rfl ?_
 intro w1 aJ aZ dV
 have hK:=hK.grow;have hK:=hK.ext aJ
 refine ag<|zr<|zm<|j6 (KD _ _ _ _) rfl rfl<|dk aH rfl rfl rfl aZ rfl ?_
 intro w2 aq aZ eK
 have hK:=hK.aL aq sx
 refine ag<|aV ?_
 exact⟨[_],gR bT aH rfl aZ rfl,rfl,hK⟩
def aem (e:Ex):Prop:=∀(ai:List aj) (n:Nat) (aX:List aj) (exprs:List aA),yw ai e n [] []->∀(E G:List Nat) (b:Nat) (v:Value) (w:World),M5 t5 E G w b ai n aX exprs->bS (E++G) w v e.av->
 bZ Tryz.prog 138 [.pointer (some ⟨b,0,none⟩),v] w λr w'=>(bS (E++G) w' r (mY ai e n).av∧M5 t5 E G w' b ai (bw ai e n).2.2 aX exprs)∧Fr G w G w'
theorem aen {bs:Bs} (h:k<bs.length):(nest (bs.drop k) e).av= .mk [] [cj gQ,cj (bs.getD k ([],e)).1,(bs.getD k ([],e)).2.av,(nest (bs.drop (k+1)) e).av]:=by
 rw[List.drop_eq_getElem_cons h]
 have e1:bs.getD k ([],e)=bs[k]:=by simp[h]
 rw[e1];rfl
theorem aeo {e:Ex} (h:k<bs.length):aF (bs.map Prod.fst) k=(bs.getD k ([],e)).1:=by simp[aF,List.getD,h]
theorem aep {e:Ex} (h:k<bs.length):nth (bs.map λp=>p.2.av) k=(bs.getD k ([],e)).2.av:=by simp[nth,List.getD,h]
theorem aeq {T:TypeId} {u1 u2 u3 u4 u5 u6 u7 u8:Value} {t1 t2 t3 t4:aA} (hb:aY w b [u1,u2,u3,u4,u5,u6,u7,u8].toArray T) (hL:b∉L) (h1:bS L w (.agg #[u1,u2]) t1) (h2:bS L w (.agg #[u3,u4]) t2) (h3:bS L w (.agg #[u5,u6]) t3) (h4:bS L w (.agg #[u7,u8]) t4):
  fG L w (.slice (some ⟨b,0,none⟩) 4 4) [t1,t2,t3,t4]:=by
 have hc:=hb.all
 refine WR b 0 4 2 (dG [t1,t2,t3,t4]) [[u1,u2],[u3,u4],[u5,u6],[u7,u8]] rfl (lR 4) hb.lt hL (XD _) (λi vs hi=>?_) λi vs row hi hr=>?_
 ·intro j v hj
  match i,hi with
  |0,hi=>simp at hi;subst hi;have:=hc j v (by match j,hj with|0,hj=>simpa using hj|1,hj=>simpa using hj);simpa using this
  |1,hi=>simp at hi;subst hi;have:=hc (2+j) v (by match j,hj with|0,hj=>simpa using hj|1,hj=>simpa using hj);simpa using this
  |2,hi=>simp at hi;subst hi;have:=hc (4+j) v (by match j,hj with|0,hj=>simpa using hj|1,hj=>simpa using hj);simpa using this
  |3,hi=>simp at hi;subst hi;have:=hc (6+j) v (by match j,hj with|0,hj=>simpa using hj|1,hj=>simpa using hj);simpa using this
 ·match i,hi with
  |0,hi=>simp at hi;subst hi;simp[dG] at hr;subst hr;exact h1.kO
  |1,hi=>simp at hi;subst hi;simp[dG] at hr;subst hr;exact h2.kO
  |2,hi=>simp at hi;subst hi;simp[dG] at hr;subst hr;exact h3.kO
  |3,hi=>simp at hi;subst hi;simp[dG] at hr;subst hr;exact h4.kO
theorem Jh (bF:e.ok) (hC:M1 e):aem e:=by
 intro ai n aX exprs hB E G b v w hM hv
 have dI:=hv
 obtain⟨a,np,c,rfl,hn,bc⟩:=dN hv
 have hB0:=hB
 obtain⟨IB,M4,M6,Jd⟩:=hB
 have Je:=iQ ai e n
 have M7:=Jc ai e n
 have hK:=ak.refl [] w
 have aw:=hM
 have hT:=dI
 obtain⟨q,hq⟩:∃q,q=bw ai e n:=⟨_,rfl⟩
 rw[<-hq] at Je M7
 refine lz [.cell 4 66] 66 Tryz.func138 rfl Yk rfl rfl rfl ?_
 refine zr<|fA rfl ?_
 intro w1 aJ bO dV
 have hK:=hK.ext aJ;have aw:=aw.ext aJ
 refine eC aH rfl rfl rfl ?_
 intro w2 aq aI eK
 have hK:=hK.grow;have hK:=hK.ext aq;have aw:=aw.alloc aq eK;have bO:=bO.grow;have bO:=bO.ext aq
 refine ag<|zr<|zm<|di rfl<|zf xD rfl ?_
 obtain⟨vt,vn,ve,gn,ge,bj,hS⟩:=aw.open
 obtain⟨an,cn,kh⟩:=kr hS.na
 subst kh
 obtain⟨ae,ce,BU⟩:=hS.ex.len
 subst BU
 obtain⟨Jg,wV,wW,sW⟩:=hS.apart
 have oo:b∈G:=hS.mem.2 (.inl rfl)
 have iO:=bj.lt
 have Cj:=hS
 have nu:=hK
 have Nb:=ak.refl [] w2
 have aef:=aI.lt
 have Ga:=aI
 have Gj:bS ((w1.heap.size::E)++G) w2 _ e.av:=bS.ext (bS.fresh dI (by intro x hx;rcases mC.1 (show x∈w1.heap.size::(E++G) from hx) with h|h;(·right;omega);(·exact .inl h))) nu
 have al6:=dV
 have al7:=eK
 have Ub:w.heap.size≠b:=(by have:=hM.bG.2.1;omega)
 have Ji:w1.heap.size≠b:=(by have:=hM.bG.2.1;omega)
 have LU:=hM.bG.2.1
 refine zl eO rfl (bj.at rfl)<|zA<|ag<|zr<|zm<|di rfl<|zf zE rfl<|zl cK rfl (bj.at rfl)<|zA<|ag<|zr<|zm<|gM bh bB ?_
 intro w3 aK kj iK
 have bj:=bj.ext aK;have Nb:=Nb.ext aK;have bO:=bO.ext aK;have aI:=aI.ext aK
 refine di rfl<|zf xD rfl<|gX (o:=2) nL rfl rfl rfl bj rfl ?_
 intro w4 aD bj dP
 have p4:ak [b] w2 w4:=(ak.any Nb).trans aD
 have kj:=kj.aO aD so
 have aI:=aI.aO aD (by simpa using Ji)
 have bO:=bO.aO aD (by simpa using Ub)
 refine ag<|zr<|zm<|gM cw aH ?_
 intro w5 aT tT jo
 have bj:=bj.ext aT;have bO:=bO.ext aT;have aI:=aI.ext aT;have kj:=kj.ext aT
 refine di rfl<|zf zE rfl<|gX (o:=3) E0 rfl rfl rfl bj rfl ?_
 intro w6 bD bj dP
 have p4:ak [b] w2 w6:=(p4.ext aT).trans bD
 have kj:=kj.aO bD so
 have tT:=tT.aO bD so
 have aI:=aI.aO bD (by simpa using Ji)
 have bO:=bO.aO bD (by simpa using Ub)
 refine ag<|zr<|zm<|zL bT aH rfl bO.all rfl ?_
 have bj:aY w6 b [vt,.int .i64 (n:Int),.slice (some ⟨w2.heap.size,0,none⟩) 0 0,.slice (some ⟨w4.heap.size,0,none⟩) 0 0].toArray 151:=bj
 obtain⟨hSo,_,_,al8⟩:=Cj.opened p4 kj tT (lR _) om
 have aw:M5 t5 (gn.toList++(ge.toList++(w1.heap.size::E))) [b,w2.heap.size,w4.heap.size] w6 b ai n [] []:=⟨_,_,_,_,_,bj,hSo⟩
 have hTP:bS ((gn.toList++(ge.toList++(w1.heap.size::E)))++[b,w2.heap.size,w4.heap.size]) w6 _ e.av:=Gj.go ⟨p4.mono (by intro x hx;simp at hx;subst hx;simp[oo]),by intro x hx;rcases mA.1 hx with h|h;(·left;rcases mA.1 h with h|h;(·exact mR _ (Cj.mem.2 (by simp[h])));(·rcases mA.1 h with h|h;(·exact mR _ (Cj.mem.2 (by simp[h])));(·exact List.mem_append_left _ h)));(·simp at h;rcases h with h|h|h;(·left;simp[h,oo]);(·right;omega);(·right;omega))⟩
 refine aC (hC ai n [] [] hB0 (gn.toList++(ge.toList++(w1.heap.size::E))) [b,w2.heap.size,w4.heap.size] b _ w6 aw hTP) ?_
 rintro v27 w7 ⟨G2,⟨pt,aw⟩,Nc⟩
 rw[<-hq,List.nil_append,List.nil_append] at aw
 rw[<-hq] at pt
 obtain⟨a9,n9,c9,e9,_,_⟩:=dN pt
 subst e9
 have p4:=p4.since Nc.aO (by intro x hx;simp at hx;rcases hx with h|h|h;(·left;simp[h]);(·right;omega);(·right;omega))
 have aI:=aI.aO Nc.aO so
 have aev:∀x,x∈G2->x=b∨w2.heap.size<=x:=(by intro x hx;have h1:=p4.size;rcases Nc.mem x hx with h|h;(·simp at h;omega);(·right;omega))
 have hzw:=p4.size
 refine eC aH rfl rfl rfl ?_
 intro w8 cu cH mu
 have aI:=aI.grow;have aI:=aI.ext cu;have aw:=aw.alloc cu mu;have pt:=pt.grow;have pt:=pt.ext cu;have p4:=p4.grow;have p4:=p4.ext cu
 refine dk aH rfl rfl rfl cH rfl ?_
 intro w9 aG cH dP
 have aI:=aI.aL aG sx;have aw:=aw.aL aG sx;have pt:=pt.aL aG sx;have p4:=p4.aL aG sx
 refine ag<|aQ<|zr<|zm<|di rfl<|zf xD rfl ?_
 obtain⟨vt3,vn3,ve3,gn3,ge3,bj,hS⟩:=aw.open
 obtain⟨an3,cn3,aew⟩:=kr hS.na
 subst aew
 obtain⟨ae3,ce3,aex⟩:=hS.ex.len
 subst aex
 have oT:(q.1.map Prod.fst).length=q.1.length:=by simp
 have mN:(q.1.map λp=>p.2.av).length=q.1.length:=by simp
 have aey:(dG (q.1.map λp=>p.2.av)).length=q.1.length:=by rw[iJ];exact mN
 refine zl eO rfl (bj.at rfl)<|eh bh rfl<|mO rfl rfl rfl rfl rfl (wrap_i64 _ om om)<|zA<|ag<|cP ?_
 have H7:b<w7.heap.size∧w2.heap.size<=w7.heap.size:=(by constructor<;>omega)
 refine fZ (λk:Nat=>[(0,.pointer (some ⟨b,0,none⟩)),(4,.pointer (some ⟨w1.heap.size,0,none⟩)),(5,.slice an aX.length cn),(6,.slice ae (dG exprs).length ce),(7,.pointer (some ⟨w7.heap.size,0,none⟩)),(8,.int .i64 ((k:Int)-1))]) (λk w'=>ak [w7.heap.size] w9 w'∧k<=q.1.length∧∃a n c,aY w' w7.heap.size [str (nest (q.1.drop k) q.2.1).av.az,.slice a n c].toArray 66∧bS (w7.heap.size::((gn.toList++(ge.toList++(w1.heap.size::E)))++G2)) w' (.agg #[str (nest (q.1.drop k) q.2.1).av.az,.slice a n c]) (nest (q.1.drop k) q.2.1).av) (λk=>k) q.1.length (⟨rfl,rfl,rfl,rfl,rfl,congrArg (λz:Nat=>Value.int .i64 ((z:Int)-1)) oT⟩) (⟨ak.refl _ _,lR _,a9,n9,c9,by rw[List.drop_length];exact cH,by rw[List.drop_length];exact pt⟩) ?_
 intro gg cN fY hI
 obtain⟨AM,hk,a7,n7,c7,cH,pt⟩:=hI
 have Nd:b≠w7.heap.size:=(by have:=H7;omega)
 have bj:=bj.aO AM (by simpa using Nd)
 have hS:=hS.aL AM (List.mem_cons_self ..)
 have p4:=p4.since AM (λx hx=>.inr (by rw[List.mem_singleton.1 hx];exact H7.2))
 refine aQ<|zr<|zm<|lU rfl rfl rfl rfl rfl<|ag<|zc rfl (λh1=>?_) (λh1=>?_)
 have aR:∃k,gg=k+1:=⟨gg-1,om⟩
 obtain⟨k,rfl⟩:=aR
 have hi:((k+1:Nat):Int)-1=(k:Int):=by omega
 rw[hi]
 obtain⟨bn,capn,e1,pd⟩:=hS.na.aed om
 cases e1
 obtain⟨be,cape,e2,rL⟩:=hS.ex.form om
 cases e2
 have Nf:=hS.na.M0 (i:=k) om
 obtain⟨pa,pc,Ng,Nh⟩:=hS.ex.M0 (i:=k) om
 refine bA<|aQ<|cP ?_
 apply wC eu 19 (rA 38 19) (rA 38 19) [[],[],[1],[2],[3],[],[4,5],[6],[7],[],[9],[10],[11],[],[12,13],[14],[],[0,8,15,16],[17]] [It.v _,It.v _,It.v _,It.v _,It.v _,It.v _,It.v _,It.v _,It.v _,It.v _,It.v _,It.v _,It.v _,It.v _,It.v _,It.v _,It.v _,It.p (fun(v:Value) (ww:World)=>∃bb,v= .slice (some ⟨bb,0,none⟩) 4 4∧fG (w7.heap.size::((gn.toList++(ge.toList++(w1.heap.size::E)))++G2)) ww v [cj gQ,cj (aF (q.1.map Prod.fst) k),(nth (q.1.map λp=>p.2.av) k),(nest (q.1.drop (k+1)) q.2.1).av]),It.p (fun(v:Value) (ww:World)=>∃a n c,v= .agg #[str [],.slice a n c]∧bS (w7.heap.size::((gn.toList++(ge.toList++(w1.heap.size::E)))++G2)) ww v (.mk [] [cj gQ,cj (aF (q.1.map Prod.fst) k),(nth (q.1.map λp=>p.2.av) k),(nest (q.1.drop (k+1)) q.2.1).av]))] de (by exact⟨λv w w' ⟨bb,e,h⟩ k=>⟨bb,e,h.ext k⟩,λv w w' ⟨a,n,c,e,h⟩ k=>⟨a,n,c,e,h.ext k⟩,trivial⟩)
 intro wd aB
 refine vk aB (λx eW cL=>?_) ?_
 refine aC (z7 _ eW) ?_
 rintro v12 gj ⟨sX,dD⟩
 have D5:=dD.size
 obtain rfl:=sX
 exact pk dD
 refine eM ?_
 refine vk aB (λx eW cL=>?_) ?_
 refine di rfl ?_
 exact pv
 refine vc (λ_ _ _=>zf xD rfl pv) ?_
 refine vk aB (λx eW cL=>?_) ?_
 have bj:=bj.ext cL
 refine zl eO rfl (bj.at rfl) ?_
 exact pv
 refine eM ?_
 refine vk aB (λx eW cL=>?_) ?_
 refine zi bh bB rfl rfl (by rw[oT];omega) ?_
 exact pv
 refine vk aB (λx eW cL=>?_) ?_
 have Nf:=Nf.ext cL
 refine zl cg rfl (Nf 0 _ rfl) ?_
 exact pv
 refine vk aB (λx eW cL=>?_) ?_
 refine aC (z7 _ eW) ?_
 rintro v12 gj ⟨sX,dD⟩
 have D5:=dD.size
 obtain rfl:=sX
 exact pk dD
 refine eM ?_
 refine vk aB (λx eW cL=>?_) ?_
 refine di rfl ?_
 exact pv
 refine vc (λ_ _ _=>zf zE rfl pv) ?_
 refine vk aB (λx eW cL=>?_) ?_
 have bj:=bj.ext cL
 refine zl cK rfl (bj.at rfl) ?_
 exact pv
 refine eM ?_
 refine vk aB (λx eW cL=>?_) ?_
 refine zi cw aH rfl rfl (by rw[aey];omega) ?_
 exact pv
 refine vk aB (λx eW cL=>?_) ?_
 have Ng:=Ng.ext cL
 refine zL bT aH rfl Ng rfl ?_
 exact pv
 refine vk aB (λx eW cL=>?_) ?_
 have cH:=cH.ext cL
 refine zL bT aH rfl cH.all rfl ?_
 exact pv
 refine vk aB (λx eW cL=>?_) ?_
 have pt:=pt.ext cL;have hS:=hS.ext cL;have Nh:=Nh.ext cL
 have dC:=hS.cZ
 refine sB [.tmp 38,.tmp 46,.tmp 53,.tmp 54] [[str gQ,.slice none 0 0],[str (aF (q.1.map Prod.fst) k),.slice none 0 0],[str (nth (q.1.map λp=>p.2.av) k).az,.slice pa (nth (q.1.map λp=>p.2.av) k).au.length pc],[str (nest (q.1.drop (k+1)) q.2.1).av.az,.slice a7 n7 c7]] cw aH rfl rfl rfl rfl rfl rfl rfl rfl rfl ?_
 intro gj dD B2 amj
 exact pf dD (⟨_,rfl,aeq B2 (λhx=>by have:=dC _ hx;omega) (ly oV) (ly oV) (Nh.ext dD) (pt.ext dD)⟩)
 refine vk aB (λx eW cL=>?_) ?_
 intro jV d17
 obtain⟨bb,r8,Jj⟩:=d17
 refine aC (ael jV _ _ _ r8 eW) ?_
 rintro v12 gj ⟨sX,dD⟩
 have D5:=dD.size
 obtain rfl:=sX
 have Jj:=fG.ext Jj dD
 rw[r8] at Jj
 exact pf dD (⟨_,_,_,rfl,ly Jj⟩)
 exact trivial
 intro x og jm
 intro jV d17
 intro wY d18
 have AM:=AM.ext jm;have cH:=cH.ext jm
 change OW _ _ _ _ _ (aM (aN _ x _) (zZ 38 [_,_,_,_,_,_,_,_,_,_,_,_,_,_,_,_,_,_,_])) _
 obtain⟨a8,n8,c8,vu,Jk⟩:=d18
 subst vu
 have jy:=aen (bs:=q.1) (e:=q.2.1) (k:=k) om
 rw[<-aeo (e:=q.2.1) (show k<q.1.length by omega),<-aep (e:=q.2.1) (show k<q.1.length by omega)] at jy
 rw[<-jy] at Jk
 have Uc:(nest (q.1.drop k) q.2.1).av.az=[]:=by rw[jy];rfl
 refine dk aH rfl rfl rfl cH rfl ?_
 intro lK lr cH dP
 have AM:=AM.trans lr
 have Jk:=Jk.aL lr sm
 refine ag<|db<|zm<|mO rfl rfl rfl rfl rfl (wrap_i64 _ om om)<|zA<|ag ?_
 exact⟨k,⟨rfl,rfl,rfl,rfl,rfl,rfl⟩,⟨AM,om,a8,n8,c8,by rw[Uc];exact cH,by rw[Uc];exact Jk⟩,om⟩
 have h0:gg=0:=by omega
 subst h0
 have AN:=hS
 have AL:=bj
 have Gk:=p4
 refine gF<|gH rfl<|zr<|zm<|zm<|di rfl<|zf xD rfl<|gX (o:=2) nL rfl rfl rfl bj rfl ?_
 intro eW cL bj dP
 have mE:=cL
 have cH:=cH.aO cL (by simpa using λe=>Nd e.symm)
 have pt:=pt.aL cL (by intro x hx;simp at hx;subst hx;simp[AN.mem.2 (.inl rfl)])
 refine ag<|zr<|zm<|zm<|di rfl<|zf zE rfl<|gX (o:=3) E0 rfl rfl rfl bj rfl ?_
 intro gj dD bj dP
 have mE:=mE.trans dD
 have cH:=cH.aO dD (by simpa using λe=>Nd e.symm)
 have pt:=pt.aL dD (by intro x hx;simp at hx;subst hx;simp[AN.mem.2 (.inl rfl)])
 have aez:ak [b] w2 gj:=Gk.trans mE
 have aI:=Ga.aO aez (by simpa using Ji)
 obtain⟨hS,aeA⟩:=Cj.closed AN.drop (Cj.na.aO Gk (λx hx hy=>(wW x (by simp[hx])).2 (by simpa using hy))) (Cj.ex.aO (Fr.of Gk (by intro x hx;simp at hx;subst hx;simp[oo])) Gk (λx hx hy=>(sW x hx).2.1 (by simpa using hy))) ⟨Gk.mono (by intro x hx;simp at hx;subst hx;exact oo),λx hx=>(aev x hx).imp (λh=>by rw[h];exact oo) id⟩ mE
 have vv:bS ((w1.heap.size::E)++G) gj _ (nest (q.1.drop 0) q.2.1).av:=pt.jj (λx hx=>by rcases mA.1 hx with h|h;(·exact mK _ (by rcases mC.1 h with h|h<;>simp[h]));(·rcases Cj.mem.1 h with h|h|h;(·rw[h];simp[AN.mem.2 (.inl rfl)]);(·simp[h]);(·simp[h])))
 refine ag<|zr<|zL bT aH rfl cH.all rfl<|dk aH rfl rfl rfl aI rfl ?_
 intro jC fM aI dP
 have bj:=bj.aO fM (by simpa using λe=>Ji e.symm)
 have hS:=(hS.aL fM sm).drop
 have vv:=vv.aL fM sm
 have xH:=nu.size
 have hFr:Fr G w G jC:=⟨((ak.any nu).trans aeA.aO).since fM (λx hx=>.inr (by simp at hx;omega)),λx hx=>.inl hx⟩
 refine ag<|aV ?_
 exact⟨[_],gR bT aH rfl aI rfl,⟨(by have h9:=bS.jj vv (L':=E++G) (λx hx=>mK _ hx);unfold mY;rw[<-hq];exact h9),by rw[<-hq];exact⟨_,_,_,_,_,bj,hS⟩⟩,hFr⟩
def gV (ai:List aj) (e:Ex) (n:Nat):Nat->Bs×List Ex×Nat
 |0=>([],[],n)
 |k+1=>((gV ai e n k).1++(dW ai (bw ai (fL e k) (gV ai e n k).2.2)).1,(gV ai e n k).2.1++[(dW ai (bw ai (fL e k) (gV ai e n k).2.2)).2.1],(dW ai (bw ai (fL e k) (gV ai e n k).2.2)).2.2)
theorem Ni (ai:List aj) (e:Ex) (n:Nat):∀k,(gV ai e n k).2.1.length=k
 |0=>rfl
 |k+1=>by simp[gV,Ni ai e n k]
theorem Ud (ai:List aj) (e:Ex) (n:Nat):(dW ai (bw ai e n)).1.length<=2*e.n:=by
 have:=Jc ai e n
 unfold dW
 split
 ·omega
 ·simp;omega
theorem Ue (ai:List aj) (e:Ex) (n:Nat):(dW ai (bw ai e n)).2.2<=n+e.n*(2*(ai.length+2)):=by
 have h1:=iQ ai e n
 have h2:=qt ai (bw ai e n)
 omega
theorem Uf (ai:List aj) (e:Ex) (n:Nat):∀k,k<=e.kids.length->(gV ai e n k).1.length<=2*kN e k∧(gV ai e n k).2.2<=n+kN e k*(2*(ai.length+2))
 |0,_=>by simp[gV,kN]
 |k+1,hk=>by
  obtain⟨h1,h2⟩:=Uf ai e n k om
  have h3:=Ud ai (fL e k) (gV ai e n k).2.2
  have h4:=Ue ai (fL e k) (gV ai e n k).2.2
  rw[yn om,Nat.add_mul]
  simp only[gV,lA]
  constructor<;>omega
theorem aeC (ai:List aj) (e:Ex) (n:Nat) {aX:List aj} {exprs:List aA} (hB:yw ai e n aX exprs) (hk:k<e.kids.length):yw ai (fL e k) (gV ai e n k).2.2 (aX++(gV ai e n k).1.map Prod.fst) (exprs++(gV ai e n k).1.map λp=>p.2.av):=by
 obtain⟨h1,h2,h3,h4⟩:=hB
 obtain⟨h5,h6⟩:=Uf ai e n k om
 have h7:=yn hk
 have h8:=B1 e (k+1)
 have h9:=Nat.mul_le_mul_right (2*(ai.length+2)) h8
 rw[h7,Nat.add_mul] at h9
 refine⟨by omega,?_,?_,h4⟩
 ·simp only[lA,List.length_map];omega
 ·simp only[lA,List.length_map];omega
theorem aeD (ai:List aj) (n:Nat) (ha:e.jk=false) (h1:e.head≠gQ) (h2:e.head≠il) (h3:e.head≠cC):
  (bw ai e n).1=(gV ai e n e.kids.length).1∧(bw ai e n).2.1.av= .mk [] ([cj e.head]++(gV ai e n e.kids.length).2.1.map Ex.av)∧(bw ai e n).2.2=(gV ai e n e.kids.length).2.2:=by
 cases e with
 |«at» s=>cases ha
 |lt x a b=>exact absurd rfl h1
 |fn f x A B b=>exact absurd rfl h2
 |ite a b c=>exact absurd rfl h3
 |un h a=>exact⟨rfl,rfl,rfl⟩
 |bi h a b=>exact⟨rfl,rfl,rfl⟩
theorem aeE (ha:e.jk=false) (h1:e.head≠gQ) (h2:e.head≠il):e.av.au=mf [cj e.head] [] e:=by
 rw[TM ha (not_lt h1) h2]
 simp[mf]
theorem Ug (ha:e.jk=false) (h1:e.head≠gQ) (h2:e.head≠il):e.from=1:=by
 cases e with
 |«at» s=>cases ha
 |lt x a b=>exact absurd rfl h1
 |fn f x A B b=>exact absurd rfl h2
 |_=>rfl
theorem yw.sub {ai:List aj} {e':Ex} {n':Nat} {aX names':List aj} {exprs exprs':List aA} (h:yw ai e n aX exprs) (m:Nat) (h1:m+e'.n<=e.n) (h2:n'<=n+m*(2*(ai.length+2))) (h3:names'.length<=aX.length+4*m) (h4:exprs'.length<=exprs.length+4*m):yw ai e' n' names' exprs':=by
 obtain⟨a1,a2,a3,a4⟩:=h
 have h9:=Nat.mul_le_mul_right (2*(ai.length+2)) h1
 rw[Nat.add_mul] at h9
 exact⟨by omega,om,om,a4⟩
theorem M5.nd {τ:x5} {ai aX:List aj} {exprs:List aA} (h:M5 τ E G w b ai n aX exprs):(E++G).Nodup:=by
 obtain⟨_,_,_,_,_,_,h2⟩:=h;exact h2.nd
theorem M5.more {τ:x5} {ai aX:List aj} {exprs:List aA} (h:M5 τ E G w b ai n aX exprs) (k:ak [] w w') (h1:w.heap.size<=x) (h2:x<w'.heap.size):M5 τ (x::E) G w' b ai n aX exprs:=by
 obtain⟨vt,vn,vex,gn,ge,hb,h⟩:=h
 have hF:∀y,y∈(x::E)++G->y∈E++G∨w.heap.size<=y:=λy hy=>by
  rcases mC.1 (show y∈x::(E++G) from hy) with h3|h3
  ·right;omega
  ·exact .inl h3
 refine⟨vt,vn,vex,gn,ge,hb.ext k,(h.ta.fresh hF).ext k,h.na.ext k,(h.ex.sub hF).any k,h.eG,?_,λy hy=>?_⟩
 ·show(x::(E++G)).Nodup
  rw[List.nodup_cons]
  exact⟨λhx=>by have:=h.cZ _ hx;omega,h.nd⟩
 ·rcases mC.1 (show y∈x::(E++G) from hy) with h3|h3
  ·omega
  ·have:=h.cZ y h3;have:=k.size;omega
structure kz (E G:List Nat) (w0 w:World) (G0:List Nat) (b:Nat) (ai:List aj) (n:Nat) (aX:List aj) (exprs:List aA) (gb b4:Nat) (vP:Value) (ts:List aA):Prop where
 m:M5 t5 (gb::b4::E) G w b ai n aX exprs
 own:ey ((gb::b4::E)++G) w 66 2 vP (some gb) (dG ts)
 bx:aY w b4 [str [],.slice none 0 0].toArray 66
 fr:Fr G0 w0 G w
 low:w0.heap.size<=gb∧w0.heap.size<=b4
section
variable {E G G0 G':List Nat} {w0 w w':World} {b:Nat} {ai:List aj} {n n':Nat} {aX names':List aj} {exprs exprs':List aA} {gb b4:Nat} {vP:Value} {ts ts':List aA}
theorem kz.ext (h:kz E G w0 w G0 b ai n aX exprs gb b4 vP ts) (k:ak [] w w'):kz E G w0 w' G0 b ai n aX exprs gb b4 vP ts:=⟨h.m.ext k,h.own.ext k,h.bx.ext k,h.fr.ext k,h.low⟩
theorem kz.call (h:kz E G w0 w G0 b ai n aX exprs gb b4 vP ts) (hm:M5 t5 (gb::b4::E) G' w' b ai n' names' exprs') (k:Fr G w G' w'):kz E G' w0 w' G0 b ai n' names' exprs' gb b4 vP ts:=
 ⟨hm,h.own.aO (k.in _) k.aO (λx hx=>by simp at hx;subst hx;exact h.m.nE sm),h.bx.aO k.aO (h.m.nE sm),h.fr.go k,h.low⟩
theorem kz.ne (h:kz E G w0 w G0 b ai n aX exprs gb b4 vP ts):gb∉b4::(E++G)∧b4∉E++G:=by
 have h1:(gb::b4::(E++G)).Nodup:=h.m.nd
 rw[List.nodup_cons,List.nodup_cons] at h1
 exact⟨h1.1,h1.2.1⟩
theorem kz.store (h:kz E G w0 w G0 b ai n aX exprs gb b4 vP ts) (k:ak [gb] w w') (ho:ey ((gb::b4::E)++G) w' 66 2 vP (some gb) (dG ts')):kz E G w0 w' G0 b ai n aX exprs gb b4 vP ts':=
 ⟨h.m.aL k sm,ho,h.bx.aO k (by simp;intro e;exact h.ne.1 (by simp[e])),⟨h.fr.aO.since k (by intro x hx;simp at hx;subst hx;exact .inr h.low.1),h.fr.mem⟩,h.low⟩
theorem kz.cZ (h:kz E G w0 w G0 b ai n aX exprs gb b4 vP ts):fy ((gb::b4::E)++G) w:=h.m.bG.2.2
theorem kz.jA (h:kz E G w0 w G0 b ai n aX exprs gb b4 vP ts):∀x,x∈[gb]->x∈(gb::b4::E)++G:=by simp
theorem kz.fin (h:kz E G w0 w G0 b ai n aX exprs gb b4 vP ts) (k:ak [b4] w w'):bS (E++G) w' (.agg #[str [],vP]) (.mk [] ts)∧M5 t5 E G w' b ai n aX exprs∧Fr G0 w0 G w':=by
 have h1:cD (b4::(E++G)) w vP (.sl 2 (dG ts)):=h.own.rep (λx hx=>.inl (by simpa using hx)) (by simpa using h.ne.1)
 have h2:bS (b4::(E++G)) w (.agg #[str [],vP]) (.mk [] ts):=ly h1
 exact⟨(h2.aL k sm).jj (λx hx=>mK _ hx),(h.m.drop.aL k sm).drop,⟨h.fr.aO.since k (by intro x hx;simp at hx;subst hx;exact .inr h.low.2),h.fr.mem⟩⟩
end
theorem aeF:∀(m:Nat) (e:Ex),e.n<=m->e.ok->M1 e:=by
 intro m
 induction m with
 |zero=>intro e h;have:=e.pos;omega
 |succ m ih=>
  intro e hm bF ai n aX exprs hB E F b v w hM dI
  have hv:=dI
  obtain⟨a,np,c,rfl,hn,I3⟩:=dN hv
  subst hn
  have Je:=iQ ai e n
  have IU:=F1 e
  have hK:=ak.refl [] w
  have aw:=hM
  have hT:=dI
  have hMl:=hM.bG
  obtain⟨IB,M4,M6,Jd⟩:=id hB
  refine lz [.cell 4 66] 114 Tryz.func178 rfl YM rfl rfl rfl ?_
  refine zr<|fA rfl ?_
  intro w1 aJ bO dV
  have hK:=hK.ext aJ;have aw:=aw.ext aJ;have hT:=hT.ext aJ
  refine eC aH rfl rfl rfl ?_
  intro w2 aq aI eK
  have hK:=hK.grow;have hK:=hK.ext aq;have aw:=aw.alloc aq eK;have hT:=hT.grow;have hT:=hT.ext aq;have bO:=bO.grow;have bO:=bO.ext aq
  refine ag<|aQ<|zr<|zf dB rfl<|zl cg rfl (bO.at rfl)<|jF rfl rfl rfl rfl<|ag<|zc rfl (λh1=>?_) (λh1=>?_)
  have aR:∃x,e= .at x:=(by have ha:=(vh bF).1 h1;cases e<;>first|exact⟨_,rfl⟩|cases ha)
  obtain⟨x,rfl⟩:=aR
  refine zr<|zL bT aH rfl bO.all rfl<|dk aH rfl rfl rfl aI rfl ?_
  intro w3 aK aI iK
  have hK:=hK.aL aK sx;have aw:=aw.aL aK sx;have hT:=hT.aL aK sx
  refine ag<|aV ?_
  exact⟨[_],gR bT aH rfl aI rfl,by show Jb ai E F b aX exprs w ([],.at x,n) _ _;exact⟨F,⟨hT.jj (λy hy=>mK _ hy),by simpa using aw.drop⟩,Fr.of hK sm⟩⟩
  have fx:e.jk=false:=(by cases hh:e.jk;rfl;exact absurd ((vh bF).2 hh) h1)
  obtain⟨F2,oX,jG,wK⟩:=Ex.au fx
  obtain⟨jS,DQ,DR⟩:=F0 bF fx
  have nu:=hK
  have mi:=aw
  have Gj:=hT
  have Nj:=bO
  have Ga:=aI
  have adR:=dV
  have adS:=eK
  have AO:fG (w1.heap.size::(E++F)) w2 (.slice a e.av.au.length c) e.av.au:=(by obtain⟨a9,n9,c9,e9,AP,AO⟩:=dN Gj;cases e9;exact AO)
  have Nk:=mi.bG.2.2
  refine bA<|zr<|zf cM rfl<|zl cK rfl (bO.at rfl)<|zA<|ag<|zr<|zU w2.heap.size (w1.heap.size::(E++F)) cw aH rfl rfl (lR _) (λx hx=>Nk x hx) ?_
  intro w3 aK I4 wM
  have kf:=aK
  have bO:=bO.ext aK;have aI:=aI.ext aK
  refine zm<|xQ cw aH rfl rfl rfl rfl rfl rfl wM (fG.ext (fG.grow AO) aK) (TR _) (by rw[iJ];simp;omega) ?_
  intro a4 je g4 w4 kW aD
  have kf:=wM.since kf aD
  have hK:=nu.trans kf
  have bO:=Nj.ext kf
  have aI:=Ga.ext kf
  have gK:=kf.size
  rw[show([]:List (List C)).length+(dG e.av.au).length=e.av.au.length from by rw[iJ];simp] at kW⊢
  rw[List.nil_append] at kW
  obtain⟨gb,e4,e5⟩:=kW.form (by rw[iJ];exact jS)
  subst e4
  subst e5
  have gJ:gb<w4.heap.size:=kW.lt gb sm
  have DW:w2.heap.size<=gb:=kW.low gb rfl
  have hS:ey (gb::(w1.heap.size::(E++F))) w4 66 2 (.slice (some ⟨gb,0,none⟩) e.av.au.length je) (some gb) (dG e.av.au):=(let⟨xs,hr⟩:=kW.own;⟨⟨xs,hr.own,hr.rep⟩,hr.row⟩)
  have aw:M5 t5 (gb::w1.heap.size::E) F w4 b ai n aX exprs:=mi.more kf DW gJ
  refine j6 (KD _ _ _ _) rfl rfl<|eC aH rfl rfl rfl ?_
  intro w5 aT bR jo
  have hK:=hK.grow;have hK:=hK.ext aT;have aI:=aI.grow;have aI:=aI.ext aT;have hS:=hS.grow;have hS:=hS.ext aT;have kf:=kf.grow;have kf:=kf.ext aT
  refine dk aH rfl rfl rfl bR rfl ?_
  intro w6 bD bR lB
  have hK:=hK.aL bD sx;have aI:=aI.aL bD sx;have hS:=hS.aL bD sx;have kf:=kf.aL bD sx
  refine ag<|aQ<|zr<|zm ?_
  have jw:=hK.size
  have kf:ak [] w2 w6:=kf
  have aw:M5 t5 (gb::w1.heap.size::E) F w6 b ai n aX exprs:=mi.more kf DW (by have:=bR.lt;omega)
  have hS:ey ((gb::w1.heap.size::E)++F) w6 66 2 _ _ _:=ey.sub hS (λx hx=>.inl (mK _ hx))
  have TT:=aw.bG.2.2
  have DX:Fr (w1.heap.size::(E++F)) w2 ((gb::w1.heap.size::E)++F) w6:=⟨kf.any,λx hx=>by rcases mC.1 (show x∈gb::(w1.heap.size::(E++F)) from hx) with h|h;(·right;omega);(·exact .inl h)⟩
  have bc:=fG.go AO DX
  have gC:∀q,w.heap.size<=q->q≠gb->q≠w1.heap.size->q∉((gb::w1.heap.size::E)++F):=(by intro q h1 h2 h3 hx;rcases mC.1 (show q∈gb::(w1.heap.size::(E++F)) from hx) with h|h;(·exact h2 h);(·rcases mC.1 h with h|h;(·exact h3 h);(·have:=hMl.2.2 q h;omega)))
  have bR:fh ((gb::w1.heap.size::E)++F) w6 w4.heap.size _ _:=⟨bR,gC _ om om om⟩
  have bg:kz E F w w6 F b ai n aX exprs gb w1.heap.size (.slice (some ⟨gb,0,none⟩) e.av.au.length je) e.av.au:=⟨aw,hS,aI,⟨hK.any,λx hx=>.inl hx⟩,om,om⟩
  obtain⟨b0,AF,xM,xN,e0,pZ,kx⟩:=fI bc jS
  cases e0
  refine zi (i:=0) cw aH rfl rfl jS<|zf dB rfl<|zl cg rfl (pZ.cells 0 _ rfl)<|ag<|cP<|zr<|cW rfl rfl<|zA<|ag<|zc rfl (λh2=>?_) (λh2=>?_)
  obtain⟨nx,ea,eb,rfl⟩:=I1 bF (jG.symm.trans h2)
  have wN:(Ex.lt nx ea eb).n=2+ea.n+eb.n:=rfl
  have Jl:bw ai (.lt nx ea eb) n=((bw ai ea n).1++(nx,(bw ai ea n).2.1)::(bw ai eb (bw ai ea n).2.2).1,(bw ai eb (bw ai ea n).2.2).2.1,(bw ai eb (bw ai ea n).2.2).2.2):=rfl
  have Jm:=iQ ai ea n
  have o6:=Jc ai ea n
  have hBa:yw ai ea n aX exprs:=hB.sub 0 om om om om
  have aR:∃q,q=bw ai ea n:=⟨_,rfl⟩
  obtain⟨q,hq⟩:=aR
  rw[<-hq] at Jl Jm o6
  have I5:(Ex.lt nx ea eb).av.au.length=4:=rfl
  have bc:fG ((w1.heap.size::E)++F) w6 _ _:=bc.jj (λx hx=>mK _ hx)
  have aw:=bg.m.drop
  have aI:=bg.bx
  have hR:=bg.fr
  obtain⟨b1,ga,gY,gZ,e1,bC,dd⟩:=fI bc (i:=1) om
  cases e1
  obtain⟨b2,nk,jc,jd,e2,bX,eA⟩:=fI bc (i:=2) om
  cases e2
  have eA:bS ((w1.heap.size::E)++F) w6 _ ea.av:=eA
  obtain⟨b3,B6,pU,pV,e3,ew,eY⟩:=fI bc (i:=3) om
  cases e3
  have eY:bS ((w1.heap.size::E)++F) w6 _ eb.av:=eY
  refine zr<|zm<|zm<|zi (i:=2) cw aH rfl rfl ((show 2<4 from om))<|zL bT aH rfl bX.cells rfl<|aC (ih ea om bF.2.1 ai n aX exprs hBa (w1.heap.size::E) F b _ w6 aw eA) ?_
  rintro v29 w7 ⟨G1,⟨dS,qD⟩,df⟩
  rw[<-hq] at dS qD
  obtain⟨a9,n9,c9,e9,_,_⟩:=dN dS
  subst e9
  have j4:=hR.go df
  have gm:=ak.refl [] w7
  have bC:=bC.go (df.in _);have ew:=ew.go (df.in _)
  have eY:=bS.go eY (df.in _)
  have aI:=aI.aO df.aO (aw.nE sm)
  have aw:=qD
  have Uh:=aw.bG.2.2
  have aR:∃x,x=aX++q.1.map Prod.fst:=⟨_,rfl⟩
  obtain⟨N1,Cf⟩:=aR
  have aR:∃x,x=exprs++q.1.map λp=>p.2.av:=⟨_,rfl⟩
  obtain⟨X1,Cg⟩:=aR
  rw[<-Cf,<-Cg] at aw
  have T7:N1.length=aX.length+q.1.length:=by rw[Cf];simp
  have hXl:X1.length=exprs.length+q.1.length:=by rw[Cg];simp
  have aeI:=aI
  have aeJ:=bC
  have aeK:=ew
  have aeL:=eY
  have aeM:=dS
  have aeN:=aw
  refine eC aH rfl rfl rfl ?_
  intro w8 cu cH mu
  have gm:=gm.grow;have gm:=gm.ext cu
  refine dk aH rfl rfl rfl cH rfl ?_
  intro w9 aG cH dP
  have gm:=gm.aL aG sx
  refine ag<|aQ ?_
  have Gl:=j4.aO.size
  have gm:ak [] w7 w9:=gm
  have hR:=j4.ext gm
  have aI:=aeI.ext gm
  have bC:=aeJ.ext gm
  have ew:=aeK.ext gm
  have eY:=aeL.ext gm
  have dS:=aeM.ext gm
  have aw:=aeN.ext gm
  obtain⟨vt,vn,vex,gn,ge,bj,hS⟩:=aw.open
  have bj:aY w9 b [vt,.int .i64 (q.2.2:Int),vn,vex].toArray 151:=bj
  obtain⟨Jg,wV,wW,sW⟩:=hS.apart
  have Ch:fy ((w1.heap.size::E)++G1) w9:=hS.cZ
  have oo:b∈G1:=hS.mem.2 (.inl rfl)
  have qg:=cH.lt
  have cH:fh ((w1.heap.size::E)++G1) w9 _ _ _:=⟨cH,λhx=>by have:=Uh _ hx;omega⟩
  apply kc eu (((w1.heap.size::E)++G1)) 13 (rA 30 13) (rA 30 13) [[],[],[1],[2],[3],[],[5],[6],[7],[8],[4,9],[0],[11]] [Ie.v _,Ie.v _,Ie.v _,Ie.v _,Ie.w 0 vn,Ie.v _,Ie.v _,Ie.v _,Ie.v _,Ie.p (fun(G:List Nat) (v:Value) (ww:World)=>∃bb,v= .slice (some ⟨bb,0,none⟩) 1 1∧aY ww bb [str nx].toArray 9∧bb∉G),Ie.e 1,Ie.v _,Ie.v _] [4,10] [fun(G:List Nat) (vs:List Value) (ww:World)=>G=(w1.heap.size::E)++G1∧ak [] w9 ww,fun(G:List Nat) (vs:List Value) (ww:World)=>G=(w1.heap.size::E)++G1∧ak [] w9 ww,fun(G:List Nat) (vs:List Value) (ww:World)=>∃G2 g2,G=(w1.heap.size::E)++G2∧ak gn.toList w9 ww∧jb t5 (w1.heap.size::E) G2 ww b vt (vs.getD 1 undef) vex g2 ge ai (N1++[nx]) X1∧Fr G1 w9 G2 ww] de rfl Ch (by exact⟨λG v w G' w' ⟨bb,e,h,ho⟩ k=>⟨bb,e,(fh.go ⟨h,ho⟩ k).ju,(fh.go ⟨h,ho⟩ k).out⟩,trivial⟩) (by exact⟨λG vs w w' ⟨h1,h2⟩ k=>⟨h1,h2.ext k⟩,λG vs w w' ⟨h1,h2⟩ k=>⟨h1,h2.ext k⟩,λG vs w w' ⟨G2,g2,h1,h2,h3,h4⟩ k=>⟨G2,g2,h1,h2.ext k,h3.ext k,h4.ext k⟩,trivial⟩) (⟨rfl,ak.refl _ _⟩)
  refine cR ?_
  refine cR ?_
  refine vf (λ_ _ _ _ _ _=>di rfl fv) ?_
  refine vf (λ_ _ _ _ _ _=>zf xD rfl fv) ?_
  refine ve 0 (λx cN mD aW oQ mh hJ hlen=>?_) ?_
  have bo:=jO hlen
  subst bo
  obtain⟨cz,cB⟩:=hJ
  have tU:=bj.ext cB
  refine zl eO rfl (tU.at rfl) ?_
  exact fw mD (Fr.refl _ _) mh (⟨cz,cB⟩)
  refine cR ?_
  refine vf (λ_ _ _ _ _ _=>zi (i:=1) cw aH rfl rfl ((show 1<4 from om)) fv) ?_
  refine vf (λ_ _ _ _ _ _=>zf dB rfl fv) ?_
  refine vf (λx cN mD aW oQ mh=>?_) ?_
  have bC:=bC.go oQ
  refine zl cg rfl (bC.cells 0 _ rfl) ?_
  exact fv
  refine vf (λx cN mD aW oQ mh=>?_) ?_
  refine gA bh bB rfl rfl ?_
  intro eW cL ym uF
  exact ff cL (⟨_,rfl,(ym.o mh).ju,(ym.o mh).out⟩)
  refine ve 1 (λx cN mD aW oQ mh hJ hlen=>?_) ?_
  obtain⟨q0,bo⟩:=jP hlen
  subst bo
  intro v9 d9
  obtain⟨bb,e6,gx,_⟩:=d9
  subst e6
  obtain⟨cz,cB⟩:=hJ
  subst cz
  have Jn:=hS.ext cB
  refine r6 bh bB rfl rfl rfl rfl rfl rfl Jn.na gx om ?_
  intro v9 g9 eW dK aG fN
  obtain⟨G2,gk,jU⟩:=Jn.Sa dK aG fN
  exact fe _ (jU.in _) gk.cZ (⟨G2,g9,rfl,cB.any.trans aG,gk,(Fr.of cB sm).go jU⟩)
  refine vf (λ_ _ _ _ _ _=>di rfl fv) ?_
  refine vf (λ_ _ _ _ _ _=>zf xD rfl fv) ?_
  exact trivial
  intro x pj B7 aW rm Gb hJ hlen
  obtain⟨q0,q1,bo⟩:=lH hlen
  subst bo
  intro v9 d9
  have cH:=cH.go rm;have ew:=ew.go rm;have eY:=eY.go rm;have dS:=dS.go rm
  change OW _ _ _ _ _ (aM (aN _ x _) (zZ 30 [_,_,_,_,_,_,_,_,_,_,_,_,_])) _
  obtain⟨G2,g9,cz,AH,gk,jU⟩:=hJ
  subst cz
  obtain⟨pq,pr,Gh⟩:=kr gk.na
  have e8:q1=_:=Gh
  subst e8
  have bj:=bj.aO AH (λh=>(wW b h).2 rfl)
  have aI:=aI.aO AH (λh=>(wW _ h).1 sm)
  have wX:b∈G2:=gk.mem.2 (.inl rfl)
  have hR:=hR.go jU
  refine gX (o:=2) nL rfl rfl rfl bj rfl ?_
  intro og jm bj dP
  have hS:=gk.aO jm sm
  have aI:=aI.aO jm (by simp;intro e;subst e;exact wV sm)
  have hR:=hR.aL jm (by simpa using wX);have cH:=cH.aL jm (by intro x hx;simp at hx;subst hx;simp[wX]);have ew:=ew.aL jm (by intro x hx;simp at hx;subst hx;simp[wX]);have dS:=dS.aL jm (by intro x hx;simp at hx;subst hx;simp[wX]);have eY:=eY.aL jm (by intro x hx;simp at hx;subst hx;simp[wX])
  refine ag<|aQ ?_
  obtain⟨ae,ce,e5⟩:=hS.ex.len
  subst e5
  have bj:aY og b [vt,(.int .i64 (q.2.2:Int)),(.slice pq (N1++[nx]).length pr),(.slice ae (dG X1).length ce)].toArray 151:=bj
  have Ch:fy ((w1.heap.size::E)++G2) og:=hS.cZ
  have eT:b∈G2:=wX
  obtain⟨Jg,wV,wW,sW⟩:=hS.apart
  have iO:=bj.lt
  apply Sq eu (((w1.heap.size::E)++G2)) 13 (rA 43 9++[100009,52,53,100012]) (rA 43 9++[100009,52,53,100012]) [[],[0],[1],[2],[],[3],[],[3,6],[5,7],[4,8],[0],[10],[7,11]] [Iu.v _,Iu.v _,Iu.v _,Iu.w 0 ((.slice ae (dG X1).length ce)),Iu.v _,Iu.v _,Iu.p (fun(G:List Nat) (v:Value) (ww:World)=>∃bb,v= .slice (some ⟨bb,0,none⟩) 1 1∧fh G ww bb [str [],.slice none 0 0].toArray 66),Iu.e 1,Iu.d (fun(vs:List Value)=>T3 (vs.getD 1 undef) ((dG X1).length*2)),Iu.u,Iu.v _,Iu.v _,Iu.u] [3,7] [fun(G:List Nat) (vs:List Value) (ww:World)=>G=((w1.heap.size::E)++G2)∧aY ww b [vt,(.int .i64 (q.2.2:Int)),(.slice pq (N1++[nx]).length pr),(.slice ae (dG X1).length ce)].toArray 151∧ak [] og ww,fun(G:List Nat) (vs:List Value) (ww:World)=>G=((w1.heap.size::E)++G2)∧aY ww b [vt,(.int .i64 (q.2.2:Int)),(.slice pq (N1++[nx]).length pr),(.slice ae (dG X1).length ce)].toArray 151∧ak [] og ww,fun(G:List Nat) (vs:List Value) (ww:World)=>J5 t5 (w1.heap.size::E) G2 og b vt (.int .i64 (q.2.2:Int)) (.slice pq (N1++[nx]).length pr) (.slice ae (dG X1).length ce) ge X1 q.2.1.av false false G (vs.getD 1 undef) ww] (fun(S:Nat->Bool) (G:List Nat) (vs:List Value) (ww:World)=>J5 t5 (w1.heap.size::E) G2 og b vt (.int .i64 (q.2.2:Int)) (.slice pq (N1++[nx]).length pr) (.slice ae (dG X1).length ce) ge X1 q.2.1.av (S 9) (S 12) G (vs.getD 1 undef) ww) de rfl Ch (by exact⟨λG v w G' w' ⟨bb,e,h⟩ k=>⟨bb,e,h.go k⟩,trivial⟩) (by exact⟨λG vs w w' ⟨h1,h2,h3⟩ k=>⟨h1,h2.ext k,h3.ext k⟩,λG vs w w' ⟨h1,h2,h3⟩ k=>⟨h1,h2.ext k,h3.ext k⟩,λG vs w w' h k=>h.ext k,trivial⟩) (by exact λS G vs w w' h k=>h.ext k) (⟨rfl,bj,ak.refl _ _⟩) (by exact λ_ _ _ h _=>h)
  refine uf (λx lK p5 aW sd qE=>?_) ?_
  refine zm ?_
  exact uv
  refine uf (λx lK p5 aW sd qE=>?_) ?_
  refine di rfl ?_
  exact uv
  refine uf (λx lK p5 aW sd qE=>?_) ?_
  refine zf zE rfl ?_
  exact uv
  refine ue 0 (λx lK p5 aW sd qE hJ hlen=>?_) ?_
  have bo:=jO hlen
  subst bo
  obtain⟨cz,bj,cB⟩:=hJ
  refine zl cK rfl (bj.at rfl) ?_
  exact uW p5 (Fr.refl _ _) qE (⟨cz,bj,cB⟩)
  refine uf (λx lK p5 aW sd qE=>?_) ?_
  have cH:=cH.go sd
  refine zL bT aH rfl cH.all rfl ?_
  exact uv
  refine uf (λx lK p5 aW sd qE=>?_) ?_
  refine eh cw rfl ?_
  exact uv
  refine uf (λx lK p5 aW sd qE=>?_) ?_
  refine gA cw aH rfl rfl ?_
  intro AQ oR aeO aeP
  exact up oR (⟨_,rfl,aeO.o qE⟩)
  refine ue 1 (λx lK p5 aW sd qE hJ hlen=>?_) ?_
  obtain⟨q0,bo⟩:=jP hlen
  subst bo
  intro v6 d6
  obtain⟨bb,e6,gx⟩:=d6
  subst e6
  obtain⟨cz,bj,cB⟩:=hJ
  subst cz
  refine T4 cw aH rfl rfl rfl rfl rfl rfl (hS.ext cB).ex ‹_› (λx hx=>mR _ (hS.mem.2 (by simp[hx]))) gx.ju om ?_
  intro v9 g9 AQ dK aG fN df fi
  exact uE _ df fi (⟨bj.aO aG (λh=>(sW b h).2.1 rfl),fi,cB.any.trans (aG.mono (λx hx=>mK _ hx)),g9,rfl,dK,fN.imp id (λh=>⟨_,h,cB.size⟩)⟩)
  refine ud (λx lK p5 aW S sd qE hJ hlen=>?_) ?_
  obtain⟨q0,q1,bo⟩:=lH hlen
  subst bo
  obtain⟨bb,cap,e1,r7,rO,kv,hO,va⟩:=J5.form hJ
  have e2:q1=_:=e1
  subst e2
  refine zi cw aH rfl rfl (by rw[iJ];omega) ?_
  exact uD (ak.refl _ _) rfl
  refine uu (λx lK p5 aW S sd qE hJ Ci hlen=>?_) ?_
  obtain⟨q0,q1,bo⟩:=lH hlen
  subst bo
  have dS:=dS.go sd
  have hJ:J5 t5 (w1.heap.size::E) G2 og b vt (.int .i64 (q.2.2:Int)) (.slice pq (N1++[nx]).length pr) (.slice ae (dG X1).length ce) ge X1 q.2.1.av (S 9) (S 12) p5 q1 lK:=hJ
  rw[Ci] at hJ
  obtain⟨bb,cap,e1,r7,rO,kv,hO,va⟩:=J5.form hJ
  subst e1
  refine sQ (i:=(dG X1).length) (vs:=[str q.2.1.av.az,.slice a9 n9 c9]) (row:=q.2.1.av.enc) aH rfl rfl rfl rfl (Nat.zero_add _) hO ‹_› r7 (by rw[iJ,iJ];simp) rfl (oU _) dS.kO ?_
  intro AQ oR rY dY
  rw[sS,iJ] at dY
  exact uU p5 (Fr.of oR (by simpa using r7)) ((λx hx=>lL (qE x hx) (ak.size oR))) (J5.fill hJ kv (by rintro rfl;rcases rO with h|h;(·exact(sW _ h).2.1 rfl);(·omega)) rO va oR (by have e3:(X1++[if false=true then q.2.1.av else aA.mk [] []]).set X1.length q.2.1.av=X1++[q.2.1.av]:=sm;rw[e3] at dY;exact dY))
  refine uf (λx lK p5 aW sd qE=>?_) ?_
  refine di rfl ?_
  exact uv
  refine uf (λx lK p5 aW sd qE=>?_) ?_
  refine zf zE rfl ?_
  exact uv
  refine uu (λx lK p5 aW S sd qE hJ Ci hlen=>?_) ?_
  obtain⟨q0,q1,bo⟩:=lH hlen
  subst bo
  have hJ:J5 t5 (w1.heap.size::E) G2 og b vt (.int .i64 (q.2.2:Int)) (.slice pq (N1++[nx]).length pr) (.slice ae (dG X1).length ce) ge X1 q.2.1.av (S 9) (S 12) p5 q1 lK:=hJ
  rw[Ci] at hJ
  obtain⟨bb,cap,e1,r7,rO,Gi,hO,va⟩:=J5.form hJ
  subst e1
  have Na:=hJ.box
  refine gX (o:=3) E0 rfl rfl rfl Na rfl ?_
  intro AQ oR AL rY
  exact uU p5 (Fr.of oR (by rw[Gi];simp[eT])) ((λx hx=>lL (qE x hx) (ak.size oR))) (J5.field hJ oR AL (λg9 _ fN hx=>by rcases fN with h|⟨y,h,hy⟩;(·rw[h] at hx;exact(sW _ hx).2.1 rfl);(·rw[h] at hx;simp at hx;omega)) (by rw[Gi];simp[eT]))
  exact trivial
  intro x j3 kX aW iC lf hJ hlen
  obtain⟨q0,q1,bo⟩:=lH hlen
  subst bo
  intro v6 d6
  intro v9
  intro v12
  have ew:=ew.go iC;have eY:=eY.go iC
  change OW _ _ _ _ [] (aM (aN _ x _) (zZ 43 [_,_,_,_,_,_,_,_,_]++[(100009,_),(52,_),(53,_),(100012,_)])) _
  have hJ:J5 t5 (w1.heap.size::E) G2 og b vt (.int .i64 (q.2.2:Int)) (.slice pq (N1++[nx]).length pr) (.slice ae (dG X1).length ce) ge X1 q.2.1.av true true kX q1 j3:=hJ
  obtain⟨g9,kv,dK,fN⟩:=hJ.ex
  subst kv
  obtain⟨G3,yx,fX,Ua⟩:=hS.AJ dK hJ.aO fN
  have aI:=aI.aO hJ.aO (by intro hx;rcases mC.1 hx with h|h;(·exact wV (by simp[h]));(·exact(sW _ h).1 sm))
  have hR:=hR.go fX
  have bj:=hJ.box
  have Ui:∀x,x∈(w1.heap.size::E)++G3->x∈ge.toList++(g9.toList++((w1.heap.size::E)++G2)):=(λx hx=>by rcases mA.1 hx with h|h;(·exact mR _ (mR _ (List.mem_append_left _ h)));(·exact Ua x h))
  have eY:=eY.jj Ui
  have ew:ja ((w1.heap.size::E)++G3) j3 _ _ _:=⟨ew.cells,ew.lt,λhx=>ew.out (Ui _ hx)⟩
  have aw:M5 t5 (w1.heap.size::E) G3 j3 b ai q.2.2 (N1++[nx]) (X1++[q.2.1.av]):=⟨_,_,_,_,_,bj,yx⟩
  refine ag<|zr<|zm<|zm<|zi (i:=3) cw aH rfl rfl ((show 3<4 from om))<|zL bT aH rfl ew.cells rfl<|aC (ih eb om bF.2.2 ai q.2.2 (N1++[nx]) (X1++[q.2.1.av]) (hB.sub ea.n om om so so) (w1.heap.size::E) G3 b _ j3 aw eY) ?_
  rintro Jo oh ⟨G4,⟨nB,qD⟩,df⟩
  obtain⟨a5,n5,c5,e5,_,_⟩:=dN nB
  subst e5
  have hR:=hR.go df
  have aI:=aI.aO df.aO (aw.nE sm)
  have aw:=qD
  refine dk aH rfl rfl rfl aI rfl ?_
  intro Cd vm aI dP
  have aw:=aw.aL vm sm;have nB:=nB.aL vm sm
  have hR:Fr F w G4 Cd:=⟨hR.aO.since vm (λx hx=>.inr (by simp at hx;omega)),hR.mem⟩
  refine ag<|aV ?_
  exact⟨[_],gR bT aH rfl aI rfl,by rw[Jl];exact⟨G4,⟨nB.jj (λx hx=>mK _ hx),(by have e1:aX++(q.1++(nx,q.2.1)::(bw ai eb q.2.2).1).map Prod.fst=(N1++[nx])++(bw ai eb q.2.2).1.map Prod.fst:=(by rw[Cf];simp);have e2:exprs++(q.1++(nx,q.2.1)::(bw ai eb q.2.2).1).map (λp=>p.2.av)=(X1++[q.2.1.av])++(bw ai eb q.2.2).1.map (λp=>p.2.av):=(by rw[Cg];simp);show M5 t5 E G4 _ b ai _ (aX++(q.1++(nx,q.2.1)::(bw ai eb q.2.2).1).map Prod.fst) (exprs++(q.1++(nx,q.2.1)::(bw ai eb q.2.2).1).map (λp=>p.2.av));rw[e1,e2];exact aw.drop)⟩,hR⟩⟩
  have oT:e.head≠gQ:=λhh=>h2 (jG.trans hh)
  refine zr<|cW rfl rfl<|zA<|ag<|zc rfl (λh3=>?_) (λh3=>?_)
  obtain⟨nf,nx,tA,tB,eb,rfl⟩:=I2 bF (jG.symm.trans h3)
  have wN:(Ex.fn nf nx tA tB eb).n=3+tA.n+tB.n+eb.n:=rfl
  have I9:(Ex.fn nf nx tA tB eb).av.au.length=6:=rfl
  obtain⟨b1,ga,gY,gZ,e1,bC,dd⟩:=fI bc (i:=5) om
  cases e1
  have dd:bS ((gb::w1.heap.size::E)++F) w6 _ eb.av:=dd
  have aR:∃X,X=mY ai eb n:=⟨_,rfl⟩
  obtain⟨X,hX⟩:=aR
  refine aQ ?_
  apply kc eu (((gb::w1.heap.size::E)++F)) 8 (rA 61 8) (rA 61 8) [[],[0],[],[],[3],[4],[2,5],[1]] [Ie.v _,Ie.v _,Ie.v _,Ie.v _,Ie.v _,Ie.v _,Ie.e 0,Ie.v _] [6] [fun(G:List Nat) (vs:List Value) (ww:World)=>G=((gb::w1.heap.size::E)++F)∧kz E F w ww F b ai n aX exprs gb w1.heap.size (.slice (some ⟨gb,0,none⟩) (Ex.fn nf nx tA tB eb).av.au.length je) (Ex.fn nf nx tA tB eb).av.au,fun(G:List Nat) (vs:List Value) (ww:World)=>∃G9,G=((gb::w1.heap.size::E)++G9)∧kz E G9 w ww F b ai (bw ai eb n).2.2 aX exprs gb w1.heap.size (.slice (some ⟨gb,0,none⟩) (Ex.fn nf nx tA tB eb).av.au.length je) (Ex.fn nf nx tA tB eb).av.au∧bS ((gb::w1.heap.size::E)++G9) ww (vs.getD 0 undef) (mY ai eb n).av] de rfl bg.cZ (by exact trivial) (by exact⟨λG vs w w' ⟨h1,h2⟩ k=>⟨h1,h2.ext k⟩,λG vs w w' ⟨G9,h1,h2,h3⟩ k=>⟨G9,h1,h2.ext k,h3.ext k⟩,trivial⟩) (⟨rfl,bg⟩)
  refine vf (λ_ _ _ _ _ _=>zf cM rfl fv) ?_
  refine vf (λx w7 G7 aW iX jW=>?_) ?_
  have bR:=bR.go iX
  refine zl cK rfl (bR.at rfl) ?_
  exact fv
  refine cR ?_
  refine cR ?_
  refine vf (λ_ _ _ _ _ _=>zi (i:=5) cw aH rfl rfl ((show 5<6 from om)) fv) ?_
  refine vf (λx w7 G7 aW iX jW=>?_) ?_
  have bC:=bC.go iX
  refine zL bT aH rfl bC.cells rfl ?_
  exact fv
  refine ve 0 (λx w7 G7 aW iX jW hJ hlen=>?_) ?_
  have bo:=jO hlen
  subst bo
  have dd:=dd.go iX
  obtain⟨cz,bg⟩:=hJ
  subst cz
  refine aC (Jh bF.2.2.2.2.2 (ih eb om bF.2.2.2.2.2) ai n aX exprs (hB.sub 0 om om sm sm) (gb::w1.heap.size::E) F b _ w7 bg.m dd) ?_
  rintro B8 w8 ⟨⟨dS,qF⟩,df⟩
  exact fe _ (df.in _) qF.bG.2.2 (⟨F,rfl,bg.call qF df,dS⟩)
  refine vf (λ_ _ _ _ _ _=>zi (i:=5) cw aH rfl rfl ((show 5<6 from om)) fv) ?_
  exact trivial
  intro x qG Jp aW wZ Jq hJ hlen
  obtain⟨q0,bo⟩:=jP hlen
  subst bo
  have bR:=bR.go wZ
  change OW _ _ _ _ _ (aM (aN _ x _) (zZ 61 [_,_,_,_,_,_,_,_])) _
  obtain⟨G3,cz,bg,dS⟩:=hJ
  subst cz
  obtain⟨a7,n7,c7,e7,_,_⟩:=dN dS
  have e8:q0=_:=e7
  subst e8
  refine sQ (i:=5) (vs:=[str (mY ai eb n).av.az,.slice a7 n7 c7]) (row:=(mY ai eb n).av.enc) aH rfl rfl rfl rfl (by first|rfl|exact Nat.zero_add _) bg.own bg.cZ sm (by rw[iJ];omega) rfl (oU _) dS.kO ?_
  intro wO jl rY dY
  rw[sS] at dY
  have bR:=bR.aL jl bg.jA
  have bg:=bg.store jl dY
  refine ag<|zr<|zL bT aH rfl bR.all rfl<|dk aH rfl rfl rfl bg.bx rfl ?_
  intro j1 eS dv mu
  obtain⟨rZ,r5,vj⟩:=bg.fin eS
  refine ag<|aV ?_
  exact⟨[_],gR bT aH rfl dv rfl,by show Jb ai E F b aX exprs w ([],.fn nf nx tA tB (mY ai eb n),(bw ai eb n).2.2) _ _;exact⟨G3,⟨rZ,by rw[List.map_nil,List.append_nil,List.map_nil,List.append_nil];exact r5⟩,vj⟩⟩
  have rk:e.head≠il:=λhh=>h3 (jG.trans hh)
  refine zr<|cW rfl rfl<|zA<|ag<|zc rfl (λh4=>?_) (λh4=>?_)
  obtain⟨ea,eb,ec,rfl⟩:=TL bF (jG.symm.trans h4)
  have wN:(Ex.ite ea eb ec).n=1+ea.n+eb.n+ec.n:=rfl
  have I9:(Ex.ite ea eb ec).av.au.length=4:=rfl
  have Jm:=Ue ai ea n
  have o6:=Ud ai ea n
  have aR:∃q,q=dW ai (bw ai ea n):=⟨_,rfl⟩
  obtain⟨q,hq⟩:=aR
  have Jl:bw ai (.ite ea eb ec) n=(q.1,.ite q.2.1 (mY ai eb q.2.2) (mY ai ec (bw ai eb q.2.2).2.2),(bw ai ec (bw ai eb q.2.2).2.2).2.2):=(by rw[hq];rfl)
  rw[<-hq] at Jm o6
  have TJ:=iQ ai eb q.2.2
  have vR:(ea.n+eb.n)*(2*(ai.length+2))=ea.n*(2*(ai.length+2))+eb.n*(2*(ai.length+2)):=Nat.add_mul _ _ _
  obtain⟨b1,ga,gY,gZ,e1,bC,dd⟩:=fI bc (i:=1) om
  cases e1
  have dd:bS ((gb::w1.heap.size::E)++F) w6 _ ea.av:=dd
  refine aQ ?_
  apply kc eu (((gb::w1.heap.size::E)++F)) 8 (rA 72 8) (rA 72 8) [[],[0],[],[],[3],[4],[2,5],[1]] [Ie.v _,Ie.v _,Ie.v _,Ie.v _,Ie.v _,Ie.v _,Ie.e 0,Ie.v _] [6] [fun(G:List Nat) (vs:List Value) (ww:World)=>G=((gb::w1.heap.size::E)++F)∧kz E F w ww F b ai n aX exprs gb w1.heap.size (.slice (some ⟨gb,0,none⟩) (Ex.ite ea eb ec).av.au.length je) (Ex.ite ea eb ec).av.au,fun(G:List Nat) (vs:List Value) (ww:World)=>∃G9,G=((gb::w1.heap.size::E)++G9)∧kz E G9 w ww F b ai q.2.2 (aX++q.1.map Prod.fst) (exprs++q.1.map λp=>p.2.av) gb w1.heap.size (.slice (some ⟨gb,0,none⟩) (Ex.ite ea eb ec).av.au.length je) (Ex.ite ea eb ec).av.au∧bS ((gb::w1.heap.size::E)++G9) ww (vs.getD 0 undef) q.2.1.av] de rfl bg.cZ (by exact trivial) (by exact⟨λG vs w w' ⟨h1,h2⟩ k=>⟨h1,h2.ext k⟩,λG vs w w' ⟨G9,h1,h2,h3⟩ k=>⟨G9,h1,h2.ext k,h3.ext k⟩,trivial⟩) (⟨rfl,bg⟩)
  refine vf (λ_ _ _ _ _ _=>zf cM rfl fv) ?_
  refine vf (λx w7 G7 aW iX jW=>?_) ?_
  have bR:=bR.go iX
  refine zl cK rfl (bR.at rfl) ?_
  exact fv
  refine cR ?_
  refine cR ?_
  refine vf (λ_ _ _ _ _ _=>zi (i:=1) cw aH rfl rfl ((show 1<4 from om)) fv) ?_
  refine vf (λx w7 G7 aW iX jW=>?_) ?_
  have bC:=bC.go iX
  refine zL bT aH rfl bC.cells rfl ?_
  exact fv
  refine ve 0 (λx w7 G7 aW iX jW hJ hlen=>?_) ?_
  have bo:=jO hlen
  subst bo
  have dd:=dd.go iX
  obtain⟨cz,bg⟩:=hJ
  subst cz
  refine aC (T6 bF.1 (ih ea om bF.1) ai n aX exprs (hB.sub 0 om om sm sm) (gb::w1.heap.size::E) F b _ w7 bg.m dd) ?_
  rintro B8 w8 ⟨G9,⟨dS,qF⟩,df⟩
  rw[<-hq] at dS qF
  exact fe _ (df.in _) qF.bG.2.2 (⟨G9,rfl,bg.call qF df,dS⟩)
  refine vf (λ_ _ _ _ _ _=>zi (i:=1) cw aH rfl rfl ((show 1<4 from om)) fv) ?_
  exact trivial
  intro x qG Jp aW wZ Jq hJ hlen
  obtain⟨q0,bo⟩:=jP hlen
  subst bo
  have bc:=bc.go wZ;have bR:=bR.go wZ;have bC:=bC.go wZ;have dd:=dd.go wZ
  change OW _ _ _ _ _ (aM (aN _ x _) (zZ 72 [_,_,_,_,_,_,_,_])) _
  obtain⟨G3,cz,bg,dS⟩:=hJ
  subst cz
  obtain⟨a7,n7,c7,e7,_,_⟩:=dN dS
  have e8:q0=_:=e7
  subst e8
  refine sQ (i:=1) (vs:=[str q.2.1.av.az,.slice a7 n7 c7]) (row:=q.2.1.av.enc) aH rfl rfl rfl rfl (by first|rfl|exact Nat.zero_add _) bg.own bg.cZ sm (by rw[iJ];omega) rfl (oU _) dS.kO ?_
  intro wO jl rY dY
  rw[sS] at dY
  have bc:=bc.aL jl bg.jA;have bR:=bR.aL jl bg.jA
  have bg:=bg.store jl dY
  refine ag<|aQ ?_
  obtain⟨b2,nk,jc,jd,e2,bC,dd⟩:=fI bc (i:=2) om
  cases e2
  have dd:bS ((gb::w1.heap.size::E)++G3) wO _ eb.av:=dd
  apply kc eu (((gb::w1.heap.size::E)++G3)) 8 (rA 80 8) (rA 80 8) [[],[0],[],[],[3],[4],[2,5],[1]] [Ie.v _,Ie.v _,Ie.v _,Ie.v _,Ie.v _,Ie.v _,Ie.e 0,Ie.v _] [6] [fun(G:List Nat) (vs:List Value) (ww:World)=>G=((gb::w1.heap.size::E)++G3)∧kz E G3 w ww F b ai q.2.2 (aX++q.1.map Prod.fst) (exprs++q.1.map λp=>p.2.av) gb w1.heap.size (.slice (some ⟨gb,0,none⟩) (Ex.ite ea eb ec).av.au.length je) ((Ex.ite ea eb ec).av.au.set 1 q.2.1.av),fun(G:List Nat) (vs:List Value) (ww:World)=>∃G9,G=((gb::w1.heap.size::E)++G9)∧kz E G9 w ww F b ai (bw ai eb q.2.2).2.2 (aX++q.1.map Prod.fst) (exprs++q.1.map λp=>p.2.av) gb w1.heap.size (.slice (some ⟨gb,0,none⟩) (Ex.ite ea eb ec).av.au.length je) ((Ex.ite ea eb ec).av.au.set 1 q.2.1.av)∧bS ((gb::w1.heap.size::E)++G9) ww (vs.getD 0 undef) (mY ai eb q.2.2).av] de rfl bg.cZ (by exact trivial) (by exact⟨λG vs w w' ⟨h1,h2⟩ k=>⟨h1,h2.ext k⟩,λG vs w w' ⟨G9,h1,h2,h3⟩ k=>⟨G9,h1,h2.ext k,h3.ext k⟩,trivial⟩) (⟨rfl,bg⟩)
  refine vf (λ_ _ _ _ _ _=>zf cM rfl fv) ?_
  refine vf (λx j1 D1 aW wS Gf=>?_) ?_
  have bR:=bR.go wS
  refine zl cK rfl (bR.at rfl) ?_
  exact fv
  refine cR ?_
  refine cR ?_
  refine vf (λ_ _ _ _ _ _=>zi (i:=2) cw aH rfl rfl ((show 2<4 from om)) fv) ?_
  refine vf (λx j1 D1 aW wS Gf=>?_) ?_
  have bC:=bC.go wS
  refine zL bT aH rfl bC.cells rfl ?_
  exact fv
  refine ve 0 (λx j1 D1 aW wS Gf hJ hlen=>?_) ?_
  have bo:=jO hlen
  subst bo
  have dd:=dd.go wS
  obtain⟨cz,bg⟩:=hJ
  subst cz
  refine aC (Jh bF.2.1 (ih eb om bF.2.1) ai q.2.2 (aX++q.1.map Prod.fst) (exprs++q.1.map λp=>p.2.av) (hB.sub ea.n om om sm sm) (gb::w1.heap.size::E) G3 b _ j1 bg.m dd) ?_
  rintro B8 pj ⟨⟨dS,qF⟩,df⟩
  exact fe _ (df.in _) qF.bG.2.2 (⟨G3,rfl,bg.call qF df,dS⟩)
  refine vf (λ_ _ _ _ _ _=>zi (i:=2) cw aH rfl rfl ((show 2<4 from om)) fv) ?_
  exact trivial
  intro x w87 G87 aW Jr amm hJ hlen
  obtain⟨q0,bo⟩:=jP hlen
  subst bo
  have bc:=bc.go Jr;have bR:=bR.go Jr;have bC:=bC.go Jr;have dd:=dd.go Jr
  change OW _ _ _ _ _ (aM (aN _ x _) (zZ 80 [_,_,_,_,_,_,_,_])) _
  obtain⟨G3,cz,bg,dS⟩:=hJ
  subst cz
  obtain⟨a7,n7,c7,e7,_,_⟩:=dN dS
  have e8:q0=_:=e7
  subst e8
  refine sQ (i:=2) (vs:=[str (mY ai eb q.2.2).av.az,.slice a7 n7 c7]) (row:=(mY ai eb q.2.2).av.enc) aH rfl rfl rfl rfl (by first|rfl|exact Nat.zero_add _) bg.own bg.cZ sm (by rw[iJ,List.length_set];omega) rfl (oU _) dS.kO ?_
  intro Gd AR rY dY
  rw[sS] at dY
  have bc:=bc.aL AR bg.jA;have bR:=bR.aL AR bg.jA
  have bg:=bg.store AR dY
  refine ag<|aQ ?_
  obtain⟨b3,B6,pU,pV,e3,bC,dd⟩:=fI bc (i:=3) om
  cases e3
  have dd:bS ((gb::w1.heap.size::E)++G3) Gd _ ec.av:=dd
  apply kc eu (((gb::w1.heap.size::E)++G3)) 8 (rA 88 8) (rA 88 8) [[],[0],[],[],[3],[4],[2,5],[1]] [Ie.v _,Ie.v _,Ie.v _,Ie.v _,Ie.v _,Ie.v _,Ie.e 0,Ie.v _] [6] [fun(G:List Nat) (vs:List Value) (ww:World)=>G=((gb::w1.heap.size::E)++G3)∧kz E G3 w ww F b ai (bw ai eb q.2.2).2.2 (aX++q.1.map Prod.fst) (exprs++q.1.map λp=>p.2.av) gb w1.heap.size (.slice (some ⟨gb,0,none⟩) (Ex.ite ea eb ec).av.au.length je) (((Ex.ite ea eb ec).av.au.set 1 q.2.1.av).set 2 (mY ai eb q.2.2).av),fun(G:List Nat) (vs:List Value) (ww:World)=>∃G9,G=((gb::w1.heap.size::E)++G9)∧kz E G9 w ww F b ai (bw ai ec (bw ai eb q.2.2).2.2).2.2 (aX++q.1.map Prod.fst) (exprs++q.1.map λp=>p.2.av) gb w1.heap.size (.slice (some ⟨gb,0,none⟩) (Ex.ite ea eb ec).av.au.length je) (((Ex.ite ea eb ec).av.au.set 1 q.2.1.av).set 2 (mY ai eb q.2.2).av)∧bS ((gb::w1.heap.size::E)++G9) ww (vs.getD 0 undef) (mY ai ec (bw ai eb q.2.2).2.2).av] de rfl bg.cZ (by exact trivial) (by exact⟨λG vs w w' ⟨h1,h2⟩ k=>⟨h1,h2.ext k⟩,λG vs w w' ⟨G9,h1,h2,h3⟩ k=>⟨G9,h1,h2.ext k,h3.ext k⟩,trivial⟩) (⟨rfl,bg⟩)
  refine vf (λ_ _ _ _ _ _=>zf cM rfl fv) ?_
  refine vf (λx sU Uj aW Gm Uk=>?_) ?_
  have bR:=bR.go Gm
  refine zl cK rfl (bR.at rfl) ?_
  exact fv
  refine cR ?_
  refine cR ?_
  refine vf (λ_ _ _ _ _ _=>zi (i:=3) cw aH rfl rfl ((show 3<4 from om)) fv) ?_
  refine vf (λx sU Uj aW Gm Uk=>?_) ?_
  have bC:=bC.go Gm
  refine zL bT aH rfl bC.cells rfl ?_
  exact fv
  refine ve 0 (λx sU Uj aW Gm Uk hJ hlen=>?_) ?_
  have bo:=jO hlen
  subst bo
  have dd:=dd.go Gm
  obtain⟨cz,bg⟩:=hJ
  subst cz
  refine aC (Jh bF.2.2 (ih ec om bF.2.2) ai (bw ai eb q.2.2).2.2 (aX++q.1.map Prod.fst) (exprs++q.1.map λp=>p.2.av) (hB.sub (ea.n+eb.n) om om sm sm) (gb::w1.heap.size::E) G3 b _ sU bg.m dd) ?_
  rintro B8 j3 ⟨⟨dS,qF⟩,df⟩
  exact fe _ (df.in _) qF.bG.2.2 (⟨G3,rfl,bg.call qF df,dS⟩)
  refine vf (λ_ _ _ _ _ _=>zi (i:=3) cw aH rfl rfl ((show 3<4 from om)) fv) ?_
  exact trivial
  intro x amn amo aW aeR amp hJ hlen
  obtain⟨q0,bo⟩:=jP hlen
  subst bo
  have bR:=bR.go aeR
  change OW _ _ _ _ _ (aM (aN _ x _) (zZ 88 [_,_,_,_,_,_,_,_])) _
  obtain⟨G3,cz,bg,dS⟩:=hJ
  subst cz
  obtain⟨a7,n7,c7,e7,_,_⟩:=dN dS
  have e8:q0=_:=e7
  subst e8
  refine sQ (i:=3) (vs:=[str (mY ai ec (bw ai eb q.2.2).2.2).av.az,.slice a7 n7 c7]) (row:=(mY ai ec (bw ai eb q.2.2).2.2).av.enc) aH rfl rfl rfl rfl (by first|rfl|exact Nat.zero_add _) bg.own bg.cZ sm (by rw[iJ,List.length_set,List.length_set];omega) rfl (oU _) dS.kO ?_
  intro I7 Ul rY dY
  rw[sS] at dY
  have bR:=bR.aL Ul bg.jA
  have bg:=bg.store Ul dY
  refine ag<|zr<|zL bT aH rfl bR.all rfl<|dk aH rfl rfl rfl bg.bx rfl ?_
  intro MX Cb dv mu
  obtain⟨rZ,r5,vj⟩:=bg.fin Cb
  refine ag<|aV ?_
  exact⟨[_],gR bT aH rfl dv rfl,by rw[Jl];exact⟨G3,⟨rZ,r5⟩,vj⟩⟩
  have ni:e.head≠cC:=λhh=>h4 (jG.trans hh)
  have D6:=Ug fx oT rk
  have Bi:=aeD ai n fx oT rk ni
  have hpm:=aeE fx oT rk
  refine bA<|aQ<|zr<|zA<|ag<|cP ?_
  refine fZ (λk:Nat=>[(0,.pointer (some ⟨b,0,none⟩)),(4,.pointer (some ⟨w1.heap.size,0,none⟩)),(5,.slice (some ⟨b0,AF,none⟩) e.av.au.length c),(6,.pointer (some ⟨w4.heap.size,0,none⟩)),(8,.int .i64 ((e.from+k:Nat):Int))]) (λk ww=>∃G2,Fr ((gb::w1.heap.size::E)++F) w6 ((gb::w1.heap.size::E)++G2) ww∧kz E G2 w ww F b ai (gV ai e n k).2.2 (aX++(gV ai e n k).1.map Prod.fst) (exprs++(gV ai e n k).1.map λp=>p.2.av) gb w1.heap.size (.slice (some ⟨gb,0,none⟩) e.av.au.length je) (mf [cj e.head] (gV ai e n k).2.1 e)∧k<=e.kids.length) (λk=>e.kids.length-k) (0) (⟨rfl,rfl,rfl,rfl,by rw[D6];rfl⟩) (⟨F,Fr.refl _ _,by rw[show mf [cj e.head] (gV ai e n 0).2.1 e=e.av.au from hpm.symm];simpa[gV] using bg,om⟩) ?_
  intro gg w7 e7 hI
  obtain⟨G2,po,bg,hk⟩:=hI
  have bc:=bc.go po;have bR:=bR.go po
  refine aQ<|zr<|zm<|zm<|eh cw rfl<|fJ rfl rfl rfl<|ag<|zc rfl (λh5=>?_) (λh5=>?_)
  have iu:gg<e.kids.length:=om
  have sK:=wK gg iu
  have gS:=Ni ai e n gg
  obtain⟨b1,ga,gY,gZ,e1,bC,dd⟩:=fI bc (i:=e.from+gg) om
  cases e1
  have dd:=dd.eq sK
  have tQ:=Fk bF iu
  have Bj:=yn iu
  have hkN:=B1 e (gg+1)
  have lv:=aeC ai e n hB iu
  refine bA<|aQ<|cP ?_
  apply kc eu (((gb::w1.heap.size::E)++G2)) 10 (rA 103 10) (rA 103 10) [[],[0],[],[],[],[],[4,5],[6],[3,7],[1,2]] [Ie.v _,Ie.v _,Ie.v _,Ie.v _,Ie.v _,Ie.v _,Ie.v _,Ie.v _,Ie.e 0,Ie.v _] [8] [fun(G:List Nat) (vs:List Value) (ww:World)=>G=((gb::w1.heap.size::E)++G2)∧kz E G2 w ww F b ai (gV ai e n gg).2.2 (aX++(gV ai e n gg).1.map Prod.fst) (exprs++(gV ai e n gg).1.map λp=>p.2.av) gb w1.heap.size (.slice (some ⟨gb,0,none⟩) e.av.au.length je) (mf [cj e.head] (gV ai e n gg).2.1 e),fun(G:List Nat) (vs:List Value) (ww:World)=>∃G9,G=((gb::w1.heap.size::E)++G9)∧kz E G9 w ww F b ai (gV ai e n (gg+1)).2.2 (aX++(gV ai e n (gg+1)).1.map Prod.fst) (exprs++(gV ai e n (gg+1)).1.map λp=>p.2.av) gb w1.heap.size (.slice (some ⟨gb,0,none⟩) e.av.au.length je) (mf [cj e.head] (gV ai e n gg).2.1 e)∧bS ((gb::w1.heap.size::E)++G9) ww (vs.getD 0 undef) (dW ai (bw ai (fL e gg) (gV ai e n gg).2.2)).2.1.av] de rfl bg.cZ (by exact trivial) (by exact⟨λG vs w w' ⟨h1,h2⟩ k=>⟨h1,h2.ext k⟩,λG vs w w' ⟨G9,h1,h2,h3⟩ k=>⟨G9,h1,h2.ext k,h3.ext k⟩,trivial⟩) (⟨rfl,bg⟩)
  refine vf (λ_ _ _ _ _ _=>zf cM rfl fv) ?_
  refine vf (λx w8 G8 aW Gn Um=>?_) ?_
  have bR:=bR.go Gn
  refine zl cK rfl (bR.at rfl) ?_
  exact fv
  refine cR ?_
  refine cR ?_
  refine cR ?_
  refine cR ?_
  refine vf (λ_ _ _ _ _ _=>zi cw aH rfl rfl om fv) ?_
  refine vf (λx w8 G8 aW Gn Um=>?_) ?_
  have bC:=bC.go Gn
  refine zL bT aH rfl bC.cells rfl ?_
  exact fv
  refine ve 0 (λx w8 G8 aW Gn Um hJ hlen=>?_) ?_
  have bo:=jO hlen
  subst bo
  have dd:=dd.go Gn
  obtain⟨cz,bg⟩:=hJ
  subst cz
  refine aC (T6 tQ.1 (ih (fL e gg) om tQ.1) ai (gV ai e n gg).2.2 (aX++(gV ai e n gg).1.map Prod.fst) (exprs++(gV ai e n gg).1.map λp=>p.2.av) lv (gb::w1.heap.size::E) G2 b _ w8 bg.m dd) ?_
  rintro B8 w9 ⟨G9,⟨dS,qF⟩,df⟩
  rw[List.append_assoc,List.append_assoc,<-List.map_append,<-List.map_append] at qF
  exact fe _ (df.in _) qF.bG.2.2 (⟨G9,rfl,bg.call qF df,dS⟩)
  refine vf (λ_ _ _ _ _ _=>zi cw aH rfl rfl om fv) ?_
  exact trivial
  intro x wO G47 aW aeU amr hJ hlen
  obtain⟨q0,bo⟩:=jP hlen
  subst bo
  have po:=po.go aeU
  change OW _ _ _ _ _ (aM (aN _ x _) (zZ 103 [_,_,_,_,_,_,_,_,_,_])) _
  obtain⟨G3,cz,bg,dS⟩:=hJ
  subst cz
  obtain⟨a7,n7,c7,e7,_,_⟩:=dN dS
  have e8:q0=_:=e7
  subst e8
  have zk:((mf [cj e.head] (gV ai e n gg).2.1 e)).set (e.from+gg) (dW ai (bw ai (fL e gg) (gV ai e n gg).2.2)).2.1.av=(mf [cj e.head] (gV ai e n (gg+1)).2.1 e):=(by have:=TN (pre:=[cj e.head]) (acc:=(gV ai e n gg).2.1) (e:=e) (y:=(dW ai (bw ai (fL e gg) (gV ai e n gg).2.2)).2.1) om;rw[show[cj e.head].length=e.from from D6.symm,gS] at this;exact this)
  refine sQ (i:=e.from+gg) (vs:=[str (dW ai (bw ai (fL e gg) (gV ai e n gg).2.2)).2.1.av.az,.slice a7 n7 c7]) (row:=(dW ai (bw ai (fL e gg) (gV ai e n gg).2.2)).2.1.av.enc) aH rfl rfl rfl rfl (by first|rfl|exact Nat.zero_add _) bg.own bg.cZ sm (by rw[iJ,TO om];simp;omega) rfl (oU _) dS.kO ?_
  intro j1 eS rY dY
  rw[sS,zk] at dY
  have po:=po.aL eS bg.jA
  have bg:=bg.store eS dY
  refine ag<|db<|zm<|eE rfl rfl rfl (wrap_i64 _ om om)<|zA<|ag ?_
  exact⟨gg+1,⟨rfl,rfl,rfl,rfl,congrArg (Value.int .i64) om⟩,⟨G3,po,bg,om⟩,om⟩
  have gJ:gg=e.kids.length:=by omega
  subst gJ
  have gS:=Ni ai e n e.kids.length
  refine gF<|gH rfl<|zr<|zL bT aH rfl bR.all rfl<|dk aH rfl rfl rfl bg.bx rfl ?_
  intro w8 cu dv mu
  obtain⟨rZ,r5,vj⟩:=bg.fin cu
  rw[TP gS,<-Bi.2.1] at rZ
  rw[<-Bi.1,<-Bi.2.2] at r5
  refine ag<|aV ?_
  exact⟨[_],gR bT aH rfl dv rfl,⟨G2,⟨rZ,r5⟩,vj⟩⟩
theorem D7 (s:aj):(cj s).size=1+s.length:=by simp[cj,aA.size,aA.size.sizes]
theorem aeV (hk:gT h=true):h.length<=5:=by
 simp only[gT,oE,dE] at hk
 rcases hk with rfl|rfl<;>decide
theorem aeW (hk:iA h=true):h.length<=5:=by
 simp only[iA,oE,dE] at hk
 rcases hk with(((rfl|rfl)|rfl)|rfl)|rfl<;>decide
theorem Ex.size:∀{e:Ex},e.ok->e.av.size<=30*e.n
 | .at s,h=>by
  have:s.length<=4:=oL (e:=.at s) h
  show(cj s).size<=_
  rw[D7];simp only[Ex.n];omega
 | .un hd a,h=>by
  have:=aeV h.1
  have:=Ex.size h.2
  show 1+0+aA.size.sizes [cj hd,a.av]<=_
  simp only[aA.size.sizes,D7,Ex.n];omega
 | .bi hd a b,h=>by
  have:=aeW h.1
  have:=Ex.size h.2.1
  have:=Ex.size h.2.2
  show 1+0+aA.size.sizes [cj hd,a.av,b.av]<=_
  simp only[aA.size.sizes,D7,Ex.n];omega
 | .ite a b c,h=>by
  have:=Ex.size h.1
  have:=Ex.size h.2.1
  have:=Ex.size h.2.2
  have:cC.length=2:=rfl
  show 1+0+aA.size.sizes [cj cC,a.av,b.av,c.av]<=_
  simp only[aA.size.sizes,D7,Ex.n];omega
 | .lt x a b,h=>by
  have:=DI h.1
  have:=Ex.size h.2.1
  have:=Ex.size h.2.2
  have:gQ.length=3:=rfl
  show 1+0+aA.size.sizes [cj gQ,cj x,a.av,b.av]<=_
  simp only[aA.size.sizes,D7,Ex.n];omega
 | .fn f x A B e,h=>by
  have:=DI h.1
  have:=DI h.2.1
  have:=Ex.size h.2.2.2.2.2
  have:=A.size
  have:=B.size
  have:il.length=3:=rfl
  show 1+0+aA.size.sizes [cj il,cj f,cj x,A.av,B.av,e.av]<=_
  simp only[aA.size.sizes,D7,Ex.n];omega
theorem Ex.aeX (h:e.ok):e.av.text.length<=60*e.n:=by
 have h1:=Lt e.av _ (lR _) (Ex.wf h).wf
 have h2:=Ex.size h
 omega
theorem aeY {q:Ex} (hq:nU e=some q):q.n<=4*e.n:=by
 unfold nU at hq
 cases hp:qu e with
 |none=>rw[hp] at hq;cases hq
 |some p=>
  have fR:p.n=e.n:=by
   unfold qu at hp
   split at hp
   ·cases hp;exact uM _ e [] 0
   ·cases hp
  rw[hp,Option.bind_some] at hq
  split at hq
  ·cases hq
   have:=uN (lF p.av []) p 0
   show(nest _ _).n<=_
   rw[LN];omega
  ·cases hq
theorem aeZ {p:Ex} (hp:qu e=some p):p.n=e.n:=by
 unfold qu at hp
 split at hp
 ·cases hp;exact uM _ e [] 0
 ·cases hp
theorem ae0 {T:Nat} (h:aY w b #[] T):ey L w T 2 (.slice (some ⟨b,0,none⟩) 0 0) (some b) []:=
 ⟨⟨[],LY h,trivial⟩,sm⟩
theorem ae1 (ee:Ex) (hn:ee.n<=120) (bF:ee.ok) (v:Value) (w:World) (hv:bS [] w v ee.av):
  bZ Tryz.prog 105 [v] w λr w'=>(∃tv T,r= .tuple #[tv,.bool (nU ee).isSome]∧bS [] w' tv T∧∀f,nU ee=some f->T=f.av)∧ak [] w w':=by
 have dI:=hv
 obtain⟨a,np,c,rfl,fu,bc⟩:=dN hv
 have hK:=ak.refl [] w
 refine lz [.cell 2 66,.tmp 3] 32 Tryz.func105 rfl XP rfl rfl rfl ?_
 refine zr<|fA rfl ?_
 intro w1 aJ aU dV
 have hK:=hK.ext aJ
 refine eC aH rfl rfl rfl ?_
 intro w2 aq aZ eK
 have hK:=hK.grow;have hK:=hK.ext aq;have aU:=aU.grow;have aU:=aU.ext aq
 refine zA<|ag<|zr<|zL bT aH rfl aU.all rfl<|aC (ad8 ee hn bF _ [w1.heap.size] w2 (by have:=aZ.lt;simpa using this) (bS.ext (bS.fresh dI (by intro x hx;simp at hx;right;omega)) hK)) ?_
 rintro v3 w3 ⟨et,aK⟩
 have gd:=aK.size
 have hK:=hK.ext aK;have aU:=aU.ext aK;have aZ:=aZ.ext aK
 obtain⟨tv,rfl,hT⟩:=et
 have aR:∃p,p=(ck (cF ee [] []) ee [] 0).1:=⟨_,rfl⟩
 obtain⟨p,mV⟩:=aR
 rw[<-mV] at hT
 obtain⟨a9,n9,c9,e9,_,_⟩:=dN hT
 subst e9
 have gm:=ak.refl [] w3
 have kx:=hT
 refine zm<|zx (i:=0) rfl rfl<|zx (i:=1) rfl rfl<|eC aH rfl rfl rfl ?_
 intro w4 aD aI iL
 have hK:=hK.grow;have hK:=hK.ext aD;have aU:=aU.grow;have aU:=aU.ext aD;have aZ:=aZ.grow;have aZ:=aZ.ext aD;have gm:=gm.grow;have gm:=gm.ext aD
 refine dk aH rfl rfl rfl aI rfl ?_
 intro w5 aT aI jo
 have hK:=hK.aL aT sx;have aU:=aU.aL aT sx;have aZ:=aZ.aL aT sx;have gm:=gm.aL aT sx
 refine zA<|ag<|aQ<|zr<|zm<|eH rfl<|ag<|zc rfl (λh1=>?_) (λh1=>?_)
 have hx:qu ee=none:=(by simpa using h1)
 have D8:nU ee=none:=by unfold nU;rw[hx];rfl
 refine zr<|zL bT aH rfl aU.all rfl<|dk aH rfl rfl rfl aZ rfl ?_
 intro w6 bD aZ lB
 have hK:=hK.aL bD sx
 refine zA<|ag<|aV ?_
 exact⟨[_,_],⟨gR bT aH rfl aZ rfl,rfl⟩,⟨_,_,by rw[D8];rfl,bS.ext dI hK,λf hf=>by rw[D8] at hf;cases hf⟩,hK⟩
 have hp:qu ee=some p:=(by rw[mV];unfold qu at h1⊢;split;(·rfl);(·rename_i h9;rw[iN h9] at h1;exact absurd h1 sm))
 have Gp:=LO bF hp
 have fR:=aeZ hp
 have FP:=Ex.size Gp
 have TZ:=Ex.fP Gp
 have BA:=RS p.av []
 rw[List.length_nil,Nat.zero_add,TZ] at BA
 have aR:∃ai,ai=lF p.av []:=⟨_,rfl⟩
 obtain⟨ai,Nl⟩:=aR
 refine bA<|zr<|zL bT aH rfl aI.all rfl<|gM bh bB ?_
 intro w6 bD MZ lB
 have hK:=hK.ext bD;have aU:=aU.ext bD;have aZ:=aZ.ext bD;have gm:=gm.ext bD;have aI:=aI.ext bD
 refine aC (ad7 p.av.size p.av (lR _) om (Ex.wf Gp).wf [] so _ _ (some _) w6 (bS.ext (bS.fresh kx (by intro x hx;simp at hx;right;omega)) gm) MZ.ll) ?_
 rintro wY w7 ⟨g18,xd,Ck⟩
 have Nn:=Ck.aO.size
 have No:=xd.lt
 rw[<-Nl] at xd BA
 obtain⟨a18,c18,vu⟩:=kr xd
 subst vu
 have hK:=hK.since Ck.aO (λx hx=>.inr (by have:=gm.size;simp at hx;omega))
 have gm:=gm.since Ck.aO (λx hx=>.inr (by simp at hx;omega))
 have aU:=aU.aO Ck.aO so
 have aZ:=aZ.aO Ck.aO so
 have aI:=aI.aO Ck.aO so
 have amu:=gm.size
 have amv:=aZ.lt
 refine gM bh bB ?_
 intro w8 cu Cl mu
 have hK:=hK.ext cu;have aZ:=aZ.ext cu;have gm:=gm.ext cu;have aI:=aI.ext cu;have xd:=xd.ext cu
 refine gM cw aH ?_
 intro w9 aG sY dP
 have hK:=hK.ext aG;have aZ:=aZ.ext aG;have gm:=gm.ext aG;have aI:=aI.ext aG;have xd:=xd.ext aG;have Cl:=Cl.ext aG
 refine j6 (ZZ _ _ _ _ _ _ _ _ _ _ _) rfl rfl<|fA rfl ?_
 intro cN bU tT Bv
 have hK:=hK.ext bU;have aZ:=aZ.ext bU;have gm:=gm.ext bU;have aI:=aI.ext bU;have xd:=xd.ext bU;have Cl:=Cl.ext bU;have sY:=sY.ext bU
 refine zA<|ag<|zr<|zm<|zL bT aH rfl aI.all rfl ?_
 have ae2:=Cl.lt
 have Un:=sY.lt
 have xH:=gm.size
 have pd:∀x,x∈[w1.heap.size]++[w9.heap.size,w7.heap.size,w8.heap.size]->x∉g18.toList:=(λx hx fF=>by have h1:=No x fF;have h2:=Ck.mem x fF;simp at hx h2;omega)
 have amw:=tT.lt
 have hmu:p.n*(2*(ai.length+2))<=120*(2*122):=Nat.mul_le_mul om om
 have hM:M5 t5 [w1.heap.size] [w9.heap.size,w7.heap.size,w8.heap.size] cN w9.heap.size ai 0 [] []:=⟨_,_,_,some _,some _,tT,⟨xd.rep (λx hx fF=>pd x fF (by simp[hx])),Cl.ll,ae0 sY,rfl,by simp;omega,by intro x hx;simp at hx;omega⟩⟩
 refine aC (Jh Gp (aeF p.n p (lR _) Gp) ai 0 [] [] ⟨by omega,by simp;omega,by simp;omega,om⟩ [w1.heap.size] _ w9.heap.size _ cN hM (bS.ext (bS.fresh kx (by intro x hx;simp at hx;rcases hx with h|h;(·exact .inl (by simp[h]));(·right;omega))) gm)) ?_
 rintro v25 eW ⟨⟨sZ,ae4⟩,Np⟩
 have aR:∃q,q=mY ai p 0:=⟨_,rfl⟩
 obtain⟨q,hq⟩:=aR
 rw[<-hq] at sZ
 obtain⟨nC,nD,nG,Nq,_,_⟩:=dN sZ
 subst Nq
 have ae5:=Np.aO.size
 have hK:=hK.since Np.aO (λx hx=>.inr (by have:=hK.size;simp at hx;omega))
 have aZ:=aZ.aO Np.aO so
 obtain⟨vt,vn,vx,gn,ge,bj,_⟩:=ae4.open
 have bj:aY eW w9.heap.size [vt,.int .i64 ((bw ai p 0).2.2:Int),vn,vx].toArray 151:=bj
 have sZ:=sZ.jj (L':=[w1.heap.size]) sm
 refine eC aH rfl rfl rfl ?_
 intro gj dD cH Nr
 have hK:=hK.grow;have hK:=hK.ext dD;have aZ:=aZ.grow;have aZ:=aZ.ext dD;have sZ:=sZ.grow;have sZ:=sZ.ext dD;have bj:=bj.grow;have bj:=bj.ext dD
 refine dk aH rfl rfl rfl cH rfl ?_
 intro jC fM cH Gg
 have hK:=hK.aL fM sx;have aZ:=aZ.aL fM sx;have sZ:=sZ.aL fM sx;have bj:=bj.aL fM sx
 refine ag<|aQ ?_
 refine qf eu (cQ w1.heap.size ([str q.av.az,.slice nC nD nG]) 66) 8 (rA 26 6++[100006,3]) (rA 26 6++[100006,3]) [[],[],[1],[2],[3],[4],[0],[5]] [λv _=>v=(.agg #[str q.av.az,.slice nC nD nG]),λv _=>v=(.pointer (some ⟨w9.heap.size,0,none⟩)),λv _=>v=(.pointer (some ⟨w9.heap.size,0,none⟩)),λv _=>v=(.pointer (some ⟨w9.heap.size,0+1,none⟩)),λv _=>v=(.int .i64 ((bw ai p 0).2.2:Int)),λv _=>v=(.bool (decide (((bw ai p 0).2.2:Int)<=100))),λ_ ww=>aY ww w1.heap.size ([str q.av.az,.slice nC nD nG]).toArray 66,λv _=>v=(.bool (decide (((bw ai p 0).2.2:Int)<=100)))] de (cX (cX (cX (cX (cX (cX (C3 (cX trivial)))))))) (λwd aB=>?_) ?_
 refine bN ?_ ?_
 intro x vs jf e dL hd he
 replace dL:=(cQ w1.heap.size ([str q.av.az,.slice nC nD nG]) 66).trans aB dL
 have cH:=cH.aL dL.1 sx
 replace he:e=aM (aN _ x _) []:=he
 subst he
 refine zL bT aH rfl cH.all rfl<|ag ?_
 exact dn ((cQ w1.heap.size ([str q.av.az,.slice nC nD nG]) 66).refl _) rfl
 refine bN ?_ ?_
 intro x vs jf e dL hd he
 replace dL:=(cQ w1.heap.size ([str q.av.az,.slice nC nD nG]) 66).trans aB dL
 replace he:e=aM (aN _ x _) []:=he
 subst he
 refine zm<|ag ?_
 exact dn ((cQ w1.heap.size ([str q.av.az,.slice nC nD nG]) 66).refl _) rfl
 refine bN ?_ ?_
 intro x vs jf e dL hd he
 have d1:vs 1=(.pointer (some ⟨w9.heap.size,0,none⟩)):=hd
 replace dL:=(cQ w1.heap.size ([str q.av.az,.slice nC nD nG]) 66).trans aB dL
 replace he:e=aM (aN _ x _) [(27,vs 1)]:=he
 rw[d1] at he
 subst he
 refine di rfl<|ag ?_
 exact dn ((cQ w1.heap.size ([str q.av.az,.slice nC nD nG]) 66).refl _) rfl
 refine bN ?_ ?_
 intro x vs jf e dL hd he
 have d2:vs 2=(.pointer (some ⟨w9.heap.size,0,none⟩)):=hd
 replace dL:=(cQ w1.heap.size ([str q.av.az,.slice nC nD nG]) 66).trans aB dL
 replace he:e=aM (aN _ x _) [(28,vs 2)]:=he
 rw[d2] at he
 subst he
 refine zf HK rfl<|ag ?_
 exact dn ((cQ w1.heap.size ([str q.av.az,.slice nC nD nG]) 66).refl _) rfl
 refine bN ?_ ?_
 intro x vs jf e dL hd he
 have d3:vs 3=(.pointer (some ⟨w9.heap.size,0+1,none⟩)):=hd
 replace dL:=(cQ w1.heap.size ([str q.av.az,.slice nC nD nG]) 66).trans aB dL
 have bj:=bj.aL dL.1 sx
 replace he:e=aM (aN _ x _) [(29,vs 3)]:=he
 rw[d3] at he
 subst he
 refine zl qQ rfl (bj.at rfl)<|ag ?_
 exact dn ((cQ w1.heap.size ([str q.av.az,.slice nC nD nG]) 66).refl _) rfl
 refine bN ?_ ?_
 intro x vs jf e dL hd he
 have d4:vs 4=(.int .i64 ((bw ai p 0).2.2:Int)):=hd
 replace dL:=(cQ w1.heap.size ([str q.av.az,.slice nC nD nG]) 66).trans aB dL
 replace he:e=aM (aN _ x _) [(30,vs 4)]:=he
 rw[d4] at he
 subst he
 refine qN rfl rfl rfl rfl rfl<|ag ?_
 exact dn ((cQ w1.heap.size ([str q.av.az,.slice nC nD nG]) 66).refl _) rfl
 refine bN ?_ ?_
 intro x vs jf e dL hd he
 have d0:vs 0=(.agg #[str q.av.az,.slice nC nD nG]):=hd
 replace dL:=(cQ w1.heap.size ([str q.av.az,.slice nC nD nG]) 66).trans aB dL
 obtain⟨us,uY,uZ⟩:=dL.2.2 ⟨_,(by rfl),aZ⟩
 replace he:e=aM (aN _ x _) [(26,vs 0)]:=he
 rw[d0] at he
 subst he
 refine dk aH rfl rfl rfl uZ (by rw[uY];rfl) ?_
 intro p6 jD hb I0
 refine ag ?_
 exact dn ⟨jD,λ_=>hb,λ_=>⟨_,rfl,hb⟩⟩ hb
 refine bN ?_ ?_
 intro x vs jf e dL hd he
 have d5:vs 5=(.bool (decide (((bw ai p 0).2.2:Int)<=100))):=hd
 replace dL:=(cQ w1.heap.size ([str q.av.az,.slice nC nD nG]) 66).trans aB dL
 replace he:e=aM (aN _ x _) [(31,vs 5)]:=he
 rw[d5] at he
 subst he
 refine zA<|ag ?_
 exact dn ((cQ w1.heap.size ([str q.av.az,.slice nC nD nG]) 66).refl _) rfl
 exact trivial
 intro x vs mj pw bJ
 have d0:vs 0=(.agg #[str q.av.az,.slice nC nD nG]):=bJ 0 de
 have d1:vs 1=(.pointer (some ⟨w9.heap.size,0,none⟩)):=bJ 1 de
 have d2:vs 2=(.pointer (some ⟨w9.heap.size,0,none⟩)):=bJ 2 de
 have d3:vs 3=(.pointer (some ⟨w9.heap.size,0+1,none⟩)):=bJ 3 de
 have d4:vs 4=(.int .i64 ((bw ai p 0).2.2:Int)):=bJ 4 de
 have d5:vs 5=(.bool (decide (((bw ai p 0).2.2:Int)<=100))):=bJ 5 de
 have d6:aY mj w1.heap.size ([str q.av.az,.slice nC nD nG]).toArray 66:=bJ 6 de
 have d7:vs 7=(.bool (decide (((bw ai p 0).2.2:Int)<=100))):=bJ 7 de
 have hK:=hK.aL pw.1 sx;have sZ:=sZ.aL pw.1 sx
 have aZ:=d6
 change OW _ _ _ _ [] (aM (aN _ x _) (zZ 26 [vs 0,vs 1,vs 2,vs 3,vs 4,vs 5]++[(100006,vs 6),(3,vs 7)])) _
 rw[d0,d1,d2,d3,d4,d5,d7]
 refine ag<|aV ?_
 exact⟨[_,_],⟨gR bT aH rfl aZ rfl,rfl⟩,⟨_,q.av,congrArg (λb=>Value.tuple #[_,.bool b]) (show decide (((bw ai p 0).2.2:Int)<=100)=(nU ee).isSome from by unfold nU;rw[hp,Option.bind_some,<-Nl];by_cases h:(bw ai p 0).2.2<=100;(·rw[iP h];exact dT om);(·rw[iN h];exact dF om)),sZ.jj sm,λf hf=>by unfold nU at hf;rw[hp,Option.bind_some,<-Nl] at hf;split at hf;(·cases hf;rw[hq]);(·cases hf)⟩,hK⟩
theorem ae6 (s:aj) (w:World):bZ Tryz.prog 79 [str s] w λr w'=>(∃x ok,r= .tuple #[str x,.bool ok]∧(ok=true↔∃e f,ba s=some e.av∧e.ok∧e.n<=120∧nU e=some f∧mB f.av.text=true)∧∀e f,ba s=some e.av->e.ok->nU e=some f->ok=true->x=f.av.text)∧ak [] w w':=by
 have hK:=ak.refl [] w
 refine cU [.tmp 2,.tmp 3] 30 Tryz.func79 rfl ZE rfl rfl ?_
 refine zr<|zA<|zA<|ag<|zr<|zm<|aC (FY s [] w sm) ?_
 rintro v1 w1 ⟨fO,aJ⟩
 have dy:=aJ.size
 have hK:=hK.ext aJ
 obtain⟨t,tv,rfl,ht,hp⟩:=fO
 obtain⟨pa,pn,pc,rfl,fR,bc⟩:=dN ht
 refine zm<|zx (i:=0) rfl rfl<|zx (i:=1) rfl rfl<|eC aH rfl rfl rfl ?_
 intro w2 aq aI eK
 have hK:=hK.grow;have hK:=hK.ext aq;have ht:=ht.grow;have ht:=ht.ext aq
 refine dk aH rfl rfl rfl aI rfl ?_
 intro w3 aK aI iK
 have hK:=hK.aL aK sx;have ht:=ht.aL aK sx
 refine zA<|ag<|aQ<|zr<|zm<|eH rfl<|ag<|zc rfl (λh1=>?_) (λh1=>?_)
 have hx:mB s=false:=by simpa using h1
 refine zr<|zA<|zA<|ag<|aV ?_
 exact⟨_,rfl,⟨_,false,rfl,⟨λh=>by(cases h),fun⟨e,f,h1,h2,h3,_⟩=>by rw[wI.2 ⟨e,h1,h2,h3⟩] at hx;cases hx⟩,λ_ _ _ _ _ h=>by cases h⟩,hK⟩
 have hx:mB s=true:=by simpa using h1
 obtain⟨e,he,bF,hn⟩:=wI.1 hx
 have e2:=hp.1 _ he
 subst e2
 have D9:∀{e':Ex},ba s=some e'.av->e'.ok->e'=e:=(λh1 h2=>qB h2 bF (Option.some.inj (h1.symm.trans he)))
 refine bA<|zr<|zL bT aH rfl aI.all rfl<|aC (ae1 e hn bF _ w3 (ht.jj sm)) ?_
 rintro v4 w4 ⟨eJ,aD⟩
 have gK:=aD.size
 have hK:=hK.ext aD
 obtain⟨tv2,T,rfl,hT,Ns⟩:=eJ
 obtain⟨jc,AD,jd,rfl,IM,amy⟩:=dN hT
 refine zm<|zx (i:=0) rfl rfl<|zx (i:=1) rfl rfl<|eC aH rfl rfl rfl ?_
 intro w5 aT bR jo
 have hK:=hK.grow;have hK:=hK.ext aT;have hT:=hT.grow;have hT:=hT.ext aT
 refine dk aH rfl rfl rfl bR rfl ?_
 intro w6 bD bR lB
 have hK:=hK.aL bD sx;have hT:=hT.aL bD sx
 refine zA<|ag<|aQ<|zr<|zm<|eH rfl<|zm<|xz (t:=22) rfl (λh2=>?_) (λh2=>?_)
 replace h2:=bu h2
 have D8:nU e=none:=(by simpa using h2)
 refine zs<|zs<|zs<|zs<|zp rfl<|ag<|zc rfl (λh3=>?_) (λh3=>?_)
 refine zr<|zA<|zA<|ag<|aV ?_
 exact⟨_,rfl,⟨_,false,rfl,⟨λh=>by(cases h),fun⟨e',f',h1,h2,h3,h4,_⟩=>by cases D9 h1 h2;rw[D8] at h4;cases h4⟩,λ_ _ _ _ _ h=>by cases h⟩,hK⟩
 simp at h3
 replace h2:=bu h2
 have aR:∃f,nU e=some f:=(by cases hh:nU e;(·simp[hh] at h2);(·exact⟨_,rfl⟩))
 obtain⟨f,hf⟩:=aR
 have e9:=Ns f hf
 subst e9
 have AS:=LQ bF hf
 have Nt:=aeY hf
 have hfz:=Ex.size AS
 have Nu:=Ex.aeX AS
 refine zL bT aH rfl bR.all rfl<|aC (tx f.av.size f.av (lR _) (Ex.wf AS).wf om om _ _ w6 hT) ?_
 rintro v7 w7 ⟨iV,cv⟩
 have pg:=cv.size
 have hK:=hK.ext cv;have hT:=hT.ext cv;have bR:=bR.ext cv
 obtain rfl:=iV
 refine aC (MJ _ w7) ?_
 rintro v8 w8 ⟨oP,cu⟩
 have yu:=cu.size
 have hK:=hK.ext cu;have hT:=hT.ext cu;have bR:=bR.ext cu
 obtain rfl:=oP
 refine eH rfl<|zp rfl<|ag<|zc rfl (λh4=>?_) (λh4=>?_)
 have fF:mB f.av.text=false:=(by simpa using h4)
 refine zr<|zA<|zA<|ag<|aV ?_
 exact⟨_,rfl,⟨_,false,rfl,⟨λh=>by(cases h),fun⟨e',f',h1,h2,h3,h4,h5⟩=>by cases D9 h1 h2;rw[hf] at h4;cases h4;rw[fF] at h5;cases h5⟩,λ_ _ _ _ _ h=>by cases h⟩,hK⟩
 have fF:mB f.av.text=true:=(by simpa using h4)
 refine bA<|zr<|zL bT aH rfl bR.all rfl<|aC (tx f.av.size f.av (lR _) (Ex.wf AS).wf om om _ _ w8 hT) ?_
 rintro v9 w9 ⟨eR,aG⟩
 have ph:=aG.size
 have hK:=hK.ext aG
 obtain rfl:=eR
 refine zA<|zA<|ag<|aV ?_
 exact⟨_,rfl,⟨_,true,rfl,⟨λ_=>⟨e,f,he,bF,hn,hf,fF⟩,λ_=>rfl⟩,λe' f' h1 h2 h3 _=>by cases D9 h1 h2;rw[hf] at h3;cases h3;rfl⟩,hK⟩
def fl:Option Ty->aj
 |some T=>T.text
 |none=>[]
def mF (h:aj) (Ts:List Ty):Prop:=(gT h=true∧∃A,Ts=[A])∨(iA h=true∧∃A B,Ts=[A,B])∨(h=cC∧∃A B C,Ts=[A,B,C])
theorem mF.pos {Ts:List Ty} (hj:mF h Ts):0<Ts.length:=by
 rcases hj with⟨_,A,rfl⟩|⟨_,A,B,rfl⟩|⟨_,A,B,C,rfl⟩<;>simp
theorem mF.three {Ts:List Ty} (hj:mF cC Ts):∃A B C,Ts=[A,B,C]:=by
 rcases hj with⟨h,_⟩|⟨h,_⟩|⟨_,h⟩
 ·exact absurd h de
 ·exact absurd h de
 ·exact h
theorem mF.two {Ts:List Ty} (hj:mF h Ts) (hb:iA h=true):∃A B,Ts=[A,B]:=by
 rcases hj with⟨h1,_⟩|⟨_,h1⟩|⟨rfl,_⟩
 ·exfalso
  simp only[gT,oE,dE] at h1
  rcases h1 with rfl|rfl<;>exact absurd hb de
 ·exact h1
 ·exact absurd hb de
theorem mF.one {Ts:List Ty} (hj:mF h Ts) (hb:gT h=true):∃A,Ts=[A]:=by
 rcases hj with⟨_,h1⟩|⟨h1,_⟩|⟨rfl,_⟩
 ·exact h1
 ·exfalso
  simp only[gT,oE,dE] at hb
  rcases hb with rfl|rfl<;>exact absurd h1 de
 ·exact absurd hb de
def yy (f:Bool):Ty->Option (Ty×Ty)
 | .op g a b=>if g=f then some (a,b) else none
 | .i=>none
theorem Uo:A.text=[105]↔A= .i:=⟨λh=>Ty.inj (h.trans (rfl:([105]:aj)=Ty.text .i)),λh=>by rw[h];rfl⟩
theorem ae7:gT BL=true:=by simp[gT]
theorem ae8:gT qZ=true:=by simp[gT]
theorem Up:iA kD=true:=by simp[iA]
theorem ae9:iA xU=true:=by simp[iA]
theorem Uq (hh:(h=[43]∨h=[45])∨h=[42]):iA h=true:=by
 rcases hh with(rfl|rfl)|rfl<;>simp[iA]
theorem afa (h:aj) (ks:List aj) (hl:ks.length<=1000) (hn:[]∈ks) (v:Value) (L:List Nat) (w:World) (hv:bI L w v ks):
  bZ Tryz.prog 155 [str h,v] w λr w'=>r=str []∧ak [] w w':=by
 have hK:=ak.refl [] w
 refine cU [.tmp 4] 117 Tryz.func155 rfl PU rfl rfl ?_
 refine zr<|zA<|ag<|aQ<|zr<|zm<|aC (z6 ks om [] _ _ w hv) ?_
 rintro v1 w1 ⟨fO,aJ⟩
 have dy:=aJ.size
 have hK:=hK.ext aJ
 obtain rfl:=fO
 refine ag<|zc rfl (λh1=>?_) (λh1=>?_)
 refine zr<|zA<|ag<|aV ?_
 exact⟨_,rfl,rfl,hK⟩
 exact absurd hn (by simpa using h1)
theorem afb (ho:o=yy true A) (hs:o.isSome=true) (he:sP o=B.text):str (yj o)=str (fl (la kD [A,B])):=by
 cases A with
 |i=>rw[ho] at hs;cases hs
 |op g a b=>
  cases g with
  |false=>rw[ho] at hs;cases hs
  |true=>
   subst ho
   have he:a.text=B.text:=he
   show str b.text=str (fl (if k9 a B=true then some b else none))
   rw[iP (show k9 a B=true from dT he)];rfl
theorem Ur (ho:o=yy false A) (hs:o.isSome=true):str (sP o)=str (fl (la BL [A]))∧str (yj o)=str (fl (la qZ [A])):=by
 cases A with
 |i=>rw[ho] at hs;cases hs
 |op g a b=>
  cases g with
  |true=>rw[ho] at hs;cases hs
  |false=>subst ho;exact⟨rfl,rfl⟩
theorem afc (A B:Ty):fl (la xU [A,B])=if 1+A.n+B.n<=16 then(Ty.op false A B).text else[]:=by
 show fl (if 1+A.n+B.n<=16 then some (.op false A B) else none)=_
 split<;>rfl
theorem afd (hh:(h=[43]∨h=[45])∨h=[42]):fl (la h [.i,.i])=[105]:=by
 rcases hh with(rfl|rfl)|rfl<;>rfl
theorem afe (hj:mF h (A::r9)) {o1 o2:Option (Ty×Ty)} (xe:o1=yy true A) (vw:o2=yy false A) 
  (bC:(decide (h=cC)&&decide (A.text=[105])&&decide ((aF ((A::r9).map Ty.text) 1)=(aF ((A::r9).map Ty.text) 2)))=false) (bX:(decide (h=kD)&&o1.isSome&&decide (sP o1=(aF ((A::r9).map Ty.text) 1)))=false) (ew:¬h=xU)
  (jI:(decide (h=BL)&&o2.isSome)=false) (jY:(decide (h=qZ)&&o2.isSome)=false) (qk:(((decide (h=[43])||decide (h=[45]))||decide (h=[42]))&&decide (A.text=[105])&&decide ((aF ((A::r9).map Ty.text) 1)=[105]))=false):fl (la h (A::r9))=[]:=by
 rcases hj with⟨hu,A0,e⟩|⟨hb,A0,B,e⟩|⟨rfl,A0,B,C0,e⟩<;>cases e
 ·simp only[gT,oE,dE] at hu
  cases A with
  |i=>rfl
  |op g a b=>
   cases g with
   |true=>rfl
   |false=>
    subst vw
    rcases hu with rfl|rfl
    ·exact Bool.noConfusion (show true=false from jI)
    ·exact Bool.noConfusion (show true=false from jY)
 ·have Nv:aF ([A,B].map Ty.text) 1=B.text:=rfl
  rw[Nv] at bX qk
  have Nw:(h=[43]∨h=[45])∨h=[42]->fl (la h [A,B])=[]:=λhh=>by
   have h0:((decide (h=[43])||decide (h=[45]))||decide (h=[42]))=true:=by simpa using hh
   rw[h0,Bool.true_and,Bool.and_eq_false_iff] at qk
   have h1:la h [A,B]=if(k9 A .i&&k9 B .i)=true then some .i else none:=by
    rcases hh with(rfl|rfl)|rfl<;>rfl
   have hi:Ty.i.text=[105]:=rfl
   rw[h1,iN (by unfold k9;rw[hi];rcases qk with h|h<;>rw[h]<;>simp)];rfl
  simp only[iA,oE,dE] at hb
  rcases hb with(((rfl|rfl)|rfl)|rfl)|rfl
  ·exact Nw (.inl (.inl rfl))
  ·exact Nw (.inl (.inr rfl))
  ·exact Nw (.inr rfl)
  ·cases A with
   |i=>rfl
   |op g a b=>
    cases g with
    |false=>rfl
    |true=>
     subst xe
     have bX:decide (a.text=B.text)=false:=bX
     show fl (if k9 a B=true then some b else none)=[]
     rw[iN (by unfold k9;rw[bX];simp)];rfl
  ·exact absurd rfl ew
 ·have Nv:aF ([A,B,C0].map Ty.text) 1=B.text:=rfl
  have hcC:aF ([A,B,C0].map Ty.text) 2=C0.text:=rfl
  rw[Nv,hcC] at bC
  have bC:(decide (A.text=[105])&&decide (B.text=C0.text))=false:=bC
  show fl (if(k9 A .i&&k9 B C0)=true then some B else none)=[]
  have hi:Ty.i.text=[105]:=rfl
  rw[iN (by unfold k9;rw[hi,bC];simp)];rfl
theorem afg (hj:mF h (A::r9)) (hh:h=cC) (hA:A.text=[105]) (hB:(aF ((A::r9).map Ty.text) 1)=(aF ((A::r9).map Ty.text) 2)):str (aF ((A::r9).map Ty.text) 1)=str (fl (la h (A::r9))):=by
 subst hh
 obtain⟨A0,B,C0,e⟩:=hj.three
 cases e
 have hB:B.text=C0.text:=hB
 show str B.text=str (fl (if(k9 A .i&&k9 B C0)=true then some B else none))
 rw[iP (by rw[aE];exact⟨dT hA,dT hB⟩)];rfl
theorem afh (hj:mF h (A::r9)) (hh:h=kD) (ho:o=yy true A) (hs:o.isSome=true) (he:sP o=(aF ((A::r9).map Ty.text) 1)):str (yj o)=str (fl (la h (A::r9))):=by
 subst hh
 obtain⟨A0,B,e⟩:=hj.two Up
 cases e
 exact afb ho hs he
theorem afi (hj:mF h (A::r9)) (hh:h=BL) (ho:o=yy false A) (hs:o.isSome=true):str (sP o)=str (fl (la h (A::r9))):=by
 subst hh
 obtain⟨A0,e⟩:=hj.one ae7
 cases e
 exact(Ur ho hs).1
theorem afj (hj:mF h (A::r9)) (hh:h=qZ) (ho:o=yy false A) (hs:o.isSome=true):str (yj o)=str (fl (la h (A::r9))):=by
 subst hh
 obtain⟨A0,e⟩:=hj.one ae8
 cases e
 exact(Ur ho hs).2
theorem afk (hh:h=xU) (e:A::r9=[A,B]):str (if 1+A.n+B.n<=16 then(Ty.op false A B).text else[])=str (fl (la h (A::r9))):=by
 subst hh
 rw[e,afc]
theorem afl (hj:mF h (A::r9)) (hh:(h=[43]∨h=[45])∨h=[42]) (hA:A.text=[105]) (hB:(aF ((A::r9).map Ty.text) 1)=[105]):str [105]=str (fl (la h (A::r9))):=by
 obtain⟨A0,B,e⟩:=hj.two (Uq hh)
 cases e
 have hB:B.text=[105]:=hB
 obtain rfl:=Uo.1 hA
 obtain rfl:=Uo.1 hB
 rw[afd hh]
theorem afm (hj:mF h (A::r9)) (hh:h=xU):∃B,A::r9=[A,B]∧(aF ((A::r9).map Ty.text) 1)=B.text:=by
 subst hh
 obtain⟨A0,B,e⟩:=hj.two ae9
 cases e
 exact⟨B,rfl,rfl⟩
set_option maxHeartbeats 4000000 in
theorem afn (h:aj) (Ts:List Ty) (hj:mF h Ts) (hT:∀T,T∈Ts->T.n<=16) (v:Value) (L:List Nat) (w:World) (hv:bI L w v (Ts.map Ty.text)):
  bZ Tryz.prog 155 [str h,v] w λr w'=>r=str (fl (la h Ts))∧ak [] w w':=by
 have hK:=ak.refl [] w
 have hp:=hj.pos
 have dI:=hv
 obtain⟨a,np,c,rfl,Us⟩:=eI hv
 have fi:(Ts.map Ty.text).length=Ts.length:=by simp
 rw[fi] at Us
 subst Us
 obtain⟨A,r9,rfl⟩:∃A r,Ts=A::r:=by cases Ts with|nil=>simp at hp|cons A r=>exact⟨A,r,rfl⟩
 have hA:=hT A sm
 have hg:∀i,i<(A::r9).length->(((A::r9).map Ty.text)[i]?=some (aF ((A::r9).map Ty.text) i)):=λi hi=>lj (by rw[fi];exact hi)
 obtain⟨b,off,rfl,er⟩:=qU dI (hg 0 hp)
 have hx:∀i,i<(A::r9).length->iH w b (off+i*1) [str (aF ((A::r9).map Ty.text) i)]:=λi hi=>by obtain⟨b1,ga,e1,hc⟩:=qU dI (hg i hi);cases e1;exact hc
 have eN:([]:aj)∉(A::r9).map Ty.text:=λhm=>by obtain⟨T,_,h2⟩:=List.mem_map.1 hm;exact absurd h2 T.ne
 refine cU [.tmp 4] 117 Tryz.func155 rfl PU rfl rfl ?_
 refine zr<|zA<|ag<|aQ<|zr<|zm<|aC (z6 ((A::r9).map Ty.text) (by rw[fi];rcases hj with⟨_,_,e⟩|⟨_,_,_,e⟩|⟨_,_,_,_,e⟩<;>rw[e]<;>simp) [] _ _ w dI) ?_
 rintro v1 w1 ⟨fO,aJ⟩
 have dy:=aJ.size
 have hK:=hK.ext aJ
 obtain rfl:=fO
 refine ag<|zc rfl (λh1=>?_) (λh1=>?_)
 exact absurd (by simpa using h1) eN
 refine bA<|zr<|zm<|zi (i:=0) bh bB rfl rfl hp<|zl cg rfl ((hx 0 hp).ext hK 0 _ rfl)<|aC (Td A.text w1) ?_
 rintro v2 w2 ⟨dz,aq⟩
 have dR:=aq.size
 have hK:=hK.ext aq
 obtain⟨o1,xe,rfl⟩:=dz
 have xe:o1=yy true A:=(by have:=Tf hA true xe;cases A<;>exact this)
 refine zm<|zx (i:=0) rfl rfl<|zx (i:=1) rfl rfl<|zx (i:=2) rfl rfl<|zA<|zA<|zA<|ag<|zr<|zm<|zi (i:=0) bh bB rfl rfl hp<|zl cg rfl ((hx 0 hp).ext hK 0 _ rfl)<|aC (Te A.text w2) ?_
 rintro v3 w3 ⟨et,aK⟩
 have gd:=aK.size
 have hK:=hK.ext aK
 obtain⟨o2,vw,rfl⟩:=et
 have vw:o2=yy false A:=(by have:=Tf hA false vw;cases A<;>exact this)
 refine zm<|zx (i:=0) rfl rfl<|zx (i:=1) rfl rfl<|zx (i:=2) rfl rfl<|zA<|zA<|zA<|ag<|aQ<|cP<|aQ ?_
 refine qf eu aS 18 (rA 32 17++[31]) (rA 32 17++[31]) [[],[0],[1],[2],[2,3],[2,4],[2,5],[2,6],[7],[8],[8,9],[8,10],[8],[8,12],[8,13],[8,11,14],[8,15],[16]] [λv _=>v=(str h),λv _=>v=(.bool (decide (h=cC))),λv _=>v=(.bool (decide (h=cC))),λv _=>(decide (h=cC))=true->v=(.slice (some ⟨b,off,none⟩) (A::r9).length c),λv _=>(decide (h=cC))=true->v=(.pointer (some ⟨b,off+0*1,none⟩)),λv _=>(decide (h=cC))=true->v=(str A.text),λv _=>(decide (h=cC))=true->v=(.bool (decide (A.text=[105]))),λv _=>v=(.bool (decide (h=cC)&&decide (A.text=[105]))),λv _=>v=(.bool (decide (h=cC)&&decide (A.text=[105]))),λv _=>(decide (h=cC)&&decide (A.text=[105]))=true->v=(.slice (some ⟨b,off,none⟩) (A::r9).length c),λv _=>(decide (h=cC)&&decide (A.text=[105]))=true->v=(.pointer (some ⟨b,off+1*1,none⟩)),λv _=>(decide (h=cC)&&decide (A.text=[105]))=true->v=(str (aF ((A::r9).map Ty.text) 1)),λv _=>(decide (h=cC)&&decide (A.text=[105]))=true->v=(.slice (some ⟨b,off,none⟩) (A::r9).length c),λv _=>(decide (h=cC)&&decide (A.text=[105]))=true->v=(.pointer (some ⟨b,off+2*1,none⟩)),λv _=>(decide (h=cC)&&decide (A.text=[105]))=true->v=(str (aF ((A::r9).map Ty.text) 2)),λv _=>(decide (h=cC)&&decide (A.text=[105]))=true->v=(.bool (decide ((aF ((A::r9).map Ty.text) 1)=(aF ((A::r9).map Ty.text) 2)))),λv _=>v=(.bool (decide (h=cC)&&decide (A.text=[105])&&decide ((aF ((A::r9).map Ty.text) 1)=(aF ((A::r9).map Ty.text) 2)))),λv _=>v=(.bool (decide (h=cC)&&decide (A.text=[105])&&decide ((aF ((A::r9).map Ty.text) 1)=(aF ((A::r9).map Ty.text) 2))))] de (cX (cX (cX (eV (eV (eV (eV (cX (cX (eV (eV (eV (eV (eV (eV (eV (cX (cX trivial)))))))))))))))))) (λwd aB=>?_) ?_
 refine bN ?_ ?_
 intro x vs w4 e aD hd he
 replace aD:=aS.trans aB aD
 replace he:e=aM (aN _ x _) []:=he
 subst he
 refine zm<|ag ?_
 exact dn (aS.refl _) rfl
 refine bN ?_ ?_
 intro x vs w4 e aD hd he
 have d0:vs 0=(str h):=hd
 replace aD:=aS.trans aB aD
 replace he:e=aM (aN _ x _) [(32,vs 0)]:=he
 rw[d0] at he
 subst he
 refine cW rfl rfl<|ag ?_
 exact dn (aS.refl _) rfl
 refine bN ?_ ?_
 intro x vs w4 e aD hd he
 have d1:vs 1=(.bool (decide (h=cC))):=hd
 replace aD:=aS.trans aB aD
 replace he:e=aM (aN _ x _) [(33,vs 1)]:=he
 rw[d1] at he
 subst he
 refine zm<|ag ?_
 exact dn (aS.refl _) rfl
 refine bN ?_ ?_
 intro x vs w4 e aD hd he
 have d2:vs 2=(.bool (decide (h=cC))):=hd
 replace aD:=aS.trans aB aD
 rcases bE (decide (h=cC)) with hg|hg
 rw[hg] at d2
 replace he:e=aM (aN _ x _) [(34,vs 2)]:=he
 rw[d2] at he
 subst he
 refine zm<|ag ?_
 exact dn (aS.refl _) (show(decide (h=cC))=true->_=((.slice (some ⟨b,off,none⟩) (A::r9).length c):Value) from λ_=>rfl)
 rw[hg] at d2
 replace he:e=aM (aN _ x _) [(34,vs 2)]:=he
 rw[d2] at he
 subst he
 refine zs<|ag ?_
 exact dn (aS.refl _) (show(decide (h=cC))=true->_=(_:Value) from λhh=>nomatch hg.symm.trans hh)
 refine bN ?_ ?_
 intro x vs w4 e aD hd he
 have aR:(vs 2=(.bool (decide (h=cC))))∧((decide (h=cC))=true->vs 3=(.slice (some ⟨b,off,none⟩) (A::r9).length c)):=hd
 obtain⟨d2,d3⟩:=aR
 replace aD:=aS.trans aB aD
 rcases bE (decide (h=cC)) with hg|hg
 rw[hg] at d2
 replace d3:=d3 hg
 replace he:e=aM (aN _ x _) [(34,vs 2),(35,vs 3)]:=he
 rw[d2,d3] at he
 subst he
 refine zi (i:=0) bh bB rfl rfl hp<|ag ?_
 exact dn (aS.refl _) (show(decide (h=cC))=true->_=((.pointer (some ⟨b,off+0*1,none⟩)):Value) from λ_=>rfl)
 rw[hg] at d2
 replace he:e=aM (aN _ x _) [(34,vs 2),(35,vs 3)]:=he
 rw[d2] at he
 subst he
 refine zs<|ag ?_
 exact dn (aS.refl _) (show(decide (h=cC))=true->_=(_:Value) from λhh=>nomatch hg.symm.trans hh)
 refine bN ?_ ?_
 intro x vs w4 e aD hd he
 have aR:(vs 2=(.bool (decide (h=cC))))∧((decide (h=cC))=true->vs 4=(.pointer (some ⟨b,off+0*1,none⟩))):=hd
 obtain⟨d2,d4⟩:=aR
 replace aD:=aS.trans aB aD
 have hK:=hK.ext aD
 rcases bE (decide (h=cC)) with hg|hg
 rw[hg] at d2
 replace d4:=d4 hg
 replace he:e=aM (aN _ x _) [(34,vs 2),(36,vs 4)]:=he
 rw[d2,d4] at he
 subst he
 refine zl cg rfl ((hx 0 hp).ext hK 0 _ rfl)<|ag ?_
 exact dn (aS.refl _) (show(decide (h=cC))=true->_=((str A.text):Value) from λ_=>rfl)
 rw[hg] at d2
 replace he:e=aM (aN _ x _) [(34,vs 2),(36,vs 4)]:=he
 rw[d2] at he
 subst he
 refine zs<|ag ?_
 exact dn (aS.refl _) (show(decide (h=cC))=true->_=(_:Value) from λhh=>nomatch hg.symm.trans hh)
 refine bN ?_ ?_
 intro x vs w4 e aD hd he
 have aR:(vs 2=(.bool (decide (h=cC))))∧((decide (h=cC))=true->vs 5=(str A.text)):=hd
 obtain⟨d2,d5⟩:=aR
 replace aD:=aS.trans aB aD
 rcases bE (decide (h=cC)) with hg|hg
 rw[hg] at d2
 replace d5:=d5 hg
 replace he:e=aM (aN _ x _) [(34,vs 2),(37,vs 5)]:=he
 rw[d2,d5] at he
 subst he
 refine cW rfl rfl<|ag ?_
 exact dn (aS.refl _) (show(decide (h=cC))=true->_=((.bool (decide (A.text=[105]))):Value) from λ_=>rfl)
 rw[hg] at d2
 replace he:e=aM (aN _ x _) [(34,vs 2),(37,vs 5)]:=he
 rw[d2] at he
 subst he
 refine zs<|ag ?_
 exact dn (aS.refl _) (show(decide (h=cC))=true->_=(_:Value) from λhh=>nomatch hg.symm.trans hh)
 refine bN ?_ ?_
 intro x vs w4 e aD hd he
 have aR:(vs 2=(.bool (decide (h=cC))))∧((decide (h=cC))=true->vs 6=(.bool (decide (A.text=[105])))):=hd
 obtain⟨d2,d6⟩:=aR
 replace aD:=aS.trans aB aD
 rcases bE (decide (h=cC)) with hg|hg
 rw[hg] at d2
 replace d6:=d6 hg
 replace he:e=aM (aN _ x _) [(34,vs 2),(38,vs 6)]:=he
 rw[d2,d6] at he
 subst he
 refine zp rfl<|ag ?_
 exact dn (aS.refl _) (by first|rfl|(rw[hg];rfl))
 rw[hg] at d2
 replace he:e=aM (aN _ x _) [(34,vs 2),(38,vs 6)]:=he
 rw[d2] at he
 subst he
 refine zp rfl<|ag ?_
 exact dn (aS.refl _) (by first|rfl|(rw[hg];rfl))
 refine bN ?_ ?_
 intro x vs w4 e aD hd he
 have d7:vs 7=(.bool (decide (h=cC)&&decide (A.text=[105]))):=hd
 replace aD:=aS.trans aB aD
 replace he:e=aM (aN _ x _) [(39,vs 7)]:=he
 rw[d7] at he
 subst he
 refine zm<|ag ?_
 exact dn (aS.refl _) rfl
 refine bN ?_ ?_
 intro x vs w4 e aD hd he
 have d8:vs 8=(.bool (decide (h=cC)&&decide (A.text=[105]))):=hd
 replace aD:=aS.trans aB aD
 rcases bE (decide (h=cC)&&decide (A.text=[105])) with hg|hg
 rw[hg] at d8
 replace he:e=aM (aN _ x _) [(40,vs 8)]:=he
 rw[d8] at he
 subst he
 refine zm<|ag ?_
 exact dn (aS.refl _) (show(decide (h=cC)&&decide (A.text=[105]))=true->_=((.slice (some ⟨b,off,none⟩) (A::r9).length c):Value) from λ_=>rfl)
 rw[hg] at d8
 replace he:e=aM (aN _ x _) [(40,vs 8)]:=he
 rw[d8] at he
 subst he
 refine zs<|ag ?_
 exact dn (aS.refl _) (show(decide (h=cC)&&decide (A.text=[105]))=true->_=(_:Value) from λhh=>nomatch hg.symm.trans hh)
 refine bN ?_ ?_
 intro x vs w4 e aD hd he
 have aR:(vs 8=(.bool (decide (h=cC)&&decide (A.text=[105]))))∧((decide (h=cC)&&decide (A.text=[105]))=true->vs 9=(.slice (some ⟨b,off,none⟩) (A::r9).length c)):=hd
 obtain⟨d8,d9⟩:=aR
 replace aD:=aS.trans aB aD
 rcases bE (decide (h=cC)&&decide (A.text=[105])) with hg|hg
 rw[hg] at d8
 replace d9:=d9 hg
 replace he:e=aM (aN _ x _) [(40,vs 8),(41,vs 9)]:=he
 rw[d8,d9] at he
 subst he
 refine zi (i:=1) bh bB rfl rfl ((by simp only[aE,dE] at hg;obtain⟨_,_,_,e⟩:=(hg.1▸hj:mF cC _).three;rw[e];simp))<|ag ?_
 exact dn (aS.refl _) (show(decide (h=cC)&&decide (A.text=[105]))=true->_=((.pointer (some ⟨b,off+1*1,none⟩)):Value) from λ_=>rfl)
 rw[hg] at d8
 replace he:e=aM (aN _ x _) [(40,vs 8),(41,vs 9)]:=he
 rw[d8] at he
 subst he
 refine zs<|ag ?_
 exact dn (aS.refl _) (show(decide (h=cC)&&decide (A.text=[105]))=true->_=(_:Value) from λhh=>nomatch hg.symm.trans hh)
 refine bN ?_ ?_
 intro x vs w4 e aD hd he
 have aR:(vs 8=(.bool (decide (h=cC)&&decide (A.text=[105]))))∧((decide (h=cC)&&decide (A.text=[105]))=true->vs 10=(.pointer (some ⟨b,off+1*1,none⟩))):=hd
 obtain⟨d8,d10⟩:=aR
 replace aD:=aS.trans aB aD
 have hK:=hK.ext aD
 rcases bE (decide (h=cC)&&decide (A.text=[105])) with hg|hg
 rw[hg] at d8
 replace d10:=d10 hg
 replace he:e=aM (aN _ x _) [(40,vs 8),(42,vs 10)]:=he
 rw[d8,d10] at he
 subst he
 refine zl cg rfl ((hx 1 (by simp only[aE,dE] at hg;obtain⟨_,_,_,e⟩:=(hg.1▸hj:mF cC _).three;rw[e];simp)).ext hK 0 _ rfl)<|ag ?_
 exact dn (aS.refl _) (show(decide (h=cC)&&decide (A.text=[105]))=true->_=((str (aF ((A::r9).map Ty.text) 1)):Value) from λ_=>rfl)
 rw[hg] at d8
 replace he:e=aM (aN _ x _) [(40,vs 8),(42,vs 10)]:=he
 rw[d8] at he
 subst he
 refine zs<|ag ?_
 exact dn (aS.refl _) (show(decide (h=cC)&&decide (A.text=[105]))=true->_=(_:Value) from λhh=>nomatch hg.symm.trans hh)
 refine bN ?_ ?_
 intro x vs w4 e aD hd he
 have d8:vs 8=(.bool (decide (h=cC)&&decide (A.text=[105]))):=hd
 replace aD:=aS.trans aB aD
 rcases bE (decide (h=cC)&&decide (A.text=[105])) with hg|hg
 rw[hg] at d8
 replace he:e=aM (aN _ x _) [(40,vs 8)]:=he
 rw[d8] at he
 subst he
 refine zm<|ag ?_
 exact dn (aS.refl _) (show(decide (h=cC)&&decide (A.text=[105]))=true->_=((.slice (some ⟨b,off,none⟩) (A::r9).length c):Value) from λ_=>rfl)
 rw[hg] at d8
 replace he:e=aM (aN _ x _) [(40,vs 8)]:=he
 rw[d8] at he
 subst he
 refine zs<|ag ?_
 exact dn (aS.refl _) (show(decide (h=cC)&&decide (A.text=[105]))=true->_=(_:Value) from λhh=>nomatch hg.symm.trans hh)
 refine bN ?_ ?_
 intro x vs w4 e aD hd he
 have aR:(vs 8=(.bool (decide (h=cC)&&decide (A.text=[105]))))∧((decide (h=cC)&&decide (A.text=[105]))=true->vs 12=(.slice (some ⟨b,off,none⟩) (A::r9).length c)):=hd
 obtain⟨d8,d12⟩:=aR
 replace aD:=aS.trans aB aD
 rcases bE (decide (h=cC)&&decide (A.text=[105])) with hg|hg
 rw[hg] at d8
 replace d12:=d12 hg
 replace he:e=aM (aN _ x _) [(40,vs 8),(44,vs 12)]:=he
 rw[d8,d12] at he
 subst he
 refine zi (i:=2) bh bB rfl rfl ((by simp only[aE,dE] at hg;obtain⟨_,_,_,e⟩:=(hg.1▸hj:mF cC _).three;rw[e];simp))<|ag ?_
 exact dn (aS.refl _) (show(decide (h=cC)&&decide (A.text=[105]))=true->_=((.pointer (some ⟨b,off+2*1,none⟩)):Value) from λ_=>rfl)
 rw[hg] at d8
 replace he:e=aM (aN _ x _) [(40,vs 8),(44,vs 12)]:=he
 rw[d8] at he
 subst he
 refine zs<|ag ?_
 exact dn (aS.refl _) (show(decide (h=cC)&&decide (A.text=[105]))=true->_=(_:Value) from λhh=>nomatch hg.symm.trans hh)
 refine bN ?_ ?_
 intro x vs w4 e aD hd he
 have aR:(vs 8=(.bool (decide (h=cC)&&decide (A.text=[105]))))∧((decide (h=cC)&&decide (A.text=[105]))=true->vs 13=(.pointer (some ⟨b,off+2*1,none⟩))):=hd
 obtain⟨d8,d13⟩:=aR
 replace aD:=aS.trans aB aD
 have hK:=hK.ext aD
 rcases bE (decide (h=cC)&&decide (A.text=[105])) with hg|hg
 rw[hg] at d8
 replace d13:=d13 hg
 replace he:e=aM (aN _ x _) [(40,vs 8),(45,vs 13)]:=he
 rw[d8,d13] at he
 subst he
 refine zl cg rfl ((hx 2 (by simp only[aE,dE] at hg;obtain⟨_,_,_,e⟩:=(hg.1▸hj:mF cC _).three;rw[e];simp)).ext hK 0 _ rfl)<|ag ?_
 exact dn (aS.refl _) (show(decide (h=cC)&&decide (A.text=[105]))=true->_=((str (aF ((A::r9).map Ty.text) 2)):Value) from λ_=>rfl)
 rw[hg] at d8
 replace he:e=aM (aN _ x _) [(40,vs 8),(45,vs 13)]:=he
 rw[d8] at he
 subst he
 refine zs<|ag ?_
 exact dn (aS.refl _) (show(decide (h=cC)&&decide (A.text=[105]))=true->_=(_:Value) from λhh=>nomatch hg.symm.trans hh)
 refine bN ?_ ?_
 intro x vs w4 e aD hd he
 have aR:(vs 8=(.bool (decide (h=cC)&&decide (A.text=[105]))))∧((decide (h=cC)&&decide (A.text=[105]))=true->vs 11=(str (aF ((A::r9).map Ty.text) 1)))∧((decide (h=cC)&&decide (A.text=[105]))=true->vs 14=(str (aF ((A::r9).map Ty.text) 2))):=hd
 obtain⟨d8,d11,d14⟩:=aR
 replace aD:=aS.trans aB aD
 rcases bE (decide (h=cC)&&decide (A.text=[105])) with hg|hg
 rw[hg] at d8
 replace d11:=d11 hg
 replace d14:=d14 hg
 replace he:e=aM (aN _ x _) [(40,vs 8),(43,vs 11),(46,vs 14)]:=he
 rw[d8,d11,d14] at he
 subst he
 refine cW rfl rfl<|ag ?_
 exact dn (aS.refl _) (show(decide (h=cC)&&decide (A.text=[105]))=true->_=((.bool (decide ((aF ((A::r9).map Ty.text) 1)=(aF ((A::r9).map Ty.text) 2)))):Value) from λ_=>rfl)
 rw[hg] at d8
 replace he:e=aM (aN _ x _) [(40,vs 8),(43,vs 11),(46,vs 14)]:=he
 rw[d8] at he
 subst he
 refine zs<|ag ?_
 exact dn (aS.refl _) (show(decide (h=cC)&&decide (A.text=[105]))=true->_=(_:Value) from λhh=>nomatch hg.symm.trans hh)
 refine bN ?_ ?_
 intro x vs w4 e aD hd he
 have aR:(vs 8=(.bool (decide (h=cC)&&decide (A.text=[105]))))∧((decide (h=cC)&&decide (A.text=[105]))=true->vs 15=(.bool (decide ((aF ((A::r9).map Ty.text) 1)=(aF ((A::r9).map Ty.text) 2))))):=hd
 obtain⟨d8,d15⟩:=aR
 replace aD:=aS.trans aB aD
 rcases bE (decide (h=cC)&&decide (A.text=[105])) with hg|hg
 rw[hg] at d8
 replace d15:=d15 hg
 replace he:e=aM (aN _ x _) [(40,vs 8),(47,vs 15)]:=he
 rw[d8,d15] at he
 subst he
 refine zp rfl<|ag ?_
 exact dn (aS.refl _) (by first|rfl|(rw[hg];rfl))
 rw[hg] at d8
 replace he:e=aM (aN _ x _) [(40,vs 8),(47,vs 15)]:=he
 rw[d8] at he
 subst he
 refine zp rfl<|ag ?_
 exact dn (aS.refl _) (by first|rfl|(rw[hg];rfl))
 refine bN ?_ ?_
 intro x vs w4 e aD hd he
 have d16:vs 16=(.bool (decide (h=cC)&&decide (A.text=[105])&&decide ((aF ((A::r9).map Ty.text) 1)=(aF ((A::r9).map Ty.text) 2)))):=hd
 replace aD:=aS.trans aB aD
 replace he:e=aM (aN _ x _) [(48,vs 16)]:=he
 rw[d16] at he
 subst he
 refine zA<|ag ?_
 exact dn (aS.refl _) rfl
 exact trivial
 intro x vs nP lE bJ
 have d0:vs 0=(str h):=bJ 0 de
 have d1:vs 1=(.bool (decide (h=cC))):=bJ 1 de
 have d2:vs 2=(.bool (decide (h=cC))):=bJ 2 de
 have d3:(decide (h=cC))=true->vs 3=(.slice (some ⟨b,off,none⟩) (A::r9).length c):=bJ 3 de
 have d4:(decide (h=cC))=true->vs 4=(.pointer (some ⟨b,off+0*1,none⟩)):=bJ 4 de
 have d5:(decide (h=cC))=true->vs 5=(str A.text):=bJ 5 de
 have d6:(decide (h=cC))=true->vs 6=(.bool (decide (A.text=[105]))):=bJ 6 de
 have d7:vs 7=(.bool (decide (h=cC)&&decide (A.text=[105]))):=bJ 7 de
 have d8:vs 8=(.bool (decide (h=cC)&&decide (A.text=[105]))):=bJ 8 de
 have d9:(decide (h=cC)&&decide (A.text=[105]))=true->vs 9=(.slice (some ⟨b,off,none⟩) (A::r9).length c):=bJ 9 de
 have d10:(decide (h=cC)&&decide (A.text=[105]))=true->vs 10=(.pointer (some ⟨b,off+1*1,none⟩)):=bJ 10 de
 have d11:(decide (h=cC)&&decide (A.text=[105]))=true->vs 11=(str (aF ((A::r9).map Ty.text) 1)):=bJ 11 de
 have d12:(decide (h=cC)&&decide (A.text=[105]))=true->vs 12=(.slice (some ⟨b,off,none⟩) (A::r9).length c):=bJ 12 de
 have d13:(decide (h=cC)&&decide (A.text=[105]))=true->vs 13=(.pointer (some ⟨b,off+2*1,none⟩)):=bJ 13 de
 have d14:(decide (h=cC)&&decide (A.text=[105]))=true->vs 14=(str (aF ((A::r9).map Ty.text) 2)):=bJ 14 de
 have d15:(decide (h=cC)&&decide (A.text=[105]))=true->vs 15=(.bool (decide ((aF ((A::r9).map Ty.text) 1)=(aF ((A::r9).map Ty.text) 2)))):=bJ 15 de
 have d16:vs 16=(.bool (decide (h=cC)&&decide (A.text=[105])&&decide ((aF ((A::r9).map Ty.text) 1)=(aF ((A::r9).map Ty.text) 2)))):=bJ 16 de
 have d17:vs 17=(.bool (decide (h=cC)&&decide (A.text=[105])&&decide ((aF ((A::r9).map Ty.text) 1)=(aF ((A::r9).map Ty.text) 2)))):=bJ 17 de
 have hK:=hK.ext lE
 change OW _ _ _ _ [] (aM (aN _ x _) (zZ 32 [vs 0,vs 1,vs 2,vs 3,vs 4,vs 5,vs 6,vs 7,vs 8,vs 9,vs 10,vs 11,vs 12,vs 13,vs 14,vs 15,vs 16]++[(31,vs 17)])) _
 rw[d0,d1,d2,d7,d8,d16,d17]
 refine ag<|zc rfl (λh2=>?_) (λh2=>?_)
 simp only[aE,dE] at h2
 obtain⟨⟨hh,Ea⟩,hBC⟩:=h2
 have iZ:1<(A::r9).length:=(by obtain⟨_,_,_,e⟩:=(hh▸hj:mF cC _).three;rw[e];simp)
 refine zr<|zm<|zi (i:=1) bh bB rfl rfl iZ<|zl cg rfl ((hx 1 iZ).ext hK 0 _ rfl)<|zA<|ag<|aV ?_
 exact⟨_,rfl,afg hj hh Ea hBC,hK⟩
 have bC:=h2
 refine zr<|zm<|cW rfl rfl<|zm ?_
 apply fU 2 55 57 [55,56,57] (λw'=>nP=w') rfl
 intro h3
 replace h3:=bu h3
 refine zm<|zp rfl<|ag ?_
 exact mg rfl rfl
 intro h3
 replace h3:=bu h3
 refine zs<|zp rfl<|ag ?_
 exact mg rfl rfl
 rintro xx _ rfl
 refine zm ?_
 apply fU 6 58 64 [58,59,60,61,62,63,64] (λw'=>nP=w') rfl
 intro h4
 replace h4:=bu h4
 have iZ:1<(A::r9).length:=(by simp only[aE,dE] at h4;obtain⟨_,_,e⟩:=hj.two (h4.1▸Up);rw[e];simp)
 refine zm<|zm<|zi (i:=1) bh bB rfl rfl iZ<|zl cg rfl ((hx 1 iZ).ext hK 0 _ rfl)<|cW rfl rfl<|zp rfl<|ag ?_
 exact mg rfl rfl
 intro h4
 replace h4:=bu h4
 refine zs<|zs<|zs<|zs<|zs<|zp rfl<|ag ?_
 exact mg rfl rfl
 rintro xx _ rfl
 refine zA<|ag<|zc rfl (λh5=>?_) (λh5=>?_)
 simp only[aE,dE] at h5
 obtain⟨⟨hh,dy⟩,H9⟩:=h5
 refine zr<|zm<|zA<|ag<|aV ?_
 exact⟨_,rfl,afh hj hh xe dy H9,hK⟩
 have bX:=h5
 refine zr<|zm<|cW rfl rfl<|zA<|ag<|zc rfl (λh6=>?_) (λh6=>?_)
 have hh:h=xU:=h6
 obtain⟨B,eB,hK1⟩:=afm hj hh
 have iZ:1<(A::r9).length:=(by rw[eB];simp)
 have iR:=hx 1 iZ
 rw[hK1] at iR
 refine aQ ?_
 apply mx eu 12 (rA 70 7++[69,77,78,11,12]) (rA 70 7++[69,77,78,11,12]) [[],[0],[1],[],[3],[4],[2,5],[6],[7],[7],[8],[9]] [It.v _,It.v _,It.v _,It.v _,It.v _,It.v _,It.v _,It.v _,It.v _,It.v _,It.v _,It.v _] de rfl
 intro wd aB
 refine eM ?_
 refine vk aB (λx pX jR=>?_) ?_
 refine zi (i:=0) bh bB rfl rfl hp ?_
 exact pv
 refine vk aB (λx pX jR=>?_) ?_
 have hK:=hK.ext jR
 refine zl cg rfl ((hx 0 hp).ext hK 0 _ rfl) ?_
 exact pv
 refine eM ?_
 refine vk aB (λx pX jR=>?_) ?_
 refine zi (i:=1) bh bB rfl rfl iZ ?_
 exact pv
 refine vk aB (λx pX jR=>?_) ?_
 have hK:=hK.ext jR
 refine zl cg rfl (iR.ext hK 0 _ rfl) ?_
 exact pv
 refine vk aB (λx pX jR=>?_) ?_
 refine aC (Th false A B hA (hT B (by rw[eB];simp)) pX) ?_
 rintro v45 qy ⟨afq,wJ⟩
 have amB:=wJ.size
 obtain rfl:=afq
 exact pk wJ
 refine eM ?_
 refine vc (λ_ _ _=>zx (i:=0) rfl rfl pv) ?_
 refine vc (λ_ _ _=>zx (i:=1) rfl rfl pv) ?_
 refine vc (λ_ _ _=>zA pv) ?_
 refine vc (λ_ _ _=>zA pv) ?_
 exact trivial
 intro x w83 afr
 have hK:=hK.ext afr
 change OW _ _ _ _ [] (aM (aN _ x _) (zZ 70 [_,_,_,_,_,_,_]++[(69,_),(77,_),(78,_),(11,_),(12,_)])) _
 refine ag<|zr<|zm<|zA<|ag<|aV ?_
 exact⟨_,rfl,afk hh eB,hK⟩
 have ew:=h6
 refine zr<|zm<|cW rfl rfl<|zm ?_
 apply fU 2 83 85 [83,84,85] (λw'=>nP=w') rfl
 intro h7
 replace h7:=bu h7
 refine zm<|zp rfl<|ag ?_
 exact mg rfl rfl
 intro h7
 replace h7:=bu h7
 refine zs<|zp rfl<|ag ?_
 exact mg rfl rfl
 rintro xx _ rfl
 refine zA<|ag<|zc rfl (λh8=>?_) (λh8=>?_)
 simp only[aE,dE] at h8
 obtain⟨hh,dy⟩:=h8
 refine zr<|zm<|zA<|ag<|aV ?_
 exact⟨_,rfl,afi hj hh vw dy,hK⟩
 have jI:=h8
 refine zr<|zm<|cW rfl rfl<|zm ?_
 apply fU 2 90 92 [90,91,92] (λw'=>nP=w') rfl
 intro h9
 replace h9:=bu h9
 refine zm<|zp rfl<|ag ?_
 exact mg rfl rfl
 intro h9
 replace h9:=bu h9
 refine zs<|zp rfl<|ag ?_
 exact mg rfl rfl
 rintro xx _ rfl
 refine zA<|ag<|zc rfl (λgI=>?_) (λgI=>?_)
 simp only[aE,dE] at gI
 obtain⟨hh,dy⟩:=gI
 refine zr<|zm<|zA<|ag<|aV ?_
 exact⟨_,rfl,afj hj hh vw dy,hK⟩
 have jY:=gI
 refine zr<|zm<|cW rfl rfl<|zm ?_
 apply fo 3 97 100 [97,98,99,100] (λw'=>nP=w') rfl
 intro km
 replace km:=bu km
 refine zs<|zs<|zp rfl<|ag ?_
 exact mg rfl rfl
 intro km
 replace km:=bu km
 refine zm<|cW rfl rfl<|zp rfl<|ag ?_
 exact mg rfl rfl
 rintro xx _ rfl
 refine zm ?_
 apply fo 3 101 104 [101,102,103,104] (λw'=>nP=w') rfl
 intro jJ
 replace jJ:=bu jJ
 refine zs<|zs<|zp rfl<|ag ?_
 exact mg rfl rfl
 intro jJ
 replace jJ:=bu jJ
 refine zm<|cW rfl rfl<|zp rfl<|ag ?_
 exact mg rfl rfl
 rintro xx _ rfl
 refine zm ?_
 apply fU 5 105 110 [105,106,107,108,109,110] (λw'=>nP=w') rfl
 intro lD
 replace lD:=bu lD
 refine zm<|zi (i:=0) bh bB rfl rfl hp<|zl cg rfl ((hx 0 hp).ext hK 0 _ rfl)<|cW rfl rfl<|zp rfl<|ag ?_
 exact mg rfl rfl
 intro lD
 replace lD:=bu lD
 refine zs<|zs<|zs<|zs<|zp rfl<|ag ?_
 exact mg rfl rfl
 rintro xx _ rfl
 refine zm ?_
 apply fU 5 111 116 [111,112,113,114,115,116] (λw'=>nP=w') rfl
 intro uO
 replace uO:=bu uO
 have iZ:1<(A::r9).length:=(by simp only[aE,oE,dE] at uO;obtain⟨_,_,e⟩:=hj.two (Uq uO.1);rw[e];simp)
 refine zm<|zi (i:=1) bh bB rfl rfl iZ<|zl cg rfl ((hx 1 iZ).ext hK 0 _ rfl)<|cW rfl rfl<|zp rfl<|ag ?_
 exact mg rfl rfl
 intro uO
 replace uO:=bu uO
 refine zs<|zs<|zs<|zs<|zp rfl<|ag ?_
 exact mg rfl rfl
 rintro xx _ rfl
 refine zA<|ag<|zc rfl (λJt=>?_) (λJt=>?_)
 simp only[aE,oE,dE] at Jt
 obtain⟨⟨hh,Ea⟩,hBi⟩:=Jt
 refine zr<|zA<|ag<|aV ?_
 exact⟨_,rfl,afl hj hh Ea hBi,hK⟩
 have qk:=Jt
 refine bA<|zr<|zA<|ag<|aV ?_
 exact⟨_,rfl,congrArg (λx=>str x) (afe hj xe vw bC bX ew jI jY qk).symm,hK⟩
theorem aft (o:Option Ty):Tv o=fl o:=by cases o<;>rfl
theorem Ut {o:Option Ty} (h:fl o=[]):o=none:=by
 cases o with
 |none=>rfl
 |some T=>exact absurd h T.ne
theorem Uu {o:Option Ty} (h:fl o≠[]):∃T,o=some T:=by
 cases o with
 |none=>exact absurd rfl h
 |some T=>exact⟨T,rfl⟩
def ru (e:Ex) (Γ:Sc):List aj:=e.kids.map λx=>fl (bM x Γ)
theorem afu {Γ:Sc} (bF:e.ok) (fx:e.jk=false) (h1:e.head≠gQ) (h2:e.head≠il) (hΓ:Ab Γ):
  ([]∈ru e Γ∧bM e Γ=none)∨∃Ts,ru e Γ=Ts.map Ty.text∧mF e.head Ts∧bM e Γ=la e.head Ts∧∀T,T∈Ts->T.n<=16:=by
 cases e with
 |«at» s=>cases fx
 |lt x a b=>exact absurd rfl h1
 |fn f x A B b=>exact absurd rfl h2
 |un h a=>
  show([]∈[fl (bM a Γ)]∧(bM a Γ).bind _=none)∨_
  cases ha:bM a Γ with
  |none=>exact .inl ⟨by simp[fl],rfl⟩
  |some A=>exact .inr ⟨[A],by simp[ru,Ex.kids,ha,fl],.inl ⟨bF.1,A,rfl⟩,by simp[bM,ha,Ex.head],by simpa using l4 hΓ ha⟩
 |bi h a b=>
  show([]∈[fl (bM a Γ),fl (bM b Γ)]∧(bM a Γ).bind _=none)∨_
  cases ha:bM a Γ with
  |none=>exact .inl ⟨by simp[fl],rfl⟩
  |some A=>
   cases hb:bM b Γ with
   |none=>exact .inl ⟨by simp[fl],rfl⟩
   |some B=>exact .inr ⟨[A,B],by simp[ru,Ex.kids,ha,hb,fl],.inr (.inl ⟨bF.1,A,B,rfl⟩),by simp[bM,ha,hb,Ex.head],by intro T hT;simp at hT;rcases hT with rfl|rfl;exact l4 hΓ ha;exact l4 hΓ hb⟩
 |ite a b c=>
  show([]∈[fl (bM a Γ),fl (bM b Γ),fl (bM c Γ)]∧(bM a Γ).bind _=none)∨_
  cases ha:bM a Γ with
  |none=>exact .inl ⟨by simp[fl],rfl⟩
  |some A=>
   cases hb:bM b Γ with
   |none=>exact .inl ⟨by simp[fl],rfl⟩
   |some B=>
    cases hc:bM c Γ with
    |none=>exact .inl ⟨by simp[fl],rfl⟩
    |some C0=>exact .inr ⟨[A,B,C0],by simp[ru,Ex.kids,ha,hb,hc,fl],.inr (.inr ⟨rfl,A,B,C0,rfl⟩),by simp[bM,ha,hb,hc,Ex.head],by intro T hT;simp at hT;rcases hT with rfl|rfl|rfl;exact l4 hΓ ha;exact l4 hΓ hb;exact l4 hΓ hc⟩
theorem Uv {f x:aj} {Γ:Sc}:fl (bM (.fn f x A B e) Γ)=if(!decide (1+A.n+B.n<=16)||decide (fl (bM e (Γ++[(f,.op true A B),(x,A)]))≠B.text))=true then[] else(Ty.op true A B).text:=by
 show fl (if 1+A.n+B.n<=16 then(bM e (Γ++[(f,.op true A B),(x,A)])).bind λC=>if k9 C B then some (.op true A B) else none else none)=_
 by_cases h:1+A.n+B.n<=16
 ·rw[iP h,dT h,Bool.not_true,Bool.false_or]
  cases hC:bM e (Γ++[(f,.op true A B),(x,A)]) with
  |none=>
   have hz:decide (fl none≠B.text)=true:=by simpa[fl] using λh:[]=B.text=>B.ne h.symm
   rw[iP hz];rfl
  |some C0=>
   show fl (if k9 C0 B=true then some (.op true A B) else none)=_
   by_cases hq:C0.text=B.text
   ·rw[iP (show k9 C0 B=true from dT hq),iN (by simp[fl,hq])];rfl
   ·rw[iN (show¬k9 C0 B=true from by unfold k9;simpa using hq),iP (by simp[fl,hq])];rfl
 ·rw[iN h,dF h,iP sm];rfl
theorem afv (e:Ex) (Γ:Sc):(ru e Γ).length<=3:=by
 rw[ru,List.length_map]
 cases e<;>simp[Ex.kids]
theorem afw {Γ:Sc} (bF:e.ok) (fx:e.jk=false) (h1:e.head≠gQ) (h2:e.head≠il) (hΓ:Ab Γ) (v:Value) (L:List Nat) (w:World) (hv:bI L w v (ru e Γ)):
  bZ Tryz.prog 155 [str e.head,v] w λr w'=>r=str (fl (bM e Γ))∧ak [] w w':=by
 rcases afu bF fx h1 h2 hΓ with⟨hn,hq⟩|⟨Ts,hk,hj,hq,hT⟩
 ·rw[hq];exact afa e.head (ru e Γ) (by have:=afv e Γ;omega) hn v L w hv
 ·rw[hq];exact afn e.head Ts hj hT v L w (hk▸hv)
theorem afx {Γ:Sc} (h:k<e.kids.length):(ru e Γ).take (k+1)=(ru e Γ).take k++[fl (bM (fL e k) Γ)]:=by
 rw[List.take_add_one]
 simp[ru,fL,gE h]
theorem Uw:∀(m:Nat) (e:Ex),e.n<=m->e.n<=1000->e.ok->∀(Γ:Sc),Γ.length+2*e.n<=100000->Ab Γ->∀(v vn vt:Value) (L:List Nat) (w:World),(∀x,x∈L->x<w.heap.size)->bS L w v e.av->bI L w vn (Γ.map Prod.fst)->bI L w vt (Γ.map λp=>p.2.text)->
  bZ Tryz.prog 114 [v,vn,vt] w λr w'=>r=str (fl (bM e Γ))∧ak [] w w':=by
 intro m
 induction m with
 |zero=>intro e h;have:=e.pos;omega
 |succ m ih=>
  intro e hm mW bF Γ hΓl hΓ v vn vt L w lM hv kh eZ
  obtain⟨a,np,c,rfl,hn,bc⟩:=dN hv
  subst hn
  obtain⟨an,nn,cn,rfl,rj⟩:=eI kh
  obtain⟨ay,ny,Gq,rfl,IE⟩:=eI eZ
  have hK:=ak.refl [] w
  have gi:(Γ.map Prod.fst).length=Γ.length:=by simp
  have iZ:(Γ.map λp=>p.2.text).length=Γ.length:=by simp
  have IU:=F1 e
  refine cU [.tmp 6] 132 Tryz.func114 rfl XZ rfl rfl ?_
  refine zr<|fA rfl ?_
  intro w1 aJ bO dV
  have hK:=hK.ext aJ;have bc:=bc.ext aJ;have kh:=kh.ext aJ;have eZ:=eZ.ext aJ
  refine zA<|ag<|aQ<|zr<|zf dB rfl<|zl cg rfl (bO.at rfl)<|jF rfl rfl rfl rfl<|ag<|zc rfl (λh1=>?_) (λh1=>?_)
  have aR:∃x,e= .at x:=(by have ha:=(vh bF).1 h1;cases e<;>first|exact⟨_,rfl⟩|cases ha)
  obtain⟨x,rfl⟩:=aR
  refine aQ<|zr<|zf dB rfl<|zl cg rfl (bO.at rfl)<|aC (uX _ _) ?_
  rintro _ _ ⟨rfl,rfl⟩
  refine ag<|zc rfl (λh2=>?_) (λh2=>?_)
  have hq:bM (.at x) Γ=look Γ x:=iP h2
  refine zr<|zm<|zm<|zf dB rfl<|zl cg rfl (bO.at rfl)<|aC (FZ (Γ.map Prod.fst) (Γ.map λp=>p.2.text) om om x _ _ _ _ w1 kh eZ) ?_
  rintro v2 w2 ⟨dz,aq⟩
  have dR:=aq.size
  have hK:=hK.ext aq
  obtain rfl:=dz
  refine zA<|ag<|aV ?_
  have yp:=Tw x Γ
  rw[<-gi] at yp
  exact⟨_,rfl,congrArg (λz=>str z) (by rw[hq,<-aft];exact yp),hK⟩
  have hq:bM (.at x) Γ=some .i:=iN (λhh=>Bool.noConfusion (hh.symm.trans h2))
  refine bA<|zr<|zA<|ag<|aV ?_
  exact⟨_,rfl,by rw[hq];rfl,hK⟩
  have fx:e.jk=false:=(by cases hh:e.jk;rfl;exact absurd ((vh bF).2 hh) h1)
  obtain⟨F2,oX,jG,wK⟩:=Ex.au fx
  obtain⟨jS,DQ,DR⟩:=F0 bF fx
  obtain⟨b0,AF,xM,xN,e0,pZ,kx⟩:=fI bc jS
  cases e0
  have pZ:=pZ.cells
  refine bA<|aQ<|zr<|zf cM rfl<|zl cK rfl (bO.at rfl)<|zi (i:=0) cw aH rfl rfl jS<|zf dB rfl<|zl cg rfl (pZ 0 _ rfl)<|ag<|cP<|zr<|cW rfl rfl<|zA<|ag<|zc rfl (λh3=>?_) (λh3=>?_)
  obtain⟨nx,ea,eb,rfl⟩:=I1 bF (jG.symm.trans h3)
  have wN:(Ex.lt nx ea eb).n=2+ea.n+eb.n:=rfl
  have I5:(Ex.lt nx ea eb).av.au.length=4:=rfl
  obtain⟨b1,ga,gY,gZ,e1,bC,dd⟩:=fI bc (i:=1) om
  cases e1
  obtain⟨b2,nk,jc,jd,e2,bX,eA⟩:=fI bc (i:=2) om
  cases e2
  have eA:bS L _ _ ea.av:=eA
  obtain⟨b3,B6,pU,pV,e3,ew,eY⟩:=fI bc (i:=3) om
  cases e3
  have eY:bS L _ _ eb.av:=eY
  refine zr<|zf cM rfl<|zl cK rfl (bO.at rfl)<|zi (i:=2) cw aH rfl rfl ((show 2<4 from om))<|zL bT aH rfl bX.cells rfl<|zm<|zm<|aC (ih ea om om bF.2.1 Γ om hΓ _ _ _ L w1 (λx hx=>lL (lM x hx) hK.size) eA kh eZ) ?_
  rintro v2 w2 ⟨dz,aq⟩
  have dR:=aq.size
  have hK:=hK.ext aq;have kh:=kh.ext aq;have eZ:=eZ.ext aq;have bO:=bO.ext aq;have bC:=bC.ext aq;have ew:=ew.ext aq;have eY:=eY.ext aq
  obtain rfl:=dz
  refine zA<|ag<|aQ<|zr<|zm<|cW rfl rfl<|ag<|zc rfl (λh4=>?_) (λh4=>?_)
  have hz:bM ea Γ=none:=Ut h4
  have hq:bM (.lt nx ea eb) Γ=none:=(show(bM ea Γ).bind _=none from by rw[hz];rfl)
  refine zr<|zA<|ag<|aV ?_
  exact⟨_,rfl,by rw[hq];rfl,hK⟩
  obtain⟨A,hA⟩:=Uu h4
  have hq:bM (.lt nx ea eb) Γ=bM eb (Γ++[(nx,A)]):=(show(bM ea Γ).bind _=_ from by rw[hA];rfl)
  have hGA:=Fl (x:=nx) hΓ (l4 hΓ hA)
  have hAt:fl (bM ea Γ)=A.text:=by rw[hA];rfl
  refine bA<|aQ ?_
  apply wC eu 18 (rA 41 17++[6]) (rA 41 17++[6]) [[],[0],[1],[2],[],[],[5],[6],[7],[8],[9],[4,10],[],[],[13],[12,14],[3,11,15],[16]] [It.v _,It.v _,It.v _,It.v _,It.v _,It.v _,It.v _,It.v _,It.v _,It.v _,It.p (fun(v:Value) (ww:World)=>bI L ww v [nx]),It.p (fun(v:Value) (ww:World)=>bI L ww v (Γ.map Prod.fst++[nx])),It.v _,It.v _,It.p (fun(v:Value) (ww:World)=>bI L ww v [fl (bM ea Γ)]),It.p (fun(v:Value) (ww:World)=>bI L ww v ((Γ.map λp=>p.2.text)++[fl (bM ea Γ)])),It.v _,It.v _] de (by exact⟨λv w w' h k=>bI.ext h k,λv w w' h k=>bI.ext h k,λv w w' h k=>bI.ext h k,λv w w' h k=>bI.ext h k,trivial⟩)
  intro wd aB
  refine vc (λ_ _ _=>zf cM rfl pv) ?_
  refine vk aB (λx w3 aK=>?_) ?_
  have bO:=bO.ext aK
  refine zl cK rfl (bO.at rfl) ?_
  exact pv
  refine vk aB (λx w3 aK=>?_) ?_
  refine zi (i:=3) cw aH rfl rfl ((show 3<4 from om)) ?_
  exact pv
  refine vk aB (λx w3 aK=>?_) ?_
  have ew:=ew.ext aK
  refine zL bT aH rfl ew.cells rfl ?_
  exact pv
  refine eM ?_
  refine vc (λ_ _ _=>zf cM rfl pv) ?_
  refine vk aB (λx w3 aK=>?_) ?_
  have bO:=bO.ext aK
  refine zl cK rfl (bO.at rfl) ?_
  exact pv
  refine vk aB (λx w3 aK=>?_) ?_
  refine zi (i:=1) cw aH rfl rfl ((show 1<4 from om)) ?_
  exact pv
  refine vc (λ_ _ _=>zf dB rfl pv) ?_
  refine vk aB (λx w3 aK=>?_) ?_
  have bC:=bC.ext aK
  refine zl cg rfl (bC.cells 0 _ rfl) ?_
  exact pv
  refine vk aB (λx w3 aK=>?_) ?_
  have hK:=hK.ext aK
  refine gA bh bB rfl rfl ?_
  intro w4 aD Nx iL
  have hK:=hK.ext aD
  exact pf aD ((aY.eF [nx] Nx (λhx=>by have:=lM _ hx;have:=hK.size;have:=aK.size;omega)))
  refine vk aB (λx w3 aK=>?_) ?_
  have hK:=hK.ext aK;have kh:=kh.ext aK
  intro v10 d10
  refine aC (tP (Γ.map Prod.fst) [nx] so _ _ L w3 kh d10 (λx hx=>lL (lM x hx) hK.size)) ?_
  rintro v4 w4 ⟨eJ,aD⟩
  have gK:=aD.size
  have j4:=eJ
  exact pf aD j4
  refine eM ?_
  refine eM ?_
  refine vk aB (λx w3 aK=>?_) ?_
  have hK:=hK.ext aK
  refine gA bh bB rfl rfl ?_
  intro w4 aD B2 iL
  have hK:=hK.ext aD
  exact pf aD ((aY.eF [fl (bM ea Γ)] B2 (λhx=>by have:=lM _ hx;have:=hK.size;have:=aK.size;omega)))
  refine vk aB (λx w3 aK=>?_) ?_
  have hK:=hK.ext aK;have eZ:=eZ.ext aK
  intro lJ d14
  refine aC (tP (Γ.map λp=>p.2.text) [fl (bM ea Γ)] so (.slice ay ny Gq) _ L w3 eZ d14 (λx hx=>lL (lM x hx) hK.size)) ?_
  rintro v4 w4 ⟨eJ,aD⟩
  have gK:=aD.size
  have j4:=eJ
  exact pf aD j4
  refine vk aB (λx w3 aK=>?_) ?_
  have hK:=hK.ext aK;have eY:=eY.ext aK
  intro v11 d11
  intro vq d15
  refine aC (ih eb om om bF.2.2 (Γ++[(nx,A)]) so hGA _ _ _ L w3 (λx hx=>lL (lM x hx) hK.size) eY (show bI L _ _ ((Γ++_).map _) from by rw[List.map_append];exact d11) (show bI L _ _ ((Γ++[(nx,A)]).map _) from by rw[List.map_append,List.map_singleton,<-hAt];exact d15)) ?_
  rintro v4 w4 ⟨eJ,aD⟩
  have gK:=aD.size
  obtain rfl:=eJ
  exact pk aD
  refine vc (λ_ _ _=>zA pv) ?_
  exact trivial
  intro x qz tV
  intro v10 d10
  intro v11 d11
  intro lJ d14
  intro vq d15
  have hK:=hK.ext tV
  change OW _ _ _ _ [] (aM (aN _ x _) (zZ 41 [_,_,_,_,_,_,_,_,_,_,_,_,_,_,_,_,_]++[(6,_)])) _
  refine ag<|aV ?_
  exact⟨_,rfl,congrArg (λz=>str (fl z)) hq.symm,hK⟩
  have oT:e.head≠gQ:=λhh=>h3 (jG.trans hh)
  refine zr<|cW rfl rfl<|zA<|ag<|zc rfl (λh5=>?_) (λh5=>?_)
  obtain⟨nf,nx,tA,tB,eb,rfl⟩:=I2 bF (jG.symm.trans h5)
  have wN:(Ex.fn nf nx tA tB eb).n=3+tA.n+tB.n+eb.n:=rfl
  have I9:(Ex.fn nf nx tA tB eb).av.au.length=6:=rfl
  obtain⟨b1,ga,gY,gZ,e1,bC,dd⟩:=fI bc (i:=1) om
  cases e1
  obtain⟨b2,nk,jc,jd,e2,bX,eA⟩:=fI bc (i:=2) om
  cases e2
  obtain⟨b3,B6,pU,pV,e3,ew,eY⟩:=fI bc (i:=3) om
  cases e3
  have eY:bS L _ _ tA.av:=eY
  obtain⟨b4,afA,MG,MH,e4,jI,pW⟩:=fI bc (i:=4) om
  cases e4
  have pW:bS L _ _ tB.av:=pW
  obtain⟨b5,afB,Eb,Ec,e5,jY,nB⟩:=fI bc (i:=5) om
  cases e5
  have nB:bS L _ _ eb.av:=nB
  have hAz:=tA.size
  have hBz:=tB.size
  have MD:=tA.len
  have ME:=tB.len
  refine zr<|zf cM rfl<|zl cK rfl (bO.at rfl)<|zi (i:=3) cw aH rfl rfl ((show 3<6 from om))<|zL bT aH rfl ew.cells rfl<|aC (tx tA.av.size tA.av (lR _) tA.oF.wf om (show tA.text.length<=100000000 from om) _ _ w1 eY) ?_
  rintro v2 w2 ⟨dz,aq⟩
  have dR:=aq.size
  have hK:=hK.ext aq;have kh:=kh.ext aq;have eZ:=eZ.ext aq;have bO:=bO.ext aq;have bC:=bC.ext aq;have bX:=bX.ext aq;have jI:=jI.ext aq;have jY:=jY.ext aq;have pW:=pW.ext aq;have nB:=nB.ext aq
  obtain rfl:=dz
  refine zA<|ag<|zr<|zf cM rfl<|zl cK rfl (bO.at rfl)<|zi (i:=4) cw aH rfl rfl ((show 4<6 from om))<|zL bT aH rfl jI.cells rfl<|aC (tx tB.av.size tB.av (lR _) tB.oF.wf om (show tB.text.length<=100000000 from om) _ _ w2 pW) ?_
  rintro v3 w3 ⟨et,aK⟩
  have gd:=aK.size
  have hK:=hK.ext aK;have kh:=kh.ext aK;have eZ:=eZ.ext aK;have bO:=bO.ext aK;have bC:=bC.ext aK;have bX:=bX.ext aK;have jY:=jY.ext aK;have nB:=nB.ext aK
  obtain rfl:=et
  refine zA<|ag<|zr<|zm<|zm<|aC (Th true tA tB bF.2.2.2.1 bF.2.2.2.2.1 w3) ?_
  rintro v4 w4 ⟨eJ,aD⟩
  have gK:=aD.size
  have hK:=hK.ext aD;have kh:=kh.ext aD;have eZ:=eZ.ext aD;have bO:=bO.ext aD;have bC:=bC.ext aD;have bX:=bX.ext aD;have jY:=jY.ext aD;have nB:=nB.ext aD
  obtain rfl:=eJ
  have Ux:∀x,x∈L->x<w4.heap.size:=(λx hx=>lL (lM x hx) hK.size)
  refine zm<|zx (i:=0) rfl rfl<|zx (i:=1) rfl rfl<|zA<|zA<|ag<|aQ<|aQ ?_
  refine jh (λ_:Unit=>[(10,str (if 1+tA.n+tB.n<=16 then(Ty.op true tA tB).text else[])),(104,.bool (!decide (1+tA.n+tB.n<=16)||decide (fl (bM eb (Γ++[(nf,.op true tA tB),(nx,tA)]))≠tB.text)))]) (λ_ w'=>ak [] w w'∧ak [] w4 w') ?_ ?_
  rcases Classical.em (1+tA.n+tB.n<=16) with lp|lp
  apply wC eu 29 (rA 76 29) (rA 76 29) [[],[0],[1],[2],[2,3],[2,4],[2,5],[2],[2],[2,8],[2,9],[2,10],[2,11],[2],[2,13],[2,14],[2,15],[2,16],[2,12,17],[2,7,18],[2],[2],[2],[2,21,22],[2,20,23],[2,6,19,24],[2],[2,25,26],[2,27]] [It.v _,It.v _,It.v (.bool false),It.v _,It.v _,It.v _,It.v _,It.v _,It.v _,It.v _,It.v _,It.v _,It.v _,It.v _,It.v _,It.v _,It.v _,It.v _,It.p (fun(v:Value) (ww:World)=>bI L ww v [nf,nx]),It.p (fun(v:Value) (ww:World)=>bI L ww v (Γ.map Prod.fst++[nf,nx])),It.v _,It.v _,It.v _,It.p (fun(v:Value) (ww:World)=>bI L ww v [(if 1+tA.n+tB.n<=16 then(Ty.op true tA tB).text else[]),tA.text]),It.p (fun(v:Value) (ww:World)=>bI L ww v ((Γ.map λp=>p.2.text)++[(if 1+tA.n+tB.n<=16 then(Ty.op true tA tB).text else[]),tA.text])),It.v _,It.v _,It.v _,It.v _] de (by exact⟨λv w w' h k=>bI.ext h k,λv w w' h k=>bI.ext h k,λv w w' h k=>bI.ext h k,λv w w' h k=>bI.ext h k,trivial⟩)
  intro wd aB
  refine eM ?_
  refine vc (λ_ _ _=>eH rfl pv) ?_
  refine vc (λx w5 aT=>?_) ?_
  refine zm ?_
  exact pv (by exact congrArg Value.bool (show(!decide (1+tA.n+tB.n<=16))=false from by rw[dT lp];rfl))
  refine vc (λ_ _ _=>zf cM rfl pv) ?_
  refine vk aB (λx w5 aT=>?_) ?_
  have bO:=bO.ext aT
  refine zl cK rfl (bO.at rfl) ?_
  exact pv
  refine vk aB (λx w5 aT=>?_) ?_
  refine zi (i:=5) cw aH rfl rfl ((show 5<6 from om)) ?_
  exact pv
  refine vk aB (λx w5 aT=>?_) ?_
  have jY:=jY.ext aT
  refine zL bT aH rfl jY.cells rfl ?_
  exact pv
  refine eM ?_
  refine vc (λ_ _ _=>zf cM rfl pv) ?_
  refine vk aB (λx w5 aT=>?_) ?_
  have bO:=bO.ext aT
  refine zl cK rfl (bO.at rfl) ?_
  exact pv
  refine vk aB (λx w5 aT=>?_) ?_
  refine zi (i:=1) cw aH rfl rfl ((show 1<6 from om)) ?_
  exact pv
  refine vc (λ_ _ _=>zf dB rfl pv) ?_
  refine vk aB (λx w5 aT=>?_) ?_
  have bC:=bC.ext aT
  refine zl cg rfl (bC.cells 0 _ rfl) ?_
  exact pv
  refine vc (λ_ _ _=>zf cM rfl pv) ?_
  refine vk aB (λx w5 aT=>?_) ?_
  have bO:=bO.ext aT
  refine zl cK rfl (bO.at rfl) ?_
  exact pv
  refine vk aB (λx w5 aT=>?_) ?_
  refine zi (i:=2) cw aH rfl rfl ((show 2<6 from om)) ?_
  exact pv
  refine vc (λ_ _ _=>zf dB rfl pv) ?_
  refine vk aB (λx w5 aT=>?_) ?_
  have bX:=bX.ext aT
  refine zl cg rfl (bX.cells 0 _ rfl) ?_
  exact pv
  refine vk aB (λx w5 aT=>?_) ?_
  refine lk bh bB rfl rfl rfl rfl ?_
  intro w6 bD afC lB
  exact pf bD ((aY.eF [nf,nx] afC (λhx=>by have:=Ux _ hx;have:=aT.size;omega)))
  refine vk aB (λx w5 aT=>?_) ?_
  have hK:=hK.ext aT;have kh:=kh.ext aT
  intro wY d18
  refine aC (tP (Γ.map Prod.fst) [nf,nx] so (.slice an nn cn) _ L w5 kh d18 (λx hx=>lL (lM x hx) hK.size)) ?_
  rintro v6 w6 ⟨kU,bD⟩
  have ob:=bD.size
  have j4:=kU
  exact pf bD j4
  refine eM ?_
  refine eM ?_
  refine eM ?_
  refine vk aB (λx w5 aT=>?_) ?_
  refine lk bh bB rfl rfl rfl rfl ?_
  intro w6 bD Ny lB
  exact pf bD ((aY.eF [(if 1+tA.n+tB.n<=16 then(Ty.op true tA tB).text else[]),tA.text] Ny (λhx=>by have:=Ux _ hx;have:=aT.size;omega)))
  refine vk aB (λx w5 aT=>?_) ?_
  have hK:=hK.ext aT;have eZ:=eZ.ext aT
  intro M9 d23
  refine aC (tP (Γ.map λp=>p.2.text) [(if 1+tA.n+tB.n<=16 then(Ty.op true tA tB).text else[]),tA.text] so (.slice ay ny Gq) _ L w5 eZ d23 (λx hx=>lL (lM x hx) hK.size)) ?_
  rintro v6 w6 ⟨kU,bD⟩
  have ob:=bD.size
  have j4:=kU
  exact pf bD j4
  refine vk aB (λx w5 aT=>?_) ?_
  have hK:=hK.ext aT;have nB:=nB.ext aT
  intro Gs d19
  intro v24 d24
  refine aC (ih eb om om bF.2.2.2.2.2 (Γ++[(nf,.op true tA tB),(nx,tA)]) so (by have:=Fl (x:=nx) (Fl (x:=nf) hΓ (T:=.op true tA tB) (show 1+tA.n+tB.n<=16 from lp)) bF.2.2.2.1;simpa using this) _ _ _ L w5 (λx hx=>lL (lM x hx) hK.size) nB (show bI L _ _ (List.map _ (Γ++[(nf,.op true tA tB),(nx,tA)])) from by rw[List.map_append];exact d19) (show bI L _ _ (List.map _ (Γ++[(nf,.op true tA tB),(nx,tA)])) from by rw[iP lp] at d24;rw[List.map_append];exact d24)) ?_
  rintro v6 w6 ⟨kU,bD⟩
  have ob:=bD.size
  obtain rfl:=kU
  exact pk bD
  refine eM ?_
  refine vk aB (λx w5 aT=>?_) ?_
  refine jF rfl rfl rfl rfl ?_
  exact pv
  refine vc (λ_ _ _=>zp rfl pv) ?_
  exact trivial
  intro x pX jR
  intro wY d18
  intro Gs d19
  intro M9 d23
  intro v24 d24
  have hK:=hK.ext jR
  change OW _ _ _ _ [] (aM (aN _ x _) (zZ 76 [_,_,_,_,_,_,_,_,_,_,_,_,_,_,_,_,_,_,_,_,_,_,_,_,_,_,_,_,_])) _
  refine ag ?_
  exact⟨(),⟨rfl,congrArg Value.bool (show decide (fl (bM eb (Γ++[(nf,.op true tA tB),(nx,tA)]))≠tB.text)=_ from by rw[dT lp];rfl)⟩,hK,jR⟩
  apply mx eu 29 (rA 76 29) (rA 76 29) [[],[0],[1],[2],[2,3],[2,4],[2,5],[2],[2],[2,8],[2,9],[2,10],[2,11],[2],[2,13],[2,14],[2,15],[2,16],[2,12,17],[2,7,18],[2],[2],[2],[2,21,22],[2,20,23],[2,6,19,24],[2],[2,25,26],[2,27]] [It.v _,It.v _,It.v (.bool true),It.v _,It.v _,It.v _,It.v _,It.v _,It.v _,It.v _,It.v _,It.v _,It.v _,It.v _,It.v _,It.v _,It.v _,It.v _,It.v _,It.v _,It.v _,It.v _,It.v _,It.v _,It.v _,It.v _,It.v _,It.v _,It.v _] de rfl
  intro wd aB
  refine eM ?_
  refine vc (λ_ _ _=>eH rfl pv) ?_
  refine vc (λx w5 aT=>?_) ?_
  refine zm ?_
  exact pv (by exact congrArg Value.bool (show(!decide (1+tA.n+tB.n<=16))=true from by rw[dF lp];rfl))
  refine vc (λx w5 aT=>?_) ?_
  exact du pv
  refine vk aB (λx w5 aT=>?_) ?_
  exact du pv
  refine vk aB (λx w5 aT=>?_) ?_
  exact du pv
  refine vk aB (λx w5 aT=>?_) ?_
  exact du pv
  refine vc (λx w5 aT=>?_) ?_
  exact du pv
  refine vc (λx w5 aT=>?_) ?_
  exact du pv
  refine vk aB (λx w5 aT=>?_) ?_
  exact du pv
  refine vk aB (λx w5 aT=>?_) ?_
  exact du pv
  refine vc (λx w5 aT=>?_) ?_
  exact du pv
  refine vk aB (λx w5 aT=>?_) ?_
  exact du pv
  refine vc (λx w5 aT=>?_) ?_
  exact du pv
  refine vk aB (λx w5 aT=>?_) ?_
  exact du pv
  refine vk aB (λx w5 aT=>?_) ?_
  exact du pv
  refine vc (λx w5 aT=>?_) ?_
  exact du pv
  refine vk aB (λx w5 aT=>?_) ?_
  exact du pv
  refine vk aB (λx w5 aT=>?_) ?_
  exact du pv
  refine vk aB (λx w5 aT=>?_) ?_
  exact du pv
  refine vc (λx w5 aT=>?_) ?_
  exact du pv
  refine vc (λx w5 aT=>?_) ?_
  exact du pv
  refine vc (λx w5 aT=>?_) ?_
  exact du pv
  refine vk aB (λx w5 aT=>?_) ?_
  exact du pv
  refine vk aB (λx w5 aT=>?_) ?_
  exact du pv
  refine vk aB (λx w5 aT=>?_) ?_
  exact du pv
  refine vc (λx w5 aT=>?_) ?_
  exact du pv
  refine vk aB (λx w5 aT=>?_) ?_
  exact du pv
  refine vc (λ_ _ _=>zp rfl pv) ?_
  exact trivial
  intro x pX jR
  have hK:=hK.ext jR
  change OW _ _ _ _ [] (aM (aN _ x _) (zZ 76 [_,_,_,_,_,_,_,_,_,_,_,_,_,_,_,_,_,_,_,_,_,_,_,_,_,_,_,_,_])) _
  refine ag ?_
  exact⟨(),⟨rfl,congrArg Value.bool (show true=_ from by rw[dF lp];rfl)⟩,hK,jR⟩
  intro gu qy e45 hI
  obtain⟨hK,aG⟩:=hI
  refine zc rfl (λh6=>?_) (λh6=>?_)
  have hq:=(Uv (f:=nf) (x:=nx) (A:=tA) (B:=tB) (e:=eb) (Γ:=Γ)).trans (iP h6)
  refine zr<|zA<|ag<|aV ?_
  exact⟨_,rfl,congrArg (λz=>str z) hq.symm,hK⟩
  have hq:=(Uv (f:=nf) (x:=nx) (A:=tA) (B:=tB) (e:=eb) (Γ:=Γ)).trans (iN (by rw[h6];simp))
  have h16:1+tA.n+tB.n<=16:=(by simp at h6;exact h6.1)
  refine bA<|zr<|zm<|zA<|ag<|aV ?_
  exact⟨_,rfl,congrArg (λz=>str z) ((iP h16).trans hq.symm),hK⟩
  have rk:e.head≠il:=λhh=>h5 (jG.trans hh)
  have Nj:=bO
  have nu:=hK
  have afF:=bc
  have afG:=kh
  have afH:=eZ
  have afI:=pZ
  have hky:(ru e Γ).length=e.kids.length:=by simp[ru]
  refine bA<|zr<|gM bh bB ?_
  intro w2 aq afK eK
  have hK:=hK.ext aq;have bc:=bc.ext aq;have kh:=kh.ext aq;have eZ:=eZ.ext aq;have bO:=bO.ext aq;have pZ:=pZ.ext aq
  refine zA<|ag<|aQ<|zr<|zA<|ag<|cP ?_
  refine fZ (λq:Nat×Value×Option Nat=>[(1,.slice an nn cn),(2,.slice ay ny Gq),(3,.pointer (some ⟨w.heap.size,0,none⟩)),(12,q.2.1),(13,.int .i64 ((e.from+q.1:Nat):Int))]) (λq ww=>ak [] w1 ww∧dh ww 9 q.2.1 q.2.2 ((ru e Γ).take q.1)∧(∀x,x∈q.2.2.toList->w1.heap.size<=x)∧q.1<=e.kids.length) (λq=>e.kids.length-q.1) ((0,.slice (some ⟨w1.heap.size,0,none⟩) 0 0,some w1.heap.size)) (⟨rfl,rfl,rfl,rfl,by rw[Ug fx oT rk];rfl⟩) (⟨aq,by simpa using afK.ll,sm,sm⟩) ?_
  intro gg w3 e3 hI
  obtain⟨k,vl,gl⟩:=gg
  dsimp only at hI⊢
  obtain⟨dm,hO,gJ,hk⟩:=hI
  have hK:=nu.ext dm
  have bc:=afF.ext dm
  have kh:=afG.ext dm
  have eZ:=afH.ext dm
  have bO:=Nj.ext dm
  have pZ:=afI.ext dm
  refine aQ<|zr<|zm<|zf cM rfl<|zl cK rfl (bO.at rfl)<|eh cw rfl<|fJ rfl rfl rfl<|ag<|zc rfl (λh7=>?_) (λh7=>?_)
  have iu:k<e.kids.length:=om
  have sK:=wK k iu
  obtain⟨b1,ga,gY,gZ,e1,bC,dd⟩:=fI bc (i:=e.from+k) om
  cases e1
  have dd:=dd.eq sK
  have tQ:=Fk bF iu
  have Bj:=yn iu
  have hkN:=B1 e (k+1)
  have bg:=afx (Γ:=Γ) iu
  refine bA<|aQ<|cP<|db<|zm<|zf cM rfl<|zl cK rfl (bO.at rfl)<|zm<|zi cw aH rfl rfl om<|zL bT aH rfl bC.cells rfl<|zm<|zm<|aC (ih (fL e k) om om tQ.1 Γ om hΓ _ (.slice an nn cn) (.slice ay ny Gq) L w3 (λx hx=>lL (lM x hx) hK.size) dd kh eZ) ?_
  rintro v4 w4 ⟨eJ,aD⟩
  have gK:=aD.size
  have hK:=hK.ext aD;have hO:=hO.ext aD;have dm:=dm.ext aD
  obtain rfl:=eJ
  refine gA bh bB rfl rfl ?_
  intro w5 aT afL jo
  have hK:=hK.ext aT;have hO:=hO.ext aT;have dm:=dm.ext aT
  refine r6 bh bB rfl rfl rfl rfl rfl rfl hO afL (by rw[List.length_take];omega) ?_
  intro v9 g9 w6 dK aG fN
  rw[<-bg] at dK
  have Gl:=dm.size
  have dm:=dm.since aG (λx hx=>.inr (gJ x hx))
  have hK:=nu.ext dm
  have afM:∀x,x∈g9.toList->w1.heap.size<=x:=(λx hx=>by rcases fN with h|h;(·exact gJ x (h▸hx));(·rw[h] at hx;simp at hx;omega))
  refine zA<|ag<|db<|zm<|eE rfl rfl rfl (wrap_i64 _ om om)<|zA<|ag ?_
  exact⟨(k+1,v9,g9),⟨rfl,rfl,rfl,rfl,congrArg (Value.int .i64) om⟩,⟨dm,dK,afM,om⟩,by simp;omega⟩
  have afN:k=e.kids.length:=by omega
  subst afN
  rw[List.take_of_length_le (by rw[hky];exact lR _)] at hO
  refine gF<|gH rfl<|zr<|zf cM rfl<|zl cK rfl (bO.at rfl)<|zi (i:=0) cw aH rfl rfl jS<|zf dB rfl<|zl cg rfl (pZ 0 _ rfl)<|zm<|aC ((jG▸afw bF fx oT rk hΓ _ _ w3 hO.rs)) ?_
  rintro v4 w4 ⟨eJ,aD⟩
  have gK:=aD.size
  have hK:=hK.ext aD
  obtain rfl:=eJ
  refine zA<|ag<|aV ?_
  exact⟨_,rfl,rfl,hK⟩
def Cm (s x:aj):Prop:=(mB s=false->x=[])∧∀e:Ex,ba s=some e.av->e.ok->e.n<=120->x=fl (bM e [])
theorem Uy {s x y:aj} (hx:Cm s x) (hy:Cm s y):x=y:=by
 cases h:mB s with
 |false=>rw[hx.1 h,hy.1 h]
 |true=>
  obtain⟨e,he,bF,hn⟩:=wI.1 h
  rw[hx.2 e he bF hn,hy.2 e he bF hn]
theorem afO (h:cF e [] []≠[]):bM e []=none:=by
 cases ht:bM e [] with
 |none=>rfl
 |some T=>
  exfalso
  cases hf:cF e [] [] with
  |nil=>exact h hf
  |cons y ys=>
   have hy:y∈cF e [] []:=by rw[hf];simp
   rcases(qp y e [] []).1 hy with h1|⟨h1,_⟩
   ·cases h1
   ·have:=pL ht h1;simp[look] at this
theorem Uz (s:aj) (w:World):bZ Tryz.prog 83 [str s] w λr w'=>(∃x,r=str x∧Cm s x)∧ak [] w w':=by
 have hK:=ak.refl [] w
 refine cU [.tmp 2] 21 Tryz.func83 rfl ZJ rfl rfl ?_
 refine zr<|zA<|ag<|zr<|zm<|aC (FY s [] w sm) ?_
 rintro v1 w1 ⟨fO,aJ⟩
 have dy:=aJ.size
 have hK:=hK.ext aJ
 obtain⟨t,tv,rfl,ht,hp⟩:=fO
 obtain⟨pa,pn,pc,rfl,fR,bc⟩:=dN ht
 refine zm<|zx (i:=0) rfl rfl<|zx (i:=1) rfl rfl<|eC aH rfl rfl rfl ?_
 intro w2 aq bO eK
 have hK:=hK.grow;have hK:=hK.ext aq;have ht:=ht.grow;have ht:=ht.ext aq
 refine dk aH rfl rfl rfl bO rfl ?_
 intro w3 aK bO iK
 have hK:=hK.aL aK sx;have ht:=ht.aL aK sx
 refine zA<|ag<|aQ<|zr<|zm<|eH rfl<|zm<|xz (t:=12) rfl (λh1=>?_) (λh1=>?_)
 replace h1:=bu h1
 have hx:mB s=false:=by simpa using h1
 refine zs<|zs<|zs<|zp rfl<|ag<|zc rfl (λh2=>?_) (λh2=>?_)
 refine zr<|zA<|ag<|aV ?_
 exact⟨_,rfl,⟨[],rfl,λ_=>rfl,λe h1 h2 h3=>by rw[wI.2 ⟨e,h1,h2,h3⟩] at hx;cases hx⟩,hK⟩
 simp at h2
 replace h1:=bu h1
 have hx:mB s=true:=by simpa using h1
 obtain⟨e,he,bF,hn⟩:=wI.1 hx
 have e2:=hp.1 _ he
 subst e2
 have D9:∀{e':Ex},ba s=some e'.av->e'.ok->e'=e:=(λh1 h2=>qB h2 bF (Option.some.inj (h1.symm.trans he)))
 refine zm<|aC (adH s w3) ?_
 rintro v4 w4 ⟨eJ,aD⟩
 have gK:=aD.size
 have hK:=hK.ext aD;have ht:=ht.ext aD;have bO:=bO.ext aD
 obtain⟨b9,rfl,cT⟩:=eJ
 refine eH rfl<|zp rfl<|ag<|zc rfl (λh3=>?_) (λh3=>?_)
 have jS:b9=false:=(by simpa using h3)
 have mM:cF e [] []≠[]:=(λh=>by have:=cT.2 ⟨e,he,bF,hn,h⟩;rw[jS] at this;cases this)
 refine zr<|zA<|ag<|aV ?_
 exact⟨_,rfl,⟨[],rfl,λh=>rfl,λe' h1 h2 h3=>by rw[D9 h1 h2,afO mM];rfl⟩,hK⟩
 refine bA<|zr<|zL bT aH rfl bO.all rfl<|gM bh bB ?_
 intro w5 aT kj jo
 have hK:=hK.ext aT;have ht:=ht.ext aT
 refine gM bh bB ?_
 intro w6 bD Cl lB
 have hK:=hK.ext bD;have ht:=ht.ext bD
 refine aC (Uw 120 e hn om bF [] so (λs T h=>by simp[look] at h) _ _ _ [] w6 sm (ht.jj sm) (cD.nil _ _ _) (cD.nil _ _ _)) ?_
 rintro v7 w7 ⟨iV,cv⟩
 have pg:=cv.size
 have hK:=hK.ext cv
 obtain rfl:=iV
 refine zA<|ag<|aV ?_
 have hcy:Cm s (fl (bM e [])):=⟨(λh=>by rw[hx] at h;cases h),λe' h1 h2 h3=>by rw[D9 h1 h2]⟩
 exact⟨_,rfl,⟨_,rfl,hcy⟩,hK⟩
theorem afQ (s:aj) (w:World):bZ Tryz.prog 80 [str s] w λr w'=>(∃b,r= .bool b∧∀x,Cm s x->b=decide (x≠[]))∧ak [] w w':=by
 have hK:=ak.refl [] w
 refine cU [.tmp 2] 6 Tryz.func80 rfl ZG rfl rfl ?_
 refine zr<|zA<|ag<|zr<|zm<|aC (Uz s w) ?_
 rintro v1 w1 ⟨fO,aJ⟩
 have dy:=aJ.size
 have hK:=hK.ext aJ
 obtain⟨x,rfl,hx⟩:=fO
 refine jF rfl rfl rfl rfl<|zA<|ag<|aV ?_
 exact⟨_,rfl,⟨_,rfl,λy hy=>by rw[Uy hx hy]⟩,hK⟩
theorem Gt (s:aj) (hs:s.length<=1000000) (w:World):bZ Tryz.prog 142 [str s] w λr w'=>r=str (dX s)∧ak [] w w':=by
 have hK:=ak.refl [] w
 refine cU [.tmp 2] 6 Tryz.func142 rfl Yo rfl rfl ?_
 refine zr<|zA<|ag<|zr<|zm<|cm rfl rfl so<|cm rfl rfl so<|zA<|ag<|aV ?_
 exact⟨_,rfl,rfl,hK⟩
theorem afR:∀(m:Nat) (T:Ty),T.n<=m->T.n<=60->∀(v:Value) (L:List Nat) (w:World),bS L w v T.av->bZ Tryz.prog 150 [v] w λr w'=>r=str (bL T)∧ak [] w w':=by
 intro m
 induction m with
 |zero=>intro T h;have:=T.pos;omega
 |succ m ih=>
  intro T hm mW v L w hv
  obtain⟨a,np,c,rfl,hn,bc⟩:=dN hv
  subst hn
  have hK:=ak.refl [] w
  refine cU [.tmp 2] 37 Tryz.func150 rfl Yw rfl rfl ?_
  refine zr<|fA rfl ?_
  intro w1 aJ aU dV
  have hK:=hK.ext aJ;have bc:=bc.ext aJ
  refine zA<|ag<|aQ<|zr<|zf dB rfl<|zl cg rfl (aU.at rfl)<|jF rfl rfl rfl rfl<|ag<|zc rfl (λh1=>?_) (λh1=>?_)
  have hi:T= .i:=(by cases T with|i=>rfl|op g a b=>exact absurd rfl h1)
  refine zr<|zA<|ag<|aV ?_
  exact⟨_,rfl,congrArg (λz=>str z) (by rw[hi,RZ]),hK⟩
  have aR:∃g A B,T= .op g A B:=(by cases T with|i=>exact absurd h1 de|op g a b=>exact⟨g,a,b,rfl⟩)
  obtain⟨g,A,B,rfl⟩:=aR
  have wN:(Ty.op g A B).n=1+A.n+B.n:=rfl
  have Nz:(Ty.op g A B).av.au.length=3:=rfl
  obtain⟨b0,AF,xM,xN,e0,er,hT0⟩:=fI bc (i:=0) om
  cases e0
  have er:ja L _ _ _ [str (ko g),_]:=er
  obtain⟨b1,ga,gY,gZ,e1,bC,dd⟩:=fI bc (i:=1) om
  cases e1
  have dd:bS L _ _ A.av:=dd
  obtain⟨b2,nk,jc,jd,e2,bX,eA⟩:=fI bc (i:=2) om
  cases e2
  have eA:bS L _ _ B.av:=eA
  have MD:=BM A
  have ME:=BM B
  have T7:=LR (bL B)
  refine bA<|zr<|zf cM rfl<|zl cK rfl (aU.at rfl)<|zi (i:=1) cw aH rfl rfl ((show 1<3 from om))<|zL bT aH rfl bC.cells rfl<|aC (ih A om om _ L w1 dd) ?_
  rintro v2 w2 ⟨dz,aq⟩
  have dR:=aq.size
  have hK:=hK.ext aq;have aU:=aU.ext aq;have er:=er.ext aq;have bX:=bX.ext aq;have eA:=eA.ext aq
  obtain rfl:=dz
  refine zA<|ag<|zr<|zf cM rfl<|zl cK rfl (aU.at rfl)<|zi (i:=2) cw aH rfl rfl ((show 2<3 from om))<|zL bT aH rfl bX.cells rfl<|aC (ih B om om _ L w2 eA) ?_
  rintro v3 w3 ⟨et,aK⟩
  have gd:=aK.size
  have hK:=hK.ext aK;have aU:=aU.ext aK;have er:=er.ext aK
  obtain rfl:=et
  refine zA<|ag<|aQ<|zr<|zf cM rfl<|zl cK rfl (aU.at rfl)<|zi (i:=0) cw aH rfl rfl ((show 0<3 from om))<|zf dB rfl<|zl cg rfl (er.cells 0 _ rfl)<|cW rfl rfl<|ag<|zc rfl (λh2=>?_) (λh2=>?_)
  have hg:g=false:=(by cases g with|false=>rfl|true=>exact absurd h2 de)
  refine zr<|zm<|cm rfl rfl so<|cm rfl rfl so<|zm<|cm rfl rfl so<|cm rfl rfl so<|zA<|ag<|aV ?_
  exact⟨_,rfl,congrArg (λz=>str z) (by rw[hg,R0]),hK⟩
  have hg:g=true:=(by cases g with|true=>rfl|false=>exact absurd rfl h2)
  refine bA<|zr<|zm<|cm rfl rfl so<|cm rfl rfl so<|zm<|aC (Gt (bL B) om w3) ?_
  rintro v4 w4 ⟨eJ,aD⟩
  have gK:=aD.size
  have hK:=hK.ext aD
  obtain rfl:=eJ
  refine cm rfl rfl so<|cm rfl rfl so<|zA<|ag<|aV ?_
  exact⟨_,rfl,congrArg (λz=>str z) (by rw[hg,R1]),hK⟩
theorem vz (T:Ty) (hT:T.n<=60) (w:World):bZ Tryz.prog 111 [str T.text] w λr w'=>r=str (bL T)∧ak [] w w':=by
 have hK:=ak.refl [] w
 refine cU [.tmp 2] 12 Tryz.func111 rfl XW rfl rfl ?_
 refine zr<|zA<|ag<|zr<|zm<|aC (H5 T.text [] w sm) ?_
 rintro v1 w1 ⟨fO,aJ⟩
 have dy:=aJ.size
 have hK:=hK.ext aJ
 obtain⟨t,tv,rfl,ht,hp⟩:=fO
 have e2:=hp.1 _ (Ty.ba hT)
 subst e2
 obtain⟨pa,pn,pc,rfl,fR,bc⟩:=dN ht
 refine zm<|zx (i:=0) rfl rfl<|zx (i:=1) rfl rfl<|eC aH rfl rfl rfl ?_
 intro w2 aq bO eK
 have hK:=hK.grow;have hK:=hK.ext aq;have ht:=ht.grow;have ht:=ht.ext aq
 refine dk aH rfl rfl rfl bO rfl ?_
 intro w3 aK bO iK
 have hK:=hK.aL aK sx;have ht:=ht.aL aK sx
 refine zA<|ag<|zr<|zL bT aH rfl bO.all rfl<|aC (afR 60 T hT hT _ [] w3 (ht.jj sm)) ?_
 rintro v4 w4 ⟨eJ,aD⟩
 have gK:=aD.size
 have hK:=hK.ext aD
 obtain rfl:=eJ
 refine zA<|ag<|aV ?_
 exact⟨_,rfl,rfl,hK⟩
theorem afS (h:aj) (w:World):bZ Tryz.prog 186 [str h] w λr w'=>r=str (qv h)∧ak [] w w':=by
 have hK:=ak.refl [] w
 refine cU [.tmp 2] 10 Tryz.func186 rfl YU rfl rfl ?_
 refine zr<|zA<|ag<|aQ<|zr<|zm<|ag<|cP<|zr<|cW rfl rfl<|zA<|ag<|zc rfl (λh1=>?_) (λh1=>?_)
 have hq:qv h=[97,100,100]:=iP h1
 refine zr<|zA<|ag<|aV ?_
 exact⟨_,rfl,congrArg (λz=>str z) hq.symm,hK⟩
 have h1:=h1
 refine zr<|cW rfl rfl<|zA<|ag<|zc rfl (λh2=>?_) (λh2=>?_)
 have hq:qv h=[115,117,98]:=(iN h1).trans (iP h2)
 refine zr<|zA<|ag<|aV ?_
 exact⟨_,rfl,congrArg (λz=>str z) hq.symm,hK⟩
 have h2:=h2
 refine zr<|cW rfl rfl<|zA<|ag<|zc rfl (λh3=>?_) (λh3=>?_)
 have hq:qv h=[109,117,108]:=(iN h1).trans ((iN h2).trans (iP h3))
 refine zr<|zA<|ag<|aV ?_
 exact⟨_,rfl,congrArg (λz=>str z) hq.symm,hK⟩
 have hq:qv h=l5:=(iN h1).trans ((iN h2).trans (iN h3))
 refine bA<|zr<|zA<|ag<|aV ?_
 exact⟨_,rfl,congrArg (λz=>str z) hq.symm,hK⟩
def t8:sH:=⟨127,29,130,9⟩
theorem ei.open {τ:sH} {o:Bool} (h:ei τ E L w b o m):∃vb vt vc vy gb gt gc gy,aY w b [vb,vt,.int .i64 (m.count:Int),.bool m.wide,vc,vy].toArray τ.M∧gU τ E L w b o vb vt vc vy gb gt gc gy m:=h
structure eQ (E L:List Nat) (w:World) (L':List Nat) (w':World):Prop where
 fr:Fr L w L' w'
 out:∃G,ak G w w'∧∀x,x∈G->x∉E
section
variable {E L L1 L2:List Nat} {w w1 w2:World}
theorem eQ.refl (E L:List Nat) (w:World):eQ E L w L w:=⟨Fr.refl _ _,[],ak.refl _ _,sm⟩
theorem eQ.add (h:eQ E L w L1 w1) (k:Fr L1 w1 L2 w2) (kg:ak G w1 w2) (hG:∀x,x∈G->x∉E):eQ E L w L2 w2:=
 let⟨G0,k0,h0⟩:=h.out
 ⟨h.fr.go k,G0++G,(k0.mono λx hx=>List.mem_append_left _ hx).trans (kg.mono λx hx=>mR _ hx),λx hx=>(mA.1 hx).elim (h0 x) (hG x)⟩
theorem eQ.go (h:eQ E L w L1 w1) (k:eQ E L1 w1 L2 w2):eQ E L w L2 w2:=let⟨_,kg,hG⟩:=k.out;h.add k.fr kg hG
theorem eQ.ext (h:eQ E L w L1 w1) (k:ak [] w1 w2):eQ E L w L1 w2:=h.add (Fr.of k sm) k sm
theorem eQ.aL (h:eQ E L w L1 w1) (k:ak [x] w1 w2) (h1:x∈L1) (h2:x∉E):eQ E L w L1 w2:=h.add (Fr.of k (by simpa using h1)) k (by simpa using h2)
theorem eQ.tk (k:eQ E L w L1 w1) {T:TypeId} {t:Tk} (h:iq L w T b t) (hb:b∈E):iq L1 w1 T b t:=let⟨_,kg,hG⟩:=k.out;h.go k.fr kg λhx=>hG b hx hb
end
theorem afT (n:Nat) (hn:n<100000) (w:World):bZ Tryz.prog 104 [.int .i64 ((n:Int)+1-1)] w λr w'=>r=str (bf n)∧ak [] w w':=by
 rw[Int.add_sub_cancel];exact iS (n+1) n om om w
theorem NA (m:Mk) (hc:m.count<100000) (E L:List Nat) (b:Nat) (o:Bool) (w:World) (h:ei t8 E L w b o m):
  bZ Tryz.prog 184 [.pointer (some ⟨b,0,none⟩)] w λr w'=>(r=str m.aP∧ei t8 E L w' b o m.lG)∧ak [b] w w':=by
 obtain⟨vb,vt,vc,vy,gb,gt,gc,gy,bj,hS⟩:=h.open
 have bj:aY w b [vb,vt,.int .i64 (m.count:Int),.bool m.wide,vc,vy].toArray 127:=bj
 have hK:=ak.refl [b] w
 refine cU [.tmp 2] 18 Tryz.func184 rfl YS rfl rfl ?_
 refine zr<|zA<|ag<|zr<|zm<|zm<|di rfl<|zf KF rfl<|zl qQ rfl (bj.at rfl)<|eE rfl rfl rfl (wrap_i64 _ om om)<|di rfl<|zf KF rfl<|gX (o:=2) tt rfl rfl rfl bj rfl ?_
 intro w1 aJ bj dP
 have hS:=hS.aO aJ sm
 have hK:=hK.trans aJ
 refine ag<|zr<|zm<|di rfl<|zf KF rfl<|zl qQ rfl (bj.at rfl)<|mO rfl rfl rfl rfl rfl (wrap_i64 _ om om)<|aC ((afT m.count hc w1)) ?_
 rintro v2 w2 ⟨dz,aq⟩
 have dR:=aq.size
 have hK:=hK.ext aq;have bj:=bj.ext aq;have hS:=hS.ext aq
 obtain rfl:=dz
 refine cm rfl rfl (by have:=Ds _ m.count (lR _);simp;omega)<|zA<|ag<|aV ?_
 exact⟨_,rfl,⟨rfl,⟨_,_,_,_,_,_,_,_,bj,hS.num (m.count+1) m.wide⟩⟩,hK⟩
theorem se (k:aj) (m:Mk) (hc:m.types.length<100000) (E L:List Nat) (b:Nat) (o:Bool) (w:World) (h:ei t8 E L w b o m):
  bZ Tryz.prog 151 [.pointer (some ⟨b,0,none⟩),str k] w λr w'=>r= .int .i64 (m.types.length:Int)∧∃L',ei t8 E L' w' b o (m.dH k)∧eQ E L w L' w':=by
 obtain⟨vb,vt,vc,vy,gb,gt,gc,gy,bj,hS⟩:=h.open
 have bj:aY w b [vb,vt,.int .i64 (m.count:Int),.bool m.wide,vc,vy].toArray 127:=bj
 have hR:=eQ.refl E L w
 refine cU [.tmp 4] 30 Tryz.func151 rfl Yx rfl rfl ?_
 refine zr<|zA<|ag<|zr<|zm<|zm<|di rfl<|zf zC rfl<|zl eO rfl (bj.at rfl)<|zm<|gA bh bB rfl rfl ?_
 intro w1 aJ iD dV
 have hR:=hR.ext aJ;have bj:=bj.ext aJ;have hS:=hS.ext aJ
 refine r6 bh bB rfl rfl rfl rfl rfl rfl hS.ty iD om ?_
 intro v9 g9 w2 dK aq fN
 obtain⟨a9,c9,e9⟩:=kr dK
 subst e9
 obtain⟨yA,nH,vA,mG,vB,tW⟩:=hS.apart
 have qY:=hS.mem.2 (.inr (.inl rfl))
 obtain⟨L2,gk,jU⟩:=hS.LS dK aq (λx hx=>fN.imp (λh=>h.symm.trans hx) (λh=>by rw[h] at hx;cases hx;exact lR _))
 have bj:=bj.aO aq (λh=>(tW b h).2.1 rfl)
 have hR:=hR.add jU aq (λx hx=>(tW x hx).1)
 refine di rfl<|zf zC rfl<|gX (o:=5) nL rfl rfl rfl bj rfl ?_
 intro w3 aK bj dP
 have gk:=gk.aO aK sm
 have hR:=hR.aL aK (gk.mem.2 (.inr (.inl rfl))) nH
 refine ag<|aQ<|zr<|zm<|di rfl<|zf zC rfl<|zl eO rfl (bj.at rfl)<|eh bh rfl<|jx rfl rfl rfl rfl rfl<|ag ?_
 refine jh (λ_:Unit=>[(0,.pointer (some ⟨b,0,none⟩))]) (λ_ w'=>ak [b] w3 w'∧aY w' b [vb,vt,.int .i64 (m.count:Int),.bool (m.wide||decide (40<m.types.length+1)),vc,.slice a9 (m.types++[k]).length c9].toArray 127) ?_ ?_
 refine zc rfl (λh1=>?_) (λh1=>?_)
 have hd:decide (40<m.types.length+1)=true:=dT (by simp at h1;omega)
 refine db<|zm<|di rfl<|zf PY rfl<|gX (o:=3) tI4 rfl rfl rfl bj rfl ?_
 intro w4 aD bj dP
 have Gu:=aD
 refine ag ?_
 exact⟨(),rfl,Gu,by rw[hd,Bool.or_true];exact bj⟩
 have hd:decide (40<m.types.length+1)=false:=dF (by simp at h1;omega)
 refine bA ?_
 exact⟨(),rfl,ak.refl _ _,by rw[hd,Bool.or_false];exact bj⟩
 intro gu w4 e4 hI
 obtain⟨Fu,bj⟩:=hI
 have gk:=gk.aO Fu sm
 have hR:=hR.aL Fu (gk.mem.2 (.inr (.inl rfl))) nH
 refine zr<|zm<|di rfl<|zf zC rfl<|zl eO rfl (bj.at rfl)<|eh bh rfl<|mO rfl rfl rfl rfl rfl (wrap_i64 _ sx sx)<|zA<|ag<|aV ?_
 exact⟨_,rfl,congrArg (Value.int .i64) sm,L2,⟨_,_,_,_,_,_,_,_,bj,gk.num m.count (m.wide||decide (40<m.types.length+1))⟩,hR⟩
theorem gU.code {τ:sH} {vb vt vc vy:Value} {gt gc gy:Option Nat} (h:gU τ E L w b true vb vt vc vy gb gt gc gy m):dh w τ.S vc gc m.code:=by
 rcases h.co with⟨_,h⟩|⟨h,_⟩
 ·exact h
 ·cases h
theorem lh (hd:aj) (ps:List aj) (hl:(bP hd ps).length<=1000000) (m:Mk) (hc:m.code.length<100000) (E L:List Nat) (b:Nat) (v:Value) (w:World) (h:ei t8 E L w b true m) (hv:bI L w v ps):
  bZ Tryz.prog 143 [.pointer (some ⟨b,0,none⟩),str hd,v] w λr w'=>∃L',ei t8 E L' w' b true (m.cY hd ps)∧eQ E L w L' w':=by
 obtain⟨vb,vt,vc,vy,gb,gt,gc,gy,bj,hS⟩:=h.open
 have bj:aY w b [vb,vt,.int .i64 (m.count:Int),.bool m.wide,vc,vy].toArray 127:=bj
 have hco:dh w 9 vc gc m.code:=by
  rcases hS.co with⟨_,h⟩|⟨h,_⟩
  ·exact h
  ·cases h
 obtain⟨yA,nH,vA,mG,vB,tW⟩:=hS.apart
 have Ch:fy L w:=hS.cZ
 refine cU [] 18 Tryz.func143 rfl Yp rfl rfl ?_
 apply kc eu L 12 (rA 6 12) (rA 6 12) [[],[],[1],[2],[3],[],[],[5,6],[7],[4,8],[0],[10]] [Ie.v _,Ie.v _,Ie.v _,Ie.v _,Ie.w 0 vc,Ie.v _,Ie.v _,Ie.v _,Ie.p (fun(G:List Nat) (v:Value) (ww:World)=>∃bb,v= .slice (some ⟨bb,0,none⟩) 1 1∧fh G ww bb [str (bP hd ps)].toArray 9),Ie.e 1,Ie.v _,Ie.v _] [4,9] [fun(G:List Nat) (vs:List Value) (ww:World)=>G=L∧ak [] w ww,fun(G:List Nat) (vs:List Value) (ww:World)=>G=L∧ak [] w ww,fun(G:List Nat) (vs:List Value) (ww:World)=>∃g2,ak gc.toList w ww∧gU t8 E G ww b true vb vt (vs.getD 1 undef) vy gb gt g2 gy {m with code:=m.code++[bP hd ps]}∧Fr L w G ww] de rfl Ch (by exact⟨λG v w G' w' ⟨bb,e,h⟩ k=>⟨bb,e,h.go k⟩,trivial⟩) (by exact⟨λG vs w w' ⟨h1,h2⟩ k=>⟨h1,h2.ext k⟩,λG vs w w' ⟨h1,h2⟩ k=>⟨h1,h2.ext k⟩,λG vs w w' ⟨g2,h1,h2,h3⟩ k=>⟨g2,h1.ext k,h2.ext k,h3.ext k⟩,trivial⟩) (⟨rfl,ak.refl _ _⟩)
 refine cR ?_
 refine cR ?_
 refine vf (λ_ _ _ _ _ _=>di rfl fv) ?_
 refine vf (λ_ _ _ _ _ _=>zf C9 rfl fv) ?_
 refine ve 0 (λx w1 G1 aW qC qH hJ hlen=>?_) ?_
 have bo:=jO hlen
 subst bo
 obtain⟨cz,cB⟩:=hJ
 have tU:=bj.ext cB
 refine zl eO rfl (tU.at rfl) ?_
 exact fw G1 (Fr.refl _ _) qH (⟨cz,cB⟩)
 refine cR ?_
 refine cR ?_
 refine vf (λx w1 G1 aW qC qH=>?_) ?_
 have hv:=hv.go qC
 refine aC (xR hd ps om _ _ w1 hv) ?_
 rintro v2 w2 ⟨dz,aq⟩
 have dR:=aq.size
 obtain rfl:=dz
 exact fk aq
 refine vf (λx w1 G1 aW qC qH=>?_) ?_
 refine gA bh bB rfl rfl ?_
 intro w2 aq wT eK
 exact ff aq (⟨_,rfl,wT.o qH⟩)
 refine ve 1 (λx w1 G1 aW qC qH hJ hlen=>?_) ?_
 obtain⟨q0,bo⟩:=jP hlen
 subst bo
 intro v8 d8
 obtain⟨bb,e6,gx⟩:=d8
 subst e6
 obtain⟨cz,cB⟩:=hJ
 subst cz
 have Jn:=hS.ext cB
 have hcw:=hco.ext cB
 refine r6 bh bB rfl rfl rfl rfl rfl rfl hcw gx.ju om ?_
 intro v9 g9 w2 dK aG fN
 obtain⟨L2,gk,jU⟩:=Jn.Ip dK aG (λx hx=>fN.imp (λh=>h.symm.trans hx) (λh=>by rw[h] at hx;cases hx;exact lR _))
 exact fe _ jU gk.cZ (⟨g9,cB.any.trans aG,gk,(Fr.of cB sm).go jU⟩)
 refine vf (λ_ _ _ _ _ _=>di rfl fv) ?_
 refine vf (λ_ _ _ _ _ _=>zf C9 rfl fv) ?_
 exact trivial
 intro x Lu G40 aW UA afX hJ hlen
 obtain⟨q0,q1,bo⟩:=lH hlen
 subst bo
 intro v8 d8
 change OW _ _ _ _ _ (aM (aN _ x _) (zZ 6 [_,_,_,_,_,_,_,_,_,_,_,_])) _
 obtain⟨g2,AH,gk,jU⟩:=hJ
 obtain⟨pq,pr,Gh⟩:=kr gk.code
 have e8:q1=_:=Gh
 subst e8
 have bj:=bj.aO AH (λh=>(vB b h).2.1 rfl)
 refine gX (o:=4) nL rfl rfl rfl bj rfl ?_
 intro pT iB bj dP
 have gk:=gk.aO iB sm
 have hR:=((eQ.refl E L w).add jU AH (λx hx=>(vB x hx).1)).aL iB (gk.mem.2 (.inr (.inl rfl))) nH
 refine ag ?_
 exact⟨_,rfl,_,⟨_,_,_,_,_,_,_,_,bj,gk⟩,hR⟩
theorem Ju {hd:aj} {ps:List aj} (hh:hd.length<=100) (hp:ps.length<=10) (hs:∀p,p∈ps->p.length<=10001):(bP hd ps).length<=1000000:=by
 have h1:=Av (m:=10001) ps hs
 have h2:ps.length*10002<=10*10002:=Nat.mul_le_mul hp (lR _)
 rw[lI];omega
theorem Ed (h:n<=10000):(bf n).length<=10001:=by have:=Ds _ n (lR _);omega
theorem ei.dM {τ:sH} {o:Bool} (h:ei τ E L w b o m):∀x,x∈L->x<w.heap.size:=h.mem.2.2.2
theorem UB (m:Mk) (s:Nat) (hs:s<=10000) (ht:m.types.length<=9000) (hc:m.code.length<=9000) (E L:List Nat) (b:Nat) (w:World) (h:ei t8 E L w b true m):
  bZ Tryz.prog 148 [.pointer (some ⟨b,0,none⟩),.int .i64 (s:Int)] w λr w'=>r= .tuple #[str (bf (m.types.length+1)),str (bf (m.types.length+2))]∧∃L',ei t8 E L' w' b true (sG m s)∧eQ E L w L' w':=by
 have aw:=h
 have hR:=eQ.refl E L w
 obtain⟨r,hr⟩:∃r,r=m.types.length:=⟨_,rfl⟩
 have hE:sG m s=((((((m.dH []).cY Ae [bf r,bf s]).dH []).cY sF [bf (r+1),bf r,[48]]).dH []).cY sF [bf (r+2),bf r,[49]]):=by rw[hr];rfl
 rw[<-hr,hE]
 refine cU [.tmp 4,.tmp 5] 40 Tryz.func148 rfl Yu rfl rfl ?_
 refine zr<|zA<|zA<|ag<|zr<|zm<|aC (se [] m om E L b true w aw) ?_
 rintro v10 w1 ⟨fY,L1,aw,bY⟩
 rw[<-hr] at fY
 subst fY
 have hR:=hR.go bY
 refine zA<|ag<|zr<|zm<|zm<|aC (iS (r+1) r om om w1) ?_
 rintro v2 w2 ⟨dz,aq⟩
 have dR:=aq.size
 have aw:=aw.ext aq;have hR:=hR.ext aq
 obtain rfl:=dz
 refine zm<|aC (iS (s+1) s om om w2) ?_
 rintro v3 w3 ⟨et,aK⟩
 have gd:=aK.size
 have aw:=aw.ext aK;have hR:=hR.ext aK
 obtain rfl:=et
 have dC:=aw.dM
 refine lk bh bB rfl rfl rfl rfl ?_
 intro w4 aD wi iL
 have aw:=aw.ext aD;have hR:=hR.ext aD
 refine aC (lh Ae [bf r,bf s] (Ju de sm (by intro p hp;simp at hp;rcases hp with rfl|rfl<;>exact Ed om)) (m.dH []) (show m.code.length<100000 from om) E L1 b _ w4 aw (aY.eF [bf r,bf s] wi (λhx=>by have:=dC _ hx;omega))) ?_
 rintro jV w5 ⟨L2,aw,bY⟩
 have hR:=hR.go bY
 refine ag<|zr<|zm<|aC (se [] ((m.dH []).cY Ae [bf r,bf s]) (show(m.dH []).types.length<100000 from by rw[ye];omega) E L2 b true w5 aw) ?_
 rintro v10 w6 ⟨fY,L3,aw,bY⟩
 rw[show((m.dH []).cY Ae [bf r,bf s]).types.length=r+1 from by rw[oN,ye,hr]] at fY
 subst fY
 have hR:=hR.go bY
 refine zA<|ag<|zr<|zm<|zm<|aC (iS (r+2) (r+1) om om w6) ?_
 rintro v7 w7 ⟨iV,cv⟩
 have pg:=cv.size
 have aw:=aw.ext cv;have hR:=hR.ext cv
 obtain rfl:=iV
 refine zm<|aC (iS (r+1) r om om w7) ?_
 rintro v8 w8 ⟨oP,cu⟩
 have yu:=cu.size
 have aw:=aw.ext cu;have hR:=hR.ext cu
 obtain rfl:=oP
 have dC:=aw.dM
 refine pQ bh bB rfl rfl rfl rfl rfl ?_
 intro w9 aG BK dP
 have aw:=aw.ext aG;have hR:=hR.ext aG
 refine aC (lh sF [bf (r+1),bf r,[48]] (Ju de sm (by intro p hp;simp at hp;rcases hp with rfl|rfl|rfl;(·exact Ed om);(·exact Ed om);(·decide))) (((m.dH []).cY Ae [bf r,bf s]).dH []) (show(m.code++[_]).length<100000 from by simp;omega) E L3 b _ w9 aw (aY.eF [bf (r+1),bf r,[48]] BK (λhx=>by have:=dC _ hx;omega))) ?_
 rintro jV cN ⟨L4,aw,bY⟩
 have hR:=hR.go bY
 refine ag<|zr<|zm<|aC (se [] ((((m.dH []).cY Ae [bf r,bf s]).dH []).cY sF [bf (r+1),bf r,[48]]) (show(m.types++[_]++[_]).length<100000 from by simp;omega) E L4 b true cN aw) ?_
 rintro v10 eW ⟨fY,L5,aw,bY⟩
 have Cn:v10= .int .i64 ((r+2:Nat):Int):=fY.trans (congrArg (λn:Nat=>Value.int .i64 (n:Int)) (show(m.types++[_]++[_]).length=r+2 from by simp[hr]))
 subst Cn
 have hR:=hR.go bY
 refine zA<|ag<|zr<|zm<|zm<|aC (iS (r+3) (r+2) om om eW) ?_
 rintro v12 gj ⟨sX,dD⟩
 have D5:=dD.size
 have aw:=aw.ext dD;have hR:=hR.ext dD
 obtain rfl:=sX
 refine zm<|aC (iS (r+1) r om om gj) ?_
 rintro wP jC ⟨vC,fM⟩
 have Gv:=fM.size
 have aw:=aw.ext fM;have hR:=hR.ext fM
 obtain rfl:=vC
 have dC:=aw.dM
 refine pQ bh bB rfl rfl rfl rfl rfl ?_
 intro jf dL afY Co
 have aw:=aw.ext dL;have hR:=hR.ext dL
 refine aC (lh sF [bf (r+2),bf r,[49]] (Ju de sm (by intro p hp;simp at hp;rcases hp with rfl|rfl|rfl;(·exact Ed om);(·exact Ed om);(·decide))) (((((m.dH []).cY Ae [bf r,bf s]).dH []).cY sF [bf (r+1),bf r,[48]]).dH []) (show(m.code++[_]++[_]).length<100000 from by simp;omega) E L5 b _ jf aw (aY.eF [bf (r+2),bf r,[49]] afY (λhx=>by have:=dC _ hx;omega))) ?_
 rintro jV p6 ⟨L6,aw,bY⟩
 have hR:=hR.go bY
 refine ag<|zr<|zm<|aC (iS (r+2) (r+1) om om p6) ?_
 rintro yt lN ⟨NB,kY⟩
 have T2:=kY.size
 have aw:=aw.ext kY;have hR:=hR.ext kY
 obtain rfl:=NB
 refine zm<|aC (iS (r+3) (r+2) om om lN) ?_
 rintro jV vD ⟨afZ,p7⟩
 have amF:=p7.size
 have aw:=aw.ext p7;have hR:=hR.ext p7
 obtain rfl:=afZ
 refine zA<|zA<|ag<|aV ?_
 exact⟨_,rfl,rfl,L6,aw,hR⟩
theorem UC (s:da):(fj s).map Prod.fst=ka s:=by unfold fj ka;rw[List.map_map];rfl
theorem UD (s:da):((fj s).map λp=>p.2.text)=o9 s:=by unfold fj o9;rw[List.map_map];rfl
theorem Jv (t:Tk) (e:Ex) (bF:e.ok) (hn:e.n<=1000) (hΓ:Ab (fj t.sc)) (hl:t.sc.length+2*e.n<=100000) (v:Value) (L:List Nat) (bt:Nat) (w:World) (lM:∀x,x∈L->x<w.heap.size) (hT:iq L w 130 bt t) (hv:bS L w v e.av):
  bZ Tryz.prog 146 [.pointer (some ⟨bt,0,none⟩),v] w λr w'=>r=str (fl (bM e (fj t.sc)))∧ak [] w w':=by
 obtain⟨v1,v3,v4,v5,v6,v8,cA,hC⟩:=hT
 obtain⟨a,np,c,rfl,fu,bc⟩:=dN hv
 have gC:=hC.aX
 have fD:=hC.types
 have hK:=ak.refl [] w
 have e1:=UC t.sc
 have e2:=UD t.sc
 refine cU [.tmp 4] 15 Tryz.func146 rfl Ys rfl rfl ?_
 refine zr<|fA rfl ?_
 intro w1 aJ bO dV
 have hK:=hK.ext aJ;have hv:=hv.ext aJ;have cA:=cA.ext aJ;have gC:=gC.ext aJ;have fD:=fD.ext aJ
 refine zA<|ag<|aQ ?_
 apply mx eu 11 (rA 5 10++[4]) (rA 5 10++[4]) [[],[],[1],[2],[3],[],[5],[6],[7],[0,4,8],[9]] [It.v _,It.v _,It.v _,It.v _,It.v _,It.v _,It.v _,It.v _,It.v _,It.v _,It.v _] de rfl
 intro wd aB
 refine vk aB (λx w2 aq=>?_) ?_
 have bO:=bO.ext aq
 refine zL bT aH rfl bO.all rfl ?_
 exact pv
 refine eM ?_
 refine vk aB (λx w2 aq=>?_) ?_
 refine di rfl ?_
 exact pv
 refine vc (λ_ _ _=>zf zD rfl pv) ?_
 refine vk aB (λx w2 aq=>?_) ?_
 have cA:=cA.ext aq
 refine zl eO rfl (cA.at rfl) ?_
 exact pv
 refine eM ?_
 refine vk aB (λx w2 aq=>?_) ?_
 refine di rfl ?_
 exact pv
 refine vc (λ_ _ _=>zf Db rfl pv) ?_
 refine vk aB (λx w2 aq=>?_) ?_
 have cA:=cA.ext aq
 refine zl eO rfl (cA.at rfl) ?_
 exact pv
 refine vk aB (λx w2 aq=>?_) ?_
 have hK:=hK.ext aq;have hv:=hv.ext aq;have gC:=gC.ext aq;have fD:=fD.ext aq
 refine aC (Uw 1000 e hn om bF (fj t.sc) (by simp[fj];omega) hΓ _ v4 v6 L w2 (λx hx=>lL (lM x hx) hK.size) hv (by rw[e1];exact gC) (by rw[e2];exact fD)) ?_
 rintro v3 w3 ⟨et,aK⟩
 have gd:=aK.size
 obtain rfl:=et
 exact pk aK
 refine vc (λ_ _ _=>zA pv) ?_
 exact trivial
 intro x pT iB
 have hK:=hK.ext iB
 change OW _ _ _ _ [] (aM (aN _ x _) (zZ 5 [_,_,_,_,_,_,_,_,_,_]++[(4,_)])) _
 refine ag<|aV ?_
 exact⟨_,rfl,rfl,hK⟩
theorem af0 (xs:List Nat):∀row,row∈tI xs->∀c,c∈row->∀v,c= .val v->v.oneCell'=true:=by
 intro row hr c hc v hv
 obtain⟨n,_,rfl⟩:=List.mem_map.1 hr
 simp at hc;subst hc;cases hv;rfl
theorem Ee (t:Tk) (x:aj) (r:Nat) (T:Ty) (hl:t.sc.length<100000) (L:List Nat) (bt:Nat) (w:World) (qY:bt∈L) (lM:∀x,x∈L->x<w.heap.size) (hT:iq L w 130 bt t):
  bZ Tryz.prog 149 [.pointer (some ⟨bt,0,none⟩),str x,.int .i64 (r:Int),str T.text] w λ_ w'=>iq L w' 130 bt {t with sc:=t.sc++[(x,r,T)]}∧ak [bt] w w':=by
 obtain⟨v1,v3,v4,v5,v6,v8,cA,hC⟩:=hT
 have cA:aY w bt [str t.aP,v1,.int .i64 (t.loads:Int),v3,v4,v5,v6,str t.expr.av.az,v8,.int .i64 (t.on:Int),str t.bm,.int .i64 (t.next:Int)].toArray 130:=cA
 have hK:=ak.refl [bt] w
 have fK:(ka t.sc).length=t.sc.length:=by simp[ka]
 have fu:(o9 t.sc).length=t.sc.length:=by simp[o9]
 have px:(tI (wB t.sc)).length=t.sc.length:=by simp[tI,wB]
 have ID:=cA.lt
 obtain⟨a5,c5,rfl,_⟩:=rK hC.at_
 refine cU [] 40 Tryz.func149 rfl Yv rfl rfl ?_
 refine zr<|zm<|zm<|di rfl<|zf zD rfl<|zl eO rfl (cA.at rfl)<|zm<|gA bh bB rfl rfl ?_
 intro w1 aJ wT dV
 have hK:=hK.ext aJ;have cA:=cA.ext aJ;have hC:=hC.ext aJ
 refine aC (tP (ka t.sc) [x] so v4 _ L w1 hC.aX (aY.eF [x] wT (λhx=>by have:=lM _ hx;omega)) (λx hx=>lL (lM x hx) hK.size)) ?_
 rintro v2 w2 ⟨dz,aq⟩
 have dR:=aq.size
 have hK:=hK.ext aq;have cA:=cA.ext aq;have hC:=hC.ext aq
 have j4:=dz
 obtain⟨a9,n9,c9,e9,_⟩:=eI j4
 subst e9
 refine di rfl<|zf zD rfl<|gX (o:=4) nL rfl rfl rfl cA rfl ?_
 intro w3 aK cA dP
 have hC:=hC.aL aK (by simpa using qY);have j4:=j4.aL aK (by simpa using qY)
 have hK:=hK.trans aK
 have xH:=hK.size
 refine ag<|zr<|zm<|zm<|di rfl<|zf Db rfl<|zl eO rfl (cA.at rfl)<|zm<|gA bh bB rfl rfl ?_
 intro w4 aD yB iL
 have hK:=hK.ext aD;have cA:=cA.ext aD;have hC:=hC.ext aD;have j4:=j4.ext aD
 refine aC (tP (o9 t.sc) [T.text] so v6 _ L w4 hC.types (aY.eF [T.text] yB (λhx=>by have:=lM _ hx;omega)) (λx hx=>lL (lM x hx) hK.size)) ?_
 rintro v5 w5 ⟨kQ,aT⟩
 have oW:=aT.size
 have hK:=hK.ext aT;have cA:=cA.ext aT;have hC:=hC.ext aT;have j4:=j4.ext aT
 have wQ:=kQ
 obtain⟨Iy,n10,c10,fY,_⟩:=eI wQ
 subst fY
 refine di rfl<|zf Db rfl<|gX (o:=6) nL rfl rfl rfl cA rfl ?_
 intro w6 bD cA dP
 have hC:=hC.aL bD (by simpa using qY);have j4:=j4.aL bD (by simpa using qY);have wQ:=wQ.aL bD (by simpa using qY)
 have hK:=hK.trans bD
 have xH:=hK.size
 have hL9:∀x,x∈L->x<w6.heap.size:=(λx hx=>lL (lM x hx) hK.size)
 have hCw:=hC
 have af3:=j4
 have af4:=wQ
 have yC:=cA
 have nu:=hK
 have amI:=cA.lt
 refine ag<|db<|zm<|zU w6.heap.size L E2 tt rfl rfl (lR _) hL9 ?_
 intro w7 cv I4 wM
 have gm:=cv
 have hC:=hC.grow.ext cv;have cA:=cA.ext cv
 refine zm<|di rfl<|zf KH rfl<|zl P3 rfl (cA.at rfl)<|xQ E2 tt rfl rfl rfl rfl rfl rfl wM hC.at_ (af0 _) (by rw[px];simp;omega) ?_
 intro a4 je g4 w8 kW cu
 rw[List.nil_append] at kW
 have amJ:=wM.low
 have gm:=gm.since cu (λx hx=>.inr (by simp at hx;omega))
 refine zm<|gA E2 tt rfl rfl ?_
 intro w9 aG vE dP
 have kW:=kW.ext aG;have gm:=gm.ext aG
 refine HV (row:=[.val (.int .i64 (r:Int))]) E2 tt rfl rfl rfl rfl rfl rfl kW vE rfl rfl ⟨.val _,trivial⟩ (by rw[px];omega) ?_
 intro a6 cc6 g6 cN hO6 bU
 have gm:=gm.since bU (λx hx=>.inr (kW.low x (by simpa using hx)))
 have j4:=af3.ext gm
 have wQ:=af4.ext gm
 have hC:=hCw.ext gm
 have cA:=yC.ext gm
 have hK:=nu.ext gm
 have hN:=hO6.done
 rw[acx] at hN
 refine di rfl<|zf KH rfl<|gX (o:=5) Z8 rfl rfl rfl cA rfl ?_
 intro eW cL cA dP
 have hC:=hC.aL cL (by simpa using qY);have j4:=j4.aL cL (by simpa using qY);have wQ:=wQ.aL cL (by simpa using qY)
 have hN:=cD.aO hN (cL.mono (by simpa using qY))
 have hK:=hK.trans cL
 refine ag ?_
 exact⟨_,rfl,⟨v1,v3,_,_,_,v8,cA,⟨hC.regs,hC.self,(by rw[acm];exact j4),(by rw[acn];exact hN),(by rw[aco];exact wQ),hC.au⟩⟩,hK⟩
theorem af6 (s:da) (p:aj×Nat×Ty) (x:aj):kT (s++[p]) x=if p.1=x then p.2.1 else kT s x:=by
 unfold kT
 rw[List.reverse_append]
 simp only[List.reverse_cons,List.reverse_nil,List.nil_append,List.cons_append,List.find?_cons]
 by_cases h:p.1=x
 ·simp[h]
 ·simp[h]
theorem af7 {s:da} (h:k<s.length) (x:aj):kT (s.take (k+1)) x=if aF (ka s) k=x then(s[k]'h).2.1 else kT (s.take k) x:=by
 rw[List.take_add_one,gE h]
 show kT (s.take k++[s[k]]) x=_
 rw[af6]
 have e:aF (ka s) k=(s[k]'h).1:=by simp[aF,ka,gE h]
 rw[e]
theorem Cp (t:Tk) (a:aj) (m:Mk) (BA:a.length<=10000) (ht:m.types.length<=9000) (hc:m.code.length<=9000) (hs:t.sc.length<=9000) (E L:List Nat) (b bt:Nat) (pa:Option Addr) (pn pc:Nat) (w:World) (h:ei t8 E L w b true m) (hT:iq L w 130 bt t) (eT:bt∈E):
  bZ Tryz.prog 182 [.pointer (some ⟨b,0,none⟩),.pointer (some ⟨bt,0,none⟩),.agg #[str a,.slice pa pn pc]] w λr w'=>r= .int .i64 ((cG m t.sc a).2:Int)∧∃L',ei t8 E L' w' b true (cG m t.sc a).1∧eQ E L w L' w':=by
 have aw:=h
 have hR:=eQ.refl E L w
 obtain⟨v1,v3,v4,v5,v6,v8,cA,hC⟩:=hT
 obtain⟨r,hr⟩:∃r,r=m.types.length:=⟨_,rfl⟩
 have gC:=hC.aX
 obtain⟨an,nn,cn,rfl,rj⟩:=eI gC
 have fx:=hC.at_
 obtain⟨aa,ca,rfl,Jm⟩:=rK fx
 refine cU [.tmp 6] 50 Tryz.func182 rfl YQ rfl rfl ?_
 refine zr<|fA rfl ?_
 intro w1 aJ bQ dV
 have aw:=aw.ext aJ;have hR:=hR.ext aJ;have cA:=cA.ext aJ;have gC:=gC.ext aJ;have fx:=fx.ext aJ
 refine zA<|ag<|aQ<|zr<|zf dB rfl<|zl cg rfl (bQ.at rfl)<|aC (uX _ _) ?_
 rintro _ _ ⟨rfl,rfl⟩
 refine eH rfl<|ag<|zc rfl (λh1=>?_) (λh1=>?_)
 have hq:cG m t.sc a=((m.dH [105]).cY Ik [bf r,a],r):=(by unfold cG;rw[iN (by rw[h1];simp),hr])
 rw[hq]
 refine zr<|zm<|aC (se [105] m om E L b true w1 aw) ?_
 rintro lJ w2 ⟨iE,L1,aw,bY⟩
 rw[<-hr] at iE
 subst iE
 have hR:=hR.go bY
 have dC:=aw.dM
 have bQ:fh L1 w2 w.heap.size _ _:=⟨bQ.aO bY.fr.aO (λhx=>by have:=h.dM _ hx;omega),λhx=>by rcases bY.fr.mem _ hx with h9|h9;(·have:=h.dM _ h9;omega);(·omega)⟩
 have mi:=aw
 have tX:=hR
 refine zA<|ag<|aQ ?_
 apply kc eu L1 7 (rA 15 7) (rA 15 7) [[],[],[1],[],[3],[2,4],[0,5]] [Ie.v _,Ie.v _,Ie.v _,Ie.v _,Ie.v _,Ie.p (fun(G:List Nat) (v:Value) (ww:World)=>bI G ww v [bf r,a]),Ie.e 0] [6] [fun(G:List Nat) (vs:List Value) (ww:World)=>G=L1∧ak [] w2 ww,fun(G:List Nat) (vs:List Value) (ww:World)=>ei t8 E G ww b true ((m.dH [105]).cY Ik [bf r,a])∧eQ E L1 w2 G ww] de rfl dC (by exact⟨λG v w G' w' h k=>bI.go h k,trivial⟩) (by exact⟨λG vs w w' ⟨h1,h2⟩ k=>⟨h1,h2.ext k⟩,λG vs w w' ⟨h1,h2⟩ k=>⟨h1.ext k,h2.ext k⟩,trivial⟩) (⟨rfl,ak.refl _ _⟩)
 refine cR ?_
 refine cR ?_
 refine vf (λx w3 G3 aW fX iW=>?_) ?_
 refine aC (iS (r+1) r om om w3) ?_
 rintro v4 w4 ⟨eJ,aD⟩
 have gK:=aD.size
 obtain rfl:=eJ
 exact fk aD
 refine vf (λ_ _ _ _ _ _=>zf dB rfl fv) ?_
 refine vf (λx w3 G3 aW fX iW=>?_) ?_
 have bQ:=bQ.go fX
 refine zl cg rfl (bQ.at rfl) ?_
 exact fv
 refine vf (λx w3 G3 aW fX iW=>?_) ?_
 refine lk bh bB rfl rfl rfl rfl ?_
 intro w4 aD sY iL
 exact ff aD (aY.eF [bf r,a] sY (λhx=>by have:=iW _ hx;omega))
 refine ve 0 (λx w3 G3 aW fX iW hJ hlen=>?_) ?_
 have bo:=jO hlen
 subst bo
 intro v5 d5
 obtain⟨cz,cB⟩:=hJ
 subst cz
 refine aC (lh Ik [bf r,a] (Ju de sm (by intro p hp;simp at hp;rcases hp with rfl|rfl;(·exact Ed om);(·omega))) (m.dH [105]) (show m.code.length<100000 from om) E _ b _ w3 (mi.ext cB) d5) ?_
 rintro v21 w4 ⟨L2,Gw,jU⟩
 exact fe L2 jU.fr Gw.dM (⟨Gw,((eQ.refl _ _ _).ext cB).go jU⟩)
 exact trivial
 intro x qz F6 aW DT MM hJ hlen
 obtain⟨q0,bo⟩:=jP hlen
 subst bo
 intro v5 d5
 change OW _ _ _ _ [] (aM (aN _ x _) (zZ 15 [_,_,_,_,_,_,_])) _
 obtain⟨aw,jU⟩:=hJ
 have hR:=tX.go jU
 refine ag<|zr<|zm<|zA<|ag<|aV ?_
 exact⟨_,rfl,rfl,_,aw,hR⟩
 have hq:cG m t.sc a=(m,kT t.sc a):=(by unfold cG;rw[iP (by simpa using h1)])
 rw[hq]
 have D3:(ka t.sc).length=t.sc.length:=by simp[ka]
 refine bA<|aQ<|zr<|zm<|di rfl<|zf zD rfl<|zl eO rfl (cA.at rfl)<|eh bh rfl<|mO rfl rfl rfl rfl rfl (wrap_i64 _ om om)<|zA<|ag<|cP ?_
 refine fZ (λk:Nat=>[(1,.pointer (some ⟨bt,0,none⟩)),(5,.pointer (some ⟨w.heap.size,0,none⟩)),(8,.int .i64 ((k:Int)-1))]) (λk w'=>ak [] w1 w'∧k<=t.sc.length∧kT t.sc a=kT (t.sc.take k) a) (λk=>k) t.sc.length (⟨rfl,rfl,congrArg (λz:Nat=>Value.int .i64 ((z:Int)-1)) (rj.trans D3)⟩) (⟨ak.refl _ _,lR _,by rw[List.take_length]⟩) ?_
 intro gg w2 e2 hI
 obtain⟨dm,hk,yp⟩:=hI
 have aw:=aw.ext dm;have hR:=hR.ext dm;have cA:=cA.ext dm;have gC:=gC.ext dm
 have fx:=xY.ext fx dm
 have bQ:=bQ.ext dm
 refine aQ<|zr<|zm<|lU rfl rfl rfl rfl rfl<|ag<|zc rfl (λh2=>?_) (λh2=>?_)
 have aR:∃k,gg=k+1:=⟨gg-1,om⟩
 obtain⟨k,rfl⟩:=aR
 have hi:((k+1:Nat):Int)-1=(k:Int):=by omega
 rw[hi]
 obtain⟨b1,ga,e1,bC⟩:=qU gC (lj (xs:=ka t.sc) (i:=k) om)
 cases e1
 obtain⟨b2,nk,e2,bX⟩:=ack fx (i:=k) (x:=(t.sc[k]'om).2.1) (by simp[wB,gE (show k<t.sc.length by omega)])
 cases e2
 have nX:=af7 (s:=t.sc) (k:=k) om a
 refine bA<|aQ<|cP<|aQ ?_
 apply mx eu 10 (rA 33 10) (rA 33 10) [[],[0],[1],[2],[],[3,4],[5],[],[7],[6,8]] [It.v _,It.v _,It.v _,It.v _,It.v _,It.v _,It.v _,It.v _,It.v _,It.v _] de rfl
 intro wd aB
 refine eM ?_
 refine vk aB (λx w3 aK=>?_) ?_
 refine di rfl ?_
 exact pv
 refine vc (λ_ _ _=>zf zD rfl pv) ?_
 refine vk aB (λx w3 aK=>?_) ?_
 have cA:=cA.ext aK
 refine zl eO rfl (cA.at rfl) ?_
 exact pv
 refine eM ?_
 refine vk aB (λx w3 aK=>?_) ?_
 refine zi bh bB rfl rfl (by rw[rj];omega) ?_
 exact pv
 refine vk aB (λx w3 aK=>?_) ?_
 have bC:=bC.ext aK
 refine zl cg rfl (bC 0 _ rfl) ?_
 exact pv
 refine vc (λ_ _ _=>zf dB rfl pv) ?_
 refine vk aB (λx w3 aK=>?_) ?_
 have bQ:=bQ.ext aK
 refine zl cg rfl (bQ.at rfl) ?_
 exact pv
 refine vk aB (λx w3 aK=>?_) ?_
 refine cW rfl rfl ?_
 exact pv
 exact trivial
 intro x qz tV
 have aw:=aw.ext tV;have hR:=hR.ext tV;have cA:=cA.ext tV;have dm:=dm.ext tV;have bX:=bX.ext tV
 change OW _ _ _ _ [] (aM (aN _ x _) (zZ 33 [_,_,_,_,_,_,_,_,_,_])) _
 refine ag<|zc rfl (λh3=>?_) (λh3=>?_)
 have Fi:=yp.trans (nX.trans (iP h3))
 refine zr<|zm<|di rfl<|zf KH rfl<|zl P3 rfl (cA.at rfl)<|zm<|zi E2 tt rfl rfl (by have h9:(tI (wB t.sc)).length=t.sc.length:=(by simp[tI,wB]);omega)<|zl qQ rfl (bX 0 _ rfl)<|zA<|ag<|aV ?_
 exact⟨_,rfl,congrArg (λz:Nat=>Value.int .i64 (z:Int)) Fi.symm,_,aw,hR⟩
 have Fi:=yp.trans (nX.trans (iN h3))
 refine bA<|db<|zm<|mO rfl rfl rfl rfl rfl (wrap_i64 _ om om)<|zA<|ag ?_
 exact⟨k,⟨rfl,rfl,rfl⟩,⟨dm,om,Fi⟩,om⟩
 have h0:gg=0:=by omega
 subst h0
 refine gF<|gH rfl<|zr<|zA<|ag<|aV ?_
 exact⟨_,rfl,congrArg (λz:Nat=>Value.int .i64 (z:Int)) yp.symm,_,aw,hR⟩
theorem NC (aP:aj) (regs:List aj) (hr:regs.length<10000) (m:Mk) (cT:m.blocks.length<100000) (E L:List Nat) (b:Nat) (v:Value) (w:World) (h:ei t8 E L w b true m) (hv:bI L w v regs):
  bZ Tryz.prog 110 [.pointer (some ⟨b,0,none⟩),str aP,v] w λr w'=>∃L',ei t8 E L' w' b false (BW m aP regs)∧eQ E L w L' w':=by
 obtain⟨vb,vt,vc,vy,gb,gt,gc,gy,bj,hS⟩:=h.open
 obtain⟨yA,nH,vA,mG,vB,tW⟩:=hS.apart
 have UE:=hS.LX
 obtain⟨G0,Gx⟩:∃G,G=E++(gb.toList++(gt.toList++gy.toList)):=⟨_,rfl⟩
 have UF:∀x,x∈G0->x∈L:=λx hx=>by rw[Gx] at hx;simp only[mA] at hx;exact hS.mem.2 (by rcases hx with h|h|h|h<;>simp[h])
 have oo:b∉G0:=λhx=>by
  rw[Gx] at hx;simp only[mA] at hx
  rcases hx with h|h|h|h
  ·exact nH h
  ·exact(vA b h).2 rfl
  ·exact(mG b h).2.1 rfl
  ·exact(tW b h).2.1 rfl
 have bj:fh G0 w b [vb,vt,.int .i64 (m.count:Int),.bool m.wide,vc,vy].toArray 127:=⟨bj,oo⟩
 have oO:=bI.fresh hv (λx hx=>.inl (UF x hx))
 have qw:fy G0 w:=λx hx=>hS.cZ x (UF x hx)
 have wu:∀x,w.heap.size<=x->x∉pP E b gb gt gy:=λx h1 hx=>by have:=hS.cZ x (hS.R8 x hx);omega
 obtain⟨an,nn,cn,rfl,rj⟩:=eI hv
 obtain⟨ac,nc,cc,rfl,mM⟩:=eI UE
 refine cU [] 24 Tryz.func110 rfl XV rfl rfl ?_
 apply kc eu G0 18 (rA 6 18) (rA 6 18) [[],[],[1],[2],[3],[],[],[],[6,7],[],[9],[10],[11],[5,8,12],[13],[4,14],[0],[16]] [Ie.v _,Ie.v _,Ie.v _,Ie.v _,Ie.v _,Ie.v _,Ie.p (fun(G:List Nat) (v:Value) (ww:World)=>∃bb,v= .slice (some ⟨bb,0,none⟩) 0 0∧w.heap.size<=bb∧fh G ww bb #[] 9),Ie.v _,Ie.e 0,Ie.v _,Ie.v _,Ie.v _,Ie.v _,Ie.e 1,Ie.e 2,Ie.e 3,Ie.v _,Ie.v _] [8,13,14,15] [fun(G:List Nat) (vs:List Value) (ww:World)=>(∀x,x∈G0->x∈G)∧ak [] w ww,fun(G:List Nat) (vs:List Value) (ww:World)=>(∀x,x∈G0->x∈G)∧ak [] w ww∧bI (pP E b gb gt gy) ww (vs.getD 0 undef) regs,fun(G:List Nat) (vs:List Value) (ww:World)=>(∀x,x∈G0->x∈G)∧ak [] w ww∧bI (pP E b gb gt gy) ww (vs.getD 0 undef) regs∧vs.getD 1 undef= .agg #[str aP,vs.getD 0 undef,.slice ac nc cc],fun(G:List Nat) (vs:List Value) (ww:World)=>(∀x,x∈G0->x∈G)∧ak [] w ww∧bI (pP E b gb gt gy) ww (vs.getD 0 undef) regs∧∃bb,vs.getD 2 undef= .slice (some ⟨bb,0,none⟩) 1 1∧aY ww bb [str aP,vs.getD 0 undef,.slice ac nc cc].toArray 29,fun(G:List Nat) (vs:List Value) (ww:World)=>∃g2,ey (gb.toList++(g2.toList++pP E b gb gt gy)) ww 29 3 (vs.getD 3 undef) g2 ((m.blocks++[(⟨aP,regs,m.code⟩:Bk)]).map Bk.enc)∧ak gb.toList w ww∧(g2=gb∨∃x,g2=some x∧w.heap.size<=x)] de rfl qw (by exact⟨λG v w G' w' ⟨bb,e,h1,h⟩ k=>⟨bb,e,h1,h.go k⟩,trivial⟩) (by exact⟨λG vs w w' ⟨h1,h2⟩ k=>⟨h1,h2.ext k⟩,λG vs w w' ⟨h1,h2,h3⟩ k=>⟨h1,h2.ext k,h3.ext k⟩,λG vs w w' ⟨h1,h2,h3,h4⟩ k=>⟨h1,h2.ext k,h3.ext k,h4⟩,λG vs w w' ⟨h1,h2,h3,bb,h4,h5⟩ k=>⟨h1,h2.ext k,h3.ext k,bb,h4,h5.ext k⟩,λG vs w w' ⟨g2,h1,h2,h3⟩ k=>⟨g2,h1.ext k,h2.ext k,h3⟩,trivial⟩) (⟨λx hx=>hx,ak.refl _ _⟩)
 refine cR ?_
 refine cR ?_
 refine vf (λ_ _ _ _ _ _=>di rfl fv) ?_
 refine vf (λ_ _ _ _ _ _=>zf KE rfl fv) ?_
 refine vf (λx w1 G1 aW qC qH=>?_) ?_
 have bj:=bj.go qC
 refine zl P4 rfl (bj.at rfl) ?_
 exact fv
 refine cR ?_
 refine vf (λx w1 G1 aW qC qH=>?_) ?_
 refine gM bh bB ?_
 intro w2 aq ND eK
 exact ff aq (⟨_,rfl,(by have h1:=qC.aO.size;omega),ND.o qH⟩)
 refine cR ?_
 refine ve 0 (λx w1 G1 aW qC qH hJ hlen=>?_) ?_
 have bo:=jO hlen
 subst bo
 have oO:=oO.go qC
 intro v6 d6
 obtain⟨bb,e6,Ca,gx⟩:=d6
 subst e6
 obtain⟨kv,gN⟩:=hJ
 refine FX (N:=w.heap.size) bh bB rfl rfl rfl rfl rfl rfl gx Ca oO ‹_› om ?_
 intro v9 w2 G9 kV vi df fi p3
 exact fe G9 df fi (⟨λx hx=>kV _ (kv x hx),p3.since gN,let⟨g',kn,_,hs⟩:=vi;kn.rep (λx hx fF=>wu x (hs x (by simp[hx])).2 fF)⟩)
 refine cR ?_
 refine vf (λ_ _ _ _ _ _=>di rfl fv) ?_
 refine vf (λ_ _ _ _ _ _=>zf C9 rfl fv) ?_
 refine vf (λx w1 G1 aW qC qH=>?_) ?_
 have bj:=bj.go qC
 refine zl eO rfl (bj.at rfl) ?_
 exact fv
 refine ve 1 (λx w1 G1 aW qC qH hJ hlen=>?_) ?_
 obtain⟨q0,bo⟩:=jP hlen
 subst bo
 obtain⟨kv,gN,p8⟩:=hJ
 obtain⟨a7,n7,c7,e7,_⟩:=eI p8
 have e8:q0=_:=e7
 subst e8
 refine j6 (Kz _ _ _ _ _ _ _ _) rfl rfl ?_
 exact fe G1 (Fr.refl _ _) qH (⟨kv,gN,p8,rfl⟩)
 refine ve 2 (λx w1 G1 aW qC qH hJ hlen=>?_) ?_
 obtain⟨q0,q1,bo⟩:=lH hlen
 subst bo
 obtain⟨kv,gN,p8,lD⟩:=hJ
 obtain⟨a7,n7,c7,e7,_⟩:=eI p8
 have e8:q0=_:=e7
 subst e8
 have Gy:q1=Value.agg #[str aP,.slice a7 n7 c7,.slice ac nc cc]:=lD
 subst Gy
 refine sB [.tmp 19] [[str aP,.slice a7 n7 c7,.slice ac nc cc]] gO fH rfl rfl rfl rfl rfl rfl rfl rfl rfl ?_
 intro w2 aq sY Un
 exact fe G1 (Fr.of aq sm) ((λx hx=>lL (qH x hx) (ak.size aq))) (⟨kv,gN.trans aq,p8.ext aq,_,rfl,sY⟩)
 refine ve 3 (λx w1 G1 aW qC qH hJ hlen=>?_) ?_
 obtain⟨q0,q1,q2,bo⟩:=Ao hlen
 subst bo
 obtain⟨kv,gN,p8,bb,uO,gx⟩:=hJ
 have iE:q2=_:=uO
 subst iE
 have iO:=(hS.bl.any gN).sub (L':=gb.toList++pP E b gb gt gy) (λx hx=>.inl (by rcases mA.1 hx with h|h;(·exact hS.mem.2 (by simp[h]));(·exact hS.R8 x h)))
 have UG:∀x,x∈gb.toList++pP E b gb gt gy->x∈pP E b gb gt gy:=(λx hx=>by rcases mA.1 hx with h|h;(·exact x4.2 (by simp[h]));(·exact h))
 refine BP (L:=pP E b gb gt gy) (row:=Bk.enc ⟨aP,regs,m.code⟩) gO fH rfl rfl rfl rfl rfl rfl iO rfl gx.all (by obtain⟨a7,n7,c7,e7,_⟩:=eI p8;have e8:q0=_:=e7;subst e8;simp[Value.oneCell']) ⟨.val _,bI.fresh p8 (λx hx=>.inl (UG x hx)),bI.fresh (UE.ext gN) (λx hx=>.inl (UG x hx)),trivial⟩ (by simpa using(show m.blocks.length<100000000 from om)) ?_
 intro v9 g9 w2 dK tY fN
 exact fe G1 (Fr.of tY.aO (λx hx=>kv x (by rw[Gx];simp[hx]))) ((λx hx=>lL (qH x hx) tY.aO.size)) (⟨g9,by simpa using dK,gN.any.trans tY.aO,fN.imp id (λh=>⟨_,h,gN.size⟩)⟩)
 refine vf (λ_ _ _ _ _ _=>di rfl fv) ?_
 refine vf (λ_ _ _ _ _ _=>zf KE rfl fv) ?_
 exact trivial
 intro x Lu G40 aW UA afX hJ hlen
 obtain⟨q0,q1,q2,q3,bo⟩:=Md hlen
 subst bo
 intro v6 d6
 have bj:=bj.go UA
 change OW _ _ _ _ _ (aM (aN _ x _) (zZ 6 [_,_,_,_,_,_,_,_,_,_,_,_,_,_,_,_,_,_])) _
 obtain⟨g2,dK,fg,iz⟩:=hJ
 obtain⟨L2,gk,jU⟩:=hS.acy dK fg iz
 obtain⟨a3,c3,e3⟩:=dK.len
 have e4:q3=_:=e3
 subst e4
 have bj:=bj.ju
 refine gX (o:=0) Z9 rfl rfl rfl bj rfl ?_
 intro pT iB bj dP
 have gk:=gk.aO iB sm
 have hR:=((eQ.refl E L w).add jU fg (λx hx=>(vA x hx).1)).aL iB (gk.mem.2 (.inr (.inl rfl))) nH
 refine ag ?_
 exact⟨_,rfl,L2,⟨_,_,_,_,_,_,_,_,bj,gk⟩,hR⟩
end Go.Proofs.YtigijcjccmdmhaaGreatDoor
